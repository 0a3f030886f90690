/- Part 12 of the texts of this claim, one behind the other. -/
import Derived.Test.YthbhpfefdnffaaaGreatDoorB11
import Derived.Test.YthbhpfefdnffaaaGreatDoorRows
set_option linter.unusedVariables false
set_option linter.unusedSimpArgs false
set_option maxRecDepth 100000
namespace Go.Proofs.YthbhpfefdnffaaaGreatDoor
open Go.Px
def pSt (P : Pt) (n i : Nat) (Q : Pt) : Pt := if n / 2 ^ i % 2 = 1 then A6f d2N (A6f d2N Q Q) P else A6f d2N Q Q
def itr (f : Nat → Pt → Pt) (z : Pt) : Nat → Pt
  | 0 => z
  | k + 1 => f k (itr f z k)
theorem B3o (f : Nat → Pt → Pt) (z : Pt) (k : Nat) : itr f z (k + 1) = f k (itr f z k) := rfl
def pTk (P : Pt) (n : Nat) (k : Nat) : Pt := itr (fun k Q => pSt P n (255 - k) Q) pO k
theorem B3p (P : Pt) (n : Nat) : pTk P n 0 = pO := rfl
theorem A79 (P : Pt) (n k : Nat) : pTk P n (k + 1) = pSt P n (255 - k) (pTk P n k) := B3o _ _ _
def V1 (P : Pt) (n : Nat) : Pt := pTk P n 256
theorem A67 {P Q : Pt} {n i : Nat} (h : n / 2 ^ i % 2 = 1) : pSt P n i Q = A6f d2N (A6f d2N Q Q) P := if_pos h
theorem A68 {P Q : Pt} {n i : Nat} (h : ¬ n / 2 ^ i % 2 = 1) : pSt P n i Q = A6f d2N Q Q := if_neg h
theorem tk1 {i : Nat} (h : i < 256) : 256 - i = (256 - (i + 1)) + 1 := by omega
theorem tk2 {i : Nat} (h : i < 256) : 255 - (256 - (i + 1)) = i := by omega
theorem tk3 {P : Pt} {n i : Nat} (h : i < 256) : pTk P n (256 - i) = pTk P n ((256 - (i + 1)) + 1) := congrArg (pTk P n) (tk1 h)
theorem tk4 {P : Pt} {n i : Nat} : pTk P n ((256 - (i + 1)) + 1) = pSt P n (255 - (256 - (i + 1))) (pTk P n (256 - (i + 1))) := A79 P n _
theorem tk5 {P : Pt} {n i : Nat} (h : i < 256) : pSt P n (255 - (256 - (i + 1))) (pTk P n (256 - (i + 1))) = pSt P n i (pTk P n (256 - (i + 1))) := congrArg (fun j => pSt P n j (pTk P n (256 - (i + 1)))) (tk2 h)
theorem A8a {P : Pt} {n i : Nat} (h : i < 256) : pTk P n (256 - i) = pSt P n i (pTk P n (256 - (i + 1))) := (tk3 h).trans (tk4.trans (tk5 h))
noncomputable def pB (P : Pt) : List Nat :=
  if fM P.X (fI P.Z) % 2 = 1 then (W8 8 32 (fM P.Y (fI P.Z)) 255).set 31 ((W8 8 32 (fM P.Y (fI P.Z)) 255).getD 31 0 ||| 128) else W8 8 32 (fM P.Y (fI P.Z)) 255
theorem B4U (P : Pt) : (pB P).length = 32 := by unfold pB; split <;> simp [L0]
theorem C0f {x : Nat} (h : x < 256) : (x ||| 128) < 256 := Nat.or_lt_two_pow (n := 8) h (by decide)
theorem B3q (P : Pt) : ∀ x ∈ pB P, x < 256 := by
  intro x hx
  unfold pB at hx
  split at hx
  · rcases List.mem_or_eq_of_mem_set hx with h | rfl
    · exact A0o _ _ x h
    · exact C0f (getD_lt (A0o _ _) (by decide))
  · exact A0o _ _ x hx
theorem A6h {k : IntKind} {a b : List Nat} (h : nums k a = nums k b) : a = b := by
  unfold nums at h
  induction a generalizing b with
  | nil => cases b with
    | nil => rfl
    | cons y b => simp at h
  | cons x a ih => cases b with
    | nil => simp at h
    | cons y b =>
      simp only [List.map_cons, List.cons.injEq, Value.int.injEq, true_and] at h
      rw [ih h.2, Int.ofNat.inj h.1]
theorem A87 {a b : List Nat} (h : Value.agg (nums .u64 a).toArray = .agg (nums .u64 b).toArray) : b = a := by
  have h1 : nums .u64 a = nums .u64 b := by simpa using h
  exact (A6h h1).symm
theorem A47 (V : Value) (P : Pt) (es : List Nat) (hP : FeP V P) (hes : es.length = 32) (he256 : ∀ y ∈ es, y < 256) (A : Mem) : FnX Tryz.prog 140 [V, .agg (nums .u8 es).toArray] [] A fun r M J => M = [] ∧ J = [] ∧ FeP r (V1 P (bv es)) := by
 have hP0 := hP
 obtain ⟨xsp, rfl, p0, p1, p2, p3, p4, p5, p6, p7, p8, p9, p10, p11, p12, p13, p14, p15, p16, p17, p18, p19, rfl, hpX, hpY, hpZ, hpT⟩ := hP
 dsimp only [nums, List.map]
 refine FnX.enter (N := 34) Tryz.func140 rfl rfl rfl fun w => ?_
 refine C4 (D4 0 1) (A3 ?_)
 refine A6 rfl (bx_ fun b2 => ?_)
 refine A6 rfl (bx_ fun b3 => ?_)
 refine A6 rfl (C5 (cs := [A7, A7, A7, A7, A7, A7, A7, A7, A7, A7, A7, A7, A7, A7, A7, A7, A7, A7, A7, A7]) kR rfl fun b4 => ?_)
 refine A0 (E1 2 3 4) (A3 ?_)
 refine D0 a0 kR (B3m _) rfl ?_
 rintro r1 M1 J1 ⟨rfl, rfl, hO⟩
 have hO0 := hO
 obtain ⟨xso, rfl, o0, o1, o2, o3, o4, o5, o6, o7, o8, o9, o10, o11, o12, o13, o14, o15, o16, o17, o18, o19, rfl, hoX, hoY, hoZ, hoT⟩ := hO
 dsimp only [nums, List.map]
 refine D0 (aS rfl a0) kR (A0w 2 (by decide) _) rfl ?_
 rintro rw2 Mw2 Jw2 ⟨rfl, rfl, kw2⟩
 have hw2 := kw2
 obtain ⟨aw2, bw2, cw2, dw2, ew2, rfl, -⟩ := kw2
 refine D0 a0 kR (A65 _) rfl ?_
 rintro rw3 Mw3 Jw3 ⟨rfl, rfl, kw3⟩
 have hw3 := kw3
 obtain ⟨aw3, bw3, cw3, dw3, ew3, rfl, -⟩ := kw3
 refine D0 (aS rfl (aS rfl a0)) kR (R7 hw2 hw3 _) rfl ?_
 rintro rd Md Jd ⟨rfl, rfl, kd⟩
 rw [B6u] at kd
 have hd := kd
 obtain ⟨ad, bd, cd, dd, ed, rfl, -⟩ := kd
 refine A6 rfl (C5 (cs := [A7, A7, A7, A7, A7, A7, A7, A7, A7, A7, A7, A7, A7, A7, A7, A7, A7, A7, A7, A7]) kR rfl fun b5 => ?_)
 refine A6 rfl (C5 (cs := [A7, A7, A7, A7, A7]) kR rfl fun b6 => ?_)
 refine A6 rfl (A8 rfl rfl Cel.cel kR A2F A2G UpC.upd ?_)
 refine A6 rfl (A8 rfl rfl Cel.cel kR ln5 al5 UpC.upd ?_)
 refine A0 (F9 2 3 4 5 6) (A5 (A3 (as_ (A0 (I4 2 3 4 5 6 7) (C0 ?_)))))
 refine A0r (M' := [(b6, blk [.int .u64 (ad : Int), .int .u64 (bd : Int), .int .u64 (cd : Int), .int .u64 (dd : Int), .int .u64 (ed : Int)] 205), (b5, blk (nums .u64 [o0, o1, o2, o3, o4, o5, o6, o7, o8, o9, o10, o11, o12, o13, o14, o15, o16, o17, o18, o19]) 218), (b4, blk [.int .u64 0, .int .u64 0, .int .u64 0, .int .u64 0, .int .u64 0, .int .u64 0, .int .u64 0, .int .u64 0, .int .u64 0, .int .u64 0, .int .u64 0, .int .u64 0, .int .u64 0, .int .u64 0, .int .u64 0, .int .u64 0, .int .u64 0, .int .u64 0, .int .u64 0, .int .u64 0] 218), (b3, blk (nums .u8 es) 202), (b2, blk [.int .u64 (p0 : Int), .int .u64 (p1 : Int), .int .u64 (p2 : Int), .int .u64 (p3 : Int), .int .u64 (p4 : Int), .int .u64 (p5 : Int), .int .u64 (p6 : Int), .int .u64 (p7 : Int), .int .u64 (p8 : Int), .int .u64 (p9 : Int), .int .u64 (p10 : Int), .int .u64 (p11 : Int), .int .u64 (p12 : Int), .int .u64 (p13 : Int), .int .u64 (p14 : Int), .int .u64 (p15 : Int), .int .u64 (p16 : Int), .int .u64 (p17 : Int), .int .u64 (p18 : Int), .int .u64 (p19 : Int)] 218)]) (Fit.eq rfl) (fun _ h => h) ?_
 refine F7 (α := Nat × List Nat) (fun y => [(2, .pointer (some ⟨b2, 0, none⟩)), (3, .pointer (some ⟨b3, 0, none⟩)), (4, .pointer (some ⟨b4, 0, none⟩)), (5, .pointer (some ⟨b5, 0, none⟩)), (6, .pointer (some ⟨b6, 0, none⟩)), (7, .int .i64 ((y.1 : Int) - 1))]) (fun y => [(b6, blk [.int .u64 (ad : Int), .int .u64 (bd : Int), .int .u64 (cd : Int), .int .u64 (dd : Int), .int .u64 (ed : Int)] 205), (b5, blk (nums .u64 y.2) 218), (b4, blk [.int .u64 0, .int .u64 0, .int .u64 0, .int .u64 0, .int .u64 0, .int .u64 0, .int .u64 0, .int .u64 0, .int .u64 0, .int .u64 0, .int .u64 0, .int .u64 0, .int .u64 0, .int .u64 0, .int .u64 0, .int .u64 0, .int .u64 0, .int .u64 0, .int .u64 0, .int .u64 0] 218), (b3, blk (nums .u8 es) 202), (b2, blk [.int .u64 (p0 : Int), .int .u64 (p1 : Int), .int .u64 (p2 : Int), .int .u64 (p3 : Int), .int .u64 (p4 : Int), .int .u64 (p5 : Int), .int .u64 (p6 : Int), .int .u64 (p7 : Int), .int .u64 (p8 : Int), .int .u64 (p9 : Int), .int .u64 (p10 : Int), .int .u64 (p11 : Int), .int .u64 (p12 : Int), .int .u64 (p13 : Int), .int .u64 (p14 : Int), .int .u64 (p15 : Int), .int .u64 (p16 : Int), .int .u64 (p17 : Int), .int .u64 (p18 : Int), .int .u64 (p19 : Int)] 218)]) (fun _ => []) (fun y => y.1 ≤ 256 ∧ FeP (.agg (nums .u64 y.2).toArray) (pTk P (bv es) (256 - y.1))) (fun y => y.1) (256, [o0, o1, o2, o3, o4, o5, o6, o7, o8, o9, o10, o11, o12, o13, o14, o15, o16, o17, o18, o19]) ⟨Nat.le_refl _, by show FeP _ (pTk P (bv es) (256 - 256)); rw [Nat.sub_self, B3p]; exact hO0⟩ (I4 2 3 4 5 6 7) .rfl (fun _ h => h) ?_
 clear hO0 hoX hoY hoZ hoT
 rintro ⟨j, zs⟩ ⟨hj, ho⟩
 dsimp only at hj ho ⊢
 have ho0 := ho
 obtain ⟨zs_, e_, z0, z1, z2, z3, z4, z5, z6, z7, z8, z9, z10, z11, z12, z13, z14, z15, z16, z17, z18, z19, rfl, hzX, hzY, hzZ, hzT⟩ := ho
 obtain rfl := A87 e_
 refine A5 (A3 (mv_ ?_))
 refine A4 (F5 rfl rfl rfl) rfl ?_
 refine A0 (X9 2 3 4 5 6 7 13) ?_
 refine C7 rfl (fun hc => ?_) (fun hc => ?_)
 ·
  have hj0 : 0 < j := by simp at hc; omega
  obtain ⟨i, rfl⟩ : ∃ i, j = i + 1 := ⟨j - 1, by omega⟩
  rw [show (((i + 1 : Nat) : Int) - 1) = (i : Int) by omega]
  have hts := A8a (P := P) (n := bv es) (show i < 256 by omega)
  have hbit := A58 he256 i
  have hpb : es.getD (i / 8) 0 < 256 := getD_lt he256 (by decide)
  refine A9 (nx (I4 2 3 4 5 6 7) (A5 (C0 (A3 ?_))))
  refine A4 (qw_ 20) rfl ?_
  refine A4 (qw_ 20) rfl ?_
  refine A4 (qw_ 5) rfl ?_
  refine D0 (aS rfl (aS rfl (aS rfl a0))) kR (B0N _ _ _ _ _ d2N ho0 ho0 hd _) rfl ?_
  rintro r5 M5 J5 ⟨rfl, rfl, k5⟩
  have h5 := k5
  obtain ⟨xss, rfl, s0, s1, s2, s3, s4, s5, s6, s7, s8, s9, s10, s11, s12, s13, s14, s15, s16, s17, s18, s19, rfl, hsX, hsY, hsZ, hsT⟩ := k5
  dsimp only [nums, List.map]
  refine A6 rfl (A8 rfl rfl Cel.cel kR A2F A2G UpC.upd ?_)
  refine A0 (I4 2 3 4 5 6 7) (A3 (mv_ ?_))
  refine A4 (A0H 8 rfl rfl rfl (by decide) (A13 (by omega))) rfl ?_
  refine A4 (E8 (e := 5) (n := 32) (sz := 1) (i := i / 8) rfl rfl kR kR rfl (by omega)) rfl ?_
  refine A4 (Q0 (i / 8) rfl kR At.mem (by omega) (by omega)) rfl ?_
  refine mv_ ?_
  refine A4 (A0I 8 rfl rfl rfl (by decide)) rfl ?_
  refine A4 (A2p (a := es.getD (i / 8) 0) (b := i % 8) rfl rfl rfl rfl (by show _ ≤ 8; omega)) rfl ?_
  refine A4 (hbit ▸ N1 1 2 rfl rfl rfl rfl rfl (by show _ < 256; exact Nat.lt_of_le_of_lt (Nat.div_le_self _ _) hpb) (by decide)) rfl ?_
  refine A4 (F5 rfl rfl rfl) rfl ?_
  refine A0 (X9 2 3 4 5 6 7 28) ?_
  refine C7 rfl (fun hc => ?_) (fun hc => ?_)
  ·
   have hb1 : bv es / 2 ^ i % 2 = 1 := by revert hc; generalize bv es / 2 ^ i % 2 = z; intro hc; simp at hc; omega
   rw [A67 hb1] at hts
   refine C2 ?_
   refine A4 (qw_ 20) rfl ?_
   refine A4 (qw_ 20) rfl ?_
   refine A4 (qw_ 5) rfl ?_
   refine D0 (aS rfl (aS rfl (aS rfl a0))) kR (B0N _ _ _ _ _ d2N h5 hP0 hd _) rfl ?_
   rintro r7 M7 J7 ⟨rfl, rfl, k7⟩
   rw [← hts] at k7
   have h7 := k7
   obtain ⟨xst, rfl, t0, t1, t2, t3, t4, t5, t6, t7, t8, t9, t10, t11, t12, t13, t14, t15, t16, t17, t18, t19, rfl, htX, htY, htZ, htT⟩ := k7
   dsimp only [nums, List.map]
   refine A6 rfl (A8 rfl rfl Cel.cel kR A2F A2G UpC.upd ?_)
   refine D1 (nb (nx (I4 2 3 4 5 6 7) (C2 (mv_ ?_))))
   refine A4 (E5 ((i : Int) - 1) rfl rfl (X6 rfl (by omega) (by omega))) rfl ?_
   refine as_ (D1 ?_)
   exact rn (i, [t0, t1, t2, t3, t4, t5, t6, t7, t8, t9, t10, t11, t12, t13, t14, t15, t16, t17, t18, t19]) ⟨by dsimp only; omega, h7⟩ (by dsimp only; omega) (I4 2 3 4 5 6 7) (Fit.eq rfl) (fun _ h => h)
  ·
   have hb1 : ¬ bv es / 2 ^ i % 2 = 1 := by revert hc; generalize bv es / 2 ^ i % 2 = z; intro hc; simp at hc; omega
   rw [A68 hb1] at hts
   refine A9 (nb (nx (I4 2 3 4 5 6 7) (C2 (mv_ ?_))))
   refine A4 (E5 ((i : Int) - 1) rfl rfl (X6 rfl (by omega) (by omega))) rfl ?_
   refine as_ (D1 ?_)
   exact rn (i, [s0, s1, s2, s3, s4, s5, s6, s7, s8, s9, s10, s11, s12, s13, s14, s15, s16, s17, s18, s19]) ⟨by dsimp only; omega, by dsimp only; rw [hts]; exact h5⟩ (by dsimp only; omega) (I4 2 3 4 5 6 7) (Fit.eq rfl) (fun _ h => h)
 ·
  have hj0 : j = 0 := by simp at hc; omega
  subst hj0
  refine F1 (te (re (be rfl (nx (D4 4 5) (A3 ?_)))))
  refine A4 (qw_ 20) rfl ?_
  refine A6 rfl (A8 rfl rfl Cel.cel kR A2F A2G UpC.upd ?_)
  refine A0 (D8 4) (C1 ?_)
  exact ⟨_, [], [], A1g rfl rfl kR At.mem (by rfl), List.nil_sublist _, by simp, rfl, rfl, ho0⟩
theorem A48 (V : Value) (P : Pt) (hP : FeP V P) (A : Mem) : FnX Tryz.prog 139 [V] [] A fun r M J => J = [] ∧ Sl 1 r 32 (nums .u8 (pB P)) M := by
 obtain ⟨xsp, rfl, p0, p1, p2, p3, p4, p5, p6, p7, p8, p9, p10, p11, p12, p13, p14, p15, p16, p17, p18, p19, rfl, hpX, hpY, hpZ, hpT⟩ := hP
 dsimp only [nums, List.map]
 refine FnX.enter (N := 24) Tryz.func139 rfl rfl rfl fun w => ?_
 refine C4 (D8 0) (A3 ?_)
 refine A6 rfl (bx_ fun b1 => ?_)
 refine as_ (A0 (D8 1) (A3 ?_))
 refine A4 (qf_ 10 10) rfl ?_
 refine A4 (H2 (n := 5) rfl kR (by first | exact At.mem | exact mA (by assumption)) TakeC.take) rfl ?_
 refine D0 (aS rfl a0) kR (B0M hpZ _) rfl ?_
 rintro r3 M3 J3 ⟨rfl, rfl, k3⟩
 have h3 := k3
 obtain ⟨a3, b3, c3, d3, e3, rfl, -⟩ := k3
 refine A6 rfl (C5 (cs := [A7, A7, A7, A7, A7]) kR rfl fun b3 => ?_)
 refine A6 rfl (A8 rfl rfl Cel.cel kR ln5 al5 UpC.upd ?_)
 refine A0 (D4 1 3) (A3 ?_)
 refine A4 (qf_ 5 5) rfl ?_
 refine A4 (H2 (n := 5) rfl kR (by first | exact At.mem | exact mA (by assumption)) TakeC.take) rfl ?_
 refine A4 (qw_ 5) rfl ?_
 refine D0 (aS rfl (aS rfl a0)) kR (R7 hpY h3 _) rfl ?_
 rintro r4 M4 J4 ⟨rfl, rfl, k4⟩
 have h4 := k4
 obtain ⟨a4, b4, c4, d4, e4, rfl, -⟩ := k4
 refine D0 (aS rfl a0) kR (W9 _ _ h4 _) rfl ?_
 rintro v12 M12 J12 ⟨rfl, hs12⟩
 haveI := hs12.cel
 have hpl := L0 8 32 (fM P.Y (fI P.Z)) 255
 have hpt := A0o (fM P.Y (fI P.Z)) 255
 refine as_ (A0 (E1 1 3 4) (A5 (A3 ?_)))
 refine A4 (qf_ 0 0) rfl ?_
 refine A4 (H2 (n := 5) rfl kR (by first | exact At.mem | exact mA (by assumption)) TakeC.take) rfl ?_
 refine A4 (qw_ 5) rfl ?_
 refine D0 (aS rfl (aS rfl a0)) kR (R7 hpX h3 _) rfl ?_
 rintro r5 M5 J5 ⟨rfl, rfl, k5⟩
 have h5 := k5
 obtain ⟨a5, b5, c5, d5, e5, rfl, -⟩ := k5
 refine G1 (aS rfl a0) kR (A3t _ _ h5 _) rfl ?_
 refine A0 (D4 4 17) ?_
 refine C7 rfl (fun hc => ?_) (fun hc => ?_)
 ·
  have ho : fM P.X (fI P.Z) % 2 = 1 := by simpa using hc
  refine C2 (mv_ ?_)
  refine A4 (K6 (sz := 1) (a := 31) rfl rfl kR rfl (hs12.rd (R := M12) fun _ h => h) (by decide)) rfl ?_
  refine A4 (A05 (j := 31) (u := .int .u8 (((W8 8 32 (fM P.Y (fI P.Z)) 255).getD 31 0 : Nat) : Int)) (hs12.rd SubC.sub) rfl kR (Y0 (by rw [hpl]; decide))) rfl ?_
  refine A4 (B4s (b := 128) rfl rfl rfl (by show _ < 256; exact getD_lt hpt (by decide)) (by decide)) rfl ?_
  refine A4 (K6 (sz := 1) (a := 31) rfl rfl kR rfl (hs12.rd (R := M12) fun _ h => h) (by decide)) rfl ?_
  refine A6 rfl (C0e hs12 rfl rfl rfl kR (by decide) PickC.perm fun B9 hs9 => ?_)
  refine A0 (D8 4) (A3 (mv_ (as_ (A0 (D8 2) (C1 ?_)))))
  exact ⟨_, B9, [], I2 rfl rfl, List.sublist_append_left _ _, by simp, rfl, by unfold pB; rw [if_pos ho]; show Sl 1 v12 32 (nums .u8 _) B9; rw [A4A]; exact hs9⟩
 ·
  have ho : ¬ fM P.X (fI P.Z) % 2 = 1 := by simpa using hc
  refine A9 (nx (D8 4) (A3 (mv_ (as_ (A0 (D8 2) (C1 ?_))))))
  exact ⟨_, M12, [], I2 rfl rfl, List.sublist_append_left _ _, by simp, rfl, by unfold pB; rw [if_neg ho]; exact hs12⟩

end Go.Proofs.YthbhpfefdnffaaaGreatDoor
namespace Go.Px
open Go Go.ChangeShapes Go.WideShapes Go.RowKit
section results
variable {P : Program} {fn : Func} {l : Env} {R : Mem}
theorem C0g {t0 t1 t2 t3 b0 b1 b2 b3 n : Nat} {ty : TypeId} {c0 c1 c2 c3 : List Value} {e0 e1 e2 e3 : TypeId} {f0 f1 f2 f3 : Nat × Nat} (h : fn.results = #[.cell t0 ty, .cell t1 ty, .cell t2 ty, .cell t3 ty])
    (h0 : lk l t0 = some (.pointer (some ⟨b0, 0, none⟩))) (h1 : lk l t1 = some (.pointer (some ⟨b1, 0, none⟩))) (h2 : lk l t2 = some (.pointer (some ⟨b2, 0, none⟩))) (h3 : lk l t3 = some (.pointer (some ⟨b3, 0, none⟩))) (ht : A8G P ty = some n)
    (m0 : (b0, Obj.cells c0.toArray e0 f0) ∈ R) (m1 : (b1, Obj.cells c1.toArray e1 f1) ∈ R) (m2 : (b2, Obj.cells c2.toArray e2 f2) ∈ R) (m3 : (b3, Obj.cells c3.toArray e3 f3) ∈ R) (n0 : c0.length = n) (n1 : c1.length = n) (n2 : c2.length = n) (n3 : c3.length = n) : Res P fn l R (.tuple #[.agg c0.toArray, .agg c1.toArray, .agg c2.toArray, .agg c3.toArray]) := fun N a w ha hw => by
  obtain ⟨dsc, g1, g2, g3⟩ := A0A ht
  have hk : ∀ (b : Nat) (cs : List Value) (e : TypeId) (fr : Nat × Nat), (b, Obj.cells cs.toArray e fr) ∈ R → cs.length = n → _ := fun b cs e fr hb hn => run_loadVar_row (P := P) w b e ty cs.toArray fr dsc (hw b _ hb) g1 (by cases dsc <;> simp_all [TypeDesc.isRow]) (by rw [g3, ← hn]; simp)
  have k0 := hk _ _ _ _ m0 n0
  have k1 := hk _ _ _ _ m1 n1
  have k2 := hk _ _ _ _ m2 n2
  have k3 := hk _ _ _ _ m3 n3
  simp [results, h, ha.slot t0 _ h0, ha.slot t1 _ h1, ha.slot t2 _ h2, ha.slot t3 _ h3, asAddr, k0, k1, k2, k3]
end results
end Go.Px

namespace Go.Px
theorem B4V (n : Nat) : xp n = 2 ^ (32 * n) := by rw [xp, Nat.pow_mul]
theorem B0T {ws : List Nat} (h : w32 ws) (i : Nat) : nv ws / xp i % 4294967296 = ws.getD i 0 := by
  induction ws generalizing i with
  | nil => simp [nv]
  | cons b r ih =>
    have h1 := h b (by simp)
    cases i with
    | zero => simp only [nv, xp0, Nat.div_one, List.getD_cons_zero]; omega
    | succ i =>
      rw [List.getD_cons_succ, ← ih (fun x hx => h x (by simp [hx])) i, xpS, Nat.mul_comm, ← Nat.div_div_eq_div_mul]
      congr 2
      simp only [nv]; omega
def A0x (x n : Nat) : List Nat := (List.range n).map fun i => x / 256 ^ i % 256
theorem N6 (x n : Nat) : (A0x x n).length = n := by simp [A0x]
theorem A49 (x n : Nat) : ∀ y ∈ A0x x n, y < 256 := fun y hy => by
  simp only [A0x, List.mem_map] at hy
  obtain ⟨i, _, rfl⟩ := hy
  exact Nat.mod_lt _ (by decide)
theorem B0U (x n : Nat) : A0x x (n + 1) = A0x x n ++ [x / 256 ^ n % 256] := by simp [A0x, List.range_succ]
theorem B0V (x n : Nat) : bv (A0x x n) = x % 256 ^ n := by
  have := A1M x n
  rw [show (256 : Nat) ^ n = 2 ^ (8 * n) by rw [Nat.pow_mul], ← this]
  congr 1
  unfold A0x
  apply List.map_congr_left
  intro j _
  rw [Nat.pow_mul]
theorem B0W {ws : List Nat} (h : w32 ws) (i : Nat) : ws.getD (i / 4) 0 / 2 ^ (8 * (i % 4)) % 256 = nv ws / 256 ^ i % 256 := by
  rw [← B0T h, show (256 : Nat) ^ i = 2 ^ (8 * i) by rw [Nat.pow_mul], B4V, show (4294967296 : Nat) = 2 ^ (8 * (i % 4)) * 2 ^ (32 - 8 * (i % 4)) by rw [← Nat.pow_add, show 8 * (i % 4) + (32 - 8 * (i % 4)) = 32 by omega], Nat.mod_mul_right_div_self,
    show (2 : Nat) ^ (32 - 8 * (i % 4)) = 256 * 2 ^ (24 - 8 * (i % 4)) by rw [show (256 : Nat) = 2 ^ 8 from rfl, ← Nat.pow_add]; congr 1; omega, Nat.mod_mul_right_mod, Nat.div_div_eq_div_mul, ← Nat.pow_add]
  congr 3; omega
theorem B3r {ws : List Nat} (h : w32 ws) (i : Nat) : ws.getD (i / 32) 0 / 2 ^ (i % 32) % 2 = nv ws / 2 ^ i % 2 := by
  rw [← B0T h, B4V, show (4294967296 : Nat) = 2 ^ (i % 32) * 2 ^ (32 - i % 32) by rw [← Nat.pow_add, show i % 32 + (32 - i % 32) = 32 by omega], Nat.mod_mul_right_div_self,
    show (2 : Nat) ^ (32 - i % 32) = 2 * 2 ^ (31 - i % 32) by rw [← Nat.pow_succ']; congr 1; omega, Nat.mod_mul_right_mod, Nat.div_div_eq_div_mul, ← Nat.pow_add]
  congr 3; omega
theorem B0X {ws : List Nat} {i : Nat} (h : ws.length ≤ i) : ws.getD i 0 = 0 := by simp [List.getD, List.getElem?_eq_none h]
theorem V8 (ws : List Nat) (j : Nat) : nv (ws.take (j + 1)) = nv (ws.take j) + xp j * ws.getD j 0 := by
  by_cases h : j < ws.length
  · exact A0E h
  · rw [B0X (by omega), List.take_of_length_le (by omega), List.take_of_length_le (by omega), Nat.mul_zero, Nat.add_zero]
theorem B0Y {o a b : List Nat} {i c x : Nat} (hl : o.length = i) (h : nv o + xp i * c = nv (a.take i) + nv (b.take i)) (hx : x = c + a.getD i 0 + b.getD i 0) :
    nv (o ++ [x % 4294967296]) + xp (i + 1) * (x / 4294967296) = nv (a.take (i + 1)) + nv (b.take (i + 1)) := by
  rw [A1E, hl, V8, V8, xpS]
  have e : xp i * (x % 4294967296) + xp i * 4294967296 * (x / 4294967296) = xp i * x := by
    rw [Nat.mul_assoc, ← Nat.mul_add, Nat.mod_add_div]
  have e2 : xp i * x = xp i * c + xp i * a.getD i 0 + xp i * b.getD i 0 := by rw [hx, Nat.mul_add, Nat.mul_add]
  simp only [nv, Nat.mul_zero, Nat.add_zero]
  omega
theorem A88 (ws : List Nat) (n : Nat) : nv (ws.take n) ≤ nv ws := by
  by_cases h : n ≤ ws.length
  · rw [A2D ws n h]; omega
  · rw [List.take_of_length_le (by omega)]; exact Nat.le_refl _
theorem B0Z {o a b : List Nat} {i c c' d : Nat} (hl : o.length = i) (h : nv o + nv (b.take i) = nv (a.take i) + xp i * c) (hd : d + b.getD i 0 + c = a.getD i 0 + 4294967296 * c') :
    nv (o ++ [d]) + nv (b.take (i + 1)) = nv (a.take (i + 1)) + xp (i + 1) * c' := by
  rw [A1E, hl, V8, V8, xpS]
  have e : xp i * d + xp i * b.getD i 0 + xp i * c = xp i * a.getD i 0 + xp i * 4294967296 * c' := by
    rw [← Nat.mul_add, ← Nat.mul_add, hd, Nat.mul_add, Nat.mul_assoc]
  simp only [nv, Nat.mul_zero, Nat.add_zero]
  omega
theorem B3s {o a b : List Nat} {c : Nat} (hl : o.length = a.length) (ho : w32 o) (ha : w32 a) (h : nv o + nv (b.take a.length) = nv (a.take a.length) + xp a.length * c) (hle : nv b ≤ nv a) : nv o = nv a - nv b := by
  have h1 := B2w ho
  have h2 := B2w ha
  have h3 := A88 b a.length
  rw [List.take_length] at h
  rw [hl] at h1
  have hc : c = 0 := by
    rcases Nat.eq_zero_or_pos c with h0 | h0
    · exact h0
    · have := Nat.le_mul_of_pos_right (xp a.length) h0
      omega
  subst hc
  have h4 : nv (b.take a.length) = nv b := by
    by_cases hb : a.length ≤ b.length
    · have h5 := A2D b a.length hb
      have h6 : nv (b.drop a.length) = 0 := by
        rcases Nat.eq_zero_or_pos (nv (b.drop a.length)) with h0 | h0
        · exact h0
        · have := Nat.le_mul_of_pos_right (xp a.length) h0
          omega
      rw [h6] at h5; omega
    · rw [List.take_of_length_le (by omega)]
  omega
def wrds (x n : Nat) : List Nat := (List.range n).map fun i => x / xp i % 4294967296
end Go.Px

namespace Go.Proofs.YthbhpfefdnffaaaGreatDoor
open Go.Px
def B4W : List Nat := [1559614445, 1477600026, 2734136534, 350157278, 0, 0, 0, 268435456]
def lN : Nat := 7237005577332262213973186563042994240857116359379907606001950938285454250989
theorem B00 : nv B4W = lN := by decide +kernel
theorem B8F : w32 B4W := by unfold w32 B4W; decide
def Sc (v : Value) (n : Nat) : Prop := ∃ ws, v = .agg (nums .u32 ws).toArray ∧ ws.length = 8 ∧ w32 ws ∧ nv ws = n
theorem xp8 : xp 8 = 115792089237316195423570985008687907853269984665640564039457584007913129639936 := by decide +kernel
theorem B8G {a b : List Nat} {i : Nat} (h1 : a.drop (i + 1) = b.drop (i + 1)) (hi : i < a.length) (hj : i < b.length) (h2 : a.getD i 0 = b.getD i 0) : a.drop i = b.drop i := by
  rw [List.getD_eq_getElem?_getD, List.getElem?_eq_getElem hi, List.getD_eq_getElem?_getD, List.getElem?_eq_getElem hj] at h2
  rw [List.drop_eq_getElem_cons hi, List.drop_eq_getElem_cons hj, h1]
  exact congrArg (· :: _) h2
theorem A8b {o a : List Nat} {i : Nat} (hl : o.length = i) : (o ++ a.drop i).getD i 0 = a.getD i 0 := by
  rw [List.getD_eq_getElem?_getD, List.getElem?_append_right (by omega), List.getElem?_drop, List.getD_eq_getElem?_getD]
  congr 2; omega
theorem A5a {o a : List Nat} {i x : Nat} (hl : o.length = i) (hi : i < a.length) : (o ++ a.drop i).set i x = (o ++ [x]) ++ a.drop (i + 1) := by
  rw [List.set_append_right _ _ (by omega), hl, Nat.sub_self, List.drop_eq_getElem_cons hi, List.set_cons_zero, List.append_assoc]; rfl
theorem A5b {o a : List Nat} {i n : Nat} (hl : o.length = i) (ha : a.length = n) (hi : i ≤ n) : (o ++ a.drop i).length = n := by
  rw [List.length_append, List.length_drop]; omega
theorem B6B {a b c : Nat} (ha : a < lN) (hb : b < lN) (h : c * xp 8 ≤ a + b) : c = 0 := by
  rcases Nat.eq_zero_or_pos c with h0 | h0
  · exact h0
  · have h1 := Nat.le_mul_of_pos_left (xp 8) h0
    rw [xp8] at h1 h
    unfold lN at ha hb
    omega
theorem A89 {x y c d e : Nat} (hx : x < 4294967296) (hy : y < 4294967296) (hc : c ≤ 1) (hd : d = (x + (18446744073709551616 - y)) % 18446744073709551616) (he : e = (d + (18446744073709551616 - c)) % 18446744073709551616) :
    e % 4294967296 + y + c = x + 4294967296 * (e / 9223372036854775808) ∧ e / 9223372036854775808 ≤ 1 := by
  by_cases h : y + c ≤ x
  · have e1 : e = x - y - c := by omega
    have e2 : e < 4294967296 := by omega
    rw [Nat.mod_eq_of_lt e2, Nat.div_eq_of_lt (by omega)]
    omega
  · have e1 : e = 18446744073709551616 - (y + c - x) := by omega
    omega
theorem B6C {k : IntKind} (x y : Nat) : I1 .lss k (x : Int) (y : Int) = some (.bool (decide (x < y))) := by
  by_cases h : x < y
  · rw [decide_eq_true h]; exact ltT (by omega)
  · rw [decide_eq_false h]; exact ltF (by omega)
theorem B6D {a b : List Nat} (ha : w32 a) (hb : w32 b) {i : Nat} (hi : i < a.length) (hl : a.length = b.length) (hd : a.drop (i + 1) = b.drop (i + 1)) (hne : a.getD i 0 ≠ b.getD i 0) : nv a < nv b ↔ a.getD i 0 < b.getD i 0 := by
  constructor
  · intro h
    rcases Nat.lt_or_gt_of_ne hne with h1 | h1
    · exact h1
    · have := A7I hb (by omega) hl.symm h1 hd.symm; omega
  · intro h; exact A7I ha hi hl h hd
theorem A5c {n : Nat} (h : n < 18446744073709551616) : IntKind.u64.wrap (n : Int) = (n : Int) := A4x (by omega) (by omega)
theorem B6E (A : Mem) : FnV Tryz.prog 179 [] A (.agg (nums .u32 B4W).toArray) := by
 refine FnX.enter (N := 2) Tryz.func179 rfl rfl rfl fun w => ?_
 refine C4 kn (A3 ?_)
 refine A6 rfl (C5 (cs := [G8, G8, G8, G8, G8, G8, G8, G8]) kR rfl fun b0 => ?_)
 refine A0 (D8 0) (A3 ?_)
 refine A4 (F6 (place := fun i => some (i * 1, 1)) (z := [G8, G8, G8, G8, G8, G8, G8, G8]) (fun _ => by kernel_rfl) (eS rfl (eS rfl (eS rfl (eS rfl (eS rfl (eS rfl (eS rfl (eS rfl e0)))))))) (bdS 0 1 rfl (by rfl) (bdS 1 1 rfl (by rfl) (bdS 2 1 rfl (by rfl) (bdS 3 1 rfl (by rfl) (bdS 4 1 rfl (by rfl) (bdS 5 1 rfl (by rfl) (bdS 6 1 rfl (by rfl) (bdS 7 1 rfl (by rfl) bd0))))))))) rfl ?_
 refine A6 rfl (A8 rfl rfl Cel.cel kR ln8 al8 UpC.upd ?_)
 refine A0 (D8 0) (C1 ?_)
 exact ⟨_, [], [], A1g rfl rfl kR At.mem (by rfl), List.nil_sublist _, by simp, rfl, rfl, rfl⟩
theorem B8H (v u : Value) (x y : Nat) (hv : Sc v x) (hu : Sc u y) (A : Mem) : FnV Tryz.prog 180 [v, u] A (.bool (decide (x < y))) := by
 obtain ⟨a, rfl, a8, a32, rfl⟩ := hv
 obtain ⟨b, rfl, b8, b32, rfl⟩ := hu
 refine FnX.enter (N := 24) Tryz.func180 rfl rfl rfl fun w => ?_
 refine C4 (D4 0 1) (A3 ?_)
 refine A6 rfl (bx_ fun b2 => ?_)
 refine A6 rfl (bx_ fun b3 => ?_)
 refine as_ (A0 (D4 2 3) (A5 (A3 (as_ (A0 (E1 2 3 5) (C0 ?_))))))
 refine F7 (α := Nat) (fun j => [(2, .pointer (some ⟨b2, 0, none⟩)), (3, .pointer (some ⟨b3, 0, none⟩)), (5, .int .i64 ((j : Int) - 1))]) (fun _ => [(b3, blk (nums .u32 b) 223), (b2, blk (nums .u32 a) 223)]) (fun _ => []) (fun j => j ≤ 8 ∧ a.drop j = b.drop j) (fun j => j) 8 ⟨Nat.le_refl _, by rw [List.drop_of_length_le (by omega), List.drop_of_length_le (by omega)]⟩ (E1 2 3 5) .rfl (fun _ h => h) ?_
 rintro j ⟨hj, hd⟩
 refine A5 (A3 (mv_ ?_))
 refine A4 (F5 rfl rfl rfl) rfl ?_
 refine A0 (E9 2 3 5 7) ?_
 refine C7 rfl (fun hc => ?_) (fun hc => ?_)
 ·
  have hj0 : 0 < j := by simp at hc; omega
  obtain ⟨i, rfl⟩ : ∃ i, j = i + 1 := ⟨j - 1, by omega⟩
  rw [show (((i + 1 : Nat) : Int) - 1) = (i : Int) by omega]
  refine A9 (nx (E1 2 3 5) (A5 (C0 ?_)))
  refine D3 (.range 7) (zp 0 [0, 0, 1, 0, 0, 1, 0]) kR kR fun hs => ?_
  refine fm_ hs ?_
  refine D2 hs rfl (E8 (e := 30) (n := 8) (sz := 1) (i := i) rfl rfl kR kR rfl (by omega)) rfl ?_
  refine F8 hs rfl (Q0 (i) rfl kR At.mem (by omega) (by first | omega | (rw [a8]; omega))) rfl ?_
  refine fm_ hs ?_
  refine D2 hs rfl (E8 (e := 30) (n := 8) (sz := 1) (i := i) rfl rfl kR kR rfl (by omega)) rfl ?_
  refine F8 hs rfl (Q0 (i) rfl kR At.mem (by omega) (by first | omega | (rw [b8]; omega))) rfl ?_
  refine D2 hs rfl (F5 rfl rfl rfl) rfl ?_
  refine E4 (E9 2 3 5 16) ?_
  refine C7 rfl (fun hc => ?_) (fun hc => ?_)
  ·
   have hne : a.getD i 0 ≠ b.getD i 0 := by simp at hc ⊢; omega
   refine D3 (.range 8) (zp 0 [0, 0, 1, 0, 0, 1, 0, 0]) kR kR fun hs => ?_
   refine fm_ hs ?_
   refine D2 hs rfl (E8 (e := 30) (n := 8) (sz := 1) (i := i) rfl rfl kR kR rfl (by omega)) rfl ?_
   refine F8 hs rfl (Q0 (i) rfl kR At.mem (by omega) (by first | omega | (rw [a8]; omega))) rfl ?_
   refine fm_ hs ?_
   refine D2 hs rfl (E8 (e := 30) (n := 8) (sz := 1) (i := i) rfl rfl kR kR rfl (by omega)) rfl ?_
   refine F8 hs rfl (Q0 (i) rfl kR At.mem (by omega) (by first | omega | (rw [b8]; omega))) rfl ?_
   refine D2 hs rfl (E7 (decide (a.getD i 0 < b.getD i 0)) rfl rfl (B6C _ _)) rfl ?_
   refine fa_ hs ?_
   refine E4 (D8 4) (C1 (br (tr (rr (br (tr ?_))))))
   exact ⟨_, [], [], I2 rfl rfl, List.nil_sublist _, by simp, by rw [show decide (nv a < nv b) = decide (a.getD i 0 < b.getD i 0) from decide_eq_decide.2 (B6D a32 b32 (by omega) (by omega) hd hne)], rfl, rfl⟩
  ·
   have hne : a.getD i 0 = b.getD i 0 := by simp at hc ⊢; omega
   refine A9 (nb (nx (E1 2 3 5) (C2 (mv_ ?_))))
   refine A4 (E5 ((i : Int) - 1) rfl rfl (X6 rfl (by omega) (by omega))) rfl ?_
   refine as_ (D1 ?_)
   exact rn i ⟨by omega, B8G hd (by omega) (by omega) hne⟩ (by omega) (E1 2 3 5) .rfl (fun _ h => h)
 ·
  have hj0 : j = 0 := by simp at hc; omega
  subst hj0
  rw [List.drop_zero, List.drop_zero] at hd
  refine F1 (te (re (be rfl (nx kn (A3 (as_ (A0 (D8 4) ?_)))))))
  refine C1 ?_
  exact ⟨_, [], [], I2 rfl rfl, List.nil_sublist _, by simp, by rw [hd, decide_eq_false (Nat.lt_irrefl _)], rfl, rfl⟩
theorem A6i (v u : Value) (x y : Nat) (hv : Sc v x) (hu : Sc u y) (hx : x < lN) (hy : y < lN) (A : Mem) : FnX Tryz.prog 155 [v, u] [] A fun r M J => M = [] ∧ J = [] ∧ Sc r ((x + y) % lN) := by
 obtain ⟨a, rfl, a8, a32, rfl⟩ := hv
 obtain ⟨b, rfl, b8, b32, rfl⟩ := hu
 refine FnX.enter (N := 58) Tryz.func155 rfl rfl rfl fun w => ?_
 refine C4 (D4 0 1) (A3 ?_)
 refine A6 rfl (bx_ fun b2 => ?_)
 refine A6 rfl (bx_ fun b3 => ?_)
 refine A6 rfl (C5 (cs := [G8, G8, G8, G8, G8, G8, G8, G8]) kR rfl fun b4 => ?_)
 refine A0 (E1 2 3 4) (A3 (as_ (A0 (E9 2 3 4 5) (A5 (A3 (mv_ (A0 (F9 2 3 4 5 10) ?_)))))))
 refine C0 ?_
 refine F7 (α := Nat × List Nat × Nat) (fun x => [(2, .pointer (some ⟨b2, 0, none⟩)), (3, .pointer (some ⟨b3, 0, none⟩)), (4, .pointer (some ⟨b4, 0, none⟩)), (5, .int .u64 (x.2.2 : Int)), (10, .int .i64 (x.1 : Int))]) (fun x => [(b4, blk [.int .u32 0, .int .u32 0, .int .u32 0, .int .u32 0, .int .u32 0, .int .u32 0, .int .u32 0, .int .u32 0] 223), (b3, blk (nums .u32 b) 223), (b2, blk (nums .u32 (x.2.1 ++ a.drop x.1)) 223)]) (fun _ => []) (fun x => x.1 ≤ 8 ∧ x.2.1.length = x.1 ∧ w32 x.2.1 ∧ x.2.2 ≤ 1 ∧ nv x.2.1 + xp x.1 * x.2.2 = nv (a.take x.1) + nv (b.take x.1)) (fun x => 8 - x.1) ⟨0, [], 0⟩ ⟨Nat.zero_le _, rfl, (fun x hx => by cases hx), by decide, rfl⟩ (F9 2 3 4 5 10) .rfl (fun _ h => h) ?_
 rintro ⟨i, o, c⟩ ⟨hi, hol, ho32, hc1, hnv⟩
 dsimp only at hi hol ho32 hc1 hnv ⊢
 refine A3 ?_
 refine A4 (F5 rfl rfl rfl) rfl ?_
 refine A0 (I4 2 3 4 5 10 11) (A5 ?_)
 refine C7 rfl (fun hc => ?_) (fun hc => ?_)
 ·
  have hlt : i < 8 := by simp at hc; omega
  have hpl := A5b (o := o) (a := a) hol a8 hi
  have hpg := A8b (a := a) hol
  have hps := fun x => A5a (x := x) hol (show i < a.length by omega)
  have hst := B0Y (x := c + (a.getD i 0 + b.getD i 0)) hol hnv (by omega)
  have ha0 := a32.get i
  have hb0 := b32.get i
  refine A9 (nx (F9 2 3 4 5 10) (A5 (C0 (A3 (mv_ (as_ (A0 (I4 2 3 4 5 6 10) ?_)))))))
  refine D3 (.range 12) (zp 0 [0, 0, 0, 1, 0, 0, 0, 1, 0, 0, 0, 0]) kR kR fun hs => ?_
  refine fm_ hs ?_
  refine fm_ hs ?_
  refine D2 hs rfl (E8 (e := 30) (n := 8) (sz := 1) (i := i) rfl rfl kR kR rfl (by omega)) rfl ?_
  refine F8 hs rfl (hpg ▸ Q0 i rfl kR At.mem (by omega) (by omega)) rfl ?_
  refine D2 hs rfl (P6 (k' := .u64) (a.getD i 0) rfl kR (A5c (by omega))) rfl ?_
  refine fm_ hs ?_
  refine D2 hs rfl (E8 (e := 30) (n := 8) (sz := 1) (i := i) rfl rfl kR kR rfl (by omega)) rfl ?_
  refine F8 hs rfl (Q0 (i) rfl kR At.mem (by omega) (by first | omega | (rw [b8]; omega))) rfl ?_
  refine D2 hs rfl (P6 (k' := .u64) (b.getD i 0) rfl kR (A5c (by omega))) rfl ?_
  refine D2 hs rfl (A7J 18446744073709551616 (a := a.getD i 0) (b := b.getD i 0) rfl rfl rfl rfl rfl rfl (by omega)) rfl ?_
  refine D2 hs rfl (A7J 18446744073709551616 (a := c) (b := a.getD i 0 + b.getD i 0) rfl rfl rfl rfl rfl rfl (by omega)) rfl ?_
  refine fa_ hs ?_
  refine E4 (I4 2 3 4 5 6 10) (A3 (mv_ (mv_ ?_)))
  refine A4 (A7F rfl kR) rfl ?_
  refine A4 (E8 (e := 30) (n := 8) (sz := 1) (i := i) rfl rfl kR kR rfl (by omega)) rfl ?_
  refine A6 rfl (R8 i rfl rfl kR (by omega) (by omega) UpC.upd ?_)
  refine A0 (F9 2 3 4 5 10) (C2 (mv_ ?_))
  refine A4 (N8 32 4294967296 rfl rfl rfl rfl (by decide)) rfl ?_
  refine as_ (D1 (nb (nx (F9 2 3 4 5 10) (C2 ?_))))
  refine A4 (E5 ((i + 1 : Nat) : Int) rfl rfl (G3 (by omega) (by omega) (by omega))) rfl ?_
  refine mv_ (D1 ?_)
  exact rn ⟨i + 1, o ++ [(c + (a.getD i 0 + b.getD i 0)) % 4294967296], (c + (a.getD i 0 + b.getD i 0)) / 4294967296⟩ ⟨by dsimp only; omega, by simp [hol], ho32.app (fun x hx => by rw [List.mem_singleton.1 hx]; exact Nat.mod_lt _ (by decide)), by dsimp only; omega, hst⟩ (by dsimp only; omega) (F9 2 3 4 5 10) (Fit.eq (by rw [hps])) (fun _ h => h)
 ·
  have hge : i = 8 := by simp at hc; omega
  subst hge
  rw [List.take_of_length_le (by omega), List.take_of_length_le (by omega)] at hnv
  have hc0 := B6B hx hy (c := c) (by rw [Nat.mul_comm]; omega)
  subst hc0
  rw [Nat.mul_zero, Nat.add_zero] at hnv
  rw [List.drop_of_length_le (by omega), List.append_nil]
  refine F1 (te (re (be rfl (nx (D4 2 4) (A3 ?_)))))
  refine G1 a0 kR (B6E _) rfl ?_
  refine A6 rfl (C5 (cs := [G8, G8, G8, G8, G8, G8, G8, G8]) kR rfl fun b7 => ?_)
  refine A6 rfl (A8 rfl rfl Cel.cel kR ln8 al8 UpC.upd ?_)
  refine A0 (E1 2 4 7) (A5 (A3 ?_))
  refine A4 (H8 (n := 8) (cs := nums .u32 o) rfl kR At.mem (by rw [nums_len]; omega)) rfl ?_
  refine A4 (H8 (n := 8) (cs := nums .u32 B4W) rfl kR At.mem (by rfl)) rfl ?_
  refine G1 (aS rfl (aS rfl a0)) kR (B8H _ _ (nv o) lN ⟨o, rfl, hol, ho32, rfl⟩ ⟨B4W, rfl, rfl, B8F, B00⟩ _) rfl ?_
  refine A0 (E9 2 4 7 34) ?_
  refine C7 rfl (fun hc => ?_) (fun hc => ?_)
  ·
   have hlt : nv o < lN := by simpa using hc
   refine A3 ?_
   refine A4 (H8 (n := 8) (cs := nums .u32 o) rfl kR At.mem (by rw [nums_len]; omega)) rfl ?_
   refine A6 rfl (A8 (vs := nums .u32 o) rfl rfl rfl (by rw [nums_len, hol]; kernel_rfl) (by rw [nums_len, hol]; rfl) F4 UpC.upd ?_)
   refine A0 (D8 4) (C1 (tr ?_))
   exact ⟨_, [], [], A1g (n := 8) rfl rfl kR At.mem (by rw [nums_len]; omega), List.nil_sublist _, by simp, rfl, rfl, o, rfl, hol, ho32, by rw [hnv, Nat.mod_eq_of_lt (by omega)]⟩
  ·
   have hge : lN ≤ nv o := by simpa using hc
   refine A9 (nx (E1 2 4 7) (A3 (as_ (A0 (E9 2 4 5 7) (A5 (A3 (mv_ ?_)))))))
   refine A0 (F9 2 4 5 7 36) (C0 ?_)
   refine F7 (α := Nat × List Nat × Nat) (fun x => [(2, .pointer (some ⟨b2, 0, none⟩)), (4, .pointer (some ⟨b4, 0, none⟩)), (5, .int .u64 (x.2.2 : Int)), (7, .pointer (some ⟨b7, 0, none⟩)), (36, .int .i64 (x.1 : Int))]) (fun x => (b7, blk (nums .u32 B4W) 223) :: [(b4, blk [.int .u32 0, .int .u32 0, .int .u32 0, .int .u32 0, .int .u32 0, .int .u32 0, .int .u32 0, .int .u32 0] 223), (b3, blk (nums .u32 b) 223), (b2, blk (nums .u32 (x.2.1 ++ o.drop x.1)) 223)]) (fun _ => []) (fun x => x.1 ≤ 8 ∧ x.2.1.length = x.1 ∧ w32 x.2.1 ∧ x.2.2 ≤ 1 ∧ nv x.2.1 + nv (B4W.take x.1) = nv (o.take x.1) + xp x.1 * x.2.2) (fun x => 8 - x.1) ⟨0, [], 0⟩ ⟨Nat.zero_le _, rfl, (fun x hx => by cases hx), by decide, rfl⟩ (F9 2 4 5 7 36) .rfl (fun _ h => h) ?_
   rintro ⟨i, q, c⟩ ⟨hi, hql, hq32, hc1, hnw⟩
   dsimp only at hi hql hq32 hc1 hnw ⊢
   refine A3 ?_
   refine A4 (F5 rfl rfl rfl) rfl ?_
   refine A0 (I4 2 4 5 7 36 37) (A5 ?_)
   refine C7 rfl (fun hc => ?_) (fun hc => ?_)
   ·
    have hlt : i < 8 := by simp at hc; omega
    have hpl := A5b (o := q) (a := o) hql hol hi
    have hpg := A8b (a := o) hql
    have hps := fun x => A5a (x := x) hql (show i < o.length by omega)
    have ha0 := ho32.get i
    have hb0 := B8F.get i
    have ho8 : B4W.length = 8 := rfl
    have hsb := A89 (c := c) ha0 hb0 hc1 rfl rfl
    generalize hdd : (o.getD i 0 + (18446744073709551616 - B4W.getD i 0)) % 18446744073709551616 = dd at *
    generalize hee : (dd + (18446744073709551616 - c)) % 18446744073709551616 = ee at *
    have hst := B0Z hql hnw hsb.1
    refine A9 (nx (F9 2 4 5 7 36) (A5 (C0 (A3 (mv_ (as_ (A0 (I4 2 4 5 7 8 36) ?_)))))))
    refine D3 (.range 12) (zp 0 [0, 0, 1, 0, 0, 0, 1, 0, 0, 0, 0, 0]) kR kR fun hs => ?_
    refine fm_ hs ?_
    refine D2 hs rfl (E8 (e := 30) (n := 8) (sz := 1) (i := i) rfl rfl kR kR rfl (by omega)) rfl ?_
    refine F8 hs rfl (hpg ▸ Q0 i rfl kR At.mem (by omega) (by omega)) rfl ?_
    refine D2 hs rfl (P6 (k' := .u64) (o.getD i 0) rfl kR (A5c (by omega))) rfl ?_
    refine fm_ hs ?_
    refine D2 hs rfl (E8 (e := 30) (n := 8) (sz := 1) (i := i) rfl rfl kR kR rfl (by omega)) rfl ?_
    refine F8 hs rfl (Q0 i rfl kR At.mem (by omega) (by omega)) rfl ?_
    refine D2 hs rfl (P6 (k' := .u64) (B4W.getD i 0) rfl kR (A5c (by omega))) rfl ?_
    refine D2 hs rfl (hdd ▸ A2n 18446744073709551616 (a := o.getD i 0) (b := B4W.getD i 0) rfl rfl rfl rfl rfl rfl (by omega)) rfl ?_
    refine fm_ hs ?_
    refine D2 hs rfl (hee ▸ A2n 18446744073709551616 (a := dd) (b := c) rfl rfl rfl rfl rfl rfl (by omega)) rfl ?_
    refine fa_ hs ?_
    refine E4 (I4 2 4 7 8 9 36) (A3 (mv_ (mv_ ?_)))
    refine A4 (A7F rfl kR) rfl ?_
    refine A4 (E8 (e := 30) (n := 8) (sz := 1) (i := i) rfl rfl kR kR rfl (by omega)) rfl ?_
    refine A6 rfl (R8 i rfl rfl kR (by omega) (by omega) UpC.upd ?_)
    refine A0 (F9 2 4 7 9 36) (C2 (mv_ ?_))
    refine A4 (N8 63 9223372036854775808 rfl rfl rfl rfl (by decide)) rfl ?_
    refine as_ (D1 (nb (nx (F9 2 4 5 7 36) (C2 ?_))))
    refine A4 (E5 ((i + 1 : Nat) : Int) rfl rfl (G3 (by omega) (by omega) (by omega))) rfl ?_
    refine mv_ (D1 ?_)
    exact rn ⟨i + 1, q ++ [ee % 4294967296], ee / 9223372036854775808⟩ ⟨by dsimp only; omega, by simp [hql], hq32.app (fun x hx => by rw [List.mem_singleton.1 hx]; exact Nat.mod_lt _ (by decide)), hsb.2, hst⟩ (by dsimp only; omega) (F9 2 4 5 7 36) (Fit.eq (by rw [hps])) (fun _ h => h)
   ·
    have hge8 : i = 8 := by simp at hc; omega
    subst hge8
    have hfin := B3s (o := q) (a := o) (b := B4W) (c := c) (by omega) hq32 ho32 (by rw [hol]; exact hnw) (by rw [B00]; exact hge)
    rw [List.drop_of_length_le (by omega), List.append_nil]
    refine F1 (te (re (be rfl (nx (D4 2 4) (A3 ?_)))))
    refine A4 (H8 (n := 8) (cs := nums .u32 q) rfl kR At.mem (by rw [nums_len]; omega)) rfl ?_
    refine A6 rfl (A8 (vs := nums .u32 q) rfl rfl rfl (by rw [nums_len, hql]; kernel_rfl) (by rw [nums_len, hql]; rfl) F4 UpC.upd ?_)
    refine A0 (D8 4) (C1 ?_)
    exact ⟨_, [], [], A1g (n := 8) rfl rfl kR At.mem (by rw [nums_len]; omega), List.nil_sublist _, by simp, rfl, rfl, q, rfl, hql, hq32, by rw [hfin, hnv, B00, Nat.mod_eq_sub_mod (by omega), Nat.mod_eq_of_lt (by omega)]⟩

def tmN (X Y i : Nat) : Nat := X / 2 ^ i * Y % lN
theorem B01 (X Y i : Nat) : tmN X Y i = (if X / 2 ^ i % 2 = 1 then ((tmN X Y (i + 1) + tmN X Y (i + 1)) % lN + Y) % lN else (tmN X Y (i + 1) + tmN X Y (i + 1)) % lN) := by
  have h : X / 2 ^ i = 2 * (X / 2 ^ (i + 1)) + X / 2 ^ i % 2 := by
    rw [Nat.pow_succ, ← Nat.div_div_eq_div_mul]; omega
  unfold tmN
  generalize lN = L
  have hb : X / 2 ^ i % 2 = 0 ∨ X / 2 ^ i % 2 = 1 := by omega
  rcases hb with hb | hb
  · rw [if_neg (by omega)]
    conv => lhs; rw [h, hb, Nat.add_zero, Nat.two_mul, Nat.add_mul, Nat.add_mod]
  · rw [if_pos hb]
    conv => lhs; rw [h, hb, Nat.add_mul, Nat.one_mul, Nat.two_mul, Nat.add_mul]
    rw [← Nat.add_mod, Nat.mod_add_mod]
theorem B8I : w32 [0, 0, 0, 0, 0, 0, 0, 0] := by unfold w32; decide
theorem C0h : w32 [1, 0, 0, 0, 0, 0, 0, 0] := by unfold w32; decide
theorem B4X (X Y i : Nat) : tmN X Y i < lN := Nat.mod_lt _ (by decide)
theorem A8c {k : IntKind} {a b : List Nat} (h : nums k a = nums k b) : a = b := by
  unfold nums at h
  induction a generalizing b with
  | nil => cases b with
    | nil => rfl
    | cons y b => simp at h
  | cons x a ih => cases b with
    | nil => simp at h
    | cons y b =>
      simp only [List.map_cons, List.cons.injEq, Value.int.injEq, true_and] at h
      rw [ih h.2, Int.ofNat.inj h.1]
theorem B3t (v u : Value) (x y0 : Nat) (hv : Sc v x) (hu : Sc u y0) (hy : y0 < lN) (A : Mem) : FnX Tryz.prog 154 [v, u] [] A fun r M J => M = [] ∧ J = [] ∧ Sc r (x * y0 % lN) := by
 obtain ⟨a, rfl, a8, a32, av⟩ := hv
 obtain ⟨b, rfl, b8, b32, bv_⟩ := hu
 refine FnX.enter (N := 27) Tryz.func154 rfl rfl rfl fun w => ?_
 refine C4 (D4 0 1) (A3 ?_)
 refine A6 rfl (bx_ fun b2 => ?_)
 refine A6 rfl (bx_ fun b3 => ?_)
 refine A6 rfl (C5 (cs := [G8, G8, G8, G8, G8, G8, G8, G8]) kR rfl fun b4 => ?_)
 refine A0 (E1 2 3 4) (A3 ?_)
 refine A6 rfl (C5 (cs := [G8, G8, G8, G8, G8, G8, G8, G8]) kR rfl fun b5 => ?_)
 refine A0 (E9 2 3 4 5) (A5 (A3 (as_ (A0 (F9 2 3 4 5 6) (C0 ?_)))))
 refine A0r (M' := [(b5, blk (nums .u32 [0, 0, 0, 0, 0, 0, 0, 0]) 223), (b4, blk [.int .u32 0, .int .u32 0, .int .u32 0, .int .u32 0, .int .u32 0, .int .u32 0, .int .u32 0, .int .u32 0] 223), (b3, blk (nums .u32 b) 223), (b2, blk (nums .u32 a) 223)]) (Fit.eq rfl) (fun _ h => h) ?_
 refine F7 (α := Nat × List Nat) (fun y => [(2, .pointer (some ⟨b2, 0, none⟩)), (3, .pointer (some ⟨b3, 0, none⟩)), (4, .pointer (some ⟨b4, 0, none⟩)), (5, .pointer (some ⟨b5, 0, none⟩)), (6, .int .i64 ((y.1 : Int) - 1))]) (fun y => [(b5, blk (nums .u32 y.2) 223), (b4, blk [.int .u32 0, .int .u32 0, .int .u32 0, .int .u32 0, .int .u32 0, .int .u32 0, .int .u32 0, .int .u32 0] 223), (b3, blk (nums .u32 b) 223), (b2, blk (nums .u32 a) 223)]) (fun _ => []) (fun y => y.1 ≤ 256 ∧ Sc (.agg (nums .u32 y.2).toArray) (tmN x y0 y.1)) (fun y => y.1) (256, [0, 0, 0, 0, 0, 0, 0, 0]) ⟨Nat.le_refl _, _, rfl, rfl, B8I, by unfold tmN; rw [Nat.div_eq_of_lt (by have := B2w a32; rw [a8, xp8] at this; rw [← av]; exact this), Nat.zero_mul, Nat.zero_mod]; rfl⟩ (F9 2 3 4 5 6) .rfl (fun _ h => h) ?_
 rintro ⟨j, o⟩ ⟨hj, ho⟩
 dsimp only at hj ho ⊢
 have ho0 := ho
 obtain ⟨o_, e_, o8, o32, ov⟩ := ho
 obtain rfl : o = o_ := A8c (by simpa using e_)
 refine A5 (A3 (mv_ ?_))
 refine A4 (F5 rfl rfl rfl) rfl ?_
 refine A0 (I4 2 3 4 5 6 8) ?_
 refine C7 rfl (fun hc => ?_) (fun hc => ?_)
 ·
  have hj0 : 0 < j := by simp at hc; omega
  obtain ⟨i, rfl⟩ : ∃ i, j = i + 1 := ⟨j - 1, by omega⟩
  rw [show (((i + 1 : Nat) : Int) - 1) = (i : Int) by omega]
  have hts := B01 x y0 i
  have hwb := B3r a32 i
  rw [av] at hwb
  have htl := B4X x y0 (i + 1)
  refine A9 (nx (F9 2 3 4 5 6) (A5 (C0 (A3 ?_))))
  refine A4 (H8 (n := 8) (cs := nums .u32 o) rfl kR At.mem (by rw [nums_len]; omega)) rfl ?_
  refine A4 (H8 (n := 8) (cs := nums .u32 o) rfl kR At.mem (by rw [nums_len]; omega)) rfl ?_
  refine D0 (aS rfl (aS rfl a0)) kR (A6i _ _ _ _ ho0 ho0 htl htl _) rfl ?_
  rintro r1 M1 J1 ⟨rfl, rfl, k1⟩
  have h1 := k1
  obtain ⟨s, rfl, s8, s32, sv⟩ := k1
  refine A6 rfl (A8 (vs := nums .u32 s) rfl rfl rfl (by rw [nums_len, s8]; kernel_rfl) (by rw [nums_len, nums_len, o8, s8]) F4 UpC.upd ?_)
  refine A0 (F9 2 3 4 5 6) (A3 (mv_ ?_))
  refine A4 (A0H 32 rfl rfl rfl (by decide) (A13 (by omega))) rfl ?_
  refine A4 (E8 (e := 30) (n := 8) (sz := 1) (i := i / 32) rfl rfl kR kR rfl (by omega)) rfl ?_
  refine A4 (Q0 (i / 32) rfl kR At.mem (by omega) (by omega)) rfl ?_
  refine mv_ ?_
  refine A4 (A0I 32 rfl rfl rfl (by decide)) rfl ?_
  refine A4 (A2p (a := a.getD (i / 32) 0) (b := i % 32) rfl rfl rfl rfl (by show _ ≤ 32; omega)) rfl ?_
  refine A4 (hwb ▸ N1 1 2 rfl rfl rfl rfl rfl (by show _ < 4294967296; exact Nat.lt_of_le_of_lt (Nat.div_le_self _ _) (a32.get _)) (by decide)) rfl ?_
  refine A4 (F5 rfl rfl rfl) rfl ?_
  refine A0 (I4 2 3 4 5 6 22) ?_
  refine C7 rfl (fun hc => ?_) (fun hc => ?_)
  ·
   have hb1 : x / 2 ^ i % 2 = 1 := by revert hc; generalize x / 2 ^ i % 2 = z; intro hc; simp at hc; omega
   rw [if_pos hb1] at hts
   refine C2 ?_
   refine A4 (H8 (n := 8) (cs := nums .u32 s) rfl kR At.mem (by rw [nums_len]; omega)) rfl ?_
   refine A4 (H8 (n := 8) (cs := nums .u32 b) rfl kR At.mem (by rw [nums_len]; omega)) rfl ?_
   refine D0 (aS rfl (aS rfl a0)) kR (A6i _ _ _ _ h1 ⟨b, rfl, b8, b32, bv_⟩ (Nat.mod_lt _ (by decide)) hy _) rfl ?_
   rintro r2 M2 J2 ⟨rfl, rfl, k2⟩
   rw [← hts] at k2
   have h2 := k2
   obtain ⟨t, rfl, t8, t32, tv⟩ := k2
   refine A6 rfl (A8 (vs := nums .u32 t) rfl rfl rfl (by rw [nums_len, t8]; kernel_rfl) (by rw [nums_len, nums_len, s8, t8]) F4 UpC.upd ?_)
   refine D1 (nb (nx (F9 2 3 4 5 6) (C2 (mv_ ?_))))
   refine A4 (E5 ((i : Int) - 1) rfl rfl (X6 rfl (by omega) (by omega))) rfl ?_
   refine as_ (D1 ?_)
   exact rn (i, t) ⟨by dsimp only; omega, h2⟩ (by dsimp only; omega) (F9 2 3 4 5 6) .rfl (fun _ h => h)
  ·
   have hb1 : ¬ x / 2 ^ i % 2 = 1 := by revert hc; generalize x / 2 ^ i % 2 = z; intro hc; simp at hc; omega
   rw [if_neg hb1] at hts
   refine A9 (nb (nx (F9 2 3 4 5 6) (C2 (mv_ ?_))))
   refine A4 (E5 ((i : Int) - 1) rfl rfl (X6 rfl (by omega) (by omega))) rfl ?_
   refine as_ (D1 ?_)
   exact rn (i, s) ⟨by dsimp only; omega, by dsimp only; rw [hts]; exact h1⟩ (by dsimp only; omega) (F9 2 3 4 5 6) .rfl (fun _ h => h)
 ·
  have hj0 : j = 0 := by simp at hc; omega
  subst hj0
  refine F1 (te (re (be rfl (nx (D4 4 5) (A3 ?_)))))
  refine A4 (H8 (n := 8) (cs := nums .u32 o) rfl kR At.mem (by rw [nums_len]; omega)) rfl ?_
  refine A6 rfl (A8 (vs := nums .u32 o) rfl rfl rfl (by rw [nums_len, o8]; kernel_rfl) (by rw [nums_len, o8]; rfl) F4 UpC.upd ?_)
  refine A0 (D8 4) (C1 ?_)
  exact ⟨_, [], [], A1g (n := 8) rfl rfl kR At.mem (by rw [nums_len]; omega), List.nil_sublist _, by simp, rfl, rfl, by rw [show x * y0 % lN = tmN x y0 0 by unfold tmN; rw [Nat.pow_zero, Nat.div_one]]; exact ho0⟩
theorem A1R (pv : Value) (p : List Nat) (A : Mem) (hp : Rd A 1 pv p.length (nums .u8 p)) (hp256 : ∀ x ∈ p, x < 256) (hpl : p.length ≤ 1000000) : FnX Tryz.prog 146 [pv] [] A fun r M J => M = [] ∧ J = [] ∧ Sc r (bv p % lN) := by
 haveI := hp.cel
 refine FnX.enter (N := 30) Tryz.func146 rfl rfl rfl fun w => ?_
 refine C4 (D8 0) (A3 ?_)
 refine A6 rfl (C5 (cs := [G8, G8, G8, G8, G8, G8, G8, G8]) kR rfl fun b2 => ?_)
 refine A0 (D4 0 2) (A3 ?_)
 refine A6 rfl (C5 (cs := [G8, G8, G8, G8, G8, G8, G8, G8]) kR rfl fun b3 => ?_)
 refine A0 (E1 0 2 3) (A5 (A3 (mv_ ?_)))
 refine A4 (H6 (sz := 1) rfl kR hp) rfl ?_
 refine A4 (E5 ((8 * p.length : Nat) : Int) rfl rfl (A4y (by omega) (by omega) (by omega))) rfl ?_
 refine A4 (E5 (((8 * p.length : Nat) : Int) - 1) rfl rfl (X6 rfl (by omega) (by omega))) rfl ?_
 refine as_ (A0 (E9 0 2 3 4) (C0 ?_))
 refine A0r (M' := [(b3, blk (nums .u32 [0, 0, 0, 0, 0, 0, 0, 0]) 223), (b2, blk [.int .u32 0, .int .u32 0, .int .u32 0, .int .u32 0, .int .u32 0, .int .u32 0, .int .u32 0, .int .u32 0] 223)]) (Fit.eq rfl) (fun _ h => h) ?_
 refine F7 (α := Nat × List Nat) (fun y => [(0, pv), (2, .pointer (some ⟨b2, 0, none⟩)), (3, .pointer (some ⟨b3, 0, none⟩)), (4, .int .i64 ((y.1 : Int) - 1))]) (fun y => [(b3, blk (nums .u32 y.2) 223), (b2, blk [.int .u32 0, .int .u32 0, .int .u32 0, .int .u32 0, .int .u32 0, .int .u32 0, .int .u32 0, .int .u32 0] 223)]) (fun _ => []) (fun y => y.1 ≤ 8 * p.length ∧ Sc (.agg (nums .u32 y.2).toArray) (tmN (bv p) 1 y.1)) (fun y => y.1) (8 * p.length, [0, 0, 0, 0, 0, 0, 0, 0]) ⟨Nat.le_refl _, _, rfl, rfl, B8I, by unfold tmN; rw [Nat.div_eq_of_lt (by have := B6p hp256; rwa [show 256 ^ p.length = 2 ^ (8 * p.length) by rw [Nat.pow_mul]] at this), Nat.zero_mul, Nat.zero_mod]; rfl⟩ (E9 0 2 3 4) .rfl (fun _ h => h) ?_
 rintro ⟨j, o⟩ ⟨hj, ho⟩
 dsimp only at hj ho ⊢
 have ho0 := ho
 obtain ⟨o_, e_, o8, o32, ov⟩ := ho
 obtain rfl : o = o_ := A8c (by simpa using e_)
 refine A5 (A3 (mv_ ?_))
 refine A4 (F5 rfl rfl rfl) rfl ?_
 refine A0 (F9 0 2 3 4 10) ?_
 refine C7 rfl (fun hc => ?_) (fun hc => ?_)
 ·
  have hj0 : 0 < j := by simp at hc; omega
  obtain ⟨i, rfl⟩ : ∃ i, j = i + 1 := ⟨j - 1, by omega⟩
  rw [show (((i + 1 : Nat) : Int) - 1) = (i : Int) by omega]
  have hts := B01 (bv p) 1 i
  have hwb := A58 hp256 i
  have htl := B4X (bv p) 1 (i + 1)
  have hpb : p.getD (i / 8) 0 < 256 := getD_lt hp256 (by decide)
  refine A9 (nx (E9 0 2 3 4) (A5 (C0 (A3 ?_))))
  refine A4 (H8 (n := 8) (cs := nums .u32 o) rfl kR At.mem (by rw [nums_len]; omega)) rfl ?_
  refine A4 (H8 (n := 8) (cs := nums .u32 o) rfl kR At.mem (by rw [nums_len]; omega)) rfl ?_
  refine D0 (aS rfl (aS rfl a0)) kR (A6i _ _ _ _ ho0 ho0 htl htl _) rfl ?_
  rintro r1 M1 J1 ⟨rfl, rfl, k1⟩
  have h1 := k1
  obtain ⟨s, rfl, s8, s32, sv⟩ := k1
  refine A6 rfl (A8 (vs := nums .u32 s) rfl rfl rfl (by rw [nums_len, s8]; kernel_rfl) (by rw [nums_len, nums_len, o8, s8]) F4 UpC.upd ?_)
  refine A0 (E9 0 2 3 4) (A3 (mv_ (mv_ ?_)))
  refine A4 (A0H 8 rfl rfl rfl (by decide) (A13 (by omega))) rfl ?_
  refine A4 (K6 (sz := 1) (a := i / 8) rfl rfl kR rfl hp (by omega)) rfl ?_
  refine A4 (A05 (j := i / 8) (u := .int .u8 ((p.getD (i / 8) 0 : Nat) : Int)) (hp.mono SubC.sub) rfl kR (Y0 (by omega))) rfl ?_
  refine mv_ ?_
  refine A4 (A0I 8 rfl rfl rfl (by decide)) rfl ?_
  refine A4 (A2p (a := p.getD (i / 8) 0) (b := i % 8) rfl rfl rfl rfl (by show _ ≤ 8; omega)) rfl ?_
  refine A4 (hwb ▸ N1 1 2 rfl rfl rfl rfl rfl (by show _ < 256; exact Nat.lt_of_le_of_lt (Nat.div_le_self _ _) hpb) (by decide)) rfl ?_
  refine A4 (F5 rfl rfl rfl) rfl ?_
  refine A0 (F9 0 2 3 4 25) ?_
  refine C7 rfl (fun hc => ?_) (fun hc => ?_)
  ·
   have hb1 : bv p / 2 ^ i % 2 = 1 := by revert hc; generalize bv p / 2 ^ i % 2 = z; intro hc; simp at hc; omega
   rw [if_pos hb1] at hts
   refine C2 ?_
   refine A4 (H8 (n := 8) (cs := nums .u32 s) rfl kR At.mem (by rw [nums_len]; omega)) rfl ?_
   refine A4 (F6 (place := fun i => some (i * 1, 1)) (z := [G8, G8, G8, G8, G8, G8, G8, G8]) (fun _ => by kernel_rfl) (eS rfl e0) (bdS 0 1 rfl (by rfl) bd0)) rfl ?_
   refine D0 (aS rfl (aS rfl a0)) kR (A6i _ _ _ 1 h1 ⟨[1, 0, 0, 0, 0, 0, 0, 0], rfl, rfl, C0h, by decide⟩ (Nat.mod_lt _ (by decide)) (by decide) _) rfl ?_
   rintro r2 M2 J2 ⟨rfl, rfl, k2⟩
   rw [← hts] at k2
   have h2 := k2
   obtain ⟨t, rfl, t8, t32, tv⟩ := k2
   refine A6 rfl (A8 (vs := nums .u32 t) rfl rfl rfl (by rw [nums_len, t8]; kernel_rfl) (by rw [nums_len, nums_len, s8, t8]) F4 UpC.upd ?_)
   refine D1 (nb (nx (E9 0 2 3 4) (C2 (mv_ ?_))))
   refine A4 (E5 ((i : Int) - 1) rfl rfl (X6 rfl (by omega) (by omega))) rfl ?_
   refine as_ (D1 ?_)
   exact rn (i, t) ⟨by dsimp only; omega, h2⟩ (by dsimp only; omega) (E9 0 2 3 4) .rfl (fun _ h => h)
  ·
   have hb1 : ¬ bv p / 2 ^ i % 2 = 1 := by revert hc; generalize bv p / 2 ^ i % 2 = z; intro hc; simp at hc; omega
   rw [if_neg hb1] at hts
   refine A9 (nb (nx (E9 0 2 3 4) (C2 (mv_ ?_))))
   refine A4 (E5 ((i : Int) - 1) rfl rfl (X6 rfl (by omega) (by omega))) rfl ?_
   refine as_ (D1 ?_)
   exact rn (i, s) ⟨by dsimp only; omega, by dsimp only; rw [hts]; exact h1⟩ (by dsimp only; omega) (E9 0 2 3 4) .rfl (fun _ h => h)
 ·
  have hj0 : j = 0 := by simp at hc; omega
  subst hj0
  refine F1 (te (re (be rfl (nx (D4 2 3) (A3 ?_)))))
  refine A4 (H8 (n := 8) (cs := nums .u32 o) rfl kR At.mem (by rw [nums_len]; omega)) rfl ?_
  refine A6 rfl (A8 (vs := nums .u32 o) rfl rfl rfl (by rw [nums_len, o8]; kernel_rfl) (by rw [nums_len, o8]; rfl) F4 UpC.upd ?_)
  refine A0 (D8 2) (C1 ?_)
  exact ⟨_, [], [], A1g (n := 8) rfl rfl kR At.mem (by rw [nums_len]; omega), List.nil_sublist _, by simp, rfl, rfl, by rw [show bv p % lN = tmN (bv p) 1 0 by unfold tmN; rw [Nat.pow_zero, Nat.div_one, Nat.mul_one]]; exact ho0⟩
theorem A1S (v : Value) (n : Nat) (hv : Sc v n) (A : Mem) : FnV Tryz.prog 142 [v] A (.agg (nums .u8 (A0x n 32)).toArray) := by
 obtain ⟨a, rfl, a8, a32, av⟩ := hv
 refine FnX.enter (N := 21) Tryz.func142 rfl rfl rfl fun w => ?_
 refine C4 (D8 0) (A3 ?_)
 refine A6 rfl (bx_ fun b1 => ?_)
 refine A6 rfl (C5 (cs := [zu8, zu8, zu8, zu8, zu8, zu8, zu8, zu8, zu8, zu8, zu8, zu8, zu8, zu8, zu8, zu8, zu8, zu8, zu8, zu8, zu8, zu8, zu8, zu8, zu8, zu8, zu8, zu8, zu8, zu8, zu8, zu8]) kR rfl fun b2 => ?_)
 refine A0 (D4 1 2) (A3 ?_)
 refine A6 rfl (C5 (cs := [zu8, zu8, zu8, zu8, zu8, zu8, zu8, zu8, zu8, zu8, zu8, zu8, zu8, zu8, zu8, zu8, zu8, zu8, zu8, zu8, zu8, zu8, zu8, zu8, zu8, zu8, zu8, zu8, zu8, zu8, zu8, zu8]) kR rfl fun b3 => ?_)
 refine A0 (E1 1 2 3) (A5 (A3 (mv_ (A0 (E9 1 2 3 5) (C0 ?_)))))
 refine A0r (M' := [(b3, blk (nums .u8 (A0x n 0 ++ (List.replicate 32 0).drop 0)) 202), (b2, blk [.int .u8 0, .int .u8 0, .int .u8 0, .int .u8 0, .int .u8 0, .int .u8 0, .int .u8 0, .int .u8 0, .int .u8 0, .int .u8 0, .int .u8 0, .int .u8 0, .int .u8 0, .int .u8 0, .int .u8 0, .int .u8 0, .int .u8 0, .int .u8 0, .int .u8 0, .int .u8 0, .int .u8 0, .int .u8 0, .int .u8 0, .int .u8 0, .int .u8 0, .int .u8 0, .int .u8 0, .int .u8 0, .int .u8 0, .int .u8 0, .int .u8 0, .int .u8 0] 202), (b1, blk (nums .u32 a) 223)]) (Fit.eq rfl) (fun _ h => h) ?_
 refine F7 (α := Nat) (fun i => [(1, .pointer (some ⟨b1, 0, none⟩)), (2, .pointer (some ⟨b2, 0, none⟩)), (3, .pointer (some ⟨b3, 0, none⟩)), (5, .int .i64 (i : Int))]) (fun i => [(b3, blk (nums .u8 (A0x n i ++ (List.replicate 32 0).drop i)) 202), (b2, blk [.int .u8 0, .int .u8 0, .int .u8 0, .int .u8 0, .int .u8 0, .int .u8 0, .int .u8 0, .int .u8 0, .int .u8 0, .int .u8 0, .int .u8 0, .int .u8 0, .int .u8 0, .int .u8 0, .int .u8 0, .int .u8 0, .int .u8 0, .int .u8 0, .int .u8 0, .int .u8 0, .int .u8 0, .int .u8 0, .int .u8 0, .int .u8 0, .int .u8 0, .int .u8 0, .int .u8 0, .int .u8 0, .int .u8 0, .int .u8 0, .int .u8 0, .int .u8 0] 202), (b1, blk (nums .u32 a) 223)]) (fun _ => []) (fun i => i ≤ 32) (fun i => 32 - i) 0 (Nat.zero_le _) (E9 1 2 3 5) .rfl (fun _ h => h) ?_
 rintro i hi
 have hdl := N6 n i
 have hpl : (A0x n i ++ (List.replicate 32 0).drop i).length = 32 := A5b hdl (by simp) hi
 refine A3 ?_
 refine A4 (F5 rfl rfl rfl) rfl ?_
 refine A0 (F9 1 2 3 5 6) (A5 ?_)
 refine C7 rfl (fun hc => ?_) (fun hc => ?_)
 ·
  have hlt : i < 32 := by simp at hc; omega
  have hwb := B0W a32 i
  rw [av] at hwb
  refine A9 (nx (E9 1 2 3 5) (A5 (C0 (A3 (mv_ (as_ (A0 (F9 1 2 3 4 5) (C2 ?_))))))))
  refine mv_ (mv_ ?_)
  refine A4 (A0H 4 rfl rfl rfl (by decide) (A13 (by omega))) rfl ?_
  refine A4 (E8 (e := 30) (n := 8) (sz := 1) (i := i / 4) rfl rfl kR kR rfl (by omega)) rfl ?_
  refine A4 (Q0 (i / 4) rfl kR At.mem (by omega) (by omega)) rfl ?_
  refine mv_ ?_
  refine A4 (A0I 4 rfl rfl rfl (by decide)) rfl ?_
  refine A4 (E5 ((8 * (i % 4) : Nat) : Int) rfl rfl (A4y (by omega) (by omega) (by omega))) rfl ?_
  refine A4 (A2p (a := a.getD (i / 4) 0) (b := 8 * (i % 4)) rfl rfl rfl rfl (by show _ ≤ 32; omega)) rfl ?_
  refine A4 (hwb ▸ A2W rfl kR) rfl ?_
  refine A4 (E8 (e := 5) (n := 32) (sz := 1) (i := i) rfl rfl kR kR rfl (by omega)) rfl ?_
  refine A6 rfl (R8 i rfl rfl kR (by omega) (by omega) UpC.upd ?_)
  refine D1 (nb (nx (E9 1 2 3 5) (C2 ?_)))
  refine A4 (E5 ((i + 1 : Nat) : Int) rfl rfl (G3 (by omega) (by omega) (by omega))) rfl ?_
  refine mv_ (D1 ?_)
  exact rn (i + 1) (by omega) (by omega) (E9 1 2 3 5) (Fit.eq (by rw [A5a hdl (by simpa using hlt), B0U])) (fun _ h => h)
 ·
  have hge : i = 32 := by simp at hc; omega
  subst hge
  rw [show (List.replicate 32 0).drop 32 = ([] : List Nat) from rfl, List.append_nil] at *
  refine F1 (te (re (be rfl (nx (D4 2 3) (A3 ?_)))))
  refine A4 (H8 (n := 32) (cs := nums .u8 (A0x n 32)) rfl kR At.mem (by rw [nums_len]; omega)) rfl ?_
  refine A6 rfl (A8 (vs := nums .u8 (A0x n 32)) rfl rfl rfl (by rw [nums_len, N6]; kernel_rfl) (by rw [nums_len, N6]; rfl) F4 UpC.upd ?_)
  refine A0 (D8 2) (C1 ?_)
  exact ⟨_, [], [], A1g (n := 32) rfl rfl kR At.mem (by rw [nums_len, N6]), List.nil_sublist _, by simp, rfl, rfl, rfl⟩

end Go.Proofs.YthbhpfefdnffaaaGreatDoor
set_option maxRecDepth 10000
namespace Go.Ed
variable {n : Nat} [NeZero n]
theorem C0i (x1 y1 x2 y2 x3 y3 d : Fin n) (h1 : y1*y1 - x1*x1 = 1 + d*x1*x1*y1*y1) (h2 : y2*y2 - x2*x2 = 1 + d*x2*x2*y2*y2) (h3 : y3*y3 - x3*x3 = 1 + d*x3*x3*y3*y3) :
    ((x1*y2+x2*y1)*(1-d*x1*x2*y1*y2)*y3 + (y1*y2+x1*x2)*(1+d*x1*x2*y1*y2)*x3) * ((1-d*x2*x3*y2*y3)*(1+d*x2*x3*y2*y3) + d*x1*y1*(x2*y3+x3*y2)*(y2*y3+x2*x3))
    = (x1*(y2*y3+x2*x3)*(1+d*x2*x3*y2*y3) + y1*(x2*y3+x3*y2)*(1-d*x2*x3*y2*y3)) * ((1-d*x1*x2*y1*y2)*(1+d*x1*x2*y1*y2) + d*(x1*y2+x2*y1)*(y1*y2+x1*x2)*x3*y3) := by
  have e1 : y1*y1 - x1*x1 - (1 + d*x1*x1*y1*y1) = 0 := by grind
  have e2 : y2*y2 - x2*x2 - (1 + d*x2*x2*y2*y2) = 0 := by grind
  have e3 : y3*y3 - x3*x3 - (1 + d*x3*x3*y3*y3) = 0 := by grind
  have e : ((x1*y2+x2*y1)*(1-d*x1*x2*y1*y2)*y3 + (y1*y2+x1*x2)*(1+d*x1*x2*y1*y2)*x3) * ((1-d*x2*x3*y2*y3)*(1+d*x2*x3*y2*y3) + d*x1*y1*(x2*y3+x3*y2)*(y2*y3+x2*x3))
    - (x1*(y2*y3+x2*x3)*(1+d*x2*x3*y2*y3) + y1*(x2*y3+x3*y2)*(1-d*x2*x3*y2*y3)) * ((1-d*x1*x2*y1*y2)*(1+d*x1*x2*y1*y2) + d*(x1*y2+x2*y1)*(y1*y2+x1*x2)*x3*y3)
    = (y1*x2*x2*x2*y2*y2*y2*y2*x3*x3*y3*d*d + y1*x2*x2*x2*x2*y2*y2*y2*x3*y3*y3*d*d - x1*x2*x2*x2*y2*y2*y2*y2*x3*y3*y3*d*d - x1*x2*x2*x2*x2*y2*y2*y2*x3*x3*y3*d*d - y1*x2*y2*y2*y2*y2*x3*x3*y3*d - y1*x2*x2*y2*y2*y2*x3*x3*x3*d + y1*x2*x2*x2*y2*y2*y3*y3*y3*d + y1*x2*x2*x2*x2*y2*x3*y3*y3*d + x1*x2*y2*y2*y2*y2*x3*y3*y3*d + x1*x2*x2*y2*y2*y2*y3*y3*y3*d - x1*x2*x2*x2*y2*y2*x3*x3*x3*d - x1*x2*x2*x2*x2*y2*x3*x3*y3*d - y1*x2*x2*y2*y2*y2*x3*d - y1*x2*x2*x2*y2*y2*y3*d - x1*x2*x2*y2*y2*y2*y3*d - x1*x2*x2*x2*y2*y2*x3*d) * (y1*y1 - x1*x1 - (1 + d*x1*x1*y1*y1)) + (x1*y1*y1*x2*y2*y2*x3*x3*x3*y3*y3*d*d - x1*y1*y1*x2*x2*y2*x3*x3*y3*y3*y3*d*d - x1*x1*y1*x2*y2*y2*x3*x3*y3*y3*y3*d*d + x1*x1*y1*x2*x2*y2*x3*x3*x3*y3*y3*d*d - y1*y1*y1*y2*x3*x3*x3*y3*y3*d - y1*y1*y1*x2*x3*x3*y3*y3*y3*d + y1*y1*y1*x2*y2*y2*x3*x3*y3*d + y1*y1*y1*x2*x2*y2*x3*y3*y3*d - x1*y1*y1*y2*x3*x3*y3*y3*y3*d - x1*y1*y1*x2*x3*x3*x3*y3*y3*d - x1*y1*y1*x2*y2*y2*x3*y3*y3*d - x1*y1*y1*x2*x2*y2*x3*x3*y3*d + x1*x1*y1*y2*x3*x3*x3*y3*y3*d + x1*x1*y1*x2*x3*x3*y3*y3*y3*d - x1*x1*y1*x2*y2*y2*x3*x3*y3*d - x1*x1*y1*x2*x2*y2*x3*y3*y3*d + x1*x1*x1*y2*x3*x3*y3*y3*y3*d + x1*x1*x1*x2*x3*x3*x3*y3*y3*d + x1*x1*x1*x2*y2*y2*x3*y3*y3*d + x1*x1*x1*x2*x2*y2*x3*x3*y3*d + y1*y2*x3*x3*x3*y3*y3*d + y1*x2*x3*x3*y3*y3*y3*d - y1*x2*y2*y2*x3*x3*y3*d - y1*x2*x2*y2*x3*y3*y3*d + x1*y2*x3*x3*y3*y3*y3*d + x1*x2*x3*x3*x3*y3*y3*d + x1*x2*y2*y2*x3*y3*y3*d + x1*x2*x2*y2*x3*x3*y3*d + y1*y1*y1*y2*x3*y3*y3 - y1*y1*y1*y2*x3*x3*x3 + y1*y1*y1*x2*y3*y3*y3 - y1*y1*y1*x2*x3*x3*y3 + x1*y1*y1*y2*y3*y3*y3 - x1*y1*y1*y2*x3*x3*y3 + x1*y1*y1*x2*x3*y3*y3 - x1*y1*y1*x2*x3*x3*x3 - x1*x1*y1*y2*x3*y3*y3 + x1*x1*y1*y2*x3*x3*x3 - x1*x1*y1*x2*y3*y3*y3 + x1*x1*y1*x2*x3*x3*y3 - x1*x1*x1*y2*y3*y3*y3 + x1*x1*x1*y2*x3*x3*y3 - x1*x1*x1*x2*x3*y3*y3 + x1*x1*x1*x2*x3*x3*x3 - y1*y2*x3*y3*y3 + y1*y2*x3*x3*x3 - y1*x2*y3*y3*y3 + y1*x2*x3*x3*y3 - y1*y1*y1*y2*x3 - y1*y1*y1*x2*y3 - x1*y2*y3*y3*y3 + x1*y2*x3*x3*y3 - x1*x2*x3*y3*y3 + x1*x2*x3*x3*x3 - x1*y1*y1*y2*y3 - x1*y1*y1*x2*x3 + x1*x1*y1*y2*x3 + x1*x1*y1*x2*y3 + x1*x1*x1*y2*y3 + x1*x1*x1*x2*x3 + y1*y2*x3 + y1*x2*y3 + x1*y2*y3 + x1*x2*x3) * (y2*y2 - x2*x2 - (1 + d*x2*x2*y2*y2)) + (-x1*y1*y1*x2*y2*y2*x3*d + x1*y1*y1*x2*x2*y2*y3*d + x1*x1*y1*x2*y2*y2*y3*d - x1*x1*y1*x2*x2*y2*x3*d - y1*y1*y1*y2*y2*y2*x3 - y1*y1*y1*x2*y2*y2*y3 + y1*y1*y1*x2*x2*y2*x3 + y1*y1*y1*x2*x2*x2*y3 - x1*y1*y1*y2*y2*y2*y3 - x1*y1*y1*x2*y2*y2*x3 + x1*y1*y1*x2*x2*y2*y3 + x1*y1*y1*x2*x2*x2*x3 + x1*x1*y1*y2*y2*y2*x3 + x1*x1*y1*x2*y2*y2*y3 - x1*x1*y1*x2*x2*y2*x3 - x1*x1*y1*x2*x2*x2*y3 + x1*x1*x1*y2*y2*y2*y3 + x1*x1*x1*x2*y2*y2*x3 - x1*x1*x1*x2*x2*y2*y3 - x1*x1*x1*x2*x2*x2*x3 + y1*y2*y2*y2*x3 + y1*x2*y2*y2*y3 - y1*x2*x2*y2*x3 - y1*x2*x2*x2*y3 + y1*y1*y1*y2*x3 + y1*y1*y1*x2*y3 + x1*y2*y2*y2*y3 + x1*x2*y2*y2*x3 - x1*x2*x2*y2*y3 - x1*x2*x2*x2*x3 + x1*y1*y1*y2*y3 + x1*y1*y1*x2*x3 - x1*x1*y1*y2*x3 - x1*x1*y1*x2*y3 - x1*x1*x1*y2*y3 - x1*x1*x1*x2*x3 - y1*y2*x3 - y1*x2*y3 - x1*y2*y3 - x1*x2*x3) * (y3*y3 - x3*x3 - (1 + d*x3*x3*y3*y3)) := by
    clear h1 h2 h3 e1 e2 e3
    grind
  rw [e1, e2, e3] at e
  clear h1 h2 h3 e1 e2 e3
  grind
theorem C0j (x1 y1 x2 y2 x3 y3 d : Fin n) (h1 : y1*y1 - x1*x1 = 1 + d*x1*x1*y1*y1) (h2 : y2*y2 - x2*x2 = 1 + d*x2*x2*y2*y2) (h3 : y3*y3 - x3*x3 = 1 + d*x3*x3*y3*y3) :
    ((y1*y2+x1*x2)*(1+d*x1*x2*y1*y2)*y3 + (x1*y2+x2*y1)*(1-d*x1*x2*y1*y2)*x3) * ((1-d*x2*x3*y2*y3)*(1+d*x2*x3*y2*y3) - d*x1*y1*(x2*y3+x3*y2)*(y2*y3+x2*x3))
    = (y1*(y2*y3+x2*x3)*(1+d*x2*x3*y2*y3) + x1*(x2*y3+x3*y2)*(1-d*x2*x3*y2*y3)) * ((1-d*x1*x2*y1*y2)*(1+d*x1*x2*y1*y2) - d*(x1*y2+x2*y1)*(y1*y2+x1*x2)*x3*y3) := by
  have e1 : y1*y1 - x1*x1 - (1 + d*x1*x1*y1*y1) = 0 := by grind
  have e2 : y2*y2 - x2*x2 - (1 + d*x2*x2*y2*y2) = 0 := by grind
  have e3 : y3*y3 - x3*x3 - (1 + d*x3*x3*y3*y3) = 0 := by grind
  have e : ((y1*y2+x1*x2)*(1+d*x1*x2*y1*y2)*y3 + (x1*y2+x2*y1)*(1-d*x1*x2*y1*y2)*x3) * ((1-d*x2*x3*y2*y3)*(1+d*x2*x3*y2*y3) - d*x1*y1*(x2*y3+x3*y2)*(y2*y3+x2*x3))
    - (y1*(y2*y3+x2*x3)*(1+d*x2*x3*y2*y3) + x1*(x2*y3+x3*y2)*(1-d*x2*x3*y2*y3)) * ((1-d*x1*x2*y1*y2)*(1+d*x1*x2*y1*y2) - d*(x1*y2+x2*y1)*(y1*y2+x1*x2)*x3*y3)
    = (-y1*x2*x2*x2*y2*y2*y2*y2*x3*y3*y3*d*d - y1*x2*x2*x2*x2*y2*y2*y2*x3*x3*y3*d*d + x1*x2*x2*x2*y2*y2*y2*y2*x3*x3*y3*d*d + x1*x2*x2*x2*x2*y2*y2*y2*x3*y3*y3*d*d + y1*x2*y2*y2*y2*y2*x3*y3*y3*d + y1*x2*x2*y2*y2*y2*y3*y3*y3*d - y1*x2*x2*x2*y2*y2*x3*x3*x3*d - y1*x2*x2*x2*x2*y2*x3*x3*y3*d - x1*x2*y2*y2*y2*y2*x3*x3*y3*d - x1*x2*x2*y2*y2*y2*x3*x3*x3*d + x1*x2*x2*x2*y2*y2*y3*y3*y3*d + x1*x2*x2*x2*x2*y2*x3*y3*y3*d - y1*x2*x2*y2*y2*y2*y3*d - y1*x2*x2*x2*y2*y2*x3*d - x1*x2*x2*y2*y2*y2*x3*d - x1*x2*x2*x2*y2*y2*y3*d) * (y1*y1 - x1*x1 - (1 + d*x1*x1*y1*y1)) + (x1*y1*y1*x2*y2*y2*x3*x3*y3*y3*y3*d*d - x1*y1*y1*x2*x2*y2*x3*x3*x3*y3*y3*d*d - x1*x1*y1*x2*y2*y2*x3*x3*x3*y3*y3*d*d + x1*x1*y1*x2*x2*y2*x3*x3*y3*y3*y3*d*d - y1*y1*y1*y2*x3*x3*y3*y3*y3*d - y1*y1*y1*x2*x3*x3*x3*y3*y3*d - y1*y1*y1*x2*y2*y2*x3*y3*y3*d - y1*y1*y1*x2*x2*y2*x3*x3*y3*d - x1*y1*y1*y2*x3*x3*x3*y3*y3*d - x1*y1*y1*x2*x3*x3*y3*y3*y3*d + x1*y1*y1*x2*y2*y2*x3*x3*y3*d + x1*y1*y1*x2*x2*y2*x3*y3*y3*d + x1*x1*y1*y2*x3*x3*y3*y3*y3*d + x1*x1*y1*x2*x3*x3*x3*y3*y3*d + x1*x1*y1*x2*y2*y2*x3*y3*y3*d + x1*x1*y1*x2*x2*y2*x3*x3*y3*d + x1*x1*x1*y2*x3*x3*x3*y3*y3*d + x1*x1*x1*x2*x3*x3*y3*y3*y3*d - x1*x1*x1*x2*y2*y2*x3*x3*y3*d - x1*x1*x1*x2*x2*y2*x3*y3*y3*d + y1*y2*x3*x3*y3*y3*y3*d + y1*x2*x3*x3*x3*y3*y3*d + y1*x2*y2*y2*x3*y3*y3*d + y1*x2*x2*y2*x3*x3*y3*d + x1*y2*x3*x3*x3*y3*y3*d + x1*x2*x3*x3*y3*y3*y3*d - x1*x2*y2*y2*x3*x3*y3*d - x1*x2*x2*y2*x3*y3*y3*d + y1*y1*y1*y2*y3*y3*y3 - y1*y1*y1*y2*x3*x3*y3 + y1*y1*y1*x2*x3*y3*y3 - y1*y1*y1*x2*x3*x3*x3 + x1*y1*y1*y2*x3*y3*y3 - x1*y1*y1*y2*x3*x3*x3 + x1*y1*y1*x2*y3*y3*y3 - x1*y1*y1*x2*x3*x3*y3 - x1*x1*y1*y2*y3*y3*y3 + x1*x1*y1*y2*x3*x3*y3 - x1*x1*y1*x2*x3*y3*y3 + x1*x1*y1*x2*x3*x3*x3 - x1*x1*x1*y2*x3*y3*y3 + x1*x1*x1*y2*x3*x3*x3 - x1*x1*x1*x2*y3*y3*y3 + x1*x1*x1*x2*x3*x3*y3 - y1*y2*y3*y3*y3 + y1*y2*x3*x3*y3 - y1*x2*x3*y3*y3 + y1*x2*x3*x3*x3 - y1*y1*y1*y2*y3 - y1*y1*y1*x2*x3 - x1*y2*x3*y3*y3 + x1*y2*x3*x3*x3 - x1*x2*y3*y3*y3 + x1*x2*x3*x3*y3 - x1*y1*y1*y2*x3 - x1*y1*y1*x2*y3 + x1*x1*y1*y2*y3 + x1*x1*y1*x2*x3 + x1*x1*x1*y2*x3 + x1*x1*x1*x2*y3 + y1*y2*y3 + y1*x2*x3 + x1*y2*x3 + x1*x2*y3) * (y2*y2 - x2*x2 - (1 + d*x2*x2*y2*y2)) + (-x1*y1*y1*x2*y2*y2*y3*d + x1*y1*y1*x2*x2*y2*x3*d + x1*x1*y1*x2*y2*y2*x3*d - x1*x1*y1*x2*x2*y2*y3*d - y1*y1*y1*y2*y2*y2*y3 - y1*y1*y1*x2*y2*y2*x3 + y1*y1*y1*x2*x2*y2*y3 + y1*y1*y1*x2*x2*x2*x3 - x1*y1*y1*y2*y2*y2*x3 - x1*y1*y1*x2*y2*y2*y3 + x1*y1*y1*x2*x2*y2*x3 + x1*y1*y1*x2*x2*x2*y3 + x1*x1*y1*y2*y2*y2*y3 + x1*x1*y1*x2*y2*y2*x3 - x1*x1*y1*x2*x2*y2*y3 - x1*x1*y1*x2*x2*x2*x3 + x1*x1*x1*y2*y2*y2*x3 + x1*x1*x1*x2*y2*y2*y3 - x1*x1*x1*x2*x2*y2*x3 - x1*x1*x1*x2*x2*x2*y3 + y1*y2*y2*y2*y3 + y1*x2*y2*y2*x3 - y1*x2*x2*y2*y3 - y1*x2*x2*x2*x3 + y1*y1*y1*y2*y3 + y1*y1*y1*x2*x3 + x1*y2*y2*y2*x3 + x1*x2*y2*y2*y3 - x1*x2*x2*y2*x3 - x1*x2*x2*x2*y3 + x1*y1*y1*y2*x3 + x1*y1*y1*x2*y3 - x1*x1*y1*y2*y3 - x1*x1*y1*x2*x3 - x1*x1*x1*y2*x3 - x1*x1*x1*x2*y3 - y1*y2*y3 - y1*x2*x3 - x1*y2*x3 - x1*x2*y3) * (y3*y3 - x3*x3 - (1 + d*x3*x3*y3*y3)) := by
    clear h1 h2 h3 e1 e2 e3
    grind
  rw [e1, e2, e3] at e
  clear h1 h2 h3 e1 e2 e3
  grind
theorem B8J (x1 y1 x2 y2 d : Fin n) (h1 : y1*y1 - x1*x1 = 1 + d*x1*x1*y1*y1) (h2 : y2*y2 - x2*x2 = 1 + d*x2*x2*y2*y2) :
    (y1*y2+x1*x2)*(y1*y2+x1*x2)*(1+d*x1*x2*y1*y2)*(1+d*x1*x2*y1*y2) - (x1*y2+x2*y1)*(x1*y2+x2*y1)*(1-d*x1*x2*y1*y2)*(1-d*x1*x2*y1*y2)
    = (1-d*x1*x2*y1*y2)*(1-d*x1*x2*y1*y2)*(1+d*x1*x2*y1*y2)*(1+d*x1*x2*y1*y2) + d*(x1*y2+x2*y1)*(x1*y2+x2*y1)*(y1*y2+x1*x2)*(y1*y2+x1*x2) := by
  have e1 : y1*y1 - x1*x1 - (1 + d*x1*x1*y1*y1) = 0 := by grind
  have e2 : y2*y2 - x2*x2 - (1 + d*x2*x2*y2*y2) = 0 := by grind
  have e : (y1*y2+x1*x2)*(y1*y2+x1*x2)*(1+d*x1*x2*y1*y2)*(1+d*x1*x2*y1*y2) - (x1*y2+x2*y1)*(x1*y2+x2*y1)*(1-d*x1*x2*y1*y2)*(1-d*x1*x2*y1*y2)
    - ((1-d*x1*x2*y1*y2)*(1-d*x1*x2*y1*y2)*(1+d*x1*x2*y1*y2)*(1+d*x1*x2*y1*y2) + d*(x1*y2+x2*y1)*(x1*y2+x2*y1)*(y1*y2+x1*x2)*(y1*y2+x1*x2))
    = (x1*x1*y1*y1*x2*x2*x2*x2*y2*y2*y2*y2*d*d*d + y1*y1*x2*x2*x2*x2*y2*y2*y2*y2*d*d - x1*x1*x2*x2*x2*x2*y2*y2*y2*y2*d*d - x2*x2*x2*x2*y2*y2*y2*y2*d*d - 2*x2*x2*x2*x2*y2*y2*y2*y2*d - y1*y1*x2*x2*y2*y2*y2*y2*d + y1*y1*x2*x2*x2*x2*y2*y2*d + x1*x1*x2*x2*y2*y2*y2*y2*d - x1*x1*x2*x2*x2*x2*y2*y2*d + 2*x2*x2*y2*y2*y2*y2 - 2*x2*x2*x2*x2*y2*y2 - 2*x2*x2*y2*y2*d + y2*y2*y2*y2 - 4*x2*x2*y2*y2 + x2*x2*x2*x2) * (y1*y1 - x1*x1 - (1 + d*x1*x1*y1*y1)) + (y1*y1*y1*y1*x2*x2*y2*y2*d + x1*x1*x1*x1*x2*x2*y2*y2*d - 2*y1*y1*x2*x2*y2*y2*d + 2*x1*x1*x2*x2*y2*y2*d - 2*y1*y1*x2*x2*y2*y2 + 2*x1*x1*x2*x2*y2*y2 + x2*x2*y2*y2*d + 2*x2*x2*y2*y2 - y1*y1*y2*y2 + y1*y1*x2*x2 + x1*x1*y2*y2 - x1*x1*x2*x2 + y2*y2 - x2*x2 + 1) * (y2*y2 - x2*x2 - (1 + d*x2*x2*y2*y2)) := by
    clear h1 h2 e1 e2
    grind
  rw [e1, e2] at e
  clear h1 h2 e1 e2
  grind
structure Fld (n : Nat) [NeZero n] (d : Fin n) where
  inv : Fin n → Fin n
  ii : Fin n
  mul0 : ∀ a b : Fin n, a * b = 0 → a = 0 ∨ b = 0
  one : (1 : Fin n) ≠ 0
  two : (2 : Fin n) ≠ 0
  hinv : ∀ a : Fin n, a ≠ 0 → a * inv a = 1
  hii : ii * ii = -1
  hd : ∀ s t : Fin n, s * s = d * (t * t) → t = 0
variable {d : Fin n} (F : Fld n d)
structure On (d : Fin n) (P : Fin n × Fin n) : Prop where
  eq : P.2*P.2 - P.1*P.1 = 1 + d*P.1*P.1*P.2*P.2
include F
theorem Fld.cancel {a b c : Fin n} (ha : a ≠ 0) (h : a * b = a * c) : b = c := by
  have : a * (b - c) = 0 := by grind
  rcases F.mul0 _ _ this with h1 | h1
  · exact absurd h1 ha
  · grind
theorem Fld.mul_ne {a b : Fin n} (ha : a ≠ 0) (hb : b ≠ 0) : a * b ≠ 0 := fun h => (F.mul0 _ _ h).elim ha hb
theorem Fld.complete {P Q : Fin n × Fin n} (hP : On d P) (hQ : On d Q) : 1 + d*P.1*Q.1*P.2*Q.2 ≠ 0 ∧ 1 - d*P.1*Q.1*P.2*Q.2 ≠ 0 := by
  obtain ⟨x1, y1⟩ := P
  obtain ⟨x2, y2⟩ := Q
  have h1 := hP.eq
  have h2 := hQ.eq
  dsimp only at h1 h2 ⊢
  have hii := F.hii
  have hd := F.hd
  have key : ∀ e : Fin n, d*x1*x2*y1*y2 = e → e * e = 1 → False := by
    intro e he hee
    have he0 : e ≠ 0 := fun h => F.one (by rw [h] at hee; grind)
    generalize F.ii = i at *
    have q1 : (i*x1 + e*y1) * (i*x1 + e*y1) = d * ((x1*y1*(i*x2+y2)) * (x1*y1*(i*x2+y2))) := by
      have a1 : x2*x2 = y2*y2 - 1 - d*x2*x2*y2*y2 := by grind
      have a2 : y1*y1 - x1*x1 = 1 + d*x1*x1*y1*y1 := h1
      have a3 : (d*x1*x2*y1*y2) * (d*x1*x2*y1*y2) = 1 := by rw [he]; exact hee
      grind
    have q2 : (i*x1 - e*y1) * (i*x1 - e*y1) = d * ((x1*y1*(i*x2-y2)) * (x1*y1*(i*x2-y2))) := by
      have a3 : (d*x1*x2*y1*y2) * (d*x1*x2*y1*y2) = 1 := by rw [he]; exact hee
      grind
    have z1 := hd _ _ q1
    have z2 := hd _ _ q2
    have hx1 : x1 ≠ 0 := fun h => he0 (by rw [← he, h]; grind)
    have hy1 : y1 ≠ 0 := fun h => he0 (by rw [← he, h]; grind)
    have hx2 : x2 ≠ 0 := fun h => he0 (by rw [← he, h]; grind)
    have hxy := F.mul_ne hx1 hy1
    have w1 : i*x2+y2 = 0 := (F.mul0 _ _ z1).resolve_left hxy
    have w2 : i*x2-y2 = 0 := (F.mul0 _ _ z2).resolve_left hxy
    have w3 : 2 * (i * x2) = 0 := by grind
    have w4 : i * x2 = 0 := (F.mul0 _ _ w3).resolve_left F.two
    have w5 : i = 0 := (F.mul0 _ _ w4).resolve_right hx2
    rw [w5] at hii
    exact F.one (by grind)
  refine ⟨fun h => key (-1) (by grind) (by grind), fun h => key 1 (by grind) (by grind)⟩
omit F in
theorem On.o : On d ((0 : Fin n), (1 : Fin n)) := ⟨by grind⟩
def Fld.add (P Q : Fin n × Fin n) : Fin n × Fin n :=
  ((P.1*Q.2 + Q.1*P.2) * F.inv (1 + d*P.1*Q.1*P.2*Q.2), (P.2*Q.2 + P.1*Q.1) * F.inv (1 - d*P.1*Q.1*P.2*Q.2))
theorem Fld.add_spec {P Q : Fin n × Fin n} (hP : On d P) (hQ : On d Q) : (F.add P Q).1 * (1 + d*P.1*Q.1*P.2*Q.2) = P.1*Q.2 + Q.1*P.2 ∧ (F.add P Q).2 * (1 - d*P.1*Q.1*P.2*Q.2) = P.2*Q.2 + P.1*Q.1 := by
  obtain ⟨h1, h2⟩ := F.complete hP hQ
  have i1 := F.hinv _ h1
  have i2 := F.hinv _ h2
  unfold Fld.add
  dsimp only
  generalize F.inv (1 + d*P.1*Q.1*P.2*Q.2) = a at *
  generalize F.inv (1 - d*P.1*Q.1*P.2*Q.2) = b at *
  generalize P.1*Q.2 + Q.1*P.2 = u
  generalize P.2*Q.2 + P.1*Q.1 = v
  generalize 1 + d*P.1*Q.1*P.2*Q.2 = w at *
  generalize 1 - d*P.1*Q.1*P.2*Q.2 = z at *
  exact ⟨by grind, by grind⟩
theorem Fld.add_on {P Q : Fin n × Fin n} (hP : On d P) (hQ : On d Q) : On d (F.add P Q) := by
  obtain ⟨h1, h2⟩ := F.complete hP hQ
  obtain ⟨s1, s2⟩ := F.add_spec hP hQ
  have hs := B8J P.1 P.2 Q.1 Q.2 d hP.eq hQ.eq
  constructor
  generalize F.add P Q = R at *
  generalize 1 + d*P.1*Q.1*P.2*Q.2 = H at *
  generalize 1 - d*P.1*Q.1*P.2*Q.2 = G at *
  refine F.cancel (F.mul_ne (F.mul_ne h1 h1) (F.mul_ne h2 h2)) ?_
  rw [← s1, ← s2] at hs
  grind
theorem Fld.add_comm (P Q : Fin n × Fin n) : F.add P Q = F.add Q P := by
  unfold Fld.add
  have e1 : d*P.1*Q.1*P.2*Q.2 = d*Q.1*P.1*Q.2*P.2 := by grind
  have e2 : P.1*Q.2 + Q.1*P.2 = Q.1*P.2 + P.1*Q.2 := by grind
  have e3 : P.2*Q.2 + P.1*Q.1 = Q.2*P.2 + Q.1*P.1 := by grind
  rw [e1, e2, e3]
theorem Fld.inv1 : F.inv 1 = 1 := by
  have := F.hinv 1 F.one
  grind
theorem Fld.add_o (P : Fin n × Fin n) : F.add P ((0 : Fin n), (1 : Fin n)) = P := by
  unfold Fld.add
  have e1 : 1 + d*P.1*0*P.2*1 = 1 := by grind
  have e2 : 1 - d*P.1*0*P.2*1 = 1 := by grind
  dsimp only
  rw [e1, e2, F.inv1]
  obtain ⟨x, y⟩ := P
  dsimp only
  have e3 : (x * 1 + 0 * y) * 1 = x := by grind
  have e4 : (y * 1 + x * 0) * 1 = y := by grind
  rw [e3, e4]
theorem Fld.add_eq {P Q R : Fin n × Fin n} (hP : On d P) (hQ : On d Q) (h1 : R.1 * (1 + d*P.1*Q.1*P.2*Q.2) = P.1*Q.2 + Q.1*P.2) (h2 : R.2 * (1 - d*P.1*Q.1*P.2*Q.2) = P.2*Q.2 + P.1*Q.1) : F.add P Q = R := by
  obtain ⟨c1, c2⟩ := F.complete hP hQ
  obtain ⟨s1, s2⟩ := F.add_spec hP hQ
  refine Prod.ext (F.cancel c1 ?_) (F.cancel c2 ?_)
  · grind
  · grind
omit F in
theorem cx1 {u v u' v' x1 y1 x3 y3 G H G' H' : Fin n}
    (hx : (u * H * G * y3 + v * G * H * x3) * (G' * H' + d * x1 * y1 * (u' * H') * (v' * G')) = (x1 * (v' * G') * H' + y1 * (u' * H') * G') * (G * H + d * (u * H) * (v * G) * x3 * y3)) :
    G * H * (G' * H') * ((u*y3 + x3*v) * (1 + d*x1*u'*y1*v')) = G * H * (G' * H') * ((x1*v' + u'*y1) * (1 + d*u*x3*v*y3)) := by
  have a : G * H * (G' * H') * ((u*y3 + x3*v) * (1 + d*x1*u'*y1*v')) = (u * H * G * y3 + v * G * H * x3) * (G' * H' + d * x1 * y1 * (u' * H') * (v' * G')) := by clear hx; grind
  have b : G * H * (G' * H') * ((x1*v' + u'*y1) * (1 + d*u*x3*v*y3)) = (x1 * (v' * G') * H' + y1 * (u' * H') * G') * (G * H + d * (u * H) * (v * G) * x3 * y3) := by clear hx; grind
  rw [a, b, hx]
omit F in
theorem cy1 {u v u' v' x1 y1 x3 y3 G H G' H' : Fin n}
    (hy : (v * G * H * y3 + u * H * G * x3) * (G' * H' - d * x1 * y1 * (u' * H') * (v' * G')) = (y1 * (v' * G') * H' + x1 * (u' * H') * G') * (G * H - d * (u * H) * (v * G) * x3 * y3)) :
    G * H * (G' * H') * ((v*y3 + u*x3) * (1 - d*x1*u'*y1*v')) = G * H * (G' * H') * ((y1*v' + x1*u') * (1 - d*u*x3*v*y3)) := by
  have a : G * H * (G' * H') * ((v*y3 + u*x3) * (1 - d*x1*u'*y1*v')) = (v * G * H * y3 + u * H * G * x3) * (G' * H' - d * x1 * y1 * (u' * H') * (v' * G')) := by clear hy; grind
  have b : G * H * (G' * H') * ((y1*v' + x1*u') * (1 - d*u*x3*v*y3)) = (y1 * (v' * G') * H' + x1 * (u' * H') * G') * (G * H - d * (u * H) * (v * G) * x3 * y3) := by clear hy; grind
  rw [a, b, hy]
omit F in
theorem c3r {a b p q : Fin n} (h : a * p * q = b * q * p) : p * q * a = p * q * b := by
  have e1 : p * q * a = a * p * q := by clear h; grind
  have e2 : p * q * b = b * q * p := by clear h; grind
  rw [e1, e2, h]
theorem Fld.add_assoc {P Q R : Fin n × Fin n} (hP : On d P) (hQ : On d Q) (hR : On d R) : F.add (F.add P Q) R = F.add P (F.add Q R) := by
  have hPQ := F.add_on hP hQ
  have hQR := F.add_on hQ hR
  obtain ⟨c1, c2⟩ := F.complete hP hQ
  obtain ⟨c3, c4⟩ := F.complete hQ hR
  obtain ⟨c5, c6⟩ := F.complete hPQ hR
  obtain ⟨c7, c8⟩ := F.complete hP hQR
  obtain ⟨s1, s2⟩ := F.add_spec hP hQ
  obtain ⟨s3, s4⟩ := F.add_spec hQ hR
  obtain ⟨s5, s6⟩ := F.add_spec hPQ hR
  obtain ⟨s7, s8⟩ := F.add_spec hP hQR
  have hx := C0i P.1 P.2 Q.1 Q.2 R.1 R.2 d hP.eq hQ.eq hR.eq
  have hy := C0j P.1 P.2 Q.1 Q.2 R.1 R.2 d hP.eq hQ.eq hR.eq
  generalize F.add (F.add P Q) R = L at *
  generalize F.add P (F.add Q R) = L' at *
  generalize F.add P Q = U at *
  generalize F.add Q R = V at *
  obtain ⟨x1, y1⟩ := P
  obtain ⟨x2, y2⟩ := Q
  obtain ⟨x3, y3⟩ := R
  obtain ⟨u, v⟩ := U
  obtain ⟨u', v'⟩ := V
  obtain ⟨l1, l2⟩ := L
  obtain ⟨m1, m2⟩ := L'
  dsimp only at *
  have f1 : x1*y2+x2*y1 = u * (1 + d*x1*x2*y1*y2) := s1.symm
  have f2 : y1*y2+x1*x2 = v * (1 - d*x1*x2*y1*y2) := s2.symm
  have f3 : x2*y3+x3*y2 = u' * (1 + d*x2*x3*y2*y3) := s3.symm
  have f4 : y2*y3+x2*x3 = v' * (1 - d*x2*x3*y2*y3) := s4.symm
  rw [f1, f2, f3, f4] at hx hy
  generalize 1 + d*x1*x2*y1*y2 = H at *
  generalize 1 - d*x1*x2*y1*y2 = G at *
  generalize 1 + d*x2*x3*y2*y3 = H' at *
  generalize 1 - d*x2*x3*y2*y3 = G' at *
  clear s1 s2 s3 s4 f1 f2 f3 f4 hP hQ hR hPQ hQR
  have hz : G * H * (G' * H') ≠ 0 := F.mul_ne (F.mul_ne c2 c1) (F.mul_ne c4 c3)
  have hx' : (u*y3 + x3*v) * (1 + d*x1*u'*y1*v') = (x1*v' + u'*y1) * (1 + d*u*x3*v*y3) := F.cancel hz (cx1 hx)
  have hy' : (v*y3 + u*x3) * (1 - d*x1*u'*y1*v') = (y1*v' + x1*u') * (1 - d*u*x3*v*y3) := F.cancel hz (cy1 hy)
  rw [← s5, ← s7] at hx'
  rw [← s6, ← s8] at hy'
  generalize 1 + d*x1*u'*y1*v' = p at *
  generalize 1 + d*u*x3*v*y3 = q at *
  generalize 1 - d*x1*u'*y1*v' = r at *
  generalize 1 - d*u*x3*v*y3 = s at *
  have ex : l1 = m1 := F.cancel (F.mul_ne c5 c7) (c3r hx')
  have ey : l2 = m2 := F.cancel (F.mul_ne c6 c8) (c3r hy')
  rw [ex, ey]
def Fld.nsm (k : Nat) (P : Fin n × Fin n) : Fin n × Fin n := Nat.rec ((0 : Fin n), (1 : Fin n)) (fun _ Q => F.add Q P) k
theorem Fld.nsm_succ (k : Nat) (P : Fin n × Fin n) : F.nsm (k + 1) P = F.add (F.nsm k P) P := rfl
theorem Fld.nsm_on {P : Fin n × Fin n} (hP : On d P) (k : Nat) : On d (F.nsm k P) := by
  induction k with
  | zero => exact On.o
  | succ k ih => exact F.add_on ih hP
theorem Fld.nsm_add {P : Fin n × Fin n} (hP : On d P) (j k : Nat) : F.nsm (j + k) P = F.add (F.nsm j P) (F.nsm k P) := by
  induction k with
  | zero => exact (F.add_o _).symm
  | succ k ih => rw [← Nat.add_assoc, F.nsm_succ, ih, F.nsm_succ, F.add_assoc (F.nsm_on hP _) (F.nsm_on hP _) hP]
theorem Fld.nsm_mul {P : Fin n × Fin n} (hP : On d P) (j k : Nat) : F.nsm (j * k) P = F.nsm j (F.nsm k P) := by
  induction j with
  | zero => rw [Nat.zero_mul]; rfl
  | succ j ih => rw [Nat.succ_mul, F.nsm_add hP, ih, F.nsm_succ]
theorem Fld.nsm_o (k : Nat) : F.nsm k ((0 : Fin n), (1 : Fin n)) = ((0 : Fin n), (1 : Fin n)) := by
  induction k with
  | zero => rfl
  | succ k ih => rw [F.nsm_succ, ih, F.add_o]
theorem Fld.nsm_mod {P : Fin n × Fin n} (hP : On d P) {L : Nat} (hL : F.nsm L P = ((0 : Fin n), (1 : Fin n))) (k : Nat) : F.nsm (k % L) P = F.nsm k P := by
  conv => rhs; rw [← Nat.mod_add_div k L, F.nsm_add hP, Nat.mul_comm, F.nsm_mul hP, hL, F.nsm_o, F.add_o]
structure Rep (X Y Z T : Fin n) (P : Fin n × Fin n) : Prop where
  z : Z ≠ 0
  x : X = P.1 * Z
  y : Y = P.2 * Z
  t : T = P.1 * P.2 * Z
theorem Fld.rep_add {X1 Y1 Z1 T1 X2 Y2 Z2 T2 : Fin n} {P Q : Fin n × Fin n} (hP : On d P) (hQ : On d Q) (h1 : Rep X1 Y1 Z1 T1 P) (h2 : Rep X2 Y2 Z2 T2 Q) {a b c z e f g h : Fin n}
    (ha : a = (Y1 - X1) * (Y2 - X2)) (hb : b = (Y1 + X1) * (Y2 + X2)) (hc : c = T1 * (2 * d) * T2) (hz : z = Z1 * Z2 + Z1 * Z2) (he : e = b - a) (hf : f = z - c) (hg : g = z + c) (hh : h = b + a) :
    Rep (e * f) (g * h) (f * g) (e * h) (F.add P Q) := by
  obtain ⟨c1, c2⟩ := F.complete hP hQ
  obtain ⟨s1, s2⟩ := F.add_spec hP hQ
  obtain ⟨z1, rfl, rfl, rfl⟩ := h1
  obtain ⟨z2, rfl, rfl, rfl⟩ := h2
  generalize F.add P Q = R at *
  obtain ⟨x1, y1⟩ := P
  obtain ⟨x2, y2⟩ := Q
  obtain ⟨u, v⟩ := R
  dsimp only at *
  have hzz := F.mul_ne z1 z2
  have e1 : e = 2 * (Z1 * Z2) * (u * (1 + d*x1*x2*y1*y2)) := by rw [s1, he, hb, ha]; grind
  have e2 : h = 2 * (Z1 * Z2) * (v * (1 - d*x1*x2*y1*y2)) := by rw [s2, hh, hb, ha]; grind
  have e3 : f = 2 * (Z1 * Z2) * (1 - d*x1*x2*y1*y2) := by rw [hf, hz, hc]; grind
  have e4 : g = 2 * (Z1 * Z2) * (1 + d*x1*x2*y1*y2) := by rw [hg, hz, hc]; grind
  clear he hf hg hh ha hb hc hz s1 s2
  generalize 1 + d*x1*x2*y1*y2 = H at *
  generalize 1 - d*x1*x2*y1*y2 = G at *
  subst e1 e2 e3 e4
  exact ⟨F.mul_ne (F.mul_ne (F.mul_ne F.two hzz) c2) (F.mul_ne (F.mul_ne F.two hzz) c1), by grind, by grind, by grind⟩
theorem Fld.rep_same {X1 Y1 Z1 T1 X2 Y2 Z2 T2 : Fin n} {P Q : Fin n × Fin n} (h1 : Rep X1 Y1 Z1 T1 P) (h2 : Rep X2 Y2 Z2 T2 Q) : (X1 * Z2 = X2 * Z1 ∧ Y1 * Z2 = Y2 * Z1) ↔ P = Q := by
  obtain ⟨z1, rfl, rfl, -⟩ := h1
  obtain ⟨z2, rfl, rfl, -⟩ := h2
  constructor
  · rintro ⟨a, b⟩
    refine Prod.ext (F.cancel (F.mul_ne z1 z2) (by grind)) (F.cancel (F.mul_ne z1 z2) (by grind))
  · rintro rfl
    exact ⟨by grind, by grind⟩
theorem Fld.dy_ne {y : Fin n} : d * (y * y) + 1 ≠ 0 := fun h => by
  have h2 := F.hii
  have h1 : F.ii * F.ii = d * (y * y) := by grind
  have h3 := F.hd _ _ h1
  rw [h3] at h
  exact F.one (by grind)
end Go.Ed

