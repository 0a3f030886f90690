/- Part 13 of the texts of this claim, one behind the other. -/
import Derived.Test.YtoigcbkclcbmpaaGreatDoorB12
import Derived.Laws.StructEq
import Derived.Laws.Cover3
set_option linter.unusedVariables false
set_option linter.unusedSimpArgs false
set_option maxRecDepth 100000
namespace Go.Px
open Go
theorem A2j : ∀ (xs ys : List Nat), xs.length = ys.length → ((List.range xs.length).all fun i => xs.getD i 0 == ys.getD i 0) = decide (xs = ys)
  | [], [], _ => rfl
  | x :: xs, y :: ys, h => by
    have ih := A2j xs ys (by simpa using h)
    rw [List.length_cons, List.range_succ_eq_map, List.all_cons, List.all_map]
    simp only [List.getD_cons_zero, Function.comp_def, List.getD_cons_succ, ih]
    by_cases hxy : x = y <;> simp [hxy]
  | [], _ :: _, h => by simp at h
  | _ :: _, [], h => by simp at h
def C06 (P : Program) (t : TypeId) : Option (Nat × IntKind) := match P.underlying t with
  | some (.array n e) => match P.underlying e with
    | some (.int k) => if P7 P e = some 1 then some (n, k) else none
    | _ => none
  | _ => none
theorem B1U {P : Program} {e : TypeId} {n : Nat} (h : P7 P e = some n) (w : World) : (sizeOf e).run P w = .ok n w := by
  unfold P7 at h
  cases hi : P.info? e with
  | none => rw [hi] at h; cases h
  | some i => rw [hi] at h; simp at h; simp [sizeOf, typeInfo, hi, h]
section
variable {P : Program} {R : Mem} {l : Env} {d : Option Nat} {ty t : TypeId} {pos : String} {af : Array Edge} {g : Option (Nat × Bool)} {x y : Operand} {k : IntKind}
theorem A6Y {n : Nat} (h : C06 P t = some (n, k)) : ∃ e, P.underlying t = some (.array n e) ∧ P.underlying e = some (.int k) ∧ P7 P e = some 1 := by
  unfold C06 at h
  split at h
  · rename_i m e h1
    split at h
    · rename_i k' h2
      split at h
      · rename_i h3
        cases h
        exact ⟨e, h1, h2, h3⟩
      · cases h
    · cases h
  · cases h
theorem A6Z (dp : Nat) {e : TypeId} {n : Nat} (w : World) (ht : P.underlying t = some (.array n e)) (he : P.underlying e = some (.int k)) (hsz : ∀ w, (sizeOf e).run P w = .ok 1 w)
    (xs ys : List Nat) (hx : xs.length = n) (hy : ys.length = n) : (Op.equalIn (dp + 2) t (.agg (nums k xs).toArray) (.agg (nums k ys).toArray)).run P w = .ok (decide (xs = ys)) w := by
  rw [← A2j xs ys (hx.trans hy.symm), hx, List.range_eq_range', Op.equalIn]
  simp only [Sem.run_bind, run_underlying ht, Result.andThen_ok, hsz, Std.Legacy.Range.forIn_eq_forIn_range', Std.Legacy.Range.size, Nat.sub_zero, Nat.add_sub_cancel, Nat.div_one]
  have hl : ∀ i ∈ List.range' 0 n 1, i < n := fun i hi => by simpa using (List.mem_range'_1.1 hi).2
  generalize List.range' 0 n 1 = r at hl ⊢
  induction r with
  | nil => simp
  | cons i r ih =>
    have hi : i < n := hl i (by simp)
    have gx : xs.getD i 0 = xs[i]'(by omega) := by simp [List.getD, List.getElem?_eq_getElem (show i < xs.length by omega)]
    have gy : ys.getD i 0 = ys[i]'(by omega) := by simp [List.getD, List.getElem?_eq_getElem (show i < ys.length by omega)]
    have px : (part e (nums k xs).toArray (i * 1)).run P w = .ok (.int k ((xs.getD i 0 : Nat) : Int)) w := by
      rw [gx]; simp [nums, part, isAgg, run_underlying he, List.getElem?_eq_getElem (show i < xs.length by omega)]
    have py : (part e (nums k ys).toArray (i * 1)).run P w = .ok (.int k ((ys.getD i 0 : Nat) : Int)) w := by
      rw [gy]; simp [nums, part, isAgg, run_underlying he, List.getElem?_eq_getElem (show i < ys.length by omega)]
    have pe : (Op.equalIn (dp + 1) e (.int k ((xs.getD i 0 : Nat) : Int)) (.int k ((ys.getD i 0 : Nat) : Int))).run P w = .ok (xs.getD i 0 == ys.getD i 0) w := by
      rw [run_equalIn_int w dp e k k _ _ he]
      congr 1
      rw [Bool.eq_iff_iff]
      simp only [beq_iff_eq]
      omega
    simp only [List.forIn_cons, Sem.run_bind, px, py, pe, Result.andThen_ok, List.all_cons]
    cases hb : (xs.getD i 0 == ys.getD i 0)
    · simp
    · simp only [Bool.not_true, Bool.false_eq_true, if_false, Sem.run_pure, Result.andThen_ok, Bool.true_and]
      exact ih fun j hj => hl j (by simp [hj])
theorem B7V {t' : TypeId} {n : Nat} {xs ys : List Nat} (hx : ev l x = some (.agg (nums k xs).toArray)) (hy : ev l y = some (.agg (nums k ys).toArray)) (ht : C06 P t = some (n, k)) (hg : P.eqGuardType P.depth t = false) (hxl : xs.length = n) (hyl : ys.length = n) :
    OpQ P R ⟨d, .binOp .neq t x y t', ty, pos, af, g⟩ l (.bool !(decide (xs = ys))) := fun N A w ha hw => by
  obtain ⟨e, h1, h2, h3⟩ := A6Y ht
  simp only [execOp, ha.ev hx, ha.ev hy, Sem.run_bind, run_eqGuard_agg w _ _ _ _ _ _ hg, Result.andThen_ok, run_neq_struct]
  have hq : (Op.equalIn 10000 t (.agg (nums k xs).toArray) (.agg (nums k ys).toArray)).run P w = _ := A6Z 9998 w h1 h2 (fun w => B1U h3 w) xs ys hxl hyl
  simp only [hq, Result.andThen_ok, Sem.run_pure]
theorem B4z {n m c : Nat} {p : Option Addr} (hx : ev l x = some (.slice p m c)) (ht : C06 P t = some (n, k)) (hn : n ≤ m) : OpQ P R ⟨d, .sliceToArrayPointer t x, ty, pos, af, g⟩ l (.pointer p) := fun N A w ha hw => by
  obtain ⟨e, h1, -, -⟩ := A6Y ht
  simp [execOp, ha.ev hx, run_arrayAt w t e n p m c h1 hn]
end
end Go.Px

namespace Go.Px
structure Gx where
  i : Nat
  d : Nat
  us : List Nat
  φ : List Value → Value → Mem → Mem → Prop
def B7W (G : List Gx) (vs : Nat → Value) : Env := G.map fun g => (g.d, vs g.i)
def GrowsX (φ : List Value → Value → Mem → Mem → Prop) : Prop := ∀ us v B R R', (∀ x ∈ R, x ∈ R') → φ us v B R → φ us v B R'
def toGx (G : List Gx) : List Gm := G.map fun g => ⟨g.i, g.d, fun _ _ => True⟩
section group
variable {C : Cx} {Q : XQ} {l : Env} {M J : Mem} {os : List Oper} {K : Nat → Prop} {n0 : Nat} {nd : List Nat} {plan : List (Nat × Nat)}
def OwesX (C : Cx) (os : List Oper) (l : Env) (M J : Mem) (G : List Gx) (g : Gx) : Prop :=
  ∃ o, nth os g.i = some o ∧ ∀ (vs : Nat → Value) (bs : Nat → Mem) (R : Mem) (w : World), (∀ x ∈ M ++ (J ++ C.A), x ∈ R) → (∀ g' ∈ G, anc os.toArray os.toArray.size g.i g'.i = true → g'.φ (g'.us.map vs) (vs g'.i) (bs g'.i) R) →
    A9A os (B7W G vs ++ l) o ∧ OpL ⟨C.P, w, [], R, C.N⟩ o (B7W G vs ++ l) [] [] (fun l' M' J' => ∃ v, l' = (g.d, v) :: (B7W G vs ++ l) ∧ g.φ (g.us.map vs) v M' (M' ++ (J' ++ R)))
end group
end Go.Px

namespace Go.Proofs.YtoigcbkclcbmpaaGreatDoor
open Go.Px
structure GlS (A : Mem) : Prop where
  first : ∃ e f, (0, Obj.cells (nums .u32 A0M.list).toArray e f) ∈ A
  round : ∃ e f, (1, Obj.cells (nums .u32 A0V).toArray e f) ∈ A
theorem GlS.sub {A A' : Mem} (h : GlS A) (hs : ∀ x, x ∈ A → x ∈ A') : GlS A' := by
  obtain ⟨⟨a, b, c⟩, ⟨d, e, f⟩⟩ := h
  exact ⟨⟨a, b, hs _ c⟩, ⟨d, e, hs _ f⟩⟩
theorem GlS.up {M J A : Mem} (h : GlS A) : GlS (M ++ (J ++ A)) := h.sub fun _ h => mA h
theorem A1k (p : LN) : (A9y p).length = 64 := by simp [A9y, A2s]
theorem A7X (p : LN) : ∀ x ∈ A9y p, x < 256 := by
  intro x hx
  rcases List.mem_append.1 hx with h | h <;> exact A8o _ x h
theorem B4A {R B : Mem} {v : Value} {w : LN} {n : Nat} (h : Sl 1 v n (nums .u8 w) B) (hn : n = w.length) (hlt : ∀ x ∈ w, x < 256) (hl : w.length ≤ 16777216) (hR : ∀ x, x ∈ B → x ∈ R) : By R v w := ⟨hn ▸ h.rd hR, hlt, hl⟩
theorem B7X {k : IntKind} (x y : Nat) : K4 .geq k (x : Int) (y : Int) = some (.bool (decide (y ≤ x))) := by
  by_cases h : y ≤ x
  · rw [decide_eq_true h]; exact geT qO
  · rw [decide_eq_false h]; exact geF qO
theorem B7Y {n : Nat} (h : n < lN) : bv (N9 n 32) = n := by rw [B1G, Nat.mod_eq_of_lt (Nat.lt_trans h qD)]
def RdR (r : Value) (w : LN) : Prop := ∃ V b, r = .tuple #[V, .bool b] ∧ ((∃ P, P8 w = some P ∧ b = true ∧ FeP V P) ∨ (P8 w = none ∧ b = false ∧ FeP V pZ))
theorem B1V {w : LN} (h : ¬ w.length = 32) : P8 w = none := if_neg h
theorem A9Y {w : LN} (h : atN (rdN w) (decide (128 ≤ w.getD 31 0)) = none) : P8 w = none := by
  unfold P8
  split
  · rw [h]
  · rfl
theorem B4B {w : LN} {x : Nat} (hl : w.length = 32) (h : atN (rdN w) (decide (128 ≤ w.getD 31 0)) = some x) (hb : ¬ pB (pAt x (rdN w)) = w) : P8 w = none := by
  unfold P8
  rw [if_pos hl, h]
  exact if_neg hb
theorem B4C {w : LN} {x : Nat} (hl : w.length = 32) (h : atN (rdN w) (decide (128 ≤ w.getD 31 0)) = some x) (hb : pB (pAt x (rdN w)) = w) : P8 w = some (pAt x (rdN w)) := by
  unfold P8
  rw [if_pos hl, h]
  exact if_pos hb
theorem B7Z (V W : Value) (P Q : Pt) (hV : FeP V P) (hW : FeP W Q) (A : Mem) : FnX Tryz.prog 75 [V, W] [] A fun r M J => M = [] ∧ J = [] ∧ FeP r (A56 d2N P Q) := by
 have hP0 := hV
 have hQ0 := hW
 obtain ⟨xsp, rfl, p0, p1, p2, p3, p4, p5, p6, p7, p8, p9, p10, p11, p12, p13, p14, p15, p16, p17, p18, p19, rfl, hPX, hPY, hPZ, hPT⟩ := hV
 dsimp only [nums, List.map]
 obtain ⟨xsq, rfl, q0, q1, q2, q3, q4, q5, q6, q7, q8, q9, q10, q11, q12, q13, q14, q15, q16, q17, q18, q19, rfl, hQX, hQY, hQZ, hQT⟩ := hW
 dsimp only [nums, List.map]
 refine FnX.enter (N := 11) Tryz.func75 rfl rfl rfl fun w => ?_
 refine C4 (D5 0 1) (A3 ?_)
 refine A6 rfl (bx_ fun b2 => ?_)
 refine A6 rfl (bx_ fun b3 => ?_)
 refine A6 rfl (C5 (cs := [A7, A7, A7, A7, A7, A7, A7, A7, A7, A7, A7, A7, A7, A7, A7, A7, A7, A7, A7, A7]) kR rfl fun b4 => ?_)
 refine A0 (E2 2 3 4) ?_
 refine D2 [0, 1, 2, 3, 4, 5] (zp 0 [1, 1, 2, 2, 2, 2, 2]) kR kR fun hs => ?_
 refine F7 hs rfl (qw_ 20) rfl ?_
 refine F7 hs rfl (qw_ 20) rfl ?_
 refine G1 rfl (aS rfl a0) kR (A0T 2 qD _) rfl ?_
 rintro rn2 Mn2 Jn2 ⟨rfl, rfl, kn2⟩
 have hn2 := kn2
 obtain ⟨an2, bn2, cn2, dn2, en2, rfl, -⟩ := kn2
 refine G1 rfl a0 kR (A7N _) rfl ?_
 rintro rn3 Mn3 Jn3 ⟨rfl, rfl, kn3⟩
 have hn3 := kn3
 obtain ⟨an3, bn3, cn3, dn3, en3, rfl, -⟩ := kn3
 refine G1 rfl (aS rfl (aS rfl a0)) kR (T4 hn2 hn3 _) rfl ?_
 rintro rn4 Mn4 Jn4 ⟨rfl, rfl, kn4⟩
 rw [B7x] at kn4
 have hn4 := kn4
 obtain ⟨an4, bn4, cn4, dn4, en4, rfl, -⟩ := kn4
 refine G1 rfl (aS rfl (aS rfl (aS rfl a0))) kR (B1w _ _ _ P Q d2N hP0 hQ0 hn4 _) rfl ?_
 rintro r5 M5 J5 ⟨rfl, rfl, h5⟩
 have h50 := h5
 obtain ⟨xsz, rfl, z0, z1, z2, z3, z4, z5, z6, z7, z8, z9, z10, z11, z12, z13, z14, z15, z16, z17, z18, z19, rfl, h5X, h5Y, h5Z, h5T⟩ := h5
 dsimp only [nums, List.map]
 refine G5 rfl rfl rfl (A8 rfl rfl Cel.cel kR A26 A27 UpC.upd ?_)
 refine E4 (D8 4) (C3 ?_)
 exact ⟨_, [], [], A1x rfl rfl kR At.mem qR, List.nil_sublist _, by simp, rfl, rfl, h50⟩
theorem B70 (V W : Value) (P Q : Pt) (hV : FeP V P) (hW : FeP W Q) (A : Mem) : FnV Tryz.prog 77 [V, W] A (.bool (A5H P Q)) := by
 obtain ⟨xsp, rfl, p0, p1, p2, p3, p4, p5, p6, p7, p8, p9, p10, p11, p12, p13, p14, p15, p16, p17, p18, p19, rfl, hPX, hPY, hPZ, hPT⟩ := hV
 dsimp only [nums, List.map]
 obtain ⟨xsq, rfl, q0, q1, q2, q3, q4, q5, q6, q7, q8, q9, q10, q11, q12, q13, q14, q15, q16, q17, q18, q19, rfl, hQX, hQY, hQZ, hQT⟩ := hW
 dsimp only [nums, List.map]
 refine FnX.enter (N := 29) Tryz.func77 rfl rfl rfl fun w => ?_
 refine C4 (D5 0 1) (A3 ?_)
 refine A6 rfl (bx_ fun b2 => ?_)
 refine A6 rfl (bx_ fun b3 => ?_)
 refine as_ (A0 (D5 2 3) ?_)
 refine D2 (.range 25) [(0, 0), (1, 1), (2, 0), (3, 1), (5, 0), (6, 1), (7, 0), (8, 1), (4, 2), (9, 2), (10, 2), (11, 0), (12, 0), (13, 1), (14, 0), (15, 1), (17, 0), (18, 1), (19, 0), (20, 1), (16, 2), (21, 2), (22, 2), (23, 0), (24, 0)] kR kR fun hs => ?_
 refine D1 hs rfl (qf_ 0 0) rfl ?_
 refine F7 hs rfl (H2 (n := 5) rfl kR (by first | exact At.mem | exact mA (by assumption)) TakeC.take) rfl ?_
 refine D1 hs rfl (qf_ 10 10) rfl ?_
 refine F7 hs rfl (H2 (n := 5) rfl kR (by first | exact At.mem | exact mA (by assumption)) TakeC.take) rfl ?_
 refine D1 hs rfl (qf_ 0 0) rfl ?_
 refine F7 hs rfl (H2 (n := 5) rfl kR (by first | exact At.mem | exact mA (by assumption)) TakeC.take) rfl ?_
 refine D1 hs rfl (qf_ 10 10) rfl ?_
 refine F7 hs rfl (H2 (n := 5) rfl kR (by first | exact At.mem | exact mA (by assumption)) TakeC.take) rfl ?_
 refine G1 rfl (aS rfl (aS rfl a0)) kR (T4 hPX hQZ _) rfl ?_
 rintro rn4 Mn4 Jn4 ⟨rfl, rfl, kn4⟩
 have hn4 := kn4
 obtain ⟨an4, bn4, cn4, dn4, en4, rfl, -⟩ := kn4
 refine G1 rfl (aS rfl (aS rfl a0)) kR (T4 hQX hPZ _) rfl ?_
 rintro rn9 Mn9 Jn9 ⟨rfl, rfl, kn9⟩
 have hn9 := kn9
 obtain ⟨an9, bn9, cn9, dn9, en9, rfl, -⟩ := kn9
 refine T6 rfl (aS rfl (aS rfl a0)) kR (A0v _ _ _ _ hn4 hn9 _) rfl ?_
 refine fm_ hs ?_
 refine W8 (t := 16) rfl (fun hb => ?_) (fun hb => ?_)
 ·
  have hx : fM P.X Q.Z = fM Q.X P.Z := of_decide_eq_true hb
  refine L6 hs rfl rfl rfl rfl (qf_ 5 5) rfl ?_
  refine Y6 hs rfl rfl rfl rfl (H2 (n := 5) rfl kR (by first | exact At.mem | exact mA (by assumption)) TakeC.take) rfl ?_
  refine L6 hs rfl rfl rfl rfl (qf_ 10 10) rfl ?_
  refine Y6 hs rfl rfl rfl rfl (H2 (n := 5) rfl kR (by first | exact At.mem | exact mA (by assumption)) TakeC.take) rfl ?_
  refine L6 hs rfl rfl rfl rfl (qf_ 5 5) rfl ?_
  refine Y6 hs rfl rfl rfl rfl (H2 (n := 5) rfl kR (by first | exact At.mem | exact mA (by assumption)) TakeC.take) rfl ?_
  refine L6 hs rfl rfl rfl rfl (qf_ 10 10) rfl ?_
  refine Y6 hs rfl rfl rfl rfl (H2 (n := 5) rfl kR (by first | exact At.mem | exact mA (by assumption)) TakeC.take) rfl ?_
  refine A24 rfl rfl rfl rfl (aS rfl (aS rfl a0)) kR (T4 hPY hQZ _) rfl ?_
  rintro rn16 Mn16 Jn16 ⟨rfl, rfl, kn16⟩
  have hn16 := kn16
  obtain ⟨an16, bn16, cn16, dn16, en16, rfl, -⟩ := kn16
  refine A24 rfl rfl rfl rfl (aS rfl (aS rfl a0)) kR (T4 hQY hPZ _) rfl ?_
  rintro rn21 Mn21 Jn21 ⟨rfl, rfl, kn21⟩
  have hn21 := kn21
  obtain ⟨an21, bn21, cn21, dn21, en21, rfl, -⟩ := kn21
  refine A1Z rfl rfl rfl rfl (aS rfl (aS rfl a0)) kR (A0v _ _ _ _ hn16 hn21 _) rfl ?_
  refine D1 hs rfl (I5 rfl rfl) rfl ?_
  refine fa_ hs ?_
  refine E4 (D8 4) (C3 ?_)
  exact ⟨_, [], [], K2 rfl rfl, List.nil_sublist _, by simp, by unfold A5H; rw [decide_eq_true hx]; rfl, rfl, rfl⟩
 ·
  have hx : ¬ fM P.X Q.Z = fM Q.X P.Z := of_decide_eq_false hb
  refine L7 hs ?_
  refine U8 hs ?_
  refine L7 hs ?_
  refine U8 hs ?_
  refine L7 hs ?_
  refine U8 hs ?_
  refine L7 hs ?_
  refine U8 hs ?_
  refine A7A hs rfl rfl rfl rfl rfl rfl ?_
  refine A7A hs rfl rfl rfl rfl rfl rfl ?_
  refine A7A hs rfl rfl rfl rfl rfl rfl ?_
  refine D1 hs rfl (E9 rfl rfl) rfl ?_
  refine fa_ hs ?_
  refine E4 (D8 4) (C3 ?_)
  exact ⟨_, [], [], K2 rfl rfl, List.nil_sublist _, by simp, by unfold A5H; rw [decide_eq_false hx]; rfl, rfl, rfl⟩
theorem B1W (v : Value) (ws : LN) (A : Mem) (hv : By A v ws) : FnX Tryz.prog 73 [v] [] A fun r M J => M = [] ∧ J = [] ∧ RdR r ws := by
 haveI := hv.cel
 have hvl := hv.len
 refine FnX.enter (N := 32) Tryz.func73 rfl rfl rfl fun w => ?_
 refine C4 (D8 0) (A3 ?_)
 refine A6 rfl (C5 (cs := [A7, A7, A7, A7, A7, A7, A7, A7, A7, A7, A7, A7, A7, A7, A7, A7, A7, A7, A7, A7]) kR rfl fun b2 => ?_)
 refine as_ (A0 (D5 0 2) (A5 (A3 (mv_ ?_))))
 refine A4 (K1 (sz := 1) rfl kR hv.rd) rfl ?_
 refine A4 (F1 rfl rfl rfl) rfl ?_
 refine A0 (E2 0 2 8) ?_
 refine C7 rfl ?_ ?_ <;> intro hc
 ·
  have h32 : ¬ ws.length = 32 := by simp at hc; omega
  refine A3 ?_
  refine A4 (F3 (place := fun x => #[(0, 5), (5, 5), (10, 5), (15, 5)][x]?) (z := [A7, A7, A7, A7, A7, A7, A7, A7, A7, A7, A7, A7, A7, A7, A7, A7, A7, A7, A7, A7]) (fun _ => by kernel_rfl) e0 bd0) rfl ?_
  refine A6 rfl (A8 rfl rfl Cel.cel kR A26 A27 UpC.upd ?_)
  refine as_ (A0 (D5 2 3) (C3 (tr ?_)))
  exact ⟨_, [], [], A1m rfl rfl rfl kR At.mem qR, List.nil_sublist _, by simp, rfl, rfl, ⟨_, _, rfl, .inr ⟨B1V h32, rfl, ⟨_, rfl, _, _, _, _, _, _, _, _, _, _, _, _, _, _, _, _, _, _, _, _, rfl, K8, K8, K8, K8⟩⟩⟩⟩
 ·
  have h32 : ws.length = 32 := by simp at hc; omega
  refine A9 (nx (D5 0 2) ?_)
  refine I0 ([]) (_) true [0, 1, 2, 3, 4, 5, 6, 7, 8, 9, 10, 12] [(0, 0), (2, 0), (3, 0), (4, 1), (5, 0), (1, 8), (6, 8), (7, 8), (8, 8), (10, 8), (9, 10), (11, 2), (12, 0)] kR kR qP fun hs K n0 hKm hKs hKn => ?_
  refine km_ hs ?_
  refine km_ hs ?_
  refine I8 hs rfl (K0 (sz := 1) (a := 31) rfl rfl kR rfl hv.rd qO) rfl ?_
  refine Q0 hs rfl hKs (A00 (j := 31) (u := .int .u8 ((ws.getD 31 0 : Nat) : Int)) (hv.rd.mono qS) rfl kR (W6 qO)) ?_
  refine I8 hs rfl (F4 (decide (128 ≤ ws.getD 31 0)) rfl rfl (B7X _ 128)) rfl ?_
  refine A2c [⟨1, 12, none, [], fun v B _ => B = [] ∧ Fe v (rdN ws)⟩, ⟨6, 17, none, [], fun v B _ => B = [] ∧ AtR v (rdN ws) (decide (128 ≤ ws.getD 31 0))⟩, ⟨7, 10, none, [], fun v B _ => B = [] ∧ AtR v (rdN ws) (decide (128 ≤ ws.getD 31 0))⟩, ⟨8, 18, none, [], fun v B _ => B = [] ∧ ∃ P, FeP v P ∧ ∀ x, atN (rdN ws) (decide (128 ≤ ws.getD 31 0)) = some x → P = pAt x (rdN ws)⟩, ⟨10, 4, none, [], fun v B _ => ∃ b, v = (vP b) ∧ B = [(b, blk [.int .u64 0, .int .u64 0, .int .u64 0, .int .u64 0, .int .u64 0, .int .u64 0, .int .u64 0, .int .u64 0, .int .u64 0, .int .u64 0, .int .u64 0, .int .u64 0, .int .u64 0, .int .u64 0, .int .u64 0, .int .u64 0, .int .u64 0, .int .u64 0, .int .u64 0, .int .u64 0] 126)]⟩] [⟨9, 19, none, [], fun v B _ => B = [] ∧ v = .bool (atN (rdN ws) (decide (128 ≤ ws.getD 31 0))).isSome⟩] (_) (fun bs => [bs 1, bs 6, bs 7, bs 8, bs 10, bs 9]) (hKn rfl) (List.Perm.refl _) (show ∀ m ∈ ([[], [], [], [], [], []] : List Mem), ∀ x ∈ m, K x.1 from C1 (fun _ h => by cases h) (C1 (fun _ h => by cases h) (C1 (fun _ h => by cases h) (C1 (fun _ h => by cases h) (C1 (fun _ h => by cases h) (C1 (fun _ h => by cases h) (K7))))))) kR (fun _ => by first | rfl | kernel_rfl)
   (C1 (fun _ _ _ _ _ h => h) (C1 (fun _ _ _ _ _ h => h) (C1 (fun _ _ _ _ _ h => h) (C1 (fun _ _ _ _ _ h => h) (C1 (fun _ _ _ _ _ h => h) (C1 (fun _ _ _ _ _ h => h) (K7))))))) (show List.Nodup [12, 17, 10, 18, 4, 19] by decide) (show List.Nodup [1, 6, 7, 8, 10, 9] by decide) (C1 (C8 rfl) (C1 (C8 rfl) (C1 (C8 rfl) (C1 (C8 rfl) (C1 (C8 rfl) (C1 (C8 rfl) (K7)))))))
   hs (List.cons_ne_nil _ _) (C1 ⟨_, rfl, fun vs bs R Rj wG hb hj hjr ha => ⟨.inl rfl, ?_⟩⟩ (C1 ⟨_, rfl, fun vs bs R Rj wG hb hj hjr ha => ⟨.inl rfl, ?_⟩⟩ (C1 ⟨_, rfl, fun vs bs R Rj wG hb hj hjr ha => ⟨.inl rfl, ?_⟩⟩ (C1 ⟨_, rfl, fun vs bs R Rj wG hb hj hjr ha => ⟨.inl rfl, ?_⟩⟩ (C1 ⟨_, rfl, fun vs bs R Rj wG hb hj hjr ha => ⟨.inl rfl, ?_⟩⟩ (K7)))))) (C1 ⟨rfl, rfl, _, _, _, _, rfl, fun vs bs Rj hj ha => ?_⟩ (K7)) ?_
  ·
   dsimp only [Gc.inp]
   refine D7 (aS rfl a0) kR (A4G v ws _ (hv.rd.mono (fun x hx => by have := hb x (by simp [hx]); simp [this])) hv.lt qO) rfl ?_
   rintro r M1 J1 ⟨rfl, rfl, hh⟩
   exact ⟨_, rfl, rfl, hh⟩
  ·
   dsimp only [Gc.inp]
   have g1 := ha _ (List.mem_of_getElem? (i := 0) rfl) kR
   replace g1 : (fun v B _ => B = [] ∧ Fe v (rdN ws)) (vs 1) (bs 1) Rj := g1
   dsimp only at g1
   obtain ⟨-, k1⟩ := g1
   refine D7 (aS rfl (aS rfl a0)) kR (at_f _ _ _ k1 _) rfl ?_
   rintro r M1 J1 ⟨rfl, rfl, hh⟩
   exact ⟨_, rfl, rfl, hh⟩
  ·
   dsimp only [Gc.inp]
   have g6 := ha _ (List.mem_of_getElem? (i := 1) rfl) kR
   replace g6 : (fun v B _ => B = [] ∧ AtR v (rdN ws) (decide (128 ≤ ws.getD 31 0))) (vs 6) (bs 6) Rj := g6
   dsimp only at g6
   obtain ⟨-, k6⟩ := g6
   exact OpQ.opL qm_ rfl ⟨_, rfl, rfl, k6⟩
  ·
   dsimp only [Gc.inp]
   have g7 := ha _ (List.mem_of_getElem? (i := 2) rfl) kR
   replace g7 : (fun v B _ => B = [] ∧ AtR v (rdN ws) (decide (128 ≤ ws.getD 31 0))) (vs 7) (bs 7) Rj := g7
   dsimp only at g7
   obtain ⟨-, k7⟩ := g7
   obtain ⟨V, b, hw, hr⟩ := k7
   refine OpQ.opL (N2 (vs := #[V, .bool b]) (by rw [← hw]; rfl) rfl) rfl ⟨_, rfl, rfl, ?_⟩
   rcases hr with ⟨x, h1, -, h2⟩ | ⟨h1, -, h2⟩
   · exact ⟨_, h2, fun y hy => by rw [h1] at hy; cases hy; rfl⟩
   · exact ⟨_, h2, fun y hy => by rw [h1] at hy; cases hy⟩
  ·
   dsimp only [Gc.inp]
   exact C5 (cs := [A7, A7, A7, A7, A7, A7, A7, A7, A7, A7, A7, A7, A7, A7, A7, A7, A7, A7, A7, A7]) kR rfl fun b => ⟨_, rfl, b, rfl, rfl⟩
  ·
   have g7 := ha _ (List.mem_of_getElem? (i := 2) rfl) kR
   replace g7 : (fun v B _ => B = [] ∧ AtR v (rdN ws) (decide (128 ≤ ws.getD 31 0))) (vs 7) (bs 7) Rj := g7
   dsimp only at g7
   obtain ⟨-, k7⟩ := g7
   obtain ⟨V, b, hw, hr⟩ := k7
   refine ⟨.bool b, N2 (vs := #[V, .bool b]) (by rw [← hw]; rfl) rfl, rfl, ?_⟩
   rcases hr with ⟨x, h1, rfl, -⟩ | ⟨h1, rfl, -⟩ <;> rw [h1] <;> rfl
  intro vs bs Jn0 hφ hKK
  have kk1 := hKK _ (List.mem_of_getElem? (i := 0) rfl)
  dsimp only at kk1
  have kk6 := hKK _ (List.mem_of_getElem? (i := 1) rfl)
  dsimp only at kk6
  have kk7 := hKK _ (List.mem_of_getElem? (i := 2) rfl)
  dsimp only at kk7
  have kk8 := hKK _ (List.mem_of_getElem? (i := 3) rfl)
  dsimp only at kk8
  have kk10 := hKK _ (List.mem_of_getElem? (i := 4) rfl)
  dsimp only at kk10
  have kk9 := hKK _ (List.mem_of_getElem? (i := 5) rfl)
  dsimp only at kk9
  clear hKK
  have g1 := ofH hφ
  dsimp only at g1
  replace hφ := ofT hφ
  have g6 := ofH hφ
  dsimp only at g6
  replace hφ := ofT hφ
  have g7 := ofH hφ
  dsimp only at g7
  replace hφ := ofT hφ
  have g8 := ofH hφ
  dsimp only at g8
  replace hφ := ofT hφ
  have g10 := ofH hφ
  dsimp only at g10
  replace hφ := ofT hφ
  have g9 := ofH hφ
  dsimp only at g9
  clear hφ
  dsimp only [U0, A0H, List.foldr, List.map, List.cons_append, List.nil_append]
  generalize bs 1 = B12 at *
  generalize bs 6 = B17 at *
  generalize bs 7 = B10 at *
  generalize bs 8 = B18 at *
  generalize bs 10 = B4 at *
  generalize bs 9 = B19 at *
  generalize vs 1 = u12 at *
  generalize vs 6 = u17 at *
  generalize vs 7 = u10 at *
  generalize vs 8 = u18 at *
  generalize vs 10 = u4 at *
  generalize vs 9 = u19 at *
  obtain ⟨rfl, -⟩ := g1
  obtain ⟨rfl, -⟩ := g6
  obtain ⟨rfl, -⟩ := g7
  obtain ⟨rfl, P, hP, hPx⟩ := g8
  obtain ⟨rfl, h9⟩ := g9
  obtain ⟨b10, rfl, rfl⟩ := g10
  obtain ⟨o, ho⟩ : ∃ o, atN (rdN ws) (decide (128 ≤ ws.getD 31 0)) = o := ⟨_, rfl⟩
  rw [ho] at hPx h9
  subst h9
  have hP0 := hP
  obtain ⟨xsp, rfl, p0, p1, p2, p3, p4, p5, p6, p7, p8, p9, p10, p11, p12, p13, p14, p15, p16, p17, p18, p19, rfl, hpX, hpY, hpZ, hpT⟩ := hP
  dsimp only [nums, List.map]
  dsimp only [List.append_eq, List.nil_append, List.cons_append]
  refine P0 rfl rfl rfl (A8 rfl rfl Cel.cel kR A26 A27 UpC.upd ?_)
  refine I8 hs rfl (I4 rfl) rfl ?_
  refine P4 (E7 0 2 4 5) (A5 ?_)
  rcases o with _ | xo
  ·
   refine D2 (.range 10) [(0, 0), (1, 0), (2, 0), (3, 1), (6, 0), (7, 1), (4, 2), (5, 1), (8, 0), (9, 0)] kR kR fun hs => ?_
   refine fm_ hs ?_
   refine D1 hs rfl (A0o rfl) rfl ?_
   refine fm_ hs ?_
   refine U8 hs ?_
   refine L7 hs ?_
   refine U8 hs ?_
   refine A7A hs rfl rfl rfl rfl rfl rfl ?_
   refine U8 hs ?_
   refine L7 hs ?_
   refine D1 hs rfl (I5 rfl rfl) rfl ?_
   refine E4 (E2 2 4 29) ?_
   refine E0 rfl ?_
   refine A3 ?_
   refine A4 (F3 (place := fun x => #[(0, 5), (5, 5), (10, 5), (15, 5)][x]?) (z := [A7, A7, A7, A7, A7, A7, A7, A7, A7, A7, A7, A7, A7, A7, A7, A7, A7, A7, A7, A7]) (fun _ => by kernel_rfl) e0 bd0) rfl ?_
   refine A6 rfl (A8 rfl rfl Cel.cel kR A26 A27 UpC.upd ?_)
   refine as_ (A0 (D5 2 3) (C3 (tr ?_)))
   exact ⟨_, [], [], A1m rfl rfl rfl kR At.mem qR, List.nil_sublist _, by simp, rfl, rfl, ⟨_, _, rfl, .inr ⟨A9Y ho, rfl, ⟨_, rfl, _, _, _, _, _, _, _, _, _, _, _, _, _, _, _, _, _, _, _, _, rfl, K8, K8, K8, K8⟩⟩⟩⟩
  ·
   refine D2 (.range 10) [(0, 0), (1, 0), (2, 0), (3, 1), (6, 0), (4, 3), (5, 3), (7, 4), (8, 0), (9, 0)] kR kR fun hs => ?_
   refine fm_ hs ?_
   refine D1 hs rfl (A0o rfl) rfl ?_
   refine fm_ hs ?_
   refine Y6 hs rfl rfl rfl rfl (qw_ 20) rfl ?_
   refine L6 hs rfl rfl rfl rfl qm_ rfl ?_
   refine N5 [⟨4, 24, fun v B R => Sl 1 v 32 (nums .u8 (pB P)) B ∧ ∀ x ∈ B, x ∈ R⟩, ⟨5, 25, fun v B _ => B = [] ∧ v = .string (txt (pB P))⟩, ⟨7, 27, fun v B _ => B = [] ∧ v = .string (txt ws)⟩]
    (C1 (fun _ _ _ _ hR h => ⟨h.1, fun x hx => hR x (h.2 x hx)⟩) (C1 (fun _ _ _ _ _ h => h) (C1 (fun _ _ _ _ _ h => h) (K7)))) (show List.Nodup [24, 25, 27] by decide) (show List.Nodup [4, 5, 7] by decide) (C1 (C8 rfl) (C1 (C8 rfl) (C1 (C8 rfl) (K7))))
    (C1 ⟨_, rfl, fun vs bs R w hb ha => ⟨.inr ⟨_, _, _, _, rfl, rfl, rfl, rfl⟩, ?_⟩⟩ (C1 ⟨_, rfl, fun vs bs R w hb ha => ⟨.inr ⟨_, _, _, _, rfl, rfl, rfl, rfl⟩, ?_⟩⟩ (C1 ⟨_, rfl, fun vs bs R w hb ha => ⟨.inr ⟨_, _, _, _, rfl, rfl, rfl, rfl⟩, ?_⟩⟩ (K7)))) ?_
   ·
    refine D7 (aS rfl a0) kR (A5B _ P hP0 _) rfl ?_
    rintro r M1 J1 ⟨rfl, hh⟩
    exact ⟨_, rfl, by simpa using hh, fun x hx => List.mem_append_left _ hx⟩
   ·
    have g4 := ha _ (List.mem_of_getElem? (i := 0) rfl) kR
    replace g4 : (fun v B R => Sl 1 v 32 (nums .u8 (pB P)) B ∧ ∀ x ∈ B, x ∈ R) (vs 4) (bs 4) R := g4
    dsimp only at g4
    obtain ⟨k4, k4s⟩ := g4
    exact OpQ.opL (A0z rfl kR (k4.rd fun x hx => k4s x hx)) rfl ⟨_, rfl, rfl, rfl⟩
   ·
    exact OpQ.opL (A0z rfl kR (hv.rd.mono fun x hx => hb _ (qS x hx))) rfl ⟨_, rfl, rfl, rfl⟩
   intro vs bs Jn0 hφ
   have g4 := ofH hφ
   dsimp only at g4
   replace hφ := ofT hφ
   have g5 := ofH hφ
   dsimp only at g5
   replace hφ := ofT hφ
   have g7 := ofH hφ
   dsimp only at g7
   clear hφ
   dsimp only [U9, Q4, List.map, List.flatten, List.cons_append, List.nil_append]
   generalize bs 4 = B24 at *
   generalize bs 5 = B25 at *
   generalize bs 7 = B27 at *
   generalize vs 4 = u24 at *
   generalize vs 5 = u25 at *
   generalize vs 7 = u27 at *
   obtain ⟨k4, -⟩ := g4
   obtain ⟨rfl, rfl⟩ := g5
   obtain ⟨rfl, rfl⟩ := g7
   obtain rfl := hPx _ rfl
   dsimp only [List.append_eq, List.nil_append, List.cons_append]
   refine L6 hs rfl rfl rfl rfl (C1D rfl rfl rfl rfl (B4n _) hv.lt) rfl ?_
   refine D1 hs rfl (E9 rfl rfl) rfl ?_
   refine E4 (E2 2 4 29) ?_
   refine C7 rfl ?_ ?_ <;> intro hc
   ·
    have hne : ¬ pB (pAt xo (rdN ws)) = ws := by simpa using hc
    refine A3 ?_
    refine A4 (F3 (place := fun x => #[(0, 5), (5, 5), (10, 5), (15, 5)][x]?) (z := [A7, A7, A7, A7, A7, A7, A7, A7, A7, A7, A7, A7, A7, A7, A7, A7, A7, A7, A7, A7]) (fun _ => by kernel_rfl) e0 bd0) rfl ?_
    refine A6 rfl (A8 rfl rfl Cel.cel kR A26 A27 UpC.upd ?_)
    refine as_ (A0 (D5 2 3) (C3 (tr ?_)))
    exact ⟨_, [], [], A1m rfl rfl rfl kR At.mem qR, List.nil_sublist _, by simp, rfl, rfl, ⟨_, _, rfl, .inr ⟨B4B h32 ho hne, rfl, ⟨_, rfl, _, _, _, _, _, _, _, _, _, _, _, _, _, _, _, _, _, _, _, _, rfl, K8, K8, K8, K8⟩⟩⟩⟩
   ·
    have hne : pB (pAt xo (rdN ws)) = ws := by simpa using hc
    refine A9 (nx (D5 2 4) (A3 ?_))
    refine A4 (qw_ 20) rfl ?_
    refine A6 rfl (A8 rfl rfl Cel.cel kR A26 A27 UpC.upd ?_)
    refine as_ (A0 (D5 2 3) (C3 ?_))
    exact ⟨_, [], [], A1m rfl rfl rfl kR At.mem qR, List.nil_sublist _, by simp, rfl, rfl, ⟨_, _, rfl, .inl ⟨_, B4C h32 ho hne, rfl, hP0⟩⟩⟩

def H5 (w : LN) : LN := (fun e : LN => (e.set 0 (e.getD 0 0 &&& 248)).set 31 ((e.set 0 (e.getD 0 0 &&& 248)).getD 31 0 % 128 ||| 64)) (R5 w 32)
theorem B1X (w : LN) : R5 w 32 = w.take 32 ++ (List.replicate 32 0).drop w.length := by unfold R5; rw [List.drop_replicate]
theorem A2A (w : LN) : (H5 w).length = 32 := by simp [H5, U6]
structure Lad where
  a : Nat
  b : Nat
  c : Nat
  d : Nat
def A4j (u : Nat) (s : Lad) : Lad :=
  let p := fA s.a s.b
  let q := fS s.a s.b
  let ss := fM p p
  let tt := fM q q
  let e := fS ss tt
  let da := fM (fS s.c s.d) p
  let cb := fM (fA s.c s.d) q
  ⟨fM ss tt, fM e (fA ss (fM 121665 e)), fM (fA da cb) (fA da cb), fM u (fM (fS da cb) (fS da cb))⟩
def swL (b : Bool) (s : Lad) : Lad := if b then ⟨s.c, s.d, s.a, s.b⟩ else s
def A0l (u n : Nat) : Nat → Lad
  | 0 => ⟨1, 0, u, 1⟩
  | k + 1 => (fun bt => swL bt (A4j u (swL bt (A0l u n k)))) (decide (n / 2 ^ (254 - k) % 2 = 1))
theorem A60 {u n i : Nat} (h : i < 255) : A0l u n (255 - i) = swL (decide (n / 2 ^ i % 2 = 1)) (A4j u (swL (decide (n / 2 ^ i % 2 = 1)) (A0l u n (255 - (i + 1))))) := by
  obtain ⟨k, hk⟩ : ∃ k, 255 - i = k + 1 := ⟨254 - i, by omega⟩
  have e1 : 255 - (i + 1) = k := by omega
  have e2 : i = 254 - k := by omega
  rw [hk, e1, e2]; rfl
noncomputable def x25 (s p : LN) : LN := X3 8 32 (fM (A0l (rdN p) (bv (H5 s)) 255).a (fI (A0l (rdN p) (bv (H5 s)) 255).b)) 255
def B4D : LN := 9 :: List.replicate 31 0
noncomputable def V4 (s : LN) : LN := x25 s B4D
theorem A5P (s p : LN) : (x25 s p).length = 32 := by simp [x25, L4]
theorem B6g (s p : LN) : ∀ x ∈ x25 s p, x < 256 := A0F _ _
theorem B6h {x : Nat} (h : x < 256) : (x &&& 248) < 256 := Nat.lt_of_le_of_lt Nat.and_le_left h
theorem or64 {x : Nat} (h : x < 128) : (x ||| 64) < 256 := Nat.lt_of_lt_of_le (Nat.or_lt_two_pow (n := 7) h qD) qD
theorem A61 {w : LN} (h : ∀ x ∈ w, x < 256) : ∀ x ∈ H5 w, x < 256 := by
  intro x hx
  have hf := A2y h 32
  unfold H5 at hx
  rcases List.mem_or_eq_of_mem_set hx with h1 | rfl
  · rcases List.mem_or_eq_of_mem_set h1 with h1 | rfl
    · exact hf x h1
    · exact B6h (Go.Px.getD_lt hf qD)
  · exact or64 (Nat.mod_lt _ qD)
theorem B71 (v : Value) (wc : LN) (A : Mem) (hv : By A v wc) : FnV Tryz.prog 58 [v] A (.agg (nums .u8 (H5 wc)).toArray) := by
 haveI := hv.cel
 have hvl := hv.len
 refine FnX.enter (N := 17) Tryz.func58 rfl rfl rfl fun w => ?_
 refine C4 (D8 0) (A3 ?_)
 refine A6 rfl (C5 (cs := [zu8, zu8, zu8, zu8, zu8, zu8, zu8, zu8, zu8, zu8, zu8, zu8, zu8, zu8, zu8, zu8, zu8, zu8, zu8, zu8, zu8, zu8, zu8, zu8, zu8, zu8, zu8, zu8, zu8, zu8, zu8, zu8]) kR rfl fun b2 => ?_)
 refine A0 (D5 0 2) (A3 ?_)
 refine A6 rfl (C5 (cs := [zu8, zu8, zu8, zu8, zu8, zu8, zu8, zu8, zu8, zu8, zu8, zu8, zu8, zu8, zu8, zu8, zu8, zu8, zu8, zu8, zu8, zu8, zu8, zu8, zu8, zu8, zu8, zu8, zu8, zu8, zu8, zu8]) kR rfl fun b3 => ?_)
 refine A0 (E2 0 2 3) ?_
 refine A0p (M' := [(b3, blk (nums .u8 (List.replicate 32 0)) 110), (b2, blk [.int .u8 0, .int .u8 0, .int .u8 0, .int .u8 0, .int .u8 0, .int .u8 0, .int .u8 0, .int .u8 0, .int .u8 0, .int .u8 0, .int .u8 0, .int .u8 0, .int .u8 0, .int .u8 0, .int .u8 0, .int .u8 0, .int .u8 0, .int .u8 0, .int .u8 0, .int .u8 0, .int .u8 0, .int .u8 0, .int .u8 0, .int .u8 0, .int .u8 0, .int .u8 0, .int .u8 0, .int .u8 0, .int .u8 0, .int .u8 0, .int .u8 0, .int .u8 0] 110)]) (Fit.eq rfl) qI ?_
 refine A3 ?_
 refine A4 (B0E (sz := 1) (e := 5) (n := 32) rfl kR kR) rfl ?_
 refine mv_ ?_
 refine A6 rfl (B07 (e := 5) (us := wc) (ws := List.replicate 32 0) (ws' := R5 wc 32) (by_ := 1) rfl rfl kR (hv.rd.mono qS) qM (B1X wc) UpC.upd rfl ?_)
 have hfl := U6 wc 32
 have hflt := A2y hv.lt 32
 have hcl : H5 wc = ((R5 wc 32).set 0 ((R5 wc 32).getD 0 0 &&& 248)).set 31 (((R5 wc 32).set 0 ((R5 wc 32).getD 0 0 &&& 248)).getD 31 0 % 128 ||| 64) := rfl
 generalize R5 wc 32 = e at *
 have he0 : e.getD 0 0 < 256 := Go.Px.getD_lt hflt qD
 have he1 : (e.set 0 (e.getD 0 0 &&& 248)).getD 31 0 < 256 := Go.Px.getD_lt (fun x hx => by rcases List.mem_or_eq_of_mem_set hx with h | rfl; exact hflt x h; exact B6h he0) qD
 refine A0 (D5 2 3) (A3 ?_)
 refine A4 (E5 (e := 5) (n := 32) (sz := 1) (i := 0) rfl rfl kR kR rfl qO) rfl ?_
 refine A4 (Q9 0 rfl kR At.mem rfl qO) rfl ?_
 refine A4 (B6M (b := 248) rfl rfl rfl (by show _ < 256; exact he0) qD) rfl ?_
 refine A4 (E5 (e := 5) (n := 32) (sz := 1) (i := 0) rfl rfl kR kR rfl qO) rfl ?_
 refine A6 rfl (T7 0 rfl rfl kR rfl qO UpC.upd ?_)
 refine A0 (D5 2 3) (A3 ?_)
 refine A4 (E5 (e := 5) (n := 32) (sz := 1) (i := 31) rfl rfl kR kR rfl qO) rfl ?_
 refine A4 (Q9 31 rfl kR At.mem rfl (by rw [List.length_set]; omega)) rfl ?_
 refine A4 (N4 7 128 rfl rfl rfl rfl rfl (by show _ < 256; exact he1) qD) rfl ?_
 refine A4 (B5A (b := 64) rfl rfl rfl (by show _ < 256; exact Nat.lt_trans (Nat.mod_lt _ qD) qD) qD) rfl ?_
 refine A4 (E5 (e := 5) (n := 32) (sz := 1) (i := 31) rfl rfl kR kR rfl qO) rfl ?_
 refine A6 rfl (T7 31 rfl rfl kR rfl (by rw [List.length_set]; omega) UpC.upd ?_)
 rw [← hcl]
 have hcn := A2A wc
 refine A0 (D5 2 3) (A3 ?_)
 refine A4 (H6 (n := 32) (cs := nums .u8 (H5 wc)) rfl kR At.mem (by rw [nums_len]; omega)) rfl ?_
 refine A6 rfl (A8 (vs := nums .u8 (H5 wc)) rfl rfl rfl (by rw [nums_len, hcn]; kernel_rfl) (by rw [nums_len, hcn]; rfl) E8 UpC.upd ?_)
 refine A0 (D8 2) (C3 ?_)
 exact ⟨_, [], [], A1x (n := 32) rfl rfl kR At.mem (by rw [nums_len, hcn]), List.nil_sublist _, by simp, rfl, rfl, rfl⟩
def LadR (r : Value) (s : Lad) : Prop := ∃ v0 v1 v2 v3, r = .tuple #[v0, v1, v2, v3] ∧ Fe v0 s.a ∧ Fe v1 s.b ∧ Fe v2 s.c ∧ Fe v3 s.d
theorem A5Q {xs : LN} {n : Nat} (h : Fe (.agg (nums .u64 xs).toArray) n) : ∃ a b c d e, xs = [a, b, c, d, e] := by
  obtain ⟨a, b, c, d, e, h1, -⟩ := h
  refine ⟨a, b, c, d, e, ?_⟩
  have h2 := congrArg Array.toList (Value.agg.inj h1)
  exact A6U (k := .u64) (b := [a, b, c, d, e]) h2
theorem B6i (vu va vb vc vd : Value) (xu xa xb xc xd : Nat) (A : Mem) (hU : Fe vu xu) (hA : Fe va xa) (hB : Fe vb xb) (hC : Fe vc xc) (hD : Fe vd xd) : FnX Tryz.prog 61 [vu, va, vb, vc, vd] [] A fun r M J => M = [] ∧ J = [] ∧ LadR r (A4j xu ⟨xa, xb, xc, xd⟩) := by
 have hU0 := hU
 obtain ⟨pu0, pu1, pu2, pu3, pu4, rfl, -⟩ := hU
 have hA0 := hA
 obtain ⟨pa0, pa1, pa2, pa3, pa4, rfl, -⟩ := hA
 have hB0 := hB
 obtain ⟨pb0, pb1, pb2, pb3, pb4, rfl, -⟩ := hB
 have hC0 := hC
 obtain ⟨pc0, pc1, pc2, pc3, pc4, rfl, -⟩ := hC
 have hD0 := hD
 obtain ⟨pd0, pd1, pd2, pd3, pd4, rfl, -⟩ := hD
 refine FnX.enter (N := 68) Tryz.func61 rfl rfl rfl fun w => ?_
 refine C4 (F5 0 1 2 3 4) (A3 ?_)
 refine A6 rfl (bx_ fun b5 => ?_)
 refine A6 rfl (bx_ fun b6 => ?_)
 refine A6 rfl (bx_ fun b7 => ?_)
 refine A6 rfl (bx_ fun b8 => ?_)
 refine A6 rfl (bx_ fun b9 => ?_)
 refine A6 rfl (C5 (cs := [A7, A7, A7, A7, A7]) kR rfl fun b10 => ?_)
 refine A6 rfl (C5 (cs := [A7, A7, A7, A7, A7]) kR rfl fun b11 => ?_)
 refine A6 rfl (C5 (cs := [A7, A7, A7, A7, A7]) kR rfl fun b12 => ?_)
 refine A6 rfl (C5 (cs := [A7, A7, A7, A7, A7]) kR rfl fun b13 => ?_)
 refine A0 (A7q 5 6 7 8 9 10 11 12 13) ?_
 refine D2 (.range 8) [(0, 1), (1, 1), (3, 1), (4, 1), (2, 3), (5, 3), (6, 3), (7, 4), (8, 2), (9, 2)] kR kR fun hs => ?_
 refine F7 hs rfl (qw_ 5) rfl ?_
 refine F7 hs rfl (qw_ 5) rfl ?_
 refine F7 hs rfl (qw_ 5) rfl ?_
 refine F7 hs rfl (qw_ 5) rfl ?_
 refine N5 [⟨2, 25, fun v B _ => B = [] ∧ Fe v (fA xa xb)⟩, ⟨5, 28, fun v B _ => B = [] ∧ Fe v (fS xa xb)⟩, ⟨6, 14, fun v B _ => ∃ b, v = (vP b) ∧ B = [(b, blk [.int .u64 0, .int .u64 0, .int .u64 0, .int .u64 0, .int .u64 0] 113)]⟩, ⟨7, 15, fun v B _ => ∃ b, v = (vP b) ∧ B = [(b, blk [.int .u64 0, .int .u64 0, .int .u64 0, .int .u64 0, .int .u64 0] 113)]⟩]
  (C1 (fun _ _ _ _ _ h => h) (C1 (fun _ _ _ _ _ h => h) (C1 (fun _ _ _ _ _ h => h) (C1 (fun _ _ _ _ _ h => h) (K7))))) (show List.Nodup [25, 28, 14, 15] by decide) (show List.Nodup [2, 5, 6, 7] by decide) (C1 (C8 rfl) (C1 (C8 rfl) (C1 (C8 rfl) (C1 (C8 rfl) (K7)))))
  (C1 ⟨_, rfl, fun vs bs R w hb ha => ⟨.inl rfl, ?_⟩⟩ (C1 ⟨_, rfl, fun vs bs R w hb ha => ⟨.inl rfl, ?_⟩⟩ (C1 ⟨_, rfl, fun vs bs R w hb ha => ⟨.inl rfl, ?_⟩⟩ (C1 ⟨_, rfl, fun vs bs R w hb ha => ⟨.inl rfl, ?_⟩⟩ (K7))))) ?_
 ·
  refine D7 (aS rfl (aS rfl (a0))) kR (A4h hA0 hB0 _) rfl ?_
  rintro r M1 J1 ⟨rfl, rfl, hh⟩
  exact ⟨_, rfl, rfl, hh⟩
 ·
  refine D7 (aS rfl (aS rfl (a0))) kR (A5x hA0 hB0 _) rfl ?_
  rintro r M1 J1 ⟨rfl, rfl, hh⟩
  exact ⟨_, rfl, rfl, hh⟩
 ·
  exact C5 (cs := [A7, A7, A7, A7, A7]) kR rfl fun b => ⟨_, rfl, b, rfl, rfl⟩
 ·
  exact C5 (cs := [A7, A7, A7, A7, A7]) kR rfl fun b => ⟨_, rfl, b, rfl, rfl⟩
 intro vs bs Jn0 hφ
 have g2 := ofH hφ
 dsimp only at g2
 replace hφ := ofT hφ
 have g5 := ofH hφ
 dsimp only at g5
 replace hφ := ofT hφ
 have g6 := ofH hφ
 dsimp only at g6
 replace hφ := ofT hφ
 have g7 := ofH hφ
 dsimp only at g7
 clear hφ
 dsimp only [U9, Q4, List.map, List.flatten, List.cons_append, List.nil_append]
 generalize bs 2 = B25 at *
 generalize bs 5 = B28 at *
 generalize bs 6 = B14 at *
 generalize bs 7 = B15 at *
 generalize vs 2 = u25 at *
 generalize vs 5 = u28 at *
 generalize vs 6 = u14 at *
 generalize vs 7 = u15 at *
 obtain ⟨rfl, k2⟩ := g2
 have h2 := k2
 obtain ⟨a2, b2, c2, d2, e2, rfl, -⟩ := k2
 obtain ⟨rfl, k5⟩ := g5
 have h5 := k5
 obtain ⟨a5, b5, c5, d5, e5, rfl, -⟩ := k5
 obtain ⟨b6, rfl, rfl⟩ := g6
 obtain ⟨b7, rfl, rfl⟩ := g7
 dsimp only [List.append_eq, List.nil_append, List.cons_append]
 have hp := h2
 have hq := h5
 clear h2 h5
 refine G5 rfl rfl rfl (A8 rfl rfl Cel.cel kR ln5 al5 UpC.upd ?_)
 refine G5 rfl rfl rfl (A8 rfl rfl Cel.cel kR ln5 al5 UpC.upd ?_)
 refine E4 (A7q 5 8 9 10 11 12 13 14 15) ?_
 refine D2 [0, 1, 2, 3, 4, 5] [(0, 1), (2, 1), (1, 3), (3, 3), (4, 3), (5, 4), (6, 2), (7, 2)] kR kR fun hs => ?_
 refine F7 hs rfl (qw_ 5) rfl ?_
 refine F7 hs rfl (qw_ 5) rfl ?_
 refine N5 [⟨1, 30, fun v B _ => B = [] ∧ Fe v (fM (fA xa xb) (fA xa xb))⟩, ⟨3, 32, fun v B _ => B = [] ∧ Fe v (fM (fS xa xb) (fS xa xb))⟩, ⟨4, 16, fun v B _ => ∃ b, v = (vP b) ∧ B = [(b, blk [.int .u64 0, .int .u64 0, .int .u64 0, .int .u64 0, .int .u64 0] 113)]⟩, ⟨5, 17, fun v B _ => ∃ b, v = (vP b) ∧ B = [(b, blk [.int .u64 0, .int .u64 0, .int .u64 0, .int .u64 0, .int .u64 0] 113)]⟩]
  (C1 (fun _ _ _ _ _ h => h) (C1 (fun _ _ _ _ _ h => h) (C1 (fun _ _ _ _ _ h => h) (C1 (fun _ _ _ _ _ h => h) (K7))))) (show List.Nodup [30, 32, 16, 17] by decide) (show List.Nodup [1, 3, 4, 5] by decide) (C1 (C8 rfl) (C1 (C8 rfl) (C1 (C8 rfl) (C1 (C8 rfl) (K7)))))
  (C1 ⟨_, rfl, fun vs bs R w hb ha => ⟨.inl rfl, ?_⟩⟩ (C1 ⟨_, rfl, fun vs bs R w hb ha => ⟨.inl rfl, ?_⟩⟩ (C1 ⟨_, rfl, fun vs bs R w hb ha => ⟨.inl rfl, ?_⟩⟩ (C1 ⟨_, rfl, fun vs bs R w hb ha => ⟨.inl rfl, ?_⟩⟩ (K7))))) ?_
 ·
  refine D7 (aS rfl (a0)) kR (B9O hp _) rfl ?_
  rintro r M1 J1 ⟨rfl, rfl, hh⟩
  exact ⟨_, rfl, rfl, hh⟩
 ·
  refine D7 (aS rfl (a0)) kR (B9O hq _) rfl ?_
  rintro r M1 J1 ⟨rfl, rfl, hh⟩
  exact ⟨_, rfl, rfl, hh⟩
 ·
  exact C5 (cs := [A7, A7, A7, A7, A7]) kR rfl fun b => ⟨_, rfl, b, rfl, rfl⟩
 ·
  exact C5 (cs := [A7, A7, A7, A7, A7]) kR rfl fun b => ⟨_, rfl, b, rfl, rfl⟩
 intro vs bs Jn0 hφ
 have g1 := ofH hφ
 dsimp only at g1
 replace hφ := ofT hφ
 have g3 := ofH hφ
 dsimp only at g3
 replace hφ := ofT hφ
 have g4 := ofH hφ
 dsimp only at g4
 replace hφ := ofT hφ
 have g5 := ofH hφ
 dsimp only at g5
 clear hφ
 dsimp only [U9, Q4, List.map, List.flatten, List.cons_append, List.nil_append]
 generalize bs 1 = B30 at *
 generalize bs 3 = B32 at *
 generalize bs 4 = B16 at *
 generalize bs 5 = B17 at *
 generalize vs 1 = u30 at *
 generalize vs 3 = u32 at *
 generalize vs 4 = u16 at *
 generalize vs 5 = u17 at *
 obtain ⟨rfl, k1⟩ := g1
 have h1 := k1
 obtain ⟨a1, b1, c1, d1, e1, rfl, -⟩ := k1
 obtain ⟨rfl, k3⟩ := g3
 have h3 := k3
 obtain ⟨a3, b3, c3, d3, e3, rfl, -⟩ := k3
 obtain ⟨b4, rfl, rfl⟩ := g4
 obtain ⟨b5, rfl, rfl⟩ := g5
 dsimp only [List.append_eq, List.nil_append, List.cons_append]
 have hss := h1
 have htt := h3
 clear h1 h3
 refine G5 rfl rfl rfl (A8 rfl rfl Cel.cel kR ln5 al5 UpC.upd ?_)
 refine G5 rfl rfl rfl (A8 rfl rfl Cel.cel kR ln5 al5 UpC.upd ?_)
 refine E4 (kq 5 (kq 8 (A7q 9 10 11 12 13 14 15 16 17))) ?_
 refine A3 ?_
 refine A4 (qw_ 5) rfl ?_
 refine A4 (qw_ 5) rfl ?_
 refine C9 (aS rfl (aS rfl a0)) kR (A5x hss htt _) rfl ?_
 rintro r35 M35 J35 ⟨rfl, rfl, k35⟩
 have h35 := k35
 obtain ⟨a35, b35, c35, d35, e35, rfl, -⟩ := k35
 refine A6 rfl (C5 (cs := [A7, A7, A7, A7, A7]) kR rfl fun b18 => ?_)
 refine A6 rfl (A8 rfl rfl Cel.cel kR ln5 al5 UpC.upd ?_)
 refine A0 (kq 5 (kq 8 (kq 9 (A7q 10 11 12 13 14 15 16 17 18)))) ?_
 refine D2 [0, 1, 2, 3, 4, 5] [(0, 1), (1, 1), (3, 1), (2, 3), (4, 3), (5, 4), (6, 2)] kR kR fun hs => ?_
 refine F7 hs rfl (qw_ 5) rfl ?_
 refine F7 hs rfl (qw_ 5) rfl ?_
 refine F7 hs rfl (qw_ 5) rfl ?_
 refine N5 [⟨2, 38, fun v B _ => B = [] ∧ Fe v (fS xc xd)⟩, ⟨4, 40, fun v B _ => B = [] ∧ Fe v (fM (fS xc xd) (fA xa xb))⟩, ⟨5, 19, fun v B _ => ∃ b, v = (vP b) ∧ B = [(b, blk [.int .u64 0, .int .u64 0, .int .u64 0, .int .u64 0, .int .u64 0] 113)]⟩]
  (C1 (fun _ _ _ _ _ h => h) (C1 (fun _ _ _ _ _ h => h) (C1 (fun _ _ _ _ _ h => h) (K7)))) (show List.Nodup [38, 40, 19] by decide) (show List.Nodup [2, 4, 5] by decide) (C1 (C8 rfl) (C1 (C8 rfl) (C1 (C8 rfl) (K7))))
  (C1 ⟨_, rfl, fun vs bs R w hb ha => ⟨.inl rfl, ?_⟩⟩ (C1 ⟨_, rfl, fun vs bs R w hb ha => ⟨.inl rfl, ?_⟩⟩ (C1 ⟨_, rfl, fun vs bs R w hb ha => ⟨.inl rfl, ?_⟩⟩ (K7)))) ?_
 ·
  refine D7 (aS rfl (aS rfl (a0))) kR (A5x hC0 hD0 _) rfl ?_
  rintro r M1 J1 ⟨rfl, rfl, hh⟩
  exact ⟨_, rfl, rfl, hh⟩
 ·
  have g2 := ha _ (List.mem_of_getElem? (i := 0) rfl) kR
  replace g2 : (fun v B _ => B = [] ∧ Fe v (fS xc xd)) (vs 2) (bs 2) R := g2
  dsimp only at g2
  obtain ⟨-, k2⟩ := g2
  refine D7 (aS rfl (aS rfl (a0))) kR (T4 k2 hp _) rfl ?_
  rintro r M1 J1 ⟨rfl, rfl, hh⟩
  exact ⟨_, rfl, rfl, hh⟩
 ·
  exact C5 (cs := [A7, A7, A7, A7, A7]) kR rfl fun b => ⟨_, rfl, b, rfl, rfl⟩
 intro vs bs Jn0 hφ
 have g2 := ofH hφ
 dsimp only at g2
 replace hφ := ofT hφ
 have g4 := ofH hφ
 dsimp only at g4
 replace hφ := ofT hφ
 have g5 := ofH hφ
 dsimp only at g5
 clear hφ
 dsimp only [U9, Q4, List.map, List.flatten, List.cons_append, List.nil_append]
 generalize bs 2 = B38 at *
 generalize bs 4 = B40 at *
 generalize bs 5 = B19 at *
 generalize vs 2 = u38 at *
 generalize vs 4 = u40 at *
 generalize vs 5 = u19 at *
 obtain ⟨rfl, k2⟩ := g2
 have h2 := k2
 obtain ⟨a2, b2, c2, d2, e2, rfl, -⟩ := k2
 obtain ⟨rfl, k4⟩ := g4
 have h4 := k4
 obtain ⟨a4, b4, c4, d4, e4, rfl, -⟩ := k4
 obtain ⟨b5, rfl, rfl⟩ := g5
 dsimp only [List.append_eq, List.nil_append, List.cons_append]
 have hda := h4
 clear h2 h4
 refine G5 rfl rfl rfl (A8 rfl rfl Cel.cel kR ln5 al5 UpC.upd ?_)
 refine E4 (kq 5 (kq 8 (kq 9 (A7q 10 11 12 13 15 16 17 18 19)))) ?_
 refine D2 [0, 1, 2, 3, 4, 5] [(0, 1), (1, 1), (3, 1), (2, 3), (4, 3), (5, 4), (6, 2)] kR kR fun hs => ?_
 refine F7 hs rfl (qw_ 5) rfl ?_
 refine F7 hs rfl (qw_ 5) rfl ?_
 refine F7 hs rfl (qw_ 5) rfl ?_
 refine N5 [⟨2, 43, fun v B _ => B = [] ∧ Fe v (fA xc xd)⟩, ⟨4, 45, fun v B _ => B = [] ∧ Fe v (fM (fA xc xd) (fS xa xb))⟩, ⟨5, 20, fun v B _ => ∃ b, v = (vP b) ∧ B = [(b, blk [.int .u64 0, .int .u64 0, .int .u64 0, .int .u64 0, .int .u64 0] 113)]⟩]
  (C1 (fun _ _ _ _ _ h => h) (C1 (fun _ _ _ _ _ h => h) (C1 (fun _ _ _ _ _ h => h) (K7)))) (show List.Nodup [43, 45, 20] by decide) (show List.Nodup [2, 4, 5] by decide) (C1 (C8 rfl) (C1 (C8 rfl) (C1 (C8 rfl) (K7))))
  (C1 ⟨_, rfl, fun vs bs R w hb ha => ⟨.inl rfl, ?_⟩⟩ (C1 ⟨_, rfl, fun vs bs R w hb ha => ⟨.inl rfl, ?_⟩⟩ (C1 ⟨_, rfl, fun vs bs R w hb ha => ⟨.inl rfl, ?_⟩⟩ (K7)))) ?_
 ·
  refine D7 (aS rfl (aS rfl (a0))) kR (A4h hC0 hD0 _) rfl ?_
  rintro r M1 J1 ⟨rfl, rfl, hh⟩
  exact ⟨_, rfl, rfl, hh⟩
 ·
  have g2 := ha _ (List.mem_of_getElem? (i := 0) rfl) kR
  replace g2 : (fun v B _ => B = [] ∧ Fe v (fA xc xd)) (vs 2) (bs 2) R := g2
  dsimp only at g2
  obtain ⟨-, k2⟩ := g2
  refine D7 (aS rfl (aS rfl (a0))) kR (T4 k2 hq _) rfl ?_
  rintro r M1 J1 ⟨rfl, rfl, hh⟩
  exact ⟨_, rfl, rfl, hh⟩
 ·
  exact C5 (cs := [A7, A7, A7, A7, A7]) kR rfl fun b => ⟨_, rfl, b, rfl, rfl⟩
 intro vs bs Jn0 hφ
 have g2 := ofH hφ
 dsimp only at g2
 replace hφ := ofT hφ
 have g4 := ofH hφ
 dsimp only at g4
 replace hφ := ofT hφ
 have g5 := ofH hφ
 dsimp only at g5
 clear hφ
 dsimp only [U9, Q4, List.map, List.flatten, List.cons_append, List.nil_append]
 generalize bs 2 = B43 at *
 generalize bs 4 = B45 at *
 generalize bs 5 = B20 at *
 generalize vs 2 = u43 at *
 generalize vs 4 = u45 at *
 generalize vs 5 = u20 at *
 obtain ⟨rfl, k2⟩ := g2
 have h2 := k2
 obtain ⟨a2, b2, c2, d2, e2, rfl, -⟩ := k2
 obtain ⟨rfl, k4⟩ := g4
 have h4 := k4
 obtain ⟨a4, b4, c4, d4, e4, rfl, -⟩ := k4
 obtain ⟨b5, rfl, rfl⟩ := g5
 dsimp only [List.append_eq, List.nil_append, List.cons_append]
 have hcb := h4
 clear h2 h4
 refine G5 rfl rfl rfl (A8 rfl rfl Cel.cel kR ln5 al5 UpC.upd ?_)
 refine E4 (kq 5 (A7q 10 11 12 13 16 17 18 19 20)) (A3 ?_)
 refine A4 (qw_ 5) rfl ?_
 refine A4 (qw_ 5) rfl ?_
 refine C9 (aS rfl (aS rfl a0)) kR (A4h hda hcb _) rfl ?_
 rintro r48 M48 J48 ⟨rfl, rfl, k48⟩
 have h48 := k48
 obtain ⟨a48, b48, c48, d48, e48, rfl, -⟩ := k48
 refine C9 (aS rfl a0) kR (B9O h48 _) rfl ?_
 rintro r49 M49 J49 ⟨rfl, rfl, k49⟩
 have h49 := k49
 obtain ⟨a49, b49, c49, d49, e49, rfl, -⟩ := k49
 refine A6 rfl (C5 (cs := [A7, A7, A7, A7, A7]) kR rfl fun b21 => ?_)
 refine A6 rfl (A8 rfl rfl Cel.cel kR ln5 al5 UpC.upd ?_)
 refine A0 (kq 5 (kq 10 (A7q 11 12 13 16 17 18 19 20 21))) ?_
 refine D2 (.range 7) (zp 0 [1, 1, 1, 3, 3, 3, 4, 2]) kR kR fun hs => ?_
 refine F7 hs rfl (qw_ 5) rfl ?_
 refine F7 hs rfl (qw_ 5) rfl ?_
 refine F7 hs rfl (qw_ 5) rfl ?_
 refine N5 [⟨3, 53, fun v B _ => B = [] ∧ Fe v (fS (fM (fS xc xd) (fA xa xb)) (fM (fA xc xd) (fS xa xb)))⟩, ⟨4, 54, fun v B _ => B = [] ∧ Fe v (fM (fS (fM (fS xc xd) (fA xa xb)) (fM (fA xc xd) (fS xa xb))) (fS (fM (fS xc xd) (fA xa xb)) (fM (fA xc xd) (fS xa xb))))⟩, ⟨5, 55, fun v B _ => B = [] ∧ Fe v (fM xu (fM (fS (fM (fS xc xd) (fA xa xb)) (fM (fA xc xd) (fS xa xb))) (fS (fM (fS xc xd) (fA xa xb)) (fM (fA xc xd) (fS xa xb)))))⟩, ⟨6, 22, fun v B _ => ∃ b, v = (vP b) ∧ B = [(b, blk [.int .u64 0, .int .u64 0, .int .u64 0, .int .u64 0, .int .u64 0] 113)]⟩]
  (C1 (fun _ _ _ _ _ h => h) (C1 (fun _ _ _ _ _ h => h) (C1 (fun _ _ _ _ _ h => h) (C1 (fun _ _ _ _ _ h => h) (K7))))) (show List.Nodup [53, 54, 55, 22] by decide) (show List.Nodup [3, 4, 5, 6] by decide) (C1 (C8 rfl) (C1 (C8 rfl) (C1 (C8 rfl) (C1 (C8 rfl) (K7)))))
  (C1 ⟨_, rfl, fun vs bs R w hb ha => ⟨.inl rfl, ?_⟩⟩ (C1 ⟨_, rfl, fun vs bs R w hb ha => ⟨.inl rfl, ?_⟩⟩ (C1 ⟨_, rfl, fun vs bs R w hb ha => ⟨.inl rfl, ?_⟩⟩ (C1 ⟨_, rfl, fun vs bs R w hb ha => ⟨.inl rfl, ?_⟩⟩ (K7))))) ?_
 ·
  refine D7 (aS rfl (aS rfl (a0))) kR (A5x hda hcb _) rfl ?_
  rintro r M1 J1 ⟨rfl, rfl, hh⟩
  exact ⟨_, rfl, rfl, hh⟩
 ·
  have g3 := ha _ (List.mem_of_getElem? (i := 0) rfl) kR
  replace g3 : (fun v B _ => B = [] ∧ Fe v (fS (fM (fS xc xd) (fA xa xb)) (fM (fA xc xd) (fS xa xb)))) (vs 3) (bs 3) R := g3
  dsimp only at g3
  obtain ⟨-, k3⟩ := g3
  refine D7 (aS rfl (a0)) kR (B9O k3 _) rfl ?_
  rintro r M1 J1 ⟨rfl, rfl, hh⟩
  exact ⟨_, rfl, rfl, hh⟩
 ·
  have g4 := ha _ (List.mem_of_getElem? (i := 1) rfl) kR
  replace g4 : (fun v B _ => B = [] ∧ Fe v (fM (fS (fM (fS xc xd) (fA xa xb)) (fM (fA xc xd) (fS xa xb))) (fS (fM (fS xc xd) (fA xa xb)) (fM (fA xc xd) (fS xa xb))))) (vs 4) (bs 4) R := g4
  dsimp only at g4
  obtain ⟨-, k4⟩ := g4
  refine D7 (aS rfl (aS rfl (a0))) kR (T4 hU0 k4 _) rfl ?_
  rintro r M1 J1 ⟨rfl, rfl, hh⟩
  exact ⟨_, rfl, rfl, hh⟩
 ·
  exact C5 (cs := [A7, A7, A7, A7, A7]) kR rfl fun b => ⟨_, rfl, b, rfl, rfl⟩
 intro vs bs Jn0 hφ
 have g3 := ofH hφ
 dsimp only at g3
 replace hφ := ofT hφ
 have g4 := ofH hφ
 dsimp only at g4
 replace hφ := ofT hφ
 have g5 := ofH hφ
 dsimp only at g5
 replace hφ := ofT hφ
 have g6 := ofH hφ
 dsimp only at g6
 clear hφ
 dsimp only [U9, Q4, List.map, List.flatten, List.cons_append, List.nil_append]
 generalize bs 3 = B53 at *
 generalize bs 4 = B54 at *
 generalize bs 5 = B55 at *
 generalize bs 6 = B22 at *
 generalize vs 3 = u53 at *
 generalize vs 4 = u54 at *
 generalize vs 5 = u55 at *
 generalize vs 6 = u22 at *
 obtain ⟨rfl, k3⟩ := g3
 have h3 := k3
 obtain ⟨a3, b3, c3, d3, e3, rfl, -⟩ := k3
 obtain ⟨rfl, k4⟩ := g4
 have h4 := k4
 obtain ⟨a4, b4, c4, d4, e4, rfl, -⟩ := k4
 obtain ⟨rfl, k5⟩ := g5
 have h5 := k5
 obtain ⟨a5, b5, c5, d5, e5, rfl, -⟩ := k5
 obtain ⟨b6, rfl, rfl⟩ := g6
 dsimp only [List.append_eq, List.nil_append, List.cons_append]
 have hzz := h5
 clear h3 h4 h5
 refine G5 rfl rfl rfl (A8 rfl rfl Cel.cel kR ln5 al5 UpC.upd ?_)
 refine E4 (A7q 10 11 12 13 16 17 18 21 22) ?_
 refine I0 ([(b10, blk [.int .u64 0, .int .u64 0, .int .u64 0, .int .u64 0, .int .u64 0] 113), (b11, blk [.int .u64 0, .int .u64 0, .int .u64 0, .int .u64 0, .int .u64 0] 113), (b12, blk [.int .u64 0, .int .u64 0, .int .u64 0, .int .u64 0, .int .u64 0] 113), (b13, blk [.int .u64 0, .int .u64 0, .int .u64 0, .int .u64 0, .int .u64 0] 113)]) (_) true (.range 15) [(0, 1), (1, 1), (3, 1), (4, 1), (6, 1), (10, 1), (11, 1), (2, 2), (5, 2), (7, 2), (8, 2), (9, 2), (12, 2), (13, 2), (14, 2), (15, 2)] kR kR qP fun hs K n0 hKm hKs hKn => ?_
 refine Q0 hs rfl hKs (qw_ 5) ?_
 refine Q0 hs rfl hKs (qw_ 5) ?_
 refine Q0 hs rfl hKs (qw_ 5) ?_
 refine Q0 hs rfl hKs (qw_ 5) ?_
 refine Q0 hs rfl hKs (qw_ 5) ?_
 refine Q0 hs rfl hKs (qw_ 5) ?_
 refine Q0 hs rfl hKs (qw_ 5) ?_
 refine K6 [] _ rfl rfl (List.Perm.refl _) (fun _ h => by cases h) fun w0 => (D7 (aS rfl (aS rfl a0)) kR (T4 hss htt _) rfl ?_)
 rintro r58 M58 J58 ⟨rfl, rfl, k58⟩ _
 have h58 := k58
 obtain ⟨a58, b58, c58, d58, e58, rfl, -⟩ := k58
 dsimp only [List.nil_append, List.append_eq]
 refine K6 [] _ rfl rfl (List.Perm.refl _) (fun _ h => by cases h) fun w0 => (D7 (aS rfl a0) kR (A0T 121665 qD _) rfl ?_)
 rintro r61 M61 J61 ⟨rfl, rfl, k61⟩ _
 have h61 := k61
 obtain ⟨a61, b61, c61, d61, e61, rfl, -⟩ := k61
 dsimp only [List.nil_append, List.append_eq]
 refine K6 [] _ rfl rfl (List.Perm.refl _) (fun _ h => by cases h) fun w0 => (D7 (aS rfl (aS rfl a0)) kR (T4 h61 h35 _) rfl ?_)
 rintro r63 M63 J63 ⟨rfl, rfl, k63⟩ _
 have h63 := k63
 obtain ⟨a63, b63, c63, d63, e63, rfl, -⟩ := k63
 dsimp only [List.nil_append, List.append_eq]
 refine K6 [] _ rfl rfl (List.Perm.refl _) (fun _ h => by cases h) fun w0 => (D7 (aS rfl (aS rfl a0)) kR (A4h hss h63 _) rfl ?_)
 rintro r64 M64 J64 ⟨rfl, rfl, k64⟩ _
 have h64 := k64
 obtain ⟨a64, b64, c64, d64, e64, rfl, -⟩ := k64
 dsimp only [List.nil_append, List.append_eq]
 refine K6 [] _ rfl rfl (List.Perm.refl _) (fun _ h => by cases h) fun w0 => (D7 (aS rfl (aS rfl a0)) kR (T4 h35 h64 _) rfl ?_)
 rintro r65 M65 J65 ⟨rfl, rfl, k65⟩ _
 have h65 := k65
 obtain ⟨a65, b65, c65, d65, e65, rfl, -⟩ := k65
 dsimp only [List.nil_append, List.append_eq]
 refine K6 _ _ rfl rfl (List.Perm.refl _) hKm fun w0 => (A8 (vs := [.int .u64 (a58 : Int), .int .u64 (b58 : Int), .int .u64 (c58 : Int), .int .u64 (d58 : Int), .int .u64 (e58 : Int)]) rfl rfl rfl kR qR al5 UpC.upd ?_)
 intro hK12
 refine K6 _ _ rfl rfl (List.Perm.refl _) (hK12 (hKn rfl)) fun w0 => (A8 (vs := [.int .u64 (a65 : Int), .int .u64 (b65 : Int), .int .u64 (c65 : Int), .int .u64 (d65 : Int), .int .u64 (e65 : Int)]) rfl rfl rfl kR qR al5 UpC.upd ?_)
 intro hK13
 refine K6 _ _ rfl rfl (List.Perm.refl _) (hK13 (hKn rfl)) fun w0 => (A8 (vs := [.int .u64 (a49 : Int), .int .u64 (b49 : Int), .int .u64 (c49 : Int), .int .u64 (d49 : Int), .int .u64 (e49 : Int)]) rfl rfl rfl kR qR al5 UpC.upd ?_)
 intro hK14
 refine P0 rfl rfl rfl (A8 rfl rfl Cel.cel kR ln5 al5 UpC.upd ?_)
 refine P4 (E7 10 11 12 13) (C3 ?_)
 exact ⟨_, [], [], C1O (n := 5) rfl rfl rfl rfl rfl kR At.mem At.mem At.mem At.mem rfl rfl rfl rfl, List.nil_sublist _, by simp, rfl, rfl, _, _, _, _, rfl, h58, h65, h49, hzz⟩
theorem B6j (v vp : Value) (wu wp : LN) (A : Mem) (hv : By A v wu) (hp : By A vp wp) : FnX Tryz.prog 33 [v, vp] [] A fun r M J => M = [] ∧ By J r (x25 wu wp) := by
 haveI := hv.cel
 haveI := hp.cel
 have hvl := hv.len
 have hpl := hp.len
 refine FnX.enter (N := 60) Tryz.func33 rfl rfl rfl fun w => ?_
 refine C4 (D5 0 1) (A3 (as_ (A0 (D5 0 1) (A3 (mv_ ?_)))))
 refine F6 (aS rfl a0) kR (B71 _ wu _ (hv.mono qS)) rfl ?_
 have hcn := A2A wu
 have hc256 := A61 hv.lt
 refine A6 rfl (C5 (cs := [zu8, zu8, zu8, zu8, zu8, zu8, zu8, zu8, zu8, zu8, zu8, zu8, zu8, zu8, zu8, zu8, zu8, zu8, zu8, zu8, zu8, zu8, zu8, zu8, zu8, zu8, zu8, zu8, zu8, zu8, zu8, zu8]) kR rfl fun b5 => ?_)
 refine A6 rfl (A8 (vs := nums .u8 (H5 wu)) rfl rfl rfl (by rw [nums_len, hcn]; kernel_rfl) (by rw [nums_len, hcn]; rfl) E8 UpC.upd ?_)
 refine A0 (D5 1 5) (A3 (mv_ ?_))
 refine C9 (aS rfl a0) kR (A4G vp wp _ (hp.rd.mono qS) hp.lt qO) rfl ?_
 rintro r16 M16 J16 ⟨rfl, rfl, hU⟩
 have hUz := hU
 obtain ⟨ux0, ux1, ux2, ux3, ux4, rfl, -⟩ := hU
 refine A6 rfl (C5 (cs := [A7, A7, A7, A7, A7]) kR rfl fun b6 => ?_)
 refine A6 rfl (A8 (vs := [.int .u64 (ux0 : Int), .int .u64 (ux1 : Int), .int .u64 (ux2 : Int), .int .u64 (ux3 : Int), .int .u64 (ux4 : Int)]) rfl rfl rfl kR qR al5 UpC.upd ?_)
 refine A0 (D5 5 6) ?_
 refine I0 ([]) (_) true (.range 10) [(2, 1), (0, 3), (1, 3), (3, 3), (4, 3), (5, 3), (6, 3), (7, 4), (8, 2), (9, 2), (10, 2), (11, 2)] kR kR qP fun hs K n0 hKm hKs hKn => ?_
 refine Q0 hs rfl hKs (qw_ 5) ?_
 refine A6q [⟨0, 17, fun v B _ => B = [] ∧ Fe v (1)⟩, ⟨1, 18, fun v B _ => B = [] ∧ Fe v (0)⟩, ⟨3, 20, fun v B _ => B = [] ∧ Fe v (1)⟩, ⟨4, 7, fun v B _ => ∃ b, v = (vP b) ∧ B = [(b, blk [.int .u64 0, .int .u64 0, .int .u64 0, .int .u64 0, .int .u64 0] 113)]⟩, ⟨5, 8, fun v B _ => ∃ b, v = (vP b) ∧ B = [(b, blk [.int .u64 0, .int .u64 0, .int .u64 0, .int .u64 0, .int .u64 0] 113)]⟩, ⟨6, 9, fun v B _ => ∃ b, v = (vP b) ∧ B = [(b, blk [.int .u64 0, .int .u64 0, .int .u64 0, .int .u64 0, .int .u64 0] 113)]⟩, ⟨7, 10, fun v B _ => ∃ b, v = (vP b) ∧ B = [(b, blk [.int .u64 0, .int .u64 0, .int .u64 0, .int .u64 0, .int .u64 0] 113)]⟩]
  (C1 (fun _ _ _ _ _ h => h) (C1 (fun _ _ _ _ _ h => h) (C1 (fun _ _ _ _ _ h => h) (C1 (fun _ _ _ _ _ h => h) (C1 (fun _ _ _ _ _ h => h) (C1 (fun _ _ _ _ _ h => h) (C1 (fun _ _ _ _ _ h => h) (K7)))))))) (show List.Nodup [17, 18, 20, 7, 8, 9, 10] by decide) (show List.Nodup [0, 1, 3, 4, 5, 6, 7] by decide) (C1 (C8 rfl) (C1 (C8 rfl) (C1 (C8 rfl) (C1 (C8 rfl) (C1 (C8 rfl) (C1 (C8 rfl) (C1 (C8 rfl) (K7))))))))
  (C1 ⟨_, rfl, fun vs bs R w hb ha => ⟨.inl rfl, ?_⟩⟩ (C1 ⟨_, rfl, fun vs bs R w hb ha => ⟨.inl rfl, ?_⟩⟩ (C1 ⟨_, rfl, fun vs bs R w hb ha => ⟨.inl rfl, ?_⟩⟩ (C1 ⟨_, rfl, fun vs bs R w hb ha => ⟨.inl rfl, ?_⟩⟩ (C1 ⟨_, rfl, fun vs bs R w hb ha => ⟨.inl rfl, ?_⟩⟩ (C1 ⟨_, rfl, fun vs bs R w hb ha => ⟨.inl rfl, ?_⟩⟩ (C1 ⟨_, rfl, fun vs bs R w hb ha => ⟨.inl rfl, ?_⟩⟩ (K7)))))))) ?_
 ·
  refine D7 (aS rfl a0) kR (A0T 1 qD _) rfl ?_
  rintro r M1 J1 ⟨rfl, rfl, hh⟩
  exact ⟨_, rfl, rfl, hh⟩
 ·
  refine D7 (aS rfl a0) kR (A0T 0 qD _) rfl ?_
  rintro r M1 J1 ⟨rfl, rfl, hh⟩
  exact ⟨_, rfl, rfl, hh⟩
 ·
  refine D7 (aS rfl a0) kR (A0T 1 qD _) rfl ?_
  rintro r M1 J1 ⟨rfl, rfl, hh⟩
  exact ⟨_, rfl, rfl, hh⟩
 ·
  exact C5 (cs := [A7, A7, A7, A7, A7]) kR rfl fun b => ⟨_, rfl, b, rfl, rfl⟩
 ·
  exact C5 (cs := [A7, A7, A7, A7, A7]) kR rfl fun b => ⟨_, rfl, b, rfl, rfl⟩
 ·
  exact C5 (cs := [A7, A7, A7, A7, A7]) kR rfl fun b => ⟨_, rfl, b, rfl, rfl⟩
 ·
  exact C5 (cs := [A7, A7, A7, A7, A7]) kR rfl fun b => ⟨_, rfl, b, rfl, rfl⟩
 intro vs bs Jn0 hφ hNN
 have n4 := hNN _ (List.mem_of_getElem? (i := 3) rfl)
 dsimp only at n4
 have n5 := hNN _ (List.mem_of_getElem? (i := 4) rfl)
 dsimp only at n5
 clear hNN
 have g0 := ofH hφ
 dsimp only at g0
 replace hφ := ofT hφ
 have g1 := ofH hφ
 dsimp only at g1
 replace hφ := ofT hφ
 have g3 := ofH hφ
 dsimp only at g3
 replace hφ := ofT hφ
 have g4 := ofH hφ
 dsimp only at g4
 replace hφ := ofT hφ
 have g5 := ofH hφ
 dsimp only at g5
 replace hφ := ofT hφ
 have g6 := ofH hφ
 dsimp only at g6
 replace hφ := ofT hφ
 have g7 := ofH hφ
 dsimp only at g7
 clear hφ
 dsimp only [U9, Q4, List.map, List.flatten, List.cons_append, List.nil_append]
 generalize bs 0 = B17 at *
 generalize bs 1 = B18 at *
 generalize bs 3 = B20 at *
 generalize bs 4 = B7 at *
 generalize bs 5 = B8 at *
 generalize bs 6 = B9 at *
 generalize bs 7 = B10 at *
 generalize vs 0 = u17 at *
 generalize vs 1 = u18 at *
 generalize vs 3 = u20 at *
 generalize vs 4 = u7 at *
 generalize vs 5 = u8 at *
 generalize vs 6 = u9 at *
 generalize vs 7 = u10 at *
 obtain ⟨rfl, k0⟩ := g0
 obtain ⟨rfl, k1⟩ := g1
 obtain ⟨rfl, k3⟩ := g3
 have k0z := k0
 obtain ⟨pw0, pw1, pw2, pw3, pw4, rfl, -⟩ := k0
 have k1z := k1
 obtain ⟨px0, px1, px2, px3, px4, rfl, -⟩ := k1
 have k3z := k3
 obtain ⟨pq0, pq1, pq2, pq3, pq4, rfl, -⟩ := k3
 obtain ⟨b7, rfl, rfl⟩ := g4
 obtain ⟨b8, rfl, rfl⟩ := g5
 obtain ⟨b9, rfl, rfl⟩ := g6
 obtain ⟨b10, rfl, rfl⟩ := g7
 dsimp only [List.append_eq, List.nil_append, List.cons_append]
 refine K6 [(b7, blk [.int .u64 0, .int .u64 0, .int .u64 0, .int .u64 0, .int .u64 0] 113)] _ rfl rfl qP (fun x hx => by rw [List.mem_singleton.1 hx]; exact hKn rfl _ (n4 _ qK)) fun w0 => (A8 (vs := [.int .u64 (pw0 : Int), .int .u64 (pw1 : Int), .int .u64 (pw2 : Int), .int .u64 (pw3 : Int), .int .u64 (pw4 : Int)]) rfl rfl rfl kR qR al5 UpC.upd ?_)
 intro hK8
 refine K6 [(b8, blk [.int .u64 0, .int .u64 0, .int .u64 0, .int .u64 0, .int .u64 0] 113)] _ rfl rfl qP (fun x hx => by rw [List.mem_singleton.1 hx]; exact hKn rfl _ (n5 _ qK)) fun w0 => (A8 (vs := [.int .u64 (px0 : Int), .int .u64 (px1 : Int), .int .u64 (px2 : Int), .int .u64 (px3 : Int), .int .u64 (px4 : Int)]) rfl rfl rfl kR qR al5 UpC.upd ?_)
 intro hK9
 refine P0 rfl rfl rfl (A8 (vs := [.int .u64 (ux0 : Int), .int .u64 (ux1 : Int), .int .u64 (ux2 : Int), .int .u64 (ux3 : Int), .int .u64 (ux4 : Int)]) rfl rfl rfl kR qR al5 UpC.upd ?_)
 refine P0 rfl rfl rfl (A8 (vs := [.int .u64 (pq0 : Int), .int .u64 (pq1 : Int), .int .u64 (pq2 : Int), .int .u64 (pq3 : Int), .int .u64 (pq4 : Int)]) rfl rfl rfl kR qR al5 UpC.upd ?_)
 refine P4 (I1 5 6 7 8 9 10) (A5 (A3 (as_ (A0 (Y0 5 6 7 8 9 10 11) (C0 ?_)))))
 refine A0p (M' := [(b10, blk [.int .u64 (pq0 : Int), .int .u64 (pq1 : Int), .int .u64 (pq2 : Int), .int .u64 (pq3 : Int), .int .u64 (pq4 : Int)] 113), (b9, blk [.int .u64 (ux0 : Int), .int .u64 (ux1 : Int), .int .u64 (ux2 : Int), .int .u64 (ux3 : Int), .int .u64 (ux4 : Int)] 113), (b8, blk [.int .u64 (px0 : Int), .int .u64 (px1 : Int), .int .u64 (px2 : Int), .int .u64 (px3 : Int), .int .u64 (px4 : Int)] 113), (b7, blk [.int .u64 (pw0 : Int), .int .u64 (pw1 : Int), .int .u64 (pw2 : Int), .int .u64 (pw3 : Int), .int .u64 (pw4 : Int)] 113), (b6, blk [.int .u64 (ux0 : Int), .int .u64 (ux1 : Int), .int .u64 (ux2 : Int), .int .u64 (ux3 : Int), .int .u64 (ux4 : Int)] 113), (b5, blk (nums .u8 (H5 wu)) 110)]) (Fit.pick (B := [_]) qP (Fit.pick (B := [_]) qP (Fit.pick (B := [_]) qP (Fit.pick (B := [_]) qP (Fit.pick (B := [_]) qP (Fit.eq rfl)))))) qI ?_
 refine F2 (α := Nat × LN × LN × LN × LN) (fun y => [(5, (vP b5)), (6, (vP b6)), (7, (vP b7)), (8, (vP b8)), (9, (vP b9)), (10, (vP b10)), (11, .int .i64 ((y.1 : Int) - 1))]) (fun y => [(b10, blk (nums .u64 y.2.2.2.2) 113), (b9, blk (nums .u64 y.2.2.2.1) 113), (b8, blk (nums .u64 y.2.2.1) 113), (b7, blk (nums .u64 y.2.1) 113), (b6, blk (nums .u64 [ux0, ux1, ux2, ux3, ux4]) 113), (b5, blk (nums .u8 (H5 wu)) 110)]) (fun _ => []) (fun y => y.1 ≤ 255 ∧ Fe (.agg (nums .u64 y.2.1).toArray) (A0l (rdN wp) (bv (H5 wu)) (255 - y.1)).a ∧ Fe (.agg (nums .u64 y.2.2.1).toArray) (A0l (rdN wp) (bv (H5 wu)) (255 - y.1)).b ∧ Fe (.agg (nums .u64 y.2.2.2.1).toArray) (A0l (rdN wp) (bv (H5 wu)) (255 - y.1)).c ∧ Fe (.agg (nums .u64 y.2.2.2.2).toArray) (A0l (rdN wp) (bv (H5 wu)) (255 - y.1)).d) (fun y => y.1) (255, [pw0, pw1, pw2, pw3, pw4], [px0, px1, px2, px3, px4], [ux0, ux1, ux2, ux3, ux4], [pq0, pq1, pq2, pq3, pq4]) ⟨Nat.le_refl _, by dsimp only; rw [Nat.sub_self]; exact k0z, by dsimp only; rw [Nat.sub_self]; exact k1z, by dsimp only; rw [Nat.sub_self]; exact hUz, by dsimp only; rw [Nat.sub_self]; exact k3z⟩ (Y0 5 6 7 8 9 10 11) (Fit.eq rfl) (fun _ h => by cases h) ?_
 clear k0z k1z k3z
 rintro ⟨j, la, lb, lc, ld⟩ ⟨hj, haz, hbz, hcz, hdz⟩
 dsimp only at hj haz hbz hcz hdz ⊢
 obtain ⟨za0, za1, za2, za3, za4, rfl⟩ := A5Q haz
 obtain ⟨zb0, zb1, zb2, zb3, zb4, rfl⟩ := A5Q hbz
 obtain ⟨zc0, zc1, zc2, zc3, zc4, rfl⟩ := A5Q hcz
 obtain ⟨zd0, zd1, zd2, zd3, zd4, rfl⟩ := A5Q hdz
 dsimp only [nums, List.map]
 refine A5 (A3 (mv_ ?_))
 refine A4 (F1 rfl rfl rfl) rfl ?_
 refine A0 (A2o 5 6 7 8 9 10 11 22) ?_
 refine C7 rfl ?_ ?_ <;> intro hc
 ·
  have hj0 : 0 < j := by simp at hc; omega
  obtain ⟨i, rfl⟩ : ∃ i, j = i + 1 := ⟨j - 1, by omega⟩
  rw [show (((i + 1 : Nat) : Int) - 1) = (i : Int) by omega]
  have hts := A60 (u := rdN wp) (n := bv (H5 wu)) (show i < 255 by omega)
  have hbit := A6L hc256 i
  have hpb : (H5 wu).getD (i / 8) 0 < 256 := Go.Px.getD_lt hc256 qD
  have hz2 : bv (H5 wu) / 2 ^ i % 2 < 2 := Nat.mod_lt _ qD
  generalize A0l (rdN wp) (bv (H5 wu)) (255 - (i + 1)) = S at *
  generalize bv (H5 wu) / 2 ^ i % 2 = zb at *
  obtain ⟨bt, hbt⟩ : ∃ bt, decide (zb = 1) = bt := ⟨_, rfl⟩
  rw [hbt] at hts
  refine A9 (nx (Y0 5 6 7 8 9 10 11) (A5 (C0 (A3 (mv_ ?_)))))
  refine A4 (A04 8 rfl rfl rfl qD (A2r qO)) rfl ?_
  refine A4 (E5 (e := 5) (n := 32) (sz := 1) (i := i / 8) rfl rfl kR kR rfl qO) rfl ?_
  refine A4 (Q9 (i / 8) rfl kR At.mem qO qO) rfl ?_
  refine mv_ ?_
  refine A4 (A05 8 rfl rfl rfl qD) rfl ?_
  refine A4 (A2K (a := (H5 wu).getD (i / 8) 0) (b := i % 8) rfl rfl rfl rfl (by show _ ≤ 8; omega)) rfl ?_
  refine A4 (hbit ▸ N4 1 2 rfl rfl rfl rfl rfl (by show _ < 256; exact Nat.lt_of_le_of_lt (Nat.div_le_self _ _) hpb) qD) rfl ?_
  refine A4 (hbt ▸ F4 (decide (zb = 1)) rfl rfl (by rcases (show zb = 0 ∨ zb = 1 by omega) with h | h <;> subst h <;> rfl)) rfl ?_
  refine as_ (A0 (A2o 5 6 7 8 9 10 11 12) (A5 ?_))
  cases bt
  ·
   refine A3 (mv_ (A0 (A7q 5 6 7 8 9 10 11 12 34) ?_))
   refine D3 rfl ?_
   refine A9 (nx (A2o 5 6 7 8 9 10 11 12) (A3 ?_))
   refine A4 (qw_ 5) rfl ?_
   refine A4 (qw_ 5) rfl ?_
   refine A4 (qw_ 5) rfl ?_
   refine A4 (qw_ 5) rfl ?_
   refine A4 (qw_ 5) rfl ?_
   refine C9 (aS rfl (aS rfl (aS rfl (aS rfl (aS rfl a0))))) kR (B6i _ _ _ _ _ (rdN wp) _ _ _ _ _ hUz haz hbz hcz hdz) rfl ?_
   rintro r45 M45 J45 ⟨rfl, rfl, v0, v1, v2, v3, rfl, k0, k1, k2, k3⟩
   have k0z := k0
   obtain ⟨pw0, pw1, pw2, pw3, pw4, rfl, -⟩ := k0
   have k1z := k1
   obtain ⟨px0, px1, px2, px3, px4, rfl, -⟩ := k1
   have k2z := k2
   obtain ⟨py0, py1, py2, py3, py4, rfl, -⟩ := k2
   have k3z := k3
   obtain ⟨pq0, pq1, pq2, pq3, pq4, rfl, -⟩ := k3
   refine mv_ ?_
   refine A4 (A4e rfl) rfl ?_
   refine A4 (A38 rfl) rfl ?_
   refine A4 (C1B rfl) rfl ?_
   refine A4 (q_x3 rfl) rfl ?_
   refine A6 rfl (A8 (vs := [.int .u64 (pw0 : Int), .int .u64 (pw1 : Int), .int .u64 (pw2 : Int), .int .u64 (pw3 : Int), .int .u64 (pw4 : Int)]) rfl rfl rfl kR qR al5 UpC.upd ?_)
   refine A6 rfl (A8 (vs := [.int .u64 (px0 : Int), .int .u64 (px1 : Int), .int .u64 (px2 : Int), .int .u64 (px3 : Int), .int .u64 (px4 : Int)]) rfl rfl rfl kR qR al5 UpC.upd ?_)
   refine A6 rfl (A8 (vs := [.int .u64 (py0 : Int), .int .u64 (py1 : Int), .int .u64 (py2 : Int), .int .u64 (py3 : Int), .int .u64 (py4 : Int)]) rfl rfl rfl kR qR al5 UpC.upd ?_)
   refine A6 rfl (A8 (vs := [.int .u64 (pq0 : Int), .int .u64 (pq1 : Int), .int .u64 (pq2 : Int), .int .u64 (pq3 : Int), .int .u64 (pq4 : Int)]) rfl rfl rfl kR qR al5 UpC.upd ?_)
   refine A0 (A2o 5 6 7 8 9 10 11 12) (A3 (mv_ (A0 (A2o 5 6 7 8 9 10 11 50) ?_)))
   refine D3 rfl ?_
   refine A9 (nb (nx (Y0 5 6 7 8 9 10 11) (C2 (mv_ ?_))))
   refine A4 (E3 ((i : Int) - 1) rfl rfl (Z9 rfl qO qO)) rfl ?_
   refine as_ (D0 ?_)
   exact rn (i, [pw0, pw1, pw2, pw3, pw4], [px0, px1, px2, px3, px4], [py0, py1, py2, py3, py4], [pq0, pq1, pq2, pq3, pq4]) ⟨by dsimp only; omega, by dsimp only; rw [hts]; exact k0z, by dsimp only; rw [hts]; exact k1z, by dsimp only; rw [hts]; exact k2z, by dsimp only; rw [hts]; exact k3z⟩ (by dsimp only; omega) (Y0 5 6 7 8 9 10 11) (show Fit _ ([(b10, blk [.int .u64 (pq0 : Int), .int .u64 (pq1 : Int), .int .u64 (pq2 : Int), .int .u64 (pq3 : Int), .int .u64 (pq4 : Int)] 113), (b9, blk [.int .u64 (py0 : Int), .int .u64 (py1 : Int), .int .u64 (py2 : Int), .int .u64 (py3 : Int), .int .u64 (py4 : Int)] 113), (b8, blk [.int .u64 (px0 : Int), .int .u64 (px1 : Int), .int .u64 (px2 : Int), .int .u64 (px3 : Int), .int .u64 (px4 : Int)] 113), (b7, blk [.int .u64 (pw0 : Int), .int .u64 (pw1 : Int), .int .u64 (pw2 : Int), .int .u64 (pw3 : Int), .int .u64 (pw4 : Int)] 113), (b6, blk [.int .u64 (ux0 : Int), .int .u64 (ux1 : Int), .int .u64 (ux2 : Int), .int .u64 (ux3 : Int), .int .u64 (ux4 : Int)] 113), (b5, blk (nums .u8 (H5 wu)) 110)]) from (Fit.pick (B := [_]) qP (Fit.pick (B := [_]) qP (Fit.pick (B := [_]) qP (Fit.pick (B := [_]) qP (Fit.pick (B := [_]) qP (Fit.eq rfl))))))) (fun _ h => by cases h)
  ·
   refine A3 (mv_ (A0 (A7q 5 6 7 8 9 10 11 12 34) ?_))
   refine E0 rfl ?_
   refine Y5 ([(b7, blk [.int .u64 (za0 : Int), .int .u64 (za1 : Int), .int .u64 (za2 : Int), .int .u64 (za3 : Int), .int .u64 (za4 : Int)] 113)]) (_) true [0, 1, 2, 3, 4] [(0, 1), (1, 1), (3, 1), (2, 2), (4, 2), (5, 2), (6, 2), (7, 2)] kR kR qP fun hs K n0 hKm hKs hKn => ?_
   refine Q0 hs rfl hKs (qw_ 5) ?_
   refine Q0 hs rfl hKs (qw_ 5) ?_
   refine Q0 hs rfl hKs (qw_ 5) ?_
   refine K6 _ _ rfl rfl (List.Perm.refl _) hKm fun w0 => (OpQ.opL (H6 (n := 5) rfl kR At.mem qR) rfl ?_)
   intro hK2
   refine K6 _ _ rfl rfl (List.Perm.refl _) (hK2 (hKn rfl)) fun w0 => (A8 (vs := [.int .u64 (zc0 : Int), .int .u64 (zc1 : Int), .int .u64 (zc2 : Int), .int .u64 (zc3 : Int), .int .u64 (zc4 : Int)]) rfl rfl rfl kR qR al5 UpC.upd ?_)
   intro hK4
   refine P0 rfl rfl rfl (A8 (vs := [.int .u64 (zd0 : Int), .int .u64 (zd1 : Int), .int .u64 (zd2 : Int), .int .u64 (zd3 : Int), .int .u64 (zd4 : Int)]) rfl rfl rfl kR qR al5 UpC.upd ?_)
   refine P0 rfl rfl rfl (A8 (vs := [.int .u64 (za0 : Int), .int .u64 (za1 : Int), .int .u64 (za2 : Int), .int .u64 (za3 : Int), .int .u64 (za4 : Int)]) rfl rfl rfl kR qR al5 UpC.upd ?_)
   refine P0 rfl rfl rfl (A8 (vs := [.int .u64 (zb0 : Int), .int .u64 (zb1 : Int), .int .u64 (zb2 : Int), .int .u64 (zb3 : Int), .int .u64 (zb4 : Int)]) rfl rfl rfl kR qR al5 UpC.upd ?_)
   refine P4 (A2o 5 6 7 8 9 10 11 12) (A3 ?_)
   refine A4 (qw_ 5) rfl ?_
   refine A4 (qw_ 5) rfl ?_
   refine A4 (qw_ 5) rfl ?_
   refine A4 (qw_ 5) rfl ?_
   refine A4 (qw_ 5) rfl ?_
   refine C9 (aS rfl (aS rfl (aS rfl (aS rfl (aS rfl a0))))) kR (B6i _ _ _ _ _ (rdN wp) _ _ _ _ _ hUz hcz hdz haz hbz) rfl ?_
   rintro r45 M45 J45 ⟨rfl, rfl, v0, v1, v2, v3, rfl, k0, k1, k2, k3⟩
   have k0z := k0
   obtain ⟨pw0, pw1, pw2, pw3, pw4, rfl, -⟩ := k0
   have k1z := k1
   obtain ⟨px0, px1, px2, px3, px4, rfl, -⟩ := k1
   have k2z := k2
   obtain ⟨py0, py1, py2, py3, py4, rfl, -⟩ := k2
   have k3z := k3
   obtain ⟨pq0, pq1, pq2, pq3, pq4, rfl, -⟩ := k3
   refine mv_ ?_
   refine A4 (A4e rfl) rfl ?_
   refine A4 (A38 rfl) rfl ?_
   refine A4 (C1B rfl) rfl ?_
   refine A4 (q_x3 rfl) rfl ?_
   refine A6 rfl (A8 (vs := [.int .u64 (pw0 : Int), .int .u64 (pw1 : Int), .int .u64 (pw2 : Int), .int .u64 (pw3 : Int), .int .u64 (pw4 : Int)]) rfl rfl rfl kR qR al5 UpC.upd ?_)
   refine A6 rfl (A8 (vs := [.int .u64 (px0 : Int), .int .u64 (px1 : Int), .int .u64 (px2 : Int), .int .u64 (px3 : Int), .int .u64 (px4 : Int)]) rfl rfl rfl kR qR al5 UpC.upd ?_)
   refine A6 rfl (A8 (vs := [.int .u64 (py0 : Int), .int .u64 (py1 : Int), .int .u64 (py2 : Int), .int .u64 (py3 : Int), .int .u64 (py4 : Int)]) rfl rfl rfl kR qR al5 UpC.upd ?_)
   refine A6 rfl (A8 (vs := [.int .u64 (pq0 : Int), .int .u64 (pq1 : Int), .int .u64 (pq2 : Int), .int .u64 (pq3 : Int), .int .u64 (pq4 : Int)]) rfl rfl rfl kR qR al5 UpC.upd ?_)
   refine A0 (A2o 5 6 7 8 9 10 11 12) (A3 (mv_ (A0 (A2o 5 6 7 8 9 10 11 50) ?_)))
   refine E0 rfl ?_
   refine Y5 ([(b7, blk [.int .u64 (pw0 : Int), .int .u64 (pw1 : Int), .int .u64 (pw2 : Int), .int .u64 (pw3 : Int), .int .u64 (pw4 : Int)] 113)]) (_) true [0, 1, 2, 3, 4] [(0, 1), (1, 1), (3, 1), (2, 2), (4, 2), (5, 2), (6, 2), (7, 2)] kR kR qP fun hs K n0 hKm hKs hKn => ?_
   refine Q0 hs rfl hKs (qw_ 5) ?_
   refine Q0 hs rfl hKs (qw_ 5) ?_
   refine Q0 hs rfl hKs (qw_ 5) ?_
   refine K6 _ _ rfl rfl (List.Perm.refl _) hKm fun w0 => (OpQ.opL (H6 (n := 5) rfl kR At.mem qR) rfl ?_)
   intro hK2
   refine K6 _ _ rfl rfl (List.Perm.refl _) (hK2 (hKn rfl)) fun w0 => (A8 (vs := [.int .u64 (py0 : Int), .int .u64 (py1 : Int), .int .u64 (py2 : Int), .int .u64 (py3 : Int), .int .u64 (py4 : Int)]) rfl rfl rfl kR qR al5 UpC.upd ?_)
   intro hK4
   refine P0 rfl rfl rfl (A8 (vs := [.int .u64 (pq0 : Int), .int .u64 (pq1 : Int), .int .u64 (pq2 : Int), .int .u64 (pq3 : Int), .int .u64 (pq4 : Int)]) rfl rfl rfl kR qR al5 UpC.upd ?_)
   refine P0 rfl rfl rfl (A8 (vs := [.int .u64 (pw0 : Int), .int .u64 (pw1 : Int), .int .u64 (pw2 : Int), .int .u64 (pw3 : Int), .int .u64 (pw4 : Int)]) rfl rfl rfl kR qR al5 UpC.upd ?_)
   refine P0 rfl rfl rfl (A8 (vs := [.int .u64 (px0 : Int), .int .u64 (px1 : Int), .int .u64 (px2 : Int), .int .u64 (px3 : Int), .int .u64 (px4 : Int)]) rfl rfl rfl kR qR al5 UpC.upd ?_)
   refine A3x (nb (nx (Y0 5 6 7 8 9 10 11) (C2 (mv_ ?_))))
   refine A4 (E3 ((i : Int) - 1) rfl rfl (Z9 rfl qO qO)) rfl ?_
   refine as_ (D0 ?_)
   exact rn (i, [py0, py1, py2, py3, py4], [pq0, pq1, pq2, pq3, pq4], [pw0, pw1, pw2, pw3, pw4], [px0, px1, px2, px3, px4]) ⟨by dsimp only; omega, by dsimp only; rw [hts]; exact k2z, by dsimp only; rw [hts]; exact k3z, by dsimp only; rw [hts]; exact k0z, by dsimp only; rw [hts]; exact k1z⟩ (by dsimp only; omega) (Y0 5 6 7 8 9 10 11) (show Fit _ ([(b10, blk [.int .u64 (px0 : Int), .int .u64 (px1 : Int), .int .u64 (px2 : Int), .int .u64 (px3 : Int), .int .u64 (px4 : Int)] 113), (b9, blk [.int .u64 (pw0 : Int), .int .u64 (pw1 : Int), .int .u64 (pw2 : Int), .int .u64 (pw3 : Int), .int .u64 (pw4 : Int)] 113), (b8, blk [.int .u64 (pq0 : Int), .int .u64 (pq1 : Int), .int .u64 (pq2 : Int), .int .u64 (pq3 : Int), .int .u64 (pq4 : Int)] 113), (b7, blk [.int .u64 (py0 : Int), .int .u64 (py1 : Int), .int .u64 (py2 : Int), .int .u64 (py3 : Int), .int .u64 (py4 : Int)] 113), (b6, blk [.int .u64 (ux0 : Int), .int .u64 (ux1 : Int), .int .u64 (ux2 : Int), .int .u64 (ux3 : Int), .int .u64 (ux4 : Int)] 113), (b5, blk (nums .u8 (H5 wu)) 110)]) from (Fit.pick (B := [_]) qP (Fit.pick (B := [_]) qP (Fit.pick (B := [_]) qP (Fit.pick (B := [_]) qP (Fit.pick (B := [_]) qP (Fit.eq rfl))))))) (fun _ h => by cases h)
 ·
  have hj0 : j = 0 := by simp at hc; omega
  subst hj0
  refine E6 (te (re (be rfl (nx (D5 7 8) ?_))))
  refine D2 [0, 1, 2, 3, 4, 5] (zp 0 [1, 1, 2, 2, 2, 0]) kR kR fun hs => ?_
  refine F7 hs rfl (qw_ 5) rfl ?_
  refine F7 hs rfl (qw_ 5) rfl ?_
  refine G1 rfl (aS rfl a0) kR (B1v hbz _) rfl ?_
  rintro r57 M57 J57 ⟨rfl, rfl, k57⟩
  have h57 := k57
  obtain ⟨a57, b57, c57, d57, e57, rfl, -⟩ := k57
  refine G1 rfl (aS rfl (aS rfl a0)) kR (T4 haz h57 _) rfl ?_
  rintro r58 M58 J58 ⟨rfl, rfl, k58⟩
  have h58 := k58
  obtain ⟨a58, b58, c58, d58, e58, rfl, -⟩ := k58
  refine G1 rfl (aS rfl a0) kR ((Z0 _ _ h58 _).frz0) rfl ?_
  rintro r59 M59 J59 ⟨rfl, hs59⟩
  haveI := hs59.cel
  refine fa_ hs ?_
  refine E4 (D8 4) (C3 ?_)
  exact ⟨_, [], J59, K2 rfl rfl, List.nil_sublist _, fun x hx => by simp [hx], rfl, B4A hs59 (A5P _ _).symm (B6g _ _) (by rw [A5P]; decide) fun _ h => h⟩
theorem B99 (v : Value) (wu : LN) (A : Mem) (hv : By A v wu) : FnX Tryz.prog 15 [v] [] A fun r M J => M = [] ∧ By J r (V4 wu) := by
 haveI := hv.cel
 refine FnX.enterZ (N := 10) Tryz.func15 rfl rfl rfl fun w_ => ?_
 refine C4 (D8 0) (A3 (as_ (A0 (D8 0) (A3 ?_))))
 refine A6 rfl (A3t (by_ := 1) (k := .u8) (e := 5) 32 rfl rfl kR rfl rfl qO qO rfl fun b4 => ?_)
 refine as_ (A0 (D5 0 3) (A3 (mv_ ?_)))
 refine A4 (Q6 (e := 5) (sz := 1) (i := 0) rfl rfl kR kR qO qO) rfl ?_
 refine A6 rfl (T7 0 (ws := List.replicate 32 0) rfl rfl kR rfl qM UpC.upd ?_)
 refine A0 (D5 0 3) (A3 (mv_ (mv_ ?_)))
 refine C9 (aS rfl (aS rfl a0)) kR (B6j v _ wu B4D _ (hv.mono qS) ⟨Rd.whole (n := 32) (cs := nums .u8 B4D) At.mem qR, by decide, by decide⟩) rfl ?_
 rintro r9 M9 J9 ⟨rfl, h9⟩
 haveI := h9.cel
 refine as_ (A0 (D8 2) (C3 ?_))
 exact ⟨_, [], [], K2 rfl rfl, qZ, rfl, h9.mono qS⟩

end Go.Proofs.YtoigcbkclcbmpaaGreatDoor
