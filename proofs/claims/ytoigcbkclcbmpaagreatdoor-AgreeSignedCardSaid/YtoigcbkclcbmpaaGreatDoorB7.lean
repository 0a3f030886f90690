/- Part 7 of the texts of this claim, one behind the other. -/
import Derived.Test.YtoigcbkclcbmpaaGreatDoorB6
set_option linter.unusedVariables false
set_option linter.unusedSimpArgs false
set_option maxRecDepth 100000
namespace Go.Proofs.YtoigcbkclcbmpaaGreatDoor
open Go.Px
structure Glb (A : Mem) : Prop where
  first : ∃ e f, (0, Obj.cells (nums .u32 A0M.list).toArray e f) ∈ A
  round : ∃ e f, (1, Obj.cells (nums .u32 A0V).toArray e f) ∈ A
  pow : ∃ e f, (2, Obj.cells (nums .u64 A0R).toArray e f) ∈ A
theorem Glb.sub {A A' : Mem} (h : Glb A) (hs : ∀ x, x ∈ A → x ∈ A') : Glb A' := by
  obtain ⟨⟨a, b, c⟩, ⟨d, e, f⟩, ⟨g, h, i⟩⟩ := h
  exact ⟨⟨a, b, hs _ c⟩, ⟨d, e, hs _ f⟩, ⟨g, h, hs _ i⟩⟩
theorem Glb.up {M J A : Mem} (h : Glb A) : Glb (M ++ (J ++ A)) := h.sub fun _ h => mA h
structure Ps where
  real : Bool
  seed : LN
  n : Nat
  ts : List Tm
def md (b : Bool) : Int := if b then 0 else 1
structure Prm (pb : Nat) (s : Ps) (M : Mem) : Prop where
  ex : ∃ (sv : Value) (bt bm : Nat) (B MT : Mem), M = (pb, blk [.int .u8 (md s.real), sv, (vI s.n), (vP bt)] 62) :: (B ++ MT) ∧ By B sv s.seed ∧ Tab bt bm s.ts MT
def R5 (w : LN) (n : Nat) : LN := w.take n ++ List.replicate (n - w.length) 0
theorem U6 (w : LN) (n : Nat) : (R5 w n).length = n := by simp [R5]; omega
theorem A2y {w : LN} (h : ∀ x ∈ w, x < 256) (n : Nat) : ∀ x ∈ R5 w n, x < 256 := by
  intro x hx
  rcases List.mem_append.1 hx with h1 | h1
  · exact h x (List.mem_of_mem_take h1)
  · rw [(List.mem_replicate.1 h1).2]; decide
def A9J (n : Nat) : LN := (List.range 8).map (byt ((n : Nat) : Int))
def A2R (seed : LN) (n : Nat) : LN := W4 (A7i [] seed) ([107, 101, 121] ++ A9J n) 32
def B5P (n : Nat) : Tm := ⟨1, [], [], (n : Int)⟩
def D4 (s : Ps) : Ps := if s.real then { s with n := s.n + 1 } else { s with n := s.n + 1, ts := add s.ts (B5P (s.n + 1)) }
def D9 (s : Ps) : LN := if s.real then A2R s.seed (s.n + 1) else bts ((at_ s.ts (B5P (s.n + 1)) : Nat) : Int)
theorem A5o {s : Ps} (h : s.real = true) : D4 s = { s with n := s.n + 1 } := if_pos h
theorem A3c {s : Ps} (h : s.real = false) : D4 s = { s with n := s.n + 1, ts := add s.ts (B5P (s.n + 1)) } := if_neg (by rw [h]; decide)
theorem A3d {s : Ps} (h : s.real = true) : D9 s = A2R s.seed (s.n + 1) := if_pos h
theorem A3e {s : Ps} (h : s.real = false) : D9 s = bts ((at_ s.ts (B5P (s.n + 1)) : Nat) : Int) := if_neg (by rw [h]; decide)
theorem B7i (n : Nat) : ∀ x ∈ A9J n, x < 256 := by
  intro x hx
  obtain ⟨k, _, rfl⟩ := List.mem_map.1 hx
  exact B5K _ _
theorem A15 (key info : LN) (n : Int) : ∀ x ∈ W4 key info n, x < 256 := fun x hx => B0A _ _ _ x (List.mem_of_mem_take hx)
theorem B08 (key info : LN) (n : Int) : (W4 key info n).length ≤ n.toNat := by unfold W4; exact List.length_take_le _ _
theorem A8F {n : Nat} (h : n ≤ 1099511627776) : Tmo (B5P n) := ⟨show 1 < 256 by decide, show i64 (n : Int) by unfold i64; omega, fun i hi => (List.not_mem_nil hi).elim, show 0 ≤ 1048576 by decide, ⟨fun x hx => (List.not_mem_nil hx).elim⟩, show 0 ≤ 1099511627776 by decide⟩
theorem B9z {R : Mem} {v : Value} {i : Int} (h : Rd R 1 v 32 (nums .u8 (bts i))) : By R v (bts i) := ⟨by rw [show (bts i).length = 32 from A0C i qO]; exact h, B0X i, by rw [show (bts i).length = 32 from A0C i qO]; decide⟩
theorem Y9 (i : Int) (A : Mem) : FnX Tryz.prog 17 [.int .i64 i] [] A fun r M J => M = [] ∧ By J r (bts i) :=
  ((A9G i A).mono (post' := fun r M J => J = [] ∧ By M r (bts i)) fun v M J ⟨h1, h2⟩ => ⟨h1, B9z (h2.rd fun _ h => h)⟩).frz0
theorem B09 (r : Bool) (v : Value) (seed : LN) (A : Mem) (hv : By A v seed) : FnX Tryz.prog 13 [.int .u8 (md r), v] [] A fun q M J => ∃ pb, q = .tuple #[(vP pb), .int .i64 0] ∧ Prm pb ⟨r, seed, 0, []⟩ M := by
 haveI := hv.cel
 have hvl := hv.len
 refine FnX.enterZ (N := 18) Tryz.func13 rfl rfl rfl fun w_ => ?_
 refine C4 (D5 0 1) (A3 (as_ (as_ (A0 (D5 0 1) (A5 ?_)))))
 cases r
 ·
  refine A3 (mv_ ?_)
  refine A4 (F4 true rfl rfl (neT qD)) rfl ?_
  refine mv_ ?_
  refine G2 rfl rfl (OpQ.opL qm_ rfl ?_)
  refine G2 rfl rfl (OpQ.opL (F4 false rfl rfl (neF qR)) rfl ?_)
  refine A4 (I5 rfl rfl) rfl ?_
  refine A0 (E2 0 1 11) ?_
  refine D3 rfl ?_
  refine A9 (nx (D5 0 1) (A3 (mv_ (mv_ ?_))))
  refine A6 rfl (I3 (e := 5) (sz := 1) (by_ := 1) rfl rfl kR rfl Sl.nil (hv.rd.mono qS) E8 qP (by unfold maxLen; omega) qO rfl fun v14 B14 hs14 => ?_)
  haveI := hs14.cel
  refine C9 a0 kR (A6x _) rfl ?_
  rintro v15 M15 J15 ⟨rfl, bt, bm, rfl, hT0⟩
  refine A4 (F3 (place := fun x => #[(0, 1), (1, 1), (2, 1), (3, 1)][x]?) (z := [.int .u8 0, vS, .int .i64 0, .pointer none]) (fun _ => by kernel_rfl) (eS rfl (eS rfl (eS rfl e0))) (bdS 0 1 rfl qR (bdS 1 1 rfl qR (bdS 3 1 rfl qR bd0)))) rfl ?_
  refine A6 rfl (bx_ fun b17 => ?_)
  refine as_ (as_ (A0 (D5 4 5) (C3 ?_)))
  refine ⟨_, (b17, _) :: (B14 ++ M15), [], A7m rfl rfl rfl, Fit.none (Fit.pick (B := [_]) qP (Fit.pick qP (Fit.last qP))), _, rfl, ⟨v14, bt, bm, B14, M15, rfl, ⟨?_, hv.lt, hv.len⟩, hT0⟩⟩
  have h := hs14.rd (R := B14) fun _ h => h
  simpa using h
 ·
  refine A3 (mv_ ?_)
  refine A4 (F4 false rfl rfl (neF qR)) rfl ?_
  refine mv_ ?_
  refine L9 rfl rfl rfl rfl ?_
  refine L9 rfl rfl rfl rfl ?_
  refine A4 (E9 rfl rfl) rfl ?_
  refine A0 (E2 0 1 11) ?_
  refine D3 rfl ?_
  refine A9 (nx (D5 0 1) (A3 (mv_ (mv_ ?_))))
  refine A6 rfl (I3 (e := 5) (sz := 1) (by_ := 1) rfl rfl kR rfl Sl.nil (hv.rd.mono qS) E8 qP (by unfold maxLen; omega) qO rfl fun v14 B14 hs14 => ?_)
  haveI := hs14.cel
  refine C9 a0 kR (A6x _) rfl ?_
  rintro v15 M15 J15 ⟨rfl, bt, bm, rfl, hT0⟩
  refine A4 (F3 (place := fun x => #[(0, 1), (1, 1), (2, 1), (3, 1)][x]?) (z := [.int .u8 0, vS, .int .i64 0, .pointer none]) (fun _ => by kernel_rfl) (eS rfl (eS rfl (eS rfl e0))) (bdS 0 1 rfl qR (bdS 1 1 rfl qR (bdS 3 1 rfl qR bd0)))) rfl ?_
  refine A6 rfl (bx_ fun b17 => ?_)
  refine as_ (as_ (A0 (D5 4 5) (C3 ?_)))
  refine ⟨_, (b17, _) :: (B14 ++ M15), [], A7m rfl rfl rfl, Fit.none (Fit.pick (B := [_]) qP (Fit.pick qP (Fit.last qP))), _, rfl, ⟨v14, bt, bm, B14, M15, rfl, ⟨?_, hv.lt, hv.len⟩, hT0⟩⟩
  have h := hs14.rd (R := B14) fun _ h => h
  simpa using h
theorem A0f (v : Value) (w : LN) (n : Nat) (A : Mem) (hv : By A v w) (hn : n ≤ 1000) : FnX Tryz.prog 16 [v, .int .i64 (n : Int)] [] A fun q M J => M = [] ∧ By J q (R5 w n) := by
 haveI := hv.cel
 have hvl := hv.len
 refine FnX.enterZ (N := 12) Tryz.func16 rfl rfl rfl fun w_ => ?_
 refine C4 (D5 0 1) (A3 (as_ (A0 (D5 0 1) (A3 (mv_ ?_)))))
 refine A6 rfl (A3t (by_ := 1) (k := .u8) (e := 5) n rfl rfl kR rfl rfl qO qO rfl fun b7 => ?_)
 refine as_ (A0 (D5 0 5) (A3 (mv_ (mv_ ?_))))
 refine A6 rfl (B07 (e := 5) (us := w) (ws := List.replicate n 0) (ws' := R5 w n) (by_ := 1) rfl rfl kR (hv.rd.mono qS) qM (by simp [R5]) UpC.upd rfl ?_)
 refine A0 (D8 5) (A3 (mv_ (as_ (A0 (D8 4) (C3 ?_)))))
 refine ⟨_, [], [(b7, blk (nums .u8 (R5 w n)) 5)], K2 rfl rfl, Fit.eq qM, ⟨rfl, ⟨?_, A2y hv.lt n, by rw [U6]; omega⟩⟩⟩
 rw [U6]
 exact Rd.whole (n := n) qK (by simp [U6])
theorem A4C (pb : Nat) (s : Ps) (v : Value) (w : LN) (MP A : Mem) (hP : Prm pb s MP) (hn : s.ts.length ≤ 1048576) (hv : By A v w) (hG : Glb A) : FnX Tryz.prog 19 [(vP pb), v] MP A fun q M J => q = .int .i64 ((rdI s.ts w : Nat) : Int) ∧ Prm pb { s with ts := rdT s.ts w } M := by
 obtain ⟨sv, bt, bm, B, MT, rfl, hby, hT⟩ := hP.ex
 obtain ⟨⟨ge0, gf0, h0⟩, ⟨ge1, gf1, h1⟩, ⟨ge4, gf4, h4⟩⟩ := hG
 haveI := hv.cel
 have hvl := hv.len
 refine FnX.enterZ (N := 11) Tryz.func19 rfl rfl rfl fun w_ => ?_
 refine C4 (D5 0 1) (A3 (as_ (A0 (D5 0 1) (A3 (mv_ ?_)))))
 refine A4 (F9 rfl) rfl ?_
 refine A4 (qf_ 3 3) rfl ?_
 refine A4 ql_ rfl ?_
 refine mv_ ?_
 refine A6 rfl (E1 (Mc := MT) (R := _) (aS rfl (aS rfl a0)) kR qP (A6z bt bm s.ts v w MT _ hT hn (hv.rd.mono qS) hv.lt qO (mA h4)) rfl ?_)
 rintro v10 M10 J10 ⟨rfl, rfl, hT10⟩
 refine as_ (A0 (D8 4) (C3 ?_))
 exact ⟨_, (pb, blk [.int .u8 (md s.real), sv, .int .i64 (((s.n : Nat) : Int)), (vP bt)] 62) :: (B ++ M10), [], K2 rfl rfl, (Fit.none (Fit.pick (B := [_]) qP (Fit.pick qP (Fit.last qP)))), rfl, ⟨sv, bt, bm, B, M10, rfl, hby, hT10⟩⟩
theorem X6 (pb : Nat) (s : Ps) (MP A : Mem) (hP : Prm pb s MP) (hn : s.ts.length ≤ 1048576) (hk : s.n < 1099511627776) (hG : Glb A) : FnX Tryz.prog 8 [(vP pb)] MP A fun q M J => Prm pb (D4 s) M ∧ By J q (D9 s) := by
 obtain ⟨sv, bt, bm, B, MT, rfl, hby, hT⟩ := hP.ex
 obtain ⟨⟨ge0, gf0, h0⟩, ⟨ge1, gf1, h1⟩, ⟨ge4, gf4, h4⟩⟩ := hG
 haveI := hby.cel
 refine FnX.enterZ (N := 55) Tryz.func8 rfl rfl rfl fun w_ => ?_
 refine C4 (D8 0) (A3 (as_ (A0 (D8 0) (A5 (A3 (mv_ ?_))))))
 refine A4 (F0 (e := 62) rfl rfl kR) rfl ?_
 refine A0 (D5 0 6) ?_
 refine D3 rfl ?_
 refine A9 (nx (D8 0) (A3 (mv_ ?_)))
 refine A4 (F9 rfl) rfl ?_
 refine A4 (qf_ 2 2) rfl ?_
 refine A4 ql_ rfl ?_
 refine A4 (N8 (b := 1) rfl rfl rfl rfl qO) rfl ?_
 refine A4 (F9 rfl) rfl ?_
 refine A4 (qf_ 2 2) rfl ?_
 refine A6 rfl (D6 rfl rfl rfl kR SetC.set UpC.upd ?_)
 refine A0 (D8 0) (A5 (A3 (mv_ ?_)))
 refine A4 (F9 rfl) rfl ?_
 refine A4 (qf_ 0 0) rfl ?_
 refine A4 ql_ rfl ?_
 refine A4 (F1 rfl rfl rfl) rfl ?_
 refine A0 (D5 0 18) ?_
 refine C7 rfl ?_ ?_ <;> intro hc
 ·
  have hr : s.real = true := by cases hq : s.real with | true => rfl | false => rw [hq] at hc; exact absurd hc qD
  refine A3 (as_ (A0 (D5 0 3) (A5 (A3 (mv_ (A0 (E2 0 3 19) (C0 ?_)))))))
  refine F2 (α := Nat × Value × Mem) (fun x => [(0, (vP pb)), (3, x.2.1), (19, (vI x.1))]) (fun x => x.2.2 ++ ((pb, blk [.int .u8 (md s.real), sv, .int .i64 (((s.n + 1 : Nat) : Int)), (vP bt)] 62) :: (B ++ MT))) (fun _ => []) (fun x => x.1 ≤ 8 ∧ Sl 1 x.2.1 x.1 (nums .u8 ((List.range x.1).map (byt ((s.n + 1 : Nat) : Int)))) x.2.2) (fun x => 8 - x.1) ⟨0, vS, []⟩ ⟨Nat.zero_le _, Sl.nil⟩ (E2 0 3 19) .rfl qI ?_
  rintro ⟨i, v3, B3⟩ ⟨hi, hs3⟩
  dsimp only at hi hs3 ⊢
  haveI := hs3.cel
  refine A3 ?_
  refine A4 (F1 rfl rfl rfl) rfl ?_
  refine A0 (E7 0 3 19 20) (A5 ?_)
  refine C7 rfl ?_ ?_ <;> intro hc
  ·
   have hlt : i < 8 := by simp at hc; omega
   refine A9 (nx (E2 0 3 19) (A5 (C0 (A3 (mv_ (as_ (A0 (E7 0 3 4 19) (C2 ?_))))))))
   refine mv_ (mv_ ?_)
   refine A4 (F9 rfl) rfl ?_
   refine A4 (qf_ 2 2) rfl ?_
   refine A4 ql_ rfl ?_
   refine mv_ ?_
   refine A4 (A1q (a := 8) rfl rfl rfl rfl qO) rfl ?_
   refine A4 (B5L (k := i) rfl rfl rfl hlt) rfl ?_
   refine A4 (B5M rfl kR) rfl ?_
   refine A6 rfl (C6 (e := 5) (sz := 1) (z := [.int .u8 0]) kR (eS rfl e0) (bdS 0 1 rfl qR bd0) rfl fun b31 => ?_)
   refine A6 rfl (I3 (e := 5) (sz := 1) (by_ := 1) rfl rfl kR rfl (by first | assumption | exact Sl.nil) (Rd.whole (n := 1) At.mem qR) (by first | (simp [Value.oneCell']; done) | (intro c hc; simp only [List.mem_singleton] at hc; subst hc; first | exact Rd.one (by assumption) | exact Sl.one (by assumption))) qP (by unfold maxLen; omega) qO rfl fun v32 B32 hs32 => ?_)
   refine as_ (D0 (nb (nx (E2 0 3 19) (C2 ?_))))
   refine A4 (N8 (b := 1) rfl rfl rfl rfl qO) rfl ?_
   refine mv_ (D0 ?_)
   exact rn ⟨i + 1, v32, B32⟩ ⟨by dsimp only; omega, by dsimp only; rw [List.range_succ, List.map_append, K3]; exact hs32⟩ (by dsimp only; omega) (E2 0 3 19) (Fit.pick qP (Fit.pick (B := [_]) qP (Fit.last qP))) (fun _ h => by cases h)
  ·
   have hge : i = 8 := by simp at hc; omega
   subst hge
   refine E6 (te (re (be rfl (nx (D5 0 3) (A3 (mv_ ?_))))))
   refine A4 (F9 rfl) rfl ?_
   refine A4 (qf_ 1 1) rfl ?_
   refine A4 ql_ rfl ?_
   refine C9 (aS rfl (aS rfl a0)) kR ((A2I (vS) sv [] s.seed _ Rd.nil (fun x h => by cases h) qM (hby.rd.mono qS) hby.lt (by have := hby.len; omega) (mA h0) (mA h1)).frz0) rfl ?_
   rintro v38 M38 J38 ⟨rfl, h38⟩
   refine A6 rfl (C6 (e := 5) (sz := 1) (z := [zu8, zu8, zu8]) kR (eS rfl (eS rfl (eS rfl e0))) (bdS 0 1 rfl qR (bdS 1 1 rfl qR (bdS 2 1 rfl qR bd0))) rfl fun b39 => ?_)
   refine A6 rfl (A4s rfl kR UpC.upd rfl ?_)
   refine mv_ ?_
   refine A6 rfl (A3H (e := 5) (sz := 1) (by_ := 1) (xs := nums .u8 [107, 101, 121]) rfl rfl kR rfl (Rd.whole (n := 3) At.mem qR) (hs3.rd qS) qD qD qD rfl fun v42 B42 hs42 => ?_)
   have hs42 : Sl 1 v42 ([107, 101, 121] ++ A9J (s.n + 1)).length (nums .u8 ([107, 101, 121] ++ A9J (s.n + 1))) B42 := A0s hs42 (by simp [A9J]) (by rw [K3]; rfl)
   refine C9 (aS rfl (aS rfl (aS rfl a0))) kR ((A3w v38 v42 (A7i [] s.seed) ([107, 101, 121] ++ A9J (s.n + 1)) 32 _ (by rw [A1f]; exact (h38.rd qS)) (A48 _ _) (by rw [A1f]; decide) (hs42.rd qS) (fun x hx => by rcases List.mem_append.1 hx with h | h; (simp at h; omega); exact B7i _ x h) (by simp [A9J]) qD qD (mA h0) (mA h1)).frz0) rfl ?_
   rintro v43 M43 J43 ⟨rfl, h43⟩
   refine as_ (A0 (D8 2) (C3 (tr ?_)))
   exact ⟨_, (pb, blk [.int .u8 (md s.real), sv, .int .i64 (((s.n + 1 : Nat) : Int)), (vP bt)] 62) :: (B ++ MT), [], K2 rfl rfl, (Fit.none (Fit.pick (B := [_]) qP (Fit.pick qP (Fit.last qP)))), by rw [A5o hr]; exact ⟨sv, bt, bm, B, MT, rfl, hby, hT⟩, by rw [A3d hr]; exact ⟨h43.mono qS, A15 _ _ _, Nat.le_trans (B08 _ _ _) qD⟩⟩
 ·
  have hr : s.real = false := by cases hq : s.real with | false => rfl | true => rw [hq] at hc; exact absurd hc qD
  refine A9 (nx (D8 0) ?_)
  refine D2 [0, 1, 2, 3, 4, 5, 6, 7, 8, 11] (zp 0 [0, 0, 0, 1, 0, 0, 0, 1, 0, 2, 2, 0]) kR kR fun hs => ?_
  refine fm_ hs ?_
  refine D1 hs rfl (F9 rfl) rfl ?_
  refine D1 hs rfl (qf_ 3 3) rfl ?_
  refine F7 hs rfl ql_ rfl ?_
  refine fm_ hs ?_
  refine D1 hs rfl (F9 rfl) rfl ?_
  refine D1 hs rfl (qf_ 2 2) rfl ?_
  refine F7 hs rfl ql_ rfl ?_
  refine D1 hs rfl (F3 (place := fun x => #[(0, 1), (1, 1), (2, 1), (3, 1)][x]?) (z := [.int .u8 0, vS, .string ByteArray.empty, .int .i64 0]) (fun _ => by kernel_rfl) (eS rfl (eS rfl e0)) (bdS 0 1 rfl qR (bdS 3 1 rfl qR bd0))) rfl ?_
  refine G5 rfl rfl rfl (E1 (Mc := MT) (R := _) (aS rfl (aS rfl a0)) kR qP (U4 bt bm s.ts (vS) (B5P (s.n + 1)) MT _ hT hn Rd.nil (A8F qO) (mA h4)) rfl ?_)
  rintro v53 M53 J53 ⟨rfl, rfl, hT53⟩
  refine G5 rfl rfl rfl (D7 (aS rfl a0) kR (Y9 _ _) rfl ?_)
  rintro v54 M54 J54 ⟨rfl, h54⟩
  refine fa_ hs ?_
  refine E4 (D8 2) (C3 ?_)
  exact ⟨_, (pb, blk [.int .u8 (md s.real), sv, .int .i64 (((s.n + 1 : Nat) : Int)), (vP bt)] 62) :: (B ++ M53), [], K2 rfl rfl, (Fit.none (Fit.pick (B := [_]) qP (Fit.pick qP (Fit.last qP)))), by rw [A3c hr]; exact ⟨sv, bt, bm, B, M53, rfl, hby, hT53⟩, by rw [A3e hr]; exact h54.mono qS⟩

def B0b (ws : List (LN)) : LN := ws.flatMap fun w => R5 w 32
def B5Q (key : LN) (ws : List (LN)) (lb : LN) (n : Nat) : LN := W4 (A7i (R5 key 32) (B0b ws)) lb ((32 * n : Nat) : Int)
def C00 (b : LN) (n : Nat) : List (LN) := (List.range n).map fun i => (b.take (32 * i + 32)).drop (32 * i)
def drv (ofs : List Int) (lb : LN) (i : Nat) : Tm := ⟨5, ofs, lb, (i : Int)⟩
def Z8 (st : List Tm × List Int) (w : LN) : List Tm × List Int := (rdT st.1 w, st.2 ++ [((rdI st.1 w : Nat) : Int)])
def V0 (ts : List Tm) (key : LN) (ws : List (LN)) : List Tm × List Int := ws.foldl Z8 (Z8 (ts, []) key)
def B1a (ofs : List Int) (lb : LN) (st : List Tm × List (LN)) (i : Nat) : List Tm × List (LN) := (add st.1 (drv ofs lb i), st.2 ++ [bts ((at_ st.1 (drv ofs lb i) : Nat) : Int)])
def P9 (ts : List Tm) (ofs : List Int) (lb : LN) (n : Nat) : List Tm × List (LN) := (List.range n).foldl (B1a ofs lb) (ts, [])
def A9K (ts : List Tm) (key : LN) (ws : List (LN)) (lb : LN) (n : Nat) : List Tm × List (LN) := P9 (V0 ts key ws).1 (V0 ts key ws).2 lb n
def A7G (s : Ps) (key : LN) (ws : List (LN)) (lb : LN) (n : Nat) : Ps := if s.real then s else { s with ts := (A9K s.ts key ws lb n).1 }
def A9L (s : Ps) (key : LN) (ws : List (LN)) (lb : LN) (n : Nat) : List (LN) := if s.real then C00 (B5Q key ws lb n) n else (A9K s.ts key ws lb n).2
theorem A6A {s : Ps} {key lb : LN} {ws : List (LN)} {n : Nat} (h : s.real = true) : A7G s key ws lb n = s := if_pos h
theorem A4D {s : Ps} {key lb : LN} {ws : List (LN)} {n : Nat} (h : s.real = false) : A7G s key ws lb n = { s with ts := (A9K s.ts key ws lb n).1 } := if_neg (by rw [h]; decide)
theorem A6B {s : Ps} {key lb : LN} {ws : List (LN)} {n : Nat} (h : s.real = true) : A9L s key ws lb n = C00 (B5Q key ws lb n) n := if_pos h
theorem A6C {s : Ps} {key lb : LN} {ws : List (LN)} {n : Nat} (h : s.real = false) : A9L s key ws lb n = (A9K s.ts key ws lb n).2 := if_neg (by rw [h]; decide)
theorem B7j {ws : List (LN)} (h : ∀ w ∈ ws, ∀ x ∈ w, x < 256) : ∀ x ∈ B0b ws, x < 256 := by
  intro x hx
  obtain ⟨w, hw, hx⟩ := List.mem_flatMap.1 hx
  exact A2y (h w hw) 32 x hx
theorem B3Q (ws : List (LN)) : (B0b ws).length = 32 * ws.length := by
  induction ws with
  | nil => rfl
  | cons w ws ih =>
    have : B0b (w :: ws) = R5 w 32 ++ B0b ws := rfl
    rw [this, List.length_append, ih, U6, List.length_cons]; omega
theorem B1b {ws : List (LN)} {i : Nat} (h : i < ws.length) : B0b (ws.take (i + 1)) = B0b (ws.take i) ++ R5 ws[i] 32 := by
  unfold B0b
  rw [List.take_add_one, List.getElem?_eq_getElem h, List.flatMap_append]; simp
theorem B1c {α β : Type} {f : β → α → β} {b : β} {l : List α} {i : Nat} (h : i < l.length) : (l.take (i + 1)).foldl f b = f ((l.take i).foldl f b) l[i] := by
  rw [List.take_add_one, List.getElem?_eq_getElem h, List.foldl_append]; rfl
theorem R9 {β : Type} {f : β → Nat → β} {b : β} (i : Nat) : (List.range (i + 1)).foldl f b = f ((List.range i).foldl f b) i := by
  rw [List.range_succ, List.foldl_append]; rfl
theorem B5R {ts : List Tm} {w : LN} (hw : ∀ x ∈ w, x < 256) (hl : w.length ≤ 1099511627776) (hts : ∀ t ∈ ts, Tmo t) : rdI ts w < (rdT ts w).length := by
  cases hp : plc w ts.length with
  | some j =>
    obtain ⟨h1, h2⟩ := V6 hp
    rw [h1, h2]; exact (A8C hp).1
  | none =>
    obtain ⟨h1, h2⟩ := X0 hp
    rw [h1, h2]
    cases hq : pos ts (B5N w) with
    | some j =>
      obtain ⟨h3, h4⟩ := A5n hq
      rw [h3, h4]
      exact (List.getElem?_eq_some_iff.1 (A5k (A3F hw hl) hts hq)).1
    | none =>
      obtain ⟨h3, h4⟩ := A8D hq
      rw [h3, h4]; simp
theorem B7k {ts : List Tm} {w : LN} (hw : ∀ x ∈ w, x < 256) (hl : w.length ≤ 1099511627776) (hts : ∀ t ∈ ts, Tmo t) : ∀ t ∈ rdT ts w, Tmo t := by
  cases hp : plc w ts.length with
  | some j => rw [(V6 hp).1]; exact hts
  | none =>
    rw [(X0 hp).1]
    unfold add
    split
    · exact hts
    · intro t ht
      rcases List.mem_append.1 ht with h | h
      · exact hts t h
      · rw [List.mem_singleton.1 h]; exact A3F hw hl
theorem B5S {ofs : List Int} {lb : LN} {i : Nat} (ho : ∀ x ∈ ofs, i64 x) (hl : ofs.length ≤ 1048576) (hb : B256 lb) (hbl : lb.length ≤ 1099511627776) (hi : i ≤ 100) : Tmo (drv ofs lb i) := ⟨show 5 < 256 by decide, show i64 (i : Int) by unfold i64; omega, ho, hl, hb, hbl⟩
structure RdOk (n0 k : Nat) (st : List Tm × List Int) : Prop where
  len : st.1.length ≤ n0 + k
  ofl : st.2.length = k
  of : ∀ x ∈ st.2, 0 ≤ x ∧ x < (st.1.length : Int)
  tmo : ∀ t ∈ st.1, Tmo t
theorem B5T {ts : List Tm} {w : LN} : ts.length ≤ (rdT ts w).length := by
  cases hp : plc w ts.length with
  | some j => rw [(V6 hp).1]; exact Nat.le_refl _
  | none =>
    rw [(X0 hp).1]
    unfold add
    split <;> simp
theorem RdOk.step {n0 k : Nat} {st : List Tm × List Int} (h : RdOk n0 k st) {w : LN} (hw : ∀ x ∈ w, x < 256) (hl : w.length ≤ 1099511627776) : RdOk n0 (k + 1) (Z8 st w) := by
  refine ⟨?_, by simp [Z8, h.ofl], ?_, B7k hw hl h.tmo⟩
  · have := U5 (ts := st.1) (ws := w)
    have := h.len
    show (rdT st.1 w).length ≤ _
    omega
  · intro x hx
    have hge := B5T (ts := st.1) (w := w)
    have hlt := B5R (ts := st.1) hw hl h.tmo
    show 0 ≤ x ∧ x < (((rdT st.1 w).length : Nat) : Int)
    rcases List.mem_append.1 hx with h1 | h1
    · have := h.of x h1; omega
    · rw [List.mem_singleton.1 h1]; omega
theorem A8G (b : LN) (n : Nat) : (C00 b n).length = n := by simp [C00]
theorem A3I (ts : List Tm) (ofs : List Int) (lb : LN) (n : Nat) : (P9 ts ofs lb n).2.length = n ∧ (P9 ts ofs lb n).1.length ≤ ts.length + n := by
  induction n with
  | zero => exact ⟨rfl, Nat.le_refl _⟩
  | succ n ih =>
    have e : P9 ts ofs lb (n + 1) = B1a ofs lb (P9 ts ofs lb n) n := R9 n
    rw [e]
    refine ⟨by simp [B1a, ih.1], ?_⟩
    have := A1E (ts := (P9 ts ofs lb n).1) (t := drv ofs lb n)
    show (add _ _).length ≤ _
    omega
theorem A8H (key : LN) (ws : List (LN)) (lb : LN) {n : Nat} (hn : n ≤ 8) : (B5Q key ws lb n).length = 32 * n := by
  unfold B5Q
  rw [A1e]
  omega
theorem B1d (l : List Int) (x : Int) : A1s (l ++ [x]) = A1s l ++ [.int .i64 x] := by simp [A1s]
theorem A7H (pb : Nat) (s : Ps) (kv wv : Value) (key lb : LN) (ws : List (LN)) (n : Nat) (MP A : Mem) (hP : Prm pb s MP) (hk : By A kv key) (hw : LsV A wv ws) (hwn : ws.length ≤ 1000) (hlb : B256 lb) (hll : lb.length ≤ 1000) (hn0 : 1 ≤ n) (hn8 : n ≤ 8) (hn : s.ts.length ≤ 1040000) (hG : Glb A) : FnX Tryz.prog 41 [(vP pb), kv, wv, .string (txt lb), .int .i64 (n : Int)] MP A fun q M J => Prm pb (A7G s key ws lb n) M ∧ LsV J q (A9L s key ws lb n) := by
 obtain ⟨sv, bt, bm, B, MT, rfl, hby, hT⟩ := hP.ex
 have hGG := hG
 obtain ⟨⟨ge0, gf0, h0⟩, ⟨ge1, gf1, h1⟩, ⟨ge4, gf4, h4⟩⟩ := hGG
 haveI := hby.cel
 haveI := hk.cel
 obtain ⟨wvs, hwr, hwl⟩ := hw.ex
 haveI := hwr.cel
 have hw256 : ∀ w ∈ ws, ∀ x ∈ w, x < 256 := fun w hw => by
  obtain ⟨j, hj⟩ := List.getElem?_of_mem hw
  obtain ⟨v, _, h⟩ := hwl.get j w hj
  exact h.lt
 have hTmo : ∀ t ∈ s.ts, Tmo t := by
  obtain ⟨_, _, _, _, _, _, _, _, _, _, _, h, _⟩ := hT
  exact h
 refine FnX.enterZ (N := 108) Tryz.func41 rfl rfl rfl fun w_ => ?_
 refine C4 (F5 0 1 2 3 4) (A3 (as_ (A0 (F5 0 1 2 3 4) (A3 (as_ (A0 (I1 0 1 2 3 4 11) (A5 ?_)))))))
 refine A3 (mv_ ?_)
 refine A4 (F0 (e := 62) rfl rfl kR) rfl ?_
 refine mv_ ?_
 refine G2 rfl rfl (OpQ.opL qm_ rfl ?_)
 refine G2 rfl rfl (OpQ.opL (F4 false rfl rfl (ltF qO)) rfl ?_)
 refine A4 (E9 rfl rfl) rfl ?_
 refine A0 (Y0 0 1 2 3 4 11 26) ?_
 refine D3 rfl ?_
 refine A9 (nx (I1 0 1 2 3 4 11) (A5 (A3 (mv_ ?_))))
 refine A4 (F9 rfl) rfl ?_
 refine A4 (qf_ 0 0) rfl ?_
 refine A4 ql_ rfl ?_
 refine A4 (F1 rfl rfl rfl) rfl ?_
 refine A0 (Y0 0 1 2 3 4 11 32) ?_
 refine C7 rfl ?_ ?_ <;> intro hc
 ·
  have hr : s.real = true := by cases hq : s.real with | true => rfl | false => rw [hq] at hc; exact absurd hc qD
  refine A3 (as_ (A0 (I1 1 2 3 4 11 12) (A5 (A3 (mv_ ?_)))))
  refine A4 (K1 (sz := 1) rfl kR hwr) rfl ?_
  refine mv_ (A0 (A2o 1 3 4 11 12 33 34 35) (C0 ?_))
  refine F2 (α := Nat × Value × Mem × Mem) (fun x => [(1, kv), (3, .string (txt lb)), (4, .int .i64 (n : Int)), (11, vS), (12, x.2.1), (33, wv), (34, (vI ws.length)), (35, (vI x.1))]) (fun x => x.2.2.1 ++ ((pb, blk [.int .u8 (md s.real), sv, .int .i64 (((s.n : Nat) : Int)), (vP bt)] 62) :: (B ++ MT))) (fun x => x.2.2.2) (fun x => x.1 ≤ ws.length ∧ Sl 1 x.2.1 (B0b (ws.take x.1)).length (nums .u8 (B0b (ws.take x.1))) x.2.2.1) (fun x => ws.length - x.1) ⟨0, vS, [], []⟩ ⟨Nat.zero_le _, Sl.nil⟩ (A2o 1 3 4 11 12 33 34 35) .rfl qI ?_
  rintro ⟨i, v12, B12, J12⟩ ⟨hi, hs12⟩
  dsimp only at hi hs12 ⊢
  haveI := hs12.cel
  have hfl := B3Q (ws.take i)
  rw [List.length_take] at hfl
  refine A3 ?_
  refine A4 (F1 rfl rfl rfl) rfl ?_
  refine A0 (A7q 1 3 4 11 12 33 34 35 36) (A5 ?_)
  refine C7 rfl ?_ ?_ <;> intro hc
  ·
   have hlt : i < ws.length := by simp at hc; omega
   obtain ⟨v, hvi, hvb⟩ := hwl.at hlt
   haveI := hvb.cel
   have hft := B1b hlt
   refine A9 (nx (A2o 1 3 4 11 12 33 34 35) (A5 (C0 (A3 ?_))))
   refine A4 (K0 (sz := 1) rfl rfl kR rfl hwr hlt) rfl ?_
   refine A4 (A00 (u := v) (hwr.mono qS) rfl kR hvi) rfl ?_
   refine as_ (A0 (A7q 1 3 4 11 12 14 33 34 35) (C2 (mv_ (mv_ ?_))))
   refine C9 (aS rfl (aS rfl a0)) kR (A0f v ws[i] 32 _ (hvb.mono qS) qD) rfl ?_
   rintro v41 M41 J41 ⟨rfl, hb41⟩
   have hb41r := hb41.rd
   rw [U6] at hb41r
   refine A6 rfl (I3 (e := 5) (sz := 1) (by_ := 1) rfl rfl kR rfl hs12 (hb41r.mono qS) E8 qP (by unfold maxLen; omega) qO rfl fun v42 B42 hs42 => ?_)
   refine as_ (D0 (nb (nx (A2o 1 3 4 11 12 33 34 35) (C2 ?_))))
   refine A4 (N8 (b := 1) rfl rfl rfl rfl qO) rfl ?_
   refine mv_ (D0 ?_)
   exact rn ⟨i + 1, v42, B42, _⟩ ⟨by dsimp only; omega, A0s hs42 (by dsimp only; rw [hft, List.length_append, U6]) (by dsimp only; rw [hft, K3])⟩ (by dsimp only; omega) (A2o 1 3 4 11 12 33 34 35) (Fit.pick qP (Fit.pick (B := [_]) qP (Fit.pick qP (Fit.last qP)))) qI
  ·
   have hge : i = ws.length := by simp at hc; omega
   subst hge
   rw [List.take_length] at hs12 hfl
   refine E6 (te (re (be rfl (nx (F5 1 3 4 11 12) (A3 (mv_ ?_))))))
   refine C9 (aS rfl (aS rfl a0)) kR (A0f kv key 32 _ (hk.mono qS) qD) rfl ?_
   rintro v45 M45 J45 ⟨rfl, hb45⟩
   refine mv_ ?_
   refine C9 (aS rfl (aS rfl a0)) kR ((A2I v45 v12 (R5 key 32) (B0b ws) _ (hb45.rd.mono qS) hb45.lt (by rw [U6]; decide) (hs12.rd qS) (B7j hw256) qO (mA h0) (mA h1)).frz0) rfl ?_
   rintro v47 M47 J47 ⟨rfl, h47⟩
   refine mv_ ?_
   refine A6 rfl (B0I (e := 5) rfl rfl hlb.lt kR kR kR rfl fun v49 B49 hs49 => ?_)
   refine A8E (B := B49) qP ?_
   refine mv_ ?_
   refine A4 (A6c (n : Int) rfl rfl (by split <;> omega)) rfl ?_
   refine A4 (A1q (a := 32) rfl rfl rfl rfl qO) rfl ?_
   refine C9 (aS rfl (aS rfl (aS rfl a0))) kR ((A3w v47 v49 (A7i (R5 key 32) (B0b ws)) lb ((32 * n : Nat) : Int) _ (by rw [A1f]; exact (h47.rd qS)) (A48 _ _) (by rw [A1f]; decide) (hs49.mono qS) hlb.lt qO qO qO (mA h0) (mA h1)).frz0) rfl ?_
   rintro v53 M53 J53 ⟨rfl, h53⟩
   have hbl := A8H key ws lb hn8
   change Rd J53 1 v53 (B5Q key ws lb n).length (nums .u8 (B5Q key ws lb n)) at h53
   rw [hbl] at h53
   haveI := h53.cel
   have hb256 : ∀ x ∈ B5Q key ws lb n, x < 256 := A15 _ _ _
   generalize hbigE : B5Q key ws lb n = big at *
   refine as_ (A0 (E2 4 11 15) (A5 (A3 (mv_ ?_))))
   refine A4 (A6c (n : Int) rfl rfl (by split <;> omega)) rfl ?_
   refine mv_ (A0 (E7 11 15 55 56) (C0 ?_))
   refine F2 (α := Nat × Value × List Value × Mem) (fun x => [(11, x.2.1), (15, v53), (55, .int .i64 (n : Int)), (56, (vI x.1))]) (fun x => x.2.2.2 ++ ((pb, blk [.int .u8 (md s.real), sv, .int .i64 (((s.n : Nat) : Int)), (vP bt)] 62) :: (B ++ MT))) (fun _ => J53) (fun x => x.1 ≤ n ∧ Sl 1 x.2.1 x.1 x.2.2.1 x.2.2.2 ∧ Lst J53 x.2.2.1 ((List.range x.1).map fun i => (big.take (32 * i + 32)).drop (32 * i))) (fun x => n - x.1) ⟨0, vS, [], []⟩ ⟨Nat.zero_le _, Sl.nil, Lst.nil⟩ (E7 11 15 55 56) (Fit.none (Fit.pick (B := [_]) qP (Fit.pick qP (Fit.last qP)))) (fun x hx => qS x hx) ?_
   rintro ⟨i, v11, vs11, B11⟩ ⟨hi, hs11, hl11⟩
   dsimp only at hi hs11 hl11 ⊢
   haveI := hs11.cel
   refine A3 ?_
   refine A4 (F1 rfl rfl rfl) rfl ?_
   refine A0 (F5 11 15 55 56 57) (A5 ?_)
   refine C7 rfl ?_ ?_ <;> intro hc
   ·
    have hlt : i < n := by simp at hc; omega
    refine A9 (nx (E7 11 15 55 56) (A5 (C0 (A3 (mv_ (as_ (A0 (F5 11 15 16 55 56) (C2 ?_))))))))
    refine mv_ (mv_ (mv_ ?_))
    refine A4 (A1q (a := 32) rfl rfl rfl rfl qO) rfl ?_
    refine mv_ ?_
    refine A4 (A1q (a := 32) rfl rfl rfl rfl qO) rfl ?_
    refine A4 (N8 (b := 32) rfl rfl rfl rfl qO) rfl ?_
    refine A4 (B9i (sz := 1) (a := 32 * i) (b := 32 * i + 32) rfl rfl rfl kR rfl rfl h53 qO qO) rfl ?_
    have hpt := (h53.hiV (32 * i + 32) qO).loV (32 * i) qO
    rw [Nat.mul_one, Nat.mul_one, ← A0Z, ← A0r] at hpt
    generalize vLo (32 * i) 1 (vHi (32 * i + 32) v53) = vp at *
    haveI := hpt.cel
    have hpb : By J53 vp ((big.take (32 * i + 32)).drop (32 * i)) := ⟨by rw [List.length_drop, List.length_take, hbl, Nat.min_eq_left qO]; exact hpt, fun x hx => hb256 x (List.mem_of_mem_take (List.mem_of_mem_drop hx)), by rw [List.length_drop, List.length_take, hbl]; omega⟩
    refine A6 rfl (C6 (e := 27) (sz := 1) (z := [vS]) kR (eS rfl e0) (bdS 0 1 rfl qR bd0) rfl fun b67 => ?_)
    refine A6 rfl (I3 (e := 27) (sz := 1) (by_ := 24) rfl rfl kR rfl hs11 (Rd.whole (n := 1) At.mem qR) (by intro c hc; rw [List.mem_singleton.1 hc]; exact hpt.one) qP (by unfold maxLen; omega) qO rfl fun v68 B68 hs68 => ?_)
    refine as_ (D0 (nb (nx (E7 11 15 55 56) (C2 ?_))))
    refine A4 (N8 (b := 1) rfl rfl rfl rfl qO) rfl ?_
    refine mv_ (D0 ?_)
    exact rn ⟨i + 1, v68, vs11 ++ [vp], B68⟩ ⟨by dsimp only; omega, hs68, by dsimp only; rw [List.range_succ, List.map_append]; exact hl11.snoc hpb⟩ (by dsimp only; omega) (E7 11 15 55 56) (Fit.pick qP (Fit.pick (B := [_]) qP (Fit.pick qP (Fit.last qP)))) (fun x hx => qS x hx)
   ·
    have hge : i = n := by simp at hc; omega
    subst hge
    refine E6 (te (re (be rfl (nx (D8 11) (A3 (mv_ (as_ (A0 (D8 10) ?_))))))))
    refine C3 (tr ?_)
    exact ⟨_, (pb, blk [.int .u8 (md s.real), sv, .int .i64 (((s.n : Nat) : Int)), (vP bt)] 62) :: (B ++ MT), B11, K2 rfl rfl, (Fit.pick qP (Fit.pick (B := [_]) qP (Fit.pick qP (Fit.last qP)))), by rw [A6A hr]; exact ⟨sv, bt, bm, B, MT, rfl, hby, hT⟩, by rw [A6B hr, hbigE]; exact ⟨vs11, by rw [A8G]; exact hs11.rd qS, hl11.mono qS⟩⟩
 ·
  have hr : s.real = false := by cases hq : s.real with | false => rfl | true => rw [hq] at hc; exact absurd hc qD
  refine A9 (nx (I1 0 1 2 3 4 11) (A3 (mv_ (mv_ ?_))))
  refine A6 rfl (E1 (Mc := (pb, blk [.int .u8 (md s.real), sv, .int .i64 (((s.n : Nat) : Int)), (vP bt)] 62) :: (B ++ MT)) (R := _) (aS rfl (aS rfl a0)) kR qP (A4C pb s kv key _ _ hP qO (hk.mono qS) hG.up) rfl ?_)
  rintro v73 M73 J73 ⟨rfl, hP73⟩
  have hst0 : RdOk s.ts.length 0 (s.ts, []) := ⟨Nat.le_refl _, rfl, (fun x hx => by cases hx), hTmo⟩
  have hst := hst0.step hk.lt (by have := hk.len; omega)
  refine A6 rfl (C6 (e := 3) (sz := 1) (z := [.int .i64 0]) kR (eS rfl e0) (bdS 0 1 rfl qR bd0) rfl fun b74 => ?_)
  refine as_ (A0 (I1 0 2 3 4 11 17) (A5 (A3 (mv_ ?_))))
  refine A4 (K1 (sz := 1) rfl kR hwr) rfl ?_
  refine mv_ (A0 (A2o 0 3 4 11 17 75 76 77) (C0 ?_))
  refine F2 (α := Nat × Value × Mem × Mem) (fun x => [(0, (vP pb)), (3, .string (txt lb)), (4, .int .i64 (n : Int)), (11, vS), (17, x.2.1), (75, wv), (76, (vI ws.length)), (77, (vI x.1))]) (fun x => x.2.2.1 ++ x.2.2.2) (fun x => []) (fun x => x.1 ≤ ws.length ∧ RdOk s.ts.length (1 + x.1) ((ws.take x.1).foldl Z8 (Z8 (s.ts, []) key)) ∧ Sl 1 x.2.1 (1 + x.1) (A1s ((ws.take x.1).foldl Z8 (Z8 (s.ts, []) key)).2) x.2.2.1 ∧ Prm pb { s with ts := ((ws.take x.1).foldl Z8 (Z8 (s.ts, []) key)).1 } x.2.2.2) (fun x => ws.length - x.1) ⟨0, .slice (some ⟨b74, 0, none⟩) 1 1, [(b74, _)], M73⟩ ⟨Nat.zero_le _, hst, Sl.fresh (n := 1) (sz := 1) (cs := A1s [((rdI s.ts key : Nat) : Int)]) (e := 3) qR qD, hP73⟩ (A2o 0 3 4 11 17 75 76 77) (Fit.pick (B := [(b74, blk [.int .i64 ((rdI s.ts key : Nat) : Int)] 3)]) qP (Fit.last (B := M73) qP)) (fun _ h => by cases h) ?_
  rintro ⟨i, v17, B17, MR⟩ ⟨hi, hok, hs17, hPR⟩
  dsimp only at hi hok hs17 hPR ⊢
  haveI := hs17.cel
  refine A3 ?_
  refine A4 (F1 rfl rfl rfl) rfl ?_
  refine A0 (A7q 0 3 4 11 17 75 76 77 78) (A5 ?_)
  refine C7 rfl ?_ ?_ <;> intro hc
  ·
   have hlt : i < ws.length := by simp at hc; omega
   obtain ⟨v, hvi, hvb⟩ := hwl.at hlt
   haveI := hvb.cel
   have hft := B1c (f := Z8) (b := Z8 (s.ts, []) key) hlt
   have hok2 := hok.step hvb.lt (by have := hvb.len; omega)
   rw [← hft] at hok2
   have hokl := hok.len
   refine A9 (nx (A2o 0 3 4 11 17 75 76 77) (A5 (C0 (A3 ?_))))
   refine A4 (K0 (sz := 1) rfl rfl kR rfl hwr hlt) rfl ?_
   refine A4 (A00 (u := v) (hwr.mono qS) rfl kR hvi) rfl ?_
   refine as_ (A0 (A7q 0 3 4 11 17 19 75 76 77) (C2 (mv_ (mv_ (mv_ ?_)))))
   refine A6 rfl (E1 (Mc := MR) (R := _) (aS rfl (aS rfl a0)) kR qP (A4C pb _ v ws[i] _ _ hPR (by dsimp only; omega) (hvb.mono qS) hG.up) rfl ?_)
   rintro v84 M84 J84 ⟨rfl, hP84⟩
   refine A6 rfl (C6 (e := 3) (sz := 1) (z := [.int .i64 0]) kR (eS rfl e0) (bdS 0 1 rfl qR bd0) rfl fun b85 => ?_)
   refine A6 rfl (I3 (e := 3) (sz := 1) (by_ := 8) rfl rfl kR rfl hs17 (Rd.whole (n := 1) At.mem qR) (by simp [Value.oneCell']) qP (by unfold maxLen; omega) qO rfl fun v86 B86 hs86 => ?_)
   refine as_ (D0 (nb (nx (A2o 0 3 4 11 17 75 76 77) (C2 ?_))))
   refine A4 (N8 (b := 1) rfl rfl rfl rfl qO) rfl ?_
   refine mv_ (D0 ?_)
   exact rn ⟨i + 1, v86, B86, M84⟩ ⟨by dsimp only; omega, hok2, (by dsimp only; rw [hft, show Z8 _ ws[i] = (_, _ ++ [_]) from rfl]; dsimp only; rw [B1d]; exact hs86), (by dsimp only; rw [hft]; exact hP84)⟩ (by dsimp only; omega) (A2o 0 3 4 11 17 75 76 77) (Fit.pick qP (Fit.last qP)) (fun _ h => by cases h)
  ·
   have hge : i = ws.length := by simp at hc; omega
   subst hge
   rw [List.take_length] at hok hs17 hPR
   change RdOk _ _ (V0 s.ts key ws) at hok
   change Sl _ _ _ (A1s (V0 s.ts key ws).2) _ at hs17
   change Prm _ { s with ts := (V0 s.ts key ws).1 } _ at hPR
   refine E6 (te (re (be rfl (nx (F5 0 3 4 11 17) (A5 (A3 (mv_ ?_)))))))
   refine A4 (A6c (n : Int) rfl rfl (by split <;> omega)) rfl ?_
   refine mv_ (A0 (I1 0 3 11 17 89 90) (C0 ?_))
   have hokl := hok.len
   have hokf := hok.ofl
   have hoki : ∀ x ∈ (V0 s.ts key ws).2, i64 x := fun x hx => by have := hok.of x hx; unfold i64; omega
   generalize hra : (V0 s.ts key ws).1 = tr at *
   generalize hof : (V0 s.ts key ws).2 = ofs at *
   refine F2 (α := Nat × Value × List Value × Mem × Mem × Mem) (fun x => [(0, (vP pb)), (3, .string (txt lb)), (11, x.2.1), (17, v17), (89, .int .i64 (n : Int)), (90, (vI x.1))]) (fun x => x.2.2.2.1 ++ (B17 ++ x.2.2.2.2.1)) (fun x => x.2.2.2.2.2) (fun x => x.1 ≤ n ∧ Sl 1 x.2.1 x.1 x.2.2.1 x.2.2.2.1 ∧ Lst x.2.2.2.2.2 x.2.2.1 (P9 tr ofs lb x.1).2 ∧ Prm pb { s with ts := (P9 tr ofs lb x.1).1 } x.2.2.2.2.1) (fun x => n - x.1) ⟨0, vS, [], [], MR, []⟩ ⟨Nat.zero_le _, Sl.nil, Lst.nil, hPR⟩ (I1 0 3 11 17 89 90) .rfl (fun _ h => by cases h) ?_
   rintro ⟨i, v11, vs11, B11, MQ, JQ⟩ ⟨hi, hs11, hl11, hPQ⟩
   dsimp only at hi hs11 hl11 hPQ ⊢
   haveI := hs11.cel
   obtain ⟨hpl2, hpl1⟩ := A3I tr ofs lb i
   refine A3 ?_
   refine A4 (F1 rfl rfl rfl) rfl ?_
   refine A0 (Y0 0 3 11 17 89 90 91) (A5 ?_)
   refine C7 rfl ?_ ?_ <;> intro hc
   ·
    have hlt : i < n := by simp at hc; omega
    obtain ⟨sv2, bt2, bm2, B2, MT2, rfl, hby2, hT2⟩ := hPQ.ex
    dsimp only at hpl1 hT2 hby2 ⊢
    have hor := hs17.rd (R := B17) fun _ h => h
    rw [hokf.symm] at hor
    have hor : Rd B17 1 v17 ofs.length (A1s ofs) := A1n hor qO rfl
    refine A9 (nx (I1 0 3 11 17 89 90) (A5 (C0 (A3 (mv_ (as_ (A0 (Y0 0 3 11 17 20 89 90) (C2 ?_))))))))
    refine mv_ (mv_ ?_)
    refine A4 (F9 rfl) rfl ?_
    refine A4 (qf_ 3 3) rfl ?_
    refine A4 ql_ rfl ?_
    refine mv_ (mv_ (mv_ ?_))
    refine A4 (F3 (place := fun x => #[(0, 1), (1, 1), (2, 1), (3, 1)][x]?) (z := [.int .u8 0, vS, .string ByteArray.empty, .int .i64 0]) (fun _ => by kernel_rfl) (eS rfl (eS rfl (eS rfl (eS rfl e0)))) (bdS 0 1 rfl qR (bdS 1 1 rfl qR (bdS 2 1 rfl qR (bdS 3 1 rfl qR bd0))))) rfl ?_
    refine A6 rfl (E1 (Mc := MT2) (R := _) (aS rfl (aS rfl a0)) kR qP (U4 bt2 bm2 (P9 tr ofs lb i).1 v17 (drv ofs lb i) MT2 _ hT2 qO (hor.mono qS) (B5S hoki qO hlb qO qO) (mA h4)) rfl ?_)
    rintro v102 M102 J102 ⟨rfl, rfl, hT102⟩
    refine C9 (aS rfl a0) kR (Y9 _ _) rfl ?_
    rintro v103 M103 J103 ⟨rfl, hb103⟩
    haveI := hb103.cel
    refine A6 rfl (C6 (e := 27) (sz := 1) (z := [vS]) kR (eS rfl e0) (bdS 0 1 rfl qR bd0) rfl fun b104 => ?_)
    refine A6 rfl (I3 (e := 27) (sz := 1) (by_ := 24) rfl rfl kR rfl hs11 (Rd.whole (n := 1) At.mem qR) (by intro c hc; rw [List.mem_singleton.1 hc]; exact hb103.one) qP (by unfold maxLen; omega) qO rfl fun v105 B105 hs105 => ?_)
    refine as_ (D0 (nb (nx (I1 0 3 11 17 89 90) (C2 ?_))))
    refine A4 (N8 (b := 1) rfl rfl rfl rfl qO) rfl ?_
    refine mv_ (D0 ?_)
    exact rn ⟨i + 1, v105, vs11 ++ [v103], B105, (pb, blk [.int .u8 (md s.real), sv2, .int .i64 (((s.n : Nat) : Int)), (vP bt2)] 62) :: (B2 ++ M102), J103 ++ JQ⟩ ⟨by dsimp only; omega, hs105, (by dsimp only; rw [show P9 tr ofs lb (i + 1) = B1a ofs lb (P9 tr ofs lb i) i from R9 i]; exact (hl11.mono qS).snoc (hb103.mono qS)), (by dsimp only; rw [show P9 tr ofs lb (i + 1) = B1a ofs lb (P9 tr ofs lb i) i from R9 i]; exact ⟨sv2, bt2, bm2, B2, M102, rfl, hby2, hT102⟩)⟩ (by dsimp only; omega) (I1 0 3 11 17 89 90) (Fit.pick qP (Fit.pick qP (Fit.pick (B := [_]) qP (Fit.pick qP (Fit.last qP))))) qI
   ·
    have hge : i = n := by simp at hc; omega
    subst hge
    refine E6 (te (re (be rfl (nx (D8 11) (A3 (mv_ (as_ (A0 (D8 10) ?_))))))))
    refine C3 ?_
    exact ⟨_, MQ, B11, K2 rfl rfl, (Fit.pick qP (Fit.last qP)), by rw [A4D hr, show A9K s.ts key ws lb i = P9 tr ofs lb i by unfold A9K; rw [hra, hof]]; exact hPQ, by rw [A6C hr, show A9K s.ts key ws lb i = P9 tr ofs lb i by unfold A9K; rw [hra, hof]]; exact ⟨vs11, by rw [hpl2]; exact hs11.rd qS, hl11.mono qS⟩⟩

structure Tok (ts : List Tm) : Prop where
  tmo : ∀ t ∈ ts, Tmo t
  nd : ts.Nodup
theorem Tab.tok {bt bm : Nat} {ts : List Tm} {M : Mem} (h : Tab bt bm ts M) : Tok ts := by
  obtain ⟨_, _, _, _, _, _, _, _, _, _, _, h1, h2⟩ := h
  exact ⟨h1, h2⟩
theorem Tok.nil : Tok [] := ⟨(fun t h => by cases h), List.nodup_nil⟩
theorem A6D {ts : List Tm} {t : Tm} (ht : Tmo t) (h : Tok ts) : ∃ l, add ts t = ts ++ l ∧ (add ts t).length ≤ ts.length + 1 ∧ (add ts t)[at_ ts t]? = some t ∧ Tok (add ts t) := by
  cases hp : pos ts t with
  | some j =>
    obtain ⟨h1, h2⟩ := A5n hp
    exact ⟨[], by rw [h1, List.append_nil], A1E, by rw [h1, h2]; exact A5k ht h.tmo hp, by rw [h1]; exact h⟩
  | none =>
    obtain ⟨h1, h2⟩ := A8D hp
    refine ⟨[t], h1, A1E, by rw [h1, h2]; simp, ?_⟩
    rw [h1]
    refine ⟨fun u hu => ?_, ?_⟩
    · rcases List.mem_append.1 hu with hu | hu
      · exact h.tmo u hu
      · rw [List.mem_singleton.1 hu]; exact ht
    · rw [List.nodup_append]
      refine ⟨h.nd, by simp, fun x hx y hy e => (A5l ht h.tmo).1 hp ?_⟩
      rw [List.mem_singleton.1 hy] at e
      exact e ▸ hx
theorem A4E {ts l : List Tm} {i : Nat} {t : Tm} (h : ts[i]? = some t) : (ts ++ l)[i]? = some t := by
  rw [List.getElem?_append_left (List.getElem?_eq_some_iff.1 h).1]; exact h
theorem B3R {ts : List Tm} {t : Tm} {i : Nat} (h : Tok ts) (ht : ts[i]? = some t) : add ts t = ts ∧ at_ ts t = i := A5n (B9p h.tmo h.nd ht)
theorem A5p {i j : Nat} (hi : i < 18446744073709551616) (hj : j < 18446744073709551616) (h : bts ((i : Nat) : Int) = bts ((j : Nat) : Int)) : i = j := by
  have h1 := A2w ((i : Nat) : Int) 18446744073709551616
  have h2 := A2w ((j : Nat) : Int) 18446744073709551616
  have ui : u64 ((i : Nat) : Int) = i := by unfold u64; omega
  have uj : u64 ((j : Nat) : Int) = j := by unfold u64; omega
  rw [ui, if_pos hi] at h1
  rw [uj, if_pos hj] at h2
  rw [h, h2] at h1
  exact (Option.some.inj h1).symm
def B7l (ts : List Tm) (w : LN) : Prop := ∃ i, i < ts.length ∧ w = bts ((i : Nat) : Int)
theorem B7l.ext {ts l : List Tm} {w : LN} (h : B7l ts w) : B7l (ts ++ l) w := by
  obtain ⟨i, hi, e⟩ := h
  exact ⟨i, by rw [List.length_append]; omega, e⟩
theorem A5q {ts : List Tm} {i : Nat} (hi : i < ts.length) (hl : ts.length ≤ 1048576) : rdT ts (bts ((i : Nat) : Int)) = ts ∧ rdI ts (bts ((i : Nat) : Int)) = i := by
  refine V6 ?_
  rw [A2w, show u64 ((i : Nat) : Int) = i by unfold u64; omega, if_pos hi]
theorem A6E (ts : List Tm) (ofs : List Int) (lb : LN) (n : Nat) : ∃ l, (P9 ts ofs lb (n + 1)).1 = (P9 ts ofs lb n).1 ++ l := by
  have e : P9 ts ofs lb (n + 1) = B1a ofs lb (P9 ts ofs lb n) n := R9 n
  rw [e]
  show ∃ l, add _ _ = _ ++ l
  unfold add
  split
  · exact ⟨[], by simp⟩
  · exact ⟨_, rfl⟩
theorem A6F {ts : List Tm} {ofs : List Int} {lb : LN} (h : Tok ts) (hd : ∀ i, i < 100 → Tmo (drv ofs lb i)) {n : Nat} (hn : n ≤ 100) : Tok (P9 ts ofs lb n).1 := by
  induction n with
  | zero => exact h
  | succ n ih =>
    have e : P9 ts ofs lb (n + 1) = B1a ofs lb (P9 ts ofs lb n) n := R9 n
    rw [e]
    obtain ⟨_, _, _, _, h2⟩ := A6D (hd n qO) (ih qO)
    exact h2
theorem A7I {ts : List Tm} {ofs : List Int} {lb : LN} (h : Tok ts) (hd : ∀ i, i < 100 → Tmo (drv ofs lb i)) {n : Nat} (hn : n ≤ 100) {ts' l : List Tm} (e : ts' = (P9 ts ofs lb n).1 ++ l) (h' : Tok ts') : P9 ts' ofs lb n = (ts', (P9 ts ofs lb n).2) := by
  induction n generalizing l with
  | zero => rfl
  | succ n ih =>
    obtain ⟨l2, e2⟩ := A6E ts ofs lb n
    have ih := ih qO (l := l2 ++ l) (by rw [e, e2, List.append_assoc])
    have e3 : P9 ts ofs lb (n + 1) = B1a ofs lb (P9 ts ofs lb n) n := R9 n
    have e4 : P9 ts' ofs lb (n + 1) = B1a ofs lb (P9 ts' ofs lb n) n := R9 n
    obtain ⟨l3, g1, g2, g3, g4⟩ := A6D (hd n qO) (A6F h hd (show n ≤ 100 by omega))
    have g5 : ts'[at_ (P9 ts ofs lb n).1 (drv ofs lb n)]? = some (drv ofs lb n) := by
      rw [e, e3]
      exact A4E g3
    obtain ⟨a1, a2⟩ := B3R h' g5
    rw [e4, ih, e3]
    show (add ts' (drv ofs lb n), _ ++ [bts ((at_ ts' (drv ofs lb n) : Nat) : Int)]) = _
    rw [a1, a2]
    rfl
def Kok (s : Ps) (w : LN) : Prop := s.real = false → B7l s.ts w
structure Pext (s s' : Ps) : Prop where
  real : s'.real = s.real
  ts : ∃ l, s'.ts = s.ts ++ l
theorem Pext.refl (s : Ps) : Pext s s := ⟨rfl, [], by simp⟩
theorem Pext.trans {a b c : Ps} (h1 : Pext a b) (h2 : Pext b c) : Pext a c := by
  obtain ⟨l1, e1⟩ := h1.ts
  obtain ⟨l2, e2⟩ := h2.ts
  exact ⟨h2.real.trans h1.real, l1 ++ l2, by rw [e2, e1, List.append_assoc]⟩
theorem Kok.ext {s s' : Ps} {w : LN} (h : Kok s w) (he : Pext s s') : Kok s' w := fun hr => by
  obtain ⟨l, e⟩ := he.ts
  rw [e]
  exact (h (by rw [← he.real]; exact hr)).ext
theorem A6G (s : Ps) : Pext s (D4 s) := by
  unfold D4
  split
  · exact ⟨rfl, [], by simp⟩
  · refine ⟨rfl, ?_⟩
    show ∃ l, add _ _ = _ ++ l
    unfold add
    split
    · exact ⟨[], by simp⟩
    · exact ⟨_, rfl⟩
theorem A0t {s : Ps} (h : Tok s.ts) (hn : s.n < 1099511627776) : Kok (D4 s) (D9 s) ∧ (s.real = false → Tok (D4 s).ts) := by
  cases hr : s.real with
  | true => exact ⟨(fun h1 => by rw [(A6G s).real, hr] at h1; cases h1), (fun h => by cases h)⟩
  | false =>
    obtain ⟨l, g1, g2, g3, g4⟩ := A6D (A8F (n := s.n + 1) qO) h
    refine ⟨fun _ => ?_, fun _ => by rw [A3c hr]; exact g4⟩
    rw [A3c hr, A3e hr]
    exact ⟨_, (List.getElem?_eq_some_iff.1 g3).1, rfl⟩
theorem A9M (ws : List (LN)) (st : List Tm × List Int) : (ws.foldl Z8 st).1.length ≤ st.1.length + ws.length := by
  induction ws generalizing st with
  | nil => exact Nat.le_refl _
  | cons w ws ih =>
    have h1 := ih (Z8 st w)
    have h2 := U5 (ts := st.1) (ws := w)
    have h3 : (Z8 st w).1.length = (rdT st.1 w).length := rfl
    rw [List.foldl_cons, List.length_cons]; omega
theorem B3S (s : Ps) (key : LN) (ws : List (LN)) (lb : LN) (n : Nat) : (A7G s key ws lb n).ts.length ≤ s.ts.length + 1 + ws.length + n := by
  unfold A7G
  split
  · omega
  · have h1 := (A3I (V0 s.ts key ws).1 (V0 s.ts key ws).2 lb n).2
    have h2 := A9M ws (Z8 (s.ts, []) key)
    have h3 := U5 (ts := s.ts) (ws := key)
    have h4 : (Z8 (s.ts, []) key).1.length = (rdT s.ts key).length := rfl
    show (A9K s.ts key ws lb n).1.length ≤ _
    have h5 : (V0 s.ts key ws).1.length ≤ s.ts.length + 1 + ws.length := by
      show (ws.foldl Z8 (Z8 (s.ts, []) key)).1.length ≤ _
      omega
    unfold A9K
    omega
theorem A3J (s : Ps) (key : LN) (ws : List (LN)) (lb : LN) (n : Nat) : (A7G s key ws lb n).real = s.real ∧ (A7G s key ws lb n).n = s.n ∧ (A7G s key ws lb n).seed = s.seed := by
  unfold A7G
  split <;> exact ⟨rfl, rfl, rfl⟩

structure PrmT (pb bt bm : Nat) (s : Ps) (M : Mem) : Prop where
  ex : ∃ (sv : Value) (B MT : Mem), M = (pb, blk [.int .u8 (md s.real), sv, (vI s.n), (vP bt)] 62) :: (B ++ MT) ∧ By B sv s.seed ∧ Tab bt bm s.ts MT
theorem PrmT.p {pb bt bm : Nat} {s : Ps} {M : Mem} (h : PrmT pb bt bm s M) : Prm pb s M := by
  obtain ⟨sv, B, MT, h1, h2, h3⟩ := h.ex
  exact ⟨sv, bt, bm, B, MT, h1, h2, h3⟩
theorem Prm.t {pb : Nat} {s : Ps} {M : Mem} (h : Prm pb s M) : ∃ bt bm, PrmT pb bt bm s M := by
  obtain ⟨sv, bt, bm, B, MT, h1, h2, h3⟩ := h.ex
  exact ⟨bt, bm, sv, B, MT, h1, h2, h3⟩
def B0c (x : Int) : Tm := ⟨3, [x], [], 0⟩
def B1e (s : Ps) (w : LN) : Ps := { s with ts := add (rdT s.ts w) (B0c ((rdI s.ts w : Nat) : Int)) }
def B3T (s : Ps) (w : LN) : LN := bts ((at_ (rdT s.ts w) (B0c ((rdI s.ts w : Nat) : Int)) : Nat) : Int)
def B7m (s : Ps) (w u : LN) : Ps := { s with ts := add (rdT (rdT s.ts w) u) (agT (rdT (rdT s.ts w) u) ((rdI s.ts w : Nat) : Int) ((rdI (rdT s.ts w) u : Nat) : Int)) }
def B8P (s : Ps) (w u : LN) : LN := bts ((at_ (rdT (rdT s.ts w) u) (agT (rdT (rdT s.ts w) u) ((rdI s.ts w : Nat) : Int) ((rdI (rdT s.ts w) u : Nat) : Int)) : Nat) : Int)
theorem B5U {x : Int} (h : i64 x) : Tmo (B0c x) := ⟨show 3 < 256 by decide, show i64 (0 : Int) by unfold i64; omega, fun i hi => by rw [List.mem_singleton.1 hi]; exact h, show 1 ≤ 1048576 by decide, ⟨fun x hx => (List.not_mem_nil hx).elim⟩, show 0 ≤ 1099511627776 by decide⟩
theorem A5r {ts : List Tm} {w : LN} (hw : ∀ x ∈ w, x < 256) (hl : w.length ≤ 1099511627776) (hts : ∀ t ∈ ts, Tmo t) (hn : ts.length ≤ 1048576) : i64 ((rdI ts w : Nat) : Int) := by
  have h1 := B5R hw hl hts
  have h2 : (rdT ts w).length ≤ ts.length + 1 := U5
  unfold i64; omega
theorem A0D (pb bt bm : Nat) (m k : Int) (sv : Value) [hsv : Cel sv [sv]] (ts : List Tm) (v : Value) (w : LN) (MT A : Mem) (hT : Tab bt bm ts MT) (hpb : (pb, blk [.int .u8 m, sv, .int .i64 k, (vP bt)] 62) ∈ A) (hn : ts.length ≤ 1048576) (hv : By A v w) {e4 : TypeId} {f4 : Nat × Nat} (h4 : (2, Obj.cells (nums .u64 A0R).toArray e4 f4) ∈ A) : FnX Tryz.prog 19 [(vP pb), v] MT A fun q M J => q = .int .i64 ((rdI ts w : Nat) : Int) ∧ Tab bt bm (rdT ts w) M := by
 haveI := hv.cel
 have hvl := hv.len
 refine FnX.enterZ (N := 11) Tryz.func19 rfl rfl rfl fun w_ => ?_
 refine C4 (D5 0 1) (A3 (as_ (A0 (D5 0 1) (A3 (mv_ ?_)))))
 refine A4 (F9 rfl) rfl ?_
 refine A4 (qf_ 3 3) rfl ?_
 refine A4 ql_ rfl ?_
 refine mv_ ?_
 refine A6 rfl (E1 (Mc := MT) (R := _) (aS rfl (aS rfl a0)) kR qP (A6z bt bm ts v w MT _ hT hn (hv.rd.mono qS) hv.lt (by have := hv.len; omega) (qS _ h4)) rfl ?_)
 rintro v10 M10 J10 ⟨rfl, rfl, hT10⟩
 refine as_ (A0 (D8 4) (C3 ?_))
 exact ⟨_, M10, [], K2 rfl rfl, Fit.none (Fit.last qP), rfl, hT10⟩
theorem A7J (pb bt bm : Nat) (s : Ps) (hr : s.real = false) (v : Value) (w : LN) (MP A : Mem) (hP : PrmT pb bt bm s MP) (hn : s.ts.length < 1048576) (hv : By A v w) (hG : Glb A) : FnX Tryz.prog 7 [(vP pb), v] MP A fun q M J => PrmT pb bt bm (B1e s w) M ∧ By J q (B3T s w) := by
 obtain ⟨sv, B, MT, rfl, hby, hT⟩ := hP.ex
 have hmd : md s.real = 1 := by rw [hr]; rfl
 rw [hmd] at *
 obtain ⟨⟨ge0, gf0, h0⟩, ⟨ge1, gf1, h1⟩, ⟨ge4, gf4, h4⟩⟩ := hG
 haveI := hv.cel
 haveI := hby.cel
 have hvl := hv.len
 refine FnX.enterZ (N := 26) Tryz.func7 rfl rfl rfl fun w_ => ?_
 refine C4 (D5 0 1) (A3 (as_ (A0 (D5 0 1) (A5 (A3 (mv_ ?_))))))
 refine A4 (F0 (e := 62) rfl rfl kR) rfl ?_
 refine A0 (E2 0 1 6) ?_
 refine D3 rfl ?_
 refine A9 (nx (D5 0 1) (A5 (A3 (mv_ ?_))))
 refine A4 (F9 rfl) rfl ?_
 refine A4 (qf_ 0 0) rfl ?_
 refine A4 ql_ rfl ?_
 refine A4 (F4 false rfl rfl (eqF qD)) rfl ?_
 refine A0 (E2 0 1 11) ?_
 refine D3 rfl ?_
 refine A9 (nx (D5 0 1) ?_)
 refine I0 (MT) (_) true [0, 1, 2, 3, 4, 5, 6, 7, 8, 11] (zp 0 [0, 0, 0, 1, 0, 0, 2, 2, 0, 2, 2, 0]) kR kR qP fun hs K n0 hKm hKs hKn => ?_
 refine km_ hs ?_
 refine I8 hs rfl (F9 rfl) rfl ?_
 refine I8 hs rfl (qf_ 3 3) rfl ?_
 refine Q0 hs rfl hKs ql_ ?_
 refine km_ hs ?_
 refine km_ hs ?_
 refine K6 _ _ rfl rfl (List.Perm.refl _) hKm fun w0 => (E1 (Mc := MT) (R := _) (aS rfl (aS rfl a0)) kR qP (A0D pb bt bm 1 _ sv s.ts v w MT _ hT At.mem qO (hv.mono qS) (qS _ h4)) rfl ?_)
 rintro v21 M21 J21 ⟨rfl, hT21⟩ hKx
 refine K6 [] _ rfl rfl (List.Perm.refl _) (fun _ h => by cases h) fun w0 => (C6 (e := 3) (sz := 1) (z := [.int .i64 0]) kR (eS rfl e0) (bdS 0 1 rfl qR bd0) rfl fun b22 => fun _ => ?_)
 refine A1z (M' := (b22, blk [.int .i64 ((rdI s.ts w : Nat) : Int)] 3) :: (M21 ++ ((pb, blk [.int .u8 1, sv, .int .i64 (((s.n : Nat) : Int)), (vP bt)] 62) :: (B ++ [])))) qM ?_
 refine I8 hs rfl (F3 (place := fun x => #[(0, 1), (1, 1), (2, 1), (3, 1)][x]?) (z := [.int .u8 0, vS, .string ByteArray.empty, .int .i64 0]) (fun _ => by kernel_rfl) (eS rfl (eS rfl e0)) (bdS 0 1 rfl qR (bdS 1 1 rfl qR bd0))) rfl ?_
 refine P0 rfl rfl rfl (E1 (Mc := M21) (R := _) (aS rfl (aS rfl a0)) kR qP (U4 bt bm (rdT s.ts w) _ (B0c ((rdI s.ts w : Nat) : Int)) M21 _ hT21 (by have := U5 (ts := s.ts) (ws := w); omega) (Rd.whole (n := 1) At.mem qR) (B5U (A5r hv.lt qO hT.tok.tmo qO)) (qS _ h4)) rfl ?_)
 rintro v24 M24 J24 ⟨rfl, rfl, hT24⟩
 refine P0 rfl rfl rfl (D7 (aS rfl a0) kR (Y9 _ _) rfl ?_)
 rintro v25 M25 J25 ⟨rfl, h25⟩
 refine I8 hs rfl (I4 rfl) rfl ?_
 refine P4 (D8 4) (C3 ?_)
 exact ⟨_, (pb, blk [.int .u8 1, sv, .int .i64 (((s.n : Nat) : Int)), (vP bt)] 62) :: (B ++ M24), [], K2 rfl rfl, (Fit.none (Fit.pick (B := [_]) qP (Fit.pick qP (Fit.last qP)))), ⟨sv, B, M24, by rw [show md (B1e s w).real = 1 by show md s.real = 1; rw [hr]; rfl]; rfl, hby, hT24⟩, h25.mono qS⟩
theorem A7K (pb bt bm : Nat) (s : Ps) (hr : s.real = false) (v v2 : Value) (w u : LN) (MP A : Mem) (hP : PrmT pb bt bm s MP) (hn : s.ts.length + 1 < 1048576) (hv : By A v w) (hu : By A v2 u) (hG : Glb A) : FnX Tryz.prog 23 [(vP pb), v, v2] MP A fun q M J => PrmT pb bt bm (B7m s w u) M ∧ By J q (B8P s w u) := by
 obtain ⟨sv, B, MT, rfl, hby, hT⟩ := hP.ex
 have hmd : md s.real = 1 := by rw [hr]; rfl
 rw [hmd] at *
 obtain ⟨⟨ge0, gf0, h0⟩, ⟨ge1, gf1, h1⟩, ⟨ge4, gf4, h4⟩⟩ := hG
 haveI := hv.cel
 haveI := hu.cel
 haveI := hby.cel
 have hvl := hv.len
 have hul := hu.len
 refine FnX.enterZ (N := 31) Tryz.func23 rfl rfl rfl fun w_ => ?_
 refine C4 (E2 0 1 2) (A3 (as_ (A0 (E2 0 1 2) (A5 (A3 (mv_ ?_))))))
 refine A4 (F0 (e := 62) rfl rfl kR) rfl ?_
 refine A0 (E7 0 1 2 8) ?_
 refine D3 rfl ?_
 refine A9 (nx (E2 0 1 2) (A5 (A3 (mv_ ?_))))
 refine A4 (F9 rfl) rfl ?_
 refine A4 (qf_ 0 0) rfl ?_
 refine A4 ql_ rfl ?_
 refine A4 (F4 false rfl rfl (eqF qD)) rfl ?_
 refine A0 (E7 0 1 2 13) ?_
 refine D3 rfl ?_
 refine A9 (nx (E2 0 1 2) ?_)
 refine I0 (MT) (_) true [0, 1, 2, 3, 4, 5, 6, 7, 8, 9, 12] [(0, 0), (1, 0), (2, 0), (3, 1), (4, 0), (5, 0), (7, 0), (8, 0), (6, 2), (9, 2), (10, 2), (11, 2), (12, 0)] kR kR qP fun hs K n0 hKm hKs hKn => ?_
 refine km_ hs ?_
 refine I8 hs rfl (F9 rfl) rfl ?_
 refine I8 hs rfl (qf_ 3 3) rfl ?_
 refine Q0 hs rfl hKs ql_ ?_
 refine km_ hs ?_
 refine km_ hs ?_
 refine km_ hs ?_
 refine km_ hs ?_
 refine K6 _ _ rfl rfl (List.Perm.refl _) hKm fun w0 => (E1 (Mc := MT) (R := _) (aS rfl (aS rfl a0)) kR qP (A0D pb bt bm 1 _ sv s.ts v w MT _ hT At.mem qO (hv.mono qS) (qS _ h4)) rfl ?_)
 rintro v25 M25 J25 ⟨rfl, hT25⟩ hKx
 refine K6 (M25 ++ []) _ rfl rfl qP (hKx (hKn rfl)) fun w0 => (E1 (Mc := M25) (R := _) (aS rfl (aS rfl a0)) kR qP (A0D pb bt bm 1 _ sv (rdT s.ts w) v2 u M25 _ hT25 At.mem (by have := U5 (ts := s.ts) (ws := w); omega) (hu.mono qS) (qS _ h4)) rfl ?_)
 rintro v28 M28 J28 ⟨rfl, hT28⟩ hKy
 refine P0 rfl rfl rfl (E1 (Mc := M28) (R := _) (aS rfl (aS rfl (aS rfl a0))) kR qP (A9I bt bm (rdT (rdT s.ts w) u) _ _ M28 _ hT28 (by have := U5 (ts := s.ts) (ws := w); have := U5 (ts := rdT s.ts w) (ws := u); omega) (A5r hv.lt qO hT.tok.tmo qO) (A5r hu.lt qO hT25.tok.tmo (by have := U5 (ts := s.ts) (ws := w); omega)) (qS _ h4)) rfl ?_)
 rintro v29 M29 J29 ⟨rfl, rfl, hT29⟩
 refine P0 rfl rfl rfl (D7 (aS rfl a0) kR (Y9 _ _) rfl ?_)
 rintro v30 M30 J30 ⟨rfl, h30⟩
 refine I8 hs rfl (I4 rfl) rfl ?_
 refine P4 (D8 6) (C3 ?_)
 exact ⟨_, (pb, blk [.int .u8 1, sv, .int .i64 (((s.n : Nat) : Int)), (vP bt)] 62) :: (B ++ M29), [], K2 rfl rfl, (Fit.none (Fit.pick (B := [_]) qP (Fit.pick qP (Fit.last qP)))), ⟨sv, B, M29, by rw [show md (B7m s w u).real = 1 by show md s.real = 1; rw [hr]; rfl]; rfl, hby, hT29⟩, h30.mono qS⟩
theorem A8I (pb : Nat) (s : Ps) (hr : s.real = false) (v : Value) (w : LN) (MP A : Mem) (hP : Prm pb s MP) (hn : s.ts.length < 1048576) (hv : By A v w) (hG : Glb A) : FnX Tryz.prog 7 [(vP pb), v] MP A fun q M J => Prm pb (B1e s w) M ∧ By J q (B3T s w) := by
  obtain ⟨bt, bm, h⟩ := hP.t
  exact (A7J pb bt bm s hr v w MP A h hn hv hG).mono fun q M J ⟨h1, h2⟩ => ⟨h1.p, h2⟩
theorem B3U (pb : Nat) (s : Ps) (hr : s.real = false) (v v2 : Value) (w u : LN) (MP A : Mem) (hP : Prm pb s MP) (hn : s.ts.length + 1 < 1048576) (hv : By A v w) (hu : By A v2 u) (hG : Glb A) : FnX Tryz.prog 23 [(vP pb), v, v2] MP A fun q M J => Prm pb (B7m s w u) M ∧ By J q (B8P s w u) := by
  obtain ⟨bt, bm, h⟩ := hP.t
  exact (A7K pb bt bm s hr v v2 w u MP A h hn hv hu hG).mono fun q M J ⟨h1, h2⟩ => ⟨h1.p, h2⟩

def selT (x : Int) (a b : LN) : Tm := ⟨6, [x], mark a ++ mark b, 0⟩
def A39 (x : Int) (m : LN) : Tm := ⟨7, [x], m, 0⟩
def B3c (s : Ps) (w : LN) (f : Int → Tm) : Ps := { s with ts := add (rdT s.ts w) (f ((rdI s.ts w : Nat) : Int)) }
def B8Q (s : Ps) (w : LN) (f : Int → Tm) : LN := bts ((at_ (rdT s.ts w) (f ((rdI s.ts w : Nat) : Int)) : Nat) : Int)
theorem B5V {x : Int} (h : i64 x) {m : LN} (hm : ∀ y ∈ m, y < 256) (lm : m.length ≤ 16777216) : Tmo (A39 x m) :=
  ⟨show 7 < 256 by decide, show i64 (0 : Int) by unfold i64; omega, fun i hi => by rw [List.mem_singleton.1 hi]; exact h, show 1 ≤ 1048576 by decide, ⟨hm⟩, show m.length ≤ 1099511627776 by omega⟩
theorem B1f (pb bt bm : Nat) (s : Ps) (hr : s.real = false) (v v2 : Value) (w wm : LN) (MP A : Mem) (hP : PrmT pb bt bm s MP) (hn : s.ts.length < 1048576) (hv : By A v w) (hm : By A v2 wm) (hG : Glb A) : FnX Tryz.prog 53 [(vP pb), v, v2] MP A fun q M J => PrmT pb bt bm (B3c s w fun x => A39 x wm) M ∧ By J q (R5 (B8Q s w fun x => A39 x wm) 64) := by
 obtain ⟨sv, B, MT, rfl, hby, hT⟩ := hP.ex
 have hmd : md s.real = 1 := by rw [hr]; rfl
 rw [hmd] at *
 obtain ⟨⟨ge0, gf0, h0⟩, ⟨ge1, gf1, h1⟩, ⟨ge4, gf4, h4⟩⟩ := hG
 haveI := hv.cel
 haveI := hm.cel
 haveI := hby.cel
 have hvl := hv.len
 have hml := hm.len
 refine FnX.enterZ (N := 32) Tryz.func53 rfl rfl rfl fun w_ => ?_
 refine C4 (E2 0 1 2) (A3 (as_ (A0 (E2 0 1 2) (A5 (A3 (mv_ ?_))))))
 refine A4 (F0 (e := 62) rfl rfl kR) rfl ?_
 refine A0 (E7 0 1 2 8) ?_
 refine D3 rfl ?_
 refine A9 (nx (E2 0 1 2) (A5 (A3 (mv_ ?_))))
 refine A4 (F9 rfl) rfl ?_
 refine A4 (qf_ 0 0) rfl ?_
 refine A4 ql_ rfl ?_
 refine A4 (F4 false rfl rfl (eqF qD)) rfl ?_
 refine A0 (E7 0 1 2 13) ?_
 refine D3 rfl ?_
 refine A9 (nx (E2 0 1 2) ?_)
 refine I0 (MT) (_) true [0, 1, 2, 3, 4, 5, 6, 7, 8, 9, 10, 14] [(0, 0), (1, 0), (2, 0), (3, 1), (4, 0), (5, 0), (8, 0), (9, 1), (6, 2), (7, 2), (10, 0), (11, 2), (12, 2), (13, 2), (14, 0)] kR kR qP fun hs K n0 hKm hKs hKn => ?_
 refine km_ hs ?_
 refine I8 hs rfl (F9 rfl) rfl ?_
 refine I8 hs rfl (qf_ 3 3) rfl ?_
 refine Q0 hs rfl hKs ql_ ?_
 refine km_ hs ?_
 refine km_ hs ?_
 refine km_ hs ?_
 refine Q0 hs rfl hKs (A0z rfl kR (hm.rd.mono qS)) ?_
 refine K6 _ _ rfl rfl (List.Perm.refl _) hKm fun w0 => (E1 (Mc := MT) (R := _) (aS rfl (aS rfl a0)) kR qP (A0D pb bt bm 1 _ sv s.ts v w MT _ hT At.mem qO (hv.mono qS) (qS _ h4)) rfl ?_)
 rintro v24 M24 J24 ⟨rfl, hT24⟩ hKx
 refine K6 [] _ rfl rfl (List.Perm.refl _) (fun _ h => by cases h) fun w0 => (C6 (e := 3) (sz := 1) (z := [.int .i64 0]) kR (eS rfl e0) (bdS 0 1 rfl qR bd0) rfl fun b25 => fun _ => ?_)
 refine A1z (M' := (b25, blk [.int .i64 ((rdI s.ts w : Nat) : Int)] 3) :: (M24 ++ ((pb, blk [.int .u8 1, sv, .int .i64 (((s.n : Nat) : Int)), (vP bt)] 62) :: (B ++ [])))) qM ?_
 refine I8 hs rfl (F3 (place := fun x => #[(0, 1), (1, 1), (2, 1), (3, 1)][x]?) (z := [.int .u8 0, vS, .string ByteArray.empty, .int .i64 0]) (fun _ => by kernel_rfl) (eS rfl (eS rfl (eS rfl e0))) (bdS 0 1 rfl qR (bdS 1 1 rfl qR (bdS 2 1 rfl qR bd0)))) rfl ?_
 refine P0 rfl rfl rfl (E1 (Mc := M24) (R := _) (aS rfl (aS rfl a0)) kR qP (U4 bt bm (rdT s.ts w) _ (A39 ((rdI s.ts w : Nat) : Int) wm) M24 _ hT24 (by have := U5 (ts := s.ts) (ws := w); omega) (Rd.whole (n := 1) At.mem qR) (B5V (A5r hv.lt qO hT.tok.tmo qO) hm.lt hm.len) (qS _ h4)) rfl ?_)
 rintro v29 M29 J29 ⟨rfl, rfl, hT29⟩
 refine P0 rfl rfl rfl (D7 (aS rfl a0) kR (Y9 _ _) rfl ?_)
 rintro v30 M30 J30 ⟨rfl, h30⟩
 haveI := h30.cel
 refine P0 rfl rfl rfl (D7 (aS rfl (aS rfl a0)) kR (A0f v30 _ 64 _ (h30.mono qS) qD) rfl ?_)
 rintro v31 M31 J31 ⟨rfl, h31⟩
 refine I8 hs rfl (I4 rfl) rfl ?_
 refine P4 (D8 6) (C3 ?_)
 exact ⟨_, (pb, blk [.int .u8 1, sv, .int .i64 (((s.n : Nat) : Int)), (vP bt)] 62) :: (B ++ M29), [], K2 rfl rfl, (Fit.none (Fit.pick (B := [_]) qP (Fit.pick qP (Fit.last qP)))), ⟨sv, B, M29, by rw [show md (B3c s w (fun x => A39 x wm)).real = 1 by show md s.real = 1; rw [hr]; rfl]; rfl, hby, hT29⟩, h31.mono qS⟩

end Go.Proofs.YtoigcbkclcbmpaaGreatDoor
namespace Go.Px
abbrev p25 : Nat := 57896044618658097711785492504343953926634992332820282019728792003956564819949
def fv (a b c d e : Nat) : Nat := a + 2251799813685248 * b + 5070602400912917605986812821504 * c + 11417981541647679048466287755595961091061972992 * d + 25711008708143844408671393477458601640355247900524685364822016 * e
theorem A9N {a b c d e a1 b1 c1 d1 e1 : Nat} (ha : a < 9223372036854775808) (hb : b < 9223372036854775808) (hc : c < 9223372036854775808) (hd : d < 9223372036854775808) (he : e < 9223372036854775808)
    (h1 : a1 = (a + 19 * (e / 2251799813685248) % 18446744073709551616) % 18446744073709551616) (h2 : b1 = (b + a1 / 2251799813685248) % 18446744073709551616) (h3 : c1 = (c + b1 / 2251799813685248) % 18446744073709551616)
    (h4 : d1 = (d + c1 / 2251799813685248) % 18446744073709551616) (h5 : e1 = (e % 2251799813685248 + d1 / 2251799813685248) % 18446744073709551616) :
    fv (a1 % 2251799813685248) (b1 % 2251799813685248) (c1 % 2251799813685248) (d1 % 2251799813685248) e1 + p25 * (e / 2251799813685248) = fv a b c d e ∧ e1 < 2251799813685248 + 8192 := by
  unfold fv p25
  omega
theorem N6 {v q V : Nat} (h : v + p25 * q = V) : v % p25 = V % p25 := by rw [← h, Nat.add_mul_mod_self_left]
theorem B9A {a b c d e a2 b2 c2 d2 e2 : Nat} (ha : a < 4503599627370496) (hb : b < 4503599627370496) (hc : c < 4503599627370496) (hd : d < 4503599627370496) (he : e < 4503599627370496) (ha2 : a2 < 4503599627370496) (hb2 : b2 < 4503599627370496) (hc2 : c2 < 4503599627370496) (hd2 : d2 < 4503599627370496) (he2 : e2 < 4503599627370496) :
    fv ((a + a2) % 18446744073709551616) ((b + b2) % 18446744073709551616) ((c + c2) % 18446744073709551616) ((d + d2) % 18446744073709551616) ((e + e2) % 18446744073709551616) = fv a b c d e + fv a2 b2 c2 d2 e2 := by
  rw [Nat.mod_eq_of_lt (a := a + a2) (by omega), Nat.mod_eq_of_lt (a := b + b2) (by omega), Nat.mod_eq_of_lt (a := c + c2) (by omega), Nat.mod_eq_of_lt (a := d + d2) (by omega), Nat.mod_eq_of_lt (a := e + e2) (by omega)]
  unfold fv; omega
theorem A3K {a t b : Nat} (ha : a < 4503599627370496) (ht : t < 9007199254740992) (hb : b ≤ t) : (a + (t + (18446744073709551616 - b)) % 18446744073709551616) % 18446744073709551616 = a + t - b := by omega
theorem A16 {a t b : Nat} (ha : a < 4503599627370496) (ht : t < 9007199254740992) (hb : b ≤ t) : a + t - b < 9223372036854775808 := by omega
theorem B9B {a b c d e a2 b2 c2 d2 e2 : Nat} (ha : a2 ≤ 9007199254740916) (hb : b2 ≤ 9007199254740988) (hc : c2 ≤ 9007199254740988) (hd : d2 ≤ 9007199254740988) (he : e2 ≤ 9007199254740988) :
    fv (a + 9007199254740916 - a2) (b + 9007199254740988 - b2) (c + 9007199254740988 - c2) (d + 9007199254740988 - d2) (e + 9007199254740988 - e2) + fv a2 b2 c2 d2 e2 = fv a b c d e + 4 * p25 := by
  unfold fv p25; omega
theorem B7n {A B V : Nat} (h : V + B = A + 4 * p25) : V % p25 = (A % p25 + p25 - B % p25) % p25 := by
  unfold p25 at *; omega
theorem B1g {x y x0 x1 y0 y1 w0 t w1 : Nat} (hx : x < 18446744073709551616) (hy : y < 18446744073709551616) (h1 : x0 = x % 4294967296) (h2 : x1 = x / 4294967296) (h3 : y0 = y % 4294967296) (h4 : y1 = y / 4294967296)
    (h5 : w0 = x0 * y0 % 18446744073709551616) (h6 : t = (x1 * y0 % 18446744073709551616 + w0 / 4294967296) % 18446744073709551616) (h7 : w1 = (t % 4294967296 + x0 * y1 % 18446744073709551616) % 18446744073709551616) :
    ((x1 * y1 % 18446744073709551616 + t / 4294967296) % 18446744073709551616 + w1 / 4294967296) % 18446744073709551616 = x * y / 18446744073709551616 := by
  have b0 : x0 ≤ 4294967295 := by omega
  have b1 : x1 ≤ 4294967295 := by omega
  have b2 : y0 ≤ 4294967295 := by omega
  have b3 : y1 ≤ 4294967295 := by omega
  have q0 := Nat.mul_le_mul b0 b2
  have q1 := Nat.mul_le_mul b1 b2
  have q2 := Nat.mul_le_mul b0 b3
  have q3 := Nat.mul_le_mul b1 b3
  have ex : x = x0 + 4294967296 * x1 := by omega
  have ey : y = y0 + 4294967296 * y1 := by omega
  have e : x * y = x0 * y0 + 4294967296 * (x1 * y0) + 4294967296 * (x0 * y1) + 18446744073709551616 * (x1 * y1) := by rw [ex, ey]; grind
  rw [e]
  clear e ex ey h1 h2 h3 h4 b0 b1 b2 b3 hx hy
  generalize x0 * y0 = A at *
  generalize x1 * y0 = B at *
  generalize x0 * y1 = C at *
  generalize x1 * y1 = E at *
  omega
theorem or13 {hi lo : Nat} (hh : hi < 18446744073709551616) (hl : lo < 18446744073709551616) : (hi * 8192 % 18446744073709551616 ||| lo / 2251799813685248) = (hi * 18446744073709551616 + lo) / 2251799813685248 % 18446744073709551616 := by
  have e : hi * 8192 % 18446744073709551616 = (hi % 2251799813685248) <<< 13 := by rw [Nat.shiftLeft_eq]; omega
  rw [e, ← Nat.shiftLeft_add_eq_or_of_lt (by show _ < 8192; omega), Nat.shiftLeft_eq]
  omega
theorem A1g {R S T : Nat} (h0 : R < 2596148429267413814265248164610048) (h1 : S < 5192296858534827628530496329220096) (e : T = (R + S / 2251799813685248 % 18446744073709551616) % 340282366920938463463374607431768211456) : T = R + S / 2251799813685248 ∧ T < 5192296858534827628530496329220096 := by
  have a : S / 2251799813685248 < 18446744073709551616 := by omega
  rw [Nat.mod_eq_of_lt a, Nat.mod_eq_of_lt (by omega)] at e
  omega
theorem B3V {R0 R1 R2 R3 R4 S1 S2 S3 S4 l0 l1 l2 l3 l4 o0 o1 : Nat} (h0 : R0 < 2596148429267413814265248164610048) (h1 : R1 < 2596148429267413814265248164610048) (h2 : R2 < 2596148429267413814265248164610048) (h3 : R3 < 2596148429267413814265248164610048) (h4 : R4 < 162259276829213363391578010288128)
    (e1 : S1 = (R1 + R0 / 2251799813685248 % 18446744073709551616) % 340282366920938463463374607431768211456) (e2 : S2 = (R2 + S1 / 2251799813685248 % 18446744073709551616) % 340282366920938463463374607431768211456) (e3 : S3 = (R3 + S2 / 2251799813685248 % 18446744073709551616) % 340282366920938463463374607431768211456) (e4 : S4 = (R4 + S3 / 2251799813685248 % 18446744073709551616) % 340282366920938463463374607431768211456)
    (f0 : l0 % 2251799813685248 = R0 % 2251799813685248) (f1 : l1 % 2251799813685248 = S1 % 2251799813685248) (f2 : l2 % 2251799813685248 = S2 % 2251799813685248) (f3 : l3 % 2251799813685248 = S3 % 2251799813685248) (f4 : l4 % 2251799813685248 = S4 % 2251799813685248)
    (g0 : o0 = (l0 % 2251799813685248 + 19 * (S4 / 2251799813685248 % 18446744073709551616) % 18446744073709551616) % 18446744073709551616) (g1 : o1 = (l1 % 2251799813685248 + o0 / 2251799813685248) % 18446744073709551616) :
    o1 < 4503599627370496 ∧ fv (o0 % 2251799813685248) o1 (l2 % 2251799813685248) (l3 % 2251799813685248) (l4 % 2251799813685248) + p25 * (S4 / 2251799813685248) = R0 + 2251799813685248 * R1 + 5070602400912917605986812821504 * R2 + 11417981541647679048466287755595961091061972992 * R3 + 25711008708143844408671393477458601640355247900524685364822016 * R4 := by
  rw [f2, f3, f4]
  rw [f0] at g0
  rw [f1] at g1
  clear f0 f1 f2 f3 f4
  obtain ⟨k1, j1⟩ := A1g h1 (by omega) e1
  obtain ⟨k2, j2⟩ := A1g h2 j1 e2
  obtain ⟨k3, j3⟩ := A1g h3 j2 e3
  obtain ⟨k4, j4⟩ := A1g (by omega) j3 e4
  have j5 : S3 / 2251799813685248 < 2305843009213693952 := by clear e1 e2 e3 e4 k1 k2 k3 k4 g0 g1; omega
  clear e1 e2 e3 e4 j1 j2 j3
  have k5 : S4 < 324518553658426726783156020576256 := by clear g0 g1 k1 k2 k3; omega
  have j6 : S4 / 2251799813685248 < 288230376151711744 := by clear g0 g1 k1 k2 k3 k4; omega
  have k6 : o0 = R0 % 2251799813685248 + 19 * (S4 / 2251799813685248) := by clear g1 k1 k2 k3 k4 h0 h1 h2 h3 h4 k5 j5; omega
  have k7 : o1 = S1 % 2251799813685248 + o0 / 2251799813685248 := by clear g0 k1 k2 k3 k4 h0 h1 h2 h3 h4 k5 j5; omega
  clear g0 g1
  refine ⟨by clear k1 k2 k3 k4 h0 h1 h2 h3 h4 k5 j5; omega, ?_⟩
  clear h0 h1 h2 h3 h4 k5 j5 j6 j4
  unfold fv p25
  omega
theorem A6H {x1 x2 x3 x4 x5 z1 z2 z3 z4 z5 : Nat} (h1 : z1 ≤ 385365782469381738054997774434304) (h2 : z2 ≤ 385365782469381738054997774434304) (h3 : z3 ≤ 385365782469381738054997774434304) (h4 : z4 ≤ 385365782469381738054997774434304) (h5 : z5 ≤ 385365782469381738054997774434304) (e1 : x1 = (0 * 18446744073709551616 + 0 + z1) % 340282366920938463463374607431768211456) (e2 : x2 = (x1 + z2) % 340282366920938463463374607431768211456) (e3 : x3 = (x2 + z3) % 340282366920938463463374607431768211456) (e4 : x4 = (x3 + z4) % 340282366920938463463374607431768211456) (e5 : x5 = (x4 + z5) % 340282366920938463463374607431768211456) :
    x5 = z1 + z2 + z3 + z4 + z5 := by omega
theorem B3W {a : Nat} (h : a < 4503599627370496) : 19 * a % 18446744073709551616 = 19 * a := by omega
theorem zb {a b : Nat} (ha : a < 4503599627370496) (hb : b < 4503599627370496) : a * b ≤ 20282409603651670423947251286016 := Nat.le_trans (Nat.mul_le_mul (Nat.le_of_lt ha) (Nat.le_of_lt hb)) (by decide)
theorem A4F {a b : Nat} (ha : a < 4503599627370496) (hb : b < 4503599627370496) : 19 * a * b ≤ 385365782469381738054997774434304 := Nat.le_trans (Nat.mul_le_mul (Nat.mul_le_mul_left 19 (Nat.le_of_lt ha)) (Nat.le_of_lt hb)) (by decide)
theorem B3X (a b c d e a2 b2 c2 d2 e2 : Nat) : fv a b c d e * fv a2 b2 c2 d2 e2 =
    (a * a2 + 19 * b * e2 + 19 * c * d2 + 19 * d * c2 + 19 * e * b2) + 2251799813685248 * (a * b2 + b * a2 + 19 * c * e2 + 19 * d * d2 + 19 * e * c2) + 5070602400912917605986812821504 * (a * c2 + b * b2 + c * a2 + 19 * d * e2 + 19 * e * d2) + 11417981541647679048466287755595961091061972992 * (a * d2 + b * c2 + c * b2 + d * a2 + 19 * e * e2) + 25711008708143844408671393477458601640355247900524685364822016 * (a * e2 + b * d2 + c * c2 + d * b2 + e * a2)
    + p25 * ((b * e2 + c * d2 + d * c2 + e * b2) + 2251799813685248 * (c * e2 + d * d2 + e * c2) + 5070602400912917605986812821504 * (d * e2 + e * d2) + 11417981541647679048466287755595961091061972992 * (e * e2)) := by
  unfold fv p25; grind
def B8R (as_ : List Nat) (i k : Nat) : Nat := if i + k < 5 then as_.getD i 0 else 19 * as_.getD i 0 % 18446744073709551616
def B7o (i k : Nat) : Nat := if i + k < 5 then i + k else i + k - 5
def B1h (as_ bs : List Nat) (i k : Nat) (Xs : List Nat) : List Nat := Xs.set (B7o i k) ((Xs.getD (B7o i k) 0 + B8R as_ i k * bs.getD k 0) % 340282366920938463463374607431768211456)
def A5s (as_ bs : List Nat) (i : Nat) : Nat → List Nat → List Nat
  | 0, Xs => Xs
  | k + 1, Xs => B1h as_ bs i k (A5s as_ bs i k Xs)
def A5t (as_ bs : List Nat) : Nat → List Nat
  | 0 => [0, 0, 0, 0, 0]
  | i + 1 => A5s as_ bs i 5 (A5t as_ bs i)
theorem A8J (as_ bs : List Nat) (i k : Nat) (Xs : List Nat) : (A5s as_ bs i k Xs).length = Xs.length := by
  induction k with
  | zero => rfl
  | succ k ih => simp [A5s, B1h, ih]
theorem B3Y (as_ bs : List Nat) (i : Nat) : (A5t as_ bs i).length = 5 := by
  induction i with
  | zero => rfl
  | succ i ih => rw [A5t, A8J, ih]
def B7p (Xs : List Nat) : Prop := ∀ x ∈ Xs, x < 340282366920938463463374607431768211456
theorem B1i (as_ bs : List Nat) (i k : Nat) {Xs : List Nat} (h : B7p Xs) : B7p (A5s as_ bs i k Xs) := by
  induction k with
  | zero => exact h
  | succ k ih =>
    intro x hx
    rcases List.mem_or_eq_of_mem_set hx with h1 | rfl
    · exact ih x h1
    · exact Nat.mod_lt _ (by decide)
theorem B7q (as_ bs : List Nat) (i : Nat) : B7p (A5t as_ bs i) := by
  induction i with
  | zero => intro x hx; simp [A5t] at hx; subst hx; decide
  | succ i ih => exact B1i _ _ _ _ ih
theorem B3Z (a b c d e a2 b2 c2 d2 e2 : Nat) (ha : a < 4503599627370496) (hb : b < 4503599627370496) (hc : c < 4503599627370496) (hd : d < 4503599627370496) (he : e < 4503599627370496) (ha2 : a2 < 4503599627370496) (hb2 : b2 < 4503599627370496) (hc2 : c2 < 4503599627370496) (hd2 : d2 < 4503599627370496) (he2 : e2 < 4503599627370496) :
    A5t [a, b, c, d, e] [a2, b2, c2, d2, e2] 5 = [a * a2 + 19 * b * e2 + 19 * c * d2 + 19 * d * c2 + 19 * e * b2, a * b2 + b * a2 + 19 * c * e2 + 19 * d * d2 + 19 * e * c2, a * c2 + b * b2 + c * a2 + 19 * d * e2 + 19 * e * d2, a * d2 + b * c2 + c * b2 + d * a2 + 19 * e * e2, a * e2 + b * d2 + c * c2 + d * b2 + e * a2] := by
  have z {x y : Nat} (hx : x < 4503599627370496) (hy : y < 4503599627370496) : x * y ≤ 385365782469381738054997774434304 := Nat.le_trans (zb hx hy) (by decide)
  simp only [A5t, A5s, B1h, B8R, B7o, List.set, List.getD_cons_zero, List.getD_cons_succ, Nat.reduceAdd, Nat.reduceLT, Nat.reduceSub, if_true, if_false, Nat.zero_add, Nat.add_zero, B3W hb, B3W hc, B3W hd, B3W he, reduceIte]
  rw [A6H (z ha ha2) (A4F hb he2) (A4F hc hd2) (A4F hd hc2) (A4F he hb2) (by simp) rfl rfl rfl rfl, A6H (z ha hb2) (z hb ha2) (A4F hc he2) (A4F hd hd2) (A4F he hc2) (by simp) rfl rfl rfl rfl, A6H (z ha hc2) (z hb hb2) (z hc ha2) (A4F hd he2) (A4F he hd2) (by simp) rfl rfl rfl rfl, A6H (z ha hd2) (z hb hc2) (z hc hb2) (z hd ha2) (A4F he he2) (by simp) rfl rfl rfl rfl, A6H (z ha he2) (z hb hd2) (z hc hc2) (z hd hb2) (z he ha2) (by simp) rfl rfl rfl rfl]
theorem A3L {a b c d e a1 b1 c1 d1 e1 : Nat} (ha : a < 2251799813685248) (hb : b < 2251799813685248) (hc : c < 2251799813685248) (hd : d < 2251799813685248) (he : e < 2251799813685248 + 8192) (ha1 : a1 < 2251799813685248) (hb1 : b1 < 2251799813685248) (hc1 : c1 < 2251799813685248) (hd1 : d1 < 2251799813685248) (h : fv a1 b1 c1 d1 e1 + p25 * (e / 2251799813685248) = fv a b c d e) : e1 < 2251799813685248 := by
  have hq : e / 2251799813685248 = 0 ∨ e / 2251799813685248 = 1 := by omega
  unfold fv p25 at h
  rcases hq with hq | hq
  · rw [hq] at h; omega
  · rw [hq] at h; omega
theorem B37 {a b c d e c0 c1 c2 c3 c4 : Nat} (ha : a < 2251799813685248) (hb : b < 2251799813685248) (hc : c < 2251799813685248) (hd : d < 2251799813685248) (he : e < 2251799813685248) (h0 : c0 = (a + 19) % 18446744073709551616 / 2251799813685248) (h1 : c1 = (b + c0) % 18446744073709551616 / 2251799813685248) (h2 : c2 = (c + c1) % 18446744073709551616 / 2251799813685248) (h3 : c3 = (d + c2) % 18446744073709551616 / 2251799813685248) (h4 : c4 = (e + c3) % 18446744073709551616 / 2251799813685248) :
    (c4 = 0 ∧ fv a b c d e < p25) ∨ (c4 = 1 ∧ p25 ≤ fv a b c d e) := by
  have k0 : c0 ≤ 1 := by omega
  have k1 : c1 ≤ 1 := by omega
  have k2 : c2 ≤ 1 := by omega
  have k3 : c3 ≤ 1 := by omega
  have k4 : c4 ≤ 1 := by omega
  unfold fv p25
  omega
theorem B1j {a b c d e q a1 b1 c1 d1 e1 : Nat} (ha : a < 2251799813685248) (hb : b < 2251799813685248) (hc : c < 2251799813685248) (hd : d < 2251799813685248) (he : e < 2251799813685248) (hq : q ≤ 1) (h1 : a1 = (a + 19 * q % 18446744073709551616) % 18446744073709551616) (h2 : b1 = (b + a1 / 2251799813685248) % 18446744073709551616) (h3 : c1 = (c + b1 / 2251799813685248) % 18446744073709551616) (h4 : d1 = (d + c1 / 2251799813685248) % 18446744073709551616) (h5 : e1 = (e + d1 / 2251799813685248) % 18446744073709551616) :
    fv (a1 % 2251799813685248) (b1 % 2251799813685248) (c1 % 2251799813685248) (d1 % 2251799813685248) (e1 % 2251799813685248) + 57896044618658097711785492504343953926634992332820282019728792003956564819968 * (e1 / 2251799813685248) = fv a b c d e + 19 * q ∧ fv (a1 % 2251799813685248) (b1 % 2251799813685248) (c1 % 2251799813685248) (d1 % 2251799813685248) (e1 % 2251799813685248) < 57896044618658097711785492504343953926634992332820282019728792003956564819968 := by
  have k1 : a1 = a + 19 * q := by omega
  have k2 : b1 = b + a1 / 2251799813685248 := by omega
  have k3 : c1 = c + b1 / 2251799813685248 := by omega
  have k4 : d1 = d + c1 / 2251799813685248 := by omega
  have k5 : e1 = e + d1 / 2251799813685248 := by omega
  clear h1 h2 h3 h4 h5
  unfold fv
  omega
theorem B1k {V F k q : Nat} (h : (q = 0 ∧ V < p25) ∨ (q = 1 ∧ p25 ≤ V)) (hV : V < 57896044618658097711785492504343953926634992332820282019728792003956564819968) (h2 : F + 57896044618658097711785492504343953926634992332820282019728792003956564819968 * k = V + 19 * q ∧ F < 57896044618658097711785492504343953926634992332820282019728792003956564819968) : F = V % p25 := by
  unfold p25 at *
  rcases h with ⟨rfl, h⟩ | ⟨rfl, h⟩
  · rw [Nat.mod_eq_of_lt h]; omega
  · omega
theorem B9C {a b c d e : Nat} (ha : a < 2251799813685248) (hb : b < 2251799813685248) (hc : c < 2251799813685248) (hd : d < 2251799813685248) (he : e < 2251799813685248) : fv a b c d e < 57896044618658097711785492504343953926634992332820282019728792003956564819968 := by unfold fv; omega
theorem B39 {a b c d e : Nat} (ha : a < 2251799813685248) (hb : b < 2251799813685248) (hc : c < 2251799813685248) (hd : d < 2251799813685248) (he : e < 2251799813685248) (j : Nat) (hj : j < 5) : fv a b c d e / 2 ^ (51 * j) % 2 ^ 51 = [a, b, c, d, e].getD j 0 := by
  have : j = 0 ∨ j = 1 ∨ j = 2 ∨ j = 3 ∨ j = 4 := by omega
  unfold fv
  rcases this with rfl | rfl | rfl | rfl | rfl <;> simp only [Nat.reducePow, Nat.reduceMul, List.getD_cons_zero, List.getD_cons_succ] <;> omega
theorem B9D {a b c d e : Nat} (ha : a < 2251799813685248) (hb : b < 2251799813685248) (hc : c < 2251799813685248) (hd : d < 2251799813685248) (he : e < 2251799813685248) (i : Nat) (hi : i < 255) : [a, b, c, d, e].getD (i / 51) 0 / 2 ^ (i % 51) % 2 = fv a b c d e / 2 ^ i % 2 := by
  rw [← B39 ha hb hc hd he (i / 51) (by omega)]
  have h1 : i % 51 < 51 := Nat.mod_lt _ (by decide)
  have e : 2 ^ 51 = 2 ^ (i % 51) * (2 * 2 ^ (50 - i % 51)) := by rw [← Nat.pow_succ', ← Nat.pow_add]; congr 1; omega
  rw [e, Nat.mod_mul_right_div_self, Nat.mod_mul_right_mod, Nat.div_div_eq_div_mul, ← Nat.pow_add]
  congr 3; omega
theorem B7r {a b c d e : Nat} (ha : a < 2251799813685248) (hb : b < 2251799813685248) (hc : c < 2251799813685248) (hd : d < 2251799813685248) (he : e < 2251799813685248) : ∃ q, q = (e + (d + (c + (b + (a + 19) % 18446744073709551616 / 2251799813685248) % 18446744073709551616 / 2251799813685248) % 18446744073709551616 / 2251799813685248) % 18446744073709551616 / 2251799813685248) % 18446744073709551616 / 2251799813685248 ∧ ((q = 0 ∧ fv a b c d e < p25) ∨ (q = 1 ∧ p25 ≤ fv a b c d e)) :=
  ⟨_, rfl, B37 ha hb hc hd he rfl rfl rfl rfl rfl⟩
theorem B1l {a b c d e q : Nat} (ha : a < 2251799813685248) (hb : b < 2251799813685248) (hc : c < 2251799813685248) (hd : d < 2251799813685248) (he : e < 2251799813685248) (hq : (q = 0 ∧ fv a b c d e < p25) ∨ (q = 1 ∧ p25 ≤ fv a b c d e)) : ∃ f0 f1 f2 f3 f4, f0 = (a + 19 * q % 18446744073709551616) % 18446744073709551616 % 2251799813685248 ∧ f1 = (b + (a + 19 * q % 18446744073709551616) % 18446744073709551616 / 2251799813685248) % 18446744073709551616 % 2251799813685248 ∧ f2 = (c + (b + (a + 19 * q % 18446744073709551616) % 18446744073709551616 / 2251799813685248) % 18446744073709551616 / 2251799813685248) % 18446744073709551616 % 2251799813685248 ∧ f3 = (d + (c + (b + (a + 19 * q % 18446744073709551616) % 18446744073709551616 / 2251799813685248) % 18446744073709551616 / 2251799813685248) % 18446744073709551616 / 2251799813685248) % 18446744073709551616 % 2251799813685248 ∧ f4 = (e + (d + (c + (b + (a + 19 * q % 18446744073709551616) % 18446744073709551616 / 2251799813685248) % 18446744073709551616 / 2251799813685248) % 18446744073709551616 / 2251799813685248) % 18446744073709551616 / 2251799813685248) % 18446744073709551616 % 2251799813685248 ∧ f0 < 2251799813685248 ∧ f1 < 2251799813685248 ∧ f2 < 2251799813685248 ∧ f3 < 2251799813685248 ∧ f4 < 2251799813685248 ∧ fv f0 f1 f2 f3 f4 = fv a b c d e % p25 := by
  have hco := B1j ha hb hc hd he (q := q) (by rcases hq with h | h <;> omega) rfl rfl rfl rfl rfl
  exact ⟨_, _, _, _, _, rfl, rfl, rfl, rfl, rfl, Nat.mod_lt _ (by decide), Nat.mod_lt _ (by decide), Nat.mod_lt _ (by decide), Nat.mod_lt _ (by decide), Nat.mod_lt _ (by decide), B1k hq (B9C ha hb hc hd he) hco⟩
end Go.Px

