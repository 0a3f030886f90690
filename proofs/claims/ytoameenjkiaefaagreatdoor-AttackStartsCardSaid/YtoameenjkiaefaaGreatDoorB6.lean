/- Part 6 of the texts of this claim, one behind the other. -/
import Derived.Test.YtoameenjkiaefaaGreatDoorB5
import Derived.WalkKit
import Derived.ProofKit
import Derived.OpenShut
import Derived.ShutString
import Derived.ChangeOld
import Derived.Below
set_option linter.unusedVariables false
set_option linter.unusedSimpArgs false
set_option maxRecDepth 100000
namespace Go.Proofs.YtoameenjkiaefaaGreatDoor
open Go.Px
def srt (x y : Int) : List Int := if y < x then [y, x] else [x, y]
def two (j : Nat) (x y : Int) : List Int := if j = 1 then [x, y] else [y, x]
def B6b (i : Nat) (x y : Int) : List Int := if i = 1 then [x, y] else srt x y
theorem A0w {R : Mem} {b j : Nat} {x y : Int} {e : TypeId} {fr : Nat × Nat} (h : (b, Obj.cells (Y3 (two j x y)).toArray e fr) ∈ R) : Rd R 1 (.slice (some ⟨b, 0, none⟩) 2 2) 2 (Y3 (two j x y)) := Rd.whole (n := 2) h (by unfold two; split <;> rfl)
theorem A7c (x : Int) (A : Mem) : FnV Tryz.prog 266 [.int .i64 x] A (.bool false) := by
 refine FnX.enter (N := 6) Tryz.func266 rfl rfl rfl fun w => ?_
 refine A8 (C7 0) (A1 (as_ (A0 (C7 0) (A1 (mv_ (mv_ ?_))))))
 refine A2 (F3 (v := .bool false) rfl rfl (by simp [H8])) rfl ?_
 refine as_ (A0 (C7 2) (A7 ?_))
 refine ⟨_, [], [], F7 rfl rfl, List.nil_sublist _, by simp, rfl, rfl, rfl⟩
theorem A8z (x y : Int) (A : Mem) : FnV Tryz.prog 248 [.int .i64 x, .int .i64 y] A (.bool (decide (x < y))) := by
 refine FnX.enter (N := 17) Tryz.func248 rfl rfl rfl fun w => ?_
 refine A8 (D0 0 1) (A1 (as_ (A0 (D0 0 1) (A1 (mv_ ?_)))))
 refine D7 (aS rfl a0) kR (A7c x _) rfl ?_
 refine mv_ ?_
 refine D1 rfl rfl rfl rfl ?_
 refine D1 rfl rfl rfl rfl ?_
 refine D1 rfl rfl rfl rfl ?_
 refine A2 (C8 rfl rfl) rfl ?_
 refine mv_ ?_
 refine C0 rfl rfl (OpQ.opL qm_ rfl ?_)
 refine C0 rfl rfl (OpQ.opL qm_ rfl ?_)
 refine C0 rfl rfl (OpQ.opL (F3 rfl rfl rfl) rfl ?_)
 refine A2 (C8 rfl rfl) rfl ?_
 refine as_ (A0 (C7 4) (A7 ?_))
 refine ⟨_, [], [], F7 rfl rfl, List.nil_sublist _, by simp, rfl, rfl, rfl⟩
theorem B0I (b : Nat) (x y : Int) (A : Mem) : FnX Tryz.prog 242 [.slice (some ⟨b, 0, none⟩) 2 2, .int .i64 0, .int .i64 2] [(b, blk (Y3 ([x, y])) 3)] A fun r M J => J = [] ∧ r = .tuple #[] ∧ M = [(b, blk (Y3 (srt x y)) 3)] := by
 refine FnX.enter (N := 49) Tryz.func242 rfl rfl rfl fun w => ?_
 refine A8 (E5 0 1 2) (A1 (mv_ ?_))
 refine A2 (G9 (a := 0) (b := 1) rfl rfl rfl rfl qO) rfl ?_
 refine as_ (A0 (F4 0 1 2 6) (C5 ?_))
 refine H0 (α := Nat) (fun i => [(0, .slice (some ⟨b, 0, none⟩) 2 2), (1, .int .i64 0), (2, .int .i64 2), (6, .int .i64 (i : Int))]) (fun i => [(b, blk (Y3 (B6b i x y)) 3)]) (fun _ => []) (fun i => i = 1 ∨ i = 2) (fun i => 2 - i) 1 (.inl rfl) (F4 0 1 2 6) .rfl qI ?_
 rintro i hi
 refine A6 (A1 (mv_ (mv_ ?_)))
 refine A2 (F3 rfl rfl rfl) rfl ?_
 refine A0 (G6 0 1 2 6 12) ?_
 refine C3 rfl ?_ ?_ <;> intro hc
 ·
  obtain rfl : i = 1 := by simp at hc; omega
  refine A5 (nx (F4 0 1 2 6) (A6 (C5 (A1 (mv_ (as_ (A0 (G6 0 1 2 6 7) (C5 ?_))))))))
  refine H0 (α := Nat) (fun j => [(0, .slice (some ⟨b, 0, none⟩) 2 2), (1, .int .i64 0), (2, .int .i64 2), (6, .int .i64 1), (7, .int .i64 (j : Int))]) (fun j => [(b, blk (Y3 (two j x y)) 3)]) (fun _ => []) (fun j => j = 1 ∨ (j = 0 ∧ y < x)) (fun j => j) 1 (.inl rfl) (G6 0 1 2 6 7) .rfl qI ?_
  rintro j hj
  refine A6 ?_
  refine G5 (.range 15) (zp 0 [0, 0, 0, 0, 0, 0, 0, 1, 0, 0, 0, 0, 1, 2, 0]) kR kR fun hs => ?_
  refine fm_ hs ?_
  refine fm_ hs ?_
  refine E8 hs rfl (F3 rfl rfl rfl) rfl ?_
  refine fm_ hs ?_
  refine V5 (t := 19) rfl (fun hb => ?_) (fun hb => ?_)
  ·
   obtain rfl : j = 1 := by have := of_decide_eq_true hb; omega
   refine I4 hs rfl rfl rfl rfl qm_ rfl ?_
   refine I4 hs rfl rfl rfl rfl qm_ rfl ?_
   refine I4 hs rfl rfl rfl rfl (F2 (sz := 1) (a := 1) rfl rfl kR rfl (A0w (R := [_]) (j := 1) (x := x) (y := y) (e := 3) (fr := (0, 0)) qK) qD) rfl ?_
   refine A0r hs rfl rfl rfl rfl (L0 (j := 1) (u := .int .i64 y) (A0w At.mem) rfl kR rfl) rfl ?_
   refine I4 hs rfl rfl rfl rfl qm_ rfl ?_
   refine I4 hs rfl rfl rfl rfl qm_ rfl ?_
   refine I4 hs rfl rfl rfl rfl (L3 (a := 1) (b := 1) rfl rfl rfl rfl qO qO) rfl ?_
   refine I4 hs rfl rfl rfl rfl (F2 (sz := 1) (a := 0) rfl rfl kR rfl (A0w (R := [_]) (j := 1) (x := x) (y := y) (e := 3) (fr := (0, 0)) qK) qD) rfl ?_
   refine A0r hs rfl rfl rfl rfl (L0 (j := 0) (u := .int .i64 x) (A0w At.mem) rfl kR rfl) rfl ?_
   refine A12 rfl rfl rfl rfl (aS rfl (aS rfl a0)) kR (A8z y x _) rfl ?_
   refine E8 hs rfl (E3 rfl rfl) rfl ?_
   refine I2 (I7 0 1 2 6 7 30) ?_
   refine C3 rfl ?_ ?_ <;> intro hc
   ·
    have hyx : y < x := by simpa using hc
    refine A5 (nx (G6 0 1 2 6 7) (A6 (C5 ?_)))
    refine S3 [0, 1, 2, 3, 4, 5, 6, 7, 8, 9, 10, 11, 12, 13, 14, 16] (zp 0 [0, 0, 0, 0, 0, 0, 0, 0, 0, 1, 0, 0, 0, 1, 0, 2, 0, 2]) kR kR fun hs => ?_
    refine fm_ hs ?_
    refine fm_ hs ?_
    refine fm_ hs ?_
    refine fm_ hs ?_
    refine E8 hs rfl (L3 (a := 1) (b := 1) rfl rfl rfl rfl qO qO) rfl ?_
    refine fm_ hs ?_
    refine fm_ hs ?_
    refine E8 hs rfl (L3 (a := 1) (b := 1) rfl rfl rfl rfl qO qO) rfl ?_
    refine E8 hs rfl (F2 (sz := 1) (a := 0) rfl rfl kR rfl (A0w (R := [_]) (j := 1) (x := x) (y := y) (e := 3) (fr := (0, 0)) qK) qD) rfl ?_
    refine R5 hs rfl (L0 (j := 0) (u := .int .i64 x) (A0w At.mem) rfl kR rfl) rfl ?_
    refine fm_ hs ?_
    refine fm_ hs ?_
    refine E8 hs rfl (F2 (sz := 1) (a := 1) rfl rfl kR rfl (A0w (R := [_]) (j := 1) (x := x) (y := y) (e := 3) (fr := (0, 0)) qK) qD) rfl ?_
    refine R5 hs rfl (L0 (j := 1) (u := .int .i64 y) (A0w At.mem) rfl kR rfl) rfl ?_
    refine E8 hs rfl (F2 (sz := 1) (a := 1) rfl rfl kR rfl (A0w (R := [_]) (j := 1) (x := x) (y := y) (e := 3) (fr := (0, 0)) qK) qD) rfl ?_
    refine L7 rfl rfl rfl (F8 (show ev _ _ = some (.pointer (some ⟨b, 1, none⟩)) from rfl) rfl rfl kR (show SetL [.int .i64 x, .int .i64 y] 1 (.int .i64 x) [.int .i64 x, .int .i64 x] from SetC.set) UpC.upd ?_)
    refine E8 hs rfl (F2 (sz := 1) (a := 0) rfl rfl kR rfl (A0w (R := [_]) (j := 1) (x := x) (y := y) (e := 3) (fr := (0, 0)) qK) qD) rfl ?_
    refine L7 rfl rfl rfl (F8 (show ev _ _ = some (vP b) from rfl) rfl rfl kR (show SetL [.int .i64 x, .int .i64 x] 0 (.int .i64 y) [.int .i64 y, .int .i64 x] from SetC.set) UpC.upd ?_)
    refine A10 (nb (nx (G6 0 1 2 6 7) (C6 (mv_ ?_))))
    refine A2 (L3 (a := 1) (b := 1) rfl rfl rfl rfl qO qO) rfl ?_
    refine as_ (E1 ?_)
    exact rn 0 (.inr ⟨rfl, hyx⟩) qD (G6 0 1 2 6 7) .rfl qI
   ·
    have hyx : ¬ y < x := by simpa using hc
    refine G4 (te (re (be rfl (nb (nx (F4 0 1 2 6) (C6 (mv_ ?_)))))))
    refine A2 (G9 (a := 1) (b := 1) rfl rfl rfl rfl qO) rfl ?_
    refine as_ (E1 ?_)
    exact rn 2 (.inr rfl) qD (F4 0 1 2 6) (by rw [show B6b 2 x y = [x, y] by unfold B6b srt; simp [hyx]]; exact .rfl) qI
  ·
   obtain ⟨rfl, hyx⟩ : j = 0 ∧ y < x := by have := of_decide_eq_false hb; omega
   refine L2 hs ?_
   refine L2 hs ?_
   refine L2 hs ?_
   refine V3 hs ?_
   refine L2 hs ?_
   refine L2 hs ?_
   refine L2 hs ?_
   refine L2 hs ?_
   refine V3 hs ?_
   refine B3l hs rfl rfl rfl rfl rfl rfl ?_
   refine E8 hs rfl (C8 rfl rfl) rfl ?_
   refine I2 (I7 0 1 2 6 7 30) ?_
   refine B0 rfl ?_
   refine G4 (te (re (be rfl (nb (nx (F4 0 1 2 6) (C6 (mv_ ?_)))))))
   refine A2 (G9 (a := 1) (b := 1) rfl rfl rfl rfl qO) rfl ?_
   refine as_ (E1 ?_)
   exact rn 2 (.inr rfl) qD (F4 0 1 2 6) (by rw [show B6b 2 x y = [y, x] by unfold B6b srt; simp [hyx]]; exact .rfl) qI
 ·
  obtain rfl : i = 2 := by simp at hc; omega
  refine G4 (te (re (be rfl ?_)))
  exact ⟨_, _, [], A2V rfl, List.Sublist.refl _, by simp, rfl, rfl, rfl⟩
theorem B0J (b : Nat) (x y n : Int) (A : Mem) : FnX Tryz.prog 218 [.slice (some ⟨b, 0, none⟩) 2 2, .int .i64 0, .int .i64 2, .int .i64 n] [(b, blk (Y3 ([x, y])) 3)] A fun r M J => J = [] ∧ r = .tuple #[] ∧ M = [(b, blk (Y3 (srt x y)) 3)] := by
 refine FnX.enter (N := 134) Tryz.func218 rfl rfl rfl fun w => ?_
 refine A8 (F4 0 1 2 3) (A1 (as_ (A0 (G6 0 1 2 3 8) (A1 (as_ (A0 (I7 0 1 2 3 8 9) (C5 ?_)))))))
 refine H0 (α := Unit) (fun _ => [(0, .slice (some ⟨b, 0, none⟩) 2 2), (1, .int .i64 0), (2, .int .i64 2), (3, .int .i64 n), (8, .bool true), (9, .bool true)]) (fun _ => [(b, blk (Y3 ([x, y])) 3)]) (fun _ => []) (fun _ => True) (fun _ => 0) () trivial (I7 0 1 2 3 8 9) .rfl qI ?_
 rintro _ _
 refine C5 (A1 (mv_ (mv_ ?_)))
 refine A2 (L3 (a := 2) (b := 0) rfl rfl rfl rfl qO qO) rfl ?_
 refine as_ (A0 (S9 0 1 2 3 8 9 10) (A6 (A1 (mv_ ?_))))
 refine A2 (F3 (v := .bool true) rfl rfl qR) rfl ?_
 refine A0 (A0A 0 1 2 3 8 9 10 23) ?_
 refine C3 rfl ?_ ?_ <;> intro hc
 ·
  refine A1 (mv_ (mv_ (mv_ ?_)))
  refine A4 rfl (A9 (Mc := [(b, blk (Y3 ([x, y])) 3)]) (R := []) (aS rfl (aS rfl (aS rfl a0))) kR (.refl _) (B0I b x y _) rfl ?_)
  rintro v27 M27 J27 ⟨rfl, rfl, rfl⟩
  refine A0 kn (A7 (tr (br (rr (br ?_)))))
  exact ⟨_, _, [], A2V rfl, by first | exact List.Sublist.refl _ | simp, by simp, rfl, rfl, by first | rfl | simp⟩
 ·
  exact absurd hc qD
theorem B0K (x : Nat) (hx : x < 18446744073709551616) (A : Mem) : FnX Tryz.prog 219 [.int .u64 (x : Int)] [] A fun r M J => M = [] ∧ J = [] ∧ ∃ n : Int, r = .int .i64 n := by
 refine FnX.enter (N := 8) Tryz.func219 rfl rfl rfl fun w => ?_
 refine A8 (C7 0) (A1 (as_ (A0 (C7 0) (A6 ?_))))
 refine C3 rfl ?_ ?_ <;> intro hc
 ·
  exact absurd hc qD
 ·
  refine A5 (nx (C7 0) (A1 (mv_ ?_)))
  refine E0 (aS rfl a0) kR (A22 x hx _) rfl ?_
  rintro v7 M7 J7 ⟨rfl, rfl, n7, rfl, -⟩
  refine as_ (A0 (C7 2) (A7 ?_))
  exact ⟨_, [], [], F7 rfl rfl, by first | exact List.Sublist.refl _ | simp, by simp, rfl, rfl, _, rfl⟩
theorem A8A (b : Nat) (x y : Int) (A : Mem) : FnX Tryz.prog 185 [.slice (some ⟨b, 0, none⟩) 2 2] [(b, blk (Y3 ([x, y])) 3)] A fun r M J => J = [] ∧ r = .tuple #[] ∧ M = [(b, blk (Y3 (srt x y)) 3)] := by
 refine FnX.enter (N := 11) Tryz.func185 rfl rfl rfl fun w => ?_
 refine A8 (C7 0) (A1 (mv_ ?_))
 refine A2 (A0s (e := 3) rfl kR) rfl ?_
 refine as_ (A0 (D0 0 2) (C6 (mv_ (mv_ (mv_ ?_)))))
 refine A2 (H7 (k' := .u64) 2 rfl kR qR) rfl ?_
 refine E0 (aS rfl a0) kR (B0K 2 qD _) rfl ?_
 rintro v9 M9 J9 ⟨rfl, rfl, n9, rfl⟩
 refine A4 rfl (A9 (Mc := [(b, blk (Y3 ([x, y])) 3)]) (R := []) (aS rfl (aS rfl (aS rfl (aS rfl a0)))) kR (.refl _) (B0J b x y _ _) rfl ?_)
 rintro v10 M10 J10 ⟨rfl, rfl, rfl⟩
 refine E1 ?_
 exact ⟨_, _, [], A2V rfl, by first | exact List.Sublist.refl _ | simp, by simp, rfl, rfl, by first | rfl | simp⟩
def agT (ts : List Tm) (s o : Int) : Tm := if 0 ≤ o then match ts[o.toNat]? with
  | some t => if t.kind = 3 ∧ t.of.length = 1 then ⟨4, srt s (t.of.getD 0 0), [], 0⟩ else ⟨4, [s, o], [], 1⟩
  | none => ⟨4, [s, o], [], 1⟩ else ⟨4, [s, o], [], 1⟩
theorem B6c {ts : List Tm} {s o : Int} (h : ¬ (0 ≤ o ∧ o < (ts.length : Int))) : agT ts s o = ⟨4, [s, o], [], 1⟩ := by
  unfold agT
  by_cases h0 : 0 ≤ o
  · rw [if_pos h0, List.getElem?_eq_none qO]
  · rw [if_neg h0]
theorem B2w {ts : List Tm} {s o : Int} {t : Tm} (h0 : 0 ≤ o) (h : ts[o.toNat]? = some t) (hk : ¬ (t.kind = 3 ∧ t.of.length = 1)) : agT ts s o = ⟨4, [s, o], [], 1⟩ := by
  unfold agT
  rw [if_pos h0, h]
  exact if_neg hk
theorem A8B {ts : List Tm} {s o : Int} {t : Tm} (h0 : 0 ≤ o) (h : ts[o.toNat]? = some t) (hk : t.kind = 3 ∧ t.of.length = 1) : agT ts s o = ⟨4, srt s (t.of.getD 0 0), [], 0⟩ := by
  unfold agT
  rw [if_pos h0, h]
  exact if_pos hk
theorem A0Z {A : Mem} {ts : List Tm} {i : Int} {c : List Value} {ok : Bool} (hts : ∀ t ∈ ts, Tmo t) (h1 : (0 ≤ i ∧ i < (ts.length : Int)) → ok = true ∧ ∃ t, ts[i.toNat]? = some t ∧ TmC A c t) (h2 : ¬ (0 ≤ i ∧ i < (ts.length : Int)) → ok = false ∧ c = tmc 0 (vS) [] 0) :
    ∃ (vo : Value) (t : Tm), c = tmc t.kind vo t.text t.n ∧ Rd A 1 vo t.of.length (Y3 t.of) ∧ (∀ z ∈ t.of, i64 z) ∧ t.kind < 256 ∧ (ok = true → 0 ≤ i ∧ ts[i.toNat]? = some t) ∧ (ok = false → ¬ (0 ≤ i ∧ i < (ts.length : Int))) := by
  by_cases h : 0 ≤ i ∧ i < (ts.length : Int)
  · obtain ⟨e, t, ht, vo, hc, hr⟩ := h1 h
    have hto := hts t (List.mem_of_getElem? ht)
    exact ⟨vo, t, hc, hr, hto.of, hto.kind, fun _ => ⟨h.1, ht⟩, fun e' => by rw [e] at e'; cases e'⟩
  · obtain ⟨e, hc⟩ := h2 h
    exact ⟨vS, ⟨0, [], [], 0⟩, hc, Rd.nil, (fun z hz => by cases hz), by decide, (fun e' => by rw [e] at e'; cases e'), fun _ => h⟩
theorem A0H (x y : Int) : (srt x y).length = 2 := by unfold srt; split <;> rfl
theorem A8C {x y z : Int} (h : z ∈ srt x y) : z = x ∨ z = y := by
  unfold srt at h
  split at h <;> simp at h <;> omega
theorem A8D {s o n : Int} {l : List Int} (hl : l.length = 2) (h : ∀ z ∈ l, i64 z) (hn : n = 0 ∨ n = 1) : Tmo ⟨4, l, [], n⟩ := ⟨show 4 < 256 by decide, show i64 n by unfold i64; omega, h, show l.length ≤ 1048576 by omega, ⟨fun x hx => (List.not_mem_nil hx).elim⟩, show 0 ≤ 1099511627776 by decide⟩
theorem A7d (bt bm : Nat) (ts : List Tm) (s o : Int) (MT A : Mem) (hT : Tab bt bm ts MT) (hn : ts.length ≤ 1048576) (hs : i64 s) (ho : i64 o) {e4 : TypeId} {f4 : Nat × Nat} (h4 : (4, Obj.cells (I3 .u64 N8).toArray e4 f4) ∈ A) : FnX Tryz.prog 145 [(vP bt), .int .i64 s, .int .i64 o] MT A fun r M J => J = [] ∧ r = .int .i64 ((at_ ts (agT ts s o) : Nat) : Int) ∧ Tab bt bm (add ts (agT ts s o)) M := by
 have hnT := hT
 obtain ⟨_, _, _, _, _, _, _, _, _, _, _, hts, hnd⟩ := hnT
 refine FnX.enter (N := 46) Tryz.func145 rfl rfl rfl fun w => ?_
 refine A8 (E5 0 1 2) (A1 (as_ (A0 (E5 0 1 2) (A6 (A1 (mv_ (mv_ ?_)))))))
 refine E0 (aS rfl (aS rfl a0)) kR (X0 bt bm ts o MT _ hT qS) rfl ?_
 rintro v13 M13 J13 ⟨rfl, rfl, c13, ok13, rfl, hg1, hg2⟩
 obtain ⟨vo, t, rfl, hvo, hz, htk, hok, hno⟩ := A0Z hts hg1 hg2
 haveI := hvo.cel
 refine mv_ ?_
 refine A2 (R6 rfl) rfl ?_
 refine A2 (R4 rfl) rfl ?_
 refine A4 rfl (D2 (cs := [.int .u8 0, vS, .string ByteArray.empty, .int .i64 0]) kR rfl fun b7 => ?_)
 refine A4 rfl (B8 rfl rfl rfl kR qR (by intro c hc; simp only [List.mem_cons, List.not_mem_nil, or_false] at hc; rcases hc with rfl | rfl | rfl | rfl <;> first | rfl | exact hvo.one) UpC.upd ?_)
 refine as_ (A0 (G6 0 1 2 7 8) (A1 (mv_ (mv_ ?_))))
 refine H4 (t := 17) rfl (fun hb => ?_) (fun hb => ?_)
 ·
  obtain ⟨h0, hget⟩ := hok hb
  refine C0 rfl rfl (OpQ.opL (qf_ 0 0) rfl ?_)
  refine C0 rfl rfl (OpQ.opL ql_ rfl ?_)
  refine C0 rfl rfl (OpQ.opL (F3 rfl rfl rfl) rfl ?_)
  refine A2 (E3 rfl rfl) rfl ?_
  refine mv_ ?_
  refine H4 (t := 22) rfl (fun hb => ?_) (fun hb => ?_)
  ·
   have hk3 : t.kind = 3 := by simp at hb; omega
   refine C0 rfl rfl (OpQ.opL (qf_ 1 1) rfl ?_)
   refine C0 rfl rfl (OpQ.opL ql_ rfl ?_)
   refine C0 rfl rfl (OpQ.opL (E2 (sz := 1) rfl kR hvo) rfl ?_)
   refine C0 rfl rfl (OpQ.opL (F3 rfl rfl rfl) rfl ?_)
   refine A2 (E3 rfl rfl) rfl ?_
   refine A0 (G6 0 1 2 7 27) ?_
   refine C3 rfl ?_ ?_ <;> intro hc
   ·
    have h1 : t.of.length = 1 := by simp at hc; omega
    have hag := A8B (s := s) h0 hget ⟨hk3, h1⟩
    have hz0 : i64 (t.of.getD 0 0) := hz _ (by rw [List.getD_eq_getElem?_getD, List.getElem?_eq_getElem qO]; exact List.getElem_mem _)
    generalize hzz : t.of.getD 0 0 = z0 at *
    refine A1 (mv_ ?_)
    refine A2 (qf_ 1 1) rfl ?_
    refine A2 ql_ rfl ?_
    refine A2 (F2 (sz := 1) (a := 0) rfl rfl kR rfl hvo qO) rfl ?_
    refine A2 (L0 (j := 0) (u := .int .i64 z0) (hvo.mono qS) rfl kR (by rw [← hzz, List.getD_eq_getElem?_getD, Y3, List.getElem?_map, List.getElem?_eq_getElem qO]; rfl)) rfl ?_
    refine A4 rfl (C4 (e := 3) (sz := 1) (z := [.int .i64 0, .int .i64 0]) kR (eS rfl (eS rfl e0)) (bdS 0 1 rfl qR (bdS 1 1 rfl qR bd0)) rfl fun b33 => ?_)
    refine as_ (A0 (D0 0 9) (A1 (mv_ ?_)))
    refine A4 rfl (A9 (Mc := [(b33, blk [.int .i64 s, .int .i64 z0] 3)]) (R := _) (aS rfl a0) kR qP (A8A b33 s z0 _) rfl ?_)
    rintro v35 M35 J35 ⟨rfl, rfl, rfl⟩
    refine A0 (D0 0 9) (A1 (mv_ (mv_ ?_)))
    refine A2 (D6 (place := fun x => #[(0, 1), (1, 1), (2, 1), (3, 1)][x]?) (z := [.int .u8 0, vS, .string ByteArray.empty, .int .i64 0]) (fun _ => by kernel_rfl) (eS rfl (eS rfl e0)) (bdS 0 1 rfl qR (bdS 1 1 rfl qR bd0))) rfl ?_
    refine A4 rfl (A9 (Mc := MT) (R := _) (aS rfl (aS rfl a0)) kR qP (N1 bt bm ts _ ⟨4, srt s z0, [], 0⟩ MT _ hT hn (by rw [A0H]; exact (Rd.whole (n := 2) At.mem (by first | rfl | exact (A1J _).trans (A0H _ _)))) (A8D (s := s) (o := o) (A0H _ _) (fun q hq => (A8C hq).elim (fun e => e ▸ hs) (fun e => e ▸ hz0)) (.inl rfl)) (qS _ h4)) rfl ?_)
    rintro v39 M39 J39 ⟨rfl, rfl, hT39⟩
    refine as_ (A0 (C7 6) (A7 (tr ?_)))
    exact ⟨_, M39, [], F7 rfl rfl, by first | exact List.Sublist.refl _ | simp, by simp, rfl, by rw [hag], by rw [hag]; exact hT39⟩
   ·
    have hag := B2w (s := s) h0 hget (fun h => by have := h.2; simp at hc; omega)
    refine A5 (nx (E5 0 1 2) (A1 (mv_ (mv_ (mv_ ?_)))))
    refine A4 rfl (C4 (e := 3) (sz := 1) (z := [.int .i64 0, .int .i64 0]) kR (eS rfl (eS rfl e0)) (bdS 0 1 rfl qR (bdS 1 1 rfl qR bd0)) rfl fun b43 => ?_)
    refine A2 (D6 (place := fun x => #[(0, 1), (1, 1), (2, 1), (3, 1)][x]?) (z := [.int .u8 0, vS, .string ByteArray.empty, .int .i64 0]) (fun _ => by kernel_rfl) (eS rfl (eS rfl (eS rfl e0))) (bdS 0 1 rfl qR (bdS 1 1 rfl qR (bdS 3 1 rfl qR bd0)))) rfl ?_
    refine A4 rfl (A9 (Mc := MT) (R := _) (aS rfl (aS rfl a0)) kR qP (N1 bt bm ts _ ⟨4, [s, o], [], 1⟩ MT _ hT hn (Rd.whole (n := 2) At.mem (by first | rfl | exact (A1J _).trans (A0H _ _))) (A8D (s := s) (o := o) rfl (fun q hq => by simp at hq; rcases hq with rfl | rfl <;> assumption) (.inr rfl)) (qS _ h4)) rfl ?_)
    rintro v45 M45 J45 ⟨rfl, rfl, hT45⟩
    refine as_ (A0 (C7 6) (A7 ?_))
    exact ⟨_, M45, [], F7 rfl rfl, by first | exact List.Sublist.refl _ | simp, by simp, rfl, by rw [hag], by rw [hag]; exact hT45⟩
  ·
   have hag := B2w (s := s) h0 hget (fun h => by have := h.1; simp at hb; omega)
   refine D1 rfl rfl rfl rfl ?_
   refine D1 rfl rfl rfl rfl ?_
   refine D1 rfl rfl rfl rfl ?_
   refine D1 rfl rfl rfl rfl ?_
   refine A2 (C8 rfl rfl) rfl ?_
   refine A0 (G6 0 1 2 7 27) ?_
   refine B0 rfl ?_
   refine A5 (nx (E5 0 1 2) (A1 (mv_ (mv_ (mv_ ?_)))))
   refine A4 rfl (C4 (e := 3) (sz := 1) (z := [.int .i64 0, .int .i64 0]) kR (eS rfl (eS rfl e0)) (bdS 0 1 rfl qR (bdS 1 1 rfl qR bd0)) rfl fun b43 => ?_)
   refine A2 (D6 (place := fun x => #[(0, 1), (1, 1), (2, 1), (3, 1)][x]?) (z := [.int .u8 0, vS, .string ByteArray.empty, .int .i64 0]) (fun _ => by kernel_rfl) (eS rfl (eS rfl (eS rfl e0))) (bdS 0 1 rfl qR (bdS 1 1 rfl qR (bdS 3 1 rfl qR bd0)))) rfl ?_
   refine A4 rfl (A9 (Mc := MT) (R := _) (aS rfl (aS rfl a0)) kR qP (N1 bt bm ts _ ⟨4, [s, o], [], 1⟩ MT _ hT hn (Rd.whole (n := 2) At.mem (by first | rfl | exact (A1J _).trans (A0H _ _))) (A8D (s := s) (o := o) rfl (fun q hq => by simp at hq; rcases hq with rfl | rfl <;> assumption) (.inr rfl)) (qS _ h4)) rfl ?_)
   rintro v45 M45 J45 ⟨rfl, rfl, hT45⟩
   refine as_ (A0 (C7 6) (A7 ?_))
   exact ⟨_, M45, [], F7 rfl rfl, by first | exact List.Sublist.refl _ | simp, by simp, rfl, by rw [hag], by rw [hag]; exact hT45⟩
 ·
  have hag := B6c (s := s) (hno hb)
  refine D1 rfl rfl rfl rfl ?_
  refine D1 rfl rfl rfl rfl ?_
  refine D1 rfl rfl rfl rfl ?_
  refine A2 (C8 rfl rfl) rfl ?_
  refine mv_ ?_
  refine D1 rfl rfl rfl rfl ?_
  refine D1 rfl rfl rfl rfl ?_
  refine D1 rfl rfl rfl rfl ?_
  refine D1 rfl rfl rfl rfl ?_
  refine A2 (C8 rfl rfl) rfl ?_
  refine A0 (G6 0 1 2 7 27) ?_
  refine B0 rfl ?_
  refine A5 (nx (E5 0 1 2) (A1 (mv_ (mv_ (mv_ ?_)))))
  refine A4 rfl (C4 (e := 3) (sz := 1) (z := [.int .i64 0, .int .i64 0]) kR (eS rfl (eS rfl e0)) (bdS 0 1 rfl qR (bdS 1 1 rfl qR bd0)) rfl fun b43 => ?_)
  refine A2 (D6 (place := fun x => #[(0, 1), (1, 1), (2, 1), (3, 1)][x]?) (z := [.int .u8 0, vS, .string ByteArray.empty, .int .i64 0]) (fun _ => by kernel_rfl) (eS rfl (eS rfl (eS rfl e0))) (bdS 0 1 rfl qR (bdS 1 1 rfl qR (bdS 3 1 rfl qR bd0)))) rfl ?_
  refine A4 rfl (A9 (Mc := MT) (R := _) (aS rfl (aS rfl a0)) kR qP (N1 bt bm ts _ ⟨4, [s, o], [], 1⟩ MT _ hT hn (Rd.whole (n := 2) At.mem (by first | rfl | exact (A1J _).trans (A0H _ _))) (A8D (s := s) (o := o) rfl (fun q hq => by simp at hq; rcases hq with rfl | rfl <;> assumption) (.inr rfl)) (qS _ h4)) rfl ?_)
  rintro v45 M45 J45 ⟨rfl, rfl, hT45⟩
  refine as_ (A0 (C7 6) (A7 ?_))
  exact ⟨_, M45, [], F7 rfl rfl, by first | exact List.Sublist.refl _ | simp, by simp, rfl, by rw [hag], by rw [hag]; exact hT45⟩

end Go.Proofs.YtoameenjkiaefaaGreatDoor
namespace Go.Px
theorem wf_u {k : IntKind} (hk : k.signed = false) {n : Int} (h : (Lit.int k n).wf = true) : 0 ≤ n ∧ n < 2 ^ k.bits := by
  cases k <;> simp_all [Lit.wf, IntKind.min, IntKind.max, IntKind.bits, IntKind.signed] <;> omega
end Go.Px

namespace Go.Px
open Go.ChangeShapes Go.WideShapes Go.ChangeAt Go.RowKit
def A7e (w : World) : Mem := (List.range w.heap.size).filterMap fun b => (w.heap[b]?).map fun o => (b, o)
theorem A2i {w : World} {b : Nat} {o : Obj} : (b, o) ∈ A7e w ↔ w.heap[b]? = some o := by
  simp only [A7e, List.mem_filterMap, List.mem_range, Option.map_eq_some_iff, Prod.mk.injEq]
  constructor
  · rintro ⟨x, _, y, h, rfl, rfl⟩; exact h
  · intro h; exact ⟨b, N5 h, o, h, rfl, rfl⟩
theorem heapA_fx (w : World) : Fx (A7e w) w := fun b o h => A2i.1 h
section
variable {H : Type} {enc : TypeId × Value → H} {P : Program} {w : World} {spare : Nat → Bool} {held : Bool} {fuel : Nat} {t e : TypeId} {cs : List Value} {x : DataW H × List MemPlace} {v : Value} {d : DataW H} {p : List MemPlace} {r : Reach} {base : Nat} {k : IntKind}
theorem A00 {a : Addr} {n : Nat} {c : List Value} (h : w.cells? 0 a n = some c) : c.length = n ∧ ∀ j, j < n → w.cell? (a.add j) = c[j]? := by
  unfold World.cells? at h
  rw [if_pos (Nat.zero_le _)] at h
  exact ⟨by simpa using mapM_some_length h, fun j hj => mapM_some_get h j j (by simp [hj])⟩
theorem B0L {sz : Nat} (ht : P.underlying t = some (.slice e)) (hsz : P.cellsOf e = sz) (hs0 : 0 < sz) (h : DataW.trod enc P w 0 spare held fuel t cs = some x) :
    ∃ (v : Value) (xss : List (List Value)), cs = [v] ∧ xss.length ≤ maxLen ∧ Rd (A7e w) sz v xss.length xss.flatten ∧ ∀ c ∈ xss, c.length = sz ∧ ∃ m y, DataW.trod enc P w 0 spare held m e c = some y := by
  rcases DataW.trod_slice ht h with ⟨rfl, _⟩ | ⟨a, len, cap, elems, rest, n, _, rfl, _, _, hl, hm, hlen, hel, _, _⟩
  · exact ⟨_, [], rfl, by simp, Rd.nil, fun c hc => by cases hc⟩
  · rw [hsz] at hel
    have hrow : ∀ i, i < len → ∃ c y, w.cells? 0 (a.add (i * sz)) sz = some c ∧ DataW.trod enc P w 0 spare held n e c = some y := by
      intro i hi
      have h1 := hel i hi
      rw [List.getElem?_eq_getElem (by omega)] at h1
      obtain ⟨c, h2, h3⟩ := Option.bind_eq_some_iff.1 h1
      exact ⟨c, _, h2, h3⟩
    have hget : ∀ i, i < len → ((List.range len).map fun i => (w.cells? 0 (a.add (i * sz)) sz).getD [])[i]? = some ((w.cells? 0 (a.add (i * sz)) sz).getD []) := by
      intro i hi; simp [hi]
    have hlen2 : ∀ c ∈ (List.range len).map (fun i => (w.cells? 0 (a.add (i * sz)) sz).getD []), c.length = sz ∧ ∃ m y, DataW.trod enc P w 0 spare held m e c = some y := by
      intro c hc
      obtain ⟨i, hi, rfl⟩ := List.mem_map.1 hc
      obtain ⟨c, y, h1, h2⟩ := hrow i (List.mem_range.1 hi)
      rw [h1, Option.getD_some]
      exact ⟨(A00 h1).1, n, y, h2⟩
    refine ⟨_, (List.range len).map fun i => (w.cells? 0 (a.add (i * sz)) sz).getD [], rfl, by simp; omega, ?_, hlen2⟩
    have hl1 : ((List.range len).map fun i => (w.cells? 0 (a.add (i * sz)) sz).getD []).length = len := by simp
    have hfl := A3z (rows := (List.range len).map fun i => (w.cells? 0 (a.add (i * sz)) sz).getD []) (s := sz) fun c hc => (hlen2 c hc).1
    rw [hl1]
    rw [hl1] at hfl
    by_cases h0 : len * sz = 0
    · refine ⟨some a, cap, rfl, hfl, hl, .inl ?_⟩
      rcases Nat.mul_eq_zero.1 h0 with h | h <;> omega
    · have hlp : 0 < len := Nat.pos_of_ne_zero (by rintro rfl; simp at h0)
      have hsp : 0 < sz := Nat.pos_of_ne_zero (by rintro rfl; simp at h0)
      obtain ⟨c0, y0, h1, _⟩ := hrow 0 hlp
      have h2 := (A00 h1).2 0 hsp
      have h3 := (A00 h1).1
      obtain ⟨b, o, sp⟩ := a
      have hadd : ((⟨b, o, sp⟩ : Addr).add (0 * sz)).add 0 = ⟨b, o, sp⟩ := by simp [Addr.add]
      rw [hadd, List.getElem?_eq_getElem (by omega)] at h2
      cases hb : w.heap[b]? with
      | none => simp [World.cell?, hb] at h2
      | some ob =>
        cases ob <;> simp [World.cell?, hb] at h2
        rename_i cells et fr
        obtain ⟨rfl, h2⟩ := h2
        refine ⟨_, cap, rfl, hfl, hl, .inr ⟨b, o, cells.toList, et, fr, rfl, A2i.2 (by simpa using hb), fun j u hj => ?_⟩⟩
        have hjl : j < len * sz := by have := (List.getElem?_eq_some_iff.1 hj).1; rwa [hfl] at this
        have hi : j / sz < len := Nat.div_lt_of_lt_mul (by rw [Nat.mul_comm]; exact hjl)
        have hr : j % sz < sz := Nat.mod_lt _ hsp
        have hj2 := A0j (fun c hc => (hlen2 c hc).1) (hget _ hi) (j % sz) hr
        have ej : j / sz * sz + j % sz = j := by rw [Nat.mul_comm]; exact Nat.div_add_mod j sz
        rw [ej, hj] at hj2
        obtain ⟨c, y, h5, _⟩ := hrow _ hi
        rw [h5, Option.getD_some] at hj2
        have h6 := (A00 h5).2 _ hr
        rw [← hj2, Addr.add_mid, Addr.add_mid, World.cell?, hb] at h6
        simp only [Option.isSome_none, Bool.false_eq_true, if_false] at h6
        rw [Array.getElem?_toList, show o + j = o + j / sz * sz + j % sz by omega, h6]
theorem A4J (hk : k.signed = false) {n : Int} (h : (Lit.int k n).wf = true) : ∃ m : Nat, n = (m : Int) ∧ m < 2 ^ k.bits := by
  obtain ⟨h1, h2⟩ := wf_u hk h
  obtain ⟨m, rfl⟩ := Int.eq_ofNat_of_zero_le h1
  refine ⟨m, rfl, ?_⟩
  have h3 : ((m : Nat) : Int) < ((2 ^ k.bits : Nat) : Int) := by simpa using h2
  exact Int.ofNat_lt.1 h3
theorem inU (ht : P.underlying t = some (.int k)) (hk : k.signed = false) (hv : Value.okWide P w r base t v) (h : DataW.Trod enc P w 0 spare held t v d p) : ∃ n : Nat, v = .int k (n : Int) ∧ n < 2 ^ k.bits := by
  obtain ⟨n, rfl⟩ := okWide_int ht hv
  obtain ⟨f, hf⟩ := h
  obtain ⟨m, h1, _, h2⟩ := DataW.trod_int ht hf
  obtain ⟨q, rfl, h3⟩ := A4J hk h2
  exact ⟨q, by simpa [Value.cells] using h1, h3⟩
theorem inB (ht : P.underlying t = some .bool) (hv : Value.okWide P w r base t v) : ∃ b, v = .bool b := okWide_bool ht hv
theorem B0M (hk : k.signed = false) (he : P.underlying e = some (.int k)) {xss : List (List Value)} (h : ∀ c ∈ xss, c.length = 1 ∧ ∃ m y, DataW.trod enc P w 0 spare held m e c = some y) :
    ∃ ws : List Nat, xss.flatten = I3 k ws ∧ ws.length = xss.length ∧ ∀ x ∈ ws, x < 2 ^ k.bits := by
  induction xss with
  | nil => exact ⟨[], rfl, rfl, fun x hx => by cases hx⟩
  | cons c xss ih =>
    obtain ⟨ws, h1, h2, h3⟩ := ih fun c hc => h c (by simp [hc])
    obtain ⟨_, m, y, h4⟩ := h c (by simp)
    obtain ⟨n, rfl, _, h5⟩ := DataW.trod_int he h4
    obtain ⟨q, rfl, h6⟩ := A4J hk h5
    refine ⟨q :: ws, by rw [List.flatten_cons, h1]; rfl, by simp [h2], fun x hx => ?_⟩
    rcases List.mem_cons.1 hx with rfl | hx
    · exact h6
    · exact h3 x hx
theorem inSlU (ht : P.underlying t = some (.slice e)) (he : P.underlying e = some (.int k)) (hc : P.cellsOf e = 1) (hk : k.signed = false) (hv : Value.okWide P w r base t v) (h : DataW.Trod enc P w 0 spare held t v d p) :
    ∃ ws, Rd (A7e w) 1 v ws.length (I3 k ws) ∧ (∀ x ∈ ws, x < 2 ^ k.bits) ∧ ws.length ≤ maxLen := by
  obtain ⟨a, len, cap, rfl⟩ := okWide_slice ht hv
  obtain ⟨f, hf⟩ := h
  obtain ⟨v, xss, h1, h2, h3, h4⟩ := B0L ht hc (by decide) hf
  obtain ⟨ws, h5, h6, h7⟩ := B0M hk he h4
  obtain rfl : Value.slice a len cap = v := by simpa [Value.cells] using h1
  exact ⟨ws, by rw [h6, ← h5]; exact h3, h7, by omega⟩
end
end Go.Px

namespace Go.Px
open Go.ChangeShapes Go.WideShapes Go.ChangeAt Go.RowKit
structure Bys (R : Mem) (vs : List Value) (ls : List (List Nat)) : Prop where
  len : vs.length = ls.length
  get : ∀ (j : Nat) (w : List Nat), ls[j]? = some w → ∃ v, vs[j]? = some v ∧ Rd R 1 v w.length (I3 .u8 w) ∧ (∀ x ∈ w, x < 256) ∧ w.length ≤ maxLen
theorem Bys.mono {R R' : Mem} {vs : List Value} {ls : List (List Nat)} (h : Bys R vs ls) (hR : ∀ x, x ∈ R → x ∈ R') : Bys R' vs ls := ⟨h.len, fun j w hj => by
  obtain ⟨v, h1, h2, h3, h4⟩ := h.get j w hj
  exact ⟨v, h1, h2.mono hR, h3, h4⟩⟩
theorem Bys.nil {R : Mem} : Bys R [] [] := ⟨rfl, fun j w h => by simp at h⟩
theorem Bys.cons {R : Mem} {vs : List Value} {ls : List (List Nat)} (h : Bys R vs ls) {v : Value} {w : List Nat} (hv : Rd R 1 v w.length (I3 .u8 w)) (hb : ∀ x ∈ w, x < 256) (hl : w.length ≤ maxLen) : Bys R (v :: vs) (w :: ls) := ⟨by simp [h.len], fun j u hj => by
  cases j with
  | zero => simp at hj; subst hj; exact ⟨v, rfl, hv, hb, hl⟩
  | succ j => exact h.get j u hj⟩
section
variable {H : Type} {enc : TypeId × Value → H} {P : Program} {w : World} {spare : Nat → Bool} {held : Bool} {fuel : Nat} {t e e' : TypeId} {cs : List Value} {x : DataW H × List MemPlace} {v : Value} {d : DataW H} {p : List MemPlace} {r : Reach} {base : Nat}
end
end Go.Px

namespace Go.Px
section
variable {C : Cx} {Q : XQ} {l : Env} {M J B R M' : Mem} {w : World}
theorem St.freezes (h : St C (B ++ M) J w) : St C M (B ++ J) w := by
  induction B generalizing J with
  | nil => exact h
  | cons x B ih =>
    have h1 := ih (J := x :: J) (St.freeze (by simpa using h))
    refine h1.drop (List.Sublist.refl _) fun y hy => ?_
    simp only [List.cons_append, List.mem_cons, List.mem_append] at hy ⊢
    rcases hy with h | h | h <;> simp [h]
theorem St.frz (hp : M.Perm (B ++ M')) (h : St C M J w) : St C M' (B ++ J) w := (h.perm hp).freezes
theorem V7 {c : Code} (hp : M.Perm (B ++ M')) (h : XC C c Q l M' (B ++ J)) : XC C c Q l M J := fun a w ha hw => h a w ha (hw.frz hp)
theorem A28 {ops : Array Oper} {rest : List Oper} (hp : M.Perm (B ++ M')) (h : XL C ops rest Q l M' (B ++ J)) : XL C ops rest Q l M J := fun a w ha hw => h a w ha (hw.frz hp)
theorem B6d {os : List Oper} {K : Nat → Prop} {n0 : Nat} {nd : List Nat} {plan : List (Nat × Nat)} (hp : M.Perm (B ++ M')) (h : XK C os Q K n0 nd plan l M' (B ++ J)) : XK C os Q K n0 nd plan l M J :=
  fun listed hcl hpl a w ha hw hn => h listed hcl hpl a w ha (hw.frz hp) hn
theorem B6e {os : List Oper} {nd : List Nat} {plan : List (Nat × Nat)} (hp : M.Perm (B ++ M')) (h : XF C os Q nd plan l M' (B ++ J)) : XF C os Q nd plan l M J := B6d hp h
end
theorem FnX.frz0 {P : Program} {f : FuncId} {args : List Value} {A : Mem} {φ : Value → Mem → Prop} (h : FnX P f args [] A fun r M J => J = [] ∧ φ r M) : FnX P f args [] A fun r M J => M = [] ∧ φ r J := by
  intro w hw
  refine Calls.mono (h w hw) ?_
  rintro e w' ⟨v, M', J, rfl, ⟨rfl, hq⟩, hs⟩
  exact ⟨v, [], M', rfl, ⟨rfl, hq⟩, by have := St.frz (B := M') (M' := []) (by simp) hs; simpa using this⟩
structure By (R : Mem) (v : Value) (w : List Nat) : Prop where
  rd : Rd R 1 v w.length (I3 .u8 w)
  lt : ∀ x ∈ w, x < 256
  len : w.length ≤ 16777216
theorem By.mono {R R' : Mem} {v : Value} {w : List Nat} (h : By R v w) (hR : ∀ x, x ∈ R → x ∈ R') : By R' v w := ⟨h.rd.mono hR, h.lt, h.len⟩
theorem By.b256 {R : Mem} {v : Value} {w : List Nat} (h : By R v w) : B256 w := ⟨h.lt⟩
theorem By.one {R : Mem} {v : Value} {w : List Nat} (h : By R v w) : v.oneCell' = true := h.rd.one
theorem By.cel {R : Mem} {v : Value} {w : List Nat} (h : By R v w) : Cel v [v] := h.rd.cel
theorem By.nil {R : Mem} : By R (.slice none 0 0) [] := ⟨Rd.nil, (fun x h => by cases h), by decide⟩
theorem By.max {R : Mem} {v : Value} {w : List Nat} (h : By R v w) : w.length ≤ maxLen := Nat.le_trans h.len (by unfold maxLen; omega)
structure Lst (R : Mem) (vs : List Value) (ls : List (List Nat)) : Prop where
  len : vs.length = ls.length
  get : ∀ (j : Nat) (w : List Nat), ls[j]? = some w → ∃ v, vs[j]? = some v ∧ By R v w
theorem Lst.mono {R R' : Mem} {vs : List Value} {ls : List (List Nat)} (h : Lst R vs ls) (hR : ∀ x, x ∈ R → x ∈ R') : Lst R' vs ls := ⟨h.len, fun j w hj => by
  obtain ⟨v, h1, h2⟩ := h.get j w hj
  exact ⟨v, h1, h2.mono hR⟩⟩
theorem Lst.at {R : Mem} {vs : List Value} {ls : List (List Nat)} (h : Lst R vs ls) {j : Nat} (hj : j < ls.length) : ∃ v, vs[j]? = some v ∧ By R v ls[j] := h.get j ls[j] (List.getElem?_eq_getElem hj)
theorem Lst.nil {R : Mem} : Lst R [] [] := ⟨rfl, fun j w h => by simp at h⟩
theorem Lst.cons {R : Mem} {vs : List Value} {ls : List (List Nat)} {v : Value} {w : List Nat} (hv : By R v w) (h : Lst R vs ls) : Lst R (v :: vs) (w :: ls) := ⟨by simp [h.len], fun j u hj => by
  cases j with
  | zero => simp at hj; subst hj; exact ⟨v, rfl, hv⟩
  | succ j => exact h.get j u hj⟩
theorem Lst.snoc {R : Mem} {vs : List Value} {ls : List (List Nat)} (h : Lst R vs ls) {v : Value} {w : List Nat} (hv : By R v w) : Lst R (vs ++ [v]) (ls ++ [w]) := ⟨by simp [h.len], fun j u hj => by
  by_cases hlt : j < ls.length
  · rw [List.getElem?_append_left hlt] at hj
    obtain ⟨v', h1, h2⟩ := h.get j u hj
    exact ⟨v', by rw [List.getElem?_append_left (List.getElem?_eq_some_iff.1 h1).1]; exact h1, h2⟩
  · rw [List.getElem?_append_right (by omega)] at hj
    have hj0 : j = ls.length := by
      have := (List.getElem?_eq_some_iff.1 hj).1
      simp at this; omega
    subst hj0
    simp at hj
    subst hj
    exact ⟨v, by rw [List.getElem?_append_right (by rw [h.len]; omega), h.len]; simp, hv⟩⟩
structure LsV (R : Mem) (v : Value) (ls : List (List Nat)) : Prop where
  ex : ∃ vs, Rd R 1 v ls.length vs ∧ Lst R vs ls
theorem LsV.mono {R R' : Mem} {v : Value} {ls : List (List Nat)} (h : LsV R v ls) (hR : ∀ x, x ∈ R → x ∈ R') : LsV R' v ls := by
  obtain ⟨vs, h1, h2⟩ := h.ex
  exact ⟨vs, h1.mono hR, h2.mono hR⟩
theorem LsV.nil {R : Mem} : LsV R (.slice none 0 0) [] := ⟨[], Rd.nil, Lst.nil⟩
theorem LsV.cel {R : Mem} {v : Value} {ls : List (List Nat)} (h : LsV R v ls) : Cel v [v] := by
  obtain ⟨vs, h1, _⟩ := h.ex
  exact h1.cel
section loud
variable {C : Cx} {l : Env} {M J : Mem} {K : Env → Mem → Mem → Prop} {d : Nat} {ty t e : TypeId} {pos : String} {af : Array Edge} {g : Option (Nat × Bool)} {x y : Operand}
theorem B3H {b m n : Nat} {u : Value} {k : IntKind} {ws us ws' : List Nat} {e' : TypeId} {by_ : Nat} {M' : Mem} (hx : ev l x = some (.slice (some ⟨b, 0, none⟩) m m)) (hy : ev l y = some u) (ht : A1V C.P t = some (e, 1, by_))
    (hr : Rd (M ++ (J ++ C.A)) 1 u n (I3 k us)) (hm : ws.length = m) (hw' : ws' = us.take m ++ ws.drop n) (hu : Upd M b (blk (I3 k ws) e') (blk (I3 k ws') e') M') (hd : Nat.blt d C.N = true) (h : K ((d, .int .i64 ((min n m : Nat) : Int)) :: l) M' J) :
    OpL C ⟨some d, .call { callee := .builtin .copy, args := #[x, y], argTypes := #[t, t] }, ty, pos, af, g⟩ l M J K := by
  intro Qp a w ha hw
  obtain ⟨i, z, hut, hi, hz, hzs, his, hib⟩ := T5 ht
  obtain ⟨pu, cu, rfl, hul, huc, hub⟩ := hr
  have hru : Rd (M ++ (J ++ C.A)) 1 (.slice pu n cu) n (I3 k us) := ⟨pu, cu, rfl, hul, huc, hub⟩
  have hb := hw.mem _ _ (List.mem_append_left _ hu.mem)
  have hf := A3u (P := C.P) (m := n) (c2 := cu) (hru.hi (min n m) (Nat.min_le_left _ _)) hw.fx
  have hus : us.length = n := by simpa using hul
  rw [Nat.mul_one, show (I3 k us).take (min n m) = I3 k (us.take (min n m)) by simp [I3]] at hf
  have hst := run_storeCells_at (P := C.P) b 0 e' (I3 k (us.take (min n m))) 0 (I3 k ws).toArray w hb (by simp [hus, hm]; omega) T1
  simp only [Nat.add_zero, Nat.zero_add, List.take_zero, List.nil_append, nums_len, List.length_take, hus] at hst
  rw [← A1X, ← A1W] at hst
  have e1 : us.take (min n m) ++ ws.drop (min (min n m) n) = ws' := by
    rw [hw']
    rcases Nat.le_total m n with h | h
    · rw [Nat.min_eq_right h, Nat.min_eq_left h, List.drop_of_length_le (l := ws) (i := m) (by omega), List.drop_of_length_le (l := ws) (i := n) (by omega)]
    · rw [Nat.min_eq_left h, Nat.min_self, List.take_of_length_le (l := us) (i := n) (by omega), List.take_of_length_le (l := us) (i := m) (by omega)]
  rw [e1] at hst
  have hrun : (execOp a.eval ⟨some d, .call { callee := .builtin .copy, args := #[x, y], argTypes := #[t, t] }, ty, pos, af, g⟩).run C.P w = .ok (.value (.int .i64 ((min n m : Nat) : Int))) (w.setRow b (I3 k ws').toArray) := by
    simp [execOp, resolve, invoke, builtin, ha.ev hx, ha.ev hy, Builtin.copy_, run_underlying hut, sizeOf, typeInfo, hi, his, Builtin.lenOf, hf, hst, goInt]
  unfold Oper.wp
  rw [hrun]
  exact ⟨_, M', J, ha.put (D5 hd) _, hw.setRow hu, h⟩
theorem A4K {sz by_ n m b o : Nat} {u : Value} {xs ys : List Value} (hx : ev l x = some (.slice (some ⟨b, o, none⟩) n n)) (hy : ev l y = some u) (ht : A1V C.P t = some (e, sz, by_)) (hsz : Nat.blt 0 sz = true)
    (hs : Rd (M ++ (J ++ C.A)) sz (.slice (some ⟨b, o, none⟩) n n) n xs) (hr : Rd (M ++ (J ++ C.A)) sz u m ys) (hm : 0 < m) (hmax : n + m ≤ maxLen) (hbytes : (n + m) * by_ ≤ 140737488355328) (hd : Nat.blt d C.N = true)
    (k : ∀ v' B', Sl sz v' (n + m) (xs ++ ys) B' → K ((d, v') :: l) (B' ++ M) J) :
    OpL C ⟨some d, .call { callee := .builtin .append, args := #[x, y], argTypes := #[t, t] }, ty, pos, af, g⟩ l M J K := by
  intro Qp a w ha hw
  obtain ⟨i, z, hu, hi, hz, hzs, his, hib⟩ := T5 ht
  obtain ⟨pu, cu, rfl, hul, huc, hub⟩ := hr
  obtain ⟨p', c', e', hxl, hcc, hxb⟩ := hs
  cases e'
  subst his; subst hib
  obtain ⟨bu, ou, csu, eu, fru, rfl, hbu, hxu⟩ : ∃ (b o : Nat) (cs : List Value) (e : TypeId) (fr : Nat × Nat), pu = some ⟨b, o, none⟩ ∧ (b, Obj.cells cs.toArray e fr) ∈ M ++ (J ++ C.A) ∧ ∀ j u, ys[j]? = some u → cs[o + j]? = some u := by
    rcases hub with h | h
    · omega
    · exact h
  have hnews : ∀ j u, ys[j]? = some u → w.cell? ((⟨bu, ou, none⟩ : Addr).add j) = some u := fun j u hj => by rw [Addr.add_mid, A0y hw.fx hbu]; simpa using hxu j u hj
  have holds : ∀ j u, xs[j]? = some u → w.cell? ((⟨b, o, none⟩ : Addr).add j) = some u := fun j u hj => by
    rcases hxb with h | ⟨b2, o2, cs2, e2, f2, h1, h2, h3⟩
    · subst h
      have : xs = [] := List.eq_nil_of_length_eq_zero (by simpa using hxl)
      subst this; simp at hj
    · cases h1
      rw [Addr.add_mid, A0y hw.fx h2]; simpa using h3 j u hj
  have hsmall : n + m ≤ 9223372036854775807 := by simp only [maxLen] at hmax; omega
  have hge := grownCap_ge w (n + m) n e
  have hcm : grownCap w (n + m) n e ≤ maxLen := grownCap_le_maxLen w (n + m) n e hmax
  have hrg := run_append_grow (P := C.P) w t ty e i z hu hi hz ⟨b, o, none⟩ n n xs hxl holds ⟨bu, ou, none⟩ m cu ys hul hnews (by omega) (by omega) (growslice_fits (by omega) hbytes)
  have hexec : (execOp a.eval ⟨some d, .call { callee := .builtin .append, args := #[x, y], argTypes := #[t, t] }, ty, pos, af, g⟩).run C.P w = .ok (.value (.slice (some ⟨w.heap.size, 0, none⟩) (n + m) (grownCap w (n + m) n e))) (w.drew.alloc (.cells (xs.toArray ++ ys.toArray ++ Builtin.zeroCells z.cells (grownCap w (n + m) n e - (n + m))) e (0, 0))) := by
    simp [execOp, resolve, invoke, builtin, ha.ev hx, ha.ev hy, hrg]
  unfold Oper.wp
  rw [hexec]
  have hsl : Sl i.size (.slice (some ⟨w.heap.size, 0, none⟩) (n + m) (grownCap w (n + m) n e)) (n + m) (xs ++ ys) [(w.heap.size, .cells (xs.toArray ++ ys.toArray ++ Builtin.zeroCells z.cells (grownCap w (n + m) n e - (n + m))) e (0, 0))] := by
    refine .inr ⟨w.heap.size, 0, _, (xs.toArray ++ ys.toArray ++ Builtin.zeroCells z.cells (grownCap w (n + m) n e - (n + m))).toList, e, rfl, by simp [blk], hge, hcm, ?_, ?_, ?_⟩
    · simp only [Array.length_toList, Array.size_append, List.size_toArray, size_zeroCells, hzs, hxl, hul, ← Nat.add_mul, Nat.zero_add]
      refine Nat.mul_le_mul_right _ ?_
      omega
    · simp [hxl, hul, Nat.add_mul]
    · intro j u hj
      have hlt : j < (xs ++ ys).length := (List.getElem?_eq_some_iff.1 hj).1
      rw [Nat.zero_add]
      simp only [Array.toList_append, List.append_assoc]
      rw [← List.append_assoc, List.getElem?_append_left (by simpa using hlt)]
      exact hj
  exact ⟨_, _, J, ha.put (D5 hd) _, St.alloc (w := w.drew) hw.drew _, k _ _ hsl⟩
end loud
def retZ (P : Program) (fn : Func) (A : Mem) (post : Value → Mem → Mem → Prop) : XQ
  | .ret, l, M, J => ∃ v M' B, Res P fn l (M ++ (J ++ A)) v ∧ Fit M (B ++ M') ∧ post v M' (B ++ J)
  | .normal, l, M, J => ∃ v M' B, Res P fn l (M ++ (J ++ A)) v ∧ Fit M (B ++ M') ∧ post v M' (B ++ J)
  | _, _, _, _ => False
theorem FnX.enterZ {P : Program} {f : FuncId} {fn : Func} {c : Code} {N : Nat} {args : List Value} {M A : Mem} {post : Value → Mem → Mem → Prop}
    (hf : P.funcs[f]? = some fn) (hb : fn.body = some c) (hn : fn.ntmps = N) (hN : Nat.ble args.length N = true)
    (h : ∀ w, XC ⟨P, w, M.map Prod.fst, A, N⟩ c (retZ P fn A post) (B5D args 0) M []) : FnX P f args M A post := by
  intro w hw
  refine calls_of_wp hf hb ?_
  have hle : args.length ≤ N := by simpa using hN
  refine Code.wp_mono ?_ (h w _ w ?_ hw.cx)
  · rintro e a' w' ⟨l, M', J, ha, hw', hq⟩
    cases e <;> first | exact hq.elim | skip
    all_goals
      obtain ⟨v, M2, B, hv, hM2, hp⟩ := hq
      exact ⟨ha.defers, v, hv N a' w' ha hw'.fx, v, M2, B ++ J, rfl, hp, (hw'.fit hM2 (fun _ h => h)).freezes.cx⟩
  · refine ⟨rfl, by simp [hn]; omega, ?_⟩
    intro i v hi
    obtain ⟨_, h2⟩ := A5l args 0 i v hi
    simp only [Nat.sub_zero] at h2
    have hlt : i < args.length := (List.getElem?_eq_some_iff.1 h2).1
    rw [Array.getElem?_append_left (by simpa using hlt)]
    simpa using h2
theorem Fit.nil {M : Mem} : Fit M ([] ++ []) := Fit.sub (List.nil_sublist _)
theorem Fit.none {M M' : Mem} (h : Fit M M') : Fit M ([] ++ M') := h
instance PickC.two {M X Y R1 R : Mem} [h1 : PickC M X R1] [h2 : PickC R1 Y R] : PickC M (X ++ Y) R := ⟨h1.perm.trans (by rw [List.append_assoc]; exact h2.perm.append_left X)⟩
instance (priority := 50) PickC.left {D M B R : Mem} [h : PickC D B R] : PickC (D ++ M) B (R ++ M) := ⟨(List.Perm.append_right M h.perm).trans (by rw [List.append_assoc])⟩
instance (priority := 60) PickC.consB {M B R1 R : Mem} {x : Nat × Obj} [h1 : PickC M [x] R1] [h2 : PickC R1 B R] : PickC M (x :: B) R := ⟨h1.perm.trans (List.Perm.cons x h2.perm)⟩
theorem uL {B B' r : Mem} {b : Nat} {o o' : Obj} (h : Upd B b o o' B') : Upd (B ++ r) b o o' (B' ++ r) := by
  induction h with
  | hd => exact .hd
  | tl _ ih => exact .tl ih
instance (priority := 50) UpC.lft {b : Nat} {o o' : Obj} {B B' r : Mem} [h : UpC B b o o' B'] : UpC (B ++ r) b o o' (B' ++ r) := ⟨uL h.upd⟩
end Go.Px

namespace Go.Proofs.YtoameenjkiaefaaGreatDoor
open Go.Px
def n32 : LN := List.replicate 32 0
theorem A8E (n : Nat) : ∀ x ∈ List.replicate n 0, x < 256 := fun x hx => by rw [(List.mem_replicate.1 hx).2]; decide
def B6f (key p : LN) : LN := n32
theorem B0N (key p : LN) : (B6f key p).length = 32 := rfl
theorem B3I (key p : LN) : ∀ x ∈ B6f key p, x < 256 := A8E 32
def A29 (key info : LN) (n : Int) : LN := List.replicate (min n.toNat 8160) 0
theorem A7f (key info : LN) (n : Int) : (A29 key info n).length = min n.toNat 8160 := by simp [A29]
theorem A4L (key info : LN) (n : Int) : ∀ x ∈ A29 key info n, x < 256 := A8E _
def B0O (key p : LN) : LN := n32
theorem A6h (key p : LN) : B0O key p = B6f key p := rfl
theorem B0P (key info : LN) : A29 key info 32 = B0O key (info ++ [1]) := rfl
def x25 (s p : LN) : LN := n32
def A2j (s : LN) : LN := x25 s []
theorem A2k (s p : LN) : (x25 s p).length = 32 := rfl
theorem A8F (s p : LN) : ∀ x ∈ x25 s p, x < 256 := A8E 32
theorem B0Q {s t : LN} (hs : ∀ x ∈ s, x < 256) (ht : ∀ x ∈ t, x < 256) : x25 s (A2j t) = x25 t (A2j s) := rfl
def pubB (seed : LN) : LN := n32
def B7C (seed msg : LN) : LN := List.replicate 64 0
def B8k (p msg sig : LN) : Bool := decide (sig.length = 64)
theorem B3J {p m s : LN} (h : ¬ s.length = 64) : B8k p m s = false := decide_eq_false h
def B7D (K : LN) (n : Nat) (N p : LN) : LN := p
theorem B0R (K : LN) (n : Nat) (N p : LN) : (B7D K n N p).length = p.length := rfl
def B3K (K N wa o : LN) : LN := List.replicate 16 0
theorem A8G (K N wa o : LN) : (B3K K N wa o).length = 16 := rfl
def A3a (K N wa p : LN) : LN := B7D K 1 N p ++ B3K K N wa (B7D K 1 N p)
def A6i (K N wa g : LN) : Option (LN) := some (g.take (g.length - 16))
theorem A4M (K N wa p : LN) : A6i K N wa (A3a K N wa p) = some p := by
  unfold A6i A3a B7D B3K
  rw [List.length_append, List.length_replicate, Nat.add_sub_cancel, List.take_left]

structure Glb (A : Mem) : Prop where
  pow : ∃ e f, (4, Obj.cells (I3 .u64 N8).toArray e f) ∈ A
theorem Glb.sub {A A' : Mem} (h : Glb A) (hs : ∀ x, x ∈ A → x ∈ A') : Glb A' := by
  obtain ⟨g, h, i⟩ := h.pow
  exact ⟨⟨g, h, hs _ i⟩⟩
theorem Glb.up {M J A : Mem} (h : Glb A) : Glb (M ++ (J ++ A)) := h.sub fun _ h => mA h
structure Ps where
  seed : LN
  n : Nat
  ts : List Tm
def Ps.real (s : Ps) : Bool := false
def md (b : Bool) : Int := if b then 0 else 1
abbrev TBk (pb : Nat × Nat) := {b : Nat // b = pb.2}
structure Prm (pb : Nat × Nat) (s : Ps) (M : Mem) : Prop where
  ex : ∃ (sv : Value) (bt : TBk pb) (bm : Nat) (B MT : Mem), M = (pb.1, blk [.int .u8 1, sv, (vI s.n), (vP bt)] 118) :: (B ++ MT) ∧ By B sv s.seed ∧ Tab bt bm s.ts MT
def Y7 (w : LN) (n : Nat) : LN := w.take n ++ List.replicate (n - w.length) 0
theorem A3Q (w : LN) (n : Nat) : (Y7 w n).length = n := by simp [Y7]; omega
theorem A5x {w : LN} (h : ∀ x ∈ w, x < 256) (n : Nat) : ∀ x ∈ Y7 w n, x < 256 := by
  intro x hx
  rcases List.mem_append.1 hx with h1 | h1
  · exact h x (List.mem_of_mem_take h1)
  · rw [(List.mem_replicate.1 h1).2]; decide
def le8n (n : Nat) : LN := (List.range 8).map (byt ((n : Nat) : Int))
def B0S (seed : LN) (n : Nat) : LN := A29 (B6f [] seed) ([107, 101, 121] ++ le8n n) 32
def A7M (n : Nat) : Tm := ⟨1, [], [], (n : Int)⟩
def D4 (s : Ps) : Ps := if s.real then { s with n := s.n + 1 } else { s with n := s.n + 1, ts := add s.ts (A7M (s.n + 1)) }
def D9 (s : Ps) : LN := if s.real then B0S s.seed (s.n + 1) else bts ((at_ s.ts (A7M (s.n + 1)) : Nat) : Int)
theorem A1L {s : Ps} (h : s.real = true) : D4 s = { s with n := s.n + 1 } := if_pos h
theorem A01 {s : Ps} (h : s.real = false) : D4 s = { s with n := s.n + 1, ts := add s.ts (A7M (s.n + 1)) } := if_neg (by rw [h]; decide)
theorem A6j {s : Ps} (h : s.real = true) : D9 s = B0S s.seed (s.n + 1) := if_pos h
theorem A1M {s : Ps} (h : s.real = false) : D9 s = bts ((at_ s.ts (A7M (s.n + 1)) : Nat) : Int) := if_neg (by rw [h]; decide)
theorem A6k {n : Nat} (h : n ≤ 1099511627776) : Tmo (A7M n) := ⟨show 1 < 256 by decide, show i64 (n : Int) by unfold i64; omega, fun i hi => (List.not_mem_nil hi).elim, show 0 ≤ 1048576 by decide, ⟨fun x hx => (List.not_mem_nil hx).elim⟩, show 0 ≤ 1099511627776 by decide⟩
theorem B6g {R : Mem} {v : Value} {i : Int} (h : Rd R 1 v 32 (I3 .u8 (bts i))) : By R v (bts i) := ⟨by rw [show (bts i).length = 32 from W3 i qO]; exact h, A7a i, by rw [show (bts i).length = 32 from W3 i qO]; decide⟩
theorem P4 (i : Int) (A : Mem) : FnX Tryz.prog 95 [.int .i64 i] [] A fun r M J => M = [] ∧ By J r (bts i) :=
  ((A7b i A).mono (post' := fun r M J => J = [] ∧ By M r (bts i)) fun v M J ⟨h1, h2⟩ => ⟨h1, B6g (h2.rd fun _ h => h)⟩).frz0
theorem A8H (v : Value) (seed : LN) (A : Mem) (hv : By A v seed) : FnX Tryz.prog 16 [.int .u8 1, v] [] A fun q M J => ∃ pb, q = .tuple #[.pointer (some ⟨pb.1, 0, none⟩), .int .i64 0] ∧ Prm pb ⟨seed, 0, []⟩ M := by
 haveI := hv.cel
 have hvl := hv.len
 refine FnX.enterZ (N := 18) Tryz.func16 rfl rfl rfl fun w_ => ?_
 refine A8 (D0 0 1) (A1 (as_ (as_ (A0 (D0 0 1) (A6 (A1 (mv_ ?_)))))))
 refine A2 (F0 true rfl rfl (neT qD)) rfl ?_
 refine mv_ ?_
 refine C0 rfl rfl (OpQ.opL qm_ rfl ?_)
 refine C0 rfl rfl (OpQ.opL (F0 false rfl rfl (neF qR)) rfl ?_)
 refine A2 (E3 rfl rfl) rfl ?_
 refine A0 (E5 0 1 11) ?_
 refine B0 rfl ?_
 refine A5 (nx (D0 0 1) (A1 (mv_ (mv_ ?_))))
 refine A4 rfl (F6 (e := 5) (sz := 1) (by_ := 1) rfl rfl kR rfl Sl.nil (hv.rd.mono qS) T1 qP (by unfold maxLen; omega) qO rfl fun v14 B14 hs14 => ?_)
 haveI := hs14.cel
 refine E0 a0 kR (A8s _) rfl ?_
 rintro v15 M15 J15 ⟨rfl, bt, bm, rfl, hT0⟩
 refine A2 (D6 (place := fun x => #[(0, 1), (1, 1), (2, 1), (3, 1)][x]?) (z := [.int .u8 0, vS, .int .i64 0, .pointer none]) (fun _ => by kernel_rfl) (eS rfl (eS rfl (eS rfl e0))) (bdS 0 1 rfl qR (bdS 1 1 rfl qR (bdS 3 1 rfl qR bd0)))) rfl ?_
 refine A4 rfl (bx_ fun b17 => ?_)
 refine as_ (as_ (A0 (D0 4 5) (A7 ?_)))
 refine ⟨_, (b17, _) :: (B14 ++ M15), [], A1g rfl rfl rfl, Fit.none (Fit.pick (B := [_]) qP (Fit.pick qP (Fit.last qP))), (b17, bt), rfl, ⟨v14, ⟨bt, rfl⟩, bm, B14, M15, rfl, ⟨?_, hv.lt, hv.len⟩, hT0⟩⟩
 have h := hs14.rd (R := B14) fun _ h => h
 simpa using h
theorem B0T (v : Value) (w : LN) (n : Nat) (A : Mem) (hv : By A v w) (hn : n ≤ 1000) : FnX Tryz.prog 94 [v, .int .i64 (n : Int)] [] A fun q M J => M = [] ∧ By J q (Y7 w n) := by
 haveI := hv.cel
 have hvl := hv.len
 refine FnX.enterZ (N := 12) Tryz.func94 rfl rfl rfl fun w_ => ?_
 refine A8 (D0 0 1) (A1 (as_ (A0 (D0 0 1) (A1 (mv_ ?_)))))
 refine A4 rfl (A5q (by_ := 1) (k := .u8) (e := 5) n rfl rfl kR rfl rfl qO qO rfl fun b7 => ?_)
 refine as_ (A0 (D0 0 5) (A1 (mv_ (mv_ ?_))))
 refine A4 rfl (B3H (e := 5) (us := w) (ws := List.replicate n 0) (ws' := Y7 w n) (by_ := 1) rfl rfl kR (hv.rd.mono qS) qM (by simp [Y7]) UpC.upd rfl ?_)
 refine A0 (C7 5) (A1 (mv_ (as_ (A0 (C7 4) (A7 ?_)))))
 refine ⟨_, [], [(b7, blk (I3 .u8 (Y7 w n)) 5)], F7 rfl rfl, Fit.eq qM, ⟨rfl, ⟨?_, A5x hv.lt n, by rw [A3Q]; omega⟩⟩⟩
 rw [A3Q]
 exact Rd.whole (n := n) qK (by simp [A3Q])
theorem A3b (pb : Nat × Nat) (s : Ps) (v : Value) (w : LN) (MP A : Mem) (hP : Prm pb s MP) (hn : s.ts.length ≤ 1048576) (hv : By A v w) (hG : Glb A) : FnX Tryz.prog 97 [.pointer (some ⟨pb.1, 0, none⟩), v] MP A fun q M J => q = .int .i64 ((rdI s.ts w : Nat) : Int) ∧ Prm pb { s with ts := rdT s.ts w } M := by
 obtain ⟨sv, bt, bm, B, MT, rfl, hby, hT⟩ := hP.ex
 obtain ⟨ge4, gf4, h4⟩ := hG.pow
 haveI := hv.cel
 have hvl := hv.len
 refine FnX.enterZ (N := 11) Tryz.func97 rfl rfl rfl fun w_ => ?_
 refine A8 (D0 0 1) (A1 (as_ (A0 (D0 0 1) (A1 (mv_ ?_)))))
 refine A2 (D8 rfl) rfl ?_
 refine A2 (qf_ 3 3) rfl ?_
 refine A2 ql_ rfl ?_
 refine mv_ ?_
 refine A4 rfl (A9 (Mc := MT) (R := _) (aS rfl (aS rfl a0)) kR qP (A2h bt bm s.ts v w MT _ hT hn (hv.rd.mono qS) hv.lt qO (mA h4)) rfl ?_)
 rintro v10 M10 J10 ⟨rfl, rfl, hT10⟩
 refine as_ (A0 (C7 4) (A7 ?_))
 exact ⟨_, (pb.1, blk [.int .u8 1, sv, .int .i64 (((s.n : Nat) : Int)), (vP bt)] 118) :: (B ++ M10), [], F7 rfl rfl, (Fit.none (Fit.pick (B := [_]) qP (Fit.pick qP (Fit.last qP)))), rfl, ⟨sv, bt, bm, B, M10, rfl, hby, hT10⟩⟩
theorem R7 (pb : Nat × Nat) (s : Ps) (MP A : Mem) (hP : Prm pb s MP) (hn : s.ts.length ≤ 1048576) (hk : s.n < 1099511627776) (hG : Glb A) : FnX Tryz.prog 53 [.pointer (some ⟨pb.1, 0, none⟩)] MP A fun q M J => Prm pb (D4 s) M ∧ By J q (D9 s) := by
 obtain ⟨sv, bt, bm, B, MT, rfl, hby, hT⟩ := hP.ex
 obtain ⟨ge4, gf4, h4⟩ := hG.pow
 haveI := hby.cel
 refine FnX.enterZ (N := 55) Tryz.func53 rfl rfl rfl fun w_ => ?_
 refine A8 (C7 0) (A1 (as_ (A0 (C7 0) (A6 (A1 (mv_ ?_))))))
 refine A2 (C9 (e := 118) rfl rfl kR) rfl ?_
 refine A0 (D0 0 6) ?_
 refine B0 rfl ?_
 refine A5 (nx (C7 0) (A1 (mv_ ?_)))
 refine A2 (D8 rfl) rfl ?_
 refine A2 (qf_ 2 2) rfl ?_
 refine A2 ql_ rfl ?_
 refine A2 (G9 (b := 1) rfl rfl rfl rfl qO) rfl ?_
 refine A2 (D8 rfl) rfl ?_
 refine A2 (qf_ 2 2) rfl ?_
 refine A4 rfl (F8 rfl rfl rfl kR SetC.set UpC.upd ?_)
 refine A0 (C7 0) (A6 (A1 (mv_ ?_)))
 refine A2 (D8 rfl) rfl ?_
 refine A2 (qf_ 0 0) rfl ?_
 refine A2 ql_ rfl ?_
 refine A2 (F3 rfl rfl rfl) rfl ?_
 refine A0 (D0 0 18) ?_
 refine B0 rfl ?_
 refine A5 (nx (C7 0) ?_)
 refine G5 [0, 1, 2, 3, 4, 5, 6, 7, 8, 11] (zp 0 [0, 0, 0, 1, 0, 0, 0, 1, 0, 2, 2, 0]) kR kR fun hs => ?_
 refine fm_ hs ?_
 refine E8 hs rfl (D8 rfl) rfl ?_
 refine E8 hs rfl (qf_ 3 3) rfl ?_
 refine R5 hs rfl ql_ rfl ?_
 refine fm_ hs ?_
 refine E8 hs rfl (D8 rfl) rfl ?_
 refine E8 hs rfl (qf_ 2 2) rfl ?_
 refine R5 hs rfl ql_ rfl ?_
 refine E8 hs rfl (D6 (place := fun x => #[(0, 1), (1, 1), (2, 1), (3, 1)][x]?) (z := [.int .u8 0, vS, .string ByteArray.empty, .int .i64 0]) (fun _ => by kernel_rfl) (eS rfl (eS rfl e0)) (bdS 0 1 rfl qR (bdS 3 1 rfl qR bd0))) rfl ?_
 refine L7 rfl rfl rfl (A9 (Mc := MT) (R := _) (aS rfl (aS rfl a0)) kR qP (N1 bt bm s.ts (vS) (A7M (s.n + 1)) MT _ hT hn Rd.nil (A6k qO) (mA h4)) rfl ?_)
 rintro v53 M53 J53 ⟨rfl, rfl, hT53⟩
 refine L7 rfl rfl rfl (K0 (aS rfl a0) kR (P4 _ _) rfl ?_)
 rintro v54 M54 J54 ⟨rfl, h54⟩
 refine fa_ hs ?_
 refine I2 (C7 2) (A7 ?_)
 exact ⟨_, (pb.1, blk [.int .u8 1, sv, .int .i64 (((s.n + 1 : Nat) : Int)), (vP bt)] 118) :: (B ++ M53), [], F7 rfl rfl, (Fit.none (Fit.pick (B := [_]) qP (Fit.pick qP (Fit.last qP)))), by rw [A01 rfl]; exact ⟨sv, bt, bm, B, M53, rfl, hby, hT53⟩, by rw [A1M rfl]; exact h54.mono qS⟩

def fits (ws : List (LN)) : LN := ws.flatMap fun w => Y7 w 32
def B7E (key : LN) (ws : List (LN)) (lb : LN) (n : Nat) : LN := A29 (B6f (Y7 key 32) (fits ws)) lb ((32 * n : Nat) : Int)
def B7F (b : LN) (n : Nat) : List (LN) := (List.range n).map fun i => (b.take (32 * i + 32)).drop (32 * i)
def drv (ofs : List Int) (lb : LN) (i : Nat) : Tm := ⟨5, ofs, lb, (i : Int)⟩
def U6 (st : List Tm × List Int) (w : LN) : List Tm × List Int := (rdT st.1 w, st.2 ++ [((rdI st.1 w : Nat) : Int)])
def Q9 (ts : List Tm) (key : LN) (ws : List (LN)) : List Tm × List Int := ws.foldl U6 (U6 (ts, []) key)
def A7g (ofs : List Int) (lb : LN) (st : List Tm × List (LN)) (i : Nat) : List Tm × List (LN) := (add st.1 (drv ofs lb i), st.2 ++ [bts ((at_ st.1 (drv ofs lb i) : Nat) : Int)])
def K5 (ts : List Tm) (ofs : List Int) (lb : LN) (n : Nat) : List Tm × List (LN) := (List.range n).foldl (A7g ofs lb) (ts, [])
def A7h (ts : List Tm) (key : LN) (ws : List (LN)) (lb : LN) (n : Nat) : List Tm × List (LN) := K5 (Q9 ts key ws).1 (Q9 ts key ws).2 lb n
def A2l (s : Ps) (key : LN) (ws : List (LN)) (lb : LN) (n : Nat) : Ps := if s.real then s else { s with ts := (A7h s.ts key ws lb n).1 }
def A2P (s : Ps) (key : LN) (ws : List (LN)) (lb : LN) (n : Nat) : List (LN) := if s.real then B7F (B7E key ws lb n) n else (A7h s.ts key ws lb n).2
theorem A4N {s : Ps} {key lb : LN} {ws : List (LN)} {n : Nat} (h : s.real = true) : A2l s key ws lb n = s := if_pos h
theorem A1r {s : Ps} {key lb : LN} {ws : List (LN)} {n : Nat} (h : s.real = false) : A2l s key ws lb n = { s with ts := (A7h s.ts key ws lb n).1 } := if_neg (by rw [h]; decide)
theorem A6l {s : Ps} {key lb : LN} {ws : List (LN)} {n : Nat} (h : s.real = true) : A2P s key ws lb n = B7F (B7E key ws lb n) n := if_pos h
theorem A3c {s : Ps} {key lb : LN} {ws : List (LN)} {n : Nat} (h : s.real = false) : A2P s key ws lb n = (A7h s.ts key ws lb n).2 := if_neg (by rw [h]; decide)
theorem A4O {α β : Type} {f : β → α → β} {b : β} {l : List α} {i : Nat} (h : i < l.length) : (l.take (i + 1)).foldl f b = f ((l.take i).foldl f b) l[i] := by
  rw [List.take_add_one, List.getElem?_eq_getElem h, List.foldl_append]; rfl
theorem K7 {β : Type} {f : β → Nat → β} {b : β} (i : Nat) : (List.range (i + 1)).foldl f b = f ((List.range i).foldl f b) i := by
  rw [List.range_succ, List.foldl_append]; rfl
theorem A8I {ts : List Tm} {w : LN} (hw : ∀ x ∈ w, x < 256) (hl : w.length ≤ 1099511627776) (hts : ∀ t ∈ ts, Tmo t) : rdI ts w < (rdT ts w).length := by
  cases hp : plc w ts.length with
  | some j =>
    obtain ⟨h1, h2⟩ := Q4 hp
    rw [h1, h2]; exact (A4I hp).1
  | none =>
    obtain ⟨h1, h2⟩ := T3 hp
    rw [h1, h2]
    cases hq : pos ts (B0H w) with
    | some j =>
      obtain ⟨h3, h4⟩ := A3P hq
      rw [h3, h4]
      exact (List.getElem?_eq_some_iff.1 (A3M (A1k hw hl) hts hq)).1
    | none =>
      obtain ⟨h3, h4⟩ := A3O hq
      rw [h3, h4]; simp
theorem B3L {ts : List Tm} {w : LN} (hw : ∀ x ∈ w, x < 256) (hl : w.length ≤ 1099511627776) (hts : ∀ t ∈ ts, Tmo t) : ∀ t ∈ rdT ts w, Tmo t := by
  cases hp : plc w ts.length with
  | some j => rw [(Q4 hp).1]; exact hts
  | none =>
    rw [(T3 hp).1]
    unfold add
    split
    · exact hts
    · intro t ht
      rcases List.mem_append.1 ht with h | h
      · exact hts t h
      · rw [List.mem_singleton.1 h]; exact A1k hw hl
theorem B2x {ofs : List Int} {lb : LN} {i : Nat} (ho : ∀ x ∈ ofs, i64 x) (hl : ofs.length ≤ 1048576) (hb : B256 lb) (hbl : lb.length ≤ 1099511627776) (hi : i ≤ 100) : Tmo (drv ofs lb i) := ⟨show 5 < 256 by decide, show i64 (i : Int) by unfold i64; omega, ho, hl, hb, hbl⟩
structure RdOk (n0 k : Nat) (st : List Tm × List Int) : Prop where
  len : st.1.length ≤ n0 + k
  ofl : st.2.length = k
  of : ∀ x ∈ st.2, 0 ≤ x ∧ x < (st.1.length : Int)
  tmo : ∀ t ∈ st.1, Tmo t
theorem A4P {ts : List Tm} {w : LN} : ts.length ≤ (rdT ts w).length := by
  cases hp : plc w ts.length with
  | some j => rw [(Q4 hp).1]; exact Nat.le_refl _
  | none =>
    rw [(T3 hp).1]
    unfold add
    split <;> simp
theorem RdOk.step {n0 k : Nat} {st : List Tm × List Int} (h : RdOk n0 k st) {w : LN} (hw : ∀ x ∈ w, x < 256) (hl : w.length ≤ 1099511627776) : RdOk n0 (k + 1) (U6 st w) := by
  refine ⟨?_, by simp [U6, h.ofl], ?_, B3L hw hl h.tmo⟩
  · have := L8 (ts := st.1) (ws := w)
    have := h.len
    show (rdT st.1 w).length ≤ _
    omega
  · intro x hx
    have hge := A4P (ts := st.1) (w := w)
    have hlt := A8I (ts := st.1) hw hl h.tmo
    show 0 ≤ x ∧ x < (((rdT st.1 w).length : Nat) : Int)
    rcases List.mem_append.1 hx with h1 | h1
    · have := h.of x h1; omega
    · rw [List.mem_singleton.1 h1]; omega
theorem A6m (b : LN) (n : Nat) : (B7F b n).length = n := by simp [B7F]
theorem Z8 (ts : List Tm) (ofs : List Int) (lb : LN) (n : Nat) : (K5 ts ofs lb n).2.length = n ∧ (K5 ts ofs lb n).1.length ≤ ts.length + n := by
  induction n with
  | zero => exact ⟨rfl, Nat.le_refl _⟩
  | succ n ih =>
    have e : K5 ts ofs lb (n + 1) = A7g ofs lb (K5 ts ofs lb n) n := K7 n
    rw [e]
    refine ⟨by simp [A7g, ih.1], ?_⟩
    have := W2 (ts := (K5 ts ofs lb n).1) (t := drv ofs lb n)
    show (add _ _).length ≤ _
    omega
theorem B0U (key : LN) (ws : List (LN)) (lb : LN) {n : Nat} (hn : n ≤ 8) : (B7E key ws lb n).length = 32 * n := by
  unfold B7E
  rw [A7f]
  omega
theorem A8J (l : List Int) (x : Int) : Y3 (l ++ [x]) = Y3 l ++ [.int .i64 x] := by simp [Y3]
theorem A0I (pb : Nat × Nat) (s : Ps) (kv wv : Value) (key lb : LN) (ws : List (LN)) (n : Nat) (MP A : Mem) (hP : Prm pb s MP) (hk : By A kv key) (hw : LsV A wv ws) (hwn : ws.length ≤ 1000) (hlb : B256 lb) (hll : lb.length ≤ 1000) (hn0 : 1 ≤ n) (hn8 : n ≤ 8) (hn : s.ts.length ≤ 1040000) (hG : Glb A) : FnX Tryz.prog 149 [.pointer (some ⟨pb.1, 0, none⟩), kv, wv, .string (txt lb), .int .i64 (n : Int)] MP A fun q M J => Prm pb (A2l s key ws lb n) M ∧ LsV J q (A2P s key ws lb n) := by
 obtain ⟨sv, bt, bm, B, MT, rfl, hby, hT⟩ := hP.ex
 have hr : s.real = false := rfl
 obtain ⟨ge4, gf4, h4⟩ := hG.pow
 haveI := hby.cel
 haveI := hk.cel
 obtain ⟨wvs, hwr, hwl⟩ := hw.ex
 haveI := hwr.cel
 have hw256 : ∀ w ∈ ws, ∀ x ∈ w, x < 256 := fun w hw => by
  obtain ⟨j, hj⟩ := List.getElem?_of_mem hw
  obtain ⟨v, _, h⟩ := hwl.get j w hj
  exact h.lt
 have hTmo : ∀ t ∈ s.ts, Tmo t := by
  obtain ⟨_, _, _, _, _, _, _, _, _, _, _, h, _⟩ := hT
  exact h
 refine FnX.enterZ (N := 108) Tryz.func149 rfl rfl rfl fun w_ => ?_
 refine A8 (G6 0 1 2 3 4) (A1 (as_ (A0 (G6 0 1 2 3 4) (A1 (as_ (A0 (I7 0 1 2 3 4 11) (A6 ?_)))))))
 refine A1 (mv_ ?_)
 refine A2 (C9 (e := 118) rfl rfl kR) rfl ?_
 refine mv_ ?_
 refine C0 rfl rfl (OpQ.opL qm_ rfl ?_)
 refine C0 rfl rfl (OpQ.opL (F0 false rfl rfl (ltF qO)) rfl ?_)
 refine A2 (C8 rfl rfl) rfl ?_
 refine A0 (S9 0 1 2 3 4 11 26) ?_
 refine B0 rfl ?_
 refine A5 (nx (I7 0 1 2 3 4 11) (A6 (A1 (mv_ ?_))))
 refine A2 (D8 rfl) rfl ?_
 refine A2 (qf_ 0 0) rfl ?_
 refine A2 ql_ rfl ?_
 refine A2 (F3 rfl rfl rfl) rfl ?_
 refine A0 (S9 0 1 2 3 4 11 32) ?_
 refine B0 rfl ?_
 refine A5 (nx (I7 0 1 2 3 4 11) (A1 (mv_ (mv_ ?_))))
 refine A4 rfl (A9 (Mc := (pb.1, blk [.int .u8 1, sv, .int .i64 (((s.n : Nat) : Int)), (vP bt)] 118) :: (B ++ MT)) (R := _) (aS rfl (aS rfl a0)) kR qP (A3b pb s kv key _ _ hP qO (hk.mono qS) hG.up) rfl ?_)
 rintro v73 M73 J73 ⟨rfl, hP73⟩
 have hst0 : RdOk s.ts.length 0 (s.ts, []) := ⟨Nat.le_refl _, rfl, (fun x hx => by cases hx), hTmo⟩
 have hst := hst0.step hk.lt (by have := hk.len; omega)
 refine A4 rfl (C4 (e := 3) (sz := 1) (z := [.int .i64 0]) kR (eS rfl e0) (bdS 0 1 rfl qR bd0) rfl fun b74 => ?_)
 refine as_ (A0 (I7 0 2 3 4 11 17) (A6 (A1 (mv_ ?_))))
 refine A2 (E2 (sz := 1) rfl kR hwr) rfl ?_
 refine mv_ (A0 (A0A 0 3 4 11 17 75 76 77) (C5 ?_))
 refine H0 (α := Nat × Value × Mem × Mem) (fun x => [(0, .pointer (some ⟨pb.1, 0, none⟩)), (3, .string (txt lb)), (4, .int .i64 (n : Int)), (11, vS), (17, x.2.1), (75, wv), (76, (vI ws.length)), (77, (vI x.1))]) (fun x => x.2.2.1 ++ x.2.2.2) (fun x => []) (fun x => x.1 ≤ ws.length ∧ RdOk s.ts.length (1 + x.1) ((ws.take x.1).foldl U6 (U6 (s.ts, []) key)) ∧ Sl 1 x.2.1 (1 + x.1) (Y3 ((ws.take x.1).foldl U6 (U6 (s.ts, []) key)).2) x.2.2.1 ∧ Prm pb { s with ts := ((ws.take x.1).foldl U6 (U6 (s.ts, []) key)).1 } x.2.2.2) (fun x => ws.length - x.1) ⟨0, .slice (some ⟨b74, 0, none⟩) 1 1, [(b74, _)], M73⟩ ⟨Nat.zero_le _, hst, Sl.fresh (n := 1) (sz := 1) (cs := Y3 [((rdI s.ts key : Nat) : Int)]) (e := 3) qR qD, hP73⟩ (A0A 0 3 4 11 17 75 76 77) (Fit.pick (B := [(b74, blk [.int .i64 ((rdI s.ts key : Nat) : Int)] 3)]) qP (Fit.last (B := M73) qP)) (fun _ h => by cases h) ?_
 rintro ⟨i, v17, B17, MR⟩ ⟨hi, hok, hs17, hPR⟩
 dsimp only at hi hok hs17 hPR ⊢
 haveI := hs17.cel
 refine A1 ?_
 refine A2 (F3 rfl rfl rfl) rfl ?_
 refine A0 (A3A 0 3 4 11 17 75 76 77 78) (A6 ?_)
 refine C3 rfl ?_ ?_ <;> intro hc
 ·
  have hlt : i < ws.length := by simp at hc; omega
  obtain ⟨v, hvi, hvb⟩ := hwl.at hlt
  haveI := hvb.cel
  have hft := A4O (f := U6) (b := U6 (s.ts, []) key) hlt
  have hok2 := hok.step hvb.lt (by have := hvb.len; omega)
  rw [← hft] at hok2
  have hokl := hok.len
  refine A5 (nx (A0A 0 3 4 11 17 75 76 77) (A6 (C5 (A1 ?_))))
  refine A2 (F2 (sz := 1) rfl rfl kR rfl hwr hlt) rfl ?_
  refine A2 (L0 (u := v) (hwr.mono qS) rfl kR hvi) rfl ?_
  refine as_ (A0 (A3A 0 3 4 11 17 19 75 76 77) (C6 (mv_ (mv_ (mv_ ?_)))))
  refine A4 rfl (A9 (Mc := MR) (R := _) (aS rfl (aS rfl a0)) kR qP (A3b pb _ v ws[i] _ _ hPR (by dsimp only; omega) (hvb.mono qS) hG.up) rfl ?_)
  rintro v84 M84 J84 ⟨rfl, hP84⟩
  refine A4 rfl (C4 (e := 3) (sz := 1) (z := [.int .i64 0]) kR (eS rfl e0) (bdS 0 1 rfl qR bd0) rfl fun b85 => ?_)
  refine A4 rfl (F6 (e := 3) (sz := 1) (by_ := 8) rfl rfl kR rfl hs17 (Rd.whole (n := 1) At.mem qR) (by simp [Value.oneCell']) qP (by unfold maxLen; omega) qO rfl fun v86 B86 hs86 => ?_)
  refine as_ (E1 (nb (nx (A0A 0 3 4 11 17 75 76 77) (C6 ?_))))
  refine A2 (G9 (b := 1) rfl rfl rfl rfl qO) rfl ?_
  refine mv_ (E1 ?_)
  exact rn ⟨i + 1, v86, B86, M84⟩ ⟨by dsimp only; omega, hok2, (by dsimp only; rw [hft, show U6 _ ws[i] = (_, _ ++ [_]) from rfl]; dsimp only; rw [A8J]; exact hs86), (by dsimp only; rw [hft]; exact hP84)⟩ (by dsimp only; omega) (A0A 0 3 4 11 17 75 76 77) (Fit.pick qP (Fit.last qP)) (fun _ h => by cases h)
 ·
  have hge : i = ws.length := by simp at hc; omega
  subst hge
  rw [List.take_length] at hok hs17 hPR
  change RdOk _ _ (Q9 s.ts key ws) at hok
  change Sl _ _ _ (Y3 (Q9 s.ts key ws).2) _ at hs17
  change Prm _ { s with ts := (Q9 s.ts key ws).1 } _ at hPR
  refine G4 (te (re (be rfl (nx (G6 0 3 4 11 17) (A6 (A1 (mv_ ?_)))))))
  refine A2 (B2k (n : Int) rfl rfl (by split <;> omega)) rfl ?_
  refine mv_ (A0 (I7 0 3 11 17 89 90) (C5 ?_))
  have hokl := hok.len
  have hokf := hok.ofl
  have hoki : ∀ x ∈ (Q9 s.ts key ws).2, i64 x := fun x hx => by have := hok.of x hx; unfold i64; omega
  generalize hra : (Q9 s.ts key ws).1 = tr at *
  generalize hof : (Q9 s.ts key ws).2 = ofs at *
  refine H0 (α := Nat × Value × List Value × Mem × Mem × Mem) (fun x => [(0, .pointer (some ⟨pb.1, 0, none⟩)), (3, .string (txt lb)), (11, x.2.1), (17, v17), (89, .int .i64 (n : Int)), (90, (vI x.1))]) (fun x => x.2.2.2.1 ++ (B17 ++ x.2.2.2.2.1)) (fun x => x.2.2.2.2.2) (fun x => x.1 ≤ n ∧ Sl 1 x.2.1 x.1 x.2.2.1 x.2.2.2.1 ∧ Lst x.2.2.2.2.2 x.2.2.1 (K5 tr ofs lb x.1).2 ∧ Prm pb { s with ts := (K5 tr ofs lb x.1).1 } x.2.2.2.2.1) (fun x => n - x.1) ⟨0, vS, [], [], MR, []⟩ ⟨Nat.zero_le _, Sl.nil, Lst.nil, hPR⟩ (I7 0 3 11 17 89 90) .rfl (fun _ h => by cases h) ?_
  rintro ⟨i, v11, vs11, B11, MQ, JQ⟩ ⟨hi, hs11, hl11, hPQ⟩
  dsimp only at hi hs11 hl11 hPQ ⊢
  haveI := hs11.cel
  obtain ⟨hpl2, hpl1⟩ := Z8 tr ofs lb i
  refine A1 ?_
  refine A2 (F3 rfl rfl rfl) rfl ?_
  refine A0 (S9 0 3 11 17 89 90 91) (A6 ?_)
  refine C3 rfl ?_ ?_ <;> intro hc
  ·
   have hlt : i < n := by simp at hc; omega
   obtain ⟨sv2, bt2, bm2, B2, MT2, rfl, hby2, hT2⟩ := hPQ.ex
   dsimp only at hpl1 hT2 hby2 ⊢
   have hor := hs17.rd (R := B17) fun _ h => h
   rw [hokf.symm] at hor
   have hor : Rd B17 1 v17 ofs.length (Y3 ofs) := A5r hor qO rfl
   refine A5 (nx (I7 0 3 11 17 89 90) (A6 (C5 (A1 (mv_ (as_ (A0 (S9 0 3 11 17 20 89 90) (C6 ?_))))))))
   refine mv_ (mv_ ?_)
   refine A2 (D8 rfl) rfl ?_
   refine A2 (qf_ 3 3) rfl ?_
   refine A2 ql_ rfl ?_
   refine mv_ (mv_ (mv_ ?_))
   refine A2 (D6 (place := fun x => #[(0, 1), (1, 1), (2, 1), (3, 1)][x]?) (z := [.int .u8 0, vS, .string ByteArray.empty, .int .i64 0]) (fun _ => by kernel_rfl) (eS rfl (eS rfl (eS rfl (eS rfl e0)))) (bdS 0 1 rfl qR (bdS 1 1 rfl qR (bdS 2 1 rfl qR (bdS 3 1 rfl qR bd0))))) rfl ?_
   refine A4 rfl (A9 (Mc := MT2) (R := _) (aS rfl (aS rfl a0)) kR qP (N1 bt2 bm2 (K5 tr ofs lb i).1 v17 (drv ofs lb i) MT2 _ hT2 qO (hor.mono qS) (B2x hoki qO hlb qO qO) (mA h4)) rfl ?_)
   rintro v102 M102 J102 ⟨rfl, rfl, hT102⟩
   refine E0 (aS rfl a0) kR (P4 _ _) rfl ?_
   rintro v103 M103 J103 ⟨rfl, hb103⟩
   haveI := hb103.cel
   refine A4 rfl (C4 (e := 22) (sz := 1) (z := [vS]) kR (eS rfl e0) (bdS 0 1 rfl qR bd0) rfl fun b104 => ?_)
   refine A4 rfl (F6 (e := 22) (sz := 1) (by_ := 24) rfl rfl kR rfl hs11 (Rd.whole (n := 1) At.mem qR) (by intro c hc; rw [List.mem_singleton.1 hc]; exact hb103.one) qP (by unfold maxLen; omega) qO rfl fun v105 B105 hs105 => ?_)
   refine as_ (E1 (nb (nx (I7 0 3 11 17 89 90) (C6 ?_))))
   refine A2 (G9 (b := 1) rfl rfl rfl rfl qO) rfl ?_
   refine mv_ (E1 ?_)
   exact rn ⟨i + 1, v105, vs11 ++ [v103], B105, (pb.1, blk [.int .u8 1, sv2, .int .i64 (((s.n : Nat) : Int)), (vP bt2)] 118) :: (B2 ++ M102), J103 ++ JQ⟩ ⟨by dsimp only; omega, hs105, (by dsimp only; rw [show K5 tr ofs lb (i + 1) = A7g ofs lb (K5 tr ofs lb i) i from K7 i]; exact (hl11.mono qS).snoc (hb103.mono qS)), (by dsimp only; rw [show K5 tr ofs lb (i + 1) = A7g ofs lb (K5 tr ofs lb i) i from K7 i]; exact ⟨sv2, bt2, bm2, B2, M102, rfl, hby2, hT102⟩)⟩ (by dsimp only; omega) (I7 0 3 11 17 89 90) (Fit.pick qP (Fit.pick qP (Fit.pick (B := [_]) qP (Fit.pick qP (Fit.last qP))))) qI
  ·
   have hge : i = n := by simp at hc; omega
   subst hge
   refine G4 (te (re (be rfl (nx (C7 11) (A1 (mv_ (as_ (A0 (C7 10) ?_))))))))
   refine A7 ?_
   exact ⟨_, MQ, B11, F7 rfl rfl, (Fit.pick qP (Fit.last qP)), by rw [A1r hr, show A7h s.ts key ws lb i = K5 tr ofs lb i by unfold A7h; rw [hra, hof]]; exact hPQ, by rw [A3c hr, show A7h s.ts key ws lb i = K5 tr ofs lb i by unfold A7h; rw [hra, hof]]; exact ⟨vs11, by rw [hpl2]; exact hs11.rd qS, hl11.mono qS⟩⟩

structure Tok (ts : List Tm) : Prop where
  tmo : ∀ t ∈ ts, Tmo t
  nd : ts.Nodup
theorem Tab.tok {bt bm : Nat} {ts : List Tm} {M : Mem} (h : Tab bt bm ts M) : Tok ts := by
  obtain ⟨_, _, _, _, _, _, _, _, _, _, _, h1, h2⟩ := h
  exact ⟨h1, h2⟩
theorem Tok.nil : Tok [] := ⟨(fun t h => by cases h), List.nodup_nil⟩
theorem A1x {ts : List Tm} {t : Tm} (ht : Tmo t) (h : Tok ts) : ∃ l, add ts t = ts ++ l ∧ (add ts t).length ≤ ts.length + 1 ∧ (add ts t)[at_ ts t]? = some t ∧ Tok (add ts t) := by
  cases hp : pos ts t with
  | some j =>
    obtain ⟨h1, h2⟩ := A3P hp
    exact ⟨[], by rw [h1, List.append_nil], W2, by rw [h1, h2]; exact A3M ht h.tmo hp, by rw [h1]; exact h⟩
  | none =>
    obtain ⟨h1, h2⟩ := A3O hp
    refine ⟨[t], h1, W2, by rw [h1, h2]; simp, ?_⟩
    rw [h1]
    refine ⟨fun u hu => ?_, ?_⟩
    · rcases List.mem_append.1 hu with hu | hu
      · exact h.tmo u hu
      · rw [List.mem_singleton.1 hu]; exact ht
    · rw [List.nodup_append]
      refine ⟨h.nd, by simp, fun x hx y hy e => (A1K ht h.tmo).1 hp ?_⟩
      rw [List.mem_singleton.1 hy] at e
      exact e ▸ hx
theorem A1s {ts l : List Tm} {i : Nat} {t : Tm} (h : ts[i]? = some t) : (ts ++ l)[i]? = some t := by
  rw [List.getElem?_append_left (List.getElem?_eq_some_iff.1 h).1]; exact h
theorem B0V {ts : List Tm} {t : Tm} {i : Nat} (h : Tok ts) (ht : ts[i]? = some t) : add ts t = ts ∧ at_ ts t = i := A3P (B2v h.tmo h.nd ht)
theorem A3R {i j : Nat} (hi : i < 18446744073709551616) (hj : j < 18446744073709551616) (h : bts ((i : Nat) : Int) = bts ((j : Nat) : Int)) : i = j := by
  have h1 := Z7 ((i : Nat) : Int) 18446744073709551616
  have h2 := Z7 ((j : Nat) : Int) 18446744073709551616
  have ui : u64 ((i : Nat) : Int) = i := by unfold u64; omega
  have uj : u64 ((j : Nat) : Int) = j := by unfold u64; omega
  rw [ui, if_pos hi] at h1
  rw [uj, if_pos hj] at h2
  rw [h, h2] at h1
  exact (Option.some.inj h1).symm
def B0W (ts : List Tm) (w : LN) : Prop := ∃ i, i < ts.length ∧ w = bts ((i : Nat) : Int)
theorem B0W.ext {ts l : List Tm} {w : LN} (h : B0W ts w) : B0W (ts ++ l) w := by
  obtain ⟨i, hi, e⟩ := h
  exact ⟨i, by rw [List.length_append]; omega, e⟩
theorem A2m {ts : List Tm} {i : Nat} (hi : i < ts.length) (hl : ts.length ≤ 1048576) : rdT ts (bts ((i : Nat) : Int)) = ts ∧ rdI ts (bts ((i : Nat) : Int)) = i := by
  refine Q4 ?_
  rw [Z7, show u64 ((i : Nat) : Int) = i by unfold u64; omega, if_pos hi]
theorem A4Q (ts : List Tm) (ofs : List Int) (lb : LN) (n : Nat) : ∃ l, (K5 ts ofs lb (n + 1)).1 = (K5 ts ofs lb n).1 ++ l := by
  have e : K5 ts ofs lb (n + 1) = A7g ofs lb (K5 ts ofs lb n) n := K7 n
  rw [e]
  show ∃ l, add _ _ = _ ++ l
  unfold add
  split
  · exact ⟨[], by simp⟩
  · exact ⟨_, rfl⟩
theorem A2n {ts : List Tm} {ofs : List Int} {lb : LN} (h : Tok ts) (hd : ∀ i, i < 100 → Tmo (drv ofs lb i)) {n : Nat} (hn : n ≤ 100) : Tok (K5 ts ofs lb n).1 := by
  induction n with
  | zero => exact h
  | succ n ih =>
    have e : K5 ts ofs lb (n + 1) = A7g ofs lb (K5 ts ofs lb n) n := K7 n
    rw [e]
    obtain ⟨_, _, _, _, h2⟩ := A1x (hd n qO) (ih qO)
    exact h2
theorem A5y {ts : List Tm} {ofs : List Int} {lb : LN} (h : Tok ts) (hd : ∀ i, i < 100 → Tmo (drv ofs lb i)) {n : Nat} (hn : n ≤ 100) {ts' l : List Tm} (e : ts' = (K5 ts ofs lb n).1 ++ l) (h' : Tok ts') : K5 ts' ofs lb n = (ts', (K5 ts ofs lb n).2) := by
  induction n generalizing l with
  | zero => rfl
  | succ n ih =>
    obtain ⟨l2, e2⟩ := A4Q ts ofs lb n
    have ih := ih qO (l := l2 ++ l) (by rw [e, e2, List.append_assoc])
    have e3 : K5 ts ofs lb (n + 1) = A7g ofs lb (K5 ts ofs lb n) n := K7 n
    have e4 : K5 ts' ofs lb (n + 1) = A7g ofs lb (K5 ts' ofs lb n) n := K7 n
    obtain ⟨l3, g1, g2, g3, g4⟩ := A1x (hd n qO) (A2n h hd (show n ≤ 100 by omega))
    have g5 : ts'[at_ (K5 ts ofs lb n).1 (drv ofs lb n)]? = some (drv ofs lb n) := by
      rw [e, e3]
      exact A1s g3
    obtain ⟨a1, a2⟩ := B0V h' g5
    rw [e4, ih, e3]
    show (add ts' (drv ofs lb n), _ ++ [bts ((at_ ts' (drv ofs lb n) : Nat) : Int)]) = _
    rw [a1, a2]
    rfl
theorem A8K {ts : List Tm} {ofs : List Int} {lb : LN} (h : Tok ts) (hd : ∀ i, i < 100 → Tmo (drv ofs lb i)) {n : Nat} (hn : n ≤ 100) {i : Nat} (hi : i < n) : ∃ j, (K5 ts ofs lb n).1[j]? = some (drv ofs lb i) ∧ (K5 ts ofs lb n).2[i]? = some (bts ((j : Nat) : Int)) := by
  induction n with
  | zero => omega
  | succ n ih =>
    have e3 : K5 ts ofs lb (n + 1) = A7g ofs lb (K5 ts ofs lb n) n := K7 n
    obtain ⟨l3, g1, g2, g3, g4⟩ := A1x (hd n qO) (A2n h hd (show n ≤ 100 by omega))
    obtain ⟨p1, p2⟩ := Z8 ts ofs lb n
    rw [e3]
    show ∃ j, (add _ _)[j]? = _ ∧ (_ ++ [_])[i]? = _
    by_cases hin : i < n
    · obtain ⟨j, h1, h2⟩ := ih qO hin
      exact ⟨j, by rw [g1]; exact A1s h1, by rw [List.getElem?_append_left qO]; exact h2⟩
    · obtain rfl : i = n := by omega
      exact ⟨_, g3, by rw [List.getElem?_append_right qO, p1, Nat.sub_self]; rfl⟩
def Kok (s : Ps) (w : LN) : Prop := s.real = false → B0W s.ts w
structure Pext (s s' : Ps) : Prop where
  real : s'.real = s.real
  ts : ∃ l, s'.ts = s.ts ++ l
theorem Pext.refl (s : Ps) : Pext s s := ⟨rfl, [], by simp⟩
theorem Pext.trans {a b c : Ps} (h1 : Pext a b) (h2 : Pext b c) : Pext a c := by
  obtain ⟨l1, e1⟩ := h1.ts
  obtain ⟨l2, e2⟩ := h2.ts
  exact ⟨h2.real.trans h1.real, l1 ++ l2, by rw [e2, e1, List.append_assoc]⟩
theorem Kok.ext {s s' : Ps} {w : LN} (h : Kok s w) (he : Pext s s') : Kok s' w := fun hr => by
  obtain ⟨l, e⟩ := he.ts
  rw [e]
  exact (h (by rw [← he.real]; exact hr)).ext
theorem A4R (s : Ps) : Pext s (D4 s) := by
  unfold D4
  split
  · exact ⟨rfl, [], by simp⟩
  · refine ⟨rfl, ?_⟩
    show ∃ l, add _ _ = _ ++ l
    unfold add
    split
    · exact ⟨[], by simp⟩
    · exact ⟨_, rfl⟩
theorem U7 {s : Ps} (h : Tok s.ts) (hn : s.n < 1099511627776) : Kok (D4 s) (D9 s) ∧ (s.real = false → Tok (D4 s).ts) := by
  cases hr : s.real with
  | true => exact ⟨(fun h1 => by rw [(A4R s).real, hr] at h1; cases h1), (fun h => by cases h)⟩
  | false =>
    obtain ⟨l, g1, g2, g3, g4⟩ := A1x (A6k (n := s.n + 1) qO) h
    refine ⟨fun _ => ?_, fun _ => by rw [A01 hr]; exact g4⟩
    rw [A01 hr, A1M hr]
    exact ⟨_, (List.getElem?_eq_some_iff.1 g3).1, rfl⟩
theorem A7i (ws : List (LN)) (st : List Tm × List Int) : (ws.foldl U6 st).1.length ≤ st.1.length + ws.length := by
  induction ws generalizing st with
  | nil => exact Nat.le_refl _
  | cons w ws ih =>
    have h1 := ih (U6 st w)
    have h2 := L8 (ts := st.1) (ws := w)
    have h3 : (U6 st w).1.length = (rdT st.1 w).length := rfl
    rw [List.foldl_cons, List.length_cons]; omega
theorem A02 (s : Ps) (key : LN) (ws : List (LN)) (lb : LN) (n : Nat) : (A2l s key ws lb n).ts.length ≤ s.ts.length + 1 + ws.length + n := by
  unfold A2l
  split
  · omega
  · have h1 := (Z8 (Q9 s.ts key ws).1 (Q9 s.ts key ws).2 lb n).2
    have h2 := A7i ws (U6 (s.ts, []) key)
    have h3 := L8 (ts := s.ts) (ws := key)
    have h4 : (U6 (s.ts, []) key).1.length = (rdT s.ts key).length := rfl
    show (A7h s.ts key ws lb n).1.length ≤ _
    have h5 : (Q9 s.ts key ws).1.length ≤ s.ts.length + 1 + ws.length := by
      show (ws.foldl U6 (U6 (s.ts, []) key)).1.length ≤ _
      omega
    unfold A7h
    omega
theorem X1 (s : Ps) (key : LN) (ws : List (LN)) (lb : LN) (n : Nat) : (A2l s key ws lb n).real = s.real ∧ (A2l s key ws lb n).n = s.n ∧ (A2l s key ws lb n).seed = s.seed := by
  unfold A2l
  split <;> exact ⟨rfl, rfl, rfl⟩

end Go.Proofs.YtoameenjkiaefaaGreatDoor
