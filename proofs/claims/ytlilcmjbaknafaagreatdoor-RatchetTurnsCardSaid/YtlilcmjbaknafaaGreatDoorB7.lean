/- Part 7 of the texts of this claim, one behind the other. -/
import Derived.Test.YtlilcmjbaknafaaGreatDoorB6
import Derived.WalkKit
import Derived.ProofKit
import Derived.OpenShut
import Derived.ShutString
import Derived.ChangeOld
import Derived.Below
set_option linter.unusedVariables false
set_option linter.unusedSimpArgs false
set_option maxRecDepth 100000
namespace Go.Proofs.YtlilcmjbaknafaaGreatDoor
open Go.Px
def srt (x y : Int) : List Int := if y < x then [y, x] else [x, y]
def two (j : Nat) (x y : Int) : List Int := if j = 1 then [x, y] else [y, x]
def B7T (i : Nat) (x y : Int) : List Int := if i = 1 then [x, y] else srt x y
theorem A1h {R : Mem} {b j : Nat} {x y : Int} {e : TypeId} {fr : Nat × Nat} (h : (b, Obj.cells (A1s (two j x y)).toArray e fr) ∈ R) : Rd R 1 (.slice (some ⟨b, 0, none⟩) 2 2) 2 (A1s (two j x y)) := Rd.whole (n := 2) h (by unfold two; split <;> rfl)
theorem A8x (x : Int) (A : Mem) : FnV Tryz.prog 156 [.int .i64 x] A (.bool false) := by
 refine FnX.enter (N := 6) Tryz.func156 rfl rfl rfl fun w => ?_
 refine B0 (D7 0) (A1 (as_ (A0 (D7 0) (A1 (mv_ (mv_ ?_))))))
 refine A2 (D4 (v := .bool false) rfl rfl (by simp [I1])) rfl ?_
 refine as_ (A0 (D7 2) (B4 ?_))
 refine ⟨_, [], [], K9 rfl rfl, List.nil_sublist _, by simp, rfl, rfl, rfl⟩
theorem A9W (x y : Int) (A : Mem) : FnV Tryz.prog 139 [.int .i64 x, .int .i64 y] A (.bool (decide (x < y))) := by
 refine FnX.enter (N := 17) Tryz.func139 rfl rfl rfl fun w => ?_
 refine B0 (D2 0 1) (A1 (as_ (A0 (D2 0 1) (A1 (mv_ ?_)))))
 refine F1 (aS rfl a0) kR (A8x x _) rfl ?_
 refine mv_ ?_
 refine K8 rfl rfl rfl rfl ?_
 refine K8 rfl rfl rfl rfl ?_
 refine K8 rfl rfl rfl rfl ?_
 refine A2 (I0 rfl rfl) rfl ?_
 refine mv_ ?_
 refine G5 rfl rfl (OpQ.opL qm_ rfl ?_)
 refine G5 rfl rfl (OpQ.opL qm_ rfl ?_)
 refine G5 rfl rfl (OpQ.opL (D4 rfl rfl rfl) rfl ?_)
 refine A2 (I0 rfl rfl) rfl ?_
 refine as_ (A0 (D7 4) (B4 ?_))
 refine ⟨_, [], [], K9 rfl rfl, List.nil_sublist _, by simp, rfl, rfl, rfl⟩
theorem B2G (b : Nat) (x y : Int) (A : Mem) : FnX Tryz.prog 133 [.slice (some ⟨b, 0, none⟩) 2 2, .int .i64 0, .int .i64 2] [(b, blk (A1s ([x, y])) 3)] A fun r M J => J = [] ∧ r = .tuple #[] ∧ M = [(b, blk (A1s (srt x y)) 3)] := by
 refine FnX.enter (N := 49) Tryz.func133 rfl rfl rfl fun w => ?_
 refine B0 (D6 0 1 2) (A1 (mv_ ?_))
 refine A2 (I4 (a := 0) (b := 1) rfl rfl rfl rfl qO) rfl ?_
 refine as_ (A0 (D8 0 1 2 6) (A4 ?_))
 refine D3 (α := Nat) (fun i => [(0, .slice (some ⟨b, 0, none⟩) 2 2), (1, .int .i64 0), (2, .int .i64 2), (6, .int .i64 (i : Int))]) (fun i => [(b, blk (A1s (B7T i x y)) 3)]) (fun _ => []) (fun i => i = 1 ∨ i = 2) (fun i => 2 - i) 1 (.inl rfl) (D8 0 1 2 6) .rfl qI ?_
 rintro i hi
 refine A3 (A1 (mv_ (mv_ ?_)))
 refine A2 (D4 rfl rfl rfl) rfl ?_
 refine A0 (E4 0 1 2 6 12) ?_
 refine C1 rfl ?_ ?_ <;> intro hc
 ·
  obtain rfl : i = 1 := by simp at hc; omega
  refine A6 (nx (D8 0 1 2 6) (A3 (A4 (A1 (mv_ (as_ (A0 (E4 0 1 2 6 7) (A4 ?_))))))))
  refine D3 (α := Nat) (fun j => [(0, .slice (some ⟨b, 0, none⟩) 2 2), (1, .int .i64 0), (2, .int .i64 2), (6, .int .i64 1), (7, .int .i64 (j : Int))]) (fun j => [(b, blk (A1s (two j x y)) 3)]) (fun _ => []) (fun j => j = 1 ∨ (j = 0 ∧ y < x)) (fun j => j) 1 (.inl rfl) (E4 0 1 2 6 7) .rfl qI ?_
  rintro j hj
  refine A3 ?_
  refine C9 (.range 15) (zp 0 [0, 0, 0, 0, 0, 0, 0, 1, 0, 0, 0, 0, 1, 2, 0]) kR kR fun hs => ?_
  refine fm_ hs ?_
  refine fm_ hs ?_
  refine C2 hs rfl (D4 rfl rfl rfl) rfl ?_
  refine fm_ hs ?_
  refine B2p (t := 19) rfl (fun hb => ?_) (fun hb => ?_)
  ·
   obtain rfl : j = 1 := by have := of_decide_eq_true hb; omega
   refine L7 hs rfl rfl rfl rfl qm_ rfl ?_
   refine L7 hs rfl rfl rfl rfl qm_ rfl ?_
   refine L7 hs rfl rfl rfl rfl (I5 (sz := 1) (a := 1) rfl rfl kR rfl (A1h (R := [_]) (j := 1) (x := x) (y := y) (e := 3) (fr := (0, 0)) qK) qD) rfl ?_
   refine A8l hs rfl rfl rfl rfl (A0i (j := 1) (u := .int .i64 y) (A1h At.mem) rfl kR rfl) rfl ?_
   refine L7 hs rfl rfl rfl rfl qm_ rfl ?_
   refine L7 hs rfl rfl rfl rfl qm_ rfl ?_
   refine L7 hs rfl rfl rfl rfl (N9 (a := 1) (b := 1) rfl rfl rfl rfl qO qO) rfl ?_
   refine L7 hs rfl rfl rfl rfl (I5 (sz := 1) (a := 0) rfl rfl kR rfl (A1h (R := [_]) (j := 1) (x := x) (y := y) (e := 3) (fr := (0, 0)) qK) qD) rfl ?_
   refine A8l hs rfl rfl rfl rfl (A0i (j := 0) (u := .int .i64 x) (A1h At.mem) rfl kR rfl) rfl ?_
   refine A5I rfl rfl rfl rfl (aS rfl (aS rfl a0)) kR (A9W y x _) rfl ?_
   refine C2 hs rfl (I6 rfl rfl) rfl ?_
   refine E7 (H3 0 1 2 6 7 30) ?_
   refine C1 rfl ?_ ?_ <;> intro hc
   ·
    have hyx : y < x := by simpa using hc
    refine A6 (nx (E4 0 1 2 6 7) (A3 (A4 ?_)))
    refine F8 [0, 1, 2, 3, 4, 5, 6, 7, 8, 9, 10, 11, 12, 13, 14, 16] (zp 0 [0, 0, 0, 0, 0, 0, 0, 0, 0, 1, 0, 0, 0, 1, 0, 2, 0, 2]) kR kR fun hs => ?_
    refine fm_ hs ?_
    refine fm_ hs ?_
    refine fm_ hs ?_
    refine fm_ hs ?_
    refine C2 hs rfl (N9 (a := 1) (b := 1) rfl rfl rfl rfl qO qO) rfl ?_
    refine fm_ hs ?_
    refine fm_ hs ?_
    refine C2 hs rfl (N9 (a := 1) (b := 1) rfl rfl rfl rfl qO qO) rfl ?_
    refine C2 hs rfl (I5 (sz := 1) (a := 0) rfl rfl kR rfl (A1h (R := [_]) (j := 1) (x := x) (y := y) (e := 3) (fr := (0, 0)) qK) qD) rfl ?_
    refine G4 hs rfl (A0i (j := 0) (u := .int .i64 x) (A1h At.mem) rfl kR rfl) rfl ?_
    refine fm_ hs ?_
    refine fm_ hs ?_
    refine C2 hs rfl (I5 (sz := 1) (a := 1) rfl rfl kR rfl (A1h (R := [_]) (j := 1) (x := x) (y := y) (e := 3) (fr := (0, 0)) qK) qD) rfl ?_
    refine G4 hs rfl (A0i (j := 1) (u := .int .i64 y) (A1h At.mem) rfl kR rfl) rfl ?_
    refine C2 hs rfl (I5 (sz := 1) (a := 1) rfl rfl kR rfl (A1h (R := [_]) (j := 1) (x := x) (y := y) (e := 3) (fr := (0, 0)) qK) qD) rfl ?_
    refine F5 rfl rfl rfl (D9 (show ev _ _ = some (.pointer (some ⟨b, 1, none⟩)) from rfl) rfl rfl kR (show SetL [.int .i64 x, .int .i64 y] 1 (.int .i64 x) [.int .i64 x, .int .i64 x] from SetC.set) UpC.upd ?_)
    refine C2 hs rfl (I5 (sz := 1) (a := 0) rfl rfl kR rfl (A1h (R := [_]) (j := 1) (x := x) (y := y) (e := 3) (fr := (0, 0)) qK) qD) rfl ?_
    refine F5 rfl rfl rfl (D9 (show ev _ _ = some (vP b) from rfl) rfl rfl kR (show SetL [.int .i64 x, .int .i64 x] 0 (.int .i64 y) [.int .i64 y, .int .i64 x] from SetC.set) UpC.upd ?_)
    refine Q8 (nb (nx (E4 0 1 2 6 7) (A7 (mv_ ?_))))
    refine A2 (N9 (a := 1) (b := 1) rfl rfl rfl rfl qO qO) rfl ?_
    refine as_ (C0 ?_)
    exact rn 0 (.inr ⟨rfl, hyx⟩) qD (E4 0 1 2 6 7) .rfl qI
   ·
    have hyx : ¬ y < x := by simpa using hc
    refine D0 (te (re (be rfl (nb (nx (D8 0 1 2 6) (A7 (mv_ ?_)))))))
    refine A2 (I4 (a := 1) (b := 1) rfl rfl rfl rfl qO) rfl ?_
    refine as_ (C0 ?_)
    exact rn 2 (.inr rfl) qD (D8 0 1 2 6) (by rw [show B7T 2 x y = [x, y] by unfold B7T srt; simp [hyx]]; exact .rfl) qI
  ·
   obtain ⟨rfl, hyx⟩ : j = 0 ∧ y < x := by have := of_decide_eq_false hb; omega
   refine A5J hs ?_
   refine A5J hs ?_
   refine A5J hs ?_
   refine B84 hs ?_
   refine A5J hs ?_
   refine A5J hs ?_
   refine A5J hs ?_
   refine A5J hs ?_
   refine B84 hs ?_
   refine B7y hs rfl rfl rfl rfl rfl rfl ?_
   refine C2 hs rfl (I0 rfl rfl) rfl ?_
   refine E7 (H3 0 1 2 6 7 30) ?_
   refine C6 rfl ?_
   refine D0 (te (re (be rfl (nb (nx (D8 0 1 2 6) (A7 (mv_ ?_)))))))
   refine A2 (I4 (a := 1) (b := 1) rfl rfl rfl rfl qO) rfl ?_
   refine as_ (C0 ?_)
   exact rn 2 (.inr rfl) qD (D8 0 1 2 6) (by rw [show B7T 2 x y = [y, x] by unfold B7T srt; simp [hyx]]; exact .rfl) qI
 ·
  obtain rfl : i = 2 := by simp at hc; omega
  refine D0 (te (re (be rfl ?_)))
  exact ⟨_, _, [], B5h rfl, List.Sublist.refl _, by simp, rfl, rfl, rfl⟩
theorem B2H (b : Nat) (x y n : Int) (A : Mem) : FnX Tryz.prog 119 [.slice (some ⟨b, 0, none⟩) 2 2, .int .i64 0, .int .i64 2, .int .i64 n] [(b, blk (A1s ([x, y])) 3)] A fun r M J => J = [] ∧ r = .tuple #[] ∧ M = [(b, blk (A1s (srt x y)) 3)] := by
 refine FnX.enter (N := 134) Tryz.func119 rfl rfl rfl fun w => ?_
 refine B0 (D8 0 1 2 3) (A1 (as_ (A0 (E4 0 1 2 3 8) (A1 (as_ (A0 (H3 0 1 2 3 8 9) (A4 ?_)))))))
 refine D3 (α := Unit) (fun _ => [(0, .slice (some ⟨b, 0, none⟩) 2 2), (1, .int .i64 0), (2, .int .i64 2), (3, .int .i64 n), (8, .bool true), (9, .bool true)]) (fun _ => [(b, blk (A1s ([x, y])) 3)]) (fun _ => []) (fun _ => True) (fun _ => 0) () trivial (H3 0 1 2 3 8 9) .rfl qI ?_
 rintro _ _
 refine A4 (A1 (mv_ (mv_ ?_)))
 refine A2 (N9 (a := 2) (b := 0) rfl rfl rfl rfl qO qO) rfl ?_
 refine as_ (A0 (N0 0 1 2 3 8 9 10) (A3 (A1 (mv_ ?_))))
 refine A2 (D4 (v := .bool true) rfl rfl qR) rfl ?_
 refine A0 (T6 0 1 2 3 8 9 10 23) ?_
 refine C1 rfl ?_ ?_ <;> intro hc
 ·
  refine A1 (mv_ (mv_ (mv_ ?_)))
  refine A5 rfl (E0 (Mc := [(b, blk (A1s ([x, y])) 3)]) (R := []) (aS rfl (aS rfl (aS rfl a0))) kR (.refl _) (B2G b x y _) rfl ?_)
  rintro v27 M27 J27 ⟨rfl, rfl, rfl⟩
  refine A0 kn (B4 (tr (br (rr (br ?_)))))
  exact ⟨_, _, [], B5h rfl, by first | exact List.Sublist.refl _ | simp, by simp, rfl, rfl, by first | rfl | simp⟩
 ·
  exact absurd hc qD
theorem B2I (x : Nat) (hx : x < 18446744073709551616) (A : Mem) : FnX Tryz.prog 120 [.int .u64 (x : Int)] [] A fun r M J => M = [] ∧ J = [] ∧ ∃ n : Int, r = .int .i64 n := by
 refine FnX.enter (N := 8) Tryz.func120 rfl rfl rfl fun w => ?_
 refine B0 (D7 0) (A1 (as_ (A0 (D7 0) (A3 ?_))))
 refine C1 rfl ?_ ?_ <;> intro hc
 ·
  exact absurd hc qD
 ·
  refine A6 (nx (D7 0) (A1 (mv_ ?_)))
  refine C5 (aS rfl a0) kR (A4g x hx _) rfl ?_
  rintro v7 M7 J7 ⟨rfl, rfl, n7, rfl, -⟩
  refine as_ (A0 (D7 2) (B4 ?_))
  exact ⟨_, [], [], K9 rfl rfl, by first | exact List.Sublist.refl _ | simp, by simp, rfl, rfl, _, rfl⟩
theorem A9X (b : Nat) (x y : Int) (A : Mem) : FnX Tryz.prog 100 [.slice (some ⟨b, 0, none⟩) 2 2] [(b, blk (A1s ([x, y])) 3)] A fun r M J => J = [] ∧ r = .tuple #[] ∧ M = [(b, blk (A1s (srt x y)) 3)] := by
 refine FnX.enter (N := 11) Tryz.func100 rfl rfl rfl fun w => ?_
 refine B0 (D7 0) (A1 (mv_ ?_))
 refine A2 (A0M (e := 3) rfl kR) rfl ?_
 refine as_ (A0 (D2 0 2) (A7 (mv_ (mv_ (mv_ ?_)))))
 refine A2 (N6 (k' := .u64) 2 rfl kR qR) rfl ?_
 refine C5 (aS rfl a0) kR (B2I 2 qD _) rfl ?_
 rintro v9 M9 J9 ⟨rfl, rfl, n9, rfl⟩
 refine A5 rfl (E0 (Mc := [(b, blk (A1s ([x, y])) 3)]) (R := []) (aS rfl (aS rfl (aS rfl (aS rfl a0)))) kR (.refl _) (B2H b x y _ _) rfl ?_)
 rintro v10 M10 J10 ⟨rfl, rfl, rfl⟩
 refine C0 ?_
 exact ⟨_, _, [], B5h rfl, by first | exact List.Sublist.refl _ | simp, by simp, rfl, rfl, by first | rfl | simp⟩
def agT (ts : List Tm) (s o : Int) : Tm := if 0 ≤ o then match ts[o.toNat]? with
  | some t => if t.kind = 3 ∧ t.of.length = 1 then ⟨4, srt s (t.of.getD 0 0), [], 0⟩ else ⟨4, [s, o], [], 1⟩
  | none => ⟨4, [s, o], [], 1⟩ else ⟨4, [s, o], [], 1⟩
theorem B7U {ts : List Tm} {s o : Int} (h : ¬ (0 ≤ o ∧ o < (ts.length : Int))) : agT ts s o = ⟨4, [s, o], [], 1⟩ := by
  unfold agT
  by_cases h0 : 0 ≤ o
  · rw [if_pos h0, List.getElem?_eq_none qO]
  · rw [if_neg h0]
theorem B4p {ts : List Tm} {s o : Int} {t : Tm} (h0 : 0 ≤ o) (h : ts[o.toNat]? = some t) (hk : ¬ (t.kind = 3 ∧ t.of.length = 1)) : agT ts s o = ⟨4, [s, o], [], 1⟩ := by
  unfold agT
  rw [if_pos h0, h]
  exact if_neg hk
theorem A9Y {ts : List Tm} {s o : Int} {t : Tm} (h0 : 0 ≤ o) (h : ts[o.toNat]? = some t) (hk : t.kind = 3 ∧ t.of.length = 1) : agT ts s o = ⟨4, srt s (t.of.getD 0 0), [], 0⟩ := by
  unfold agT
  rw [if_pos h0, h]
  exact if_pos hk
theorem A52 {A : Mem} {ts : List Tm} {i : Int} {c : List Value} {ok : Bool} (hts : ∀ t ∈ ts, Tmo t) (h1 : (0 ≤ i ∧ i < (ts.length : Int)) → ok = true ∧ ∃ t, ts[i.toNat]? = some t ∧ TmC A c t) (h2 : ¬ (0 ≤ i ∧ i < (ts.length : Int)) → ok = false ∧ c = tmc 0 (vS) [] 0) :
    ∃ (vo : Value) (t : Tm), c = tmc t.kind vo t.text t.n ∧ Rd A 1 vo t.of.length (A1s t.of) ∧ (∀ z ∈ t.of, i64 z) ∧ t.kind < 256 ∧ (ok = true → 0 ≤ i ∧ ts[i.toNat]? = some t) ∧ (ok = false → ¬ (0 ≤ i ∧ i < (ts.length : Int))) := by
  by_cases h : 0 ≤ i ∧ i < (ts.length : Int)
  · obtain ⟨e, t, ht, vo, hc, hr⟩ := h1 h
    have hto := hts t (List.mem_of_getElem? ht)
    exact ⟨vo, t, hc, hr, hto.of, hto.kind, fun _ => ⟨h.1, ht⟩, fun e' => by rw [e] at e'; cases e'⟩
  · obtain ⟨e, hc⟩ := h2 h
    exact ⟨vS, ⟨0, [], [], 0⟩, hc, Rd.nil, (fun z hz => by cases hz), by decide, (fun e' => by rw [e] at e'; cases e'), fun _ => h⟩
theorem A1v (x y : Int) : (srt x y).length = 2 := by unfold srt; split <;> rfl
theorem A9Z {x y z : Int} (h : z ∈ srt x y) : z = x ∨ z = y := by
  unfold srt at h
  split at h <;> simp at h <;> omega
theorem A90 {s o n : Int} {l : List Int} (hl : l.length = 2) (h : ∀ z ∈ l, i64 z) (hn : n = 0 ∨ n = 1) : Tmo ⟨4, l, [], n⟩ := ⟨show 4 < 256 by decide, show i64 n by unfold i64; omega, h, show l.length ≤ 1048576 by omega, ⟨fun x hx => (List.not_mem_nil hx).elim⟩, show 0 ≤ 1099511627776 by decide⟩
theorem A8y (bt bm : Nat) (ts : List Tm) (s o : Int) (MT A : Mem) (hT : Tab bt bm ts MT) (hn : ts.length ≤ 1048576) (hs : i64 s) (ho : i64 o) {e4 : TypeId} {f4 : Nat × Nat} (h4 : (4, Obj.cells (nums .u64 A0b).toArray e4 f4) ∈ A) : FnX Tryz.prog 84 [(vP bt), .int .i64 s, .int .i64 o] MT A fun r M J => J = [] ∧ r = .int .i64 ((at_ ts (agT ts s o) : Nat) : Int) ∧ Tab bt bm (add ts (agT ts s o)) M := by
 have hnT := hT
 obtain ⟨_, _, _, _, _, _, _, _, _, _, _, hts, hnd⟩ := hnT
 refine FnX.enter (N := 46) Tryz.func84 rfl rfl rfl fun w => ?_
 refine B0 (D6 0 1 2) (A1 (as_ (A0 (D6 0 1 2) (A3 (A1 (mv_ (mv_ ?_)))))))
 refine C5 (aS rfl (aS rfl a0)) kR (A50 bt bm ts o MT _ hT qS) rfl ?_
 rintro v13 M13 J13 ⟨rfl, rfl, c13, ok13, rfl, hg1, hg2⟩
 obtain ⟨vo, t, rfl, hvo, hz, htk, hok, hno⟩ := A52 hts hg1 hg2
 haveI := hvo.cel
 refine mv_ ?_
 refine A2 (A0T rfl) rfl ?_
 refine A2 (A0L rfl) rfl ?_
 refine A5 rfl (C4 (cs := [.int .u8 0, vS, .string ByteArray.empty, .int .i64 0]) kR rfl fun b7 => ?_)
 refine A5 rfl (A9 rfl rfl rfl kR qR (by intro c hc; simp only [List.mem_cons, List.not_mem_nil, or_false] at hc; rcases hc with rfl | rfl | rfl | rfl <;> first | rfl | exact hvo.one) UpC.upd ?_)
 refine as_ (A0 (E4 0 1 2 7 8) (A1 (mv_ (mv_ ?_))))
 refine Z6 (t := 17) rfl (fun hb => ?_) (fun hb => ?_)
 ·
  obtain ⟨h0, hget⟩ := hok hb
  refine G5 rfl rfl (OpQ.opL (qf_ 0 0) rfl ?_)
  refine G5 rfl rfl (OpQ.opL ql_ rfl ?_)
  refine G5 rfl rfl (OpQ.opL (D4 rfl rfl rfl) rfl ?_)
  refine A2 (I6 rfl rfl) rfl ?_
  refine mv_ ?_
  refine Z6 (t := 22) rfl (fun hb => ?_) (fun hb => ?_)
  ·
   have hk3 : t.kind = 3 := by simp at hb; omega
   refine G5 rfl rfl (OpQ.opL (qf_ 1 1) rfl ?_)
   refine G5 rfl rfl (OpQ.opL ql_ rfl ?_)
   refine G5 rfl rfl (OpQ.opL (G1 (sz := 1) rfl kR hvo) rfl ?_)
   refine G5 rfl rfl (OpQ.opL (D4 rfl rfl rfl) rfl ?_)
   refine A2 (I6 rfl rfl) rfl ?_
   refine A0 (E4 0 1 2 7 27) ?_
   refine C1 rfl ?_ ?_ <;> intro hc
   ·
    have h1 : t.of.length = 1 := by simp at hc; omega
    have hag := A9Y (s := s) h0 hget ⟨hk3, h1⟩
    have hz0 : i64 (t.of.getD 0 0) := hz _ (by rw [List.getD_eq_getElem?_getD, List.getElem?_eq_getElem qO]; exact List.getElem_mem _)
    generalize hzz : t.of.getD 0 0 = z0 at *
    refine A1 (mv_ ?_)
    refine A2 (qf_ 1 1) rfl ?_
    refine A2 ql_ rfl ?_
    refine A2 (I5 (sz := 1) (a := 0) rfl rfl kR rfl hvo qO) rfl ?_
    refine A2 (A0i (j := 0) (u := .int .i64 z0) (hvo.mono qS) rfl kR (by rw [← hzz, List.getD_eq_getElem?_getD, A1s, List.getElem?_map, List.getElem?_eq_getElem qO]; rfl)) rfl ?_
    refine A5 rfl (C3 (e := 3) (sz := 1) (z := [.int .i64 0, .int .i64 0]) kR (eS rfl (eS rfl e0)) (bdS 0 1 rfl qR (bdS 1 1 rfl qR bd0)) rfl fun b33 => ?_)
    refine as_ (A0 (D2 0 9) (A1 (mv_ ?_)))
    refine A5 rfl (E0 (Mc := [(b33, blk [.int .i64 s, .int .i64 z0] 3)]) (R := _) (aS rfl a0) kR qP (A9X b33 s z0 _) rfl ?_)
    rintro v35 M35 J35 ⟨rfl, rfl, rfl⟩
    refine A0 (D2 0 9) (A1 (mv_ (mv_ ?_)))
    refine A2 (G6 (place := fun x => #[(0, 1), (1, 1), (2, 1), (3, 1)][x]?) (z := [.int .u8 0, vS, .string ByteArray.empty, .int .i64 0]) (fun _ => by kernel_rfl) (eS rfl (eS rfl e0)) (bdS 0 1 rfl qR (bdS 1 1 rfl qR bd0))) rfl ?_
    refine A5 rfl (E0 (Mc := MT) (R := _) (aS rfl (aS rfl a0)) kR qP (T9 bt bm ts _ ⟨4, srt s z0, [], 0⟩ MT _ hT hn (by rw [A1v]; exact (Rd.whole (n := 2) At.mem (by first | rfl | exact (A2F _).trans (A1v _ _)))) (A90 (s := s) (o := o) (A1v _ _) (fun q hq => (A9Z hq).elim (fun e => e ▸ hs) (fun e => e ▸ hz0)) (.inl rfl)) (qS _ h4)) rfl ?_)
    rintro v39 M39 J39 ⟨rfl, rfl, hT39⟩
    refine as_ (A0 (D7 6) (B4 (tr ?_)))
    exact ⟨_, M39, [], K9 rfl rfl, by first | exact List.Sublist.refl _ | simp, by simp, rfl, by rw [hag], by rw [hag]; exact hT39⟩
   ·
    have hag := B4p (s := s) h0 hget (fun h => by have := h.2; simp at hc; omega)
    refine A6 (nx (D6 0 1 2) (A1 (mv_ (mv_ (mv_ ?_)))))
    refine A5 rfl (C3 (e := 3) (sz := 1) (z := [.int .i64 0, .int .i64 0]) kR (eS rfl (eS rfl e0)) (bdS 0 1 rfl qR (bdS 1 1 rfl qR bd0)) rfl fun b43 => ?_)
    refine A2 (G6 (place := fun x => #[(0, 1), (1, 1), (2, 1), (3, 1)][x]?) (z := [.int .u8 0, vS, .string ByteArray.empty, .int .i64 0]) (fun _ => by kernel_rfl) (eS rfl (eS rfl (eS rfl e0))) (bdS 0 1 rfl qR (bdS 1 1 rfl qR (bdS 3 1 rfl qR bd0)))) rfl ?_
    refine A5 rfl (E0 (Mc := MT) (R := _) (aS rfl (aS rfl a0)) kR qP (T9 bt bm ts _ ⟨4, [s, o], [], 1⟩ MT _ hT hn (Rd.whole (n := 2) At.mem (by first | rfl | exact (A2F _).trans (A1v _ _))) (A90 (s := s) (o := o) rfl (fun q hq => by simp at hq; rcases hq with rfl | rfl <;> assumption) (.inr rfl)) (qS _ h4)) rfl ?_)
    rintro v45 M45 J45 ⟨rfl, rfl, hT45⟩
    refine as_ (A0 (D7 6) (B4 ?_))
    exact ⟨_, M45, [], K9 rfl rfl, by first | exact List.Sublist.refl _ | simp, by simp, rfl, by rw [hag], by rw [hag]; exact hT45⟩
  ·
   have hag := B4p (s := s) h0 hget (fun h => by have := h.1; simp at hb; omega)
   refine K8 rfl rfl rfl rfl ?_
   refine K8 rfl rfl rfl rfl ?_
   refine K8 rfl rfl rfl rfl ?_
   refine K8 rfl rfl rfl rfl ?_
   refine A2 (I0 rfl rfl) rfl ?_
   refine A0 (E4 0 1 2 7 27) ?_
   refine C6 rfl ?_
   refine A6 (nx (D6 0 1 2) (A1 (mv_ (mv_ (mv_ ?_)))))
   refine A5 rfl (C3 (e := 3) (sz := 1) (z := [.int .i64 0, .int .i64 0]) kR (eS rfl (eS rfl e0)) (bdS 0 1 rfl qR (bdS 1 1 rfl qR bd0)) rfl fun b43 => ?_)
   refine A2 (G6 (place := fun x => #[(0, 1), (1, 1), (2, 1), (3, 1)][x]?) (z := [.int .u8 0, vS, .string ByteArray.empty, .int .i64 0]) (fun _ => by kernel_rfl) (eS rfl (eS rfl (eS rfl e0))) (bdS 0 1 rfl qR (bdS 1 1 rfl qR (bdS 3 1 rfl qR bd0)))) rfl ?_
   refine A5 rfl (E0 (Mc := MT) (R := _) (aS rfl (aS rfl a0)) kR qP (T9 bt bm ts _ ⟨4, [s, o], [], 1⟩ MT _ hT hn (Rd.whole (n := 2) At.mem (by first | rfl | exact (A2F _).trans (A1v _ _))) (A90 (s := s) (o := o) rfl (fun q hq => by simp at hq; rcases hq with rfl | rfl <;> assumption) (.inr rfl)) (qS _ h4)) rfl ?_)
   rintro v45 M45 J45 ⟨rfl, rfl, hT45⟩
   refine as_ (A0 (D7 6) (B4 ?_))
   exact ⟨_, M45, [], K9 rfl rfl, by first | exact List.Sublist.refl _ | simp, by simp, rfl, by rw [hag], by rw [hag]; exact hT45⟩
 ·
  have hag := B7U (s := s) (hno hb)
  refine K8 rfl rfl rfl rfl ?_
  refine K8 rfl rfl rfl rfl ?_
  refine K8 rfl rfl rfl rfl ?_
  refine A2 (I0 rfl rfl) rfl ?_
  refine mv_ ?_
  refine K8 rfl rfl rfl rfl ?_
  refine K8 rfl rfl rfl rfl ?_
  refine K8 rfl rfl rfl rfl ?_
  refine K8 rfl rfl rfl rfl ?_
  refine A2 (I0 rfl rfl) rfl ?_
  refine A0 (E4 0 1 2 7 27) ?_
  refine C6 rfl ?_
  refine A6 (nx (D6 0 1 2) (A1 (mv_ (mv_ (mv_ ?_)))))
  refine A5 rfl (C3 (e := 3) (sz := 1) (z := [.int .i64 0, .int .i64 0]) kR (eS rfl (eS rfl e0)) (bdS 0 1 rfl qR (bdS 1 1 rfl qR bd0)) rfl fun b43 => ?_)
  refine A2 (G6 (place := fun x => #[(0, 1), (1, 1), (2, 1), (3, 1)][x]?) (z := [.int .u8 0, vS, .string ByteArray.empty, .int .i64 0]) (fun _ => by kernel_rfl) (eS rfl (eS rfl (eS rfl e0))) (bdS 0 1 rfl qR (bdS 1 1 rfl qR (bdS 3 1 rfl qR bd0)))) rfl ?_
  refine A5 rfl (E0 (Mc := MT) (R := _) (aS rfl (aS rfl a0)) kR qP (T9 bt bm ts _ ⟨4, [s, o], [], 1⟩ MT _ hT hn (Rd.whole (n := 2) At.mem (by first | rfl | exact (A2F _).trans (A1v _ _))) (A90 (s := s) (o := o) rfl (fun q hq => by simp at hq; rcases hq with rfl | rfl <;> assumption) (.inr rfl)) (qS _ h4)) rfl ?_)
  rintro v45 M45 J45 ⟨rfl, rfl, hT45⟩
  refine as_ (A0 (D7 6) (B4 ?_))
  exact ⟨_, M45, [], K9 rfl rfl, by first | exact List.Sublist.refl _ | simp, by simp, rfl, by rw [hag], by rw [hag]; exact hT45⟩

end Go.Proofs.YtlilcmjbaknafaaGreatDoor
namespace Go.Px
theorem wf_u {k : IntKind} (hk : k.signed = false) {n : Int} (h : (Lit.int k n).wf = true) : 0 ≤ n ∧ n < 2 ^ k.bits := by
  cases k <;> simp_all [Lit.wf, IntKind.min, IntKind.max, IntKind.bits, IntKind.signed] <;> omega
end Go.Px

namespace Go.Px
open Go.ChangeShapes Go.WideShapes Go.ChangeAt Go.RowKit
def B2J (w : World) : Mem := (List.range w.heap.size).filterMap fun b => (w.heap[b]?).map fun o => (b, o)
theorem A1S {w : World} {b : Nat} {o : Obj} : (b, o) ∈ B2J w ↔ w.heap[b]? = some o := by
  simp only [B2J, List.mem_filterMap, List.mem_range, Option.map_eq_some_iff, Prod.mk.injEq]
  constructor
  · rintro ⟨x, _, y, h, rfl, rfl⟩; exact h
  · intro h; exact ⟨b, P7 h, o, h, rfl, rfl⟩
theorem heapA_fx (w : World) : Fx (B2J w) w := fun b o h => A1S.1 h
section
variable {H : Type} {enc : TypeId × Value → H} {P : Program} {w : World} {spare : Nat → Bool} {held : Bool} {fuel : Nat} {t e : TypeId} {cs : List Value} {x : DataW H × List MemPlace} {v : Value} {d : DataW H} {p : List MemPlace} {r : Reach} {base : Nat} {k : IntKind}
theorem A91 (hk : k.signed = false) {n : Int} (h : (Lit.int k n).wf = true) : ∃ m : Nat, n = (m : Int) ∧ m < 2 ^ k.bits := by
  obtain ⟨h1, h2⟩ := wf_u hk h
  obtain ⟨m, rfl⟩ := Int.eq_ofNat_of_zero_le h1
  refine ⟨m, rfl, ?_⟩
  have h3 : ((m : Nat) : Int) < ((2 ^ k.bits : Nat) : Int) := by simpa using h2
  exact Int.ofNat_lt.1 h3
theorem inU (ht : P.underlying t = some (.int k)) (hk : k.signed = false) (hv : Value.okWide P w r base t v) (h : DataW.Trod enc P w 0 spare held t v d p) : ∃ n : Nat, v = .int k (n : Int) ∧ n < 2 ^ k.bits := by
  obtain ⟨n, rfl⟩ := okWide_int ht hv
  obtain ⟨f, hf⟩ := h
  obtain ⟨m, h1, _, h2⟩ := DataW.trod_int ht hf
  obtain ⟨q, rfl, h3⟩ := A91 hk h2
  exact ⟨q, by simpa [Value.cells] using h1, h3⟩
end
end Go.Px

namespace Go.Px
open Go.ChangeShapes Go.WideShapes Go.ChangeAt Go.RowKit
structure Bys (R : Mem) (vs : List Value) (ls : List (List Nat)) : Prop where
  len : vs.length = ls.length
  get : ∀ (j : Nat) (w : List Nat), ls[j]? = some w → ∃ v, vs[j]? = some v ∧ Rd R 1 v w.length (nums .u8 w) ∧ (∀ x ∈ w, x < 256) ∧ w.length ≤ maxLen
theorem Bys.mono {R R' : Mem} {vs : List Value} {ls : List (List Nat)} (h : Bys R vs ls) (hR : ∀ x, x ∈ R → x ∈ R') : Bys R' vs ls := ⟨h.len, fun j w hj => by
  obtain ⟨v, h1, h2, h3, h4⟩ := h.get j w hj
  exact ⟨v, h1, h2.mono hR, h3, h4⟩⟩
theorem Bys.nil {R : Mem} : Bys R [] [] := ⟨rfl, fun j w h => by simp at h⟩
theorem Bys.cons {R : Mem} {vs : List Value} {ls : List (List Nat)} (h : Bys R vs ls) {v : Value} {w : List Nat} (hv : Rd R 1 v w.length (nums .u8 w)) (hb : ∀ x ∈ w, x < 256) (hl : w.length ≤ maxLen) : Bys R (v :: vs) (w :: ls) := ⟨by simp [h.len], fun j u hj => by
  cases j with
  | zero => simp at hj; subst hj; exact ⟨v, rfl, hv, hb, hl⟩
  | succ j => exact h.get j u hj⟩
section
variable {H : Type} {enc : TypeId × Value → H} {P : Program} {w : World} {spare : Nat → Bool} {held : Bool} {fuel : Nat} {t e e' : TypeId} {cs : List Value} {x : DataW H × List MemPlace} {v : Value} {d : DataW H} {p : List MemPlace} {r : Reach} {base : Nat}
end
end Go.Px

namespace Go.Px
section
variable {C : Cx} {Q : XQ} {l : Env} {M J B R M' : Mem} {w : World}
theorem St.freezes (h : St C (B ++ M) J w) : St C M (B ++ J) w := by
  induction B generalizing J with
  | nil => exact h
  | cons x B ih =>
    have h1 := ih (J := x :: J) (St.freeze (by simpa using h))
    refine h1.drop (List.Sublist.refl _) fun y hy => ?_
    simp only [List.cons_append, List.mem_cons, List.mem_append] at hy ⊢
    rcases hy with h | h | h <;> simp [h]
theorem St.frz (hp : M.Perm (B ++ M')) (h : St C M J w) : St C M' (B ++ J) w := (h.perm hp).freezes
theorem A0m {c : Code} (hp : M.Perm (B ++ M')) (h : XC C c Q l M' (B ++ J)) : XC C c Q l M J := fun a w ha hw => h a w ha (hw.frz hp)
theorem A53 {ops : Array Oper} {rest : List Oper} (hp : M.Perm (B ++ M')) (h : XL C ops rest Q l M' (B ++ J)) : XL C ops rest Q l M J := fun a w ha hw => h a w ha (hw.frz hp)
end
theorem FnX.frz0 {P : Program} {f : FuncId} {args : List Value} {A : Mem} {φ : Value → Mem → Prop} (h : FnX P f args [] A fun r M J => J = [] ∧ φ r M) : FnX P f args [] A fun r M J => M = [] ∧ φ r J := by
  intro w hw
  refine Calls.mono (h w hw) ?_
  rintro e w' ⟨v, M', J, rfl, ⟨rfl, hq⟩, hs⟩
  exact ⟨v, [], M', rfl, ⟨rfl, hq⟩, by have := St.frz (B := M') (M' := []) (by simp) hs; simpa using this⟩
structure By (R : Mem) (v : Value) (w : List Nat) : Prop where
  rd : Rd R 1 v w.length (nums .u8 w)
  lt : ∀ x ∈ w, x < 256
  len : w.length ≤ 16777216
theorem By.mono {R R' : Mem} {v : Value} {w : List Nat} (h : By R v w) (hR : ∀ x, x ∈ R → x ∈ R') : By R' v w := ⟨h.rd.mono hR, h.lt, h.len⟩
theorem By.b256 {R : Mem} {v : Value} {w : List Nat} (h : By R v w) : B256 w := ⟨h.lt⟩
theorem By.one {R : Mem} {v : Value} {w : List Nat} (h : By R v w) : v.oneCell' = true := h.rd.one
theorem By.cel {R : Mem} {v : Value} {w : List Nat} (h : By R v w) : Cel v [v] := h.rd.cel
theorem By.nil {R : Mem} : By R (.slice none 0 0) [] := ⟨Rd.nil, (fun x h => by cases h), by decide⟩
theorem By.max {R : Mem} {v : Value} {w : List Nat} (h : By R v w) : w.length ≤ maxLen := Nat.le_trans h.len (by unfold maxLen; omega)
structure Lst (R : Mem) (vs : List Value) (ls : List (List Nat)) : Prop where
  len : vs.length = ls.length
  get : ∀ (j : Nat) (w : List Nat), ls[j]? = some w → ∃ v, vs[j]? = some v ∧ By R v w
theorem Lst.mono {R R' : Mem} {vs : List Value} {ls : List (List Nat)} (h : Lst R vs ls) (hR : ∀ x, x ∈ R → x ∈ R') : Lst R' vs ls := ⟨h.len, fun j w hj => by
  obtain ⟨v, h1, h2⟩ := h.get j w hj
  exact ⟨v, h1, h2.mono hR⟩⟩
theorem Lst.at {R : Mem} {vs : List Value} {ls : List (List Nat)} (h : Lst R vs ls) {j : Nat} (hj : j < ls.length) : ∃ v, vs[j]? = some v ∧ By R v ls[j] := h.get j ls[j] (List.getElem?_eq_getElem hj)
theorem Lst.nil {R : Mem} : Lst R [] [] := ⟨rfl, fun j w h => by simp at h⟩
theorem Lst.cons {R : Mem} {vs : List Value} {ls : List (List Nat)} {v : Value} {w : List Nat} (hv : By R v w) (h : Lst R vs ls) : Lst R (v :: vs) (w :: ls) := ⟨by simp [h.len], fun j u hj => by
  cases j with
  | zero => simp at hj; subst hj; exact ⟨v, rfl, hv⟩
  | succ j => exact h.get j u hj⟩
theorem Lst.snoc {R : Mem} {vs : List Value} {ls : List (List Nat)} (h : Lst R vs ls) {v : Value} {w : List Nat} (hv : By R v w) : Lst R (vs ++ [v]) (ls ++ [w]) := ⟨by simp [h.len], fun j u hj => by
  by_cases hlt : j < ls.length
  · rw [List.getElem?_append_left hlt] at hj
    obtain ⟨v', h1, h2⟩ := h.get j u hj
    exact ⟨v', by rw [List.getElem?_append_left (List.getElem?_eq_some_iff.1 h1).1]; exact h1, h2⟩
  · rw [List.getElem?_append_right (by omega)] at hj
    have hj0 : j = ls.length := by
      have := (List.getElem?_eq_some_iff.1 hj).1
      simp at this; omega
    subst hj0
    simp at hj
    subst hj
    exact ⟨v, by rw [List.getElem?_append_right (by rw [h.len]; omega), h.len]; simp, hv⟩⟩
theorem Lst.one {R : Mem} {vs : List Value} {ls : List (List Nat)} (h : Lst R vs ls) : ∀ c ∈ vs, c.oneCell' = true := by
  intro c hc
  obtain ⟨j, hj⟩ := List.getElem?_of_mem hc
  have hlt := (List.getElem?_eq_some_iff.1 hj).1
  rw [h.len] at hlt
  obtain ⟨v, h1, h2⟩ := h.at hlt
  rw [hj] at h1
  cases h1
  exact h2.one
structure LsV (R : Mem) (v : Value) (ls : List (List Nat)) : Prop where
  ex : ∃ vs, Rd R 1 v ls.length vs ∧ Lst R vs ls
theorem LsV.mono {R R' : Mem} {v : Value} {ls : List (List Nat)} (h : LsV R v ls) (hR : ∀ x, x ∈ R → x ∈ R') : LsV R' v ls := by
  obtain ⟨vs, h1, h2⟩ := h.ex
  exact ⟨vs, h1.mono hR, h2.mono hR⟩
theorem LsV.nil {R : Mem} : LsV R (.slice none 0 0) [] := ⟨[], Rd.nil, Lst.nil⟩
theorem LsV.cel {R : Mem} {v : Value} {ls : List (List Nat)} (h : LsV R v ls) : Cel v [v] := by
  obtain ⟨vs, h1, _⟩ := h.ex
  exact h1.cel
section loud
variable {C : Cx} {l : Env} {M J : Mem} {K : Env → Mem → Mem → Prop} {d : Nat} {ty t e : TypeId} {pos : String} {af : Array Edge} {g : Option (Nat × Bool)} {x y : Operand}
theorem A3e {b m n : Nat} {u : Value} {k : IntKind} {ws us ws' : List Nat} {e' : TypeId} {by_ : Nat} {M' : Mem} (hx : ev l x = some (.slice (some ⟨b, 0, none⟩) m m)) (hy : ev l y = some u) (ht : A14 C.P t = some (e, 1, by_))
    (hr : Rd (M ++ (J ++ C.A)) 1 u n (nums k us)) (hm : ws.length = m) (hw' : ws' = us.take m ++ ws.drop n) (hu : Upd M b (blk (nums k ws) e') (blk (nums k ws') e') M') (hd : Nat.blt d C.N = true) (h : K ((d, .int .i64 ((min n m : Nat) : Int)) :: l) M' J) :
    OpL C ⟨some d, .call { callee := .builtin .copy, args := #[x, y], argTypes := #[t, t] }, ty, pos, af, g⟩ l M J K := by
  intro Qp a w ha hw
  obtain ⟨i, z, hut, hi, hz, hzs, his, hib⟩ := T0 ht
  obtain ⟨pu, cu, rfl, hul, huc, hub⟩ := hr
  have hru : Rd (M ++ (J ++ C.A)) 1 (.slice pu n cu) n (nums k us) := ⟨pu, cu, rfl, hul, huc, hub⟩
  have hb := hw.mem _ _ (List.mem_append_left _ hu.mem)
  have hf := A2v (P := C.P) (m := n) (c2 := cu) (hru.hi (min n m) (Nat.min_le_left _ _)) hw.fx
  have hus : us.length = n := by simpa using hul
  rw [Nat.mul_one, show (nums k us).take (min n m) = nums k (us.take (min n m)) by simp [nums]] at hf
  have hst := run_storeCells_at (P := C.P) b 0 e' (nums k (us.take (min n m))) 0 (nums k ws).toArray w hb (by simp [hus, hm]; omega) E5
  simp only [Nat.add_zero, Nat.zero_add, List.take_zero, List.nil_append, nums_len, List.length_take, hus] at hst
  rw [← A0O, ← H6] at hst
  have e1 : us.take (min n m) ++ ws.drop (min (min n m) n) = ws' := by
    rw [hw']
    rcases Nat.le_total m n with h | h
    · rw [Nat.min_eq_right h, Nat.min_eq_left h, List.drop_of_length_le (l := ws) (i := m) (by omega), List.drop_of_length_le (l := ws) (i := n) (by omega)]
    · rw [Nat.min_eq_left h, Nat.min_self, List.take_of_length_le (l := us) (i := n) (by omega), List.take_of_length_le (l := us) (i := m) (by omega)]
  rw [e1] at hst
  have hrun : (execOp a.eval ⟨some d, .call { callee := .builtin .copy, args := #[x, y], argTypes := #[t, t] }, ty, pos, af, g⟩).run C.P w = .ok (.value (.int .i64 ((min n m : Nat) : Int))) (w.setRow b (nums k ws').toArray) := by
    simp [execOp, resolve, invoke, builtin, ha.ev hx, ha.ev hy, Builtin.copy_, run_underlying hut, sizeOf, typeInfo, hi, his, Builtin.lenOf, hf, hst, goInt]
  unfold Oper.wp
  rw [hrun]
  exact ⟨_, M', J, ha.put (C8 hd) _, hw.setRow hu, h⟩
theorem A54 {sz by_ n m b o : Nat} {u : Value} {xs ys : List Value} (hx : ev l x = some (.slice (some ⟨b, o, none⟩) n n)) (hy : ev l y = some u) (ht : A14 C.P t = some (e, sz, by_)) (hsz : Nat.blt 0 sz = true)
    (hs : Rd (M ++ (J ++ C.A)) sz (.slice (some ⟨b, o, none⟩) n n) n xs) (hr : Rd (M ++ (J ++ C.A)) sz u m ys) (hm : 0 < m) (hmax : n + m ≤ maxLen) (hbytes : (n + m) * by_ ≤ 140737488355328) (hd : Nat.blt d C.N = true)
    (k : ∀ v' B', Sl sz v' (n + m) (xs ++ ys) B' → K ((d, v') :: l) (B' ++ M) J) :
    OpL C ⟨some d, .call { callee := .builtin .append, args := #[x, y], argTypes := #[t, t] }, ty, pos, af, g⟩ l M J K := by
  intro Qp a w ha hw
  obtain ⟨i, z, hu, hi, hz, hzs, his, hib⟩ := T0 ht
  obtain ⟨pu, cu, rfl, hul, huc, hub⟩ := hr
  obtain ⟨p', c', e', hxl, hcc, hxb⟩ := hs
  cases e'
  subst his; subst hib
  obtain ⟨bu, ou, csu, eu, fru, rfl, hbu, hxu⟩ : ∃ (b o : Nat) (cs : List Value) (e : TypeId) (fr : Nat × Nat), pu = some ⟨b, o, none⟩ ∧ (b, Obj.cells cs.toArray e fr) ∈ M ++ (J ++ C.A) ∧ ∀ j u, ys[j]? = some u → cs[o + j]? = some u := by
    rcases hub with h | h
    · omega
    · exact h
  have hnews : ∀ j u, ys[j]? = some u → w.cell? ((⟨bu, ou, none⟩ : Addr).add j) = some u := fun j u hj => by rw [Addr.add_mid, A1j hw.fx hbu]; simpa using hxu j u hj
  have holds : ∀ j u, xs[j]? = some u → w.cell? ((⟨b, o, none⟩ : Addr).add j) = some u := fun j u hj => by
    rcases hxb with h | ⟨b2, o2, cs2, e2, f2, h1, h2, h3⟩
    · subst h
      have : xs = [] := List.eq_nil_of_length_eq_zero (by simpa using hxl)
      subst this; simp at hj
    · cases h1
      rw [Addr.add_mid, A1j hw.fx h2]; simpa using h3 j u hj
  have hsmall : n + m ≤ 9223372036854775807 := by simp only [maxLen] at hmax; omega
  have hge := grownCap_ge w (n + m) n e
  have hcm : grownCap w (n + m) n e ≤ maxLen := grownCap_le_maxLen w (n + m) n e hmax
  have hrg := run_append_grow (P := C.P) w t ty e i z hu hi hz ⟨b, o, none⟩ n n xs hxl holds ⟨bu, ou, none⟩ m cu ys hul hnews (by omega) (by omega) (growslice_fits (by omega) hbytes)
  have hexec : (execOp a.eval ⟨some d, .call { callee := .builtin .append, args := #[x, y], argTypes := #[t, t] }, ty, pos, af, g⟩).run C.P w = .ok (.value (.slice (some ⟨w.heap.size, 0, none⟩) (n + m) (grownCap w (n + m) n e))) (w.drew.alloc (.cells (xs.toArray ++ ys.toArray ++ Builtin.zeroCells z.cells (grownCap w (n + m) n e - (n + m))) e (0, 0))) := by
    simp [execOp, resolve, invoke, builtin, ha.ev hx, ha.ev hy, hrg]
  unfold Oper.wp
  rw [hexec]
  have hsl : Sl i.size (.slice (some ⟨w.heap.size, 0, none⟩) (n + m) (grownCap w (n + m) n e)) (n + m) (xs ++ ys) [(w.heap.size, .cells (xs.toArray ++ ys.toArray ++ Builtin.zeroCells z.cells (grownCap w (n + m) n e - (n + m))) e (0, 0))] := by
    refine .inr ⟨w.heap.size, 0, _, (xs.toArray ++ ys.toArray ++ Builtin.zeroCells z.cells (grownCap w (n + m) n e - (n + m))).toList, e, rfl, by simp [blk], hge, hcm, ?_, ?_, ?_⟩
    · simp only [Array.length_toList, Array.size_append, List.size_toArray, size_zeroCells, hzs, hxl, hul, ← Nat.add_mul, Nat.zero_add]
      refine Nat.mul_le_mul_right _ ?_
      omega
    · simp [hxl, hul, Nat.add_mul]
    · intro j u hj
      have hlt : j < (xs ++ ys).length := (List.getElem?_eq_some_iff.1 hj).1
      rw [Nat.zero_add]
      simp only [Array.toList_append, List.append_assoc]
      rw [← List.append_assoc, List.getElem?_append_left (by simpa using hlt)]
      exact hj
  exact ⟨_, _, J, ha.put (C8 hd) _, St.alloc (w := w.drew) hw.drew _, k _ _ hsl⟩
end loud
def retZ (P : Program) (fn : Func) (A : Mem) (post : Value → Mem → Mem → Prop) : XQ
  | .ret, l, M, J => ∃ v M' B, Res P fn l (M ++ (J ++ A)) v ∧ Fit M (B ++ M') ∧ post v M' (B ++ J)
  | .normal, l, M, J => ∃ v M' B, Res P fn l (M ++ (J ++ A)) v ∧ Fit M (B ++ M') ∧ post v M' (B ++ J)
  | _, _, _, _ => False
theorem FnX.enterZ {P : Program} {f : FuncId} {fn : Func} {c : Code} {N : Nat} {args : List Value} {M A : Mem} {post : Value → Mem → Mem → Prop}
    (hf : P.funcs[f]? = some fn) (hb : fn.body = some c) (hn : fn.ntmps = N) (hN : Nat.ble args.length N = true)
    (h : ∀ w, XC ⟨P, w, M.map Prod.fst, A, N⟩ c (retZ P fn A post) (B7p args 0) M []) : FnX P f args M A post := by
  intro w hw
  refine calls_of_wp hf hb ?_
  have hle : args.length ≤ N := by simpa using hN
  refine Code.wp_mono ?_ (h w _ w ?_ hw.cx)
  · rintro e a' w' ⟨l, M', J, ha, hw', hq⟩
    cases e <;> first | exact hq.elim | skip
    all_goals
      obtain ⟨v, M2, B, hv, hM2, hp⟩ := hq
      exact ⟨ha.defers, v, hv N a' w' ha hw'.fx, v, M2, B ++ J, rfl, hp, (hw'.fit hM2 (fun _ h => h)).freezes.cx⟩
  · refine ⟨rfl, by simp [hn]; omega, ?_⟩
    intro i v hi
    obtain ⟨_, h2⟩ := A6B args 0 i v hi
    simp only [Nat.sub_zero] at h2
    have hlt : i < args.length := (List.getElem?_eq_some_iff.1 h2).1
    rw [Array.getElem?_append_left (by simpa using hlt)]
    simpa using h2
theorem Fit.nil {M : Mem} : Fit M ([] ++ []) := Fit.sub (List.nil_sublist _)
theorem Fit.none {M M' : Mem} (h : Fit M M') : Fit M ([] ++ M') := h
instance PickC.two {M X Y R1 R : Mem} [h1 : PickC M X R1] [h2 : PickC R1 Y R] : PickC M (X ++ Y) R := ⟨h1.perm.trans (by rw [List.append_assoc]; exact h2.perm.append_left X)⟩
instance (priority := 50) PickC.left {D M B R : Mem} [h : PickC D B R] : PickC (D ++ M) B (R ++ M) := ⟨(List.Perm.append_right M h.perm).trans (by rw [List.append_assoc])⟩
instance (priority := 60) PickC.consB {M B R1 R : Mem} {x : Nat × Obj} [h1 : PickC M [x] R1] [h2 : PickC R1 B R] : PickC M (x :: B) R := ⟨h1.perm.trans (List.Perm.cons x h2.perm)⟩
theorem uL {B B' r : Mem} {b : Nat} {o o' : Obj} (h : Upd B b o o' B') : Upd (B ++ r) b o o' (B' ++ r) := by
  induction h with
  | hd => exact .hd
  | tl _ ih => exact .tl ih
instance (priority := 50) UpC.lft {b : Nat} {o o' : Obj} {B B' r : Mem} [h : UpC B b o o' B'] : UpC (B ++ r) b o o' (B' ++ r) := ⟨uL h.upd⟩
end Go.Px

namespace Go.Proofs.YtlilcmjbaknafaaGreatDoor
open Go.Px
structure Glb (A : Mem) : Prop where
  first : ∃ e f, (0, Obj.cells (nums .u32 A2l.list).toArray e f) ∈ A
  round : ∃ e f, (1, Obj.cells (nums .u32 A1H).toArray e f) ∈ A
  pow : ∃ e f, (4, Obj.cells (nums .u64 A0b).toArray e f) ∈ A
theorem Glb.sub {A A' : Mem} (h : Glb A) (hs : ∀ x, x ∈ A → x ∈ A') : Glb A' := by
  obtain ⟨⟨a, b, c⟩, ⟨d, e, f⟩, ⟨g, h, i⟩⟩ := h
  exact ⟨⟨a, b, hs _ c⟩, ⟨d, e, hs _ f⟩, ⟨g, h, hs _ i⟩⟩
theorem Glb.up {M J A : Mem} (h : Glb A) : Glb (M ++ (J ++ A)) := h.sub fun _ h => mA h
structure Ps where
  real : Bool
  seed : LN
  n : Nat
  ts : List Tm
def md (b : Bool) : Int := if b then 0 else 1
structure Prm (pb : Nat) (s : Ps) (M : Mem) : Prop where
  ex : ∃ (sv : Value) (bt bm : Nat) (B MT : Mem), M = (pb, blk [.int .u8 (md s.real), sv, (vI s.n), (vP bt)] 105) :: (B ++ MT) ∧ By B sv s.seed ∧ Tab bt bm s.ts MT
def F7 (w : LN) (n : Nat) : LN := w.take n ++ List.replicate (n - w.length) 0
theorem K0 (w : LN) (n : Nat) : (F7 w n).length = n := by simp [F7]; omega
theorem A00 {w : LN} (h : ∀ x ∈ w, x < 256) (n : Nat) : ∀ x ∈ F7 w n, x < 256 := by
  intro x hx
  rcases List.mem_append.1 hx with h1 | h1
  · exact h x (List.mem_of_mem_take h1)
  · rw [(List.mem_replicate.1 h1).2]; decide
def A7B (n : Nat) : LN := (List.range 8).map (byt ((n : Nat) : Int))
def B85 (seed : LN) (n : Nat) : LN := U9 (A37 [] seed) ([107, 101, 121] ++ A7B n) 32
def B7h (n : Nat) : Tm := ⟨1, [], [], (n : Int)⟩
def E2 (s : Ps) : Ps := if s.real then { s with n := s.n + 1 } else { s with n := s.n + 1, ts := add s.ts (B7h (s.n + 1)) }
def G2 (s : Ps) : LN := if s.real then B85 s.seed (s.n + 1) else bts ((at_ s.ts (B7h (s.n + 1)) : Nat) : Int)
theorem A44 {s : Ps} (h : s.real = true) : E2 s = { s with n := s.n + 1 } := if_pos h
theorem A2G {s : Ps} (h : s.real = false) : E2 s = { s with n := s.n + 1, ts := add s.ts (B7h (s.n + 1)) } := if_neg (by rw [h]; decide)
theorem A2H {s : Ps} (h : s.real = true) : G2 s = B85 s.seed (s.n + 1) := if_pos h
theorem A45 {s : Ps} (h : s.real = false) : G2 s = bts ((at_ s.ts (B7h (s.n + 1)) : Nat) : Int) := if_neg (by rw [h]; decide)
theorem A92 (n : Nat) : ∀ x ∈ A7B n, x < 256 := by
  intro x hx
  obtain ⟨k, _, rfl⟩ := List.mem_map.1 hx
  exact B4n _ _
theorem A3f (key info : LN) (n : Int) : ∀ x ∈ U9 key info n, x < 256 := fun x hx => A9r _ _ _ x (List.mem_of_mem_take hx)
theorem A93 (key info : LN) (n : Int) : (U9 key info n).length ≤ n.toNat := by unfold U9; exact List.length_take_le _ _
theorem A7C {n : Nat} (h : n ≤ 1099511627776) : Tmo (B7h n) := ⟨show 1 < 256 by decide, show i64 (n : Int) by unfold i64; omega, fun i hi => (List.not_mem_nil hi).elim, show 0 ≤ 1048576 by decide, ⟨fun x hx => (List.not_mem_nil hx).elim⟩, show 0 ≤ 1099511627776 by decide⟩
theorem B7V {R : Mem} {v : Value} {i : Int} (h : Rd R 1 v 32 (nums .u8 (bts i))) : By R v (bts i) := ⟨by rw [show (bts i).length = 32 from A0w i qO]; exact h, B2E i, by rw [show (bts i).length = 32 from A0w i qO]; decide⟩
theorem Y6 (i : Int) (A : Mem) : FnX Tryz.prog 50 [.int .i64 i] [] A fun r M J => M = [] ∧ By J r (bts i) :=
  ((A8w i A).mono (post' := fun r M J => J = [] ∧ By M r (bts i)) fun v M J ⟨h1, h2⟩ => ⟨h1, B7V (h2.rd fun _ h => h)⟩).frz0
theorem A94 (r : Bool) (v : Value) (seed : LN) (A : Mem) (hv : By A v seed) : FnX Tryz.prog 24 [.int .u8 (md r), v] [] A fun q M J => ∃ pb, q = .tuple #[(vP pb), .int .i64 0] ∧ Prm pb ⟨r, seed, 0, []⟩ M := by
 haveI := hv.cel
 have hvl := hv.len
 refine FnX.enterZ (N := 18) Tryz.func24 rfl rfl rfl fun w_ => ?_
 refine B0 (D2 0 1) (A1 (as_ (as_ (A0 (D2 0 1) (A3 ?_)))))
 cases r
 ·
  refine A1 (mv_ ?_)
  refine A2 (E9 true rfl rfl (neT qD)) rfl ?_
  refine mv_ ?_
  refine G5 rfl rfl (OpQ.opL qm_ rfl ?_)
  refine G5 rfl rfl (OpQ.opL (E9 false rfl rfl (neF qR)) rfl ?_)
  refine A2 (I6 rfl rfl) rfl ?_
  refine A0 (D6 0 1 11) ?_
  refine C6 rfl ?_
  refine A6 (nx (D2 0 1) (A1 (mv_ (mv_ ?_))))
  refine A5 rfl (F9 (e := 5) (sz := 1) (by_ := 1) rfl rfl kR rfl Sl.nil (hv.rd.mono qS) E5 qP (by unfold maxLen; omega) qO rfl fun v14 B14 hs14 => ?_)
  haveI := hs14.cel
  refine C5 a0 kR (A5Z _) rfl ?_
  rintro v15 M15 J15 ⟨rfl, bt, bm, rfl, hT0⟩
  refine A2 (G6 (place := fun x => #[(0, 1), (1, 1), (2, 1), (3, 1)][x]?) (z := [.int .u8 0, vS, .int .i64 0, .pointer none]) (fun _ => by kernel_rfl) (eS rfl (eS rfl (eS rfl e0))) (bdS 0 1 rfl qR (bdS 1 1 rfl qR (bdS 3 1 rfl qR bd0)))) rfl ?_
  refine A5 rfl (bx_ fun b17 => ?_)
  refine as_ (as_ (A0 (D2 4 5) (B4 ?_)))
  refine ⟨_, (b17, _) :: (B14 ++ M15), [], A13 rfl rfl rfl, Fit.none (Fit.pick (B := [_]) qP (Fit.pick qP (Fit.last qP))), _, rfl, ⟨v14, bt, bm, B14, M15, rfl, ⟨?_, hv.lt, hv.len⟩, hT0⟩⟩
  have h := hs14.rd (R := B14) fun _ h => h
  simpa using h
 ·
  refine A1 (mv_ ?_)
  refine A2 (E9 false rfl rfl (neF qR)) rfl ?_
  refine mv_ ?_
  refine K8 rfl rfl rfl rfl ?_
  refine K8 rfl rfl rfl rfl ?_
  refine A2 (I0 rfl rfl) rfl ?_
  refine A0 (D6 0 1 11) ?_
  refine C6 rfl ?_
  refine A6 (nx (D2 0 1) (A1 (mv_ (mv_ ?_))))
  refine A5 rfl (F9 (e := 5) (sz := 1) (by_ := 1) rfl rfl kR rfl Sl.nil (hv.rd.mono qS) E5 qP (by unfold maxLen; omega) qO rfl fun v14 B14 hs14 => ?_)
  haveI := hs14.cel
  refine C5 a0 kR (A5Z _) rfl ?_
  rintro v15 M15 J15 ⟨rfl, bt, bm, rfl, hT0⟩
  refine A2 (G6 (place := fun x => #[(0, 1), (1, 1), (2, 1), (3, 1)][x]?) (z := [.int .u8 0, vS, .int .i64 0, .pointer none]) (fun _ => by kernel_rfl) (eS rfl (eS rfl (eS rfl e0))) (bdS 0 1 rfl qR (bdS 1 1 rfl qR (bdS 3 1 rfl qR bd0)))) rfl ?_
  refine A5 rfl (bx_ fun b17 => ?_)
  refine as_ (as_ (A0 (D2 4 5) (B4 ?_)))
  refine ⟨_, (b17, _) :: (B14 ++ M15), [], A13 rfl rfl rfl, Fit.none (Fit.pick (B := [_]) qP (Fit.pick qP (Fit.last qP))), _, rfl, ⟨v14, bt, bm, B14, M15, rfl, ⟨?_, hv.lt, hv.len⟩, hT0⟩⟩
  have h := hs14.rd (R := B14) fun _ h => h
  simpa using h
theorem A0x (v : Value) (w : LN) (n : Nat) (A : Mem) (hv : By A v w) (hn : n ≤ 1000) : FnX Tryz.prog 54 [v, .int .i64 (n : Int)] [] A fun q M J => M = [] ∧ By J q (F7 w n) := by
 haveI := hv.cel
 have hvl := hv.len
 refine FnX.enterZ (N := 12) Tryz.func54 rfl rfl rfl fun w_ => ?_
 refine B0 (D2 0 1) (A1 (as_ (A0 (D2 0 1) (A1 (mv_ ?_)))))
 refine A5 rfl (A0r (by_ := 1) (k := .u8) (e := 5) n rfl rfl kR rfl rfl qO qO rfl fun b7 => ?_)
 refine as_ (A0 (D2 0 5) (A1 (mv_ (mv_ ?_))))
 refine A5 rfl (A3e (e := 5) (us := w) (ws := List.replicate n 0) (ws' := F7 w n) (by_ := 1) rfl rfl kR (hv.rd.mono qS) qM (by simp [F7]) UpC.upd rfl ?_)
 refine A0 (D7 5) (A1 (mv_ (as_ (A0 (D7 4) (B4 ?_)))))
 refine ⟨_, [], [(b7, blk (nums .u8 (F7 w n)) 5)], K9 rfl rfl, Fit.eq qM, ⟨rfl, ⟨?_, A00 hv.lt n, by rw [K0]; omega⟩⟩⟩
 rw [K0]
 exact Rd.whole (n := n) qK (by simp [K0])
theorem A4l (pb : Nat) (s : Ps) (v : Value) (w : LN) (MP A : Mem) (hP : Prm pb s MP) (hn : s.ts.length ≤ 1048576) (hv : By A v w) (hG : Glb A) : FnX Tryz.prog 55 [(vP pb), v] MP A fun q M J => q = .int .i64 ((rdI s.ts w : Nat) : Int) ∧ Prm pb { s with ts := rdT s.ts w } M := by
 obtain ⟨sv, bt, bm, B, MT, rfl, hby, hT⟩ := hP.ex
 obtain ⟨⟨ge0, gf0, h0⟩, ⟨ge1, gf1, h1⟩, ⟨ge4, gf4, h4⟩⟩ := hG
 haveI := hv.cel
 have hvl := hv.len
 refine FnX.enterZ (N := 11) Tryz.func55 rfl rfl rfl fun w_ => ?_
 refine B0 (D2 0 1) (A1 (as_ (A0 (D2 0 1) (A1 (mv_ ?_)))))
 refine A2 (E6 rfl) rfl ?_
 refine A2 (qf_ 3 3) rfl ?_
 refine A2 ql_ rfl ?_
 refine mv_ ?_
 refine A5 rfl (E0 (Mc := MT) (R := _) (aS rfl (aS rfl a0)) kR qP (A51 bt bm s.ts v w MT _ hT hn (hv.rd.mono qS) hv.lt qO (mA h4)) rfl ?_)
 rintro v10 M10 J10 ⟨rfl, rfl, hT10⟩
 refine as_ (A0 (D7 4) (B4 ?_))
 exact ⟨_, (pb, blk [.int .u8 (md s.real), sv, .int .i64 (((s.n : Nat) : Int)), (vP bt)] 105) :: (B ++ M10), [], K9 rfl rfl, (Fit.none (Fit.pick (B := [_]) qP (Fit.pick qP (Fit.last qP)))), rfl, ⟨sv, bt, bm, B, M10, rfl, hby, hT10⟩⟩
theorem A05 (pb : Nat) (s : Ps) (MP A : Mem) (hP : Prm pb s MP) (hn : s.ts.length ≤ 1048576) (hk : s.n < 1099511627776) (hG : Glb A) : FnX Tryz.prog 25 [(vP pb)] MP A fun q M J => Prm pb (E2 s) M ∧ By J q (G2 s) := by
 obtain ⟨sv, bt, bm, B, MT, rfl, hby, hT⟩ := hP.ex
 obtain ⟨⟨ge0, gf0, h0⟩, ⟨ge1, gf1, h1⟩, ⟨ge4, gf4, h4⟩⟩ := hG
 haveI := hby.cel
 refine FnX.enterZ (N := 55) Tryz.func25 rfl rfl rfl fun w_ => ?_
 refine B0 (D7 0) (A1 (as_ (A0 (D7 0) (A3 (A1 (mv_ ?_))))))
 refine A2 (H7 (e := 105) rfl rfl kR) rfl ?_
 refine A0 (D2 0 6) ?_
 refine C6 rfl ?_
 refine A6 (nx (D7 0) (A1 (mv_ ?_)))
 refine A2 (E6 rfl) rfl ?_
 refine A2 (qf_ 2 2) rfl ?_
 refine A2 ql_ rfl ?_
 refine A2 (I4 (b := 1) rfl rfl rfl rfl qO) rfl ?_
 refine A2 (E6 rfl) rfl ?_
 refine A2 (qf_ 2 2) rfl ?_
 refine A5 rfl (D9 rfl rfl rfl kR SetC.set UpC.upd ?_)
 refine A0 (D7 0) (A3 (A1 (mv_ ?_)))
 refine A2 (E6 rfl) rfl ?_
 refine A2 (qf_ 0 0) rfl ?_
 refine A2 ql_ rfl ?_
 refine A2 (D4 rfl rfl rfl) rfl ?_
 refine A0 (D2 0 18) ?_
 refine C1 rfl ?_ ?_ <;> intro hc
 ·
  have hr : s.real = true := by cases hq : s.real with | true => rfl | false => rw [hq] at hc; exact absurd hc qD
  refine A1 (as_ (A0 (D2 0 3) (A3 (A1 (mv_ (A0 (D6 0 3 19) (A4 ?_)))))))
  refine D3 (α := Nat × Value × Mem) (fun x => [(0, (vP pb)), (3, x.2.1), (19, (vI x.1))]) (fun x => x.2.2 ++ ((pb, blk [.int .u8 (md s.real), sv, .int .i64 (((s.n + 1 : Nat) : Int)), (vP bt)] 105) :: (B ++ MT))) (fun _ => []) (fun x => x.1 ≤ 8 ∧ Sl 1 x.2.1 x.1 (nums .u8 ((List.range x.1).map (byt ((s.n + 1 : Nat) : Int)))) x.2.2) (fun x => 8 - x.1) ⟨0, vS, []⟩ ⟨Nat.zero_le _, Sl.nil⟩ (D6 0 3 19) .rfl qI ?_
  rintro ⟨i, v3, B3⟩ ⟨hi, hs3⟩
  dsimp only at hi hs3 ⊢
  haveI := hs3.cel
  refine A1 ?_
  refine A2 (D4 rfl rfl rfl) rfl ?_
  refine A0 (D8 0 3 19 20) (A3 ?_)
  refine C1 rfl ?_ ?_ <;> intro hc
  ·
   have hlt : i < 8 := by simp at hc; omega
   refine A6 (nx (D6 0 3 19) (A3 (A4 (A1 (mv_ (as_ (A0 (D8 0 3 4 19) (A7 ?_))))))))
   refine mv_ (mv_ ?_)
   refine A2 (E6 rfl) rfl ?_
   refine A2 (qf_ 2 2) rfl ?_
   refine A2 ql_ rfl ?_
   refine mv_ ?_
   refine A2 (A0F (a := 8) rfl rfl rfl rfl qO) rfl ?_
   refine A2 (A9T (k := i) rfl rfl rfl hlt) rfl ?_
   refine A2 (A9U rfl kR) rfl ?_
   refine A5 rfl (C3 (e := 5) (sz := 1) (z := [.int .u8 0]) kR (eS rfl e0) (bdS 0 1 rfl qR bd0) rfl fun b31 => ?_)
   refine A5 rfl (F9 (e := 5) (sz := 1) (by_ := 1) rfl rfl kR rfl (by first | assumption | exact Sl.nil) (Rd.whole (n := 1) At.mem qR) (by first | (simp [Value.oneCell']; done) | (intro c hc; simp only [List.mem_singleton] at hc; subst hc; first | exact Rd.one (by assumption) | exact Sl.one (by assumption))) qP (by unfold maxLen; omega) qO rfl fun v32 B32 hs32 => ?_)
   refine as_ (C0 (nb (nx (D6 0 3 19) (A7 ?_))))
   refine A2 (I4 (b := 1) rfl rfl rfl rfl qO) rfl ?_
   refine mv_ (C0 ?_)
   exact rn ⟨i + 1, v32, B32⟩ ⟨by dsimp only; omega, by dsimp only; rw [List.range_succ, List.map_append, H6]; exact hs32⟩ (by dsimp only; omega) (D6 0 3 19) (Fit.pick qP (Fit.pick (B := [_]) qP (Fit.last qP))) (fun _ h => by cases h)
  ·
   have hge : i = 8 := by simp at hc; omega
   subst hge
   refine D0 (te (re (be rfl (nx (D2 0 3) (A1 (mv_ ?_))))))
   refine A2 (E6 rfl) rfl ?_
   refine A2 (qf_ 1 1) rfl ?_
   refine A2 ql_ rfl ?_
   refine C5 (aS rfl (aS rfl a0)) kR ((A2n (vS) sv [] s.seed _ Rd.nil (fun x h => by cases h) qM (hby.rd.mono qS) hby.lt (by have := hby.len; omega) (mA h0) (mA h1)).frz0) rfl ?_
   rintro v38 M38 J38 ⟨rfl, h38⟩
   refine A5 rfl (C3 (e := 5) (sz := 1) (z := [zu8, zu8, zu8]) kR (eS rfl (eS rfl (eS rfl e0))) (bdS 0 1 rfl qR (bdS 1 1 rfl qR (bdS 2 1 rfl qR bd0))) rfl fun b39 => ?_)
   refine A5 rfl (A4a rfl kR UpC.upd rfl ?_)
   refine mv_ ?_
   refine A5 rfl (A54 (e := 5) (sz := 1) (by_ := 1) (xs := nums .u8 [107, 101, 121]) rfl rfl kR rfl (Rd.whole (n := 3) At.mem qR) (hs3.rd qS) qD qD qD rfl fun v42 B42 hs42 => ?_)
   have hs42 : Sl 1 v42 ([107, 101, 121] ++ A7B (s.n + 1)).length (nums .u8 ([107, 101, 121] ++ A7B (s.n + 1))) B42 := W6 hs42 (by simp [A7B]) (by rw [H6]; rfl)
   refine C5 (aS rfl (aS rfl (aS rfl a0))) kR ((A21 v38 v42 (A37 [] s.seed) ([107, 101, 121] ++ A7B (s.n + 1)) 32 _ (by rw [A0s]; exact (h38.rd qS)) (A20 _ _) (by rw [A0s]; decide) (hs42.rd qS) (fun x hx => by rcases List.mem_append.1 hx with h | h; (simp at h; omega); exact A92 _ x h) (by simp [A7B]) qD qD (mA h0) (mA h1)).frz0) rfl ?_
   rintro v43 M43 J43 ⟨rfl, h43⟩
   refine as_ (A0 (D7 2) (B4 (tr ?_)))
   exact ⟨_, (pb, blk [.int .u8 (md s.real), sv, .int .i64 (((s.n + 1 : Nat) : Int)), (vP bt)] 105) :: (B ++ MT), [], K9 rfl rfl, (Fit.none (Fit.pick (B := [_]) qP (Fit.pick qP (Fit.last qP)))), by rw [A44 hr]; exact ⟨sv, bt, bm, B, MT, rfl, hby, hT⟩, by rw [A2H hr]; exact ⟨h43.mono qS, A3f _ _ _, Nat.le_trans (A93 _ _ _) qD⟩⟩
 ·
  have hr : s.real = false := by cases hq : s.real with | false => rfl | true => rw [hq] at hc; exact absurd hc qD
  refine A6 (nx (D7 0) ?_)
  refine C9 [0, 1, 2, 3, 4, 5, 6, 7, 8, 11] (zp 0 [0, 0, 0, 1, 0, 0, 0, 1, 0, 2, 2, 0]) kR kR fun hs => ?_
  refine fm_ hs ?_
  refine C2 hs rfl (E6 rfl) rfl ?_
  refine C2 hs rfl (qf_ 3 3) rfl ?_
  refine G4 hs rfl ql_ rfl ?_
  refine fm_ hs ?_
  refine C2 hs rfl (E6 rfl) rfl ?_
  refine C2 hs rfl (qf_ 2 2) rfl ?_
  refine G4 hs rfl ql_ rfl ?_
  refine C2 hs rfl (G6 (place := fun x => #[(0, 1), (1, 1), (2, 1), (3, 1)][x]?) (z := [.int .u8 0, vS, .string ByteArray.empty, .int .i64 0]) (fun _ => by kernel_rfl) (eS rfl (eS rfl e0)) (bdS 0 1 rfl qR (bdS 3 1 rfl qR bd0))) rfl ?_
  refine F5 rfl rfl rfl (E0 (Mc := MT) (R := _) (aS rfl (aS rfl a0)) kR qP (T9 bt bm s.ts (vS) (B7h (s.n + 1)) MT _ hT hn Rd.nil (A7C qO) (mA h4)) rfl ?_)
  rintro v53 M53 J53 ⟨rfl, rfl, hT53⟩
  refine F5 rfl rfl rfl (I2 (aS rfl a0) kR (Y6 _ _) rfl ?_)
  rintro v54 M54 J54 ⟨rfl, h54⟩
  refine fa_ hs ?_
  refine E7 (D7 2) (B4 ?_)
  exact ⟨_, (pb, blk [.int .u8 (md s.real), sv, .int .i64 (((s.n + 1 : Nat) : Int)), (vP bt)] 105) :: (B ++ M53), [], K9 rfl rfl, (Fit.none (Fit.pick (B := [_]) qP (Fit.pick qP (Fit.last qP)))), by rw [A2G hr]; exact ⟨sv, bt, bm, B, M53, rfl, hby, hT53⟩, by rw [A45 hr]; exact h54.mono qS⟩

def A6x (ws : List (LN)) : LN := ws.flatMap fun w => F7 w 32
def B2K (key : LN) (ws : List (LN)) (lb : LN) (n : Nat) : LN := U9 (A37 (F7 key 32) (A6x ws)) lb ((32 * n : Nat) : Int)
def B7W (b : LN) (n : Nat) : List (LN) := (List.range n).map fun i => (b.take (32 * i + 32)).drop (32 * i)
def drv (ofs : List Int) (lb : LN) (i : Nat) : Tm := ⟨5, ofs, lb, (i : Int)⟩
def Z3 (st : List Tm × List Int) (w : LN) : List Tm × List Int := (rdT st.1 w, st.2 ++ [((rdI st.1 w : Nat) : Int)])
def U5 (ts : List Tm) (key : LN) (ws : List (LN)) : List Tm × List Int := ws.foldl Z3 (Z3 (ts, []) key)
def A8X (ofs : List Int) (lb : LN) (st : List Tm × List (LN)) (i : Nat) : List Tm × List (LN) := (add st.1 (drv ofs lb i), st.2 ++ [bts ((at_ st.1 (drv ofs lb i) : Nat) : Int)])
def L3 (ts : List Tm) (ofs : List Int) (lb : LN) (n : Nat) : List Tm × List (LN) := (List.range n).foldl (A8X ofs lb) (ts, [])
def A8z (ts : List Tm) (key : LN) (ws : List (LN)) (lb : LN) (n : Nat) : List Tm × List (LN) := L3 (U5 ts key ws).1 (U5 ts key ws).2 lb n
def A3X (s : Ps) (key : LN) (ws : List (LN)) (lb : LN) (n : Nat) : Ps := if s.real then s else { s with ts := (A8z s.ts key ws lb n).1 }
def A5v (s : Ps) (key : LN) (ws : List (LN)) (lb : LN) (n : Nat) : List (LN) := if s.real then B7W (B2K key ws lb n) n else (A8z s.ts key ws lb n).2
theorem A55 {s : Ps} {key lb : LN} {ws : List (LN)} {n : Nat} (h : s.real = true) : A3X s key ws lb n = s := if_pos h
theorem A3g {s : Ps} {key lb : LN} {ws : List (LN)} {n : Nat} (h : s.real = false) : A3X s key ws lb n = { s with ts := (A8z s.ts key ws lb n).1 } := if_neg (by rw [h]; decide)
theorem A4m {s : Ps} {key lb : LN} {ws : List (LN)} {n : Nat} (h : s.real = true) : A5v s key ws lb n = B7W (B2K key ws lb n) n := if_pos h
theorem A4n {s : Ps} {key lb : LN} {ws : List (LN)} {n : Nat} (h : s.real = false) : A5v s key ws lb n = (A8z s.ts key ws lb n).2 := if_neg (by rw [h]; decide)
theorem B5P {ws : List (LN)} (h : ∀ w ∈ ws, ∀ x ∈ w, x < 256) : ∀ x ∈ A6x ws, x < 256 := by
  intro x hx
  obtain ⟨w, hw, hx⟩ := List.mem_flatMap.1 hx
  exact A00 (h w hw) 32 x hx
theorem B2L (ws : List (LN)) : (A6x ws).length = 32 * ws.length := by
  induction ws with
  | nil => rfl
  | cons w ws ih =>
    have : A6x (w :: ws) = F7 w 32 ++ A6x ws := rfl
    rw [this, List.length_append, ih, K0, List.length_cons]; omega
theorem A95 {ws : List (LN)} {i : Nat} (h : i < ws.length) : A6x (ws.take (i + 1)) = A6x (ws.take i) ++ F7 ws[i] 32 := by
  unfold A6x
  rw [List.take_add_one, List.getElem?_eq_getElem h, List.flatMap_append]; simp
theorem A96 {α β : Type} {f : β → α → β} {b : β} {l : List α} {i : Nat} (h : i < l.length) : (l.take (i + 1)).foldl f b = f ((l.take i).foldl f b) l[i] := by
  rw [List.take_add_one, List.getElem?_eq_getElem h, List.foldl_append]; rfl
theorem N5 {β : Type} {f : β → Nat → β} {b : β} (i : Nat) : (List.range (i + 1)).foldl f b = f ((List.range i).foldl f b) i := by
  rw [List.range_succ, List.foldl_append]; rfl
theorem B4q {ts : List Tm} {w : LN} (hw : ∀ x ∈ w, x < 256) (hl : w.length ≤ 1099511627776) (hts : ∀ t ∈ ts, Tmo t) : rdI ts w < (rdT ts w).length := by
  cases hp : plc w ts.length with
  | some j =>
    obtain ⟨h1, h2⟩ := V7 hp
    rw [h1, h2]; exact (A9V hp).1
  | none =>
    obtain ⟨h1, h2⟩ := X5 hp
    rw [h1, h2]
    cases hq : pos ts (B4o w) with
    | some j =>
      obtain ⟨h3, h4⟩ := A43 hq
      rw [h3, h4]
      exact (List.getElem?_eq_some_iff.1 (A40 (A3d hw hl) hts hq)).1
    | none =>
      obtain ⟨h3, h4⟩ := A7A hq
      rw [h3, h4]; simp
theorem B5Q {ts : List Tm} {w : LN} (hw : ∀ x ∈ w, x < 256) (hl : w.length ≤ 1099511627776) (hts : ∀ t ∈ ts, Tmo t) : ∀ t ∈ rdT ts w, Tmo t := by
  cases hp : plc w ts.length with
  | some j => rw [(V7 hp).1]; exact hts
  | none =>
    rw [(X5 hp).1]
    unfold add
    split
    · exact hts
    · intro t ht
      rcases List.mem_append.1 ht with h | h
      · exact hts t h
      · rw [List.mem_singleton.1 h]; exact A3d hw hl
theorem B4r {ofs : List Int} {lb : LN} {i : Nat} (ho : ∀ x ∈ ofs, i64 x) (hl : ofs.length ≤ 1048576) (hb : B256 lb) (hbl : lb.length ≤ 1099511627776) (hi : i ≤ 100) : Tmo (drv ofs lb i) := ⟨show 5 < 256 by decide, show i64 (i : Int) by unfold i64; omega, ho, hl, hb, hbl⟩
structure RdOk (n0 k : Nat) (st : List Tm × List Int) : Prop where
  len : st.1.length ≤ n0 + k
  ofl : st.2.length = k
  of : ∀ x ∈ st.2, 0 ≤ x ∧ x < (st.1.length : Int)
  tmo : ∀ t ∈ st.1, Tmo t
theorem A97 {ts : List Tm} {w : LN} : ts.length ≤ (rdT ts w).length := by
  cases hp : plc w ts.length with
  | some j => rw [(V7 hp).1]; exact Nat.le_refl _
  | none =>
    rw [(X5 hp).1]
    unfold add
    split <;> simp
theorem RdOk.step {n0 k : Nat} {st : List Tm × List Int} (h : RdOk n0 k st) {w : LN} (hw : ∀ x ∈ w, x < 256) (hl : w.length ≤ 1099511627776) : RdOk n0 (k + 1) (Z3 st w) := by
  refine ⟨?_, by simp [Z3, h.ofl], ?_, B5Q hw hl h.tmo⟩
  · have := U0 (ts := st.1) (ws := w)
    have := h.len
    show (rdT st.1 w).length ≤ _
    omega
  · intro x hx
    have hge := A97 (ts := st.1) (w := w)
    have hlt := B4q (ts := st.1) hw hl h.tmo
    show 0 ≤ x ∧ x < (((rdT st.1 w).length : Nat) : Int)
    rcases List.mem_append.1 hx with h1 | h1
    · have := h.of x h1; omega
    · rw [List.mem_singleton.1 h1]; omega
theorem A46 (b : LN) (n : Nat) : (B7W b n).length = n := by simp [B7W]
theorem A01 (ts : List Tm) (ofs : List Int) (lb : LN) (n : Nat) : (L3 ts ofs lb n).2.length = n ∧ (L3 ts ofs lb n).1.length ≤ ts.length + n := by
  induction n with
  | zero => exact ⟨rfl, Nat.le_refl _⟩
  | succ n ih =>
    have e : L3 ts ofs lb (n + 1) = A8X ofs lb (L3 ts ofs lb n) n := N5 n
    rw [e]
    refine ⟨by simp [A8X, ih.1], ?_⟩
    have := A1t (ts := (L3 ts ofs lb n).1) (t := drv ofs lb n)
    show (add _ _).length ≤ _
    omega
theorem A7D (key : LN) (ws : List (LN)) (lb : LN) {n : Nat} (hn : n ≤ 8) : (B2K key ws lb n).length = 32 * n := by
  unfold B2K
  rw [A16]
  omega
theorem A98 (l : List Int) (x : Int) : A1s (l ++ [x]) = A1s l ++ [.int .i64 x] := by simp [A1s]
theorem A3h (pb : Nat) (s : Ps) (kv wv : Value) (key lb : LN) (ws : List (LN)) (n : Nat) (MP A : Mem) (hP : Prm pb s MP) (hk : By A kv key) (hw : LsV A wv ws) (hwn : ws.length ≤ 1000) (hlb : B256 lb) (hll : lb.length ≤ 1000) (hn0 : 1 ≤ n) (hn8 : n ≤ 8) (hn : s.ts.length ≤ 1040000) (hG : Glb A) : FnX Tryz.prog 63 [(vP pb), kv, wv, .string (txt lb), .int .i64 (n : Int)] MP A fun q M J => Prm pb (A3X s key ws lb n) M ∧ LsV J q (A5v s key ws lb n) := by
 obtain ⟨sv, bt, bm, B, MT, rfl, hby, hT⟩ := hP.ex
 have hGG := hG
 obtain ⟨⟨ge0, gf0, h0⟩, ⟨ge1, gf1, h1⟩, ⟨ge4, gf4, h4⟩⟩ := hGG
 haveI := hby.cel
 haveI := hk.cel
 obtain ⟨wvs, hwr, hwl⟩ := hw.ex
 haveI := hwr.cel
 have hw256 : ∀ w ∈ ws, ∀ x ∈ w, x < 256 := fun w hw => by
  obtain ⟨j, hj⟩ := List.getElem?_of_mem hw
  obtain ⟨v, _, h⟩ := hwl.get j w hj
  exact h.lt
 have hTmo : ∀ t ∈ s.ts, Tmo t := by
  obtain ⟨_, _, _, _, _, _, _, _, _, _, _, h, _⟩ := hT
  exact h
 refine FnX.enterZ (N := 108) Tryz.func63 rfl rfl rfl fun w_ => ?_
 refine B0 (E4 0 1 2 3 4) (A1 (as_ (A0 (E4 0 1 2 3 4) (A1 (as_ (A0 (H3 0 1 2 3 4 11) (A3 ?_)))))))
 refine A1 (mv_ ?_)
 refine A2 (H7 (e := 105) rfl rfl kR) rfl ?_
 refine mv_ ?_
 refine G5 rfl rfl (OpQ.opL qm_ rfl ?_)
 refine G5 rfl rfl (OpQ.opL (E9 false rfl rfl (ltF qO)) rfl ?_)
 refine A2 (I0 rfl rfl) rfl ?_
 refine A0 (N0 0 1 2 3 4 11 26) ?_
 refine C6 rfl ?_
 refine A6 (nx (H3 0 1 2 3 4 11) (A3 (A1 (mv_ ?_))))
 refine A2 (E6 rfl) rfl ?_
 refine A2 (qf_ 0 0) rfl ?_
 refine A2 ql_ rfl ?_
 refine A2 (D4 rfl rfl rfl) rfl ?_
 refine A0 (N0 0 1 2 3 4 11 32) ?_
 refine C1 rfl ?_ ?_ <;> intro hc
 ·
  have hr : s.real = true := by cases hq : s.real with | true => rfl | false => rw [hq] at hc; exact absurd hc qD
  refine A1 (as_ (A0 (H3 1 2 3 4 11 12) (A3 (A1 (mv_ ?_)))))
  refine A2 (G1 (sz := 1) rfl kR hwr) rfl ?_
  refine mv_ (A0 (T6 1 3 4 11 12 33 34 35) (A4 ?_))
  refine D3 (α := Nat × Value × Mem × Mem) (fun x => [(1, kv), (3, .string (txt lb)), (4, .int .i64 (n : Int)), (11, vS), (12, x.2.1), (33, wv), (34, (vI ws.length)), (35, (vI x.1))]) (fun x => x.2.2.1 ++ ((pb, blk [.int .u8 (md s.real), sv, .int .i64 (((s.n : Nat) : Int)), (vP bt)] 105) :: (B ++ MT))) (fun x => x.2.2.2) (fun x => x.1 ≤ ws.length ∧ Sl 1 x.2.1 (A6x (ws.take x.1)).length (nums .u8 (A6x (ws.take x.1))) x.2.2.1) (fun x => ws.length - x.1) ⟨0, vS, [], []⟩ ⟨Nat.zero_le _, Sl.nil⟩ (T6 1 3 4 11 12 33 34 35) .rfl qI ?_
  rintro ⟨i, v12, B12, J12⟩ ⟨hi, hs12⟩
  dsimp only at hi hs12 ⊢
  haveI := hs12.cel
  have hfl := B2L (ws.take i)
  rw [List.length_take] at hfl
  refine A1 ?_
  refine A2 (D4 rfl rfl rfl) rfl ?_
  refine A0 (Z7 1 3 4 11 12 33 34 35 36) (A3 ?_)
  refine C1 rfl ?_ ?_ <;> intro hc
  ·
   have hlt : i < ws.length := by simp at hc; omega
   obtain ⟨v, hvi, hvb⟩ := hwl.at hlt
   haveI := hvb.cel
   have hft := A95 hlt
   refine A6 (nx (T6 1 3 4 11 12 33 34 35) (A3 (A4 (A1 ?_))))
   refine A2 (I5 (sz := 1) rfl rfl kR rfl hwr hlt) rfl ?_
   refine A2 (A0i (u := v) (hwr.mono qS) rfl kR hvi) rfl ?_
   refine as_ (A0 (Z7 1 3 4 11 12 14 33 34 35) (A7 (mv_ (mv_ ?_))))
   refine C5 (aS rfl (aS rfl a0)) kR (A0x v ws[i] 32 _ (hvb.mono qS) qD) rfl ?_
   rintro v41 M41 J41 ⟨rfl, hb41⟩
   have hb41r := hb41.rd
   rw [K0] at hb41r
   refine A5 rfl (F9 (e := 5) (sz := 1) (by_ := 1) rfl rfl kR rfl hs12 (hb41r.mono qS) E5 qP (by unfold maxLen; omega) qO rfl fun v42 B42 hs42 => ?_)
   refine as_ (C0 (nb (nx (T6 1 3 4 11 12 33 34 35) (A7 ?_))))
   refine A2 (I4 (b := 1) rfl rfl rfl rfl qO) rfl ?_
   refine mv_ (C0 ?_)
   exact rn ⟨i + 1, v42, B42, _⟩ ⟨by dsimp only; omega, W6 hs42 (by dsimp only; rw [hft, List.length_append, K0]) (by dsimp only; rw [hft, H6])⟩ (by dsimp only; omega) (T6 1 3 4 11 12 33 34 35) (Fit.pick qP (Fit.pick (B := [_]) qP (Fit.pick qP (Fit.last qP)))) qI
  ·
   have hge : i = ws.length := by simp at hc; omega
   subst hge
   rw [List.take_length] at hs12 hfl
   refine D0 (te (re (be rfl (nx (E4 1 3 4 11 12) (A1 (mv_ ?_))))))
   refine C5 (aS rfl (aS rfl a0)) kR (A0x kv key 32 _ (hk.mono qS) qD) rfl ?_
   rintro v45 M45 J45 ⟨rfl, hb45⟩
   refine mv_ ?_
   refine C5 (aS rfl (aS rfl a0)) kR ((A2n v45 v12 (F7 key 32) (A6x ws) _ (hb45.rd.mono qS) hb45.lt (by rw [K0]; decide) (hs12.rd qS) (B5P hw256) qO (mA h0) (mA h1)).frz0) rfl ?_
   rintro v47 M47 J47 ⟨rfl, h47⟩
   refine mv_ ?_
   refine A5 rfl (A0U (e := 5) rfl rfl hlb.lt kR kR kR rfl fun v49 B49 hs49 => ?_)
   refine A53 (B := B49) qP ?_
   refine mv_ ?_
   refine A2 (A36 (n : Int) rfl rfl (by split <;> omega)) rfl ?_
   refine A2 (A0F (a := 32) rfl rfl rfl rfl qO) rfl ?_
   refine C5 (aS rfl (aS rfl (aS rfl a0))) kR ((A21 v47 v49 (A37 (F7 key 32) (A6x ws)) lb ((32 * n : Nat) : Int) _ (by rw [A0s]; exact (h47.rd qS)) (A20 _ _) (by rw [A0s]; decide) (hs49.mono qS) hlb.lt qO qO qO (mA h0) (mA h1)).frz0) rfl ?_
   rintro v53 M53 J53 ⟨rfl, h53⟩
   have hbl := A7D key ws lb hn8
   change Rd J53 1 v53 (B2K key ws lb n).length (nums .u8 (B2K key ws lb n)) at h53
   rw [hbl] at h53
   haveI := h53.cel
   have hb256 : ∀ x ∈ B2K key ws lb n, x < 256 := A3f _ _ _
   generalize hbigE : B2K key ws lb n = big at *
   refine as_ (A0 (D6 4 11 15) (A3 (A1 (mv_ ?_))))
   refine A2 (A36 (n : Int) rfl rfl (by split <;> omega)) rfl ?_
   refine mv_ (A0 (D8 11 15 55 56) (A4 ?_))
   refine D3 (α := Nat × Value × List Value × Mem) (fun x => [(11, x.2.1), (15, v53), (55, .int .i64 (n : Int)), (56, (vI x.1))]) (fun x => x.2.2.2 ++ ((pb, blk [.int .u8 (md s.real), sv, .int .i64 (((s.n : Nat) : Int)), (vP bt)] 105) :: (B ++ MT))) (fun _ => J53) (fun x => x.1 ≤ n ∧ Sl 1 x.2.1 x.1 x.2.2.1 x.2.2.2 ∧ Lst J53 x.2.2.1 ((List.range x.1).map fun i => (big.take (32 * i + 32)).drop (32 * i))) (fun x => n - x.1) ⟨0, vS, [], []⟩ ⟨Nat.zero_le _, Sl.nil, Lst.nil⟩ (D8 11 15 55 56) (Fit.none (Fit.pick (B := [_]) qP (Fit.pick qP (Fit.last qP)))) (fun x hx => qS x hx) ?_
   rintro ⟨i, v11, vs11, B11⟩ ⟨hi, hs11, hl11⟩
   dsimp only at hi hs11 hl11 ⊢
   haveI := hs11.cel
   refine A1 ?_
   refine A2 (D4 rfl rfl rfl) rfl ?_
   refine A0 (E4 11 15 55 56 57) (A3 ?_)
   refine C1 rfl ?_ ?_ <;> intro hc
   ·
    have hlt : i < n := by simp at hc; omega
    refine A6 (nx (D8 11 15 55 56) (A3 (A4 (A1 (mv_ (as_ (A0 (E4 11 15 16 55 56) (A7 ?_))))))))
    refine mv_ (mv_ (mv_ ?_))
    refine A2 (A0F (a := 32) rfl rfl rfl rfl qO) rfl ?_
    refine mv_ ?_
    refine A2 (A0F (a := 32) rfl rfl rfl rfl qO) rfl ?_
    refine A2 (I4 (b := 32) rfl rfl rfl rfl qO) rfl ?_
    refine A2 (B7C (sz := 1) (a := 32 * i) (b := 32 * i + 32) rfl rfl rfl kR rfl rfl h53 qO qO) rfl ?_
    have hpt := (h53.hiV (32 * i + 32) qO).loV (32 * i) qO
    rw [Nat.mul_one, Nat.mul_one, ← A1G, ← A0O] at hpt
    generalize vLo (32 * i) 1 (vHi (32 * i + 32) v53) = vp at *
    haveI := hpt.cel
    have hpb : By J53 vp ((big.take (32 * i + 32)).drop (32 * i)) := ⟨by rw [List.length_drop, List.length_take, hbl, Nat.min_eq_left qO]; exact hpt, fun x hx => hb256 x (List.mem_of_mem_take (List.mem_of_mem_drop hx)), by rw [List.length_drop, List.length_take, hbl]; omega⟩
    refine A5 rfl (C3 (e := 26) (sz := 1) (z := [vS]) kR (eS rfl e0) (bdS 0 1 rfl qR bd0) rfl fun b67 => ?_)
    refine A5 rfl (F9 (e := 26) (sz := 1) (by_ := 24) rfl rfl kR rfl hs11 (Rd.whole (n := 1) At.mem qR) (by intro c hc; rw [List.mem_singleton.1 hc]; exact hpt.one) qP (by unfold maxLen; omega) qO rfl fun v68 B68 hs68 => ?_)
    refine as_ (C0 (nb (nx (D8 11 15 55 56) (A7 ?_))))
    refine A2 (I4 (b := 1) rfl rfl rfl rfl qO) rfl ?_
    refine mv_ (C0 ?_)
    exact rn ⟨i + 1, v68, vs11 ++ [vp], B68⟩ ⟨by dsimp only; omega, hs68, by dsimp only; rw [List.range_succ, List.map_append]; exact hl11.snoc hpb⟩ (by dsimp only; omega) (D8 11 15 55 56) (Fit.pick qP (Fit.pick (B := [_]) qP (Fit.pick qP (Fit.last qP)))) (fun x hx => qS x hx)
   ·
    have hge : i = n := by simp at hc; omega
    subst hge
    refine D0 (te (re (be rfl (nx (D7 11) (A1 (mv_ (as_ (A0 (D7 10) ?_))))))))
    refine B4 (tr ?_)
    exact ⟨_, (pb, blk [.int .u8 (md s.real), sv, .int .i64 (((s.n : Nat) : Int)), (vP bt)] 105) :: (B ++ MT), B11, K9 rfl rfl, (Fit.pick qP (Fit.pick (B := [_]) qP (Fit.pick qP (Fit.last qP)))), by rw [A55 hr]; exact ⟨sv, bt, bm, B, MT, rfl, hby, hT⟩, by rw [A4m hr, hbigE]; exact ⟨vs11, by rw [A46]; exact hs11.rd qS, hl11.mono qS⟩⟩
 ·
  have hr : s.real = false := by cases hq : s.real with | false => rfl | true => rw [hq] at hc; exact absurd hc qD
  refine A6 (nx (H3 0 1 2 3 4 11) (A1 (mv_ (mv_ ?_))))
  refine A5 rfl (E0 (Mc := (pb, blk [.int .u8 (md s.real), sv, .int .i64 (((s.n : Nat) : Int)), (vP bt)] 105) :: (B ++ MT)) (R := _) (aS rfl (aS rfl a0)) kR qP (A4l pb s kv key _ _ hP qO (hk.mono qS) hG.up) rfl ?_)
  rintro v73 M73 J73 ⟨rfl, hP73⟩
  have hst0 : RdOk s.ts.length 0 (s.ts, []) := ⟨Nat.le_refl _, rfl, (fun x hx => by cases hx), hTmo⟩
  have hst := hst0.step hk.lt (by have := hk.len; omega)
  refine A5 rfl (C3 (e := 3) (sz := 1) (z := [.int .i64 0]) kR (eS rfl e0) (bdS 0 1 rfl qR bd0) rfl fun b74 => ?_)
  refine as_ (A0 (H3 0 2 3 4 11 17) (A3 (A1 (mv_ ?_))))
  refine A2 (G1 (sz := 1) rfl kR hwr) rfl ?_
  refine mv_ (A0 (T6 0 3 4 11 17 75 76 77) (A4 ?_))
  refine D3 (α := Nat × Value × Mem × Mem) (fun x => [(0, (vP pb)), (3, .string (txt lb)), (4, .int .i64 (n : Int)), (11, vS), (17, x.2.1), (75, wv), (76, (vI ws.length)), (77, (vI x.1))]) (fun x => x.2.2.1 ++ x.2.2.2) (fun x => []) (fun x => x.1 ≤ ws.length ∧ RdOk s.ts.length (1 + x.1) ((ws.take x.1).foldl Z3 (Z3 (s.ts, []) key)) ∧ Sl 1 x.2.1 (1 + x.1) (A1s ((ws.take x.1).foldl Z3 (Z3 (s.ts, []) key)).2) x.2.2.1 ∧ Prm pb { s with ts := ((ws.take x.1).foldl Z3 (Z3 (s.ts, []) key)).1 } x.2.2.2) (fun x => ws.length - x.1) ⟨0, .slice (some ⟨b74, 0, none⟩) 1 1, [(b74, _)], M73⟩ ⟨Nat.zero_le _, hst, Sl.fresh (n := 1) (sz := 1) (cs := A1s [((rdI s.ts key : Nat) : Int)]) (e := 3) qR qD, hP73⟩ (T6 0 3 4 11 17 75 76 77) (Fit.pick (B := [(b74, blk [.int .i64 ((rdI s.ts key : Nat) : Int)] 3)]) qP (Fit.last (B := M73) qP)) (fun _ h => by cases h) ?_
  rintro ⟨i, v17, B17, MR⟩ ⟨hi, hok, hs17, hPR⟩
  dsimp only at hi hok hs17 hPR ⊢
  haveI := hs17.cel
  refine A1 ?_
  refine A2 (D4 rfl rfl rfl) rfl ?_
  refine A0 (Z7 0 3 4 11 17 75 76 77 78) (A3 ?_)
  refine C1 rfl ?_ ?_ <;> intro hc
  ·
   have hlt : i < ws.length := by simp at hc; omega
   obtain ⟨v, hvi, hvb⟩ := hwl.at hlt
   haveI := hvb.cel
   have hft := A96 (f := Z3) (b := Z3 (s.ts, []) key) hlt
   have hok2 := hok.step hvb.lt (by have := hvb.len; omega)
   rw [← hft] at hok2
   have hokl := hok.len
   refine A6 (nx (T6 0 3 4 11 17 75 76 77) (A3 (A4 (A1 ?_))))
   refine A2 (I5 (sz := 1) rfl rfl kR rfl hwr hlt) rfl ?_
   refine A2 (A0i (u := v) (hwr.mono qS) rfl kR hvi) rfl ?_
   refine as_ (A0 (Z7 0 3 4 11 17 19 75 76 77) (A7 (mv_ (mv_ (mv_ ?_)))))
   refine A5 rfl (E0 (Mc := MR) (R := _) (aS rfl (aS rfl a0)) kR qP (A4l pb _ v ws[i] _ _ hPR (by dsimp only; omega) (hvb.mono qS) hG.up) rfl ?_)
   rintro v84 M84 J84 ⟨rfl, hP84⟩
   refine A5 rfl (C3 (e := 3) (sz := 1) (z := [.int .i64 0]) kR (eS rfl e0) (bdS 0 1 rfl qR bd0) rfl fun b85 => ?_)
   refine A5 rfl (F9 (e := 3) (sz := 1) (by_ := 8) rfl rfl kR rfl hs17 (Rd.whole (n := 1) At.mem qR) (by simp [Value.oneCell']) qP (by unfold maxLen; omega) qO rfl fun v86 B86 hs86 => ?_)
   refine as_ (C0 (nb (nx (T6 0 3 4 11 17 75 76 77) (A7 ?_))))
   refine A2 (I4 (b := 1) rfl rfl rfl rfl qO) rfl ?_
   refine mv_ (C0 ?_)
   exact rn ⟨i + 1, v86, B86, M84⟩ ⟨by dsimp only; omega, hok2, (by dsimp only; rw [hft, show Z3 _ ws[i] = (_, _ ++ [_]) from rfl]; dsimp only; rw [A98]; exact hs86), (by dsimp only; rw [hft]; exact hP84)⟩ (by dsimp only; omega) (T6 0 3 4 11 17 75 76 77) (Fit.pick qP (Fit.last qP)) (fun _ h => by cases h)
  ·
   have hge : i = ws.length := by simp at hc; omega
   subst hge
   rw [List.take_length] at hok hs17 hPR
   change RdOk _ _ (U5 s.ts key ws) at hok
   change Sl _ _ _ (A1s (U5 s.ts key ws).2) _ at hs17
   change Prm _ { s with ts := (U5 s.ts key ws).1 } _ at hPR
   refine D0 (te (re (be rfl (nx (E4 0 3 4 11 17) (A3 (A1 (mv_ ?_)))))))
   refine A2 (A36 (n : Int) rfl rfl (by split <;> omega)) rfl ?_
   refine mv_ (A0 (H3 0 3 11 17 89 90) (A4 ?_))
   have hokl := hok.len
   have hokf := hok.ofl
   have hoki : ∀ x ∈ (U5 s.ts key ws).2, i64 x := fun x hx => by have := hok.of x hx; unfold i64; omega
   generalize hra : (U5 s.ts key ws).1 = tr at *
   generalize hof : (U5 s.ts key ws).2 = ofs at *
   refine D3 (α := Nat × Value × List Value × Mem × Mem × Mem) (fun x => [(0, (vP pb)), (3, .string (txt lb)), (11, x.2.1), (17, v17), (89, .int .i64 (n : Int)), (90, (vI x.1))]) (fun x => x.2.2.2.1 ++ (B17 ++ x.2.2.2.2.1)) (fun x => x.2.2.2.2.2) (fun x => x.1 ≤ n ∧ Sl 1 x.2.1 x.1 x.2.2.1 x.2.2.2.1 ∧ Lst x.2.2.2.2.2 x.2.2.1 (L3 tr ofs lb x.1).2 ∧ Prm pb { s with ts := (L3 tr ofs lb x.1).1 } x.2.2.2.2.1) (fun x => n - x.1) ⟨0, vS, [], [], MR, []⟩ ⟨Nat.zero_le _, Sl.nil, Lst.nil, hPR⟩ (H3 0 3 11 17 89 90) .rfl (fun _ h => by cases h) ?_
   rintro ⟨i, v11, vs11, B11, MQ, JQ⟩ ⟨hi, hs11, hl11, hPQ⟩
   dsimp only at hi hs11 hl11 hPQ ⊢
   haveI := hs11.cel
   obtain ⟨hpl2, hpl1⟩ := A01 tr ofs lb i
   refine A1 ?_
   refine A2 (D4 rfl rfl rfl) rfl ?_
   refine A0 (N0 0 3 11 17 89 90 91) (A3 ?_)
   refine C1 rfl ?_ ?_ <;> intro hc
   ·
    have hlt : i < n := by simp at hc; omega
    obtain ⟨sv2, bt2, bm2, B2, MT2, rfl, hby2, hT2⟩ := hPQ.ex
    dsimp only at hpl1 hT2 hby2 ⊢
    have hor := hs17.rd (R := B17) fun _ h => h
    rw [hokf.symm] at hor
    have hor : Rd B17 1 v17 ofs.length (A1s ofs) := A0H hor qO rfl
    refine A6 (nx (H3 0 3 11 17 89 90) (A3 (A4 (A1 (mv_ (as_ (A0 (N0 0 3 11 17 20 89 90) (A7 ?_))))))))
    refine mv_ (mv_ ?_)
    refine A2 (E6 rfl) rfl ?_
    refine A2 (qf_ 3 3) rfl ?_
    refine A2 ql_ rfl ?_
    refine mv_ (mv_ (mv_ ?_))
    refine A2 (G6 (place := fun x => #[(0, 1), (1, 1), (2, 1), (3, 1)][x]?) (z := [.int .u8 0, vS, .string ByteArray.empty, .int .i64 0]) (fun _ => by kernel_rfl) (eS rfl (eS rfl (eS rfl (eS rfl e0)))) (bdS 0 1 rfl qR (bdS 1 1 rfl qR (bdS 2 1 rfl qR (bdS 3 1 rfl qR bd0))))) rfl ?_
    refine A5 rfl (E0 (Mc := MT2) (R := _) (aS rfl (aS rfl a0)) kR qP (T9 bt2 bm2 (L3 tr ofs lb i).1 v17 (drv ofs lb i) MT2 _ hT2 qO (hor.mono qS) (B4r hoki qO hlb qO qO) (mA h4)) rfl ?_)
    rintro v102 M102 J102 ⟨rfl, rfl, hT102⟩
    refine C5 (aS rfl a0) kR (Y6 _ _) rfl ?_
    rintro v103 M103 J103 ⟨rfl, hb103⟩
    haveI := hb103.cel
    refine A5 rfl (C3 (e := 26) (sz := 1) (z := [vS]) kR (eS rfl e0) (bdS 0 1 rfl qR bd0) rfl fun b104 => ?_)
    refine A5 rfl (F9 (e := 26) (sz := 1) (by_ := 24) rfl rfl kR rfl hs11 (Rd.whole (n := 1) At.mem qR) (by intro c hc; rw [List.mem_singleton.1 hc]; exact hb103.one) qP (by unfold maxLen; omega) qO rfl fun v105 B105 hs105 => ?_)
    refine as_ (C0 (nb (nx (H3 0 3 11 17 89 90) (A7 ?_))))
    refine A2 (I4 (b := 1) rfl rfl rfl rfl qO) rfl ?_
    refine mv_ (C0 ?_)
    exact rn ⟨i + 1, v105, vs11 ++ [v103], B105, (pb, blk [.int .u8 (md s.real), sv2, .int .i64 (((s.n : Nat) : Int)), (vP bt2)] 105) :: (B2 ++ M102), J103 ++ JQ⟩ ⟨by dsimp only; omega, hs105, (by dsimp only; rw [show L3 tr ofs lb (i + 1) = A8X ofs lb (L3 tr ofs lb i) i from N5 i]; exact (hl11.mono qS).snoc (hb103.mono qS)), (by dsimp only; rw [show L3 tr ofs lb (i + 1) = A8X ofs lb (L3 tr ofs lb i) i from N5 i]; exact ⟨sv2, bt2, bm2, B2, M102, rfl, hby2, hT102⟩)⟩ (by dsimp only; omega) (H3 0 3 11 17 89 90) (Fit.pick qP (Fit.pick qP (Fit.pick (B := [_]) qP (Fit.pick qP (Fit.last qP))))) qI
   ·
    have hge : i = n := by simp at hc; omega
    subst hge
    refine D0 (te (re (be rfl (nx (D7 11) (A1 (mv_ (as_ (A0 (D7 10) ?_))))))))
    refine B4 ?_
    exact ⟨_, MQ, B11, K9 rfl rfl, (Fit.pick qP (Fit.last qP)), by rw [A3g hr, show A8z s.ts key ws lb i = L3 tr ofs lb i by unfold A8z; rw [hra, hof]]; exact hPQ, by rw [A4n hr, show A8z s.ts key ws lb i = L3 tr ofs lb i by unfold A8z; rw [hra, hof]]; exact ⟨vs11, by rw [hpl2]; exact hs11.rd qS, hl11.mono qS⟩⟩

end Go.Proofs.YtlilcmjbaknafaaGreatDoor
