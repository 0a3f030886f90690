/- Part 7 of the texts of this claim, one behind the other. -/
import Derived.Test.YtlilcmjbaknafaaGreatDoorB6
import Derived.WalkKit
import Derived.ProofKit
import Derived.OpenShut
import Derived.ShutString
import Derived.ChangeOld
import Derived.Below
set_option linter.unusedVariables false
set_option linter.unusedSimpArgs false
set_option maxRecDepth 100000
namespace Go.Proofs.YtlilcmjbaknafaaGreatDoor
open Go.Px
def srt (x y : Int) : List Int := if y < x then [y, x] else [x, y]
def two (j : Nat) (x y : Int) : List Int := if j = 1 then [x, y] else [y, x]
def B8D (i : Nat) (x y : Int) : List Int := if i = 1 then [x, y] else srt x y
theorem A1z {R : Mem} {b j : Nat} {x y : Int} {e : TypeId} {fr : Nat × Nat} (h : (b, Obj.cells (A1J (two j x y)).toArray e fr) ∈ R) : Rd R 1 (.slice (some ⟨b, 0, none⟩) 2 2) 2 (A1J (two j x y)) := Rd.whole (n := 2) h (by unfold two; split <;> rfl)
theorem A80 (x : Int) (A : Mem) : FnV Tryz.prog 156 [.int .i64 x] A (.bool false) := by
 refine FnX.enter (N := 6) Tryz.func156 rfl rfl rfl fun w => ?_
 refine B4 (D5 0) (A1 (as_ (A0 (D5 0) (A1 (mv_ (mv_ ?_))))))
 refine A2 (D9 (v := .bool false) rfl rfl (by simp [I0])) rfl ?_
 refine as_ (A0 (D5 2) (B0 ?_))
 refine ⟨_, [], [], I4 rfl rfl, List.nil_sublist _, by simp, rfl, rfl, rfl⟩
theorem B0t (x y : Int) (A : Mem) : FnV Tryz.prog 139 [.int .i64 x, .int .i64 y] A (.bool (decide (x < y))) := by
 refine FnX.enter (N := 17) Tryz.func139 rfl rfl rfl fun w => ?_
 refine B4 (D3 0 1) (A1 (as_ (A0 (D3 0 1) (A1 (mv_ ?_)))))
 refine F0 (aS rfl a0) kR (A80 x _) rfl ?_
 refine mv_ ?_
 refine E7 rfl rfl rfl rfl ?_
 refine E7 rfl rfl rfl rfl ?_
 refine E7 rfl rfl rfl rfl ?_
 refine A2 (E3 rfl rfl) rfl ?_
 refine mv_ ?_
 refine D6 rfl rfl (OpQ.opL qm_ rfl ?_)
 refine D6 rfl rfl (OpQ.opL qm_ rfl ?_)
 refine D6 rfl rfl (OpQ.opL (D9 rfl rfl rfl) rfl ?_)
 refine A2 (E3 rfl rfl) rfl ?_
 refine as_ (A0 (D5 4) (B0 ?_))
 refine ⟨_, [], [], I4 rfl rfl, List.nil_sublist _, by simp, rfl, rfl, rfl⟩
theorem B3r (b : Nat) (x y : Int) (A : Mem) : FnX Tryz.prog 133 [.slice (some ⟨b, 0, none⟩) 2 2, .int .i64 0, .int .i64 2] [(b, blk (A1J ([x, y])) 3)] A fun r M J => J = [] ∧ r = .tuple #[] ∧ M = [(b, blk (A1J (srt x y)) 3)] := by
 refine FnX.enter (N := 49) Tryz.func133 rfl rfl rfl fun w => ?_
 refine B4 (D8 0 1 2) (A1 (mv_ ?_))
 refine A2 (I5 (a := 0) (b := 1) rfl rfl rfl rfl qO) rfl ?_
 refine as_ (A0 (D7 0 1 2 6) (A5 ?_))
 refine E1 (α := Nat) (fun i => [(0, .slice (some ⟨b, 0, none⟩) 2 2), (1, .int .i64 0), (2, .int .i64 2), (6, .int .i64 (i : Int))]) (fun i => [(b, blk (A1J (B8D i x y)) 3)]) (fun _ => []) (fun i => i = 1 ∨ i = 2) (fun i => 2 - i) 1 (.inl rfl) (D7 0 1 2 6) .rfl qI ?_
 rintro i hi
 refine A3 (A1 (mv_ (mv_ ?_)))
 refine A2 (D9 rfl rfl rfl) rfl ?_
 refine A0 (E6 0 1 2 6 12) ?_
 refine C0 rfl ?_ ?_ <;> intro hc
 ·
  obtain rfl : i = 1 := by simp at hc; omega
  refine A7 (nx (D7 0 1 2 6) (A3 (A5 (A1 (mv_ (as_ (A0 (E6 0 1 2 6 7) (A5 ?_))))))))
  refine E1 (α := Nat) (fun j => [(0, .slice (some ⟨b, 0, none⟩) 2 2), (1, .int .i64 0), (2, .int .i64 2), (6, .int .i64 1), (7, .int .i64 (j : Int))]) (fun j => [(b, blk (A1J (two j x y)) 3)]) (fun _ => []) (fun j => j = 1 ∨ (j = 0 ∧ y < x)) (fun j => j) 1 (.inl rfl) (E6 0 1 2 6 7) .rfl qI ?_
  rintro j hj
  refine A3 ?_
  refine D2 (.range 15) (zp 0 [0, 0, 0, 0, 0, 0, 0, 1, 0, 0, 0, 0, 1, 2, 0]) kR kR fun hs => ?_
  refine fm_ hs ?_
  refine fm_ hs ?_
  refine C2 hs rfl (D9 rfl rfl rfl) rfl ?_
  refine fm_ hs ?_
  refine Y4 (t := 19) rfl (fun hb => ?_) (fun hb => ?_)
  ·
   obtain rfl : j = 1 := by have := of_decide_eq_true hb; omega
   refine F7 hs rfl rfl rfl rfl qm_ rfl ?_
   refine F7 hs rfl rfl rfl rfl qm_ rfl ?_
   refine F7 hs rfl rfl rfl rfl (G8 (sz := 1) (a := 1) rfl rfl kR rfl (A1z (R := [_]) (j := 1) (x := x) (y := y) (e := 3) (fr := (0, 0)) qK) qD) rfl ?_
   refine W7 hs rfl rfl rfl rfl (A01 (j := 1) (u := .int .i64 y) (A1z At.mem) rfl kR rfl) rfl ?_
   refine F7 hs rfl rfl rfl rfl qm_ rfl ?_
   refine F7 hs rfl rfl rfl rfl qm_ rfl ?_
   refine F7 hs rfl rfl rfl rfl (Q0 (a := 1) (b := 1) rfl rfl rfl rfl qO qO) rfl ?_
   refine F7 hs rfl rfl rfl rfl (G8 (sz := 1) (a := 0) rfl rfl kR rfl (A1z (R := [_]) (j := 1) (x := x) (y := y) (e := 3) (fr := (0, 0)) qK) qD) rfl ?_
   refine W7 hs rfl rfl rfl rfl (A01 (j := 0) (u := .int .i64 x) (A1z At.mem) rfl kR rfl) rfl ?_
   refine U8 rfl rfl rfl rfl (aS rfl (aS rfl a0)) kR (B0t y x _) rfl ?_
   refine C2 hs rfl (E2 rfl rfl) rfl ?_
   refine E9 (H5 0 1 2 6 7 30) ?_
   refine C0 rfl ?_ ?_ <;> intro hc
   ·
    have hyx : y < x := by simpa using hc
    refine A7 (nx (E6 0 1 2 6 7) (A3 (A5 ?_)))
    refine G3 [0, 1, 2, 3, 4, 5, 6, 7, 8, 9, 10, 11, 12, 13, 14, 16] (zp 0 [0, 0, 0, 0, 0, 0, 0, 0, 0, 1, 0, 0, 0, 1, 0, 2, 0, 2]) kR kR fun hs => ?_
    refine fm_ hs ?_
    refine fm_ hs ?_
    refine fm_ hs ?_
    refine fm_ hs ?_
    refine C2 hs rfl (Q0 (a := 1) (b := 1) rfl rfl rfl rfl qO qO) rfl ?_
    refine fm_ hs ?_
    refine fm_ hs ?_
    refine C2 hs rfl (Q0 (a := 1) (b := 1) rfl rfl rfl rfl qO qO) rfl ?_
    refine C2 hs rfl (G8 (sz := 1) (a := 0) rfl rfl kR rfl (A1z (R := [_]) (j := 1) (x := x) (y := y) (e := 3) (fr := (0, 0)) qK) qD) rfl ?_
    refine H2 hs rfl (A01 (j := 0) (u := .int .i64 x) (A1z At.mem) rfl kR rfl) rfl ?_
    refine fm_ hs ?_
    refine fm_ hs ?_
    refine C2 hs rfl (G8 (sz := 1) (a := 1) rfl rfl kR rfl (A1z (R := [_]) (j := 1) (x := x) (y := y) (e := 3) (fr := (0, 0)) qK) qD) rfl ?_
    refine H2 hs rfl (A01 (j := 1) (u := .int .i64 y) (A1z At.mem) rfl kR rfl) rfl ?_
    refine C2 hs rfl (G8 (sz := 1) (a := 1) rfl rfl kR rfl (A1z (R := [_]) (j := 1) (x := x) (y := y) (e := 3) (fr := (0, 0)) qK) qD) rfl ?_
    refine G2 rfl rfl rfl (E0 (show ev _ _ = some (.pointer (some ⟨b, 1, none⟩)) from rfl) rfl rfl kR (show SetL [.int .i64 x, .int .i64 y] 1 (.int .i64 x) [.int .i64 x, .int .i64 x] from SetC.set) UpC.upd ?_)
    refine C2 hs rfl (G8 (sz := 1) (a := 0) rfl rfl kR rfl (A1z (R := [_]) (j := 1) (x := x) (y := y) (e := 3) (fr := (0, 0)) qK) qD) rfl ?_
    refine G2 rfl rfl rfl (E0 (show ev _ _ = some (vP b) from rfl) rfl rfl kR (show SetL [.int .i64 x, .int .i64 x] 0 (.int .i64 y) [.int .i64 y, .int .i64 x] from SetC.set) UpC.upd ?_)
    refine P9 (nb (nx (E6 0 1 2 6 7) (A9 (mv_ ?_))))
    refine A2 (Q0 (a := 1) (b := 1) rfl rfl rfl rfl qO qO) rfl ?_
    refine as_ (C1 ?_)
    exact rn 0 (.inr ⟨rfl, hyx⟩) qD (E6 0 1 2 6 7) .rfl qI
   ·
    have hyx : ¬ y < x := by simpa using hc
    refine D4 (te (re (be rfl (nb (nx (D7 0 1 2 6) (A9 (mv_ ?_)))))))
    refine A2 (I5 (a := 1) (b := 1) rfl rfl rfl rfl qO) rfl ?_
    refine as_ (C1 ?_)
    exact rn 2 (.inr rfl) qD (D7 0 1 2 6) (by rw [show B8D 2 x y = [x, y] by unfold B8D srt; simp [hyx]]; exact .rfl) qI
  ·
   obtain ⟨rfl, hyx⟩ : j = 0 ∧ y < x := by have := of_decide_eq_false hb; omega
   refine K3 hs ?_
   refine K3 hs ?_
   refine K3 hs ?_
   refine X4 hs ?_
   refine K3 hs ?_
   refine K3 hs ?_
   refine K3 hs ?_
   refine K3 hs ?_
   refine X4 hs ?_
   refine W8 hs rfl rfl rfl rfl rfl rfl ?_
   refine C2 hs rfl (E3 rfl rfl) rfl ?_
   refine E9 (H5 0 1 2 6 7 30) ?_
   refine C9 rfl ?_
   refine D4 (te (re (be rfl (nb (nx (D7 0 1 2 6) (A9 (mv_ ?_)))))))
   refine A2 (I5 (a := 1) (b := 1) rfl rfl rfl rfl qO) rfl ?_
   refine as_ (C1 ?_)
   exact rn 2 (.inr rfl) qD (D7 0 1 2 6) (by rw [show B8D 2 x y = [y, x] by unfold B8D srt; simp [hyx]]; exact .rfl) qI
 ·
  obtain rfl : i = 2 := by simp at hc; omega
  refine D4 (te (re (be rfl ?_)))
  exact ⟨_, _, [], B2E rfl, List.Sublist.refl _, by simp, rfl, rfl, rfl⟩
theorem B3s (b : Nat) (x y n : Int) (A : Mem) : FnX Tryz.prog 119 [.slice (some ⟨b, 0, none⟩) 2 2, .int .i64 0, .int .i64 2, .int .i64 n] [(b, blk (A1J ([x, y])) 3)] A fun r M J => J = [] ∧ r = .tuple #[] ∧ M = [(b, blk (A1J (srt x y)) 3)] := by
 refine FnX.enter (N := 134) Tryz.func119 rfl rfl rfl fun w => ?_
 refine B4 (D7 0 1 2 3) (A1 (as_ (A0 (E6 0 1 2 3 8) (A1 (as_ (A0 (H5 0 1 2 3 8 9) (A5 ?_)))))))
 refine E1 (α := Unit) (fun _ => [(0, .slice (some ⟨b, 0, none⟩) 2 2), (1, .int .i64 0), (2, .int .i64 2), (3, .int .i64 n), (8, .bool true), (9, .bool true)]) (fun _ => [(b, blk (A1J ([x, y])) 3)]) (fun _ => []) (fun _ => True) (fun _ => 0) () trivial (H5 0 1 2 3 8 9) .rfl qI ?_
 rintro _ _
 refine A5 (A1 (mv_ (mv_ ?_)))
 refine A2 (Q0 (a := 2) (b := 0) rfl rfl rfl rfl qO qO) rfl ?_
 refine as_ (A0 (S9 0 1 2 3 8 9 10) (A3 (A1 (mv_ ?_))))
 refine A2 (D9 (v := .bool true) rfl rfl qR) rfl ?_
 refine A0 (V3 0 1 2 3 8 9 10 23) ?_
 refine C0 rfl ?_ ?_ <;> intro hc
 ·
  refine A1 (mv_ (mv_ (mv_ ?_)))
  refine A4 rfl (C6 (Mc := [(b, blk (A1J ([x, y])) 3)]) (R := []) (aS rfl (aS rfl (aS rfl a0))) kR (.refl _) (B3r b x y _) rfl ?_)
  rintro v27 M27 J27 ⟨rfl, rfl, rfl⟩
  refine A0 kn (B0 (tr (br (rr (br ?_)))))
  exact ⟨_, _, [], B2E rfl, by first | exact List.Sublist.refl _ | simp, by simp, rfl, rfl, by first | rfl | simp⟩
 ·
  exact absurd hc qD
theorem B3t (x : Nat) (hx : x < 18446744073709551616) (A : Mem) : FnX Tryz.prog 120 [.int .u64 (x : Int)] [] A fun r M J => M = [] ∧ J = [] ∧ ∃ n : Int, r = .int .i64 n := by
 refine FnX.enter (N := 8) Tryz.func120 rfl rfl rfl fun w => ?_
 refine B4 (D5 0) (A1 (as_ (A0 (D5 0) (A3 ?_))))
 refine C0 rfl ?_ ?_ <;> intro hc
 ·
  exact absurd hc qD
 ·
  refine A7 (nx (D5 0) (A1 (mv_ ?_)))
  refine C7 (aS rfl a0) kR (A4N x hx _) rfl ?_
  rintro v7 M7 J7 ⟨rfl, rfl, n7, rfl, -⟩
  refine as_ (A0 (D5 2) (B0 ?_))
  exact ⟨_, [], [], I4 rfl rfl, by first | exact List.Sublist.refl _ | simp, by simp, rfl, rfl, _, rfl⟩
theorem B0u (b : Nat) (x y : Int) (A : Mem) : FnX Tryz.prog 100 [.slice (some ⟨b, 0, none⟩) 2 2] [(b, blk (A1J ([x, y])) 3)] A fun r M J => J = [] ∧ r = .tuple #[] ∧ M = [(b, blk (A1J (srt x y)) 3)] := by
 refine FnX.enter (N := 11) Tryz.func100 rfl rfl rfl fun w => ?_
 refine B4 (D5 0) (A1 (mv_ ?_))
 refine A2 (A07 (e := 3) rfl kR) rfl ?_
 refine as_ (A0 (D3 0 2) (A9 (mv_ (mv_ (mv_ ?_)))))
 refine A2 (K2 (k' := .u64) 2 rfl kR qR) rfl ?_
 refine C7 (aS rfl a0) kR (B3t 2 qD _) rfl ?_
 rintro v9 M9 J9 ⟨rfl, rfl, n9, rfl⟩
 refine A4 rfl (C6 (Mc := [(b, blk (A1J ([x, y])) 3)]) (R := []) (aS rfl (aS rfl (aS rfl (aS rfl a0)))) kR (.refl _) (B3s b x y _ _) rfl ?_)
 rintro v10 M10 J10 ⟨rfl, rfl, rfl⟩
 refine C1 ?_
 exact ⟨_, _, [], B2E rfl, by first | exact List.Sublist.refl _ | simp, by simp, rfl, rfl, by first | rfl | simp⟩
def agT (ts : List Tm) (s o : Int) : Tm := if 0 ≤ o then match ts[o.toNat]? with
  | some t => if t.kind = 3 ∧ t.of.length = 1 then ⟨4, srt s (t.of.getD 0 0), [], 0⟩ else ⟨4, [s, o], [], 1⟩
  | none => ⟨4, [s, o], [], 1⟩ else ⟨4, [s, o], [], 1⟩
theorem B8E {ts : List Tm} {s o : Int} (h : ¬ (0 ≤ o ∧ o < (ts.length : Int))) : agT ts s o = ⟨4, [s, o], [], 1⟩ := by
  unfold agT
  by_cases h0 : 0 ≤ o
  · rw [if_pos h0, List.getElem?_eq_none qO]
  · rw [if_neg h0]
theorem B4Z {ts : List Tm} {s o : Int} {t : Tm} (h0 : 0 ≤ o) (h : ts[o.toNat]? = some t) (hk : ¬ (t.kind = 3 ∧ t.of.length = 1)) : agT ts s o = ⟨4, [s, o], [], 1⟩ := by
  unfold agT
  rw [if_pos h0, h]
  exact if_neg hk
theorem B0v {ts : List Tm} {s o : Int} {t : Tm} (h0 : 0 ≤ o) (h : ts[o.toNat]? = some t) (hk : t.kind = 3 ∧ t.of.length = 1) : agT ts s o = ⟨4, srt s (t.of.getD 0 0), [], 0⟩ := by
  unfold agT
  rw [if_pos h0, h]
  exact if_pos hk
theorem A6q {A : Mem} {ts : List Tm} {i : Int} {c : List Value} {ok : Bool} (hts : ∀ t ∈ ts, Tmo t) (h1 : (0 ≤ i ∧ i < (ts.length : Int)) → ok = true ∧ ∃ t, ts[i.toNat]? = some t ∧ TmC A c t) (h2 : ¬ (0 ≤ i ∧ i < (ts.length : Int)) → ok = false ∧ c = tmc 0 (vS) [] 0) :
    ∃ (vo : Value) (t : Tm), c = tmc t.kind vo t.text t.n ∧ Rd A 1 vo t.of.length (A1J t.of) ∧ (∀ z ∈ t.of, i64 z) ∧ t.kind < 256 ∧ (ok = true → 0 ≤ i ∧ ts[i.toNat]? = some t) ∧ (ok = false → ¬ (0 ≤ i ∧ i < (ts.length : Int))) := by
  by_cases h : 0 ≤ i ∧ i < (ts.length : Int)
  · obtain ⟨e, t, ht, vo, hc, hr⟩ := h1 h
    have hto := hts t (List.mem_of_getElem? ht)
    exact ⟨vo, t, hc, hr, hto.of, hto.kind, fun _ => ⟨h.1, ht⟩, fun e' => by rw [e] at e'; cases e'⟩
  · obtain ⟨e, hc⟩ := h2 h
    exact ⟨vS, ⟨0, [], [], 0⟩, hc, Rd.nil, (fun z hz => by cases hz), by decide, (fun e' => by rw [e] at e'; cases e'), fun _ => h⟩
theorem A1M (x y : Int) : (srt x y).length = 2 := by unfold srt; split <;> rfl
theorem B0w {x y z : Int} (h : z ∈ srt x y) : z = x ∨ z = y := by
  unfold srt at h
  split at h <;> simp at h <;> omega
theorem B0x {s o n : Int} {l : List Int} (hl : l.length = 2) (h : ∀ z ∈ l, i64 z) (hn : n = 0 ∨ n = 1) : Tmo ⟨4, l, [], n⟩ := ⟨show 4 < 256 by decide, show i64 n by unfold i64; omega, h, show l.length ≤ 1048576 by omega, ⟨fun x hx => (List.not_mem_nil hx).elim⟩, show 0 ≤ 1099511627776 by decide⟩
theorem A81 (bt bm : Nat) (ts : List Tm) (s o : Int) (MT A : Mem) (hT : Tab bt bm ts MT) (hn : ts.length ≤ 1048576) (hs : i64 s) (ho : i64 o) {e4 : TypeId} {f4 : Nat × Nat} (h4 : (4, Obj.cells (nums .u64 A0m).toArray e4 f4) ∈ A) : FnX Tryz.prog 84 [(vP bt), .int .i64 s, .int .i64 o] MT A fun r M J => J = [] ∧ r = .int .i64 ((at_ ts (agT ts s o) : Nat) : Int) ∧ Tab bt bm (add ts (agT ts s o)) M := by
 have hnT := hT
 obtain ⟨_, _, _, _, _, _, _, _, _, _, _, hts, hnd⟩ := hnT
 refine FnX.enter (N := 46) Tryz.func84 rfl rfl rfl fun w => ?_
 refine B4 (D8 0 1 2) (A1 (as_ (A0 (D8 0 1 2) (A3 (A1 (mv_ (mv_ ?_)))))))
 refine C7 (aS rfl (aS rfl a0)) kR (A6o bt bm ts o MT _ hT qS) rfl ?_
 rintro v13 M13 J13 ⟨rfl, rfl, c13, ok13, rfl, hg1, hg2⟩
 obtain ⟨vo, t, rfl, hvo, hz, htk, hok, hno⟩ := A6q hts hg1 hg2
 haveI := hvo.cel
 refine mv_ ?_
 refine A2 (A0G rfl) rfl ?_
 refine A2 (A0x rfl) rfl ?_
 refine A4 rfl (C3 (cs := [.int .u8 0, vS, .string ByteArray.empty, .int .i64 0]) kR rfl fun b7 => ?_)
 refine A4 rfl (A8 rfl rfl rfl kR qR (by intro c hc; simp only [List.mem_cons, List.not_mem_nil, or_false] at hc; rcases hc with rfl | rfl | rfl | rfl <;> first | rfl | exact hvo.one) UpC.upd ?_)
 refine as_ (A0 (E6 0 1 2 7 8) (A1 (mv_ (mv_ ?_))))
 refine P6 (t := 17) rfl (fun hb => ?_) (fun hb => ?_)
 ·
  obtain ⟨h0, hget⟩ := hok hb
  refine D6 rfl rfl (OpQ.opL (qf_ 0 0) rfl ?_)
  refine D6 rfl rfl (OpQ.opL ql_ rfl ?_)
  refine D6 rfl rfl (OpQ.opL (D9 rfl rfl rfl) rfl ?_)
  refine A2 (E2 rfl rfl) rfl ?_
  refine mv_ ?_
  refine P6 (t := 22) rfl (fun hb => ?_) (fun hb => ?_)
  ·
   have hk3 : t.kind = 3 := by simp at hb; omega
   refine D6 rfl rfl (OpQ.opL (qf_ 1 1) rfl ?_)
   refine D6 rfl rfl (OpQ.opL ql_ rfl ?_)
   refine D6 rfl rfl (OpQ.opL (F8 (sz := 1) rfl kR hvo) rfl ?_)
   refine D6 rfl rfl (OpQ.opL (D9 rfl rfl rfl) rfl ?_)
   refine A2 (E2 rfl rfl) rfl ?_
   refine A0 (E6 0 1 2 7 27) ?_
   refine C0 rfl ?_ ?_ <;> intro hc
   ·
    have h1 : t.of.length = 1 := by simp at hc; omega
    have hag := B0v (s := s) h0 hget ⟨hk3, h1⟩
    have hz0 : i64 (t.of.getD 0 0) := hz _ (by rw [List.getD_eq_getElem?_getD, List.getElem?_eq_getElem qO]; exact List.getElem_mem _)
    generalize hzz : t.of.getD 0 0 = z0 at *
    refine A1 (mv_ ?_)
    refine A2 (qf_ 1 1) rfl ?_
    refine A2 ql_ rfl ?_
    refine A2 (G8 (sz := 1) (a := 0) rfl rfl kR rfl hvo qO) rfl ?_
    refine A2 (A01 (j := 0) (u := .int .i64 z0) (hvo.mono qS) rfl kR (by rw [← hzz, List.getD_eq_getElem?_getD, A1J, List.getElem?_map, List.getElem?_eq_getElem qO]; rfl)) rfl ?_
    refine A4 rfl (C4 (e := 3) (sz := 1) (z := [.int .i64 0, .int .i64 0]) kR (eS rfl (eS rfl e0)) (bdS 0 1 rfl qR (bdS 1 1 rfl qR bd0)) rfl fun b33 => ?_)
    refine as_ (A0 (D3 0 9) (A1 (mv_ ?_)))
    refine A4 rfl (C6 (Mc := [(b33, blk [.int .i64 s, .int .i64 z0] 3)]) (R := _) (aS rfl a0) kR qP (B0u b33 s z0 _) rfl ?_)
    rintro v35 M35 J35 ⟨rfl, rfl, rfl⟩
    refine A0 (D3 0 9) (A1 (mv_ (mv_ ?_)))
    refine A2 (F6 (place := fun x => #[(0, 1), (1, 1), (2, 1), (3, 1)][x]?) (z := [.int .u8 0, vS, .string ByteArray.empty, .int .i64 0]) (fun _ => by kernel_rfl) (eS rfl (eS rfl e0)) (bdS 0 1 rfl qR (bdS 1 1 rfl qR bd0))) rfl ?_
    refine A4 rfl (C6 (Mc := MT) (R := _) (aS rfl (aS rfl a0)) kR qP (U9 bt bm ts _ ⟨4, srt s z0, [], 0⟩ MT _ hT hn (by rw [A1M]; exact (Rd.whole (n := 2) At.mem (by first | rfl | exact (A24 _).trans (A1M _ _)))) (B0x (s := s) (o := o) (A1M _ _) (fun q hq => (B0w hq).elim (fun e => e ▸ hs) (fun e => e ▸ hz0)) (.inl rfl)) (qS _ h4)) rfl ?_)
    rintro v39 M39 J39 ⟨rfl, rfl, hT39⟩
    refine as_ (A0 (D5 6) (B0 (tr ?_)))
    exact ⟨_, M39, [], I4 rfl rfl, by first | exact List.Sublist.refl _ | simp, by simp, rfl, by rw [hag], by rw [hag]; exact hT39⟩
   ·
    have hag := B4Z (s := s) h0 hget (fun h => by have := h.2; simp at hc; omega)
    refine A7 (nx (D8 0 1 2) (A1 (mv_ (mv_ (mv_ ?_)))))
    refine A4 rfl (C4 (e := 3) (sz := 1) (z := [.int .i64 0, .int .i64 0]) kR (eS rfl (eS rfl e0)) (bdS 0 1 rfl qR (bdS 1 1 rfl qR bd0)) rfl fun b43 => ?_)
    refine A2 (F6 (place := fun x => #[(0, 1), (1, 1), (2, 1), (3, 1)][x]?) (z := [.int .u8 0, vS, .string ByteArray.empty, .int .i64 0]) (fun _ => by kernel_rfl) (eS rfl (eS rfl (eS rfl e0))) (bdS 0 1 rfl qR (bdS 1 1 rfl qR (bdS 3 1 rfl qR bd0)))) rfl ?_
    refine A4 rfl (C6 (Mc := MT) (R := _) (aS rfl (aS rfl a0)) kR qP (U9 bt bm ts _ ⟨4, [s, o], [], 1⟩ MT _ hT hn (Rd.whole (n := 2) At.mem (by first | rfl | exact (A24 _).trans (A1M _ _))) (B0x (s := s) (o := o) rfl (fun q hq => by simp at hq; rcases hq with rfl | rfl <;> assumption) (.inr rfl)) (qS _ h4)) rfl ?_)
    rintro v45 M45 J45 ⟨rfl, rfl, hT45⟩
    refine as_ (A0 (D5 6) (B0 ?_))
    exact ⟨_, M45, [], I4 rfl rfl, by first | exact List.Sublist.refl _ | simp, by simp, rfl, by rw [hag], by rw [hag]; exact hT45⟩
  ·
   have hag := B4Z (s := s) h0 hget (fun h => by have := h.1; simp at hb; omega)
   refine E7 rfl rfl rfl rfl ?_
   refine E7 rfl rfl rfl rfl ?_
   refine E7 rfl rfl rfl rfl ?_
   refine E7 rfl rfl rfl rfl ?_
   refine A2 (E3 rfl rfl) rfl ?_
   refine A0 (E6 0 1 2 7 27) ?_
   refine C9 rfl ?_
   refine A7 (nx (D8 0 1 2) (A1 (mv_ (mv_ (mv_ ?_)))))
   refine A4 rfl (C4 (e := 3) (sz := 1) (z := [.int .i64 0, .int .i64 0]) kR (eS rfl (eS rfl e0)) (bdS 0 1 rfl qR (bdS 1 1 rfl qR bd0)) rfl fun b43 => ?_)
   refine A2 (F6 (place := fun x => #[(0, 1), (1, 1), (2, 1), (3, 1)][x]?) (z := [.int .u8 0, vS, .string ByteArray.empty, .int .i64 0]) (fun _ => by kernel_rfl) (eS rfl (eS rfl (eS rfl e0))) (bdS 0 1 rfl qR (bdS 1 1 rfl qR (bdS 3 1 rfl qR bd0)))) rfl ?_
   refine A4 rfl (C6 (Mc := MT) (R := _) (aS rfl (aS rfl a0)) kR qP (U9 bt bm ts _ ⟨4, [s, o], [], 1⟩ MT _ hT hn (Rd.whole (n := 2) At.mem (by first | rfl | exact (A24 _).trans (A1M _ _))) (B0x (s := s) (o := o) rfl (fun q hq => by simp at hq; rcases hq with rfl | rfl <;> assumption) (.inr rfl)) (qS _ h4)) rfl ?_)
   rintro v45 M45 J45 ⟨rfl, rfl, hT45⟩
   refine as_ (A0 (D5 6) (B0 ?_))
   exact ⟨_, M45, [], I4 rfl rfl, by first | exact List.Sublist.refl _ | simp, by simp, rfl, by rw [hag], by rw [hag]; exact hT45⟩
 ·
  have hag := B8E (s := s) (hno hb)
  refine E7 rfl rfl rfl rfl ?_
  refine E7 rfl rfl rfl rfl ?_
  refine E7 rfl rfl rfl rfl ?_
  refine A2 (E3 rfl rfl) rfl ?_
  refine mv_ ?_
  refine E7 rfl rfl rfl rfl ?_
  refine E7 rfl rfl rfl rfl ?_
  refine E7 rfl rfl rfl rfl ?_
  refine E7 rfl rfl rfl rfl ?_
  refine A2 (E3 rfl rfl) rfl ?_
  refine A0 (E6 0 1 2 7 27) ?_
  refine C9 rfl ?_
  refine A7 (nx (D8 0 1 2) (A1 (mv_ (mv_ (mv_ ?_)))))
  refine A4 rfl (C4 (e := 3) (sz := 1) (z := [.int .i64 0, .int .i64 0]) kR (eS rfl (eS rfl e0)) (bdS 0 1 rfl qR (bdS 1 1 rfl qR bd0)) rfl fun b43 => ?_)
  refine A2 (F6 (place := fun x => #[(0, 1), (1, 1), (2, 1), (3, 1)][x]?) (z := [.int .u8 0, vS, .string ByteArray.empty, .int .i64 0]) (fun _ => by kernel_rfl) (eS rfl (eS rfl (eS rfl e0))) (bdS 0 1 rfl qR (bdS 1 1 rfl qR (bdS 3 1 rfl qR bd0)))) rfl ?_
  refine A4 rfl (C6 (Mc := MT) (R := _) (aS rfl (aS rfl a0)) kR qP (U9 bt bm ts _ ⟨4, [s, o], [], 1⟩ MT _ hT hn (Rd.whole (n := 2) At.mem (by first | rfl | exact (A24 _).trans (A1M _ _))) (B0x (s := s) (o := o) rfl (fun q hq => by simp at hq; rcases hq with rfl | rfl <;> assumption) (.inr rfl)) (qS _ h4)) rfl ?_)
  rintro v45 M45 J45 ⟨rfl, rfl, hT45⟩
  refine as_ (A0 (D5 6) (B0 ?_))
  exact ⟨_, M45, [], I4 rfl rfl, by first | exact List.Sublist.refl _ | simp, by simp, rfl, by rw [hag], by rw [hag]; exact hT45⟩

end Go.Proofs.YtlilcmjbaknafaaGreatDoor
namespace Go.Px
theorem wf_u {k : IntKind} (hk : k.signed = false) {n : Int} (h : (Lit.int k n).wf = true) : 0 ≤ n ∧ n < 2 ^ k.bits := by
  cases k <;> simp_all [Lit.wf, IntKind.min, IntKind.max, IntKind.bits, IntKind.signed] <;> omega
end Go.Px

namespace Go.Px
open Go.ChangeShapes Go.WideShapes Go.ChangeAt Go.RowKit
def A7e (w : World) : Mem := (List.range w.heap.size).filterMap fun b => (w.heap[b]?).map fun o => (b, o)
theorem A1i {w : World} {b : Nat} {o : Obj} : (b, o) ∈ A7e w ↔ w.heap[b]? = some o := by
  simp only [A7e, List.mem_filterMap, List.mem_range, Option.map_eq_some_iff, Prod.mk.injEq]
  constructor
  · rintro ⟨x, _, y, h, rfl, rfl⟩; exact h
  · intro h; exact ⟨b, R5 h, o, h, rfl, rfl⟩
theorem heapA_fx (w : World) : Fx (A7e w) w := fun b o h => A1i.1 h
section
variable {H : Type} {enc : TypeId × Value → H} {P : Program} {w : World} {spare : Nat → Bool} {held : Bool} {fuel : Nat} {t e : TypeId} {cs : List Value} {x : DataW H × List MemPlace} {v : Value} {d : DataW H} {p : List MemPlace} {r : Reach} {base : Nat} {k : IntKind}
theorem A18 {a : Addr} {n : Nat} {c : List Value} (h : w.cells? 0 a n = some c) : c.length = n ∧ ∀ j, j < n → w.cell? (a.add j) = c[j]? := by
  unfold World.cells? at h
  rw [if_pos (Nat.zero_le _)] at h
  exact ⟨by simpa using mapM_some_length h, fun j hj => mapM_some_get h j j (by simp [hj])⟩
theorem A7Y {sz : Nat} (ht : P.underlying t = some (.slice e)) (hsz : P.cellsOf e = sz) (hs0 : 0 < sz) (h : DataW.trod enc P w 0 spare held fuel t cs = some x) :
    ∃ (v : Value) (xss : List (List Value)), cs = [v] ∧ xss.length ≤ maxLen ∧ Rd (A7e w) sz v xss.length xss.flatten ∧ ∀ c ∈ xss, c.length = sz ∧ ∃ m y, DataW.trod enc P w 0 spare held m e c = some y := by
  rcases DataW.trod_slice ht h with ⟨rfl, _⟩ | ⟨a, len, cap, elems, rest, n, _, rfl, _, _, hl, hm, hlen, hel, _, _⟩
  · exact ⟨_, [], rfl, by simp, Rd.nil, fun c hc => by cases hc⟩
  · rw [hsz] at hel
    have hrow : ∀ i, i < len → ∃ c y, w.cells? 0 (a.add (i * sz)) sz = some c ∧ DataW.trod enc P w 0 spare held n e c = some y := by
      intro i hi
      have h1 := hel i hi
      rw [List.getElem?_eq_getElem (by omega)] at h1
      obtain ⟨c, h2, h3⟩ := Option.bind_eq_some_iff.1 h1
      exact ⟨c, _, h2, h3⟩
    have hget : ∀ i, i < len → ((List.range len).map fun i => (w.cells? 0 (a.add (i * sz)) sz).getD [])[i]? = some ((w.cells? 0 (a.add (i * sz)) sz).getD []) := by
      intro i hi; simp [hi]
    have hlen2 : ∀ c ∈ (List.range len).map (fun i => (w.cells? 0 (a.add (i * sz)) sz).getD []), c.length = sz ∧ ∃ m y, DataW.trod enc P w 0 spare held m e c = some y := by
      intro c hc
      obtain ⟨i, hi, rfl⟩ := List.mem_map.1 hc
      obtain ⟨c, y, h1, h2⟩ := hrow i (List.mem_range.1 hi)
      rw [h1, Option.getD_some]
      exact ⟨(A18 h1).1, n, y, h2⟩
    refine ⟨_, (List.range len).map fun i => (w.cells? 0 (a.add (i * sz)) sz).getD [], rfl, by simp; omega, ?_, hlen2⟩
    have hl1 : ((List.range len).map fun i => (w.cells? 0 (a.add (i * sz)) sz).getD []).length = len := by simp
    have hfl := A7G (rows := (List.range len).map fun i => (w.cells? 0 (a.add (i * sz)) sz).getD []) (s := sz) fun c hc => (hlen2 c hc).1
    rw [hl1]
    rw [hl1] at hfl
    by_cases h0 : len * sz = 0
    · refine ⟨some a, cap, rfl, hfl, hl, .inl ?_⟩
      rcases Nat.mul_eq_zero.1 h0 with h | h <;> omega
    · have hlp : 0 < len := Nat.pos_of_ne_zero (by rintro rfl; simp at h0)
      have hsp : 0 < sz := Nat.pos_of_ne_zero (by rintro rfl; simp at h0)
      obtain ⟨c0, y0, h1, _⟩ := hrow 0 hlp
      have h2 := (A18 h1).2 0 hsp
      have h3 := (A18 h1).1
      obtain ⟨b, o, sp⟩ := a
      have hadd : ((⟨b, o, sp⟩ : Addr).add (0 * sz)).add 0 = ⟨b, o, sp⟩ := by simp [Addr.add]
      rw [hadd, List.getElem?_eq_getElem (by omega)] at h2
      cases hb : w.heap[b]? with
      | none => simp [World.cell?, hb] at h2
      | some ob =>
        cases ob <;> simp [World.cell?, hb] at h2
        rename_i cells et fr
        obtain ⟨rfl, h2⟩ := h2
        refine ⟨_, cap, rfl, hfl, hl, .inr ⟨b, o, cells.toList, et, fr, rfl, A1i.2 (by simpa using hb), fun j u hj => ?_⟩⟩
        have hjl : j < len * sz := by have := (List.getElem?_eq_some_iff.1 hj).1; rwa [hfl] at this
        have hi : j / sz < len := Nat.div_lt_of_lt_mul (by rw [Nat.mul_comm]; exact hjl)
        have hr : j % sz < sz := Nat.mod_lt _ hsp
        have hj2 := A0H (fun c hc => (hlen2 c hc).1) (hget _ hi) (j % sz) hr
        have ej : j / sz * sz + j % sz = j := by rw [Nat.mul_comm]; exact Nat.div_add_mod j sz
        rw [ej, hj] at hj2
        obtain ⟨c, y, h5, _⟩ := hrow _ hi
        rw [h5, Option.getD_some] at hj2
        have h6 := (A18 h5).2 _ hr
        rw [← hj2, Addr.add_mid, Addr.add_mid, World.cell?, hb] at h6
        simp only [Option.isSome_none, Bool.false_eq_true, if_false] at h6
        rw [Array.getElem?_toList, show o + j = o + j / sz * sz + j % sz by omega, h6]
theorem A19 (hk : k.signed = false) {n : Int} (h : (Lit.int k n).wf = true) : ∃ m : Nat, n = (m : Int) ∧ m < 2 ^ k.bits := by
  obtain ⟨h1, h2⟩ := wf_u hk h
  obtain ⟨m, rfl⟩ := Int.eq_ofNat_of_zero_le h1
  refine ⟨m, rfl, ?_⟩
  have h3 : ((m : Nat) : Int) < ((2 ^ k.bits : Nat) : Int) := by simpa using h2
  exact Int.ofNat_lt.1 h3
theorem inU (ht : P.underlying t = some (.int k)) (hk : k.signed = false) (hv : Value.okWide P w r base t v) (h : DataW.Trod enc P w 0 spare held t v d p) : ∃ n : Nat, v = .int k (n : Int) ∧ n < 2 ^ k.bits := by
  obtain ⟨n, rfl⟩ := okWide_int ht hv
  obtain ⟨f, hf⟩ := h
  obtain ⟨m, h1, _, h2⟩ := DataW.trod_int ht hf
  obtain ⟨q, rfl, h3⟩ := A19 hk h2
  exact ⟨q, by simpa [Value.cells] using h1, h3⟩
theorem B3u (hk : k.signed = false) (he : P.underlying e = some (.int k)) {xss : List (List Value)} (h : ∀ c ∈ xss, c.length = 1 ∧ ∃ m y, DataW.trod enc P w 0 spare held m e c = some y) :
    ∃ ws : List Nat, xss.flatten = nums k ws ∧ ws.length = xss.length ∧ ∀ x ∈ ws, x < 2 ^ k.bits := by
  induction xss with
  | nil => exact ⟨[], rfl, rfl, fun x hx => by cases hx⟩
  | cons c xss ih =>
    obtain ⟨ws, h1, h2, h3⟩ := ih fun c hc => h c (by simp [hc])
    obtain ⟨_, m, y, h4⟩ := h c (by simp)
    obtain ⟨n, rfl, _, h5⟩ := DataW.trod_int he h4
    obtain ⟨q, rfl, h6⟩ := A19 hk h5
    refine ⟨q :: ws, by rw [List.flatten_cons, h1]; rfl, by simp [h2], fun x hx => ?_⟩
    rcases List.mem_cons.1 hx with rfl | hx
    · exact h6
    · exact h3 x hx
theorem inSlU (ht : P.underlying t = some (.slice e)) (he : P.underlying e = some (.int k)) (hc : P.cellsOf e = 1) (hk : k.signed = false) (hv : Value.okWide P w r base t v) (h : DataW.Trod enc P w 0 spare held t v d p) :
    ∃ ws, Rd (A7e w) 1 v ws.length (nums k ws) ∧ (∀ x ∈ ws, x < 2 ^ k.bits) ∧ ws.length ≤ maxLen := by
  obtain ⟨a, len, cap, rfl⟩ := okWide_slice ht hv
  obtain ⟨f, hf⟩ := h
  obtain ⟨v, xss, h1, h2, h3, h4⟩ := A7Y ht hc (by decide) hf
  obtain ⟨ws, h5, h6, h7⟩ := B3u hk he h4
  obtain rfl : Value.slice a len cap = v := by simpa [Value.cells] using h1
  exact ⟨ws, by rw [h6, ← h5]; exact h3, h7, by omega⟩
end
end Go.Px

namespace Go.Px
open Go.ChangeShapes Go.WideShapes Go.ChangeAt Go.RowKit
structure Bys (R : Mem) (vs : List Value) (ls : List (List Nat)) : Prop where
  len : vs.length = ls.length
  get : ∀ (j : Nat) (w : List Nat), ls[j]? = some w → ∃ v, vs[j]? = some v ∧ Rd R 1 v w.length (nums .u8 w) ∧ (∀ x ∈ w, x < 256) ∧ w.length ≤ maxLen
theorem Bys.mono {R R' : Mem} {vs : List Value} {ls : List (List Nat)} (h : Bys R vs ls) (hR : ∀ x, x ∈ R → x ∈ R') : Bys R' vs ls := ⟨h.len, fun j w hj => by
  obtain ⟨v, h1, h2, h3, h4⟩ := h.get j w hj
  exact ⟨v, h1, h2.mono hR, h3, h4⟩⟩
theorem Bys.nil {R : Mem} : Bys R [] [] := ⟨rfl, fun j w h => by simp at h⟩
theorem Bys.cons {R : Mem} {vs : List Value} {ls : List (List Nat)} (h : Bys R vs ls) {v : Value} {w : List Nat} (hv : Rd R 1 v w.length (nums .u8 w)) (hb : ∀ x ∈ w, x < 256) (hl : w.length ≤ maxLen) : Bys R (v :: vs) (w :: ls) := ⟨by simp [h.len], fun j u hj => by
  cases j with
  | zero => simp at hj; subst hj; exact ⟨v, rfl, hv, hb, hl⟩
  | succ j => exact h.get j u hj⟩
section
variable {H : Type} {enc : TypeId × Value → H} {P : Program} {w : World} {spare : Nat → Bool} {held : Bool} {fuel : Nat} {t e e' : TypeId} {cs : List Value} {x : DataW H × List MemPlace} {v : Value} {d : DataW H} {p : List MemPlace} {r : Reach} {base : Nat}
end
end Go.Px

namespace Go.Px
section
variable {C : Cx} {Q : XQ} {l : Env} {M J B R M' : Mem} {w : World}
theorem St.freezes (h : St C (B ++ M) J w) : St C M (B ++ J) w := by
  induction B generalizing J with
  | nil => exact h
  | cons x B ih =>
    have h1 := ih (J := x :: J) (St.freeze (by simpa using h))
    refine h1.drop (List.Sublist.refl _) fun y hy => ?_
    simp only [List.cons_append, List.mem_cons, List.mem_append] at hy ⊢
    rcases hy with h | h | h <;> simp [h]
theorem St.frz (hp : M.Perm (B ++ M')) (h : St C M J w) : St C M' (B ++ J) w := (h.perm hp).freezes
theorem A0Z {c : Code} (hp : M.Perm (B ++ M')) (h : XC C c Q l M' (B ++ J)) : XC C c Q l M J := fun a w ha hw => h a w ha (hw.frz hp)
theorem A3E {ops : Array Oper} {rest : List Oper} (hp : M.Perm (B ++ M')) (h : XL C ops rest Q l M' (B ++ J)) : XL C ops rest Q l M J := fun a w ha hw => h a w ha (hw.frz hp)
end
theorem FnX.frz0 {P : Program} {f : FuncId} {args : List Value} {A : Mem} {φ : Value → Mem → Prop} (h : FnX P f args [] A fun r M J => J = [] ∧ φ r M) : FnX P f args [] A fun r M J => M = [] ∧ φ r J := by
  intro w hw
  refine Calls.mono (h w hw) ?_
  rintro e w' ⟨v, M', J, rfl, ⟨rfl, hq⟩, hs⟩
  exact ⟨v, [], M', rfl, ⟨rfl, hq⟩, by have := St.frz (B := M') (M' := []) (by simp) hs; simpa using this⟩
structure By (R : Mem) (v : Value) (w : List Nat) : Prop where
  rd : Rd R 1 v w.length (nums .u8 w)
  lt : ∀ x ∈ w, x < 256
  len : w.length ≤ 16777216
theorem By.mono {R R' : Mem} {v : Value} {w : List Nat} (h : By R v w) (hR : ∀ x, x ∈ R → x ∈ R') : By R' v w := ⟨h.rd.mono hR, h.lt, h.len⟩
theorem By.b256 {R : Mem} {v : Value} {w : List Nat} (h : By R v w) : B256 w := ⟨h.lt⟩
theorem By.one {R : Mem} {v : Value} {w : List Nat} (h : By R v w) : v.oneCell' = true := h.rd.one
theorem By.cel {R : Mem} {v : Value} {w : List Nat} (h : By R v w) : Cel v [v] := h.rd.cel
theorem By.nil {R : Mem} : By R (.slice none 0 0) [] := ⟨Rd.nil, (fun x h => by cases h), by decide⟩
theorem By.max {R : Mem} {v : Value} {w : List Nat} (h : By R v w) : w.length ≤ maxLen := Nat.le_trans h.len (by unfold maxLen; omega)
structure Lst (R : Mem) (vs : List Value) (ls : List (List Nat)) : Prop where
  len : vs.length = ls.length
  get : ∀ (j : Nat) (w : List Nat), ls[j]? = some w → ∃ v, vs[j]? = some v ∧ By R v w
theorem Lst.mono {R R' : Mem} {vs : List Value} {ls : List (List Nat)} (h : Lst R vs ls) (hR : ∀ x, x ∈ R → x ∈ R') : Lst R' vs ls := ⟨h.len, fun j w hj => by
  obtain ⟨v, h1, h2⟩ := h.get j w hj
  exact ⟨v, h1, h2.mono hR⟩⟩
theorem Lst.at {R : Mem} {vs : List Value} {ls : List (List Nat)} (h : Lst R vs ls) {j : Nat} (hj : j < ls.length) : ∃ v, vs[j]? = some v ∧ By R v ls[j] := h.get j ls[j] (List.getElem?_eq_getElem hj)
theorem Lst.nil {R : Mem} : Lst R [] [] := ⟨rfl, fun j w h => by simp at h⟩
theorem Lst.cons {R : Mem} {vs : List Value} {ls : List (List Nat)} {v : Value} {w : List Nat} (hv : By R v w) (h : Lst R vs ls) : Lst R (v :: vs) (w :: ls) := ⟨by simp [h.len], fun j u hj => by
  cases j with
  | zero => simp at hj; subst hj; exact ⟨v, rfl, hv⟩
  | succ j => exact h.get j u hj⟩
theorem Lst.snoc {R : Mem} {vs : List Value} {ls : List (List Nat)} (h : Lst R vs ls) {v : Value} {w : List Nat} (hv : By R v w) : Lst R (vs ++ [v]) (ls ++ [w]) := ⟨by simp [h.len], fun j u hj => by
  by_cases hlt : j < ls.length
  · rw [List.getElem?_append_left hlt] at hj
    obtain ⟨v', h1, h2⟩ := h.get j u hj
    exact ⟨v', by rw [List.getElem?_append_left (List.getElem?_eq_some_iff.1 h1).1]; exact h1, h2⟩
  · rw [List.getElem?_append_right (by omega)] at hj
    have hj0 : j = ls.length := by
      have := (List.getElem?_eq_some_iff.1 hj).1
      simp at this; omega
    subst hj0
    simp at hj
    subst hj
    exact ⟨v, by rw [List.getElem?_append_right (by rw [h.len]; omega), h.len]; simp, hv⟩⟩
structure LsV (R : Mem) (v : Value) (ls : List (List Nat)) : Prop where
  ex : ∃ vs, Rd R 1 v ls.length vs ∧ Lst R vs ls
theorem LsV.mono {R R' : Mem} {v : Value} {ls : List (List Nat)} (h : LsV R v ls) (hR : ∀ x, x ∈ R → x ∈ R') : LsV R' v ls := by
  obtain ⟨vs, h1, h2⟩ := h.ex
  exact ⟨vs, h1.mono hR, h2.mono hR⟩
theorem LsV.nil {R : Mem} : LsV R (.slice none 0 0) [] := ⟨[], Rd.nil, Lst.nil⟩
theorem LsV.cel {R : Mem} {v : Value} {ls : List (List Nat)} (h : LsV R v ls) : Cel v [v] := by
  obtain ⟨vs, h1, _⟩ := h.ex
  exact h1.cel
section loud
variable {C : Cx} {l : Env} {M J : Mem} {K : Env → Mem → Mem → Prop} {d : Nat} {ty t e : TypeId} {pos : String} {af : Array Edge} {g : Option (Nat × Bool)} {x y : Operand}
theorem A3F {b m n : Nat} {u : Value} {k : IntKind} {ws us ws' : List Nat} {e' : TypeId} {by_ : Nat} {M' : Mem} (hx : ev l x = some (.slice (some ⟨b, 0, none⟩) m m)) (hy : ev l y = some u) (ht : A2n C.P t = some (e, 1, by_))
    (hr : Rd (M ++ (J ++ C.A)) 1 u n (nums k us)) (hm : ws.length = m) (hw' : ws' = us.take m ++ ws.drop n) (hu : Upd M b (blk (nums k ws) e') (blk (nums k ws') e') M') (hd : Nat.blt d C.N = true) (h : K ((d, .int .i64 ((min n m : Nat) : Int)) :: l) M' J) :
    OpL C ⟨some d, .call { callee := .builtin .copy, args := #[x, y], argTypes := #[t, t] }, ty, pos, af, g⟩ l M J K := by
  intro Qp a w ha hw
  obtain ⟨i, z, hut, hi, hz, hzs, his, hib⟩ := U4 ht
  obtain ⟨pu, cu, rfl, hul, huc, hub⟩ := hr
  have hru : Rd (M ++ (J ++ C.A)) 1 (.slice pu n cu) n (nums k us) := ⟨pu, cu, rfl, hul, huc, hub⟩
  have hb := hw.mem _ _ (List.mem_append_left _ hu.mem)
  have hf := A2T (P := C.P) (m := n) (c2 := cu) (hru.hi (min n m) (Nat.min_le_left _ _)) hw.fx
  have hus : us.length = n := by simpa using hul
  rw [Nat.mul_one, show (nums k us).take (min n m) = nums k (us.take (min n m)) by simp [nums]] at hf
  have hst := run_storeCells_at (P := C.P) b 0 e' (nums k (us.take (min n m))) 0 (nums k ws).toArray w hb (by simp [hus, hm]; omega) F3
  simp only [Nat.add_zero, Nat.zero_add, List.take_zero, List.nil_append, nums_len, List.length_take, hus] at hst
  rw [← A0v, ← H6] at hst
  have e1 : us.take (min n m) ++ ws.drop (min (min n m) n) = ws' := by
    rw [hw']
    rcases Nat.le_total m n with h | h
    · rw [Nat.min_eq_right h, Nat.min_eq_left h, List.drop_of_length_le (l := ws) (i := m) (by omega), List.drop_of_length_le (l := ws) (i := n) (by omega)]
    · rw [Nat.min_eq_left h, Nat.min_self, List.take_of_length_le (l := us) (i := n) (by omega), List.take_of_length_le (l := us) (i := m) (by omega)]
  rw [e1] at hst
  have hrun : (execOp a.eval ⟨some d, .call { callee := .builtin .copy, args := #[x, y], argTypes := #[t, t] }, ty, pos, af, g⟩).run C.P w = .ok (.value (.int .i64 ((min n m : Nat) : Int))) (w.setRow b (nums k ws').toArray) := by
    simp [execOp, resolve, invoke, builtin, ha.ev hx, ha.ev hy, Builtin.copy_, run_underlying hut, sizeOf, typeInfo, hi, his, Builtin.lenOf, hf, hst, goInt]
  unfold Oper.wp
  rw [hrun]
  exact ⟨_, M', J, ha.put (C5 hd) _, hw.setRow hu, h⟩
theorem A6r {sz by_ n m b o : Nat} {u : Value} {xs ys : List Value} (hx : ev l x = some (.slice (some ⟨b, o, none⟩) n n)) (hy : ev l y = some u) (ht : A2n C.P t = some (e, sz, by_)) (hsz : Nat.blt 0 sz = true)
    (hs : Rd (M ++ (J ++ C.A)) sz (.slice (some ⟨b, o, none⟩) n n) n xs) (hr : Rd (M ++ (J ++ C.A)) sz u m ys) (hm : 0 < m) (hmax : n + m ≤ maxLen) (hbytes : (n + m) * by_ ≤ 140737488355328) (hd : Nat.blt d C.N = true)
    (k : ∀ v' B', Sl sz v' (n + m) (xs ++ ys) B' → K ((d, v') :: l) (B' ++ M) J) :
    OpL C ⟨some d, .call { callee := .builtin .append, args := #[x, y], argTypes := #[t, t] }, ty, pos, af, g⟩ l M J K := by
  intro Qp a w ha hw
  obtain ⟨i, z, hu, hi, hz, hzs, his, hib⟩ := U4 ht
  obtain ⟨pu, cu, rfl, hul, huc, hub⟩ := hr
  obtain ⟨p', c', e', hxl, hcc, hxb⟩ := hs
  cases e'
  subst his; subst hib
  obtain ⟨bu, ou, csu, eu, fru, rfl, hbu, hxu⟩ : ∃ (b o : Nat) (cs : List Value) (e : TypeId) (fr : Nat × Nat), pu = some ⟨b, o, none⟩ ∧ (b, Obj.cells cs.toArray e fr) ∈ M ++ (J ++ C.A) ∧ ∀ j u, ys[j]? = some u → cs[o + j]? = some u := by
    rcases hub with h | h
    · omega
    · exact h
  have hnews : ∀ j u, ys[j]? = some u → w.cell? ((⟨bu, ou, none⟩ : Addr).add j) = some u := fun j u hj => by rw [Addr.add_mid, A1A hw.fx hbu]; simpa using hxu j u hj
  have holds : ∀ j u, xs[j]? = some u → w.cell? ((⟨b, o, none⟩ : Addr).add j) = some u := fun j u hj => by
    rcases hxb with h | ⟨b2, o2, cs2, e2, f2, h1, h2, h3⟩
    · subst h
      have : xs = [] := List.eq_nil_of_length_eq_zero (by simpa using hxl)
      subst this; simp at hj
    · cases h1
      rw [Addr.add_mid, A1A hw.fx h2]; simpa using h3 j u hj
  have hsmall : n + m ≤ 9223372036854775807 := by simp only [maxLen] at hmax; omega
  have hge := grownCap_ge w (n + m) n e
  have hcm : grownCap w (n + m) n e ≤ maxLen := grownCap_le_maxLen w (n + m) n e hmax
  have hrg := run_append_grow (P := C.P) w t ty e i z hu hi hz ⟨b, o, none⟩ n n xs hxl holds ⟨bu, ou, none⟩ m cu ys hul hnews (by omega) (by omega) (growslice_fits (by omega) hbytes)
  have hexec : (execOp a.eval ⟨some d, .call { callee := .builtin .append, args := #[x, y], argTypes := #[t, t] }, ty, pos, af, g⟩).run C.P w = .ok (.value (.slice (some ⟨w.heap.size, 0, none⟩) (n + m) (grownCap w (n + m) n e))) (w.drew.alloc (.cells (xs.toArray ++ ys.toArray ++ Builtin.zeroCells z.cells (grownCap w (n + m) n e - (n + m))) e (0, 0))) := by
    simp [execOp, resolve, invoke, builtin, ha.ev hx, ha.ev hy, hrg]
  unfold Oper.wp
  rw [hexec]
  have hsl : Sl i.size (.slice (some ⟨w.heap.size, 0, none⟩) (n + m) (grownCap w (n + m) n e)) (n + m) (xs ++ ys) [(w.heap.size, .cells (xs.toArray ++ ys.toArray ++ Builtin.zeroCells z.cells (grownCap w (n + m) n e - (n + m))) e (0, 0))] := by
    refine .inr ⟨w.heap.size, 0, _, (xs.toArray ++ ys.toArray ++ Builtin.zeroCells z.cells (grownCap w (n + m) n e - (n + m))).toList, e, rfl, by simp [blk], hge, hcm, ?_, ?_, ?_⟩
    · simp only [Array.length_toList, Array.size_append, List.size_toArray, size_zeroCells, hzs, hxl, hul, ← Nat.add_mul, Nat.zero_add]
      refine Nat.mul_le_mul_right _ ?_
      omega
    · simp [hxl, hul, Nat.add_mul]
    · intro j u hj
      have hlt : j < (xs ++ ys).length := (List.getElem?_eq_some_iff.1 hj).1
      rw [Nat.zero_add]
      simp only [Array.toList_append, List.append_assoc]
      rw [← List.append_assoc, List.getElem?_append_left (by simpa using hlt)]
      exact hj
  exact ⟨_, _, J, ha.put (C5 hd) _, St.alloc (w := w.drew) hw.drew _, k _ _ hsl⟩
end loud
def retZ (P : Program) (fn : Func) (A : Mem) (post : Value → Mem → Mem → Prop) : XQ
  | .ret, l, M, J => ∃ v M' B, Res P fn l (M ++ (J ++ A)) v ∧ Fit M (B ++ M') ∧ post v M' (B ++ J)
  | .normal, l, M, J => ∃ v M' B, Res P fn l (M ++ (J ++ A)) v ∧ Fit M (B ++ M') ∧ post v M' (B ++ J)
  | _, _, _, _ => False
theorem FnX.enterZ {P : Program} {f : FuncId} {fn : Func} {c : Code} {N : Nat} {args : List Value} {M A : Mem} {post : Value → Mem → Mem → Prop}
    (hf : P.funcs[f]? = some fn) (hb : fn.body = some c) (hn : fn.ntmps = N) (hN : Nat.ble args.length N = true)
    (h : ∀ w, XC ⟨P, w, M.map Prod.fst, A, N⟩ c (retZ P fn A post) (B8d args 0) M []) : FnX P f args M A post := by
  intro w hw
  refine calls_of_wp hf hb ?_
  have hle : args.length ≤ N := by simpa using hN
  refine Code.wp_mono ?_ (h w _ w ?_ hw.cx)
  · rintro e a' w' ⟨l, M', J, ha, hw', hq⟩
    cases e <;> first | exact hq.elim | skip
    all_goals
      obtain ⟨v, M2, B, hv, hM2, hp⟩ := hq
      exact ⟨ha.defers, v, hv N a' w' ha hw'.fx, v, M2, B ++ J, rfl, hp, (hw'.fit hM2 (fun _ h => h)).freezes.cx⟩
  · refine ⟨rfl, by simp [hn]; omega, ?_⟩
    intro i v hi
    obtain ⟨_, h2⟩ := A6Z args 0 i v hi
    simp only [Nat.sub_zero] at h2
    have hlt : i < args.length := (List.getElem?_eq_some_iff.1 h2).1
    rw [Array.getElem?_append_left (by simpa using hlt)]
    simpa using h2
theorem Fit.nil {M : Mem} : Fit M ([] ++ []) := Fit.sub (List.nil_sublist _)
theorem Fit.none {M M' : Mem} (h : Fit M M') : Fit M ([] ++ M') := h
instance PickC.two {M X Y R1 R : Mem} [h1 : PickC M X R1] [h2 : PickC R1 Y R] : PickC M (X ++ Y) R := ⟨h1.perm.trans (by rw [List.append_assoc]; exact h2.perm.append_left X)⟩
instance (priority := 50) PickC.left {D M B R : Mem} [h : PickC D B R] : PickC (D ++ M) B (R ++ M) := ⟨(List.Perm.append_right M h.perm).trans (by rw [List.append_assoc])⟩
instance (priority := 60) PickC.consB {M B R1 R : Mem} {x : Nat × Obj} [h1 : PickC M [x] R1] [h2 : PickC R1 B R] : PickC M (x :: B) R := ⟨h1.perm.trans (List.Perm.cons x h2.perm)⟩
theorem uL {B B' r : Mem} {b : Nat} {o o' : Obj} (h : Upd B b o o' B') : Upd (B ++ r) b o o' (B' ++ r) := by
  induction h with
  | hd => exact .hd
  | tl _ ih => exact .tl ih
instance (priority := 50) UpC.lft {b : Nat} {o o' : Obj} {B B' r : Mem} [h : UpC B b o o' B'] : UpC (B ++ r) b o o' (B' ++ r) := ⟨uL h.upd⟩
end Go.Px

namespace Go.Proofs.YtlilcmjbaknafaaGreatDoor
open Go.Px
structure Glb (A : Mem) : Prop where
  first : ∃ e f, (0, Obj.cells (nums .u32 A2G.list).toArray e f) ∈ A
  round : ∃ e f, (1, Obj.cells (nums .u32 A1X).toArray e f) ∈ A
  pow : ∃ e f, (4, Obj.cells (nums .u64 A0m).toArray e f) ∈ A
theorem Glb.sub {A A' : Mem} (h : Glb A) (hs : ∀ x, x ∈ A → x ∈ A') : Glb A' := by
  obtain ⟨⟨a, b, c⟩, ⟨d, e, f⟩, ⟨g, h, i⟩⟩ := h
  exact ⟨⟨a, b, hs _ c⟩, ⟨d, e, hs _ f⟩, ⟨g, h, hs _ i⟩⟩
theorem Glb.up {M J A : Mem} (h : Glb A) : Glb (M ++ (J ++ A)) := h.sub fun _ h => mA h
structure Ps where
  real : Bool
  seed : LN
  n : Nat
  ts : List Tm
def md (b : Bool) : Int := if b then 0 else 1
structure Prm (pb : Nat) (s : Ps) (M : Mem) : Prop where
  ex : ∃ (sv : Value) (bt bm : Nat) (B MT : Mem), M = (pb, blk [.int .u8 (md s.real), sv, (vI s.n), (vP bt)] 105) :: (B ++ MT) ∧ By B sv s.seed ∧ Tab bt bm s.ts MT
def G7 (w : LN) (n : Nat) : LN := w.take n ++ List.replicate (n - w.length) 0
theorem K6 (w : LN) (n : Nat) : (G7 w n).length = n := by simp [G7]; omega
theorem A1j {w : LN} (h : ∀ x ∈ w, x < 256) (n : Nat) : ∀ x ∈ G7 w n, x < 256 := by
  intro x hx
  rcases List.mem_append.1 hx with h1 | h1
  · exact h x (List.mem_of_mem_take h1)
  · rw [(List.mem_replicate.1 h1).2]; decide
def A82 (n : Nat) : LN := (List.range 8).map (byt ((n : Nat) : Int))
def B9O (seed : LN) (n : Nat) : LN := X8 (A6X [] seed) ([107, 101, 121] ++ A82 n) 32
def B75 (n : Nat) : Tm := ⟨1, [], [], (n : Int)⟩
def F2 (s : Ps) : Ps := if s.real then { s with n := s.n + 1 } else { s with n := s.n + 1, ts := add s.ts (B75 (s.n + 1)) }
def I9 (s : Ps) : LN := if s.real then B9O s.seed (s.n + 1) else bts ((at_ s.ts (B75 (s.n + 1)) : Nat) : Int)
theorem A5x {s : Ps} (h : s.real = true) : F2 s = { s with n := s.n + 1 } := if_pos h
theorem A25 {s : Ps} (h : s.real = false) : F2 s = { s with n := s.n + 1, ts := add s.ts (B75 (s.n + 1)) } := if_neg (by rw [h]; decide)
theorem A7Z {s : Ps} (h : s.real = true) : I9 s = B9O s.seed (s.n + 1) := if_pos h
theorem A5y {s : Ps} (h : s.real = false) : I9 s = bts ((at_ s.ts (B75 (s.n + 1)) : Nat) : Int) := if_neg (by rw [h]; decide)
theorem B0y (n : Nat) : ∀ x ∈ A82 n, x < 256 := by
  intro x hx
  obtain ⟨k, _, rfl⟩ := List.mem_map.1 hx
  exact B4X _ _
theorem A3G (key info : LN) (n : Int) : ∀ x ∈ X8 key info n, x < 256 := fun x hx => A9Z _ _ _ x (List.mem_of_mem_take hx)
theorem B0z (key info : LN) (n : Int) : (X8 key info n).length ≤ n.toNat := by unfold X8; exact List.length_take_le _ _
theorem A70 {n : Nat} (h : n ≤ 1099511627776) : Tmo (B75 n) := ⟨show 1 < 256 by decide, show i64 (n : Int) by unfold i64; omega, fun i hi => (List.not_mem_nil hi).elim, show 0 ≤ 1048576 by decide, ⟨fun x hx => (List.not_mem_nil hx).elim⟩, show 0 ≤ 1099511627776 by decide⟩
theorem B8F {R : Mem} {v : Value} {i : Int} (h : Rd R 1 v 32 (nums .u8 (bts i))) : By R v (bts i) := ⟨by rw [show (bts i).length = 32 from A0N i qO]; exact h, B3p i, by rw [show (bts i).length = 32 from A0N i qO]; decide⟩
theorem A0b (i : Int) (A : Mem) : FnX Tryz.prog 50 [.int .i64 i] [] A fun r M J => M = [] ∧ By J r (bts i) :=
  ((A8Z i A).mono (post' := fun r M J => J = [] ∧ By M r (bts i)) fun v M J ⟨h1, h2⟩ => ⟨h1, B8F (h2.rd fun _ h => h)⟩).frz0
theorem B0A (r : Bool) (v : Value) (seed : LN) (A : Mem) (hv : By A v seed) : FnX Tryz.prog 24 [.int .u8 (md r), v] [] A fun q M J => ∃ pb, q = .tuple #[(vP pb), .int .i64 0] ∧ Prm pb ⟨r, seed, 0, []⟩ M := by
 haveI := hv.cel
 have hvl := hv.len
 refine FnX.enterZ (N := 18) Tryz.func24 rfl rfl rfl fun w_ => ?_
 refine B4 (D3 0 1) (A1 (as_ (as_ (A0 (D3 0 1) (A3 ?_)))))
 cases r
 ·
  refine A1 (mv_ ?_)
  refine A2 (F4 true rfl rfl (neT qD)) rfl ?_
  refine mv_ ?_
  refine D6 rfl rfl (OpQ.opL qm_ rfl ?_)
  refine D6 rfl rfl (OpQ.opL (F4 false rfl rfl (neF qR)) rfl ?_)
  refine A2 (E2 rfl rfl) rfl ?_
  refine A0 (D8 0 1 11) ?_
  refine C9 rfl ?_
  refine A7 (nx (D3 0 1) (A1 (mv_ (mv_ ?_))))
  refine A4 rfl (G9 (e := 5) (sz := 1) (by_ := 1) rfl rfl kR rfl Sl.nil (hv.rd.mono qS) F3 qP (by unfold maxLen; omega) qO rfl fun v14 B14 hs14 => ?_)
  haveI := hs14.cel
  refine C7 a0 kR (A6n _) rfl ?_
  rintro v15 M15 J15 ⟨rfl, bt, bm, rfl, hT0⟩
  refine A2 (F6 (place := fun x => #[(0, 1), (1, 1), (2, 1), (3, 1)][x]?) (z := [.int .u8 0, vS, .int .i64 0, .pointer none]) (fun _ => by kernel_rfl) (eS rfl (eS rfl (eS rfl e0))) (bdS 0 1 rfl qR (bdS 1 1 rfl qR (bdS 3 1 rfl qR bd0)))) rfl ?_
  refine A4 rfl (bx_ fun b17 => ?_)
  refine as_ (as_ (A0 (D3 4 5) (B0 ?_)))
  refine ⟨_, (b17, _) :: (B14 ++ M15), [], A1U rfl rfl rfl, Fit.none (Fit.pick (B := [_]) qP (Fit.pick qP (Fit.last qP))), _, rfl, ⟨v14, bt, bm, B14, M15, rfl, ⟨?_, hv.lt, hv.len⟩, hT0⟩⟩
  have h := hs14.rd (R := B14) fun _ h => h
  simpa using h
 ·
  refine A1 (mv_ ?_)
  refine A2 (F4 false rfl rfl (neF qR)) rfl ?_
  refine mv_ ?_
  refine E7 rfl rfl rfl rfl ?_
  refine E7 rfl rfl rfl rfl ?_
  refine A2 (E3 rfl rfl) rfl ?_
  refine A0 (D8 0 1 11) ?_
  refine C9 rfl ?_
  refine A7 (nx (D3 0 1) (A1 (mv_ (mv_ ?_))))
  refine A4 rfl (G9 (e := 5) (sz := 1) (by_ := 1) rfl rfl kR rfl Sl.nil (hv.rd.mono qS) F3 qP (by unfold maxLen; omega) qO rfl fun v14 B14 hs14 => ?_)
  haveI := hs14.cel
  refine C7 a0 kR (A6n _) rfl ?_
  rintro v15 M15 J15 ⟨rfl, bt, bm, rfl, hT0⟩
  refine A2 (F6 (place := fun x => #[(0, 1), (1, 1), (2, 1), (3, 1)][x]?) (z := [.int .u8 0, vS, .int .i64 0, .pointer none]) (fun _ => by kernel_rfl) (eS rfl (eS rfl (eS rfl e0))) (bdS 0 1 rfl qR (bdS 1 1 rfl qR (bdS 3 1 rfl qR bd0)))) rfl ?_
  refine A4 rfl (bx_ fun b17 => ?_)
  refine as_ (as_ (A0 (D3 4 5) (B0 ?_)))
  refine ⟨_, (b17, _) :: (B14 ++ M15), [], A1U rfl rfl rfl, Fit.none (Fit.pick (B := [_]) qP (Fit.pick qP (Fit.last qP))), _, rfl, ⟨v14, bt, bm, B14, M15, rfl, ⟨?_, hv.lt, hv.len⟩, hT0⟩⟩
  have h := hs14.rd (R := B14) fun _ h => h
  simpa using h
theorem A0O (v : Value) (w : LN) (n : Nat) (A : Mem) (hv : By A v w) (hn : n ≤ 1000) : FnX Tryz.prog 54 [v, .int .i64 (n : Int)] [] A fun q M J => M = [] ∧ By J q (G7 w n) := by
 haveI := hv.cel
 have hvl := hv.len
 refine FnX.enterZ (N := 12) Tryz.func54 rfl rfl rfl fun w_ => ?_
 refine B4 (D3 0 1) (A1 (as_ (A0 (D3 0 1) (A1 (mv_ ?_)))))
 refine A4 rfl (A0I (by_ := 1) (k := .u8) (e := 5) n rfl rfl kR rfl rfl qO qO rfl fun b7 => ?_)
 refine as_ (A0 (D3 0 5) (A1 (mv_ (mv_ ?_))))
 refine A4 rfl (A3F (e := 5) (us := w) (ws := List.replicate n 0) (ws' := G7 w n) (by_ := 1) rfl rfl kR (hv.rd.mono qS) qM (by simp [G7]) UpC.upd rfl ?_)
 refine A0 (D5 5) (A1 (mv_ (as_ (A0 (D5 4) (B0 ?_)))))
 refine ⟨_, [], [(b7, blk (nums .u8 (G7 w n)) 5)], I4 rfl rfl, Fit.eq qM, ⟨rfl, ⟨?_, A1j hv.lt n, by rw [K6]; omega⟩⟩⟩
 rw [K6]
 exact Rd.whole (n := n) qK (by simp [K6])
theorem A4S (pb : Nat) (s : Ps) (v : Value) (w : LN) (MP A : Mem) (hP : Prm pb s MP) (hn : s.ts.length ≤ 1048576) (hv : By A v w) (hG : Glb A) : FnX Tryz.prog 55 [(vP pb), v] MP A fun q M J => q = .int .i64 ((rdI s.ts w : Nat) : Int) ∧ Prm pb { s with ts := rdT s.ts w } M := by
 obtain ⟨sv, bt, bm, B, MT, rfl, hby, hT⟩ := hP.ex
 obtain ⟨⟨ge0, gf0, h0⟩, ⟨ge1, gf1, h1⟩, ⟨ge4, gf4, h4⟩⟩ := hG
 haveI := hv.cel
 have hvl := hv.len
 refine FnX.enterZ (N := 11) Tryz.func55 rfl rfl rfl fun w_ => ?_
 refine B4 (D3 0 1) (A1 (as_ (A0 (D3 0 1) (A1 (mv_ ?_)))))
 refine A2 (E4 rfl) rfl ?_
 refine A2 (qf_ 3 3) rfl ?_
 refine A2 ql_ rfl ?_
 refine mv_ ?_
 refine A4 rfl (C6 (Mc := MT) (R := _) (aS rfl (aS rfl a0)) kR qP (A6p bt bm s.ts v w MT _ hT hn (hv.rd.mono qS) hv.lt qO (mA h4)) rfl ?_)
 rintro v10 M10 J10 ⟨rfl, rfl, hT10⟩
 refine as_ (A0 (D5 4) (B0 ?_))
 exact ⟨_, (pb, blk [.int .u8 (md s.real), sv, .int .i64 (((s.n : Nat) : Int)), (vP bt)] 105) :: (B ++ M10), [], I4 rfl rfl, (Fit.none (Fit.pick (B := [_]) qP (Fit.pick qP (Fit.last qP)))), rfl, ⟨sv, bt, bm, B, M10, rfl, hby, hT10⟩⟩
theorem A1p (pb : Nat) (s : Ps) (MP A : Mem) (hP : Prm pb s MP) (hn : s.ts.length ≤ 1048576) (hk : s.n < 1099511627776) (hG : Glb A) : FnX Tryz.prog 25 [(vP pb)] MP A fun q M J => Prm pb (F2 s) M ∧ By J q (I9 s) := by
 obtain ⟨sv, bt, bm, B, MT, rfl, hby, hT⟩ := hP.ex
 obtain ⟨⟨ge0, gf0, h0⟩, ⟨ge1, gf1, h1⟩, ⟨ge4, gf4, h4⟩⟩ := hG
 haveI := hby.cel
 refine FnX.enterZ (N := 55) Tryz.func25 rfl rfl rfl fun w_ => ?_
 refine B4 (D5 0) (A1 (as_ (A0 (D5 0) (A3 (A1 (mv_ ?_))))))
 refine A2 (G5 (e := 105) rfl rfl kR) rfl ?_
 refine A0 (D3 0 6) ?_
 refine C9 rfl ?_
 refine A7 (nx (D5 0) (A1 (mv_ ?_)))
 refine A2 (E4 rfl) rfl ?_
 refine A2 (qf_ 2 2) rfl ?_
 refine A2 ql_ rfl ?_
 refine A2 (I5 (b := 1) rfl rfl rfl rfl qO) rfl ?_
 refine A2 (E4 rfl) rfl ?_
 refine A2 (qf_ 2 2) rfl ?_
 refine A4 rfl (E0 rfl rfl rfl kR SetC.set UpC.upd ?_)
 refine A0 (D5 0) (A3 (A1 (mv_ ?_)))
 refine A2 (E4 rfl) rfl ?_
 refine A2 (qf_ 0 0) rfl ?_
 refine A2 ql_ rfl ?_
 refine A2 (D9 rfl rfl rfl) rfl ?_
 refine A0 (D3 0 18) ?_
 refine C0 rfl ?_ ?_ <;> intro hc
 ·
  have hr : s.real = true := by cases hq : s.real with | true => rfl | false => rw [hq] at hc; exact absurd hc qD
  refine A1 (as_ (A0 (D3 0 3) (A3 (A1 (mv_ (A0 (D8 0 3 19) (A5 ?_)))))))
  refine E1 (α := Nat × Value × Mem) (fun x => [(0, (vP pb)), (3, x.2.1), (19, (vI x.1))]) (fun x => x.2.2 ++ ((pb, blk [.int .u8 (md s.real), sv, .int .i64 (((s.n + 1 : Nat) : Int)), (vP bt)] 105) :: (B ++ MT))) (fun _ => []) (fun x => x.1 ≤ 8 ∧ Sl 1 x.2.1 x.1 (nums .u8 ((List.range x.1).map (byt ((s.n + 1 : Nat) : Int)))) x.2.2) (fun x => 8 - x.1) ⟨0, vS, []⟩ ⟨Nat.zero_le _, Sl.nil⟩ (D8 0 3 19) .rfl qI ?_
  rintro ⟨i, v3, B3⟩ ⟨hi, hs3⟩
  dsimp only at hi hs3 ⊢
  haveI := hs3.cel
  refine A1 ?_
  refine A2 (D9 rfl rfl rfl) rfl ?_
  refine A0 (D7 0 3 19 20) (A3 ?_)
  refine C0 rfl ?_ ?_ <;> intro hc
  ·
   have hlt : i < 8 := by simp at hc; omega
   refine A7 (nx (D8 0 3 19) (A3 (A5 (A1 (mv_ (as_ (A0 (D7 0 3 4 19) (A9 ?_))))))))
   refine mv_ (mv_ ?_)
   refine A2 (E4 rfl) rfl ?_
   refine A2 (qf_ 2 2) rfl ?_
   refine A2 ql_ rfl ?_
   refine mv_ ?_
   refine A2 (A0Y (a := 8) rfl rfl rfl rfl qO) rfl ?_
   refine A2 (B0q (k := i) rfl rfl rfl hlt) rfl ?_
   refine A2 (B0r rfl kR) rfl ?_
   refine A4 rfl (C4 (e := 5) (sz := 1) (z := [.int .u8 0]) kR (eS rfl e0) (bdS 0 1 rfl qR bd0) rfl fun b31 => ?_)
   refine A4 rfl (G9 (e := 5) (sz := 1) (by_ := 1) rfl rfl kR rfl (by first | assumption | exact Sl.nil) (Rd.whole (n := 1) At.mem qR) (by first | (simp [Value.oneCell']; done) | (intro c hc; simp only [List.mem_singleton] at hc; subst hc; first | exact Rd.one (by assumption) | exact Sl.one (by assumption))) qP (by unfold maxLen; omega) qO rfl fun v32 B32 hs32 => ?_)
   refine as_ (C1 (nb (nx (D8 0 3 19) (A9 ?_))))
   refine A2 (I5 (b := 1) rfl rfl rfl rfl qO) rfl ?_
   refine mv_ (C1 ?_)
   exact rn ⟨i + 1, v32, B32⟩ ⟨by dsimp only; omega, by dsimp only; rw [List.range_succ, List.map_append, H6]; exact hs32⟩ (by dsimp only; omega) (D8 0 3 19) (Fit.pick qP (Fit.pick (B := [_]) qP (Fit.last qP))) (fun _ h => by cases h)
  ·
   have hge : i = 8 := by simp at hc; omega
   subst hge
   refine D4 (te (re (be rfl (nx (D3 0 3) (A1 (mv_ ?_))))))
   refine A2 (E4 rfl) rfl ?_
   refine A2 (qf_ 1 1) rfl ?_
   refine A2 ql_ rfl ?_
   refine C7 (aS rfl (aS rfl a0)) kR ((A2J (vS) sv [] s.seed _ Rd.nil (fun x h => by cases h) qM (hby.rd.mono qS) hby.lt (by have := hby.len; omega) (mA h0) (mA h1)).frz0) rfl ?_
   rintro v38 M38 J38 ⟨rfl, h38⟩
   refine A4 rfl (C4 (e := 5) (sz := 1) (z := [zu8, zu8, zu8]) kR (eS rfl (eS rfl (eS rfl e0))) (bdS 0 1 rfl qR (bdS 1 1 rfl qR (bdS 2 1 rfl qR bd0))) rfl fun b39 => ?_)
   refine A4 rfl (A2I rfl kR UpC.upd rfl ?_)
   refine mv_ ?_
   refine A4 rfl (A6r (e := 5) (sz := 1) (by_ := 1) (xs := nums .u8 [107, 101, 121]) rfl rfl kR rfl (Rd.whole (n := 3) At.mem qR) (hs3.rd qS) qD qD qD rfl fun v42 B42 hs42 => ?_)
   have hs42 : Sl 1 v42 ([107, 101, 121] ++ A82 (s.n + 1)).length (nums .u8 ([107, 101, 121] ++ A82 (s.n + 1))) B42 := X6 hs42 (by simp [A82]) (by rw [H6]; rfl)
   refine C7 (aS rfl (aS rfl (aS rfl a0))) kR ((A3s v38 v42 (A6X [] s.seed) ([107, 101, 121] ++ A82 (s.n + 1)) 32 _ (by rw [A0J]; exact (h38.rd qS)) (A3r _ _) (by rw [A0J]; decide) (hs42.rd qS) (fun x hx => by rcases List.mem_append.1 hx with h | h; (simp at h; omega); exact B0y _ x h) (by simp [A82]) qD qD (mA h0) (mA h1)).frz0) rfl ?_
   rintro v43 M43 J43 ⟨rfl, h43⟩
   refine as_ (A0 (D5 2) (B0 (tr ?_)))
   exact ⟨_, (pb, blk [.int .u8 (md s.real), sv, .int .i64 (((s.n + 1 : Nat) : Int)), (vP bt)] 105) :: (B ++ MT), [], I4 rfl rfl, (Fit.none (Fit.pick (B := [_]) qP (Fit.pick qP (Fit.last qP)))), by rw [A5x hr]; exact ⟨sv, bt, bm, B, MT, rfl, hby, hT⟩, by rw [A7Z hr]; exact ⟨h43.mono qS, A3G _ _ _, Nat.le_trans (B0z _ _ _) qD⟩⟩
 ·
  have hr : s.real = false := by cases hq : s.real with | false => rfl | true => rw [hq] at hc; exact absurd hc qD
  refine A7 (nx (D5 0) ?_)
  refine D2 [0, 1, 2, 3, 4, 5, 6, 7, 8, 11] (zp 0 [0, 0, 0, 1, 0, 0, 0, 1, 0, 2, 2, 0]) kR kR fun hs => ?_
  refine fm_ hs ?_
  refine C2 hs rfl (E4 rfl) rfl ?_
  refine C2 hs rfl (qf_ 3 3) rfl ?_
  refine H2 hs rfl ql_ rfl ?_
  refine fm_ hs ?_
  refine C2 hs rfl (E4 rfl) rfl ?_
  refine C2 hs rfl (qf_ 2 2) rfl ?_
  refine H2 hs rfl ql_ rfl ?_
  refine C2 hs rfl (F6 (place := fun x => #[(0, 1), (1, 1), (2, 1), (3, 1)][x]?) (z := [.int .u8 0, vS, .string ByteArray.empty, .int .i64 0]) (fun _ => by kernel_rfl) (eS rfl (eS rfl e0)) (bdS 0 1 rfl qR (bdS 3 1 rfl qR bd0))) rfl ?_
  refine G2 rfl rfl rfl (C6 (Mc := MT) (R := _) (aS rfl (aS rfl a0)) kR qP (U9 bt bm s.ts (vS) (B75 (s.n + 1)) MT _ hT hn Rd.nil (A70 qO) (mA h4)) rfl ?_)
  rintro v53 M53 J53 ⟨rfl, rfl, hT53⟩
  refine G2 rfl rfl rfl (I1 (aS rfl a0) kR (A0b _ _) rfl ?_)
  rintro v54 M54 J54 ⟨rfl, h54⟩
  refine fa_ hs ?_
  refine E9 (D5 2) (B0 ?_)
  exact ⟨_, (pb, blk [.int .u8 (md s.real), sv, .int .i64 (((s.n + 1 : Nat) : Int)), (vP bt)] 105) :: (B ++ M53), [], I4 rfl rfl, (Fit.none (Fit.pick (B := [_]) qP (Fit.pick qP (Fit.last qP)))), by rw [A25 hr]; exact ⟨sv, bt, bm, B, M53, rfl, hby, hT53⟩, by rw [A5y hr]; exact h54.mono qS⟩

end Go.Proofs.YtlilcmjbaknafaaGreatDoor
