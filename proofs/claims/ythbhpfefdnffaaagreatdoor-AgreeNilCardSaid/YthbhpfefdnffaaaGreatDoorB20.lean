/- The card of the law AgreeNil: it returns true for every input; each argument reads behind the call as it read before; the listed package variables are tied to the program's text. No further condition. -/
import Derived.Test.YthbhpfefdnffaaaGreatDoorB19
import Derived.Lib.LaidTab
import Derived.Stop.LaidErr
import Derived.MakeChecks
import Derived.Test.YthbhpfefdnffaaaGreatDoorCards
import Derived.Test.YthbhpfefdnffaaaGreatDoorTie
import Derived.Deep.DeepHandedRow
import Derived.Deep.DeepWitnessRowRef
import Derived.Lay
import Derived.LaidMore
set_option linter.unusedVariables false
set_option linter.unusedSimpArgs false
set_option maxRecDepth 100000
namespace Go.Proofs.YthbhpfefdnffaaaGreatDoor
open Go.Px
theorem five (h : He) : h.signed ≠ 1 ∨ (h.signed = 1 ∧ h.has = false) ∨ (h.signed = 1 ∧ h.has = true ∧ h.once < 2) ∨ (h.signed = 1 ∧ h.has = true ∧ 5 < h.once) ∨ (h.signed = 1 ∧ h.has = true ∧ 2 ≤ h.once ∧ h.once ≤ 5) := by
  cases h.has <;> simp <;> omega
theorem A03 {k : Ks} {x : Pr} {s : Ps} {h : He} (hsg : k.signed = [x]) (hxn : x.n = 1) (hon : onN k = [2, 3, 4, 5]) : (anR k h s).1.isSome = (decide (h.signed = 1) && (!h.has || decide (2 ≤ h.once ∧ h.once ≤ 5))) := by
  unfold onN at hon
  rw [B4m, A8x, A8x, hsg, hon]
  congr 1
  · simp [hxn]
  · congr 1
    rw [decide_eq_decide]
    simp
    omega
theorem B1Y (pb : Nat) (xu xd : Int) (xa xg xk xs xc : Value) (xn xo : Nat) (xh : Bool) (fa : Cel xa [xa]) (fg : Cel xg [xg]) (fk : Cel xk [xk]) (fs : Cel xs [xs]) (fc : Cel xc [xc]) (A : Mem) : FnV Tryz.prog 20 [.pointer (some ⟨pb, 0, none⟩), .pointer none, .agg #[.int .i64 xu, .int .i64 xd, xa, xg, .int .u32 ((xn : Nat) : Int), xk, xs, .bool xh, .int .u32 ((xo : Nat) : Int), xc]] A (.tuple #[.slice none 0 0, .agg #[.slice none 0 0, .slice none 0 0, .slice none 0 0, .int .u32 0, .bool false, .int .u32 0], .int .i64 2]) := by
 refine FnX.enterZ (N := 74) Tryz.func20 rfl rfl rfl fun w_ => ?_
 refine C4 (E1 0 1 2) (A3 ?_)
 refine A6 rfl (bx_ fun b5 => ?_)
 refine as_ ?_
 refine A6 rfl (C5 (cs := [.slice none 0 0, .slice none 0 0, .slice none 0 0, .int .u32 0, .bool false, .int .u32 0]) kR rfl fun b7 => ?_)
 refine as_ (A0 (E9 0 1 5 7) (A5 (A3 (mv_ ?_))))
 refine A4 (E6 (e := 114) rfl rfl kR) rfl ?_
 refine mv_ ?_
 refine H4 rfl rfl rfl rfl ?_
 refine H4 rfl rfl rfl rfl ?_
 refine A4 (D7 rfl rfl) rfl ?_
 refine A0 (F9 0 1 5 7 17) ?_
 refine E0 rfl ?_
 refine A3 ?_
 refine A4 (F6 (place := fun x => #[(0, 2), (2, 1), (3, 1), (4, 1), (5, 1)][x]?) (z := [.slice none 0 0, .slice none 0 0, .slice none 0 0, .int .u32 0, .bool false, .int .u32 0]) (fun _ => by kernel_rfl) e0 bd0) rfl ?_
 refine as_ ?_
 refine A6 rfl (A8 (vs := [.slice none 0 0, .slice none 0 0, .slice none 0 0, .int .u32 0, .bool false, .int .u32 0]) rfl rfl rfl kR (by rfl) al6 UpC.upd ?_)
 refine as_ (A0 (E1 6 7 8) (C1 (tr ?_)))
 exact ⟨_, [], [], A6A (n := 6) rfl rfl rfl rfl kR At.mem (by rfl), Fit.sub (List.nil_sublist _), rfl, rfl, rfl⟩
theorem A9o (pb : Nat) (h : He) (wa wg wk : Value) (ga : Cel wa [wa]) (gg : Cel wg [wg]) (gk : Cel wk [wk]) (A : Mem) : FnV Tryz.prog 23 [.pointer (some ⟨pb, 0, none⟩), .pointer none, .agg #[wa, wg, wk, .int .u32 ((h.signed : Nat) : Int), .bool h.has, .int .u32 ((h.once : Nat) : Int)]] A (.tuple #[.slice none 0 0, .slice none 0 0, .int .i64 2]) := by
 refine FnX.enterZ (N := 70) Tryz.func23 rfl rfl rfl fun w_ => ?_
 refine C4 (E1 0 1 2) (A3 ?_)
 refine A6 rfl (bx_ fun b5 => ?_)
 refine as_ (as_ (as_ (A0 (E1 0 1 5) (A5 (A3 (mv_ ?_))))))
 refine A4 (E6 (e := 114) rfl rfl kR) rfl ?_
 refine mv_ ?_
 refine H4 rfl rfl rfl rfl ?_
 refine H4 rfl rfl rfl rfl ?_
 refine A4 (D7 rfl rfl) rfl ?_
 refine A0 (E9 0 1 5 19) ?_
 refine E0 rfl ?_
 refine A3 (as_ (as_ (as_ (A0 (E1 6 7 8) (C1 (tr ?_))))))
 exact ⟨_, [], [], B9v rfl rfl rfl rfl, Fit.sub (List.nil_sublist _), rfl, rfl, rfl⟩
theorem B1Z (pb : Nat) (xu xd : Int) (xa xg xk xs xc : Value) (xn xo : Nat) (xh : Bool) (fa : Cel xa [xa]) (fg : Cel xg [xg]) (fk : Cel xk [xk]) (fs : Cel xs [xs]) (fc : Cel xc [xc]) (A : Mem) : FnV Tryz.prog 20 [.pointer none, .pointer (some ⟨pb, 0, none⟩), .agg #[.int .i64 xu, .int .i64 xd, xa, xg, .int .u32 ((xn : Nat) : Int), xk, xs, .bool xh, .int .u32 ((xo : Nat) : Int), xc]] A (.tuple #[.slice none 0 0, .agg #[.slice none 0 0, .slice none 0 0, .slice none 0 0, .int .u32 0, .bool false, .int .u32 0], .int .i64 2]) := by
 refine FnX.enterZ (N := 74) Tryz.func20 rfl rfl rfl fun w_ => ?_
 refine C4 (E1 0 1 2) (A3 ?_)
 refine A6 rfl (bx_ fun b5 => ?_)
 refine as_ ?_
 refine A6 rfl (C5 (cs := [.slice none 0 0, .slice none 0 0, .slice none 0 0, .int .u32 0, .bool false, .int .u32 0]) kR rfl fun b7 => ?_)
 refine as_ (A0 (E9 0 1 5 7) (A5 (A3 (mv_ ?_))))
 refine A4 (E6 (e := 114) rfl rfl kR) rfl ?_
 refine mv_ ?_
 refine C6 rfl rfl (OpQ.opL qm_ rfl ?_)
 refine C6 rfl rfl (OpQ.opL (E6 (e := 117) rfl rfl kR) rfl ?_)
 refine A4 (E2 rfl rfl) rfl ?_
 refine A0 (F9 0 1 5 7 17) ?_
 refine E0 rfl ?_
 refine A3 ?_
 refine A4 (F6 (place := fun x => #[(0, 2), (2, 1), (3, 1), (4, 1), (5, 1)][x]?) (z := [.slice none 0 0, .slice none 0 0, .slice none 0 0, .int .u32 0, .bool false, .int .u32 0]) (fun _ => by kernel_rfl) e0 bd0) rfl ?_
 refine as_ ?_
 refine A6 rfl (A8 (vs := [.slice none 0 0, .slice none 0 0, .slice none 0 0, .int .u32 0, .bool false, .int .u32 0]) rfl rfl rfl kR (by rfl) al6 UpC.upd ?_)
 refine as_ (A0 (E1 6 7 8) (C1 (tr ?_)))
 exact ⟨_, [], [], A6A (n := 6) rfl rfl rfl rfl kR At.mem (by rfl), Fit.sub (List.nil_sublist _), rfl, rfl, rfl⟩
theorem A9p (pb : Nat) (h : He) (wa wg wk : Value) (ga : Cel wa [wa]) (gg : Cel wg [wg]) (gk : Cel wk [wk]) (A : Mem) : FnV Tryz.prog 23 [.pointer none, .pointer (some ⟨pb, 0, none⟩), .agg #[wa, wg, wk, .int .u32 ((h.signed : Nat) : Int), .bool h.has, .int .u32 ((h.once : Nat) : Int)]] A (.tuple #[.slice none 0 0, .slice none 0 0, .int .i64 2]) := by
 refine FnX.enterZ (N := 70) Tryz.func23 rfl rfl rfl fun w_ => ?_
 refine C4 (E1 0 1 2) (A3 ?_)
 refine A6 rfl (bx_ fun b5 => ?_)
 refine as_ (as_ (as_ (A0 (E1 0 1 5) (A5 (A3 (mv_ ?_))))))
 refine A4 (E6 (e := 114) rfl rfl kR) rfl ?_
 refine mv_ ?_
 refine C6 rfl rfl (OpQ.opL qm_ rfl ?_)
 refine C6 rfl rfl (OpQ.opL (E6 (e := 117) rfl rfl kR) rfl ?_)
 refine A4 (E2 rfl rfl) rfl ?_
 refine A0 (E9 0 1 5 19) ?_
 refine E0 rfl ?_
 refine A3 (as_ (as_ (as_ (A0 (E1 6 7 8) (C1 (tr ?_))))))
 exact ⟨_, [], [], B9v rfl rfl rfl rfl, Fit.sub (List.nil_sublist _), rfl, rfl, rfl⟩
theorem A9q (m : Nat) (h : He) (wa wg wk : Value) (xu xd : Int) (xa xg xk xs xc : Value) (xn xo : Nat) (xh : Bool) (ya yg yk ys yc : List Nat) (A : Mem) (hm : m < 256) (ia : Byi A wa h.ia) (ig : Byi A wg h.ig) (ik : Byi A wk h.key) (ja : Byi A xa ya) (jg : Byi A xg yg) (jk : Byi A xk yk) (js : Byi A xs ys) (jc : Byi A xc yc) (q0 : h.key.length ≤ reachBytes) (q1 : h.ia.length ≤ reachBytes) (q2 : yk.length ≤ reachBytes) (q3 : ys.length ≤ reachBytes) (q4 : yg.length ≤ reachBytes) (hsn : h.signed < 4294967296) (hon : h.once < 4294967296) (hG : Glb A) : FnV Tryz.prog 5 [.int .u8 ((m : Nat) : Int), .agg #[wa, wg, wk, .int .u32 ((h.signed : Nat) : Int), .bool h.has, .int .u32 ((h.once : Nat) : Int)], .agg #[.int .i64 xu, .int .i64 xd, xa, xg, .int .u32 ((xn : Nat) : Int), xk, xs, .bool xh, .int .u32 ((xo : Nat) : Int), xc]] A (.bool true) := by
 haveI := ia.cel
 haveI := ig.cel
 haveI := ik.cel
 haveI := ja.cel
 haveI := jg.cel
 haveI := jk.cel
 haveI := js.cel
 haveI := jc.cel
 unfold reachBytes at q0 q1 q2 q3 q4
 refine FnX.enter (N := 152) Tryz.func5 rfl rfl rfl fun w_ => ?_
 refine C4 (E1 0 1 2) (A3 ?_)
 refine A6 rfl (bx_ fun b4 => ?_)
 refine A6 rfl (bx_ fun b5 => ?_)
 refine as_ (A0 (E1 0 4 5) (A5 (A3 ?_)))
 refine G1 a0 kR (A6B _ hG.up) rfl ?_
 refine A4 (V3 rfl) rfl ?_
 refine mv_ ?_
 refine C6 rfl rfl (OpQ.opL (qf_ 2 2) rfl ?_)
 refine C6 rfl rfl (OpQ.opL ql_ rfl ?_)
 refine C6 rfl rfl (OpQ.opL (H6 (sz := 1) rfl kR ik.rd) rfl ?_)
 refine C6 rfl rfl (OpQ.opL (qf_ 0 0) rfl ?_)
 refine C6 rfl rfl (OpQ.opL (qf_ 0 0) rfl ?_)
 refine C6 rfl rfl (OpQ.opL ql_ rfl ?_)
 refine C6 rfl rfl (OpQ.opL (H6 (sz := 1) rfl kR ia.rd) rfl ?_)
 refine C6 rfl rfl (OpQ.opL (E5 ((h.key.length + h.ia.length : Nat) : Int) rfl rfl (G3 (by omega) (by omega) (by omega))) rfl ?_)
 refine C6 rfl rfl (OpQ.opL (qf_ 5 5) rfl ?_)
 refine C6 rfl rfl (OpQ.opL ql_ rfl ?_)
 refine C6 rfl rfl (OpQ.opL (H6 (sz := 1) rfl kR jk.rd) rfl ?_)
 refine C6 rfl rfl (OpQ.opL (E5 ((h.key.length + h.ia.length + yk.length : Nat) : Int) rfl rfl (G3 (by omega) (by omega) (by omega))) rfl ?_)
 refine C6 rfl rfl (OpQ.opL (qf_ 6 6) rfl ?_)
 refine C6 rfl rfl (OpQ.opL ql_ rfl ?_)
 refine C6 rfl rfl (OpQ.opL (H6 (sz := 1) rfl kR js.rd) rfl ?_)
 refine C6 rfl rfl (OpQ.opL (E5 ((h.key.length + h.ia.length + yk.length + ys.length : Nat) : Int) rfl rfl (G3 (by omega) (by omega) (by omega))) rfl ?_)
 refine C6 rfl rfl (OpQ.opL (qf_ 2 2) rfl ?_)
 refine C6 rfl rfl (OpQ.opL (qf_ 3 1) rfl ?_)
 refine C6 rfl rfl (OpQ.opL ql_ rfl ?_)
 refine C6 rfl rfl (OpQ.opL (H6 (sz := 1) rfl kR jg.rd) rfl ?_)
 refine C6 rfl rfl (OpQ.opL (E5 ((h.key.length + h.ia.length + yk.length + ys.length + yg.length : Nat) : Int) rfl rfl (G3 (by omega) (by omega) (by omega))) rfl ?_)
 refine C6 rfl rfl (OpQ.opL (F5 rfl rfl rfl) rfl ?_)
 refine A4 (E2 rfl rfl) rfl ?_
 refine A0 (E9 0 4 5 49) ?_
 refine C7 rfl (fun hc => ?_) (fun hc => ?_)
 ·
  refine A3 ?_
  refine G1 a0 kR (A6B _ hG.up) rfl ?_
  refine as_ (A0 (D8 6) (C1 (tr ?_)))
  exact ⟨_, [], [], I2 rfl rfl, List.nil_sublist _, by simp, rfl, rfl, rfl⟩
 ·
  have hlen : h.key.length + h.ia.length + yk.length + ys.length + yg.length ≤ 500 := by simp at hc; omega
  have gh : HeR A h wa wg wk := ⟨ia.by (by omega), ig, ik.by (by omega), hsn, hon⟩
  refine A9 (nx (E1 0 4 5) (A3 (mv_ ?_)))
  refine D0 (aS rfl a0) kR (A8E m _ hm hG.up) rfl ?_
  rintro v29 M29 J29 ⟨tb, pb, ka, kb, MA, MB, MP, rfl, rfl, hKa, hKb, hP⟩
  have hF := A8D (m)
  generalize (oA (m)).1 = ak at *
  generalize (oB (m)).1 = bk at *
  generalize (oB (m)).2 = s at *
  obtain ⟨x, hsg, hxn, hxl⟩ := hF.sg
  have hol := B5s bk
  rw [hF.on] at hol
  change 4 = _ at hol
  have hts := hF.ts
  have hsn := hF.n
  have hrise : B5r bk.once := B1N (by rw [show bk.once.map (·.n) = onN bk from rfl, hF.on]; decide)
  refine as_ (A0 (E1 4 5 7) ?_)
  refine A0L (B := [(tb, blk [.pointer (some ⟨pb, 0, none⟩), .pointer (some ⟨ka, 0, none⟩), .pointer (some ⟨kb, 0, none⟩)] 37)]) PickC.perm ?_
  refine A0L (B := MA) PickC.perm ?_
  refine A0L (B := MB) PickC.perm ?_
  refine A0L (B := [(b4, blk [wa, wg, wk, .int .u32 ((h.signed : Nat) : Int), .bool h.has, .int .u32 ((h.once : Nat) : Int)] 43)]) PickC.perm ?_
  refine A0L (B := [(b5, blk [.int .i64 xu, .int .i64 xd, xa, xg, .int .u32 ((xn : Nat) : Int), xk, xs, .bool xh, .int .u32 ((xo : Nat) : Int), xc] 32)]) PickC.perm ?_
  obtain ⟨ua, ug, uq, uo, um, ss, so, sm, hrb⟩ := hKb.r
  have hlb := (hrb _ (fun _ h => List.mem_append_left MB h) (fun _ h => List.mem_append_right _ h)).lt
  refine K0 ([]) (_) true [0, 1, 2, 3, 4, 5, 6, 7, 8, 9, 10, 11, 13] [(0, 0), (1, 0), (2, 0), (3, 1), (4, 1), (5, 8), (6, 8), (7, 8), (10, 8), (8, 9), (9, 10), (11, 0), (12, 2), (13, 0)] kR kR PickC.perm fun hs K n0 hKm hKs hKn => ?_
  refine km_ hs ?_
  refine L6 hs rfl (G6 rfl) rfl ?_
  refine L6 hs rfl (qf_ 0 0) rfl ?_
  refine R9 hs rfl hKs ql_ ?_
  refine R9 hs rfl hKs (qw_ 10) ?_
  refine A3K [⟨5, 59, none, [], fun v B R => B = [] ∧ v = .tuple #[.slice none 0 0, .agg #[.slice none 0 0, .slice none 0 0, .slice none 0 0, .int .u32 0, .bool false, .int .u32 0], .int .i64 2]⟩, ⟨6, 53, none, [], fun v B R => B = [] ∧ v = .tuple #[.slice none 0 0, .agg #[.slice none 0 0, .slice none 0 0, .slice none 0 0, .int .u32 0, .bool false, .int .u32 0], .int .i64 2]⟩, ⟨7, 60, none, [], fun v B R => B = [] ∧ v = .slice none 0 0⟩, ⟨10, 9, none, [], fun v B _ => ∃ b, v = .pointer (some ⟨b, 0, none⟩) ∧ B = [(b, blk [.slice none 0 0, .slice none 0 0, .slice none 0 0, .int .u32 0, .bool false, .int .u32 0] 43)]⟩] [⟨8, 61, none, [], fun v B R => B = [] ∧ v = .agg #[.slice none 0 0, .slice none 0 0, .slice none 0 0, .int .u32 0, .bool false, .int .u32 0]⟩, ⟨9, 62, none, [], fun v B R => B = [] ∧ v = .int .i64 2⟩] (MP) (fun bs => [bs 5, bs 6, bs 7, bs 10, bs 8, bs 9]) (hKn rfl) (by simp [A1t, A1X]) (show ∀ m ∈ ([[], [], [], [], [], []] : List Mem), ∀ x ∈ m, K x.1 from C3 (hKm) (C3 (fun _ h => by cases h) (C3 (fun _ h => by cases h) (C3 (fun _ h => by cases h) (C3 (fun _ h => by cases h) (C3 (fun _ h => by cases h) (L1))))))) kR (fun _ => by first | rfl | kernel_rfl)
   (C3 (fun _ _ _ _ _ h => h) (C3 (fun _ _ _ _ _ h => h) (C3 (fun _ _ _ _ _ h => h) (C3 (fun _ _ _ _ _ h => h) (C3 (fun _ _ _ _ _ h => h) (C3 (fun _ _ _ _ _ h => h) (L1))))))) (show List.Nodup [59, 53, 60, 9, 61, 62] by decide) (show List.Nodup [5, 6, 7, 10, 8, 9] by decide) (C3 (C9 rfl) (C3 (C9 rfl) (C3 (C9 rfl) (C3 (C9 rfl) (C3 (C9 rfl) (C3 (C9 rfl) (L1)))))))
   hs (List.cons_ne_nil _ _) (C3 ⟨_, rfl, fun vs bs R Rj wG hb hj hjr ha => ⟨.inl rfl, ?_⟩⟩ (C3 ⟨_, rfl, fun vs bs R Rj wG hb hj hjr ha => ⟨.inl rfl, ?_⟩⟩ (C3 ⟨_, rfl, fun vs bs R Rj wG hb hj hjr ha => ⟨.inl rfl, ?_⟩⟩ (C3 ⟨_, rfl, fun vs bs R Rj wG hb hj hjr ha => ⟨.inl rfl, ?_⟩⟩ (L1))))) (C3 ⟨rfl, rfl, _, _, _, _, rfl, fun vs bs Rj hj ha => ?_⟩ (C3 ⟨rfl, rfl, _, _, _, _, rfl, fun vs bs Rj hj ha => ?_⟩ (L1))) ?_
  ·
   dsimp only [Gc.inp]
   exact T3 (aS rfl (aS rfl (aS rfl (a0)))) kR (B1Y pb xu xd xa xg xk xs xc xn xo xh ja.cel jg.cel jk.cel js.cel jc.cel _) rfl ⟨_, rfl, rfl, rfl⟩
  ·
   dsimp only [Gc.inp]
   have g5 := ha _ (List.mem_of_getElem? (i := 0) rfl) kR
   replace g5 : (fun v B R => B = [] ∧ v = .tuple #[.slice none 0 0, .agg #[.slice none 0 0, .slice none 0 0, .slice none 0 0, .int .u32 0, .bool false, .int .u32 0], .int .i64 2]) (vs 5) (bs 5) Rj := g5
   dsimp only at g5
   obtain ⟨-, k⟩ := g5
   exact OpQ.opL qm_ rfl ⟨_, rfl, rfl, k⟩
  ·
   dsimp only [Gc.inp]
   have g6 := ha _ (List.mem_of_getElem? (i := 1) rfl) kR
   replace g6 : (fun v B R => B = [] ∧ v = .tuple #[.slice none 0 0, .agg #[.slice none 0 0, .slice none 0 0, .slice none 0 0, .int .u32 0, .bool false, .int .u32 0], .int .i64 2]) (vs 6) (bs 6) Rj := g6
   dsimp only at g6
   obtain ⟨-, e⟩ := g6
   exact OpQ.opL (K1 (vs := #[.slice none 0 0, .agg #[.slice none 0 0, .slice none 0 0, .slice none 0 0, .int .u32 0, .bool false, .int .u32 0], .int .i64 2]) (by rw [← e]; rfl) rfl) rfl ⟨_, rfl, rfl, rfl⟩
  ·
   dsimp only [Gc.inp]
   exact C5 (cs := [.slice none 0 0, .slice none 0 0, .slice none 0 0, .int .u32 0, .bool false, .int .u32 0]) kR rfl fun b => ⟨_, rfl, b, rfl, rfl⟩
  ·
   have g6 := ha _ (List.mem_of_getElem? (i := 1) rfl) kR
   replace g6 : (fun v B R => B = [] ∧ v = .tuple #[.slice none 0 0, .agg #[.slice none 0 0, .slice none 0 0, .slice none 0 0, .int .u32 0, .bool false, .int .u32 0], .int .i64 2]) (vs 6) (bs 6) Rj := g6
   dsimp only at g6
   obtain ⟨-, e⟩ := g6
   exact ⟨_, K1 (vs := #[.slice none 0 0, .agg #[.slice none 0 0, .slice none 0 0, .slice none 0 0, .int .u32 0, .bool false, .int .u32 0], .int .i64 2]) (by rw [← e]; rfl) rfl, rfl, rfl⟩
  ·
   have g6 := ha _ (List.mem_of_getElem? (i := 1) rfl) kR
   replace g6 : (fun v B R => B = [] ∧ v = .tuple #[.slice none 0 0, .agg #[.slice none 0 0, .slice none 0 0, .slice none 0 0, .int .u32 0, .bool false, .int .u32 0], .int .i64 2]) (vs 6) (bs 6) Rj := g6
   dsimp only at g6
   obtain ⟨-, e⟩ := g6
   exact ⟨_, K1 (vs := #[.slice none 0 0, .agg #[.slice none 0 0, .slice none 0 0, .slice none 0 0, .int .u32 0, .bool false, .int .u32 0], .int .i64 2]) (by rw [← e]; rfl) rfl, rfl, rfl⟩
  intro vs bs Jn0 hφ hKK
  have kk5 := hKK _ (List.mem_of_getElem? (i := 0) rfl)
  dsimp only at kk5
  have kk6 := hKK _ (List.mem_of_getElem? (i := 1) rfl)
  dsimp only at kk6
  have kk7 := hKK _ (List.mem_of_getElem? (i := 2) rfl)
  dsimp only at kk7
  have kk10 := hKK _ (List.mem_of_getElem? (i := 3) rfl)
  dsimp only at kk10
  have kk8 := hKK _ (List.mem_of_getElem? (i := 4) rfl)
  dsimp only at kk8
  have kk9 := hKK _ (List.mem_of_getElem? (i := 5) rfl)
  dsimp only at kk9
  clear hKK
  have g5 := ofH hφ
  dsimp only at g5
  replace hφ := ofT hφ
  have g6 := ofH hφ
  dsimp only at g6
  replace hφ := ofT hφ
  have g7 := ofH hφ
  dsimp only at g7
  replace hφ := ofT hφ
  have g10 := ofH hφ
  dsimp only at g10
  replace hφ := ofT hφ
  have g8 := ofH hφ
  dsimp only at g8
  replace hφ := ofT hφ
  have g9 := ofH hφ
  dsimp only at g9
  clear hφ
  dsimp only [V2, A1t, List.foldr, List.map, List.cons_append, List.nil_append]
  generalize bs 5 = B59 at *
  generalize bs 6 = B53 at *
  generalize bs 7 = B60 at *
  generalize bs 10 = B9 at *
  generalize bs 8 = B61 at *
  generalize bs 9 = B62 at *
  generalize vs 5 = u59 at *
  generalize vs 6 = u53 at *
  generalize vs 7 = u60 at *
  generalize vs 10 = u9 at *
  generalize vs 8 = u61 at *
  generalize vs 9 = u62 at *
  obtain ⟨rfl, -⟩ := g5
  obtain ⟨rfl, -⟩ := g6
  obtain ⟨rfl, rfl⟩ := g7
  obtain ⟨rfl, rfl⟩ := g8
  obtain ⟨rfl, rfl⟩ := g9
  obtain ⟨b9, rfl, rfl⟩ := g10
  refine L6 hs rfl (H7 rfl) rfl ?_
  refine XK.tl rfl rfl rfl (A8 (vs := [.slice none 0 0, .slice none 0 0, .slice none 0 0, .int .u32 0, .bool false, .int .u32 0]) rfl rfl rfl kR (by rfl) al6 UpC.upd ?_)
  refine L6 hs rfl (H7 rfl) rfl ?_
  refine Q3 (E9 4 5 7 10) ?_
  refine D3 (.range 13) (zp 0 [0, 0, 0, 1, 1, 2, 0, 0, 0, 0, 0, 0, 0]) kR kR fun hs => ?_
  refine fm_ hs ?_
  refine D2 hs rfl (G6 rfl) rfl ?_
  refine D2 hs rfl (qf_ 0 0) rfl ?_
  refine F8 hs rfl ql_ rfl ?_
  refine F8 hs rfl (qw_ 6) rfl ?_
  refine P8 rfl (aS rfl (aS rfl (aS rfl a0))) kR (A9o pb h wa wg wk ia.cel ig.cel ik.cel _) rfl ?_
  refine fm_ hs ?_
  refine D2 hs rfl (A2I rfl) rfl ?_
  refine D2 hs rfl (A2v rfl) rfl ?_
  refine D2 hs rfl (B7F rfl) rfl ?_
  refine fa_ hs ?_
  refine fa_ hs ?_
  refine fa_ hs ?_
  refine E4 (F9 4 5 7 10 13) ?_
  refine K0 ([]) (_) true [0, 1, 2, 3, 4, 5, 6, 7, 8, 9, 10, 11, 13] [(0, 0), (1, 0), (2, 0), (3, 1), (4, 1), (5, 8), (6, 8), (7, 8), (10, 8), (8, 9), (9, 10), (11, 0), (12, 2), (13, 0)] kR kR PickC.perm fun hs K n0 hKm hKs hKn => ?_
  refine km_ hs ?_
  refine L6 hs rfl (G6 rfl) rfl ?_
  refine L6 hs rfl (qf_ 1 1) rfl ?_
  refine R9 hs rfl hKs ql_ ?_
  refine R9 hs rfl hKs (qw_ 10) ?_
  refine A3K [⟨5, 79, none, [], fun v B R => B = [] ∧ v = .tuple #[.slice none 0 0, .agg #[.slice none 0 0, .slice none 0 0, .slice none 0 0, .int .u32 0, .bool false, .int .u32 0], .int .i64 2]⟩, ⟨6, 73, none, [], fun v B R => B = [] ∧ v = .tuple #[.slice none 0 0, .agg #[.slice none 0 0, .slice none 0 0, .slice none 0 0, .int .u32 0, .bool false, .int .u32 0], .int .i64 2]⟩, ⟨7, 80, none, [], fun v B R => B = [] ∧ v = .slice none 0 0⟩, ⟨10, 15, none, [], fun v B _ => ∃ b, v = .pointer (some ⟨b, 0, none⟩) ∧ B = [(b, blk [.slice none 0 0, .slice none 0 0, .slice none 0 0, .int .u32 0, .bool false, .int .u32 0] 43)]⟩] [⟨8, 81, none, [], fun v B R => B = [] ∧ v = .agg #[.slice none 0 0, .slice none 0 0, .slice none 0 0, .int .u32 0, .bool false, .int .u32 0]⟩, ⟨9, 82, none, [], fun v B R => B = [] ∧ v = .int .i64 2⟩] ([(b9, blk [.slice none 0 0, .slice none 0 0, .slice none 0 0, .int .u32 0, .bool false, .int .u32 0] 43)] ++ MP) (fun bs => [bs 5, bs 6, bs 7, bs 10, bs 8, bs 9]) (hKn rfl) (by simp [A1t, A1X]) (show ∀ m ∈ ([[], [], [], [], [], []] : List Mem), ∀ x ∈ m, K x.1 from C3 (hKm) (C3 (fun _ h => by cases h) (C3 (fun _ h => by cases h) (C3 (fun _ h => by cases h) (C3 (fun _ h => by cases h) (C3 (fun _ h => by cases h) (L1))))))) kR (fun _ => by first | rfl | kernel_rfl)
   (C3 (fun _ _ _ _ _ h => h) (C3 (fun _ _ _ _ _ h => h) (C3 (fun _ _ _ _ _ h => h) (C3 (fun _ _ _ _ _ h => h) (C3 (fun _ _ _ _ _ h => h) (C3 (fun _ _ _ _ _ h => h) (L1))))))) (show List.Nodup [79, 73, 80, 15, 81, 82] by decide) (show List.Nodup [5, 6, 7, 10, 8, 9] by decide) (C3 (C9 rfl) (C3 (C9 rfl) (C3 (C9 rfl) (C3 (C9 rfl) (C3 (C9 rfl) (C3 (C9 rfl) (L1)))))))
   hs (List.cons_ne_nil _ _) (C3 ⟨_, rfl, fun vs bs R Rj wG hb hj hjr ha => ⟨.inl rfl, ?_⟩⟩ (C3 ⟨_, rfl, fun vs bs R Rj wG hb hj hjr ha => ⟨.inl rfl, ?_⟩⟩ (C3 ⟨_, rfl, fun vs bs R Rj wG hb hj hjr ha => ⟨.inl rfl, ?_⟩⟩ (C3 ⟨_, rfl, fun vs bs R Rj wG hb hj hjr ha => ⟨.inl rfl, ?_⟩⟩ (L1))))) (C3 ⟨rfl, rfl, _, _, _, _, rfl, fun vs bs Rj hj ha => ?_⟩ (C3 ⟨rfl, rfl, _, _, _, _, rfl, fun vs bs Rj hj ha => ?_⟩ (L1))) ?_
  ·
   dsimp only [Gc.inp]
   exact T3 (aS rfl (aS rfl (aS rfl (a0)))) kR (B1Z ka xu xd xa xg xk xs xc xn xo xh ja.cel jg.cel jk.cel js.cel jc.cel _) rfl ⟨_, rfl, rfl, rfl⟩
  ·
   dsimp only [Gc.inp]
   have g5 := ha _ (List.mem_of_getElem? (i := 0) rfl) kR
   replace g5 : (fun v B R => B = [] ∧ v = .tuple #[.slice none 0 0, .agg #[.slice none 0 0, .slice none 0 0, .slice none 0 0, .int .u32 0, .bool false, .int .u32 0], .int .i64 2]) (vs 5) (bs 5) Rj := g5
   dsimp only at g5
   obtain ⟨-, k⟩ := g5
   exact OpQ.opL qm_ rfl ⟨_, rfl, rfl, k⟩
  ·
   dsimp only [Gc.inp]
   have g6 := ha _ (List.mem_of_getElem? (i := 1) rfl) kR
   replace g6 : (fun v B R => B = [] ∧ v = .tuple #[.slice none 0 0, .agg #[.slice none 0 0, .slice none 0 0, .slice none 0 0, .int .u32 0, .bool false, .int .u32 0], .int .i64 2]) (vs 6) (bs 6) Rj := g6
   dsimp only at g6
   obtain ⟨-, e⟩ := g6
   exact OpQ.opL (K1 (vs := #[.slice none 0 0, .agg #[.slice none 0 0, .slice none 0 0, .slice none 0 0, .int .u32 0, .bool false, .int .u32 0], .int .i64 2]) (by rw [← e]; rfl) rfl) rfl ⟨_, rfl, rfl, rfl⟩
  ·
   dsimp only [Gc.inp]
   exact C5 (cs := [.slice none 0 0, .slice none 0 0, .slice none 0 0, .int .u32 0, .bool false, .int .u32 0]) kR rfl fun b => ⟨_, rfl, b, rfl, rfl⟩
  ·
   have g6 := ha _ (List.mem_of_getElem? (i := 1) rfl) kR
   replace g6 : (fun v B R => B = [] ∧ v = .tuple #[.slice none 0 0, .agg #[.slice none 0 0, .slice none 0 0, .slice none 0 0, .int .u32 0, .bool false, .int .u32 0], .int .i64 2]) (vs 6) (bs 6) Rj := g6
   dsimp only at g6
   obtain ⟨-, e⟩ := g6
   exact ⟨_, K1 (vs := #[.slice none 0 0, .agg #[.slice none 0 0, .slice none 0 0, .slice none 0 0, .int .u32 0, .bool false, .int .u32 0], .int .i64 2]) (by rw [← e]; rfl) rfl, rfl, rfl⟩
  ·
   have g6 := ha _ (List.mem_of_getElem? (i := 1) rfl) kR
   replace g6 : (fun v B R => B = [] ∧ v = .tuple #[.slice none 0 0, .agg #[.slice none 0 0, .slice none 0 0, .slice none 0 0, .int .u32 0, .bool false, .int .u32 0], .int .i64 2]) (vs 6) (bs 6) Rj := g6
   dsimp only at g6
   obtain ⟨-, e⟩ := g6
   exact ⟨_, K1 (vs := #[.slice none 0 0, .agg #[.slice none 0 0, .slice none 0 0, .slice none 0 0, .int .u32 0, .bool false, .int .u32 0], .int .i64 2]) (by rw [← e]; rfl) rfl, rfl, rfl⟩
  intro vs bs Jn0 hφ hKK
  have kk5 := hKK _ (List.mem_of_getElem? (i := 0) rfl)
  dsimp only at kk5
  have kk6 := hKK _ (List.mem_of_getElem? (i := 1) rfl)
  dsimp only at kk6
  have kk7 := hKK _ (List.mem_of_getElem? (i := 2) rfl)
  dsimp only at kk7
  have kk10 := hKK _ (List.mem_of_getElem? (i := 3) rfl)
  dsimp only at kk10
  have kk8 := hKK _ (List.mem_of_getElem? (i := 4) rfl)
  dsimp only at kk8
  have kk9 := hKK _ (List.mem_of_getElem? (i := 5) rfl)
  dsimp only at kk9
  clear hKK
  have g5 := ofH hφ
  dsimp only at g5
  replace hφ := ofT hφ
  have g6 := ofH hφ
  dsimp only at g6
  replace hφ := ofT hφ
  have g7 := ofH hφ
  dsimp only at g7
  replace hφ := ofT hφ
  have g10 := ofH hφ
  dsimp only at g10
  replace hφ := ofT hφ
  have g8 := ofH hφ
  dsimp only at g8
  replace hφ := ofT hφ
  have g9 := ofH hφ
  dsimp only at g9
  clear hφ
  dsimp only [V2, A1t, List.foldr, List.map, List.cons_append, List.nil_append]
  generalize bs 5 = B79 at *
  generalize bs 6 = B73 at *
  generalize bs 7 = B80 at *
  generalize bs 10 = B15 at *
  generalize bs 8 = B81 at *
  generalize bs 9 = B82 at *
  generalize vs 5 = u79 at *
  generalize vs 6 = u73 at *
  generalize vs 7 = u80 at *
  generalize vs 10 = u15 at *
  generalize vs 8 = u81 at *
  generalize vs 9 = u82 at *
  obtain ⟨rfl, -⟩ := g5
  obtain ⟨rfl, -⟩ := g6
  obtain ⟨rfl, rfl⟩ := g7
  obtain ⟨rfl, rfl⟩ := g8
  obtain ⟨rfl, rfl⟩ := g9
  obtain ⟨b15, rfl, rfl⟩ := g10
  refine L6 hs rfl (H7 rfl) rfl ?_
  refine XK.tl rfl rfl rfl (A8 (vs := [.slice none 0 0, .slice none 0 0, .slice none 0 0, .int .u32 0, .bool false, .int .u32 0]) rfl rfl rfl kR (by rfl) al6 UpC.upd ?_)
  refine L6 hs rfl (H7 rfl) rfl ?_
  refine Q3 (F9 4 7 10 13 16) ?_
  refine D3 (.range 13) (zp 0 [0, 0, 0, 1, 1, 2, 0, 0, 0, 0, 0, 0, 0]) kR kR fun hs => ?_
  refine fm_ hs ?_
  refine D2 hs rfl (G6 rfl) rfl ?_
  refine D2 hs rfl (qf_ 1 1) rfl ?_
  refine F8 hs rfl ql_ rfl ?_
  refine F8 hs rfl (qw_ 6) rfl ?_
  refine P8 rfl (aS rfl (aS rfl (aS rfl a0))) kR (A9p ka h wa wg wk ia.cel ig.cel ik.cel _) rfl ?_
  refine fm_ hs ?_
  refine D2 hs rfl (A2I rfl) rfl ?_
  refine D2 hs rfl (A2v rfl) rfl ?_
  refine D2 hs rfl (B7F rfl) rfl ?_
  refine fa_ hs ?_
  refine fa_ hs ?_
  refine fa_ hs ?_
  refine E4 (I4 4 7 10 13 16 19) ?_
  refine D3 [0, 1, 2, 3, 4, 5, 6, 7, 8, 10, 11, 12, 13, 14, 15, 16] (zp 0 [0, 0, 0, 1, 0, 0, 0, 1, 1, 2, 0, 0, 0, 0, 0, 0, 0]) kR kR fun hs => ?_
  refine fm_ hs ?_
  refine D2 hs rfl (G6 rfl) rfl ?_
  refine D2 hs rfl (qf_ 0 0) rfl ?_
  refine F8 hs rfl ql_ rfl ?_
  refine fm_ hs ?_
  refine D2 hs rfl (G6 rfl) rfl ?_
  refine D2 hs rfl (qf_ 2 2) rfl ?_
  refine F8 hs rfl ql_ rfl ?_
  refine F8 hs rfl (qw_ 6) rfl ?_
  refine G5 rfl rfl rfl (F2 (Mc := MP) (R := _) (aS rfl (aS rfl (aS rfl (a0)))) kR PickC.perm (A8B pb s kb bk ua ug uq uo um ss so sm h wa wg wk MP _ (hrb _ SubC.sub SubC.sub) hrise hP (by omega) (gh.mono SubC.sub) hG.up) rfl ?_)
  rintro v103 M103 J103 ⟨o1, o2, rfl, hP103, ho1, ho2⟩
  haveI := ho1.cel
  haveI := ho2.cel
  refine fm_ hs ?_
  refine D2 hs rfl (A2I rfl) rfl ?_
  refine D2 hs rfl (A2v rfl) rfl ?_
  refine D2 hs rfl (B7F rfl) rfl ?_
  refine fa_ hs ?_
  refine fa_ hs ?_
  refine fa_ hs ?_
  refine E4 (I4 4 10 13 16 19 22) ?_
  have hR : (anR bk h s).1.isSome = _ := A03 hsg hxn hF.on
  generalize (anR bk h s).1.isSome = R at *
  rcases five h with c1 | ⟨c1, c2⟩ | ⟨c1, c2, c3⟩ | ⟨c1, c2, c3⟩ | ⟨c1, c2, c3, c4⟩
  ·
   obtain rfl : R = false := by rw [hR]; simp [*]
   have hR : (anR bk h s).1.isSome = _ := A03 hsg hxn hF.on
   generalize (anR bk h s).1.isSome = R at *
   refine A3 ?_
   refine A4 (qf_ 3 3) rfl ?_
   refine A4 ql_ rfl ?_
   refine A4 (E7 false rfl rfl (eqF (by omega))) rfl ?_
   refine mv_ ?_
   refine H4 rfl rfl rfl rfl ?_
   refine H4 rfl rfl rfl rfl ?_
   refine H4 rfl rfl rfl rfl ?_
   refine H4 rfl rfl rfl rfl ?_
   refine A1Z rfl rfl rfl ?_
   refine A1Z rfl rfl rfl ?_
   refine A1Z rfl rfl rfl ?_
   refine A1Z rfl rfl rfl ?_
   refine A1Z rfl rfl rfl ?_
   refine A1Z rfl rfl rfl ?_
   refine A1Z rfl rfl rfl ?_
   refine A1Z rfl rfl rfl ?_
   refine H4 rfl rfl rfl rfl ?_
   refine A4 (E2 rfl rfl) rfl ?_
   refine as_ (A0 (I4 10 13 16 19 22 23) (A3 (mv_ ?_)))
   refine A4 (E7 true rfl rfl (eqT (rfl))) rfl ?_
   refine mv_ ?_
   refine C6 rfl rfl (OpQ.opL qm_ rfl ?_)
   refine C6 rfl rfl (OpQ.opL (E7 true rfl rfl (eqT (rfl))) rfl ?_)
   refine A4 (D7 rfl rfl) rfl ?_
   refine mv_ ?_
   refine C6 rfl rfl (OpQ.opL qm_ rfl ?_)
   refine C6 rfl rfl (OpQ.opL (E7 true rfl rfl (eqT (rfl))) rfl ?_)
   refine A4 (D7 rfl rfl) rfl ?_
   refine mv_ ?_
   refine C6 rfl rfl (OpQ.opL qm_ rfl ?_)
   refine C6 rfl rfl (OpQ.opL (E7 true rfl rfl (eqT (rfl))) rfl ?_)
   refine A4 (D7 rfl rfl) rfl ?_
   refine mv_ ?_
   refine C6 rfl rfl (OpQ.opL qm_ rfl ?_)
   refine C6 rfl rfl (OpQ.opL (E7 false rfl rfl (eqF (by show (9 : Int) ≠ 0; decide))) rfl ?_)
   refine C6 rfl rfl (OpQ.opL qm_ rfl ?_)
   refine C6 rfl rfl (OpQ.opL (A0z true rfl rfl kR (by simp)) rfl ?_)
   refine A4 (D7 rfl rfl) rfl ?_
   refine mv_ ?_
   refine C6 rfl rfl (OpQ.opL qm_ rfl ?_)
   refine C6 rfl rfl (OpQ.opL qm_ rfl ?_)
   refine C6 rfl rfl (OpQ.opL qm_ rfl ?_)
   refine C6 rfl rfl (OpQ.opL (E7 true rfl rfl (eqT (rfl))) rfl ?_)
   refine C6 rfl rfl (OpQ.opL (E2 rfl rfl) rfl ?_)
   refine A4 (D7 rfl rfl) rfl ?_
   refine as_ (A0 (D8 6) (C1 ?_))
   exact ⟨_, [], [], I2 rfl rfl, List.nil_sublist _, by simp, rfl, rfl, rfl⟩
  ·
   obtain rfl : R = true := by rw [hR]; simp [*]
   have hR : (anR bk h s).1.isSome = _ := A03 hsg hxn hF.on
   generalize (anR bk h s).1.isSome = R at *
   refine A3 ?_
   refine A4 (qf_ 3 3) rfl ?_
   refine A4 ql_ rfl ?_
   refine A4 (E7 true rfl rfl (eqT (by omega))) rfl ?_
   refine mv_ ?_
   refine C6 rfl rfl (OpQ.opL (qf_ 4 4) rfl ?_)
   refine C6 rfl rfl (OpQ.opL ql_ rfl ?_)
   refine C6 rfl rfl (OpQ.opL ((show (!h.has) = true by rw [c2]; rfl) ▸ V3 rfl) rfl ?_)
   refine C6 rfl rfl (OpQ.opL qm_ rfl ?_)
   refine H4 rfl rfl rfl rfl ?_
   refine H4 rfl rfl rfl rfl ?_
   refine H4 rfl rfl rfl rfl ?_
   refine H4 rfl rfl rfl rfl ?_
   refine A1Z rfl rfl rfl ?_
   refine A1Z rfl rfl rfl ?_
   refine A1Z rfl rfl rfl ?_
   refine H4 rfl rfl rfl rfl ?_
   refine C6 rfl rfl (OpQ.opL (D7 rfl rfl) rfl ?_)
   refine A4 (D7 rfl rfl) rfl ?_
   refine as_ (A0 (I4 10 13 16 19 22 23) (A3 (mv_ ?_)))
   refine A4 (E7 true rfl rfl (eqT (rfl))) rfl ?_
   refine mv_ ?_
   refine C6 rfl rfl (OpQ.opL qm_ rfl ?_)
   refine C6 rfl rfl (OpQ.opL (E7 true rfl rfl (eqT (rfl))) rfl ?_)
   refine A4 (D7 rfl rfl) rfl ?_
   refine mv_ ?_
   refine C6 rfl rfl (OpQ.opL qm_ rfl ?_)
   refine C6 rfl rfl (OpQ.opL (E7 true rfl rfl (eqT (rfl))) rfl ?_)
   refine A4 (D7 rfl rfl) rfl ?_
   refine mv_ ?_
   refine C6 rfl rfl (OpQ.opL qm_ rfl ?_)
   refine C6 rfl rfl (OpQ.opL (E7 true rfl rfl (eqT (rfl))) rfl ?_)
   refine A4 (D7 rfl rfl) rfl ?_
   refine mv_ ?_
   refine C6 rfl rfl (OpQ.opL qm_ rfl ?_)
   refine C6 rfl rfl (OpQ.opL (E7 true rfl rfl (eqT (rfl))) rfl ?_)
   refine C6 rfl rfl (OpQ.opL qm_ rfl ?_)
   refine C6 rfl rfl (OpQ.opL (A0z true rfl rfl kR (by simp)) rfl ?_)
   refine A4 (D7 rfl rfl) rfl ?_
   refine mv_ ?_
   refine C6 rfl rfl (OpQ.opL qm_ rfl ?_)
   refine C6 rfl rfl (OpQ.opL qm_ rfl ?_)
   refine H4 rfl rfl rfl rfl ?_
   refine H4 rfl rfl rfl rfl ?_
   refine C6 rfl rfl (OpQ.opL (D7 rfl rfl) rfl ?_)
   refine A4 (D7 rfl rfl) rfl ?_
   refine as_ (A0 (D8 6) (C1 ?_))
   exact ⟨_, [], [], I2 rfl rfl, List.nil_sublist _, by simp, rfl, rfl, rfl⟩
  ·
   obtain rfl : R = false := by rw [hR]; simp [*] <;> omega
   have hR : (anR bk h s).1.isSome = _ := A03 hsg hxn hF.on
   generalize (anR bk h s).1.isSome = R at *
   refine A3 ?_
   refine A4 (qf_ 3 3) rfl ?_
   refine A4 ql_ rfl ?_
   refine A4 (E7 true rfl rfl (eqT (by omega))) rfl ?_
   refine mv_ ?_
   refine C6 rfl rfl (OpQ.opL (qf_ 4 4) rfl ?_)
   refine C6 rfl rfl (OpQ.opL ql_ rfl ?_)
   refine C6 rfl rfl (OpQ.opL ((show (!h.has) = false by rw [c2]; rfl) ▸ V3 rfl) rfl ?_)
   refine C6 rfl rfl (OpQ.opL qm_ rfl ?_)
   refine C6 rfl rfl (OpQ.opL (qf_ 5 5) rfl ?_)
   refine C6 rfl rfl (OpQ.opL ql_ rfl ?_)
   refine C6 rfl rfl (OpQ.opL (E7 false rfl rfl (geF (by omega))) rfl ?_)
   refine C6 rfl rfl (OpQ.opL qm_ rfl ?_)
   refine H4 rfl rfl rfl rfl ?_
   refine H4 rfl rfl rfl rfl ?_
   refine H4 rfl rfl rfl rfl ?_
   refine C6 rfl rfl (OpQ.opL (E2 rfl rfl) rfl ?_)
   refine C6 rfl rfl (OpQ.opL (E2 rfl rfl) rfl ?_)
   refine A4 (D7 rfl rfl) rfl ?_
   refine as_ (A0 (I4 10 13 16 19 22 23) (A3 (mv_ ?_)))
   refine A4 (E7 true rfl rfl (eqT (rfl))) rfl ?_
   refine mv_ ?_
   refine C6 rfl rfl (OpQ.opL qm_ rfl ?_)
   refine C6 rfl rfl (OpQ.opL (E7 true rfl rfl (eqT (rfl))) rfl ?_)
   refine A4 (D7 rfl rfl) rfl ?_
   refine mv_ ?_
   refine C6 rfl rfl (OpQ.opL qm_ rfl ?_)
   refine C6 rfl rfl (OpQ.opL (E7 true rfl rfl (eqT (rfl))) rfl ?_)
   refine A4 (D7 rfl rfl) rfl ?_
   refine mv_ ?_
   refine C6 rfl rfl (OpQ.opL qm_ rfl ?_)
   refine C6 rfl rfl (OpQ.opL (E7 true rfl rfl (eqT (rfl))) rfl ?_)
   refine A4 (D7 rfl rfl) rfl ?_
   refine mv_ ?_
   refine C6 rfl rfl (OpQ.opL qm_ rfl ?_)
   refine C6 rfl rfl (OpQ.opL (E7 false rfl rfl (eqF (by show (9 : Int) ≠ 0; decide))) rfl ?_)
   refine C6 rfl rfl (OpQ.opL qm_ rfl ?_)
   refine C6 rfl rfl (OpQ.opL (A0z true rfl rfl kR (by simp)) rfl ?_)
   refine A4 (D7 rfl rfl) rfl ?_
   refine mv_ ?_
   refine C6 rfl rfl (OpQ.opL qm_ rfl ?_)
   refine C6 rfl rfl (OpQ.opL qm_ rfl ?_)
   refine C6 rfl rfl (OpQ.opL qm_ rfl ?_)
   refine C6 rfl rfl (OpQ.opL (E7 true rfl rfl (eqT (rfl))) rfl ?_)
   refine C6 rfl rfl (OpQ.opL (E2 rfl rfl) rfl ?_)
   refine A4 (D7 rfl rfl) rfl ?_
   refine as_ (A0 (D8 6) (C1 ?_))
   exact ⟨_, [], [], I2 rfl rfl, List.nil_sublist _, by simp, rfl, rfl, rfl⟩
  ·
   obtain rfl : R = false := by rw [hR]; simp [*]
   have hR : (anR bk h s).1.isSome = _ := A03 hsg hxn hF.on
   generalize (anR bk h s).1.isSome = R at *
   refine A3 ?_
   refine A4 (qf_ 3 3) rfl ?_
   refine A4 ql_ rfl ?_
   refine A4 (E7 true rfl rfl (eqT (by omega))) rfl ?_
   refine mv_ ?_
   refine C6 rfl rfl (OpQ.opL (qf_ 4 4) rfl ?_)
   refine C6 rfl rfl (OpQ.opL ql_ rfl ?_)
   refine C6 rfl rfl (OpQ.opL ((show (!h.has) = false by rw [c2]; rfl) ▸ V3 rfl) rfl ?_)
   refine C6 rfl rfl (OpQ.opL qm_ rfl ?_)
   refine C6 rfl rfl (OpQ.opL (qf_ 5 5) rfl ?_)
   refine C6 rfl rfl (OpQ.opL ql_ rfl ?_)
   refine C6 rfl rfl (OpQ.opL (E7 true rfl rfl (geT (by omega))) rfl ?_)
   refine C6 rfl rfl (OpQ.opL qm_ rfl ?_)
   refine C6 rfl rfl (OpQ.opL (qf_ 5 5) rfl ?_)
   refine C6 rfl rfl (OpQ.opL ql_ rfl ?_)
   refine C6 rfl rfl (OpQ.opL (E7 false rfl rfl (leF (by omega))) rfl ?_)
   refine C6 rfl rfl (OpQ.opL (D7 rfl rfl) rfl ?_)
   refine C6 rfl rfl (OpQ.opL (E2 rfl rfl) rfl ?_)
   refine A4 (D7 rfl rfl) rfl ?_
   refine as_ (A0 (I4 10 13 16 19 22 23) (A3 (mv_ ?_)))
   refine A4 (E7 true rfl rfl (eqT (rfl))) rfl ?_
   refine mv_ ?_
   refine C6 rfl rfl (OpQ.opL qm_ rfl ?_)
   refine C6 rfl rfl (OpQ.opL (E7 true rfl rfl (eqT (rfl))) rfl ?_)
   refine A4 (D7 rfl rfl) rfl ?_
   refine mv_ ?_
   refine C6 rfl rfl (OpQ.opL qm_ rfl ?_)
   refine C6 rfl rfl (OpQ.opL (E7 true rfl rfl (eqT (rfl))) rfl ?_)
   refine A4 (D7 rfl rfl) rfl ?_
   refine mv_ ?_
   refine C6 rfl rfl (OpQ.opL qm_ rfl ?_)
   refine C6 rfl rfl (OpQ.opL (E7 true rfl rfl (eqT (rfl))) rfl ?_)
   refine A4 (D7 rfl rfl) rfl ?_
   refine mv_ ?_
   refine C6 rfl rfl (OpQ.opL qm_ rfl ?_)
   refine C6 rfl rfl (OpQ.opL (E7 false rfl rfl (eqF (by show (9 : Int) ≠ 0; decide))) rfl ?_)
   refine C6 rfl rfl (OpQ.opL qm_ rfl ?_)
   refine C6 rfl rfl (OpQ.opL (A0z true rfl rfl kR (by simp)) rfl ?_)
   refine A4 (D7 rfl rfl) rfl ?_
   refine mv_ ?_
   refine C6 rfl rfl (OpQ.opL qm_ rfl ?_)
   refine C6 rfl rfl (OpQ.opL qm_ rfl ?_)
   refine C6 rfl rfl (OpQ.opL qm_ rfl ?_)
   refine C6 rfl rfl (OpQ.opL (E7 true rfl rfl (eqT (rfl))) rfl ?_)
   refine C6 rfl rfl (OpQ.opL (E2 rfl rfl) rfl ?_)
   refine A4 (D7 rfl rfl) rfl ?_
   refine as_ (A0 (D8 6) (C1 ?_))
   exact ⟨_, [], [], I2 rfl rfl, List.nil_sublist _, by simp, rfl, rfl, rfl⟩
  ·
   obtain rfl : R = true := by rw [hR]; simp [*]
   have hR : (anR bk h s).1.isSome = _ := A03 hsg hxn hF.on
   generalize (anR bk h s).1.isSome = R at *
   refine A3 ?_
   refine A4 (qf_ 3 3) rfl ?_
   refine A4 ql_ rfl ?_
   refine A4 (E7 true rfl rfl (eqT (by omega))) rfl ?_
   refine mv_ ?_
   refine C6 rfl rfl (OpQ.opL (qf_ 4 4) rfl ?_)
   refine C6 rfl rfl (OpQ.opL ql_ rfl ?_)
   refine C6 rfl rfl (OpQ.opL ((show (!h.has) = false by rw [c2]; rfl) ▸ V3 rfl) rfl ?_)
   refine C6 rfl rfl (OpQ.opL qm_ rfl ?_)
   refine C6 rfl rfl (OpQ.opL (qf_ 5 5) rfl ?_)
   refine C6 rfl rfl (OpQ.opL ql_ rfl ?_)
   refine C6 rfl rfl (OpQ.opL (E7 true rfl rfl (geT (by omega))) rfl ?_)
   refine C6 rfl rfl (OpQ.opL qm_ rfl ?_)
   refine C6 rfl rfl (OpQ.opL (qf_ 5 5) rfl ?_)
   refine C6 rfl rfl (OpQ.opL ql_ rfl ?_)
   refine C6 rfl rfl (OpQ.opL (E7 true rfl rfl (leT (by omega))) rfl ?_)
   refine C6 rfl rfl (OpQ.opL (D7 rfl rfl) rfl ?_)
   refine C6 rfl rfl (OpQ.opL (E2 rfl rfl) rfl ?_)
   refine A4 (D7 rfl rfl) rfl ?_
   refine as_ (A0 (I4 10 13 16 19 22 23) (A3 (mv_ ?_)))
   refine A4 (E7 true rfl rfl (eqT (rfl))) rfl ?_
   refine mv_ ?_
   refine C6 rfl rfl (OpQ.opL qm_ rfl ?_)
   refine C6 rfl rfl (OpQ.opL (E7 true rfl rfl (eqT (rfl))) rfl ?_)
   refine A4 (D7 rfl rfl) rfl ?_
   refine mv_ ?_
   refine C6 rfl rfl (OpQ.opL qm_ rfl ?_)
   refine C6 rfl rfl (OpQ.opL (E7 true rfl rfl (eqT (rfl))) rfl ?_)
   refine A4 (D7 rfl rfl) rfl ?_
   refine mv_ ?_
   refine C6 rfl rfl (OpQ.opL qm_ rfl ?_)
   refine C6 rfl rfl (OpQ.opL (E7 true rfl rfl (eqT (rfl))) rfl ?_)
   refine A4 (D7 rfl rfl) rfl ?_
   refine mv_ ?_
   refine C6 rfl rfl (OpQ.opL qm_ rfl ?_)
   refine C6 rfl rfl (OpQ.opL (E7 true rfl rfl (eqT (rfl))) rfl ?_)
   refine C6 rfl rfl (OpQ.opL qm_ rfl ?_)
   refine C6 rfl rfl (OpQ.opL (A0z true rfl rfl kR (by simp)) rfl ?_)
   refine A4 (D7 rfl rfl) rfl ?_
   refine mv_ ?_
   refine C6 rfl rfl (OpQ.opL qm_ rfl ?_)
   refine C6 rfl rfl (OpQ.opL qm_ rfl ?_)
   refine H4 rfl rfl rfl rfl ?_
   refine H4 rfl rfl rfl rfl ?_
   refine C6 rfl rfl (OpQ.opL (D7 rfl rfl) rfl ?_)
   refine A4 (D7 rfl rfl) rfl ?_
   refine as_ (A0 (D8 6) (C1 ?_))
   exact ⟨_, [], [], I2 rfl rfl, List.nil_sublist _, by simp, rfl, rfl, rfl⟩

section
variable {H : Type} {enc : TypeId × Value → H} {P : Program} {w : World} {spare : Nat → Bool} {held : Bool} {fuel : Nat} {t e : TypeId} {cs : List Value} {x : DataW H × List MemPlace} {v : Value} {d : DataW H} {p : List MemPlace} {r : Reach} {base : Nat} {k : IntKind}
end
theorem A5p {P : Program} {W : World} {name : String} {g : Nat} {cs : Array Value} (hg : P.globalNamed name = some g) (h : W.var? P name = some cs) : ∃ e fr, W.heap[g]? = some (.cells cs e fr) := by
  unfold World.var? at h
  rw [hg] at h
  simp only [Option.bind_some] at h
  split at h
  · rename_i c e fr hh
    cases h
    exact ⟨e, fr, hh⟩
  · cases h
def B2a (ws : List Nat) : List Int := ws.map fun n : Nat => (n : Int)
theorem A4q (k : IntKind) (ws : List Nat) : ((B2a ws).map fun z => Value.int k z).toArray = (nums k ws).toArray := by simp [B2a, nums]
theorem B7D {W : World} {a b : String × DataW Unit} {rest : List (String × DataW Unit)} (h : laidMet Tryz.prog (a :: b :: ("internal/strconv.uint64pow10", Rows.laid_internal_strconv_uint64pow10) :: rest) W) : ∃ e fr, W.heap[2]? = some (Obj.cells (nums .u64 A0u).toArray e fr) := by
  have h' : laidMet Tryz.prog (("internal/strconv.uint64pow10", Lib.tabData .u64 (B2a A0u)) :: rest) W := h.tail.tail
  have h1 := Lib.tabIs_of_head (g := 2) (t := 305) (e := 143) (n := 20) (by kernel_rfl) (by kernel_rfl) (by kernel_rfl) (by kernel_rfl) (by kernel_rfl) (by kernel_rfl) h'
  obtain ⟨ek, fk, h3⟩ := A5p (g := 2) (by kernel_rfl) h1
  rw [A4q] at h3
  exact ⟨ek, fk, h3⟩
end Go.Proofs.YthbhpfefdnffaaaGreatDoor

namespace Go.Proofs.YthbhpfefdnffaaaGreatDoor
open Go.Px Go.ChangeShapes Go.WideShapes Go.ChangeAt Go.RowKit
theorem A9r {H : Type} {enc : TypeId × Value → H} {w : World} {spare : Nat → Bool} {held : Bool} {r : Reach} {base : Nat} {v : Value} {d : DataW H} {p : List MemPlace} (hv : Value.okWide Tryz.prog w r base 32 v) (h : DataW.Trod enc Tryz.prog w 0 spare held 32 v d p) (hz : ∀ n ∈ d.weights Tryz.prog 32, n ≤ reachBytes) :
    ∃ (a0 : Int) (a1 : Int) (a2 : Value) (wa2 : List Nat) (a3 : Value) (wa3 : List Nat) (a4 : Nat) (a5 : Value) (wa5 : List Nat) (a6 : Value) (wa6 : List Nat) (a7 : Bool) (a8 : Nat) (a9 : Value) (wa9 : List Nat), v = .agg #[.int .i64 a0, .int .i64 a1, a2, a3, .int .u32 ((a4 : Nat) : Int), a5, a6, .bool a7, .int .u32 ((a8 : Nat) : Int), a9] ∧ (Lit.int .i64 a0).wf = true ∧ (Lit.int .i64 a1).wf = true ∧ Px.Byz (Px.heapA w) a2 wa2 ∧ Px.Byz (Px.heapA w) a3 wa3 ∧ a4 < 2 ^ IntKind.bits .u32 ∧ Px.Byz (Px.heapA w) a5 wa5 ∧ Px.Byz (Px.heapA w) a6 wa6 ∧ a8 < 2 ^ IntKind.bits .u32 ∧ Px.Byz (Px.heapA w) a9 wa9 ∧ True := by
  obtain ⟨cs0, rfl, _⟩ := okWide_struct Tryz.underlying32 hv
  obtain ⟨fu, hm⟩ := h
  have hcs : (Value.agg cs0).cells.toList = cs0.toList := by simp [Value.cells]
  rw [hcs] at hm
  obtain ⟨l0, hl0⟩ : ∃ l, l = cs0.toList := ⟨_, rfl⟩
  rw [← hl0] at hm
  obtain ⟨_, _, _, _, h1, _, _⟩ := DataW.trod_struct Tryz.underlying32 hm
  rw [show Tryz.prog.cellsOf 32 = 10 from by kernel_rfl] at h1
  match l0, h1 with
  | [c0, c1, c2, c3, c4, c5, c6, c7, c8, c9], _ =>
    obtain ⟨me0, ye0, e0, ze0⟩ := Px.st_fieldZ Tryz.underlying32 hm hz 0 _ rfl (tf := 26) (o := 0) (c := 2) rfl rfl (by kernel_rfl)
    change DataW.trod enc Tryz.prog w 0 spare held _ 26 [c0, c1] = _ at e0
    obtain ⟨me1, ye1, e1, ze1⟩ := Px.st_fieldZ Tryz.underlying26 e0 ze0 0 _ rfl (tf := 3) (o := 0) (c := 1) rfl rfl (by kernel_rfl)
    change DataW.trod enc Tryz.prog w 0 spare held _ 3 [c0] = _ at e1
    obtain ⟨a0, q0, _, wfa0⟩ := DataW.trod_int Tryz.underlying3 e1
    obtain rfl : c0 = _ := (List.cons.inj q0).1
    obtain ⟨me2, ye2, e2, ze2⟩ := Px.st_fieldZ Tryz.underlying26 e0 ze0 1 _ rfl (tf := 3) (o := 1) (c := 1) rfl rfl (by kernel_rfl)
    change DataW.trod enc Tryz.prog w 0 spare held _ 3 [c1] = _ at e2
    obtain ⟨a1, q1, _, wfa1⟩ := DataW.trod_int Tryz.underlying3 e2
    obtain rfl : c1 = _ := (List.cons.inj q1).1
    obtain ⟨me3, ye3, e3, ze3⟩ := Px.st_fieldZ Tryz.underlying32 hm hz 1 _ rfl (tf := 29) (o := 2) (c := 2) rfl rfl (by kernel_rfl)
    change DataW.trod enc Tryz.prog w 0 spare held _ 29 [c2, c3] = _ at e3
    obtain ⟨me4, ye4, e4, ze4⟩ := Px.st_fieldZ Tryz.underlying29 e3 ze3 0 _ rfl (tf := 27) (o := 0) (c := 1) rfl rfl (by kernel_rfl)
    change DataW.trod enc Tryz.prog w 0 spare held _ 27 [c2] = _ at e4
    obtain ⟨a2, wa2, q2, bya2⟩ := Px.in_bytesZ Tryz.underlying27 Tryz.underlying5 (by kernel_rfl) (by kernel_rfl) e4 ze4
    obtain rfl : c2 = _ := (List.cons.inj q2).1
    obtain ⟨me5, ye5, e5, ze5⟩ := Px.st_fieldZ Tryz.underlying29 e3 ze3 1 _ rfl (tf := 27) (o := 1) (c := 1) rfl rfl (by kernel_rfl)
    change DataW.trod enc Tryz.prog w 0 spare held _ 27 [c3] = _ at e5
    obtain ⟨a3, wa3, q3, bya3⟩ := Px.in_bytesZ Tryz.underlying27 Tryz.underlying5 (by kernel_rfl) (by kernel_rfl) e5 ze5
    obtain rfl : c3 = _ := (List.cons.inj q3).1
    obtain ⟨me6, ye6, e6, ze6⟩ := Px.st_fieldZ Tryz.underlying32 hm hz 2 _ rfl (tf := 30) (o := 4) (c := 1) rfl rfl (by kernel_rfl)
    change DataW.trod enc Tryz.prog w 0 spare held _ 30 [c4] = _ at e6
    obtain ⟨za4, q4, _, z2a4⟩ := DataW.trod_int Tryz.underlying30 e6
    obtain ⟨a4, rfl, hua4⟩ := Px.nat_of_wf rfl z2a4
    obtain rfl : c4 = _ := (List.cons.inj q4).1
    obtain ⟨me7, ye7, e7, ze7⟩ := Px.st_fieldZ Tryz.underlying32 hm hz 3 _ rfl (tf := 27) (o := 5) (c := 1) rfl rfl (by kernel_rfl)
    change DataW.trod enc Tryz.prog w 0 spare held _ 27 [c5] = _ at e7
    obtain ⟨a5, wa5, q5, bya5⟩ := Px.in_bytesZ Tryz.underlying27 Tryz.underlying5 (by kernel_rfl) (by kernel_rfl) e7 ze7
    obtain rfl : c5 = _ := (List.cons.inj q5).1
    obtain ⟨me8, ye8, e8, ze8⟩ := Px.st_fieldZ Tryz.underlying32 hm hz 4 _ rfl (tf := 27) (o := 6) (c := 1) rfl rfl (by kernel_rfl)
    change DataW.trod enc Tryz.prog w 0 spare held _ 27 [c6] = _ at e8
    obtain ⟨a6, wa6, q6, bya6⟩ := Px.in_bytesZ Tryz.underlying27 Tryz.underlying5 (by kernel_rfl) (by kernel_rfl) e8 ze8
    obtain rfl : c6 = _ := (List.cons.inj q6).1
    obtain ⟨me9, ye9, e9, ze9⟩ := Px.st_fieldZ Tryz.underlying32 hm hz 5 _ rfl (tf := 4) (o := 7) (c := 1) rfl rfl (by kernel_rfl)
    change DataW.trod enc Tryz.prog w 0 spare held _ 4 [c7] = _ at e9
    obtain ⟨a7, q7, _⟩ := DataW.trod_bool Tryz.underlying4 e9
    obtain rfl : c7 = _ := (List.cons.inj q7).1
    obtain ⟨me10, ye10, e10, ze10⟩ := Px.st_fieldZ Tryz.underlying32 hm hz 6 _ rfl (tf := 30) (o := 8) (c := 1) rfl rfl (by kernel_rfl)
    change DataW.trod enc Tryz.prog w 0 spare held _ 30 [c8] = _ at e10
    obtain ⟨za8, q8, _, z2a8⟩ := DataW.trod_int Tryz.underlying30 e10
    obtain ⟨a8, rfl, hua8⟩ := Px.nat_of_wf rfl z2a8
    obtain rfl : c8 = _ := (List.cons.inj q8).1
    obtain ⟨me11, ye11, e11, ze11⟩ := Px.st_fieldZ Tryz.underlying32 hm hz 7 _ rfl (tf := 27) (o := 9) (c := 1) rfl rfl (by kernel_rfl)
    change DataW.trod enc Tryz.prog w 0 spare held _ 27 [c9] = _ at e11
    obtain ⟨a9, wa9, q9, bya9⟩ := Px.in_bytesZ Tryz.underlying27 Tryz.underlying5 (by kernel_rfl) (by kernel_rfl) e11 ze11
    obtain rfl : c9 = _ := (List.cons.inj q9).1
    exact ⟨a0, a1, c2, wa2, c3, wa3, a4, c5, wa5, c6, wa6, a7, a8, c9, wa9, by rw [← Array.toArray_toList (xs := cs0), ← hl0], wfa0, wfa1, bya2, bya3, hua4, bya5, bya6, hua8, bya9, trivial⟩
theorem B2b {H : Type} {enc : TypeId × Value → H} {w : World} {spare : Nat → Bool} {held : Bool} {r : Reach} {base : Nat} {v : Value} {d : DataW H} {p : List MemPlace} (hv : Value.okWide Tryz.prog w r base 43 v) (h : DataW.Trod enc Tryz.prog w 0 spare held 43 v d p) (hz : ∀ n ∈ d.weights Tryz.prog 43, n ≤ reachBytes) :
    ∃ (a0 : Value) (wa0 : List Nat) (a1 : Value) (wa1 : List Nat) (a2 : Value) (wa2 : List Nat) (a3 : Nat) (a4 : Bool) (a5 : Nat), v = .agg #[a0, a1, a2, .int .u32 ((a3 : Nat) : Int), .bool a4, .int .u32 ((a5 : Nat) : Int)] ∧ Px.Byz (Px.heapA w) a0 wa0 ∧ Px.Byz (Px.heapA w) a1 wa1 ∧ Px.Byz (Px.heapA w) a2 wa2 ∧ a3 < 2 ^ IntKind.bits .u32 ∧ a5 < 2 ^ IntKind.bits .u32 ∧ True := by
  obtain ⟨cs0, rfl, _⟩ := okWide_struct Tryz.underlying43 hv
  obtain ⟨fu, hm⟩ := h
  have hcs : (Value.agg cs0).cells.toList = cs0.toList := by simp [Value.cells]
  rw [hcs] at hm
  obtain ⟨l0, hl0⟩ : ∃ l, l = cs0.toList := ⟨_, rfl⟩
  rw [← hl0] at hm
  obtain ⟨_, _, _, _, h1, _, _⟩ := DataW.trod_struct Tryz.underlying43 hm
  rw [show Tryz.prog.cellsOf 43 = 6 from by kernel_rfl] at h1
  match l0, h1 with
  | [c0, c1, c2, c3, c4, c5], _ =>
    obtain ⟨me0, ye0, e0, ze0⟩ := Px.st_fieldZ Tryz.underlying43 hm hz 0 _ rfl (tf := 29) (o := 0) (c := 2) rfl rfl (by kernel_rfl)
    change DataW.trod enc Tryz.prog w 0 spare held _ 29 [c0, c1] = _ at e0
    obtain ⟨me1, ye1, e1, ze1⟩ := Px.st_fieldZ Tryz.underlying29 e0 ze0 0 _ rfl (tf := 27) (o := 0) (c := 1) rfl rfl (by kernel_rfl)
    change DataW.trod enc Tryz.prog w 0 spare held _ 27 [c0] = _ at e1
    obtain ⟨a0, wa0, q0, bya0⟩ := Px.in_bytesZ Tryz.underlying27 Tryz.underlying5 (by kernel_rfl) (by kernel_rfl) e1 ze1
    obtain rfl : c0 = _ := (List.cons.inj q0).1
    obtain ⟨me2, ye2, e2, ze2⟩ := Px.st_fieldZ Tryz.underlying29 e0 ze0 1 _ rfl (tf := 27) (o := 1) (c := 1) rfl rfl (by kernel_rfl)
    change DataW.trod enc Tryz.prog w 0 spare held _ 27 [c1] = _ at e2
    obtain ⟨a1, wa1, q1, bya1⟩ := Px.in_bytesZ Tryz.underlying27 Tryz.underlying5 (by kernel_rfl) (by kernel_rfl) e2 ze2
    obtain rfl : c1 = _ := (List.cons.inj q1).1
    obtain ⟨me3, ye3, e3, ze3⟩ := Px.st_fieldZ Tryz.underlying43 hm hz 1 _ rfl (tf := 27) (o := 2) (c := 1) rfl rfl (by kernel_rfl)
    change DataW.trod enc Tryz.prog w 0 spare held _ 27 [c2] = _ at e3
    obtain ⟨a2, wa2, q2, bya2⟩ := Px.in_bytesZ Tryz.underlying27 Tryz.underlying5 (by kernel_rfl) (by kernel_rfl) e3 ze3
    obtain rfl : c2 = _ := (List.cons.inj q2).1
    obtain ⟨me4, ye4, e4, ze4⟩ := Px.st_fieldZ Tryz.underlying43 hm hz 2 _ rfl (tf := 30) (o := 3) (c := 1) rfl rfl (by kernel_rfl)
    change DataW.trod enc Tryz.prog w 0 spare held _ 30 [c3] = _ at e4
    obtain ⟨za3, q3, _, z2a3⟩ := DataW.trod_int Tryz.underlying30 e4
    obtain ⟨a3, rfl, hua3⟩ := Px.nat_of_wf rfl z2a3
    obtain rfl : c3 = _ := (List.cons.inj q3).1
    obtain ⟨me5, ye5, e5, ze5⟩ := Px.st_fieldZ Tryz.underlying43 hm hz 3 _ rfl (tf := 4) (o := 4) (c := 1) rfl rfl (by kernel_rfl)
    change DataW.trod enc Tryz.prog w 0 spare held _ 4 [c4] = _ at e5
    obtain ⟨a4, q4, _⟩ := DataW.trod_bool Tryz.underlying4 e5
    obtain rfl : c4 = _ := (List.cons.inj q4).1
    obtain ⟨me6, ye6, e6, ze6⟩ := Px.st_fieldZ Tryz.underlying43 hm hz 4 _ rfl (tf := 30) (o := 5) (c := 1) rfl rfl (by kernel_rfl)
    change DataW.trod enc Tryz.prog w 0 spare held _ 30 [c5] = _ at e6
    obtain ⟨za5, q5, _, z2a5⟩ := DataW.trod_int Tryz.underlying30 e6
    obtain ⟨a5, rfl, hua5⟩ := Px.nat_of_wf rfl z2a5
    obtain rfl : c5 = _ := (List.cons.inj q5).1
    exact ⟨c0, wa0, c1, wa1, c2, wa2, a3, a4, a5, by rw [← Array.toArray_toList (xs := cs0), ← hl0], bya0, bya1, bya2, hua3, hua5, trivial⟩
theorem B9x {W : World} {a b : String × DataW Unit} {rest : List (String × DataW Unit)} (h : laidMet Tryz.prog (a :: b :: ("internal/strconv.uint64pow10", Rows.laid_internal_strconv_uint64pow10) :: ("pawl/sha.round", Rows.laid_pawl_sha_round) :: ("pawl/sha.first", Rows.laid_pawl_sha_first) :: rest) W) : Glb (heapA W) := by
  obtain ⟨e4, f4, h4⟩ := B7D h
  have h' : laidMet Tryz.prog (("pawl/sha.round", Lib.tabData .u32 (B2a A20)) :: ("pawl/sha.first", Lib.tabData .u32 (B2a A21.list)) :: rest) W := h.tail.tail.tail
  have h1 := Lib.tabIs_of_head (g := 1) (t := 265) (e := 30) (n := 64) (by kernel_rfl) (by kernel_rfl) (by kernel_rfl) (by kernel_rfl) (by kernel_rfl) (by kernel_rfl) h'
  have h2 := Lib.tabIs_of_head (g := 0) (t := 222) (e := 30) (n := 8) (by kernel_rfl) (by kernel_rfl) (by kernel_rfl) (by kernel_rfl) (by kernel_rfl) (by kernel_rfl) h'.tail
  obtain ⟨ek, fk, h3⟩ := A5p (g := 1) (by kernel_rfl) h1
  obtain ⟨ef, ff, h5⟩ := A5p (g := 0) (by kernel_rfl) h2
  rw [A4q] at h3 h5
  exact ⟨⟨ef, ff, A0K.2 h5⟩, ⟨ek, fk, A0K.2 h3⟩, ⟨e4, f4, A0K.2 h4⟩⟩
end Go.Proofs.YthbhpfefdnffaaaGreatDoor

namespace Go.Proofs.YthbhpfefdnffaaaGreatDoor.agreeNil
open Go.ChangeShapes Go.WideShapes Go.ChangeAt Go.RowKit
theorem own : ownKnob Tryz.prog.godebug = none := by kernel_rfl
theorem laidOut : laidOutB Tryz.prog = true := by kernel_rfl
noncomputable def laidWorld (os : Os) : World := World.laidAll Tryz.prog os Rows.agreeNilRow.laid
theorem laid_met (os : Os) : laidMetH Tryz.prog Rows.agreeNilRow.laid ((laidWorld os).forCall (fun _ _ => 0) ⟨#[], #[.int .u8 0, .agg #[.slice none 0 0, .slice none 0 0, .slice none 0 0, .int .u32 0, .bool false, .int .u32 0], .agg #[.int .i64 0, .int .i64 0, .slice none 0 0, .slice none 0 0, .int .u32 0, .slice none 0 0, .slice none 0 0, .bool false, .int .u32 0, .slice none 0 0]], []⟩).memory := by
  rw [MakeChecks.laidMetH_plain _ _ _ (by kernel_rfl)]; exact laidMet_laidAll _ (by kernel_rfl) (by kernel_rfl)
theorem reads (os : Os) {H : Type} (enc : TypeId × Value → H) : ∃ places, DataW.whole enc Tryz.prog ((laidWorld os).forCall (fun _ _ => 0) ⟨#[], #[.int .u8 0, .agg #[.slice none 0 0, .slice none 0 0, .slice none 0 0, .int .u32 0, .bool false, .int .u32 0], .agg #[.int .i64 0, .int .i64 0, .slice none 0 0, .slice none 0 0, .int .u32 0, .slice none 0 0, .slice none 0 0, .bool false, .int .u32 0, .slice none 0 0]], []⟩).memory Tryz.f5.params.toList Rows.agreeNilSpec.vars false (#[.int .u8 0, .agg #[.slice none 0 0, .slice none 0 0, .slice none 0 0, .int .u32 0, .bool false, .int .u32 0], .agg #[.int .i64 0, .int .i64 0, .slice none 0 0, .slice none 0 0, .int .u32 0, .slice none 0 0, .slice none 0 0, .bool false, .int .u32 0, .slice none 0 0]] : Array Value).toList 8 = some ([.lit (.int .u8 0), .agg [.agg [.nil, .nil], .nil, .lit (.int .u32 0), .lit (.bool false), .lit (.int .u32 0)], .agg [.agg [.lit (.int .i64 0), .lit (.int .i64 0)], .agg [.nil, .nil], .lit (.int .u32 0), .nil, .nil, .lit (.bool false), .lit (.int .u32 0), .nil]], [], places) :=
  ⟨[], by kernel_rfl⟩
theorem lifted (os : Os) (started : os.Started) (H : Type) (enc : TypeId × Value → H) (F : Stop.Interp) :
    ReturnsInHanded {} Tryz.checked os 5 .any ((OpenSpec.ofChange Rows.agreeNilSpec).preRow enc Tryz.prog Tryz.f5 Rows.agreeNilRow.domain false Rows.agreeNilRow.laid) (((OpenSpec.ofChange Rows.agreeNilSpec).at F).post enc Tryz.prog Tryz.f5 false true false false) := by
  obtain ⟨places, hx⟩ := reads os enc
  refine returnsInHanded_of_row (C := Tryz.checked) (s := (OpenSpec.ofChange Rows.agreeNilSpec)) own started (by kernel_rfl) Tryz.func5
    (witness_row_at (enc := enc) (C := Tryz.checked) false (laidWorld os) #[.int .u8 0, .agg #[.slice none 0 0, .slice none 0 0, .slice none 0 0, .int .u32 0, .bool false, .int .u32 0], .agg #[.int .i64 0, .int .i64 0, .slice none 0 0, .slice none 0 0, .int .u32 0, .slice none 0 0, .slice none 0 0, .bool false, .int .u32 0, .slice none 0 0]] (World.laidAll_os _ _ _) (by kernel_rfl) (by kernel_rfl) (by kernel_rfl)
      (OpenSpec.preRow_of_cond 8 hx (by kernel_rfl) (fun k hk => by cases hk) (by kernel_rfl) (laid_met os))) ?_
  intro W base args ds gs before hval0 hW _ _ hsz hL _ _
  have hval : ∀ (j : Nat) t v, Tryz.f5.params[j]? = some t → args[j]? = some v → Value.okWide Tryz.prog W .any base t v := hval0
  have hW' := hW
  obtain ⟨p, q, hA0, hV, rfl, hfz, hnd⟩ := hW
  have hA : DataW.TrodAll enc Tryz.prog W 0 (fun _ => true) true Tryz.f5.params.toList args.toList ds p := hA0
  rw [Tryz.params5] at hA hval hsz
  obtain ⟨v0, vs0, d0, ds0, p0, q0, hargs, rfl, rfl, k0, r0_⟩ := trodAll_cons hA
  obtain ⟨v1, vs1, d1, ds1, p1, q1, rfl, rfl, rfl, k1, r1_⟩ := trodAll_cons r0_
  obtain ⟨v2, vs2, d2, ds2, p2, q2, rfl, rfl, rfl, k2, r2_⟩ := trodAll_cons r1_
  obtain ⟨rfl, rfl, rfl⟩ := trodAll_nil r2_
  obtain rfl : args = #[v0, v1, v2] := by cases args; simp_all
  obtain ⟨rfl, rfl⟩ := trodVars_none hV
  have lt0 : ∀ x ∈ p0, x.block < W.heap.size := by obtain ⟨m, hm⟩ := k0; exact DataW.trod_lt m _ _ _ hm
  have lt1 : ∀ x ∈ p1, x.block < W.heap.size := by obtain ⟨m, hm⟩ := k1; exact DataW.trod_lt m _ _ _ hm
  have lt2 : ∀ x ∈ p2, x.block < W.heap.size := by obtain ⟨m, hm⟩ := k2; exact DataW.trod_lt m _ _ _ hm
  obtain ⟨x0, rfl, hx0⟩ := Px.inU Tryz.underlying5 rfl (hval 0 5 v0 rfl rfl) k0
  obtain ⟨x1_0, wx1_0, x1_1, wx1_1, x1_2, wx1_2, x1_3, x1_4, x1_5, rfl, byx1_0, byx1_1, byx1_2, hx1_3, hx1_5, _⟩ := B2b (hval 1 43 v1 rfl rfl) k1 (fun n hn => of_decide_eq_true (List.all_eq_true.1 hsz n (DataW.weights_mem_each (j := 1) (t := 43) rfl rfl n hn)))
  obtain ⟨x2_0, x2_1, x2_2, wx2_2, x2_3, wx2_3, x2_4, x2_5, wx2_5, x2_6, wx2_6, x2_7, x2_8, x2_9, wx2_9, rfl, hx2_0, hx2_1, byx2_2, byx2_3, hx2_4, byx2_5, byx2_6, hx2_8, byx2_9, _⟩ := A9r (hval 2 32 v2 rfl rfl) k2 (fun n hn => of_decide_eq_true (List.all_eq_true.1 hsz n (DataW.weights_mem_each (j := 2) (t := 32) rfl rfl n hn)))
  clear hA0 hval0
  rw [MakeChecks.laidMetH_plain _ _ _ (by kernel_rfl)] at hL
  have hG := B9x hL
  refine Calls.mono ((A9q x0 ⟨wx1_0, wx1_1, wx1_2, x1_3, x1_4, x1_5⟩ x1_0 x1_1 x1_2 x2_0 x2_1 x2_2 x2_3 x2_5 x2_6 x2_9 x2_4 x2_8 x2_7 wx2_2 wx2_3 wx2_5 wx2_6 wx2_9 _ hx0 byx1_0.toByi byx1_1.toByi byx1_2.toByi byx2_2.toByi byx2_3.toByi byx2_5.toByi byx2_6.toByi byx2_9.toByi byx1_2.sz byx1_0.sz byx2_5.sz byx2_6.sz byx2_3.sz hx1_3 hx1_5 hG).calls (Px.heapA_fx W)) fun e W' ⟨he, bel⟩ => ?_
  subst he
  exact ⟨_, rfl, _, _, _, [], _, [], hW', trodAll_mk1 (shut_bool Tryz.underlying4 _), (trodAll_cons_mk (Below.trod laidOut (by kernel_rfl) (of_decide_eq_true (by kernel_rfl)) k0 bel lt0) (trodAll_cons_mk (Below.trod laidOut (by kernel_rfl) (of_decide_eq_true (by kernel_rfl)) k1 bel lt1) (trodAll_cons_mk (Below.trod laidOut (by kernel_rfl) (of_decide_eq_true (by kernel_rfl)) k2 bel lt2) trodAll_mk0))), rfl, bel.frame _, fun h => by cases h⟩
theorem said : Rows.AgreeNilSaid :=
  OpenClaim.holds_of_cond 5 Tryz.f5 rfl rfl rfl rfl rfl rfl rfl ⟨rfl, rfl, rfl, rfl, rfl⟩ rfl rfl rfl rfl rfl (by kernel_rfl) Tryz.func5 (by kernel_rfl)
    (of_decide_eq_true (by kernel_rfl)) (by unfold Func.isWrapper; first | (rw [if_pos (by decide +kernel)]; kernel_rfl) | (rw [if_neg (by decide +kernel)]; exact ⟨rfl, rfl⟩))
    (fun os started H enc _ F => by rw [OpenClaim.pre_eq_preRow]; exact lifted os started H enc F)
theorem plain (f : FuncId) (fn : Func) (hf : Tryz.pinned.checked.prog.funcNamed "pawl/pawllaw13.AgreeNil" = some f) (hfn : Tryz.pinned.checked.prog.funcs[f]? = some fn) :
    true = Tryz.pinned.checked.prog.looks [] ∧ ∀ (j : Nat) t, fn.params[j]? = some t → Tryz.pinned.checked.prog.wantsStandIn t = false := by
  obtain rfl : f = 5 := Option.some.inj ((show Tryz.prog.funcNamed "pawl/pawllaw13.AgreeNil" = some 5 by kernel_rfl).symm.trans hf) |>.symm
  obtain rfl : fn = Tryz.f5 := (Option.some.inj (Tryz.func5.symm.trans hfn)).symm
  refine ⟨by kernel_rfl, fun j t ht => ?_⟩
  rw [Tryz.params5] at ht
  have hm := Array.mem_of_getElem? ht
  simp only [List.mem_toArray, List.mem_cons, List.not_mem_nil, or_false] at hm
  rcases hm with rfl | rfl | rfl
  · exact (show Tryz.prog.wantsStandIn 5 = false by kernel_rfl)
  · exact (show Tryz.prog.wantsStandIn 43 = false by kernel_rfl)
  · exact (show Tryz.prog.wantsStandIn 32 = false by kernel_rfl)
theorem proved : Rows.AgreeNilCardSaid :=
  Claim7.holds_tied_plain_at .later [] _ _ _ _ said (fun _ h => by cases h) (by kernel_rfl) (fun _ h => by cases h) agreeNil_row_tie rfl ⟨rfl, rfl⟩ (by kernel_rfl) rfl plain (by kernel_rfl)
#print axioms proved
end Go.Proofs.YthbhpfefdnffaaaGreatDoor.agreeNil

