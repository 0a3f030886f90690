/- Part 11 of the texts of this claim, one behind the other. -/
import Derived.Test.YtoameenjkiaefaaGreatDoorB10
import Derived.SizedLaws
set_option linter.unusedVariables false
set_option linter.unusedSimpArgs false
set_option maxRecDepth 100000
namespace Go.Proofs.YtoameenjkiaefaaGreatDoor
open Go.Px
theorem A46 (x : Int) : IntKind.u64.wrap x = ((u64N x : Nat) : Int) := by
  unfold u64N IntKind.wrap
  simp [IntKind.signed, IntKind.bits]
  omega
theorem A9l (x : Int) : u64N x < 18446744073709551616 := by unfold u64N; omega
def wiN (u d : Int) (a g : LN) : LN := beN (u64N u) 4 ++ beN (u64N d) 4 ++ (beN a.length 4 ++ a) ++ (beN g.length 4 ++ g)
theorem B4q (u d : Int) (a g : LN) : (wiN u d a g).length = a.length + g.length + 16 := by simp [wiN, G2]; omega
theorem B6x {s : Ps} {l : List (LN)} : (A2P s z32 l A06 1) = [seK s l] := by
  have h := A8Y s z32 l A06 1
  unfold seK
  match h2 : A2P s z32 l A06 1, h with
  | [x], _ => rfl
theorem B6y (A : Mem) : FnX Tryz.prog 150 [] [] A fun q M J => M = [] ∧ By J q z32 := by
 refine FnX.enterZ (N := 2) Tryz.func150 rfl rfl rfl fun w_ => ?_
 refine A8 kn (A1 (as_ (A0 kn (A1 ?_))))
 refine A4 rfl (A5q (by_ := 1) (k := .u8) (e := 5) 32 rfl rfl kR rfl rfl qD qD rfl fun b1 => ?_)
 refine as_ (A0 (C7 0) (A7 ?_))
 exact ⟨_, [], [(b1, blk (I3 .u8 z32) 5)], F7 rfl rfl, Fit.eq (by simp [z32]), rfl, ⟨Rd.whole (n := 32) qK qR, by decide, by decide⟩⟩
theorem A2A (pb : Nat × Nat) (s : Ps) (lv : Value) (l : List (LN)) (MP A : Mem) (hP : Prm pb s MP) (hl : LsV A lv l) (hll : l.length ≤ 1000) (hn : s.ts.length ≤ 1040000) (hG : Glb A) : FnX Tryz.prog 113 [.pointer (some ⟨pb.1, 0, none⟩), lv] MP A fun q M J => Prm pb (seS s l) M ∧ By J q (seK s l) := by
 haveI := hl.cel
 refine FnX.enterZ (N := 16) Tryz.func113 rfl rfl rfl fun w_ => ?_
 refine A8 (D0 0 1) (A1 (as_ (A0 (D0 0 1) (A1 (mv_ ?_)))))
 refine E0 a0 kR (B6y _) rfl ?_
 rintro v7 M7 J7 ⟨rfl, h7⟩
 haveI := h7.cel
 refine mv_ ?_
 refine A4 rfl (A9 (Mc := MP) (R := _) (aS rfl (aS rfl (aS rfl (aS rfl (aS rfl a0))))) kR qP (A0I pb s v7 lv z32 A06 l 1 MP _ hP (h7.mono qS) (hl.mono qS) hll A31 qD qD qD hn hG.up) rfl ?_)
 rintro v9 M9 J9 ⟨hP9, hL9⟩
 haveI := hL9.cel
 rw [B6x] at hL9
 obtain ⟨us, hru, hul⟩ := hL9.ex
 change Rd J9 1 v9 1 us at hru
 obtain ⟨u, hu, hub⟩ := hul.at (show 0 < [seK s l].length from Nat.zero_lt_one)
 haveI := hub.cel
 change By J9 u (seK s l) at hub
 change Prm pb (seS s l) M9 at hP9
 refine as_ (A0 (C7 5) (A6 (A1 (mv_ ?_))))
 refine A2 (E2 (sz := 1) rfl kR hru) rfl ?_
 refine A2 (F0 false rfl rfl (eqF qD)) rfl ?_
 refine A0 (D0 5 12) ?_
 refine B0 rfl ?_
 refine A5 (nx (C7 5) (A1 (mv_ ?_)))
 refine A2 (F2 (sz := 1) (a := 0) rfl rfl kR rfl hru qD) rfl ?_
 refine A2 (L0 (u := u) (hru.mono qS) rfl kR hu) rfl ?_
 refine as_ (A0 (C7 4) (A7 ?_))
 exact ⟨_, M9, [], F7 rfl rfl, Fit.none (Fit.last qP), hP9, hub.mono qS⟩
def wiP (u d : Int) (a g : LN) (u' d' : Int) (a' g' : LN) : Nat → LN
  | 0 => []
  | 1 => wiN u d a g
  | _ => wiN u d a g ++ wiN u' d' a' g'
def A9m (u d : Int) (a g : LN) (u' d' : Int) (a' g' : LN) : LN := wiN u d a g ++ wiN u' d' a' g'
theorem A9n (fu fd tu td : Int) (va vg vb vh : Value) (a g b h : LN) (A : Mem) (ga : By A va a) (gg : By A vg g) (gb : By A vb b) (gh : By A vh h) (hl : a.length + g.length + b.length + h.length ≤ 1000000) : FnX Tryz.prog 63 [.agg #[.int .i64 fu, .int .i64 fd], .agg #[va, vg], .agg #[.int .i64 tu, .int .i64 td], .agg #[vb, vh]] [] A fun q M J => M = [] ∧ By J q (A9m fu fd a g tu td b h) := by
 haveI := ga.cel
 haveI := gg.cel
 haveI := gb.cel
 haveI := gh.cel
 refine FnX.enterZ (N := 48) Tryz.func63 rfl rfl rfl fun w_ => ?_
 refine A8 (F4 0 1 2 3) (A1 ?_)
 refine A4 rfl (bx_ fun b4 => ?_)
 refine A4 rfl (bx_ fun b5 => ?_)
 refine A4 rfl (bx_ fun b6 => ?_)
 refine A4 rfl (bx_ fun b7 => ?_)
 refine as_ (A0 (F4 4 5 6 7) (A1 ?_))
 refine A2 (D6 (place := fun x => #[(0, 1)][x]?) (z := [vS]) (fun _ => by kernel_rfl) e0 bd0) rfl ?_
 refine A4 rfl (bx_ fun b13 => ?_)
 refine as_ (A0 (G6 4 5 6 7 9) (A6 (A1 ?_)))
 refine A2 (qw_ 2) rfl ?_
 refine A2 (qw_ 2) rfl ?_
 refine A2 (D6 (place := fun x => #[(0, 2), (2, 2)][x]?) (z := [.int .i64 0, .int .i64 0, vS, vS]) (fun _ => by kernel_rfl) (eS rfl (eS rfl e0)) (bdS 0 2 rfl qR (bdS 2 2 rfl qR bd0))) rfl ?_
 refine A2 (qw_ 2) rfl ?_
 refine A2 (qw_ 2) rfl ?_
 refine A2 (D6 (place := fun x => #[(0, 2), (2, 2)][x]?) (z := [.int .i64 0, .int .i64 0, vS, vS]) (fun _ => by kernel_rfl) (eS rfl (eS rfl e0)) (bdS 0 2 rfl qR (bdS 2 2 rfl qR bd0))) rfl ?_
 refine A4 rfl (C4 (e := 189) (sz := 4) (z := [G8, G8, vS, vS, G8, G8, vS, vS]) kR (eS rfl (eS rfl e0)) (bdS 0 4 rfl qR (bdS 4 4 rfl qR bd0)) rfl fun b20 => ?_)
 refine A2 (A0s (e := 189) rfl kR) rfl ?_
 refine mv_ (A0 (F4 9 20 21 22) (C5 ?_))
 refine V7 (B := [(b20, blk [.int .i64 fu, .int .i64 fd, va, vg, .int .i64 tu, .int .i64 td, vb, vh] 189)]) qP ?_
 refine H0 (α := Nat × Mem) (fun y => [(9, (vP b13)), (20, .slice (some ⟨b20, 0, none⟩) 2 2), (21, .int .i64 2), (22, (vI y.1))]) (fun y => y.2) (fun _ => [(b20, blk [.int .i64 fu, .int .i64 fd, va, vg, .int .i64 tu, .int .i64 td, vb, vh] 189)]) (fun y => y.1 ≤ 2 ∧ Wtr b13 (wiP fu fd a g tu td b h y.1) y.2) (fun y => 2 - y.1) (0, [(b13, blk [vS] 97)]) ⟨Nat.zero_le _, Wtr.new⟩ (F4 9 20 21 22) (Fit.last qP) qS ?_
 rintro ⟨i, MW⟩ ⟨hi, hW⟩
 dsimp only at hi hW ⊢
 have hwl : (wiP fu fd a g tu td b h i).length ≤ 2000100 := by
  rcases (by omega : i = 0 ∨ i = 1 ∨ i = 2) with rfl | rfl | rfl <;> simp [wiP, B4q] <;> omega
 refine A1 ?_
 refine A2 (F3 rfl rfl rfl) rfl ?_
 refine A0 (G6 9 20 21 22 23) (A6 ?_)
 refine C3 rfl ?_ ?_ <;> intro hc
 ·
  have hlt : i < 2 := by simp at hc; omega
  obtain ⟨u, d, x, z, vx, vz, hr1, hx, hz, hlx, hP⟩ : ∃ u d x z vx vz, ([[.int .i64 fu, .int .i64 fd, va, vg], [.int .i64 tu, .int .i64 td, vb, vh]] : List (List Value))[i]? = some [.int .i64 u, .int .i64 d, vx, vz] ∧ By A vx x ∧ By A vz z ∧ x.length + z.length ≤ 1000000 ∧ wiP fu fd a g tu td b h (i + 1) = wiP fu fd a g tu td b h i ++ wiN u d x z := by
   rcases (by omega : i = 0 ∨ i = 1) with rfl | rfl
   · exact ⟨fu, fd, a, g, va, vg, rfl, ga, gg, by omega, rfl⟩
   · exact ⟨tu, td, b, h, vb, vh, rfl, gb, gh, by omega, rfl⟩
  haveI := hx.cel
  haveI := hz.cel
  have hu64 := A9l u
  have hd64 := A9l d
  refine A5 (nx (F4 9 20 21 22) (A6 (C5 (A1 ?_))))
  refine A2 (F2 (sz := 4) rfl rfl kR rfl (Rd.whole (n := 2) (R := [(b20, blk [.int .i64 fu, .int .i64 fd, va, vg, .int .i64 tu, .int .i64 td, vb, vh] 189)]) qK qR) hlt) rfl ?_
  refine A2 (U4 (rows := [[.int .i64 fu, .int .i64 fd, va, vg], [.int .i64 tu, .int .i64 td, vb, vh]]) rfl kR (Rd.whole (n := 2) At.mem qR) (by intro r hr; simp at hr; rcases hr with rfl | rfl <;> rfl) qD hr1) rfl ?_
  refine A4 rfl (D2 (cs := [.int .i64 0, .int .i64 0, vS, vS]) kR rfl fun b11 => ?_)
  refine A4 rfl (B8 (vs := [.int .i64 u, .int .i64 d, vx, vz]) rfl rfl rfl kR qR (A3 rfl (A3 rfl (A3 hx.one (A3 hz.one H9)))) UpC.upd ?_)
  refine A0 (G6 9 11 20 21 22) ?_
  refine W7 (MW) (_) true (.range 19) [(0, 0), (1, 0), (2, 0), (3, 1), (4, 0), (6, 0), (7, 0), (8, 1), (9, 0), (11, 0), (12, 0), (13, 1), (15, 0), (16, 0), (17, 1), (5, 2), (10, 2), (14, 2), (18, 2)] kR kR qP fun hs K n0 hKm hKs hKn => ?_
  refine km_ hs ?_
  refine F1 hs rfl (qf_ 0 0) rfl ?_
  refine F1 hs rfl (qf_ 0 0) rfl ?_
  refine I1 hs rfl hKs ql_ ?_
  refine F1 hs rfl (X4 (k' := .u64) ((u64N u : Nat) : Int) rfl kR (A46 u)) rfl ?_
  refine F1 hs rfl (qf_ 0 0) rfl ?_
  refine F1 hs rfl (qf_ 1 1) rfl ?_
  refine I1 hs rfl hKs ql_ ?_
  refine F1 hs rfl (X4 (k' := .u64) ((u64N d : Nat) : Int) rfl kR (A46 d)) rfl ?_
  refine F1 hs rfl (qf_ 2 2) rfl ?_
  refine F1 hs rfl (qf_ 2 0) rfl ?_
  refine I1 hs rfl hKs ql_ ?_
  refine F1 hs rfl (qf_ 2 2) rfl ?_
  refine F1 hs rfl (qf_ 3 1) rfl ?_
  refine I1 hs rfl hKs ql_ ?_
  refine F9 _ _ rfl rfl (List.Perm.refl _) hKm fun w0 => (A9 (Mc := MW) (R := _) (aS rfl (aS rfl (aS rfl (a0)))) kR qP (K1 b13 (u64N u) 4 _ _ _ hW hu64 qD qO) rfl ?_)
  rintro v31 M31 J31 ⟨rfl, hW31⟩ hKx31
  refine F9 M31 _ rfl rfl qP (fun x hx => hKx31 (hKn rfl) x (by simpa using hx)) fun w0 => (A9 (Mc := M31) (R := _) (aS rfl (aS rfl (aS rfl (a0)))) kR qP (K1 b13 (u64N d) 4 _ _ _ hW31 hd64 qD (by first | (simp [G2]; done) | (simp [G2]; omega))) rfl ?_)
  rintro v36 M36 J36 ⟨rfl, hW36⟩ hKx36
  refine F9 M36 _ rfl rfl qP (fun x hx => hKx36 (hKn rfl) x (by simpa using hx)) fun w0 => (A9 (Mc := M36) (R := _) (aS rfl (aS rfl (a0))) kR qP (I0 b13 vx x _ _ _ hW36 (hx.mono qS) (by first | (simp [G2]; done) | (simp [G2]; omega))) rfl ?_)
  rintro v40 M40 J40 ⟨rfl, hW40⟩ hKx40
  refine F9 M40 _ rfl rfl qP (fun x hx => hKx40 (hKn rfl) x (by simpa using hx)) fun w0 => (A9 (Mc := M40) (R := _) (aS rfl (aS rfl (a0))) kR qP (I0 b13 vz z _ _ _ hW40 (hz.mono qS) (by first | (simp [G2]; done) | (simp [G2]; omega))) rfl ?_)
  rintro v44 M44 J44 ⟨rfl, hW44⟩ hKx44
  refine A1Y (nb (nx (F4 9 20 21 22) (C6 ?_)))
  refine A2 (Q0 ((i + 1 : Nat) : Int) rfl rfl (W1 qO qO qO)) rfl ?_
  refine mv_ (E1 ?_)
  exact rn (i + 1, M44) ⟨hlt, hW44.eq (by dsimp only; rw [hP]; simp [wiN, List.append_assoc])⟩ (by dsimp only; omega) (F4 9 20 21 22) (Fit.last qP) qS
 ·
  have hge : i = 2 := by simp at hc; omega
  subst hge
  refine G4 (te (re (be rfl (nx (C7 9) (A1 (mv_ ?_))))))
  refine A4 rfl (A9 (Mc := MW) (R := _) (aS rfl a0) kR qP (P8 b13 _ _ _ hW qO) rfl ?_)
  rintro v47 M47 J47 ⟨hW47, h47⟩
  haveI := h47.cel
  refine as_ (A0 (C7 8) (A7 ?_))
  exact ⟨_, [], [], F7 rfl rfl, qZ, rfl, h47.mono qS⟩
theorem A9o (pb : Nat × Nat) (s : Ps) (b : Bn) (va vg vk vs vo : Value) (MP A : Mem) (hP : Prm pb s MP) (hsub : ∀ x, x ∈ MP → x ∈ A) (har : Ar s.ts) (hn : s.ts.length ≤ 1048576) (ga : By A va b.ia) (gg : By A vg b.ig) (gk : By A vk b.key) (gs : By A vs b.sig) (go : By A vo b.oncek) (hsn : b.signed < 4294967296) (hG : Glb A) : FnV Tryz.prog 124 [.pointer (some ⟨pb.1, 0, none⟩), .agg #[.int .i64 b.user, .int .i64 b.dev, va, vg, (vU b.signed), vk, vs, .bool b.has, (vU b.once), vo]] A (.bool (decide (b.key.length = 32) && B2D s b.ig (A4X b.signed b.key) b.sig)) := by
 haveI := ga.cel
 haveI := gg.cel
 haveI := gk.cel
 haveI := gs.cel
 haveI := go.cel
 have hgl := gk.len
 refine FnX.enter (N := 23) Tryz.func124 rfl rfl rfl fun w => ?_
 refine A8 (D0 0 1) (A1 ?_)
 refine A4 rfl (bx_ fun b3 => ?_)
 refine as_ (A0 (D0 0 3) ?_)
 refine G5 (.range 19) [(0, 0), (1, 1), (2, 0), (3, 0), (4, 0), (5, 0), (6, 0), (7, 0), (8, 1), (9, 0), (10, 1), (11, 0), (12, 1), (14, 0), (15, 1), (13, 2), (16, 2), (17, 0), (18, 0)] kR kR fun hs => ?_
 refine E8 hs rfl (qf_ 5 5) rfl ?_
 refine R5 hs rfl ql_ rfl ?_
 refine E8 hs rfl (E2 (sz := 1) rfl kR gk.rd) rfl ?_
 refine E8 hs rfl (F0 (decide (b.key.length = 32)) rfl rfl (B7G _ 32)) rfl ?_
 refine fm_ hs ?_
 refine V5 (t := 9) rfl (fun hb => ?_) (fun hb => ?_)
 ·
  have hk32 : b.key.length = 32 := of_decide_eq_true hb
  refine I4 hs rfl rfl rfl rfl qm_ rfl ?_
  refine I4 hs rfl rfl rfl rfl (qf_ 2 2) rfl ?_
  refine I4 hs rfl rfl rfl rfl (qf_ 3 1) rfl ?_
  refine A0r hs rfl rfl rfl rfl ql_ rfl ?_
  refine I4 hs rfl rfl rfl rfl (qf_ 4 4) rfl ?_
  refine A0r hs rfl rfl rfl rfl ql_ rfl ?_
  refine I4 hs rfl rfl rfl rfl (qf_ 5 5) rfl ?_
  refine A0r hs rfl rfl rfl rfl ql_ rfl ?_
  refine I4 hs rfl rfl rfl rfl (qf_ 6 6) rfl ?_
  refine A0r hs rfl rfl rfl rfl ql_ rfl ?_
  refine A54 rfl rfl rfl rfl (aS rfl (aS rfl a0)) kR (A4Y b.signed vk b.key _ hsn (gk.mono qS) qO) rfl ?_
  rintro v18 M18 J18 ⟨rfl, h18⟩
  haveI := h18.cel
  refine A12 rfl rfl rfl rfl (aS rfl (aS rfl (aS rfl (aS rfl a0)))) kR (B04 pb s vg v18 vs b.ig (A4X b.signed b.key) b.sig MP _ hP (fun x hx => qS _ (hsub x hx)) har hn (gg.mono qS) (h18.mono qS) (gs.mono qS) hG.up) rfl ?_
  refine E8 hs rfl (E3 rfl rfl) rfl ?_
  refine fa_ hs ?_
  refine I2 (C7 4) (A7 ?_)
  exact ⟨_, [], [], F7 rfl rfl, List.nil_sublist _, by simp, by rw [hb, Bool.true_and], rfl, rfl⟩
 ·
  refine L2 hs ?_
  refine L2 hs ?_
  refine L2 hs ?_
  refine V3 hs ?_
  refine L2 hs ?_
  refine V3 hs ?_
  refine L2 hs ?_
  refine V3 hs ?_
  refine L2 hs ?_
  refine V3 hs ?_
  refine B3l hs rfl rfl rfl rfl rfl rfl ?_
  refine B3l hs rfl rfl rfl rfl rfl rfl ?_
  refine E8 hs rfl (C8 rfl rfl) rfl ?_
  refine fa_ hs ?_
  refine I2 (C7 4) (A7 ?_)
  exact ⟨_, [], [], F7 rfl rfl, List.nil_sublist _, by simp, by rw [hb, Bool.false_and], rfl, rfl⟩

end Go.Proofs.YtoameenjkiaefaaGreatDoor
namespace Go.Px
open Go.ChangeShapes Go.WideShapes Go.ChangeAt Go.RowKit
structure Byi (R : Mem) (v : Value) (w : List Nat) : Prop where
  rd : Rd R 1 v w.length (I3 .u8 w)
  lt : ∀ x ∈ w, x < 256
  len : w.length ≤ maxLen
theorem Byi.mono {R R' : Mem} {v : Value} {w : List Nat} (h : Byi R v w) (hR : ∀ x, x ∈ R → x ∈ R') : Byi R' v w := ⟨h.rd.mono hR, h.lt, h.len⟩
theorem By.i {R : Mem} {v : Value} {w : List Nat} (h : By R v w) : Byi R v w := ⟨h.rd, h.lt, h.max⟩
theorem Byi.by {R : Mem} {v : Value} {w : List Nat} (h : Byi R v w) (hl : w.length ≤ 16777216) : By R v w := ⟨h.rd, h.lt, hl⟩
theorem Byi.cel {R : Mem} {v : Value} {w : List Nat} (h : Byi R v w) : Cel v [v] := h.rd.cel
theorem Byi.one {R : Mem} {v : Value} {w : List Nat} (h : Byi R v w) : v.oneCell' = true := h.rd.one
structure Byz (R : Mem) (v : Value) (w : List Nat) : Prop extends Byi R v w where
  sz : w.length ≤ reachBytes
theorem Byz.mono {R R' : Mem} {v : Value} {w : List Nat} (h : Byz R v w) (hR : ∀ x, x ∈ R → x ∈ R') : Byz R' v w := ⟨h.toByi.mono hR, h.sz⟩
section
variable {H : Type} {enc : TypeId × Value → H} {P : Program} {w : World} {spare : Nat → Bool} {held : Bool} {fuel : Nat} {t e : TypeId} {cs : List Value} {x : DataW H × List MemPlace}
end
end Go.Px

namespace Go.Proofs.YtoameenjkiaefaaGreatDoor
open Go.Px
theorem A9p {P : Program} {fn : Func} {l : Env} {R : Mem} {t u x b n : Nat} {ty : TypeId} {cs : List Value} {e : TypeId} {fr : Nat × Nat} {v z : Value} (h : fn.results = #[.tmp u, .cell t ty, .tmp x]) (hv : lk l t = some (vP b)) (hu : lk l u = some v) (hx : lk l x = some z) (ht : A4q P ty = some n)
    (hb : (b, Obj.cells cs.toArray e fr) ∈ R) (hn : cs.length = n) : Res P fn l R (.tuple #[v, .agg cs.toArray, z]) := fun N a w ha hw => by
  obtain ⟨dsc, h1, h2, h3⟩ := L9 ht
  have hl := run_loadVar_row (P := P) w b e ty cs.toArray fr dsc (hw b _ hb) h1 (by cases dsc <;> simp_all [TypeDesc.isRow]) (by rw [h3, ← hn]; simp)
  simp [results, h, ha.slot t _ hv, ha.slot u _ hu, ha.slot x _ hx, asAddr, hl]
theorem B8p {P : Program} {fn : Func} {l : Env} {R : Mem} {t u x : Nat} {v z y : Value} (h : fn.results = #[.tmp t, .tmp u, .tmp x]) (hv : lk l t = some v) (hu : lk l u = some z) (hx : lk l x = some y) : Res P fn l R (.tuple #[v, z, y]) := fun N a w ha hw => by
  simp [results, h, ha.slot t _ hv, ha.slot u _ hu, ha.slot x _ hx]
noncomputable def ckB (s : Ps) (b : Bn) : Bool := decide (b.key.length = 32) && B2D s b.ig (A4X b.signed b.key) b.sig
def heC (va vg vk : Value) (h : He) : List Value := [va, vg, vk, (vU h.signed), .bool h.has, (vU h.once)]
structure HeR (R : Mem) (h : He) (va vg vk : Value) : Prop where
  ia : By R va h.ia
  ig : Byi R vg h.ig
  key : By R vk h.key
  signed : h.signed < 4294967296
  once : h.once < 4294967296
theorem HeR.mono {R R' : Mem} {h : He} {va vg vk : Value} (g : HeR R h va vg vk) (hR : ∀ x, x ∈ R → x ∈ R') : HeR R' h va vg vk := ⟨g.ia.mono hR, g.ig.mono hR, g.key.mono hR, g.signed, g.once⟩
theorem B4r (pb : Nat × Nat) (s : Ps) (kb : Nat) (k : Ks) (va vg vq vo vm : Value) (rs ro rm : List (List Value)) (b : Bn) (wa wg wk ws wo : Value) (MP A : Mem) (hK : KyR A kb k va vg vq vo vm rs ro rm) (hP : Prm pb s MP) (har : Ar s.ts) (hn : s.ts.length + 1000 ≤ 1040000) (hk : s.n < 1000000000) (ga : By A wa b.ia) (gg : By A wg b.ig) (gk : By A wk b.key) (gs : By A ws b.sig) (go : By A wo b.oncek) (hsn : b.signed < 4294967296) (hon : b.once < 4294967296) (hG : Glb A) : FnX Tryz.prog 72 [.pointer (some ⟨pb.1, 0, none⟩), (vP kb), .agg #[.int .i64 b.user, .int .i64 b.dev, wa, wg, (vU b.signed), wk, ws, .bool b.has, (vU b.once), wo]] MP A fun q M J => (ckB s b = true → ∃ v p r u, q = .tuple #[v, .agg (heC p r u (stH k b s)).toArray, .int .i64 0] ∧ Prm pb (stS k b s) M ∧ By J v (stK k b s) ∧ HeR (J ++ A) (stH k b s) p r u) ∧ (ckB s b = false → q = .tuple #[vS, .agg #[vS, vS, vS, .int .u32 0, .bool false, .int .u32 0], .int .i64 10] ∧ Prm pb s M) := by
 haveI := ga.cel
 haveI := gg.cel
 haveI := gk.cel
 haveI := gs.cel
 haveI := go.cel
 have f1 := K3 s
 have f2 := L4 (D4 s) k.agree b.key
 have f3 := L4 (I6 (D4 s) k.agree b.key) (D9 s) b.ia
 have f4 := L4 (I6 (I6 (D4 s) k.agree b.key) (D9 s) b.ia) (D9 s) b.key
 have f5 := L4 (I6 (I6 (I6 (D4 s) k.agree b.key) (D9 s) b.ia) (D9 s) b.key) (D9 s) b.oncek
 refine FnX.enterZ (N := 74) Tryz.func72 rfl rfl rfl fun w_ => ?_
 refine A8 (E5 0 1 2) (A1 ?_)
 refine A4 rfl (bx_ fun b5 => ?_)
 refine as_ ?_
 refine A4 rfl (D2 (cs := [vS, vS, vS, .int .u32 0, .bool false, .int .u32 0]) kR rfl fun b7 => ?_)
 refine as_ (A0 (F4 0 1 5 7) (A6 (A1 (mv_ ?_))))
 refine A2 (C9 (e := 127) rfl rfl kR) rfl ?_
 refine mv_ ?_
 refine C0 rfl rfl (OpQ.opL qm_ rfl ?_)
 refine C0 rfl rfl (OpQ.opL (C9 (e := 118) rfl rfl kR) rfl ?_)
 refine A2 (C8 rfl rfl) rfl ?_
 refine A0 (G6 0 1 5 7 17) ?_
 refine B0 rfl ?_
 refine A5 (nx (F4 0 1 5 7) (A6 (A1 (mv_ ?_))))
 refine A2 (qw_ 10) rfl ?_
 refine D7 (aS rfl (aS rfl a0)) kR (A9o pb s b wa wg wk ws wo MP _ hP (by intro z hz; simp [hz]) har qO (ga.mono qS) (gg.mono qS) (gk.mono qS) (gs.mono qS) (go.mono qS) hsn hG.up) rfl ?_
 change XL _ _ _ _ ((21, .bool (ckB s b)) :: _) _ _
 refine A2 (L6 rfl) rfl ?_
 refine A0 (G6 0 1 5 7 22) ?_
 refine C3 rfl ?_ ?_ <;> intro hc
 ·
  have hck : ckB s b = false := by simpa using hc
  refine A1 ?_
  refine A2 (D6 (place := fun x => #[(0, 2), (2, 1), (3, 1), (4, 1), (5, 1)][x]?) (z := [vS, vS, vS, .int .u32 0, .bool false, .int .u32 0]) (fun _ => by kernel_rfl) e0 bd0) rfl ?_
  refine as_ ?_
  refine A4 rfl (B8 rfl rfl Cel.cel kR ln6 al6 UpC.upd ?_)
  refine as_ (A0 (E5 6 7 8) (A7 (tr ?_)))
  exact ⟨_, MP, [], A9p (n := 6) rfl rfl rfl rfl kR At.mem qR, Fit.none (Fit.last qP), (fun h => by rw [hck] at h; cases h), fun _ => ⟨rfl, hP⟩⟩
 ·
  have hck : ckB s b = true := by simpa using hc
  refine A5 (nx (F4 0 1 5 7) (A1 (mv_ ?_)))
  refine A4 rfl (A9 (Mc := MP) (R := _) (aS rfl (a0)) kR qP (R7 pb s MP _ hP qO qO hG.up) rfl ?_)
  rintro v25 M25 J25 ⟨hP25, h25⟩
  haveI := h25.cel
  refine as_ (A0 (G6 0 1 5 7 9) ?_)
  refine E6 (M25) (_) true (.range 19) [(0, 0), (1, 0), (3, 0), (4, 1), (6, 0), (7, 0), (8, 0), (9, 0), (10, 1), (12, 0), (13, 0), (14, 0), (15, 1), (2, 2), (5, 2), (11, 2), (16, 2), (17, 2), (18, 0)] kR kR qP fun hs K n0 hKm hKs hKn => ?_
  refine km_ hs ?_
  refine km_ hs ?_
  refine F1 hs rfl (qf_ 5 5) rfl ?_
  refine I1 hs rfl hKs ql_ ?_
  refine km_ hs ?_
  refine km_ hs ?_
  refine F1 hs rfl (qf_ 2 2) rfl ?_
  refine F1 hs rfl (qf_ 2 0) rfl ?_
  refine I1 hs rfl hKs ql_ ?_
  refine km_ hs ?_
  refine km_ hs ?_
  refine F1 hs rfl (qf_ 5 5) rfl ?_
  refine I1 hs rfl hKs ql_ ?_
  refine F9 [] _ rfl rfl (List.Perm.refl _) (fun _ h => by cases h) fun w0 => (K0 (aS rfl a0) kR (A3X kb k va vg vq vo vm rs ro rm _ (hK.mono qS)) rfl ?_)
  rintro v28 M28 J28 ⟨rfl, h28⟩ _
  haveI := h28.cel
  dsimp only [List.nil_append, List.append_eq]
  refine F9 _ _ rfl rfl (List.Perm.refl _) hKm fun w0 => (A9 (Mc := M25) (R := _) (aS rfl (aS rfl (aS rfl (a0)))) kR qP (X8 pb (D4 s) v28 wk k.agree b.key M25 _ hP25 qO (h28.mono qS) (gk.mono qS) hG.up) rfl ?_)
  rintro v31 M31 J31 ⟨hP31, h31⟩ hKx31
  haveI := h31.cel
  refine F9 M31 _ rfl rfl qP (fun x hx => hKx31 (hKn rfl) x (by simpa using hx)) fun w0 => (A9 (Mc := M31) (R := _) (aS rfl (aS rfl (aS rfl (a0)))) kR qP (X8 pb ((I6 (D4 s) k.agree b.key)) v25 wa (D9 s) b.ia M31 _ hP31 qO (h25.mono qS) (ga.mono qS) hG.up) rfl ?_)
  rintro v37 M37 J37 ⟨hP37, h37⟩ hKx37
  haveI := h37.cel
  refine F9 M37 _ rfl rfl qP (fun x hx => hKx37 (hKn rfl) x (by simpa using hx)) fun w0 => (A9 (Mc := M37) (R := _) (aS rfl (aS rfl (aS rfl (a0)))) kR qP (X8 pb ((I6 (I6 (D4 s) k.agree b.key) (D9 s) b.ia)) v25 wk (D9 s) b.key M37 _ hP37 qO (h25.mono qS) (gk.mono qS) hG.up) rfl ?_)
  rintro v42 M42 J42 ⟨hP42, h42⟩ hKx42
  haveI := h42.cel
  refine F9 [] _ rfl rfl (List.Perm.refl _) (fun _ h => by cases h) fun w0 => (C4 (e := 22) (sz := 1) (z := [vS, vS, vS]) kR (eS rfl (eS rfl (eS rfl e0))) (bdS 0 1 rfl qR (bdS 1 1 rfl qR (bdS 2 1 rfl qR bd0))) rfl fun b43 => fun hk43 => ?_)
  dsimp only [List.cons_append, List.nil_append, List.append_eq]
  refine F1 hs rfl (F5 rfl) rfl ?_
  refine G7 (I7 0 1 5 7 9 10) ?_
  refine P2 (α := Value × Mem × Mem) (fun y => [(0, .pointer (some ⟨pb.1, 0, none⟩)), (1, (vP kb)), (5, (vP b5)), (7, (vP b7)), (9, v25), (10, y.1)]) (fun y => y.2.1 ++ [(b5, blk [.int .i64 b.user, .int .i64 b.dev, wa, wg, (vU b.signed), wk, ws, .bool b.has, (vU b.once), wo] 59), (b7, blk [vS, vS, vS, .int .u32 0, .bool false, .int .u32 0] 33)]) (fun y => y.2.2) (fun y => Prm pb (stA k.agree b s) y.2.1 ∧ LsV (y.2.2 ++ A) y.1 (stL k.agree b s) ∧ By (y.2.2 ++ A) v25 (D9 s)) ?_ ?_
  ·
   refine V7 (B := [(b43, blk [v31, v37, v42] 22)]) qP ?_
   refine A1 ?_
   refine A2 (qf_ 7 7) rfl ?_
   refine A2 ql_ rfl ?_
   refine A0 (S9 0 1 5 7 9 10 45) ?_
   refine C3 rfl ?_ ?_ <;> intro hc
   ·
    refine C6 (mv_ (mv_ (mv_ ?_)))
    refine A2 (qf_ 9 9) rfl ?_
    refine A2 ql_ rfl ?_
    refine A4 rfl (A9 (Mc := M42) (R := _) (aS rfl (aS rfl (aS rfl (a0)))) kR qP (X8 pb (I6 (I6 (I6 (D4 s) k.agree b.key) (D9 s) b.ia) (D9 s) b.key) v25 wo (D9 s) b.oncek M42 _ hP42 qO (h25.mono qS) (go.mono qS) hG.up) rfl ?_)
    rintro v51 M51 J51 ⟨hP51, h51⟩
    haveI := h51.cel
    refine A4 rfl (C4 (e := 22) (sz := 1) (z := [vS]) kR (eS rfl e0) (bdS 0 1 rfl qR bd0) rfl fun b52 => ?_)
    refine A4 rfl (A4K (e := 22) (sz := 1) (by_ := 24) (xs := [v31, v37, v42]) rfl rfl kR rfl (Rd.whole (n := 3) At.mem qR) (Rd.whole (n := 1) At.mem qR) qD qD qD rfl fun v53 B53 hs53 => ?_)
    haveI := hs53.cel
    refine A28 (B := B53) qP ?_
    refine as_ (E1 ?_)
    exact jn (v53, M51, _) ⟨by dsimp only; unfold stA stP; rw [hc]; exact hP51, by dsimp only; unfold stL stP; rw [hc]; exact ⟨[v31, v37, v42] ++ [v51], hs53.rd qS, Lst.cons (h31.mono qS) (Lst.cons (h37.mono qS) (Lst.cons (h42.mono qS) (Lst.cons (h51.mono qS) Lst.nil)))⟩, h25.mono qS⟩ (I7 0 1 5 7 9 10) (Fit.pick qP (Fit.last qP)) qI
   ·
    refine A5 ?_
    exact jn (.slice (some ⟨b43, 0, none⟩) 3 3, M42, _) ⟨by dsimp only; unfold stA stP; rw [hc]; exact hP42, by dsimp only; unfold stL stP; rw [hc]; exact ⟨[v31, v37, v42], Rd.whole (n := 3) At.mem qR, Lst.cons (h31.mono qS) (Lst.cons (h37.mono qS) (Lst.cons (h42.mono qS) Lst.nil))⟩, h25.mono qS⟩ (I7 0 1 5 7 9 10) (Fit.pick qP (Fit.last qP)) qI
  ·
   rintro ⟨lv, MJ, J9⟩ ⟨hPJ, hLJ, he25⟩
   dsimp only at hPJ hLJ he25 ⊢
   haveI := hLJ.cel
   obtain ⟨hzA, hzI, hzS, hzn, hzL⟩ := A9i k b s
   have hI : stI k b s = G1 (idS k (stA k.agree b s)) (D9 s) := rfl
   have hH : stH k b s = ⟨idA k (stA k.agree b s), idG k (stA k.agree b s), I5 (idS k (stA k.agree b s)) (D9 s), b.signed, b.has, if b.has then b.once else 0⟩ := rfl
   rw [hH]
   have hzi := A0L k (stA k.agree b s)
   rw [hI] at hzI
   generalize D9 s = e at *
   obtain ⟨sA, hsA⟩ : ∃ z, stA k.agree b s = z := ⟨_, rfl⟩
   rw [hsA] at hPJ hzA hI hzi hzI ⊢
   refine E6 (MJ) (_) true (.range 12) [(0, 0), (1, 0), (3, 0), (4, 0), (6, 0), (7, 1), (8, 0), (9, 1), (2, 3), (5, 3), (10, 3), (11, 4), (12, 2)] kR kR qP fun hs K n0 hKm hKs hKn => ?_
   refine km_ hs ?_
   refine km_ hs ?_
   refine km_ hs ?_
   refine km_ hs ?_
   refine F1 hs rfl (qf_ 4 4) rfl ?_
   refine I1 hs rfl hKs ql_ ?_
   refine F1 hs rfl (qf_ 7 7) rfl ?_
   refine I1 hs rfl hKs ql_ ?_
   refine V1 [⟨2, 56, none, MJ, fun v B R => Prm pb (idS k sA) B ∧ ∃ p q, v = .agg #[p, q] ∧ By R p (idA k sA) ∧ By R q (idG k sA)⟩, ⟨5, 59, some 2, [], fun v B R => Prm pb (G1 (idS k sA) e) B ∧ By R v (I5 (idS k sA) e)⟩, ⟨10, 64, none, [], fun v B R => B = [] ∧ ∃ p r u, v = .agg #[p, r, u, (vU b.signed), .bool b.has, (vU 0)] ∧ By R p (idA k sA) ∧ By R r (idG k sA) ∧ By R u (I5 (idS k sA) e)⟩, ⟨11, 11, none, [], fun v B _ => ∃ b, v = (vP b) ∧ B = [(b, blk [vS, vS, vS, .int .u32 0, .bool false, .int .u32 0] 33)]⟩] ([(b5, blk [.int .i64 b.user, .int .i64 b.dev, wa, wg, (vU b.signed), wk, ws, .bool b.has, (vU b.once), wo] 59), (b7, blk [vS, vS, vS, .int .u32 0, .bool false, .int .u32 0] 33)]) (fun bs => [bs 5, bs 10, bs 11]) (hKn rfl) (by simp [Q6, W4]) (show ∀ m ∈ ([MJ, [], []] : List Mem), ∀ x ∈ m, K x.1 from A3 (hKm) (A3 (fun _ h => by cases h) (A3 (fun _ h => by cases h) (H9)))) kR (fun _ => by first | rfl | kernel_rfl)
    (A3 (fun _ _ _ _ h ⟨p1, p, q, e, p2, p3⟩ => ⟨p1, p, q, e, p2.mono h, p3.mono h⟩) (A3 (fun _ _ _ _ h ⟨p1, p2⟩ => ⟨p1, p2.mono h⟩) (A3 (fun _ _ _ _ h ⟨p1, p, q, u, e, p2, p3, p4⟩ => ⟨p1, p, q, u, e, p2.mono h, p3.mono h, p4.mono h⟩) (A3 (fun _ _ _ _ _ h => h) (H9))))) (show List.Nodup [56, 59, 64, 11] by decide) (show List.Nodup [2, 5, 10, 11] by decide) (A3 (D5 rfl) (A3 (D5 rfl) (A3 (D5 rfl) (A3 (D5 rfl) (H9)))))
    (A3 ⟨_, rfl, fun vs bs R Rj wG hb hj hjr ha => ⟨.inl rfl, ?_⟩⟩ (A3 ⟨_, rfl, fun vs bs R Rj wG hb hj hjr ha => ⟨.inl rfl, ?_⟩⟩ (A3 ⟨_, rfl, fun vs bs R Rj wG hb hj hjr ha => ⟨.inl rfl, ?_⟩⟩ (A3 ⟨_, rfl, fun vs bs R Rj wG hb hj hjr ha => ⟨.inl rfl, ?_⟩⟩ (H9))))) ?_
   ·
    dsimp only [Gc.inp]
    refine A9 (Mc := MJ) (R := []) (aS rfl (aS rfl (a0))) kR qM (A2x pb sA kb k va vg vq vo vm rs ro rm MJ _ (hK.mono (fun x hx => by have := hb x (by simp [hx]); simp [this])) hPJ qO (hG.sub (fun x hx => by have := hb x (by simp [hx]); simp [this]))) rfl ?_
    rintro v25 M25 J25 ⟨hP25, p, q, rfl, hp, hq⟩
    exact ⟨_, rfl, by simpa using hP25, p, q, rfl, hp.mono fun x hx => by simp [hx], hq.mono fun x hx => by simp [hx]⟩
   ·
    dsimp only [Gc.inp]
    have g2 := ha _ (List.mem_of_getElem? (i := 0) rfl) kR
    replace g2 : (fun v B R => Prm pb (idS k sA) B ∧ ∃ p q, v = .agg #[p, q] ∧ By R p (idA k sA) ∧ By R q (idG k sA)) (vs 2) (bs 2) Rj := g2
    dsimp only at g2
    obtain ⟨hP25, -⟩ := g2
    refine A9 (Mc := bs 2) (R := []) (aS rfl (aS rfl (a0))) kR qM (A0m pb (idS k sA) v25 e (bs 2) _ hP25 qO (he25.mono (fun x hx => by have := hb x (by simp [hx]); simp [this])) (hG.sub (fun x hx => by have := hb x (by simp [hx]); simp [this]))) rfl ?_
    rintro v31 M31 J31 ⟨hP31, h31⟩
    exact ⟨_, rfl, by simpa using hP31, h31.mono fun x hx => by simp [hx]⟩
   ·
    dsimp only [Gc.inp]
    have g2 := ha _ (List.mem_of_getElem? (i := 0) rfl) kR
    replace g2 : (fun v B R => Prm pb (idS k sA) B ∧ ∃ p q, v = .agg #[p, q] ∧ By R p (idA k sA) ∧ By R q (idG k sA)) (vs 2) (bs 2) Rj := g2
    dsimp only at g2
    have g5 := ha _ (List.mem_of_getElem? (i := 1) rfl) kR
    replace g5 : (fun v B R => Prm pb (G1 (idS k sA) e) B ∧ By R v (I5 (idS k sA) e)) (vs 5) (bs 5) Rj := g5
    dsimp only at g5
    obtain ⟨-, h31⟩ := g5
    obtain ⟨-, p, q, e25, hp, hq⟩ := g2
    haveI := h31.cel
    haveI := hp.cel
    haveI := hq.cel
    dsimp only [N3, List.map, List.cons_append, List.nil_append]
    rw [e25]
    exact OpQ.opL (D6 (place := fun x => #[(0, 2), (2, 1), (3, 1), (4, 1), (5, 1)][x]?) (z := [vS, vS, vS, .int .u32 0, .bool false, .int .u32 0]) (fun _ => by kernel_rfl) (eS rfl (eS rfl (eS rfl (eS rfl e0)))) (bdS 0 2 rfl qR (bdS 2 1 rfl qR (bdS 3 1 rfl qR (bdS 4 1 rfl qR bd0))))) rfl ⟨_, rfl, rfl, p, q, _, rfl, hp, hq, h31⟩
   ·
    dsimp only [Gc.inp]
    exact D2 (cs := [vS, vS, vS, .int .u32 0, .bool false, .int .u32 0]) kR rfl fun b => ⟨_, rfl, b, rfl, rfl⟩
   intro vs bs Jn0 hφ hKK
   have kk2 := hKK _ (List.mem_of_getElem? (i := 0) rfl)
   dsimp only at kk2
   have kk5 := hKK _ (List.mem_of_getElem? (i := 1) rfl)
   dsimp only at kk5
   have kk10 := hKK _ (List.mem_of_getElem? (i := 2) rfl)
   dsimp only at kk10
   have kk11 := hKK _ (List.mem_of_getElem? (i := 3) rfl)
   dsimp only at kk11
   clear hKK
   have g2 := ofH hφ
   dsimp only at g2
   replace hφ := ofT hφ
   have g5 := ofH hφ
   dsimp only at g5
   replace hφ := ofT hφ
   have g10 := ofH hφ
   dsimp only at g10
   replace hφ := ofT hφ
   have g11 := ofH hφ
   dsimp only at g11
   clear hφ
   dsimp only [N3, Q6, List.foldr, List.map, List.cons_append, List.nil_append]
   generalize bs 2 = B56 at *
   generalize bs 5 = B59 at *
   generalize bs 10 = B64 at *
   generalize bs 11 = B11 at *
   generalize vs 2 = u56 at *
   generalize vs 5 = u59 at *
   generalize vs 10 = u64 at *
   generalize vs 11 = u11 at *
   obtain ⟨hP59, -⟩ := g5
   clear g2
   obtain ⟨b11, rfl, rfl⟩ := g11
   obtain ⟨rfl, p, r, u, rfl, hp, hr, hu⟩ := g10
   haveI := hp.cel
   haveI := hr.cel
   haveI := hu.cel
   refine K2 rfl rfl rfl (B8 (vs := [p, r, u, (vU b.signed), .bool b.has, (vU 0)]) rfl rfl rfl kR qR (A3 hp.one (A3 hr.one (A3 hu.one al3))) UpC.upd ?_)
   refine G7 (G6 0 5 7 10 11) (A6 ?_)
   cases hh : b.has
   ·
    refine A1 ?_
    refine A2 (qf_ 7 7) rfl ?_
    refine A2 ql_ rfl ?_
    refine A0 (I7 0 5 7 10 11 66) ?_
    refine B0 rfl ?_
    refine A5 (nx (F4 0 7 10 11) ?_)
    refine E6 (B59) (_) true [0, 1, 2, 3, 4, 6] [(0, 0), (1, 0), (3, 1), (2, 2), (4, 0), (5, 2), (6, 0)] kR kR qP fun hs K n0 hKm hKs hKn => ?_
    refine km_ hs ?_
    refine km_ hs ?_
    refine I1 hs rfl hKs (qw_ 6) ?_
    refine F9 _ _ rfl rfl (List.Perm.refl _) hKm fun w0 => (A9 (Mc := B59) (R := _) (aS rfl (aS rfl (a0))) kR qP (A2A pb (stI k b s) lv (stL k.agree b s) B59 _ (hI ▸ hP59) (hLJ.mono qS) qO (by rw [hI]; omega) hG.up) rfl ?_)
    rintro v72 M72 J72 ⟨hP72, h72⟩ hKx72
    haveI := h72.cel
    refine F1 hs rfl (F5 rfl) rfl ?_
    refine K2 rfl rfl rfl (B8 (vs := [p, r, u, (vU b.signed), .bool false, (vU 0)]) rfl rfl rfl kR qR (A3 hp.one (A3 hr.one (A3 hu.one al3))) UpC.upd ?_)
    refine F1 hs rfl (F5 rfl) rfl ?_
    refine G7 (E5 6 7 8) (A7 ?_)
    refine ⟨_, M72, [], A9p (n := 6) rfl rfl rfl rfl kR At.mem qR, Fit.none (Fit.last qP), (fun _ => ⟨_, p, r, u, rfl, hP72, h72.mono qS, hp.mono qS, (hr.mono qS).i, hu.mono qS, hsn, (by decide : 0 < 4294967296)⟩), fun h => by rw [hck] at h; cases h⟩
   ·
    refine A1 ?_
    refine A2 (qf_ 7 7) rfl ?_
    refine A2 ql_ rfl ?_
    refine A0 (I7 0 5 7 10 11 66) ?_
    refine E9 rfl ?_
    refine C6 ?_
    refine A2 (qf_ 8 8) rfl ?_
    refine A2 ql_ rfl ?_
    refine A2 (qf_ 5 5) rfl ?_
    refine A4 rfl (F8 rfl rfl rfl kR SetC.set UpC.upd ?_)
    refine A0 (F4 0 7 10 11) ?_
    refine E6 (B59) (_) true [0, 1, 2, 3, 4, 6] [(0, 0), (1, 0), (3, 1), (2, 2), (4, 0), (5, 2), (6, 0)] kR kR qP fun hs K n0 hKm hKs hKn => ?_
    refine km_ hs ?_
    refine km_ hs ?_
    refine I1 hs rfl hKs (qw_ 6) ?_
    refine F9 _ _ rfl rfl (List.Perm.refl _) hKm fun w0 => (A9 (Mc := B59) (R := _) (aS rfl (aS rfl (a0))) kR qP (A2A pb (stI k b s) lv (stL k.agree b s) B59 _ (hI ▸ hP59) (hLJ.mono qS) qO (by rw [hI]; omega) hG.up) rfl ?_)
    rintro v72 M72 J72 ⟨hP72, h72⟩ hKx72
    haveI := h72.cel
    refine F1 hs rfl (F5 rfl) rfl ?_
    refine K2 rfl rfl rfl (B8 (vs := [p, r, u, (vU b.signed), .bool true, (vU b.once)]) rfl rfl rfl kR qR (A3 hp.one (A3 hr.one (A3 hu.one al3))) UpC.upd ?_)
    refine F1 hs rfl (F5 rfl) rfl ?_
    refine G7 (E5 6 7 8) (A7 ?_)
    refine ⟨_, M72, [], A9p (n := 6) rfl rfl rfl rfl kR At.mem qR, Fit.none (Fit.last qP), (fun _ => ⟨_, p, r, u, rfl, hP72, h72.mono qS, hp.mono qS, (hr.mono qS).i, hu.mono qS, hsn, hon⟩), fun h => by rw [hck] at h; cases h⟩

theorem A6z (pb : Nat × Nat) (s : Ps) (kb : Nat) (k : Ks) (va vg vq vo vm : Value) (rs ro rm : List (List Value)) (h : He) (wa wg wk : Value) (MP A : Mem) (hK : KyR A kb k va vg vq vo vm rs ro rm) (hrise : B2K k.once) (hP : Prm pb s MP) (hn : s.ts.length + 1000 ≤ 1040000) (gh : HeR A h wa wg wk) (hG : Glb A) : FnX Tryz.prog 62 [.pointer (some ⟨pb.1, 0, none⟩), (vP kb), .agg #[wa, wg, wk, (vU h.signed), .bool h.has, (vU h.once)]] MP A fun q M J => ∃ v o, q = .tuple #[v, o, .int .i64 (if (anR k h s).1.isSome then 0 else 9)] ∧ Prm pb (anR k h s).2 M ∧ By J v ((anR k h s).1.elim [] (·.1)) ∧ By J o ((anR k h s).1.elim [] (·.2)) := by
 haveI := gh.ia.cel
 haveI := gh.ig.cel
 haveI := gh.key.cel
 refine FnX.enterZ (N := 70) Tryz.func62 rfl rfl rfl fun w_ => ?_
 refine A8 (E5 0 1 2) (A1 ?_)
 refine A4 rfl (bx_ fun b5 => ?_)
 refine as_ (as_ (as_ (A0 (E5 0 1 5) (A6 (A1 (mv_ ?_))))))
 refine A2 (C9 (e := 127) rfl rfl kR) rfl ?_
 refine mv_ ?_
 refine C0 rfl rfl (OpQ.opL qm_ rfl ?_)
 refine C0 rfl rfl (OpQ.opL (C9 (e := 118) rfl rfl kR) rfl ?_)
 refine A2 (C8 rfl rfl) rfl ?_
 refine A0 (F4 0 1 5 19) ?_
 refine B0 rfl ?_
 refine A5 (nx (E5 0 1 5) (A1 (mv_ ?_)))
 refine A2 (qf_ 3 3) rfl ?_
 refine A2 ql_ rfl ?_
 refine E0 (aS rfl (aS rfl a0)) kR (B09 kb k va vg vq vo vm rs ro rm h.signed _ (hK.mono qS)) rfl ?_
 rintro r24 M24 J24 ⟨rfl, q1, rfl, hq1⟩
 haveI := hq1.cel
 refine mv_ ?_
 refine A2 (R6 rfl) rfl ?_
 refine A2 (R4 rfl) rfl ?_
 refine as_ (as_ (A0 (G6 0 1 5 9 10) (A6 ?_)))
 cases hsg : A2w k.signed h.signed with
 | none => ?_
 | some sx => ?_
 ·
  refine A1 (mv_ ?_)
  refine A2 (L6 rfl) rfl ?_
  refine A0 (G6 0 1 5 9 28) ?_
  refine E9 rfl ?_
  refine A1 (as_ (as_ (as_ (A0 (E5 6 7 8) (A7 (tr ?_))))))
  exact ⟨_, MP, [], B8p rfl rfl rfl rfl, Fit.none (Fit.last qP), by rw [B6w hsg]; exact ⟨_, _, rfl, hP, By.nil, By.nil⟩⟩
 ·
  rw [hsg] at hq1
  change By _ q1 sx at hq1
  have f2 := L4 s sx h.ia
  have f3 := L4 (I6 s sx h.ia) k.agree h.key
  have f4 := L4 (I6 (I6 s sx h.ia) k.agree h.key) sx h.key
  refine A1 (mv_ ?_)
  refine A2 (L6 rfl) rfl ?_
  refine A0 (G6 0 1 5 9 28) ?_
  refine B0 rfl ?_
  refine A5 (nx (F4 0 1 5 9) ?_)
  refine E6 (MP) (_) true (.range 19) [(0, 0), (1, 0), (2, 0), (3, 0), (4, 1), (6, 0), (7, 0), (9, 0), (10, 1), (12, 0), (13, 0), (14, 0), (15, 1), (5, 2), (8, 2), (11, 2), (16, 2), (17, 2), (18, 0)] kR kR qP fun hs K n0 hKm hKs hKn => ?_
  refine km_ hs ?_
  refine km_ hs ?_
  refine F1 hs rfl (qf_ 0 0) rfl ?_
  refine F1 hs rfl (qf_ 0 0) rfl ?_
  refine I1 hs rfl hKs ql_ ?_
  refine km_ hs ?_
  refine km_ hs ?_
  refine F1 hs rfl (qf_ 2 2) rfl ?_
  refine I1 hs rfl hKs ql_ ?_
  refine km_ hs ?_
  refine km_ hs ?_
  refine F1 hs rfl (qf_ 2 2) rfl ?_
  refine I1 hs rfl hKs ql_ ?_
  refine F9 _ _ rfl rfl (List.Perm.refl _) hKm fun w0 => (A9 (Mc := MP) (R := _) (aS rfl (aS rfl (aS rfl (a0)))) kR qP (X8 pb (s) q1 wa sx h.ia MP _ hP qO (hq1.mono qS) (gh.ia.mono qS) hG.up) rfl ?_)
  rintro v34 M34 J34 ⟨hP34, h34⟩ hKx34
  haveI := h34.cel
  refine F9 [] _ rfl rfl (List.Perm.refl _) (fun _ h => by cases h) fun w0 => (K0 (aS rfl a0) kR (A3X kb k va vg vq vo vm rs ro rm _ (hK.mono qS)) rfl ?_)
  rintro v37 M37 J37 ⟨rfl, h37⟩ _
  haveI := h37.cel
  dsimp only [List.nil_append, List.append_eq]
  refine F9 M34 _ rfl rfl qP (fun x hx => hKx34 (hKn rfl) x (by simpa using hx)) fun w0 => (A9 (Mc := M34) (R := _) (aS rfl (aS rfl (aS rfl (a0)))) kR qP (X8 pb ((I6 s sx h.ia)) v37 wk k.agree h.key M34 _ hP34 qO (h37.mono qS) (gh.key.mono qS) hG.up) rfl ?_)
  rintro v40 M40 J40 ⟨hP40, h40⟩ hKx40
  haveI := h40.cel
  refine F9 M40 _ rfl rfl qP (fun x hx => hKx40 (hKn rfl) x (by simpa using hx)) fun w0 => (A9 (Mc := M40) (R := _) (aS rfl (aS rfl (aS rfl (a0)))) kR qP (X8 pb ((I6 (I6 s sx h.ia) k.agree h.key)) q1 wk sx h.key M40 _ hP40 qO (hq1.mono qS) (gh.key.mono qS) hG.up) rfl ?_)
  rintro v45 M45 J45 ⟨hP45, h45⟩ hKx45
  haveI := h45.cel
  refine F9 [] _ rfl rfl (List.Perm.refl _) (fun _ h => by cases h) fun w0 => (C4 (e := 22) (sz := 1) (z := [vS, vS, vS]) kR (eS rfl (eS rfl (eS rfl e0))) (bdS 0 1 rfl qR (bdS 1 1 rfl qR (bdS 2 1 rfl qR bd0))) rfl fun b46 => fun hk46 => ?_)
  dsimp only [List.cons_append, List.nil_append, List.append_eq]
  refine F1 hs rfl (F5 rfl) rfl ?_
  refine G7 (G6 0 1 5 9 11) ?_
  refine P2 (α := Value × Mem × Mem × Option (LN)) (fun y => [(0, .pointer (some ⟨pb.1, 0, none⟩)), (9, q1), (11, y.1)]) (fun y => y.2.1) (fun y => y.2.2.1) (fun y => Prm pb (agS s (anP k.agree sx y.2.2.2 h)) y.2.1 ∧ LsV (y.2.2.1 ++ A) y.1 (agK s (anP k.agree sx y.2.2.2 h)) ∧ By y.2.2.1 q1 sx ∧ anR k h s = anE k.agree sx y.2.2.2 h s) ?_ ?_
  ·
   refine V7 (B := [(b46, blk [v34, v40, v45] 22)]) qP ?_
   refine A1 ?_
   refine A2 (qf_ 4 4) rfl ?_
   refine A2 ql_ rfl ?_
   refine A0 (I7 0 1 5 9 11 48) ?_
   refine C3 rfl ?_ ?_ <;> intro hc
   ·
    refine A1 (mv_ ?_)
    refine A2 (qf_ 5 5) rfl ?_
    refine A2 ql_ rfl ?_
    refine E0 (aS rfl (aS rfl a0)) kR (B6r kb k va vg vq vo vm rs ro rm h.once _ (hK.mono qS) hrise) rfl ?_
    rintro r53 M53 J53 ⟨rfl, q2, rfl, hq2⟩
    haveI := hq2.cel
    refine mv_ ?_
    refine A2 (R6 rfl) rfl ?_
    refine A2 (R4 rfl) rfl ?_
    refine as_ (as_ (A0 (I7 0 5 9 11 12 13) (A6 ?_)))
    cases hog : A2w k.once h.once with
    | none => ?_
    | some ox => ?_
    ·
     refine A1 (mv_ ?_)
     refine A2 (L6 rfl) rfl ?_
     refine A0 (I7 0 5 9 11 12 57) ?_
     refine E9 rfl ?_
     refine A1 (as_ (as_ (as_ (A0 (E5 6 7 8) (A7 (tr (jr ?_)))))))
     exact ⟨_, M45, [], B8p rfl rfl rfl rfl, Fit.none (Fit.last qP), by rw [B4p hsg hc hog]; exact ⟨_, _, rfl, hP45, By.nil, By.nil⟩⟩
    ·
     rw [hog] at hq2
     change By _ q2 ox at hq2
     refine A1 (mv_ ?_)
     refine A2 (L6 rfl) rfl ?_
     refine A0 (I7 0 5 9 11 12 57) ?_
     refine B0 rfl ?_
     refine A5 (nx (G6 0 5 9 11 12) (C6 (mv_ (mv_ (mv_ ?_)))))
     refine A2 (qf_ 2 2) rfl ?_
     refine A2 ql_ rfl ?_
     refine A4 rfl (A9 (Mc := M45) (R := _) (aS rfl (aS rfl (aS rfl (a0)))) kR qP (X8 pb (I6 (I6 (I6 s sx h.ia) k.agree h.key) sx h.key) q2 wk ox h.key M45 _ hP45 qO (hq2.mono qS) (gh.key.mono qS) hG.up) rfl ?_)
     rintro v63 M63 J63 ⟨hP63, h63⟩
     haveI := h63.cel
     refine A4 rfl (C4 (e := 22) (sz := 1) (z := [vS]) kR (eS rfl e0) (bdS 0 1 rfl qR bd0) rfl fun b64 => ?_)
     refine A4 rfl (A4K (e := 22) (sz := 1) (by_ := 24) (xs := [v34, v40, v45]) rfl rfl kR rfl (Rd.whole (n := 3) At.mem qR) (Rd.whole (n := 1) At.mem qR) qD qD qD rfl fun v65 B65 hs65 => ?_)
     haveI := hs65.cel
     refine A28 (B := B65) qP ?_
     refine as_ (E1 ?_)
     exact jn (v65, M63, _, some ox) ⟨hP63, ⟨[v34, v40, v45] ++ [v63], hs65.rd qS, Lst.cons (h34.mono qS) (Lst.cons (h40.mono qS) (Lst.cons (h45.mono qS) (Lst.cons (h63.mono qS) Lst.nil)))⟩, hq1.mono qS, A9j hsg hc hog⟩ (E5 0 9 11) (Fit.last qP) qI
   ·
    refine A5 ?_
    exact jn (.slice (some ⟨b46, 0, none⟩) 3 3, M45, _, none) ⟨hP45, ⟨[v34, v40, v45], Rd.whole (n := 3) At.mem qR, Lst.cons (h34.mono qS) (Lst.cons (h40.mono qS) (Lst.cons (h45.mono qS) Lst.nil))⟩, hq1.mono qS, A6y hsg hc⟩ (E5 0 9 11) (Fit.last qP) qI
  ·
   rintro ⟨lv, MJ, J9, xo⟩ ⟨hPJ, hLJ, hqJ, hR⟩
   dsimp only at hPJ hLJ hqJ hR ⊢
   haveI := hLJ.cel
   have hzl : (agK s (anP k.agree sx xo h)).length ≤ 4 := by rw [A5N]; unfold anP; split <;> simp
   have hzs := A5M (anP k.agree sx xo h) s
   have hz0 : (anP k.agree sx xo h).length ≤ 4 := by unfold anP; split <;> simp
   refine A1 (mv_ (mv_ ?_))
   refine A4 rfl (A9 (Mc := MJ) (R := _) (aS rfl (aS rfl (a0))) kR qP (A2A pb _ lv _ MJ _ hPJ (hLJ.mono qS) qO qO hG.up) rfl ?_)
   rintro v68 M68 J68 ⟨hP68, h68⟩
   haveI := h68.cel
   refine mv_ (as_ (as_ (as_ (A0 (E5 6 7 8) (A7 ?_)))))
   exact ⟨_, M68, [], B8p rfl rfl rfl rfl, Fit.none (Fit.last qP), by rw [hR]; exact ⟨_, _, rfl, hP68, h68.mono qS, hqJ.mono qS⟩⟩

theorem D3 (pre vs post : List Value) : ∀ (j : Nat) v, vs[j]? = some v → (pre ++ (vs ++ post))[pre.length + j]? = some v := fun j v h => by
  rw [List.getElem?_append_right qO, Nat.add_sub_cancel_left, List.getElem?_append_left (List.getElem?_eq_some_iff.1 h).1]
  exact h
def fl1 (b : Bool) : Nat := if b then 1 else 0
def wFl (ws : LN) (b : Bool) : LN := ws ++ beN (fl1 b) 1
def wB4 (ws w : LN) : LN := ws ++ beN w.length 4 ++ w
def wN4 (ws : LN) (n : Nat) : LN := ws ++ beN n 4
def whW (ws : LN) (u d : Int) : LN := wN4 (wN4 ws (u32N u)) (u32N d)
def idW (ws a g : LN) : LN := wB4 (wB4 ws a) g
def heF (ws : LN) (h : He) : LN := wFl (wN4 (wB4 (idW ws h.ia h.ig) h.key) h.signed) h.has
def heW (ws : LN) (h : He) : LN := if h.has then wN4 (heF ws h) h.once else heF ws h
theorem Q7 (ws : LN) (b : Bool) : (wFl ws b).length = ws.length + 1 := by simp [wFl, G2]
theorem P6 (ws w : LN) : (wB4 ws w).length = ws.length + w.length + 4 := by simp [wB4, G2]; omega
theorem P7 (ws : LN) (n : Nat) : (wN4 ws n).length = ws.length + 4 := by simp [wN4, G2]
theorem Q8 (ws : LN) (u d : Int) : (whW ws u d).length = ws.length + 8 := by simp [whW, P7]
theorem R8 (ws a g : LN) : (idW ws a g).length = ws.length + a.length + g.length + 8 := by simp [idW, P6]; omega
theorem A9q (ws : LN) (h : He) : (heF ws h).length = ws.length + h.ia.length + h.ig.length + h.key.length + 17 := by simp [heF, Q7, P7, P6, R8]; omega
theorem A9r (ws : LN) (h : He) : (heW ws h).length ≤ ws.length + h.ia.length + h.ig.length + h.key.length + 21 := by
  have h1 := A9q ws h
  unfold heW
  split
  · rw [P7]; omega
  · omega
structure Ev where
  fu : Int
  fd : Int
  tu : Int
  td : Int
  ses : LN
  has : Bool
  he : He
  hk : LN
  hp : Nat
  hn : Nat
  g : LN
def frF (ws : LN) (x : Ev) : LN := wFl (wB4 (whW (whW ws x.fu x.fd) x.tu x.td) x.ses) x.has
def frW (ws : LN) (x : Ev) : LN := if x.has then heW (frF ws x) x.he else frF ws x
theorem A9s (ws : LN) (x : Ev) : (frF ws x).length = ws.length + x.ses.length + 21 := by simp [frF, Q7, P6, Q8]; omega
def evC (vs p r u vk vg : Value) (x : Ev) : List Value := [.int .i64 x.fu, .int .i64 x.fd, .int .i64 x.tu, .int .i64 x.td, vs, .bool x.has, p, r, u, (vU x.he.signed), .bool x.he.has, (vU x.he.once), vk, (vU x.hp), (vU x.hn), vg]
structure EvR (R : Mem) (x : Ev) (vs p r u vk vg : Value) : Prop where
  ses : By R vs x.ses
  he : HeR R x.he p r u
  hil : x.he.ig.length ≤ 1000000
  hk : By R vk x.hk
  g : By R vg x.g
  hp : x.hp < 4294967296
  hn : x.hn < 4294967296
theorem EvR.mono {R R' : Mem} {x : Ev} {vs p r u vk vg : Value} (h : EvR R x vs p r u vk vg) (hR : ∀ z, z ∈ R → z ∈ R') : EvR R' x vs p r u vk vg := ⟨h.ses.mono hR, h.he.mono hR, h.hil, h.hk.mono hR, h.g.mono hR, h.hp, h.hn⟩
theorem A9t (wb : Nat) (b : Bool) (ws : LN) (MW A : Mem) (hW : Wtr wb ws MW) (hl : ws.length ≤ 100000000) : FnX Tryz.prog 78 [(vP wb), .bool b] MW A fun q M J => q = (vP wb) ∧ Wtr wb (wFl ws b) M := by
 refine FnX.enterZ (N := 10) Tryz.func78 rfl rfl rfl fun w_ => ?_
 refine A8 (D0 0 1) (A1 (as_ (A0 (D0 0 1) (A6 (A1 (mv_ (A0 (D0 0 5) ?_)))))))
 refine C3 rfl ?_ ?_ <;> intro hc
 ·
  obtain rfl : b = true := hc
  refine A1 (mv_ ?_)
  refine A4 rfl (A9 (Mc := MW) (R := _) (aS rfl (aS rfl (aS rfl a0))) kR qP (K1 wb 1 1 ws MW _ hW qD qD qO) rfl ?_)
  rintro v7 M7 J7 ⟨rfl, hW7⟩
  refine as_ (A0 (C7 4) (A7 (tr ?_)))
  exact ⟨_, M7, [], F7 rfl rfl, Fit.none (Fit.last qP), rfl, hW7⟩
 ·
  obtain rfl : b = false := hc
  refine A5 (nx (C7 0) (A1 (mv_ ?_)))
  refine A4 rfl (A9 (Mc := MW) (R := _) (aS rfl (aS rfl (aS rfl a0))) kR qP (K1 wb 0 1 ws MW _ hW qD qD qO) rfl ?_)
  rintro v9 M9 J9 ⟨rfl, hW9⟩
  refine as_ (A0 (C7 4) (A7 ?_))
  exact ⟨_, M9, [], F7 rfl rfl, Fit.none (Fit.last qP), rfl, hW9⟩
theorem B2M (wb : Nat) (u d : Int) (ws : LN) (MW A : Mem) (hW : Wtr wb ws MW) (hl : ws.length ≤ 50000000) : FnX Tryz.prog 77 [(vP wb), .agg #[.int .i64 u, .int .i64 d]] MW A fun q M J => q = .tuple #[] ∧ Wtr wb (whW ws u d) M := by
 have hu := A33 u
 have hd := A33 d
 refine FnX.enterZ (N := 15) Tryz.func77 rfl rfl rfl fun w_ => ?_
 refine A8 (D0 0 1) (A1 ?_)
 refine A4 rfl (bx_ fun b3 => ?_)
 refine A0 (D0 0 3) ?_
 refine W7 (MW) (_) true (.range 11) [(0, 0), (1, 0), (2, 1), (3, 0), (4, 0), (6, 0), (7, 1), (8, 0), (9, 0), (5, 2), (10, 2)] kR kR qP fun hs K n0 hKm hKs hKn => ?_
 refine km_ hs ?_
 refine F1 hs rfl (qf_ 0 0) rfl ?_
 refine I1 hs rfl hKs ql_ ?_
 refine F1 hs rfl (X4 (k' := .u32) ((u32N u : Nat) : Int) rfl kR (A2z u)) rfl ?_
 refine F1 hs rfl (H7 (k' := .u64) (u32N u) rfl kR (W5 qO)) rfl ?_
 refine F1 hs rfl (qf_ 1 1) rfl ?_
 refine I1 hs rfl hKs ql_ ?_
 refine F1 hs rfl (X4 (k' := .u32) ((u32N d : Nat) : Int) rfl kR (A2z d)) rfl ?_
 refine F1 hs rfl (H7 (k' := .u64) (u32N d) rfl kR (W5 qO)) rfl ?_
 refine F9 _ _ rfl rfl (List.Perm.refl _) hKm fun w0 => (A9 (Mc := MW) (R := _) (aS rfl (aS rfl (aS rfl (a0)))) kR qP (K1 wb (u32N u) 4 _ MW _ hW qO qD (by first | omega | (simp [Q7, P6, P7, Q8, R8, G2]; omega))) rfl ?_)
 rintro v9 M9 J9 ⟨rfl, hW9⟩ hKx9
 refine F9 M9 _ rfl rfl qP (fun x hx => hKx9 (hKn rfl) x (by simpa using hx)) fun w0 => (A9 (Mc := M9) (R := _) (aS rfl (aS rfl (aS rfl (a0)))) kR qP (K1 wb (u32N d) 4 _ M9 _ hW9 qO qD (by first | omega | (simp [Q7, P6, P7, Q8, R8, G2]; omega))) rfl ?_)
 rintro v14 M14 J14 ⟨rfl, hW14⟩ hKx14
 refine A1Y ?_
 exact ⟨_, M14, [], A2V rfl, Fit.none (Fit.last qP), rfl, hW14⟩
theorem B1p (wb : Nat) (va vg : Value) (a g ws : LN) (MW A : Mem) (hW : Wtr wb ws MW) (ha : By A va a) (hg : By A vg g) (hl : ws.length ≤ 50000000) : FnX Tryz.prog 125 [(vP wb), .agg #[va, vg]] MW A fun q M J => q = .tuple #[] ∧ Wtr wb (idW ws a g) M := by
 haveI := ha.cel
 haveI := hg.cel
 have hal := ha.len
 have hgl := hg.len
 refine FnX.enterZ (N := 11) Tryz.func125 rfl rfl rfl fun w_ => ?_
 refine A8 (D0 0 1) (A1 ?_)
 refine A4 rfl (bx_ fun b3 => ?_)
 refine A0 (D0 0 3) ?_
 refine W7 (MW) (_) true (.range 7) [(0, 0), (1, 0), (2, 1), (4, 0), (5, 1), (3, 2), (6, 2)] kR kR qP fun hs K n0 hKm hKs hKn => ?_
 refine km_ hs ?_
 refine F1 hs rfl (qf_ 0 0) rfl ?_
 refine I1 hs rfl hKs ql_ ?_
 refine F1 hs rfl (qf_ 1 1) rfl ?_
 refine I1 hs rfl hKs ql_ ?_
 refine F9 _ _ rfl rfl (List.Perm.refl _) hKm fun w0 => (A9 (Mc := MW) (R := _) (aS rfl (aS rfl (a0))) kR qP (I0 wb va a _ MW _ hW (ha.mono qS) (by first | omega | (simp [Q7, P6, P7, Q8, R8, G2]; omega))) rfl ?_)
 rintro v7 M7 J7 ⟨rfl, hW7⟩ hKx7
 refine F9 M7 _ rfl rfl qP (fun x hx => hKx7 (hKn rfl) x (by simpa using hx)) fun w0 => (A9 (Mc := M7) (R := _) (aS rfl (aS rfl (a0))) kR qP (I0 wb vg g _ M7 _ hW7 (hg.mono qS) (by first | omega | (simp [Q7, P6, P7, Q8, R8, G2]; omega))) rfl ?_)
 rintro v10 M10 J10 ⟨rfl, hW10⟩ hKx10
 refine A1Y ?_
 exact ⟨_, M10, [], A2V rfl, Fit.none (Fit.last qP), rfl, hW10⟩
theorem A6A (wb : Nat) (h : He) (p r u : Value) (ws : LN) (MW A : Mem) (hW : Wtr wb ws MW) (gh : HeR A h p r u) (hil : h.ig.length ≤ 1000000) (hl : ws.length ≤ 40000000) : FnX Tryz.prog 79 [(vP wb), .agg (heC p r u h).toArray] MW A fun q M J => q = .tuple #[] ∧ Wtr wb (heW ws h) M := by
 haveI := gh.ia.cel
 haveI := gh.ig.cel
 haveI := gh.key.cel
 have hal := gh.ia.len
 have hig := gh.ig.by qO
 have hgl := hig.len
 have hkl := gh.key.len
 have hsl := gh.signed
 have hol := gh.once
 unfold heC
 refine FnX.enterZ (N := 26) Tryz.func79 rfl rfl rfl fun w_ => ?_
 refine A8 (D0 0 1) (A1 ?_)
 refine A4 rfl (bx_ fun b3 => ?_)
 refine A0 (D0 0 3) (A1 (mv_ ?_))
 refine A2 (qf_ 0 0) rfl ?_
 refine A2 (E7 (n := 2) (vs := [p, r]) rfl kR At.mem rfl (D3 [] [p, r] [u, (vU h.signed), .bool h.has, (vU h.once)])) rfl ?_
 refine A4 rfl (A9 (Mc := MW) (R := _) (aS rfl (aS rfl (a0))) kR qP (B1p wb p r h.ia h.ig ws MW _ hW (gh.ia.mono qS) (hig.mono qS) qO) rfl ?_)
 rintro v7 M7 J7 ⟨rfl, hW7⟩
 refine A0 (D0 0 3) ?_
 refine E6 (M7) (_) true (.range 11) [(0, 0), (1, 0), (2, 1), (4, 0), (5, 1), (6, 0), (8, 0), (9, 1), (3, 2), (7, 2), (10, 2)] kR kR qP fun hs K n0 hKm hKs hKn => ?_
 refine km_ hs ?_
 refine F1 hs rfl (qf_ 2 2) rfl ?_
 refine I1 hs rfl hKs ql_ ?_
 refine F1 hs rfl (qf_ 3 3) rfl ?_
 refine I1 hs rfl hKs ql_ ?_
 refine F1 hs rfl (H7 (k' := .u64) (h.signed) rfl kR (W5 qO)) rfl ?_
 refine F1 hs rfl (qf_ 4 4) rfl ?_
 refine I1 hs rfl hKs ql_ ?_
 refine F9 _ _ rfl rfl (List.Perm.refl _) hKm fun w0 => (A9 (Mc := M7) (R := _) (aS rfl (aS rfl (a0))) kR qP (I0 wb u h.key _ M7 _ hW7 (gh.key.mono qS) (by first | omega | (simp [Q7, P6, P7, Q8, R8, G2]; omega))) rfl ?_)
 rintro v11 M11 J11 ⟨rfl, hW11⟩ hKx11
 refine F9 M11 _ rfl rfl qP (fun x hx => hKx11 (hKn rfl) x (by simpa using hx)) fun w0 => (A9 (Mc := M11) (R := _) (aS rfl (aS rfl (aS rfl (a0)))) kR qP (K1 wb (h.signed) 4 _ M11 _ hW11 qO qD (by first | omega | (simp [Q7, P6, P7, Q8, R8, G2]; omega))) rfl ?_)
 rintro v15 M15 J15 ⟨rfl, hW15⟩ hKx15
 refine F9 M15 _ rfl rfl qP (fun x hx => hKx15 (hKn rfl) x (by simpa using hx)) fun w0 => (A9 (Mc := M15) (R := _) (aS rfl (aS rfl (a0))) kR qP (A9t wb h.has _ M15 _ hW15 (by first | omega | (simp [Q7, P6, P7, Q8, R8, G2]; omega))) rfl ?_)
 rintro v18 M18 J18 ⟨rfl, hW18⟩ hKx18
 refine G7 (D0 0 3) ?_
 change Wtr wb (heF ws h) M18 at hW18
 have hfl := A9q ws h
 refine A1 ?_
 refine A2 (qf_ 4 4) rfl ?_
 refine A2 ql_ rfl ?_
 refine A0 (E5 0 3 20) ?_
 refine C3 rfl ?_ ?_ <;> intro hc
 ·
  have hh : h.has = true := hc
  refine C6 (mv_ ?_)
  refine A2 (qf_ 5 5) rfl ?_
  refine A2 ql_ rfl ?_
  refine A2 (H7 (k' := .u64) (h.once) rfl kR (W5 qO)) rfl ?_
  refine A4 rfl (A9 (Mc := M18) (R := _) (aS rfl (aS rfl (aS rfl (a0)))) kR qP (K1 wb h.once 4 _ M18 _ hW18 qO qD qO) rfl ?_)
  rintro v25 M25 J25 ⟨rfl, hW25⟩
  refine E1 ?_
  exact ⟨_, M25, [], A2V rfl, Fit.none (Fit.last qP), rfl, by unfold heW; rw [if_pos hh]; exact hW25⟩
 ·
  have hh : h.has = false := hc
  refine A5 ?_
  exact ⟨_, M18, [], A2V rfl, Fit.none (Fit.last qP), rfl, by unfold heW; rw [if_neg (by rw [hh]; decide)]; exact hW18⟩
theorem B4s (h : He) (p r u : Value) (A : Mem) (gh : HeR A h p r u) (hl : h.ia.length + h.ig.length + h.key.length ≤ 1000000) : FnX Tryz.prog 115 [.agg (heC p r u h).toArray] [] A fun q M J => M = [] ∧ By J q (heW [] h) := by
 haveI := gh.ia.cel
 haveI := gh.ig.cel
 haveI := gh.key.cel
 have hal := gh.ia.len
 have hig := gh.ig.by qO
 have hgl := hig.len
 have hkl := gh.key.len
 have hsl := gh.signed
 have hol := gh.once
 unfold heC
 refine FnX.enterZ (N := 11) Tryz.func115 rfl rfl rfl fun w_ => ?_
 refine A8 (C7 0) (A1 ?_)
 refine A4 rfl (bx_ fun b1 => ?_)
 refine as_ (A0 (C7 1) (A1 ?_))
 refine A2 (D6 (place := fun x => #[(0, 1)][x]?) (z := [vS]) (fun _ => by kernel_rfl) e0 bd0) rfl ?_
 refine A4 rfl (bx_ fun b5 => ?_)
 refine as_ (A0 (D0 1 3) (A1 (mv_ ?_)))
 refine A2 (E7 (n := 6) (vs := [p, r, u, (vU h.signed), .bool h.has, (vU h.once)]) rfl kR At.mem rfl (D3 [] [p, r, u, (vU h.signed), .bool h.has, (vU h.once)] [])) rfl ?_
 refine A4 rfl (A9 (Mc := [(b5, blk [vS] 97)]) (R := _) (aS rfl (aS rfl (a0))) kR qP (A6A b5 h p r u [] _ _ Wtr.new (gh.mono qS) qO qD) rfl ?_)
 rintro v8 M8 J8 ⟨rfl, hW8⟩
 have hwl := A9r [] h
 refine A0 (C7 3) (A1 (mv_ ?_))
 refine A4 rfl (A9 (Mc := M8) (R := _) (aS rfl a0) kR qP (P8 b5 _ M8 _ hW8 (by simp at hwl; omega)) rfl ?_)
 rintro v10 M10 J10 ⟨hW10, h10⟩
 haveI := h10.cel
 refine as_ (A0 (C7 2) (A7 ?_))
 exact ⟨_, [], [], F7 rfl rfl, qZ, rfl, h10.mono qS⟩
theorem A6B (wb : Nat) (x : Ev) (vs p r u vk vg : Value) (ws : LN) (MW A : Mem) (hW : Wtr wb ws MW) (hx : EvR A x vs p r u vk vg) (hl : ws.length ≤ 10000000) : FnX Tryz.prog 33 [(vP wb), .agg (evC vs p r u vk vg x).toArray] MW A fun q M J => q = .tuple #[] ∧ Wtr wb (frW ws x) M := by
 haveI := hx.ses.cel
 haveI := hx.he.ia.cel
 haveI := hx.he.ig.cel
 haveI := hx.he.key.cel
 haveI := hx.hk.cel
 haveI := hx.g.cel
 have hsl := hx.ses.len
 unfold evC
 refine FnX.enterZ (N := 25) Tryz.func33 rfl rfl rfl fun w_ => ?_
 refine A8 (D0 0 1) (A1 ?_)
 refine A4 rfl (bx_ fun b3 => ?_)
 refine A0 (D0 0 3) (A1 (mv_ ?_))
 refine A2 (qf_ 0 0) rfl ?_
 refine A2 (E7 (n := 2) (vs := [.int .i64 x.fu, .int .i64 x.fd]) rfl kR At.mem rfl (D3 [] [.int .i64 x.fu, .int .i64 x.fd] [.int .i64 x.tu, .int .i64 x.td, vs, .bool x.has, p, r, u, (vU x.he.signed), .bool x.he.has, (vU x.he.once), vk, (vU x.hp), (vU x.hn), vg])) rfl ?_
 refine A4 rfl (A9 (Mc := MW) (R := _) (aS rfl (aS rfl (a0))) kR qP (B2M wb x.fu x.fd ws MW _ hW qO) rfl ?_)
 rintro v7 M7 J7 ⟨rfl, hW7⟩
 refine A0 (D0 0 3) (A1 (mv_ ?_))
 refine A2 (qf_ 2 2) rfl ?_
 refine A2 (E7 (n := 2) (vs := [.int .i64 x.tu, .int .i64 x.td]) rfl kR At.mem rfl (D3 [.int .i64 x.fu, .int .i64 x.fd] [.int .i64 x.tu, .int .i64 x.td] [vs, .bool x.has, p, r, u, (vU x.he.signed), .bool x.he.has, (vU x.he.once), vk, (vU x.hp), (vU x.hn), vg])) rfl ?_
 refine A4 rfl (A9 (Mc := M7) (R := _) (aS rfl (aS rfl (a0))) kR qP (B2M wb x.tu x.td _ M7 _ hW7 (by simp [Q8]; omega)) rfl ?_)
 rintro v11 M11 J11 ⟨rfl, hW11⟩
 refine A0 (D0 0 3) ?_
 refine E6 (M11) (_) true (.range 7) [(0, 0), (1, 0), (2, 1), (4, 0), (5, 1), (3, 2), (6, 2)] kR kR qP fun hs K n0 hKm hKs hKn => ?_
 refine km_ hs ?_
 refine F1 hs rfl (qf_ 4 4) rfl ?_
 refine I1 hs rfl hKs ql_ ?_
 refine F1 hs rfl (qf_ 5 5) rfl ?_
 refine I1 hs rfl hKs ql_ ?_
 refine F9 _ _ rfl rfl (List.Perm.refl _) hKm fun w0 => (A9 (Mc := M11) (R := _) (aS rfl (aS rfl (a0))) kR qP (I0 wb vs x.ses _ M11 _ hW11 (hx.ses.mono qS) (by first | omega | (simp [Q7, P6, P7, Q8, R8, G2]; omega))) rfl ?_)
 rintro v15 M15 J15 ⟨rfl, hW15⟩ hKx15
 refine F9 M15 _ rfl rfl qP (fun x hx => hKx15 (hKn rfl) x (by simpa using hx)) fun w0 => (A9 (Mc := M15) (R := _) (aS rfl (aS rfl (a0))) kR qP (A9t wb x.has _ M15 _ hW15 (by first | omega | (simp [Q7, P6, P7, Q8, R8, G2]; omega))) rfl ?_)
 rintro v18 M18 J18 ⟨rfl, hW18⟩ hKx18
 refine G7 (D0 0 3) ?_
 change Wtr wb (frF ws x) M18 at hW18
 have hfl := A9s ws x
 refine A1 ?_
 refine A2 (qf_ 5 5) rfl ?_
 refine A2 ql_ rfl ?_
 refine A0 (E5 0 3 20) ?_
 refine C3 rfl ?_ ?_ <;> intro hc
 ·
  have hh : x.has = true := hc
  refine C6 (mv_ ?_)
  refine A2 (qf_ 6 6) rfl ?_
  refine A2 (E7 (n := 6) (vs := [p, r, u, (vU x.he.signed), .bool x.he.has, (vU x.he.once)]) rfl kR At.mem rfl (D3 [.int .i64 x.fu, .int .i64 x.fd, .int .i64 x.tu, .int .i64 x.td, vs, .bool x.has] [p, r, u, (vU x.he.signed), .bool x.he.has, (vU x.he.once)] [vk, (vU x.hp), (vU x.hn), vg])) rfl ?_
  refine A4 rfl (A9 (Mc := M18) (R := _) (aS rfl (aS rfl (a0))) kR qP (A6A wb x.he p r u _ M18 _ hW18 (hx.he.mono qS) hx.hil qO) rfl ?_)
  rintro v24 M24 J24 ⟨rfl, hW24⟩
  refine E1 ?_
  exact ⟨_, M24, [], A2V rfl, Fit.none (Fit.last qP), rfl, by unfold frW; rw [if_pos hh]; exact hW24⟩
 ·
  have hh : x.has = false := hc
  refine A5 ?_
  exact ⟨_, M18, [], A2V rfl, Fit.none (Fit.last qP), rfl, by unfold frW; rw [if_neg (by rw [hh]; decide)]; exact hW18⟩
theorem A5O (ws : LN) (x : Ev) : (frW ws x).length ≤ ws.length + x.ses.length + x.he.ia.length + x.he.ig.length + x.he.key.length + 42 := by
  have h1 := A9s ws x
  have h2 := A9r (frF ws x) x.he
  unfold frW
  split <;> omega
theorem B4t (x : Ev) (vs p r u vk vg : Value) (A : Mem) (hx : EvR A x vs p r u vk vg) (hl : x.ses.length + x.he.ia.length + x.he.ig.length + x.he.key.length ≤ 1000000) : FnX Tryz.prog 87 [.agg (evC vs p r u vk vg x).toArray] [] A fun q M J => M = [] ∧ By J q (frW [] x) := by
 haveI := hx.ses.cel
 haveI := hx.he.ia.cel
 haveI := hx.he.ig.cel
 haveI := hx.he.key.cel
 haveI := hx.hk.cel
 haveI := hx.g.cel
 have hsl := hx.ses.len
 unfold evC
 refine FnX.enterZ (N := 11) Tryz.func87 rfl rfl rfl fun w_ => ?_
 refine A8 (C7 0) (A1 ?_)
 refine A4 rfl (bx_ fun b1 => ?_)
 refine as_ (A0 (C7 1) (A1 ?_))
 refine A2 (D6 (place := fun x => #[(0, 1)][x]?) (z := [vS]) (fun _ => by kernel_rfl) e0 bd0) rfl ?_
 refine A4 rfl (bx_ fun b5 => ?_)
 refine as_ (A0 (D0 1 3) (A1 (mv_ ?_)))
 refine A2 (E7 (n := 16) (vs := [.int .i64 x.fu, .int .i64 x.fd, .int .i64 x.tu, .int .i64 x.td, vs, .bool x.has, p, r, u, (vU x.he.signed), .bool x.he.has, (vU x.he.once), vk, (vU x.hp), (vU x.hn), vg]) rfl kR At.mem rfl (D3 [] [.int .i64 x.fu, .int .i64 x.fd, .int .i64 x.tu, .int .i64 x.td, vs, .bool x.has, p, r, u, (vU x.he.signed), .bool x.he.has, (vU x.he.once), vk, (vU x.hp), (vU x.hn), vg] [])) rfl ?_
 refine A4 rfl (A9 (Mc := [(b5, blk [vS] 97)]) (R := _) (aS rfl (aS rfl (a0))) kR qP (A6B b5 x vs p r u vk vg [] _ _ Wtr.new (hx.mono qS) qD) rfl ?_)
 rintro v8 M8 J8 ⟨rfl, hW8⟩
 have hwl := A5O [] x
 refine A0 (C7 3) (A1 (mv_ ?_))
 refine A4 rfl (A9 (Mc := M8) (R := _) (aS rfl a0) kR qP (P8 b5 _ M8 _ hW8 (by simp at hwl; omega)) rfl ?_)
 rintro v10 M10 J10 ⟨hW10, h10⟩
 haveI := h10.cel
 refine as_ (A0 (C7 2) (A7 ?_))
 exact ⟨_, [], [], F7 rfl rfl, qZ, rfl, h10.mono qS⟩

theorem A9u {R : Mem} {v : Value} {w : LN} (h : By R v w) {k : Nat} (hk : k ≤ w.length) : By R (vHi k v) (w.take k) := ⟨by
  have h1 := h.rd.hiV k hk
  rw [Nat.mul_one, ← A4t] at h1
  rw [List.length_take, Nat.min_eq_left hk]
  exact h1, fun x hx => h.lt x (List.mem_of_mem_take hx), by rw [List.length_take]; have := h.len; omega⟩
theorem B2N {R : Mem} {v : Value} {w : LN} (h : By R v w) {k : Nat} (hk : k ≤ w.length) : By R (vLo k 1 v) (w.drop k) := ⟨by
  have h1 := h.rd.loV k hk
  rw [Nat.mul_one, ← A1X] at h1
  rw [List.length_drop]
  exact h1, fun x hx => h.lt x (List.mem_of_mem_drop hx), by rw [List.length_drop]; have := h.len; omega⟩
abbrev Rst := LN × Bool
structure Rdr (rb : Nat) (st : Rst) (R M : Mem) : Prop where
  ex : ∃ (v : Value), M = [(rb, blk [v, .bool st.2] 154)] ∧ By R v st.1
def rnN (st : Rst) (k : Nat) : Nat := if st.2 || decide (st.1.length < k) then 0 else bev (st.1.take k)
def rnS (st : Rst) (k : Nat) : Rst := if st.2 || decide (st.1.length < k) then (st.1, true) else (st.1.drop k, false)
theorem A6C {st : Rst} {k : Nat} (h : st.2 = true ∨ st.1.length < k) : rnN st k = 0 ∧ rnS st k = (st.1, true) := by
  have e : (st.2 || decide (st.1.length < k)) = true := by
    rcases h with h | h
    · rw [h]; rfl
    · rw [decide_eq_true h, Bool.or_true]
  unfold rnN rnS
  rw [if_pos e, if_pos e]; exact ⟨rfl, rfl⟩
theorem B6z {st : Rst} {k : Nat} (h : st.2 = false) (hl : k ≤ st.1.length) : rnN st k = bev (st.1.take k) ∧ rnS st k = (st.1.drop k, false) := by
  have e : ¬ (st.2 || decide (st.1.length < k)) = true := by rw [h, decide_eq_false qO]; decide
  unfold rnN rnS
  rw [if_neg e, if_neg e]; exact ⟨rfl, rfl⟩
theorem A6D (st : Rst) (k : Nat) (h : ∀ x ∈ st.1, x < 256) : rnN st k < 256 ^ k := by
  unfold rnN
  split
  · exact Nat.pow_pos qD
  · have h1 := B2J (ws := st.1.take k) fun x hx => h x (List.mem_of_mem_take hx)
    exact Nat.lt_of_lt_of_le h1 (Nat.pow_le_pow_right qD (List.length_take_le _ _))
def rbN (st : Rst) (most : Nat) : LN :=
  if (rnS st 4).2 || decide (rnN st 4 > most) || decide (rnN st 4 > (rnS st 4).1.length) then [] else (rnS st 4).1.take (rnN st 4)
def rbS (st : Rst) (most : Nat) : Rst :=
  if (rnS st 4).2 || decide (rnN st 4 > most) || decide (rnN st 4 > (rnS st 4).1.length) then ((rnS st 4).1, true) else ((rnS st 4).1.drop (rnN st 4), false)
theorem B6A {st : Rst} {most : Nat} (h : (rnS st 4).2 = true ∨ rnN st 4 > most ∨ rnN st 4 > (rnS st 4).1.length) : rbN st most = [] ∧ rbS st most = ((rnS st 4).1, true) := by
  have e : ((rnS st 4).2 || decide (rnN st 4 > most) || decide (rnN st 4 > (rnS st 4).1.length)) = true := by
    rcases h with h | h | h
    · rw [h]; rfl
    · rw [decide_eq_true h]; simp
    · rw [decide_eq_true h]; simp
  unfold rbN rbS
  rw [if_pos e, if_pos e]; exact ⟨rfl, rfl⟩
theorem B6B {st : Rst} {most : Nat} (h : (rnS st 4).2 = false) (h2 : rnN st 4 ≤ most) (h3 : rnN st 4 ≤ (rnS st 4).1.length) : rbN st most = (rnS st 4).1.take (rnN st 4) ∧ rbS st most = ((rnS st 4).1.drop (rnN st 4), false) := by
  have e : ¬ ((rnS st 4).2 || decide (rnN st 4 > most) || decide (rnN st 4 > (rnS st 4).1.length)) = true := by
    rw [h, decide_eq_false qO, decide_eq_false qO]; decide
  unfold rbN rbS
  rw [if_neg e, if_neg e]; exact ⟨rfl, rfl⟩
theorem B4u {n b : Nat} (hb : b < 256) (hn : n * 256 < 18446744073709551616) : (n * 256 % 18446744073709551616 ||| b) = n * 256 + b := by
  rw [Nat.mod_eq_of_lt hn, Nat.mul_comm]
  exact (Nat.two_pow_add_eq_or_of_lt (i := 8) hb n).symm
def A6E (st : Rst) : Bool := !st.2 && decide (st.1.length = 0)
theorem B4v (n : Nat) : H8 .eql .i64 (n : Int) 0 = some (.bool (decide (n = 0))) := by
  by_cases h : n = 0
  · rw [decide_eq_true h]; exact eqT qO
  · rw [decide_eq_false h]; exact eqF qO
theorem B1q {ws : LN} {j : Nat} (h : j < ws.length) : bev (ws.take (j + 1)) = bev (ws.take j) * 256 + ws.getD j 0 := by
  rw [List.take_add_one, List.getElem?_eq_getElem h, List.getD_eq_getElem?_getD, List.getElem?_eq_getElem h]
  exact A6v _ _
theorem A3k (p : Value) (w : LN) (R A : Mem) (hp : By R p w) : FnX Tryz.prog 37 [p] [] A fun q M J => ∃ rb, q = (vP rb) ∧ Rdr rb (w, false) R M := by
 haveI := hp.cel
 refine FnX.enterZ (N := 6) Tryz.func37 rfl rfl rfl fun w_ => ?_
 refine A8 (C7 0) (A1 (as_ (A0 (C7 0) (A1 (mv_ ?_)))))
 refine A2 (D6 (place := fun x => #[(0, 1), (1, 1)][x]?) (z := [vS, .bool false]) (fun _ => by kernel_rfl) (eS rfl e0) (bdS 0 1 rfl qR bd0)) rfl ?_
 refine A4 rfl (bx_ fun b5 => ?_)
 refine as_ (A0 (C7 2) (A7 ?_))
 exact ⟨_, [(b5, _)], [], F7 rfl rfl, Fit.none (Fit.last qP), b5, rfl, ⟨p, rfl, hp⟩⟩
theorem T7 (rb : Nat) (st : Rst) (R M A : Mem) (hR : Rdr rb st R M) : FnX Tryz.prog 80 [(vP rb)] M A fun q M J => Rdr rb (st.1, true) R M := by
 obtain ⟨v, rfl, hby⟩ := hR.ex
 haveI := hby.cel
 have hbl := hby.len
 refine FnX.enterZ (N := 7) Tryz.func80 rfl rfl rfl fun w_ => ?_
 refine A8 (C7 0) (A1 (mv_ ?_))
 refine A2 (A1h (e := 154) rfl rfl kR) rfl ?_
 refine A0 (D0 0 3) ?_
 refine E9 rfl ?_
 refine C6 (mv_ ?_)
 refine A2 (D8 rfl) rfl ?_
 refine A2 (qf_ 1 1) rfl ?_
 refine A4 rfl (F8 rfl rfl rfl kR SetC.set UpC.upd ?_)
 refine E1 ?_
 exact ⟨_, _, [], A2V rfl, Fit.none (Fit.last qP), ⟨v, rfl, hby⟩⟩
theorem L5 (rb k : Nat) (st : Rst) (R M A : Mem) (hR : Rdr rb st R M) (hs : ∀ x, x ∈ R → x ∈ A) (hk : k ≤ 8) : FnX Tryz.prog 42 [(vP rb), (vI k)] M A fun q M J => q = .int .u64 ((rnN st k : Nat) : Int) ∧ Rdr rb (rnS st k) R M := by
 obtain ⟨v, rfl, hby⟩ := hR.ex
 haveI := hby.cel
 have hbl := hby.len
 refine FnX.enterZ (N := 62) Tryz.func42 rfl rfl rfl fun w_ => ?_
 refine A8 (D0 0 1) (A1 (as_ (A0 (D0 0 1) (A6 (A1 (mv_ ?_))))))
 refine A2 (C9 (e := 154) rfl rfl kR) rfl ?_
 refine mv_ ?_
 refine C0 rfl rfl (OpQ.opL qm_ rfl ?_)
 refine C0 rfl rfl (OpQ.opL (D8 rfl) rfl ?_)
 refine C0 rfl rfl (OpQ.opL (qf_ 1 1) rfl ?_)
 refine C0 rfl rfl (OpQ.opL ql_ rfl ?_)
 refine A2 (C8 rfl rfl) rfl ?_
 refine mv_ ?_
 refine H4 (t := 16) rfl (fun hb => ?_) (fun hb => ?_)
 ·
  have hbd : st.2 = true := hb
  refine D1 rfl rfl rfl rfl ?_
  refine D1 rfl rfl rfl rfl ?_
  refine A2 (E3 rfl rfl) rfl ?_
  refine mv_ ?_
  refine D1 rfl rfl rfl rfl ?_
  refine D1 rfl rfl rfl rfl ?_
  refine A2 (E3 rfl rfl) rfl ?_
  refine mv_ ?_
  refine D1 rfl rfl rfl rfl ?_
  refine D1 rfl rfl rfl rfl ?_
  refine D1 rfl rfl rfl rfl ?_
  refine D1 rfl rfl rfl rfl ?_
  refine D1 rfl rfl rfl rfl ?_
  refine D1 rfl rfl rfl rfl ?_
  refine D1 rfl rfl rfl rfl ?_
  refine A2 (E3 rfl rfl) rfl ?_
  refine A0 (E5 0 1 32) ?_
  refine E9 rfl ?_
  refine A1 (mv_ ?_)
  refine A4 rfl (A9 (Mc := [(rb, blk [v, .bool st.2] 154)]) (R := _) (aS rfl a0) kR qP (T7 rb (st.1, st.2) R _ _ ⟨v, rfl, hby⟩) rfl ?_)
  rintro v34 M34 J34 hR34
  refine A0 kn (A1 (as_ (A0 (C7 4) (A7 (tr ?_)))))
  exact ⟨_, M34, [], F7 rfl rfl, Fit.none (Fit.last qP), by rw [(A6C (.inl hbd)).1]; rfl, by rw [(A6C (.inl hbd)).2]; exact hR34⟩
 ·
  have hbd : st.2 = false := hb
  refine C0 rfl rfl (OpQ.opL qm_ rfl ?_)
  refine C0 rfl rfl (OpQ.opL (F0 false rfl rfl (ltF qO)) rfl ?_)
  refine A2 (C8 rfl rfl) rfl ?_
  refine mv_ ?_
  refine C0 rfl rfl (OpQ.opL qm_ rfl ?_)
  refine C0 rfl rfl (OpQ.opL (F0 false rfl rfl (gtF qO)) rfl ?_)
  refine A2 (C8 rfl rfl) rfl ?_
  refine mv_ ?_
  refine C0 rfl rfl (OpQ.opL qm_ rfl ?_)
  refine C0 rfl rfl (OpQ.opL (D8 rfl) rfl ?_)
  refine C0 rfl rfl (OpQ.opL (qf_ 0 0) rfl ?_)
  refine C0 rfl rfl (OpQ.opL ql_ rfl ?_)
  refine C0 rfl rfl (OpQ.opL (E2 (sz := 1) rfl kR hby.rd) rfl ?_)
  refine C0 rfl rfl (OpQ.opL qm_ rfl ?_)
  refine C0 rfl rfl (OpQ.opL (F3 rfl rfl rfl) rfl ?_)
  refine A2 (C8 rfl rfl) rfl ?_
  refine A0 (E5 0 1 32) ?_
  refine C3 rfl ?_ ?_ <;> intro hc
  ·
   have hsh : st.1.length < k := by simp at hc; omega
   refine A1 (mv_ ?_)
   refine A4 rfl (A9 (Mc := [(rb, blk [v, .bool st.2] 154)]) (R := _) (aS rfl a0) kR qP (T7 rb (st.1, st.2) R _ _ ⟨v, rfl, hby⟩) rfl ?_)
   rintro v34 M34 J34 hR34
   refine A0 kn (A1 (as_ (A0 (C7 4) (A7 (tr ?_)))))
   exact ⟨_, M34, [], F7 rfl rfl, Fit.none (Fit.last qP), by rw [(A6C (.inr hsh)).1]; rfl, by rw [(A6C (.inr hsh)).2]; exact hR34⟩
  ·
   have hsh : k ≤ st.1.length := by simp at hc; omega
   obtain ⟨hr1, hr2⟩ := B6z hbd hsh
   have hby2 := A9u hby hsh
   haveI := hby2.cel
   have hl2 : (st.1.take k).length = k := by rw [List.length_take]; omega
   refine A5 (nx (D0 0 1) (A1 (as_ (A0 (E5 0 1 5) (A6 (A1 (mv_ ?_)))))))
   refine A2 (D8 rfl) rfl ?_
   refine A2 (qf_ 0 0) rfl ?_
   refine A2 ql_ rfl ?_
   refine mv_ ?_
   refine A2 (A19 (sz := 1) (a := k) rfl rfl kR rfl hby.rd hsh) rfl ?_
   refine A2 (E2 (sz := 1) rfl kR hby2.rd) rfl ?_
   refine mv_ (A0 (I7 0 1 5 40 41 42) (C5 ?_))
   rw [hl2]
   refine H0 (α := Nat) (fun x => [(0, (vP rb)), (1, (vI k)), (5, .int .u64 ((bev ((st.1.take k).take x) : Nat) : Int)), (40, vHi k v), (41, (vI k)), (42, (vI x))]) (fun _ => [(rb, blk [v, .bool st.2] 154)]) (fun _ => []) (fun x => x ≤ k) (fun x => k - x) 0 (Nat.zero_le _) (I7 0 1 5 40 41 42) .rfl qI ?_
   rintro j hj
   refine A1 ?_
   refine A2 (F3 rfl rfl rfl) rfl ?_
   refine A0 (S9 0 1 5 40 41 42 43) (A6 ?_)
   refine C3 rfl ?_ ?_ <;> intro hc
   ·
    have hlt : j < k := by simp at hc; omega
    have hbt := B1q (ws := st.1.take k) (j := j) qO
    have hb0 : (st.1.take k).getD j 0 < 256 := by rw [List.getD_eq_getElem?_getD, List.getElem?_eq_getElem qO]; exact hby2.lt _ (List.getElem_mem _)
    have hbv := B2J (ws := (st.1.take k).take j) fun x hx => hby2.lt x (List.mem_of_mem_take hx)
    rw [List.length_take, Nat.min_eq_left qO] at hbv
    replace hbv := Nat.lt_of_lt_of_le hbv (Nat.pow_le_pow_right qD (show j ≤ 7 by omega))
    rw [show 256 ^ 7 = 72057594037927936 from rfl] at hbv
    generalize bev ((st.1.take k).take j) = n at *
    generalize hbb : (st.1.take k).getD j 0 = b at *
    refine A5 (nx (I7 0 1 5 40 41 42) (A6 (C5 (A1 ?_))))
    refine A2 (F2 (sz := 1) rfl rfl kR rfl hby2.rd qO) rfl ?_
    refine A2 (L0 (j := j) (u := .int .u8 ((b : Nat) : Int)) (hby2.rd.mono fun x hx => qS _ (hs x hx)) rfl kR (by rw [← hbb]; unfold I3; rw [List.getElem?_map, List.getElem?_eq_getElem qO, List.getD_eq_getElem?_getD, List.getElem?_eq_getElem qO]; rfl)) rfl ?_
    refine as_ (A0 (S9 0 1 5 7 40 41 42) (C6 (mv_ ?_)))
    refine A2 (B5Q 8 256 18446744073709551616 rfl rfl rfl rfl rfl rfl qD) rfl ?_
    refine mv_ ?_
    refine A2 (A4u rfl kR) rfl ?_
    rw [Nat.mod_eq_of_lt (show b < 18446744073709551616 by omega)]
    refine A2 (q_or rfl rfl rfl (by show _ < 18446744073709551616; exact Nat.mod_lt _ qD) (by show _ < 18446744073709551616; omega)) rfl ?_
    rw [B4u hb0 qO, ← hbt]
    refine as_ (E1 (nb (nx (I7 0 1 5 40 41 42) (C6 ?_))))
    refine A2 (G9 (b := 1) rfl rfl rfl rfl qO) rfl ?_
    refine mv_ (E1 ?_)
    exact rn (j + 1) qO qO (I7 0 1 5 40 41 42) .rfl qI
   ·
    have hge : k = j := by simp at hc; omega
    subst hge
    rw [List.take_take, Nat.min_self]
    refine G4 (te (re (be rfl (nx (E5 0 1 5) (A1 (mv_ (mv_ ?_)))))))
    refine A2 (D8 rfl) rfl ?_
    refine A2 (qf_ 0 0) rfl ?_
    refine A2 ql_ rfl ?_
    refine mv_ ?_
    refine A2 (A4v (sz := 1) (a := k) rfl rfl kR rfl hby.rd hsh) rfl ?_
    have hby3 := B2N hby hsh
    haveI := hby3.cel
    have hy1 := hby3.one
    refine A2 (D8 rfl) rfl ?_
    refine A2 (qf_ 0 0) rfl ?_
    refine A4 rfl (F8 rfl rfl hy1 kR SetC.set UpC.upd ?_)
    refine A0 (C7 5) (A1 (mv_ (as_ (A0 (C7 4) (A7 ?_)))))
    exact ⟨_, [(rb, blk [vLo k 1 v, .bool st.2] 154)], [], F7 rfl rfl, Fit.none (Fit.last qP), by rw [hr1], by rw [hr2]; exact ⟨_, by rw [hbd], hby3⟩⟩
theorem L1 (rb most : Nat) (st : Rst) (R M A : Mem) (hR : Rdr rb st R M) (hs : ∀ x, x ∈ R → x ∈ A) (hm : most ≤ 1000000) : FnX Tryz.prog 39 [(vP rb), (vI most)] M A fun q M J => By J q (rbN st most) ∧ Rdr rb (rbS st most) R M := by
  obtain ⟨v, rfl, hby⟩ := hR.ex
  haveI := hby.cel
  have hbl := hby.len
  refine FnX.enterZ (N := 56) Tryz.func39 rfl rfl rfl fun w_ => ?_
  refine A8 (D0 0 1) (A1 (as_ (A0 (D0 0 1) (A1 (mv_ ?_)))))
  refine A4 rfl (A9 (Mc := [(rb, blk [v, .bool st.2] 154)]) (R := _) (aS rfl (aS rfl a0)) kR qP (L5 rb 4 st R _ _ ⟨v, rfl, hby⟩ (fun x hx => qS _ (hs x hx)) qD) rfl ?_)
  rintro v8 M8 J8 ⟨rfl, hR8⟩
  have hn8 := A6D st 4 hby.lt
  rw [show 256 ^ 4 = 4294967296 from rfl] at hn8
  have hb8 := @B6A st most
  have hk8 := @B6B st most
  unfold Rst at *
  generalize rnN st 4 = n at *
  generalize rnS st 4 = s1 at *
  obtain ⟨w, rfl, hbw⟩ := hR8.ex
  haveI := hbw.cel
  have hwl := hbw.len
  refine as_ (A0 (E5 0 1 5) (A6 (A1 (mv_ ?_))))
  refine A2 (C9 (e := 154) rfl rfl kR) rfl ?_
  refine mv_ ?_
  refine C0 rfl rfl (OpQ.opL qm_ rfl ?_)
  refine C0 rfl rfl (OpQ.opL (D8 rfl) rfl ?_)
  refine C0 rfl rfl (OpQ.opL (qf_ 1 1) rfl ?_)
  refine C0 rfl rfl (OpQ.opL ql_ rfl ?_)
  refine A2 (C8 rfl rfl) rfl ?_
  refine mv_ ?_
  refine H4 (t := 17) rfl (fun hb => ?_) (fun hb => ?_)
  ·
    have hbd : s1.2 = true := hb
    refine D1 rfl rfl rfl rfl ?_
    refine D1 rfl rfl rfl rfl ?_
    refine A2 (E3 rfl rfl) rfl ?_
    refine mv_ ?_
    refine D1 rfl rfl rfl rfl ?_
    refine D1 rfl rfl rfl rfl ?_
    refine D1 rfl rfl rfl rfl ?_
    refine D1 rfl rfl rfl rfl ?_
    refine A2 (E3 rfl rfl) rfl ?_
    refine mv_ ?_
    refine D1 rfl rfl rfl rfl ?_
    refine D1 rfl rfl rfl rfl ?_
    refine D1 rfl rfl rfl rfl ?_
    refine D1 rfl rfl rfl rfl ?_
    refine D1 rfl rfl rfl rfl ?_
    refine D1 rfl rfl rfl rfl ?_
    refine D1 rfl rfl rfl rfl ?_
    refine D1 rfl rfl rfl rfl ?_
    refine A2 (E3 rfl rfl) rfl ?_
    refine A0 (E5 0 5 36) ?_
    refine E9 rfl ?_
    refine A1 (mv_ ?_)
    refine A4 rfl (A9 (Mc := [(rb, blk [w, .bool s1.2] 154)]) (R := _) (aS rfl a0) kR qP (T7 rb s1 R _ _ ⟨w, rfl, hbw⟩) rfl ?_)
    rintro v38 M38 J38 hR38
    refine A0 kn (A1 (as_ (A0 (C7 4) (A7 (tr ?_)))))
    exact ⟨_, M38, [], F7 rfl rfl, Fit.none (Fit.last qP), by rw [(hb8 (.inl hbd)).1]; exact By.nil, by rw [(hb8 (.inl hbd)).2]; exact hR38⟩
  ·
    have hbd : s1.2 = false := hb
    refine C0 rfl rfl (OpQ.opL qm_ rfl ?_)
    refine C0 rfl rfl (OpQ.opL (F0 false rfl rfl (ltF qO)) rfl ?_)
    refine A2 (C8 rfl rfl) rfl ?_
    refine mv_ ?_
    refine C0 rfl rfl (OpQ.opL qm_ rfl ?_)
    refine C0 rfl rfl (OpQ.opL qm_ rfl ?_)
    refine C0 rfl rfl (OpQ.opL (A4u rfl kR) rfl ?_)
    rw [Nat.mod_eq_of_lt (show most < 18446744073709551616 by omega)]
    refine C0 rfl rfl (OpQ.opL (F3 rfl rfl rfl) rfl ?_)
    refine A2 (C8 rfl rfl) rfl ?_
    refine mv_ ?_
    refine H4 (t := 27) rfl (fun hb => ?_) (fun hb => ?_)
    ·
      have hgm : n > most := by simp at hb; omega
      refine D1 rfl rfl rfl rfl ?_
      refine D1 rfl rfl rfl rfl ?_
      refine D1 rfl rfl rfl rfl ?_
      refine D1 rfl rfl rfl rfl ?_
      refine D1 rfl rfl rfl rfl ?_
      refine D1 rfl rfl rfl rfl ?_
      refine D1 rfl rfl rfl rfl ?_
      refine D1 rfl rfl rfl rfl ?_
      refine A2 (E3 rfl rfl) rfl ?_
      refine A0 (E5 0 5 36) ?_
      refine E9 rfl ?_
      refine A1 (mv_ ?_)
      refine A4 rfl (A9 (Mc := [(rb, blk [w, .bool s1.2] 154)]) (R := _) (aS rfl a0) kR qP (T7 rb s1 R _ _ ⟨w, rfl, hbw⟩) rfl ?_)
      rintro v38 M38 J38 hR38
      refine A0 kn (A1 (as_ (A0 (C7 4) (A7 (tr ?_)))))
      exact ⟨_, M38, [], F7 rfl rfl, Fit.none (Fit.last qP), by rw [(hb8 (.inr (.inl hgm))).1]; exact By.nil, by rw [(hb8 (.inr (.inl hgm))).2]; exact hR38⟩
    ·
      have hgm : n ≤ most := by simp at hb; omega
      refine C0 rfl rfl (OpQ.opL qm_ rfl ?_)
      refine C0 rfl rfl (OpQ.opL qm_ rfl ?_)
      refine C0 rfl rfl (OpQ.opL (D8 rfl) rfl ?_)
      refine C0 rfl rfl (OpQ.opL (qf_ 0 0) rfl ?_)
      refine C0 rfl rfl (OpQ.opL ql_ rfl ?_)
      refine C0 rfl rfl (OpQ.opL (E2 (sz := 1) rfl kR hbw.rd) rfl ?_)
      refine C0 rfl rfl (OpQ.opL (A4u rfl kR) rfl ?_)
      rw [Nat.mod_eq_of_lt (show s1.1.length < 18446744073709551616 by omega)]
      refine C0 rfl rfl (OpQ.opL (F3 rfl rfl rfl) rfl ?_)
      refine A2 (C8 rfl rfl) rfl ?_
      refine A0 (E5 0 5 36) ?_
      refine C3 rfl ?_ ?_ <;> intro hc
      ·
        have hgl : n > s1.1.length := by simp at hc; omega
        refine A1 (mv_ ?_)
        refine A4 rfl (A9 (Mc := [(rb, blk [w, .bool s1.2] 154)]) (R := _) (aS rfl a0) kR qP (T7 rb s1 R _ _ ⟨w, rfl, hbw⟩) rfl ?_)
        rintro v38 M38 J38 hR38
        refine A0 kn (A1 (as_ (A0 (C7 4) (A7 (tr ?_)))))
        exact ⟨_, M38, [], F7 rfl rfl, Fit.none (Fit.last qP), by rw [(hb8 (.inr (.inr hgl))).1]; exact By.nil, by rw [(hb8 (.inr (.inr hgl))).2]; exact hR38⟩
      ·
        have hgl : n ≤ s1.1.length := by simp at hc; omega
        obtain ⟨hr1, hr2⟩ := hk8 hbd hgm hgl
        have hby2 := A9u hbw hgl
        haveI := hby2.cel
        have hby3 := B2N hbw hgl
        haveI := hby3.cel
        have hy1 := hby3.one
        have hl2 : (s1.1.take n).length = n := by rw [List.length_take]; omega
        refine A5 (nx (D0 0 5) (A1 (mv_ ?_)))
        refine A2 (D8 rfl) rfl ?_
        refine A2 (qf_ 0 0) rfl ?_
        refine A2 ql_ rfl ?_
        refine mv_ ?_
        refine A2 (A19 (sz := 1) (a := n) rfl rfl kR rfl hbw.rd hgl) rfl ?_
        refine A4 rfl (F6 (e := 5) (sz := 1) (by_ := 1) rfl rfl kR rfl Sl.nil (hby2.rd.mono fun x hx => qS _ (hs x hx)) T1 qP (by unfold maxLen; omega) qO rfl fun v45 B45 hs45 => ?_)
        haveI := hs45.cel
        refine as_ (A0 (E5 0 5 6) (A1 (mv_ (mv_ ?_))))
        refine A2 (D8 rfl) rfl ?_
        refine A2 (qf_ 0 0) rfl ?_
        refine A2 ql_ rfl ?_
        refine mv_ ?_
        refine A2 (A4v (sz := 1) (a := n) rfl rfl kR rfl hbw.rd hgl) rfl ?_
        refine A2 (D8 rfl) rfl ?_
        refine A2 (qf_ 0 0) rfl ?_
        refine A4 rfl (F8 rfl rfl hy1 kR SetC.set UpC.upd ?_)
        refine A0 (C7 6) (A1 (mv_ (as_ (A0 (C7 4) (A7 ?_)))))
        refine ⟨_, [(rb, blk [vLo n 1 w, .bool s1.2] 154)], B45, F7 rfl rfl, Fit.pick qP (Fit.last qP), ?_, ?_⟩
        · rw [hr1]
          exact ⟨by simpa using hs45.rd (R := B45 ++ J8) qS, hby2.lt, hby2.len⟩
        · rw [hr2]
          exact ⟨_, by rw [hbd], hby3⟩
theorem Rdr.rd {rb : Nat} {st : Rst} {R M A : Mem} (h : Rdr rb st R M) (hs : ∀ x, x ∈ M → x ∈ A) : ∃ v, (rb, blk [v, .bool st.2] 154) ∈ A ∧ By R v st.1 := by
  obtain ⟨v, rfl, h2⟩ := h.ex
  exact ⟨v, hs _ qM, h2⟩
theorem A9v (rb : Nat) (st : Rst) (R A : Mem) (hR : ∃ v, (rb, blk [v, .bool st.2] 154) ∈ A ∧ By R v st.1) : FnV Tryz.prog 82 [(vP rb)] A (.bool st.2) := by
 obtain ⟨v, hrb, hby⟩ := hR
 haveI := hby.cel
 refine FnX.enter (N := 11) Tryz.func82 rfl rfl rfl fun w => ?_
 refine A8 (C7 0) (A1 (as_ (A0 (C7 0) (A1 (mv_ ?_)))))
 refine A2 (C9 (e := 154) rfl rfl kR) rfl ?_
 refine mv_ ?_
 refine C0 rfl rfl (OpQ.opL qm_ rfl ?_)
 refine C0 rfl rfl (OpQ.opL (D8 rfl) rfl ?_)
 refine C0 rfl rfl (OpQ.opL (qf_ 1 1) rfl ?_)
 refine C0 rfl rfl (OpQ.opL (G3 rfl kR (mA hrb) qR) rfl ?_)
 refine A2 (C8 rfl rfl) rfl ?_
 refine as_ (A0 (C7 2) (A7 ?_))
 exact ⟨_, [], [], F7 rfl rfl, List.nil_sublist _, by simp, rfl, rfl, rfl⟩
theorem A2B (rb : Nat) (st : Rst) (R A : Mem) (hR : ∃ v, (rb, blk [v, .bool st.2] 154) ∈ A ∧ By R v st.1) : FnV Tryz.prog 43 [(vP rb)] A (.bool (A6E st)) := by
 obtain ⟨v, hrb, hby⟩ := hR
 haveI := hby.cel
 refine FnX.enter (N := 14) Tryz.func43 rfl rfl rfl fun w => ?_
 refine A8 (C7 0) (A1 (as_ (A0 (C7 0) (A1 (mv_ ?_)))))
 refine D7 (aS rfl a0) kR (A9v rb st R _ ⟨v, qS _ hrb, hby⟩) rfl ?_
 refine A2 (L6 rfl) rfl ?_
 refine mv_ ?_
 refine H4 (t := 6) rfl (fun hb => ?_) (fun hb => ?_)
 ·
  have hb1 := hb
  refine C0 rfl rfl (OpQ.opL qm_ rfl ?_)
  refine C0 rfl rfl (OpQ.opL (D8 rfl) rfl ?_)
  refine C0 rfl rfl (OpQ.opL (qf_ 0 0) rfl ?_)
  refine C0 rfl rfl (OpQ.opL (G3 rfl kR (mA hrb) qR) rfl ?_)
  refine C0 rfl rfl (OpQ.opL (E2 (sz := 1) rfl kR hby.rd) rfl ?_)
  refine C0 rfl rfl (OpQ.opL (F0 (decide (st.1.length = 0)) rfl rfl (B4v _)) rfl ?_)
  refine A2 (E3 rfl rfl) rfl ?_
  refine as_ (A0 (C7 2) (A7 ?_))
  exact ⟨_, [], [], F7 rfl rfl, List.nil_sublist _, by simp, by unfold A6E; rw [hb1]; rfl, rfl, rfl⟩
 ·
  have hb1 := hb
  refine D1 rfl rfl rfl rfl ?_
  refine D1 rfl rfl rfl rfl ?_
  refine D1 rfl rfl rfl rfl ?_
  refine D1 rfl rfl rfl rfl ?_
  refine D1 rfl rfl rfl rfl ?_
  refine D1 rfl rfl rfl rfl ?_
  refine A2 (C8 rfl rfl) rfl ?_
  refine as_ (A0 (C7 2) (A7 ?_))
  exact ⟨_, [], [], F7 rfl rfl, List.nil_sublist _, by simp, by unfold A6E; rw [hb1]; rfl, rfl, rfl⟩

end Go.Proofs.YtoameenjkiaefaaGreatDoor
