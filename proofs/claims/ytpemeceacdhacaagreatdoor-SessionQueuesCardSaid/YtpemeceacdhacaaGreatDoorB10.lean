/- Part 10 of the texts of this claim, one behind the other. -/
import Derived.Test.YtpemeceacdhacaaGreatDoorB9
import Derived.SizedLaws
set_option linter.unusedVariables false
set_option linter.unusedSimpArgs false
set_option maxRecDepth 100000
namespace Go.Proofs.YtpemeceacdhacaaGreatDoor
open Go.Px
theorem A3b (x : Int) : IntKind.u64.wrap x = ((u64N x : Nat) : Int) := by
  unfold u64N IntKind.wrap
  simp [IntKind.signed, IntKind.bits]
  omega
theorem A6P (x : Int) : u64N x < 18446744073709551616 := by unfold u64N; omega
def wiN (u d : Int) (a g : LN) : LN := beN (u64N u) 4 ++ beN (u64N d) 4 ++ (beN a.length 4 ++ a) ++ (beN g.length 4 ++ g)
theorem B0F (u d : Int) (a g : LN) : (wiN u d a g).length = a.length + g.length + 16 := by simp [wiN, G6]; omega
theorem B2q {s : Ps} {l : List (LN)} : (A4q s z32 l A0w 1) = [seK s l] := by
  have h := B0p s z32 l A0w 1
  unfold seK
  match h2 : A4q s z32 l A0w 1, h with
  | [x], _ => rfl
theorem B2r (A : Mem) : FnX Tryz.prog 95 [] [] A fun q M J => M = [] ∧ By J q z32 := by
 refine FnX.enterZ (N := 2) Tryz.func95 rfl rfl rfl fun w_ => ?_
 refine A7 kn (A1 (as_ (A0 kn (A1 ?_))))
 refine A4 rfl (A3w (by_ := 1) (k := .u8) (e := 5) 32 rfl rfl kR rfl rfl qD qD rfl fun b1 => ?_)
 refine as_ (A0 (C9 0) (A8 ?_))
 exact ⟨_, [], [(b1, blk (I2 .u8 z32) 5)], G5 rfl rfl, Fit.eq (by simp [z32]), rfl, ⟨Rd.whole (n := 32) qK qR, by decide, by decide⟩⟩
theorem A1z (pb : Nat) (s : Ps) (lv : Value) (l : List (LN)) (MP A : Mem) (hP : Prm pb s MP) (hl : LsV A lv l) (hll : l.length ≤ 1000) (hn : s.ts.length ≤ 1040000) (hG : Glb A) : FnX Tryz.prog 64 [(vP pb), lv] MP A fun q M J => Prm pb (seS s l) M ∧ By J q (seK s l) := by
 haveI := hl.cel
 refine FnX.enterZ (N := 16) Tryz.func64 rfl rfl rfl fun w_ => ?_
 refine A7 (C7 0 1) (A1 (as_ (A0 (C7 0 1) (A1 (mv_ ?_)))))
 refine E4 a0 kR (B2r _) rfl ?_
 rintro v7 M7 J7 ⟨rfl, h7⟩
 haveI := h7.cel
 refine mv_ ?_
 refine A4 rfl (B3 (Mc := MP) (R := _) (aS rfl (aS rfl (aS rfl (aS rfl (aS rfl a0))))) kR qP (A0c pb s v7 lv z32 A0w l 1 MP _ hP (h7.mono qS) (hl.mono qS) hll A8w qD qD qD hn hG.up) rfl ?_)
 rintro v9 M9 J9 ⟨hP9, hL9⟩
 haveI := hL9.cel
 rw [B2q] at hL9
 obtain ⟨us, hru, hul⟩ := hL9.ex
 change Rd J9 1 v9 1 us at hru
 obtain ⟨u, hu, hub⟩ := hul.at (show 0 < [seK s l].length from Nat.zero_lt_one)
 haveI := hub.cel
 change By J9 u (seK s l) at hub
 change Prm pb (seS s l) M9 at hP9
 refine as_ (A0 (C9 5) (A6 (A1 (mv_ ?_))))
 refine A3 (E5 (sz := 1) rfl kR hru) rfl ?_
 refine A3 (E7 false rfl rfl (eqF qD)) rfl ?_
 refine A0 (C7 5 12) ?_
 refine B0 rfl ?_
 refine A5 (nx (C9 5) (A1 (mv_ ?_)))
 refine A3 (F1 (sz := 1) (a := 0) rfl rfl kR rfl hru qD) rfl ?_
 refine A3 (W4 (u := u) (hru.mono qS) rfl kR hu) rfl ?_
 refine as_ (A0 (C9 4) (A8 ?_))
 exact ⟨_, M9, [], G5 rfl rfl, Fit.none (Fit.last qP), hP9, hub.mono qS⟩
def wiP (u d : Int) (a g : LN) (u' d' : Int) (a' g' : LN) : Nat → LN
  | 0 => []
  | 1 => wiN u d a g
  | _ => wiN u d a g ++ wiN u' d' a' g'
def B0G (u d : Int) (a g : LN) (u' d' : Int) (a' g' : LN) : LN := wiN u d a g ++ wiN u' d' a' g'
theorem A9u (fu fd tu td : Int) (va vg vb vh : Value) (a g b h : LN) (A : Mem) (ga : By A va a) (gg : By A vg g) (gb : By A vb b) (gh : By A vh h) (hl : a.length + g.length + b.length + h.length ≤ 1000000) : FnX Tryz.prog 36 [.agg #[.int .i64 fu, .int .i64 fd], .agg #[va, vg], .agg #[.int .i64 tu, .int .i64 td], .agg #[vb, vh]] [] A fun q M J => M = [] ∧ By J q (B0G fu fd a g tu td b h) := by
 haveI := ga.cel
 haveI := gg.cel
 haveI := gb.cel
 haveI := gh.cel
 refine FnX.enterZ (N := 48) Tryz.func36 rfl rfl rfl fun w_ => ?_
 refine A7 (F2 0 1 2 3) (A1 ?_)
 refine A4 rfl (bx_ fun b4 => ?_)
 refine A4 rfl (bx_ fun b5 => ?_)
 refine A4 rfl (bx_ fun b6 => ?_)
 refine A4 rfl (bx_ fun b7 => ?_)
 refine as_ (A0 (F2 4 5 6 7) (A1 ?_))
 refine A3 (D7 (place := fun x => #[(0, 1)][x]?) (z := [vS]) (fun _ => by kernel_rfl) e0 bd0) rfl ?_
 refine A4 rfl (bx_ fun b13 => ?_)
 refine as_ (A0 (H5 4 5 6 7 9) (A6 (A1 ?_)))
 refine A3 (qw_ 2) rfl ?_
 refine A3 (qw_ 2) rfl ?_
 refine A3 (D7 (place := fun x => #[(0, 2), (2, 2)][x]?) (z := [.int .i64 0, .int .i64 0, vS, vS]) (fun _ => by kernel_rfl) (eS rfl (eS rfl e0)) (bdS 0 2 rfl qR (bdS 2 2 rfl qR bd0))) rfl ?_
 refine A3 (qw_ 2) rfl ?_
 refine A3 (qw_ 2) rfl ?_
 refine A3 (D7 (place := fun x => #[(0, 2), (2, 2)][x]?) (z := [.int .i64 0, .int .i64 0, vS, vS]) (fun _ => by kernel_rfl) (eS rfl (eS rfl e0)) (bdS 0 2 rfl qR (bdS 2 2 rfl qR bd0))) rfl ?_
 refine A4 rfl (C0 (e := 144) (sz := 4) (z := [L7, L7, vS, vS, L7, L7, vS, vS]) kR (eS rfl (eS rfl e0)) (bdS 0 4 rfl qR (bdS 4 4 rfl qR bd0)) rfl fun b20 => ?_)
 refine A3 (V1 (e := 144) rfl kR) rfl ?_
 refine mv_ (A0 (F2 9 20 21 22) (C3 ?_))
 refine V7 (B := [(b20, blk [.int .i64 fu, .int .i64 fd, va, vg, .int .i64 tu, .int .i64 td, vb, vh] 144)]) qP ?_
 refine H1 (α := Nat × Mem) (fun y => [(9, (vP b13)), (20, .slice (some ⟨b20, 0, none⟩) 2 2), (21, .int .i64 2), (22, (vI y.1))]) (fun y => y.2) (fun _ => [(b20, blk [.int .i64 fu, .int .i64 fd, va, vg, .int .i64 tu, .int .i64 td, vb, vh] 144)]) (fun y => y.1 ≤ 2 ∧ Wtr b13 (wiP fu fd a g tu td b h y.1) y.2) (fun y => 2 - y.1) (0, [(b13, blk [vS] 143)]) ⟨Nat.zero_le _, Wtr.new⟩ (F2 9 20 21 22) (Fit.last qP) qS ?_
 rintro ⟨i, MW⟩ ⟨hi, hW⟩
 dsimp only at hi hW ⊢
 have hwl : (wiP fu fd a g tu td b h i).length ≤ 2000100 := by
  rcases (by omega : i = 0 ∨ i = 1 ∨ i = 2) with rfl | rfl | rfl <;> simp [wiP, B0F] <;> omega
 refine A1 ?_
 refine A3 (E9 rfl rfl rfl) rfl ?_
 refine A0 (H5 9 20 21 22 23) (A6 ?_)
 refine C1 rfl ?_ ?_ <;> intro hc
 ·
  have hlt : i < 2 := by simp at hc; omega
  obtain ⟨u, d, x, z, vx, vz, hr1, hx, hz, hlx, hP⟩ : ∃ u d x z vx vz, ([[.int .i64 fu, .int .i64 fd, va, vg], [.int .i64 tu, .int .i64 td, vb, vh]] : List (List Value))[i]? = some [.int .i64 u, .int .i64 d, vx, vz] ∧ By A vx x ∧ By A vz z ∧ x.length + z.length ≤ 1000000 ∧ wiP fu fd a g tu td b h (i + 1) = wiP fu fd a g tu td b h i ++ wiN u d x z := by
   rcases (by omega : i = 0 ∨ i = 1) with rfl | rfl
   · exact ⟨fu, fd, a, g, va, vg, rfl, ga, gg, by omega, rfl⟩
   · exact ⟨tu, td, b, h, vb, vh, rfl, gb, gh, by omega, rfl⟩
  haveI := hx.cel
  haveI := hz.cel
  have hu64 := A6P u
  have hd64 := A6P d
  refine A5 (nx (F2 9 20 21 22) (A6 (C3 (A1 ?_))))
  refine A3 (F1 (sz := 4) rfl rfl kR rfl (Rd.whole (n := 2) (R := [(b20, blk [.int .i64 fu, .int .i64 fd, va, vg, .int .i64 tu, .int .i64 td, vb, vh] 144)]) qK qR) hlt) rfl ?_
  refine A3 (U1 (rows := [[.int .i64 fu, .int .i64 fd, va, vg], [.int .i64 tu, .int .i64 td, vb, vh]]) rfl kR (Rd.whole (n := 2) At.mem qR) (by intro r hr; simp at hr; rcases hr with rfl | rfl <;> rfl) qD hr1) rfl ?_
  refine A4 rfl (C5 (cs := [.int .i64 0, .int .i64 0, vS, vS]) kR rfl fun b11 => ?_)
  refine A4 rfl (A9 (vs := [.int .i64 u, .int .i64 d, vx, vz]) rfl rfl rfl kR qR (A2 rfl (A2 rfl (A2 hx.one (A2 hz.one G9)))) UpC.upd ?_)
  refine A0 (H5 9 11 20 21 22) ?_
  refine V2 (MW) (_) true (.range 19) [(0, 0), (1, 0), (2, 0), (3, 1), (4, 0), (6, 0), (7, 0), (8, 1), (9, 0), (11, 0), (12, 0), (13, 1), (15, 0), (16, 0), (17, 1), (5, 2), (10, 2), (14, 2), (18, 2)] kR kR qP fun hs K n0 hKm hKs hKn => ?_
  refine km_ hs ?_
  refine E2 hs rfl (qf_ 0 0) rfl ?_
  refine E2 hs rfl (qf_ 0 0) rfl ?_
  refine H4 hs rfl hKs ql_ ?_
  refine E2 hs rfl (W2 (k' := .u64) ((u64N u : Nat) : Int) rfl kR (A3b u)) rfl ?_
  refine E2 hs rfl (qf_ 0 0) rfl ?_
  refine E2 hs rfl (qf_ 1 1) rfl ?_
  refine H4 hs rfl hKs ql_ ?_
  refine E2 hs rfl (W2 (k' := .u64) ((u64N d : Nat) : Int) rfl kR (A3b d)) rfl ?_
  refine E2 hs rfl (qf_ 2 2) rfl ?_
  refine E2 hs rfl (qf_ 2 0) rfl ?_
  refine H4 hs rfl hKs ql_ ?_
  refine E2 hs rfl (qf_ 2 2) rfl ?_
  refine E2 hs rfl (qf_ 3 1) rfl ?_
  refine H4 hs rfl hKs ql_ ?_
  refine F5 _ _ rfl rfl (List.Perm.refl _) hKm fun w0 => (B3 (Mc := MW) (R := _) (aS rfl (aS rfl (aS rfl (a0)))) kR qP (K5 b13 (u64N u) 4 _ _ _ hW hu64 qD qO) rfl ?_)
  rintro v31 M31 J31 ⟨rfl, hW31⟩ hKx31
  refine F5 M31 _ rfl rfl qP (fun x hx => hKx31 (hKn rfl) x (by simpa using hx)) fun w0 => (B3 (Mc := M31) (R := _) (aS rfl (aS rfl (aS rfl (a0)))) kR qP (K5 b13 (u64N d) 4 _ _ _ hW31 hd64 qD (by first | (simp [G6]; done) | (simp [G6]; omega))) rfl ?_)
  rintro v36 M36 J36 ⟨rfl, hW36⟩ hKx36
  refine F5 M36 _ rfl rfl qP (fun x hx => hKx36 (hKn rfl) x (by simpa using hx)) fun w0 => (B3 (Mc := M36) (R := _) (aS rfl (aS rfl (a0))) kR qP (I7 b13 vx x _ _ _ hW36 (hx.mono qS) (by first | (simp [G6]; done) | (simp [G6]; omega))) rfl ?_)
  rintro v40 M40 J40 ⟨rfl, hW40⟩ hKx40
  refine F5 M40 _ rfl rfl qP (fun x hx => hKx40 (hKn rfl) x (by simpa using hx)) fun w0 => (B3 (Mc := M40) (R := _) (aS rfl (aS rfl (a0))) kR qP (I7 b13 vz z _ _ _ hW40 (hz.mono qS) (by first | (simp [G6]; done) | (simp [G6]; omega))) rfl ?_)
  rintro v44 M44 J44 ⟨rfl, hW44⟩ hKx44
  refine A1b (nb (nx (F2 9 20 21 22) (C8 ?_)))
  refine A3 (K7 ((i + 1 : Nat) : Int) rfl rfl (T4 qO qO qO)) rfl ?_
  refine mv_ (E3 ?_)
  exact rn (i + 1, M44) ⟨hlt, hW44.eq (by dsimp only; rw [hP]; simp [wiN, List.append_assoc])⟩ (by dsimp only; omega) (F2 9 20 21 22) (Fit.last qP) qS
 ·
  have hge : i = 2 := by simp at hc; omega
  subst hge
  refine H0 (te (re (be rfl (nx (C9 9) (A1 (mv_ ?_))))))
  refine A4 rfl (B3 (Mc := MW) (R := _) (aS rfl a0) kR qP (R4 b13 _ _ _ hW qO) rfl ?_)
  rintro v47 M47 J47 ⟨hW47, h47⟩
  haveI := h47.cel
  refine as_ (A0 (C9 8) (A8 ?_))
  exact ⟨_, [], [], G5 rfl rfl, qZ, rfl, h47.mono qS⟩
theorem A6Q (pb : Nat) (s : Ps) (b : Bn) (va vg vk vs vo : Value) (MP A : Mem) (hP : Prm pb s MP) (hsub : ∀ x, x ∈ MP → x ∈ A) (har : Ar s.ts) (hn : s.ts.length ≤ 1048576) (ga : By A va b.ia) (gg : By A vg b.ig) (gk : By A vk b.key) (gs : By A vs b.sig) (go : By A vo b.oncek) (hsn : b.signed < 4294967296) (hG : Glb A) : FnV Tryz.prog 61 [(vP pb), .agg #[.int .i64 b.user, .int .i64 b.dev, va, vg, (vU b.signed), vk, vs, .bool b.has, (vU b.once), vo]] A (.bool (decide (b.key.length = 32) && A9o s b.ig (A6F b.signed b.key) b.sig)) := by
 haveI := ga.cel
 haveI := gg.cel
 haveI := gk.cel
 haveI := gs.cel
 haveI := go.cel
 have hgl := gk.len
 refine FnX.enter (N := 23) Tryz.func61 rfl rfl rfl fun w => ?_
 refine A7 (C7 0 1) (A1 ?_)
 refine A4 rfl (bx_ fun b3 => ?_)
 refine as_ (A0 (C7 0 3) ?_)
 refine F4 (.range 19) [(0, 0), (1, 1), (2, 0), (3, 0), (4, 0), (5, 0), (6, 0), (7, 0), (8, 1), (9, 0), (10, 1), (11, 0), (12, 1), (14, 0), (15, 1), (13, 2), (16, 2), (17, 0), (18, 0)] kR kR fun hs => ?_
 refine D4 hs rfl (qf_ 5 5) rfl ?_
 refine S0 hs rfl ql_ rfl ?_
 refine D4 hs rfl (E5 (sz := 1) rfl kR gk.rd) rfl ?_
 refine D4 hs rfl (E7 (decide (b.key.length = 32)) rfl rfl (B2R _ 32)) rfl ?_
 refine fm_ hs ?_
 refine T9 (t := 9) rfl (fun hb => ?_) (fun hb => ?_)
 ·
  have hk32 : b.key.length = 32 := of_decide_eq_true hb
  refine F7 hs rfl rfl rfl rfl qm_ rfl ?_
  refine F7 hs rfl rfl rfl rfl (qf_ 2 2) rfl ?_
  refine F7 hs rfl rfl rfl rfl (qf_ 3 1) rfl ?_
  refine T5 hs rfl rfl rfl rfl ql_ rfl ?_
  refine F7 hs rfl rfl rfl rfl (qf_ 4 4) rfl ?_
  refine T5 hs rfl rfl rfl rfl ql_ rfl ?_
  refine F7 hs rfl rfl rfl rfl (qf_ 5 5) rfl ?_
  refine T5 hs rfl rfl rfl rfl ql_ rfl ?_
  refine F7 hs rfl rfl rfl rfl (qf_ 6 6) rfl ?_
  refine T5 hs rfl rfl rfl rfl ql_ rfl ?_
  refine A38 rfl rfl rfl rfl (aS rfl (aS rfl a0)) kR (A26 b.signed vk b.key _ hsn (gk.mono qS) qO) rfl ?_
  rintro v18 M18 J18 ⟨rfl, h18⟩
  haveI := h18.cel
  refine A1f rfl rfl rfl rfl (aS rfl (aS rfl (aS rfl (aS rfl a0)))) kR (A8h pb s vg v18 vs b.ig (A6F b.signed b.key) b.sig MP _ hP (fun x hx => qS _ (hsub x hx)) har hn (gg.mono qS) (h18.mono qS) (gs.mono qS) hG.up) rfl ?_
  refine D4 hs rfl (E6 rfl rfl) rfl ?_
  refine fa_ hs ?_
  refine G8 (C9 4) (A8 ?_)
  exact ⟨_, [], [], G5 rfl rfl, List.nil_sublist _, by simp, by rw [hb, Bool.true_and], rfl, rfl⟩
 ·
  refine K3 hs ?_
  refine K3 hs ?_
  refine K3 hs ?_
  refine T3 hs ?_
  refine K3 hs ?_
  refine T3 hs ?_
  refine K3 hs ?_
  refine T3 hs ?_
  refine K3 hs ?_
  refine T3 hs ?_
  refine A9P hs rfl rfl rfl rfl rfl rfl ?_
  refine A9P hs rfl rfl rfl rfl rfl rfl ?_
  refine D4 hs rfl (D1 rfl rfl) rfl ?_
  refine fa_ hs ?_
  refine G8 (C9 4) (A8 ?_)
  exact ⟨_, [], [], G5 rfl rfl, List.nil_sublist _, by simp, by rw [hb, Bool.false_and], rfl, rfl⟩

end Go.Proofs.YtpemeceacdhacaaGreatDoor
namespace Go.Px
open Go.ChangeShapes Go.WideShapes Go.ChangeAt Go.RowKit
structure Byi (R : Mem) (v : Value) (w : List Nat) : Prop where
  rd : Rd R 1 v w.length (I2 .u8 w)
  lt : ∀ x ∈ w, x < 256
  len : w.length ≤ maxLen
theorem Byi.mono {R R' : Mem} {v : Value} {w : List Nat} (h : Byi R v w) (hR : ∀ x, x ∈ R → x ∈ R') : Byi R' v w := ⟨h.rd.mono hR, h.lt, h.len⟩
theorem By.i {R : Mem} {v : Value} {w : List Nat} (h : By R v w) : Byi R v w := ⟨h.rd, h.lt, h.max⟩
theorem Byi.by {R : Mem} {v : Value} {w : List Nat} (h : Byi R v w) (hl : w.length ≤ 16777216) : By R v w := ⟨h.rd, h.lt, hl⟩
theorem Byi.cel {R : Mem} {v : Value} {w : List Nat} (h : Byi R v w) : Cel v [v] := h.rd.cel
theorem Byi.one {R : Mem} {v : Value} {w : List Nat} (h : Byi R v w) : v.oneCell' = true := h.rd.one
structure Byz (R : Mem) (v : Value) (w : List Nat) : Prop extends Byi R v w where
  sz : w.length ≤ reachBytes
theorem Byz.mono {R R' : Mem} {v : Value} {w : List Nat} (h : Byz R v w) (hR : ∀ x, x ∈ R → x ∈ R') : Byz R' v w := ⟨h.toByi.mono hR, h.sz⟩
section
variable {H : Type} {enc : TypeId × Value → H} {P : Program} {w : World} {spare : Nat → Bool} {held : Bool} {fuel : Nat} {t e : TypeId} {cs : List Value} {x : DataW H × List MemPlace}
end
end Go.Px

namespace Go.Proofs.YtpemeceacdhacaaGreatDoor
open Go.Px
theorem A6R {P : Program} {fn : Func} {l : Env} {R : Mem} {t u x b n : Nat} {ty : TypeId} {cs : List Value} {e : TypeId} {fr : Nat × Nat} {v z : Value} (h : fn.results = #[.tmp u, .cell t ty, .tmp x]) (hv : lk l t = some (vP b)) (hu : lk l u = some v) (hx : lk l x = some z) (ht : A3l P ty = some n)
    (hb : (b, Obj.cells cs.toArray e fr) ∈ R) (hn : cs.length = n) : Res P fn l R (.tuple #[v, .agg cs.toArray, z]) := fun N a w ha hw => by
  obtain ⟨dsc, h1, h2, h3⟩ := M3 ht
  have hl := run_loadVar_row (P := P) w b e ty cs.toArray fr dsc (hw b _ hb) h1 (by cases dsc <;> simp_all [TypeDesc.isRow]) (by rw [h3, ← hn]; simp)
  simp [results, h, ha.slot t _ hv, ha.slot u _ hu, ha.slot x _ hx, asAddr, hl]
theorem B3y {P : Program} {fn : Func} {l : Env} {R : Mem} {t u x : Nat} {v z y : Value} (h : fn.results = #[.tmp t, .tmp u, .tmp x]) (hv : lk l t = some v) (hu : lk l u = some z) (hx : lk l x = some y) : Res P fn l R (.tuple #[v, z, y]) := fun N a w ha hw => by
  simp [results, h, ha.slot t _ hv, ha.slot u _ hu, ha.slot x _ hx]
noncomputable def ckB (s : Ps) (b : Bn) : Bool := decide (b.key.length = 32) && A9o s b.ig (A6F b.signed b.key) b.sig
def heC (va vg vk : Value) (h : He) : List Value := [va, vg, vk, (vU h.signed), .bool h.has, (vU h.once)]
structure HeR (R : Mem) (h : He) (va vg vk : Value) : Prop where
  ia : By R va h.ia
  ig : Byi R vg h.ig
  key : By R vk h.key
  signed : h.signed < 4294967296
  once : h.once < 4294967296
theorem HeR.mono {R R' : Mem} {h : He} {va vg vk : Value} (g : HeR R h va vg vk) (hR : ∀ x, x ∈ R → x ∈ R') : HeR R' h va vg vk := ⟨g.ia.mono hR, g.ig.mono hR, g.key.mono hR, g.signed, g.once⟩
theorem B0H (pb : Nat) (s : Ps) (kb : Nat) (k : Ks) (va vg vq vo vm : Value) (rs ro rm : List (List Value)) (b : Bn) (wa wg wk ws wo : Value) (MP A : Mem) (hK : KyR A kb k va vg vq vo vm rs ro rm) (hP : Prm pb s MP) (har : Ar s.ts) (hn : s.ts.length + 1000 ≤ 1040000) (hk : s.n < 1000000000) (ga : By A wa b.ia) (gg : By A wg b.ig) (gk : By A wk b.key) (gs : By A ws b.sig) (go : By A wo b.oncek) (hsn : b.signed < 4294967296) (hon : b.once < 4294967296) (hG : Glb A) : FnX Tryz.prog 35 [(vP pb), (vP kb), .agg #[.int .i64 b.user, .int .i64 b.dev, wa, wg, (vU b.signed), wk, ws, .bool b.has, (vU b.once), wo]] MP A fun q M J => (ckB s b = true → ∃ v p r u, q = .tuple #[v, .agg (heC p r u (stH k b s)).toArray, .int .i64 0] ∧ Prm pb (stS k b s) M ∧ By J v (stK k b s) ∧ HeR (J ++ A) (stH k b s) p r u) ∧ (ckB s b = false → q = .tuple #[vS, .agg #[vS, vS, vS, .int .u32 0, .bool false, .int .u32 0], .int .i64 10] ∧ Prm pb s M) := by
 haveI := ga.cel
 haveI := gg.cel
 haveI := gk.cel
 haveI := gs.cel
 haveI := go.cel
 have f1 := L6 s
 have f2 := N3 (D8 s) k.agree b.key
 have f3 := N3 (K0 (D8 s) k.agree b.key) (E1 s) b.ia
 have f4 := N3 (K0 (K0 (D8 s) k.agree b.key) (E1 s) b.ia) (E1 s) b.key
 have f5 := N3 (K0 (K0 (K0 (D8 s) k.agree b.key) (E1 s) b.ia) (E1 s) b.key) (E1 s) b.oncek
 refine FnX.enterZ (N := 74) Tryz.func35 rfl rfl rfl fun w_ => ?_
 refine A7 (E0 0 1 2) (A1 ?_)
 refine A4 rfl (bx_ fun b5 => ?_)
 refine as_ ?_
 refine A4 rfl (C5 (cs := [vS, vS, vS, .int .u32 0, .bool false, .int .u32 0]) kR rfl fun b7 => ?_)
 refine as_ (A0 (F2 0 1 5 7) (A6 (A1 (mv_ ?_))))
 refine A3 (D0 (e := 98) rfl rfl kR) rfl ?_
 refine mv_ ?_
 refine C6 rfl rfl (OpQ.opL qm_ rfl ?_)
 refine C6 rfl rfl (OpQ.opL (D0 (e := 93) rfl rfl kR) rfl ?_)
 refine A3 (D1 rfl rfl) rfl ?_
 refine A0 (H5 0 1 5 7 17) ?_
 refine B0 rfl ?_
 refine A5 (nx (F2 0 1 5 7) (A6 (A1 (mv_ ?_))))
 refine A3 (qw_ 10) rfl ?_
 refine D6 (aS rfl (aS rfl a0)) kR (A6Q pb s b wa wg wk ws wo MP _ hP (by intro z hz; simp [hz]) har qO (ga.mono qS) (gg.mono qS) (gk.mono qS) (gs.mono qS) (go.mono qS) hsn hG.up) rfl ?_
 change XL _ _ _ _ ((21, .bool (ckB s b)) :: _) _ _
 refine A3 (P2 rfl) rfl ?_
 refine A0 (H5 0 1 5 7 22) ?_
 refine C1 rfl ?_ ?_ <;> intro hc
 ·
  have hck : ckB s b = false := by simpa using hc
  refine A1 ?_
  refine A3 (D7 (place := fun x => #[(0, 2), (2, 1), (3, 1), (4, 1), (5, 1)][x]?) (z := [vS, vS, vS, .int .u32 0, .bool false, .int .u32 0]) (fun _ => by kernel_rfl) e0 bd0) rfl ?_
  refine as_ ?_
  refine A4 rfl (A9 rfl rfl Cel.cel kR ln6 al6 UpC.upd ?_)
  refine as_ (A0 (E0 6 7 8) (A8 (tr ?_)))
  exact ⟨_, MP, [], A6R (n := 6) rfl rfl rfl rfl kR At.mem qR, Fit.none (Fit.last qP), (fun h => by rw [hck] at h; cases h), fun _ => ⟨rfl, hP⟩⟩
 ·
  have hck : ckB s b = true := by simpa using hc
  refine A5 (nx (F2 0 1 5 7) (A1 (mv_ ?_)))
  refine A4 rfl (B3 (Mc := MP) (R := _) (aS rfl (a0)) kR qP (P6 pb s MP _ hP qO qO hG.up) rfl ?_)
  rintro v25 M25 J25 ⟨hP25, h25⟩
  haveI := h25.cel
  refine as_ (A0 (H5 0 1 5 7 9) ?_)
  refine D9 (M25) (_) true (.range 19) [(0, 0), (1, 0), (3, 0), (4, 1), (6, 0), (7, 0), (8, 0), (9, 0), (10, 1), (12, 0), (13, 0), (14, 0), (15, 1), (2, 2), (5, 2), (11, 2), (16, 2), (17, 2), (18, 0)] kR kR qP fun hs K n0 hKm hKs hKn => ?_
  refine km_ hs ?_
  refine km_ hs ?_
  refine E2 hs rfl (qf_ 5 5) rfl ?_
  refine H4 hs rfl hKs ql_ ?_
  refine km_ hs ?_
  refine km_ hs ?_
  refine E2 hs rfl (qf_ 2 2) rfl ?_
  refine E2 hs rfl (qf_ 2 0) rfl ?_
  refine H4 hs rfl hKs ql_ ?_
  refine km_ hs ?_
  refine km_ hs ?_
  refine E2 hs rfl (qf_ 5 5) rfl ?_
  refine H4 hs rfl hKs ql_ ?_
  refine F5 [] _ rfl rfl (List.Perm.refl _) (fun _ h => by cases h) fun w0 => (I5 (aS rfl a0) kR (A4y kb k va vg vq vo vm rs ro rm _ (hK.mono qS)) rfl ?_)
  rintro v28 M28 J28 ⟨rfl, h28⟩ _
  haveI := h28.cel
  dsimp only [List.nil_append, List.append_eq]
  refine F5 _ _ rfl rfl (List.Perm.refl _) hKm fun w0 => (B3 (Mc := M25) (R := _) (aS rfl (aS rfl (aS rfl (a0)))) kR qP (W9 pb (D8 s) v28 wk k.agree b.key M25 _ hP25 qO (h28.mono qS) (gk.mono qS) hG.up) rfl ?_)
  rintro v31 M31 J31 ⟨hP31, h31⟩ hKx31
  haveI := h31.cel
  refine F5 M31 _ rfl rfl qP (fun x hx => hKx31 (hKn rfl) x (by simpa using hx)) fun w0 => (B3 (Mc := M31) (R := _) (aS rfl (aS rfl (aS rfl (a0)))) kR qP (W9 pb ((K0 (D8 s) k.agree b.key)) v25 wa (E1 s) b.ia M31 _ hP31 qO (h25.mono qS) (ga.mono qS) hG.up) rfl ?_)
  rintro v37 M37 J37 ⟨hP37, h37⟩ hKx37
  haveI := h37.cel
  refine F5 M37 _ rfl rfl qP (fun x hx => hKx37 (hKn rfl) x (by simpa using hx)) fun w0 => (B3 (Mc := M37) (R := _) (aS rfl (aS rfl (aS rfl (a0)))) kR qP (W9 pb ((K0 (K0 (D8 s) k.agree b.key) (E1 s) b.ia)) v25 wk (E1 s) b.key M37 _ hP37 qO (h25.mono qS) (gk.mono qS) hG.up) rfl ?_)
  rintro v42 M42 J42 ⟨hP42, h42⟩ hKx42
  haveI := h42.cel
  refine F5 [] _ rfl rfl (List.Perm.refl _) (fun _ h => by cases h) fun w0 => (C0 (e := 22) (sz := 1) (z := [vS, vS, vS]) kR (eS rfl (eS rfl (eS rfl e0))) (bdS 0 1 rfl qR (bdS 1 1 rfl qR (bdS 2 1 rfl qR bd0))) rfl fun b43 => fun hk43 => ?_)
  dsimp only [List.cons_append, List.nil_append, List.append_eq]
  refine E2 hs rfl (E8 rfl) rfl ?_
  refine G2 (I8 0 1 5 7 9 10) ?_
  refine N7 (α := Value × Mem × Mem) (fun y => [(0, (vP pb)), (1, (vP kb)), (5, (vP b5)), (7, (vP b7)), (9, v25), (10, y.1)]) (fun y => y.2.1 ++ [(b5, blk [.int .i64 b.user, .int .i64 b.dev, wa, wg, (vU b.signed), wk, ws, .bool b.has, (vU b.once), wo] 79), (b7, blk [vS, vS, vS, .int .u32 0, .bool false, .int .u32 0] 33)]) (fun y => y.2.2) (fun y => Prm pb (stA k.agree b s) y.2.1 ∧ LsV (y.2.2 ++ A) y.1 (stL k.agree b s) ∧ By (y.2.2 ++ A) v25 (E1 s)) ?_ ?_
  ·
   refine V7 (B := [(b43, blk [v31, v37, v42] 22)]) qP ?_
   refine A1 ?_
   refine A3 (qf_ 7 7) rfl ?_
   refine A3 ql_ rfl ?_
   refine A0 (R8 0 1 5 7 9 10 45) ?_
   refine C1 rfl ?_ ?_ <;> intro hc
   ·
    refine C8 (mv_ (mv_ (mv_ ?_)))
    refine A3 (qf_ 9 9) rfl ?_
    refine A3 ql_ rfl ?_
    refine A4 rfl (B3 (Mc := M42) (R := _) (aS rfl (aS rfl (aS rfl (a0)))) kR qP (W9 pb (K0 (K0 (K0 (D8 s) k.agree b.key) (E1 s) b.ia) (E1 s) b.key) v25 wo (E1 s) b.oncek M42 _ hP42 qO (h25.mono qS) (go.mono qS) hG.up) rfl ?_)
    rintro v51 M51 J51 ⟨hP51, h51⟩
    haveI := h51.cel
    refine A4 rfl (C0 (e := 22) (sz := 1) (z := [vS]) kR (eS rfl e0) (bdS 0 1 rfl qR bd0) rfl fun b52 => ?_)
    refine A4 rfl (A20 (e := 22) (sz := 1) (by_ := 24) (xs := [v31, v37, v42]) rfl rfl kR rfl (Rd.whole (n := 3) At.mem qR) (Rd.whole (n := 1) At.mem qR) qD qD qD rfl fun v53 B53 hs53 => ?_)
    haveI := hs53.cel
    refine A1t (B := B53) qP ?_
    refine as_ (E3 ?_)
    exact jn (v53, M51, _) ⟨by dsimp only; unfold stA stP; rw [hc]; exact hP51, by dsimp only; unfold stL stP; rw [hc]; exact ⟨[v31, v37, v42] ++ [v51], hs53.rd qS, Lst.cons (h31.mono qS) (Lst.cons (h37.mono qS) (Lst.cons (h42.mono qS) (Lst.cons (h51.mono qS) Lst.nil)))⟩, h25.mono qS⟩ (I8 0 1 5 7 9 10) (Fit.pick qP (Fit.last qP)) qI
   ·
    refine A5 ?_
    exact jn (.slice (some ⟨b43, 0, none⟩) 3 3, M42, _) ⟨by dsimp only; unfold stA stP; rw [hc]; exact hP42, by dsimp only; unfold stL stP; rw [hc]; exact ⟨[v31, v37, v42], Rd.whole (n := 3) At.mem qR, Lst.cons (h31.mono qS) (Lst.cons (h37.mono qS) (Lst.cons (h42.mono qS) Lst.nil))⟩, h25.mono qS⟩ (I8 0 1 5 7 9 10) (Fit.pick qP (Fit.last qP)) qI
  ·
   rintro ⟨lv, MJ, J9⟩ ⟨hPJ, hLJ, he25⟩
   dsimp only at hPJ hLJ he25 ⊢
   haveI := hLJ.cel
   obtain ⟨hzA, hzI, hzS, hzn, hzL⟩ := B0C k b s
   have hI : stI k b s = H7 (idS k (stA k.agree b s)) (E1 s) := rfl
   have hH : stH k b s = ⟨idA k (stA k.agree b s), idG k (stA k.agree b s), H8 (idS k (stA k.agree b s)) (E1 s), b.signed, b.has, if b.has then b.once else 0⟩ := rfl
   rw [hH]
   have hzi := A1y k (stA k.agree b s)
   rw [hI] at hzI
   generalize E1 s = e at *
   obtain ⟨sA, hsA⟩ : ∃ z, stA k.agree b s = z := ⟨_, rfl⟩
   rw [hsA] at hPJ hzA hI hzi hzI ⊢
   refine D9 (MJ) (_) true (.range 12) [(0, 0), (1, 0), (3, 0), (4, 0), (6, 0), (7, 1), (8, 0), (9, 1), (2, 3), (5, 3), (10, 3), (11, 4), (12, 2)] kR kR qP fun hs K n0 hKm hKs hKn => ?_
   refine km_ hs ?_
   refine km_ hs ?_
   refine km_ hs ?_
   refine km_ hs ?_
   refine E2 hs rfl (qf_ 4 4) rfl ?_
   refine H4 hs rfl hKs ql_ ?_
   refine E2 hs rfl (qf_ 7 7) rfl ?_
   refine H4 hs rfl hKs ql_ ?_
   refine V8 [⟨2, 56, none, MJ, fun v B R => Prm pb (idS k sA) B ∧ ∃ p q, v = .agg #[p, q] ∧ By R p (idA k sA) ∧ By R q (idG k sA)⟩, ⟨5, 59, some 2, [], fun v B R => Prm pb (H7 (idS k sA) e) B ∧ By R v (H8 (idS k sA) e)⟩, ⟨10, 64, none, [], fun v B R => B = [] ∧ ∃ p r u, v = .agg #[p, r, u, (vU b.signed), .bool b.has, (vU 0)] ∧ By R p (idA k sA) ∧ By R r (idG k sA) ∧ By R u (H8 (idS k sA) e)⟩, ⟨11, 11, none, [], fun v B _ => ∃ b, v = (vP b) ∧ B = [(b, blk [vS, vS, vS, .int .u32 0, .bool false, .int .u32 0] 33)]⟩] ([(b5, blk [.int .i64 b.user, .int .i64 b.dev, wa, wg, (vU b.signed), wk, ws, .bool b.has, (vU b.once), wo] 79), (b7, blk [vS, vS, vS, .int .u32 0, .bool false, .int .u32 0] 33)]) (fun bs => [bs 5, bs 10, bs 11]) (hKn rfl) (by simp [N9, U7]) (show ∀ m ∈ ([MJ, [], []] : List Mem), ∀ x ∈ m, K x.1 from A2 (hKm) (A2 (fun _ h => by cases h) (A2 (fun _ h => by cases h) (G9)))) kR (fun _ => by first | rfl | kernel_rfl)
    (A2 (fun _ _ _ _ h ⟨p1, p, q, e, p2, p3⟩ => ⟨p1, p, q, e, p2.mono h, p3.mono h⟩) (A2 (fun _ _ _ _ h ⟨p1, p2⟩ => ⟨p1, p2.mono h⟩) (A2 (fun _ _ _ _ h ⟨p1, p, q, u, e, p2, p3, p4⟩ => ⟨p1, p, q, u, e, p2.mono h, p3.mono h, p4.mono h⟩) (A2 (fun _ _ _ _ _ h => h) (G9))))) (show List.Nodup [56, 59, 64, 11] by decide) (show List.Nodup [2, 5, 10, 11] by decide) (A2 (C4 rfl) (A2 (C4 rfl) (A2 (C4 rfl) (A2 (C4 rfl) (G9)))))
    (A2 ⟨_, rfl, fun vs bs R Rj wG hb hj hjr ha => ⟨.inl rfl, ?_⟩⟩ (A2 ⟨_, rfl, fun vs bs R Rj wG hb hj hjr ha => ⟨.inl rfl, ?_⟩⟩ (A2 ⟨_, rfl, fun vs bs R Rj wG hb hj hjr ha => ⟨.inl rfl, ?_⟩⟩ (A2 ⟨_, rfl, fun vs bs R Rj wG hb hj hjr ha => ⟨.inl rfl, ?_⟩⟩ (G9))))) ?_
   ·
    dsimp only [Gc.inp]
    refine B3 (Mc := MJ) (R := []) (aS rfl (aS rfl (a0))) kR qM (A2x pb sA kb k va vg vq vo vm rs ro rm MJ _ (hK.mono (fun x hx => by have := hb x (by simp [hx]); simp [this])) hPJ qO (hG.sub (fun x hx => by have := hb x (by simp [hx]); simp [this]))) rfl ?_
    rintro v25 M25 J25 ⟨hP25, p, q, rfl, hp, hq⟩
    exact ⟨_, rfl, by simpa using hP25, p, q, rfl, hp.mono fun x hx => by simp [hx], hq.mono fun x hx => by simp [hx]⟩
   ·
    dsimp only [Gc.inp]
    have g2 := ha _ (List.mem_of_getElem? (i := 0) rfl) kR
    replace g2 : (fun v B R => Prm pb (idS k sA) B ∧ ∃ p q, v = .agg #[p, q] ∧ By R p (idA k sA) ∧ By R q (idG k sA)) (vs 2) (bs 2) Rj := g2
    dsimp only at g2
    obtain ⟨hP25, -⟩ := g2
    refine B3 (Mc := bs 2) (R := []) (aS rfl (aS rfl (a0))) kR qM (Y3 pb (idS k sA) v25 e (bs 2) _ hP25 qO (he25.mono (fun x hx => by have := hb x (by simp [hx]); simp [this])) (hG.sub (fun x hx => by have := hb x (by simp [hx]); simp [this]))) rfl ?_
    rintro v31 M31 J31 ⟨hP31, h31⟩
    exact ⟨_, rfl, by simpa using hP31, h31.mono fun x hx => by simp [hx]⟩
   ·
    dsimp only [Gc.inp]
    have g2 := ha _ (List.mem_of_getElem? (i := 0) rfl) kR
    replace g2 : (fun v B R => Prm pb (idS k sA) B ∧ ∃ p q, v = .agg #[p, q] ∧ By R p (idA k sA) ∧ By R q (idG k sA)) (vs 2) (bs 2) Rj := g2
    dsimp only at g2
    have g5 := ha _ (List.mem_of_getElem? (i := 1) rfl) kR
    replace g5 : (fun v B R => Prm pb (H7 (idS k sA) e) B ∧ By R v (H8 (idS k sA) e)) (vs 5) (bs 5) Rj := g5
    dsimp only at g5
    obtain ⟨-, h31⟩ := g5
    obtain ⟨-, p, q, e25, hp, hq⟩ := g2
    haveI := h31.cel
    haveI := hp.cel
    haveI := hq.cel
    dsimp only [L5, List.map, List.cons_append, List.nil_append]
    rw [e25]
    exact OpQ.opL (D7 (place := fun x => #[(0, 2), (2, 1), (3, 1), (4, 1), (5, 1)][x]?) (z := [vS, vS, vS, .int .u32 0, .bool false, .int .u32 0]) (fun _ => by kernel_rfl) (eS rfl (eS rfl (eS rfl (eS rfl e0)))) (bdS 0 2 rfl qR (bdS 2 1 rfl qR (bdS 3 1 rfl qR (bdS 4 1 rfl qR bd0))))) rfl ⟨_, rfl, rfl, p, q, _, rfl, hp, hq, h31⟩
   ·
    dsimp only [Gc.inp]
    exact C5 (cs := [vS, vS, vS, .int .u32 0, .bool false, .int .u32 0]) kR rfl fun b => ⟨_, rfl, b, rfl, rfl⟩
   intro vs bs Jn0 hφ hKK
   have kk2 := hKK _ (List.mem_of_getElem? (i := 0) rfl)
   dsimp only at kk2
   have kk5 := hKK _ (List.mem_of_getElem? (i := 1) rfl)
   dsimp only at kk5
   have kk10 := hKK _ (List.mem_of_getElem? (i := 2) rfl)
   dsimp only at kk10
   have kk11 := hKK _ (List.mem_of_getElem? (i := 3) rfl)
   dsimp only at kk11
   clear hKK
   have g2 := ofH hφ
   dsimp only at g2
   replace hφ := ofT hφ
   have g5 := ofH hφ
   dsimp only at g5
   replace hφ := ofT hφ
   have g10 := ofH hφ
   dsimp only at g10
   replace hφ := ofT hφ
   have g11 := ofH hφ
   dsimp only at g11
   clear hφ
   dsimp only [L5, N9, List.foldr, List.map, List.cons_append, List.nil_append]
   generalize bs 2 = B56 at *
   generalize bs 5 = B59 at *
   generalize bs 10 = B64 at *
   generalize bs 11 = B11 at *
   generalize vs 2 = u56 at *
   generalize vs 5 = u59 at *
   generalize vs 10 = u64 at *
   generalize vs 11 = u11 at *
   obtain ⟨hP59, -⟩ := g5
   clear g2
   obtain ⟨b11, rfl, rfl⟩ := g11
   obtain ⟨rfl, p, r, u, rfl, hp, hr, hu⟩ := g10
   haveI := hp.cel
   haveI := hr.cel
   haveI := hu.cel
   refine I4 rfl rfl rfl (A9 (vs := [p, r, u, (vU b.signed), .bool b.has, (vU 0)]) rfl rfl rfl kR qR (A2 hp.one (A2 hr.one (A2 hu.one al3))) UpC.upd ?_)
   refine G2 (H5 0 5 7 10 11) (A6 ?_)
   cases hh : b.has
   ·
    refine A1 ?_
    refine A3 (qf_ 7 7) rfl ?_
    refine A3 ql_ rfl ?_
    refine A0 (I8 0 5 7 10 11 66) ?_
    refine B0 rfl ?_
    refine A5 (nx (F2 0 7 10 11) ?_)
    refine D9 (B59) (_) true [0, 1, 2, 3, 4, 6] [(0, 0), (1, 0), (3, 1), (2, 2), (4, 0), (5, 2), (6, 0)] kR kR qP fun hs K n0 hKm hKs hKn => ?_
    refine km_ hs ?_
    refine km_ hs ?_
    refine H4 hs rfl hKs (qw_ 6) ?_
    refine F5 _ _ rfl rfl (List.Perm.refl _) hKm fun w0 => (B3 (Mc := B59) (R := _) (aS rfl (aS rfl (a0))) kR qP (A1z pb (stI k b s) lv (stL k.agree b s) B59 _ (hI ▸ hP59) (hLJ.mono qS) qO (by rw [hI]; omega) hG.up) rfl ?_)
    rintro v72 M72 J72 ⟨hP72, h72⟩ hKx72
    haveI := h72.cel
    refine E2 hs rfl (E8 rfl) rfl ?_
    refine I4 rfl rfl rfl (A9 (vs := [p, r, u, (vU b.signed), .bool false, (vU 0)]) rfl rfl rfl kR qR (A2 hp.one (A2 hr.one (A2 hu.one al3))) UpC.upd ?_)
    refine E2 hs rfl (E8 rfl) rfl ?_
    refine G2 (E0 6 7 8) (A8 ?_)
    refine ⟨_, M72, [], A6R (n := 6) rfl rfl rfl rfl kR At.mem qR, Fit.none (Fit.last qP), (fun _ => ⟨_, p, r, u, rfl, hP72, h72.mono qS, hp.mono qS, (hr.mono qS).i, hu.mono qS, hsn, (by decide : 0 < 4294967296)⟩), fun h => by rw [hck] at h; cases h⟩
   ·
    refine A1 ?_
    refine A3 (qf_ 7 7) rfl ?_
    refine A3 ql_ rfl ?_
    refine A0 (I8 0 5 7 10 11 66) ?_
    refine F3 rfl ?_
    refine C8 ?_
    refine A3 (qf_ 8 8) rfl ?_
    refine A3 ql_ rfl ?_
    refine A3 (qf_ 5 5) rfl ?_
    refine A4 rfl (F0 rfl rfl rfl kR SetC.set UpC.upd ?_)
    refine A0 (F2 0 7 10 11) ?_
    refine D9 (B59) (_) true [0, 1, 2, 3, 4, 6] [(0, 0), (1, 0), (3, 1), (2, 2), (4, 0), (5, 2), (6, 0)] kR kR qP fun hs K n0 hKm hKs hKn => ?_
    refine km_ hs ?_
    refine km_ hs ?_
    refine H4 hs rfl hKs (qw_ 6) ?_
    refine F5 _ _ rfl rfl (List.Perm.refl _) hKm fun w0 => (B3 (Mc := B59) (R := _) (aS rfl (aS rfl (a0))) kR qP (A1z pb (stI k b s) lv (stL k.agree b s) B59 _ (hI ▸ hP59) (hLJ.mono qS) qO (by rw [hI]; omega) hG.up) rfl ?_)
    rintro v72 M72 J72 ⟨hP72, h72⟩ hKx72
    haveI := h72.cel
    refine E2 hs rfl (E8 rfl) rfl ?_
    refine I4 rfl rfl rfl (A9 (vs := [p, r, u, (vU b.signed), .bool true, (vU b.once)]) rfl rfl rfl kR qR (A2 hp.one (A2 hr.one (A2 hu.one al3))) UpC.upd ?_)
    refine E2 hs rfl (E8 rfl) rfl ?_
    refine G2 (E0 6 7 8) (A8 ?_)
    refine ⟨_, M72, [], A6R (n := 6) rfl rfl rfl rfl kR At.mem qR, Fit.none (Fit.last qP), (fun _ => ⟨_, p, r, u, rfl, hP72, h72.mono qS, hp.mono qS, (hr.mono qS).i, hu.mono qS, hsn, hon⟩), fun h => by rw [hck] at h; cases h⟩

theorem A8y (pb : Nat) (s : Ps) (kb : Nat) (k : Ks) (va vg vq vo vm : Value) (rs ro rm : List (List Value)) (h : He) (wa wg wk : Value) (MP A : Mem) (hK : KyR A kb k va vg vq vo vm rs ro rm) (hrise : A9s k.once) (hP : Prm pb s MP) (hn : s.ts.length + 1000 ≤ 1040000) (gh : HeR A h wa wg wk) (hG : Glb A) : FnX Tryz.prog 43 [(vP pb), (vP kb), .agg #[wa, wg, wk, (vU h.signed), .bool h.has, (vU h.once)]] MP A fun q M J => ∃ v o, q = .tuple #[v, o, .int .i64 (if (anR k h s).1.isSome then 0 else 9)] ∧ Prm pb (anR k h s).2 M ∧ By J v ((anR k h s).1.elim [] (·.1)) ∧ By J o ((anR k h s).1.elim [] (·.2)) := by
 haveI := gh.ia.cel
 haveI := gh.ig.cel
 haveI := gh.key.cel
 refine FnX.enterZ (N := 70) Tryz.func43 rfl rfl rfl fun w_ => ?_
 refine A7 (E0 0 1 2) (A1 ?_)
 refine A4 rfl (bx_ fun b5 => ?_)
 refine as_ (as_ (as_ (A0 (E0 0 1 5) (A6 (A1 (mv_ ?_))))))
 refine A3 (D0 (e := 98) rfl rfl kR) rfl ?_
 refine mv_ ?_
 refine C6 rfl rfl (OpQ.opL qm_ rfl ?_)
 refine C6 rfl rfl (OpQ.opL (D0 (e := 93) rfl rfl kR) rfl ?_)
 refine A3 (D1 rfl rfl) rfl ?_
 refine A0 (F2 0 1 5 19) ?_
 refine B0 rfl ?_
 refine A5 (nx (E0 0 1 5) (A1 (mv_ ?_)))
 refine A3 (qf_ 3 3) rfl ?_
 refine A3 ql_ rfl ?_
 refine E4 (aS rfl (aS rfl a0)) kR (A8k kb k va vg vq vo vm rs ro rm h.signed _ (hK.mono qS)) rfl ?_
 rintro r24 M24 J24 ⟨rfl, q1, rfl, hq1⟩
 haveI := hq1.cel
 refine mv_ ?_
 refine A3 (U6 rfl) rfl ?_
 refine A3 (U0 rfl) rfl ?_
 refine as_ (as_ (A0 (H5 0 1 5 9 10) (A6 ?_)))
 cases hsg : A12 k.signed h.signed with
 | none => ?_
 | some sx => ?_
 ·
  refine A1 (mv_ ?_)
  refine A3 (P2 rfl) rfl ?_
  refine A0 (H5 0 1 5 9 28) ?_
  refine F3 rfl ?_
  refine A1 (as_ (as_ (as_ (A0 (E0 6 7 8) (A8 (tr ?_))))))
  exact ⟨_, MP, [], B3y rfl rfl rfl rfl, Fit.none (Fit.last qP), by rw [B2p hsg]; exact ⟨_, _, rfl, hP, By.nil, By.nil⟩⟩
 ·
  rw [hsg] at hq1
  change By _ q1 sx at hq1
  have f2 := N3 s sx h.ia
  have f3 := N3 (K0 s sx h.ia) k.agree h.key
  have f4 := N3 (K0 (K0 s sx h.ia) k.agree h.key) sx h.key
  refine A1 (mv_ ?_)
  refine A3 (P2 rfl) rfl ?_
  refine A0 (H5 0 1 5 9 28) ?_
  refine B0 rfl ?_
  refine A5 (nx (F2 0 1 5 9) ?_)
  refine D9 (MP) (_) true (.range 19) [(0, 0), (1, 0), (2, 0), (3, 0), (4, 1), (6, 0), (7, 0), (9, 0), (10, 1), (12, 0), (13, 0), (14, 0), (15, 1), (5, 2), (8, 2), (11, 2), (16, 2), (17, 2), (18, 0)] kR kR qP fun hs K n0 hKm hKs hKn => ?_
  refine km_ hs ?_
  refine km_ hs ?_
  refine E2 hs rfl (qf_ 0 0) rfl ?_
  refine E2 hs rfl (qf_ 0 0) rfl ?_
  refine H4 hs rfl hKs ql_ ?_
  refine km_ hs ?_
  refine km_ hs ?_
  refine E2 hs rfl (qf_ 2 2) rfl ?_
  refine H4 hs rfl hKs ql_ ?_
  refine km_ hs ?_
  refine km_ hs ?_
  refine E2 hs rfl (qf_ 2 2) rfl ?_
  refine H4 hs rfl hKs ql_ ?_
  refine F5 _ _ rfl rfl (List.Perm.refl _) hKm fun w0 => (B3 (Mc := MP) (R := _) (aS rfl (aS rfl (aS rfl (a0)))) kR qP (W9 pb (s) q1 wa sx h.ia MP _ hP qO (hq1.mono qS) (gh.ia.mono qS) hG.up) rfl ?_)
  rintro v34 M34 J34 ⟨hP34, h34⟩ hKx34
  haveI := h34.cel
  refine F5 [] _ rfl rfl (List.Perm.refl _) (fun _ h => by cases h) fun w0 => (I5 (aS rfl a0) kR (A4y kb k va vg vq vo vm rs ro rm _ (hK.mono qS)) rfl ?_)
  rintro v37 M37 J37 ⟨rfl, h37⟩ _
  haveI := h37.cel
  dsimp only [List.nil_append, List.append_eq]
  refine F5 M34 _ rfl rfl qP (fun x hx => hKx34 (hKn rfl) x (by simpa using hx)) fun w0 => (B3 (Mc := M34) (R := _) (aS rfl (aS rfl (aS rfl (a0)))) kR qP (W9 pb ((K0 s sx h.ia)) v37 wk k.agree h.key M34 _ hP34 qO (h37.mono qS) (gh.key.mono qS) hG.up) rfl ?_)
  rintro v40 M40 J40 ⟨hP40, h40⟩ hKx40
  haveI := h40.cel
  refine F5 M40 _ rfl rfl qP (fun x hx => hKx40 (hKn rfl) x (by simpa using hx)) fun w0 => (B3 (Mc := M40) (R := _) (aS rfl (aS rfl (aS rfl (a0)))) kR qP (W9 pb ((K0 (K0 s sx h.ia) k.agree h.key)) q1 wk sx h.key M40 _ hP40 qO (hq1.mono qS) (gh.key.mono qS) hG.up) rfl ?_)
  rintro v45 M45 J45 ⟨hP45, h45⟩ hKx45
  haveI := h45.cel
  refine F5 [] _ rfl rfl (List.Perm.refl _) (fun _ h => by cases h) fun w0 => (C0 (e := 22) (sz := 1) (z := [vS, vS, vS]) kR (eS rfl (eS rfl (eS rfl e0))) (bdS 0 1 rfl qR (bdS 1 1 rfl qR (bdS 2 1 rfl qR bd0))) rfl fun b46 => fun hk46 => ?_)
  dsimp only [List.cons_append, List.nil_append, List.append_eq]
  refine E2 hs rfl (E8 rfl) rfl ?_
  refine G2 (H5 0 1 5 9 11) ?_
  refine N7 (α := Value × Mem × Mem × Option (LN)) (fun y => [(0, (vP pb)), (9, q1), (11, y.1)]) (fun y => y.2.1) (fun y => y.2.2.1) (fun y => Prm pb (agS s (anP k.agree sx y.2.2.2 h)) y.2.1 ∧ LsV (y.2.2.1 ++ A) y.1 (agK s (anP k.agree sx y.2.2.2 h)) ∧ By y.2.2.1 q1 sx ∧ anR k h s = anE k.agree sx y.2.2.2 h s) ?_ ?_
  ·
   refine V7 (B := [(b46, blk [v34, v40, v45] 22)]) qP ?_
   refine A1 ?_
   refine A3 (qf_ 4 4) rfl ?_
   refine A3 ql_ rfl ?_
   refine A0 (I8 0 1 5 9 11 48) ?_
   refine C1 rfl ?_ ?_ <;> intro hc
   ·
    refine A1 (mv_ ?_)
    refine A3 (qf_ 5 5) rfl ?_
    refine A3 ql_ rfl ?_
    refine E4 (aS rfl (aS rfl a0)) kR (B2j kb k va vg vq vo vm rs ro rm h.once _ (hK.mono qS) hrise) rfl ?_
    rintro r53 M53 J53 ⟨rfl, q2, rfl, hq2⟩
    haveI := hq2.cel
    refine mv_ ?_
    refine A3 (U6 rfl) rfl ?_
    refine A3 (U0 rfl) rfl ?_
    refine as_ (as_ (A0 (I8 0 5 9 11 12 13) (A6 ?_)))
    cases hog : A12 k.once h.once with
    | none => ?_
    | some ox => ?_
    ·
     refine A1 (mv_ ?_)
     refine A3 (P2 rfl) rfl ?_
     refine A0 (I8 0 5 9 11 12 57) ?_
     refine F3 rfl ?_
     refine A1 (as_ (as_ (as_ (A0 (E0 6 7 8) (A8 (tr (jr ?_)))))))
     exact ⟨_, M45, [], B3y rfl rfl rfl rfl, Fit.none (Fit.last qP), by rw [B0D hsg hc hog]; exact ⟨_, _, rfl, hP45, By.nil, By.nil⟩⟩
    ·
     rw [hog] at hq2
     change By _ q2 ox at hq2
     refine A1 (mv_ ?_)
     refine A3 (P2 rfl) rfl ?_
     refine A0 (I8 0 5 9 11 12 57) ?_
     refine B0 rfl ?_
     refine A5 (nx (H5 0 5 9 11 12) (C8 (mv_ (mv_ (mv_ ?_)))))
     refine A3 (qf_ 2 2) rfl ?_
     refine A3 ql_ rfl ?_
     refine A4 rfl (B3 (Mc := M45) (R := _) (aS rfl (aS rfl (aS rfl (a0)))) kR qP (W9 pb (K0 (K0 (K0 s sx h.ia) k.agree h.key) sx h.key) q2 wk ox h.key M45 _ hP45 qO (hq2.mono qS) (gh.key.mono qS) hG.up) rfl ?_)
     rintro v63 M63 J63 ⟨hP63, h63⟩
     haveI := h63.cel
     refine A4 rfl (C0 (e := 22) (sz := 1) (z := [vS]) kR (eS rfl e0) (bdS 0 1 rfl qR bd0) rfl fun b64 => ?_)
     refine A4 rfl (A20 (e := 22) (sz := 1) (by_ := 24) (xs := [v34, v40, v45]) rfl rfl kR rfl (Rd.whole (n := 3) At.mem qR) (Rd.whole (n := 1) At.mem qR) qD qD qD rfl fun v65 B65 hs65 => ?_)
     haveI := hs65.cel
     refine A1t (B := B65) qP ?_
     refine as_ (E3 ?_)
     exact jn (v65, M63, _, some ox) ⟨hP63, ⟨[v34, v40, v45] ++ [v63], hs65.rd qS, Lst.cons (h34.mono qS) (Lst.cons (h40.mono qS) (Lst.cons (h45.mono qS) (Lst.cons (h63.mono qS) Lst.nil)))⟩, hq1.mono qS, B0E hsg hc hog⟩ (E0 0 9 11) (Fit.last qP) qI
   ·
    refine A5 ?_
    exact jn (.slice (some ⟨b46, 0, none⟩) 3 3, M45, _, none) ⟨hP45, ⟨[v34, v40, v45], Rd.whole (n := 3) At.mem qR, Lst.cons (h34.mono qS) (Lst.cons (h40.mono qS) (Lst.cons (h45.mono qS) Lst.nil))⟩, hq1.mono qS, A8x hsg hc⟩ (E0 0 9 11) (Fit.last qP) qI
  ·
   rintro ⟨lv, MJ, J9, xo⟩ ⟨hPJ, hLJ, hqJ, hR⟩
   dsimp only at hPJ hLJ hqJ hR ⊢
   haveI := hLJ.cel
   have hzl : (agK s (anP k.agree sx xo h)).length ≤ 4 := by rw [A3R]; unfold anP; split <;> simp
   have hzs := A3Q (anP k.agree sx xo h) s
   have hz0 : (anP k.agree sx xo h).length ≤ 4 := by unfold anP; split <;> simp
   refine A1 (mv_ (mv_ ?_))
   refine A4 rfl (B3 (Mc := MJ) (R := _) (aS rfl (aS rfl (a0))) kR qP (A1z pb _ lv _ MJ _ hPJ (hLJ.mono qS) qO qO hG.up) rfl ?_)
   rintro v68 M68 J68 ⟨hP68, h68⟩
   haveI := h68.cel
   refine mv_ (as_ (as_ (as_ (A0 (E0 6 7 8) (A8 ?_)))))
   exact ⟨_, M68, [], B3y rfl rfl rfl rfl, Fit.none (Fit.last qP), by rw [hR]; exact ⟨_, _, rfl, hP68, h68.mono qS, hqJ.mono qS⟩⟩

theorem C2 (pre vs post : List Value) : ∀ (j : Nat) v, vs[j]? = some v → (pre ++ (vs ++ post))[pre.length + j]? = some v := fun j v h => by
  rw [List.getElem?_append_right qO, Nat.add_sub_cancel_left, List.getElem?_append_left (List.getElem?_eq_some_iff.1 h).1]
  exact h
def fl1 (b : Bool) : Nat := if b then 1 else 0
def wFl (ws : LN) (b : Bool) : LN := ws ++ beN (fl1 b) 1
def wB4 (ws w : LN) : LN := ws ++ beN w.length 4 ++ w
def wN4 (ws : LN) (n : Nat) : LN := ws ++ beN n 4
def whW (ws : LN) (u d : Int) : LN := wN4 (wN4 ws (u32N u)) (u32N d)
def idW (ws a g : LN) : LN := wB4 (wB4 ws a) g
def heF (ws : LN) (h : He) : LN := wFl (wN4 (wB4 (idW ws h.ia h.ig) h.key) h.signed) h.has
def heW (ws : LN) (h : He) : LN := if h.has then wN4 (heF ws h) h.once else heF ws h
theorem S9 (ws : LN) (b : Bool) : (wFl ws b).length = ws.length + 1 := by simp [wFl, G6]
theorem Q4 (ws w : LN) : (wB4 ws w).length = ws.length + w.length + 4 := by simp [wB4, G6]; omega
theorem Q5 (ws : LN) (n : Nat) : (wN4 ws n).length = ws.length + 4 := by simp [wN4, G6]
theorem T0 (ws : LN) (u d : Int) : (whW ws u d).length = ws.length + 8 := by simp [whW, Q5]
theorem U8 (ws a g : LN) : (idW ws a g).length = ws.length + a.length + g.length + 8 := by simp [idW, Q4]; omega
theorem A6S (ws : LN) (h : He) : (heF ws h).length = ws.length + h.ia.length + h.ig.length + h.key.length + 17 := by simp [heF, S9, Q5, Q4, U8]; omega
theorem A6T (ws : LN) (h : He) : (heW ws h).length ≤ ws.length + h.ia.length + h.ig.length + h.key.length + 21 := by
  have h1 := A6S ws h
  unfold heW
  split
  · rw [Q5]; omega
  · omega
structure Ev where
  fu : Int
  fd : Int
  tu : Int
  td : Int
  ses : LN
  has : Bool
  he : He
  hk : LN
  hp : Nat
  hn : Nat
  g : LN
def frF (ws : LN) (x : Ev) : LN := wFl (wB4 (whW (whW ws x.fu x.fd) x.tu x.td) x.ses) x.has
def frW (ws : LN) (x : Ev) : LN := if x.has then heW (frF ws x) x.he else frF ws x
theorem A6U (ws : LN) (x : Ev) : (frF ws x).length = ws.length + x.ses.length + 21 := by simp [frF, S9, Q4, T0]; omega
def evC (vs p r u vk vg : Value) (x : Ev) : List Value := [.int .i64 x.fu, .int .i64 x.fd, .int .i64 x.tu, .int .i64 x.td, vs, .bool x.has, p, r, u, (vU x.he.signed), .bool x.he.has, (vU x.he.once), vk, (vU x.hp), (vU x.hn), vg]
structure EvR (R : Mem) (x : Ev) (vs p r u vk vg : Value) : Prop where
  ses : By R vs x.ses
  he : HeR R x.he p r u
  hil : x.he.ig.length ≤ 1000000
  hk : By R vk x.hk
  g : By R vg x.g
  hp : x.hp < 4294967296
  hn : x.hn < 4294967296
theorem EvR.mono {R R' : Mem} {x : Ev} {vs p r u vk vg : Value} (h : EvR R x vs p r u vk vg) (hR : ∀ z, z ∈ R → z ∈ R') : EvR R' x vs p r u vk vg := ⟨h.ses.mono hR, h.he.mono hR, h.hil, h.hk.mono hR, h.g.mono hR, h.hp, h.hn⟩
theorem A6V (wb : Nat) (b : Bool) (ws : LN) (MW A : Mem) (hW : Wtr wb ws MW) (hl : ws.length ≤ 100000000) : FnX Tryz.prog 138 [(vP wb), .bool b] MW A fun q M J => q = (vP wb) ∧ Wtr wb (wFl ws b) M := by
 refine FnX.enterZ (N := 10) Tryz.func138 rfl rfl rfl fun w_ => ?_
 refine A7 (C7 0 1) (A1 (as_ (A0 (C7 0 1) (A6 (A1 (mv_ (A0 (C7 0 5) ?_)))))))
 refine C1 rfl ?_ ?_ <;> intro hc
 ·
  obtain rfl : b = true := hc
  refine A1 (mv_ ?_)
  refine A4 rfl (B3 (Mc := MW) (R := _) (aS rfl (aS rfl (aS rfl a0))) kR qP (K5 wb 1 1 ws MW _ hW qD qD qO) rfl ?_)
  rintro v7 M7 J7 ⟨rfl, hW7⟩
  refine as_ (A0 (C9 4) (A8 (tr ?_)))
  exact ⟨_, M7, [], G5 rfl rfl, Fit.none (Fit.last qP), rfl, hW7⟩
 ·
  obtain rfl : b = false := hc
  refine A5 (nx (C9 0) (A1 (mv_ ?_)))
  refine A4 rfl (B3 (Mc := MW) (R := _) (aS rfl (aS rfl (aS rfl a0))) kR qP (K5 wb 0 1 ws MW _ hW qD qD qO) rfl ?_)
  rintro v9 M9 J9 ⟨rfl, hW9⟩
  refine as_ (A0 (C9 4) (A8 ?_))
  exact ⟨_, M9, [], G5 rfl rfl, Fit.none (Fit.last qP), rfl, hW9⟩
theorem A9v (wb : Nat) (u d : Int) (ws : LN) (MW A : Mem) (hW : Wtr wb ws MW) (hl : ws.length ≤ 50000000) : FnX Tryz.prog 142 [(vP wb), .agg #[.int .i64 u, .int .i64 d]] MW A fun q M J => q = .tuple #[] ∧ Wtr wb (whW ws u d) M := by
 have hu := A6O u
 have hd := A6O d
 refine FnX.enterZ (N := 15) Tryz.func142 rfl rfl rfl fun w_ => ?_
 refine A7 (C7 0 1) (A1 ?_)
 refine A4 rfl (bx_ fun b3 => ?_)
 refine A0 (C7 0 3) ?_
 refine V2 (MW) (_) true (.range 11) [(0, 0), (1, 0), (2, 1), (3, 0), (4, 0), (6, 0), (7, 1), (8, 0), (9, 0), (5, 2), (10, 2)] kR kR qP fun hs K n0 hKm hKs hKn => ?_
 refine km_ hs ?_
 refine E2 hs rfl (qf_ 0 0) rfl ?_
 refine H4 hs rfl hKs ql_ ?_
 refine E2 hs rfl (W2 (k' := .u32) ((u32N u : Nat) : Int) rfl kR (A3a u)) rfl ?_
 refine E2 hs rfl (L0 (k' := .u64) (u32N u) rfl kR (A0H qO)) rfl ?_
 refine E2 hs rfl (qf_ 1 1) rfl ?_
 refine H4 hs rfl hKs ql_ ?_
 refine E2 hs rfl (W2 (k' := .u32) ((u32N d : Nat) : Int) rfl kR (A3a d)) rfl ?_
 refine E2 hs rfl (L0 (k' := .u64) (u32N d) rfl kR (A0H qO)) rfl ?_
 refine F5 _ _ rfl rfl (List.Perm.refl _) hKm fun w0 => (B3 (Mc := MW) (R := _) (aS rfl (aS rfl (aS rfl (a0)))) kR qP (K5 wb (u32N u) 4 _ MW _ hW qO qD (by first | omega | (simp [S9, Q4, Q5, T0, U8, G6]; omega))) rfl ?_)
 rintro v9 M9 J9 ⟨rfl, hW9⟩ hKx9
 refine F5 M9 _ rfl rfl qP (fun x hx => hKx9 (hKn rfl) x (by simpa using hx)) fun w0 => (B3 (Mc := M9) (R := _) (aS rfl (aS rfl (aS rfl (a0)))) kR qP (K5 wb (u32N d) 4 _ M9 _ hW9 qO qD (by first | omega | (simp [S9, Q4, Q5, T0, U8, G6]; omega))) rfl ?_)
 rintro v14 M14 J14 ⟨rfl, hW14⟩ hKx14
 refine A1b ?_
 exact ⟨_, M14, [], A3p rfl, Fit.none (Fit.last qP), rfl, hW14⟩
theorem A8z (wb : Nat) (va vg : Value) (a g ws : LN) (MW A : Mem) (hW : Wtr wb ws MW) (ha : By A va a) (hg : By A vg g) (hl : ws.length ≤ 50000000) : FnX Tryz.prog 137 [(vP wb), .agg #[va, vg]] MW A fun q M J => q = .tuple #[] ∧ Wtr wb (idW ws a g) M := by
 haveI := ha.cel
 haveI := hg.cel
 have hal := ha.len
 have hgl := hg.len
 refine FnX.enterZ (N := 11) Tryz.func137 rfl rfl rfl fun w_ => ?_
 refine A7 (C7 0 1) (A1 ?_)
 refine A4 rfl (bx_ fun b3 => ?_)
 refine A0 (C7 0 3) ?_
 refine V2 (MW) (_) true (.range 7) [(0, 0), (1, 0), (2, 1), (4, 0), (5, 1), (3, 2), (6, 2)] kR kR qP fun hs K n0 hKm hKs hKn => ?_
 refine km_ hs ?_
 refine E2 hs rfl (qf_ 0 0) rfl ?_
 refine H4 hs rfl hKs ql_ ?_
 refine E2 hs rfl (qf_ 1 1) rfl ?_
 refine H4 hs rfl hKs ql_ ?_
 refine F5 _ _ rfl rfl (List.Perm.refl _) hKm fun w0 => (B3 (Mc := MW) (R := _) (aS rfl (aS rfl (a0))) kR qP (I7 wb va a _ MW _ hW (ha.mono qS) (by first | omega | (simp [S9, Q4, Q5, T0, U8, G6]; omega))) rfl ?_)
 rintro v7 M7 J7 ⟨rfl, hW7⟩ hKx7
 refine F5 M7 _ rfl rfl qP (fun x hx => hKx7 (hKn rfl) x (by simpa using hx)) fun w0 => (B3 (Mc := M7) (R := _) (aS rfl (aS rfl (a0))) kR qP (I7 wb vg g _ M7 _ hW7 (hg.mono qS) (by first | omega | (simp [S9, Q4, Q5, T0, U8, G6]; omega))) rfl ?_)
 rintro v10 M10 J10 ⟨rfl, hW10⟩ hKx10
 refine A1b ?_
 exact ⟨_, M10, [], A3p rfl, Fit.none (Fit.last qP), rfl, hW10⟩
theorem A4C (wb : Nat) (h : He) (p r u : Value) (ws : LN) (MW A : Mem) (hW : Wtr wb ws MW) (gh : HeR A h p r u) (hil : h.ig.length ≤ 1000000) (hl : ws.length ≤ 40000000) : FnX Tryz.prog 98 [(vP wb), .agg (heC p r u h).toArray] MW A fun q M J => q = .tuple #[] ∧ Wtr wb (heW ws h) M := by
 haveI := gh.ia.cel
 haveI := gh.ig.cel
 haveI := gh.key.cel
 have hal := gh.ia.len
 have hig := gh.ig.by qO
 have hgl := hig.len
 have hkl := gh.key.len
 have hsl := gh.signed
 have hol := gh.once
 unfold heC
 refine FnX.enterZ (N := 26) Tryz.func98 rfl rfl rfl fun w_ => ?_
 refine A7 (C7 0 1) (A1 ?_)
 refine A4 rfl (bx_ fun b3 => ?_)
 refine A0 (C7 0 3) (A1 (mv_ ?_))
 refine A3 (qf_ 0 0) rfl ?_
 refine A3 (D5 (n := 2) (vs := [p, r]) rfl kR At.mem rfl (C2 [] [p, r] [u, (vU h.signed), .bool h.has, (vU h.once)])) rfl ?_
 refine A4 rfl (B3 (Mc := MW) (R := _) (aS rfl (aS rfl (a0))) kR qP (A8z wb p r h.ia h.ig ws MW _ hW (gh.ia.mono qS) (hig.mono qS) qO) rfl ?_)
 rintro v7 M7 J7 ⟨rfl, hW7⟩
 refine A0 (C7 0 3) ?_
 refine D9 (M7) (_) true (.range 11) [(0, 0), (1, 0), (2, 1), (4, 0), (5, 1), (6, 0), (8, 0), (9, 1), (3, 2), (7, 2), (10, 2)] kR kR qP fun hs K n0 hKm hKs hKn => ?_
 refine km_ hs ?_
 refine E2 hs rfl (qf_ 2 2) rfl ?_
 refine H4 hs rfl hKs ql_ ?_
 refine E2 hs rfl (qf_ 3 3) rfl ?_
 refine H4 hs rfl hKs ql_ ?_
 refine E2 hs rfl (L0 (k' := .u64) (h.signed) rfl kR (A0H qO)) rfl ?_
 refine E2 hs rfl (qf_ 4 4) rfl ?_
 refine H4 hs rfl hKs ql_ ?_
 refine F5 _ _ rfl rfl (List.Perm.refl _) hKm fun w0 => (B3 (Mc := M7) (R := _) (aS rfl (aS rfl (a0))) kR qP (I7 wb u h.key _ M7 _ hW7 (gh.key.mono qS) (by first | omega | (simp [S9, Q4, Q5, T0, U8, G6]; omega))) rfl ?_)
 rintro v11 M11 J11 ⟨rfl, hW11⟩ hKx11
 refine F5 M11 _ rfl rfl qP (fun x hx => hKx11 (hKn rfl) x (by simpa using hx)) fun w0 => (B3 (Mc := M11) (R := _) (aS rfl (aS rfl (aS rfl (a0)))) kR qP (K5 wb (h.signed) 4 _ M11 _ hW11 qO qD (by first | omega | (simp [S9, Q4, Q5, T0, U8, G6]; omega))) rfl ?_)
 rintro v15 M15 J15 ⟨rfl, hW15⟩ hKx15
 refine F5 M15 _ rfl rfl qP (fun x hx => hKx15 (hKn rfl) x (by simpa using hx)) fun w0 => (B3 (Mc := M15) (R := _) (aS rfl (aS rfl (a0))) kR qP (A6V wb h.has _ M15 _ hW15 (by first | omega | (simp [S9, Q4, Q5, T0, U8, G6]; omega))) rfl ?_)
 rintro v18 M18 J18 ⟨rfl, hW18⟩ hKx18
 refine G2 (C7 0 3) ?_
 change Wtr wb (heF ws h) M18 at hW18
 have hfl := A6S ws h
 refine A1 ?_
 refine A3 (qf_ 4 4) rfl ?_
 refine A3 ql_ rfl ?_
 refine A0 (E0 0 3 20) ?_
 refine C1 rfl ?_ ?_ <;> intro hc
 ·
  have hh : h.has = true := hc
  refine C8 (mv_ ?_)
  refine A3 (qf_ 5 5) rfl ?_
  refine A3 ql_ rfl ?_
  refine A3 (L0 (k' := .u64) (h.once) rfl kR (A0H qO)) rfl ?_
  refine A4 rfl (B3 (Mc := M18) (R := _) (aS rfl (aS rfl (aS rfl (a0)))) kR qP (K5 wb h.once 4 _ M18 _ hW18 qO qD qO) rfl ?_)
  rintro v25 M25 J25 ⟨rfl, hW25⟩
  refine E3 ?_
  exact ⟨_, M25, [], A3p rfl, Fit.none (Fit.last qP), rfl, by unfold heW; rw [if_pos hh]; exact hW25⟩
 ·
  have hh : h.has = false := hc
  refine A5 ?_
  exact ⟨_, M18, [], A3p rfl, Fit.none (Fit.last qP), rfl, by unfold heW; rw [if_neg (by rw [hh]; decide)]; exact hW18⟩
theorem B0I (h : He) (p r u : Value) (A : Mem) (gh : HeR A h p r u) (hl : h.ia.length + h.ig.length + h.key.length ≤ 1000000) : FnX Tryz.prog 69 [.agg (heC p r u h).toArray] [] A fun q M J => M = [] ∧ By J q (heW [] h) := by
 haveI := gh.ia.cel
 haveI := gh.ig.cel
 haveI := gh.key.cel
 have hal := gh.ia.len
 have hig := gh.ig.by qO
 have hgl := hig.len
 have hkl := gh.key.len
 have hsl := gh.signed
 have hol := gh.once
 unfold heC
 refine FnX.enterZ (N := 11) Tryz.func69 rfl rfl rfl fun w_ => ?_
 refine A7 (C9 0) (A1 ?_)
 refine A4 rfl (bx_ fun b1 => ?_)
 refine as_ (A0 (C9 1) (A1 ?_))
 refine A3 (D7 (place := fun x => #[(0, 1)][x]?) (z := [vS]) (fun _ => by kernel_rfl) e0 bd0) rfl ?_
 refine A4 rfl (bx_ fun b5 => ?_)
 refine as_ (A0 (C7 1 3) (A1 (mv_ ?_)))
 refine A3 (D5 (n := 6) (vs := [p, r, u, (vU h.signed), .bool h.has, (vU h.once)]) rfl kR At.mem rfl (C2 [] [p, r, u, (vU h.signed), .bool h.has, (vU h.once)] [])) rfl ?_
 refine A4 rfl (B3 (Mc := [(b5, blk [vS] 143)]) (R := _) (aS rfl (aS rfl (a0))) kR qP (A4C b5 h p r u [] _ _ Wtr.new (gh.mono qS) qO qD) rfl ?_)
 rintro v8 M8 J8 ⟨rfl, hW8⟩
 have hwl := A6T [] h
 refine A0 (C9 3) (A1 (mv_ ?_))
 refine A4 rfl (B3 (Mc := M8) (R := _) (aS rfl a0) kR qP (R4 b5 _ M8 _ hW8 (by simp at hwl; omega)) rfl ?_)
 rintro v10 M10 J10 ⟨hW10, h10⟩
 haveI := h10.cel
 refine as_ (A0 (C9 2) (A8 ?_))
 exact ⟨_, [], [], G5 rfl rfl, qZ, rfl, h10.mono qS⟩
theorem A8A (wb : Nat) (x : Ev) (vs p r u vk vg : Value) (ws : LN) (MW A : Mem) (hW : Wtr wb ws MW) (hx : EvR A x vs p r u vk vg) (hl : ws.length ≤ 10000000) : FnX Tryz.prog 103 [(vP wb), .agg (evC vs p r u vk vg x).toArray] MW A fun q M J => q = .tuple #[] ∧ Wtr wb (frW ws x) M := by
 haveI := hx.ses.cel
 haveI := hx.he.ia.cel
 haveI := hx.he.ig.cel
 haveI := hx.he.key.cel
 haveI := hx.hk.cel
 haveI := hx.g.cel
 have hsl := hx.ses.len
 unfold evC
 refine FnX.enterZ (N := 25) Tryz.func103 rfl rfl rfl fun w_ => ?_
 refine A7 (C7 0 1) (A1 ?_)
 refine A4 rfl (bx_ fun b3 => ?_)
 refine A0 (C7 0 3) (A1 (mv_ ?_))
 refine A3 (qf_ 0 0) rfl ?_
 refine A3 (D5 (n := 2) (vs := [.int .i64 x.fu, .int .i64 x.fd]) rfl kR At.mem rfl (C2 [] [.int .i64 x.fu, .int .i64 x.fd] [.int .i64 x.tu, .int .i64 x.td, vs, .bool x.has, p, r, u, (vU x.he.signed), .bool x.he.has, (vU x.he.once), vk, (vU x.hp), (vU x.hn), vg])) rfl ?_
 refine A4 rfl (B3 (Mc := MW) (R := _) (aS rfl (aS rfl (a0))) kR qP (A9v wb x.fu x.fd ws MW _ hW qO) rfl ?_)
 rintro v7 M7 J7 ⟨rfl, hW7⟩
 refine A0 (C7 0 3) (A1 (mv_ ?_))
 refine A3 (qf_ 2 2) rfl ?_
 refine A3 (D5 (n := 2) (vs := [.int .i64 x.tu, .int .i64 x.td]) rfl kR At.mem rfl (C2 [.int .i64 x.fu, .int .i64 x.fd] [.int .i64 x.tu, .int .i64 x.td] [vs, .bool x.has, p, r, u, (vU x.he.signed), .bool x.he.has, (vU x.he.once), vk, (vU x.hp), (vU x.hn), vg])) rfl ?_
 refine A4 rfl (B3 (Mc := M7) (R := _) (aS rfl (aS rfl (a0))) kR qP (A9v wb x.tu x.td _ M7 _ hW7 (by simp [T0]; omega)) rfl ?_)
 rintro v11 M11 J11 ⟨rfl, hW11⟩
 refine A0 (C7 0 3) ?_
 refine D9 (M11) (_) true (.range 7) [(0, 0), (1, 0), (2, 1), (4, 0), (5, 1), (3, 2), (6, 2)] kR kR qP fun hs K n0 hKm hKs hKn => ?_
 refine km_ hs ?_
 refine E2 hs rfl (qf_ 4 4) rfl ?_
 refine H4 hs rfl hKs ql_ ?_
 refine E2 hs rfl (qf_ 5 5) rfl ?_
 refine H4 hs rfl hKs ql_ ?_
 refine F5 _ _ rfl rfl (List.Perm.refl _) hKm fun w0 => (B3 (Mc := M11) (R := _) (aS rfl (aS rfl (a0))) kR qP (I7 wb vs x.ses _ M11 _ hW11 (hx.ses.mono qS) (by first | omega | (simp [S9, Q4, Q5, T0, U8, G6]; omega))) rfl ?_)
 rintro v15 M15 J15 ⟨rfl, hW15⟩ hKx15
 refine F5 M15 _ rfl rfl qP (fun x hx => hKx15 (hKn rfl) x (by simpa using hx)) fun w0 => (B3 (Mc := M15) (R := _) (aS rfl (aS rfl (a0))) kR qP (A6V wb x.has _ M15 _ hW15 (by first | omega | (simp [S9, Q4, Q5, T0, U8, G6]; omega))) rfl ?_)
 rintro v18 M18 J18 ⟨rfl, hW18⟩ hKx18
 refine G2 (C7 0 3) ?_
 change Wtr wb (frF ws x) M18 at hW18
 have hfl := A6U ws x
 refine A1 ?_
 refine A3 (qf_ 5 5) rfl ?_
 refine A3 ql_ rfl ?_
 refine A0 (E0 0 3 20) ?_
 refine C1 rfl ?_ ?_ <;> intro hc
 ·
  have hh : x.has = true := hc
  refine C8 (mv_ ?_)
  refine A3 (qf_ 6 6) rfl ?_
  refine A3 (D5 (n := 6) (vs := [p, r, u, (vU x.he.signed), .bool x.he.has, (vU x.he.once)]) rfl kR At.mem rfl (C2 [.int .i64 x.fu, .int .i64 x.fd, .int .i64 x.tu, .int .i64 x.td, vs, .bool x.has] [p, r, u, (vU x.he.signed), .bool x.he.has, (vU x.he.once)] [vk, (vU x.hp), (vU x.hn), vg])) rfl ?_
  refine A4 rfl (B3 (Mc := M18) (R := _) (aS rfl (aS rfl (a0))) kR qP (A4C wb x.he p r u _ M18 _ hW18 (hx.he.mono qS) hx.hil qO) rfl ?_)
  rintro v24 M24 J24 ⟨rfl, hW24⟩
  refine E3 ?_
  exact ⟨_, M24, [], A3p rfl, Fit.none (Fit.last qP), rfl, by unfold frW; rw [if_pos hh]; exact hW24⟩
 ·
  have hh : x.has = false := hc
  refine A5 ?_
  exact ⟨_, M18, [], A3p rfl, Fit.none (Fit.last qP), rfl, by unfold frW; rw [if_neg (by rw [hh]; decide)]; exact hW18⟩
theorem A6W (ws : LN) (x : Ev) : (frW ws x).length ≤ ws.length + x.ses.length + x.he.ia.length + x.he.ig.length + x.he.key.length + 42 := by
  have h1 := A6U ws x
  have h2 := A6T (frF ws x) x.he
  unfold frW
  split <;> omega
theorem B0J (x : Ev) (vs p r u vk vg : Value) (A : Mem) (hx : EvR A x vs p r u vk vg) (hl : x.ses.length + x.he.ia.length + x.he.ig.length + x.he.key.length ≤ 1000000) : FnX Tryz.prog 75 [.agg (evC vs p r u vk vg x).toArray] [] A fun q M J => M = [] ∧ By J q (frW [] x) := by
 haveI := hx.ses.cel
 haveI := hx.he.ia.cel
 haveI := hx.he.ig.cel
 haveI := hx.he.key.cel
 haveI := hx.hk.cel
 haveI := hx.g.cel
 have hsl := hx.ses.len
 unfold evC
 refine FnX.enterZ (N := 11) Tryz.func75 rfl rfl rfl fun w_ => ?_
 refine A7 (C9 0) (A1 ?_)
 refine A4 rfl (bx_ fun b1 => ?_)
 refine as_ (A0 (C9 1) (A1 ?_))
 refine A3 (D7 (place := fun x => #[(0, 1)][x]?) (z := [vS]) (fun _ => by kernel_rfl) e0 bd0) rfl ?_
 refine A4 rfl (bx_ fun b5 => ?_)
 refine as_ (A0 (C7 1 3) (A1 (mv_ ?_)))
 refine A3 (D5 (n := 16) (vs := [.int .i64 x.fu, .int .i64 x.fd, .int .i64 x.tu, .int .i64 x.td, vs, .bool x.has, p, r, u, (vU x.he.signed), .bool x.he.has, (vU x.he.once), vk, (vU x.hp), (vU x.hn), vg]) rfl kR At.mem rfl (C2 [] [.int .i64 x.fu, .int .i64 x.fd, .int .i64 x.tu, .int .i64 x.td, vs, .bool x.has, p, r, u, (vU x.he.signed), .bool x.he.has, (vU x.he.once), vk, (vU x.hp), (vU x.hn), vg] [])) rfl ?_
 refine A4 rfl (B3 (Mc := [(b5, blk [vS] 143)]) (R := _) (aS rfl (aS rfl (a0))) kR qP (A8A b5 x vs p r u vk vg [] _ _ Wtr.new (hx.mono qS) qD) rfl ?_)
 rintro v8 M8 J8 ⟨rfl, hW8⟩
 have hwl := A6W [] x
 refine A0 (C9 3) (A1 (mv_ ?_))
 refine A4 rfl (B3 (Mc := M8) (R := _) (aS rfl a0) kR qP (R4 b5 _ M8 _ hW8 (by simp at hwl; omega)) rfl ?_)
 rintro v10 M10 J10 ⟨hW10, h10⟩
 haveI := h10.cel
 refine as_ (A0 (C9 2) (A8 ?_))
 exact ⟨_, [], [], G5 rfl rfl, qZ, rfl, h10.mono qS⟩

def X9 (ws : List (LN)) : LN := (ws.map mark).flatten
theorem A3c {ws : List (LN)} {i : Nat} {w : LN} (h : ws[i]? = some w) : X9 (ws.take (i + 1)) = X9 (ws.take i) ++ mark w := by
  unfold X9; rw [List.take_add_one, h]; simp
theorem A5e {ws : List (LN)} (h : ∀ w ∈ ws, ∀ x ∈ w, x < 256) : ∀ x ∈ X9 ws, x < 256 := by
  intro x hx
  obtain ⟨l, hl, hx⟩ := List.mem_flatten.1 hx
  obtain ⟨w, hw, rfl⟩ := List.mem_map.1 hl
  haveI : B256 w := ⟨h w hw⟩
  have hb : B256 (mark w) := inferInstance
  exact hb.lt x hx
def B0K (ws : List (LN)) : Tm := A7X (X9 ws)
def A5f (s : Ps) (ws : List (LN)) : Ps := { s with ts := add s.ts (B0K ws) }
def A3d (s : Ps) (ws : List (LN)) : LN := bts ((at_ s.ts (B0K ws) : Nat) : Int)
theorem B2s (pb bt bm : Nat) (s : Ps) (hr : s.real = false) (u : Value) (ws : List (LN)) (MP A : Mem) (hP : PrmT pb bt bm s MP) (hn : s.ts.length ≤ 1048576) (hu : LsV A u ws) (hwl0 : ws.length ≤ 1000) (hlt0 : ∀ w ∈ ws, ∀ x ∈ w, x < 256) (hG : Glb A) : FnX Tryz.prog 68 [(vP pb), u] MP A fun q M J => PrmT pb bt bm (A5f s ws) M ∧ By J q (A3d s ws) := by
 obtain ⟨sv, B, MT, rfl, hby, hT⟩ := hP.ex
 haveI := hby.cel
 obtain ⟨ge4, gf4, h4⟩ := hG.pow
 obtain ⟨us, hus, hls⟩ := hu.ex
 haveI := hus.cel
 refine FnX.enterZ (N := 51) Tryz.func68 rfl rfl rfl fun w_ => ?_
 refine A7 (C7 0 1) (A1 (as_ (A0 (C7 0 1) (A6 (A1 (mv_ ?_))))))
 refine A3 (D0 (e := 93) rfl rfl kR) rfl ?_
 refine A0 (E0 0 1 12) ?_
 refine B0 rfl ?_
 refine A5 (nx (C7 0 1) (A6 (A1 (mv_ ?_))))
 refine A3 (D2 rfl) rfl ?_
 refine A3 (qf_ 0 0) rfl ?_
 refine A3 ql_ rfl ?_
 refine A3 (E9 rfl rfl rfl) rfl ?_
 refine A0 (E0 0 1 17) ?_
 refine B0 rfl ?_
 refine A5 (nx (C7 0 1) (A1 (as_ (A0 (E0 0 1 8) (A6 (A1 (mv_ ?_)))))))
 refine A3 (E5 (sz := 1) rfl kR hus) rfl ?_
 refine mv_ (A0 (H5 0 8 32 33 34) (C3 ?_))
 refine H1 (α := Nat) (fun i => [(0, (vP pb)), (8, .string (txt (X9 (ws.take i)))), (32, u), (33, (vI ws.length)), (34, (vI i))]) (fun _ => (pb, blk [.int .u8 1, sv, .int .i64 (((s.n : Nat) : Int)), (vP bt)] 93) :: (B ++ MT)) (fun _ => []) (fun i => i ≤ ws.length ∧ (X9 (ws.take i)).length ≤ i * 16777300) (fun i => ws.length - i) 0 ⟨Nat.zero_le _, Nat.zero_le _⟩ (H5 0 8 32 33 34) .rfl qI ?_
 rintro i ⟨hi, hml⟩
 refine A1 ?_
 refine A3 (E9 rfl rfl rfl) rfl ?_
 refine A0 (I8 0 8 32 33 34 35) (A6 ?_)
 refine C1 rfl ?_ ?_ <;> intro hc
 ·
  have hlt : i < ws.length := by simp at hc; omega
  obtain ⟨w, hw⟩ : ∃ w, ws[i]? = some w := ⟨_, List.getElem?_eq_getElem hlt⟩
  obtain ⟨vi, hvi, hwi⟩ := hls.get i w hw
  haveI := hwi.cel
  have hst := A3c hw
  have hmk := A0p w (by have := hwi.len; omega)
  have hwl := hwi.len
  refine A5 (nx (H5 0 8 32 33 34) (A6 (C3 (A1 ?_))))
  refine A3 (F1 (sz := 1) rfl rfl kR rfl hus hlt) rfl ?_
  refine A3 (W4 (j := i) (u := vi) (hus.mono qS) rfl kR hvi) rfl ?_
  refine as_ (A0 (I8 0 8 10 32 33 34) (C8 (mv_ (mv_ ?_))))
  refine D6 (aS rfl a0) kR (A1p vi w _ (hwi.rd.mono qS) (hb := hwi.b256) qO (mA h4)) rfl ?_
  refine A3 (Z0 (ws := X9 (ws.take i)) (ws' := mark w) rfl rfl rfl rfl (by have : i * 16777300 ≤ 1000 * 16777300 := Nat.mul_le_mul_right _ qO; omega)) rfl ?_
  rw [← hst]
  refine as_ (E3 (nb (nx (H5 0 8 32 33 34) (C8 ?_))))
  refine A3 (K7 ((i + 1 : Nat) : Int) rfl rfl (T4 qO qO qO)) rfl ?_
  refine mv_ (E3 ?_)
  exact rn (i + 1) ⟨hlt, by rw [hst, List.length_append, Nat.add_mul]; omega⟩ qO (H5 0 8 32 33 34) .rfl qI
 ·
  have hge : i = ws.length := by simp at hc; omega
  subst hge
  rw [List.take_length] at hml ⊢
  refine H0 (te (re (be rfl (nx (C7 0 8) (A1 (mv_ ?_))))))
  refine A3 (D2 rfl) rfl ?_
  refine A3 (qf_ 3 3) rfl ?_
  refine A3 ql_ rfl ?_
  refine mv_ ?_
  refine A3 (D7 (place := fun x => #[(0, 1), (1, 1), (2, 1), (3, 1)][x]?) (z := [.int .u8 0, vS, .string ByteArray.empty, .int .i64 0]) (fun _ => by kernel_rfl) (eS rfl (eS rfl e0)) (bdS 0 1 rfl qR (bdS 2 1 rfl qR bd0))) rfl ?_
  refine A4 rfl (B3 (Mc := MT) (R := _) (aS rfl (aS rfl a0)) kR qP (L1 bt bm s.ts (vS) (B0K ws) MT _ hT hn Rd.nil (A0C (A5e hlt0) (by have : ws.length * 16777300 ≤ 1000 * 16777300 := Nat.mul_le_mul_right _ hwl0; omega)) (mA h4)) rfl ?_)
  rintro v49 M49 J49 ⟨rfl, rfl, hT49⟩
  refine A4 rfl (I5 (aS rfl a0) kR (N6 _ _) rfl ?_)
  rintro v50 M50 J50 ⟨rfl, h50⟩
  refine as_ (A0 (C9 4) (A8 ?_))
  exact ⟨_, (pb, blk [.int .u8 1, sv, .int .i64 (((s.n : Nat) : Int)), (vP bt)] 93) :: (B ++ M49), [], G5 rfl rfl, (Fit.none (Fit.pick (B := [_]) qP (Fit.pick qP (Fit.last qP)))), ⟨sv, B, M49, rfl, hby, hT49⟩, h50.mono qS⟩

theorem A6X (a b : LN) : mark a ++ mark b = X1 [a, b] := by simp [X1]
theorem A8B (bt bm : Nat) (ts : List Tm) (v : Value) (w : LN) (j : Nat) (MT A : Mem) (hT : Tab bt bm ts MT) (hsub : ∀ x, x ∈ MT → x ∈ A) (hn : ts.length ≤ 1048576) (hv : By A v w) (hj : plc w ts.length = some j) : FnV Tryz.prog 91 [(vP bt), v] A (vI j) := by
 haveI := hv.cel
 refine FnX.enter (N := 20) Tryz.func91 rfl rfl rfl fun w_ => ?_
 refine A7 (C7 0 1) (A1 (as_ (A0 (C7 0 1) (A6 (A1 (mv_ (mv_ ?_)))))))
 refine D6 (aS rfl (aS rfl a0)) kR (V6 bt bm ts v w MT _ hT (fun x hx => qS _ (hsub x hx)) hn (hv.rd.mono qS) hv.lt hv.max) rfl ?_
 rw [hj, Option.getD_some, Option.isSome_some]
 refine mv_ ?_
 refine A3 (U6 rfl) rfl ?_
 refine A3 (U0 rfl) rfl ?_
 refine as_ (as_ (A0 (F2 0 1 5 6) (A1 (mv_ (A0 (F2 0 1 5 13) ?_)))))
 refine F3 rfl ?_
 refine A1 (mv_ (as_ (A0 (C9 4) (A8 (tr ?_)))))
 exact ⟨_, [], [], G5 rfl rfl, List.nil_sublist _, by simp, rfl, rfl, rfl⟩
theorem A8C (pb bt bm : Nat) (m k : Int) (sv : Value) [hsv : Cel sv [sv]] (ts : List Tm) (v : Value) (w : LN) (j : Nat) (MT A : Mem) (hT : Tab bt bm ts MT) (hsub : ∀ x, x ∈ MT → x ∈ A) (hpb : (pb, blk [.int .u8 m, sv, .int .i64 k, (vP bt)] 93) ∈ A) (hn : ts.length ≤ 1048576) (hv : By A v w) (hj : plc w ts.length = some j) : FnV Tryz.prog 60 [(vP pb), v] A (vI j) := by
 haveI := hv.cel
 refine FnX.enter (N := 11) Tryz.func60 rfl rfl rfl fun w_ => ?_
 refine A7 (C7 0 1) (A1 (as_ (A0 (C7 0 1) (A1 (mv_ ?_)))))
 refine A3 (D2 rfl) rfl ?_
 refine A3 (qf_ 3 3) rfl ?_
 refine A3 (G7 rfl kR (mA hpb) qR) rfl ?_
 refine mv_ ?_
 refine D6 (aS rfl (aS rfl a0)) kR (A8B bt bm ts v w j MT _ hT (fun x hx => qS _ (hsub x hx)) hn (hv.mono qS) hj) rfl ?_
 refine as_ (A0 (C9 4) (A8 ?_))
 exact ⟨_, [], [], G5 rfl rfl, List.nil_sublist _, by simp, rfl, rfl, rfl⟩

theorem A0d (v : Value) (w : LN) (A : Mem) (h : By A v w) : FnX Tryz.prog 109 [v] [] A fun r M J => M = [] ∧ By J r w := by
 haveI := h.cel
 have hwl := h.len
 refine FnX.enterZ (N := 8) Tryz.func109 rfl rfl rfl fun w_ => ?_
 refine A7 (C9 0) (A1 (as_ (A0 (C9 0) (A6 (A1 (mv_ ?_))))))
 refine A3 (V4 (e := 5) rfl kR (by first | assumption | exact Sl.rd (by assumption) qI | exact By.rd (by assumption))) rfl ?_
 refine A0 (C7 0 4) ?_
 refine C1 rfl ?_ ?_ <;> intro hc
 ·
  have h0 := h.rd.isNil hc
  obtain rfl : w = [] := List.eq_nil_of_length_eq_zero h0
  refine A1 (as_ (A0 (C9 2) (A8 (tr ?_))))
  exact ⟨_, [], [], G5 rfl rfl, qZ, rfl, By.nil⟩
 ·
  refine A5 (nx (C9 0) (A1 ?_))
  refine A4 rfl (C0 (e := 5) (sz := 1) (z := []) kR e0 bd0 rfl fun b5 => ?_)
  refine mv_ ?_
  refine A4 rfl (F9 (e := 5) (sz := 1) (by_ := 1) rfl rfl kR rfl (Sl.fresh (n := 0) (cs := []) (e := 5) rfl qD) (h.rd.mono qS) T8 qP (by unfold maxLen; omega) qO rfl fun v7 B7 hs7 => ?_)
  refine as_ (A0 (C9 2) (A8 ?_))
  exact ⟨_, [], B7, G5 rfl rfl, Fit.pick qP qZ, rfl, ⟨A3x (hs7.rd fun x hx => by simp [hx]) qO qM, h.lt, h.len⟩⟩
theorem A5g (v : Value) (rows : List (List Value)) (f : FuncId) (cs : List Value) (p : Nat → Bool) (A : Mem) (hv : Rd A 3 v rows.length rows.flatten) (hl : ∀ r ∈ rows, r.length = 3) (hn : rows.length ≤ 1099511627776) (hc_ : H3 Tryz.prog f = true) (hf : ∀ (j : Nat) (r : List Value), rows[j]? = some r → FnV Tryz.prog f (.agg r.toArray :: cs) A (.bool (p j))) : FnV Tryz.prog 145 [v, .func (.func f) #[] cs.toArray] A (.int .i64 (A2F p rows.length)) := by
 haveI := hv.cel
 refine FnX.enter (N := 19) Tryz.func145 rfl rfl rfl fun w => ?_
 refine A7 (C7 0 1) (A1 (as_ (A0 (C7 0 1) (A6 (A1 (mv_ ?_))))))
 refine A3 (E5 (sz := 3) rfl kR hv) rfl ?_
 refine mv_ (A0 (F2 0 1 7 8) (C3 ?_))
 refine H1 (α := Nat) (fun i => [(0, v), (1, .func (.func f) #[] cs.toArray), (7, (vI rows.length)), (8, .int .i64 (i : Int))]) (fun _ => []) (fun _ => []) (fun i => i ≤ rows.length ∧ ∀ j, j < i → p j = false) (fun i => rows.length - i) 0 ⟨Nat.zero_le _, fun j h => absurd h (Nat.not_lt_zero j)⟩ (F2 0 1 7 8) .rfl qI ?_
 rintro i ⟨hi, hp⟩
 refine A1 ?_
 refine A3 (E9 rfl rfl rfl) rfl ?_
 refine A0 (H5 0 1 7 8 9) (A6 ?_)
 refine C1 rfl ?_ ?_ <;> intro hc
 ·
  have hlt : i < rows.length := by simp at hc; omega
  obtain ⟨r, hr⟩ : ∃ r, rows[i]? = some r := ⟨_, List.getElem?_eq_getElem hlt⟩
  refine A5 (nx (F2 0 1 7 8) (A6 (C3 (A1 (mv_ (as_ (A0 (H5 0 1 5 7 8) (A1 ?_))))))))
  refine mv_ (mv_ (mv_ ?_))
  refine A3 (F1 (sz := 3) rfl rfl kR rfl hv hlt) rfl ?_
  refine A3 (U1 rfl kR (hv.mono qS) hl qD hr) rfl ?_
  refine A4 rfl (W8 rfl (aS rfl a0) hc_ (hf i r hr) rfl ?_)
  refine A0 (I8 0 1 5 7 8 16) ?_
  refine C1 rfl ?_ ?_ <;> intro hc
  ·
   refine A1 (mv_ (as_ (A0 (C9 4) (A8 (br (tr (rr (br ?_))))))))
   refine tr ?_
   exact ⟨_, [], [], G5 rfl rfl, List.nil_sublist _, by simp, by rw [S5 hlt hp hc], rfl, rfl⟩
  ·
   refine A5 (nb (nx (F2 0 1 7 8) (C8 ?_)))
   refine A3 (H6 (b := 1) rfl rfl rfl rfl qO) rfl ?_
   refine mv_ (E3 ?_)
   exact rn (i + 1) ⟨hlt, fun j hj => by rcases Nat.lt_succ_iff_lt_or_eq.1 hj with h | h; exact hp j h; rw [h]; exact hc⟩ qO (F2 0 1 7 8) .rfl qI
 ·
  have hge : i = rows.length := by simp at hc; omega
  subst hge
  refine H0 (te (re (be rfl (nx kn (A1 (as_ (A0 (C9 4) ?_)))))))
  refine A8 ?_
  exact ⟨_, [], [], G5 rfl rfl, List.nil_sublist _, by simp, by rw [S6 hp], rfl, rfl⟩
theorem A1A (b o cap n i j : Nat) (cs xs : List Value) (e : TypeId) (A : Mem) (hn : n ≤ cap) (hcap : cap ≤ maxLen) (hfit : o + cap * 3 ≤ cs.length) (hl : xs.length = n * 3) (hx : ∀ j u, xs[j]? = some u → cs[o + j]? = some u)
    (h1 : ∀ c ∈ xs, c.oneCell' = true) (hij : i < j) (hjn : j ≤ n) :
    FnX Tryz.prog 114 [.slice (some ⟨b, o, none⟩) n cap, .int .i64 i, .int .i64 j] [(b, blk cs e)] A
      fun v M J => J = [] ∧ Sl 3 v (n - (j - i)) (xs.take (i * 3) ++ xs.drop (j * 3)) M := by
  refine FnX.enter (N := 33) Tryz.func114 rfl rfl rfl fun w => ?_
  refine A7 (E0 0 1 2) (A1 (as_ (A0 (E0 0 1 2) (A1 (mv_ (mv_ (mv_ (mv_ ?_))))))))
  refine A3 (V1 (e := 190) rfl kR) rfl ?_
  refine A3 (A1a (e := 190) (sz := 3) rfl kR kR (o1 i rfl rfl) (o1 j rfl rfl) (o1 n rfl rfl) qM (by simp; omega) (by simp; omega) (by simp; omega)) rfl ?_
  refine A0 (E0 0 1 2) (A6 (A1 (mv_ (mv_ ?_))))
  refine A3 (E9 rfl rfl rfl) rfl ?_
  refine A0 (F2 0 1 2 16) ?_
  refine C1 rfl ?_ ?_ <;> intro hc
  ·
    simp at hc; omega
  ·
    refine A5 (nx (E0 0 1 2) (A1 (mv_ ?_)))
    refine A3 (V1 (e := 190) rfl kR) rfl ?_
    refine as_ (A0 (F2 0 1 2 7) ?_)
    refine A5v ([]) [] [(0, 0), (1, 0), (2, 0), (3, 0), (4, 0), (5, 0), (6, 2), (7, 0)] kR kR qM fun hs => ?_
    refine A32 hs rfl qm_ rfl ?_
    refine A32 hs rfl qm_ rfl ?_
    refine A32 hs rfl (A2L (h := i) (e := 190) (sz := 3) rfl rfl kR kR rfl qO) rfl ?_
    refine A32 hs rfl qm_ rfl ?_
    refine A32 hs rfl qm_ rfl ?_
    refine A32 hs rfl (A33 (h := j) (e := 190) (sz := 3) rfl rfl kR kR rfl qO qO) rfl ?_
    refine B1n rfl rfl rfl (A2K (e := 190) (sz := 3) (by_ := 56) (m := n - j) (cs := cs) rfl rfl kR ((Rd.lo ⟨_, cap, rfl, hl, hn, .inr ⟨b, o, cs, e, (0, 0), rfl, m0, hx⟩⟩ j hjn)) (fun c hc => h1 c (List.mem_of_mem_drop hc)) qO hfit rfl UpC.upd rfl ?_)
    refine A32 hs rfl (E8 rfl) rfl ?_
    refine A80 (C7 0 7) ?_
    refine A1 (mv_ (mv_ ?_))
    refine A3 (V1 (e := 190) rfl kR) rfl ?_
    refine mv_ ?_
    refine A3 (A5y (lo := i + (n - j)) (hi := n) (e := 190) (sz := 3) rfl rfl rfl kR kR rfl rfl qO qO qO) rfl ?_
    refine A4 rfl (A3s (e := 190) (sz := 3) (by_ := 56) (zs := (Builtin.zeroCells #[vS, .int .u32 0, vS] (n - (i + (n - j)))).toList) rfl kR kR (W1 (by simp [Value.oneCell']) qM _) ?h1 rfl UpC.upd ?_)
    case h1 => simp [hl]; omega
    refine A0 (C9 0) (A1 (mv_ (as_ (A0 (C9 6) (A8 ?_)))))
    refine ⟨_, _, [], G5 rfl rfl, List.Sublist.refl _, by simp, rfl, ?_⟩
    show Sl 3 _ (n - (j - i)) _ _
    rw [show n - (j - i) = i + (n - j) from by omega]
    have hd : (xs.drop (j * 3)).length = (n - j) * 3 := by simp [hl]; omega
    refine .inr ⟨b, o, cap, _, e, rfl, rfl, by omega, hcap, ?_, ?_, ?_⟩
    · simp [hl, Builtin.zeroCells]; omega
    · simp [hl]; omega
    · intro q u hq
      have hlt : q < (i + (n - j)) * 3 := by have := (List.getElem?_eq_some_iff.1 hq).1; simp [hl] at this; omega
      rw [N8 (by simp [hl]; omega) qO]
      by_cases hqi : q < i * 3
      · rw [N8 qO qO]
        rw [List.getElem?_append_left (by simp [hl]; omega), List.getElem?_take_of_lt hqi] at hq
        exact hx q u hq
      · rw [P4 qO qO qO]
        rw [List.getElem?_append_right (by simp [hl]; omega)] at hq
        rw [← hq]
        congr 1
        simp [hl]; omega
theorem A5h (v : Value) (n : Nat) (xs : List Value) (A : Mem) (h : Rd A 3 v n xs) (h1 : ∀ c ∈ xs, c.oneCell' = true) (hn : n ≤ 1099511627776) : FnX Tryz.prog 172 [v] [] A fun r M J => Sl 3 r n xs M := by
 haveI := h.cel
 refine FnX.enterZ (N := 8) Tryz.func172 rfl rfl rfl fun w_ => ?_
 refine A7 (C9 0) (A1 (as_ (A0 (C9 0) (A6 (A1 (mv_ ?_))))))
 refine A3 (V4 (e := 190) rfl kR (by first | assumption | exact Sl.rd (by assumption) qI | exact By.rd (by assumption))) rfl ?_
 refine A0 (C7 0 4) ?_
 refine C1 rfl ?_ ?_ <;> intro hc
 ·
  have h0 := h.isNil hc
  subst h0
  obtain rfl : xs = [] := List.eq_nil_of_length_eq_zero (by have := h.len; omega)
  refine A1 (as_ (A0 (C9 2) (A8 (tr ?_))))
  exact ⟨_, [], [], G5 rfl rfl, qZ, Sl.nil⟩
 ·
  refine A5 (nx (C9 0) (A1 ?_))
  refine A4 rfl (C0 (e := 190) (sz := 3) (z := []) kR e0 bd0 rfl fun b5 => ?_)
  refine mv_ ?_
  refine A4 rfl (F9 (e := 190) (sz := 3) (by_ := 56) rfl rfl kR rfl (Sl.fresh (n := 0) (cs := []) (e := 190) rfl qD) (Rd.mono h qS) h1 qP (by unfold maxLen; omega) qO rfl fun v7 B7 hs7 => ?_)
  refine as_ (A0 (C9 2) (A8 ?_))
  exact ⟨_, B7, [], G5 rfl rfl, Fit.none (Fit.last qP), by simpa using hs7⟩

end Go.Proofs.YtpemeceacdhacaaGreatDoor
