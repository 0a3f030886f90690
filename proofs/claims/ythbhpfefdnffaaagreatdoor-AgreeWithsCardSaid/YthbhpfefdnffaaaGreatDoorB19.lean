/- Part 19 of the texts of this claim, one behind the other. -/
import Derived.Test.YthbhpfefdnffaaaGreatDoorB18
set_option linter.unusedVariables false
set_option linter.unusedSimpArgs false
set_option maxRecDepth 100000
namespace Go.Proofs.YthbhpfefdnffaaaGreatDoor
open Go.Px
theorem A6I (x : Int) : IntKind.u64.wrap x = ((u64N x : Nat) : Int) := by
  unfold u64N IntKind.wrap
  simp [IntKind.signed, IntKind.bits]
  omega
theorem B2e (x : Int) : u64N x < 18446744073709551616 := by unfold u64N; omega
theorem B9K (x : Int) : beN (u64N x) 4 = beN (u32N x) 4 := by
  unfold beN bes
  refine List.map_congr_left fun j hj => ?_
  have := List.mem_range.1 hj
  unfold u64N u32N
  rcases (by omega : j = 0 ∨ j = 1 ∨ j = 2 ∨ j = 3) with rfl | rfl | rfl | rfl <;> simp only [Nat.reducePow, Nat.reduceSub, Nat.reduceMul] <;> omega
def wiN (u d : Int) (a g : List Nat) : List Nat := beN (u64N u) 4 ++ beN (u64N d) 4 ++ (beN a.length 4 ++ a) ++ (beN g.length 4 ++ g)
theorem B7S (u d : Int) (a g : List Nat) : (wiN u d a g).length = a.length + g.length + 16 := by simp [wiN, P8]; omega
theorem B9L {s : Ps} {l : List (List Nat)} : (A9e s z32 l A1Y 1) = [seK s l] := by
  have h := B1A s z32 l A1Y 1
  unfold seK
  match h2 : A9e s z32 l A1Y 1, h with
  | [x], _ => rfl
theorem B9M (A : Mem) : FnX Tryz.prog 106 [] [] A fun q M J => M = [] ∧ By J q z32 := by
 refine FnX.enterZ (N := 2) Tryz.func106 rfl rfl rfl fun w_ => ?_
 refine C3 kn (A3 (as_ (A0 kn (A3 ?_))))
 refine A6 rfl (A26 (by_ := 1) (k := .u8) (e := 5) 32 rfl rfl kR rfl rfl (by decide) (by decide) rfl fun b1 => ?_)
 refine as_ (A0 (D5 0) (C1 ?_))
 exact ⟨_, [], [(b1, blk (nums .u8 z32) 5)], I2 rfl rfl, Fit.eq (by simp [z32]), rfl, ⟨Rd.whole (n := 32) List.mem_cons_self (by rfl), by decide, by decide⟩⟩
theorem A3J (pb : Nat) (s : Ps) (lv : Value) (l : List (List Nat)) (MP A : Mem) (hP : Prm pb s MP) (hl : LsV A lv l) (hll : l.length ≤ 1000) (hn : s.ts.length ≤ 1040000) (hG : Glb A) : FnX Tryz.prog 62 [.pointer (some ⟨pb, 0, none⟩), lv] MP A fun q M J => Prm pb (seS s l) M ∧ By J q (seK s l) := by
 haveI := hl.cel
 refine FnX.enterZ (N := 16) Tryz.func62 rfl rfl rfl fun w_ => ?_
 refine C3 (D4 0 1) (A3 (as_ (A0 (D4 0 1) (A3 (mv_ ?_)))))
 refine C8 a0 kR (B9M _) rfl ?_
 rintro v7 M7 J7 ⟨rfl, h7⟩
 haveI := h7.cel
 refine mv_ ?_
 refine A6 rfl (E1 (Mc := MP) (R := _) (aS rfl (aS rfl (aS rfl (aS rfl (aS rfl a0))))) kR PickC.perm (A7b pb s v7 lv z32 A1Y l 1 MP _ hP (h7.mono SubC.sub) (hl.mono SubC.sub) hll A5s (by decide) (by decide) (by decide) hn hG.up) rfl ?_)
 rintro v9 M9 J9 ⟨hP9, hL9⟩
 haveI := hL9.cel
 rw [B9L] at hL9
 obtain ⟨us, hru, hul⟩ := hL9.ex
 change Rd J9 1 v9 1 us at hru
 obtain ⟨u, hu, hub⟩ := hul.at (show 0 < [seK s l].length from Nat.zero_lt_one)
 haveI := hub.cel
 change By J9 u (seK s l) at hub
 change Prm pb (seS s l) M9 at hP9
 refine as_ (A0 (D5 5) (A5 (A3 (mv_ ?_))))
 refine A4 (H5 (sz := 1) rfl kR hru) rfl ?_
 refine A4 (G5 false rfl rfl (eqF (by decide))) rfl ?_
 refine A0 (D4 5 12) ?_
 refine D6 rfl ?_
 refine A9 (nx (D5 5) (A3 (mv_ ?_)))
 refine A4 (K5 (sz := 1) (a := 0) rfl rfl kR rfl hru (by decide)) rfl ?_
 refine A4 (A05 (u := u) (hru.mono SubC.sub) rfl kR hu) rfl ?_
 refine as_ (A0 (D5 4) (C1 ?_))
 exact ⟨_, M9, [], I2 rfl rfl, Fit.none (Fit.last PickC.perm), hP9, hub.mono SubC.sub⟩
theorem A8R (va vb vc vd : Value) (a b c d : List Nat) (A : Mem) (ga : By A va a) (gb : By A vb b) (gc : By A vc c) (gd : By A vd d) : FnV Tryz.prog 25 [.agg #[va, vb], .agg #[vc, vd]] A (.bool (decide (a = c) && decide (b = d))) := by
 haveI := ga.cel
 haveI := gb.cel
 haveI := gc.cel
 haveI := gd.cel
 refine FnX.enter (N := 17) Tryz.func25 rfl rfl rfl fun w => ?_
 refine C3 (D4 0 1) (A3 ?_)
 refine A6 rfl (bx_ fun b2 => ?_)
 refine A6 rfl (bx_ fun b3 => ?_)
 refine as_ (A0 (D4 2 3) (A3 ?_))
 refine A4 (qf_ 0 0) rfl ?_
 refine A4 ql_ rfl ?_
 refine A4 (qf_ 0 0) rfl ?_
 refine A4 ql_ rfl ?_
 refine F6 (aS rfl (aS rfl a0)) kR (A3F va vc a c _ (ga.mono SubC.sub) (gc.mono SubC.sub)) rfl ?_
 refine mv_ ?_
 refine U7 (t := 10) rfl (fun hb => ?_) (fun hb => ?_)
 ·
  refine F0 rfl rfl (OpQ.opL (qf_ 1 1) rfl ?_)
  refine F0 rfl rfl (OpQ.opL ql_ rfl ?_)
  refine F0 rfl rfl (OpQ.opL (qf_ 1 1) rfl ?_)
  refine F0 rfl rfl (OpQ.opL ql_ rfl ?_)
  refine A5M rfl rfl (aS rfl (aS rfl a0)) kR (A3F vb vd b d _ (gb.mono SubC.sub) (gd.mono SubC.sub)) rfl ?_
  refine A4 (G8 rfl rfl) rfl ?_
  refine as_ (A0 (D5 4) (C1 ?_))
  exact ⟨_, [], [], I2 rfl rfl, List.nil_sublist _, by simp, by rw [hb, Bool.true_and], rfl, rfl⟩
 ·
  refine I4 rfl rfl rfl rfl ?_
  refine I4 rfl rfl rfl rfl ?_
  refine I4 rfl rfl rfl rfl ?_
  refine I4 rfl rfl rfl rfl ?_
  refine I4 rfl rfl rfl rfl ?_
  refine A4 (F1 rfl rfl) rfl ?_
  refine as_ (A0 (D5 4) (C1 ?_))
  exact ⟨_, [], [], I2 rfl rfl, List.nil_sublist _, by simp, by rw [hb, Bool.false_and], rfl, rfl⟩
def wiP (u d : Int) (a g : List Nat) (u' d' : Int) (a' g' : List Nat) : Nat → List Nat
  | 0 => []
  | 1 => wiN u d a g
  | _ => wiN u d a g ++ wiN u' d' a' g'
def A0i (u d : Int) (a g : List Nat) (u' d' : Int) (a' g' : List Nat) : List Nat := wiN u d a g ++ wiN u' d' a' g'
theorem B5H (fu fd tu td : Int) (va vg vb vh : Value) (a g b h : List Nat) (A : Mem) (ga : By A va a) (gg : By A vg g) (gb : By A vb b) (gh : By A vh h) (hl : a.length + g.length + b.length + h.length ≤ 1000000) : FnX Tryz.prog 28 [.agg #[.int .i64 fu, .int .i64 fd], .agg #[va, vg], .agg #[.int .i64 tu, .int .i64 td], .agg #[vb, vh]] [] A fun q M J => M = [] ∧ By J q (A0i fu fd a g tu td b h) := by
 haveI := ga.cel
 haveI := gg.cel
 haveI := gb.cel
 haveI := gh.cel
 refine FnX.enterZ (N := 48) Tryz.func28 rfl rfl rfl fun w_ => ?_
 refine C3 (E4 0 1 2 3) (A3 ?_)
 refine A6 rfl (bx_ fun b4 => ?_)
 refine A6 rfl (bx_ fun b5 => ?_)
 refine A6 rfl (bx_ fun b6 => ?_)
 refine A6 rfl (bx_ fun b7 => ?_)
 refine as_ (A0 (E4 4 5 6 7) (A3 ?_))
 refine A4 (F4 (place := fun x => #[(0, 1)][x]?) (z := [.slice none 0 0]) (fun _ => by kernel_rfl) e0 bd0) rfl ?_
 refine A6 rfl (bx_ fun b13 => ?_)
 refine as_ (A0 (F7 4 5 6 7 9) (A5 (A3 ?_)))
 refine A4 (qw_ 2) rfl ?_
 refine A4 (qw_ 2) rfl ?_
 refine A4 (F4 (place := fun x => #[(0, 2), (2, 2)][x]?) (z := [.int .i64 0, .int .i64 0, .slice none 0 0, .slice none 0 0]) (fun _ => by kernel_rfl) (eS rfl (eS rfl e0)) (bdS 0 2 rfl (by rfl) (bdS 2 2 rfl (by rfl) bd0))) rfl ?_
 refine A4 (qw_ 2) rfl ?_
 refine A4 (qw_ 2) rfl ?_
 refine A4 (F4 (place := fun x => #[(0, 2), (2, 2)][x]?) (z := [.int .i64 0, .int .i64 0, .slice none 0 0, .slice none 0 0]) (fun _ => by kernel_rfl) (eS rfl (eS rfl e0)) (bdS 0 2 rfl (by rfl) (bdS 2 2 rfl (by rfl) bd0))) rfl ?_
 refine A6 rfl (C5 (e := 140) (sz := 4) (z := [A6N, A6N, .slice none 0 0, .slice none 0 0, A6N, A6N, .slice none 0 0, .slice none 0 0]) kR (eS rfl (eS rfl e0)) (bdS 0 4 rfl (by rfl) (bdS 4 4 rfl (by rfl) bd0)) rfl fun b20 => ?_)
 refine A4 (A7O (e := 140) rfl kR) rfl ?_
 refine mv_ (A0 (E4 9 20 21 22) (C0 ?_))
 refine A3k (B := [(b20, blk [.int .i64 fu, .int .i64 fd, va, vg, .int .i64 tu, .int .i64 td, vb, vh] 140)]) PickC.perm ?_
 refine F3 (α := Nat × Mem) (fun y => [(9, .pointer (some ⟨b13, 0, none⟩)), (20, .slice (some ⟨b20, 0, none⟩) 2 2), (21, .int .i64 2), (22, .int .i64 ((y.1 : Nat) : Int))]) (fun y => y.2) (fun _ => [(b20, blk [.int .i64 fu, .int .i64 fd, va, vg, .int .i64 tu, .int .i64 td, vb, vh] 140)]) (fun y => y.1 ≤ 2 ∧ Wtr b13 (wiP fu fd a g tu td b h y.1) y.2) (fun y => 2 - y.1) (0, [(b13, blk [.slice none 0 0] 100)]) ⟨Nat.zero_le _, Wtr.new⟩ (E4 9 20 21 22) (Fit.last PickC.perm) SubC.sub ?_
 rintro ⟨i, MW⟩ ⟨hi, hW⟩
 dsimp only at hi hW ⊢
 have hwl : (wiP fu fd a g tu td b h i).length ≤ 2000100 := by
  rcases (by omega : i = 0 ∨ i = 1 ∨ i = 2) with rfl | rfl | rfl <;> simp [wiP, B7S] <;> omega
 refine A3 ?_
 refine A4 (F2 rfl rfl rfl) rfl ?_
 refine A0 (F7 9 20 21 22 23) (A5 ?_)
 refine C6 rfl (fun hc => ?_) (fun hc => ?_)
 ·
  have hlt : i < 2 := by simp at hc; omega
  obtain ⟨u, d, x, z, vx, vz, hr1, hx, hz, hlx, hP⟩ : ∃ u d x z vx vz, ([[.int .i64 fu, .int .i64 fd, va, vg], [.int .i64 tu, .int .i64 td, vb, vh]] : List (List Value))[i]? = some [.int .i64 u, .int .i64 d, vx, vz] ∧ By A vx x ∧ By A vz z ∧ x.length + z.length ≤ 1000000 ∧ wiP fu fd a g tu td b h (i + 1) = wiP fu fd a g tu td b h i ++ wiN u d x z := by
   rcases (by omega : i = 0 ∨ i = 1) with rfl | rfl
   · exact ⟨fu, fd, a, g, va, vg, rfl, ga, gg, by omega, rfl⟩
   · exact ⟨tu, td, b, h, vb, vh, rfl, gb, gh, by omega, rfl⟩
  haveI := hx.cel
  haveI := hz.cel
  have hu64 := B2e u
  have hd64 := B2e d
  refine A9 (nx (E4 9 20 21 22) (A5 (C0 (A3 ?_))))
  refine A4 (K5 (sz := 4) rfl rfl kR rfl (Rd.whole (n := 2) (R := [(b20, blk [.int .i64 fu, .int .i64 fd, va, vg, .int .i64 tu, .int .i64 td, vb, vh] 140)]) List.mem_cons_self (by rfl)) hlt) rfl ?_
  refine A4 (A1a (rows := [[.int .i64 fu, .int .i64 fd, va, vg], [.int .i64 tu, .int .i64 td, vb, vh]]) rfl kR (Rd.whole (n := 2) At.mem (by rfl)) (by intro r hr; simp at hr; rcases hr with rfl | rfl <;> rfl) (by decide) hr1) rfl ?_
  refine A6 rfl (C7 (cs := [.int .i64 0, .int .i64 0, .slice none 0 0, .slice none 0 0]) kR rfl fun b11 => ?_)
  refine A6 rfl (A8 (vs := [.int .i64 u, .int .i64 d, vx, vz]) rfl rfl rfl kR (by rfl) (C4 rfl (C4 rfl (C4 hx.one (C4 hz.one L3)))) UpC.upd ?_)
  refine A0 (F7 9 11 20 21 22) ?_
  refine Z9 (MW) (_) true (.range 19) [(0, 0), (1, 0), (2, 0), (3, 1), (4, 0), (6, 0), (7, 0), (8, 1), (9, 0), (11, 0), (12, 0), (13, 1), (15, 0), (16, 0), (17, 1), (5, 2), (10, 2), (14, 2), (18, 2)] kR kR PickC.perm fun hs K n0 hKm hKs hKn => ?_
  refine km_ hs ?_
  refine I9 hs rfl (qf_ 0 0) rfl ?_
  refine I9 hs rfl (qf_ 0 0) rfl ?_
  refine N5 hs rfl hKs ql_ ?_
  refine I9 hs rfl (A1h (k' := .u64) ((u64N u : Nat) : Int) rfl kR (A6I u)) rfl ?_
  refine I9 hs rfl (qf_ 0 0) rfl ?_
  refine I9 hs rfl (qf_ 1 1) rfl ?_
  refine N5 hs rfl hKs ql_ ?_
  refine I9 hs rfl (A1h (k' := .u64) ((u64N d : Nat) : Int) rfl kR (A6I d)) rfl ?_
  refine I9 hs rfl (qf_ 2 2) rfl ?_
  refine I9 hs rfl (qf_ 2 0) rfl ?_
  refine N5 hs rfl hKs ql_ ?_
  refine I9 hs rfl (qf_ 2 2) rfl ?_
  refine I9 hs rfl (qf_ 3 1) rfl ?_
  refine N5 hs rfl hKs ql_ ?_
  refine I1 _ _ rfl rfl (List.Perm.refl _) hKm fun w0 => (E1 (Mc := MW) (R := _) (aS rfl (aS rfl (aS rfl (a0)))) kR PickC.perm (A1V b13 (u64N u) 4 _ _ _ hW hu64 (by decide) (by omega)) rfl ?_)
  rintro v31 M31 J31 ⟨rfl, hW31⟩ hKx31
  refine I1 M31 _ rfl rfl PickC.perm (fun x hx => hKx31 (hKn rfl) x (by simpa using hx)) fun w0 => (E1 (Mc := M31) (R := _) (aS rfl (aS rfl (aS rfl (a0)))) kR PickC.perm (A1V b13 (u64N d) 4 _ _ _ hW31 hd64 (by decide) (by first | (simp [P8]; done) | (simp [P8]; omega))) rfl ?_)
  rintro v36 M36 J36 ⟨rfl, hW36⟩ hKx36
  refine I1 M36 _ rfl rfl PickC.perm (fun x hx => hKx36 (hKn rfl) x (by simpa using hx)) fun w0 => (E1 (Mc := M36) (R := _) (aS rfl (aS rfl (a0))) kR PickC.perm (A0t b13 vx x _ _ _ hW36 (hx.mono SubC.sub) (by first | (simp [P8]; done) | (simp [P8]; omega))) rfl ?_)
  rintro v40 M40 J40 ⟨rfl, hW40⟩ hKx40
  refine I1 M40 _ rfl rfl PickC.perm (fun x hx => hKx40 (hKn rfl) x (by simpa using hx)) fun w0 => (E1 (Mc := M40) (R := _) (aS rfl (aS rfl (a0))) kR PickC.perm (A0t b13 vz z _ _ _ hW40 (hz.mono SubC.sub) (by first | (simp [P8]; done) | (simp [P8]; omega))) rfl ?_)
  rintro v44 M44 J44 ⟨rfl, hW44⟩ hKx44
  refine A37 (nb (nx (E4 9 20 21 22) (C2 ?_)))
  refine A4 (E0 ((i + 1 : Nat) : Int) rfl rfl (G1 (by omega) (by omega) (by omega))) rfl ?_
  refine mv_ (D0 ?_)
  exact rn (i + 1, M44) ⟨hlt, hW44.eq (by dsimp only; rw [hP]; simp [wiN, List.append_assoc])⟩ (by dsimp only; omega) (E4 9 20 21 22) (Fit.last PickC.perm) SubC.sub
 ·
  have hge : i = 2 := by simp at hc; omega
  subst hge
  refine E5 (te (re (be rfl (nx (D5 9) (A3 (mv_ ?_))))))
  refine A6 rfl (E1 (Mc := MW) (R := _) (aS rfl a0) kR PickC.perm (A4q b13 _ _ _ hW (by omega)) rfl ?_)
  rintro v47 M47 J47 ⟨hW47, h47⟩
  haveI := h47.cel
  refine as_ (A0 (D5 8) (C1 ?_))
  exact ⟨_, [], [], I2 rfl rfl, Fit.sub (List.nil_sublist _), rfl, h47.mono SubC.sub⟩
theorem B2f (pb : Nat) (s : Ps) (b : Bn) (va vg vk vs vo : Value) (MP A : Mem) (hP : Prm pb s MP) (hsub : ∀ x, x ∈ MP → x ∈ A) (har : Ar s.ts) (hn : s.ts.length ≤ 1048576) (ga : By A va b.ia) (gg : By A vg b.ig) (gk : By A vk b.key) (gs : By A vs b.sig) (go : By A vo b.oncek) (hsn : b.signed < 4294967296) (hG : Glb A) : FnV Tryz.prog 21 [.pointer (some ⟨pb, 0, none⟩), .agg #[.int .i64 b.user, .int .i64 b.dev, va, vg, .int .u32 ((b.signed : Nat) : Int), vk, vs, .bool b.has, .int .u32 ((b.once : Nat) : Int), vo]] A (.bool (decide (b.key.length = 32) && B2w s b.ig (A5x b.signed b.key) b.sig)) := by
 haveI := ga.cel
 haveI := gg.cel
 haveI := gk.cel
 haveI := gs.cel
 haveI := go.cel
 have hgl := gk.len
 refine FnX.enter (N := 23) Tryz.func21 rfl rfl rfl fun w => ?_
 refine C3 (D4 0 1) (A3 ?_)
 refine A6 rfl (bx_ fun b3 => ?_)
 refine as_ (A0 (D4 0 3) ?_)
 refine D2 (.range 19) [(0, 0), (1, 1), (2, 0), (3, 0), (4, 0), (5, 0), (6, 0), (7, 0), (8, 1), (9, 0), (10, 1), (11, 0), (12, 1), (14, 0), (15, 1), (13, 2), (16, 2), (17, 0), (18, 0)] kR kR fun hs => ?_
 refine D1 hs rfl (qf_ 5 5) rfl ?_
 refine F8 hs rfl ql_ rfl ?_
 refine D1 hs rfl (H5 (sz := 1) rfl kR gk.rd) rfl ?_
 refine D1 hs rfl (G5 (decide (b.key.length = 32)) rfl rfl (B9Z _ 32)) rfl ?_
 refine fm_ hs ?_
 refine V7 (t := 9) rfl (fun hb => ?_) (fun hb => ?_)
 ·
  have hk32 : b.key.length = 32 := of_decide_eq_true hb
  refine N4 hs rfl rfl rfl rfl qm_ rfl ?_
  refine N4 hs rfl rfl rfl rfl (qf_ 2 2) rfl ?_
  refine N4 hs rfl rfl rfl rfl (qf_ 3 1) rfl ?_
  refine Z3 hs rfl rfl rfl rfl ql_ rfl ?_
  refine N4 hs rfl rfl rfl rfl (qf_ 4 4) rfl ?_
  refine Z3 hs rfl rfl rfl rfl ql_ rfl ?_
  refine N4 hs rfl rfl rfl rfl (qf_ 5 5) rfl ?_
  refine Z3 hs rfl rfl rfl rfl ql_ rfl ?_
  refine N4 hs rfl rfl rfl rfl (qf_ 6 6) rfl ?_
  refine Z3 hs rfl rfl rfl rfl ql_ rfl ?_
  refine A2G rfl rfl rfl rfl (aS rfl (aS rfl a0)) kR (A6A b.signed vk b.key _ hsn (gk.mono SubC.sub) (by omega)) rfl ?_
  rintro v18 M18 J18 ⟨rfl, h18⟩
  haveI := h18.cel
  refine A3a rfl rfl rfl rfl (aS rfl (aS rfl (aS rfl (aS rfl a0)))) kR (B39 pb s vg v18 vs b.ig (A5x b.signed b.key) b.sig MP _ hP (fun x hx => SubC.sub _ (hsub x hx)) har hn (gg.mono SubC.sub) (h18.mono SubC.sub) (gs.mono SubC.sub) hG.up) rfl ?_
  refine D1 hs rfl (G8 rfl rfl) rfl ?_
  refine fa_ hs ?_
  refine E2 (D5 4) (C1 ?_)
  exact ⟨_, [], [], I2 rfl rfl, List.nil_sublist _, by simp, by rw [hb, Bool.true_and], rfl, rfl⟩
 ·
  refine L5 hs ?_
  refine L5 hs ?_
  refine L5 hs ?_
  refine U1 hs ?_
  refine L5 hs ?_
  refine U1 hs ?_
  refine L5 hs ?_
  refine U1 hs ?_
  refine L5 hs ?_
  refine U1 hs ?_
  refine A64 hs rfl rfl rfl rfl rfl rfl ?_
  refine A64 hs rfl rfl rfl rfl rfl rfl ?_
  refine D1 hs rfl (F1 rfl rfl) rfl ?_
  refine fa_ hs ?_
  refine E2 (D5 4) (C1 ?_)
  exact ⟨_, [], [], I2 rfl rfl, List.nil_sublist _, by simp, by rw [hb, Bool.false_and], rfl, rfl⟩

theorem B2g {P : Program} {fn : Func} {l : Env} {R : Mem} {t u x b n : Nat} {ty : TypeId} {cs : List Value} {e : TypeId} {fr : Nat × Nat} {v z : Value} (h : fn.results = #[.tmp u, .cell t ty, .tmp x]) (hv : lk l t = some (.pointer (some ⟨b, 0, none⟩))) (hu : lk l u = some v) (hx : lk l x = some z) (ht : A8W P ty = some n)
    (hb : (b, Obj.cells cs.toArray e fr) ∈ R) (hn : cs.length = n) : Res P fn l R (.tuple #[v, .agg cs.toArray, z]) := fun N a w ha hw => by
  obtain ⟨dsc, h1, h2, h3⟩ := A0C ht
  have hl := run_loadVar_row (P := P) w b e ty cs.toArray fr dsc (hw b _ hb) h1 (by cases dsc <;> simp_all [TypeDesc.isRow]) (by rw [h3, ← hn]; simp)
  simp [results, h, ha.slot t _ hv, ha.slot u _ hu, ha.slot x _ hx, asAddr, hl]
theorem C0U {P : Program} {fn : Func} {l : Env} {R : Mem} {t u x : Nat} {v z y : Value} (h : fn.results = #[.tmp t, .tmp u, .tmp x]) (hv : lk l t = some v) (hu : lk l u = some z) (hx : lk l x = some y) : Res P fn l R (.tuple #[v, z, y]) := fun N a w ha hw => by
  simp [results, h, ha.slot t _ hv, ha.slot u _ hu, ha.slot x _ hx]
noncomputable def ckB (s : Ps) (b : Bn) : Bool := decide (b.key.length = 32) && B2w s b.ig (A5x b.signed b.key) b.sig
def heC (va vg vk : Value) (h : He) : List Value := [va, vg, vk, .int .u32 ((h.signed : Nat) : Int), .bool h.has, .int .u32 ((h.once : Nat) : Int)]
structure HeR (R : Mem) (h : He) (va vg vk : Value) : Prop where
  ia : By R va h.ia
  ig : Byi R vg h.ig
  key : By R vk h.key
  signed : h.signed < 4294967296
  once : h.once < 4294967296
theorem HeR.mono {R R' : Mem} {h : He} {va vg vk : Value} (g : HeR R h va vg vk) (hR : ∀ x, x ∈ R → x ∈ R') : HeR R' h va vg vk := ⟨g.ia.mono hR, g.ig.mono hR, g.key.mono hR, g.signed, g.once⟩
theorem B7T (pb : Nat) (s : Ps) (kb : Nat) (k : Ks) (va vg vq vo vm : Value) (rs ro rm : List (List Value)) (b : Bn) (wa wg wk ws wo : Value) (MP A : Mem) (hK : KyR A kb k va vg vq vo vm rs ro rm) (hP : Prm pb s MP) (har : Ar s.ts) (hn : s.ts.length + 1000 ≤ 1040000) (hk : s.n < 1000000000) (ga : By A wa b.ia) (gg : By A wg b.ig) (gk : By A wk b.key) (gs : By A ws b.sig) (go : By A wo b.oncek) (hsn : b.signed < 4294967296) (hon : b.once < 4294967296) (hG : Glb A) : FnX Tryz.prog 20 [.pointer (some ⟨pb, 0, none⟩), .pointer (some ⟨kb, 0, none⟩), .agg #[.int .i64 b.user, .int .i64 b.dev, wa, wg, .int .u32 ((b.signed : Nat) : Int), wk, ws, .bool b.has, .int .u32 ((b.once : Nat) : Int), wo]] MP A fun q M J => (ckB s b = true → ∃ v p r u, q = .tuple #[v, .agg (heC p r u (stH k b s)).toArray, .int .i64 0] ∧ Prm pb (stS k b s) M ∧ By J v (stK k b s) ∧ HeR (J ++ A) (stH k b s) p r u) ∧ (ckB s b = false → q = .tuple #[.slice none 0 0, .agg #[.slice none 0 0, .slice none 0 0, .slice none 0 0, .int .u32 0, .bool false, .int .u32 0], .int .i64 10] ∧ Prm pb s M) := by
 haveI := ga.cel
 haveI := gg.cel
 haveI := gk.cel
 haveI := gs.cel
 haveI := go.cel
 have f1 := L1 s
 have f2 := T9 (D7 s) k.agree b.key
 have f3 := T9 (L6 (D7 s) k.agree b.key) (E7 s) b.ia
 have f4 := T9 (L6 (L6 (D7 s) k.agree b.key) (E7 s) b.ia) (E7 s) b.key
 have f5 := T9 (L6 (L6 (L6 (D7 s) k.agree b.key) (E7 s) b.ia) (E7 s) b.key) (E7 s) b.oncek
 refine FnX.enterZ (N := 74) Tryz.func20 rfl rfl rfl fun w_ => ?_
 refine C3 (D8 0 1 2) (A3 ?_)
 refine A6 rfl (bx_ fun b5 => ?_)
 refine as_ ?_
 refine A6 rfl (C7 (cs := [.slice none 0 0, .slice none 0 0, .slice none 0 0, .int .u32 0, .bool false, .int .u32 0]) kR rfl fun b7 => ?_)
 refine as_ (A0 (E4 0 1 5 7) (A5 (A3 (mv_ ?_))))
 refine A4 (F5 (e := 114) rfl rfl kR) rfl ?_
 refine mv_ ?_
 refine F0 rfl rfl (OpQ.opL qm_ rfl ?_)
 refine F0 rfl rfl (OpQ.opL (F5 (e := 117) rfl rfl kR) rfl ?_)
 refine A4 (F1 rfl rfl) rfl ?_
 refine A0 (F7 0 1 5 7 17) ?_
 refine D6 rfl ?_
 refine A9 (nx (E4 0 1 5 7) (A5 (A3 (mv_ ?_))))
 refine A4 (qw_ 10) rfl ?_
 refine F6 (aS rfl (aS rfl a0)) kR (B2f pb s b wa wg wk ws wo MP _ hP (by intro z hz; simp [hz]) har (by omega) (ga.mono SubC.sub) (gg.mono SubC.sub) (gk.mono SubC.sub) (gs.mono SubC.sub) (go.mono SubC.sub) hsn hG.up) rfl ?_
 change XL _ _ _ _ ((21, .bool (ckB s b)) :: _) _ _
 refine A4 (Z4 rfl) rfl ?_
 refine A0 (F7 0 1 5 7 22) ?_
 refine C6 rfl (fun hc => ?_) (fun hc => ?_)
 ·
  have hck : ckB s b = false := by simpa using hc
  refine A3 ?_
  refine A4 (F4 (place := fun x => #[(0, 2), (2, 1), (3, 1), (4, 1), (5, 1)][x]?) (z := [.slice none 0 0, .slice none 0 0, .slice none 0 0, .int .u32 0, .bool false, .int .u32 0]) (fun _ => by kernel_rfl) e0 bd0) rfl ?_
  refine as_ ?_
  refine A6 rfl (A8 rfl rfl Cel.cel kR ln6 al6 UpC.upd ?_)
  refine as_ (A0 (D8 6 7 8) (C1 (tr ?_)))
  exact ⟨_, MP, [], B2g (n := 6) rfl rfl rfl rfl kR At.mem (by rfl), Fit.none (Fit.last PickC.perm), (fun h => by rw [hck] at h; cases h), fun _ => ⟨rfl, hP⟩⟩
 ·
  have hck : ckB s b = true := by simpa using hc
  refine A9 (nx (E4 0 1 5 7) (A3 (mv_ ?_)))
  refine A6 rfl (E1 (Mc := MP) (R := _) (aS rfl (a0)) kR PickC.perm (A0c pb s MP _ hP (by omega) (by omega) hG.up) rfl ?_)
  rintro v25 M25 J25 ⟨hP25, h25⟩
  haveI := h25.cel
  refine as_ (A0 (F7 0 1 5 7 9) ?_)
  refine H9 (M25) (_) true (.range 19) [(0, 0), (1, 0), (3, 0), (4, 1), (6, 0), (7, 0), (8, 0), (9, 0), (10, 1), (12, 0), (13, 0), (14, 0), (15, 1), (2, 2), (5, 2), (11, 2), (16, 2), (17, 2), (18, 0)] kR kR PickC.perm fun hs K n0 hKm hKs hKn => ?_
  refine km_ hs ?_
  refine km_ hs ?_
  refine I9 hs rfl (qf_ 5 5) rfl ?_
  refine N5 hs rfl hKs ql_ ?_
  refine km_ hs ?_
  refine km_ hs ?_
  refine I9 hs rfl (qf_ 2 2) rfl ?_
  refine I9 hs rfl (qf_ 2 0) rfl ?_
  refine N5 hs rfl hKs ql_ ?_
  refine km_ hs ?_
  refine km_ hs ?_
  refine I9 hs rfl (qf_ 5 5) rfl ?_
  refine N5 hs rfl hKs ql_ ?_
  refine I1 [] _ rfl rfl (List.Perm.refl _) (fun _ h => by cases h) fun w0 => (D3 (aS rfl a0) kR (A8H kb k va vg vq vo vm rs ro rm _ (hK.mono SubC.sub)) rfl ?_)
  rintro v28 M28 J28 ⟨rfl, h28⟩ _
  haveI := h28.cel
  dsimp only [List.nil_append, List.append_eq]
  refine I1 _ _ rfl rfl (List.Perm.refl _) hKm fun w0 => (E1 (Mc := M25) (R := _) (aS rfl (aS rfl (aS rfl (a0)))) kR PickC.perm (A0M pb (D7 s) v28 wk k.agree b.key M25 _ hP25 (by omega) (h28.mono SubC.sub) (gk.mono SubC.sub) hG.up) rfl ?_)
  rintro v31 M31 J31 ⟨hP31, h31⟩ hKx31
  haveI := h31.cel
  refine I1 M31 _ rfl rfl PickC.perm (fun x hx => hKx31 (hKn rfl) x (by simpa using hx)) fun w0 => (E1 (Mc := M31) (R := _) (aS rfl (aS rfl (aS rfl (a0)))) kR PickC.perm (A0M pb ((L6 (D7 s) k.agree b.key)) v25 wa (E7 s) b.ia M31 _ hP31 (by omega) (h25.mono SubC.sub) (ga.mono SubC.sub) hG.up) rfl ?_)
  rintro v37 M37 J37 ⟨hP37, h37⟩ hKx37
  haveI := h37.cel
  refine I1 M37 _ rfl rfl PickC.perm (fun x hx => hKx37 (hKn rfl) x (by simpa using hx)) fun w0 => (E1 (Mc := M37) (R := _) (aS rfl (aS rfl (aS rfl (a0)))) kR PickC.perm (A0M pb ((L6 (L6 (D7 s) k.agree b.key) (E7 s) b.ia)) v25 wk (E7 s) b.key M37 _ hP37 (by omega) (h25.mono SubC.sub) (gk.mono SubC.sub) hG.up) rfl ?_)
  rintro v42 M42 J42 ⟨hP42, h42⟩ hKx42
  haveI := h42.cel
  refine I1 [] _ rfl rfl (List.Perm.refl _) (fun _ h => by cases h) fun w0 => (C5 (e := 27) (sz := 1) (z := [.slice none 0 0, .slice none 0 0, .slice none 0 0]) kR (eS rfl (eS rfl (eS rfl e0))) (bdS 0 1 rfl (by rfl) (bdS 1 1 rfl (by rfl) (bdS 2 1 rfl (by rfl) bd0))) rfl fun b43 => fun hk43 => ?_)
  dsimp only [List.cons_append, List.nil_append, List.append_eq]
  refine I9 hs rfl (H6 rfl) rfl ?_
  refine P6 (K3 0 1 5 7 9 10) ?_
  refine A0j (α := Value × Mem × Mem) (fun y => [(0, .pointer (some ⟨pb, 0, none⟩)), (1, .pointer (some ⟨kb, 0, none⟩)), (5, .pointer (some ⟨b5, 0, none⟩)), (7, .pointer (some ⟨b7, 0, none⟩)), (9, v25), (10, y.1)]) (fun y => y.2.1 ++ [(b5, blk [.int .i64 b.user, .int .i64 b.dev, wa, wg, .int .u32 ((b.signed : Nat) : Int), wk, ws, .bool b.has, .int .u32 ((b.once : Nat) : Int), wo] 32), (b7, blk [.slice none 0 0, .slice none 0 0, .slice none 0 0, .int .u32 0, .bool false, .int .u32 0] 43)]) (fun y => y.2.2) (fun y => Prm pb (stA k.agree b s) y.2.1 ∧ LsV (y.2.2 ++ A) y.1 (stL k.agree b s) ∧ By (y.2.2 ++ A) v25 (E7 s)) ?_ ?_
  ·
   refine A3k (B := [(b43, blk [v31, v37, v42] 27)]) PickC.perm ?_
   refine A3 ?_
   refine A4 (qf_ 7 7) rfl ?_
   refine A4 ql_ rfl ?_
   refine A0 (Y0 0 1 5 7 9 10 45) ?_
   refine C6 rfl (fun hc => ?_) (fun hc => ?_)
   ·
    refine C2 (mv_ (mv_ (mv_ ?_)))
    refine A4 (qf_ 9 9) rfl ?_
    refine A4 ql_ rfl ?_
    refine A6 rfl (E1 (Mc := M42) (R := _) (aS rfl (aS rfl (aS rfl (a0)))) kR PickC.perm (A0M pb (L6 (L6 (L6 (D7 s) k.agree b.key) (E7 s) b.ia) (E7 s) b.key) v25 wo (E7 s) b.oncek M42 _ hP42 (by omega) (h25.mono SubC.sub) (go.mono SubC.sub) hG.up) rfl ?_)
    rintro v51 M51 J51 ⟨hP51, h51⟩
    haveI := h51.cel
    refine A6 rfl (C5 (e := 27) (sz := 1) (z := [.slice none 0 0]) kR (eS rfl e0) (bdS 0 1 rfl (by rfl) bd0) rfl fun b52 => ?_)
    refine A6 rfl (A3l (e := 27) (sz := 1) (by_ := 24) (xs := [v31, v37, v42]) rfl rfl kR rfl (Rd.whole (n := 3) At.mem (by rfl)) (Rd.whole (n := 1) At.mem (by rfl)) (by decide) (by decide) (by decide) rfl fun v53 B53 hs53 => ?_)
    haveI := hs53.cel
    refine A8d (B := B53) PickC.perm ?_
    refine as_ (D0 ?_)
    exact jn (v53, M51, _) ⟨by dsimp only; unfold stA stP; rw [hc]; exact hP51, by dsimp only; unfold stL stP; rw [hc]; exact ⟨[v31, v37, v42] ++ [v51], hs53.rd SubC.sub, Lst.cons (h31.mono SubC.sub) (Lst.cons (h37.mono SubC.sub) (Lst.cons (h42.mono SubC.sub) (Lst.cons (h51.mono SubC.sub) Lst.nil)))⟩, h25.mono SubC.sub⟩ (K3 0 1 5 7 9 10) (Fit.pick PickC.perm (Fit.last PickC.perm)) (fun _ h => h)
   ·
    refine A9 ?_
    exact jn (.slice (some ⟨b43, 0, none⟩) 3 3, M42, _) ⟨by dsimp only; unfold stA stP; rw [hc]; exact hP42, by dsimp only; unfold stL stP; rw [hc]; exact ⟨[v31, v37, v42], Rd.whole (n := 3) At.mem (by rfl), Lst.cons (h31.mono SubC.sub) (Lst.cons (h37.mono SubC.sub) (Lst.cons (h42.mono SubC.sub) Lst.nil))⟩, h25.mono SubC.sub⟩ (K3 0 1 5 7 9 10) (Fit.pick PickC.perm (Fit.last PickC.perm)) (fun _ h => h)
  ·
   rintro ⟨lv, MJ, J9⟩ ⟨hPJ, hLJ, he25⟩
   dsimp only at hPJ hLJ he25 ⊢
   haveI := hLJ.cel
   obtain ⟨hzA, hzI, hzS, hzn, hzL⟩ := A7I k b s
   have hI : stI k b s = K7 (idS k (stA k.agree b s)) (E7 s) := rfl
   have hH : stH k b s = ⟨idA k (stA k.agree b s), idG k (stA k.agree b s), P5 (idS k (stA k.agree b s)) (E7 s), b.signed, b.has, if b.has then b.once else 0⟩ := rfl
   rw [hH]
   have hzi := A2h k (stA k.agree b s)
   rw [hI] at hzI
   generalize E7 s = e at *
   obtain ⟨sA, hsA⟩ : ∃ z, stA k.agree b s = z := ⟨_, rfl⟩
   rw [hsA] at hPJ hzA hI hzi hzI ⊢
   refine H9 (MJ) (_) true (.range 12) [(0, 0), (1, 0), (3, 0), (4, 0), (6, 0), (7, 1), (8, 0), (9, 1), (2, 3), (5, 3), (10, 3), (11, 4), (12, 2)] kR kR PickC.perm fun hs K n0 hKm hKs hKn => ?_
   refine km_ hs ?_
   refine km_ hs ?_
   refine km_ hs ?_
   refine km_ hs ?_
   refine I9 hs rfl (qf_ 4 4) rfl ?_
   refine N5 hs rfl hKs ql_ ?_
   refine I9 hs rfl (qf_ 7 7) rfl ?_
   refine N5 hs rfl hKs ql_ ?_
   refine A6E [⟨2, 56, none, MJ, fun v B R => Prm pb (idS k sA) B ∧ ∃ p q, v = .agg #[p, q] ∧ By R p (idA k sA) ∧ By R q (idG k sA)⟩, ⟨5, 59, some 2, [], fun v B R => Prm pb (K7 (idS k sA) e) B ∧ By R v (P5 (idS k sA) e)⟩, ⟨10, 64, none, [], fun v B R => B = [] ∧ ∃ p r u, v = .agg #[p, r, u, .int .u32 ((b.signed : Nat) : Int), .bool b.has, .int .u32 ((0 : Nat) : Int)] ∧ By R p (idA k sA) ∧ By R r (idG k sA) ∧ By R u (P5 (idS k sA) e)⟩, ⟨11, 11, none, [], fun v B _ => ∃ b, v = .pointer (some ⟨b, 0, none⟩) ∧ B = [(b, blk [.slice none 0 0, .slice none 0 0, .slice none 0 0, .int .u32 0, .bool false, .int .u32 0] 43)]⟩] ([(b5, blk [.int .i64 b.user, .int .i64 b.dev, wa, wg, .int .u32 ((b.signed : Nat) : Int), wk, ws, .bool b.has, .int .u32 ((b.once : Nat) : Int), wo] 32), (b7, blk [.slice none 0 0, .slice none 0 0, .slice none 0 0, .int .u32 0, .bool false, .int .u32 0] 43)]) (fun bs => [bs 5, bs 10, bs 11]) (hKn rfl) (by simp [A3H, A2z]) (show ∀ m ∈ ([MJ, [], []] : List Mem), ∀ x ∈ m, K x.1 from C4 (hKm) (C4 (fun _ h => by cases h) (C4 (fun _ h => by cases h) (L3)))) kR (fun _ => by first | rfl | kernel_rfl)
    (C4 (fun _ _ _ _ h ⟨p1, p, q, e, p2, p3⟩ => ⟨p1, p, q, e, p2.mono h, p3.mono h⟩) (C4 (fun _ _ _ _ h ⟨p1, p2⟩ => ⟨p1, p2.mono h⟩) (C4 (fun _ _ _ _ h ⟨p1, p, q, u, e, p2, p3, p4⟩ => ⟨p1, p, q, u, e, p2.mono h, p3.mono h, p4.mono h⟩) (C4 (fun _ _ _ _ _ h => h) (L3))))) (show List.Nodup [56, 59, 64, 11] by decide) (show List.Nodup [2, 5, 10, 11] by decide) (C4 (C9 rfl) (C4 (C9 rfl) (C4 (C9 rfl) (C4 (C9 rfl) (L3)))))
    (C4 ⟨_, rfl, fun vs bs R Rj wG hb hj hjr ha => ⟨.inl rfl, ?_⟩⟩ (C4 ⟨_, rfl, fun vs bs R Rj wG hb hj hjr ha => ⟨.inl rfl, ?_⟩⟩ (C4 ⟨_, rfl, fun vs bs R Rj wG hb hj hjr ha => ⟨.inl rfl, ?_⟩⟩ (C4 ⟨_, rfl, fun vs bs R Rj wG hb hj hjr ha => ⟨.inl rfl, ?_⟩⟩ (L3))))) ?_
   ·
    dsimp only [Gc.inp]
    refine E1 (Mc := MJ) (R := []) (aS rfl (aS rfl (a0))) kR (by simp) (B1T pb sA kb k va vg vq vo vm rs ro rm MJ _ (hK.mono (fun x hx => by have := hb x (by simp [hx]); simp [this])) hPJ (by omega) (hG.sub (fun x hx => by have := hb x (by simp [hx]); simp [this]))) rfl ?_
    rintro v25 M25 J25 ⟨hP25, p, q, rfl, hp, hq⟩
    exact ⟨_, rfl, by simpa using hP25, p, q, rfl, hp.mono fun x hx => by simp [hx], hq.mono fun x hx => by simp [hx]⟩
   ·
    dsimp only [Gc.inp]
    have g2 := ha _ (List.mem_of_getElem? (i := 0) rfl) kR
    replace g2 : (fun v B R => Prm pb (idS k sA) B ∧ ∃ p q, v = .agg #[p, q] ∧ By R p (idA k sA) ∧ By R q (idG k sA)) (vs 2) (bs 2) Rj := g2
    dsimp only at g2
    obtain ⟨hP25, -⟩ := g2
    refine E1 (Mc := bs 2) (R := []) (aS rfl (aS rfl (a0))) kR (by simp) (A1U pb (idS k sA) v25 e (bs 2) _ hP25 (by omega) (he25.mono (fun x hx => by have := hb x (by simp [hx]); simp [this])) (hG.sub (fun x hx => by have := hb x (by simp [hx]); simp [this]))) rfl ?_
    rintro v31 M31 J31 ⟨hP31, h31⟩
    exact ⟨_, rfl, by simpa using hP31, h31.mono fun x hx => by simp [hx]⟩
   ·
    dsimp only [Gc.inp]
    have g2 := ha _ (List.mem_of_getElem? (i := 0) rfl) kR
    replace g2 : (fun v B R => Prm pb (idS k sA) B ∧ ∃ p q, v = .agg #[p, q] ∧ By R p (idA k sA) ∧ By R q (idG k sA)) (vs 2) (bs 2) Rj := g2
    dsimp only at g2
    have g5 := ha _ (List.mem_of_getElem? (i := 1) rfl) kR
    replace g5 : (fun v B R => Prm pb (K7 (idS k sA) e) B ∧ By R v (P5 (idS k sA) e)) (vs 5) (bs 5) Rj := g5
    dsimp only at g5
    obtain ⟨-, h31⟩ := g5
    obtain ⟨-, p, q, e25, hp, hq⟩ := g2
    haveI := h31.cel
    haveI := hp.cel
    haveI := hq.cel
    dsimp only [W2, List.map, List.cons_append, List.nil_append]
    rw [e25]
    exact OpQ.opL (F4 (place := fun x => #[(0, 2), (2, 1), (3, 1), (4, 1), (5, 1)][x]?) (z := [.slice none 0 0, .slice none 0 0, .slice none 0 0, .int .u32 0, .bool false, .int .u32 0]) (fun _ => by kernel_rfl) (eS rfl (eS rfl (eS rfl (eS rfl e0)))) (bdS 0 2 rfl (by rfl) (bdS 2 1 rfl (by rfl) (bdS 3 1 rfl (by rfl) (bdS 4 1 rfl (by rfl) bd0))))) rfl ⟨_, rfl, rfl, p, q, _, rfl, hp, hq, h31⟩
   ·
    dsimp only [Gc.inp]
    exact C7 (cs := [.slice none 0 0, .slice none 0 0, .slice none 0 0, .int .u32 0, .bool false, .int .u32 0]) kR rfl fun b => ⟨_, rfl, b, rfl, rfl⟩
   intro vs bs Jn0 hφ hKK
   have kk2 := hKK _ (List.mem_of_getElem? (i := 0) rfl)
   dsimp only at kk2
   have kk5 := hKK _ (List.mem_of_getElem? (i := 1) rfl)
   dsimp only at kk5
   have kk10 := hKK _ (List.mem_of_getElem? (i := 2) rfl)
   dsimp only at kk10
   have kk11 := hKK _ (List.mem_of_getElem? (i := 3) rfl)
   dsimp only at kk11
   clear hKK
   have g2 := ofH hφ
   dsimp only at g2
   replace hφ := ofT hφ
   have g5 := ofH hφ
   dsimp only at g5
   replace hφ := ofT hφ
   have g10 := ofH hφ
   dsimp only at g10
   replace hφ := ofT hφ
   have g11 := ofH hφ
   dsimp only at g11
   clear hφ
   dsimp only [W2, A3H, List.foldr, List.map, List.cons_append, List.nil_append]
   generalize bs 2 = B56 at *
   generalize bs 5 = B59 at *
   generalize bs 10 = B64 at *
   generalize bs 11 = B11 at *
   generalize vs 2 = u56 at *
   generalize vs 5 = u59 at *
   generalize vs 10 = u64 at *
   generalize vs 11 = u11 at *
   obtain ⟨hP59, -⟩ := g5
   clear g2
   obtain ⟨b11, rfl, rfl⟩ := g11
   obtain ⟨rfl, p, r, u, rfl, hp, hr, hu⟩ := g10
   haveI := hp.cel
   haveI := hr.cel
   haveI := hu.cel
   refine XK.tl rfl rfl rfl (A8 (vs := [p, r, u, .int .u32 ((b.signed : Nat) : Int), .bool b.has, .int .u32 ((0 : Nat) : Int)]) rfl rfl rfl kR (by rfl) (C4 hp.one (C4 hr.one (C4 hu.one al3))) UpC.upd ?_)
   refine P6 (F7 0 5 7 10 11) (A5 ?_)
   cases hh : b.has
   ·
    refine A3 ?_
    refine A4 (qf_ 7 7) rfl ?_
    refine A4 ql_ rfl ?_
    refine A0 (K3 0 5 7 10 11 66) ?_
    refine D6 rfl ?_
    refine A9 (nx (E4 0 7 10 11) ?_)
    refine H9 (B59) (_) true [0, 1, 2, 3, 4, 6] [(0, 0), (1, 0), (3, 1), (2, 2), (4, 0), (5, 2), (6, 0)] kR kR PickC.perm fun hs K n0 hKm hKs hKn => ?_
    refine km_ hs ?_
    refine km_ hs ?_
    refine N5 hs rfl hKs (qw_ 6) ?_
    refine I1 _ _ rfl rfl (List.Perm.refl _) hKm fun w0 => (E1 (Mc := B59) (R := _) (aS rfl (aS rfl (a0))) kR PickC.perm (A3J pb (stI k b s) lv (stL k.agree b s) B59 _ (hI ▸ hP59) (hLJ.mono SubC.sub) (by omega) (by rw [hI]; omega) hG.up) rfl ?_)
    rintro v72 M72 J72 ⟨hP72, h72⟩ hKx72
    haveI := h72.cel
    refine I9 hs rfl (H6 rfl) rfl ?_
    refine XK.tl rfl rfl rfl (A8 (vs := [p, r, u, .int .u32 ((b.signed : Nat) : Int), .bool false, .int .u32 ((0 : Nat) : Int)]) rfl rfl rfl kR (by rfl) (C4 hp.one (C4 hr.one (C4 hu.one al3))) UpC.upd ?_)
    refine I9 hs rfl (H6 rfl) rfl ?_
    refine P6 (D8 6 7 8) (C1 ?_)
    refine ⟨_, M72, [], B2g (n := 6) rfl rfl rfl rfl kR At.mem (by rfl), Fit.none (Fit.last PickC.perm), (fun _ => ⟨_, p, r, u, rfl, hP72, h72.mono SubC.sub, hp.mono SubC.sub, (hr.mono SubC.sub).i, hu.mono SubC.sub, hsn, (by decide : 0 < 4294967296)⟩), fun h => by rw [hck] at h; cases h⟩
   ·
    refine A3 ?_
    refine A4 (qf_ 7 7) rfl ?_
    refine A4 ql_ rfl ?_
    refine A0 (K3 0 5 7 10 11 66) ?_
    refine E3 rfl ?_
    refine C2 ?_
    refine A4 (qf_ 8 8) rfl ?_
    refine A4 ql_ rfl ?_
    refine A4 (qf_ 5 5) rfl ?_
    refine A6 rfl (D9 rfl rfl rfl kR SetC.set UpC.upd ?_)
    refine A0 (E4 0 7 10 11) ?_
    refine H9 (B59) (_) true [0, 1, 2, 3, 4, 6] [(0, 0), (1, 0), (3, 1), (2, 2), (4, 0), (5, 2), (6, 0)] kR kR PickC.perm fun hs K n0 hKm hKs hKn => ?_
    refine km_ hs ?_
    refine km_ hs ?_
    refine N5 hs rfl hKs (qw_ 6) ?_
    refine I1 _ _ rfl rfl (List.Perm.refl _) hKm fun w0 => (E1 (Mc := B59) (R := _) (aS rfl (aS rfl (a0))) kR PickC.perm (A3J pb (stI k b s) lv (stL k.agree b s) B59 _ (hI ▸ hP59) (hLJ.mono SubC.sub) (by omega) (by rw [hI]; omega) hG.up) rfl ?_)
    rintro v72 M72 J72 ⟨hP72, h72⟩ hKx72
    haveI := h72.cel
    refine I9 hs rfl (H6 rfl) rfl ?_
    refine XK.tl rfl rfl rfl (A8 (vs := [p, r, u, .int .u32 ((b.signed : Nat) : Int), .bool true, .int .u32 ((b.once : Nat) : Int)]) rfl rfl rfl kR (by rfl) (C4 hp.one (C4 hr.one (C4 hu.one al3))) UpC.upd ?_)
    refine I9 hs rfl (H6 rfl) rfl ?_
    refine P6 (D8 6 7 8) (C1 ?_)
    refine ⟨_, M72, [], B2g (n := 6) rfl rfl rfl rfl kR At.mem (by rfl), Fit.none (Fit.last PickC.perm), (fun _ => ⟨_, p, r, u, rfl, hP72, h72.mono SubC.sub, hp.mono SubC.sub, (hr.mono SubC.sub).i, hu.mono SubC.sub, hsn, hon⟩), fun h => by rw [hck] at h; cases h⟩

theorem B4B (pb : Nat) (s : Ps) (kb : Nat) (k : Ks) (va vg vq vo vm : Value) (rs ro rm : List (List Value)) (h : He) (wa wg wk : Value) (MP A : Mem) (hK : KyR A kb k va vg vq vo vm rs ro rm) (hrise : B7F k.once) (hP : Prm pb s MP) (hn : s.ts.length + 1000 ≤ 1040000) (gh : HeR A h wa wg wk) (hG : Glb A) : FnX Tryz.prog 23 [.pointer (some ⟨pb, 0, none⟩), .pointer (some ⟨kb, 0, none⟩), .agg #[wa, wg, wk, .int .u32 ((h.signed : Nat) : Int), .bool h.has, .int .u32 ((h.once : Nat) : Int)]] MP A fun q M J => ∃ v o, q = .tuple #[v, o, .int .i64 (if (anR k h s).1.isSome then 0 else 9)] ∧ Prm pb (anR k h s).2 M ∧ By J v ((anR k h s).1.elim [] (·.1)) ∧ By J o ((anR k h s).1.elim [] (·.2)) := by
 haveI := gh.ia.cel
 haveI := gh.ig.cel
 haveI := gh.key.cel
 refine FnX.enterZ (N := 70) Tryz.func23 rfl rfl rfl fun w_ => ?_
 refine C3 (D8 0 1 2) (A3 ?_)
 refine A6 rfl (bx_ fun b5 => ?_)
 refine as_ (as_ (as_ (A0 (D8 0 1 5) (A5 (A3 (mv_ ?_))))))
 refine A4 (F5 (e := 114) rfl rfl kR) rfl ?_
 refine mv_ ?_
 refine F0 rfl rfl (OpQ.opL qm_ rfl ?_)
 refine F0 rfl rfl (OpQ.opL (F5 (e := 117) rfl rfl kR) rfl ?_)
 refine A4 (F1 rfl rfl) rfl ?_
 refine A0 (E4 0 1 5 19) ?_
 refine D6 rfl ?_
 refine A9 (nx (D8 0 1 5) (A3 (mv_ ?_)))
 refine A4 (qf_ 3 3) rfl ?_
 refine A4 ql_ rfl ?_
 refine C8 (aS rfl (aS rfl a0)) kR (B4i kb k va vg vq vo vm rs ro rm h.signed _ (hK.mono SubC.sub)) rfl ?_
 rintro r24 M24 J24 ⟨rfl, q1, rfl, hq1⟩
 haveI := hq1.cel
 refine mv_ ?_
 refine A4 (A3Q rfl) rfl ?_
 refine A4 (A3L rfl) rfl ?_
 refine as_ (as_ (A0 (F7 0 1 5 9 10) (A5 ?_)))
 cases hsg : A2x k.signed h.signed with
 | none => ?_
 | some sx => ?_
 ·
  refine A3 (mv_ ?_)
  refine A4 (Z4 rfl) rfl ?_
  refine A0 (F7 0 1 5 9 28) ?_
  refine E3 rfl ?_
  refine A3 (as_ (as_ (as_ (A0 (D8 6 7 8) (C1 (tr ?_))))))
  exact ⟨_, MP, [], C0U rfl rfl rfl rfl, Fit.none (Fit.last PickC.perm), by rw [B9J hsg]; exact ⟨_, _, rfl, hP, By.nil, By.nil⟩⟩
 ·
  rw [hsg] at hq1
  change By _ q1 sx at hq1
  have f2 := T9 s sx h.ia
  have f3 := T9 (L6 s sx h.ia) k.agree h.key
  have f4 := T9 (L6 (L6 s sx h.ia) k.agree h.key) sx h.key
  refine A3 (mv_ ?_)
  refine A4 (Z4 rfl) rfl ?_
  refine A0 (F7 0 1 5 9 28) ?_
  refine D6 rfl ?_
  refine A9 (nx (E4 0 1 5 9) ?_)
  refine H9 (MP) (_) true (.range 19) [(0, 0), (1, 0), (2, 0), (3, 0), (4, 1), (6, 0), (7, 0), (9, 0), (10, 1), (12, 0), (13, 0), (14, 0), (15, 1), (5, 2), (8, 2), (11, 2), (16, 2), (17, 2), (18, 0)] kR kR PickC.perm fun hs K n0 hKm hKs hKn => ?_
  refine km_ hs ?_
  refine km_ hs ?_
  refine I9 hs rfl (qf_ 0 0) rfl ?_
  refine I9 hs rfl (qf_ 0 0) rfl ?_
  refine N5 hs rfl hKs ql_ ?_
  refine km_ hs ?_
  refine km_ hs ?_
  refine I9 hs rfl (qf_ 2 2) rfl ?_
  refine N5 hs rfl hKs ql_ ?_
  refine km_ hs ?_
  refine km_ hs ?_
  refine I9 hs rfl (qf_ 2 2) rfl ?_
  refine N5 hs rfl hKs ql_ ?_
  refine I1 _ _ rfl rfl (List.Perm.refl _) hKm fun w0 => (E1 (Mc := MP) (R := _) (aS rfl (aS rfl (aS rfl (a0)))) kR PickC.perm (A0M pb (s) q1 wa sx h.ia MP _ hP (by omega) (hq1.mono SubC.sub) (gh.ia.mono SubC.sub) hG.up) rfl ?_)
  rintro v34 M34 J34 ⟨hP34, h34⟩ hKx34
  haveI := h34.cel
  refine I1 [] _ rfl rfl (List.Perm.refl _) (fun _ h => by cases h) fun w0 => (D3 (aS rfl a0) kR (A8H kb k va vg vq vo vm rs ro rm _ (hK.mono SubC.sub)) rfl ?_)
  rintro v37 M37 J37 ⟨rfl, h37⟩ _
  haveI := h37.cel
  dsimp only [List.nil_append, List.append_eq]
  refine I1 M34 _ rfl rfl PickC.perm (fun x hx => hKx34 (hKn rfl) x (by simpa using hx)) fun w0 => (E1 (Mc := M34) (R := _) (aS rfl (aS rfl (aS rfl (a0)))) kR PickC.perm (A0M pb ((L6 s sx h.ia)) v37 wk k.agree h.key M34 _ hP34 (by omega) (h37.mono SubC.sub) (gh.key.mono SubC.sub) hG.up) rfl ?_)
  rintro v40 M40 J40 ⟨hP40, h40⟩ hKx40
  haveI := h40.cel
  refine I1 M40 _ rfl rfl PickC.perm (fun x hx => hKx40 (hKn rfl) x (by simpa using hx)) fun w0 => (E1 (Mc := M40) (R := _) (aS rfl (aS rfl (aS rfl (a0)))) kR PickC.perm (A0M pb ((L6 (L6 s sx h.ia) k.agree h.key)) q1 wk sx h.key M40 _ hP40 (by omega) (hq1.mono SubC.sub) (gh.key.mono SubC.sub) hG.up) rfl ?_)
  rintro v45 M45 J45 ⟨hP45, h45⟩ hKx45
  haveI := h45.cel
  refine I1 [] _ rfl rfl (List.Perm.refl _) (fun _ h => by cases h) fun w0 => (C5 (e := 27) (sz := 1) (z := [.slice none 0 0, .slice none 0 0, .slice none 0 0]) kR (eS rfl (eS rfl (eS rfl e0))) (bdS 0 1 rfl (by rfl) (bdS 1 1 rfl (by rfl) (bdS 2 1 rfl (by rfl) bd0))) rfl fun b46 => fun hk46 => ?_)
  dsimp only [List.cons_append, List.nil_append, List.append_eq]
  refine I9 hs rfl (H6 rfl) rfl ?_
  refine P6 (F7 0 1 5 9 11) ?_
  refine A0j (α := Value × Mem × Mem × Option (List Nat)) (fun y => [(0, .pointer (some ⟨pb, 0, none⟩)), (9, q1), (11, y.1)]) (fun y => y.2.1) (fun y => y.2.2.1) (fun y => Prm pb (agS s (anP k.agree sx y.2.2.2 h)) y.2.1 ∧ LsV (y.2.2.1 ++ A) y.1 (agK s (anP k.agree sx y.2.2.2 h)) ∧ By y.2.2.1 q1 sx ∧ anR k h s = anE k.agree sx y.2.2.2 h s) ?_ ?_
  ·
   refine A3k (B := [(b46, blk [v34, v40, v45] 27)]) PickC.perm ?_
   refine A3 ?_
   refine A4 (qf_ 4 4) rfl ?_
   refine A4 ql_ rfl ?_
   refine A0 (K3 0 1 5 9 11 48) ?_
   refine C6 rfl (fun hc => ?_) (fun hc => ?_)
   ·
    refine A3 (mv_ ?_)
    refine A4 (qf_ 5 5) rfl ?_
    refine A4 ql_ rfl ?_
    refine C8 (aS rfl (aS rfl a0)) kR (B9x kb k va vg vq vo vm rs ro rm h.once _ (hK.mono SubC.sub) hrise) rfl ?_
    rintro r53 M53 J53 ⟨rfl, q2, rfl, hq2⟩
    haveI := hq2.cel
    refine mv_ ?_
    refine A4 (A3Q rfl) rfl ?_
    refine A4 (A3L rfl) rfl ?_
    refine as_ (as_ (A0 (K3 0 5 9 11 12 13) (A5 ?_)))
    cases hog : A2x k.once h.once with
    | none => ?_
    | some ox => ?_
    ·
     refine A3 (mv_ ?_)
     refine A4 (Z4 rfl) rfl ?_
     refine A0 (K3 0 5 9 11 12 57) ?_
     refine E3 rfl ?_
     refine A3 (as_ (as_ (as_ (A0 (D8 6 7 8) (C1 (tr (jr ?_)))))))
     exact ⟨_, M45, [], C0U rfl rfl rfl rfl, Fit.none (Fit.last PickC.perm), by rw [B7R hsg hc hog]; exact ⟨_, _, rfl, hP45, By.nil, By.nil⟩⟩
    ·
     rw [hog] at hq2
     change By _ q2 ox at hq2
     refine A3 (mv_ ?_)
     refine A4 (Z4 rfl) rfl ?_
     refine A0 (K3 0 5 9 11 12 57) ?_
     refine D6 rfl ?_
     refine A9 (nx (F7 0 5 9 11 12) (C2 (mv_ (mv_ (mv_ ?_)))))
     refine A4 (qf_ 2 2) rfl ?_
     refine A4 ql_ rfl ?_
     refine A6 rfl (E1 (Mc := M45) (R := _) (aS rfl (aS rfl (aS rfl (a0)))) kR PickC.perm (A0M pb (L6 (L6 (L6 s sx h.ia) k.agree h.key) sx h.key) q2 wk ox h.key M45 _ hP45 (by omega) (hq2.mono SubC.sub) (gh.key.mono SubC.sub) hG.up) rfl ?_)
     rintro v63 M63 J63 ⟨hP63, h63⟩
     haveI := h63.cel
     refine A6 rfl (C5 (e := 27) (sz := 1) (z := [.slice none 0 0]) kR (eS rfl e0) (bdS 0 1 rfl (by rfl) bd0) rfl fun b64 => ?_)
     refine A6 rfl (A3l (e := 27) (sz := 1) (by_ := 24) (xs := [v34, v40, v45]) rfl rfl kR rfl (Rd.whole (n := 3) At.mem (by rfl)) (Rd.whole (n := 1) At.mem (by rfl)) (by decide) (by decide) (by decide) rfl fun v65 B65 hs65 => ?_)
     haveI := hs65.cel
     refine A8d (B := B65) PickC.perm ?_
     refine as_ (D0 ?_)
     exact jn (v65, M63, _, some ox) ⟨hP63, ⟨[v34, v40, v45] ++ [v63], hs65.rd SubC.sub, Lst.cons (h34.mono SubC.sub) (Lst.cons (h40.mono SubC.sub) (Lst.cons (h45.mono SubC.sub) (Lst.cons (h63.mono SubC.sub) Lst.nil)))⟩, hq1.mono SubC.sub, B2b hsg hc hog⟩ (D8 0 9 11) (Fit.last PickC.perm) (fun _ h => h)
   ·
    refine A9 ?_
    exact jn (.slice (some ⟨b46, 0, none⟩) 3 3, M45, _, none) ⟨hP45, ⟨[v34, v40, v45], Rd.whole (n := 3) At.mem (by rfl), Lst.cons (h34.mono SubC.sub) (Lst.cons (h40.mono SubC.sub) (Lst.cons (h45.mono SubC.sub) Lst.nil))⟩, hq1.mono SubC.sub, A8Q hsg hc⟩ (D8 0 9 11) (Fit.last PickC.perm) (fun _ h => h)
  ·
   rintro ⟨lv, MJ, J9, xo⟩ ⟨hPJ, hLJ, hqJ, hR⟩
   dsimp only at hPJ hLJ hqJ hR ⊢
   haveI := hLJ.cel
   have hzl : (agK s (anP k.agree sx xo h)).length ≤ 4 := by rw [A7H]; unfold anP; split <;> simp
   have hzs := A7G (anP k.agree sx xo h) s
   have hz0 : (anP k.agree sx xo h).length ≤ 4 := by unfold anP; split <;> simp
   refine A3 (mv_ (mv_ ?_))
   refine A6 rfl (E1 (Mc := MJ) (R := _) (aS rfl (aS rfl (a0))) kR PickC.perm (A3J pb _ lv _ MJ _ hPJ (hLJ.mono SubC.sub) (by omega) (by omega) hG.up) rfl ?_)
   rintro v68 M68 J68 ⟨hP68, h68⟩
   haveI := h68.cel
   refine mv_ (as_ (as_ (as_ (A0 (D8 6 7 8) (C1 ?_)))))
   exact ⟨_, M68, [], C0U rfl rfl rfl rfl, Fit.none (Fit.last PickC.perm), by rw [hR]; exact ⟨_, _, rfl, hP68, h68.mono SubC.sub, hqJ.mono SubC.sub⟩⟩

end Go.Proofs.YthbhpfefdnffaaaGreatDoor
namespace Go.Px
def A3K : List Nat → List (Nat × Nat)
  | [] => []
  | [q] => [(q, 10)]
  | q :: q' :: r => (q, 9) :: A3K (q' :: r)
def A9K (qs : List Nat) : List Nat → List (Nat × Nat)
  | [] => A3K qs
  | i :: r => (i, 8) :: A9K qs r
theorem B7U (plan : List (Nat × Nat)) : ∀ {qs : List Nat}, qs ≠ [] → grz (A3K qs ++ plan) = qs ∧ qsz (A3K qs ++ plan) = qs
  | [], h => absurd rfl h
  | [q], _ => ⟨rfl, rfl⟩
  | q :: q' :: r, _ => by
    obtain ⟨h1, h2⟩ := B7U plan (qs := q' :: r) (by simp)
    refine ⟨?_, ?_⟩
    · show q :: grz (A3K (q' :: r) ++ plan) = _; rw [h1]
    · show q :: qsz (A3K (q' :: r) ++ plan) = _; rw [h2]
theorem A7J {qs : List Nat} (plan : List (Nat × Nat)) (h : qs ≠ []) : ∀ r : List Nat, grz (A9K qs r ++ plan) = r ++ qs ∧ qsz (A9K qs r ++ plan) = qs
  | [] => B7U plan h
  | i :: r => by
    obtain ⟨h1, h2⟩ := A7J plan h r
    refine ⟨?_, ?_⟩
    · show i :: grz (A9K qs r ++ plan) = _; rw [h1]; rfl
    · show qsz (A9K qs r ++ plan) = _; rw [h2]
inductive GOz (ops : Array Oper) (qs : List Nat) : Array Bool → List Nat → Array Bool → Prop
  | nil {A : Array Bool} : GOz ops qs A [] A
  | cons {A B : Array Bool} {i : Nat} {r : List Nat} (hr : i ∈ Region.ready .any ops A) (ho : i ∉ qs → ∀ j, j < ops.size → A.getD j true = false → j ∉ i :: r → anc ops ops.size j i = true) (h : GOz ops qs (A.setIfInBounds i true) r B) : GOz ops qs A (i :: r) B
theorem A8S {ops : Array Oper} {nd : List Nat} {Q : List Nat} {plan : List (Nat × Nat)} : ∀ {qs : List Nat} {A : Array Bool}, qs ≠ [] → (∀ q ∈ qs, q ∈ Q) → I5 ops nd (A3K qs ++ plan) A = true → ∃ B, GOz ops Q A qs B ∧ (∀ q ∈ qs, A2s ops A q = true) ∧ I5 ops nd plan B = true
  | [], A, h, _, _ => absurd rfl h
  | [q], A, _, hQ, h => by
    simp only [A3K, List.cons_append, List.nil_append, I5, Bool.and_eq_true] at h
    exact ⟨_, .cons (by simpa using h.1.1) (fun hq => absurd (hQ q (by simp)) hq) .nil, (fun x hx => by rw [List.mem_singleton.1 hx]; exact h.1.2), h.2⟩
  | q :: q' :: r, A, _, hQ, h => by
    simp only [A3K, List.cons_append, I5, Bool.and_eq_true] at h
    obtain ⟨B, hB, -, hp⟩ := A8S (qs := q' :: r) (by simp) (fun x hx => hQ x (List.mem_cons_of_mem _ hx)) h.2
    refine ⟨B, .cons (by simpa using h.1.1) (fun hq => absurd (hQ q (by simp)) hq) hB, fun x hx => ?_, hp⟩
    have h2 := h.1.2
    rw [(B7U plan (qs := q' :: r) (by simp)).2] at h2
    exact List.all_eq_true.1 h2 x hx
theorem B2h {ops : Array Oper} {nd : List Nat} {qs : List Nat} {plan : List (Nat × Nat)} (hne : qs ≠ []) : ∀ {is : List Nat} {A : Array Bool}, I5 ops nd (A9K qs is ++ plan) A = true → ∃ B, GOz ops qs A (is ++ qs) B ∧ (∀ q ∈ qs, A2s ops A q = true) ∧ I5 ops nd plan B = true
  | [], A, h => A8S hne (fun _ h => h) h
  | i :: r, A, h => by
    simp only [A9K, List.cons_append, I5, A5B, Bool.and_eq_true, List.all_eq_true, List.mem_range, Bool.or_eq_true, (A7J plan hne r).1, (A7J plan hne r).2] at h
    obtain ⟨B, hB, -, hp⟩ := B2h hne (is := r) h.2
    refine ⟨B, .cons (by simpa using h.1.1.1) (fun _ j hj hu hn => ?_) hB, h.1.2, hp⟩
    rcases h.1.1.2 j hj with (h1 | h1) | h1
    · rw [hu] at h1; cases h1
    · exact absurd (by simpa using h1) hn
    · exact h1
theorem GOz.mark {ops : Array Oper} {q : List Nat} {A B : Array Bool} {is : List Nat} (h : GOz ops q A is B) : B = mark A is := by
  induction h with
  | nil => rfl
  | cons _ _ _ ih => rw [ih]; rfl
theorem GOz.un {ops : Array Oper} {q : List Nat} {A B : Array Bool} {is : List Nat} (h : GOz ops q A is B) : ∀ i ∈ is, A.getD i true = false := by
  induction h with
  | nil => intro i hi; cases hi
  | @cons A B i r hr ho h ih =>
    intro k hk
    rcases List.mem_cons.1 hk with rfl | hk
    · exact G4 hr
    · have h2 := ih k hk
      by_cases e : i = k
      · subst e; exact G4 hr
      · rwa [getD_set_ne true e] at h2
theorem GOz.outer {ops : Array Oper} {q : List Nat} {A B : Array Bool} {is : List Nat} (h : GOz ops q A is B) : ∀ i ∈ is, i ∉ q → ∀ j, j < ops.size → A.getD j true = false → j ∉ is → anc ops ops.size j i = true := by
  induction h with
  | nil => intro i hi; cases hi
  | @cons A B i r hr ho h ih =>
    intro k hk hq j hj hu hn
    rcases List.mem_cons.1 hk with rfl | hk
    · exact ho hq j hj hu hn
    · have hne : i ≠ j := fun e => hn (e ▸ List.mem_cons_self)
      exact ih k hk hq j hj (by rw [getD_set_ne true hne]; exact hu) (fun hm => hn (List.mem_cons_of_mem _ hm))
theorem GOz.first {ops : Array Oper} {q : List Nat} {A B : Array Bool} {is : List Nat} (h : GOz ops q A is B) {A' : Array Bool} (hsz : A'.size = A.size) (hm : ∀ j, A.getD j false = true → A'.getD j false = true) {k : Nat} (hk : k ∈ is) (hk' : A'.getD k true = false) : ∃ i, i ∈ is ∧ i ∈ Region.ready .any ops A' := by
  induction h generalizing k with
  | nil => cases hk
  | @cons A B i r hr ho h ih =>
    by_cases hi : A'.getD i true = false
    · exact ⟨i, List.mem_cons_self, A15 hr hi hm⟩
    · rcases List.mem_cons.1 hk with rfl | hk
      · exact absurd hk' hi
      · obtain ⟨x, hx1, hx2⟩ := ih (by simpa using hsz) (fun j hj => by
          by_cases e : i = j
          · subst e
            have hlt := P0 (G4 hr)
            have hlt' : i < A'.size := by omega
            simp [hlt'] at hi ⊢; exact hi
          · rw [getD_set_ne false e] at hj
            exact hm j hj) hk hk'
        exact ⟨x, List.mem_cons_of_mem _ hx1, hx2⟩
section group
variable {C : Cx} {Q : XQ} {l : Env} {M M0 J : Mem} {os : List Oper} {K : Nat → Prop} {n0 : Nat} {nd : List Nat} {plan : List (Nat × Nat)}
def B7V (C : Cx) (os : List Oper) (l : Env) (J : Mem) (G : List Gc) (g : Gc) : Prop :=
  g.s = none ∧ g.m = [] ∧ ∃ op ty pos af, nth os g.i = some ⟨some g.d, op, ty, pos, af, none⟩ ∧ ∀ (vs : Nat → Value) (bs : Nat → Mem) (Rj : Mem), (∀ x ∈ J ++ C.A, x ∈ Rj) → (∀ g' ∈ G, anc os.toArray os.toArray.size g.i g'.i = true → g'.φ (vs g'.i) (bs g'.i) Rj) →
    ∃ v, OpQ C.P [] ⟨some g.d, op, ty, pos, af, none⟩ (W2 G vs ++ l) v ∧ g.φ v [] Rj
theorem B2i {G : List Gc} (hmono : ∀ g ∈ G, A0b g.φ) (hd : (G.map (·.d)).Nodup) (hi : (G.map (·.i)).Nodup) (hc : ChainOk os.toArray G) (hKn : ∀ b, n0 ≤ b → K b) (hK : ∀ m ∈ A2z G, ∀ x ∈ m, K x.1) (hs : Region.noSelect os.toArray = true) (hdN : ∀ g ∈ G, g.d < C.N) {qs : List Nat} (hob : ∀ g ∈ G, g.i ∉ qs → B1R C os l M0 J G g) (hoq : ∀ g ∈ G, g.i ∈ qs → B7V C os l J G g) {A B : Array Bool} (hok : GOz os.toArray qs A (G.map (·.i)) B) (hfr : ∀ q ∈ qs, A2s os.toArray A q = true)
    (hfin : ∀ (vs : Nat → Value) (bs : Nat → Mem) Jn a w, (∀ g ∈ G, g.φ (vs g.i) (bs g.i) ((Jn ++ J) ++ C.A)) → (∀ g ∈ G, ∀ x ∈ bs g.i, K x.1) → Ag C.N (W2 G vs ++ l) a → St C ((A9z G bs).flatten ++ M0) (Jn ++ J) w → n0 ≤ w.heap.size → U4 C.P os.toArray (L8 (A3W C Q)) (Sk K) nd.contains plan.length B a w) :
    ∀ (n : Nat) (X : List Nat) (vs : Nat → Value) (bs : Nat → Mem) (Jn : Mem) (a : Act) (w : World), X.Nodup → (∀ i ∈ X, i ∈ G.map (·.i)) → n + X.length = G.length → L2 os.toArray (mark A X) → (∀ g ∈ G, g.i ∈ X → ∀ s, g.s = some s → s ∈ X) →
      (∀ g ∈ G, g.i ∈ X → g.φ (vs g.i) (bs g.i) ((Jn ++ J) ++ C.A)) → (∀ g ∈ G, g.i ∈ X → ∀ x ∈ bs g.i, K x.1) → Ag C.N (W2 G vs ++ l) a → St C (A7C X bs G ++ M0) (Jn ++ J) w → n0 ≤ w.heap.size →
      U4 C.P os.toArray (L8 (A3W C Q)) (Sk K) nd.contains (n + plan.length) (mark A X) a w := by
  intro n
  induction n with
  | zero =>
    intro X vs bs Jn a w hnd hX hlen hcl hXs hφ hN ha hw hn
    have hall : ∀ i, i ∈ X ↔ i ∈ G.map (·.i) := fun i => ⟨hX i, A0a hnd hX (by simp; omega) i⟩
    have hin : ∀ g ∈ G, g.i ∈ X := fun g hg => (hall _).2 (List.mem_map_of_mem (f := Gc.i) hg)
    have hcur := A8M (bs := bs) hin
    rw [hcur] at hw
    rw [Nat.zero_add, A14 hall, ← hok.mark]
    exact hfin vs bs Jn a w (fun g hg => hφ g hg (hin g hg)) (fun g hg => hN g hg (hin g hg)) ha hw hn
  | succ n ih =>
    intro X vs bs Jn a w hnd hX hlen hcl hXs hφ hN ha hw hn
    have hun : ∀ i ∈ G.map (·.i), A.getD i true = false := hok.un
    by_cases hqe : ∃ g ∈ G, g.i ∈ qs ∧ g.i ∈ Region.ready .any os.toArray (mark A X)
    · obtain ⟨g, hg, hgq, hqr⟩ := hqe
      obtain ⟨hsn, hmn, op, ty, pos, af, hget, howe⟩ := hoq g hg hgq
      have hi' : os.toArray[g.i]? = some ⟨some g.d, op, ty, pos, af, none⟩ := by rw [R8] at hget; simpa using hget
      have hiG : g.i ∈ G.map (·.i) := List.mem_map_of_mem (f := Gc.i) hg
      have hiX : g.i ∉ X := fun h => (E8.1 (G4 hqr)).2 ⟨h, P0 (hun _ hiG)⟩
      obtain ⟨v, hq, hφv⟩ := howe vs bs ((Jn ++ J) ++ C.A) (fun x hx => by simp only [List.mem_append] at hx ⊢; rcases hx with h | h <;> simp [h]) (fun g' hg' hanc => hφ g' hg' (by
        have h3 := K4 hcl hanc hqr
        rcases Q6 h3 with h4 | h4
        · exact (L4 (hun _ (List.mem_map_of_mem (f := Gc.i) hg')) h4).elim
        · exact h4))
      rw [show n + 1 + plan.length = (n + plan.length) + 1 by omega]
      refine T3 (S := Sk K) (T := fun _ => True) (N := 0) (v := v) hi' (Region.noSelect_spec hs) (fun _ _ _ h => h) (fun _ _ _ _ => rfl) _ (mark A X) a w hcl (fun j oj hj hne hun' hno => A3Z hi' (hfr _ hgq) j oj hj hne (E8.1 hun').1 (by
        cases ha0 : anc os.toArray os.toArray.size g.i j with
        | false => rfl
        | true => exact (L4 hun' (K4 hcl ha0 hqr)).elim) hno) (fun _ _ _ _ => .inr fun _ _ _ _ => trivial) hqr (.inl ⟨rfl, fun w hw => hq C.N a w ha (fun _ _ hb => by cases hb)⟩) trivial ?_
      rw [← K8]
      have hsx : ∀ s, g.s = some s → s ∈ X := fun s hs' => by rw [hsn] at hs'; cases hs'
      obtain ⟨R0, hp0, hq0⟩ := A3I (bs := bs) hi hc hg hiX hXs hsx
      rw [Gc.inp_none hsn, hmn] at hp0
      let bs' : Nat → Mem := fun k => if k = g.i then [] else bs k
      have hperm : (A7C X bs G ++ M0).Perm (A7C (X ++ [g.i]) bs' G ++ M0) := List.Perm.append_right _ (hp0.trans (hq0 []))
      have ha' : Ag C.N ((g.d, v) :: (W2 G vs ++ l)) (a.put (some g.d) v) := ha.put (hdN g hg) v
      have henv := Y4 (N := C.N) (G := B4v G) (l := l) (vs := vs) (g := ⟨g.i, g.d, fun _ _ => True⟩) (a := a.put (some g.d) v) (v := v) (List.mem_map_of_mem (f := fun g : Gc => (⟨g.i, g.d, fun _ _ => True⟩ : Gm)) hg) (by rw [B1P]; exact hd) (by rw [B1O]; exact hi) (by rw [A02]; exact ha')
      rw [A02] at henv
      refine ih (X ++ [g.i]) (fun k => if k = g.i then v else vs k) bs' Jn (a.put (some g.d) v) w ?_ ?_ (by simp; omega) ?_ ?_ ?_ ?_ henv (hw.perm hperm) hn
      · rw [List.nodup_append]; exact ⟨hnd, by simp, fun x hx y hy e => hiX (by simp at hy; subst hy; exact e ▸ hx)⟩
      · intro j hj
        rcases List.mem_append.1 hj with hj | hj
        · exact hX j hj
        · simp at hj; subst hj; exact hiG
      · rw [K8]; exact F9 hcl hqr
      · intro g' hg' hm s hs'
        rcases List.mem_append.1 hm with h | h
        · exact List.mem_append_left _ (hXs g' hg' h s hs')
        · have h2 : g' = g := Z0 hi hg' hg (by simpa using h)
          subst h2
          exact List.mem_append_left _ (hsx s hs')
      · intro g' hg' hm
        by_cases e : g'.i = g.i
        · have : g' = g := Z0 hi hg' hg e
          subst this
          simp only [if_true, bs']
          exact hφv
        · simp only [e, if_false, bs']
          exact hφ g' hg' (by simpa [e] using hm)
      · intro g' hg' hk x hx
        by_cases e : g'.i = g.i
        · simp only [e, if_true, bs'] at hx
          cases hx
        · simp only [e, if_false, bs'] at hx
          exact hN g' hg' (by simpa [e] using hk) x hx
    have hmiss : ∃ k ∈ G.map (·.i), k ∉ X ∧ k ∉ qs := by
      apply Classical.byContradiction
      intro hno
      have hs' : ∀ k ∈ G.map (·.i), k ∉ qs → k ∈ X := fun k hk hne => Classical.byContradiction fun h => hno ⟨k, hk, h, hne⟩
      by_cases hall : ∀ k ∈ G.map (·.i), k ∈ X
      · have := A0k hi hall
        simp at this; omega
      · obtain ⟨k, hk⟩ := Classical.not_forall.1 hall
        obtain ⟨hkG, hkX⟩ := Classical.not_imp.1 hk
        obtain ⟨i, hiG, hir⟩ := hok.first (V2 A X) (fun j hj => V3 hj) hkG (E8.2 ⟨hun _ hkG, fun h => hkX h.1⟩)
        have hiX : i ∉ X := fun h => (E8.1 (G4 hir)).2 ⟨h, P0 (hun _ hiG)⟩
        by_cases e : i ∈ qs
        · obtain ⟨g, hg, rfl⟩ := List.mem_map.1 hiG
          exact hqe ⟨g, hg, e, hir⟩
        · exact hiX (hs' i hiG e)
    obtain ⟨k, hkG, hkX, hkq⟩ := hmiss
    have hkun : (mark A X).getD k true = false := E8.2 ⟨hun k hkG, fun h => hkX h.1⟩
    rw [show n + 1 + plan.length = (n + plan.length) + 1 by omega]
    refine ⟨fun h0 => ?_, fun i hir => ?_⟩
    · obtain ⟨i, -, hir⟩ := hok.first (V2 A X) (fun j hj => V3 hj) hkG hkun
      rw [h0] at hir; cases hir
    · have hiG : i ∈ G.map (·.i) := by
        apply Classical.byContradiction
        intro hno
        have h1 := E8.1 (G4 hir)
        have h2 := hok.outer k hkG hkq i (A0V hir) h1.1 hno
        exact L4 hkun (K4 hcl h2 hir)
      obtain ⟨g, hg, rfl⟩ := List.mem_map.1 hiG
      have hiX : g.i ∉ X := fun h => (E8.1 (G4 hir)).2 ⟨h, P0 (hun _ hiG)⟩
      have hin : ∀ j ∈ G.map (·.i), anc os.toArray os.toArray.size g.i j = true → j ∈ X := fun j hj hanc => by
        have h3 := K4 hcl hanc hir
        rcases Q6 h3 with h4 | h4
        · exact (L4 (hun _ hj) h4).elim
        · exact h4
      have hsx : ∀ s, g.s = some s → s ∈ X := fun s hs => hin s (hc.mem g hg s hs) (hc.anc g hg s hs)
      have hKi : ∀ x ∈ g.inp bs, K x.1 := by
        intro x hx
        cases hs : g.s with
        | none =>
          rw [Gc.inp_none hs] at hx
          exact hK g.m (List.mem_map.2 ⟨g, List.mem_filter.2 ⟨hg, by simp [hs]⟩, rfl⟩) x hx
        | some s =>
          rw [Gc.inp_some hs] at hx
          obtain ⟨gs, hgs, rfl⟩ := List.mem_map.1 (hc.mem g hg s hs)
          exact hN gs hgs (hsx _ hs) x hx
      obtain ⟨o, hget, howe⟩ := hob g hg (fun e => hqe ⟨g, hg, e, hir⟩)
      have hi' : os.toArray[g.i]? = some o := by rw [R8] at hget; simpa using hget
      obtain ⟨hask, hop⟩ := howe vs bs (M0 ++ ((Jn ++ J) ++ C.A)) ((Jn ++ J) ++ C.A) w (fun x hx => by simp only [List.mem_append] at hx ⊢; rcases hx with h | h | h <;> simp [h]) (fun x hx => by simp only [List.mem_append] at hx ⊢; rcases hx with h | h <;> simp [h]) (fun x hx => List.mem_append_right _ hx) (fun g' hg' hanc => hφ g' hg' (hin _ (List.mem_map_of_mem (f := Gc.i) hg') hanc))
      unfold wpOp
      simp only [hi']
      rw [if_pos (hask.wanted ha)]
      obtain ⟨R0, hp0, hq0⟩ := A3I (bs := bs) hi hc hg hiX hXs hsx
      have hpc : (A7C X bs G ++ M0).Perm (g.inp bs ++ (R0 ++ M0)) := by
        rw [← List.append_assoc]; exact List.Perm.append_right _ hp0
      have hcal := hw.callee hpc
      have hcal2 := St.less (A := M0 ++ ((Jn ++ J) ++ C.A)) hcal fun x hx => by
        simp only [List.mem_append] at hx ⊢
        rcases hx with h | h
        · exact .inl (.inr h)
        · exact .inr h
      refine .inl (Oper.wp_mono ?_ (hop _ a w ha hcal2.cx))
      rintro a' w' ⟨l', M', J', ha', hs', v, rfl, hφv⟩
      have hsz : w.heap.size ≤ w'.heap.size := hs'.size
      have hs2 := St.widen hcal.cx hs'
      have hb := hw.back hpc hs2.cx
      let bs' : Nat → Mem := fun k => if k = g.i then M' else bs k
      have hperm : (M' ++ (R0 ++ M0)).Perm (A7C (X ++ [g.i]) bs' G ++ M0) := by
        rw [← List.append_assoc]
        exact List.Perm.append_right _ (hq0 M')
      have hfr2 : St C (A7C (X ++ [g.i]) bs' G ++ M0) ((J' ++ Jn) ++ J) w' := (hb.perm hperm).drop (List.Sublist.refl _) fun x hx => by
        simp only [List.mem_append] at hx ⊢
        rcases hx with (h | h) | h <;> simp [h]
      refine ⟨fun _ b hb' hnk => hs'.frame b hb' fun hm => ?_, ?_⟩
      · obtain ⟨x, hx, e⟩ := List.mem_map.1 hm
        exact hnk (e ▸ hKi x hx)
      rw [← K8]
      have henv := Y4 (N := C.N) (G := B4v G) (l := l) (vs := vs) (g := ⟨g.i, g.d, fun _ _ => True⟩) (a := a') (v := v) (List.mem_map_of_mem (f := fun g : Gc => (⟨g.i, g.d, fun _ _ => True⟩ : Gm)) hg) (by rw [B1P]; exact hd) (by rw [B1O]; exact hi) (by rw [A02]; exact ha')
      rw [A02] at henv
      refine ih (X ++ [g.i]) (fun k => if k = g.i then v else vs k) bs' (J' ++ Jn) a' w' ?_ ?_ (by simp; omega) ?_ ?_ ?_ ?_ henv hfr2 (Nat.le_trans hn hsz)
      · rw [List.nodup_append]; exact ⟨hnd, by simp, fun x hx y hy e => hiX (by simp at hy; subst hy; exact e ▸ hx)⟩
      · intro j hj
        rcases List.mem_append.1 hj with hj | hj
        · exact hX j hj
        · simp at hj; subst hj; exact hiG
      · rw [K8]; exact F9 hcl hir
      · intro g' hg' hm s hs
        rcases List.mem_append.1 hm with h | h
        · exact List.mem_append_left _ (hXs g' hg' h s hs)
        · have h2 : g' = g := Z0 hi hg' hg (by simpa using h)
          subst h2
          exact List.mem_append_left _ (hsx s hs)
      · intro g' hg' hm
        by_cases e : g'.i = g.i
        · have : g' = g := Z0 hi hg' hg e
          subst this
          simp only [if_true, bs']
          exact hmono g' hg' _ _ _ _ (fun x hx => by simp only [List.mem_append] at hx ⊢; rcases hx with h | (h | h) | h <;> simp [h]) hφv
        · simp only [e, if_false, bs']
          have hm' : g'.i ∈ X := by simpa [e] using hm
          exact hmono g' hg' _ _ _ _ (fun x hx => by simp only [List.mem_append] at hx ⊢; rcases hx with (h | h) | h <;> simp [h]) (hφ g' hg' hm')
      · intro g' hg' hk x hx
        by_cases e : g'.i = g.i
        · have : g' = g := Z0 hi hg' hg e
          subst this
          simp only [if_true, bs'] at hx
          rcases hs'.own x.1 x.2 (by simp [hx]) with h6 | h6
          · obtain ⟨y, hy, e6⟩ := List.mem_map.1 h6
            exact e6 ▸ hKi y hy
          · exact hKn _ (Nat.le_trans hn h6)
        · simp only [e, if_false, bs'] at hx
          have hk' : g'.i ∈ X := by simpa [e] using hk
          exact hN g' hg' hk' x hx
theorem B2j (G0 Gq : List Gc) (M0 : Mem) (Lf : (Nat → Mem) → List Mem) (hKn : ∀ b, n0 ≤ b → K b) (hM : M.Perm (A3H (A2z (G0 ++ Gq)) M0)) (hK : ∀ m ∈ A2z (G0 ++ Gq), ∀ x ∈ m, K x.1) (hck : A7D os.toArray ((G0 ++ Gq).map fun g => (g.i, g.s)) = true) (hLf : ∀ bs, A9z (G0 ++ Gq) bs = Lf bs)
    (hmono : ∀ g ∈ G0 ++ Gq, A0b g.φ) (hd : ((G0 ++ Gq).map (·.d)).Nodup) (hi : ((G0 ++ Gq).map (·.i)).Nodup) (hdN : ∀ g ∈ G0 ++ Gq, g.d < C.N) (hs : Region.noSelect os.toArray = true) (hne : Gq.map (·.i) ≠ []) (hob0 : ∀ g ∈ G0, B1R C os l M0 J (G0 ++ Gq) g) (hoq0 : ∀ g ∈ Gq, B7V C os l J (G0 ++ Gq) g)
    (h : ∀ (vs : Nat → Value) (bs : Nat → Mem) Jn, (∀ g ∈ G0 ++ Gq, g.φ (vs g.i) (bs g.i) ((Jn ++ J) ++ C.A)) → (∀ g ∈ G0 ++ Gq, ∀ x ∈ bs g.i, K x.1) → XK C os Q K n0 nd plan (W2 (G0 ++ Gq) vs ++ l) (A3H (Lf bs) M0) (Jn ++ J)) : XK C os Q K n0 nd (A9K (Gq.map (·.i)) (G0.map (·.i)) ++ plan) l M J := by
  refine A0H hM ?_
  rw [A2Q]
  intro listed hcl hp a w ha hw hn
  obtain ⟨B, hok, hfr, hp2⟩ := B2h hne hp
  have hBcl : L2 os.toArray B := by
    have : ∀ {A is B}, GOz os.toArray (Gq.map (·.i)) A is B → L2 os.toArray A → L2 os.toArray B := by
      intro A is B h
      induction h with
      | nil => exact id
      | cons hr _ _ ih => exact fun hc => ih (F9 hc hr)
    exact this hok hcl
  rw [← List.map_append] at hok
  have hlen : (A9K (Gq.map (·.i)) (G0.map (·.i)) ++ plan).length = (G0 ++ Gq).length + plan.length := by
    have h1 : ∀ qs : List Nat, (A3K qs).length = qs.length := by
      intro qs
      induction qs with
      | nil => rfl
      | cons q r ih => cases r with
        | nil => rfl
        | cons q' r => simp only [A3K, List.length_cons] at ih ⊢; rw [ih]
    have h2 : ∀ (qs is : List Nat), (A9K qs is).length = is.length + qs.length := by
      intro qs is
      induction is with
      | nil => simp [A9K, h1]
      | cons i r ih => simp only [A9K, List.length_cons, ih]; omega
    simp [h2]
  have hob : ∀ g ∈ G0 ++ Gq, g.i ∉ Gq.map (·.i) → B1R C os l M0 J (G0 ++ Gq) g := fun g hg hq => by
    rcases List.mem_append.1 hg with h1 | h1
    · exact hob0 g h1
    · exact absurd (List.mem_map_of_mem (f := Gc.i) h1) hq
  have hoq : ∀ g ∈ G0 ++ Gq, g.i ∈ Gq.map (·.i) → B7V C os l J (G0 ++ Gq) g := fun g hg hq => by
    obtain ⟨g', hg', e⟩ := List.mem_map.1 hq
    have := Z0 hi (List.mem_append_right _ hg') hg e
    exact this ▸ hoq0 g' hg'
  rw [hlen]
  generalize Gq.map (·.i) = qs at *
  generalize G0 ++ Gq = G at *
  let vs : Nat → Value := fun k => match G.find? (fun g => g.i == k) with
    | some g => (a.tmps[g.d]?).getD undef
    | none => undef
  have hag : Ag C.N (W2 G vs ++ l) a := by
    refine ⟨ha.defers, ha.size, ?_⟩
    intro k u hk
    have key : ∀ G' : List Gc, (∀ g ∈ G', g ∈ G) → lk (W2 G' vs ++ l) k = some u → a.tmps[k]? = some u := by
      intro G'
      induction G' with
      | nil => intro _ h; exact ha.slot k u h
      | cons g G' ih =>
        intro hs h
        simp only [W2, List.map_cons, List.cons_append, lk] at h
        by_cases e : g.d = k
        · subst e
          simp at h
          have hf : G.find? (fun x => x.i == g.i) = some g := by
            have hgG := hs g List.mem_cons_self
            cases hq : G.find? (fun x => x.i == g.i) with
            | none => have := List.find?_eq_none.1 hq g hgG; simp at this
            | some x =>
              have h1 := List.find?_some hq
              have h2 := List.mem_of_find?_eq_some hq
              rw [Z0 hi h2 hgG (by simpa using h1)]
          have hlt : g.d < a.tmps.size := by rw [ha.size]; exact hdN g (hs g List.mem_cons_self)
          rw [← h]
          show a.tmps[g.d]? = some (vs g.i)
          simp only [vs, hf, Array.getElem?_eq_getElem hlt, Option.getD_some]
        · simp only [V0 e, cond_false] at h
          exact ih (fun x hx => hs x (List.mem_cons_of_mem _ hx)) h
    exact key G (fun _ h => h) hk
  refine B2i (n0 := n0) (K := K) hmono hd hi (A8K hck) hKn hK hs hdN hob hoq hok hfr (fun vs bs Jn a w hφ hN ha hw hn => h vs bs Jn hφ hN B hBcl hp2 a w ha (by rw [A2Q, ← hLf]; exact hw) hn) G.length [] vs (fun _ => []) [] a w .nil (fun _ h => by cases h) (by simp) hcl (fun _ _ h => by cases h) (fun _ _ h => by cases h) (fun _ _ h => by cases h) hag (by rw [A8L]; exact hw) hn
end group
end Go.Px

