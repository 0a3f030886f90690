/- Part 17 of the texts of this claim, one behind the other. -/
import Derived.Test.YtoameenjkiaefaaGreatDoorB16
set_option linter.unusedVariables false
set_option linter.unusedSimpArgs false
set_option maxRecDepth 100000
namespace Go.Proofs.YtoameenjkiaefaaGreatDoor
open Go.Px
theorem Prm.tb {pb : Nat × Nat} {s : Ps} {M : Mem} (h : Prm pb s M) : ∃ sv bm B MT, M = (pb.1, blk [.int .u8 1, sv, (vI s.n), .pointer (some ⟨pb.2, 0, none⟩)] 118) :: (B ++ MT) ∧ By B sv s.seed ∧ Tab pb.2 bm s.ts MT := by
  obtain ⟨sv, ⟨_, rfl⟩, bm, B, MT, h1, h2, h3⟩ := h.ex
  exact ⟨sv, bm, B, MT, h1, h2, h3⟩
theorem Prm.of {pb : Nat × Nat} {s : Ps} {sv : Value} {bm : Nat} {B MT : Mem} (h2 : By B sv s.seed) (h3 : Tab pb.2 bm s.ts MT) : Prm pb s ((pb.1, blk [.int .u8 1, sv, (vI s.n), .pointer (some ⟨pb.2, 0, none⟩)] 118) :: (B ++ MT)) := ⟨sv, ⟨pb.2, rfl⟩, bm, B, MT, rfl, h2, h3⟩
def ptr (b : Nat) : Value := (vP b)
def evW (R : Mem) (e : Ev) (c : List Value) : Prop := ∃ vs p r u vk vg, c = evC vs p r u vk vg e ∧ EvR R e vs p r u vk vg
theorem A96 {R : Mem} {e : Ev} {vs p r u vk vg : Value} (h : EvR R e vs p r u vk vg) : ∀ c ∈ evC vs p r u vk vg e, c.oneCell' = true := by
  intro c hc
  unfold evC at hc
  simp only [List.mem_cons, List.not_mem_nil, or_false] at hc
  rcases hc with rfl | rfl | rfl | rfl | rfl | rfl | rfl | rfl | rfl | rfl | rfl | rfl | rfl | rfl | rfl | rfl <;> first | rfl | exact h.ses.one | exact h.he.ia.one | exact h.he.ig.one | exact h.he.key.one | exact h.hk.one | exact h.g.one
theorem evT : RowT 16 evW := ⟨fun R R' x r hR ⟨a, b, c, d, e, f, h1, h2⟩ => ⟨a, b, c, d, e, f, h1, h2.mono hR⟩, fun R x r ⟨a, b, c, d, e, f, h1, _⟩ => by rw [h1]; rfl, fun R x r ⟨a, b, c, d, e, f, h1, h2⟩ => by rw [h1]; exact A96 h2⟩
structure Adv (R : Mem) (vb kb : Nat) (pb : Nat × Nat) (h : List Bool) (es : List Ev) (ow : LN) (M : Mem) : Prop where
  ex : ∃ u1 u2 rows B1 B2 MK, M = (vb, blk [.pointer (some ⟨pb.1, 0, none⟩), (vP kb), u1, u2] 93) :: (B1 ++ (B2 ++ MK)) ∧ Sl 16 u1 es.length rows.flatten B1 ∧ RwL evW R rows es ∧ Sl 1 u2 ow.length (ow.map ptr) B2 ∧ Knw kb pb.2 h MK
theorem Adv.mono {R R' : Mem} {vb kb : Nat} {pb : Nat × Nat} {h : List Bool} {es : List Ev} {ow : LN} {M : Mem} (hA : Adv R vb kb pb h es ow M) (hR : ∀ z, z ∈ R → z ∈ R') : Adv R' vb kb pb h es ow M := by
  obtain ⟨a, b, c, d, e, f, h1, h2, h3, h4, h5⟩ := hA.ex
  exact ⟨a, b, c, d, e, f, h1, h2, h3.mono evT hR, h4, h5⟩
theorem B1P (w : LN) : w.take (min w.length 32) = w.take 32 := by
  by_cases h : w.length ≤ 32
  · rw [Nat.min_eq_left h, List.take_of_length_le (Nat.le_refl _), List.take_of_length_le h]
  · rw [Nat.min_eq_right qO]
theorem B8B {R : Mem} {b : Bn} {v wa wg wk ws_ wo : Value} {B : Mem} (ga : By R wa b.ia) (gg : By R wg b.ig) (gk : By R wk b.key) (gs : By R ws_ b.sig) (go : By R wo b.oncek) (hs : Sl 1 v (4 + (if b.has then 1 else 0)) ([wa, wg, wk, vHi (min b.sig.length 32) ws_] ++ (if b.has then [wo] else [])) B) : LsV (B ++ R) v (shN b) := by
  have h6 : By R (vHi (min b.sig.length 32) ws_) (b.sig.take 32) := by rw [← B1P]; exact A9u gs (Nat.min_le_left _ _)
  have hr : Rd (B ++ R) 1 v (4 + (if b.has then 1 else 0)) ([wa, wg, wk, vHi (min b.sig.length 32) ws_] ++ (if b.has then [wo] else [])) := hs.rd fun x hx => List.mem_append_left _ hx
  have up : ∀ x, x ∈ R → x ∈ B ++ R := fun x hx => List.mem_append_right _ hx
  unfold shN
  cases hb : b.has with
  | true =>
    rw [hb] at hr
    exact ⟨_, hr, Lst.cons (ga.mono up) (Lst.cons (gg.mono up) (Lst.cons (gk.mono up) (Lst.cons (h6.mono up) (Lst.cons (go.mono up) Lst.nil))))⟩
  | false =>
    rw [hb] at hr
    exact ⟨_, hr, Lst.cons (ga.mono up) (Lst.cons (gg.mono up) (Lst.cons (gk.mono up) (Lst.cons (h6.mono up) Lst.nil)))⟩
theorem B8C {R : Mem} {e : Ev} {v vs p r u vk vg : Value} {B : Mem} (h : EvR R e vs p r u vk vg) (hs : Sl 1 v (3 + (if e.has then 3 else 0)) ([vs, vk, vg] ++ (if e.has then [p, r, u] else [])) B) : LsV (B ++ R) v (trN e) := by
  have hr : Rd (B ++ R) 1 v (3 + (if e.has then 3 else 0)) ([vs, vk, vg] ++ (if e.has then [p, r, u] else [])) := hs.rd fun x hx => List.mem_append_left _ hx
  have up : ∀ x, x ∈ R → x ∈ B ++ R := fun x hx => List.mem_append_right _ hx
  have hig := h.he.ig.by (Nat.le_trans h.hil qD)
  unfold trN
  cases hb : e.has with
  | true =>
    rw [hb] at hr
    exact ⟨_, hr, Lst.cons (h.ses.mono up) (Lst.cons (h.hk.mono up) (Lst.cons (h.g.mono up) (Lst.cons (h.he.ia.mono up) (Lst.cons (hig.mono up) (Lst.cons (h.he.key.mono up) Lst.nil)))))⟩
  | false =>
    rw [hb] at hr
    exact ⟨_, hr, Lst.cons (h.ses.mono up) (Lst.cons (h.hk.mono up) (Lst.cons (h.g.mono up) Lst.nil))⟩
theorem B20 (pb : Nat × Nat) (s : Ps) (MP A : Mem) (hP : Prm pb s MP) (hMP : ∀ z, z ∈ MP → z ∈ A) : FnX Tryz.prog 27 [.pointer (some ⟨pb.1, 0, none⟩)] [] A fun q M J => ∃ vb kb, q = (vP vb) ∧ ∀ R, Adv R vb kb pb [] [] [] M := by
 obtain ⟨sv, bm, B, MT, rfl, hby, hT⟩ := hP.tb
 haveI := hby.cel
 refine FnX.enterZ (N := 9) Tryz.func27 rfl rfl rfl fun w_ => ?_
 refine A8 (C7 0) (A1 (as_ (A0 (C7 0) (A1 (mv_ (mv_ ?_))))))
 refine D7 (aS rfl a0) kR (A5B pb ⟨pb.2, rfl⟩ _ sv _ (mA (hMP _ qK))) rfl ?_
 refine E0 (aS rfl a0) kR (A9D pb.2 _) rfl ?_
 rintro v6 M6 J6 ⟨kb, rfl, hK6⟩
 refine A2 (D6 (place := fun x => #[(0, 1), (1, 1), (2, 1), (3, 1)][x]?) (z := [.pointer none, .pointer none, vS, vS]) (fun _ => by kernel_rfl) (eS rfl (eS rfl e0)) (bdS 0 1 rfl qR (bdS 1 1 rfl qR bd0))) rfl ?_
 refine A4 rfl (bx_ fun b8 => ?_)
 refine as_ (A0 (C7 2) (A7 ?_))
 exact ⟨_, (b8, _) :: M6, [], F7 rfl rfl, Fit.none (Fit.pick (B := [_]) qP (Fit.last qP)), b8, kb, rfl, fun R => ⟨vS, vS, [], [], [], M6, rfl, Sl.nil, RwL.nil, Sl.nil, hK6⟩⟩
theorem B1Q (vb kb : Nat) (pb : Nat × Nat) (u1 u2 : Value) (A : Mem) (hv : (vb, blk [.pointer (some ⟨pb.1, 0, none⟩), (vP kb), u1, u2] 93) ∈ A) : FnV Tryz.prog 13 [(vP vb)] A (vP kb) := by
 refine FnX.enter (N := 9) Tryz.func13 rfl rfl rfl fun w_ => ?_
 refine A8 (C7 0) (A1 (as_ (A0 (C7 0) (A6 (A1 (mv_ ?_))))))
 refine A2 (C9 (e := 93) rfl rfl kR) rfl ?_
 refine A0 (D0 0 4) ?_
 refine B0 rfl ?_
 refine A5 (nx (C7 0) (A1 (mv_ ?_)))
 refine A2 (D8 rfl) rfl ?_
 refine A2 (qf_ 1 1) rfl ?_
 refine A2 (G3 rfl kR (mA hv) qR) rfl ?_
 refine as_ (A0 (C7 2) (A7 ?_))
 exact ⟨_, [], [], F7 rfl rfl, List.nil_sublist _, by simp, rfl, rfl, rfl⟩
theorem B5f (vb kb n : Nat) (pb : Nat × Nat) (u1 u2 : Value) (xs : List Value) (A : Mem) (hv : (vb, blk [.pointer (some ⟨pb.1, 0, none⟩), (vP kb), u1, u2] 93) ∈ A) (hr : Rd A 16 u1 n xs) : FnV Tryz.prog 15 [(vP vb)] A (vI n) := by
 haveI := hr.cel
 refine FnX.enter (N := 10) Tryz.func15 rfl rfl rfl fun w_ => ?_
 refine A8 (C7 0) (A1 (as_ (A0 (C7 0) (A6 (A1 (mv_ ?_))))))
 refine A2 (C9 (e := 93) rfl rfl kR) rfl ?_
 refine A0 (D0 0 4) ?_
 refine B0 rfl ?_
 refine A5 (nx (C7 0) (A1 (mv_ ?_)))
 refine A2 (D8 rfl) rfl ?_
 refine A2 (qf_ 2 2) rfl ?_
 refine A2 (G3 rfl kR (mA hv) qR) rfl ?_
 refine A2 (E2 (sz := 16) rfl kR hr) rfl ?_
 refine as_ (A0 (C7 2) (A7 ?_))
 exact ⟨_, [], [], F7 rfl rfl, List.nil_sublist _, by simp, rfl, rfl, rfl⟩
theorem B5g (vb kb : Nat) (pb : Nat × Nat) (s : Ps) (h : List Bool) (es : List Ev) (ow : LN) (b : Bn) (wa wg wk ws_ wo : Value) (MA MP R A : Mem) (hA : Adv R vb kb pb h es ow MA) (hP : Prm pb s MP) (hl : h.length ≤ s.ts.length) (hn : s.ts.length + 10 ≤ 1048576) (ga : By A wa b.ia) (gg : By A wg b.ig) (gk : By A wk b.key) (gs : By A ws_ b.sig) (go : By A wo b.oncek) (hG : Glb A) : FnX Tryz.prog 28 [(vP vb), .agg #[.int .i64 b.user, .int .i64 b.dev, wa, wg, (vU b.signed), wk, ws_, .bool b.has, (vU b.once), wo]] (MA ++ MP) A fun q M J => ∃ MA' MP' h', M = MA' ++ MP' ∧ Clo (N4 s.ts h (shN b)).1 (N4 s.ts h (shN b)).2 h' ∧ Adv R vb kb pb h' es ow MA' ∧ Prm pb { s with ts := (N4 s.ts h (shN b)).1 } MP' := by
 obtain ⟨u1, u2, rows, B1, B2, MK, rfl, hs1, hrw, hs2, hK⟩ := hA.ex
 obtain ⟨sv, bm, B, MT, rfl, hby, hT⟩ := hP.tb
 obtain ⟨ge4, gf4, h4⟩ := hG.pow
 haveI := hs1.cel
 haveI := hs2.cel
 haveI := hby.cel
 haveI := ga.cel
 haveI := gg.cel
 haveI := gk.cel
 haveI := gs.cel
 haveI := go.cel
 have hll : (shN b).length ≤ 5 := by unfold shN; split <;> simp
 refine FnX.enterZ (N := 13) Tryz.func28 rfl rfl rfl fun w_ => ?_
 refine A8 (D0 0 1) (A1 ?_)
 refine A4 rfl (bx_ fun b3 => ?_)
 refine A0 (D0 0 3) (A1 (mv_ ?_))
 refine A2 (A1h (e := 93) rfl rfl kR) rfl ?_
 refine A0 (E5 0 3 5) ?_
 refine E9 rfl ?_
 refine S3 [0, 1, 2, 3, 4, 5] (zp 0 [0, 0, 0, 1, 1, 2, 2]) kR kR fun hs => ?_
 refine fm_ hs ?_
 refine E8 hs rfl (D8 rfl) rfl ?_
 refine E8 hs rfl (qf_ 1 1) rfl ?_
 refine R5 hs rfl ql_ rfl ?_
 refine R5 hs rfl (qw_ 10) rfl ?_
 refine Y9 rfl (aS rfl a0) kR (A7H b.user b.dev wa b.ia wg b.ig b.signed wk b.key ws_ b.sig b.has b.once wo b.oncek _ (ga.mono qS).i (gg.mono qS).i (gk.mono qS).i (gs.mono qS).i (go.mono qS).i) rfl ?_
 rintro v11 M11 J11 hs11
 have hlv := B8B ga gg gk gs go hs11
 haveI := hs11.cel
 refine L7 rfl rfl rfl (A9 (Mc := MK ++ MT) (R := _) (aS rfl (aS rfl a0)) kR qP (T8 kb pb.2 bm s.ts h v11 (shN b) MK MT _ hK hT (hlv.mono qS) hl qO (qS _ h4)) rfl ?_)
 rintro v12 M12 J12 ⟨h', MK', MT', rfl, hclo, hK', hT'⟩
 refine A10 ?_
 exact ⟨_, (vb, blk [.pointer (some ⟨pb.1, 0, none⟩), (vP kb), u1, u2] 93) :: (B1 ++ (B2 ++ (MK' ++ ((pb.1, blk [.int .u8 1, sv, (vI s.n), .pointer (some ⟨pb.2, 0, none⟩)] 118) :: (B ++ MT'))))), [], A2V rfl, Fit.none (Fit.pick (B := [_]) qP (Fit.pick qP (Fit.pick qP (Fit.pick qP (Fit.pick (B := [_]) qP (Fit.pick qP (Fit.last qP))))))), (vb, blk [.pointer (some ⟨pb.1, 0, none⟩), (vP kb), u1, u2] 93) :: (B1 ++ (B2 ++ MK')), (pb.1, blk [.int .u8 1, sv, (vI s.n), .pointer (some ⟨pb.2, 0, none⟩)] 118) :: (B ++ MT'), h', by simp, hclo, ⟨u1, u2, rows, B1, B2, MK', rfl, hs1, hrw, hs2, hK'⟩, Prm.of hby hT'⟩
theorem A97 (vb kb : Nat) (pb : Nat × Nat) (s : Ps) (h : List Bool) (es : List Ev) (ow : LN) (kk : Nat) (vl : Value) (ls : List (LN)) (MA MP R A : Mem) (hA : Adv R vb kb pb h es ow MA) (hP : Prm pb s MP) (hl : h.length ≤ s.ts.length) (hn : s.ts.length + ls.length ≤ 1048576) (hol : ow.length ≤ 1000) (hlv : LsV A vl ls) (hG : Glb A) : FnX Tryz.prog 20 [(vP vb), (vP kk), vl] (MA ++ MP) A fun q M J => ∃ MA' MP' h', M = MA' ++ MP' ∧ Clo (N4 s.ts h (ls)).1 (N4 s.ts h (ls)).2 h' ∧ Adv R vb kb pb h' es (ow ++ [kk]) MA' ∧ Prm pb { s with ts := (N4 s.ts h (ls)).1 } MP' := by
 obtain ⟨u1, u2, rows, B1, B2, MK, rfl, hs1, hrw, hs2, hK⟩ := hA.ex
 obtain ⟨sv, bm, B, MT, rfl, hby, hT⟩ := hP.tb
 obtain ⟨ge4, gf4, h4⟩ := hG.pow
 haveI := hs1.cel
 haveI := hs2.cel
 haveI := hby.cel
 obtain ⟨uu, hru, -⟩ := hlv.ex
 haveI := hru.cel
 refine FnX.enterZ (N := 24) Tryz.func20 rfl rfl rfl fun w_ => ?_
 refine A8 (E5 0 1 2) (A6 (A1 (mv_ ?_)))
 refine A2 (C9 (e := 93) rfl rfl kR) rfl ?_
 refine A0 (F4 0 1 2 7) ?_
 refine B0 rfl ?_
 refine A5 (nx (E5 0 1 2) (A1 (mv_ (mv_ ?_))))
 refine A2 (D8 rfl) rfl ?_
 refine A2 (qf_ 3 3) rfl ?_
 refine A2 ql_ rfl ?_
 refine mv_ ?_
 refine A4 rfl (C4 (e := 26) (sz := 1) (z := [.pointer none]) kR (eS rfl e0) (bdS 0 1 rfl qR bd0) rfl fun b14 => ?_)
 refine A4 rfl (F6 (e := 26) (sz := 1) (by_ := 8) rfl rfl kR rfl hs2 (Rd.whole (n := 1) At.mem qR) (by intro c hc; rw [List.mem_singleton.1 hc]; rfl) qP (by unfold maxLen; omega) qO rfl fun v15 B15 hs15 => ?_)
 haveI := hs15.cel
 refine A2 (D8 rfl) rfl ?_
 refine A2 (qf_ 3 3) rfl ?_
 refine A4 rfl (F8 rfl rfl hs15.one kR SetC.set UpC.upd ?_)
 refine A0 (D0 0 2) (C6 (mv_ ?_))
 refine A2 (D8 rfl) rfl ?_
 refine A2 (qf_ 1 1) rfl ?_
 refine A2 ql_ rfl ?_
 refine mv_ ?_
 refine A4 rfl (A9 (Mc := MK ++ MT) (R := _) (aS rfl (aS rfl a0)) kR qP (T8 kb pb.2 bm s.ts h vl (ls) MK MT _ hK hT (hlv.mono qS) hl qO (qS _ h4)) rfl ?_)
 rintro v23 M23 J23 ⟨h', MK', MT', rfl, hclo, hK', hT'⟩
 refine E1 ?_
 exact ⟨_, (vb, blk [.pointer (some ⟨pb.1, 0, none⟩), (vP kb), u1, v15] 93) :: (B1 ++ (B15 ++ (MK' ++ ((pb.1, blk [.int .u8 1, sv, (vI s.n), .pointer (some ⟨pb.2, 0, none⟩)] 118) :: (B ++ MT'))))), [], A2V rfl, Fit.none (Fit.pick (B := [_]) qP (Fit.pick qP (Fit.pick qP (Fit.pick qP (Fit.pick (B := [_]) qP (Fit.pick qP (Fit.last qP))))))), (vb, blk [.pointer (some ⟨pb.1, 0, none⟩), (vP kb), u1, v15] 93) :: (B1 ++ (B15 ++ MK')), (pb.1, blk [.int .u8 1, sv, (vI s.n), .pointer (some ⟨pb.2, 0, none⟩)] 118) :: (B ++ MT'), h', by simp, hclo, ⟨u1, v15, rows, B1, B15, MK', rfl, hs1, hrw, by rw [List.length_append, List.map_append]; exact hs15, hK'⟩, Prm.of hby hT'⟩
theorem B7f (vb kb : Nat) (pb : Nat × Nat) (s : Ps) (h : List Bool) (es : List Ev) (ow : LN) (v : Value) (p : LN) (MA MP R A : Mem) (hA : Adv R vb kb pb h es ow MA) (hP : Prm pb s MP) (hl : h.length ≤ s.ts.length) (hn : s.ts.length + 10 ≤ 1048576) (hel : es.length ≤ 1000) (hp : By A v p) (ho : dcO p = true) (hG : Glb A) : FnX Tryz.prog 9 [(vP vb), v] (MA ++ MP) A fun q M J => ∃ MA' MP' h', M = MA' ++ MP' ∧ Clo (N4 s.ts h (trN (dcE p))).1 (N4 s.ts h (trN (dcE p))).2 h' ∧ Adv (J ++ R) vb kb pb h' (es ++ [dcE p]) ow MA' ∧ Prm pb { s with ts := (N4 s.ts h (trN (dcE p))).1 } MP' := by
 obtain ⟨u1, u2, rows, B1, B2, MK, rfl, hs1, hrw, hs2, hK⟩ := hA.ex
 obtain ⟨sv, bm, B, MT, rfl, hby, hT⟩ := hP.tb
 obtain ⟨ge4, gf4, h4⟩ := hG.pow
 haveI := hs1.cel
 haveI := hs2.cel
 haveI := hby.cel
 haveI := hp.cel
 have hll : (trN (dcE p)).length ≤ 6 := by unfold trN; split <;> simp
 refine FnX.enterZ (N := 32) Tryz.func9 rfl rfl rfl fun w_ => ?_
 refine A8 (D0 0 1) (A6 (A1 (mv_ ?_)))
 refine A2 (C9 (e := 93) rfl rfl kR) rfl ?_
 refine A0 (E5 0 1 7) ?_
 refine B0 rfl ?_
 refine A5 (nx (D0 0 1) (A1 (mv_ ?_)))
 refine E0 (aS rfl a0) kR (B2Q v p _ (hp.mono qS)) rfl ?_
 rintro v10 M10 J10 ⟨rfl, ev, rfl, hev⟩
 rw [ho] at hev ⊢
 rw [show (if true = true then dcE p else ev0) = dcE p from rfl] at hev
 rw [show (if true = true then (0 : Int) else 4) = 0 from rfl]
 obtain ⟨vs, q0, q1, q2, vk, vg, rfl, he_⟩ := hev
 haveI := he_.ses.cel
 haveI := he_.he.ia.cel
 haveI := he_.he.ig.cel
 haveI := he_.he.key.cel
 haveI := he_.hk.cel
 haveI := he_.g.cel
 unfold evC
 refine mv_ ?_
 refine A2 (R6 rfl) rfl ?_
 refine A2 (R4 rfl) rfl ?_
 refine A4 rfl (D2 (cs := [G8, G8, G8, G8, vS, .bool false, vS, vS, vS, E4, .bool false, E4, vS, E4, E4, vS]) kR rfl fun b4 => ?_)
 refine A4 rfl (B8 (vs := [.int .i64 (dcE p).fu, .int .i64 (dcE p).fd, .int .i64 (dcE p).tu, .int .i64 (dcE p).td, vs, .bool (dcE p).has, q0, q1, q2, .int .u32 (((dcE p).he.signed : Nat) : Int), .bool (dcE p).he.has, .int .u32 (((dcE p).he.once : Nat) : Int), vk, .int .u32 (((dcE p).hp : Nat) : Int), .int .u32 (((dcE p).hn : Nat) : Int), vg]) rfl rfl rfl kR qR (A3 rfl (A3 rfl (A3 rfl (A3 rfl (A3 he_.ses.one (A3 rfl (A3 he_.he.ia.one (A3 he_.he.ig.one (A3 he_.he.key.one (A3 rfl (A3 rfl (A3 rfl (A3 he_.hk.one (A3 rfl (A3 rfl (A3 he_.g.one H9)))))))))))))))) UpC.upd ?_)
 refine as_ (A0 (E5 0 4 5) (A1 (mv_ ?_)))
 refine A2 (F0 true rfl rfl (eqT rfl)) rfl ?_
 refine A0 (E5 0 4 14) ?_
 refine E9 rfl ?_
 refine G5 [0, 1, 2, 3, 4, 5, 6, 8, 9] (zp 0 [0, 0, 0, 0, 1, 1, 2, 2, 0, 0, 2]) kR kR fun hs => ?_
 refine fm_ hs ?_
 refine fm_ hs ?_
 refine E8 hs rfl (D8 rfl) rfl ?_
 refine E8 hs rfl (qf_ 2 2) rfl ?_
 refine R5 hs rfl ql_ rfl ?_
 refine R5 hs rfl (qw_ 16) rfl ?_
 refine A5s rfl rfl fun _ => (C4 (e := 37) (sz := 16) (z := [G8, G8, G8, G8, vS, .bool false, vS, vS, vS, E4, .bool false, E4, vS, E4, E4, vS]) kR (eS rfl e0) (bdS 0 16 rfl qR bd0) rfl fun b21 => ?_)
 refine L7 rfl rfl rfl (F6 (e := 37) (sz := 16) (by_ := 208) rfl rfl kR rfl hs1 (Rd.whole (n := 1) At.mem qR) (A96 he_) qP (by unfold maxLen; omega) qO rfl fun v22 B22 hs22 => ?_)
 haveI := hs22.cel
 refine E8 hs rfl (D8 rfl) rfl ?_
 refine E8 hs rfl (qf_ 2 2) rfl ?_
 refine L7 rfl rfl rfl (F8 rfl rfl hs22.one kR SetC.set UpC.upd ?_)
 refine I2 (D0 0 4) ?_
 refine S3 [0, 1, 2, 3, 4, 5] (zp 0 [0, 0, 0, 1, 1, 2, 2]) kR kR fun hs => ?_
 refine fm_ hs ?_
 refine E8 hs rfl (D8 rfl) rfl ?_
 refine E8 hs rfl (qf_ 1 1) rfl ?_
 refine R5 hs rfl ql_ rfl ?_
 refine R5 hs rfl (qw_ 16) rfl ?_
 refine Y9 rfl (aS rfl a0) kR (A5e (dcE p).fu (dcE p).fd (dcE p).tu (dcE p).td vs (dcE p).has q0 q1 q2 (dcE p).he.signed (dcE p).he.has (dcE p).he.once vk (dcE p).hp (dcE p).hn vg he_.ses.one he_.he.ia.one he_.he.ig.one he_.he.key.one he_.hk.one he_.g.one _) rfl ?_
 rintro v30 M30 J30 hs30
 have hlv := B8C he_ hs30
 haveI := hs30.cel
 refine L7 rfl rfl rfl (A9 (Mc := MK ++ MT) (R := _) (aS rfl (aS rfl a0)) kR qP (T8 kb pb.2 bm s.ts h v30 (trN (dcE p)) MK MT _ hK hT (hlv.mono qS) hl qO (qS _ h4)) rfl ?_)
 rintro v31 M31 J31 ⟨h', MK', MT', rfl, hclo, hK', hT'⟩
 refine A10 ?_
 exact ⟨_, (vb, blk [.pointer (some ⟨pb.1, 0, none⟩), (vP kb), v22, u2] 93) :: (B22 ++ (B2 ++ (MK' ++ ((pb.1, blk [.int .u8 1, sv, (vI s.n), .pointer (some ⟨pb.2, 0, none⟩)] 118) :: (B ++ MT'))))), [], A2V rfl, Fit.none (Fit.pick (B := [_]) qP (Fit.pick qP (Fit.pick qP (Fit.pick qP (Fit.pick (B := [_]) qP (Fit.pick qP (Fit.last qP))))))), (vb, blk [.pointer (some ⟨pb.1, 0, none⟩), (vP kb), v22, u2] 93) :: (B22 ++ (B2 ++ MK')), (pb.1, blk [.int .u8 1, sv, (vI s.n), .pointer (some ⟨pb.2, 0, none⟩)] 118) :: (B ++ MT'), h', by simp, hclo, ⟨v22, u2, rows ++ [[.int .i64 (dcE p).fu, .int .i64 (dcE p).fd, .int .i64 (dcE p).tu, .int .i64 (dcE p).td, vs, .bool (dcE p).has, q0, q1, q2, .int .u32 (((dcE p).he.signed : Nat) : Int), .bool (dcE p).he.has, .int .u32 (((dcE p).he.once : Nat) : Int), vk, .int .u32 (((dcE p).hp : Nat) : Int), .int .u32 (((dcE p).hn : Nat) : Int), vg]], B22, B2, MK', rfl, by rw [List.length_append, List.flatten_append]; simpa using hs22, (hrw.mono evT qS).snoc ⟨vs, q0, q1, q2, vk, vg, rfl, he_.mono qS⟩, hs2, hK'⟩, Prm.of hby hT'⟩

theorem B7g (i : Int) (A : Mem) : FnV Tryz.prog 85 [.int .i64 i, .int .i64 0] A (.int .i64 (-1)) := by
 refine FnX.enter (N := 13) Tryz.func85 rfl rfl rfl fun w_ => ?_
 refine A8 (D0 0 1) (A1 (as_ (A0 (D0 0 1) (A6 (A1 (mv_ ?_))))))
 refine A2 (F0 true rfl rfl (eqT rfl)) rfl ?_
 refine A0 (E5 0 1 6) ?_
 refine E9 rfl ?_
 refine A1 (as_ (A0 (C7 4) (A7 (tr ?_))))
 exact ⟨_, [], [], F7 rfl rfl, List.nil_sublist _, by simp, rfl, rfl, rfl⟩
theorem B5h (vb kb : Nat) (pb : Nat × Nat) (u1 u2 : Value) (A : Mem) (hv : (vb, blk [.pointer (some ⟨pb.1, 0, none⟩), (vP kb), u1, u2] 93) ∈ A) (hr : Rd A 16 u1 0 []) : FnX Tryz.prog 48 [(vP vb), .agg #[.int .u8 0, .int .i64 0, .int .i64 0, .int .i64 0, .int .i64 0, .int .i64 0, .int .i64 0, .int .u32 0, vS], .agg #[.int .i64 0, .int .i64 0, vS, vS, .int .u32 0, vS, vS, .bool false, .int .u32 0, vS]] [] A fun q M J => M = [] ∧ q = .tuple #[.agg #[.int .i64 0, .int .i64 0, .int .i64 0, .int .i64 0, vS, .bool false, vS, vS, vS, .int .u32 0, .bool false, .int .u32 0, vS, .int .u32 0, .int .u32 0, vS], .int .i64 2] := by
 haveI := hr.cel
 refine FnX.enterZ (N := 154) Tryz.func48 rfl rfl rfl fun w_ => ?_
 refine A8 (E5 0 1 2) (A1 ?_)
 refine A4 rfl (bx_ fun b4 => ?_)
 refine A4 rfl (bx_ fun b5 => ?_)
 refine A4 rfl (D2 (cs := [G8, G8, G8, G8, vS, .bool false, vS, vS, vS, E4, .bool false, E4, vS, E4, E4, vS]) kR rfl fun b6 => ?_)
 refine as_ (A0 (F4 0 4 5 6) (A6 (A1 ?_)))
 refine A2 (qf_ 0 0) rfl ?_
 refine A2 ql_ rfl ?_
 refine A2 (F0 false rfl rfl (eqF qD)) rfl ?_
 refine A0 (G6 0 4 5 6 17) ?_
 refine B0 rfl ?_
 refine A5 (nx (F4 0 4 5 6) ?_)
 refine G5 (.range 9) (zp 0 [0, 1, 0, 0, 0, 1, 0, 2, 0]) kR kR fun hs => ?_
 refine E8 hs rfl (qf_ 1 1) rfl ?_
 refine R5 hs rfl ql_ rfl ?_
 refine fm_ hs ?_
 refine E8 hs rfl (D8 rfl) rfl ?_
 refine E8 hs rfl (qf_ 2 2) rfl ?_
 refine R5 hs rfl (G3 rfl kR (mA hv) qR) rfl ?_
 refine E8 hs rfl (E2 (sz := 16) rfl kR hr) rfl ?_
 refine Q2 rfl (aS rfl (aS rfl a0)) kR (B7g 0 _) rfl ?_
 refine fa_ hs ?_
 refine I2 (G6 0 4 5 6 8) (A6 (A1 (mv_ ?_)))
 refine A2 (F0 true rfl rfl (ltT qD)) rfl ?_
 refine A0 (I7 0 4 5 6 8 33) ?_
 refine E9 rfl ?_
 refine A1 ?_
 refine A2 (D6 (place := fun x => #[(0, 2), (2, 2), (4, 1), (5, 1), (6, 6), (12, 3), (15, 1)][x]?) (z := [G8, G8, G8, G8, vS, .bool false, vS, vS, vS, E4, .bool false, E4, vS, E4, E4, vS]) (fun _ => by kernel_rfl) e0 bd0) rfl ?_
 refine A4 rfl (B8 (vs := [.int .i64 0, .int .i64 0, .int .i64 0, .int .i64 0, vS, .bool false, vS, vS, vS, .int .u32 0, .bool false, .int .u32 0, vS, .int .u32 0, .int .u32 0, vS]) rfl rfl rfl kR qR B3o UpC.upd ?_)
 refine as_ (A0 (D0 6 7) (A7 (tr ?_)))
 exact ⟨_, [], [], W0 (n := 16) rfl rfl rfl kR At.mem qR, qZ, rfl, rfl⟩
theorem B5i (vb kb : Nat) (pb : Nat × Nat) (u1 u2 : Value) (A : Mem) (hv : (vb, blk [.pointer (some ⟨pb.1, 0, none⟩), (vP kb), u1, u2] 93) ∈ A) (hr : Rd A 16 u1 0 []) : FnX Tryz.prog 17 [(vP vb), .agg #[.int .u8 0, .int .i64 0, .int .i64 0, .int .i64 0, .int .i64 0, .int .i64 0, .int .i64 0, .int .u32 0, vS], .agg #[.int .i64 0, .int .i64 0, vS, vS, .int .u32 0, vS, vS, .bool false, .int .u32 0, vS]] [] A fun q M J => M = [] ∧ q = .tuple #[vS, .int .i64 2] := by
 haveI := hr.cel
 refine FnX.enterZ (N := 42) Tryz.func17 rfl rfl rfl fun w_ => ?_
 refine A8 (E5 0 1 2) (A1 ?_)
 refine A4 rfl (bx_ fun b4 => ?_)
 refine A4 rfl (bx_ fun b5 => ?_)
 refine as_ (as_ (A0 (E5 0 4 5) (A6 (A1 (mv_ ?_)))))
 refine A2 (C9 (e := 93) rfl rfl kR) rfl ?_
 refine A0 (F4 0 4 5 11) ?_
 refine B0 rfl ?_
 refine A5 (nx (E5 0 4 5) (A6 (A1 ?_)))
 refine A2 (qf_ 0 0) rfl ?_
 refine A2 ql_ rfl ?_
 refine A2 (F0 false rfl rfl (eqF qD)) rfl ?_
 refine A0 (F4 0 4 5 14) ?_
 refine B0 rfl ?_
 refine A5 (nx (E5 0 4 5) (A1 (mv_ ?_)))
 refine A2 (qw_ 9) rfl ?_
 refine A2 (qw_ 10) rfl ?_
 refine E0 (aS rfl (aS rfl (aS rfl a0))) kR (B5h vb kb pb u1 u2 _ (mA hv) (hr.mono qS)) rfl ?_
 rintro v22 M22 J22 ⟨rfl, rfl⟩
 refine mv_ ?_
 refine A2 (R6 rfl) rfl ?_
 refine A2 (R4 rfl) rfl ?_
 refine A4 rfl (D2 (cs := [G8, G8, G8, G8, vS, .bool false, vS, vS, vS, E4, .bool false, E4, vS, E4, E4, vS]) kR rfl fun b8 => ?_)
 refine A4 rfl (B8 (vs := [.int .i64 0, .int .i64 0, .int .i64 0, .int .i64 0, vS, .bool false, vS, vS, vS, .int .u32 0, .bool false, .int .u32 0, vS, .int .u32 0, .int .u32 0, vS]) rfl rfl rfl kR qR B3o UpC.upd ?_)
 refine as_ (A0 (E5 0 8 9) (A6 (A1 (mv_ ?_))))
 refine A2 (F0 true rfl rfl (neT qD)) rfl ?_
 refine A0 (F4 0 8 9 26) ?_
 refine E9 rfl ?_
 refine A1 (mv_ (as_ (as_ (A0 (D0 6 7) (A7 (tr ?_))))))
 exact ⟨_, [], [], A1g rfl rfl rfl, qZ, rfl, rfl⟩

end Go.Proofs.YtoameenjkiaefaaGreatDoor
namespace Go.Px
theorem St.frzInto {C : Cx} {w : World} : ∀ (M J : Mem), St C M J w → ∃ J2, (∀ x, x ∈ M ++ J → x ∈ J2) ∧ St C [] J2 w
  | [], J, h => ⟨J, fun x hx => hx, h⟩
  | y :: M, J, h => by
    obtain ⟨J2, h1, h2⟩ := St.frzInto M (y :: J) h.freeze
    refine ⟨J2, fun x hx => h1 x ?_, h2⟩
    simp only [List.cons_append, List.mem_cons, List.mem_append] at hx ⊢
    rcases hx with hx | hx | hx
    · exact .inr (.inl hx)
    · exact .inl hx
    · exact .inr (.inr hx)
theorem OpL.frzAll {C : Cx} {o : Oper} {l : Env} {M J : Mem} {K : Env → Mem → Mem → Prop} (h : OpL C o l M J fun l' M' J' => ∀ J2, (∀ x, x ∈ M' ++ J' → x ∈ J2) → K l' [] J2) : OpL C o l M J K := fun Qp a w ha hw =>
  Oper.wp_mono (fun a' w' ⟨l', M', J', h1, h2, h3⟩ => by
    obtain ⟨J2, g1, g2⟩ := St.frzInto M' J' h2
    exact ⟨l', [], J2, h1, g2, h3 J2 g1⟩) (h Qp a w ha hw)
end Go.Px

namespace Go.Proofs.YtoameenjkiaefaaGreatDoor
open Go.Px
theorem A5W {pb : Nat × Nat} {s : Ps} {ts : List Tm} {M : Mem} (h : Prm pb { s with ts := ts } M) (e : ts = s.ts) : Prm pb s M := by subst e; exact h
def A2L (R : Mem) (v : Value) (x : Ses) : Prop := ∃ vi vw p r u vo vt vr vk vl vst, v = .agg (seC vi vw p r u vo vt vr vk vl vst x).toArray ∧ SeR R x vi vw p r u vo vt vr vk vl vst
theorem A2L.mono {R R' : Mem} {v : Value} {x : Ses} (h : A2L R v x) (hR : ∀ z, z ∈ R → z ∈ R') : A2L R' v x := by
  obtain ⟨a, b, c, d, e, f, g, i, j, k, l, h1, h2⟩ := h
  exact ⟨a, b, c, d, e, f, g, i, j, k, l, h1, h2.mono hR⟩
def KyE (R : Mem) (kb : Nat) (k : Ks) : Prop := ∃ va vg vq vo vm rs ro rm, KyR R kb k va vg vq vo vm rs ro rm
theorem KyE.mono {R R' : Mem} {kb : Nat} {k : Ks} (h : KyE R kb k) (hR : ∀ z, z ∈ R → z ∈ R') : KyE R' kb k := by
  obtain ⟨a, b, c, d, e, f, g, i, h⟩ := h
  exact ⟨a, b, c, d, e, f, g, i, h.mono hR⟩
theorem B8D : aU.1[1]? = some aY := by
  have h := af.1.2.2.1
  unfold aY
  rw [List.getD_eq_getElem?_getD, List.getElem?_eq_getElem qO]; rfl
structure HS (i : Nat) (h : List Bool) : Prop where
  len : h.length ≤ 24
  up : Le h aH
  lo : ∀ b ∈ aU.1.take i, ∀ x ∈ lrI aU.2.ts (shN b), kat h x = true
theorem B5j {i : Nat} {b : Bn} {h h' : List Bool} (hb : aU.1[i]? = some b) (hh : HS i h) (hc : Clo (N4 aU.2.ts h (shN b)).1 (N4 aU.2.ts h (shN b)).2 h') : HS (i + 1) h' ∧ (N4 aU.2.ts h (shN b)).1 = aU.2.ts := by
  obtain ⟨⟨f1, f2, f3, f4, f5, f6, -⟩, -, -, -, -, hall, -, hcl, -⟩ := af
  have h1 := List.all_eq_true.1 hall b (List.mem_of_getElem? hb)
  rw [Bool.and_eq_true] at h1
  have hl : h.length ≤ aU.2.ts.length := by have := hh.len; omega
  obtain ⟨-, d2, d3, d4⟩ := A0p hl h1.1 hc
  refine ⟨⟨by omega, A6J hl h1.1 hc hh.up (by rw [hcl, Bool.true_and]; exact h1.2), fun c hcm x hx => ?_⟩, (Y2 (shN b) aU.2.ts h hl h1.1).1⟩
  rw [List.take_add_one, hb] at hcm
  rcases List.mem_append.1 hcm with hm | hm
  · exact d2 x (hh.lo c hm x hx)
  · have e : c = b := by simpa using hm
    subst e
    exact d3 x hx
structure HQ (h : List Bool) : Prop where
  len : h.length = 43
  up : Le h aH
  lo : ∀ x ∈ lS ++ lT, kat h x = true
  tr : ∀ x ∈ lrI aE.ts (trN aV), kat h x = true
theorem HS.nil : HS 0 [] := ⟨Nat.zero_le _, fun i hi => by simp [kat] at hi, fun b hb => by simp at hb⟩
theorem B7h {h h' : List Bool} (hl : h.length ≤ aE.ts.length) (up : Le h aH) (lo : ∀ x ∈ lS, kat h x = true) (hc : Clo (N4 aE.ts h (trN aV)).1 (N4 aE.ts h (trN aV)).2 h') : HQ h' ∧ (N4 aE.ts h (trN aV)).1 = aE.ts := by
  obtain ⟨-, -, -, ⟨-, -, -, -, -, -, -, g8, -⟩, -, -, -, -, h1, h2, h3, -⟩ := af
  rw [Bool.and_eq_true] at h1
  obtain ⟨-, d2, d3, d4⟩ := A0p hl h1.1 hc
  refine ⟨⟨by omega, A6J hl h1.1 hc up (by rw [h3, Bool.true_and]; exact h1.2), fun x hx => ?_, d3⟩, (Y2 (trN aV) aE.ts h hl h1.1).1⟩
  rcases List.mem_append.1 hx with hx | hx
  · exact d2 x (lo x hx)
  · exact d3 x (by simpa using List.all_eq_true.1 h2 x hx)
theorem HS.lS {h : List Bool} (hh : HS 5 h) : ∀ x ∈ lS, kat h x = true := by
  obtain ⟨⟨-, -, f3, -⟩, -, -, -, -, -, hs, -⟩ := af
  intro x hx
  obtain ⟨b, hb, hx2⟩ := List.any_eq_true.1 (List.all_eq_true.1 hs x hx)
  exact hh.lo b (by rw [List.take_of_length_le qO]; exact hb) x (by simpa using hx2)
theorem B8E : StH aA.1 aY aU.2 := by
  obtain ⟨-, -, ⟨h1, h2, h3, h4, h5, h6⟩, -⟩ := af
  exact ⟨h1, h2, h3, h4, h5, h6⟩
theorem B7i : dcO (A35 aV) = true ∧ dcE (A35 aV) = aV := by
  obtain ⟨-, -, -, -, h, -⟩ := af
  rw [Bool.and_eq_true] at h
  exact ⟨h.1, B5e h.2⟩
theorem A1B : aA.1.user = 0 ∧ aA.1.dev = 1 ∧ aB.1.user = 1 ∧ aB.1.dev = 1 := by decide +kernel
theorem B7j {P : Program} {fn : Func} {l : Env} {R : Mem} {a1 a2 a3 a4 t b n : Nat} {ty : TypeId} {cs : List Value} {e : TypeId} {fr : Nat × Nat} {v1 v2 v3 v4 : Value} (h : fn.results = #[.tmp a1, .tmp a2, .tmp a3, .tmp a4, .cell t ty]) (h1 : lk l a1 = some v1) (h2 : lk l a2 = some v2) (h3 : lk l a3 = some v3) (h4 : lk l a4 = some v4) (hv : lk l t = some (vP b)) (ht : A4q P ty = some n)
    (hb : (b, Obj.cells cs.toArray e fr) ∈ R) (hn : cs.length = n) : Res P fn l R (.tuple #[v1, v2, v3, v4, .agg cs.toArray]) := fun N a w ha hw => by
  obtain ⟨dsc, g1, g2, g3⟩ := L9 ht
  have hl := run_loadVar_row (P := P) w b e ty cs.toArray fr dsc (hw b _ hb) g1 (by cases dsc <;> simp_all [TypeDesc.isRow]) (by rw [g3, ← hn]; simp)
  simp [results, h, ha.slot a1 _ h1, ha.slot a2 _ h2, ha.slot a3 _ h3, ha.slot a4 _ h4, ha.slot t _ hv, asAddr, hl]
set_option maxHeartbeats 1000000 in
theorem A6T (A : Mem) (hG : Glb A) : FnX Tryz.prog 8 [] [] A fun q M J => ∃ vb kb k1 k2 pb h MA MP es ep er eu ek eg, q = .tuple #[.pointer (some ⟨pb.1, 0, none⟩), (vP vb), (vP k1), (vP k2), .agg (evC es ep er eu ek eg aV).toArray] ∧ M = MA ++ MP ∧ Adv (J ++ A) vb kb pb h [aV] [] MA ∧ Prm pb aE MP ∧ KyE (J ++ A) k1 aA.1 ∧ KyE (J ++ A) k2 aB.1 ∧ EvR (J ++ A) aV es ep er eu ek eg ∧ HQ h := by
 refine FnX.enterZ (N := 88) Tryz.func8 rfl rfl rfl fun w_ => ?_
 refine A8 kn (A1 (as_ (as_ (as_ (as_ ?_)))))
 refine A4 rfl (D2 (cs := [G8, G8, G8, G8, vS, .bool false, vS, vS, vS, E4, .bool false, E4, vS, E4, E4, vS]) kR rfl fun b4 => ?_)
 refine A0 (C7 4) (A1 ?_)
 refine E0 (aS rfl (aS rfl a0)) kR (A8H (vS) [] _ By.nil) rfl ?_
 rintro v18 MP J18 ⟨pb, rfl, hP⟩
 change Prm pb zP0 MP at hP
 have q1 := B4f 0 1 zP0
 change aA.2.ts.length ≤ 11 ∧ aA.2.n ≤ 7 ∧ _ at q1
 refine mv_ ?_
 refine A2 (R6 rfl) rfl ?_
 refine A2 (R4 rfl) rfl ?_
 refine as_ (as_ (A0 (E5 4 5 6) (A6 (A1 (mv_ ?_)))))
 refine A2 (F0 false rfl rfl (neF rfl)) rfl ?_
 refine A0 (E5 4 5 22) ?_
 refine B0 rfl ?_
 refine A5 (nx (D0 4 5) (A1 (mv_ ?_)))
 refine A2 (D6 (place := fun x => #[(0, 1), (1, 1)][x]?) (z := [.int .i64 0, .int .i64 0]) (fun _ => by kernel_rfl) (eS rfl (eS rfl e0)) (bdS 0 1 rfl qR (bdS 1 1 rfl qR bd0))) rfl ?_
 refine A4 rfl (A9 (Mc := MP) (R := _) (aS rfl (aS rfl (a0))) kR qP (FnX.amb qS (B4h 0 1 pb zP0 MP A hP (show 0 + 200 ≤ 1048576 by decide) (show 0 + 100 < 1000000000 by decide) hG)) rfl ?_)
 rintro v26 M26 J26 ⟨k1, MK1, MP2, rfl, rfl, hK1, hP2⟩
 change Kys _ k1 aA.1 MK1 at hK1
 change Prm pb aA.2 MP2 at hP2
 refine as_ (A0 (E5 4 5 7) (A1 (mv_ ?_)))
 refine A2 (D6 (place := fun x => #[(0, 1), (1, 1)][x]?) (z := [.int .i64 0, .int .i64 0]) (fun _ => by kernel_rfl) (eS rfl (eS rfl e0)) (bdS 0 1 rfl qR (bdS 1 1 rfl qR bd0))) rfl ?_
 refine A4 rfl (A9 (Mc := MP2) (R := _) (aS rfl (aS rfl (a0))) kR qP (FnX.amb qS (B4h 1 1 pb aA.2 MP2 (J26 ++ A) hP2 qO qO (hG.sub qS))) rfl ?_)
 rintro v29 M29 J29 ⟨k2, MK2, MP3, rfl, rfl, hK2, hP3⟩
 change Kys _ k2 aB.1 MK2 at hK2
 change Prm pb aB.2 MP3 at hP3
 refine as_ (A0 (F4 4 5 7 8) ?_)
 refine V7 (B := MK1) qP ?_
 refine V7 (B := MK2) qP ?_
 obtain ⟨va, vg, vq, vo, vm, rs, ro, rm, hra⟩ := hK1.r
 obtain ⟨ua, ug, uq, uo, um, ss, so, sm, hrb⟩ := hK2.r
 have haf := af
 obtain ⟨⟨f1, f2, f3, f4, f5, f6, fck⟩, far, -, ⟨g1_, g2_, g3_, g4_, g5_, g6_, g7_, g8_, g9_, ga_, gb_, gc_⟩, -⟩ := haf
 obtain ⟨x, hsg⟩ := List.length_eq_one_iff.1 f1
 refine A1 (mv_ ?_)
 refine E0 (aS rfl a0) kR (B20 pb aB.2 MP3 _ hP3 (fun z hz => by simp [hz])) rfl ?_
 rintro v31 M31 J31 ⟨vb, kb, rfl, hA31⟩
 refine as_ (A0 (G6 4 5 7 8 9) (A1 (mv_ (mv_ ?_))))
 refine A4 rfl (A9 (Mc := MP3) (R := _) (aS rfl (aS rfl (a0))) kR qP (FnX.amb qS (A2y pb aB.2 k2 aB.1 ua ug uq uo um ss so sm x [] MP3 (MK2 ++ (MK1 ++ (J29 ++ (J26 ++ A)))) (hrb _ qS qS) hsg hP3 qO qO (hG.sub qS))) rfl ?_)
 rintro v34 M34 J34 ⟨hP34, rows, hrd, hrw⟩
 haveI := hrd.cel
 change Prm pb aU.2 M34 at hP34
 change Rd _ 10 _ aU.1.length _ at hrd
 change RwL bnR _ rows aU.1 at hrw
 refine as_ (A0 (I7 4 5 7 8 9 10) (A6 (A1 (mv_ ?_))))
 refine A2 (E2 (sz := 10) rfl kR hrd) rfl ?_
 rw [f3]
 refine A2 (F0 false rfl rfl (neF qR)) rfl ?_
 refine mv_ ?_
 refine C0 rfl rfl (OpQ.opL qm_ rfl ?_)
 refine C0 rfl rfl (OpQ.opL (C9 (e := 93) rfl rfl kR) rfl ?_)
 refine A2 (C8 rfl rfl) rfl ?_
 refine A0 (S9 4 5 7 8 9 10 41) ?_
 refine B0 rfl ?_
 refine A5 (nx (I7 4 5 7 8 9 10) (A6 (A1 (as_ (A0 (S9 4 5 7 8 9 10 11) (C5 ?_))))))
 refine H0 (α := Nat × List Bool × Mem × Mem) (fun y => [(4, (vP b4)), (5, .pointer (some ⟨pb.1, 0, none⟩)), (7, (vP k1)), (8, (vP k2)), (9, (vP vb)), (10, v34), (11, (vI y.1))]) (fun y => (b4, blk [.int .i64 0, .int .i64 0, .int .i64 0, .int .i64 0, vS, .bool false, vS, vS, vS, .int .u32 0, .bool false, .int .u32 0, vS, .int .u32 0, .int .u32 0, vS] 37) :: (y.2.2.1 ++ y.2.2.2)) (fun _ => (J34 ++ (MK2 ++ (MK1 ++ (J29 ++ J26))))) (fun y => y.1 ≤ 5 ∧ HS y.1 y.2.1 ∧ Adv [] vb kb pb y.2.1 [] [] y.2.2.1 ∧ Prm pb aU.2 y.2.2.2) (fun y => 5 - y.1) (0, [], M31, M34) ⟨Nat.zero_le _, HS.nil, hA31 _, hP34⟩ (S9 4 5 7 8 9 10 11) (Fit.pick (B := [_]) qP (Fit.pick qP (Fit.last qP))) (fun z hz => by simp only [List.mem_append] at hz ⊢; rcases hz with h | h | h | h | h <;> simp [h]) ?_
 rintro ⟨i, h, MA, MQ⟩ ⟨hi, hS, hA, hQ⟩
 dsimp only at hi hS hA hQ ⊢
 refine A6 (A1 (mv_ (mv_ ?_)))
 refine A2 (E2 (sz := 10) rfl kR hrd) rfl ?_
 rw [f3]
 refine A2 (F3 rfl rfl rfl) rfl ?_
 refine A0 (A0A 4 5 7 8 9 10 11 46) ?_
 refine C3 rfl ?_ ?_ <;> intro hc
 ·
  have hlt : i < 5 := by have := of_decide_eq_true hc; omega
  obtain ⟨y, hy⟩ : ∃ y, aU.1[i]? = some y := ⟨_, List.getElem?_eq_getElem qO⟩
  obtain ⟨r0, hr0, w1, w2, w3, w4, w5, rfl, gw1, gw2, gw3, gw4, gw5, gws, gwo⟩ := hrw.get i y hy
  haveI := gw1.cel
  haveI := gw2.cel
  haveI := gw3.cel
  haveI := gw4.cel
  haveI := gw5.cel
  refine A5 (nx (S9 4 5 7 8 9 10 11) (A6 (C5 (C6 (mv_ (mv_ (mv_ ?_)))))))
  refine A2 (F2 (sz := 10) (a := i) rfl rfl kR rfl hrd qO) rfl ?_
  refine A2 (U4 rfl kR (hrd.mono qS) (hrw.lens bnT) qD hr0) rfl ?_
  refine A4 rfl (A9 (Mc := MA ++ MQ) (R := _) (aS rfl (aS rfl (a0))) kR qP (B5g vb kb pb aU.2 h [] [] y w1 w2 w3 w4 w5 MA MQ [] _ hA hQ (by have := hS.len; omega) qO (gw1.mono qS) (gw2.mono qS) (gw3.mono qS) (gw4.mono qS) (gw5.mono qS) hG.up) rfl ?_)
  rintro v54 M54 J54 ⟨MA2, MQ2, h2, rfl, hclo, hA2, hQ2⟩
  obtain ⟨hS2, hts⟩ := B5j hy hS hclo
  replace hQ2 := A5W hQ2 hts
  refine E1 (nb (nx (S9 4 5 7 8 9 10 11) (C6 (mv_ ?_))))
  refine A2 (Q0 ((i + 1 : Nat) : Int) rfl rfl (W1 qO qO qO)) rfl ?_
  refine as_ (E1 ?_)
  exact rn (i + 1, h2, MA2, MQ2) ⟨hlt, hS2, hA2, hQ2⟩ (by dsimp only; omega) (S9 4 5 7 8 9 10 11) (Fit.pick (B := [_]) qP (Fit.pick qP (Fit.last qP))) (fun z hz => List.mem_append_right _ hz)
 ·
  obtain rfl : i = 5 := by have := of_decide_eq_false hc; omega
  obtain ⟨r0, hr0, w1, w2, w3, w4, w5, rfl, gw1, gw2, gw3, gw4, gw5, gws, gwo⟩ := hrw.get 1 aY B8D
  haveI := gw1.cel
  haveI := gw2.cel
  haveI := gw3.cel
  haveI := gw4.cel
  haveI := gw5.cel
  refine G4 (te (re (be rfl (nx (I7 4 5 7 8 9 10) (A1 (mv_ (mv_ (mv_ ?_))))))))
  refine A2 (F2 (sz := 10) (a := 1) rfl rfl kR rfl hrd (by rw [f3]; decide)) rfl ?_
  refine A2 (U4 rfl kR (hrd.mono qS) (hrw.lens bnT) qD hr0) rfl ?_
  refine A4 rfl (A9 (Mc := MQ) (R := _) (aS rfl (aS rfl (aS rfl (a0)))) kR qP (FnX.amb qS (A6S pb aU.2 k1 aA.1 va vg vq vo vm rs ro rm aY w1 w2 w3 w4 w5 MQ (J34 ++ (MK2 ++ (MK1 ++ (J29 ++ (J26 ++ A))))) (hra _ qS qS) hQ far qO qO (gw1.mono qS) (gw2.mono qS) (gw3.mono qS) (gw4.mono qS) (gw5.mono qS) gws gwo fck B8E (hG.sub qS))) rfl ?_)
  rintro v61 M61 J61 ⟨vi, vw, p, r, u, xo, xt, xr, xk, xl, xq, rfl, hP61, hx⟩
  change SeR _ aX vi vw p r u xo xt xr xk xl xq at hx
  change Prm pb aD M61 at hP61
  rw [show sX aA.1 aY aU.2 = aX from rfl]
  haveI := hx.id.cel
  haveI := hx.wi.cel
  haveI := hx.he.ia.cel
  haveI := hx.he.ig.cel
  haveI := hx.he.key.cel
  haveI := hx.r.own.cel
  haveI := hx.r.their.cel
  haveI := hx.r.root.cel
  haveI := hx.r.sk.cel
  haveI := hx.r.tk.cel
  haveI := hx.r.st.cel
  unfold seC
  refine mv_ ?_
  refine A2 (R6 rfl) rfl ?_
  refine A2 (R4 rfl) rfl ?_
  refine A4 rfl (D2 (cs := [vS, vS, vS, vS, vS, E4, .bool false, E4, .bool false, vS, vS, vS, vS, E4, vS, E4, E4, .pointer none]) kR rfl fun b12 => ?_)
  refine A4 rfl (B8 (vs := [vi, vw, p, r, u, (vU aX.he.signed), .bool aX.he.has, (vU aX.he.once), .bool aX.tell, xo, xt, xr, xk, (vU aX.r.sn), xl, (vU aX.r.tn), (vU aX.r.prev), xq]) rfl rfl rfl kR qR (A3 hx.id.one (A3 hx.wi.one (A3 hx.he.ia.one (A3 hx.he.ig.one (A3 hx.he.key.one (A3 rfl (A3 rfl (A3 rfl (A3 rfl (A3 hx.r.own.one (A3 hx.r.their.one (A3 hx.r.root.one (A3 hx.r.sk.one (A3 rfl (A3 hx.r.tk.one (A3 rfl (A3 rfl (A3 hx.r.st.one H9)))))))))))))))))) UpC.upd ?_)
  refine as_ (A0 (I7 4 5 7 8 9 12) ?_)
  refine A1T (M' := M61 ++ ([(b12, blk [vi, vw, p, r, u, (vU aX.he.signed), .bool aX.he.has, (vU aX.he.once), .bool aX.tell, xo, xt, xr, xk, (vU aX.r.sn), xl, (vU aX.r.tn), (vU aX.r.prev), xq] 74), (b4, blk [.int .i64 0, .int .i64 0, .int .i64 0, .int .i64 0, vS, .bool false, vS, vS, vS, .int .u32 0, .bool false, .int .u32 0, vS, .int .u32 0, .int .u32 0, vS] 37)] ++ MA)) (J' := J61 ++ (J34 ++ (MK2 ++ (MK1 ++ (J29 ++ J26))))) (Fit.pick qP (Fit.pick (B := [_]) qP (Fit.pick (B := [_]) qP (Fit.last qP)))) (fun z hz => hz) ?_
  refine E6 (M61) (_) true [0, 1, 2, 3, 4, 5, 6, 7, 8, 9, 10, 11, 12, 13, 14, 15, 16, 19] [(0, 0), (1, 1), (2, 0), (4, 0), (3, 8), (5, 8), (6, 8), (7, 8), (8, 8), (9, 8), (10, 8), (11, 8), (12, 8), (15, 8), (16, 8), (13, 9), (14, 10), (17, 2), (18, 2), (19, 0)] kR kR qP fun hs K n0 hKm hKs hKn => ?_
  refine km_ hs ?_
  refine I1 hs rfl hKs (E7 (n := 18) (vs := [vi, vw, p, r, u, (vU aX.he.signed), .bool aX.he.has, (vU aX.he.once), .bool aX.tell, xo, xt, xr, xk, (vU aX.r.sn), xl, (vU aX.r.tn), (vU aX.r.prev), xq]) rfl kR At.mem rfl (D3 [] [vi, vw, p, r, u, (vU aX.he.signed), .bool aX.he.has, (vU aX.he.once), .bool aX.tell, xo, xt, xr, xk, (vU aX.r.sn), xl, (vU aX.r.tn), (vU aX.r.prev), xq] [])) ?_
  refine km_ hs ?_
  refine km_ hs ?_
  refine A0b [⟨3, 68, none, [], fun v B _ => B = [] ∧ v = .agg #[.int .i64 aA.1.user, .int .i64 aA.1.dev]⟩, ⟨5, 70, none, [], fun v B _ => B = [] ∧ v = .agg #[.int .i64 aB.1.user, .int .i64 aB.1.dev]⟩, ⟨6, 71, none, [], fun v B _ => ∃ b, v = .slice (some ⟨b, 0, none⟩) 6 6 ∧ B = [(b, blk (I3 .u8 [115, 101, 99, 114, 101, 116]) 5)]⟩, ⟨7, 72, some 6, [], fun v B R => B = [] ∧ By R v B1O⟩, ⟨8, 73, none, [], fun v B R => B = [] ∧ ∃ w0, v = .agg #[.int .i64 1, (vU 1), w0] ∧ By R w0 B1O⟩, ⟨9, 74, none, [], fun v B R => B = [] ∧ By R v aT⟩, ⟨10, 75, none, M61, fun v B R => ∃ q1 q2, v = .tuple #[q1, q2, .int .i64 0] ∧ Prm pb aE B ∧ A2L R q1 (A0P aX (P1 aD aX.r)) ∧ EvV R q2 aV⟩, ⟨11, 64, none, [], fun v B R => B = [] ∧ ∃ q1 q2, v = .tuple #[q1, q2, .int .i64 0] ∧ A2L R q1 (A0P aX (P1 aD aX.r)) ∧ EvV R q2 aV⟩, ⟨12, 76, none, [], fun v B R => B = [] ∧ A2L R v (A0P aX (P1 aD aX.r))⟩, ⟨15, 14, none, [], fun v B _ => ∃ b, v = (vP b) ∧ B = [(b, blk [vS, vS, vS, vS, vS, .int .u32 0, .bool false, .int .u32 0, .bool false, vS, vS, vS, vS, .int .u32 0, vS, .int .u32 0, .int .u32 0, .pointer none] 74)]⟩, ⟨16, 15, none, [], fun v B _ => ∃ b, v = (vP b) ∧ B = [(b, blk [.int .i64 0, .int .i64 0, .int .i64 0, .int .i64 0, vS, .bool false, vS, vS, vS, .int .u32 0, .bool false, .int .u32 0, vS, .int .u32 0, .int .u32 0, vS] 37)]⟩] [⟨13, 77, none, [], fun v B R => B = [] ∧ EvV R v aV⟩, ⟨14, 78, none, [], fun v B R => B = [] ∧ v = .int .i64 0⟩] ([(b12, blk [vi, vw, p, r, u, (vU aX.he.signed), .bool aX.he.has, (vU aX.he.once), .bool aX.tell, xo, xt, xr, xk, (vU aX.r.sn), xl, (vU aX.r.tn), (vU aX.r.prev), xq] 74), (b4, blk [.int .i64 0, .int .i64 0, .int .i64 0, .int .i64 0, vS, .bool false, vS, vS, vS, .int .u32 0, .bool false, .int .u32 0, vS, .int .u32 0, .int .u32 0, vS] 37)] ++ MA) (fun bs => [bs 3, bs 5, bs 7, bs 8, bs 9, bs 10, bs 11, bs 12, bs 15, bs 16, bs 13, bs 14]) (hKn rfl) (by simp [Q6, W4]) (show ∀ m ∈ ([[], [], [], [], [], M61, [], [], [], [], [], []] : List Mem), ∀ x ∈ m, K x.1 from A3 (fun _ h => by cases h) (A3 (fun _ h => by cases h) (A3 (fun _ h => by cases h) (A3 (fun _ h => by cases h) (A3 (fun _ h => by cases h) (A3 (hKm) (A3 (fun _ h => by cases h) (A3 (fun _ h => by cases h) (A3 (fun _ h => by cases h) (A3 (fun _ h => by cases h) (A3 (fun _ h => by cases h) (A3 (fun _ h => by cases h) (H9))))))))))))) kR (fun _ => by first | rfl | kernel_rfl)
   (A3 (fun _ _ _ _ _ h => h) (A3 (fun _ _ _ _ _ h => h) (A3 (fun _ _ _ _ _ h => h) (A3 (fun _ _ _ _ h hp => ⟨hp.1, hp.2.mono h⟩) (A3 (fun _ _ _ _ h hp => (let ⟨e0, w0, e1, e2⟩ := hp; ⟨e0, w0, e1, e2.mono h⟩)) (A3 (fun _ _ _ _ h hp => ⟨hp.1, hp.2.mono h⟩) (A3 (fun _ _ _ _ h ⟨q1, q2, e, p1, p2, p3⟩ => ⟨q1, q2, e, p1, p2.mono h, p3.mono h⟩) (A3 (fun _ _ _ _ h ⟨e0, q1, q2, e, p2, p3⟩ => ⟨e0, q1, q2, e, p2.mono h, p3.mono h⟩) (A3 (fun _ _ _ _ h hp => ⟨hp.1, hp.2.mono h⟩) (A3 (fun _ _ _ _ _ h => h) (A3 (fun _ _ _ _ _ h => h) (A3 (fun _ _ _ _ h hp => ⟨hp.1, hp.2.mono h⟩) (A3 (fun _ _ _ _ _ h => h) (H9)))))))))))))) (show List.Nodup [68, 70, 71, 72, 73, 74, 75, 64, 76, 14, 15, 77, 78] by decide) (show List.Nodup [3, 5, 6, 7, 8, 9, 10, 11, 12, 15, 16, 13, 14] by decide) (A3 (D5 rfl) (A3 (D5 rfl) (A3 (D5 rfl) (A3 (D5 rfl) (A3 (D5 rfl) (A3 (D5 rfl) (A3 (D5 rfl) (A3 (D5 rfl) (A3 (D5 rfl) (A3 (D5 rfl) (A3 (D5 rfl) (A3 (D5 rfl) (A3 (D5 rfl) (H9))))))))))))))
   hs (List.cons_ne_nil _ _) (A3 ⟨_, rfl, fun vs bs R Rj wG hb hj hjr ha => ⟨.inl rfl, ?_⟩⟩ (A3 ⟨_, rfl, fun vs bs R Rj wG hb hj hjr ha => ⟨.inl rfl, ?_⟩⟩ (A3 ⟨_, rfl, fun vs bs R Rj wG hb hj hjr ha => ⟨.inl rfl, ?_⟩⟩ (A3 ⟨_, rfl, fun vs bs R Rj wG hb hj hjr ha => ⟨.inl rfl, ?_⟩⟩ (A3 ⟨_, rfl, fun vs bs R Rj wG hb hj hjr ha => ⟨.inl rfl, ?_⟩⟩ (A3 ⟨_, rfl, fun vs bs R Rj wG hb hj hjr ha => ⟨.inl rfl, ?_⟩⟩ (A3 ⟨_, rfl, fun vs bs R Rj wG hb hj hjr ha => ⟨.inl rfl, ?_⟩⟩ (A3 ⟨_, rfl, fun vs bs R Rj wG hb hj hjr ha => ⟨.inl rfl, ?_⟩⟩ (A3 ⟨_, rfl, fun vs bs R Rj wG hb hj hjr ha => ⟨.inl rfl, ?_⟩⟩ (A3 ⟨_, rfl, fun vs bs R Rj wG hb hj hjr ha => ⟨.inl rfl, ?_⟩⟩ (A3 ⟨_, rfl, fun vs bs R Rj wG hb hj hjr ha => ⟨.inl rfl, ?_⟩⟩ (H9)))))))))))) (A3 ⟨rfl, rfl, _, _, _, _, rfl, fun vs bs Rj hj ha => ?_⟩ (A3 ⟨rfl, rfl, _, _, _, _, rfl, fun vs bs Rj hj ha => ?_⟩ (H9))) ?_
  ·
   dsimp only [Gc.inp]
   exact X3 (aS rfl a0) kR (A41 (A42 k1 aA.1 va vg vq vo vm rs ro rm Rj (hra Rj (fun x hx => hj x (qS x hx)) (fun x hx => hj x (qS x hx)))) (fun x hx => by have := hjr x hx; simp [this])) rfl ⟨_, rfl, rfl, rfl⟩
  ·
   dsimp only [Gc.inp]
   exact X3 (aS rfl a0) kR (A41 (A42 k2 aB.1 ua ug uq uo um ss so sm Rj (hrb Rj (fun x hx => hj x (qS x hx)) (fun x hx => hj x (qS x hx)))) (fun x hx => by have := hjr x hx; simp [this])) rfl ⟨_, rfl, rfl, rfl⟩
  ·
   dsimp only [Gc.inp]
   exact C4 (e := 5) (sz := 1) (z := [zu8, zu8, zu8, zu8, zu8, zu8]) kR (eS rfl (eS rfl (eS rfl (eS rfl (eS rfl (eS rfl e0)))))) (bdS 0 1 rfl qR (bdS 1 1 rfl qR (bdS 2 1 rfl qR (bdS 3 1 rfl qR (bdS 4 1 rfl qR (bdS 5 1 rfl qR bd0)))))) rfl fun b => ⟨_, rfl, b, rfl, rfl⟩
  ·
   dsimp only [Gc.inp]
   have g6 := ha _ (List.mem_of_getElem? (i := 2) rfl) kR
   replace g6 : (fun v B _ => ∃ b, v = .slice (some ⟨b, 0, none⟩) 6 6 ∧ B = [(b, blk (I3 .u8 [115, 101, 99, 114, 101, 116]) 5)]) (vs 6) (bs 6) Rj := g6
   dsimp only at g6
   obtain ⟨b, e, eB⟩ := g6
   dsimp only [N3, List.map, List.cons_append, List.nil_append]
   rw [e, eB]
   refine OpL.frzAll ?_
   exact A53 rfl kR UpC.upd rfl (fun J2 hJ => ⟨_, rfl, rfl, ⟨Rd.whole (n := 6) (List.mem_append_left _ (hJ _ (List.mem_append_left _ (List.mem_singleton.2 rfl)))) qR, by decide, by decide⟩⟩)
  ·
   dsimp only [Gc.inp]
   have g7 := ha _ (List.mem_of_getElem? (i := 3) rfl) kR
   replace g7 : (fun v B R => B = [] ∧ By R v B1O) (vs 7) (bs 7) Rj := g7
   dsimp only at g7
   obtain ⟨-, h7⟩ := g7
   haveI := h7.cel
   exact OpQ.opL (D6 (place := fun x => #[(0, 1), (1, 1), (2, 1)][x]?) (z := [.int .i64 0, .int .u32 0, vS]) (fun _ => by kernel_rfl) (eS rfl (eS rfl (eS rfl e0))) (bdS 0 1 rfl qR (bdS 1 1 rfl qR (bdS 2 1 rfl qR bd0)))) rfl ⟨_, rfl, rfl, _, rfl, h7⟩
  ·
   dsimp only [Gc.inp]
   have g8 := ha _ (List.mem_of_getElem? (i := 4) rfl) kR
   replace g8 : (fun v B R => B = [] ∧ ∃ w0, v = .agg #[.int .i64 1, (vU 1), w0] ∧ By R w0 B1O) (vs 8) (bs 8) Rj := g8
   dsimp only at g8
   obtain ⟨-, w0, e_, h8⟩ := g8
   have hsp := A2C 1 1 w0 B1O Rj qD h8 qD
   rw [← e_] at hsp
   refine K0 (aS rfl a0) kR (FnX.amb (A := Rj) (fun x hx => by have := hjr x hx; simp [this]) hsp) rfl ?_
   rintro r M1 J1 ⟨rfl, hh_⟩
   exact ⟨_, rfl, rfl, hh_.mono fun z hz => by simp [hz]⟩
  ·
   dsimp only [Gc.inp]
   have g3 := ha _ (List.mem_of_getElem? (i := 0) rfl) kR
   replace g3 : (fun v B _ => B = [] ∧ v = .agg #[.int .i64 aA.1.user, .int .i64 aA.1.dev]) (vs 3) (bs 3) Rj := g3
   dsimp only at g3
   have g5 := ha _ (List.mem_of_getElem? (i := 1) rfl) kR
   replace g5 : (fun v B _ => B = [] ∧ v = .agg #[.int .i64 aB.1.user, .int .i64 aB.1.dev]) (vs 5) (bs 5) Rj := g5
   dsimp only at g5
   have g9 := ha _ (List.mem_of_getElem? (i := 5) rfl) kR
   replace g9 : (fun v B R => B = [] ∧ By R v aT) (vs 9) (bs 9) Rj := g9
   dsimp only at g9
   obtain ⟨-, h9⟩ := g9
   obtain ⟨-, e3⟩ := g3
   obtain ⟨-, e5⟩ := g5
   rw [A1B.1, A1B.2.1] at e3
   rw [A1B.2.2.1, A1B.2.2.2] at e5
   haveI := h9.cel
   have hsp := (A94 pb aD aX vi vw p r u xo xt xr xk xl xq _ 0 1 1 1 aT M61 Rj hP61 qO (hx.mono (fun x hx => hj x (qS x hx))) g7_ g3_ g4_ g5_ g6_ h9 qD (hG.sub (fun x hx => hj x (qS x hx))))
   rw [← e3, ← e5] at hsp
   refine A9 (Mc := M61) (R := []) (aS rfl (aS rfl (aS rfl (aS rfl (aS rfl (a0)))))) kR qM (FnX.amb (A := Rj) (fun x hx => by have := hjr x hx; simp [this]) hsp) rfl ?_
   rintro v125 M125 J125 ⟨wo, wt, wr, wk, wl, wq, vid, q2, q3, rfl, hP25, p2, p3⟩
   exact ⟨_, rfl, _, _, rfl, (by have hz := (show Prm pb aE M125 from hP25); simpa using hz), ⟨_, _, _, _, _, _, _, _, _, _, _, rfl, p2.mono (fun x hx => by simpa using hx)⟩, ⟨_, _, _, _, _, _, rfl, p3.mono (fun x hx => by simpa using hx)⟩⟩
  ·
   dsimp only [Gc.inp]
   have g10 := ha _ (List.mem_of_getElem? (i := 6) rfl) kR
   replace g10 : (fun v B R => ∃ q1 q2, v = .tuple #[q1, q2, .int .i64 0] ∧ Prm pb aE B ∧ A2L R q1 (A0P aX (P1 aD aX.r)) ∧ EvV R q2 aV) (vs 10) (bs 10) Rj := g10
   dsimp only at g10
   obtain ⟨q1, q2, e_, -, k⟩ := g10
   exact OpQ.opL qm_ rfl ⟨_, rfl, rfl, q1, q2, e_, k⟩
  ·
   dsimp only [Gc.inp]
   have g11 := ha _ (List.mem_of_getElem? (i := 7) rfl) kR
   replace g11 : (fun v B R => B = [] ∧ ∃ q1 q2, v = .tuple #[q1, q2, .int .i64 0] ∧ A2L R q1 (A0P aX (P1 aD aX.r)) ∧ EvV R q2 aV) (vs 11) (bs 11) Rj := g11
   dsimp only at g11
   obtain ⟨-, q1, q2, e_, k, -⟩ := g11
   exact OpQ.opL (H6 (vs := #[q1, q2, .int .i64 0]) (by rw [← e_]; rfl) rfl) rfl ⟨_, rfl, rfl, k⟩
  ·
   dsimp only [Gc.inp]
   exact D2 (cs := [vS, vS, vS, vS, vS, E4, .bool false, E4, .bool false, vS, vS, vS, vS, E4, vS, E4, E4, .pointer none]) kR rfl fun b => ⟨_, rfl, b, rfl, rfl⟩
  ·
   dsimp only [Gc.inp]
   exact D2 (cs := [G8, G8, G8, G8, vS, .bool false, vS, vS, vS, E4, .bool false, E4, vS, E4, E4, vS]) kR rfl fun b => ⟨_, rfl, b, rfl, rfl⟩
  ·
   have g11 := ha _ (List.mem_of_getElem? (i := 7) rfl) kR
   replace g11 : (fun v B R => B = [] ∧ ∃ q1 q2, v = .tuple #[q1, q2, .int .i64 0] ∧ A2L R q1 (A0P aX (P1 aD aX.r)) ∧ EvV R q2 aV) (vs 11) (bs 11) Rj := g11
   dsimp only at g11
   obtain ⟨-, q1, q2, e_, -, k⟩ := g11
   exact ⟨_, H6 (vs := #[q1, q2, .int .i64 0]) (by rw [← e_]; rfl) rfl, rfl, k⟩
  ·
   have g11 := ha _ (List.mem_of_getElem? (i := 7) rfl) kR
   replace g11 : (fun v B R => B = [] ∧ ∃ q1 q2, v = .tuple #[q1, q2, .int .i64 0] ∧ A2L R q1 (A0P aX (P1 aD aX.r)) ∧ EvV R q2 aV) (vs 11) (bs 11) Rj := g11
   dsimp only at g11
   obtain ⟨-, q1, q2, e_, -⟩ := g11
   exact ⟨_, H6 (vs := #[q1, q2, .int .i64 0]) (by rw [← e_]; rfl) rfl, rfl, rfl⟩
  intro vs bs Jn0 hφ hKK
  have kk3 := hKK _ (List.mem_of_getElem? (i := 0) rfl)
  dsimp only at kk3
  have kk5 := hKK _ (List.mem_of_getElem? (i := 1) rfl)
  dsimp only at kk5
  have kk6 := hKK _ (List.mem_of_getElem? (i := 2) rfl)
  dsimp only at kk6
  have kk7 := hKK _ (List.mem_of_getElem? (i := 3) rfl)
  dsimp only at kk7
  have kk8 := hKK _ (List.mem_of_getElem? (i := 4) rfl)
  dsimp only at kk8
  have kk9 := hKK _ (List.mem_of_getElem? (i := 5) rfl)
  dsimp only at kk9
  have kk10 := hKK _ (List.mem_of_getElem? (i := 6) rfl)
  dsimp only at kk10
  have kk11 := hKK _ (List.mem_of_getElem? (i := 7) rfl)
  dsimp only at kk11
  have kk12 := hKK _ (List.mem_of_getElem? (i := 8) rfl)
  dsimp only at kk12
  have kk15 := hKK _ (List.mem_of_getElem? (i := 9) rfl)
  dsimp only at kk15
  have kk16 := hKK _ (List.mem_of_getElem? (i := 10) rfl)
  dsimp only at kk16
  have kk13 := hKK _ (List.mem_of_getElem? (i := 11) rfl)
  dsimp only at kk13
  have kk14 := hKK _ (List.mem_of_getElem? (i := 12) rfl)
  dsimp only at kk14
  clear hKK
  have g3 := ofH hφ
  dsimp only at g3
  replace hφ := ofT hφ
  have g5 := ofH hφ
  dsimp only at g5
  replace hφ := ofT hφ
  have g6 := ofH hφ
  dsimp only at g6
  replace hφ := ofT hφ
  have g7 := ofH hφ
  dsimp only at g7
  replace hφ := ofT hφ
  have g8 := ofH hφ
  dsimp only at g8
  replace hφ := ofT hφ
  have g9 := ofH hφ
  dsimp only at g9
  replace hφ := ofT hφ
  have g10 := ofH hφ
  dsimp only at g10
  replace hφ := ofT hφ
  have g11 := ofH hφ
  dsimp only at g11
  replace hφ := ofT hφ
  have g12 := ofH hφ
  dsimp only at g12
  replace hφ := ofT hφ
  have g15 := ofH hφ
  dsimp only at g15
  replace hφ := ofT hφ
  have g16 := ofH hφ
  dsimp only at g16
  replace hφ := ofT hφ
  have g13 := ofH hφ
  dsimp only at g13
  replace hφ := ofT hφ
  have g14 := ofH hφ
  dsimp only at g14
  clear hφ
  dsimp only [N3, Q6, List.foldr, List.map, List.cons_append, List.nil_append]
  generalize bs 3 = B68 at *
  generalize bs 5 = B70 at *
  generalize bs 6 = B71 at *
  generalize bs 7 = B72 at *
  generalize bs 8 = B73 at *
  generalize bs 9 = B74 at *
  generalize bs 10 = B75 at *
  generalize bs 11 = B64 at *
  generalize bs 12 = B76 at *
  generalize bs 15 = B14 at *
  generalize bs 16 = B15 at *
  generalize bs 13 = B77 at *
  generalize bs 14 = B78 at *
  generalize vs 3 = u68 at *
  generalize vs 5 = u70 at *
  generalize vs 6 = u71 at *
  generalize vs 7 = u72 at *
  generalize vs 8 = u73 at *
  generalize vs 9 = u74 at *
  generalize vs 10 = u75 at *
  generalize vs 11 = u64 at *
  generalize vs 12 = u76 at *
  generalize vs 15 = u14 at *
  generalize vs 16 = u15 at *
  generalize vs 13 = u77 at *
  generalize vs 14 = u78 at *
  obtain ⟨-, -, -, hP75, -⟩ := g10
  clear g11
  clear g3 g5 g6 g7 g8 g9
  obtain ⟨rfl, ni, nw, np, nr, nu, no_, nt, nrr, nk, nl, nst, rfl, hn1⟩ := g12
  obtain ⟨rfl, es, ep, er, eu, ek, eg, rfl, hn2⟩ := g13
  obtain ⟨rfl, rfl⟩ := g14
  obtain ⟨b14, rfl, rfl⟩ := g15
  obtain ⟨b15, rfl, rfl⟩ := g16
  haveI := hn1.id.cel
  haveI := hn1.wi.cel
  haveI := hn1.he.ia.cel
  haveI := hn1.he.ig.cel
  haveI := hn1.he.key.cel
  haveI := hn1.r.own.cel
  haveI := hn1.r.their.cel
  haveI := hn1.r.root.cel
  haveI := hn1.r.sk.cel
  haveI := hn1.r.tk.cel
  haveI := hn1.r.st.cel
  haveI := hn2.ses.cel
  haveI := hn2.he.ia.cel
  haveI := hn2.he.ig.cel
  haveI := hn2.he.key.cel
  haveI := hn2.hk.cel
  haveI := hn2.g.cel
  unfold seC evC
  refine K2 rfl rfl rfl (B8 (vs := [ni, nw, np, nr, nu, .int .u32 (((A0P aX (P1 aD aX.r)).he.signed : Nat) : Int), .bool (A0P aX (P1 aD aX.r)).he.has, .int .u32 (((A0P aX (P1 aD aX.r)).he.once : Nat) : Int), .bool (A0P aX (P1 aD aX.r)).tell, no_, nt, nrr, nk, .int .u32 (((A0P aX (P1 aD aX.r)).r.sn : Nat) : Int), nl, .int .u32 (((A0P aX (P1 aD aX.r)).r.tn : Nat) : Int), .int .u32 (((A0P aX (P1 aD aX.r)).r.prev : Nat) : Int), nst]) rfl rfl rfl kR qR (A3 hn1.id.one (A3 hn1.wi.one (A3 hn1.he.ia.one (A3 hn1.he.ig.one (A3 hn1.he.key.one (A3 rfl (A3 rfl (A3 rfl (A3 rfl (A3 hn1.r.own.one (A3 hn1.r.their.one (A3 hn1.r.root.one (A3 hn1.r.sk.one (A3 rfl (A3 hn1.r.tk.one (A3 rfl (A3 rfl (A3 hn1.r.st.one H9)))))))))))))))))) UpC.upd ?_)
  refine K2 rfl rfl rfl (B8 (vs := [.int .i64 aV.fu, .int .i64 aV.fd, .int .i64 aV.tu, .int .i64 aV.td, es, .bool aV.has, ep, er, eu, (vU aV.he.signed), .bool aV.he.has, (vU aV.he.once), ek, (vU aV.hp), (vU aV.hn), eg]) rfl rfl rfl kR qR (A3 rfl (A3 rfl (A3 rfl (A3 rfl (A3 hn2.ses.one (A3 rfl (A3 hn2.he.ia.one (A3 hn2.he.ig.one (A3 hn2.he.key.one (A3 rfl (A3 rfl (A3 rfl (A3 hn2.hk.one (A3 rfl (A3 rfl (A3 hn2.g.one H9)))))))))))))))) UpC.upd ?_)
  refine F1 hs rfl (F5 rfl) rfl ?_
  refine G7 (I7 4 5 7 8 9 15) (A1 (mv_ ?_))
  refine A2 (qw_ 16) rfl ?_
  refine E0 (aS rfl a0) kR (B2O aV es ep er eu ek eg _ (hn2.mono qS) gc_) rfl ?_
  rintro v81 M81 J81 ⟨rfl, hb81⟩
  haveI := hb81.cel
  refine A4 rfl (A9 (Mc := MA ++ B75) (R := _) (aS rfl (aS rfl (a0))) kR qP (B7f vb kb pb aE h [] [] v81 (A35 aV) MA B75 [] _ hA hP75 (by have := hS.len; omega) qO (Nat.zero_le _) (hb81.mono qS) B7i.1 hG.up) rfl ?_)
  rintro v82 M82 J82 ⟨MA2, MQ2, h2, rfl, hclo, hA2, hQ2⟩
  rw [B7i.2] at hclo hA2 hQ2
  obtain ⟨hH2, hts⟩ := B7h (by have := hS.len; omega) hS.up hS.lS hclo
  replace hQ2 := A5W hQ2 hts
  refine A0 (I7 4 5 7 8 9 15) ?_
  refine G5 (.range 9) (zp 0 [0, 0, 0, 0, 1, 0, 0, 0, 0, 2]) kR kR fun hs => ?_
  refine fm_ hs ?_
  refine fm_ hs ?_
  refine fm_ hs ?_
  refine fm_ hs ?_
  refine R5 hs rfl (qw_ 16) rfl ?_
  refine fa_ hs ?_
  refine fa_ hs ?_
  refine fa_ hs ?_
  refine fa_ hs ?_
  refine L7 rfl rfl rfl (B8 (vs := [.int .i64 aV.fu, .int .i64 aV.fd, .int .i64 aV.tu, .int .i64 aV.td, es, .bool aV.has, ep, er, eu, (vU aV.he.signed), .bool aV.he.has, (vU aV.he.once), ek, (vU aV.hp), (vU aV.hn), eg]) rfl rfl rfl kR qR (A3 rfl (A3 rfl (A3 rfl (A3 rfl (A3 hn2.ses.one (A3 rfl (A3 hn2.he.ia.one (A3 hn2.he.ig.one (A3 hn2.he.key.one (A3 rfl (A3 rfl (A3 rfl (A3 hn2.hk.one (A3 rfl (A3 rfl (A3 hn2.g.one H9)))))))))))))))) UpC.upd ?_)
  refine I2 (G6 0 1 2 3 4) (A7 ?_)
  exact ⟨_, MA2 ++ MQ2, [], B7j (n := 16) rfl rfl rfl rfl rfl rfl kR At.mem qR, Fit.none (Fit.pick qP (Fit.last qP)), vb, kb, k1, k2, pb, h2, MA2, MQ2, es, ep, er, eu, ek, eg, rfl, rfl, hA2.mono qS, hQ2, ⟨va, vg, vq, vo, vm, rs, ro, rm, hra _ qS qS⟩, ⟨ua, ug, uq, uo, um, ss, so, sm, hrb _ qS qS⟩, hn2.mono qS, hH2⟩

theorem B7k {h : List Bool} (hQ : HQ h) : (S5 aE.ts h (fun _ => aT) h.length).any (fun w => A5b w B1O) = false := by
  obtain ⟨-, -, -, ⟨-, -, -, -, -, -, -, g8, -⟩, -, -, -, -, -, -, -, h1, -⟩ := af
  exact B4M hQ.up (by have := hQ.len; omega) h1
theorem B8F : Sld aE.ts fun _ => aT := by
  obtain ⟨-, -, -, -, -, -, -, -, -, -, -, -, h1⟩ := af
  exact B6S _ _ h1 qD
theorem B7l : aE.ts.length = 43 := af.2.2.2.1.2.2.2.2.2.2.2.1
set_option maxHeartbeats 1000000 in
theorem A5f (A : Mem) (hG : Glb A) : FnV Tryz.prog 7 [] A (.bool true) := by
 refine FnX.enter (N := 42) Tryz.func7 rfl rfl rfl fun w_ => ?_
 refine A8 kn (A1 (as_ (A0 kn (A1 ?_))))
 refine E0 a0 kR (A6T _ hG.up) rfl ?_
 rintro v9 M9 J9 ⟨vb, kb, k1, k2, pb, h, MA, MP, es, ep, er, eu, ek, eg, rfl, rfl, hA, hP, hK1, hK2, hE, hQ⟩
 haveI := hE.ses.cel
 haveI := hE.he.ia.cel
 haveI := hE.he.ig.cel
 haveI := hE.he.key.cel
 haveI := hE.hk.cel
 haveI := hE.g.cel
 have hQl := hQ.len
 have hel := B7l
 unfold evC
 refine mv_ ?_
 refine A2 (R6 rfl) rfl ?_
 refine A2 (R4 rfl) rfl ?_
 refine A2 (B5v rfl) rfl ?_
 refine A2 (q_x3 rfl) rfl ?_
 refine A2 (H6 rfl rfl) rfl ?_
 refine A4 rfl (D2 (cs := [G8, G8, G8, G8, vS, .bool false, vS, vS, vS, E4, .bool false, E4, vS, E4, E4, vS]) kR rfl fun b5 => ?_)
 refine as_ (as_ (as_ (as_ ?_)))
 refine A4 rfl (B8 (vs := [.int .i64 aV.fu, .int .i64 aV.fd, .int .i64 aV.tu, .int .i64 aV.td, es, .bool aV.has, ep, er, eu, (vU aV.he.signed), .bool aV.he.has, (vU aV.he.once), ek, (vU aV.hp), (vU aV.hn), eg]) rfl rfl rfl kR qR (A3 rfl (A3 rfl (A3 rfl (A3 rfl (A3 hE.ses.one (A3 rfl (A3 hE.he.ia.one (A3 hE.he.ig.one (A3 hE.he.key.one (A3 rfl (A3 rfl (A3 rfl (A3 hE.hk.one (A3 rfl (A3 rfl (A3 hE.g.one H9)))))))))))))))) UpC.upd ?_)
 refine A0 (D0 1 2) (A6 (A1 (mv_ ?_)))
 refine A2 (C9 (e := 118) rfl rfl kR) rfl ?_
 refine A0 (E5 1 2 16) ?_
 refine B0 rfl ?_
 refine A5 (nx (D0 1 2) ?_)
 obtain ⟨u1, u2, rows, B1, B2, MK, rfl, hs1, hrw, hs2, hKn⟩ := hA.ex
 obtain ⟨sv, bm, B, MT, rfl, hby, hT⟩ := hP.tb
 obtain ⟨ge4, gf4, h4⟩ := hG.pow
 haveI := hs1.cel
 haveI := hs2.cel
 haveI := hby.cel
 refine A1 (mv_ ?_)
 refine E0 (aS rfl a0) kR (B20 pb aE _ _ hP (fun z hz => by simp at hz ⊢; rcases hz with h | h | h <;> simp [h])) rfl ?_
 rintro v19 M19 J19 ⟨vb2, kb2, rfl, hA2⟩
 obtain ⟨w1, w2, rows2, C1, C2, MK2, rfl, ht1, -, ht2, hKn2⟩ := (hA2 []).ex
 have e2 : rows2.flatten = [] := List.eq_nil_of_length_eq_zero (by have := ht1.len; simpa using this)
 rw [e2] at ht1
 haveI := ht1.cel
 refine A2 (D6 (place := fun x => #[(0, 1), (1, 1), (2, 1), (3, 2), (5, 2), (7, 1), (8, 1)][x]?) (z := [zu8, G8, G8, G8, G8, G8, G8, E4, vS]) (fun _ => by kernel_rfl) e0 bd0) rfl ?_
 refine A2 (D6 (place := fun x => #[(0, 2), (2, 2), (4, 1), (5, 1), (6, 1), (7, 1), (8, 1), (9, 1)][x]?) (z := [G8, G8, vS, vS, E4, vS, vS, .bool false, E4, vS]) (fun _ => by kernel_rfl) e0 bd0) rfl ?_
 refine E0 (aS rfl (aS rfl (aS rfl a0))) kR (B5i vb2 kb2 pb w1 w2 _ qM (ht1.rd qS)) rfl ?_
 rintro v22 M22 J22 ⟨rfl, rfl⟩
 refine mv_ ?_
 refine A2 (R6 rfl) rfl ?_
 refine A2 (R4 rfl) rfl ?_
 refine as_ (as_ (A0 (D0 2 7) (A1 (mv_ ?_))))
 refine A2 (F0 true rfl rfl (eqT rfl)) rfl ?_
 refine mv_ ?_
 refine C0 rfl rfl (OpQ.opL qm_ rfl ?_)
 refine K4 rfl rfl (aS rfl a0) kR (B5f vb kb 1 pb u1 u2 rows.flatten _ qM (hs1.rd qS)) rfl ?_
 refine C0 rfl rfl (OpQ.opL (F0 true rfl rfl (eqT rfl)) rfl ?_)
 refine A2 (E3 rfl rfl) rfl ?_
 refine mv_ ?_
 refine C0 rfl rfl (OpQ.opL qm_ rfl ?_)
 refine K4 rfl rfl (aS rfl a0) kR (B1Q vb kb pb u1 u2 _ qM) rfl ?_
 refine C0 rfl rfl (C4 (e := 5) (sz := 1) (z := [zu8, zu8, zu8, zu8, zu8, zu8]) kR (eS rfl (eS rfl (eS rfl (eS rfl (eS rfl (eS rfl e0)))))) (bdS 0 1 rfl qR (bdS 1 1 rfl qR (bdS 2 1 rfl qR (bdS 3 1 rfl qR (bdS 4 1 rfl qR (bdS 5 1 rfl qR bd0)))))) rfl fun b35 => ?_)
 refine C0 rfl rfl (A53 rfl kR UpC.upd rfl ?_)
 refine K4 rfl rfl (aS rfl (aS rfl a0)) kR (A9E kb pb.2 bm aE.ts h (fun _ => aT) (.slice (some ⟨b35, 0, none⟩) 6 6) B1O _ (hKn.rd qS) (hT.tbr qS) B8F qO qO ⟨Rd.whole (n := 6) At.mem qR, by decide, by decide⟩ (qS _ h4)) rfl ?_
 rw [B7k hQ]
 refine C0 rfl rfl (OpQ.opL (L6 rfl) rfl ?_)
 refine A2 (E3 rfl rfl) rfl ?_
 refine mv_ ?_
 refine A2 (E3 rfl rfl) rfl ?_
 refine as_ (A0 (C7 0) (A7 ?_))
 exact ⟨_, [], [], F7 rfl rfl, List.nil_sublist _, by simp, rfl, rfl, rfl⟩

theorem B8G : aC.2.ts.length = 52 ∧ aC.2.n ≤ 1000 ∧ aC.1.signed.length ≤ 2 ∧ aC.1.once.length ≤ 100 := af2.1

noncomputable def nWi (k : Ks) (e : Ev) (s2 : Ps) : LN := A9m e.fu e.fd e.he.ia e.he.ig k.user k.dev (idA k s2) (idG k s2)
noncomputable def nNm (k : Ks) (e : Ev) (s2 : Ps) : List (LN) := [B48, nWi k e s2, heW [] e.he]
noncomputable def nC (k : Ks) (e : Ev) (s2 : Ps) : Ps := A4a (idS k s2) (nNm k e s2)
noncomputable def nX (k : Ks) (e : Ev) (s2 : Ps) (sec own : LN) : Ses := ⟨A1z (idS k s2) (nNm k e s2), nWi k e s2, he0, false, A1A sec own⟩
set_option maxHeartbeats 1000000 in
theorem A98 (pb : Nat × Nat) (s : Ps) (kb : Nat) (k : Ks) (va vg vq vo vm : Value) (rs ro rm : List (List Value)) (e : Ev) (vz p r u vk vgg : Value) (sec own : LN) (s2 : Ps) (MP A : Mem) (hK : KyR A kb k va vg vq vo vm rs ro rm) (hrise : B2K k.once) (hP : Prm pb s MP) (hn : s.ts.length + 1000 ≤ 1040000) (he_ : EvR A e vz p r u vk vgg) (hhas : e.has = true) (han : anR k e.he s = (some (sec, own), s2)) (hn2 : s2.ts.length ≤ 900000) (hln : e.he.ia.length + e.he.ig.length + (idA k s2).length + (idG k s2).length ≤ 1000000) (hel : e.he.ia.length + e.he.ig.length + e.he.key.length ≤ 1000000) (hid : A1z (idS k s2) (nNm k e s2) = e.ses) (hG : Glb A) : FnX Tryz.prog 24 [.pointer (some ⟨pb.1, 0, none⟩), (vP kb), .agg (evC vz p r u vk vgg e).toArray] MP A fun q M J => ∃ vi vw xo xt xr xk xl xq, q = .tuple #[.agg (seC vi vw (vS) (vS) (vS) xo xt xr xk xl xq (nX k e s2 sec own)).toArray, .int .i64 0] ∧ Prm pb (nC k e s2) M ∧ SeR (J ++ A) (nX k e s2 sec own) vi vw (vS) (vS) (vS) xo xt xr xk xl xq := by
 haveI := he_.ses.cel
 haveI := he_.he.ia.cel
 haveI := he_.he.ig.cel
 haveI := he_.he.key.cel
 haveI := he_.hk.cel
 haveI := he_.g.cel
 have hig := he_.he.ig.by qO
 unfold evC
 refine FnX.enterZ (N := 59) Tryz.func24 rfl rfl rfl fun w_ => ?_
 refine A8 (E5 0 1 2) (A1 ?_)
 refine A4 rfl (bx_ fun b5 => ?_)
 refine A4 rfl (D2 (cs := [vS, vS, vS, vS, vS, E4, .bool false, E4, .bool false, vS, vS, vS, vS, E4, vS, E4, E4, .pointer none]) kR rfl fun b6 => ?_)
 refine as_ (A0 (F4 0 1 5 6) (A6 (A1 ?_)))
 refine A2 (qf_ 5 5) rfl ?_
 refine A2 ql_ rfl ?_
 refine A2 (L6 rfl) rfl ?_
 refine A0 (G6 0 1 5 6 15) ?_
 refine B0 (by rw [show (false : Bool) = !e.has by rw [hhas]; rfl]; rfl) ?_
 refine A5 (nx (F4 0 1 5 6) (A1 (mv_ (mv_ ?_))))
 refine A2 (qf_ 6 6) rfl ?_
 refine A2 (E7 (n := 6) (vs := [p, r, u, (vU e.he.signed), .bool e.he.has, (vU e.he.once)]) rfl kR At.mem rfl (D3 [.int .i64 e.fu, .int .i64 e.fd, .int .i64 e.tu, .int .i64 e.td, vz, .bool e.has] [p, r, u, (vU e.he.signed), .bool e.he.has, (vU e.he.once)] [vk, (vU e.hp), (vU e.hn), vgg])) rfl ?_
 refine A4 rfl (A9 (Mc := MP) (R := _) (aS rfl (aS rfl (aS rfl (a0)))) kR qP (FnX.amb qS (A6z pb s kb k va vg vq vo vm rs ro rm e.he p r u MP A hK hrise hP hn he_.he hG)) rfl ?_)
 rintro v22 M22 J22 ⟨u1, u2, rfl, hP22, h1, h2⟩
 rw [han] at hP22 h1 h2 ⊢
 change Prm pb s2 M22 at hP22
 change By _ u1 sec at h1
 change By _ u2 own at h2
 haveI := h1.cel
 haveI := h2.cel
 rw [show (if ((some (sec, own), s2) : Option (LN × LN) × Ps).1.isSome = true then (0 : Int) else 9) = 0 from rfl]
 refine mv_ ?_
 refine A2 (R6 rfl) rfl ?_
 refine A2 (R4 rfl) rfl ?_
 refine A2 (B5v rfl) rfl ?_
 refine as_ (as_ (as_ (A0 (S9 0 1 5 6 8 9 10) (A6 (A1 (mv_ ?_))))))
 refine A2 (F0 false rfl rfl (neF rfl)) rfl ?_
 refine A0 (A0A 0 1 5 6 8 9 10 27) ?_
 refine B0 rfl ?_
 refine A5 (nx (I7 0 1 5 6 8 9) ?_)
 refine E6 (M22) (_) true (.range 12) [(0, 0), (1, 1), (2, 0), (3, 0), (4, 1), (5, 0), (7, 0), (8, 0), (6, 2), (9, 2), (10, 2), (11, 0)] kR kR qP fun hs K n0 hKm hKs hKn => ?_
 refine F1 hs rfl (qf_ 0 0) rfl ?_
 refine I1 hs rfl hKs (E7 (n := 2) (vs := [.int .i64 e.fu, .int .i64 e.fd]) rfl kR At.mem rfl (D3 [] [.int .i64 e.fu, .int .i64 e.fd] [.int .i64 e.tu, .int .i64 e.td, vz, .bool e.has, p, r, u, (vU e.he.signed), .bool e.he.has, (vU e.he.once), vk, (vU e.hp), (vU e.hn), vgg])) ?_
 refine F1 hs rfl (qf_ 6 6) rfl ?_
 refine F1 hs rfl (qf_ 6 0) rfl ?_
 refine I1 hs rfl hKs (E7 (n := 2) (vs := [p, r]) rfl kR At.mem rfl (D3 [.int .i64 e.fu, .int .i64 e.fd, .int .i64 e.tu, .int .i64 e.td, vz, .bool e.has] [p, r] [u, (vU e.he.signed), .bool e.he.has, (vU e.he.once), vk, (vU e.hp), (vU e.hn), vgg])) ?_
 refine km_ hs ?_
 refine km_ hs ?_
 refine km_ hs ?_
 refine F9 [] _ rfl rfl (List.Perm.refl _) (fun _ h => by cases h) fun w0 => (X3 (aS rfl a0) kR (A42 kb k va vg vq vo vm rs ro rm _ (hK.mono qS)) rfl fun _ => ?_)
 dsimp only [List.nil_append, List.append_eq]
 refine F9 _ _ rfl rfl (List.Perm.refl _) hKm fun w0 => (A9 (Mc := M22) (R := _) (aS rfl (aS rfl (a0))) kR qP (A2x pb s2 kb k va vg vq vo vm rs ro rm M22 _ (hK.mono qS) hP22 qO hG.up) rfl ?_)
 rintro v39 M39 J39 ⟨hP39, xa, xg, rfl, hxa, hxg⟩ hKx39
 haveI := hxa.cel
 haveI := hxg.cel
 refine F9 [] _ rfl rfl (List.Perm.refl _) (fun _ h => by cases h) fun w0 => (K0 (aS rfl (aS rfl (aS rfl (aS rfl a0)))) kR (A9n e.fu e.fd k.user k.dev p r xa xg _ _ _ _ _ (he_.he.ia.mono qS) (hig.mono qS) (hxa.mono qS) (hxg.mono qS) qO) rfl ?_)
 rintro v40 M40 J40 ⟨rfl, h40⟩ _
 haveI := h40.cel
 change By _ v40 (nWi k e s2) at h40
 dsimp only [List.nil_append, List.append_eq]
 refine F1 hs rfl (F5 rfl) rfl ?_
 refine G7 (I7 0 5 6 8 9 11) ?_
 have y1 := A0L k s2
 refine A1 (mv_ (mv_ ?_))
 refine A2 (qf_ 6 6) rfl ?_
 refine A2 (E7 (n := 6) (vs := [p, r, u, (vU e.he.signed), .bool e.he.has, (vU e.he.once)]) rfl kR At.mem rfl (D3 [.int .i64 e.fu, .int .i64 e.fd, .int .i64 e.tu, .int .i64 e.td, vz, .bool e.has] [p, r, u, (vU e.he.signed), .bool e.he.has, (vU e.he.once)] [vk, (vU e.hp), (vU e.hn), vgg])) rfl ?_
 refine A4 rfl (A9 (Mc := M39) (R := _) (aS rfl (aS rfl (aS rfl (a0)))) kR qP (A9Y pb (idS k s2) v40 (nWi k e s2) e.he p r u M39 _ hP39 qO (h40.mono qS) (he_.he.mono qS) qO qO hG.up) rfl ?_)
 rintro v45 M45 J45 ⟨hP45, h45⟩
 haveI := h45.cel
 change Prm pb (nC k e s2) M45 at hP45
 refine mv_ (mv_ (mv_ ?_))
 refine E0 (aS rfl (aS rfl a0)) kR (FnX.amb qS (A9N u1 u2 sec own (J22 ++ A) (h1.mono qS) (h2.mono qS))) rfl ?_
 rintro v49 M49 J49 ⟨rfl, xo, xt, xr, xk, xl, xq, rfl, hr49⟩
 haveI := hr49.own.cel
 haveI := hr49.their.cel
 haveI := hr49.root.cel
 haveI := hr49.sk.cel
 haveI := hr49.tk.cel
 haveI := hr49.st.cel
 unfold rsC
 refine A2 (D6 (place := fun x => #[(0, 1), (1, 1), (2, 6), (8, 1), (9, 9)][x]?) (z := [vS, vS, vS, vS, vS, E4, .bool false, E4, .bool false, vS, vS, vS, vS, E4, vS, E4, E4, .pointer none]) (fun _ => by kernel_rfl) (eS rfl (eS rfl (eS rfl e0))) (bdS 0 1 rfl qR (bdS 1 1 rfl qR (bdS 9 9 rfl qR bd0)))) rfl ?_
 refine A4 rfl (D2 (cs := [vS, vS, vS, vS, vS, E4, .bool false, E4, .bool false, vS, vS, vS, vS, E4, vS, E4, E4, .pointer none]) kR rfl fun b12 => ?_)
 refine A4 rfl (B8 (vs := [v45, v40, vS, vS, vS, .int .u32 0, .bool false, .int .u32 0, .bool false, xo, xt, xr, xk, .int .u32 (((A1A sec own).sn : Nat) : Int), xl, .int .u32 (((A1A sec own).tn : Nat) : Int), .int .u32 (((A1A sec own).prev : Nat) : Int), xq]) rfl rfl rfl kR qR (A3 h45.one (A3 h40.one (A3 rfl (A3 rfl (A3 rfl (A3 rfl (A3 rfl (A3 rfl (A3 rfl (A3 hr49.own.one (A3 hr49.their.one (A3 hr49.root.one (A3 hr49.sk.one (A3 rfl (A3 hr49.tk.one (A3 rfl (A3 rfl (A3 hr49.st.one H9)))))))))))))))))) UpC.upd ?_)
 refine A0 (E5 5 6 12) (A6 (A1 ?_))
 refine A2 (qf_ 0 0) rfl ?_
 refine A2 ql_ rfl ?_
 refine A2 (qf_ 4 4) rfl ?_
 refine A2 ql_ rfl ?_
 refine D7 (aS rfl (aS rfl a0)) kR (V2 v45 vz (A1z (idS k s2) (nNm k e s2)) e.ses _ (h45.mono qS) (he_.ses.mono qS)) rfl ?_
 rw [decide_eq_true hid]
 refine A2 (L6 rfl) rfl ?_
 refine A0 (E5 6 12 56) ?_
 refine B0 rfl ?_
 refine A5 (nx (D0 6 12) (A1 ?_))
 refine A2 (E7 (n := 18) (vs := [v45, v40, vS, vS, vS, .int .u32 0, .bool false, .int .u32 0, .bool false, xo, xt, xr, xk, .int .u32 (((A1A sec own).sn : Nat) : Int), xl, .int .u32 (((A1A sec own).tn : Nat) : Int), .int .u32 (((A1A sec own).prev : Nat) : Int), xq]) rfl kR At.mem rfl (D3 [] [v45, v40, vS, vS, vS, .int .u32 0, .bool false, .int .u32 0, .bool false, xo, xt, xr, xk, .int .u32 (((A1A sec own).sn : Nat) : Int), xl, .int .u32 (((A1A sec own).tn : Nat) : Int), .int .u32 (((A1A sec own).prev : Nat) : Int), xq] [])) rfl ?_
 refine A4 rfl (B8 (vs := [v45, v40, vS, vS, vS, .int .u32 0, .bool false, .int .u32 0, .bool false, xo, xt, xr, xk, .int .u32 (((A1A sec own).sn : Nat) : Int), xl, .int .u32 (((A1A sec own).tn : Nat) : Int), .int .u32 (((A1A sec own).prev : Nat) : Int), xq]) rfl rfl rfl kR qR (A3 h45.one (A3 h40.one (A3 rfl (A3 rfl (A3 rfl (A3 rfl (A3 rfl (A3 rfl (A3 rfl (A3 hr49.own.one (A3 hr49.their.one (A3 hr49.root.one (A3 hr49.sk.one (A3 rfl (A3 hr49.tk.one (A3 rfl (A3 rfl (A3 hr49.st.one H9)))))))))))))))))) UpC.upd ?_)
 refine as_ (A0 (D0 6 7) (A7 ?_))
 exact ⟨_, M45, [], W0 (n := 18) rfl rfl rfl kR At.mem qR, Fit.none (Fit.last qP), v45, v40, xo, xt, xr, xk, xl, xq, rfl, hP45, ⟨h45.mono qS, h40.mono qS, B7b, (show 0 ≤ 1000000 by decide), hr49.mono qS⟩⟩
set_option maxHeartbeats 1000000 in
theorem A99 (pb : Nat × Nat) (s : Ps) (kb : Nat) (k : Ks) (va vg vq vo vm : Value) (rs ro rm : List (List Value)) (e : Ev) (vz p r u vk vgg : Value) (sec own : LN) (s2 : Ps) (MP A : Mem) (hK : KyR A kb k va vg vq vo vm rs ro rm) (hrise : B2K k.once) (hP : Prm pb s MP) (hn : s.ts.length + 1000 ≤ 1040000) (he_ : EvR A e vz p r u vk vgg) (hhas : e.has = true) (han : anR k e.he s = (some (sec, own), s2)) (hn2 : s2.ts.length ≤ 900000) (hln : e.he.ia.length + e.he.ig.length + (idA k s2).length + (idG k s2).length ≤ 1000000) (hel : e.he.ia.length + e.he.ig.length + e.he.key.length ≤ 1000000) (hid : ¬ A1z (idS k s2) (nNm k e s2) = e.ses) (hG : Glb A) : FnX Tryz.prog 24 [.pointer (some ⟨pb.1, 0, none⟩), (vP kb), .agg (evC vz p r u vk vgg e).toArray] MP A fun q M J => q = .tuple #[.agg #[vS, vS, vS, vS, vS, .int .u32 0, .bool false, .int .u32 0, .bool false, vS, vS, vS, vS, .int .u32 0, vS, .int .u32 0, .int .u32 0, .pointer none], .int .i64 11] ∧ Prm pb (nC k e s2) M := by
 haveI := he_.ses.cel
 haveI := he_.he.ia.cel
 haveI := he_.he.ig.cel
 haveI := he_.he.key.cel
 haveI := he_.hk.cel
 haveI := he_.g.cel
 have hig := he_.he.ig.by qO
 unfold evC
 refine FnX.enterZ (N := 59) Tryz.func24 rfl rfl rfl fun w_ => ?_
 refine A8 (E5 0 1 2) (A1 ?_)
 refine A4 rfl (bx_ fun b5 => ?_)
 refine A4 rfl (D2 (cs := [vS, vS, vS, vS, vS, E4, .bool false, E4, .bool false, vS, vS, vS, vS, E4, vS, E4, E4, .pointer none]) kR rfl fun b6 => ?_)
 refine as_ (A0 (F4 0 1 5 6) (A6 (A1 ?_)))
 refine A2 (qf_ 5 5) rfl ?_
 refine A2 ql_ rfl ?_
 refine A2 (L6 rfl) rfl ?_
 refine A0 (G6 0 1 5 6 15) ?_
 refine B0 (by rw [show (false : Bool) = !e.has by rw [hhas]; rfl]; rfl) ?_
 refine A5 (nx (F4 0 1 5 6) (A1 (mv_ (mv_ ?_))))
 refine A2 (qf_ 6 6) rfl ?_
 refine A2 (E7 (n := 6) (vs := [p, r, u, (vU e.he.signed), .bool e.he.has, (vU e.he.once)]) rfl kR At.mem rfl (D3 [.int .i64 e.fu, .int .i64 e.fd, .int .i64 e.tu, .int .i64 e.td, vz, .bool e.has] [p, r, u, (vU e.he.signed), .bool e.he.has, (vU e.he.once)] [vk, (vU e.hp), (vU e.hn), vgg])) rfl ?_
 refine A4 rfl (A9 (Mc := MP) (R := _) (aS rfl (aS rfl (aS rfl (a0)))) kR qP (FnX.amb qS (A6z pb s kb k va vg vq vo vm rs ro rm e.he p r u MP A hK hrise hP hn he_.he hG)) rfl ?_)
 rintro v22 M22 J22 ⟨u1, u2, rfl, hP22, h1, h2⟩
 rw [han] at hP22 h1 h2 ⊢
 change Prm pb s2 M22 at hP22
 change By _ u1 sec at h1
 change By _ u2 own at h2
 haveI := h1.cel
 haveI := h2.cel
 rw [show (if ((some (sec, own), s2) : Option (LN × LN) × Ps).1.isSome = true then (0 : Int) else 9) = 0 from rfl]
 refine mv_ ?_
 refine A2 (R6 rfl) rfl ?_
 refine A2 (R4 rfl) rfl ?_
 refine A2 (B5v rfl) rfl ?_
 refine as_ (as_ (as_ (A0 (S9 0 1 5 6 8 9 10) (A6 (A1 (mv_ ?_))))))
 refine A2 (F0 false rfl rfl (neF rfl)) rfl ?_
 refine A0 (A0A 0 1 5 6 8 9 10 27) ?_
 refine B0 rfl ?_
 refine A5 (nx (I7 0 1 5 6 8 9) ?_)
 refine E6 (M22) (_) true (.range 12) [(0, 0), (1, 1), (2, 0), (3, 0), (4, 1), (5, 0), (7, 0), (8, 0), (6, 2), (9, 2), (10, 2), (11, 0)] kR kR qP fun hs K n0 hKm hKs hKn => ?_
 refine F1 hs rfl (qf_ 0 0) rfl ?_
 refine I1 hs rfl hKs (E7 (n := 2) (vs := [.int .i64 e.fu, .int .i64 e.fd]) rfl kR At.mem rfl (D3 [] [.int .i64 e.fu, .int .i64 e.fd] [.int .i64 e.tu, .int .i64 e.td, vz, .bool e.has, p, r, u, (vU e.he.signed), .bool e.he.has, (vU e.he.once), vk, (vU e.hp), (vU e.hn), vgg])) ?_
 refine F1 hs rfl (qf_ 6 6) rfl ?_
 refine F1 hs rfl (qf_ 6 0) rfl ?_
 refine I1 hs rfl hKs (E7 (n := 2) (vs := [p, r]) rfl kR At.mem rfl (D3 [.int .i64 e.fu, .int .i64 e.fd, .int .i64 e.tu, .int .i64 e.td, vz, .bool e.has] [p, r] [u, (vU e.he.signed), .bool e.he.has, (vU e.he.once), vk, (vU e.hp), (vU e.hn), vgg])) ?_
 refine km_ hs ?_
 refine km_ hs ?_
 refine km_ hs ?_
 refine F9 [] _ rfl rfl (List.Perm.refl _) (fun _ h => by cases h) fun w0 => (X3 (aS rfl a0) kR (A42 kb k va vg vq vo vm rs ro rm _ (hK.mono qS)) rfl fun _ => ?_)
 dsimp only [List.nil_append, List.append_eq]
 refine F9 _ _ rfl rfl (List.Perm.refl _) hKm fun w0 => (A9 (Mc := M22) (R := _) (aS rfl (aS rfl (a0))) kR qP (A2x pb s2 kb k va vg vq vo vm rs ro rm M22 _ (hK.mono qS) hP22 qO hG.up) rfl ?_)
 rintro v39 M39 J39 ⟨hP39, xa, xg, rfl, hxa, hxg⟩ hKx39
 haveI := hxa.cel
 haveI := hxg.cel
 refine F9 [] _ rfl rfl (List.Perm.refl _) (fun _ h => by cases h) fun w0 => (K0 (aS rfl (aS rfl (aS rfl (aS rfl a0)))) kR (A9n e.fu e.fd k.user k.dev p r xa xg _ _ _ _ _ (he_.he.ia.mono qS) (hig.mono qS) (hxa.mono qS) (hxg.mono qS) qO) rfl ?_)
 rintro v40 M40 J40 ⟨rfl, h40⟩ _
 haveI := h40.cel
 change By _ v40 (nWi k e s2) at h40
 dsimp only [List.nil_append, List.append_eq]
 refine F1 hs rfl (F5 rfl) rfl ?_
 refine G7 (I7 0 5 6 8 9 11) ?_
 have y1 := A0L k s2
 refine A1 (mv_ (mv_ ?_))
 refine A2 (qf_ 6 6) rfl ?_
 refine A2 (E7 (n := 6) (vs := [p, r, u, (vU e.he.signed), .bool e.he.has, (vU e.he.once)]) rfl kR At.mem rfl (D3 [.int .i64 e.fu, .int .i64 e.fd, .int .i64 e.tu, .int .i64 e.td, vz, .bool e.has] [p, r, u, (vU e.he.signed), .bool e.he.has, (vU e.he.once)] [vk, (vU e.hp), (vU e.hn), vgg])) rfl ?_
 refine A4 rfl (A9 (Mc := M39) (R := _) (aS rfl (aS rfl (aS rfl (a0)))) kR qP (A9Y pb (idS k s2) v40 (nWi k e s2) e.he p r u M39 _ hP39 qO (h40.mono qS) (he_.he.mono qS) qO qO hG.up) rfl ?_)
 rintro v45 M45 J45 ⟨hP45, h45⟩
 haveI := h45.cel
 change Prm pb (nC k e s2) M45 at hP45
 refine mv_ (mv_ (mv_ ?_))
 refine E0 (aS rfl (aS rfl a0)) kR (FnX.amb qS (A9N u1 u2 sec own (J22 ++ A) (h1.mono qS) (h2.mono qS))) rfl ?_
 rintro v49 M49 J49 ⟨rfl, xo, xt, xr, xk, xl, xq, rfl, hr49⟩
 haveI := hr49.own.cel
 haveI := hr49.their.cel
 haveI := hr49.root.cel
 haveI := hr49.sk.cel
 haveI := hr49.tk.cel
 haveI := hr49.st.cel
 unfold rsC
 refine A2 (D6 (place := fun x => #[(0, 1), (1, 1), (2, 6), (8, 1), (9, 9)][x]?) (z := [vS, vS, vS, vS, vS, E4, .bool false, E4, .bool false, vS, vS, vS, vS, E4, vS, E4, E4, .pointer none]) (fun _ => by kernel_rfl) (eS rfl (eS rfl (eS rfl e0))) (bdS 0 1 rfl qR (bdS 1 1 rfl qR (bdS 9 9 rfl qR bd0)))) rfl ?_
 refine A4 rfl (D2 (cs := [vS, vS, vS, vS, vS, E4, .bool false, E4, .bool false, vS, vS, vS, vS, E4, vS, E4, E4, .pointer none]) kR rfl fun b12 => ?_)
 refine A4 rfl (B8 (vs := [v45, v40, vS, vS, vS, .int .u32 0, .bool false, .int .u32 0, .bool false, xo, xt, xr, xk, .int .u32 (((A1A sec own).sn : Nat) : Int), xl, .int .u32 (((A1A sec own).tn : Nat) : Int), .int .u32 (((A1A sec own).prev : Nat) : Int), xq]) rfl rfl rfl kR qR (A3 h45.one (A3 h40.one (A3 rfl (A3 rfl (A3 rfl (A3 rfl (A3 rfl (A3 rfl (A3 rfl (A3 hr49.own.one (A3 hr49.their.one (A3 hr49.root.one (A3 hr49.sk.one (A3 rfl (A3 hr49.tk.one (A3 rfl (A3 rfl (A3 hr49.st.one H9)))))))))))))))))) UpC.upd ?_)
 refine A0 (E5 5 6 12) (A6 (A1 ?_))
 refine A2 (qf_ 0 0) rfl ?_
 refine A2 ql_ rfl ?_
 refine A2 (qf_ 4 4) rfl ?_
 refine A2 ql_ rfl ?_
 refine D7 (aS rfl (aS rfl a0)) kR (V2 v45 vz (A1z (idS k s2) (nNm k e s2)) e.ses _ (h45.mono qS) (he_.ses.mono qS)) rfl ?_
 rw [decide_eq_false hid]
 refine A2 (L6 rfl) rfl ?_
 refine A0 (E5 6 12 56) ?_
 refine E9 rfl ?_
 refine A1 ?_
 refine A2 (D6 (place := fun x => #[(0, 1), (1, 1), (2, 6), (8, 1), (9, 9)][x]?) (z := [vS, vS, vS, vS, vS, E4, .bool false, E4, .bool false, vS, vS, vS, vS, E4, vS, E4, E4, .pointer none]) (fun _ => by kernel_rfl) e0 bd0) rfl ?_
 refine A4 rfl (B8 (vs := [vS, vS, vS, vS, vS, .int .u32 0, .bool false, .int .u32 0, .bool false, vS, vS, vS, vS, .int .u32 0, vS, .int .u32 0, .int .u32 0, .pointer none]) rfl rfl rfl kR qR al18 UpC.upd ?_)
 refine as_ (A0 (D0 6 7) (A7 (tr ?_)))
 exact ⟨_, M45, [], W0 (n := 18) rfl rfl rfl kR At.mem qR, Fit.none (Fit.last qP), rfl, hP45⟩

end Go.Proofs.YtoameenjkiaefaaGreatDoor
