/- The card of the law AttackSees: it returns true for every input; each argument reads behind the call as it read before; the listed package variables are tied to the program's text. No further condition. -/
import Derived.Test.YtoameenjkiaefaaGreatDoorB14
import Derived.Lib.LaidTab
import Derived.Stop.LaidErr
import Derived.MakeChecks
import Derived.Test.YtoameenjkiaefaaGreatDoorCards
import Derived.Test.YtoameenjkiaefaaGreatDoorTie
import Derived.Deep.DeepHandedRow
import Derived.Deep.DeepWitnessRowRef
import Derived.Lay
import Derived.LaidMore
set_option linter.unusedVariables false
set_option linter.unusedSimpArgs false
set_option maxRecDepth 100000
namespace Go.Proofs.YtoameenjkiaefaaGreatDoor
open Go.Px
theorem A3G {pb : Nat × Nat} {s : Ps} {ts : List Tm} {M : Mem} (h : Prm pb { s with ts := ts } M) (e : ts = s.ts) : Prm pb s M := by subst e; exact h
def A8o (R : Mem) (v : Value) (x : Ses) : Prop := ∃ vi vw p r u vo vt vr vk vl vst, v = .agg (seC vi vw p r u vo vt vr vk vl vst x).toArray ∧ SeR R x vi vw p r u vo vt vr vk vl vst
theorem A8o.mono {R R' : Mem} {v : Value} {x : Ses} (h : A8o R v x) (hR : ∀ z, z ∈ R → z ∈ R') : A8o R' v x := by
  obtain ⟨a, b, c, d, e, f, g, i, j, k, l, h1, h2⟩ := h
  exact ⟨a, b, c, d, e, f, g, i, j, k, l, h1, h2.mono hR⟩
def KyE (R : Mem) (kb : Nat) (k : Ks) : Prop := ∃ va vg vq vo vm rs ro rm, KyR R kb k va vg vq vo vm rs ro rm
theorem KyE.mono {R R' : Mem} {kb : Nat} {k : Ks} (h : KyE R kb k) (hR : ∀ z, z ∈ R → z ∈ R') : KyE R' kb k := by
  obtain ⟨a, b, c, d, e, f, g, i, h⟩ := h
  exact ⟨a, b, c, d, e, f, g, i, h.mono hR⟩
theorem B3E : aU.1[1]? = some aY := by
  have h := af.1.2.2.1
  unfold aY
  rw [List.getD_eq_getElem?_getD, List.getElem?_eq_getElem qO]; rfl
structure HS (i : Nat) (h : List Bool) : Prop where
  len : h.length ≤ 24
  up : Le h aH
  lo : ∀ b ∈ aU.1.take i, ∀ x ∈ lrI aU.2.ts (shN b), kat h x = true
theorem B0P {i : Nat} {b : Bn} {h h' : List Bool} (hb : aU.1[i]? = some b) (hh : HS i h) (hc : Clo (R8 aU.2.ts h (shN b)).1 (R8 aU.2.ts h (shN b)).2 h') : HS (i + 1) h' ∧ (R8 aU.2.ts h (shN b)).1 = aU.2.ts := by
  obtain ⟨⟨f1, f2, f3, f4, f5, f6, -⟩, -, -, -, -, hall, -, hcl, -⟩ := af
  have h1 := List.all_eq_true.1 hall b (List.mem_of_getElem? hb)
  rw [Bool.and_eq_true] at h1
  have hl : h.length ≤ aU.2.ts.length := by have := hh.len; omega
  obtain ⟨-, d2, d3, d4⟩ := A4x hl h1.1 hc
  refine ⟨⟨by omega, A4w hl h1.1 hc hh.up (by rw [hcl, Bool.true_and]; exact h1.2), fun c hcm x hx => ?_⟩, (A1e (shN b) aU.2.ts h hl h1.1).1⟩
  rw [List.take_add_one, hb] at hcm
  rcases List.mem_append.1 hcm with hm | hm
  · exact d2 x (hh.lo c hm x hx)
  · have e : c = b := by simpa using hm
    subst e
    exact d3 x hx
structure HQ (h : List Bool) : Prop where
  len : h.length = 43
  up : Le h aH
  lo : ∀ x ∈ lS ++ lT, kat h x = true
  tr : ∀ x ∈ lrI aE.ts (trN aV), kat h x = true
theorem HS.nil : HS 0 [] := ⟨Nat.zero_le _, fun i hi => by simp [kat] at hi, fun b hb => by simp at hb⟩
theorem A89 {h h' : List Bool} (hl : h.length ≤ aE.ts.length) (up : Le h aH) (lo : ∀ x ∈ lS, kat h x = true) (hc : Clo (R8 aE.ts h (trN aV)).1 (R8 aE.ts h (trN aV)).2 h') : HQ h' ∧ (R8 aE.ts h (trN aV)).1 = aE.ts := by
  obtain ⟨-, -, -, ⟨-, -, -, -, -, -, -, g8, -⟩, -, -, -, -, h1, h2, h3, -⟩ := af
  rw [Bool.and_eq_true] at h1
  obtain ⟨-, d2, d3, d4⟩ := A4x hl h1.1 hc
  refine ⟨⟨by omega, A4w hl h1.1 hc up (by rw [h3, Bool.true_and]; exact h1.2), fun x hx => ?_, d3⟩, (A1e (trN aV) aE.ts h hl h1.1).1⟩
  rcases List.mem_append.1 hx with hx | hx
  · exact d2 x (lo x hx)
  · exact d3 x (by simpa using List.all_eq_true.1 h2 x hx)
theorem HS.lS {h : List Bool} (hh : HS 5 h) : ∀ x ∈ lS, kat h x = true := by
  obtain ⟨⟨-, -, f3, -⟩, -, -, -, -, -, hs, -⟩ := af
  intro x hx
  obtain ⟨b, hb, hx2⟩ := List.any_eq_true.1 (List.all_eq_true.1 hs x hx)
  exact hh.lo b (by rw [List.take_of_length_le qO]; exact hb) x (by simpa using hx2)
theorem B3F : StH aA.1 aY aU.2 := by
  obtain ⟨-, -, ⟨h1, h2, h3, h4, h5, h6⟩, -⟩ := af
  exact ⟨h1, h2, h3, h4, h5, h6⟩
theorem A8p : dcO (A8Y aV) = true ∧ dcE (A8Y aV) = aV := by
  obtain ⟨-, -, -, -, h, -⟩ := af
  rw [Bool.and_eq_true] at h
  exact ⟨h.1, B3B h.2⟩
theorem A8q : aA.1.user = 0 ∧ aA.1.dev = 1 ∧ aB.1.user = 1 ∧ aB.1.dev = 1 := by decide +kernel
theorem B2m {P : Program} {fn : Func} {l : Env} {R : Mem} {a1 a2 a3 a4 t b n : Nat} {ty : TypeId} {cs : List Value} {e : TypeId} {fr : Nat × Nat} {v1 v2 v3 v4 : Value} (h : fn.results = #[.tmp a1, .tmp a2, .tmp a3, .tmp a4, .cell t ty]) (h1 : lk l a1 = some v1) (h2 : lk l a2 = some v2) (h3 : lk l a3 = some v3) (h4 : lk l a4 = some v4) (hv : lk l t = some (vP b)) (ht : A24 P ty = some n)
    (hb : (b, Obj.cells cs.toArray e fr) ∈ R) (hn : cs.length = n) : Res P fn l R (.tuple #[v1, v2, v3, v4, .agg cs.toArray]) := fun N a w ha hw => by
  obtain ⟨dsc, g1, g2, g3⟩ := L4 ht
  have hl := run_loadVar_row (P := P) w b e ty cs.toArray fr dsc (hw b _ hb) g1 (by cases dsc <;> simp_all [TypeDesc.isRow]) (by rw [g3, ← hn]; simp)
  simp [results, h, ha.slot a1 _ h1, ha.slot a2 _ h2, ha.slot a3 _ h3, ha.slot a4 _ h4, ha.slot t _ hv, asAddr, hl]
set_option maxHeartbeats 1000000 in
theorem A4A (A : Mem) (hG : Glb A) : FnX Tryz.prog 8 [] [] A fun q M J => ∃ vb kb k1 k2 pb h MA MP es ep er eu ek eg, q = .tuple #[.pointer (some ⟨pb.1, 0, none⟩), (vP vb), (vP k1), (vP k2), .agg (evC es ep er eu ek eg aV).toArray] ∧ M = MA ++ MP ∧ Adv (J ++ A) vb kb pb h [aV] [] MA ∧ Prm pb aE MP ∧ KyE (J ++ A) k1 aA.1 ∧ KyE (J ++ A) k2 aB.1 ∧ EvR (J ++ A) aV es ep er eu ek eg ∧ HQ h := by
 refine FnX.enterZ (N := 88) Tryz.func8 rfl rfl rfl fun w_ => ?_
 refine A8 kn (A1 (as_ (as_ (as_ (as_ ?_)))))
 refine A4 rfl (D3 (cs := [I0, I0, I0, I0, vS, .bool false, vS, vS, vS, F9, .bool false, F9, vS, F9, F9, vS]) kR rfl fun b4 => ?_)
 refine A0 (C8 4) (A1 ?_)
 refine E4 (aS rfl (aS rfl a0)) kR (A59 (vS) [] _ By.nil) rfl ?_
 rintro v18 MP J18 ⟨pb, rfl, hP⟩
 change Prm pb zP0 MP at hP
 have q1 := A96 0 1 zP0
 change aA.2.ts.length ≤ 11 ∧ aA.2.n ≤ 7 ∧ _ at q1
 refine mv_ ?_
 refine A2 (A0k rfl) rfl ?_
 refine A2 (Z6 rfl) rfl ?_
 refine as_ (as_ (A0 (E5 4 5 6) (A7 (A1 (mv_ ?_)))))
 refine A2 (G4 false rfl rfl (neF rfl)) rfl ?_
 refine A0 (E5 4 5 22) ?_
 refine C3 rfl ?_
 refine A5 (nx (D1 4 5) (A1 (mv_ ?_)))
 refine A2 (D2 (place := fun x => #[(0, 1), (1, 1)][x]?) (z := [.int .i64 0, .int .i64 0]) (fun _ => by kernel_rfl) (eS rfl (eS rfl e0)) (bdS 0 1 rfl qR (bdS 1 1 rfl qR bd0))) rfl ?_
 refine A4 rfl (A9 (Mc := MP) (R := _) (aS rfl (aS rfl (a0))) kR qP (FnX.amb qS (B1L 0 1 pb zP0 MP A hP (show 0 + 200 ≤ 1048576 by decide) (show 0 + 100 < 1000000000 by decide) hG)) rfl ?_)
 rintro v26 M26 J26 ⟨k1, MK1, MP2, rfl, rfl, hK1, hP2⟩
 change Kys _ k1 aA.1 MK1 at hK1
 change Prm pb aA.2 MP2 at hP2
 refine as_ (A0 (E5 4 5 7) (A1 (mv_ ?_)))
 refine A2 (D2 (place := fun x => #[(0, 1), (1, 1)][x]?) (z := [.int .i64 0, .int .i64 0]) (fun _ => by kernel_rfl) (eS rfl (eS rfl e0)) (bdS 0 1 rfl qR (bdS 1 1 rfl qR bd0))) rfl ?_
 refine A4 rfl (A9 (Mc := MP2) (R := _) (aS rfl (aS rfl (a0))) kR qP (FnX.amb qS (B1L 1 1 pb aA.2 MP2 (J26 ++ A) hP2 qO qO (hG.sub qS))) rfl ?_)
 rintro v29 M29 J29 ⟨k2, MK2, MP3, rfl, rfl, hK2, hP3⟩
 change Kys _ k2 aB.1 MK2 at hK2
 change Prm pb aB.2 MP3 at hP3
 refine as_ (A0 (F3 4 5 7 8) ?_)
 refine A0c (B := MK1) qP ?_
 refine A0c (B := MK2) qP ?_
 obtain ⟨va, vg, vq, vo, vm, rs, ro, rm, hra⟩ := hK1.r
 obtain ⟨ua, ug, uq, uo, um, ss, so, sm, hrb⟩ := hK2.r
 have haf := af
 obtain ⟨⟨f1, f2, f3, f4, f5, f6, fck⟩, far, -, ⟨g1_, g2_, g3_, g4_, g5_, g6_, g7_, g8_, g9_, ga_, gb_, gc_⟩, -⟩ := haf
 obtain ⟨x, hsg⟩ := List.length_eq_one_iff.1 f1
 refine A1 (mv_ ?_)
 refine E4 (aS rfl a0) kR (A88 pb aB.2 MP3 _ hP3 (fun z hz => by simp [hz])) rfl ?_
 rintro v31 M31 J31 ⟨vb, kb, rfl, hA31⟩
 refine as_ (A0 (H4 4 5 7 8 9) (A1 (mv_ (mv_ ?_))))
 refine A4 rfl (A9 (Mc := MP3) (R := _) (aS rfl (aS rfl (a0))) kR qP (FnX.amb qS (A6F pb aB.2 k2 aB.1 ua ug uq uo um ss so sm x [] MP3 (MK2 ++ (MK1 ++ (J29 ++ (J26 ++ A)))) (hrb _ qS qS) hsg hP3 qO qO (hG.sub qS))) rfl ?_)
 rintro v34 M34 J34 ⟨hP34, rows, hrd, hrw⟩
 haveI := hrd.cel
 change Prm pb aU.2 M34 at hP34
 change Rd _ 10 _ aU.1.length _ at hrd
 change RwL bnR _ rows aU.1 at hrw
 refine as_ (A0 (L5 4 5 7 8 9 10) (A7 (A1 (mv_ ?_))))
 refine A2 (E0 (sz := 10) rfl kR hrd) rfl ?_
 rw [f3]
 refine A2 (G4 false rfl rfl (neF qR)) rfl ?_
 refine mv_ ?_
 refine B0 rfl rfl (OpQ.opL qm_ rfl ?_)
 refine B0 rfl rfl (OpQ.opL (D0 (e := 93) rfl rfl kR) rfl ?_)
 refine A2 (C7 rfl rfl) rfl ?_
 refine A0 (W3 4 5 7 8 9 10 41) ?_
 refine C3 rfl ?_
 refine A5 (nx (L5 4 5 7 8 9 10) (A7 (A1 (as_ (A0 (W3 4 5 7 8 9 10 11) (C4 ?_))))))
 refine G1 (α := Nat × List Bool × Mem × Mem) (fun y => [(4, (vP b4)), (5, .pointer (some ⟨pb.1, 0, none⟩)), (7, (vP k1)), (8, (vP k2)), (9, (vP vb)), (10, v34), (11, (vI y.1))]) (fun y => (b4, blk [.int .i64 0, .int .i64 0, .int .i64 0, .int .i64 0, vS, .bool false, vS, vS, vS, .int .u32 0, .bool false, .int .u32 0, vS, .int .u32 0, .int .u32 0, vS] 37) :: (y.2.2.1 ++ y.2.2.2)) (fun _ => (J34 ++ (MK2 ++ (MK1 ++ (J29 ++ J26))))) (fun y => y.1 ≤ 5 ∧ HS y.1 y.2.1 ∧ Adv [] vb kb pb y.2.1 [] [] y.2.2.1 ∧ Prm pb aU.2 y.2.2.2) (fun y => 5 - y.1) (0, [], M31, M34) ⟨Nat.zero_le _, HS.nil, hA31 _, hP34⟩ (W3 4 5 7 8 9 10 11) (Fit.pick (B := [_]) qP (Fit.pick qP (Fit.last qP))) (fun z hz => by simp only [List.mem_append] at hz ⊢; rcases hz with h | h | h | h | h <;> simp [h]) ?_
 rintro ⟨i, h, MA, MQ⟩ ⟨hi, hS, hA, hQ⟩
 dsimp only at hi hS hA hQ ⊢
 refine A7 (A1 (mv_ (mv_ ?_)))
 refine A2 (E0 (sz := 10) rfl kR hrd) rfl ?_
 rw [f3]
 refine A2 (E3 rfl rfl rfl) rfl ?_
 refine A0 (A5t 4 5 7 8 9 10 11 46) ?_
 refine B8 rfl ?_ ?_ <;> intro hc
 ·
  have hlt : i < 5 := by have := of_decide_eq_true hc; omega
  obtain ⟨y, hy⟩ : ∃ y, aU.1[i]? = some y := ⟨_, List.getElem?_eq_getElem qO⟩
  obtain ⟨r0, hr0, w1, w2, w3, w4, w5, rfl, gw1, gw2, gw3, gw4, gw5, gws, gwo⟩ := hrw.get i y hy
  haveI := gw1.cel
  haveI := gw2.cel
  haveI := gw3.cel
  haveI := gw4.cel
  haveI := gw5.cel
  refine A5 (nx (W3 4 5 7 8 9 10 11) (A7 (C4 (C9 (mv_ (mv_ (mv_ ?_)))))))
  refine A2 (E7 (sz := 10) (a := i) rfl rfl kR rfl hrd qO) rfl ?_
  refine A2 (Z8 rfl kR (hrd.mono qS) (hrw.lens bnT) qD hr0) rfl ?_
  refine A4 rfl (A9 (Mc := MA ++ MQ) (R := _) (aS rfl (aS rfl (a0))) kR qP (B0M vb kb pb aU.2 h [] [] y w1 w2 w3 w4 w5 MA MQ [] _ hA hQ (by have := hS.len; omega) qO (gw1.mono qS) (gw2.mono qS) (gw3.mono qS) (gw4.mono qS) (gw5.mono qS) hG.up) rfl ?_)
  rintro v54 M54 J54 ⟨MA2, MQ2, h2, rfl, hclo, hA2, hQ2⟩
  obtain ⟨hS2, hts⟩ := B0P hy hS hclo
  replace hQ2 := A3G hQ2 hts
  refine D7 (nb (nx (W3 4 5 7 8 9 10 11) (C9 (mv_ ?_))))
  refine A2 (T6 ((i + 1 : Nat) : Int) rfl rfl (X8 qO qO qO)) rfl ?_
  refine as_ (D7 ?_)
  exact rn (i + 1, h2, MA2, MQ2) ⟨hlt, hS2, hA2, hQ2⟩ (by dsimp only; omega) (W3 4 5 7 8 9 10 11) (Fit.pick (B := [_]) qP (Fit.pick qP (Fit.last qP))) (fun z hz => List.mem_append_right _ hz)
 ·
  obtain rfl : i = 5 := by have := of_decide_eq_false hc; omega
  obtain ⟨r0, hr0, w1, w2, w3, w4, w5, rfl, gw1, gw2, gw3, gw4, gw5, gws, gwo⟩ := hrw.get 1 aY B3E
  haveI := gw1.cel
  haveI := gw2.cel
  haveI := gw3.cel
  haveI := gw4.cel
  haveI := gw5.cel
  refine F2 (te (re (be rfl (nx (L5 4 5 7 8 9 10) (A1 (mv_ (mv_ (mv_ ?_))))))))
  refine A2 (E7 (sz := 10) (a := 1) rfl rfl kR rfl hrd (by rw [f3]; decide)) rfl ?_
  refine A2 (Z8 rfl kR (hrd.mono qS) (hrw.lens bnT) qD hr0) rfl ?_
  refine A4 rfl (A9 (Mc := MQ) (R := _) (aS rfl (aS rfl (aS rfl (a0)))) kR qP (FnX.amb qS (A8m pb aU.2 k1 aA.1 va vg vq vo vm rs ro rm aY w1 w2 w3 w4 w5 MQ (J34 ++ (MK2 ++ (MK1 ++ (J29 ++ (J26 ++ A))))) (hra _ qS qS) hQ far qO qO (gw1.mono qS) (gw2.mono qS) (gw3.mono qS) (gw4.mono qS) (gw5.mono qS) gws gwo fck B3F (hG.sub qS))) rfl ?_)
  rintro v61 M61 J61 ⟨vi, vw, p, r, u, xo, xt, xr, xk, xl, xq, rfl, hP61, hx⟩
  change SeR _ aX vi vw p r u xo xt xr xk xl xq at hx
  change Prm pb aD M61 at hP61
  rw [show sX aA.1 aY aU.2 = aX from rfl]
  haveI := hx.id.cel
  haveI := hx.wi.cel
  haveI := hx.he.ia.cel
  haveI := hx.he.ig.cel
  haveI := hx.he.key.cel
  haveI := hx.r.own.cel
  haveI := hx.r.their.cel
  haveI := hx.r.root.cel
  haveI := hx.r.sk.cel
  haveI := hx.r.tk.cel
  haveI := hx.r.st.cel
  unfold seC
  refine mv_ ?_
  refine A2 (A0k rfl) rfl ?_
  refine A2 (Z6 rfl) rfl ?_
  refine A4 rfl (D3 (cs := [vS, vS, vS, vS, vS, F9, .bool false, F9, .bool false, vS, vS, vS, vS, F9, vS, F9, F9, .pointer none]) kR rfl fun b12 => ?_)
  refine A4 rfl (C5 (vs := [vi, vw, p, r, u, (vU aX.he.signed), .bool aX.he.has, (vU aX.he.once), .bool aX.tell, xo, xt, xr, xk, (vU aX.r.sn), xl, (vU aX.r.tn), (vU aX.r.prev), xq]) rfl rfl rfl kR qR (A3 hx.id.one (A3 hx.wi.one (A3 hx.he.ia.one (A3 hx.he.ig.one (A3 hx.he.key.one (A3 rfl (A3 rfl (A3 rfl (A3 rfl (A3 hx.r.own.one (A3 hx.r.their.one (A3 hx.r.root.one (A3 hx.r.sk.one (A3 rfl (A3 hx.r.tk.one (A3 rfl (A3 rfl (A3 hx.r.st.one K2)))))))))))))))))) UpC.upd ?_)
  refine as_ (A0 (L5 4 5 7 8 9 12) ?_)
  refine A5m (M' := M61 ++ ([(b12, blk [vi, vw, p, r, u, (vU aX.he.signed), .bool aX.he.has, (vU aX.he.once), .bool aX.tell, xo, xt, xr, xk, (vU aX.r.sn), xl, (vU aX.r.tn), (vU aX.r.prev), xq] 74), (b4, blk [.int .i64 0, .int .i64 0, .int .i64 0, .int .i64 0, vS, .bool false, vS, vS, vS, .int .u32 0, .bool false, .int .u32 0, vS, .int .u32 0, .int .u32 0, vS] 37)] ++ MA)) (J' := J61 ++ (J34 ++ (MK2 ++ (MK1 ++ (J29 ++ J26))))) (Fit.pick qP (Fit.pick (B := [_]) qP (Fit.pick (B := [_]) qP (Fit.last qP)))) (fun z hz => hz) ?_
  refine E6 (M61) (_) true [0, 1, 2, 3, 4, 5, 6, 7, 8, 9, 10, 11, 12, 13, 14, 15, 16, 19] [(0, 0), (1, 1), (2, 0), (4, 0), (3, 8), (5, 8), (6, 8), (7, 8), (8, 8), (9, 8), (10, 8), (11, 8), (12, 8), (15, 8), (16, 8), (13, 9), (14, 10), (17, 2), (18, 2), (19, 0)] kR kR qP fun hs K n0 hKm hKs hKn => ?_
  refine km_ hs ?_
  refine I5 hs rfl hKs (H1 (n := 18) (vs := [vi, vw, p, r, u, (vU aX.he.signed), .bool aX.he.has, (vU aX.he.once), .bool aX.tell, xo, xt, xr, xk, (vU aX.r.sn), xl, (vU aX.r.tn), (vU aX.r.prev), xq]) rfl kR At.mem rfl (E9 [] [vi, vw, p, r, u, (vU aX.he.signed), .bool aX.he.has, (vU aX.he.once), .bool aX.tell, xo, xt, xr, xk, (vU aX.r.sn), xl, (vU aX.r.tn), (vU aX.r.prev), xq] [])) ?_
  refine km_ hs ?_
  refine km_ hs ?_
  refine A2V [⟨3, 68, none, [], fun v B _ => B = [] ∧ v = .agg #[.int .i64 aA.1.user, .int .i64 aA.1.dev]⟩, ⟨5, 70, none, [], fun v B _ => B = [] ∧ v = .agg #[.int .i64 aB.1.user, .int .i64 aB.1.dev]⟩, ⟨6, 71, none, [], fun v B _ => ∃ b, v = .slice (some ⟨b, 0, none⟩) 6 6 ∧ B = [(b, blk (H3 .u8 [115, 101, 99, 114, 101, 116]) 5)]⟩, ⟨7, 72, some 6, [], fun v B R => B = [] ∧ By R v A87⟩, ⟨8, 73, none, [], fun v B R => B = [] ∧ ∃ w0, v = .agg #[.int .i64 1, (vU 1), w0] ∧ By R w0 A87⟩, ⟨9, 74, none, [], fun v B R => B = [] ∧ By R v aT⟩, ⟨10, 75, none, M61, fun v B R => ∃ q1 q2, v = .tuple #[q1, q2, .int .i64 0] ∧ Prm pb aE B ∧ A8o R q1 (A26 aX (Q4 aD aX.r)) ∧ EvV R q2 aV⟩, ⟨11, 64, none, [], fun v B R => B = [] ∧ ∃ q1 q2, v = .tuple #[q1, q2, .int .i64 0] ∧ A8o R q1 (A26 aX (Q4 aD aX.r)) ∧ EvV R q2 aV⟩, ⟨12, 76, none, [], fun v B R => B = [] ∧ A8o R v (A26 aX (Q4 aD aX.r))⟩, ⟨15, 14, none, [], fun v B _ => ∃ b, v = (vP b) ∧ B = [(b, blk [vS, vS, vS, vS, vS, .int .u32 0, .bool false, .int .u32 0, .bool false, vS, vS, vS, vS, .int .u32 0, vS, .int .u32 0, .int .u32 0, .pointer none] 74)]⟩, ⟨16, 15, none, [], fun v B _ => ∃ b, v = (vP b) ∧ B = [(b, blk [.int .i64 0, .int .i64 0, .int .i64 0, .int .i64 0, vS, .bool false, vS, vS, vS, .int .u32 0, .bool false, .int .u32 0, vS, .int .u32 0, .int .u32 0, vS] 37)]⟩] [⟨13, 77, none, [], fun v B R => B = [] ∧ EvV R v aV⟩, ⟨14, 78, none, [], fun v B R => B = [] ∧ v = .int .i64 0⟩] ([(b12, blk [vi, vw, p, r, u, (vU aX.he.signed), .bool aX.he.has, (vU aX.he.once), .bool aX.tell, xo, xt, xr, xk, (vU aX.r.sn), xl, (vU aX.r.tn), (vU aX.r.prev), xq] 74), (b4, blk [.int .i64 0, .int .i64 0, .int .i64 0, .int .i64 0, vS, .bool false, vS, vS, vS, .int .u32 0, .bool false, .int .u32 0, vS, .int .u32 0, .int .u32 0, vS] 37)] ++ MA) (fun bs => [bs 3, bs 5, bs 7, bs 8, bs 9, bs 10, bs 11, bs 12, bs 15, bs 16, bs 13, bs 14]) (hKn rfl) (by simp [U0, X0]) (show ∀ m ∈ ([[], [], [], [], [], M61, [], [], [], [], [], []] : List Mem), ∀ x ∈ m, K x.1 from A3 (fun _ h => by cases h) (A3 (fun _ h => by cases h) (A3 (fun _ h => by cases h) (A3 (fun _ h => by cases h) (A3 (fun _ h => by cases h) (A3 (hKm) (A3 (fun _ h => by cases h) (A3 (fun _ h => by cases h) (A3 (fun _ h => by cases h) (A3 (fun _ h => by cases h) (A3 (fun _ h => by cases h) (A3 (fun _ h => by cases h) (K2))))))))))))) kR (fun _ => by first | rfl | kernel_rfl)
   (A3 (fun _ _ _ _ _ h => h) (A3 (fun _ _ _ _ _ h => h) (A3 (fun _ _ _ _ _ h => h) (A3 (fun _ _ _ _ h hp => ⟨hp.1, hp.2.mono h⟩) (A3 (fun _ _ _ _ h hp => (let ⟨e0, w0, e1, e2⟩ := hp; ⟨e0, w0, e1, e2.mono h⟩)) (A3 (fun _ _ _ _ h hp => ⟨hp.1, hp.2.mono h⟩) (A3 (fun _ _ _ _ h ⟨q1, q2, e, p1, p2, p3⟩ => ⟨q1, q2, e, p1, p2.mono h, p3.mono h⟩) (A3 (fun _ _ _ _ h ⟨e0, q1, q2, e, p2, p3⟩ => ⟨e0, q1, q2, e, p2.mono h, p3.mono h⟩) (A3 (fun _ _ _ _ h hp => ⟨hp.1, hp.2.mono h⟩) (A3 (fun _ _ _ _ _ h => h) (A3 (fun _ _ _ _ _ h => h) (A3 (fun _ _ _ _ h hp => ⟨hp.1, hp.2.mono h⟩) (A3 (fun _ _ _ _ _ h => h) (K2)))))))))))))) (show List.Nodup [68, 70, 71, 72, 73, 74, 75, 64, 76, 14, 15, 77, 78] by decide) (show List.Nodup [3, 5, 6, 7, 8, 9, 10, 11, 12, 15, 16, 13, 14] by decide) (A3 (D5 rfl) (A3 (D5 rfl) (A3 (D5 rfl) (A3 (D5 rfl) (A3 (D5 rfl) (A3 (D5 rfl) (A3 (D5 rfl) (A3 (D5 rfl) (A3 (D5 rfl) (A3 (D5 rfl) (A3 (D5 rfl) (A3 (D5 rfl) (A3 (D5 rfl) (K2))))))))))))))
   hs (List.cons_ne_nil _ _) (A3 ⟨_, rfl, fun vs bs R Rj wG hb hj hjr ha => ⟨.inl rfl, ?_⟩⟩ (A3 ⟨_, rfl, fun vs bs R Rj wG hb hj hjr ha => ⟨.inl rfl, ?_⟩⟩ (A3 ⟨_, rfl, fun vs bs R Rj wG hb hj hjr ha => ⟨.inl rfl, ?_⟩⟩ (A3 ⟨_, rfl, fun vs bs R Rj wG hb hj hjr ha => ⟨.inl rfl, ?_⟩⟩ (A3 ⟨_, rfl, fun vs bs R Rj wG hb hj hjr ha => ⟨.inl rfl, ?_⟩⟩ (A3 ⟨_, rfl, fun vs bs R Rj wG hb hj hjr ha => ⟨.inl rfl, ?_⟩⟩ (A3 ⟨_, rfl, fun vs bs R Rj wG hb hj hjr ha => ⟨.inl rfl, ?_⟩⟩ (A3 ⟨_, rfl, fun vs bs R Rj wG hb hj hjr ha => ⟨.inl rfl, ?_⟩⟩ (A3 ⟨_, rfl, fun vs bs R Rj wG hb hj hjr ha => ⟨.inl rfl, ?_⟩⟩ (A3 ⟨_, rfl, fun vs bs R Rj wG hb hj hjr ha => ⟨.inl rfl, ?_⟩⟩ (A3 ⟨_, rfl, fun vs bs R Rj wG hb hj hjr ha => ⟨.inl rfl, ?_⟩⟩ (K2)))))))))))) (A3 ⟨rfl, rfl, _, _, _, _, rfl, fun vs bs Rj hj ha => ?_⟩ (A3 ⟨rfl, rfl, _, _, _, _, rfl, fun vs bs Rj hj ha => ?_⟩ (K2))) ?_
  ·
   dsimp only [Gc.inp]
   exact A0o (aS rfl a0) kR (A2Q (A94 k1 aA.1 va vg vq vo vm rs ro rm Rj (hra Rj (fun x hx => hj x (qS x hx)) (fun x hx => hj x (qS x hx)))) (fun x hx => by have := hjr x hx; simp [this])) rfl ⟨_, rfl, rfl, rfl⟩
  ·
   dsimp only [Gc.inp]
   exact A0o (aS rfl a0) kR (A2Q (A94 k2 aB.1 ua ug uq uo um ss so sm Rj (hrb Rj (fun x hx => hj x (qS x hx)) (fun x hx => hj x (qS x hx)))) (fun x hx => by have := hjr x hx; simp [this])) rfl ⟨_, rfl, rfl, rfl⟩
  ·
   dsimp only [Gc.inp]
   exact C0 (e := 5) (sz := 1) (z := [zu8, zu8, zu8, zu8, zu8, zu8]) kR (eS rfl (eS rfl (eS rfl (eS rfl (eS rfl (eS rfl e0)))))) (bdS 0 1 rfl qR (bdS 1 1 rfl qR (bdS 2 1 rfl qR (bdS 3 1 rfl qR (bdS 4 1 rfl qR (bdS 5 1 rfl qR bd0)))))) rfl fun b => ⟨_, rfl, b, rfl, rfl⟩
  ·
   dsimp only [Gc.inp]
   have g6 := ha _ (List.mem_of_getElem? (i := 2) rfl) kR
   replace g6 : (fun v B _ => ∃ b, v = .slice (some ⟨b, 0, none⟩) 6 6 ∧ B = [(b, blk (H3 .u8 [115, 101, 99, 114, 101, 116]) 5)]) (vs 6) (bs 6) Rj := g6
   dsimp only at g6
   obtain ⟨b, e, eB⟩ := g6
   dsimp only [N8, List.map, List.cons_append, List.nil_append]
   rw [e, eB]
   refine OpL.frzAll ?_
   exact A3O rfl kR UpC.upd rfl (fun J2 hJ => ⟨_, rfl, rfl, ⟨Rd.whole (n := 6) (List.mem_append_left _ (hJ _ (List.mem_append_left _ (List.mem_singleton.2 rfl)))) qR, by decide, by decide⟩⟩)
  ·
   dsimp only [Gc.inp]
   have g7 := ha _ (List.mem_of_getElem? (i := 3) rfl) kR
   replace g7 : (fun v B R => B = [] ∧ By R v A87) (vs 7) (bs 7) Rj := g7
   dsimp only at g7
   obtain ⟨-, h7⟩ := g7
   haveI := h7.cel
   exact OpQ.opL (D2 (place := fun x => #[(0, 1), (1, 1), (2, 1)][x]?) (z := [.int .i64 0, .int .u32 0, vS]) (fun _ => by kernel_rfl) (eS rfl (eS rfl (eS rfl e0))) (bdS 0 1 rfl qR (bdS 1 1 rfl qR (bdS 2 1 rfl qR bd0)))) rfl ⟨_, rfl, rfl, _, rfl, h7⟩
  ·
   dsimp only [Gc.inp]
   have g8 := ha _ (List.mem_of_getElem? (i := 4) rfl) kR
   replace g8 : (fun v B R => B = [] ∧ ∃ w0, v = .agg #[.int .i64 1, (vU 1), w0] ∧ By R w0 A87) (vs 8) (bs 8) Rj := g8
   dsimp only at g8
   obtain ⟨-, w0, e_, h8⟩ := g8
   have hsp := A3x 1 1 w0 A87 Rj qD h8 qD
   rw [← e_] at hsp
   refine I9 (aS rfl a0) kR (FnX.amb (A := Rj) (fun x hx => by have := hjr x hx; simp [this]) hsp) rfl ?_
   rintro r M1 J1 ⟨rfl, hh_⟩
   exact ⟨_, rfl, rfl, hh_.mono fun z hz => by simp [hz]⟩
  ·
   dsimp only [Gc.inp]
   have g3 := ha _ (List.mem_of_getElem? (i := 0) rfl) kR
   replace g3 : (fun v B _ => B = [] ∧ v = .agg #[.int .i64 aA.1.user, .int .i64 aA.1.dev]) (vs 3) (bs 3) Rj := g3
   dsimp only at g3
   have g5 := ha _ (List.mem_of_getElem? (i := 1) rfl) kR
   replace g5 : (fun v B _ => B = [] ∧ v = .agg #[.int .i64 aB.1.user, .int .i64 aB.1.dev]) (vs 5) (bs 5) Rj := g5
   dsimp only at g5
   have g9 := ha _ (List.mem_of_getElem? (i := 5) rfl) kR
   replace g9 : (fun v B R => B = [] ∧ By R v aT) (vs 9) (bs 9) Rj := g9
   dsimp only at g9
   obtain ⟨-, h9⟩ := g9
   obtain ⟨-, e3⟩ := g3
   obtain ⟨-, e5⟩ := g5
   rw [A8q.1, A8q.2.1] at e3
   rw [A8q.2.2.1, A8q.2.2.2] at e5
   haveI := h9.cel
   have hsp := (B0J pb aD aX vi vw p r u xo xt xr xk xl xq _ 0 1 1 1 aT M61 Rj hP61 qO (hx.mono (fun x hx => hj x (qS x hx))) g7_ g3_ g4_ g5_ g6_ h9 qD (hG.sub (fun x hx => hj x (qS x hx))))
   rw [← e3, ← e5] at hsp
   refine A9 (Mc := M61) (R := []) (aS rfl (aS rfl (aS rfl (aS rfl (aS rfl (a0)))))) kR qM (FnX.amb (A := Rj) (fun x hx => by have := hjr x hx; simp [this]) hsp) rfl ?_
   rintro v125 M125 J125 ⟨wo, wt, wr, wk, wl, wq, vid, q2, q3, rfl, hP25, p2, p3⟩
   exact ⟨_, rfl, _, _, rfl, (by have hz := (show Prm pb aE M125 from hP25); simpa using hz), ⟨_, _, _, _, _, _, _, _, _, _, _, rfl, p2.mono (fun x hx => by simpa using hx)⟩, ⟨_, _, _, _, _, _, rfl, p3.mono (fun x hx => by simpa using hx)⟩⟩
  ·
   dsimp only [Gc.inp]
   have g10 := ha _ (List.mem_of_getElem? (i := 6) rfl) kR
   replace g10 : (fun v B R => ∃ q1 q2, v = .tuple #[q1, q2, .int .i64 0] ∧ Prm pb aE B ∧ A8o R q1 (A26 aX (Q4 aD aX.r)) ∧ EvV R q2 aV) (vs 10) (bs 10) Rj := g10
   dsimp only at g10
   obtain ⟨q1, q2, e_, -, k⟩ := g10
   exact OpQ.opL qm_ rfl ⟨_, rfl, rfl, q1, q2, e_, k⟩
  ·
   dsimp only [Gc.inp]
   have g11 := ha _ (List.mem_of_getElem? (i := 7) rfl) kR
   replace g11 : (fun v B R => B = [] ∧ ∃ q1 q2, v = .tuple #[q1, q2, .int .i64 0] ∧ A8o R q1 (A26 aX (Q4 aD aX.r)) ∧ EvV R q2 aV) (vs 11) (bs 11) Rj := g11
   dsimp only at g11
   obtain ⟨-, q1, q2, e_, k, -⟩ := g11
   exact OpQ.opL (I6 (vs := #[q1, q2, .int .i64 0]) (by rw [← e_]; rfl) rfl) rfl ⟨_, rfl, rfl, k⟩
  ·
   dsimp only [Gc.inp]
   exact D3 (cs := [vS, vS, vS, vS, vS, F9, .bool false, F9, .bool false, vS, vS, vS, vS, F9, vS, F9, F9, .pointer none]) kR rfl fun b => ⟨_, rfl, b, rfl, rfl⟩
  ·
   dsimp only [Gc.inp]
   exact D3 (cs := [I0, I0, I0, I0, vS, .bool false, vS, vS, vS, F9, .bool false, F9, vS, F9, F9, vS]) kR rfl fun b => ⟨_, rfl, b, rfl, rfl⟩
  ·
   have g11 := ha _ (List.mem_of_getElem? (i := 7) rfl) kR
   replace g11 : (fun v B R => B = [] ∧ ∃ q1 q2, v = .tuple #[q1, q2, .int .i64 0] ∧ A8o R q1 (A26 aX (Q4 aD aX.r)) ∧ EvV R q2 aV) (vs 11) (bs 11) Rj := g11
   dsimp only at g11
   obtain ⟨-, q1, q2, e_, -, k⟩ := g11
   exact ⟨_, I6 (vs := #[q1, q2, .int .i64 0]) (by rw [← e_]; rfl) rfl, rfl, k⟩
  ·
   have g11 := ha _ (List.mem_of_getElem? (i := 7) rfl) kR
   replace g11 : (fun v B R => B = [] ∧ ∃ q1 q2, v = .tuple #[q1, q2, .int .i64 0] ∧ A8o R q1 (A26 aX (Q4 aD aX.r)) ∧ EvV R q2 aV) (vs 11) (bs 11) Rj := g11
   dsimp only at g11
   obtain ⟨-, q1, q2, e_, -⟩ := g11
   exact ⟨_, I6 (vs := #[q1, q2, .int .i64 0]) (by rw [← e_]; rfl) rfl, rfl, rfl⟩
  intro vs bs Jn0 hφ hKK
  have kk3 := hKK _ (List.mem_of_getElem? (i := 0) rfl)
  dsimp only at kk3
  have kk5 := hKK _ (List.mem_of_getElem? (i := 1) rfl)
  dsimp only at kk5
  have kk6 := hKK _ (List.mem_of_getElem? (i := 2) rfl)
  dsimp only at kk6
  have kk7 := hKK _ (List.mem_of_getElem? (i := 3) rfl)
  dsimp only at kk7
  have kk8 := hKK _ (List.mem_of_getElem? (i := 4) rfl)
  dsimp only at kk8
  have kk9 := hKK _ (List.mem_of_getElem? (i := 5) rfl)
  dsimp only at kk9
  have kk10 := hKK _ (List.mem_of_getElem? (i := 6) rfl)
  dsimp only at kk10
  have kk11 := hKK _ (List.mem_of_getElem? (i := 7) rfl)
  dsimp only at kk11
  have kk12 := hKK _ (List.mem_of_getElem? (i := 8) rfl)
  dsimp only at kk12
  have kk15 := hKK _ (List.mem_of_getElem? (i := 9) rfl)
  dsimp only at kk15
  have kk16 := hKK _ (List.mem_of_getElem? (i := 10) rfl)
  dsimp only at kk16
  have kk13 := hKK _ (List.mem_of_getElem? (i := 11) rfl)
  dsimp only at kk13
  have kk14 := hKK _ (List.mem_of_getElem? (i := 12) rfl)
  dsimp only at kk14
  clear hKK
  have g3 := ofH hφ
  dsimp only at g3
  replace hφ := ofT hφ
  have g5 := ofH hφ
  dsimp only at g5
  replace hφ := ofT hφ
  have g6 := ofH hφ
  dsimp only at g6
  replace hφ := ofT hφ
  have g7 := ofH hφ
  dsimp only at g7
  replace hφ := ofT hφ
  have g8 := ofH hφ
  dsimp only at g8
  replace hφ := ofT hφ
  have g9 := ofH hφ
  dsimp only at g9
  replace hφ := ofT hφ
  have g10 := ofH hφ
  dsimp only at g10
  replace hφ := ofT hφ
  have g11 := ofH hφ
  dsimp only at g11
  replace hφ := ofT hφ
  have g12 := ofH hφ
  dsimp only at g12
  replace hφ := ofT hφ
  have g15 := ofH hφ
  dsimp only at g15
  replace hφ := ofT hφ
  have g16 := ofH hφ
  dsimp only at g16
  replace hφ := ofT hφ
  have g13 := ofH hφ
  dsimp only at g13
  replace hφ := ofT hφ
  have g14 := ofH hφ
  dsimp only at g14
  clear hφ
  dsimp only [N8, U0, List.foldr, List.map, List.cons_append, List.nil_append]
  generalize bs 3 = B68 at *
  generalize bs 5 = B70 at *
  generalize bs 6 = B71 at *
  generalize bs 7 = B72 at *
  generalize bs 8 = B73 at *
  generalize bs 9 = B74 at *
  generalize bs 10 = B75 at *
  generalize bs 11 = B64 at *
  generalize bs 12 = B76 at *
  generalize bs 15 = B14 at *
  generalize bs 16 = B15 at *
  generalize bs 13 = B77 at *
  generalize bs 14 = B78 at *
  generalize vs 3 = u68 at *
  generalize vs 5 = u70 at *
  generalize vs 6 = u71 at *
  generalize vs 7 = u72 at *
  generalize vs 8 = u73 at *
  generalize vs 9 = u74 at *
  generalize vs 10 = u75 at *
  generalize vs 11 = u64 at *
  generalize vs 12 = u76 at *
  generalize vs 15 = u14 at *
  generalize vs 16 = u15 at *
  generalize vs 13 = u77 at *
  generalize vs 14 = u78 at *
  obtain ⟨-, -, -, hP75, -⟩ := g10
  clear g11
  clear g3 g5 g6 g7 g8 g9
  obtain ⟨rfl, ni, nw, np, nr, nu, no_, nt, nrr, nk, nl, nst, rfl, hn1⟩ := g12
  obtain ⟨rfl, es, ep, er, eu, ek, eg, rfl, hn2⟩ := g13
  obtain ⟨rfl, rfl⟩ := g14
  obtain ⟨b14, rfl, rfl⟩ := g15
  obtain ⟨b15, rfl, rfl⟩ := g16
  haveI := hn1.id.cel
  haveI := hn1.wi.cel
  haveI := hn1.he.ia.cel
  haveI := hn1.he.ig.cel
  haveI := hn1.he.key.cel
  haveI := hn1.r.own.cel
  haveI := hn1.r.their.cel
  haveI := hn1.r.root.cel
  haveI := hn1.r.sk.cel
  haveI := hn1.r.tk.cel
  haveI := hn1.r.st.cel
  haveI := hn2.ses.cel
  haveI := hn2.he.ia.cel
  haveI := hn2.he.ig.cel
  haveI := hn2.he.key.cel
  haveI := hn2.hk.cel
  haveI := hn2.g.cel
  unfold seC evC
  refine I8 rfl rfl rfl (C5 (vs := [ni, nw, np, nr, nu, .int .u32 (((A26 aX (Q4 aD aX.r)).he.signed : Nat) : Int), .bool (A26 aX (Q4 aD aX.r)).he.has, .int .u32 (((A26 aX (Q4 aD aX.r)).he.once : Nat) : Int), .bool (A26 aX (Q4 aD aX.r)).tell, no_, nt, nrr, nk, .int .u32 (((A26 aX (Q4 aD aX.r)).r.sn : Nat) : Int), nl, .int .u32 (((A26 aX (Q4 aD aX.r)).r.tn : Nat) : Int), .int .u32 (((A26 aX (Q4 aD aX.r)).r.prev : Nat) : Int), nst]) rfl rfl rfl kR qR (A3 hn1.id.one (A3 hn1.wi.one (A3 hn1.he.ia.one (A3 hn1.he.ig.one (A3 hn1.he.key.one (A3 rfl (A3 rfl (A3 rfl (A3 rfl (A3 hn1.r.own.one (A3 hn1.r.their.one (A3 hn1.r.root.one (A3 hn1.r.sk.one (A3 rfl (A3 hn1.r.tk.one (A3 rfl (A3 rfl (A3 hn1.r.st.one K2)))))))))))))))))) UpC.upd ?_)
  refine I8 rfl rfl rfl (C5 (vs := [.int .i64 aV.fu, .int .i64 aV.fd, .int .i64 aV.tu, .int .i64 aV.td, es, .bool aV.has, ep, er, eu, (vU aV.he.signed), .bool aV.he.has, (vU aV.he.once), ek, (vU aV.hp), (vU aV.hn), eg]) rfl rfl rfl kR qR (A3 rfl (A3 rfl (A3 rfl (A3 rfl (A3 hn2.ses.one (A3 rfl (A3 hn2.he.ia.one (A3 hn2.he.ig.one (A3 hn2.he.key.one (A3 rfl (A3 rfl (A3 rfl (A3 hn2.hk.one (A3 rfl (A3 rfl (A3 hn2.g.one K2)))))))))))))))) UpC.upd ?_)
  refine F1 hs rfl (G8 rfl) rfl ?_
  refine I1 (L5 4 5 7 8 9 15) (A1 (mv_ ?_))
  refine A2 (qw_ 16) rfl ?_
  refine E4 (aS rfl a0) kR (A8Z aV es ep er eu ek eg _ (hn2.mono qS) gc_) rfl ?_
  rintro v81 M81 J81 ⟨rfl, hb81⟩
  haveI := hb81.cel
  refine A4 rfl (A9 (Mc := MA ++ B75) (R := _) (aS rfl (aS rfl (a0))) kR qP (A68 vb kb pb aE h [] [] v81 (A8Y aV) MA B75 [] _ hA hP75 (by have := hS.len; omega) qO (Nat.zero_le _) (hb81.mono qS) A8p.1 hG.up) rfl ?_)
  rintro v82 M82 J82 ⟨MA2, MQ2, h2, rfl, hclo, hA2, hQ2⟩
  rw [A8p.2] at hclo hA2 hQ2
  obtain ⟨hH2, hts⟩ := A89 (by have := hS.len; omega) hS.up hS.lS hclo
  replace hQ2 := A3G hQ2 hts
  refine A0 (L5 4 5 7 8 9 15) ?_
  refine F8 (.range 9) (zp 0 [0, 0, 0, 0, 1, 0, 0, 0, 0, 2]) kR kR fun hs => ?_
  refine fm_ hs ?_
  refine fm_ hs ?_
  refine fm_ hs ?_
  refine fm_ hs ?_
  refine S7 hs rfl (qw_ 16) rfl ?_
  refine fa_ hs ?_
  refine fa_ hs ?_
  refine fa_ hs ?_
  refine fa_ hs ?_
  refine L0 rfl rfl rfl (C5 (vs := [.int .i64 aV.fu, .int .i64 aV.fd, .int .i64 aV.tu, .int .i64 aV.td, es, .bool aV.has, ep, er, eu, (vU aV.he.signed), .bool aV.he.has, (vU aV.he.once), ek, (vU aV.hp), (vU aV.hn), eg]) rfl rfl rfl kR qR (A3 rfl (A3 rfl (A3 rfl (A3 rfl (A3 hn2.ses.one (A3 rfl (A3 hn2.he.ia.one (A3 hn2.he.ig.one (A3 hn2.he.key.one (A3 rfl (A3 rfl (A3 rfl (A3 hn2.hk.one (A3 rfl (A3 rfl (A3 hn2.g.one K2)))))))))))))))) UpC.upd ?_)
  refine H6 (H4 0 1 2 3 4) (A6 ?_)
  exact ⟨_, MA2 ++ MQ2, [], B2m (n := 16) rfl rfl rfl rfl rfl rfl kR At.mem qR, Fit.none (Fit.pick qP (Fit.last qP)), vb, kb, k1, k2, pb, h2, MA2, MQ2, es, ep, er, eu, ek, eg, rfl, rfl, hA2.mono qS, hQ2, ⟨va, vg, vq, vo, vm, rs, ro, rm, hra _ qS qS⟩, ⟨ua, ug, uq, uo, um, ss, so, sm, hrb _ qS qS⟩, hn2.mono qS, hH2⟩

theorem B2n {h : List Bool} (hQ : HQ h) : (P8 aE.ts h (fun _ => aT) h.length).any (fun w => A3D w A87) = false := by
  obtain ⟨-, -, -, ⟨-, -, -, -, -, -, -, g8, -⟩, -, -, -, -, -, -, -, h1, -⟩ := af
  exact B0u hQ.up (by have := hQ.len; omega) h1
theorem B3G : Sld aE.ts fun _ => aT := by
  obtain ⟨-, -, -, -, -, -, -, -, -, -, -, -, h1⟩ := af
  exact B2c _ _ h1 qD
theorem B0Q : aE.ts.length = 43 := af.2.2.2.1.2.2.2.2.2.2.2.1
set_option maxHeartbeats 1000000 in
theorem A22 (A : Mem) (hG : Glb A) : FnV Tryz.prog 7 [] A (.bool true) := by
 refine FnX.enter (N := 42) Tryz.func7 rfl rfl rfl fun w_ => ?_
 refine A8 kn (A1 (as_ (A0 kn (A1 ?_))))
 refine E4 a0 kR (A4A _ hG.up) rfl ?_
 rintro v9 M9 J9 ⟨vb, kb, k1, k2, pb, h, MA, MP, es, ep, er, eu, ek, eg, rfl, rfl, hA, hP, hK1, hK2, hE, hQ⟩
 haveI := hE.ses.cel
 haveI := hE.he.ia.cel
 haveI := hE.he.ig.cel
 haveI := hE.he.key.cel
 haveI := hE.hk.cel
 haveI := hE.g.cel
 have hQl := hQ.len
 have hel := B0Q
 unfold evC
 refine mv_ ?_
 refine A2 (A0k rfl) rfl ?_
 refine A2 (Z6 rfl) rfl ?_
 refine A2 (B3a rfl) rfl ?_
 refine A2 (q_x3 rfl) rfl ?_
 refine A2 (I6 rfl rfl) rfl ?_
 refine A4 rfl (D3 (cs := [I0, I0, I0, I0, vS, .bool false, vS, vS, vS, F9, .bool false, F9, vS, F9, F9, vS]) kR rfl fun b5 => ?_)
 refine as_ (as_ (as_ (as_ ?_)))
 refine A4 rfl (C5 (vs := [.int .i64 aV.fu, .int .i64 aV.fd, .int .i64 aV.tu, .int .i64 aV.td, es, .bool aV.has, ep, er, eu, (vU aV.he.signed), .bool aV.he.has, (vU aV.he.once), ek, (vU aV.hp), (vU aV.hn), eg]) rfl rfl rfl kR qR (A3 rfl (A3 rfl (A3 rfl (A3 rfl (A3 hE.ses.one (A3 rfl (A3 hE.he.ia.one (A3 hE.he.ig.one (A3 hE.he.key.one (A3 rfl (A3 rfl (A3 rfl (A3 hE.hk.one (A3 rfl (A3 rfl (A3 hE.g.one K2)))))))))))))))) UpC.upd ?_)
 refine A0 (D1 1 2) (A7 (A1 (mv_ ?_)))
 refine A2 (D0 (e := 118) rfl rfl kR) rfl ?_
 refine A0 (E5 1 2 16) ?_
 refine C3 rfl ?_
 refine A5 (nx (D1 1 2) ?_)
 obtain ⟨u1, u2, rows, B1, B2, MK, rfl, hs1, hrw, hs2, hKn⟩ := hA.ex
 obtain ⟨sv, bm, B, MT, rfl, hby, hT⟩ := hP.tb
 obtain ⟨ge4, gf4, h4⟩ := hG.pow
 haveI := hs1.cel
 haveI := hs2.cel
 haveI := hby.cel
 refine A1 (mv_ ?_)
 refine E4 (aS rfl a0) kR (A88 pb aE _ _ hP (fun z hz => by simp at hz ⊢; rcases hz with h | h | h <;> simp [h])) rfl ?_
 rintro v19 M19 J19 ⟨vb2, kb2, rfl, hA2⟩
 obtain ⟨w1, w2, rows2, C1, C2, MK2, rfl, ht1, -, ht2, hKn2⟩ := (hA2 []).ex
 have e2 : rows2.flatten = [] := List.eq_nil_of_length_eq_zero (by have := ht1.len; simpa using this)
 rw [e2] at ht1
 haveI := ht1.cel
 refine A2 (D2 (place := fun x => #[(0, 1), (1, 1), (2, 1), (3, 2), (5, 2), (7, 1), (8, 1)][x]?) (z := [zu8, I0, I0, I0, I0, I0, I0, F9, vS]) (fun _ => by kernel_rfl) e0 bd0) rfl ?_
 refine A2 (D2 (place := fun x => #[(0, 2), (2, 2), (4, 1), (5, 1), (6, 1), (7, 1), (8, 1), (9, 1)][x]?) (z := [I0, I0, vS, vS, F9, vS, vS, .bool false, F9, vS]) (fun _ => by kernel_rfl) e0 bd0) rfl ?_
 refine E4 (aS rfl (aS rfl (aS rfl a0))) kR (B0O vb2 kb2 pb w1 w2 _ qM (ht1.rd qS)) rfl ?_
 rintro v22 M22 J22 ⟨rfl, rfl⟩
 refine mv_ ?_
 refine A2 (A0k rfl) rfl ?_
 refine A2 (Z6 rfl) rfl ?_
 refine as_ (as_ (A0 (D1 2 7) (A1 (mv_ ?_))))
 refine A2 (G4 true rfl rfl (eqT rfl)) rfl ?_
 refine mv_ ?_
 refine B0 rfl rfl (OpQ.opL qm_ rfl ?_)
 refine I3 rfl rfl (aS rfl a0) kR (A3F vb kb 1 pb u1 u2 rows.flatten _ qM (hs1.rd qS)) rfl ?_
 refine B0 rfl rfl (OpQ.opL (G4 true rfl rfl (eqT rfl)) rfl ?_)
 refine A2 (D9 rfl rfl) rfl ?_
 refine mv_ ?_
 refine B0 rfl rfl (OpQ.opL qm_ rfl ?_)
 refine I3 rfl rfl (aS rfl a0) kR (A2h vb kb pb u1 u2 _ qM) rfl ?_
 refine B0 rfl rfl (C0 (e := 5) (sz := 1) (z := [zu8, zu8, zu8, zu8, zu8, zu8]) kR (eS rfl (eS rfl (eS rfl (eS rfl (eS rfl (eS rfl e0)))))) (bdS 0 1 rfl qR (bdS 1 1 rfl qR (bdS 2 1 rfl qR (bdS 3 1 rfl qR (bdS 4 1 rfl qR (bdS 5 1 rfl qR bd0)))))) rfl fun b35 => ?_)
 refine B0 rfl rfl (A3O rfl kR UpC.upd rfl ?_)
 refine I3 rfl rfl (aS rfl (aS rfl a0)) kR (A6Z kb pb.2 bm aE.ts h (fun _ => aT) (.slice (some ⟨b35, 0, none⟩) 6 6) A87 _ (hKn.rd qS) (hT.tbr qS) B3G qO qO ⟨Rd.whole (n := 6) At.mem qR, by decide, by decide⟩ (qS _ h4)) rfl ?_
 rw [B2n hQ]
 refine B0 rfl rfl (OpQ.opL (U3 rfl) rfl ?_)
 refine A2 (D9 rfl rfl) rfl ?_
 refine mv_ ?_
 refine A2 (D9 rfl rfl) rfl ?_
 refine as_ (A0 (C8 0) (A6 ?_))
 exact ⟨_, [], [], F0 rfl rfl, List.nil_sublist _, by simp, rfl, rfl, rfl⟩

theorem A8r {w : LN} {n m i : Nat} (h : plc w n = some i) (hm : n ≤ m) : plc w m = some i := by
  unfold plc at h ⊢
  split at h
  · rename_i h1
    rw [if_pos ⟨h1.1, h1.2.1, h1.2.2.1, Nat.lt_of_lt_of_le h1.2.2.2 hm⟩]; exact h
  · cases h
theorem A9a : ∀ (ls : List (LN)) (st : B0r), st.2.length ≤ st.1.length → st.1.length ≤ (ls.foldl A1f st).1.length ∧ (ls.foldl A1f st).1.length ≤ st.1.length + ls.length ∧ Le st.2 (ls.foldl A1f st).2
  | [], st, _ => ⟨Nat.le_refl _, Nat.le_refl _, Le.refl _⟩
  | w :: ls, st, hl => by
    have h1 := A4u (w := w) hl
    have h2 := A2G (ts := st.1) (w := w)
    have h3 := K5 (ts := st.1) (ws := w)
    obtain ⟨a, b, c⟩ := A9a ls (A1f st w) (Nat.le_of_eq h1)
    have e : (A1f st w).1 = rdT st.1 w := rfl
    rw [e] at a b
    rw [List.foldl_cons, List.length_cons]
    exact ⟨by omega, by omega, Le.trans (fun i hi => A81 _ (A83 _ _ _ hi)) c⟩
theorem B2o {ts : List Tm} {h : List Bool} {ls : List (LN)} (hl : h.length ≤ ts.length) : ts.length ≤ (R8 ts h ls).1.length ∧ (R8 ts h ls).1.length ≤ ts.length + ls.length ∧ Le h (R8 ts h ls).2 := A9a ls (ts, h) hl
structure Kn (ts : List Tm) (h : List Bool) : Prop where
  len : h.length ≤ ts.length
  n : ts.length ≤ 1000
  has : ∀ w ∈ trN aV, B19 ts h w = true
theorem A9b {ts : List Tm} {h h2 : List Bool} (hQ : HQ h) (hl : aE.ts.length ≤ ts.length) (hn : ts.length ≤ 1000) (h2l : h2.length ≤ ts.length) (hle : Le h h2) : Kn ts h2 := by
  obtain ⟨-, -, -, -, -, -, -, -, h1, -⟩ := af
  rw [Bool.and_eq_true] at h1
  refine ⟨h2l, hn, fun w hw => ?_⟩
  obtain ⟨j, hj⟩ := Option.isSome_iff_exists.1 (List.all_eq_true.1 h1.1 w hw)
  have hk := hle j (hQ.tr j (List.mem_map.2 ⟨w, hw, by rw [hj]; rfl⟩))
  unfold B19
  rw [A8r hj hl]
  show (false || isK h2 ((j : Nat) : Int)) = true
  rw [Bool.false_or, A2e]
  exact hk
theorem B2p (vb kb : Nat) (pb : Nat × Nat) (h : List Bool) (l : List Ev) (v : Value) (p : LN) (MA MP R A : Mem) (hA : Adv R vb kb pb h l [] MA) (hP : Prm pb aE MP) (hQ : HQ h) (hel : l.length ≤ 100) (hp : By A v p) (hG : Glb A) : FnX Tryz.prog 9 [(vP vb), v] (MA ++ MP) A fun q M J => ∃ MA' MP' h' l' s', M = MA' ++ MP' ∧ Adv (J ++ R) vb kb pb h' l' [] MA' ∧ Prm pb s' MP' ∧ l'.length = l.length + (if dcO p then 1 else 0) ∧ Kn s'.ts h' := by
  have hQl := hQ.len
  have hel2 := B0Q
  cases ho : dcO p with
  | true =>
    refine (A68 vb kb pb aE h l [] v p MA MP R A hA hP qO qO qO hp ho hG).mono fun q M J ⟨MA', MP', h', e, hc, h2, h3⟩ => ?_
    have hll : (trN (dcE p)).length ≤ 6 := by unfold trN; split <;> simp
    obtain ⟨a, b, c⟩ := B2o (ts := aE.ts) (h := h) (ls := trN (dcE p)) qO
    exact ⟨MA', MP', h', _, _, e, h2, h3, by rw [List.length_append]; rfl, A9b hQ a (Nat.le_trans b qO) (Nat.le_of_eq hc.len) (Le.trans c hc.sup)⟩
  | false =>
    exact (B2l vb v p (MA ++ MP) A hp ho).mono fun q M J e => ⟨MA, MP, h, l, aE, e, hA.mono fun z hz => List.mem_append_right _ hz, hP, rfl, A9b hQ (Nat.le_refl _) qO qO (Le.refl _)⟩
set_option maxHeartbeats 2000000 in
theorem A23 (v : Value) (p : LN) (n : Nat) (A : Mem) (hp : Byi A v p) (hn : n < 256) (hG : Glb A) : FnV Tryz.prog 3 [v, .int .u8 ((n : Nat) : Int)] A (.bool true) := by
 haveI := hp.cel
 have hxl := hp.len
 unfold maxLen at hxl
 refine FnX.enter (N := 78) Tryz.func3 rfl rfl rfl fun w_ => ?_
 refine A8 (D1 0 1) (A1 (as_ (A0 (D1 0 1) (A7 (A1 ?_)))))
 refine E1 a0 kR (A22 _ hG.up) rfl ?_
 refine A2 (U3 rfl) rfl ?_
 refine mv_ ?_
 refine B0 rfl rfl (OpQ.opL qm_ rfl ?_)
 refine B0 rfl rfl (OpQ.opL (E0 (sz := 1) rfl kR hp.rd) rfl ?_)
 refine B0 rfl rfl (OpQ.opL (E3 rfl rfl rfl) rfl ?_)
 refine A2 (C7 rfl rfl) rfl ?_
 refine A0 (E5 0 1 22) ?_
 refine B8 rfl ?_ ?_ <;> intro hc
 ·
  refine A1 ?_
  refine E1 a0 kR (A22 _ hG.up) rfl ?_
  refine as_ (A0 (C8 4) (A6 (tr ?_)))
  exact ⟨_, [], [], F0 rfl rfl, List.nil_sublist _, by simp, rfl, rfl, rfl⟩
 ·
  have h300 : p.length ≤ 300 := by have := of_decide_eq_false hc; omega
  have hpb := hp.by qO
  refine A5 (nx (D1 0 1) (A1 ?_))
  refine E4 a0 kR (A4A _ hG.up) rfl ?_
  rintro v9 M9 J9 ⟨vb, kb, k1, k2, pb, h, MA, MP, es, ep, er, eu, ek, eg, rfl, rfl, hA, hP, hK1, hK2, hE, hQ⟩
  haveI := hE.ses.cel
  haveI := hE.he.ia.cel
  haveI := hE.he.ig.cel
  haveI := hE.he.key.cel
  haveI := hE.hk.cel
  haveI := hE.g.cel
  have hQl := hQ.len
  have hel := B0Q
  unfold evC
  refine mv_ ?_
  refine A2 (A0k rfl) rfl ?_
  refine A2 (Z6 rfl) rfl ?_
  refine A2 (B3a rfl) rfl ?_
  refine A2 (q_x3 rfl) rfl ?_
  refine A2 (I6 rfl rfl) rfl ?_
  refine A4 rfl (D3 (cs := [I0, I0, I0, I0, vS, .bool false, vS, vS, vS, F9, .bool false, F9, vS, F9, F9, vS]) kR rfl fun b9 => ?_)
  refine as_ (as_ (as_ (as_ ?_)))
  refine A4 rfl (C5 (vs := [.int .i64 aV.fu, .int .i64 aV.fd, .int .i64 aV.tu, .int .i64 aV.td, es, .bool aV.has, ep, er, eu, (vU aV.he.signed), .bool aV.he.has, (vU aV.he.once), ek, (vU aV.hp), (vU aV.hn), eg]) rfl rfl rfl kR qR (A3 rfl (A3 rfl (A3 rfl (A3 rfl (A3 hE.ses.one (A3 rfl (A3 hE.he.ia.one (A3 hE.he.ig.one (A3 hE.he.key.one (A3 rfl (A3 rfl (A3 rfl (A3 hE.hk.one (A3 rfl (A3 rfl (A3 hE.g.one K2)))))))))))))))) UpC.upd ?_)
  refine A0 (F3 0 1 6 9) (A7 (A1 (as_ (A0 (H4 0 1 6 9 10) (C4 ?_)))))
  refine G1 (α := Nat × List Bool × List Ev × Mem × Mem × Mem) (fun y => [(0, v), (1, .int .u8 ((n : Nat) : Int)), (6, (vP vb)), (9, (vP b9)), (10, (vI y.1))]) (fun y => (b9, blk [.int .i64 aV.fu, .int .i64 aV.fd, .int .i64 aV.tu, .int .i64 aV.td, es, .bool aV.has, ep, er, eu, (vU aV.he.signed), .bool aV.he.has, (vU aV.he.once), ek, (vU aV.hp), (vU aV.hn), eg] 37) :: (y.2.2.2.1 ++ y.2.2.2.2.1)) (fun y => y.2.2.2.2.2) (fun y => y.1 ≤ n % 5 ∧ HQ y.2.1 ∧ y.2.2.1.length = 1 + y.1 ∧ Adv (y.2.2.2.2.2 ++ A) vb kb pb y.2.1 y.2.2.1 [] y.2.2.2.1 ∧ Prm pb aE y.2.2.2.2.1 ∧ EvR (y.2.2.2.2.2 ++ A) aV es ep er eu ek eg) (fun y => n % 5 - y.1) (0, h, [aV], MA, MP, J9) ⟨Nat.zero_le _, hQ, rfl, hA, hP, hE⟩ (H4 0 1 6 9 10) (Fit.pick (B := [_]) qP (Fit.pick qP (Fit.last qP))) (fun _ h => by simpa using h) ?_
  clear hA hP hE hQ hQl hK1 hK2
  rintro ⟨i, h, l, MA, MP, Ji⟩ ⟨hi, hQ, hll, hA, hP, hE⟩
  dsimp only at hi hQ hll hA hP hE ⊢
  have hQl := hQ.len
  refine A7 (A1 (mv_ (mv_ ?_)))
  refine A2 (G5 (k' := .i64) n rfl kR (A4C qO)) rfl ?_
  refine A2 (Z7 (a := n) (b := 5) rfl rfl rfl rfl qD) rfl ?_
  refine A2 (E3 rfl rfl rfl) rfl ?_
  refine A0 (L5 0 1 6 9 10 35) ?_
  refine B8 rfl ?_ ?_ <;> intro hc
  ·
   have hlt : i < n % 5 := by have := of_decide_eq_true hc; omega
   refine A5 (nx (H4 0 1 6 9 10) (A7 (C4 (C9 (mv_ ?_)))))
   refine A2 (qw_ 16) rfl ?_
   refine E4 (aS rfl a0) kR (A8Z aV es ep er eu ek eg _ (hE.mono qS) af.2.2.2.1.2.2.2.2.2.2.2.2.2.2.2) rfl ?_
   rintro v40 M40 J40 ⟨rfl, hb40⟩
   haveI := hb40.cel
   refine A4 rfl (A9 (Mc := MA ++ MP) (R := _) (aS rfl (aS rfl (a0))) kR qP (A68 vb kb pb aE h l [] v40 (A8Y aV) MA MP (Ji ++ A) _ hA hP qO qO qO (hb40.mono qS) A8p.1 hG.up) rfl ?_)
   rintro v41 M41 J41 ⟨MA2, MQ2, h2, rfl, hclo, hA2, hQ2⟩
   rw [A8p.2] at hclo hA2 hQ2
   obtain ⟨hH2, hts⟩ := A89 qO hQ.up (fun x hx => hQ.lo x (List.mem_append_left _ hx)) hclo
   replace hQ2 := A3G hQ2 hts
   refine D7 (nb (nx (H4 0 1 6 9 10) (C9 (mv_ ?_))))
   refine A2 (T6 ((i + 1 : Nat) : Int) rfl rfl (X8 qO qO qO)) rfl ?_
   refine as_ (D7 ?_)
   exact rn (i + 1, h2, l ++ [aV], MA2, MQ2, J41 ++ (J40 ++ Ji)) ⟨hlt, hH2, by rw [List.length_append, hll]; show 1 + i + 1 = _; omega, hA2.mono qS, hQ2, hE.mono qS⟩ (by dsimp only; omega) (H4 0 1 6 9 10) (Fit.pick (B := [_]) qP (Fit.pick qP (Fit.last qP))) (fun _ h => by simpa using h)
  ·
   obtain rfl : i = n % 5 := by have := of_decide_eq_false hc; omega
   refine F2 (te (re (be rfl (nx (F3 0 1 6 9) (A1 (mv_ ?_))))))
   refine E4 (aS rfl a0) kR (A6U v p _ (hpb.mono qS)) rfl ?_
   rintro v44 M44 J44 ⟨rfl, ev, rfl, hev⟩
   obtain ⟨eP, hePd⟩ : ∃ z, (if dcO p then dcE p else ev0) = z := ⟨_, rfl⟩
   rw [hePd] at hev
   obtain ⟨xs_, q0, q1, q2, xk, xg, rfl, he_⟩ := hev
   haveI := he_.ses.cel
   haveI := he_.he.ia.cel
   haveI := he_.he.ig.cel
   haveI := he_.he.key.cel
   haveI := he_.hk.cel
   haveI := he_.g.cel
   unfold evC
   refine mv_ ?_
   refine A2 (A0k rfl) rfl ?_
   refine A2 (Z6 rfl) rfl ?_
   refine A4 rfl (D3 (cs := [I0, I0, I0, I0, vS, .bool false, vS, vS, vS, F9, .bool false, F9, vS, F9, F9, vS]) kR rfl fun b11 => ?_)
   refine A4 rfl (C5 (vs := [.int .i64 eP.fu, .int .i64 eP.fd, .int .i64 eP.tu, .int .i64 eP.td, xs_, .bool eP.has, q0, q1, q2, (vU eP.he.signed), .bool eP.he.has, (vU eP.he.once), xk, (vU eP.hp), (vU eP.hn), xg]) rfl rfl rfl kR qR (A3 rfl (A3 rfl (A3 rfl (A3 rfl (A3 he_.ses.one (A3 rfl (A3 he_.he.ia.one (A3 he_.he.ig.one (A3 he_.he.key.one (A3 rfl (A3 rfl (A3 rfl (A3 he_.hk.one (A3 rfl (A3 rfl (A3 he_.g.one K2)))))))))))))))) UpC.upd ?_)
   refine as_ (A0 (H4 0 1 6 9 12) (A1 (mv_ ?_)))
   refine A2 (G5 (k' := .i64) n rfl kR (A4C qO)) rfl ?_
   refine A2 (Z7 (a := n) (b := 5) rfl rfl rfl rfl qD) rfl ?_
   refine A2 (T6 ((1 + n % 5 : Nat) : Int) rfl rfl (X8 qO qO qO)) rfl ?_
   refine as_ (A0 (H4 0 6 9 12 13) (A1 (mv_ (mv_ ?_))))
   refine A4 rfl (A9 (Mc := MA ++ MP) (R := _) (aS rfl (aS rfl (a0))) kR qP (B2p vb kb pb h l v p MA MP (Ji ++ A) _ hA hP hQ qO (hpb.mono qS) hG.up) rfl ?_)
   rintro v53 M53 J53 ⟨MA2, MP2, h2, l2, s2, rfl, hA2, hP2, hl2, hK⟩
   rw [hll] at hl2
   have hKl := hK.len
   have hKn_ := hK.n
   refine A0 (F3 6 9 12 13) (A7 (A1 (mv_ ?_)))
   refine A2 (G4 (dcO p) rfl rfl (by cases dcO p <;> rfl)) rfl ?_
   refine A0 (F3 6 9 13 55) ?_
   refine B8 rfl ?_ ?_ <;> intro hc
   ·
    have hcnt : l2.length = 1 + n % 5 + 1 := by rw [hl2, hc]; rfl
    refine C9 (mv_ ?_)
    refine A2 (T6 ((1 + n % 5 + 1 : Nat) : Int) rfl rfl (X8 qO qO qO)) rfl ?_
    refine as_ (A0 (E5 6 9 13) ?_)
    obtain ⟨u1, u2, rows, B1, B2, MK, rfl, hs1, hrw, hs2, hKn⟩ := hA2.ex
    obtain ⟨sv, bm, B, MT, rfl, hby, hT⟩ := hP2.tb
    obtain ⟨ge4, gf4, h4⟩ := hG.pow
    haveI := hs1.cel
    haveI := hs2.cel
    haveI := hby.cel
    refine A1 ?_
    refine A2 (qw_ 16) rfl ?_
    refine E4 (aS rfl a0) kR (V9 aV.fu aV.fd aV.tu aV.td es aV.has ep er eu aV.he.signed aV.he.has aV.he.once ek aV.hp aV.hn eg hE.ses.one hE.he.ia.one hE.he.ig.one hE.he.key.one hE.hk.one hE.g.one _) rfl ?_
    rintro v59 M59 J59 hs59
    have hlv := B0L hE hs59
    haveI := hs59.cel
    refine as_ (A0 (E5 6 13 14) (A7 ?_))
    refine A0c (B := M59) qP ?_
    obtain ⟨us_, hru, hrl⟩ := hlv.ex
    have htl : (trN aV).length ≤ 6 := by unfold trN; split <;> simp
    refine A1 (as_ (A0 (F3 6 13 14 15) (C4 ?_)))
    refine G1 (α := Nat) (fun k => [(6, (vP vb)), (13, (vI l2.length)), (14, v59), (15, (vI k))]) (fun _ => (vb, blk [.pointer (some ⟨pb.1, 0, none⟩), (vP kb), u1, u2] 93) :: (B1 ++ (B2 ++ (MK ++ ((pb.1, blk [.int .u8 1, sv, (vI s2.n), .pointer (some ⟨pb.2, 0, none⟩)] 118) :: (B ++ MT)))))) (fun _ => M59 ++ Ji) (fun k => k ≤ (trN aV).length) (fun k => (trN aV).length - k) 0 (Nat.zero_le _) (kq 6 (kp 13 (by rw [hcnt]; rfl) (D1 14 15))) (Fit.pick (B := [_]) qP (Fit.pick qP (Fit.pick qP (Fit.pick qP (Fit.pick (B := [_]) qP (Fit.pick qP (Fit.last qP))))))) (fun z hz => by rcases List.mem_append.1 hz with h | h <;> simp [h]) ?_
    rintro k hk
    refine A7 (A1 (mv_ (mv_ ?_)))
    refine A2 (E0 (sz := 1) rfl kR hru) rfl ?_
    refine A2 (E3 rfl rfl rfl) rfl ?_
    refine A0 (H4 6 13 14 15 63) ?_
    refine B8 rfl ?_ ?_ <;> intro hc
    ·
     have hkl : k < (trN aV).length := by have := of_decide_eq_true hc; omega
     obtain ⟨u, hvi, hvb⟩ := hrl.at hkl
     haveI := hvb.cel
     refine A5 (nx (F3 6 13 14 15) (A7 (C4 ?_)))
     refine F8 (.range 8) [(0, 0), (2, 0), (3, 0), (4, 0), (5, 1), (1, 2), (6, 2), (7, 0)] kR kR fun hs => ?_
     refine fm_ hs ?_
     refine fm_ hs ?_
     refine fm_ hs ?_
     refine E2 hs rfl (E7 (sz := 1) (a := k) rfl rfl kR rfl hru hkl) rfl ?_
     refine S7 hs rfl (L2 (j := k) (u := u) (hru.mono qS) rfl kR hvi) rfl ?_
     refine N0 rfl (aS rfl a0) kR (A2h vb kb pb u1 u2 _ qM) rfl ?_
     refine N0 rfl (aS rfl (aS rfl a0)) kR (A4v kb pb.2 bm s2.ts h2 u (trN aV)[k] _ (hKn.rd qS) (hT.tbr qS) qO (hvb.mono qS)) rfl ?_
     rw [hK.has _ (List.getElem_mem hkl)]
     refine E2 hs rfl (U3 rfl) rfl ?_
     refine H6 (H4 6 13 14 15 73) ?_
     refine C3 rfl ?_
     refine A5 (nb (nx (F3 6 13 14 15) (C9 (mv_ ?_))))
     refine A2 (T6 ((k + 1 : Nat) : Int) rfl rfl (X8 qO qO qO)) rfl ?_
     refine as_ (D7 ?_)
     exact rn (k + 1) hkl qO (F3 6 13 14 15) .rfl qI
    ·
     obtain rfl : k = (trN aV).length := by have := of_decide_eq_false hc; omega
     refine F2 (te (re (be rfl (nx (D1 6 13) (A1 (mv_ ?_))))))
     refine E1 (aS rfl a0) kR (A3F vb kb l2.length pb u1 u2 rows.flatten _ qM (hs1.rd qS)) rfl ?_
     refine mv_ ?_
     refine A2 (G4 true rfl rfl (eqT rfl)) rfl ?_
     refine as_ (A0 (C8 4) (A6 ?_))
     exact ⟨_, [], [], F0 rfl rfl, List.nil_sublist _, by simp, rfl, rfl, rfl⟩
   ·
    have hcnt : l2.length = 1 + n % 5 := by rw [hl2, hc]; rfl
    refine A5 (nx (E5 6 9 13) ?_)
    obtain ⟨u1, u2, rows, B1, B2, MK, rfl, hs1, hrw, hs2, hKn⟩ := hA2.ex
    obtain ⟨sv, bm, B, MT, rfl, hby, hT⟩ := hP2.tb
    obtain ⟨ge4, gf4, h4⟩ := hG.pow
    haveI := hs1.cel
    haveI := hs2.cel
    haveI := hby.cel
    refine A1 ?_
    refine A2 (qw_ 16) rfl ?_
    refine E4 (aS rfl a0) kR (V9 aV.fu aV.fd aV.tu aV.td es aV.has ep er eu aV.he.signed aV.he.has aV.he.once ek aV.hp aV.hn eg hE.ses.one hE.he.ia.one hE.he.ig.one hE.he.key.one hE.hk.one hE.g.one _) rfl ?_
    rintro v59 M59 J59 hs59
    have hlv := B0L hE hs59
    haveI := hs59.cel
    refine as_ (A0 (E5 6 13 14) (A7 ?_))
    refine A0c (B := M59) qP ?_
    obtain ⟨us_, hru, hrl⟩ := hlv.ex
    have htl : (trN aV).length ≤ 6 := by unfold trN; split <;> simp
    refine A1 (as_ (A0 (F3 6 13 14 15) (C4 ?_)))
    refine G1 (α := Nat) (fun k => [(6, (vP vb)), (13, (vI l2.length)), (14, v59), (15, (vI k))]) (fun _ => (vb, blk [.pointer (some ⟨pb.1, 0, none⟩), (vP kb), u1, u2] 93) :: (B1 ++ (B2 ++ (MK ++ ((pb.1, blk [.int .u8 1, sv, (vI s2.n), .pointer (some ⟨pb.2, 0, none⟩)] 118) :: (B ++ MT)))))) (fun _ => M59 ++ Ji) (fun k => k ≤ (trN aV).length) (fun k => (trN aV).length - k) 0 (Nat.zero_le _) (kq 6 (kp 13 (by rw [hcnt]; rfl) (D1 14 15))) (Fit.pick (B := [_]) qP (Fit.pick qP (Fit.pick qP (Fit.pick qP (Fit.pick (B := [_]) qP (Fit.pick qP (Fit.last qP))))))) (fun z hz => by rcases List.mem_append.1 hz with h | h <;> simp [h]) ?_
    rintro k hk
    refine A7 (A1 (mv_ (mv_ ?_)))
    refine A2 (E0 (sz := 1) rfl kR hru) rfl ?_
    refine A2 (E3 rfl rfl rfl) rfl ?_
    refine A0 (H4 6 13 14 15 63) ?_
    refine B8 rfl ?_ ?_ <;> intro hc
    ·
     have hkl : k < (trN aV).length := by have := of_decide_eq_true hc; omega
     obtain ⟨u, hvi, hvb⟩ := hrl.at hkl
     haveI := hvb.cel
     refine A5 (nx (F3 6 13 14 15) (A7 (C4 ?_)))
     refine F8 (.range 8) [(0, 0), (2, 0), (3, 0), (4, 0), (5, 1), (1, 2), (6, 2), (7, 0)] kR kR fun hs => ?_
     refine fm_ hs ?_
     refine fm_ hs ?_
     refine fm_ hs ?_
     refine E2 hs rfl (E7 (sz := 1) (a := k) rfl rfl kR rfl hru hkl) rfl ?_
     refine S7 hs rfl (L2 (j := k) (u := u) (hru.mono qS) rfl kR hvi) rfl ?_
     refine N0 rfl (aS rfl a0) kR (A2h vb kb pb u1 u2 _ qM) rfl ?_
     refine N0 rfl (aS rfl (aS rfl a0)) kR (A4v kb pb.2 bm s2.ts h2 u (trN aV)[k] _ (hKn.rd qS) (hT.tbr qS) qO (hvb.mono qS)) rfl ?_
     rw [hK.has _ (List.getElem_mem hkl)]
     refine E2 hs rfl (U3 rfl) rfl ?_
     refine H6 (H4 6 13 14 15 73) ?_
     refine C3 rfl ?_
     refine A5 (nb (nx (F3 6 13 14 15) (C9 (mv_ ?_))))
     refine A2 (T6 ((k + 1 : Nat) : Int) rfl rfl (X8 qO qO qO)) rfl ?_
     refine as_ (D7 ?_)
     exact rn (k + 1) hkl qO (F3 6 13 14 15) .rfl qI
    ·
     obtain rfl : k = (trN aV).length := by have := of_decide_eq_false hc; omega
     refine F2 (te (re (be rfl (nx (D1 6 13) (A1 (mv_ ?_))))))
     refine E1 (aS rfl a0) kR (A3F vb kb l2.length pb u1 u2 rows.flatten _ qM (hs1.rd qS)) rfl ?_
     refine mv_ ?_
     refine A2 (G4 true rfl rfl (eqT rfl)) rfl ?_
     refine as_ (A0 (C8 4) (A6 ?_))
     exact ⟨_, [], [], F0 rfl rfl, List.nil_sublist _, by simp, rfl, rfl, rfl⟩

section
variable {H : Type} {enc : TypeId × Value → H} {P : Program} {w : World} {spare : Nat → Bool} {held : Bool} {fuel : Nat} {t e : TypeId} {cs : List Value} {x : DataW H × List MemPlace} {v : Value} {d : DataW H} {p : List MemPlace} {r : Reach} {base : Nat} {k : IntKind}
end
theorem A8s {P : Program} {W : World} {name : String} {g : Nat} {cs : Array Value} (hg : P.globalNamed name = some g) (h : W.var? P name = some cs) : ∃ e fr, W.heap[g]? = some (.cells cs e fr) := by
  unfold World.var? at h
  rw [hg] at h
  simp only [Option.bind_some] at h
  split at h
  · rename_i c e fr hh
    cases h
    exact ⟨e, fr, hh⟩
  · cases h
def B0R (ws : LN) : List Int := ws.map fun n : Nat => (n : Int)
theorem A5i (k : IntKind) (ws : LN) : ((B0R ws).map fun z => Value.int k z).toArray = (H3 k ws).toArray := by simp [B0R, H3]
theorem B0S {W : World} {a b : String × DataW Unit} {rest : List (String × DataW Unit)} (h : laidMet Tryz.prog (a :: b :: ("internal/strconv.uint64pow10", Rows.laid_internal_strconv_uint64pow10) :: rest) W) : ∃ e fr, W.heap[4]? = some (Obj.cells (H3 .u64 L7).toArray e fr) := by
  have h' : laidMet Tryz.prog (("internal/strconv.uint64pow10", Lib.tabData .u64 (B0R L7)) :: rest) W := h.tail.tail
  have h1 := Lib.tabIs_of_head (g := 4) (t := 343) (e := 101) (n := 20) (by kernel_rfl) (by kernel_rfl) (by kernel_rfl) (by kernel_rfl) (by kernel_rfl) (by kernel_rfl) h'
  obtain ⟨ek, fk, h3⟩ := A8s (g := 4) (by kernel_rfl) h1
  rw [A5i] at h3
  exact ⟨ek, fk, h3⟩
end Go.Proofs.YtoameenjkiaefaaGreatDoor

namespace Go.Proofs.YtoameenjkiaefaaGreatDoor
open Go.Px
theorem B2q {W : World} {a b : String × DataW Unit} {rest : List (String × DataW Unit)} (h : laidMet Tryz.prog (a :: b :: ("internal/strconv.uint64pow10", Rows.laid_internal_strconv_uint64pow10) :: rest) W) : Glb (A4T W) := by
  obtain ⟨e4, f4, h4⟩ := B0S h
  exact ⟨⟨e4, f4, A04.2 h4⟩⟩
end Go.Proofs.YtoameenjkiaefaaGreatDoor

namespace Go.Proofs.YtoameenjkiaefaaGreatDoor.attackSees
open Go.ChangeShapes Go.WideShapes Go.ChangeAt Go.RowKit
theorem own : ownKnob Tryz.prog.godebug = none := by kernel_rfl
theorem laidOut : laidOutB Tryz.prog = true := by kernel_rfl
noncomputable def laidWorld (os : Os) : World := World.laidAll Tryz.prog os Rows.attackSeesRow.laid
theorem laid_met (os : Os) : laidMetH Tryz.prog Rows.attackSeesRow.laid ((laidWorld os).forCall (fun _ _ => 0) ⟨#[], #[.slice none 0 0, .int .u8 0], []⟩).memory := by
  rw [MakeChecks.laidMetH_plain _ _ _ (by kernel_rfl)]; exact laidMet_laidAll _ (by kernel_rfl) (by kernel_rfl)
theorem reads (os : Os) {H : Type} (enc : TypeId × Value → H) : ∃ places, DataW.whole enc Tryz.prog ((laidWorld os).forCall (fun _ _ => 0) ⟨#[], #[.slice none 0 0, .int .u8 0], []⟩).memory Tryz.f3.params.toList Rows.attackSeesSpec.vars false (#[.slice none 0 0, .int .u8 0] : Array Value).toList 8 = some ([.nil, .lit (.int .u8 0)], [], places) :=
  ⟨[], by kernel_rfl⟩
theorem lifted (os : Os) (started : os.Started) (H : Type) (enc : TypeId × Value → H) (F : Stop.Interp) :
    ReturnsInHanded {} Tryz.checked os 3 .any ((OpenSpec.ofChange Rows.attackSeesSpec).preRow enc Tryz.prog Tryz.f3 Rows.attackSeesRow.domain false Rows.attackSeesRow.laid) (((OpenSpec.ofChange Rows.attackSeesSpec).at F).post enc Tryz.prog Tryz.f3 false true false false) := by
  obtain ⟨places, hx⟩ := reads os enc
  refine returnsInHanded_of_row (C := Tryz.checked) (s := (OpenSpec.ofChange Rows.attackSeesSpec)) own started (by kernel_rfl) Tryz.func3
    (witness_row_at (enc := enc) (C := Tryz.checked) false (laidWorld os) #[.slice none 0 0, .int .u8 0] (World.laidAll_os _ _ _) (by kernel_rfl) (by kernel_rfl) (by kernel_rfl)
      (OpenSpec.preRow_of_cond 8 hx (by kernel_rfl) (fun k hk => by cases hk) (by kernel_rfl) (laid_met os))) ?_
  intro W base args ds gs before hval0 hW _ _ _ hL _ _
  have hval : ∀ (j : Nat) t v, Tryz.f3.params[j]? = some t → args[j]? = some v → Value.okWide Tryz.prog W .any base t v := hval0
  have hW' := hW
  obtain ⟨p, q, hA0, hV, rfl, hfz, hnd⟩ := hW
  have hA : DataW.TrodAll enc Tryz.prog W 0 (fun _ => true) true Tryz.f3.params.toList args.toList ds p := hA0
  rw [Tryz.params3] at hA hval
  obtain ⟨v0, vs0, d0, ds0, p0, q0, hargs, rfl, rfl, k0, r0_⟩ := trodAll_cons hA
  obtain ⟨v1, vs1, d1, ds1, p1, q1, rfl, rfl, rfl, k1, r1_⟩ := trodAll_cons r0_
  obtain ⟨rfl, rfl, rfl⟩ := trodAll_nil r1_
  obtain rfl : args = #[v0, v1] := by cases args; simp_all
  obtain ⟨rfl, rfl⟩ := trodVars_none hV
  have lt0 : ∀ x ∈ p0, x.block < W.heap.size := by obtain ⟨m, hm⟩ := k0; exact DataW.trod_lt m _ _ _ hm
  have lt1 : ∀ x ∈ p1, x.block < W.heap.size := by obtain ⟨m, hm⟩ := k1; exact DataW.trod_lt m _ _ _ hm
  obtain ⟨x0, r0, hx0, l0⟩ := Px.inSlU Tryz.underlying22 Tryz.underlying5 (by kernel_rfl) rfl (hval 0 22 v0 rfl rfl) k0
  obtain ⟨x1, rfl, hx1⟩ := Px.inU Tryz.underlying5 rfl (hval 1 5 v1 rfl rfl) k1
  clear hA0 hval0
  rw [MakeChecks.laidMetH_plain _ _ _ (by kernel_rfl)] at hL
  have hG := B2q hL
  refine Calls.mono ((A23 v0 x0 x1 _ ⟨r0, hx0, l0⟩ hx1 hG).calls (Px.heapA_fx W)) fun e W' ⟨he, bel⟩ => ?_
  subst he
  exact ⟨_, rfl, _, _, _, [], _, [], hW', trodAll_mk1 (shut_bool Tryz.underlying4 _), (trodAll_cons_mk (Below.trod laidOut (by kernel_rfl) (of_decide_eq_true (by kernel_rfl)) k0 bel lt0) (trodAll_cons_mk (Below.trod laidOut (by kernel_rfl) (of_decide_eq_true (by kernel_rfl)) k1 bel lt1) trodAll_mk0)), rfl, bel.frame _, fun h => by cases h⟩
theorem said : Rows.AttackSeesSaid :=
  OpenClaim.holds_of_cond 3 Tryz.f3 rfl rfl rfl rfl rfl rfl rfl ⟨rfl, rfl, rfl, rfl, rfl⟩ rfl rfl rfl rfl rfl (by kernel_rfl) Tryz.func3 (by kernel_rfl)
    (of_decide_eq_true (by kernel_rfl)) (by unfold Func.isWrapper; first | (rw [if_pos (by decide +kernel)]; kernel_rfl) | (rw [if_neg (by decide +kernel)]; exact ⟨rfl, rfl⟩))
    (fun os started H enc _ F => by rw [OpenClaim.pre_eq_preRow]; exact lifted os started H enc F)
theorem plain (f : FuncId) (fn : Func) (hf : Tryz.pinned.checked.prog.funcNamed "pawl/pawllaw23.AttackSees" = some f) (hfn : Tryz.pinned.checked.prog.funcs[f]? = some fn) :
    true = Tryz.pinned.checked.prog.looks [] ∧ ∀ (j : Nat) t, fn.params[j]? = some t → Tryz.pinned.checked.prog.wantsStandIn t = false := by
  obtain rfl : f = 3 := Option.some.inj ((show Tryz.prog.funcNamed "pawl/pawllaw23.AttackSees" = some 3 by kernel_rfl).symm.trans hf) |>.symm
  obtain rfl : fn = Tryz.f3 := (Option.some.inj (Tryz.func3.symm.trans hfn)).symm
  refine ⟨by kernel_rfl, fun j t ht => ?_⟩
  rw [Tryz.params3] at ht
  have hm := Array.mem_of_getElem? ht
  simp only [List.mem_toArray, List.mem_cons, List.not_mem_nil, or_false] at hm
  rcases hm with rfl | rfl
  · exact (show Tryz.prog.wantsStandIn 22 = false by kernel_rfl)
  · exact (show Tryz.prog.wantsStandIn 5 = false by kernel_rfl)
theorem proved : Rows.AttackSeesCardSaid :=
  Claim7.holds_tied_plain_at .later [] _ _ _ _ said (fun _ h => by cases h) (by kernel_rfl) (fun _ h => by cases h) attackSees_row_tie rfl ⟨rfl, rfl⟩ (by kernel_rfl) rfl plain (by kernel_rfl)
#print axioms proved
end Go.Proofs.YtoameenjkiaefaaGreatDoor.attackSees

