/- Part 10 of the texts of this claim, one behind the other. -/
import Derived.Test.YtoameenjkiaefaaGreatDoorB9
import Derived.SizedLaws
set_option linter.unusedVariables false
set_option linter.unusedSimpArgs false
set_option maxRecDepth 100000
namespace Go.Px
open Go.ChangeShapes Go.WideShapes Go.ChangeAt Go.RowKit
structure Byi (R : Mem) (v : Value) (w : List Nat) : Prop where
  rd : Rd R 1 v w.length (H6 .u8 w)
  lt : ∀ x ∈ w, x < 256
  len : w.length ≤ maxLen
theorem Byi.mono {R R' : Mem} {v : Value} {w : List Nat} (h : Byi R v w) (hR : ∀ x, x ∈ R → x ∈ R') : Byi R' v w := ⟨h.rd.mono hR, h.lt, h.len⟩
theorem By.i {R : Mem} {v : Value} {w : List Nat} (h : By R v w) : Byi R v w := ⟨h.rd, h.lt, h.max⟩
theorem Byi.by {R : Mem} {v : Value} {w : List Nat} (h : Byi R v w) (hl : w.length ≤ 16777216) : By R v w := ⟨h.rd, h.lt, hl⟩
theorem Byi.cel {R : Mem} {v : Value} {w : List Nat} (h : Byi R v w) : Cel v [v] := h.rd.cel
theorem Byi.one {R : Mem} {v : Value} {w : List Nat} (h : Byi R v w) : v.oneCell' = true := h.rd.one
structure Byz (R : Mem) (v : Value) (w : List Nat) : Prop extends Byi R v w where
  sz : w.length ≤ reachBytes
theorem Byz.mono {R R' : Mem} {v : Value} {w : List Nat} (h : Byz R v w) (hR : ∀ x, x ∈ R → x ∈ R') : Byz R' v w := ⟨h.toByi.mono hR, h.sz⟩
section
variable {H : Type} {enc : TypeId × Value → H} {P : Program} {w : World} {spare : Nat → Bool} {held : Bool} {fuel : Nat} {t e : TypeId} {cs : List Value} {x : DataW H × List MemPlace}
theorem st_field {fs : Array Field} {tf : TypeId} {o c : Nat} (ht : P.underlying t = some (.struct fs)) (h : DataW.trod enc P w 0 spare held fuel t cs = some x) (i : Nat) (f : Field) (hf : fs[i]? = some f) (hty : f.type = tf) (ho : f.offset = o) (hc : P.cellsOf tf = c) :
    ∃ m y, DataW.trod enc P w 0 spare held m tf ((cs.drop o).take c) = some y := by
  obtain ⟨xs, m, _, _, h1, h2, h3⟩ := DataW.trod_struct ht h
  have e0 := h3 i f hf
  have hi : i < fs.size := (Array.getElem?_eq_some_iff.1 hf).1
  rw [hty, ho, hc, List.getElem?_eq_getElem (by omega)] at e0
  exact ⟨m, _, e0⟩
end
end Go.Px

namespace Go.Proofs.YtoameenjkiaefaaGreatDoor
open Go.Px
theorem A6M {P : Program} {fn : Func} {l : Env} {R : Mem} {t u x b n : Nat} {ty : TypeId} {cs : List Value} {e : TypeId} {fr : Nat × Nat} {v z : Value} (h : fn.results = #[.tmp u, .cell t ty, .tmp x]) (hv : lk l t = some (vP b)) (hu : lk l u = some v) (hx : lk l x = some z) (ht : A3a P ty = some n)
    (hb : (b, Obj.cells cs.toArray e fr) ∈ R) (hn : cs.length = n) : Res P fn l R (.tuple #[v, .agg cs.toArray, z]) := fun N a w ha hw => by
  obtain ⟨dsc, h1, h2, h3⟩ := L5 ht
  have hl := run_loadVar_row (P := P) w b e ty cs.toArray fr dsc (hw b _ hb) h1 (by cases dsc <;> simp_all [TypeDesc.isRow]) (by rw [h3, ← hn]; simp)
  simp [results, h, ha.slot t _ hv, ha.slot u _ hu, ha.slot x _ hx, asAddr, hl]
noncomputable def ckB (s : Ps) (b : Bn) : Bool := decide (b.key.length = 32) && A8Y s b.ig (A6z b.signed b.key) b.sig
def heC (va vg vk : Value) (h : He) : List Value := [va, vg, vk, (vU h.signed), .bool h.has, (vU h.once)]
structure HeR (R : Mem) (h : He) (va vg vk : Value) : Prop where
  ia : By R va h.ia
  ig : Byi R vg h.ig
  key : By R vk h.key
  signed : h.signed < 4294967296
  once : h.once < 4294967296
theorem HeR.mono {R R' : Mem} {h : He} {va vg vk : Value} (g : HeR R h va vg vk) (hR : ∀ x, x ∈ R → x ∈ R') : HeR R' h va vg vk := ⟨g.ia.mono hR, g.ig.mono hR, g.key.mono hR, g.signed, g.once⟩
theorem B0f (pb : Nat × Nat) (s : Ps) (kb : Nat) (k : Ks) (va vg vq vo vm : Value) (rs ro rm : List (List Value)) (b : Bn) (wa wg wk ws wo : Value) (MP A : Mem) (hK : KyR A kb k va vg vq vo vm rs ro rm) (hP : Prm pb s MP) (har : Ar s.ts) (hn : s.ts.length + 1000 ≤ 1040000) (hk : s.n < 1000000000) (ga : By A wa b.ia) (gg : By A wg b.ig) (gk : By A wk b.key) (gs : By A ws b.sig) (go : By A wo b.oncek) (hsn : b.signed < 4294967296) (hon : b.once < 4294967296) (hG : Glb A) : FnX Tryz.prog 72 [.pointer (some ⟨pb.1, 0, none⟩), (vP kb), .agg #[.int .i64 b.user, .int .i64 b.dev, wa, wg, (vU b.signed), wk, ws, .bool b.has, (vU b.once), wo]] MP A fun q M J => (ckB s b = true → ∃ v p r u, q = .tuple #[v, .agg (heC p r u (stH k b s)).toArray, .int .i64 0] ∧ Prm pb (stS k b s) M ∧ By J v (stK k b s) ∧ HeR (J ++ A) (stH k b s) p r u) ∧ (ckB s b = false → q = .tuple #[vS, .agg #[vS, vS, vS, .int .u32 0, .bool false, .int .u32 0], .int .i64 10] ∧ Prm pb s M) := by
 haveI := ga.cel
 haveI := gg.cel
 haveI := gk.cel
 haveI := gs.cel
 haveI := go.cel
 have f1 := L3 s
 have f2 := U0 (D7 s) k.agree b.key
 have f3 := U0 (L4 (D7 s) k.agree b.key) (E0 s) b.ia
 have f4 := U0 (L4 (L4 (D7 s) k.agree b.key) (E0 s) b.ia) (E0 s) b.key
 have f5 := U0 (L4 (L4 (L4 (D7 s) k.agree b.key) (E0 s) b.ia) (E0 s) b.key) (E0 s) b.oncek
 refine FnX.enterZ (N := 74) Tryz.func72 rfl rfl rfl fun w_ => ?_
 refine A8 (E7 0 1 2) (A1 ?_)
 refine A4 rfl (bx_ fun b5 => ?_)
 refine as_ ?_
 refine A4 rfl (D3 (cs := [vS, vS, vS, .int .u32 0, .bool false, .int .u32 0]) kR rfl fun b7 => ?_)
 refine as_ (A0 (F8 0 1 5 7) (A7 (A1 (mv_ ?_))))
 refine A2 (C9 (e := 127) rfl rfl kR) rfl ?_
 refine mv_ ?_
 refine B0 rfl rfl (OpQ.opL qm_ rfl ?_)
 refine B0 rfl rfl (OpQ.opL (C9 (e := 118) rfl rfl kR) rfl ?_)
 refine A2 (C7 rfl rfl) rfl ?_
 refine A0 (H9 0 1 5 7 17) ?_
 refine B8 rfl ?_
 refine A5 (nx (F8 0 1 5 7) (A7 (A1 (mv_ ?_))))
 refine A2 (qw_ 10) rfl ?_
 refine E2 (aS rfl (aS rfl a0)) kR (A6L pb s b wa wg wk ws wo MP _ hP (by intro z hz; simp [hz]) har qO (ga.mono qS) (gg.mono qS) (gk.mono qS) (gs.mono qS) (go.mono qS) hsn hG.up) rfl ?_
 change XL _ _ _ _ ((21, .bool (ckB s b)) :: _) _ _
 refine A2 (T2 rfl) rfl ?_
 refine A0 (H9 0 1 5 7 22) ?_
 refine C4 rfl ?_ ?_ <;> intro hc
 ·
  have hck : ckB s b = false := by simpa using hc
  refine A1 ?_
  refine A2 (D2 (place := fun x => #[(0, 2), (2, 1), (3, 1), (4, 1), (5, 1)][x]?) (z := [vS, vS, vS, .int .u32 0, .bool false, .int .u32 0]) (fun _ => by kernel_rfl) e0 bd0) rfl ?_
  refine as_ ?_
  refine A4 rfl (C0 rfl rfl Cel.cel kR ln6 al6 UpC.upd ?_)
  refine as_ (A0 (E7 6 7 8) (A6 (tr ?_)))
  exact ⟨_, MP, [], A6M (n := 6) rfl rfl rfl rfl kR At.mem qR, Fit.none (Fit.last qP), (fun h => by rw [hck] at h; cases h), fun _ => ⟨rfl, hP⟩⟩
 ·
  have hck : ckB s b = true := by simpa using hc
  refine A5 (nx (F8 0 1 5 7) (A1 (mv_ ?_)))
  refine A4 rfl (A9 (Mc := MP) (R := _) (aS rfl (a0)) kR qP (Q9 pb s MP _ hP qO qO hG.up) rfl ?_)
  rintro v25 M25 J25 ⟨hP25, h25⟩
  haveI := h25.cel
  refine as_ (A0 (H9 0 1 5 7 9) ?_)
  refine E5 (M25) (_) true (.range 19) [(0, 0), (1, 0), (3, 0), (4, 1), (6, 0), (7, 0), (8, 0), (9, 0), (10, 1), (12, 0), (13, 0), (14, 0), (15, 1), (2, 2), (5, 2), (11, 2), (16, 2), (17, 2), (18, 0)] kR kR qP fun hs K n0 hKm hKs hKn => ?_
  refine km_ hs ?_
  refine km_ hs ?_
  refine E4 hs rfl (qf_ 5 5) rfl ?_
  refine I2 hs rfl hKs ql_ ?_
  refine km_ hs ?_
  refine km_ hs ?_
  refine E4 hs rfl (qf_ 2 2) rfl ?_
  refine E4 hs rfl (qf_ 2 0) rfl ?_
  refine I2 hs rfl hKs ql_ ?_
  refine km_ hs ?_
  refine km_ hs ?_
  refine E4 hs rfl (qf_ 5 5) rfl ?_
  refine I2 hs rfl hKs ql_ ?_
  refine F7 [] _ rfl rfl (List.Perm.refl _) (fun _ h => by cases h) fun w0 => (K1 (aS rfl a0) kR (A7Z kb k va vg vq vo vm rs ro rm _ (hK.mono qS)) rfl ?_)
  rintro v28 M28 J28 ⟨rfl, h28⟩ _
  haveI := h28.cel
  dsimp only [List.nil_append, List.append_eq]
  refine F7 _ _ rfl rfl (List.Perm.refl _) hKm fun w0 => (A9 (Mc := M25) (R := _) (aS rfl (aS rfl (aS rfl (a0)))) kR qP (A1b pb (D7 s) v28 wk k.agree b.key M25 _ hP25 qO (h28.mono qS) (gk.mono qS) hG.up) rfl ?_)
  rintro v31 M31 J31 ⟨hP31, h31⟩ hKx31
  haveI := h31.cel
  refine F7 M31 _ rfl rfl qP (fun x hx => hKx31 (hKn rfl) x (by simpa using hx)) fun w0 => (A9 (Mc := M31) (R := _) (aS rfl (aS rfl (aS rfl (a0)))) kR qP (A1b pb ((L4 (D7 s) k.agree b.key)) v25 wa (E0 s) b.ia M31 _ hP31 qO (h25.mono qS) (ga.mono qS) hG.up) rfl ?_)
  rintro v37 M37 J37 ⟨hP37, h37⟩ hKx37
  haveI := h37.cel
  refine F7 M37 _ rfl rfl qP (fun x hx => hKx37 (hKn rfl) x (by simpa using hx)) fun w0 => (A9 (Mc := M37) (R := _) (aS rfl (aS rfl (aS rfl (a0)))) kR qP (A1b pb ((L4 (L4 (D7 s) k.agree b.key) (E0 s) b.ia)) v25 wk (E0 s) b.key M37 _ hP37 qO (h25.mono qS) (gk.mono qS) hG.up) rfl ?_)
  rintro v42 M42 J42 ⟨hP42, h42⟩ hKx42
  haveI := h42.cel
  refine F7 [] _ rfl rfl (List.Perm.refl _) (fun _ h => by cases h) fun w0 => (C3 (e := 22) (sz := 1) (z := [vS, vS, vS]) kR (eS rfl (eS rfl (eS rfl e0))) (bdS 0 1 rfl qR (bdS 1 1 rfl qR (bdS 2 1 rfl qR bd0))) rfl fun b43 => fun hk43 => ?_)
  dsimp only [List.cons_append, List.nil_append, List.append_eq]
  refine E4 hs rfl (G4 rfl) rfl ?_
  refine H7 (L1 0 1 5 7 9 10) ?_
  refine X9 (α := Value × Mem × Mem) (fun y => [(0, .pointer (some ⟨pb.1, 0, none⟩)), (1, (vP kb)), (5, (vP b5)), (7, (vP b7)), (9, v25), (10, y.1)]) (fun y => y.2.1 ++ [(b5, blk [.int .i64 b.user, .int .i64 b.dev, wa, wg, (vU b.signed), wk, ws, .bool b.has, (vU b.once), wo] 59), (b7, blk [vS, vS, vS, .int .u32 0, .bool false, .int .u32 0] 33)]) (fun y => y.2.2) (fun y => Prm pb (stA k.agree b s) y.2.1 ∧ LsV (y.2.2 ++ A) y.1 (stL k.agree b s) ∧ By (y.2.2 ++ A) v25 (E0 s)) ?_ ?_
  ·
   refine A07 (B := [(b43, blk [v31, v37, v42] 22)]) qP ?_
   refine A1 ?_
   refine A2 (qf_ 7 7) rfl ?_
   refine A2 ql_ rfl ?_
   refine A0 (V0 0 1 5 7 9 10 45) ?_
   refine C4 rfl ?_ ?_ <;> intro hc
   ·
    refine D1 (mv_ (mv_ (mv_ ?_)))
    refine A2 (qf_ 9 9) rfl ?_
    refine A2 ql_ rfl ?_
    refine A4 rfl (A9 (Mc := M42) (R := _) (aS rfl (aS rfl (aS rfl (a0)))) kR qP (A1b pb (L4 (L4 (L4 (D7 s) k.agree b.key) (E0 s) b.ia) (E0 s) b.key) v25 wo (E0 s) b.oncek M42 _ hP42 qO (h25.mono qS) (go.mono qS) hG.up) rfl ?_)
    rintro v51 M51 J51 ⟨hP51, h51⟩
    haveI := h51.cel
    refine A4 rfl (C3 (e := 22) (sz := 1) (z := [vS]) kR (eS rfl e0) (bdS 0 1 rfl qR bd0) rfl fun b52 => ?_)
    refine A4 rfl (A6b (e := 22) (sz := 1) (by_ := 24) (xs := [v31, v37, v42]) rfl rfl kR rfl (Rd.whole (n := 3) At.mem qR) (Rd.whole (n := 1) At.mem qR) qD qD qD rfl fun v53 B53 hs53 => ?_)
    haveI := hs53.cel
    refine A6a (B := B53) qP ?_
    refine as_ (E3 ?_)
    exact jn (v53, M51, _) ⟨by dsimp only; unfold stA stP; rw [hc]; exact hP51, by dsimp only; unfold stL stP; rw [hc]; exact ⟨[v31, v37, v42] ++ [v51], hs53.rd qS, Lst.cons (h31.mono qS) (Lst.cons (h37.mono qS) (Lst.cons (h42.mono qS) (Lst.cons (h51.mono qS) Lst.nil)))⟩, h25.mono qS⟩ (L1 0 1 5 7 9 10) (Fit.pick qP (Fit.last qP)) qI
   ·
    refine A5 ?_
    exact jn (.slice (some ⟨b43, 0, none⟩) 3 3, M42, _) ⟨by dsimp only; unfold stA stP; rw [hc]; exact hP42, by dsimp only; unfold stL stP; rw [hc]; exact ⟨[v31, v37, v42], Rd.whole (n := 3) At.mem qR, Lst.cons (h31.mono qS) (Lst.cons (h37.mono qS) (Lst.cons (h42.mono qS) Lst.nil))⟩, h25.mono qS⟩ (L1 0 1 5 7 9 10) (Fit.pick qP (Fit.last qP)) qI
  ·
   rintro ⟨lv, MJ, J9⟩ ⟨hPJ, hLJ, he25⟩
   dsimp only at hPJ hLJ he25 ⊢
   haveI := hLJ.cel
   obtain ⟨hzA, hzI, hzS, hzn, hzL⟩ := B0d k b s
   have hI : stI k b s = H5 (idS k (stA k.agree b s)) (E0 s) := rfl
   have hH : stH k b s = ⟨idA k (stA k.agree b s), idG k (stA k.agree b s), I9 (idS k (stA k.agree b s)) (E0 s), b.signed, b.has, if b.has then b.once else 0⟩ := rfl
   rw [hH]
   have hzi := A1e k (stA k.agree b s)
   rw [hI] at hzI
   generalize E0 s = e at *
   obtain ⟨sA, hsA⟩ : ∃ z, stA k.agree b s = z := ⟨_, rfl⟩
   rw [hsA] at hPJ hzA hI hzi hzI ⊢
   refine E5 (MJ) (_) true (.range 12) [(0, 0), (1, 0), (3, 0), (4, 0), (6, 0), (7, 1), (8, 0), (9, 1), (2, 3), (5, 3), (10, 3), (11, 4), (12, 2)] kR kR qP fun hs K n0 hKm hKs hKn => ?_
   refine km_ hs ?_
   refine km_ hs ?_
   refine km_ hs ?_
   refine km_ hs ?_
   refine E4 hs rfl (qf_ 4 4) rfl ?_
   refine I2 hs rfl hKs ql_ ?_
   refine E4 hs rfl (qf_ 7 7) rfl ?_
   refine I2 hs rfl hKs ql_ ?_
   refine S2 [⟨2, 56, none, MJ, fun v B R => Prm pb (idS k sA) B ∧ ∃ p q, v = .agg #[p, q] ∧ By R p (idA k sA) ∧ By R q (idG k sA)⟩, ⟨5, 59, some 2, [], fun v B R => Prm pb (H5 (idS k sA) e) B ∧ By R v (I9 (idS k sA) e)⟩, ⟨10, 64, none, [], fun v B R => B = [] ∧ ∃ p r u, v = .agg #[p, r, u, (vU b.signed), .bool b.has, (vU 0)] ∧ By R p (idA k sA) ∧ By R r (idG k sA) ∧ By R u (I9 (idS k sA) e)⟩, ⟨11, 11, none, [], fun v B _ => ∃ b, v = (vP b) ∧ B = [(b, blk [vS, vS, vS, .int .u32 0, .bool false, .int .u32 0] 33)]⟩] ([(b5, blk [.int .i64 b.user, .int .i64 b.dev, wa, wg, (vU b.signed), wk, ws, .bool b.has, (vU b.once), wo] 59), (b7, blk [vS, vS, vS, .int .u32 0, .bool false, .int .u32 0] 33)]) (fun bs => [bs 5, bs 10, bs 11]) (hKn rfl) (by simp [S1, V3]) (show ∀ m ∈ ([MJ, [], []] : List Mem), ∀ x ∈ m, K x.1 from A3 (hKm) (A3 (fun _ h => by cases h) (A3 (fun _ h => by cases h) (I5)))) kR (fun _ => by first | rfl | kernel_rfl)
    (A3 (fun _ _ _ _ h ⟨p1, p, q, e, p2, p3⟩ => ⟨p1, p, q, e, p2.mono h, p3.mono h⟩) (A3 (fun _ _ _ _ h ⟨p1, p2⟩ => ⟨p1, p2.mono h⟩) (A3 (fun _ _ _ _ h ⟨p1, p, q, u, e, p2, p3, p4⟩ => ⟨p1, p, q, u, e, p2.mono h, p3.mono h, p4.mono h⟩) (A3 (fun _ _ _ _ _ h => h) (I5))))) (show List.Nodup [56, 59, 64, 11] by decide) (show List.Nodup [2, 5, 10, 11] by decide) (A3 (D6 rfl) (A3 (D6 rfl) (A3 (D6 rfl) (A3 (D6 rfl) (I5)))))
    (A3 ⟨_, rfl, fun vs bs R Rj wG hb hj hjr ha => ⟨.inl rfl, ?_⟩⟩ (A3 ⟨_, rfl, fun vs bs R Rj wG hb hj hjr ha => ⟨.inl rfl, ?_⟩⟩ (A3 ⟨_, rfl, fun vs bs R Rj wG hb hj hjr ha => ⟨.inl rfl, ?_⟩⟩ (A3 ⟨_, rfl, fun vs bs R Rj wG hb hj hjr ha => ⟨.inl rfl, ?_⟩⟩ (I5))))) ?_
   ·
    dsimp only [Gc.inp]
    refine A9 (Mc := MJ) (R := []) (aS rfl (aS rfl (a0))) kR qM (A3A pb sA kb k va vg vq vo vm rs ro rm MJ _ (hK.mono (fun x hx => by have := hb x (by simp [hx]); simp [this])) hPJ qO (hG.sub (fun x hx => by have := hb x (by simp [hx]); simp [this]))) rfl ?_
    rintro v25 M25 J25 ⟨hP25, p, q, rfl, hp, hq⟩
    exact ⟨_, rfl, by simpa using hP25, p, q, rfl, hp.mono fun x hx => by simp [hx], hq.mono fun x hx => by simp [hx]⟩
   ·
    dsimp only [Gc.inp]
    have g2 := ha _ (List.mem_of_getElem? (i := 0) rfl) kR
    replace g2 : (fun v B R => Prm pb (idS k sA) B ∧ ∃ p q, v = .agg #[p, q] ∧ By R p (idA k sA) ∧ By R q (idG k sA)) (vs 2) (bs 2) Rj := g2
    dsimp only at g2
    obtain ⟨hP25, -⟩ := g2
    refine A9 (Mc := bs 2) (R := []) (aS rfl (aS rfl (a0))) kR qM (X1 pb (idS k sA) v25 e (bs 2) _ hP25 qO (he25.mono (fun x hx => by have := hb x (by simp [hx]); simp [this])) (hG.sub (fun x hx => by have := hb x (by simp [hx]); simp [this]))) rfl ?_
    rintro v31 M31 J31 ⟨hP31, h31⟩
    exact ⟨_, rfl, by simpa using hP31, h31.mono fun x hx => by simp [hx]⟩
   ·
    dsimp only [Gc.inp]
    have g2 := ha _ (List.mem_of_getElem? (i := 0) rfl) kR
    replace g2 : (fun v B R => Prm pb (idS k sA) B ∧ ∃ p q, v = .agg #[p, q] ∧ By R p (idA k sA) ∧ By R q (idG k sA)) (vs 2) (bs 2) Rj := g2
    dsimp only at g2
    have g5 := ha _ (List.mem_of_getElem? (i := 1) rfl) kR
    replace g5 : (fun v B R => Prm pb (H5 (idS k sA) e) B ∧ By R v (I9 (idS k sA) e)) (vs 5) (bs 5) Rj := g5
    dsimp only at g5
    obtain ⟨-, h31⟩ := g5
    obtain ⟨-, p, q, e25, hp, hq⟩ := g2
    haveI := h31.cel
    haveI := hp.cel
    haveI := hq.cel
    dsimp only [L9, List.map, List.cons_append, List.nil_append]
    rw [e25]
    exact OpQ.opL (D2 (place := fun x => #[(0, 2), (2, 1), (3, 1), (4, 1), (5, 1)][x]?) (z := [vS, vS, vS, .int .u32 0, .bool false, .int .u32 0]) (fun _ => by kernel_rfl) (eS rfl (eS rfl (eS rfl (eS rfl e0)))) (bdS 0 2 rfl qR (bdS 2 1 rfl qR (bdS 3 1 rfl qR (bdS 4 1 rfl qR bd0))))) rfl ⟨_, rfl, rfl, p, q, _, rfl, hp, hq, h31⟩
   ·
    dsimp only [Gc.inp]
    exact D3 (cs := [vS, vS, vS, .int .u32 0, .bool false, .int .u32 0]) kR rfl fun b => ⟨_, rfl, b, rfl, rfl⟩
   intro vs bs Jn0 hφ hKK
   have kk2 := hKK _ (List.mem_of_getElem? (i := 0) rfl)
   dsimp only at kk2
   have kk5 := hKK _ (List.mem_of_getElem? (i := 1) rfl)
   dsimp only at kk5
   have kk10 := hKK _ (List.mem_of_getElem? (i := 2) rfl)
   dsimp only at kk10
   have kk11 := hKK _ (List.mem_of_getElem? (i := 3) rfl)
   dsimp only at kk11
   clear hKK
   have g2 := ofH hφ
   dsimp only at g2
   replace hφ := ofT hφ
   have g5 := ofH hφ
   dsimp only at g5
   replace hφ := ofT hφ
   have g10 := ofH hφ
   dsimp only at g10
   replace hφ := ofT hφ
   have g11 := ofH hφ
   dsimp only at g11
   clear hφ
   dsimp only [L9, S1, List.foldr, List.map, List.cons_append, List.nil_append]
   generalize bs 2 = B56 at *
   generalize bs 5 = B59 at *
   generalize bs 10 = B64 at *
   generalize bs 11 = B11 at *
   generalize vs 2 = u56 at *
   generalize vs 5 = u59 at *
   generalize vs 10 = u64 at *
   generalize vs 11 = u11 at *
   obtain ⟨hP59, -⟩ := g5
   clear g2
   obtain ⟨b11, rfl, rfl⟩ := g11
   obtain ⟨rfl, p, r, u, rfl, hp, hr, hu⟩ := g10
   haveI := hp.cel
   haveI := hr.cel
   haveI := hu.cel
   refine I6 rfl rfl rfl (C0 (vs := [p, r, u, (vU b.signed), .bool b.has, (vU 0)]) rfl rfl rfl kR qR (A3 hp.one (A3 hr.one (A3 hu.one al3))) UpC.upd ?_)
   refine H7 (H9 0 5 7 10 11) (A7 ?_)
   cases hh : b.has
   ·
    refine A1 ?_
    refine A2 (qf_ 7 7) rfl ?_
    refine A2 ql_ rfl ?_
    refine A0 (L1 0 5 7 10 11 66) ?_
    refine B8 rfl ?_
    refine A5 (nx (F8 0 7 10 11) ?_)
    refine E5 (B59) (_) true [0, 1, 2, 3, 4, 6] [(0, 0), (1, 0), (3, 1), (2, 2), (4, 0), (5, 2), (6, 0)] kR kR qP fun hs K n0 hKm hKs hKn => ?_
    refine km_ hs ?_
    refine km_ hs ?_
    refine I2 hs rfl hKs (qw_ 6) ?_
    refine F7 _ _ rfl rfl (List.Perm.refl _) hKm fun w0 => (A9 (Mc := B59) (R := _) (aS rfl (aS rfl (a0))) kR qP (A2Y pb (stI k b s) lv (stL k.agree b s) B59 _ (hI ▸ hP59) (hLJ.mono qS) qO (by rw [hI]; omega) hG.up) rfl ?_)
    rintro v72 M72 J72 ⟨hP72, h72⟩ hKx72
    haveI := h72.cel
    refine E4 hs rfl (G4 rfl) rfl ?_
    refine I6 rfl rfl rfl (C0 (vs := [p, r, u, (vU b.signed), .bool false, (vU 0)]) rfl rfl rfl kR qR (A3 hp.one (A3 hr.one (A3 hu.one al3))) UpC.upd ?_)
    refine E4 hs rfl (G4 rfl) rfl ?_
    refine H7 (E7 6 7 8) (A6 ?_)
    refine ⟨_, M72, [], A6M (n := 6) rfl rfl rfl rfl kR At.mem qR, Fit.none (Fit.last qP), (fun _ => ⟨_, p, r, u, rfl, hP72, h72.mono qS, hp.mono qS, (hr.mono qS).i, hu.mono qS, hsn, (by decide : 0 < 4294967296)⟩), fun h => by rw [hck] at h; cases h⟩
   ·
    refine A1 ?_
    refine A2 (qf_ 7 7) rfl ?_
    refine A2 ql_ rfl ?_
    refine A0 (L1 0 5 7 10 11 66) ?_
    refine G3 rfl ?_
    refine D1 ?_
    refine A2 (qf_ 8 8) rfl ?_
    refine A2 ql_ rfl ?_
    refine A2 (qf_ 5 5) rfl ?_
    refine A4 rfl (F3 rfl rfl rfl kR SetC.set UpC.upd ?_)
    refine A0 (F8 0 7 10 11) ?_
    refine E5 (B59) (_) true [0, 1, 2, 3, 4, 6] [(0, 0), (1, 0), (3, 1), (2, 2), (4, 0), (5, 2), (6, 0)] kR kR qP fun hs K n0 hKm hKs hKn => ?_
    refine km_ hs ?_
    refine km_ hs ?_
    refine I2 hs rfl hKs (qw_ 6) ?_
    refine F7 _ _ rfl rfl (List.Perm.refl _) hKm fun w0 => (A9 (Mc := B59) (R := _) (aS rfl (aS rfl (a0))) kR qP (A2Y pb (stI k b s) lv (stL k.agree b s) B59 _ (hI ▸ hP59) (hLJ.mono qS) qO (by rw [hI]; omega) hG.up) rfl ?_)
    rintro v72 M72 J72 ⟨hP72, h72⟩ hKx72
    haveI := h72.cel
    refine E4 hs rfl (G4 rfl) rfl ?_
    refine I6 rfl rfl rfl (C0 (vs := [p, r, u, (vU b.signed), .bool true, (vU b.once)]) rfl rfl rfl kR qR (A3 hp.one (A3 hr.one (A3 hu.one al3))) UpC.upd ?_)
    refine E4 hs rfl (G4 rfl) rfl ?_
    refine H7 (E7 6 7 8) (A6 ?_)
    refine ⟨_, M72, [], A6M (n := 6) rfl rfl rfl rfl kR At.mem qR, Fit.none (Fit.last qP), (fun _ => ⟨_, p, r, u, rfl, hP72, h72.mono qS, hp.mono qS, (hr.mono qS).i, hu.mono qS, hsn, hon⟩), fun h => by rw [hck] at h; cases h⟩


theorem D4 (pre vs post : List Value) : ∀ (j : Nat) v, vs[j]? = some v → (pre ++ (vs ++ post))[pre.length + j]? = some v := fun j v h => by
  rw [List.getElem?_append_right qO, Nat.add_sub_cancel_left, List.getElem?_append_left (List.getElem?_eq_some_iff.1 h).1]
  exact h
def fl1 (b : Bool) : Nat := if b then 1 else 0
def wFl (ws : LN) (b : Bool) : LN := ws ++ beN (fl1 b) 1
def wB4 (ws w : LN) : LN := ws ++ beN w.length 4 ++ w
def wN4 (ws : LN) (n : Nat) : LN := ws ++ beN n 4
def whW (ws : LN) (u d : Int) : LN := wN4 (wN4 ws (u32N u)) (u32N d)
def idW (ws a g : LN) : LN := wB4 (wB4 ws a) g
def heF (ws : LN) (h : He) : LN := wFl (wN4 (wB4 (idW ws h.ia h.ig) h.key) h.signed) h.has
def heW (ws : LN) (h : He) : LN := if h.has then wN4 (heF ws h) h.once else heF ws h
theorem P4 (ws : LN) (b : Bool) : (wFl ws b).length = ws.length + 1 := by simp [wFl, F2]
theorem N8 (ws w : LN) : (wB4 ws w).length = ws.length + w.length + 4 := by simp [wB4, F2]; omega
theorem N9 (ws : LN) (n : Nat) : (wN4 ws n).length = ws.length + 4 := by simp [wN4, F2]
theorem P5 (ws : LN) (u d : Int) : (whW ws u d).length = ws.length + 8 := by simp [whW, N9]
theorem P6 (ws a g : LN) : (idW ws a g).length = ws.length + a.length + g.length + 8 := by simp [idW, N8]; omega
theorem A6N (ws : LN) (h : He) : (heF ws h).length = ws.length + h.ia.length + h.ig.length + h.key.length + 17 := by simp [heF, P4, N9, N8, P6]; omega
theorem A6O (ws : LN) (h : He) : (heW ws h).length ≤ ws.length + h.ia.length + h.ig.length + h.key.length + 21 := by
  have h1 := A6N ws h
  unfold heW
  split
  · rw [N9]; omega
  · omega
structure Ev where
  fu : Int
  fd : Int
  tu : Int
  td : Int
  ses : LN
  has : Bool
  he : He
  hk : LN
  hp : Nat
  hn : Nat
  g : LN
def frF (ws : LN) (x : Ev) : LN := wFl (wB4 (whW (whW ws x.fu x.fd) x.tu x.td) x.ses) x.has
def frW (ws : LN) (x : Ev) : LN := if x.has then heW (frF ws x) x.he else frF ws x
theorem A6P (ws : LN) (x : Ev) : (frF ws x).length = ws.length + x.ses.length + 21 := by simp [frF, P4, N8, P5]; omega
def evC (vs p r u vk vg : Value) (x : Ev) : List Value := [.int .i64 x.fu, .int .i64 x.fd, .int .i64 x.tu, .int .i64 x.td, vs, .bool x.has, p, r, u, (vU x.he.signed), .bool x.he.has, (vU x.he.once), vk, (vU x.hp), (vU x.hn), vg]
structure EvR (R : Mem) (x : Ev) (vs p r u vk vg : Value) : Prop where
  ses : By R vs x.ses
  he : HeR R x.he p r u
  hil : x.he.ig.length ≤ 1000000
  hk : By R vk x.hk
  g : By R vg x.g
  hp : x.hp < 4294967296
  hn : x.hn < 4294967296
theorem EvR.mono {R R' : Mem} {x : Ev} {vs p r u vk vg : Value} (h : EvR R x vs p r u vk vg) (hR : ∀ z, z ∈ R → z ∈ R') : EvR R' x vs p r u vk vg := ⟨h.ses.mono hR, h.he.mono hR, h.hil, h.hk.mono hR, h.g.mono hR, h.hp, h.hn⟩
theorem A6Q (wb : Nat) (b : Bool) (ws : LN) (MW A : Mem) (hW : Wtr wb ws MW) (hl : ws.length ≤ 100000000) : FnX Tryz.prog 78 [(vP wb), .bool b] MW A fun q M J => q = (vP wb) ∧ Wtr wb (wFl ws b) M := by
 refine FnX.enterZ (N := 10) Tryz.func78 rfl rfl rfl fun w_ => ?_
 refine A8 (D0 0 1) (A1 (as_ (A0 (D0 0 1) (A7 (A1 (mv_ (A0 (D0 0 5) ?_)))))))
 refine C4 rfl ?_ ?_ <;> intro hc
 ·
  obtain rfl : b = true := hc
  refine A1 (mv_ ?_)
  refine A4 rfl (A9 (Mc := MW) (R := _) (aS rfl (aS rfl (aS rfl a0))) kR qP (I3 wb 1 1 ws MW _ hW qD qD qO) rfl ?_)
  rintro v7 M7 J7 ⟨rfl, hW7⟩
  refine as_ (A0 (C8 4) (A6 (tr ?_)))
  exact ⟨_, M7, [], F4 rfl rfl, Fit.none (Fit.last qP), rfl, hW7⟩
 ·
  obtain rfl : b = false := hc
  refine A5 (nx (C8 0) (A1 (mv_ ?_)))
  refine A4 rfl (A9 (Mc := MW) (R := _) (aS rfl (aS rfl (aS rfl a0))) kR qP (I3 wb 0 1 ws MW _ hW qD qD qO) rfl ?_)
  rintro v9 M9 J9 ⟨rfl, hW9⟩
  refine as_ (A0 (C8 4) (A6 ?_))
  exact ⟨_, M9, [], F4 rfl rfl, Fit.none (Fit.last qP), rfl, hW9⟩
theorem A83 (wb : Nat) (u d : Int) (ws : LN) (MW A : Mem) (hW : Wtr wb ws MW) (hl : ws.length ≤ 50000000) : FnX Tryz.prog 77 [(vP wb), .agg #[.int .i64 u, .int .i64 d]] MW A fun q M J => q = .tuple #[] ∧ Wtr wb (whW ws u d) M := by
 have hu := A2f u
 have hd := A2f d
 refine FnX.enterZ (N := 15) Tryz.func77 rfl rfl rfl fun w_ => ?_
 refine A8 (D0 0 1) (A1 ?_)
 refine A4 rfl (bx_ fun b3 => ?_)
 refine A0 (D0 0 3) ?_
 refine Q0 (MW) (_) true (.range 11) [(0, 0), (1, 0), (2, 1), (3, 0), (4, 0), (6, 0), (7, 1), (8, 0), (9, 0), (5, 2), (10, 2)] kR kR qP fun hs K n0 hKm hKs hKn => ?_
 refine km_ hs ?_
 refine E4 hs rfl (qf_ 0 0) rfl ?_
 refine I2 hs rfl hKs ql_ ?_
 refine E4 hs rfl (U4 (k' := .u32) ((u32N u : Nat) : Int) rfl kR (A1g u)) rfl ?_
 refine E4 hs rfl (H2 (k' := .u64) (u32N u) rfl kR (T3 qO)) rfl ?_
 refine E4 hs rfl (qf_ 1 1) rfl ?_
 refine I2 hs rfl hKs ql_ ?_
 refine E4 hs rfl (U4 (k' := .u32) ((u32N d : Nat) : Int) rfl kR (A1g d)) rfl ?_
 refine E4 hs rfl (H2 (k' := .u64) (u32N d) rfl kR (T3 qO)) rfl ?_
 refine F7 _ _ rfl rfl (List.Perm.refl _) hKm fun w0 => (A9 (Mc := MW) (R := _) (aS rfl (aS rfl (aS rfl (a0)))) kR qP (I3 wb (u32N u) 4 _ MW _ hW qO qD (by first | omega | (simp [P4, N8, N9, P5, P6, F2]; omega))) rfl ?_)
 rintro v9 M9 J9 ⟨rfl, hW9⟩ hKx9
 refine F7 M9 _ rfl rfl qP (fun x hx => hKx9 (hKn rfl) x (by simpa using hx)) fun w0 => (A9 (Mc := M9) (R := _) (aS rfl (aS rfl (aS rfl (a0)))) kR qP (I3 wb (u32N d) 4 _ M9 _ hW9 qO qD (by first | omega | (simp [P4, N8, N9, P5, P6, F2]; omega))) rfl ?_)
 rintro v14 M14 J14 ⟨rfl, hW14⟩ hKx14
 refine Z6 ?_
 exact ⟨_, M14, [], A2k rfl, Fit.none (Fit.last qP), rfl, hW14⟩
theorem A79 (wb : Nat) (va vg : Value) (a g ws : LN) (MW A : Mem) (hW : Wtr wb ws MW) (ha : By A va a) (hg : By A vg g) (hl : ws.length ≤ 50000000) : FnX Tryz.prog 125 [(vP wb), .agg #[va, vg]] MW A fun q M J => q = .tuple #[] ∧ Wtr wb (idW ws a g) M := by
 haveI := ha.cel
 haveI := hg.cel
 have hal := ha.len
 have hgl := hg.len
 refine FnX.enterZ (N := 11) Tryz.func125 rfl rfl rfl fun w_ => ?_
 refine A8 (D0 0 1) (A1 ?_)
 refine A4 rfl (bx_ fun b3 => ?_)
 refine A0 (D0 0 3) ?_
 refine Q0 (MW) (_) true (.range 7) [(0, 0), (1, 0), (2, 1), (4, 0), (5, 1), (3, 2), (6, 2)] kR kR qP fun hs K n0 hKm hKs hKn => ?_
 refine km_ hs ?_
 refine E4 hs rfl (qf_ 0 0) rfl ?_
 refine I2 hs rfl hKs ql_ ?_
 refine E4 hs rfl (qf_ 1 1) rfl ?_
 refine I2 hs rfl hKs ql_ ?_
 refine F7 _ _ rfl rfl (List.Perm.refl _) hKm fun w0 => (A9 (Mc := MW) (R := _) (aS rfl (aS rfl (a0))) kR qP (H3 wb va a _ MW _ hW (ha.mono qS) (by first | omega | (simp [P4, N8, N9, P5, P6, F2]; omega))) rfl ?_)
 rintro v7 M7 J7 ⟨rfl, hW7⟩ hKx7
 refine F7 M7 _ rfl rfl qP (fun x hx => hKx7 (hKn rfl) x (by simpa using hx)) fun w0 => (A9 (Mc := M7) (R := _) (aS rfl (aS rfl (a0))) kR qP (H3 wb vg g _ M7 _ hW7 (hg.mono qS) (by first | omega | (simp [P4, N8, N9, P5, P6, F2]; omega))) rfl ?_)
 rintro v10 M10 J10 ⟨rfl, hW10⟩ hKx10
 refine Z6 ?_
 exact ⟨_, M10, [], A2k rfl, Fit.none (Fit.last qP), rfl, hW10⟩
theorem A4q (wb : Nat) (h : He) (p r u : Value) (ws : LN) (MW A : Mem) (hW : Wtr wb ws MW) (gh : HeR A h p r u) (hil : h.ig.length ≤ 1000000) (hl : ws.length ≤ 40000000) : FnX Tryz.prog 79 [(vP wb), .agg (heC p r u h).toArray] MW A fun q M J => q = .tuple #[] ∧ Wtr wb (heW ws h) M := by
 haveI := gh.ia.cel
 haveI := gh.ig.cel
 haveI := gh.key.cel
 have hal := gh.ia.len
 have hig := gh.ig.by qO
 have hgl := hig.len
 have hkl := gh.key.len
 have hsl := gh.signed
 have hol := gh.once
 unfold heC
 refine FnX.enterZ (N := 26) Tryz.func79 rfl rfl rfl fun w_ => ?_
 refine A8 (D0 0 1) (A1 ?_)
 refine A4 rfl (bx_ fun b3 => ?_)
 refine A0 (D0 0 3) (A1 (mv_ ?_))
 refine A2 (qf_ 0 0) rfl ?_
 refine A2 (E6 (n := 2) (vs := [p, r]) rfl kR At.mem rfl (D4 [] [p, r] [u, (vU h.signed), .bool h.has, (vU h.once)])) rfl ?_
 refine A4 rfl (A9 (Mc := MW) (R := _) (aS rfl (aS rfl (a0))) kR qP (A79 wb p r h.ia h.ig ws MW _ hW (gh.ia.mono qS) (hig.mono qS) qO) rfl ?_)
 rintro v7 M7 J7 ⟨rfl, hW7⟩
 refine A0 (D0 0 3) ?_
 refine E5 (M7) (_) true (.range 11) [(0, 0), (1, 0), (2, 1), (4, 0), (5, 1), (6, 0), (8, 0), (9, 1), (3, 2), (7, 2), (10, 2)] kR kR qP fun hs K n0 hKm hKs hKn => ?_
 refine km_ hs ?_
 refine E4 hs rfl (qf_ 2 2) rfl ?_
 refine I2 hs rfl hKs ql_ ?_
 refine E4 hs rfl (qf_ 3 3) rfl ?_
 refine I2 hs rfl hKs ql_ ?_
 refine E4 hs rfl (H2 (k' := .u64) (h.signed) rfl kR (T3 qO)) rfl ?_
 refine E4 hs rfl (qf_ 4 4) rfl ?_
 refine I2 hs rfl hKs ql_ ?_
 refine F7 _ _ rfl rfl (List.Perm.refl _) hKm fun w0 => (A9 (Mc := M7) (R := _) (aS rfl (aS rfl (a0))) kR qP (H3 wb u h.key _ M7 _ hW7 (gh.key.mono qS) (by first | omega | (simp [P4, N8, N9, P5, P6, F2]; omega))) rfl ?_)
 rintro v11 M11 J11 ⟨rfl, hW11⟩ hKx11
 refine F7 M11 _ rfl rfl qP (fun x hx => hKx11 (hKn rfl) x (by simpa using hx)) fun w0 => (A9 (Mc := M11) (R := _) (aS rfl (aS rfl (aS rfl (a0)))) kR qP (I3 wb (h.signed) 4 _ M11 _ hW11 qO qD (by first | omega | (simp [P4, N8, N9, P5, P6, F2]; omega))) rfl ?_)
 rintro v15 M15 J15 ⟨rfl, hW15⟩ hKx15
 refine F7 M15 _ rfl rfl qP (fun x hx => hKx15 (hKn rfl) x (by simpa using hx)) fun w0 => (A9 (Mc := M15) (R := _) (aS rfl (aS rfl (a0))) kR qP (A6Q wb h.has _ M15 _ hW15 (by first | omega | (simp [P4, N8, N9, P5, P6, F2]; omega))) rfl ?_)
 rintro v18 M18 J18 ⟨rfl, hW18⟩ hKx18
 refine H7 (D0 0 3) ?_
 change Wtr wb (heF ws h) M18 at hW18
 have hfl := A6N ws h
 refine A1 ?_
 refine A2 (qf_ 4 4) rfl ?_
 refine A2 ql_ rfl ?_
 refine A0 (E7 0 3 20) ?_
 refine C4 rfl ?_ ?_ <;> intro hc
 ·
  have hh : h.has = true := hc
  refine D1 (mv_ ?_)
  refine A2 (qf_ 5 5) rfl ?_
  refine A2 ql_ rfl ?_
  refine A2 (H2 (k' := .u64) (h.once) rfl kR (T3 qO)) rfl ?_
  refine A4 rfl (A9 (Mc := M18) (R := _) (aS rfl (aS rfl (aS rfl (a0)))) kR qP (I3 wb h.once 4 _ M18 _ hW18 qO qD qO) rfl ?_)
  rintro v25 M25 J25 ⟨rfl, hW25⟩
  refine E3 ?_
  exact ⟨_, M25, [], A2k rfl, Fit.none (Fit.last qP), rfl, by unfold heW; rw [if_pos hh]; exact hW25⟩
 ·
  have hh : h.has = false := hc
  refine A5 ?_
  exact ⟨_, M18, [], A2k rfl, Fit.none (Fit.last qP), rfl, by unfold heW; rw [if_neg (by rw [hh]; decide)]; exact hW18⟩
theorem B0g (h : He) (p r u : Value) (A : Mem) (gh : HeR A h p r u) (hl : h.ia.length + h.ig.length + h.key.length ≤ 1000000) : FnX Tryz.prog 115 [.agg (heC p r u h).toArray] [] A fun q M J => M = [] ∧ By J q (heW [] h) := by
 haveI := gh.ia.cel
 haveI := gh.ig.cel
 haveI := gh.key.cel
 have hal := gh.ia.len
 have hig := gh.ig.by qO
 have hgl := hig.len
 have hkl := gh.key.len
 have hsl := gh.signed
 have hol := gh.once
 unfold heC
 refine FnX.enterZ (N := 11) Tryz.func115 rfl rfl rfl fun w_ => ?_
 refine A8 (C8 0) (A1 ?_)
 refine A4 rfl (bx_ fun b1 => ?_)
 refine as_ (A0 (C8 1) (A1 ?_))
 refine A2 (D2 (place := fun x => #[(0, 1)][x]?) (z := [vS]) (fun _ => by kernel_rfl) e0 bd0) rfl ?_
 refine A4 rfl (bx_ fun b5 => ?_)
 refine as_ (A0 (D0 1 3) (A1 (mv_ ?_)))
 refine A2 (E6 (n := 6) (vs := [p, r, u, (vU h.signed), .bool h.has, (vU h.once)]) rfl kR At.mem rfl (D4 [] [p, r, u, (vU h.signed), .bool h.has, (vU h.once)] [])) rfl ?_
 refine A4 rfl (A9 (Mc := [(b5, blk [vS] 97)]) (R := _) (aS rfl (aS rfl (a0))) kR qP (A4q b5 h p r u [] _ _ Wtr.new (gh.mono qS) qO qD) rfl ?_)
 rintro v8 M8 J8 ⟨rfl, hW8⟩
 have hwl := A6O [] h
 refine A0 (C8 3) (A1 (mv_ ?_))
 refine A4 rfl (A9 (Mc := M8) (R := _) (aS rfl a0) kR qP (P1 b5 _ M8 _ hW8 (by simp at hwl; omega)) rfl ?_)
 rintro v10 M10 J10 ⟨hW10, h10⟩
 haveI := h10.cel
 refine as_ (A0 (C8 2) (A6 ?_))
 exact ⟨_, [], [], F4 rfl rfl, qZ, rfl, h10.mono qS⟩
theorem A4r (wb : Nat) (x : Ev) (vs p r u vk vg : Value) (ws : LN) (MW A : Mem) (hW : Wtr wb ws MW) (hx : EvR A x vs p r u vk vg) (hl : ws.length ≤ 10000000) : FnX Tryz.prog 33 [(vP wb), .agg (evC vs p r u vk vg x).toArray] MW A fun q M J => q = .tuple #[] ∧ Wtr wb (frW ws x) M := by
 haveI := hx.ses.cel
 haveI := hx.he.ia.cel
 haveI := hx.he.ig.cel
 haveI := hx.he.key.cel
 haveI := hx.hk.cel
 haveI := hx.g.cel
 have hsl := hx.ses.len
 unfold evC
 refine FnX.enterZ (N := 25) Tryz.func33 rfl rfl rfl fun w_ => ?_
 refine A8 (D0 0 1) (A1 ?_)
 refine A4 rfl (bx_ fun b3 => ?_)
 refine A0 (D0 0 3) (A1 (mv_ ?_))
 refine A2 (qf_ 0 0) rfl ?_
 refine A2 (E6 (n := 2) (vs := [.int .i64 x.fu, .int .i64 x.fd]) rfl kR At.mem rfl (D4 [] [.int .i64 x.fu, .int .i64 x.fd] [.int .i64 x.tu, .int .i64 x.td, vs, .bool x.has, p, r, u, (vU x.he.signed), .bool x.he.has, (vU x.he.once), vk, (vU x.hp), (vU x.hn), vg])) rfl ?_
 refine A4 rfl (A9 (Mc := MW) (R := _) (aS rfl (aS rfl (a0))) kR qP (A83 wb x.fu x.fd ws MW _ hW qO) rfl ?_)
 rintro v7 M7 J7 ⟨rfl, hW7⟩
 refine A0 (D0 0 3) (A1 (mv_ ?_))
 refine A2 (qf_ 2 2) rfl ?_
 refine A2 (E6 (n := 2) (vs := [.int .i64 x.tu, .int .i64 x.td]) rfl kR At.mem rfl (D4 [.int .i64 x.fu, .int .i64 x.fd] [.int .i64 x.tu, .int .i64 x.td] [vs, .bool x.has, p, r, u, (vU x.he.signed), .bool x.he.has, (vU x.he.once), vk, (vU x.hp), (vU x.hn), vg])) rfl ?_
 refine A4 rfl (A9 (Mc := M7) (R := _) (aS rfl (aS rfl (a0))) kR qP (A83 wb x.tu x.td _ M7 _ hW7 (by simp [P5]; omega)) rfl ?_)
 rintro v11 M11 J11 ⟨rfl, hW11⟩
 refine A0 (D0 0 3) ?_
 refine E5 (M11) (_) true (.range 7) [(0, 0), (1, 0), (2, 1), (4, 0), (5, 1), (3, 2), (6, 2)] kR kR qP fun hs K n0 hKm hKs hKn => ?_
 refine km_ hs ?_
 refine E4 hs rfl (qf_ 4 4) rfl ?_
 refine I2 hs rfl hKs ql_ ?_
 refine E4 hs rfl (qf_ 5 5) rfl ?_
 refine I2 hs rfl hKs ql_ ?_
 refine F7 _ _ rfl rfl (List.Perm.refl _) hKm fun w0 => (A9 (Mc := M11) (R := _) (aS rfl (aS rfl (a0))) kR qP (H3 wb vs x.ses _ M11 _ hW11 (hx.ses.mono qS) (by first | omega | (simp [P4, N8, N9, P5, P6, F2]; omega))) rfl ?_)
 rintro v15 M15 J15 ⟨rfl, hW15⟩ hKx15
 refine F7 M15 _ rfl rfl qP (fun x hx => hKx15 (hKn rfl) x (by simpa using hx)) fun w0 => (A9 (Mc := M15) (R := _) (aS rfl (aS rfl (a0))) kR qP (A6Q wb x.has _ M15 _ hW15 (by first | omega | (simp [P4, N8, N9, P5, P6, F2]; omega))) rfl ?_)
 rintro v18 M18 J18 ⟨rfl, hW18⟩ hKx18
 refine H7 (D0 0 3) ?_
 change Wtr wb (frF ws x) M18 at hW18
 have hfl := A6P ws x
 refine A1 ?_
 refine A2 (qf_ 5 5) rfl ?_
 refine A2 ql_ rfl ?_
 refine A0 (E7 0 3 20) ?_
 refine C4 rfl ?_ ?_ <;> intro hc
 ·
  have hh : x.has = true := hc
  refine D1 (mv_ ?_)
  refine A2 (qf_ 6 6) rfl ?_
  refine A2 (E6 (n := 6) (vs := [p, r, u, (vU x.he.signed), .bool x.he.has, (vU x.he.once)]) rfl kR At.mem rfl (D4 [.int .i64 x.fu, .int .i64 x.fd, .int .i64 x.tu, .int .i64 x.td, vs, .bool x.has] [p, r, u, (vU x.he.signed), .bool x.he.has, (vU x.he.once)] [vk, (vU x.hp), (vU x.hn), vg])) rfl ?_
  refine A4 rfl (A9 (Mc := M18) (R := _) (aS rfl (aS rfl (a0))) kR qP (A4q wb x.he p r u _ M18 _ hW18 (hx.he.mono qS) hx.hil qO) rfl ?_)
  rintro v24 M24 J24 ⟨rfl, hW24⟩
  refine E3 ?_
  exact ⟨_, M24, [], A2k rfl, Fit.none (Fit.last qP), rfl, by unfold frW; rw [if_pos hh]; exact hW24⟩
 ·
  have hh : x.has = false := hc
  refine A5 ?_
  exact ⟨_, M18, [], A2k rfl, Fit.none (Fit.last qP), rfl, by unfold frW; rw [if_neg (by rw [hh]; decide)]; exact hW18⟩
theorem A3B (ws : LN) (x : Ev) : (frW ws x).length ≤ ws.length + x.ses.length + x.he.ia.length + x.he.ig.length + x.he.key.length + 42 := by
  have h1 := A6P ws x
  have h2 := A6O (frF ws x) x.he
  unfold frW
  split <;> omega
theorem B0h (x : Ev) (vs p r u vk vg : Value) (A : Mem) (hx : EvR A x vs p r u vk vg) (hl : x.ses.length + x.he.ia.length + x.he.ig.length + x.he.key.length ≤ 1000000) : FnX Tryz.prog 87 [.agg (evC vs p r u vk vg x).toArray] [] A fun q M J => M = [] ∧ By J q (frW [] x) := by
 haveI := hx.ses.cel
 haveI := hx.he.ia.cel
 haveI := hx.he.ig.cel
 haveI := hx.he.key.cel
 haveI := hx.hk.cel
 haveI := hx.g.cel
 have hsl := hx.ses.len
 unfold evC
 refine FnX.enterZ (N := 11) Tryz.func87 rfl rfl rfl fun w_ => ?_
 refine A8 (C8 0) (A1 ?_)
 refine A4 rfl (bx_ fun b1 => ?_)
 refine as_ (A0 (C8 1) (A1 ?_))
 refine A2 (D2 (place := fun x => #[(0, 1)][x]?) (z := [vS]) (fun _ => by kernel_rfl) e0 bd0) rfl ?_
 refine A4 rfl (bx_ fun b5 => ?_)
 refine as_ (A0 (D0 1 3) (A1 (mv_ ?_)))
 refine A2 (E6 (n := 16) (vs := [.int .i64 x.fu, .int .i64 x.fd, .int .i64 x.tu, .int .i64 x.td, vs, .bool x.has, p, r, u, (vU x.he.signed), .bool x.he.has, (vU x.he.once), vk, (vU x.hp), (vU x.hn), vg]) rfl kR At.mem rfl (D4 [] [.int .i64 x.fu, .int .i64 x.fd, .int .i64 x.tu, .int .i64 x.td, vs, .bool x.has, p, r, u, (vU x.he.signed), .bool x.he.has, (vU x.he.once), vk, (vU x.hp), (vU x.hn), vg] [])) rfl ?_
 refine A4 rfl (A9 (Mc := [(b5, blk [vS] 97)]) (R := _) (aS rfl (aS rfl (a0))) kR qP (A4r b5 x vs p r u vk vg [] _ _ Wtr.new (hx.mono qS) qD) rfl ?_)
 rintro v8 M8 J8 ⟨rfl, hW8⟩
 have hwl := A3B [] x
 refine A0 (C8 3) (A1 (mv_ ?_))
 refine A4 rfl (A9 (Mc := M8) (R := _) (aS rfl a0) kR qP (P1 b5 _ M8 _ hW8 (by simp at hwl; omega)) rfl ?_)
 rintro v10 M10 J10 ⟨hW10, h10⟩
 haveI := h10.cel
 refine as_ (A0 (C8 2) (A6 ?_))
 exact ⟨_, [], [], F4 rfl rfl, qZ, rfl, h10.mono qS⟩

theorem A6R {R : Mem} {v : Value} {w : LN} (h : By R v w) {k : Nat} (hk : k ≤ w.length) : By R (vHi k v) (w.take k) := ⟨by
  have h1 := h.rd.hiV k hk
  rw [Nat.mul_one, ← A2t] at h1
  rw [List.length_take, Nat.min_eq_left hk]
  exact h1, fun x hx => h.lt x (List.mem_of_mem_take hx), by rw [List.length_take]; have := h.len; omega⟩
theorem A84 {R : Mem} {v : Value} {w : LN} (h : By R v w) {k : Nat} (hk : k ≤ w.length) : By R (vLo k 1 v) (w.drop k) := ⟨by
  have h1 := h.rd.loV k hk
  rw [Nat.mul_one, ← A0R] at h1
  rw [List.length_drop]
  exact h1, fun x hx => h.lt x (List.mem_of_mem_drop hx), by rw [List.length_drop]; have := h.len; omega⟩
abbrev Rst := LN × Bool
structure Rdr (rb : Nat) (st : Rst) (R M : Mem) : Prop where
  ex : ∃ (v : Value), M = [(rb, blk [v, .bool st.2] 154)] ∧ By R v st.1
def rnN (st : Rst) (k : Nat) : Nat := if st.2 || decide (st.1.length < k) then 0 else bev (st.1.take k)
def rnS (st : Rst) (k : Nat) : Rst := if st.2 || decide (st.1.length < k) then (st.1, true) else (st.1.drop k, false)
theorem A4s {st : Rst} {k : Nat} (h : st.2 = true ∨ st.1.length < k) : rnN st k = 0 ∧ rnS st k = (st.1, true) := by
  have e : (st.2 || decide (st.1.length < k)) = true := by
    rcases h with h | h
    · rw [h]; rfl
    · rw [decide_eq_true h, Bool.or_true]
  unfold rnN rnS
  rw [if_pos e, if_pos e]; exact ⟨rfl, rfl⟩
theorem B3z {st : Rst} {k : Nat} (h : st.2 = false) (hl : k ≤ st.1.length) : rnN st k = bev (st.1.take k) ∧ rnS st k = (st.1.drop k, false) := by
  have e : ¬ (st.2 || decide (st.1.length < k)) = true := by rw [h, decide_eq_false qO]; decide
  unfold rnN rnS
  rw [if_neg e, if_neg e]; exact ⟨rfl, rfl⟩
theorem A4t (st : Rst) (k : Nat) (h : ∀ x ∈ st.1, x < 256) : rnN st k < 256 ^ k := by
  unfold rnN
  split
  · exact Nat.pow_pos qD
  · have h1 := A82 (ws := st.1.take k) fun x hx => h x (List.mem_of_mem_take hx)
    exact Nat.lt_of_lt_of_le h1 (Nat.pow_le_pow_right qD (List.length_take_le _ _))
def rbN (st : Rst) (most : Nat) : LN :=
  if (rnS st 4).2 || decide (rnN st 4 > most) || decide (rnN st 4 > (rnS st 4).1.length) then [] else (rnS st 4).1.take (rnN st 4)
def rbS (st : Rst) (most : Nat) : Rst :=
  if (rnS st 4).2 || decide (rnN st 4 > most) || decide (rnN st 4 > (rnS st 4).1.length) then ((rnS st 4).1, true) else ((rnS st 4).1.drop (rnN st 4), false)
theorem B1U {st : Rst} {most : Nat} (h : (rnS st 4).2 = true ∨ rnN st 4 > most ∨ rnN st 4 > (rnS st 4).1.length) : rbN st most = [] ∧ rbS st most = ((rnS st 4).1, true) := by
  have e : ((rnS st 4).2 || decide (rnN st 4 > most) || decide (rnN st 4 > (rnS st 4).1.length)) = true := by
    rcases h with h | h | h
    · rw [h]; rfl
    · rw [decide_eq_true h]; simp
    · rw [decide_eq_true h]; simp
  unfold rbN rbS
  rw [if_pos e, if_pos e]; exact ⟨rfl, rfl⟩
theorem B3A {st : Rst} {most : Nat} (h : (rnS st 4).2 = false) (h2 : rnN st 4 ≤ most) (h3 : rnN st 4 ≤ (rnS st 4).1.length) : rbN st most = (rnS st 4).1.take (rnN st 4) ∧ rbS st most = ((rnS st 4).1.drop (rnN st 4), false) := by
  have e : ¬ ((rnS st 4).2 || decide (rnN st 4 > most) || decide (rnN st 4 > (rnS st 4).1.length)) = true := by
    rw [h, decide_eq_false qO, decide_eq_false qO]; decide
  unfold rbN rbS
  rw [if_neg e, if_neg e]; exact ⟨rfl, rfl⟩
theorem B0i {n b : Nat} (hb : b < 256) (hn : n * 256 < 18446744073709551616) : (n * 256 % 18446744073709551616 ||| b) = n * 256 + b := by
  rw [Nat.mod_eq_of_lt hn, Nat.mul_comm]
  exact (Nat.two_pow_add_eq_or_of_lt (i := 8) hb n).symm
def A4u (st : Rst) : Bool := !st.2 && decide (st.1.length = 0)
theorem B0j (n : Nat) : I8 .eql .i64 (n : Int) 0 = some (.bool (decide (n = 0))) := by
  by_cases h : n = 0
  · rw [decide_eq_true h]; exact eqT qO
  · rw [decide_eq_false h]; exact eqF qO
theorem A8a {ws : LN} {j : Nat} (h : j < ws.length) : bev (ws.take (j + 1)) = bev (ws.take j) * 256 + ws.getD j 0 := by
  rw [List.take_add_one, List.getElem?_eq_getElem h, List.getD_eq_getElem?_getD, List.getElem?_eq_getElem h]
  exact A7W _ _
theorem A1K (p : Value) (w : LN) (R A : Mem) (hp : By R p w) : FnX Tryz.prog 37 [p] [] A fun q M J => ∃ rb, q = (vP rb) ∧ Rdr rb (w, false) R M := by
 haveI := hp.cel
 refine FnX.enterZ (N := 6) Tryz.func37 rfl rfl rfl fun w_ => ?_
 refine A8 (C8 0) (A1 (as_ (A0 (C8 0) (A1 (mv_ ?_)))))
 refine A2 (D2 (place := fun x => #[(0, 1), (1, 1)][x]?) (z := [vS, .bool false]) (fun _ => by kernel_rfl) (eS rfl e0) (bdS 0 1 rfl qR bd0)) rfl ?_
 refine A4 rfl (bx_ fun b5 => ?_)
 refine as_ (A0 (C8 2) (A6 ?_))
 exact ⟨_, [(b5, _)], [], F4 rfl rfl, Fit.none (Fit.last qP), b5, rfl, ⟨p, rfl, hp⟩⟩
theorem R3 (rb : Nat) (st : Rst) (R M A : Mem) (hR : Rdr rb st R M) : FnX Tryz.prog 80 [(vP rb)] M A fun q M J => Rdr rb (st.1, true) R M := by
 obtain ⟨v, rfl, hby⟩ := hR.ex
 haveI := hby.cel
 have hbl := hby.len
 refine FnX.enterZ (N := 7) Tryz.func80 rfl rfl rfl fun w_ => ?_
 refine A8 (C8 0) (A1 (mv_ ?_))
 refine A2 (A0n (e := 154) rfl rfl kR) rfl ?_
 refine A0 (D0 0 3) ?_
 refine G3 rfl ?_
 refine D1 (mv_ ?_)
 refine A2 (D5 rfl) rfl ?_
 refine A2 (qf_ 1 1) rfl ?_
 refine A4 rfl (F3 rfl rfl rfl kR SetC.set UpC.upd ?_)
 refine E3 ?_
 exact ⟨_, _, [], A2k rfl, Fit.none (Fit.last qP), ⟨v, rfl, hby⟩⟩
theorem K5 (rb k : Nat) (st : Rst) (R M A : Mem) (hR : Rdr rb st R M) (hs : ∀ x, x ∈ R → x ∈ A) (hk : k ≤ 8) : FnX Tryz.prog 42 [(vP rb), (vI k)] M A fun q M J => q = .int .u64 ((rnN st k : Nat) : Int) ∧ Rdr rb (rnS st k) R M := by
 obtain ⟨v, rfl, hby⟩ := hR.ex
 haveI := hby.cel
 have hbl := hby.len
 refine FnX.enterZ (N := 62) Tryz.func42 rfl rfl rfl fun w_ => ?_
 refine A8 (D0 0 1) (A1 (as_ (A0 (D0 0 1) (A7 (A1 (mv_ ?_))))))
 refine A2 (C9 (e := 154) rfl rfl kR) rfl ?_
 refine mv_ ?_
 refine B0 rfl rfl (OpQ.opL qm_ rfl ?_)
 refine B0 rfl rfl (OpQ.opL (D5 rfl) rfl ?_)
 refine B0 rfl rfl (OpQ.opL (qf_ 1 1) rfl ?_)
 refine B0 rfl rfl (OpQ.opL ql_ rfl ?_)
 refine A2 (C7 rfl rfl) rfl ?_
 refine mv_ ?_
 refine H1 (t := 16) rfl (fun hb => ?_) (fun hb => ?_)
 ·
  have hbd : st.2 = true := hb
  refine C5 rfl rfl rfl rfl ?_
  refine C5 rfl rfl rfl rfl ?_
  refine A2 (D8 rfl rfl) rfl ?_
  refine mv_ ?_
  refine C5 rfl rfl rfl rfl ?_
  refine C5 rfl rfl rfl rfl ?_
  refine A2 (D8 rfl rfl) rfl ?_
  refine mv_ ?_
  refine C5 rfl rfl rfl rfl ?_
  refine C5 rfl rfl rfl rfl ?_
  refine C5 rfl rfl rfl rfl ?_
  refine C5 rfl rfl rfl rfl ?_
  refine C5 rfl rfl rfl rfl ?_
  refine C5 rfl rfl rfl rfl ?_
  refine C5 rfl rfl rfl rfl ?_
  refine A2 (D8 rfl rfl) rfl ?_
  refine A0 (E7 0 1 32) ?_
  refine G3 rfl ?_
  refine A1 (mv_ ?_)
  refine A4 rfl (A9 (Mc := [(rb, blk [v, .bool st.2] 154)]) (R := _) (aS rfl a0) kR qP (R3 rb (st.1, st.2) R _ _ ⟨v, rfl, hby⟩) rfl ?_)
  rintro v34 M34 J34 hR34
  refine A0 kn (A1 (as_ (A0 (C8 4) (A6 (tr ?_)))))
  exact ⟨_, M34, [], F4 rfl rfl, Fit.none (Fit.last qP), by rw [(A4s (.inl hbd)).1]; rfl, by rw [(A4s (.inl hbd)).2]; exact hR34⟩
 ·
  have hbd : st.2 = false := hb
  refine B0 rfl rfl (OpQ.opL qm_ rfl ?_)
  refine B0 rfl rfl (OpQ.opL (F6 false rfl rfl (ltF qO)) rfl ?_)
  refine A2 (C7 rfl rfl) rfl ?_
  refine mv_ ?_
  refine B0 rfl rfl (OpQ.opL qm_ rfl ?_)
  refine B0 rfl rfl (OpQ.opL (F6 false rfl rfl (gtF qO)) rfl ?_)
  refine A2 (C7 rfl rfl) rfl ?_
  refine mv_ ?_
  refine B0 rfl rfl (OpQ.opL qm_ rfl ?_)
  refine B0 rfl rfl (OpQ.opL (D5 rfl) rfl ?_)
  refine B0 rfl rfl (OpQ.opL (qf_ 0 0) rfl ?_)
  refine B0 rfl rfl (OpQ.opL ql_ rfl ?_)
  refine B0 rfl rfl (OpQ.opL (E1 (sz := 1) rfl kR hby.rd) rfl ?_)
  refine B0 rfl rfl (OpQ.opL qm_ rfl ?_)
  refine B0 rfl rfl (OpQ.opL (F1 rfl rfl rfl) rfl ?_)
  refine A2 (C7 rfl rfl) rfl ?_
  refine A0 (E7 0 1 32) ?_
  refine C4 rfl ?_ ?_ <;> intro hc
  ·
   have hsh : st.1.length < k := by simp at hc; omega
   refine A1 (mv_ ?_)
   refine A4 rfl (A9 (Mc := [(rb, blk [v, .bool st.2] 154)]) (R := _) (aS rfl a0) kR qP (R3 rb (st.1, st.2) R _ _ ⟨v, rfl, hby⟩) rfl ?_)
   rintro v34 M34 J34 hR34
   refine A0 kn (A1 (as_ (A0 (C8 4) (A6 (tr ?_)))))
   exact ⟨_, M34, [], F4 rfl rfl, Fit.none (Fit.last qP), by rw [(A4s (.inr hsh)).1]; rfl, by rw [(A4s (.inr hsh)).2]; exact hR34⟩
  ·
   have hsh : k ≤ st.1.length := by simp at hc; omega
   obtain ⟨hr1, hr2⟩ := B3z hbd hsh
   have hby2 := A6R hby hsh
   haveI := hby2.cel
   have hl2 : (st.1.take k).length = k := by rw [List.length_take]; omega
   refine A5 (nx (D0 0 1) (A1 (as_ (A0 (E7 0 1 5) (A7 (A1 (mv_ ?_)))))))
   refine A2 (D5 rfl) rfl ?_
   refine A2 (qf_ 0 0) rfl ?_
   refine A2 ql_ rfl ?_
   refine mv_ ?_
   refine A2 (A2v (sz := 1) (a := k) rfl rfl kR rfl hby.rd hsh) rfl ?_
   refine A2 (E1 (sz := 1) rfl kR hby2.rd) rfl ?_
   refine mv_ (A0 (L1 0 1 5 40 41 42) (C6 ?_))
   rw [hl2]
   refine H0 (α := Nat) (fun x => [(0, (vP rb)), (1, (vI k)), (5, .int .u64 ((bev ((st.1.take k).take x) : Nat) : Int)), (40, vHi k v), (41, (vI k)), (42, (vI x))]) (fun _ => [(rb, blk [v, .bool st.2] 154)]) (fun _ => []) (fun x => x ≤ k) (fun x => k - x) 0 (Nat.zero_le _) (L1 0 1 5 40 41 42) .rfl qI ?_
   rintro j hj
   refine A1 ?_
   refine A2 (F1 rfl rfl rfl) rfl ?_
   refine A0 (V0 0 1 5 40 41 42 43) (A7 ?_)
   refine C4 rfl ?_ ?_ <;> intro hc
   ·
    have hlt : j < k := by simp at hc; omega
    have hbt := A8a (ws := st.1.take k) (j := j) qO
    have hb0 : (st.1.take k).getD j 0 < 256 := by rw [List.getD_eq_getElem?_getD, List.getElem?_eq_getElem qO]; exact hby2.lt _ (List.getElem_mem _)
    have hbv := A82 (ws := (st.1.take k).take j) fun x hx => hby2.lt x (List.mem_of_mem_take hx)
    rw [List.length_take, Nat.min_eq_left qO] at hbv
    replace hbv := Nat.lt_of_lt_of_le hbv (Nat.pow_le_pow_right qD (show j ≤ 7 by omega))
    rw [show 256 ^ 7 = 72057594037927936 from rfl] at hbv
    generalize bev ((st.1.take k).take j) = n at *
    generalize hbb : (st.1.take k).getD j 0 = b at *
    refine A5 (nx (L1 0 1 5 40 41 42) (A7 (C6 (A1 ?_))))
    refine A2 (E9 (sz := 1) rfl rfl kR rfl hby2.rd qO) rfl ?_
    refine A2 (N4 (j := j) (u := .int .u8 ((b : Nat) : Int)) (hby2.rd.mono fun x hx => qS _ (hs x hx)) rfl kR (by rw [← hbb]; unfold H6; rw [List.getElem?_map, List.getElem?_eq_getElem qO, List.getD_eq_getElem?_getD, List.getElem?_eq_getElem qO]; rfl)) rfl ?_
    refine as_ (A0 (V0 0 1 5 7 40 41 42) (D1 (mv_ ?_)))
    refine A2 (B1f 8 256 18446744073709551616 rfl rfl rfl rfl rfl rfl qD) rfl ?_
    refine mv_ ?_
    refine A2 (A2u rfl kR) rfl ?_
    rw [Nat.mod_eq_of_lt (show b < 18446744073709551616 by omega)]
    refine A2 (q_or rfl rfl rfl (by show _ < 18446744073709551616; exact Nat.mod_lt _ qD) (by show _ < 18446744073709551616; omega)) rfl ?_
    rw [B0i hb0 qO, ← hbt]
    refine as_ (E3 (nb (nx (L1 0 1 5 40 41 42) (D1 ?_))))
    refine A2 (G8 (b := 1) rfl rfl rfl rfl qO) rfl ?_
    refine mv_ (E3 ?_)
    exact rn (j + 1) qO qO (L1 0 1 5 40 41 42) .rfl qI
   ·
    have hge : k = j := by simp at hc; omega
    subst hge
    rw [List.take_take, Nat.min_self]
    refine G6 (te (re (be rfl (nx (E7 0 1 5) (A1 (mv_ (mv_ ?_)))))))
    refine A2 (D5 rfl) rfl ?_
    refine A2 (qf_ 0 0) rfl ?_
    refine A2 ql_ rfl ?_
    refine mv_ ?_
    refine A2 (A3V (sz := 1) (a := k) rfl rfl kR rfl hby.rd hsh) rfl ?_
    have hby3 := A84 hby hsh
    haveI := hby3.cel
    have hy1 := hby3.one
    refine A2 (D5 rfl) rfl ?_
    refine A2 (qf_ 0 0) rfl ?_
    refine A4 rfl (F3 rfl rfl hy1 kR SetC.set UpC.upd ?_)
    refine A0 (C8 5) (A1 (mv_ (as_ (A0 (C8 4) (A6 ?_)))))
    exact ⟨_, [(rb, blk [vLo k 1 v, .bool st.2] 154)], [], F4 rfl rfl, Fit.none (Fit.last qP), by rw [hr1], by rw [hr2]; exact ⟨_, by rw [hbd], hby3⟩⟩
theorem K2 (rb most : Nat) (st : Rst) (R M A : Mem) (hR : Rdr rb st R M) (hs : ∀ x, x ∈ R → x ∈ A) (hm : most ≤ 1000000) : FnX Tryz.prog 39 [(vP rb), (vI most)] M A fun q M J => By J q (rbN st most) ∧ Rdr rb (rbS st most) R M := by
  obtain ⟨v, rfl, hby⟩ := hR.ex
  haveI := hby.cel
  have hbl := hby.len
  refine FnX.enterZ (N := 56) Tryz.func39 rfl rfl rfl fun w_ => ?_
  refine A8 (D0 0 1) (A1 (as_ (A0 (D0 0 1) (A1 (mv_ ?_)))))
  refine A4 rfl (A9 (Mc := [(rb, blk [v, .bool st.2] 154)]) (R := _) (aS rfl (aS rfl a0)) kR qP (K5 rb 4 st R _ _ ⟨v, rfl, hby⟩ (fun x hx => qS _ (hs x hx)) qD) rfl ?_)
  rintro v8 M8 J8 ⟨rfl, hR8⟩
  have hn8 := A4t st 4 hby.lt
  rw [show 256 ^ 4 = 4294967296 from rfl] at hn8
  have hb8 := @B1U st most
  have hk8 := @B3A st most
  unfold Rst at *
  generalize rnN st 4 = n at *
  generalize rnS st 4 = s1 at *
  obtain ⟨w, rfl, hbw⟩ := hR8.ex
  haveI := hbw.cel
  have hwl := hbw.len
  refine as_ (A0 (E7 0 1 5) (A7 (A1 (mv_ ?_))))
  refine A2 (C9 (e := 154) rfl rfl kR) rfl ?_
  refine mv_ ?_
  refine B0 rfl rfl (OpQ.opL qm_ rfl ?_)
  refine B0 rfl rfl (OpQ.opL (D5 rfl) rfl ?_)
  refine B0 rfl rfl (OpQ.opL (qf_ 1 1) rfl ?_)
  refine B0 rfl rfl (OpQ.opL ql_ rfl ?_)
  refine A2 (C7 rfl rfl) rfl ?_
  refine mv_ ?_
  refine H1 (t := 17) rfl (fun hb => ?_) (fun hb => ?_)
  ·
    have hbd : s1.2 = true := hb
    refine C5 rfl rfl rfl rfl ?_
    refine C5 rfl rfl rfl rfl ?_
    refine A2 (D8 rfl rfl) rfl ?_
    refine mv_ ?_
    refine C5 rfl rfl rfl rfl ?_
    refine C5 rfl rfl rfl rfl ?_
    refine C5 rfl rfl rfl rfl ?_
    refine C5 rfl rfl rfl rfl ?_
    refine A2 (D8 rfl rfl) rfl ?_
    refine mv_ ?_
    refine C5 rfl rfl rfl rfl ?_
    refine C5 rfl rfl rfl rfl ?_
    refine C5 rfl rfl rfl rfl ?_
    refine C5 rfl rfl rfl rfl ?_
    refine C5 rfl rfl rfl rfl ?_
    refine C5 rfl rfl rfl rfl ?_
    refine C5 rfl rfl rfl rfl ?_
    refine C5 rfl rfl rfl rfl ?_
    refine A2 (D8 rfl rfl) rfl ?_
    refine A0 (E7 0 5 36) ?_
    refine G3 rfl ?_
    refine A1 (mv_ ?_)
    refine A4 rfl (A9 (Mc := [(rb, blk [w, .bool s1.2] 154)]) (R := _) (aS rfl a0) kR qP (R3 rb s1 R _ _ ⟨w, rfl, hbw⟩) rfl ?_)
    rintro v38 M38 J38 hR38
    refine A0 kn (A1 (as_ (A0 (C8 4) (A6 (tr ?_)))))
    exact ⟨_, M38, [], F4 rfl rfl, Fit.none (Fit.last qP), by rw [(hb8 (.inl hbd)).1]; exact By.nil, by rw [(hb8 (.inl hbd)).2]; exact hR38⟩
  ·
    have hbd : s1.2 = false := hb
    refine B0 rfl rfl (OpQ.opL qm_ rfl ?_)
    refine B0 rfl rfl (OpQ.opL (F6 false rfl rfl (ltF qO)) rfl ?_)
    refine A2 (C7 rfl rfl) rfl ?_
    refine mv_ ?_
    refine B0 rfl rfl (OpQ.opL qm_ rfl ?_)
    refine B0 rfl rfl (OpQ.opL qm_ rfl ?_)
    refine B0 rfl rfl (OpQ.opL (A2u rfl kR) rfl ?_)
    rw [Nat.mod_eq_of_lt (show most < 18446744073709551616 by omega)]
    refine B0 rfl rfl (OpQ.opL (F1 rfl rfl rfl) rfl ?_)
    refine A2 (C7 rfl rfl) rfl ?_
    refine mv_ ?_
    refine H1 (t := 27) rfl (fun hb => ?_) (fun hb => ?_)
    ·
      have hgm : n > most := by simp at hb; omega
      refine C5 rfl rfl rfl rfl ?_
      refine C5 rfl rfl rfl rfl ?_
      refine C5 rfl rfl rfl rfl ?_
      refine C5 rfl rfl rfl rfl ?_
      refine C5 rfl rfl rfl rfl ?_
      refine C5 rfl rfl rfl rfl ?_
      refine C5 rfl rfl rfl rfl ?_
      refine C5 rfl rfl rfl rfl ?_
      refine A2 (D8 rfl rfl) rfl ?_
      refine A0 (E7 0 5 36) ?_
      refine G3 rfl ?_
      refine A1 (mv_ ?_)
      refine A4 rfl (A9 (Mc := [(rb, blk [w, .bool s1.2] 154)]) (R := _) (aS rfl a0) kR qP (R3 rb s1 R _ _ ⟨w, rfl, hbw⟩) rfl ?_)
      rintro v38 M38 J38 hR38
      refine A0 kn (A1 (as_ (A0 (C8 4) (A6 (tr ?_)))))
      exact ⟨_, M38, [], F4 rfl rfl, Fit.none (Fit.last qP), by rw [(hb8 (.inr (.inl hgm))).1]; exact By.nil, by rw [(hb8 (.inr (.inl hgm))).2]; exact hR38⟩
    ·
      have hgm : n ≤ most := by simp at hb; omega
      refine B0 rfl rfl (OpQ.opL qm_ rfl ?_)
      refine B0 rfl rfl (OpQ.opL qm_ rfl ?_)
      refine B0 rfl rfl (OpQ.opL (D5 rfl) rfl ?_)
      refine B0 rfl rfl (OpQ.opL (qf_ 0 0) rfl ?_)
      refine B0 rfl rfl (OpQ.opL ql_ rfl ?_)
      refine B0 rfl rfl (OpQ.opL (E1 (sz := 1) rfl kR hbw.rd) rfl ?_)
      refine B0 rfl rfl (OpQ.opL (A2u rfl kR) rfl ?_)
      rw [Nat.mod_eq_of_lt (show s1.1.length < 18446744073709551616 by omega)]
      refine B0 rfl rfl (OpQ.opL (F1 rfl rfl rfl) rfl ?_)
      refine A2 (C7 rfl rfl) rfl ?_
      refine A0 (E7 0 5 36) ?_
      refine C4 rfl ?_ ?_ <;> intro hc
      ·
        have hgl : n > s1.1.length := by simp at hc; omega
        refine A1 (mv_ ?_)
        refine A4 rfl (A9 (Mc := [(rb, blk [w, .bool s1.2] 154)]) (R := _) (aS rfl a0) kR qP (R3 rb s1 R _ _ ⟨w, rfl, hbw⟩) rfl ?_)
        rintro v38 M38 J38 hR38
        refine A0 kn (A1 (as_ (A0 (C8 4) (A6 (tr ?_)))))
        exact ⟨_, M38, [], F4 rfl rfl, Fit.none (Fit.last qP), by rw [(hb8 (.inr (.inr hgl))).1]; exact By.nil, by rw [(hb8 (.inr (.inr hgl))).2]; exact hR38⟩
      ·
        have hgl : n ≤ s1.1.length := by simp at hc; omega
        obtain ⟨hr1, hr2⟩ := hk8 hbd hgm hgl
        have hby2 := A6R hbw hgl
        haveI := hby2.cel
        have hby3 := A84 hbw hgl
        haveI := hby3.cel
        have hy1 := hby3.one
        have hl2 : (s1.1.take n).length = n := by rw [List.length_take]; omega
        refine A5 (nx (D0 0 5) (A1 (mv_ ?_)))
        refine A2 (D5 rfl) rfl ?_
        refine A2 (qf_ 0 0) rfl ?_
        refine A2 ql_ rfl ?_
        refine mv_ ?_
        refine A2 (A2v (sz := 1) (a := n) rfl rfl kR rfl hbw.rd hgl) rfl ?_
        refine A4 rfl (G1 (e := 5) (sz := 1) (by_ := 1) rfl rfl kR rfl Sl.nil (hby2.rd.mono fun x hx => qS _ (hs x hx)) S8 qP (by unfold maxLen; omega) qO rfl fun v45 B45 hs45 => ?_)
        haveI := hs45.cel
        refine as_ (A0 (E7 0 5 6) (A1 (mv_ (mv_ ?_))))
        refine A2 (D5 rfl) rfl ?_
        refine A2 (qf_ 0 0) rfl ?_
        refine A2 ql_ rfl ?_
        refine mv_ ?_
        refine A2 (A3V (sz := 1) (a := n) rfl rfl kR rfl hbw.rd hgl) rfl ?_
        refine A2 (D5 rfl) rfl ?_
        refine A2 (qf_ 0 0) rfl ?_
        refine A4 rfl (F3 rfl rfl hy1 kR SetC.set UpC.upd ?_)
        refine A0 (C8 6) (A1 (mv_ (as_ (A0 (C8 4) (A6 ?_)))))
        refine ⟨_, [(rb, blk [vLo n 1 w, .bool s1.2] 154)], B45, F4 rfl rfl, Fit.pick qP (Fit.last qP), ?_, ?_⟩
        · rw [hr1]
          exact ⟨by simpa using hs45.rd (R := B45 ++ J8) qS, hby2.lt, hby2.len⟩
        · rw [hr2]
          exact ⟨_, by rw [hbd], hby3⟩
theorem Rdr.rd {rb : Nat} {st : Rst} {R M A : Mem} (h : Rdr rb st R M) (hs : ∀ x, x ∈ M → x ∈ A) : ∃ v, (rb, blk [v, .bool st.2] 154) ∈ A ∧ By R v st.1 := by
  obtain ⟨v, rfl, h2⟩ := h.ex
  exact ⟨v, hs _ qM, h2⟩
theorem A6S (rb : Nat) (st : Rst) (R A : Mem) (hR : ∃ v, (rb, blk [v, .bool st.2] 154) ∈ A ∧ By R v st.1) : FnV Tryz.prog 82 [(vP rb)] A (.bool st.2) := by
 obtain ⟨v, hrb, hby⟩ := hR
 haveI := hby.cel
 refine FnX.enter (N := 11) Tryz.func82 rfl rfl rfl fun w => ?_
 refine A8 (C8 0) (A1 (as_ (A0 (C8 0) (A1 (mv_ ?_)))))
 refine A2 (C9 (e := 154) rfl rfl kR) rfl ?_
 refine mv_ ?_
 refine B0 rfl rfl (OpQ.opL qm_ rfl ?_)
 refine B0 rfl rfl (OpQ.opL (D5 rfl) rfl ?_)
 refine B0 rfl rfl (OpQ.opL (qf_ 1 1) rfl ?_)
 refine B0 rfl rfl (OpQ.opL (G7 rfl kR (mA hrb) qR) rfl ?_)
 refine A2 (C7 rfl rfl) rfl ?_
 refine as_ (A0 (C8 2) (A6 ?_))
 exact ⟨_, [], [], F4 rfl rfl, List.nil_sublist _, by simp, rfl, rfl, rfl⟩
theorem A1h (rb : Nat) (st : Rst) (R A : Mem) (hR : ∃ v, (rb, blk [v, .bool st.2] 154) ∈ A ∧ By R v st.1) : FnV Tryz.prog 43 [(vP rb)] A (.bool (A4u st)) := by
 obtain ⟨v, hrb, hby⟩ := hR
 haveI := hby.cel
 refine FnX.enter (N := 14) Tryz.func43 rfl rfl rfl fun w => ?_
 refine A8 (C8 0) (A1 (as_ (A0 (C8 0) (A1 (mv_ ?_)))))
 refine E2 (aS rfl a0) kR (A6S rb st R _ ⟨v, qS _ hrb, hby⟩) rfl ?_
 refine A2 (T2 rfl) rfl ?_
 refine mv_ ?_
 refine H1 (t := 6) rfl (fun hb => ?_) (fun hb => ?_)
 ·
  have hb1 := hb
  refine B0 rfl rfl (OpQ.opL qm_ rfl ?_)
  refine B0 rfl rfl (OpQ.opL (D5 rfl) rfl ?_)
  refine B0 rfl rfl (OpQ.opL (qf_ 0 0) rfl ?_)
  refine B0 rfl rfl (OpQ.opL (G7 rfl kR (mA hrb) qR) rfl ?_)
  refine B0 rfl rfl (OpQ.opL (E1 (sz := 1) rfl kR hby.rd) rfl ?_)
  refine B0 rfl rfl (OpQ.opL (F6 (decide (st.1.length = 0)) rfl rfl (B0j _)) rfl ?_)
  refine A2 (D8 rfl rfl) rfl ?_
  refine as_ (A0 (C8 2) (A6 ?_))
  exact ⟨_, [], [], F4 rfl rfl, List.nil_sublist _, by simp, by unfold A4u; rw [hb1]; rfl, rfl, rfl⟩
 ·
  have hb1 := hb
  refine C5 rfl rfl rfl rfl ?_
  refine C5 rfl rfl rfl rfl ?_
  refine C5 rfl rfl rfl rfl ?_
  refine C5 rfl rfl rfl rfl ?_
  refine C5 rfl rfl rfl rfl ?_
  refine C5 rfl rfl rfl rfl ?_
  refine A2 (C7 rfl rfl) rfl ?_
  refine as_ (A0 (C8 2) (A6 ?_))
  exact ⟨_, [], [], F4 rfl rfl, List.nil_sublist _, by simp, by unfold A4u; rw [hb1]; rfl, rfl, rfl⟩

def ctN (st : Rst) (most : Nat) : Nat := if rnN st 2 > most then 0 else rnN st 2
def ctS (st : Rst) (most : Nat) : Rst := if rnN st 2 > most then ((rnS st 2).1, true) else rnS st 2
def B3B (to : Int) (n : Nat) (w : LN) : LN := beN (u32N to) 4 ++ beN n 4 ++ (beN w.length 4 ++ w)
def di1 (p : LN) : Rst := rnS (p, false) 4
def di2 (p : LN) : Rst := rnS (di1 p) 4
def diT (p : LN) : LN := rbN (di2 p) 65536
def di3 (p : LN) : Rst := rbS (di2 p) 65536
def diA (p : LN) : Nat := rnN (p, false) 4
def diN (p : LN) : Nat := rnN (di1 p) 4
def diE (p : LN) : Nat := if !A4u (di3 p) then 4 else if (diT p).length > 256 then 5 else 0
theorem A3C (to : Int) (n : Nat) (v : Value) (w : LN) (A : Mem) (hn : n < 4294967296) (hv : By A v w) (hw : w.length ≤ 1000000) : FnX Tryz.prog 31 [.agg #[.int .i64 to, (vU n), v]] [] A fun q M J => M = [] ∧ By J q (B3B to n w) := by
 haveI := hv.cel
 refine FnX.enterZ (N := 20) Tryz.func31 rfl rfl rfl fun w_ => ?_
 refine A8 (C8 0) (A1 ?_)
 refine A4 rfl (bx_ fun b1 => ?_)
 refine as_ (A0 (C8 1) (A1 ?_))
 refine A2 (D2 (place := fun x => #[(0, 1)][x]?) (z := [vS]) (fun _ => by kernel_rfl) e0 bd0) rfl ?_
 refine A4 rfl (bx_ fun b5 => ?_)
 refine as_ (A0 (D0 1 3) ?_)
 refine E5 ([(b5, blk [vS] 97)]) (_) true [0, 1, 2, 3, 4, 5, 6, 7, 8, 9, 10, 11, 14] [(0, 0), (1, 0), (2, 1), (3, 0), (4, 0), (6, 0), (7, 1), (8, 0), (10, 0), (11, 1), (5, 2), (9, 2), (12, 2), (13, 2), (14, 0)] kR kR qP fun hs K n0 hKm hKs hKn => ?_
 refine km_ hs ?_
 refine E4 hs rfl (qf_ 0 0) rfl ?_
 refine I2 hs rfl hKs ql_ ?_
 refine E4 hs rfl (U4 (k' := .u32) ((u32N to : Nat) : Int) rfl kR (A1g to)) rfl ?_
 refine E4 hs rfl (H2 (k' := .u64) (u32N to) rfl kR (T3 (by have := A2f to; omega))) rfl ?_
 refine E4 hs rfl (qf_ 1 1) rfl ?_
 refine I2 hs rfl hKs ql_ ?_
 refine E4 hs rfl (H2 (k' := .u64) n rfl kR (T3 qO)) rfl ?_
 refine E4 hs rfl (qf_ 2 2) rfl ?_
 refine I2 hs rfl hKs ql_ ?_
 refine F7 _ _ rfl rfl (List.Perm.refl _) hKm fun w0 => (A9 (Mc := [(b5, blk [vS] 97)]) (R := _) (aS rfl (aS rfl (aS rfl a0))) kR qP (I3 b5 (u32N to) 4 [] _ _ Wtr.new (by have := A2f to; omega) qD qD) rfl ?_)
 rintro v11 M11 J11 ⟨rfl, hW11⟩ hKx
 refine F7 (M11 ++ []) _ rfl rfl qP (hKx (hKn rfl)) fun w0 => (A9 (Mc := M11) (R := _) (aS rfl (aS rfl (aS rfl a0))) kR qP (I3 b5 n 4 _ _ _ hW11 qO qD (by simp [F2])) rfl ?_)
 rintro v15 M15 J15 ⟨rfl, hW15⟩ hKy
 refine I6 rfl rfl rfl (A9 (Mc := M15) (R := _) (aS rfl (aS rfl a0)) kR qP (H3 b5 v w _ _ _ hW15 (hv.mono qS) (by simp [F2])) rfl ?_)
 rintro v18 M18 J18 ⟨rfl, hW18⟩
 refine I6 rfl rfl rfl (A9 (Mc := M18) (R := _) (aS rfl a0) kR qP (P1 b5 _ _ _ hW18 (by simp [F2]; omega)) rfl ?_)
 rintro v19 M19 J19 ⟨hW19, hb19⟩
 refine E4 hs rfl (G4 rfl) rfl ?_
 refine H7 (C8 2) (A6 ?_)
 exact ⟨_, [], [], F4 rfl rfl, qZ, rfl, by have := hb19.mono (R' := J19) qI; simpa [B3B, List.append_assoc] using hb19.mono qS⟩
abbrev inn (to : Int) (n : Nat) (v : Value) : Value := .agg #[.int .i64 to, (vU n), v]
theorem B1V {p : LN} (h : A4u (di3 p) = false) : diE p = 4 := by unfold diE; rw [h]; rfl
theorem B1W {p : LN} (h : A4u (di3 p) = true) (hl : (diT p).length > 256) : diE p = 5 := by unfold diE; rw [h, if_neg qD, if_pos hl]
theorem B1X {p : LN} (h : A4u (di3 p) = true) (hl : (diT p).length ≤ 256) : diE p = 0 := by unfold diE; rw [h, if_neg qD, if_neg qO]
def DiR (R : Mem) (q : Value) (p : LN) : Prop := ∃ (a n : Nat) (vt : Value) (wt : LN), q = .tuple #[inn a n vt, .int .i64 ((diE p : Nat) : Int)] ∧ By R vt wt ∧ ((diE p = 0 ∧ a = diA p ∧ n = diN p ∧ wt = diT p) ∨ (diE p ≠ 0 ∧ a = 0 ∧ n = 0 ∧ wt = []))
theorem DiR.mono {R R' : Mem} {q : Value} {p : LN} (h : DiR R q p) (hs : ∀ x, x ∈ R → x ∈ R') : DiR R' q p := by
  obtain ⟨a, n, vt, wt, h1, h2, h3⟩ := h
  exact ⟨a, n, vt, wt, h1, h2.mono hs, h3⟩
theorem A3D (v : Value) (p : LN) (A : Mem) (hv : By A v p) : FnX Tryz.prog 26 [v] [] A fun q M J => M = [] ∧ DiR J q p := by
 haveI := hv.cel
 refine FnX.enterZ (N := 29) Tryz.func26 rfl rfl rfl fun w_ => ?_
 refine A8 (C8 0) (A1 ?_)
 refine A4 rfl (D3 (cs := [.int .i64 0, .int .u32 0, vS]) kR rfl fun b2 => ?_)
 refine as_ (A0 (D0 0 2) (A1 (mv_ ?_)))
 refine F0 (aS rfl a0) kR (A1K v p A _ hv) rfl ?_
 rintro v7 M7 J7 ⟨rb, rfl, hR7⟩
 refine as_ (A0 (D0 2 4) (A1 (mv_ ?_)))
 refine A4 rfl (A9 (Mc := M7) (R := _) (aS rfl (aS rfl a0)) kR qP (K5 rb 4 (p, false) A _ _ hR7 (fun x hx => qS _ hx) qD) rfl ?_)
 rintro v9 M9 J9 ⟨rfl, hR9⟩
 have hA4 := A4t (p, false) 4 hv.lt
 rw [show 256 ^ 4 = 4294967296 from rfl] at hA4
 change Rdr rb (di1 p) A M9 at hR9
 obtain ⟨w9, -, hb9⟩ := hR9.ex
 refine A2 (H2 (k' := .i64) (diA p) rfl kR (A7l (by show rnN (p, false) 4 < _; omega))) rfl ?_
 refine mv_ ?_
 refine A4 rfl (A9 (Mc := M9) (R := _) (aS rfl (aS rfl a0)) kR qP (K5 rb 4 (di1 p) A _ _ hR9 (fun x hx => qS _ hx) qD) rfl ?_)
 rintro v12 M12 J12 ⟨rfl, hR12⟩
 have hN4 := A4t (di1 p) 4 hb9.lt
 rw [show 256 ^ 4 = 4294967296 from rfl] at hN4
 change Rdr rb (di2 p) A M12 at hR12
 refine A2 (H2 (k' := .u32) (diN p) rfl kR (Z1 (by show rnN (di1 p) 4 < _; omega))) rfl ?_
 refine mv_ ?_
 refine A4 rfl (A9 (Mc := M12) (R := _) (aS rfl (aS rfl a0)) kR qP (K2 rb 65536 (di2 p) A _ _ hR12 (fun x hx => qS _ hx) qD) rfl ?_)
 rintro v15 M15 J15 ⟨hb15, hR15⟩
 change Rdr rb (di3 p) A M15 at hR15
 change By J15 v15 (diT p) at hb15
 haveI := hb15.cel
 have ho15 := hb15.one
 refine A2 (D2 (place := fun x => #[(0, 1), (1, 1), (2, 1)][x]?) (z := [.int .i64 0, .int .u32 0, vS]) (fun _ => by kernel_rfl) (eS rfl (eS rfl (eS rfl e0))) (bdS 0 1 rfl qR (bdS 1 1 rfl qR (bdS 2 1 rfl qR bd0)))) rfl ?_
 refine A4 rfl (D3 (cs := [.int .i64 0, .int .u32 0, vS]) kR rfl fun b5 => ?_)
 refine A4 rfl (C0 rfl rfl Cel.cel kR qR (A3 rfl (A3 rfl (A3 ho15 I5))) UpC.upd ?_)
 refine A0 (E7 2 4 5) (A7 (C6 (A1 (mv_ ?_))))
 refine E2 (aS rfl a0) kR (A1h rb (di3 p) A _ (hR15.rd qS)) rfl ?_
 refine A2 (T2 rfl) rfl ?_
 refine as_ (A0 (E7 2 5 17) ?_)
 refine C4 rfl ?_ ?_ <;> intro hc
 ·
  have he3 : A4u (di3 p) = false := by simpa using hc
  refine A1 ?_
  refine A2 (D2 (place := fun x => #[(0, 1), (1, 1), (2, 1)][x]?) (z := [.int .i64 0, .int .u32 0, vS]) (fun _ => by kernel_rfl) e0 bd0) rfl ?_
  refine A4 rfl (C0 rfl rfl Cel.cel kR ln3 al3 UpC.upd ?_)
  refine as_ (A0 (D0 2 3) (A6 (br (tr ?_))))
  exact ⟨_, [], [], Z4 rfl rfl rfl kR At.mem qR, qZ, rfl, 0, 0, _, [], by rw [B1V he3]; rfl, By.nil, .inr ⟨by rw [B1V he3]; decide, rfl, rfl, rfl⟩⟩
 ·
  have he3 : A4u (di3 p) = true := by simpa using hc
  refine A1 ?_
  refine A2 (qf_ 2 2) rfl ?_
  refine A2 ql_ rfl ?_
  refine A2 (E1 (sz := 1) rfl kR hb15.rd) rfl ?_
  refine A2 (F1 rfl rfl rfl) rfl ?_
  refine as_ (A0 (E7 2 5 22) ?_)
  refine C4 rfl ?_ ?_ <;> intro hc
  ·
   have hln : (diT p).length > 256 := by simp at hc; omega
   refine A1 ?_
   refine A2 (D2 (place := fun x => #[(0, 1), (1, 1), (2, 1)][x]?) (z := [.int .i64 0, .int .u32 0, vS]) (fun _ => by kernel_rfl) e0 bd0) rfl ?_
   refine A4 rfl (C0 rfl rfl Cel.cel kR ln3 al3 UpC.upd ?_)
   refine as_ (A0 (D0 2 3) (A6 (br (tr ?_))))
   exact ⟨_, [], [], Z4 rfl rfl rfl kR At.mem qR, qZ, rfl, 0, 0, _, [], by rw [B1W he3 hln]; rfl, By.nil, .inr ⟨by rw [B1W he3 hln]; decide, rfl, rfl, rfl⟩⟩
  ·
   have hln : (diT p).length ≤ 256 := by simp at hc; omega
   refine A5 (nb (nx (D0 2 5) (A1 ?_)))
   refine A2 (U3 (n := 3) (cs := [.int .i64 ((diA p : Nat) : Int), .int .u32 ((diN p : Nat) : Int), v15]) rfl kR At.mem qR) rfl ?_
   refine A4 rfl (C0 rfl rfl Cel.cel kR qR (A3 rfl (A3 rfl (A3 ho15 I5))) UpC.upd ?_)
   refine as_ (A0 (D0 2 3) (A6 ?_))
   exact ⟨_, [], [], Z4 rfl rfl rfl kR At.mem qR, qZ, rfl, diA p, diN p, _, diT p, by rw [B1X he3 hln]; rfl, hb15.mono qS, .inl ⟨B1X he3 hln, rfl, rfl, rfl⟩⟩

end Go.Proofs.YtoameenjkiaefaaGreatDoor
