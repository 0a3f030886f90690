/- Part 19 of the texts of this claim, one behind the other. -/
import Derived.Test.YthbhpfefdnffaaaGreatDoorB18
set_option linter.unusedVariables false
set_option linter.unusedSimpArgs false
set_option maxRecDepth 100000
namespace Go.Proofs.YthbhpfefdnffaaaGreatDoor
open Go.Px
theorem A6A {P : Program} {fn : Func} {l : Env} {R : Mem} {t u x b n : Nat} {ty : TypeId} {cs : List Value} {e : TypeId} {fr : Nat × Nat} {v z : Value} (h : fn.results = #[.tmp u, .cell t ty, .tmp x]) (hv : lk l t = some (.pointer (some ⟨b, 0, none⟩))) (hu : lk l u = some v) (hx : lk l x = some z) (ht : A8G P ty = some n)
    (hb : (b, Obj.cells cs.toArray e fr) ∈ R) (hn : cs.length = n) : Res P fn l R (.tuple #[v, .agg cs.toArray, z]) := fun N a w ha hw => by
  obtain ⟨dsc, h1, h2, h3⟩ := A0A ht
  have hl := run_loadVar_row (P := P) w b e ty cs.toArray fr dsc (hw b _ hb) h1 (by cases dsc <;> simp_all [TypeDesc.isRow]) (by rw [h3, ← hn]; simp)
  simp [results, h, ha.slot t _ hv, ha.slot u _ hu, ha.slot x _ hx, asAddr, hl]
theorem B9v {P : Program} {fn : Func} {l : Env} {R : Mem} {t u x : Nat} {v z y : Value} (h : fn.results = #[.tmp t, .tmp u, .tmp x]) (hv : lk l t = some v) (hu : lk l u = some z) (hx : lk l x = some y) : Res P fn l R (.tuple #[v, z, y]) := fun N a w ha hw => by
  simp [results, h, ha.slot t _ hv, ha.slot u _ hu, ha.slot x _ hx]
noncomputable def ckB (s : Ps) (b : Bn) : Bool := decide (b.key.length = 32) && B2h s b.ig (A5r b.signed b.key) b.sig
def heC (va vg vk : Value) (h : He) : List Value := [va, vg, vk, .int .u32 ((h.signed : Nat) : Int), .bool h.has, .int .u32 ((h.once : Nat) : Int)]
structure HeR (R : Mem) (h : He) (va vg vk : Value) : Prop where
  ia : By R va h.ia
  ig : Byi R vg h.ig
  key : By R vk h.key
  signed : h.signed < 4294967296
  once : h.once < 4294967296
theorem HeR.mono {R R' : Mem} {h : He} {va vg vk : Value} (g : HeR R h va vg vk) (hR : ∀ x, x ∈ R → x ∈ R') : HeR R' h va vg vk := ⟨g.ia.mono hR, g.ig.mono hR, g.key.mono hR, g.signed, g.once⟩
theorem B7z (pb : Nat) (s : Ps) (kb : Nat) (k : Ks) (va vg vq vo vm : Value) (rs ro rm : List (List Value)) (b : Bn) (wa wg wk ws wo : Value) (MP A : Mem) (hK : KyR A kb k va vg vq vo vm rs ro rm) (hP : Prm pb s MP) (har : Ar s.ts) (hn : s.ts.length + 1000 ≤ 1040000) (hk : s.n < 1000000000) (ga : By A wa b.ia) (gg : By A wg b.ig) (gk : By A wk b.key) (gs : By A ws b.sig) (go : By A wo b.oncek) (hsn : b.signed < 4294967296) (hon : b.once < 4294967296) (hG : Glb A) : FnX Tryz.prog 20 [.pointer (some ⟨pb, 0, none⟩), .pointer (some ⟨kb, 0, none⟩), .agg #[.int .i64 b.user, .int .i64 b.dev, wa, wg, .int .u32 ((b.signed : Nat) : Int), wk, ws, .bool b.has, .int .u32 ((b.once : Nat) : Int), wo]] MP A fun q M J => (ckB s b = true → ∃ v p r u, q = .tuple #[v, .agg (heC p r u (stH k b s)).toArray, .int .i64 0] ∧ Prm pb (stS k b s) M ∧ By J v (stK k b s) ∧ HeR (J ++ A) (stH k b s) p r u) ∧ (ckB s b = false → q = .tuple #[.slice none 0 0, .agg #[.slice none 0 0, .slice none 0 0, .slice none 0 0, .int .u32 0, .bool false, .int .u32 0], .int .i64 10] ∧ Prm pb s M) := by
 haveI := ga.cel
 haveI := gg.cel
 haveI := gk.cel
 haveI := gs.cel
 haveI := go.cel
 have f1 := L2 s
 have f2 := T7 (D9 s) k.agree b.key
 have f3 := T7 (L7 (D9 s) k.agree b.key) (F0 s) b.ia
 have f4 := T7 (L7 (L7 (D9 s) k.agree b.key) (F0 s) b.ia) (F0 s) b.key
 have f5 := T7 (L7 (L7 (L7 (D9 s) k.agree b.key) (F0 s) b.ia) (F0 s) b.key) (F0 s) b.oncek
 refine FnX.enterZ (N := 74) Tryz.func20 rfl rfl rfl fun w_ => ?_
 refine C4 (E1 0 1 2) (A3 ?_)
 refine A6 rfl (bx_ fun b5 => ?_)
 refine as_ ?_
 refine A6 rfl (C5 (cs := [.slice none 0 0, .slice none 0 0, .slice none 0 0, .int .u32 0, .bool false, .int .u32 0]) kR rfl fun b7 => ?_)
 refine as_ (A0 (E9 0 1 5 7) (A5 (A3 (mv_ ?_))))
 refine A4 (E6 (e := 114) rfl rfl kR) rfl ?_
 refine mv_ ?_
 refine C6 rfl rfl (OpQ.opL qm_ rfl ?_)
 refine C6 rfl rfl (OpQ.opL (E6 (e := 117) rfl rfl kR) rfl ?_)
 refine A4 (E2 rfl rfl) rfl ?_
 refine A0 (F9 0 1 5 7 17) ?_
 refine D6 rfl ?_
 refine A9 (nx (E9 0 1 5 7) (A5 (A3 (mv_ ?_))))
 refine A4 (qw_ 10) rfl ?_
 refine G1 (aS rfl (aS rfl a0)) kR (B1U pb s b wa wg wk ws wo MP _ hP (by intro z hz; simp [hz]) har (by omega) (ga.mono SubC.sub) (gg.mono SubC.sub) (gk.mono SubC.sub) (gs.mono SubC.sub) (go.mono SubC.sub) hsn hG.up) rfl ?_
 change XL _ _ _ _ ((21, .bool (ckB s b)) :: _) _ _
 refine A4 (V3 rfl) rfl ?_
 refine A0 (F9 0 1 5 7 22) ?_
 refine C7 rfl (fun hc => ?_) (fun hc => ?_)
 ·
  have hck : ckB s b = false := by simpa using hc
  refine A3 ?_
  refine A4 (F6 (place := fun x => #[(0, 2), (2, 1), (3, 1), (4, 1), (5, 1)][x]?) (z := [.slice none 0 0, .slice none 0 0, .slice none 0 0, .int .u32 0, .bool false, .int .u32 0]) (fun _ => by kernel_rfl) e0 bd0) rfl ?_
  refine as_ ?_
  refine A6 rfl (A8 rfl rfl Cel.cel kR ln6 al6 UpC.upd ?_)
  refine as_ (A0 (E1 6 7 8) (C1 (tr ?_)))
  exact ⟨_, MP, [], A6A (n := 6) rfl rfl rfl rfl kR At.mem (by rfl), Fit.none (Fit.last PickC.perm), (fun h => by rw [hck] at h; cases h), fun _ => ⟨rfl, hP⟩⟩
 ·
  have hck : ckB s b = true := by simpa using hc
  refine A9 (nx (E9 0 1 5 7) (A3 (mv_ ?_)))
  refine A6 rfl (F2 (Mc := MP) (R := _) (aS rfl (a0)) kR PickC.perm (A0a pb s MP _ hP (by omega) (by omega) hG.up) rfl ?_)
  rintro v25 M25 J25 ⟨hP25, h25⟩
  haveI := h25.cel
  refine as_ (A0 (F9 0 1 5 7 9) ?_)
  refine K0 (M25) (_) true (.range 19) [(0, 0), (1, 0), (3, 0), (4, 1), (6, 0), (7, 0), (8, 0), (9, 0), (10, 1), (12, 0), (13, 0), (14, 0), (15, 1), (2, 2), (5, 2), (11, 2), (16, 2), (17, 2), (18, 0)] kR kR PickC.perm fun hs K n0 hKm hKs hKn => ?_
  refine km_ hs ?_
  refine km_ hs ?_
  refine L6 hs rfl (qf_ 5 5) rfl ?_
  refine R9 hs rfl hKs ql_ ?_
  refine km_ hs ?_
  refine km_ hs ?_
  refine L6 hs rfl (qf_ 2 2) rfl ?_
  refine L6 hs rfl (qf_ 2 0) rfl ?_
  refine R9 hs rfl hKs ql_ ?_
  refine km_ hs ?_
  refine km_ hs ?_
  refine L6 hs rfl (qf_ 5 5) rfl ?_
  refine R9 hs rfl hKs ql_ ?_
  refine K9 [] _ rfl rfl (List.Perm.refl _) (fun _ h => by cases h) fun w0 => (D5 (aS rfl a0) kR (A8r kb k va vg vq vo vm rs ro rm _ (hK.mono SubC.sub)) rfl ?_)
  rintro v28 M28 J28 ⟨rfl, h28⟩ _
  haveI := h28.cel
  dsimp only [List.nil_append, List.append_eq]
  refine K9 _ _ rfl rfl (List.Perm.refl _) hKm fun w0 => (F2 (Mc := M25) (R := _) (aS rfl (aS rfl (aS rfl (a0)))) kR PickC.perm (A0M pb (D9 s) v28 wk k.agree b.key M25 _ hP25 (by omega) (h28.mono SubC.sub) (gk.mono SubC.sub) hG.up) rfl ?_)
  rintro v31 M31 J31 ⟨hP31, h31⟩ hKx31
  haveI := h31.cel
  refine K9 M31 _ rfl rfl PickC.perm (fun x hx => hKx31 (hKn rfl) x (by simpa using hx)) fun w0 => (F2 (Mc := M31) (R := _) (aS rfl (aS rfl (aS rfl (a0)))) kR PickC.perm (A0M pb ((L7 (D9 s) k.agree b.key)) v25 wa (F0 s) b.ia M31 _ hP31 (by omega) (h25.mono SubC.sub) (ga.mono SubC.sub) hG.up) rfl ?_)
  rintro v37 M37 J37 ⟨hP37, h37⟩ hKx37
  haveI := h37.cel
  refine K9 M37 _ rfl rfl PickC.perm (fun x hx => hKx37 (hKn rfl) x (by simpa using hx)) fun w0 => (F2 (Mc := M37) (R := _) (aS rfl (aS rfl (aS rfl (a0)))) kR PickC.perm (A0M pb ((L7 (L7 (D9 s) k.agree b.key) (F0 s) b.ia)) v25 wk (F0 s) b.key M37 _ hP37 (by omega) (h25.mono SubC.sub) (gk.mono SubC.sub) hG.up) rfl ?_)
  rintro v42 M42 J42 ⟨hP42, h42⟩ hKx42
  haveI := h42.cel
  refine K9 [] _ rfl rfl (List.Perm.refl _) (fun _ h => by cases h) fun w0 => (C8 (e := 27) (sz := 1) (z := [.slice none 0 0, .slice none 0 0, .slice none 0 0]) kR (eS rfl (eS rfl (eS rfl e0))) (bdS 0 1 rfl (by rfl) (bdS 1 1 rfl (by rfl) (bdS 2 1 rfl (by rfl) bd0))) rfl fun b43 => fun hk43 => ?_)
  dsimp only [List.cons_append, List.nil_append, List.append_eq]
  refine L6 hs rfl (H7 rfl) rfl ?_
  refine Q3 (I4 0 1 5 7 9 10) ?_
  refine A0g (α := Value × Mem × Mem) (fun y => [(0, .pointer (some ⟨pb, 0, none⟩)), (1, .pointer (some ⟨kb, 0, none⟩)), (5, .pointer (some ⟨b5, 0, none⟩)), (7, .pointer (some ⟨b7, 0, none⟩)), (9, v25), (10, y.1)]) (fun y => y.2.1 ++ [(b5, blk [.int .i64 b.user, .int .i64 b.dev, wa, wg, .int .u32 ((b.signed : Nat) : Int), wk, ws, .bool b.has, .int .u32 ((b.once : Nat) : Int), wo] 32), (b7, blk [.slice none 0 0, .slice none 0 0, .slice none 0 0, .int .u32 0, .bool false, .int .u32 0] 43)]) (fun y => y.2.2) (fun y => Prm pb (stA k.agree b s) y.2.1 ∧ LsV (y.2.2 ++ A) y.1 (stL k.agree b s) ∧ By (y.2.2 ++ A) v25 (F0 s)) ?_ ?_
  ·
   refine A0L (B := [(b43, blk [v31, v37, v42] 27)]) PickC.perm ?_
   refine A3 ?_
   refine A4 (qf_ 7 7) rfl ?_
   refine A4 ql_ rfl ?_
   refine A0 (X9 0 1 5 7 9 10 45) ?_
   refine C7 rfl (fun hc => ?_) (fun hc => ?_)
   ·
    refine C2 (mv_ (mv_ (mv_ ?_)))
    refine A4 (qf_ 9 9) rfl ?_
    refine A4 ql_ rfl ?_
    refine A6 rfl (F2 (Mc := M42) (R := _) (aS rfl (aS rfl (aS rfl (a0)))) kR PickC.perm (A0M pb (L7 (L7 (L7 (D9 s) k.agree b.key) (F0 s) b.ia) (F0 s) b.key) v25 wo (F0 s) b.oncek M42 _ hP42 (by omega) (h25.mono SubC.sub) (go.mono SubC.sub) hG.up) rfl ?_)
    rintro v51 M51 J51 ⟨hP51, h51⟩
    haveI := h51.cel
    refine A6 rfl (C8 (e := 27) (sz := 1) (z := [.slice none 0 0]) kR (eS rfl e0) (bdS 0 1 rfl (by rfl) bd0) rfl fun b52 => ?_)
    refine A6 rfl (A3j (e := 27) (sz := 1) (by_ := 24) (xs := [v31, v37, v42]) rfl rfl kR rfl (Rd.whole (n := 3) At.mem (by rfl)) (Rd.whole (n := 1) At.mem (by rfl)) (by decide) (by decide) (by decide) rfl fun v53 B53 hs53 => ?_)
    haveI := hs53.cel
    refine A7X (B := B53) PickC.perm ?_
    refine as_ (D1 ?_)
    exact jn (v53, M51, _) ⟨by dsimp only; unfold stA stP; rw [hc]; exact hP51, by dsimp only; unfold stL stP; rw [hc]; exact ⟨[v31, v37, v42] ++ [v51], hs53.rd SubC.sub, Lst.cons (h31.mono SubC.sub) (Lst.cons (h37.mono SubC.sub) (Lst.cons (h42.mono SubC.sub) (Lst.cons (h51.mono SubC.sub) Lst.nil)))⟩, h25.mono SubC.sub⟩ (I4 0 1 5 7 9 10) (Fit.pick PickC.perm (Fit.last PickC.perm)) (fun _ h => h)
   ·
    refine A9 ?_
    exact jn (.slice (some ⟨b43, 0, none⟩) 3 3, M42, _) ⟨by dsimp only; unfold stA stP; rw [hc]; exact hP42, by dsimp only; unfold stL stP; rw [hc]; exact ⟨[v31, v37, v42], Rd.whole (n := 3) At.mem (by rfl), Lst.cons (h31.mono SubC.sub) (Lst.cons (h37.mono SubC.sub) (Lst.cons (h42.mono SubC.sub) Lst.nil))⟩, h25.mono SubC.sub⟩ (I4 0 1 5 7 9 10) (Fit.pick PickC.perm (Fit.last PickC.perm)) (fun _ h => h)
  ·
   rintro ⟨lv, MJ, J9⟩ ⟨hPJ, hLJ, he25⟩
   dsimp only at hPJ hLJ he25 ⊢
   haveI := hLJ.cel
   obtain ⟨hzA, hzI, hzS, hzn, hzL⟩ := A7v k b s
   have hI : stI k b s = K5 (idS k (stA k.agree b s)) (F0 s) := rfl
   have hH : stH k b s = ⟨idA k (stA k.agree b s), idG k (stA k.agree b s), P0 (idS k (stA k.agree b s)) (F0 s), b.signed, b.has, if b.has then b.once else 0⟩ := rfl
   rw [hH]
   have hzi := A2h k (stA k.agree b s)
   rw [hI] at hzI
   generalize F0 s = e at *
   obtain ⟨sA, hsA⟩ : ∃ z, stA k.agree b s = z := ⟨_, rfl⟩
   rw [hsA] at hPJ hzA hI hzi hzI ⊢
   refine K0 (MJ) (_) true (.range 12) [(0, 0), (1, 0), (3, 0), (4, 0), (6, 0), (7, 1), (8, 0), (9, 1), (2, 3), (5, 3), (10, 3), (11, 4), (12, 2)] kR kR PickC.perm fun hs K n0 hKm hKs hKn => ?_
   refine km_ hs ?_
   refine km_ hs ?_
   refine km_ hs ?_
   refine km_ hs ?_
   refine L6 hs rfl (qf_ 4 4) rfl ?_
   refine R9 hs rfl hKs ql_ ?_
   refine L6 hs rfl (qf_ 7 7) rfl ?_
   refine R9 hs rfl hKs ql_ ?_
   refine A6x [⟨2, 56, none, MJ, fun v B R => Prm pb (idS k sA) B ∧ ∃ p q, v = .agg #[p, q] ∧ By R p (idA k sA) ∧ By R q (idG k sA)⟩, ⟨5, 59, some 2, [], fun v B R => Prm pb (K5 (idS k sA) e) B ∧ By R v (P0 (idS k sA) e)⟩, ⟨10, 64, none, [], fun v B R => B = [] ∧ ∃ p r u, v = .agg #[p, r, u, .int .u32 ((b.signed : Nat) : Int), .bool b.has, .int .u32 ((0 : Nat) : Int)] ∧ By R p (idA k sA) ∧ By R r (idG k sA) ∧ By R u (P0 (idS k sA) e)⟩, ⟨11, 11, none, [], fun v B _ => ∃ b, v = .pointer (some ⟨b, 0, none⟩) ∧ B = [(b, blk [.slice none 0 0, .slice none 0 0, .slice none 0 0, .int .u32 0, .bool false, .int .u32 0] 43)]⟩] ([(b5, blk [.int .i64 b.user, .int .i64 b.dev, wa, wg, .int .u32 ((b.signed : Nat) : Int), wk, ws, .bool b.has, .int .u32 ((b.once : Nat) : Int), wo] 32), (b7, blk [.slice none 0 0, .slice none 0 0, .slice none 0 0, .int .u32 0, .bool false, .int .u32 0] 43)]) (fun bs => [bs 5, bs 10, bs 11]) (hKn rfl) (by simp [A1t, A1X]) (show ∀ m ∈ ([MJ, [], []] : List Mem), ∀ x ∈ m, K x.1 from C3 (hKm) (C3 (fun _ h => by cases h) (C3 (fun _ h => by cases h) (L1)))) kR (fun _ => by first | rfl | kernel_rfl)
    (C3 (fun _ _ _ _ h ⟨p1, p, q, e, p2, p3⟩ => ⟨p1, p, q, e, p2.mono h, p3.mono h⟩) (C3 (fun _ _ _ _ h ⟨p1, p2⟩ => ⟨p1, p2.mono h⟩) (C3 (fun _ _ _ _ h ⟨p1, p, q, u, e, p2, p3, p4⟩ => ⟨p1, p, q, u, e, p2.mono h, p3.mono h, p4.mono h⟩) (C3 (fun _ _ _ _ _ h => h) (L1))))) (show List.Nodup [56, 59, 64, 11] by decide) (show List.Nodup [2, 5, 10, 11] by decide) (C3 (C9 rfl) (C3 (C9 rfl) (C3 (C9 rfl) (C3 (C9 rfl) (L1)))))
    (C3 ⟨_, rfl, fun vs bs R Rj wG hb hj hjr ha => ⟨.inl rfl, ?_⟩⟩ (C3 ⟨_, rfl, fun vs bs R Rj wG hb hj hjr ha => ⟨.inl rfl, ?_⟩⟩ (C3 ⟨_, rfl, fun vs bs R Rj wG hb hj hjr ha => ⟨.inl rfl, ?_⟩⟩ (C3 ⟨_, rfl, fun vs bs R Rj wG hb hj hjr ha => ⟨.inl rfl, ?_⟩⟩ (L1))))) ?_
   ·
    dsimp only [Gc.inp]
    refine F2 (Mc := MJ) (R := []) (aS rfl (aS rfl (a0))) kR (by simp) (B1J pb sA kb k va vg vq vo vm rs ro rm MJ _ (hK.mono (fun x hx => by have := hb x (by simp [hx]); simp [this])) hPJ (by omega) (hG.sub (fun x hx => by have := hb x (by simp [hx]); simp [this]))) rfl ?_
    rintro v25 M25 J25 ⟨hP25, p, q, rfl, hp, hq⟩
    exact ⟨_, rfl, by simpa using hP25, p, q, rfl, hp.mono fun x hx => by simp [hx], hq.mono fun x hx => by simp [hx]⟩
   ·
    dsimp only [Gc.inp]
    have g2 := ha _ (List.mem_of_getElem? (i := 0) rfl) kR
    replace g2 : (fun v B R => Prm pb (idS k sA) B ∧ ∃ p q, v = .agg #[p, q] ∧ By R p (idA k sA) ∧ By R q (idG k sA)) (vs 2) (bs 2) Rj := g2
    dsimp only at g2
    obtain ⟨hP25, -⟩ := g2
    refine F2 (Mc := bs 2) (R := []) (aS rfl (aS rfl (a0))) kR (by simp) (A1V pb (idS k sA) v25 e (bs 2) _ hP25 (by omega) (he25.mono (fun x hx => by have := hb x (by simp [hx]); simp [this])) (hG.sub (fun x hx => by have := hb x (by simp [hx]); simp [this]))) rfl ?_
    rintro v31 M31 J31 ⟨hP31, h31⟩
    exact ⟨_, rfl, by simpa using hP31, h31.mono fun x hx => by simp [hx]⟩
   ·
    dsimp only [Gc.inp]
    have g2 := ha _ (List.mem_of_getElem? (i := 0) rfl) kR
    replace g2 : (fun v B R => Prm pb (idS k sA) B ∧ ∃ p q, v = .agg #[p, q] ∧ By R p (idA k sA) ∧ By R q (idG k sA)) (vs 2) (bs 2) Rj := g2
    dsimp only at g2
    have g5 := ha _ (List.mem_of_getElem? (i := 1) rfl) kR
    replace g5 : (fun v B R => Prm pb (K5 (idS k sA) e) B ∧ By R v (P0 (idS k sA) e)) (vs 5) (bs 5) Rj := g5
    dsimp only at g5
    obtain ⟨-, h31⟩ := g5
    obtain ⟨-, p, q, e25, hp, hq⟩ := g2
    haveI := h31.cel
    haveI := hp.cel
    haveI := hq.cel
    dsimp only [V2, List.map, List.cons_append, List.nil_append]
    rw [e25]
    exact OpQ.opL (F6 (place := fun x => #[(0, 2), (2, 1), (3, 1), (4, 1), (5, 1)][x]?) (z := [.slice none 0 0, .slice none 0 0, .slice none 0 0, .int .u32 0, .bool false, .int .u32 0]) (fun _ => by kernel_rfl) (eS rfl (eS rfl (eS rfl (eS rfl e0)))) (bdS 0 2 rfl (by rfl) (bdS 2 1 rfl (by rfl) (bdS 3 1 rfl (by rfl) (bdS 4 1 rfl (by rfl) bd0))))) rfl ⟨_, rfl, rfl, p, q, _, rfl, hp, hq, h31⟩
   ·
    dsimp only [Gc.inp]
    exact C5 (cs := [.slice none 0 0, .slice none 0 0, .slice none 0 0, .int .u32 0, .bool false, .int .u32 0]) kR rfl fun b => ⟨_, rfl, b, rfl, rfl⟩
   intro vs bs Jn0 hφ hKK
   have kk2 := hKK _ (List.mem_of_getElem? (i := 0) rfl)
   dsimp only at kk2
   have kk5 := hKK _ (List.mem_of_getElem? (i := 1) rfl)
   dsimp only at kk5
   have kk10 := hKK _ (List.mem_of_getElem? (i := 2) rfl)
   dsimp only at kk10
   have kk11 := hKK _ (List.mem_of_getElem? (i := 3) rfl)
   dsimp only at kk11
   clear hKK
   have g2 := ofH hφ
   dsimp only at g2
   replace hφ := ofT hφ
   have g5 := ofH hφ
   dsimp only at g5
   replace hφ := ofT hφ
   have g10 := ofH hφ
   dsimp only at g10
   replace hφ := ofT hφ
   have g11 := ofH hφ
   dsimp only at g11
   clear hφ
   dsimp only [V2, A1t, List.foldr, List.map, List.cons_append, List.nil_append]
   generalize bs 2 = B56 at *
   generalize bs 5 = B59 at *
   generalize bs 10 = B64 at *
   generalize bs 11 = B11 at *
   generalize vs 2 = u56 at *
   generalize vs 5 = u59 at *
   generalize vs 10 = u64 at *
   generalize vs 11 = u11 at *
   obtain ⟨hP59, -⟩ := g5
   clear g2
   obtain ⟨b11, rfl, rfl⟩ := g11
   obtain ⟨rfl, p, r, u, rfl, hp, hr, hu⟩ := g10
   haveI := hp.cel
   haveI := hr.cel
   haveI := hu.cel
   refine XK.tl rfl rfl rfl (A8 (vs := [p, r, u, .int .u32 ((b.signed : Nat) : Int), .bool b.has, .int .u32 ((0 : Nat) : Int)]) rfl rfl rfl kR (by rfl) (C3 hp.one (C3 hr.one (C3 hu.one al3))) UpC.upd ?_)
   refine Q3 (F9 0 5 7 10 11) (A5 ?_)
   cases hh : b.has
   ·
    refine A3 ?_
    refine A4 (qf_ 7 7) rfl ?_
    refine A4 ql_ rfl ?_
    refine A0 (I4 0 5 7 10 11 66) ?_
    refine D6 rfl ?_
    refine A9 (nx (E9 0 7 10 11) ?_)
    refine K0 (B59) (_) true [0, 1, 2, 3, 4, 6] [(0, 0), (1, 0), (3, 1), (2, 2), (4, 0), (5, 2), (6, 0)] kR kR PickC.perm fun hs K n0 hKm hKs hKn => ?_
    refine km_ hs ?_
    refine km_ hs ?_
    refine R9 hs rfl hKs (qw_ 6) ?_
    refine K9 _ _ rfl rfl (List.Perm.refl _) hKm fun w0 => (F2 (Mc := B59) (R := _) (aS rfl (aS rfl (a0))) kR PickC.perm (A3I pb (stI k b s) lv (stL k.agree b s) B59 _ (hI ▸ hP59) (hLJ.mono SubC.sub) (by omega) (by rw [hI]; omega) hG.up) rfl ?_)
    rintro v72 M72 J72 ⟨hP72, h72⟩ hKx72
    haveI := h72.cel
    refine L6 hs rfl (H7 rfl) rfl ?_
    refine XK.tl rfl rfl rfl (A8 (vs := [p, r, u, .int .u32 ((b.signed : Nat) : Int), .bool false, .int .u32 ((0 : Nat) : Int)]) rfl rfl rfl kR (by rfl) (C3 hp.one (C3 hr.one (C3 hu.one al3))) UpC.upd ?_)
    refine L6 hs rfl (H7 rfl) rfl ?_
    refine Q3 (E1 6 7 8) (C1 ?_)
    refine ⟨_, M72, [], A6A (n := 6) rfl rfl rfl rfl kR At.mem (by rfl), Fit.none (Fit.last PickC.perm), (fun _ => ⟨_, p, r, u, rfl, hP72, h72.mono SubC.sub, hp.mono SubC.sub, (hr.mono SubC.sub).i, hu.mono SubC.sub, hsn, (by decide : 0 < 4294967296)⟩), fun h => by rw [hck] at h; cases h⟩
   ·
    refine A3 ?_
    refine A4 (qf_ 7 7) rfl ?_
    refine A4 ql_ rfl ?_
    refine A0 (I4 0 5 7 10 11 66) ?_
    refine E0 rfl ?_
    refine C2 ?_
    refine A4 (qf_ 8 8) rfl ?_
    refine A4 ql_ rfl ?_
    refine A4 (qf_ 5 5) rfl ?_
    refine A6 rfl (E3 rfl rfl rfl kR SetC.set UpC.upd ?_)
    refine A0 (E9 0 7 10 11) ?_
    refine K0 (B59) (_) true [0, 1, 2, 3, 4, 6] [(0, 0), (1, 0), (3, 1), (2, 2), (4, 0), (5, 2), (6, 0)] kR kR PickC.perm fun hs K n0 hKm hKs hKn => ?_
    refine km_ hs ?_
    refine km_ hs ?_
    refine R9 hs rfl hKs (qw_ 6) ?_
    refine K9 _ _ rfl rfl (List.Perm.refl _) hKm fun w0 => (F2 (Mc := B59) (R := _) (aS rfl (aS rfl (a0))) kR PickC.perm (A3I pb (stI k b s) lv (stL k.agree b s) B59 _ (hI ▸ hP59) (hLJ.mono SubC.sub) (by omega) (by rw [hI]; omega) hG.up) rfl ?_)
    rintro v72 M72 J72 ⟨hP72, h72⟩ hKx72
    haveI := h72.cel
    refine L6 hs rfl (H7 rfl) rfl ?_
    refine XK.tl rfl rfl rfl (A8 (vs := [p, r, u, .int .u32 ((b.signed : Nat) : Int), .bool true, .int .u32 ((b.once : Nat) : Int)]) rfl rfl rfl kR (by rfl) (C3 hp.one (C3 hr.one (C3 hu.one al3))) UpC.upd ?_)
    refine L6 hs rfl (H7 rfl) rfl ?_
    refine Q3 (E1 6 7 8) (C1 ?_)
    refine ⟨_, M72, [], A6A (n := 6) rfl rfl rfl rfl kR At.mem (by rfl), Fit.none (Fit.last PickC.perm), (fun _ => ⟨_, p, r, u, rfl, hP72, h72.mono SubC.sub, hp.mono SubC.sub, (hr.mono SubC.sub).i, hu.mono SubC.sub, hsn, hon⟩), fun h => by rw [hck] at h; cases h⟩

theorem A8B (pb : Nat) (s : Ps) (kb : Nat) (k : Ks) (va vg vq vo vm : Value) (rs ro rm : List (List Value)) (h : He) (wa wg wk : Value) (MP A : Mem) (hK : KyR A kb k va vg vq vo vm rs ro rm) (hrise : B5r k.once) (hP : Prm pb s MP) (hn : s.ts.length + 1000 ≤ 1040000) (gh : HeR A h wa wg wk) (hG : Glb A) : FnX Tryz.prog 23 [.pointer (some ⟨pb, 0, none⟩), .pointer (some ⟨kb, 0, none⟩), .agg #[wa, wg, wk, .int .u32 ((h.signed : Nat) : Int), .bool h.has, .int .u32 ((h.once : Nat) : Int)]] MP A fun q M J => ∃ v o, q = .tuple #[v, o, .int .i64 (if (anR k h s).1.isSome then 0 else 9)] ∧ Prm pb (anR k h s).2 M ∧ By J v ((anR k h s).1.elim [] (·.1)) ∧ By J o ((anR k h s).1.elim [] (·.2)) := by
 haveI := gh.ia.cel
 haveI := gh.ig.cel
 haveI := gh.key.cel
 refine FnX.enterZ (N := 70) Tryz.func23 rfl rfl rfl fun w_ => ?_
 refine C4 (E1 0 1 2) (A3 ?_)
 refine A6 rfl (bx_ fun b5 => ?_)
 refine as_ (as_ (as_ (A0 (E1 0 1 5) (A5 (A3 (mv_ ?_))))))
 refine A4 (E6 (e := 114) rfl rfl kR) rfl ?_
 refine mv_ ?_
 refine C6 rfl rfl (OpQ.opL qm_ rfl ?_)
 refine C6 rfl rfl (OpQ.opL (E6 (e := 117) rfl rfl kR) rfl ?_)
 refine A4 (E2 rfl rfl) rfl ?_
 refine A0 (E9 0 1 5 19) ?_
 refine D6 rfl ?_
 refine A9 (nx (E1 0 1 5) (A3 (mv_ ?_)))
 refine A4 (qf_ 3 3) rfl ?_
 refine A4 ql_ rfl ?_
 refine D0 (aS rfl (aS rfl a0)) kR (B3W kb k va vg vq vo vm rs ro rm h.signed _ (hK.mono SubC.sub)) rfl ?_
 rintro r24 M24 J24 ⟨rfl, q1, rfl, hq1⟩
 haveI := hq1.cel
 refine mv_ ?_
 refine A4 (A2I rfl) rfl ?_
 refine A4 (A2v rfl) rfl ?_
 refine as_ (as_ (A0 (F9 0 1 5 9 10) (A5 ?_)))
 cases hsg : A1u k.signed h.signed with
 | none => ?_
 | some sx => ?_
 ·
  refine A3 (mv_ ?_)
  refine A4 (V3 rfl) rfl ?_
  refine A0 (F9 0 1 5 9 28) ?_
  refine E0 rfl ?_
  refine A3 (as_ (as_ (as_ (A0 (E1 6 7 8) (C1 (tr ?_))))))
  exact ⟨_, MP, [], B9v rfl rfl rfl rfl, Fit.none (Fit.last PickC.perm), by rw [B5t hsg]; exact ⟨_, _, rfl, hP, By.nil, By.nil⟩⟩
 ·
  rw [hsg] at hq1
  change By _ q1 sx at hq1
  have f2 := T7 s sx h.ia
  have f3 := T7 (L7 s sx h.ia) k.agree h.key
  have f4 := T7 (L7 (L7 s sx h.ia) k.agree h.key) sx h.key
  refine A3 (mv_ ?_)
  refine A4 (V3 rfl) rfl ?_
  refine A0 (F9 0 1 5 9 28) ?_
  refine D6 rfl ?_
  refine A9 (nx (E9 0 1 5 9) ?_)
  refine K0 (MP) (_) true (.range 19) [(0, 0), (1, 0), (2, 0), (3, 0), (4, 1), (6, 0), (7, 0), (9, 0), (10, 1), (12, 0), (13, 0), (14, 0), (15, 1), (5, 2), (8, 2), (11, 2), (16, 2), (17, 2), (18, 0)] kR kR PickC.perm fun hs K n0 hKm hKs hKn => ?_
  refine km_ hs ?_
  refine km_ hs ?_
  refine L6 hs rfl (qf_ 0 0) rfl ?_
  refine L6 hs rfl (qf_ 0 0) rfl ?_
  refine R9 hs rfl hKs ql_ ?_
  refine km_ hs ?_
  refine km_ hs ?_
  refine L6 hs rfl (qf_ 2 2) rfl ?_
  refine R9 hs rfl hKs ql_ ?_
  refine km_ hs ?_
  refine km_ hs ?_
  refine L6 hs rfl (qf_ 2 2) rfl ?_
  refine R9 hs rfl hKs ql_ ?_
  refine K9 _ _ rfl rfl (List.Perm.refl _) hKm fun w0 => (F2 (Mc := MP) (R := _) (aS rfl (aS rfl (aS rfl (a0)))) kR PickC.perm (A0M pb (s) q1 wa sx h.ia MP _ hP (by omega) (hq1.mono SubC.sub) (gh.ia.mono SubC.sub) hG.up) rfl ?_)
  rintro v34 M34 J34 ⟨hP34, h34⟩ hKx34
  haveI := h34.cel
  refine K9 [] _ rfl rfl (List.Perm.refl _) (fun _ h => by cases h) fun w0 => (D5 (aS rfl a0) kR (A8r kb k va vg vq vo vm rs ro rm _ (hK.mono SubC.sub)) rfl ?_)
  rintro v37 M37 J37 ⟨rfl, h37⟩ _
  haveI := h37.cel
  dsimp only [List.nil_append, List.append_eq]
  refine K9 M34 _ rfl rfl PickC.perm (fun x hx => hKx34 (hKn rfl) x (by simpa using hx)) fun w0 => (F2 (Mc := M34) (R := _) (aS rfl (aS rfl (aS rfl (a0)))) kR PickC.perm (A0M pb ((L7 s sx h.ia)) v37 wk k.agree h.key M34 _ hP34 (by omega) (h37.mono SubC.sub) (gh.key.mono SubC.sub) hG.up) rfl ?_)
  rintro v40 M40 J40 ⟨hP40, h40⟩ hKx40
  haveI := h40.cel
  refine K9 M40 _ rfl rfl PickC.perm (fun x hx => hKx40 (hKn rfl) x (by simpa using hx)) fun w0 => (F2 (Mc := M40) (R := _) (aS rfl (aS rfl (aS rfl (a0)))) kR PickC.perm (A0M pb ((L7 (L7 s sx h.ia) k.agree h.key)) q1 wk sx h.key M40 _ hP40 (by omega) (hq1.mono SubC.sub) (gh.key.mono SubC.sub) hG.up) rfl ?_)
  rintro v45 M45 J45 ⟨hP45, h45⟩ hKx45
  haveI := h45.cel
  refine K9 [] _ rfl rfl (List.Perm.refl _) (fun _ h => by cases h) fun w0 => (C8 (e := 27) (sz := 1) (z := [.slice none 0 0, .slice none 0 0, .slice none 0 0]) kR (eS rfl (eS rfl (eS rfl e0))) (bdS 0 1 rfl (by rfl) (bdS 1 1 rfl (by rfl) (bdS 2 1 rfl (by rfl) bd0))) rfl fun b46 => fun hk46 => ?_)
  dsimp only [List.cons_append, List.nil_append, List.append_eq]
  refine L6 hs rfl (H7 rfl) rfl ?_
  refine Q3 (F9 0 1 5 9 11) ?_
  refine A0g (α := Value × Mem × Mem × Option (List Nat)) (fun y => [(0, .pointer (some ⟨pb, 0, none⟩)), (9, q1), (11, y.1)]) (fun y => y.2.1) (fun y => y.2.2.1) (fun y => Prm pb (agS s (anP k.agree sx y.2.2.2 h)) y.2.1 ∧ LsV (y.2.2.1 ++ A) y.1 (agK s (anP k.agree sx y.2.2.2 h)) ∧ By y.2.2.1 q1 sx ∧ anR k h s = anE k.agree sx y.2.2.2 h s) ?_ ?_
  ·
   refine A0L (B := [(b46, blk [v34, v40, v45] 27)]) PickC.perm ?_
   refine A3 ?_
   refine A4 (qf_ 4 4) rfl ?_
   refine A4 ql_ rfl ?_
   refine A0 (I4 0 1 5 9 11 48) ?_
   refine C7 rfl (fun hc => ?_) (fun hc => ?_)
   ·
    refine A3 (mv_ ?_)
    refine A4 (qf_ 5 5) rfl ?_
    refine A4 ql_ rfl ?_
    refine D0 (aS rfl (aS rfl a0)) kR (B9i kb k va vg vq vo vm rs ro rm h.once _ (hK.mono SubC.sub) hrise) rfl ?_
    rintro r53 M53 J53 ⟨rfl, q2, rfl, hq2⟩
    haveI := hq2.cel
    refine mv_ ?_
    refine A4 (A2I rfl) rfl ?_
    refine A4 (A2v rfl) rfl ?_
    refine as_ (as_ (A0 (I4 0 5 9 11 12 13) (A5 ?_)))
    cases hog : A1u k.once h.once with
    | none => ?_
    | some ox => ?_
    ·
     refine A3 (mv_ ?_)
     refine A4 (V3 rfl) rfl ?_
     refine A0 (I4 0 5 9 11 12 57) ?_
     refine E0 rfl ?_
     refine A3 (as_ (as_ (as_ (A0 (E1 6 7 8) (C1 (tr (jr ?_)))))))
     exact ⟨_, M45, [], B9v rfl rfl rfl rfl, Fit.none (Fit.last PickC.perm), by rw [B1S hsg hc hog]; exact ⟨_, _, rfl, hP45, By.nil, By.nil⟩⟩
    ·
     rw [hog] at hq2
     change By _ q2 ox at hq2
     refine A3 (mv_ ?_)
     refine A4 (V3 rfl) rfl ?_
     refine A0 (I4 0 5 9 11 12 57) ?_
     refine D6 rfl ?_
     refine A9 (nx (F9 0 5 9 11 12) (C2 (mv_ (mv_ (mv_ ?_)))))
     refine A4 (qf_ 2 2) rfl ?_
     refine A4 ql_ rfl ?_
     refine A6 rfl (F2 (Mc := M45) (R := _) (aS rfl (aS rfl (aS rfl (a0)))) kR PickC.perm (A0M pb (L7 (L7 (L7 s sx h.ia) k.agree h.key) sx h.key) q2 wk ox h.key M45 _ hP45 (by omega) (hq2.mono SubC.sub) (gh.key.mono SubC.sub) hG.up) rfl ?_)
     rintro v63 M63 J63 ⟨hP63, h63⟩
     haveI := h63.cel
     refine A6 rfl (C8 (e := 27) (sz := 1) (z := [.slice none 0 0]) kR (eS rfl e0) (bdS 0 1 rfl (by rfl) bd0) rfl fun b64 => ?_)
     refine A6 rfl (A3j (e := 27) (sz := 1) (by_ := 24) (xs := [v34, v40, v45]) rfl rfl kR rfl (Rd.whole (n := 3) At.mem (by rfl)) (Rd.whole (n := 1) At.mem (by rfl)) (by decide) (by decide) (by decide) rfl fun v65 B65 hs65 => ?_)
     haveI := hs65.cel
     refine A7X (B := B65) PickC.perm ?_
     refine as_ (D1 ?_)
     exact jn (v65, M63, _, some ox) ⟨hP63, ⟨[v34, v40, v45] ++ [v63], hs65.rd SubC.sub, Lst.cons (h34.mono SubC.sub) (Lst.cons (h40.mono SubC.sub) (Lst.cons (h45.mono SubC.sub) (Lst.cons (h63.mono SubC.sub) Lst.nil)))⟩, hq1.mono SubC.sub, A7w hsg hc hog⟩ (E1 0 9 11) (Fit.last PickC.perm) (fun _ h => h)
   ·
    refine A9 ?_
    exact jn (.slice (some ⟨b46, 0, none⟩) 3 3, M45, _, none) ⟨hP45, ⟨[v34, v40, v45], Rd.whole (n := 3) At.mem (by rfl), Lst.cons (h34.mono SubC.sub) (Lst.cons (h40.mono SubC.sub) (Lst.cons (h45.mono SubC.sub) Lst.nil))⟩, hq1.mono SubC.sub, A5o hsg hc⟩ (E1 0 9 11) (Fit.last PickC.perm) (fun _ h => h)
  ·
   rintro ⟨lv, MJ, J9, xo⟩ ⟨hPJ, hLJ, hqJ, hR⟩
   dsimp only at hPJ hLJ hqJ hR ⊢
   haveI := hLJ.cel
   have hzl : (agK s (anP k.agree sx xo h)).length ≤ 4 := by rw [A7u]; unfold anP; split <;> simp
   have hzs := A7t (anP k.agree sx xo h) s
   have hz0 : (anP k.agree sx xo h).length ≤ 4 := by unfold anP; split <;> simp
   refine A3 (mv_ (mv_ ?_))
   refine A6 rfl (F2 (Mc := MJ) (R := _) (aS rfl (aS rfl (a0))) kR PickC.perm (A3I pb _ lv _ MJ _ hPJ (hLJ.mono SubC.sub) (by omega) (by omega) hG.up) rfl ?_)
   rintro v68 M68 J68 ⟨hP68, h68⟩
   haveI := h68.cel
   refine mv_ (as_ (as_ (as_ (A0 (E1 6 7 8) (C1 ?_)))))
   exact ⟨_, M68, [], B9v rfl rfl rfl rfl, Fit.none (Fit.last PickC.perm), by rw [hR]; exact ⟨_, _, rfl, hP68, h68.mono SubC.sub, hqJ.mono SubC.sub⟩⟩

end Go.Proofs.YthbhpfefdnffaaaGreatDoor
namespace Go.Px
def A3J : List Nat → List (Nat × Nat)
  | [] => []
  | [q] => [(q, 10)]
  | q :: q' :: r => (q, 9) :: A3J (q' :: r)
def A9y (qs : List Nat) : List Nat → List (Nat × Nat)
  | [] => A3J qs
  | i :: r => (i, 8) :: A9y qs r
theorem B7A (plan : List (Nat × Nat)) : ∀ {qs : List Nat}, qs ≠ [] → grz (A3J qs ++ plan) = qs ∧ qsz (A3J qs ++ plan) = qs
  | [], h => absurd rfl h
  | [q], _ => ⟨rfl, rfl⟩
  | q :: q' :: r, _ => by
    obtain ⟨h1, h2⟩ := B7A plan (qs := q' :: r) (by simp)
    refine ⟨?_, ?_⟩
    · show q :: grz (A3J (q' :: r) ++ plan) = _; rw [h1]
    · show q :: qsz (A3J (q' :: r) ++ plan) = _; rw [h2]
theorem A7x {qs : List Nat} (plan : List (Nat × Nat)) (h : qs ≠ []) : ∀ r : List Nat, grz (A9y qs r ++ plan) = r ++ qs ∧ qsz (A9y qs r ++ plan) = qs
  | [] => B7A plan h
  | i :: r => by
    obtain ⟨h1, h2⟩ := A7x plan h r
    refine ⟨?_, ?_⟩
    · show i :: grz (A9y qs r ++ plan) = _; rw [h1]; rfl
    · show qsz (A9y qs r ++ plan) = _; rw [h2]
inductive GOz (ops : Array Oper) (qs : List Nat) : Array Bool → List Nat → Array Bool → Prop
  | nil {A : Array Bool} : GOz ops qs A [] A
  | cons {A B : Array Bool} {i : Nat} {r : List Nat} (hr : i ∈ Region.ready .any ops A) (ho : i ∉ qs → ∀ j, j < ops.size → A.getD j true = false → j ∉ i :: r → anc ops ops.size j i = true) (h : GOz ops qs (A.setIfInBounds i true) r B) : GOz ops qs A (i :: r) B
theorem A8C {ops : Array Oper} {nd : List Nat} {Q : List Nat} {plan : List (Nat × Nat)} : ∀ {qs : List Nat} {A : Array Bool}, qs ≠ [] → (∀ q ∈ qs, q ∈ Q) → I3 ops nd (A3J qs ++ plan) A = true → ∃ B, GOz ops Q A qs B ∧ (∀ q ∈ qs, A2t ops A q = true) ∧ I3 ops nd plan B = true
  | [], A, h, _, _ => absurd rfl h
  | [q], A, _, hQ, h => by
    simp only [A3J, List.cons_append, List.nil_append, I3, Bool.and_eq_true] at h
    exact ⟨_, .cons (by simpa using h.1.1) (fun hq => absurd (hQ q (by simp)) hq) .nil, (fun x hx => by rw [List.mem_singleton.1 hx]; exact h.1.2), h.2⟩
  | q :: q' :: r, A, _, hQ, h => by
    simp only [A3J, List.cons_append, I3, Bool.and_eq_true] at h
    obtain ⟨B, hB, -, hp⟩ := A8C (qs := q' :: r) (by simp) (fun x hx => hQ x (List.mem_cons_of_mem _ hx)) h.2
    refine ⟨B, .cons (by simpa using h.1.1) (fun hq => absurd (hQ q (by simp)) hq) hB, fun x hx => ?_, hp⟩
    have h2 := h.1.2
    rw [(B7A plan (qs := q' :: r) (by simp)).2] at h2
    exact List.all_eq_true.1 h2 x hx
theorem B1V {ops : Array Oper} {nd : List Nat} {qs : List Nat} {plan : List (Nat × Nat)} (hne : qs ≠ []) : ∀ {is : List Nat} {A : Array Bool}, I3 ops nd (A9y qs is ++ plan) A = true → ∃ B, GOz ops qs A (is ++ qs) B ∧ (∀ q ∈ qs, A2t ops A q = true) ∧ I3 ops nd plan B = true
  | [], A, h => A8C hne (fun _ h => h) h
  | i :: r, A, h => by
    simp only [A9y, List.cons_append, I3, A5u, Bool.and_eq_true, List.all_eq_true, List.mem_range, Bool.or_eq_true, (A7x plan hne r).1, (A7x plan hne r).2] at h
    obtain ⟨B, hB, -, hp⟩ := B1V hne (is := r) h.2
    refine ⟨B, .cons (by simpa using h.1.1.1) (fun _ j hj hu hn => ?_) hB, h.1.2, hp⟩
    rcases h.1.1.2 j hj with (h1 | h1) | h1
    · rw [hu] at h1; cases h1
    · exact absurd (by simpa using h1) hn
    · exact h1
theorem GOz.mark {ops : Array Oper} {q : List Nat} {A B : Array Bool} {is : List Nat} (h : GOz ops q A is B) : B = mark A is := by
  induction h with
  | nil => rfl
  | cons _ _ _ ih => rw [ih]; rfl
theorem GOz.un {ops : Array Oper} {q : List Nat} {A B : Array Bool} {is : List Nat} (h : GOz ops q A is B) : ∀ i ∈ is, A.getD i true = false := by
  induction h with
  | nil => intro i hi; cases hi
  | @cons A B i r hr ho h ih =>
    intro k hk
    rcases List.mem_cons.1 hk with rfl | hk
    · exact G7 hr
    · have h2 := ih k hk
      by_cases e : i = k
      · subst e; exact G7 hr
      · rwa [getD_set_ne true e] at h2
theorem GOz.outer {ops : Array Oper} {q : List Nat} {A B : Array Bool} {is : List Nat} (h : GOz ops q A is B) : ∀ i ∈ is, i ∉ q → ∀ j, j < ops.size → A.getD j true = false → j ∉ is → anc ops ops.size j i = true := by
  induction h with
  | nil => intro i hi; cases hi
  | @cons A B i r hr ho h ih =>
    intro k hk hq j hj hu hn
    rcases List.mem_cons.1 hk with rfl | hk
    · exact ho hq j hj hu hn
    · have hne : i ≠ j := fun e => hn (e ▸ List.mem_cons_self)
      exact ih k hk hq j hj (by rw [getD_set_ne true hne]; exact hu) (fun hm => hn (List.mem_cons_of_mem _ hm))
theorem GOz.first {ops : Array Oper} {q : List Nat} {A B : Array Bool} {is : List Nat} (h : GOz ops q A is B) {A' : Array Bool} (hsz : A'.size = A.size) (hm : ∀ j, A.getD j false = true → A'.getD j false = true) {k : Nat} (hk : k ∈ is) (hk' : A'.getD k true = false) : ∃ i, i ∈ is ∧ i ∈ Region.ready .any ops A' := by
  induction h generalizing k with
  | nil => cases hk
  | @cons A B i r hr ho h ih =>
    by_cases hi : A'.getD i true = false
    · exact ⟨i, List.mem_cons_self, A15 hr hi hm⟩
    · rcases List.mem_cons.1 hk with rfl | hk
      · exact absurd hk' hi
      · obtain ⟨x, hx1, hx2⟩ := ih (by simpa using hsz) (fun j hj => by
          by_cases e : i = j
          · subst e
            have hlt := N7 (G7 hr)
            have hlt' : i < A'.size := by omega
            simp [hlt'] at hi ⊢; exact hi
          · rw [getD_set_ne false e] at hj
            exact hm j hj) hk hk'
        exact ⟨x, List.mem_cons_of_mem _ hx1, hx2⟩
section group
variable {C : Cx} {Q : XQ} {l : Env} {M M0 J : Mem} {os : List Oper} {K : Nat → Prop} {n0 : Nat} {nd : List Nat} {plan : List (Nat × Nat)}
def B7B (C : Cx) (os : List Oper) (l : Env) (J : Mem) (G : List Gc) (g : Gc) : Prop :=
  g.s = none ∧ g.m = [] ∧ ∃ op ty pos af, nth os g.i = some ⟨some g.d, op, ty, pos, af, none⟩ ∧ ∀ (vs : Nat → Value) (bs : Nat → Mem) (Rj : Mem), (∀ x ∈ J ++ C.A, x ∈ Rj) → (∀ g' ∈ G, anc os.toArray os.toArray.size g.i g'.i = true → g'.φ (vs g'.i) (bs g'.i) Rj) →
    ∃ v, OpQ C.P [] ⟨some g.d, op, ty, pos, af, none⟩ (V2 G vs ++ l) v ∧ g.φ v [] Rj
theorem B1W {G : List Gc} (hmono : ∀ g ∈ G, Z9 g.φ) (hd : (G.map (·.d)).Nodup) (hi : (G.map (·.i)).Nodup) (hc : ChainOk os.toArray G) (hKn : ∀ b, n0 ≤ b → K b) (hK : ∀ m ∈ A1X G, ∀ x ∈ m, K x.1) (hs : Region.noSelect os.toArray = true) (hdN : ∀ g ∈ G, g.d < C.N) {qs : List Nat} (hob : ∀ g ∈ G, g.i ∉ qs → B1H C os l M0 J G g) (hoq : ∀ g ∈ G, g.i ∈ qs → B7B C os l J G g) {A B : Array Bool} (hok : GOz os.toArray qs A (G.map (·.i)) B) (hfr : ∀ q ∈ qs, A2t os.toArray A q = true)
    (hfin : ∀ (vs : Nat → Value) (bs : Nat → Mem) Jn a w, (∀ g ∈ G, g.φ (vs g.i) (bs g.i) ((Jn ++ J) ++ C.A)) → (∀ g ∈ G, ∀ x ∈ bs g.i, K x.1) → Ag C.N (V2 G vs ++ l) a → St C ((A9k G bs).flatten ++ M0) (Jn ++ J) w → n0 ≤ w.heap.size → U2 C.P os.toArray (L9 (A3T C Q)) (Sk K) nd.contains plan.length B a w) :
    ∀ (n : Nat) (X : List Nat) (vs : Nat → Value) (bs : Nat → Mem) (Jn : Mem) (a : Act) (w : World), X.Nodup → (∀ i ∈ X, i ∈ G.map (·.i)) → n + X.length = G.length → L3 os.toArray (mark A X) → (∀ g ∈ G, g.i ∈ X → ∀ s, g.s = some s → s ∈ X) →
      (∀ g ∈ G, g.i ∈ X → g.φ (vs g.i) (bs g.i) ((Jn ++ J) ++ C.A)) → (∀ g ∈ G, g.i ∈ X → ∀ x ∈ bs g.i, K x.1) → Ag C.N (V2 G vs ++ l) a → St C (A7p X bs G ++ M0) (Jn ++ J) w → n0 ≤ w.heap.size →
      U2 C.P os.toArray (L9 (A3T C Q)) (Sk K) nd.contains (n + plan.length) (mark A X) a w := by
  intro n
  induction n with
  | zero =>
    intro X vs bs Jn a w hnd hX hlen hcl hXs hφ hN ha hw hn
    have hall : ∀ i, i ∈ X ↔ i ∈ G.map (·.i) := fun i => ⟨hX i, Z8 hnd hX (by simp; omega) i⟩
    have hin : ∀ g ∈ G, g.i ∈ X := fun g hg => (hall _).2 (List.mem_map_of_mem (f := Gc.i) hg)
    have hcur := A8w (bs := bs) hin
    rw [hcur] at hw
    rw [Nat.zero_add, A14 hall, ← hok.mark]
    exact hfin vs bs Jn a w (fun g hg => hφ g hg (hin g hg)) (fun g hg => hN g hg (hin g hg)) ha hw hn
  | succ n ih =>
    intro X vs bs Jn a w hnd hX hlen hcl hXs hφ hN ha hw hn
    have hun : ∀ i ∈ G.map (·.i), A.getD i true = false := hok.un
    by_cases hqe : ∃ g ∈ G, g.i ∈ qs ∧ g.i ∈ Region.ready .any os.toArray (mark A X)
    · obtain ⟨g, hg, hgq, hqr⟩ := hqe
      obtain ⟨hsn, hmn, op, ty, pos, af, hget, howe⟩ := hoq g hg hgq
      have hi' : os.toArray[g.i]? = some ⟨some g.d, op, ty, pos, af, none⟩ := by rw [R5] at hget; simpa using hget
      have hiG : g.i ∈ G.map (·.i) := List.mem_map_of_mem (f := Gc.i) hg
      have hiX : g.i ∉ X := fun h => (F3.1 (G7 hqr)).2 ⟨h, N7 (hun _ hiG)⟩
      obtain ⟨v, hq, hφv⟩ := howe vs bs ((Jn ++ J) ++ C.A) (fun x hx => by simp only [List.mem_append] at hx ⊢; rcases hx with h | h <;> simp [h]) (fun g' hg' hanc => hφ g' hg' (by
        have h3 := K2 hcl hanc hqr
        rcases Q4 h3 with h4 | h4
        · exact (L4 (hun _ (List.mem_map_of_mem (f := Gc.i) hg')) h4).elim
        · exact h4))
      rw [show n + 1 + plan.length = (n + plan.length) + 1 by omega]
      refine S7 (S := Sk K) (T := fun _ => True) (N := 0) (v := v) hi' (Region.noSelect_spec hs) (fun _ _ _ h => h) (fun _ _ _ _ => rfl) _ (mark A X) a w hcl (fun j oj hj hne hun' hno => A3W hi' (hfr _ hgq) j oj hj hne (F3.1 hun').1 (by
        cases ha0 : anc os.toArray os.toArray.size g.i j with
        | false => rfl
        | true => exact (L4 hun' (K2 hcl ha0 hqr)).elim) hno) (fun _ _ _ _ => .inr fun _ _ _ _ => trivial) hqr (.inl ⟨rfl, fun w hw => hq C.N a w ha (fun _ _ hb => by cases hb)⟩) trivial ?_
      rw [← K7]
      have hsx : ∀ s, g.s = some s → s ∈ X := fun s hs' => by rw [hsn] at hs'; cases hs'
      obtain ⟨R0, hp0, hq0⟩ := A3H (bs := bs) hi hc hg hiX hXs hsx
      rw [Gc.inp_none hsn, hmn] at hp0
      let bs' : Nat → Mem := fun k => if k = g.i then [] else bs k
      have hperm : (A7p X bs G ++ M0).Perm (A7p (X ++ [g.i]) bs' G ++ M0) := List.Perm.append_right _ (hp0.trans (hq0 []))
      have ha' : Ag C.N ((g.d, v) :: (V2 G vs ++ l)) (a.put (some g.d) v) := ha.put (hdN g hg) v
      have henv := Y3 (N := C.N) (G := B4h G) (l := l) (vs := vs) (g := ⟨g.i, g.d, fun _ _ => True⟩) (a := a.put (some g.d) v) (v := v) (List.mem_map_of_mem (f := fun g : Gc => (⟨g.i, g.d, fun _ _ => True⟩ : Gm)) hg) (by rw [B1F]; exact hd) (by rw [B1E]; exact hi) (by rw [A01]; exact ha')
      rw [A01] at henv
      refine ih (X ++ [g.i]) (fun k => if k = g.i then v else vs k) bs' Jn (a.put (some g.d) v) w ?_ ?_ (by simp; omega) ?_ ?_ ?_ ?_ henv (hw.perm hperm) hn
      · rw [List.nodup_append]; exact ⟨hnd, by simp, fun x hx y hy e => hiX (by simp at hy; subst hy; exact e ▸ hx)⟩
      · intro j hj
        rcases List.mem_append.1 hj with hj | hj
        · exact hX j hj
        · simp at hj; subst hj; exact hiG
      · rw [K7]; exact G2 hcl hqr
      · intro g' hg' hm s hs'
        rcases List.mem_append.1 hm with h | h
        · exact List.mem_append_left _ (hXs g' hg' h s hs')
        · have h2 : g' = g := Y9 hi hg' hg (by simpa using h)
          subst h2
          exact List.mem_append_left _ (hsx s hs')
      · intro g' hg' hm
        by_cases e : g'.i = g.i
        · have : g' = g := Y9 hi hg' hg e
          subst this
          simp only [if_true, bs']
          exact hφv
        · simp only [e, if_false, bs']
          exact hφ g' hg' (by simpa [e] using hm)
      · intro g' hg' hk x hx
        by_cases e : g'.i = g.i
        · simp only [e, if_true, bs'] at hx
          cases hx
        · simp only [e, if_false, bs'] at hx
          exact hN g' hg' (by simpa [e] using hk) x hx
    have hmiss : ∃ k ∈ G.map (·.i), k ∉ X ∧ k ∉ qs := by
      apply Classical.byContradiction
      intro hno
      have hs' : ∀ k ∈ G.map (·.i), k ∉ qs → k ∈ X := fun k hk hne => Classical.byContradiction fun h => hno ⟨k, hk, h, hne⟩
      by_cases hall : ∀ k ∈ G.map (·.i), k ∈ X
      · have := A0h hi hall
        simp at this; omega
      · obtain ⟨k, hk⟩ := Classical.not_forall.1 hall
        obtain ⟨hkG, hkX⟩ := Classical.not_imp.1 hk
        obtain ⟨i, hiG, hir⟩ := hok.first (U9 A X) (fun j hj => V0 hj) hkG (F3.2 ⟨hun _ hkG, fun h => hkX h.1⟩)
        have hiX : i ∉ X := fun h => (F3.1 (G7 hir)).2 ⟨h, N7 (hun _ hiG)⟩
        by_cases e : i ∈ qs
        · obtain ⟨g, hg, rfl⟩ := List.mem_map.1 hiG
          exact hqe ⟨g, hg, e, hir⟩
        · exact hiX (hs' i hiG e)
    obtain ⟨k, hkG, hkX, hkq⟩ := hmiss
    have hkun : (mark A X).getD k true = false := F3.2 ⟨hun k hkG, fun h => hkX h.1⟩
    rw [show n + 1 + plan.length = (n + plan.length) + 1 by omega]
    refine ⟨fun h0 => ?_, fun i hir => ?_⟩
    · obtain ⟨i, -, hir⟩ := hok.first (U9 A X) (fun j hj => V0 hj) hkG hkun
      rw [h0] at hir; cases hir
    · have hiG : i ∈ G.map (·.i) := by
        apply Classical.byContradiction
        intro hno
        have h1 := F3.1 (G7 hir)
        have h2 := hok.outer k hkG hkq i (A0V hir) h1.1 hno
        exact L4 hkun (K2 hcl h2 hir)
      obtain ⟨g, hg, rfl⟩ := List.mem_map.1 hiG
      have hiX : g.i ∉ X := fun h => (F3.1 (G7 hir)).2 ⟨h, N7 (hun _ hiG)⟩
      have hin : ∀ j ∈ G.map (·.i), anc os.toArray os.toArray.size g.i j = true → j ∈ X := fun j hj hanc => by
        have h3 := K2 hcl hanc hir
        rcases Q4 h3 with h4 | h4
        · exact (L4 (hun _ hj) h4).elim
        · exact h4
      have hsx : ∀ s, g.s = some s → s ∈ X := fun s hs => hin s (hc.mem g hg s hs) (hc.anc g hg s hs)
      have hKi : ∀ x ∈ g.inp bs, K x.1 := by
        intro x hx
        cases hs : g.s with
        | none =>
          rw [Gc.inp_none hs] at hx
          exact hK g.m (List.mem_map.2 ⟨g, List.mem_filter.2 ⟨hg, by simp [hs]⟩, rfl⟩) x hx
        | some s =>
          rw [Gc.inp_some hs] at hx
          obtain ⟨gs, hgs, rfl⟩ := List.mem_map.1 (hc.mem g hg s hs)
          exact hN gs hgs (hsx _ hs) x hx
      obtain ⟨o, hget, howe⟩ := hob g hg (fun e => hqe ⟨g, hg, e, hir⟩)
      have hi' : os.toArray[g.i]? = some o := by rw [R5] at hget; simpa using hget
      obtain ⟨hask, hop⟩ := howe vs bs (M0 ++ ((Jn ++ J) ++ C.A)) ((Jn ++ J) ++ C.A) w (fun x hx => by simp only [List.mem_append] at hx ⊢; rcases hx with h | h | h <;> simp [h]) (fun x hx => by simp only [List.mem_append] at hx ⊢; rcases hx with h | h <;> simp [h]) (fun x hx => List.mem_append_right _ hx) (fun g' hg' hanc => hφ g' hg' (hin _ (List.mem_map_of_mem (f := Gc.i) hg') hanc))
      unfold wpOp
      simp only [hi']
      rw [if_pos (hask.wanted ha)]
      obtain ⟨R0, hp0, hq0⟩ := A3H (bs := bs) hi hc hg hiX hXs hsx
      have hpc : (A7p X bs G ++ M0).Perm (g.inp bs ++ (R0 ++ M0)) := by
        rw [← List.append_assoc]; exact List.Perm.append_right _ hp0
      have hcal := hw.callee hpc
      have hcal2 := St.less (A := M0 ++ ((Jn ++ J) ++ C.A)) hcal fun x hx => by
        simp only [List.mem_append] at hx ⊢
        rcases hx with h | h
        · exact .inl (.inr h)
        · exact .inr h
      refine .inl (Oper.wp_mono ?_ (hop _ a w ha hcal2.cx))
      rintro a' w' ⟨l', M', J', ha', hs', v, rfl, hφv⟩
      have hsz : w.heap.size ≤ w'.heap.size := hs'.size
      have hs2 := St.widen hcal.cx hs'
      have hb := hw.back hpc hs2.cx
      let bs' : Nat → Mem := fun k => if k = g.i then M' else bs k
      have hperm : (M' ++ (R0 ++ M0)).Perm (A7p (X ++ [g.i]) bs' G ++ M0) := by
        rw [← List.append_assoc]
        exact List.Perm.append_right _ (hq0 M')
      have hfr2 : St C (A7p (X ++ [g.i]) bs' G ++ M0) ((J' ++ Jn) ++ J) w' := (hb.perm hperm).drop (List.Sublist.refl _) fun x hx => by
        simp only [List.mem_append] at hx ⊢
        rcases hx with (h | h) | h <;> simp [h]
      refine ⟨fun _ b hb' hnk => hs'.frame b hb' fun hm => ?_, ?_⟩
      · obtain ⟨x, hx, e⟩ := List.mem_map.1 hm
        exact hnk (e ▸ hKi x hx)
      rw [← K7]
      have henv := Y3 (N := C.N) (G := B4h G) (l := l) (vs := vs) (g := ⟨g.i, g.d, fun _ _ => True⟩) (a := a') (v := v) (List.mem_map_of_mem (f := fun g : Gc => (⟨g.i, g.d, fun _ _ => True⟩ : Gm)) hg) (by rw [B1F]; exact hd) (by rw [B1E]; exact hi) (by rw [A01]; exact ha')
      rw [A01] at henv
      refine ih (X ++ [g.i]) (fun k => if k = g.i then v else vs k) bs' (J' ++ Jn) a' w' ?_ ?_ (by simp; omega) ?_ ?_ ?_ ?_ henv hfr2 (Nat.le_trans hn hsz)
      · rw [List.nodup_append]; exact ⟨hnd, by simp, fun x hx y hy e => hiX (by simp at hy; subst hy; exact e ▸ hx)⟩
      · intro j hj
        rcases List.mem_append.1 hj with hj | hj
        · exact hX j hj
        · simp at hj; subst hj; exact hiG
      · rw [K7]; exact G2 hcl hir
      · intro g' hg' hm s hs
        rcases List.mem_append.1 hm with h | h
        · exact List.mem_append_left _ (hXs g' hg' h s hs)
        · have h2 : g' = g := Y9 hi hg' hg (by simpa using h)
          subst h2
          exact List.mem_append_left _ (hsx s hs)
      · intro g' hg' hm
        by_cases e : g'.i = g.i
        · have : g' = g := Y9 hi hg' hg e
          subst this
          simp only [if_true, bs']
          exact hmono g' hg' _ _ _ _ (fun x hx => by simp only [List.mem_append] at hx ⊢; rcases hx with h | (h | h) | h <;> simp [h]) hφv
        · simp only [e, if_false, bs']
          have hm' : g'.i ∈ X := by simpa [e] using hm
          exact hmono g' hg' _ _ _ _ (fun x hx => by simp only [List.mem_append] at hx ⊢; rcases hx with (h | h) | h <;> simp [h]) (hφ g' hg' hm')
      · intro g' hg' hk x hx
        by_cases e : g'.i = g.i
        · have : g' = g := Y9 hi hg' hg e
          subst this
          simp only [if_true, bs'] at hx
          rcases hs'.own x.1 x.2 (by simp [hx]) with h6 | h6
          · obtain ⟨y, hy, e6⟩ := List.mem_map.1 h6
            exact e6 ▸ hKi y hy
          · exact hKn _ (Nat.le_trans hn h6)
        · simp only [e, if_false, bs'] at hx
          have hk' : g'.i ∈ X := by simpa [e] using hk
          exact hN g' hg' hk' x hx
theorem A3K (G0 Gq : List Gc) (M0 : Mem) (Lf : (Nat → Mem) → List Mem) (hKn : ∀ b, n0 ≤ b → K b) (hM : M.Perm (A1t (A1X (G0 ++ Gq)) M0)) (hK : ∀ m ∈ A1X (G0 ++ Gq), ∀ x ∈ m, K x.1) (hck : A7q os.toArray ((G0 ++ Gq).map fun g => (g.i, g.s)) = true) (hLf : ∀ bs, A9k (G0 ++ Gq) bs = Lf bs)
    (hmono : ∀ g ∈ G0 ++ Gq, Z9 g.φ) (hd : ((G0 ++ Gq).map (·.d)).Nodup) (hi : ((G0 ++ Gq).map (·.i)).Nodup) (hdN : ∀ g ∈ G0 ++ Gq, g.d < C.N) (hs : Region.noSelect os.toArray = true) (hne : Gq.map (·.i) ≠ []) (hob0 : ∀ g ∈ G0, B1H C os l M0 J (G0 ++ Gq) g) (hoq0 : ∀ g ∈ Gq, B7B C os l J (G0 ++ Gq) g)
    (h : ∀ (vs : Nat → Value) (bs : Nat → Mem) Jn, (∀ g ∈ G0 ++ Gq, g.φ (vs g.i) (bs g.i) ((Jn ++ J) ++ C.A)) → (∀ g ∈ G0 ++ Gq, ∀ x ∈ bs g.i, K x.1) → XK C os Q K n0 nd plan (V2 (G0 ++ Gq) vs ++ l) (A1t (Lf bs) M0) (Jn ++ J)) : XK C os Q K n0 nd (A9y (Gq.map (·.i)) (G0.map (·.i)) ++ plan) l M J := by
  refine A0G hM ?_
  rw [A2P]
  intro listed hcl hp a w ha hw hn
  obtain ⟨B, hok, hfr, hp2⟩ := B1V hne hp
  have hBcl : L3 os.toArray B := by
    have : ∀ {A is B}, GOz os.toArray (Gq.map (·.i)) A is B → L3 os.toArray A → L3 os.toArray B := by
      intro A is B h
      induction h with
      | nil => exact id
      | cons hr _ _ ih => exact fun hc => ih (G2 hc hr)
    exact this hok hcl
  rw [← List.map_append] at hok
  have hlen : (A9y (Gq.map (·.i)) (G0.map (·.i)) ++ plan).length = (G0 ++ Gq).length + plan.length := by
    have h1 : ∀ qs : List Nat, (A3J qs).length = qs.length := by
      intro qs
      induction qs with
      | nil => rfl
      | cons q r ih => cases r with
        | nil => rfl
        | cons q' r => simp only [A3J, List.length_cons] at ih ⊢; rw [ih]
    have h2 : ∀ (qs is : List Nat), (A9y qs is).length = is.length + qs.length := by
      intro qs is
      induction is with
      | nil => simp [A9y, h1]
      | cons i r ih => simp only [A9y, List.length_cons, ih]; omega
    simp [h2]
  have hob : ∀ g ∈ G0 ++ Gq, g.i ∉ Gq.map (·.i) → B1H C os l M0 J (G0 ++ Gq) g := fun g hg hq => by
    rcases List.mem_append.1 hg with h1 | h1
    · exact hob0 g h1
    · exact absurd (List.mem_map_of_mem (f := Gc.i) h1) hq
  have hoq : ∀ g ∈ G0 ++ Gq, g.i ∈ Gq.map (·.i) → B7B C os l J (G0 ++ Gq) g := fun g hg hq => by
    obtain ⟨g', hg', e⟩ := List.mem_map.1 hq
    have := Y9 hi (List.mem_append_right _ hg') hg e
    exact this ▸ hoq0 g' hg'
  rw [hlen]
  generalize Gq.map (·.i) = qs at *
  generalize G0 ++ Gq = G at *
  let vs : Nat → Value := fun k => match G.find? (fun g => g.i == k) with
    | some g => (a.tmps[g.d]?).getD undef
    | none => undef
  have hag : Ag C.N (V2 G vs ++ l) a := by
    refine ⟨ha.defers, ha.size, ?_⟩
    intro k u hk
    have key : ∀ G' : List Gc, (∀ g ∈ G', g ∈ G) → lk (V2 G' vs ++ l) k = some u → a.tmps[k]? = some u := by
      intro G'
      induction G' with
      | nil => intro _ h; exact ha.slot k u h
      | cons g G' ih =>
        intro hs h
        simp only [V2, List.map_cons, List.cons_append, lk] at h
        by_cases e : g.d = k
        · subst e
          simp at h
          have hf : G.find? (fun x => x.i == g.i) = some g := by
            have hgG := hs g List.mem_cons_self
            cases hq : G.find? (fun x => x.i == g.i) with
            | none => have := List.find?_eq_none.1 hq g hgG; simp at this
            | some x =>
              have h1 := List.find?_some hq
              have h2 := List.mem_of_find?_eq_some hq
              rw [Y9 hi h2 hgG (by simpa using h1)]
          have hlt : g.d < a.tmps.size := by rw [ha.size]; exact hdN g (hs g List.mem_cons_self)
          rw [← h]
          show a.tmps[g.d]? = some (vs g.i)
          simp only [vs, hf, Array.getElem?_eq_getElem hlt, Option.getD_some]
        · simp only [U7 e, cond_false] at h
          exact ih (fun x hx => hs x (List.mem_cons_of_mem _ hx)) h
    exact key G (fun _ h => h) hk
  refine B1W (n0 := n0) (K := K) hmono hd hi (A8u hck) hKn hK hs hdN hob hoq hok hfr (fun vs bs Jn a w hφ hN ha hw hn => h vs bs Jn hφ hN B hBcl hp2 a w ha (by rw [A2P, ← hLf]; exact hw) hn) G.length [] vs (fun _ => []) [] a w .nil (fun _ h => by cases h) (by simp) hcl (fun _ _ h => by cases h) (fun _ _ h => by cases h) (fun _ _ h => by cases h) hag (by rw [A8v]; exact hw) hn
end group
end Go.Px

namespace Go.Proofs.YthbhpfefdnffaaaGreatDoor
open Go.Px
theorem KyR.lt {R : Mem} {kb : Nat} {k : Ks} {va vg vs vo vm : Value} {rs ro rm : List (List Value)} (h : KyR R kb k va vg vs vo vm rs ro rm) : ∀ w ∈ B4j k, ∀ x ∈ w, x < 256 := by
  intro w hw
  rcases List.mem_cons.1 hw with rfl | hw
  · exact h.agree.lt
  rcases List.mem_cons.1 hw with rfl | hw
  · exact h.sign.lt
  obtain ⟨x, hx, rfl⟩ := List.mem_map.1 hw
  rcases List.mem_append.1 hx with hx | hx
  · obtain ⟨i, hi⟩ := List.getElem?_of_mem hx
    obtain ⟨r, hr, a, b, rfl, h1, -⟩ := h.signedR.get i x hi
    exact h1.lt
  · obtain ⟨i, hi⟩ := List.getElem?_of_mem hx
    obtain ⟨r, hr, a, b, rfl, h1, -⟩ := h.onceR.get i x hi
    exact h1.lt
theorem C0D {k : Ks} {x : Pr} (h : x ∈ k.signed) : x.sec ∈ B4j k := by simp only [B4j, List.mem_cons, List.mem_map, List.mem_append]; exact .inr (.inr ⟨x, .inl h, rfl⟩)
theorem C0E {k : Ks} {x : Pr} (h : x ∈ k.once) : x.sec ∈ B4j k := by simp only [B4j, List.mem_cons, List.mem_map, List.mem_append]; exact .inr (.inr ⟨x, .inr h, rfl⟩)
theorem B5u (u d : Int) (s : Ps) : Ext s (A6y u d s).2 :=
  (((Y8 s).trans (Y8 (D9 s))).trans (B1O (k0N u d s) (D9 (D9 s)))).trans (A8A _ _ _)
def ag0 (m : Nat) : Ps := ⟨m % 2 == 0, [97, 103, 114, 101, 101], 0, []⟩
noncomputable def oA (m : Nat) : Ks × Ps := A6y 0 1 (ag0 m)
noncomputable def oB (m : Nat) : Ks × Ps := A6y 1 1 (oA m).2
structure OpF (m : Nat) (a b : Ks) (s : Ps) : Prop where
  ba : BuI a s
  bb : BuI b s
  sg : ∃ x, b.signed = [x] ∧ x.n = 1 ∧ x.sec.length = 32
  on : onN b = [2, 3, 4, 5]
  nx : b.next = 6
  ts : s.ts.length ≤ 22
  n : s.n ≤ 14
  real : s.real = (m % 2 == 0)
theorem A9m (s : Ps) : (F0 s).length = 32 := by
  cases hr : s.real with
  | true => rw [A4W hr]; unfold B4I; rw [A0T]; decide
  | false => rw [A2N hr]; exact A0l _ (by decide)
theorem A9n (u d : Int) (s : Ps) : (A6y u d s).1.signed = [turnP (k0N u d s) (D9 (D9 s))] := by
  unfold A6y; rw [B1L]; rfl
theorem A8D (m : Nat) : OpF m (oA m).1 (oB m).1 (oB m).2 := by
  have e1 : (ag0 m).ts.length = 0 := rfl
  have e2 : (ag0 m).n = 0 := rfl
  have h1 := A7s 0 1 (ag0 m)
  have h2 := A7s 1 1 (oA m).2
  change (oA m).2.ts.length ≤ _ ∧ (oA m).2.n ≤ _ ∧ _ at h1
  change (oB m).2.ts.length ≤ _ ∧ (oB m).2.n ≤ _ ∧ _ at h2
  have b1 : BuI (oA m).1 (oA m).2 := BuI.new (s := ag0 m) Tok.nil Ar.nil (by omega) (by omega)
  have b2 : BuI (oB m).1 (oB m).2 := BuI.new b1.tok b1.ar (by omega) (by omega)
  have e := B5u 1 1 (oA m).2
  have e' := B5u 0 1 (ag0 m)
  exact ⟨b1.ext e.p b2.tok b2.ar, b2, ⟨_, A9n 1 1 (oA m).2, rfl, A9m _⟩, B9r 1 1 (oA m).2, B4k 1 1 (oA m).2, by omega, by omega, e.p.real.trans e'.p.real⟩
theorem B1X {b : Bn} {l : List Pr} {s : Ps} : ∀ i, (A07 b l s i).2.n = s.n
  | 0 => rfl
  | i + 1 => by
    unfold A07
    cases l[i]? with
    | none => exact B1X i
    | some o => show (K5 _ _).n = _; rw [A0N, B1X i]
theorem B9w {k : Ks} {s : Ps} : (U3 k s).2.n = s.n := by
  unfold U3
  cases k.signed with
  | nil => rfl
  | cons x l => show (A07 _ _ _ _).2.n = _; rw [B1X, A0N]; unfold idS; rw [A0N, A0N]
theorem B7C {k : Ks} {s : Ps} {x : Pr} {sl : List Pr} (hs : k.signed = x :: sl) {j : Nat} (hj : j < k.once.length + 1) : ∃ y xo, (U3 k s).1[j]? = some y ∧ y.user = k.user ∧ y.dev = k.dev ∧ y.ia = idA k s ∧ y.ig = idG k s ∧ y.signed = x.n ∧ y.key = P0 (idS k s) x.sec ∧ y.sig = x.sig ∧ y.has = xo.isSome ∧
    (∀ o, xo = some o → ∃ p, 0 < j ∧ k.once[j - 1]? = some p ∧ o = p.sec ∧ y.once = p.n ∧ y.oncek = P0 (A07 (A9x k x s) k.once (K5 (idS k s) x.sec) (j - 1)).2 p.sec) ∧ (xo = none ↔ j = 0) := by
  obtain ⟨g1, g2, g3, g4⟩ := A4p (s := s) hs
  cases j with
  | zero => exact ⟨_, none, g2, rfl, rfl, rfl, rfl, rfl, rfl, rfl, rfl, fun o h => (by cases h), by simp⟩
  | succ j =>
    obtain ⟨o, ho⟩ : ∃ o, k.once[j]? = some o := ⟨_, List.getElem?_eq_getElem (by omega)⟩
    exact ⟨_, some o.sec, g3 j o ho, rfl, rfl, rfl, rfl, rfl, rfl, rfl, rfl, fun o' h => (by cases h; exact ⟨o, by omega, ho, rfl, rfl, rfl⟩), by simp⟩
theorem B4o {ka kb : Ks} {s S : Ps} {x : Pr} {sl : List Pr} {y : Bn} {xo : Option (List Nat)} (hb : BuI kb s) (hs : kb.signed = x :: sl) (hl : s.ts.length + 200 ≤ 1048576) (ho4 : kb.once.length ≤ 10) (he : Pext (U3 kb s).2 S) (ha : BuI ka S) (l1 : ∀ w ∈ B4j ka, ∀ x ∈ w, x < 256) (l2 : ∀ w ∈ B4j kb, ∀ x ∈ w, x < 256) (hL : S.ts.length + 200 ≤ 1048576) (hn : S.n < 1000000000)
    (y3 : y.ia = idA kb s) (y4 : y.ig = idG kb s) (y5 : y.signed = x.n) (y6 : y.key = P0 (idS kb s) x.sec) (y7 : y.sig = x.sig) (y8 : y.has = xo.isSome) {j : Nat} (y9 : ∀ o, xo = some o → ∃ p, 0 < j ∧ kb.once[j - 1]? = some p ∧ o = p.sec ∧ y.once = p.n ∧ y.oncek = P0 (A07 (A9x kb x s) kb.once (K5 (idS kb s) x.sec) (j - 1)).2 p.sec) :
    ckB S y = true ∧ Agd (stS ka y S) ka.agree (F0 S) kb.agree x.sec xo (stH ka y S) (stK ka y S) ∧ BuI ka (stS ka y S) ∧ Ext S (stS ka y S) ∧ B1k (stS ka y S) ka.sign (stH ka y S).ig ∧ U1 S x.sec y.key := by
  obtain ⟨h1, h2, h3, h4, h5, h6, h7⟩ := hb.bundles hs hl ho4
  have hck : ckB S y = true := by
    unfold ckB
    rw [y6, y5, y7, y4, B9c (by omega) (h4.ext he) (h6.ext he), A3G]; rfl
  obtain ⟨g1, g2, g3, g4⟩ := B4n (b := y) (xo := xo) (kb := kb.agree) (xs := x.sec) ha (by rw [y6]; exact h5.ext he) (by rw [y3]; exact h3.ext he) y8 (fun o ho => by
    obtain ⟨p, q0, q1, q2, q3, q4⟩ := y9 o ho
    refine ⟨?_, q2 ▸ l2 _ (C0E (List.mem_of_getElem? q1))⟩
    rw [q4, q2]
    exact (h7 (j - 1) p q1).ext he) (l1 _ (by simp [B4j])) (l2 _ (C0D (by rw [hs]; simp))) (l2 _ (by simp [B4j])) hL hn
  exact ⟨hck, g1, g2, g3, g4, by rw [y6]; exact h5.ext he⟩
theorem A8E (m : Nat) (A : Mem) (hm : m < 256) (hG : Glb A) : FnX Tryz.prog 15 [.int .u8 ((m : Nat) : Int)] [] A fun q M J => ∃ tb pb ka kb MA MB MP, q = .pointer (some ⟨tb, 0, none⟩) ∧ M = (tb, blk [.pointer (some ⟨pb, 0, none⟩), .pointer (some ⟨ka, 0, none⟩), .pointer (some ⟨kb, 0, none⟩)] 37) :: (MA ++ (MB ++ MP)) ∧ Kys (J ++ A) ka (oA m).1 MA ∧ Kys (J ++ A) kb (oB m).1 MB ∧ Prm pb (oB m).2 MP := by
 refine FnX.enterZ (N := 24) Tryz.func15 rfl rfl rfl fun w_ => ?_
 refine C4 (D8 0) (A3 (as_ (A0 (D8 0) (A3 (mv_ ?_)))))
 refine A4 (A2o (a := m) (b := 2) rfl rfl rfl rfl (by decide)) rfl ?_
 rw [B9s m]
 refine A6 rfl (C8 (e := 5) (sz := 1) (z := [zu8, zu8, zu8, zu8, zu8]) kR (eS rfl (eS rfl (eS rfl (eS rfl (eS rfl e0))))) (bdS 0 1 rfl (by rfl) (bdS 1 1 rfl (by rfl) (bdS 2 1 rfl (by rfl) (bdS 3 1 rfl (by rfl) (bdS 4 1 rfl (by rfl) bd0))))) rfl fun b8 => ?_)
 refine A6 rfl (A31 rfl kR UpC.upd rfl ?_)
 refine A7X (B := [_]) (PickC.sing).perm ?_
 refine D0 (aS rfl (aS rfl a0)) kR (B0p (m % 2 == 0) _ [97, 103, 114, 101, 101] _ ⟨Rd.whole (n := 5) (At.mem) (by rfl), by decide, by decide⟩) rfl ?_
 rintro v10 MP J10 ⟨pb, rfl, hP⟩
 change Prm pb (ag0 m) MP at hP
 have q1 := A7s 0 1 (ag0 m)
 change (oA m).2.ts.length ≤ 11 ∧ (oA m).2.n ≤ 7 ∧ _ at q1
 refine mv_ ?_
 refine A4 (A2I rfl) rfl ?_
 refine A4 (A2v rfl) rfl ?_
 refine as_ (as_ (A0 (D4 3 4) (A5 (A3 (mv_ ?_)))))
 refine A4 (E7 false rfl rfl (neF rfl)) rfl ?_
 refine A0 (D4 3 14) ?_
 refine D6 rfl ?_
 refine A9 (nx (D8 3) (A3 (mv_ (mv_ ?_))))
 refine A4 (F6 (place := fun x => #[(0, 1), (1, 1)][x]?) (z := [.int .i64 0, .int .i64 0]) (fun _ => by kernel_rfl) (eS rfl (eS rfl e0)) (bdS 0 1 rfl (by rfl) (bdS 1 1 rfl (by rfl) bd0))) rfl ?_
 refine A6 rfl (F2 (Mc := MP) (R := _) (aS rfl (aS rfl (a0))) kR PickC.perm (B9q 0 1 pb (ag0 m) MP _ hP (show 0 + 200 ≤ 1048576 by decide) (show 0 + 100 < 1000000000 by decide) hG.up) rfl ?_)
 rintro v18 M18 J18 ⟨ka, MA, MP2, rfl, rfl, hKa, hP2⟩
 refine mv_ ?_
 refine A4 (F6 (place := fun x => #[(0, 1), (1, 1)][x]?) (z := [.int .i64 0, .int .i64 0]) (fun _ => by kernel_rfl) (eS rfl (eS rfl e0)) (bdS 0 1 rfl (by rfl) (bdS 1 1 rfl (by rfl) bd0))) rfl ?_
 refine A6 rfl (F2 (Mc := MP2) (R := _) (aS rfl (aS rfl (a0))) kR PickC.perm (FnX.amb SubC.sub (B9q 1 1 pb (oA m).2 MP2 A hP2 (by omega) (by omega) hG)) rfl ?_)
 rintro v21 M21 J21 ⟨kb, MB, MP3, rfl, rfl, hKb, hP3⟩
 refine A4 (F6 (place := fun x => #[(0, 1), (1, 1), (2, 1)][x]?) (z := [.pointer none, .pointer none, .pointer none]) (fun _ => by kernel_rfl) (eS rfl (eS rfl (eS rfl e0))) (bdS 0 1 rfl (by rfl) (bdS 1 1 rfl (by rfl) (bdS 2 1 rfl (by rfl) bd0)))) rfl ?_
 refine A6 rfl (bx_ fun b23 => ?_)
 refine as_ (A0 (D8 2) (C1 ?_))
 exact ⟨_, (b23, blk [.pointer (some ⟨pb, 0, none⟩), .pointer (some ⟨ka, 0, none⟩), .pointer (some ⟨kb, 0, none⟩)] 37) :: (MA ++ (MB ++ MP3)), [], I2 rfl rfl, Fit.none (Fit.pick (B := [_]) PickC.perm (Fit.pick PickC.perm (Fit.pick PickC.perm (Fit.last PickC.perm)))), b23, pb, ka, kb, MA, MB, MP3, rfl, rfl, hKa.mono SubC.sub, hKb.mono SubC.sub, hP3⟩
def StV (R : Mem) (v : Value) (K : List Nat) (H : He) : Prop := ∃ x p r u, v = .tuple #[x, .agg (heC p r u H).toArray, .int .i64 0] ∧ By R x K ∧ HeR R H p r u
theorem StV.mono {R R' : Mem} {v : Value} {K : List Nat} {H : He} (h : StV R v K H) (hR : ∀ x, x ∈ R → x ∈ R') : StV R' v K H := by
  obtain ⟨x, p, r, u, h1, h2, h3⟩ := h
  exact ⟨x, p, r, u, h1, h2.mono hR, h3.mono hR⟩
theorem A6B (A : Mem) (hG : Glb A) : FnV Tryz.prog 14 [] A (.bool true) := by
 refine FnX.enter (N := 84) Tryz.func14 rfl rfl rfl fun w_ => ?_
 refine C4 kn (A3 (as_ (A0 kn (A3 ?_))))
 refine D0 (aS rfl a0) kR (A8E 1 _ (by decide) hG.up) rfl ?_
 rintro v9 M9 J9 ⟨tb, pb, ka, kb, MA, MB, MP, rfl, rfl, hKa, hKb, hP⟩
 have hF := A8D (1)
 generalize (oA (1)).1 = ak at *
 generalize (oB (1)).1 = bk at *
 generalize (oB (1)).2 = s at *
 obtain ⟨x, hsg, hxn, hxl⟩ := hF.sg
 have hol := B5s bk
 rw [hF.on] at hol
 change 4 = _ at hol
 have hts := hF.ts
 have hsn := hF.n
 have hrise : B5r bk.once := B1N (by rw [show bk.once.map (·.n) = onN bk from rfl, hF.on]; decide)
 refine as_ (A0 (D8 1) (A5 (A3 (mv_ ?_))))
 refine A4 (E6 (e := 37) rfl rfl kR) rfl ?_
 refine mv_ ?_
 refine C6 rfl rfl (OpQ.opL qm_ rfl ?_)
 refine C6 rfl rfl (OpQ.opL (G6 rfl) rfl ?_)
 refine C6 rfl rfl (OpQ.opL (qf_ 2 2) rfl ?_)
 refine C6 rfl rfl (OpQ.opL ql_ rfl ?_)
 refine C6 rfl rfl (OpQ.opL (E6 (e := 114) rfl rfl kR) rfl ?_)
 refine A4 (E2 rfl rfl) rfl ?_
 refine A0 (D4 1 18) ?_
 refine D6 rfl ?_
 refine A9 (nx (D8 1) ?_)
 refine A0L (B := [(tb, blk [.pointer (some ⟨pb, 0, none⟩), .pointer (some ⟨ka, 0, none⟩), .pointer (some ⟨kb, 0, none⟩)] 37)]) PickC.perm ?_
 refine A0L (B := MA) PickC.perm ?_
 refine A0L (B := MB) PickC.perm ?_
 obtain ⟨va, vg, vq, vo, vm, rs, ro, rm, hra⟩ := hKa.r
 obtain ⟨ua, ug, uq, uo, um, ss, so, sm, hrb⟩ := hKb.r
 have hla := (hra _ (fun _ h => List.mem_append_left MA h) (fun _ h => List.mem_append_right _ h)).lt
 have hlb := (hrb _ (fun _ h => List.mem_append_left MB h) (fun _ h => List.mem_append_right _ h)).lt
 refine D3 [0, 1, 2, 3, 4, 5, 6, 7, 9] (zp 0 [0, 0, 0, 1, 0, 0, 0, 1, 2, 0]) kR kR fun hs => ?_
 refine fm_ hs ?_
 refine D2 hs rfl (G6 rfl) rfl ?_
 refine D2 hs rfl (qf_ 2 2) rfl ?_
 refine F8 hs rfl ql_ rfl ?_
 refine fm_ hs ?_
 refine D2 hs rfl (G6 rfl) rfl ?_
 refine D2 hs rfl (qf_ 0 0) rfl ?_
 refine F8 hs rfl ql_ rfl ?_
 refine G5 rfl rfl rfl (F2 (Mc := MP) (R := _) (aS rfl (aS rfl (a0))) kR PickC.perm (B1K pb s kb bk ua ug uq uo um ss so sm x [] MP _ (hrb _ SubC.sub SubC.sub) hsg hP (by omega) (by omega) hG.up) rfl ?_)
 rintro v27 M27 J27 ⟨hP27, rows, hrd, hrw⟩
 haveI := hrd.cel
 obtain ⟨hbl, -, -, hbt⟩ := A4p (s := s) hsg
 rw [← hol] at hbl
 obtain ⟨y, xo, hy, -, -, y3, y4, y5, y6, y7, y8, y9, y10⟩ := B7C (s := s) hsg (j := 1) (by omega)
 obtain ⟨r0, hr0, w1, w2, w3, w4, w5, rfl, gw1, gw2, gw3, gw4, gw5, gws, gwo⟩ := hrw.get 1 y hy
 haveI := gw1.cel
 haveI := gw2.cel
 haveI := gw3.cel
 haveI := gw4.cel
 haveI := gw5.cel
 obtain ⟨hb1, hb2, -⟩ := hF.bb.bundles hsg (by omega) (by omega)
 have hbn : (U3 bk s).2.n = s.n := B9w
 have ha2 := hF.ba.ext hb2 hb1.tok hb1.ar
 obtain ⟨hck, hag, hbi, hex, -, hpx⟩ := B4o hF.bb hsg (by omega) (by omega) (Pext.refl _) ha2 hla hlb (by omega) (by omega) y3 y4 y5 y6 y7 y8 y9
 have hst := A7v ak y (U3 bk s).2
 have hans := hag.ans (kb := bk) hbi.tok (by omega) (by rw [hsg]; show A1u [x] (stH ak y (U3 bk s).2).signed = _; rw [show (stH ak y (U3 bk s).2).signed = x.n from y5]; exact B1P) y8 (fun hh => by
  change y.has = true at hh
  rw [y8] at hh
  obtain ⟨o, rfl⟩ := Option.isSome_iff_exists.1 hh
  obtain ⟨q, q0, q1, q2, q3, -⟩ := y9 o rfl
  rw [show (stH ak y (U3 bk s).2).once = y.once from if_pos (y8.trans rfl), q3, q2]
  exact B7u hrise q1)
 have hKl := (B1R (stI ak y (U3 bk s).2) (stL ak.agree y (U3 bk s).2)).2
 change (stK ak y (U3 bk s).2).length = 32 at hKl
 have h2k := hex.n
 refine fa_ hs ?_
 refine E4 (D4 1 2) (A5 (A3 (mv_ ?_)))
 refine A4 (H6 (sz := 10) rfl kR hrd) rfl ?_
 rw [hbl]
 refine A4 (E7 false rfl rfl (neF (by rfl))) rfl ?_
 refine A0 (E1 1 2 30) ?_
 refine D6 rfl ?_
 refine A9 (nx (D4 1 2) ?_)
 refine K0 (M27) (_) true [0, 1, 2, 3, 4, 5, 6, 7, 8, 9, 10, 11, 12, 13, 14, 15, 16, 17, 19] [(0, 0), (1, 0), (2, 0), (3, 1), (4, 0), (5, 0), (6, 0), (7, 1), (8, 0), (9, 0), (10, 1), (11, 8), (12, 8), (13, 8), (16, 8), (14, 9), (15, 10), (17, 0), (18, 2), (19, 0)] kR kR PickC.perm fun hs K n0 hKm hKs hKn => ?_
 refine km_ hs ?_
 refine L6 hs rfl (G6 rfl) rfl ?_
 refine L6 hs rfl (qf_ 0 0) rfl ?_
 refine R9 hs rfl hKs ql_ ?_
 refine km_ hs ?_
 refine L6 hs rfl (G6 rfl) rfl ?_
 refine L6 hs rfl (qf_ 1 1) rfl ?_
 refine R9 hs rfl hKs ql_ ?_
 refine km_ hs ?_
 refine L6 hs rfl (K6 (sz := 10) (a := 1) rfl rfl kR rfl hrd (by rw [hbl]; decide)) rfl ?_
 refine R9 hs rfl hKs (A1G rfl kR (hrd.mono SubC.sub) (hrw.lens bnT) (by decide) hr0) ?_
 refine A3K [⟨11, 43, none, M27, fun v B R => Prm pb (stS ak y (U3 bk s).2) B ∧ StV R v (stK ak y (U3 bk s).2) (stH ak y (U3 bk s).2)⟩, ⟨12, 31, none, [], fun v B R => B = [] ∧ StV R v (stK ak y (U3 bk s).2) (stH ak y (U3 bk s).2)⟩, ⟨13, 44, none, [], fun v B R => B = [] ∧ By R v (stK ak y (U3 bk s).2)⟩, ⟨16, 4, none, [], fun v B _ => ∃ b, v = .pointer (some ⟨b, 0, none⟩) ∧ B = [(b, blk [.slice none 0 0, .slice none 0 0, .slice none 0 0, .int .u32 0, .bool false, .int .u32 0] 43)]⟩] [⟨14, 45, none, [], fun v B R => B = [] ∧ ∃ p r u, v = .agg (heC p r u (stH ak y (U3 bk s).2)).toArray ∧ HeR R (stH ak y (U3 bk s).2) p r u⟩, ⟨15, 46, none, [], fun v B R => B = [] ∧ v = .int .i64 0⟩] ([]) (fun bs => [bs 11, bs 12, bs 13, bs 16, bs 14, bs 15]) (hKn rfl) (by simp [A1t, A1X]) (show ∀ m ∈ ([M27, [], [], [], [], []] : List Mem), ∀ x ∈ m, K x.1 from C3 (hKm) (C3 (fun _ h => by cases h) (C3 (fun _ h => by cases h) (C3 (fun _ h => by cases h) (C3 (fun _ h => by cases h) (C3 (fun _ h => by cases h) (L1))))))) kR (fun _ => by first | rfl | kernel_rfl)
  (C3 (fun _ _ _ _ h ⟨p1, p2⟩ => ⟨p1, p2.mono h⟩) (C3 (fun _ _ _ _ h ⟨p1, p2⟩ => ⟨p1, p2.mono h⟩) (C3 (fun _ _ _ _ h ⟨p1, p2⟩ => ⟨p1, p2.mono h⟩) (C3 (fun _ _ _ _ _ h => h) (C3 (fun _ _ _ _ h ⟨p1, p, r, u, e, p2⟩ => ⟨p1, p, r, u, e, p2.mono h⟩) (C3 (fun _ _ _ _ _ h => h) (L1))))))) (show List.Nodup [43, 31, 44, 4, 45, 46] by decide) (show List.Nodup [11, 12, 13, 16, 14, 15] by decide) (C3 (C9 rfl) (C3 (C9 rfl) (C3 (C9 rfl) (C3 (C9 rfl) (C3 (C9 rfl) (C3 (C9 rfl) (L1)))))))
  hs (List.cons_ne_nil _ _) (C3 ⟨_, rfl, fun vs bs R Rj wG hb hj hjr ha => ⟨.inl rfl, ?_⟩⟩ (C3 ⟨_, rfl, fun vs bs R Rj wG hb hj hjr ha => ⟨.inl rfl, ?_⟩⟩ (C3 ⟨_, rfl, fun vs bs R Rj wG hb hj hjr ha => ⟨.inl rfl, ?_⟩⟩ (C3 ⟨_, rfl, fun vs bs R Rj wG hb hj hjr ha => ⟨.inl rfl, ?_⟩⟩ (L1))))) (C3 ⟨rfl, rfl, _, _, _, _, rfl, fun vs bs Rj hj ha => ?_⟩ (C3 ⟨rfl, rfl, _, _, _, _, rfl, fun vs bs Rj hj ha => ?_⟩ (L1))) ?_
 ·
  dsimp only [Gc.inp]
  refine F2 (Mc := M27) (R := []) (aS rfl (aS rfl (aS rfl (a0)))) kR (by simp) (FnX.amb (A := Rj) (fun x hx => by have := hjr x hx; simp [this]) (B7z pb (U3 bk s).2 ka ak va vg vq vo vm rs ro rm y w1 w2 w3 w4 w5 M27 Rj (hra _ (fun x hx => hj x (SubC.sub x hx)) (fun x hx => hj x (SubC.sub x hx))) hP27 hb1.ar (by omega) (by omega) (gw1.mono (fun x hx => hj x (SubC.sub x hx))) (gw2.mono (fun x hx => hj x (SubC.sub x hx))) (gw3.mono (fun x hx => hj x (SubC.sub x hx))) (gw4.mono (fun x hx => hj x (SubC.sub x hx))) (gw5.mono (fun x hx => hj x (SubC.sub x hx))) gws gwo (hG.sub (fun x hx => hj x (SubC.sub x hx))))) rfl ?_
  rintro v25 M25 J25 ⟨hh, -⟩
  obtain ⟨x, p, r, u, rfl, hP25, h25, hH25⟩ := hh hck
  exact ⟨_, rfl, by simpa using hP25, x, p, r, u, rfl, h25.mono fun x hx => by simp [hx], hH25.mono fun x hx => by simp [hx]⟩
 ·
  dsimp only [Gc.inp]
  have g11 := ha _ (List.mem_of_getElem? (i := 0) rfl) kR
  replace g11 : (fun v B R => Prm pb (stS ak y (U3 bk s).2) B ∧ StV R v (stK ak y (U3 bk s).2) (stH ak y (U3 bk s).2)) (vs 11) (bs 11) Rj := g11
  dsimp only at g11
  obtain ⟨-, k⟩ := g11
  exact OpQ.opL qm_ rfl ⟨_, rfl, rfl, k⟩
 ·
  dsimp only [Gc.inp]
  have g12 := ha _ (List.mem_of_getElem? (i := 1) rfl) kR
  replace g12 : (fun v B R => B = [] ∧ StV R v (stK ak y (U3 bk s).2) (stH ak y (U3 bk s).2)) (vs 12) (bs 12) Rj := g12
  dsimp only at g12
  obtain ⟨-, x, p, r, u, e, k1, k2⟩ := g12
  exact OpQ.opL (K1 (vs := #[x, .agg (heC p r u (stH ak y (U3 bk s).2)).toArray, .int .i64 0]) (by rw [← e]; rfl) rfl) rfl ⟨_, rfl, rfl, k1⟩
 ·
  dsimp only [Gc.inp]
  exact C5 (cs := [.slice none 0 0, .slice none 0 0, .slice none 0 0, .int .u32 0, .bool false, .int .u32 0]) kR rfl fun b => ⟨_, rfl, b, rfl, rfl⟩
 ·
  have g12 := ha _ (List.mem_of_getElem? (i := 1) rfl) kR
  replace g12 : (fun v B R => B = [] ∧ StV R v (stK ak y (U3 bk s).2) (stH ak y (U3 bk s).2)) (vs 12) (bs 12) Rj := g12
  dsimp only at g12
  obtain ⟨-, x, p, r, u, e, k1, k2⟩ := g12
  exact ⟨_, K1 (vs := #[x, .agg (heC p r u (stH ak y (U3 bk s).2)).toArray, .int .i64 0]) (by rw [← e]; rfl) rfl, rfl, p, r, u, rfl, k2⟩
 ·
  have g12 := ha _ (List.mem_of_getElem? (i := 1) rfl) kR
  replace g12 : (fun v B R => B = [] ∧ StV R v (stK ak y (U3 bk s).2) (stH ak y (U3 bk s).2)) (vs 12) (bs 12) Rj := g12
  dsimp only at g12
  obtain ⟨-, x, p, r, u, e, k1, k2⟩ := g12
  exact ⟨_, K1 (vs := #[x, .agg (heC p r u (stH ak y (U3 bk s).2)).toArray, .int .i64 0]) (by rw [← e]; rfl) rfl, rfl, rfl⟩
 intro vs bs Jn0 hφ hKK
 have kk11 := hKK _ (List.mem_of_getElem? (i := 0) rfl)
 dsimp only at kk11
 have kk12 := hKK _ (List.mem_of_getElem? (i := 1) rfl)
 dsimp only at kk12
 have kk13 := hKK _ (List.mem_of_getElem? (i := 2) rfl)
 dsimp only at kk13
 have kk16 := hKK _ (List.mem_of_getElem? (i := 3) rfl)
 dsimp only at kk16
 have kk14 := hKK _ (List.mem_of_getElem? (i := 4) rfl)
 dsimp only at kk14
 have kk15 := hKK _ (List.mem_of_getElem? (i := 5) rfl)
 dsimp only at kk15
 clear hKK
 have g11 := ofH hφ
 dsimp only at g11
 replace hφ := ofT hφ
 have g12 := ofH hφ
 dsimp only at g12
 replace hφ := ofT hφ
 have g13 := ofH hφ
 dsimp only at g13
 replace hφ := ofT hφ
 have g16 := ofH hφ
 dsimp only at g16
 replace hφ := ofT hφ
 have g14 := ofH hφ
 dsimp only at g14
 replace hφ := ofT hφ
 have g15 := ofH hφ
 dsimp only at g15
 clear hφ
 dsimp only [V2, A1t, List.foldr, List.map, List.cons_append, List.nil_append]
 generalize bs 11 = B43 at *
 generalize bs 12 = B31 at *
 generalize bs 13 = B44 at *
 generalize bs 16 = B4 at *
 generalize bs 14 = B45 at *
 generalize bs 15 = B46 at *
 generalize vs 11 = u43 at *
 generalize vs 12 = u31 at *
 generalize vs 13 = u44 at *
 generalize vs 16 = u4 at *
 generalize vs 14 = u45 at *
 generalize vs 15 = u46 at *
 obtain ⟨hP43, -⟩ := g11
 obtain ⟨rfl, -⟩ := g12
 obtain ⟨rfl, hK43⟩ := g13
 obtain ⟨rfl, p, r, u, rfl, hHe⟩ := g14
 obtain ⟨rfl, rfl⟩ := g15
 obtain ⟨b16, rfl, rfl⟩ := g16
 haveI := hK43.cel
 haveI := hHe.ia.cel
 haveI := hHe.ig.cel
 haveI := hHe.key.cel
 obtain ⟨H, hH⟩ : ∃ z, stH ak y (U3 bk s).2 = z := ⟨_, rfl⟩
 obtain ⟨K, hK⟩ : ∃ z, stK ak y (U3 bk s).2 = z := ⟨_, rfl⟩
 obtain ⟨s3, hs3⟩ : ∃ z, stS ak y (U3 bk s).2 = z := ⟨_, rfl⟩
 rw [hH] at hHe hag hans
 rw [hK] at hK43 hag hans hKl
 rw [hs3] at hP43 hag hbi hex hst hans
 rw [hH]
 dsimp only [heC]
 refine L6 hs rfl (H7 rfl) rfl ?_
 refine XK.tl rfl rfl rfl (A8 (vs := [p, r, u, .int .u32 ((H.signed : Nat) : Int), .bool H.has, .int .u32 ((H.once : Nat) : Int)]) rfl rfl rfl kR (by rfl) (C3 hHe.ia.one (C3 hHe.ig.one (C3 hHe.key.one al3))) UpC.upd ?_)
 refine L6 hs rfl (H7 rfl) rfl ?_
 refine Q3 (E9 1 3 4 5) ?_
 refine D3 [0, 1, 2, 3, 4, 5, 6, 7, 8, 10, 11, 12, 13, 14, 15, 16] (zp 0 [0, 0, 0, 1, 0, 0, 0, 1, 1, 2, 0, 0, 0, 0, 0, 0, 0]) kR kR fun hs => ?_
 refine fm_ hs ?_
 refine D2 hs rfl (G6 rfl) rfl ?_
 refine D2 hs rfl (qf_ 0 0) rfl ?_
 refine F8 hs rfl ql_ rfl ?_
 refine fm_ hs ?_
 refine D2 hs rfl (G6 rfl) rfl ?_
 refine D2 hs rfl (qf_ 2 2) rfl ?_
 refine F8 hs rfl ql_ rfl ?_
 refine F8 hs rfl (qw_ 6) rfl ?_
 refine G5 rfl rfl rfl (F2 (Mc := B43) (R := _) (aS rfl (aS rfl (aS rfl (a0)))) kR PickC.perm (A8B pb s3 kb bk ua ug uq uo um ss so sm H p r u B43 _ (hrb _ SubC.sub SubC.sub) hrise hP43 (by omega) (hHe.mono SubC.sub) hG.up) rfl ?_)
 rintro v57 M57 J57 ⟨o1, o2, rfl, hP57, ho1, ho2⟩
 haveI := ho1.cel
 haveI := ho2.cel
 rw [hans] at hP57 ho1 ho2 ⊢
 change By _ o1 K at ho1
 change By _ o2 x.sec at ho2
 refine fm_ hs ?_
 refine D2 hs rfl (A2I rfl) rfl ?_
 refine D2 hs rfl (A2v rfl) rfl ?_
 refine D2 hs rfl (B7F rfl) rfl ?_
 refine fa_ hs ?_
 refine fa_ hs ?_
 refine fa_ hs ?_
 refine E4 (F9 3 5 6 7 8) (A3 (mv_ ?_))
 refine A4 (E7 true rfl rfl (eqT rfl)) rfl ?_
 refine mv_ ?_
 refine C6 rfl rfl (OpQ.opL qm_ rfl ?_)
 refine C6 rfl rfl (OpQ.opL (E7 true rfl rfl (eqT rfl)) rfl ?_)
 refine A4 (D7 rfl rfl) rfl ?_
 refine mv_ ?_
 refine C6 rfl rfl (OpQ.opL qm_ rfl ?_)
 refine C6 rfl rfl (OpQ.opL (H6 (sz := 1) rfl kR hK43.rd) rfl ?_)
 rw [hKl]
 refine C6 rfl rfl (OpQ.opL (E7 true rfl rfl (eqT rfl)) rfl ?_)
 refine A4 (D7 rfl rfl) rfl ?_
 refine mv_ ?_
 refine C6 rfl rfl (OpQ.opL qm_ rfl ?_)
 refine C6 rfl rfl (OpQ.opL (A0i rfl kR (hK43.rd.mono SubC.sub)) rfl ?_)
 refine C6 rfl rfl (OpQ.opL qm_ rfl ?_)
 refine C6 rfl rfl (OpQ.opL (A0i rfl kR (ho1.rd.mono SubC.sub)) rfl ?_)
 refine C6 rfl rfl (OpQ.opL ((show (decide (K = K)) = true by simp) ▸ B76 rfl rfl rfl rfl hK43.lt ho1.lt) rfl ?_)
 refine A4 (D7 rfl rfl) rfl ?_
 refine mv_ ?_
 refine C6 rfl rfl (OpQ.opL qm_ rfl ?_)
 refine C6 rfl rfl (OpQ.opL (H6 (sz := 1) rfl kR ho2.rd) rfl ?_)
 rw [hxl]
 refine C6 rfl rfl (OpQ.opL (E7 true rfl rfl (eqT rfl)) rfl ?_)
 refine A4 (D7 rfl rfl) rfl ?_
 refine as_ (A0 (D8 0) (C1 ?_))
 exact ⟨_, [], [], I2 rfl rfl, List.nil_sublist _, by simp, rfl, rfl, rfl⟩

end Go.Proofs.YthbhpfefdnffaaaGreatDoor
