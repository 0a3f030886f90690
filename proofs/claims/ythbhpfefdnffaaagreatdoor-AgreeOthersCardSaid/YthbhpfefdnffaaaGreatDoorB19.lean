/- Part 19 of the texts of this claim, one behind the other. -/
import Derived.Test.YthbhpfefdnffaaaGreatDoorB18
set_option linter.unusedVariables false
set_option linter.unusedSimpArgs false
set_option maxRecDepth 100000
namespace Go.Proofs.YthbhpfefdnffaaaGreatDoor
open Go.Px
theorem B1T {P : Program} {fn : Func} {l : Env} {R : Mem} {t u x b n : Nat} {ty : TypeId} {cs : List Value} {e : TypeId} {fr : Nat × Nat} {v z : Value} (h : fn.results = #[.tmp u, .cell t ty, .tmp x]) (hv : lk l t = some (.pointer (some ⟨b, 0, none⟩))) (hu : lk l u = some v) (hx : lk l x = some z) (ht : A8U P ty = some n)
    (hb : (b, Obj.cells cs.toArray e fr) ∈ R) (hn : cs.length = n) : Res P fn l R (.tuple #[v, .agg cs.toArray, z]) := fun N a w ha hw => by
  obtain ⟨dsc, h1, h2, h3⟩ := A0J ht
  have hl := run_loadVar_row (P := P) w b e ty cs.toArray fr dsc (hw b _ hb) h1 (by cases dsc <;> simp_all [TypeDesc.isRow]) (by rw [h3, ← hn]; simp)
  simp [results, h, ha.slot t _ hv, ha.slot u _ hu, ha.slot x _ hx, asAddr, hl]
theorem C0M {P : Program} {fn : Func} {l : Env} {R : Mem} {t u x : Nat} {v z y : Value} (h : fn.results = #[.tmp t, .tmp u, .tmp x]) (hv : lk l t = some v) (hu : lk l u = some z) (hx : lk l x = some y) : Res P fn l R (.tuple #[v, z, y]) := fun N a w ha hw => by
  simp [results, h, ha.slot t _ hv, ha.slot u _ hu, ha.slot x _ hx]
noncomputable def ckB (s : Ps) (b : Bn) : Bool := decide (b.key.length = 32) && B2l s b.ig (A5F b.signed b.key) b.sig
def heC (va vg vk : Value) (h : He) : List Value := [va, vg, vk, .int .u32 ((h.signed : Nat) : Int), .bool h.has, .int .u32 ((h.once : Nat) : Int)]
structure HeR (R : Mem) (h : He) (va vg vk : Value) : Prop where
  ia : By R va h.ia
  ig : Byi R vg h.ig
  key : By R vk h.key
  signed : h.signed < 4294967296
  once : h.once < 4294967296
theorem HeR.mono {R R' : Mem} {h : He} {va vg vk : Value} (g : HeR R h va vg vk) (hR : ∀ x, x ∈ R → x ∈ R') : HeR R' h va vg vk := ⟨g.ia.mono hR, g.ig.mono hR, g.key.mono hR, g.signed, g.once⟩
theorem B1U (pb : Nat) (s : Ps) (kb : Nat) (k : Ks) (va vg vq vo vm : Value) (rs ro rm : List (List Value)) (b : Bn) (wa wg wk ws wo : Value) (MP A : Mem) (hK : KyR A kb k va vg vq vo vm rs ro rm) (hP : Prm pb s MP) (har : Ar s.ts) (hn : s.ts.length + 1000 ≤ 1040000) (hk : s.n < 1000000000) (ga : By A wa b.ia) (gg : By A wg b.ig) (gk : By A wk b.key) (gs : By A ws b.sig) (go : By A wo b.oncek) (hsn : b.signed < 4294967296) (hon : b.once < 4294967296) (hG : Glb A) : FnX Tryz.prog 20 [.pointer (some ⟨pb, 0, none⟩), .pointer (some ⟨kb, 0, none⟩), .agg #[.int .i64 b.user, .int .i64 b.dev, wa, wg, .int .u32 ((b.signed : Nat) : Int), wk, ws, .bool b.has, .int .u32 ((b.once : Nat) : Int), wo]] MP A fun q M J => (ckB s b = true → ∃ v p r u, q = .tuple #[v, .agg (heC p r u (stH k b s)).toArray, .int .i64 0] ∧ Prm pb (stS k b s) M ∧ By J v (stK k b s) ∧ HeR (J ++ A) (stH k b s) p r u) ∧ (ckB s b = false → q = .tuple #[.slice none 0 0, .agg #[.slice none 0 0, .slice none 0 0, .slice none 0 0, .int .u32 0, .bool false, .int .u32 0], .int .i64 10] ∧ Prm pb s M) := by
 haveI := ga.cel
 haveI := gg.cel
 haveI := gk.cel
 haveI := gs.cel
 haveI := go.cel
 have f1 := K8 s
 have f2 := T8 (D3 s) k.agree b.key
 have f3 := T8 (L3 (D3 s) k.agree b.key) (D6 s) b.ia
 have f4 := T8 (L3 (L3 (D3 s) k.agree b.key) (D6 s) b.ia) (D6 s) b.key
 have f5 := T8 (L3 (L3 (L3 (D3 s) k.agree b.key) (D6 s) b.ia) (D6 s) b.key) (D6 s) b.oncek
 refine FnX.enterZ (N := 74) Tryz.func20 rfl rfl rfl fun w_ => ?_
 refine C4 (E1 0 1 2) (A3 ?_)
 refine A6 rfl (bx_ fun b5 => ?_)
 refine as_ ?_
 refine A6 rfl (C5 (cs := [.slice none 0 0, .slice none 0 0, .slice none 0 0, .int .u32 0, .bool false, .int .u32 0]) kR rfl fun b7 => ?_)
 refine as_ (A0 (E7 0 1 5 7) (A5 (A3 (mv_ ?_))))
 refine A4 (F0 (e := 114) rfl rfl kR) rfl ?_
 refine mv_ ?_
 refine F4 rfl rfl (OpQ.opL qm_ rfl ?_)
 refine F4 rfl rfl (OpQ.opL (F0 (e := 117) rfl rfl kR) rfl ?_)
 refine A4 (E9 rfl rfl) rfl ?_
 refine A0 (F7 0 1 5 7 17) ?_
 refine D4 rfl ?_
 refine A9 (nx (E7 0 1 5 7) (A5 (A3 (mv_ ?_))))
 refine A4 (qw_ 10) rfl ?_
 refine F8 (aS rfl (aS rfl a0)) kR (B1S pb s b wa wg wk ws wo MP _ hP (by intro z hz; simp [hz]) har (by omega) (ga.mono SubC.sub) (gg.mono SubC.sub) (gk.mono SubC.sub) (gs.mono SubC.sub) (go.mono SubC.sub) hsn hG.up) rfl ?_
 change XL _ _ _ _ ((21, .bool (ckB s b)) :: _) _ _
 refine A4 (A0e rfl) rfl ?_
 refine A0 (F7 0 1 5 7 22) ?_
 refine C8 rfl (fun hc => ?_) (fun hc => ?_)
 ·
  have hck : ckB s b = false := by simpa using hc
  refine A3 ?_
  refine A4 (F3 (place := fun x => #[(0, 2), (2, 1), (3, 1), (4, 1), (5, 1)][x]?) (z := [.slice none 0 0, .slice none 0 0, .slice none 0 0, .int .u32 0, .bool false, .int .u32 0]) (fun _ => by kernel_rfl) e0 bd0) rfl ?_
  refine as_ ?_
  refine A6 rfl (A8 rfl rfl Cel.cel kR ln6 al6 UpC.upd ?_)
  refine as_ (A0 (E1 6 7 8) (C2 (tr ?_)))
  exact ⟨_, MP, [], B1T (n := 6) rfl rfl rfl rfl kR At.mem (by rfl), Fit.none (Fit.last PickC.perm), (fun h => by rw [hck] at h; cases h), fun _ => ⟨rfl, hP⟩⟩
 ·
  have hck : ckB s b = true := by simpa using hc
  refine A9 (nx (E7 0 1 5 7) (A3 (mv_ ?_)))
  refine A6 rfl (E0 (Mc := MP) (R := _) (aS rfl (a0)) kR PickC.perm (U4 pb s MP _ hP (by omega) (by omega) hG.up) rfl ?_)
  rintro v25 M25 J25 ⟨hP25, h25⟩
  haveI := h25.cel
  refine as_ (A0 (F7 0 1 5 7 9) ?_)
  refine H5 (M25) (_) true (.range 19) [(0, 0), (1, 0), (3, 0), (4, 1), (6, 0), (7, 0), (8, 0), (9, 0), (10, 1), (12, 0), (13, 0), (14, 0), (15, 1), (2, 2), (5, 2), (11, 2), (16, 2), (17, 2), (18, 0)] kR kR PickC.perm fun hs K n0 hKm hKs hKn => ?_
  refine km_ hs ?_
  refine km_ hs ?_
  refine I0 hs rfl (qf_ 5 5) rfl ?_
  refine P0 hs rfl hKs ql_ ?_
  refine km_ hs ?_
  refine km_ hs ?_
  refine I0 hs rfl (qf_ 2 2) rfl ?_
  refine I0 hs rfl (qf_ 2 0) rfl ?_
  refine P0 hs rfl hKs ql_ ?_
  refine km_ hs ?_
  refine km_ hs ?_
  refine I0 hs rfl (qf_ 5 5) rfl ?_
  refine P0 hs rfl hKs ql_ ?_
  refine K0 [] _ rfl rfl (List.Perm.refl _) (fun _ h => by cases h) fun w0 => (D7 (aS rfl a0) kR (A8L kb k va vg vq vo vm rs ro rm _ (hK.mono SubC.sub)) rfl ?_)
  rintro v28 M28 J28 ⟨rfl, h28⟩ _
  haveI := h28.cel
  dsimp only [List.nil_append, List.append_eq]
  refine K0 _ _ rfl rfl (List.Perm.refl _) hKm fun w0 => (E0 (Mc := M25) (R := _) (aS rfl (aS rfl (aS rfl (a0)))) kR PickC.perm (A0T pb (D3 s) v28 wk k.agree b.key M25 _ hP25 (by omega) (h28.mono SubC.sub) (gk.mono SubC.sub) hG.up) rfl ?_)
  rintro v31 M31 J31 ⟨hP31, h31⟩ hKx31
  haveI := h31.cel
  refine K0 M31 _ rfl rfl PickC.perm (fun x hx => hKx31 (hKn rfl) x (by simpa using hx)) fun w0 => (E0 (Mc := M31) (R := _) (aS rfl (aS rfl (aS rfl (a0)))) kR PickC.perm (A0T pb ((L3 (D3 s) k.agree b.key)) v25 wa (D6 s) b.ia M31 _ hP31 (by omega) (h25.mono SubC.sub) (ga.mono SubC.sub) hG.up) rfl ?_)
  rintro v37 M37 J37 ⟨hP37, h37⟩ hKx37
  haveI := h37.cel
  refine K0 M37 _ rfl rfl PickC.perm (fun x hx => hKx37 (hKn rfl) x (by simpa using hx)) fun w0 => (E0 (Mc := M37) (R := _) (aS rfl (aS rfl (aS rfl (a0)))) kR PickC.perm (A0T pb ((L3 (L3 (D3 s) k.agree b.key) (D6 s) b.ia)) v25 wk (D6 s) b.key M37 _ hP37 (by omega) (h25.mono SubC.sub) (gk.mono SubC.sub) hG.up) rfl ?_)
  rintro v42 M42 J42 ⟨hP42, h42⟩ hKx42
  haveI := h42.cel
  refine K0 [] _ rfl rfl (List.Perm.refl _) (fun _ h => by cases h) fun w0 => (C6 (e := 27) (sz := 1) (z := [.slice none 0 0, .slice none 0 0, .slice none 0 0]) kR (eS rfl (eS rfl (eS rfl e0))) (bdS 0 1 rfl (by rfl) (bdS 1 1 rfl (by rfl) (bdS 2 1 rfl (by rfl) bd0))) rfl fun b43 => fun hk43 => ?_)
  dsimp only [List.cons_append, List.nil_append, List.append_eq]
  refine I0 hs rfl (H8 rfl) rfl ?_
  refine N6 (I5 0 1 5 7 9 10) ?_
  refine A0q (α := Value × Mem × Mem) (fun y => [(0, .pointer (some ⟨pb, 0, none⟩)), (1, .pointer (some ⟨kb, 0, none⟩)), (5, .pointer (some ⟨b5, 0, none⟩)), (7, .pointer (some ⟨b7, 0, none⟩)), (9, v25), (10, y.1)]) (fun y => y.2.1 ++ [(b5, blk [.int .i64 b.user, .int .i64 b.dev, wa, wg, .int .u32 ((b.signed : Nat) : Int), wk, ws, .bool b.has, .int .u32 ((b.once : Nat) : Int), wo] 32), (b7, blk [.slice none 0 0, .slice none 0 0, .slice none 0 0, .int .u32 0, .bool false, .int .u32 0] 43)]) (fun y => y.2.2) (fun y => Prm pb (stA k.agree b s) y.2.1 ∧ LsV (y.2.2 ++ A) y.1 (stL k.agree b s) ∧ By (y.2.2 ++ A) v25 (D6 s)) ?_ ?_
  ·
   refine X9 (B := [(b43, blk [v31, v37, v42] 27)]) PickC.perm ?_
   refine A3 ?_
   refine A4 (qf_ 7 7) rfl ?_
   refine A4 ql_ rfl ?_
   refine A0 (X3 0 1 5 7 9 10 45) ?_
   refine C8 rfl (fun hc => ?_) (fun hc => ?_)
   ·
    refine C3 (mv_ (mv_ (mv_ ?_)))
    refine A4 (qf_ 9 9) rfl ?_
    refine A4 ql_ rfl ?_
    refine A6 rfl (E0 (Mc := M42) (R := _) (aS rfl (aS rfl (aS rfl (a0)))) kR PickC.perm (A0T pb (L3 (L3 (L3 (D3 s) k.agree b.key) (D6 s) b.ia) (D6 s) b.key) v25 wo (D6 s) b.oncek M42 _ hP42 (by omega) (h25.mono SubC.sub) (go.mono SubC.sub) hG.up) rfl ?_)
    rintro v51 M51 J51 ⟨hP51, h51⟩
    haveI := h51.cel
    refine A6 rfl (C6 (e := 27) (sz := 1) (z := [.slice none 0 0]) kR (eS rfl e0) (bdS 0 1 rfl (by rfl) bd0) rfl fun b52 => ?_)
    refine A6 rfl (A3q (e := 27) (sz := 1) (by_ := 24) (xs := [v31, v37, v42]) rfl rfl kR rfl (Rd.whole (n := 3) At.mem (by rfl)) (Rd.whole (n := 1) At.mem (by rfl)) (by decide) (by decide) (by decide) rfl fun v53 B53 hs53 => ?_)
    haveI := hs53.cel
    refine A8b (B := B53) PickC.perm ?_
    refine as_ (D0 ?_)
    exact jn (v53, M51, _) ⟨by dsimp only; unfold stA stP; rw [hc]; exact hP51, by dsimp only; unfold stL stP; rw [hc]; exact ⟨[v31, v37, v42] ++ [v51], hs53.rd SubC.sub, Lst.cons (h31.mono SubC.sub) (Lst.cons (h37.mono SubC.sub) (Lst.cons (h42.mono SubC.sub) (Lst.cons (h51.mono SubC.sub) Lst.nil)))⟩, h25.mono SubC.sub⟩ (I5 0 1 5 7 9 10) (Fit.pick PickC.perm (Fit.last PickC.perm)) (fun _ h => h)
   ·
    refine A9 ?_
    exact jn (.slice (some ⟨b43, 0, none⟩) 3 3, M42, _) ⟨by dsimp only; unfold stA stP; rw [hc]; exact hP42, by dsimp only; unfold stL stP; rw [hc]; exact ⟨[v31, v37, v42], Rd.whole (n := 3) At.mem (by rfl), Lst.cons (h31.mono SubC.sub) (Lst.cons (h37.mono SubC.sub) (Lst.cons (h42.mono SubC.sub) Lst.nil))⟩, h25.mono SubC.sub⟩ (I5 0 1 5 7 9 10) (Fit.pick PickC.perm (Fit.last PickC.perm)) (fun _ h => h)
  ·
   rintro ⟨lv, MJ, J9⟩ ⟨hPJ, hLJ, he25⟩
   dsimp only at hPJ hLJ he25 ⊢
   haveI := hLJ.cel
   obtain ⟨hzA, hzI, hzS, hzn, hzL⟩ := A5x k b s
   have hI : stI k b s = H6 (idS k (stA k.agree b s)) (D6 s) := rfl
   have hH : stH k b s = ⟨idA k (stA k.agree b s), idG k (stA k.agree b s), K9 (idS k (stA k.agree b s)) (D6 s), b.signed, b.has, if b.has then b.once else 0⟩ := rfl
   rw [hH]
   have hzi := A1A k (stA k.agree b s)
   rw [hI] at hzI
   generalize D6 s = e at *
   obtain ⟨sA, hsA⟩ : ∃ z, stA k.agree b s = z := ⟨_, rfl⟩
   rw [hsA] at hPJ hzA hI hzi hzI ⊢
   refine H5 (MJ) (_) true (.range 12) [(0, 0), (1, 0), (3, 0), (4, 0), (6, 0), (7, 1), (8, 0), (9, 1), (2, 3), (5, 3), (10, 3), (11, 4), (12, 2)] kR kR PickC.perm fun hs K n0 hKm hKs hKn => ?_
   refine km_ hs ?_
   refine km_ hs ?_
   refine km_ hs ?_
   refine km_ hs ?_
   refine I0 hs rfl (qf_ 4 4) rfl ?_
   refine P0 hs rfl hKs ql_ ?_
   refine I0 hs rfl (qf_ 7 7) rfl ?_
   refine P0 hs rfl hKs ql_ ?_
   refine A0S [⟨2, 56, none, MJ, fun v B R => Prm pb (idS k sA) B ∧ ∃ p q, v = .agg #[p, q] ∧ By R p (idA k sA) ∧ By R q (idG k sA)⟩, ⟨5, 59, some 2, [], fun v B R => Prm pb (H6 (idS k sA) e) B ∧ By R v (K9 (idS k sA) e)⟩, ⟨10, 64, none, [], fun v B R => B = [] ∧ ∃ p r u, v = .agg #[p, r, u, .int .u32 ((b.signed : Nat) : Int), .bool b.has, .int .u32 ((0 : Nat) : Int)] ∧ By R p (idA k sA) ∧ By R r (idG k sA) ∧ By R u (K9 (idS k sA) e)⟩, ⟨11, 11, none, [], fun v B _ => ∃ b, v = .pointer (some ⟨b, 0, none⟩) ∧ B = [(b, blk [.slice none 0 0, .slice none 0 0, .slice none 0 0, .int .u32 0, .bool false, .int .u32 0] 43)]⟩] ([(b5, blk [.int .i64 b.user, .int .i64 b.dev, wa, wg, .int .u32 ((b.signed : Nat) : Int), wk, ws, .bool b.has, .int .u32 ((b.once : Nat) : Int), wo] 32), (b7, blk [.slice none 0 0, .slice none 0 0, .slice none 0 0, .int .u32 0, .bool false, .int .u32 0] 43)]) (fun bs => [bs 5, bs 10, bs 11]) (hKn rfl) (by simp [A0y, A1V]) (show ∀ m ∈ ([MJ, [], []] : List Mem), ∀ x ∈ m, K x.1 from C1 (hKm) (C1 (fun _ h => by cases h) (C1 (fun _ h => by cases h) (K3)))) kR (fun _ => by first | rfl | kernel_rfl)
    (C1 (fun _ _ _ _ h ⟨p1, p, q, e, p2, p3⟩ => ⟨p1, p, q, e, p2.mono h, p3.mono h⟩) (C1 (fun _ _ _ _ h ⟨p1, p2⟩ => ⟨p1, p2.mono h⟩) (C1 (fun _ _ _ _ h ⟨p1, p, q, u, e, p2, p3, p4⟩ => ⟨p1, p, q, u, e, p2.mono h, p3.mono h, p4.mono h⟩) (C1 (fun _ _ _ _ _ h => h) (K3))))) (show List.Nodup [56, 59, 64, 11] by decide) (show List.Nodup [2, 5, 10, 11] by decide) (C1 (C7 rfl) (C1 (C7 rfl) (C1 (C7 rfl) (C1 (C7 rfl) (K3)))))
    (C1 ⟨_, rfl, fun vs bs R Rj wG hb hj hjr ha => ⟨.inl rfl, ?_⟩⟩ (C1 ⟨_, rfl, fun vs bs R Rj wG hb hj hjr ha => ⟨.inl rfl, ?_⟩⟩ (C1 ⟨_, rfl, fun vs bs R Rj wG hb hj hjr ha => ⟨.inl rfl, ?_⟩⟩ (C1 ⟨_, rfl, fun vs bs R Rj wG hb hj hjr ha => ⟨.inl rfl, ?_⟩⟩ (K3))))) ?_
   ·
    dsimp only [Gc.inp]
    refine E0 (Mc := MJ) (R := []) (aS rfl (aS rfl (a0))) kR (by simp) (A7E pb sA kb k va vg vq vo vm rs ro rm MJ _ (hK.mono (fun x hx => by have := hb x (by simp [hx]); simp [this])) hPJ (by omega) (hG.sub (fun x hx => by have := hb x (by simp [hx]); simp [this]))) rfl ?_
    rintro v25 M25 J25 ⟨hP25, p, q, rfl, hp, hq⟩
    exact ⟨_, rfl, by simpa using hP25, p, q, rfl, hp.mono fun x hx => by simp [hx], hq.mono fun x hx => by simp [hx]⟩
   ·
    dsimp only [Gc.inp]
    have g2 := ha _ (List.mem_of_getElem? (i := 0) rfl) kR
    replace g2 : (fun v B R => Prm pb (idS k sA) B ∧ ∃ p q, v = .agg #[p, q] ∧ By R p (idA k sA) ∧ By R q (idG k sA)) (vs 2) (bs 2) Rj := g2
    dsimp only at g2
    obtain ⟨hP25, -⟩ := g2
    refine E0 (Mc := bs 2) (R := []) (aS rfl (aS rfl (a0))) kR (by simp) (W5 pb (idS k sA) v25 e (bs 2) _ hP25 (by omega) (he25.mono (fun x hx => by have := hb x (by simp [hx]); simp [this])) (hG.sub (fun x hx => by have := hb x (by simp [hx]); simp [this]))) rfl ?_
    rintro v31 M31 J31 ⟨hP31, h31⟩
    exact ⟨_, rfl, by simpa using hP31, h31.mono fun x hx => by simp [hx]⟩
   ·
    dsimp only [Gc.inp]
    have g2 := ha _ (List.mem_of_getElem? (i := 0) rfl) kR
    replace g2 : (fun v B R => Prm pb (idS k sA) B ∧ ∃ p q, v = .agg #[p, q] ∧ By R p (idA k sA) ∧ By R q (idG k sA)) (vs 2) (bs 2) Rj := g2
    dsimp only at g2
    have g5 := ha _ (List.mem_of_getElem? (i := 1) rfl) kR
    replace g5 : (fun v B R => Prm pb (H6 (idS k sA) e) B ∧ By R v (K9 (idS k sA) e)) (vs 5) (bs 5) Rj := g5
    dsimp only at g5
    obtain ⟨-, h31⟩ := g5
    obtain ⟨-, p, q, e25, hp, hq⟩ := g2
    haveI := h31.cel
    haveI := hp.cel
    haveI := hq.cel
    dsimp only [S7, List.map, List.cons_append, List.nil_append]
    rw [e25]
    exact OpQ.opL (F3 (place := fun x => #[(0, 2), (2, 1), (3, 1), (4, 1), (5, 1)][x]?) (z := [.slice none 0 0, .slice none 0 0, .slice none 0 0, .int .u32 0, .bool false, .int .u32 0]) (fun _ => by kernel_rfl) (eS rfl (eS rfl (eS rfl (eS rfl e0)))) (bdS 0 2 rfl (by rfl) (bdS 2 1 rfl (by rfl) (bdS 3 1 rfl (by rfl) (bdS 4 1 rfl (by rfl) bd0))))) rfl ⟨_, rfl, rfl, p, q, _, rfl, hp, hq, h31⟩
   ·
    dsimp only [Gc.inp]
    exact C5 (cs := [.slice none 0 0, .slice none 0 0, .slice none 0 0, .int .u32 0, .bool false, .int .u32 0]) kR rfl fun b => ⟨_, rfl, b, rfl, rfl⟩
   intro vs bs Jn0 hφ hKK
   have kk2 := hKK _ (List.mem_of_getElem? (i := 0) rfl)
   dsimp only at kk2
   have kk5 := hKK _ (List.mem_of_getElem? (i := 1) rfl)
   dsimp only at kk5
   have kk10 := hKK _ (List.mem_of_getElem? (i := 2) rfl)
   dsimp only at kk10
   have kk11 := hKK _ (List.mem_of_getElem? (i := 3) rfl)
   dsimp only at kk11
   clear hKK
   have g2 := ofH hφ
   dsimp only at g2
   replace hφ := ofT hφ
   have g5 := ofH hφ
   dsimp only at g5
   replace hφ := ofT hφ
   have g10 := ofH hφ
   dsimp only at g10
   replace hφ := ofT hφ
   have g11 := ofH hφ
   dsimp only at g11
   clear hφ
   dsimp only [S7, A0y, List.foldr, List.map, List.cons_append, List.nil_append]
   generalize bs 2 = B56 at *
   generalize bs 5 = B59 at *
   generalize bs 10 = B64 at *
   generalize bs 11 = B11 at *
   generalize vs 2 = u56 at *
   generalize vs 5 = u59 at *
   generalize vs 10 = u64 at *
   generalize vs 11 = u11 at *
   obtain ⟨hP59, -⟩ := g5
   clear g2
   obtain ⟨b11, rfl, rfl⟩ := g11
   obtain ⟨rfl, p, r, u, rfl, hp, hr, hu⟩ := g10
   haveI := hp.cel
   haveI := hr.cel
   haveI := hu.cel
   refine N5 rfl rfl rfl (A8 (vs := [p, r, u, .int .u32 ((b.signed : Nat) : Int), .bool b.has, .int .u32 ((0 : Nat) : Int)]) rfl rfl rfl kR (by rfl) (C1 hp.one (C1 hr.one (C1 hu.one al3))) UpC.upd ?_)
   refine N6 (F7 0 5 7 10 11) (A5 ?_)
   cases hh : b.has
   ·
    refine A3 ?_
    refine A4 (qf_ 7 7) rfl ?_
    refine A4 ql_ rfl ?_
    refine A0 (I5 0 5 7 10 11 66) ?_
    refine D4 rfl ?_
    refine A9 (nx (E7 0 7 10 11) ?_)
    refine H5 (B59) (_) true [0, 1, 2, 3, 4, 6] [(0, 0), (1, 0), (3, 1), (2, 2), (4, 0), (5, 2), (6, 0)] kR kR PickC.perm fun hs K n0 hKm hKs hKn => ?_
    refine km_ hs ?_
    refine km_ hs ?_
    refine P0 hs rfl hKs (qw_ 6) ?_
    refine K0 _ _ rfl rfl (List.Perm.refl _) hKm fun w0 => (E0 (Mc := B59) (R := _) (aS rfl (aS rfl (a0))) kR PickC.perm (A3Q pb (stI k b s) lv (stL k.agree b s) B59 _ (hI ▸ hP59) (hLJ.mono SubC.sub) (by omega) (by rw [hI]; omega) hG.up) rfl ?_)
    rintro v72 M72 J72 ⟨hP72, h72⟩ hKx72
    haveI := h72.cel
    refine I0 hs rfl (H8 rfl) rfl ?_
    refine N5 rfl rfl rfl (A8 (vs := [p, r, u, .int .u32 ((b.signed : Nat) : Int), .bool false, .int .u32 ((0 : Nat) : Int)]) rfl rfl rfl kR (by rfl) (C1 hp.one (C1 hr.one (C1 hu.one al3))) UpC.upd ?_)
    refine I0 hs rfl (H8 rfl) rfl ?_
    refine N6 (E1 6 7 8) (C2 ?_)
    refine ⟨_, M72, [], B1T (n := 6) rfl rfl rfl rfl kR At.mem (by rfl), Fit.none (Fit.last PickC.perm), (fun _ => ⟨_, p, r, u, rfl, hP72, h72.mono SubC.sub, hp.mono SubC.sub, (hr.mono SubC.sub).i, hu.mono SubC.sub, hsn, (by decide : 0 < 4294967296)⟩), fun h => by rw [hck] at h; cases h⟩
   ·
    refine A3 ?_
    refine A4 (qf_ 7 7) rfl ?_
    refine A4 ql_ rfl ?_
    refine A0 (I5 0 5 7 10 11 66) ?_
    refine E2 rfl ?_
    refine C3 ?_
    refine A4 (qf_ 8 8) rfl ?_
    refine A4 ql_ rfl ?_
    refine A4 (qf_ 5 5) rfl ?_
    refine A6 rfl (D9 rfl rfl rfl kR SetC.set UpC.upd ?_)
    refine A0 (E7 0 7 10 11) ?_
    refine H5 (B59) (_) true [0, 1, 2, 3, 4, 6] [(0, 0), (1, 0), (3, 1), (2, 2), (4, 0), (5, 2), (6, 0)] kR kR PickC.perm fun hs K n0 hKm hKs hKn => ?_
    refine km_ hs ?_
    refine km_ hs ?_
    refine P0 hs rfl hKs (qw_ 6) ?_
    refine K0 _ _ rfl rfl (List.Perm.refl _) hKm fun w0 => (E0 (Mc := B59) (R := _) (aS rfl (aS rfl (a0))) kR PickC.perm (A3Q pb (stI k b s) lv (stL k.agree b s) B59 _ (hI ▸ hP59) (hLJ.mono SubC.sub) (by omega) (by rw [hI]; omega) hG.up) rfl ?_)
    rintro v72 M72 J72 ⟨hP72, h72⟩ hKx72
    haveI := h72.cel
    refine I0 hs rfl (H8 rfl) rfl ?_
    refine N5 rfl rfl rfl (A8 (vs := [p, r, u, .int .u32 ((b.signed : Nat) : Int), .bool true, .int .u32 ((b.once : Nat) : Int)]) rfl rfl rfl kR (by rfl) (C1 hp.one (C1 hr.one (C1 hu.one al3))) UpC.upd ?_)
    refine I0 hs rfl (H8 rfl) rfl ?_
    refine N6 (E1 6 7 8) (C2 ?_)
    refine ⟨_, M72, [], B1T (n := 6) rfl rfl rfl rfl kR At.mem (by rfl), Fit.none (Fit.last PickC.perm), (fun _ => ⟨_, p, r, u, rfl, hP72, h72.mono SubC.sub, hp.mono SubC.sub, (hr.mono SubC.sub).i, hu.mono SubC.sub, hsn, hon⟩), fun h => by rw [hck] at h; cases h⟩

theorem A2Y (pb : Nat) (s : Ps) (kb : Nat) (k : Ks) (va vg vq vo vm : Value) (rs ro rm : List (List Value)) (h : He) (wa wg wk : Value) (MP A : Mem) (hK : KyR A kb k va vg vq vo vm rs ro rm) (hrise : B4h k.once) (hP : Prm pb s MP) (hn : s.ts.length + 1000 ≤ 1040000) (gh : HeR A h wa wg wk) (hG : Glb A) : FnX Tryz.prog 23 [.pointer (some ⟨pb, 0, none⟩), .pointer (some ⟨kb, 0, none⟩), .agg #[wa, wg, wk, .int .u32 ((h.signed : Nat) : Int), .bool h.has, .int .u32 ((h.once : Nat) : Int)]] MP A fun q M J => ∃ v o, q = .tuple #[v, o, .int .i64 (if (anR k h s).1.isSome then 0 else 9)] ∧ Prm pb (anR k h s).2 M ∧ By J v ((anR k h s).1.elim [] (·.1)) ∧ By J o ((anR k h s).1.elim [] (·.2)) := by
 haveI := gh.ia.cel
 haveI := gh.ig.cel
 haveI := gh.key.cel
 refine FnX.enterZ (N := 70) Tryz.func23 rfl rfl rfl fun w_ => ?_
 refine C4 (E1 0 1 2) (A3 ?_)
 refine A6 rfl (bx_ fun b5 => ?_)
 refine as_ (as_ (as_ (A0 (E1 0 1 5) (A5 (A3 (mv_ ?_))))))
 refine A4 (F0 (e := 114) rfl rfl kR) rfl ?_
 refine mv_ ?_
 refine F4 rfl rfl (OpQ.opL qm_ rfl ?_)
 refine F4 rfl rfl (OpQ.opL (F0 (e := 117) rfl rfl kR) rfl ?_)
 refine A4 (E9 rfl rfl) rfl ?_
 refine A0 (E7 0 1 5 19) ?_
 refine D4 rfl ?_
 refine A9 (nx (E1 0 1 5) (A3 (mv_ ?_)))
 refine A4 (qf_ 3 3) rfl ?_
 refine A4 ql_ rfl ?_
 refine C9 (aS rfl (aS rfl a0)) kR (B4d kb k va vg vq vo vm rs ro rm h.signed _ (hK.mono SubC.sub)) rfl ?_
 rintro r24 M24 J24 ⟨rfl, q1, rfl, hq1⟩
 haveI := hq1.cel
 refine mv_ ?_
 refine A4 (A2O rfl) rfl ?_
 refine A4 (A2z rfl) rfl ?_
 refine as_ (as_ (A0 (F7 0 1 5 9 10) (A5 ?_)))
 cases hsg : A15 k.signed h.signed with
 | none => ?_
 | some sx => ?_
 ·
  refine A3 (mv_ ?_)
  refine A4 (A0e rfl) rfl ?_
  refine A0 (F7 0 1 5 9 28) ?_
  refine E2 rfl ?_
  refine A3 (as_ (as_ (as_ (A0 (E1 6 7 8) (C2 (tr ?_))))))
  exact ⟨_, MP, [], C0M rfl rfl rfl rfl, Fit.none (Fit.last PickC.perm), by rw [B9t hsg]; exact ⟨_, _, rfl, hP, By.nil, By.nil⟩⟩
 ·
  rw [hsg] at hq1
  change By _ q1 sx at hq1
  have f2 := T8 s sx h.ia
  have f3 := T8 (L3 s sx h.ia) k.agree h.key
  have f4 := T8 (L3 (L3 s sx h.ia) k.agree h.key) sx h.key
  refine A3 (mv_ ?_)
  refine A4 (A0e rfl) rfl ?_
  refine A0 (F7 0 1 5 9 28) ?_
  refine D4 rfl ?_
  refine A9 (nx (E7 0 1 5 9) ?_)
  refine H5 (MP) (_) true (.range 19) [(0, 0), (1, 0), (2, 0), (3, 0), (4, 1), (6, 0), (7, 0), (9, 0), (10, 1), (12, 0), (13, 0), (14, 0), (15, 1), (5, 2), (8, 2), (11, 2), (16, 2), (17, 2), (18, 0)] kR kR PickC.perm fun hs K n0 hKm hKs hKn => ?_
  refine km_ hs ?_
  refine km_ hs ?_
  refine I0 hs rfl (qf_ 0 0) rfl ?_
  refine I0 hs rfl (qf_ 0 0) rfl ?_
  refine P0 hs rfl hKs ql_ ?_
  refine km_ hs ?_
  refine km_ hs ?_
  refine I0 hs rfl (qf_ 2 2) rfl ?_
  refine P0 hs rfl hKs ql_ ?_
  refine km_ hs ?_
  refine km_ hs ?_
  refine I0 hs rfl (qf_ 2 2) rfl ?_
  refine P0 hs rfl hKs ql_ ?_
  refine K0 _ _ rfl rfl (List.Perm.refl _) hKm fun w0 => (E0 (Mc := MP) (R := _) (aS rfl (aS rfl (aS rfl (a0)))) kR PickC.perm (A0T pb (s) q1 wa sx h.ia MP _ hP (by omega) (hq1.mono SubC.sub) (gh.ia.mono SubC.sub) hG.up) rfl ?_)
  rintro v34 M34 J34 ⟨hP34, h34⟩ hKx34
  haveI := h34.cel
  refine K0 [] _ rfl rfl (List.Perm.refl _) (fun _ h => by cases h) fun w0 => (D7 (aS rfl a0) kR (A8L kb k va vg vq vo vm rs ro rm _ (hK.mono SubC.sub)) rfl ?_)
  rintro v37 M37 J37 ⟨rfl, h37⟩ _
  haveI := h37.cel
  dsimp only [List.nil_append, List.append_eq]
  refine K0 M34 _ rfl rfl PickC.perm (fun x hx => hKx34 (hKn rfl) x (by simpa using hx)) fun w0 => (E0 (Mc := M34) (R := _) (aS rfl (aS rfl (aS rfl (a0)))) kR PickC.perm (A0T pb ((L3 s sx h.ia)) v37 wk k.agree h.key M34 _ hP34 (by omega) (h37.mono SubC.sub) (gh.key.mono SubC.sub) hG.up) rfl ?_)
  rintro v40 M40 J40 ⟨hP40, h40⟩ hKx40
  haveI := h40.cel
  refine K0 M40 _ rfl rfl PickC.perm (fun x hx => hKx40 (hKn rfl) x (by simpa using hx)) fun w0 => (E0 (Mc := M40) (R := _) (aS rfl (aS rfl (aS rfl (a0)))) kR PickC.perm (A0T pb ((L3 (L3 s sx h.ia) k.agree h.key)) q1 wk sx h.key M40 _ hP40 (by omega) (hq1.mono SubC.sub) (gh.key.mono SubC.sub) hG.up) rfl ?_)
  rintro v45 M45 J45 ⟨hP45, h45⟩ hKx45
  haveI := h45.cel
  refine K0 [] _ rfl rfl (List.Perm.refl _) (fun _ h => by cases h) fun w0 => (C6 (e := 27) (sz := 1) (z := [.slice none 0 0, .slice none 0 0, .slice none 0 0]) kR (eS rfl (eS rfl (eS rfl e0))) (bdS 0 1 rfl (by rfl) (bdS 1 1 rfl (by rfl) (bdS 2 1 rfl (by rfl) bd0))) rfl fun b46 => fun hk46 => ?_)
  dsimp only [List.cons_append, List.nil_append, List.append_eq]
  refine I0 hs rfl (H8 rfl) rfl ?_
  refine N6 (F7 0 1 5 9 11) ?_
  refine A0q (α := Value × Mem × Mem × Option (List Nat)) (fun y => [(0, .pointer (some ⟨pb, 0, none⟩)), (9, q1), (11, y.1)]) (fun y => y.2.1) (fun y => y.2.2.1) (fun y => Prm pb (agS s (anP k.agree sx y.2.2.2 h)) y.2.1 ∧ LsV (y.2.2.1 ++ A) y.1 (agK s (anP k.agree sx y.2.2.2 h)) ∧ By y.2.2.1 q1 sx ∧ anR k h s = anE k.agree sx y.2.2.2 h s) ?_ ?_
  ·
   refine X9 (B := [(b46, blk [v34, v40, v45] 27)]) PickC.perm ?_
   refine A3 ?_
   refine A4 (qf_ 4 4) rfl ?_
   refine A4 ql_ rfl ?_
   refine A0 (I5 0 1 5 9 11 48) ?_
   refine C8 rfl (fun hc => ?_) (fun hc => ?_)
   ·
    refine A3 (mv_ ?_)
    refine A4 (qf_ 5 5) rfl ?_
    refine A4 ql_ rfl ?_
    refine C9 (aS rfl (aS rfl a0)) kR (B9o kb k va vg vq vo vm rs ro rm h.once _ (hK.mono SubC.sub) hrise) rfl ?_
    rintro r53 M53 J53 ⟨rfl, q2, rfl, hq2⟩
    haveI := hq2.cel
    refine mv_ ?_
    refine A4 (A2O rfl) rfl ?_
    refine A4 (A2z rfl) rfl ?_
    refine as_ (as_ (A0 (I5 0 5 9 11 12 13) (A5 ?_)))
    cases hog : A15 k.once h.once with
    | none => ?_
    | some ox => ?_
    ·
     refine A3 (mv_ ?_)
     refine A4 (A0e rfl) rfl ?_
     refine A0 (I5 0 5 9 11 12 57) ?_
     refine E2 rfl ?_
     refine A3 (as_ (as_ (as_ (A0 (E1 6 7 8) (C2 (tr (jr ?_)))))))
     exact ⟨_, M45, [], C0M rfl rfl rfl rfl, Fit.none (Fit.last PickC.perm), by rw [B7I hsg hc hog]; exact ⟨_, _, rfl, hP45, By.nil, By.nil⟩⟩
    ·
     rw [hog] at hq2
     change By _ q2 ox at hq2
     refine A3 (mv_ ?_)
     refine A4 (A0e rfl) rfl ?_
     refine A0 (I5 0 5 9 11 12 57) ?_
     refine D4 rfl ?_
     refine A9 (nx (F7 0 5 9 11 12) (C3 (mv_ (mv_ (mv_ ?_)))))
     refine A4 (qf_ 2 2) rfl ?_
     refine A4 ql_ rfl ?_
     refine A6 rfl (E0 (Mc := M45) (R := _) (aS rfl (aS rfl (aS rfl (a0)))) kR PickC.perm (A0T pb (L3 (L3 (L3 s sx h.ia) k.agree h.key) sx h.key) q2 wk ox h.key M45 _ hP45 (by omega) (hq2.mono SubC.sub) (gh.key.mono SubC.sub) hG.up) rfl ?_)
     rintro v63 M63 J63 ⟨hP63, h63⟩
     haveI := h63.cel
     refine A6 rfl (C6 (e := 27) (sz := 1) (z := [.slice none 0 0]) kR (eS rfl e0) (bdS 0 1 rfl (by rfl) bd0) rfl fun b64 => ?_)
     refine A6 rfl (A3q (e := 27) (sz := 1) (by_ := 24) (xs := [v34, v40, v45]) rfl rfl kR rfl (Rd.whole (n := 3) At.mem (by rfl)) (Rd.whole (n := 1) At.mem (by rfl)) (by decide) (by decide) (by decide) rfl fun v65 B65 hs65 => ?_)
     haveI := hs65.cel
     refine A8b (B := B65) PickC.perm ?_
     refine as_ (D0 ?_)
     exact jn (v65, M63, _, some ox) ⟨hP63, ⟨[v34, v40, v45] ++ [v63], hs65.rd SubC.sub, Lst.cons (h34.mono SubC.sub) (Lst.cons (h40.mono SubC.sub) (Lst.cons (h45.mono SubC.sub) (Lst.cons (h63.mono SubC.sub) Lst.nil)))⟩, hq1.mono SubC.sub, A7I hsg hc hog⟩ (E1 0 9 11) (Fit.last PickC.perm) (fun _ h => h)
   ·
    refine A9 ?_
    exact jn (.slice (some ⟨b46, 0, none⟩) 3 3, M45, _, none) ⟨hP45, ⟨[v34, v40, v45], Rd.whole (n := 3) At.mem (by rfl), Lst.cons (h34.mono SubC.sub) (Lst.cons (h40.mono SubC.sub) (Lst.cons (h45.mono SubC.sub) Lst.nil))⟩, hq1.mono SubC.sub, A5y hsg hc⟩ (E1 0 9 11) (Fit.last PickC.perm) (fun _ h => h)
  ·
   rintro ⟨lv, MJ, J9, xo⟩ ⟨hPJ, hLJ, hqJ, hR⟩
   dsimp only at hPJ hLJ hqJ hR ⊢
   haveI := hLJ.cel
   have hzl : (agK s (anP k.agree sx xo h)).length ≤ 4 := by rw [A7H]; unfold anP; split <;> simp
   have hzs := A7G (anP k.agree sx xo h) s
   have hz0 : (anP k.agree sx xo h).length ≤ 4 := by unfold anP; split <;> simp
   refine A3 (mv_ (mv_ ?_))
   refine A6 rfl (E0 (Mc := MJ) (R := _) (aS rfl (aS rfl (a0))) kR PickC.perm (A3Q pb _ lv _ MJ _ hPJ (hLJ.mono SubC.sub) (by omega) (by omega) hG.up) rfl ?_)
   rintro v68 M68 J68 ⟨hP68, h68⟩
   haveI := h68.cel
   refine mv_ (as_ (as_ (as_ (A0 (E1 6 7 8) (C2 ?_)))))
   exact ⟨_, M68, [], C0M rfl rfl rfl rfl, Fit.none (Fit.last PickC.perm), by rw [hR]; exact ⟨_, _, rfl, hP68, h68.mono SubC.sub, hqJ.mono SubC.sub⟩⟩

theorem KyR.lt {R : Mem} {kb : Nat} {k : Ks} {va vg vs vo vm : Value} {rs ro rm : List (List Value)} (h : KyR R kb k va vg vs vo vm rs ro rm) : ∀ w ∈ B4q k, ∀ x ∈ w, x < 256 := by
  intro w hw
  rcases List.mem_cons.1 hw with rfl | hw
  · exact h.agree.lt
  rcases List.mem_cons.1 hw with rfl | hw
  · exact h.sign.lt
  obtain ⟨x, hx, rfl⟩ := List.mem_map.1 hw
  rcases List.mem_append.1 hx with hx | hx
  · obtain ⟨i, hi⟩ := List.getElem?_of_mem hx
    obtain ⟨r, hr, a, b, rfl, h1, -⟩ := h.signedR.get i x hi
    exact h1.lt
  · obtain ⟨i, hi⟩ := List.getElem?_of_mem hx
    obtain ⟨r, hr, a, b, rfl, h1, -⟩ := h.onceR.get i x hi
    exact h1.lt
theorem C0N {k : Ks} {x : Pr} (h : x ∈ k.signed) : x.sec ∈ B4q k := by simp only [B4q, List.mem_cons, List.mem_map, List.mem_append]; exact .inr (.inr ⟨x, .inl h, rfl⟩)
theorem C0O {k : Ks} {x : Pr} (h : x ∈ k.once) : x.sec ∈ B4q k := by simp only [B4q, List.mem_cons, List.mem_map, List.mem_append]; exact .inr (.inr ⟨x, .inr h, rfl⟩)
theorem B5y (u d : Int) (s : Ps) : Ext s (A2x u d s).2 :=
  (((W6 s).trans (W6 (D3 s))).trans (B1O (k0N u d s) (D3 (D3 s)))).trans (A8O _ _ _)
def ag0 (m : Nat) : Ps := ⟨m % 2 == 0, [97, 103, 114, 101, 101], 0, []⟩
noncomputable def oA (m : Nat) : Ks × Ps := A2x 0 1 (ag0 m)
noncomputable def oB (m : Nat) : Ks × Ps := A2x 1 1 (oA m).2
structure OpF (m : Nat) (a b : Ks) (s : Ps) : Prop where
  ba : BuI a s
  bb : BuI b s
  sg : ∃ x, b.signed = [x] ∧ x.n = 1 ∧ x.sec.length = 32
  on : onN b = [2, 3, 4, 5]
  nx : b.next = 6
  ts : s.ts.length ≤ 22
  n : s.n ≤ 14
  real : s.real = (m % 2 == 0)
theorem A9A (s : Ps) : (D6 s).length = 32 := by
  cases hr : s.real with
  | true => rw [A1P hr]; unfold Y0; rw [A00]; decide
  | false => rw [A2T hr]; exact A0t _ (by decide)
theorem A9B (u d : Int) (s : Ps) : (A2x u d s).1.signed = [turnP (k0N u d s) (D3 (D3 s))] := by
  unfold A2x; rw [B1M]; rfl
theorem A8P (m : Nat) : OpF m (oA m).1 (oB m).1 (oB m).2 := by
  have e1 : (ag0 m).ts.length = 0 := rfl
  have e2 : (ag0 m).n = 0 := rfl
  have h1 := A5t 0 1 (ag0 m)
  have h2 := A5t 1 1 (oA m).2
  change (oA m).2.ts.length ≤ _ ∧ (oA m).2.n ≤ _ ∧ _ at h1
  change (oB m).2.ts.length ≤ _ ∧ (oB m).2.n ≤ _ ∧ _ at h2
  have b1 : BuI (oA m).1 (oA m).2 := BuI.new (s := ag0 m) Tok.nil Ar.nil (by omega) (by omega)
  have b2 : BuI (oB m).1 (oB m).2 := BuI.new b1.tok b1.ar (by omega) (by omega)
  have e := B5y 1 1 (oA m).2
  have e' := B5y 0 1 (ag0 m)
  exact ⟨b1.ext e.p b2.tok b2.ar, b2, ⟨_, A9B 1 1 (oA m).2, rfl, A9A _⟩, B5w 1 1 (oA m).2, B4r 1 1 (oA m).2, by omega, by omega, e.p.real.trans e'.p.real⟩
theorem B1V {b : Bn} {l : List Pr} {s : Ps} : ∀ i, (A0p b l s i).2.n = s.n
  | 0 => rfl
  | i + 1 => by
    unfold A0p
    cases l[i]? with
    | none => exact B1V i
    | some o => show (H6 _ _).n = _; rw [A0U, B1V i]
theorem B5z {k : Ks} {s : Ps} : (I1 k s).2.n = s.n := by
  unfold I1
  cases k.signed with
  | nil => rfl
  | cons x l => show (A0p _ _ _ _).2.n = _; rw [B1V, A0U]; unfold idS; rw [A0U, A0U]
theorem B1W {k : Ks} {s : Ps} {x : Pr} {sl : List Pr} (hs : k.signed = x :: sl) {j : Nat} (hj : j < k.once.length + 1) : ∃ y xo, (I1 k s).1[j]? = some y ∧ y.user = k.user ∧ y.dev = k.dev ∧ y.ia = idA k s ∧ y.ig = idG k s ∧ y.signed = x.n ∧ y.key = K9 (idS k s) x.sec ∧ y.sig = x.sig ∧ y.has = xo.isSome ∧
    (∀ o, xo = some o → ∃ p, 0 < j ∧ k.once[j - 1]? = some p ∧ o = p.sec ∧ y.once = p.n ∧ y.oncek = K9 (A0p (A5u k x s) k.once (H6 (idS k s) x.sec) (j - 1)).2 p.sec) ∧ (xo = none ↔ j = 0) := by
  obtain ⟨g1, g2, g3, g4⟩ := A09 (s := s) hs
  cases j with
  | zero => exact ⟨_, none, g2, rfl, rfl, rfl, rfl, rfl, rfl, rfl, rfl, fun o h => (by cases h), by simp⟩
  | succ j =>
    obtain ⟨o, ho⟩ : ∃ o, k.once[j]? = some o := ⟨_, List.getElem?_eq_getElem (by omega)⟩
    exact ⟨_, some o.sec, g3 j o ho, rfl, rfl, rfl, rfl, rfl, rfl, rfl, rfl, fun o' h => (by cases h; exact ⟨o, by omega, ho, rfl, rfl, rfl⟩), by simp⟩
theorem A8Q {ka kb : Ks} {s S : Ps} {x : Pr} {sl : List Pr} {y : Bn} {xo : Option (List Nat)} (hb : BuI kb s) (hs : kb.signed = x :: sl) (hl : s.ts.length + 200 ≤ 1048576) (ho4 : kb.once.length ≤ 10) (he : Pext (I1 kb s).2 S) (ha : BuI ka S) (l1 : ∀ w ∈ B4q ka, ∀ x ∈ w, x < 256) (l2 : ∀ w ∈ B4q kb, ∀ x ∈ w, x < 256) (hL : S.ts.length + 200 ≤ 1048576) (hn : S.n < 1000000000)
    (y3 : y.ia = idA kb s) (y4 : y.ig = idG kb s) (y5 : y.signed = x.n) (y6 : y.key = K9 (idS kb s) x.sec) (y7 : y.sig = x.sig) (y8 : y.has = xo.isSome) {j : Nat} (y9 : ∀ o, xo = some o → ∃ p, 0 < j ∧ kb.once[j - 1]? = some p ∧ o = p.sec ∧ y.once = p.n ∧ y.oncek = K9 (A0p (A5u kb x s) kb.once (H6 (idS kb s) x.sec) (j - 1)).2 p.sec) :
    ckB S y = true ∧ Agd (stS ka y S) ka.agree (D6 S) kb.agree x.sec xo (stH ka y S) (stK ka y S) ∧ BuI ka (stS ka y S) ∧ Ext S (stS ka y S) ∧ B1t (stS ka y S) ka.sign (stH ka y S).ig ∧ U2 S x.sec y.key := by
  obtain ⟨h1, h2, h3, h4, h5, h6, h7⟩ := hb.bundles hs hl ho4
  have hck : ckB S y = true := by
    unfold ckB
    rw [y6, y5, y7, y4, B9i (by omega) (h4.ext he) (h6.ext he), A3O]; rfl
  obtain ⟨g1, g2, g3, g4⟩ := B4t (b := y) (xo := xo) (kb := kb.agree) (xs := x.sec) ha (by rw [y6]; exact h5.ext he) (by rw [y3]; exact h3.ext he) y8 (fun o ho => by
    obtain ⟨p, q0, q1, q2, q3, q4⟩ := y9 o ho
    refine ⟨?_, q2 ▸ l2 _ (C0O (List.mem_of_getElem? q1))⟩
    rw [q4, q2]
    exact (h7 (j - 1) p q1).ext he) (l1 _ (by simp [B4q])) (l2 _ (C0N (by rw [hs]; simp))) (l2 _ (by simp [B4q])) hL hn
  exact ⟨hck, g1, g2, g3, g4, by rw [y6]; exact h5.ext he⟩
theorem A8R (m : Nat) (A : Mem) (hm : m < 256) (hG : Glb A) : FnX Tryz.prog 15 [.int .u8 ((m : Nat) : Int)] [] A fun q M J => ∃ tb pb ka kb MA MB MP, q = .pointer (some ⟨tb, 0, none⟩) ∧ M = (tb, blk [.pointer (some ⟨pb, 0, none⟩), .pointer (some ⟨ka, 0, none⟩), .pointer (some ⟨kb, 0, none⟩)] 37) :: (MA ++ (MB ++ MP)) ∧ Kys (J ++ A) ka (oA m).1 MA ∧ Kys (J ++ A) kb (oB m).1 MB ∧ Prm pb (oB m).2 MP := by
 refine FnX.enterZ (N := 24) Tryz.func15 rfl rfl rfl fun w_ => ?_
 refine C4 (D8 0) (A3 (as_ (A0 (D8 0) (A3 (mv_ ?_)))))
 refine A4 (A1f (a := m) (b := 2) rfl rfl rfl rfl (by decide)) rfl ?_
 rw [B9s m]
 refine A6 rfl (C6 (e := 5) (sz := 1) (z := [zu8, zu8, zu8, zu8, zu8]) kR (eS rfl (eS rfl (eS rfl (eS rfl (eS rfl e0))))) (bdS 0 1 rfl (by rfl) (bdS 1 1 rfl (by rfl) (bdS 2 1 rfl (by rfl) (bdS 3 1 rfl (by rfl) (bdS 4 1 rfl (by rfl) bd0))))) rfl fun b8 => ?_)
 refine A6 rfl (A38 rfl kR UpC.upd rfl ?_)
 refine A8b (B := [_]) (PickC.sing).perm ?_
 refine C9 (aS rfl (aS rfl a0)) kR (B0w (m % 2 == 0) _ [97, 103, 114, 101, 101] _ ⟨Rd.whole (n := 5) (At.mem) (by rfl), by decide, by decide⟩) rfl ?_
 rintro v10 MP J10 ⟨pb, rfl, hP⟩
 change Prm pb (ag0 m) MP at hP
 have q1 := A5t 0 1 (ag0 m)
 change (oA m).2.ts.length ≤ 11 ∧ (oA m).2.n ≤ 7 ∧ _ at q1
 refine mv_ ?_
 refine A4 (A2O rfl) rfl ?_
 refine A4 (A2z rfl) rfl ?_
 refine as_ (as_ (A0 (D5 3 4) (A5 (A3 (mv_ ?_)))))
 refine A4 (F9 false rfl rfl (neF rfl)) rfl ?_
 refine A0 (D5 3 14) ?_
 refine D4 rfl ?_
 refine A9 (nx (D8 3) (A3 (mv_ (mv_ ?_))))
 refine A4 (F3 (place := fun x => #[(0, 1), (1, 1)][x]?) (z := [.int .i64 0, .int .i64 0]) (fun _ => by kernel_rfl) (eS rfl (eS rfl e0)) (bdS 0 1 rfl (by rfl) (bdS 1 1 rfl (by rfl) bd0))) rfl ?_
 refine A6 rfl (E0 (Mc := MP) (R := _) (aS rfl (aS rfl (a0))) kR PickC.perm (B7A 0 1 pb (ag0 m) MP _ hP (show 0 + 200 ≤ 1048576 by decide) (show 0 + 100 < 1000000000 by decide) hG.up) rfl ?_)
 rintro v18 M18 J18 ⟨ka, MA, MP2, rfl, rfl, hKa, hP2⟩
 refine mv_ ?_
 refine A4 (F3 (place := fun x => #[(0, 1), (1, 1)][x]?) (z := [.int .i64 0, .int .i64 0]) (fun _ => by kernel_rfl) (eS rfl (eS rfl e0)) (bdS 0 1 rfl (by rfl) (bdS 1 1 rfl (by rfl) bd0))) rfl ?_
 refine A6 rfl (E0 (Mc := MP2) (R := _) (aS rfl (aS rfl (a0))) kR PickC.perm (FnX.amb SubC.sub (B7A 1 1 pb (oA m).2 MP2 A hP2 (by omega) (by omega) hG)) rfl ?_)
 rintro v21 M21 J21 ⟨kb, MB, MP3, rfl, rfl, hKb, hP3⟩
 refine A4 (F3 (place := fun x => #[(0, 1), (1, 1), (2, 1)][x]?) (z := [.pointer none, .pointer none, .pointer none]) (fun _ => by kernel_rfl) (eS rfl (eS rfl (eS rfl e0))) (bdS 0 1 rfl (by rfl) (bdS 1 1 rfl (by rfl) (bdS 2 1 rfl (by rfl) bd0)))) rfl ?_
 refine A6 rfl (bx_ fun b23 => ?_)
 refine as_ (A0 (D8 2) (C2 ?_))
 exact ⟨_, (b23, blk [.pointer (some ⟨pb, 0, none⟩), .pointer (some ⟨ka, 0, none⟩), .pointer (some ⟨kb, 0, none⟩)] 37) :: (MA ++ (MB ++ MP3)), [], I4 rfl rfl, Fit.none (Fit.pick (B := [_]) PickC.perm (Fit.pick PickC.perm (Fit.pick PickC.perm (Fit.last PickC.perm)))), b23, pb, ka, kb, MA, MB, MP3, rfl, rfl, hKa.mono SubC.sub, hKb.mono SubC.sub, hP3⟩
def StV (R : Mem) (v : Value) (K : List Nat) (H : He) : Prop := ∃ x p r u, v = .tuple #[x, .agg (heC p r u H).toArray, .int .i64 0] ∧ By R x K ∧ HeR R H p r u
theorem StV.mono {R R' : Mem} {v : Value} {K : List Nat} {H : He} (h : StV R v K H) (hR : ∀ x, x ∈ R → x ∈ R') : StV R' v K H := by
  obtain ⟨x, p, r, u, h1, h2, h3⟩ := h
  exact ⟨x, p, r, u, h1, h2.mono hR, h3.mono hR⟩
theorem B1X (A : Mem) (hG : Glb A) : FnV Tryz.prog 14 [] A (.bool true) := by
 refine FnX.enter (N := 84) Tryz.func14 rfl rfl rfl fun w_ => ?_
 refine C4 kn (A3 (as_ (A0 kn (A3 ?_))))
 refine C9 (aS rfl a0) kR (A8R 1 _ (by decide) hG.up) rfl ?_
 rintro v9 M9 J9 ⟨tb, pb, ka, kb, MA, MB, MP, rfl, rfl, hKa, hKb, hP⟩
 have hF := A8P (1)
 generalize (oA (1)).1 = ak at *
 generalize (oB (1)).1 = bk at *
 generalize (oB (1)).2 = s at *
 obtain ⟨x, hsg, hxn, hxl⟩ := hF.sg
 have hol := B5x bk
 rw [hF.on] at hol
 change 4 = _ at hol
 have hts := hF.ts
 have hsn := hF.n
 have hrise : B4h bk.once := A7F (by rw [show bk.once.map (·.n) = onN bk from rfl, hF.on]; decide)
 refine as_ (A0 (D8 1) (A5 (A3 (mv_ ?_))))
 refine A4 (F0 (e := 37) rfl rfl kR) rfl ?_
 refine mv_ ?_
 refine F4 rfl rfl (OpQ.opL qm_ rfl ?_)
 refine F4 rfl rfl (OpQ.opL (F5 rfl) rfl ?_)
 refine F4 rfl rfl (OpQ.opL (qf_ 2 2) rfl ?_)
 refine F4 rfl rfl (OpQ.opL ql_ rfl ?_)
 refine F4 rfl rfl (OpQ.opL (F0 (e := 114) rfl rfl kR) rfl ?_)
 refine A4 (E9 rfl rfl) rfl ?_
 refine A0 (D5 1 18) ?_
 refine D4 rfl ?_
 refine A9 (nx (D8 1) ?_)
 refine X9 (B := [(tb, blk [.pointer (some ⟨pb, 0, none⟩), .pointer (some ⟨ka, 0, none⟩), .pointer (some ⟨kb, 0, none⟩)] 37)]) PickC.perm ?_
 refine X9 (B := MA) PickC.perm ?_
 refine X9 (B := MB) PickC.perm ?_
 obtain ⟨va, vg, vq, vo, vm, rs, ro, rm, hra⟩ := hKa.r
 obtain ⟨ua, ug, uq, uo, um, ss, so, sm, hrb⟩ := hKb.r
 have hla := (hra _ (fun _ h => List.mem_append_left MA h) (fun _ h => List.mem_append_right _ h)).lt
 have hlb := (hrb _ (fun _ h => List.mem_append_left MB h) (fun _ h => List.mem_append_right _ h)).lt
 refine D2 [0, 1, 2, 3, 4, 5, 6, 7, 9] (zp 0 [0, 0, 0, 1, 0, 0, 0, 1, 2, 0]) kR kR fun hs => ?_
 refine fm_ hs ?_
 refine D1 hs rfl (F5 rfl) rfl ?_
 refine D1 hs rfl (qf_ 2 2) rfl ?_
 refine F6 hs rfl ql_ rfl ?_
 refine fm_ hs ?_
 refine D1 hs rfl (F5 rfl) rfl ?_
 refine D1 hs rfl (qf_ 0 0) rfl ?_
 refine F6 hs rfl ql_ rfl ?_
 refine G2 rfl rfl rfl (E0 (Mc := MP) (R := _) (aS rfl (aS rfl (a0))) kR PickC.perm (B1L pb s kb bk ua ug uq uo um ss so sm x [] MP _ (hrb _ SubC.sub SubC.sub) hsg hP (by omega) (by omega) hG.up) rfl ?_)
 rintro v27 M27 J27 ⟨hP27, rows, hrd, hrw⟩
 haveI := hrd.cel
 obtain ⟨hbl, -, -, hbt⟩ := A09 (s := s) hsg
 rw [← hol] at hbl
 obtain ⟨y, xo, hy, -, -, y3, y4, y5, y6, y7, y8, y9, y10⟩ := B1W (s := s) hsg (j := 1) (by omega)
 obtain ⟨r0, hr0, w1, w2, w3, w4, w5, rfl, gw1, gw2, gw3, gw4, gw5, gws, gwo⟩ := hrw.get 1 y hy
 haveI := gw1.cel
 haveI := gw2.cel
 haveI := gw3.cel
 haveI := gw4.cel
 haveI := gw5.cel
 obtain ⟨hb1, hb2, -⟩ := hF.bb.bundles hsg (by omega) (by omega)
 have hbn : (I1 bk s).2.n = s.n := B5z
 have ha2 := hF.ba.ext hb2 hb1.tok hb1.ar
 obtain ⟨hck, hag, hbi, hex, -, hpx⟩ := A8Q hF.bb hsg (by omega) (by omega) (Pext.refl _) ha2 hla hlb (by omega) (by omega) y3 y4 y5 y6 y7 y8 y9
 have hst := A5x ak y (I1 bk s).2
 have hans := hag.ans (kb := bk) hbi.tok (by omega) (by rw [hsg]; show A15 [x] (stH ak y (I1 bk s).2).signed = _; rw [show (stH ak y (I1 bk s).2).signed = x.n from y5]; exact A3P) y8 (fun hh => by
  change y.has = true at hh
  rw [y8] at hh
  obtain ⟨o, rfl⟩ := Option.isSome_iff_exists.1 hh
  obtain ⟨q, q0, q1, q2, q3, -⟩ := y9 o rfl
  rw [show (stH ak y (I1 bk s).2).once = y.once from if_pos (y8.trans rfl), q3, q2]
  exact B1P hrise q1)
 have hKl := (A6H (stI ak y (I1 bk s).2) (stL ak.agree y (I1 bk s).2)).2
 change (stK ak y (I1 bk s).2).length = 32 at hKl
 have h2k := hex.n
 refine fa_ hs ?_
 refine E3 (D5 1 2) (A5 (A3 (mv_ ?_)))
 refine A4 (I3 (sz := 10) rfl kR hrd) rfl ?_
 rw [hbl]
 refine A4 (F9 false rfl rfl (neF (by rfl))) rfl ?_
 refine A0 (E1 1 2 30) ?_
 refine D4 rfl ?_
 refine A9 (nx (D5 1 2) ?_)
 refine H5 (M27) (_) true [0, 1, 2, 3, 4, 5, 6, 7, 8, 9, 10, 11, 12, 13, 14, 15, 16, 17, 19] [(0, 0), (1, 0), (2, 0), (3, 1), (4, 0), (5, 0), (6, 0), (7, 1), (8, 0), (9, 0), (10, 1), (11, 8), (12, 8), (13, 8), (16, 8), (14, 9), (15, 10), (17, 0), (18, 2), (19, 0)] kR kR PickC.perm fun hs K n0 hKm hKs hKn => ?_
 refine km_ hs ?_
 refine I0 hs rfl (F5 rfl) rfl ?_
 refine I0 hs rfl (qf_ 0 0) rfl ?_
 refine P0 hs rfl hKs ql_ ?_
 refine km_ hs ?_
 refine I0 hs rfl (F5 rfl) rfl ?_
 refine I0 hs rfl (qf_ 1 1) rfl ?_
 refine P0 hs rfl hKs ql_ ?_
 refine km_ hs ?_
 refine I0 hs rfl (I7 (sz := 10) (a := 1) rfl rfl kR rfl hrd (by rw [hbl]; decide)) rfl ?_
 refine P0 hs rfl hKs (A0F rfl kR (hrd.mono SubC.sub) (hrw.lens bnT) (by decide) hr0) ?_
 refine A1W [⟨11, 43, none, M27, fun v B R => Prm pb (stS ak y (I1 bk s).2) B ∧ StV R v (stK ak y (I1 bk s).2) (stH ak y (I1 bk s).2)⟩, ⟨12, 31, none, [], fun v B R => B = [] ∧ StV R v (stK ak y (I1 bk s).2) (stH ak y (I1 bk s).2)⟩, ⟨13, 44, none, [], fun v B R => B = [] ∧ By R v (stK ak y (I1 bk s).2)⟩, ⟨16, 4, none, [], fun v B _ => ∃ b, v = .pointer (some ⟨b, 0, none⟩) ∧ B = [(b, blk [.slice none 0 0, .slice none 0 0, .slice none 0 0, .int .u32 0, .bool false, .int .u32 0] 43)]⟩] [⟨14, 45, none, [], fun v B R => B = [] ∧ ∃ p r u, v = .agg (heC p r u (stH ak y (I1 bk s).2)).toArray ∧ HeR R (stH ak y (I1 bk s).2) p r u⟩, ⟨15, 46, none, [], fun v B R => B = [] ∧ v = .int .i64 0⟩] ([]) (fun bs => [bs 11, bs 12, bs 13, bs 16, bs 14, bs 15]) (hKn rfl) (by simp [A0y, A1V]) (show ∀ m ∈ ([M27, [], [], [], [], []] : List Mem), ∀ x ∈ m, K x.1 from C1 (hKm) (C1 (fun _ h => by cases h) (C1 (fun _ h => by cases h) (C1 (fun _ h => by cases h) (C1 (fun _ h => by cases h) (C1 (fun _ h => by cases h) (K3))))))) kR (fun _ => by first | rfl | kernel_rfl)
  (C1 (fun _ _ _ _ h ⟨p1, p2⟩ => ⟨p1, p2.mono h⟩) (C1 (fun _ _ _ _ h ⟨p1, p2⟩ => ⟨p1, p2.mono h⟩) (C1 (fun _ _ _ _ h ⟨p1, p2⟩ => ⟨p1, p2.mono h⟩) (C1 (fun _ _ _ _ _ h => h) (C1 (fun _ _ _ _ h ⟨p1, p, r, u, e, p2⟩ => ⟨p1, p, r, u, e, p2.mono h⟩) (C1 (fun _ _ _ _ _ h => h) (K3))))))) (show List.Nodup [43, 31, 44, 4, 45, 46] by decide) (show List.Nodup [11, 12, 13, 16, 14, 15] by decide) (C1 (C7 rfl) (C1 (C7 rfl) (C1 (C7 rfl) (C1 (C7 rfl) (C1 (C7 rfl) (C1 (C7 rfl) (K3)))))))
  hs (List.cons_ne_nil _ _) (C1 ⟨_, rfl, fun vs bs R Rj wG hb hj hjr ha => ⟨.inl rfl, ?_⟩⟩ (C1 ⟨_, rfl, fun vs bs R Rj wG hb hj hjr ha => ⟨.inl rfl, ?_⟩⟩ (C1 ⟨_, rfl, fun vs bs R Rj wG hb hj hjr ha => ⟨.inl rfl, ?_⟩⟩ (C1 ⟨_, rfl, fun vs bs R Rj wG hb hj hjr ha => ⟨.inl rfl, ?_⟩⟩ (K3))))) (C1 ⟨rfl, rfl, _, _, _, _, rfl, fun vs bs Rj hj ha => ?_⟩ (C1 ⟨rfl, rfl, _, _, _, _, rfl, fun vs bs Rj hj ha => ?_⟩ (K3))) ?_
 ·
  dsimp only [Gc.inp]
  refine E0 (Mc := M27) (R := []) (aS rfl (aS rfl (aS rfl (a0)))) kR (by simp) (FnX.amb (A := Rj) (fun x hx => by have := hjr x hx; simp [this]) (B1U pb (I1 bk s).2 ka ak va vg vq vo vm rs ro rm y w1 w2 w3 w4 w5 M27 Rj (hra _ (fun x hx => hj x (SubC.sub x hx)) (fun x hx => hj x (SubC.sub x hx))) hP27 hb1.ar (by omega) (by omega) (gw1.mono (fun x hx => hj x (SubC.sub x hx))) (gw2.mono (fun x hx => hj x (SubC.sub x hx))) (gw3.mono (fun x hx => hj x (SubC.sub x hx))) (gw4.mono (fun x hx => hj x (SubC.sub x hx))) (gw5.mono (fun x hx => hj x (SubC.sub x hx))) gws gwo (hG.sub (fun x hx => hj x (SubC.sub x hx))))) rfl ?_
  rintro v25 M25 J25 ⟨hh, -⟩
  obtain ⟨x, p, r, u, rfl, hP25, h25, hH25⟩ := hh hck
  exact ⟨_, rfl, by simpa using hP25, x, p, r, u, rfl, h25.mono fun x hx => by simp [hx], hH25.mono fun x hx => by simp [hx]⟩
 ·
  dsimp only [Gc.inp]
  have g11 := ha _ (List.mem_of_getElem? (i := 0) rfl) kR
  replace g11 : (fun v B R => Prm pb (stS ak y (I1 bk s).2) B ∧ StV R v (stK ak y (I1 bk s).2) (stH ak y (I1 bk s).2)) (vs 11) (bs 11) Rj := g11
  dsimp only at g11
  obtain ⟨-, k⟩ := g11
  exact OpQ.opL qm_ rfl ⟨_, rfl, rfl, k⟩
 ·
  dsimp only [Gc.inp]
  have g12 := ha _ (List.mem_of_getElem? (i := 1) rfl) kR
  replace g12 : (fun v B R => B = [] ∧ StV R v (stK ak y (I1 bk s).2) (stH ak y (I1 bk s).2)) (vs 12) (bs 12) Rj := g12
  dsimp only at g12
  obtain ⟨-, x, p, r, u, e, k1, k2⟩ := g12
  exact OpQ.opL (L8 (vs := #[x, .agg (heC p r u (stH ak y (I1 bk s).2)).toArray, .int .i64 0]) (by rw [← e]; rfl) rfl) rfl ⟨_, rfl, rfl, k1⟩
 ·
  dsimp only [Gc.inp]
  exact C5 (cs := [.slice none 0 0, .slice none 0 0, .slice none 0 0, .int .u32 0, .bool false, .int .u32 0]) kR rfl fun b => ⟨_, rfl, b, rfl, rfl⟩
 ·
  have g12 := ha _ (List.mem_of_getElem? (i := 1) rfl) kR
  replace g12 : (fun v B R => B = [] ∧ StV R v (stK ak y (I1 bk s).2) (stH ak y (I1 bk s).2)) (vs 12) (bs 12) Rj := g12
  dsimp only at g12
  obtain ⟨-, x, p, r, u, e, k1, k2⟩ := g12
  exact ⟨_, L8 (vs := #[x, .agg (heC p r u (stH ak y (I1 bk s).2)).toArray, .int .i64 0]) (by rw [← e]; rfl) rfl, rfl, p, r, u, rfl, k2⟩
 ·
  have g12 := ha _ (List.mem_of_getElem? (i := 1) rfl) kR
  replace g12 : (fun v B R => B = [] ∧ StV R v (stK ak y (I1 bk s).2) (stH ak y (I1 bk s).2)) (vs 12) (bs 12) Rj := g12
  dsimp only at g12
  obtain ⟨-, x, p, r, u, e, k1, k2⟩ := g12
  exact ⟨_, L8 (vs := #[x, .agg (heC p r u (stH ak y (I1 bk s).2)).toArray, .int .i64 0]) (by rw [← e]; rfl) rfl, rfl, rfl⟩
 intro vs bs Jn0 hφ hKK
 have kk11 := hKK _ (List.mem_of_getElem? (i := 0) rfl)
 dsimp only at kk11
 have kk12 := hKK _ (List.mem_of_getElem? (i := 1) rfl)
 dsimp only at kk12
 have kk13 := hKK _ (List.mem_of_getElem? (i := 2) rfl)
 dsimp only at kk13
 have kk16 := hKK _ (List.mem_of_getElem? (i := 3) rfl)
 dsimp only at kk16
 have kk14 := hKK _ (List.mem_of_getElem? (i := 4) rfl)
 dsimp only at kk14
 have kk15 := hKK _ (List.mem_of_getElem? (i := 5) rfl)
 dsimp only at kk15
 clear hKK
 have g11 := ofH hφ
 dsimp only at g11
 replace hφ := ofT hφ
 have g12 := ofH hφ
 dsimp only at g12
 replace hφ := ofT hφ
 have g13 := ofH hφ
 dsimp only at g13
 replace hφ := ofT hφ
 have g16 := ofH hφ
 dsimp only at g16
 replace hφ := ofT hφ
 have g14 := ofH hφ
 dsimp only at g14
 replace hφ := ofT hφ
 have g15 := ofH hφ
 dsimp only at g15
 clear hφ
 dsimp only [S7, A0y, List.foldr, List.map, List.cons_append, List.nil_append]
 generalize bs 11 = B43 at *
 generalize bs 12 = B31 at *
 generalize bs 13 = B44 at *
 generalize bs 16 = B4 at *
 generalize bs 14 = B45 at *
 generalize bs 15 = B46 at *
 generalize vs 11 = u43 at *
 generalize vs 12 = u31 at *
 generalize vs 13 = u44 at *
 generalize vs 16 = u4 at *
 generalize vs 14 = u45 at *
 generalize vs 15 = u46 at *
 obtain ⟨hP43, -⟩ := g11
 obtain ⟨rfl, -⟩ := g12
 obtain ⟨rfl, hK43⟩ := g13
 obtain ⟨rfl, p, r, u, rfl, hHe⟩ := g14
 obtain ⟨rfl, rfl⟩ := g15
 obtain ⟨b16, rfl, rfl⟩ := g16
 haveI := hK43.cel
 haveI := hHe.ia.cel
 haveI := hHe.ig.cel
 haveI := hHe.key.cel
 obtain ⟨H, hH⟩ : ∃ z, stH ak y (I1 bk s).2 = z := ⟨_, rfl⟩
 obtain ⟨K, hK⟩ : ∃ z, stK ak y (I1 bk s).2 = z := ⟨_, rfl⟩
 obtain ⟨s3, hs3⟩ : ∃ z, stS ak y (I1 bk s).2 = z := ⟨_, rfl⟩
 rw [hH] at hHe hag hans
 rw [hK] at hK43 hag hans hKl
 rw [hs3] at hP43 hag hbi hex hst hans
 rw [hH]
 dsimp only [heC]
 refine I0 hs rfl (H8 rfl) rfl ?_
 refine N5 rfl rfl rfl (A8 (vs := [p, r, u, .int .u32 ((H.signed : Nat) : Int), .bool H.has, .int .u32 ((H.once : Nat) : Int)]) rfl rfl rfl kR (by rfl) (C1 hHe.ia.one (C1 hHe.ig.one (C1 hHe.key.one al3))) UpC.upd ?_)
 refine I0 hs rfl (H8 rfl) rfl ?_
 refine N6 (E7 1 3 4 5) ?_
 refine D2 [0, 1, 2, 3, 4, 5, 6, 7, 8, 10, 11, 12, 13, 14, 15, 16] (zp 0 [0, 0, 0, 1, 0, 0, 0, 1, 1, 2, 0, 0, 0, 0, 0, 0, 0]) kR kR fun hs => ?_
 refine fm_ hs ?_
 refine D1 hs rfl (F5 rfl) rfl ?_
 refine D1 hs rfl (qf_ 0 0) rfl ?_
 refine F6 hs rfl ql_ rfl ?_
 refine fm_ hs ?_
 refine D1 hs rfl (F5 rfl) rfl ?_
 refine D1 hs rfl (qf_ 2 2) rfl ?_
 refine F6 hs rfl ql_ rfl ?_
 refine F6 hs rfl (qw_ 6) rfl ?_
 refine G2 rfl rfl rfl (E0 (Mc := B43) (R := _) (aS rfl (aS rfl (aS rfl (a0)))) kR PickC.perm (A2Y pb s3 kb bk ua ug uq uo um ss so sm H p r u B43 _ (hrb _ SubC.sub SubC.sub) hrise hP43 (by omega) (hHe.mono SubC.sub) hG.up) rfl ?_)
 rintro v57 M57 J57 ⟨o1, o2, rfl, hP57, ho1, ho2⟩
 haveI := ho1.cel
 haveI := ho2.cel
 rw [hans] at hP57 ho1 ho2 ⊢
 change By _ o1 K at ho1
 change By _ o2 x.sec at ho2
 refine fm_ hs ?_
 refine D1 hs rfl (A2O rfl) rfl ?_
 refine D1 hs rfl (A2z rfl) rfl ?_
 refine D1 hs rfl (B7R rfl) rfl ?_
 refine fa_ hs ?_
 refine fa_ hs ?_
 refine fa_ hs ?_
 refine E3 (F7 3 5 6 7 8) (A3 (mv_ ?_))
 refine A4 (F9 true rfl rfl (eqT rfl)) rfl ?_
 refine mv_ ?_
 refine F4 rfl rfl (OpQ.opL qm_ rfl ?_)
 refine F4 rfl rfl (OpQ.opL (F9 true rfl rfl (eqT rfl)) rfl ?_)
 refine A4 (H4 rfl rfl) rfl ?_
 refine mv_ ?_
 refine F4 rfl rfl (OpQ.opL qm_ rfl ?_)
 refine F4 rfl rfl (OpQ.opL (I3 (sz := 1) rfl kR hK43.rd) rfl ?_)
 rw [hKl]
 refine F4 rfl rfl (OpQ.opL (F9 true rfl rfl (eqT rfl)) rfl ?_)
 refine A4 (H4 rfl rfl) rfl ?_
 refine mv_ ?_
 refine F4 rfl rfl (OpQ.opL qm_ rfl ?_)
 refine F4 rfl rfl (OpQ.opL (Q6 rfl kR (hK43.rd.mono SubC.sub)) rfl ?_)
 refine F4 rfl rfl (OpQ.opL qm_ rfl ?_)
 refine F4 rfl rfl (OpQ.opL (Q6 rfl kR (ho1.rd.mono SubC.sub)) rfl ?_)
 refine F4 rfl rfl (OpQ.opL ((show (decide (K = K)) = true by simp) ▸ B8h rfl rfl rfl rfl hK43.lt ho1.lt) rfl ?_)
 refine A4 (H4 rfl rfl) rfl ?_
 refine mv_ ?_
 refine F4 rfl rfl (OpQ.opL qm_ rfl ?_)
 refine F4 rfl rfl (OpQ.opL (I3 (sz := 1) rfl kR ho2.rd) rfl ?_)
 rw [hxl]
 refine F4 rfl rfl (OpQ.opL (F9 true rfl rfl (eqT rfl)) rfl ?_)
 refine A4 (H4 rfl rfl) rfl ?_
 refine as_ (A0 (D8 0) (C2 ?_))
 exact ⟨_, [], [], I4 rfl rfl, List.nil_sublist _, by simp, rfl, rfl, rfl⟩

theorem Kys.r2 {R : Mem} {kb : Nat} {k : Ks} {M : Mem} (h : Kys R kb k M) : ∃ va vg vs vo vm rs ro rm, RwL prR R rs k.signed ∧ ∀ R', (∀ x, x ∈ R → x ∈ R') → (∀ x, x ∈ M → x ∈ R') → KyR R' kb k va vg vs vo vm rs ro rm := by
  obtain ⟨va, vg, vs, vo, vm, rs, ro, rm, Bs, Bo, Bm, rfl, h2, h3, h4, h5, h6, h7, h8, h9, h10, h11, h12, h13⟩ := h.ex
  refine ⟨va, vg, vs, vo, vm, rs, ro, rm, h5, fun R' hR hM => ⟨hM _ List.mem_cons_self, h2.mono hR, h3.mono hR, h4.rd fun x hx => hM x (by simp [hx]), h5.mono prT hR, h6.rd fun x hx => hM x (by simp [hx]), h7.mono prT hR, h8.rd fun x hx => hM x (by simp [hx]), h9.mono nmT hR, by omega, by omega, by omega, by omega⟩⟩
theorem B1Y (pb kb : Nat) (s : Ps) (k : Ks) (x : Pr) (sl : List Pr) (MK MP A : Mem) (hKs : Kys A kb k MK) (hsg : k.signed = x :: sl) (hP : Prm pb s MP) (hn : s.ts.length + 100 ≤ 1048576) (hol : k.once.length ≤ 10) (hG : Glb A) : FnX Tryz.prog 16 [.pointer (some ⟨kb, 0, none⟩), .pointer (some ⟨pb, 0, none⟩)] (MK ++ MP) A fun q M J => ∃ MP2, M = MK ++ MP2 ∧ Prm pb (I1 k s).2 MP2 ∧ ∃ rows, Rd J 10 q (I1 k s).1.length rows.flatten ∧ RwL bnR (J ++ A) rows (I1 k s).1 := by
 obtain ⟨va, vg, vq, vo, vm, rs, ro, rm, hsr, hkr⟩ := hKs.r2
 have hK := hkr (MK ++ A) (fun _ h => List.mem_append_right _ h) (fun _ h => List.mem_append_left _ h)
 have hkb := hK.blk_
 haveI := hK.agree.cel
 haveI := hK.sign.cel
 haveI := hK.signed.cel
 haveI := hK.once.cel
 haveI := hK.met.cel
 have il := A1A k s
 obtain ⟨r0, hr0, vs_, vg_, rfl, hs_, hg_, hxn⟩ := hsr.get 0 x (by rw [hsg]; rfl)
 haveI := hs_.cel
 haveI := hg_.cel
 refine FnX.enterZ (N := 62) Tryz.func16 rfl rfl rfl fun w_ => ?_
 refine C4 (D5 0 1) (A3 (as_ (A0 (D5 0 1) (A5 (A3 (mv_ ?_))))))
 refine A4 (F0 (e := 114) rfl rfl kR) rfl ?_
 refine A0 (E1 0 1 12) ?_
 refine D4 rfl ?_
 refine A9 (nx (D5 0 1) (A3 (mv_ ?_)))
 refine A4 (F5 rfl) rfl ?_
 refine A4 (qf_ 4 4) rfl ?_
 refine A4 (I2 rfl kR (SubC.sub _ hkb) (by rfl)) rfl ?_
 refine A4 (I7 (sz := 3) (a := 0) rfl rfl kR rfl hK.signed (by rw [hsg]; simp)) rfl ?_
 refine A4 (A0F rfl kR (hK.signed.mono SubC.sub) (hK.signedR.lens prT) (by decide) hr0) rfl ?_
 refine A6 rfl (C5 (cs := [.int .u32 0, .slice none 0 0, .slice none 0 0]) kR rfl fun b5 => ?_)
 refine A6 rfl (A8 (vs := [.int .u32 ((x.n : Nat) : Int), vs_, vg_]) rfl rfl rfl kR (by rfl) (C1 rfl (C1 hs_.one (C1 hg_.one K3))) UpC.upd ?_)
 refine A0 (E1 0 1 5) ?_
 refine H5 (MP) (_) true (.range 17) [(0, 0), (1, 0), (2, 0), (3, 1), (4, 0), (5, 0), (7, 0), (8, 1), (9, 0), (10, 0), (11, 1), (13, 0), (14, 1), (6, 3), (12, 3), (15, 3), (16, 4), (17, 2)] kR kR PickC.perm fun hs K n0 hKm hKs hKn => ?_
 refine km_ hs ?_
 refine I0 hs rfl (F5 rfl) rfl ?_
 refine I0 hs rfl (qf_ 0 0) rfl ?_
 refine P0 hs rfl hKs (G5 (n := 2) rfl kR (SubC.sub _ hkb) TakeC.take) ?_
 refine km_ hs ?_
 refine km_ hs ?_
 refine I0 hs rfl (qf_ 0 0) rfl ?_
 refine P0 hs rfl hKs ql_ ?_
 refine km_ hs ?_
 refine I0 hs rfl (qf_ 1 1) rfl ?_
 refine P0 hs rfl hKs ql_ ?_
 refine I0 hs rfl (qf_ 2 2) rfl ?_
 refine P0 hs rfl hKs ql_ ?_
 refine A0S [⟨6, 25, none, MP, fun v B R => Prm pb (idS k s) B ∧ ∃ p q, v = .agg #[p, q] ∧ By R p (idA k s) ∧ By R q (idG k s)⟩, ⟨12, 31, some 6, [], fun v B R => Prm pb (H6 (idS k s) x.sec) B ∧ By R v (K9 (idS k s) x.sec)⟩, ⟨15, 34, none, [], fun v B R => B = [] ∧ ∃ p q u, v = .agg #[.int .i64 k.user, .int .i64 k.dev, p, q, .int .u32 ((x.n : Nat) : Int), u, vg_, .bool false, .int .u32 ((0 : Nat) : Int), .slice none 0 0] ∧ By R p (idA k s) ∧ By R q (idG k s) ∧ By R u (K9 (idS k s) x.sec)⟩, ⟨16, 6, none, [], fun v B _ => ∃ b, v = .pointer (some ⟨b, 0, none⟩) ∧ B = [(b, blk [.int .i64 0, .int .i64 0, .slice none 0 0, .slice none 0 0, .int .u32 0, .slice none 0 0, .slice none 0 0, .bool false, .int .u32 0, .slice none 0 0] 32)]⟩] (_) (fun bs => [bs 12, bs 15, bs 16]) (hKn rfl) (List.Perm.refl _) (show ∀ m ∈ ([MP, [], []] : List Mem), ∀ x ∈ m, K x.1 from C1 (hKm) (C1 (fun _ h => by cases h) (C1 (fun _ h => by cases h) (K3)))) kR (fun _ => by first | rfl | kernel_rfl)
  (C1 (fun _ _ _ _ h ⟨p1, p, q, e, p2, p3⟩ => ⟨p1, p, q, e, p2.mono h, p3.mono h⟩) (C1 (fun _ _ _ _ h ⟨p1, p2⟩ => ⟨p1, p2.mono h⟩) (C1 (fun _ _ _ _ h ⟨p1, p, q, u, e, p2, p3, p4⟩ => ⟨p1, p, q, u, e, p2.mono h, p3.mono h, p4.mono h⟩) (C1 (fun _ _ _ _ h hp => hp) (K3))))) (show List.Nodup [25, 31, 34, 6] by decide) (show List.Nodup [6, 12, 15, 16] by decide) (C1 (C7 rfl) (C1 (C7 rfl) (C1 (C7 rfl) (C1 (C7 rfl) (K3)))))
  (C1 ⟨_, rfl, fun vs bs R Rj wG hb hj hjr ha => ⟨.inl rfl, ?_⟩⟩ (C1 ⟨_, rfl, fun vs bs R Rj wG hb hj hjr ha => ⟨.inl rfl, ?_⟩⟩ (C1 ⟨_, rfl, fun vs bs R Rj wG hb hj hjr ha => ⟨.inl rfl, ?_⟩⟩ (C1 ⟨_, rfl, fun vs bs R Rj wG hb hj hjr ha => ⟨.inl rfl, ?_⟩⟩ (K3))))) ?_
 ·
  dsimp only [Gc.inp]
  refine E0 (Mc := MP) (R := []) (aS rfl (aS rfl (a0))) kR (by simp) (A7E pb s kb k va vg vq vo vm rs ro rm MP _ (hK.mono (fun x hx => by have := hb x (SubC.sub x hx); simp [this])) hP (by omega) (hG.sub (fun x hx => by have := hb x (SubC.sub x hx); simp [this]))) rfl ?_
  rintro v25 M25 J25 ⟨hP25, p, q, rfl, hp, hq⟩
  exact ⟨_, rfl, by simpa using hP25, p, q, rfl, hp.mono fun x hx => by simp [hx], hq.mono fun x hx => by simp [hx]⟩
 ·
  dsimp only [Gc.inp]
  have g6 := ha _ (List.mem_of_getElem? (i := 0) rfl) kR
  replace g6 : (fun v B R => Prm pb (idS k s) B ∧ ∃ p q, v = .agg #[p, q] ∧ By R p (idA k s) ∧ By R q (idG k s)) (vs 6) (bs 6) Rj := g6
  dsimp only at g6
  obtain ⟨hP25, -⟩ := g6
  refine E0 (Mc := bs 6) (R := []) (aS rfl (aS rfl (a0))) kR (by simp) (W5 pb (idS k s) vs_ x.sec (bs 6) _ hP25 (by omega) (hs_.mono (fun x hx => by have := hb x (SubC.sub x hx); simp [this])) (hG.sub (fun x hx => by have := hb x (SubC.sub x hx); simp [this]))) rfl ?_
  rintro v31 M31 J31 ⟨hP31, h31⟩
  exact ⟨_, rfl, by simpa using hP31, h31.mono fun x hx => by simp [hx]⟩
 ·
  dsimp only [Gc.inp]
  have g6 := ha _ (List.mem_of_getElem? (i := 0) rfl) kR
  replace g6 : (fun v B R => Prm pb (idS k s) B ∧ ∃ p q, v = .agg #[p, q] ∧ By R p (idA k s) ∧ By R q (idG k s)) (vs 6) (bs 6) Rj := g6
  dsimp only at g6
  have g12 := ha _ (List.mem_of_getElem? (i := 1) rfl) kR
  replace g12 : (fun v B R => Prm pb (H6 (idS k s) x.sec) B ∧ By R v (K9 (idS k s) x.sec)) (vs 12) (bs 12) Rj := g12
  dsimp only at g12
  obtain ⟨-, h31⟩ := g12
  obtain ⟨-, p, q, e25, hp, hq⟩ := g6
  haveI := h31.cel
  haveI := hp.cel
  haveI := hq.cel
  dsimp only [S7, List.map, List.cons_append, List.nil_append]
  rw [e25]
  exact OpQ.opL (F3 (place := fun x => #[(0, 2), (2, 2), (4, 1), (5, 1), (6, 1), (7, 1), (8, 1), (9, 1)][x]?) (z := [A2E, A2E, .slice none 0 0, .slice none 0 0, G4, .slice none 0 0, .slice none 0 0, .bool false, G4, .slice none 0 0]) (fun _ => by kernel_rfl) (eS rfl (eS rfl (eS rfl (eS rfl (eS rfl e0))))) (bdS 0 2 rfl (by rfl) (bdS 2 2 rfl (by rfl) (bdS 4 1 rfl (by rfl) (bdS 5 1 rfl (by rfl) (bdS 6 1 rfl (by rfl) bd0)))))) rfl ⟨_, rfl, rfl, p, q, _, rfl, hp, hq, h31⟩
 ·
  dsimp only [Gc.inp]
  exact C5 (cs := [A2E, A2E, .slice none 0 0, .slice none 0 0, G4, .slice none 0 0, .slice none 0 0, .bool false, G4, .slice none 0 0]) kR rfl fun b => ⟨_, rfl, b, rfl, rfl⟩
 intro vs bs Jn0 hφ hKK
 have kk6 := hKK _ (List.mem_of_getElem? (i := 0) rfl)
 dsimp only at kk6
 have kk12 := hKK _ (List.mem_of_getElem? (i := 1) rfl)
 dsimp only at kk12
 have kk15 := hKK _ (List.mem_of_getElem? (i := 2) rfl)
 dsimp only at kk15
 have kk16 := hKK _ (List.mem_of_getElem? (i := 3) rfl)
 dsimp only at kk16
 clear hKK
 have g6 := ofH hφ
 dsimp only at g6
 replace hφ := ofT hφ
 have g12 := ofH hφ
 dsimp only at g12
 replace hφ := ofT hφ
 have g15 := ofH hφ
 dsimp only at g15
 replace hφ := ofT hφ
 have g16 := ofH hφ
 dsimp only at g16
 clear hφ
 dsimp only [S7, A0y, List.foldr, List.map, List.cons_append, List.nil_append]
 generalize bs 6 = B25 at *
 generalize bs 12 = B31 at *
 generalize bs 15 = B34 at *
 generalize bs 16 = B6 at *
 generalize vs 6 = u25 at *
 generalize vs 12 = u31 at *
 generalize vs 15 = u34 at *
 generalize vs 16 = u6 at *
 obtain ⟨hP31, h31⟩ := g12
 clear g6
 obtain ⟨b6, rfl, rfl⟩ := g16
 obtain ⟨rfl, p, q, u, rfl, hp, hq, hu⟩ := g15
 haveI := hp.cel
 haveI := hq.cel
 haveI := hu.cel
 obtain ⟨bb, hbb⟩ : ∃ bb, A5u k x s = bb := ⟨_, rfl⟩
 obtain ⟨s2, hs2⟩ : ∃ s2, H6 (idS k s) x.sec = s2 := ⟨_, rfl⟩
 rw [hs2] at hP31
 have hs2l : s2.ts.length ≤ s.ts.length + 6 := by have := N2 (idS k s) x.sec; rw [hs2] at this; omega
 have hbun : I1 k s = A0p bb k.once s2 k.once.length := by unfold I1; rw [hsg, ← hbb, ← hs2]
 rw [hbun]
 have hbr : ∀ R, (∀ y, y ∈ Jn0 ++ [] ++ A → y ∈ R) → bnR R bb [.int .i64 k.user, .int .i64 k.dev, p, q, .int .u32 ((x.n : Nat) : Int), u, vg_, .bool false, .int .u32 ((0 : Nat) : Int), .slice none 0 0] := fun R hR => ⟨p, q, u, vg_, _, by rw [← hbb]; rfl, by rw [← hbb]; exact hp.mono hR, by rw [← hbb]; exact hq.mono hR, by rw [← hbb]; exact hu.mono hR, by rw [← hbb]; exact hg_.mono fun y hy => hR y (List.mem_append_right _ hy), by rw [← hbb]; exact By.nil, by rw [← hbb]; exact hxn, by rw [← hbb]; show 0 < 4294967296; decide⟩
 refine N5 rfl rfl rfl (A8 (vs := [.int .i64 k.user, .int .i64 k.dev, p, q, .int .u32 ((x.n : Nat) : Int), u, vg_, .bool false, .int .u32 ((0 : Nat) : Int), .slice none 0 0]) rfl rfl rfl kR (by rfl) (C1 rfl (C1 rfl (C1 hp.one (C1 hq.one (C1 rfl (C1 hu.one (C1 hg_.one al3))))))) UpC.upd ?_)
 refine N6 (E1 0 1 6) ?_
 refine X9 (B := [(b6, blk [.int .i64 k.user, .int .i64 k.dev, p, q, .int .u32 ((x.n : Nat) : Int), u, vg_, .bool false, .int .u32 ((0 : Nat) : Int), .slice none 0 0] 32)]) PickC.perm ?_
 refine A3 ?_
 refine A4 (qw_ 10) rfl ?_
 refine A6 rfl (C6 (e := 32) (sz := 10) (z := [A2E, A2E, .slice none 0 0, .slice none 0 0, G4, .slice none 0 0, .slice none 0 0, .bool false, G4, .slice none 0 0]) kR (eS rfl e0) (bdS 0 10 rfl (by rfl) bd0) rfl fun b36 => ?_)
 refine as_ (A0 (E7 0 1 6 7) (A5 (A3 (mv_ ?_))))
 refine A4 (F5 rfl) rfl ?_
 refine A4 (qf_ 5 5) rfl ?_
 refine A4 (I2 rfl kR (SubC.sub _ hkb) (by rfl)) rfl ?_
 refine A4 (I3 (sz := 3) rfl kR hK.once) rfl ?_
 refine mv_ (A0 (I5 1 6 7 40 41 42) (C0 ?_))
 refine F2 (α := Nat × (Value × List (List Value) × Mem) × Mem × Mem) (fun y => [(1, .pointer (some ⟨pb, 0, none⟩)), (6, .pointer (some ⟨b6, 0, none⟩)), (7, y.2.1.1), (40, vo), (41, .int .i64 ((k.once.length : Nat) : Int)), (42, .int .i64 ((y.1 : Nat) : Int))]) (fun y => y.2.1.2.2 ++ (y.2.2.1 ++ MK)) (fun y => y.2.2.2) (fun y => y.1 ≤ k.once.length ∧ Sl 10 y.2.1.1 (y.1 + 1) y.2.1.2.1.flatten y.2.1.2.2 ∧ RwL bnR (y.2.2.2 ++ A) y.2.1.2.1 (A0p bb k.once s2 y.1).1 ∧ Prm pb (A0p bb k.once s2 y.1).2 y.2.2.1 ∧ (b6, blk [.int .i64 k.user, .int .i64 k.dev, p, q, .int .u32 ((x.n : Nat) : Int), u, vg_, .bool false, .int .u32 ((0 : Nat) : Int), .slice none 0 0] 32) ∈ y.2.2.2 ∧ ∀ z, z ∈ Jn0 ++ [] ++ A → z ∈ y.2.2.2 ++ A) (fun y => k.once.length - y.1) (0, (.slice (some ⟨b36, 0, none⟩) 1 1, [[.int .i64 k.user, .int .i64 k.dev, p, q, .int .u32 ((x.n : Nat) : Int), u, vg_, .bool false, .int .u32 ((0 : Nat) : Int), .slice none 0 0]], [(b36, _)]), B31, _) ⟨Nat.zero_le _, Sl.fresh (n := 1) (cs := [.int .i64 k.user, .int .i64 k.dev, p, q, .int .u32 ((x.n : Nat) : Int), u, vg_, .bool false, .int .u32 ((0 : Nat) : Int), .slice none 0 0]) (e := 32) rfl (by decide), RwL.cons (hbr _ SubC.sub) RwL.nil, hP31, by simp, SubC.sub⟩ (I5 1 6 7 40 41 42) (Fit.pick (B := [_]) PickC.perm (Fit.pick PickC.perm (Fit.last PickC.perm))) (fun _ h => h) ?_
 rintro ⟨i, ⟨vi, ri, Bi⟩, MPi, Ji⟩ ⟨hi, hsi, hri, hPi, hJb, hJn⟩
 dsimp only at hi hsi hri hPi hJb hJn ⊢
 haveI := hsi.cel
 have hbl := A0A (b := bb) (s := s2) hi
 refine A3 ?_
 refine A4 (F1 rfl rfl rfl) rfl ?_
 refine A0 (X3 1 6 7 40 41 42 43) (A5 ?_)
 refine C8 rfl (fun hc => ?_) (fun hc => ?_)
 ·
  have hlt : i < k.once.length := by simp at hc; omega
  obtain ⟨o, ho⟩ : ∃ o, k.once[i]? = some o := ⟨_, List.getElem?_eq_getElem hlt⟩
  obtain ⟨r1, hr1, vo1, vo2, rfl, ho1, ho2, hon⟩ := hK.onceR.get i o ho
  haveI := ho1.cel
  haveI := ho2.cel
  have hbs := A0o (b := bb) (s := s2) ho
  refine A9 (nx (I5 1 6 7 40 41 42) (A5 (C0 (A3 ?_))))
  refine A4 (I7 (sz := 3) rfl rfl kR rfl hK.once hlt) rfl ?_
  refine A4 (A0F rfl kR (hK.once.mono SubC.sub) (hK.onceR.lens prT) (by decide) hr1) rfl ?_
  refine A6 rfl (C5 (cs := [.int .u32 0, .slice none 0 0, .slice none 0 0]) kR rfl fun b9 => ?_)
  refine A6 rfl (A8 (vs := [.int .u32 ((o.n : Nat) : Int), vo1, vo2]) rfl rfl rfl kR (by rfl) (C1 rfl (C1 ho1.one (C1 ho2.one K3))) UpC.upd ?_)
  refine A0 (X3 1 6 7 9 40 41 42) (A3 ?_)
  refine A4 (H7 (n := 10) rfl kR (List.mem_append_right _ (List.mem_append_left _ hJb)) (by rfl)) rfl ?_
  refine A6 rfl (C5 (cs := [A2E, A2E, .slice none 0 0, .slice none 0 0, G4, .slice none 0 0, .slice none 0 0, .bool false, G4, .slice none 0 0]) kR rfl fun b10 => ?_)
  refine A6 rfl (A8 (vs := [.int .i64 k.user, .int .i64 k.dev, p, q, .int .u32 ((x.n : Nat) : Int), u, vg_, .bool false, .int .u32 ((0 : Nat) : Int), .slice none 0 0]) rfl rfl rfl kR (by rfl) (C1 rfl (C1 rfl (C1 hp.one (C1 hq.one (C1 rfl (C1 hu.one (C1 hg_.one al3))))))) UpC.upd ?_)
  refine A0 (A14 1 6 7 9 10 40 41 42) ?_
  refine H5 (MPi ++ [(b10, blk [.int .i64 k.user, .int .i64 k.dev, p, q, .int .u32 ((x.n : Nat) : Int), u, vg_, .bool false, .int .u32 ((0 : Nat) : Int), .slice none 0 0] 32)]) (_) true [0, 1, 2, 3, 4, 5, 6, 7, 8, 10] [(0, 0), (1, 1), (2, 0), (3, 0), (4, 1), (6, 0), (5, 2), (7, 2), (8, 0), (9, 2), (10, 0), (11, 2)] kR kR PickC.perm fun hs K n0 hKm hKs hKn => ?_
  refine I0 hs rfl (qf_ 0 0) rfl ?_
  refine P0 hs rfl hKs ql_ ?_
  refine km_ hs ?_
  refine I0 hs rfl (qf_ 1 1) rfl ?_
  refine P0 hs rfl hKs ql_ ?_
  refine I0 hs rfl (qf_ 7 7) rfl ?_
  refine K0 MPi _ rfl rfl PickC.perm (fun y hy => hKm y (by simp [hy])) fun w0 => (E0 (Mc := MPi) (R := _) (aS rfl (aS rfl (a0))) kR PickC.perm (W5 pb _ vo1 o.sec MPi _ hPi (by omega) (ho1.mono SubC.sub) hG.up) rfl ?_)
  rintro v52 M52 J52 ⟨hP52, h52⟩ hKx52
  haveI := h52.cel
  refine K0 [(b10, blk [.int .i64 k.user, .int .i64 k.dev, p, q, .int .u32 ((x.n : Nat) : Int), u, vg_, .bool false, .int .u32 ((0 : Nat) : Int), .slice none 0 0] 32)] _ rfl rfl PickC.perm (fun y hy => hKm y (by simp at hy; simp [hy])) fun w0 => (D9 rfl rfl rfl kR SetC.set UpC.upd ?_)
  intro hkS
  dsimp only [List.cons_append, List.nil_append, List.append_eq]
  refine I0 hs rfl (qf_ 8 8) rfl ?_
  refine N5 rfl rfl rfl (D9 rfl rfl rfl kR SetC.set UpC.upd ?_)
  refine I0 hs rfl (qf_ 9 9) rfl ?_
  refine N5 rfl rfl rfl (D9 rfl rfl h52.one kR SetC.set UpC.upd ?_)
  refine N6 (X3 1 6 7 10 40 41 42) (C3 (mv_ ?_))
  refine A4 (qw_ 10) rfl ?_
  refine A6 rfl (C6 (e := 32) (sz := 10) (z := [A2E, A2E, .slice none 0 0, .slice none 0 0, G4, .slice none 0 0, .slice none 0 0, .bool false, G4, .slice none 0 0]) kR (eS rfl e0) (bdS 0 10 rfl (by rfl) bd0) rfl fun b58 => ?_)
  refine A6 rfl (I8 (e := 32) (sz := 10) (by_ := 152) rfl rfl kR rfl hsi (Rd.whole (n := 1) At.mem (by rfl)) (C1 rfl (C1 rfl (C1 hp.one (C1 hq.one (C1 rfl (C1 hu.one (C1 hg_.one (C1 rfl (C1 rfl (C1 h52.one K3)))))))))) PickC.perm (by unfold maxLen; omega) (by omega) rfl fun v59 B59 hs59 => ?_)
  refine as_ (D0 (nb (nx (I5 1 6 7 40 41 42) (C3 ?_))))
  refine A4 (E4 ((i + 1 : Nat) : Int) rfl rfl (G3 (by omega) (by omega) (by omega))) rfl ?_
  refine mv_ (D0 ?_)
  exact rn (i + 1, (v59, ri ++ [[.int .i64 k.user, .int .i64 k.dev, p, q, .int .u32 ((x.n : Nat) : Int), u, vg_, .bool true, .int .u32 ((o.n : Nat) : Int), v52]], B59), M52, _) ⟨by dsimp only; omega, by simpa using hs59, by dsimp only; rw [hbs]; exact (hri.mono bnT SubC.sub).snoc ⟨p, q, u, vg_, v52, by rw [← hbb]; rfl, by rw [← hbb]; exact hp.mono fun z hz => SubC.sub z (hJn z hz), by rw [← hbb]; exact hq.mono fun z hz => SubC.sub z (hJn z hz), by rw [← hbb]; exact hu.mono fun z hz => SubC.sub z (hJn z hz), by rw [← hbb]; exact hg_.mono SubC.sub, h52.mono SubC.sub, by rw [← hbb]; exact hxn, hon⟩, by dsimp only; rw [hbs]; exact hP52, List.mem_append_right _ hJb, fun z hz => SubC.sub z (hJn z hz)⟩ (by dsimp only; omega) (I5 1 6 7 40 41 42) (Fit.pick PickC.perm (Fit.pick PickC.perm (Fit.last PickC.perm))) (fun _ h => h)
 ·
  have hge : i = k.once.length := by simp at hc; omega
  subst hge
  refine E6 (te (re (be rfl (nx (D8 7) (A3 (mv_ (as_ (A0 (D8 4) ?_))))))))
  refine C2 ?_
  exact ⟨_, MK ++ MPi, Bi, I4 rfl rfl, Fit.pick PickC.perm (Fit.pick PickC.perm (Fit.last PickC.perm)), MPi, rfl, hPi, ri, by rw [hbl.1]; exact hsi.rd fun x hx => by simp [hx], hri.mono bnT SubC.sub⟩

noncomputable def stF {α : Type} (u a b c d : Nat) (k : Nat → Nat → Nat → Nat → α) : α :=
  L2 (Nat.mod (Nat.add a b) 57896044618658097711785492504343953926634992332820282019728792003956564819949) fun p => L2 (Nat.mod (Nat.sub (Nat.add a 57896044618658097711785492504343953926634992332820282019728792003956564819949) b) 57896044618658097711785492504343953926634992332820282019728792003956564819949) fun q => L2 (Nat.mod (Nat.mul p p) 57896044618658097711785492504343953926634992332820282019728792003956564819949) fun ss => L2 (Nat.mod (Nat.mul q q) 57896044618658097711785492504343953926634992332820282019728792003956564819949) fun tt =>
  L2 (Nat.mod (Nat.sub (Nat.add ss 57896044618658097711785492504343953926634992332820282019728792003956564819949) tt) 57896044618658097711785492504343953926634992332820282019728792003956564819949) fun e => L2 (Nat.mod (Nat.mul (Nat.mod (Nat.sub (Nat.add c 57896044618658097711785492504343953926634992332820282019728792003956564819949) d) 57896044618658097711785492504343953926634992332820282019728792003956564819949) p) 57896044618658097711785492504343953926634992332820282019728792003956564819949) fun da => L2 (Nat.mod (Nat.mul (Nat.mod (Nat.add c d) 57896044618658097711785492504343953926634992332820282019728792003956564819949) q) 57896044618658097711785492504343953926634992332820282019728792003956564819949) fun cb =>
  L2 (Nat.mod (Nat.mul ss tt) 57896044618658097711785492504343953926634992332820282019728792003956564819949) fun x => L2 (Nat.mod (Nat.mul e (Nat.mod (Nat.add ss (Nat.mod (Nat.mul 121665 e) 57896044618658097711785492504343953926634992332820282019728792003956564819949)) 57896044618658097711785492504343953926634992332820282019728792003956564819949)) 57896044618658097711785492504343953926634992332820282019728792003956564819949) fun y => L2 (Nat.mod (Nat.add da cb) 57896044618658097711785492504343953926634992332820282019728792003956564819949) fun s => L2 (Nat.mod (Nat.sub (Nat.add da 57896044618658097711785492504343953926634992332820282019728792003956564819949) cb) 57896044618658097711785492504343953926634992332820282019728792003956564819949) fun t =>
  L2 (Nat.mod (Nat.mul s s) 57896044618658097711785492504343953926634992332820282019728792003956564819949) fun z => L2 (Nat.mod (Nat.mul u (Nat.mod (Nat.mul t t) 57896044618658097711785492504343953926634992332820282019728792003956564819949)) 57896044618658097711785492504343953926634992332820282019728792003956564819949) fun w => k x y z w
theorem C0P : p25 = 57896044618658097711785492504343953926634992332820282019728792003956564819949 := by decide +kernel
theorem B9w {α : Type} (u : Nat) (s : Lad) (k : Nat → Nat → Nat → Nat → α) : stF u s.a s.b s.c s.d k = k (A31 u s).a (A31 u s).b (A31 u s).c (A31 u s).d := by
  unfold stF A31 fM fA fS
  simp only [U8, C0P]
  rfl
noncomputable def swF {α : Type} (bt a b c d : Nat) (k : Nat → Nat → Nat → Nat → α) : α := Nat.rec (motive := fun _ => α) (k a b c d) (fun _ _ => k c d a b) bt
theorem B5A {α : Type} (x : Nat) (s : Lad) (k : Nat → Nat → Nat → Nat → α) : swF (x % 2) s.a s.b s.c s.d k = (fun t : Lad => k t.a t.b t.c t.d) (swL (decide (x % 2 = 1)) s) := by
  rcases Nat.mod_two_eq_zero_or_one x with h | h <;> rw [h] <;> rfl
noncomputable def B9M {α : Type} (u n : Nat) (K : Nat → Nat → Nat → Nat → α) (m : Nat) : Nat → Nat → Nat → Nat → α :=
  Nat.rec (motive := fun _ => Nat → Nat → Nat → Nat → α) K (fun i ih a b c d => L2 (Nat.mod (Nat.shiftRight n i) 2) fun bt => swF bt a b c d fun a b c d => stF u a b c d fun a b c d => swF bt a b c d ih) m
theorem B1Z {α : Type} (u n : Nat) (K : Nat → Nat → Nat → Nat → α) : ∀ m, m ≤ 255 → B9M u n K m (A0b u n (255 - m)).a (A0b u n (255 - m)).b (A0b u n (255 - m)).c (A0b u n (255 - m)).d = K (A0b u n 255).a (A0b u n 255).b (A0b u n 255).c (A0b u n 255).d
  | 0, _ => rfl
  | m + 1, h => by
    have ih := B1Z u n K m (by omega)
    have hs := A6w (u := u) (n := n) (i := m) (by omega)
    generalize A0b u n (255 - (m + 1)) = s at *
    have e : Nat.mod (Nat.shiftRight n m) 2 = n / 2 ^ m % 2 := by
      show n >>> m % 2 = _
      rw [Nat.shiftRight_eq_div_pow]
    show L2 (Nat.mod (Nat.shiftRight n m) 2) (fun bt => swF bt s.a s.b s.c s.d fun a b c d => stF u a b c d fun a b c d => swF bt a b c d (B9M u n K m)) = _
    rw [U8, e, B5A]
    dsimp only
    rw [B9w, B5A]
    dsimp only
    rw [← hs]
    exact ih
theorem A6I {x : Nat} (h : x < p25) : W3 8 32 x 255 = T0 x 32 := by
  unfold W3 T0
  apply List.map_congr_left
  intro j _
  rw [prt, Nat.mod_eq_of_lt (Nat.lt_trans h (by decide)), Nat.pow_mul]
noncomputable def dhF (k : List Nat) (u v : Nat) : Bool := L2 (bv (G8 k)) fun n => B9M u n (fun a b _ _ => Nat.beq (Nat.mod (Nat.mul v b) 57896044618658097711785492504343953926634992332820282019728792003956564819949) a && (Nat.blt v 57896044618658097711785492504343953926634992332820282019728792003956564819949 && !Nat.beq (Nat.mod b 57896044618658097711785492504343953926634992332820282019728792003956564819949) 0)) 255 1 0 u 1
theorem B5B {k : List Nat} {u v : Nat} (h : dhF k u v = true) : (∀ p, rdN p = u → x25 k p = T0 v 32) ∧ rdN (T0 v 32) = v := by
  unfold dhF at h
  rw [U8] at h
  have e := B1Z u (bv (G8 k)) (fun a b _ _ => Nat.beq (Nat.mod (Nat.mul v b) 57896044618658097711785492504343953926634992332820282019728792003956564819949) a && (Nat.blt v 57896044618658097711785492504343953926634992332820282019728792003956564819949 && !Nat.beq (Nat.mod b 57896044618658097711785492504343953926634992332820282019728792003956564819949) 0)) 255 (Nat.le_refl _)
  rw [Nat.sub_self] at e
  rw [show B9M u (bv (G8 k)) (fun a b _ _ => Nat.beq (Nat.mod (Nat.mul v b) 57896044618658097711785492504343953926634992332820282019728792003956564819949) a && (Nat.blt v 57896044618658097711785492504343953926634992332820282019728792003956564819949 && !Nat.beq (Nat.mod b 57896044618658097711785492504343953926634992332820282019728792003956564819949) 0)) 255 1 0 u 1 = _ from e, Bool.and_eq_true, Bool.and_eq_true] at h
  obtain ⟨h1, h2, h3⟩ := h
  have a1 := Nat.eq_of_beq_eq_true h1
  have a2 := C7 h2
  have a3 : ¬ (A0b u (bv (G8 k)) 255).b % p25 = 0 := fun e => by
    rw [C0P] at e
    change (A0b u (bv (G8 k)) 255).b.mod 57896044618658097711785492504343953926634992332820282019728792003956564819949 = 0 at e
    rw [e] at h3
    cases h3
  have a4 := B5e a3
  rw [← C0P] at a1 a2
  have a5 : fM (A0b u (bv (G8 k)) 255).a (fI (A0b u (bv (G8 k)) 255).b) = v := by
    generalize (A0b u (bv (G8 k)) 255).a = a at *
    generalize (A0b u (bv (G8 k)) 255).b = b at *
    generalize fI b = c at *
    unfold fM at a4 ⊢
    rw [← a1]
    show (v * b % p25) * c % p25 = v
    rw [Nat.mod_mul_mod, Nat.mul_assoc, Nat.mul_mod, a4, Nat.mul_one, Nat.mod_mod, Nat.mod_eq_of_lt a2]
  refine ⟨fun p hp => ?_, by rw [← A6I a2]; exact rd32 a2⟩
  unfold x25
  rw [hp, a5, A6I a2]

end Go.Proofs.YthbhpfefdnffaaaGreatDoor
