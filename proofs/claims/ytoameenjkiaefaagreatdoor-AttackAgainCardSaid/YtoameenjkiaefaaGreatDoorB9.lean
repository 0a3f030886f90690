/- Part 9 of the texts of this claim, one behind the other. -/
import Derived.Test.YtoameenjkiaefaaGreatDoorB8
import Derived.Laws.StructEq
import Derived.Laws.Cover3
set_option linter.unusedVariables false
set_option linter.unusedSimpArgs false
set_option maxRecDepth 100000
namespace Go.Proofs.YtoameenjkiaefaaGreatDoor
open Go.Px
theorem A74 {k : IntKind} (c : Int) : I8 .eql k c (-1) = some (.bool (decide (c = -1))) := by
  by_cases h : c = -1
  · rw [decide_eq_true h]; exact eqT h
  · rw [decide_eq_false h]; exact eqF h
theorem A44 (v : Value) (rows : List (List Value)) (f : FuncId) (cs : List Value) (p : Nat → Bool) (B A : Mem) (hs : Sl 2 v rows.length rows.flatten B) (hl : ∀ r ∈ rows, r.length = 2) (h1 : ∀ c ∈ rows.flatten, c.oneCell' = true) (hn : rows.length ≤ 1099511627776) (hc_ : G5 Tryz.prog f = true) (hf : ∀ (j : Nat) (r : List Value), rows[j]? = some r → FnV Tryz.prog f (.agg r.toArray :: cs) A (.bool (p j))) : FnX Tryz.prog 102 [v, .func (.func f) #[] cs.toArray] B A fun q M J => Sl 2 q (kpt p rows rows.length).length (kpt p rows rows.length).flatten M := by
 haveI := hs.cel
 refine FnX.enterZ (N := 42) Tryz.func102 rfl rfl rfl fun w_ => ?_
 refine A8 (D0 0 1) (A1 (as_ (A0 (D0 0 1) (A1 (mv_ (mv_ ?_))))))
 refine E2 (aS rfl (aS rfl a0)) kR (A43 v rows f cs p _ (hs.rd fun x hx => by simp [hx]) hl hn hc_ (fun j r hr => A2T (hf j r hr) qS)) rfl ?_
 refine as_ (A0 (E7 0 1 5) (A7 (A1 (mv_ ?_))))
 refine A2 (F6 (decide (A1H p rows.length = -1)) rfl rfl (A74 _)) rfl ?_
 refine A0 (F8 0 1 5 12) ?_
 refine C4 rfl ?_ ?_ <;> intro hc
 ·
  have hm1 : A1H p rows.length = -1 := of_decide_eq_true hc
  have hall : ∀ i, i < rows.length → p i = false := by rcases A0v p rows.length with ⟨_, h⟩ | ⟨i, _, h, _, _⟩; exact h; omega
  refine A1 (mv_ (as_ (A0 (C8 4) (A6 (tr ?_)))))
  refine ⟨_, B, [], F4 rfl rfl, Fit.none (Fit.last qP), ?_⟩
  rw [A3z _ hall, List.take_length]
  exact hs
 ·
  have hne : ¬ A1H p rows.length = -1 := of_decide_eq_false hc
  obtain ⟨i0, hi0, he0, hp0, hq0⟩ : ∃ i, i < rows.length ∧ A1H p rows.length = (i : Int) ∧ p i = true ∧ ∀ j, j < i → p j = false := (A0v p rows.length).resolve_left fun h => hne h.1
  rw [he0]
  refine A5 (nx (E7 0 1 5) (A7 (A1 (mv_ ?_))))
  refine A2 (Z5 ((i0 + 1 : Nat) : Int) rfl rfl (A1o qO qO qO)) rfl ?_
  refine as_ (A0 (F8 0 1 5 6) (C6 ?_))
  refine H0 (α := Nat × Nat × List (List Value) × Mem) (fun y => [(0, v), (1, .func (.func f) #[] cs.toArray), (5, (vI y.2.1)), (6, (vI y.1))]) (fun y => y.2.2.2) (fun _ => []) (fun y => Dfs 2 p rows y.2.2.1 y.1 y.2.1 ∧ Sl 2 v rows.length y.2.2.1.flatten y.2.2.2) (fun y => rows.length - y.1) (i0 + 1, i0, rows, B) ⟨Dfs.init hl hi0 hp0 hq0, hs⟩ (F8 0 1 5 6) Fit.rfl qI ?_
  rintro ⟨j, i, cur, Bc⟩ ⟨hD, hsc⟩
  dsimp only at hD hsc ⊢
  have hjn := hD.jn
  have hij := hD.ij
  have hcs := hD.cs
  refine A7 (A1 (mv_ (mv_ ?_)))
  refine A2 (E1 (sz := 2) rfl kR (hsc.rd (R := Bc) fun _ h => h)) rfl ?_
  refine A2 (F1 rfl rfl rfl) rfl ?_
  refine A0 (H9 0 1 5 6 19) ?_
  refine C4 rfl ?_ ?_ <;> intro hc
  ·
   have hlt : j < rows.length := by simp at hc; omega
   obtain ⟨r, hr⟩ : ∃ r, rows[j]? = some r := ⟨_, List.getElem?_eq_getElem hlt⟩
   have hrc : cur[j]? = some r := hD.at_ hr
   have hrl : r.length = 2 := hcs r (List.mem_of_getElem? hrc)
   have hr1 : ∀ c ∈ r, c.oneCell' = true := fun c hc => h1 c (List.mem_flatten.2 ⟨r, List.mem_of_getElem? hr, hc⟩)
   obtain ⟨c0_, c1_, rfl⟩ : ∃ c0_ c1_, r = [c0_, c1_] := by match r, hrl with | [c0_, c1_], _ => exact ⟨c0_, c1_, rfl⟩
   refine A5 (nx (F8 0 1 5 6) (A7 (C6 (A1 (mv_ (mv_ ?_))))))
   refine A2 (E9 (sz := 2) (a := j) rfl rfl kR rfl (hsc.rd (R := Bc) fun _ h => h) hlt) rfl ?_
   refine A2 (T7 rfl kR (hsc.rd fun x hx => by simp [hx]) hcs qD hrc) rfl ?_
   refine A4 rfl (D3 (cs := [.int .u32 0, vS]) kR rfl fun b7 => ?_)
   refine A4 rfl (C0 rfl rfl rfl kR qR hr1 UpC.upd ?_)
   refine A0 (H9 0 1 5 6 7) (A1 (mv_ ?_))
   refine A2 (qw_ 2) rfl ?_
   refine A4 rfl (A0L rfl (aS rfl a0) hc_ (A2T (hf j _ hr) qS) rfl ?_)
   refine A2 (T2 rfl) rfl ?_
   refine A0 (L1 0 1 5 6 7 29) ?_
   refine C4 rfl ?_ ?_ <;> intro hc
   ·
    refine A1 (mv_ (mv_ ?_))
    refine A2 (qw_ 2) rfl ?_
    refine A2 (E9 (sz := 2) (a := i) rfl rfl kR rfl (hsc.rd (R := Bc) fun _ h => h) qO) rfl ?_
    refine A4 rfl (A71 (sz := 2) (j := i) rfl rfl hsc hrl hr1 kR qO qP fun B33 hs33 => ?_)
    refine A0 (F8 0 1 5 6) (D1 (mv_ ?_))
    refine A2 (Z5 ((i + 1 : Nat) : Int) rfl rfl (A1o qO qO qO)) rfl ?_
    refine as_ (E3 (nb (nx (F8 0 1 5 6) (D1 (mv_ ?_)))))
    refine A2 (Z5 ((j + 1 : Nat) : Int) rfl rfl (A1o qO qO qO)) rfl ?_
    refine as_ (E3 ?_)
    exact rn (j + 1, i + 1, cur.set i [c0_, c1_], B33) ⟨hD.keep hr (by simpa using hc), by rw [← A70 hcs rfl (by have := hD.cl; omega)]; exact hs33⟩ (by dsimp only; omega) (F8 0 1 5 6) (Fit.last qP) qI
   ·
    refine A5 (nb (nx (F8 0 1 5 6) (D1 (mv_ ?_))))
    refine A2 (Z5 ((j + 1 : Nat) : Int) rfl rfl (A1o qO qO qO)) rfl ?_
    refine as_ (E3 ?_)
    exact rn (j + 1, i, cur, Bc) ⟨hD.skip hlt (by simpa using hc), hsc⟩ (by dsimp only; omega) (F8 0 1 5 6) (Fit.last qP) qI
  ·
   have hge : j = rows.length := by simp at hc; omega
   subst hge
   refine G6 (te (re (be rfl (nx (D0 0 5) (A1 (mv_ (mv_ ?_)))))))
   refine A2 (A3V (sz := 2) rfl rfl kR rfl (by first | assumption | exact Sl.rd (by assumption) qI | exact By.rd (by assumption)) qO) rfl ?_
   refine A4 rfl (A72 (e := 174) (by_ := 32) (zs := (Builtin.zeroCells #[.int .u32 0, vS] (rows.length - i)).toList) rfl kR kR hsc (A1S (by simp [Value.oneCell']) qM _) qO qP fun B38 hs38 => ?_)
   refine A0 (D0 0 5) (A1 (mv_ (mv_ ?_)))
   refine A2 (A2v (sz := 2) (a := i) rfl rfl kR rfl (hs38.rd (R := B38) fun _ h => h) qO) rfl ?_
   refine as_ (A0 (C8 4) (A6 ?_))
   refine ⟨_, B38, [], F4 rfl rfl, Fit.none (Fit.last qP), ?_⟩
   have h2 := hs38.hi_app (by rw [A3P hcs, hD.cl]) qO
   rw [A0P hcs, hD.ct] at h2
   rw [← hD.ki]
   exact h2

theorem M3 (s : Ps) (w : LN) : (H5 s w).ts.length ≤ s.ts.length + 2 := by
  unfold H5
  split
  · omega
  · have h1 := K9 (ts := s.ts) (ws := w)
    have h2 := U7 (ts := rdT s.ts w) (t := A4g ((rdI s.ts w : Nat) : Int))
    show (add (rdT s.ts w) _).length ≤ _
    omega
theorem A2e (s : Ps) (w : LN) : (H5 s w).n = s.n := by unfold H5; split <;> rfl
theorem A75 (s : Ps) (w m : LN) : (A9S s w m).ts.length ≤ s.ts.length + 2 := by
  unfold A9S
  split
  · omega
  · have h1 := K9 (ts := s.ts) (ws := w)
    have h2 := U7 (ts := rdT s.ts w) (t := A7b ((rdI s.ts w : Nat) : Int) m)
    show (add (rdT s.ts w) (A7b ((rdI s.ts w : Nat) : Int) m)).length ≤ _
    omega
theorem B1N (s : Ps) (w m : LN) : (A9S s w m).n = s.n := by unfold A9S; split <;> rfl
theorem A6E (s : Ps) (w : LN) : (I9 s w).length = 32 := by
  unfold I9
  split
  · exact A6c _ _
  · exact A0s _ qD
noncomputable def A6F (k : Ks) (s : Ps) : Ps := A9S (H5 (D7 s) (E0 s)) k.sign (A6z k.next (I9 (D7 s) (E0 s)))
noncomputable def turnP (k : Ks) (s : Ps) : Pr := ⟨k.next, E0 s, B3t (H5 (D7 s) (E0 s)) k.sign (A6z k.next (I9 (D7 s) (E0 s)))⟩
def A45 (signed : List Pr) (x : Nm) : Bool := !decide (0 ≤ A19 (A96 x.n) signed)
noncomputable def A0A (k : Ks) (s : Ps) : Ks × Ps :=
  ({ k with signed := (turnP k s :: k.signed).take 2, next := k.next + 1, met := k.met.filter fun x => !A45 ((turnP k s :: k.signed).take 2) x }, A6F k s)
theorem A6G {l : List Pr} {rows : List (List Value)} {n b : Nat} {vi : Value} {A : Mem} (hR : RwL prR A rows l) (hvi : Cel vi [vi]) (hb : (b, blk [(vU n), vi] 174) ∈ A) :
    ∀ (j : Nat) (r : List Value), rows[j]? = some r → FnV Tryz.prog 105 (.agg r.toArray :: [(vP b)]) A (.bool ((fun j => (l[j]?.map (A96 n)).getD false) j)) := fun j r hr => by
  obtain ⟨x, hx, vs, vg, rfl, hs, hg, _⟩ := hR.of hr
  dsimp only
  rw [hx]
  exact A3y vs vg vi x n b _ hs hg hvi hb
theorem A98 (kb b n : Nat) (c0 c1 c2 c3 vq c5 c6 c7 vi : Value) (sg : List Pr) (rs : List (List Value)) (A : Mem) (hb : (b, blk [(vP kb)] 26) ∈ A) (hkb : (kb, blk [c0, c1, c2, c3, vq, c5, c6, c7] 127) ∈ A) (hvi : Cel vi [vi]) (hv : Rd A 3 vq sg.length rs.flatten) (hR : RwL prR A rs sg) (hl : sg.length ≤ 1000000) : FnV Tryz.prog 103 [.agg #[(vU n), vi], (vP b)] A (.bool (!decide (0 ≤ A19 (A96 n) sg))) := by
 haveI := hv.cel
 refine FnX.enter (N := 11) Tryz.func103 rfl rfl rfl fun w => ?_
 refine A8 (D0 0 1) (A1 ?_)
 refine A4 rfl (bx_ fun b2 => ?_)
 refine as_ (A0 (D0 1 2) (A1 ?_))
 refine A2 (G7 rfl kR (mA hb) qR) rfl ?_
 refine A2 (D5 rfl) rfl ?_
 refine A2 (qf_ 4 4) rfl ?_
 refine A2 (G7 rfl kR (mA hkb) qR) rfl ?_
 refine A2 (A4i (aS rfl a0)) rfl ?_
 refine E2 (aS rfl (aS rfl a0)) kR (A2c vq rs 105 [(vP b2)] (fun j => (sg[j]?.map (A96 n)).getD false) _ (by rw [hR.len]; exact hv.mono qS) (hR.lens prT) (by rw [hR.len]; omega) kR (A6G (hR.mono prT qS) hvi At.mem)) rfl ?_
 rw [hR.len]
 refine A2 (T2 rfl) rfl ?_
 refine as_ (A0 (C8 3) (A6 ?_))
 exact ⟨_, [], [], F4 rfl rfl, List.nil_sublist _, by simp, rfl, rfl, rfl⟩
theorem A6H {l : List Nm} {rows : List (List Value)} {kb b : Nat} {c0 c1 c2 c3 vq c5 c6 c7 : Value} {sg : List Pr} {rs : List (List Value)} {A : Mem} (hL : RwL nmR A rows l) (hb : (b, blk [(vP kb)] 26) ∈ A) (hkb : (kb, blk [c0, c1, c2, c3, vq, c5, c6, c7] 127) ∈ A) (hv : Rd A 3 vq sg.length rs.flatten) (hR : RwL prR A rs sg) (hl : sg.length ≤ 1000000) :
    ∀ (j : Nat) (r : List Value), rows[j]? = some r → FnV Tryz.prog 103 (.agg r.toArray :: [(vP b)]) A (.bool ((fun j => (l[j]?.map (A45 sg)).getD false) j)) := fun j r hr => by
  obtain ⟨x, hx, vi, rfl, hi, _⟩ := hL.of hr
  dsimp only
  rw [hx]
  exact A98 kb b x.n c0 c1 c2 c3 vq c5 c6 c7 vi sg rs A hb hkb hi.cel hv hR hl
theorem B1O (kb : Nat) (pb : Nat × Nat) (k : Ks) (s : Ps) (MK MP A : Mem) (hK : Kys A kb k MK) (hP : Prm pb s MP) (hn : s.ts.length + 100 ≤ 1048576) (hk : s.n < 1000000000) (hnx : k.next + 100 < 4000000000) (hG : Glb A) : FnX Tryz.prog 54 [(vP kb), .pointer (some ⟨pb.1, 0, none⟩)] (MK ++ MP) A fun q M J => ∃ MK2 MP2, M = MK2 ++ MP2 ∧ Kys (J ++ A) kb (A0A k s).1 MK2 ∧ Prm pb (A0A k s).2 MP2 := by
 obtain ⟨va, vg, vq, vo, vm, rs, ro, rm, Bs, Bo, Bm, rfl, hva, hvg, hss, hrs, hso, hro, hsm, hrm, hn1, hn2, hn3, hn4⟩ := hK.ex
 haveI := hva.cel
 haveI := hvg.cel
 have fl := L3 s
 have pl := M3 (D7 s) (E0 s)
 have pkl := A6E (D7 s) (E0 s)
 haveI := hss.cel
 haveI := hso.cel
 haveI := hsm.cel
 refine FnX.enterZ (N := 68) Tryz.func54 rfl rfl rfl fun w_ => ?_
 refine A8 (D0 0 1) (A1 ?_)
 refine A4 rfl (bx_ fun b2 => ?_)
 refine A0 (D0 1 2) (A7 (A1 ?_))
 refine A2 ql_ rfl ?_
 refine A2 (C9 (e := 127) rfl rfl kR) rfl ?_
 refine A0 (E7 1 2 6) ?_
 refine B8 rfl ?_
 refine A5 (nx (D0 1 2) ?_)
 refine E5 (MP) (_) true (.range 8) (zp 0 [1, 0, 0, 1, 0, 3, 3, 4, 2]) kR kR qP fun hs K n0 hKm hKs hKn => ?_
 refine I2 hs rfl hKs ql_ ?_
 refine E4 hs rfl (D5 rfl) rfl ?_
 refine E4 hs rfl (qf_ 6 6) rfl ?_
 refine I2 hs rfl hKs ql_ ?_
 refine km_ hs ?_
 refine S2 [⟨5, 12, none, MP, fun v B R => Prm pb (D7 (s)) B ∧ By R v (E0 (s))⟩, ⟨6, 13, none, [], fun v B R => B = [] ∧ ∃ u, v = .agg [(vU k.next), u, vS].toArray ∧ By R u (E0 s)⟩, ⟨7, 4, none, [], fun v B _ => ∃ b, v = (vP b) ∧ B = [(b, blk [.int .u32 0, vS, vS] 123)]⟩] ((b2, blk [(vP kb)] 26) :: ((kb, blk [.int .i64 k.user, .int .i64 k.dev, va, vg, vq, vo, (vU k.next), vm] 127) :: (Bs ++ (Bo ++ Bm)))) (fun bs => [bs 5, bs 6, bs 7]) (hKn rfl) (by simp [S1, V3]) (show ∀ m ∈ ([MP, [], []] : List Mem), ∀ x ∈ m, K x.1 from A3 (hKm) (A3 (fun _ h => by cases h) (A3 (fun _ h => by cases h) (I5)))) kR (fun _ => by first | rfl | kernel_rfl)
  (A3 (fun _ _ _ _ h hp => ⟨hp.1, hp.2.mono h⟩) (A3 (fun _ _ _ _ h ⟨p1, u, p2, p3⟩ => ⟨p1, u, p2, p3.mono h⟩) (A3 (fun _ _ _ _ h hp => hp) (I5)))) (show List.Nodup [12, 13, 4] by decide) (show List.Nodup [5, 6, 7] by decide) (A3 (D6 rfl) (A3 (D6 rfl) (A3 (D6 rfl) (I5))))
  (A3 ⟨_, rfl, fun vs bs R Rj wG hb hj hjr ha => ⟨.inl rfl, ?_⟩⟩ (A3 ⟨_, rfl, fun vs bs R Rj wG hb hj hjr ha => ⟨.inl rfl, ?_⟩⟩ (A3 ⟨_, rfl, fun vs bs R Rj wG hb hj hjr ha => ⟨.inl rfl, ?_⟩⟩ (I5)))) ?_
 ·
  dsimp only [Gc.inp]
  refine A9 (Mc := MP) (R := []) (aS rfl a0) kR qM (Q9 pb (s) MP _ hP qO qO (hG.sub fun x hx => by have := hb x (by simp [hx]); simp [this])) rfl ?_
  rintro v12 M12 J12 ⟨hP12, h12⟩
  exact ⟨_, rfl, by simpa using hP12, h12.mono fun x hx => by simp [hx]⟩
 ·
  dsimp only [Gc.inp]
  have g5 := ha _ (List.mem_of_getElem? (i := 0) rfl) kR
  replace g5 : (fun v B R => Prm pb (D7 (s)) B ∧ By R v (E0 (s))) (vs 5) (bs 5) Rj := g5
  dsimp only at g5
  obtain ⟨hP12, h12⟩ := g5
  haveI := h12.cel
  exact OpQ.opL (D2 (place := fun x => #[(0, 1), (1, 1), (2, 1)][x]?) (z := [.int .u32 0, vS, vS]) (fun _ => by kernel_rfl) (eS rfl (eS rfl e0)) (bdS 0 1 rfl qR (bdS 1 1 rfl qR bd0))) rfl ⟨_, rfl, rfl, _, rfl, h12⟩
 ·
  dsimp only [Gc.inp]
  exact D3 (cs := [.int .u32 0, vS, vS]) kR rfl fun b => ⟨_, rfl, b, rfl, rfl⟩
 intro vs bs Jn0 hφ hKK
 have kk5 := hKK _ (List.mem_of_getElem? (i := 0) rfl)
 dsimp only at kk5
 have kk6 := hKK _ (List.mem_of_getElem? (i := 1) rfl)
 dsimp only at kk6
 have kk7 := hKK _ (List.mem_of_getElem? (i := 2) rfl)
 dsimp only at kk7
 clear hKK
 have g5 := ofH hφ
 dsimp only at g5
 replace hφ := ofT hφ
 have g6 := ofH hφ
 dsimp only at g6
 replace hφ := ofT hφ
 have g7 := ofH hφ
 dsimp only at g7
 clear hφ
 dsimp only [L9, S1, List.foldr, List.map, List.cons_append, List.nil_append]
 generalize bs 5 = B12 at *
 generalize bs 6 = B13 at *
 generalize bs 7 = B4 at *
 generalize vs 5 = u12 at *
 generalize vs 6 = u13 at *
 generalize vs 7 = u4 at *
 obtain ⟨hP12, h12⟩ := g5
 obtain ⟨b4, rfl, rfl⟩ := g7
 obtain ⟨rfl, u, rfl, h12⟩ := g6
 haveI := h12.cel
 refine Y2 (M' := B12 ++ ((b4, blk [.int .u32 0, vS, vS] 123) :: (b2, blk [(vP kb)] 26) :: ((kb, blk [.int .i64 k.user, .int .i64 k.dev, va, vg, vq, vo, (vU k.next), vm] 127) :: (Bs ++ (Bo ++ Bm))))) qM ?_
 refine I6 rfl rfl rfl (C0 (vs := [(vU k.next), u, vS]) rfl rfl rfl kR qR (by intro c hc; simp only [List.mem_cons, List.not_mem_nil, or_false] at hc; rcases hc with rfl | rfl | rfl; rfl; exact h12.one; rfl) UpC.upd ?_)
 refine H7 (E7 1 2 4) ?_
 refine E5 (B12) (_) true (.range 14) (zp 0 [0, 1, 0, 0, 1, 0, 1, 0, 0, 1, 2, 2, 2, 0, 2]) kR kR qP fun hs K n0 hKm hKs hKn => ?_
 refine km_ hs ?_
 refine I2 hs rfl hKs ql_ ?_
 refine E4 hs rfl (D5 rfl) rfl ?_
 refine E4 hs rfl (qf_ 3 3) rfl ?_
 refine I2 hs rfl hKs ql_ ?_
 refine E4 hs rfl (qf_ 0 0) rfl ?_
 refine I2 hs rfl hKs ql_ ?_
 refine km_ hs ?_
 refine E4 hs rfl (qf_ 1 1) rfl ?_
 refine I2 hs rfl hKs ql_ ?_
 refine F7 _ _ rfl rfl (List.Perm.refl _) hKm fun w0 => (A9 (Mc := B12) (R := _) (aS rfl (aS rfl a0)) kR qP (X1 pb (D7 s) u (E0 s) B12 _ hP12 qO (h12.mono qS) hG.up) rfl ?_)
 rintro v24 M24 J24 ⟨hP24, h24⟩ hKx
 haveI := h24.cel
 refine Y2 (M' := M24 ++ ((b4, blk [(vU k.next), u, vS] 123) :: (b2, blk [(vP kb)] 26) :: ((kb, blk [.int .i64 k.user, .int .i64 k.dev, va, vg, vq, vo, (vU k.next), vm] 127) :: (Bs ++ (Bo ++ Bm))))) qM ?_
 generalize hpk : I9 (D7 s) (E0 s) = pk at *
 generalize hps : H5 (D7 s) (E0 s) = s2 at *
 refine F7 [] _ rfl rfl (List.Perm.refl _) (fun _ h => by cases h) fun w0 => (K1 (aS rfl (aS rfl a0)) kR (A2Q k.next v24 pk _ qO (h24.mono qS) qO) rfl ?_)
 rintro v25 M25 J25 ⟨rfl, h25⟩ _
 haveI := h25.cel
 generalize hms : A6z k.next pk = wm at *
 dsimp only [List.nil_append, List.append_eq]
 refine F7 M24 _ rfl rfl qP (fun x hx => hKx (hKn rfl) x (by simpa using hx)) fun w0 => (A9 (Mc := M24) (R := _) (aS rfl (aS rfl (aS rfl a0))) kR qP (A9T pb s2 vg v25 k.sign wm M24 _ hP24 qO (hvg.mono qS) (h25.mono qS) hG.up) rfl ?_)
 rintro v26 M26 J26 ⟨hP26, h26⟩ hKx
 haveI := h26.cel
 refine E4 hs rfl (qf_ 2 2) rfl ?_
 refine I6 rfl rfl rfl (F3 rfl rfl h26.one kR SetC.set UpC.upd ?_)
 refine H7 (D0 2 4) (A1 ?_)
 refine A2 ql_ rfl ?_
 refine A2 (D5 rfl) rfl ?_
 refine A2 (qf_ 6 6) rfl ?_
 refine A2 ql_ rfl ?_
 refine A2 (A8K 4294967296 (a := k.next) (b := 1) rfl rfl rfl rfl rfl rfl qO) rfl ?_
 refine A2 (D5 rfl) rfl ?_
 refine A2 (qf_ 6 6) rfl ?_
 refine A4 rfl (F3 rfl rfl rfl kR SetC.set UpC.upd ?_)
 refine A0 (D0 2 4) ?_
 refine E5 ([]) (_) true (.range 10) [(0, 1), (1, 1), (3, 1), (4, 0), (5, 0), (6, 1), (2, 2), (7, 2), (8, 0), (9, 0), (10, 2)] kR kR qP fun hs K n0 hKm hKs hKn => ?_
 refine I2 hs rfl hKs ql_ ?_
 refine I2 hs rfl hKs (qw_ 3) ?_
 refine I2 hs rfl hKs ql_ ?_
 refine E4 hs rfl (D5 rfl) rfl ?_
 refine E4 hs rfl (qf_ 4 4) rfl ?_
 refine I2 hs rfl hKs ql_ ?_
 refine F7 [] _ rfl rfl (List.Perm.refl _) (fun _ h => by cases h) fun w0 => (C3 (e := 123) (sz := 3) (z := [.int .u32 0, vS, vS]) kR (eS rfl e0) (bdS 0 3 rfl qR bd0) rfl fun b37 => fun hk37 => ?_)
 dsimp only [List.cons_append, List.nil_append, List.append_eq]
 refine F7 [(b37, blk [(vU k.next), u, v26] 123)] _ rfl rfl qP (fun x hx => hk37 (hKn rfl) x (by simpa using hx)) fun w0 => (G1 (e := 123) (sz := 3) (by_ := 56) rfl rfl kR rfl (Sl.fresh (n := 1) (cs := [(vU k.next), u, v26]) (e := 123) rfl qD) (hss.rd fun x hx => by simp [hx]) (hrs.ones prT) qP (by unfold maxLen; omega) qO rfl fun v42 B42 hs42 => fun _ => ?_)
 haveI := hs42.cel
 refine E4 hs rfl (D5 rfl) rfl ?_
 refine E4 hs rfl (qf_ 4 4) rfl ?_
 refine I6 rfl rfl rfl (F3 rfl rfl hs42.one kR SetC.set UpC.upd ?_)
 refine H7 (C8 2) ?_
 refine F5 (.range 14) (zp 0 [1, 1, 0, 0, 1, 1, 0, 0, 1, 0, 0, 0, 0, 0, 2]) kR kR fun hs => ?_
 refine Q5 hs rfl ql_ rfl ?_
 refine Q5 hs rfl ql_ rfl ?_
 refine D9 hs rfl (D5 rfl) rfl ?_
 refine D9 hs rfl (qf_ 4 4) rfl ?_
 refine Q5 hs rfl ql_ rfl ?_
 refine Q5 hs rfl ql_ rfl ?_
 refine D9 hs rfl (D5 rfl) rfl ?_
 refine D9 hs rfl (qf_ 4 4) rfl ?_
 refine Q5 hs rfl ql_ rfl ?_
 refine D9 hs rfl (E1 (sz := 3) rfl kR (hs42.rd (R := B42) fun _ h => h)) rfl ?_
 refine D9 hs rfl (B03 rfl rfl) rfl ?_
 refine D9 hs rfl (A2v (sz := 3) (a := min 2 (1 + k.signed.length)) rfl rfl kR qO (hs42.rd (R := B42) fun _ h => h) qO) rfl ?_
 have hs6 := hs42.hiV (min 2 (1 + k.signed.length)) qO
 generalize vHi (min 2 (1 + k.signed.length)) v42 = vq6 at *
 haveI := hs6.cel
 obtain ⟨tp, htp⟩ : ∃ tp, turnP k s = tp := ⟨_, rfl⟩
 have htq : tp = ⟨k.next, E0 s, B3t s2 k.sign wm⟩ := by rw [← htp]; unfold turnP; rw [hpk, hps, hms]
 have hrow : prR (J26 ++ (J25 ++ (J24 ++ (Jn0 ++ A)))) tp [(vU k.next), u, v26] := ⟨u, v26, by rw [htq], by rw [htq]; exact h12.mono qS, by rw [htq]; exact h26.mono qS, by rw [htq]; dsimp only; omega⟩
 have hRs : RwL prR (J26 ++ (J25 ++ (J24 ++ (Jn0 ++ A)))) (([(vU k.next), u, v26] :: rs).take 2) ((tp :: k.signed).take 2) := (RwL.cons hrow (hrs.mono prT qS)).take 2
 have hl6 : ((tp :: k.signed).take 2).length = min 2 (1 + k.signed.length) := by rw [List.length_take, List.length_cons]; omega
 have hSg : Sl 3 vq6 ((tp :: k.signed).take 2).length (([(vU k.next), u, v26] :: rs).take 2).flatten B42 := by
  have e1 : [(vU k.next), u, v26] ++ rs.flatten = ([(vU k.next), u, v26] :: rs).flatten := rfl
  have e2 : min 2 (1 + k.signed.length) = min 2 ([(vU k.next), u, v26] :: rs).length := by rw [List.length_cons, hrs.len]; omega
  rw [e1, A0P ((RwL.cons hrow (hrs.mono prT qS)).lens prT), e2, ← List.take_eq_take_min, ← e2, ← hl6] at hs6
  exact hs6
 refine D9 hs rfl (D5 rfl) rfl ?_
 refine D9 hs rfl (qf_ 4 4) rfl ?_
 refine L2 rfl rfl rfl (F3 rfl rfl hs6.one kR SetC.set UpC.upd ?_)
 refine H4 (C8 2) ?_
 refine Q0 (Bm) (_) true (.range 9) (zp 0 [1, 1, 0, 0, 1, 0, 2, 0, 0, 2]) kR kR qP fun hs K n0 hKm hKs hKn => ?_
 refine I2 hs rfl hKs ql_ ?_
 refine I2 hs rfl hKs ql_ ?_
 refine E4 hs rfl (D5 rfl) rfl ?_
 refine E4 hs rfl (qf_ 7 7) rfl ?_
 refine I2 hs rfl hKs ql_ ?_
 refine E4 hs rfl (A4i (aS rfl a0)) rfl ?_
 refine F7 _ _ rfl rfl (List.Perm.refl _) hKm fun w0 => (A9 (Mc := Bm) (R := _) (aS rfl (aS rfl a0)) kR qP (by rw [← hrm.len] at hsm; exact A44 vm rm 103 [(vP b2)] (fun j => (k.met[j]?.map (A45 ((tp :: k.signed).take 2))).getD false) Bm _ hsm (hrm.lens nmT) (hrm.ones nmT) (by rw [hrm.len]; omega) kR (A6H (hrm.mono nmT qS) At.mem At.mem (hSg.rd fun x hx => by simp [hx]) (hRs.mono prT qS) (by rw [hl6]; omega))) rfl ?_)
 rintro v65 M65 J65 h65 _
 haveI := h65.cel
 refine E4 hs rfl (D5 rfl) rfl ?_
 refine E4 hs rfl (qf_ 7 7) rfl ?_
 refine I6 rfl rfl rfl (F3 rfl rfl h65.one kR SetC.set UpC.upd ?_)
 refine Z6 ?_
 have hkm := hrm.kpt (fun j => (k.met[j]?.map (A45 ((tp :: k.signed).take 2))).getD false) rm.length
 rw [A1J, hrm.len, List.take_length] at hkm
 rw [hrm.len] at h65
 have htK : A0A k s = ({ k with signed := (tp :: k.signed).take 2, next := k.next + 1, met := k.met.filter fun x => !A45 ((tp :: k.signed).take 2) x }, A9S s2 k.sign wm) := by unfold A0A A6F; rw [htp, hpk, hps, hms]
 rw [htK]
 have hkl : (k.met.filter fun x => !A45 ((tp :: k.signed).take 2) x).length ≤ 100000 := Nat.le_trans (List.length_filter_le _ _) hn4
 refine ⟨_, (kb, blk [.int .i64 k.user, .int .i64 k.dev, va, vg, vq6, vo, .int .u32 ((k.next + 1 : Nat) : Int), v65] 127) :: (B42 ++ (Bo ++ (M65 ++ M26))), [], A2k rfl, Fit.none (Fit.pick (B := [_]) qP (Fit.pick qP (Fit.pick qP (Fit.pick qP (Fit.last qP))))), (kb, blk [.int .i64 k.user, .int .i64 k.dev, va, vg, vq6, vo, .int .u32 ((k.next + 1 : Nat) : Int), v65] 127) :: (B42 ++ (Bo ++ M65)), M26, by simp, ⟨⟨va, vg, vq6, vo, v65, _, ro, _, B42, Bo, M65, rfl, hva.mono qS, hvg.mono qS, hSg, hRs.mono prT qS, hso, hro.mono prT qS, ?_, hkm.mono nmT qS, by dsimp only; omega, by dsimp only; rw [hl6]; omega, hn3, hkl⟩⟩, hP26⟩
 rw [hkm.len] at h65
 exact h65

noncomputable def idS (k : Ks) (s : Ps) : Ps := H5 (H5 s k.agree) k.sign
noncomputable def idA (k : Ks) (s : Ps) : LN := I9 s k.agree
noncomputable def idG (k : Ks) (s : Ps) : LN := B2G (H5 s k.agree) k.sign
theorem A1e (k : Ks) (s : Ps) : (idS k s).ts.length ≤ s.ts.length + 4 := by
  have h1 := M3 s k.agree
  have h2 := M3 (H5 s k.agree) k.sign
  unfold idS; omega
theorem A4o (k : Ks) (s : Ps) : (A0A k s).2.ts.length ≤ s.ts.length + 5 ∧ (A0A k s).2.n = s.n + 1 := by
  have h1 := L3 s
  have h2 := M3 (D7 s) (E0 s)
  have h3 := A75 (H5 (D7 s) (E0 s)) k.sign (A6z k.next (I9 (D7 s) (E0 s)))
  have h4 := B1N (H5 (D7 s) (E0 s)) k.sign (A6z k.next (I9 (D7 s) (E0 s)))
  have h5 := A2e (D7 s) (E0 s)
  show (A6F k s).ts.length ≤ _ ∧ (A6F k s).n = _
  unfold A6F
  omega
theorem A46 (k : Ks) (s : Ps) : (A0A k s).1.next = k.next + 1 := rfl
theorem A76 (k : Ks) (s : Ps) : (A2U k s).2.ts.length ≤ s.ts.length + 4 ∧ (A2U k s).2.n ≤ s.n + 4 ∧ (A2U k s).1.next ≤ k.next + 4 := by
  have h1 := A2d k s (4 - k.once.length)
  have h2 := X2 k s (4 - k.once.length)
  unfold A2U
  omega
def k0N (u d : Int) (s : Ps) : Ks := ⟨u, d, E0 s, E0 (D7 s), [], [], 1, []⟩
noncomputable def A77 (u d : Int) (s : Ps) : Ks × Ps := A2U (A0A (k0N u d s) (D7 (D7 s))).1 (A0A (k0N u d s) (D7 (D7 s))).2
theorem A99 (u d : Int) (s : Ps) : (A77 u d s).2.ts.length ≤ s.ts.length + 11 ∧ (A77 u d s).2.n ≤ s.n + 7 ∧ (A77 u d s).1.next ≤ 6 := by
  have h1 := L3 s
  have h2 := L3 (D7 s)
  have h3 := A4o (k0N u d s) (D7 (D7 s))
  have h4 := A76 (A0A (k0N u d s) (D7 (D7 s))).1 (A0A (k0N u d s) (D7 (D7 s))).2
  have h5 : (A0A (k0N u d s) (D7 (D7 s))).1.next = 2 := rfl
  unfold A77
  omega
structure Bn where
  user : Int
  dev : Int
  ia : LN
  ig : LN
  signed : Nat
  key : LN
  sig : LN
  has : Bool
  once : Nat
  oncek : LN
def bnR (R : Mem) (x : Bn) (r : List Value) : Prop := ∃ va vg vk vs vo, r = [.int .i64 x.user, .int .i64 x.dev, va, vg, (vU x.signed), vk, vs, .bool x.has, (vU x.once), vo] ∧ By R va x.ia ∧ By R vg x.ig ∧ By R vk x.key ∧ By R vs x.sig ∧ By R vo x.oncek ∧ x.signed < 4294967296 ∧ x.once < 4294967296
theorem bnT : RowT 10 bnR := ⟨fun R R' x r hR ⟨va, vg, vk, vs, vo, h1, h2, h3, h4, h5, h6, h7⟩ => ⟨va, vg, vk, vs, vo, h1, h2.mono hR, h3.mono hR, h4.mono hR, h5.mono hR, h6.mono hR, h7⟩, fun R x r ⟨va, vg, vk, vs, vo, h1, _⟩ => by rw [h1]; rfl, fun R x r ⟨va, vg, vk, vs, vo, h1, h2, h3, h4, h5, h6, _⟩ => by
  rw [h1]
  exact A3 rfl (A3 rfl (A3 h2.one (A3 h3.one (A3 rfl (A3 h4.one (A3 h5.one (A3 rfl (A3 rfl (A3 h6.one I5)))))))))⟩
noncomputable def B0a (k : Ks) (x : Pr) (s : Ps) : Bn := ⟨k.user, k.dev, idA k s, idG k s, x.n, I9 (idS k s) x.sec, x.sig, false, 0, []⟩
noncomputable def A1r (b : Bn) (l : List Pr) (s : Ps) : Nat → List Bn × Ps
  | 0 => ([b], s)
  | i + 1 => match l[i]? with
    | none => A1r b l s i
    | some o => ((A1r b l s i).1 ++ [{ b with has := true, once := o.n, oncek := I9 (A1r b l s i).2 o.sec }], H5 (A1r b l s i).2 o.sec)
theorem A0f {b : Bn} {l : List Pr} {s : Ps} {i : Nat} {o : Pr} (h : l[i]? = some o) : A1r b l s (i + 1) = ((A1r b l s i).1 ++ [{ b with has := true, once := o.n, oncek := I9 (A1r b l s i).2 o.sec }], H5 (A1r b l s i).2 o.sec) := by
  simp only [A1r, h]
theorem A0g {b : Bn} {l : List Pr} {s : Ps} : ∀ {i : Nat}, i ≤ l.length → (A1r b l s i).1.length = i + 1 ∧ (A1r b l s i).2.ts.length ≤ s.ts.length + 2 * i
  | 0, _ => ⟨rfl, Nat.le_refl _⟩
  | i + 1, h => by
    have ih := A0g (b := b) (s := s) (i := i) (l := l) qO
    rw [A0f (List.getElem?_eq_getElem qO)]
    have h2 := M3 (A1r b l s i).2 (l[i]'qO).sec
    refine ⟨by simp [ih.1], ?_⟩
    show (H5 _ _).ts.length ≤ _
    omega
noncomputable def A1f (k : Ks) (s : Ps) : List Bn × Ps := match k.signed with
  | [] => ([], s)
  | x :: _ => A1r (B0a k x s) k.once (H5 (idS k s) x.sec) k.once.length
theorem A3A (pb : Nat × Nat) (s : Ps) (kb : Nat) (k : Ks) (va vg vq vo vm : Value) (rs ro rm : List (List Value)) (MP A : Mem) (hK : KyR A kb k va vg vq vo vm rs ro rm) (hP : Prm pb s MP) (hn : s.ts.length + 100 ≤ 1048576) (hG : Glb A) : FnX Tryz.prog 51 [(vP kb), .pointer (some ⟨pb.1, 0, none⟩)] MP A fun q M J => Prm pb (idS k s) M ∧ ∃ p r, q = .agg #[p, r] ∧ By J p (idA k s) ∧ By J r (idG k s) := by
 have hkb := hK.blk_
 haveI := hK.agree.cel
 haveI := hK.sign.cel
 haveI := hK.signed.cel
 haveI := hK.once.cel
 haveI := hK.met.cel
 have pl := M3 s k.agree
 refine FnX.enterZ (N := 21) Tryz.func51 rfl rfl rfl fun w_ => ?_
 refine A8 (D0 0 1) (A1 ?_)
 refine A4 rfl (D3 (cs := [vS, vS]) kR rfl fun b4 => ?_)
 refine A0 (E7 0 1 4) (A7 (A1 (mv_ ?_)))
 refine A2 (C9 (e := 127) rfl rfl kR) rfl ?_
 refine A0 (F8 0 1 4 6) ?_
 refine B8 rfl ?_
 refine A5 (nx (E7 0 1 4) ?_)
 refine E5 (MP) (_) true (.range 13) [(0, 0), (1, 0), (2, 0), (3, 0), (4, 1), (6, 0), (7, 0), (8, 0), (9, 0), (10, 1), (5, 2), (11, 2), (12, 0), (13, 2)] kR kR qP fun hs K n0 hKm hKs hKn => ?_
 refine km_ hs ?_
 refine km_ hs ?_
 refine E4 hs rfl (D5 rfl) rfl ?_
 refine E4 hs rfl (qf_ 2 2) rfl ?_
 refine I2 hs rfl hKs (G7 rfl kR (mA hkb) qR) ?_
 refine km_ hs ?_
 refine km_ hs ?_
 refine E4 hs rfl (D5 rfl) rfl ?_
 refine E4 hs rfl (qf_ 3 3) rfl ?_
 refine I2 hs rfl hKs (G7 rfl kR (mA hkb) qR) ?_
 refine F7 _ _ rfl rfl (List.Perm.refl _) hKm fun w0 => (A9 (Mc := MP) (R := _) (aS rfl (aS rfl (a0))) kR qP (X1 pb s va k.agree MP _ hP qO (hK.agree.mono qS) hG.up) rfl ?_)
 rintro v13 M13 J13 ⟨hP13, h13⟩ hKx13
 haveI := h13.cel
 refine F7 M13 _ rfl rfl qP (fun x hx => hKx13 (hKn rfl) x (by simpa using hx)) fun w0 => (A9 (Mc := M13) (R := _) (aS rfl (aS rfl (a0))) kR qP (A6s pb (H5 s k.agree) vg k.sign M13 _ hP13 qO (hK.sign.mono qS) hG.up) rfl ?_)
 rintro v19 M19 J19 ⟨hP19, h19⟩ hKx19
 haveI := h19.cel
 refine E4 hs rfl (D2 (place := fun x => #[(0, 1), (1, 1)][x]?) (z := [vS, vS]) (fun _ => by kernel_rfl) (eS rfl (eS rfl e0)) (bdS 0 1 rfl qR (bdS 1 1 rfl qR bd0))) rfl ?_
 refine I6 rfl rfl rfl (C0 (vs := [v13, v19]) rfl rfl rfl kR qR (A3 h13.one (A3 h19.one I5)) UpC.upd ?_)
 refine H7 (C8 4) (A6 ?_)
 exact ⟨_, M19, [], A8C rfl rfl kR At.mem qR, Fit.none (Fit.last qP), hP19, _, _, rfl, h13.mono qS, h19.mono qS⟩
theorem B1P (u d : Int) (pb : Nat × Nat) (s : Ps) (MP A : Mem) (hP : Prm pb s MP) (hn : s.ts.length + 200 ≤ 1048576) (hk : s.n + 100 < 1000000000) (hG : Glb A) : FnX Tryz.prog 19 [.pointer (some ⟨pb.1, 0, none⟩), .agg #[.int .i64 u, .int .i64 d]] MP A fun q M J => ∃ kb MK MP2, q = (vP kb) ∧ M = MK ++ MP2 ∧ Kys (J ++ A) kb (A77 u d s).1 MK ∧ Prm pb (A77 u d s).2 MP2 := by
 have f1 := L3 s
 have f2 := L3 (D7 s)
 have f3 := A4o (k0N u d s) (D7 (D7 s))
 refine FnX.enterZ (N := 20) Tryz.func19 rfl rfl rfl fun w_ => ?_
 refine A8 (D0 0 1) (A1 ?_)
 refine A4 rfl (bx_ fun b3 => ?_)
 refine as_ (A0 (D0 0 3) ?_)
 refine E5 (MP) (_) true (.range 8) [(0, 1), (1, 0), (3, 0), (2, 2), (4, 2), (5, 0), (6, 2), (7, 0)] kR kR qP fun hs K n0 hKm hKs hKn => ?_
 refine I2 hs rfl hKs (qw_ 2) ?_
 refine km_ hs ?_
 refine km_ hs ?_
 refine F7 _ _ rfl rfl (List.Perm.refl _) hKm fun w0 => (A9 (Mc := MP) (R := _) (aS rfl (a0)) kR qP (Q9 pb s MP _ hP qO qO hG.up) rfl ?_)
 rintro v8 M8 J8 ⟨hP8, h8⟩ hKx8
 haveI := h8.cel
 refine F7 M8 _ rfl rfl qP (fun x hx => hKx8 (hKn rfl) x (by simpa using hx)) fun w0 => (A9 (Mc := M8) (R := _) (aS rfl (a0)) kR qP (Q9 pb (D7 s) M8 _ hP8 qO qO hG.up) rfl ?_)
 rintro v10 M10 J10 ⟨hP10, h10⟩ hKx10
 haveI := h10.cel
 refine E4 hs rfl (D2 (place := fun x => #[(0, 2), (2, 1), (3, 1), (4, 1), (5, 1), (6, 1), (7, 1)][x]?) (z := [F9, F9, vS, vS, vS, vS, E8, vS]) (fun _ => by kernel_rfl) (eS rfl (eS rfl (eS rfl (eS rfl e0)))) (bdS 0 2 rfl qR (bdS 2 1 rfl qR (bdS 3 1 rfl qR (bdS 6 1 rfl qR bd0))))) rfl ?_
 refine F7 [] _ rfl rfl (List.Perm.refl _) (fun _ h => by cases h) fun w0 => (A9h rfl (by first | exact Cel.cel | rfl) rfl fun b12 => fun hk12 => ?_)
 dsimp only [List.cons_append, List.nil_append, List.append_eq]
 refine E4 hs rfl (G4 rfl) rfl ?_
 refine H7 (D0 0 5) (A1 (mv_ (mv_ ?_)))
 refine A4 rfl (A9 (Mc := (b12, blk [.int .i64 u, .int .i64 d, v8, v10, vS, vS, (vU 1), vS] 127) :: M10) (R := _) (aS rfl (aS rfl a0)) kR qP (B1O b12 pb (k0N u d s) (D7 (D7 s)) [(b12, blk [.int .i64 u, .int .i64 d, v8, v10, vS, vS, (vU 1), vS] 127)] M10 _ ⟨⟨v8, v10, _, _, _, [], [], [], [], [], [], rfl, h8.mono qS, h10.mono qS, Sl.nil, RwL.nil, Sl.nil, RwL.nil, Sl.nil, RwL.nil, show 1 < 4294967296 by decide, Nat.zero_le _, Nat.zero_le _, Nat.zero_le _⟩⟩ hP10 qO qO (show 1 + 100 < 4000000000 by decide) hG.up) rfl ?_)
 rintro v15 M15 J15 ⟨MK15, MP15, rfl, hK15, hP15⟩
 refine A0 (D0 0 5) (A1 (mv_ (mv_ ?_)))
 refine A4 rfl (A9 (Mc := MK15 ++ MP15) (R := _) (aS rfl (aS rfl a0)) kR qP (B1M b12 pb _ _ MK15 MP15 _ (hK15.mono qS) hP15 qO qO (by rw [A46]; show 1 + 1 + 100 < 4000000000; decide) hG.up) rfl ?_)
 rintro v18 M18 J18 ⟨rfl, MK18, MP18, rfl, hK18, hP18⟩
 refine A0 (C8 5) (A1 (mv_ (as_ (A0 (C8 4) (A6 ?_)))))
 exact ⟨_, MK18 ++ MP18, [(b3, blk [.int .i64 u, .int .i64 d] 28)], F4 rfl rfl, Fit.pick (B := [_]) qP (Fit.last qP), _, MK18, MP18, rfl, rfl, hK18.mono qS, hP18⟩
theorem A2V (pb : Nat × Nat) (s : Ps) (kb : Nat) (k : Ks) (va vg vq vo vm : Value) (rs ro rm : List (List Value)) (x : Pr) (sl : List Pr) (MP A : Mem) (hK : KyR A kb k va vg vq vo vm rs ro rm) (hsg : k.signed = x :: sl) (hP : Prm pb s MP) (hn : s.ts.length + 100 ≤ 1048576) (hol : k.once.length ≤ 10) (hG : Glb A) : FnX Tryz.prog 18 [(vP kb), .pointer (some ⟨pb.1, 0, none⟩)] MP A fun q M J => Prm pb (A1f k s).2 M ∧ ∃ rows, Rd J 10 q (A1f k s).1.length rows.flatten ∧ RwL bnR (J ++ A) rows (A1f k s).1 := by
 have hkb := hK.blk_
 haveI := hK.agree.cel
 haveI := hK.sign.cel
 haveI := hK.signed.cel
 haveI := hK.once.cel
 haveI := hK.met.cel
 have il := A1e k s
 obtain ⟨r0, hr0, vs_, vg_, rfl, hs_, hg_, hxn⟩ := hK.signedR.get 0 x (by rw [hsg]; rfl)
 haveI := hs_.cel
 haveI := hg_.cel
 refine FnX.enterZ (N := 62) Tryz.func18 rfl rfl rfl fun w_ => ?_
 refine A8 (D0 0 1) (A1 (as_ (A0 (D0 0 1) (A7 (A1 (mv_ ?_))))))
 refine A2 (C9 (e := 127) rfl rfl kR) rfl ?_
 refine A0 (E7 0 1 12) ?_
 refine B8 rfl ?_
 refine A5 (nx (D0 0 1) (A1 (mv_ ?_)))
 refine A2 (D5 rfl) rfl ?_
 refine A2 (qf_ 4 4) rfl ?_
 refine A2 (G7 rfl kR (mA hkb) qR) rfl ?_
 refine A2 (E9 (sz := 3) (a := 0) rfl rfl kR rfl hK.signed (by rw [hsg]; simp)) rfl ?_
 refine A2 (T7 rfl kR (hK.signed.mono qS) (hK.signedR.lens prT) qD hr0) rfl ?_
 refine A4 rfl (D3 (cs := [.int .u32 0, vS, vS]) kR rfl fun b5 => ?_)
 refine A4 rfl (C0 (vs := [(vU x.n), vs_, vg_]) rfl rfl rfl kR qR (A3 rfl (A3 hs_.one (A3 hg_.one I5))) UpC.upd ?_)
 refine A0 (E7 0 1 5) ?_
 refine E5 (MP) (_) true (.range 17) [(0, 0), (1, 0), (2, 0), (3, 1), (4, 0), (5, 0), (7, 0), (8, 1), (9, 0), (10, 0), (11, 1), (13, 0), (14, 1), (6, 3), (12, 3), (15, 3), (16, 4), (17, 2)] kR kR qP fun hs K n0 hKm hKs hKn => ?_
 refine km_ hs ?_
 refine E4 hs rfl (D5 rfl) rfl ?_
 refine E4 hs rfl (qf_ 0 0) rfl ?_
 refine I2 hs rfl hKs (A3k (n := 2) rfl kR (mA hkb) TakeC.take) ?_
 refine km_ hs ?_
 refine km_ hs ?_
 refine E4 hs rfl (qf_ 0 0) rfl ?_
 refine I2 hs rfl hKs ql_ ?_
 refine km_ hs ?_
 refine E4 hs rfl (qf_ 1 1) rfl ?_
 refine I2 hs rfl hKs ql_ ?_
 refine E4 hs rfl (qf_ 2 2) rfl ?_
 refine I2 hs rfl hKs ql_ ?_
 refine S2 [⟨6, 25, none, MP, fun v B R => Prm pb (idS k s) B ∧ ∃ p q, v = .agg #[p, q] ∧ By R p (idA k s) ∧ By R q (idG k s)⟩, ⟨12, 31, some 6, [], fun v B R => Prm pb (H5 (idS k s) x.sec) B ∧ By R v (I9 (idS k s) x.sec)⟩, ⟨15, 34, none, [], fun v B R => B = [] ∧ ∃ p q u, v = .agg #[.int .i64 k.user, .int .i64 k.dev, p, q, (vU x.n), u, vg_, .bool false, (vU 0), vS] ∧ By R p (idA k s) ∧ By R q (idG k s) ∧ By R u (I9 (idS k s) x.sec)⟩, ⟨16, 6, none, [], fun v B _ => ∃ b, v = (vP b) ∧ B = [(b, blk [.int .i64 0, .int .i64 0, vS, vS, .int .u32 0, vS, vS, .bool false, .int .u32 0, vS] 59)]⟩] (_) (fun bs => [bs 12, bs 15, bs 16]) (hKn rfl) (List.Perm.refl _) (show ∀ m ∈ ([MP, [], []] : List Mem), ∀ x ∈ m, K x.1 from A3 (hKm) (A3 (fun _ h => by cases h) (A3 (fun _ h => by cases h) (I5)))) kR (fun _ => by first | rfl | kernel_rfl)
  (A3 (fun _ _ _ _ h ⟨p1, p, q, e, p2, p3⟩ => ⟨p1, p, q, e, p2.mono h, p3.mono h⟩) (A3 (fun _ _ _ _ h ⟨p1, p2⟩ => ⟨p1, p2.mono h⟩) (A3 (fun _ _ _ _ h ⟨p1, p, q, u, e, p2, p3, p4⟩ => ⟨p1, p, q, u, e, p2.mono h, p3.mono h, p4.mono h⟩) (A3 (fun _ _ _ _ h hp => hp) (I5))))) (show List.Nodup [25, 31, 34, 6] by decide) (show List.Nodup [6, 12, 15, 16] by decide) (A3 (D6 rfl) (A3 (D6 rfl) (A3 (D6 rfl) (A3 (D6 rfl) (I5)))))
  (A3 ⟨_, rfl, fun vs bs R Rj wG hb hj hjr ha => ⟨.inl rfl, ?_⟩⟩ (A3 ⟨_, rfl, fun vs bs R Rj wG hb hj hjr ha => ⟨.inl rfl, ?_⟩⟩ (A3 ⟨_, rfl, fun vs bs R Rj wG hb hj hjr ha => ⟨.inl rfl, ?_⟩⟩ (A3 ⟨_, rfl, fun vs bs R Rj wG hb hj hjr ha => ⟨.inl rfl, ?_⟩⟩ (I5))))) ?_
 ·
  dsimp only [Gc.inp]
  refine A9 (Mc := MP) (R := []) (aS rfl (aS rfl (a0))) kR qM (A3A pb s kb k va vg vq vo vm rs ro rm MP _ (hK.mono (fun x hx => by have := hb x (by simp [hx]); simp [this])) hP qO (hG.sub (fun x hx => by have := hb x (by simp [hx]); simp [this]))) rfl ?_
  rintro v25 M25 J25 ⟨hP25, p, q, rfl, hp, hq⟩
  exact ⟨_, rfl, by simpa using hP25, p, q, rfl, hp.mono fun x hx => by simp [hx], hq.mono fun x hx => by simp [hx]⟩
 ·
  dsimp only [Gc.inp]
  have g6 := ha _ (List.mem_of_getElem? (i := 0) rfl) kR
  replace g6 : (fun v B R => Prm pb (idS k s) B ∧ ∃ p q, v = .agg #[p, q] ∧ By R p (idA k s) ∧ By R q (idG k s)) (vs 6) (bs 6) Rj := g6
  dsimp only at g6
  obtain ⟨hP25, -⟩ := g6
  refine A9 (Mc := bs 6) (R := []) (aS rfl (aS rfl (a0))) kR qM (X1 pb (idS k s) vs_ x.sec (bs 6) _ hP25 qO (hs_.mono (fun x hx => by have := hb x (by simp [hx]); simp [this])) (hG.sub (fun x hx => by have := hb x (by simp [hx]); simp [this]))) rfl ?_
  rintro v31 M31 J31 ⟨hP31, h31⟩
  exact ⟨_, rfl, by simpa using hP31, h31.mono fun x hx => by simp [hx]⟩
 ·
  dsimp only [Gc.inp]
  have g6 := ha _ (List.mem_of_getElem? (i := 0) rfl) kR
  replace g6 : (fun v B R => Prm pb (idS k s) B ∧ ∃ p q, v = .agg #[p, q] ∧ By R p (idA k s) ∧ By R q (idG k s)) (vs 6) (bs 6) Rj := g6
  dsimp only at g6
  have g12 := ha _ (List.mem_of_getElem? (i := 1) rfl) kR
  replace g12 : (fun v B R => Prm pb (H5 (idS k s) x.sec) B ∧ By R v (I9 (idS k s) x.sec)) (vs 12) (bs 12) Rj := g12
  dsimp only at g12
  obtain ⟨-, h31⟩ := g12
  obtain ⟨-, p, q, e25, hp, hq⟩ := g6
  haveI := h31.cel
  haveI := hp.cel
  haveI := hq.cel
  dsimp only [L9, List.map, List.cons_append, List.nil_append]
  rw [e25]
  exact OpQ.opL (D2 (place := fun x => #[(0, 2), (2, 2), (4, 1), (5, 1), (6, 1), (7, 1), (8, 1), (9, 1)][x]?) (z := [F9, F9, vS, vS, E8, vS, vS, .bool false, E8, vS]) (fun _ => by kernel_rfl) (eS rfl (eS rfl (eS rfl (eS rfl (eS rfl e0))))) (bdS 0 2 rfl qR (bdS 2 2 rfl qR (bdS 4 1 rfl qR (bdS 5 1 rfl qR (bdS 6 1 rfl qR bd0)))))) rfl ⟨_, rfl, rfl, p, q, _, rfl, hp, hq, h31⟩
 ·
  dsimp only [Gc.inp]
  exact D3 (cs := [F9, F9, vS, vS, E8, vS, vS, .bool false, E8, vS]) kR rfl fun b => ⟨_, rfl, b, rfl, rfl⟩
 intro vs bs Jn0 hφ hKK
 have kk6 := hKK _ (List.mem_of_getElem? (i := 0) rfl)
 dsimp only at kk6
 have kk12 := hKK _ (List.mem_of_getElem? (i := 1) rfl)
 dsimp only at kk12
 have kk15 := hKK _ (List.mem_of_getElem? (i := 2) rfl)
 dsimp only at kk15
 have kk16 := hKK _ (List.mem_of_getElem? (i := 3) rfl)
 dsimp only at kk16
 clear hKK
 have g6 := ofH hφ
 dsimp only at g6
 replace hφ := ofT hφ
 have g12 := ofH hφ
 dsimp only at g12
 replace hφ := ofT hφ
 have g15 := ofH hφ
 dsimp only at g15
 replace hφ := ofT hφ
 have g16 := ofH hφ
 dsimp only at g16
 clear hφ
 dsimp only [L9, S1, List.foldr, List.map, List.cons_append, List.nil_append]
 generalize bs 6 = B25 at *
 generalize bs 12 = B31 at *
 generalize bs 15 = B34 at *
 generalize bs 16 = B6 at *
 generalize vs 6 = u25 at *
 generalize vs 12 = u31 at *
 generalize vs 15 = u34 at *
 generalize vs 16 = u6 at *
 obtain ⟨hP31, h31⟩ := g12
 clear g6
 obtain ⟨b6, rfl, rfl⟩ := g16
 obtain ⟨rfl, p, q, u, rfl, hp, hq, hu⟩ := g15
 haveI := hp.cel
 haveI := hq.cel
 haveI := hu.cel
 obtain ⟨bb, hbb⟩ : ∃ bb, B0a k x s = bb := ⟨_, rfl⟩
 obtain ⟨s2, hs2⟩ : ∃ s2, H5 (idS k s) x.sec = s2 := ⟨_, rfl⟩
 rw [hs2] at hP31
 have hs2l : s2.ts.length ≤ s.ts.length + 6 := by have := M3 (idS k s) x.sec; rw [hs2] at this; omega
 have hbun : A1f k s = A1r bb k.once s2 k.once.length := by unfold A1f; rw [hsg, ← hbb, ← hs2]
 rw [hbun]
 have hbr : ∀ R, (∀ y, y ∈ Jn0 ++ [] ++ A → y ∈ R) → bnR R bb [.int .i64 k.user, .int .i64 k.dev, p, q, (vU x.n), u, vg_, .bool false, (vU 0), vS] := fun R hR => ⟨p, q, u, vg_, _, by rw [← hbb]; rfl, by rw [← hbb]; exact hp.mono hR, by rw [← hbb]; exact hq.mono hR, by rw [← hbb]; exact hu.mono hR, by rw [← hbb]; exact hg_.mono fun y hy => hR y (List.mem_append_right _ hy), by rw [← hbb]; exact By.nil, by rw [← hbb]; exact hxn, by rw [← hbb]; show 0 < 4294967296; decide⟩
 refine I6 rfl rfl rfl (C0 (vs := [.int .i64 k.user, .int .i64 k.dev, p, q, (vU x.n), u, vg_, .bool false, (vU 0), vS]) rfl rfl rfl kR qR (A3 rfl (A3 rfl (A3 hp.one (A3 hq.one (A3 rfl (A3 hu.one (A3 hg_.one al3))))))) UpC.upd ?_)
 refine H7 (E7 0 1 6) ?_
 refine A07 (B := [(b6, blk [.int .i64 k.user, .int .i64 k.dev, p, q, (vU x.n), u, vg_, .bool false, (vU 0), vS] 59)]) qP ?_
 refine A1 ?_
 refine A2 (qw_ 10) rfl ?_
 refine A4 rfl (C3 (e := 59) (sz := 10) (z := [F9, F9, vS, vS, E8, vS, vS, .bool false, E8, vS]) kR (eS rfl e0) (bdS 0 10 rfl qR bd0) rfl fun b36 => ?_)
 refine as_ (A0 (F8 0 1 6 7) (A7 (A1 (mv_ ?_))))
 refine A2 (D5 rfl) rfl ?_
 refine A2 (qf_ 5 5) rfl ?_
 refine A2 (G7 rfl kR (mA hkb) qR) rfl ?_
 refine A2 (E1 (sz := 3) rfl kR hK.once) rfl ?_
 refine mv_ (A0 (L1 1 6 7 40 41 42) (C6 ?_))
 refine H0 (α := Nat × (Value × List (List Value) × Mem) × Mem × Mem) (fun y => [(1, .pointer (some ⟨pb.1, 0, none⟩)), (6, (vP b6)), (7, y.2.1.1), (40, vo), (41, (vI k.once.length)), (42, (vI y.1))]) (fun y => y.2.1.2.2 ++ y.2.2.1) (fun y => y.2.2.2) (fun y => y.1 ≤ k.once.length ∧ Sl 10 y.2.1.1 (y.1 + 1) y.2.1.2.1.flatten y.2.1.2.2 ∧ RwL bnR (y.2.2.2 ++ A) y.2.1.2.1 (A1r bb k.once s2 y.1).1 ∧ Prm pb (A1r bb k.once s2 y.1).2 y.2.2.1 ∧ (b6, blk [.int .i64 k.user, .int .i64 k.dev, p, q, (vU x.n), u, vg_, .bool false, (vU 0), vS] 59) ∈ y.2.2.2 ∧ ∀ z, z ∈ Jn0 ++ [] ++ A → z ∈ y.2.2.2 ++ A) (fun y => k.once.length - y.1) (0, (.slice (some ⟨b36, 0, none⟩) 1 1, [[.int .i64 k.user, .int .i64 k.dev, p, q, (vU x.n), u, vg_, .bool false, (vU 0), vS]], [(b36, _)]), B31, _) ⟨Nat.zero_le _, Sl.fresh (n := 1) (cs := [.int .i64 k.user, .int .i64 k.dev, p, q, (vU x.n), u, vg_, .bool false, (vU 0), vS]) (e := 59) rfl qD, RwL.cons (hbr _ qS) RwL.nil, hP31, by simp, qS⟩ (L1 1 6 7 40 41 42) (Fit.pick (B := [_]) qP (Fit.last qP)) qI ?_
 rintro ⟨i, ⟨vi, ri, Bi⟩, MPi, Ji⟩ ⟨hi, hsi, hri, hPi, hJb, hJn⟩
 dsimp only at hi hsi hri hPi hJb hJn ⊢
 haveI := hsi.cel
 have hbl := A0g (b := bb) (s := s2) hi
 refine A1 ?_
 refine A2 (F1 rfl rfl rfl) rfl ?_
 refine A0 (V0 1 6 7 40 41 42 43) (A7 ?_)
 refine C4 rfl ?_ ?_ <;> intro hc
 ·
  have hlt : i < k.once.length := by simp at hc; omega
  obtain ⟨o, ho⟩ : ∃ o, k.once[i]? = some o := ⟨_, List.getElem?_eq_getElem hlt⟩
  obtain ⟨r1, hr1, vo1, vo2, rfl, ho1, ho2, hon⟩ := hK.onceR.get i o ho
  haveI := ho1.cel
  haveI := ho2.cel
  have hbs := A0f (b := bb) (s := s2) ho
  refine A5 (nx (L1 1 6 7 40 41 42) (A7 (C6 (A1 ?_))))
  refine A2 (E9 (sz := 3) rfl rfl kR rfl hK.once hlt) rfl ?_
  refine A2 (T7 rfl kR (hK.once.mono qS) (hK.onceR.lens prT) qD hr1) rfl ?_
  refine A4 rfl (D3 (cs := [.int .u32 0, vS, vS]) kR rfl fun b9 => ?_)
  refine A4 rfl (C0 (vs := [(vU o.n), vo1, vo2]) rfl rfl rfl kR qR (A3 rfl (A3 ho1.one (A3 ho2.one I5))) UpC.upd ?_)
  refine A0 (V0 1 6 7 9 40 41 42) (A1 ?_)
  refine A2 (U3 (n := 10) rfl kR (List.mem_append_right _ (List.mem_append_left _ hJb)) qR) rfl ?_
  refine A4 rfl (D3 (cs := [F9, F9, vS, vS, E8, vS, vS, .bool false, E8, vS]) kR rfl fun b10 => ?_)
  refine A4 rfl (C0 (vs := [.int .i64 k.user, .int .i64 k.dev, p, q, (vU x.n), u, vg_, .bool false, (vU 0), vS]) rfl rfl rfl kR qR (A3 rfl (A3 rfl (A3 hp.one (A3 hq.one (A3 rfl (A3 hu.one (A3 hg_.one al3))))))) UpC.upd ?_)
  refine A0 (A4H 1 6 7 9 10 40 41 42) ?_
  refine E5 (MPi ++ [(b10, blk [.int .i64 k.user, .int .i64 k.dev, p, q, (vU x.n), u, vg_, .bool false, (vU 0), vS] 59)]) (_) true [0, 1, 2, 3, 4, 5, 6, 7, 8, 10] [(0, 0), (1, 1), (2, 0), (3, 0), (4, 1), (6, 0), (5, 2), (7, 2), (8, 0), (9, 2), (10, 0), (11, 2)] kR kR qP fun hs K n0 hKm hKs hKn => ?_
  refine E4 hs rfl (qf_ 0 0) rfl ?_
  refine I2 hs rfl hKs ql_ ?_
  refine km_ hs ?_
  refine E4 hs rfl (qf_ 1 1) rfl ?_
  refine I2 hs rfl hKs ql_ ?_
  refine E4 hs rfl (qf_ 7 7) rfl ?_
  refine F7 MPi _ rfl rfl qP (fun y hy => hKm y (by simp [hy])) fun w0 => (A9 (Mc := MPi) (R := _) (aS rfl (aS rfl (a0))) kR qP (X1 pb _ vo1 o.sec MPi _ hPi qO (ho1.mono qS) hG.up) rfl ?_)
  rintro v52 M52 J52 ⟨hP52, h52⟩ hKx52
  haveI := h52.cel
  refine F7 [(b10, blk [.int .i64 k.user, .int .i64 k.dev, p, q, (vU x.n), u, vg_, .bool false, (vU 0), vS] 59)] _ rfl rfl qP (fun y hy => hKm y (by simp at hy; simp [hy])) fun w0 => (F3 rfl rfl rfl kR SetC.set UpC.upd ?_)
  intro hkS
  dsimp only [List.cons_append, List.nil_append, List.append_eq]
  refine E4 hs rfl (qf_ 8 8) rfl ?_
  refine I6 rfl rfl rfl (F3 rfl rfl rfl kR SetC.set UpC.upd ?_)
  refine E4 hs rfl (qf_ 9 9) rfl ?_
  refine I6 rfl rfl rfl (F3 rfl rfl h52.one kR SetC.set UpC.upd ?_)
  refine H7 (V0 1 6 7 10 40 41 42) (D1 (mv_ ?_))
  refine A2 (qw_ 10) rfl ?_
  refine A4 rfl (C3 (e := 59) (sz := 10) (z := [F9, F9, vS, vS, E8, vS, vS, .bool false, E8, vS]) kR (eS rfl e0) (bdS 0 10 rfl qR bd0) rfl fun b58 => ?_)
  refine A4 rfl (G1 (e := 59) (sz := 10) (by_ := 152) rfl rfl kR rfl hsi (Rd.whole (n := 1) At.mem qR) (A3 rfl (A3 rfl (A3 hp.one (A3 hq.one (A3 rfl (A3 hu.one (A3 hg_.one (A3 rfl (A3 rfl (A3 h52.one I5)))))))))) qP (by unfold maxLen; omega) qO rfl fun v59 B59 hs59 => ?_)
  refine as_ (E3 (nb (nx (L1 1 6 7 40 41 42) (D1 ?_))))
  refine A2 (Z5 ((i + 1 : Nat) : Int) rfl rfl (A1o qO qO qO)) rfl ?_
  refine mv_ (E3 ?_)
  exact rn (i + 1, (v59, ri ++ [[.int .i64 k.user, .int .i64 k.dev, p, q, (vU x.n), u, vg_, .bool true, (vU o.n), v52]], B59), M52, _) ⟨by dsimp only; omega, by simpa using hs59, by dsimp only; rw [hbs]; exact (hri.mono bnT qS).snoc ⟨p, q, u, vg_, v52, by rw [← hbb]; rfl, by rw [← hbb]; exact hp.mono fun z hz => qS z (hJn z hz), by rw [← hbb]; exact hq.mono fun z hz => qS z (hJn z hz), by rw [← hbb]; exact hu.mono fun z hz => qS z (hJn z hz), by rw [← hbb]; exact hg_.mono qS, h52.mono qS, by rw [← hbb]; exact hxn, hon⟩, by dsimp only; rw [hbs]; exact hP52, List.mem_append_right _ hJb, fun z hz => qS z (hJn z hz)⟩ (by dsimp only; omega) (L1 1 6 7 40 41 42) (Fit.pick qP (Fit.last qP)) qI
 ·
  have hge : i = k.once.length := by simp at hc; omega
  subst hge
  refine G6 (te (re (be rfl (nx (C8 7) (A1 (mv_ (as_ (A0 (C8 4) ?_))))))))
  refine A6 ?_
  exact ⟨_, MPi, Bi, F4 rfl rfl, Fit.pick qP (Fit.last qP), hPi, ri, by rw [hbl.1]; exact hsi.rd fun x hx => by simp [hx], hri.mono bnT qS⟩

end Go.Proofs.YtoameenjkiaefaaGreatDoor
namespace Go.Px
def appZ (P : Program) (t tn : TypeId) : Option (TypeId × List Value × Nat) :=
  match P.underlying tn with
  | some (.int _) => match P.underlying t with
    | some (.slice e) => match P.info? e with
      | some i => match i.zero with
        | some z => if i.size = z.cells.size ∧ 0 < i.size then some (e, z.cells.toList, i.bytes) else none
        | none => none
      | none => none
    | _ => none
  | _ => none
section z
variable {C : Cx} {l : Env} {M J : Mem} {K : Env → Mem → Mem → Prop} {d : Nat} {ty t tn e : TypeId} {pos : String} {af : Array Edge} {g : Option (Nat × Bool)} {x y : Operand}
end z
end Go.Px

namespace Go.Proofs.YtoameenjkiaefaaGreatDoor
open Go.Px
def useK (k : Ks) (n : Nat) : Ks := { k with once := k.once.filter fun x => !A96 n x }
def meetK (k : Ks) (n : Nat) (w : LN) : Ks := if (B3w k.signed n).isSome && !decide (0 ≤ A19 (tstN n w) k.met) then { k with met := k.met ++ [⟨n, w⟩] } else k
def secL (k : Ks) : List (LN) := k.agree :: k.sign :: (k.signed ++ k.once).map (·.sec)

def snN (k : Ks) : LN := k.signed.map (·.n)
def onN (k : Ks) : LN := k.once.map (·.n)
theorem A2W {b : Bn} {l : List Pr} {s : Ps} : ∀ {i : Nat}, i ≤ l.length → (A1r b l s i).1[0]? = some b
  | 0, _ => rfl
  | i + 1, h => by
    rw [A0f (List.getElem?_eq_getElem qO)]
    have h1 := (A0g (b := b) (s := s) (l := l) (i := i) qO).1
    show (_ ++ _)[0]? = _
    rw [List.getElem?_append_left qO]
    exact A2W qO
theorem A4p {b : Bn} {l : List Pr} {s : Ps} {j : Nat} {o : Pr} (ho : l[j]? = some o) : ∀ {i : Nat}, i ≤ l.length → j < i → (A1r b l s i).1[j + 1]? = some { b with has := true, once := o.n, oncek := I9 (A1r b l s j).2 o.sec }
  | 0, _, hj => by omega
  | i + 1, h, hj => by
    obtain ⟨x, hx⟩ : ∃ x, l[i]? = some x := ⟨_, List.getElem?_eq_getElem qO⟩
    rw [A0f hx]
    have h1 := (A0g (b := b) (s := s) (l := l) (i := i) qO).1
    show (_ ++ _)[j + 1]? = _
    by_cases e : j = i
    · subst e
      rw [hx] at ho
      cases ho
      rw [List.getElem?_append_right qO, h1, Nat.sub_self]; rfl
    · rw [List.getElem?_append_left qO]
      exact A4p ho qO qO
theorem A47 {k : Ks} {s : Ps} {x : Pr} {sl : List Pr} (h : k.signed = x :: sl) : (A1f k s).1.length = k.once.length + 1 ∧ (A1f k s).1[0]? = some (B0a k x s) ∧ (∀ (j : Nat) (o : Pr), k.once[j]? = some o → (A1f k s).1[j + 1]? = some { B0a k x s with has := true, once := o.n, oncek := I9 (A1r (B0a k x s) k.once (H5 (idS k s) x.sec) j).2 o.sec }) ∧ (A1f k s).2.ts.length ≤ s.ts.length + 6 + 2 * k.once.length := by
  have e : A1f k s = A1r (B0a k x s) k.once (H5 (idS k s) x.sec) k.once.length := by unfold A1f; rw [h]
  rw [e]
  have h1 := A0g (b := B0a k x s) (s := H5 (idS k s) x.sec) (l := k.once) (Nat.le_refl _)
  have h2 := A1e k s
  have h3 := M3 (idS k s) x.sec
  exact ⟨h1.1, A2W (Nat.le_refl _), fun j o ho => A4p ho (Nat.le_refl _) (List.getElem?_eq_some_iff.1 ho).1, by omega⟩

def Fr (s : Ps) (w : LN) (i : Nat) : Prop := if s.real then w = B0X s.seed i else ∃ j, s.ts[j]? = some (A8T i) ∧ w = bts ((j : Nat) : Int)
theorem Fr.ext {s s' : Ps} {w : LN} {i : Nat} (h : Fr s w i) (he : Ext s s') : Fr s' w i := by
  unfold Fr at h ⊢
  rw [he.p.real]
  obtain ⟨l, e⟩ := he.p.ts
  split
  · rename_i hr; rw [if_pos hr] at h; rw [he.seed]; exact h
  · rename_i hr
    rw [if_neg hr] at h
    obtain ⟨j, h1, h2⟩ := h
    exact ⟨j, by rw [e]; exact A1G h1, h2⟩
theorem B3x {s : Ps} {w w' : LN} {i i' : Nat} (h : Fr s w i) (h' : Fr s w' i') (hi : i ≠ i') (hl : s.ts.length ≤ 1048576) (hk : s.real = true → B0X s.seed i ≠ B0X s.seed i') : w ≠ w' := by
  unfold Fr at h h'
  split at h
  · rename_i hr
    rw [if_pos hr] at h'
    rw [h, h']
    exact hk hr
  · rename_i hr
    rw [if_neg hr] at h'
    obtain ⟨j, h1, rfl⟩ := h
    obtain ⟨j', h2, rfl⟩ := h'
    intro e
    have b1 := (List.getElem?_eq_some_iff.1 h1).1
    have b2 := (List.getElem?_eq_some_iff.1 h2).1
    have e2 := A6i qO qO e
    subst e2
    rw [h1] at h2
    have e3 := Option.some.inj h2
    unfold A8T at e3
    injection e3 with a1 a2 a3 a4
    exact hi qO
structure Sok (L : List (LN)) (s : Ps) : Prop where
  nd : L.Nodup
  fr : ∀ w ∈ L, ∃ i, i ≤ s.n ∧ Fr s w i
theorem Sok.nil {s : Ps} : Sok [] s := ⟨List.nodup_nil, fun w h => by cases h⟩
theorem Sok.ext {L : List (LN)} {s s' : Ps} (h : Sok L s) (he : Ext s s') : Sok L s' := ⟨h.nd, fun w hw => by
  obtain ⟨i, h1, h2⟩ := h.fr w hw
  exact ⟨i, Nat.le_trans h1 he.n, h2.ext he⟩⟩
theorem Sok.sub {L L' : List (LN)} {s : Ps} (h : Sok L s) (hs : L'.Sublist L) : Sok L' s := ⟨h.nd.sublist hs, fun w hw => h.fr w (hs.subset hw)⟩
theorem Sok.perm {L L' : List (LN)} {s : Ps} (h : Sok L s) (hp : L.Perm L') : Sok L' s := ⟨hp.nodup_iff.1 h.nd, fun w hw => h.fr w (hp.mem_iff.2 hw)⟩
def B3y (seed : LN) (m : Nat) : Prop := ∀ i j, i ≤ m → j ≤ m → i ≠ j → B0X seed i ≠ B0X seed j
theorem Sok.add {L : List (LN)} {s s' : Ps} {w : LN} {m : Nat} (h : Sok L s) (he : Ext s s') (hw : Fr s' w (s.n + 1)) (hn : s.n + 1 ≤ s'.n) (hl : s'.ts.length ≤ 1048576) (hm : s.n + 1 ≤ m) (ha : s'.real = true → B3y s'.seed m) : Sok (w :: L) s' := by
  have h' := h.ext he
  refine ⟨List.nodup_cons.2 ⟨fun hm' => ?_, h.nd⟩, fun x hx => ?_⟩
  · obtain ⟨i, h1, h2⟩ := h.fr w hm'
    exact B3x hw (h2.ext he) (show s.n + 1 ≠ i by omega) hl (fun hr => ha hr _ _ hm qO qO) rfl
  · rcases List.mem_cons.1 hx with rfl | hx
    · exact ⟨_, hn, hw⟩
    · exact h'.fr x hx
structure BuI (k : Ks) (s : Ps) : Prop where
  tok : Tok s.ts
  ar : Ar s.ts
  ag : Kok s k.agree
  sg : Kok s k.sign
  signed : ∀ x ∈ k.signed, Kok s x.sec ∧ ∃ p, A2a s x.sec p ∧ A2M s k.sign (A6z x.n p) x.sig
  once : ∀ x ∈ k.once, Kok s x.sec
theorem BuI.ext {k : Ks} {s s' : Ps} (h : BuI k s) (he : Pext s s') (ht : Tok s'.ts) (ha : Ar s'.ts) : BuI k s' :=
  ⟨ht, ha, h.ag.ext he, h.sg.ext he, fun x hx => by
    obtain ⟨h1, p, h2, h3⟩ := h.signed x hx
    exact ⟨h1.ext he, p, h2.ext he, h3.ext he⟩, fun x hx => (h.once x hx).ext he⟩
theorem BuI.id {k : Ks} {s : Ps} (h : BuI k s) (hl : s.ts.length + 100 ≤ 1048576) : BuI k (idS k s) ∧ Pext s (idS k s) ∧ A2a (idS k s) k.agree (idA k s) ∧ B0Y (idS k s) k.sign (idG k s) := by
  have f1 := M3 s k.agree
  obtain ⟨p1, -, t1⟩ := A8X h.ag h.tok qO
  have e1 := (A8W s k.agree).p
  obtain ⟨-, p2, t2⟩ := A8X (h.sg.ext e1) t1 qO
  have e2 := (A8W (H5 s k.agree) k.sign).p
  have e : Pext s (idS k s) := e1.trans e2
  exact ⟨h.ext e t2 ((h.ar.pub _).pub _), e, p1.ext e2, p2⟩
end Go.Proofs.YtoameenjkiaefaaGreatDoor
namespace Go.Px
open Go
def arrT (P : Program) (t : TypeId) : Option (Nat × IntKind) := match P.underlying t with
  | some (.array n e) => match P.underlying e with
    | some (.int k) => if P2 P e = some 1 then some (n, k) else none
    | _ => none
  | _ => none
section
variable {P : Program} {R : Mem} {l : Env} {d : Option Nat} {ty t : TypeId} {pos : String} {af : Array Edge} {g : Option (Nat × Bool)} {x y : Operand} {k : IntKind}
end
end Go.Px

namespace Go.Px
def intT (P : Program) (t : TypeId) : Bool := match P.underlying t with
  | some (.int _) => true
  | _ => false
def twoT (P : Program) (t : TypeId) : Bool :=
  match P.underlying t with
  | some (.struct fs) => match fs.toList with
    | [f, g] => f.offset == 0 && g.offset == 1 && (f.name != "_") && (g.name != "_") && intT P f.type && intT P g.type && !P.stoodInHeld t && !P.eqGuardType P.depth t
    | _ => false
  | _ => false
section
variable {P : Program} {R : Mem} {l : Env} {d : Option Nat} {ty t t' : TypeId} {pos : String} {af : Array Edge} {g : Option (Nat × Bool)} {x y : Operand} {k : IntKind} {a b a' b' : Int}
variable {v u : Value} {xs : List Value} {n j sz off m : Nat} {R' : Mem}
def fldT (P : Program) (s : TypeId) (f off : Nat) : Bool := match P.underlying s with
  | some (.struct fs) => match fs[f]? with
    | some fd => fd.offset == off && U2 P fd.type
    | none => false
  | _ => false
end
end Go.Px

namespace Go.Proofs.YtoameenjkiaefaaGreatDoor
open Go.Px
def z32 : LN := List.replicate 32 0
def A0h : LN := [104, 101, 108, 108, 111]
theorem A78 : B256 A0h := ⟨by decide⟩
noncomputable def agS (s : Ps) : List (LN × LN) → Ps
  | [] => s
  | x :: r => agS (L4 s x.1 x.2) r
noncomputable def agK (s : Ps) : List (LN × LN) → List (LN)
  | [] => []
  | x :: r => A1q s x.1 x.2 :: agK (L4 s x.1 x.2) r
def seS (s : Ps) (l : List (LN)) : Ps := A3p s z32 l A0h 1
def seK (s : Ps) (l : List (LN)) : LN := (A4b s z32 l A0h 1).getD 0 []
theorem A6I : ∀ (l : List (LN × LN)) (s : Ps), (agS s l).ts.length ≤ s.ts.length + 3 * l.length ∧ (agS s l).n = s.n
  | [], s => ⟨Nat.le_refl _, rfl⟩
  | x :: r, s => by
    have h1 := A6I r (L4 s x.1 x.2)
    have h2 := U0 s x.1 x.2
    have h3 := A92 s x.1 x.2
    rw [List.length_cons]
    show (agS (L4 s x.1 x.2) r).ts.length ≤ _ ∧ (agS (L4 s x.1 x.2) r).n = _
    omega
theorem A6J : ∀ (l : List (LN × LN)) (s : Ps), (agK s l).length = l.length
  | [], s => rfl
  | x :: r, s => by show (_ :: agK _ r).length = _; rw [List.length_cons, A6J r, List.length_cons]
theorem Ar.ag : ∀ (l : List (LN × LN)) {s : Ps}, Ar s.ts → Ar (agS s l).ts
  | [], s, h => h
  | x :: r, s, h => Ar.ag r (h.agr x.1 x.2)
theorem B0b (s : Ps) (l : List (LN)) : (seS s l).ts.length ≤ s.ts.length + l.length + 2 ∧ (seS s l).n = s.n := by
  have h1 := A4f s z32 l A0h 1
  have h2 := (A08 s z32 l A0h 1).2.1
  unfold seS
  omega
inductive AgL (s : Ps) : List (LN × LN) → List (LN) → Prop
  | nil : AgL s [] []
  | cons {a b k : LN} {r : List (LN × LN)} {ks : List (LN)} (h : A2P s a b k) (t : AgL s r ks) : AgL s ((a, b) :: r) (k :: ks)
theorem AgL.ext {s s' : Ps} {l : List (LN × LN)} {ks : List (LN)} (h : AgL s l ks) (he : Pext s s') : AgL s' l ks := by
  induction h with
  | nil => exact .nil
  | cons h t ih => exact .cons (h.ext he) ih
theorem A9Z.rok {s : Ps} {a b k : LN} (h : A9Z s a b k) : A9N s.ts k := by
  obtain ⟨i, j, m, h1, h2, h3, h4, h5, h6⟩ := h
  exact ⟨m, (List.getElem?_eq_some_iff.1 h5).1, h6⟩
theorem AgL.rok {s : Ps} {l : List (LN × LN)} {ks : List (LN)} (h : AgL s l ks) (hr : s.real = false) : ∀ w ∈ ks, Rok s.ts w := by
  induction h with
  | nil => intro w hw; cases hw
  | cons h t ih =>
    intro w hw
    rcases List.mem_cons.1 hw with rfl | hw
    · exact ((A2P.f hr).1 h).rok.rok
    · exact ih w hw
abbrev Tri := LN × LN × LN
def tB (l : List Tri) : List (LN × LN) := l.map fun q => (q.1, q.2.2)
def tb (l : List Tri) : List (LN × LN) := l.map fun q => (q.1, q.2.1)
structure He where
  ia : LN
  ig : LN
  key : LN
  signed : Nat
  has : Bool
  once : Nat
noncomputable def stP (ka e : LN) (b : Bn) : List (LN × LN) := (ka, b.key) :: (e, b.ia) :: (e, b.key) :: if b.has then [(e, b.oncek)] else []
noncomputable def stA (ka : LN) (b : Bn) (s : Ps) : Ps := agS (D7 s) (stP ka (E0 s) b)
noncomputable def stL (ka : LN) (b : Bn) (s : Ps) : List (LN) := agK (D7 s) (stP ka (E0 s) b)
noncomputable def stI (k : Ks) (b : Bn) (s : Ps) : Ps := H5 (idS k (stA k.agree b s)) (E0 s)
noncomputable def stS (k : Ks) (b : Bn) (s : Ps) : Ps := seS (stI k b s) (stL k.agree b s)
noncomputable def stK (k : Ks) (b : Bn) (s : Ps) : LN := seK (stI k b s) (stL k.agree b s)
noncomputable def stH (k : Ks) (b : Bn) (s : Ps) : He := ⟨idA k (stA k.agree b s), idG k (stA k.agree b s), I9 (idS k (stA k.agree b s)) (E0 s), b.signed, b.has, if b.has then b.once else 0⟩
theorem B0c (ka e : LN) (b : Bn) : (stP ka e b).length ≤ 4 := by unfold stP; split <;> simp
theorem B0d (k : Ks) (b : Bn) (s : Ps) : (stA k.agree b s).ts.length ≤ s.ts.length + 13 ∧ (stI k b s).ts.length ≤ s.ts.length + 19 ∧ (stS k b s).ts.length ≤ s.ts.length + 25 ∧ (stS k b s).n = s.n + 1 ∧ (stL k.agree b s).length ≤ 4 := by
  have h1 := L3 s
  have h2 := A6I (stP k.agree (E0 s) b) (D7 s)
  have h3 := B0c k.agree (E0 s) b
  have h4 := A1e k (stA k.agree b s)
  have h5 := M3 (idS k (stA k.agree b s)) (E0 s)
  have h6 := B0b (stI k b s) (stL k.agree b s)
  have h7 := A6J (stP k.agree (E0 s) b) (D7 s)
  have h8 := A2e (idS k (stA k.agree b s)) (E0 s)
  have h9 : (idS k (stA k.agree b s)).n = (stA k.agree b s).n := by unfold idS; rw [A2e, A2e]
  have e1 : (stA k.agree b s).ts.length = (agS (D7 s) (stP k.agree (E0 s) b)).ts.length := rfl
  have e2 : (stA k.agree b s).n = (agS (D7 s) (stP k.agree (E0 s) b)).n := rfl
  have e3 : (stI k b s).ts.length = (H5 (idS k (stA k.agree b s)) (E0 s)).ts.length := rfl
  have e4 : (stI k b s).n = (H5 (idS k (stA k.agree b s)) (E0 s)).n := rfl
  have e5 : (stL k.agree b s).length = (agK (D7 s) (stP k.agree (E0 s) b)).length := rfl
  have e6 : (stS k b s).ts.length = (seS (stI k b s) (stL k.agree b s)).ts.length := rfl
  have e7 : (stS k b s).n = (seS (stI k b s) (stL k.agree b s)).n := rfl
  omega
def anP (ka sx : LN) (ox : Option (LN)) (h : He) : List (LN × LN) := (sx, h.ia) :: (ka, h.key) :: (sx, h.key) :: match ox with | none => [] | some o => [(o, h.key)]
noncomputable def anE (ka sx : LN) (ox : Option (LN)) (h : He) (s : Ps) : Option (LN × LN) × Ps := (some (seK (agS s (anP ka sx ox h)) (agK s (anP ka sx ox h)), sx), seS (agS s (anP ka sx ox h)) (agK s (anP ka sx ox h)))
noncomputable def anR (k : Ks) (h : He) (s : Ps) : Option (LN × LN) × Ps :=
  match B3w k.signed h.signed with
  | none => (none, s)
  | some sx => if h.has then match B3w k.once h.once with
      | none => (none, agS s (anP k.agree sx none h))
      | some o => anE k.agree sx (some o) h s
    else anE k.agree sx none h s
def prs (ka e kb xs : LN) (xo : Option (LN)) : List (LN × LN) := (ka, xs) :: (e, kb) :: (e, xs) :: match xo with | none => [] | some o => [(e, o)]
structure Agd (s : Ps) (ka e kb xs : LN) (xo : Option (LN)) (h : He) (sec : LN) : Prop where
  pia : A2a s ka h.ia
  pkey : A2a s e h.key
  ex : ∃ l, AgL s (prs ka e kb xs xo) l ∧ ∀ s', Pext s s' → Tok s'.ts → s'.ts.length ≤ 1048576 → seS s' l = s' ∧ seK s' l = sec
theorem Agd.ext {s s' : Ps} {ka e kb xs : LN} {xo : Option (LN)} {h : He} {sec : LN} (g : Agd s ka e kb xs xo h sec) (he : Pext s s') : Agd s' ka e kb xs xo h sec := by
  obtain ⟨l, h1, h2⟩ := g.ex
  exact ⟨g.pia.ext he, g.pkey.ext he, l, h1.ext he, fun s2 h3 => h2 s2 (he.trans h3)⟩
theorem T3 {n : Nat} (h : n < 18446744073709551616) : IntKind.u64.wrap (n : Int) = (n : Int) := A3O qO qO
theorem Z1 {n : Nat} (h : n < 4294967296) : IntKind.u32.wrap (n : Int) = (n : Int) := A7k qO qO
def u32N (x : Int) : Nat := (x % 4294967296).toNat
theorem A2f (x : Int) : u32N x < 4294967296 := by unfold u32N; omega
theorem A1g (x : Int) : IntKind.u32.wrap x = ((u32N x : Nat) : Int) := by
  unfold u32N IntKind.wrap
  simp [IntKind.signed, IntKind.bits]
  omega
def u64N (x : Int) : Nat := (x % 18446744073709551616).toNat

theorem A2X (x : Int) : IntKind.u64.wrap x = ((u64N x : Nat) : Int) := by
  unfold u64N IntKind.wrap
  simp [IntKind.signed, IntKind.bits]
  omega
theorem A6K (x : Int) : u64N x < 18446744073709551616 := by unfold u64N; omega
def wiN (u d : Int) (a g : LN) : LN := beN (u64N u) 4 ++ beN (u64N d) 4 ++ (beN a.length 4 ++ a) ++ (beN g.length 4 ++ g)
theorem B0e (u d : Int) (a g : LN) : (wiN u d a g).length = a.length + g.length + 16 := by simp [wiN, F2]; omega
theorem B1Q {s : Ps} {l : List (LN)} : (A4b s z32 l A0h 1) = [seK s l] := by
  have h := A9W s z32 l A0h 1
  unfold seK
  match h2 : A4b s z32 l A0h 1, h with
  | [x], _ => rfl
theorem B1R (A : Mem) : FnX Tryz.prog 150 [] [] A fun q M J => M = [] ∧ By J q z32 := by
 refine FnX.enterZ (N := 2) Tryz.func150 rfl rfl rfl fun w_ => ?_
 refine A8 kn (A1 (as_ (A0 kn (A1 ?_))))
 refine A4 rfl (A3j (by_ := 1) (k := .u8) (e := 5) 32 rfl rfl kR rfl rfl qD qD rfl fun b1 => ?_)
 refine as_ (A0 (C8 0) (A6 ?_))
 exact ⟨_, [], [(b1, blk (H6 .u8 z32) 5)], F4 rfl rfl, Fit.eq (by simp [z32]), rfl, ⟨Rd.whole (n := 32) qK qR, by decide, by decide⟩⟩
theorem A2Y (pb : Nat × Nat) (s : Ps) (lv : Value) (l : List (LN)) (MP A : Mem) (hP : Prm pb s MP) (hl : LsV A lv l) (hll : l.length ≤ 1000) (hn : s.ts.length ≤ 1040000) (hG : Glb A) : FnX Tryz.prog 113 [.pointer (some ⟨pb.1, 0, none⟩), lv] MP A fun q M J => Prm pb (seS s l) M ∧ By J q (seK s l) := by
 haveI := hl.cel
 refine FnX.enterZ (N := 16) Tryz.func113 rfl rfl rfl fun w_ => ?_
 refine A8 (D0 0 1) (A1 (as_ (A0 (D0 0 1) (A1 (mv_ ?_)))))
 refine F0 a0 kR (B1R _) rfl ?_
 rintro v7 M7 J7 ⟨rfl, h7⟩
 haveI := h7.cel
 refine mv_ ?_
 refine A4 rfl (A9 (Mc := MP) (R := _) (aS rfl (aS rfl (aS rfl (aS rfl (aS rfl a0))))) kR qP (Y8 pb s v7 lv z32 A0h l 1 MP _ hP (h7.mono qS) (hl.mono qS) hll A78 qD qD qD hn hG.up) rfl ?_)
 rintro v9 M9 J9 ⟨hP9, hL9⟩
 haveI := hL9.cel
 rw [B1Q] at hL9
 obtain ⟨us, hru, hul⟩ := hL9.ex
 change Rd J9 1 v9 1 us at hru
 obtain ⟨u, hu, hub⟩ := hul.at (show 0 < [seK s l].length from Nat.zero_lt_one)
 haveI := hub.cel
 change By J9 u (seK s l) at hub
 change Prm pb (seS s l) M9 at hP9
 refine as_ (A0 (C8 5) (A7 (A1 (mv_ ?_))))
 refine A2 (E1 (sz := 1) rfl kR hru) rfl ?_
 refine A2 (F6 false rfl rfl (eqF qD)) rfl ?_
 refine A0 (D0 5 12) ?_
 refine B8 rfl ?_
 refine A5 (nx (C8 5) (A1 (mv_ ?_)))
 refine A2 (E9 (sz := 1) (a := 0) rfl rfl kR rfl hru qD) rfl ?_
 refine A2 (N4 (u := u) (hru.mono qS) rfl kR hu) rfl ?_
 refine as_ (A0 (C8 4) (A6 ?_))
 exact ⟨_, M9, [], F4 rfl rfl, Fit.none (Fit.last qP), hP9, hub.mono qS⟩
def wiP (u d : Int) (a g : LN) (u' d' : Int) (a' g' : LN) : Nat → LN
  | 0 => []
  | 1 => wiN u d a g
  | _ => wiN u d a g ++ wiN u' d' a' g'
def B1S (u d : Int) (a g : LN) (u' d' : Int) (a' g' : LN) : LN := wiN u d a g ++ wiN u' d' a' g'
theorem B1T (fu fd tu td : Int) (va vg vb vh : Value) (a g b h : LN) (A : Mem) (ga : By A va a) (gg : By A vg g) (gb : By A vb b) (gh : By A vh h) (hl : a.length + g.length + b.length + h.length ≤ 1000000) : FnX Tryz.prog 63 [.agg #[.int .i64 fu, .int .i64 fd], .agg #[va, vg], .agg #[.int .i64 tu, .int .i64 td], .agg #[vb, vh]] [] A fun q M J => M = [] ∧ By J q (B1S fu fd a g tu td b h) := by
 haveI := ga.cel
 haveI := gg.cel
 haveI := gb.cel
 haveI := gh.cel
 refine FnX.enterZ (N := 48) Tryz.func63 rfl rfl rfl fun w_ => ?_
 refine A8 (F8 0 1 2 3) (A1 ?_)
 refine A4 rfl (bx_ fun b4 => ?_)
 refine A4 rfl (bx_ fun b5 => ?_)
 refine A4 rfl (bx_ fun b6 => ?_)
 refine A4 rfl (bx_ fun b7 => ?_)
 refine as_ (A0 (F8 4 5 6 7) (A1 ?_))
 refine A2 (D2 (place := fun x => #[(0, 1)][x]?) (z := [vS]) (fun _ => by kernel_rfl) e0 bd0) rfl ?_
 refine A4 rfl (bx_ fun b13 => ?_)
 refine as_ (A0 (H9 4 5 6 7 9) (A7 (A1 ?_)))
 refine A2 (qw_ 2) rfl ?_
 refine A2 (qw_ 2) rfl ?_
 refine A2 (D2 (place := fun x => #[(0, 2), (2, 2)][x]?) (z := [.int .i64 0, .int .i64 0, vS, vS]) (fun _ => by kernel_rfl) (eS rfl (eS rfl e0)) (bdS 0 2 rfl qR (bdS 2 2 rfl qR bd0))) rfl ?_
 refine A2 (qw_ 2) rfl ?_
 refine A2 (qw_ 2) rfl ?_
 refine A2 (D2 (place := fun x => #[(0, 2), (2, 2)][x]?) (z := [.int .i64 0, .int .i64 0, vS, vS]) (fun _ => by kernel_rfl) (eS rfl (eS rfl e0)) (bdS 0 2 rfl qR (bdS 2 2 rfl qR bd0))) rfl ?_
 refine A4 rfl (C3 (e := 189) (sz := 4) (z := [F9, F9, vS, vS, F9, F9, vS, vS]) kR (eS rfl (eS rfl e0)) (bdS 0 4 rfl qR (bdS 4 4 rfl qR bd0)) rfl fun b20 => ?_)
 refine A2 (A3M (e := 189) rfl kR) rfl ?_
 refine mv_ (A0 (F8 9 20 21 22) (C6 ?_))
 refine A07 (B := [(b20, blk [.int .i64 fu, .int .i64 fd, va, vg, .int .i64 tu, .int .i64 td, vb, vh] 189)]) qP ?_
 refine H0 (α := Nat × Mem) (fun y => [(9, (vP b13)), (20, .slice (some ⟨b20, 0, none⟩) 2 2), (21, .int .i64 2), (22, (vI y.1))]) (fun y => y.2) (fun _ => [(b20, blk [.int .i64 fu, .int .i64 fd, va, vg, .int .i64 tu, .int .i64 td, vb, vh] 189)]) (fun y => y.1 ≤ 2 ∧ Wtr b13 (wiP fu fd a g tu td b h y.1) y.2) (fun y => 2 - y.1) (0, [(b13, blk [vS] 97)]) ⟨Nat.zero_le _, Wtr.new⟩ (F8 9 20 21 22) (Fit.last qP) qS ?_
 rintro ⟨i, MW⟩ ⟨hi, hW⟩
 dsimp only at hi hW ⊢
 have hwl : (wiP fu fd a g tu td b h i).length ≤ 2000100 := by
  rcases (by omega : i = 0 ∨ i = 1 ∨ i = 2) with rfl | rfl | rfl <;> simp [wiP, B0e] <;> omega
 refine A1 ?_
 refine A2 (F1 rfl rfl rfl) rfl ?_
 refine A0 (H9 9 20 21 22 23) (A7 ?_)
 refine C4 rfl ?_ ?_ <;> intro hc
 ·
  have hlt : i < 2 := by simp at hc; omega
  obtain ⟨u, d, x, z, vx, vz, hr1, hx, hz, hlx, hP⟩ : ∃ u d x z vx vz, ([[.int .i64 fu, .int .i64 fd, va, vg], [.int .i64 tu, .int .i64 td, vb, vh]] : List (List Value))[i]? = some [.int .i64 u, .int .i64 d, vx, vz] ∧ By A vx x ∧ By A vz z ∧ x.length + z.length ≤ 1000000 ∧ wiP fu fd a g tu td b h (i + 1) = wiP fu fd a g tu td b h i ++ wiN u d x z := by
   rcases (by omega : i = 0 ∨ i = 1) with rfl | rfl
   · exact ⟨fu, fd, a, g, va, vg, rfl, ga, gg, by omega, rfl⟩
   · exact ⟨tu, td, b, h, vb, vh, rfl, gb, gh, by omega, rfl⟩
  haveI := hx.cel
  haveI := hz.cel
  have hu64 := A6K u
  have hd64 := A6K d
  refine A5 (nx (F8 9 20 21 22) (A7 (C6 (A1 ?_))))
  refine A2 (E9 (sz := 4) rfl rfl kR rfl (Rd.whole (n := 2) (R := [(b20, blk [.int .i64 fu, .int .i64 fd, va, vg, .int .i64 tu, .int .i64 td, vb, vh] 189)]) qK qR) hlt) rfl ?_
  refine A2 (T7 (rows := [[.int .i64 fu, .int .i64 fd, va, vg], [.int .i64 tu, .int .i64 td, vb, vh]]) rfl kR (Rd.whole (n := 2) At.mem qR) (by intro r hr; simp at hr; rcases hr with rfl | rfl <;> rfl) qD hr1) rfl ?_
  refine A4 rfl (D3 (cs := [.int .i64 0, .int .i64 0, vS, vS]) kR rfl fun b11 => ?_)
  refine A4 rfl (C0 (vs := [.int .i64 u, .int .i64 d, vx, vz]) rfl rfl rfl kR qR (A3 rfl (A3 rfl (A3 hx.one (A3 hz.one I5)))) UpC.upd ?_)
  refine A0 (H9 9 11 20 21 22) ?_
  refine Q0 (MW) (_) true (.range 19) [(0, 0), (1, 0), (2, 0), (3, 1), (4, 0), (6, 0), (7, 0), (8, 1), (9, 0), (11, 0), (12, 0), (13, 1), (15, 0), (16, 0), (17, 1), (5, 2), (10, 2), (14, 2), (18, 2)] kR kR qP fun hs K n0 hKm hKs hKn => ?_
  refine km_ hs ?_
  refine E4 hs rfl (qf_ 0 0) rfl ?_
  refine E4 hs rfl (qf_ 0 0) rfl ?_
  refine I2 hs rfl hKs ql_ ?_
  refine E4 hs rfl (U4 (k' := .u64) ((u64N u : Nat) : Int) rfl kR (A2X u)) rfl ?_
  refine E4 hs rfl (qf_ 0 0) rfl ?_
  refine E4 hs rfl (qf_ 1 1) rfl ?_
  refine I2 hs rfl hKs ql_ ?_
  refine E4 hs rfl (U4 (k' := .u64) ((u64N d : Nat) : Int) rfl kR (A2X d)) rfl ?_
  refine E4 hs rfl (qf_ 2 2) rfl ?_
  refine E4 hs rfl (qf_ 2 0) rfl ?_
  refine I2 hs rfl hKs ql_ ?_
  refine E4 hs rfl (qf_ 2 2) rfl ?_
  refine E4 hs rfl (qf_ 3 1) rfl ?_
  refine I2 hs rfl hKs ql_ ?_
  refine F7 _ _ rfl rfl (List.Perm.refl _) hKm fun w0 => (A9 (Mc := MW) (R := _) (aS rfl (aS rfl (aS rfl (a0)))) kR qP (I3 b13 (u64N u) 4 _ _ _ hW hu64 qD qO) rfl ?_)
  rintro v31 M31 J31 ⟨rfl, hW31⟩ hKx31
  refine F7 M31 _ rfl rfl qP (fun x hx => hKx31 (hKn rfl) x (by simpa using hx)) fun w0 => (A9 (Mc := M31) (R := _) (aS rfl (aS rfl (aS rfl (a0)))) kR qP (I3 b13 (u64N d) 4 _ _ _ hW31 hd64 qD (by first | (simp [F2]; done) | (simp [F2]; omega))) rfl ?_)
  rintro v36 M36 J36 ⟨rfl, hW36⟩ hKx36
  refine F7 M36 _ rfl rfl qP (fun x hx => hKx36 (hKn rfl) x (by simpa using hx)) fun w0 => (A9 (Mc := M36) (R := _) (aS rfl (aS rfl (a0))) kR qP (H3 b13 vx x _ _ _ hW36 (hx.mono qS) (by first | (simp [F2]; done) | (simp [F2]; omega))) rfl ?_)
  rintro v40 M40 J40 ⟨rfl, hW40⟩ hKx40
  refine F7 M40 _ rfl rfl qP (fun x hx => hKx40 (hKn rfl) x (by simpa using hx)) fun w0 => (A9 (Mc := M40) (R := _) (aS rfl (aS rfl (a0))) kR qP (H3 b13 vz z _ _ _ hW40 (hz.mono qS) (by first | (simp [F2]; done) | (simp [F2]; omega))) rfl ?_)
  rintro v44 M44 J44 ⟨rfl, hW44⟩ hKx44
  refine Z6 (nb (nx (F8 9 20 21 22) (D1 ?_)))
  refine A2 (Z5 ((i + 1 : Nat) : Int) rfl rfl (A1o qO qO qO)) rfl ?_
  refine mv_ (E3 ?_)
  exact rn (i + 1, M44) ⟨hlt, hW44.eq (by dsimp only; rw [hP]; simp [wiN, List.append_assoc])⟩ (by dsimp only; omega) (F8 9 20 21 22) (Fit.last qP) qS
 ·
  have hge : i = 2 := by simp at hc; omega
  subst hge
  refine G6 (te (re (be rfl (nx (C8 9) (A1 (mv_ ?_))))))
  refine A4 rfl (A9 (Mc := MW) (R := _) (aS rfl a0) kR qP (P1 b13 _ _ _ hW qO) rfl ?_)
  rintro v47 M47 J47 ⟨hW47, h47⟩
  haveI := h47.cel
  refine as_ (A0 (C8 8) (A6 ?_))
  exact ⟨_, [], [], F4 rfl rfl, qZ, rfl, h47.mono qS⟩
theorem A6L (pb : Nat × Nat) (s : Ps) (b : Bn) (va vg vk vs vo : Value) (MP A : Mem) (hP : Prm pb s MP) (hsub : ∀ x, x ∈ MP → x ∈ A) (har : Ar s.ts) (hn : s.ts.length ≤ 1048576) (ga : By A va b.ia) (gg : By A vg b.ig) (gk : By A vk b.key) (gs : By A vs b.sig) (go : By A vo b.oncek) (hsn : b.signed < 4294967296) (hG : Glb A) : FnV Tryz.prog 124 [.pointer (some ⟨pb.1, 0, none⟩), .agg #[.int .i64 b.user, .int .i64 b.dev, va, vg, (vU b.signed), vk, vs, .bool b.has, (vU b.once), vo]] A (.bool (decide (b.key.length = 32) && A8Y s b.ig (A6z b.signed b.key) b.sig)) := by
 haveI := ga.cel
 haveI := gg.cel
 haveI := gk.cel
 haveI := gs.cel
 haveI := go.cel
 have hgl := gk.len
 refine FnX.enter (N := 23) Tryz.func124 rfl rfl rfl fun w => ?_
 refine A8 (D0 0 1) (A1 ?_)
 refine A4 rfl (bx_ fun b3 => ?_)
 refine as_ (A0 (D0 0 3) ?_)
 refine F5 (.range 19) [(0, 0), (1, 1), (2, 0), (3, 0), (4, 0), (5, 0), (6, 0), (7, 0), (8, 1), (9, 0), (10, 1), (11, 0), (12, 1), (14, 0), (15, 1), (13, 2), (16, 2), (17, 0), (18, 0)] kR kR fun hs => ?_
 refine D9 hs rfl (qf_ 5 5) rfl ?_
 refine Q5 hs rfl ql_ rfl ?_
 refine D9 hs rfl (E1 (sz := 1) rfl kR gk.rd) rfl ?_
 refine D9 hs rfl (F6 (decide (b.key.length = 32)) rfl rfl (B2H _ 32)) rfl ?_
 refine fm_ hs ?_
 refine S9 (t := 9) rfl (fun hb => ?_) (fun hb => ?_)
 ·
  have hk32 : b.key.length = 32 := of_decide_eq_true hb
  refine H8 hs rfl rfl rfl rfl qm_ rfl ?_
  refine H8 hs rfl rfl rfl rfl (qf_ 2 2) rfl ?_
  refine H8 hs rfl rfl rfl rfl (qf_ 3 1) rfl ?_
  refine T6 hs rfl rfl rfl rfl ql_ rfl ?_
  refine H8 hs rfl rfl rfl rfl (qf_ 4 4) rfl ?_
  refine T6 hs rfl rfl rfl rfl ql_ rfl ?_
  refine H8 hs rfl rfl rfl rfl (qf_ 5 5) rfl ?_
  refine T6 hs rfl rfl rfl rfl ql_ rfl ?_
  refine H8 hs rfl rfl rfl rfl (qf_ 6 6) rfl ?_
  refine T6 hs rfl rfl rfl rfl ql_ rfl ?_
  refine A0F rfl rfl rfl rfl (aS rfl (aS rfl a0)) kR (A2Q b.signed vk b.key _ hsn (gk.mono qS) qO) rfl ?_
  rintro v18 M18 J18 ⟨rfl, h18⟩
  haveI := h18.cel
  refine A0T rfl rfl rfl rfl (aS rfl (aS rfl (aS rfl (aS rfl a0)))) kR (A7U pb s vg v18 vs b.ig (A6z b.signed b.key) b.sig MP _ hP (fun x hx => qS _ (hsub x hx)) har hn (gg.mono qS) (h18.mono qS) (gs.mono qS) hG.up) rfl ?_
  refine D9 hs rfl (D8 rfl rfl) rfl ?_
  refine fa_ hs ?_
  refine H4 (C8 4) (A6 ?_)
  exact ⟨_, [], [], F4 rfl rfl, List.nil_sublist _, by simp, by rw [hb, Bool.true_and], rfl, rfl⟩
 ·
  refine K3 hs ?_
  refine K3 hs ?_
  refine K3 hs ?_
  refine S4 hs ?_
  refine K3 hs ?_
  refine S4 hs ?_
  refine K3 hs ?_
  refine S4 hs ?_
  refine K3 hs ?_
  refine S4 hs ?_
  refine A9m hs rfl rfl rfl rfl rfl rfl ?_
  refine A9m hs rfl rfl rfl rfl rfl rfl ?_
  refine D9 hs rfl (C7 rfl rfl) rfl ?_
  refine fa_ hs ?_
  refine H4 (C8 4) (A6 ?_)
  exact ⟨_, [], [], F4 rfl rfl, List.nil_sublist _, by simp, by rw [hb, Bool.false_and], rfl, rfl⟩

end Go.Proofs.YtoameenjkiaefaaGreatDoor
