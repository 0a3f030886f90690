/- Part 17 of the texts of this claim, one behind the other. -/
import Derived.Test.YthbhpfefdnffaaaGreatDoorB16
set_option linter.unusedVariables false
set_option linter.unusedSimpArgs false
set_option maxRecDepth 100000
namespace Go.Proofs.YthbhpfefdnffaaaGreatDoor
open Go.Px
theorem P3 (s : Ps) (w : List Nat) : (I9 s w).ts.length ≤ s.ts.length + 2 := by
  unfold I9
  split
  · omega
  · have h1 := T5 (ts := s.ts) (ws := w)
    have h2 := A1q (ts := rdT s.ts w) (t := A9C ((rdI s.ts w : Nat) : Int))
    show (add (rdT s.ts w) _).length ≤ _
    omega
theorem A0T (s : Ps) (w : List Nat) : (I9 s w).n = s.n := by unfold I9; split <;> rfl
theorem B4e (s : Ps) (w m : List Nat) : (A5j s w m).ts.length ≤ s.ts.length + 2 := by
  unfold A5j
  split
  · omega
  · have h1 := T5 (ts := s.ts) (ws := w)
    have h2 := A1q (ts := rdT s.ts w) (t := A3P ((rdI s.ts w : Nat) : Int) m)
    show (add (rdT s.ts w) (A3P ((rdI s.ts w : Nat) : Int) m)).length ≤ _
    omega
theorem B9j (s : Ps) (w m : List Nat) : (A5j s w m).n = s.n := by unfold A5j; split <;> rfl
theorem A3K (s : Ps) (w : List Nat) : (N6 s w).length = 32 := by
  unfold N6
  split
  · exact A5h _ _
  · exact A0r _ (by decide)
noncomputable def B1H (k : Ks) (s : Ps) : Ps := A5j (I9 (D7 s) (E8 s)) k.sign (A5u k.next (N6 (D7 s) (E8 s)))
noncomputable def turnP (k : Ks) (s : Ps) : Pr := ⟨k.next, E8 s, B2k (I9 (D7 s) (E8 s)) k.sign (A5u k.next (N6 (D7 s) (E8 s)))⟩
def A9u (signed : List Pr) (x : Nm) : Bool := !decide (0 ≤ A1b (Z4 x.n) signed)
noncomputable def Z5 (k : Ks) (s : Ps) : Ks × Ps :=
  ({ k with signed := (turnP k s :: k.signed).take 2, next := k.next + 1, met := k.met.filter fun x => !A9u ((turnP k s :: k.signed).take 2) x }, B1H k s)
theorem B1I {l : List Pr} {rows : List (List Value)} {n b : Nat} {vi : Value} {A : Mem} (hR : RwL prR A rows l) (hvi : Cel vi [vi]) (hb : (b, blk [.int .u32 ((n : Nat) : Int), vi] 134) ∈ A) :
    ∀ (j : Nat) (r : List Value), rows[j]? = some r → FnV Tryz.prog 72 (.agg r.toArray :: [.pointer (some ⟨b, 0, none⟩)]) A (.bool ((fun j => (l[j]?.map (Z4 n)).getD false) j)) := fun j r hr => by
  obtain ⟨x, hx, vs, vg, rfl, hs, hg, _⟩ := hR.of hr
  dsimp only
  rw [hx]
  exact A7q vs vg vi x n b _ hs hg hvi hb
theorem B7s (kb b n : Nat) (c0 c1 c2 c3 vq c5 c6 c7 vi : Value) (sg : List Pr) (rs : List (List Value)) (A : Mem) (hb : (b, blk [.pointer (some ⟨kb, 0, none⟩)] 35) ∈ A) (hkb : (kb, blk [c0, c1, c2, c3, vq, c5, c6, c7] 114) ∈ A) (hvi : Cel vi [vi]) (hv : Rd A 3 vq sg.length rs.flatten) (hR : RwL prR A rs sg) (hl : sg.length ≤ 1000000) : FnV Tryz.prog 70 [.agg #[.int .u32 ((n : Nat) : Int), vi], .pointer (some ⟨b, 0, none⟩)] A (.bool (!decide (0 ≤ A1b (Z4 n) sg))) := by
 haveI := hv.cel
 refine FnX.enter (N := 11) Tryz.func70 rfl rfl rfl fun w => ?_
 refine C4 (D4 0 1) (A3 ?_)
 refine A6 rfl (bx_ fun b2 => ?_)
 refine as_ (A0 (D4 1 2) (A3 ?_))
 refine A4 (G8 rfl kR (mA hb) (by rfl)) rfl ?_
 refine A4 (F5 rfl) rfl ?_
 refine A4 (qf_ 4 4) rfl ?_
 refine A4 (G8 rfl kR (mA hkb) (by rfl)) rfl ?_
 refine A4 (A2S (aS rfl a0)) rfl ?_
 refine G1 (aS rfl (aS rfl a0)) kR (A5l vq rs 72 [.pointer (some ⟨b2, 0, none⟩)] (fun j => (sg[j]?.map (Z4 n)).getD false) _ (by rw [hR.len]; exact hv.mono SubC.sub) (hR.lens prT) (by rw [hR.len]; omega) kR (B1I (hR.mono prT SubC.sub) hvi At.mem)) rfl ?_
 rw [hR.len]
 refine A4 (W4 rfl) rfl ?_
 refine as_ (A0 (D5 3) (C2 ?_))
 exact ⟨_, [], [], I0 rfl rfl, List.nil_sublist _, by simp, rfl, rfl, rfl⟩
theorem B1J {l : List Nm} {rows : List (List Value)} {kb b : Nat} {c0 c1 c2 c3 vq c5 c6 c7 : Value} {sg : List Pr} {rs : List (List Value)} {A : Mem} (hL : RwL nmR A rows l) (hb : (b, blk [.pointer (some ⟨kb, 0, none⟩)] 35) ∈ A) (hkb : (kb, blk [c0, c1, c2, c3, vq, c5, c6, c7] 114) ∈ A) (hv : Rd A 3 vq sg.length rs.flatten) (hR : RwL prR A rs sg) (hl : sg.length ≤ 1000000) :
    ∀ (j : Nat) (r : List Value), rows[j]? = some r → FnV Tryz.prog 70 (.agg r.toArray :: [.pointer (some ⟨b, 0, none⟩)]) A (.bool ((fun j => (l[j]?.map (A9u sg)).getD false) j)) := fun j r hr => by
  obtain ⟨x, hx, vi, rfl, hi, _⟩ := hL.of hr
  dsimp only
  rw [hx]
  exact B7s kb b x.n c0 c1 c2 c3 vq c5 c6 c7 vi sg rs A hb hkb hi.cel hv hR hl
theorem B5s (kb pb : Nat) (k : Ks) (s : Ps) (MK MP A : Mem) (hK : Kys A kb k MK) (hP : Prm pb s MP) (hn : s.ts.length + 100 ≤ 1048576) (hk : s.n < 1000000000) (hnx : k.next + 100 < 4000000000) (hG : Glb A) : FnX Tryz.prog 24 [.pointer (some ⟨kb, 0, none⟩), .pointer (some ⟨pb, 0, none⟩)] (MK ++ MP) A fun q M J => ∃ MK2 MP2, M = MK2 ++ MP2 ∧ Kys (J ++ A) kb (Z5 k s).1 MK2 ∧ Prm pb (Z5 k s).2 MP2 := by
 obtain ⟨va, vg, vq, vo, vm, rs, ro, rm, Bs, Bo, Bm, rfl, hva, hvg, hss, hrs, hso, hro, hsm, hrm, hn1, hn2, hn3, hn4⟩ := hK.ex
 haveI := hva.cel
 haveI := hvg.cel
 have fl := L3 s
 have pl := P3 (D7 s) (E8 s)
 have pkl := A3K (D7 s) (E8 s)
 haveI := hss.cel
 haveI := hso.cel
 haveI := hsm.cel
 refine FnX.enterZ (N := 68) Tryz.func24 rfl rfl rfl fun w_ => ?_
 refine C4 (D4 0 1) (A3 ?_)
 refine A6 rfl (bx_ fun b2 => ?_)
 refine A0 (D4 1 2) (A5 (A3 ?_))
 refine A4 ql_ rfl ?_
 refine A4 (F2 (e := 114) rfl rfl kR) rfl ?_
 refine A0 (E1 1 2 6) ?_
 refine D3 rfl ?_
 refine A8 (nx (D4 1 2) ?_)
 refine I2 (MP) (_) true (.range 8) (zp 0 [1, 0, 0, 1, 0, 3, 3, 4, 2]) kR kR PickC.perm fun hs K n0 hKm hKs hKn => ?_
 refine Q5 hs rfl hKs ql_ ?_
 refine K6 hs rfl (F5 rfl) rfl ?_
 refine K6 hs rfl (qf_ 6 6) rfl ?_
 refine Q5 hs rfl hKs ql_ ?_
 refine km_ hs ?_
 refine B1G [⟨5, 12, MP, fun v B R => Prm pb (D7 (s)) B ∧ By R v (E8 (s))⟩, ⟨6, 13, [], fun v B R => B = [] ∧ ∃ u, v = .agg [.int .u32 ((k.next : Nat) : Int), u, .slice none 0 0].toArray ∧ By R u (E8 s)⟩, ⟨7, 4, [], fun v B _ => ∃ b, v = .pointer (some ⟨b, 0, none⟩) ∧ B = [(b, blk [.int .u32 0, .slice none 0 0, .slice none 0 0] 110)]⟩] ((b2, blk [.pointer (some ⟨kb, 0, none⟩)] 35) :: ((kb, blk [.int .i64 k.user, .int .i64 k.dev, va, vg, vq, vo, .int .u32 ((k.next : Nat) : Int), vm] 114) :: (Bs ++ (Bo ++ Bm)))) (by simp) (C1 (hKm) (C1 (fun _ h => by cases h) (C1 (fun _ h => by cases h) (K7))))
  (C1 (fun _ _ _ _ h hp => ⟨hp.1, hp.2.mono h⟩) (C1 (fun _ _ _ _ h ⟨p1, u, p2, p3⟩ => ⟨p1, u, p2, p3.mono h⟩) (C1 (fun _ _ _ _ h hp => hp) (K7)))) (show List.Nodup [12, 13, 4] by decide) (show List.Nodup [5, 6, 7] by decide) (C1 (C8 rfl) (C1 (C8 rfl) (C1 (C8 rfl) (K7))))
  (C1 ⟨_, rfl, fun vs bs R Rj wG hb hj hjr ha => ⟨.inl rfl, ?_⟩⟩ (C1 ⟨_, rfl, fun vs bs R Rj wG hb hj hjr ha => ⟨.inl rfl, ?_⟩⟩ (C1 ⟨_, rfl, fun vs bs R Rj wG hb hj hjr ha => ⟨.inl rfl, ?_⟩⟩ (K7)))) ?_
 ·
  refine D9 (Mc := MP) (R := []) (aS rfl a0) kR (by simp) (A0e pb (s) MP _ hP (by omega) (by omega) (hG.sub fun x hx => by have := hb x (by simp [hx]); simp [this])) rfl ?_
  rintro v12 M12 J12 ⟨hP12, h12⟩
  exact ⟨_, rfl, by simpa using hP12, h12.mono fun x hx => by simp [hx]⟩
 ·
  have g5 := ha _ (List.mem_of_getElem? (i := 0) rfl) kR
  replace g5 : (fun v B R => Prm pb (D7 (s)) B ∧ By R v (E8 (s))) (vs 5) (bs 5) Rj := g5
  dsimp only at g5
  obtain ⟨hP12, h12⟩ := g5
  haveI := h12.cel
  exact OpQ.opL (F8 (place := fun x => #[(0, 1), (1, 1), (2, 1)][x]?) (z := [.int .u32 0, .slice none 0 0, .slice none 0 0]) (fun _ => by kernel_rfl) (eS rfl (eS rfl e0)) (bdS 0 1 rfl (by rfl) (bdS 1 1 rfl (by rfl) bd0))) rfl ⟨_, rfl, rfl, _, rfl, h12⟩
 ·
  exact C5 (cs := [.int .u32 0, .slice none 0 0, .slice none 0 0]) kR rfl fun b => ⟨_, rfl, b, rfl, rfl⟩
 intro vs bs Jn0 hφ hKK
 have kk5 := hKK _ (List.mem_of_getElem? (i := 0) rfl) (hKn rfl)
 dsimp only at kk5
 have kk6 := hKK _ (List.mem_of_getElem? (i := 1) rfl) (hKn rfl)
 dsimp only at kk6
 have kk7 := hKK _ (List.mem_of_getElem? (i := 2) rfl) (hKn rfl)
 dsimp only at kk7
 clear hKK
 have g5 := ofH hφ
 dsimp only at g5
 replace hφ := ofT hφ
 have g6 := ofH hφ
 dsimp only at g6
 replace hφ := ofT hφ
 have g7 := ofH hφ
 dsimp only at g7
 clear hφ
 dsimp only [A2B, B9h, List.map, List.flatten, List.cons_append, List.nil_append]
 generalize bs 5 = B12 at *
 generalize bs 6 = B13 at *
 generalize bs 7 = B4 at *
 generalize vs 5 = u12 at *
 generalize vs 6 = u13 at *
 generalize vs 7 = u4 at *
 obtain ⟨hP12, h12⟩ := g5
 obtain ⟨b4, rfl, rfl⟩ := g7
 obtain ⟨rfl, u, rfl, h12⟩ := g6
 haveI := h12.cel
 refine A0M (M' := B12 ++ ((b4, blk [.int .u32 0, .slice none 0 0, .slice none 0 0] 110) :: (b2, blk [.pointer (some ⟨kb, 0, none⟩)] 35) :: ((kb, blk [.int .i64 k.user, .int .i64 k.dev, va, vg, vq, vo, .int .u32 ((k.next : Nat) : Int), vm] 114) :: (Bs ++ (Bo ++ Bm))))) (by simp) ?_
 refine XK.tl rfl rfl rfl (A9 (vs := [.int .u32 ((k.next : Nat) : Int), u, .slice none 0 0]) rfl rfl rfl kR (by rfl) (by intro c hc; simp only [List.mem_cons, List.not_mem_nil, or_false] at hc; rcases hc with rfl | rfl | rfl; rfl; exact h12.one; rfl) UpC.upd ?_)
 refine P7 (E1 1 2 4) ?_
 refine I2 (B12) (_) true (.range 14) (zp 0 [0, 1, 0, 0, 1, 0, 1, 0, 0, 1, 2, 2, 2, 0, 2]) kR kR PickC.perm fun hs K n0 hKm hKs hKn => ?_
 refine km_ hs ?_
 refine Q5 hs rfl hKs ql_ ?_
 refine K6 hs rfl (F5 rfl) rfl ?_
 refine K6 hs rfl (qf_ 3 3) rfl ?_
 refine Q5 hs rfl hKs ql_ ?_
 refine K6 hs rfl (qf_ 0 0) rfl ?_
 refine Q5 hs rfl hKs ql_ ?_
 refine km_ hs ?_
 refine K6 hs rfl (qf_ 1 1) rfl ?_
 refine Q5 hs rfl hKs ql_ ?_
 refine K8 _ _ rfl rfl (List.Perm.refl _) hKm fun w0 => (D9 (Mc := B12) (R := _) (aS rfl (aS rfl a0)) kR PickC.perm (A0w pb (D7 s) u (E8 s) B12 _ hP12 (by omega) (h12.mono SubC.sub) hG.up) rfl ?_)
 rintro v24 M24 J24 ⟨hP24, h24⟩ hKx
 haveI := h24.cel
 refine A0M (M' := M24 ++ ((b4, blk [.int .u32 ((k.next : Nat) : Int), u, .slice none 0 0] 110) :: (b2, blk [.pointer (some ⟨kb, 0, none⟩)] 35) :: ((kb, blk [.int .i64 k.user, .int .i64 k.dev, va, vg, vq, vo, .int .u32 ((k.next : Nat) : Int), vm] 114) :: (Bs ++ (Bo ++ Bm))))) (by simp) ?_
 generalize hpk : N6 (D7 s) (E8 s) = pk at *
 generalize hps : I9 (D7 s) (E8 s) = s2 at *
 refine K8 [] _ rfl rfl (List.Perm.refl _) (fun _ h => by cases h) fun w0 => (D6 (aS rfl (aS rfl a0)) kR (A6B k.next v24 pk _ (by omega) (h24.mono SubC.sub) (by omega)) rfl ?_)
 rintro v25 M25 J25 ⟨rfl, h25⟩ _
 haveI := h25.cel
 generalize hms : A5u k.next pk = wm at *
 dsimp only [List.nil_append, List.append_eq]
 refine K8 M24 _ rfl rfl PickC.perm (fun x hx => hKx (hKn rfl) x (by simpa using hx)) fun w0 => (D9 (Mc := M24) (R := _) (aS rfl (aS rfl (aS rfl a0))) kR PickC.perm (B7a pb s2 vg v25 k.sign wm M24 _ hP24 (by omega) (hvg.mono SubC.sub) (h25.mono SubC.sub) hG.up) rfl ?_)
 rintro v26 M26 J26 ⟨hP26, h26⟩ hKx
 haveI := h26.cel
 refine K6 hs rfl (qf_ 2 2) rfl ?_
 refine XK.tl rfl rfl rfl (D8 rfl rfl h26.one kR SetC.set UpC.upd ?_)
 refine P7 (D4 2 4) (A3 ?_)
 refine A4 ql_ rfl ?_
 refine A4 (F5 rfl) rfl ?_
 refine A4 (qf_ 6 6) rfl ?_
 refine A4 ql_ rfl ?_
 refine A4 (A7R 4294967296 (a := k.next) (b := 1) rfl rfl rfl rfl rfl rfl (by omega)) rfl ?_
 refine A4 (F5 rfl) rfl ?_
 refine A4 (qf_ 6 6) rfl ?_
 refine A6 rfl (D8 rfl rfl rfl kR SetC.set UpC.upd ?_)
 refine A0 (D4 2 4) ?_
 refine I2 ([]) (_) true (.range 10) [(0, 1), (1, 1), (3, 1), (4, 0), (5, 0), (6, 1), (2, 2), (7, 2), (8, 0), (9, 0), (10, 2)] kR kR PickC.perm fun hs K n0 hKm hKs hKn => ?_
 refine Q5 hs rfl hKs ql_ ?_
 refine Q5 hs rfl hKs (qw_ 3) ?_
 refine Q5 hs rfl hKs ql_ ?_
 refine K6 hs rfl (F5 rfl) rfl ?_
 refine K6 hs rfl (qf_ 4 4) rfl ?_
 refine Q5 hs rfl hKs ql_ ?_
 refine K8 [] _ rfl rfl (List.Perm.refl _) (fun _ h => by cases h) fun w0 => (C7 (e := 110) (sz := 3) (z := [.int .u32 0, .slice none 0 0, .slice none 0 0]) kR (eS rfl e0) (bdS 0 3 rfl (by rfl) bd0) rfl fun b37 => fun hk37 => ?_)
 dsimp only [List.cons_append, List.nil_append, List.append_eq]
 refine K8 [(b37, blk [.int .u32 ((k.next : Nat) : Int), u, v26] 110)] _ rfl rfl PickC.perm (fun x hx => hk37 (hKn rfl) x (by simpa using hx)) fun w0 => (I8 (e := 110) (sz := 3) (by_ := 56) rfl rfl kR rfl (Sl.fresh (n := 1) (cs := [.int .u32 ((k.next : Nat) : Int), u, v26]) (e := 110) rfl (by decide)) (hss.rd fun x hx => by simp [hx]) (hrs.ones prT) PickC.perm (by unfold maxLen; omega) (by omega) rfl fun v42 B42 hs42 => fun _ => ?_)
 haveI := hs42.cel
 refine K6 hs rfl (F5 rfl) rfl ?_
 refine K6 hs rfl (qf_ 4 4) rfl ?_
 refine XK.tl rfl rfl rfl (D8 rfl rfl hs42.one kR SetC.set UpC.upd ?_)
 refine P7 (D5 2) ?_
 refine D2 (.range 14) (zp 0 [1, 1, 0, 0, 1, 1, 0, 0, 1, 0, 0, 0, 0, 0, 2]) kR kR fun hs => ?_
 refine F6 hs rfl ql_ rfl ?_
 refine F6 hs rfl ql_ rfl ?_
 refine D1 hs rfl (F5 rfl) rfl ?_
 refine D1 hs rfl (qf_ 4 4) rfl ?_
 refine F6 hs rfl ql_ rfl ?_
 refine F6 hs rfl ql_ rfl ?_
 refine D1 hs rfl (F5 rfl) rfl ?_
 refine D1 hs rfl (qf_ 4 4) rfl ?_
 refine F6 hs rfl ql_ rfl ?_
 refine D1 hs rfl (H7 (sz := 3) rfl kR (hs42.rd (R := B42) fun _ h => h)) rfl ?_
 refine D1 hs rfl (B7N rfl rfl) rfl ?_
 refine D1 hs rfl (A5O (sz := 3) (a := min 2 (1 + k.signed.length)) rfl rfl kR (by omega) (hs42.rd (R := B42) fun _ h => h) (by omega)) rfl ?_
 have hs6 := hs42.hiV (min 2 (1 + k.signed.length)) (by omega)
 generalize vHi (min 2 (1 + k.signed.length)) v42 = vq6 at *
 haveI := hs6.cel
 obtain ⟨tp, htp⟩ : ∃ tp, turnP k s = tp := ⟨_, rfl⟩
 have htq : tp = ⟨k.next, E8 s, B2k s2 k.sign wm⟩ := by rw [← htp]; unfold turnP; rw [hpk, hps, hms]
 have hrow : prR (J26 ++ (J25 ++ (J24 ++ (Jn0 ++ A)))) tp [.int .u32 ((k.next : Nat) : Int), u, v26] := ⟨u, v26, by rw [htq], by rw [htq]; exact h12.mono SubC.sub, by rw [htq]; exact h26.mono SubC.sub, by rw [htq]; dsimp only; omega⟩
 have hRs : RwL prR (J26 ++ (J25 ++ (J24 ++ (Jn0 ++ A)))) (([.int .u32 ((k.next : Nat) : Int), u, v26] :: rs).take 2) ((tp :: k.signed).take 2) := (RwL.cons hrow (hrs.mono prT SubC.sub)).take 2
 have hl6 : ((tp :: k.signed).take 2).length = min 2 (1 + k.signed.length) := by rw [List.length_take, List.length_cons]; omega
 have hSg : Sl 3 vq6 ((tp :: k.signed).take 2).length (([.int .u32 ((k.next : Nat) : Int), u, v26] :: rs).take 2).flatten B42 := by
  have e1 : [.int .u32 ((k.next : Nat) : Int), u, v26] ++ rs.flatten = ([.int .u32 ((k.next : Nat) : Int), u, v26] :: rs).flatten := rfl
  have e2 : min 2 (1 + k.signed.length) = min 2 ([.int .u32 ((k.next : Nat) : Int), u, v26] :: rs).length := by rw [List.length_cons, hrs.len]; omega
  rw [e1, A1C ((RwL.cons hrow (hrs.mono prT SubC.sub)).lens prT), e2, ← List.take_eq_take_min, ← e2, ← hl6] at hs6
  exact hs6
 refine D1 hs rfl (F5 rfl) rfl ?_
 refine D1 hs rfl (qf_ 4 4) rfl ?_
 refine G3 rfl rfl rfl (D8 rfl rfl hs6.one kR SetC.set UpC.upd ?_)
 refine E0 (D5 2) ?_
 refine A0L (Bm) (_) true (.range 9) (zp 0 [1, 1, 0, 0, 1, 0, 2, 0, 0, 2]) kR kR PickC.perm fun hs K n0 hKm hKs hKn => ?_
 refine Q5 hs rfl hKs ql_ ?_
 refine Q5 hs rfl hKs ql_ ?_
 refine K6 hs rfl (F5 rfl) rfl ?_
 refine K6 hs rfl (qf_ 7 7) rfl ?_
 refine Q5 hs rfl hKs ql_ ?_
 refine K6 hs rfl (A2S (aS rfl a0)) rfl ?_
 refine K8 _ _ rfl rfl (List.Perm.refl _) hKm fun w0 => (D9 (Mc := Bm) (R := _) (aS rfl (aS rfl a0)) kR PickC.perm (by rw [← hrm.len] at hsm; exact A9t vm rm 70 [.pointer (some ⟨b2, 0, none⟩)] (fun j => (k.met[j]?.map (A9u ((tp :: k.signed).take 2))).getD false) Bm _ hsm (hrm.lens nmT) (hrm.ones nmT) (by rw [hrm.len]; omega) kR (B1J (hrm.mono nmT SubC.sub) At.mem At.mem (hSg.rd fun x hx => by simp [hx]) (hRs.mono prT SubC.sub) (by rw [hl6]; omega))) rfl ?_)
 rintro v65 M65 J65 h65 _
 haveI := h65.cel
 refine K6 hs rfl (F5 rfl) rfl ?_
 refine K6 hs rfl (qf_ 7 7) rfl ?_
 refine XK.tl rfl rfl rfl (D8 rfl rfl h65.one kR SetC.set UpC.upd ?_)
 refine A5K ?_
 have hkm := hrm.kpt (fun j => (k.met[j]?.map (A9u ((tp :: k.signed).take 2))).getD false) rm.length
 rw [A2k, hrm.len, List.take_length] at hkm
 rw [hrm.len] at h65
 have htK : Z5 k s = ({ k with signed := (tp :: k.signed).take 2, next := k.next + 1, met := k.met.filter fun x => !A9u ((tp :: k.signed).take 2) x }, A5j s2 k.sign wm) := by unfold Z5 B1H; rw [htp, hpk, hps, hms]
 rw [htK]
 have hkl : (k.met.filter fun x => !A9u ((tp :: k.signed).take 2) x).length ≤ 100000 := Nat.le_trans (List.length_filter_le _ _) hn4
 refine ⟨_, (kb, blk [.int .i64 k.user, .int .i64 k.dev, va, vg, vq6, vo, .int .u32 ((k.next + 1 : Nat) : Int), v65] 114) :: (B42 ++ (Bo ++ (M65 ++ M26))), [], B7E rfl, Fit.none (Fit.pick (B := [_]) PickC.perm (Fit.pick PickC.perm (Fit.pick PickC.perm (Fit.pick PickC.perm (Fit.last PickC.perm))))), (kb, blk [.int .i64 k.user, .int .i64 k.dev, va, vg, vq6, vo, .int .u32 ((k.next + 1 : Nat) : Int), v65] 114) :: (B42 ++ (Bo ++ M65)), M26, by simp, ⟨⟨va, vg, vq6, vo, v65, _, ro, _, B42, Bo, M65, rfl, hva.mono SubC.sub, hvg.mono SubC.sub, hSg, hRs.mono prT SubC.sub, hso, hro.mono prT SubC.sub, ?_, hkm.mono nmT SubC.sub, by dsimp only; omega, by dsimp only; rw [hl6]; omega, hn3, hkl⟩⟩, hP26⟩
 rw [hkm.len] at h65
 exact h65

end Go.Proofs.YthbhpfefdnffaaaGreatDoor
namespace Go.Px
structure Gc where
  i : Nat
  d : Nat
  s : Option Nat
  m : Mem
  φ : Value → Mem → Mem → Prop
def Gc.inp (g : Gc) (bs : Nat → Mem) : Mem := match g.s with
  | none => g.m
  | some s => bs s
theorem Gc.inp_none {g : Gc} {bs : Nat → Mem} (h : g.s = none) : g.inp bs = g.m := by unfold Gc.inp; rw [h]
theorem Gc.inp_some {g : Gc} {bs : Nat → Mem} {s : Nat} (h : g.s = some s) : g.inp bs = bs s := by unfold Gc.inp; rw [h]
def U2 (G : List Gc) (vs : Nat → Value) : Env := G.map fun g => (g.d, vs g.i)
def B4f (G : List Gc) : List Gm := G.map fun g => ⟨g.i, g.d, fun _ _ => True⟩
theorem B1K (G : List Gc) : (B4f G).map (·.i) = G.map (·.i) := by simp [B4f]
theorem B1L (G : List Gc) : (B4f G).map (·.d) = G.map (·.d) := by simp [B4f]
theorem A07 (G : List Gc) (vs : Nat → Value) : A2y (B4f G) vs = U2 G vs := by simp [A2y, U2, B4f]
theorem Z0 {G : List Gc} (h : (G.map (·.i)).Nodup) {g g' : Gc} (hg : g ∈ G) (hg' : g' ∈ G) (e : g.i = g'.i) : g = g' := by
  induction G with
  | nil => cases hg
  | cons x G ih =>
    simp only [List.map_cons, List.nodup_cons] at h
    rcases List.mem_cons.1 hg with h1 | h1 <;> rcases List.mem_cons.1 hg' with h2 | h2
    · rw [h1, h2]
    · exact absurd (by rw [← h1, e]; exact List.mem_map_of_mem (f := Gc.i) h2) h.1
    · exact absurd (by rw [← h2, ← e]; exact List.mem_map_of_mem (f := Gc.i) h1) h.1
    · exact ih h.2 h1 h2
def A2v (G : List Gc) (X : List Nat) (bs : Nat → Mem) (g : Gc) : Mem :=
  if g.i ∈ X then (if ∃ g' ∈ G, g'.s = some g.i ∧ g'.i ∈ X then [] else bs g.i) else (if g.s = none then g.m else [])
def A7v (X : List Nat) (bs : Nat → Mem) (G : List Gc) : Mem := (G.map (A2v G X bs)).flatten
def B1M (l : List (Nat × Option Nat)) (i : Nat) : Bool := l.any fun p => p.2 == some i
def A9v (G : List Gc) (bs : Nat → Mem) : List Mem := (G.filter fun g => !B1M (G.map fun g => (g.i, g.s)) g.i).map fun g => bs g.i
def A1w (l : List Mem) (M : Mem) : Mem := l.foldr (· ++ ·) M
def A2l (G : List Gc) : List Mem := (G.filter fun g => g.s.isNone).map (·.m)
def A7w (ops : Array Oper) (l : List (Nat × Option Nat)) : Bool :=
  l.all fun p => match p.2 with
    | none => true
    | some s => (l.map Prod.fst).contains s && anc ops ops.size p.1 s && l.all fun q => q.2 != some s || q.1 == p.1
structure ChainOk (ops : Array Oper) (G : List Gc) : Prop where
  anc : ∀ g ∈ G, ∀ s, g.s = some s → anc ops ops.size g.i s = true
  mem : ∀ g ∈ G, ∀ s, g.s = some s → s ∈ G.map (·.i)
  one : ∀ g ∈ G, ∀ g' ∈ G, ∀ s, g.s = some s → g'.s = some s → g'.i = g.i
theorem A8E {ops : Array Oper} {G : List Gc} (h : A7w ops (G.map fun g => (g.i, g.s)) = true) : ChainOk ops G := by
  have key : ∀ g ∈ G, ∀ s, g.s = some s → s ∈ G.map (·.i) ∧ Px.anc ops ops.size g.i s = true ∧ ∀ g' ∈ G, g'.s = some s → g'.i = g.i := by
    intro g hg s hs
    have h1 := List.all_eq_true.1 h (g.i, g.s) (List.mem_map_of_mem (f := fun g : Gc => (g.i, g.s)) hg)
    simp only [hs, Bool.and_eq_true, List.contains_iff_mem, List.map_map] at h1
    obtain ⟨⟨h2, h3⟩, h4⟩ := h1
    refine ⟨by simpa [Function.comp_def] using h2, h3, fun g' hg' hs' => ?_⟩
    have h5 := List.all_eq_true.1 h4 (g'.i, g'.s) (List.mem_map_of_mem (f := fun g : Gc => (g.i, g.s)) hg')
    simp [hs'] at h5
    exact h5
  exact ⟨fun g hg s hs => (key g hg s hs).2.1, fun g hg s hs => (key g hg s hs).1, fun g hg g' hg' s hs hs' => (key g hg s hs).2.2 g' hg' hs'⟩
theorem A7x {G : List Gc} (hi : (G.map (·.i)).Nodup) {g : Gc} (hg : g ∈ G) (f : Gc → Mem) :
    ∃ R, ∀ f' : Gc → Mem, (∀ x ∈ G, x.i ≠ g.i → f' x = f x) → (G.map f').flatten.Perm (f' g ++ R) := by
  obtain ⟨s, t, rfl⟩ := List.append_of_mem hg
  have hne : ∀ x ∈ s ++ t, x.i ≠ g.i := by
    intro x hx e
    simp only [List.map_append, List.map_cons, List.nodup_append, List.nodup_cons] at hi
    rcases List.mem_append.1 hx with h | h
    · exact hi.2.2 _ (List.mem_map_of_mem (f := Gc.i) h) _ List.mem_cons_self e
    · exact hi.2.1.1 (e ▸ List.mem_map_of_mem (f := Gc.i) h)
  refine ⟨(s.map f).flatten ++ (t.map f).flatten, fun f' h => ?_⟩
  have es : s.map f' = s.map f := List.map_congr_left fun x hx => h x (by simp [hx]) (hne x (List.mem_append_left _ hx))
  have et : t.map f' = t.map f := List.map_congr_left fun x hx => h x (by simp [hx]) (hne x (List.mem_append_right _ hx))
  simp only [List.map_append, List.map_cons, List.flatten_append, List.flatten_cons, es, et]
  exact List.perm_append_comm_assoc _ _ _
theorem A3L {ops : Array Oper} {X : List Nat} {bs : Nat → Mem} {G : List Gc} {g : Gc} (hi : (G.map (·.i)).Nodup) (hc : ChainOk ops G) (hg : g ∈ G) (hX : g.i ∉ X) (hcl : ∀ g' ∈ G, g'.i ∈ X → ∀ s, g'.s = some s → s ∈ X) (hsx : ∀ s, g.s = some s → s ∈ X) :
    ∃ R, (A7v X bs G).Perm (g.inp bs ++ R) ∧ ∀ M', (M' ++ R).Perm (A7v (X ++ [g.i]) (fun k => if k = g.i then M' else bs k) G) := by
  have hmem : ∀ x : Gc, x.i ≠ g.i → (x.i ∈ X ++ [g.i] ↔ x.i ∈ X) := fun x h => by simp [h]
  have hself : ∀ M' : Mem, A2v G (X ++ [g.i]) (fun k => if k = g.i then M' else bs k) g = M' := by
    intro M'
    have hno : ¬ ∃ g' ∈ G, g'.s = some g.i ∧ g'.i ∈ X ++ [g.i] := by
      rintro ⟨g', hg', hs', hx'⟩
      rcases List.mem_append.1 hx' with h | h
      · exact hX (hcl g' hg' h _ hs')
      · have h2 : g' = g := Z0 hi hg' hg (by simpa using h)
        subst h2
        exact hX (hsx _ hs')
    unfold A2v
    rw [if_pos (by simp), if_neg hno]
    exact if_pos rfl
  cases hs : g.s with
  | none =>
    obtain ⟨R, hR⟩ := A7x hi hg (A2v G X bs)
    refine ⟨R, ?_, fun M' => ?_⟩
    · have h1 := hR (A2v G X bs) fun _ _ _ => rfl
      have h2 : A2v G X bs g = g.inp bs := by unfold A2v; rw [if_neg hX, if_pos hs, Gc.inp_none hs]
      rw [h2] at h1
      exact h1
    · have h1 := hR (A2v G (X ++ [g.i]) fun k => if k = g.i then M' else bs k) fun x hx hne => by
        unfold A2v
        by_cases hxX : x.i ∈ X
        · rw [if_pos ((hmem x hne).2 hxX), if_pos hxX]
          have hiff : (∃ g' ∈ G, g'.s = some x.i ∧ g'.i ∈ X ++ [g.i]) ↔ (∃ g' ∈ G, g'.s = some x.i ∧ g'.i ∈ X) := by
            constructor
            · rintro ⟨g', h1, h2, h3⟩
              rcases List.mem_append.1 h3 with h4 | h4
              · exact ⟨g', h1, h2, h4⟩
              · have h5 : g' = g := Z0 hi h1 hg (by simpa using h4)
                subst h5; rw [hs] at h2; cases h2
            · rintro ⟨g', h1, h2, h3⟩; exact ⟨g', h1, h2, List.mem_append_left _ h3⟩
          simp only [hiff, if_neg hne]
        · rw [if_neg (fun h => hxX ((hmem x hne).1 h)), if_neg hxX]
      rw [hself M'] at h1
      exact h1.symm
  | some s =>
    have hsX := hsx s hs
    obtain ⟨gs, hgs, rfl⟩ := List.mem_map.1 (hc.mem g hg s hs)
    have hne0 : gs.i ≠ g.i := fun h => hX (h ▸ hsX)
    obtain ⟨R1, hR1⟩ := A7x hi hgs (A2v G X bs)
    have h1 := hR1 (A2v G X bs) fun _ _ _ => rfl
    have e1 : A2v G X bs gs = bs gs.i := by
      unfold A2v
      rw [if_pos hsX, if_neg]
      rintro ⟨g', hg', hs', hx'⟩
      exact hX (hc.one g hg g' hg' _ hs hs' ▸ hx')
    rw [e1] at h1
    have h2 := hR1 (fun x => if x.i = gs.i then [] else A2v G X bs x) fun x _ hne => if_neg hne
    simp only [if_true, List.nil_append] at h2
    obtain ⟨R2, hR2⟩ := A7x hi hg (fun x => if x.i = gs.i then [] else A2v G X bs x)
    have h3 := hR2 (fun x => if x.i = gs.i then [] else A2v G X bs x) fun _ _ _ => rfl
    have e3 : (if g.i = gs.i then [] else A2v G X bs g) = ([] : Mem) := by
      rw [if_neg (Ne.symm hne0)]
      unfold A2v
      rw [if_neg hX, if_neg (by rw [hs]; exact fun h => by cases h)]
    simp only [e3, List.nil_append] at h3
    refine ⟨R2, ?_, fun M' => ?_⟩
    · rw [Gc.inp_some hs]
      exact h1.trans (List.Perm.append_left _ (h2.symm.trans h3))
    · have h4 := hR2 (A2v G (X ++ [g.i]) fun k => if k = g.i then M' else bs k) fun x hx hne => by
        by_cases hxs : x.i = gs.i
        · rw [if_pos hxs]
          unfold A2v
          rw [if_pos ((hmem x hne).2 (hxs ▸ hsX)), if_pos ⟨g, hg, by rw [hs, hxs], by simp⟩]
        · rw [if_neg hxs]
          unfold A2v
          by_cases hxX : x.i ∈ X
          · rw [if_pos ((hmem x hne).2 hxX), if_pos hxX]
            have hiff : (∃ g' ∈ G, g'.s = some x.i ∧ g'.i ∈ X ++ [g.i]) ↔ (∃ g' ∈ G, g'.s = some x.i ∧ g'.i ∈ X) := by
              constructor
              · rintro ⟨g', h1, h2, h3⟩
                rcases List.mem_append.1 h3 with h4 | h4
                · exact ⟨g', h1, h2, h4⟩
                · have h5 : g' = g := Z0 hi h1 hg (by simpa using h4)
                  subst h5; rw [hs] at h2; exact absurd (Option.some.inj h2).symm hxs
              · rintro ⟨g', h1, h2, h3⟩; exact ⟨g', h1, h2, List.mem_append_left _ h3⟩
            simp only [hiff, if_neg hne]
          · rw [if_neg (fun h => hxX ((hmem x hne).1 h)), if_neg hxX]
      rw [hself M'] at h4
      exact h4.symm
theorem A8F {bs : Nat → Mem} {G : List Gc} : A7v [] bs G = (A2l G).flatten := by
  have : ∀ G' : List Gc, (G'.map (A2v G [] bs)).flatten = (A2l G').flatten := by
    intro G'
    induction G' with
    | nil => rfl
    | cons g G' ih =>
      rw [List.map_cons, List.flatten_cons, ih]
      have e : A2v G [] bs g = if g.s = none then g.m else [] := by unfold A2v; rw [if_neg (by simp)]
      rw [e]
      cases hs : g.s with
      | none => simp [A2l, hs]
      | some s => simp [A2l, hs]
  exact this G
theorem A8G {X : List Nat} {bs : Nat → Mem} {G : List Gc} (h : ∀ g ∈ G, g.i ∈ X) : A7v X bs G = (A9v G bs).flatten := by
  have he : ∀ g ∈ G, A2v G X bs g = if B1M (G.map fun g => (g.i, g.s)) g.i = true then [] else bs g.i := by
    intro g hg
    unfold A2v
    rw [if_pos (h g hg)]
    have : (∃ g' ∈ G, g'.s = some g.i ∧ g'.i ∈ X) ↔ B1M (G.map fun g => (g.i, g.s)) g.i = true := by
      unfold B1M
      simp only [List.any_eq_true, List.mem_map]
      constructor
      · rintro ⟨g', h1, h2, _⟩; exact ⟨_, ⟨g', h1, rfl⟩, by simp [h2]⟩
      · rintro ⟨_, ⟨g', h1, rfl⟩, h2⟩; exact ⟨g', h1, by simpa using h2, h g' h1⟩
    simp only [this]
  unfold A7v A9v
  rw [List.map_congr_left he]
  have : ∀ (G' : List Gc) (p : Gc → Bool), (G'.map fun g => if p g = true then ([] : Mem) else bs g.i).flatten = ((G'.filter fun g => !p g).map fun g => bs g.i).flatten := by
    intro G' p
    induction G' with
    | nil => rfl
    | cons g G' ih =>
      rw [List.map_cons, List.flatten_cons, ih]
      cases hp : p g <;> simp [hp]
  exact this G fun g => B1M (G.map fun g => (g.i, g.s)) g.i
theorem A2U (l : List Mem) (M : Mem) : A1w l M = l.flatten ++ M := by
  induction l with
  | nil => rfl
  | cons a l ih => show a ++ A1w l M = _; rw [ih, List.flatten_cons, List.append_assoc]
section group
variable {C : Cx} {Q : XQ} {l : Env} {M M0 J : Mem} {os : List Oper} {K : Nat → Prop} {n0 : Nat} {nd : List Nat} {plan : List (Nat × Nat)}
def B1N (C : Cx) (os : List Oper) (l : Env) (M0 J : Mem) (G : List Gc) (g : Gc) : Prop :=
  ∃ o, nth os g.i = some o ∧ ∀ (vs : Nat → Value) (bs : Nat → Mem) (R Rj : Mem) (w : World), (∀ x ∈ M0 ++ (J ++ C.A), x ∈ R) → (∀ x ∈ J ++ C.A, x ∈ Rj) → (∀ x ∈ Rj, x ∈ R) → (∀ g' ∈ G, anc os.toArray os.toArray.size g.i g'.i = true → g'.φ (vs g'.i) (bs g'.i) Rj) →
    A8Y os (U2 G vs ++ l) o ∧ OpL ⟨C.P, w, (g.inp bs).map Prod.fst, R, C.N⟩ o (U2 G vs ++ l) (g.inp bs) [] (fun l' M' J' => ∃ v, l' = (g.d, v) :: (U2 G vs ++ l) ∧ g.φ v M' (J' ++ Rj))
theorem B1O {G : List Gc} (hmono : ∀ g ∈ G, A0d g.φ) (hd : (G.map (·.d)).Nodup) (hi : (G.map (·.i)).Nodup) (hc : ChainOk os.toArray G) (hKn : ∀ b, n0 ≤ b → K b) (hK : ∀ m ∈ A2l G, ∀ x ∈ m, K x.1) (hob : ∀ g ∈ G, B1N C os l M0 J G g) {A B : Array Bool} (hok : GOk os.toArray A (G.map (·.i)) B)
    (hfin : ∀ (vs : Nat → Value) (bs : Nat → Mem) Jn a w, (∀ g ∈ G, g.φ (vs g.i) (bs g.i) ((Jn ++ J) ++ C.A)) → (∀ g ∈ G, ∀ x ∈ bs g.i, K x.1) → Ag C.N (U2 G vs ++ l) a → St C ((A9v G bs).flatten ++ M0) (Jn ++ J) w → n0 ≤ w.heap.size → U3 C.P os.toArray (N0 (A3X C Q)) (Sk K) nd.contains plan.length B a w) :
    ∀ (n : Nat) (X : List Nat) (vs : Nat → Value) (bs : Nat → Mem) (Jn : Mem) (a : Act) (w : World), X.Nodup → (∀ i ∈ X, i ∈ G.map (·.i)) → n + X.length = G.length → L4 os.toArray (mark A X) → (∀ g ∈ G, g.i ∈ X → ∀ s, g.s = some s → s ∈ X) →
      (∀ g ∈ G, g.i ∈ X → g.φ (vs g.i) (bs g.i) ((Jn ++ J) ++ C.A)) → (∀ g ∈ G, g.i ∈ X → ∀ x ∈ bs g.i, K x.1) → Ag C.N (U2 G vs ++ l) a → St C (A7v X bs G ++ M0) (Jn ++ J) w → n0 ≤ w.heap.size →
      U3 C.P os.toArray (N0 (A3X C Q)) (Sk K) nd.contains (n + plan.length) (mark A X) a w := by
  intro n
  induction n with
  | zero =>
    intro X vs bs Jn a w hnd hX hlen hcl hXs hφ hN ha hw hn
    have hall : ∀ i, i ∈ X ↔ i ∈ G.map (·.i) := fun i => ⟨hX i, A0b hnd hX (by simp; omega) i⟩
    have hin : ∀ g ∈ G, g.i ∈ X := fun g hg => (hall _).2 (List.mem_map_of_mem (f := Gc.i) hg)
    have hcur := A8G (bs := bs) hin
    rw [hcur] at hw
    rw [Nat.zero_add, A16 hall, ← hok.mark]
    exact hfin vs bs Jn a w (fun g hg => hφ g hg (hin g hg)) (fun g hg => hN g hg (hin g hg)) ha hw hn
  | succ n ih =>
    intro X vs bs Jn a w hnd hX hlen hcl hXs hφ hN ha hw hn
    have hmiss : ∃ k ∈ G.map (·.i), k ∉ X := by
      apply Classical.byContradiction
      intro hno
      have hs : ∀ k ∈ G.map (·.i), k ∈ X := fun k hk => Classical.byContradiction fun h => hno ⟨k, hk, h⟩
      have := A0n hi hs
      simp at this; omega
    obtain ⟨k, hkG, hkX⟩ := hmiss
    have hun : ∀ i ∈ G.map (·.i), A.getD i true = false := by
      have : ∀ {is A B}, GOk os.toArray A is B → ∀ i ∈ is, A.getD i true = false := by
        intro is A B h
        induction h with
        | nil => intro i hi; cases hi
        | @cons A B i r hr ho h ih =>
          intro k hk
          rcases List.mem_cons.1 hk with rfl | hk
          · exact G7 hr
          · have h2 := ih k hk
            by_cases e : i = k
            · subst e; exact G7 hr
            · rwa [getD_set_ne true e] at h2
      exact this hok
    have hkun : (mark A X).getD k true = false := E9.2 ⟨hun k hkG, fun h => hkX h.1⟩
    rw [show n + 1 + plan.length = (n + plan.length) + 1 by omega]
    refine ⟨fun h0 => ?_, fun i hir => ?_⟩
    · obtain ⟨i, hir⟩ := hok.first (V1 A X) (fun j hj => V2 hj) hkG hkun
      rw [h0] at hir; cases hir
    · have hiG : i ∈ G.map (·.i) := by
        apply Classical.byContradiction
        intro hno
        have h1 := E9.1 (G7 hir)
        have h2 := hok.outer k hkG i (A00 hir) h1.1 hno
        exact L5 hkun (K3 hcl h2 hir)
      obtain ⟨g, hg, rfl⟩ := List.mem_map.1 hiG
      have hiX : g.i ∉ X := fun h => (E9.1 (G7 hir)).2 ⟨h, N9 (hun _ hiG)⟩
      have hin : ∀ j ∈ G.map (·.i), anc os.toArray os.toArray.size g.i j = true → j ∈ X := fun j hj hanc => by
        have h3 := K3 hcl hanc hir
        rcases Q4 h3 with h4 | h4
        · exact (L5 (hun _ hj) h4).elim
        · exact h4
      have hsx : ∀ s, g.s = some s → s ∈ X := fun s hs => hin s (hc.mem g hg s hs) (hc.anc g hg s hs)
      have hKi : ∀ x ∈ g.inp bs, K x.1 := by
        intro x hx
        cases hs : g.s with
        | none =>
          rw [Gc.inp_none hs] at hx
          exact hK g.m (List.mem_map.2 ⟨g, List.mem_filter.2 ⟨hg, by simp [hs]⟩, rfl⟩) x hx
        | some s =>
          rw [Gc.inp_some hs] at hx
          obtain ⟨gs, hgs, rfl⟩ := List.mem_map.1 (hc.mem g hg s hs)
          exact hN gs hgs (hsx _ hs) x hx
      obtain ⟨o, hget, howe⟩ := hob g hg
      have hi' : os.toArray[g.i]? = some o := by rw [R6] at hget; simpa using hget
      obtain ⟨hask, hop⟩ := howe vs bs (M0 ++ ((Jn ++ J) ++ C.A)) ((Jn ++ J) ++ C.A) w (fun x hx => by simp only [List.mem_append] at hx ⊢; rcases hx with h | h | h <;> simp [h]) (fun x hx => by simp only [List.mem_append] at hx ⊢; rcases hx with h | h <;> simp [h]) (fun x hx => List.mem_append_right _ hx) (fun g' hg' hanc => hφ g' hg' (hin _ (List.mem_map_of_mem (f := Gc.i) hg') hanc))
      unfold wpOp
      simp only [hi']
      rw [if_pos (hask.wanted ha)]
      obtain ⟨R0, hp0, hq0⟩ := A3L (bs := bs) hi hc hg hiX hXs hsx
      have hpc : (A7v X bs G ++ M0).Perm (g.inp bs ++ (R0 ++ M0)) := by
        rw [← List.append_assoc]; exact List.Perm.append_right _ hp0
      have hcal := hw.callee hpc
      have hcal2 := St.less (A := M0 ++ ((Jn ++ J) ++ C.A)) hcal fun x hx => by
        simp only [List.mem_append] at hx ⊢
        rcases hx with h | h
        · exact .inl (.inr h)
        · exact .inr h
      refine .inl (Oper.wp_mono ?_ (hop _ a w ha hcal2.cx))
      rintro a' w' ⟨l', M', J', ha', hs', v, rfl, hφv⟩
      have hsz : w.heap.size ≤ w'.heap.size := hs'.size
      have hs2 := St.widen hcal.cx hs'
      have hb := hw.back hpc hs2.cx
      let bs' : Nat → Mem := fun k => if k = g.i then M' else bs k
      have hperm : (M' ++ (R0 ++ M0)).Perm (A7v (X ++ [g.i]) bs' G ++ M0) := by
        rw [← List.append_assoc]
        exact List.Perm.append_right _ (hq0 M')
      have hfr2 : St C (A7v (X ++ [g.i]) bs' G ++ M0) ((J' ++ Jn) ++ J) w' := (hb.perm hperm).drop (List.Sublist.refl _) fun x hx => by
        simp only [List.mem_append] at hx ⊢
        rcases hx with (h | h) | h <;> simp [h]
      refine ⟨fun _ b hb' hnk => hs'.frame b hb' fun hm => ?_, ?_⟩
      · obtain ⟨x, hx, e⟩ := List.mem_map.1 hm
        exact hnk (e ▸ hKi x hx)
      rw [← L0]
      have henv := Y3 (N := C.N) (G := B4f G) (l := l) (vs := vs) (g := ⟨g.i, g.d, fun _ _ => True⟩) (a := a') (v := v) (List.mem_map_of_mem (f := fun g : Gc => (⟨g.i, g.d, fun _ _ => True⟩ : Gm)) hg) (by rw [B1L]; exact hd) (by rw [B1K]; exact hi) (by rw [A07]; exact ha')
      rw [A07] at henv
      refine ih (X ++ [g.i]) (fun k => if k = g.i then v else vs k) bs' (J' ++ Jn) a' w' ?_ ?_ (by simp; omega) ?_ ?_ ?_ ?_ henv hfr2 (Nat.le_trans hn hsz)
      · rw [List.nodup_append]; exact ⟨hnd, by simp, fun x hx y hy e => hiX (by simp at hy; subst hy; exact e ▸ hx)⟩
      · intro j hj
        rcases List.mem_append.1 hj with hj | hj
        · exact hX j hj
        · simp at hj; subst hj; exact hiG
      · rw [L0]; exact G4 hcl hir
      · intro g' hg' hm s hs
        rcases List.mem_append.1 hm with h | h
        · exact List.mem_append_left _ (hXs g' hg' h s hs)
        · have h2 : g' = g := Z0 hi hg' hg (by simpa using h)
          subst h2
          exact List.mem_append_left _ (hsx s hs)
      · intro g' hg' hm
        by_cases e : g'.i = g.i
        · have : g' = g := Z0 hi hg' hg e
          subst this
          simp only [if_true, bs']
          exact hmono g' hg' _ _ _ _ (fun x hx => by simp only [List.mem_append] at hx ⊢; rcases hx with h | (h | h) | h <;> simp [h]) hφv
        · simp only [e, if_false, bs']
          have hm' : g'.i ∈ X := by simpa [e] using hm
          exact hmono g' hg' _ _ _ _ (fun x hx => by simp only [List.mem_append] at hx ⊢; rcases hx with (h | h) | h <;> simp [h]) (hφ g' hg' hm')
      · intro g' hg' hk x hx
        by_cases e : g'.i = g.i
        · have : g' = g := Z0 hi hg' hg e
          subst this
          simp only [if_true, bs'] at hx
          rcases hs'.own x.1 x.2 (by simp [hx]) with h6 | h6
          · obtain ⟨y, hy, e6⟩ := List.mem_map.1 h6
            exact e6 ▸ hKi y hy
          · exact hKn _ (Nat.le_trans hn h6)
        · simp only [e, if_false, bs'] at hx
          have hk' : g'.i ∈ X := by simpa [e] using hk
          exact hN g' hg' hk' x hx
theorem A1Z (G : List Gc) (M0 : Mem) (Lf : (Nat → Mem) → List Mem) (hKn : ∀ b, n0 ≤ b → K b) (hM : M.Perm (A1w (A2l G) M0)) (hK : ∀ m ∈ A2l G, ∀ x ∈ m, K x.1) (hck : A7w os.toArray (G.map fun g => (g.i, g.s)) = true) (hLf : ∀ bs, A9v G bs = Lf bs)
    (hmono : ∀ g ∈ G, A0d g.φ) (hd : (G.map (·.d)).Nodup) (hi : (G.map (·.i)).Nodup) (hdN : ∀ g ∈ G, g.d < C.N) (hob : ∀ g ∈ G, B1N C os l M0 J G g)
    (h : ∀ (vs : Nat → Value) (bs : Nat → Mem) Jn, (∀ g ∈ G, g.φ (vs g.i) (bs g.i) ((Jn ++ J) ++ C.A)) → (∀ g ∈ G, ∀ x ∈ bs g.i, K x.1) → XK C os Q K n0 nd plan (U2 G vs ++ l) (A1w (Lf bs) M0) (Jn ++ J)) : XK C os Q K n0 nd (enc (G.map (·.i)) ++ plan) l M J := by
  refine A0M hM ?_
  rw [A2U]
  intro listed hcl hp a w ha hw hn
  obtain ⟨B, hok, hp2⟩ := A5M hp
  have hBcl : L4 os.toArray B := by
    have : ∀ {A is B}, GOk os.toArray A is B → L4 os.toArray A → L4 os.toArray B := by
      intro A is B h
      induction h with
      | nil => exact id
      | cons hr _ _ ih => exact fun hc => ih (G4 hc hr)
    exact this hok hcl
  have hlen : (enc (G.map (·.i)) ++ plan).length = G.length + plan.length := by
    have : ∀ is : List Nat, (enc is).length = is.length := by
      intro is
      induction is with
      | nil => rfl
      | cons i r ih => cases r with
        | nil => rfl
        | cons j r => simp only [enc, List.length_cons] at ih ⊢; rw [ih]
    simp [this]
  rw [hlen]
  let vs : Nat → Value := fun k => match G.find? (fun g => g.i == k) with
    | some g => (a.tmps[g.d]?).getD undef
    | none => undef
  have hag : Ag C.N (U2 G vs ++ l) a := by
    refine ⟨ha.defers, ha.size, ?_⟩
    intro k u hk
    have key : ∀ G' : List Gc, (∀ g ∈ G', g ∈ G) → lk (U2 G' vs ++ l) k = some u → a.tmps[k]? = some u := by
      intro G'
      induction G' with
      | nil => intro _ h; exact ha.slot k u h
      | cons g G' ih =>
        intro hs h
        simp only [U2, List.map_cons, List.cons_append, lk] at h
        by_cases e : g.d = k
        · subst e
          simp at h
          have hf : G.find? (fun x => x.i == g.i) = some g := by
            have hgG := hs g List.mem_cons_self
            cases hq : G.find? (fun x => x.i == g.i) with
            | none => have := List.find?_eq_none.1 hq g hgG; simp at this
            | some x =>
              have h1 := List.find?_some hq
              have h2 := List.mem_of_find?_eq_some hq
              rw [Z0 hi h2 hgG (by simpa using h1)]
          have hlt : g.d < a.tmps.size := by rw [ha.size]; exact hdN g (hs g List.mem_cons_self)
          rw [← h]
          show a.tmps[g.d]? = some (vs g.i)
          simp only [vs, hf, Array.getElem?_eq_getElem hlt, Option.getD_some]
        · simp only [V0 e, cond_false] at h
          exact ih (fun x hx => hs x (List.mem_cons_of_mem _ hx)) h
    exact key G (fun _ h => h) hk
  refine B1O (n0 := n0) (K := K) hmono hd hi (A8E hck) hKn hK hob hok (fun vs bs Jn a w hφ hN ha hw hn => h vs bs Jn hφ hN B hBcl hp2 a w ha (by rw [A2U, ← hLf]; exact hw) hn) G.length [] vs (fun _ => []) [] a w .nil (fun _ h => by cases h) (by simp) hcl (fun _ _ h => by cases h) (fun _ _ h => by cases h) (fun _ _ h => by cases h) hag (by rw [A8F]; exact hw) hn
end group
end Go.Px

namespace Go.Proofs.YthbhpfefdnffaaaGreatDoor
open Go.Px
noncomputable def idS (k : Ks) (s : Ps) : Ps := I9 (I9 s k.agree) k.sign
noncomputable def idA (k : Ks) (s : Ps) : List Nat := N6 s k.agree
noncomputable def idG (k : Ks) (s : Ps) : List Nat := B7J (I9 s k.agree) k.sign
theorem A1x (k : Ks) (s : Ps) : (idS k s).ts.length ≤ s.ts.length + 4 := by
  have h1 := P3 s k.agree
  have h2 := P3 (I9 s k.agree) k.sign
  unfold idS; omega
theorem A2V (k : Ks) (s : Ps) : (Z5 k s).2.ts.length ≤ s.ts.length + 5 ∧ (Z5 k s).2.n = s.n + 1 := by
  have h1 := L3 s
  have h2 := P3 (D7 s) (E8 s)
  have h3 := B4e (I9 (D7 s) (E8 s)) k.sign (A5u k.next (N6 (D7 s) (E8 s)))
  have h4 := B9j (I9 (D7 s) (E8 s)) k.sign (A5u k.next (N6 (D7 s) (E8 s)))
  have h5 := A0T (D7 s) (E8 s)
  show (B1H k s).ts.length ≤ _ ∧ (B1H k s).n = _
  unfold B1H
  omega
theorem A4s (k : Ks) (s : Ps) : (Z5 k s).1.next = k.next + 1 := rfl
theorem B4g (k : Ks) (s : Ps) : (A1Y k s).2.ts.length ≤ s.ts.length + 4 ∧ (A1Y k s).2.n ≤ s.n + 4 ∧ (A1Y k s).1.next ≤ k.next + 4 := by
  have h1 := A2T k s (4 - k.once.length)
  have h2 := A0k k s (4 - k.once.length)
  unfold A1Y
  omega
def k0N (u d : Int) (s : Ps) : Ks := ⟨u, d, E8 s, E8 (D7 s), [], [], 1, []⟩
noncomputable def A6G (u d : Int) (s : Ps) : Ks × Ps := A1Y (Z5 (k0N u d s) (D7 (D7 s))).1 (Z5 (k0N u d s) (D7 (D7 s))).2
theorem A7y (u d : Int) (s : Ps) : (A6G u d s).2.ts.length ≤ s.ts.length + 11 ∧ (A6G u d s).2.n ≤ s.n + 7 ∧ (A6G u d s).1.next ≤ 6 := by
  have h1 := L3 s
  have h2 := L3 (D7 s)
  have h3 := A2V (k0N u d s) (D7 (D7 s))
  have h4 := B4g (Z5 (k0N u d s) (D7 (D7 s))).1 (Z5 (k0N u d s) (D7 (D7 s))).2
  have h5 : (Z5 (k0N u d s) (D7 (D7 s))).1.next = 2 := rfl
  unfold A6G
  omega
structure Bn where
  user : Int
  dev : Int
  ia : List Nat
  ig : List Nat
  signed : Nat
  key : List Nat
  sig : List Nat
  has : Bool
  once : Nat
  oncek : List Nat
def bnR (R : Mem) (x : Bn) (r : List Value) : Prop := ∃ va vg vk vs vo, r = [.int .i64 x.user, .int .i64 x.dev, va, vg, .int .u32 ((x.signed : Nat) : Int), vk, vs, .bool x.has, .int .u32 ((x.once : Nat) : Int), vo] ∧ By R va x.ia ∧ By R vg x.ig ∧ By R vk x.key ∧ By R vs x.sig ∧ By R vo x.oncek ∧ x.signed < 4294967296 ∧ x.once < 4294967296
theorem bnT : RowT 10 bnR := ⟨fun R R' x r hR ⟨va, vg, vk, vs, vo, h1, h2, h3, h4, h5, h6, h7⟩ => ⟨va, vg, vk, vs, vo, h1, h2.mono hR, h3.mono hR, h4.mono hR, h5.mono hR, h6.mono hR, h7⟩, fun R x r ⟨va, vg, vk, vs, vo, h1, _⟩ => by rw [h1]; rfl, fun R x r ⟨va, vg, vk, vs, vo, h1, h2, h3, h4, h5, h6, _⟩ => by
  rw [h1]
  exact C1 rfl (C1 rfl (C1 h2.one (C1 h3.one (C1 rfl (C1 h4.one (C1 h5.one (C1 rfl (C1 rfl (C1 h6.one K7)))))))))⟩
noncomputable def A9w (k : Ks) (x : Pr) (s : Ps) : Bn := ⟨k.user, k.dev, idA k s, idG k s, x.n, N6 (idS k s) x.sec, x.sig, false, 0, []⟩
noncomputable def A0F (b : Bn) (l : List Pr) (s : Ps) : Nat → List Bn × Ps
  | 0 => ([b], s)
  | i + 1 => match l[i]? with
    | none => A0F b l s i
    | some o => ((A0F b l s i).1 ++ [{ b with has := true, once := o.n, oncek := N6 (A0F b l s i).2 o.sec }], I9 (A0F b l s i).2 o.sec)
theorem A0l {b : Bn} {l : List Pr} {s : Ps} {i : Nat} {o : Pr} (h : l[i]? = some o) : A0F b l s (i + 1) = ((A0F b l s i).1 ++ [{ b with has := true, once := o.n, oncek := N6 (A0F b l s i).2 o.sec }], I9 (A0F b l s i).2 o.sec) := by
  simp only [A0F, h]
theorem A0x {b : Bn} {l : List Pr} {s : Ps} : ∀ {i : Nat}, i ≤ l.length → (A0F b l s i).1.length = i + 1 ∧ (A0F b l s i).2.ts.length ≤ s.ts.length + 2 * i
  | 0, _ => ⟨rfl, Nat.le_refl _⟩
  | i + 1, h => by
    have ih := A0x (b := b) (s := s) (i := i) (l := l) (by omega)
    rw [A0l (List.getElem?_eq_getElem (by omega))]
    have h2 := P3 (A0F b l s i).2 (l[i]'(by omega)).sec
    refine ⟨by simp [ih.1], ?_⟩
    show (I9 _ _).ts.length ≤ _
    omega
noncomputable def K9 (k : Ks) (s : Ps) : List Bn × Ps := match k.signed with
  | [] => ([], s)
  | x :: _ => A0F (A9w k x s) k.once (I9 (idS k s) x.sec) k.once.length
theorem A7z (pb : Nat) (s : Ps) (kb : Nat) (k : Ks) (va vg vq vo vm : Value) (rs ro rm : List (List Value)) (MP A : Mem) (hK : KyR A kb k va vg vq vo vm rs ro rm) (hP : Prm pb s MP) (hn : s.ts.length + 100 ≤ 1048576) (hG : Glb A) : FnX Tryz.prog 19 [.pointer (some ⟨kb, 0, none⟩), .pointer (some ⟨pb, 0, none⟩)] MP A fun q M J => Prm pb (idS k s) M ∧ ∃ p r, q = .agg #[p, r] ∧ By J p (idA k s) ∧ By J r (idG k s) := by
 have hkb := hK.blk_
 haveI := hK.agree.cel
 haveI := hK.sign.cel
 haveI := hK.signed.cel
 haveI := hK.once.cel
 haveI := hK.met.cel
 have pl := P3 s k.agree
 refine FnX.enterZ (N := 21) Tryz.func19 rfl rfl rfl fun w_ => ?_
 refine C4 (D4 0 1) (A3 ?_)
 refine A6 rfl (C5 (cs := [.slice none 0 0, .slice none 0 0]) kR rfl fun b4 => ?_)
 refine A0 (E1 0 1 4) (A5 (A3 (mv_ ?_)))
 refine A4 (F2 (e := 114) rfl rfl kR) rfl ?_
 refine A0 (E4 0 1 4 6) ?_
 refine D3 rfl ?_
 refine A8 (nx (E1 0 1 4) ?_)
 refine I2 (MP) (_) true (.range 13) [(0, 0), (1, 0), (2, 0), (3, 0), (4, 1), (6, 0), (7, 0), (8, 0), (9, 0), (10, 1), (5, 2), (11, 2), (12, 0), (13, 2)] kR kR PickC.perm fun hs K n0 hKm hKs hKn => ?_
 refine km_ hs ?_
 refine km_ hs ?_
 refine K6 hs rfl (F5 rfl) rfl ?_
 refine K6 hs rfl (qf_ 2 2) rfl ?_
 refine Q5 hs rfl hKs (G8 rfl kR (mA hkb) (by rfl)) ?_
 refine km_ hs ?_
 refine km_ hs ?_
 refine K6 hs rfl (F5 rfl) rfl ?_
 refine K6 hs rfl (qf_ 3 3) rfl ?_
 refine Q5 hs rfl hKs (G8 rfl kR (mA hkb) (by rfl)) ?_
 refine K8 _ _ rfl rfl (List.Perm.refl _) hKm fun w0 => (D9 (Mc := MP) (R := _) (aS rfl (aS rfl (a0))) kR PickC.perm (A0w pb s va k.agree MP _ hP (by omega) (hK.agree.mono SubC.sub) hG.up) rfl ?_)
 rintro v13 M13 J13 ⟨hP13, h13⟩ hKx13
 haveI := h13.cel
 refine K8 M13 _ rfl rfl PickC.perm (fun x hx => hKx13 (hKn rfl) x (by simpa using hx)) fun w0 => (D9 (Mc := M13) (R := _) (aS rfl (aS rfl (a0))) kR PickC.perm (B1o pb (I9 s k.agree) vg k.sign M13 _ hP13 (by omega) (hK.sign.mono SubC.sub) hG.up) rfl ?_)
 rintro v19 M19 J19 ⟨hP19, h19⟩ hKx19
 haveI := h19.cel
 refine K6 hs rfl (F8 (place := fun x => #[(0, 1), (1, 1)][x]?) (z := [.slice none 0 0, .slice none 0 0]) (fun _ => by kernel_rfl) (eS rfl (eS rfl e0)) (bdS 0 1 rfl (by rfl) (bdS 1 1 rfl (by rfl) bd0))) rfl ?_
 refine XK.tl rfl rfl rfl (A9 (vs := [v13, v19]) rfl rfl rfl kR (by rfl) (C1 h13.one (C1 h19.one K7)) UpC.upd ?_)
 refine P7 (D5 4) (C2 ?_)
 exact ⟨_, M19, [], A1k rfl rfl kR At.mem (by rfl), Fit.none (Fit.last PickC.perm), hP19, _, _, rfl, h13.mono SubC.sub, h19.mono SubC.sub⟩
theorem B9k (u d : Int) (pb : Nat) (s : Ps) (MP A : Mem) (hP : Prm pb s MP) (hn : s.ts.length + 200 ≤ 1048576) (hk : s.n + 100 < 1000000000) (hG : Glb A) : FnX Tryz.prog 22 [.pointer (some ⟨pb, 0, none⟩), .agg #[.int .i64 u, .int .i64 d]] MP A fun q M J => ∃ kb MK MP2, q = .pointer (some ⟨kb, 0, none⟩) ∧ M = MK ++ MP2 ∧ Kys (J ++ A) kb (A6G u d s).1 MK ∧ Prm pb (A6G u d s).2 MP2 := by
 have f1 := L3 s
 have f2 := L3 (D7 s)
 have f3 := A2V (k0N u d s) (D7 (D7 s))
 refine FnX.enterZ (N := 20) Tryz.func22 rfl rfl rfl fun w_ => ?_
 refine C4 (D4 0 1) (A3 ?_)
 refine A6 rfl (bx_ fun b3 => ?_)
 refine as_ (A0 (D4 0 3) ?_)
 refine I2 (MP) (_) true (.range 8) [(0, 1), (1, 0), (3, 0), (2, 2), (4, 2), (5, 0), (6, 2), (7, 0)] kR kR PickC.perm fun hs K n0 hKm hKs hKn => ?_
 refine Q5 hs rfl hKs (qw_ 2) ?_
 refine km_ hs ?_
 refine km_ hs ?_
 refine K8 _ _ rfl rfl (List.Perm.refl _) hKm fun w0 => (D9 (Mc := MP) (R := _) (aS rfl (a0)) kR PickC.perm (A0e pb s MP _ hP (by omega) (by omega) hG.up) rfl ?_)
 rintro v8 M8 J8 ⟨hP8, h8⟩ hKx8
 haveI := h8.cel
 refine K8 M8 _ rfl rfl PickC.perm (fun x hx => hKx8 (hKn rfl) x (by simpa using hx)) fun w0 => (D9 (Mc := M8) (R := _) (aS rfl (a0)) kR PickC.perm (A0e pb (D7 s) M8 _ hP8 (by omega) (by omega) hG.up) rfl ?_)
 rintro v10 M10 J10 ⟨hP10, h10⟩ hKx10
 haveI := h10.cel
 refine K6 hs rfl (F8 (place := fun x => #[(0, 2), (2, 1), (3, 1), (4, 1), (5, 1), (6, 1), (7, 1)][x]?) (z := [A2E, A2E, .slice none 0 0, .slice none 0 0, .slice none 0 0, .slice none 0 0, G6, .slice none 0 0]) (fun _ => by kernel_rfl) (eS rfl (eS rfl (eS rfl (eS rfl e0)))) (bdS 0 2 rfl (by rfl) (bdS 2 1 rfl (by rfl) (bdS 3 1 rfl (by rfl) (bdS 6 1 rfl (by rfl) bd0))))) rfl ?_
 refine K8 [] _ rfl rfl (List.Perm.refl _) (fun _ h => by cases h) fun w0 => (B5A rfl (by first | exact Cel.cel | rfl) rfl fun b12 => fun hk12 => ?_)
 dsimp only [List.cons_append, List.nil_append, List.append_eq]
 refine K6 hs rfl (I6 rfl) rfl ?_
 refine P7 (D4 0 5) (A3 (mv_ (mv_ ?_)))
 refine A6 rfl (D9 (Mc := (b12, blk [.int .i64 u, .int .i64 d, v8, v10, .slice none 0 0, .slice none 0 0, .int .u32 ((1 : Nat) : Int), .slice none 0 0] 114) :: M10) (R := _) (aS rfl (aS rfl a0)) kR PickC.perm (B5s b12 pb (k0N u d s) (D7 (D7 s)) [(b12, blk [.int .i64 u, .int .i64 d, v8, v10, .slice none 0 0, .slice none 0 0, .int .u32 ((1 : Nat) : Int), .slice none 0 0] 114)] M10 _ ⟨⟨v8, v10, _, _, _, [], [], [], [], [], [], rfl, h8.mono SubC.sub, h10.mono SubC.sub, Sl.nil, RwL.nil, Sl.nil, RwL.nil, Sl.nil, RwL.nil, show 1 < 4294967296 by decide, Nat.zero_le _, Nat.zero_le _, Nat.zero_le _⟩⟩ hP10 (by omega) (by omega) (show 1 + 100 < 4000000000 by decide) hG.up) rfl ?_)
 rintro v15 M15 J15 ⟨MK15, MP15, rfl, hK15, hP15⟩
 refine A0 (D4 0 5) (A3 (mv_ (mv_ ?_)))
 refine A6 rfl (D9 (Mc := MK15 ++ MP15) (R := _) (aS rfl (aS rfl a0)) kR PickC.perm (B9e b12 pb _ _ MK15 MP15 _ (hK15.mono SubC.sub) hP15 (by omega) (by omega) (by rw [A4s]; show 1 + 1 + 100 < 4000000000; decide) hG.up) rfl ?_)
 rintro v18 M18 J18 ⟨rfl, MK18, MP18, rfl, hK18, hP18⟩
 refine A0 (D5 5) (A3 (mv_ (as_ (A0 (D5 4) (C2 ?_)))))
 exact ⟨_, MK18 ++ MP18, [(b3, blk [.int .i64 u, .int .i64 d] 26)], I0 rfl rfl, Fit.pick (B := [_]) PickC.perm (Fit.last PickC.perm), _, MK18, MP18, rfl, rfl, hK18.mono SubC.sub, hP18⟩
theorem B1P (pb : Nat) (s : Ps) (kb : Nat) (k : Ks) (va vg vq vo vm : Value) (rs ro rm : List (List Value)) (x : Pr) (sl : List Pr) (MP A : Mem) (hK : KyR A kb k va vg vq vo vm rs ro rm) (hsg : k.signed = x :: sl) (hP : Prm pb s MP) (hn : s.ts.length + 100 ≤ 1048576) (hol : k.once.length ≤ 10) (hG : Glb A) : FnX Tryz.prog 16 [.pointer (some ⟨kb, 0, none⟩), .pointer (some ⟨pb, 0, none⟩)] MP A fun q M J => Prm pb (K9 k s).2 M ∧ ∃ rows, Rd J 10 q (K9 k s).1.length rows.flatten ∧ RwL bnR (J ++ A) rows (K9 k s).1 := by
 have hkb := hK.blk_
 haveI := hK.agree.cel
 haveI := hK.sign.cel
 haveI := hK.signed.cel
 haveI := hK.once.cel
 haveI := hK.met.cel
 have il := A1x k s
 obtain ⟨r0, hr0, vs_, vg_, rfl, hs_, hg_, hxn⟩ := hK.signedR.get 0 x (by rw [hsg]; rfl)
 haveI := hs_.cel
 haveI := hg_.cel
 refine FnX.enterZ (N := 62) Tryz.func16 rfl rfl rfl fun w_ => ?_
 refine C4 (D4 0 1) (A3 (as_ (A0 (D4 0 1) (A5 (A3 (mv_ ?_))))))
 refine A4 (F2 (e := 114) rfl rfl kR) rfl ?_
 refine A0 (E1 0 1 12) ?_
 refine D3 rfl ?_
 refine A8 (nx (D4 0 1) (A3 (mv_ ?_)))
 refine A4 (F5 rfl) rfl ?_
 refine A4 (qf_ 4 4) rfl ?_
 refine A4 (G8 rfl kR (mA hkb) (by rfl)) rfl ?_
 refine A4 (I4 (sz := 3) (a := 0) rfl rfl kR rfl hK.signed (by rw [hsg]; simp)) rfl ?_
 refine A4 (A0c rfl kR (hK.signed.mono SubC.sub) (hK.signedR.lens prT) (by decide) hr0) rfl ?_
 refine A6 rfl (C5 (cs := [.int .u32 0, .slice none 0 0, .slice none 0 0]) kR rfl fun b5 => ?_)
 refine A6 rfl (A9 (vs := [.int .u32 ((x.n : Nat) : Int), vs_, vg_]) rfl rfl rfl kR (by rfl) (C1 rfl (C1 hs_.one (C1 hg_.one K7))) UpC.upd ?_)
 refine A0 (E1 0 1 5) ?_
 refine I2 (MP) (_) true (.range 17) [(0, 0), (1, 0), (2, 0), (3, 1), (4, 0), (5, 0), (7, 0), (8, 1), (9, 0), (10, 0), (11, 1), (13, 0), (14, 1), (6, 3), (12, 3), (15, 3), (16, 4), (17, 2)] kR kR PickC.perm fun hs K n0 hKm hKs hKn => ?_
 refine km_ hs ?_
 refine K6 hs rfl (F5 rfl) rfl ?_
 refine K6 hs rfl (qf_ 0 0) rfl ?_
 refine Q5 hs rfl hKs (G9 (n := 2) rfl kR (mA hkb) TakeC.take) ?_
 refine km_ hs ?_
 refine km_ hs ?_
 refine K6 hs rfl (qf_ 0 0) rfl ?_
 refine Q5 hs rfl hKs ql_ ?_
 refine km_ hs ?_
 refine K6 hs rfl (qf_ 1 1) rfl ?_
 refine Q5 hs rfl hKs ql_ ?_
 refine K6 hs rfl (qf_ 2 2) rfl ?_
 refine Q5 hs rfl hKs ql_ ?_
 refine A1Z [⟨6, 25, none, MP, fun v B R => Prm pb (idS k s) B ∧ ∃ p q, v = .agg #[p, q] ∧ By R p (idA k s) ∧ By R q (idG k s)⟩, ⟨12, 31, some 6, [], fun v B R => Prm pb (I9 (idS k s) x.sec) B ∧ By R v (N6 (idS k s) x.sec)⟩, ⟨15, 34, none, [], fun v B R => B = [] ∧ ∃ p q u, v = .agg #[.int .i64 k.user, .int .i64 k.dev, p, q, .int .u32 ((x.n : Nat) : Int), u, vg_, .bool false, .int .u32 ((0 : Nat) : Int), .slice none 0 0] ∧ By R p (idA k s) ∧ By R q (idG k s) ∧ By R u (N6 (idS k s) x.sec)⟩, ⟨16, 6, none, [], fun v B _ => ∃ b, v = .pointer (some ⟨b, 0, none⟩) ∧ B = [(b, blk [.int .i64 0, .int .i64 0, .slice none 0 0, .slice none 0 0, .int .u32 0, .slice none 0 0, .slice none 0 0, .bool false, .int .u32 0, .slice none 0 0] 32)]⟩] (_) (fun bs => [bs 12, bs 15, bs 16]) (hKn rfl) (List.Perm.refl _) (show ∀ m ∈ ([MP, [], []] : List Mem), ∀ x ∈ m, K x.1 from C1 (hKm) (C1 (fun _ h => by cases h) (C1 (fun _ h => by cases h) (K7)))) kR (fun _ => by first | rfl | kernel_rfl)
  (C1 (fun _ _ _ _ h ⟨p1, p, q, e, p2, p3⟩ => ⟨p1, p, q, e, p2.mono h, p3.mono h⟩) (C1 (fun _ _ _ _ h ⟨p1, p2⟩ => ⟨p1, p2.mono h⟩) (C1 (fun _ _ _ _ h ⟨p1, p, q, u, e, p2, p3, p4⟩ => ⟨p1, p, q, u, e, p2.mono h, p3.mono h, p4.mono h⟩) (C1 (fun _ _ _ _ h hp => hp) (K7))))) (show List.Nodup [25, 31, 34, 6] by decide) (show List.Nodup [6, 12, 15, 16] by decide) (C1 (C8 rfl) (C1 (C8 rfl) (C1 (C8 rfl) (C1 (C8 rfl) (K7)))))
  (C1 ⟨_, rfl, fun vs bs R Rj wG hb hj hjr ha => ⟨.inl rfl, ?_⟩⟩ (C1 ⟨_, rfl, fun vs bs R Rj wG hb hj hjr ha => ⟨.inl rfl, ?_⟩⟩ (C1 ⟨_, rfl, fun vs bs R Rj wG hb hj hjr ha => ⟨.inl rfl, ?_⟩⟩ (C1 ⟨_, rfl, fun vs bs R Rj wG hb hj hjr ha => ⟨.inl rfl, ?_⟩⟩ (K7))))) ?_
 ·
  dsimp only [Gc.inp]
  refine D9 (Mc := MP) (R := []) (aS rfl (aS rfl (a0))) kR (by simp) (A7z pb s kb k va vg vq vo vm rs ro rm MP _ (hK.mono (fun x hx => by have := hb x (by simp [hx]); simp [this])) hP (by omega) (hG.sub (fun x hx => by have := hb x (by simp [hx]); simp [this]))) rfl ?_
  rintro v25 M25 J25 ⟨hP25, p, q, rfl, hp, hq⟩
  exact ⟨_, rfl, by simpa using hP25, p, q, rfl, hp.mono fun x hx => by simp [hx], hq.mono fun x hx => by simp [hx]⟩
 ·
  dsimp only [Gc.inp]
  have g6 := ha _ (List.mem_of_getElem? (i := 0) rfl) kR
  replace g6 : (fun v B R => Prm pb (idS k s) B ∧ ∃ p q, v = .agg #[p, q] ∧ By R p (idA k s) ∧ By R q (idG k s)) (vs 6) (bs 6) Rj := g6
  dsimp only at g6
  obtain ⟨hP25, -⟩ := g6
  refine D9 (Mc := bs 6) (R := []) (aS rfl (aS rfl (a0))) kR (by simp) (A0w pb (idS k s) vs_ x.sec (bs 6) _ hP25 (by omega) (hs_.mono (fun x hx => by have := hb x (by simp [hx]); simp [this])) (hG.sub (fun x hx => by have := hb x (by simp [hx]); simp [this]))) rfl ?_
  rintro v31 M31 J31 ⟨hP31, h31⟩
  exact ⟨_, rfl, by simpa using hP31, h31.mono fun x hx => by simp [hx]⟩
 ·
  dsimp only [Gc.inp]
  have g6 := ha _ (List.mem_of_getElem? (i := 0) rfl) kR
  replace g6 : (fun v B R => Prm pb (idS k s) B ∧ ∃ p q, v = .agg #[p, q] ∧ By R p (idA k s) ∧ By R q (idG k s)) (vs 6) (bs 6) Rj := g6
  dsimp only at g6
  have g12 := ha _ (List.mem_of_getElem? (i := 1) rfl) kR
  replace g12 : (fun v B R => Prm pb (I9 (idS k s) x.sec) B ∧ By R v (N6 (idS k s) x.sec)) (vs 12) (bs 12) Rj := g12
  dsimp only at g12
  obtain ⟨-, h31⟩ := g12
  obtain ⟨-, p, q, e25, hp, hq⟩ := g6
  haveI := h31.cel
  haveI := hp.cel
  haveI := hq.cel
  dsimp only [U2, List.map, List.cons_append, List.nil_append]
  rw [e25]
  exact OpQ.opL (F8 (place := fun x => #[(0, 2), (2, 2), (4, 1), (5, 1), (6, 1), (7, 1), (8, 1), (9, 1)][x]?) (z := [A2E, A2E, .slice none 0 0, .slice none 0 0, G6, .slice none 0 0, .slice none 0 0, .bool false, G6, .slice none 0 0]) (fun _ => by kernel_rfl) (eS rfl (eS rfl (eS rfl (eS rfl (eS rfl e0))))) (bdS 0 2 rfl (by rfl) (bdS 2 2 rfl (by rfl) (bdS 4 1 rfl (by rfl) (bdS 5 1 rfl (by rfl) (bdS 6 1 rfl (by rfl) bd0)))))) rfl ⟨_, rfl, rfl, p, q, _, rfl, hp, hq, h31⟩
 ·
  dsimp only [Gc.inp]
  exact C5 (cs := [A2E, A2E, .slice none 0 0, .slice none 0 0, G6, .slice none 0 0, .slice none 0 0, .bool false, G6, .slice none 0 0]) kR rfl fun b => ⟨_, rfl, b, rfl, rfl⟩
 intro vs bs Jn0 hφ hKK
 have kk6 := hKK _ (List.mem_of_getElem? (i := 0) rfl)
 dsimp only at kk6
 have kk12 := hKK _ (List.mem_of_getElem? (i := 1) rfl)
 dsimp only at kk12
 have kk15 := hKK _ (List.mem_of_getElem? (i := 2) rfl)
 dsimp only at kk15
 have kk16 := hKK _ (List.mem_of_getElem? (i := 3) rfl)
 dsimp only at kk16
 clear hKK
 have g6 := ofH hφ
 dsimp only at g6
 replace hφ := ofT hφ
 have g12 := ofH hφ
 dsimp only at g12
 replace hφ := ofT hφ
 have g15 := ofH hφ
 dsimp only at g15
 replace hφ := ofT hφ
 have g16 := ofH hφ
 dsimp only at g16
 clear hφ
 dsimp only [U2, A1w, List.foldr, List.map, List.cons_append, List.nil_append]
 generalize bs 6 = B25 at *
 generalize bs 12 = B31 at *
 generalize bs 15 = B34 at *
 generalize bs 16 = B6 at *
 generalize vs 6 = u25 at *
 generalize vs 12 = u31 at *
 generalize vs 15 = u34 at *
 generalize vs 16 = u6 at *
 obtain ⟨hP31, h31⟩ := g12
 clear g6
 obtain ⟨b6, rfl, rfl⟩ := g16
 obtain ⟨rfl, p, q, u, rfl, hp, hq, hu⟩ := g15
 haveI := hp.cel
 haveI := hq.cel
 haveI := hu.cel
 obtain ⟨bb, hbb⟩ : ∃ bb, A9w k x s = bb := ⟨_, rfl⟩
 obtain ⟨s2, hs2⟩ : ∃ s2, I9 (idS k s) x.sec = s2 := ⟨_, rfl⟩
 rw [hs2] at hP31
 have hs2l : s2.ts.length ≤ s.ts.length + 6 := by have := P3 (idS k s) x.sec; rw [hs2] at this; omega
 have hbun : K9 k s = A0F bb k.once s2 k.once.length := by unfold K9; rw [hsg, ← hbb, ← hs2]
 rw [hbun]
 have hbr : ∀ R, (∀ y, y ∈ Jn0 ++ [] ++ A → y ∈ R) → bnR R bb [.int .i64 k.user, .int .i64 k.dev, p, q, .int .u32 ((x.n : Nat) : Int), u, vg_, .bool false, .int .u32 ((0 : Nat) : Int), .slice none 0 0] := fun R hR => ⟨p, q, u, vg_, _, by rw [← hbb]; rfl, by rw [← hbb]; exact hp.mono hR, by rw [← hbb]; exact hq.mono hR, by rw [← hbb]; exact hu.mono hR, by rw [← hbb]; exact hg_.mono fun y hy => hR y (List.mem_append_right _ hy), by rw [← hbb]; exact By.nil, by rw [← hbb]; exact hxn, by rw [← hbb]; show 0 < 4294967296; decide⟩
 refine XK.tl rfl rfl rfl (A9 (vs := [.int .i64 k.user, .int .i64 k.dev, p, q, .int .u32 ((x.n : Nat) : Int), u, vg_, .bool false, .int .u32 ((0 : Nat) : Int), .slice none 0 0]) rfl rfl rfl kR (by rfl) (C1 rfl (C1 rfl (C1 hp.one (C1 hq.one (C1 rfl (C1 hu.one (C1 hg_.one al3))))))) UpC.upd ?_)
 refine P7 (E1 0 1 6) ?_
 refine A1M (B := [(b6, blk [.int .i64 k.user, .int .i64 k.dev, p, q, .int .u32 ((x.n : Nat) : Int), u, vg_, .bool false, .int .u32 ((0 : Nat) : Int), .slice none 0 0] 32)]) PickC.perm ?_
 refine A3 ?_
 refine A4 (qw_ 10) rfl ?_
 refine A6 rfl (C7 (e := 32) (sz := 10) (z := [A2E, A2E, .slice none 0 0, .slice none 0 0, G6, .slice none 0 0, .slice none 0 0, .bool false, G6, .slice none 0 0]) kR (eS rfl e0) (bdS 0 10 rfl (by rfl) bd0) rfl fun b36 => ?_)
 refine as_ (A0 (E4 0 1 6 7) (A5 (A3 (mv_ ?_))))
 refine A4 (F5 rfl) rfl ?_
 refine A4 (qf_ 5 5) rfl ?_
 refine A4 (G8 rfl kR (mA hkb) (by rfl)) rfl ?_
 refine A4 (H7 (sz := 3) rfl kR hK.once) rfl ?_
 refine mv_ (A0 (I1 1 6 7 40 41 42) (C0 ?_))
 refine F1 (α := Nat × (Value × List (List Value) × Mem) × Mem × Mem) (fun y => [(1, .pointer (some ⟨pb, 0, none⟩)), (6, .pointer (some ⟨b6, 0, none⟩)), (7, y.2.1.1), (40, vo), (41, .int .i64 ((k.once.length : Nat) : Int)), (42, .int .i64 ((y.1 : Nat) : Int))]) (fun y => y.2.1.2.2 ++ y.2.2.1) (fun y => y.2.2.2) (fun y => y.1 ≤ k.once.length ∧ Sl 10 y.2.1.1 (y.1 + 1) y.2.1.2.1.flatten y.2.1.2.2 ∧ RwL bnR (y.2.2.2 ++ A) y.2.1.2.1 (A0F bb k.once s2 y.1).1 ∧ Prm pb (A0F bb k.once s2 y.1).2 y.2.2.1 ∧ (b6, blk [.int .i64 k.user, .int .i64 k.dev, p, q, .int .u32 ((x.n : Nat) : Int), u, vg_, .bool false, .int .u32 ((0 : Nat) : Int), .slice none 0 0] 32) ∈ y.2.2.2 ∧ ∀ z, z ∈ Jn0 ++ [] ++ A → z ∈ y.2.2.2 ++ A) (fun y => k.once.length - y.1) (0, (.slice (some ⟨b36, 0, none⟩) 1 1, [[.int .i64 k.user, .int .i64 k.dev, p, q, .int .u32 ((x.n : Nat) : Int), u, vg_, .bool false, .int .u32 ((0 : Nat) : Int), .slice none 0 0]], [(b36, _)]), B31, _) ⟨Nat.zero_le _, Sl.fresh (n := 1) (cs := [.int .i64 k.user, .int .i64 k.dev, p, q, .int .u32 ((x.n : Nat) : Int), u, vg_, .bool false, .int .u32 ((0 : Nat) : Int), .slice none 0 0]) (e := 32) rfl (by decide), RwL.cons (hbr _ SubC.sub) RwL.nil, hP31, by simp, SubC.sub⟩ (I1 1 6 7 40 41 42) (Fit.pick (B := [_]) PickC.perm (Fit.last PickC.perm)) (fun _ h => h) ?_
 rintro ⟨i, ⟨vi, ri, Bi⟩, MPi, Ji⟩ ⟨hi, hsi, hri, hPi, hJb, hJn⟩
 dsimp only at hi hsi hri hPi hJb hJn ⊢
 haveI := hsi.cel
 have hbl := A0x (b := bb) (s := s2) hi
 refine A3 ?_
 refine A4 (F3 rfl rfl rfl) rfl ?_
 refine A0 (V5 1 6 7 40 41 42 43) (A5 ?_)
 refine C6 rfl (fun hc => ?_) (fun hc => ?_)
 ·
  have hlt : i < k.once.length := by simp at hc; omega
  obtain ⟨o, ho⟩ : ∃ o, k.once[i]? = some o := ⟨_, List.getElem?_eq_getElem hlt⟩
  obtain ⟨r1, hr1, vo1, vo2, rfl, ho1, ho2, hon⟩ := hK.onceR.get i o ho
  haveI := ho1.cel
  haveI := ho2.cel
  have hbs := A0l (b := bb) (s := s2) ho
  refine A8 (nx (I1 1 6 7 40 41 42) (A5 (C0 (A3 ?_))))
  refine A4 (I4 (sz := 3) rfl rfl kR rfl hK.once hlt) rfl ?_
  refine A4 (A0c rfl kR (hK.once.mono SubC.sub) (hK.onceR.lens prT) (by decide) hr1) rfl ?_
  refine A6 rfl (C5 (cs := [.int .u32 0, .slice none 0 0, .slice none 0 0]) kR rfl fun b9 => ?_)
  refine A6 rfl (A9 (vs := [.int .u32 ((o.n : Nat) : Int), vo1, vo2]) rfl rfl rfl kR (by rfl) (C1 rfl (C1 ho1.one (C1 ho2.one K7))) UpC.upd ?_)
  refine A0 (V5 1 6 7 9 40 41 42) (A3 ?_)
  refine A4 (H6 (n := 10) rfl kR (List.mem_append_right _ (List.mem_append_left _ hJb)) (by rfl)) rfl ?_
  refine A6 rfl (C5 (cs := [A2E, A2E, .slice none 0 0, .slice none 0 0, G6, .slice none 0 0, .slice none 0 0, .bool false, G6, .slice none 0 0]) kR rfl fun b10 => ?_)
  refine A6 rfl (A9 (vs := [.int .i64 k.user, .int .i64 k.dev, p, q, .int .u32 ((x.n : Nat) : Int), u, vg_, .bool false, .int .u32 ((0 : Nat) : Int), .slice none 0 0]) rfl rfl rfl kR (by rfl) (C1 rfl (C1 rfl (C1 hp.one (C1 hq.one (C1 rfl (C1 hu.one (C1 hg_.one al3))))))) UpC.upd ?_)
  refine A0 (A12 1 6 7 9 10 40 41 42) ?_
  refine I2 (MPi ++ [(b10, blk [.int .i64 k.user, .int .i64 k.dev, p, q, .int .u32 ((x.n : Nat) : Int), u, vg_, .bool false, .int .u32 ((0 : Nat) : Int), .slice none 0 0] 32)]) (_) true [0, 1, 2, 3, 4, 5, 6, 7, 8, 10] [(0, 0), (1, 1), (2, 0), (3, 0), (4, 1), (6, 0), (5, 2), (7, 2), (8, 0), (9, 2), (10, 0), (11, 2)] kR kR PickC.perm fun hs K n0 hKm hKs hKn => ?_
  refine K6 hs rfl (qf_ 0 0) rfl ?_
  refine Q5 hs rfl hKs ql_ ?_
  refine km_ hs ?_
  refine K6 hs rfl (qf_ 1 1) rfl ?_
  refine Q5 hs rfl hKs ql_ ?_
  refine K6 hs rfl (qf_ 7 7) rfl ?_
  refine K8 MPi _ rfl rfl PickC.perm (fun y hy => hKm y (by simp [hy])) fun w0 => (D9 (Mc := MPi) (R := _) (aS rfl (aS rfl (a0))) kR PickC.perm (A0w pb _ vo1 o.sec MPi _ hPi (by omega) (ho1.mono SubC.sub) hG.up) rfl ?_)
  rintro v52 M52 J52 ⟨hP52, h52⟩ hKx52
  haveI := h52.cel
  refine K8 [(b10, blk [.int .i64 k.user, .int .i64 k.dev, p, q, .int .u32 ((x.n : Nat) : Int), u, vg_, .bool false, .int .u32 ((0 : Nat) : Int), .slice none 0 0] 32)] _ rfl rfl PickC.perm (fun y hy => hKm y (by simp at hy; simp [hy])) fun w0 => (D8 rfl rfl rfl kR SetC.set UpC.upd ?_)
  intro hkS
  dsimp only [List.cons_append, List.nil_append, List.append_eq]
  refine K6 hs rfl (qf_ 8 8) rfl ?_
  refine XK.tl rfl rfl rfl (D8 rfl rfl rfl kR SetC.set UpC.upd ?_)
  refine K6 hs rfl (qf_ 9 9) rfl ?_
  refine XK.tl rfl rfl rfl (D8 rfl rfl h52.one kR SetC.set UpC.upd ?_)
  refine P7 (V5 1 6 7 10 40 41 42) (C3 (mv_ ?_))
  refine A4 (qw_ 10) rfl ?_
  refine A6 rfl (C7 (e := 32) (sz := 10) (z := [A2E, A2E, .slice none 0 0, .slice none 0 0, G6, .slice none 0 0, .slice none 0 0, .bool false, G6, .slice none 0 0]) kR (eS rfl e0) (bdS 0 10 rfl (by rfl) bd0) rfl fun b58 => ?_)
  refine A6 rfl (I8 (e := 32) (sz := 10) (by_ := 152) rfl rfl kR rfl hsi (Rd.whole (n := 1) At.mem (by rfl)) (C1 rfl (C1 rfl (C1 hp.one (C1 hq.one (C1 rfl (C1 hu.one (C1 hg_.one (C1 rfl (C1 rfl (C1 h52.one K7)))))))))) PickC.perm (by unfold maxLen; omega) (by omega) rfl fun v59 B59 hs59 => ?_)
  refine as_ (C9 (nb (nx (I1 1 6 7 40 41 42) (C3 ?_))))
  refine A4 (E3 ((i + 1 : Nat) : Int) rfl rfl (G2 (by omega) (by omega) (by omega))) rfl ?_
  refine mv_ (C9 ?_)
  exact rn (i + 1, (v59, ri ++ [[.int .i64 k.user, .int .i64 k.dev, p, q, .int .u32 ((x.n : Nat) : Int), u, vg_, .bool true, .int .u32 ((o.n : Nat) : Int), v52]], B59), M52, _) ⟨by dsimp only; omega, by simpa using hs59, by dsimp only; rw [hbs]; exact (hri.mono bnT SubC.sub).snoc ⟨p, q, u, vg_, v52, by rw [← hbb]; rfl, by rw [← hbb]; exact hp.mono fun z hz => SubC.sub z (hJn z hz), by rw [← hbb]; exact hq.mono fun z hz => SubC.sub z (hJn z hz), by rw [← hbb]; exact hu.mono fun z hz => SubC.sub z (hJn z hz), by rw [← hbb]; exact hg_.mono SubC.sub, h52.mono SubC.sub, by rw [← hbb]; exact hxn, hon⟩, by dsimp only; rw [hbs]; exact hP52, List.mem_append_right _ hJb, fun z hz => SubC.sub z (hJn z hz)⟩ (by dsimp only; omega) (I1 1 6 7 40 41 42) (Fit.pick PickC.perm (Fit.last PickC.perm)) (fun _ h => h)
 ·
  have hge : i = k.once.length := by simp at hc; omega
  subst hge
  refine E5 (te (re (be rfl (nx (D5 7) (A3 (mv_ (as_ (A0 (D5 4) ?_))))))))
  refine C2 ?_
  exact ⟨_, MPi, Bi, I0 rfl rfl, Fit.pick PickC.perm (Fit.last PickC.perm), hPi, ri, by rw [hbl.1]; exact hsi.rd fun x hx => by simp [hx], hri.mono bnT SubC.sub⟩

end Go.Proofs.YthbhpfefdnffaaaGreatDoor
namespace Go.Px
def appZ (P : Program) (t tn : TypeId) : Option (TypeId × List Value × Nat) :=
  match P.underlying tn with
  | some (.int _) => match P.underlying t with
    | some (.slice e) => match P.info? e with
      | some i => match i.zero with
        | some z => if i.size = z.cells.size ∧ 0 < i.size then some (e, z.cells.toList, i.bytes) else none
        | none => none
      | none => none
    | _ => none
  | _ => none
section z
variable {C : Cx} {l : Env} {M J : Mem} {K : Env → Mem → Mem → Prop} {d : Nat} {ty t tn e : TypeId} {pos : String} {af : Array Edge} {g : Option (Nat × Bool)} {x y : Operand}
end z
end Go.Px

namespace Go.Proofs.YthbhpfefdnffaaaGreatDoor
open Go.Px
theorem Kys.ex2 {R : Mem} {kb : Nat} {k : Ks} {M : Mem} (h : Kys R kb k M) : ∃ (va vg vs vo vm : Value) (rs ro rm : List (List Value)) (Bs Bo Bm : Mem), M = (kb, blk [.int .i64 k.user, .int .i64 k.dev, va, vg, vs, vo, .int .u32 ((k.next : Nat) : Int), vm] 114) :: (Bs ++ (Bo ++ Bm)) ∧
    (By R va k.agree ∧ By R vg k.sign ∧ Sl 3 vs k.signed.length rs.flatten Bs ∧ RwL prR R rs k.signed ∧ Sl 3 vo k.once.length ro.flatten Bo ∧ RwL prR R ro k.once ∧ Sl 2 vm k.met.length rm.flatten Bm ∧ RwL nmR R rm k.met ∧ k.next < 4294967296 ∧ k.signed.length ≤ 2 ∧ k.once.length ≤ 100 ∧ k.met.length ≤ 100000) ∧
    ∀ R', (∀ x, x ∈ R → x ∈ R') → (∀ x, x ∈ M → x ∈ R') → KyR R' kb k va vg vs vo vm rs ro rm := by
  obtain ⟨va, vg, vs, vo, vm, rs, ro, rm, Bs, Bo, Bm, h1, h2, h3, h4, h5, h6, h7, h8, h9, h10, h11, h12, h13⟩ := h.ex
  refine ⟨va, vg, vs, vo, vm, rs, ro, rm, Bs, Bo, Bm, h1, ⟨h2, h3, h4, h5, h6, h7, h8, h9, h10, h11, h12, h13⟩, fun R' hR hM => ?_⟩
  subst h1
  exact ⟨hM _ List.mem_cons_self, h2.mono hR, h3.mono hR, h4.rd fun x hx => hM x (by simp [hx]), h5.mono prT hR, h6.rd fun x hx => hM x (by simp [hx]), h7.mono prT hR, h8.rd fun x hx => hM x (by simp [hx]), h9.mono nmT hR, by omega, by omega, by omega, by omega⟩
def B2m (k : Ks) (n : Nat) : Ks := { k with once := k.once.filter fun x => !Z4 n x }
def meetK (k : Ks) (n : Nat) (w : List Nat) : Ks := if (A0S k.signed n).isSome && !decide (0 ≤ A1b (tstN n w) k.met) then { k with met := k.met ++ [⟨n, w⟩] } else k
theorem A5o {l : List Pr} {n : Nat} : (A0S l n).isSome = decide (n ∈ l.map (·.n)) := by
  rcases U5 (Z4 n) l with ⟨h1, h2⟩ | ⟨i, x, h1, h2, h3, h4⟩
  · rw [A3J h1]
    symm
    refine decide_eq_false fun h => ?_
    obtain ⟨x, hx, e⟩ := List.mem_map.1 h
    have := h2 x hx
    simp [Z4, e] at this
  · rw [Y9 h1 h2]
    symm
    have e : x.n = n := by simpa [Z4] using h3
    exact decide_eq_true (List.mem_map.2 ⟨x, List.mem_of_getElem? h2, e⟩)
theorem B7t {k : Ks} {n : Nat} (h : (A0S k.once n).isSome = false) : B2m k n = k := by
  have h2 : k.once.filter (fun x => !Z4 n x) = k.once := by
    refine List.filter_eq_self.2 fun x hx => ?_
    rw [A5o] at h
    have h3 := of_decide_eq_false h
    have : x.n ≠ n := fun e => h3 (List.mem_map.2 ⟨x, hx, e⟩)
    simp [Z4, this]
  unfold B2m; rw [h2]
theorem B4h {l : List Pr} {rows : List (List Value)} {n b : Nat} {A : Mem} (hR : RwL prR A rows l) (hb : (b, blk [.int .u32 ((n : Nat) : Int)] 30) ∈ A) :
    ∀ (j : Nat) (r : List Value), rows[j]? = some r → FnV Tryz.prog 75 (.agg r.toArray :: [.pointer (some ⟨b, 0, none⟩)]) A (.bool ((fun j => (l[j]?.map (Z4 n)).getD false) j)) := fun j r hr => by
  obtain ⟨x, hx, vs, vg, rfl, hs, hg, _⟩ := hR.of hr
  dsimp only
  rw [hx]
  exact B1A vs vg x n b _ hs hg hb
def B4i (k : Ks) : List (List Nat) := k.agree :: k.sign :: (k.signed ++ k.once).map (·.sec)
theorem C0t (kb : Nat) (k : Ks) (n : Nat) (MK A : Mem) (hK : Kys A kb k MK) (hrise : B1C k.once) : FnX Tryz.prog 27 [.pointer (some ⟨kb, 0, none⟩), .int .u32 ((n : Nat) : Int)] MK A fun q M J => q = .bool (A0S k.once n).isSome ∧ Kys (J ++ A) kb (B2m k n) M := by
 obtain ⟨va, vg, vq, vo, vm, rs, ro, rm, Bs, Bo, Bm, rfl, ⟨hva, hvg, hss, hrs, hso, hro, hsm, hrm, hn1, hn2, hn3, hn4⟩, hr⟩ := hK.ex2
 haveI := hva.cel
 haveI := hvg.cel
 haveI := hss.cel
 haveI := hso.cel
 haveI := hsm.cel
 refine FnX.enterZ (N := 24) Tryz.func27 rfl rfl rfl fun w_ => ?_
 refine C4 (D4 0 1) (A3 ?_)
 refine A6 rfl (bx_ fun b3 => ?_)
 refine as_ (A0 (D4 0 3) (A5 (A3 (mv_ ?_))))
 refine A4 ql_ rfl ?_
 refine D0 (aS rfl (aS rfl a0)) kR (B5r kb k va vg vq vo vm rs ro rm n _ (hr _ SubC.sub SubC.sub) hrise) rfl ?_
 rintro v10 M10 J10 ⟨rfl, q, rfl, hq⟩
 haveI := hq.cel
 refine mv_ ?_
 refine A4 (A2s rfl) rfl ?_
 refine A4 (A18 rfl) rfl ?_
 refine as_ (as_ (A0 (E1 0 3 6) ?_))
 cases hg : (A0S k.once n).isSome
 ·
  refine A3 (mv_ ?_)
  refine A4 (W4 rfl) rfl ?_
  refine A0 (E1 0 3 14) ?_
  refine E2 rfl ?_
  refine A3 (as_ (A0 (D5 4) (C2 (tr ?_))))
  exact ⟨_, (kb, blk [.int .i64 k.user, .int .i64 k.dev, va, vg, vq, vo, .int .u32 ((k.next : Nat) : Int), vm] 114) :: (Bs ++ (Bo ++ Bm)), [], I0 rfl rfl, Fit.none (Fit.pick (B := [_]) PickC.perm (Fit.last PickC.perm)), rfl, by rw [B7t hg]; exact ⟨⟨va, vg, vq, vo, vm, rs, ro, rm, Bs, Bo, Bm, rfl, hva.mono SubC.sub, hvg.mono SubC.sub, hss, hrs.mono prT SubC.sub, hso, hro.mono prT SubC.sub, hsm, hrm.mono nmT SubC.sub, hn1, hn2, hn3, hn4⟩⟩⟩
 ·
  refine A3 (mv_ ?_)
  refine A4 (W4 rfl) rfl ?_
  refine A0 (E1 0 3 14) ?_
  refine D3 rfl ?_
  refine A8 (nx (D4 0 3) (A3 (mv_ (mv_ ?_))))
  refine A4 (F5 rfl) rfl ?_
  refine A4 (qf_ 5 5) rfl ?_
  refine A4 ql_ rfl ?_
  refine A4 (A2S (aS rfl a0)) rfl ?_
  refine A6 rfl (D9 (Mc := Bo) (R := _) (aS rfl (aS rfl a0)) kR PickC.perm (by rw [← hro.len] at hso; exact A9s vo ro 75 [.pointer (some ⟨b3, 0, none⟩)] (fun j => (k.once[j]?.map (Z4 n)).getD false) Bo _ hso (hro.lens prT) (hro.ones prT) (by rw [hro.len]; omega) kR (B4h (hro.mono prT SubC.sub) At.mem)) rfl ?_)
  rintro v21 M21 J21 h21
  haveI := h21.cel
  refine A4 (F5 rfl) rfl ?_
  refine A4 (qf_ 5 5) rfl ?_
  refine A6 rfl (D8 rfl rfl h21.one kR SetC.set UpC.upd ?_)
  refine A0 kn (A3 (as_ (A0 (D5 4) (C2 ?_))))
  have hkm := hro.kpt (fun j => (k.once[j]?.map (Z4 n)).getD false) ro.length
  rw [A2k, hro.len, List.take_length] at hkm
  rw [hro.len] at h21
  have hkl : (k.once.filter fun x => !Z4 n x).length ≤ 100 := Nat.le_trans (List.length_filter_le _ _) hn3
  refine ⟨_, (kb, blk [.int .i64 k.user, .int .i64 k.dev, va, vg, vq, v21, .int .u32 ((k.next : Nat) : Int), vm] 114) :: (Bs ++ (M21 ++ Bm)), [], I0 rfl rfl, Fit.none (Fit.pick (B := [_]) PickC.perm (Fit.pick PickC.perm (Fit.pick PickC.perm (Fit.last PickC.perm)))), rfl, ⟨⟨va, vg, vq, v21, vm, rs, _, rm, Bs, M21, Bm, rfl, hva.mono SubC.sub, hvg.mono SubC.sub, hss, hrs.mono prT SubC.sub, ?_, hkm.mono prT SubC.sub, hsm, hrm.mono nmT SubC.sub, hn1, hn2, hkl, hn4⟩⟩⟩
  rw [hkm.len] at h21
  exact h21

def snN (k : Ks) : List Nat := k.signed.map (·.n)
def onN (k : Ks) : List Nat := k.once.map (·.n)
theorem B7u (k : Ks) (s : Ps) : onN (Z5 k s).1 = onN k := rfl
theorem A8H (k : Ks) (s : Ps) : ∀ i, onN (fillI k s i).1 = onN k ++ (List.range i).map (k.next + ·)
  | 0 => by simp [fillI]
  | i + 1 => by
    have h := A8H k s i
    have hn := A0k k s i
    show List.map (fun x : Pr => x.n) ((fillI k s i).1.once ++ [_]) = _
    unfold onN at h ⊢
    rw [List.map_append, h, List.range_succ, List.map_append, ← List.append_assoc]
    simp [hn]
theorem B7v (k : Ks) (s : Ps) : onN (A1Y k s).1 = onN k ++ (List.range (4 - k.once.length)).map (k.next + ·) := A8H k s _
theorem B1Q (k : Ks) (s : Ps) : (A1Y k s).1 = { k with once := (A1Y k s).1.once, next := k.next + (4 - k.once.length) } := A5m k s _
theorem B1R (k : Ks) (s : Ps) : (A1Y k s).1.next = k.next + (4 - k.once.length) := by rw [B1Q]
theorem B5t (k : Ks) (n : Nat) : onN (B2m k n) = (onN k).filter fun m => !decide (m = n) := by
  show (k.once.filter _).map _ = _
  unfold onN Z4
  rw [List.filter_map]; rfl
theorem B9l (u d : Int) (s : Ps) : onN (A6G u d s).1 = [2, 3, 4, 5] := by
  unfold A6G; rw [B7v, B7u]; rfl
theorem B4j (u d : Int) (s : Ps) : (A6G u d s).1.next = 6 := by
  unfold A6G; rw [B1R]; rfl
theorem B5u (k : Ks) : (onN k).length = k.once.length := List.length_map ..
theorem A7A {l : List Pr} (h : (l.map (·.n)).Pairwise (· < ·)) : B1C l := by
  intro i j x y hij hx hy
  have h1 := List.pairwise_iff_getElem.1 h i j (by rw [List.length_map]; exact (List.getElem?_eq_some_iff.1 hx).1) (by rw [List.length_map]; exact (List.getElem?_eq_some_iff.1 hy).1) hij
  obtain ⟨hi, ei⟩ := List.getElem?_eq_some_iff.1 hx
  obtain ⟨hj, ej⟩ := List.getElem?_eq_some_iff.1 hy
  simp only [List.getElem_map, ei, ej] at h1
  exact h1
theorem A6H {b : Bn} {l : List Pr} {s : Ps} : ∀ {i : Nat}, i ≤ l.length → (A0F b l s i).1[0]? = some b
  | 0, _ => rfl
  | i + 1, h => by
    rw [A0l (List.getElem?_eq_getElem (by omega))]
    have h1 := (A0x (b := b) (s := s) (l := l) (i := i) (by omega)).1
    show (_ ++ _)[0]? = _
    rw [List.getElem?_append_left (by omega)]
    exact A6H (by omega)
theorem A8I {b : Bn} {l : List Pr} {s : Ps} {j : Nat} {o : Pr} (ho : l[j]? = some o) : ∀ {i : Nat}, i ≤ l.length → j < i → (A0F b l s i).1[j + 1]? = some { b with has := true, once := o.n, oncek := N6 (A0F b l s j).2 o.sec }
  | 0, _, hj => by omega
  | i + 1, h, hj => by
    obtain ⟨x, hx⟩ : ∃ x, l[i]? = some x := ⟨_, List.getElem?_eq_getElem (by omega)⟩
    rw [A0l hx]
    have h1 := (A0x (b := b) (s := s) (l := l) (i := i) (by omega)).1
    show (_ ++ _)[j + 1]? = _
    by_cases e : j = i
    · subst e
      rw [hx] at ho
      cases ho
      rw [List.getElem?_append_right (by omega), h1, Nat.sub_self]; rfl
    · rw [List.getElem?_append_left (by omega)]
      exact A8I ho (by omega) (by omega)
theorem A2m {k : Ks} {s : Ps} {x : Pr} {sl : List Pr} (h : k.signed = x :: sl) : (K9 k s).1.length = k.once.length + 1 ∧ (K9 k s).1[0]? = some (A9w k x s) ∧ (∀ (j : Nat) (o : Pr), k.once[j]? = some o → (K9 k s).1[j + 1]? = some { A9w k x s with has := true, once := o.n, oncek := N6 (A0F (A9w k x s) k.once (I9 (idS k s) x.sec) j).2 o.sec }) ∧ (K9 k s).2.ts.length ≤ s.ts.length + 6 + 2 * k.once.length := by
  have e : K9 k s = A0F (A9w k x s) k.once (I9 (idS k s) x.sec) k.once.length := by unfold K9; rw [h]
  rw [e]
  have h1 := A0x (b := A9w k x s) (s := I9 (idS k s) x.sec) (l := k.once) (Nat.le_refl _)
  have h2 := A1x k s
  have h3 := P3 (idS k s) x.sec
  exact ⟨h1.1, A6H (Nat.le_refl _), fun j o ho => A8I ho (Nat.le_refl _) (List.getElem?_eq_some_iff.1 ho).1, by omega⟩
theorem B9m (m : Nat) : ((m % 2 : Nat) : Int) = md (m % 2 == 0) := by
  rcases (by omega : m % 2 = 0 ∨ m % 2 = 1) with h | h <;> rw [h] <;> rfl
def opK (m : Nat) : Ps := ⟨m % 2 == 0, [107, 101, 121, 115], 0, []⟩

end Go.Proofs.YthbhpfefdnffaaaGreatDoor
