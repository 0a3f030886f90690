/- Part 8 of the texts of this claim, one behind the other. -/
import Derived.Test.YthbhpfefdnffaaaGreatDoorB7
set_option linter.unusedVariables false
set_option linter.unusedSimpArgs false
set_option maxRecDepth 100000
namespace Go.Proofs.YthbhpfefdnffaaaGreatDoor
open Go.Px
def A6x (ws : List (List Nat)) : List Nat := ws.flatMap fun w => U5 w 32
def B0q (key : List Nat) (ws : List (List Nat)) (lb : List Nat) (n : Nat) : List Nat := T5 (A6v (U5 key 32) (A6x ws)) lb ((32 * n : Nat) : Int)
def B36 (b : List Nat) (n : Nat) : List (List Nat) := (List.range n).map fun i => (b.take (32 * i + 32)).drop (32 * i)
def drv (ofs : List Int) (lb : List Nat) (i : Nat) : Tm := ⟨5, ofs, lb, (i : Int)⟩
def A2L (st : List Tm × List Int) (w : List Nat) : List Tm × List Int := (rdT st.1 w, st.2 ++ [((rdI st.1 w : Nat) : Int)])
def A1Z (ts : List Tm) (key : List Nat) (ws : List (List Nat)) : List Tm × List Int := ws.foldl A2L (A2L (ts, []) key)
def B2V (ofs : List Int) (lb : List Nat) (st : List Tm × List (List Nat)) (i : Nat) : List Tm × List (List Nat) := (add st.1 (drv ofs lb i), st.2 ++ [bts ((at_ st.1 (drv ofs lb i) : Nat) : Int)])
def A0z (ts : List Tm) (ofs : List Int) (lb : List Nat) (n : Nat) : List Tm × List (List Nat) := (List.range n).foldl (B2V ofs lb) (ts, [])
def A8w (ts : List Tm) (key : List Nat) (ws : List (List Nat)) (lb : List Nat) (n : Nat) : List Tm × List (List Nat) := A0z (A1Z ts key ws).1 (A1Z ts key ws).2 lb n
def A6y (s : Ps) (key : List Nat) (ws : List (List Nat)) (lb : List Nat) (n : Nat) : Ps := if s.real then s else { s with ts := (A8w s.ts key ws lb n).1 }
def B1j (s : Ps) (key : List Nat) (ws : List (List Nat)) (lb : List Nat) (n : Nat) : List (List Nat) := if s.real then B36 (B0q key ws lb n) n else (A8w s.ts key ws lb n).2
theorem B2W {s : Ps} {key lb : List Nat} {ws : List (List Nat)} {n : Nat} (h : s.real = true) : A6y s key ws lb n = s := if_pos h
theorem B2X {s : Ps} {key lb : List Nat} {ws : List (List Nat)} {n : Nat} (h : s.real = false) : A6y s key ws lb n = { s with ts := (A8w s.ts key ws lb n).1 } := if_neg (by rw [h]; decide)
theorem B2Y {s : Ps} {key lb : List Nat} {ws : List (List Nat)} {n : Nat} (h : s.real = true) : B1j s key ws lb n = B36 (B0q key ws lb n) n := if_pos h
theorem B2Z {s : Ps} {key lb : List Nat} {ws : List (List Nat)} {n : Nat} (h : s.real = false) : B1j s key ws lb n = (A8w s.ts key ws lb n).2 := if_neg (by rw [h]; decide)
theorem B1k {ws : List (List Nat)} (h : ∀ w ∈ ws, ∀ x ∈ w, x < 256) : ∀ x ∈ A6x ws, x < 256 := by
  intro x hx
  obtain ⟨w, hw, hx⟩ := List.mem_flatMap.1 hx
  exact A3h (h w hw) 32 x hx
theorem A9l (ws : List (List Nat)) : (A6x ws).length = 32 * ws.length := by
  induction ws with
  | nil => rfl
  | cons w ws ih =>
    have : A6x (w :: ws) = U5 w 32 ++ A6x ws := rfl
    rw [this, List.length_append, ih, S6, List.length_cons]; omega
theorem A7y {ws : List (List Nat)} {i : Nat} (h : i < ws.length) : A6x (ws.take (i + 1)) = A6x (ws.take i) ++ U5 ws[i] 32 := by
  unfold A6x
  rw [List.take_add_one, List.getElem?_eq_getElem h, List.flatMap_append]; simp
theorem A7z {α β : Type} {f : β → α → β} {b : β} {l : List α} {i : Nat} (h : i < l.length) : (l.take (i + 1)).foldl f b = f ((l.take i).foldl f b) l[i] := by
  rw [List.take_add_one, List.getElem?_eq_getElem h, List.foldl_append]; rfl
theorem A1c {β : Type} {f : β → Nat → β} {b : β} (i : Nat) : (List.range (i + 1)).foldl f b = f ((List.range i).foldl f b) i := by
  rw [List.range_succ, List.foldl_append]; rfl
theorem B0r {ts : List Tm} {w : List Nat} (hw : ∀ x ∈ w, x < 256) (hl : w.length ≤ 1099511627776) (hts : ∀ t ∈ ts, Tmo t) : rdI ts w < (rdT ts w).length := by
  cases hp : plc w ts.length with
  | some j =>
    obtain ⟨h1, h2⟩ := W8 hp
    rw [h1, h2]; exact (B0o hp).1
  | none =>
    obtain ⟨h1, h2⟩ := A0e hp
    rw [h1, h2]
    cases hq : pos ts (B1f w) with
    | some j =>
      obtain ⟨h3, h4⟩ := A5A hq
      rw [h3, h4]
      exact (List.getElem?_eq_some_iff.1 (A5w (A4O hw hl) hts hq)).1
    | none =>
      obtain ⟨h3, h4⟩ := A89 hq
      rw [h3, h4]; simp
theorem B1l {ts : List Tm} {w : List Nat} (hw : ∀ x ∈ w, x < 256) (hl : w.length ≤ 1099511627776) (hts : ∀ t ∈ ts, Tmo t) : ∀ t ∈ rdT ts w, Tmo t := by
  cases hp : plc w ts.length with
  | some j => rw [(W8 hp).1]; exact hts
  | none =>
    rw [(A0e hp).1]
    unfold add
    split
    · exact hts
    · intro t ht
      rcases List.mem_append.1 ht with h | h
      · exact hts t h
      · rw [List.mem_singleton.1 h]; exact A4O hw hl
theorem B3a {ofs : List Int} {lb : List Nat} {i : Nat} (ho : ∀ x ∈ ofs, i64 x) (hl : ofs.length ≤ 1048576) (hb : B256 lb) (hbl : lb.length ≤ 1099511627776) (hi : i ≤ 100) : Tmo (drv ofs lb i) := ⟨show 5 < 256 by decide, show i64 (i : Int) by unfold i64; omega, ho, hl, hb, hbl⟩
structure RdOk (n0 k : Nat) (st : List Tm × List Int) : Prop where
  len : st.1.length ≤ n0 + k
  ofl : st.2.length = k
  of : ∀ x ∈ st.2, 0 ≤ x ∧ x < (st.1.length : Int)
  tmo : ∀ t ∈ st.1, Tmo t
theorem B3b {ts : List Tm} {w : List Nat} : ts.length ≤ (rdT ts w).length := by
  cases hp : plc w ts.length with
  | some j => rw [(W8 hp).1]; exact Nat.le_refl _
  | none =>
    rw [(A0e hp).1]
    unfold add
    split <;> simp
theorem RdOk.step {n0 k : Nat} {st : List Tm × List Int} (h : RdOk n0 k st) {w : List Nat} (hw : ∀ x ∈ w, x < 256) (hl : w.length ≤ 1099511627776) : RdOk n0 (k + 1) (A2L st w) := by
  refine ⟨?_, by simp [A2L, h.ofl], ?_, B1l hw hl h.tmo⟩
  · have := Q3 (ts := st.1) (ws := w)
    have := h.len
    show (rdT st.1 w).length ≤ _
    omega
  · intro x hx
    have hge := B3b (ts := st.1) (w := w)
    have hlt := B0r (ts := st.1) hw hl h.tmo
    show 0 ≤ x ∧ x < (((rdT st.1 w).length : Nat) : Int)
    rcases List.mem_append.1 hx with h1 | h1
    · have := h.of x h1; omega
    · rw [List.mem_singleton.1 h1]; omega
theorem A5C (b : List Nat) (n : Nat) : (B36 b n).length = n := by simp [B36]
theorem A10 (ts : List Tm) (ofs : List Int) (lb : List Nat) (n : Nat) : (A0z ts ofs lb n).2.length = n ∧ (A0z ts ofs lb n).1.length ≤ ts.length + n := by
  induction n with
  | zero => exact ⟨rfl, Nat.le_refl _⟩
  | succ n ih =>
    have e : A0z ts ofs lb (n + 1) = B2V ofs lb (A0z ts ofs lb n) n := A1c n
    rw [e]
    refine ⟨by simp [B2V, ih.1], ?_⟩
    have := A3e (ts := (A0z ts ofs lb n).1) (t := drv ofs lb n)
    show (add _ _).length ≤ _
    omega
theorem A9m (key : List Nat) (ws : List (List Nat)) (lb : List Nat) {n : Nat} (hn : n ≤ 8) : (B0q key ws lb n).length = 32 * n := by
  unfold B0q
  rw [A08]
  omega
theorem A7A (l : List Int) (x : Int) : A0y (l ++ [x]) = A0y l ++ [.int .i64 x] := by simp [A0y]
theorem A11 (pb : Nat) (s : Ps) (kv wv : Value) (key lb : List Nat) (ws : List (List Nat)) (n : Nat) (MP A : Mem) (hP : Prm pb s MP) (hk : By A kv key) (hw : LsV A wv ws) (hwn : ws.length ≤ 1000) (hlb : B256 lb) (hll : lb.length ≤ 1000) (hn0 : 1 ≤ n) (hn8 : n ≤ 8) (hn : s.ts.length ≤ 1040000) (hG : Glb A) : FnX Tryz.prog 105 [.pointer (some ⟨pb, 0, none⟩), kv, wv, .string (txt lb), .int .i64 (n : Int)] MP A fun q M J => Prm pb (A6y s key ws lb n) M ∧ LsV J q (B1j s key ws lb n) := by
 obtain ⟨sv, bt, bm, B, MT, rfl, hby, hT⟩ := hP.ex
 have hGG := hG
 obtain ⟨⟨ge0, gf0, h0⟩, ⟨ge1, gf1, h1⟩, ⟨ge4, gf4, h4⟩⟩ := hGG
 haveI := hby.cel
 haveI := hk.cel
 obtain ⟨wvs, hwr, hwl⟩ := hw.ex
 haveI := hwr.cel
 have hw256 : ∀ w ∈ ws, ∀ x ∈ w, x < 256 := fun w hw => by
  obtain ⟨j, hj⟩ := List.getElem?_of_mem hw
  obtain ⟨v, _, h⟩ := hwl.get j w hj
  exact h.lt
 have hTmo : ∀ t ∈ s.ts, Tmo t := by
  obtain ⟨_, _, _, _, _, _, _, _, _, _, _, h, _⟩ := hT
  exact h
 refine FnX.enterZ (N := 108) Tryz.func105 rfl rfl rfl fun w_ => ?_
 refine B0 (E4 0 1 2 3 4) (A1 (as_ (A0 (E4 0 1 2 3 4) (A1 (as_ (A0 (H9 0 1 2 3 4 11) (A3 ?_)))))))
 refine A1 (mv_ ?_)
 refine A2 (G4 (e := 117) rfl rfl kR) rfl ?_
 refine mv_ ?_
 refine E5 rfl rfl (OpQ.opL qm_ rfl ?_)
 refine E5 rfl rfl (OpQ.opL (E1 false rfl rfl (ltF (by omega))) rfl ?_)
 refine A2 (G2 rfl rfl) rfl ?_
 refine A0 (V6 0 1 2 3 4 11 26) ?_
 refine C6 rfl ?_
 refine A5 (nx (H9 0 1 2 3 4 11) (A3 (A1 (mv_ ?_))))
 refine A2 (G1 rfl) rfl ?_
 refine A2 (qf_ 0 0) rfl ?_
 refine A2 ql_ rfl ?_
 refine A2 (E0 rfl rfl rfl) rfl ?_
 refine A0 (V6 0 1 2 3 4 11 32) ?_
 refine C5 rfl (fun hc => ?_) (fun hc => ?_)
 ·
  have hr : s.real = true := by cases hq : s.real with | true => rfl | false => rw [hq] at hc; exact absurd hc (by decide)
  refine A1 (as_ (A0 (H9 1 2 3 4 11 12) (A3 (A1 (mv_ ?_)))))
  refine A2 (H5 (sz := 1) rfl kR hwr) rfl ?_
  refine mv_ (A0 (W4 1 3 4 11 12 33 34 35) (A6 ?_))
  refine E2 (α := Nat × Value × Mem × Mem) (fun x => [(1, kv), (3, .string (txt lb)), (4, .int .i64 (n : Int)), (11, .slice none 0 0), (12, x.2.1), (33, wv), (34, .int .i64 ((ws.length : Nat) : Int)), (35, .int .i64 ((x.1 : Nat) : Int))]) (fun x => x.2.2.1 ++ ((pb, blk [.int .u8 (md s.real), sv, .int .i64 (((s.n : Nat) : Int)), .pointer (some ⟨bt, 0, none⟩)] 117) :: (B ++ MT))) (fun x => x.2.2.2) (fun x => x.1 ≤ ws.length ∧ Sl 1 x.2.1 (A6x (ws.take x.1)).length (nums .u8 (A6x (ws.take x.1))) x.2.2.1) (fun x => ws.length - x.1) ⟨0, .slice none 0 0, [], []⟩ ⟨Nat.zero_le _, Sl.nil⟩ (W4 1 3 4 11 12 33 34 35) .rfl (fun _ h => h) ?_
  rintro ⟨i, v12, B12, J12⟩ ⟨hi, hs12⟩
  dsimp only at hi hs12 ⊢
  haveI := hs12.cel
  have hfl := A9l (ws.take i)
  rw [List.length_take] at hfl
  refine A1 ?_
  refine A2 (E0 rfl rfl rfl) rfl ?_
  refine A0 (A2j 1 3 4 11 12 33 34 35 36) (A3 ?_)
  refine C5 rfl (fun hc => ?_) (fun hc => ?_)
  ·
   have hlt : i < ws.length := by simp at hc; omega
   obtain ⟨v, hvi, hvb⟩ := hwl.at hlt
   haveI := hvb.cel
   have hft := A7y hlt
   refine A5 (nx (W4 1 3 4 11 12 33 34 35) (A3 (A6 (A1 ?_))))
   refine A2 (K0 (sz := 1) rfl rfl kR rfl hwr hlt) rfl ?_
   refine A2 (Y9 (u := v) (hwr.mono SubC.sub) rfl kR hvi) rfl ?_
   refine as_ (A0 (A2j 1 3 4 11 12 14 33 34 35) (A9 (mv_ (mv_ ?_))))
   refine C7 (aS rfl (aS rfl a0)) kR (A00 v ws[i] 32 _ (hvb.mono SubC.sub) (by decide)) rfl ?_
   rintro v41 M41 J41 ⟨rfl, hb41⟩
   have hb41r := hb41.rd
   rw [S6] at hb41r
   refine A4 rfl (F8 (e := 5) (sz := 1) (by_ := 1) rfl rfl kR rfl hs12 (hb41r.mono SubC.sub) F4 PickC.perm (by unfold maxLen; omega) (by omega) rfl fun v42 B42 hs42 => ?_)
   refine as_ (C2 (nb (nx (W4 1 3 4 11 12 33 34 35) (A9 ?_))))
   refine A2 (G5 (b := 1) rfl rfl rfl rfl (by omega)) rfl ?_
   refine mv_ (C2 ?_)
   exact rn ⟨i + 1, v42, B42, _⟩ ⟨by dsimp only; omega, V5 hs42 (by dsimp only; rw [hft, List.length_append, S6]) (by dsimp only; rw [hft, H4])⟩ (by dsimp only; omega) (W4 1 3 4 11 12 33 34 35) (Fit.pick PickC.perm (Fit.pick (B := [_]) PickC.perm (Fit.pick PickC.perm (Fit.last PickC.perm)))) (fun _ h => h)
  ·
   have hge : i = ws.length := by simp at hc; omega
   subst hge
   rw [List.take_length] at hs12 hfl
   refine D6 (te (re (be rfl (nx (E4 1 3 4 11 12) (A1 (mv_ ?_))))))
   refine C7 (aS rfl (aS rfl a0)) kR (A00 kv key 32 _ (hk.mono SubC.sub) (by decide)) rfl ?_
   rintro v45 M45 J45 ⟨rfl, hb45⟩
   refine mv_ ?_
   refine C7 (aS rfl (aS rfl a0)) kR ((A1k v45 v12 (U5 key 32) (A6x ws) _ (hb45.rd.mono SubC.sub) hb45.lt (by rw [S6]; decide) (hs12.rd SubC.sub) (B1k hw256) (by omega) (mA h0) (mA h1)).frz0) rfl ?_
   rintro v47 M47 J47 ⟨rfl, h47⟩
   refine mv_ ?_
   refine A4 rfl (Z5 (e := 5) rfl rfl hlb.lt kR kR kR rfl fun v49 B49 hs49 => ?_)
   refine A7t (B := B49) PickC.perm ?_
   refine mv_ ?_
   refine A2 (A3D (n : Int) rfl rfl (by split <;> omega)) rfl ?_
   refine A2 (Z4 (a := 32) rfl rfl rfl rfl (by omega)) rfl ?_
   refine C7 (aS rfl (aS rfl (aS rfl a0))) kR ((A1P v47 v49 (A6v (U5 key 32) (A6x ws)) lb ((32 * n : Nat) : Int) _ (by rw [A0d]; exact (h47.rd SubC.sub)) (A24 _ _) (by rw [A0d]; decide) (hs49.mono SubC.sub) hlb.lt (by omega) (by omega) (by omega) (mA h0) (mA h1)).frz0) rfl ?_
   rintro v53 M53 J53 ⟨rfl, h53⟩
   have hbl := A9m key ws lb hn8
   change Rd J53 1 v53 (B0q key ws lb n).length (nums .u8 (B0q key ws lb n)) at h53
   rw [hbl] at h53
   haveI := h53.cel
   have hb256 : ∀ x ∈ B0q key ws lb n, x < 256 := A35 _ _ _
   generalize hbigE : B0q key ws lb n = big at *
   refine as_ (A0 (D3 4 11 15) (A3 (A1 (mv_ ?_))))
   refine A2 (A3D (n : Int) rfl rfl (by split <;> omega)) rfl ?_
   refine mv_ (A0 (D8 11 15 55 56) (A6 ?_))
   refine E2 (α := Nat × Value × List Value × Mem) (fun x => [(11, x.2.1), (15, v53), (55, .int .i64 (n : Int)), (56, .int .i64 ((x.1 : Nat) : Int))]) (fun x => x.2.2.2 ++ ((pb, blk [.int .u8 (md s.real), sv, .int .i64 (((s.n : Nat) : Int)), .pointer (some ⟨bt, 0, none⟩)] 117) :: (B ++ MT))) (fun _ => J53) (fun x => x.1 ≤ n ∧ Sl 1 x.2.1 x.1 x.2.2.1 x.2.2.2 ∧ Lst J53 x.2.2.1 ((List.range x.1).map fun i => (big.take (32 * i + 32)).drop (32 * i))) (fun x => n - x.1) ⟨0, .slice none 0 0, [], []⟩ ⟨Nat.zero_le _, Sl.nil, Lst.nil⟩ (D8 11 15 55 56) (Fit.none (Fit.pick (B := [_]) PickC.perm (Fit.pick PickC.perm (Fit.last PickC.perm)))) (fun x hx => SubC.sub x hx) ?_
   rintro ⟨i, v11, vs11, B11⟩ ⟨hi, hs11, hl11⟩
   dsimp only at hi hs11 hl11 ⊢
   haveI := hs11.cel
   refine A1 ?_
   refine A2 (E0 rfl rfl rfl) rfl ?_
   refine A0 (E4 11 15 55 56 57) (A3 ?_)
   refine C5 rfl (fun hc => ?_) (fun hc => ?_)
   ·
    have hlt : i < n := by simp at hc; omega
    refine A5 (nx (D8 11 15 55 56) (A3 (A6 (A1 (mv_ (as_ (A0 (E4 11 15 16 55 56) (A9 ?_))))))))
    refine mv_ (mv_ (mv_ ?_))
    refine A2 (Z4 (a := 32) rfl rfl rfl rfl (by omega)) rfl ?_
    refine mv_ ?_
    refine A2 (Z4 (a := 32) rfl rfl rfl rfl (by omega)) rfl ?_
    refine A2 (G5 (b := 32) rfl rfl rfl rfl (by omega)) rfl ?_
    refine A2 (B2A (sz := 1) (a := 32 * i) (b := 32 * i + 32) rfl rfl rfl kR rfl rfl h53 (by omega) (by omega)) rfl ?_
    have hpt := (h53.hiV (32 * i + 32) (by omega)).loV (32 * i) (by omega)
    rw [Nat.mul_one, Nat.mul_one, ← A0H, ← Y7] at hpt
    generalize vLo (32 * i) 1 (vHi (32 * i + 32) v53) = vp at *
    haveI := hpt.cel
    have hpb : By J53 vp ((big.take (32 * i + 32)).drop (32 * i)) := ⟨by rw [List.length_drop, List.length_take, hbl, Nat.min_eq_left (by omega)]; exact hpt, fun x hx => hb256 x (List.mem_of_mem_take (List.mem_of_mem_drop hx)), by rw [List.length_drop, List.length_take, hbl]; omega⟩
    refine A4 rfl (C0 (e := 27) (sz := 1) (z := [.slice none 0 0]) kR (eS rfl e0) (bdS 0 1 rfl (by rfl) bd0) rfl fun b67 => ?_)
    refine A4 rfl (F8 (e := 27) (sz := 1) (by_ := 24) rfl rfl kR rfl hs11 (Rd.whole (n := 1) At.mem (by rfl)) (by intro c hc; rw [List.mem_singleton.1 hc]; exact hpt.one) PickC.perm (by unfold maxLen; omega) (by omega) rfl fun v68 B68 hs68 => ?_)
    refine as_ (C2 (nb (nx (D8 11 15 55 56) (A9 ?_))))
    refine A2 (G5 (b := 1) rfl rfl rfl rfl (by omega)) rfl ?_
    refine mv_ (C2 ?_)
    exact rn ⟨i + 1, v68, vs11 ++ [vp], B68⟩ ⟨by dsimp only; omega, hs68, by dsimp only; rw [List.range_succ, List.map_append]; exact hl11.snoc hpb⟩ (by dsimp only; omega) (D8 11 15 55 56) (Fit.pick PickC.perm (Fit.pick (B := [_]) PickC.perm (Fit.pick PickC.perm (Fit.last PickC.perm)))) (fun x hx => SubC.sub x hx)
   ·
    have hge : i = n := by simp at hc; omega
    subst hge
    refine D6 (te (re (be rfl (nx (D2 11) (A1 (mv_ (as_ (A0 (D2 10) ?_))))))))
    refine B4 (tr ?_)
    exact ⟨_, (pb, blk [.int .u8 (md s.real), sv, .int .i64 (((s.n : Nat) : Int)), .pointer (some ⟨bt, 0, none⟩)] 117) :: (B ++ MT), B11, I9 rfl rfl, (Fit.pick PickC.perm (Fit.pick (B := [_]) PickC.perm (Fit.pick PickC.perm (Fit.last PickC.perm)))), by rw [B2W hr]; exact ⟨sv, bt, bm, B, MT, rfl, hby, hT⟩, by rw [B2Y hr, hbigE]; exact ⟨vs11, by rw [A5C]; exact hs11.rd SubC.sub, hl11.mono SubC.sub⟩⟩
 ·
  have hr : s.real = false := by cases hq : s.real with | false => rfl | true => rw [hq] at hc; exact absurd hc (by decide)
  refine A5 (nx (H9 0 1 2 3 4 11) (A1 (mv_ (mv_ ?_))))
  refine A4 rfl (D4 (Mc := (pb, blk [.int .u8 (md s.real), sv, .int .i64 (((s.n : Nat) : Int)), .pointer (some ⟨bt, 0, none⟩)] 117) :: (B ++ MT)) (R := _) (aS rfl (aS rfl a0)) kR PickC.perm (A2K pb s kv key _ _ hP (by omega) (hk.mono SubC.sub) hG.up) rfl ?_)
  rintro v73 M73 J73 ⟨rfl, hP73⟩
  have hst0 : RdOk s.ts.length 0 (s.ts, []) := ⟨Nat.le_refl _, rfl, (fun x hx => by cases hx), hTmo⟩
  have hst := hst0.step hk.lt (by have := hk.len; omega)
  refine A4 rfl (C0 (e := 3) (sz := 1) (z := [.int .i64 0]) kR (eS rfl e0) (bdS 0 1 rfl (by rfl) bd0) rfl fun b74 => ?_)
  refine as_ (A0 (H9 0 2 3 4 11 17) (A3 (A1 (mv_ ?_))))
  refine A2 (H5 (sz := 1) rfl kR hwr) rfl ?_
  refine mv_ (A0 (W4 0 3 4 11 17 75 76 77) (A6 ?_))
  refine E2 (α := Nat × Value × Mem × Mem) (fun x => [(0, .pointer (some ⟨pb, 0, none⟩)), (3, .string (txt lb)), (4, .int .i64 (n : Int)), (11, .slice none 0 0), (17, x.2.1), (75, wv), (76, .int .i64 ((ws.length : Nat) : Int)), (77, .int .i64 ((x.1 : Nat) : Int))]) (fun x => x.2.2.1 ++ x.2.2.2) (fun x => []) (fun x => x.1 ≤ ws.length ∧ RdOk s.ts.length (1 + x.1) ((ws.take x.1).foldl A2L (A2L (s.ts, []) key)) ∧ Sl 1 x.2.1 (1 + x.1) (A0y ((ws.take x.1).foldl A2L (A2L (s.ts, []) key)).2) x.2.2.1 ∧ Prm pb { s with ts := ((ws.take x.1).foldl A2L (A2L (s.ts, []) key)).1 } x.2.2.2) (fun x => ws.length - x.1) ⟨0, .slice (some ⟨b74, 0, none⟩) 1 1, [(b74, _)], M73⟩ ⟨Nat.zero_le _, hst, Sl.fresh (n := 1) (sz := 1) (cs := A0y [((rdI s.ts key : Nat) : Int)]) (e := 3) (by rfl) (by decide), hP73⟩ (W4 0 3 4 11 17 75 76 77) (Fit.pick (B := [(b74, blk [.int .i64 ((rdI s.ts key : Nat) : Int)] 3)]) PickC.perm (Fit.last (B := M73) PickC.perm)) (fun _ h => by cases h) ?_
  rintro ⟨i, v17, B17, MR⟩ ⟨hi, hok, hs17, hPR⟩
  dsimp only at hi hok hs17 hPR ⊢
  haveI := hs17.cel
  refine A1 ?_
  refine A2 (E0 rfl rfl rfl) rfl ?_
  refine A0 (A2j 0 3 4 11 17 75 76 77 78) (A3 ?_)
  refine C5 rfl (fun hc => ?_) (fun hc => ?_)
  ·
   have hlt : i < ws.length := by simp at hc; omega
   obtain ⟨v, hvi, hvb⟩ := hwl.at hlt
   haveI := hvb.cel
   have hft := A7z (f := A2L) (b := A2L (s.ts, []) key) hlt
   have hok2 := hok.step hvb.lt (by have := hvb.len; omega)
   rw [← hft] at hok2
   have hokl := hok.len
   refine A5 (nx (W4 0 3 4 11 17 75 76 77) (A3 (A6 (A1 ?_))))
   refine A2 (K0 (sz := 1) rfl rfl kR rfl hwr hlt) rfl ?_
   refine A2 (Y9 (u := v) (hwr.mono SubC.sub) rfl kR hvi) rfl ?_
   refine as_ (A0 (A2j 0 3 4 11 17 19 75 76 77) (A9 (mv_ (mv_ (mv_ ?_)))))
   refine A4 rfl (D4 (Mc := MR) (R := _) (aS rfl (aS rfl a0)) kR PickC.perm (A2K pb _ v ws[i] _ _ hPR (by dsimp only; omega) (hvb.mono SubC.sub) hG.up) rfl ?_)
   rintro v84 M84 J84 ⟨rfl, hP84⟩
   refine A4 rfl (C0 (e := 3) (sz := 1) (z := [.int .i64 0]) kR (eS rfl e0) (bdS 0 1 rfl (by rfl) bd0) rfl fun b85 => ?_)
   refine A4 rfl (F8 (e := 3) (sz := 1) (by_ := 8) rfl rfl kR rfl hs17 (Rd.whole (n := 1) At.mem (by rfl)) (by simp [Value.oneCell']) PickC.perm (by unfold maxLen; omega) (by omega) rfl fun v86 B86 hs86 => ?_)
   refine as_ (C2 (nb (nx (W4 0 3 4 11 17 75 76 77) (A9 ?_))))
   refine A2 (G5 (b := 1) rfl rfl rfl rfl (by omega)) rfl ?_
   refine mv_ (C2 ?_)
   exact rn ⟨i + 1, v86, B86, M84⟩ ⟨by dsimp only; omega, hok2, (by dsimp only; rw [hft, show A2L _ ws[i] = (_, _ ++ [_]) from rfl]; dsimp only; rw [A7A]; exact hs86), (by dsimp only; rw [hft]; exact hP84)⟩ (by dsimp only; omega) (W4 0 3 4 11 17 75 76 77) (Fit.pick PickC.perm (Fit.last PickC.perm)) (fun _ h => by cases h)
  ·
   have hge : i = ws.length := by simp at hc; omega
   subst hge
   rw [List.take_length] at hok hs17 hPR
   change RdOk _ _ (A1Z s.ts key ws) at hok
   change Sl _ _ _ (A0y (A1Z s.ts key ws).2) _ at hs17
   change Prm _ { s with ts := (A1Z s.ts key ws).1 } _ at hPR
   refine D6 (te (re (be rfl (nx (E4 0 3 4 11 17) (A3 (A1 (mv_ ?_)))))))
   refine A2 (A3D (n : Int) rfl rfl (by split <;> omega)) rfl ?_
   refine mv_ (A0 (H9 0 3 11 17 89 90) (A6 ?_))
   have hokl := hok.len
   have hokf := hok.ofl
   have hoki : ∀ x ∈ (A1Z s.ts key ws).2, i64 x := fun x hx => by have := hok.of x hx; unfold i64; omega
   generalize hra : (A1Z s.ts key ws).1 = tr at *
   generalize hof : (A1Z s.ts key ws).2 = ofs at *
   refine E2 (α := Nat × Value × List Value × Mem × Mem × Mem) (fun x => [(0, .pointer (some ⟨pb, 0, none⟩)), (3, .string (txt lb)), (11, x.2.1), (17, v17), (89, .int .i64 (n : Int)), (90, .int .i64 ((x.1 : Nat) : Int))]) (fun x => x.2.2.2.1 ++ (B17 ++ x.2.2.2.2.1)) (fun x => x.2.2.2.2.2) (fun x => x.1 ≤ n ∧ Sl 1 x.2.1 x.1 x.2.2.1 x.2.2.2.1 ∧ Lst x.2.2.2.2.2 x.2.2.1 (A0z tr ofs lb x.1).2 ∧ Prm pb { s with ts := (A0z tr ofs lb x.1).1 } x.2.2.2.2.1) (fun x => n - x.1) ⟨0, .slice none 0 0, [], [], MR, []⟩ ⟨Nat.zero_le _, Sl.nil, Lst.nil, hPR⟩ (H9 0 3 11 17 89 90) .rfl (fun _ h => by cases h) ?_
   rintro ⟨i, v11, vs11, B11, MQ, JQ⟩ ⟨hi, hs11, hl11, hPQ⟩
   dsimp only at hi hs11 hl11 hPQ ⊢
   haveI := hs11.cel
   obtain ⟨hpl2, hpl1⟩ := A10 tr ofs lb i
   refine A1 ?_
   refine A2 (E0 rfl rfl rfl) rfl ?_
   refine A0 (V6 0 3 11 17 89 90 91) (A3 ?_)
   refine C5 rfl (fun hc => ?_) (fun hc => ?_)
   ·
    have hlt : i < n := by simp at hc; omega
    obtain ⟨sv2, bt2, bm2, B2, MT2, rfl, hby2, hT2⟩ := hPQ.ex
    dsimp only at hpl1 hT2 hby2 ⊢
    have hor := hs17.rd (R := B17) fun _ h => h
    rw [hokf.symm] at hor
    have hor : Rd B17 1 v17 ofs.length (A0y ofs) := A0L hor (by omega) rfl
    refine A5 (nx (H9 0 3 11 17 89 90) (A3 (A6 (A1 (mv_ (as_ (A0 (V6 0 3 11 17 20 89 90) (A9 ?_))))))))
    refine mv_ (mv_ ?_)
    refine A2 (G1 rfl) rfl ?_
    refine A2 (qf_ 3 3) rfl ?_
    refine A2 ql_ rfl ?_
    refine mv_ (mv_ (mv_ ?_))
    refine A2 (E7 (place := fun x => #[(0, 1), (1, 1), (2, 1), (3, 1)][x]?) (z := [.int .u8 0, .slice none 0 0, .string ByteArray.empty, .int .i64 0]) (fun _ => by kernel_rfl) (eS rfl (eS rfl (eS rfl (eS rfl e0)))) (bdS 0 1 rfl (by rfl) (bdS 1 1 rfl (by rfl) (bdS 2 1 rfl (by rfl) (bdS 3 1 rfl (by rfl) bd0))))) rfl ?_
    refine A4 rfl (D4 (Mc := MT2) (R := _) (aS rfl (aS rfl a0)) kR PickC.perm (P4 bt2 bm2 (A0z tr ofs lb i).1 v17 (drv ofs lb i) MT2 _ hT2 (by omega) (hor.mono SubC.sub) (B3a hoki (by omega) hlb (by omega) (by omega)) (mA h4)) rfl ?_)
    rintro v102 M102 J102 ⟨rfl, rfl, hT102⟩
    refine C7 (aS rfl a0) kR (U1 _ _) rfl ?_
    rintro v103 M103 J103 ⟨rfl, hb103⟩
    haveI := hb103.cel
    refine A4 rfl (C0 (e := 27) (sz := 1) (z := [.slice none 0 0]) kR (eS rfl e0) (bdS 0 1 rfl (by rfl) bd0) rfl fun b104 => ?_)
    refine A4 rfl (F8 (e := 27) (sz := 1) (by_ := 24) rfl rfl kR rfl hs11 (Rd.whole (n := 1) At.mem (by rfl)) (by intro c hc; rw [List.mem_singleton.1 hc]; exact hb103.one) PickC.perm (by unfold maxLen; omega) (by omega) rfl fun v105 B105 hs105 => ?_)
    refine as_ (C2 (nb (nx (H9 0 3 11 17 89 90) (A9 ?_))))
    refine A2 (G5 (b := 1) rfl rfl rfl rfl (by omega)) rfl ?_
    refine mv_ (C2 ?_)
    exact rn ⟨i + 1, v105, vs11 ++ [v103], B105, (pb, blk [.int .u8 (md s.real), sv2, .int .i64 (((s.n : Nat) : Int)), .pointer (some ⟨bt2, 0, none⟩)] 117) :: (B2 ++ M102), J103 ++ JQ⟩ ⟨by dsimp only; omega, hs105, (by dsimp only; rw [show A0z tr ofs lb (i + 1) = B2V ofs lb (A0z tr ofs lb i) i from A1c i]; exact (hl11.mono SubC.sub).snoc (hb103.mono SubC.sub)), (by dsimp only; rw [show A0z tr ofs lb (i + 1) = B2V ofs lb (A0z tr ofs lb i) i from A1c i]; exact ⟨sv2, bt2, bm2, B2, M102, rfl, hby2, hT102⟩)⟩ (by dsimp only; omega) (H9 0 3 11 17 89 90) (Fit.pick PickC.perm (Fit.pick PickC.perm (Fit.pick (B := [_]) PickC.perm (Fit.pick PickC.perm (Fit.last PickC.perm))))) (fun _ h => h)
   ·
    have hge : i = n := by simp at hc; omega
    subst hge
    refine D6 (te (re (be rfl (nx (D2 11) (A1 (mv_ (as_ (A0 (D2 10) ?_))))))))
    refine B4 ?_
    exact ⟨_, MQ, B11, I9 rfl rfl, (Fit.pick PickC.perm (Fit.last PickC.perm)), by rw [B2X hr, show A8w s.ts key ws lb i = A0z tr ofs lb i by unfold A8w; rw [hra, hof]]; exact hPQ, by rw [B2Z hr, show A8w s.ts key ws lb i = A0z tr ofs lb i by unfold A8w; rw [hra, hof]]; exact ⟨vs11, by rw [hpl2]; exact hs11.rd SubC.sub, hl11.mono SubC.sub⟩⟩

structure Tok (ts : List Tm) : Prop where
  tmo : ∀ t ∈ ts, Tmo t
  nd : ts.Nodup
theorem Tab.tok {bt bm : Nat} {ts : List Tm} {M : Mem} (h : Tab bt bm ts M) : Tok ts := by
  obtain ⟨_, _, _, _, _, _, _, _, _, _, _, h1, h2⟩ := h
  exact ⟨h1, h2⟩
theorem Tok.nil : Tok [] := ⟨(fun t h => by cases h), List.nodup_nil⟩
theorem A7B {ts l : List Tm} {i : Nat} {t : Tm} (h : ts[i]? = some t) : (ts ++ l)[i]? = some t := by
  rw [List.getElem?_append_left (List.getElem?_eq_some_iff.1 h).1]; exact h
theorem B3c {ts : List Tm} {t : Tm} {i : Nat} (h : Tok ts) (ht : ts[i]? = some t) : add ts t = ts ∧ at_ ts t = i := A5A (B2I h.tmo h.nd ht)
theorem A7C {i j : Nat} (hi : i < 18446744073709551616) (hj : j < 18446744073709551616) (h : bts ((i : Nat) : Int) = bts ((j : Nat) : Int)) : i = j := by
  have h1 := A4N ((i : Nat) : Int) 18446744073709551616
  have h2 := A4N ((j : Nat) : Int) 18446744073709551616
  have ui : u64 ((i : Nat) : Int) = i := by unfold u64; omega
  have uj : u64 ((j : Nat) : Int) = j := by unfold u64; omega
  rw [ui, if_pos hi] at h1
  rw [uj, if_pos hj] at h2
  rw [h, h2] at h1
  exact (Option.some.inj h1).symm
def B4P (ts : List Tm) (w : List Nat) : Prop := ∃ i, i < ts.length ∧ w = bts ((i : Nat) : Int)
theorem B4P.ext {ts l : List Tm} {w : List Nat} (h : B4P ts w) : B4P (ts ++ l) w := by
  obtain ⟨i, hi, e⟩ := h
  exact ⟨i, by rw [List.length_append]; omega, e⟩
theorem A4P {ts : List Tm} {i : Nat} (hi : i < ts.length) (hl : ts.length ≤ 1048576) : rdT ts (bts ((i : Nat) : Int)) = ts ∧ rdI ts (bts ((i : Nat) : Int)) = i := by
  refine W8 ?_
  rw [A4N, show u64 ((i : Nat) : Int) = i by unfold u64; omega, if_pos hi]
def Kok (s : Ps) (w : List Nat) : Prop := s.real = false → B4P s.ts w
structure Pext (s s' : Ps) : Prop where
  real : s'.real = s.real
  ts : ∃ l, s'.ts = s.ts ++ l
theorem Pext.refl (s : Ps) : Pext s s := ⟨rfl, [], by simp⟩
theorem Pext.trans {a b c : Ps} (h1 : Pext a b) (h2 : Pext b c) : Pext a c := by
  obtain ⟨l1, e1⟩ := h1.ts
  obtain ⟨l2, e2⟩ := h2.ts
  exact ⟨h2.real.trans h1.real, l1 ++ l2, by rw [e2, e1, List.append_assoc]⟩
theorem Kok.ext {s s' : Ps} {w : List Nat} (h : Kok s w) (he : Pext s s') : Kok s' w := fun hr => by
  obtain ⟨l, e⟩ := he.ts
  rw [e]
  exact (h (by rw [← he.real]; exact hr)).ext
theorem A6k (ws : List (List Nat)) (st : List Tm × List Int) : (ws.foldl A2L st).1.length ≤ st.1.length + ws.length := by
  induction ws generalizing st with
  | nil => exact Nat.le_refl _
  | cons w ws ih =>
    have h1 := ih (A2L st w)
    have h2 := Q3 (ts := st.1) (ws := w)
    have h3 : (A2L st w).1.length = (rdT st.1 w).length := rfl
    rw [List.foldl_cons, List.length_cons]; omega
theorem A3i (s : Ps) (key : List Nat) (ws : List (List Nat)) (lb : List Nat) (n : Nat) : (A6y s key ws lb n).ts.length ≤ s.ts.length + 1 + ws.length + n := by
  unfold A6y
  split
  · omega
  · have h1 := (A10 (A1Z s.ts key ws).1 (A1Z s.ts key ws).2 lb n).2
    have h2 := A6k ws (A2L (s.ts, []) key)
    have h3 := Q3 (ts := s.ts) (ws := key)
    have h4 : (A2L (s.ts, []) key).1.length = (rdT s.ts key).length := rfl
    show (A8w s.ts key ws lb n).1.length ≤ _
    have h5 : (A1Z s.ts key ws).1.length ≤ s.ts.length + 1 + ws.length := by
      show (ws.foldl A2L (A2L (s.ts, []) key)).1.length ≤ _
      omega
    unfold A8w
    omega
theorem A12 (s : Ps) (key : List Nat) (ws : List (List Nat)) (lb : List Nat) (n : Nat) : (A6y s key ws lb n).real = s.real ∧ (A6y s key ws lb n).n = s.n ∧ (A6y s key ws lb n).seed = s.seed := by
  unfold A6y
  split <;> exact ⟨rfl, rfl, rfl⟩

structure PrmT (pb bt bm : Nat) (s : Ps) (M : Mem) : Prop where
  ex : ∃ (sv : Value) (B MT : Mem), M = (pb, blk [.int .u8 (md s.real), sv, .int .i64 ((s.n : Nat) : Int), .pointer (some ⟨bt, 0, none⟩)] 117) :: (B ++ MT) ∧ By B sv s.seed ∧ Tab bt bm s.ts MT
theorem PrmT.p {pb bt bm : Nat} {s : Ps} {M : Mem} (h : PrmT pb bt bm s M) : Prm pb s M := by
  obtain ⟨sv, B, MT, h1, h2, h3⟩ := h.ex
  exact ⟨sv, bt, bm, B, MT, h1, h2, h3⟩
theorem Prm.t {pb : Nat} {s : Ps} {M : Mem} (h : Prm pb s M) : ∃ bt bm, PrmT pb bt bm s M := by
  obtain ⟨sv, bt, bm, B, MT, h1, h2, h3⟩ := h.ex
  exact ⟨bt, bm, sv, B, MT, h1, h2, h3⟩
def A7D (x : Int) : Tm := ⟨3, [x], [], 0⟩
def B1m (s : Ps) (w : List Nat) : Ps := { s with ts := add (rdT s.ts w) (A7D ((rdI s.ts w : Nat) : Int)) }
def B1n (s : Ps) (w : List Nat) : List Nat := bts ((at_ (rdT s.ts w) (A7D ((rdI s.ts w : Nat) : Int)) : Nat) : Int)
def B1o (s : Ps) (w u : List Nat) : Ps := { s with ts := add (rdT (rdT s.ts w) u) (agT (rdT (rdT s.ts w) u) ((rdI s.ts w : Nat) : Int) ((rdI (rdT s.ts w) u : Nat) : Int)) }
def B2g (s : Ps) (w u : List Nat) : List Nat := bts ((at_ (rdT (rdT s.ts w) u) (agT (rdT (rdT s.ts w) u) ((rdI s.ts w : Nat) : Int) ((rdI (rdT s.ts w) u : Nat) : Int)) : Nat) : Int)
theorem B3d {x : Int} (h : i64 x) : Tmo (A7D x) := ⟨show 3 < 256 by decide, show i64 (0 : Int) by unfold i64; omega, fun i hi => by rw [List.mem_singleton.1 hi]; exact h, show 1 ≤ 1048576 by decide, ⟨fun x hx => (List.not_mem_nil hx).elim⟩, show 0 ≤ 1099511627776 by decide⟩
theorem A3j {ts : List Tm} {w : List Nat} (hw : ∀ x ∈ w, x < 256) (hl : w.length ≤ 1099511627776) (hts : ∀ t ∈ ts, Tmo t) (hn : ts.length ≤ 1048576) : i64 ((rdI ts w : Nat) : Int) := by
  have h1 := B0r hw hl hts
  have h2 : (rdT ts w).length ≤ ts.length + 1 := Q3
  unfold i64; omega
theorem W9 (pb bt bm : Nat) (m k : Int) (sv : Value) [hsv : Cel sv [sv]] (ts : List Tm) (v : Value) (w : List Nat) (MT A : Mem) (hT : Tab bt bm ts MT) (hpb : (pb, blk [.int .u8 m, sv, .int .i64 k, .pointer (some ⟨bt, 0, none⟩)] 117) ∈ A) (hn : ts.length ≤ 1048576) (hv : By A v w) {e4 : TypeId} {f4 : Nat × Nat} (h4 : (2, Obj.cells (nums .u64 V0).toArray e4 f4) ∈ A) : FnX Tryz.prog 56 [.pointer (some ⟨pb, 0, none⟩), v] MT A fun q M J => q = .int .i64 ((rdI ts w : Nat) : Int) ∧ Tab bt bm (rdT ts w) M := by
 haveI := hv.cel
 have hvl := hv.len
 refine FnX.enterZ (N := 11) Tryz.func56 rfl rfl rfl fun w_ => ?_
 refine B0 (C9 0 1) (A1 (as_ (A0 (C9 0 1) (A1 (mv_ ?_)))))
 refine A2 (G1 rfl) rfl ?_
 refine A2 (qf_ 3 3) rfl ?_
 refine A2 ql_ rfl ?_
 refine mv_ ?_
 refine A4 rfl (D4 (Mc := MT) (R := _) (aS rfl (aS rfl a0)) kR PickC.perm (A32 bt bm ts v w MT _ hT hn (hv.rd.mono SubC.sub) hv.lt (by have := hv.len; omega) (SubC.sub _ h4)) rfl ?_)
 rintro v10 M10 J10 ⟨rfl, rfl, hT10⟩
 refine as_ (A0 (D2 4) (B4 ?_))
 exact ⟨_, M10, [], I9 rfl rfl, Fit.none (Fit.last PickC.perm), rfl, hT10⟩
theorem A4Q (pb bt bm : Nat) (s : Ps) (hr : s.real = false) (v : Value) (w : List Nat) (MP A : Mem) (hP : PrmT pb bt bm s MP) (hn : s.ts.length < 1048576) (hv : By A v w) (hG : Glb A) : FnX Tryz.prog 17 [.pointer (some ⟨pb, 0, none⟩), v] MP A fun q M J => PrmT pb bt bm (B1m s w) M ∧ By J q (B1n s w) := by
 obtain ⟨sv, B, MT, rfl, hby, hT⟩ := hP.ex
 have hmd : md s.real = 1 := by rw [hr]; rfl
 rw [hmd] at *
 obtain ⟨⟨ge0, gf0, h0⟩, ⟨ge1, gf1, h1⟩, ⟨ge4, gf4, h4⟩⟩ := hG
 haveI := hv.cel
 haveI := hby.cel
 have hvl := hv.len
 refine FnX.enterZ (N := 26) Tryz.func17 rfl rfl rfl fun w_ => ?_
 refine B0 (C9 0 1) (A1 (as_ (A0 (C9 0 1) (A3 (A1 (mv_ ?_))))))
 refine A2 (G4 (e := 117) rfl rfl kR) rfl ?_
 refine A0 (D3 0 1 6) ?_
 refine C6 rfl ?_
 refine A5 (nx (C9 0 1) (A3 (A1 (mv_ ?_))))
 refine A2 (G1 rfl) rfl ?_
 refine A2 (qf_ 0 0) rfl ?_
 refine A2 ql_ rfl ?_
 refine A2 (E1 false rfl rfl (eqF (by decide))) rfl ?_
 refine A0 (D3 0 1 11) ?_
 refine C6 rfl ?_
 refine A5 (nx (C9 0 1) ?_)
 refine I2 (MT) (_) true [0, 1, 2, 3, 4, 5, 6, 7, 8, 11] (zp 0 [0, 0, 0, 1, 0, 0, 2, 2, 0, 2, 2, 0]) kR kR PickC.perm fun hs K n0 hKm hKs hKn => ?_
 refine km_ hs ?_
 refine I6 hs rfl (G1 rfl) rfl ?_
 refine I6 hs rfl (qf_ 3 3) rfl ?_
 refine R5 hs rfl hKs ql_ ?_
 refine km_ hs ?_
 refine km_ hs ?_
 refine K8 _ _ rfl rfl (List.Perm.refl _) hKm fun w0 => (D4 (Mc := MT) (R := _) (aS rfl (aS rfl a0)) kR PickC.perm (W9 pb bt bm 1 _ sv s.ts v w MT _ hT At.mem (by omega) (hv.mono SubC.sub) (SubC.sub _ h4)) rfl ?_)
 rintro v21 M21 J21 ⟨rfl, hT21⟩ hKx
 refine K8 [] _ rfl rfl (List.Perm.refl _) (fun _ h => by cases h) fun w0 => (C0 (e := 3) (sz := 1) (z := [.int .i64 0]) kR (eS rfl e0) (bdS 0 1 rfl (by rfl) bd0) rfl fun b22 => fun _ => ?_)
 refine A4H (M' := (b22, blk [.int .i64 ((rdI s.ts w : Nat) : Int)] 3) :: (M21 ++ ((pb, blk [.int .u8 1, sv, .int .i64 (((s.n : Nat) : Int)), .pointer (some ⟨bt, 0, none⟩)] 117) :: (B ++ [])))) (by simp) ?_
 refine I6 hs rfl (E7 (place := fun x => #[(0, 1), (1, 1), (2, 1), (3, 1)][x]?) (z := [.int .u8 0, .slice none 0 0, .string ByteArray.empty, .int .i64 0]) (fun _ => by kernel_rfl) (eS rfl (eS rfl e0)) (bdS 0 1 rfl (by rfl) (bdS 1 1 rfl (by rfl) bd0))) rfl ?_
 refine P7 rfl rfl rfl (D4 (Mc := M21) (R := _) (aS rfl (aS rfl a0)) kR PickC.perm (P4 bt bm (rdT s.ts w) _ (A7D ((rdI s.ts w : Nat) : Int)) M21 _ hT21 (by have := Q3 (ts := s.ts) (ws := w); omega) (Rd.whole (n := 1) At.mem (by rfl)) (B3d (A3j hv.lt (by omega) hT.tok.tmo (by omega))) (SubC.sub _ h4)) rfl ?_)
 rintro v24 M24 J24 ⟨rfl, rfl, hT24⟩
 refine P7 rfl rfl rfl (E3 (aS rfl a0) kR (U1 _ _) rfl ?_)
 rintro v25 M25 J25 ⟨rfl, h25⟩
 refine I6 hs rfl (F3 rfl) rfl ?_
 refine N9 (D2 4) (B4 ?_)
 exact ⟨_, (pb, blk [.int .u8 1, sv, .int .i64 (((s.n : Nat) : Int)), .pointer (some ⟨bt, 0, none⟩)] 117) :: (B ++ M24), [], I9 rfl rfl, (Fit.none (Fit.pick (B := [_]) PickC.perm (Fit.pick PickC.perm (Fit.last PickC.perm)))), ⟨sv, B, M24, by rw [show md (B1m s w).real = 1 by show md s.real = 1; rw [hr]; rfl]; rfl, hby, hT24⟩, h25.mono SubC.sub⟩
theorem A4R (pb bt bm : Nat) (s : Ps) (hr : s.real = false) (v v2 : Value) (w u : List Nat) (MP A : Mem) (hP : PrmT pb bt bm s MP) (hn : s.ts.length + 1 < 1048576) (hv : By A v w) (hu : By A v2 u) (hG : Glb A) : FnX Tryz.prog 60 [.pointer (some ⟨pb, 0, none⟩), v, v2] MP A fun q M J => PrmT pb bt bm (B1o s w u) M ∧ By J q (B2g s w u) := by
 obtain ⟨sv, B, MT, rfl, hby, hT⟩ := hP.ex
 have hmd : md s.real = 1 := by rw [hr]; rfl
 rw [hmd] at *
 obtain ⟨⟨ge0, gf0, h0⟩, ⟨ge1, gf1, h1⟩, ⟨ge4, gf4, h4⟩⟩ := hG
 haveI := hv.cel
 haveI := hu.cel
 haveI := hby.cel
 have hvl := hv.len
 have hul := hu.len
 refine FnX.enterZ (N := 31) Tryz.func60 rfl rfl rfl fun w_ => ?_
 refine B0 (D3 0 1 2) (A1 (as_ (A0 (D3 0 1 2) (A3 (A1 (mv_ ?_))))))
 refine A2 (G4 (e := 117) rfl rfl kR) rfl ?_
 refine A0 (D8 0 1 2 8) ?_
 refine C6 rfl ?_
 refine A5 (nx (D3 0 1 2) (A3 (A1 (mv_ ?_))))
 refine A2 (G1 rfl) rfl ?_
 refine A2 (qf_ 0 0) rfl ?_
 refine A2 ql_ rfl ?_
 refine A2 (E1 false rfl rfl (eqF (by decide))) rfl ?_
 refine A0 (D8 0 1 2 13) ?_
 refine C6 rfl ?_
 refine A5 (nx (D3 0 1 2) ?_)
 refine I2 (MT) (_) true [0, 1, 2, 3, 4, 5, 6, 7, 8, 9, 12] [(0, 0), (1, 0), (2, 0), (3, 1), (4, 0), (5, 0), (7, 0), (8, 0), (6, 2), (9, 2), (10, 2), (11, 2), (12, 0)] kR kR PickC.perm fun hs K n0 hKm hKs hKn => ?_
 refine km_ hs ?_
 refine I6 hs rfl (G1 rfl) rfl ?_
 refine I6 hs rfl (qf_ 3 3) rfl ?_
 refine R5 hs rfl hKs ql_ ?_
 refine km_ hs ?_
 refine km_ hs ?_
 refine km_ hs ?_
 refine km_ hs ?_
 refine K8 _ _ rfl rfl (List.Perm.refl _) hKm fun w0 => (D4 (Mc := MT) (R := _) (aS rfl (aS rfl a0)) kR PickC.perm (W9 pb bt bm 1 _ sv s.ts v w MT _ hT At.mem (by omega) (hv.mono SubC.sub) (SubC.sub _ h4)) rfl ?_)
 rintro v25 M25 J25 ⟨rfl, hT25⟩ hKx
 refine K8 (M25 ++ []) _ rfl rfl PickC.perm (hKx (hKn rfl)) fun w0 => (D4 (Mc := M25) (R := _) (aS rfl (aS rfl a0)) kR PickC.perm (W9 pb bt bm 1 _ sv (rdT s.ts w) v2 u M25 _ hT25 At.mem (by have := Q3 (ts := s.ts) (ws := w); omega) (hu.mono SubC.sub) (SubC.sub _ h4)) rfl ?_)
 rintro v28 M28 J28 ⟨rfl, hT28⟩ hKy
 refine P7 rfl rfl rfl (D4 (Mc := M28) (R := _) (aS rfl (aS rfl (aS rfl a0))) kR PickC.perm (A6i bt bm (rdT (rdT s.ts w) u) _ _ M28 _ hT28 (by have := Q3 (ts := s.ts) (ws := w); have := Q3 (ts := rdT s.ts w) (ws := u); omega) (A3j hv.lt (by omega) hT.tok.tmo (by omega)) (A3j hu.lt (by omega) hT25.tok.tmo (by have := Q3 (ts := s.ts) (ws := w); omega)) (SubC.sub _ h4)) rfl ?_)
 rintro v29 M29 J29 ⟨rfl, rfl, hT29⟩
 refine P7 rfl rfl rfl (E3 (aS rfl a0) kR (U1 _ _) rfl ?_)
 rintro v30 M30 J30 ⟨rfl, h30⟩
 refine I6 hs rfl (F3 rfl) rfl ?_
 refine N9 (D2 6) (B4 ?_)
 exact ⟨_, (pb, blk [.int .u8 1, sv, .int .i64 (((s.n : Nat) : Int)), .pointer (some ⟨bt, 0, none⟩)] 117) :: (B ++ M29), [], I9 rfl rfl, (Fit.none (Fit.pick (B := [_]) PickC.perm (Fit.pick PickC.perm (Fit.last PickC.perm)))), ⟨sv, B, M29, by rw [show md (B1o s w u).real = 1 by show md s.real = 1; rw [hr]; rfl]; rfl, hby, hT29⟩, h30.mono SubC.sub⟩
theorem A9n (pb : Nat) (s : Ps) (hr : s.real = false) (v : Value) (w : List Nat) (MP A : Mem) (hP : Prm pb s MP) (hn : s.ts.length < 1048576) (hv : By A v w) (hG : Glb A) : FnX Tryz.prog 17 [.pointer (some ⟨pb, 0, none⟩), v] MP A fun q M J => Prm pb (B1m s w) M ∧ By J q (B1n s w) := by
  obtain ⟨bt, bm, h⟩ := hP.t
  exact (A4Q pb bt bm s hr v w MP A h hn hv hG).mono fun q M J ⟨h1, h2⟩ => ⟨h1.p, h2⟩
theorem A9o (pb : Nat) (s : Ps) (hr : s.real = false) (v v2 : Value) (w u : List Nat) (MP A : Mem) (hP : Prm pb s MP) (hn : s.ts.length + 1 < 1048576) (hv : By A v w) (hu : By A v2 u) (hG : Glb A) : FnX Tryz.prog 60 [.pointer (some ⟨pb, 0, none⟩), v, v2] MP A fun q M J => Prm pb (B1o s w u) M ∧ By J q (B2g s w u) := by
  obtain ⟨bt, bm, h⟩ := hP.t
  exact (A4R pb bt bm s hr v v2 w u MP A h hn hv hu hG).mono fun q M J ⟨h1, h2⟩ => ⟨h1.p, h2⟩

def A6z (x : Int) (a b : List Nat) : Tm := ⟨6, [x], mark a ++ mark b, 0⟩
def B37 (x : Int) (m : List Nat) : Tm := ⟨7, [x], m, 0⟩
def B4a (s : Ps) (w : List Nat) (f : Int → Tm) : Ps := { s with ts := add (rdT s.ts w) (f ((rdI s.ts w : Nat) : Int)) }
def B4Q (s : Ps) (w : List Nat) (f : Int → Tm) : List Nat := bts ((at_ (rdT s.ts w) (f ((rdI s.ts w : Nat) : Int)) : Nat) : Int)
theorem B3e {x : Int} (h : i64 x) {a b : List Nat} (ha : ∀ y ∈ a, y < 256) (hb : ∀ y ∈ b, y < 256) (la : a.length ≤ 16777216) (lb : b.length ≤ 16777216) : Tmo (A6z x a b) := by
  haveI : B256 a := ⟨ha⟩
  haveI : B256 b := ⟨hb⟩
  have h1 := A1z a (by omega)
  have h2 := A1z b (by omega)
  exact ⟨show 6 < 256 by decide, show i64 (0 : Int) by unfold i64; omega, fun i hi => by rw [List.mem_singleton.1 hi]; exact h, show 1 ≤ 1048576 by decide, inferInstanceAs (B256 (mark a ++ mark b)), by show (mark a ++ mark b).length ≤ _; rw [List.length_append]; omega⟩
theorem A7E (pb bt bm : Nat) (s : Ps) (hr : s.real = false) (v v2 v3 : Value) (w wa wb : List Nat) (MP A : Mem) (hP : PrmT pb bt bm s MP) (hn : s.ts.length < 1048576) (hv : By A v w) (hya : By A v2 wa) (hyb : By A v3 wb) (hG : Glb A) : FnX Tryz.prog 91 [.pointer (some ⟨pb, 0, none⟩), v, v2, v3] MP A fun q M J => PrmT pb bt bm (B4a s w fun x => A6z x wa wb) M ∧ By J q (B4Q s w fun x => A6z x wa wb) := by
 obtain ⟨sv, B, MT, rfl, hby, hT⟩ := hP.ex
 have hmd : md s.real = 1 := by rw [hr]; rfl
 rw [hmd] at *
 obtain ⟨⟨ge0, gf0, h0⟩, ⟨ge1, gf1, h1⟩, ⟨ge4, gf4, h4⟩⟩ := hG
 haveI := hv.cel
 haveI := hya.cel
 haveI := hyb.cel
 haveI := hby.cel
 have hvl := hv.len
 have hal := hya.len
 have hbl := hyb.len
 refine FnX.enterZ (N := 38) Tryz.func91 rfl rfl rfl fun w_ => ?_
 refine B0 (D8 0 1 2 3) (A1 (as_ (A0 (D8 0 1 2 3) (A3 (A1 (mv_ ?_))))))
 refine A2 (G4 (e := 117) rfl rfl kR) rfl ?_
 refine A0 (E4 0 1 2 3 10) ?_
 refine C6 rfl ?_
 refine A5 (nx (D8 0 1 2 3) (A3 (A1 (mv_ ?_))))
 refine A2 (G1 rfl) rfl ?_
 refine A2 (qf_ 0 0) rfl ?_
 refine A2 ql_ rfl ?_
 refine A2 (E1 false rfl rfl (eqF (by decide))) rfl ?_
 refine A0 (E4 0 1 2 3 15) ?_
 refine C6 rfl ?_
 refine A5 (nx (D8 0 1 2 3) ?_)
 refine I2 (MT) (_) true [0, 1, 2, 3, 4, 5, 6, 7, 8, 9, 10, 11, 12, 13, 16] [(0, 0), (1, 0), (2, 0), (3, 1), (4, 0), (5, 0), (8, 0), (10, 0), (6, 2), (7, 3), (9, 3), (11, 3), (12, 4), (13, 0), (14, 2), (15, 2), (16, 0)] kR kR PickC.perm fun hs K n0 hKm hKs hKn => ?_
 refine km_ hs ?_
 refine I6 hs rfl (G1 rfl) rfl ?_
 refine I6 hs rfl (qf_ 3 3) rfl ?_
 refine R5 hs rfl hKs ql_ ?_
 refine km_ hs ?_
 refine km_ hs ?_
 refine km_ hs ?_
 refine km_ hs ?_
 refine K8 _ _ rfl rfl (List.Perm.refl _) hKm fun w0 => (D4 (Mc := MT) (R := _) (aS rfl (aS rfl a0)) kR PickC.perm (W9 pb bt bm 1 _ sv s.ts v w MT _ hT At.mem (by omega) (hv.mono SubC.sub) (SubC.sub _ h4)) rfl ?_)
 rintro v28 M28 J28 ⟨rfl, hT28⟩ hKx
 refine A0Y [⟨7, 29, fun v B _ => ∃ b, v = .slice (some ⟨b, 0, none⟩) 1 1 ∧ B = [(b, blk [.int .i64 ((rdI s.ts w : Nat) : Int)] 3)]⟩, ⟨9, 31, fun v B _ => B = [] ∧ v = .string (txt (mark wa))⟩, ⟨11, 33, fun v B _ => B = [] ∧ v = .string (txt (mark wb))⟩, ⟨12, 34, fun v B _ => B = [] ∧ v = .string (txt (mark wa ++ mark wb))⟩]
  (A7 (fun _ _ _ _ _ h => h) (A7 (fun _ _ _ _ _ h => h) (A7 (fun _ _ _ _ _ h => h) (A7 (fun _ _ _ _ _ h => h) (I5))))) (show List.Nodup [29, 31, 33, 34] by decide) (show List.Nodup [7, 9, 11, 12] by decide) (A7 (C1 rfl) (A7 (C1 rfl) (A7 (C1 rfl) (A7 (C1 rfl) (I5)))))
  (A7 ⟨_, rfl, fun vs bs R w hb ha => ⟨.inl rfl, ?_⟩⟩ (A7 ⟨_, rfl, fun vs bs R w hb ha => ⟨.inl rfl, ?_⟩⟩ (A7 ⟨_, rfl, fun vs bs R w hb ha => ⟨.inl rfl, ?_⟩⟩ (A7 ⟨_, rfl, fun vs bs R w hb ha => ⟨.inl rfl, ?_⟩⟩ (I5))))) ?_
 ·
  exact C0 (e := 3) (sz := 1) (z := [.int .i64 0]) kR (eS rfl e0) (bdS 0 1 rfl (by rfl) bd0) rfl fun b => ⟨_, rfl, b, rfl, rfl⟩
 ·
  exact Q0 (aS rfl a0) kR (A3W v2 wa _ (hya.rd.mono fun x hx => hb _ (SubC.sub x hx)) (hb := hya.b256) (by have := hya.len; omega) (hb _ (SubC.sub _ h4))) rfl ⟨_, rfl, rfl, rfl⟩
 ·
  exact Q0 (aS rfl a0) kR (A3W v3 wb _ (hyb.rd.mono fun x hx => hb _ (SubC.sub x hx)) (hb := hyb.b256) (by have := hyb.len; omega) (hb _ (SubC.sub _ h4))) rfl ⟨_, rfl, rfl, rfl⟩
 ·
  have g9 := ha _ (List.mem_of_getElem? (i := 1) rfl) kR
  replace g9 : (fun v B _ => B = [] ∧ v = .string (txt (mark wa))) (vs 9) (bs 9) R := g9
  dsimp only at g9
  have g11 := ha _ (List.mem_of_getElem? (i := 2) rfl) kR
  replace g11 : (fun v B _ => B = [] ∧ v = .string (txt (mark wb))) (vs 11) (bs 11) R := g11
  dsimp only at g11
  obtain ⟨-, h9⟩ := g9
  obtain ⟨-, h11⟩ := g11
  exact OpQ.opL (A0V (ws := mark wa) (ws' := mark wb) (by rw [← h9]; rfl) (by rw [← h11]; rfl) rfl rfl (by have h1 := A1z wa (by omega); have h2 := A1z wb (by omega); omega)) rfl ⟨_, rfl, rfl, rfl⟩
 intro vs bs Jn0 hφ
 have g7 := ofH hφ
 dsimp only at g7
 replace hφ := ofT hφ
 have g9 := ofH hφ
 dsimp only at g9
 replace hφ := ofT hφ
 have g11 := ofH hφ
 dsimp only at g11
 replace hφ := ofT hφ
 have g12 := ofH hφ
 dsimp only at g12
 clear hφ
 dsimp only [T9, N7, List.map, List.flatten, List.cons_append, List.nil_append]
 generalize bs 7 = B29 at *
 generalize bs 9 = B31 at *
 generalize bs 11 = B33 at *
 generalize bs 12 = B34 at *
 generalize vs 7 = u29 at *
 generalize vs 9 = u31 at *
 generalize vs 11 = u33 at *
 generalize vs 12 = u34 at *
 obtain ⟨b29, rfl, rfl⟩ := g7
 obtain ⟨rfl, rfl⟩ := g9
 obtain ⟨rfl, rfl⟩ := g11
 obtain ⟨rfl, rfl⟩ := g12
 dsimp only [List.append_eq, List.nil_append, List.cons_append]
 refine I6 hs rfl (E7 (place := fun x => #[(0, 1), (1, 1), (2, 1), (3, 1)][x]?) (z := [.int .u8 0, .slice none 0 0, .string ByteArray.empty, .int .i64 0]) (fun _ => by kernel_rfl) (eS rfl (eS rfl (eS rfl e0))) (bdS 0 1 rfl (by rfl) (bdS 1 1 rfl (by rfl) (bdS 2 1 rfl (by rfl) bd0)))) rfl ?_
 refine P7 rfl rfl rfl (D4 (Mc := M28) (R := _) (aS rfl (aS rfl a0)) kR PickC.perm (P4 bt bm (rdT s.ts w) _ (A6z ((rdI s.ts w : Nat) : Int) wa wb) M28 _ hT28 (by have := Q3 (ts := s.ts) (ws := w); omega) (Rd.whole (n := 1) At.mem (by rfl)) (B3e (A3j hv.lt (by omega) hT.tok.tmo (by omega)) hya.lt hyb.lt hya.len hyb.len) (SubC.sub _ h4)) rfl ?_)
 rintro v36 M36 J36 ⟨rfl, rfl, hT36⟩
 refine P7 rfl rfl rfl (E3 (aS rfl a0) kR (U1 _ _) rfl ?_)
 rintro v37 M37 J37 ⟨rfl, h37⟩
 refine I6 hs rfl (F3 rfl) rfl ?_
 refine N9 (D2 8) (B4 ?_)
 exact ⟨_, (pb, blk [.int .u8 1, sv, .int .i64 (((s.n : Nat) : Int)), .pointer (some ⟨bt, 0, none⟩)] 117) :: (B ++ M36), [], I9 rfl rfl, (Fit.none (Fit.pick (B := [_]) PickC.perm (Fit.pick PickC.perm (Fit.last PickC.perm)))), ⟨sv, B, M36, by rw [show md (B4a s w (fun x => A6z x wa wb)).real = 1 by show md s.real = 1; rw [hr]; rfl]; rfl, hby, hT36⟩, h37.mono SubC.sub⟩

end Go.Proofs.YthbhpfefdnffaaaGreatDoor
namespace Go.Px
abbrev p25 : Nat := 57896044618658097711785492504343953926634992332820282019728792003956564819949
def fv (a b c d e : Nat) : Nat := a + 2251799813685248 * b + 5070602400912917605986812821504 * c + 11417981541647679048466287755595961091061972992 * d + 25711008708143844408671393477458601640355247900524685364822016 * e
theorem A6l {a b c d e a1 b1 c1 d1 e1 : Nat} (ha : a < 9223372036854775808) (hb : b < 9223372036854775808) (hc : c < 9223372036854775808) (hd : d < 9223372036854775808) (he : e < 9223372036854775808)
    (h1 : a1 = (a + 19 * (e / 2251799813685248) % 18446744073709551616) % 18446744073709551616) (h2 : b1 = (b + a1 / 2251799813685248) % 18446744073709551616) (h3 : c1 = (c + b1 / 2251799813685248) % 18446744073709551616)
    (h4 : d1 = (d + c1 / 2251799813685248) % 18446744073709551616) (h5 : e1 = (e % 2251799813685248 + d1 / 2251799813685248) % 18446744073709551616) :
    fv (a1 % 2251799813685248) (b1 % 2251799813685248) (c1 % 2251799813685248) (d1 % 2251799813685248) e1 + p25 * (e / 2251799813685248) = fv a b c d e ∧ e1 < 2251799813685248 + 8192 := by
  unfold fv p25
  omega
theorem I4 {v q V : Nat} (h : v + p25 * q = V) : v % p25 = V % p25 := by rw [← h, Nat.add_mul_mod_self_left]
theorem B3f {a b c d e a2 b2 c2 d2 e2 : Nat} (ha : a < 4503599627370496) (hb : b < 4503599627370496) (hc : c < 4503599627370496) (hd : d < 4503599627370496) (he : e < 4503599627370496) (ha2 : a2 < 4503599627370496) (hb2 : b2 < 4503599627370496) (hc2 : c2 < 4503599627370496) (hd2 : d2 < 4503599627370496) (he2 : e2 < 4503599627370496) :
    fv ((a + a2) % 18446744073709551616) ((b + b2) % 18446744073709551616) ((c + c2) % 18446744073709551616) ((d + d2) % 18446744073709551616) ((e + e2) % 18446744073709551616) = fv a b c d e + fv a2 b2 c2 d2 e2 := by
  rw [Nat.mod_eq_of_lt (a := a + a2) (by omega), Nat.mod_eq_of_lt (a := b + b2) (by omega), Nat.mod_eq_of_lt (a := c + c2) (by omega), Nat.mod_eq_of_lt (a := d + d2) (by omega), Nat.mod_eq_of_lt (a := e + e2) (by omega)]
  unfold fv; omega
theorem A13 {a t b : Nat} (ha : a < 4503599627370496) (ht : t < 9007199254740992) (hb : b ≤ t) : (a + (t + (18446744073709551616 - b)) % 18446744073709551616) % 18446744073709551616 = a + t - b := by omega
theorem A01 {a t b : Nat} (ha : a < 4503599627370496) (ht : t < 9007199254740992) (hb : b ≤ t) : a + t - b < 9223372036854775808 := by omega
theorem B3g {a b c d e a2 b2 c2 d2 e2 : Nat} (ha : a2 ≤ 9007199254740916) (hb : b2 ≤ 9007199254740988) (hc : c2 ≤ 9007199254740988) (hd : d2 ≤ 9007199254740988) (he : e2 ≤ 9007199254740988) :
    fv (a + 9007199254740916 - a2) (b + 9007199254740988 - b2) (c + 9007199254740988 - c2) (d + 9007199254740988 - d2) (e + 9007199254740988 - e2) + fv a2 b2 c2 d2 e2 = fv a b c d e + 4 * p25 := by
  unfold fv p25; omega
theorem B1p {A B V : Nat} (h : V + B = A + 4 * p25) : V % p25 = (A % p25 + p25 - B % p25) % p25 := by
  unfold p25 at *; omega
theorem A7F {x y x0 x1 y0 y1 w0 t w1 : Nat} (hx : x < 18446744073709551616) (hy : y < 18446744073709551616) (h1 : x0 = x % 4294967296) (h2 : x1 = x / 4294967296) (h3 : y0 = y % 4294967296) (h4 : y1 = y / 4294967296)
    (h5 : w0 = x0 * y0 % 18446744073709551616) (h6 : t = (x1 * y0 % 18446744073709551616 + w0 / 4294967296) % 18446744073709551616) (h7 : w1 = (t % 4294967296 + x0 * y1 % 18446744073709551616) % 18446744073709551616) :
    ((x1 * y1 % 18446744073709551616 + t / 4294967296) % 18446744073709551616 + w1 / 4294967296) % 18446744073709551616 = x * y / 18446744073709551616 := by
  have b0 : x0 ≤ 4294967295 := by omega
  have b1 : x1 ≤ 4294967295 := by omega
  have b2 : y0 ≤ 4294967295 := by omega
  have b3 : y1 ≤ 4294967295 := by omega
  have q0 := Nat.mul_le_mul b0 b2
  have q1 := Nat.mul_le_mul b1 b2
  have q2 := Nat.mul_le_mul b0 b3
  have q3 := Nat.mul_le_mul b1 b3
  have ex : x = x0 + 4294967296 * x1 := by omega
  have ey : y = y0 + 4294967296 * y1 := by omega
  have e : x * y = x0 * y0 + 4294967296 * (x1 * y0) + 4294967296 * (x0 * y1) + 18446744073709551616 * (x1 * y1) := by rw [ex, ey]; grind
  rw [e]
  clear e ex ey h1 h2 h3 h4 b0 b1 b2 b3 hx hy
  generalize x0 * y0 = A at *
  generalize x1 * y0 = B at *
  generalize x0 * y1 = C at *
  generalize x1 * y1 = E at *
  omega
theorem or13 {hi lo : Nat} (hh : hi < 18446744073709551616) (hl : lo < 18446744073709551616) : (hi * 8192 % 18446744073709551616 ||| lo / 2251799813685248) = (hi * 18446744073709551616 + lo) / 2251799813685248 % 18446744073709551616 := by
  have e : hi * 8192 % 18446744073709551616 = (hi % 2251799813685248) <<< 13 := by rw [Nat.shiftLeft_eq]; omega
  rw [e, ← Nat.shiftLeft_add_eq_or_of_lt (by show _ < 8192; omega), Nat.shiftLeft_eq]
  omega
theorem A0g {R S T : Nat} (h0 : R < 2596148429267413814265248164610048) (h1 : S < 5192296858534827628530496329220096) (e : T = (R + S / 2251799813685248 % 18446744073709551616) % 340282366920938463463374607431768211456) : T = R + S / 2251799813685248 ∧ T < 5192296858534827628530496329220096 := by
  have a : S / 2251799813685248 < 18446744073709551616 := by omega
  rw [Nat.mod_eq_of_lt a, Nat.mod_eq_of_lt (by omega)] at e
  omega
theorem A9p {R0 R1 R2 R3 R4 S1 S2 S3 S4 l0 l1 l2 l3 l4 o0 o1 : Nat} (h0 : R0 < 2596148429267413814265248164610048) (h1 : R1 < 2596148429267413814265248164610048) (h2 : R2 < 2596148429267413814265248164610048) (h3 : R3 < 2596148429267413814265248164610048) (h4 : R4 < 162259276829213363391578010288128)
    (e1 : S1 = (R1 + R0 / 2251799813685248 % 18446744073709551616) % 340282366920938463463374607431768211456) (e2 : S2 = (R2 + S1 / 2251799813685248 % 18446744073709551616) % 340282366920938463463374607431768211456) (e3 : S3 = (R3 + S2 / 2251799813685248 % 18446744073709551616) % 340282366920938463463374607431768211456) (e4 : S4 = (R4 + S3 / 2251799813685248 % 18446744073709551616) % 340282366920938463463374607431768211456)
    (f0 : l0 % 2251799813685248 = R0 % 2251799813685248) (f1 : l1 % 2251799813685248 = S1 % 2251799813685248) (f2 : l2 % 2251799813685248 = S2 % 2251799813685248) (f3 : l3 % 2251799813685248 = S3 % 2251799813685248) (f4 : l4 % 2251799813685248 = S4 % 2251799813685248)
    (g0 : o0 = (l0 % 2251799813685248 + 19 * (S4 / 2251799813685248 % 18446744073709551616) % 18446744073709551616) % 18446744073709551616) (g1 : o1 = (l1 % 2251799813685248 + o0 / 2251799813685248) % 18446744073709551616) :
    o1 < 4503599627370496 ∧ fv (o0 % 2251799813685248) o1 (l2 % 2251799813685248) (l3 % 2251799813685248) (l4 % 2251799813685248) + p25 * (S4 / 2251799813685248) = R0 + 2251799813685248 * R1 + 5070602400912917605986812821504 * R2 + 11417981541647679048466287755595961091061972992 * R3 + 25711008708143844408671393477458601640355247900524685364822016 * R4 := by
  rw [f2, f3, f4]
  rw [f0] at g0
  rw [f1] at g1
  clear f0 f1 f2 f3 f4
  obtain ⟨k1, j1⟩ := A0g h1 (by omega) e1
  obtain ⟨k2, j2⟩ := A0g h2 j1 e2
  obtain ⟨k3, j3⟩ := A0g h3 j2 e3
  obtain ⟨k4, j4⟩ := A0g (by omega) j3 e4
  have j5 : S3 / 2251799813685248 < 2305843009213693952 := by clear e1 e2 e3 e4 k1 k2 k3 k4 g0 g1; omega
  clear e1 e2 e3 e4 j1 j2 j3
  have k5 : S4 < 324518553658426726783156020576256 := by clear g0 g1 k1 k2 k3; omega
  have j6 : S4 / 2251799813685248 < 288230376151711744 := by clear g0 g1 k1 k2 k3 k4; omega
  have k6 : o0 = R0 % 2251799813685248 + 19 * (S4 / 2251799813685248) := by clear g1 k1 k2 k3 k4 h0 h1 h2 h3 h4 k5 j5; omega
  have k7 : o1 = S1 % 2251799813685248 + o0 / 2251799813685248 := by clear g0 k1 k2 k3 k4 h0 h1 h2 h3 h4 k5 j5; omega
  clear g0 g1
  refine ⟨by clear k1 k2 k3 k4 h0 h1 h2 h3 h4 k5 j5; omega, ?_⟩
  clear h0 h1 h2 h3 h4 k5 j5 j6 j4
  unfold fv p25
  omega
theorem A36 {x1 x2 x3 x4 x5 z1 z2 z3 z4 z5 : Nat} (h1 : z1 ≤ 385365782469381738054997774434304) (h2 : z2 ≤ 385365782469381738054997774434304) (h3 : z3 ≤ 385365782469381738054997774434304) (h4 : z4 ≤ 385365782469381738054997774434304) (h5 : z5 ≤ 385365782469381738054997774434304) (e1 : x1 = (0 * 18446744073709551616 + 0 + z1) % 340282366920938463463374607431768211456) (e2 : x2 = (x1 + z2) % 340282366920938463463374607431768211456) (e3 : x3 = (x2 + z3) % 340282366920938463463374607431768211456) (e4 : x4 = (x3 + z4) % 340282366920938463463374607431768211456) (e5 : x5 = (x4 + z5) % 340282366920938463463374607431768211456) :
    x5 = z1 + z2 + z3 + z4 + z5 := by omega
theorem A9q {a : Nat} (h : a < 4503599627370496) : 19 * a % 18446744073709551616 = 19 * a := by omega
theorem zb {a b : Nat} (ha : a < 4503599627370496) (hb : b < 4503599627370496) : a * b ≤ 20282409603651670423947251286016 := Nat.le_trans (Nat.mul_le_mul (Nat.le_of_lt ha) (Nat.le_of_lt hb)) (by decide)
theorem A2M {a b : Nat} (ha : a < 4503599627370496) (hb : b < 4503599627370496) : 19 * a * b ≤ 385365782469381738054997774434304 := Nat.le_trans (Nat.mul_le_mul (Nat.mul_le_mul_left 19 (Nat.le_of_lt ha)) (Nat.le_of_lt hb)) (by decide)
theorem A9r (a b c d e a2 b2 c2 d2 e2 : Nat) : fv a b c d e * fv a2 b2 c2 d2 e2 =
    (a * a2 + 19 * b * e2 + 19 * c * d2 + 19 * d * c2 + 19 * e * b2) + 2251799813685248 * (a * b2 + b * a2 + 19 * c * e2 + 19 * d * d2 + 19 * e * c2) + 5070602400912917605986812821504 * (a * c2 + b * b2 + c * a2 + 19 * d * e2 + 19 * e * d2) + 11417981541647679048466287755595961091061972992 * (a * d2 + b * c2 + c * b2 + d * a2 + 19 * e * e2) + 25711008708143844408671393477458601640355247900524685364822016 * (a * e2 + b * d2 + c * c2 + d * b2 + e * a2)
    + p25 * ((b * e2 + c * d2 + d * c2 + e * b2) + 2251799813685248 * (c * e2 + d * d2 + e * c2) + 5070602400912917605986812821504 * (d * e2 + e * d2) + 11417981541647679048466287755595961091061972992 * (e * e2)) := by
  unfold fv p25; grind
def B2h (as_ : List Nat) (i k : Nat) : Nat := if i + k < 5 then as_.getD i 0 else 19 * as_.getD i 0 % 18446744073709551616
def B1q (i k : Nat) : Nat := if i + k < 5 then i + k else i + k - 5
def A7G (as_ bs : List Nat) (i k : Nat) (Xs : List Nat) : List Nat := Xs.set (B1q i k) ((Xs.getD (B1q i k) 0 + B2h as_ i k * bs.getD k 0) % 340282366920938463463374607431768211456)
def A3k (as_ bs : List Nat) (i : Nat) : Nat → List Nat → List Nat
  | 0, Xs => Xs
  | k + 1, Xs => A7G as_ bs i k (A3k as_ bs i k Xs)
def A3l (as_ bs : List Nat) : Nat → List Nat
  | 0 => [0, 0, 0, 0, 0]
  | i + 1 => A3k as_ bs i 5 (A3l as_ bs i)
theorem A5D (as_ bs : List Nat) (i k : Nat) (Xs : List Nat) : (A3k as_ bs i k Xs).length = Xs.length := by
  induction k with
  | zero => rfl
  | succ k ih => simp [A3k, A7G, ih]
theorem A9s (as_ bs : List Nat) (i : Nat) : (A3l as_ bs i).length = 5 := by
  induction i with
  | zero => rfl
  | succ i ih => rw [A3l, A5D, ih]
def B1r (Xs : List Nat) : Prop := ∀ x ∈ Xs, x < 340282366920938463463374607431768211456
theorem A7H (as_ bs : List Nat) (i k : Nat) {Xs : List Nat} (h : B1r Xs) : B1r (A3k as_ bs i k Xs) := by
  induction k with
  | zero => exact h
  | succ k ih =>
    intro x hx
    rcases List.mem_or_eq_of_mem_set hx with h1 | rfl
    · exact ih x h1
    · exact Nat.mod_lt _ (by decide)
theorem B1s (as_ bs : List Nat) (i : Nat) : B1r (A3l as_ bs i) := by
  induction i with
  | zero => intro x hx; simp [A3l] at hx; subst hx; decide
  | succ i ih => exact A7H _ _ _ _ ih
theorem A9t (a b c d e a2 b2 c2 d2 e2 : Nat) (ha : a < 4503599627370496) (hb : b < 4503599627370496) (hc : c < 4503599627370496) (hd : d < 4503599627370496) (he : e < 4503599627370496) (ha2 : a2 < 4503599627370496) (hb2 : b2 < 4503599627370496) (hc2 : c2 < 4503599627370496) (hd2 : d2 < 4503599627370496) (he2 : e2 < 4503599627370496) :
    A3l [a, b, c, d, e] [a2, b2, c2, d2, e2] 5 = [a * a2 + 19 * b * e2 + 19 * c * d2 + 19 * d * c2 + 19 * e * b2, a * b2 + b * a2 + 19 * c * e2 + 19 * d * d2 + 19 * e * c2, a * c2 + b * b2 + c * a2 + 19 * d * e2 + 19 * e * d2, a * d2 + b * c2 + c * b2 + d * a2 + 19 * e * e2, a * e2 + b * d2 + c * c2 + d * b2 + e * a2] := by
  have z {x y : Nat} (hx : x < 4503599627370496) (hy : y < 4503599627370496) : x * y ≤ 385365782469381738054997774434304 := Nat.le_trans (zb hx hy) (by decide)
  simp only [A3l, A3k, A7G, B2h, B1q, List.set, List.getD_cons_zero, List.getD_cons_succ, Nat.reduceAdd, Nat.reduceLT, Nat.reduceSub, if_true, if_false, Nat.zero_add, Nat.add_zero, A9q hb, A9q hc, A9q hd, A9q he, reduceIte]
  rw [A36 (z ha ha2) (A2M hb he2) (A2M hc hd2) (A2M hd hc2) (A2M he hb2) (by simp) rfl rfl rfl rfl, A36 (z ha hb2) (z hb ha2) (A2M hc he2) (A2M hd hd2) (A2M he hc2) (by simp) rfl rfl rfl rfl, A36 (z ha hc2) (z hb hb2) (z hc ha2) (A2M hd he2) (A2M he hd2) (by simp) rfl rfl rfl rfl, A36 (z ha hd2) (z hb hc2) (z hc hb2) (z hd ha2) (A2M he he2) (by simp) rfl rfl rfl rfl, A36 (z ha he2) (z hb hd2) (z hc hc2) (z hd hb2) (z he ha2) (by simp) rfl rfl rfl rfl]
theorem A14 {a b c d e a1 b1 c1 d1 e1 : Nat} (ha : a < 2251799813685248) (hb : b < 2251799813685248) (hc : c < 2251799813685248) (hd : d < 2251799813685248) (he : e < 2251799813685248 + 8192) (ha1 : a1 < 2251799813685248) (hb1 : b1 < 2251799813685248) (hc1 : c1 < 2251799813685248) (hd1 : d1 < 2251799813685248) (h : fv a1 b1 c1 d1 e1 + p25 * (e / 2251799813685248) = fv a b c d e) : e1 < 2251799813685248 := by
  have hq : e / 2251799813685248 = 0 ∨ e / 2251799813685248 = 1 := by omega
  unfold fv p25 at h
  rcases hq with hq | hq
  · rw [hq] at h; omega
  · rw [hq] at h; omega
theorem A9u {a b c d e c0 c1 c2 c3 c4 : Nat} (ha : a < 2251799813685248) (hb : b < 2251799813685248) (hc : c < 2251799813685248) (hd : d < 2251799813685248) (he : e < 2251799813685248) (h0 : c0 = (a + 19) % 18446744073709551616 / 2251799813685248) (h1 : c1 = (b + c0) % 18446744073709551616 / 2251799813685248) (h2 : c2 = (c + c1) % 18446744073709551616 / 2251799813685248) (h3 : c3 = (d + c2) % 18446744073709551616 / 2251799813685248) (h4 : c4 = (e + c3) % 18446744073709551616 / 2251799813685248) :
    (c4 = 0 ∧ fv a b c d e < p25) ∨ (c4 = 1 ∧ p25 ≤ fv a b c d e) := by
  have k0 : c0 ≤ 1 := by omega
  have k1 : c1 ≤ 1 := by omega
  have k2 : c2 ≤ 1 := by omega
  have k3 : c3 ≤ 1 := by omega
  have k4 : c4 ≤ 1 := by omega
  unfold fv p25
  omega
theorem A7I {a b c d e q a1 b1 c1 d1 e1 : Nat} (ha : a < 2251799813685248) (hb : b < 2251799813685248) (hc : c < 2251799813685248) (hd : d < 2251799813685248) (he : e < 2251799813685248) (hq : q ≤ 1) (h1 : a1 = (a + 19 * q % 18446744073709551616) % 18446744073709551616) (h2 : b1 = (b + a1 / 2251799813685248) % 18446744073709551616) (h3 : c1 = (c + b1 / 2251799813685248) % 18446744073709551616) (h4 : d1 = (d + c1 / 2251799813685248) % 18446744073709551616) (h5 : e1 = (e + d1 / 2251799813685248) % 18446744073709551616) :
    fv (a1 % 2251799813685248) (b1 % 2251799813685248) (c1 % 2251799813685248) (d1 % 2251799813685248) (e1 % 2251799813685248) + 57896044618658097711785492504343953926634992332820282019728792003956564819968 * (e1 / 2251799813685248) = fv a b c d e + 19 * q ∧ fv (a1 % 2251799813685248) (b1 % 2251799813685248) (c1 % 2251799813685248) (d1 % 2251799813685248) (e1 % 2251799813685248) < 57896044618658097711785492504343953926634992332820282019728792003956564819968 := by
  have k1 : a1 = a + 19 * q := by omega
  have k2 : b1 = b + a1 / 2251799813685248 := by omega
  have k3 : c1 = c + b1 / 2251799813685248 := by omega
  have k4 : d1 = d + c1 / 2251799813685248 := by omega
  have k5 : e1 = e + d1 / 2251799813685248 := by omega
  clear h1 h2 h3 h4 h5
  unfold fv
  omega
theorem A7J {V F k q : Nat} (h : (q = 0 ∧ V < p25) ∨ (q = 1 ∧ p25 ≤ V)) (hV : V < 57896044618658097711785492504343953926634992332820282019728792003956564819968) (h2 : F + 57896044618658097711785492504343953926634992332820282019728792003956564819968 * k = V + 19 * q ∧ F < 57896044618658097711785492504343953926634992332820282019728792003956564819968) : F = V % p25 := by
  unfold p25 at *
  rcases h with ⟨rfl, h⟩ | ⟨rfl, h⟩
  · rw [Nat.mod_eq_of_lt h]; omega
  · omega
theorem B3h {a b c d e : Nat} (ha : a < 2251799813685248) (hb : b < 2251799813685248) (hc : c < 2251799813685248) (hd : d < 2251799813685248) (he : e < 2251799813685248) : fv a b c d e < 57896044618658097711785492504343953926634992332820282019728792003956564819968 := by unfold fv; omega
theorem A9v {a b c d e : Nat} (ha : a < 2251799813685248) (hb : b < 2251799813685248) (hc : c < 2251799813685248) (hd : d < 2251799813685248) (he : e < 2251799813685248) (j : Nat) (hj : j < 5) : fv a b c d e / 2 ^ (51 * j) % 2 ^ 51 = [a, b, c, d, e].getD j 0 := by
  have : j = 0 ∨ j = 1 ∨ j = 2 ∨ j = 3 ∨ j = 4 := by omega
  unfold fv
  rcases this with rfl | rfl | rfl | rfl | rfl <;> simp only [Nat.reducePow, Nat.reduceMul, List.getD_cons_zero, List.getD_cons_succ] <;> omega
theorem B3i {a b c d e : Nat} (ha : a < 2251799813685248) (hb : b < 2251799813685248) (hc : c < 2251799813685248) (hd : d < 2251799813685248) (he : e < 2251799813685248) (i : Nat) (hi : i < 255) : [a, b, c, d, e].getD (i / 51) 0 / 2 ^ (i % 51) % 2 = fv a b c d e / 2 ^ i % 2 := by
  rw [← A9v ha hb hc hd he (i / 51) (by omega)]
  have h1 : i % 51 < 51 := Nat.mod_lt _ (by decide)
  have e : 2 ^ 51 = 2 ^ (i % 51) * (2 * 2 ^ (50 - i % 51)) := by rw [← Nat.pow_succ', ← Nat.pow_add]; congr 1; omega
  rw [e, Nat.mod_mul_right_div_self, Nat.mod_mul_right_mod, Nat.div_div_eq_div_mul, ← Nat.pow_add]
  congr 3; omega
theorem B1t {a b c d e : Nat} (ha : a < 2251799813685248) (hb : b < 2251799813685248) (hc : c < 2251799813685248) (hd : d < 2251799813685248) (he : e < 2251799813685248) : ∃ q, q = (e + (d + (c + (b + (a + 19) % 18446744073709551616 / 2251799813685248) % 18446744073709551616 / 2251799813685248) % 18446744073709551616 / 2251799813685248) % 18446744073709551616 / 2251799813685248) % 18446744073709551616 / 2251799813685248 ∧ ((q = 0 ∧ fv a b c d e < p25) ∨ (q = 1 ∧ p25 ≤ fv a b c d e)) :=
  ⟨_, rfl, A9u ha hb hc hd he rfl rfl rfl rfl rfl⟩
theorem A7K {a b c d e q : Nat} (ha : a < 2251799813685248) (hb : b < 2251799813685248) (hc : c < 2251799813685248) (hd : d < 2251799813685248) (he : e < 2251799813685248) (hq : (q = 0 ∧ fv a b c d e < p25) ∨ (q = 1 ∧ p25 ≤ fv a b c d e)) : ∃ f0 f1 f2 f3 f4, f0 = (a + 19 * q % 18446744073709551616) % 18446744073709551616 % 2251799813685248 ∧ f1 = (b + (a + 19 * q % 18446744073709551616) % 18446744073709551616 / 2251799813685248) % 18446744073709551616 % 2251799813685248 ∧ f2 = (c + (b + (a + 19 * q % 18446744073709551616) % 18446744073709551616 / 2251799813685248) % 18446744073709551616 / 2251799813685248) % 18446744073709551616 % 2251799813685248 ∧ f3 = (d + (c + (b + (a + 19 * q % 18446744073709551616) % 18446744073709551616 / 2251799813685248) % 18446744073709551616 / 2251799813685248) % 18446744073709551616 / 2251799813685248) % 18446744073709551616 % 2251799813685248 ∧ f4 = (e + (d + (c + (b + (a + 19 * q % 18446744073709551616) % 18446744073709551616 / 2251799813685248) % 18446744073709551616 / 2251799813685248) % 18446744073709551616 / 2251799813685248) % 18446744073709551616 / 2251799813685248) % 18446744073709551616 % 2251799813685248 ∧ f0 < 2251799813685248 ∧ f1 < 2251799813685248 ∧ f2 < 2251799813685248 ∧ f3 < 2251799813685248 ∧ f4 < 2251799813685248 ∧ fv f0 f1 f2 f3 f4 = fv a b c d e % p25 := by
  have hco := A7I ha hb hc hd he (q := q) (by rcases hq with h | h <;> omega) rfl rfl rfl rfl rfl
  exact ⟨_, _, _, _, _, rfl, rfl, rfl, rfl, rfl, Nat.mod_lt _ (by decide), Nat.mod_lt _ (by decide), Nat.mod_lt _ (by decide), Nat.mod_lt _ (by decide), Nat.mod_lt _ (by decide), A7J hq (B3h ha hb hc hd he) hco⟩
end Go.Px

