/- Part 8 of the texts of this claim, one behind the other. -/
import Derived.Test.YtlilcmjbaknafaaGreatDoorB7
set_option linter.unusedVariables false
set_option linter.unusedSimpArgs false
set_option maxRecDepth 100000
namespace Go.Proofs.YtlilcmjbaknafaaGreatDoor
open Go.Px
def A9r (ws : List (LN)) : LN := ws.flatMap fun w => G7 w 32
def B44 (key : LN) (ws : List (LN)) (lb : LN) (n : Nat) : LN := X8 (A6X (G7 key 32) (A9r ws)) lb ((32 * n : Nat) : Int)
def B9P (b : LN) (n : Nat) : List (LN) := (List.range n).map fun i => (b.take (32 * i + 32)).drop (32 * i)
def drv (ofs : List Int) (lb : LN) (i : Nat) : Tm := ⟨5, ofs, lb, (i : Int)⟩
def A0g (st : List Tm × List Int) (w : LN) : List Tm × List Int := (rdT st.1 w, st.2 ++ [((rdI st.1 w : Nat) : Int)])
def V5 (ts : List Tm) (key : LN) (ws : List (LN)) : List Tm × List Int := ws.foldl A0g (A0g (ts, []) key)
def A9s (ofs : List Int) (lb : LN) (st : List Tm × List (LN)) (i : Nat) : List Tm × List (LN) := (add st.1 (drv ofs lb i), st.2 ++ [bts ((at_ st.1 (drv ofs lb i) : Nat) : Int)])
def N0 (ts : List Tm) (ofs : List Int) (lb : LN) (n : Nat) : List Tm × List (LN) := (List.range n).foldl (A9s ofs lb) (ts, [])
def A83 (ts : List Tm) (key : LN) (ws : List (LN)) (lb : LN) (n : Nat) : List Tm × List (LN) := N0 (V5 ts key ws).1 (V5 ts key ws).2 lb n
def A4t (s : Ps) (key : LN) (ws : List (LN)) (lb : LN) (n : Nat) : Ps := if s.real then s else { s with ts := (A83 s.ts key ws lb n).1 }
def A6s (s : Ps) (key : LN) (ws : List (LN)) (lb : LN) (n : Nat) : List (LN) := if s.real then B9P (B44 key ws lb n) n else (A83 s.ts key ws lb n).2
theorem A6t {s : Ps} {key lb : LN} {ws : List (LN)} {n : Nat} (h : s.real = true) : A4t s key ws lb n = s := if_pos h
theorem A3H {s : Ps} {key lb : LN} {ws : List (LN)} {n : Nat} (h : s.real = false) : A4t s key ws lb n = { s with ts := (A83 s.ts key ws lb n).1 } := if_neg (by rw [h]; decide)
theorem A6u {s : Ps} {key lb : LN} {ws : List (LN)} {n : Nat} (h : s.real = true) : A6s s key ws lb n = B9P (B44 key ws lb n) n := if_pos h
theorem A4T {s : Ps} {key lb : LN} {ws : List (LN)} {n : Nat} (h : s.real = false) : A6s s key ws lb n = (A83 s.ts key ws lb n).2 := if_neg (by rw [h]; decide)
theorem B6z {ws : List (LN)} (h : ∀ w ∈ ws, ∀ x ∈ w, x < 256) : ∀ x ∈ A9r ws, x < 256 := by
  intro x hx
  obtain ⟨w, hw, hx⟩ := List.mem_flatMap.1 hx
  exact A1j (h w hw) 32 x hx
theorem B3v (ws : List (LN)) : (A9r ws).length = 32 * ws.length := by
  induction ws with
  | nil => rfl
  | cons w ws ih =>
    have : A9r (w :: ws) = G7 w 32 ++ A9r ws := rfl
    rw [this, List.length_append, ih, K6, List.length_cons]; omega
theorem B0B {ws : List (LN)} {i : Nat} (h : i < ws.length) : A9r (ws.take (i + 1)) = A9r (ws.take i) ++ G7 ws[i] 32 := by
  unfold A9r
  rw [List.take_add_one, List.getElem?_eq_getElem h, List.flatMap_append]; simp
theorem B0C {α β : Type} {f : β → α → β} {b : β} {l : List α} {i : Nat} (h : i < l.length) : (l.take (i + 1)).foldl f b = f ((l.take i).foldl f b) l[i] := by
  rw [List.take_add_one, List.getElem?_eq_getElem h, List.foldl_append]; rfl
theorem P0 {β : Type} {f : β → Nat → β} {b : β} (i : Nat) : (List.range (i + 1)).foldl f b = f ((List.range i).foldl f b) i := by
  rw [List.range_succ, List.foldl_append]; rfl
theorem B46 {ts : List Tm} {w : LN} (hw : ∀ x ∈ w, x < 256) (hl : w.length ≤ 1099511627776) (hts : ∀ t ∈ ts, Tmo t) : rdI ts w < (rdT ts w).length := by
  cases hp : plc w ts.length with
  | some j =>
    obtain ⟨h1, h2⟩ := W4 hp
    rw [h1, h2]; exact (B0s hp).1
  | none =>
    obtain ⟨h1, h2⟩ := Y6 hp
    rw [h1, h2]
    cases hq : pos ts (B4Y w) with
    | some j =>
      obtain ⟨h3, h4⟩ := A5w hq
      rw [h3, h4]
      exact (List.getElem?_eq_some_iff.1 (A5t (A3D hw hl) hts hq)).1
    | none =>
      obtain ⟨h3, h4⟩ := A7X hq
      rw [h3, h4]; simp
theorem B6A {ts : List Tm} {w : LN} (hw : ∀ x ∈ w, x < 256) (hl : w.length ≤ 1099511627776) (hts : ∀ t ∈ ts, Tmo t) : ∀ t ∈ rdT ts w, Tmo t := by
  cases hp : plc w ts.length with
  | some j => rw [(W4 hp).1]; exact hts
  | none =>
    rw [(Y6 hp).1]
    unfold add
    split
    · exact hts
    · intro t ht
      rcases List.mem_append.1 ht with h | h
      · exact hts t h
      · rw [List.mem_singleton.1 h]; exact A3D hw hl
theorem B48 {ofs : List Int} {lb : LN} {i : Nat} (ho : ∀ x ∈ ofs, i64 x) (hl : ofs.length ≤ 1048576) (hb : B256 lb) (hbl : lb.length ≤ 1099511627776) (hi : i ≤ 100) : Tmo (drv ofs lb i) := ⟨show 5 < 256 by decide, show i64 (i : Int) by unfold i64; omega, ho, hl, hb, hbl⟩
structure RdOk (n0 k : Nat) (st : List Tm × List Int) : Prop where
  len : st.1.length ≤ n0 + k
  ofl : st.2.length = k
  of : ∀ x ∈ st.2, 0 ≤ x ∧ x < (st.1.length : Int)
  tmo : ∀ t ∈ st.1, Tmo t
theorem B0D {ts : List Tm} {w : LN} : ts.length ≤ (rdT ts w).length := by
  cases hp : plc w ts.length with
  | some j => rw [(W4 hp).1]; exact Nat.le_refl _
  | none =>
    rw [(Y6 hp).1]
    unfold add
    split <;> simp
theorem RdOk.step {n0 k : Nat} {st : List Tm × List Int} (h : RdOk n0 k st) {w : LN} (hw : ∀ x ∈ w, x < 256) (hl : w.length ≤ 1099511627776) : RdOk n0 (k + 1) (A0g st w) := by
  refine ⟨?_, by simp [A0g, h.ofl], ?_, B6A hw hl h.tmo⟩
  · have := V0 (ts := st.1) (ws := w)
    have := h.len
    show (rdT st.1 w).length ≤ _
    omega
  · intro x hx
    have hge := B0D (ts := st.1) (w := w)
    have hlt := B46 (ts := st.1) hw hl h.tmo
    show 0 ≤ x ∧ x < (((rdT st.1 w).length : Nat) : Int)
    rcases List.mem_append.1 hx with h1 | h1
    · have := h.of x h1; omega
    · rw [List.mem_singleton.1 h1]; omega
theorem A5z (b : LN) (n : Nat) : (B9P b n).length = n := by simp [B9P]
theorem A1k (ts : List Tm) (ofs : List Int) (lb : LN) (n : Nat) : (N0 ts ofs lb n).2.length = n ∧ (N0 ts ofs lb n).1.length ≤ ts.length + n := by
  induction n with
  | zero => exact ⟨rfl, Nat.le_refl _⟩
  | succ n ih =>
    have e : N0 ts ofs lb (n + 1) = A9s ofs lb (N0 ts ofs lb n) n := P0 n
    rw [e]
    refine ⟨by simp [A9s, ih.1], ?_⟩
    have := A1K (ts := (N0 ts ofs lb n).1) (t := drv ofs lb n)
    show (add _ _).length ≤ _
    omega
theorem A71 (key : LN) (ws : List (LN)) (lb : LN) {n : Nat} (hn : n ≤ 8) : (B44 key ws lb n).length = 32 * n := by
  unfold B44
  rw [A2p]
  omega
theorem B0E (l : List Int) (x : Int) : A1J (l ++ [x]) = A1J l ++ [.int .i64 x] := by simp [A1J]
theorem A3I (pb : Nat) (s : Ps) (kv wv : Value) (key lb : LN) (ws : List (LN)) (n : Nat) (MP A : Mem) (hP : Prm pb s MP) (hk : By A kv key) (hw : LsV A wv ws) (hwn : ws.length ≤ 1000) (hlb : B256 lb) (hll : lb.length ≤ 1000) (hn0 : 1 ≤ n) (hn8 : n ≤ 8) (hn : s.ts.length ≤ 1040000) (hG : Glb A) : FnX Tryz.prog 63 [(vP pb), kv, wv, .string (txt lb), .int .i64 (n : Int)] MP A fun q M J => Prm pb (A4t s key ws lb n) M ∧ LsV J q (A6s s key ws lb n) := by
 obtain ⟨sv, bt, bm, B, MT, rfl, hby, hT⟩ := hP.ex
 have hGG := hG
 obtain ⟨⟨ge0, gf0, h0⟩, ⟨ge1, gf1, h1⟩, ⟨ge4, gf4, h4⟩⟩ := hGG
 haveI := hby.cel
 haveI := hk.cel
 obtain ⟨wvs, hwr, hwl⟩ := hw.ex
 haveI := hwr.cel
 have hw256 : ∀ w ∈ ws, ∀ x ∈ w, x < 256 := fun w hw => by
  obtain ⟨j, hj⟩ := List.getElem?_of_mem hw
  obtain ⟨v, _, h⟩ := hwl.get j w hj
  exact h.lt
 have hTmo : ∀ t ∈ s.ts, Tmo t := by
  obtain ⟨_, _, _, _, _, _, _, _, _, _, _, h, _⟩ := hT
  exact h
 refine FnX.enterZ (N := 108) Tryz.func63 rfl rfl rfl fun w_ => ?_
 refine B4 (E6 0 1 2 3 4) (A1 (as_ (A0 (E6 0 1 2 3 4) (A1 (as_ (A0 (H5 0 1 2 3 4 11) (A3 ?_)))))))
 refine A1 (mv_ ?_)
 refine A2 (G5 (e := 105) rfl rfl kR) rfl ?_
 refine mv_ ?_
 refine D6 rfl rfl (OpQ.opL qm_ rfl ?_)
 refine D6 rfl rfl (OpQ.opL (F4 false rfl rfl (ltF qO)) rfl ?_)
 refine A2 (E3 rfl rfl) rfl ?_
 refine A0 (S9 0 1 2 3 4 11 26) ?_
 refine C9 rfl ?_
 refine A7 (nx (H5 0 1 2 3 4 11) (A3 (A1 (mv_ ?_))))
 refine A2 (E4 rfl) rfl ?_
 refine A2 (qf_ 0 0) rfl ?_
 refine A2 ql_ rfl ?_
 refine A2 (D9 rfl rfl rfl) rfl ?_
 refine A0 (S9 0 1 2 3 4 11 32) ?_
 refine C0 rfl ?_ ?_ <;> intro hc
 ·
  have hr : s.real = true := by cases hq : s.real with | true => rfl | false => rw [hq] at hc; exact absurd hc qD
  refine A1 (as_ (A0 (H5 1 2 3 4 11 12) (A3 (A1 (mv_ ?_)))))
  refine A2 (F8 (sz := 1) rfl kR hwr) rfl ?_
  refine mv_ (A0 (V3 1 3 4 11 12 33 34 35) (A5 ?_))
  refine E1 (α := Nat × Value × Mem × Mem) (fun x => [(1, kv), (3, .string (txt lb)), (4, .int .i64 (n : Int)), (11, vS), (12, x.2.1), (33, wv), (34, (vI ws.length)), (35, (vI x.1))]) (fun x => x.2.2.1 ++ ((pb, blk [.int .u8 (md s.real), sv, .int .i64 (((s.n : Nat) : Int)), (vP bt)] 105) :: (B ++ MT))) (fun x => x.2.2.2) (fun x => x.1 ≤ ws.length ∧ Sl 1 x.2.1 (A9r (ws.take x.1)).length (nums .u8 (A9r (ws.take x.1))) x.2.2.1) (fun x => ws.length - x.1) ⟨0, vS, [], []⟩ ⟨Nat.zero_le _, Sl.nil⟩ (V3 1 3 4 11 12 33 34 35) .rfl qI ?_
  rintro ⟨i, v12, B12, J12⟩ ⟨hi, hs12⟩
  dsimp only at hi hs12 ⊢
  haveI := hs12.cel
  have hfl := B3v (ws.take i)
  rw [List.length_take] at hfl
  refine A1 ?_
  refine A2 (D9 rfl rfl rfl) rfl ?_
  refine A0 (A0j 1 3 4 11 12 33 34 35 36) (A3 ?_)
  refine C0 rfl ?_ ?_ <;> intro hc
  ·
   have hlt : i < ws.length := by simp at hc; omega
   obtain ⟨v, hvi, hvb⟩ := hwl.at hlt
   haveI := hvb.cel
   have hft := B0B hlt
   refine A7 (nx (V3 1 3 4 11 12 33 34 35) (A3 (A5 (A1 ?_))))
   refine A2 (G8 (sz := 1) rfl rfl kR rfl hwr hlt) rfl ?_
   refine A2 (A01 (u := v) (hwr.mono qS) rfl kR hvi) rfl ?_
   refine as_ (A0 (A0j 1 3 4 11 12 14 33 34 35) (A9 (mv_ (mv_ ?_))))
   refine C7 (aS rfl (aS rfl a0)) kR (A0O v ws[i] 32 _ (hvb.mono qS) qD) rfl ?_
   rintro v41 M41 J41 ⟨rfl, hb41⟩
   have hb41r := hb41.rd
   rw [K6] at hb41r
   refine A4 rfl (G9 (e := 5) (sz := 1) (by_ := 1) rfl rfl kR rfl hs12 (hb41r.mono qS) F3 qP (by unfold maxLen; omega) qO rfl fun v42 B42 hs42 => ?_)
   refine as_ (C1 (nb (nx (V3 1 3 4 11 12 33 34 35) (A9 ?_))))
   refine A2 (I5 (b := 1) rfl rfl rfl rfl qO) rfl ?_
   refine mv_ (C1 ?_)
   exact rn ⟨i + 1, v42, B42, _⟩ ⟨by dsimp only; omega, X6 hs42 (by dsimp only; rw [hft, List.length_append, K6]) (by dsimp only; rw [hft, H6])⟩ (by dsimp only; omega) (V3 1 3 4 11 12 33 34 35) (Fit.pick qP (Fit.pick (B := [_]) qP (Fit.pick qP (Fit.last qP)))) qI
  ·
   have hge : i = ws.length := by simp at hc; omega
   subst hge
   rw [List.take_length] at hs12 hfl
   refine D4 (te (re (be rfl (nx (E6 1 3 4 11 12) (A1 (mv_ ?_))))))
   refine C7 (aS rfl (aS rfl a0)) kR (A0O kv key 32 _ (hk.mono qS) qD) rfl ?_
   rintro v45 M45 J45 ⟨rfl, hb45⟩
   refine mv_ ?_
   refine C7 (aS rfl (aS rfl a0)) kR ((A2J v45 v12 (G7 key 32) (A9r ws) _ (hb45.rd.mono qS) hb45.lt (by rw [K6]; decide) (hs12.rd qS) (B6z hw256) qO (mA h0) (mA h1)).frz0) rfl ?_
   rintro v47 M47 J47 ⟨rfl, h47⟩
   refine mv_ ?_
   refine A4 rfl (Z9 (e := 5) rfl rfl hlb.lt kR kR kR rfl fun v49 B49 hs49 => ?_)
   refine A3E (B := B49) qP ?_
   refine mv_ ?_
   refine A2 (A4C (n : Int) rfl rfl (by split <;> omega)) rfl ?_
   refine A2 (A0Y (a := 32) rfl rfl rfl rfl qO) rfl ?_
   refine C7 (aS rfl (aS rfl (aS rfl a0))) kR ((A3s v47 v49 (A6X (G7 key 32) (A9r ws)) lb ((32 * n : Nat) : Int) _ (by rw [A0J]; exact (h47.rd qS)) (A3r _ _) (by rw [A0J]; decide) (hs49.mono qS) hlb.lt qO qO qO (mA h0) (mA h1)).frz0) rfl ?_
   rintro v53 M53 J53 ⟨rfl, h53⟩
   have hbl := A71 key ws lb hn8
   change Rd J53 1 v53 (B44 key ws lb n).length (nums .u8 (B44 key ws lb n)) at h53
   rw [hbl] at h53
   haveI := h53.cel
   have hb256 : ∀ x ∈ B44 key ws lb n, x < 256 := A3G _ _ _
   generalize hbigE : B44 key ws lb n = big at *
   refine as_ (A0 (D8 4 11 15) (A3 (A1 (mv_ ?_))))
   refine A2 (A4C (n : Int) rfl rfl (by split <;> omega)) rfl ?_
   refine mv_ (A0 (D7 11 15 55 56) (A5 ?_))
   refine E1 (α := Nat × Value × List Value × Mem) (fun x => [(11, x.2.1), (15, v53), (55, .int .i64 (n : Int)), (56, (vI x.1))]) (fun x => x.2.2.2 ++ ((pb, blk [.int .u8 (md s.real), sv, .int .i64 (((s.n : Nat) : Int)), (vP bt)] 105) :: (B ++ MT))) (fun _ => J53) (fun x => x.1 ≤ n ∧ Sl 1 x.2.1 x.1 x.2.2.1 x.2.2.2 ∧ Lst J53 x.2.2.1 ((List.range x.1).map fun i => (big.take (32 * i + 32)).drop (32 * i))) (fun x => n - x.1) ⟨0, vS, [], []⟩ ⟨Nat.zero_le _, Sl.nil, Lst.nil⟩ (D7 11 15 55 56) (Fit.none (Fit.pick (B := [_]) qP (Fit.pick qP (Fit.last qP)))) (fun x hx => qS x hx) ?_
   rintro ⟨i, v11, vs11, B11⟩ ⟨hi, hs11, hl11⟩
   dsimp only at hi hs11 hl11 ⊢
   haveI := hs11.cel
   refine A1 ?_
   refine A2 (D9 rfl rfl rfl) rfl ?_
   refine A0 (E6 11 15 55 56 57) (A3 ?_)
   refine C0 rfl ?_ ?_ <;> intro hc
   ·
    have hlt : i < n := by simp at hc; omega
    refine A7 (nx (D7 11 15 55 56) (A3 (A5 (A1 (mv_ (as_ (A0 (E6 11 15 16 55 56) (A9 ?_))))))))
    refine mv_ (mv_ (mv_ ?_))
    refine A2 (A0Y (a := 32) rfl rfl rfl rfl qO) rfl ?_
    refine mv_ ?_
    refine A2 (A0Y (a := 32) rfl rfl rfl rfl qO) rfl ?_
    refine A2 (I5 (b := 32) rfl rfl rfl rfl qO) rfl ?_
    refine A2 (B8o (sz := 1) (a := 32 * i) (b := 32 * i + 32) rfl rfl rfl kR rfl rfl h53 qO qO) rfl ?_
    have hpt := (h53.hiV (32 * i + 32) qO).loV (32 * i) qO
    rw [Nat.mul_one, Nat.mul_one, ← A09, ← A0v] at hpt
    generalize vLo (32 * i) 1 (vHi (32 * i + 32) v53) = vp at *
    haveI := hpt.cel
    have hpb : By J53 vp ((big.take (32 * i + 32)).drop (32 * i)) := ⟨by rw [List.length_drop, List.length_take, hbl, Nat.min_eq_left qO]; exact hpt, fun x hx => hb256 x (List.mem_of_mem_take (List.mem_of_mem_drop hx)), by rw [List.length_drop, List.length_take, hbl]; omega⟩
    refine A4 rfl (C4 (e := 26) (sz := 1) (z := [vS]) kR (eS rfl e0) (bdS 0 1 rfl qR bd0) rfl fun b67 => ?_)
    refine A4 rfl (G9 (e := 26) (sz := 1) (by_ := 24) rfl rfl kR rfl hs11 (Rd.whole (n := 1) At.mem qR) (by intro c hc; rw [List.mem_singleton.1 hc]; exact hpt.one) qP (by unfold maxLen; omega) qO rfl fun v68 B68 hs68 => ?_)
    refine as_ (C1 (nb (nx (D7 11 15 55 56) (A9 ?_))))
    refine A2 (I5 (b := 1) rfl rfl rfl rfl qO) rfl ?_
    refine mv_ (C1 ?_)
    exact rn ⟨i + 1, v68, vs11 ++ [vp], B68⟩ ⟨by dsimp only; omega, hs68, by dsimp only; rw [List.range_succ, List.map_append]; exact hl11.snoc hpb⟩ (by dsimp only; omega) (D7 11 15 55 56) (Fit.pick qP (Fit.pick (B := [_]) qP (Fit.pick qP (Fit.last qP)))) (fun x hx => qS x hx)
   ·
    have hge : i = n := by simp at hc; omega
    subst hge
    refine D4 (te (re (be rfl (nx (D5 11) (A1 (mv_ (as_ (A0 (D5 10) ?_))))))))
    refine B0 (tr ?_)
    exact ⟨_, (pb, blk [.int .u8 (md s.real), sv, .int .i64 (((s.n : Nat) : Int)), (vP bt)] 105) :: (B ++ MT), B11, I4 rfl rfl, (Fit.pick qP (Fit.pick (B := [_]) qP (Fit.pick qP (Fit.last qP)))), by rw [A6t hr]; exact ⟨sv, bt, bm, B, MT, rfl, hby, hT⟩, by rw [A6u hr, hbigE]; exact ⟨vs11, by rw [A5z]; exact hs11.rd qS, hl11.mono qS⟩⟩
 ·
  have hr : s.real = false := by cases hq : s.real with | false => rfl | true => rw [hq] at hc; exact absurd hc qD
  refine A7 (nx (H5 0 1 2 3 4 11) (A1 (mv_ (mv_ ?_))))
  refine A4 rfl (C6 (Mc := (pb, blk [.int .u8 (md s.real), sv, .int .i64 (((s.n : Nat) : Int)), (vP bt)] 105) :: (B ++ MT)) (R := _) (aS rfl (aS rfl a0)) kR qP (A4S pb s kv key _ _ hP qO (hk.mono qS) hG.up) rfl ?_)
  rintro v73 M73 J73 ⟨rfl, hP73⟩
  have hst0 : RdOk s.ts.length 0 (s.ts, []) := ⟨Nat.le_refl _, rfl, (fun x hx => by cases hx), hTmo⟩
  have hst := hst0.step hk.lt (by have := hk.len; omega)
  refine A4 rfl (C4 (e := 3) (sz := 1) (z := [.int .i64 0]) kR (eS rfl e0) (bdS 0 1 rfl qR bd0) rfl fun b74 => ?_)
  refine as_ (A0 (H5 0 2 3 4 11 17) (A3 (A1 (mv_ ?_))))
  refine A2 (F8 (sz := 1) rfl kR hwr) rfl ?_
  refine mv_ (A0 (V3 0 3 4 11 17 75 76 77) (A5 ?_))
  refine E1 (α := Nat × Value × Mem × Mem) (fun x => [(0, (vP pb)), (3, .string (txt lb)), (4, .int .i64 (n : Int)), (11, vS), (17, x.2.1), (75, wv), (76, (vI ws.length)), (77, (vI x.1))]) (fun x => x.2.2.1 ++ x.2.2.2) (fun x => []) (fun x => x.1 ≤ ws.length ∧ RdOk s.ts.length (1 + x.1) ((ws.take x.1).foldl A0g (A0g (s.ts, []) key)) ∧ Sl 1 x.2.1 (1 + x.1) (A1J ((ws.take x.1).foldl A0g (A0g (s.ts, []) key)).2) x.2.2.1 ∧ Prm pb { s with ts := ((ws.take x.1).foldl A0g (A0g (s.ts, []) key)).1 } x.2.2.2) (fun x => ws.length - x.1) ⟨0, .slice (some ⟨b74, 0, none⟩) 1 1, [(b74, _)], M73⟩ ⟨Nat.zero_le _, hst, Sl.fresh (n := 1) (sz := 1) (cs := A1J [((rdI s.ts key : Nat) : Int)]) (e := 3) qR qD, hP73⟩ (V3 0 3 4 11 17 75 76 77) (Fit.pick (B := [(b74, blk [.int .i64 ((rdI s.ts key : Nat) : Int)] 3)]) qP (Fit.last (B := M73) qP)) (fun _ h => by cases h) ?_
  rintro ⟨i, v17, B17, MR⟩ ⟨hi, hok, hs17, hPR⟩
  dsimp only at hi hok hs17 hPR ⊢
  haveI := hs17.cel
  refine A1 ?_
  refine A2 (D9 rfl rfl rfl) rfl ?_
  refine A0 (A0j 0 3 4 11 17 75 76 77 78) (A3 ?_)
  refine C0 rfl ?_ ?_ <;> intro hc
  ·
   have hlt : i < ws.length := by simp at hc; omega
   obtain ⟨v, hvi, hvb⟩ := hwl.at hlt
   haveI := hvb.cel
   have hft := B0C (f := A0g) (b := A0g (s.ts, []) key) hlt
   have hok2 := hok.step hvb.lt (by have := hvb.len; omega)
   rw [← hft] at hok2
   have hokl := hok.len
   refine A7 (nx (V3 0 3 4 11 17 75 76 77) (A3 (A5 (A1 ?_))))
   refine A2 (G8 (sz := 1) rfl rfl kR rfl hwr hlt) rfl ?_
   refine A2 (A01 (u := v) (hwr.mono qS) rfl kR hvi) rfl ?_
   refine as_ (A0 (A0j 0 3 4 11 17 19 75 76 77) (A9 (mv_ (mv_ (mv_ ?_)))))
   refine A4 rfl (C6 (Mc := MR) (R := _) (aS rfl (aS rfl a0)) kR qP (A4S pb _ v ws[i] _ _ hPR (by dsimp only; omega) (hvb.mono qS) hG.up) rfl ?_)
   rintro v84 M84 J84 ⟨rfl, hP84⟩
   refine A4 rfl (C4 (e := 3) (sz := 1) (z := [.int .i64 0]) kR (eS rfl e0) (bdS 0 1 rfl qR bd0) rfl fun b85 => ?_)
   refine A4 rfl (G9 (e := 3) (sz := 1) (by_ := 8) rfl rfl kR rfl hs17 (Rd.whole (n := 1) At.mem qR) (by simp [Value.oneCell']) qP (by unfold maxLen; omega) qO rfl fun v86 B86 hs86 => ?_)
   refine as_ (C1 (nb (nx (V3 0 3 4 11 17 75 76 77) (A9 ?_))))
   refine A2 (I5 (b := 1) rfl rfl rfl rfl qO) rfl ?_
   refine mv_ (C1 ?_)
   exact rn ⟨i + 1, v86, B86, M84⟩ ⟨by dsimp only; omega, hok2, (by dsimp only; rw [hft, show A0g _ ws[i] = (_, _ ++ [_]) from rfl]; dsimp only; rw [B0E]; exact hs86), (by dsimp only; rw [hft]; exact hP84)⟩ (by dsimp only; omega) (V3 0 3 4 11 17 75 76 77) (Fit.pick qP (Fit.last qP)) (fun _ h => by cases h)
  ·
   have hge : i = ws.length := by simp at hc; omega
   subst hge
   rw [List.take_length] at hok hs17 hPR
   change RdOk _ _ (V5 s.ts key ws) at hok
   change Sl _ _ _ (A1J (V5 s.ts key ws).2) _ at hs17
   change Prm _ { s with ts := (V5 s.ts key ws).1 } _ at hPR
   refine D4 (te (re (be rfl (nx (E6 0 3 4 11 17) (A3 (A1 (mv_ ?_)))))))
   refine A2 (A4C (n : Int) rfl rfl (by split <;> omega)) rfl ?_
   refine mv_ (A0 (H5 0 3 11 17 89 90) (A5 ?_))
   have hokl := hok.len
   have hokf := hok.ofl
   have hoki : ∀ x ∈ (V5 s.ts key ws).2, i64 x := fun x hx => by have := hok.of x hx; unfold i64; omega
   generalize hra : (V5 s.ts key ws).1 = tr at *
   generalize hof : (V5 s.ts key ws).2 = ofs at *
   refine E1 (α := Nat × Value × List Value × Mem × Mem × Mem) (fun x => [(0, (vP pb)), (3, .string (txt lb)), (11, x.2.1), (17, v17), (89, .int .i64 (n : Int)), (90, (vI x.1))]) (fun x => x.2.2.2.1 ++ (B17 ++ x.2.2.2.2.1)) (fun x => x.2.2.2.2.2) (fun x => x.1 ≤ n ∧ Sl 1 x.2.1 x.1 x.2.2.1 x.2.2.2.1 ∧ Lst x.2.2.2.2.2 x.2.2.1 (N0 tr ofs lb x.1).2 ∧ Prm pb { s with ts := (N0 tr ofs lb x.1).1 } x.2.2.2.2.1) (fun x => n - x.1) ⟨0, vS, [], [], MR, []⟩ ⟨Nat.zero_le _, Sl.nil, Lst.nil, hPR⟩ (H5 0 3 11 17 89 90) .rfl (fun _ h => by cases h) ?_
   rintro ⟨i, v11, vs11, B11, MQ, JQ⟩ ⟨hi, hs11, hl11, hPQ⟩
   dsimp only at hi hs11 hl11 hPQ ⊢
   haveI := hs11.cel
   obtain ⟨hpl2, hpl1⟩ := A1k tr ofs lb i
   refine A1 ?_
   refine A2 (D9 rfl rfl rfl) rfl ?_
   refine A0 (S9 0 3 11 17 89 90 91) (A3 ?_)
   refine C0 rfl ?_ ?_ <;> intro hc
   ·
    have hlt : i < n := by simp at hc; omega
    obtain ⟨sv2, bt2, bm2, B2, MT2, rfl, hby2, hT2⟩ := hPQ.ex
    dsimp only at hpl1 hT2 hby2 ⊢
    have hor := hs17.rd (R := B17) fun _ h => h
    rw [hokf.symm] at hor
    have hor : Rd B17 1 v17 ofs.length (A1J ofs) := A02 hor qO rfl
    refine A7 (nx (H5 0 3 11 17 89 90) (A3 (A5 (A1 (mv_ (as_ (A0 (S9 0 3 11 17 20 89 90) (A9 ?_))))))))
    refine mv_ (mv_ ?_)
    refine A2 (E4 rfl) rfl ?_
    refine A2 (qf_ 3 3) rfl ?_
    refine A2 ql_ rfl ?_
    refine mv_ (mv_ (mv_ ?_))
    refine A2 (F6 (place := fun x => #[(0, 1), (1, 1), (2, 1), (3, 1)][x]?) (z := [.int .u8 0, vS, .string ByteArray.empty, .int .i64 0]) (fun _ => by kernel_rfl) (eS rfl (eS rfl (eS rfl (eS rfl e0)))) (bdS 0 1 rfl qR (bdS 1 1 rfl qR (bdS 2 1 rfl qR (bdS 3 1 rfl qR bd0))))) rfl ?_
    refine A4 rfl (C6 (Mc := MT2) (R := _) (aS rfl (aS rfl a0)) kR qP (U9 bt2 bm2 (N0 tr ofs lb i).1 v17 (drv ofs lb i) MT2 _ hT2 qO (hor.mono qS) (B48 hoki qO hlb qO qO) (mA h4)) rfl ?_)
    rintro v102 M102 J102 ⟨rfl, rfl, hT102⟩
    refine C7 (aS rfl a0) kR (A0b _ _) rfl ?_
    rintro v103 M103 J103 ⟨rfl, hb103⟩
    haveI := hb103.cel
    refine A4 rfl (C4 (e := 26) (sz := 1) (z := [vS]) kR (eS rfl e0) (bdS 0 1 rfl qR bd0) rfl fun b104 => ?_)
    refine A4 rfl (G9 (e := 26) (sz := 1) (by_ := 24) rfl rfl kR rfl hs11 (Rd.whole (n := 1) At.mem qR) (by intro c hc; rw [List.mem_singleton.1 hc]; exact hb103.one) qP (by unfold maxLen; omega) qO rfl fun v105 B105 hs105 => ?_)
    refine as_ (C1 (nb (nx (H5 0 3 11 17 89 90) (A9 ?_))))
    refine A2 (I5 (b := 1) rfl rfl rfl rfl qO) rfl ?_
    refine mv_ (C1 ?_)
    exact rn ⟨i + 1, v105, vs11 ++ [v103], B105, (pb, blk [.int .u8 (md s.real), sv2, .int .i64 (((s.n : Nat) : Int)), (vP bt2)] 105) :: (B2 ++ M102), J103 ++ JQ⟩ ⟨by dsimp only; omega, hs105, (by dsimp only; rw [show N0 tr ofs lb (i + 1) = A9s ofs lb (N0 tr ofs lb i) i from P0 i]; exact (hl11.mono qS).snoc (hb103.mono qS)), (by dsimp only; rw [show N0 tr ofs lb (i + 1) = A9s ofs lb (N0 tr ofs lb i) i from P0 i]; exact ⟨sv2, bt2, bm2, B2, M102, rfl, hby2, hT102⟩)⟩ (by dsimp only; omega) (H5 0 3 11 17 89 90) (Fit.pick qP (Fit.pick qP (Fit.pick (B := [_]) qP (Fit.pick qP (Fit.last qP))))) qI
   ·
    have hge : i = n := by simp at hc; omega
    subst hge
    refine D4 (te (re (be rfl (nx (D5 11) (A1 (mv_ (as_ (A0 (D5 10) ?_))))))))
    refine B0 ?_
    exact ⟨_, MQ, B11, I4 rfl rfl, (Fit.pick qP (Fit.last qP)), by rw [A3H hr, show A83 s.ts key ws lb i = N0 tr ofs lb i by unfold A83; rw [hra, hof]]; exact hPQ, by rw [A4T hr, show A83 s.ts key ws lb i = N0 tr ofs lb i by unfold A83; rw [hra, hof]]; exact ⟨vs11, by rw [hpl2]; exact hs11.rd qS, hl11.mono qS⟩⟩

structure Tok (ts : List Tm) : Prop where
  tmo : ∀ t ∈ ts, Tmo t
  nd : ts.Nodup
theorem Tab.tok {bt bm : Nat} {ts : List Tm} {M : Mem} (h : Tab bt bm ts M) : Tok ts := by
  obtain ⟨_, _, _, _, _, _, _, _, _, _, _, h1, h2⟩ := h
  exact ⟨h1, h2⟩
theorem Tok.nil : Tok [] := ⟨(fun t h => by cases h), List.nodup_nil⟩
theorem A4u {ts : List Tm} {t : Tm} (ht : Tmo t) (h : Tok ts) : ∃ l, add ts t = ts ++ l ∧ (add ts t).length ≤ ts.length + 1 ∧ (add ts t)[at_ ts t]? = some t ∧ Tok (add ts t) := by
  cases hp : pos ts t with
  | some j =>
    obtain ⟨h1, h2⟩ := A5w hp
    exact ⟨[], by rw [h1, List.append_nil], A1K, by rw [h1, h2]; exact A5t ht h.tmo hp, by rw [h1]; exact h⟩
  | none =>
    obtain ⟨h1, h2⟩ := A7X hp
    refine ⟨[t], h1, A1K, by rw [h1, h2]; simp, ?_⟩
    rw [h1]
    refine ⟨fun u hu => ?_, ?_⟩
    · rcases List.mem_append.1 hu with hu | hu
      · exact h.tmo u hu
      · rw [List.mem_singleton.1 hu]; exact ht
    · rw [List.nodup_append]
      refine ⟨h.nd, by simp, fun x hx y hy e => (A5u ht h.tmo).1 hp ?_⟩
      rw [List.mem_singleton.1 hy] at e
      exact e ▸ hx
theorem A3J {ts l : List Tm} {i : Nat} {t : Tm} (h : ts[i]? = some t) : (ts ++ l)[i]? = some t := by
  rw [List.getElem?_append_left (List.getElem?_eq_some_iff.1 h).1]; exact h
theorem B6B {ts : List Tm} {t : Tm} {i : Nat} (h : Tok ts) (ht : ts[i]? = some t) : add ts t = ts ∧ at_ ts t = i := A5w (B8v h.tmo h.nd ht)
theorem B6C {i j : Nat} (hi : i < 18446744073709551616) (hj : j < 18446744073709551616) (h : bts ((i : Nat) : Int) = bts ((j : Nat) : Int)) : i = j := by
  have h1 := A1L ((i : Nat) : Int) 18446744073709551616
  have h2 := A1L ((j : Nat) : Int) 18446744073709551616
  have ui : u64 ((i : Nat) : Int) = i := by unfold u64; omega
  have uj : u64 ((j : Nat) : Int) = j := by unfold u64; omega
  rw [ui, if_pos hi] at h1
  rw [uj, if_pos hj] at h2
  rw [h, h2] at h1
  exact (Option.some.inj h1).symm
def B5a (ts : List Tm) (w : LN) : Prop := ∃ i, i < ts.length ∧ w = bts ((i : Nat) : Int)
theorem B5a.ext {ts l : List Tm} {w : LN} (h : B5a ts w) : B5a (ts ++ l) w := by
  obtain ⟨i, hi, e⟩ := h
  exact ⟨i, by rw [List.length_append]; omega, e⟩
theorem A3K {ts : List Tm} {i : Nat} (hi : i < ts.length) (hl : ts.length ≤ 1048576) : rdT ts (bts ((i : Nat) : Int)) = ts ∧ rdI ts (bts ((i : Nat) : Int)) = i := by
  refine W4 ?_
  rw [A1L, show u64 ((i : Nat) : Int) = i by unfold u64; omega, if_pos hi]
theorem A6v (ts : List Tm) (ofs : List Int) (lb : LN) (n : Nat) : ∃ l, (N0 ts ofs lb (n + 1)).1 = (N0 ts ofs lb n).1 ++ l := by
  have e : N0 ts ofs lb (n + 1) = A9s ofs lb (N0 ts ofs lb n) n := P0 n
  rw [e]
  show ∃ l, add _ _ = _ ++ l
  unfold add
  split
  · exact ⟨[], by simp⟩
  · exact ⟨_, rfl⟩
theorem A3L {ts : List Tm} {ofs : List Int} {lb : LN} (h : Tok ts) (hd : ∀ i, i < 100 → Tmo (drv ofs lb i)) {n : Nat} (hn : n ≤ 100) : Tok (N0 ts ofs lb n).1 := by
  induction n with
  | zero => exact h
  | succ n ih =>
    have e : N0 ts ofs lb (n + 1) = A9s ofs lb (N0 ts ofs lb n) n := P0 n
    rw [e]
    obtain ⟨_, _, _, _, h2⟩ := A4u (hd n qO) (ih qO)
    exact h2
theorem A7f {ts : List Tm} {ofs : List Int} {lb : LN} (h : Tok ts) (hd : ∀ i, i < 100 → Tmo (drv ofs lb i)) {n : Nat} (hn : n ≤ 100) {ts' l : List Tm} (e : ts' = (N0 ts ofs lb n).1 ++ l) (h' : Tok ts') : N0 ts' ofs lb n = (ts', (N0 ts ofs lb n).2) := by
  induction n generalizing l with
  | zero => rfl
  | succ n ih =>
    obtain ⟨l2, e2⟩ := A6v ts ofs lb n
    have ih := ih qO (l := l2 ++ l) (by rw [e, e2, List.append_assoc])
    have e3 : N0 ts ofs lb (n + 1) = A9s ofs lb (N0 ts ofs lb n) n := P0 n
    have e4 : N0 ts' ofs lb (n + 1) = A9s ofs lb (N0 ts' ofs lb n) n := P0 n
    obtain ⟨l3, g1, g2, g3, g4⟩ := A4u (hd n qO) (A3L h hd (show n ≤ 100 by omega))
    have g5 : ts'[at_ (N0 ts ofs lb n).1 (drv ofs lb n)]? = some (drv ofs lb n) := by
      rw [e, e3]
      exact A3J g3
    obtain ⟨a1, a2⟩ := B6B h' g5
    rw [e4, ih, e3]
    show (add ts' (drv ofs lb n), _ ++ [bts ((at_ ts' (drv ofs lb n) : Nat) : Int)]) = _
    rw [a1, a2]
    rfl
theorem B0F {ts : List Tm} {ofs : List Int} {lb : LN} (h : Tok ts) (hd : ∀ i, i < 100 → Tmo (drv ofs lb i)) {n : Nat} (hn : n ≤ 100) {i : Nat} (hi : i < n) : ∃ j, (N0 ts ofs lb n).1[j]? = some (drv ofs lb i) ∧ (N0 ts ofs lb n).2[i]? = some (bts ((j : Nat) : Int)) := by
  induction n with
  | zero => omega
  | succ n ih =>
    have e3 : N0 ts ofs lb (n + 1) = A9s ofs lb (N0 ts ofs lb n) n := P0 n
    obtain ⟨l3, g1, g2, g3, g4⟩ := A4u (hd n qO) (A3L h hd (show n ≤ 100 by omega))
    obtain ⟨p1, p2⟩ := A1k ts ofs lb n
    rw [e3]
    show ∃ j, (add _ _)[j]? = _ ∧ (_ ++ [_])[i]? = _
    by_cases hin : i < n
    · obtain ⟨j, h1, h2⟩ := ih qO hin
      exact ⟨j, by rw [g1]; exact A3J h1, by rw [List.getElem?_append_left qO]; exact h2⟩
    · obtain rfl : i = n := by omega
      exact ⟨_, g3, by rw [List.getElem?_append_right qO, p1, Nat.sub_self]; rfl⟩
def Kok (s : Ps) (w : LN) : Prop := s.real = false → B5a s.ts w
structure Pext (s s' : Ps) : Prop where
  real : s'.real = s.real
  ts : ∃ l, s'.ts = s.ts ++ l
theorem Pext.refl (s : Ps) : Pext s s := ⟨rfl, [], by simp⟩
theorem Pext.trans {a b c : Ps} (h1 : Pext a b) (h2 : Pext b c) : Pext a c := by
  obtain ⟨l1, e1⟩ := h1.ts
  obtain ⟨l2, e2⟩ := h2.ts
  exact ⟨h2.real.trans h1.real, l1 ++ l2, by rw [e2, e1, List.append_assoc]⟩
theorem Kok.ext {s s' : Ps} {w : LN} (h : Kok s w) (he : Pext s s') : Kok s' w := fun hr => by
  obtain ⟨l, e⟩ := he.ts
  rw [e]
  exact (h (by rw [← he.real]; exact hr)).ext
theorem A6w (s : Ps) : Pext s (F2 s) := by
  unfold F2
  split
  · exact ⟨rfl, [], by simp⟩
  · refine ⟨rfl, ?_⟩
    show ∃ l, add _ _ = _ ++ l
    unfold add
    split
    · exact ⟨[], by simp⟩
    · exact ⟨_, rfl⟩
theorem B0G {s : Ps} (h : Tok s.ts) (hn : s.n < 1099511627776) : Kok (F2 s) (I9 s) ∧ (s.real = false → Tok (F2 s).ts) := by
  cases hr : s.real with
  | true => exact ⟨(fun h1 => by rw [(A6w s).real, hr] at h1; cases h1), (fun h => by cases h)⟩
  | false =>
    obtain ⟨l, g1, g2, g3, g4⟩ := A4u (A70 (n := s.n + 1) qO) h
    refine ⟨fun _ => ?_, fun _ => by rw [A25 hr]; exact g4⟩
    rw [A25 hr, A5y hr]
    exact ⟨_, (List.getElem?_eq_some_iff.1 g3).1, rfl⟩
theorem A84 (ws : List (LN)) (st : List Tm × List Int) : (ws.foldl A0g st).1.length ≤ st.1.length + ws.length := by
  induction ws generalizing st with
  | nil => exact Nat.le_refl _
  | cons w ws ih =>
    have h1 := ih (A0g st w)
    have h2 := V0 (ts := st.1) (ws := w)
    have h3 : (A0g st w).1.length = (rdT st.1 w).length := rfl
    rw [List.foldl_cons, List.length_cons]; omega
theorem A26 (s : Ps) (key : LN) (ws : List (LN)) (lb : LN) (n : Nat) : (A4t s key ws lb n).ts.length ≤ s.ts.length + 1 + ws.length + n := by
  unfold A4t
  split
  · omega
  · have h1 := (A1k (V5 s.ts key ws).1 (V5 s.ts key ws).2 lb n).2
    have h2 := A84 ws (A0g (s.ts, []) key)
    have h3 := V0 (ts := s.ts) (ws := key)
    have h4 : (A0g (s.ts, []) key).1.length = (rdT s.ts key).length := rfl
    show (A83 s.ts key ws lb n).1.length ≤ _
    have h5 : (V5 s.ts key ws).1.length ≤ s.ts.length + 1 + ws.length := by
      show (ws.foldl A0g (A0g (s.ts, []) key)).1.length ≤ _
      omega
    unfold A83
    omega
theorem A2a (s : Ps) (key : LN) (ws : List (LN)) (lb : LN) (n : Nat) : (A4t s key ws lb n).real = s.real ∧ (A4t s key ws lb n).n = s.n ∧ (A4t s key ws lb n).seed = s.seed := by
  unfold A4t
  split <;> exact ⟨rfl, rfl, rfl⟩

structure PrmT (pb bt bm : Nat) (s : Ps) (M : Mem) : Prop where
  ex : ∃ (sv : Value) (B MT : Mem), M = (pb, blk [.int .u8 (md s.real), sv, (vI s.n), (vP bt)] 105) :: (B ++ MT) ∧ By B sv s.seed ∧ Tab bt bm s.ts MT
theorem PrmT.p {pb bt bm : Nat} {s : Ps} {M : Mem} (h : PrmT pb bt bm s M) : Prm pb s M := by
  obtain ⟨sv, B, MT, h1, h2, h3⟩ := h.ex
  exact ⟨sv, bt, bm, B, MT, h1, h2, h3⟩
theorem Prm.t {pb : Nat} {s : Ps} {M : Mem} (h : Prm pb s M) : ∃ bt bm, PrmT pb bt bm s M := by
  obtain ⟨sv, bt, bm, B, MT, h1, h2, h3⟩ := h.ex
  exact ⟨bt, bm, sv, B, MT, h1, h2, h3⟩
def B0H (x : Int) : Tm := ⟨3, [x], [], 0⟩
def B3w (s : Ps) (w : LN) : Ps := { s with ts := add (rdT s.ts w) (B0H ((rdI s.ts w : Nat) : Int)) }
def B6D (s : Ps) (w : LN) : LN := bts ((at_ (rdT s.ts w) (B0H ((rdI s.ts w : Nat) : Int)) : Nat) : Int)
def B6E (s : Ps) (w u : LN) : Ps := { s with ts := add (rdT (rdT s.ts w) u) (agT (rdT (rdT s.ts w) u) ((rdI s.ts w : Nat) : Int) ((rdI (rdT s.ts w) u : Nat) : Int)) }
def B76 (s : Ps) (w u : LN) : LN := bts ((at_ (rdT (rdT s.ts w) u) (agT (rdT (rdT s.ts w) u) ((rdI s.ts w : Nat) : Int) ((rdI (rdT s.ts w) u : Nat) : Int)) : Nat) : Int)
theorem B5c {x : Int} (h : i64 x) : Tmo (B0H x) := ⟨show 3 < 256 by decide, show i64 (0 : Int) by unfold i64; omega, fun i hi => by rw [List.mem_singleton.1 hi]; exact h, show 1 ≤ 1048576 by decide, ⟨fun x hx => (List.not_mem_nil hx).elim⟩, show 0 ≤ 1099511627776 by decide⟩
theorem A5A {ts : List Tm} {w : LN} (hw : ∀ x ∈ w, x < 256) (hl : w.length ≤ 1099511627776) (hts : ∀ t ∈ ts, Tmo t) (hn : ts.length ≤ 1048576) : i64 ((rdI ts w : Nat) : Int) := by
  have h1 := B46 hw hl hts
  have h2 : (rdT ts w).length ≤ ts.length + 1 := V0
  unfold i64; omega
theorem A0P (pb bt bm : Nat) (m k : Int) (sv : Value) [hsv : Cel sv [sv]] (ts : List Tm) (v : Value) (w : LN) (MT A : Mem) (hT : Tab bt bm ts MT) (hpb : (pb, blk [.int .u8 m, sv, .int .i64 k, (vP bt)] 105) ∈ A) (hn : ts.length ≤ 1048576) (hv : By A v w) {e4 : TypeId} {f4 : Nat × Nat} (h4 : (4, Obj.cells (nums .u64 A0m).toArray e4 f4) ∈ A) : FnX Tryz.prog 55 [(vP pb), v] MT A fun q M J => q = .int .i64 ((rdI ts w : Nat) : Int) ∧ Tab bt bm (rdT ts w) M := by
 haveI := hv.cel
 have hvl := hv.len
 refine FnX.enterZ (N := 11) Tryz.func55 rfl rfl rfl fun w_ => ?_
 refine B4 (D3 0 1) (A1 (as_ (A0 (D3 0 1) (A1 (mv_ ?_)))))
 refine A2 (E4 rfl) rfl ?_
 refine A2 (qf_ 3 3) rfl ?_
 refine A2 ql_ rfl ?_
 refine mv_ ?_
 refine A4 rfl (C6 (Mc := MT) (R := _) (aS rfl (aS rfl a0)) kR qP (A6p bt bm ts v w MT _ hT hn (hv.rd.mono qS) hv.lt (by have := hv.len; omega) (qS _ h4)) rfl ?_)
 rintro v10 M10 J10 ⟨rfl, rfl, hT10⟩
 refine as_ (A0 (D5 4) (B0 ?_))
 exact ⟨_, M10, [], I4 rfl rfl, Fit.none (Fit.last qP), rfl, hT10⟩
theorem A7g (pb bt bm : Nat) (s : Ps) (hr : s.real = false) (v : Value) (w : LN) (MP A : Mem) (hP : PrmT pb bt bm s MP) (hn : s.ts.length < 1048576) (hv : By A v w) (hG : Glb A) : FnX Tryz.prog 27 [(vP pb), v] MP A fun q M J => PrmT pb bt bm (B3w s w) M ∧ By J q (B6D s w) := by
 obtain ⟨sv, B, MT, rfl, hby, hT⟩ := hP.ex
 have hmd : md s.real = 1 := by rw [hr]; rfl
 rw [hmd] at *
 obtain ⟨⟨ge0, gf0, h0⟩, ⟨ge1, gf1, h1⟩, ⟨ge4, gf4, h4⟩⟩ := hG
 haveI := hv.cel
 haveI := hby.cel
 have hvl := hv.len
 refine FnX.enterZ (N := 26) Tryz.func27 rfl rfl rfl fun w_ => ?_
 refine B4 (D3 0 1) (A1 (as_ (A0 (D3 0 1) (A3 (A1 (mv_ ?_))))))
 refine A2 (G5 (e := 105) rfl rfl kR) rfl ?_
 refine A0 (D8 0 1 6) ?_
 refine C9 rfl ?_
 refine A7 (nx (D3 0 1) (A3 (A1 (mv_ ?_))))
 refine A2 (E4 rfl) rfl ?_
 refine A2 (qf_ 0 0) rfl ?_
 refine A2 ql_ rfl ?_
 refine A2 (F4 false rfl rfl (eqF qD)) rfl ?_
 refine A0 (D8 0 1 11) ?_
 refine C9 rfl ?_
 refine A7 (nx (D3 0 1) ?_)
 refine K8 (MT) (_) true [0, 1, 2, 3, 4, 5, 6, 7, 8, 11] (zp 0 [0, 0, 0, 1, 0, 0, 2, 2, 0, 2, 2, 0]) kR kR qP fun hs K n0 hKm hKs hKn => ?_
 refine km_ hs ?_
 refine K1 hs rfl (E4 rfl) rfl ?_
 refine K1 hs rfl (qf_ 3 3) rfl ?_
 refine V2 hs rfl hKs ql_ ?_
 refine km_ hs ?_
 refine km_ hs ?_
 refine N2 _ _ rfl rfl (List.Perm.refl _) hKm fun w0 => (C6 (Mc := MT) (R := _) (aS rfl (aS rfl a0)) kR qP (A0P pb bt bm 1 _ sv s.ts v w MT _ hT At.mem qO (hv.mono qS) (qS _ h4)) rfl ?_)
 rintro v21 M21 J21 ⟨rfl, hT21⟩ hKx
 refine N2 [] _ rfl rfl (List.Perm.refl _) (fun _ h => by cases h) fun w0 => (C4 (e := 3) (sz := 1) (z := [.int .i64 0]) kR (eS rfl e0) (bdS 0 1 rfl qR bd0) rfl fun b22 => fun _ => ?_)
 refine A69 (M' := (b22, blk [.int .i64 ((rdI s.ts w : Nat) : Int)] 3) :: (M21 ++ ((pb, blk [.int .u8 1, sv, .int .i64 (((s.n : Nat) : Int)), (vP bt)] 105) :: (B ++ [])))) qM ?_
 refine K1 hs rfl (F6 (place := fun x => #[(0, 1), (1, 1), (2, 1), (3, 1)][x]?) (z := [.int .u8 0, vS, .string ByteArray.empty, .int .i64 0]) (fun _ => by kernel_rfl) (eS rfl (eS rfl e0)) (bdS 0 1 rfl qR (bdS 1 1 rfl qR bd0))) rfl ?_
 refine T6 rfl rfl rfl (C6 (Mc := M21) (R := _) (aS rfl (aS rfl a0)) kR qP (U9 bt bm (rdT s.ts w) _ (B0H ((rdI s.ts w : Nat) : Int)) M21 _ hT21 (by have := V0 (ts := s.ts) (ws := w); omega) (Rd.whole (n := 1) At.mem qR) (B5c (A5A hv.lt qO hT.tok.tmo qO)) (qS _ h4)) rfl ?_)
 rintro v24 M24 J24 ⟨rfl, rfl, hT24⟩
 refine T6 rfl rfl rfl (I1 (aS rfl a0) kR (A0b _ _) rfl ?_)
 rintro v25 M25 J25 ⟨rfl, h25⟩
 refine K1 hs rfl (G6 rfl) rfl ?_
 refine P8 (D5 4) (B0 ?_)
 exact ⟨_, (pb, blk [.int .u8 1, sv, .int .i64 (((s.n : Nat) : Int)), (vP bt)] 105) :: (B ++ M24), [], I4 rfl rfl, (Fit.none (Fit.pick (B := [_]) qP (Fit.pick qP (Fit.last qP)))), ⟨sv, B, M24, by rw [show md (B3w s w).real = 1 by show md s.real = 1; rw [hr]; rfl]; rfl, hby, hT24⟩, h25.mono qS⟩
theorem A7h (pb bt bm : Nat) (s : Ps) (hr : s.real = false) (v v2 : Value) (w u : LN) (MP A : Mem) (hP : PrmT pb bt bm s MP) (hn : s.ts.length + 1 < 1048576) (hv : By A v w) (hu : By A v2 u) (hG : Glb A) : FnX Tryz.prog 73 [(vP pb), v, v2] MP A fun q M J => PrmT pb bt bm (B6E s w u) M ∧ By J q (B76 s w u) := by
 obtain ⟨sv, B, MT, rfl, hby, hT⟩ := hP.ex
 have hmd : md s.real = 1 := by rw [hr]; rfl
 rw [hmd] at *
 obtain ⟨⟨ge0, gf0, h0⟩, ⟨ge1, gf1, h1⟩, ⟨ge4, gf4, h4⟩⟩ := hG
 haveI := hv.cel
 haveI := hu.cel
 haveI := hby.cel
 have hvl := hv.len
 have hul := hu.len
 refine FnX.enterZ (N := 31) Tryz.func73 rfl rfl rfl fun w_ => ?_
 refine B4 (D8 0 1 2) (A1 (as_ (A0 (D8 0 1 2) (A3 (A1 (mv_ ?_))))))
 refine A2 (G5 (e := 105) rfl rfl kR) rfl ?_
 refine A0 (D7 0 1 2 8) ?_
 refine C9 rfl ?_
 refine A7 (nx (D8 0 1 2) (A3 (A1 (mv_ ?_))))
 refine A2 (E4 rfl) rfl ?_
 refine A2 (qf_ 0 0) rfl ?_
 refine A2 ql_ rfl ?_
 refine A2 (F4 false rfl rfl (eqF qD)) rfl ?_
 refine A0 (D7 0 1 2 13) ?_
 refine C9 rfl ?_
 refine A7 (nx (D8 0 1 2) ?_)
 refine K8 (MT) (_) true [0, 1, 2, 3, 4, 5, 6, 7, 8, 9, 12] [(0, 0), (1, 0), (2, 0), (3, 1), (4, 0), (5, 0), (7, 0), (8, 0), (6, 2), (9, 2), (10, 2), (11, 2), (12, 0)] kR kR qP fun hs K n0 hKm hKs hKn => ?_
 refine km_ hs ?_
 refine K1 hs rfl (E4 rfl) rfl ?_
 refine K1 hs rfl (qf_ 3 3) rfl ?_
 refine V2 hs rfl hKs ql_ ?_
 refine km_ hs ?_
 refine km_ hs ?_
 refine km_ hs ?_
 refine km_ hs ?_
 refine N2 _ _ rfl rfl (List.Perm.refl _) hKm fun w0 => (C6 (Mc := MT) (R := _) (aS rfl (aS rfl a0)) kR qP (A0P pb bt bm 1 _ sv s.ts v w MT _ hT At.mem qO (hv.mono qS) (qS _ h4)) rfl ?_)
 rintro v25 M25 J25 ⟨rfl, hT25⟩ hKx
 refine N2 (M25 ++ []) _ rfl rfl qP (hKx (hKn rfl)) fun w0 => (C6 (Mc := M25) (R := _) (aS rfl (aS rfl a0)) kR qP (A0P pb bt bm 1 _ sv (rdT s.ts w) v2 u M25 _ hT25 At.mem (by have := V0 (ts := s.ts) (ws := w); omega) (hu.mono qS) (qS _ h4)) rfl ?_)
 rintro v28 M28 J28 ⟨rfl, hT28⟩ hKy
 refine T6 rfl rfl rfl (C6 (Mc := M28) (R := _) (aS rfl (aS rfl (aS rfl a0))) kR qP (A81 bt bm (rdT (rdT s.ts w) u) _ _ M28 _ hT28 (by have := V0 (ts := s.ts) (ws := w); have := V0 (ts := rdT s.ts w) (ws := u); omega) (A5A hv.lt qO hT.tok.tmo qO) (A5A hu.lt qO hT25.tok.tmo (by have := V0 (ts := s.ts) (ws := w); omega)) (qS _ h4)) rfl ?_)
 rintro v29 M29 J29 ⟨rfl, rfl, hT29⟩
 refine T6 rfl rfl rfl (I1 (aS rfl a0) kR (A0b _ _) rfl ?_)
 rintro v30 M30 J30 ⟨rfl, h30⟩
 refine K1 hs rfl (G6 rfl) rfl ?_
 refine P8 (D5 6) (B0 ?_)
 exact ⟨_, (pb, blk [.int .u8 1, sv, .int .i64 (((s.n : Nat) : Int)), (vP bt)] 105) :: (B ++ M29), [], I4 rfl rfl, (Fit.none (Fit.pick (B := [_]) qP (Fit.pick qP (Fit.last qP)))), ⟨sv, B, M29, by rw [show md (B6E s w u).real = 1 by show md s.real = 1; rw [hr]; rfl]; rfl, hby, hT29⟩, h30.mono qS⟩
theorem B3x (pb : Nat) (s : Ps) (hr : s.real = false) (v : Value) (w : LN) (MP A : Mem) (hP : Prm pb s MP) (hn : s.ts.length < 1048576) (hv : By A v w) (hG : Glb A) : FnX Tryz.prog 27 [(vP pb), v] MP A fun q M J => Prm pb (B3w s w) M ∧ By J q (B6D s w) := by
  obtain ⟨bt, bm, h⟩ := hP.t
  exact (A7g pb bt bm s hr v w MP A h hn hv hG).mono fun q M J ⟨h1, h2⟩ => ⟨h1.p, h2⟩
theorem B3y (pb : Nat) (s : Ps) (hr : s.real = false) (v v2 : Value) (w u : LN) (MP A : Mem) (hP : Prm pb s MP) (hn : s.ts.length + 1 < 1048576) (hv : By A v w) (hu : By A v2 u) (hG : Glb A) : FnX Tryz.prog 73 [(vP pb), v, v2] MP A fun q M J => Prm pb (B6E s w u) M ∧ By J q (B76 s w u) := by
  obtain ⟨bt, bm, h⟩ := hP.t
  exact (A7h pb bt bm s hr v v2 w u MP A h hn hv hu hG).mono fun q M J ⟨h1, h2⟩ => ⟨h1.p, h2⟩

def A2L (x : Int) (a b : LN) : Tm := ⟨6, [x], mark a ++ mark b, 0⟩
def B9Q (x : Int) (m : LN) : Tm := ⟨7, [x], m, 0⟩
def B5d (s : Ps) (w : LN) (f : Int → Tm) : Ps := { s with ts := add (rdT s.ts w) (f ((rdI s.ts w : Nat) : Int)) }
def B5e (s : Ps) (w : LN) (f : Int → Tm) : LN := bts ((at_ (rdT s.ts w) (f ((rdI s.ts w : Nat) : Int)) : Nat) : Int)
theorem B0I {x : Int} (h : i64 x) {a b : LN} (ha : ∀ y ∈ a, y < 256) (hb : ∀ y ∈ b, y < 256) (la : a.length ≤ 16777216) (lb : b.length ≤ 16777216) : Tmo (A2L x a b) := by
  haveI : B256 a := ⟨ha⟩
  haveI : B256 b := ⟨hb⟩
  have h1 := A23 a qO
  have h2 := A23 b qO
  exact ⟨show 6 < 256 by decide, show i64 (0 : Int) by unfold i64; omega, fun i hi => by rw [List.mem_singleton.1 hi]; exact h, show 1 ≤ 1048576 by decide, inferInstanceAs (B256 (mark a ++ mark b)), by show (mark a ++ mark b).length ≤ _; rw [List.length_append]; omega⟩
theorem B0J (pb bt bm : Nat) (s : Ps) (hr : s.real = false) (v v2 v3 : Value) (w wa wb : LN) (MP A : Mem) (hP : PrmT pb bt bm s MP) (hn : s.ts.length < 1048576) (hv : By A v w) (hya : By A v2 wa) (hyb : By A v3 wb) (hG : Glb A) : FnX Tryz.prog 38 [(vP pb), v, v2, v3] MP A fun q M J => PrmT pb bt bm (B5d s w fun x => A2L x wa wb) M ∧ By J q (B5e s w fun x => A2L x wa wb) := by
 obtain ⟨sv, B, MT, rfl, hby, hT⟩ := hP.ex
 have hmd : md s.real = 1 := by rw [hr]; rfl
 rw [hmd] at *
 obtain ⟨⟨ge0, gf0, h0⟩, ⟨ge1, gf1, h1⟩, ⟨ge4, gf4, h4⟩⟩ := hG
 haveI := hv.cel
 haveI := hya.cel
 haveI := hyb.cel
 haveI := hby.cel
 have hvl := hv.len
 have hal := hya.len
 have hbl := hyb.len
 refine FnX.enterZ (N := 38) Tryz.func38 rfl rfl rfl fun w_ => ?_
 refine B4 (D7 0 1 2 3) (A1 (as_ (A0 (D7 0 1 2 3) (A3 (A1 (mv_ ?_))))))
 refine A2 (G5 (e := 105) rfl rfl kR) rfl ?_
 refine A0 (E6 0 1 2 3 10) ?_
 refine C9 rfl ?_
 refine A7 (nx (D7 0 1 2 3) (A3 (A1 (mv_ ?_))))
 refine A2 (E4 rfl) rfl ?_
 refine A2 (qf_ 0 0) rfl ?_
 refine A2 ql_ rfl ?_
 refine A2 (F4 false rfl rfl (eqF qD)) rfl ?_
 refine A0 (E6 0 1 2 3 15) ?_
 refine C9 rfl ?_
 refine A7 (nx (D7 0 1 2 3) ?_)
 refine K8 (MT) (_) true [0, 1, 2, 3, 4, 5, 6, 7, 8, 9, 10, 11, 12, 13, 16] [(0, 0), (1, 0), (2, 0), (3, 1), (4, 0), (5, 0), (8, 0), (10, 0), (6, 2), (7, 3), (9, 3), (11, 3), (12, 4), (13, 0), (14, 2), (15, 2), (16, 0)] kR kR qP fun hs K n0 hKm hKs hKn => ?_
 refine km_ hs ?_
 refine K1 hs rfl (E4 rfl) rfl ?_
 refine K1 hs rfl (qf_ 3 3) rfl ?_
 refine V2 hs rfl hKs ql_ ?_
 refine km_ hs ?_
 refine km_ hs ?_
 refine km_ hs ?_
 refine km_ hs ?_
 refine N2 _ _ rfl rfl (List.Perm.refl _) hKm fun w0 => (C6 (Mc := MT) (R := _) (aS rfl (aS rfl a0)) kR qP (A0P pb bt bm 1 _ sv s.ts v w MT _ hT At.mem qO (hv.mono qS) (qS _ h4)) rfl ?_)
 rintro v28 M28 J28 ⟨rfl, hT28⟩ hKx
 refine A6d [⟨7, 29, fun v B _ => ∃ b, v = .slice (some ⟨b, 0, none⟩) 1 1 ∧ B = [(b, blk [.int .i64 ((rdI s.ts w : Nat) : Int)] 3)]⟩, ⟨9, 31, fun v B _ => B = [] ∧ v = .string (txt (mark wa))⟩, ⟨11, 33, fun v B _ => B = [] ∧ v = .string (txt (mark wb))⟩, ⟨12, 34, fun v B _ => B = [] ∧ v = .string (txt (mark wa ++ mark wb))⟩]
  (A6 (fun _ _ _ _ _ h => h) (A6 (fun _ _ _ _ _ h => h) (A6 (fun _ _ _ _ _ h => h) (A6 (fun _ _ _ _ _ h => h) (I6))))) (show List.Nodup [29, 31, 33, 34] by decide) (show List.Nodup [7, 9, 11, 12] by decide) (A6 (C5 rfl) (A6 (C5 rfl) (A6 (C5 rfl) (A6 (C5 rfl) (I6)))))
  (A6 ⟨_, rfl, fun vs bs R w hb ha => ⟨.inl rfl, ?_⟩⟩ (A6 ⟨_, rfl, fun vs bs R w hb ha => ⟨.inl rfl, ?_⟩⟩ (A6 ⟨_, rfl, fun vs bs R w hb ha => ⟨.inl rfl, ?_⟩⟩ (A6 ⟨_, rfl, fun vs bs R w hb ha => ⟨.inl rfl, ?_⟩⟩ (I6))))) ?_
 ·
  exact C4 (e := 3) (sz := 1) (z := [.int .i64 0]) kR (eS rfl e0) (bdS 0 1 rfl qR bd0) rfl fun b => ⟨_, rfl, b, rfl, rfl⟩
 ·
  exact U7 (aS rfl a0) kR (A6j v2 wa _ (hya.rd.mono fun x hx => hb _ (qS x hx)) (hb := hya.b256) (by have := hya.len; omega) (hb _ (qS _ h4))) rfl ⟨_, rfl, rfl, rfl⟩
 ·
  exact U7 (aS rfl a0) kR (A6j v3 wb _ (hyb.rd.mono fun x hx => hb _ (qS x hx)) (hb := hyb.b256) (by have := hyb.len; omega) (hb _ (qS _ h4))) rfl ⟨_, rfl, rfl, rfl⟩
 ·
  have g9 := ha _ (List.mem_of_getElem? (i := 1) rfl) kR
  replace g9 : (fun v B _ => B = [] ∧ v = .string (txt (mark wa))) (vs 9) (bs 9) R := g9
  dsimp only at g9
  have g11 := ha _ (List.mem_of_getElem? (i := 2) rfl) kR
  replace g11 : (fun v B _ => B = [] ∧ v = .string (txt (mark wb))) (vs 11) (bs 11) R := g11
  dsimp only at g11
  obtain ⟨-, h9⟩ := g9
  obtain ⟨-, h11⟩ := g11
  exact OpQ.opL (A16 (ws := mark wa) (ws' := mark wb) (by rw [← h9]; rfl) (by rw [← h11]; rfl) rfl rfl (by have h1 := A23 wa qO; have h2 := A23 wb qO; omega)) rfl ⟨_, rfl, rfl, rfl⟩
 intro vs bs Jn0 hφ
 have g7 := ofH hφ
 dsimp only at g7
 replace hφ := ofT hφ
 have g9 := ofH hφ
 dsimp only at g9
 replace hφ := ofT hφ
 have g11 := ofH hφ
 dsimp only at g11
 replace hφ := ofT hφ
 have g12 := ofH hφ
 dsimp only at g12
 clear hφ
 dsimp only [A0z, V4, List.map, List.flatten, List.cons_append, List.nil_append]
 generalize bs 7 = B29 at *
 generalize bs 9 = B31 at *
 generalize bs 11 = B33 at *
 generalize bs 12 = B34 at *
 generalize vs 7 = u29 at *
 generalize vs 9 = u31 at *
 generalize vs 11 = u33 at *
 generalize vs 12 = u34 at *
 obtain ⟨b29, rfl, rfl⟩ := g7
 obtain ⟨rfl, rfl⟩ := g9
 obtain ⟨rfl, rfl⟩ := g11
 obtain ⟨rfl, rfl⟩ := g12
 dsimp only [List.append_eq, List.nil_append, List.cons_append]
 refine K1 hs rfl (F6 (place := fun x => #[(0, 1), (1, 1), (2, 1), (3, 1)][x]?) (z := [.int .u8 0, vS, .string ByteArray.empty, .int .i64 0]) (fun _ => by kernel_rfl) (eS rfl (eS rfl (eS rfl e0))) (bdS 0 1 rfl qR (bdS 1 1 rfl qR (bdS 2 1 rfl qR bd0)))) rfl ?_
 refine T6 rfl rfl rfl (C6 (Mc := M28) (R := _) (aS rfl (aS rfl a0)) kR qP (U9 bt bm (rdT s.ts w) _ (A2L ((rdI s.ts w : Nat) : Int) wa wb) M28 _ hT28 (by have := V0 (ts := s.ts) (ws := w); omega) (Rd.whole (n := 1) At.mem qR) (B0I (A5A hv.lt qO hT.tok.tmo qO) hya.lt hyb.lt hya.len hyb.len) (qS _ h4)) rfl ?_)
 rintro v36 M36 J36 ⟨rfl, rfl, hT36⟩
 refine T6 rfl rfl rfl (I1 (aS rfl a0) kR (A0b _ _) rfl ?_)
 rintro v37 M37 J37 ⟨rfl, h37⟩
 refine K1 hs rfl (G6 rfl) rfl ?_
 refine P8 (D5 8) (B0 ?_)
 exact ⟨_, (pb, blk [.int .u8 1, sv, .int .i64 (((s.n : Nat) : Int)), (vP bt)] 105) :: (B ++ M36), [], I4 rfl rfl, (Fit.none (Fit.pick (B := [_]) qP (Fit.pick qP (Fit.last qP)))), ⟨sv, B, M36, by rw [show md (B5d s w (fun x => A2L x wa wb)).real = 1 by show md s.real = 1; rw [hr]; rfl]; rfl, hby, hT36⟩, h37.mono qS⟩

end Go.Proofs.YtlilcmjbaknafaaGreatDoor
namespace Go.Px
abbrev p25 : Nat := 57896044618658097711785492504343953926634992332820282019728792003956564819949
def fv (a b c d e : Nat) : Nat := a + 2251799813685248 * b + 5070602400912917605986812821504 * c + 11417981541647679048466287755595961091061972992 * d + 25711008708143844408671393477458601640355247900524685364822016 * e
theorem A85 {a b c d e a1 b1 c1 d1 e1 : Nat} (ha : a < 9223372036854775808) (hb : b < 9223372036854775808) (hc : c < 9223372036854775808) (hd : d < 9223372036854775808) (he : e < 9223372036854775808)
    (h1 : a1 = (a + 19 * (e / 2251799813685248) % 18446744073709551616) % 18446744073709551616) (h2 : b1 = (b + a1 / 2251799813685248) % 18446744073709551616) (h3 : c1 = (c + b1 / 2251799813685248) % 18446744073709551616)
    (h4 : d1 = (d + c1 / 2251799813685248) % 18446744073709551616) (h5 : e1 = (e % 2251799813685248 + d1 / 2251799813685248) % 18446744073709551616) :
    fv (a1 % 2251799813685248) (b1 % 2251799813685248) (c1 % 2251799813685248) (d1 % 2251799813685248) e1 + p25 * (e / 2251799813685248) = fv a b c d e ∧ e1 < 2251799813685248 + 8192 := by
  unfold fv p25
  omega
theorem N1 {v q V : Nat} (h : v + p25 * q = V) : v % p25 = V % p25 := by rw [← h, Nat.add_mul_mod_self_left]
theorem B8G {a b c d e a2 b2 c2 d2 e2 : Nat} (ha : a < 4503599627370496) (hb : b < 4503599627370496) (hc : c < 4503599627370496) (hd : d < 4503599627370496) (he : e < 4503599627370496) (ha2 : a2 < 4503599627370496) (hb2 : b2 < 4503599627370496) (hc2 : c2 < 4503599627370496) (hd2 : d2 < 4503599627370496) (he2 : e2 < 4503599627370496) :
    fv ((a + a2) % 18446744073709551616) ((b + b2) % 18446744073709551616) ((c + c2) % 18446744073709551616) ((d + d2) % 18446744073709551616) ((e + e2) % 18446744073709551616) = fv a b c d e + fv a2 b2 c2 d2 e2 := by
  rw [Nat.mod_eq_of_lt (a := a + a2) (by omega), Nat.mod_eq_of_lt (a := b + b2) (by omega), Nat.mod_eq_of_lt (a := c + c2) (by omega), Nat.mod_eq_of_lt (a := d + d2) (by omega), Nat.mod_eq_of_lt (a := e + e2) (by omega)]
  unfold fv; omega
theorem A3M {a t b : Nat} (ha : a < 4503599627370496) (ht : t < 9007199254740992) (hb : b ≤ t) : (a + (t + (18446744073709551616 - b)) % 18446744073709551616) % 18446744073709551616 = a + t - b := by omega
theorem A2b {a t b : Nat} (ha : a < 4503599627370496) (ht : t < 9007199254740992) (hb : b ≤ t) : a + t - b < 9223372036854775808 := by omega
theorem B8H {a b c d e a2 b2 c2 d2 e2 : Nat} (ha : a2 ≤ 9007199254740916) (hb : b2 ≤ 9007199254740988) (hc : c2 ≤ 9007199254740988) (hd : d2 ≤ 9007199254740988) (he : e2 ≤ 9007199254740988) :
    fv (a + 9007199254740916 - a2) (b + 9007199254740988 - b2) (c + 9007199254740988 - c2) (d + 9007199254740988 - d2) (e + 9007199254740988 - e2) + fv a2 b2 c2 d2 e2 = fv a b c d e + 4 * p25 := by
  unfold fv p25; omega
theorem B6F {A B V : Nat} (h : V + B = A + 4 * p25) : V % p25 = (A % p25 + p25 - B % p25) % p25 := by
  unfold p25 at *; omega
theorem B0K {x y x0 x1 y0 y1 w0 t w1 : Nat} (hx : x < 18446744073709551616) (hy : y < 18446744073709551616) (h1 : x0 = x % 4294967296) (h2 : x1 = x / 4294967296) (h3 : y0 = y % 4294967296) (h4 : y1 = y / 4294967296)
    (h5 : w0 = x0 * y0 % 18446744073709551616) (h6 : t = (x1 * y0 % 18446744073709551616 + w0 / 4294967296) % 18446744073709551616) (h7 : w1 = (t % 4294967296 + x0 * y1 % 18446744073709551616) % 18446744073709551616) :
    ((x1 * y1 % 18446744073709551616 + t / 4294967296) % 18446744073709551616 + w1 / 4294967296) % 18446744073709551616 = x * y / 18446744073709551616 := by
  have b0 : x0 ≤ 4294967295 := by omega
  have b1 : x1 ≤ 4294967295 := by omega
  have b2 : y0 ≤ 4294967295 := by omega
  have b3 : y1 ≤ 4294967295 := by omega
  have q0 := Nat.mul_le_mul b0 b2
  have q1 := Nat.mul_le_mul b1 b2
  have q2 := Nat.mul_le_mul b0 b3
  have q3 := Nat.mul_le_mul b1 b3
  have ex : x = x0 + 4294967296 * x1 := by omega
  have ey : y = y0 + 4294967296 * y1 := by omega
  have e : x * y = x0 * y0 + 4294967296 * (x1 * y0) + 4294967296 * (x0 * y1) + 18446744073709551616 * (x1 * y1) := by rw [ex, ey]; grind
  rw [e]
  clear e ex ey h1 h2 h3 h4 b0 b1 b2 b3 hx hy
  generalize x0 * y0 = A at *
  generalize x1 * y0 = B at *
  generalize x0 * y1 = C at *
  generalize x1 * y1 = E at *
  omega
theorem or13 {hi lo : Nat} (hh : hi < 18446744073709551616) (hl : lo < 18446744073709551616) : (hi * 8192 % 18446744073709551616 ||| lo / 2251799813685248) = (hi * 18446744073709551616 + lo) / 2251799813685248 % 18446744073709551616 := by
  have e : hi * 8192 % 18446744073709551616 = (hi % 2251799813685248) <<< 13 := by rw [Nat.shiftLeft_eq]; omega
  rw [e, ← Nat.shiftLeft_add_eq_or_of_lt (by show _ < 8192; omega), Nat.shiftLeft_eq]
  omega
theorem A1q {R S T : Nat} (h0 : R < 2596148429267413814265248164610048) (h1 : S < 5192296858534827628530496329220096) (e : T = (R + S / 2251799813685248 % 18446744073709551616) % 340282366920938463463374607431768211456) : T = R + S / 2251799813685248 ∧ T < 5192296858534827628530496329220096 := by
  have a : S / 2251799813685248 < 18446744073709551616 := by omega
  rw [Nat.mod_eq_of_lt a, Nat.mod_eq_of_lt (by omega)] at e
  omega
theorem B3z {R0 R1 R2 R3 R4 S1 S2 S3 S4 l0 l1 l2 l3 l4 o0 o1 : Nat} (h0 : R0 < 2596148429267413814265248164610048) (h1 : R1 < 2596148429267413814265248164610048) (h2 : R2 < 2596148429267413814265248164610048) (h3 : R3 < 2596148429267413814265248164610048) (h4 : R4 < 162259276829213363391578010288128)
    (e1 : S1 = (R1 + R0 / 2251799813685248 % 18446744073709551616) % 340282366920938463463374607431768211456) (e2 : S2 = (R2 + S1 / 2251799813685248 % 18446744073709551616) % 340282366920938463463374607431768211456) (e3 : S3 = (R3 + S2 / 2251799813685248 % 18446744073709551616) % 340282366920938463463374607431768211456) (e4 : S4 = (R4 + S3 / 2251799813685248 % 18446744073709551616) % 340282366920938463463374607431768211456)
    (f0 : l0 % 2251799813685248 = R0 % 2251799813685248) (f1 : l1 % 2251799813685248 = S1 % 2251799813685248) (f2 : l2 % 2251799813685248 = S2 % 2251799813685248) (f3 : l3 % 2251799813685248 = S3 % 2251799813685248) (f4 : l4 % 2251799813685248 = S4 % 2251799813685248)
    (g0 : o0 = (l0 % 2251799813685248 + 19 * (S4 / 2251799813685248 % 18446744073709551616) % 18446744073709551616) % 18446744073709551616) (g1 : o1 = (l1 % 2251799813685248 + o0 / 2251799813685248) % 18446744073709551616) :
    o1 < 4503599627370496 ∧ fv (o0 % 2251799813685248) o1 (l2 % 2251799813685248) (l3 % 2251799813685248) (l4 % 2251799813685248) + p25 * (S4 / 2251799813685248) = R0 + 2251799813685248 * R1 + 5070602400912917605986812821504 * R2 + 11417981541647679048466287755595961091061972992 * R3 + 25711008708143844408671393477458601640355247900524685364822016 * R4 := by
  rw [f2, f3, f4]
  rw [f0] at g0
  rw [f1] at g1
  clear f0 f1 f2 f3 f4
  obtain ⟨k1, j1⟩ := A1q h1 (by omega) e1
  obtain ⟨k2, j2⟩ := A1q h2 j1 e2
  obtain ⟨k3, j3⟩ := A1q h3 j2 e3
  obtain ⟨k4, j4⟩ := A1q (by omega) j3 e4
  have j5 : S3 / 2251799813685248 < 2305843009213693952 := by clear e1 e2 e3 e4 k1 k2 k3 k4 g0 g1; omega
  clear e1 e2 e3 e4 j1 j2 j3
  have k5 : S4 < 324518553658426726783156020576256 := by clear g0 g1 k1 k2 k3; omega
  have j6 : S4 / 2251799813685248 < 288230376151711744 := by clear g0 g1 k1 k2 k3 k4; omega
  have k6 : o0 = R0 % 2251799813685248 + 19 * (S4 / 2251799813685248) := by clear g1 k1 k2 k3 k4 h0 h1 h2 h3 h4 k5 j5; omega
  have k7 : o1 = S1 % 2251799813685248 + o0 / 2251799813685248 := by clear g0 k1 k2 k3 k4 h0 h1 h2 h3 h4 k5 j5; omega
  clear g0 g1
  refine ⟨by clear k1 k2 k3 k4 h0 h1 h2 h3 h4 k5 j5; omega, ?_⟩
  clear h0 h1 h2 h3 h4 k5 j5 j6 j4
  unfold fv p25
  omega
theorem A6x {x1 x2 x3 x4 x5 z1 z2 z3 z4 z5 : Nat} (h1 : z1 ≤ 385365782469381738054997774434304) (h2 : z2 ≤ 385365782469381738054997774434304) (h3 : z3 ≤ 385365782469381738054997774434304) (h4 : z4 ≤ 385365782469381738054997774434304) (h5 : z5 ≤ 385365782469381738054997774434304) (e1 : x1 = (0 * 18446744073709551616 + 0 + z1) % 340282366920938463463374607431768211456) (e2 : x2 = (x1 + z2) % 340282366920938463463374607431768211456) (e3 : x3 = (x2 + z3) % 340282366920938463463374607431768211456) (e4 : x4 = (x3 + z4) % 340282366920938463463374607431768211456) (e5 : x5 = (x4 + z5) % 340282366920938463463374607431768211456) :
    x5 = z1 + z2 + z3 + z4 + z5 := by omega
theorem B3A {a : Nat} (h : a < 4503599627370496) : 19 * a % 18446744073709551616 = 19 * a := by omega
theorem zb {a b : Nat} (ha : a < 4503599627370496) (hb : b < 4503599627370496) : a * b ≤ 20282409603651670423947251286016 := Nat.le_trans (Nat.mul_le_mul (Nat.le_of_lt ha) (Nat.le_of_lt hb)) (by decide)
theorem A4U {a b : Nat} (ha : a < 4503599627370496) (hb : b < 4503599627370496) : 19 * a * b ≤ 385365782469381738054997774434304 := Nat.le_trans (Nat.mul_le_mul (Nat.mul_le_mul_left 19 (Nat.le_of_lt ha)) (Nat.le_of_lt hb)) (by decide)
theorem B3B (a b c d e a2 b2 c2 d2 e2 : Nat) : fv a b c d e * fv a2 b2 c2 d2 e2 =
    (a * a2 + 19 * b * e2 + 19 * c * d2 + 19 * d * c2 + 19 * e * b2) + 2251799813685248 * (a * b2 + b * a2 + 19 * c * e2 + 19 * d * d2 + 19 * e * c2) + 5070602400912917605986812821504 * (a * c2 + b * b2 + c * a2 + 19 * d * e2 + 19 * e * d2) + 11417981541647679048466287755595961091061972992 * (a * d2 + b * c2 + c * b2 + d * a2 + 19 * e * e2) + 25711008708143844408671393477458601640355247900524685364822016 * (a * e2 + b * d2 + c * c2 + d * b2 + e * a2)
    + p25 * ((b * e2 + c * d2 + d * c2 + e * b2) + 2251799813685248 * (c * e2 + d * d2 + e * c2) + 5070602400912917605986812821504 * (d * e2 + e * d2) + 11417981541647679048466287755595961091061972992 * (e * e2)) := by
  unfold fv p25; grind
def B77 (as_ : List Nat) (i k : Nat) : Nat := if i + k < 5 then as_.getD i 0 else 19 * as_.getD i 0 % 18446744073709551616
def B6G (i k : Nat) : Nat := if i + k < 5 then i + k else i + k - 5
def B0L (as_ bs : List Nat) (i k : Nat) (Xs : List Nat) : List Nat := Xs.set (B6G i k) ((Xs.getD (B6G i k) 0 + B77 as_ i k * bs.getD k 0) % 340282366920938463463374607431768211456)
def A5B (as_ bs : List Nat) (i : Nat) : Nat → List Nat → List Nat
  | 0, Xs => Xs
  | k + 1, Xs => B0L as_ bs i k (A5B as_ bs i k Xs)
def A5C (as_ bs : List Nat) : Nat → List Nat
  | 0 => [0, 0, 0, 0, 0]
  | i + 1 => A5B as_ bs i 5 (A5C as_ bs i)
theorem A72 (as_ bs : List Nat) (i k : Nat) (Xs : List Nat) : (A5B as_ bs i k Xs).length = Xs.length := by
  induction k with
  | zero => rfl
  | succ k ih => simp [A5B, B0L, ih]
theorem B3C (as_ bs : List Nat) (i : Nat) : (A5C as_ bs i).length = 5 := by
  induction i with
  | zero => rfl
  | succ i ih => rw [A5C, A72, ih]
def B6H (Xs : List Nat) : Prop := ∀ x ∈ Xs, x < 340282366920938463463374607431768211456
theorem B0M (as_ bs : List Nat) (i k : Nat) {Xs : List Nat} (h : B6H Xs) : B6H (A5B as_ bs i k Xs) := by
  induction k with
  | zero => exact h
  | succ k ih =>
    intro x hx
    rcases List.mem_or_eq_of_mem_set hx with h1 | rfl
    · exact ih x h1
    · exact Nat.mod_lt _ (by decide)
theorem B6I (as_ bs : List Nat) (i : Nat) : B6H (A5C as_ bs i) := by
  induction i with
  | zero => intro x hx; simp [A5C] at hx; subst hx; decide
  | succ i ih => exact B0M _ _ _ _ ih
theorem B3D (a b c d e a2 b2 c2 d2 e2 : Nat) (ha : a < 4503599627370496) (hb : b < 4503599627370496) (hc : c < 4503599627370496) (hd : d < 4503599627370496) (he : e < 4503599627370496) (ha2 : a2 < 4503599627370496) (hb2 : b2 < 4503599627370496) (hc2 : c2 < 4503599627370496) (hd2 : d2 < 4503599627370496) (he2 : e2 < 4503599627370496) :
    A5C [a, b, c, d, e] [a2, b2, c2, d2, e2] 5 = [a * a2 + 19 * b * e2 + 19 * c * d2 + 19 * d * c2 + 19 * e * b2, a * b2 + b * a2 + 19 * c * e2 + 19 * d * d2 + 19 * e * c2, a * c2 + b * b2 + c * a2 + 19 * d * e2 + 19 * e * d2, a * d2 + b * c2 + c * b2 + d * a2 + 19 * e * e2, a * e2 + b * d2 + c * c2 + d * b2 + e * a2] := by
  have z {x y : Nat} (hx : x < 4503599627370496) (hy : y < 4503599627370496) : x * y ≤ 385365782469381738054997774434304 := Nat.le_trans (zb hx hy) (by decide)
  simp only [A5C, A5B, B0L, B77, B6G, List.set, List.getD_cons_zero, List.getD_cons_succ, Nat.reduceAdd, Nat.reduceLT, Nat.reduceSub, if_true, if_false, Nat.zero_add, Nat.add_zero, B3A hb, B3A hc, B3A hd, B3A he, reduceIte]
  rw [A6x (z ha ha2) (A4U hb he2) (A4U hc hd2) (A4U hd hc2) (A4U he hb2) (by simp) rfl rfl rfl rfl, A6x (z ha hb2) (z hb ha2) (A4U hc he2) (A4U hd hd2) (A4U he hc2) (by simp) rfl rfl rfl rfl, A6x (z ha hc2) (z hb hb2) (z hc ha2) (A4U hd he2) (A4U he hd2) (by simp) rfl rfl rfl rfl, A6x (z ha hd2) (z hb hc2) (z hc hb2) (z hd ha2) (A4U he he2) (by simp) rfl rfl rfl rfl, A6x (z ha he2) (z hb hd2) (z hc hc2) (z hd hb2) (z he ha2) (by simp) rfl rfl rfl rfl]
theorem A3N {a b c d e a1 b1 c1 d1 e1 : Nat} (ha : a < 2251799813685248) (hb : b < 2251799813685248) (hc : c < 2251799813685248) (hd : d < 2251799813685248) (he : e < 2251799813685248 + 8192) (ha1 : a1 < 2251799813685248) (hb1 : b1 < 2251799813685248) (hc1 : c1 < 2251799813685248) (hd1 : d1 < 2251799813685248) (h : fv a1 b1 c1 d1 e1 + p25 * (e / 2251799813685248) = fv a b c d e) : e1 < 2251799813685248 := by
  have hq : e / 2251799813685248 = 0 ∨ e / 2251799813685248 = 1 := by omega
  unfold fv p25 at h
  rcases hq with hq | hq
  · rw [hq] at h; omega
  · rw [hq] at h; omega
theorem B3E {a b c d e c0 c1 c2 c3 c4 : Nat} (ha : a < 2251799813685248) (hb : b < 2251799813685248) (hc : c < 2251799813685248) (hd : d < 2251799813685248) (he : e < 2251799813685248) (h0 : c0 = (a + 19) % 18446744073709551616 / 2251799813685248) (h1 : c1 = (b + c0) % 18446744073709551616 / 2251799813685248) (h2 : c2 = (c + c1) % 18446744073709551616 / 2251799813685248) (h3 : c3 = (d + c2) % 18446744073709551616 / 2251799813685248) (h4 : c4 = (e + c3) % 18446744073709551616 / 2251799813685248) :
    (c4 = 0 ∧ fv a b c d e < p25) ∨ (c4 = 1 ∧ p25 ≤ fv a b c d e) := by
  have k0 : c0 ≤ 1 := by omega
  have k1 : c1 ≤ 1 := by omega
  have k2 : c2 ≤ 1 := by omega
  have k3 : c3 ≤ 1 := by omega
  have k4 : c4 ≤ 1 := by omega
  unfold fv p25
  omega
theorem B0N {a b c d e q a1 b1 c1 d1 e1 : Nat} (ha : a < 2251799813685248) (hb : b < 2251799813685248) (hc : c < 2251799813685248) (hd : d < 2251799813685248) (he : e < 2251799813685248) (hq : q ≤ 1) (h1 : a1 = (a + 19 * q % 18446744073709551616) % 18446744073709551616) (h2 : b1 = (b + a1 / 2251799813685248) % 18446744073709551616) (h3 : c1 = (c + b1 / 2251799813685248) % 18446744073709551616) (h4 : d1 = (d + c1 / 2251799813685248) % 18446744073709551616) (h5 : e1 = (e + d1 / 2251799813685248) % 18446744073709551616) :
    fv (a1 % 2251799813685248) (b1 % 2251799813685248) (c1 % 2251799813685248) (d1 % 2251799813685248) (e1 % 2251799813685248) + 57896044618658097711785492504343953926634992332820282019728792003956564819968 * (e1 / 2251799813685248) = fv a b c d e + 19 * q ∧ fv (a1 % 2251799813685248) (b1 % 2251799813685248) (c1 % 2251799813685248) (d1 % 2251799813685248) (e1 % 2251799813685248) < 57896044618658097711785492504343953926634992332820282019728792003956564819968 := by
  have k1 : a1 = a + 19 * q := by omega
  have k2 : b1 = b + a1 / 2251799813685248 := by omega
  have k3 : c1 = c + b1 / 2251799813685248 := by omega
  have k4 : d1 = d + c1 / 2251799813685248 := by omega
  have k5 : e1 = e + d1 / 2251799813685248 := by omega
  clear h1 h2 h3 h4 h5
  unfold fv
  omega
theorem B0O {V F k q : Nat} (h : (q = 0 ∧ V < p25) ∨ (q = 1 ∧ p25 ≤ V)) (hV : V < 57896044618658097711785492504343953926634992332820282019728792003956564819968) (h2 : F + 57896044618658097711785492504343953926634992332820282019728792003956564819968 * k = V + 19 * q ∧ F < 57896044618658097711785492504343953926634992332820282019728792003956564819968) : F = V % p25 := by
  unfold p25 at *
  rcases h with ⟨rfl, h⟩ | ⟨rfl, h⟩
  · rw [Nat.mod_eq_of_lt h]; omega
  · omega
theorem B8I {a b c d e : Nat} (ha : a < 2251799813685248) (hb : b < 2251799813685248) (hc : c < 2251799813685248) (hd : d < 2251799813685248) (he : e < 2251799813685248) : fv a b c d e < 57896044618658097711785492504343953926634992332820282019728792003956564819968 := by unfold fv; omega
theorem B3F {a b c d e : Nat} (ha : a < 2251799813685248) (hb : b < 2251799813685248) (hc : c < 2251799813685248) (hd : d < 2251799813685248) (he : e < 2251799813685248) (j : Nat) (hj : j < 5) : fv a b c d e / 2 ^ (51 * j) % 2 ^ 51 = [a, b, c, d, e].getD j 0 := by
  have : j = 0 ∨ j = 1 ∨ j = 2 ∨ j = 3 ∨ j = 4 := by omega
  unfold fv
  rcases this with rfl | rfl | rfl | rfl | rfl <;> simp only [Nat.reducePow, Nat.reduceMul, List.getD_cons_zero, List.getD_cons_succ] <;> omega
theorem B8J {a b c d e : Nat} (ha : a < 2251799813685248) (hb : b < 2251799813685248) (hc : c < 2251799813685248) (hd : d < 2251799813685248) (he : e < 2251799813685248) (i : Nat) (hi : i < 255) : [a, b, c, d, e].getD (i / 51) 0 / 2 ^ (i % 51) % 2 = fv a b c d e / 2 ^ i % 2 := by
  rw [← B3F ha hb hc hd he (i / 51) (by omega)]
  have h1 : i % 51 < 51 := Nat.mod_lt _ (by decide)
  have e : 2 ^ 51 = 2 ^ (i % 51) * (2 * 2 ^ (50 - i % 51)) := by rw [← Nat.pow_succ', ← Nat.pow_add]; congr 1; omega
  rw [e, Nat.mod_mul_right_div_self, Nat.mod_mul_right_mod, Nat.div_div_eq_div_mul, ← Nat.pow_add]
  congr 3; omega
theorem B6J {a b c d e : Nat} (ha : a < 2251799813685248) (hb : b < 2251799813685248) (hc : c < 2251799813685248) (hd : d < 2251799813685248) (he : e < 2251799813685248) : ∃ q, q = (e + (d + (c + (b + (a + 19) % 18446744073709551616 / 2251799813685248) % 18446744073709551616 / 2251799813685248) % 18446744073709551616 / 2251799813685248) % 18446744073709551616 / 2251799813685248) % 18446744073709551616 / 2251799813685248 ∧ ((q = 0 ∧ fv a b c d e < p25) ∨ (q = 1 ∧ p25 ≤ fv a b c d e)) :=
  ⟨_, rfl, B3E ha hb hc hd he rfl rfl rfl rfl rfl⟩
theorem B0P {a b c d e q : Nat} (ha : a < 2251799813685248) (hb : b < 2251799813685248) (hc : c < 2251799813685248) (hd : d < 2251799813685248) (he : e < 2251799813685248) (hq : (q = 0 ∧ fv a b c d e < p25) ∨ (q = 1 ∧ p25 ≤ fv a b c d e)) : ∃ f0 f1 f2 f3 f4, f0 = (a + 19 * q % 18446744073709551616) % 18446744073709551616 % 2251799813685248 ∧ f1 = (b + (a + 19 * q % 18446744073709551616) % 18446744073709551616 / 2251799813685248) % 18446744073709551616 % 2251799813685248 ∧ f2 = (c + (b + (a + 19 * q % 18446744073709551616) % 18446744073709551616 / 2251799813685248) % 18446744073709551616 / 2251799813685248) % 18446744073709551616 % 2251799813685248 ∧ f3 = (d + (c + (b + (a + 19 * q % 18446744073709551616) % 18446744073709551616 / 2251799813685248) % 18446744073709551616 / 2251799813685248) % 18446744073709551616 / 2251799813685248) % 18446744073709551616 % 2251799813685248 ∧ f4 = (e + (d + (c + (b + (a + 19 * q % 18446744073709551616) % 18446744073709551616 / 2251799813685248) % 18446744073709551616 / 2251799813685248) % 18446744073709551616 / 2251799813685248) % 18446744073709551616 / 2251799813685248) % 18446744073709551616 % 2251799813685248 ∧ f0 < 2251799813685248 ∧ f1 < 2251799813685248 ∧ f2 < 2251799813685248 ∧ f3 < 2251799813685248 ∧ f4 < 2251799813685248 ∧ fv f0 f1 f2 f3 f4 = fv a b c d e % p25 := by
  have hco := B0N ha hb hc hd he (q := q) (by rcases hq with h | h <;> omega) rfl rfl rfl rfl rfl
  exact ⟨_, _, _, _, _, rfl, rfl, rfl, rfl, rfl, Nat.mod_lt _ (by decide), Nat.mod_lt _ (by decide), Nat.mod_lt _ (by decide), Nat.mod_lt _ (by decide), Nat.mod_lt _ (by decide), B0O hq (B8I ha hb hc hd he) hco⟩
end Go.Px

