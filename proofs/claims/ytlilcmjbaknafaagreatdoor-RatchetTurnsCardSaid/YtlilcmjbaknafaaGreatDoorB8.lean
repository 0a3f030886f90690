/- Part 8 of the texts of this claim, one behind the other. -/
import Derived.Test.YtlilcmjbaknafaaGreatDoorB7
import Derived.Test.YtlilcmjbaknafaaGreatDoorRows
set_option linter.unusedVariables false
set_option linter.unusedSimpArgs false
set_option maxRecDepth 100000
namespace Go.Proofs.YtlilcmjbaknafaaGreatDoor
open Go.Px
structure Tok (ts : List Tm) : Prop where
  tmo : ∀ t ∈ ts, Tmo t
  nd : ts.Nodup
theorem Tab.tok {bt bm : Nat} {ts : List Tm} {M : Mem} (h : Tab bt bm ts M) : Tok ts := by
  obtain ⟨_, _, _, _, _, _, _, _, _, _, _, h1, h2⟩ := h
  exact ⟨h1, h2⟩
theorem Tok.nil : Tok [] := ⟨(fun t h => by cases h), List.nodup_nil⟩
theorem A3Y {ts : List Tm} {t : Tm} (ht : Tmo t) (h : Tok ts) : ∃ l, add ts t = ts ++ l ∧ (add ts t).length ≤ ts.length + 1 ∧ (add ts t)[at_ ts t]? = some t ∧ Tok (add ts t) := by
  cases hp : pos ts t with
  | some j =>
    obtain ⟨h1, h2⟩ := A43 hp
    exact ⟨[], by rw [h1, List.append_nil], A1t, by rw [h1, h2]; exact A40 ht h.tmo hp, by rw [h1]; exact h⟩
  | none =>
    obtain ⟨h1, h2⟩ := A7A hp
    refine ⟨[t], h1, A1t, by rw [h1, h2]; simp, ?_⟩
    rw [h1]
    refine ⟨fun u hu => ?_, ?_⟩
    · rcases List.mem_append.1 hu with hu | hu
      · exact h.tmo u hu
      · rw [List.mem_singleton.1 hu]; exact ht
    · rw [List.nodup_append]
      refine ⟨h.nd, by simp, fun x hx y hy e => (A41 ht h.tmo).1 hp ?_⟩
      rw [List.mem_singleton.1 hy] at e
      exact e ▸ hx
theorem A3i {ts l : List Tm} {i : Nat} {t : Tm} (h : ts[i]? = some t) : (ts ++ l)[i]? = some t := by
  rw [List.getElem?_append_left (List.getElem?_eq_some_iff.1 h).1]; exact h
theorem B5R {ts : List Tm} {t : Tm} {i : Nat} (h : Tok ts) (ht : ts[i]? = some t) : add ts t = ts ∧ at_ ts t = i := A43 (B7J h.tmo h.nd ht)
theorem B5S {i j : Nat} (hi : i < 18446744073709551616) (hj : j < 18446744073709551616) (h : bts ((i : Nat) : Int) = bts ((j : Nat) : Int)) : i = j := by
  have h1 := A1u ((i : Nat) : Int) 18446744073709551616
  have h2 := A1u ((j : Nat) : Int) 18446744073709551616
  have ui : u64 ((i : Nat) : Int) = i := by unfold u64; omega
  have uj : u64 ((j : Nat) : Int) = j := by unfold u64; omega
  rw [ui, if_pos hi] at h1
  rw [uj, if_pos hj] at h2
  rw [h, h2] at h1
  exact (Option.some.inj h1).symm
def B4s (ts : List Tm) (w : LN) : Prop := ∃ i, i < ts.length ∧ w = bts ((i : Nat) : Int)
theorem B4s.ext {ts l : List Tm} {w : LN} (h : B4s ts w) : B4s (ts ++ l) w := by
  obtain ⟨i, hi, e⟩ := h
  exact ⟨i, by rw [List.length_append]; omega, e⟩
theorem A3j {ts : List Tm} {i : Nat} (hi : i < ts.length) (hl : ts.length ≤ 1048576) : rdT ts (bts ((i : Nat) : Int)) = ts ∧ rdI ts (bts ((i : Nat) : Int)) = i := by
  refine V7 ?_
  rw [A1u, show u64 ((i : Nat) : Int) = i by unfold u64; omega, if_pos hi]
theorem A56 (ts : List Tm) (ofs : List Int) (lb : LN) (n : Nat) : ∃ l, (L3 ts ofs lb (n + 1)).1 = (L3 ts ofs lb n).1 ++ l := by
  have e : L3 ts ofs lb (n + 1) = A8X ofs lb (L3 ts ofs lb n) n := N5 n
  rw [e]
  show ∃ l, add _ _ = _ ++ l
  unfold add
  split
  · exact ⟨[], by simp⟩
  · exact ⟨_, rfl⟩
theorem A3k {ts : List Tm} {ofs : List Int} {lb : LN} (h : Tok ts) (hd : ∀ i, i < 100 → Tmo (drv ofs lb i)) {n : Nat} (hn : n ≤ 100) : Tok (L3 ts ofs lb n).1 := by
  induction n with
  | zero => exact h
  | succ n ih =>
    have e : L3 ts ofs lb (n + 1) = A8X ofs lb (L3 ts ofs lb n) n := N5 n
    rw [e]
    obtain ⟨_, _, _, _, h2⟩ := A3Y (hd n qO) (ih qO)
    exact h2
theorem A6R {ts : List Tm} {ofs : List Int} {lb : LN} (h : Tok ts) (hd : ∀ i, i < 100 → Tmo (drv ofs lb i)) {n : Nat} (hn : n ≤ 100) {ts' l : List Tm} (e : ts' = (L3 ts ofs lb n).1 ++ l) (h' : Tok ts') : L3 ts' ofs lb n = (ts', (L3 ts ofs lb n).2) := by
  induction n generalizing l with
  | zero => rfl
  | succ n ih =>
    obtain ⟨l2, e2⟩ := A56 ts ofs lb n
    have ih := ih qO (l := l2 ++ l) (by rw [e, e2, List.append_assoc])
    have e3 : L3 ts ofs lb (n + 1) = A8X ofs lb (L3 ts ofs lb n) n := N5 n
    have e4 : L3 ts' ofs lb (n + 1) = A8X ofs lb (L3 ts' ofs lb n) n := N5 n
    obtain ⟨l3, g1, g2, g3, g4⟩ := A3Y (hd n qO) (A3k h hd (show n ≤ 100 by omega))
    have g5 : ts'[at_ (L3 ts ofs lb n).1 (drv ofs lb n)]? = some (drv ofs lb n) := by
      rw [e, e3]
      exact A3i g3
    obtain ⟨a1, a2⟩ := B5R h' g5
    rw [e4, ih, e3]
    show (add ts' (drv ofs lb n), _ ++ [bts ((at_ ts' (drv ofs lb n) : Nat) : Int)]) = _
    rw [a1, a2]
    rfl
theorem A99 {ts : List Tm} {ofs : List Int} {lb : LN} (h : Tok ts) (hd : ∀ i, i < 100 → Tmo (drv ofs lb i)) {n : Nat} (hn : n ≤ 100) {i : Nat} (hi : i < n) : ∃ j, (L3 ts ofs lb n).1[j]? = some (drv ofs lb i) ∧ (L3 ts ofs lb n).2[i]? = some (bts ((j : Nat) : Int)) := by
  induction n with
  | zero => omega
  | succ n ih =>
    have e3 : L3 ts ofs lb (n + 1) = A8X ofs lb (L3 ts ofs lb n) n := N5 n
    obtain ⟨l3, g1, g2, g3, g4⟩ := A3Y (hd n qO) (A3k h hd (show n ≤ 100 by omega))
    obtain ⟨p1, p2⟩ := A01 ts ofs lb n
    rw [e3]
    show ∃ j, (add _ _)[j]? = _ ∧ (_ ++ [_])[i]? = _
    by_cases hin : i < n
    · obtain ⟨j, h1, h2⟩ := ih qO hin
      exact ⟨j, by rw [g1]; exact A3i h1, by rw [List.getElem?_append_left qO]; exact h2⟩
    · obtain rfl : i = n := by omega
      exact ⟨_, g3, by rw [List.getElem?_append_right qO, p1, Nat.sub_self]; rfl⟩
def Kok (s : Ps) (w : LN) : Prop := s.real = false → B4s s.ts w
structure Pext (s s' : Ps) : Prop where
  real : s'.real = s.real
  ts : ∃ l, s'.ts = s.ts ++ l
theorem Pext.refl (s : Ps) : Pext s s := ⟨rfl, [], by simp⟩
theorem Pext.trans {a b c : Ps} (h1 : Pext a b) (h2 : Pext b c) : Pext a c := by
  obtain ⟨l1, e1⟩ := h1.ts
  obtain ⟨l2, e2⟩ := h2.ts
  exact ⟨h2.real.trans h1.real, l1 ++ l2, by rw [e2, e1, List.append_assoc]⟩
theorem Kok.ext {s s' : Ps} {w : LN} (h : Kok s w) (he : Pext s s') : Kok s' w := fun hr => by
  obtain ⟨l, e⟩ := he.ts
  rw [e]
  exact (h (by rw [← he.real]; exact hr)).ext
theorem A57 (s : Ps) : Pext s (E2 s) := by
  unfold E2
  split
  · exact ⟨rfl, [], by simp⟩
  · refine ⟨rfl, ?_⟩
    show ∃ l, add _ _ = _ ++ l
    unfold add
    split
    · exact ⟨[], by simp⟩
    · exact ⟨_, rfl⟩
theorem B0a {s : Ps} (h : Tok s.ts) (hn : s.n < 1099511627776) : Kok (E2 s) (G2 s) ∧ (s.real = false → Tok (E2 s).ts) := by
  cases hr : s.real with
  | true => exact ⟨(fun h1 => by rw [(A57 s).real, hr] at h1; cases h1), (fun h => by cases h)⟩
  | false =>
    obtain ⟨l, g1, g2, g3, g4⟩ := A3Y (A7C (n := s.n + 1) qO) h
    refine ⟨fun _ => ?_, fun _ => by rw [A2G hr]; exact g4⟩
    rw [A2G hr, A45 hr]
    exact ⟨_, (List.getElem?_eq_some_iff.1 g3).1, rfl⟩
theorem A8A (ws : List (LN)) (st : List Tm × List Int) : (ws.foldl Z3 st).1.length ≤ st.1.length + ws.length := by
  induction ws generalizing st with
  | nil => exact Nat.le_refl _
  | cons w ws ih =>
    have h1 := ih (Z3 st w)
    have h2 := U0 (ts := st.1) (ws := w)
    have h3 : (Z3 st w).1.length = (rdT st.1 w).length := rfl
    rw [List.foldl_cons, List.length_cons]; omega
theorem A2I (s : Ps) (key : LN) (ws : List (LN)) (lb : LN) (n : Nat) : (A3X s key ws lb n).ts.length ≤ s.ts.length + 1 + ws.length + n := by
  unfold A3X
  split
  · omega
  · have h1 := (A01 (U5 s.ts key ws).1 (U5 s.ts key ws).2 lb n).2
    have h2 := A8A ws (Z3 (s.ts, []) key)
    have h3 := U0 (ts := s.ts) (ws := key)
    have h4 : (Z3 (s.ts, []) key).1.length = (rdT s.ts key).length := rfl
    show (A8z s.ts key ws lb n).1.length ≤ _
    have h5 : (U5 s.ts key ws).1.length ≤ s.ts.length + 1 + ws.length := by
      show (ws.foldl Z3 (Z3 (s.ts, []) key)).1.length ≤ _
      omega
    unfold A8z
    omega
theorem A1T (s : Ps) (key : LN) (ws : List (LN)) (lb : LN) (n : Nat) : (A3X s key ws lb n).real = s.real ∧ (A3X s key ws lb n).n = s.n ∧ (A3X s key ws lb n).seed = s.seed := by
  unfold A3X
  split <;> exact ⟨rfl, rfl, rfl⟩

structure PrmT (pb bt bm : Nat) (s : Ps) (M : Mem) : Prop where
  ex : ∃ (sv : Value) (B MT : Mem), M = (pb, blk [.int .u8 (md s.real), sv, (vI s.n), (vP bt)] 105) :: (B ++ MT) ∧ By B sv s.seed ∧ Tab bt bm s.ts MT
theorem PrmT.p {pb bt bm : Nat} {s : Ps} {M : Mem} (h : PrmT pb bt bm s M) : Prm pb s M := by
  obtain ⟨sv, B, MT, h1, h2, h3⟩ := h.ex
  exact ⟨sv, bt, bm, B, MT, h1, h2, h3⟩
theorem Prm.t {pb : Nat} {s : Ps} {M : Mem} (h : Prm pb s M) : ∃ bt bm, PrmT pb bt bm s M := by
  obtain ⟨sv, bt, bm, B, MT, h1, h2, h3⟩ := h.ex
  exact ⟨bt, bm, sv, B, MT, h1, h2, h3⟩
def B0b (x : Int) : Tm := ⟨3, [x], [], 0⟩
def B2M (s : Ps) (w : LN) : Ps := { s with ts := add (rdT s.ts w) (B0b ((rdI s.ts w : Nat) : Int)) }
def B5T (s : Ps) (w : LN) : LN := bts ((at_ (rdT s.ts w) (B0b ((rdI s.ts w : Nat) : Int)) : Nat) : Int)
def B5U (s : Ps) (w u : LN) : Ps := { s with ts := add (rdT (rdT s.ts w) u) (agT (rdT (rdT s.ts w) u) ((rdI s.ts w : Nat) : Int) ((rdI (rdT s.ts w) u : Nat) : Int)) }
def B7i (s : Ps) (w u : LN) : LN := bts ((at_ (rdT (rdT s.ts w) u) (agT (rdT (rdT s.ts w) u) ((rdI s.ts w : Nat) : Int) ((rdI (rdT s.ts w) u : Nat) : Int)) : Nat) : Int)
theorem B4t {x : Int} (h : i64 x) : Tmo (B0b x) := ⟨show 3 < 256 by decide, show i64 (0 : Int) by unfold i64; omega, fun i hi => by rw [List.mem_singleton.1 hi]; exact h, show 1 ≤ 1048576 by decide, ⟨fun x hx => (List.not_mem_nil hx).elim⟩, show 0 ≤ 1099511627776 by decide⟩
theorem A47 {ts : List Tm} {w : LN} (hw : ∀ x ∈ w, x < 256) (hl : w.length ≤ 1099511627776) (hts : ∀ t ∈ ts, Tmo t) (hn : ts.length ≤ 1048576) : i64 ((rdI ts w : Nat) : Int) := by
  have h1 := B4q hw hl hts
  have h2 : (rdT ts w).length ≤ ts.length + 1 := U0
  unfold i64; omega
theorem A0y (pb bt bm : Nat) (m k : Int) (sv : Value) [hsv : Cel sv [sv]] (ts : List Tm) (v : Value) (w : LN) (MT A : Mem) (hT : Tab bt bm ts MT) (hpb : (pb, blk [.int .u8 m, sv, .int .i64 k, (vP bt)] 105) ∈ A) (hn : ts.length ≤ 1048576) (hv : By A v w) {e4 : TypeId} {f4 : Nat × Nat} (h4 : (4, Obj.cells (nums .u64 A0b).toArray e4 f4) ∈ A) : FnX Tryz.prog 55 [(vP pb), v] MT A fun q M J => q = .int .i64 ((rdI ts w : Nat) : Int) ∧ Tab bt bm (rdT ts w) M := by
 haveI := hv.cel
 have hvl := hv.len
 refine FnX.enterZ (N := 11) Tryz.func55 rfl rfl rfl fun w_ => ?_
 refine B0 (D2 0 1) (A1 (as_ (A0 (D2 0 1) (A1 (mv_ ?_)))))
 refine A2 (E6 rfl) rfl ?_
 refine A2 (qf_ 3 3) rfl ?_
 refine A2 ql_ rfl ?_
 refine mv_ ?_
 refine A5 rfl (E0 (Mc := MT) (R := _) (aS rfl (aS rfl a0)) kR qP (A51 bt bm ts v w MT _ hT hn (hv.rd.mono qS) hv.lt (by have := hv.len; omega) (qS _ h4)) rfl ?_)
 rintro v10 M10 J10 ⟨rfl, rfl, hT10⟩
 refine as_ (A0 (D7 4) (B4 ?_))
 exact ⟨_, M10, [], K9 rfl rfl, Fit.none (Fit.last qP), rfl, hT10⟩
theorem A6S (pb bt bm : Nat) (s : Ps) (hr : s.real = false) (v : Value) (w : LN) (MP A : Mem) (hP : PrmT pb bt bm s MP) (hn : s.ts.length < 1048576) (hv : By A v w) (hG : Glb A) : FnX Tryz.prog 27 [(vP pb), v] MP A fun q M J => PrmT pb bt bm (B2M s w) M ∧ By J q (B5T s w) := by
 obtain ⟨sv, B, MT, rfl, hby, hT⟩ := hP.ex
 have hmd : md s.real = 1 := by rw [hr]; rfl
 rw [hmd] at *
 obtain ⟨⟨ge0, gf0, h0⟩, ⟨ge1, gf1, h1⟩, ⟨ge4, gf4, h4⟩⟩ := hG
 haveI := hv.cel
 haveI := hby.cel
 have hvl := hv.len
 refine FnX.enterZ (N := 26) Tryz.func27 rfl rfl rfl fun w_ => ?_
 refine B0 (D2 0 1) (A1 (as_ (A0 (D2 0 1) (A3 (A1 (mv_ ?_))))))
 refine A2 (H7 (e := 105) rfl rfl kR) rfl ?_
 refine A0 (D6 0 1 6) ?_
 refine C6 rfl ?_
 refine A6 (nx (D2 0 1) (A3 (A1 (mv_ ?_))))
 refine A2 (E6 rfl) rfl ?_
 refine A2 (qf_ 0 0) rfl ?_
 refine A2 ql_ rfl ?_
 refine A2 (E9 false rfl rfl (eqF qD)) rfl ?_
 refine A0 (D6 0 1 11) ?_
 refine C6 rfl ?_
 refine A6 (nx (D2 0 1) ?_)
 refine N1 (MT) (_) true [0, 1, 2, 3, 4, 5, 6, 7, 8, 11] (zp 0 [0, 0, 0, 1, 0, 0, 2, 2, 0, 2, 2, 0]) kR kR qP fun hs K n0 hKm hKs hKn => ?_
 refine km_ hs ?_
 refine L9 hs rfl (E6 rfl) rfl ?_
 refine L9 hs rfl (qf_ 3 3) rfl ?_
 refine Z0 hs rfl hKs ql_ ?_
 refine km_ hs ?_
 refine km_ hs ?_
 refine Q6 _ _ rfl rfl (List.Perm.refl _) hKm fun w0 => (E0 (Mc := MT) (R := _) (aS rfl (aS rfl a0)) kR qP (A0y pb bt bm 1 _ sv s.ts v w MT _ hT At.mem qO (hv.mono qS) (qS _ h4)) rfl ?_)
 rintro v21 M21 J21 ⟨rfl, hT21⟩ hKx
 refine Q6 [] _ rfl rfl (List.Perm.refl _) (fun _ h => by cases h) fun w0 => (C3 (e := 3) (sz := 1) (z := [.int .i64 0]) kR (eS rfl e0) (bdS 0 1 rfl qR bd0) rfl fun b22 => fun _ => ?_)
 refine A6M (M' := (b22, blk [.int .i64 ((rdI s.ts w : Nat) : Int)] 3) :: (M21 ++ ((pb, blk [.int .u8 1, sv, .int .i64 (((s.n : Nat) : Int)), (vP bt)] 105) :: (B ++ [])))) qM ?_
 refine L9 hs rfl (G6 (place := fun x => #[(0, 1), (1, 1), (2, 1), (3, 1)][x]?) (z := [.int .u8 0, vS, .string ByteArray.empty, .int .i64 0]) (fun _ => by kernel_rfl) (eS rfl (eS rfl e0)) (bdS 0 1 rfl qR (bdS 1 1 rfl qR bd0))) rfl ?_
 refine U4 rfl rfl rfl (E0 (Mc := M21) (R := _) (aS rfl (aS rfl a0)) kR qP (T9 bt bm (rdT s.ts w) _ (B0b ((rdI s.ts w : Nat) : Int)) M21 _ hT21 (by have := U0 (ts := s.ts) (ws := w); omega) (Rd.whole (n := 1) At.mem qR) (B4t (A47 hv.lt qO hT.tok.tmo qO)) (qS _ h4)) rfl ?_)
 rintro v24 M24 J24 ⟨rfl, rfl, hT24⟩
 refine U4 rfl rfl rfl (I2 (aS rfl a0) kR (Y6 _ _) rfl ?_)
 rintro v25 M25 J25 ⟨rfl, h25⟩
 refine L9 hs rfl (H8 rfl) rfl ?_
 refine T3 (D7 4) (B4 ?_)
 exact ⟨_, (pb, blk [.int .u8 1, sv, .int .i64 (((s.n : Nat) : Int)), (vP bt)] 105) :: (B ++ M24), [], K9 rfl rfl, (Fit.none (Fit.pick (B := [_]) qP (Fit.pick qP (Fit.last qP)))), ⟨sv, B, M24, by rw [show md (B2M s w).real = 1 by show md s.real = 1; rw [hr]; rfl]; rfl, hby, hT24⟩, h25.mono qS⟩
theorem A6T (pb bt bm : Nat) (s : Ps) (hr : s.real = false) (v v2 : Value) (w u : LN) (MP A : Mem) (hP : PrmT pb bt bm s MP) (hn : s.ts.length + 1 < 1048576) (hv : By A v w) (hu : By A v2 u) (hG : Glb A) : FnX Tryz.prog 73 [(vP pb), v, v2] MP A fun q M J => PrmT pb bt bm (B5U s w u) M ∧ By J q (B7i s w u) := by
 obtain ⟨sv, B, MT, rfl, hby, hT⟩ := hP.ex
 have hmd : md s.real = 1 := by rw [hr]; rfl
 rw [hmd] at *
 obtain ⟨⟨ge0, gf0, h0⟩, ⟨ge1, gf1, h1⟩, ⟨ge4, gf4, h4⟩⟩ := hG
 haveI := hv.cel
 haveI := hu.cel
 haveI := hby.cel
 have hvl := hv.len
 have hul := hu.len
 refine FnX.enterZ (N := 31) Tryz.func73 rfl rfl rfl fun w_ => ?_
 refine B0 (D6 0 1 2) (A1 (as_ (A0 (D6 0 1 2) (A3 (A1 (mv_ ?_))))))
 refine A2 (H7 (e := 105) rfl rfl kR) rfl ?_
 refine A0 (D8 0 1 2 8) ?_
 refine C6 rfl ?_
 refine A6 (nx (D6 0 1 2) (A3 (A1 (mv_ ?_))))
 refine A2 (E6 rfl) rfl ?_
 refine A2 (qf_ 0 0) rfl ?_
 refine A2 ql_ rfl ?_
 refine A2 (E9 false rfl rfl (eqF qD)) rfl ?_
 refine A0 (D8 0 1 2 13) ?_
 refine C6 rfl ?_
 refine A6 (nx (D6 0 1 2) ?_)
 refine N1 (MT) (_) true [0, 1, 2, 3, 4, 5, 6, 7, 8, 9, 12] [(0, 0), (1, 0), (2, 0), (3, 1), (4, 0), (5, 0), (7, 0), (8, 0), (6, 2), (9, 2), (10, 2), (11, 2), (12, 0)] kR kR qP fun hs K n0 hKm hKs hKn => ?_
 refine km_ hs ?_
 refine L9 hs rfl (E6 rfl) rfl ?_
 refine L9 hs rfl (qf_ 3 3) rfl ?_
 refine Z0 hs rfl hKs ql_ ?_
 refine km_ hs ?_
 refine km_ hs ?_
 refine km_ hs ?_
 refine km_ hs ?_
 refine Q6 _ _ rfl rfl (List.Perm.refl _) hKm fun w0 => (E0 (Mc := MT) (R := _) (aS rfl (aS rfl a0)) kR qP (A0y pb bt bm 1 _ sv s.ts v w MT _ hT At.mem qO (hv.mono qS) (qS _ h4)) rfl ?_)
 rintro v25 M25 J25 ⟨rfl, hT25⟩ hKx
 refine Q6 (M25 ++ []) _ rfl rfl qP (hKx (hKn rfl)) fun w0 => (E0 (Mc := M25) (R := _) (aS rfl (aS rfl a0)) kR qP (A0y pb bt bm 1 _ sv (rdT s.ts w) v2 u M25 _ hT25 At.mem (by have := U0 (ts := s.ts) (ws := w); omega) (hu.mono qS) (qS _ h4)) rfl ?_)
 rintro v28 M28 J28 ⟨rfl, hT28⟩ hKy
 refine U4 rfl rfl rfl (E0 (Mc := M28) (R := _) (aS rfl (aS rfl (aS rfl a0))) kR qP (A8y bt bm (rdT (rdT s.ts w) u) _ _ M28 _ hT28 (by have := U0 (ts := s.ts) (ws := w); have := U0 (ts := rdT s.ts w) (ws := u); omega) (A47 hv.lt qO hT.tok.tmo qO) (A47 hu.lt qO hT25.tok.tmo (by have := U0 (ts := s.ts) (ws := w); omega)) (qS _ h4)) rfl ?_)
 rintro v29 M29 J29 ⟨rfl, rfl, hT29⟩
 refine U4 rfl rfl rfl (I2 (aS rfl a0) kR (Y6 _ _) rfl ?_)
 rintro v30 M30 J30 ⟨rfl, h30⟩
 refine L9 hs rfl (H8 rfl) rfl ?_
 refine T3 (D7 6) (B4 ?_)
 exact ⟨_, (pb, blk [.int .u8 1, sv, .int .i64 (((s.n : Nat) : Int)), (vP bt)] 105) :: (B ++ M29), [], K9 rfl rfl, (Fit.none (Fit.pick (B := [_]) qP (Fit.pick qP (Fit.last qP)))), ⟨sv, B, M29, by rw [show md (B5U s w u).real = 1 by show md s.real = 1; rw [hr]; rfl]; rfl, hby, hT29⟩, h30.mono qS⟩
theorem B2N (pb : Nat) (s : Ps) (hr : s.real = false) (v : Value) (w : LN) (MP A : Mem) (hP : Prm pb s MP) (hn : s.ts.length < 1048576) (hv : By A v w) (hG : Glb A) : FnX Tryz.prog 27 [(vP pb), v] MP A fun q M J => Prm pb (B2M s w) M ∧ By J q (B5T s w) := by
  obtain ⟨bt, bm, h⟩ := hP.t
  exact (A6S pb bt bm s hr v w MP A h hn hv hG).mono fun q M J ⟨h1, h2⟩ => ⟨h1.p, h2⟩
theorem B2O (pb : Nat) (s : Ps) (hr : s.real = false) (v v2 : Value) (w u : LN) (MP A : Mem) (hP : Prm pb s MP) (hn : s.ts.length + 1 < 1048576) (hv : By A v w) (hu : By A v2 u) (hG : Glb A) : FnX Tryz.prog 73 [(vP pb), v, v2] MP A fun q M J => Prm pb (B5U s w u) M ∧ By J q (B7i s w u) := by
  obtain ⟨bt, bm, h⟩ := hP.t
  exact (A6T pb bt bm s hr v v2 w u MP A h hn hv hu hG).mono fun q M J ⟨h1, h2⟩ => ⟨h1.p, h2⟩

def A2p (x : Int) (a b : LN) : Tm := ⟨6, [x], mark a ++ mark b, 0⟩
def B87 (x : Int) (m : LN) : Tm := ⟨7, [x], m, 0⟩
def B4u (s : Ps) (w : LN) (f : Int → Tm) : Ps := { s with ts := add (rdT s.ts w) (f ((rdI s.ts w : Nat) : Int)) }
def B4v (s : Ps) (w : LN) (f : Int → Tm) : LN := bts ((at_ (rdT s.ts w) (f ((rdI s.ts w : Nat) : Int)) : Nat) : Int)
theorem B0c {x : Int} (h : i64 x) {a b : LN} (ha : ∀ y ∈ a, y < 256) (hb : ∀ y ∈ b, y < 256) (la : a.length ≤ 16777216) (lb : b.length ≤ 16777216) : Tmo (A2p x a b) := by
  haveI : B256 a := ⟨ha⟩
  haveI : B256 b := ⟨hb⟩
  have h1 := A2E a qO
  have h2 := A2E b qO
  exact ⟨show 6 < 256 by decide, show i64 (0 : Int) by unfold i64; omega, fun i hi => by rw [List.mem_singleton.1 hi]; exact h, show 1 ≤ 1048576 by decide, inferInstanceAs (B256 (mark a ++ mark b)), by show (mark a ++ mark b).length ≤ _; rw [List.length_append]; omega⟩
theorem B0d (pb bt bm : Nat) (s : Ps) (hr : s.real = false) (v v2 v3 : Value) (w wa wb : LN) (MP A : Mem) (hP : PrmT pb bt bm s MP) (hn : s.ts.length < 1048576) (hv : By A v w) (hya : By A v2 wa) (hyb : By A v3 wb) (hG : Glb A) : FnX Tryz.prog 38 [(vP pb), v, v2, v3] MP A fun q M J => PrmT pb bt bm (B4u s w fun x => A2p x wa wb) M ∧ By J q (B4v s w fun x => A2p x wa wb) := by
 obtain ⟨sv, B, MT, rfl, hby, hT⟩ := hP.ex
 have hmd : md s.real = 1 := by rw [hr]; rfl
 rw [hmd] at *
 obtain ⟨⟨ge0, gf0, h0⟩, ⟨ge1, gf1, h1⟩, ⟨ge4, gf4, h4⟩⟩ := hG
 haveI := hv.cel
 haveI := hya.cel
 haveI := hyb.cel
 haveI := hby.cel
 have hvl := hv.len
 have hal := hya.len
 have hbl := hyb.len
 refine FnX.enterZ (N := 38) Tryz.func38 rfl rfl rfl fun w_ => ?_
 refine B0 (D8 0 1 2 3) (A1 (as_ (A0 (D8 0 1 2 3) (A3 (A1 (mv_ ?_))))))
 refine A2 (H7 (e := 105) rfl rfl kR) rfl ?_
 refine A0 (E4 0 1 2 3 10) ?_
 refine C6 rfl ?_
 refine A6 (nx (D8 0 1 2 3) (A3 (A1 (mv_ ?_))))
 refine A2 (E6 rfl) rfl ?_
 refine A2 (qf_ 0 0) rfl ?_
 refine A2 ql_ rfl ?_
 refine A2 (E9 false rfl rfl (eqF qD)) rfl ?_
 refine A0 (E4 0 1 2 3 15) ?_
 refine C6 rfl ?_
 refine A6 (nx (D8 0 1 2 3) ?_)
 refine N1 (MT) (_) true [0, 1, 2, 3, 4, 5, 6, 7, 8, 9, 10, 11, 12, 13, 16] [(0, 0), (1, 0), (2, 0), (3, 1), (4, 0), (5, 0), (8, 0), (10, 0), (6, 2), (7, 3), (9, 3), (11, 3), (12, 4), (13, 0), (14, 2), (15, 2), (16, 0)] kR kR qP fun hs K n0 hKm hKs hKn => ?_
 refine km_ hs ?_
 refine L9 hs rfl (E6 rfl) rfl ?_
 refine L9 hs rfl (qf_ 3 3) rfl ?_
 refine Z0 hs rfl hKs ql_ ?_
 refine km_ hs ?_
 refine km_ hs ?_
 refine km_ hs ?_
 refine km_ hs ?_
 refine Q6 _ _ rfl rfl (List.Perm.refl _) hKm fun w0 => (E0 (Mc := MT) (R := _) (aS rfl (aS rfl a0)) kR qP (A0y pb bt bm 1 _ sv s.ts v w MT _ hT At.mem qO (hv.mono qS) (qS _ h4)) rfl ?_)
 rintro v28 M28 J28 ⟨rfl, hT28⟩ hKx
 refine A5P [⟨7, 29, fun v B _ => ∃ b, v = .slice (some ⟨b, 0, none⟩) 1 1 ∧ B = [(b, blk [.int .i64 ((rdI s.ts w : Nat) : Int)] 3)]⟩, ⟨9, 31, fun v B _ => B = [] ∧ v = .string (txt (mark wa))⟩, ⟨11, 33, fun v B _ => B = [] ∧ v = .string (txt (mark wb))⟩, ⟨12, 34, fun v B _ => B = [] ∧ v = .string (txt (mark wa ++ mark wb))⟩]
  (A8 (fun _ _ _ _ _ h => h) (A8 (fun _ _ _ _ _ h => h) (A8 (fun _ _ _ _ _ h => h) (A8 (fun _ _ _ _ _ h => h) (L6))))) (show List.Nodup [29, 31, 33, 34] by decide) (show List.Nodup [7, 9, 11, 12] by decide) (A8 (C8 rfl) (A8 (C8 rfl) (A8 (C8 rfl) (A8 (C8 rfl) (L6)))))
  (A8 ⟨_, rfl, fun vs bs R w hb ha => ⟨.inl rfl, ?_⟩⟩ (A8 ⟨_, rfl, fun vs bs R w hb ha => ⟨.inl rfl, ?_⟩⟩ (A8 ⟨_, rfl, fun vs bs R w hb ha => ⟨.inl rfl, ?_⟩⟩ (A8 ⟨_, rfl, fun vs bs R w hb ha => ⟨.inl rfl, ?_⟩⟩ (L6))))) ?_
 ·
  exact C3 (e := 3) (sz := 1) (z := [.int .i64 0]) kR (eS rfl e0) (bdS 0 1 rfl qR bd0) rfl fun b => ⟨_, rfl, b, rfl, rfl⟩
 ·
  exact V2 (aS rfl a0) kR (A5V v2 wa _ (hya.rd.mono fun x hx => hb _ (qS x hx)) (hb := hya.b256) (by have := hya.len; omega) (hb _ (qS _ h4))) rfl ⟨_, rfl, rfl, rfl⟩
 ·
  exact V2 (aS rfl a0) kR (A5V v3 wb _ (hyb.rd.mono fun x hx => hb _ (qS x hx)) (hb := hyb.b256) (by have := hyb.len; omega) (hb _ (qS _ h4))) rfl ⟨_, rfl, rfl, rfl⟩
 ·
  have g9 := ha _ (List.mem_of_getElem? (i := 1) rfl) kR
  replace g9 : (fun v B _ => B = [] ∧ v = .string (txt (mark wa))) (vs 9) (bs 9) R := g9
  dsimp only at g9
  have g11 := ha _ (List.mem_of_getElem? (i := 2) rfl) kR
  replace g11 : (fun v B _ => B = [] ∧ v = .string (txt (mark wb))) (vs 11) (bs 11) R := g11
  dsimp only at g11
  obtain ⟨-, h9⟩ := g9
  obtain ⟨-, h11⟩ := g11
  exact OpQ.opL (A1Q (ws := mark wa) (ws' := mark wb) (by rw [← h9]; rfl) (by rw [← h11]; rfl) rfl rfl (by have h1 := A2E wa qO; have h2 := A2E wb qO; omega)) rfl ⟨_, rfl, rfl, rfl⟩
 intro vs bs Jn0 hφ
 have g7 := ofH hφ
 dsimp only at g7
 replace hφ := ofT hφ
 have g9 := ofH hφ
 dsimp only at g9
 replace hφ := ofT hφ
 have g11 := ofH hφ
 dsimp only at g11
 replace hφ := ofT hφ
 have g12 := ofH hφ
 dsimp only at g12
 clear hφ
 dsimp only [A0l, U3, List.map, List.flatten, List.cons_append, List.nil_append]
 generalize bs 7 = B29 at *
 generalize bs 9 = B31 at *
 generalize bs 11 = B33 at *
 generalize bs 12 = B34 at *
 generalize vs 7 = u29 at *
 generalize vs 9 = u31 at *
 generalize vs 11 = u33 at *
 generalize vs 12 = u34 at *
 obtain ⟨b29, rfl, rfl⟩ := g7
 obtain ⟨rfl, rfl⟩ := g9
 obtain ⟨rfl, rfl⟩ := g11
 obtain ⟨rfl, rfl⟩ := g12
 dsimp only [List.append_eq, List.nil_append, List.cons_append]
 refine L9 hs rfl (G6 (place := fun x => #[(0, 1), (1, 1), (2, 1), (3, 1)][x]?) (z := [.int .u8 0, vS, .string ByteArray.empty, .int .i64 0]) (fun _ => by kernel_rfl) (eS rfl (eS rfl (eS rfl e0))) (bdS 0 1 rfl qR (bdS 1 1 rfl qR (bdS 2 1 rfl qR bd0)))) rfl ?_
 refine U4 rfl rfl rfl (E0 (Mc := M28) (R := _) (aS rfl (aS rfl a0)) kR qP (T9 bt bm (rdT s.ts w) _ (A2p ((rdI s.ts w : Nat) : Int) wa wb) M28 _ hT28 (by have := U0 (ts := s.ts) (ws := w); omega) (Rd.whole (n := 1) At.mem qR) (B0c (A47 hv.lt qO hT.tok.tmo qO) hya.lt hyb.lt hya.len hyb.len) (qS _ h4)) rfl ?_)
 rintro v36 M36 J36 ⟨rfl, rfl, hT36⟩
 refine U4 rfl rfl rfl (I2 (aS rfl a0) kR (Y6 _ _) rfl ?_)
 rintro v37 M37 J37 ⟨rfl, h37⟩
 refine L9 hs rfl (H8 rfl) rfl ?_
 refine T3 (D7 8) (B4 ?_)
 exact ⟨_, (pb, blk [.int .u8 1, sv, .int .i64 (((s.n : Nat) : Int)), (vP bt)] 105) :: (B ++ M36), [], K9 rfl rfl, (Fit.none (Fit.pick (B := [_]) qP (Fit.pick qP (Fit.last qP)))), ⟨sv, B, M36, by rw [show md (B4u s w (fun x => A2p x wa wb)).real = 1 by show md s.real = 1; rw [hr]; rfl]; rfl, hby, hT36⟩, h37.mono qS⟩

end Go.Proofs.YtlilcmjbaknafaaGreatDoor
namespace Go.Px
abbrev p25 : Nat := 57896044618658097711785492504343953926634992332820282019728792003956564819949
def fv (a b c d e : Nat) : Nat := a + 2251799813685248 * b + 5070602400912917605986812821504 * c + 11417981541647679048466287755595961091061972992 * d + 25711008708143844408671393477458601640355247900524685364822016 * e
theorem A8B {a b c d e a1 b1 c1 d1 e1 : Nat} (ha : a < 9223372036854775808) (hb : b < 9223372036854775808) (hc : c < 9223372036854775808) (hd : d < 9223372036854775808) (he : e < 9223372036854775808)
    (h1 : a1 = (a + 19 * (e / 2251799813685248) % 18446744073709551616) % 18446744073709551616) (h2 : b1 = (b + a1 / 2251799813685248) % 18446744073709551616) (h3 : c1 = (c + b1 / 2251799813685248) % 18446744073709551616)
    (h4 : d1 = (d + c1 / 2251799813685248) % 18446744073709551616) (h5 : e1 = (e % 2251799813685248 + d1 / 2251799813685248) % 18446744073709551616) :
    fv (a1 % 2251799813685248) (b1 % 2251799813685248) (c1 % 2251799813685248) (d1 % 2251799813685248) e1 + p25 * (e / 2251799813685248) = fv a b c d e ∧ e1 < 2251799813685248 + 8192 := by
  unfold fv p25
  omega
theorem L4 {v q V : Nat} (h : v + p25 * q = V) : v % p25 = V % p25 := by rw [← h, Nat.add_mul_mod_self_left]
theorem B7X {a b c d e a2 b2 c2 d2 e2 : Nat} (ha : a < 4503599627370496) (hb : b < 4503599627370496) (hc : c < 4503599627370496) (hd : d < 4503599627370496) (he : e < 4503599627370496) (ha2 : a2 < 4503599627370496) (hb2 : b2 < 4503599627370496) (hc2 : c2 < 4503599627370496) (hd2 : d2 < 4503599627370496) (he2 : e2 < 4503599627370496) :
    fv ((a + a2) % 18446744073709551616) ((b + b2) % 18446744073709551616) ((c + c2) % 18446744073709551616) ((d + d2) % 18446744073709551616) ((e + e2) % 18446744073709551616) = fv a b c d e + fv a2 b2 c2 d2 e2 := by
  rw [Nat.mod_eq_of_lt (a := a + a2) (by omega), Nat.mod_eq_of_lt (a := b + b2) (by omega), Nat.mod_eq_of_lt (a := c + c2) (by omega), Nat.mod_eq_of_lt (a := d + d2) (by omega), Nat.mod_eq_of_lt (a := e + e2) (by omega)]
  unfold fv; omega
theorem A3l {a t b : Nat} (ha : a < 4503599627370496) (ht : t < 9007199254740992) (hb : b ≤ t) : (a + (t + (18446744073709551616 - b)) % 18446744073709551616) % 18446744073709551616 = a + t - b := by omega
theorem A1U {a t b : Nat} (ha : a < 4503599627370496) (ht : t < 9007199254740992) (hb : b ≤ t) : a + t - b < 9223372036854775808 := by omega
theorem B7Y {a b c d e a2 b2 c2 d2 e2 : Nat} (ha : a2 ≤ 9007199254740916) (hb : b2 ≤ 9007199254740988) (hc : c2 ≤ 9007199254740988) (hd : d2 ≤ 9007199254740988) (he : e2 ≤ 9007199254740988) :
    fv (a + 9007199254740916 - a2) (b + 9007199254740988 - b2) (c + 9007199254740988 - c2) (d + 9007199254740988 - d2) (e + 9007199254740988 - e2) + fv a2 b2 c2 d2 e2 = fv a b c d e + 4 * p25 := by
  unfold fv p25; omega
theorem B5V {A B V : Nat} (h : V + B = A + 4 * p25) : V % p25 = (A % p25 + p25 - B % p25) % p25 := by
  unfold p25 at *; omega
theorem B0e {x y x0 x1 y0 y1 w0 t w1 : Nat} (hx : x < 18446744073709551616) (hy : y < 18446744073709551616) (h1 : x0 = x % 4294967296) (h2 : x1 = x / 4294967296) (h3 : y0 = y % 4294967296) (h4 : y1 = y / 4294967296)
    (h5 : w0 = x0 * y0 % 18446744073709551616) (h6 : t = (x1 * y0 % 18446744073709551616 + w0 / 4294967296) % 18446744073709551616) (h7 : w1 = (t % 4294967296 + x0 * y1 % 18446744073709551616) % 18446744073709551616) :
    ((x1 * y1 % 18446744073709551616 + t / 4294967296) % 18446744073709551616 + w1 / 4294967296) % 18446744073709551616 = x * y / 18446744073709551616 := by
  have b0 : x0 ≤ 4294967295 := by omega
  have b1 : x1 ≤ 4294967295 := by omega
  have b2 : y0 ≤ 4294967295 := by omega
  have b3 : y1 ≤ 4294967295 := by omega
  have q0 := Nat.mul_le_mul b0 b2
  have q1 := Nat.mul_le_mul b1 b2
  have q2 := Nat.mul_le_mul b0 b3
  have q3 := Nat.mul_le_mul b1 b3
  have ex : x = x0 + 4294967296 * x1 := by omega
  have ey : y = y0 + 4294967296 * y1 := by omega
  have e : x * y = x0 * y0 + 4294967296 * (x1 * y0) + 4294967296 * (x0 * y1) + 18446744073709551616 * (x1 * y1) := by rw [ex, ey]; grind
  rw [e]
  clear e ex ey h1 h2 h3 h4 b0 b1 b2 b3 hx hy
  generalize x0 * y0 = A at *
  generalize x1 * y0 = B at *
  generalize x0 * y1 = C at *
  generalize x1 * y1 = E at *
  omega
theorem or13 {hi lo : Nat} (hh : hi < 18446744073709551616) (hl : lo < 18446744073709551616) : (hi * 8192 % 18446744073709551616 ||| lo / 2251799813685248) = (hi * 18446744073709551616 + lo) / 2251799813685248 % 18446744073709551616 := by
  have e : hi * 8192 % 18446744073709551616 = (hi % 2251799813685248) <<< 13 := by rw [Nat.shiftLeft_eq]; omega
  rw [e, ← Nat.shiftLeft_add_eq_or_of_lt (by show _ < 8192; omega), Nat.shiftLeft_eq]
  omega
theorem A06 {R S T : Nat} (h0 : R < 2596148429267413814265248164610048) (h1 : S < 5192296858534827628530496329220096) (e : T = (R + S / 2251799813685248 % 18446744073709551616) % 340282366920938463463374607431768211456) : T = R + S / 2251799813685248 ∧ T < 5192296858534827628530496329220096 := by
  have a : S / 2251799813685248 < 18446744073709551616 := by omega
  rw [Nat.mod_eq_of_lt a, Nat.mod_eq_of_lt (by omega)] at e
  omega
theorem B2P {R0 R1 R2 R3 R4 S1 S2 S3 S4 l0 l1 l2 l3 l4 o0 o1 : Nat} (h0 : R0 < 2596148429267413814265248164610048) (h1 : R1 < 2596148429267413814265248164610048) (h2 : R2 < 2596148429267413814265248164610048) (h3 : R3 < 2596148429267413814265248164610048) (h4 : R4 < 162259276829213363391578010288128)
    (e1 : S1 = (R1 + R0 / 2251799813685248 % 18446744073709551616) % 340282366920938463463374607431768211456) (e2 : S2 = (R2 + S1 / 2251799813685248 % 18446744073709551616) % 340282366920938463463374607431768211456) (e3 : S3 = (R3 + S2 / 2251799813685248 % 18446744073709551616) % 340282366920938463463374607431768211456) (e4 : S4 = (R4 + S3 / 2251799813685248 % 18446744073709551616) % 340282366920938463463374607431768211456)
    (f0 : l0 % 2251799813685248 = R0 % 2251799813685248) (f1 : l1 % 2251799813685248 = S1 % 2251799813685248) (f2 : l2 % 2251799813685248 = S2 % 2251799813685248) (f3 : l3 % 2251799813685248 = S3 % 2251799813685248) (f4 : l4 % 2251799813685248 = S4 % 2251799813685248)
    (g0 : o0 = (l0 % 2251799813685248 + 19 * (S4 / 2251799813685248 % 18446744073709551616) % 18446744073709551616) % 18446744073709551616) (g1 : o1 = (l1 % 2251799813685248 + o0 / 2251799813685248) % 18446744073709551616) :
    o1 < 4503599627370496 ∧ fv (o0 % 2251799813685248) o1 (l2 % 2251799813685248) (l3 % 2251799813685248) (l4 % 2251799813685248) + p25 * (S4 / 2251799813685248) = R0 + 2251799813685248 * R1 + 5070602400912917605986812821504 * R2 + 11417981541647679048466287755595961091061972992 * R3 + 25711008708143844408671393477458601640355247900524685364822016 * R4 := by
  rw [f2, f3, f4]
  rw [f0] at g0
  rw [f1] at g1
  clear f0 f1 f2 f3 f4
  obtain ⟨k1, j1⟩ := A06 h1 (by omega) e1
  obtain ⟨k2, j2⟩ := A06 h2 j1 e2
  obtain ⟨k3, j3⟩ := A06 h3 j2 e3
  obtain ⟨k4, j4⟩ := A06 (by omega) j3 e4
  have j5 : S3 / 2251799813685248 < 2305843009213693952 := by clear e1 e2 e3 e4 k1 k2 k3 k4 g0 g1; omega
  clear e1 e2 e3 e4 j1 j2 j3
  have k5 : S4 < 324518553658426726783156020576256 := by clear g0 g1 k1 k2 k3; omega
  have j6 : S4 / 2251799813685248 < 288230376151711744 := by clear g0 g1 k1 k2 k3 k4; omega
  have k6 : o0 = R0 % 2251799813685248 + 19 * (S4 / 2251799813685248) := by clear g1 k1 k2 k3 k4 h0 h1 h2 h3 h4 k5 j5; omega
  have k7 : o1 = S1 % 2251799813685248 + o0 / 2251799813685248 := by clear g0 k1 k2 k3 k4 h0 h1 h2 h3 h4 k5 j5; omega
  clear g0 g1
  refine ⟨by clear k1 k2 k3 k4 h0 h1 h2 h3 h4 k5 j5; omega, ?_⟩
  clear h0 h1 h2 h3 h4 k5 j5 j6 j4
  unfold fv p25
  omega
theorem A58 {x1 x2 x3 x4 x5 z1 z2 z3 z4 z5 : Nat} (h1 : z1 ≤ 385365782469381738054997774434304) (h2 : z2 ≤ 385365782469381738054997774434304) (h3 : z3 ≤ 385365782469381738054997774434304) (h4 : z4 ≤ 385365782469381738054997774434304) (h5 : z5 ≤ 385365782469381738054997774434304) (e1 : x1 = (0 * 18446744073709551616 + 0 + z1) % 340282366920938463463374607431768211456) (e2 : x2 = (x1 + z2) % 340282366920938463463374607431768211456) (e3 : x3 = (x2 + z3) % 340282366920938463463374607431768211456) (e4 : x4 = (x3 + z4) % 340282366920938463463374607431768211456) (e5 : x5 = (x4 + z5) % 340282366920938463463374607431768211456) :
    x5 = z1 + z2 + z3 + z4 + z5 := by omega
theorem B2Q {a : Nat} (h : a < 4503599627370496) : 19 * a % 18446744073709551616 = 19 * a := by omega
theorem zb {a b : Nat} (ha : a < 4503599627370496) (hb : b < 4503599627370496) : a * b ≤ 20282409603651670423947251286016 := Nat.le_trans (Nat.mul_le_mul (Nat.le_of_lt ha) (Nat.le_of_lt hb)) (by decide)
theorem A4o {a b : Nat} (ha : a < 4503599627370496) (hb : b < 4503599627370496) : 19 * a * b ≤ 385365782469381738054997774434304 := Nat.le_trans (Nat.mul_le_mul (Nat.mul_le_mul_left 19 (Nat.le_of_lt ha)) (Nat.le_of_lt hb)) (by decide)
theorem B2R (a b c d e a2 b2 c2 d2 e2 : Nat) : fv a b c d e * fv a2 b2 c2 d2 e2 =
    (a * a2 + 19 * b * e2 + 19 * c * d2 + 19 * d * c2 + 19 * e * b2) + 2251799813685248 * (a * b2 + b * a2 + 19 * c * e2 + 19 * d * d2 + 19 * e * c2) + 5070602400912917605986812821504 * (a * c2 + b * b2 + c * a2 + 19 * d * e2 + 19 * e * d2) + 11417981541647679048466287755595961091061972992 * (a * d2 + b * c2 + c * b2 + d * a2 + 19 * e * e2) + 25711008708143844408671393477458601640355247900524685364822016 * (a * e2 + b * d2 + c * c2 + d * b2 + e * a2)
    + p25 * ((b * e2 + c * d2 + d * c2 + e * b2) + 2251799813685248 * (c * e2 + d * d2 + e * c2) + 5070602400912917605986812821504 * (d * e2 + e * d2) + 11417981541647679048466287755595961091061972992 * (e * e2)) := by
  unfold fv p25; grind
def B7j (as_ : List Nat) (i k : Nat) : Nat := if i + k < 5 then as_.getD i 0 else 19 * as_.getD i 0 % 18446744073709551616
def B5W (i k : Nat) : Nat := if i + k < 5 then i + k else i + k - 5
def B0f (as_ bs : List Nat) (i k : Nat) (Xs : List Nat) : List Nat := Xs.set (B5W i k) ((Xs.getD (B5W i k) 0 + B7j as_ i k * bs.getD k 0) % 340282366920938463463374607431768211456)
def A48 (as_ bs : List Nat) (i : Nat) : Nat → List Nat → List Nat
  | 0, Xs => Xs
  | k + 1, Xs => B0f as_ bs i k (A48 as_ bs i k Xs)
def A49 (as_ bs : List Nat) : Nat → List Nat
  | 0 => [0, 0, 0, 0, 0]
  | i + 1 => A48 as_ bs i 5 (A49 as_ bs i)
theorem A7E (as_ bs : List Nat) (i k : Nat) (Xs : List Nat) : (A48 as_ bs i k Xs).length = Xs.length := by
  induction k with
  | zero => rfl
  | succ k ih => simp [A48, B0f, ih]
theorem B2S (as_ bs : List Nat) (i : Nat) : (A49 as_ bs i).length = 5 := by
  induction i with
  | zero => rfl
  | succ i ih => rw [A49, A7E, ih]
def B5X (Xs : List Nat) : Prop := ∀ x ∈ Xs, x < 340282366920938463463374607431768211456
theorem B0g (as_ bs : List Nat) (i k : Nat) {Xs : List Nat} (h : B5X Xs) : B5X (A48 as_ bs i k Xs) := by
  induction k with
  | zero => exact h
  | succ k ih =>
    intro x hx
    rcases List.mem_or_eq_of_mem_set hx with h1 | rfl
    · exact ih x h1
    · exact Nat.mod_lt _ (by decide)
theorem B5Y (as_ bs : List Nat) (i : Nat) : B5X (A49 as_ bs i) := by
  induction i with
  | zero => intro x hx; simp [A49] at hx; subst hx; decide
  | succ i ih => exact B0g _ _ _ _ ih
theorem B2T (a b c d e a2 b2 c2 d2 e2 : Nat) (ha : a < 4503599627370496) (hb : b < 4503599627370496) (hc : c < 4503599627370496) (hd : d < 4503599627370496) (he : e < 4503599627370496) (ha2 : a2 < 4503599627370496) (hb2 : b2 < 4503599627370496) (hc2 : c2 < 4503599627370496) (hd2 : d2 < 4503599627370496) (he2 : e2 < 4503599627370496) :
    A49 [a, b, c, d, e] [a2, b2, c2, d2, e2] 5 = [a * a2 + 19 * b * e2 + 19 * c * d2 + 19 * d * c2 + 19 * e * b2, a * b2 + b * a2 + 19 * c * e2 + 19 * d * d2 + 19 * e * c2, a * c2 + b * b2 + c * a2 + 19 * d * e2 + 19 * e * d2, a * d2 + b * c2 + c * b2 + d * a2 + 19 * e * e2, a * e2 + b * d2 + c * c2 + d * b2 + e * a2] := by
  have z {x y : Nat} (hx : x < 4503599627370496) (hy : y < 4503599627370496) : x * y ≤ 385365782469381738054997774434304 := Nat.le_trans (zb hx hy) (by decide)
  simp only [A49, A48, B0f, B7j, B5W, List.set, List.getD_cons_zero, List.getD_cons_succ, Nat.reduceAdd, Nat.reduceLT, Nat.reduceSub, if_true, if_false, Nat.zero_add, Nat.add_zero, B2Q hb, B2Q hc, B2Q hd, B2Q he, reduceIte]
  rw [A58 (z ha ha2) (A4o hb he2) (A4o hc hd2) (A4o hd hc2) (A4o he hb2) (by simp) rfl rfl rfl rfl, A58 (z ha hb2) (z hb ha2) (A4o hc he2) (A4o hd hd2) (A4o he hc2) (by simp) rfl rfl rfl rfl, A58 (z ha hc2) (z hb hb2) (z hc ha2) (A4o hd he2) (A4o he hd2) (by simp) rfl rfl rfl rfl, A58 (z ha hd2) (z hb hc2) (z hc hb2) (z hd ha2) (A4o he he2) (by simp) rfl rfl rfl rfl, A58 (z ha he2) (z hb hd2) (z hc hc2) (z hd hb2) (z he ha2) (by simp) rfl rfl rfl rfl]
theorem A3m {a b c d e a1 b1 c1 d1 e1 : Nat} (ha : a < 2251799813685248) (hb : b < 2251799813685248) (hc : c < 2251799813685248) (hd : d < 2251799813685248) (he : e < 2251799813685248 + 8192) (ha1 : a1 < 2251799813685248) (hb1 : b1 < 2251799813685248) (hc1 : c1 < 2251799813685248) (hd1 : d1 < 2251799813685248) (h : fv a1 b1 c1 d1 e1 + p25 * (e / 2251799813685248) = fv a b c d e) : e1 < 2251799813685248 := by
  have hq : e / 2251799813685248 = 0 ∨ e / 2251799813685248 = 1 := by omega
  unfold fv p25 at h
  rcases hq with hq | hq
  · rw [hq] at h; omega
  · rw [hq] at h; omega
theorem B2U {a b c d e c0 c1 c2 c3 c4 : Nat} (ha : a < 2251799813685248) (hb : b < 2251799813685248) (hc : c < 2251799813685248) (hd : d < 2251799813685248) (he : e < 2251799813685248) (h0 : c0 = (a + 19) % 18446744073709551616 / 2251799813685248) (h1 : c1 = (b + c0) % 18446744073709551616 / 2251799813685248) (h2 : c2 = (c + c1) % 18446744073709551616 / 2251799813685248) (h3 : c3 = (d + c2) % 18446744073709551616 / 2251799813685248) (h4 : c4 = (e + c3) % 18446744073709551616 / 2251799813685248) :
    (c4 = 0 ∧ fv a b c d e < p25) ∨ (c4 = 1 ∧ p25 ≤ fv a b c d e) := by
  have k0 : c0 ≤ 1 := by omega
  have k1 : c1 ≤ 1 := by omega
  have k2 : c2 ≤ 1 := by omega
  have k3 : c3 ≤ 1 := by omega
  have k4 : c4 ≤ 1 := by omega
  unfold fv p25
  omega
theorem B0h {a b c d e q a1 b1 c1 d1 e1 : Nat} (ha : a < 2251799813685248) (hb : b < 2251799813685248) (hc : c < 2251799813685248) (hd : d < 2251799813685248) (he : e < 2251799813685248) (hq : q ≤ 1) (h1 : a1 = (a + 19 * q % 18446744073709551616) % 18446744073709551616) (h2 : b1 = (b + a1 / 2251799813685248) % 18446744073709551616) (h3 : c1 = (c + b1 / 2251799813685248) % 18446744073709551616) (h4 : d1 = (d + c1 / 2251799813685248) % 18446744073709551616) (h5 : e1 = (e + d1 / 2251799813685248) % 18446744073709551616) :
    fv (a1 % 2251799813685248) (b1 % 2251799813685248) (c1 % 2251799813685248) (d1 % 2251799813685248) (e1 % 2251799813685248) + 57896044618658097711785492504343953926634992332820282019728792003956564819968 * (e1 / 2251799813685248) = fv a b c d e + 19 * q ∧ fv (a1 % 2251799813685248) (b1 % 2251799813685248) (c1 % 2251799813685248) (d1 % 2251799813685248) (e1 % 2251799813685248) < 57896044618658097711785492504343953926634992332820282019728792003956564819968 := by
  have k1 : a1 = a + 19 * q := by omega
  have k2 : b1 = b + a1 / 2251799813685248 := by omega
  have k3 : c1 = c + b1 / 2251799813685248 := by omega
  have k4 : d1 = d + c1 / 2251799813685248 := by omega
  have k5 : e1 = e + d1 / 2251799813685248 := by omega
  clear h1 h2 h3 h4 h5
  unfold fv
  omega
theorem B0i {V F k q : Nat} (h : (q = 0 ∧ V < p25) ∨ (q = 1 ∧ p25 ≤ V)) (hV : V < 57896044618658097711785492504343953926634992332820282019728792003956564819968) (h2 : F + 57896044618658097711785492504343953926634992332820282019728792003956564819968 * k = V + 19 * q ∧ F < 57896044618658097711785492504343953926634992332820282019728792003956564819968) : F = V % p25 := by
  unfold p25 at *
  rcases h with ⟨rfl, h⟩ | ⟨rfl, h⟩
  · rw [Nat.mod_eq_of_lt h]; omega
  · omega
theorem B7Z {a b c d e : Nat} (ha : a < 2251799813685248) (hb : b < 2251799813685248) (hc : c < 2251799813685248) (hd : d < 2251799813685248) (he : e < 2251799813685248) : fv a b c d e < 57896044618658097711785492504343953926634992332820282019728792003956564819968 := by unfold fv; omega
theorem B2V {a b c d e : Nat} (ha : a < 2251799813685248) (hb : b < 2251799813685248) (hc : c < 2251799813685248) (hd : d < 2251799813685248) (he : e < 2251799813685248) (j : Nat) (hj : j < 5) : fv a b c d e / 2 ^ (51 * j) % 2 ^ 51 = [a, b, c, d, e].getD j 0 := by
  have : j = 0 ∨ j = 1 ∨ j = 2 ∨ j = 3 ∨ j = 4 := by omega
  unfold fv
  rcases this with rfl | rfl | rfl | rfl | rfl <;> simp only [Nat.reducePow, Nat.reduceMul, List.getD_cons_zero, List.getD_cons_succ] <;> omega
theorem B70 {a b c d e : Nat} (ha : a < 2251799813685248) (hb : b < 2251799813685248) (hc : c < 2251799813685248) (hd : d < 2251799813685248) (he : e < 2251799813685248) (i : Nat) (hi : i < 255) : [a, b, c, d, e].getD (i / 51) 0 / 2 ^ (i % 51) % 2 = fv a b c d e / 2 ^ i % 2 := by
  rw [← B2V ha hb hc hd he (i / 51) (by omega)]
  have h1 : i % 51 < 51 := Nat.mod_lt _ (by decide)
  have e : 2 ^ 51 = 2 ^ (i % 51) * (2 * 2 ^ (50 - i % 51)) := by rw [← Nat.pow_succ', ← Nat.pow_add]; congr 1; omega
  rw [e, Nat.mod_mul_right_div_self, Nat.mod_mul_right_mod, Nat.div_div_eq_div_mul, ← Nat.pow_add]
  congr 3; omega
theorem B5Z {a b c d e : Nat} (ha : a < 2251799813685248) (hb : b < 2251799813685248) (hc : c < 2251799813685248) (hd : d < 2251799813685248) (he : e < 2251799813685248) : ∃ q, q = (e + (d + (c + (b + (a + 19) % 18446744073709551616 / 2251799813685248) % 18446744073709551616 / 2251799813685248) % 18446744073709551616 / 2251799813685248) % 18446744073709551616 / 2251799813685248) % 18446744073709551616 / 2251799813685248 ∧ ((q = 0 ∧ fv a b c d e < p25) ∨ (q = 1 ∧ p25 ≤ fv a b c d e)) :=
  ⟨_, rfl, B2U ha hb hc hd he rfl rfl rfl rfl rfl⟩
theorem B0j {a b c d e q : Nat} (ha : a < 2251799813685248) (hb : b < 2251799813685248) (hc : c < 2251799813685248) (hd : d < 2251799813685248) (he : e < 2251799813685248) (hq : (q = 0 ∧ fv a b c d e < p25) ∨ (q = 1 ∧ p25 ≤ fv a b c d e)) : ∃ f0 f1 f2 f3 f4, f0 = (a + 19 * q % 18446744073709551616) % 18446744073709551616 % 2251799813685248 ∧ f1 = (b + (a + 19 * q % 18446744073709551616) % 18446744073709551616 / 2251799813685248) % 18446744073709551616 % 2251799813685248 ∧ f2 = (c + (b + (a + 19 * q % 18446744073709551616) % 18446744073709551616 / 2251799813685248) % 18446744073709551616 / 2251799813685248) % 18446744073709551616 % 2251799813685248 ∧ f3 = (d + (c + (b + (a + 19 * q % 18446744073709551616) % 18446744073709551616 / 2251799813685248) % 18446744073709551616 / 2251799813685248) % 18446744073709551616 / 2251799813685248) % 18446744073709551616 % 2251799813685248 ∧ f4 = (e + (d + (c + (b + (a + 19 * q % 18446744073709551616) % 18446744073709551616 / 2251799813685248) % 18446744073709551616 / 2251799813685248) % 18446744073709551616 / 2251799813685248) % 18446744073709551616 / 2251799813685248) % 18446744073709551616 % 2251799813685248 ∧ f0 < 2251799813685248 ∧ f1 < 2251799813685248 ∧ f2 < 2251799813685248 ∧ f3 < 2251799813685248 ∧ f4 < 2251799813685248 ∧ fv f0 f1 f2 f3 f4 = fv a b c d e % p25 := by
  have hco := B0h ha hb hc hd he (q := q) (by rcases hq with h | h <;> omega) rfl rfl rfl rfl rfl
  exact ⟨_, _, _, _, _, rfl, rfl, rfl, rfl, rfl, Nat.mod_lt _ (by decide), Nat.mod_lt _ (by decide), Nat.mod_lt _ (by decide), Nat.mod_lt _ (by decide), Nat.mod_lt _ (by decide), B0i hq (B7Z ha hb hc hd he) hco⟩
end Go.Px

namespace Go.Proofs.YtlilcmjbaknafaaGreatDoor
open Go.Px
abbrev el (a b c d e : Nat) : Value := .agg #[.int .u64 (a : Int), .int .u64 (b : Int), .int .u64 (c : Int), .int .u64 (d : Int), .int .u64 (e : Int)]
def Fe (v : Value) (n : Nat) : Prop := ∃ a b c d e, v = el a b c d e ∧ a < 4503599627370496 ∧ b < 4503599627370496 ∧ c < 4503599627370496 ∧ d < 4503599627370496 ∧ e < 4503599627370496 ∧ fv a b c d e % p25 = n
theorem Fe.lt {v : Value} {n : Nat} (h : Fe v n) : n < p25 := by
  obtain ⟨a, b, c, d, e, _, _, _, _, _, _, rfl⟩ := h
  exact Nat.mod_lt _ qD
theorem S9 (a b c d e : Nat) (ha : a < 9223372036854775808) (hb : b < 9223372036854775808) (hc : c < 9223372036854775808) (hd : d < 9223372036854775808) (he : e < 9223372036854775808) (A : Mem) :
  FnX Tryz.prog 104 [el a b c d e] [] A fun r M J => M = [] ∧ J = [] ∧ ∃ a' b' c' d' e', r = el a' b' c' d' e' ∧ a' < 2251799813685248 ∧ b' < 2251799813685248 ∧ c' < 2251799813685248 ∧ d' < 2251799813685248 ∧ fv a' b' c' d' e' + p25 * (e / 2251799813685248) = fv a b c d e ∧ e' < 2251799813685248 + 8192 := by
 refine FnX.enter (N := 38) Tryz.func104 rfl rfl rfl fun w => ?_
 refine B0 (D7 0) (A1 ?_)
 refine A5 rfl (bx_ fun b1 => ?_)
 refine A5 rfl (C4 (cs := [E3, E3, E3, E3, E3]) kR rfl fun b2 => ?_)
 refine A0 (D2 1 2) (A1 ?_)
 refine A2 (qi_ 4 94 5 1 4) rfl ?_
 refine A2 ql_ rfl ?_
 refine A2 (N3 51 2251799813685248 rfl rfl rfl rfl qD) rfl ?_
 refine as_ (A0 (D6 1 2 3) (A1 ?_))
 refine A2 (qi_ 4 94 5 1 4) rfl ?_
 refine A2 ql_ rfl ?_
 refine A2 (N4 51 2251799813685248 rfl rfl rfl rfl rfl (by show _ < 18446744073709551616; first | assumption | exact Nat.mod_lt _ qD | omega) qD) rfl ?_
 refine A2 (qi_ 4 94 5 1 4) rfl ?_
 refine A5 rfl (D9 rfl rfl rfl kR SetC.set UpC.upd ?_)
 refine A0 (D6 1 2 3) (A1 ?_)
 refine A2 (qi_ 0 94 5 1 0) rfl ?_
 refine A2 ql_ rfl ?_
 refine mv_ ?_
 refine A2 (N2 18446744073709551616 (a := 19) rfl rfl rfl rfl rfl rfl) rfl ?_
 refine A2 (F2 18446744073709551616 rfl rfl rfl rfl rfl rfl) rfl ?_
 refine A2 (qi_ 0 94 5 1 0) rfl ?_
 refine A5 rfl (D9 rfl rfl rfl kR SetC.set UpC.upd ?_)
 refine A0 (D2 1 2) (A3 (A1 (mv_ (A0 (D6 1 2 18) (A4 ?_)))))
 refine T7 5 ?_
 refine F6 ?_
 refine A1 ?_
 refine A2 (E9 true rfl rfl (ltT qD)) rfl ?_
 refine A0 (D8 1 2 18 19) (A3 ?_)
 refine D5 rfl ?_
 refine A6 (nx (D6 1 2 18) (A3 (A4 (A1 (mv_ (as_ (A0 (D8 1 2 4 18) ?_)))))))
 refine C9 (.range 10) (zp 0 [0, 0, 0, 1, 0, 0, 1, 0, 0, 0, 2]) kR kR fun hs => ?_
 refine fm_ hs ?_
 refine C2 hs rfl (C7 (1 : Int) rfl rfl (E1 qD qD qD)) rfl ?_
 refine C2 hs rfl (qi_ 1 94 5 1 1) rfl ?_
 refine G4 hs rfl ql_ rfl ?_
 refine fm_ hs ?_
 refine C2 hs rfl (qi_ 0 94 5 1 0) rfl ?_
 refine G4 hs rfl ql_ rfl ?_
 refine C2 hs rfl (N3 51 2251799813685248 rfl rfl rfl rfl qD) rfl ?_
 refine C2 hs rfl (F2 18446744073709551616 rfl rfl rfl rfl rfl rfl) rfl ?_
 refine C2 hs rfl (qi_ 1 94 5 1 1) rfl ?_
 refine F5 rfl rfl rfl (D9 rfl rfl rfl kR SetC.set UpC.upd ?_)
 refine E7 (D8 1 2 4 18) (A7 (mv_ ?_))
 refine A2 (qi_ 0 94 5 1 0) rfl ?_
 refine A2 ql_ rfl ?_
 refine A2 (N4 51 2251799813685248 rfl rfl rfl rfl rfl (by show _ < 18446744073709551616; first | assumption | exact Nat.mod_lt _ qD | omega) qD) rfl ?_
 refine A2 (qi_ 0 94 5 1 0) rfl ?_
 refine A5 rfl (D9 rfl rfl rfl kR SetC.set UpC.upd ?_)
 refine C0 (nb (nx (D6 1 2 18) (A7 ?_)))
 refine A2 (C7 (1 : Int) rfl rfl (E1 qD qD qD)) rfl ?_
 refine mv_ (C0 ?_)
 refine un (D6 1 2 18) ?_
 refine F6 ?_
 refine A1 ?_
 refine A2 (E9 true rfl rfl (ltT qD)) rfl ?_
 refine A0 (D8 1 2 18 19) (A3 ?_)
 refine D5 rfl ?_
 refine A6 (nx (D6 1 2 18) (A3 (A4 (A1 (mv_ (as_ (A0 (D8 1 2 4 18) ?_)))))))
 refine C9 (.range 10) (zp 0 [0, 0, 0, 1, 0, 0, 1, 0, 0, 0, 2]) kR kR fun hs => ?_
 refine fm_ hs ?_
 refine C2 hs rfl (C7 (2 : Int) rfl rfl (E1 qD qD qD)) rfl ?_
 refine C2 hs rfl (qi_ 2 94 5 1 2) rfl ?_
 refine G4 hs rfl ql_ rfl ?_
 refine fm_ hs ?_
 refine C2 hs rfl (qi_ 1 94 5 1 1) rfl ?_
 refine G4 hs rfl ql_ rfl ?_
 refine C2 hs rfl (N3 51 2251799813685248 rfl rfl rfl rfl qD) rfl ?_
 refine C2 hs rfl (F2 18446744073709551616 rfl rfl rfl rfl rfl rfl) rfl ?_
 refine C2 hs rfl (qi_ 2 94 5 1 2) rfl ?_
 refine F5 rfl rfl rfl (D9 rfl rfl rfl kR SetC.set UpC.upd ?_)
 refine E7 (D8 1 2 4 18) (A7 (mv_ ?_))
 refine A2 (qi_ 1 94 5 1 1) rfl ?_
 refine A2 ql_ rfl ?_
 refine A2 (N4 51 2251799813685248 rfl rfl rfl rfl rfl (by show _ < 18446744073709551616; first | assumption | exact Nat.mod_lt _ qD | omega) qD) rfl ?_
 refine A2 (qi_ 1 94 5 1 1) rfl ?_
 refine A5 rfl (D9 rfl rfl rfl kR SetC.set UpC.upd ?_)
 refine C0 (nb (nx (D6 1 2 18) (A7 ?_)))
 refine A2 (C7 (2 : Int) rfl rfl (E1 qD qD qD)) rfl ?_
 refine mv_ (C0 ?_)
 refine un (D6 1 2 18) ?_
 refine F6 ?_
 refine A1 ?_
 refine A2 (E9 true rfl rfl (ltT qD)) rfl ?_
 refine A0 (D8 1 2 18 19) (A3 ?_)
 refine D5 rfl ?_
 refine A6 (nx (D6 1 2 18) (A3 (A4 (A1 (mv_ (as_ (A0 (D8 1 2 4 18) ?_)))))))
 refine C9 (.range 10) (zp 0 [0, 0, 0, 1, 0, 0, 1, 0, 0, 0, 2]) kR kR fun hs => ?_
 refine fm_ hs ?_
 refine C2 hs rfl (C7 (3 : Int) rfl rfl (E1 qD qD qD)) rfl ?_
 refine C2 hs rfl (qi_ 3 94 5 1 3) rfl ?_
 refine G4 hs rfl ql_ rfl ?_
 refine fm_ hs ?_
 refine C2 hs rfl (qi_ 2 94 5 1 2) rfl ?_
 refine G4 hs rfl ql_ rfl ?_
 refine C2 hs rfl (N3 51 2251799813685248 rfl rfl rfl rfl qD) rfl ?_
 refine C2 hs rfl (F2 18446744073709551616 rfl rfl rfl rfl rfl rfl) rfl ?_
 refine C2 hs rfl (qi_ 3 94 5 1 3) rfl ?_
 refine F5 rfl rfl rfl (D9 rfl rfl rfl kR SetC.set UpC.upd ?_)
 refine E7 (D8 1 2 4 18) (A7 (mv_ ?_))
 refine A2 (qi_ 2 94 5 1 2) rfl ?_
 refine A2 ql_ rfl ?_
 refine A2 (N4 51 2251799813685248 rfl rfl rfl rfl rfl (by show _ < 18446744073709551616; first | assumption | exact Nat.mod_lt _ qD | omega) qD) rfl ?_
 refine A2 (qi_ 2 94 5 1 2) rfl ?_
 refine A5 rfl (D9 rfl rfl rfl kR SetC.set UpC.upd ?_)
 refine C0 (nb (nx (D6 1 2 18) (A7 ?_)))
 refine A2 (C7 (3 : Int) rfl rfl (E1 qD qD qD)) rfl ?_
 refine mv_ (C0 ?_)
 refine un (D6 1 2 18) ?_
 refine F6 ?_
 refine A1 ?_
 refine A2 (E9 true rfl rfl (ltT qD)) rfl ?_
 refine A0 (D8 1 2 18 19) (A3 ?_)
 refine D5 rfl ?_
 refine A6 (nx (D6 1 2 18) (A3 (A4 (A1 (mv_ (as_ (A0 (D8 1 2 4 18) ?_)))))))
 refine C9 (.range 10) (zp 0 [0, 0, 0, 1, 0, 0, 1, 0, 0, 0, 2]) kR kR fun hs => ?_
 refine fm_ hs ?_
 refine C2 hs rfl (C7 (4 : Int) rfl rfl (E1 qD qD qD)) rfl ?_
 refine C2 hs rfl (qi_ 4 94 5 1 4) rfl ?_
 refine G4 hs rfl ql_ rfl ?_
 refine fm_ hs ?_
 refine C2 hs rfl (qi_ 3 94 5 1 3) rfl ?_
 refine G4 hs rfl ql_ rfl ?_
 refine C2 hs rfl (N3 51 2251799813685248 rfl rfl rfl rfl qD) rfl ?_
 refine C2 hs rfl (F2 18446744073709551616 rfl rfl rfl rfl rfl rfl) rfl ?_
 refine C2 hs rfl (qi_ 4 94 5 1 4) rfl ?_
 refine F5 rfl rfl rfl (D9 rfl rfl rfl kR SetC.set UpC.upd ?_)
 refine E7 (D8 1 2 4 18) (A7 (mv_ ?_))
 refine A2 (qi_ 3 94 5 1 3) rfl ?_
 refine A2 ql_ rfl ?_
 refine A2 (N4 51 2251799813685248 rfl rfl rfl rfl rfl (by show _ < 18446744073709551616; first | assumption | exact Nat.mod_lt _ qD | omega) qD) rfl ?_
 refine A2 (qi_ 3 94 5 1 3) rfl ?_
 refine A5 rfl (D9 rfl rfl rfl kR SetC.set UpC.upd ?_)
 refine C0 (nb (nx (D6 1 2 18) (A7 ?_)))
 refine A2 (C7 (4 : Int) rfl rfl (E1 qD qD qD)) rfl ?_
 refine mv_ (C0 ?_)
 refine un (D6 1 2 18) ?_
 refine F6 ?_
 refine A1 ?_
 refine A2 (E9 false rfl rfl (ltF qD)) rfl ?_
 refine A0 (D8 1 2 18 19) (A3 ?_)
 refine C6 rfl ?_
 refine D0 (te (ue (be rfl (nx (D2 1 2) (A1 ?_)))))
 refine A2 (qw_ 5) rfl ?_
 refine A5 rfl (A9 rfl rfl Cel.cel kR ln5 al5 UpC.upd ?_)
 refine A0 (D7 2) (B4 ?_)
 refine ⟨_, [], [], A3Q rfl rfl kR At.mem qR, List.nil_sublist _, by simp, rfl, rfl, _, _, _, _, _, rfl, Nat.mod_lt _ qD, Nat.mod_lt _ qD, Nat.mod_lt _ qD, Nat.mod_lt _ qD, A8B ha hb hc hd he rfl rfl rfl rfl rfl⟩
theorem B0k (v u : Value) (x y : Nat) (hx : Fe v x) (hy : Fe u y) (A : Mem) : FnX Tryz.prog 101 [v, u] [] A fun r M J => M = [] ∧ J = [] ∧ Fe r ((x + y) % p25) := by
 obtain ⟨a, b, c, d, e, rfl, ha, hb, hc, hd, he, rfl⟩ := hx
 obtain ⟨a2, b2, c2, d2, e2, rfl, ha2, hb2, hc2, hd2, he2, rfl⟩ := hy
 refine FnX.enter (N := 20) Tryz.func101 rfl rfl rfl fun w => ?_
 refine B0 (D2 0 1) (A1 ?_)
 refine A5 rfl (bx_ fun b2 => ?_)
 refine A5 rfl (bx_ fun b3 => ?_)
 refine A5 rfl (C4 (cs := [E3, E3, E3, E3, E3]) kR rfl fun b4 => ?_)
 refine A0 (D6 2 3 4) (A3 (A1 (mv_ (A0 (D8 2 3 4 6) (A4 ?_)))))
 refine T7 6 ?_
 refine F6 ?_
 refine A1 ?_
 refine A2 (E9 true rfl rfl (ltT qD)) rfl ?_
 refine A0 (E4 2 3 4 6 7) (A3 ?_)
 refine D5 rfl ?_
 refine A6 (nx (D8 2 3 4 6) (A3 (A4 (A1 (mv_ (as_ (A0 (E4 2 3 4 5 6) ?_)))))))
 refine F8 (.range 8) (zp 0 [0, 0, 1, 0, 0, 1, 0, 0, 2]) kR kR fun hs => ?_
 refine fm_ hs ?_
 refine C2 hs rfl (qi_ 0 94 5 1 0) rfl ?_
 refine G4 hs rfl ql_ rfl ?_
 refine fm_ hs ?_
 refine C2 hs rfl (qi_ 0 94 5 1 0) rfl ?_
 refine G4 hs rfl ql_ rfl ?_
 refine C2 hs rfl (F2 18446744073709551616 rfl rfl rfl rfl rfl rfl) rfl ?_
 refine C2 hs rfl (qi_ 0 94 5 1 0) rfl ?_
 refine F5 rfl rfl rfl (D9 rfl rfl rfl kR SetC.set UpC.upd ?_)
 refine Q8 (nb (nx (D8 2 3 4 6) (A7 ?_)))
 refine A2 (C7 (1 : Int) rfl rfl (E1 qD qD qD)) rfl ?_
 refine mv_ (C0 ?_)
 refine un (D8 2 3 4 6) ?_
 refine F6 ?_
 refine A1 ?_
 refine A2 (E9 true rfl rfl (ltT qD)) rfl ?_
 refine A0 (E4 2 3 4 6 7) (A3 ?_)
 refine D5 rfl ?_
 refine A6 (nx (D8 2 3 4 6) (A3 (A4 (A1 (mv_ (as_ (A0 (E4 2 3 4 5 6) ?_)))))))
 refine F8 (.range 8) (zp 0 [0, 0, 1, 0, 0, 1, 0, 0, 2]) kR kR fun hs => ?_
 refine fm_ hs ?_
 refine C2 hs rfl (qi_ 1 94 5 1 1) rfl ?_
 refine G4 hs rfl ql_ rfl ?_
 refine fm_ hs ?_
 refine C2 hs rfl (qi_ 1 94 5 1 1) rfl ?_
 refine G4 hs rfl ql_ rfl ?_
 refine C2 hs rfl (F2 18446744073709551616 rfl rfl rfl rfl rfl rfl) rfl ?_
 refine C2 hs rfl (qi_ 1 94 5 1 1) rfl ?_
 refine F5 rfl rfl rfl (D9 rfl rfl rfl kR SetC.set UpC.upd ?_)
 refine Q8 (nb (nx (D8 2 3 4 6) (A7 ?_)))
 refine A2 (C7 (2 : Int) rfl rfl (E1 qD qD qD)) rfl ?_
 refine mv_ (C0 ?_)
 refine un (D8 2 3 4 6) ?_
 refine F6 ?_
 refine A1 ?_
 refine A2 (E9 true rfl rfl (ltT qD)) rfl ?_
 refine A0 (E4 2 3 4 6 7) (A3 ?_)
 refine D5 rfl ?_
 refine A6 (nx (D8 2 3 4 6) (A3 (A4 (A1 (mv_ (as_ (A0 (E4 2 3 4 5 6) ?_)))))))
 refine F8 (.range 8) (zp 0 [0, 0, 1, 0, 0, 1, 0, 0, 2]) kR kR fun hs => ?_
 refine fm_ hs ?_
 refine C2 hs rfl (qi_ 2 94 5 1 2) rfl ?_
 refine G4 hs rfl ql_ rfl ?_
 refine fm_ hs ?_
 refine C2 hs rfl (qi_ 2 94 5 1 2) rfl ?_
 refine G4 hs rfl ql_ rfl ?_
 refine C2 hs rfl (F2 18446744073709551616 rfl rfl rfl rfl rfl rfl) rfl ?_
 refine C2 hs rfl (qi_ 2 94 5 1 2) rfl ?_
 refine F5 rfl rfl rfl (D9 rfl rfl rfl kR SetC.set UpC.upd ?_)
 refine Q8 (nb (nx (D8 2 3 4 6) (A7 ?_)))
 refine A2 (C7 (3 : Int) rfl rfl (E1 qD qD qD)) rfl ?_
 refine mv_ (C0 ?_)
 refine un (D8 2 3 4 6) ?_
 refine F6 ?_
 refine A1 ?_
 refine A2 (E9 true rfl rfl (ltT qD)) rfl ?_
 refine A0 (E4 2 3 4 6 7) (A3 ?_)
 refine D5 rfl ?_
 refine A6 (nx (D8 2 3 4 6) (A3 (A4 (A1 (mv_ (as_ (A0 (E4 2 3 4 5 6) ?_)))))))
 refine F8 (.range 8) (zp 0 [0, 0, 1, 0, 0, 1, 0, 0, 2]) kR kR fun hs => ?_
 refine fm_ hs ?_
 refine C2 hs rfl (qi_ 3 94 5 1 3) rfl ?_
 refine G4 hs rfl ql_ rfl ?_
 refine fm_ hs ?_
 refine C2 hs rfl (qi_ 3 94 5 1 3) rfl ?_
 refine G4 hs rfl ql_ rfl ?_
 refine C2 hs rfl (F2 18446744073709551616 rfl rfl rfl rfl rfl rfl) rfl ?_
 refine C2 hs rfl (qi_ 3 94 5 1 3) rfl ?_
 refine F5 rfl rfl rfl (D9 rfl rfl rfl kR SetC.set UpC.upd ?_)
 refine Q8 (nb (nx (D8 2 3 4 6) (A7 ?_)))
 refine A2 (C7 (4 : Int) rfl rfl (E1 qD qD qD)) rfl ?_
 refine mv_ (C0 ?_)
 refine un (D8 2 3 4 6) ?_
 refine F6 ?_
 refine A1 ?_
 refine A2 (E9 true rfl rfl (ltT qD)) rfl ?_
 refine A0 (E4 2 3 4 6 7) (A3 ?_)
 refine D5 rfl ?_
 refine A6 (nx (D8 2 3 4 6) (A3 (A4 (A1 (mv_ (as_ (A0 (E4 2 3 4 5 6) ?_)))))))
 refine F8 (.range 8) (zp 0 [0, 0, 1, 0, 0, 1, 0, 0, 2]) kR kR fun hs => ?_
 refine fm_ hs ?_
 refine C2 hs rfl (qi_ 4 94 5 1 4) rfl ?_
 refine G4 hs rfl ql_ rfl ?_
 refine fm_ hs ?_
 refine C2 hs rfl (qi_ 4 94 5 1 4) rfl ?_
 refine G4 hs rfl ql_ rfl ?_
 refine C2 hs rfl (F2 18446744073709551616 rfl rfl rfl rfl rfl rfl) rfl ?_
 refine C2 hs rfl (qi_ 4 94 5 1 4) rfl ?_
 refine F5 rfl rfl rfl (D9 rfl rfl rfl kR SetC.set UpC.upd ?_)
 refine Q8 (nb (nx (D8 2 3 4 6) (A7 ?_)))
 refine A2 (C7 (5 : Int) rfl rfl (E1 qD qD qD)) rfl ?_
 refine mv_ (C0 ?_)
 refine un (D8 2 3 4 6) ?_
 refine F6 ?_
 refine A1 ?_
 refine A2 (E9 false rfl rfl (ltF qD)) rfl ?_
 refine A0 (E4 2 3 4 6 7) (A3 ?_)
 refine C6 rfl ?_
 refine D0 (te (ue (be rfl (nx (D2 2 4) (A1 ?_)))))
 refine A2 (qw_ 5) rfl ?_
 refine C5 (aS rfl a0) kR (S9 _ _ _ _ _ qO qO qO qO qO _) rfl ?_
 rintro r3 M3 J3 ⟨rfl, rfl, a3, b3, c3, d3, e3, rfl, ha3, hb3, hc3, hd3, hv3, he3⟩
 refine A5 rfl (A9 rfl rfl Cel.cel kR ln5 al5 UpC.upd ?_)
 refine A0 (D7 4) (B4 ?_)
 refine ⟨_, [], [], A3Q rfl rfl kR At.mem qR, List.nil_sublist _, by simp, rfl, rfl, a3, b3, c3, d3, e3, rfl, by omega, by omega, by omega, by omega, by omega, ?_⟩
 rw [L4 hv3, B7X ha hb hc hd he ha2 hb2 hc2 hd2 he2, Nat.add_mod]
theorem B0l (v u : Value) (x y : Nat) (hx : Fe v x) (hy : Fe u y) (A : Mem) : FnX Tryz.prog 102 [v, u] [] A fun r M J => M = [] ∧ J = [] ∧ Fe r ((x + p25 - y) % p25) := by
 obtain ⟨a, b, c, d, e, rfl, ha, hb, hc, hd, he, rfl⟩ := hx
 obtain ⟨a2, b2, c2, d2, e2, rfl, ha2, hb2, hc2, hd2, he2, rfl⟩ := hy
 refine FnX.enter (N := 30) Tryz.func102 rfl rfl rfl fun w => ?_
 refine B0 (D2 0 1) (A1 ?_)
 refine A5 rfl (bx_ fun b2 => ?_)
 refine A5 rfl (bx_ fun b3 => ?_)
 refine A5 rfl (C4 (cs := [E3, E3, E3, E3, E3]) kR rfl fun b4 => ?_)
 refine A0 (D6 2 3 4) (A1 ?_)
 refine A2 (qw_ 5) rfl ?_
 refine C5 (aS rfl a0) kR (S9 _ _ _ _ _ qO qO qO qO qO _) rfl ?_
 rintro r3 M3 J3 ⟨rfl, rfl, a3, b3, c3, d3, e3, rfl, ha3, hb3, hc3, hd3, hv3, he3⟩
 refine A5 rfl (A9 rfl rfl Cel.cel kR ln5 al5 UpC.upd ?_)
 refine A0 (D6 2 3 4) (A1 ?_)
 refine A2 (G6 (place := fun i => some (i * 1, 1)) (z := [E3, E3, E3, E3, E3]) (fun _ => by kernel_rfl) (eS rfl (eS rfl (eS rfl (eS rfl (eS rfl e0))))) (bdS 0 1 rfl qR (bdS 1 1 rfl qR (bdS 2 1 rfl qR (bdS 3 1 rfl qR (bdS 4 1 rfl qR bd0)))))) rfl ?_
 refine A5 rfl (C4 (cs := [E3, E3, E3, E3, E3]) kR rfl fun b5 => ?_)
 refine A5 rfl (A9 rfl rfl Cel.cel kR ln5 al5 UpC.upd ?_)
 refine A0 (D8 2 3 4 5) (A3 (A1 (mv_ (A0 (E4 2 3 4 5 10) (A4 ?_)))))
 refine T7 6 ?_
 refine F6 ?_
 refine A1 ?_
 refine A2 (E9 true rfl rfl (ltT qD)) rfl ?_
 refine A0 (H3 2 3 4 5 10 11) (A3 ?_)
 refine D5 rfl ?_
 refine A6 (nx (E4 2 3 4 5 10) (A3 (A4 (A1 (mv_ (as_ (A0 (H3 2 3 4 5 6 10) ?_)))))))
 refine F8 (.range 13) (zp 0 [0, 0, 1, 0, 0, 1, 0, 0, 0, 1, 0, 0, 0, 2]) kR kR fun hs => ?_
 refine fm_ hs ?_
 refine C2 hs rfl (qi_ 0 94 5 1 0) rfl ?_
 refine G4 hs rfl ql_ rfl ?_
 refine fm_ hs ?_
 refine C2 hs rfl (qi_ 0 94 5 1 0) rfl ?_
 refine G4 hs rfl ql_ rfl ?_
 refine C2 hs rfl (N2 18446744073709551616 (a := 2) rfl rfl rfl rfl rfl rfl) rfl ?_
 refine fm_ hs ?_
 refine C2 hs rfl (qi_ 0 94 5 1 0) rfl ?_
 refine G4 hs rfl ql_ rfl ?_
 refine C2 hs rfl (A24 18446744073709551616 rfl rfl rfl rfl rfl rfl qO) rfl ?_
 refine C2 hs rfl (F2 18446744073709551616 rfl rfl rfl rfl rfl rfl) rfl ?_
 refine C2 hs rfl (qi_ 0 94 5 1 0) rfl ?_
 refine F5 rfl rfl rfl (D9 rfl rfl rfl kR SetC.set UpC.upd ?_)
 refine Q8 (nb (nx (E4 2 3 4 5 10) (A7 ?_)))
 refine A2 (C7 (1 : Int) rfl rfl (E1 qD qD qD)) rfl ?_
 refine mv_ (C0 ?_)
 refine un (E4 2 3 4 5 10) ?_
 refine F6 ?_
 refine A1 ?_
 refine A2 (E9 true rfl rfl (ltT qD)) rfl ?_
 refine A0 (H3 2 3 4 5 10 11) (A3 ?_)
 refine D5 rfl ?_
 refine A6 (nx (E4 2 3 4 5 10) (A3 (A4 (A1 (mv_ (as_ (A0 (H3 2 3 4 5 6 10) ?_)))))))
 refine F8 (.range 13) (zp 0 [0, 0, 1, 0, 0, 1, 0, 0, 0, 1, 0, 0, 0, 2]) kR kR fun hs => ?_
 refine fm_ hs ?_
 refine C2 hs rfl (qi_ 1 94 5 1 1) rfl ?_
 refine G4 hs rfl ql_ rfl ?_
 refine fm_ hs ?_
 refine C2 hs rfl (qi_ 1 94 5 1 1) rfl ?_
 refine G4 hs rfl ql_ rfl ?_
 refine C2 hs rfl (N2 18446744073709551616 (a := 2) rfl rfl rfl rfl rfl rfl) rfl ?_
 refine fm_ hs ?_
 refine C2 hs rfl (qi_ 1 94 5 1 1) rfl ?_
 refine G4 hs rfl ql_ rfl ?_
 refine C2 hs rfl (A24 18446744073709551616 rfl rfl rfl rfl rfl rfl qO) rfl ?_
 refine C2 hs rfl (F2 18446744073709551616 rfl rfl rfl rfl rfl rfl) rfl ?_
 refine C2 hs rfl (qi_ 1 94 5 1 1) rfl ?_
 refine F5 rfl rfl rfl (D9 rfl rfl rfl kR SetC.set UpC.upd ?_)
 refine Q8 (nb (nx (E4 2 3 4 5 10) (A7 ?_)))
 refine A2 (C7 (2 : Int) rfl rfl (E1 qD qD qD)) rfl ?_
 refine mv_ (C0 ?_)
 refine un (E4 2 3 4 5 10) ?_
 refine F6 ?_
 refine A1 ?_
 refine A2 (E9 true rfl rfl (ltT qD)) rfl ?_
 refine A0 (H3 2 3 4 5 10 11) (A3 ?_)
 refine D5 rfl ?_
 refine A6 (nx (E4 2 3 4 5 10) (A3 (A4 (A1 (mv_ (as_ (A0 (H3 2 3 4 5 6 10) ?_)))))))
 refine F8 (.range 13) (zp 0 [0, 0, 1, 0, 0, 1, 0, 0, 0, 1, 0, 0, 0, 2]) kR kR fun hs => ?_
 refine fm_ hs ?_
 refine C2 hs rfl (qi_ 2 94 5 1 2) rfl ?_
 refine G4 hs rfl ql_ rfl ?_
 refine fm_ hs ?_
 refine C2 hs rfl (qi_ 2 94 5 1 2) rfl ?_
 refine G4 hs rfl ql_ rfl ?_
 refine C2 hs rfl (N2 18446744073709551616 (a := 2) rfl rfl rfl rfl rfl rfl) rfl ?_
 refine fm_ hs ?_
 refine C2 hs rfl (qi_ 2 94 5 1 2) rfl ?_
 refine G4 hs rfl ql_ rfl ?_
 refine C2 hs rfl (A24 18446744073709551616 rfl rfl rfl rfl rfl rfl qO) rfl ?_
 refine C2 hs rfl (F2 18446744073709551616 rfl rfl rfl rfl rfl rfl) rfl ?_
 refine C2 hs rfl (qi_ 2 94 5 1 2) rfl ?_
 refine F5 rfl rfl rfl (D9 rfl rfl rfl kR SetC.set UpC.upd ?_)
 refine Q8 (nb (nx (E4 2 3 4 5 10) (A7 ?_)))
 refine A2 (C7 (3 : Int) rfl rfl (E1 qD qD qD)) rfl ?_
 refine mv_ (C0 ?_)
 refine un (E4 2 3 4 5 10) ?_
 refine F6 ?_
 refine A1 ?_
 refine A2 (E9 true rfl rfl (ltT qD)) rfl ?_
 refine A0 (H3 2 3 4 5 10 11) (A3 ?_)
 refine D5 rfl ?_
 refine A6 (nx (E4 2 3 4 5 10) (A3 (A4 (A1 (mv_ (as_ (A0 (H3 2 3 4 5 6 10) ?_)))))))
 refine F8 (.range 13) (zp 0 [0, 0, 1, 0, 0, 1, 0, 0, 0, 1, 0, 0, 0, 2]) kR kR fun hs => ?_
 refine fm_ hs ?_
 refine C2 hs rfl (qi_ 3 94 5 1 3) rfl ?_
 refine G4 hs rfl ql_ rfl ?_
 refine fm_ hs ?_
 refine C2 hs rfl (qi_ 3 94 5 1 3) rfl ?_
 refine G4 hs rfl ql_ rfl ?_
 refine C2 hs rfl (N2 18446744073709551616 (a := 2) rfl rfl rfl rfl rfl rfl) rfl ?_
 refine fm_ hs ?_
 refine C2 hs rfl (qi_ 3 94 5 1 3) rfl ?_
 refine G4 hs rfl ql_ rfl ?_
 refine C2 hs rfl (A24 18446744073709551616 rfl rfl rfl rfl rfl rfl qO) rfl ?_
 refine C2 hs rfl (F2 18446744073709551616 rfl rfl rfl rfl rfl rfl) rfl ?_
 refine C2 hs rfl (qi_ 3 94 5 1 3) rfl ?_
 refine F5 rfl rfl rfl (D9 rfl rfl rfl kR SetC.set UpC.upd ?_)
 refine Q8 (nb (nx (E4 2 3 4 5 10) (A7 ?_)))
 refine A2 (C7 (4 : Int) rfl rfl (E1 qD qD qD)) rfl ?_
 refine mv_ (C0 ?_)
 refine un (E4 2 3 4 5 10) ?_
 refine F6 ?_
 refine A1 ?_
 refine A2 (E9 true rfl rfl (ltT qD)) rfl ?_
 refine A0 (H3 2 3 4 5 10 11) (A3 ?_)
 refine D5 rfl ?_
 refine A6 (nx (E4 2 3 4 5 10) (A3 (A4 (A1 (mv_ (as_ (A0 (H3 2 3 4 5 6 10) ?_)))))))
 refine F8 (.range 13) (zp 0 [0, 0, 1, 0, 0, 1, 0, 0, 0, 1, 0, 0, 0, 2]) kR kR fun hs => ?_
 refine fm_ hs ?_
 refine C2 hs rfl (qi_ 4 94 5 1 4) rfl ?_
 refine G4 hs rfl ql_ rfl ?_
 refine fm_ hs ?_
 refine C2 hs rfl (qi_ 4 94 5 1 4) rfl ?_
 refine G4 hs rfl ql_ rfl ?_
 refine C2 hs rfl (N2 18446744073709551616 (a := 2) rfl rfl rfl rfl rfl rfl) rfl ?_
 refine fm_ hs ?_
 refine C2 hs rfl (qi_ 4 94 5 1 4) rfl ?_
 refine G4 hs rfl ql_ rfl ?_
 refine C2 hs rfl (A24 18446744073709551616 rfl rfl rfl rfl rfl rfl qO) rfl ?_
 refine C2 hs rfl (F2 18446744073709551616 rfl rfl rfl rfl rfl rfl) rfl ?_
 refine C2 hs rfl (qi_ 4 94 5 1 4) rfl ?_
 refine F5 rfl rfl rfl (D9 rfl rfl rfl kR SetC.set UpC.upd ?_)
 refine Q8 (nb (nx (E4 2 3 4 5 10) (A7 ?_)))
 refine A2 (C7 (5 : Int) rfl rfl (E1 qD qD qD)) rfl ?_
 refine mv_ (C0 ?_)
 refine un (E4 2 3 4 5 10) ?_
 refine F6 ?_
 refine A1 ?_
 refine A2 (E9 false rfl rfl (ltF qD)) rfl ?_
 refine A0 (H3 2 3 4 5 10 11) (A3 ?_)
 refine C6 rfl ?_
 refine D0 (te (ue (be rfl (nx (D2 2 4) ?_))))
 have q0 := A3l (t := 9007199254740916) (b := a3) ha qD qO
 have q1 := A3l (t := 9007199254740988) (b := b3) hb qD qO
 have q2 := A3l (t := 9007199254740988) (b := c3) hc qD qO
 have q3 := A3l (t := 9007199254740988) (b := d3) hd qD qO
 have q4 := A3l (t := 9007199254740988) (b := e3) he qD qO
 refine A1 ?_
 refine A2 (qw_ 5) rfl ?_
 refine C5 (aS rfl a0) kR (S9 _ _ _ _ _ (q0 ▸ A1U ha qD qO) (q1 ▸ A1U hb qD qO) (q2 ▸ A1U hc qD qO) (q3 ▸ A1U hd qD qO) (q4 ▸ A1U he qD qO) _) rfl ?_
 rintro r4 M4 J4 ⟨rfl, rfl, a4, b4, c4, d4, e4, rfl, ha4, hb4, hc4, hd4, hv4, he4⟩
 refine C5 (aS rfl a0) kR (S9 _ _ _ _ _ qO qO qO qO qO _) rfl ?_
 rintro r5 M5 J5 ⟨rfl, rfl, a5, b5, c5, d5, e5, rfl, ha5, hb5, hc5, hd5, hv5, he5⟩
 refine A5 rfl (A9 rfl rfl Cel.cel kR ln5 al5 UpC.upd ?_)
 refine A0 (D7 4) (B4 ?_)
 refine ⟨_, [], [], A3Q rfl rfl kR At.mem qR, List.nil_sublist _, by simp, rfl, rfl, a5, b5, c5, d5, e5, rfl, by omega, by omega, by omega, by omega, by omega, ?_⟩
 rw [L4 hv5, L4 hv4, ← L4 hv3]
 refine B5V ?_
 rw [← B7Y (a := a) (b := b) (c := c) (d := d) (e := e) (a2 := a3) (b2 := b3) (c2 := c3) (d2 := d3) (e2 := e3) qO qO qO qO qO, ← q0, ← q1, ← q2, ← q3, ← q4]
abbrev wd (hi lo : Nat) : Value := .agg #[.int .u64 (hi : Int), .int .u64 (lo : Int)]
theorem A8C (x y : Nat) (hx : x < 18446744073709551616) (hy : y < 18446744073709551616) (A : Mem) : FnV Tryz.prog 121 [.int .u64 (x : Int), .int .u64 (y : Int)] A (.tuple #[.int .u64 ((x * y / 18446744073709551616 : Nat) : Int), .int .u64 ((x * y % 18446744073709551616 : Nat) : Int)]) := by
 refine FnX.enter (N := 51) Tryz.func121 rfl rfl rfl fun w => ?_
 refine B0 (D2 0 1) (A1 (as_ (as_ (A0 (D2 0 1) (A1 (mv_ ?_))))))
 refine A2 (N4 32 4294967296 rfl rfl rfl rfl rfl (by show _ < 18446744073709551616; first | assumption | exact Nat.mod_lt _ qD | omega) qD) rfl ?_
 refine as_ (A0 (D6 0 1 6) (A1 (mv_ ?_)))
 refine A2 (N3 32 4294967296 rfl rfl rfl rfl qD) rfl ?_
 refine as_ (A0 (D8 0 1 6 7) (A1 (mv_ ?_)))
 refine A2 (N4 32 4294967296 rfl rfl rfl rfl rfl (by show _ < 18446744073709551616; first | assumption | exact Nat.mod_lt _ qD | omega) qD) rfl ?_
 refine as_ (A0 (E4 0 1 6 7 8) (A1 (mv_ ?_)))
 refine A2 (N3 32 4294967296 rfl rfl rfl rfl qD) rfl ?_
 refine as_ (A0 (H3 0 1 6 7 8 9) (A1 (mv_ (mv_ ?_))))
 refine A2 (N2 18446744073709551616 rfl rfl rfl rfl rfl rfl) rfl ?_
 refine as_ (A0 (N0 0 1 6 7 8 9 10) (A1 (mv_ (mv_ ?_))))
 refine A2 (N2 18446744073709551616 rfl rfl rfl rfl rfl rfl) rfl ?_
 refine mv_ ?_
 refine A2 (N3 32 4294967296 rfl rfl rfl rfl qD) rfl ?_
 refine A2 (F2 18446744073709551616 rfl rfl rfl rfl rfl rfl) rfl ?_
 refine as_ (A0 (H3 0 1 6 7 9 11) (A1 (mv_ ?_)))
 refine A2 (N4 32 4294967296 rfl rfl rfl rfl rfl (by show _ < 18446744073709551616; first | assumption | exact Nat.mod_lt _ qD | omega) qD) rfl ?_
 refine as_ (A0 (N0 0 1 6 7 9 11 12) (A1 (mv_ ?_)))
 refine A2 (N3 32 4294967296 rfl rfl rfl rfl qD) rfl ?_
 refine as_ (A0 (N0 0 1 6 7 9 12 13) (A1 (mv_ (mv_ (mv_ ?_)))))
 refine A2 (N2 18446744073709551616 rfl rfl rfl rfl rfl rfl) rfl ?_
 refine A2 (F2 18446744073709551616 rfl rfl rfl rfl rfl rfl) rfl ?_
 refine as_ (A0 (H3 0 1 7 9 12 13) (A1 (mv_ (mv_ ?_))))
 refine A2 (N2 18446744073709551616 rfl rfl rfl rfl rfl rfl) rfl ?_
 refine mv_ ?_
 refine A2 (F2 18446744073709551616 rfl rfl rfl rfl rfl rfl) rfl ?_
 refine mv_ ?_
 refine A2 (N3 32 4294967296 rfl rfl rfl rfl qD) rfl ?_
 refine A2 (F2 18446744073709551616 rfl rfl rfl rfl rfl rfl) rfl ?_
 refine as_ (A0 (D6 0 1 4) (A1 (mv_ (mv_ ?_))))
 refine A2 (N2 18446744073709551616 rfl rfl rfl rfl rfl rfl) rfl ?_
 refine as_ (A0 (D2 4 5) (B4 ?_))
 refine ⟨_, [], [], A13 rfl rfl rfl, List.nil_sublist _, by simp, ?_, rfl, rfl⟩
 rw [B0e hx hy rfl rfl rfl rfl rfl rfl rfl]
theorem A3n (hi lo a b : Nat) (h1 : hi < 18446744073709551616) (h2 : lo < 18446744073709551616) (h3 : a < 18446744073709551616) (h4 : b < 18446744073709551616) (A : Mem) :
  FnX Tryz.prog 105 [wd hi lo, .int .u64 (a : Int), .int .u64 (b : Int)] [] A fun r M J => M = [] ∧ J = [] ∧ ∃ hi' lo', r = wd hi' lo' ∧ hi' < 18446744073709551616 ∧ lo' < 18446744073709551616 ∧ hi' * 18446744073709551616 + lo' = (hi * 18446744073709551616 + lo + a * b) % 340282366920938463463374607431768211456 := by
 refine FnX.enter (N := 34) Tryz.func105 rfl rfl rfl fun w => ?_
 refine B0 (D6 0 1 2) (A1 ?_)
 refine A5 rfl (bx_ fun b3 => ?_)
 refine A5 rfl (C4 (cs := [.int .u64 0, .int .u64 0]) kR rfl fun b6 => ?_)
 refine A0 (D8 1 2 3 6) (A1 (mv_ (mv_ ?_)))
 refine F1 (aS rfl (aS rfl a0)) kR (A8C a b h3 h4 _) rfl ?_
 have hab : a * b ≤ 18446744073709551615 * 18446744073709551615 := Nat.mul_le_mul qO qO
 generalize a * b = z at *
 refine mv_ ?_
 refine A2 (A0T rfl) rfl ?_
 refine A2 (A0L rfl) rfl ?_
 refine as_ (as_ (A0 (D8 3 6 7 8) (A1 ?_)))
 refine A2 (qf_ 1 1) rfl ?_
 refine A2 ql_ rfl ?_
 refine mv_ ?_
 refine A2 (A5K Tryz.func122 kR kR kR kR rfl rfl rfl (c := 0) qO rfl rfl rfl) rfl ?_
 refine mv_ ?_
 refine A2 (A0T rfl) rfl ?_
 refine A2 (A0L rfl) rfl ?_
 refine as_ (as_ (A0 (E4 3 6 7 8 9) (A1 ?_)))
 refine A2 (qf_ 0 0) rfl ?_
 refine A2 ql_ rfl ?_
 refine mv_ (mv_ ?_)
 refine A2 (A5K Tryz.func122 kR kR kR kR rfl rfl rfl qO rfl rfl rfl) rfl ?_
 refine mv_ ?_
 refine A2 (A0T rfl) rfl ?_
 refine A2 (A0L rfl) rfl ?_
 refine as_ (A0 (D6 6 7 8) (A1 (mv_ (mv_ ?_))))
 refine A2 (G6 (place := fun x => #[(0, 1), (1, 1)][x]?) (z := [.int .u64 0, .int .u64 0]) (fun _ => by kernel_rfl) (eS rfl (eS rfl e0)) (bdS 0 1 rfl qR (bdS 1 1 rfl qR bd0))) rfl ?_
 refine A5 rfl (A9 rfl rfl Cel.cel kR ln2 al2 UpC.upd ?_)
 refine A0 (D7 6) (B4 ?_)
 refine ⟨_, [], [], A3Q rfl rfl kR At.mem qR, List.nil_sublist _, by simp, rfl, rfl, _, _, rfl, Nat.mod_lt _ qD, Nat.mod_lt _ qD, ?_⟩
 omega
theorem A07 (hi lo a : Nat) (h1 : hi < 18446744073709551616) (h2 : lo < 18446744073709551616) (h3 : a < 18446744073709551616) (A : Mem) :
  FnX Tryz.prog 106 [wd hi lo, .int .u64 (a : Int)] [] A fun r M J => M = [] ∧ J = [] ∧ ∃ hi' lo', r = wd hi' lo' ∧ hi' < 18446744073709551616 ∧ lo' < 18446744073709551616 ∧ hi' * 18446744073709551616 + lo' = (hi * 18446744073709551616 + lo + a) % 340282366920938463463374607431768211456 := by
 refine FnX.enter (N := 8) Tryz.func106 rfl rfl rfl fun w => ?_
 refine B0 (D2 0 1) (A1 ?_)
 refine A5 rfl (bx_ fun b2 => ?_)
 refine A5 rfl (C4 (cs := [.int .u64 0, .int .u64 0]) kR rfl fun b4 => ?_)
 refine A0 (D6 1 2 4) (A1 ?_)
 refine A2 (qw_ 2) rfl ?_
 refine mv_ ?_
 refine C5 (aS rfl (aS rfl (aS rfl a0))) kR (A3n hi lo a 1 h1 h2 h3 qD _) rfl ?_
 rintro r M1 J1 ⟨rfl, rfl, hi', lo', rfl, g1, g2, g3⟩
 refine A5 rfl (A9 rfl rfl Cel.cel kR ln2 al2 UpC.upd ?_)
 refine A0 (D7 4) (B4 ?_)
 refine ⟨_, [], [], A3Q rfl rfl kR At.mem qR, List.nil_sublist _, by simp, rfl, rfl, hi', lo', rfl, g1, g2, ?_⟩
 rw [g3, Nat.mul_one]
theorem A0n (hi lo : Nat) (h1 : hi < 18446744073709551616) (h2 : lo < 18446744073709551616) (A : Mem) : FnV Tryz.prog 107 [wd hi lo] A (.int .u64 (((hi * 18446744073709551616 + lo) / 2251799813685248 % 18446744073709551616 : Nat) : Int)) := by
 refine FnX.enter (N := 10) Tryz.func107 rfl rfl rfl fun w => ?_
 refine B0 (D7 0) (A1 ?_)
 refine A5 rfl (bx_ fun b1 => ?_)
 refine as_ (A0 (D7 1) (A1 ?_))
 refine A2 (qf_ 0 0) rfl ?_
 refine A2 ql_ rfl ?_
 refine A2 (B7z 13 8192 18446744073709551616 rfl rfl rfl rfl rfl rfl qD) rfl ?_
 refine A2 (qf_ 1 1) rfl ?_
 refine A2 ql_ rfl ?_
 refine A2 (N3 51 2251799813685248 rfl rfl rfl rfl qD) rfl ?_
 refine A2 (B4b rfl rfl rfl (by show _ < 18446744073709551616; omega) (by show _ < 18446744073709551616; omega)) rfl ?_
 refine as_ (A0 (D7 2) (B4 ?_))
 refine ⟨_, [], [], K9 rfl rfl, List.nil_sublist _, by simp, ?_, rfl, rfl⟩
 rw [or13 h1 h2]

end Go.Proofs.YtlilcmjbaknafaaGreatDoor
