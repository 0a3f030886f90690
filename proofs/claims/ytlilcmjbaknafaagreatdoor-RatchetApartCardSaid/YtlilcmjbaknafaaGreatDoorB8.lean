/- Part 8 of the texts of this claim, one behind the other. -/
import Derived.Test.YtlilcmjbaknafaaGreatDoorB7
import Derived.Test.YtlilcmjbaknafaaGreatDoorRows
set_option linter.unusedVariables false
set_option linter.unusedSimpArgs false
set_option maxRecDepth 100000
namespace Go.Proofs.YtlilcmjbaknafaaGreatDoor
open Go.Px
structure Tok (ts : List Tm) : Prop where
  tmo : ∀ t ∈ ts, Tmo t
  nd : ts.Nodup
theorem Tab.tok {bt bm : Nat} {ts : List Tm} {M : Mem} (h : Tab bt bm ts M) : Tok ts := by
  obtain ⟨_, _, _, _, _, _, _, _, _, _, _, h1, h2⟩ := h
  exact ⟨h1, h2⟩
theorem Tok.nil : Tok [] := ⟨(fun t h => by cases h), List.nodup_nil⟩
theorem A32 {ts : List Tm} {t : Tm} (ht : Tmo t) (h : Tok ts) : ∃ l, add ts t = ts ++ l ∧ (add ts t).length ≤ ts.length + 1 ∧ (add ts t)[at_ ts t]? = some t ∧ Tok (add ts t) := by
  cases hp : pos ts t with
  | some j =>
    obtain ⟨h1, h2⟩ := A43 hp
    exact ⟨[], by rw [h1, List.append_nil], A1A, by rw [h1, h2]; exact A40 ht h.tmo hp, by rw [h1]; exact h⟩
  | none =>
    obtain ⟨h1, h2⟩ := A7u hp
    refine ⟨[t], h1, A1A, by rw [h1, h2]; simp, ?_⟩
    rw [h1]
    refine ⟨fun u hu => ?_, ?_⟩
    · rcases List.mem_append.1 hu with hu | hu
      · exact h.tmo u hu
      · rw [List.mem_singleton.1 hu]; exact ht
    · rw [List.nodup_append]
      refine ⟨h.nd, by simp, fun x hx y hy e => (A41 ht h.tmo).1 hp ?_⟩
      rw [List.mem_singleton.1 hy] at e
      exact e ▸ hx
theorem A3n {ts l : List Tm} {i : Nat} {t : Tm} (h : ts[i]? = some t) : (ts ++ l)[i]? = some t := by
  rw [List.getElem?_append_left (List.getElem?_eq_some_iff.1 h).1]; exact h
theorem B5A {ts : List Tm} {t : Tm} {i : Nat} (h : Tok ts) (ht : ts[i]? = some t) : add ts t = ts ∧ at_ ts t = i := A43 (B7r h.tmo h.nd ht)
theorem B5B {i j : Nat} (hi : i < 18446744073709551616) (hj : j < 18446744073709551616) (h : bts ((i : Nat) : Int) = bts ((j : Nat) : Int)) : i = j := by
  have h1 := A1B ((i : Nat) : Int) 18446744073709551616
  have h2 := A1B ((j : Nat) : Int) 18446744073709551616
  have ui : u64 ((i : Nat) : Int) = i := by unfold u64; omega
  have uj : u64 ((j : Nat) : Int) = j := by unfold u64; omega
  rw [ui, if_pos hi] at h1
  rw [uj, if_pos hj] at h2
  rw [h, h2] at h1
  exact (Option.some.inj h1).symm
def B4g (ts : List Tm) (w : List Nat) : Prop := ∃ i, i < ts.length ∧ w = bts ((i : Nat) : Int)
theorem B4g.ext {ts l : List Tm} {w : List Nat} (h : B4g ts w) : B4g (ts ++ l) w := by
  obtain ⟨i, hi, e⟩ := h
  exact ⟨i, by rw [List.length_append]; omega, e⟩
theorem A3o {ts : List Tm} {i : Nat} (hi : i < ts.length) (hl : ts.length ≤ 1048576) : rdT ts (bts ((i : Nat) : Int)) = ts ∧ rdI ts (bts ((i : Nat) : Int)) = i := by
  refine V4 ?_
  rw [A1B, show u64 ((i : Nat) : Int) = i by unfold u64; omega, if_pos hi]
theorem A54 (ts : List Tm) (ofs : List Int) (lb : List Nat) (n : Nat) : ∃ l, (L3 ts ofs lb (n + 1)).1 = (L3 ts ofs lb n).1 ++ l := by
  have e : L3 ts ofs lb (n + 1) = A8V ofs lb (L3 ts ofs lb n) n := N2 n
  rw [e]
  show ∃ l, add _ _ = _ ++ l
  unfold add
  split
  · exact ⟨[], by simp⟩
  · exact ⟨_, rfl⟩
theorem A3p {ts : List Tm} {ofs : List Int} {lb : List Nat} (h : Tok ts) (hd : ∀ i, i < 100 → Tmo (drv ofs lb i)) {n : Nat} (hn : n ≤ 100) : Tok (L3 ts ofs lb n).1 := by
  induction n with
  | zero => exact h
  | succ n ih =>
    have e : L3 ts ofs lb (n + 1) = A8V ofs lb (L3 ts ofs lb n) n := N2 n
    rw [e]
    obtain ⟨_, _, _, _, h2⟩ := A32 (hd n (by omega)) (ih (by omega))
    exact h2
theorem A6L {ts : List Tm} {ofs : List Int} {lb : List Nat} (h : Tok ts) (hd : ∀ i, i < 100 → Tmo (drv ofs lb i)) {n : Nat} (hn : n ≤ 100) {ts' l : List Tm} (e : ts' = (L3 ts ofs lb n).1 ++ l) (h' : Tok ts') : L3 ts' ofs lb n = (ts', (L3 ts ofs lb n).2) := by
  induction n generalizing l with
  | zero => rfl
  | succ n ih =>
    obtain ⟨l2, e2⟩ := A54 ts ofs lb n
    have ih := ih (by omega) (l := l2 ++ l) (by rw [e, e2, List.append_assoc])
    have e3 : L3 ts ofs lb (n + 1) = A8V ofs lb (L3 ts ofs lb n) n := N2 n
    have e4 : L3 ts' ofs lb (n + 1) = A8V ofs lb (L3 ts' ofs lb n) n := N2 n
    obtain ⟨l3, g1, g2, g3, g4⟩ := A32 (hd n (by omega)) (A3p h hd (show n ≤ 100 by omega))
    have g5 : ts'[at_ (L3 ts ofs lb n).1 (drv ofs lb n)]? = some (drv ofs lb n) := by
      rw [e, e3]
      exact A3n g3
    obtain ⟨a1, a2⟩ := B5A h' g5
    rw [e4, ih, e3]
    show (add ts' (drv ofs lb n), _ ++ [bts ((at_ ts' (drv ofs lb n) : Nat) : Int)]) = _
    rw [a1, a2]
    rfl
theorem A98 {ts : List Tm} {ofs : List Int} {lb : List Nat} (h : Tok ts) (hd : ∀ i, i < 100 → Tmo (drv ofs lb i)) {n : Nat} (hn : n ≤ 100) {i : Nat} (hi : i < n) : ∃ j, (L3 ts ofs lb n).1[j]? = some (drv ofs lb i) ∧ (L3 ts ofs lb n).2[i]? = some (bts ((j : Nat) : Int)) := by
  induction n with
  | zero => omega
  | succ n ih =>
    have e3 : L3 ts ofs lb (n + 1) = A8V ofs lb (L3 ts ofs lb n) n := N2 n
    obtain ⟨l3, g1, g2, g3, g4⟩ := A32 (hd n (by omega)) (A3p h hd (show n ≤ 100 by omega))
    obtain ⟨p1, p2⟩ := A00 ts ofs lb n
    rw [e3]
    show ∃ j, (add _ _)[j]? = _ ∧ (_ ++ [_])[i]? = _
    by_cases hin : i < n
    · obtain ⟨j, h1, h2⟩ := ih (by omega) hin
      exact ⟨j, by rw [g1]; exact A3n h1, by rw [List.getElem?_append_left (by omega)]; exact h2⟩
    · obtain rfl : i = n := by omega
      exact ⟨_, g3, by rw [List.getElem?_append_right (by omega), p1, Nat.sub_self]; rfl⟩
def Kok (s : Ps) (w : List Nat) : Prop := s.real = false → B4g s.ts w
structure Pext (s s' : Ps) : Prop where
  real : s'.real = s.real
  ts : ∃ l, s'.ts = s.ts ++ l
theorem Pext.refl (s : Ps) : Pext s s := ⟨rfl, [], by simp⟩
theorem Pext.trans {a b c : Ps} (h1 : Pext a b) (h2 : Pext b c) : Pext a c := by
  obtain ⟨l1, e1⟩ := h1.ts
  obtain ⟨l2, e2⟩ := h2.ts
  exact ⟨h2.real.trans h1.real, l1 ++ l2, by rw [e2, e1, List.append_assoc]⟩
theorem Kok.ext {s s' : Ps} {w : List Nat} (h : Kok s w) (he : Pext s s') : Kok s' w := fun hr => by
  obtain ⟨l, e⟩ := he.ts
  rw [e]
  exact (h (by rw [← he.real]; exact hr)).ext
theorem A55 (s : Ps) : Pext s (E6 s) := by
  unfold E6
  split
  · exact ⟨rfl, [], by simp⟩
  · refine ⟨rfl, ?_⟩
    show ∃ l, add _ _ = _ ++ l
    unfold add
    split
    · exact ⟨[], by simp⟩
    · exact ⟨_, rfl⟩
theorem A99 {s : Ps} (h : Tok s.ts) (hn : s.n < 1099511627776) : Kok (E6 s) (I5 s) ∧ (s.real = false → Tok (E6 s).ts) := by
  cases hr : s.real with
  | true => exact ⟨(fun h1 => by rw [(A55 s).real, hr] at h1; cases h1), (fun h => by cases h)⟩
  | false =>
    obtain ⟨l, g1, g2, g3, g4⟩ := A32 (A7w (n := s.n + 1) (by omega)) h
    refine ⟨fun _ => ?_, fun _ => by rw [A2N hr]; exact g4⟩
    rw [A2N hr, A45 hr]
    exact ⟨_, (List.getElem?_eq_some_iff.1 g3).1, rfl⟩
theorem A8x (ws : List (List Nat)) (st : List Tm × List Int) : (ws.foldl Z6 st).1.length ≤ st.1.length + ws.length := by
  induction ws generalizing st with
  | nil => exact Nat.le_refl _
  | cons w ws ih =>
    have h1 := ih (Z6 st w)
    have h2 := U1 (ts := st.1) (ws := w)
    have h3 : (Z6 st w).1.length = (rdT st.1 w).length := rfl
    rw [List.foldl_cons, List.length_cons]; omega
theorem A2O (s : Ps) (key : List Nat) (ws : List (List Nat)) (lb : List Nat) (n : Nat) : (A31 s key ws lb n).ts.length ≤ s.ts.length + 1 + ws.length + n := by
  unfold A31
  split
  · omega
  · have h1 := (A00 (U4 s.ts key ws).1 (U4 s.ts key ws).2 lb n).2
    have h2 := A8x ws (Z6 (s.ts, []) key)
    have h3 := U1 (ts := s.ts) (ws := key)
    have h4 : (Z6 (s.ts, []) key).1.length = (rdT s.ts key).length := rfl
    show (A8w s.ts key ws lb n).1.length ≤ _
    have h5 : (U4 s.ts key ws).1.length ≤ s.ts.length + 1 + ws.length := by
      show (ws.foldl Z6 (Z6 (s.ts, []) key)).1.length ≤ _
      omega
    unfold A8w
    omega
theorem A1Z (s : Ps) (key : List Nat) (ws : List (List Nat)) (lb : List Nat) (n : Nat) : (A31 s key ws lb n).real = s.real ∧ (A31 s key ws lb n).n = s.n ∧ (A31 s key ws lb n).seed = s.seed := by
  unfold A31
  split <;> exact ⟨rfl, rfl, rfl⟩

structure PrmT (pb bt bm : Nat) (s : Ps) (M : Mem) : Prop where
  ex : ∃ (sv : Value) (B MT : Mem), M = (pb, blk [.int .u8 (md s.real), sv, .int .i64 ((s.n : Nat) : Int), .pointer (some ⟨bt, 0, none⟩)] 105) :: (B ++ MT) ∧ By B sv s.seed ∧ Tab bt bm s.ts MT
theorem PrmT.p {pb bt bm : Nat} {s : Ps} {M : Mem} (h : PrmT pb bt bm s M) : Prm pb s M := by
  obtain ⟨sv, B, MT, h1, h2, h3⟩ := h.ex
  exact ⟨sv, bt, bm, B, MT, h1, h2, h3⟩
theorem Prm.t {pb : Nat} {s : Ps} {M : Mem} (h : Prm pb s M) : ∃ bt bm, PrmT pb bt bm s M := by
  obtain ⟨sv, bt, bm, B, MT, h1, h2, h3⟩ := h.ex
  exact ⟨bt, bm, sv, B, MT, h1, h2, h3⟩
def B0a (x : Int) : Tm := ⟨3, [x], [], 0⟩
def B2I (s : Ps) (w : List Nat) : Ps := { s with ts := add (rdT s.ts w) (B0a ((rdI s.ts w : Nat) : Int)) }
def B5C (s : Ps) (w : List Nat) : List Nat := bts ((at_ (rdT s.ts w) (B0a ((rdI s.ts w : Nat) : Int)) : Nat) : Int)
def B5D (s : Ps) (w u : List Nat) : Ps := { s with ts := add (rdT (rdT s.ts w) u) (agT (rdT (rdT s.ts w) u) ((rdI s.ts w : Nat) : Int) ((rdI (rdT s.ts w) u : Nat) : Int)) }
def B60 (s : Ps) (w u : List Nat) : List Nat := bts ((at_ (rdT (rdT s.ts w) u) (agT (rdT (rdT s.ts w) u) ((rdI s.ts w : Nat) : Int) ((rdI (rdT s.ts w) u : Nat) : Int)) : Nat) : Int)
theorem B4h {x : Int} (h : i64 x) : Tmo (B0a x) := ⟨show 3 < 256 by decide, show i64 (0 : Int) by unfold i64; omega, fun i hi => by rw [List.mem_singleton.1 hi]; exact h, show 1 ≤ 1048576 by decide, ⟨fun x hx => (List.not_mem_nil hx).elim⟩, show 0 ≤ 1099511627776 by decide⟩
theorem A47 {ts : List Tm} {w : List Nat} (hw : ∀ x ∈ w, x < 256) (hl : w.length ≤ 1099511627776) (hts : ∀ t ∈ ts, Tmo t) (hn : ts.length ≤ 1048576) : i64 ((rdI ts w : Nat) : Int) := by
  have h1 := B4e hw hl hts
  have h2 : (rdT ts w).length ≤ ts.length + 1 := U1
  unfold i64; omega
theorem A0v (pb bt bm : Nat) (m k : Int) (sv : Value) [hsv : Cel sv [sv]] (ts : List Tm) (v : Value) (w : List Nat) (MT A : Mem) (hT : Tab bt bm ts MT) (hpb : (pb, blk [.int .u8 m, sv, .int .i64 k, .pointer (some ⟨bt, 0, none⟩)] 105) ∈ A) (hn : ts.length ≤ 1048576) (hv : By A v w) {e4 : TypeId} {f4 : Nat × Nat} (h4 : (4, Obj.cells (nums .u64 A0d).toArray e4 f4) ∈ A) : FnX Tryz.prog 55 [.pointer (some ⟨pb, 0, none⟩), v] MT A fun q M J => q = .int .i64 ((rdI ts w : Nat) : Int) ∧ Tab bt bm (rdT ts w) M := by
 haveI := hv.cel
 have hvl := hv.len
 refine FnX.enterZ (N := 11) Tryz.func55 rfl rfl rfl fun w_ => ?_
 refine B0 (D3 0 1) (A1 (as_ (A0 (D3 0 1) (A1 (mv_ ?_)))))
 refine A2 (E8 rfl) rfl ?_
 refine A2 (qf_ 3 3) rfl ?_
 refine A2 ql_ rfl ?_
 refine mv_ ?_
 refine A4 rfl (E0 (Mc := MT) (R := _) (aS rfl (aS rfl a0)) kR PickC.perm (A5Y bt bm ts v w MT _ hT hn (hv.rd.mono SubC.sub) hv.lt (by have := hv.len; omega) (SubC.sub _ h4)) rfl ?_)
 rintro v10 M10 J10 ⟨rfl, rfl, hT10⟩
 refine as_ (A0 (D7 4) (B4 ?_))
 exact ⟨_, M10, [], I7 rfl rfl, Fit.none (Fit.last PickC.perm), rfl, hT10⟩
theorem A6M (pb bt bm : Nat) (s : Ps) (hr : s.real = false) (v : Value) (w : List Nat) (MP A : Mem) (hP : PrmT pb bt bm s MP) (hn : s.ts.length < 1048576) (hv : By A v w) (hG : Glb A) : FnX Tryz.prog 27 [.pointer (some ⟨pb, 0, none⟩), v] MP A fun q M J => PrmT pb bt bm (B2I s w) M ∧ By J q (B5C s w) := by
 obtain ⟨sv, B, MT, rfl, hby, hT⟩ := hP.ex
 have hmd : md s.real = 1 := by rw [hr]; rfl
 rw [hmd] at *
 obtain ⟨⟨ge0, gf0, h0⟩, ⟨ge1, gf1, h1⟩, ⟨ge4, gf4, h4⟩⟩ := hG
 haveI := hv.cel
 haveI := hby.cel
 have hvl := hv.len
 refine FnX.enterZ (N := 26) Tryz.func27 rfl rfl rfl fun w_ => ?_
 refine B0 (D3 0 1) (A1 (as_ (A0 (D3 0 1) (A3 (A1 (mv_ ?_))))))
 refine A2 (H2 (e := 105) rfl rfl kR) rfl ?_
 refine A0 (D4 0 1 6) ?_
 refine D0 rfl ?_
 refine A6 (nx (D3 0 1) (A3 (A1 (mv_ ?_))))
 refine A2 (E8 rfl) rfl ?_
 refine A2 (qf_ 0 0) rfl ?_
 refine A2 ql_ rfl ?_
 refine A2 (F0 false rfl rfl (eqF (by decide))) rfl ?_
 refine A0 (D4 0 1 11) ?_
 refine D0 rfl ?_
 refine A6 (nx (D3 0 1) ?_)
 refine L7 (MT) (_) true [0, 1, 2, 3, 4, 5, 6, 7, 8, 11] (zp 0 [0, 0, 0, 1, 0, 0, 2, 2, 0, 2, 2, 0]) kR kR PickC.perm fun hs K n0 hKm hKs hKn => ?_
 refine km_ hs ?_
 refine L6 hs rfl (E8 rfl) rfl ?_
 refine L6 hs rfl (qf_ 3 3) rfl ?_
 refine Y8 hs rfl hKs ql_ ?_
 refine km_ hs ?_
 refine km_ hs ?_
 refine Q5 _ _ rfl rfl (List.Perm.refl _) hKm fun w0 => (E0 (Mc := MT) (R := _) (aS rfl (aS rfl a0)) kR PickC.perm (A0v pb bt bm 1 _ sv s.ts v w MT _ hT At.mem (by omega) (hv.mono SubC.sub) (SubC.sub _ h4)) rfl ?_)
 rintro v21 M21 J21 ⟨rfl, hT21⟩ hKx
 refine Q5 [] _ rfl rfl (List.Perm.refl _) (fun _ h => by cases h) fun w0 => (C3 (e := 3) (sz := 1) (z := [.int .i64 0]) kR (eS rfl e0) (bdS 0 1 rfl (by rfl) bd0) rfl fun b22 => fun _ => ?_)
 refine A6G (M' := (b22, blk [.int .i64 ((rdI s.ts w : Nat) : Int)] 3) :: (M21 ++ ((pb, blk [.int .u8 1, sv, .int .i64 (((s.n : Nat) : Int)), .pointer (some ⟨bt, 0, none⟩)] 105) :: (B ++ [])))) (by simp) ?_
 refine L6 hs rfl (G1 (place := fun x => #[(0, 1), (1, 1), (2, 1), (3, 1)][x]?) (z := [.int .u8 0, .slice none 0 0, .string ByteArray.empty, .int .i64 0]) (fun _ => by kernel_rfl) (eS rfl (eS rfl e0)) (bdS 0 1 rfl (by rfl) (bdS 1 1 rfl (by rfl) bd0))) rfl ?_
 refine T7 rfl rfl rfl (E0 (Mc := M21) (R := _) (aS rfl (aS rfl a0)) kR PickC.perm (U0 bt bm (rdT s.ts w) _ (B0a ((rdI s.ts w : Nat) : Int)) M21 _ hT21 (by have := U1 (ts := s.ts) (ws := w); omega) (Rd.whole (n := 1) At.mem (by rfl)) (B4h (A47 hv.lt (by omega) hT.tok.tmo (by omega))) (SubC.sub _ h4)) rfl ?_)
 rintro v24 M24 J24 ⟨rfl, rfl, hT24⟩
 refine T7 rfl rfl rfl (H7 (aS rfl a0) kR (Z3 _ _) rfl ?_)
 rintro v25 M25 J25 ⟨rfl, h25⟩
 refine L6 hs rfl (G9 rfl) rfl ?_
 refine Q8 (D7 4) (B4 ?_)
 exact ⟨_, (pb, blk [.int .u8 1, sv, .int .i64 (((s.n : Nat) : Int)), .pointer (some ⟨bt, 0, none⟩)] 105) :: (B ++ M24), [], I7 rfl rfl, (Fit.none (Fit.pick (B := [_]) PickC.perm (Fit.pick PickC.perm (Fit.last PickC.perm)))), ⟨sv, B, M24, by rw [show md (B2I s w).real = 1 by show md s.real = 1; rw [hr]; rfl]; rfl, hby, hT24⟩, h25.mono SubC.sub⟩
theorem A6N (pb bt bm : Nat) (s : Ps) (hr : s.real = false) (v v2 : Value) (w u : List Nat) (MP A : Mem) (hP : PrmT pb bt bm s MP) (hn : s.ts.length + 1 < 1048576) (hv : By A v w) (hu : By A v2 u) (hG : Glb A) : FnX Tryz.prog 73 [.pointer (some ⟨pb, 0, none⟩), v, v2] MP A fun q M J => PrmT pb bt bm (B5D s w u) M ∧ By J q (B60 s w u) := by
 obtain ⟨sv, B, MT, rfl, hby, hT⟩ := hP.ex
 have hmd : md s.real = 1 := by rw [hr]; rfl
 rw [hmd] at *
 obtain ⟨⟨ge0, gf0, h0⟩, ⟨ge1, gf1, h1⟩, ⟨ge4, gf4, h4⟩⟩ := hG
 haveI := hv.cel
 haveI := hu.cel
 haveI := hby.cel
 have hvl := hv.len
 have hul := hu.len
 refine FnX.enterZ (N := 31) Tryz.func73 rfl rfl rfl fun w_ => ?_
 refine B0 (D4 0 1 2) (A1 (as_ (A0 (D4 0 1 2) (A3 (A1 (mv_ ?_))))))
 refine A2 (H2 (e := 105) rfl rfl kR) rfl ?_
 refine A0 (D6 0 1 2 8) ?_
 refine D0 rfl ?_
 refine A6 (nx (D4 0 1 2) (A3 (A1 (mv_ ?_))))
 refine A2 (E8 rfl) rfl ?_
 refine A2 (qf_ 0 0) rfl ?_
 refine A2 ql_ rfl ?_
 refine A2 (F0 false rfl rfl (eqF (by decide))) rfl ?_
 refine A0 (D6 0 1 2 13) ?_
 refine D0 rfl ?_
 refine A6 (nx (D4 0 1 2) ?_)
 refine L7 (MT) (_) true [0, 1, 2, 3, 4, 5, 6, 7, 8, 9, 12] [(0, 0), (1, 0), (2, 0), (3, 1), (4, 0), (5, 0), (7, 0), (8, 0), (6, 2), (9, 2), (10, 2), (11, 2), (12, 0)] kR kR PickC.perm fun hs K n0 hKm hKs hKn => ?_
 refine km_ hs ?_
 refine L6 hs rfl (E8 rfl) rfl ?_
 refine L6 hs rfl (qf_ 3 3) rfl ?_
 refine Y8 hs rfl hKs ql_ ?_
 refine km_ hs ?_
 refine km_ hs ?_
 refine km_ hs ?_
 refine km_ hs ?_
 refine Q5 _ _ rfl rfl (List.Perm.refl _) hKm fun w0 => (E0 (Mc := MT) (R := _) (aS rfl (aS rfl a0)) kR PickC.perm (A0v pb bt bm 1 _ sv s.ts v w MT _ hT At.mem (by omega) (hv.mono SubC.sub) (SubC.sub _ h4)) rfl ?_)
 rintro v25 M25 J25 ⟨rfl, hT25⟩ hKx
 refine Q5 (M25 ++ []) _ rfl rfl PickC.perm (hKx (hKn rfl)) fun w0 => (E0 (Mc := M25) (R := _) (aS rfl (aS rfl a0)) kR PickC.perm (A0v pb bt bm 1 _ sv (rdT s.ts w) v2 u M25 _ hT25 At.mem (by have := U1 (ts := s.ts) (ws := w); omega) (hu.mono SubC.sub) (SubC.sub _ h4)) rfl ?_)
 rintro v28 M28 J28 ⟨rfl, hT28⟩ hKy
 refine T7 rfl rfl rfl (E0 (Mc := M28) (R := _) (aS rfl (aS rfl (aS rfl a0))) kR PickC.perm (A8u bt bm (rdT (rdT s.ts w) u) _ _ M28 _ hT28 (by have := U1 (ts := s.ts) (ws := w); have := U1 (ts := rdT s.ts w) (ws := u); omega) (A47 hv.lt (by omega) hT.tok.tmo (by omega)) (A47 hu.lt (by omega) hT25.tok.tmo (by have := U1 (ts := s.ts) (ws := w); omega)) (SubC.sub _ h4)) rfl ?_)
 rintro v29 M29 J29 ⟨rfl, rfl, hT29⟩
 refine T7 rfl rfl rfl (H7 (aS rfl a0) kR (Z3 _ _) rfl ?_)
 rintro v30 M30 J30 ⟨rfl, h30⟩
 refine L6 hs rfl (G9 rfl) rfl ?_
 refine Q8 (D7 6) (B4 ?_)
 exact ⟨_, (pb, blk [.int .u8 1, sv, .int .i64 (((s.n : Nat) : Int)), .pointer (some ⟨bt, 0, none⟩)] 105) :: (B ++ M29), [], I7 rfl rfl, (Fit.none (Fit.pick (B := [_]) PickC.perm (Fit.pick PickC.perm (Fit.last PickC.perm)))), ⟨sv, B, M29, by rw [show md (B5D s w u).real = 1 by show md s.real = 1; rw [hr]; rfl]; rfl, hby, hT29⟩, h30.mono SubC.sub⟩
theorem B2J (pb : Nat) (s : Ps) (hr : s.real = false) (v : Value) (w : List Nat) (MP A : Mem) (hP : Prm pb s MP) (hn : s.ts.length < 1048576) (hv : By A v w) (hG : Glb A) : FnX Tryz.prog 27 [.pointer (some ⟨pb, 0, none⟩), v] MP A fun q M J => Prm pb (B2I s w) M ∧ By J q (B5C s w) := by
  obtain ⟨bt, bm, h⟩ := hP.t
  exact (A6M pb bt bm s hr v w MP A h hn hv hG).mono fun q M J ⟨h1, h2⟩ => ⟨h1.p, h2⟩
theorem B2K (pb : Nat) (s : Ps) (hr : s.real = false) (v v2 : Value) (w u : List Nat) (MP A : Mem) (hP : Prm pb s MP) (hn : s.ts.length + 1 < 1048576) (hv : By A v w) (hu : By A v2 u) (hG : Glb A) : FnX Tryz.prog 73 [.pointer (some ⟨pb, 0, none⟩), v, v2] MP A fun q M J => Prm pb (B5D s w u) M ∧ By J q (B60 s w u) := by
  obtain ⟨bt, bm, h⟩ := hP.t
  exact (A6N pb bt bm s hr v v2 w u MP A h hn hv hu hG).mono fun q M J ⟨h1, h2⟩ => ⟨h1.p, h2⟩

def A2v (x : Int) (a b : List Nat) : Tm := ⟨6, [x], mark a ++ mark b, 0⟩
def B8C (x : Int) (m : List Nat) : Tm := ⟨7, [x], m, 0⟩
def B4i (s : Ps) (w : List Nat) (f : Int → Tm) : Ps := { s with ts := add (rdT s.ts w) (f ((rdI s.ts w : Nat) : Int)) }
def B4j (s : Ps) (w : List Nat) (f : Int → Tm) : List Nat := bts ((at_ (rdT s.ts w) (f ((rdI s.ts w : Nat) : Int)) : Nat) : Int)
theorem B0b {x : Int} (h : i64 x) {a b : List Nat} (ha : ∀ y ∈ a, y < 256) (hb : ∀ y ∈ b, y < 256) (la : a.length ≤ 16777216) (lb : b.length ≤ 16777216) : Tmo (A2v x a b) := by
  haveI : B256 a := ⟨ha⟩
  haveI : B256 b := ⟨hb⟩
  have h1 := A2L a (by omega)
  have h2 := A2L b (by omega)
  exact ⟨show 6 < 256 by decide, show i64 (0 : Int) by unfold i64; omega, fun i hi => by rw [List.mem_singleton.1 hi]; exact h, show 1 ≤ 1048576 by decide, inferInstanceAs (B256 (mark a ++ mark b)), by show (mark a ++ mark b).length ≤ _; rw [List.length_append]; omega⟩
theorem B0c (pb bt bm : Nat) (s : Ps) (hr : s.real = false) (v v2 v3 : Value) (w wa wb : List Nat) (MP A : Mem) (hP : PrmT pb bt bm s MP) (hn : s.ts.length < 1048576) (hv : By A v w) (hya : By A v2 wa) (hyb : By A v3 wb) (hG : Glb A) : FnX Tryz.prog 38 [.pointer (some ⟨pb, 0, none⟩), v, v2, v3] MP A fun q M J => PrmT pb bt bm (B4i s w fun x => A2v x wa wb) M ∧ By J q (B4j s w fun x => A2v x wa wb) := by
 obtain ⟨sv, B, MT, rfl, hby, hT⟩ := hP.ex
 have hmd : md s.real = 1 := by rw [hr]; rfl
 rw [hmd] at *
 obtain ⟨⟨ge0, gf0, h0⟩, ⟨ge1, gf1, h1⟩, ⟨ge4, gf4, h4⟩⟩ := hG
 haveI := hv.cel
 haveI := hya.cel
 haveI := hyb.cel
 haveI := hby.cel
 have hvl := hv.len
 have hal := hya.len
 have hbl := hyb.len
 refine FnX.enterZ (N := 38) Tryz.func38 rfl rfl rfl fun w_ => ?_
 refine B0 (D6 0 1 2 3) (A1 (as_ (A0 (D6 0 1 2 3) (A3 (A1 (mv_ ?_))))))
 refine A2 (H2 (e := 105) rfl rfl kR) rfl ?_
 refine A0 (E5 0 1 2 3 10) ?_
 refine D0 rfl ?_
 refine A6 (nx (D6 0 1 2 3) (A3 (A1 (mv_ ?_))))
 refine A2 (E8 rfl) rfl ?_
 refine A2 (qf_ 0 0) rfl ?_
 refine A2 ql_ rfl ?_
 refine A2 (F0 false rfl rfl (eqF (by decide))) rfl ?_
 refine A0 (E5 0 1 2 3 15) ?_
 refine D0 rfl ?_
 refine A6 (nx (D6 0 1 2 3) ?_)
 refine L7 (MT) (_) true [0, 1, 2, 3, 4, 5, 6, 7, 8, 9, 10, 11, 12, 13, 16] [(0, 0), (1, 0), (2, 0), (3, 1), (4, 0), (5, 0), (8, 0), (10, 0), (6, 2), (7, 3), (9, 3), (11, 3), (12, 4), (13, 0), (14, 2), (15, 2), (16, 0)] kR kR PickC.perm fun hs K n0 hKm hKs hKn => ?_
 refine km_ hs ?_
 refine L6 hs rfl (E8 rfl) rfl ?_
 refine L6 hs rfl (qf_ 3 3) rfl ?_
 refine Y8 hs rfl hKs ql_ ?_
 refine km_ hs ?_
 refine km_ hs ?_
 refine km_ hs ?_
 refine km_ hs ?_
 refine Q5 _ _ rfl rfl (List.Perm.refl _) hKm fun w0 => (E0 (Mc := MT) (R := _) (aS rfl (aS rfl a0)) kR PickC.perm (A0v pb bt bm 1 _ sv s.ts v w MT _ hT At.mem (by omega) (hv.mono SubC.sub) (SubC.sub _ h4)) rfl ?_)
 rintro v28 M28 J28 ⟨rfl, hT28⟩ hKx
 refine A5M [⟨7, 29, fun v B _ => ∃ b, v = .slice (some ⟨b, 0, none⟩) 1 1 ∧ B = [(b, blk [.int .i64 ((rdI s.ts w : Nat) : Int)] 3)]⟩, ⟨9, 31, fun v B _ => B = [] ∧ v = .string (txt (mark wa))⟩, ⟨11, 33, fun v B _ => B = [] ∧ v = .string (txt (mark wb))⟩, ⟨12, 34, fun v B _ => B = [] ∧ v = .string (txt (mark wa ++ mark wb))⟩]
  (A7 (fun _ _ _ _ _ h => h) (A7 (fun _ _ _ _ _ h => h) (A7 (fun _ _ _ _ _ h => h) (A7 (fun _ _ _ _ _ h => h) (K9))))) (show List.Nodup [29, 31, 33, 34] by decide) (show List.Nodup [7, 9, 11, 12] by decide) (A7 (C5 rfl) (A7 (C5 rfl) (A7 (C5 rfl) (A7 (C5 rfl) (K9)))))
  (A7 ⟨_, rfl, fun vs bs R w hb ha => ⟨.inl rfl, ?_⟩⟩ (A7 ⟨_, rfl, fun vs bs R w hb ha => ⟨.inl rfl, ?_⟩⟩ (A7 ⟨_, rfl, fun vs bs R w hb ha => ⟨.inl rfl, ?_⟩⟩ (A7 ⟨_, rfl, fun vs bs R w hb ha => ⟨.inl rfl, ?_⟩⟩ (K9))))) ?_
 ·
  exact C3 (e := 3) (sz := 1) (z := [.int .i64 0]) kR (eS rfl e0) (bdS 0 1 rfl (by rfl) bd0) rfl fun b => ⟨_, rfl, b, rfl, rfl⟩
 ·
  exact U9 (aS rfl a0) kR (A5S v2 wa _ (hya.rd.mono fun x hx => hb _ (SubC.sub x hx)) (hb := hya.b256) (by have := hya.len; omega) (hb _ (SubC.sub _ h4))) rfl ⟨_, rfl, rfl, rfl⟩
 ·
  exact U9 (aS rfl a0) kR (A5S v3 wb _ (hyb.rd.mono fun x hx => hb _ (SubC.sub x hx)) (hb := hyb.b256) (by have := hyb.len; omega) (hb _ (SubC.sub _ h4))) rfl ⟨_, rfl, rfl, rfl⟩
 ·
  have g9 := ha _ (List.mem_of_getElem? (i := 1) rfl) kR
  replace g9 : (fun v B _ => B = [] ∧ v = .string (txt (mark wa))) (vs 9) (bs 9) R := g9
  dsimp only at g9
  have g11 := ha _ (List.mem_of_getElem? (i := 2) rfl) kR
  replace g11 : (fun v B _ => B = [] ∧ v = .string (txt (mark wb))) (vs 11) (bs 11) R := g11
  dsimp only at g11
  obtain ⟨-, h9⟩ := g9
  obtain ⟨-, h11⟩ := g11
  exact OpQ.opL (A1W (ws := mark wa) (ws' := mark wb) (by rw [← h9]; rfl) (by rw [← h11]; rfl) rfl rfl (by have h1 := A2L wa (by omega); have h2 := A2L wb (by omega); omega)) rfl ⟨_, rfl, rfl, rfl⟩
 intro vs bs Jn0 hφ
 have g7 := ofH hφ
 dsimp only at g7
 replace hφ := ofT hφ
 have g9 := ofH hφ
 dsimp only at g9
 replace hφ := ofT hφ
 have g11 := ofH hφ
 dsimp only at g11
 replace hφ := ofT hφ
 have g12 := ofH hφ
 dsimp only at g12
 clear hφ
 dsimp only [A0k, U3, List.map, List.flatten, List.cons_append, List.nil_append]
 generalize bs 7 = B29 at *
 generalize bs 9 = B31 at *
 generalize bs 11 = B33 at *
 generalize bs 12 = B34 at *
 generalize vs 7 = u29 at *
 generalize vs 9 = u31 at *
 generalize vs 11 = u33 at *
 generalize vs 12 = u34 at *
 obtain ⟨b29, rfl, rfl⟩ := g7
 obtain ⟨rfl, rfl⟩ := g9
 obtain ⟨rfl, rfl⟩ := g11
 obtain ⟨rfl, rfl⟩ := g12
 dsimp only [List.append_eq, List.nil_append, List.cons_append]
 refine L6 hs rfl (G1 (place := fun x => #[(0, 1), (1, 1), (2, 1), (3, 1)][x]?) (z := [.int .u8 0, .slice none 0 0, .string ByteArray.empty, .int .i64 0]) (fun _ => by kernel_rfl) (eS rfl (eS rfl (eS rfl e0))) (bdS 0 1 rfl (by rfl) (bdS 1 1 rfl (by rfl) (bdS 2 1 rfl (by rfl) bd0)))) rfl ?_
 refine T7 rfl rfl rfl (E0 (Mc := M28) (R := _) (aS rfl (aS rfl a0)) kR PickC.perm (U0 bt bm (rdT s.ts w) _ (A2v ((rdI s.ts w : Nat) : Int) wa wb) M28 _ hT28 (by have := U1 (ts := s.ts) (ws := w); omega) (Rd.whole (n := 1) At.mem (by rfl)) (B0b (A47 hv.lt (by omega) hT.tok.tmo (by omega)) hya.lt hyb.lt hya.len hyb.len) (SubC.sub _ h4)) rfl ?_)
 rintro v36 M36 J36 ⟨rfl, rfl, hT36⟩
 refine T7 rfl rfl rfl (H7 (aS rfl a0) kR (Z3 _ _) rfl ?_)
 rintro v37 M37 J37 ⟨rfl, h37⟩
 refine L6 hs rfl (G9 rfl) rfl ?_
 refine Q8 (D7 8) (B4 ?_)
 exact ⟨_, (pb, blk [.int .u8 1, sv, .int .i64 (((s.n : Nat) : Int)), .pointer (some ⟨bt, 0, none⟩)] 105) :: (B ++ M36), [], I7 rfl rfl, (Fit.none (Fit.pick (B := [_]) PickC.perm (Fit.pick PickC.perm (Fit.last PickC.perm)))), ⟨sv, B, M36, by rw [show md (B4i s w (fun x => A2v x wa wb)).real = 1 by show md s.real = 1; rw [hr]; rfl]; rfl, hby, hT36⟩, h37.mono SubC.sub⟩

end Go.Proofs.YtlilcmjbaknafaaGreatDoor
namespace Go.Px
abbrev p25 : Nat := 57896044618658097711785492504343953926634992332820282019728792003956564819949
def fv (a b c d e : Nat) : Nat := a + 2251799813685248 * b + 5070602400912917605986812821504 * c + 11417981541647679048466287755595961091061972992 * d + 25711008708143844408671393477458601640355247900524685364822016 * e
theorem A8y {a b c d e a1 b1 c1 d1 e1 : Nat} (ha : a < 9223372036854775808) (hb : b < 9223372036854775808) (hc : c < 9223372036854775808) (hd : d < 9223372036854775808) (he : e < 9223372036854775808)
    (h1 : a1 = (a + 19 * (e / 2251799813685248) % 18446744073709551616) % 18446744073709551616) (h2 : b1 = (b + a1 / 2251799813685248) % 18446744073709551616) (h3 : c1 = (c + b1 / 2251799813685248) % 18446744073709551616)
    (h4 : d1 = (d + c1 / 2251799813685248) % 18446744073709551616) (h5 : e1 = (e % 2251799813685248 + d1 / 2251799813685248) % 18446744073709551616) :
    fv (a1 % 2251799813685248) (b1 % 2251799813685248) (c1 % 2251799813685248) (d1 % 2251799813685248) e1 + p25 * (e / 2251799813685248) = fv a b c d e ∧ e1 < 2251799813685248 + 8192 := by
  unfold fv p25
  omega
theorem L4 {v q V : Nat} (h : v + p25 * q = V) : v % p25 = V % p25 := by rw [← h, Nat.add_mul_mod_self_left]
theorem B7C {a b c d e a2 b2 c2 d2 e2 : Nat} (ha : a < 4503599627370496) (hb : b < 4503599627370496) (hc : c < 4503599627370496) (hd : d < 4503599627370496) (he : e < 4503599627370496) (ha2 : a2 < 4503599627370496) (hb2 : b2 < 4503599627370496) (hc2 : c2 < 4503599627370496) (hd2 : d2 < 4503599627370496) (he2 : e2 < 4503599627370496) :
    fv ((a + a2) % 18446744073709551616) ((b + b2) % 18446744073709551616) ((c + c2) % 18446744073709551616) ((d + d2) % 18446744073709551616) ((e + e2) % 18446744073709551616) = fv a b c d e + fv a2 b2 c2 d2 e2 := by
  rw [Nat.mod_eq_of_lt (a := a + a2) (by omega), Nat.mod_eq_of_lt (a := b + b2) (by omega), Nat.mod_eq_of_lt (a := c + c2) (by omega), Nat.mod_eq_of_lt (a := d + d2) (by omega), Nat.mod_eq_of_lt (a := e + e2) (by omega)]
  unfold fv; omega
theorem A3q {a t b : Nat} (ha : a < 4503599627370496) (ht : t < 9007199254740992) (hb : b ≤ t) : (a + (t + (18446744073709551616 - b)) % 18446744073709551616) % 18446744073709551616 = a + t - b := by omega
theorem A10 {a t b : Nat} (ha : a < 4503599627370496) (ht : t < 9007199254740992) (hb : b ≤ t) : a + t - b < 9223372036854775808 := by omega
theorem B7D {a b c d e a2 b2 c2 d2 e2 : Nat} (ha : a2 ≤ 9007199254740916) (hb : b2 ≤ 9007199254740988) (hc : c2 ≤ 9007199254740988) (hd : d2 ≤ 9007199254740988) (he : e2 ≤ 9007199254740988) :
    fv (a + 9007199254740916 - a2) (b + 9007199254740988 - b2) (c + 9007199254740988 - c2) (d + 9007199254740988 - d2) (e + 9007199254740988 - e2) + fv a2 b2 c2 d2 e2 = fv a b c d e + 4 * p25 := by
  unfold fv p25; omega
theorem B5E {A B V : Nat} (h : V + B = A + 4 * p25) : V % p25 = (A % p25 + p25 - B % p25) % p25 := by
  unfold p25 at *; omega
theorem B0d {x y x0 x1 y0 y1 w0 t w1 : Nat} (hx : x < 18446744073709551616) (hy : y < 18446744073709551616) (h1 : x0 = x % 4294967296) (h2 : x1 = x / 4294967296) (h3 : y0 = y % 4294967296) (h4 : y1 = y / 4294967296)
    (h5 : w0 = x0 * y0 % 18446744073709551616) (h6 : t = (x1 * y0 % 18446744073709551616 + w0 / 4294967296) % 18446744073709551616) (h7 : w1 = (t % 4294967296 + x0 * y1 % 18446744073709551616) % 18446744073709551616) :
    ((x1 * y1 % 18446744073709551616 + t / 4294967296) % 18446744073709551616 + w1 / 4294967296) % 18446744073709551616 = x * y / 18446744073709551616 := by
  have b0 : x0 ≤ 4294967295 := by omega
  have b1 : x1 ≤ 4294967295 := by omega
  have b2 : y0 ≤ 4294967295 := by omega
  have b3 : y1 ≤ 4294967295 := by omega
  have q0 := Nat.mul_le_mul b0 b2
  have q1 := Nat.mul_le_mul b1 b2
  have q2 := Nat.mul_le_mul b0 b3
  have q3 := Nat.mul_le_mul b1 b3
  have ex : x = x0 + 4294967296 * x1 := by omega
  have ey : y = y0 + 4294967296 * y1 := by omega
  have e : x * y = x0 * y0 + 4294967296 * (x1 * y0) + 4294967296 * (x0 * y1) + 18446744073709551616 * (x1 * y1) := by rw [ex, ey]; grind
  rw [e]
  clear e ex ey h1 h2 h3 h4 b0 b1 b2 b3 hx hy
  generalize x0 * y0 = A at *
  generalize x1 * y0 = B at *
  generalize x0 * y1 = C at *
  generalize x1 * y1 = E at *
  omega
theorem or13 {hi lo : Nat} (hh : hi < 18446744073709551616) (hl : lo < 18446744073709551616) : (hi * 8192 % 18446744073709551616 ||| lo / 2251799813685248) = (hi * 18446744073709551616 + lo) / 2251799813685248 % 18446744073709551616 := by
  have e : hi * 8192 % 18446744073709551616 = (hi % 2251799813685248) <<< 13 := by rw [Nat.shiftLeft_eq]; omega
  rw [e, ← Nat.shiftLeft_add_eq_or_of_lt (by show _ < 8192; omega), Nat.shiftLeft_eq]
  omega
theorem A08 {R S T : Nat} (h0 : R < 2596148429267413814265248164610048) (h1 : S < 5192296858534827628530496329220096) (e : T = (R + S / 2251799813685248 % 18446744073709551616) % 340282366920938463463374607431768211456) : T = R + S / 2251799813685248 ∧ T < 5192296858534827628530496329220096 := by
  have a : S / 2251799813685248 < 18446744073709551616 := by omega
  rw [Nat.mod_eq_of_lt a, Nat.mod_eq_of_lt (by omega)] at e
  omega
theorem B2L {R0 R1 R2 R3 R4 S1 S2 S3 S4 l0 l1 l2 l3 l4 o0 o1 : Nat} (h0 : R0 < 2596148429267413814265248164610048) (h1 : R1 < 2596148429267413814265248164610048) (h2 : R2 < 2596148429267413814265248164610048) (h3 : R3 < 2596148429267413814265248164610048) (h4 : R4 < 162259276829213363391578010288128)
    (e1 : S1 = (R1 + R0 / 2251799813685248 % 18446744073709551616) % 340282366920938463463374607431768211456) (e2 : S2 = (R2 + S1 / 2251799813685248 % 18446744073709551616) % 340282366920938463463374607431768211456) (e3 : S3 = (R3 + S2 / 2251799813685248 % 18446744073709551616) % 340282366920938463463374607431768211456) (e4 : S4 = (R4 + S3 / 2251799813685248 % 18446744073709551616) % 340282366920938463463374607431768211456)
    (f0 : l0 % 2251799813685248 = R0 % 2251799813685248) (f1 : l1 % 2251799813685248 = S1 % 2251799813685248) (f2 : l2 % 2251799813685248 = S2 % 2251799813685248) (f3 : l3 % 2251799813685248 = S3 % 2251799813685248) (f4 : l4 % 2251799813685248 = S4 % 2251799813685248)
    (g0 : o0 = (l0 % 2251799813685248 + 19 * (S4 / 2251799813685248 % 18446744073709551616) % 18446744073709551616) % 18446744073709551616) (g1 : o1 = (l1 % 2251799813685248 + o0 / 2251799813685248) % 18446744073709551616) :
    o1 < 4503599627370496 ∧ fv (o0 % 2251799813685248) o1 (l2 % 2251799813685248) (l3 % 2251799813685248) (l4 % 2251799813685248) + p25 * (S4 / 2251799813685248) = R0 + 2251799813685248 * R1 + 5070602400912917605986812821504 * R2 + 11417981541647679048466287755595961091061972992 * R3 + 25711008708143844408671393477458601640355247900524685364822016 * R4 := by
  rw [f2, f3, f4]
  rw [f0] at g0
  rw [f1] at g1
  clear f0 f1 f2 f3 f4
  obtain ⟨k1, j1⟩ := A08 h1 (by omega) e1
  obtain ⟨k2, j2⟩ := A08 h2 j1 e2
  obtain ⟨k3, j3⟩ := A08 h3 j2 e3
  obtain ⟨k4, j4⟩ := A08 (by omega) j3 e4
  have j5 : S3 / 2251799813685248 < 2305843009213693952 := by clear e1 e2 e3 e4 k1 k2 k3 k4 g0 g1; omega
  clear e1 e2 e3 e4 j1 j2 j3
  have k5 : S4 < 324518553658426726783156020576256 := by clear g0 g1 k1 k2 k3; omega
  have j6 : S4 / 2251799813685248 < 288230376151711744 := by clear g0 g1 k1 k2 k3 k4; omega
  have k6 : o0 = R0 % 2251799813685248 + 19 * (S4 / 2251799813685248) := by clear g1 k1 k2 k3 k4 h0 h1 h2 h3 h4 k5 j5; omega
  have k7 : o1 = S1 % 2251799813685248 + o0 / 2251799813685248 := by clear g0 k1 k2 k3 k4 h0 h1 h2 h3 h4 k5 j5; omega
  clear g0 g1
  refine ⟨by clear k1 k2 k3 k4 h0 h1 h2 h3 h4 k5 j5; omega, ?_⟩
  clear h0 h1 h2 h3 h4 k5 j5 j6 j4
  unfold fv p25
  omega
theorem A56 {x1 x2 x3 x4 x5 z1 z2 z3 z4 z5 : Nat} (h1 : z1 ≤ 385365782469381738054997774434304) (h2 : z2 ≤ 385365782469381738054997774434304) (h3 : z3 ≤ 385365782469381738054997774434304) (h4 : z4 ≤ 385365782469381738054997774434304) (h5 : z5 ≤ 385365782469381738054997774434304) (e1 : x1 = (0 * 18446744073709551616 + 0 + z1) % 340282366920938463463374607431768211456) (e2 : x2 = (x1 + z2) % 340282366920938463463374607431768211456) (e3 : x3 = (x2 + z3) % 340282366920938463463374607431768211456) (e4 : x4 = (x3 + z4) % 340282366920938463463374607431768211456) (e5 : x5 = (x4 + z5) % 340282366920938463463374607431768211456) :
    x5 = z1 + z2 + z3 + z4 + z5 := by omega
theorem B2M {a : Nat} (h : a < 4503599627370496) : 19 * a % 18446744073709551616 = 19 * a := by omega
theorem zb {a b : Nat} (ha : a < 4503599627370496) (hb : b < 4503599627370496) : a * b ≤ 20282409603651670423947251286016 := Nat.le_trans (Nat.mul_le_mul (Nat.le_of_lt ha) (Nat.le_of_lt hb)) (by decide)
theorem A4q {a b : Nat} (ha : a < 4503599627370496) (hb : b < 4503599627370496) : 19 * a * b ≤ 385365782469381738054997774434304 := Nat.le_trans (Nat.mul_le_mul (Nat.mul_le_mul_left 19 (Nat.le_of_lt ha)) (Nat.le_of_lt hb)) (by decide)
theorem B2N (a b c d e a2 b2 c2 d2 e2 : Nat) : fv a b c d e * fv a2 b2 c2 d2 e2 =
    (a * a2 + 19 * b * e2 + 19 * c * d2 + 19 * d * c2 + 19 * e * b2) + 2251799813685248 * (a * b2 + b * a2 + 19 * c * e2 + 19 * d * d2 + 19 * e * c2) + 5070602400912917605986812821504 * (a * c2 + b * b2 + c * a2 + 19 * d * e2 + 19 * e * d2) + 11417981541647679048466287755595961091061972992 * (a * d2 + b * c2 + c * b2 + d * a2 + 19 * e * e2) + 25711008708143844408671393477458601640355247900524685364822016 * (a * e2 + b * d2 + c * c2 + d * b2 + e * a2)
    + p25 * ((b * e2 + c * d2 + d * c2 + e * b2) + 2251799813685248 * (c * e2 + d * d2 + e * c2) + 5070602400912917605986812821504 * (d * e2 + e * d2) + 11417981541647679048466287755595961091061972992 * (e * e2)) := by
  unfold fv p25; grind
def B61 (as_ : List Nat) (i k : Nat) : Nat := if i + k < 5 then as_.getD i 0 else 19 * as_.getD i 0 % 18446744073709551616
def B5F (i k : Nat) : Nat := if i + k < 5 then i + k else i + k - 5
def B0e (as_ bs : List Nat) (i k : Nat) (Xs : List Nat) : List Nat := Xs.set (B5F i k) ((Xs.getD (B5F i k) 0 + B61 as_ i k * bs.getD k 0) % 340282366920938463463374607431768211456)
def A48 (as_ bs : List Nat) (i : Nat) : Nat → List Nat → List Nat
  | 0, Xs => Xs
  | k + 1, Xs => B0e as_ bs i k (A48 as_ bs i k Xs)
def A49 (as_ bs : List Nat) : Nat → List Nat
  | 0 => [0, 0, 0, 0, 0]
  | i + 1 => A48 as_ bs i 5 (A49 as_ bs i)
theorem A7y (as_ bs : List Nat) (i k : Nat) (Xs : List Nat) : (A48 as_ bs i k Xs).length = Xs.length := by
  induction k with
  | zero => rfl
  | succ k ih => simp [A48, B0e, ih]
theorem B2O (as_ bs : List Nat) (i : Nat) : (A49 as_ bs i).length = 5 := by
  induction i with
  | zero => rfl
  | succ i ih => rw [A49, A7y, ih]
def B5G (Xs : List Nat) : Prop := ∀ x ∈ Xs, x < 340282366920938463463374607431768211456
theorem B0f (as_ bs : List Nat) (i k : Nat) {Xs : List Nat} (h : B5G Xs) : B5G (A48 as_ bs i k Xs) := by
  induction k with
  | zero => exact h
  | succ k ih =>
    intro x hx
    rcases List.mem_or_eq_of_mem_set hx with h1 | rfl
    · exact ih x h1
    · exact Nat.mod_lt _ (by decide)
theorem B5H (as_ bs : List Nat) (i : Nat) : B5G (A49 as_ bs i) := by
  induction i with
  | zero => intro x hx; simp [A49] at hx; subst hx; decide
  | succ i ih => exact B0f _ _ _ _ ih
theorem B2P (a b c d e a2 b2 c2 d2 e2 : Nat) (ha : a < 4503599627370496) (hb : b < 4503599627370496) (hc : c < 4503599627370496) (hd : d < 4503599627370496) (he : e < 4503599627370496) (ha2 : a2 < 4503599627370496) (hb2 : b2 < 4503599627370496) (hc2 : c2 < 4503599627370496) (hd2 : d2 < 4503599627370496) (he2 : e2 < 4503599627370496) :
    A49 [a, b, c, d, e] [a2, b2, c2, d2, e2] 5 = [a * a2 + 19 * b * e2 + 19 * c * d2 + 19 * d * c2 + 19 * e * b2, a * b2 + b * a2 + 19 * c * e2 + 19 * d * d2 + 19 * e * c2, a * c2 + b * b2 + c * a2 + 19 * d * e2 + 19 * e * d2, a * d2 + b * c2 + c * b2 + d * a2 + 19 * e * e2, a * e2 + b * d2 + c * c2 + d * b2 + e * a2] := by
  have z {x y : Nat} (hx : x < 4503599627370496) (hy : y < 4503599627370496) : x * y ≤ 385365782469381738054997774434304 := Nat.le_trans (zb hx hy) (by decide)
  simp only [A49, A48, B0e, B61, B5F, List.set, List.getD_cons_zero, List.getD_cons_succ, Nat.reduceAdd, Nat.reduceLT, Nat.reduceSub, if_true, if_false, Nat.zero_add, Nat.add_zero, B2M hb, B2M hc, B2M hd, B2M he, reduceIte]
  rw [A56 (z ha ha2) (A4q hb he2) (A4q hc hd2) (A4q hd hc2) (A4q he hb2) (by simp) rfl rfl rfl rfl, A56 (z ha hb2) (z hb ha2) (A4q hc he2) (A4q hd hd2) (A4q he hc2) (by simp) rfl rfl rfl rfl, A56 (z ha hc2) (z hb hb2) (z hc ha2) (A4q hd he2) (A4q he hd2) (by simp) rfl rfl rfl rfl, A56 (z ha hd2) (z hb hc2) (z hc hb2) (z hd ha2) (A4q he he2) (by simp) rfl rfl rfl rfl, A56 (z ha he2) (z hb hd2) (z hc hc2) (z hd hb2) (z he ha2) (by simp) rfl rfl rfl rfl]
theorem A3r {a b c d e a1 b1 c1 d1 e1 : Nat} (ha : a < 2251799813685248) (hb : b < 2251799813685248) (hc : c < 2251799813685248) (hd : d < 2251799813685248) (he : e < 2251799813685248 + 8192) (ha1 : a1 < 2251799813685248) (hb1 : b1 < 2251799813685248) (hc1 : c1 < 2251799813685248) (hd1 : d1 < 2251799813685248) (h : fv a1 b1 c1 d1 e1 + p25 * (e / 2251799813685248) = fv a b c d e) : e1 < 2251799813685248 := by
  have hq : e / 2251799813685248 = 0 ∨ e / 2251799813685248 = 1 := by omega
  unfold fv p25 at h
  rcases hq with hq | hq
  · rw [hq] at h; omega
  · rw [hq] at h; omega
theorem B2Q {a b c d e c0 c1 c2 c3 c4 : Nat} (ha : a < 2251799813685248) (hb : b < 2251799813685248) (hc : c < 2251799813685248) (hd : d < 2251799813685248) (he : e < 2251799813685248) (h0 : c0 = (a + 19) % 18446744073709551616 / 2251799813685248) (h1 : c1 = (b + c0) % 18446744073709551616 / 2251799813685248) (h2 : c2 = (c + c1) % 18446744073709551616 / 2251799813685248) (h3 : c3 = (d + c2) % 18446744073709551616 / 2251799813685248) (h4 : c4 = (e + c3) % 18446744073709551616 / 2251799813685248) :
    (c4 = 0 ∧ fv a b c d e < p25) ∨ (c4 = 1 ∧ p25 ≤ fv a b c d e) := by
  have k0 : c0 ≤ 1 := by omega
  have k1 : c1 ≤ 1 := by omega
  have k2 : c2 ≤ 1 := by omega
  have k3 : c3 ≤ 1 := by omega
  have k4 : c4 ≤ 1 := by omega
  unfold fv p25
  omega
theorem B0g {a b c d e q a1 b1 c1 d1 e1 : Nat} (ha : a < 2251799813685248) (hb : b < 2251799813685248) (hc : c < 2251799813685248) (hd : d < 2251799813685248) (he : e < 2251799813685248) (hq : q ≤ 1) (h1 : a1 = (a + 19 * q % 18446744073709551616) % 18446744073709551616) (h2 : b1 = (b + a1 / 2251799813685248) % 18446744073709551616) (h3 : c1 = (c + b1 / 2251799813685248) % 18446744073709551616) (h4 : d1 = (d + c1 / 2251799813685248) % 18446744073709551616) (h5 : e1 = (e + d1 / 2251799813685248) % 18446744073709551616) :
    fv (a1 % 2251799813685248) (b1 % 2251799813685248) (c1 % 2251799813685248) (d1 % 2251799813685248) (e1 % 2251799813685248) + 57896044618658097711785492504343953926634992332820282019728792003956564819968 * (e1 / 2251799813685248) = fv a b c d e + 19 * q ∧ fv (a1 % 2251799813685248) (b1 % 2251799813685248) (c1 % 2251799813685248) (d1 % 2251799813685248) (e1 % 2251799813685248) < 57896044618658097711785492504343953926634992332820282019728792003956564819968 := by
  have k1 : a1 = a + 19 * q := by omega
  have k2 : b1 = b + a1 / 2251799813685248 := by omega
  have k3 : c1 = c + b1 / 2251799813685248 := by omega
  have k4 : d1 = d + c1 / 2251799813685248 := by omega
  have k5 : e1 = e + d1 / 2251799813685248 := by omega
  clear h1 h2 h3 h4 h5
  unfold fv
  omega
theorem B0h {V F k q : Nat} (h : (q = 0 ∧ V < p25) ∨ (q = 1 ∧ p25 ≤ V)) (hV : V < 57896044618658097711785492504343953926634992332820282019728792003956564819968) (h2 : F + 57896044618658097711785492504343953926634992332820282019728792003956564819968 * k = V + 19 * q ∧ F < 57896044618658097711785492504343953926634992332820282019728792003956564819968) : F = V % p25 := by
  unfold p25 at *
  rcases h with ⟨rfl, h⟩ | ⟨rfl, h⟩
  · rw [Nat.mod_eq_of_lt h]; omega
  · omega
theorem B7E {a b c d e : Nat} (ha : a < 2251799813685248) (hb : b < 2251799813685248) (hc : c < 2251799813685248) (hd : d < 2251799813685248) (he : e < 2251799813685248) : fv a b c d e < 57896044618658097711785492504343953926634992332820282019728792003956564819968 := by unfold fv; omega
theorem B2R {a b c d e : Nat} (ha : a < 2251799813685248) (hb : b < 2251799813685248) (hc : c < 2251799813685248) (hd : d < 2251799813685248) (he : e < 2251799813685248) (j : Nat) (hj : j < 5) : fv a b c d e / 2 ^ (51 * j) % 2 ^ 51 = [a, b, c, d, e].getD j 0 := by
  have : j = 0 ∨ j = 1 ∨ j = 2 ∨ j = 3 ∨ j = 4 := by omega
  unfold fv
  rcases this with rfl | rfl | rfl | rfl | rfl <;> simp only [Nat.reducePow, Nat.reduceMul, List.getD_cons_zero, List.getD_cons_succ] <;> omega
theorem B7F {a b c d e : Nat} (ha : a < 2251799813685248) (hb : b < 2251799813685248) (hc : c < 2251799813685248) (hd : d < 2251799813685248) (he : e < 2251799813685248) (i : Nat) (hi : i < 255) : [a, b, c, d, e].getD (i / 51) 0 / 2 ^ (i % 51) % 2 = fv a b c d e / 2 ^ i % 2 := by
  rw [← B2R ha hb hc hd he (i / 51) (by omega)]
  have h1 : i % 51 < 51 := Nat.mod_lt _ (by decide)
  have e : 2 ^ 51 = 2 ^ (i % 51) * (2 * 2 ^ (50 - i % 51)) := by rw [← Nat.pow_succ', ← Nat.pow_add]; congr 1; omega
  rw [e, Nat.mod_mul_right_div_self, Nat.mod_mul_right_mod, Nat.div_div_eq_div_mul, ← Nat.pow_add]
  congr 3; omega
theorem B5I {a b c d e : Nat} (ha : a < 2251799813685248) (hb : b < 2251799813685248) (hc : c < 2251799813685248) (hd : d < 2251799813685248) (he : e < 2251799813685248) : ∃ q, q = (e + (d + (c + (b + (a + 19) % 18446744073709551616 / 2251799813685248) % 18446744073709551616 / 2251799813685248) % 18446744073709551616 / 2251799813685248) % 18446744073709551616 / 2251799813685248) % 18446744073709551616 / 2251799813685248 ∧ ((q = 0 ∧ fv a b c d e < p25) ∨ (q = 1 ∧ p25 ≤ fv a b c d e)) :=
  ⟨_, rfl, B2Q ha hb hc hd he rfl rfl rfl rfl rfl⟩
theorem B0i {a b c d e q : Nat} (ha : a < 2251799813685248) (hb : b < 2251799813685248) (hc : c < 2251799813685248) (hd : d < 2251799813685248) (he : e < 2251799813685248) (hq : (q = 0 ∧ fv a b c d e < p25) ∨ (q = 1 ∧ p25 ≤ fv a b c d e)) : ∃ f0 f1 f2 f3 f4, f0 = (a + 19 * q % 18446744073709551616) % 18446744073709551616 % 2251799813685248 ∧ f1 = (b + (a + 19 * q % 18446744073709551616) % 18446744073709551616 / 2251799813685248) % 18446744073709551616 % 2251799813685248 ∧ f2 = (c + (b + (a + 19 * q % 18446744073709551616) % 18446744073709551616 / 2251799813685248) % 18446744073709551616 / 2251799813685248) % 18446744073709551616 % 2251799813685248 ∧ f3 = (d + (c + (b + (a + 19 * q % 18446744073709551616) % 18446744073709551616 / 2251799813685248) % 18446744073709551616 / 2251799813685248) % 18446744073709551616 / 2251799813685248) % 18446744073709551616 % 2251799813685248 ∧ f4 = (e + (d + (c + (b + (a + 19 * q % 18446744073709551616) % 18446744073709551616 / 2251799813685248) % 18446744073709551616 / 2251799813685248) % 18446744073709551616 / 2251799813685248) % 18446744073709551616 / 2251799813685248) % 18446744073709551616 % 2251799813685248 ∧ f0 < 2251799813685248 ∧ f1 < 2251799813685248 ∧ f2 < 2251799813685248 ∧ f3 < 2251799813685248 ∧ f4 < 2251799813685248 ∧ fv f0 f1 f2 f3 f4 = fv a b c d e % p25 := by
  have hco := B0g ha hb hc hd he (q := q) (by rcases hq with h | h <;> omega) rfl rfl rfl rfl rfl
  exact ⟨_, _, _, _, _, rfl, rfl, rfl, rfl, rfl, Nat.mod_lt _ (by decide), Nat.mod_lt _ (by decide), Nat.mod_lt _ (by decide), Nat.mod_lt _ (by decide), Nat.mod_lt _ (by decide), B0h hq (B7E ha hb hc hd he) hco⟩
end Go.Px

namespace Go.Proofs.YtlilcmjbaknafaaGreatDoor
open Go.Px
abbrev el (a b c d e : Nat) : Value := .agg #[.int .u64 (a : Int), .int .u64 (b : Int), .int .u64 (c : Int), .int .u64 (d : Int), .int .u64 (e : Int)]
def Fe (v : Value) (n : Nat) : Prop := ∃ a b c d e, v = el a b c d e ∧ a < 4503599627370496 ∧ b < 4503599627370496 ∧ c < 4503599627370496 ∧ d < 4503599627370496 ∧ e < 4503599627370496 ∧ fv a b c d e % p25 = n
theorem Fe.lt {v : Value} {n : Nat} (h : Fe v n) : n < p25 := by
  obtain ⟨a, b, c, d, e, _, _, _, _, _, _, rfl⟩ := h
  exact Nat.mod_lt _ (by decide)
theorem T5 (a b c d e : Nat) (ha : a < 9223372036854775808) (hb : b < 9223372036854775808) (hc : c < 9223372036854775808) (hd : d < 9223372036854775808) (he : e < 9223372036854775808) (A : Mem) :
  FnX Tryz.prog 104 [el a b c d e] [] A fun r M J => M = [] ∧ J = [] ∧ ∃ a' b' c' d' e', r = el a' b' c' d' e' ∧ a' < 2251799813685248 ∧ b' < 2251799813685248 ∧ c' < 2251799813685248 ∧ d' < 2251799813685248 ∧ fv a' b' c' d' e' + p25 * (e / 2251799813685248) = fv a b c d e ∧ e' < 2251799813685248 + 8192 := by
 refine FnX.enter (N := 38) Tryz.func104 rfl rfl rfl fun w => ?_
 refine B0 (D7 0) (A1 ?_)
 refine A4 rfl (bx_ fun b1 => ?_)
 refine A4 rfl (C4 (cs := [E3, E3, E3, E3, E3]) kR rfl fun b2 => ?_)
 refine A0 (D3 1 2) (A1 ?_)
 refine A2 (qi_ 4 94 5 1 4) rfl ?_
 refine A2 ql_ rfl ?_
 refine A2 (N0 51 2251799813685248 rfl rfl rfl rfl (by decide)) rfl ?_
 refine as_ (A0 (D4 1 2 3) (A1 ?_))
 refine A2 (qi_ 4 94 5 1 4) rfl ?_
 refine A2 ql_ rfl ?_
 refine A2 (N1 51 2251799813685248 rfl rfl rfl rfl rfl (by show _ < 18446744073709551616; first | assumption | exact Nat.mod_lt _ (by decide) | omega) (by decide)) rfl ?_
 refine A2 (qi_ 4 94 5 1 4) rfl ?_
 refine A4 rfl (D5 rfl rfl rfl kR SetC.set UpC.upd ?_)
 refine A0 (D4 1 2 3) (A1 ?_)
 refine A2 (qi_ 0 94 5 1 0) rfl ?_
 refine A2 ql_ rfl ?_
 refine mv_ ?_
 refine A2 (L9 18446744073709551616 (a := 19) rfl rfl rfl rfl rfl rfl) rfl ?_
 refine A2 (F1 18446744073709551616 rfl rfl rfl rfl rfl rfl) rfl ?_
 refine A2 (qi_ 0 94 5 1 0) rfl ?_
 refine A4 rfl (D5 rfl rfl rfl kR SetC.set UpC.upd ?_)
 refine A0 (D3 1 2) (A3 (A1 (mv_ (A0 (D4 1 2 18) (A5 ?_)))))
 refine Y6 5 ?_
 refine G5 ?_
 refine A1 ?_
 refine A2 (F0 true rfl rfl (ltT (by decide))) rfl ?_
 refine A0 (D6 1 2 18 19) (A3 ?_)
 refine D1 rfl ?_
 refine A6 (nx (D4 1 2 18) (A3 (A5 (A1 (mv_ (as_ (A0 (D6 1 2 4 18) ?_)))))))
 refine C7 (.range 10) (zp 0 [0, 0, 0, 1, 0, 0, 1, 0, 0, 0, 2]) kR kR fun hs => ?_
 refine fm_ hs ?_
 refine C2 hs rfl (C8 (1 : Int) rfl rfl (E2 (by decide) (by decide) (by decide))) rfl ?_
 refine C2 hs rfl (qi_ 1 94 5 1 1) rfl ?_
 refine G4 hs rfl ql_ rfl ?_
 refine fm_ hs ?_
 refine C2 hs rfl (qi_ 0 94 5 1 0) rfl ?_
 refine G4 hs rfl ql_ rfl ?_
 refine C2 hs rfl (N0 51 2251799813685248 rfl rfl rfl rfl (by decide)) rfl ?_
 refine C2 hs rfl (F1 18446744073709551616 rfl rfl rfl rfl rfl rfl) rfl ?_
 refine C2 hs rfl (qi_ 1 94 5 1 1) rfl ?_
 refine F5 rfl rfl rfl (D5 rfl rfl rfl kR SetC.set UpC.upd ?_)
 refine E4 (D6 1 2 4 18) (A8 (mv_ ?_))
 refine A2 (qi_ 0 94 5 1 0) rfl ?_
 refine A2 ql_ rfl ?_
 refine A2 (N1 51 2251799813685248 rfl rfl rfl rfl rfl (by show _ < 18446744073709551616; first | assumption | exact Nat.mod_lt _ (by decide) | omega) (by decide)) rfl ?_
 refine A2 (qi_ 0 94 5 1 0) rfl ?_
 refine A4 rfl (D5 rfl rfl rfl kR SetC.set UpC.upd ?_)
 refine C1 (nb (nx (D4 1 2 18) (A8 ?_)))
 refine A2 (C8 (1 : Int) rfl rfl (E2 (by decide) (by decide) (by decide))) rfl ?_
 refine mv_ (C1 ?_)
 refine un (D4 1 2 18) ?_
 refine G5 ?_
 refine A1 ?_
 refine A2 (F0 true rfl rfl (ltT (by decide))) rfl ?_
 refine A0 (D6 1 2 18 19) (A3 ?_)
 refine D1 rfl ?_
 refine A6 (nx (D4 1 2 18) (A3 (A5 (A1 (mv_ (as_ (A0 (D6 1 2 4 18) ?_)))))))
 refine C7 (.range 10) (zp 0 [0, 0, 0, 1, 0, 0, 1, 0, 0, 0, 2]) kR kR fun hs => ?_
 refine fm_ hs ?_
 refine C2 hs rfl (C8 (2 : Int) rfl rfl (E2 (by decide) (by decide) (by decide))) rfl ?_
 refine C2 hs rfl (qi_ 2 94 5 1 2) rfl ?_
 refine G4 hs rfl ql_ rfl ?_
 refine fm_ hs ?_
 refine C2 hs rfl (qi_ 1 94 5 1 1) rfl ?_
 refine G4 hs rfl ql_ rfl ?_
 refine C2 hs rfl (N0 51 2251799813685248 rfl rfl rfl rfl (by decide)) rfl ?_
 refine C2 hs rfl (F1 18446744073709551616 rfl rfl rfl rfl rfl rfl) rfl ?_
 refine C2 hs rfl (qi_ 2 94 5 1 2) rfl ?_
 refine F5 rfl rfl rfl (D5 rfl rfl rfl kR SetC.set UpC.upd ?_)
 refine E4 (D6 1 2 4 18) (A8 (mv_ ?_))
 refine A2 (qi_ 1 94 5 1 1) rfl ?_
 refine A2 ql_ rfl ?_
 refine A2 (N1 51 2251799813685248 rfl rfl rfl rfl rfl (by show _ < 18446744073709551616; first | assumption | exact Nat.mod_lt _ (by decide) | omega) (by decide)) rfl ?_
 refine A2 (qi_ 1 94 5 1 1) rfl ?_
 refine A4 rfl (D5 rfl rfl rfl kR SetC.set UpC.upd ?_)
 refine C1 (nb (nx (D4 1 2 18) (A8 ?_)))
 refine A2 (C8 (2 : Int) rfl rfl (E2 (by decide) (by decide) (by decide))) rfl ?_
 refine mv_ (C1 ?_)
 refine un (D4 1 2 18) ?_
 refine G5 ?_
 refine A1 ?_
 refine A2 (F0 true rfl rfl (ltT (by decide))) rfl ?_
 refine A0 (D6 1 2 18 19) (A3 ?_)
 refine D1 rfl ?_
 refine A6 (nx (D4 1 2 18) (A3 (A5 (A1 (mv_ (as_ (A0 (D6 1 2 4 18) ?_)))))))
 refine C7 (.range 10) (zp 0 [0, 0, 0, 1, 0, 0, 1, 0, 0, 0, 2]) kR kR fun hs => ?_
 refine fm_ hs ?_
 refine C2 hs rfl (C8 (3 : Int) rfl rfl (E2 (by decide) (by decide) (by decide))) rfl ?_
 refine C2 hs rfl (qi_ 3 94 5 1 3) rfl ?_
 refine G4 hs rfl ql_ rfl ?_
 refine fm_ hs ?_
 refine C2 hs rfl (qi_ 2 94 5 1 2) rfl ?_
 refine G4 hs rfl ql_ rfl ?_
 refine C2 hs rfl (N0 51 2251799813685248 rfl rfl rfl rfl (by decide)) rfl ?_
 refine C2 hs rfl (F1 18446744073709551616 rfl rfl rfl rfl rfl rfl) rfl ?_
 refine C2 hs rfl (qi_ 3 94 5 1 3) rfl ?_
 refine F5 rfl rfl rfl (D5 rfl rfl rfl kR SetC.set UpC.upd ?_)
 refine E4 (D6 1 2 4 18) (A8 (mv_ ?_))
 refine A2 (qi_ 2 94 5 1 2) rfl ?_
 refine A2 ql_ rfl ?_
 refine A2 (N1 51 2251799813685248 rfl rfl rfl rfl rfl (by show _ < 18446744073709551616; first | assumption | exact Nat.mod_lt _ (by decide) | omega) (by decide)) rfl ?_
 refine A2 (qi_ 2 94 5 1 2) rfl ?_
 refine A4 rfl (D5 rfl rfl rfl kR SetC.set UpC.upd ?_)
 refine C1 (nb (nx (D4 1 2 18) (A8 ?_)))
 refine A2 (C8 (3 : Int) rfl rfl (E2 (by decide) (by decide) (by decide))) rfl ?_
 refine mv_ (C1 ?_)
 refine un (D4 1 2 18) ?_
 refine G5 ?_
 refine A1 ?_
 refine A2 (F0 true rfl rfl (ltT (by decide))) rfl ?_
 refine A0 (D6 1 2 18 19) (A3 ?_)
 refine D1 rfl ?_
 refine A6 (nx (D4 1 2 18) (A3 (A5 (A1 (mv_ (as_ (A0 (D6 1 2 4 18) ?_)))))))
 refine C7 (.range 10) (zp 0 [0, 0, 0, 1, 0, 0, 1, 0, 0, 0, 2]) kR kR fun hs => ?_
 refine fm_ hs ?_
 refine C2 hs rfl (C8 (4 : Int) rfl rfl (E2 (by decide) (by decide) (by decide))) rfl ?_
 refine C2 hs rfl (qi_ 4 94 5 1 4) rfl ?_
 refine G4 hs rfl ql_ rfl ?_
 refine fm_ hs ?_
 refine C2 hs rfl (qi_ 3 94 5 1 3) rfl ?_
 refine G4 hs rfl ql_ rfl ?_
 refine C2 hs rfl (N0 51 2251799813685248 rfl rfl rfl rfl (by decide)) rfl ?_
 refine C2 hs rfl (F1 18446744073709551616 rfl rfl rfl rfl rfl rfl) rfl ?_
 refine C2 hs rfl (qi_ 4 94 5 1 4) rfl ?_
 refine F5 rfl rfl rfl (D5 rfl rfl rfl kR SetC.set UpC.upd ?_)
 refine E4 (D6 1 2 4 18) (A8 (mv_ ?_))
 refine A2 (qi_ 3 94 5 1 3) rfl ?_
 refine A2 ql_ rfl ?_
 refine A2 (N1 51 2251799813685248 rfl rfl rfl rfl rfl (by show _ < 18446744073709551616; first | assumption | exact Nat.mod_lt _ (by decide) | omega) (by decide)) rfl ?_
 refine A2 (qi_ 3 94 5 1 3) rfl ?_
 refine A4 rfl (D5 rfl rfl rfl kR SetC.set UpC.upd ?_)
 refine C1 (nb (nx (D4 1 2 18) (A8 ?_)))
 refine A2 (C8 (4 : Int) rfl rfl (E2 (by decide) (by decide) (by decide))) rfl ?_
 refine mv_ (C1 ?_)
 refine un (D4 1 2 18) ?_
 refine G5 ?_
 refine A1 ?_
 refine A2 (F0 false rfl rfl (ltF (by decide))) rfl ?_
 refine A0 (D6 1 2 18 19) (A3 ?_)
 refine D0 rfl ?_
 refine D2 (te (ue (be rfl (nx (D3 1 2) (A1 ?_)))))
 refine A2 (qw_ 5) rfl ?_
 refine A4 rfl (A9 rfl rfl Cel.cel kR ln5 al5 UpC.upd ?_)
 refine A0 (D7 2) (B4 ?_)
 refine ⟨_, [], [], A3U rfl rfl kR At.mem (by rfl), List.nil_sublist _, by simp, rfl, rfl, _, _, _, _, _, rfl, Nat.mod_lt _ (by decide), Nat.mod_lt _ (by decide), Nat.mod_lt _ (by decide), Nat.mod_lt _ (by decide), A8y ha hb hc hd he rfl rfl rfl rfl rfl⟩
theorem B0j (v u : Value) (x y : Nat) (hx : Fe v x) (hy : Fe u y) (A : Mem) : FnX Tryz.prog 101 [v, u] [] A fun r M J => M = [] ∧ J = [] ∧ Fe r ((x + y) % p25) := by
 obtain ⟨a, b, c, d, e, rfl, ha, hb, hc, hd, he, rfl⟩ := hx
 obtain ⟨a2, b2, c2, d2, e2, rfl, ha2, hb2, hc2, hd2, he2, rfl⟩ := hy
 refine FnX.enter (N := 20) Tryz.func101 rfl rfl rfl fun w => ?_
 refine B0 (D3 0 1) (A1 ?_)
 refine A4 rfl (bx_ fun b2 => ?_)
 refine A4 rfl (bx_ fun b3 => ?_)
 refine A4 rfl (C4 (cs := [E3, E3, E3, E3, E3]) kR rfl fun b4 => ?_)
 refine A0 (D4 2 3 4) (A3 (A1 (mv_ (A0 (D6 2 3 4 6) (A5 ?_)))))
 refine Y6 6 ?_
 refine G5 ?_
 refine A1 ?_
 refine A2 (F0 true rfl rfl (ltT (by decide))) rfl ?_
 refine A0 (E5 2 3 4 6 7) (A3 ?_)
 refine D1 rfl ?_
 refine A6 (nx (D6 2 3 4 6) (A3 (A5 (A1 (mv_ (as_ (A0 (E5 2 3 4 5 6) ?_)))))))
 refine F9 (.range 8) (zp 0 [0, 0, 1, 0, 0, 1, 0, 0, 2]) kR kR fun hs => ?_
 refine fm_ hs ?_
 refine C2 hs rfl (qi_ 0 94 5 1 0) rfl ?_
 refine G4 hs rfl ql_ rfl ?_
 refine fm_ hs ?_
 refine C2 hs rfl (qi_ 0 94 5 1 0) rfl ?_
 refine G4 hs rfl ql_ rfl ?_
 refine C2 hs rfl (F1 18446744073709551616 rfl rfl rfl rfl rfl rfl) rfl ?_
 refine C2 hs rfl (qi_ 0 94 5 1 0) rfl ?_
 refine F5 rfl rfl rfl (D5 rfl rfl rfl kR SetC.set UpC.upd ?_)
 refine Q9 (nb (nx (D6 2 3 4 6) (A8 ?_)))
 refine A2 (C8 (1 : Int) rfl rfl (E2 (by decide) (by decide) (by decide))) rfl ?_
 refine mv_ (C1 ?_)
 refine un (D6 2 3 4 6) ?_
 refine G5 ?_
 refine A1 ?_
 refine A2 (F0 true rfl rfl (ltT (by decide))) rfl ?_
 refine A0 (E5 2 3 4 6 7) (A3 ?_)
 refine D1 rfl ?_
 refine A6 (nx (D6 2 3 4 6) (A3 (A5 (A1 (mv_ (as_ (A0 (E5 2 3 4 5 6) ?_)))))))
 refine F9 (.range 8) (zp 0 [0, 0, 1, 0, 0, 1, 0, 0, 2]) kR kR fun hs => ?_
 refine fm_ hs ?_
 refine C2 hs rfl (qi_ 1 94 5 1 1) rfl ?_
 refine G4 hs rfl ql_ rfl ?_
 refine fm_ hs ?_
 refine C2 hs rfl (qi_ 1 94 5 1 1) rfl ?_
 refine G4 hs rfl ql_ rfl ?_
 refine C2 hs rfl (F1 18446744073709551616 rfl rfl rfl rfl rfl rfl) rfl ?_
 refine C2 hs rfl (qi_ 1 94 5 1 1) rfl ?_
 refine F5 rfl rfl rfl (D5 rfl rfl rfl kR SetC.set UpC.upd ?_)
 refine Q9 (nb (nx (D6 2 3 4 6) (A8 ?_)))
 refine A2 (C8 (2 : Int) rfl rfl (E2 (by decide) (by decide) (by decide))) rfl ?_
 refine mv_ (C1 ?_)
 refine un (D6 2 3 4 6) ?_
 refine G5 ?_
 refine A1 ?_
 refine A2 (F0 true rfl rfl (ltT (by decide))) rfl ?_
 refine A0 (E5 2 3 4 6 7) (A3 ?_)
 refine D1 rfl ?_
 refine A6 (nx (D6 2 3 4 6) (A3 (A5 (A1 (mv_ (as_ (A0 (E5 2 3 4 5 6) ?_)))))))
 refine F9 (.range 8) (zp 0 [0, 0, 1, 0, 0, 1, 0, 0, 2]) kR kR fun hs => ?_
 refine fm_ hs ?_
 refine C2 hs rfl (qi_ 2 94 5 1 2) rfl ?_
 refine G4 hs rfl ql_ rfl ?_
 refine fm_ hs ?_
 refine C2 hs rfl (qi_ 2 94 5 1 2) rfl ?_
 refine G4 hs rfl ql_ rfl ?_
 refine C2 hs rfl (F1 18446744073709551616 rfl rfl rfl rfl rfl rfl) rfl ?_
 refine C2 hs rfl (qi_ 2 94 5 1 2) rfl ?_
 refine F5 rfl rfl rfl (D5 rfl rfl rfl kR SetC.set UpC.upd ?_)
 refine Q9 (nb (nx (D6 2 3 4 6) (A8 ?_)))
 refine A2 (C8 (3 : Int) rfl rfl (E2 (by decide) (by decide) (by decide))) rfl ?_
 refine mv_ (C1 ?_)
 refine un (D6 2 3 4 6) ?_
 refine G5 ?_
 refine A1 ?_
 refine A2 (F0 true rfl rfl (ltT (by decide))) rfl ?_
 refine A0 (E5 2 3 4 6 7) (A3 ?_)
 refine D1 rfl ?_
 refine A6 (nx (D6 2 3 4 6) (A3 (A5 (A1 (mv_ (as_ (A0 (E5 2 3 4 5 6) ?_)))))))
 refine F9 (.range 8) (zp 0 [0, 0, 1, 0, 0, 1, 0, 0, 2]) kR kR fun hs => ?_
 refine fm_ hs ?_
 refine C2 hs rfl (qi_ 3 94 5 1 3) rfl ?_
 refine G4 hs rfl ql_ rfl ?_
 refine fm_ hs ?_
 refine C2 hs rfl (qi_ 3 94 5 1 3) rfl ?_
 refine G4 hs rfl ql_ rfl ?_
 refine C2 hs rfl (F1 18446744073709551616 rfl rfl rfl rfl rfl rfl) rfl ?_
 refine C2 hs rfl (qi_ 3 94 5 1 3) rfl ?_
 refine F5 rfl rfl rfl (D5 rfl rfl rfl kR SetC.set UpC.upd ?_)
 refine Q9 (nb (nx (D6 2 3 4 6) (A8 ?_)))
 refine A2 (C8 (4 : Int) rfl rfl (E2 (by decide) (by decide) (by decide))) rfl ?_
 refine mv_ (C1 ?_)
 refine un (D6 2 3 4 6) ?_
 refine G5 ?_
 refine A1 ?_
 refine A2 (F0 true rfl rfl (ltT (by decide))) rfl ?_
 refine A0 (E5 2 3 4 6 7) (A3 ?_)
 refine D1 rfl ?_
 refine A6 (nx (D6 2 3 4 6) (A3 (A5 (A1 (mv_ (as_ (A0 (E5 2 3 4 5 6) ?_)))))))
 refine F9 (.range 8) (zp 0 [0, 0, 1, 0, 0, 1, 0, 0, 2]) kR kR fun hs => ?_
 refine fm_ hs ?_
 refine C2 hs rfl (qi_ 4 94 5 1 4) rfl ?_
 refine G4 hs rfl ql_ rfl ?_
 refine fm_ hs ?_
 refine C2 hs rfl (qi_ 4 94 5 1 4) rfl ?_
 refine G4 hs rfl ql_ rfl ?_
 refine C2 hs rfl (F1 18446744073709551616 rfl rfl rfl rfl rfl rfl) rfl ?_
 refine C2 hs rfl (qi_ 4 94 5 1 4) rfl ?_
 refine F5 rfl rfl rfl (D5 rfl rfl rfl kR SetC.set UpC.upd ?_)
 refine Q9 (nb (nx (D6 2 3 4 6) (A8 ?_)))
 refine A2 (C8 (5 : Int) rfl rfl (E2 (by decide) (by decide) (by decide))) rfl ?_
 refine mv_ (C1 ?_)
 refine un (D6 2 3 4 6) ?_
 refine G5 ?_
 refine A1 ?_
 refine A2 (F0 false rfl rfl (ltF (by decide))) rfl ?_
 refine A0 (E5 2 3 4 6 7) (A3 ?_)
 refine D0 rfl ?_
 refine D2 (te (ue (be rfl (nx (D3 2 4) (A1 ?_)))))
 refine A2 (qw_ 5) rfl ?_
 refine C6 (aS rfl a0) kR (T5 _ _ _ _ _ (by omega) (by omega) (by omega) (by omega) (by omega) _) rfl ?_
 rintro r3 M3 J3 ⟨rfl, rfl, a3, b3, c3, d3, e3, rfl, ha3, hb3, hc3, hd3, hv3, he3⟩
 refine A4 rfl (A9 rfl rfl Cel.cel kR ln5 al5 UpC.upd ?_)
 refine A0 (D7 4) (B4 ?_)
 refine ⟨_, [], [], A3U rfl rfl kR At.mem (by rfl), List.nil_sublist _, by simp, rfl, rfl, a3, b3, c3, d3, e3, rfl, by omega, by omega, by omega, by omega, by omega, ?_⟩
 rw [L4 hv3, B7C ha hb hc hd he ha2 hb2 hc2 hd2 he2, Nat.add_mod]
theorem B0k (v u : Value) (x y : Nat) (hx : Fe v x) (hy : Fe u y) (A : Mem) : FnX Tryz.prog 102 [v, u] [] A fun r M J => M = [] ∧ J = [] ∧ Fe r ((x + p25 - y) % p25) := by
 obtain ⟨a, b, c, d, e, rfl, ha, hb, hc, hd, he, rfl⟩ := hx
 obtain ⟨a2, b2, c2, d2, e2, rfl, ha2, hb2, hc2, hd2, he2, rfl⟩ := hy
 refine FnX.enter (N := 30) Tryz.func102 rfl rfl rfl fun w => ?_
 refine B0 (D3 0 1) (A1 ?_)
 refine A4 rfl (bx_ fun b2 => ?_)
 refine A4 rfl (bx_ fun b3 => ?_)
 refine A4 rfl (C4 (cs := [E3, E3, E3, E3, E3]) kR rfl fun b4 => ?_)
 refine A0 (D4 2 3 4) (A1 ?_)
 refine A2 (qw_ 5) rfl ?_
 refine C6 (aS rfl a0) kR (T5 _ _ _ _ _ (by omega) (by omega) (by omega) (by omega) (by omega) _) rfl ?_
 rintro r3 M3 J3 ⟨rfl, rfl, a3, b3, c3, d3, e3, rfl, ha3, hb3, hc3, hd3, hv3, he3⟩
 refine A4 rfl (A9 rfl rfl Cel.cel kR ln5 al5 UpC.upd ?_)
 refine A0 (D4 2 3 4) (A1 ?_)
 refine A2 (G1 (place := fun i => some (i * 1, 1)) (z := [E3, E3, E3, E3, E3]) (fun _ => by kernel_rfl) (eS rfl (eS rfl (eS rfl (eS rfl (eS rfl e0))))) (bdS 0 1 rfl (by rfl) (bdS 1 1 rfl (by rfl) (bdS 2 1 rfl (by rfl) (bdS 3 1 rfl (by rfl) (bdS 4 1 rfl (by rfl) bd0)))))) rfl ?_
 refine A4 rfl (C4 (cs := [E3, E3, E3, E3, E3]) kR rfl fun b5 => ?_)
 refine A4 rfl (A9 rfl rfl Cel.cel kR ln5 al5 UpC.upd ?_)
 refine A0 (D6 2 3 4 5) (A3 (A1 (mv_ (A0 (E5 2 3 4 5 10) (A5 ?_)))))
 refine Y6 6 ?_
 refine G5 ?_
 refine A1 ?_
 refine A2 (F0 true rfl rfl (ltT (by decide))) rfl ?_
 refine A0 (H9 2 3 4 5 10 11) (A3 ?_)
 refine D1 rfl ?_
 refine A6 (nx (E5 2 3 4 5 10) (A3 (A5 (A1 (mv_ (as_ (A0 (H9 2 3 4 5 6 10) ?_)))))))
 refine F9 (.range 13) (zp 0 [0, 0, 1, 0, 0, 1, 0, 0, 0, 1, 0, 0, 0, 2]) kR kR fun hs => ?_
 refine fm_ hs ?_
 refine C2 hs rfl (qi_ 0 94 5 1 0) rfl ?_
 refine G4 hs rfl ql_ rfl ?_
 refine fm_ hs ?_
 refine C2 hs rfl (qi_ 0 94 5 1 0) rfl ?_
 refine G4 hs rfl ql_ rfl ?_
 refine C2 hs rfl (L9 18446744073709551616 (a := 2) rfl rfl rfl rfl rfl rfl) rfl ?_
 refine fm_ hs ?_
 refine C2 hs rfl (qi_ 0 94 5 1 0) rfl ?_
 refine G4 hs rfl ql_ rfl ?_
 refine C2 hs rfl (A29 18446744073709551616 rfl rfl rfl rfl rfl rfl (by omega)) rfl ?_
 refine C2 hs rfl (F1 18446744073709551616 rfl rfl rfl rfl rfl rfl) rfl ?_
 refine C2 hs rfl (qi_ 0 94 5 1 0) rfl ?_
 refine F5 rfl rfl rfl (D5 rfl rfl rfl kR SetC.set UpC.upd ?_)
 refine Q9 (nb (nx (E5 2 3 4 5 10) (A8 ?_)))
 refine A2 (C8 (1 : Int) rfl rfl (E2 (by decide) (by decide) (by decide))) rfl ?_
 refine mv_ (C1 ?_)
 refine un (E5 2 3 4 5 10) ?_
 refine G5 ?_
 refine A1 ?_
 refine A2 (F0 true rfl rfl (ltT (by decide))) rfl ?_
 refine A0 (H9 2 3 4 5 10 11) (A3 ?_)
 refine D1 rfl ?_
 refine A6 (nx (E5 2 3 4 5 10) (A3 (A5 (A1 (mv_ (as_ (A0 (H9 2 3 4 5 6 10) ?_)))))))
 refine F9 (.range 13) (zp 0 [0, 0, 1, 0, 0, 1, 0, 0, 0, 1, 0, 0, 0, 2]) kR kR fun hs => ?_
 refine fm_ hs ?_
 refine C2 hs rfl (qi_ 1 94 5 1 1) rfl ?_
 refine G4 hs rfl ql_ rfl ?_
 refine fm_ hs ?_
 refine C2 hs rfl (qi_ 1 94 5 1 1) rfl ?_
 refine G4 hs rfl ql_ rfl ?_
 refine C2 hs rfl (L9 18446744073709551616 (a := 2) rfl rfl rfl rfl rfl rfl) rfl ?_
 refine fm_ hs ?_
 refine C2 hs rfl (qi_ 1 94 5 1 1) rfl ?_
 refine G4 hs rfl ql_ rfl ?_
 refine C2 hs rfl (A29 18446744073709551616 rfl rfl rfl rfl rfl rfl (by omega)) rfl ?_
 refine C2 hs rfl (F1 18446744073709551616 rfl rfl rfl rfl rfl rfl) rfl ?_
 refine C2 hs rfl (qi_ 1 94 5 1 1) rfl ?_
 refine F5 rfl rfl rfl (D5 rfl rfl rfl kR SetC.set UpC.upd ?_)
 refine Q9 (nb (nx (E5 2 3 4 5 10) (A8 ?_)))
 refine A2 (C8 (2 : Int) rfl rfl (E2 (by decide) (by decide) (by decide))) rfl ?_
 refine mv_ (C1 ?_)
 refine un (E5 2 3 4 5 10) ?_
 refine G5 ?_
 refine A1 ?_
 refine A2 (F0 true rfl rfl (ltT (by decide))) rfl ?_
 refine A0 (H9 2 3 4 5 10 11) (A3 ?_)
 refine D1 rfl ?_
 refine A6 (nx (E5 2 3 4 5 10) (A3 (A5 (A1 (mv_ (as_ (A0 (H9 2 3 4 5 6 10) ?_)))))))
 refine F9 (.range 13) (zp 0 [0, 0, 1, 0, 0, 1, 0, 0, 0, 1, 0, 0, 0, 2]) kR kR fun hs => ?_
 refine fm_ hs ?_
 refine C2 hs rfl (qi_ 2 94 5 1 2) rfl ?_
 refine G4 hs rfl ql_ rfl ?_
 refine fm_ hs ?_
 refine C2 hs rfl (qi_ 2 94 5 1 2) rfl ?_
 refine G4 hs rfl ql_ rfl ?_
 refine C2 hs rfl (L9 18446744073709551616 (a := 2) rfl rfl rfl rfl rfl rfl) rfl ?_
 refine fm_ hs ?_
 refine C2 hs rfl (qi_ 2 94 5 1 2) rfl ?_
 refine G4 hs rfl ql_ rfl ?_
 refine C2 hs rfl (A29 18446744073709551616 rfl rfl rfl rfl rfl rfl (by omega)) rfl ?_
 refine C2 hs rfl (F1 18446744073709551616 rfl rfl rfl rfl rfl rfl) rfl ?_
 refine C2 hs rfl (qi_ 2 94 5 1 2) rfl ?_
 refine F5 rfl rfl rfl (D5 rfl rfl rfl kR SetC.set UpC.upd ?_)
 refine Q9 (nb (nx (E5 2 3 4 5 10) (A8 ?_)))
 refine A2 (C8 (3 : Int) rfl rfl (E2 (by decide) (by decide) (by decide))) rfl ?_
 refine mv_ (C1 ?_)
 refine un (E5 2 3 4 5 10) ?_
 refine G5 ?_
 refine A1 ?_
 refine A2 (F0 true rfl rfl (ltT (by decide))) rfl ?_
 refine A0 (H9 2 3 4 5 10 11) (A3 ?_)
 refine D1 rfl ?_
 refine A6 (nx (E5 2 3 4 5 10) (A3 (A5 (A1 (mv_ (as_ (A0 (H9 2 3 4 5 6 10) ?_)))))))
 refine F9 (.range 13) (zp 0 [0, 0, 1, 0, 0, 1, 0, 0, 0, 1, 0, 0, 0, 2]) kR kR fun hs => ?_
 refine fm_ hs ?_
 refine C2 hs rfl (qi_ 3 94 5 1 3) rfl ?_
 refine G4 hs rfl ql_ rfl ?_
 refine fm_ hs ?_
 refine C2 hs rfl (qi_ 3 94 5 1 3) rfl ?_
 refine G4 hs rfl ql_ rfl ?_
 refine C2 hs rfl (L9 18446744073709551616 (a := 2) rfl rfl rfl rfl rfl rfl) rfl ?_
 refine fm_ hs ?_
 refine C2 hs rfl (qi_ 3 94 5 1 3) rfl ?_
 refine G4 hs rfl ql_ rfl ?_
 refine C2 hs rfl (A29 18446744073709551616 rfl rfl rfl rfl rfl rfl (by omega)) rfl ?_
 refine C2 hs rfl (F1 18446744073709551616 rfl rfl rfl rfl rfl rfl) rfl ?_
 refine C2 hs rfl (qi_ 3 94 5 1 3) rfl ?_
 refine F5 rfl rfl rfl (D5 rfl rfl rfl kR SetC.set UpC.upd ?_)
 refine Q9 (nb (nx (E5 2 3 4 5 10) (A8 ?_)))
 refine A2 (C8 (4 : Int) rfl rfl (E2 (by decide) (by decide) (by decide))) rfl ?_
 refine mv_ (C1 ?_)
 refine un (E5 2 3 4 5 10) ?_
 refine G5 ?_
 refine A1 ?_
 refine A2 (F0 true rfl rfl (ltT (by decide))) rfl ?_
 refine A0 (H9 2 3 4 5 10 11) (A3 ?_)
 refine D1 rfl ?_
 refine A6 (nx (E5 2 3 4 5 10) (A3 (A5 (A1 (mv_ (as_ (A0 (H9 2 3 4 5 6 10) ?_)))))))
 refine F9 (.range 13) (zp 0 [0, 0, 1, 0, 0, 1, 0, 0, 0, 1, 0, 0, 0, 2]) kR kR fun hs => ?_
 refine fm_ hs ?_
 refine C2 hs rfl (qi_ 4 94 5 1 4) rfl ?_
 refine G4 hs rfl ql_ rfl ?_
 refine fm_ hs ?_
 refine C2 hs rfl (qi_ 4 94 5 1 4) rfl ?_
 refine G4 hs rfl ql_ rfl ?_
 refine C2 hs rfl (L9 18446744073709551616 (a := 2) rfl rfl rfl rfl rfl rfl) rfl ?_
 refine fm_ hs ?_
 refine C2 hs rfl (qi_ 4 94 5 1 4) rfl ?_
 refine G4 hs rfl ql_ rfl ?_
 refine C2 hs rfl (A29 18446744073709551616 rfl rfl rfl rfl rfl rfl (by omega)) rfl ?_
 refine C2 hs rfl (F1 18446744073709551616 rfl rfl rfl rfl rfl rfl) rfl ?_
 refine C2 hs rfl (qi_ 4 94 5 1 4) rfl ?_
 refine F5 rfl rfl rfl (D5 rfl rfl rfl kR SetC.set UpC.upd ?_)
 refine Q9 (nb (nx (E5 2 3 4 5 10) (A8 ?_)))
 refine A2 (C8 (5 : Int) rfl rfl (E2 (by decide) (by decide) (by decide))) rfl ?_
 refine mv_ (C1 ?_)
 refine un (E5 2 3 4 5 10) ?_
 refine G5 ?_
 refine A1 ?_
 refine A2 (F0 false rfl rfl (ltF (by decide))) rfl ?_
 refine A0 (H9 2 3 4 5 10 11) (A3 ?_)
 refine D0 rfl ?_
 refine D2 (te (ue (be rfl (nx (D3 2 4) ?_))))
 have q0 := A3q (t := 9007199254740916) (b := a3) ha (by decide) (by omega)
 have q1 := A3q (t := 9007199254740988) (b := b3) hb (by decide) (by omega)
 have q2 := A3q (t := 9007199254740988) (b := c3) hc (by decide) (by omega)
 have q3 := A3q (t := 9007199254740988) (b := d3) hd (by decide) (by omega)
 have q4 := A3q (t := 9007199254740988) (b := e3) he (by decide) (by omega)
 refine A1 ?_
 refine A2 (qw_ 5) rfl ?_
 refine C6 (aS rfl a0) kR (T5 _ _ _ _ _ (q0 ▸ A10 ha (by decide) (by omega)) (q1 ▸ A10 hb (by decide) (by omega)) (q2 ▸ A10 hc (by decide) (by omega)) (q3 ▸ A10 hd (by decide) (by omega)) (q4 ▸ A10 he (by decide) (by omega)) _) rfl ?_
 rintro r4 M4 J4 ⟨rfl, rfl, a4, b4, c4, d4, e4, rfl, ha4, hb4, hc4, hd4, hv4, he4⟩
 refine C6 (aS rfl a0) kR (T5 _ _ _ _ _ (by omega) (by omega) (by omega) (by omega) (by omega) _) rfl ?_
 rintro r5 M5 J5 ⟨rfl, rfl, a5, b5, c5, d5, e5, rfl, ha5, hb5, hc5, hd5, hv5, he5⟩
 refine A4 rfl (A9 rfl rfl Cel.cel kR ln5 al5 UpC.upd ?_)
 refine A0 (D7 4) (B4 ?_)
 refine ⟨_, [], [], A3U rfl rfl kR At.mem (by rfl), List.nil_sublist _, by simp, rfl, rfl, a5, b5, c5, d5, e5, rfl, by omega, by omega, by omega, by omega, by omega, ?_⟩
 rw [L4 hv5, L4 hv4, ← L4 hv3]
 refine B5E ?_
 rw [← B7D (a := a) (b := b) (c := c) (d := d) (e := e) (a2 := a3) (b2 := b3) (c2 := c3) (d2 := d3) (e2 := e3) (by omega) (by omega) (by omega) (by omega) (by omega), ← q0, ← q1, ← q2, ← q3, ← q4]
abbrev wd (hi lo : Nat) : Value := .agg #[.int .u64 (hi : Int), .int .u64 (lo : Int)]
theorem A8z (x y : Nat) (hx : x < 18446744073709551616) (hy : y < 18446744073709551616) (A : Mem) : FnV Tryz.prog 121 [.int .u64 (x : Int), .int .u64 (y : Int)] A (.tuple #[.int .u64 ((x * y / 18446744073709551616 : Nat) : Int), .int .u64 ((x * y % 18446744073709551616 : Nat) : Int)]) := by
 refine FnX.enter (N := 51) Tryz.func121 rfl rfl rfl fun w => ?_
 refine B0 (D3 0 1) (A1 (as_ (as_ (A0 (D3 0 1) (A1 (mv_ ?_))))))
 refine A2 (N1 32 4294967296 rfl rfl rfl rfl rfl (by show _ < 18446744073709551616; first | assumption | exact Nat.mod_lt _ (by decide) | omega) (by decide)) rfl ?_
 refine as_ (A0 (D4 0 1 6) (A1 (mv_ ?_)))
 refine A2 (N0 32 4294967296 rfl rfl rfl rfl (by decide)) rfl ?_
 refine as_ (A0 (D6 0 1 6 7) (A1 (mv_ ?_)))
 refine A2 (N1 32 4294967296 rfl rfl rfl rfl rfl (by show _ < 18446744073709551616; first | assumption | exact Nat.mod_lt _ (by decide) | omega) (by decide)) rfl ?_
 refine as_ (A0 (E5 0 1 6 7 8) (A1 (mv_ ?_)))
 refine A2 (N0 32 4294967296 rfl rfl rfl rfl (by decide)) rfl ?_
 refine as_ (A0 (H9 0 1 6 7 8 9) (A1 (mv_ (mv_ ?_))))
 refine A2 (L9 18446744073709551616 rfl rfl rfl rfl rfl rfl) rfl ?_
 refine as_ (A0 (R9 0 1 6 7 8 9 10) (A1 (mv_ (mv_ ?_))))
 refine A2 (L9 18446744073709551616 rfl rfl rfl rfl rfl rfl) rfl ?_
 refine mv_ ?_
 refine A2 (N0 32 4294967296 rfl rfl rfl rfl (by decide)) rfl ?_
 refine A2 (F1 18446744073709551616 rfl rfl rfl rfl rfl rfl) rfl ?_
 refine as_ (A0 (H9 0 1 6 7 9 11) (A1 (mv_ ?_)))
 refine A2 (N1 32 4294967296 rfl rfl rfl rfl rfl (by show _ < 18446744073709551616; first | assumption | exact Nat.mod_lt _ (by decide) | omega) (by decide)) rfl ?_
 refine as_ (A0 (R9 0 1 6 7 9 11 12) (A1 (mv_ ?_)))
 refine A2 (N0 32 4294967296 rfl rfl rfl rfl (by decide)) rfl ?_
 refine as_ (A0 (R9 0 1 6 7 9 12 13) (A1 (mv_ (mv_ (mv_ ?_)))))
 refine A2 (L9 18446744073709551616 rfl rfl rfl rfl rfl rfl) rfl ?_
 refine A2 (F1 18446744073709551616 rfl rfl rfl rfl rfl rfl) rfl ?_
 refine as_ (A0 (H9 0 1 7 9 12 13) (A1 (mv_ (mv_ ?_))))
 refine A2 (L9 18446744073709551616 rfl rfl rfl rfl rfl rfl) rfl ?_
 refine mv_ ?_
 refine A2 (F1 18446744073709551616 rfl rfl rfl rfl rfl rfl) rfl ?_
 refine mv_ ?_
 refine A2 (N0 32 4294967296 rfl rfl rfl rfl (by decide)) rfl ?_
 refine A2 (F1 18446744073709551616 rfl rfl rfl rfl rfl rfl) rfl ?_
 refine as_ (A0 (D4 0 1 4) (A1 (mv_ (mv_ ?_))))
 refine A2 (L9 18446744073709551616 rfl rfl rfl rfl rfl rfl) rfl ?_
 refine as_ (A0 (D3 4 5) (B4 ?_))
 refine ⟨_, [], [], A19 rfl rfl rfl, List.nil_sublist _, by simp, ?_, rfl, rfl⟩
 rw [B0d hx hy rfl rfl rfl rfl rfl rfl rfl]
theorem A3s (hi lo a b : Nat) (h1 : hi < 18446744073709551616) (h2 : lo < 18446744073709551616) (h3 : a < 18446744073709551616) (h4 : b < 18446744073709551616) (A : Mem) :
  FnX Tryz.prog 105 [wd hi lo, .int .u64 (a : Int), .int .u64 (b : Int)] [] A fun r M J => M = [] ∧ J = [] ∧ ∃ hi' lo', r = wd hi' lo' ∧ hi' < 18446744073709551616 ∧ lo' < 18446744073709551616 ∧ hi' * 18446744073709551616 + lo' = (hi * 18446744073709551616 + lo + a * b) % 340282366920938463463374607431768211456 := by
 refine FnX.enter (N := 34) Tryz.func105 rfl rfl rfl fun w => ?_
 refine B0 (D4 0 1 2) (A1 ?_)
 refine A4 rfl (bx_ fun b3 => ?_)
 refine A4 rfl (C4 (cs := [.int .u64 0, .int .u64 0]) kR rfl fun b6 => ?_)
 refine A0 (D6 1 2 3 6) (A1 (mv_ (mv_ ?_)))
 refine F3 (aS rfl (aS rfl a0)) kR (A8z a b h3 h4 _) rfl ?_
 have hab : a * b ≤ 18446744073709551615 * 18446744073709551615 := Nat.mul_le_mul (by omega) (by omega)
 generalize a * b = z at *
 refine mv_ ?_
 refine A2 (A1l rfl) rfl ?_
 refine A2 (A1g rfl) rfl ?_
 refine as_ (as_ (A0 (D6 3 6 7 8) (A1 ?_)))
 refine A2 (qf_ 1 1) rfl ?_
 refine A2 ql_ rfl ?_
 refine mv_ ?_
 refine A2 (A5H Tryz.func122 kR kR kR kR rfl rfl rfl (c := 0) (by omega) rfl rfl rfl) rfl ?_
 refine mv_ ?_
 refine A2 (A1l rfl) rfl ?_
 refine A2 (A1g rfl) rfl ?_
 refine as_ (as_ (A0 (E5 3 6 7 8 9) (A1 ?_)))
 refine A2 (qf_ 0 0) rfl ?_
 refine A2 ql_ rfl ?_
 refine mv_ (mv_ ?_)
 refine A2 (A5H Tryz.func122 kR kR kR kR rfl rfl rfl (by omega) rfl rfl rfl) rfl ?_
 refine mv_ ?_
 refine A2 (A1l rfl) rfl ?_
 refine A2 (A1g rfl) rfl ?_
 refine as_ (A0 (D4 6 7 8) (A1 (mv_ (mv_ ?_))))
 refine A2 (G1 (place := fun x => #[(0, 1), (1, 1)][x]?) (z := [.int .u64 0, .int .u64 0]) (fun _ => by kernel_rfl) (eS rfl (eS rfl e0)) (bdS 0 1 rfl (by rfl) (bdS 1 1 rfl (by rfl) bd0))) rfl ?_
 refine A4 rfl (A9 rfl rfl Cel.cel kR ln2 al2 UpC.upd ?_)
 refine A0 (D7 6) (B4 ?_)
 refine ⟨_, [], [], A3U rfl rfl kR At.mem (by rfl), List.nil_sublist _, by simp, rfl, rfl, _, _, rfl, Nat.mod_lt _ (by decide), Nat.mod_lt _ (by decide), ?_⟩
 omega
theorem A09 (hi lo a : Nat) (h1 : hi < 18446744073709551616) (h2 : lo < 18446744073709551616) (h3 : a < 18446744073709551616) (A : Mem) :
  FnX Tryz.prog 106 [wd hi lo, .int .u64 (a : Int)] [] A fun r M J => M = [] ∧ J = [] ∧ ∃ hi' lo', r = wd hi' lo' ∧ hi' < 18446744073709551616 ∧ lo' < 18446744073709551616 ∧ hi' * 18446744073709551616 + lo' = (hi * 18446744073709551616 + lo + a) % 340282366920938463463374607431768211456 := by
 refine FnX.enter (N := 8) Tryz.func106 rfl rfl rfl fun w => ?_
 refine B0 (D3 0 1) (A1 ?_)
 refine A4 rfl (bx_ fun b2 => ?_)
 refine A4 rfl (C4 (cs := [.int .u64 0, .int .u64 0]) kR rfl fun b4 => ?_)
 refine A0 (D4 1 2 4) (A1 ?_)
 refine A2 (qw_ 2) rfl ?_
 refine mv_ ?_
 refine C6 (aS rfl (aS rfl (aS rfl a0))) kR (A3s hi lo a 1 h1 h2 h3 (by decide) _) rfl ?_
 rintro r M1 J1 ⟨rfl, rfl, hi', lo', rfl, g1, g2, g3⟩
 refine A4 rfl (A9 rfl rfl Cel.cel kR ln2 al2 UpC.upd ?_)
 refine A0 (D7 4) (B4 ?_)
 refine ⟨_, [], [], A3U rfl rfl kR At.mem (by rfl), List.nil_sublist _, by simp, rfl, rfl, hi', lo', rfl, g1, g2, ?_⟩
 rw [g3, Nat.mul_one]
theorem A0l (hi lo : Nat) (h1 : hi < 18446744073709551616) (h2 : lo < 18446744073709551616) (A : Mem) : FnV Tryz.prog 107 [wd hi lo] A (.int .u64 (((hi * 18446744073709551616 + lo) / 2251799813685248 % 18446744073709551616 : Nat) : Int)) := by
 refine FnX.enter (N := 10) Tryz.func107 rfl rfl rfl fun w => ?_
 refine B0 (D7 0) (A1 ?_)
 refine A4 rfl (bx_ fun b1 => ?_)
 refine as_ (A0 (D7 1) (A1 ?_))
 refine A2 (qf_ 0 0) rfl ?_
 refine A2 ql_ rfl ?_
 refine A2 (B7i 13 8192 18446744073709551616 rfl rfl rfl rfl rfl rfl (by decide)) rfl ?_
 refine A2 (qf_ 1 1) rfl ?_
 refine A2 ql_ rfl ?_
 refine A2 (N0 51 2251799813685248 rfl rfl rfl rfl (by decide)) rfl ?_
 refine A2 (B3T rfl rfl rfl (by show _ < 18446744073709551616; omega) (by show _ < 18446744073709551616; omega)) rfl ?_
 refine as_ (A0 (D7 2) (B4 ?_))
 refine ⟨_, [], [], I7 rfl rfl, List.nil_sublist _, by simp, ?_, rfl, rfl⟩
 rw [or13 h1 h2]

end Go.Proofs.YtlilcmjbaknafaaGreatDoor
