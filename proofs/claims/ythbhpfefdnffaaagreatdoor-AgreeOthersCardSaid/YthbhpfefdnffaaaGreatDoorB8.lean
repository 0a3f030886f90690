/- Part 8 of the texts of this claim, one behind the other. -/
import Derived.Test.YthbhpfefdnffaaaGreatDoorB7
import Derived.Test.YthbhpfefdnffaaaGreatDoorRows
set_option linter.unusedVariables false
set_option linter.unusedSimpArgs false
set_option maxRecDepth 100000
namespace Go.Proofs.YthbhpfefdnffaaaGreatDoor
open Go.Px
structure Tok (ts : List Tm) : Prop where
  tmo : ∀ t ∈ ts, Tmo t
  nd : ts.Nodup
theorem Tab.tok {bt bm : Nat} {ts : List Tm} {M : Mem} (h : Tab bt bm ts M) : Tok ts := by
  obtain ⟨_, _, _, _, _, _, _, _, _, _, _, h1, h2⟩ := h
  exact ⟨h1, h2⟩
theorem Tok.nil : Tok [] := ⟨(fun t h => by cases h), List.nodup_nil⟩
theorem A6b {ts : List Tm} {t : Tm} (ht : Tmo t) (h : Tok ts) : ∃ l, add ts t = ts ++ l ∧ (add ts t).length ≤ ts.length + 1 ∧ (add ts t)[at_ ts t]? = some t ∧ Tok (add ts t) := by
  cases hp : pos ts t with
  | some j =>
    obtain ⟨h1, h2⟩ := A41 hp
    exact ⟨[], by rw [h1, List.append_nil], A1r, by rw [h1, h2]; exact A4Y ht h.tmo hp, by rw [h1]; exact h⟩
  | none =>
    obtain ⟨h1, h2⟩ := A8a hp
    refine ⟨[t], h1, A1r, by rw [h1, h2]; simp, ?_⟩
    rw [h1]
    refine ⟨fun u hu => ?_, ?_⟩
    · rcases List.mem_append.1 hu with hu | hu
      · exact h.tmo u hu
      · rw [List.mem_singleton.1 hu]; exact ht
    · rw [List.nodup_append]
      refine ⟨h.nd, by simp, fun x hx y hy e => (A4Z ht h.tmo).1 hp ?_⟩
      rw [List.mem_singleton.1 hy] at e
      exact e ▸ hx
theorem A4k {ts l : List Tm} {i : Nat} {t : Tm} (h : ts[i]? = some t) : (ts ++ l)[i]? = some t := by
  rw [List.getElem?_append_left (List.getElem?_eq_some_iff.1 h).1]; exact h
theorem B2Z {ts : List Tm} {t : Tm} {i : Nat} (h : Tok ts) (ht : ts[i]? = some t) : add ts t = ts ∧ at_ ts t = i := A41 (B8m h.tmo h.nd ht)
theorem A43 {i j : Nat} (hi : i < 18446744073709551616) (hj : j < 18446744073709551616) (h : bts ((i : Nat) : Int) = bts ((j : Nat) : Int)) : i = j := by
  have h1 := A2d ((i : Nat) : Int) 18446744073709551616
  have h2 := A2d ((j : Nat) : Int) 18446744073709551616
  have ui : u64 ((i : Nat) : Int) = i := by unfold u64; omega
  have uj : u64 ((j : Nat) : Int) = j := by unfold u64; omega
  rw [ui, if_pos hi] at h1
  rw [uj, if_pos hj] at h2
  rw [h, h2] at h1
  exact (Option.some.inj h1).symm
def B6p (ts : List Tm) (w : List Nat) : Prop := ∃ i, i < ts.length ∧ w = bts ((i : Nat) : Int)
theorem B6p.ext {ts l : List Tm} {w : List Nat} (h : B6p ts w) : B6p (ts ++ l) w := by
  obtain ⟨i, hi, e⟩ := h
  exact ⟨i, by rw [List.length_append]; omega, e⟩
theorem A44 {ts : List Tm} {i : Nat} (hi : i < ts.length) (hl : ts.length ≤ 1048576) : rdT ts (bts ((i : Nat) : Int)) = ts ∧ rdI ts (bts ((i : Nat) : Int)) = i := by
  refine U7 ?_
  rw [A2d, show u64 ((i : Nat) : Int) = i by unfold u64; omega, if_pos hi]
theorem A6c (ts : List Tm) (ofs : List Int) (lb : List Nat) (n : Nat) : ∃ l, (N9 ts ofs lb (n + 1)).1 = (N9 ts ofs lb n).1 ++ l := by
  have e : N9 ts ofs lb (n + 1) = B0x ofs lb (N9 ts ofs lb n) n := Q7 n
  rw [e]
  show ∃ l, add _ _ = _ ++ l
  unfold add
  split
  · exact ⟨[], by simp⟩
  · exact ⟨_, rfl⟩
theorem A6d {ts : List Tm} {ofs : List Int} {lb : List Nat} (h : Tok ts) (hd : ∀ i, i < 100 → Tmo (drv ofs lb i)) {n : Nat} (hn : n ≤ 100) : Tok (N9 ts ofs lb n).1 := by
  induction n with
  | zero => exact h
  | succ n ih =>
    have e : N9 ts ofs lb (n + 1) = B0x ofs lb (N9 ts ofs lb n) n := Q7 n
    rw [e]
    obtain ⟨_, _, _, _, h2⟩ := A6b (hd n (by omega)) (ih (by omega))
    exact h2
theorem A7b {ts : List Tm} {ofs : List Int} {lb : List Nat} (h : Tok ts) (hd : ∀ i, i < 100 → Tmo (drv ofs lb i)) {n : Nat} (hn : n ≤ 100) {ts' l : List Tm} (e : ts' = (N9 ts ofs lb n).1 ++ l) (h' : Tok ts') : N9 ts' ofs lb n = (ts', (N9 ts ofs lb n).2) := by
  induction n generalizing l with
  | zero => rfl
  | succ n ih =>
    obtain ⟨l2, e2⟩ := A6c ts ofs lb n
    have ih := ih (by omega) (l := l2 ++ l) (by rw [e, e2, List.append_assoc])
    have e3 : N9 ts ofs lb (n + 1) = B0x ofs lb (N9 ts ofs lb n) n := Q7 n
    have e4 : N9 ts' ofs lb (n + 1) = B0x ofs lb (N9 ts' ofs lb n) n := Q7 n
    obtain ⟨l3, g1, g2, g3, g4⟩ := A6b (hd n (by omega)) (A6d h hd (show n ≤ 100 by omega))
    have g5 : ts'[at_ (N9 ts ofs lb n).1 (drv ofs lb n)]? = some (drv ofs lb n) := by
      rw [e, e3]
      exact A4k g3
    obtain ⟨a1, a2⟩ := B2Z h' g5
    rw [e4, ih, e3]
    show (add ts' (drv ofs lb n), _ ++ [bts ((at_ ts' (drv ofs lb n) : Nat) : Int)]) = _
    rw [a1, a2]
    rfl
def Kok (s : Ps) (w : List Nat) : Prop := s.real = false → B6p s.ts w
structure Pext (s s' : Ps) : Prop where
  real : s'.real = s.real
  ts : ∃ l, s'.ts = s.ts ++ l
theorem Pext.refl (s : Ps) : Pext s s := ⟨rfl, [], by simp⟩
theorem Pext.trans {a b c : Ps} (h1 : Pext a b) (h2 : Pext b c) : Pext a c := by
  obtain ⟨l1, e1⟩ := h1.ts
  obtain ⟨l2, e2⟩ := h2.ts
  exact ⟨h2.real.trans h1.real, l1 ++ l2, by rw [e2, e1, List.append_assoc]⟩
theorem Kok.ext {s s' : Ps} {w : List Nat} (h : Kok s w) (he : Pext s s') : Kok s' w := fun hr => by
  obtain ⟨l, e⟩ := he.ts
  rw [e]
  exact (h (by rw [← he.real]; exact hr)).ext
theorem A6e (s : Ps) : Pext s (D3 s) := by
  unfold D3
  split
  · exact ⟨rfl, [], by simp⟩
  · refine ⟨rfl, ?_⟩
    show ∃ l, add _ _ = _ ++ l
    unfold add
    split
    · exact ⟨[], by simp⟩
    · exact ⟨_, rfl⟩
theorem A0j {s : Ps} (h : Tok s.ts) (hn : s.n < 1099511627776) : Kok (D3 s) (D6 s) ∧ (s.real = false → Tok (D3 s).ts) := by
  cases hr : s.real with
  | true => exact ⟨(fun h1 => by rw [(A6e s).real, hr] at h1; cases h1), (fun h => by cases h)⟩
  | false =>
    obtain ⟨l, g1, g2, g3, g4⟩ := A6b (A8c (n := s.n + 1) (by omega)) h
    refine ⟨fun _ => ?_, fun _ => by rw [A2S hr]; exact g4⟩
    rw [A2S hr, A2T hr]
    exact ⟨_, (List.getElem?_eq_some_iff.1 g3).1, rfl⟩
theorem A9d (ws : List (List Nat)) (st : List Tm × List Int) : (ws.foldl Y7 st).1.length ≤ st.1.length + ws.length := by
  induction ws generalizing st with
  | nil => exact Nat.le_refl _
  | cons w ws ih =>
    have h1 := ih (Y7 st w)
    have h2 := T6 (ts := st.1) (ws := w)
    have h3 : (Y7 st w).1.length = (rdT st.1 w).length := rfl
    rw [List.foldl_cons, List.length_cons]; omega
theorem B3a (s : Ps) (key : List Nat) (ws : List (List Nat)) (lb : List Nat) (n : Nat) : (A69 s key ws lb n).ts.length ≤ s.ts.length + 1 + ws.length + n := by
  unfold A69
  split
  · omega
  · have h1 := (A3r (U1 s.ts key ws).1 (U1 s.ts key ws).2 lb n).2
    have h2 := A9d ws (Y7 (s.ts, []) key)
    have h3 := T6 (ts := s.ts) (ws := key)
    have h4 : (Y7 (s.ts, []) key).1.length = (rdT s.ts key).length := rfl
    show (A9c s.ts key ws lb n).1.length ≤ _
    have h5 : (U1 s.ts key ws).1.length ≤ s.ts.length + 1 + ws.length := by
      show (ws.foldl Y7 (Y7 (s.ts, []) key)).1.length ≤ _
      omega
    unfold A9c
    omega
theorem A3s (s : Ps) (key : List Nat) (ws : List (List Nat)) (lb : List Nat) (n : Nat) : (A69 s key ws lb n).real = s.real ∧ (A69 s key ws lb n).n = s.n ∧ (A69 s key ws lb n).seed = s.seed := by
  unfold A69
  split <;> exact ⟨rfl, rfl, rfl⟩

structure PrmT (pb bt bm : Nat) (s : Ps) (M : Mem) : Prop where
  ex : ∃ (sv : Value) (B MT : Mem), M = (pb, blk [.int .u8 (md s.real), sv, .int .i64 ((s.n : Nat) : Int), .pointer (some ⟨bt, 0, none⟩)] 117) :: (B ++ MT) ∧ By B sv s.seed ∧ Tab bt bm s.ts MT
theorem PrmT.p {pb bt bm : Nat} {s : Ps} {M : Mem} (h : PrmT pb bt bm s M) : Prm pb s M := by
  obtain ⟨sv, B, MT, h1, h2, h3⟩ := h.ex
  exact ⟨sv, bt, bm, B, MT, h1, h2, h3⟩
theorem Prm.t {pb : Nat} {s : Ps} {M : Mem} (h : Prm pb s M) : ∃ bt bm, PrmT pb bt bm s M := by
  obtain ⟨sv, bt, bm, B, MT, h1, h2, h3⟩ := h.ex
  exact ⟨bt, bm, sv, B, MT, h1, h2, h3⟩
def A9D (x : Int) : Tm := ⟨3, [x], [], 0⟩
def B0B (s : Ps) (w : List Nat) : Ps := { s with ts := add (rdT s.ts w) (A9D ((rdI s.ts w : Nat) : Int)) }
def B3b (s : Ps) (w : List Nat) : List Nat := bts ((at_ (rdT s.ts w) (A9D ((rdI s.ts w : Nat) : Int)) : Nat) : Int)
def B6q (s : Ps) (w u : List Nat) : Ps := { s with ts := add (rdT (rdT s.ts w) u) (agT (rdT (rdT s.ts w) u) ((rdI s.ts w : Nat) : Int) ((rdI (rdT s.ts w) u : Nat) : Int)) }
def B7S (s : Ps) (w u : List Nat) : List Nat := bts ((at_ (rdT (rdT s.ts w) u) (agT (rdT (rdT s.ts w) u) ((rdI s.ts w : Nat) : Int) ((rdI (rdT s.ts w) u : Nat) : Int)) : Nat) : Int)
theorem B4T {x : Int} (h : i64 x) : Tmo (A9D x) := ⟨show 3 < 256 by decide, show i64 (0 : Int) by unfold i64; omega, fun i hi => by rw [List.mem_singleton.1 hi]; exact h, show 1 ≤ 1048576 by decide, ⟨fun x hx => (List.not_mem_nil hx).elim⟩, show 0 ≤ 1099511627776 by decide⟩
theorem A45 {ts : List Tm} {w : List Nat} (hw : ∀ x ∈ w, x < 256) (hl : w.length ≤ 1099511627776) (hts : ∀ t ∈ ts, Tmo t) (hn : ts.length ≤ 1048576) : i64 ((rdI ts w : Nat) : Int) := by
  have h1 := B4Q hw hl hts
  have h2 : (rdT ts w).length ≤ ts.length + 1 := T6
  unfold i64; omega
theorem A0u (pb bt bm : Nat) (m k : Int) (sv : Value) [hsv : Cel sv [sv]] (ts : List Tm) (v : Value) (w : List Nat) (MT A : Mem) (hT : Tab bt bm ts MT) (hpb : (pb, blk [.int .u8 m, sv, .int .i64 k, .pointer (some ⟨bt, 0, none⟩)] 117) ∈ A) (hn : ts.length ≤ 1048576) (hv : By A v w) {e4 : TypeId} {f4 : Nat × Nat} (h4 : (2, Obj.cells (nums .u64 A0G).toArray e4 f4) ∈ A) : FnX Tryz.prog 56 [.pointer (some ⟨pb, 0, none⟩), v] MT A fun q M J => q = .int .i64 ((rdI ts w : Nat) : Int) ∧ Tab bt bm (rdT ts w) M := by
 haveI := hv.cel
 have hvl := hv.len
 refine FnX.enterZ (N := 11) Tryz.func56 rfl rfl rfl fun w_ => ?_
 refine C4 (D5 0 1) (A3 (as_ (A0 (D5 0 1) (A3 (mv_ ?_)))))
 refine A4 (F5 rfl) rfl ?_
 refine A4 (qf_ 3 3) rfl ?_
 refine A4 ql_ rfl ?_
 refine mv_ ?_
 refine A6 rfl (E0 (Mc := MT) (R := _) (aS rfl (aS rfl a0)) kR PickC.perm (A57 bt bm ts v w MT _ hT hn (hv.rd.mono SubC.sub) hv.lt (by have := hv.len; omega) (SubC.sub _ h4)) rfl ?_)
 rintro v10 M10 J10 ⟨rfl, rfl, hT10⟩
 refine as_ (A0 (D8 4) (C2 ?_))
 exact ⟨_, M10, [], I4 rfl rfl, Fit.none (Fit.last PickC.perm), rfl, hT10⟩
theorem A7c (pb bt bm : Nat) (s : Ps) (hr : s.real = false) (v : Value) (w : List Nat) (MP A : Mem) (hP : PrmT pb bt bm s MP) (hn : s.ts.length < 1048576) (hv : By A v w) (hG : Glb A) : FnX Tryz.prog 17 [.pointer (some ⟨pb, 0, none⟩), v] MP A fun q M J => PrmT pb bt bm (B0B s w) M ∧ By J q (B3b s w) := by
 obtain ⟨sv, B, MT, rfl, hby, hT⟩ := hP.ex
 have hmd : md s.real = 1 := by rw [hr]; rfl
 rw [hmd] at *
 obtain ⟨⟨ge0, gf0, h0⟩, ⟨ge1, gf1, h1⟩, ⟨ge4, gf4, h4⟩⟩ := hG
 haveI := hv.cel
 haveI := hby.cel
 have hvl := hv.len
 refine FnX.enterZ (N := 26) Tryz.func17 rfl rfl rfl fun w_ => ?_
 refine C4 (D5 0 1) (A3 (as_ (A0 (D5 0 1) (A5 (A3 (mv_ ?_))))))
 refine A4 (F0 (e := 117) rfl rfl kR) rfl ?_
 refine A0 (E1 0 1 6) ?_
 refine D4 rfl ?_
 refine A9 (nx (D5 0 1) (A5 (A3 (mv_ ?_))))
 refine A4 (F5 rfl) rfl ?_
 refine A4 (qf_ 0 0) rfl ?_
 refine A4 ql_ rfl ?_
 refine A4 (F9 false rfl rfl (eqF (by decide))) rfl ?_
 refine A0 (E1 0 1 11) ?_
 refine D4 rfl ?_
 refine A9 (nx (D5 0 1) ?_)
 refine H5 (MT) (_) true [0, 1, 2, 3, 4, 5, 6, 7, 8, 11] (zp 0 [0, 0, 0, 1, 0, 0, 2, 2, 0, 2, 2, 0]) kR kR PickC.perm fun hs K n0 hKm hKs hKn => ?_
 refine km_ hs ?_
 refine I0 hs rfl (F5 rfl) rfl ?_
 refine I0 hs rfl (qf_ 3 3) rfl ?_
 refine P0 hs rfl hKs ql_ ?_
 refine km_ hs ?_
 refine km_ hs ?_
 refine K0 _ _ rfl rfl (List.Perm.refl _) hKm fun w0 => (E0 (Mc := MT) (R := _) (aS rfl (aS rfl a0)) kR PickC.perm (A0u pb bt bm 1 _ sv s.ts v w MT _ hT At.mem (by omega) (hv.mono SubC.sub) (SubC.sub _ h4)) rfl ?_)
 rintro v21 M21 J21 ⟨rfl, hT21⟩ hKx
 refine K0 [] _ rfl rfl (List.Perm.refl _) (fun _ h => by cases h) fun w0 => (C6 (e := 3) (sz := 1) (z := [.int .i64 0]) kR (eS rfl e0) (bdS 0 1 rfl (by rfl) bd0) rfl fun b22 => fun _ => ?_)
 refine A1m (M' := (b22, blk [.int .i64 ((rdI s.ts w : Nat) : Int)] 3) :: (M21 ++ ((pb, blk [.int .u8 1, sv, .int .i64 (((s.n : Nat) : Int)), .pointer (some ⟨bt, 0, none⟩)] 117) :: (B ++ [])))) (by simp) ?_
 refine I0 hs rfl (F3 (place := fun x => #[(0, 1), (1, 1), (2, 1), (3, 1)][x]?) (z := [.int .u8 0, .slice none 0 0, .string ByteArray.empty, .int .i64 0]) (fun _ => by kernel_rfl) (eS rfl (eS rfl e0)) (bdS 0 1 rfl (by rfl) (bdS 1 1 rfl (by rfl) bd0))) rfl ?_
 refine N5 rfl rfl rfl (E0 (Mc := M21) (R := _) (aS rfl (aS rfl a0)) kR PickC.perm (T5 bt bm (rdT s.ts w) _ (A9D ((rdI s.ts w : Nat) : Int)) M21 _ hT21 (by have := T6 (ts := s.ts) (ws := w); omega) (Rd.whole (n := 1) At.mem (by rfl)) (B4T (A45 hv.lt (by omega) hT.tok.tmo (by omega))) (SubC.sub _ h4)) rfl ?_)
 rintro v24 M24 J24 ⟨rfl, rfl, hT24⟩
 refine N5 rfl rfl rfl (D7 (aS rfl a0) kR (Y3 _ _) rfl ?_)
 rintro v25 M25 J25 ⟨rfl, h25⟩
 refine I0 hs rfl (H8 rfl) rfl ?_
 refine N6 (D8 4) (C2 ?_)
 exact ⟨_, (pb, blk [.int .u8 1, sv, .int .i64 (((s.n : Nat) : Int)), .pointer (some ⟨bt, 0, none⟩)] 117) :: (B ++ M24), [], I4 rfl rfl, (Fit.none (Fit.pick (B := [_]) PickC.perm (Fit.pick PickC.perm (Fit.last PickC.perm)))), ⟨sv, B, M24, by rw [show md (B0B s w).real = 1 by show md s.real = 1; rw [hr]; rfl]; rfl, hby, hT24⟩, h25.mono SubC.sub⟩
theorem A7d (pb bt bm : Nat) (s : Ps) (hr : s.real = false) (v v2 : Value) (w u : List Nat) (MP A : Mem) (hP : PrmT pb bt bm s MP) (hn : s.ts.length + 1 < 1048576) (hv : By A v w) (hu : By A v2 u) (hG : Glb A) : FnX Tryz.prog 60 [.pointer (some ⟨pb, 0, none⟩), v, v2] MP A fun q M J => PrmT pb bt bm (B6q s w u) M ∧ By J q (B7S s w u) := by
 obtain ⟨sv, B, MT, rfl, hby, hT⟩ := hP.ex
 have hmd : md s.real = 1 := by rw [hr]; rfl
 rw [hmd] at *
 obtain ⟨⟨ge0, gf0, h0⟩, ⟨ge1, gf1, h1⟩, ⟨ge4, gf4, h4⟩⟩ := hG
 haveI := hv.cel
 haveI := hu.cel
 haveI := hby.cel
 have hvl := hv.len
 have hul := hu.len
 refine FnX.enterZ (N := 31) Tryz.func60 rfl rfl rfl fun w_ => ?_
 refine C4 (E1 0 1 2) (A3 (as_ (A0 (E1 0 1 2) (A5 (A3 (mv_ ?_))))))
 refine A4 (F0 (e := 117) rfl rfl kR) rfl ?_
 refine A0 (E7 0 1 2 8) ?_
 refine D4 rfl ?_
 refine A9 (nx (E1 0 1 2) (A5 (A3 (mv_ ?_))))
 refine A4 (F5 rfl) rfl ?_
 refine A4 (qf_ 0 0) rfl ?_
 refine A4 ql_ rfl ?_
 refine A4 (F9 false rfl rfl (eqF (by decide))) rfl ?_
 refine A0 (E7 0 1 2 13) ?_
 refine D4 rfl ?_
 refine A9 (nx (E1 0 1 2) ?_)
 refine H5 (MT) (_) true [0, 1, 2, 3, 4, 5, 6, 7, 8, 9, 12] [(0, 0), (1, 0), (2, 0), (3, 1), (4, 0), (5, 0), (7, 0), (8, 0), (6, 2), (9, 2), (10, 2), (11, 2), (12, 0)] kR kR PickC.perm fun hs K n0 hKm hKs hKn => ?_
 refine km_ hs ?_
 refine I0 hs rfl (F5 rfl) rfl ?_
 refine I0 hs rfl (qf_ 3 3) rfl ?_
 refine P0 hs rfl hKs ql_ ?_
 refine km_ hs ?_
 refine km_ hs ?_
 refine km_ hs ?_
 refine km_ hs ?_
 refine K0 _ _ rfl rfl (List.Perm.refl _) hKm fun w0 => (E0 (Mc := MT) (R := _) (aS rfl (aS rfl a0)) kR PickC.perm (A0u pb bt bm 1 _ sv s.ts v w MT _ hT At.mem (by omega) (hv.mono SubC.sub) (SubC.sub _ h4)) rfl ?_)
 rintro v25 M25 J25 ⟨rfl, hT25⟩ hKx
 refine K0 (M25 ++ []) _ rfl rfl PickC.perm (hKx (hKn rfl)) fun w0 => (E0 (Mc := M25) (R := _) (aS rfl (aS rfl a0)) kR PickC.perm (A0u pb bt bm 1 _ sv (rdT s.ts w) v2 u M25 _ hT25 At.mem (by have := T6 (ts := s.ts) (ws := w); omega) (hu.mono SubC.sub) (SubC.sub _ h4)) rfl ?_)
 rintro v28 M28 J28 ⟨rfl, hT28⟩ hKy
 refine N5 rfl rfl rfl (E0 (Mc := M28) (R := _) (aS rfl (aS rfl (aS rfl a0))) kR PickC.perm (A9b bt bm (rdT (rdT s.ts w) u) _ _ M28 _ hT28 (by have := T6 (ts := s.ts) (ws := w); have := T6 (ts := rdT s.ts w) (ws := u); omega) (A45 hv.lt (by omega) hT.tok.tmo (by omega)) (A45 hu.lt (by omega) hT25.tok.tmo (by have := T6 (ts := s.ts) (ws := w); omega)) (SubC.sub _ h4)) rfl ?_)
 rintro v29 M29 J29 ⟨rfl, rfl, hT29⟩
 refine N5 rfl rfl rfl (D7 (aS rfl a0) kR (Y3 _ _) rfl ?_)
 rintro v30 M30 J30 ⟨rfl, h30⟩
 refine I0 hs rfl (H8 rfl) rfl ?_
 refine N6 (D8 6) (C2 ?_)
 exact ⟨_, (pb, blk [.int .u8 1, sv, .int .i64 (((s.n : Nat) : Int)), .pointer (some ⟨bt, 0, none⟩)] 117) :: (B ++ M29), [], I4 rfl rfl, (Fit.none (Fit.pick (B := [_]) PickC.perm (Fit.pick PickC.perm (Fit.last PickC.perm)))), ⟨sv, B, M29, by rw [show md (B6q s w u).real = 1 by show md s.real = 1; rw [hr]; rfl]; rfl, hby, hT29⟩, h30.mono SubC.sub⟩
theorem A8g (pb : Nat) (s : Ps) (hr : s.real = false) (v : Value) (w : List Nat) (MP A : Mem) (hP : Prm pb s MP) (hn : s.ts.length < 1048576) (hv : By A v w) (hG : Glb A) : FnX Tryz.prog 17 [.pointer (some ⟨pb, 0, none⟩), v] MP A fun q M J => Prm pb (B0B s w) M ∧ By J q (B3b s w) := by
  obtain ⟨bt, bm, h⟩ := hP.t
  exact (A7c pb bt bm s hr v w MP A h hn hv hG).mono fun q M J ⟨h1, h2⟩ => ⟨h1.p, h2⟩
theorem B3c (pb : Nat) (s : Ps) (hr : s.real = false) (v v2 : Value) (w u : List Nat) (MP A : Mem) (hP : Prm pb s MP) (hn : s.ts.length + 1 < 1048576) (hv : By A v w) (hu : By A v2 u) (hG : Glb A) : FnX Tryz.prog 60 [.pointer (some ⟨pb, 0, none⟩), v, v2] MP A fun q M J => Prm pb (B6q s w u) M ∧ By J q (B7S s w u) := by
  obtain ⟨bt, bm, h⟩ := hP.t
  exact (A7d pb bt bm s hr v v2 w u MP A h hn hv hu hG).mono fun q M J ⟨h1, h2⟩ => ⟨h1.p, h2⟩

def selT (x : Int) (a b : List Nat) : Tm := ⟨6, [x], mark a ++ mark b, 0⟩
def A3S (x : Int) (m : List Nat) : Tm := ⟨7, [x], m, 0⟩
def B2g (s : Ps) (w : List Nat) (f : Int → Tm) : Ps := { s with ts := add (rdT s.ts w) (f ((rdI s.ts w : Nat) : Int)) }
def B7T (s : Ps) (w : List Nat) (f : Int → Tm) : List Nat := bts ((at_ (rdT s.ts w) (f ((rdI s.ts w : Nat) : Int)) : Nat) : Int)
theorem B4U {x : Int} (h : i64 x) {m : List Nat} (hm : ∀ y ∈ m, y < 256) (lm : m.length ≤ 16777216) : Tmo (A3S x m) :=
  ⟨show 7 < 256 by decide, show i64 (0 : Int) by unfold i64; omega, fun i hi => by rw [List.mem_singleton.1 hi]; exact h, show 1 ≤ 1048576 by decide, ⟨hm⟩, show m.length ≤ 1099511627776 by omega⟩
theorem B0C (pb bt bm : Nat) (s : Ps) (hr : s.real = false) (v v2 : Value) (w wm : List Nat) (MP A : Mem) (hP : PrmT pb bt bm s MP) (hn : s.ts.length < 1048576) (hv : By A v w) (hm : By A v2 wm) (hG : Glb A) : FnX Tryz.prog 68 [.pointer (some ⟨pb, 0, none⟩), v, v2] MP A fun q M J => PrmT pb bt bm (B2g s w fun x => A3S x wm) M ∧ By J q (P6 (B7T s w fun x => A3S x wm) 64) := by
 obtain ⟨sv, B, MT, rfl, hby, hT⟩ := hP.ex
 have hmd : md s.real = 1 := by rw [hr]; rfl
 rw [hmd] at *
 obtain ⟨⟨ge0, gf0, h0⟩, ⟨ge1, gf1, h1⟩, ⟨ge4, gf4, h4⟩⟩ := hG
 haveI := hv.cel
 haveI := hm.cel
 haveI := hby.cel
 have hvl := hv.len
 have hml := hm.len
 refine FnX.enterZ (N := 32) Tryz.func68 rfl rfl rfl fun w_ => ?_
 refine C4 (E1 0 1 2) (A3 (as_ (A0 (E1 0 1 2) (A5 (A3 (mv_ ?_))))))
 refine A4 (F0 (e := 117) rfl rfl kR) rfl ?_
 refine A0 (E7 0 1 2 8) ?_
 refine D4 rfl ?_
 refine A9 (nx (E1 0 1 2) (A5 (A3 (mv_ ?_))))
 refine A4 (F5 rfl) rfl ?_
 refine A4 (qf_ 0 0) rfl ?_
 refine A4 ql_ rfl ?_
 refine A4 (F9 false rfl rfl (eqF (by decide))) rfl ?_
 refine A0 (E7 0 1 2 13) ?_
 refine D4 rfl ?_
 refine A9 (nx (E1 0 1 2) ?_)
 refine H5 (MT) (_) true [0, 1, 2, 3, 4, 5, 6, 7, 8, 9, 10, 14] [(0, 0), (1, 0), (2, 0), (3, 1), (4, 0), (5, 0), (8, 0), (9, 1), (6, 2), (7, 2), (10, 0), (11, 2), (12, 2), (13, 2), (14, 0)] kR kR PickC.perm fun hs K n0 hKm hKs hKn => ?_
 refine km_ hs ?_
 refine I0 hs rfl (F5 rfl) rfl ?_
 refine I0 hs rfl (qf_ 3 3) rfl ?_
 refine P0 hs rfl hKs ql_ ?_
 refine km_ hs ?_
 refine km_ hs ?_
 refine km_ hs ?_
 refine P0 hs rfl hKs (Q6 rfl kR (hm.rd.mono SubC.sub)) ?_
 refine K0 _ _ rfl rfl (List.Perm.refl _) hKm fun w0 => (E0 (Mc := MT) (R := _) (aS rfl (aS rfl a0)) kR PickC.perm (A0u pb bt bm 1 _ sv s.ts v w MT _ hT At.mem (by omega) (hv.mono SubC.sub) (SubC.sub _ h4)) rfl ?_)
 rintro v24 M24 J24 ⟨rfl, hT24⟩ hKx
 refine K0 [] _ rfl rfl (List.Perm.refl _) (fun _ h => by cases h) fun w0 => (C6 (e := 3) (sz := 1) (z := [.int .i64 0]) kR (eS rfl e0) (bdS 0 1 rfl (by rfl) bd0) rfl fun b25 => fun _ => ?_)
 refine A1m (M' := (b25, blk [.int .i64 ((rdI s.ts w : Nat) : Int)] 3) :: (M24 ++ ((pb, blk [.int .u8 1, sv, .int .i64 (((s.n : Nat) : Int)), .pointer (some ⟨bt, 0, none⟩)] 117) :: (B ++ [])))) (by simp) ?_
 refine I0 hs rfl (F3 (place := fun x => #[(0, 1), (1, 1), (2, 1), (3, 1)][x]?) (z := [.int .u8 0, .slice none 0 0, .string ByteArray.empty, .int .i64 0]) (fun _ => by kernel_rfl) (eS rfl (eS rfl (eS rfl e0))) (bdS 0 1 rfl (by rfl) (bdS 1 1 rfl (by rfl) (bdS 2 1 rfl (by rfl) bd0)))) rfl ?_
 refine N5 rfl rfl rfl (E0 (Mc := M24) (R := _) (aS rfl (aS rfl a0)) kR PickC.perm (T5 bt bm (rdT s.ts w) _ (A3S ((rdI s.ts w : Nat) : Int) wm) M24 _ hT24 (by have := T6 (ts := s.ts) (ws := w); omega) (Rd.whole (n := 1) At.mem (by rfl)) (B4U (A45 hv.lt (by omega) hT.tok.tmo (by omega)) hm.lt hm.len) (SubC.sub _ h4)) rfl ?_)
 rintro v29 M29 J29 ⟨rfl, rfl, hT29⟩
 refine N5 rfl rfl rfl (D7 (aS rfl a0) kR (Y3 _ _) rfl ?_)
 rintro v30 M30 J30 ⟨rfl, h30⟩
 haveI := h30.cel
 refine N5 rfl rfl rfl (D7 (aS rfl (aS rfl a0)) kR (Z7 v30 _ 64 _ (h30.mono SubC.sub) (by decide)) rfl ?_)
 rintro v31 M31 J31 ⟨rfl, h31⟩
 refine I0 hs rfl (H8 rfl) rfl ?_
 refine N6 (D8 6) (C2 ?_)
 exact ⟨_, (pb, blk [.int .u8 1, sv, .int .i64 (((s.n : Nat) : Int)), .pointer (some ⟨bt, 0, none⟩)] 117) :: (B ++ M29), [], I4 rfl rfl, (Fit.none (Fit.pick (B := [_]) PickC.perm (Fit.pick PickC.perm (Fit.last PickC.perm)))), ⟨sv, B, M29, by rw [show md (B2g s w (fun x => A3S x wm)).real = 1 by show md s.real = 1; rw [hr]; rfl]; rfl, hby, hT29⟩, h31.mono SubC.sub⟩

end Go.Proofs.YthbhpfefdnffaaaGreatDoor
namespace Go.Px
abbrev p25 : Nat := 57896044618658097711785492504343953926634992332820282019728792003956564819949
def fv (a b c d e : Nat) : Nat := a + 2251799813685248 * b + 5070602400912917605986812821504 * c + 11417981541647679048466287755595961091061972992 * d + 25711008708143844408671393477458601640355247900524685364822016 * e
theorem A9e {a b c d e a1 b1 c1 d1 e1 : Nat} (ha : a < 9223372036854775808) (hb : b < 9223372036854775808) (hc : c < 9223372036854775808) (hd : d < 9223372036854775808) (he : e < 9223372036854775808)
    (h1 : a1 = (a + 19 * (e / 2251799813685248) % 18446744073709551616) % 18446744073709551616) (h2 : b1 = (b + a1 / 2251799813685248) % 18446744073709551616) (h3 : c1 = (c + b1 / 2251799813685248) % 18446744073709551616)
    (h4 : d1 = (d + c1 / 2251799813685248) % 18446744073709551616) (h5 : e1 = (e % 2251799813685248 + d1 / 2251799813685248) % 18446744073709551616) :
    fv (a1 % 2251799813685248) (b1 % 2251799813685248) (c1 % 2251799813685248) (d1 % 2251799813685248) e1 + p25 * (e / 2251799813685248) = fv a b c d e ∧ e1 < 2251799813685248 + 8192 := by
  unfold fv p25
  omega
theorem N1 {v q V : Nat} (h : v + p25 * q = V) : v % p25 = V % p25 := by rw [← h, Nat.add_mul_mod_self_left]
theorem B8x {a b c d e a2 b2 c2 d2 e2 : Nat} (ha : a < 4503599627370496) (hb : b < 4503599627370496) (hc : c < 4503599627370496) (hd : d < 4503599627370496) (he : e < 4503599627370496) (ha2 : a2 < 4503599627370496) (hb2 : b2 < 4503599627370496) (hc2 : c2 < 4503599627370496) (hd2 : d2 < 4503599627370496) (he2 : e2 < 4503599627370496) :
    fv ((a + a2) % 18446744073709551616) ((b + b2) % 18446744073709551616) ((c + c2) % 18446744073709551616) ((d + d2) % 18446744073709551616) ((e + e2) % 18446744073709551616) = fv a b c d e + fv a2 b2 c2 d2 e2 := by
  rw [Nat.mod_eq_of_lt (a := a + a2) (by omega), Nat.mod_eq_of_lt (a := b + b2) (by omega), Nat.mod_eq_of_lt (a := c + c2) (by omega), Nat.mod_eq_of_lt (a := d + d2) (by omega), Nat.mod_eq_of_lt (a := e + e2) (by omega)]
  unfold fv; omega
theorem A3t {a t b : Nat} (ha : a < 4503599627370496) (ht : t < 9007199254740992) (hb : b ≤ t) : (a + (t + (18446744073709551616 - b)) % 18446744073709551616) % 18446744073709551616 = a + t - b := by omega
theorem A1R {a t b : Nat} (ha : a < 4503599627370496) (ht : t < 9007199254740992) (hb : b ≤ t) : a + t - b < 9223372036854775808 := by omega
theorem B8y {a b c d e a2 b2 c2 d2 e2 : Nat} (ha : a2 ≤ 9007199254740916) (hb : b2 ≤ 9007199254740988) (hc : c2 ≤ 9007199254740988) (hd : d2 ≤ 9007199254740988) (he : e2 ≤ 9007199254740988) :
    fv (a + 9007199254740916 - a2) (b + 9007199254740988 - b2) (c + 9007199254740988 - c2) (d + 9007199254740988 - d2) (e + 9007199254740988 - e2) + fv a2 b2 c2 d2 e2 = fv a b c d e + 4 * p25 := by
  unfold fv p25; omega
theorem B6r {A B V : Nat} (h : V + B = A + 4 * p25) : V % p25 = (A % p25 + p25 - B % p25) % p25 := by
  unfold p25 at *; omega
theorem B0D {x y x0 x1 y0 y1 w0 t w1 : Nat} (hx : x < 18446744073709551616) (hy : y < 18446744073709551616) (h1 : x0 = x % 4294967296) (h2 : x1 = x / 4294967296) (h3 : y0 = y % 4294967296) (h4 : y1 = y / 4294967296)
    (h5 : w0 = x0 * y0 % 18446744073709551616) (h6 : t = (x1 * y0 % 18446744073709551616 + w0 / 4294967296) % 18446744073709551616) (h7 : w1 = (t % 4294967296 + x0 * y1 % 18446744073709551616) % 18446744073709551616) :
    ((x1 * y1 % 18446744073709551616 + t / 4294967296) % 18446744073709551616 + w1 / 4294967296) % 18446744073709551616 = x * y / 18446744073709551616 := by
  have b0 : x0 ≤ 4294967295 := by omega
  have b1 : x1 ≤ 4294967295 := by omega
  have b2 : y0 ≤ 4294967295 := by omega
  have b3 : y1 ≤ 4294967295 := by omega
  have q0 := Nat.mul_le_mul b0 b2
  have q1 := Nat.mul_le_mul b1 b2
  have q2 := Nat.mul_le_mul b0 b3
  have q3 := Nat.mul_le_mul b1 b3
  have ex : x = x0 + 4294967296 * x1 := by omega
  have ey : y = y0 + 4294967296 * y1 := by omega
  have e : x * y = x0 * y0 + 4294967296 * (x1 * y0) + 4294967296 * (x0 * y1) + 18446744073709551616 * (x1 * y1) := by rw [ex, ey]; grind
  rw [e]
  clear e ex ey h1 h2 h3 h4 b0 b1 b2 b3 hx hy
  generalize x0 * y0 = A at *
  generalize x1 * y0 = B at *
  generalize x0 * y1 = C at *
  generalize x1 * y1 = E at *
  omega
theorem or13 {hi lo : Nat} (hh : hi < 18446744073709551616) (hl : lo < 18446744073709551616) : (hi * 8192 % 18446744073709551616 ||| lo / 2251799813685248) = (hi * 18446744073709551616 + lo) / 2251799813685248 % 18446744073709551616 := by
  have e : hi * 8192 % 18446744073709551616 = (hi % 2251799813685248) <<< 13 := by rw [Nat.shiftLeft_eq]; omega
  rw [e, ← Nat.shiftLeft_add_eq_or_of_lt (by show _ < 8192; omega), Nat.shiftLeft_eq]
  omega
theorem A02 {R S T : Nat} (h0 : R < 2596148429267413814265248164610048) (h1 : S < 5192296858534827628530496329220096) (e : T = (R + S / 2251799813685248 % 18446744073709551616) % 340282366920938463463374607431768211456) : T = R + S / 2251799813685248 ∧ T < 5192296858534827628530496329220096 := by
  have a : S / 2251799813685248 < 18446744073709551616 := by omega
  rw [Nat.mod_eq_of_lt a, Nat.mod_eq_of_lt (by omega)] at e
  omega
theorem B3d {R0 R1 R2 R3 R4 S1 S2 S3 S4 l0 l1 l2 l3 l4 o0 o1 : Nat} (h0 : R0 < 2596148429267413814265248164610048) (h1 : R1 < 2596148429267413814265248164610048) (h2 : R2 < 2596148429267413814265248164610048) (h3 : R3 < 2596148429267413814265248164610048) (h4 : R4 < 162259276829213363391578010288128)
    (e1 : S1 = (R1 + R0 / 2251799813685248 % 18446744073709551616) % 340282366920938463463374607431768211456) (e2 : S2 = (R2 + S1 / 2251799813685248 % 18446744073709551616) % 340282366920938463463374607431768211456) (e3 : S3 = (R3 + S2 / 2251799813685248 % 18446744073709551616) % 340282366920938463463374607431768211456) (e4 : S4 = (R4 + S3 / 2251799813685248 % 18446744073709551616) % 340282366920938463463374607431768211456)
    (f0 : l0 % 2251799813685248 = R0 % 2251799813685248) (f1 : l1 % 2251799813685248 = S1 % 2251799813685248) (f2 : l2 % 2251799813685248 = S2 % 2251799813685248) (f3 : l3 % 2251799813685248 = S3 % 2251799813685248) (f4 : l4 % 2251799813685248 = S4 % 2251799813685248)
    (g0 : o0 = (l0 % 2251799813685248 + 19 * (S4 / 2251799813685248 % 18446744073709551616) % 18446744073709551616) % 18446744073709551616) (g1 : o1 = (l1 % 2251799813685248 + o0 / 2251799813685248) % 18446744073709551616) :
    o1 < 4503599627370496 ∧ fv (o0 % 2251799813685248) o1 (l2 % 2251799813685248) (l3 % 2251799813685248) (l4 % 2251799813685248) + p25 * (S4 / 2251799813685248) = R0 + 2251799813685248 * R1 + 5070602400912917605986812821504 * R2 + 11417981541647679048466287755595961091061972992 * R3 + 25711008708143844408671393477458601640355247900524685364822016 * R4 := by
  rw [f2, f3, f4]
  rw [f0] at g0
  rw [f1] at g1
  clear f0 f1 f2 f3 f4
  obtain ⟨k1, j1⟩ := A02 h1 (by omega) e1
  obtain ⟨k2, j2⟩ := A02 h2 j1 e2
  obtain ⟨k3, j3⟩ := A02 h3 j2 e3
  obtain ⟨k4, j4⟩ := A02 (by omega) j3 e4
  have j5 : S3 / 2251799813685248 < 2305843009213693952 := by clear e1 e2 e3 e4 k1 k2 k3 k4 g0 g1; omega
  clear e1 e2 e3 e4 j1 j2 j3
  have k5 : S4 < 324518553658426726783156020576256 := by clear g0 g1 k1 k2 k3; omega
  have j6 : S4 / 2251799813685248 < 288230376151711744 := by clear g0 g1 k1 k2 k3 k4; omega
  have k6 : o0 = R0 % 2251799813685248 + 19 * (S4 / 2251799813685248) := by clear g1 k1 k2 k3 k4 h0 h1 h2 h3 h4 k5 j5; omega
  have k7 : o1 = S1 % 2251799813685248 + o0 / 2251799813685248 := by clear g0 k1 k2 k3 k4 h0 h1 h2 h3 h4 k5 j5; omega
  clear g0 g1
  refine ⟨by clear k1 k2 k3 k4 h0 h1 h2 h3 h4 k5 j5; omega, ?_⟩
  clear h0 h1 h2 h3 h4 k5 j5 j6 j4
  unfold fv p25
  omega
theorem A6f {x1 x2 x3 x4 x5 z1 z2 z3 z4 z5 : Nat} (h1 : z1 ≤ 385365782469381738054997774434304) (h2 : z2 ≤ 385365782469381738054997774434304) (h3 : z3 ≤ 385365782469381738054997774434304) (h4 : z4 ≤ 385365782469381738054997774434304) (h5 : z5 ≤ 385365782469381738054997774434304) (e1 : x1 = (0 * 18446744073709551616 + 0 + z1) % 340282366920938463463374607431768211456) (e2 : x2 = (x1 + z2) % 340282366920938463463374607431768211456) (e3 : x3 = (x2 + z3) % 340282366920938463463374607431768211456) (e4 : x4 = (x3 + z4) % 340282366920938463463374607431768211456) (e5 : x5 = (x4 + z5) % 340282366920938463463374607431768211456) :
    x5 = z1 + z2 + z3 + z4 + z5 := by omega
theorem B3e {a : Nat} (h : a < 4503599627370496) : 19 * a % 18446744073709551616 = 19 * a := by omega
theorem zb {a b : Nat} (ha : a < 4503599627370496) (hb : b < 4503599627370496) : a * b ≤ 20282409603651670423947251286016 := Nat.le_trans (Nat.mul_le_mul (Nat.le_of_lt ha) (Nat.le_of_lt hb)) (by decide)
theorem A4l {a b : Nat} (ha : a < 4503599627370496) (hb : b < 4503599627370496) : 19 * a * b ≤ 385365782469381738054997774434304 := Nat.le_trans (Nat.mul_le_mul (Nat.mul_le_mul_left 19 (Nat.le_of_lt ha)) (Nat.le_of_lt hb)) (by decide)
theorem B3f (a b c d e a2 b2 c2 d2 e2 : Nat) : fv a b c d e * fv a2 b2 c2 d2 e2 =
    (a * a2 + 19 * b * e2 + 19 * c * d2 + 19 * d * c2 + 19 * e * b2) + 2251799813685248 * (a * b2 + b * a2 + 19 * c * e2 + 19 * d * d2 + 19 * e * c2) + 5070602400912917605986812821504 * (a * c2 + b * b2 + c * a2 + 19 * d * e2 + 19 * e * d2) + 11417981541647679048466287755595961091061972992 * (a * d2 + b * c2 + c * b2 + d * a2 + 19 * e * e2) + 25711008708143844408671393477458601640355247900524685364822016 * (a * e2 + b * d2 + c * c2 + d * b2 + e * a2)
    + p25 * ((b * e2 + c * d2 + d * c2 + e * b2) + 2251799813685248 * (c * e2 + d * d2 + e * c2) + 5070602400912917605986812821504 * (d * e2 + e * d2) + 11417981541647679048466287755595961091061972992 * (e * e2)) := by
  unfold fv p25; grind
def B7U (as_ : List Nat) (i k : Nat) : Nat := if i + k < 5 then as_.getD i 0 else 19 * as_.getD i 0 % 18446744073709551616
def B6s (i k : Nat) : Nat := if i + k < 5 then i + k else i + k - 5
def B0E (as_ bs : List Nat) (i k : Nat) (Xs : List Nat) : List Nat := Xs.set (B6s i k) ((Xs.getD (B6s i k) 0 + B7U as_ i k * bs.getD k 0) % 340282366920938463463374607431768211456)
def A46 (as_ bs : List Nat) (i : Nat) : Nat → List Nat → List Nat
  | 0, Xs => Xs
  | k + 1, Xs => B0E as_ bs i k (A46 as_ bs i k Xs)
def A47 (as_ bs : List Nat) : Nat → List Nat
  | 0 => [0, 0, 0, 0, 0]
  | i + 1 => A46 as_ bs i 5 (A47 as_ bs i)
theorem A8h (as_ bs : List Nat) (i k : Nat) (Xs : List Nat) : (A46 as_ bs i k Xs).length = Xs.length := by
  induction k with
  | zero => rfl
  | succ k ih => simp [A46, B0E, ih]
theorem B3g (as_ bs : List Nat) (i : Nat) : (A47 as_ bs i).length = 5 := by
  induction i with
  | zero => rfl
  | succ i ih => rw [A47, A8h, ih]
def B6t (Xs : List Nat) : Prop := ∀ x ∈ Xs, x < 340282366920938463463374607431768211456
theorem B0F (as_ bs : List Nat) (i k : Nat) {Xs : List Nat} (h : B6t Xs) : B6t (A46 as_ bs i k Xs) := by
  induction k with
  | zero => exact h
  | succ k ih =>
    intro x hx
    rcases List.mem_or_eq_of_mem_set hx with h1 | rfl
    · exact ih x h1
    · exact Nat.mod_lt _ (by decide)
theorem B6u (as_ bs : List Nat) (i : Nat) : B6t (A47 as_ bs i) := by
  induction i with
  | zero => intro x hx; simp [A47] at hx; subst hx; decide
  | succ i ih => exact B0F _ _ _ _ ih
theorem B3h (a b c d e a2 b2 c2 d2 e2 : Nat) (ha : a < 4503599627370496) (hb : b < 4503599627370496) (hc : c < 4503599627370496) (hd : d < 4503599627370496) (he : e < 4503599627370496) (ha2 : a2 < 4503599627370496) (hb2 : b2 < 4503599627370496) (hc2 : c2 < 4503599627370496) (hd2 : d2 < 4503599627370496) (he2 : e2 < 4503599627370496) :
    A47 [a, b, c, d, e] [a2, b2, c2, d2, e2] 5 = [a * a2 + 19 * b * e2 + 19 * c * d2 + 19 * d * c2 + 19 * e * b2, a * b2 + b * a2 + 19 * c * e2 + 19 * d * d2 + 19 * e * c2, a * c2 + b * b2 + c * a2 + 19 * d * e2 + 19 * e * d2, a * d2 + b * c2 + c * b2 + d * a2 + 19 * e * e2, a * e2 + b * d2 + c * c2 + d * b2 + e * a2] := by
  have z {x y : Nat} (hx : x < 4503599627370496) (hy : y < 4503599627370496) : x * y ≤ 385365782469381738054997774434304 := Nat.le_trans (zb hx hy) (by decide)
  simp only [A47, A46, B0E, B7U, B6s, List.set, List.getD_cons_zero, List.getD_cons_succ, Nat.reduceAdd, Nat.reduceLT, Nat.reduceSub, if_true, if_false, Nat.zero_add, Nat.add_zero, B3e hb, B3e hc, B3e hd, B3e he, reduceIte]
  rw [A6f (z ha ha2) (A4l hb he2) (A4l hc hd2) (A4l hd hc2) (A4l he hb2) (by simp) rfl rfl rfl rfl, A6f (z ha hb2) (z hb ha2) (A4l hc he2) (A4l hd hd2) (A4l he hc2) (by simp) rfl rfl rfl rfl, A6f (z ha hc2) (z hb hb2) (z hc ha2) (A4l hd he2) (A4l he hd2) (by simp) rfl rfl rfl rfl, A6f (z ha hd2) (z hb hc2) (z hc hb2) (z hd ha2) (A4l he he2) (by simp) rfl rfl rfl rfl, A6f (z ha he2) (z hb hd2) (z hc hc2) (z hd hb2) (z he ha2) (by simp) rfl rfl rfl rfl]
theorem A3u {a b c d e a1 b1 c1 d1 e1 : Nat} (ha : a < 2251799813685248) (hb : b < 2251799813685248) (hc : c < 2251799813685248) (hd : d < 2251799813685248) (he : e < 2251799813685248 + 8192) (ha1 : a1 < 2251799813685248) (hb1 : b1 < 2251799813685248) (hc1 : c1 < 2251799813685248) (hd1 : d1 < 2251799813685248) (h : fv a1 b1 c1 d1 e1 + p25 * (e / 2251799813685248) = fv a b c d e) : e1 < 2251799813685248 := by
  have hq : e / 2251799813685248 = 0 ∨ e / 2251799813685248 = 1 := by omega
  unfold fv p25 at h
  rcases hq with hq | hq
  · rw [hq] at h; omega
  · rw [hq] at h; omega
theorem B3i {a b c d e c0 c1 c2 c3 c4 : Nat} (ha : a < 2251799813685248) (hb : b < 2251799813685248) (hc : c < 2251799813685248) (hd : d < 2251799813685248) (he : e < 2251799813685248) (h0 : c0 = (a + 19) % 18446744073709551616 / 2251799813685248) (h1 : c1 = (b + c0) % 18446744073709551616 / 2251799813685248) (h2 : c2 = (c + c1) % 18446744073709551616 / 2251799813685248) (h3 : c3 = (d + c2) % 18446744073709551616 / 2251799813685248) (h4 : c4 = (e + c3) % 18446744073709551616 / 2251799813685248) :
    (c4 = 0 ∧ fv a b c d e < p25) ∨ (c4 = 1 ∧ p25 ≤ fv a b c d e) := by
  have k0 : c0 ≤ 1 := by omega
  have k1 : c1 ≤ 1 := by omega
  have k2 : c2 ≤ 1 := by omega
  have k3 : c3 ≤ 1 := by omega
  have k4 : c4 ≤ 1 := by omega
  unfold fv p25
  omega
theorem B0G {a b c d e q a1 b1 c1 d1 e1 : Nat} (ha : a < 2251799813685248) (hb : b < 2251799813685248) (hc : c < 2251799813685248) (hd : d < 2251799813685248) (he : e < 2251799813685248) (hq : q ≤ 1) (h1 : a1 = (a + 19 * q % 18446744073709551616) % 18446744073709551616) (h2 : b1 = (b + a1 / 2251799813685248) % 18446744073709551616) (h3 : c1 = (c + b1 / 2251799813685248) % 18446744073709551616) (h4 : d1 = (d + c1 / 2251799813685248) % 18446744073709551616) (h5 : e1 = (e + d1 / 2251799813685248) % 18446744073709551616) :
    fv (a1 % 2251799813685248) (b1 % 2251799813685248) (c1 % 2251799813685248) (d1 % 2251799813685248) (e1 % 2251799813685248) + 57896044618658097711785492504343953926634992332820282019728792003956564819968 * (e1 / 2251799813685248) = fv a b c d e + 19 * q ∧ fv (a1 % 2251799813685248) (b1 % 2251799813685248) (c1 % 2251799813685248) (d1 % 2251799813685248) (e1 % 2251799813685248) < 57896044618658097711785492504343953926634992332820282019728792003956564819968 := by
  have k1 : a1 = a + 19 * q := by omega
  have k2 : b1 = b + a1 / 2251799813685248 := by omega
  have k3 : c1 = c + b1 / 2251799813685248 := by omega
  have k4 : d1 = d + c1 / 2251799813685248 := by omega
  have k5 : e1 = e + d1 / 2251799813685248 := by omega
  clear h1 h2 h3 h4 h5
  unfold fv
  omega
theorem B0H {V F k q : Nat} (h : (q = 0 ∧ V < p25) ∨ (q = 1 ∧ p25 ≤ V)) (hV : V < 57896044618658097711785492504343953926634992332820282019728792003956564819968) (h2 : F + 57896044618658097711785492504343953926634992332820282019728792003956564819968 * k = V + 19 * q ∧ F < 57896044618658097711785492504343953926634992332820282019728792003956564819968) : F = V % p25 := by
  unfold p25 at *
  rcases h with ⟨rfl, h⟩ | ⟨rfl, h⟩
  · rw [Nat.mod_eq_of_lt h]; omega
  · omega
theorem B8z {a b c d e : Nat} (ha : a < 2251799813685248) (hb : b < 2251799813685248) (hc : c < 2251799813685248) (hd : d < 2251799813685248) (he : e < 2251799813685248) : fv a b c d e < 57896044618658097711785492504343953926634992332820282019728792003956564819968 := by unfold fv; omega
theorem B3j {a b c d e : Nat} (ha : a < 2251799813685248) (hb : b < 2251799813685248) (hc : c < 2251799813685248) (hd : d < 2251799813685248) (he : e < 2251799813685248) (j : Nat) (hj : j < 5) : fv a b c d e / 2 ^ (51 * j) % 2 ^ 51 = [a, b, c, d, e].getD j 0 := by
  have : j = 0 ∨ j = 1 ∨ j = 2 ∨ j = 3 ∨ j = 4 := by omega
  unfold fv
  rcases this with rfl | rfl | rfl | rfl | rfl <;> simp only [Nat.reducePow, Nat.reduceMul, List.getD_cons_zero, List.getD_cons_succ] <;> omega
theorem B8A {a b c d e : Nat} (ha : a < 2251799813685248) (hb : b < 2251799813685248) (hc : c < 2251799813685248) (hd : d < 2251799813685248) (he : e < 2251799813685248) (i : Nat) (hi : i < 255) : [a, b, c, d, e].getD (i / 51) 0 / 2 ^ (i % 51) % 2 = fv a b c d e / 2 ^ i % 2 := by
  rw [← B3j ha hb hc hd he (i / 51) (by omega)]
  have h1 : i % 51 < 51 := Nat.mod_lt _ (by decide)
  have e : 2 ^ 51 = 2 ^ (i % 51) * (2 * 2 ^ (50 - i % 51)) := by rw [← Nat.pow_succ', ← Nat.pow_add]; congr 1; omega
  rw [e, Nat.mod_mul_right_div_self, Nat.mod_mul_right_mod, Nat.div_div_eq_div_mul, ← Nat.pow_add]
  congr 3; omega
theorem B6v {a b c d e : Nat} (ha : a < 2251799813685248) (hb : b < 2251799813685248) (hc : c < 2251799813685248) (hd : d < 2251799813685248) (he : e < 2251799813685248) : ∃ q, q = (e + (d + (c + (b + (a + 19) % 18446744073709551616 / 2251799813685248) % 18446744073709551616 / 2251799813685248) % 18446744073709551616 / 2251799813685248) % 18446744073709551616 / 2251799813685248) % 18446744073709551616 / 2251799813685248 ∧ ((q = 0 ∧ fv a b c d e < p25) ∨ (q = 1 ∧ p25 ≤ fv a b c d e)) :=
  ⟨_, rfl, B3i ha hb hc hd he rfl rfl rfl rfl rfl⟩
theorem B0I {a b c d e q : Nat} (ha : a < 2251799813685248) (hb : b < 2251799813685248) (hc : c < 2251799813685248) (hd : d < 2251799813685248) (he : e < 2251799813685248) (hq : (q = 0 ∧ fv a b c d e < p25) ∨ (q = 1 ∧ p25 ≤ fv a b c d e)) : ∃ f0 f1 f2 f3 f4, f0 = (a + 19 * q % 18446744073709551616) % 18446744073709551616 % 2251799813685248 ∧ f1 = (b + (a + 19 * q % 18446744073709551616) % 18446744073709551616 / 2251799813685248) % 18446744073709551616 % 2251799813685248 ∧ f2 = (c + (b + (a + 19 * q % 18446744073709551616) % 18446744073709551616 / 2251799813685248) % 18446744073709551616 / 2251799813685248) % 18446744073709551616 % 2251799813685248 ∧ f3 = (d + (c + (b + (a + 19 * q % 18446744073709551616) % 18446744073709551616 / 2251799813685248) % 18446744073709551616 / 2251799813685248) % 18446744073709551616 / 2251799813685248) % 18446744073709551616 % 2251799813685248 ∧ f4 = (e + (d + (c + (b + (a + 19 * q % 18446744073709551616) % 18446744073709551616 / 2251799813685248) % 18446744073709551616 / 2251799813685248) % 18446744073709551616 / 2251799813685248) % 18446744073709551616 / 2251799813685248) % 18446744073709551616 % 2251799813685248 ∧ f0 < 2251799813685248 ∧ f1 < 2251799813685248 ∧ f2 < 2251799813685248 ∧ f3 < 2251799813685248 ∧ f4 < 2251799813685248 ∧ fv f0 f1 f2 f3 f4 = fv a b c d e % p25 := by
  have hco := B0G ha hb hc hd he (q := q) (by rcases hq with h | h <;> omega) rfl rfl rfl rfl rfl
  exact ⟨_, _, _, _, _, rfl, rfl, rfl, rfl, rfl, Nat.mod_lt _ (by decide), Nat.mod_lt _ (by decide), Nat.mod_lt _ (by decide), Nat.mod_lt _ (by decide), Nat.mod_lt _ (by decide), B0H hq (B8z ha hb hc hd he) hco⟩
end Go.Px

namespace Go.Proofs.YthbhpfefdnffaaaGreatDoor
open Go.Px
abbrev el (a b c d e : Nat) : Value := .agg #[.int .u64 (a : Int), .int .u64 (b : Int), .int .u64 (c : Int), .int .u64 (d : Int), .int .u64 (e : Int)]
def Fe (v : Value) (n : Nat) : Prop := ∃ a b c d e, v = el a b c d e ∧ a < 4503599627370496 ∧ b < 4503599627370496 ∧ c < 4503599627370496 ∧ d < 4503599627370496 ∧ e < 4503599627370496 ∧ fv a b c d e % p25 = n
theorem Fe.lt {v : Value} {n : Nat} (h : Fe v n) : n < p25 := by
  obtain ⟨a, b, c, d, e, _, _, _, _, _, _, rfl⟩ := h
  exact Nat.mod_lt _ (by decide)
theorem S6 (a b c d e : Nat) (ha : a < 9223372036854775808) (hb : b < 9223372036854775808) (hc : c < 9223372036854775808) (hd : d < 9223372036854775808) (he : e < 9223372036854775808) (A : Mem) :
  FnX Tryz.prog 163 [el a b c d e] [] A fun r M J => M = [] ∧ J = [] ∧ ∃ a' b' c' d' e', r = el a' b' c' d' e' ∧ a' < 2251799813685248 ∧ b' < 2251799813685248 ∧ c' < 2251799813685248 ∧ d' < 2251799813685248 ∧ fv a' b' c' d' e' + p25 * (e / 2251799813685248) = fv a b c d e ∧ e' < 2251799813685248 + 8192 := by
 refine FnX.enter (N := 38) Tryz.func163 rfl rfl rfl fun w => ?_
 refine C4 (D8 0) (A3 ?_)
 refine A6 rfl (bx_ fun b1 => ?_)
 refine A6 rfl (C5 (cs := [A7, A7, A7, A7, A7]) kR rfl fun b2 => ?_)
 refine A0 (D5 1 2) (A3 ?_)
 refine A4 (qi_ 4 143 5 1 4) rfl ?_
 refine A4 ql_ rfl ?_
 refine A4 (N7 51 2251799813685248 rfl rfl rfl rfl (by decide)) rfl ?_
 refine as_ (A0 (E1 1 2 3) (A3 ?_))
 refine A4 (qi_ 4 143 5 1 4) rfl ?_
 refine A4 ql_ rfl ?_
 refine A4 (L9 51 2251799813685248 rfl rfl rfl rfl rfl (by show _ < 18446744073709551616; first | assumption | exact Nat.mod_lt _ (by decide) | omega) (by decide)) rfl ?_
 refine A4 (qi_ 4 143 5 1 4) rfl ?_
 refine A6 rfl (D9 rfl rfl rfl kR SetC.set UpC.upd ?_)
 refine A0 (E1 1 2 3) (A3 ?_)
 refine A4 (qi_ 0 143 5 1 0) rfl ?_
 refine A4 ql_ rfl ?_
 refine mv_ ?_
 refine A4 (R6 18446744073709551616 (a := 19) rfl rfl rfl rfl rfl rfl) rfl ?_
 refine A4 (H9 18446744073709551616 rfl rfl rfl rfl rfl rfl) rfl ?_
 refine A4 (qi_ 0 143 5 1 0) rfl ?_
 refine A6 rfl (D9 rfl rfl rfl kR SetC.set UpC.upd ?_)
 refine A0 (D5 1 2) (A5 (A3 (mv_ (A0 (E1 1 2 18) (C0 ?_)))))
 refine X7 5 ?_
 refine G6 ?_
 refine A3 ?_
 refine A4 (F9 true rfl rfl (ltT (by decide))) rfl ?_
 refine A0 (E7 1 2 18 19) (A5 ?_)
 refine E2 rfl ?_
 refine A9 (nx (E1 1 2 18) (A5 (C0 (A3 (mv_ (as_ (A0 (E7 1 2 4 18) ?_)))))))
 refine D2 (.range 10) (zp 0 [0, 0, 0, 1, 0, 0, 1, 0, 0, 0, 2]) kR kR fun hs => ?_
 refine fm_ hs ?_
 refine D1 hs rfl (E4 (1 : Int) rfl rfl (G3 (by decide) (by decide) (by decide))) rfl ?_
 refine D1 hs rfl (qi_ 1 143 5 1 1) rfl ?_
 refine F6 hs rfl ql_ rfl ?_
 refine fm_ hs ?_
 refine D1 hs rfl (qi_ 0 143 5 1 0) rfl ?_
 refine F6 hs rfl ql_ rfl ?_
 refine D1 hs rfl (N7 51 2251799813685248 rfl rfl rfl rfl (by decide)) rfl ?_
 refine D1 hs rfl (H9 18446744073709551616 rfl rfl rfl rfl rfl rfl) rfl ?_
 refine D1 hs rfl (qi_ 1 143 5 1 1) rfl ?_
 refine G2 rfl rfl rfl (D9 rfl rfl rfl kR SetC.set UpC.upd ?_)
 refine E3 (E7 1 2 4 18) (C3 (mv_ ?_))
 refine A4 (qi_ 0 143 5 1 0) rfl ?_
 refine A4 ql_ rfl ?_
 refine A4 (L9 51 2251799813685248 rfl rfl rfl rfl rfl (by show _ < 18446744073709551616; first | assumption | exact Nat.mod_lt _ (by decide) | omega) (by decide)) rfl ?_
 refine A4 (qi_ 0 143 5 1 0) rfl ?_
 refine A6 rfl (D9 rfl rfl rfl kR SetC.set UpC.upd ?_)
 refine D0 (nb (nx (E1 1 2 18) (C3 ?_)))
 refine A4 (E4 (1 : Int) rfl rfl (G3 (by decide) (by decide) (by decide))) rfl ?_
 refine mv_ (D0 ?_)
 refine un (E1 1 2 18) ?_
 refine G6 ?_
 refine A3 ?_
 refine A4 (F9 true rfl rfl (ltT (by decide))) rfl ?_
 refine A0 (E7 1 2 18 19) (A5 ?_)
 refine E2 rfl ?_
 refine A9 (nx (E1 1 2 18) (A5 (C0 (A3 (mv_ (as_ (A0 (E7 1 2 4 18) ?_)))))))
 refine D2 (.range 10) (zp 0 [0, 0, 0, 1, 0, 0, 1, 0, 0, 0, 2]) kR kR fun hs => ?_
 refine fm_ hs ?_
 refine D1 hs rfl (E4 (2 : Int) rfl rfl (G3 (by decide) (by decide) (by decide))) rfl ?_
 refine D1 hs rfl (qi_ 2 143 5 1 2) rfl ?_
 refine F6 hs rfl ql_ rfl ?_
 refine fm_ hs ?_
 refine D1 hs rfl (qi_ 1 143 5 1 1) rfl ?_
 refine F6 hs rfl ql_ rfl ?_
 refine D1 hs rfl (N7 51 2251799813685248 rfl rfl rfl rfl (by decide)) rfl ?_
 refine D1 hs rfl (H9 18446744073709551616 rfl rfl rfl rfl rfl rfl) rfl ?_
 refine D1 hs rfl (qi_ 2 143 5 1 2) rfl ?_
 refine G2 rfl rfl rfl (D9 rfl rfl rfl kR SetC.set UpC.upd ?_)
 refine E3 (E7 1 2 4 18) (C3 (mv_ ?_))
 refine A4 (qi_ 1 143 5 1 1) rfl ?_
 refine A4 ql_ rfl ?_
 refine A4 (L9 51 2251799813685248 rfl rfl rfl rfl rfl (by show _ < 18446744073709551616; first | assumption | exact Nat.mod_lt _ (by decide) | omega) (by decide)) rfl ?_
 refine A4 (qi_ 1 143 5 1 1) rfl ?_
 refine A6 rfl (D9 rfl rfl rfl kR SetC.set UpC.upd ?_)
 refine D0 (nb (nx (E1 1 2 18) (C3 ?_)))
 refine A4 (E4 (2 : Int) rfl rfl (G3 (by decide) (by decide) (by decide))) rfl ?_
 refine mv_ (D0 ?_)
 refine un (E1 1 2 18) ?_
 refine G6 ?_
 refine A3 ?_
 refine A4 (F9 true rfl rfl (ltT (by decide))) rfl ?_
 refine A0 (E7 1 2 18 19) (A5 ?_)
 refine E2 rfl ?_
 refine A9 (nx (E1 1 2 18) (A5 (C0 (A3 (mv_ (as_ (A0 (E7 1 2 4 18) ?_)))))))
 refine D2 (.range 10) (zp 0 [0, 0, 0, 1, 0, 0, 1, 0, 0, 0, 2]) kR kR fun hs => ?_
 refine fm_ hs ?_
 refine D1 hs rfl (E4 (3 : Int) rfl rfl (G3 (by decide) (by decide) (by decide))) rfl ?_
 refine D1 hs rfl (qi_ 3 143 5 1 3) rfl ?_
 refine F6 hs rfl ql_ rfl ?_
 refine fm_ hs ?_
 refine D1 hs rfl (qi_ 2 143 5 1 2) rfl ?_
 refine F6 hs rfl ql_ rfl ?_
 refine D1 hs rfl (N7 51 2251799813685248 rfl rfl rfl rfl (by decide)) rfl ?_
 refine D1 hs rfl (H9 18446744073709551616 rfl rfl rfl rfl rfl rfl) rfl ?_
 refine D1 hs rfl (qi_ 3 143 5 1 3) rfl ?_
 refine G2 rfl rfl rfl (D9 rfl rfl rfl kR SetC.set UpC.upd ?_)
 refine E3 (E7 1 2 4 18) (C3 (mv_ ?_))
 refine A4 (qi_ 2 143 5 1 2) rfl ?_
 refine A4 ql_ rfl ?_
 refine A4 (L9 51 2251799813685248 rfl rfl rfl rfl rfl (by show _ < 18446744073709551616; first | assumption | exact Nat.mod_lt _ (by decide) | omega) (by decide)) rfl ?_
 refine A4 (qi_ 2 143 5 1 2) rfl ?_
 refine A6 rfl (D9 rfl rfl rfl kR SetC.set UpC.upd ?_)
 refine D0 (nb (nx (E1 1 2 18) (C3 ?_)))
 refine A4 (E4 (3 : Int) rfl rfl (G3 (by decide) (by decide) (by decide))) rfl ?_
 refine mv_ (D0 ?_)
 refine un (E1 1 2 18) ?_
 refine G6 ?_
 refine A3 ?_
 refine A4 (F9 true rfl rfl (ltT (by decide))) rfl ?_
 refine A0 (E7 1 2 18 19) (A5 ?_)
 refine E2 rfl ?_
 refine A9 (nx (E1 1 2 18) (A5 (C0 (A3 (mv_ (as_ (A0 (E7 1 2 4 18) ?_)))))))
 refine D2 (.range 10) (zp 0 [0, 0, 0, 1, 0, 0, 1, 0, 0, 0, 2]) kR kR fun hs => ?_
 refine fm_ hs ?_
 refine D1 hs rfl (E4 (4 : Int) rfl rfl (G3 (by decide) (by decide) (by decide))) rfl ?_
 refine D1 hs rfl (qi_ 4 143 5 1 4) rfl ?_
 refine F6 hs rfl ql_ rfl ?_
 refine fm_ hs ?_
 refine D1 hs rfl (qi_ 3 143 5 1 3) rfl ?_
 refine F6 hs rfl ql_ rfl ?_
 refine D1 hs rfl (N7 51 2251799813685248 rfl rfl rfl rfl (by decide)) rfl ?_
 refine D1 hs rfl (H9 18446744073709551616 rfl rfl rfl rfl rfl rfl) rfl ?_
 refine D1 hs rfl (qi_ 4 143 5 1 4) rfl ?_
 refine G2 rfl rfl rfl (D9 rfl rfl rfl kR SetC.set UpC.upd ?_)
 refine E3 (E7 1 2 4 18) (C3 (mv_ ?_))
 refine A4 (qi_ 3 143 5 1 3) rfl ?_
 refine A4 ql_ rfl ?_
 refine A4 (L9 51 2251799813685248 rfl rfl rfl rfl rfl (by show _ < 18446744073709551616; first | assumption | exact Nat.mod_lt _ (by decide) | omega) (by decide)) rfl ?_
 refine A4 (qi_ 3 143 5 1 3) rfl ?_
 refine A6 rfl (D9 rfl rfl rfl kR SetC.set UpC.upd ?_)
 refine D0 (nb (nx (E1 1 2 18) (C3 ?_)))
 refine A4 (E4 (4 : Int) rfl rfl (G3 (by decide) (by decide) (by decide))) rfl ?_
 refine mv_ (D0 ?_)
 refine un (E1 1 2 18) ?_
 refine G6 ?_
 refine A3 ?_
 refine A4 (F9 false rfl rfl (ltF (by decide))) rfl ?_
 refine A0 (E7 1 2 18 19) (A5 ?_)
 refine D4 rfl ?_
 refine E6 (te (ue (be rfl (nx (D5 1 2) (A3 ?_)))))
 refine A4 (qw_ 5) rfl ?_
 refine A6 rfl (A8 rfl rfl Cel.cel kR ln5 al5 UpC.upd ?_)
 refine A0 (D8 2) (C2 ?_)
 refine ⟨_, [], [], A1k rfl rfl kR At.mem (by rfl), List.nil_sublist _, by simp, rfl, rfl, _, _, _, _, _, rfl, Nat.mod_lt _ (by decide), Nat.mod_lt _ (by decide), Nat.mod_lt _ (by decide), Nat.mod_lt _ (by decide), A9e ha hb hc hd he rfl rfl rfl rfl rfl⟩
theorem B0J (v u : Value) (x y : Nat) (hx : Fe v x) (hy : Fe u y) (A : Mem) : FnX Tryz.prog 160 [v, u] [] A fun r M J => M = [] ∧ J = [] ∧ Fe r ((x + y) % p25) := by
 obtain ⟨a, b, c, d, e, rfl, ha, hb, hc, hd, he, rfl⟩ := hx
 obtain ⟨a2, b2, c2, d2, e2, rfl, ha2, hb2, hc2, hd2, he2, rfl⟩ := hy
 refine FnX.enter (N := 20) Tryz.func160 rfl rfl rfl fun w => ?_
 refine C4 (D5 0 1) (A3 ?_)
 refine A6 rfl (bx_ fun b2 => ?_)
 refine A6 rfl (bx_ fun b3 => ?_)
 refine A6 rfl (C5 (cs := [A7, A7, A7, A7, A7]) kR rfl fun b4 => ?_)
 refine A0 (E1 2 3 4) (A5 (A3 (mv_ (A0 (E7 2 3 4 6) (C0 ?_)))))
 refine X7 6 ?_
 refine G6 ?_
 refine A3 ?_
 refine A4 (F9 true rfl rfl (ltT (by decide))) rfl ?_
 refine A0 (F7 2 3 4 6 7) (A5 ?_)
 refine E2 rfl ?_
 refine A9 (nx (E7 2 3 4 6) (A5 (C0 (A3 (mv_ (as_ (A0 (F7 2 3 4 5 6) ?_)))))))
 refine I6 (.range 8) (zp 0 [0, 0, 1, 0, 0, 1, 0, 0, 2]) kR kR fun hs => ?_
 refine fm_ hs ?_
 refine D1 hs rfl (qi_ 0 143 5 1 0) rfl ?_
 refine F6 hs rfl ql_ rfl ?_
 refine fm_ hs ?_
 refine D1 hs rfl (qi_ 0 143 5 1 0) rfl ?_
 refine F6 hs rfl ql_ rfl ?_
 refine D1 hs rfl (H9 18446744073709551616 rfl rfl rfl rfl rfl rfl) rfl ?_
 refine D1 hs rfl (qi_ 0 143 5 1 0) rfl ?_
 refine G2 rfl rfl rfl (D9 rfl rfl rfl kR SetC.set UpC.upd ?_)
 refine V0 (nb (nx (E7 2 3 4 6) (C3 ?_)))
 refine A4 (E4 (1 : Int) rfl rfl (G3 (by decide) (by decide) (by decide))) rfl ?_
 refine mv_ (D0 ?_)
 refine un (E7 2 3 4 6) ?_
 refine G6 ?_
 refine A3 ?_
 refine A4 (F9 true rfl rfl (ltT (by decide))) rfl ?_
 refine A0 (F7 2 3 4 6 7) (A5 ?_)
 refine E2 rfl ?_
 refine A9 (nx (E7 2 3 4 6) (A5 (C0 (A3 (mv_ (as_ (A0 (F7 2 3 4 5 6) ?_)))))))
 refine I6 (.range 8) (zp 0 [0, 0, 1, 0, 0, 1, 0, 0, 2]) kR kR fun hs => ?_
 refine fm_ hs ?_
 refine D1 hs rfl (qi_ 1 143 5 1 1) rfl ?_
 refine F6 hs rfl ql_ rfl ?_
 refine fm_ hs ?_
 refine D1 hs rfl (qi_ 1 143 5 1 1) rfl ?_
 refine F6 hs rfl ql_ rfl ?_
 refine D1 hs rfl (H9 18446744073709551616 rfl rfl rfl rfl rfl rfl) rfl ?_
 refine D1 hs rfl (qi_ 1 143 5 1 1) rfl ?_
 refine G2 rfl rfl rfl (D9 rfl rfl rfl kR SetC.set UpC.upd ?_)
 refine V0 (nb (nx (E7 2 3 4 6) (C3 ?_)))
 refine A4 (E4 (2 : Int) rfl rfl (G3 (by decide) (by decide) (by decide))) rfl ?_
 refine mv_ (D0 ?_)
 refine un (E7 2 3 4 6) ?_
 refine G6 ?_
 refine A3 ?_
 refine A4 (F9 true rfl rfl (ltT (by decide))) rfl ?_
 refine A0 (F7 2 3 4 6 7) (A5 ?_)
 refine E2 rfl ?_
 refine A9 (nx (E7 2 3 4 6) (A5 (C0 (A3 (mv_ (as_ (A0 (F7 2 3 4 5 6) ?_)))))))
 refine I6 (.range 8) (zp 0 [0, 0, 1, 0, 0, 1, 0, 0, 2]) kR kR fun hs => ?_
 refine fm_ hs ?_
 refine D1 hs rfl (qi_ 2 143 5 1 2) rfl ?_
 refine F6 hs rfl ql_ rfl ?_
 refine fm_ hs ?_
 refine D1 hs rfl (qi_ 2 143 5 1 2) rfl ?_
 refine F6 hs rfl ql_ rfl ?_
 refine D1 hs rfl (H9 18446744073709551616 rfl rfl rfl rfl rfl rfl) rfl ?_
 refine D1 hs rfl (qi_ 2 143 5 1 2) rfl ?_
 refine G2 rfl rfl rfl (D9 rfl rfl rfl kR SetC.set UpC.upd ?_)
 refine V0 (nb (nx (E7 2 3 4 6) (C3 ?_)))
 refine A4 (E4 (3 : Int) rfl rfl (G3 (by decide) (by decide) (by decide))) rfl ?_
 refine mv_ (D0 ?_)
 refine un (E7 2 3 4 6) ?_
 refine G6 ?_
 refine A3 ?_
 refine A4 (F9 true rfl rfl (ltT (by decide))) rfl ?_
 refine A0 (F7 2 3 4 6 7) (A5 ?_)
 refine E2 rfl ?_
 refine A9 (nx (E7 2 3 4 6) (A5 (C0 (A3 (mv_ (as_ (A0 (F7 2 3 4 5 6) ?_)))))))
 refine I6 (.range 8) (zp 0 [0, 0, 1, 0, 0, 1, 0, 0, 2]) kR kR fun hs => ?_
 refine fm_ hs ?_
 refine D1 hs rfl (qi_ 3 143 5 1 3) rfl ?_
 refine F6 hs rfl ql_ rfl ?_
 refine fm_ hs ?_
 refine D1 hs rfl (qi_ 3 143 5 1 3) rfl ?_
 refine F6 hs rfl ql_ rfl ?_
 refine D1 hs rfl (H9 18446744073709551616 rfl rfl rfl rfl rfl rfl) rfl ?_
 refine D1 hs rfl (qi_ 3 143 5 1 3) rfl ?_
 refine G2 rfl rfl rfl (D9 rfl rfl rfl kR SetC.set UpC.upd ?_)
 refine V0 (nb (nx (E7 2 3 4 6) (C3 ?_)))
 refine A4 (E4 (4 : Int) rfl rfl (G3 (by decide) (by decide) (by decide))) rfl ?_
 refine mv_ (D0 ?_)
 refine un (E7 2 3 4 6) ?_
 refine G6 ?_
 refine A3 ?_
 refine A4 (F9 true rfl rfl (ltT (by decide))) rfl ?_
 refine A0 (F7 2 3 4 6 7) (A5 ?_)
 refine E2 rfl ?_
 refine A9 (nx (E7 2 3 4 6) (A5 (C0 (A3 (mv_ (as_ (A0 (F7 2 3 4 5 6) ?_)))))))
 refine I6 (.range 8) (zp 0 [0, 0, 1, 0, 0, 1, 0, 0, 2]) kR kR fun hs => ?_
 refine fm_ hs ?_
 refine D1 hs rfl (qi_ 4 143 5 1 4) rfl ?_
 refine F6 hs rfl ql_ rfl ?_
 refine fm_ hs ?_
 refine D1 hs rfl (qi_ 4 143 5 1 4) rfl ?_
 refine F6 hs rfl ql_ rfl ?_
 refine D1 hs rfl (H9 18446744073709551616 rfl rfl rfl rfl rfl rfl) rfl ?_
 refine D1 hs rfl (qi_ 4 143 5 1 4) rfl ?_
 refine G2 rfl rfl rfl (D9 rfl rfl rfl kR SetC.set UpC.upd ?_)
 refine V0 (nb (nx (E7 2 3 4 6) (C3 ?_)))
 refine A4 (E4 (5 : Int) rfl rfl (G3 (by decide) (by decide) (by decide))) rfl ?_
 refine mv_ (D0 ?_)
 refine un (E7 2 3 4 6) ?_
 refine G6 ?_
 refine A3 ?_
 refine A4 (F9 false rfl rfl (ltF (by decide))) rfl ?_
 refine A0 (F7 2 3 4 6 7) (A5 ?_)
 refine D4 rfl ?_
 refine E6 (te (ue (be rfl (nx (D5 2 4) (A3 ?_)))))
 refine A4 (qw_ 5) rfl ?_
 refine C9 (aS rfl a0) kR (S6 _ _ _ _ _ (by omega) (by omega) (by omega) (by omega) (by omega) _) rfl ?_
 rintro r3 M3 J3 ⟨rfl, rfl, a3, b3, c3, d3, e3, rfl, ha3, hb3, hc3, hd3, hv3, he3⟩
 refine A6 rfl (A8 rfl rfl Cel.cel kR ln5 al5 UpC.upd ?_)
 refine A0 (D8 4) (C2 ?_)
 refine ⟨_, [], [], A1k rfl rfl kR At.mem (by rfl), List.nil_sublist _, by simp, rfl, rfl, a3, b3, c3, d3, e3, rfl, by omega, by omega, by omega, by omega, by omega, ?_⟩
 rw [N1 hv3, B8x ha hb hc hd he ha2 hb2 hc2 hd2 he2, Nat.add_mod]
theorem A6g (v u : Value) (x y : Nat) (hx : Fe v x) (hy : Fe u y) (A : Mem) : FnX Tryz.prog 161 [v, u] [] A fun r M J => M = [] ∧ J = [] ∧ Fe r ((x + p25 - y) % p25) := by
 obtain ⟨a, b, c, d, e, rfl, ha, hb, hc, hd, he, rfl⟩ := hx
 obtain ⟨a2, b2, c2, d2, e2, rfl, ha2, hb2, hc2, hd2, he2, rfl⟩ := hy
 refine FnX.enter (N := 30) Tryz.func161 rfl rfl rfl fun w => ?_
 refine C4 (D5 0 1) (A3 ?_)
 refine A6 rfl (bx_ fun b2 => ?_)
 refine A6 rfl (bx_ fun b3 => ?_)
 refine A6 rfl (C5 (cs := [A7, A7, A7, A7, A7]) kR rfl fun b4 => ?_)
 refine A0 (E1 2 3 4) (A3 ?_)
 refine A4 (qw_ 5) rfl ?_
 refine C9 (aS rfl a0) kR (S6 _ _ _ _ _ (by omega) (by omega) (by omega) (by omega) (by omega) _) rfl ?_
 rintro r3 M3 J3 ⟨rfl, rfl, a3, b3, c3, d3, e3, rfl, ha3, hb3, hc3, hd3, hv3, he3⟩
 refine A6 rfl (A8 rfl rfl Cel.cel kR ln5 al5 UpC.upd ?_)
 refine A0 (E1 2 3 4) (A3 ?_)
 refine A4 (F3 (place := fun i => some (i * 1, 1)) (z := [A7, A7, A7, A7, A7]) (fun _ => by kernel_rfl) (eS rfl (eS rfl (eS rfl (eS rfl (eS rfl e0))))) (bdS 0 1 rfl (by rfl) (bdS 1 1 rfl (by rfl) (bdS 2 1 rfl (by rfl) (bdS 3 1 rfl (by rfl) (bdS 4 1 rfl (by rfl) bd0)))))) rfl ?_
 refine A6 rfl (C5 (cs := [A7, A7, A7, A7, A7]) kR rfl fun b5 => ?_)
 refine A6 rfl (A8 rfl rfl Cel.cel kR ln5 al5 UpC.upd ?_)
 refine A0 (E7 2 3 4 5) (A5 (A3 (mv_ (A0 (F7 2 3 4 5 10) (C0 ?_)))))
 refine X7 6 ?_
 refine G6 ?_
 refine A3 ?_
 refine A4 (F9 true rfl rfl (ltT (by decide))) rfl ?_
 refine A0 (I5 2 3 4 5 10 11) (A5 ?_)
 refine E2 rfl ?_
 refine A9 (nx (F7 2 3 4 5 10) (A5 (C0 (A3 (mv_ (as_ (A0 (I5 2 3 4 5 6 10) ?_)))))))
 refine I6 (.range 13) (zp 0 [0, 0, 1, 0, 0, 1, 0, 0, 0, 1, 0, 0, 0, 2]) kR kR fun hs => ?_
 refine fm_ hs ?_
 refine D1 hs rfl (qi_ 0 143 5 1 0) rfl ?_
 refine F6 hs rfl ql_ rfl ?_
 refine fm_ hs ?_
 refine D1 hs rfl (qi_ 0 143 5 1 0) rfl ?_
 refine F6 hs rfl ql_ rfl ?_
 refine D1 hs rfl (R6 18446744073709551616 (a := 2) rfl rfl rfl rfl rfl rfl) rfl ?_
 refine fm_ hs ?_
 refine D1 hs rfl (qi_ 0 143 5 1 0) rfl ?_
 refine F6 hs rfl ql_ rfl ?_
 refine D1 hs rfl (A2s 18446744073709551616 rfl rfl rfl rfl rfl rfl (by omega)) rfl ?_
 refine D1 hs rfl (H9 18446744073709551616 rfl rfl rfl rfl rfl rfl) rfl ?_
 refine D1 hs rfl (qi_ 0 143 5 1 0) rfl ?_
 refine G2 rfl rfl rfl (D9 rfl rfl rfl kR SetC.set UpC.upd ?_)
 refine V0 (nb (nx (F7 2 3 4 5 10) (C3 ?_)))
 refine A4 (E4 (1 : Int) rfl rfl (G3 (by decide) (by decide) (by decide))) rfl ?_
 refine mv_ (D0 ?_)
 refine un (F7 2 3 4 5 10) ?_
 refine G6 ?_
 refine A3 ?_
 refine A4 (F9 true rfl rfl (ltT (by decide))) rfl ?_
 refine A0 (I5 2 3 4 5 10 11) (A5 ?_)
 refine E2 rfl ?_
 refine A9 (nx (F7 2 3 4 5 10) (A5 (C0 (A3 (mv_ (as_ (A0 (I5 2 3 4 5 6 10) ?_)))))))
 refine I6 (.range 13) (zp 0 [0, 0, 1, 0, 0, 1, 0, 0, 0, 1, 0, 0, 0, 2]) kR kR fun hs => ?_
 refine fm_ hs ?_
 refine D1 hs rfl (qi_ 1 143 5 1 1) rfl ?_
 refine F6 hs rfl ql_ rfl ?_
 refine fm_ hs ?_
 refine D1 hs rfl (qi_ 1 143 5 1 1) rfl ?_
 refine F6 hs rfl ql_ rfl ?_
 refine D1 hs rfl (R6 18446744073709551616 (a := 2) rfl rfl rfl rfl rfl rfl) rfl ?_
 refine fm_ hs ?_
 refine D1 hs rfl (qi_ 1 143 5 1 1) rfl ?_
 refine F6 hs rfl ql_ rfl ?_
 refine D1 hs rfl (A2s 18446744073709551616 rfl rfl rfl rfl rfl rfl (by omega)) rfl ?_
 refine D1 hs rfl (H9 18446744073709551616 rfl rfl rfl rfl rfl rfl) rfl ?_
 refine D1 hs rfl (qi_ 1 143 5 1 1) rfl ?_
 refine G2 rfl rfl rfl (D9 rfl rfl rfl kR SetC.set UpC.upd ?_)
 refine V0 (nb (nx (F7 2 3 4 5 10) (C3 ?_)))
 refine A4 (E4 (2 : Int) rfl rfl (G3 (by decide) (by decide) (by decide))) rfl ?_
 refine mv_ (D0 ?_)
 refine un (F7 2 3 4 5 10) ?_
 refine G6 ?_
 refine A3 ?_
 refine A4 (F9 true rfl rfl (ltT (by decide))) rfl ?_
 refine A0 (I5 2 3 4 5 10 11) (A5 ?_)
 refine E2 rfl ?_
 refine A9 (nx (F7 2 3 4 5 10) (A5 (C0 (A3 (mv_ (as_ (A0 (I5 2 3 4 5 6 10) ?_)))))))
 refine I6 (.range 13) (zp 0 [0, 0, 1, 0, 0, 1, 0, 0, 0, 1, 0, 0, 0, 2]) kR kR fun hs => ?_
 refine fm_ hs ?_
 refine D1 hs rfl (qi_ 2 143 5 1 2) rfl ?_
 refine F6 hs rfl ql_ rfl ?_
 refine fm_ hs ?_
 refine D1 hs rfl (qi_ 2 143 5 1 2) rfl ?_
 refine F6 hs rfl ql_ rfl ?_
 refine D1 hs rfl (R6 18446744073709551616 (a := 2) rfl rfl rfl rfl rfl rfl) rfl ?_
 refine fm_ hs ?_
 refine D1 hs rfl (qi_ 2 143 5 1 2) rfl ?_
 refine F6 hs rfl ql_ rfl ?_
 refine D1 hs rfl (A2s 18446744073709551616 rfl rfl rfl rfl rfl rfl (by omega)) rfl ?_
 refine D1 hs rfl (H9 18446744073709551616 rfl rfl rfl rfl rfl rfl) rfl ?_
 refine D1 hs rfl (qi_ 2 143 5 1 2) rfl ?_
 refine G2 rfl rfl rfl (D9 rfl rfl rfl kR SetC.set UpC.upd ?_)
 refine V0 (nb (nx (F7 2 3 4 5 10) (C3 ?_)))
 refine A4 (E4 (3 : Int) rfl rfl (G3 (by decide) (by decide) (by decide))) rfl ?_
 refine mv_ (D0 ?_)
 refine un (F7 2 3 4 5 10) ?_
 refine G6 ?_
 refine A3 ?_
 refine A4 (F9 true rfl rfl (ltT (by decide))) rfl ?_
 refine A0 (I5 2 3 4 5 10 11) (A5 ?_)
 refine E2 rfl ?_
 refine A9 (nx (F7 2 3 4 5 10) (A5 (C0 (A3 (mv_ (as_ (A0 (I5 2 3 4 5 6 10) ?_)))))))
 refine I6 (.range 13) (zp 0 [0, 0, 1, 0, 0, 1, 0, 0, 0, 1, 0, 0, 0, 2]) kR kR fun hs => ?_
 refine fm_ hs ?_
 refine D1 hs rfl (qi_ 3 143 5 1 3) rfl ?_
 refine F6 hs rfl ql_ rfl ?_
 refine fm_ hs ?_
 refine D1 hs rfl (qi_ 3 143 5 1 3) rfl ?_
 refine F6 hs rfl ql_ rfl ?_
 refine D1 hs rfl (R6 18446744073709551616 (a := 2) rfl rfl rfl rfl rfl rfl) rfl ?_
 refine fm_ hs ?_
 refine D1 hs rfl (qi_ 3 143 5 1 3) rfl ?_
 refine F6 hs rfl ql_ rfl ?_
 refine D1 hs rfl (A2s 18446744073709551616 rfl rfl rfl rfl rfl rfl (by omega)) rfl ?_
 refine D1 hs rfl (H9 18446744073709551616 rfl rfl rfl rfl rfl rfl) rfl ?_
 refine D1 hs rfl (qi_ 3 143 5 1 3) rfl ?_
 refine G2 rfl rfl rfl (D9 rfl rfl rfl kR SetC.set UpC.upd ?_)
 refine V0 (nb (nx (F7 2 3 4 5 10) (C3 ?_)))
 refine A4 (E4 (4 : Int) rfl rfl (G3 (by decide) (by decide) (by decide))) rfl ?_
 refine mv_ (D0 ?_)
 refine un (F7 2 3 4 5 10) ?_
 refine G6 ?_
 refine A3 ?_
 refine A4 (F9 true rfl rfl (ltT (by decide))) rfl ?_
 refine A0 (I5 2 3 4 5 10 11) (A5 ?_)
 refine E2 rfl ?_
 refine A9 (nx (F7 2 3 4 5 10) (A5 (C0 (A3 (mv_ (as_ (A0 (I5 2 3 4 5 6 10) ?_)))))))
 refine I6 (.range 13) (zp 0 [0, 0, 1, 0, 0, 1, 0, 0, 0, 1, 0, 0, 0, 2]) kR kR fun hs => ?_
 refine fm_ hs ?_
 refine D1 hs rfl (qi_ 4 143 5 1 4) rfl ?_
 refine F6 hs rfl ql_ rfl ?_
 refine fm_ hs ?_
 refine D1 hs rfl (qi_ 4 143 5 1 4) rfl ?_
 refine F6 hs rfl ql_ rfl ?_
 refine D1 hs rfl (R6 18446744073709551616 (a := 2) rfl rfl rfl rfl rfl rfl) rfl ?_
 refine fm_ hs ?_
 refine D1 hs rfl (qi_ 4 143 5 1 4) rfl ?_
 refine F6 hs rfl ql_ rfl ?_
 refine D1 hs rfl (A2s 18446744073709551616 rfl rfl rfl rfl rfl rfl (by omega)) rfl ?_
 refine D1 hs rfl (H9 18446744073709551616 rfl rfl rfl rfl rfl rfl) rfl ?_
 refine D1 hs rfl (qi_ 4 143 5 1 4) rfl ?_
 refine G2 rfl rfl rfl (D9 rfl rfl rfl kR SetC.set UpC.upd ?_)
 refine V0 (nb (nx (F7 2 3 4 5 10) (C3 ?_)))
 refine A4 (E4 (5 : Int) rfl rfl (G3 (by decide) (by decide) (by decide))) rfl ?_
 refine mv_ (D0 ?_)
 refine un (F7 2 3 4 5 10) ?_
 refine G6 ?_
 refine A3 ?_
 refine A4 (F9 false rfl rfl (ltF (by decide))) rfl ?_
 refine A0 (I5 2 3 4 5 10 11) (A5 ?_)
 refine D4 rfl ?_
 refine E6 (te (ue (be rfl (nx (D5 2 4) ?_))))
 have q0 := A3t (t := 9007199254740916) (b := a3) ha (by decide) (by omega)
 have q1 := A3t (t := 9007199254740988) (b := b3) hb (by decide) (by omega)
 have q2 := A3t (t := 9007199254740988) (b := c3) hc (by decide) (by omega)
 have q3 := A3t (t := 9007199254740988) (b := d3) hd (by decide) (by omega)
 have q4 := A3t (t := 9007199254740988) (b := e3) he (by decide) (by omega)
 refine A3 ?_
 refine A4 (qw_ 5) rfl ?_
 refine C9 (aS rfl a0) kR (S6 _ _ _ _ _ (q0 ▸ A1R ha (by decide) (by omega)) (q1 ▸ A1R hb (by decide) (by omega)) (q2 ▸ A1R hc (by decide) (by omega)) (q3 ▸ A1R hd (by decide) (by omega)) (q4 ▸ A1R he (by decide) (by omega)) _) rfl ?_
 rintro r4 M4 J4 ⟨rfl, rfl, a4, b4, c4, d4, e4, rfl, ha4, hb4, hc4, hd4, hv4, he4⟩
 refine C9 (aS rfl a0) kR (S6 _ _ _ _ _ (by omega) (by omega) (by omega) (by omega) (by omega) _) rfl ?_
 rintro r5 M5 J5 ⟨rfl, rfl, a5, b5, c5, d5, e5, rfl, ha5, hb5, hc5, hd5, hv5, he5⟩
 refine A6 rfl (A8 rfl rfl Cel.cel kR ln5 al5 UpC.upd ?_)
 refine A0 (D8 4) (C2 ?_)
 refine ⟨_, [], [], A1k rfl rfl kR At.mem (by rfl), List.nil_sublist _, by simp, rfl, rfl, a5, b5, c5, d5, e5, rfl, by omega, by omega, by omega, by omega, by omega, ?_⟩
 rw [N1 hv5, N1 hv4, ← N1 hv3]
 refine B6r ?_
 rw [← B8y (a := a) (b := b) (c := c) (d := d) (e := e) (a2 := a3) (b2 := b3) (c2 := c3) (d2 := d3) (e2 := e3) (by omega) (by omega) (by omega) (by omega) (by omega), ← q0, ← q1, ← q2, ← q3, ← q4]
abbrev wd (hi lo : Nat) : Value := .agg #[.int .u64 (hi : Int), .int .u64 (lo : Int)]
theorem A9f (x y : Nat) (hx : x < 18446744073709551616) (hy : y < 18446744073709551616) (A : Mem) : FnV Tryz.prog 186 [.int .u64 (x : Int), .int .u64 (y : Int)] A (.tuple #[.int .u64 ((x * y / 18446744073709551616 : Nat) : Int), .int .u64 ((x * y % 18446744073709551616 : Nat) : Int)]) := by
 refine FnX.enter (N := 51) Tryz.func186 rfl rfl rfl fun w => ?_
 refine C4 (D5 0 1) (A3 (as_ (as_ (A0 (D5 0 1) (A3 (mv_ ?_))))))
 refine A4 (L9 32 4294967296 rfl rfl rfl rfl rfl (by show _ < 18446744073709551616; first | assumption | exact Nat.mod_lt _ (by decide) | omega) (by decide)) rfl ?_
 refine as_ (A0 (E1 0 1 6) (A3 (mv_ ?_)))
 refine A4 (N7 32 4294967296 rfl rfl rfl rfl (by decide)) rfl ?_
 refine as_ (A0 (E7 0 1 6 7) (A3 (mv_ ?_)))
 refine A4 (L9 32 4294967296 rfl rfl rfl rfl rfl (by show _ < 18446744073709551616; first | assumption | exact Nat.mod_lt _ (by decide) | omega) (by decide)) rfl ?_
 refine as_ (A0 (F7 0 1 6 7 8) (A3 (mv_ ?_)))
 refine A4 (N7 32 4294967296 rfl rfl rfl rfl (by decide)) rfl ?_
 refine as_ (A0 (I5 0 1 6 7 8 9) (A3 (mv_ (mv_ ?_))))
 refine A4 (R6 18446744073709551616 rfl rfl rfl rfl rfl rfl) rfl ?_
 refine as_ (A0 (X3 0 1 6 7 8 9 10) (A3 (mv_ (mv_ ?_))))
 refine A4 (R6 18446744073709551616 rfl rfl rfl rfl rfl rfl) rfl ?_
 refine mv_ ?_
 refine A4 (N7 32 4294967296 rfl rfl rfl rfl (by decide)) rfl ?_
 refine A4 (H9 18446744073709551616 rfl rfl rfl rfl rfl rfl) rfl ?_
 refine as_ (A0 (I5 0 1 6 7 9 11) (A3 (mv_ ?_)))
 refine A4 (L9 32 4294967296 rfl rfl rfl rfl rfl (by show _ < 18446744073709551616; first | assumption | exact Nat.mod_lt _ (by decide) | omega) (by decide)) rfl ?_
 refine as_ (A0 (X3 0 1 6 7 9 11 12) (A3 (mv_ ?_)))
 refine A4 (N7 32 4294967296 rfl rfl rfl rfl (by decide)) rfl ?_
 refine as_ (A0 (X3 0 1 6 7 9 12 13) (A3 (mv_ (mv_ (mv_ ?_)))))
 refine A4 (R6 18446744073709551616 rfl rfl rfl rfl rfl rfl) rfl ?_
 refine A4 (H9 18446744073709551616 rfl rfl rfl rfl rfl rfl) rfl ?_
 refine as_ (A0 (I5 0 1 7 9 12 13) (A3 (mv_ (mv_ ?_))))
 refine A4 (R6 18446744073709551616 rfl rfl rfl rfl rfl rfl) rfl ?_
 refine mv_ ?_
 refine A4 (H9 18446744073709551616 rfl rfl rfl rfl rfl rfl) rfl ?_
 refine mv_ ?_
 refine A4 (N7 32 4294967296 rfl rfl rfl rfl (by decide)) rfl ?_
 refine A4 (H9 18446744073709551616 rfl rfl rfl rfl rfl rfl) rfl ?_
 refine as_ (A0 (E1 0 1 4) (A3 (mv_ (mv_ ?_))))
 refine A4 (R6 18446744073709551616 rfl rfl rfl rfl rfl rfl) rfl ?_
 refine as_ (A0 (D5 4 5) (C2 ?_))
 refine ⟨_, [], [], A6P rfl rfl rfl, List.nil_sublist _, by simp, ?_, rfl, rfl⟩
 rw [B0D hx hy rfl rfl rfl rfl rfl rfl rfl]
theorem A3v (hi lo a b : Nat) (h1 : hi < 18446744073709551616) (h2 : lo < 18446744073709551616) (h3 : a < 18446744073709551616) (h4 : b < 18446744073709551616) (A : Mem) :
  FnX Tryz.prog 164 [wd hi lo, .int .u64 (a : Int), .int .u64 (b : Int)] [] A fun r M J => M = [] ∧ J = [] ∧ ∃ hi' lo', r = wd hi' lo' ∧ hi' < 18446744073709551616 ∧ lo' < 18446744073709551616 ∧ hi' * 18446744073709551616 + lo' = (hi * 18446744073709551616 + lo + a * b) % 340282366920938463463374607431768211456 := by
 refine FnX.enter (N := 34) Tryz.func164 rfl rfl rfl fun w => ?_
 refine C4 (E1 0 1 2) (A3 ?_)
 refine A6 rfl (bx_ fun b3 => ?_)
 refine A6 rfl (C5 (cs := [.int .u64 0, .int .u64 0]) kR rfl fun b6 => ?_)
 refine A0 (E7 1 2 3 6) (A3 (mv_ (mv_ ?_)))
 refine F8 (aS rfl (aS rfl a0)) kR (A9f a b h3 h4 _) rfl ?_
 have hab : a * b ≤ 18446744073709551615 * 18446744073709551615 := Nat.mul_le_mul (by omega) (by omega)
 generalize a * b = z at *
 refine mv_ ?_
 refine A4 (A2O rfl) rfl ?_
 refine A4 (A2z rfl) rfl ?_
 refine as_ (as_ (A0 (E7 3 6 7 8) (A3 ?_)))
 refine A4 (qf_ 1 1) rfl ?_
 refine A4 ql_ rfl ?_
 refine mv_ ?_
 refine A4 (A5U Tryz.func187 kR kR kR kR rfl rfl rfl (c := 0) (by omega) rfl rfl rfl) rfl ?_
 refine mv_ ?_
 refine A4 (A2O rfl) rfl ?_
 refine A4 (A2z rfl) rfl ?_
 refine as_ (as_ (A0 (F7 3 6 7 8 9) (A3 ?_)))
 refine A4 (qf_ 0 0) rfl ?_
 refine A4 ql_ rfl ?_
 refine mv_ (mv_ ?_)
 refine A4 (A5U Tryz.func187 kR kR kR kR rfl rfl rfl (by omega) rfl rfl rfl) rfl ?_
 refine mv_ ?_
 refine A4 (A2O rfl) rfl ?_
 refine A4 (A2z rfl) rfl ?_
 refine as_ (A0 (E1 6 7 8) (A3 (mv_ (mv_ ?_))))
 refine A4 (F3 (place := fun x => #[(0, 1), (1, 1)][x]?) (z := [.int .u64 0, .int .u64 0]) (fun _ => by kernel_rfl) (eS rfl (eS rfl e0)) (bdS 0 1 rfl (by rfl) (bdS 1 1 rfl (by rfl) bd0))) rfl ?_
 refine A6 rfl (A8 rfl rfl Cel.cel kR ln2 al2 UpC.upd ?_)
 refine A0 (D8 6) (C2 ?_)
 refine ⟨_, [], [], A1k rfl rfl kR At.mem (by rfl), List.nil_sublist _, by simp, rfl, rfl, _, _, rfl, Nat.mod_lt _ (by decide), Nat.mod_lt _ (by decide), ?_⟩
 omega
theorem A03 (hi lo a : Nat) (h1 : hi < 18446744073709551616) (h2 : lo < 18446744073709551616) (h3 : a < 18446744073709551616) (A : Mem) :
  FnX Tryz.prog 165 [wd hi lo, .int .u64 (a : Int)] [] A fun r M J => M = [] ∧ J = [] ∧ ∃ hi' lo', r = wd hi' lo' ∧ hi' < 18446744073709551616 ∧ lo' < 18446744073709551616 ∧ hi' * 18446744073709551616 + lo' = (hi * 18446744073709551616 + lo + a) % 340282366920938463463374607431768211456 := by
 refine FnX.enter (N := 8) Tryz.func165 rfl rfl rfl fun w => ?_
 refine C4 (D5 0 1) (A3 ?_)
 refine A6 rfl (bx_ fun b2 => ?_)
 refine A6 rfl (C5 (cs := [.int .u64 0, .int .u64 0]) kR rfl fun b4 => ?_)
 refine A0 (E1 1 2 4) (A3 ?_)
 refine A4 (qw_ 2) rfl ?_
 refine mv_ ?_
 refine C9 (aS rfl (aS rfl (aS rfl a0))) kR (A3v hi lo a 1 h1 h2 h3 (by decide) _) rfl ?_
 rintro r M1 J1 ⟨rfl, rfl, hi', lo', rfl, g1, g2, g3⟩
 refine A6 rfl (A8 rfl rfl Cel.cel kR ln2 al2 UpC.upd ?_)
 refine A0 (D8 4) (C2 ?_)
 refine ⟨_, [], [], A1k rfl rfl kR At.mem (by rfl), List.nil_sublist _, by simp, rfl, rfl, hi', lo', rfl, g1, g2, ?_⟩
 rw [g3, Nat.mul_one]
theorem A0k (hi lo : Nat) (h1 : hi < 18446744073709551616) (h2 : lo < 18446744073709551616) (A : Mem) : FnV Tryz.prog 166 [wd hi lo] A (.int .u64 (((hi * 18446744073709551616 + lo) / 2251799813685248 % 18446744073709551616 : Nat) : Int)) := by
 refine FnX.enter (N := 10) Tryz.func166 rfl rfl rfl fun w => ?_
 refine C4 (D8 0) (A3 ?_)
 refine A6 rfl (bx_ fun b1 => ?_)
 refine as_ (A0 (D8 1) (A3 ?_))
 refine A4 (qf_ 0 0) rfl ?_
 refine A4 ql_ rfl ?_
 refine A4 (B8d 13 8192 18446744073709551616 rfl rfl rfl rfl rfl rfl (by decide)) rfl ?_
 refine A4 (qf_ 1 1) rfl ?_
 refine A4 ql_ rfl ?_
 refine A4 (N7 51 2251799813685248 rfl rfl rfl rfl (by decide)) rfl ?_
 refine A4 (B4y rfl rfl rfl (by show _ < 18446744073709551616; omega) (by show _ < 18446744073709551616; omega)) rfl ?_
 refine as_ (A0 (D8 2) (C2 ?_))
 refine ⟨_, [], [], I4 rfl rfl, List.nil_sublist _, by simp, ?_, rfl, rfl⟩
 rw [or13 h1 h2]

end Go.Proofs.YthbhpfefdnffaaaGreatDoor
