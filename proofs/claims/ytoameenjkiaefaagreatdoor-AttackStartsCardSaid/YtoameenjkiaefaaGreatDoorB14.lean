/- Part 14 of the texts of this claim, one behind the other. -/
import Derived.Test.YtoameenjkiaefaaGreatDoorB13
set_option linter.unusedVariables false
set_option linter.unusedSimpArgs false
set_option maxRecDepth 100000
namespace Go.Proofs.YtoameenjkiaefaaGreatDoor
open Go.Px
def A0e (ws : List (LN)) : LN := (ws.map mark).flatten
theorem A5c {ws : List (LN)} {i : Nat} {w : LN} (h : ws[i]? = some w) : A0e (ws.take (i + 1)) = A0e (ws.take i) ++ mark w := by
  unfold A0e; rw [List.take_add_one, h]; simp
theorem A7y {ws : List (LN)} (h : ∀ w ∈ ws, ∀ x ∈ w, x < 256) : ∀ x ∈ A0e ws, x < 256 := by
  intro x hx
  obtain ⟨l, hl, hx⟩ := List.mem_flatten.1 hx
  obtain ⟨w, hw, rfl⟩ := List.mem_map.1 hl
  haveI : B256 w := ⟨h w hw⟩
  have hb : B256 (mark w) := inferInstance
  exact hb.lt x hx
def A2F (ws : List (LN)) : Tm := B0H (A0e ws)
def A4a (s : Ps) (ws : List (LN)) : Ps := { s with ts := add s.ts (A2F ws) }
def A1z (s : Ps) (ws : List (LN)) : LN := bts ((at_ s.ts (A2F ws) : Nat) : Int)
theorem B6T (pb : Nat × Nat) (bt : TBk pb) (bm : Nat) (s : Ps) (hr : s.real = false) (u : Value) (ws : List (LN)) (MP A : Mem) (hP : PrmT pb bt bm s MP) (hn : s.ts.length ≤ 1048576) (hu : LsV A u ws) (hwl0 : ws.length ≤ 1000) (hlt0 : ∀ w ∈ ws, ∀ x ∈ w, x < 256) (hG : Glb A) : FnX Tryz.prog 114 [.pointer (some ⟨pb.1, 0, none⟩), u] MP A fun q M J => PrmT pb bt bm (A4a s ws) M ∧ By J q (A1z s ws) := by
 obtain ⟨sv, B, MT, rfl, hby, hT⟩ := hP.ex
 haveI := hby.cel
 obtain ⟨ge4, gf4, h4⟩ := hG.pow
 obtain ⟨us, hus, hls⟩ := hu.ex
 haveI := hus.cel
 refine FnX.enterZ (N := 51) Tryz.func114 rfl rfl rfl fun w_ => ?_
 refine A8 (D0 0 1) (A1 (as_ (A0 (D0 0 1) (A6 (A1 (mv_ ?_))))))
 refine A2 (C9 (e := 118) rfl rfl kR) rfl ?_
 refine A0 (E5 0 1 12) ?_
 refine B0 rfl ?_
 refine A5 (nx (D0 0 1) (A6 (A1 (mv_ ?_))))
 refine A2 (D8 rfl) rfl ?_
 refine A2 (qf_ 0 0) rfl ?_
 refine A2 ql_ rfl ?_
 refine A2 (F3 rfl rfl rfl) rfl ?_
 refine A0 (E5 0 1 17) ?_
 refine B0 rfl ?_
 refine A5 (nx (D0 0 1) (A1 (as_ (A0 (E5 0 1 8) (A6 (A1 (mv_ ?_)))))))
 refine A2 (E2 (sz := 1) rfl kR hus) rfl ?_
 refine mv_ (A0 (G6 0 8 32 33 34) (C5 ?_))
 refine H0 (α := Nat) (fun i => [(0, .pointer (some ⟨pb.1, 0, none⟩)), (8, .string (txt (A0e (ws.take i)))), (32, u), (33, (vI ws.length)), (34, (vI i))]) (fun _ => (pb.1, blk [.int .u8 1, sv, .int .i64 (((s.n : Nat) : Int)), (vP bt)] 118) :: (B ++ MT)) (fun _ => []) (fun i => i ≤ ws.length ∧ (A0e (ws.take i)).length ≤ i * 16777300) (fun i => ws.length - i) 0 ⟨Nat.zero_le _, Nat.zero_le _⟩ (G6 0 8 32 33 34) .rfl qI ?_
 rintro i ⟨hi, hml⟩
 refine A1 ?_
 refine A2 (F3 rfl rfl rfl) rfl ?_
 refine A0 (I7 0 8 32 33 34 35) (A6 ?_)
 refine C3 rfl ?_ ?_ <;> intro hc
 ·
  have hlt : i < ws.length := by simp at hc; omega
  obtain ⟨w, hw⟩ : ∃ w, ws[i]? = some w := ⟨_, List.getElem?_eq_getElem hlt⟩
  obtain ⟨vi, hvi, hwi⟩ := hls.get i w hw
  haveI := hwi.cel
  have hst := A5c hw
  have hmk := A0Y w (by have := hwi.len; omega)
  have hwl := hwi.len
  refine A5 (nx (G6 0 8 32 33 34) (A6 (C5 (A1 ?_))))
  refine A2 (F2 (sz := 1) rfl rfl kR rfl hus hlt) rfl ?_
  refine A2 (L0 (j := i) (u := vi) (hus.mono qS) rfl kR hvi) rfl ?_
  refine as_ (A0 (I7 0 8 10 32 33 34) (C6 (mv_ (mv_ ?_))))
  refine D7 (aS rfl a0) kR (A2f vi w _ (hwi.rd.mono qS) (hb := hwi.b256) qO (mA h4)) rfl ?_
  refine A2 (A0u (ws := A0e (ws.take i)) (ws' := mark w) rfl rfl rfl rfl (by have : i * 16777300 ≤ 1000 * 16777300 := Nat.mul_le_mul_right _ qO; omega)) rfl ?_
  rw [← hst]
  refine as_ (E1 (nb (nx (G6 0 8 32 33 34) (C6 ?_))))
  refine A2 (Q0 ((i + 1 : Nat) : Int) rfl rfl (W1 qO qO qO)) rfl ?_
  refine mv_ (E1 ?_)
  exact rn (i + 1) ⟨hlt, by rw [hst, List.length_append, Nat.add_mul]; omega⟩ qO (G6 0 8 32 33 34) .rfl qI
 ·
  have hge : i = ws.length := by simp at hc; omega
  subst hge
  rw [List.take_length] at hml ⊢
  refine G4 (te (re (be rfl (nx (D0 0 8) (A1 (mv_ ?_))))))
  refine A2 (D8 rfl) rfl ?_
  refine A2 (qf_ 3 3) rfl ?_
  refine A2 ql_ rfl ?_
  refine mv_ ?_
  refine A2 (D6 (place := fun x => #[(0, 1), (1, 1), (2, 1), (3, 1)][x]?) (z := [.int .u8 0, vS, .string ByteArray.empty, .int .i64 0]) (fun _ => by kernel_rfl) (eS rfl (eS rfl e0)) (bdS 0 1 rfl qR (bdS 2 1 rfl qR bd0))) rfl ?_
  refine A4 rfl (A9 (Mc := MT) (R := _) (aS rfl (aS rfl a0)) kR qP (N1 bt bm s.ts (vS) (A2F ws) MT _ hT hn Rd.nil (A1k (A7y hlt0) (by have : ws.length * 16777300 ≤ 1000 * 16777300 := Nat.mul_le_mul_right _ hwl0; omega)) (mA h4)) rfl ?_)
  rintro v49 M49 J49 ⟨rfl, rfl, hT49⟩
  refine A4 rfl (K0 (aS rfl a0) kR (P4 _ _) rfl ?_)
  rintro v50 M50 J50 ⟨rfl, h50⟩
  refine as_ (A0 (C7 4) (A7 ?_))
  exact ⟨_, (pb.1, blk [.int .u8 1, sv, .int .i64 (((s.n : Nat) : Int)), (vP bt)] 118) :: (B ++ M49), [], F7 rfl rfl, (Fit.none (Fit.pick (B := [_]) qP (Fit.pick qP (Fit.last qP)))), ⟨sv, B, M49, rfl, hby, hT49⟩, h50.mono qS⟩

theorem A9F (a b : LN) : mark a ++ mark b = S7 [a, b] := by simp [S7]
theorem B1A (bt bm : Nat) (ts : List Tm) (v : Value) (w : LN) (j : Nat) (MT A : Mem) (hT : Tab bt bm ts MT) (hsub : ∀ x, x ∈ MT → x ∈ A) (hn : ts.length ≤ 1048576) (hv : By A v w) (hj : plc w ts.length = some j) : FnV Tryz.prog 75 [(vP bt), v] A (vI j) := by
 haveI := hv.cel
 refine FnX.enter (N := 20) Tryz.func75 rfl rfl rfl fun w_ => ?_
 refine A8 (D0 0 1) (A1 (as_ (A0 (D0 0 1) (A6 (A1 (mv_ (mv_ ?_)))))))
 refine D7 (aS rfl (aS rfl a0)) kR (T6 bt bm ts v w MT _ hT (fun x hx => qS _ (hsub x hx)) hn (hv.rd.mono qS) hv.lt hv.max) rfl ?_
 rw [hj, Option.getD_some, Option.isSome_some]
 refine mv_ ?_
 refine A2 (R6 rfl) rfl ?_
 refine A2 (R4 rfl) rfl ?_
 refine as_ (as_ (A0 (F4 0 1 5 6) (A1 (mv_ (A0 (F4 0 1 5 13) ?_)))))
 refine E9 rfl ?_
 refine A1 (mv_ (as_ (A0 (C7 4) (A7 (tr ?_)))))
 exact ⟨_, [], [], F7 rfl rfl, List.nil_sublist _, by simp, rfl, rfl, rfl⟩
theorem B1B (pb : Nat × Nat) (bt : TBk pb) (bm : Nat) (m k : Int) (sv : Value) [hsv : Cel sv [sv]] (ts : List Tm) (v : Value) (w : LN) (j : Nat) (MT A : Mem) (hT : Tab bt bm ts MT) (hsub : ∀ x, x ∈ MT → x ∈ A) (hpb : (pb.1, blk [.int .u8 m, sv, .int .i64 k, (vP bt)] 118) ∈ A) (hn : ts.length ≤ 1048576) (hv : By A v w) (hj : plc w ts.length = some j) : FnV Tryz.prog 97 [.pointer (some ⟨pb.1, 0, none⟩), v] A (vI j) := by
 haveI := hv.cel
 refine FnX.enter (N := 11) Tryz.func97 rfl rfl rfl fun w_ => ?_
 refine A8 (D0 0 1) (A1 (as_ (A0 (D0 0 1) (A1 (mv_ ?_)))))
 refine A2 (D8 rfl) rfl ?_
 refine A2 (qf_ 3 3) rfl ?_
 refine A2 (G3 rfl kR (mA hpb) qR) rfl ?_
 refine mv_ ?_
 refine D7 (aS rfl (aS rfl a0)) kR (B1A bt bm ts v w j MT _ hT (fun x hx => qS _ (hsub x hx)) hn (hv.mono qS) hj) rfl ?_
 refine as_ (A0 (C7 4) (A7 ?_))
 exact ⟨_, [], [], F7 rfl rfl, List.nil_sublist _, by simp, rfl, rfl, rfl⟩

theorem A0O (v : Value) (w : LN) (A : Mem) (h : By A v w) : FnX Tryz.prog 153 [v] [] A fun r M J => M = [] ∧ By J r w := by
 haveI := h.cel
 have hwl := h.len
 refine FnX.enterZ (N := 8) Tryz.func153 rfl rfl rfl fun w_ => ?_
 refine A8 (C7 0) (A1 (as_ (A0 (C7 0) (A6 (A1 (mv_ ?_))))))
 refine A2 (Z2 (e := 5) rfl kR (by first | assumption | exact Sl.rd (by assumption) qI | exact By.rd (by assumption))) rfl ?_
 refine A0 (D0 0 4) ?_
 refine C3 rfl ?_ ?_ <;> intro hc
 ·
  have h0 := h.rd.isNil hc
  obtain rfl : w = [] := List.eq_nil_of_length_eq_zero h0
  refine A1 (as_ (A0 (C7 2) (A7 (tr ?_))))
  exact ⟨_, [], [], F7 rfl rfl, qZ, rfl, By.nil⟩
 ·
  refine A5 (nx (C7 0) (A1 ?_))
  refine A4 rfl (C4 (e := 5) (sz := 1) (z := []) kR e0 bd0 rfl fun b5 => ?_)
  refine mv_ ?_
  refine A4 rfl (F6 (e := 5) (sz := 1) (by_ := 1) rfl rfl kR rfl (Sl.fresh (n := 0) (cs := []) (e := 5) rfl qD) (h.rd.mono qS) T1 qP (by unfold maxLen; omega) qO rfl fun v7 B7 hs7 => ?_)
  refine as_ (A0 (C7 2) (A7 ?_))
  exact ⟨_, [], B7, F7 rfl rfl, Fit.pick qP qZ, rfl, ⟨A5r (hs7.rd fun x hx => by simp [hx]) qO qM, h.lt, h.len⟩⟩
theorem A7z (v : Value) (rows : List (List Value)) (f : FuncId) (cs : List Value) (p : Nat → Bool) (A : Mem) (hv : Rd A 3 v rows.length rows.flatten) (hl : ∀ r ∈ rows, r.length = 3) (hn : rows.length ≤ 1099511627776) (hc_ : H2 Tryz.prog f = true) (hf : ∀ (j : Nat) (r : List Value), rows[j]? = some r → FnV Tryz.prog f (.agg r.toArray :: cs) A (.bool (p j))) : FnV Tryz.prog 188 [v, .func (.func f) #[] cs.toArray] A (.int .i64 (A2K p rows.length)) := by
 haveI := hv.cel
 refine FnX.enter (N := 19) Tryz.func188 rfl rfl rfl fun w => ?_
 refine A8 (D0 0 1) (A1 (as_ (A0 (D0 0 1) (A6 (A1 (mv_ ?_))))))
 refine A2 (E2 (sz := 3) rfl kR hv) rfl ?_
 refine mv_ (A0 (F4 0 1 7 8) (C5 ?_))
 refine H0 (α := Nat) (fun i => [(0, v), (1, .func (.func f) #[] cs.toArray), (7, (vI rows.length)), (8, .int .i64 (i : Int))]) (fun _ => []) (fun _ => []) (fun i => i ≤ rows.length ∧ ∀ j, j < i → p j = false) (fun i => rows.length - i) 0 ⟨Nat.zero_le _, fun j h => absurd h (Nat.not_lt_zero j)⟩ (F4 0 1 7 8) .rfl qI ?_
 rintro i ⟨hi, hp⟩
 refine A1 ?_
 refine A2 (F3 rfl rfl rfl) rfl ?_
 refine A0 (G6 0 1 7 8 9) (A6 ?_)
 refine C3 rfl ?_ ?_ <;> intro hc
 ·
  have hlt : i < rows.length := by simp at hc; omega
  obtain ⟨r, hr⟩ : ∃ r, rows[i]? = some r := ⟨_, List.getElem?_eq_getElem hlt⟩
  refine A5 (nx (F4 0 1 7 8) (A6 (C5 (A1 (mv_ (as_ (A0 (G6 0 1 5 7 8) (A1 ?_))))))))
  refine mv_ (mv_ (mv_ ?_))
  refine A2 (F2 (sz := 3) rfl rfl kR rfl hv hlt) rfl ?_
  refine A2 (U4 rfl kR (hv.mono qS) hl qD hr) rfl ?_
  refine A4 rfl (X7 rfl (aS rfl a0) hc_ (hf i r hr) rfl ?_)
  refine A0 (I7 0 1 5 7 8 16) ?_
  refine C3 rfl ?_ ?_ <;> intro hc
  ·
   refine A1 (mv_ (as_ (A0 (C7 4) (A7 (br (tr (rr (br ?_))))))))
   refine tr ?_
   exact ⟨_, [], [], F7 rfl rfl, List.nil_sublist _, by simp, by rw [U9 hlt hp hc], rfl, rfl⟩
  ·
   refine A5 (nb (nx (F4 0 1 7 8) (C6 ?_)))
   refine A2 (G9 (b := 1) rfl rfl rfl rfl qO) rfl ?_
   refine mv_ (E1 ?_)
   exact rn (i + 1) ⟨hlt, fun j hj => by rcases Nat.lt_succ_iff_lt_or_eq.1 hj with h | h; exact hp j h; rw [h]; exact hc⟩ qO (F4 0 1 7 8) .rfl qI
 ·
  have hge : i = rows.length := by simp at hc; omega
  subst hge
  refine G4 (te (re (be rfl (nx kn (A1 (as_ (A0 (C7 4) ?_)))))))
  refine A7 ?_
  exact ⟨_, [], [], F7 rfl rfl, List.nil_sublist _, by simp, by rw [V0 hp], rfl, rfl⟩
theorem A2G (b o cap n i j : Nat) (cs xs : List Value) (e : TypeId) (A : Mem) (hn : n ≤ cap) (hcap : cap ≤ maxLen) (hfit : o + cap * 3 ≤ cs.length) (hl : xs.length = n * 3) (hx : ∀ j u, xs[j]? = some u → cs[o + j]? = some u)
    (h1 : ∀ c ∈ xs, c.oneCell' = true) (hij : i < j) (hjn : j ≤ n) :
    FnX Tryz.prog 156 [.slice (some ⟨b, o, none⟩) n cap, .int .i64 i, .int .i64 j] [(b, blk cs e)] A
      fun v M J => J = [] ∧ Sl 3 v (n - (j - i)) (xs.take (i * 3) ++ xs.drop (j * 3)) M := by
  refine FnX.enter (N := 33) Tryz.func156 rfl rfl rfl fun w => ?_
  refine A8 (E5 0 1 2) (A1 (as_ (A0 (E5 0 1 2) (A1 (mv_ (mv_ (mv_ (mv_ ?_))))))))
  refine A2 (A0s (e := 229) rfl kR) rfl ?_
  refine A2 (A3w (e := 229) (sz := 3) rfl kR kR (o1 i rfl rfl) (o1 j rfl rfl) (o1 n rfl rfl) qM (by simp; omega) (by simp; omega) (by simp; omega)) rfl ?_
  refine A0 (E5 0 1 2) (A6 (A1 (mv_ (mv_ ?_))))
  refine A2 (F3 rfl rfl rfl) rfl ?_
  refine A0 (F4 0 1 2 16) ?_
  refine C3 rfl ?_ ?_ <;> intro hc
  ·
    simp at hc; omega
  ·
    refine A5 (nx (E5 0 1 2) (A1 (mv_ ?_)))
    refine A2 (A0s (e := 229) rfl kR) rfl ?_
    refine as_ (A0 (F4 0 1 2 7) ?_)
    refine B3f ([]) [] [(0, 0), (1, 0), (2, 0), (3, 0), (4, 0), (5, 0), (6, 2), (7, 0)] kR kR qM fun hs => ?_
    refine B3g hs rfl qm_ rfl ?_
    refine B3g hs rfl qm_ rfl ?_
    refine B3g hs rfl (B2h (h := i) (e := 229) (sz := 3) rfl rfl kR kR rfl qO) rfl ?_
    refine B3g hs rfl qm_ rfl ?_
    refine B3g hs rfl qm_ rfl ?_
    refine B3g hs rfl (B2i (h := j) (e := 229) (sz := 3) rfl rfl kR kR rfl qO qO) rfl ?_
    refine B7R rfl rfl rfl (A7T (e := 229) (sz := 3) (by_ := 56) (m := n - j) (cs := cs) rfl rfl kR ((Rd.lo ⟨_, cap, rfl, hl, hn, .inr ⟨b, o, cs, e, (0, 0), rfl, m0, hx⟩⟩ j hjn)) (fun c hc => h1 c (List.mem_of_mem_drop hc)) qO hfit rfl UpC.upd rfl ?_)
    refine B3g hs rfl (F5 rfl) rfl ?_
    refine B5F (D0 0 7) ?_
    refine A1 (mv_ (mv_ ?_))
    refine A2 (A0s (e := 229) rfl kR) rfl ?_
    refine mv_ ?_
    refine A2 (B3i (lo := i + (n - j)) (hi := n) (e := 229) (sz := 3) rfl rfl rfl kR kR rfl rfl qO qO qO) rfl ?_
    refine A4 rfl (A7U (e := 229) (sz := 3) (by_ := 56) (zs := (Builtin.zeroCells #[vS, .int .u32 0, vS] (n - (i + (n - j)))).toList) rfl kR kR (A0R (by simp [Value.oneCell']) qM _) ?h1 rfl UpC.upd ?_)
    case h1 => simp [hl]; omega
    refine A0 (C7 0) (A1 (mv_ (as_ (A0 (C7 6) (A7 ?_)))))
    refine ⟨_, _, [], F7 rfl rfl, List.Sublist.refl _, by simp, rfl, ?_⟩
    show Sl 3 _ (n - (j - i)) _ _
    rw [show n - (j - i) = i + (n - j) from by omega]
    have hd : (xs.drop (j * 3)).length = (n - j) * 3 := by simp [hl]; omega
    refine .inr ⟨b, o, cap, _, e, rfl, rfl, by omega, hcap, ?_, ?_, ?_⟩
    · simp [hl, Builtin.zeroCells]; omega
    · simp [hl]; omega
    · intro q u hq
      have hlt : q < (i + (n - j)) * 3 := by have := (List.getElem?_eq_some_iff.1 hq).1; simp [hl] at this; omega
      rw [Y8 (by simp [hl]; omega) qO]
      by_cases hqi : q < i * 3
      · rw [Y8 qO qO]
        rw [List.getElem?_append_left (by simp [hl]; omega), List.getElem?_take_of_lt hqi] at hq
        exact hx q u hq
      · rw [A0h qO qO qO]
        rw [List.getElem?_append_right (by simp [hl]; omega)] at hq
        rw [← hq]
        congr 1
        simp [hl]; omega
theorem A7A (v : Value) (n : Nat) (xs : List Value) (A : Mem) (h : Rd A 3 v n xs) (h1 : ∀ c ∈ xs, c.oneCell' = true) (hn : n ≤ 1099511627776) : FnX Tryz.prog 221 [v] [] A fun r M J => Sl 3 r n xs M := by
 haveI := h.cel
 refine FnX.enterZ (N := 8) Tryz.func221 rfl rfl rfl fun w_ => ?_
 refine A8 (C7 0) (A1 (as_ (A0 (C7 0) (A6 (A1 (mv_ ?_))))))
 refine A2 (Z2 (e := 229) rfl kR (by first | assumption | exact Sl.rd (by assumption) qI | exact By.rd (by assumption))) rfl ?_
 refine A0 (D0 0 4) ?_
 refine C3 rfl ?_ ?_ <;> intro hc
 ·
  have h0 := h.isNil hc
  subst h0
  obtain rfl : xs = [] := List.eq_nil_of_length_eq_zero (by have := h.len; omega)
  refine A1 (as_ (A0 (C7 2) (A7 (tr ?_))))
  exact ⟨_, [], [], F7 rfl rfl, qZ, Sl.nil⟩
 ·
  refine A5 (nx (C7 0) (A1 ?_))
  refine A4 rfl (C4 (e := 229) (sz := 3) (z := []) kR e0 bd0 rfl fun b5 => ?_)
  refine mv_ ?_
  refine A4 rfl (F6 (e := 229) (sz := 3) (by_ := 56) rfl rfl kR rfl (Sl.fresh (n := 0) (cs := []) (e := 229) rfl qD) (Rd.mono h qS) h1 qP (by unfold maxLen; omega) qO rfl fun v7 B7 hs7 => ?_)
  refine as_ (A0 (C7 2) (A7 ?_))
  exact ⟨_, B7, [], F7 rfl rfl, Fit.none (Fit.last qP), by simpa using hs7⟩

structure Skp where
  of : LN
  n : Nat
  key : LN
deriving DecidableEq
def skR (R : Mem) (s : Skp) (r : List Value) : Prop := ∃ vo vk, r = [vo, (vU s.n), vk] ∧ By R vo s.of ∧ By R vk s.key ∧ s.n < 4294967296
theorem skT : RowT 3 skR := ⟨fun R R' x r hR ⟨vo, vk, h1, h2, h3, h4⟩ => ⟨vo, vk, h1, h2.mono hR, h3.mono hR, h4⟩, fun R x r ⟨vo, vk, h1, _⟩ => by rw [h1]; rfl, fun R x r ⟨vo, vk, h1, h2, h3, _⟩ c hc => by
  rw [h1] at hc
  simp only [List.mem_cons, List.not_mem_nil, or_false] at hc
  rcases hc with rfl | rfl | rfl
  · exact h2.one
  · rfl
  · exact h3.one⟩
structure Sto (R : Mem) (sb : Nat) (sks : List Skp) (M : Mem) : Prop where
  ex : ∃ v rows B, M = (sb, blk [v] 195) :: B ∧ Sl 3 v sks.length rows.flatten B ∧ RwL skR R rows sks
theorem Sto.mono {R R' : Mem} {sb : Nat} {sks : List Skp} {M : Mem} (h : Sto R sb sks M) (hR : ∀ x, x ∈ R → x ∈ R') : Sto R' sb sks M := by
  obtain ⟨v, rows, B, h1, h2, h3⟩ := h.ex
  exact ⟨v, rows, B, h1, h2, h3.mono skT hR⟩
def tst (of : LN) (n : Nat) (s : Skp) : Bool := decide (s.n = n) && decide (s.of = of)
def A3p (sks : List Skp) (of : LN) (n : Nat) : List Skp := if Q5 (tst of n) sks < 0 then sks else sks.eraseIdx (Q5 (tst of n) sks).toNat
def B2U (sks : List Skp) (x : Skp) : List Skp := (A3p sks x.of x.n ++ [x]).drop ((A3p sks x.of x.n ++ [x]).length - 32)
theorem A4b {sks : List Skp} {of : LN} {n : Nat} (h : Q5 (tst of n) sks = -1) : A3p sks of n = sks := if_pos (by rw [h]; decide)
theorem A1R {sks : List Skp} {of : LN} {n i : Nat} (h : Q5 (tst of n) sks = (i : Int)) : A3p sks of n = sks.eraseIdx i := by
  unfold A3p; rw [h, if_neg qO, Int.toNat_natCast]
theorem A4c (sks : List Skp) (of : LN) (n : Nat) : (A3p sks of n).length ≤ sks.length := by
  unfold A3p; split
  · exact Nat.le_refl _
  · exact List.length_eraseIdx_le _ _
theorem B1C (sks : List Skp) (x : Skp) : (B2U sks x).length ≤ 32 := by
  unfold B2U; rw [List.length_drop]; omega
theorem B1D (vo vk vof : Value) (s : Skp) (of : LN) (n : Nat) (b4 b5 : Nat) (A : Mem) (ho : By A vo s.of) (hk : By A vk s.key) (hof : By A vof of) (hb5 : (b5, blk [(vU n)] 31) ∈ A) (hb4 : (b4, blk [vof] 22) ∈ A) : FnV Tryz.prog 189 [.agg #[vo, (vU s.n), vk], (vP b5), (vP b4)] A (.bool (tst of n s)) := by
 haveI := ho.cel
 haveI := hk.cel
 haveI := hof.cel
 refine FnX.enter (N := 15) Tryz.func189 rfl rfl rfl fun w => ?_
 refine A8 (E5 0 1 2) (A1 ?_)
 refine A4 rfl (bx_ fun b3 => ?_)
 refine as_ (A0 (E5 1 2 3) (A1 ?_))
 refine A2 (qf_ 1 1) rfl ?_
 refine A2 ql_ rfl ?_
 refine A2 (G3 rfl kR (mA hb5) qR) rfl ?_
 refine A2 (F3 rfl rfl rfl) rfl ?_
 refine mv_ ?_
 refine H4 (t := 9) rfl (fun hb => ?_) (fun hb => ?_)
 ·
  have hnn : s.n = n := by simp at hb; omega
  refine C0 rfl rfl (OpQ.opL (qf_ 0 0) rfl ?_)
  refine C0 rfl rfl (OpQ.opL ql_ rfl ?_)
  refine C0 rfl rfl (OpQ.opL (G3 rfl kR (mA hb4) qR) rfl ?_)
  refine K4 rfl rfl (aS rfl (aS rfl a0)) kR (V2 vo vof s.of of _ (ho.mono qS) (hof.mono qS)) rfl ?_
  refine A2 (E3 rfl rfl) rfl ?_
  refine as_ (A0 (C7 4) (A7 ?_))
  exact ⟨_, [], [], F7 rfl rfl, List.nil_sublist _, by simp, by unfold tst; rw [hnn]; simp, rfl, rfl⟩
 ·
  have hnn : s.n ≠ n := by simp at hb; omega
  refine D1 rfl rfl rfl rfl ?_
  refine D1 rfl rfl rfl rfl ?_
  refine D1 rfl rfl rfl rfl ?_
  refine D1 rfl rfl rfl rfl ?_
  refine A2 (C8 rfl rfl) rfl ?_
  refine as_ (A0 (C7 4) (A7 ?_))
  exact ⟨_, [], [], F7 rfl rfl, List.nil_sublist _, by simp, by unfold tst; simp [hnn], rfl, rfl⟩
theorem B1E {vof : Value} {sks : List Skp} {rows : List (List Value)} {of : LN} {n b4 b5 : Nat} {A : Mem} (hR : RwL skR A rows sks) (hof : By A vof of) (hb5 : (b5, blk [(vU n)] 31) ∈ A) (hb4 : (b4, blk [vof] 22) ∈ A) :
    ∀ (j : Nat) (r : List Value), rows[j]? = some r → FnV Tryz.prog 189 (.agg r.toArray :: [(vP b5), (vP b4)]) A (.bool ((fun j => (sks[j]?.map (tst of n)).getD false) j)) := fun j r hr => by
  obtain ⟨s, hs, vo, vk, rfl, ho, hk, _⟩ := hR.of hr
  dsimp only
  rw [hs]
  exact B1D vo vk vof s of n b4 b5 _ ho hk hof hb5 hb4
theorem A2H (sb : Nat) (v vof : Value) (rows : List (List Value)) (sks : List Skp) (of : LN) (n : Nat) (A : Mem) (hsb : (sb, blk [v] 195) ∈ A) (hv : Rd A 3 v sks.length rows.flatten) (hR : RwL skR A rows sks) (hl : sks.length ≤ 1000000) (hof : By A vof of) : FnV Tryz.prog 152 [(vP sb), vof, (vU n)] A (.int .i64 (Q5 (tst of n) sks)) := by
 haveI := hof.cel
 haveI := hv.cel
 refine FnX.enter (N := 15) Tryz.func152 rfl rfl rfl fun w => ?_
 refine A8 (E5 0 1 2) (A1 ?_)
 refine A4 rfl (bx_ fun b4 => ?_)
 refine A4 rfl (bx_ fun b5 => ?_)
 refine as_ (A0 (E5 0 4 5) (A6 (A1 (mv_ ?_))))
 refine A2 (C9 (e := 195) rfl rfl kR) rfl ?_
 refine A0 (F4 0 4 5 8) ?_
 refine B0 rfl ?_
 refine A5 (nx (E5 0 4 5) (A1 (mv_ ?_)))
 refine A2 (D8 rfl) rfl ?_
 refine A2 (qf_ 0 0) rfl ?_
 refine A2 (G3 rfl kR (mA hsb) qR) rfl ?_
 refine A2 (A1N (aS rfl (aS rfl a0))) rfl ?_
 refine D7 (aS rfl (aS rfl a0)) kR (A7z v rows 189 [(vP b5), (vP b4)] (fun j => (sks[j]?.map (tst of n)).getD false) _ (by rw [hR.len]; exact hv.mono qS) (hR.lens skT) (by rw [hR.len]; omega) kR (B1E (hR.mono skT qS) (hof.mono qS) qM qM)) rfl ?_
 refine as_ (A0 (C7 6) (A7 ?_))
 exact ⟨_, [], [], F7 rfl rfl, List.nil_sublist _, by simp, by rw [hR.len]; rfl, rfl, rfl⟩

theorem A9G {M B R B' : Mem} (h : M.Perm (B ++ R)) (hs : B'.Sublist B) : Fit M B' := ⟨_, h, hs.trans (List.sublist_append_left _ _)⟩
theorem Sl.cast {sz n n' : Nat} {v : Value} {xs xs' : List Value} {B : Mem} (h : Sl sz v n xs B) (h1 : n = n') (h2 : xs = xs') : Sl sz v n' xs' B := by subst h1; subst h2; exact h
def A4d (sks : List Skp) (of : LN) (n : Nat) : Option (LN) := if Q5 (tst of n) sks < 0 then none else (sks[(Q5 (tst of n) sks).toNat]?).map (·.key)
theorem A9H {sks : List Skp} {of : LN} {n : Nat} (h : Q5 (tst of n) sks = -1) : A4d sks of n = none := if_pos (by rw [h]; decide)
theorem A6K {sks : List Skp} {of : LN} {n i : Nat} {x : Skp} (h : Q5 (tst of n) sks = (i : Int)) (hx : sks[i]? = some x) : A4d sks of n = some x.key := by
  unfold A4d; rw [h, if_neg qO, Int.toNat_natCast, hx]; rfl
theorem B1F (sb : Nat) (vof vk : Value) (sks : List Skp) (of key : LN) (n : Nat) (R MS A : Mem) (hS : Sto R sb sks MS) (hR : ∀ x, x ∈ R → x ∈ A) (hl : sks.length ≤ 1000000) (hof : By R vof of) (hk : By R vk key) (hn : n < 4294967296) : FnX Tryz.prog 157 [(vP sb), .agg #[vof, (vU n), vk]] MS A fun q M J => q = .tuple #[] ∧ Sto (J ++ R) sb (B2U sks ⟨of, n, key⟩) M := by
  obtain ⟨v, rows, B, rfl, hsl, hrw⟩ := hS.ex
  haveI := hsl.cel
  haveI := hof.cel
  haveI := hk.cel
  refine FnX.enterZ (N := 59) Tryz.func157 rfl rfl rfl fun w_ => ?_
  refine A8 (D0 0 1) (A1 ?_)
  refine A4 rfl (bx_ fun b3 => ?_)
  refine A0 (D0 0 3) (A6 (A1 (mv_ ?_)))
  refine A2 (C9 (e := 195) rfl rfl kR) rfl ?_
  refine A0 (E5 0 3 6) ?_
  refine B0 rfl ?_
  refine A5 (nx (D0 0 3) ?_)
  refine P2 (α := Value × List (List Value) × Mem) (fun x => [(0, (vP sb)), (3, (vP b3))]) (fun x => (b3, blk [vof, (vU n), vk] 229) :: (sb, blk [x.1] 195) :: x.2.2) (fun _ => []) (fun x => Sl 3 x.1 (A3p sks of n).length x.2.1.flatten x.2.2 ∧ RwL skR R x.2.1 (A3p sks of n)) ?_ ?_
  ·
    refine A1 (mv_ ?_)
    refine A2 (qf_ 0 0) rfl ?_
    refine A2 ql_ rfl ?_
    refine A2 (qf_ 1 1) rfl ?_
    refine A2 ql_ rfl ?_
    refine D7 (aS rfl (aS rfl (aS rfl a0))) kR (A2H sb v vof rows sks of n _ qM (hsl.rd qS) (hrw.mono skT (fun x hx => mA (hR x hx))) hl (hof.mono (fun x hx => mA (hR x hx)))) rfl ?_
    refine as_ (A0 (E5 0 3 4) (A1 (mv_ ?_)))
    refine A2 (F3 rfl rfl rfl) rfl ?_
    refine A0 (F4 0 3 4 14) ?_
    refine C3 rfl ?_ ?_ <;> intro hc
    ·
      obtain ⟨hf, hz⟩ | ⟨i, x, hf, hxi, hq, hmin⟩ := N2 (tst of n) sks
      · rw [hf] at hc; simp at hc
      have hil := (List.getElem?_eq_some_iff.1 hxi).1
      rw [hf]
      obtain ⟨p, rfl, h0, _, _⟩ | ⟨b, o, cap, cs, e, rfl, rfl, g1, g2, g3, g4, g5⟩ := hsl
      · omega
      refine C6 (mv_ (mv_ ?_))
      refine A2 (D8 rfl) rfl ?_
      refine A2 (qf_ 0 0) rfl ?_
      refine A2 ql_ rfl ?_
      refine mv_ (mv_ ?_)
      refine A2 (G9 (b := 1) rfl rfl rfl rfl qO) rfl ?_
      refine A4 rfl (A9 (Mc := [(b, blk cs e)]) (R := _) (aS rfl (aS rfl (aS rfl a0))) kR qP (A2G b o cap sks.length i (i + 1) cs rows.flatten e _ g1 g2 g3 g4 g5 (hrw.ones skT) qO qO) rfl ?_)
      rintro v23 M23 J23 ⟨rfl, hs23⟩
      have hsd : Sl 3 v23 (sks.eraseIdx i).length (rows.take i ++ rows.drop (i + 1)).flatten M23 := by
        have h := hs23
        rw [A3e (hrw.lens skT)] at h
        exact Sl.cast h (by rw [List.length_eraseIdx, if_pos hil]; omega) rfl
      haveI := hsd.cel
      refine A2 (D8 rfl) rfl ?_
      refine A2 (qf_ 0 0) rfl ?_
      refine A4 rfl (F8 rfl rfl hsd.one kR SetC.set UpC.upd ?_)
      refine E1 ?_
      exact jn (v23, rows.take i ++ rows.drop (i + 1), M23) ⟨by rw [A1R hf]; exact hsd, by rw [A1R hf]; exact hrw.erase i⟩ (D0 0 3) (Fit.pick (B := [_]) qP (Fit.pick (B := [_]) qP (Fit.last qP))) (fun _ h => by cases h)
    ·
      have hf : Q5 (tst of n) sks = -1 := by
        obtain ⟨hf, hz⟩ | ⟨i, x, hf, hxi, hq, hmin⟩ := N2 (tst of n) sks
        · exact hf
        · rw [hf] at hc; (simp at hc) <;> omega
      refine A5 ?_
      exact jn (v, rows, B) ⟨by rw [A4b hf]; exact hsl, by rw [A4b hf]; exact hrw⟩ (D0 0 3) .rfl qI
  ·
    rintro ⟨v1, rows1, B1⟩ ⟨hsl1, hrw1⟩
    dsimp only at hsl1 hrw1 ⊢
    haveI := hsl1.cel
    have hdl := A4c sks of n
    have hdd : B2U sks ⟨of, n, key⟩ = List.drop ((A3p sks of n ++ [(⟨of, n, key⟩ : Skp)]).length - 32) (A3p sks of n ++ [(⟨of, n, key⟩ : Skp)]) := rfl
    generalize A3p sks of n = ds at *
    rw [List.length_append, List.length_singleton] at hdd
    refine G5 [0, 1, 2, 3, 4, 5, 6, 7, 8, 9, 10, 11, 12, 13, 14, 16, 17] [(0, 0), (1, 0), (2, 0), (3, 0), (4, 1), (5, 0), (6, 1), (8, 0), (9, 1), (10, 0), (11, 1), (7, 2), (12, 2), (13, 0), (14, 2), (15, 2), (16, 0), (17, 0), (18, 2)] kR kR fun hs => ?_
    refine fm_ hs ?_
    refine fm_ hs ?_
    refine E8 hs rfl (D8 rfl) rfl ?_
    refine E8 hs rfl (qf_ 0 0) rfl ?_
    refine R5 hs rfl ql_ rfl ?_
    refine E8 hs rfl (qf_ 0 0) rfl ?_
    refine R5 hs rfl ql_ rfl ?_
    refine E8 hs rfl (qf_ 1 1) rfl ?_
    refine R5 hs rfl ql_ rfl ?_
    refine E8 hs rfl (qf_ 2 2) rfl ?_
    refine R5 hs rfl ql_ rfl ?_
    refine Y9 rfl (aS rfl a0) kR (A0O vof of _ (hof.mono (fun x hx => mA (hR x hx)))) rfl ?_
    rintro v33 M33 J33 ⟨rfl, h33⟩
    haveI := h33.cel
    refine Y9 rfl (aS rfl a0) kR (A0O vk key _ (hk.mono (fun x hx => mA (hR x hx)))) rfl ?_
    rintro v38 M38 J38 ⟨rfl, h38⟩
    haveI := h38.cel
    refine E8 hs rfl (D6 (place := fun x => #[(0, 1), (1, 1), (2, 1)][x]?) (z := [vS, .int .u32 0, vS]) (fun _ => by kernel_rfl) (eS rfl (eS rfl (eS rfl e0))) (bdS 0 1 rfl qR (bdS 1 1 rfl qR (bdS 2 1 rfl qR bd0)))) rfl ?_
    refine A5s rfl rfl fun _ => (C4 (e := 229) (sz := 3) (z := [vS, .int .u32 0, vS]) kR (eS rfl e0) (bdS 0 3 rfl qR bd0) rfl fun b40 => ?_)
    refine L7 rfl rfl rfl (F6 (e := 229) (sz := 3) (by_ := 56) rfl rfl kR rfl hsl1 (Rd.whole (n := 1) At.mem qR) (by intro c hc; simp only [List.mem_cons, List.not_mem_nil, or_false] at hc; rcases hc with rfl | rfl | rfl; exact h33.one; rfl; exact h38.one) qP (by unfold maxLen; omega) qO rfl fun v41 B41 hs41 => ?_)
    haveI := hs41.cel
    refine E8 hs rfl (D8 rfl) rfl ?_
    refine E8 hs rfl (qf_ 0 0) rfl ?_
    refine L7 rfl rfl rfl (F8 rfl rfl hs41.one kR SetC.set UpC.upd ?_)
    obtain ⟨B42, hsub42, hs42⟩ := hs41.loV (ds.length + 1 - 32) qO
    refine I2 (C7 0) ?_
    refine S3 (.range 15) (zp 0 [0, 0, 0, 0, 1, 0, 0, 0, 1, 0, 0, 0, 0, 0, 0, 2]) kR kR fun hs => ?_
    refine fm_ hs ?_
    refine fm_ hs ?_
    refine E8 hs rfl (D8 rfl) rfl ?_
    refine E8 hs rfl (qf_ 0 0) rfl ?_
    refine R5 hs rfl ql_ rfl ?_
    refine fm_ hs ?_
    refine E8 hs rfl (D8 rfl) rfl ?_
    refine E8 hs rfl (qf_ 0 0) rfl ?_
    refine R5 hs rfl ql_ rfl ?_
    refine E8 hs rfl (E2 (sz := 3) rfl kR (hs41.rd (R := B41) fun _ h => h)) rfl ?_
    refine E8 hs rfl (Q0 (((ds.length + 1 : Nat) : Int) - 32) rfl rfl (A6Y qO qO qO)) rfl ?_
    refine E8 hs rfl (B5H (((ds.length + 1 - 32 : Nat)) : Int) rfl rfl (by split <;> omega)) rfl ?_
    refine E8 hs rfl (A4v (sz := 3) (a := ds.length + 1 - 32) rfl rfl kR rfl (hs41.rd (R := B41) fun _ h => h) qO) rfl ?_
    refine E8 hs rfl (D8 rfl) rfl ?_
    refine E8 hs rfl (qf_ 0 0) rfl ?_
    refine L7 rfl rfl rfl (F8 rfl rfl hs42.one kR SetC.set UpC.upd ?_)
    refine A10 ?_
    refine ⟨_, (sb, blk [vLo (ds.length + 1 - 32) 3 v41] 195) :: B42, [], A2V rfl, Fit.none (Fit.pick (B := [_]) qP (A9G (B := B41) qP hsub42)), rfl, ⟨_, (rows1 ++ [[v33, (vU n), v38]]).drop (ds.length + 1 - 32), B42, rfl, ?_, ?_⟩⟩
    · refine Sl.cast hs42 ?_ ?_
      · rw [hdd, List.length_drop, List.length_append, List.length_singleton]
      · rw [← A0S (s := 3) (by intro r hr; rcases List.mem_append.1 hr with h | h; exact hrw1.lens skT r h; rw [List.mem_singleton.1 h]; rfl)]; simp
    · rw [hdd]
      refine (RwL.snoc (x := (⟨of, n, key⟩ : Skp)) (r := [v33, (vU n), v38]) (hrw1.mono skT (fun x hx => List.mem_append_right _ hx)) ⟨v33, v38, rfl, h33.mono (fun x hx => ?_), h38.mono (fun x hx => ?_), hn⟩).drop _ <;> simp [hx]
theorem B1G (sb : Nat) (v vof : Value) (rows : List (List Value)) (sks : List Skp) (of : LN) (n : Nat) (A : Mem) (hsb : (sb, blk [v] 195) ∈ A) (hv : Rd A 3 v sks.length rows.flatten) (hrw : RwL skR A rows sks) (hl : sks.length ≤ 1000000) (hof : By A vof of) : FnX Tryz.prog 116 [(vP sb), vof, (vU n)] [] A fun q M J => M = [] ∧ ∃ u, q = .tuple #[u, .bool (A4d sks of n).isSome] ∧ By J u ((A4d sks of n).getD []) := by
 haveI := hof.cel
 haveI := hv.cel
 refine FnX.enterZ (N := 24) Tryz.func116 rfl rfl rfl fun w_ => ?_
 refine A8 (E5 0 1 2) (A1 (as_ (as_ (A0 (E5 0 1 2) (A1 (mv_ (mv_ (mv_ ?_))))))))
 refine D7 (aS rfl (aS rfl (aS rfl a0))) kR (A2H sb v vof rows sks of n _ (mA hsb) (hv.mono qS) (hrw.mono skT qS) hl (hof.mono qS)) rfl ?_
 refine as_ (A0 (D0 0 8) (A6 (A1 (mv_ ?_))))
 refine A2 (F3 rfl rfl rfl) rfl ?_
 refine A0 (E5 0 8 14) ?_
 refine C3 rfl ?_ ?_ <;> intro hc
 ·
  have hf : Q5 (tst of n) sks = -1 := by
   obtain ⟨hf, hz⟩ | ⟨i, x, hf, hxi, hq, hmin⟩ := N2 (tst of n) sks
   · exact hf
   · rw [hf] at hc; (simp at hc) <;> omega
  refine A1 (as_ (as_ (A0 (D0 6 7) (A7 (tr ?_)))))
  exact ⟨_, [], [], A1g rfl rfl rfl, qZ, rfl, _, by rw [A9H hf]; rfl, by rw [A9H hf]; exact By.nil⟩
 ·
  obtain ⟨hf, hz⟩ | ⟨i, x, hf, hxi, hq, hmin⟩ := N2 (tst of n) sks
  · rw [hf] at hc; simp at hc
  have hil := (List.getElem?_eq_some_iff.1 hxi).1
  rw [hf]
  obtain ⟨r, hr, vo, vk, rfl, ho, hk, hn⟩ := hrw.get i x hxi
  haveI := hk.cel
  refine A5 (nx (D0 0 8) (A1 (mv_ ?_)))
  refine A2 (D8 rfl) rfl ?_
  refine A2 (qf_ 0 0) rfl ?_
  refine A2 (G3 rfl kR (mA hsb) qR) rfl ?_
  refine mv_ ?_
  refine A2 (F2 (sz := 3) rfl rfl kR rfl hv hil) rfl ?_
  refine A2 (A8u (off := 2) rfl hv hil kR) rfl ?_
  refine A2 (A8v (u := vk) rfl (hv.mono qS) qO kR (by rw [A0j (hrw.lens skT) hr 2 qD]; rfl)) rfl ?_
  refine E0 (aS rfl a0) kR (A0O vk x.key _ (hk.mono qS)) rfl ?_
  rintro v23 M23 J23 ⟨rfl, h23⟩
  haveI := h23.cel
  refine as_ (as_ (A0 (D0 6 7) (A7 ?_)))
  exact ⟨_, [], [], A1g rfl rfl rfl, qZ, rfl, _, by rw [A6K hf hxi]; rfl, by rw [A6K hf hxi]; exact h23.mono qS⟩
theorem A9I (sb : Nat) (vof : Value) (sks : List Skp) (of : LN) (n : Nat) (R MS A : Mem) (hS : Sto R sb sks MS) (hR : ∀ x, x ∈ R → x ∈ A) (hl : sks.length ≤ 1000000) (hof : By R vof of) : FnX Tryz.prog 119 [(vP sb), vof, (vU n)] MS A fun q M J => q = .bool (decide (Q5 (tst of n) sks ≥ 0)) ∧ Sto R sb (A3p sks of n) M := by
 obtain ⟨v, rows, B, rfl, hsl, hrw⟩ := hS.ex
 haveI := hsl.cel
 haveI := hof.cel
 refine FnX.enterZ (N := 27) Tryz.func119 rfl rfl rfl fun w_ => ?_
 refine A8 (E5 0 1 2) (A1 (as_ (A0 (E5 0 1 2) (A1 (mv_ (mv_ (mv_ ?_)))))))
 refine D7 (aS rfl (aS rfl (aS rfl a0))) kR (A2H sb v vof rows sks of n _ qM (hsl.rd qS) (hrw.mono skT (fun x hx => mA (hR x hx))) hl (hof.mono (fun x hx => mA (hR x hx)))) rfl ?_
 refine as_ (A0 (D0 0 7) ?_)
 refine P2 (α := Value × List (List Value) × Mem) (fun x => [(7, .int .i64 (Q5 (tst of n) sks))]) (fun x => (sb, blk [x.1] 195) :: x.2.2) (fun _ => []) (fun x => Sl 3 x.1 (A3p sks of n).length x.2.1.flatten x.2.2 ∧ RwL skR R x.2.1 (A3p sks of n)) ?_ ?_
 ·
  refine A1 (mv_ ?_)
  refine A2 (F3 rfl rfl rfl) rfl ?_
  refine A0 (E5 0 7 13) ?_
  refine C3 rfl ?_ ?_ <;> intro hc
  ·
   obtain ⟨hf, hz⟩ | ⟨i, x, hf, hxi, hq, hmin⟩ := N2 (tst of n) sks
   · rw [hf] at hc; simp at hc
   have hil := (List.getElem?_eq_some_iff.1 hxi).1
   rw [hf]
   obtain ⟨p, rfl, h0, _, _⟩ | ⟨b, o, cap, cs, e, rfl, rfl, g1, g2, g3, g4, g5⟩ := hsl
   · omega
   refine C6 (mv_ (mv_ ?_))
   refine A2 (D8 rfl) rfl ?_
   refine A2 (qf_ 0 0) rfl ?_
   refine A2 ql_ rfl ?_
   refine mv_ (mv_ ?_)
   refine A2 (G9 (b := 1) rfl rfl rfl rfl qO) rfl ?_
   refine A4 rfl (A9 (Mc := [(b, blk cs e)]) (R := _) (aS rfl (aS rfl (aS rfl a0))) kR qP (A2G b o cap sks.length i (i + 1) cs rows.flatten e _ g1 g2 g3 g4 g5 (hrw.ones skT) qO qO) rfl ?_)
   rintro v22 M22 J22 ⟨rfl, hs22⟩
   have hsd : Sl 3 v22 (sks.eraseIdx i).length (rows.take i ++ rows.drop (i + 1)).flatten M22 := by
    have h := hs22
    rw [A3e (hrw.lens skT)] at h
    exact Sl.cast h (by rw [List.length_eraseIdx, if_pos hil]; omega) rfl
   haveI := hsd.cel
   refine A2 (D8 rfl) rfl ?_
   refine A2 (qf_ 0 0) rfl ?_
   refine A4 rfl (F8 rfl rfl hsd.one kR SetC.set UpC.upd ?_)
   refine E1 ?_
   exact jn (v22, rows.take i ++ rows.drop (i + 1), M22) ⟨by rw [A1R hf]; exact hsd, by rw [A1R hf]; exact hrw.erase i⟩ (C7 7) (Fit.pick (B := [_]) qP (Fit.last qP)) (fun _ h => by cases h)
  ·
   have hf : Q5 (tst of n) sks = -1 := by
    obtain ⟨hf, hz⟩ | ⟨i, x, hf, hxi, hq, hmin⟩ := N2 (tst of n) sks
    · exact hf
    · rw [hf] at hc; (simp at hc) <;> omega
   refine A5 ?_
   exact jn (v, rows, B) ⟨by rw [A4b hf]; exact hsl, by rw [A4b hf]; exact hrw⟩ (C7 7) .rfl qI
 ·
  rintro ⟨v1, rows1, B1⟩ ⟨hsl1, hrw1⟩
  dsimp only at hsl1 hrw1 ⊢
  refine A1 (mv_ ?_)
  refine A2 (F3 rfl rfl rfl) rfl ?_
  refine as_ (A0 (C7 6) (A7 ?_))
  exact ⟨_, _, [], F7 rfl rfl, Fit.none .rfl, rfl, ⟨v1, rows1, B1, rfl, hsl1, hrw1⟩⟩
theorem A6L (sb k : Nat) (v : Value) (xs : List Value) (A : Mem) (hsb : (sb, blk [v] 195) ∈ A) (hv : Rd A 3 v k xs) (h1 : ∀ c ∈ xs, c.oneCell' = true) (hk : k ≤ 1099511627776) : FnX Tryz.prog 190 [(vP sb)] [] A fun q M J => Sl 3 q k xs M := by
 haveI := hv.cel
 refine FnX.enterZ (N := 10) Tryz.func190 rfl rfl rfl fun w_ => ?_
 refine A8 (C7 0) (A1 (as_ (A0 (C7 0) (A6 (A1 (mv_ ?_))))))
 refine A2 (C9 (e := 195) rfl rfl kR) rfl ?_
 refine A0 (D0 0 4) ?_
 refine B0 rfl ?_
 refine A5 (nx (C7 0) (A1 (mv_ ?_)))
 refine A2 (D8 rfl) rfl ?_
 refine A2 (qf_ 0 0) rfl ?_
 refine A2 (G3 rfl kR (mA hsb) qR) rfl ?_
 refine E0 (aS rfl a0) kR (A7A v k xs _ (hv.mono qS) h1 hk) rfl ?_
 rintro v9 M9 J9 hs9
 haveI := hs9.cel
 refine as_ (A0 (C7 2) (A7 ?_))
 exact ⟨_, M9, [], F7 rfl rfl, Fit.none (Fit.last qP), hs9⟩
theorem A9J (sb k : Nat) (v : Value) (xs : List Value) (A : Mem) (hsb : (sb, blk [v] 195) ∈ A) (hv : Rd A 3 v k xs) (h1 : ∀ c ∈ xs, c.oneCell' = true) (hk : k ≤ 1099511627776) : FnX Tryz.prog 155 [(vP sb)] [] A fun q M J => ∃ cb u B, q = (vP cb) ∧ M = (cb, blk [u] 195) :: B ∧ Sl 3 u k xs B := by
 refine FnX.enterZ (N := 7) Tryz.func155 rfl rfl rfl fun w_ => ?_
 refine A8 (C7 0) (A1 (as_ (A0 (C7 0) (A1 (mv_ ?_)))))
 refine E0 (aS rfl a0) kR (A6L sb k v xs _ (mA hsb) (hv.mono qS) h1 hk) rfl ?_
 rintro v4 M4 J4 hs4
 haveI := hs4.cel
 refine A2 (D6 (place := fun x => #[(0, 1)][x]?) (z := [vS]) (fun _ => by kernel_rfl) (eS rfl e0) (bdS 0 1 rfl qR bd0)) rfl ?_
 refine A4 rfl (bx_ fun b6 => ?_)
 refine as_ (A0 (C7 2) (A7 ?_))
 exact ⟨_, (b6, _) :: M4, [], F7 rfl rfl, Fit.none (Fit.pick (B := [_]) qP (Fit.last qP)), b6, v4, M4, rfl, rfl, hs4⟩

def A2R : LN := [115, 116, 101, 112]
def R9 (s : Ps) (key : LN) : Ps := A2l s key [] A2R 2
def B8s (s : Ps) (key : LN) : List (LN) := A2P s key [] A2R 2
def T4 (s : Ps) (key : LN) : LN := (B8s s key).getD 0 []
def A2S (s : Ps) (key : LN) : LN := (B8s s key).getD 1 []
theorem A6M (s : Ps) (key : LN) (ws : List (LN)) (lb : LN) (n : Nat) : (A2P s key ws lb n).length = n := by
  unfold A2P
  split
  · exact A6m _ _
  · exact (Z8 _ _ _ _).1
theorem A9K {R : Mem} {v : Value} {ls : List (LN)} (h : LsV R v ls) (hl : ls.length = 2) : ∃ vs u0 u1, Rd R 1 v 2 vs ∧ vs[0]? = some u0 ∧ vs[1]? = some u1 ∧ By R u0 (ls.getD 0 []) ∧ By R u1 (ls.getD 1 []) := by
  obtain ⟨vs, h1, h2⟩ := h.ex
  obtain ⟨u0, a0, b0⟩ := h2.at (j := 0) qO
  obtain ⟨u1, a1, b1⟩ := h2.at (j := 1) qO
  rw [hl] at h1
  refine ⟨vs, u0, u1, h1, a0, a1, ?_, ?_⟩
  · rw [List.getD_eq_getElem?_getD, List.getElem?_eq_getElem qO]; exact b0
  · rw [List.getD_eq_getElem?_getD, List.getElem?_eq_getElem qO]; exact b1
theorem B2V {P : Program} {fn : Func} {l : Env} {R : Mem} {t u b n : Nat} {ty : TypeId} {cs : List Value} {e : TypeId} {fr : Nat × Nat} {v : Value} (h : fn.results = #[.tmp u, .cell t ty]) (hv : lk l t = some (vP b)) (hu : lk l u = some v) (ht : A4q P ty = some n)
    (hb : (b, Obj.cells cs.toArray e fr) ∈ R) (hn : cs.length = n) : Res P fn l R (.tuple #[v, .agg cs.toArray]) := fun N a w ha hw => by
  obtain ⟨dsc, h1, h2, h3⟩ := L9 ht
  have hl := run_loadVar_row (P := P) w b e ty cs.toArray fr dsc (hw b _ hb) h1 (by cases dsc <;> simp_all [TypeDesc.isRow]) (by rw [h3, ← hn]; simp)
  simp [results, h, ha.slot t _ hv, ha.slot u _ hu, asAddr, hl]
theorem A2I (pb : Nat × Nat) (s : Ps) (kv : Value) (key : LN) (n : Nat) (MP A : Mem) (hP : Prm pb s MP) (hk : By A kv key) (hn : s.ts.length ≤ 1040000) (hG : Glb A) : FnX Tryz.prog 122 [.pointer (some ⟨pb.1, 0, none⟩), .agg #[kv, (vU n)]] MP A fun q M J => ∃ v1 v2, q = .tuple #[v1, .agg #[v2, .int .u32 (((n + 1) % 4294967296 : Nat) : Int)]] ∧ Prm pb (R9 s key) M ∧ By J v1 (T4 s key) ∧ By J v2 (A2S s key) := by
 haveI := hk.cel
 refine FnX.enterZ (N := 25) Tryz.func122 rfl rfl rfl fun w_ => ?_
 refine A8 (D0 0 1) (A1 ?_)
 refine A4 rfl (B3e rfl Cel.cel rfl fun b3 => ?_)
 refine as_ ?_
 refine A4 rfl (D2 (cs := [vS, .int .u32 0]) kR rfl fun b5 => ?_)
 refine A0 (E5 0 3 5) (A1 (mv_ ?_))
 refine A2 (qf_ 0 0) rfl ?_
 refine A2 (G3 (v := kv) rfl kR At.mem qR) rfl ?_
 refine A4 rfl (A9 (Mc := MP) (R := _) (aS rfl (aS rfl (aS rfl (aS rfl (aS rfl a0))))) kR qP (A0I pb s kv (vS) key A2R [] 2 MP _ hP (hk.mono qS) LsV.nil qD ⟨by decide⟩ qD qD qD hn hG.up) rfl ?_)
 rintro v10 M10 J10 ⟨hP10, hL10⟩
 have hlen := A6M s key [] A2R 2
 obtain ⟨us, u0, u1, hr, hu0, hu1, hb0, hb1⟩ := A9K hL10 hlen
 haveI := hr.cel
 haveI := hb0.cel
 haveI := hb1.cel
 refine as_ (A0 (E5 3 5 6) (A6 (A1 (mv_ ?_))))
 refine A2 (E2 (sz := 1) rfl kR hr) rfl ?_
 refine A2 (F0 false rfl rfl (neF rfl)) rfl ?_
 refine A0 (F4 3 5 6 13) ?_
 refine B0 rfl ?_
 refine A5 (nx (E5 3 5 6) ?_)
 refine G5 (.range 11) (zp 0 [0, 0, 1, 0, 0, 1, 0, 1, 0, 0, 0, 2]) kR kR fun hs => ?_
 refine fm_ hs ?_
 refine E8 hs rfl (F2 (sz := 1) (a := 0) rfl rfl kR rfl hr qD) rfl ?_
 refine R5 hs rfl (L0 (u := u0) (hr.mono qS) rfl kR hu0) rfl ?_
 refine fm_ hs ?_
 refine E8 hs rfl (F2 (sz := 1) (a := 1) rfl rfl kR rfl hr qD) rfl ?_
 refine R5 hs rfl (L0 (u := u1) (hr.mono qS) rfl kR hu1) rfl ?_
 refine E8 hs rfl (qf_ 1 1) rfl ?_
 refine R5 hs rfl ql_ rfl ?_
 refine E8 hs rfl (A0t 4294967296 (b := 1) rfl rfl rfl rfl rfl rfl) rfl ?_
 refine E8 hs rfl (D6 (place := fun x => #[(0, 1), (1, 1)][x]?) (z := [vS, .int .u32 0]) (fun _ => by kernel_rfl) (eS rfl (eS rfl e0)) (bdS 0 1 rfl qR (bdS 1 1 rfl qR bd0))) rfl ?_
 refine fa_ hs ?_
 refine L7 rfl rfl rfl (B8 rfl rfl Cel.cel kR qR (by intro c hc; simp only [List.mem_cons, List.not_mem_nil, or_false] at hc; rcases hc with rfl | rfl; exact hb1.one; rfl) UpC.upd ?_)
 refine I2 (D0 4 5) (A7 ?_)
 refine ⟨_, M10, [], B2V (n := 2) rfl rfl rfl kR At.mem qR, Fit.none (Fit.last qP), u0, u1, rfl, hP10, hb0.mono (fun x hx => by simp [hx]), hb1.mono (fun x hx => by simp [hx])⟩

theorem up2 {X J R A : Mem} (hR : ∀ x, x ∈ R → x ∈ A) : ∀ x, x ∈ J ++ R → x ∈ X ++ (J ++ A) := fun x hx => List.mem_append_right _ ((List.mem_append.1 hx).elim (fun h => List.mem_append_left _ h) (fun h => List.mem_append_right _ (hR x h)))
def rep {α : Type} (f : α → α) : Nat → α → α
  | 0, x => x
  | k + 1, x => f (rep f k x)
abbrev Ast := Ps × LN × Nat × List Skp
def aSt (of : LN) (x : Ast) : Ast := (R9 x.1 x.2.1, A2S x.1 x.2.1, x.2.2.1 + 1, B2U x.2.2.2 ⟨of, x.2.2.1, T4 x.1 x.2.1⟩)
theorem B1H (of : LN) (i : Nat) (x : Ast) : (rep (aSt of) i x).2.2.1 = x.2.2.1 + i := by
  induction i with
  | zero => rfl
  | succ i ih => show (rep (aSt of) i x).2.2.1 + 1 = _; rw [ih]; rfl
theorem A9L (of : LN) (i : Nat) (x : Ast) : (rep (aSt of) i x).1.ts.length ≤ x.1.ts.length + 3 * i := by
  induction i with
  | zero => exact Nat.le_refl _
  | succ i ih =>
    show (R9 (rep (aSt of) i x).1 (rep (aSt of) i x).2.1).ts.length ≤ _
    have := A02 (rep (aSt of) i x).1 (rep (aSt of) i x).2.1 [] A2R 2
    unfold R9
    simp at this
    omega
theorem B2W (of : LN) (i : Nat) (x : Ast) (h : x.2.2.2.length ≤ 1000) : (rep (aSt of) i x).2.2.2.length ≤ 1000 := by
  cases i with
  | zero => exact h
  | succ i => exact Nat.le_trans (B1C _ _) qD
theorem A7B (pb : Nat × Nat) (sb : Nat) (s : Ps) (kv vof : Value) (key of : LN) (N n : Nat) (sks : List Skp) (R MP MS A : Mem) (hP : Prm pb s MP) (hS : Sto R sb sks MS) (hR : ∀ x, x ∈ R → x ∈ A) (hk : By R kv key) (hof : By R vof of) (hl : sks.length ≤ 1000) (hNn : N ≤ n) (h16 : n - N ≤ 16) (hn32 : n < 4294967296) (hn : s.ts.length ≤ 1000000) (hG : Glb A) : FnX Tryz.prog 120 [.pointer (some ⟨pb.1, 0, none⟩), .agg #[kv, (vU N)], vof, (vU n), (vP sb)] (MP ++ MS) A fun q M J => ∃ MP' MS' kv', M = MP' ++ MS' ∧ q = .tuple #[.agg #[kv', .int .u32 (((rep (aSt of) (n - N) (s, key, N, sks)).2.2.1 : Nat) : Int)], .int .i64 0] ∧ Prm pb (rep (aSt of) (n - N) (s, key, N, sks)).1 MP' ∧ Sto (J ++ R) sb (rep (aSt of) (n - N) (s, key, N, sks)).2.2.2 MS' ∧ By (J ++ R) kv' (rep (aSt of) (n - N) (s, key, N, sks)).2.1 := by
 haveI := hk.cel
 haveI := hof.cel
 refine FnX.enterZ (N := 51) Tryz.func120 rfl rfl rfl fun w_ => ?_
 refine A8 (G6 0 1 2 3 4) (A1 ?_)
 refine A4 rfl (bx_ fun b6 => ?_)
 refine A4 rfl (D2 (cs := [vS, .int .u32 0]) kR rfl fun b10 => ?_)
 refine as_ (A0 (I7 0 2 3 4 6 10) (A6 (C5 (A1 (mv_ ?_)))))
 refine A2 (qf_ 1 1) rfl ?_
 refine A2 ql_ rfl ?_
 refine A2 (F0 false rfl rfl (ltF qO)) rfl ?_
 refine as_ (A0 (S9 0 2 3 4 6 10 14) ?_)
 refine B0 rfl ?_
 refine A1 (mv_ ?_)
 refine A2 (qf_ 1 1) rfl ?_
 refine A2 ql_ rfl ?_
 refine A2 (Q0 (((n - N : Nat)) : Int) rfl rfl (by simp only [H8]; rw [A3y qO qO]; congr 2; omega)) rfl ?_
 refine A2 (F0 false rfl rfl (gtF qO)) rfl ?_
 refine as_ (A0 (S9 0 2 3 4 6 10 20) ?_)
 refine B0 rfl ?_
 refine A5 (nb (nx (I7 0 2 3 4 6 10) (A6 (C5 ?_))))
 refine H0 (α := Nat × Mem × Mem × Value × Mem) (fun x => [(0, .pointer (some ⟨pb.1, 0, none⟩)), (2, vof), (3, (vU n)), (4, (vP sb)), (6, (vP b6)), (10, (vP b10))]) (fun x => x.2.1 ++ (x.2.2.1 ++ [(b6, blk [x.2.2.2.1, .int .u32 ((N + x.1 : Nat) : Int)] 69), (b10, blk [vS, .int .u32 0] 69)])) (fun x => x.2.2.2.2) (fun x => x.1 ≤ n - N ∧ Prm pb (rep (aSt of) x.1 (s, key, N, sks)).1 x.2.1 ∧ Sto (x.2.2.2.2 ++ R) sb (rep (aSt of) x.1 (s, key, N, sks)).2.2.2 x.2.2.1 ∧ By (x.2.2.2.2 ++ R) x.2.2.2.1 (rep (aSt of) x.1 (s, key, N, sks)).2.1) (fun x => n - N - x.1) ⟨0, MP, MS, kv, []⟩ ⟨Nat.zero_le _, hP, hS, hk⟩ (I7 0 2 3 4 6 10) (Fit.pick qP (Fit.pick qP (Fit.pick (B := [_]) qP (Fit.last qP)))) (fun _ h => by cases h) ?_
 rintro ⟨i, MPi, MSi, kvi, Ji⟩ ⟨hi, hPi, hSi, hki⟩
 dsimp only at hi hPi hSi hki ⊢
 haveI := hki.cel
 have hts := A9L of i (s, key, N, sks)
 have hsk := B2W of i (s, key, N, sks) hl
 dsimp only at hts hsk
 refine A6 (A1 ?_)
 refine A2 (qf_ 1 1) rfl ?_
 refine A2 ql_ rfl ?_
 refine mv_ ?_
 refine A2 (F3 rfl rfl rfl) rfl ?_
 refine A0 (S9 0 2 3 4 6 10 30) ?_
 refine C3 rfl ?_ ?_ <;> intro hc
 ·
  have hlt : i < n - N := by simp at hc; omega
  refine A5 (nx (I7 0 2 3 4 6 10) (C5 (A1 (as_ (A0 (I7 0 2 3 4 6 10) (A1 ?_))))))
  refine A2 (qf_ 1 1) rfl ?_
  refine A2 ql_ rfl ?_
  refine as_ (A0 (S9 0 2 3 4 6 10 13) (A6 (A1 (mv_ ?_))))
  refine A2 (qw_ 2) rfl ?_
  refine A4 rfl (A9 (Mc := MPi) (R := _) (aS rfl (aS rfl a0)) kR qP (A2I pb (rep (aSt of) i (s, key, N, sks)).1 kvi (rep (aSt of) i (s, key, N, sks)).2.1 (N + i) MPi _ hPi (hki.mono (up2 hR)) qO hG.up) rfl ?_)
  rintro v36 M36 J36 ⟨v1, v2, rfl, hP36, hb1, hb2⟩
  haveI := hb1.cel
  haveI := hb2.cel
  rw [Nat.mod_eq_of_lt (show N + i + 1 < 4294967296 by omega), show N + i + 1 = N + (i + 1) from rfl]
  refine mv_ ?_
  refine A2 (R6 rfl) rfl ?_
  refine A2 (R4 rfl) rfl ?_
  refine as_ ?_
  refine A4 rfl (B8 rfl rfl Cel.cel kR qR (by intro c hc; simp only [List.mem_cons, List.not_mem_nil, or_false] at hc; rcases hc with rfl | rfl; exact hb2.one; rfl) UpC.upd ?_)
  refine A0 (A0A 0 2 3 4 6 10 12 13) (A1 ?_)
  refine A2 (qf_ 1 1) rfl ?_
  refine A2 ql_ rfl ?_
  refine mv_ ?_
  refine A2 (F0 false rfl rfl (eqF qO)) rfl ?_
  refine A0 (A3A 0 2 3 4 6 10 12 13 42) ?_
  refine B0 rfl ?_
  refine A5 (nx (A0A 0 2 3 4 6 10 12 13) (C6 (mv_ (mv_ (mv_ (mv_ ?_))))))
  refine A2 (D6 (place := fun x => #[(0, 1), (1, 1), (2, 1)][x]?) (z := [vS, .int .u32 0, vS]) (fun _ => by kernel_rfl) (eS rfl (eS rfl (eS rfl e0))) (bdS 0 1 rfl qR (bdS 1 1 rfl qR (bdS 2 1 rfl qR bd0)))) rfl ?_
  refine A4 rfl (A9 (Mc := MSi) (R := _) (aS rfl (aS rfl a0)) kR qP (B1F sb vof v1 (rep (aSt of) i (s, key, N, sks)).2.2.2 of (T4 (rep (aSt of) i (s, key, N, sks)).1 (rep (aSt of) i (s, key, N, sks)).2.1) (N + i) ((J36 ++ Ji) ++ R) MSi _ (hSi.mono (fun x hx => by simp only [List.mem_append] at hx ⊢; rcases hx with h | h <;> simp [h])) (up2 hR) qO (hof.mono (fun x hx => List.mem_append_right _ hx)) (hb1.mono (fun x hx => by simp [hx])) qO) rfl ?_)
  rintro v49 M49 J49 ⟨rfl, hS49⟩
  refine E1 (nb ?_)
  exact rn ⟨i + 1, M36, M49, v2, J49 ++ (J36 ++ Ji)⟩ ⟨by dsimp only; omega, hP36, (by have h := hS49; rw [← B1H of i (s, key, N, sks)] at h; exact h.mono (fun x hx => by simp only [List.mem_append] at hx ⊢; rcases hx with h | h | h <;> simp [h]) : Sto ((J49 ++ (J36 ++ Ji)) ++ R) sb _ M49), hb2.mono (fun x hx => by simp [hx])⟩ (by dsimp only; omega) (I7 0 2 3 4 6 10) (Fit.pick qP (Fit.pick qP (Fit.pick (B := [_]) qP (Fit.last qP)))) qI
 ·
  have hge : i = n - N := by simp at hc; omega
  subst hge
  refine G4 (te (re (be rfl (nx (D0 6 10) (A1 ?_)))))
  refine A2 (qw_ 2) rfl ?_
  refine A4 rfl (B8 rfl rfl Cel.cel kR qR (by intro c hc; simp only [List.mem_cons, List.not_mem_nil, or_false] at hc; rcases hc with rfl | rfl; exact hki.one; rfl) UpC.upd ?_)
  refine as_ (A0 (D0 10 11) (A7 ?_))
  refine ⟨_, MPi ++ MSi, [], W0 (n := 2) rfl rfl rfl kR At.mem qR, Fit.none (Fit.pick qP (Fit.last qP)), MPi, MSi, kvi, rfl, ?_, hPi, hSi, hki⟩
  rw [B1H]
theorem A7C (pv sv kv vof : Value) (key of : LN) (N n : Nat) (A : Mem) (hk : By A kv key) (hof : By A vof of) (hNn : n < N) : FnV Tryz.prog 120 [pv, .agg #[kv, (vU N)], vof, (vU n), sv] A (.tuple #[.agg #[kv, (vU N)], .int .i64 8]) := by
 haveI := hk.cel
 haveI := hof.cel
 refine FnX.enter (N := 51) Tryz.func120 rfl rfl rfl fun w => ?_
 refine A8 (G6 0 1 2 3 4) (A1 ?_)
 refine A4 rfl (bx_ fun b6 => ?_)
 refine A4 rfl (D2 (cs := [vS, .int .u32 0]) kR rfl fun b10 => ?_)
 refine as_ (A0 (I7 0 2 3 4 6 10) (A6 (C5 (A1 (mv_ ?_)))))
 refine A2 (qf_ 1 1) rfl ?_
 refine A2 ql_ rfl ?_
 refine A2 (F0 true rfl rfl (ltT qO)) rfl ?_
 refine as_ (A0 (S9 0 2 3 4 6 10 14) ?_)
 refine E9 rfl ?_
 refine A1 ?_
 refine A2 (qw_ 2) rfl ?_
 refine A4 rfl (B8 rfl rfl Cel.cel kR qR (by intro c hc; simp only [List.mem_cons, List.not_mem_nil, or_false] at hc; rcases hc with rfl | rfl; exact hk.one; rfl) UpC.upd ?_)
 refine as_ (A0 (D0 10 11) (A7 (br (tr ?_))))
 exact ⟨_, [], [], W0 (n := 2) rfl rfl rfl kR At.mem qR, List.nil_sublist _, by simp, rfl, rfl, rfl⟩
theorem A7D (pv sv kv vof : Value) (key of : LN) (N n : Nat) (A : Mem) (hk : By A kv key) (hof : By A vof of) (hNn : N ≤ n) (hn32 : n < 4294967296) (h16 : 16 < n - N) : FnV Tryz.prog 120 [pv, .agg #[kv, (vU N)], vof, (vU n), sv] A (.tuple #[.agg #[kv, (vU N)], .int .i64 7]) := by
 haveI := hk.cel
 haveI := hof.cel
 refine FnX.enter (N := 51) Tryz.func120 rfl rfl rfl fun w => ?_
 refine A8 (G6 0 1 2 3 4) (A1 ?_)
 refine A4 rfl (bx_ fun b6 => ?_)
 refine A4 rfl (D2 (cs := [vS, .int .u32 0]) kR rfl fun b10 => ?_)
 refine as_ (A0 (I7 0 2 3 4 6 10) (A6 (C5 (A1 (mv_ ?_)))))
 refine A2 (qf_ 1 1) rfl ?_
 refine A2 ql_ rfl ?_
 refine A2 (F0 false rfl rfl (ltF qO)) rfl ?_
 refine as_ (A0 (S9 0 2 3 4 6 10 14) ?_)
 refine B0 rfl ?_
 refine A1 (mv_ ?_)
 refine A2 (qf_ 1 1) rfl ?_
 refine A2 ql_ rfl ?_
 refine A2 (Q0 (((n - N : Nat)) : Int) rfl rfl (by simp only [H8]; rw [A3y qO qO]; congr 2; omega)) rfl ?_
 refine A2 (F0 true rfl rfl (gtT qO)) rfl ?_
 refine as_ (A0 (S9 0 2 3 4 6 10 20) ?_)
 refine E9 rfl ?_
 refine A1 ?_
 refine A2 (qw_ 2) rfl ?_
 refine A4 rfl (B8 rfl rfl Cel.cel kR qR (by intro c hc; simp only [List.mem_cons, List.not_mem_nil, or_false] at hc; rcases hc with rfl | rfl; exact hk.one; rfl) UpC.upd ?_)
 refine as_ (A0 (D0 10 11) (A7 (br (tr ?_))))
 exact ⟨_, [], [], W0 (n := 2) rfl rfl rfl kR At.mem qR, List.nil_sublist _, by simp, rfl, rfl, rfl⟩

theorem A4e (s : Ps) : (D4 s).ts.length ≤ s.ts.length + 1 ∧ (D4 s).n = s.n + 1 := by
  unfold D4
  split
  · exact ⟨by simp, rfl⟩
  · refine ⟨?_, rfl⟩
    show (add s.ts _).length ≤ _
    unfold add
    split <;> simp
theorem A4f (s : Ps) (w : LN) : (G1 s w).ts.length ≤ s.ts.length + 2 := by
  unfold G1
  split
  · omega
  · have h1 := L8 (ts := s.ts) (ws := w)
    have h2 := W2 (ts := rdT s.ts w) (t := A4l ((rdI s.ts w : Nat) : Int))
    show (add (rdT s.ts w) _).length ≤ _
    omega
theorem B8t (s : Ps) (w : LN) : (G1 s w).n = s.n := by unfold G1; split <;> rfl
theorem B4N (s : Ps) (w : LN) : (I5 s w).length = 32 := by
  unfold I5
  split
  · exact A2k _ _
  · exact W3 _ qD
def A4g : LN := [114, 111, 111, 116]
noncomputable def A4h (s : Ps) (root sec pub : LN) : Ps := A2l (I6 s sec pub) root [Y6 s sec pub] A4g 2
noncomputable def B8u (s : Ps) (root sec pub : LN) : List (LN) := A2P (I6 s sec pub) root [Y6 s sec pub] A4g 2
noncomputable def B1I (s : Ps) (root sec pub : LN) : LN := (B8u s root sec pub).getD 0 []
noncomputable def B1J (s : Ps) (root sec pub : LN) : LN := (B8u s root sec pub).getD 1 []
theorem A1S (s : Ps) (root sec pub : LN) : (A4h s root sec pub).ts.length ≤ s.ts.length + 7 ∧ (A4h s root sec pub).n = s.n := by
  have h1 := L4 s sec pub
  have h2 := A02 (I6 s sec pub) root [Y6 s sec pub] A4g 2
  have h3 := A82 s sec pub
  have h4 := (X1 (I6 s sec pub) root [Y6 s sec pub] A4g 2).2.1
  have e : [Y6 s sec pub].length = 1 := rfl
  unfold A4h
  omega
structure Rsd where
  own : LN
  their : LN
  root : LN
  sk : LN
  sn : Nat
  tk : LN
  tn : Nat
  prev : Nat
  sks : List Skp
def StF (R : Mem) (v : Value) (sks : List Skp) : Prop := ∃ sb u rows, v = (vP sb) ∧ (sb, blk [u] 195) ∈ R ∧ Rd R 3 u sks.length rows.flatten ∧ RwL skR R rows sks
theorem StF.mono {R R' : Mem} {v : Value} {sks : List Skp} (h : StF R v sks) (hR : ∀ x, x ∈ R → x ∈ R') : StF R' v sks := by
  obtain ⟨sb, u, rows, h1, h2, h3, h4⟩ := h
  exact ⟨sb, u, rows, h1, hR _ h2, h3.mono hR, h4.mono skT hR⟩
def rsC (vo vt vr vk vl vs : Value) (r : Rsd) : List Value := [vo, vt, vr, vk, (vU r.sn), vl, (vU r.tn), (vU r.prev), vs]
structure RsR (R : Mem) (r : Rsd) (vo vt vr vk vl vs : Value) : Prop where
  own : By R vo r.own
  their : By R vt r.their
  root : By R vr r.root
  sk : By R vk r.sk
  tk : By R vl r.tk
  st : StF R vs r.sks
  sn : r.sn < 4294967296
  tn : r.tn < 4294967296
  prev : r.prev < 4294967296
  sks : r.sks.length ≤ 1000
theorem RsR.mono {R R' : Mem} {r : Rsd} {vo vt vr vk vl vs : Value} (h : RsR R r vo vt vr vk vl vs) (hR : ∀ x, x ∈ R → x ∈ R') : RsR R' r vo vt vr vk vl vs :=
  ⟨h.own.mono hR, h.their.mono hR, h.root.mono hR, h.sk.mono hR, h.tk.mono hR, h.st.mono hR, h.sn, h.tn, h.prev, h.sks⟩
theorem StF.one {R : Mem} {v : Value} {sks : List Skp} (h : StF R v sks) : v.oneCell' = true := by obtain ⟨sb, u, rows, rfl, _⟩ := h; rfl
theorem StF.new {b : Nat} {R : Mem} (h : (b, blk [vS] 195) ∈ R) : StF R (vP b) [] := ⟨b, _, [], rfl, h, Rd.nil, RwL.nil⟩
def RsV (R : Mem) (v : Value) (r : Rsd) : Prop := ∃ vo vt vr vk vl vs, v = .agg (rsC vo vt vr vk vl vs r).toArray ∧ RsR R r vo vt vr vk vl vs
theorem RsV.mono {R R' : Mem} {v : Value} {r : Rsd} (h : RsV R v r) (hR : ∀ x, x ∈ R → x ∈ R') : RsV R' v r := by
  obtain ⟨vo, vt, vr, vk, vl, vs, e, g⟩ := h
  exact ⟨vo, vt, vr, vk, vl, vs, e, g.mono hR⟩
noncomputable def B6U (s : Ps) (sec their : LN) : Rsd := ⟨D9 s, their, B1I (D4 s) sec (D9 s) their, B1J (D4 s) sec (D9 s) their, 0, [], 0, 0, []⟩
noncomputable def begS (s : Ps) (sec their : LN) : Ps := A4h (D4 s) sec (D9 s) their
def A1A (sec own : LN) : Rsd := ⟨own, [], sec, [], 0, [], 0, 0, []⟩
theorem A9M (pb : Nat × Nat) (s : Ps) (v1 v2 v3 : Value) (root sec pub : LN) (MP A : Mem) (hP : Prm pb s MP) (hn : s.ts.length + 100 ≤ 1040000) (h1 : By A v1 root) (h2 : By A v2 sec) (h3 : By A v3 pub) (hG : Glb A) : FnX Tryz.prog 121 [.pointer (some ⟨pb.1, 0, none⟩), v1, v2, v3] MP A fun q M J => ∃ u0 u1, q = .tuple #[u0, .agg #[u1, (vU 0)]] ∧ Prm pb (A4h s root sec pub) M ∧ By J u0 (B1I s root sec pub) ∧ By J u1 (B1J s root sec pub) := by
 haveI := h1.cel
 haveI := h2.cel
 haveI := h3.cel
 have hal := L4 s sec pub
 refine FnX.enterZ (N := 30) Tryz.func121 rfl rfl rfl fun w_ => ?_
 refine A8 (F4 0 1 2 3) (A1 (as_ ?_))
 refine A4 rfl (D2 (cs := [vS, .int .u32 0]) kR rfl fun b9 => ?_)
 refine A0 (G6 0 1 2 3 9) (A1 (mv_ (mv_ (mv_ (mv_ (mv_ ?_))))))
 refine A4 rfl (A9 (Mc := MP) (R := _) (aS rfl (aS rfl (aS rfl (a0)))) kR qP (X8 pb s v2 v3 sec pub MP _ hP qO (h2.mono qS) (h3.mono qS) hG.up) rfl ?_)
 rintro v16 M16 J16 ⟨hP16, h16⟩
 haveI := h16.cel
 refine A4 rfl (C4 (e := 22) (sz := 1) (z := [vS]) kR (eS rfl e0) (bdS 0 1 rfl qR bd0) rfl fun b17 => ?_)
 refine A4 rfl (A9 (Mc := M16) (R := _) (aS rfl (aS rfl (aS rfl (aS rfl (aS rfl (a0)))))) kR qP (A0I pb (I6 s sec pub) v1 (.slice (some ⟨b17, 0, none⟩) 1 1) root A4g [Y6 s sec pub] 2 M16 _ hP16 (h1.mono qS) ⟨[v16], Rd.whole (n := 1) At.mem qR, Lst.cons (h16.mono qS) Lst.nil⟩ (show 1 ≤ 1000 by decide) ⟨by decide⟩ qD qD qD qO hG.up) rfl ?_)
 rintro v18 M18 J18 ⟨hP18, hL18⟩
 have hlen := A6M (I6 s sec pub) root [Y6 s sec pub] A4g 2
 obtain ⟨us, u0, u1, hr, hu0, hu1, hb0, hb1⟩ := A9K hL18 hlen
 haveI := hr.cel
 haveI := hb0.cel
 haveI := hb1.cel
 refine as_ (A0 (D0 9 10) (A6 (A1 (mv_ ?_))))
 refine A2 (E2 (sz := 1) rfl kR hr) rfl ?_
 refine A2 (F0 false rfl rfl (neF rfl)) rfl ?_
 refine A0 (E5 9 10 21) ?_
 refine B0 rfl ?_
 refine A5 (nx (D0 9 10) ?_)
 refine G5 (.range 8) (zp 0 [0, 0, 1, 0, 0, 1, 0, 0, 2]) kR kR fun hs => ?_
 refine fm_ hs ?_
 refine E8 hs rfl (F2 (sz := 1) (a := 0) rfl rfl kR rfl hr qD) rfl ?_
 refine R5 hs rfl (L0 (u := u0) (hr.mono qS) rfl kR hu0) rfl ?_
 refine fm_ hs ?_
 refine E8 hs rfl (F2 (sz := 1) (a := 1) rfl rfl kR rfl hr qD) rfl ?_
 refine R5 hs rfl (L0 (u := u1) (hr.mono qS) rfl kR hu1) rfl ?_
 refine E8 hs rfl (D6 (place := fun x => #[(0, 1), (1, 1)][x]?) (z := [vS, .int .u32 0]) (fun _ => by kernel_rfl) (eS rfl e0) (bdS 0 1 rfl qR bd0)) rfl ?_
 refine fa_ hs ?_
 refine L7 rfl rfl rfl (B8 rfl rfl Cel.cel kR qR (by intro c hc; simp only [List.mem_cons, List.not_mem_nil, or_false] at hc; rcases hc with rfl | rfl; exact hb1.one; rfl) UpC.upd ?_)
 refine I2 (D0 8 9) (A7 ?_)
 exact ⟨_, M18, [], B2V (n := 2) rfl rfl rfl kR At.mem qR, Fit.none (Fit.last qP), u0, u1, rfl, hP18, hb0.mono (fun x hx => by simp [hx]), hb1.mono (fun x hx => by simp [hx])⟩

def A4i (k : LN) (p n : Nat) : LN := ((beN k.length 4 ++ k) ++ beN p 4) ++ beN n 4
theorem A1b (k : LN) (p n : Nat) : (A4i k p n).length = k.length + 12 := by simp [A4i, G2]; omega
def A3q (w h : LN) : LN := ((beN w.length 4 ++ w) ++ beN h.length 4) ++ h
theorem A1p (w h : LN) : (A3q w h).length = w.length + h.length + 8 := by simp [A3q, G2]; omega
theorem B4O (pb : Nat × Nat) (s : Ps) (v1 v2 : Value) (sec their : LN) (MP A : Mem) (hP : Prm pb s MP) (hn : s.ts.length + 200 ≤ 1040000) (hk : s.n < 1000000000) (h1 : By A v1 sec) (h2 : By A v2 their) (hG : Glb A) : FnX Tryz.prog 73 [.pointer (some ⟨pb.1, 0, none⟩), v1, v2] MP A fun q M J => Prm pb (begS s sec their) M ∧ RsV (J ++ A) q (B6U s sec their) := by
 haveI := h1.cel
 haveI := h2.cel
 have hfl := A4e s
 refine FnX.enterZ (N := 27) Tryz.func73 rfl rfl rfl fun w_ => ?_
 refine A8 (E5 0 1 2) (A1 ?_)
 refine A4 rfl (D2 (cs := [vS, vS, vS, vS, E4, vS, E4, E4, .pointer none]) kR rfl fun b6 => ?_)
 refine A0 (F4 0 1 2 6) (A1 (mv_ ?_))
 refine A4 rfl (A9 (Mc := MP) (R := _) (aS rfl (a0)) kR qP (R7 pb s MP _ hP qO qO hG.up) rfl ?_)
 rintro v9 M9 J9 ⟨hP9, h9⟩
 haveI := h9.cel
 refine mv_ ?_
 refine E0 (aS rfl a0) kR (K6 v2 their _ (h2.mono qS)) rfl ?_
 rintro v11 M11 J11 ⟨rfl, h11⟩
 haveI := h11.cel
 refine A2 (D6 (place := fun x => #[(0, 1)][x]?) (z := [vS]) (fun _ => by kernel_rfl) e0 bd0) rfl ?_
 refine A4 rfl (bx_ fun b13 => ?_)
 refine A2 (D6 (place := fun x => #[(0, 1), (1, 1), (2, 1), (3, 2), (5, 2), (7, 1), (8, 1)][x]?) (z := [vS, vS, vS, vS, E4, vS, E4, E4, .pointer none]) (fun _ => by kernel_rfl) (eS rfl (eS rfl (eS rfl e0))) (bdS 0 1 rfl qR (bdS 1 1 rfl qR (bdS 8 1 rfl qR bd0)))) rfl ?_
 refine A4 rfl (D2 (cs := [vS, vS, vS, vS, E4, vS, E4, E4, .pointer none]) kR rfl fun b7 => ?_)
 refine A4 rfl (B8 (vs := [v9, v11, vS, vS, .int .u32 0, vS, .int .u32 0, .int .u32 0, (vP b13)]) rfl rfl rfl kR qR (A3 h9.one (A3 h11.one (A3 rfl al6))) UpC.upd ?_)
 refine A0 (G6 0 1 2 6 7) (A1 (mv_ (mv_ ?_)))
 refine A2 (qf_ 0 0) rfl ?_
 refine A2 ql_ rfl ?_
 refine mv_ ?_
 refine A4 rfl (A9 (Mc := M9) (R := _) (aS rfl (aS rfl (aS rfl (aS rfl (a0))))) kR qP (A9M pb (D4 s) v1 v9 v2 sec (D9 s) their M9 _ hP9 qO (h1.mono qS) (h9.mono qS) (h2.mono qS) hG.up) rfl ?_)
 rintro v21 M21 J21 ⟨u0, u1, rfl, hP21, g0, g1⟩
 haveI := g0.cel
 haveI := g1.cel
 refine mv_ ?_
 refine A2 (R6 rfl) rfl ?_
 refine A2 (R4 rfl) rfl ?_
 refine A2 (qf_ 2 2) rfl ?_
 refine A4 rfl (F8 rfl rfl g0.one kR SetC.set UpC.upd ?_)
 refine A2 (qf_ 3 3) rfl ?_
 refine A4 rfl (K9 (vs := [u1, .int .u32 0]) (cs' := [v9, v11, u0, u1, .int .u32 0, vS, .int .u32 0, .int .u32 0, (vP b13)]) rfl rfl rfl kR (by exact (show 3 + 2 ≤ 9 by decide)) (A3 g1.one (A3 rfl H9)) rfl UpC.upd ?_)
 refine A0 (D0 6 7) ?_
 refine V7 (B := [(b13, blk [vS] 195)]) qP ?_
 refine A1 ?_
 refine A2 (qw_ 9) rfl ?_
 refine A4 rfl (B8 (vs := [v9, v11, u0, u1, .int .u32 0, vS, .int .u32 0, .int .u32 0, (vP b13)]) rfl rfl rfl kR qR (A3 h9.one (A3 h11.one (A3 g0.one (A3 g1.one al5)))) UpC.upd ?_)
 refine A0 (C7 6) (A7 ?_)
 exact ⟨_, M21, [], B0k (n := 9) rfl rfl kR At.mem qR, Fit.none (Fit.last qP), hP21, v9, v11, u0, u1, vS, _, rfl, ⟨h9.mono qS, h11.mono qS, g0.mono qS, g1.mono qS, By.nil, StF.new qM, (show 0 < 4294967296 by decide), (show 0 < 4294967296 by decide), (show 0 < 4294967296 by decide), (show 0 ≤ 1000 by decide)⟩⟩
theorem A9N (v1 v2 : Value) (sec own : LN) (A : Mem) (h1 : By A v1 sec) (h2 : By A v2 own) : FnX Tryz.prog 65 [v1, v2] [] A fun q M J => M = [] ∧ RsV (J ++ A) q (A1A sec own) := by
 haveI := h1.cel
 haveI := h2.cel
 refine FnX.enterZ (N := 12) Tryz.func65 rfl rfl rfl fun w_ => ?_
 refine A8 (D0 0 1) (A1 ?_)
 refine A4 rfl (D2 (cs := [vS, vS, vS, vS, E4, vS, E4, E4, .pointer none]) kR rfl fun b4 => ?_)
 refine A0 (E5 0 1 4) (A1 (mv_ ?_))
 refine E0 (aS rfl a0) kR (K6 v2 own _ (h2.mono qS)) rfl ?_
 rintro v6 M6 J6 ⟨rfl, h6⟩
 haveI := h6.cel
 refine mv_ ?_
 refine E0 (aS rfl a0) kR (K6 v1 sec _ (h1.mono qS)) rfl ?_
 rintro v8 M8 J8 ⟨rfl, h8⟩
 haveI := h8.cel
 refine A2 (D6 (place := fun x => #[(0, 1)][x]?) (z := [vS]) (fun _ => by kernel_rfl) e0 bd0) rfl ?_
 refine A4 rfl (bx_ fun b10 => ?_)
 refine A2 (D6 (place := fun x => #[(0, 1), (1, 1), (2, 1), (3, 2), (5, 2), (7, 1), (8, 1)][x]?) (z := [vS, vS, vS, vS, E4, vS, E4, E4, .pointer none]) (fun _ => by kernel_rfl) (eS rfl (eS rfl (eS rfl e0))) (bdS 0 1 rfl qR (bdS 2 1 rfl qR (bdS 8 1 rfl qR bd0)))) rfl ?_
 refine A4 rfl (B8 (vs := [v6, vS, v8, vS, .int .u32 0, vS, .int .u32 0, .int .u32 0, (vP b10)]) rfl rfl rfl kR qR (A3 h6.one (A3 rfl (A3 h8.one al6))) UpC.upd ?_)
 refine A0 (C7 4) (A7 ?_)
 exact ⟨_, [], [(b10, blk [vS] 195)], B0k (n := 9) rfl rfl kR At.mem qR, Fit.pick (B := [_]) qP qZ, rfl, v6, vS, v8, vS, vS, _, rfl, ⟨h6.mono qS, By.nil, h8.mono qS, By.nil, By.nil, StF.new qM, (show 0 < 4294967296 by decide), (show 0 < 4294967296 by decide), (show 0 < 4294967296 by decide), (show 0 ≤ 1000 by decide)⟩⟩
theorem A5S (r : Rsd) (vo vt vr vk vl vs : Value) (A : Mem) (hr : RsR A r vo vt vr vk vl vs) : FnX Tryz.prog 118 [.agg (rsC vo vt vr vk vl vs r).toArray] [] A fun q M J => ∃ cb, q = .agg (rsC vo vt vr vk vl (vP cb) r).toArray ∧ Sto A cb r.sks M := by
 haveI := hr.own.cel
 haveI := hr.their.cel
 haveI := hr.root.cel
 haveI := hr.sk.cel
 haveI := hr.tk.cel
 obtain ⟨sb, u, rows, rfl, hsb, hrd, hrw⟩ := hr.st
 have hsl := hr.sks
 unfold rsC
 refine FnX.enterZ (N := 8) Tryz.func118 rfl rfl rfl fun w_ => ?_
 refine A8 (C7 0) (A1 ?_)
 refine A4 rfl (bx_ fun b1 => ?_)
 refine A4 rfl (D2 (cs := [vS, vS, vS, vS, E4, vS, E4, E4, .pointer none]) kR rfl fun b2 => ?_)
 refine A0 (D0 1 2) (A1 ?_)
 refine A2 (qf_ 8 8) rfl ?_
 refine A2 ql_ rfl ?_
 refine E0 (aS rfl a0) kR (A9J sb _ u rows.flatten _ (mA hsb) (hrd.mono qS) (hrw.ones skT) qO) rfl ?_
 rintro v5 M5 J5 ⟨cb, u5, B5, rfl, rfl, hs5⟩
 refine A2 (qf_ 8 8) rfl ?_
 refine A4 rfl (F8 rfl rfl rfl kR SetC.set UpC.upd ?_)
 refine A0 (D0 1 2) (A1 ?_)
 refine A2 (qw_ 9) rfl ?_
 refine A4 rfl (B8 (vs := [vo, vt, vr, vk, (vU r.sn), vl, (vU r.tn), (vU r.prev), (vP cb)]) rfl rfl rfl kR qR (A3 hr.own.one (A3 hr.their.one (A3 hr.root.one (A3 hr.sk.one (A3 rfl (A3 hr.tk.one al3)))))) UpC.upd ?_)
 refine A0 (C7 2) (A7 ?_)
 exact ⟨_, (cb, blk [u5] 195) :: B5, [], B0k (n := 9) rfl rfl kR At.mem qR, Fit.none (Fit.pick (B := [_]) qP (Fit.last qP)), cb, rfl, ⟨u5, rows, B5, rfl, hs5, hrw⟩⟩
theorem B1K (vk : Value) (k : LN) (p n : Nat) (A : Mem) (hk : By A vk k) (hl : k.length ≤ 16000000) (hp : p < 4294967296) (hn : n < 4294967296) : FnX Tryz.prog 130 [.agg #[vk, (vU p), (vU n)]] [] A fun q M J => M = [] ∧ By J q (A4i k p n) := by
 haveI := hk.cel
 refine FnX.enterZ (N := 19) Tryz.func130 rfl rfl rfl fun w_ => ?_
 refine A8 (C7 0) (A1 ?_)
 refine A4 rfl (bx_ fun b1 => ?_)
 refine as_ (A0 (C7 1) (A1 ?_))
 refine A2 (D6 (place := fun x => #[(0, 1)][x]?) (z := [vS]) (fun _ => by kernel_rfl) e0 bd0) rfl ?_
 refine A4 rfl (bx_ fun b5 => ?_)
 refine as_ (A0 (D0 1 3) ?_)
 refine E6 ([(b5, blk [vS] 97)]) (_) true (.range 14) [(0, 0), (1, 0), (2, 1), (4, 0), (5, 1), (6, 0), (8, 0), (9, 1), (10, 0), (3, 2), (7, 2), (11, 2), (12, 2), (13, 0)] kR kR qP fun hs K n0 hKm hKs hKn => ?_
 refine km_ hs ?_
 refine F1 hs rfl (qf_ 0 0) rfl ?_
 refine I1 hs rfl hKs ql_ ?_
 refine F1 hs rfl (qf_ 1 1) rfl ?_
 refine I1 hs rfl hKs ql_ ?_
 refine F1 hs rfl (H7 (k' := .u64) p rfl kR (W5 qO)) rfl ?_
 refine F1 hs rfl (qf_ 2 2) rfl ?_
 refine I1 hs rfl hKs ql_ ?_
 refine F1 hs rfl (H7 (k' := .u64) n rfl kR (W5 qO)) rfl ?_
 refine F9 _ _ rfl rfl (List.Perm.refl _) hKm fun w0 => (A9 (Mc := [(b5, blk [vS] 97)]) (R := _) (aS rfl (aS rfl (a0))) kR qP (I0 b5 vk k [] _ _ Wtr.new (hk.mono qS) qD) rfl ?_)
 rintro v9 M9 J9 ⟨rfl, hW9⟩ hKx9
 refine F9 M9 _ rfl rfl qP (fun x hx => hKx9 (hKn rfl) x (by simpa using hx)) fun w0 => (A9 (Mc := M9) (R := _) (aS rfl (aS rfl (aS rfl (a0)))) kR qP (K1 b5 p 4 _ _ _ hW9 qO qD (by simp [G2]; omega)) rfl ?_)
 rintro v13 M13 J13 ⟨rfl, hW13⟩ hKx13
 refine F9 M13 _ rfl rfl qP (fun x hx => hKx13 (hKn rfl) x (by simpa using hx)) fun w0 => (A9 (Mc := M13) (R := _) (aS rfl (aS rfl (aS rfl (a0)))) kR qP (K1 b5 n 4 _ _ _ hW13 qO qD (by simp [G2]; omega)) rfl ?_)
 rintro v17 M17 J17 ⟨rfl, hW17⟩ hKx17
 refine F9 M17 _ rfl rfl qP (fun x hx => hKx17 (hKn rfl) x (by simpa using hx)) fun w0 => (A9 (Mc := M17) (R := _) (aS rfl (a0)) kR qP (P8 b5 _ M17 _ hW17 (by simp [G2]; omega)) rfl ?_)
 rintro v18 M18 J18 ⟨hW18, h18⟩ hKx18
 haveI := h18.cel
 refine F1 hs rfl (F5 rfl) rfl ?_
 refine G7 (C7 2) (A7 ?_)
 exact ⟨_, [], [], F7 rfl rfl, qZ, rfl, h18.mono qS⟩
theorem A9O (vw vk : Value) (w k : LN) (p n : Nat) (A : Mem) (hw : By A vw w) (hk : By A vk k) (hl : w.length + k.length ≤ 16000000) (hp : p < 4294967296) (hn : n < 4294967296) : FnX Tryz.prog 89 [vw, .agg #[vk, (vU p), (vU n)]] [] A fun q M J => M = [] ∧ By J q (A3q w (A4i k p n)) := by
 haveI := hw.cel
 haveI := hk.cel
 refine FnX.enterZ (N := 15) Tryz.func89 rfl rfl rfl fun w_ => ?_
 refine A8 (D0 0 1) (A1 ?_)
 refine A4 rfl (bx_ fun b3 => ?_)
 refine as_ (A0 (D0 0 3) (A1 ?_))
 refine A2 (D6 (place := fun x => #[(0, 1)][x]?) (z := [vS]) (fun _ => by kernel_rfl) e0 bd0) rfl ?_
 refine A4 rfl (bx_ fun b7 => ?_)
 refine as_ (A0 (E5 0 3 5) ?_)
 refine E6 ([(b7, blk [vS] 97)]) (_) true (.range 8) [(0, 0), (1, 0), (3, 1), (2, 2), (4, 2), (5, 2), (6, 2), (7, 0)] kR kR qP fun hs K n0 hKm hKs hKn => ?_
 refine km_ hs ?_
 refine km_ hs ?_
 refine I1 hs rfl hKs (qw_ 3) ?_
 refine F9 _ _ rfl rfl (List.Perm.refl _) hKm fun w0 => (A9 (Mc := [(b7, blk [vS] 97)]) (R := _) (aS rfl (aS rfl (a0))) kR qP (I0 b7 vw w [] _ _ Wtr.new (hw.mono qS) qD) rfl ?_)
 rintro v10 M10 J10 ⟨rfl, hW10⟩ hKx10
 refine F9 [] _ rfl rfl (List.Perm.refl _) (fun _ h => by cases h) fun w0 => (K0 (aS rfl a0) kR (B1K vk k p n _ (hk.mono qS) qO hp hn) rfl ?_)
 rintro v12 M12 J12 ⟨rfl, h12⟩ _
 haveI := h12.cel
 dsimp only [List.nil_append, List.append_eq]
 refine F9 M10 _ rfl rfl qP (fun x hx => hKx10 (hKn rfl) x (by simpa using hx)) fun w0 => (A9 (Mc := M10) (R := _) (aS rfl (aS rfl (a0))) kR qP (I0 b7 v12 (A4i k p n) _ _ _ hW10 (h12.mono qS) (by simp [G2]; omega)) rfl ?_)
 rintro v13 M13 J13 ⟨rfl, hW13⟩ hKx13
 refine F9 M13 _ rfl rfl qP (fun x hx => hKx13 (hKn rfl) x (by simpa using hx)) fun w0 => (A9 (Mc := M13) (R := _) (aS rfl (a0)) kR qP (P8 b7 _ M13 _ hW13 (by simp [G2, A1b]; omega)) rfl ?_)
 rintro v14 M14 J14 ⟨hW14, h14⟩ hKx14
 haveI := h14.cel
 refine F1 hs rfl (F5 rfl) rfl ?_
 refine G7 (C7 4) (A7 ?_)
 exact ⟨_, [], [], F7 rfl rfl, qZ, rfl, h14.mono qS⟩

end Go.Proofs.YtoameenjkiaefaaGreatDoor
