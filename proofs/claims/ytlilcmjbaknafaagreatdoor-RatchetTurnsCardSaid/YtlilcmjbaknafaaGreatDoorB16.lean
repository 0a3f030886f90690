/- Part 16 of the texts of this claim, one behind the other. -/
import Derived.Test.YtlilcmjbaknafaaGreatDoorB15
set_option linter.unusedVariables false
set_option linter.unusedSimpArgs false
set_option maxRecDepth 100000
namespace Go.Proofs.YtlilcmjbaknafaaGreatDoor
open Go.Px
def n12 : LN := List.replicate 12 0
theorem B1l (w : LN) : F7 (F7 w 32) 32 = F7 w 32 := A5k (K0 w 32)
theorem A74 {a b x y : LN} (ha : a.length < 18446744073709551616) (hb : b.length < 18446744073709551616) (h : mark a ++ x = mark b ++ y) : a = b ∧ x = y := by
  unfold mark at h
  rw [List.append_assoc, List.append_assoc] at h
  obtain ⟨h1, h2⟩ := A4U (Y5 (.inr rfl)) (Y5 (.inr rfl)) (show dec a.length ++ 58 :: (a ++ x) = dec b.length ++ 58 :: (b ++ y) from h)
  have h3 : a.length = b.length := by
    have := congrArg dv h1
    rwa [A0W ha, A0W hb] at this
  exact List.append_inj h2 h3
theorem B1m {x : Int} {a b : LN} (h : Tmo (A2p x a b)) : a.length < 18446744073709551616 ∧ b.length < 18446744073709551616 := by
  have h1 : (mark a ++ mark b).length ≤ 1099511627776 := h.tl
  rw [List.length_append] at h1
  have h2 : a.length ≤ (mark a).length := by simp [mark]; omega
  have h3 : b.length ≤ (mark b).length := by simp [mark]; omega
  omega
theorem A75 {x y : Int} {a b c d : LN} (h1 : Tmo (A2p x a b)) (h2 : Tmo (A2p y c d)) (h : A2p x a b = A2p y c d) : x = y ∧ a = c ∧ b = d := by
  obtain ⟨l1, l2⟩ := B1m h1
  obtain ⟨l3, l4⟩ := B1m h2
  unfold A2p at h
  injection h with h1 h2 h3 h4
  obtain ⟨h5, h6⟩ := A74 l1 l3 h3
  obtain ⟨h7, -⟩ := A74 (x := []) (y := []) l2 l4 (by rw [List.append_nil, List.append_nil]; exact h6)
  exact ⟨(List.cons.inj h2).1, h5, h7⟩
def A8T (ts : List Tm) (w wa wg t : LN) : Prop := wg.length = 32 ∧ ∃ i j : Nat, plc wg ts.length = some i ∧ plc w ts.length = some j ∧ ts[i]? = some (A2p ((j : Nat) : Int) wa t)
theorem A8T.inj {ts : List Tm} (ht : Tok ts) {w wa wg t t' : LN} (h : A8T ts w wa wg t) (h' : A8T ts w wa wg t') : t = t' := by
  obtain ⟨-, i, j, h1, h2, h3⟩ := h
  obtain ⟨-, i', j', g1, g2, g3⟩ := h'
  rw [h1] at g1
  obtain rfl := Option.some.inj g1
  rw [h3] at g3
  have m1 := ht.tmo _ (List.mem_of_getElem? h3)
  have e := Option.some.inj g3
  exact (A75 m1 (e ▸ m1) e).2.2
open Classical in
noncomputable def B1n (ts : List Tm) (w wa wg : LN) : Option (LN) := if h : ∃ t, A8T ts w wa wg t then some (Classical.choose h) else none
theorem A6p {ts : List Tm} (ht : Tok ts) {w wa wg t : LN} (h : A8T ts w wa wg t) : B1n ts w wa wg = some t := by
  unfold B1n
  have h2 : ∃ t, A8T ts w wa wg t := ⟨t, h⟩
  rw [dif_pos h2, (Classical.choose_spec h2).inj ht h]
theorem A11 {ts : List Tm} {w wa wg : LN} (h : ∀ t, ¬ A8T ts w wa wg t) : B1n ts w wa wg = none := dif_neg fun ⟨t, ht⟩ => h t ht
noncomputable def A1B (s : Ps) (w wa wg : LN) : Option (LN) := if s.real then X0 (F7 w 32) n12 wa wg else B1n s.ts w wa wg
theorem B1o {s : Ps} (h : s.real = true) (w wa wg : LN) : A1B s w wa wg = X0 (F7 w 32) n12 wa wg := if_pos h
theorem A3K {s : Ps} (h : s.real = false) (w wa wg : LN) : A1B s w wa wg = B1n s.ts w wa wg := if_neg (by rw [h]; decide)
def A8Z (s : Ps) (w wa wb : LN) : Ps := if s.real then s else B4u s w fun x => A2p x wa wb
def B6O (s : Ps) (w wa wb : LN) : LN := if s.real then V0 (F7 w 32) n12 wa wb else B4v s w fun x => A2p x wa wb
theorem B4U {s : Ps} (h : s.real = true) (w wa wb : LN) : A8Z s w wa wb = s := if_pos h
theorem B4V {s : Ps} (h : s.real = false) (w wa wb : LN) : A8Z s w wa wb = B4u s w fun x => A2p x wa wb := if_neg (by rw [h]; decide)
theorem B4W {s : Ps} (h : s.real = true) (w wa wb : LN) : B6O s w wa wb = V0 (F7 w 32) n12 wa wb := if_pos h
theorem B4X {s : Ps} (h : s.real = false) (w wa wb : LN) : B6O s w wa wb = B4v s w fun x => A2p x wa wb := if_neg (by rw [h]; decide)
def W4 (ts : List Tm) : Prop := ∀ t ∈ ts, t.kind = 6 → ∃ x a b, t = A2p x a b ∧ (∀ y ∈ b, y < 256) ∧ b.length ≤ 16777216
theorem W4.nil : W4 [] := fun t h => by cases h
theorem W4.add {ts : List Tm} (h : W4 ts) {t : Tm} (ht : t.kind = 6 → ∃ x a b, t = A2p x a b ∧ (∀ y ∈ b, y < 256) ∧ b.length ≤ 16777216) : W4 (add ts t) := by
  unfold Go.Proofs.YtlilcmjbaknafaaGreatDoor.add
  split
  · exact h
  · intro u hu hk
    rcases List.mem_append.1 hu with hu | hu
    · exact h u hu hk
    · rw [List.mem_singleton.1 hu] at hk ⊢; exact ht hk
theorem W4.not {ts : List Tm} (h : W4 ts) {t : Tm} (ht : t.kind ≠ 6) : W4 (Go.Proofs.YtlilcmjbaknafaaGreatDoor.add ts t) := h.add fun hk => absurd hk ht
theorem W4.rd {ts : List Tm} (h : W4 ts) (w : LN) : W4 (rdT ts w) := by
  unfold rdT
  split
  · exact h
  · exact h.not (show (2 : Nat) ≠ 6 by decide)
theorem B6P {s s' : Ps} {w wa wb : LN} (ht : Tok s.ts) (hw : Kok s w) (ha : ∀ x ∈ wa, x < 256) (hb : ∀ x ∈ wb, x < 256) (la : wa.length ≤ 16777216) (lb : wb.length ≤ 16777216) (he : Pext (A8Z s w wa wb) s') (ht' : Tok s'.ts) (hl : s'.ts.length ≤ 1048576) : A1B s' w wa (B6O s w wa wb) = some wb := by
  cases hr : s.real with
  | true =>
    rw [B4U hr] at he
    rw [B1o (he.real.trans hr), B4W hr, A6o]
  | false =>
    rw [B4V hr] at he
    have hr' : s'.real = false := he.real.trans hr
    obtain ⟨l, e⟩ := he.ts
    obtain ⟨i, hi, rfl⟩ := hw hr
    have hlen : s.ts.length ≤ 1048576 := by
      have hge : ∃ l, add (rdT s.ts (bts ((i : Nat) : Int))) (A2p ((rdI s.ts (bts ((i : Nat) : Int)) : Nat) : Int) wa wb) = rdT s.ts (bts ((i : Nat) : Int)) ++ l := A5f _ _
      obtain ⟨lx, hge⟩ := hge
      have := congrArg List.length hge
      rw [List.length_append] at this
      have h2 := A97 (ts := s.ts) (w := bts ((i : Nat) : Int))
      have h3 : s'.ts.length = (add (rdT s.ts (bts ((i : Nat) : Int))) (A2p ((rdI s.ts (bts ((i : Nat) : Int)) : Nat) : Int) wa wb)).length + l.length := by rw [e, List.length_append]; rfl
      omega
    obtain ⟨a1, a2⟩ := A3j hi hlen
    rw [A3K hr', B4X hr]
    unfold B4u at e
    unfold B4v
    dsimp only at e
    rw [a1, a2] at e ⊢
    obtain ⟨l0, g1, g2, g3, g4⟩ := A3Y (B0c (x := ((i : Nat) : Int)) (by unfold i64; omega) ha hb la lb) ht
    have g5 : s'.ts[at_ s.ts (A2p ((i : Nat) : Int) wa wb)]? = some (A2p ((i : Nat) : Int) wa wb) := by rw [e]; exact A3i g3
    have g6 := (List.getElem?_eq_some_iff.1 g5).1
    refine A6p ht' ⟨A0w _ qD, _, i, ?_, ?_, g5⟩
    · rw [A1u, show ∀ z : Nat, z < s'.ts.length → u64 ((z : Nat) : Int) = z from fun z hz => by unfold u64; omega, if_pos g6]
      exact g6
    · have hi' : i < s'.ts.length := by rw [e, g1, List.length_append, List.length_append]; omega
      rw [A1u, show u64 ((i : Nat) : Int) = i by unfold u64; omega, if_pos hi']
set_option maxHeartbeats 1000000 in
theorem B6Q (pb bt bm : Nat) (s : Ps) (hr : s.real = false) (v v2 v3 : Value) (w wa wg : LN) (j : Nat) (MP A : Mem) (hP : PrmT pb bt bm s MP) (hMP : ∀ x, x ∈ MP → x ∈ A) (hn : s.ts.length ≤ 1048576) (hSel : W4 s.ts) (hv : By A v w) (h2 : By A v2 wa) (h3 : By A v3 wg) (hj : plc w s.ts.length = some j) (hG : Glb A) : FnX Tryz.prog 57 [(vP pb), v, v2, v3] [] A fun q M J => M = [] ∧ ∃ u, q = .tuple #[u, .bool (A1B s w wa wg).isSome] ∧ By J u ((A1B s w wa wg).getD []) := by
 obtain ⟨sv, B, MT, rfl, hby, hT⟩ := hP.ex
 have hmd : md s.real = 1 := by rw [hr]; rfl
 have hpb := hMP _ qK
 rw [hmd] at hpb
 have hsub : ∀ x, x ∈ MT → x ∈ A := fun x hx => hMP x (by simp [hx])
 obtain ⟨⟨ge0, gf0, h0⟩, ⟨ge1, gf1, h1⟩, ⟨ge4, gf4, h4⟩⟩ := hG
 haveI := hv.cel
 haveI := h2.cel
 haveI := h3.cel
 haveI := hby.cel
 have h2l := h2.len
 refine FnX.enterZ (N := 96) Tryz.func57 rfl rfl rfl fun w_ => ?_
 refine B0 (D8 0 1 2 3) (A1 (as_ (as_ (A0 (D8 0 1 2 3) (A3 (A1 (mv_ ?_)))))))
 refine A2 (H7 (e := 105) rfl rfl kR) rfl ?_
 refine A0 (E4 0 1 2 3 17) ?_
 refine C6 rfl ?_
 refine A6 (nx (D8 0 1 2 3) (A3 (A1 (mv_ ?_))))
 refine A2 (E6 rfl) rfl ?_
 refine A2 (qf_ 0 0) rfl ?_
 refine A2 (K2 rfl kR (mA hpb) qR) rfl ?_
 refine A2 (E9 false rfl rfl (eqF qD)) rfl ?_
 refine A0 (E4 0 1 2 3 22) ?_
 refine C6 rfl ?_
 refine A6 (nx (D8 0 1 2 3) (A1 (mv_ ?_)))
 refine A2 (E6 rfl) rfl ?_
 refine A2 (qf_ 3 3) rfl ?_
 refine A2 (K2 rfl kR (mA hpb) qR) rfl ?_
 refine mv_ ?_
 refine F1 (aS rfl (aS rfl a0)) kR (A18 bt bm s.ts v3 wg MT _ hT (fun x hx => qS _ (hsub x hx)) hn (h3.rd.mono qS) h3.lt h3.max) rfl ?_
 obtain ⟨i, hie⟩ : ∃ z, (plc wg s.ts.length).getD 0 = z := ⟨_, rfl⟩
 rw [hie]
 refine mv_ ?_
 refine A2 (A0T rfl) rfl ?_
 refine A2 (A0L rfl) rfl ?_
 refine as_ (as_ (A0 (H3 0 1 2 3 10 11) (A1 (mv_ ?_))))
 refine A2 (E6 rfl) rfl ?_
 refine A2 (qf_ 3 3) rfl ?_
 refine A2 (K2 rfl kR (mA hpb) qR) rfl ?_
 refine mv_ ?_
 refine C5 (aS rfl (aS rfl a0)) kR (A50 bt bm s.ts _ MT _ hT (fun x hx => qS _ (hsub x hx))) rfl ?_
 rintro v46 M46 J46 ⟨rfl, rfl, c46, ok46, rfl, hg1, hg2⟩
 obtain ⟨vo, t, rfl, hvo, hz, htk, hok, hno⟩ := A52 hT.tok.tmo hg1 hg2
 haveI := hvo.cel
 refine mv_ ?_
 refine A2 (A0T rfl) rfl ?_
 refine A2 (A0L rfl) rfl ?_
 refine A5 rfl (C4 (cs := [.int .u8 0, vS, .string ByteArray.empty, .int .i64 0]) kR rfl fun b12 => ?_)
 refine A5 rfl (A9 (vs := tmc t.kind vo t.text t.n) rfl rfl rfl kR qR (by intro c hc; simp only [tmc, List.mem_cons, List.not_mem_nil, or_false] at hc; rcases hc with rfl | rfl | rfl | rfl <;> first | rfl | exact hvo.one) UpC.upd ?_)
 dsimp only [tmc]
 refine as_ (A0 (H3 0 1 2 3 11 12) (A3 ?_))
 refine N1 ([]) (_) true (.range 22) (zp 0 [0, 0, 0, 0, 0, 0, 0, 0, 0, 1, 0, 0, 0, 0, 1, 0, 1, 0, 0, 2, 0, 0]) kR kR qP fun hs K n0 hKm hKs hKn => ?_
 refine km_ hs ?_
 refine L9 hs rfl (A5w rfl) rfl ?_
 refine km_ hs ?_
 refine A2z (t := 51) rfl (fun hb => ?_) (fun hb => ?_)
 ·
  have hpn : plc wg s.ts.length = none := by cases hq : plc wg s.ts.length with | none => rfl | some z => rw [hq] at hb; cases hb
  have hno_ : A1B s w wa wg = none := (A3K hr _ _ _).trans (A11 fun t_ ⟨z0, z1, z2, z3, z4, z5⟩ => by rw [hpn] at z3; cases z3)
  refine Y3 hs rfl rfl rfl rfl rfl rfl ?_
  refine Y3 hs rfl rfl rfl rfl rfl rfl ?_
  refine Y3 hs rfl rfl rfl rfl rfl rfl ?_
  refine L9 hs rfl (I6 rfl rfl) rfl ?_
  refine km_ hs ?_
  refine Y3 hs rfl rfl rfl rfl rfl rfl ?_
  refine A4R hs rfl rfl rfl rfl rfl rfl ?_
  refine Y3 hs rfl rfl rfl rfl rfl rfl ?_
  refine L9 hs rfl (I6 rfl rfl) rfl ?_
  refine km_ hs ?_
  refine Y3 hs rfl rfl rfl rfl rfl rfl ?_
  refine A4R hs rfl rfl rfl rfl rfl rfl ?_
  refine Y3 hs rfl rfl rfl rfl rfl rfl ?_
  refine A4R hs rfl rfl rfl rfl rfl rfl ?_
  refine Y3 hs rfl rfl rfl rfl rfl rfl ?_
  refine Y3 hs rfl rfl rfl rfl rfl rfl ?_
  refine B2o rfl rfl rfl rfl rfl rfl ?_
  refine Y3 hs rfl rfl rfl rfl rfl rfl ?_
  refine L9 hs rfl (I6 rfl rfl) rfl ?_
  refine T3 (D6 2 12 70) ?_
  refine D5 rfl ?_
  refine A1 (as_ (as_ (A0 (D2 8 9) (B4 (tr ?_)))))
  exact ⟨_, [], [], A13 rfl rfl rfl, qZ, rfl, vS, by rw [hno_]; rfl, by rw [hno_]; exact By.nil⟩
 ·
  have hi : plc wg s.ts.length = some i := by cases hq : plc wg s.ts.length with | none => rw [hq] at hb; cases hb | some z => rw [hq] at hie; exact congrArg some hie
  have hil := (A9V hi).1
  have hok2 : ok46 = true := (hg1 ⟨by omega, by omega⟩).1
  obtain ⟨-, ht2⟩ := hok hok2
  rw [Int.toNat_natCast] at ht2
  refine A22 hs rfl rfl rfl rfl qm_ rfl ?_
  refine A22 hs rfl rfl rfl rfl (G1 (sz := 1) rfl kR h3.rd) rfl ?_
  refine A22 hs rfl rfl rfl rfl (D4 rfl rfl rfl) rfl ?_
  refine L9 hs rfl (I0 rfl rfl) rfl ?_
  refine km_ hs ?_
  refine A2z (t := 56) rfl (fun hb => ?_) (fun hb => ?_)
  ·
   have h32 : wg.length ≠ 32 := by intro e; rw [e] at hb; exact absurd hb qD
   have hno_ : A1B s w wa wg = none := (A3K hr _ _ _).trans (A11 fun t_ ⟨z0, z1, z2, z3, z4, z5⟩ => h32 z0)
   refine Y3 hs rfl rfl rfl rfl rfl rfl ?_
   refine A4R hs rfl rfl rfl rfl rfl rfl ?_
   refine Y3 hs rfl rfl rfl rfl rfl rfl ?_
   refine L9 hs rfl (I6 rfl rfl) rfl ?_
   refine km_ hs ?_
   refine Y3 hs rfl rfl rfl rfl rfl rfl ?_
   refine A4R hs rfl rfl rfl rfl rfl rfl ?_
   refine Y3 hs rfl rfl rfl rfl rfl rfl ?_
   refine A4R hs rfl rfl rfl rfl rfl rfl ?_
   refine Y3 hs rfl rfl rfl rfl rfl rfl ?_
   refine Y3 hs rfl rfl rfl rfl rfl rfl ?_
   refine B2o rfl rfl rfl rfl rfl rfl ?_
   refine Y3 hs rfl rfl rfl rfl rfl rfl ?_
   refine L9 hs rfl (I6 rfl rfl) rfl ?_
   refine T3 (D6 2 12 70) ?_
   refine D5 rfl ?_
   refine A1 (as_ (as_ (A0 (D2 8 9) (B4 (tr ?_)))))
   exact ⟨_, [], [], A13 rfl rfl rfl, qZ, rfl, vS, by rw [hno_]; rfl, by rw [hno_]; exact By.nil⟩
  ·
   have h32 : wg.length = 32 := by simp at hb; omega
   refine A22 hs rfl rfl rfl rfl (qf_ 0 0) rfl ?_
   refine B2n hs rfl rfl rfl rfl (by first | exact fun x hx => by rw [List.append_assoc]; exact List.mem_append_right _ hx | exact qS) hKs ql_ rfl ?_
   refine A22 hs rfl rfl rfl rfl (D4 rfl rfl rfl) rfl ?_
   refine L9 hs rfl (I0 rfl rfl) rfl ?_
   refine km_ hs ?_
   refine A2z (t := 61) rfl (fun hb => ?_) (fun hb => ?_)
   ·
    have hk6 : t.kind ≠ 6 := by intro e; rw [e] at hb; exact absurd hb qD
    have hno_ : A1B s w wa wg = none := (A3K hr _ _ _).trans (A11 fun t_ ⟨z0, z1, z2, z3, z4, z5⟩ => by rw [hi] at z3; obtain rfl := Option.some.inj z3; rw [ht2] at z5; rw [Option.some.inj z5] at hk6; exact hk6 rfl)
    refine Y3 hs rfl rfl rfl rfl rfl rfl ?_
    refine A4R hs rfl rfl rfl rfl rfl rfl ?_
    refine Y3 hs rfl rfl rfl rfl rfl rfl ?_
    refine A4R hs rfl rfl rfl rfl rfl rfl ?_
    refine Y3 hs rfl rfl rfl rfl rfl rfl ?_
    refine Y3 hs rfl rfl rfl rfl rfl rfl ?_
    refine B2o rfl rfl rfl rfl rfl rfl ?_
    refine Y3 hs rfl rfl rfl rfl rfl rfl ?_
    refine L9 hs rfl (I6 rfl rfl) rfl ?_
    refine T3 (D6 2 12 70) ?_
    refine D5 rfl ?_
    refine A1 (as_ (as_ (A0 (D2 8 9) (B4 (tr ?_)))))
    exact ⟨_, [], [], A13 rfl rfl rfl, qZ, rfl, vS, by rw [hno_]; rfl, by rw [hno_]; exact By.nil⟩
   ·
    have hk6 : t.kind = 6 := by simp at hb; omega
    obtain ⟨x, a, b, rfl, hb256, hbl⟩ := hSel t (List.mem_of_getElem? ht2) hk6
    have hmt := hT.tok.tmo _ (List.mem_of_getElem? ht2)
    have hmb : B256 (A0I [a, b]) := B0O a b ▸ hmt.text
    have hml : (A0I [a, b]).length ≤ 1099511627776 := B0O a b ▸ hmt.tl
    replace hvo : Rd A 1 vo 1 (A1s [x]) := hvo
    refine A22 hs rfl rfl rfl rfl (qf_ 1 1) rfl ?_
    refine B2n hs rfl rfl rfl rfl (by first | exact fun x hx => by rw [List.append_assoc]; exact List.mem_append_right _ hx | exact qS) hKs ql_ rfl ?_
    refine A22 hs rfl rfl rfl rfl (I5 (sz := 1) (a := 0) rfl rfl kR rfl hvo (show 0 < 1 by decide)) rfl ?_
    refine B2n hs rfl rfl rfl rfl (by first | exact fun x hx => by rw [List.append_assoc]; exact List.mem_append_right _ hx | exact qS) hKs (A0i (j := 0) (u := .int .i64 x) (hvo.mono qS) rfl kR qR) rfl ?_
    refine A22 hs rfl rfl rfl rfl qm_ rfl ?_
    refine A22 hs rfl rfl rfl rfl qm_ rfl ?_
    refine B7x [] _ rfl rfl rfl rfl (List.Perm.refl _) (fun _ h => by cases h) fun w0 => (V2 (aS rfl (aS rfl a0)) kR (B3v pb bt bm 1 _ sv s.ts v w j MT _ hT (fun x hx => qS _ (hsub x hx)) (qS _ hpb) hn (hv.mono qS) hj) rfl fun _ => ?_)
    dsimp only [List.nil_append, List.append_eq]
    refine A22 hs rfl rfl rfl rfl (D4 rfl rfl rfl) rfl ?_
    refine L9 hs rfl (I0 rfl rfl) rfl ?_
    refine T3 (D6 2 12 70) ?_
    refine C1 rfl ?_ ?_ <;> intro hc
    ·
     have hxj : x ≠ ((j : Nat) : Int) := by intro e; rw [e] at hc; simp [I1] at hc
     have hno_ : A1B s w wa wg = none := (A3K hr _ _ _).trans (A11 fun t_ ⟨z0, z1, z2, z3, z4, z5⟩ => by rw [hi] at z3; obtain rfl := Option.some.inj z3; rw [hj] at z4; obtain rfl := Option.some.inj z4; rw [ht2] at z5; exact hxj (List.cons.inj (Tm.mk.inj (Option.some.inj z5)).2.1).1)
     refine A1 (as_ (as_ (A0 (D2 8 9) (B4 (tr ?_)))))
     exact ⟨_, [], [], A13 rfl rfl rfl, qZ, rfl, vS, by rw [hno_]; rfl, by rw [hno_]; exact By.nil⟩
    ·
     obtain rfl : x = ((j : Nat) : Int) := by simp [I1] at hc; exact hc
     refine A6 (nx (D2 2 12) (A1 ?_))
     refine A2 (qf_ 2 2) rfl ?_
     refine A2 ql_ rfl ?_
     rw [show (A2p ((j : Nat) : Int) a b).text = A0I [a, b] from B0O a b]
     refine C5 (aS rfl a0) kR (A8u [a, b] hmb hml _ (qS _ h4)) rfl ?_
     rintro r74 M74 J74 ⟨rfl, v74, rfl, hsl⟩
     haveI := hsl.cel
     refine mv_ ?_
     refine A2 (A0T rfl) rfl ?_
     refine A2 (A0L rfl) rfl ?_
     refine as_ (as_ (A0 (D6 2 14 15) (A3 ?_)))
     refine A0m (B := M74) qP ?_
     have hrd := hsl.rd (R := M74) fun _ h => h
     refine C9 (.range 15) (zp 0 [0, 0, 0, 0, 0, 0, 0, 0, 0, 0, 1, 0, 1, 0, 0]) kR kR fun hs => ?_
     refine fm_ hs ?_
     refine C2 hs rfl (E9 false rfl rfl (neF rfl)) rfl ?_
     refine fm_ hs ?_
     refine L7 hs rfl rfl rfl rfl qm_ rfl ?_
     refine L7 hs rfl rfl rfl rfl (G1 (sz := 1) rfl kR hrd) rfl ?_
     refine L7 hs rfl rfl rfl rfl (E9 false rfl rfl (neF rfl)) rfl ?_
     refine C2 hs rfl (I0 rfl rfl) rfl ?_
     refine fm_ hs ?_
     refine L7 hs rfl rfl rfl rfl qm_ rfl ?_
     refine L7 hs rfl rfl rfl rfl (I5 (sz := 1) (a := 0) rfl rfl kR rfl hrd (show _ < 2 by decide)) rfl ?_
     refine A8l hs rfl rfl rfl rfl (A0i (j := 0) (u := .string (txt a)) (hrd.mono qS) rfl kR qR) rfl ?_
     refine L7 hs rfl rfl rfl rfl qm_ rfl ?_
     refine A8l hs rfl rfl rfl rfl (Q3 rfl kR (h2.rd.mono qS)) rfl ?_
     have ha256 : ∀ y ∈ a, y < 256 := fun y hy => hmb.lt y (by simp [A0I, mark, hy])
     refine L7 hs rfl rfl rfl rfl (B5D rfl rfl rfl rfl ha256 h2.lt) rfl ?_
     refine C2 hs rfl (I0 rfl rfl) rfl ?_
     refine E7 (D2 14 91) ?_
     refine C1 rfl ?_ ?_ <;> intro hc
     ·
      have hne : a ≠ wa := by simpa using hc
      have hno_ : A1B s w wa wg = none := (A3K hr _ _ _).trans (A11 fun t_ ⟨z0, z1, z2, z3, z4, z5⟩ => by rw [hi] at z3; obtain rfl := Option.some.inj z3; rw [ht2] at z5; have e5 := Option.some.inj z5; exact hne (A75 hmt (e5 ▸ hmt) e5).2.1)
      refine A1 (as_ (as_ (A0 (D2 8 9) (B4 (tr ?_)))))
      exact ⟨_, [], [], A13 rfl rfl rfl, qZ, rfl, vS, by rw [hno_]; rfl, by rw [hno_]; exact By.nil⟩
     ·
      obtain rfl : a = wa := by simpa using hc
      have hye : A1B s w a wg = some b := (A3K hr _ _ _).trans (A6p hT.tok ⟨h32, i, j, hi, hj, ht2⟩)
      refine A6 (nx (D7 14) (A1 (mv_ ?_)))
      refine A2 (I5 (sz := 1) (a := 1) rfl rfl kR rfl hrd (show _ < 2 by decide)) rfl ?_
      refine A2 (A0i (j := 1) (u := .string (txt b)) (hrd.mono qS) rfl kR qR) rfl ?_
      refine A5 rfl (A0U (e := 5) rfl rfl hb256 kR kR kR rfl fun v95 B95 hs95 => ?_)
      refine A53 (B := B95) qP ?_
      refine as_ (as_ (A0 (D2 8 9) (B4 ?_)))
      exact ⟨_, [], [], A13 rfl rfl rfl, qZ, rfl, _, by rw [hye]; rfl, by rw [hye]; exact ⟨hs95.mono qS, hb256, hbl⟩⟩
theorem B1p (A : Mem) : FnX Tryz.prog 65 [] [] A fun q M J => M = [] ∧ By J q n12 := by
 refine FnX.enterZ (N := 2) Tryz.func65 rfl rfl rfl fun w_ => ?_
 refine B0 kn (A1 (as_ (A0 kn (A1 ?_))))
 refine A5 rfl (A9x (a := 12) (e := 5) (k := .u8) (by_ := 1) rfl rfl kR rfl rfl qO qO rfl fun v1 B1 hs1 => ?_)
 refine as_ (A0 (D7 0) (B4 ?_))
 exact ⟨_, [], B1, K9 rfl rfl, Fit.pick qP qZ, rfl, ⟨hs1.rd fun x hx => by simp [hx], qD, qD⟩⟩
theorem B6R (pb : Nat) (s : Ps) (hr : s.real = true) (v v2 v3 : Value) (w wa wb : LN) (MP A : Mem) (hP : Prm pb s MP) (hv : By A v w) (h2 : By A v2 wa) (h3 : By A v3 wb) (hl : wa.length + wb.length ≤ 16000000) : FnX Tryz.prog 38 [(vP pb), v, v2, v3] MP A fun q M J => Prm pb s M ∧ By J q (V0 (F7 w 32) n12 wa wb) := by
 obtain ⟨sv, bt, bm, B, MT, rfl, hby, hT⟩ := hP.ex
 haveI := hv.cel
 haveI := hby.cel
 haveI := h2.cel
 haveI := h3.cel
 refine FnX.enterZ (N := 38) Tryz.func38 rfl rfl rfl fun w_ => ?_
 refine B0 (D8 0 1 2 3) (A1 (as_ (A0 (D8 0 1 2 3) (A3 (A1 (mv_ ?_))))))
 refine A2 (H7 (e := 105) rfl rfl kR) rfl ?_
 refine A0 (E4 0 1 2 3 10) ?_
 refine C6 rfl ?_
 refine A6 (nx (D8 0 1 2 3) (A3 (A1 (mv_ ?_))))
 refine A2 (E6 rfl) rfl ?_
 refine A2 (qf_ 0 0) rfl ?_
 refine A2 ql_ rfl ?_
 refine A2 (E9 true rfl rfl (eqT (by rw [hr]; rfl))) rfl ?_
 refine A0 (E4 0 1 2 3 15) ?_
 refine D5 rfl ?_
 refine A1 (mv_ ?_)
 refine C5 (aS rfl (aS rfl a0)) kR (A0x v w 32 _ (hv.mono qS) qD) rfl ?_
 rintro r1 M1 J1 ⟨rfl, k1⟩
 haveI := k1.cel
 refine C5 a0 kR (B1p _) rfl ?_
 rintro r2 M2 J2 ⟨rfl, k2⟩
 haveI := k2.cel
 refine mv_ (mv_ ?_)
 refine C5 (aS rfl (aS rfl (aS rfl (aS rfl a0)))) kR (B6K r1 r2 v2 v3 (F7 w 32) n12 wa wb _ (k1.mono qS) (k2.mono qS) (h2.mono qS) (h3.mono qS) hl) rfl ?_
 rintro r3 M3 J3 ⟨rfl, k3⟩
 rw [B1l, show F7 n12 12 = n12 from rfl] at k3
 haveI := k3.cel
 refine as_ (A0 (D7 8) (B4 (tr ?_)))
 exact ⟨_, (pb, blk [.int .u8 (md s.real), sv, .int .i64 (((s.n : Nat) : Int)), (vP bt)] 105) :: (B ++ MT), [], K9 rfl rfl, (Fit.none (Fit.pick (B := [_]) qP (Fit.pick qP (Fit.last qP)))), ⟨sv, bt, bm, B, MT, rfl, hby, hT⟩, k3.mono qS⟩
theorem B6S (pb : Nat) (s : Ps) (hr : s.real = true) (v v2 v3 : Value) (w wa wg : LN) (MP A : Mem) (hP : Prm pb s MP) (hMP : ∀ x, x ∈ MP → x ∈ A) (hv : By A v w) (h2 : By A v2 wa) (h3 : By A v3 wg) (hl : wa.length + wg.length ≤ 16000000) : FnX Tryz.prog 57 [(vP pb), v, v2, v3] [] A fun q M J => M = [] ∧ ∃ u, q = .tuple #[u, .bool (A1B s w wa wg).isSome] ∧ By J u ((A1B s w wa wg).getD []) := by
 obtain ⟨sv, bt, bm, B, MT, rfl, hby, hT⟩ := hP.ex
 have hpb := hMP _ qK
 haveI := hv.cel
 haveI := hby.cel
 haveI := h2.cel
 haveI := h3.cel
 refine FnX.enterZ (N := 96) Tryz.func57 rfl rfl rfl fun w_ => ?_
 refine B0 (D8 0 1 2 3) (A1 (as_ (as_ (A0 (D8 0 1 2 3) (A3 (A1 (mv_ ?_)))))))
 refine A2 (H7 (e := 105) rfl rfl kR) rfl ?_
 refine A0 (E4 0 1 2 3 17) ?_
 refine C6 rfl ?_
 refine A6 (nx (D8 0 1 2 3) (A3 (A1 (mv_ ?_))))
 refine A2 (E6 rfl) rfl ?_
 refine A2 (qf_ 0 0) rfl ?_
 refine A2 (K2 rfl kR (mA hpb) qR) rfl ?_
 refine A2 (E9 true rfl rfl (eqT (by rw [hr]; rfl))) rfl ?_
 refine A0 (E4 0 1 2 3 22) ?_
 refine D5 rfl ?_
 refine A1 (mv_ ?_)
 refine C5 (aS rfl (aS rfl a0)) kR (A0x v w 32 _ (hv.mono qS) qD) rfl ?_
 rintro r1 M1 J1 ⟨rfl, k1⟩
 haveI := k1.cel
 refine C5 a0 kR (B1p _) rfl ?_
 rintro r2 M2 J2 ⟨rfl, k2⟩
 haveI := k2.cel
 refine mv_ (mv_ ?_)
 refine C5 (aS rfl (aS rfl (aS rfl (aS rfl a0)))) kR (B6N r1 r2 v2 v3 (F7 w 32) n12 wa wg _ (k1.mono qS) (k2.mono qS) (h2.mono qS) (h3.mono qS) hl) rfl ?_
 rintro r3 M3 J3 ⟨rfl, u3, rfl, k3⟩
 rw [B1l, show F7 n12 12 = n12 from rfl] at k3 ⊢
 haveI := k3.cel
 refine A2 (A0T rfl) rfl ?_
 refine A2 (A0L rfl) rfl ?_
 refine as_ (as_ (A0 (D2 8 9) (B4 (tr ?_))))
 exact ⟨_, [], [], A13 rfl rfl rfl, qZ, rfl, u3, by rw [B1o hr], by rw [B1o hr]; exact k3.mono qS⟩
theorem B6T (pb : Nat) (s : Ps) (v v2 v3 : Value) (w wa wb : LN) (MP A : Mem) (hP : Prm pb s MP) (hn : s.ts.length < 1048576) (hv : By A v w) (hya : By A v2 wa) (hyb : By A v3 wb) (hl : wa.length + wb.length ≤ 16000000) (hG : Glb A) : FnX Tryz.prog 38 [(vP pb), v, v2, v3] MP A fun q M J => Prm pb (A8Z s w wa wb) M ∧ By J q (B6O s w wa wb) := by
  cases hr : s.real with
  | true => rw [B4U hr, B4W hr]; exact B6R pb s hr v v2 v3 w wa wb MP A hP hv hya hyb hl
  | false =>
    rw [B4V hr, B4X hr]
    obtain ⟨bt, bm, hT⟩ := hP.t
    exact (B0d pb bt bm s hr v v2 v3 w wa wb MP A hT hn hv hya hyb hG).mono fun q M J h => ⟨h.1.p, h.2⟩
theorem B1q (pb : Nat) (s : Ps) (v v2 v3 : Value) (w wa wg : LN) (MP A : Mem) (hP : Prm pb s MP) (hMP : ∀ x, x ∈ MP → x ∈ A) (hn : s.ts.length ≤ 1048576) (hSel : W4 s.ts) (hv : By A v w) (h2 : By A v2 wa) (h3 : By A v3 wg) (hj : Kok s w) (hl : wa.length + wg.length ≤ 16000000) (hG : Glb A) : FnX Tryz.prog 57 [(vP pb), v, v2, v3] [] A fun q M J => M = [] ∧ ∃ u, q = .tuple #[u, .bool (A1B s w wa wg).isSome] ∧ By J u ((A1B s w wa wg).getD []) := by
  cases hr : s.real with
  | true => exact B6S pb s hr v v2 v3 w wa wg MP A hP hMP hv h2 h3 hl
  | false =>
    obtain ⟨bt, bm, hT⟩ := hP.t
    obtain ⟨i, hi, rfl⟩ := hj hr
    exact B6Q pb bt bm s hr v v2 v3 _ wa wg i MP A hT hMP hn hSel hv h2 h3 (by rw [A1u, show u64 ((i : Nat) : Int) = i by unfold u64; omega, if_pos hi]) hG

end Go.Proofs.YtlilcmjbaknafaaGreatDoor
namespace Go.Px
theorem FnX.amb {P : Program} {f : FuncId} {args : List Value} {M A A' : Mem} {post : Value → Mem → Mem → Prop} (hA : ∀ x, x ∈ A → x ∈ A') (h : FnX P f args M A post) : FnX P f args M A' post := by
  intro w hw
  have h1 : St ⟨P, w, M.map Prod.fst, A, 0⟩ M [] w := ⟨hw.os, hw.tape, hw.output, hw.size, hw.frame, fun b o hb => hw.mem b o (by
    rcases List.mem_append.1 hb with hb | hb
    · exact List.mem_append_left _ hb
    · exact List.mem_append_right _ (hA _ hb)), hw.nodup, hw.own, hw.sepJ, fun b o hb => hw.sepA b o (hA _ hb), hw.old⟩
  refine Calls.mono (h w h1) ?_
  rintro e w' ⟨r, M', J', rfl, hp, hs⟩
  refine ⟨r, M', J', rfl, hp, ⟨hs.os, hs.tape, hs.output, hs.size, hs.frame, fun b o hb => ?_, hs.nodup, hs.own, hs.sepJ, hw.sepA, hs.old⟩⟩
  rcases List.mem_append.1 hb with hb | hb
  · exact hs.mem b o (List.mem_append_left _ hb)
  · rcases List.mem_append.1 hb with hb | hb
    · exact hs.mem b o (List.mem_append_right _ (List.mem_append_left _ hb))
    · have h2 := hw.sepA b o hb
      rw [hs.frame b h2.2 h2.1]
      exact hw.mem b o (List.mem_append_right _ hb)
end Go.Px

namespace Go.Proofs.YtlilcmjbaknafaaGreatDoor
open Go.Px
theorem B6U {P : Program} {fn : Func} {l : Env} {R : Mem} {t1 t2 u x b1 b2 n1 n2 : Nat} {y1 y2 : TypeId} {c1 c2 : List Value} {e1 e2 : TypeId} {f1 f2 : Nat × Nat} {v z : Value} (h : fn.results = #[.cell t1 y1, .cell t2 y2, .tmp u, .tmp x]) (h1 : lk l t1 = some (vP b1)) (h2 : lk l t2 = some (vP b2)) (hu : lk l u = some v) (hx : lk l x = some z) (ht1 : A6w P y1 = some n1) (ht2 : A6w P y2 = some n2)
    (hb1 : (b1, Obj.cells c1.toArray e1 f1) ∈ R) (hb2 : (b2, Obj.cells c2.toArray e2 f2) ∈ R) (hn1 : c1.length = n1) (hn2 : c2.length = n2) : Res P fn l R (.tuple #[.agg c1.toArray, .agg c2.toArray, v, z]) := fun N a w ha hw => by
  obtain ⟨d1, g1, g2, g3⟩ := V9 ht1
  obtain ⟨d2, k1, k2, k3⟩ := V9 ht2
  have l1 := run_loadVar_row (P := P) w b1 e1 y1 c1.toArray f1 d1 (hw b1 _ hb1) g1 (by cases d1 <;> simp_all [TypeDesc.isRow]) (by rw [g3, ← hn1]; simp)
  have l2 := run_loadVar_row (P := P) w b2 e2 y2 c2.toArray f2 d2 (hw b2 _ hb2) k1 (by cases d2 <;> simp_all [TypeDesc.isRow]) (by rw [k3, ← hn2]; simp)
  simp [results, h, ha.slot t1 _ h1, ha.slot t2 _ h2, ha.slot u _ hu, ha.slot x _ hx, asAddr, l1, l2]
noncomputable def V1 (s : Ps) (r : Rsd) : Rsd := { r with sk := A1e (K1 s r.own) r.sk, sn := (r.sn + 1) % 4294967296 }
noncomputable def B1r (s : Ps) (r : Rsd) (w : LN) : LN := A4w w (A5l (H5 s r.own) r.prev r.sn)
noncomputable def U7 (s : Ps) (r : Rsd) (w t : LN) : Ps := A8Z (W3 (K1 s r.own) r.sk) (A0g (K1 s r.own) r.sk) (B1r s r w) t
noncomputable def A1A (s : Ps) (r : Rsd) (w t : LN) : LN := B6O (W3 (K1 s r.own) r.sk) (A0g (K1 s r.own) r.sk) (B1r s r w) t
theorem A0q (s : Ps) (key : LN) : (W3 s key).ts.length ≤ s.ts.length + 3 ∧ (W3 s key).n = s.n ∧ (W3 s key).real = s.real := by
  have h1 := A2I s key [] A2b 2
  have h2 := A1T s key [] A2b 2
  have e : ([] : List (LN)).length = 0 := rfl
  unfold W3
  exact ⟨by omega, h2.2.1, h2.1⟩
theorem B1s (pb : Nat) (s : Ps) (r : Rsd) (vo vt vr vk vl vs vw vx : Value) (w tx : LN) (MP A : Mem) (hP : Prm pb s MP) (hn : s.ts.length + 200 ≤ 1040000) (hr : RsR A r vo vt vr vk vl vs) (hsk : 0 < r.sk.length) (hw : By A vw w) (hwl : w.length ≤ 1000000) (hx : By A vx tx) (hxl : tx.length ≤ 1000000) (hG : Glb A) : FnX Tryz.prog 16 [(vP pb), .agg (rsC vo vt vr vk vl vs r).toArray, vw, vx] MP A fun q M J => ∃ q1 q2 q3, q = .tuple #[q1, .agg #[q2, (vU r.prev), (vU r.sn)], q3, .int .i64 0] ∧ Prm pb (U7 s r w tx) M ∧ RsV (J ++ A) q1 (V1 s r) ∧ By (J ++ A) q2 (H5 s r.own) ∧ By (J ++ A) q3 (A1A s r w tx) := by
 haveI := hr.own.cel
 haveI := hr.their.cel
 haveI := hr.root.cel
 haveI := hr.sk.cel
 haveI := hr.tk.cel
 haveI := hw.cel
 haveI := hx.cel
 have hst := hr.st
 obtain ⟨sb, u0, rows0, rfl, hsb, hrd0, hrw0⟩ := hst
 have f1 := A3D s r.own
 have f2 := A0q (K1 s r.own) r.sk
 have f3 := A3E s r.own
 unfold rsC
 refine FnX.enterZ (N := 52) Tryz.func16 rfl rfl rfl fun w_ => ?_
 refine B0 (D8 0 1 2 3) (A1 ?_)
 refine A5 rfl (bx_ fun b5 => ?_)
 refine A5 rfl (C4 (cs := [vS, vS, vS, vS, G3, vS, G3, G3, .pointer none]) kR rfl fun b8 => ?_)
 refine A5 rfl (C4 (cs := [vS, .int .u32 0, .int .u32 0]) kR rfl fun b9 => ?_)
 refine as_ (as_ (A0 (H3 0 2 3 5 8 9) (A3 (A1 ?_))))
 refine A2 (qf_ 3 3) rfl ?_
 refine A2 (qf_ 3 0) rfl ?_
 refine A2 ql_ rfl ?_
 refine A2 (G1 (sz := 1) rfl kR hr.sk.rd) rfl ?_
 refine A2 (E9 false rfl rfl (eqF qO)) rfl ?_
 refine A0 (N0 0 2 3 5 8 9 19) ?_
 refine C6 rfl ?_
 refine A6 (nx (H3 0 2 3 5 8 9) ?_)
 refine N1 (MP) (_) true (.range 11) [(0, 0), (1, 0), (2, 1), (4, 0), (5, 1), (6, 0), (7, 0), (8, 1), (3, 3), (9, 3), (10, 4), (11, 2)] kR kR qP fun hs K n0 hKm hKs hKn => ?_
 refine km_ hs ?_
 refine L9 hs rfl (qf_ 0 0) rfl ?_
 refine Z0 hs rfl hKs ql_ ?_
 refine L9 hs rfl (qf_ 7 7) rfl ?_
 refine Z0 hs rfl hKs ql_ ?_
 refine L9 hs rfl (qf_ 3 3) rfl ?_
 refine L9 hs rfl (qf_ 4 1) rfl ?_
 refine Z0 hs rfl hKs ql_ ?_
 refine B0B [⟨3, 25, none, MP, fun v B R => Prm pb (K1 s r.own) B ∧ By R v (H5 s r.own)⟩, ⟨9, 31, none, [], fun v B R => B = [] ∧ ∃ u, v = .agg #[u, (vU r.prev), (vU r.sn)] ∧ By R u (H5 s r.own)⟩, ⟨10, 12, none, [], fun v B _ => ∃ b, v = (vP b) ∧ B = [(b, blk [vS, .int .u32 0, .int .u32 0] 29)]⟩] ([(b9, blk [vS, .int .u32 0, .int .u32 0] 29), (b8, blk [vS, vS, vS, vS, .int .u32 0, vS, .int .u32 0, .int .u32 0, .pointer none] 41), (b5, blk [vo, vt, vr, vk, (vU r.sn), vl, (vU r.tn), (vU r.prev), (vP sb)] 41)]) (fun bs => [bs 3, bs 9, bs 10]) (hKn rfl) (by simp [A1c, A1w]) (show ∀ m ∈ ([MP, [], []] : List Mem), ∀ x ∈ m, K x.1 from A8 (hKm) (A8 (fun _ h => by cases h) (A8 (fun _ h => by cases h) (L6)))) kR (fun _ => by first | rfl | kernel_rfl)
  (A8 (fun _ _ _ _ h ⟨p1, p2⟩ => ⟨p1, p2.mono h⟩) (A8 (fun _ _ _ _ h ⟨p1, u, e, p2⟩ => ⟨p1, u, e, p2.mono h⟩) (A8 (fun _ _ _ _ _ h => h) (L6)))) (show List.Nodup [25, 31, 12] by decide) (show List.Nodup [3, 9, 10] by decide) (A8 (C8 rfl) (A8 (C8 rfl) (A8 (C8 rfl) (L6))))
  (A8 ⟨_, rfl, fun vs bs R Rj wG hb hj hjr ha => ⟨.inl rfl, ?_⟩⟩ (A8 ⟨_, rfl, fun vs bs R Rj wG hb hj hjr ha => ⟨.inl rfl, ?_⟩⟩ (A8 ⟨_, rfl, fun vs bs R Rj wG hb hj hjr ha => ⟨.inl rfl, ?_⟩⟩ (L6)))) ?_
 ·
  dsimp only [Gc.inp]
  refine E0 (Mc := MP) (R := []) (aS rfl (aS rfl (a0))) kR qM (A7Q pb s vo r.own MP _ hP qO (hr.own.mono (fun x hx => by have := hb x (by simp [hx]); simp [this])) (hG.sub (fun x hx => by have := hb x (by simp [hx]); simp [this]))) rfl ?_
  rintro v25 M25 J25 ⟨hP25, h25⟩
  exact ⟨_, rfl, by simpa using hP25, h25.mono fun x hx => by simp [hx]⟩
 ·
  dsimp only [Gc.inp]
  have g3 := ha _ (List.mem_of_getElem? (i := 0) rfl) kR
  replace g3 : (fun v B R => Prm pb (K1 s r.own) B ∧ By R v (H5 s r.own)) (vs 3) (bs 3) Rj := g3
  dsimp only at g3
  obtain ⟨-, h25⟩ := g3
  haveI := h25.cel
  dsimp only [U1, List.map, List.cons_append, List.nil_append]
  exact OpQ.opL (G6 (place := fun x => #[(0, 1), (1, 1), (2, 1)][x]?) (z := [vS, .int .u32 0, .int .u32 0]) (fun _ => by kernel_rfl) (eS rfl (eS rfl (eS rfl e0))) (bdS 0 1 rfl qR (bdS 1 1 rfl qR (bdS 2 1 rfl qR bd0)))) rfl ⟨_, rfl, rfl, _, rfl, h25⟩
 ·
  dsimp only [Gc.inp]
  exact C4 (cs := [vS, .int .u32 0, .int .u32 0]) kR rfl fun b => ⟨_, rfl, b, rfl, rfl⟩
 intro vs bs Jn0 hφ hKK
 have kk3 := hKK _ (List.mem_of_getElem? (i := 0) rfl)
 dsimp only at kk3
 have kk9 := hKK _ (List.mem_of_getElem? (i := 1) rfl)
 dsimp only at kk9
 have kk10 := hKK _ (List.mem_of_getElem? (i := 2) rfl)
 dsimp only at kk10
 clear hKK
 have g3 := ofH hφ
 dsimp only at g3
 replace hφ := ofT hφ
 have g9 := ofH hφ
 dsimp only at g9
 replace hφ := ofT hφ
 have g10 := ofH hφ
 dsimp only at g10
 clear hφ
 dsimp only [U1, A1c, List.foldr, List.map, List.cons_append, List.nil_append]
 generalize bs 3 = B25 at *
 generalize bs 9 = B31 at *
 generalize bs 10 = B12 at *
 generalize vs 3 = u25 at *
 generalize vs 9 = u31 at *
 generalize vs 10 = u12 at *
 obtain ⟨hP25, -⟩ := g3
 obtain ⟨rfl, v25, rfl, h25⟩ := g9
 obtain ⟨b12, rfl, rfl⟩ := g10
 haveI := h25.cel
 refine U4 rfl rfl rfl (A9 (vs := [v25, (vU r.prev), (vU r.sn)]) rfl rfl rfl kR qR (A8 h25.one al2) UpC.upd ?_)
 refine T3 (N0 0 2 3 5 8 9 12) (A1 ?_)
 refine A2 (qw_ 9) rfl ?_
 refine C5 (aS rfl a0) kR (FnX.amb qS (A65 r vo vt vr vk vl _ A hr)) rfl ?_
 rintro v33 M33 J33 ⟨cb, rfl, hSt⟩
 obtain ⟨u5, rows5, BS, rfl, hs5, hw5⟩ := hSt.ex
 unfold rsC
 refine A5 rfl (A9 (vs := [vo, vt, vr, vk, (vU r.sn), vl, (vU r.tn), (vU r.prev), (vP cb)]) rfl rfl rfl kR qR (A8 hr.own.one (A8 hr.their.one (A8 hr.root.one (A8 hr.sk.one (A8 rfl (A8 hr.tk.one al3)))))) UpC.upd ?_)
 refine A0 (N0 0 2 3 5 8 9 12) ?_
 refine A0m (B := (cb, blk [u5] 80) :: BS) qP ?_
 have hrd5 := hs5.rd (R := BS) fun _ h => h
 refine A1 (mv_ ?_)
 refine A2 (qf_ 3 3) rfl ?_
 refine A2 (W7 (n := 2) rfl kR (by first | exact At.mem | exact mA (by assumption)) TakeC.take) rfl ?_
 refine A5 rfl (E0 (Mc := B25) (R := _) (aS rfl (aS rfl (a0))) kR qP (A3A pb (K1 s r.own) vk r.sk r.sn B25 _ hP25 (hr.sk.mono qS) qO hG.up) rfl ?_)
 rintro v38 M38 J38 ⟨k1, k2, rfl, hP38, hb1, hb2⟩
 haveI := hb1.cel
 haveI := hb2.cel
 refine mv_ ?_
 refine A2 (A0T rfl) rfl ?_
 refine A2 (A0L rfl) rfl ?_
 refine A5 rfl (C4 (cs := [vS, .int .u32 0]) kR rfl fun b14 => ?_)
 refine as_ ?_
 refine A5 rfl (A9 (vs := [k2, .int .u32 (((r.sn + 1) % 4294967296 : Nat) : Int)]) rfl rfl rfl kR qR (A8 hb2.one (A8 rfl L6)) UpC.upd ?_)
 refine A0 (Z7 0 2 3 5 8 9 12 13 14) (A1 ?_)
 refine A2 (qw_ 2) rfl ?_
 refine A2 (qf_ 3 3) rfl ?_
 refine A5 rfl (N8 (vs := [k2, .int .u32 (((r.sn + 1) % 4294967296 : Nat) : Int)]) (cs' := [vo, vt, vr, k2, .int .u32 (((r.sn + 1) % 4294967296 : Nat) : Int), vl, (vU r.tn), (vU r.prev), (vP cb)]) rfl rfl rfl kR (by exact (show 3 + 2 ≤ 9 by decide)) (A8 hb2.one (A8 rfl L6)) rfl UpC.upd ?_)
 refine A0 (T6 0 2 3 5 8 9 12 13) ?_
 refine N1 (M38 ++ [(b8, blk [vS, vS, vS, vS, .int .u32 0, vS, .int .u32 0, .int .u32 0, .pointer none] 41)]) (_) true [0, 1, 2, 3, 4, 5, 6, 7, 8, 9, 11, 12] [(0, 1), (1, 1), (2, 0), (3, 0), (4, 0), (5, 1), (7, 0), (6, 2), (8, 2), (9, 2), (10, 2), (11, 0), (12, 0)] kR kR qP fun hs K n0 hKm hKs hKn => ?_
 refine Z0 hs rfl hKs (qw_ 9) ?_
 refine Z0 hs rfl hKs (qw_ 3) ?_
 refine km_ hs ?_
 refine km_ hs ?_
 refine km_ hs ?_
 refine Z0 hs rfl hKs (qw_ 3) ?_
 refine km_ hs ?_
 refine Q6 [] _ rfl rfl (List.Perm.refl _) (fun _ h => by cases h) fun w0 => (I2 (aS rfl (aS rfl a0)) kR (B01 vw v25 w (H5 s r.own) r.prev r.sn _ (hw.mono qS) (h25.mono qS) qO hr.prev hr.sn) rfl ?_)
 rintro v49 M49 J49 ⟨rfl, h49⟩ _
 haveI := h49.cel
 dsimp only [List.nil_append, List.append_eq]
 refine Q6 M38 _ rfl rfl qP (fun x hx => hKm x (List.mem_append_left _ hx)) fun w0 => (E0 (Mc := M38) (R := _) (aS rfl (aS rfl (aS rfl (aS rfl (a0))))) kR qP (B6T pb (W3 (K1 s r.own) r.sk) k1 v49 vx (A0g (K1 s r.own) r.sk) (B1r s r w) tx M38 _ hP38 qO (hb1.mono qS) (h49.mono qS) (hx.mono qS) (by unfold B1r; rw [A2f, A1Y]; omega) hG.up) rfl ?_)
 rintro v51 M51 J51 ⟨hP51, h51⟩ hKx51
 haveI := h51.cel
 refine Q6 [(b8, blk [vS, vS, vS, vS, .int .u32 0, vS, .int .u32 0, .int .u32 0, .pointer none] 41)] _ rfl rfl qP (fun x hx => hKm x (List.mem_append_right _ hx)) fun w0 => (A9 (vs := [vo, vt, vr, k2, .int .u32 (((r.sn + 1) % 4294967296 : Nat) : Int), vl, (vU r.tn), (vU r.prev), (vP cb)]) rfl rfl rfl kR qR (A8 hr.own.one (A8 hr.their.one (A8 hr.root.one (A8 hb2.one (A8 rfl (A8 hr.tk.one al3)))))) UpC.upd ?_)
 intro _
 dsimp only [List.cons_append, List.nil_append, List.append_eq]
 refine U4 rfl rfl rfl (A9 (vs := [v25, (vU r.prev), (vU r.sn)]) rfl rfl rfl kR qR (A8 h25.one al2) UpC.upd ?_)
 refine L9 hs rfl (H8 rfl) rfl ?_
 refine L9 hs rfl (H8 rfl) rfl ?_
 refine T3 (D8 8 9 10 11) (B4 ?_)
 exact ⟨_, M51, [], B6U (n1 := 9) (n2 := 3) rfl rfl rfl rfl rfl kR kR At.mem At.mem qR qR, Fit.none (Fit.last qP), _, v25, v51, rfl, hP51, ⟨vo, vt, vr, k2, vl, _, rfl, ⟨hr.own.mono qS, hr.their.mono qS, hr.root.mono qS, hb2.mono qS, hr.tk.mono qS, ⟨cb, u5, rows5, rfl, by simp, hrd5.mono qS, hw5.mono skT qS⟩, Nat.mod_lt _ qD, hr.tn, hr.prev, hr.sks⟩⟩, h25.mono qS, h51.mono qS⟩

structure Rok (ts : List Tm) (w : LN) : Prop where
  lt : ∀ x ∈ w, x < 256
  len : w.length ≤ 1000000000
  st : (∀ n, plc w n = none) ∨ B4s ts w
theorem Rok.ext {ts l : List Tm} {w : LN} (h : Rok ts w) : Rok (ts ++ l) w := ⟨h.lt, h.len, h.st.imp id B4s.ext⟩
theorem B4s.rok {ts : List Tm} {w : LN} (h : B4s ts w) : Rok ts w := by
  obtain ⟨i, hi, rfl⟩ := h
  exact ⟨B2E _, by rw [show (bts ((i : Nat) : Int)).length = 32 from A0w _ qD]; decide, .inr ⟨i, hi, rfl⟩⟩
theorem B4Y {ts : List Tm} {w : LN} (ht : Tok ts) (hw : ∀ x ∈ w, x < 256) (hl : w.length ≤ 1000000000) : Tok (rdT ts w) := by
  cases hp : plc w ts.length with
  | some j => rw [(V7 hp).1]; exact ht
  | none =>
    rw [(X5 hp).1]
    obtain ⟨l, h1, h2, h3, h4⟩ := A3Y (A3d hw qO) ht
    exact h4
theorem B3P {ts l : List Tm} {w : LN} (h : Rok ts w) (ht : Tok ts) (ht' : Tok (rdT ts w ++ l)) (hl : (rdT ts w ++ l).length ≤ 1048576) : rdT (rdT ts w ++ l) w = rdT ts w ++ l ∧ rdI (rdT ts w ++ l) w = rdI ts w := by
  have hge := A97 (ts := ts) (w := w)
  rw [List.length_append] at hl
  cases hp : plc w ts.length with
  | some j =>
    obtain ⟨e1, e2⟩ := V7 hp
    obtain ⟨a1, a2⟩ := A9V hp
    rw [e1, e2]
    exact V7 (a2 _ (by rw [List.length_append]; omega))
  | none =>
    have hn : ∀ n, plc w n = none := by
      rcases h.st with h | ⟨i, hi, rfl⟩
      · exact h
      · rw [A1u, show u64 ((i : Nat) : Int) = i by unfold u64; omega, if_pos hi] at hp; cases hp
    obtain ⟨e1, e2⟩ := X5 hp
    obtain ⟨l0, g1, g2, g3, g4⟩ := A3Y (A3d h.lt (by have := h.len; omega)) ht
    rw [e1] at ht' ⊢
    rw [e2]
    obtain ⟨b1, b2⟩ := X5 (hn (add ts (B4o w) ++ l).length)
    rw [b1, b2]
    exact B5R ht' (A3i g3)
theorem A69 : ∀ (ws : List (LN)) (st : List Tm × List Int), ∃ l, (ws.foldl Z3 st).1 = st.1 ++ l
  | [], st => ⟨[], by simp⟩
  | w :: ws, st => by
    obtain ⟨l1, e1⟩ := A69 ws (Z3 st w)
    obtain ⟨l2, e2⟩ := A1x st.1 w
    exact ⟨l2 ++ l1, by rw [List.foldl_cons, e1, show (Z3 st w).1 = rdT st.1 w from rfl, e2, List.append_assoc]⟩
theorem B1t : ∀ (ws : List (LN)) (st : List Tm × List Int), (∀ w ∈ ws, Rok st.1 w) → Tok st.1 → Tok (ws.foldl Z3 st).1
  | [], st, _, ht => ht
  | w :: ws, st, h, ht => by
    obtain ⟨l2, e2⟩ := A1x st.1 w
    have hw := h w qM
    exact B1t ws (Z3 st w) (fun v hv => by show Rok (rdT st.1 w) v; rw [e2]; exact (h v (by simp [hv])).ext) (B4Y ht hw.lt hw.len)
theorem A6q : ∀ (ws : List (LN)) (st : List Tm × List Int) (l : List Tm), (∀ w ∈ ws, Rok st.1 w) → Tok st.1 → Tok ((ws.foldl Z3 st).1 ++ l) → ((ws.foldl Z3 st).1 ++ l).length ≤ 1048576 → ws.foldl Z3 ((ws.foldl Z3 st).1 ++ l, st.2) = ((ws.foldl Z3 st).1 ++ l, (ws.foldl Z3 st).2)
  | [], st, l, _, _, _, _ => rfl
  | w :: ws, st, l, h, ht, ht', hl => by
    have hw := h w qM
    obtain ⟨l1, e1⟩ := A69 ws (Z3 st w)
    have e2 : (Z3 st w).1 = rdT st.1 w := rfl
    rw [List.foldl_cons] at ht' hl ⊢
    have hrest : ∀ v ∈ ws, Rok (Z3 st w).1 v := fun v hv => by
      obtain ⟨l2, e3⟩ := A1x st.1 w
      rw [e2, e3]; exact (h v (by simp [hv])).ext
    have ih := A6q ws (Z3 st w) l hrest (B4Y ht hw.lt hw.len) ht' hl
    have e4 : (ws.foldl Z3 (Z3 st w)).1 ++ l = rdT st.1 w ++ (l1 ++ l) := by rw [e1, e2, List.append_assoc]
    obtain ⟨a1, a2⟩ := B3P hw ht (l := l1 ++ l) (by rw [← e4]; exact ht') (by rw [← e4]; exact hl)
    rw [List.foldl_cons]
    have e5 : Z3 ((ws.foldl Z3 (Z3 st w)).1 ++ l, st.2) w = ((ws.foldl Z3 (Z3 st w)).1 ++ l, (Z3 st w).2) := by
      show (rdT _ w, st.2 ++ [((rdI _ w : Nat) : Int)]) = (_, st.2 ++ [((rdI st.1 w : Nat) : Int)])
      rw [e4, a1, a2]
    rw [e5]; exact ih
theorem B4Z : ∀ (ws : List (LN)) {n0 k : Nat} {st : List Tm × List Int}, RdOk n0 k st → (∀ w ∈ ws, Rok st.1 w) → RdOk n0 (k + ws.length) (ws.foldl Z3 st)
  | [], _, _, _, h, _ => h
  | w :: ws, n0, k, st, h, hw => by
    have h1 := hw w qM
    have h2 := h.step h1.lt (by have := h1.len; omega)
    have h3 := B4Z ws h2 (fun v hv => by
      obtain ⟨l2, e3⟩ := A1x st.1 w
      show Rok (rdT st.1 w) v
      rw [e3]; exact (hw v (by simp [hv])).ext)
    rw [List.length_cons, show k + (ws.length + 1) = k + 1 + ws.length by omega]
    exact h3
theorem A3L (ts : List Tm) (ofs : List Int) (lb : LN) : ∀ n, ∃ l, (L3 ts ofs lb n).1 = ts ++ l
  | 0 => ⟨[], by show ts = _; simp⟩
  | n + 1 => by
    obtain ⟨l1, e1⟩ := A3L ts ofs lb n
    obtain ⟨l2, e2⟩ := A56 ts ofs lb n
    exact ⟨l1 ++ l2, by rw [e2, e1, List.append_assoc]⟩
theorem A3M {ts : List Tm} {key lb : LN} {ws : List (LN)} (ht : Tok ts) (h : ∀ w ∈ key :: ws, Rok ts w) (hb : B256 lb) (hbl : lb.length ≤ 1000) (hl : ts.length + ws.length + 1 ≤ 1048576) :
    Tok (U5 ts key ws).1 ∧ (∀ k, k < 100 → Tmo (drv (U5 ts key ws).2 lb k)) := by
  have h0 : RdOk ts.length 0 (ts, []) := ⟨Nat.le_refl _, rfl, (fun x hx => by cases hx), ht.tmo⟩
  have h1 := B4Z (key :: ws) h0 h
  have e : U5 ts key ws = (key :: ws).foldl Z3 (ts, []) := rfl
  rw [← e, List.length_cons] at h1
  refine ⟨B1t (key :: ws) (ts, []) h ht, fun k hk => B4r (fun x hx => ?_) (by rw [h1.ofl]; omega) hb qO qO⟩
  have h2 := h1.of x hx
  have h3 := h1.len
  unfold i64; omega
theorem A76 (s : Ps) (key : LN) (ws : List (LN)) (lb : LN) (n : Nat) : Ext s (A3X s key ws lb n) := by
  cases hr : s.real with
  | true => rw [A55 hr]; exact Ext.refl s
  | false =>
    rw [A3g hr]
    obtain ⟨l1, e1⟩ := A69 (key :: ws) (s.ts, [])
    obtain ⟨l2, e2⟩ := A3L (U5 s.ts key ws).1 (U5 s.ts key ws).2 lb n
    refine ⟨⟨rfl, l1 ++ l2, ?_⟩, rfl, Nat.le_refl _⟩
    show (L3 _ _ _ _).1 = _
    rw [e2, show (U5 s.ts key ws).1 = _ from e1, List.append_assoc]
theorem B6V {s : Ps} {key lb : LN} {ws : List (LN)} {n : Nat} (ht : Tok s.ts) (h : s.real = false → ∀ w ∈ key :: ws, Rok s.ts w) (hb : B256 lb) (hbl : lb.length ≤ 1000) (hn : n ≤ 100) (hl : s.ts.length + ws.length + 1 ≤ 1048576) : Tok (A3X s key ws lb n).ts := by
  cases hr : s.real with
  | true => rw [A55 hr]; exact ht
  | false =>
    obtain ⟨t1, hd⟩ := A3M ht (h hr) hb hbl hl
    rw [A3g hr]
    exact A3k t1 hd hn
theorem A6r {s s' : Ps} {key lb : LN} {ws : List (LN)} {n : Nat} (ht : Tok s.ts) (h : s.real = false → ∀ w ∈ key :: ws, Rok s.ts w) (hb : B256 lb) (hbl : lb.length ≤ 1000) (hn : n ≤ 100) (hl0 : s.ts.length + ws.length + 1 ≤ 1048576) (he : Pext (A3X s key ws lb n) s') (ht' : Tok s'.ts) (hl : s'.ts.length ≤ 1048576) :
    A3X s' key ws lb n = s' ∧ A5v s' key ws lb n = A5v s key ws lb n := by
  have hrr : s'.real = s.real := by rw [he.real, (A1T s key ws lb n).1]
  cases hr : s.real with
  | true => exact ⟨A55 (hrr.trans hr), by rw [A4m hr, A4m (hrr.trans hr)]⟩
  | false =>
    have hr' : s'.real = false := hrr.trans hr
    have h := h hr
    obtain ⟨l, e⟩ := he.ts
    rw [A3g hr] at e
    change s'.ts = (L3 (U5 s.ts key ws).1 (U5 s.ts key ws).2 lb n).1 ++ l at e
    obtain ⟨l2, e2⟩ := A3L (U5 s.ts key ws).1 (U5 s.ts key ws).2 lb n
    have e3 : s'.ts = (U5 s.ts key ws).1 ++ (l2 ++ l) := by rw [e, e2, List.append_assoc]
    obtain ⟨t1, hd⟩ := A3M ht h hb hbl hl0
    have a := A6q (key :: ws) (s.ts, []) (l2 ++ l) h ht (by show Tok ((U5 s.ts key ws).1 ++ (l2 ++ l)); rw [← e3]; exact ht') (by show ((U5 s.ts key ws).1 ++ (l2 ++ l)).length ≤ _; rw [← e3]; exact hl)
    change U5 ((U5 s.ts key ws).1 ++ (l2 ++ l)) key ws = ((U5 s.ts key ws).1 ++ (l2 ++ l), (U5 s.ts key ws).2) at a
    rw [← e3] at a
    have b := A6R t1 hd hn (l := l) e ht'
    have c : A8z s'.ts key ws lb n = (s'.ts, (A8z s.ts key ws lb n).2) := by unfold A8z; rw [a]; exact b
    rw [A3g hr', A4n hr', A4n hr, c]
    exact ⟨rfl, rfl⟩
theorem B6W (s : Ps) (key : LN) (ws : List (LN)) (lb : LN) (n : Nat) : (A5v s key ws lb n).length = n := by
  cases hr : s.real with
  | true => rw [A4m hr]; exact A46 _ _
  | false => rw [A4n hr]; exact (A01 _ _ _ _).1
theorem B6X {s : Ps} {key lb : LN} {ws : List (LN)} {n i : Nat} (ht : Tok s.ts) (h : s.real = false → ∀ w ∈ key :: ws, Rok s.ts w) (hb : B256 lb) (hbl : lb.length ≤ 1000) (hn : n ≤ 100) (hl : s.ts.length + ws.length + 1 ≤ 1048576) (hi : i < n) : Kok (A3X s key ws lb n) ((A5v s key ws lb n).getD i []) := by
  intro hr'
  have hr : s.real = false := by rw [← (A1T s key ws lb n).1]; exact hr'
  obtain ⟨t1, hd⟩ := A3M ht (h hr) hb hbl hl
  obtain ⟨j, h1, h2⟩ := A99 t1 hd hn hi
  rw [A3g hr, A4n hr]
  refine ⟨j, (List.getElem?_eq_some_iff.1 h1).1, ?_⟩
  rw [List.getD_eq_getElem?_getD]
  show ((L3 _ _ _ _).2[i]?).getD [] = _
  rw [h2]; rfl
theorem Kok.rok {s : Ps} {w : LN} (h : Kok s w) : s.real = false → Rok s.ts w := fun hr => (h hr).rok
theorem A6s {ts : List Tm} {ofs : List Int} {lb : LN} : ∀ {n : Nat}, ∀ w ∈ (L3 ts ofs lb n).2, ∃ j : Nat, w = bts ((j : Nat) : Int)
  | 0, w, h => by cases h
  | n + 1, w, h => by
    rw [show L3 ts ofs lb (n + 1) = A8X ofs lb (L3 ts ofs lb n) n from N5 n] at h
    rcases List.mem_append.1 (show w ∈ _ ++ [_] from h) with h | h
    · exact A6s w h
    · exact ⟨_, List.mem_singleton.1 h⟩
theorem B6Y {s : Ps} {key lb : LN} {ws : List (LN)} {n : Nat} (hn : n ≤ 8) : ∀ w ∈ A5v s key ws lb n, (∀ x ∈ w, x < 256) ∧ w.length = 32 := by
  intro w hw
  cases hr : s.real with
  | true =>
    rw [A4m hr] at hw
    obtain ⟨i, hi, rfl⟩ := List.mem_map.1 hw
    have h1 := List.mem_range.1 hi
    have h2 := A7D key ws lb hn
    refine ⟨fun x hx => A3f _ _ _ x (List.mem_of_mem_take (List.mem_of_mem_drop hx)), ?_⟩
    rw [List.length_drop, List.length_take, h2]; omega
  | false =>
    rw [A4n hr] at hw
    obtain ⟨j, rfl⟩ := A6s w hw
    exact ⟨B2E _, A0w _ qD⟩
theorem B6Z {s : Ps} {key lb : LN} {ws : List (LN)} {n i : Nat} (hn : n ≤ 8) (hi : i < n) : (∀ x ∈ (A5v s key ws lb n).getD i [], x < 256) ∧ ((A5v s key ws lb n).getD i []).length = 32 := by
  have hl := B6W s key ws lb n
  rw [List.getD_eq_getElem?_getD, List.getElem?_eq_getElem qO]
  exact B6Y hn _ (List.getElem_mem _)
def ahE (N n : Nat) : Int := if n < N then 8 else if 16 < n - N then 7 else 0
def ahX (s : Ps) (key : LN) (N n : Nat) (of : LN) (sks : List Skp) : Ast := if ahE N n = 0 then rep (aSt of) (n - N) (s, key, N, sks) else (s, key, N, sks)
theorem B1u {N n : Nat} (h : ahE N n = 0) : N ≤ n ∧ n - N ≤ 16 := by
  unfold ahE at h
  split at h
  · cases h
  · split at h
    · cases h
    · omega
theorem B1v {N n : Nat} (h1 : N ≤ n) (h2 : n - N ≤ 16) : ahE N n = 0 := by
  unfold ahE
  rw [if_neg qO, if_neg qO]
theorem B1w {s : Ps} {key : LN} {N n : Nat} {of : LN} {sks : List Skp} (h : ahE N n ≠ 0) : ahX s key N n of sks = (s, key, N, sks) := if_neg h
theorem A3N {s : Ps} {key : LN} {N n : Nat} {of : LN} {sks : List Skp} (h : ahE N n = 0) : ahX s key N n of sks = rep (aSt of) (n - N) (s, key, N, sks) := if_pos h
theorem B8I (of : LN) (i : Nat) (x : Ast) : (rep (aSt of) i x).1.n = x.1.n ∧ (rep (aSt of) i x).1.real = x.1.real := by
  induction i with
  | zero => exact ⟨rfl, rfl⟩
  | succ i ih =>
    have h := A0q (rep (aSt of) i x).1 (rep (aSt of) i x).2.1
    exact ⟨h.2.1.trans ih.1, h.2.2.trans ih.2⟩
theorem B60 (s : Ps) (key : LN) (N n : Nat) (of : LN) (sks : List Skp) (hN : N < 4294967296) (hn : n < 4294967296) (hl : sks.length ≤ 1000) :
    (ahX s key N n of sks).1.ts.length ≤ s.ts.length + 48 ∧ (ahX s key N n of sks).1.n = s.n ∧ (ahX s key N n of sks).2.2.1 < 4294967296 ∧ (ahX s key N n of sks).2.2.2.length ≤ 1000 := by
  by_cases h : ahE N n = 0
  · obtain ⟨h1, h2⟩ := B1u h
    rw [A3N h]
    have a := B0U of (n - N) (s, key, N, sks)
    have b := B8I of (n - N) (s, key, N, sks)
    have c := B3B of (n - N) (s, key, N, sks)
    have d := B4I of (n - N) (s, key, N, sks) hl
    dsimp only at a b c d
    exact ⟨by omega, b.1, by omega, d⟩
  · rw [B1w h]
    exact ⟨by dsimp only; omega, rfl, hN, hl⟩
theorem B1x (pb sb : Nat) (s : Ps) (kv vof : Value) (key of : LN) (N n : Nat) (sks : List Skp) (R MP MS A : Mem) (hP : Prm pb s MP) (hS : Sto R sb sks MS) (hR : ∀ x, x ∈ R → x ∈ A) (hk : By R kv key) (hof : By R vof of) (hl : sks.length ≤ 1000) (hn32 : n < 4294967296) (hn : s.ts.length ≤ 1000000) (hG : Glb A) :
    FnX Tryz.prog 59 [(vP pb), .agg #[kv, (vU N)], vof, (vU n), (vP sb)] (MP ++ MS) A fun q M J => ∃ MP' MS' kv', M = MP' ++ MS' ∧ q = .tuple #[.agg #[kv', .int .u32 (((ahX s key N n of sks).2.2.1 : Nat) : Int)], .int .i64 (ahE N n)] ∧ Prm pb (ahX s key N n of sks).1 MP' ∧ Sto (J ++ R) sb (ahX s key N n of sks).2.2.2 MS' ∧ By (J ++ R) kv' (ahX s key N n of sks).2.1 := by
  by_cases h : ahE N n = 0
  · obtain ⟨h1, h2⟩ := B1u h
    rw [A3N h, h]
    exact A8O pb sb s kv vof key of N n sks R MP MS A hP hS hR hk hof hl h1 h2 hn32 hn hG
  · rw [B1w h]
    unfold ahE at h ⊢
    by_cases h1 : n < N
    · rw [if_pos h1]
      refine (FnV.frame (A8P _ _ kv vof key of N n _ (hk.mono fun x hx => List.mem_append_right _ (hR x hx)) (hof.mono fun x hx => List.mem_append_right _ (hR x hx)) h1)).mono fun q M J ⟨e1, e2, e3⟩ => ?_
      subst e1; subst e2; subst e3
      exact ⟨MP, MS, kv, rfl, rfl, hP, hS, hk⟩
    · rw [if_neg h1] at h ⊢
      by_cases h2 : 16 < n - N
      · rw [if_pos h2]
        refine (FnV.frame (A8Q _ _ kv vof key of N n _ (hk.mono fun x hx => List.mem_append_right _ (hR x hx)) (hof.mono fun x hx => List.mem_append_right _ (hR x hx)) qO hn32 h2)).mono fun q M J ⟨e1, e2, e3⟩ => ?_
        subst e1; subst e2; subst e3
        exact ⟨MP, MS, kv, rfl, rfl, hP, hS, hk⟩
      · rw [if_neg h2] at h
        exact absurd rfl h
def alW (w hk : LN) (hp hn : Nat) : LN := A4w w (A5l hk hp hn)
def A1i (r : Rsd) (hk : LN) : Bool := !(decide (hk = r.their)) || decide (r.tk = [])
def opA (s : Ps) (r : Rsd) (hp : Nat) : Ast := if r.tk = [] then (s, r.tk, r.tn, r.sks) else ahX s r.tk r.tn hp r.their r.sks
def A8U (r : Rsd) (hp : Nat) : Int := if r.tk = [] then 0 else ahE r.tn hp
noncomputable def B9e (x : Ast) (r : Rsd) (hk : LN) : Ps × Rsd := (A2O x.1 r.root r.own hk, ⟨r.own, hk, A7X x.1 r.root r.own hk, r.sk, r.sn, A6y x.1 r.root r.own hk, 0, r.prev, x.2.2.2⟩)
noncomputable def opB (s : Ps) (r : Rsd) (hk : LN) (hp : Nat) : Ps × Rsd := if A1i r hk = true then B9e (opA s r hp) r hk else (s, r)
def opC (x : Ps × Rsd) (hn : Nat) : Ast := ahX x.1 x.2.tk x.2.tn hn x.2.their x.2.sks
def opD (x : Ps × Rsd) (hn : Nat) : Ps := W3 (opC x hn).1 (opC x hn).2.1
def A80 (x : Ps × Rsd) (hn : Nat) : LN := A0g (opC x hn).1 (opC x hn).2.1
def opG (r : Rsd) (x : Ps × Rsd) (hn : Nat) : Rsd := ⟨r.own, x.2.their, x.2.root, r.sk, r.sn, A1e (opC x hn).1 (opC x hn).2.1, ((opC x hn).2.2.1 + 1) % 4294967296, r.prev, (opC x hn).2.2.2⟩
noncomputable def opF (s : Ps) (r : Rsd) : Ps × Rsd := (A2O (E2 s) r.root (G2 s) r.their, ⟨G2 s, r.their, A7X (E2 s) r.root (G2 s) r.their, A6y (E2 s) r.root (G2 s) r.their, 0, r.tk, r.tn, r.sn, r.sks⟩)
noncomputable def opZ (b : Bool) (s : Ps) (r : Rsd) : Ps × Rsd := if b = true then opF s r else (s, r)
noncomputable def Q7 (s : Ps) (r : Rsd) (w hk : LN) (hp hn : Nat) (g : LN) : Ps × Rsd × Int × LN :=
  match A5j r.sks hk hn with
  | some k => match A1B s k (alW w hk hp hn) g with
    | none => (s, r, 6, [])
    | some t => (s, ⟨r.own, r.their, r.root, r.sk, r.sn, r.tk, r.tn, r.prev, A4s r.sks hk hn⟩, 0, t)
  | none => if A1i r hk = true ∧ A8U r hp ≠ 0 then ((opA s r hp).1, r, A8U r hp, []) else
    if ahE (opB s r hk hp).2.tn hn ≠ 0 then ((opC (opB s r hk hp) hn).1, r, ahE (opB s r hk hp).2.tn hn, []) else
    match A1B (opD (opB s r hk hp) hn) (A80 (opB s r hk hp) hn) (alW w hk hp hn) g with
    | none => (opD (opB s r hk hp) hn, r, 6, [])
    | some t => ((opZ (A1i r hk) (opD (opB s r hk hp) hn) (opG r (opB s r hk hp) hn)).1, (opZ (A1i r hk) (opD (opB s r hk hp) hn) (opG r (opB s r hk hp) hn)).2, 0, t)
section
variable {s : Ps} {r : Rsd} {w hk : LN} {hp hn : Nat} {g t k : LN}
theorem B8J (h : A5j r.sks hk hn = some k) (h2 : A1B s k (alW w hk hp hn) g = none) : Q7 s r w hk hp hn g = (s, r, 6, []) := by unfold Q7; rw [h]; dsimp only; rw [h2]
theorem B61 (h : A5j r.sks hk hn = some k) (h2 : A1B s k (alW w hk hp hn) g = some t) : Q7 s r w hk hp hn g = (s, ⟨r.own, r.their, r.root, r.sk, r.sn, r.tk, r.tn, r.prev, A4s r.sks hk hn⟩, 0, t) := by unfold Q7; rw [h]; dsimp only; rw [h2]
theorem B62 (h : A5j r.sks hk hn = none) (h1 : A1i r hk = true) (h2 : A8U r hp ≠ 0) : Q7 s r w hk hp hn g = ((opA s r hp).1, r, A8U r hp, []) := by unfold Q7; rw [h]; dsimp only; rw [if_pos ⟨h1, h2⟩]
theorem oR_n {x : Ps × Rsd} (h : A5j r.sks hk hn = none) (hx : opB s r hk hp = x) (h1 : A1i r hk = true → A8U r hp = 0) (h2 : ahE x.2.tn hn ≠ 0) : Q7 s r w hk hp hn g = ((opC x hn).1, r, ahE x.2.tn hn, []) := by
  unfold Q7; rw [h]; dsimp only; rw [if_neg (fun h3 => h3.2 (h1 h3.1)), hx, if_pos h2]
theorem B99 {x : Ps × Rsd} (h : A5j r.sks hk hn = none) (hx : opB s r hk hp = x) (h1 : A1i r hk = true → A8U r hp = 0) (h2 : ahE x.2.tn hn = 0) (h3 : A1B (opD x hn) (A80 x hn) (alW w hk hp hn) g = none) : Q7 s r w hk hp hn g = (opD x hn, r, 6, []) := by
  unfold Q7; rw [h]; dsimp only; rw [if_neg (fun h3 => h3.2 (h1 h3.1)), hx, if_neg (fun h => h h2), h3]
theorem B1y {x : Ps × Rsd} (h : A5j r.sks hk hn = none) (hx : opB s r hk hp = x) (h1 : A1i r hk = true → A8U r hp = 0) (h2 : ahE x.2.tn hn = 0) (h3 : A1B (opD x hn) (A80 x hn) (alW w hk hp hn) g = some t) : Q7 s r w hk hp hn g = ((opZ (A1i r hk) (opD x hn) (opG r x hn)).1, (opZ (A1i r hk) (opD x hn) (opG r x hn)).2, 0, t) := by
  unfold Q7; rw [h]; dsimp only; rw [if_neg (fun h3 => h3.2 (h1 h3.1)), hx, if_neg (fun h => h h2), h3]
end
theorem A3O {P : Program} {fn : Func} {l : Env} {R : Mem} {t u x b n : Nat} {ty : TypeId} {cs : List Value} {e : TypeId} {fr : Nat × Nat} {v z : Value} (h : fn.results = #[.cell t ty, .tmp u, .tmp x]) (hv : lk l t = some (vP b)) (hu : lk l u = some v) (hx : lk l x = some z) (ht : A6w P ty = some n)
    (hb : (b, Obj.cells cs.toArray e fr) ∈ R) (hn : cs.length = n) : Res P fn l R (.tuple #[.agg cs.toArray, v, z]) := fun N a w ha hw => by
  obtain ⟨dsc, h1, h2, h3⟩ := V9 ht
  have hl := run_loadVar_row (P := P) w b e ty cs.toArray fr dsc (hw b _ hb) h1 (by cases dsc <;> simp_all [TypeDesc.isRow]) (by rw [h3, ← hn]; simp)
  simp [results, h, ha.slot t _ hv, ha.slot u _ hu, ha.slot x _ hx, asAddr, hl]

end Go.Proofs.YtlilcmjbaknafaaGreatDoor
