/- Part 15 of the texts of this claim, one behind the other. -/
import Derived.Test.YtoameenjkiaefaaGreatDoorB14
set_option linter.unusedVariables false
set_option linter.unusedSimpArgs false
set_option maxRecDepth 100000
namespace Go.Proofs.YtoameenjkiaefaaGreatDoor
open Go.Px
def n12 : LN := List.replicate 12 0
theorem A6N {a b x y : LN} (ha : a.length < 18446744073709551616) (hb : b.length < 18446744073709551616) (h : mark a ++ x = mark b ++ y) : a = b ∧ x = y := by
  unfold mark at h
  rw [List.append_assoc, List.append_assoc] at h
  obtain ⟨h1, h2⟩ := A3G (U5 (.inr rfl)) (U5 (.inr rfl)) (show dec a.length ++ 58 :: (a ++ x) = dec b.length ++ 58 :: (b ++ y) from h)
  have h3 : a.length = b.length := by
    have := congrArg dv h1
    rwa [Z4 ha, Z4 hb] at this
  exact List.append_inj h2 h3
theorem A9P {x : Int} {a b : LN} (h : Tmo (A03 x a b)) : a.length < 18446744073709551616 ∧ b.length < 18446744073709551616 := by
  have h1 : (mark a ++ mark b).length ≤ 1099511627776 := h.tl
  rw [List.length_append] at h1
  have h2 : a.length ≤ (mark a).length := by simp [mark]; omega
  have h3 : b.length ≤ (mark b).length := by simp [mark]; omega
  omega
theorem A6O {x y : Int} {a b c d : LN} (h1 : Tmo (A03 x a b)) (h2 : Tmo (A03 y c d)) (h : A03 x a b = A03 y c d) : x = y ∧ a = c ∧ b = d := by
  obtain ⟨l1, l2⟩ := A9P h1
  obtain ⟨l3, l4⟩ := A9P h2
  unfold A03 at h
  injection h with h1 h2 h3 h4
  obtain ⟨h5, h6⟩ := A6N l1 l3 h3
  obtain ⟨h7, -⟩ := A6N (x := []) (y := []) l2 l4 (by rw [List.append_nil, List.append_nil]; exact h6)
  exact ⟨(List.cons.inj h2).1, h5, h7⟩
def A7E (ts : List Tm) (w wa wg t : LN) : Prop := wg.length = 32 ∧ ∃ i j : Nat, plc wg ts.length = some i ∧ plc w ts.length = some j ∧ ts[i]? = some (A03 ((j : Nat) : Int) wa t)
theorem A7E.inj {ts : List Tm} (ht : Tok ts) {w wa wg t t' : LN} (h : A7E ts w wa wg t) (h' : A7E ts w wa wg t') : t = t' := by
  obtain ⟨-, i, j, h1, h2, h3⟩ := h
  obtain ⟨-, i', j', g1, g2, g3⟩ := h'
  rw [h1] at g1
  obtain rfl := Option.some.inj g1
  rw [h3] at g3
  have m1 := ht.tmo _ (List.mem_of_getElem? h3)
  have e := Option.some.inj g3
  exact (A6O m1 (e ▸ m1) e).2.2
open Classical in
noncomputable def A9Q (ts : List Tm) (w wa wg : LN) : Option (LN) := if h : ∃ t, A7E ts w wa wg t then some (Classical.choose h) else none
theorem A5d {ts : List Tm} (ht : Tok ts) {w wa wg t : LN} (h : A7E ts w wa wg t) : A9Q ts w wa wg = some t := by
  unfold A9Q
  have h2 : ∃ t, A7E ts w wa wg t := ⟨t, h⟩
  rw [dif_pos h2, (Classical.choose_spec h2).inj ht h]
theorem A1c {ts : List Tm} {w wa wg : LN} (h : ∀ t, ¬ A7E ts w wa wg t) : A9Q ts w wa wg = none := dif_neg fun ⟨t, ht⟩ => h t ht
noncomputable def A1d (s : Ps) (w wa wg : LN) : Option (LN) := if s.real then A6i (Y7 w 32) n12 wa wg else A9Q s.ts w wa wg
theorem B6V {s : Ps} (h : s.real = true) (w wa wg : LN) : A1d s w wa wg = A6i (Y7 w 32) n12 wa wg := if_pos h
theorem A2J {s : Ps} (h : s.real = false) (w wa wg : LN) : A1d s w wa wg = A9Q s.ts w wa wg := if_neg (by rw [h]; decide)
def A7F (s : Ps) (w wa wb : LN) : Ps := if s.real then s else A7j s w fun x => A03 x wa wb
def B2X (s : Ps) (w wa wb : LN) : LN := if s.real then A3a (Y7 w 32) n12 wa wb else A8M s w fun x => A03 x wa wb
theorem B6W {s : Ps} (h : s.real = true) (w wa wb : LN) : A7F s w wa wb = s := if_pos h
theorem B2Y {s : Ps} (h : s.real = false) (w wa wb : LN) : A7F s w wa wb = A7j s w fun x => A03 x wa wb := if_neg (by rw [h]; decide)
theorem B6X {s : Ps} (h : s.real = true) (w wa wb : LN) : B2X s w wa wb = A3a (Y7 w 32) n12 wa wb := if_pos h
theorem B2Z {s : Ps} (h : s.real = false) (w wa wb : LN) : B2X s w wa wb = A8M s w fun x => A03 x wa wb := if_neg (by rw [h]; decide)
def S0 (ts : List Tm) : Prop := ∀ t ∈ ts, t.kind = 6 → ∃ x a b, t = A03 x a b ∧ (∀ y ∈ b, y < 256) ∧ b.length ≤ 16777216
theorem S0.nil : S0 [] := fun t h => by cases h
theorem S0.add {ts : List Tm} (h : S0 ts) {t : Tm} (ht : t.kind = 6 → ∃ x a b, t = A03 x a b ∧ (∀ y ∈ b, y < 256) ∧ b.length ≤ 16777216) : S0 (add ts t) := by
  unfold Go.Proofs.YtoameenjkiaefaaGreatDoor.add
  split
  · exact h
  · intro u hu hk
    rcases List.mem_append.1 hu with hu | hu
    · exact h u hu hk
    · rw [List.mem_singleton.1 hu] at hk ⊢; exact ht hk
theorem S0.not {ts : List Tm} (h : S0 ts) {t : Tm} (ht : t.kind ≠ 6) : S0 (Go.Proofs.YtoameenjkiaefaaGreatDoor.add ts t) := h.add fun hk => absurd hk ht
theorem S0.rd {ts : List Tm} (h : S0 ts) (w : LN) : S0 (rdT ts w) := by
  unfold rdT
  split
  · exact h
  · exact h.not (show (2 : Nat) ≠ 6 by decide)
theorem B4P {s s' : Ps} {w wa wb : LN} (ht : Tok s.ts) (hw : Kok s w) (ha : ∀ x ∈ wa, x < 256) (hb : ∀ x ∈ wb, x < 256) (la : wa.length ≤ 16777216) (lb : wb.length ≤ 16777216) (he : Pext (A7F s w wa wb) s') (ht' : Tok s'.ts) (hl : s'.ts.length ≤ 1048576) : A1d s' w wa (B2X s w wa wb) = some wb := by
  cases hr : s.real with
  | true =>
    rw [B6W hr] at he
    rw [B6V (he.real.trans hr), B6X hr, A4M]
  | false =>
    rw [B2Y hr] at he
    have hr' : s'.real = false := he.real.trans hr
    obtain ⟨l, e⟩ := he.ts
    obtain ⟨i, hi, rfl⟩ := hw hr
    have hlen : s.ts.length ≤ 1048576 := by
      have hge : ∃ l, add (rdT s.ts (bts ((i : Nat) : Int))) (A03 ((rdI s.ts (bts ((i : Nat) : Int)) : Nat) : Int) wa wb) = rdT s.ts (bts ((i : Nat) : Int)) ++ l := A2q _ _
      obtain ⟨lx, hge⟩ := hge
      have := congrArg List.length hge
      rw [List.length_append] at this
      have h2 := A4P (ts := s.ts) (w := bts ((i : Nat) : Int))
      have h3 : s'.ts.length = (add (rdT s.ts (bts ((i : Nat) : Int))) (A03 ((rdI s.ts (bts ((i : Nat) : Int)) : Nat) : Int) wa wb)).length + l.length := by rw [e, List.length_append]; rfl
      omega
    obtain ⟨a1, a2⟩ := A2m hi hlen
    rw [A2J hr', B2Z hr]
    unfold A7j at e
    unfold A8M
    dsimp only at e
    rw [a1, a2] at e ⊢
    obtain ⟨l0, g1, g2, g3, g4⟩ := A1x (A6o (x := ((i : Nat) : Int)) (by unfold i64; omega) ha hb la lb) ht
    have g5 : s'.ts[at_ s.ts (A03 ((i : Nat) : Int) wa wb)]? = some (A03 ((i : Nat) : Int) wa wb) := by rw [e]; exact A1s g3
    have g6 := (List.getElem?_eq_some_iff.1 g5).1
    refine A5d ht' ⟨W3 _ qD, _, i, ?_, ?_, g5⟩
    · rw [Z7, show ∀ z : Nat, z < s'.ts.length → u64 ((z : Nat) : Int) = z from fun z hz => by unfold u64; omega, if_pos g6]
      exact g6
    · have hi' : i < s'.ts.length := by rw [e, g1, List.length_append, List.length_append]; omega
      rw [Z7, show u64 ((i : Nat) : Int) = i by unfold u64; omega, if_pos hi']
set_option maxHeartbeats 1000000 in
theorem B4Q (pb : Nat × Nat) (bt : TBk pb) (bm : Nat) (s : Ps) (hr : s.real = false) (v v2 v3 : Value) (w wa wg : LN) (j : Nat) (MP A : Mem) (hP : PrmT pb bt bm s MP) (hMP : ∀ x, x ∈ MP → x ∈ A) (hn : s.ts.length ≤ 1048576) (hSel : S0 s.ts) (hv : By A v w) (h2 : By A v2 wa) (h3 : By A v3 wg) (hj : plc w s.ts.length = some j) (hG : Glb A) : FnX Tryz.prog 117 [.pointer (some ⟨pb.1, 0, none⟩), v, v2, v3] [] A fun q M J => M = [] ∧ ∃ u, q = .tuple #[u, .bool (A1d s w wa wg).isSome] ∧ By J u ((A1d s w wa wg).getD []) := by
 obtain ⟨sv, B, MT, rfl, hby, hT⟩ := hP.ex
 have hpb := hMP _ qK
 have hsub : ∀ x, x ∈ MT → x ∈ A := fun x hx => hMP x (by simp [hx])
 obtain ⟨ge4, gf4, h4⟩ := hG.pow
 haveI := hv.cel
 haveI := h2.cel
 haveI := h3.cel
 haveI := hby.cel
 have h2l := h2.len
 refine FnX.enterZ (N := 96) Tryz.func117 rfl rfl rfl fun w_ => ?_
 refine A8 (F4 0 1 2 3) (A1 (as_ (as_ (A0 (F4 0 1 2 3) (A6 (A1 (mv_ ?_)))))))
 refine A2 (C9 (e := 118) rfl rfl kR) rfl ?_
 refine A0 (G6 0 1 2 3 17) ?_
 refine B0 rfl ?_
 refine A5 (nx (F4 0 1 2 3) (A6 (A1 (mv_ ?_))))
 refine A2 (D8 rfl) rfl ?_
 refine A2 (qf_ 0 0) rfl ?_
 refine A2 (G3 rfl kR (mA hpb) qR) rfl ?_
 refine A2 (F0 false rfl rfl (eqF qD)) rfl ?_
 refine A0 (G6 0 1 2 3 22) ?_
 refine B0 rfl ?_
 refine A5 (nx (F4 0 1 2 3) (A1 (mv_ ?_)))
 refine A2 (D8 rfl) rfl ?_
 refine A2 (qf_ 3 3) rfl ?_
 refine A2 (G3 rfl kR (mA hpb) qR) rfl ?_
 refine mv_ ?_
 refine D7 (aS rfl (aS rfl a0)) kR (T6 bt bm s.ts v3 wg MT _ hT (fun x hx => qS _ (hsub x hx)) hn (h3.rd.mono qS) h3.lt h3.max) rfl ?_
 obtain ⟨i, hie⟩ : ∃ z, (plc wg s.ts.length).getD 0 = z := ⟨_, rfl⟩
 rw [hie]
 refine mv_ ?_
 refine A2 (R6 rfl) rfl ?_
 refine A2 (R4 rfl) rfl ?_
 refine as_ (as_ (A0 (I7 0 1 2 3 10 11) (A1 (mv_ ?_))))
 refine A2 (D8 rfl) rfl ?_
 refine A2 (qf_ 3 3) rfl ?_
 refine A2 (G3 rfl kR (mA hpb) qR) rfl ?_
 refine mv_ ?_
 refine E0 (aS rfl (aS rfl a0)) kR (X0 bt bm s.ts _ MT _ hT (fun x hx => qS _ (hsub x hx))) rfl ?_
 rintro v46 M46 J46 ⟨rfl, rfl, c46, ok46, rfl, hg1, hg2⟩
 obtain ⟨vo, t, rfl, hvo, hz, htk, hok, hno⟩ := A0Z hT.tok.tmo hg1 hg2
 haveI := hvo.cel
 refine mv_ ?_
 refine A2 (R6 rfl) rfl ?_
 refine A2 (R4 rfl) rfl ?_
 refine A4 rfl (D2 (cs := [.int .u8 0, vS, .string ByteArray.empty, .int .i64 0]) kR rfl fun b12 => ?_)
 refine A4 rfl (B8 (vs := tmc t.kind vo t.text t.n) rfl rfl rfl kR qR (by intro c hc; simp only [tmc, List.mem_cons, List.not_mem_nil, or_false] at hc; rcases hc with rfl | rfl | rfl | rfl <;> first | rfl | exact hvo.one) UpC.upd ?_)
 dsimp only [tmc]
 refine as_ (A0 (I7 0 1 2 3 11 12) (A6 ?_))
 refine E6 ([]) (_) true (.range 22) (zp 0 [0, 0, 0, 0, 0, 0, 0, 0, 0, 1, 0, 0, 0, 0, 1, 0, 1, 0, 0, 2, 0, 0]) kR kR qP fun hs K n0 hKm hKs hKn => ?_
 refine km_ hs ?_
 refine F1 hs rfl (L6 rfl) rfl ?_
 refine km_ hs ?_
 refine A1E (t := 51) rfl (fun hb => ?_) (fun hb => ?_)
 ·
  have hpn : plc wg s.ts.length = none := by cases hq : plc wg s.ts.length with | none => rfl | some z => rw [hq] at hb; cases hb
  have hno_ : A1d s w wa wg = none := (A2J hr _ _ _).trans (A1c fun t_ ⟨z0, z1, z2, z3, z4, z5⟩ => by rw [hpn] at z3; cases z3)
  refine U2 hs rfl rfl rfl rfl rfl rfl ?_
  refine U2 hs rfl rfl rfl rfl rfl rfl ?_
  refine U2 hs rfl rfl rfl rfl rfl rfl ?_
  refine F1 hs rfl (E3 rfl rfl) rfl ?_
  refine km_ hs ?_
  refine U2 hs rfl rfl rfl rfl rfl rfl ?_
  refine A3E hs rfl rfl rfl rfl rfl rfl ?_
  refine U2 hs rfl rfl rfl rfl rfl rfl ?_
  refine F1 hs rfl (E3 rfl rfl) rfl ?_
  refine km_ hs ?_
  refine U2 hs rfl rfl rfl rfl rfl rfl ?_
  refine A3E hs rfl rfl rfl rfl rfl rfl ?_
  refine U2 hs rfl rfl rfl rfl rfl rfl ?_
  refine A3E hs rfl rfl rfl rfl rfl rfl ?_
  refine U2 hs rfl rfl rfl rfl rfl rfl ?_
  refine U2 hs rfl rfl rfl rfl rfl rfl ?_
  refine B0s rfl rfl rfl rfl rfl rfl ?_
  refine U2 hs rfl rfl rfl rfl rfl rfl ?_
  refine F1 hs rfl (E3 rfl rfl) rfl ?_
  refine G7 (E5 2 12 70) ?_
  refine E9 rfl ?_
  refine A1 (as_ (as_ (A0 (D0 8 9) (A7 (tr ?_)))))
  exact ⟨_, [], [], A1g rfl rfl rfl, qZ, rfl, vS, by rw [hno_]; rfl, by rw [hno_]; exact By.nil⟩
 ·
  have hi : plc wg s.ts.length = some i := by cases hq : plc wg s.ts.length with | none => rw [hq] at hb; cases hb | some z => rw [hq] at hie; exact congrArg some hie
  have hil := (A4I hi).1
  have hok2 : ok46 = true := (hg1 ⟨by omega, by omega⟩).1
  obtain ⟨-, ht2⟩ := hok hok2
  rw [Int.toNat_natCast] at ht2
  refine A1Z hs rfl rfl rfl rfl qm_ rfl ?_
  refine A1Z hs rfl rfl rfl rfl (E2 (sz := 1) rfl kR h3.rd) rfl ?_
  refine A1Z hs rfl rfl rfl rfl (F3 rfl rfl rfl) rfl ?_
  refine F1 hs rfl (C8 rfl rfl) rfl ?_
  refine km_ hs ?_
  refine A1E (t := 56) rfl (fun hb => ?_) (fun hb => ?_)
  ·
   have h32 : wg.length ≠ 32 := by intro e; rw [e] at hb; exact absurd hb qD
   have hno_ : A1d s w wa wg = none := (A2J hr _ _ _).trans (A1c fun t_ ⟨z0, z1, z2, z3, z4, z5⟩ => h32 z0)
   refine U2 hs rfl rfl rfl rfl rfl rfl ?_
   refine A3E hs rfl rfl rfl rfl rfl rfl ?_
   refine U2 hs rfl rfl rfl rfl rfl rfl ?_
   refine F1 hs rfl (E3 rfl rfl) rfl ?_
   refine km_ hs ?_
   refine U2 hs rfl rfl rfl rfl rfl rfl ?_
   refine A3E hs rfl rfl rfl rfl rfl rfl ?_
   refine U2 hs rfl rfl rfl rfl rfl rfl ?_
   refine A3E hs rfl rfl rfl rfl rfl rfl ?_
   refine U2 hs rfl rfl rfl rfl rfl rfl ?_
   refine U2 hs rfl rfl rfl rfl rfl rfl ?_
   refine B0s rfl rfl rfl rfl rfl rfl ?_
   refine U2 hs rfl rfl rfl rfl rfl rfl ?_
   refine F1 hs rfl (E3 rfl rfl) rfl ?_
   refine G7 (E5 2 12 70) ?_
   refine E9 rfl ?_
   refine A1 (as_ (as_ (A0 (D0 8 9) (A7 (tr ?_)))))
   exact ⟨_, [], [], A1g rfl rfl rfl, qZ, rfl, vS, by rw [hno_]; rfl, by rw [hno_]; exact By.nil⟩
  ·
   have h32 : wg.length = 32 := by simp at hb; omega
   refine A1Z hs rfl rfl rfl rfl (qf_ 0 0) rfl ?_
   refine B0r hs rfl rfl rfl rfl (by first | exact fun x hx => by rw [List.append_assoc]; exact List.mem_append_right _ hx | exact qS) hKs ql_ rfl ?_
   refine A1Z hs rfl rfl rfl rfl (F3 rfl rfl rfl) rfl ?_
   refine F1 hs rfl (C8 rfl rfl) rfl ?_
   refine km_ hs ?_
   refine A1E (t := 61) rfl (fun hb => ?_) (fun hb => ?_)
   ·
    have hk6 : t.kind ≠ 6 := by intro e; rw [e] at hb; exact absurd hb qD
    have hno_ : A1d s w wa wg = none := (A2J hr _ _ _).trans (A1c fun t_ ⟨z0, z1, z2, z3, z4, z5⟩ => by rw [hi] at z3; obtain rfl := Option.some.inj z3; rw [ht2] at z5; rw [Option.some.inj z5] at hk6; exact hk6 rfl)
    refine U2 hs rfl rfl rfl rfl rfl rfl ?_
    refine A3E hs rfl rfl rfl rfl rfl rfl ?_
    refine U2 hs rfl rfl rfl rfl rfl rfl ?_
    refine A3E hs rfl rfl rfl rfl rfl rfl ?_
    refine U2 hs rfl rfl rfl rfl rfl rfl ?_
    refine U2 hs rfl rfl rfl rfl rfl rfl ?_
    refine B0s rfl rfl rfl rfl rfl rfl ?_
    refine U2 hs rfl rfl rfl rfl rfl rfl ?_
    refine F1 hs rfl (E3 rfl rfl) rfl ?_
    refine G7 (E5 2 12 70) ?_
    refine E9 rfl ?_
    refine A1 (as_ (as_ (A0 (D0 8 9) (A7 (tr ?_)))))
    exact ⟨_, [], [], A1g rfl rfl rfl, qZ, rfl, vS, by rw [hno_]; rfl, by rw [hno_]; exact By.nil⟩
   ·
    have hk6 : t.kind = 6 := by simp at hb; omega
    obtain ⟨x, a, b, rfl, hb256, hbl⟩ := hSel t (List.mem_of_getElem? ht2) hk6
    have hmt := hT.tok.tmo _ (List.mem_of_getElem? ht2)
    have hmb : B256 (S7 [a, b]) := A9F a b ▸ hmt.text
    have hml : (S7 [a, b]).length ≤ 1099511627776 := A9F a b ▸ hmt.tl
    replace hvo : Rd A 1 vo 1 (Y3 [x]) := hvo
    refine A1Z hs rfl rfl rfl rfl (qf_ 1 1) rfl ?_
    refine B0r hs rfl rfl rfl rfl (by first | exact fun x hx => by rw [List.append_assoc]; exact List.mem_append_right _ hx | exact qS) hKs ql_ rfl ?_
    refine A1Z hs rfl rfl rfl rfl (F2 (sz := 1) (a := 0) rfl rfl kR rfl hvo (show 0 < 1 by decide)) rfl ?_
    refine B0r hs rfl rfl rfl rfl (by first | exact fun x hx => by rw [List.append_assoc]; exact List.mem_append_right _ hx | exact qS) hKs (L0 (j := 0) (u := .int .i64 x) (hvo.mono qS) rfl kR qR) rfl ?_
    refine A1Z hs rfl rfl rfl rfl qm_ rfl ?_
    refine A1Z hs rfl rfl rfl rfl qm_ rfl ?_
    refine B5O [] _ rfl rfl rfl rfl (List.Perm.refl _) (fun _ h => by cases h) fun w0 => (X3 (aS rfl (aS rfl a0)) kR (B1B pb bt bm 1 _ sv s.ts v w j MT _ hT (fun x hx => qS _ (hsub x hx)) (qS _ hpb) hn (hv.mono qS) hj) rfl fun _ => ?_)
    dsimp only [List.nil_append, List.append_eq]
    refine A1Z hs rfl rfl rfl rfl (F3 rfl rfl rfl) rfl ?_
    refine F1 hs rfl (C8 rfl rfl) rfl ?_
    refine G7 (E5 2 12 70) ?_
    refine C3 rfl ?_ ?_ <;> intro hc
    ·
     have hxj : x ≠ ((j : Nat) : Int) := by intro e; rw [e] at hc; simp [H8] at hc
     have hno_ : A1d s w wa wg = none := (A2J hr _ _ _).trans (A1c fun t_ ⟨z0, z1, z2, z3, z4, z5⟩ => by rw [hi] at z3; obtain rfl := Option.some.inj z3; rw [hj] at z4; obtain rfl := Option.some.inj z4; rw [ht2] at z5; exact hxj (List.cons.inj (Tm.mk.inj (Option.some.inj z5)).2.1).1)
     refine A1 (as_ (as_ (A0 (D0 8 9) (A7 (tr ?_)))))
     exact ⟨_, [], [], A1g rfl rfl rfl, qZ, rfl, vS, by rw [hno_]; rfl, by rw [hno_]; exact By.nil⟩
    ·
     obtain rfl : x = ((j : Nat) : Int) := by simp [H8] at hc; exact hc
     refine A5 (nx (D0 2 12) (A1 ?_))
     refine A2 (qf_ 2 2) rfl ?_
     refine A2 ql_ rfl ?_
     rw [show (A03 ((j : Nat) : Int) a b).text = S7 [a, b] from A9F a b]
     refine E0 (aS rfl a0) kR (A25 [a, b] hmb hml _ (qS _ h4)) rfl ?_
     rintro r74 M74 J74 ⟨rfl, v74, rfl, hsl⟩
     haveI := hsl.cel
     refine mv_ ?_
     refine A2 (R6 rfl) rfl ?_
     refine A2 (R4 rfl) rfl ?_
     refine as_ (as_ (A0 (E5 2 14 15) (A6 ?_)))
     refine V7 (B := M74) qP ?_
     have hrd := hsl.rd (R := M74) fun _ h => h
     refine G5 (.range 15) (zp 0 [0, 0, 0, 0, 0, 0, 0, 0, 0, 0, 1, 0, 1, 0, 0]) kR kR fun hs => ?_
     refine fm_ hs ?_
     refine E8 hs rfl (F0 false rfl rfl (neF rfl)) rfl ?_
     refine fm_ hs ?_
     refine I4 hs rfl rfl rfl rfl qm_ rfl ?_
     refine I4 hs rfl rfl rfl rfl (E2 (sz := 1) rfl kR hrd) rfl ?_
     refine I4 hs rfl rfl rfl rfl (F0 false rfl rfl (neF rfl)) rfl ?_
     refine E8 hs rfl (C8 rfl rfl) rfl ?_
     refine fm_ hs ?_
     refine I4 hs rfl rfl rfl rfl qm_ rfl ?_
     refine I4 hs rfl rfl rfl rfl (F2 (sz := 1) (a := 0) rfl rfl kR rfl hrd (show _ < 2 by decide)) rfl ?_
     refine A0r hs rfl rfl rfl rfl (L0 (j := 0) (u := .string (txt a)) (hrd.mono qS) rfl kR qR) rfl ?_
     refine I4 hs rfl rfl rfl rfl qm_ rfl ?_
     refine A0r hs rfl rfl rfl rfl (Q3 rfl kR (h2.rd.mono qS)) rfl ?_
     have ha256 : ∀ y ∈ a, y < 256 := fun y hy => hmb.lt y (by simp [S7, mark, hy])
     refine I4 hs rfl rfl rfl rfl (B5T rfl rfl rfl rfl ha256 h2.lt) rfl ?_
     refine E8 hs rfl (C8 rfl rfl) rfl ?_
     refine I2 (D0 14 91) ?_
     refine C3 rfl ?_ ?_ <;> intro hc
     ·
      have hne : a ≠ wa := by simpa using hc
      have hno_ : A1d s w wa wg = none := (A2J hr _ _ _).trans (A1c fun t_ ⟨z0, z1, z2, z3, z4, z5⟩ => by rw [hi] at z3; obtain rfl := Option.some.inj z3; rw [ht2] at z5; have e5 := Option.some.inj z5; exact hne (A6O hmt (e5 ▸ hmt) e5).2.1)
      refine A1 (as_ (as_ (A0 (D0 8 9) (A7 (tr ?_)))))
      exact ⟨_, [], [], A1g rfl rfl rfl, qZ, rfl, vS, by rw [hno_]; rfl, by rw [hno_]; exact By.nil⟩
     ·
      obtain rfl : a = wa := by simpa using hc
      have hye : A1d s w a wg = some b := (A2J hr _ _ _).trans (A5d hT.tok ⟨h32, i, j, hi, hj, ht2⟩)
      refine A5 (nx (C7 14) (A1 (mv_ ?_)))
      refine A2 (F2 (sz := 1) (a := 1) rfl rfl kR rfl hrd (show _ < 2 by decide)) rfl ?_
      refine A2 (L0 (j := 1) (u := .string (txt b)) (hrd.mono qS) rfl kR qR) rfl ?_
      refine A4 rfl (A2a (e := 5) rfl rfl hb256 kR kR kR rfl fun v95 B95 hs95 => ?_)
      refine A28 (B := B95) qP ?_
      refine as_ (as_ (A0 (D0 8 9) (A7 ?_)))
      exact ⟨_, [], [], A1g rfl rfl rfl, qZ, rfl, _, by rw [hye]; rfl, by rw [hye]; exact ⟨hs95.mono qS, hb256, hbl⟩⟩
theorem B4R (pb : Nat × Nat) (s : Ps) (v v2 v3 : Value) (w wa wb : LN) (MP A : Mem) (hP : Prm pb s MP) (hn : s.ts.length < 1048576) (hv : By A v w) (hya : By A v2 wa) (hyb : By A v3 wb) (hl : wa.length + wb.length ≤ 16000000) (hG : Glb A) : FnX Tryz.prog 88 [.pointer (some ⟨pb.1, 0, none⟩), v, v2, v3] MP A fun q M J => Prm pb (A7F s w wa wb) M ∧ By J q (B2X s w wa wb) := by
  obtain ⟨bt, bm, hT⟩ := hP.t
  exact (A8N pb bt bm s rfl v v2 v3 w wa wb MP A hT hn hv hya hyb hG).mono fun q M J h => ⟨h.1.p, h.2⟩
theorem A9R (pb : Nat × Nat) (s : Ps) (v v2 v3 : Value) (w wa wg : LN) (MP A : Mem) (hP : Prm pb s MP) (hMP : ∀ x, x ∈ MP → x ∈ A) (hn : s.ts.length ≤ 1048576) (hSel : S0 s.ts) (hv : By A v w) (h2 : By A v2 wa) (h3 : By A v3 wg) (hj : Kok s w) (hl : wa.length + wg.length ≤ 16000000) (hG : Glb A) : FnX Tryz.prog 117 [.pointer (some ⟨pb.1, 0, none⟩), v, v2, v3] [] A fun q M J => M = [] ∧ ∃ u, q = .tuple #[u, .bool (A1d s w wa wg).isSome] ∧ By J u ((A1d s w wa wg).getD []) := by
  obtain ⟨bt, bm, hT⟩ := hP.t
  obtain ⟨i, hi, rfl⟩ := hj rfl
  exact B4Q pb bt bm s rfl v v2 v3 _ wa wg i MP A hT hMP hn hSel hv h2 h3 (by rw [Z7, show u64 ((i : Nat) : Int) = i by unfold u64; omega, if_pos hi]) hG

end Go.Proofs.YtoameenjkiaefaaGreatDoor
namespace Go.Px
theorem FnX.amb {P : Program} {f : FuncId} {args : List Value} {M A A' : Mem} {post : Value → Mem → Mem → Prop} (hA : ∀ x, x ∈ A → x ∈ A') (h : FnX P f args M A post) : FnX P f args M A' post := by
  intro w hw
  have h1 : St ⟨P, w, M.map Prod.fst, A, 0⟩ M [] w := ⟨hw.os, hw.tape, hw.output, hw.size, hw.frame, fun b o hb => hw.mem b o (by
    rcases List.mem_append.1 hb with hb | hb
    · exact List.mem_append_left _ hb
    · exact List.mem_append_right _ (hA _ hb)), hw.nodup, hw.own, hw.sepJ, fun b o hb => hw.sepA b o (hA _ hb), hw.old⟩
  refine Calls.mono (h w h1) ?_
  rintro e w' ⟨r, M', J', rfl, hp, hs⟩
  refine ⟨r, M', J', rfl, hp, ⟨hs.os, hs.tape, hs.output, hs.size, hs.frame, fun b o hb => ?_, hs.nodup, hs.own, hs.sepJ, hw.sepA, hs.old⟩⟩
  rcases List.mem_append.1 hb with hb | hb
  · exact hs.mem b o (List.mem_append_left _ hb)
  · rcases List.mem_append.1 hb with hb | hb
    · exact hs.mem b o (List.mem_append_right _ (List.mem_append_left _ hb))
    · have h2 := hw.sepA b o hb
      rw [hs.frame b h2.2 h2.1]
      exact hw.mem b o (List.mem_append_right _ hb)
end Go.Px

namespace Go.Proofs.YtoameenjkiaefaaGreatDoor
open Go.Px
theorem B4S {P : Program} {fn : Func} {l : Env} {R : Mem} {t1 t2 u x b1 b2 n1 n2 : Nat} {y1 y2 : TypeId} {c1 c2 : List Value} {e1 e2 : TypeId} {f1 f2 : Nat × Nat} {v z : Value} (h : fn.results = #[.cell t1 y1, .cell t2 y2, .tmp u, .tmp x]) (h1 : lk l t1 = some (vP b1)) (h2 : lk l t2 = some (vP b2)) (hu : lk l u = some v) (hx : lk l x = some z) (ht1 : A4q P y1 = some n1) (ht2 : A4q P y2 = some n2)
    (hb1 : (b1, Obj.cells c1.toArray e1 f1) ∈ R) (hb2 : (b2, Obj.cells c2.toArray e2 f2) ∈ R) (hn1 : c1.length = n1) (hn2 : c2.length = n2) : Res P fn l R (.tuple #[.agg c1.toArray, .agg c2.toArray, v, z]) := fun N a w ha hw => by
  obtain ⟨d1, g1, g2, g3⟩ := L9 ht1
  obtain ⟨d2, k1, k2, k3⟩ := L9 ht2
  have l1 := run_loadVar_row (P := P) w b1 e1 y1 c1.toArray f1 d1 (hw b1 _ hb1) g1 (by cases d1 <;> simp_all [TypeDesc.isRow]) (by rw [g3, ← hn1]; simp)
  have l2 := run_loadVar_row (P := P) w b2 e2 y2 c2.toArray f2 d2 (hw b2 _ hb2) k1 (by cases d2 <;> simp_all [TypeDesc.isRow]) (by rw [k3, ← hn2]; simp)
  simp [results, h, ha.slot t1 _ h1, ha.slot t2 _ h2, ha.slot u _ hu, ha.slot x _ hx, asAddr, l1, l2]
noncomputable def P1 (s : Ps) (r : Rsd) : Rsd := { r with sk := A2S (G1 s r.own) r.sk, sn := (r.sn + 1) % 4294967296 }
noncomputable def A5j (s : Ps) (r : Rsd) (w : LN) : LN := A3q w (A4i (I5 s r.own) r.prev r.sn)
noncomputable def A2T (s : Ps) (r : Rsd) (w t : LN) : Ps := A7F (R9 (G1 s r.own) r.sk) (T4 (G1 s r.own) r.sk) (A5j s r w) t
noncomputable def A4m (s : Ps) (r : Rsd) (w t : LN) : LN := B2X (R9 (G1 s r.own) r.sk) (T4 (G1 s r.own) r.sk) (A5j s r w) t
theorem X2 (s : Ps) (key : LN) : (R9 s key).ts.length ≤ s.ts.length + 3 ∧ (R9 s key).n = s.n ∧ (R9 s key).real = s.real := by
  have h1 := A02 s key [] A2R 2
  have h2 := X1 s key [] A2R 2
  have e : ([] : List (LN)).length = 0 := rfl
  unfold R9
  exact ⟨by omega, h2.2.1, h2.1⟩
theorem B4T (pb : Nat × Nat) (s : Ps) (r : Rsd) (vo vt vr vk vl vs vw vx : Value) (w tx : LN) (MP A : Mem) (hP : Prm pb s MP) (hn : s.ts.length + 200 ≤ 1040000) (hr : RsR A r vo vt vr vk vl vs) (hsk : 0 < r.sk.length) (hw : By A vw w) (hwl : w.length ≤ 1000000) (hx : By A vx tx) (hxl : tx.length ≤ 1000000) (hG : Glb A) : FnX Tryz.prog 74 [.pointer (some ⟨pb.1, 0, none⟩), .agg (rsC vo vt vr vk vl vs r).toArray, vw, vx] MP A fun q M J => ∃ q1 q2 q3, q = .tuple #[q1, .agg #[q2, (vU r.prev), (vU r.sn)], q3, .int .i64 0] ∧ Prm pb (A2T s r w tx) M ∧ RsV (J ++ A) q1 (P1 s r) ∧ By (J ++ A) q2 (I5 s r.own) ∧ By (J ++ A) q3 (A4m s r w tx) := by
 haveI := hr.own.cel
 haveI := hr.their.cel
 haveI := hr.root.cel
 haveI := hr.sk.cel
 haveI := hr.tk.cel
 haveI := hw.cel
 haveI := hx.cel
 have hst := hr.st
 obtain ⟨sb, u0, rows0, rfl, hsb, hrd0, hrw0⟩ := hst
 have f1 := A4f s r.own
 have f2 := X2 (G1 s r.own) r.sk
 have f3 := B4N s r.own
 unfold rsC
 refine FnX.enterZ (N := 52) Tryz.func74 rfl rfl rfl fun w_ => ?_
 refine A8 (F4 0 1 2 3) (A1 ?_)
 refine A4 rfl (bx_ fun b5 => ?_)
 refine A4 rfl (D2 (cs := [vS, vS, vS, vS, E4, vS, E4, E4, .pointer none]) kR rfl fun b8 => ?_)
 refine A4 rfl (D2 (cs := [vS, .int .u32 0, .int .u32 0]) kR rfl fun b9 => ?_)
 refine as_ (as_ (A0 (I7 0 2 3 5 8 9) (A6 (A1 ?_))))
 refine A2 (qf_ 3 3) rfl ?_
 refine A2 (qf_ 3 0) rfl ?_
 refine A2 ql_ rfl ?_
 refine A2 (E2 (sz := 1) rfl kR hr.sk.rd) rfl ?_
 refine A2 (F0 false rfl rfl (eqF qO)) rfl ?_
 refine A0 (S9 0 2 3 5 8 9 19) ?_
 refine B0 rfl ?_
 refine A5 (nx (I7 0 2 3 5 8 9) ?_)
 refine E6 (MP) (_) true (.range 11) [(0, 0), (1, 0), (2, 1), (4, 0), (5, 1), (6, 0), (7, 0), (8, 1), (3, 3), (9, 3), (10, 4), (11, 2)] kR kR qP fun hs K n0 hKm hKs hKn => ?_
 refine km_ hs ?_
 refine F1 hs rfl (qf_ 0 0) rfl ?_
 refine I1 hs rfl hKs ql_ ?_
 refine F1 hs rfl (qf_ 7 7) rfl ?_
 refine I1 hs rfl hKs ql_ ?_
 refine F1 hs rfl (qf_ 3 3) rfl ?_
 refine F1 hs rfl (qf_ 4 1) rfl ?_
 refine I1 hs rfl hKs ql_ ?_
 refine V1 [⟨3, 25, none, MP, fun v B R => Prm pb (G1 s r.own) B ∧ By R v (I5 s r.own)⟩, ⟨9, 31, none, [], fun v B R => B = [] ∧ ∃ u, v = .agg #[u, (vU r.prev), (vU r.sn)] ∧ By R u (I5 s r.own)⟩, ⟨10, 12, none, [], fun v B _ => ∃ b, v = (vP b) ∧ B = [(b, blk [vS, .int .u32 0, .int .u32 0] 35)]⟩] ([(b9, blk [vS, .int .u32 0, .int .u32 0] 35), (b8, blk [vS, vS, vS, vS, .int .u32 0, vS, .int .u32 0, .int .u32 0, .pointer none] 72), (b5, blk [vo, vt, vr, vk, (vU r.sn), vl, (vU r.tn), (vU r.prev), (vP sb)] 72)]) (fun bs => [bs 3, bs 9, bs 10]) (hKn rfl) (by simp [Q6, W4]) (show ∀ m ∈ ([MP, [], []] : List Mem), ∀ x ∈ m, K x.1 from A3 (hKm) (A3 (fun _ h => by cases h) (A3 (fun _ h => by cases h) (H9)))) kR (fun _ => by first | rfl | kernel_rfl)
  (A3 (fun _ _ _ _ h ⟨p1, p2⟩ => ⟨p1, p2.mono h⟩) (A3 (fun _ _ _ _ h ⟨p1, u, e, p2⟩ => ⟨p1, u, e, p2.mono h⟩) (A3 (fun _ _ _ _ _ h => h) (H9)))) (show List.Nodup [25, 31, 12] by decide) (show List.Nodup [3, 9, 10] by decide) (A3 (D5 rfl) (A3 (D5 rfl) (A3 (D5 rfl) (H9))))
  (A3 ⟨_, rfl, fun vs bs R Rj wG hb hj hjr ha => ⟨.inl rfl, ?_⟩⟩ (A3 ⟨_, rfl, fun vs bs R Rj wG hb hj hjr ha => ⟨.inl rfl, ?_⟩⟩ (A3 ⟨_, rfl, fun vs bs R Rj wG hb hj hjr ha => ⟨.inl rfl, ?_⟩⟩ (H9)))) ?_
 ·
  dsimp only [Gc.inp]
  refine A9 (Mc := MP) (R := []) (aS rfl (aS rfl (a0))) kR qM (A0m pb s vo r.own MP _ hP qO (hr.own.mono (fun x hx => by have := hb x (by simp [hx]); simp [this])) (hG.sub (fun x hx => by have := hb x (by simp [hx]); simp [this]))) rfl ?_
  rintro v25 M25 J25 ⟨hP25, h25⟩
  exact ⟨_, rfl, by simpa using hP25, h25.mono fun x hx => by simp [hx]⟩
 ·
  dsimp only [Gc.inp]
  have g3 := ha _ (List.mem_of_getElem? (i := 0) rfl) kR
  replace g3 : (fun v B R => Prm pb (G1 s r.own) B ∧ By R v (I5 s r.own)) (vs 3) (bs 3) Rj := g3
  dsimp only at g3
  obtain ⟨-, h25⟩ := g3
  haveI := h25.cel
  dsimp only [N3, List.map, List.cons_append, List.nil_append]
  exact OpQ.opL (D6 (place := fun x => #[(0, 1), (1, 1), (2, 1)][x]?) (z := [vS, .int .u32 0, .int .u32 0]) (fun _ => by kernel_rfl) (eS rfl (eS rfl (eS rfl e0))) (bdS 0 1 rfl qR (bdS 1 1 rfl qR (bdS 2 1 rfl qR bd0)))) rfl ⟨_, rfl, rfl, _, rfl, h25⟩
 ·
  dsimp only [Gc.inp]
  exact D2 (cs := [vS, .int .u32 0, .int .u32 0]) kR rfl fun b => ⟨_, rfl, b, rfl, rfl⟩
 intro vs bs Jn0 hφ hKK
 have kk3 := hKK _ (List.mem_of_getElem? (i := 0) rfl)
 dsimp only at kk3
 have kk9 := hKK _ (List.mem_of_getElem? (i := 1) rfl)
 dsimp only at kk9
 have kk10 := hKK _ (List.mem_of_getElem? (i := 2) rfl)
 dsimp only at kk10
 clear hKK
 have g3 := ofH hφ
 dsimp only at g3
 replace hφ := ofT hφ
 have g9 := ofH hφ
 dsimp only at g9
 replace hφ := ofT hφ
 have g10 := ofH hφ
 dsimp only at g10
 clear hφ
 dsimp only [N3, Q6, List.foldr, List.map, List.cons_append, List.nil_append]
 generalize bs 3 = B25 at *
 generalize bs 9 = B31 at *
 generalize bs 10 = B12 at *
 generalize vs 3 = u25 at *
 generalize vs 9 = u31 at *
 generalize vs 10 = u12 at *
 obtain ⟨hP25, -⟩ := g3
 obtain ⟨rfl, v25, rfl, h25⟩ := g9
 obtain ⟨b12, rfl, rfl⟩ := g10
 haveI := h25.cel
 refine K2 rfl rfl rfl (B8 (vs := [v25, (vU r.prev), (vU r.sn)]) rfl rfl rfl kR qR (A3 h25.one al2) UpC.upd ?_)
 refine G7 (S9 0 2 3 5 8 9 12) (A1 ?_)
 refine A2 (qw_ 9) rfl ?_
 refine E0 (aS rfl a0) kR (FnX.amb qS (A5S r vo vt vr vk vl _ A hr)) rfl ?_
 rintro v33 M33 J33 ⟨cb, rfl, hSt⟩
 obtain ⟨u5, rows5, BS, rfl, hs5, hw5⟩ := hSt.ex
 unfold rsC
 refine A4 rfl (B8 (vs := [vo, vt, vr, vk, (vU r.sn), vl, (vU r.tn), (vU r.prev), (vP cb)]) rfl rfl rfl kR qR (A3 hr.own.one (A3 hr.their.one (A3 hr.root.one (A3 hr.sk.one (A3 rfl (A3 hr.tk.one al3)))))) UpC.upd ?_)
 refine A0 (S9 0 2 3 5 8 9 12) ?_
 refine V7 (B := (cb, blk [u5] 195) :: BS) qP ?_
 have hrd5 := hs5.rd (R := BS) fun _ h => h
 refine A1 (mv_ ?_)
 refine A2 (qf_ 3 3) rfl ?_
 refine A2 (A15 (n := 2) rfl kR (by first | exact At.mem | exact mA (by assumption)) TakeC.take) rfl ?_
 refine A4 rfl (A9 (Mc := B25) (R := _) (aS rfl (aS rfl (a0))) kR qP (A2I pb (G1 s r.own) vk r.sk r.sn B25 _ hP25 (hr.sk.mono qS) qO hG.up) rfl ?_)
 rintro v38 M38 J38 ⟨k1, k2, rfl, hP38, hb1, hb2⟩
 haveI := hb1.cel
 haveI := hb2.cel
 refine mv_ ?_
 refine A2 (R6 rfl) rfl ?_
 refine A2 (R4 rfl) rfl ?_
 refine A4 rfl (D2 (cs := [vS, .int .u32 0]) kR rfl fun b14 => ?_)
 refine as_ ?_
 refine A4 rfl (B8 (vs := [k2, .int .u32 (((r.sn + 1) % 4294967296 : Nat) : Int)]) rfl rfl rfl kR qR (A3 hb2.one (A3 rfl H9)) UpC.upd ?_)
 refine A0 (A3A 0 2 3 5 8 9 12 13 14) (A1 ?_)
 refine A2 (qw_ 2) rfl ?_
 refine A2 (qf_ 3 3) rfl ?_
 refine A4 rfl (K9 (vs := [k2, .int .u32 (((r.sn + 1) % 4294967296 : Nat) : Int)]) (cs' := [vo, vt, vr, k2, .int .u32 (((r.sn + 1) % 4294967296 : Nat) : Int), vl, (vU r.tn), (vU r.prev), (vP cb)]) rfl rfl rfl kR (by exact (show 3 + 2 ≤ 9 by decide)) (A3 hb2.one (A3 rfl H9)) rfl UpC.upd ?_)
 refine A0 (A0A 0 2 3 5 8 9 12 13) ?_
 refine E6 (M38 ++ [(b8, blk [vS, vS, vS, vS, .int .u32 0, vS, .int .u32 0, .int .u32 0, .pointer none] 72)]) (_) true [0, 1, 2, 3, 4, 5, 6, 7, 8, 9, 11, 12] [(0, 1), (1, 1), (2, 0), (3, 0), (4, 0), (5, 1), (7, 0), (6, 2), (8, 2), (9, 2), (10, 2), (11, 0), (12, 0)] kR kR qP fun hs K n0 hKm hKs hKn => ?_
 refine I1 hs rfl hKs (qw_ 9) ?_
 refine I1 hs rfl hKs (qw_ 3) ?_
 refine km_ hs ?_
 refine km_ hs ?_
 refine km_ hs ?_
 refine I1 hs rfl hKs (qw_ 3) ?_
 refine km_ hs ?_
 refine F9 [] _ rfl rfl (List.Perm.refl _) (fun _ h => by cases h) fun w0 => (K0 (aS rfl (aS rfl a0)) kR (A9O vw v25 w (I5 s r.own) r.prev r.sn _ (hw.mono qS) (h25.mono qS) qO hr.prev hr.sn) rfl ?_)
 rintro v49 M49 J49 ⟨rfl, h49⟩ _
 haveI := h49.cel
 dsimp only [List.nil_append, List.append_eq]
 refine F9 M38 _ rfl rfl qP (fun x hx => hKm x (List.mem_append_left _ hx)) fun w0 => (A9 (Mc := M38) (R := _) (aS rfl (aS rfl (aS rfl (aS rfl (a0))))) kR qP (B4R pb (R9 (G1 s r.own) r.sk) k1 v49 vx (T4 (G1 s r.own) r.sk) (A5j s r w) tx M38 _ hP38 qO (hb1.mono qS) (h49.mono qS) (hx.mono qS) (by unfold A5j; rw [A1p, A1b]; omega) hG.up) rfl ?_)
 rintro v51 M51 J51 ⟨hP51, h51⟩ hKx51
 haveI := h51.cel
 refine F9 [(b8, blk [vS, vS, vS, vS, .int .u32 0, vS, .int .u32 0, .int .u32 0, .pointer none] 72)] _ rfl rfl qP (fun x hx => hKm x (List.mem_append_right _ hx)) fun w0 => (B8 (vs := [vo, vt, vr, k2, .int .u32 (((r.sn + 1) % 4294967296 : Nat) : Int), vl, (vU r.tn), (vU r.prev), (vP cb)]) rfl rfl rfl kR qR (A3 hr.own.one (A3 hr.their.one (A3 hr.root.one (A3 hb2.one (A3 rfl (A3 hr.tk.one al3)))))) UpC.upd ?_)
 intro _
 dsimp only [List.cons_append, List.nil_append, List.append_eq]
 refine K2 rfl rfl rfl (B8 (vs := [v25, (vU r.prev), (vU r.sn)]) rfl rfl rfl kR qR (A3 h25.one al2) UpC.upd ?_)
 refine F1 hs rfl (F5 rfl) rfl ?_
 refine F1 hs rfl (F5 rfl) rfl ?_
 refine G7 (F4 8 9 10 11) (A7 ?_)
 exact ⟨_, M51, [], B4S (n1 := 9) (n2 := 3) rfl rfl rfl rfl rfl kR kR At.mem At.mem qR qR, Fit.none (Fit.last qP), _, v25, v51, rfl, hP51, ⟨vo, vt, vr, k2, vl, _, rfl, ⟨hr.own.mono qS, hr.their.mono qS, hr.root.mono qS, hb2.mono qS, hr.tk.mono qS, ⟨cb, u5, rows5, rfl, by simp, hrd5.mono qS, hw5.mono skT qS⟩, Nat.mod_lt _ qD, hr.tn, hr.prev, hr.sks⟩⟩, h25.mono qS, h51.mono qS⟩

def ahE (N n : Nat) : Int := if n < N then 8 else if 16 < n - N then 7 else 0
def ahX (s : Ps) (key : LN) (N n : Nat) (of : LN) (sks : List Skp) : Ast := if ahE N n = 0 then rep (aSt of) (n - N) (s, key, N, sks) else (s, key, N, sks)
theorem A9S {N n : Nat} (h : ahE N n = 0) : N ≤ n ∧ n - N ≤ 16 := by
  unfold ahE at h
  split at h
  · cases h
  · split at h
    · cases h
    · omega
theorem B4U {N n : Nat} (h1 : N ≤ n) (h2 : n - N ≤ 16) : ahE N n = 0 := by
  unfold ahE
  rw [if_neg qO, if_neg qO]
theorem A9T {s : Ps} {key : LN} {N n : Nat} {of : LN} {sks : List Skp} (h : ahE N n ≠ 0) : ahX s key N n of sks = (s, key, N, sks) := if_neg h
theorem A4j {s : Ps} {key : LN} {N n : Nat} {of : LN} {sks : List Skp} (h : ahE N n = 0) : ahX s key N n of sks = rep (aSt of) (n - N) (s, key, N, sks) := if_pos h
theorem B6Y (of : LN) (i : Nat) (x : Ast) : (rep (aSt of) i x).1.n = x.1.n ∧ (rep (aSt of) i x).1.real = x.1.real := by
  induction i with
  | zero => exact ⟨rfl, rfl⟩
  | succ i ih =>
    have h := X2 (rep (aSt of) i x).1 (rep (aSt of) i x).2.1
    exact ⟨h.2.1.trans ih.1, h.2.2.trans ih.2⟩
theorem B4V (s : Ps) (key : LN) (N n : Nat) (of : LN) (sks : List Skp) (hN : N < 4294967296) (hn : n < 4294967296) (hl : sks.length ≤ 1000) :
    (ahX s key N n of sks).1.ts.length ≤ s.ts.length + 48 ∧ (ahX s key N n of sks).1.n = s.n ∧ (ahX s key N n of sks).2.2.1 < 4294967296 ∧ (ahX s key N n of sks).2.2.2.length ≤ 1000 := by
  by_cases h : ahE N n = 0
  · obtain ⟨h1, h2⟩ := A9S h
    rw [A4j h]
    have a := A9L of (n - N) (s, key, N, sks)
    have b := B6Y of (n - N) (s, key, N, sks)
    have c := B1H of (n - N) (s, key, N, sks)
    have d := B2W of (n - N) (s, key, N, sks) hl
    dsimp only at a b c d
    exact ⟨by omega, b.1, by omega, d⟩
  · rw [A9T h]
    exact ⟨by dsimp only; omega, rfl, hN, hl⟩
theorem A9U (pb : Nat × Nat) (sb : Nat) (s : Ps) (kv vof : Value) (key of : LN) (N n : Nat) (sks : List Skp) (R MP MS A : Mem) (hP : Prm pb s MP) (hS : Sto R sb sks MS) (hR : ∀ x, x ∈ R → x ∈ A) (hk : By R kv key) (hof : By R vof of) (hl : sks.length ≤ 1000) (hn32 : n < 4294967296) (hn : s.ts.length ≤ 1000000) (hG : Glb A) :
    FnX Tryz.prog 120 [.pointer (some ⟨pb.1, 0, none⟩), .agg #[kv, (vU N)], vof, (vU n), (vP sb)] (MP ++ MS) A fun q M J => ∃ MP' MS' kv', M = MP' ++ MS' ∧ q = .tuple #[.agg #[kv', .int .u32 (((ahX s key N n of sks).2.2.1 : Nat) : Int)], .int .i64 (ahE N n)] ∧ Prm pb (ahX s key N n of sks).1 MP' ∧ Sto (J ++ R) sb (ahX s key N n of sks).2.2.2 MS' ∧ By (J ++ R) kv' (ahX s key N n of sks).2.1 := by
  by_cases h : ahE N n = 0
  · obtain ⟨h1, h2⟩ := A9S h
    rw [A4j h, h]
    exact A7B pb sb s kv vof key of N n sks R MP MS A hP hS hR hk hof hl h1 h2 hn32 hn hG
  · rw [A9T h]
    unfold ahE at h ⊢
    by_cases h1 : n < N
    · rw [if_pos h1]
      refine (FnV.frame (A7C _ _ kv vof key of N n _ (hk.mono fun x hx => List.mem_append_right _ (hR x hx)) (hof.mono fun x hx => List.mem_append_right _ (hR x hx)) h1)).mono fun q M J ⟨e1, e2, e3⟩ => ?_
      subst e1; subst e2; subst e3
      exact ⟨MP, MS, kv, rfl, rfl, hP, hS, hk⟩
    · rw [if_neg h1] at h ⊢
      by_cases h2 : 16 < n - N
      · rw [if_pos h2]
        refine (FnV.frame (A7D _ _ kv vof key of N n _ (hk.mono fun x hx => List.mem_append_right _ (hR x hx)) (hof.mono fun x hx => List.mem_append_right _ (hR x hx)) qO hn32 h2)).mono fun q M J ⟨e1, e2, e3⟩ => ?_
        subst e1; subst e2; subst e3
        exact ⟨MP, MS, kv, rfl, rfl, hP, hS, hk⟩
      · rw [if_neg h2] at h
        exact absurd rfl h
def alW (w hk : LN) (hp hn : Nat) : LN := A3q w (A4i hk hp hn)
def A1e (r : Rsd) (hk : LN) : Bool := !(decide (hk = r.their)) || decide (r.tk = [])
def opA (s : Ps) (r : Rsd) (hp : Nat) : Ast := if r.tk = [] then (s, r.tk, r.tn, r.sks) else ahX s r.tk r.tn hp r.their r.sks
def A7O (r : Rsd) (hp : Nat) : Int := if r.tk = [] then 0 else ahE r.tn hp
noncomputable def B7H (x : Ast) (r : Rsd) (hk : LN) : Ps × Rsd := (A4h x.1 r.root r.own hk, ⟨r.own, hk, B1I x.1 r.root r.own hk, r.sk, r.sn, B1J x.1 r.root r.own hk, 0, r.prev, x.2.2.2⟩)
noncomputable def opB (s : Ps) (r : Rsd) (hk : LN) (hp : Nat) : Ps × Rsd := if A1e r hk = true then B7H (opA s r hp) r hk else (s, r)
def opC (x : Ps × Rsd) (hn : Nat) : Ast := ahX x.1 x.2.tk x.2.tn hn x.2.their x.2.sks
def opD (x : Ps × Rsd) (hn : Nat) : Ps := R9 (opC x hn).1 (opC x hn).2.1
def A7P (x : Ps × Rsd) (hn : Nat) : LN := T4 (opC x hn).1 (opC x hn).2.1
def opG (r : Rsd) (x : Ps × Rsd) (hn : Nat) : Rsd := ⟨r.own, x.2.their, x.2.root, r.sk, r.sn, A2S (opC x hn).1 (opC x hn).2.1, ((opC x hn).2.2.1 + 1) % 4294967296, r.prev, (opC x hn).2.2.2⟩
noncomputable def opF (s : Ps) (r : Rsd) : Ps × Rsd := (A4h (D4 s) r.root (D9 s) r.their, ⟨D9 s, r.their, B1I (D4 s) r.root (D9 s) r.their, B1J (D4 s) r.root (D9 s) r.their, 0, r.tk, r.tn, r.sn, r.sks⟩)
noncomputable def opZ (b : Bool) (s : Ps) (r : Rsd) : Ps × Rsd := if b = true then opF s r else (s, r)
noncomputable def Q1 (s : Ps) (r : Rsd) (w hk : LN) (hp hn : Nat) (g : LN) : Ps × Rsd × Int × LN :=
  match A4d r.sks hk hn with
  | some k => match A1d s k (alW w hk hp hn) g with
    | none => (s, r, 6, [])
    | some t => (s, ⟨r.own, r.their, r.root, r.sk, r.sn, r.tk, r.tn, r.prev, A3p r.sks hk hn⟩, 0, t)
  | none => if A1e r hk = true ∧ A7O r hp ≠ 0 then ((opA s r hp).1, r, A7O r hp, []) else
    if ahE (opB s r hk hp).2.tn hn ≠ 0 then ((opC (opB s r hk hp) hn).1, r, ahE (opB s r hk hp).2.tn hn, []) else
    match A1d (opD (opB s r hk hp) hn) (A7P (opB s r hk hp) hn) (alW w hk hp hn) g with
    | none => (opD (opB s r hk hp) hn, r, 6, [])
    | some t => ((opZ (A1e r hk) (opD (opB s r hk hp) hn) (opG r (opB s r hk hp) hn)).1, (opZ (A1e r hk) (opD (opB s r hk hp) hn) (opG r (opB s r hk hp) hn)).2, 0, t)
section
variable {s : Ps} {r : Rsd} {w hk : LN} {hp hn : Nat} {g t k : LN}
theorem B6Z (h : A4d r.sks hk hn = some k) (h2 : A1d s k (alW w hk hp hn) g = none) : Q1 s r w hk hp hn g = (s, r, 6, []) := by unfold Q1; rw [h]; dsimp only; rw [h2]
theorem B4W (h : A4d r.sks hk hn = some k) (h2 : A1d s k (alW w hk hp hn) g = some t) : Q1 s r w hk hp hn g = (s, ⟨r.own, r.their, r.root, r.sk, r.sn, r.tk, r.tn, r.prev, A3p r.sks hk hn⟩, 0, t) := by unfold Q1; rw [h]; dsimp only; rw [h2]
theorem B4X (h : A4d r.sks hk hn = none) (h1 : A1e r hk = true) (h2 : A7O r hp ≠ 0) : Q1 s r w hk hp hn g = ((opA s r hp).1, r, A7O r hp, []) := by unfold Q1; rw [h]; dsimp only; rw [if_pos ⟨h1, h2⟩]
theorem oR_n {x : Ps × Rsd} (h : A4d r.sks hk hn = none) (hx : opB s r hk hp = x) (h1 : A1e r hk = true → A7O r hp = 0) (h2 : ahE x.2.tn hn ≠ 0) : Q1 s r w hk hp hn g = ((opC x hn).1, r, ahE x.2.tn hn, []) := by
  unfold Q1; rw [h]; dsimp only; rw [if_neg (fun h3 => h3.2 (h1 h3.1)), hx, if_pos h2]
theorem B8v {x : Ps × Rsd} (h : A4d r.sks hk hn = none) (hx : opB s r hk hp = x) (h1 : A1e r hk = true → A7O r hp = 0) (h2 : ahE x.2.tn hn = 0) (h3 : A1d (opD x hn) (A7P x hn) (alW w hk hp hn) g = none) : Q1 s r w hk hp hn g = (opD x hn, r, 6, []) := by
  unfold Q1; rw [h]; dsimp only; rw [if_neg (fun h3 => h3.2 (h1 h3.1)), hx, if_neg (fun h => h h2), h3]
theorem A9V {x : Ps × Rsd} (h : A4d r.sks hk hn = none) (hx : opB s r hk hp = x) (h1 : A1e r hk = true → A7O r hp = 0) (h2 : ahE x.2.tn hn = 0) (h3 : A1d (opD x hn) (A7P x hn) (alW w hk hp hn) g = some t) : Q1 s r w hk hp hn g = ((opZ (A1e r hk) (opD x hn) (opG r x hn)).1, (opZ (A1e r hk) (opD x hn) (opG r x hn)).2, 0, t) := by
  unfold Q1; rw [h]; dsimp only; rw [if_neg (fun h3 => h3.2 (h1 h3.1)), hx, if_neg (fun h => h h2), h3]
end
theorem A1v {P : Program} {fn : Func} {l : Env} {R : Mem} {t u x b n : Nat} {ty : TypeId} {cs : List Value} {e : TypeId} {fr : Nat × Nat} {v z : Value} (h : fn.results = #[.cell t ty, .tmp u, .tmp x]) (hv : lk l t = some (vP b)) (hu : lk l u = some v) (hx : lk l x = some z) (ht : A4q P ty = some n)
    (hb : (b, Obj.cells cs.toArray e fr) ∈ R) (hn : cs.length = n) : Res P fn l R (.tuple #[.agg cs.toArray, v, z]) := fun N a w ha hw => by
  obtain ⟨dsc, h1, h2, h3⟩ := L9 ht
  have hl := run_loadVar_row (P := P) w b e ty cs.toArray fr dsc (hw b _ hb) h1 (by cases dsc <;> simp_all [TypeDesc.isRow]) (by rw [h3, ← hn]; simp)
  simp [results, h, ha.slot t _ hv, ha.slot u _ hu, ha.slot x _ hx, asAddr, hl]

theorem B1L {s : Ps} {r : Rsd} {hk : LN} {hp : Nat} (h : A1e r hk = true) : opB s r hk hp = B7H (opA s r hp) r hk := if_pos h
theorem B4Y {s : Ps} {r : Rsd} {hk : LN} {hp : Nat} (h : A1e r hk = false) : opB s r hk hp = (s, r) := if_neg (by rw [h]; decide)
theorem A9W {s : Ps} {r : Rsd} {hp : Nat} (h : r.tk = []) : opA s r hp = (s, r.tk, r.tn, r.sks) := if_pos h
theorem A5T {s : Ps} {r : Rsd} {hp : Nat} (h : r.tk ≠ []) : opA s r hp = ahX s r.tk r.tn hp r.their r.sks := if_neg h
theorem A9X {r : Rsd} {hp : Nat} (h : r.tk = []) : A7O r hp = 0 := if_pos h
theorem A4k {r : Rsd} {hp : Nat} (h : r.tk ≠ []) : A7O r hp = ahE r.tn hp := if_neg h
theorem B4Z {b : Bool} (h : b = true) (s : Ps) (r : Rsd) : opZ b s r = opF s r := if_pos h
theorem B60 {b : Bool} (h : b = false) (s : Ps) (r : Rsd) : opZ b s r = (s, r) := if_neg (by rw [h]; decide)
theorem B44 (s : Ps) (r : Rsd) (hp : Nat) (hN : r.tn < 4294967296) (hn : hp < 4294967296) (hl : r.sks.length ≤ 1000) :
    (opA s r hp).1.ts.length ≤ s.ts.length + 48 ∧ (opA s r hp).1.n = s.n ∧ (opA s r hp).2.2.1 < 4294967296 ∧ (opA s r hp).2.2.2.length ≤ 1000 := by
  unfold opA
  split
  · exact ⟨by dsimp only; omega, rfl, hN, hl⟩
  · exact B4V s r.tk r.tn hp r.their r.sks hN hn hl
theorem len0 {l : LN} : (decide ((l.length : Int) = 0)) = decide (l = []) := by
  cases l with
  | nil => rfl
  | cons a l => simp only [List.length_cons]; rw [decide_eq_false qO, decide_eq_false qM]
set_option maxHeartbeats 2000000 in
theorem B46 (pb : Nat × Nat) (s : Ps) (r : Rsd) (vo vt vr vk vl vs vw vh vg : Value) (w hk g : LN) (hp hn : Nat) (MP A : Mem) (hP : Prm pb s MP) (hl : s.ts.length + 500 ≤ 1000000) (hsn : s.n < 1000000000) (hr : RsR A r vo vt vr vk vl vs) (hw : By A vw w) (hh : By A vh hk) (hwl : w.length + hk.length ≤ 1000000) (hhp : hp < 4294967296) (hhn : hn < 4294967296) (hg : By A vg g) (hgl : g.length ≤ 10000000) (hSel : S0 s.ts) (hK1 : ∀ k, A4d r.sks hk hn = some k → Kok s k) (hS2 : S0 (opD (opB s r hk hp) hn).ts) (hK2 : Kok (opD (opB s r hk hp) hn) (A7P (opB s r hk hp) hn)) (hG : Glb A) : FnX Tryz.prog 67 [.pointer (some ⟨pb.1, 0, none⟩), .agg (rsC vo vt vr vk vl vs r).toArray, vw, .agg #[vh, (vU hp), (vU hn)], vg] MP A fun q M J => ∃ q1 q2, q = .tuple #[q1, q2, .int .i64 (Q1 s r w hk hp hn g).2.2.1] ∧ Prm pb (Q1 s r w hk hp hn g).1 M ∧ RsV (J ++ A) q1 (Q1 s r w hk hp hn g).2.1 ∧ By (J ++ A) q2 (Q1 s r w hk hp hn g).2.2.2 := by
 haveI := hr.own.cel
 haveI := hr.their.cel
 haveI := hr.root.cel
 haveI := hr.sk.cel
 haveI := hr.tk.cel
 haveI := hw.cel
 haveI := hh.cel
 haveI := hg.cel
 have hst := hr.st
 obtain ⟨sb, u0, rows0, rfl, hsb, hrd0, hrw0⟩ := hst
 unfold rsC
 refine FnX.enterZ (N := 181) Tryz.func67 rfl rfl rfl fun w_ => ?_
 refine A8 (G6 0 1 2 3 4) (A1 ?_)
 refine A4 rfl (bx_ fun b6 => ?_)
 refine A4 rfl (bx_ fun b8 => ?_)
 refine A4 rfl (D2 (cs := [vS, vS, vS, vS, E4, vS, E4, E4, .pointer none]) kR rfl fun b10 => ?_)
 refine as_ (as_ (A0 (I7 0 2 4 6 8 10) (A1 (mv_ ?_))))
 refine A2 (qw_ 3) rfl ?_
 refine E0 (aS rfl (aS rfl a0)) kR (A9O vw vh w hk hp hn _ (hw.mono qS) (hh.mono qS) qO hhp hhn) rfl ?_
 rintro v31 M31 J31 ⟨rfl, h31⟩
 haveI := h31.cel
 change By _ v31 (alW w hk hp hn) at h31
 have hal : (alW w hk hp hn).length ≤ 2000000 := by unfold alW; rw [A1p, A1b]; omega
 refine as_ (A0 (I7 0 4 6 8 10 13) (A6 (A1 ?_)))
 refine A2 (qf_ 8 8) rfl ?_
 refine A2 ql_ rfl ?_
 refine A2 (qf_ 0 0) rfl ?_
 refine A2 ql_ rfl ?_
 refine A2 (qf_ 2 2) rfl ?_
 refine A2 ql_ rfl ?_
 refine E0 (aS rfl (aS rfl (aS rfl a0))) kR (B1G sb u0 vh rows0 r.sks hk hn _ (mA hsb) (hrd0.mono qS) (hrw0.mono skT qS) (by have := hr.sks; omega) (hh.mono qS)) rfl ?_
 rintro v39 M39 J39 ⟨rfl, u39, rfl, h39⟩
 haveI := h39.cel
 refine mv_ ?_
 refine A2 (R6 rfl) rfl ?_
 refine A2 (R4 rfl) rfl ?_
 refine as_ (as_ (A0 (A0A 0 4 6 8 10 13 14 15) (A1 (mv_ (A0 (A0A 0 4 6 8 10 13 14 42) ?_)))))
 refine C3 rfl ?_ ?_ <;> intro hc
 ·
  obtain ⟨k, hgk⟩ : ∃ k, A4d r.sks hk hn = some k := Option.isSome_iff_exists.1 hc
  rw [hgk, Option.getD_some] at h39
  refine A1 (mv_ (mv_ (mv_ (mv_ ?_))))
  refine E0 (aS rfl (aS rfl (aS rfl (aS rfl a0)))) kR (A9R pb s u39 v31 vg k (alW w hk hp hn) g MP _ hP (by intro x hx; simp [hx]) qO hSel (h39.mono qS) (h31.mono qS) (hg.mono qS) (hK1 k hgk) qO hG.up) rfl ?_
  rintro v48 M48 J48 ⟨rfl, u48, rfl, h48⟩
  haveI := h48.cel
  refine mv_ ?_
  refine A2 (R6 rfl) rfl ?_
  refine A2 (R4 rfl) rfl ?_
  refine as_ (as_ (A0 (G6 6 8 10 16 17) (A6 (A1 (mv_ ?_)))))
  refine A2 (L6 rfl) rfl ?_
  refine A0 (G6 6 8 10 16 52) ?_
  refine C3 rfl ?_ ?_ <;> intro hc
  ·
   have hno : A1d s k (alW w hk hp hn) g = none := by simpa using hc
   refine A1 ?_
   refine A2 (qw_ 9) rfl ?_
   refine A4 rfl (B8 (vs := [vo, vt, vr, vk, (vU r.sn), vl, (vU r.tn), (vU r.prev), (vP sb)]) rfl rfl rfl kR qR (A3 hr.own.one (A3 hr.their.one (A3 hr.root.one (A3 hr.sk.one (A3 rfl (A3 hr.tk.one al3)))))) UpC.upd ?_)
   refine as_ (as_ (A0 (E5 10 11 12) (A7 (tr (tr ?_)))))
   rw [B6Z hgk hno]
   exact ⟨_, MP, [], A1v (n := 9) rfl rfl rfl rfl kR At.mem qR, Fit.none (Fit.last qP), _, _, rfl, hP, ⟨vo, vt, vr, vk, vl, _, rfl, hr.mono qS⟩, By.nil⟩
  ·
   obtain ⟨t, hot⟩ : ∃ t, A1d s k (alW w hk hp hn) g = some t := by
    cases hq : A1d s k (alW w hk hp hn) g with
    | none => rw [hq] at hc; cases hc
    | some t => exact ⟨t, rfl⟩
   rw [hot, Option.getD_some] at h48
   refine A5 (nx (F4 6 8 10 16) (A1 ?_))
   refine A2 (qw_ 9) rfl ?_
   refine E0 (aS rfl a0) kR (FnX.amb qS (A5S r vo vt vr vk vl _ A hr)) rfl ?_
   rintro v66 M66 J66 ⟨cb, rfl, hSt⟩
   unfold rsC
   refine A4 rfl (D2 (cs := [vS, vS, vS, vS, E4, vS, E4, E4, .pointer none]) kR rfl fun b18 => ?_)
   refine A4 rfl (B8 (vs := [vo, vt, vr, vk, (vU r.sn), vl, (vU r.tn), (vU r.prev), (vP cb)]) rfl rfl rfl kR qR (A3 hr.own.one (A3 hr.their.one (A3 hr.root.one (A3 hr.sk.one (A3 rfl (A3 hr.tk.one al3)))))) UpC.upd ?_)
   refine A0 (F4 8 10 16 18) (A1 ?_)
   refine A2 (qf_ 8 8) rfl ?_
   refine A2 ql_ rfl ?_
   refine A2 (qf_ 0 0) rfl ?_
   refine A2 ql_ rfl ?_
   refine A2 (qf_ 2 2) rfl ?_
   refine A2 ql_ rfl ?_
   refine A4 rfl (A9 (Mc := M66) (R := _) (aS rfl (aS rfl (aS rfl (a0)))) kR qP (A9I cb vh r.sks hk hn A M66 _ hSt qS (by have := hr.sks; omega) hh) rfl ?_)
   rintro v62 M62 J62 ⟨rfl, hSt2⟩
   obtain ⟨u5, rows5, BS5, rfl, hs5, hw5⟩ := hSt2.ex
   have hrd5 := hs5.rd (R := BS5) fun _ h => h
   refine A0 (E5 10 16 18) ?_
   refine V7 (B := (cb, blk [u5] 195) :: BS5) qP ?_
   refine A1 ?_
   refine A2 (qw_ 9) rfl ?_
   refine mv_ ?_
   refine A4 rfl (B8 (vs := [vo, vt, vr, vk, (vU r.sn), vl, (vU r.tn), (vU r.prev), (vP cb)]) rfl rfl rfl kR qR (A3 hr.own.one (A3 hr.their.one (A3 hr.root.one (A3 hr.sk.one (A3 rfl (A3 hr.tk.one al3)))))) UpC.upd ?_)
   refine as_ (as_ (A0 (E5 10 11 12) (A7 (tr ?_))))
   rw [B4W hgk hot]
   exact ⟨_, MP, [], A1v (n := 9) rfl rfl rfl rfl kR At.mem qR, Fit.none (Fit.last qP), _, u48, rfl, hP, ⟨vo, vt, vr, vk, vl, _, rfl, ⟨hr.own.mono qS, hr.their.mono qS, hr.root.mono qS, hr.sk.mono qS, hr.tk.mono qS, ⟨cb, u5, rows5, rfl, by simp, hrd5.mono qS, hw5.mono skT qS⟩, hr.sn, hr.tn, hr.prev, Nat.le_trans (A4c _ _ _) hr.sks⟩⟩, h48.mono qS⟩
 ·
  have hgn : A4d r.sks hk hn = none := by simpa using hc
  refine A5 (nx (I7 0 4 6 8 10 13) (A1 ?_))
  refine A2 (qw_ 9) rfl ?_
  refine E0 (aS rfl a0) kR (FnX.amb qS (A5S r vo vt vr vk vl _ A hr)) rfl ?_
  rintro v66 M66 J66 ⟨cb, rfl, hSt⟩
  unfold rsC
  refine A4 rfl (D2 (cs := [vS, vS, vS, vS, E4, vS, E4, E4, .pointer none]) kR rfl fun b19 => ?_)
  refine A4 rfl (B8 (vs := [vo, vt, vr, vk, (vU r.sn), vl, (vU r.tn), (vU r.prev), (vP cb)]) rfl rfl rfl kR qR (A3 hr.own.one (A3 hr.their.one (A3 hr.root.one (A3 hr.sk.one (A3 rfl (A3 hr.tk.one al3)))))) UpC.upd ?_)
  refine A0 (S9 0 4 6 8 10 13 19) ?_
  refine P2 (α := Mem) (fun _ => [(0, .pointer (some ⟨pb.1, 0, none⟩)), (4, vg), (6, (vP b6)), (8, (vP b8)), (10, (vP b10)), (13, v31), (19, (vP b19)), (20, .bool (A1e r hk))]) (fun _ => [(b19, blk [vo, vt, vr, vk, (vU r.sn), vl, (vU r.tn), (vU r.prev), (vP cb)] 72), (b10, blk [vS, vS, vS, vS, .int .u32 0, vS, .int .u32 0, .int .u32 0, .pointer none] 72), (b8, blk [vh, (vU hp), (vU hn)] 35), (b6, blk [vo, vt, vr, vk, (vU r.sn), vl, (vU r.tn), (vU r.prev), (vP sb)] 72)] ++ (MP ++ M66)) (fun J => J) (fun J => By (J ++ A) v31 (alW w hk hp hn)) ?_ ?_
  ·
   refine C6 ?_
   refine A2 (qf_ 0 0) rfl ?_
   refine A2 ql_ rfl ?_
   refine A2 (qf_ 1 1) rfl ?_
   refine A2 ql_ rfl ?_
   refine D7 (aS rfl (aS rfl a0)) kR (V2 vh vt hk r.their _ (hh.mono qS) (hr.their.mono qS)) rfl ?_
   refine A2 (L6 rfl) rfl ?_
   refine mv_ ?_
   refine H4 (t := 73) rfl (fun hb => ?_) (fun hb => ?_)
   ·
    refine D1 rfl rfl rfl rfl ?_
    refine D1 rfl rfl rfl rfl ?_
    refine D1 rfl rfl rfl rfl ?_
    refine D1 rfl rfl rfl rfl ?_
    refine D1 rfl rfl rfl rfl ?_
    refine A2 (E3 rfl rfl) rfl ?_
    refine as_ (E1 ?_)
    exact jn _ (h31.mono qS) (kq 0 (kq 4 (kq 6 (kq 8 (kq 10 (kq 13 (kq 19 (kp 20 (by unfold A1e; rw [hb]; rfl) kn)))))))) (Fit.pick (B := [(b19, blk [vo, vt, vr, vk, (vU r.sn), vl, (vU r.tn), (vU r.prev), (vP cb)] 72)]) qP (Fit.pick (B := [(b10, blk [vS, vS, vS, vS, .int .u32 0, vS, .int .u32 0, .int .u32 0, .pointer none] 72)]) qP (Fit.pick (B := [(b8, blk [vh, (vU hp), (vU hn)] 35)]) qP (Fit.pick (B := [(b6, blk [vo, vt, vr, vk, (vU r.sn), vl, (vU r.tn), (vU r.prev), (vP sb)] 72)]) qP (Fit.pick (B := MP) qP (Fit.last qP)))))) qI
   ·
    refine C0 rfl rfl (OpQ.opL (qf_ 5 5) rfl ?_)
    refine C0 rfl rfl (OpQ.opL (qf_ 5 0) rfl ?_)
    refine C0 rfl rfl (OpQ.opL ql_ rfl ?_)
    refine C0 rfl rfl (OpQ.opL (E2 (sz := 1) rfl kR hr.tk.rd) rfl ?_)
    refine C0 rfl rfl (OpQ.opL (F3 rfl rfl rfl) rfl ?_)
    refine A2 (C8 rfl rfl) rfl ?_
    refine as_ (E1 ?_)
    exact jn _ (h31.mono qS) (kq 0 (kq 4 (kq 6 (kq 8 (kq 10 (kq 13 (kq 19 (kp 20 (by unfold A1e; rw [hb, Bool.false_or, ← len0]; rfl) kn)))))))) (Fit.pick (B := [(b19, blk [vo, vt, vr, vk, (vU r.sn), vl, (vU r.tn), (vU r.prev), (vP cb)] 72)]) qP (Fit.pick (B := [(b10, blk [vS, vS, vS, vS, .int .u32 0, vS, .int .u32 0, .int .u32 0, .pointer none] 72)]) qP (Fit.pick (B := [(b8, blk [vh, (vU hp), (vU hn)] 35)]) qP (Fit.pick (B := [(b6, blk [vo, vt, vr, vk, (vU r.sn), vl, (vU r.tn), (vU r.prev), (vP sb)] 72)]) qP (Fit.pick (B := MP) qP (Fit.last qP)))))) qI
  ·
   rintro J12 h31
   try dsimp only at h31 ⊢
   haveI := h31.cel
   have hab := B44 s r hp hr.tn hhp hr.sks
   obtain ⟨x, hx0⟩ : ∃ z, opB s r hk hp = z := ⟨_, rfl⟩
   refine P2 (α := Mem × Mem × Mem × Value × Value × Value) (fun y => [(0, .pointer (some ⟨pb.1, 0, none⟩)), (4, vg), (6, (vP b6)), (8, (vP b8)), (10, (vP b10)), (13, v31), (19, (vP b19)), (20, .bool (A1e r hk))]) (fun y => [(b19, blk [vo, y.2.2.2.1, y.2.2.2.2.1, vk, (vU r.sn), y.2.2.2.2.2, (vU x.2.tn), (vU r.prev), (vP cb)] 72), (b10, blk [vS, vS, vS, vS, .int .u32 0, vS, .int .u32 0, .int .u32 0, .pointer none] 72), (b8, blk [vh, (vU hp), (vU hn)] 35), (b6, blk [vo, vt, vr, vk, (vU r.sn), vl, (vU r.tn), (vU r.prev), (vP sb)] 72)] ++ (y.1 ++ y.2.1)) (fun y => y.2.2.1) (fun y => Prm pb x.1 y.1 ∧ Sto (y.2.2.1 ++ A) cb x.2.sks y.2.1 ∧ By (y.2.2.1 ++ A) y.2.2.2.1 x.2.their ∧ By (y.2.2.1 ++ A) y.2.2.2.2.1 x.2.root ∧ By (y.2.2.1 ++ A) y.2.2.2.2.2 x.2.tk ∧ By (y.2.2.1 ++ A) v31 (alW w hk hp hn) ∧ (A1e r hk = true → A7O r hp = 0)) ?_ ?_
   ·
    refine A1 (mv_ (A0 (A3A 0 4 6 8 10 13 19 20 80) ?_))
    refine C3 rfl ?_ ?_ <;> intro hc
    ·
     have hfr : A1e r hk = true := hc
     refine P2 (α := Mem × Mem × Mem × Value) (fun y => [(0, .pointer (some ⟨pb.1, 0, none⟩)), (4, vg), (6, (vP b6)), (8, (vP b8)), (10, (vP b10)), (13, v31), (19, (vP b19)), (20, .bool (A1e r hk))]) (fun y => [(b19, blk [vo, vt, vr, vk, (vU r.sn), y.2.2.2, .int .u32 (((opA s r hp).2.2.1 : Nat) : Int), (vU r.prev), (vP cb)] 72), (b10, blk [vS, vS, vS, vS, .int .u32 0, vS, .int .u32 0, .int .u32 0, .pointer none] 72), (b8, blk [vh, (vU hp), (vU hn)] 35), (b6, blk [vo, vt, vr, vk, (vU r.sn), vl, (vU r.tn), (vU r.prev), (vP sb)] 72)] ++ (y.1 ++ y.2.1)) (fun y => y.2.2.1) (fun y => Prm pb (opA s r hp).1 y.1 ∧ Sto (y.2.2.1 ++ A) cb (opA s r hp).2.2.2 y.2.1 ∧ By (y.2.2.1 ++ A) y.2.2.2 (opA s r hp).2.1 ∧ By (y.2.2.1 ++ A) v31 (alW w hk hp hn) ∧ A7O r hp = 0) ?_ ?_
     ·
      refine A1 ?_
      refine A2 (qf_ 5 5) rfl ?_
      refine A2 (qf_ 5 0) rfl ?_
      refine A2 ql_ rfl ?_
      refine A2 (E2 (sz := 1) rfl kR hr.tk.rd) rfl ?_
      refine A2 (F3 rfl rfl rfl) rfl ?_
      refine A0 (A3A 0 4 6 8 10 13 19 20 85) ?_
      refine C3 rfl ?_ ?_ <;> intro hc
      ·
       have htk : r.tk ≠ [] := by intro e; rw [e] at hc; simp [H8] at hc
       rw [A5T htk, A4k htk] at *
       refine A1 (mv_ ?_)
       refine A2 (qf_ 5 5) rfl ?_
       refine A2 (A15 (n := 2) rfl kR (by first | exact At.mem | exact mA (by assumption)) TakeC.take) rfl ?_
       refine A2 (qf_ 1 1) rfl ?_
       refine A2 ql_ rfl ?_
       refine A2 (qf_ 1 1) rfl ?_
       refine A2 ql_ rfl ?_
       refine A2 (qf_ 8 8) rfl ?_
       refine A2 ql_ rfl ?_
       refine A4 rfl (A9 (Mc := MP ++ M66) (R := _) (aS rfl (aS rfl (aS rfl (aS rfl (aS rfl (a0)))))) kR qP (A9U pb cb s vl vt r.tk r.their r.tn hp r.sks A MP M66 _ hP hSt qS hr.tk hr.their hr.sks hhp qO hG.up) rfl ?_)
       rintro v96 M96 J96 ⟨MP1, MS1, ka, rfl, rfl, hP1, hSt1, ka_⟩
       haveI := ka_.cel
       refine mv_ ?_
       refine A2 (R6 rfl) rfl ?_
       refine A2 (R4 rfl) rfl ?_
       refine A4 rfl (D2 (cs := [vS, .int .u32 0]) kR rfl fun b21 => ?_)
       refine A4 rfl (B8 (vs := [ka, .int .u32 (((ahX s r.tk r.tn hp r.their r.sks).2.2.1 : Nat) : Int)]) rfl rfl rfl kR qR (A3 ka_.one (A3 rfl H9)) UpC.upd ?_)
       refine as_ (A0 (kq 0 (A3A 4 6 8 10 13 19 20 21 22)) (A6 (A1 (mv_ ?_))))
       refine A2 (F3 rfl rfl rfl) rfl ?_
       refine A0 (kq 0 (kq 4 (A3A 6 8 10 13 19 20 21 22 100))) ?_
       refine C3 rfl ?_ ?_ <;> intro hc
       ·
        have hE : ahE r.tn hp ≠ 0 := by intro e; rw [e] at hc; simp [H8] at hc
        refine A1 ?_
        refine A2 (qw_ 9) rfl ?_
        refine mv_ ?_
        refine A4 rfl (B8 (vs := [vo, vt, vr, vk, (vU r.sn), vl, (vU r.tn), (vU r.prev), (vP sb)]) rfl rfl rfl kR qR (A3 hr.own.one (A3 hr.their.one (A3 hr.root.one (A3 hr.sk.one (A3 rfl (A3 hr.tk.one al3)))))) UpC.upd ?_)
        refine as_ (as_ (A0 (E5 10 11 12) (A7 (tr (jr (jr ?_))))))
        rw [B4X hgn hfr (by rw [A4k htk]; exact hE), A4k htk, A5T htk]
        exact ⟨_, MP1, [], A1v (n := 9) rfl rfl rfl rfl kR At.mem qR, Fit.none (Fit.last qP), _, _, rfl, hP1, ⟨vo, vt, vr, vk, vl, _, rfl, hr.mono qS⟩, By.nil⟩
       ·
        have hE : ahE r.tn hp = 0 := by simpa [H8] using hc
        refine A5 (nx (A3A 0 4 6 8 10 13 19 20 21) (C6 ?_))
        refine A2 (qw_ 2) rfl ?_
        refine A2 (qf_ 5 5) rfl ?_
        refine A4 rfl (K9 (vs := [ka, .int .u32 (((ahX s r.tk r.tn hp r.their r.sks).2.2.1 : Nat) : Int)]) (cs' := [vo, vt, vr, vk, (vU r.sn), ka, .int .u32 (((ahX s r.tk r.tn hp r.their r.sks).2.2.1 : Nat) : Int), (vU r.prev), (vP cb)]) rfl rfl rfl kR (by exact (show 5 + 2 ≤ 9 by decide)) (A3 ka_.one (A3 rfl H9)) rfl UpC.upd ?_)
        refine E1 ?_
        exact jn (MP1, MS1, J96 ++ J12, ka) ⟨hP1, hSt1.mono qS, ka_.mono qS, h31.mono qS, hE⟩ (A0A 0 4 6 8 10 13 19 20) (Fit.pick (B := [(b19, blk [vo, vt, vr, vk, (vU r.sn), ka, .int .u32 (((ahX s r.tk r.tn hp r.their r.sks).2.2.1 : Nat) : Int), (vU r.prev), (vP cb)] 72)]) qP (Fit.pick (B := [(b10, blk [vS, vS, vS, vS, .int .u32 0, vS, .int .u32 0, .int .u32 0, .pointer none] 72)]) qP (Fit.pick (B := [(b8, blk [vh, (vU hp), (vU hn)] 35)]) qP (Fit.pick (B := [(b6, blk [vo, vt, vr, vk, (vU r.sn), vl, (vU r.tn), (vU r.prev), (vP sb)] 72)]) qP (Fit.pick (B := MP1) qP (Fit.last qP)))))) qI
      ·
       have htk : r.tk = [] := by cases hq : r.tk with | nil => rfl | cons a l => rw [hq] at hc; simp [H8] at hc
       refine A5 ?_
       rw [A9W htk, A9X htk]
       exact jn (MP, M66, J12, vl) ⟨hP, hSt.mono qS, hr.tk.mono qS, h31, rfl⟩ (A0A 0 4 6 8 10 13 19 20) (Fit.pick (B := [(b19, blk [vo, vt, vr, vk, (vU r.sn), vl, (vU r.tn), (vU r.prev), (vP cb)] 72)]) qP (Fit.pick (B := [(b10, blk [vS, vS, vS, vS, .int .u32 0, vS, .int .u32 0, .int .u32 0, .pointer none] 72)]) qP (Fit.pick (B := [(b8, blk [vh, (vU hp), (vU hn)] 35)]) qP (Fit.pick (B := [(b6, blk [vo, vt, vr, vk, (vU r.sn), vl, (vU r.tn), (vU r.prev), (vP sb)] 72)]) qP (Fit.pick (B := MP) qP (Fit.last qP)))))) qI
     ·
      rintro ⟨MP1, MS1, J18, ka⟩ ⟨hP1, hSt1, ka_, h31, hAE⟩
      dsimp only at hP1 hSt1 ka_ h31 ⊢
      haveI := h31.cel
      haveI := ka_.cel
      obtain ⟨xa, hxa⟩ : ∃ z, opA s r hp = z := ⟨_, rfl⟩
      rw [hxa] at hP1 hSt1 ka_ hab ⊢
      have htl := A1S xa.1 r.root r.own hk
      refine A1 (mv_ ?_)
      refine A2 (qf_ 2 2) rfl ?_
      refine A2 ql_ rfl ?_
      refine A2 (qf_ 0 0) rfl ?_
      refine A2 ql_ rfl ?_
      refine A2 (qf_ 0 0) rfl ?_
      refine A2 ql_ rfl ?_
      refine A4 rfl (A9 (Mc := MP1) (R := _) (aS rfl (aS rfl (aS rfl (aS rfl (a0))))) kR qP (A9M pb xa.1 vr vo vh r.root r.own hk MP1 _ hP1 qO (hr.root.mono qS) (hr.own.mono qS) (hh.mono qS) hG.up) rfl ?_)
      rintro v113 M113 J113 ⟨y0, y1, rfl, hP113, gy0, gy1⟩
      haveI := gy0.cel
      haveI := gy1.cel
      refine mv_ ?_
      refine A2 (R6 rfl) rfl ?_
      refine A2 (R4 rfl) rfl ?_
      refine A2 (qf_ 2 2) rfl ?_
      refine A4 rfl (F8 rfl rfl gy0.one kR SetC.set UpC.upd ?_)
      refine A2 (qf_ 5 5) rfl ?_
      refine A4 rfl (K9 (vs := [y1, (vU 0)]) (cs' := [vo, vt, y0, vk, (vU r.sn), y1, (vU 0), (vU r.prev), (vP cb)]) rfl rfl rfl kR (by exact (show 5 + 2 ≤ 9 by decide)) (A3 gy1.one (A3 rfl H9)) rfl UpC.upd ?_)
      refine A0 (A0A 0 4 6 8 10 13 19 20) (C6 ?_)
      refine A2 (qf_ 0 0) rfl ?_
      refine A2 ql_ rfl ?_
      refine E0 (aS rfl a0) kR (K6 vh hk _ (hh.mono qS)) rfl ?_
      rintro v120 M120 J120 ⟨rfl, h120⟩
      haveI := h120.cel
      refine A2 (qf_ 1 1) rfl ?_
      refine A4 rfl (F8 rfl rfl h120.one kR SetC.set UpC.upd ?_)
      refine E1 ?_
      have e : x = B7H xa r hk := by rw [← hx0, B1L hfr, hxa]
      rw [e]
      exact jn (M113, MS1, J120 ++ (J113 ++ J18), v120, y0, y1) ⟨hP113, hSt1.mono qS, h120.mono qS, gy0.mono qS, gy1.mono qS, h31.mono qS, fun _ => hAE⟩ (A0A 0 4 6 8 10 13 19 20) (Fit.pick (B := [(b19, blk [vo, v120, y0, vk, (vU r.sn), y1, (vU 0), (vU r.prev), (vP cb)] 72)]) qP (Fit.pick (B := [(b10, blk [vS, vS, vS, vS, .int .u32 0, vS, .int .u32 0, .int .u32 0, .pointer none] 72)]) qP (Fit.pick (B := [(b8, blk [vh, (vU hp), (vU hn)] 35)]) qP (Fit.pick (B := [(b6, blk [vo, vt, vr, vk, (vU r.sn), vl, (vU r.tn), (vU r.prev), (vP sb)] 72)]) qP (Fit.pick (B := M113) qP (Fit.last qP)))))) qI
    ·
     have hfr : A1e r hk = false := hc
     refine A5 ?_
     have e : x = (s, r) := by rw [← hx0, B4Y hfr]
     rw [e]
     exact jn (MP, M66, J12, vt, vr, vl) ⟨hP, hSt.mono qS, hr.their.mono qS, hr.root.mono qS, hr.tk.mono qS, h31, fun h => by rw [hfr] at h; cases h⟩ (A0A 0 4 6 8 10 13 19 20) (Fit.pick (B := [(b19, blk [vo, vt, vr, vk, (vU r.sn), vl, (vU r.tn), (vU r.prev), (vP cb)] 72)]) qP (Fit.pick (B := [(b10, blk [vS, vS, vS, vS, .int .u32 0, vS, .int .u32 0, .int .u32 0, .pointer none] 72)]) qP (Fit.pick (B := [(b8, blk [vh, (vU hp), (vU hn)] 35)]) qP (Fit.pick (B := [(b6, blk [vo, vt, vr, vk, (vU r.sn), vl, (vU r.tn), (vU r.prev), (vP sb)] 72)]) qP (Fit.pick (B := MP) qP (Fit.last qP)))))) qI
   ·
    have hxb : x.1.ts.length ≤ s.ts.length + 55 ∧ x.1.n = s.n ∧ x.2.tn < 4294967296 ∧ x.2.sks.length ≤ 1000 := by
     have hab := B44 s r hp hr.tn hhp hr.sks
     have htl := A1S (opA s r hp).1 r.root r.own hk
     cases hf : A1e r hk with
     | true => rw [← hx0, B1L hf]; exact ⟨by show (A4h _ _ _ _).ts.length ≤ _; omega, htl.2.trans hab.2.1, (show 0 < 4294967296 by decide), hab.2.2.2⟩
     | false => rw [← hx0, B4Y hf]; exact ⟨Nat.le_add_right _ _, rfl, hr.tn, hr.sks⟩
    have hcb := B4V x.1 x.2.tk x.2.tn hn x.2.their x.2.sks hxb.2.2.1 hhn hxb.2.2.2
    change (opC x hn).1.ts.length ≤ _ ∧ (opC x hn).1.n = _ ∧ (opC x hn).2.2.1 < _ ∧ (opC x hn).2.2.2.length ≤ _ at hcb
    have hsl := X2 (opC x hn).1 (opC x hn).2.1
    change (opD x hn).ts.length ≤ _ ∧ (opD x hn).n = _ ∧ _ at hsl
    have hfl := A4e (opD x hn)
    rintro ⟨MP2, MS2, J20, zt, zr, zk⟩ ⟨hP2, hSt2, zt_, zr_, zk_, h31, hF0⟩
    dsimp only at hP2 hSt2 zt_ zr_ zk_ h31 ⊢
    haveI := h31.cel
    haveI := zt_.cel
    haveI := zr_.cel
    haveI := zk_.cel
    refine A1 (mv_ ?_)
    refine A2 (qf_ 5 5) rfl ?_
    refine A2 (A15 (n := 2) rfl kR (by first | exact At.mem | exact mA (by assumption)) TakeC.take) rfl ?_
    refine A2 (qf_ 1 1) rfl ?_
    refine A2 ql_ rfl ?_
    refine A2 (qf_ 2 2) rfl ?_
    refine A2 ql_ rfl ?_
    refine A2 (qf_ 8 8) rfl ?_
    refine A2 ql_ rfl ?_
    refine A4 rfl (A9 (Mc := MP2 ++ MS2) (R := _) (aS rfl (aS rfl (aS rfl (aS rfl (aS rfl (a0)))))) kR qP (A9U pb cb x.1 zk zt x.2.tk x.2.their x.2.tn hn x.2.sks (J20 ++ A) MP2 MS2 _ hP2 hSt2 qS zk_ zt_ hxb.2.2.2 hhn qO hG.up) rfl ?_)
    rintro v132 M132 J132 ⟨MP3, MS3, kv, rfl, rfl, hP3, hSt3, gkv⟩
    haveI := gkv.cel
    change Prm pb (opC x hn).1 MP3 at hP3
    change Sto _ cb (opC x hn).2.2.2 MS3 at hSt3
    change By _ kv (opC x hn).2.1 at gkv
    change XL _ _ _ _ ((132, .tuple #[.agg #[kv, .int .u32 (((opC x hn).2.2.1 : Nat) : Int)], .int .i64 (ahE x.2.tn hn)]) :: _) _ _
    refine mv_ ?_
    refine A2 (R6 rfl) rfl ?_
    refine A2 (R4 rfl) rfl ?_
    refine A4 rfl (D2 (cs := [vS, .int .u32 0]) kR rfl fun b23 => ?_)
    refine A4 rfl (B8 (vs := [kv, .int .u32 (((opC x hn).2.2.1 : Nat) : Int)]) rfl rfl rfl kR qR (A3 gkv.one (A3 rfl H9)) UpC.upd ?_)
    refine as_ (A0 (A3A 0 4 6 10 13 19 20 23 24) (A6 (A1 (mv_ ?_))))
    refine A2 (F3 rfl rfl rfl) rfl ?_
    refine A0 (kq 0 (A3A 4 6 10 13 19 20 23 24 136)) ?_
    refine C3 rfl ?_ ?_ <;> intro hc
    ·
     have hE2 : ahE x.2.tn hn ≠ 0 := by intro e; rw [e] at hc; simp [H8] at hc
     refine A1 ?_
     refine A2 (qw_ 9) rfl ?_
     refine mv_ ?_
     refine A4 rfl (B8 (vs := [vo, vt, vr, vk, (vU r.sn), vl, (vU r.tn), (vU r.prev), (vP sb)]) rfl rfl rfl kR qR (A3 hr.own.one (A3 hr.their.one (A3 hr.root.one (A3 hr.sk.one (A3 rfl (A3 hr.tk.one al3)))))) UpC.upd ?_)
     refine as_ (as_ (A0 (E5 10 11 12) (A7 (tr ?_))))
     rw [oR_n hgn hx0 hF0 hE2]
     exact ⟨_, MP3, [], A1v (n := 9) rfl rfl rfl rfl kR At.mem qR, Fit.none (Fit.last qP), _, _, rfl, hP3, ⟨vo, vt, vr, vk, vl, _, rfl, hr.mono qS⟩, By.nil⟩
    ·
     have hE2 : ahE x.2.tn hn = 0 := by simpa [H8] using hc
     refine A5 (nx (A0A 0 4 6 10 13 19 20 23) (A1 (mv_ ?_)))
     refine A2 (qw_ 2) rfl ?_
     refine A4 rfl (A9 (Mc := MP3) (R := _) (aS rfl (aS rfl (a0))) kR qP (A2I pb (opC x hn).1 kv (opC x hn).2.1 (opC x hn).2.2.1 MP3 _ hP3 (gkv.mono qS) qO hG.up) rfl ?_)
     rintro v142 M142 J142 ⟨k1, k2, rfl, hP142, gk1, gk2⟩
     haveI := gk1.cel
     haveI := gk2.cel
     change Prm pb (opD x hn) M142 at hP142
     change By _ k1 (A7P x hn) at gk1
     refine mv_ ?_
     refine A2 (R6 rfl) rfl ?_
     refine A2 (R4 rfl) rfl ?_
     refine A4 rfl (D2 (cs := [vS, .int .u32 0]) kR rfl fun b26 => ?_)
     refine as_ ?_
     refine A4 rfl (B8 (vs := [k2, .int .u32 ((((opC x hn).2.2.1 + 1) % 4294967296 : Nat) : Int)]) rfl rfl rfl kR qR (A3 gk2.one (A3 rfl H9)) UpC.upd ?_)
     refine A0 (A3A 0 4 6 10 13 19 20 25 26) (A1 (mv_ (mv_ (mv_ (mv_ ?_)))))
     refine E0 (aS rfl (aS rfl (aS rfl (aS rfl a0)))) kR (A9R pb (opD x hn) k1 v31 vg (A7P x hn) (alW w hk hp hn) g M142 _ hP142 (by intro x hx; simp [hx]) qO (hx0 ▸ hS2) (gk1.mono qS) (h31.mono qS) (hg.mono qS) (hx0 ▸ hK2) qO hG.up) rfl ?_
     rintro v150 M150 J150 ⟨rfl, u150, rfl, h150⟩
     haveI := h150.cel
     refine mv_ ?_
     refine A2 (R6 rfl) rfl ?_
     refine A2 (R4 rfl) rfl ?_
     refine as_ (as_ (A0 (A0A 0 6 10 19 20 26 27 28) (A6 (A1 (mv_ ?_)))))
     refine A2 (L6 rfl) rfl ?_
     refine A0 (A0A 0 6 10 19 20 26 27 154) ?_
     refine C3 rfl ?_ ?_ <;> intro hc
     ·
      have hno : A1d (opD x hn) (A7P x hn) (alW w hk hp hn) g = none := by simpa using hc
      refine A1 ?_
      refine A2 (qw_ 9) rfl ?_
      refine A4 rfl (B8 (vs := [vo, vt, vr, vk, (vU r.sn), vl, (vU r.tn), (vU r.prev), (vP sb)]) rfl rfl rfl kR qR (A3 hr.own.one (A3 hr.their.one (A3 hr.root.one (A3 hr.sk.one (A3 rfl (A3 hr.tk.one al3)))))) UpC.upd ?_)
      refine as_ (as_ (A0 (E5 10 11 12) (A7 (tr ?_))))
      rw [B8v hgn hx0 hF0 hE2 hno]
      exact ⟨_, M142, [], A1v (n := 9) rfl rfl rfl rfl kR At.mem qR, Fit.none (Fit.last qP), _, _, rfl, hP142, ⟨vo, vt, vr, vk, vl, _, rfl, hr.mono qS⟩, By.nil⟩
     ·
      obtain ⟨t, hot⟩ : ∃ t, A1d (opD x hn) (A7P x hn) (alW w hk hp hn) g = some t := by
       cases hq : A1d (opD x hn) (A7P x hn) (alW w hk hp hn) g with
       | none => rw [hq] at hc; cases hc
       | some t => exact ⟨t, rfl⟩
      rw [hot, Option.getD_some] at h150
      refine A5 (nx (I7 0 10 19 20 26 27) (A1 ?_))
      refine A2 (qw_ 2) rfl ?_
      refine A2 (qf_ 5 5) rfl ?_
      refine A4 rfl (K9 (vs := [k2, .int .u32 ((((opC x hn).2.2.1 + 1) % 4294967296 : Nat) : Int)]) (cs' := [vo, zt, zr, vk, (vU r.sn), k2, .int .u32 ((((opC x hn).2.2.1 + 1) % 4294967296 : Nat) : Int), (vU r.prev), (vP cb)]) rfl rfl rfl kR (by exact (show 5 + 2 ≤ 9 by decide)) (A3 gk2.one (A3 rfl H9)) rfl UpC.upd ?_)
      refine A0 (G6 0 10 19 20 27) (A6 (A1 (mv_ (A0 (G6 0 10 19 27 158) ?_))))
      refine C3 rfl ?_ ?_ <;> intro hc
      ·
       have hf : A1e r hk = true := hc
       refine E6 (M142) (_) true [0, 1, 2, 3, 4, 5, 7] [(0, 0), (1, 0), (2, 1), (3, 0), (5, 0), (4, 2), (6, 2), (7, 0), (8, 2)] kR kR qP fun hs K n0 hKm hKs hKn => ?_
       refine F1 hs rfl (qf_ 3 3) rfl ?_
       refine F1 hs rfl (qf_ 4 1) rfl ?_
       refine I1 hs rfl hKs ql_ ?_
       refine km_ hs ?_
       refine F1 hs rfl (qf_ 7 7) rfl ?_
       refine F9 _ _ rfl rfl (List.Perm.refl _) hKm fun w0 => (A9 (Mc := M142) (R := _) (aS rfl (a0)) kR qP (R7 pb (opD x hn) M142 _ hP142 qO qO hG.up) rfl ?_)
       rintro v163 M163 J163 ⟨hP163, h163⟩ hKx163
       haveI := h163.cel
       refine K2 rfl rfl rfl (F8 rfl rfl rfl kR SetC.set UpC.upd ?_)
       refine F1 hs rfl (qf_ 0 0) rfl ?_
       refine K2 rfl rfl rfl (F8 rfl rfl h163.one kR SetC.set UpC.upd ?_)
       refine G7 (F4 0 10 19 27) (C6 (mv_ ?_))
       refine A2 (qf_ 2 2) rfl ?_
       refine A2 ql_ rfl ?_
       refine A2 (qf_ 0 0) rfl ?_
       refine A2 ql_ rfl ?_
       refine A2 (qf_ 1 1) rfl ?_
       refine A2 ql_ rfl ?_
       refine A4 rfl (A9 (Mc := M163) (R := _) (aS rfl (aS rfl (aS rfl (aS rfl (a0))))) kR qP (A9M pb (D4 (opD x hn)) zr v163 zt x.2.root (D9 (opD x hn)) x.2.their M163 _ hP163 qO (zr_.mono qS) (h163.mono qS) (zt_.mono qS) hG.up) rfl ?_)
       rintro v174 M174 J174 ⟨c0, c1, rfl, hP174, gc0, gc1⟩
       haveI := gc0.cel
       haveI := gc1.cel
       refine mv_ ?_
       refine A2 (R6 rfl) rfl ?_
       refine A2 (R4 rfl) rfl ?_
       refine A2 (qf_ 2 2) rfl ?_
       refine A4 rfl (F8 rfl rfl gc0.one kR SetC.set UpC.upd ?_)
       refine A2 (qf_ 3 3) rfl ?_
       refine A4 rfl (K9 (vs := [c1, (vU 0)]) (cs' := [v163, zt, c0, c1, (vU 0), k2, .int .u32 ((((opC x hn).2.2.1 + 1) % 4294967296 : Nat) : Int), (vU r.sn), (vP cb)]) rfl rfl rfl kR (by exact (show 3 + 2 ≤ 9 by decide)) (A3 gc1.one (A3 rfl H9)) rfl UpC.upd ?_)
       refine A0 (E5 10 19 27) ?_
       obtain ⟨u5, rows5, BS5, rfl, hs5, hw5⟩ := hSt3.ex
       have hrd5 := hs5.rd (R := BS5) fun _ h => h
       refine V7 (B := (cb, blk [u5] 195) :: BS5) qP ?_
       refine A1 ?_
       refine A2 (qw_ 9) rfl ?_
       refine mv_ ?_
       refine A4 rfl (B8 (vs := [v163, zt, c0, c1, (vU 0), k2, .int .u32 ((((opC x hn).2.2.1 + 1) % 4294967296 : Nat) : Int), (vU r.sn), (vP cb)]) rfl rfl rfl kR qR (A3 h163.one (A3 zt_.one (A3 gc0.one (A3 gc1.one (A3 rfl (A3 gk2.one al3)))))) UpC.upd ?_)
       refine as_ (as_ (A0 (E5 10 11 12) (A7 ?_)))
       rw [A9V hgn hx0 hF0 hE2 hot, B4Z hf]
       exact ⟨_, M174, [], A1v (n := 9) rfl rfl rfl rfl kR At.mem qR, Fit.none (Fit.last qP), _, u150, rfl, hP174, ⟨v163, zt, c0, c1, k2, _, rfl, ⟨h163.mono qS, zt_.mono qS, gc0.mono qS, gc1.mono qS, gk2.mono qS, ⟨cb, u5, rows5, rfl, by simp, hrd5.mono qS, hw5.mono skT qS⟩, (show 0 < 4294967296 by decide), Nat.mod_lt _ qD, hr.sn, hcb.2.2.2⟩⟩, h150.mono qS⟩
      ·
       have hf : A1e r hk = false := hc
       refine A5 (nx (E5 10 19 27) ?_)
       obtain ⟨u5, rows5, BS5, rfl, hs5, hw5⟩ := hSt3.ex
       have hrd5 := hs5.rd (R := BS5) fun _ h => h
       refine V7 (B := (cb, blk [u5] 195) :: BS5) qP ?_
       refine A1 ?_
       refine A2 (qw_ 9) rfl ?_
       refine mv_ ?_
       refine A4 rfl (B8 (vs := [vo, zt, zr, vk, (vU r.sn), k2, .int .u32 ((((opC x hn).2.2.1 + 1) % 4294967296 : Nat) : Int), (vU r.prev), (vP cb)]) rfl rfl rfl kR qR (A3 hr.own.one (A3 zt_.one (A3 zr_.one (A3 hr.sk.one (A3 rfl (A3 gk2.one al3)))))) UpC.upd ?_)
       refine as_ (as_ (A0 (E5 10 11 12) (A7 ?_)))
       rw [A9V hgn hx0 hF0 hE2 hot, B60 hf]
       exact ⟨_, M142, [], A1v (n := 9) rfl rfl rfl rfl kR At.mem qR, Fit.none (Fit.last qP), _, u150, rfl, hP142, ⟨vo, zt, zr, vk, k2, _, rfl, ⟨hr.own.mono qS, zt_.mono qS, zr_.mono qS, hr.sk.mono qS, gk2.mono qS, ⟨cb, u5, rows5, rfl, by simp, hrd5.mono qS, hw5.mono skT qS⟩, hr.sn, Nat.mod_lt _ qD, hr.prev, hcb.2.2.2⟩⟩, h150.mono qS⟩

theorem StF.cel {R : Mem} {v : Value} {sks : List Skp} (h : StF R v sks) : Cel v [v] := by obtain ⟨sb, u, rows, rfl, _⟩ := h; infer_instance
def B48 : LN := [115, 101, 115, 115, 105, 111, 110]
structure Ses where
  id : LN
  wi : LN
  he : He
  tell : Bool
  r : Rsd
def seC (vi vw p r u vo vt vr vk vl vs : Value) (x : Ses) : List Value := [vi, vw, p, r, u, (vU x.he.signed), .bool x.he.has, (vU x.he.once), .bool x.tell, vo, vt, vr, vk, (vU x.r.sn), vl, (vU x.r.tn), (vU x.r.prev), vs]
structure SeR (R : Mem) (x : Ses) (vi vw p r u vo vt vr vk vl vs : Value) : Prop where
  id : By R vi x.id
  wi : By R vw x.wi
  he : HeR R x.he p r u
  hil : x.he.ig.length ≤ 1000000
  r : RsR R x.r vo vt vr vk vl vs
theorem SeR.mono {R R' : Mem} {x : Ses} {vi vw p r u vo vt vr vk vl vs : Value} (h : SeR R x vi vw p r u vo vt vr vk vl vs) (hR : ∀ z, z ∈ R → z ∈ R') : SeR R' x vi vw p r u vo vt vr vk vl vs := ⟨h.id.mono hR, h.wi.mono hR, h.he.mono hR, h.hil, h.r.mono hR⟩
theorem B1M (v : Value) (w : LN) (A : Mem) (h : By A v w) : FnX Tryz.prog 47 [v] [] A fun r M J => Sl 1 r w.length (I3 .u8 w) M := by
 haveI := h.cel
 have hwl := h.len
 refine FnX.enterZ (N := 8) Tryz.func47 rfl rfl rfl fun w_ => ?_
 refine A8 (C7 0) (A1 (as_ (A0 (C7 0) (A6 (A1 (mv_ ?_))))))
 refine A2 (Z2 (e := 5) rfl kR (by first | assumption | exact Sl.rd (by assumption) qI | exact By.rd (by assumption))) rfl ?_
 refine A0 (D0 0 4) ?_
 refine C3 rfl ?_ ?_ <;> intro hc
 ·
  have h0 := h.rd.isNil hc
  obtain rfl : w = [] := List.eq_nil_of_length_eq_zero h0
  refine A1 (as_ (A0 (C7 2) (A7 (tr ?_))))
  exact ⟨_, [], [], F7 rfl rfl, qZ, Sl.nil⟩
 ·
  refine A5 (nx (C7 0) (A1 ?_))
  refine A4 rfl (C4 (e := 5) (sz := 1) (z := []) kR e0 bd0 rfl fun b5 => ?_)
  refine mv_ ?_
  refine A4 rfl (F6 (e := 5) (sz := 1) (by_ := 1) rfl rfl kR rfl (Sl.fresh (n := 0) (cs := []) (e := 5) rfl qD) (h.rd.mono qS) T1 qP (by unfold maxLen; omega) qO rfl fun v7 B7 hs7 => ?_)
  refine as_ (A0 (C7 2) (A7 ?_))
  exact ⟨_, B7, [], F7 rfl rfl, Fit.none (Fit.last qP), A73 hs7 qO qM⟩
theorem A9Y (pb : Nat × Nat) (s : Ps) (vw : Value) (w : LN) (h : He) (p r u : Value) (MP A : Mem) (hP : Prm pb s MP) (hn : s.ts.length ≤ 1040000) (hw : By A vw w) (gh : HeR A h p r u) (hil : h.ig.length ≤ 1000000) (hl : h.ia.length + h.ig.length + h.key.length ≤ 1000000) (hG : Glb A) : FnX Tryz.prog 64 [.pointer (some ⟨pb.1, 0, none⟩), vw, .agg (heC p r u h).toArray] MP A fun q M J => Prm pb (A4a s [B48, w, heW [] h]) M ∧ By J q (A1z s [B48, w, heW [] h]) := by
 obtain ⟨bt, bm, hPT⟩ := hP.t
 haveI := hw.cel
 haveI := gh.ia.cel
 haveI := gh.ig.cel
 haveI := gh.key.cel
 unfold heC
 refine FnX.enterZ (N := 15) Tryz.func64 rfl rfl rfl fun w_ => ?_
 refine A8 (E5 0 1 2) (A1 ?_)
 refine A4 rfl (bx_ fun b5 => ?_)
 refine as_ (A0 (E5 0 1 5) (A1 (mv_ ?_)))
 refine A4 rfl (C4 (e := 5) (sz := 1) (z := [zu8, zu8, zu8, zu8, zu8, zu8, zu8]) kR (eS rfl (eS rfl (eS rfl (eS rfl (eS rfl (eS rfl (eS rfl e0))))))) (bdS 0 1 rfl qR (bdS 1 1 rfl qR (bdS 2 1 rfl qR (bdS 3 1 rfl qR (bdS 4 1 rfl qR (bdS 5 1 rfl qR (bdS 6 1 rfl qR bd0))))))) rfl fun b8 => ?_)
 refine A4 rfl (A53 rfl kR UpC.upd rfl ?_)
 refine A28 (B := [_]) (PickC.sing).perm ?_
 refine mv_ ?_
 refine A2 (E7 (n := 6) (vs := [p, r, u, (vU h.signed), .bool h.has, (vU h.once)]) rfl kR At.mem rfl (D3 [] [p, r, u, (vU h.signed), .bool h.has, (vU h.once)] [])) rfl ?_
 refine E0 (aS rfl a0) kR (B4s h p r u _ (gh.mono qS) qO) rfl ?_
 rintro v12 M12 J12 ⟨rfl, h12⟩
 haveI := h12.cel
 refine A4 rfl (C4 (e := 22) (sz := 1) (z := [vS, vS, vS]) kR (eS rfl (eS rfl (eS rfl e0))) (bdS 0 1 rfl qR (bdS 1 1 rfl qR (bdS 2 1 rfl qR bd0))) rfl fun b13 => ?_)
 refine A4 rfl (A9 (Mc := MP) (R := _) (aS rfl (aS rfl (a0))) kR qP (B6T pb bt bm s rfl _ [B48, w, heW [] h] MP _ hPT qO ⟨_, Rd.whole (n := 3) At.mem qR, Lst.cons ⟨Rd.whole (n := 7) (cs := I3 .u8 B48) At.mem qR, by decide, by decide⟩ (Lst.cons (hw.mono qS) (Lst.cons (h12.mono qS) Lst.nil))⟩ (show 3 ≤ 1000 by decide) (fun z hz => by simp only [List.mem_cons, List.not_mem_nil, or_false] at hz; rcases hz with rfl | rfl | rfl; decide; exact hw.lt; exact h12.lt) hG.up) rfl ?_)
 rintro v14 M14 J14 ⟨hP14, h14⟩
 haveI := h14.cel
 refine as_ (A0 (C7 6) (A7 ?_))
 exact ⟨_, M14, [], F7 rfl rfl, Fit.none (Fit.last qP), hP14.p, h14.mono qS⟩
theorem A6P (x : Ses) (vi vw p0 r0 u0 vo vt vr vk0 vl vst : Value) (e : Ev) (vs p r u vk vg : Value) (A : Mem) (hx : SeR A x vi vw p0 r0 u0 vo vt vr vk0 vl vst) (he_ : EvR A e vs p r u vk vg) (hwi : x.wi.length ≤ 1000000) (hl : e.ses.length + e.he.ia.length + e.he.ig.length + e.he.key.length ≤ 1000000) : FnX Tryz.prog 68 [.agg (seC vi vw p0 r0 u0 vo vt vr vk0 vl vst x).toArray, .agg (evC vs p r u vk vg e).toArray] [] A fun q M J => M = [] ∧ By J q (x.wi ++ frW [] e) := by
 haveI := he_.ses.cel
 haveI := he_.he.ia.cel
 haveI := he_.he.ig.cel
 haveI := he_.he.key.cel
 haveI := he_.hk.cel
 haveI := he_.g.cel
 haveI := hx.id.cel
 haveI := hx.wi.cel
 haveI := hx.he.ia.cel
 haveI := hx.he.ig.cel
 haveI := hx.he.key.cel
 haveI := hx.r.own.cel
 haveI := hx.r.their.cel
 haveI := hx.r.root.cel
 haveI := hx.r.sk.cel
 haveI := hx.r.tk.cel
 haveI := hx.r.st.cel
 unfold seC evC
 refine FnX.enterZ (N := 11) Tryz.func68 rfl rfl rfl fun w_ => ?_
 refine A8 (D0 0 1) (A1 ?_)
 refine A4 rfl (bx_ fun b2 => ?_)
 refine A4 rfl (bx_ fun b3 => ?_)
 refine as_ (A0 (D0 2 3) ?_)
 refine G5 [0, 1, 2, 3, 4, 6] [(0, 0), (1, 1), (3, 1), (2, 2), (4, 2), (5, 2), (6, 0)] kR kR fun hs => ?_
 refine E8 hs rfl (qf_ 1 1) rfl ?_
 refine R5 hs rfl ql_ rfl ?_
 refine R5 hs rfl (E7 (n := 16) (vs := [.int .i64 e.fu, .int .i64 e.fd, .int .i64 e.tu, .int .i64 e.td, vs, .bool e.has, p, r, u, (vU e.he.signed), .bool e.he.has, (vU e.he.once), vk, (vU e.hp), (vU e.hn), vg]) rfl kR At.mem rfl (D3 [] [.int .i64 e.fu, .int .i64 e.fd, .int .i64 e.tu, .int .i64 e.td, vs, .bool e.has, p, r, u, (vU e.he.signed), .bool e.he.has, (vU e.he.once), vk, (vU e.hp), (vU e.hn), vg] [])) rfl ?_
 refine Y9 rfl (aS rfl a0) kR (B1M vw x.wi _ (hx.wi.mono qS)) rfl ?_
 rintro v7 M7 J7 hs7
 haveI := hs7.cel
 refine Y9 rfl (aS rfl a0) kR (B4t e vs p r u vk vg _ (he_.mono qS) qO) rfl ?_
 rintro v9 M9 J9 ⟨rfl, h9⟩
 haveI := h9.cel
 have h9l := A5O [] e
 have hwl := hx.wi.len
 refine L7 rfl rfl rfl (F6 (e := 5) (sz := 1) (by_ := 1) rfl rfl kR rfl hs7 (h9.rd.mono qS) T1 qP (by unfold maxLen; simp at h9l; omega) (by simp at h9l; omega) rfl fun v10 B10 hs10 => ?_)
 haveI := hs10.cel
 refine fa_ hs ?_
 refine I2 (C7 4) (A7 ?_)
 exact ⟨_, [], B10, F7 rfl rfl, Fit.pick qP qZ, rfl, ⟨A5r (hs10.rd fun z hz => by simp [hz]) (by rw [List.length_append]) (by rw [A1W]), (fun z hz => (List.mem_append.1 hz).elim (hx.wi.lt z) (h9.lt z)), by rw [List.length_append]; simp at h9l; omega⟩⟩

end Go.Proofs.YtoameenjkiaefaaGreatDoor
