/- Part 15 of the texts of this claim, one behind the other. -/
import Derived.Test.YtlilcmjbaknafaaGreatDoorB14
set_option linter.unusedVariables false
set_option linter.unusedSimpArgs false
set_option maxRecDepth 100000
namespace Go.Proofs.YtlilcmjbaknafaaGreatDoor
open Go.Px
theorem A0T (s : Ps) : (F2 s).ts.length ≤ s.ts.length + 1 ∧ (F2 s).n = s.n + 1 := by
  unfold F2
  split
  · exact ⟨by simp, rfl⟩
  · refine ⟨?_, rfl⟩
    show (add s.ts _).length ≤ _
    unfold add
    split <;> simp
theorem A35 (s : Ps) (w : LN) : (L2 s w).ts.length ≤ s.ts.length + 2 := by
  unfold L2
  split
  · omega
  · have h1 := V0 (ts := s.ts) (ws := w)
    have h2 := A1K (ts := rdT s.ts w) (t := B0H ((rdI s.ts w : Nat) : Int))
    show (add (rdT s.ts w) _).length ≤ _
    omega
theorem B7h (s : Ps) (w : LN) : (L2 s w).n = s.n := by unfold L2; split <;> rfl
theorem A36 (s : Ps) (w : LN) : (I2 s w).length = 32 := by
  unfold I2
  split
  · exact A2t _ _
  · exact A0N _ qD
def A5N : LN := [114, 111, 111, 116]
noncomputable def A4j (s : Ps) (root sec pub : LN) : Ps := A4t (X7 s sec pub) root [A04 s sec pub] A5N 2
noncomputable def C0O (s : Ps) (root sec pub : LN) : List (LN) := A6s (X7 s sec pub) root [A04 s sec pub] A5N 2
noncomputable def B2I (s : Ps) (root sec pub : LN) : LN := (C0O s root sec pub).getD 0 []
noncomputable def A9u (s : Ps) (root sec pub : LN) : LN := (C0O s root sec pub).getD 1 []
theorem A1t (s : Ps) (root sec pub : LN) : (A4j s root sec pub).ts.length ≤ s.ts.length + 7 ∧ (A4j s root sec pub).n = s.n := by
  have h1 := A34 s sec pub
  have h2 := A26 (X7 s sec pub) root [A04 s sec pub] A5N 2
  have h3 := B7f s sec pub
  have h4 := (A2a (X7 s sec pub) root [A04 s sec pub] A5N 2).2.1
  have e : [A04 s sec pub].length = 1 := rfl
  unfold A4j
  omega
structure Rsd where
  own : LN
  their : LN
  root : LN
  sk : LN
  sn : Nat
  tk : LN
  tn : Nat
  prev : Nat
  sks : List Skp
def StF (R : Mem) (v : Value) (sks : List Skp) : Prop := ∃ sb u rows, v = (vP sb) ∧ (sb, blk [u] 80) ∈ R ∧ Rd R 3 u sks.length rows.flatten ∧ RwL skR R rows sks
theorem StF.mono {R R' : Mem} {v : Value} {sks : List Skp} (h : StF R v sks) (hR : ∀ x, x ∈ R → x ∈ R') : StF R' v sks := by
  obtain ⟨sb, u, rows, h1, h2, h3, h4⟩ := h
  exact ⟨sb, u, rows, h1, hR _ h2, h3.mono hR, h4.mono skT hR⟩
def rsC (vo vt vr vk vl vs : Value) (r : Rsd) : List Value := [vo, vt, vr, vk, (vU r.sn), vl, (vU r.tn), (vU r.prev), vs]
structure RsR (R : Mem) (r : Rsd) (vo vt vr vk vl vs : Value) : Prop where
  own : By R vo r.own
  their : By R vt r.their
  root : By R vr r.root
  sk : By R vk r.sk
  tk : By R vl r.tk
  st : StF R vs r.sks
  sn : r.sn < 4294967296
  tn : r.tn < 4294967296
  prev : r.prev < 4294967296
  sks : r.sks.length ≤ 1000
theorem RsR.mono {R R' : Mem} {r : Rsd} {vo vt vr vk vl vs : Value} (h : RsR R r vo vt vr vk vl vs) (hR : ∀ x, x ∈ R → x ∈ R') : RsR R' r vo vt vr vk vl vs :=
  ⟨h.own.mono hR, h.their.mono hR, h.root.mono hR, h.sk.mono hR, h.tk.mono hR, h.st.mono hR, h.sn, h.tn, h.prev, h.sks⟩
theorem StF.one {R : Mem} {v : Value} {sks : List Skp} (h : StF R v sks) : v.oneCell' = true := by obtain ⟨sb, u, rows, rfl, _⟩ := h; rfl
theorem StF.new {b : Nat} {R : Mem} (h : (b, blk [vS] 80) ∈ R) : StF R (vP b) [] := ⟨b, _, [], rfl, h, Rd.nil, RwL.nil⟩
def RsV (R : Mem) (v : Value) (r : Rsd) : Prop := ∃ vo vt vr vk vl vs, v = .agg (rsC vo vt vr vk vl vs r).toArray ∧ RsR R r vo vt vr vk vl vs
theorem RsV.mono {R R' : Mem} {v : Value} {r : Rsd} (h : RsV R v r) (hR : ∀ x, x ∈ R → x ∈ R') : RsV R' v r := by
  obtain ⟨vo, vt, vr, vk, vl, vs, e, g⟩ := h
  exact ⟨vo, vt, vr, vk, vl, vs, e, g.mono hR⟩
noncomputable def A9v (s : Ps) (sec their : LN) : Rsd := ⟨I9 s, their, B2I (F2 s) sec (I9 s) their, A9u (F2 s) sec (I9 s) their, 0, [], 0, 0, []⟩
noncomputable def A9w (s : Ps) (sec their : LN) : Ps := A4j (F2 s) sec (I9 s) their
def B7i (sec own : LN) : Rsd := ⟨own, [], sec, [], 0, [], 0, 0, []⟩
theorem A0U (v : Value) (w : LN) (A : Mem) (h : By A v w) : FnX Tryz.prog 29 [v] [] A fun r M J => M = [] ∧ By J r w := by
 haveI := h.cel
 have hwl := h.len
 refine FnX.enterZ (N := 8) Tryz.func29 rfl rfl rfl fun w_ => ?_
 refine B4 (D5 0) (A1 (as_ (A0 (D5 0) (A3 (A1 (mv_ ?_))))))
 refine A2 (A17 (e := 5) rfl kR (by first | assumption | exact Sl.rd (by assumption) qI | exact By.rd (by assumption))) rfl ?_
 refine A0 (D3 0 4) ?_
 refine C0 rfl ?_ ?_ <;> intro hc
 ·
  have h0 := h.rd.isNil hc
  obtain rfl : w = [] := List.eq_nil_of_length_eq_zero h0
  refine A1 (as_ (A0 (D5 2) (B0 (tr ?_))))
  exact ⟨_, [], [], I4 rfl rfl, qZ, rfl, By.nil⟩
 ·
  refine A7 (nx (D5 0) (A1 ?_))
  refine A4 rfl (C4 (e := 5) (sz := 1) (z := []) kR e0 bd0 rfl fun b5 => ?_)
  refine mv_ ?_
  refine A4 rfl (G9 (e := 5) (sz := 1) (by_ := 1) rfl rfl kR rfl (Sl.fresh (n := 0) (cs := []) (e := 5) rfl qD) (h.rd.mono qS) F3 qP (by unfold maxLen; omega) qO rfl fun v7 B7 hs7 => ?_)
  refine as_ (A0 (D5 2) (B0 ?_))
  exact ⟨_, [], B7, I4 rfl rfl, Fit.pick qP qZ, rfl, ⟨A02 (hs7.rd fun x hx => by simp [hx]) qO qM, h.lt, h.len⟩⟩
theorem B1A (pb : Nat) (s : Ps) (v1 v2 v3 : Value) (root sec pub : LN) (MP A : Mem) (hP : Prm pb s MP) (hn : s.ts.length + 100 ≤ 1040000) (h1 : By A v1 root) (h2 : By A v2 sec) (h3 : By A v3 pub) (hG : Glb A) : FnX Tryz.prog 52 [(vP pb), v1, v2, v3] MP A fun q M J => ∃ u0 u1, q = .tuple #[u0, .agg #[u1, (vU 0)]] ∧ Prm pb (A4j s root sec pub) M ∧ By J u0 (B2I s root sec pub) ∧ By J u1 (A9u s root sec pub) := by
 haveI := h1.cel
 haveI := h2.cel
 haveI := h3.cel
 have hal := A34 s sec pub
 refine FnX.enterZ (N := 30) Tryz.func52 rfl rfl rfl fun w_ => ?_
 refine B4 (D7 0 1 2 3) (A1 (as_ ?_))
 refine A4 rfl (C3 (cs := [vS, .int .u32 0]) kR rfl fun b9 => ?_)
 refine A0 (E6 0 1 2 3 9) (A1 (mv_ (mv_ (mv_ (mv_ (mv_ ?_))))))
 refine A4 rfl (C6 (Mc := MP) (R := _) (aS rfl (aS rfl (aS rfl (a0)))) kR qP (B65 pb s v2 v3 sec pub MP _ hP qO (h2.mono qS) (h3.mono qS) hG.up) rfl ?_)
 rintro v16 M16 J16 ⟨hP16, h16⟩
 haveI := h16.cel
 refine A4 rfl (C4 (e := 26) (sz := 1) (z := [vS]) kR (eS rfl e0) (bdS 0 1 rfl qR bd0) rfl fun b17 => ?_)
 refine A4 rfl (C6 (Mc := M16) (R := _) (aS rfl (aS rfl (aS rfl (aS rfl (aS rfl (a0)))))) kR qP (A3I pb (X7 s sec pub) v1 (.slice (some ⟨b17, 0, none⟩) 1 1) root A5N [A04 s sec pub] 2 M16 _ hP16 (h1.mono qS) ⟨[v16], Rd.whole (n := 1) At.mem qR, Lst.cons (h16.mono qS) Lst.nil⟩ (show 1 ≤ 1000 by decide) ⟨by decide⟩ qD qD qD qO hG.up) rfl ?_)
 rintro v18 M18 J18 ⟨hP18, hL18⟩
 have hlen := A8j (X7 s sec pub) root [A04 s sec pub] A5N 2
 obtain ⟨us, u0, u1, hr, hu0, hu1, hb0, hb1⟩ := B1r hL18 hlen
 haveI := hr.cel
 haveI := hb0.cel
 haveI := hb1.cel
 refine as_ (A0 (D3 9 10) (A3 (A1 (mv_ ?_))))
 refine A2 (F8 (sz := 1) rfl kR hr) rfl ?_
 refine A2 (F4 false rfl rfl (neF rfl)) rfl ?_
 refine A0 (D8 9 10 21) ?_
 refine C9 rfl ?_
 refine A7 (nx (D3 9 10) ?_)
 refine D2 (.range 8) (zp 0 [0, 0, 1, 0, 0, 1, 0, 0, 2]) kR kR fun hs => ?_
 refine fm_ hs ?_
 refine C2 hs rfl (G8 (sz := 1) (a := 0) rfl rfl kR rfl hr qD) rfl ?_
 refine H2 hs rfl (A01 (u := u0) (hr.mono qS) rfl kR hu0) rfl ?_
 refine fm_ hs ?_
 refine C2 hs rfl (G8 (sz := 1) (a := 1) rfl rfl kR rfl hr qD) rfl ?_
 refine H2 hs rfl (A01 (u := u1) (hr.mono qS) rfl kR hu1) rfl ?_
 refine C2 hs rfl (F6 (place := fun x => #[(0, 1), (1, 1)][x]?) (z := [vS, .int .u32 0]) (fun _ => by kernel_rfl) (eS rfl e0) (bdS 0 1 rfl qR bd0)) rfl ?_
 refine fa_ hs ?_
 refine G2 rfl rfl rfl (A8 rfl rfl Cel.cel kR qR (by intro c hc; simp only [List.mem_cons, List.not_mem_nil, or_false] at hc; rcases hc with rfl | rfl; exact hb1.one; rfl) UpC.upd ?_)
 refine E9 (D3 8 9) (B0 ?_)
 exact ⟨_, M18, [], B5o (n := 2) rfl rfl rfl kR At.mem qR, Fit.none (Fit.last qP), u0, u1, rfl, hP18, hb0.mono (fun x hx => by simp [hx]), hb1.mono (fun x hx => by simp [hx])⟩

theorem B5s {R : Mem} {v : Value} {w : LN} (h : By R v w) {k : Nat} (hk : k ≤ w.length) : By R (vHi k v) (w.take k) := ⟨by
  have h1 := h.rd.hiV k hk
  rw [Nat.mul_one, ← A09] at h1
  rw [List.length_take, Nat.min_eq_left hk]
  exact h1, fun x hx => h.lt x (List.mem_of_mem_take hx), by rw [List.length_take]; have := h.len; omega⟩
theorem B5t {R : Mem} {v : Value} {w : LN} (h : By R v w) {k : Nat} (hk : k ≤ w.length) : By R (vLo k 1 v) (w.drop k) := ⟨by
  have h1 := h.rd.loV k hk
  rw [Nat.mul_one, ← A0v] at h1
  rw [List.length_drop]
  exact h1, fun x hx => h.lt x (List.mem_of_mem_drop hx), by rw [List.length_drop]; have := h.len; omega⟩
abbrev Rst := LN × Bool
structure Rdr (rb : Nat) (st : Rst) (R M : Mem) : Prop where
  ex : ∃ (v : Value), M = [(rb, blk [v, .bool st.2] 97)] ∧ By R v st.1
def rnN (st : Rst) (k : Nat) : Nat := if st.2 || decide (st.1.length < k) then 0 else bev (st.1.take k)
def rnS (st : Rst) (k : Nat) : Rst := if st.2 || decide (st.1.length < k) then (st.1, true) else (st.1.drop k, false)
theorem A6M {st : Rst} {k : Nat} (h : st.2 = true ∨ st.1.length < k) : rnN st k = 0 ∧ rnS st k = (st.1, true) := by
  have e : (st.2 || decide (st.1.length < k)) = true := by
    rcases h with h | h
    · rw [h]; rfl
    · rw [decide_eq_true h, Bool.or_true]
  unfold rnN rnS
  rw [if_pos e, if_pos e]; exact ⟨rfl, rfl⟩
theorem B7j {st : Rst} {k : Nat} (h : st.2 = false) (hl : k ≤ st.1.length) : rnN st k = bev (st.1.take k) ∧ rnS st k = (st.1.drop k, false) := by
  have e : ¬ (st.2 || decide (st.1.length < k)) = true := by rw [h, decide_eq_false qO]; decide
  unfold rnN rnS
  rw [if_neg e, if_neg e]; exact ⟨rfl, rfl⟩
theorem B1B (st : Rst) (k : Nat) (h : ∀ x ∈ st.1, x < 256) : rnN st k < 256 ^ k := by
  unfold rnN
  split
  · exact Nat.pow_pos qD
  · have h1 := B1u (ws := st.1.take k) fun x hx => h x (List.mem_of_mem_take hx)
    exact Nat.lt_of_lt_of_le h1 (Nat.pow_le_pow_right qD (List.length_take_le _ _))
def rbN (st : Rst) (most : Nat) : LN :=
  if (rnS st 4).2 || decide (rnN st 4 > most) || decide (rnN st 4 > (rnS st 4).1.length) then [] else (rnS st 4).1.take (rnN st 4)
def rbS (st : Rst) (most : Nat) : Rst :=
  if (rnS st 4).2 || decide (rnN st 4 > most) || decide (rnN st 4 > (rnS st 4).1.length) then ((rnS st 4).1, true) else ((rnS st 4).1.drop (rnN st 4), false)
theorem B5u {st : Rst} {most : Nat} (h : (rnS st 4).2 = true ∨ rnN st 4 > most ∨ rnN st 4 > (rnS st 4).1.length) : rbN st most = [] ∧ rbS st most = ((rnS st 4).1, true) := by
  have e : ((rnS st 4).2 || decide (rnN st 4 > most) || decide (rnN st 4 > (rnS st 4).1.length)) = true := by
    rcases h with h | h | h
    · rw [h]; rfl
    · rw [decide_eq_true h]; simp
    · rw [decide_eq_true h]; simp
  unfold rbN rbS
  rw [if_pos e, if_pos e]; exact ⟨rfl, rfl⟩
theorem B7k {st : Rst} {most : Nat} (h : (rnS st 4).2 = false) (h2 : rnN st 4 ≤ most) (h3 : rnN st 4 ≤ (rnS st 4).1.length) : rbN st most = (rnS st 4).1.take (rnN st 4) ∧ rbS st most = ((rnS st 4).1.drop (rnN st 4), false) := by
  have e : ¬ ((rnS st 4).2 || decide (rnN st 4 > most) || decide (rnN st 4 > (rnS st 4).1.length)) = true := by
    rw [h, decide_eq_false qO, decide_eq_false qO]; decide
  unfold rbN rbS
  rw [if_neg e, if_neg e]; exact ⟨rfl, rfl⟩
theorem B7l {n b : Nat} (hb : b < 256) (hn : n * 256 < 18446744073709551616) : (n * 256 % 18446744073709551616 ||| b) = n * 256 + b := by
  rw [Nat.mod_eq_of_lt hn, Nat.mul_comm]
  exact (Nat.two_pow_add_eq_or_of_lt (i := 8) hb n).symm
def B9g (st : Rst) : Bool := !st.2 && decide (st.1.length = 0)
theorem B7m (n : Nat) : I0 .eql .i64 (n : Int) 0 = some (.bool (decide (n = 0))) := by
  by_cases h : n = 0
  · rw [decide_eq_true h]; exact eqT qO
  · rw [decide_eq_false h]; exact eqF qO
theorem B4l {ws : LN} {j : Nat} (h : j < ws.length) : bev (ws.take (j + 1)) = bev (ws.take j) * 256 + ws.getD j 0 := by
  rw [List.take_add_one, List.getElem?_eq_getElem h, List.getD_eq_getElem?_getD, List.getElem?_eq_getElem h]
  exact A3d _ _
theorem A2x (p : Value) (w : LN) (R A : Mem) (hp : By R p w) : FnX Tryz.prog 19 [p] [] A fun q M J => ∃ rb, q = (vP rb) ∧ Rdr rb (w, false) R M := by
 haveI := hp.cel
 refine FnX.enterZ (N := 6) Tryz.func19 rfl rfl rfl fun w_ => ?_
 refine B4 (D5 0) (A1 (as_ (A0 (D5 0) (A1 (mv_ ?_)))))
 refine A2 (F6 (place := fun x => #[(0, 1), (1, 1)][x]?) (z := [vS, .bool false]) (fun _ => by kernel_rfl) (eS rfl e0) (bdS 0 1 rfl qR bd0)) rfl ?_
 refine A4 rfl (bx_ fun b5 => ?_)
 refine as_ (A0 (D5 2) (B0 ?_))
 exact ⟨_, [(b5, _)], [], I4 rfl rfl, Fit.none (Fit.last qP), b5, rfl, ⟨p, rfl, hp⟩⟩
theorem Y8 (rb : Nat) (st : Rst) (R M A : Mem) (hR : Rdr rb st R M) : FnX Tryz.prog 68 [(vP rb)] M A fun q M J => Rdr rb (st.1, true) R M := by
 obtain ⟨v, rfl, hby⟩ := hR.ex
 haveI := hby.cel
 have hbl := hby.len
 refine FnX.enterZ (N := 7) Tryz.func68 rfl rfl rfl fun w_ => ?_
 refine B4 (D5 0) (A1 (mv_ ?_))
 refine A2 (A8E (e := 97) rfl rfl kR) rfl ?_
 refine A0 (D3 0 3) ?_
 refine C8 rfl ?_
 refine A9 (mv_ ?_)
 refine A2 (E4 rfl) rfl ?_
 refine A2 (qf_ 1 1) rfl ?_
 refine A4 rfl (E0 rfl rfl rfl kR SetC.set UpC.upd ?_)
 refine C1 ?_
 exact ⟨_, _, [], B2E rfl, Fit.none (Fit.last qP), ⟨v, rfl, hby⟩⟩
theorem A0E (rb k : Nat) (st : Rst) (R M A : Mem) (hR : Rdr rb st R M) (hs : ∀ x, x ∈ R → x ∈ A) (hk : k ≤ 8) : FnX Tryz.prog 44 [(vP rb), (vI k)] M A fun q M J => q = .int .u64 ((rnN st k : Nat) : Int) ∧ Rdr rb (rnS st k) R M := by
 obtain ⟨v, rfl, hby⟩ := hR.ex
 haveI := hby.cel
 have hbl := hby.len
 refine FnX.enterZ (N := 62) Tryz.func44 rfl rfl rfl fun w_ => ?_
 refine B4 (D3 0 1) (A1 (as_ (A0 (D3 0 1) (A3 (A1 (mv_ ?_))))))
 refine A2 (G5 (e := 97) rfl rfl kR) rfl ?_
 refine mv_ ?_
 refine D6 rfl rfl (OpQ.opL qm_ rfl ?_)
 refine D6 rfl rfl (OpQ.opL (E4 rfl) rfl ?_)
 refine D6 rfl rfl (OpQ.opL (qf_ 1 1) rfl ?_)
 refine D6 rfl rfl (OpQ.opL ql_ rfl ?_)
 refine A2 (E3 rfl rfl) rfl ?_
 refine mv_ ?_
 refine P6 (t := 16) rfl (fun hb => ?_) (fun hb => ?_)
 ·
  have hbd : st.2 = true := hb
  refine E7 rfl rfl rfl rfl ?_
  refine E7 rfl rfl rfl rfl ?_
  refine A2 (E2 rfl rfl) rfl ?_
  refine mv_ ?_
  refine E7 rfl rfl rfl rfl ?_
  refine E7 rfl rfl rfl rfl ?_
  refine A2 (E2 rfl rfl) rfl ?_
  refine mv_ ?_
  refine E7 rfl rfl rfl rfl ?_
  refine E7 rfl rfl rfl rfl ?_
  refine E7 rfl rfl rfl rfl ?_
  refine E7 rfl rfl rfl rfl ?_
  refine E7 rfl rfl rfl rfl ?_
  refine E7 rfl rfl rfl rfl ?_
  refine E7 rfl rfl rfl rfl ?_
  refine A2 (E2 rfl rfl) rfl ?_
  refine A0 (D8 0 1 32) ?_
  refine C8 rfl ?_
  refine A1 (mv_ ?_)
  refine A4 rfl (C6 (Mc := [(rb, blk [v, .bool st.2] 97)]) (R := _) (aS rfl a0) kR qP (Y8 rb (st.1, st.2) R _ _ ⟨v, rfl, hby⟩) rfl ?_)
  rintro v34 M34 J34 hR34
  refine A0 kn (A1 (as_ (A0 (D5 4) (B0 (tr ?_)))))
  exact ⟨_, M34, [], I4 rfl rfl, Fit.none (Fit.last qP), by rw [(A6M (.inl hbd)).1]; rfl, by rw [(A6M (.inl hbd)).2]; exact hR34⟩
 ·
  have hbd : st.2 = false := hb
  refine D6 rfl rfl (OpQ.opL qm_ rfl ?_)
  refine D6 rfl rfl (OpQ.opL (F4 false rfl rfl (ltF qO)) rfl ?_)
  refine A2 (E3 rfl rfl) rfl ?_
  refine mv_ ?_
  refine D6 rfl rfl (OpQ.opL qm_ rfl ?_)
  refine D6 rfl rfl (OpQ.opL (F4 false rfl rfl (gtF qO)) rfl ?_)
  refine A2 (E3 rfl rfl) rfl ?_
  refine mv_ ?_
  refine D6 rfl rfl (OpQ.opL qm_ rfl ?_)
  refine D6 rfl rfl (OpQ.opL (E4 rfl) rfl ?_)
  refine D6 rfl rfl (OpQ.opL (qf_ 0 0) rfl ?_)
  refine D6 rfl rfl (OpQ.opL ql_ rfl ?_)
  refine D6 rfl rfl (OpQ.opL (F8 (sz := 1) rfl kR hby.rd) rfl ?_)
  refine D6 rfl rfl (OpQ.opL qm_ rfl ?_)
  refine D6 rfl rfl (OpQ.opL (D9 rfl rfl rfl) rfl ?_)
  refine A2 (E3 rfl rfl) rfl ?_
  refine A0 (D8 0 1 32) ?_
  refine C0 rfl ?_ ?_ <;> intro hc
  ·
   have hsh : st.1.length < k := by simp at hc; omega
   refine A1 (mv_ ?_)
   refine A4 rfl (C6 (Mc := [(rb, blk [v, .bool st.2] 97)]) (R := _) (aS rfl a0) kR qP (Y8 rb (st.1, st.2) R _ _ ⟨v, rfl, hby⟩) rfl ?_)
   rintro v34 M34 J34 hR34
   refine A0 kn (A1 (as_ (A0 (D5 4) (B0 (tr ?_)))))
   exact ⟨_, M34, [], I4 rfl rfl, Fit.none (Fit.last qP), by rw [(A6M (.inr hsh)).1]; rfl, by rw [(A6M (.inr hsh)).2]; exact hR34⟩
  ·
   have hsh : k ≤ st.1.length := by simp at hc; omega
   obtain ⟨hr1, hr2⟩ := B7j hbd hsh
   have hby2 := B5s hby hsh
   haveI := hby2.cel
   have hl2 : (st.1.take k).length = k := by rw [List.length_take]; omega
   refine A7 (nx (D3 0 1) (A1 (as_ (A0 (D8 0 1 5) (A3 (A1 (mv_ ?_)))))))
   refine A2 (E4 rfl) rfl ?_
   refine A2 (qf_ 0 0) rfl ?_
   refine A2 ql_ rfl ?_
   refine mv_ ?_
   refine A2 (A4J (sz := 1) (a := k) rfl rfl kR rfl hby.rd hsh) rfl ?_
   refine A2 (F8 (sz := 1) rfl kR hby2.rd) rfl ?_
   refine mv_ (A0 (H5 0 1 5 40 41 42) (A5 ?_))
   rw [hl2]
   refine E1 (α := Nat) (fun x => [(0, (vP rb)), (1, (vI k)), (5, .int .u64 ((bev ((st.1.take k).take x) : Nat) : Int)), (40, vHi k v), (41, (vI k)), (42, (vI x))]) (fun _ => [(rb, blk [v, .bool st.2] 97)]) (fun _ => []) (fun x => x ≤ k) (fun x => k - x) 0 (Nat.zero_le _) (H5 0 1 5 40 41 42) .rfl qI ?_
   rintro j hj
   refine A1 ?_
   refine A2 (D9 rfl rfl rfl) rfl ?_
   refine A0 (S9 0 1 5 40 41 42 43) (A3 ?_)
   refine C0 rfl ?_ ?_ <;> intro hc
   ·
    have hlt : j < k := by simp at hc; omega
    have hbt := B4l (ws := st.1.take k) (j := j) qO
    have hb0 : (st.1.take k).getD j 0 < 256 := by rw [List.getD_eq_getElem?_getD, List.getElem?_eq_getElem qO]; exact hby2.lt _ (List.getElem_mem _)
    have hbv := B1u (ws := (st.1.take k).take j) fun x hx => hby2.lt x (List.mem_of_mem_take hx)
    rw [List.length_take, Nat.min_eq_left qO] at hbv
    replace hbv := Nat.lt_of_lt_of_le hbv (Nat.pow_le_pow_right qD (show j ≤ 7 by omega))
    rw [show 256 ^ 7 = 72057594037927936 from rfl] at hbv
    generalize bev ((st.1.take k).take j) = n at *
    generalize hbb : (st.1.take k).getD j 0 = b at *
    refine A7 (nx (H5 0 1 5 40 41 42) (A3 (A5 (A1 ?_))))
    refine A2 (G8 (sz := 1) rfl rfl kR rfl hby2.rd qO) rfl ?_
    refine A2 (A01 (j := j) (u := .int .u8 ((b : Nat) : Int)) (hby2.rd.mono fun x hx => qS _ (hs x hx)) rfl kR (by rw [← hbb]; unfold nums; rw [List.getElem?_map, List.getElem?_eq_getElem qO, List.getD_eq_getElem?_getD, List.getElem?_eq_getElem qO]; rfl)) rfl ?_
    refine as_ (A0 (S9 0 1 5 7 40 41 42) (A9 (mv_ ?_)))
    refine A2 (B4Q 8 256 18446744073709551616 rfl rfl rfl rfl rfl rfl qD) rfl ?_
    refine mv_ ?_
    refine A2 (A3l rfl kR) rfl ?_
    rw [Nat.mod_eq_of_lt (show b < 18446744073709551616 by omega)]
    refine A2 (B2S rfl rfl rfl (by show _ < 18446744073709551616; exact Nat.mod_lt _ qD) (by show _ < 18446744073709551616; omega)) rfl ?_
    rw [B7l hb0 qO, ← hbt]
    refine as_ (C1 (nb (nx (H5 0 1 5 40 41 42) (A9 ?_))))
    refine A2 (I5 (b := 1) rfl rfl rfl rfl qO) rfl ?_
    refine mv_ (C1 ?_)
    exact rn (j + 1) qO qO (H5 0 1 5 40 41 42) .rfl qI
   ·
    have hge : k = j := by simp at hc; omega
    subst hge
    rw [List.take_take, Nat.min_self]
    refine D4 (te (re (be rfl (nx (D8 0 1 5) (A1 (mv_ (mv_ ?_)))))))
    refine A2 (E4 rfl) rfl ?_
    refine A2 (qf_ 0 0) rfl ?_
    refine A2 ql_ rfl ?_
    refine mv_ ?_
    refine A2 (A15 (sz := 1) (a := k) rfl rfl kR rfl hby.rd hsh) rfl ?_
    have hby3 := B5t hby hsh
    haveI := hby3.cel
    have hy1 := hby3.one
    refine A2 (E4 rfl) rfl ?_
    refine A2 (qf_ 0 0) rfl ?_
    refine A4 rfl (E0 rfl rfl hy1 kR SetC.set UpC.upd ?_)
    refine A0 (D5 5) (A1 (mv_ (as_ (A0 (D5 4) (B0 ?_)))))
    exact ⟨_, [(rb, blk [vLo k 1 v, .bool st.2] 97)], [], I4 rfl rfl, Fit.none (Fit.last qP), by rw [hr1], by rw [hr2]; exact ⟨_, by rw [hbd], hby3⟩⟩
theorem U3 (rb most : Nat) (st : Rst) (R M A : Mem) (hR : Rdr rb st R M) (hs : ∀ x, x ∈ R → x ∈ A) (hm : most ≤ 1000000) : FnX Tryz.prog 43 [(vP rb), (vI most)] M A fun q M J => By J q (rbN st most) ∧ Rdr rb (rbS st most) R M := by
  obtain ⟨v, rfl, hby⟩ := hR.ex
  haveI := hby.cel
  have hbl := hby.len
  refine FnX.enterZ (N := 56) Tryz.func43 rfl rfl rfl fun w_ => ?_
  refine B4 (D3 0 1) (A1 (as_ (A0 (D3 0 1) (A1 (mv_ ?_)))))
  refine A4 rfl (C6 (Mc := [(rb, blk [v, .bool st.2] 97)]) (R := _) (aS rfl (aS rfl a0)) kR qP (A0E rb 4 st R _ _ ⟨v, rfl, hby⟩ (fun x hx => qS _ (hs x hx)) qD) rfl ?_)
  rintro v8 M8 J8 ⟨rfl, hR8⟩
  have hn8 := B1B st 4 hby.lt
  rw [show 256 ^ 4 = 4294967296 from rfl] at hn8
  have hb8 := @B5u st most
  have hk8 := @B7k st most
  unfold Rst at *
  generalize rnN st 4 = n at *
  generalize rnS st 4 = s1 at *
  obtain ⟨w, rfl, hbw⟩ := hR8.ex
  haveI := hbw.cel
  have hwl := hbw.len
  refine as_ (A0 (D8 0 1 5) (A3 (A1 (mv_ ?_))))
  refine A2 (G5 (e := 97) rfl rfl kR) rfl ?_
  refine mv_ ?_
  refine D6 rfl rfl (OpQ.opL qm_ rfl ?_)
  refine D6 rfl rfl (OpQ.opL (E4 rfl) rfl ?_)
  refine D6 rfl rfl (OpQ.opL (qf_ 1 1) rfl ?_)
  refine D6 rfl rfl (OpQ.opL ql_ rfl ?_)
  refine A2 (E3 rfl rfl) rfl ?_
  refine mv_ ?_
  refine P6 (t := 17) rfl (fun hb => ?_) (fun hb => ?_)
  ·
    have hbd : s1.2 = true := hb
    refine E7 rfl rfl rfl rfl ?_
    refine E7 rfl rfl rfl rfl ?_
    refine A2 (E2 rfl rfl) rfl ?_
    refine mv_ ?_
    refine E7 rfl rfl rfl rfl ?_
    refine E7 rfl rfl rfl rfl ?_
    refine E7 rfl rfl rfl rfl ?_
    refine E7 rfl rfl rfl rfl ?_
    refine A2 (E2 rfl rfl) rfl ?_
    refine mv_ ?_
    refine E7 rfl rfl rfl rfl ?_
    refine E7 rfl rfl rfl rfl ?_
    refine E7 rfl rfl rfl rfl ?_
    refine E7 rfl rfl rfl rfl ?_
    refine E7 rfl rfl rfl rfl ?_
    refine E7 rfl rfl rfl rfl ?_
    refine E7 rfl rfl rfl rfl ?_
    refine E7 rfl rfl rfl rfl ?_
    refine A2 (E2 rfl rfl) rfl ?_
    refine A0 (D8 0 5 36) ?_
    refine C8 rfl ?_
    refine A1 (mv_ ?_)
    refine A4 rfl (C6 (Mc := [(rb, blk [w, .bool s1.2] 97)]) (R := _) (aS rfl a0) kR qP (Y8 rb s1 R _ _ ⟨w, rfl, hbw⟩) rfl ?_)
    rintro v38 M38 J38 hR38
    refine A0 kn (A1 (as_ (A0 (D5 4) (B0 (tr ?_)))))
    exact ⟨_, M38, [], I4 rfl rfl, Fit.none (Fit.last qP), by rw [(hb8 (.inl hbd)).1]; exact By.nil, by rw [(hb8 (.inl hbd)).2]; exact hR38⟩
  ·
    have hbd : s1.2 = false := hb
    refine D6 rfl rfl (OpQ.opL qm_ rfl ?_)
    refine D6 rfl rfl (OpQ.opL (F4 false rfl rfl (ltF qO)) rfl ?_)
    refine A2 (E3 rfl rfl) rfl ?_
    refine mv_ ?_
    refine D6 rfl rfl (OpQ.opL qm_ rfl ?_)
    refine D6 rfl rfl (OpQ.opL qm_ rfl ?_)
    refine D6 rfl rfl (OpQ.opL (A3l rfl kR) rfl ?_)
    rw [Nat.mod_eq_of_lt (show most < 18446744073709551616 by omega)]
    refine D6 rfl rfl (OpQ.opL (D9 rfl rfl rfl) rfl ?_)
    refine A2 (E3 rfl rfl) rfl ?_
    refine mv_ ?_
    refine P6 (t := 27) rfl (fun hb => ?_) (fun hb => ?_)
    ·
      have hgm : n > most := by simp at hb; omega
      refine E7 rfl rfl rfl rfl ?_
      refine E7 rfl rfl rfl rfl ?_
      refine E7 rfl rfl rfl rfl ?_
      refine E7 rfl rfl rfl rfl ?_
      refine E7 rfl rfl rfl rfl ?_
      refine E7 rfl rfl rfl rfl ?_
      refine E7 rfl rfl rfl rfl ?_
      refine E7 rfl rfl rfl rfl ?_
      refine A2 (E2 rfl rfl) rfl ?_
      refine A0 (D8 0 5 36) ?_
      refine C8 rfl ?_
      refine A1 (mv_ ?_)
      refine A4 rfl (C6 (Mc := [(rb, blk [w, .bool s1.2] 97)]) (R := _) (aS rfl a0) kR qP (Y8 rb s1 R _ _ ⟨w, rfl, hbw⟩) rfl ?_)
      rintro v38 M38 J38 hR38
      refine A0 kn (A1 (as_ (A0 (D5 4) (B0 (tr ?_)))))
      exact ⟨_, M38, [], I4 rfl rfl, Fit.none (Fit.last qP), by rw [(hb8 (.inr (.inl hgm))).1]; exact By.nil, by rw [(hb8 (.inr (.inl hgm))).2]; exact hR38⟩
    ·
      have hgm : n ≤ most := by simp at hb; omega
      refine D6 rfl rfl (OpQ.opL qm_ rfl ?_)
      refine D6 rfl rfl (OpQ.opL qm_ rfl ?_)
      refine D6 rfl rfl (OpQ.opL (E4 rfl) rfl ?_)
      refine D6 rfl rfl (OpQ.opL (qf_ 0 0) rfl ?_)
      refine D6 rfl rfl (OpQ.opL ql_ rfl ?_)
      refine D6 rfl rfl (OpQ.opL (F8 (sz := 1) rfl kR hbw.rd) rfl ?_)
      refine D6 rfl rfl (OpQ.opL (A3l rfl kR) rfl ?_)
      rw [Nat.mod_eq_of_lt (show s1.1.length < 18446744073709551616 by omega)]
      refine D6 rfl rfl (OpQ.opL (D9 rfl rfl rfl) rfl ?_)
      refine A2 (E3 rfl rfl) rfl ?_
      refine A0 (D8 0 5 36) ?_
      refine C0 rfl ?_ ?_ <;> intro hc
      ·
        have hgl : n > s1.1.length := by simp at hc; omega
        refine A1 (mv_ ?_)
        refine A4 rfl (C6 (Mc := [(rb, blk [w, .bool s1.2] 97)]) (R := _) (aS rfl a0) kR qP (Y8 rb s1 R _ _ ⟨w, rfl, hbw⟩) rfl ?_)
        rintro v38 M38 J38 hR38
        refine A0 kn (A1 (as_ (A0 (D5 4) (B0 (tr ?_)))))
        exact ⟨_, M38, [], I4 rfl rfl, Fit.none (Fit.last qP), by rw [(hb8 (.inr (.inr hgl))).1]; exact By.nil, by rw [(hb8 (.inr (.inr hgl))).2]; exact hR38⟩
      ·
        have hgl : n ≤ s1.1.length := by simp at hc; omega
        obtain ⟨hr1, hr2⟩ := hk8 hbd hgm hgl
        have hby2 := B5s hbw hgl
        haveI := hby2.cel
        have hby3 := B5t hbw hgl
        haveI := hby3.cel
        have hy1 := hby3.one
        have hl2 : (s1.1.take n).length = n := by rw [List.length_take]; omega
        refine A7 (nx (D3 0 5) (A1 (mv_ ?_)))
        refine A2 (E4 rfl) rfl ?_
        refine A2 (qf_ 0 0) rfl ?_
        refine A2 ql_ rfl ?_
        refine mv_ ?_
        refine A2 (A4J (sz := 1) (a := n) rfl rfl kR rfl hbw.rd hgl) rfl ?_
        refine A4 rfl (G9 (e := 5) (sz := 1) (by_ := 1) rfl rfl kR rfl Sl.nil (hby2.rd.mono fun x hx => qS _ (hs x hx)) F3 qP (by unfold maxLen; omega) qO rfl fun v45 B45 hs45 => ?_)
        haveI := hs45.cel
        refine as_ (A0 (D8 0 5 6) (A1 (mv_ (mv_ ?_))))
        refine A2 (E4 rfl) rfl ?_
        refine A2 (qf_ 0 0) rfl ?_
        refine A2 ql_ rfl ?_
        refine mv_ ?_
        refine A2 (A15 (sz := 1) (a := n) rfl rfl kR rfl hbw.rd hgl) rfl ?_
        refine A2 (E4 rfl) rfl ?_
        refine A2 (qf_ 0 0) rfl ?_
        refine A4 rfl (E0 rfl rfl hy1 kR SetC.set UpC.upd ?_)
        refine A0 (D5 6) (A1 (mv_ (as_ (A0 (D5 4) (B0 ?_)))))
        refine ⟨_, [(rb, blk [vLo n 1 w, .bool s1.2] 97)], B45, I4 rfl rfl, Fit.pick qP (Fit.last qP), ?_, ?_⟩
        · rw [hr1]
          exact ⟨by simpa using hs45.rd (R := B45 ++ J8) qS, hby2.lt, hby2.len⟩
        · rw [hr2]
          exact ⟨_, by rw [hbd], hby3⟩
theorem Rdr.rd {rb : Nat} {st : Rst} {R M A : Mem} (h : Rdr rb st R M) (hs : ∀ x, x ∈ M → x ∈ A) : ∃ v, (rb, blk [v, .bool st.2] 97) ∈ A ∧ By R v st.1 := by
  obtain ⟨v, rfl, h2⟩ := h.ex
  exact ⟨v, hs _ qM, h2⟩
theorem A37 (rb : Nat) (st : Rst) (R A : Mem) (hR : ∃ v, (rb, blk [v, .bool st.2] 97) ∈ A ∧ By R v st.1) : FnV Tryz.prog 46 [(vP rb)] A (.bool st.2) := by
 obtain ⟨v, hrb, hby⟩ := hR
 haveI := hby.cel
 refine FnX.enter (N := 11) Tryz.func46 rfl rfl rfl fun w => ?_
 refine B4 (D5 0) (A1 (as_ (A0 (D5 0) (A1 (mv_ ?_)))))
 refine A2 (G5 (e := 97) rfl rfl kR) rfl ?_
 refine mv_ ?_
 refine D6 rfl rfl (OpQ.opL qm_ rfl ?_)
 refine D6 rfl rfl (OpQ.opL (E4 rfl) rfl ?_)
 refine D6 rfl rfl (OpQ.opL (qf_ 1 1) rfl ?_)
 refine D6 rfl rfl (OpQ.opL (I7 rfl kR (mA hrb) qR) rfl ?_)
 refine A2 (E3 rfl rfl) rfl ?_
 refine as_ (A0 (D5 2) (B0 ?_))
 exact ⟨_, [], [], I4 rfl rfl, List.nil_sublist _, by simp, rfl, rfl, rfl⟩
theorem A6N (rb : Nat) (st : Rst) (R A : Mem) (hR : ∃ v, (rb, blk [v, .bool st.2] 97) ∈ A ∧ By R v st.1) : FnV Tryz.prog 22 [(vP rb)] A (.bool (B9g st)) := by
 obtain ⟨v, hrb, hby⟩ := hR
 haveI := hby.cel
 refine FnX.enter (N := 14) Tryz.func22 rfl rfl rfl fun w => ?_
 refine B4 (D5 0) (A1 (as_ (A0 (D5 0) (A1 (mv_ ?_)))))
 refine F0 (aS rfl a0) kR (A37 rb st R _ ⟨v, qS _ hrb, hby⟩) rfl ?_
 refine A2 (Y0 rfl) rfl ?_
 refine mv_ ?_
 refine P6 (t := 6) rfl (fun hb => ?_) (fun hb => ?_)
 ·
  have hb1 := hb
  refine D6 rfl rfl (OpQ.opL qm_ rfl ?_)
  refine D6 rfl rfl (OpQ.opL (E4 rfl) rfl ?_)
  refine D6 rfl rfl (OpQ.opL (qf_ 0 0) rfl ?_)
  refine D6 rfl rfl (OpQ.opL (I7 rfl kR (mA hrb) qR) rfl ?_)
  refine D6 rfl rfl (OpQ.opL (F8 (sz := 1) rfl kR hby.rd) rfl ?_)
  refine D6 rfl rfl (OpQ.opL (F4 (decide (st.1.length = 0)) rfl rfl (B7m _)) rfl ?_)
  refine A2 (E2 rfl rfl) rfl ?_
  refine as_ (A0 (D5 2) (B0 ?_))
  exact ⟨_, [], [], I4 rfl rfl, List.nil_sublist _, by simp, by unfold B9g; rw [hb1]; rfl, rfl, rfl⟩
 ·
  have hb1 := hb
  refine E7 rfl rfl rfl rfl ?_
  refine E7 rfl rfl rfl rfl ?_
  refine E7 rfl rfl rfl rfl ?_
  refine E7 rfl rfl rfl rfl ?_
  refine E7 rfl rfl rfl rfl ?_
  refine E7 rfl rfl rfl rfl ?_
  refine A2 (E3 rfl rfl) rfl ?_
  refine as_ (A0 (D5 2) (B0 ?_))
  exact ⟨_, [], [], I4 rfl rfl, List.nil_sublist _, by simp, by unfold B9g; rw [hb1]; rfl, rfl, rfl⟩

theorem A1P {n : Nat} (h : n < 18446744073709551616) : IntKind.u64.wrap (n : Int) = (n : Int) := B2R qO qO
theorem A5O {n : Nat} (h : n < 4294967296) : IntKind.u32.wrap (n : Int) = (n : Int) := A48 qO qO
def u32N (x : Int) : Nat := (x % 4294967296).toNat
def u64N (x : Int) : Nat := (x % 18446744073709551616).toNat
theorem B5v {n k : Nat} {r : LN} (h : n < 256 ^ k) : rnN (beN n k ++ r, false) k = n ∧ rnS (beN n k ++ r, false) k = (r, false) := by
  have hl := L9 n k
  obtain ⟨h1, h2⟩ := B7j (st := (beN n k ++ r, false)) (k := k) rfl (by simp [hl])
  rw [h1, h2]
  refine ⟨?_, ?_⟩
  · show bev ((beN n k ++ r).take k) = n
    rw [List.take_left' hl]; exact B1w h
  · show ((beN n k ++ r).drop k, false) = _
    rw [List.drop_left' hl]
theorem B9h {w r : LN} {most : Nat} (h : w.length ≤ most) (h2 : w.length < 4294967296) : rbN (beN w.length 4 ++ w ++ r, false) most = w ∧ rbS (beN w.length 4 ++ w ++ r, false) most = (r, false) := by
  have e : beN w.length 4 ++ w ++ r = beN w.length 4 ++ (w ++ r) := List.append_assoc _ _ _
  obtain ⟨h3, h4⟩ := B5v (n := w.length) (k := 4) (r := w ++ r) h2
  rw [e]
  obtain ⟨h5, h6⟩ := B7k (st := (beN w.length 4 ++ (w ++ r), false)) (most := most) (by rw [h4]) (by rw [h3]; exact h) (by rw [h3, h4]; simp)
  rw [h5, h6, h3, h4]
  exact ⟨by simp, by simp⟩
def ctN (st : Rst) (most : Nat) : Nat := if rnN st 2 > most then 0 else rnN st 2
def ctS (st : Rst) (most : Nat) : Rst := if rnN st 2 > most then ((rnS st 2).1, true) else rnS st 2
theorem B5w (st : Rst) (most : Nat) : ctN st most ≤ most := by unfold ctN; split <;> omega

def A5P (k : LN) (p n : Nat) : LN := ((beN k.length 4 ++ k) ++ beN p 4) ++ beN n 4
theorem A2h (k : LN) (p n : Nat) : (A5P k p n).length = k.length + 12 := by simp [A5P, L9]; omega
def A4Z (w h : LN) : LN := ((beN w.length 4 ++ w) ++ beN h.length 4) ++ h
theorem A2y (w h : LN) : (A4Z w h).length = w.length + h.length + 8 := by simp [A4Z, L9]; omega
theorem B7n (pb : Nat) (s : Ps) (v1 v2 : Value) (sec their : LN) (MP A : Mem) (hP : Prm pb s MP) (hn : s.ts.length + 200 ≤ 1040000) (hk : s.n < 1000000000) (h1 : By A v1 sec) (h2 : By A v2 their) (hG : Glb A) : FnX Tryz.prog 26 [(vP pb), v1, v2] MP A fun q M J => Prm pb (A9w s sec their) M ∧ RsV (J ++ A) q (A9v s sec their) := by
 haveI := h1.cel
 haveI := h2.cel
 have hfl := A0T s
 refine FnX.enterZ (N := 27) Tryz.func26 rfl rfl rfl fun w_ => ?_
 refine B4 (D8 0 1 2) (A1 ?_)
 refine A4 rfl (C3 (cs := [vS, vS, vS, vS, F5, vS, F5, F5, .pointer none]) kR rfl fun b6 => ?_)
 refine A0 (D7 0 1 2 6) (A1 (mv_ ?_))
 refine A4 rfl (C6 (Mc := MP) (R := _) (aS rfl (a0)) kR qP (A1p pb s MP _ hP qO qO hG.up) rfl ?_)
 rintro v9 M9 J9 ⟨hP9, h9⟩
 haveI := h9.cel
 refine mv_ ?_
 refine C7 (aS rfl a0) kR (A0U v2 their _ (h2.mono qS)) rfl ?_
 rintro v11 M11 J11 ⟨rfl, h11⟩
 haveI := h11.cel
 refine A2 (F6 (place := fun x => #[(0, 1)][x]?) (z := [vS]) (fun _ => by kernel_rfl) e0 bd0) rfl ?_
 refine A4 rfl (bx_ fun b13 => ?_)
 refine A2 (F6 (place := fun x => #[(0, 1), (1, 1), (2, 1), (3, 2), (5, 2), (7, 1), (8, 1)][x]?) (z := [vS, vS, vS, vS, F5, vS, F5, F5, .pointer none]) (fun _ => by kernel_rfl) (eS rfl (eS rfl (eS rfl e0))) (bdS 0 1 rfl qR (bdS 1 1 rfl qR (bdS 8 1 rfl qR bd0)))) rfl ?_
 refine A4 rfl (C3 (cs := [vS, vS, vS, vS, F5, vS, F5, F5, .pointer none]) kR rfl fun b7 => ?_)
 refine A4 rfl (A8 (vs := [v9, v11, vS, vS, .int .u32 0, vS, .int .u32 0, .int .u32 0, (vP b13)]) rfl rfl rfl kR qR (A6 h9.one (A6 h11.one (A6 rfl al6))) UpC.upd ?_)
 refine A0 (E6 0 1 2 6 7) (A1 (mv_ (mv_ ?_)))
 refine A2 (qf_ 0 0) rfl ?_
 refine A2 ql_ rfl ?_
 refine mv_ ?_
 refine A4 rfl (C6 (Mc := M9) (R := _) (aS rfl (aS rfl (aS rfl (aS rfl (a0))))) kR qP (B1A pb (F2 s) v1 v9 v2 sec (I9 s) their M9 _ hP9 qO (h1.mono qS) (h9.mono qS) (h2.mono qS) hG.up) rfl ?_)
 rintro v21 M21 J21 ⟨u0, u1, rfl, hP21, g0, g1⟩
 haveI := g0.cel
 haveI := g1.cel
 refine mv_ ?_
 refine A2 (A0G rfl) rfl ?_
 refine A2 (A0x rfl) rfl ?_
 refine A2 (qf_ 2 2) rfl ?_
 refine A4 rfl (E0 rfl rfl g0.one kR SetC.set UpC.upd ?_)
 refine A2 (qf_ 3 3) rfl ?_
 refine A4 rfl (L3 (vs := [u1, .int .u32 0]) (cs' := [v9, v11, u0, u1, .int .u32 0, vS, .int .u32 0, .int .u32 0, (vP b13)]) rfl rfl rfl kR (by exact (show 3 + 2 ≤ 9 by decide)) (A6 g1.one (A6 rfl I6)) rfl UpC.upd ?_)
 refine A0 (D3 6 7) ?_
 refine A0Z (B := [(b13, blk [vS] 80)]) qP ?_
 refine A1 ?_
 refine A2 (qw_ 9) rfl ?_
 refine A4 rfl (A8 (vs := [v9, v11, u0, u1, .int .u32 0, vS, .int .u32 0, .int .u32 0, (vP b13)]) rfl rfl rfl kR qR (A6 h9.one (A6 h11.one (A6 g0.one (A6 g1.one al5)))) UpC.upd ?_)
 refine A0 (D5 6) (B0 ?_)
 exact ⟨_, M21, [], A4l (n := 9) rfl rfl kR At.mem qR, Fit.none (Fit.last qP), hP21, v9, v11, u0, u1, vS, _, rfl, ⟨h9.mono qS, h11.mono qS, g0.mono qS, g1.mono qS, By.nil, StF.new qM, (show 0 < 4294967296 by decide), (show 0 < 4294967296 by decide), (show 0 < 4294967296 by decide), (show 0 ≤ 1000 by decide)⟩⟩
theorem B7o (v1 v2 : Value) (sec own : LN) (A : Mem) (h1 : By A v1 sec) (h2 : By A v2 own) : FnX Tryz.prog 17 [v1, v2] [] A fun q M J => M = [] ∧ RsV (J ++ A) q (B7i sec own) := by
 haveI := h1.cel
 haveI := h2.cel
 refine FnX.enterZ (N := 12) Tryz.func17 rfl rfl rfl fun w_ => ?_
 refine B4 (D3 0 1) (A1 ?_)
 refine A4 rfl (C3 (cs := [vS, vS, vS, vS, F5, vS, F5, F5, .pointer none]) kR rfl fun b4 => ?_)
 refine A0 (D8 0 1 4) (A1 (mv_ ?_))
 refine C7 (aS rfl a0) kR (A0U v2 own _ (h2.mono qS)) rfl ?_
 rintro v6 M6 J6 ⟨rfl, h6⟩
 haveI := h6.cel
 refine mv_ ?_
 refine C7 (aS rfl a0) kR (A0U v1 sec _ (h1.mono qS)) rfl ?_
 rintro v8 M8 J8 ⟨rfl, h8⟩
 haveI := h8.cel
 refine A2 (F6 (place := fun x => #[(0, 1)][x]?) (z := [vS]) (fun _ => by kernel_rfl) e0 bd0) rfl ?_
 refine A4 rfl (bx_ fun b10 => ?_)
 refine A2 (F6 (place := fun x => #[(0, 1), (1, 1), (2, 1), (3, 2), (5, 2), (7, 1), (8, 1)][x]?) (z := [vS, vS, vS, vS, F5, vS, F5, F5, .pointer none]) (fun _ => by kernel_rfl) (eS rfl (eS rfl (eS rfl e0))) (bdS 0 1 rfl qR (bdS 2 1 rfl qR (bdS 8 1 rfl qR bd0)))) rfl ?_
 refine A4 rfl (A8 (vs := [v6, vS, v8, vS, .int .u32 0, vS, .int .u32 0, .int .u32 0, (vP b10)]) rfl rfl rfl kR qR (A6 h6.one (A6 rfl (A6 h8.one al6))) UpC.upd ?_)
 refine A0 (D5 4) (B0 ?_)
 exact ⟨_, [], [(b10, blk [vS] 80)], A4l (n := 9) rfl rfl kR At.mem qR, Fit.pick (B := [_]) qP qZ, rfl, v6, vS, v8, vS, vS, _, rfl, ⟨h6.mono qS, By.nil, h8.mono qS, By.nil, By.nil, StF.new qM, (show 0 < 4294967296 by decide), (show 0 < 4294967296 by decide), (show 0 < 4294967296 by decide), (show 0 ≤ 1000 by decide)⟩⟩
theorem A7s (r : Rsd) (vo vt vr vk vl vs : Value) (A : Mem) (hr : RsR A r vo vt vr vk vl vs) : FnX Tryz.prog 13 [.agg (rsC vo vt vr vk vl vs r).toArray] [] A fun q M J => ∃ cb, q = .agg (rsC vo vt vr vk vl (vP cb) r).toArray ∧ Sto A cb r.sks M := by
 haveI := hr.own.cel
 haveI := hr.their.cel
 haveI := hr.root.cel
 haveI := hr.sk.cel
 haveI := hr.tk.cel
 obtain ⟨sb, u, rows, rfl, hsb, hrd, hrw⟩ := hr.st
 have hsl := hr.sks
 unfold rsC
 refine FnX.enterZ (N := 8) Tryz.func13 rfl rfl rfl fun w_ => ?_
 refine B4 (D5 0) (A1 ?_)
 refine A4 rfl (bx_ fun b1 => ?_)
 refine A4 rfl (C3 (cs := [vS, vS, vS, vS, F5, vS, F5, F5, .pointer none]) kR rfl fun b2 => ?_)
 refine A0 (D3 1 2) (A1 ?_)
 refine A2 (qf_ 8 8) rfl ?_
 refine A2 ql_ rfl ?_
 refine C7 (aS rfl a0) kR (B1q sb _ u rows.flatten _ (mA hsb) (hrd.mono qS) (hrw.ones skT) qO) rfl ?_
 rintro v5 M5 J5 ⟨cb, u5, B5, rfl, rfl, hs5⟩
 refine A2 (qf_ 8 8) rfl ?_
 refine A4 rfl (E0 rfl rfl rfl kR SetC.set UpC.upd ?_)
 refine A0 (D3 1 2) (A1 ?_)
 refine A2 (qw_ 9) rfl ?_
 refine A4 rfl (A8 (vs := [vo, vt, vr, vk, (vU r.sn), vl, (vU r.tn), (vU r.prev), (vP cb)]) rfl rfl rfl kR qR (A6 hr.own.one (A6 hr.their.one (A6 hr.root.one (A6 hr.sk.one (A6 rfl (A6 hr.tk.one al3)))))) UpC.upd ?_)
 refine A0 (D5 2) (B0 ?_)
 exact ⟨_, (cb, blk [u5] 80) :: B5, [], A4l (n := 9) rfl rfl kR At.mem qR, Fit.none (Fit.pick (B := [_]) qP (Fit.last qP)), cb, rfl, ⟨u5, rows, B5, rfl, hs5, hrw⟩⟩
theorem B4m (vk : Value) (k : LN) (p n : Nat) (A : Mem) (hk : By A vk k) (hl : k.length ≤ 16000000) (hp : p < 4294967296) (hn : n < 4294967296) : FnX Tryz.prog 67 [.agg #[vk, (vU p), (vU n)]] [] A fun q M J => M = [] ∧ By J q (A5P k p n) := by
 haveI := hk.cel
 refine FnX.enterZ (N := 19) Tryz.func67 rfl rfl rfl fun w_ => ?_
 refine B4 (D5 0) (A1 ?_)
 refine A4 rfl (bx_ fun b1 => ?_)
 refine as_ (A0 (D5 1) (A1 ?_))
 refine A2 (F6 (place := fun x => #[(0, 1)][x]?) (z := [vS]) (fun _ => by kernel_rfl) e0 bd0) rfl ?_
 refine A4 rfl (bx_ fun b5 => ?_)
 refine as_ (A0 (D3 1 3) ?_)
 refine K8 ([(b5, blk [vS] 64)]) (_) true (.range 14) [(0, 0), (1, 0), (2, 1), (4, 0), (5, 1), (6, 0), (8, 0), (9, 1), (10, 0), (3, 2), (7, 2), (11, 2), (12, 2), (13, 0)] kR kR qP fun hs K n0 hKm hKs hKn => ?_
 refine km_ hs ?_
 refine K1 hs rfl (qf_ 0 0) rfl ?_
 refine V2 hs rfl hKs ql_ ?_
 refine K1 hs rfl (qf_ 1 1) rfl ?_
 refine V2 hs rfl hKs ql_ ?_
 refine K1 hs rfl (K2 (k' := .u64) p rfl kR (A1P qO)) rfl ?_
 refine K1 hs rfl (qf_ 2 2) rfl ?_
 refine V2 hs rfl hKs ql_ ?_
 refine K1 hs rfl (K2 (k' := .u64) n rfl kR (A1P qO)) rfl ?_
 refine N2 _ _ rfl rfl (List.Perm.refl _) hKm fun w0 => (C6 (Mc := [(b5, blk [vS] 64)]) (R := _) (aS rfl (aS rfl (a0))) kR qP (N4 b5 vk k [] _ _ Wtr.new (hk.mono qS) qD) rfl ?_)
 rintro v9 M9 J9 ⟨rfl, hW9⟩ hKx9
 refine N2 M9 _ rfl rfl qP (fun x hx => hKx9 (hKn rfl) x (by simpa using hx)) fun w0 => (C6 (Mc := M9) (R := _) (aS rfl (aS rfl (aS rfl (a0)))) kR qP (A0f b5 p 4 _ _ _ hW9 qO qD (by simp [L9]; omega)) rfl ?_)
 rintro v13 M13 J13 ⟨rfl, hW13⟩ hKx13
 refine N2 M13 _ rfl rfl qP (fun x hx => hKx13 (hKn rfl) x (by simpa using hx)) fun w0 => (C6 (Mc := M13) (R := _) (aS rfl (aS rfl (aS rfl (a0)))) kR qP (A0f b5 n 4 _ _ _ hW13 qO qD (by simp [L9]; omega)) rfl ?_)
 rintro v17 M17 J17 ⟨rfl, hW17⟩ hKx17
 refine N2 M17 _ rfl rfl qP (fun x hx => hKx17 (hKn rfl) x (by simpa using hx)) fun w0 => (C6 (Mc := M17) (R := _) (aS rfl (a0)) kR qP (A0D b5 _ M17 _ hW17 (by simp [L9]; omega)) rfl ?_)
 rintro v18 M18 J18 ⟨hW18, h18⟩ hKx18
 haveI := h18.cel
 refine K1 hs rfl (G6 rfl) rfl ?_
 refine P8 (D5 2) (B0 ?_)
 exact ⟨_, [], [], I4 rfl rfl, qZ, rfl, h18.mono qS⟩
theorem B1C (vw vk : Value) (w k : LN) (p n : Nat) (A : Mem) (hw : By A vw w) (hk : By A vk k) (hl : w.length + k.length ≤ 16000000) (hp : p < 4294967296) (hn : n < 4294967296) : FnX Tryz.prog 39 [vw, .agg #[vk, (vU p), (vU n)]] [] A fun q M J => M = [] ∧ By J q (A4Z w (A5P k p n)) := by
 haveI := hw.cel
 haveI := hk.cel
 refine FnX.enterZ (N := 15) Tryz.func39 rfl rfl rfl fun w_ => ?_
 refine B4 (D3 0 1) (A1 ?_)
 refine A4 rfl (bx_ fun b3 => ?_)
 refine as_ (A0 (D3 0 3) (A1 ?_))
 refine A2 (F6 (place := fun x => #[(0, 1)][x]?) (z := [vS]) (fun _ => by kernel_rfl) e0 bd0) rfl ?_
 refine A4 rfl (bx_ fun b7 => ?_)
 refine as_ (A0 (D8 0 3 5) ?_)
 refine K8 ([(b7, blk [vS] 64)]) (_) true (.range 8) [(0, 0), (1, 0), (3, 1), (2, 2), (4, 2), (5, 2), (6, 2), (7, 0)] kR kR qP fun hs K n0 hKm hKs hKn => ?_
 refine km_ hs ?_
 refine km_ hs ?_
 refine V2 hs rfl hKs (qw_ 3) ?_
 refine N2 _ _ rfl rfl (List.Perm.refl _) hKm fun w0 => (C6 (Mc := [(b7, blk [vS] 64)]) (R := _) (aS rfl (aS rfl (a0))) kR qP (N4 b7 vw w [] _ _ Wtr.new (hw.mono qS) qD) rfl ?_)
 rintro v10 M10 J10 ⟨rfl, hW10⟩ hKx10
 refine N2 [] _ rfl rfl (List.Perm.refl _) (fun _ h => by cases h) fun w0 => (I1 (aS rfl a0) kR (B4m vk k p n _ (hk.mono qS) qO hp hn) rfl ?_)
 rintro v12 M12 J12 ⟨rfl, h12⟩ _
 haveI := h12.cel
 dsimp only [List.nil_append, List.append_eq]
 refine N2 M10 _ rfl rfl qP (fun x hx => hKx10 (hKn rfl) x (by simpa using hx)) fun w0 => (C6 (Mc := M10) (R := _) (aS rfl (aS rfl (a0))) kR qP (N4 b7 v12 (A5P k p n) _ _ _ hW10 (h12.mono qS) (by simp [L9]; omega)) rfl ?_)
 rintro v13 M13 J13 ⟨rfl, hW13⟩ hKx13
 refine N2 M13 _ rfl rfl qP (fun x hx => hKx13 (hKn rfl) x (by simpa using hx)) fun w0 => (C6 (Mc := M13) (R := _) (aS rfl (a0)) kR qP (A0D b7 _ M13 _ hW13 (by simp [L9, A2h]; omega)) rfl ?_)
 rintro v14 M14 J14 ⟨hW14, h14⟩ hKx14
 haveI := h14.cel
 refine K1 hs rfl (G6 rfl) rfl ?_
 refine P8 (D5 4) (B0 ?_)
 exact ⟨_, [], [], I4 rfl rfl, qZ, rfl, h14.mono qS⟩

def rolN (x n : Nat) : Nat := (x <<< n) % 4294967296 ||| x >>> (32 - n)
theorem B7p {x n : Nat} (hx : x < 4294967296) : rolN x n < 4294967296 := B2F U0 (A9N hx)
def wrdN (p : LN) : Nat := ((p.getD 0 0 ||| (p.getD 1 0 <<< 8) % 4294967296) ||| (p.getD 2 0 <<< 16) % 4294967296) ||| (p.getD 3 0 <<< 24) % 4294967296
theorem A05 {p : LN} (h : ∀ x ∈ p, x < 256) (i : Nat) : p.getD i 0 < 256 := by
  rw [List.getD_eq_getElem?_getD]
  cases hq : p[i]? with
  | none => decide
  | some x => exact h x (List.mem_of_getElem? hq)
theorem B1D {p : LN} (h : ∀ x ∈ p, x < 256) : wrdN p < 4294967296 := B2F (B2F (B2F (by have := A05 h 0; omega) U0) U0) U0
theorem A3e (x n : Nat) (A : Mem) (hx : x < 4294967296) (h0 : 0 < n) (hn : n < 32) : FnV Tryz.prog 118 [(vU x), (vI n)] A (.int .u32 ((rolN x n : Nat) : Int)) := by
 refine FnX.enter (N := 17) Tryz.func118 rfl rfl rfl fun w => ?_
 refine B4 (D3 0 1) (A1 (as_ (A0 (D3 0 1) (A1 (mv_ ?_)))))
 refine A2 (K2 (k' := .u64) n rfl kR (A1P qO)) rfl ?_
 refine A2 (D1 ((n : Nat) : Int) rfl rfl ((C0c (k := .u64) (b := 31) rfl (by show _ < 2 ^ 64; omega) qD).trans (by rw [Nat.and_two_pow_sub_one_eq_mod _ 5, Nat.mod_eq_of_lt qO]))) rfl ?_
 refine as_ (A0 (D3 0 5) (A1 (mv_ (mv_ ?_))))
 refine A2 (A1a n rfl rfl rfl qO) rfl ?_
 refine mv_ (mv_ ?_)
 refine A2 (D1 ((32 - n : Nat) : Int) rfl rfl ((C0b (k := .u64) (a := 32) (b := n) rfl (32 - n) (by show _ ≤ 2 ^ 64; omega) (by show (32 + (18446744073709551616 - n)) % 18446744073709551616 = 32 - n; omega)))) rfl ?_
 refine A2 (T0 (32 - n) rfl rfl rfl (by show 32 - n ≤ 32; omega)) rfl ?_
 refine A2 (A2F rfl rfl U0 (A9N hx)) rfl ?_
 refine as_ (A0 (D5 4) (B0 ?_))
 exact ⟨_, [], [], I4 rfl rfl, List.nil_sublist _, by simp, rfl, rfl, rfl⟩
theorem A3f {n : Nat} (h : n < 256) : IntKind.u32.wrap (n : Int) = (n : Int) := by
  unfold IntKind.wrap
  simp [IntKind.signed, IntKind.bits]
  omega
theorem B5x (v : Value) (w : LN) (A : Mem) (hv : By A v w) (hl : 4 ≤ w.length) : FnV Tryz.prog 112 [v] A (.int .u32 ((wrdN w : Nat) : Int)) := by
 haveI := hv.cel
 refine FnX.enter (N := 25) Tryz.func112 rfl rfl rfl fun w_ => ?_
 refine B4 (D5 0) (A1 (as_ (A0 (D5 0) ?_)))
 refine D2 (.range 23) (zp 0 [0, 0, 1, 0, 0, 0, 1, 0, 0, 0, 0, 0, 1, 0, 0, 0, 0, 0, 1, 0, 0, 0, 0]) kR kR fun hs => ?_
 refine fm_ hs ?_
 refine C2 hs rfl (G8 (sz := 1) (a := 0) rfl rfl kR rfl hv.rd qO) rfl ?_
 refine H2 hs rfl (A0K (k := .u8) rfl kR (hv.rd.mono qS) qO) rfl ?_
 refine C2 hs rfl (K2 (k' := .u32) (w.getD 0 0) rfl kR (A3f (A05 hv.lt 0))) rfl ?_
 refine fm_ hs ?_
 refine C2 hs rfl (G8 (sz := 1) (a := 1) rfl rfl kR rfl hv.rd qO) rfl ?_
 refine H2 hs rfl (A0K (k := .u8) rfl kR (hv.rd.mono qS) qO) rfl ?_
 refine C2 hs rfl (K2 (k' := .u32) (w.getD 1 0) rfl kR (A3f (A05 hv.lt 1))) rfl ?_
 refine C2 hs rfl (A1a 8 rfl rfl rfl qD) rfl ?_
 refine C2 hs rfl (A2F rfl rfl (by have := A05 hv.lt 0; omega) U0) rfl ?_
 refine fm_ hs ?_
 refine C2 hs rfl (G8 (sz := 1) (a := 2) rfl rfl kR rfl hv.rd qO) rfl ?_
 refine H2 hs rfl (A0K (k := .u8) rfl kR (hv.rd.mono qS) qO) rfl ?_
 refine C2 hs rfl (K2 (k' := .u32) (w.getD 2 0) rfl kR (A3f (A05 hv.lt 2))) rfl ?_
 refine C2 hs rfl (A1a 16 rfl rfl rfl qD) rfl ?_
 refine C2 hs rfl (A2F rfl rfl (B2F (by have := A05 hv.lt 0; omega) U0) U0) rfl ?_
 refine fm_ hs ?_
 refine C2 hs rfl (G8 (sz := 1) (a := 3) rfl rfl kR rfl hv.rd qO) rfl ?_
 refine H2 hs rfl (A0K (k := .u8) rfl kR (hv.rd.mono qS) qO) rfl ?_
 refine C2 hs rfl (K2 (k' := .u32) (w.getD 3 0) rfl kR (A3f (A05 hv.lt 3))) rfl ?_
 refine C2 hs rfl (A1a 24 rfl rfl rfl qD) rfl ?_
 refine C2 hs rfl (A2F rfl rfl (B2F (B2F (by have := A05 hv.lt 0; omega) U0) U0) U0) rfl ?_
 refine fa_ hs ?_
 refine E9 (D5 2) (B0 ?_)
 exact ⟨_, [], [], I4 rfl rfl, List.nil_sublist _, by simp, rfl, rfl, rfl⟩
theorem A38 (v : Value) (w : LN) (n : Nat) (A : Mem) (hv : By A v w) (hn : n ≤ 16000000) : FnX Tryz.prog 96 [v, .int .i64 (n : Int)] [] A fun q M J => M = [] ∧ By J q (G7 w n) := by
 haveI := hv.cel
 have hvl := hv.len
 refine FnX.enterZ (N := 12) Tryz.func96 rfl rfl rfl fun w_ => ?_
 refine B4 (D3 0 1) (A1 (as_ (A0 (D3 0 1) (A1 (mv_ ?_)))))
 refine A4 rfl (A0I (by_ := 1) (k := .u8) (e := 5) n rfl rfl kR rfl rfl qO qO rfl fun b7 => ?_)
 refine as_ (A0 (D3 0 5) (A1 (mv_ (mv_ ?_))))
 refine A4 rfl (A3F (e := 5) (us := w) (ws := List.replicate n 0) (ws' := G7 w n) (by_ := 1) rfl rfl kR (hv.rd.mono qS) qM (by simp [G7]) UpC.upd rfl ?_)
 refine A0 (D5 5) (A1 (mv_ (as_ (A0 (D5 4) (B0 ?_)))))
 refine ⟨_, [], [(b7, blk (nums .u8 (G7 w n)) 5)], I4 rfl rfl, Fit.eq qM, ⟨rfl, ⟨?_, A1j hv.lt n, by rw [K6]; omega⟩⟩⟩
 rw [K6]
 exact Rd.whole (n := n) qK (by simp [K6])

def adW (S : LN) (a b : Nat) : LN := S.set a ((S.getD a 0 + S.getD b 0) % 4294967296)
def xrW (S : LN) (d a n : Nat) : LN := S.set d (rolN (S.getD d 0 ^^^ S.getD a 0) n)
def B9i (S : LN) (a b c d : Nat) : LN := xrW (adW (xrW (adW (xrW (adW (xrW (adW S a b) d a 16) c d) b c 12) a b) d a 8) c d) b c 7
structure W16 (S : LN) : Prop where
  len : S.length = 16
  lt : ∀ x ∈ S, x < 4294967296
theorem W16.get {S : LN} (h : W16 S) (i : Nat) : S.getD i 0 < 4294967296 := by
  rw [List.getD_eq_getElem?_getD]
  cases hq : S[i]? with
  | none => decide
  | some x => exact h.lt x (List.mem_of_getElem? hq)
theorem W16.set {S : LN} (h : W16 S) (i x : Nat) (hx : x < 4294967296) : W16 (S.set i x) := ⟨by rw [List.length_set]; exact h.len, fun y hy => by rcases List.mem_or_eq_of_mem_set hy with h1 | rfl; exact h.lt y h1; exact hx⟩
theorem xor32 {a b : Nat} (ha : a < 4294967296) (hb : b < 4294967296) : a ^^^ b < 4294967296 := Nat.xor_lt_two_pow (n := 32) ha hb
theorem W16.ad {S : LN} (h : W16 S) (a b : Nat) : W16 (adW S a b) := h.set _ _ (Nat.mod_lt _ qD)
theorem W16.xr {S : LN} (h : W16 S) (d a n : Nat) : W16 (xrW S d a n) := h.set _ _ (B7p (xor32 (h.get d) (h.get a)))
theorem W16.trn {S : LN} (h : W16 S) (a b c d : Nat) : W16 (B9i S a b c d) := (((((((h.ad a b).xr d a 16).ad c d).xr b c 12).ad a b).xr d a 8).ad c d).xr b c 7
theorem B1E (sb : Nat) (S0 : LN) (a b c d : Nat) (A : Mem) (hS0 : W16 S0) (ha_ : a < 16) (hb_ : b < 16) (hc_ : c < 16) (hd_ : d < 16) : FnX Tryz.prog 113 [(vP sb), (vI a), (vI b), (vI c), (vI d)] [(sb, blk (nums .u32 S0) 179)] A fun q M J => q = .tuple #[] ∧ M = [(sb, blk (nums .u32 (B9i S0 a b c d)) 179)] ∧ J = [] := by
 refine FnX.enterZ (N := 126) Tryz.func113 rfl rfl rfl fun w_ => ?_
 refine B4 (E6 0 1 2 3 4) ?_
 refine D2 (.range 13) (zp 0 [0, 0, 0, 0, 1, 0, 0, 0, 0, 1, 0, 0, 0, 2]) kR kR fun hs => ?_
 refine fm_ hs ?_
 refine fm_ hs ?_
 refine C2 hs rfl (E4 rfl) rfl ?_
 refine C2 hs rfl (D0 (e := 27) (n := 16) (sz := 1) (i := a) a rfl rfl kR kR rfl ha_ qO) rfl ?_
 refine H2 hs rfl (I3 a rfl kR At.mem rfl (by rw [hS0.len]; exact ha_)) rfl ?_
 refine fm_ hs ?_
 refine fm_ hs ?_
 refine C2 hs rfl (E4 rfl) rfl ?_
 refine C2 hs rfl (D0 (e := 27) (n := 16) (sz := 1) (i := b) b rfl rfl kR kR rfl hb_ qO) rfl ?_
 refine H2 hs rfl (I3 b rfl kR At.mem rfl (by rw [hS0.len]; exact hb_)) rfl ?_
 refine C2 hs rfl (G1 4294967296 rfl rfl rfl rfl rfl rfl) rfl ?_
 refine C2 hs rfl (E4 rfl) rfl ?_
 refine C2 hs rfl (D0 (e := 27) (n := 16) (sz := 1) (i := a) a rfl rfl kR kR rfl ha_ qO) rfl ?_
 refine G2 rfl rfl rfl (I8 a rfl rfl kR rfl (by rw [hS0.len]; exact ha_) UpC.upd ?_)
 refine E9 (E6 0 1 2 3 4) ?_
 have hS1 := hS0.ad a b
 change W16 (S0.set a ((S0.getD a 0 + S0.getD b 0) % 4294967296)) at hS1
 obtain ⟨S1, e1⟩ : ∃ z, S0.set a ((S0.getD a 0 + S0.getD b 0) % 4294967296) = z := ⟨_, rfl⟩
 rw [e1] at hS1 ⊢
 change adW S0 a b = S1 at e1
 refine D2 (.range 16) [(0, 0), (1, 0), (2, 0), (3, 0), (4, 0), (5, 0), (6, 1), (7, 0), (8, 0), (9, 0), (10, 0), (11, 1), (12, 0), (14, 0), (13, 2), (15, 0), (16, 2)] kR kR fun hs => ?_
 refine fm_ hs ?_
 refine fm_ hs ?_
 refine fm_ hs ?_
 refine fm_ hs ?_
 refine C2 hs rfl (E4 rfl) rfl ?_
 refine C2 hs rfl (D0 (e := 27) (n := 16) (sz := 1) (i := d) d rfl rfl kR kR rfl hd_ qO) rfl ?_
 refine H2 hs rfl (I3 d rfl kR At.mem rfl (by rw [hS1.len]; exact hd_)) rfl ?_
 refine fm_ hs ?_
 refine fm_ hs ?_
 refine C2 hs rfl (E4 rfl) rfl ?_
 refine C2 hs rfl (D0 (e := 27) (n := 16) (sz := 1) (i := a) a rfl rfl kR kR rfl ha_ qO) rfl ?_
 refine H2 hs rfl (I3 a rfl kR At.mem rfl (by rw [hS1.len]; exact ha_)) rfl ?_
 refine C2 hs rfl (T9 rfl rfl (hS1.get _) (hS1.get _)) rfl ?_
 refine C2 hs rfl (E4 rfl) rfl ?_
 refine N3 rfl (aS rfl (aS rfl a0)) kR (A3e _ 16 _ (xor32 (hS1.get _) (hS1.get _)) qD qD) rfl ?_
 refine C2 hs rfl (D0 (e := 27) (n := 16) (sz := 1) (i := d) d rfl rfl kR kR rfl hd_ qO) rfl ?_
 refine G2 rfl rfl rfl (I8 d rfl rfl kR rfl (by rw [hS1.len]; exact hd_) UpC.upd ?_)
 refine E9 (E6 0 1 2 3 4) ?_
 have hS2 := hS1.xr d a 16
 change W16 (S1.set d (rolN (S1.getD d 0 ^^^ S1.getD a 0) 16)) at hS2
 obtain ⟨S2, e2⟩ : ∃ z, S1.set d (rolN (S1.getD d 0 ^^^ S1.getD a 0) 16) = z := ⟨_, rfl⟩
 rw [e2] at hS2 ⊢
 change xrW S1 d a 16 = S2 at e2
 refine D2 (.range 13) (zp 0 [0, 0, 0, 0, 1, 0, 0, 0, 0, 1, 0, 0, 0, 2]) kR kR fun hs => ?_
 refine fm_ hs ?_
 refine fm_ hs ?_
 refine C2 hs rfl (E4 rfl) rfl ?_
 refine C2 hs rfl (D0 (e := 27) (n := 16) (sz := 1) (i := c) c rfl rfl kR kR rfl hc_ qO) rfl ?_
 refine H2 hs rfl (I3 c rfl kR At.mem rfl (by rw [hS2.len]; exact hc_)) rfl ?_
 refine fm_ hs ?_
 refine fm_ hs ?_
 refine C2 hs rfl (E4 rfl) rfl ?_
 refine C2 hs rfl (D0 (e := 27) (n := 16) (sz := 1) (i := d) d rfl rfl kR kR rfl hd_ qO) rfl ?_
 refine H2 hs rfl (I3 d rfl kR At.mem rfl (by rw [hS2.len]; exact hd_)) rfl ?_
 refine C2 hs rfl (G1 4294967296 rfl rfl rfl rfl rfl rfl) rfl ?_
 refine C2 hs rfl (E4 rfl) rfl ?_
 refine C2 hs rfl (D0 (e := 27) (n := 16) (sz := 1) (i := c) c rfl rfl kR kR rfl hc_ qO) rfl ?_
 refine G2 rfl rfl rfl (I8 c rfl rfl kR rfl (by rw [hS2.len]; exact hc_) UpC.upd ?_)
 refine E9 (E6 0 1 2 3 4) ?_
 have hS3 := hS2.ad c d
 change W16 (S2.set c ((S2.getD c 0 + S2.getD d 0) % 4294967296)) at hS3
 obtain ⟨S3, e3⟩ : ∃ z, S2.set c ((S2.getD c 0 + S2.getD d 0) % 4294967296) = z := ⟨_, rfl⟩
 rw [e3] at hS3 ⊢
 change adW S2 c d = S3 at e3
 refine D2 (.range 16) [(0, 0), (1, 0), (2, 0), (3, 0), (4, 0), (5, 0), (6, 1), (7, 0), (8, 0), (9, 0), (10, 0), (11, 1), (12, 0), (14, 0), (13, 2), (15, 0), (16, 2)] kR kR fun hs => ?_
 refine fm_ hs ?_
 refine fm_ hs ?_
 refine fm_ hs ?_
 refine fm_ hs ?_
 refine C2 hs rfl (E4 rfl) rfl ?_
 refine C2 hs rfl (D0 (e := 27) (n := 16) (sz := 1) (i := b) b rfl rfl kR kR rfl hb_ qO) rfl ?_
 refine H2 hs rfl (I3 b rfl kR At.mem rfl (by rw [hS3.len]; exact hb_)) rfl ?_
 refine fm_ hs ?_
 refine fm_ hs ?_
 refine C2 hs rfl (E4 rfl) rfl ?_
 refine C2 hs rfl (D0 (e := 27) (n := 16) (sz := 1) (i := c) c rfl rfl kR kR rfl hc_ qO) rfl ?_
 refine H2 hs rfl (I3 c rfl kR At.mem rfl (by rw [hS3.len]; exact hc_)) rfl ?_
 refine C2 hs rfl (T9 rfl rfl (hS3.get _) (hS3.get _)) rfl ?_
 refine C2 hs rfl (E4 rfl) rfl ?_
 refine N3 rfl (aS rfl (aS rfl a0)) kR (A3e _ 12 _ (xor32 (hS3.get _) (hS3.get _)) qD qD) rfl ?_
 refine C2 hs rfl (D0 (e := 27) (n := 16) (sz := 1) (i := b) b rfl rfl kR kR rfl hb_ qO) rfl ?_
 refine G2 rfl rfl rfl (I8 b rfl rfl kR rfl (by rw [hS3.len]; exact hb_) UpC.upd ?_)
 refine E9 (E6 0 1 2 3 4) ?_
 have hS4 := hS3.xr b c 12
 change W16 (S3.set b (rolN (S3.getD b 0 ^^^ S3.getD c 0) 12)) at hS4
 obtain ⟨S4, e4⟩ : ∃ z, S3.set b (rolN (S3.getD b 0 ^^^ S3.getD c 0) 12) = z := ⟨_, rfl⟩
 rw [e4] at hS4 ⊢
 change xrW S3 b c 12 = S4 at e4
 refine D2 (.range 13) (zp 0 [0, 0, 0, 0, 1, 0, 0, 0, 0, 1, 0, 0, 0, 2]) kR kR fun hs => ?_
 refine fm_ hs ?_
 refine fm_ hs ?_
 refine C2 hs rfl (E4 rfl) rfl ?_
 refine C2 hs rfl (D0 (e := 27) (n := 16) (sz := 1) (i := a) a rfl rfl kR kR rfl ha_ qO) rfl ?_
 refine H2 hs rfl (I3 a rfl kR At.mem rfl (by rw [hS4.len]; exact ha_)) rfl ?_
 refine fm_ hs ?_
 refine fm_ hs ?_
 refine C2 hs rfl (E4 rfl) rfl ?_
 refine C2 hs rfl (D0 (e := 27) (n := 16) (sz := 1) (i := b) b rfl rfl kR kR rfl hb_ qO) rfl ?_
 refine H2 hs rfl (I3 b rfl kR At.mem rfl (by rw [hS4.len]; exact hb_)) rfl ?_
 refine C2 hs rfl (G1 4294967296 rfl rfl rfl rfl rfl rfl) rfl ?_
 refine C2 hs rfl (E4 rfl) rfl ?_
 refine C2 hs rfl (D0 (e := 27) (n := 16) (sz := 1) (i := a) a rfl rfl kR kR rfl ha_ qO) rfl ?_
 refine G2 rfl rfl rfl (I8 a rfl rfl kR rfl (by rw [hS4.len]; exact ha_) UpC.upd ?_)
 refine E9 (E6 0 1 2 3 4) ?_
 have hS5 := hS4.ad a b
 change W16 (S4.set a ((S4.getD a 0 + S4.getD b 0) % 4294967296)) at hS5
 obtain ⟨S5, e5⟩ : ∃ z, S4.set a ((S4.getD a 0 + S4.getD b 0) % 4294967296) = z := ⟨_, rfl⟩
 rw [e5] at hS5 ⊢
 change adW S4 a b = S5 at e5
 refine D2 (.range 16) [(0, 0), (1, 0), (2, 0), (3, 0), (4, 0), (5, 0), (6, 1), (7, 0), (8, 0), (9, 0), (10, 0), (11, 1), (12, 0), (14, 0), (13, 2), (15, 0), (16, 2)] kR kR fun hs => ?_
 refine fm_ hs ?_
 refine fm_ hs ?_
 refine fm_ hs ?_
 refine fm_ hs ?_
 refine C2 hs rfl (E4 rfl) rfl ?_
 refine C2 hs rfl (D0 (e := 27) (n := 16) (sz := 1) (i := d) d rfl rfl kR kR rfl hd_ qO) rfl ?_
 refine H2 hs rfl (I3 d rfl kR At.mem rfl (by rw [hS5.len]; exact hd_)) rfl ?_
 refine fm_ hs ?_
 refine fm_ hs ?_
 refine C2 hs rfl (E4 rfl) rfl ?_
 refine C2 hs rfl (D0 (e := 27) (n := 16) (sz := 1) (i := a) a rfl rfl kR kR rfl ha_ qO) rfl ?_
 refine H2 hs rfl (I3 a rfl kR At.mem rfl (by rw [hS5.len]; exact ha_)) rfl ?_
 refine C2 hs rfl (T9 rfl rfl (hS5.get _) (hS5.get _)) rfl ?_
 refine C2 hs rfl (E4 rfl) rfl ?_
 refine N3 rfl (aS rfl (aS rfl a0)) kR (A3e _ 8 _ (xor32 (hS5.get _) (hS5.get _)) qD qD) rfl ?_
 refine C2 hs rfl (D0 (e := 27) (n := 16) (sz := 1) (i := d) d rfl rfl kR kR rfl hd_ qO) rfl ?_
 refine G2 rfl rfl rfl (I8 d rfl rfl kR rfl (by rw [hS5.len]; exact hd_) UpC.upd ?_)
 refine E9 (D7 0 2 3 4) ?_
 have hS6 := hS5.xr d a 8
 change W16 (S5.set d (rolN (S5.getD d 0 ^^^ S5.getD a 0) 8)) at hS6
 obtain ⟨S6, e6⟩ : ∃ z, S5.set d (rolN (S5.getD d 0 ^^^ S5.getD a 0) 8) = z := ⟨_, rfl⟩
 rw [e6] at hS6 ⊢
 change xrW S5 d a 8 = S6 at e6
 refine D2 (.range 13) (zp 0 [0, 0, 0, 0, 1, 0, 0, 0, 0, 1, 0, 0, 0, 2]) kR kR fun hs => ?_
 refine fm_ hs ?_
 refine fm_ hs ?_
 refine C2 hs rfl (E4 rfl) rfl ?_
 refine C2 hs rfl (D0 (e := 27) (n := 16) (sz := 1) (i := c) c rfl rfl kR kR rfl hc_ qO) rfl ?_
 refine H2 hs rfl (I3 c rfl kR At.mem rfl (by rw [hS6.len]; exact hc_)) rfl ?_
 refine fm_ hs ?_
 refine fm_ hs ?_
 refine C2 hs rfl (E4 rfl) rfl ?_
 refine C2 hs rfl (D0 (e := 27) (n := 16) (sz := 1) (i := d) d rfl rfl kR kR rfl hd_ qO) rfl ?_
 refine H2 hs rfl (I3 d rfl kR At.mem rfl (by rw [hS6.len]; exact hd_)) rfl ?_
 refine C2 hs rfl (G1 4294967296 rfl rfl rfl rfl rfl rfl) rfl ?_
 refine C2 hs rfl (E4 rfl) rfl ?_
 refine C2 hs rfl (D0 (e := 27) (n := 16) (sz := 1) (i := c) c rfl rfl kR kR rfl hc_ qO) rfl ?_
 refine G2 rfl rfl rfl (I8 c rfl rfl kR rfl (by rw [hS6.len]; exact hc_) UpC.upd ?_)
 refine E9 (D8 0 2 3) ?_
 have hS7 := hS6.ad c d
 change W16 (S6.set c ((S6.getD c 0 + S6.getD d 0) % 4294967296)) at hS7
 obtain ⟨S7, e7⟩ : ∃ z, S6.set c ((S6.getD c 0 + S6.getD d 0) % 4294967296) = z := ⟨_, rfl⟩
 rw [e7] at hS7 ⊢
 change adW S6 c d = S7 at e7
 refine G3 (.range 16) [(0, 0), (1, 0), (2, 0), (3, 0), (4, 0), (5, 0), (6, 1), (7, 0), (8, 0), (9, 0), (10, 0), (11, 1), (12, 0), (14, 0), (13, 2), (15, 0), (16, 2)] kR kR fun hs => ?_
 refine fm_ hs ?_
 refine fm_ hs ?_
 refine fm_ hs ?_
 refine fm_ hs ?_
 refine C2 hs rfl (E4 rfl) rfl ?_
 refine C2 hs rfl (D0 (e := 27) (n := 16) (sz := 1) (i := b) b rfl rfl kR kR rfl hb_ qO) rfl ?_
 refine H2 hs rfl (I3 b rfl kR At.mem rfl (by rw [hS7.len]; exact hb_)) rfl ?_
 refine fm_ hs ?_
 refine fm_ hs ?_
 refine C2 hs rfl (E4 rfl) rfl ?_
 refine C2 hs rfl (D0 (e := 27) (n := 16) (sz := 1) (i := c) c rfl rfl kR kR rfl hc_ qO) rfl ?_
 refine H2 hs rfl (I3 c rfl kR At.mem rfl (by rw [hS7.len]; exact hc_)) rfl ?_
 refine C2 hs rfl (T9 rfl rfl (hS7.get _) (hS7.get _)) rfl ?_
 refine C2 hs rfl (E4 rfl) rfl ?_
 refine N3 rfl (aS rfl (aS rfl a0)) kR (A3e _ 7 _ (xor32 (hS7.get _) (hS7.get _)) qD qD) rfl ?_
 refine C2 hs rfl (D0 (e := 27) (n := 16) (sz := 1) (i := b) b rfl rfl kR kR rfl hb_ qO) rfl ?_
 refine G2 rfl rfl rfl (I8 b rfl rfl kR rfl (by rw [hS7.len]; exact hb_) UpC.upd ?_)
 refine P9 ?_
 exact ⟨_, [(sb, blk (nums .u32 (S7.set b (rolN (S7.getD b 0 ^^^ S7.getD c 0) 7))) 179)], [], B2E rfl, Fit.eq qM, rfl, by unfold B9i; rw [e1, e2, e3, e4, e5, e6, e7]; rfl, rfl⟩

def cstW : LN := [1634760805, 857760878, 2036477234, 1797285236, 0, 0, 0, 0, 0, 0, 0, 0, 0, 0, 0, 0]
def kyW (K : LN) : Nat → LN
  | 0 => cstW
  | i + 1 => (kyW K i).set (4 + i) (wrdN (K.drop (4 * i)))
def nnW (K : LN) (n : Nat) (N : LN) : Nat → LN
  | 0 => (kyW K 8).set 12 n
  | i + 1 => (nnW K n N i).set (13 + i) (wrdN (N.drop (4 * i)))
def rdA (S : LN) : Nat → LN
  | 0 => S
  | i + 1 => B9i (rdA S i) i (4 + i) (8 + i) (12 + i)
def rdB (S : LN) : Nat → LN
  | 0 => S
  | i + 1 => B9i (rdB S i) i (4 + (i + 1) % 4) (8 + (i + 2) % 4) (12 + (i + 3) % 4)
def rdW (S : LN) : Nat → LN
  | 0 => S
  | k + 1 => rdB (rdA (rdW S k) 4) 4
def le4 (x : Nat) : LN := [x % 256, x >>> 8 % 256, x >>> 16 % 256, x >>> 24 % 256]
def otW (W S : LN) : Nat → LN
  | 0 => []
  | i + 1 => otW W S i ++ le4 ((W.getD i 0 + S.getD i 0) % 4294967296)
def B79 (K : LN) (n : Nat) (N : LN) : LN := otW (rdW (nnW K n N 3) 10) (nnW K n N 3) 16
theorem B7q {p : LN} (h : ∀ x ∈ p, x < 256) (k : Nat) : ∀ x ∈ p.drop k, x < 256 := fun x hx => h x (List.mem_of_mem_drop hx)
theorem B1F {K : LN} (h : ∀ x ∈ K, x < 256) : ∀ i, W16 (kyW K i)
  | 0 => ⟨rfl, by show ∀ x ∈ cstW, x < 4294967296; decide⟩
  | i + 1 => (B1F h i).set _ _ (B1D (B7q h _))
theorem B5y {K N : LN} {n : Nat} (h : ∀ x ∈ K, x < 256) (hn : n < 4294967296) (h2 : ∀ x ∈ N, x < 256) : ∀ i, W16 (nnW K n N i)
  | 0 => (B1F h 8).set _ _ hn
  | i + 1 => (B5y h hn h2 i).set _ _ (B1D (B7q h2 _))
theorem A8n {S : LN} (h : W16 S) : ∀ i, W16 (rdA S i)
  | 0 => h
  | i + 1 => (A8n h i).trn _ _ _ _
theorem B1G {S : LN} (h : W16 S) : ∀ i, W16 (rdB S i)
  | 0 => h
  | i + 1 => (B1G h i).trn _ _ _ _
theorem B5z {S : LN} (h : W16 S) : ∀ i, W16 (rdW S i)
  | 0 => h
  | i + 1 => B1G (A8n (B5z h i) 4) 4
theorem A39 (W S : LN) : ∀ i, (otW W S i).length = 4 * i
  | 0 => rfl
  | i + 1 => by show (otW W S i ++ le4 _).length = _; rw [List.length_append, A39 W S i]; simp [le4]; omega
theorem B9j (x : Nat) : ∀ y ∈ le4 x, y < 256 := by
  intro y hy
  simp only [le4, List.mem_cons, List.not_mem_nil, or_false] at hy
  rcases hy with rfl | rfl | rfl | rfl <;> exact Nat.mod_lt _ qD
theorem B1H (W S : LN) : ∀ i, ∀ x ∈ otW W S i, x < 256
  | 0 => fun x hx => by cases hx
  | i + 1 => fun x hx => (List.mem_append.1 hx).elim (B1H W S i x) (B9j _ x)
theorem _root_.Go.Px.By.lo {R : Mem} {v : Value} {w : LN} (h : By R v w) (k : Nat) (hk : k ≤ w.length) : By R (vLo k 1 v) (w.drop k) := by
  refine ⟨?_, B7q h.lt k, by rw [List.length_drop]; have := h.len; omega⟩
  have h1 := h.rd.loV k hk
  rw [List.length_drop]
  simpa [nums] using h1
theorem B1I (v vn : Value) (kw nw : LN) (n : Nat) (A : Mem) (hk : By A v kw) (hno : By A vn nw) (hn : n < 4294967296) : FnX Tryz.prog 94 [v, (vU n), vn] [] A fun q M J => M = [] ∧ By J q (B79 (G7 kw 32) n (G7 nw 12)) := by
 haveI := hk.cel
 haveI := hno.cel
 refine FnX.enterZ (N := 107) Tryz.func94 rfl rfl rfl fun w_ => ?_
 refine B4 (D8 0 1 2) (A1 (as_ (A0 (D8 0 1 2) (A1 (mv_ ?_)))))
 refine C7 (aS rfl (aS rfl a0)) kR (A38 v kw 32 _ (hk.mono qS) qD) rfl ?_
 rintro v17 M17 J17 ⟨rfl, h17⟩
 haveI := h17.cel
 have hkl := K6 kw 32
 generalize G7 kw 32 = K at *
 have hKl := h17.lt
 refine mv_ ?_
 refine C7 (aS rfl (aS rfl a0)) kR (A38 vn nw 12 _ (hno.mono qS) qD) rfl ?_
 rintro v19 M19 J19 ⟨rfl, h19⟩
 haveI := h19.cel
 have hnl := K6 nw 12
 generalize G7 nw 12 = N at *
 have hNl := h19.lt
 refine as_ (as_ (A0 (D8 0 1 2) (A1 ?_)))
 refine A2 (F6 (place := fun i => some (i * 1, 1)) (z := [F5, F5, F5, F5, F5, F5, F5, F5, F5, F5, F5, F5, F5, F5, F5, F5]) (fun _ => by kernel_rfl) (eS rfl (eS rfl (eS rfl (eS rfl e0)))) (bdS 0 1 rfl qR (bdS 1 1 rfl qR (bdS 2 1 rfl qR (bdS 3 1 rfl qR bd0))))) rfl ?_
 refine A4 rfl (C3 (cs := [F5, F5, F5, F5, F5, F5, F5, F5, F5, F5, F5, F5, F5, F5, F5, F5]) kR rfl fun b7 => ?_)
 refine A4 rfl (A8 (vs := nums .u32 (kyW K 0)) rfl rfl rfl kR qR F3 UpC.upd ?_)
 refine A0 (D7 0 1 2 7) (A3 (A1 (mv_ (A0 (E6 0 1 2 7 21) (A5 ?_)))))
 refine E1 (α := Nat) (fun i => [(0, v17), (1, (vU n)), (2, v19), (7, (vP b7)), (21, (vI i))]) (fun i => [(b7, blk (nums .u32 (kyW K i)) 179)]) (fun _ => _) (fun i => i ≤ 8) (fun i => 8 - i) 0 (Nat.zero_le _) (E6 0 1 2 7 21) (Fit.eq rfl) qI ?_
 rintro i hii
 try dsimp only at hii ⊢
 have hok := B1F hKl i
 refine A1 ?_
 refine A2 (D9 rfl rfl rfl) rfl ?_
 refine A0 (H5 0 1 2 7 21 22) (A3 ?_)
 refine C0 rfl ?_ ?_ <;> intro hc
 ·
  have hlt : i < 8 := by simp at hc; omega
  refine A7 (nx (E6 0 1 2 7 21) (A3 (A5 (A1 (mv_ (as_ (A0 (H5 0 1 2 7 8 21) (A9 ?_))))))))
  refine mv_ ?_
  refine A2 (D1 ((4 + i : Nat) : Int) rfl rfl (E5 qO qO qO)) rfl ?_
  refine mv_ (mv_ ?_)
  refine A2 (D1 ((4 * i : Nat) : Int) rfl rfl (A1W qO qO qO)) rfl ?_
  refine A2 (A15 (sz := 1) (a := 4 * i) rfl rfl kR rfl h17.rd qO) rfl ?_
  have h29 := h17.lo (4 * i) qO
  haveI := h29.cel
  refine F0 (aS rfl a0) kR (B5x (vLo (4 * i) 1 v17) (K.drop (4 * i)) _ (h29.mono qS) (by rw [List.length_drop]; omega)) rfl ?_
  refine A2 (D0 (e := 27) (n := 16) (sz := 1) (i := 4 + i) (4 + i) rfl rfl kR kR rfl qO qO) rfl ?_
  refine A4 rfl (I8 (4 + i) rfl rfl kR rfl (by rw [hok.len]; omega) UpC.upd ?_)
  refine C1 (nb (nx (E6 0 1 2 7 21) (A9 ?_)))
  refine A2 (D1 ((i + 1 : Nat) : Int) rfl rfl (E5 qO qO qO)) rfl ?_
  refine mv_ (C1 ?_)
  exact rn (i + 1) qO qO (E6 0 1 2 7 21) (Fit.eq rfl) qI
 ·
  obtain rfl : i = 8 := by simp at hc; omega
  refine D4 (te (re (be rfl (nx (D8 1 2 7) (A1 (mv_ ?_))))))
  refine A2 (D0 (e := 27) (n := 16) (sz := 1) (i := 12) (12) rfl rfl kR kR rfl qO qO) rfl ?_
  refine A4 rfl (I8 12 rfl rfl kR rfl (by rw [hok.len]; omega) UpC.upd ?_)
  refine A0 (D3 2 7) (A3 (A1 (mv_ (A0 (D8 2 7 35) (A5 ?_)))))
  refine E1 (α := Nat) (fun i => [(2, v19), (7, (vP b7)), (35, (vI i))]) (fun i => [(b7, blk (nums .u32 (nnW K n N i)) 179)]) (fun _ => _) (fun i => i ≤ 3) (fun i => 3 - i) 0 (Nat.zero_le _) (D8 2 7 35) (Fit.eq rfl) qI ?_
  rintro j hij
  try dsimp only at hij ⊢
  have hok2 := B5y hKl hn hNl j
  refine A1 ?_
  refine A2 (D9 rfl rfl rfl) rfl ?_
  refine A0 (D7 2 7 35 36) (A3 ?_)
  refine C0 rfl ?_ ?_ <;> intro hc
  ·
   have hlt : j < 3 := by simp at hc; omega
   refine A7 (nx (D8 2 7 35) (A3 (A5 (A1 (mv_ (as_ (A0 (D7 2 7 9 35) (A9 ?_))))))))
   refine mv_ ?_
   refine A2 (D1 ((13 + j : Nat) : Int) rfl rfl (E5 qO qO qO)) rfl ?_
   refine mv_ (mv_ ?_)
   refine A2 (D1 ((4 * j : Nat) : Int) rfl rfl (A1W qO qO qO)) rfl ?_
   refine A2 (A15 (sz := 1) (a := 4 * j) rfl rfl kR rfl h19.rd qO) rfl ?_
   have h43 := h19.lo (4 * j) qO
   haveI := h43.cel
   refine F0 (aS rfl a0) kR (B5x (vLo (4 * j) 1 v19) (N.drop (4 * j)) _ (h43.mono qS) (by rw [List.length_drop]; omega)) rfl ?_
   refine A2 (D0 (e := 27) (n := 16) (sz := 1) (i := 13 + j) (13 + j) rfl rfl kR kR rfl qO qO) rfl ?_
   refine A4 rfl (I8 (13 + j) rfl rfl kR rfl (by rw [hok2.len]; omega) UpC.upd ?_)
   refine C1 (nb (nx (D8 2 7 35) (A9 ?_)))
   refine A2 (D1 ((j + 1 : Nat) : Int) rfl rfl (E5 qO qO qO)) rfl ?_
   refine mv_ (C1 ?_)
   exact rn (j + 1) qO qO (D8 2 7 35) (Fit.eq rfl) qI
  ·
   obtain rfl : j = 3 := by simp at hc; omega
   unfold B79
   obtain ⟨S, hSe⟩ : ∃ z, nnW K n N 3 = z := ⟨_, rfl⟩
   rw [hSe] at hok2 ⊢
   refine D4 (te (re (be rfl (nx (D5 7) (A1 ?_)))))
   refine A2 (L8 (n := 16) (cs := nums .u32 S) rfl kR At.mem (by rw [nums_len]; exact hok2.len)) rfl ?_
   refine A4 rfl (C3 (cs := [F5, F5, F5, F5, F5, F5, F5, F5, F5, F5, F5, F5, F5, F5, F5, F5]) kR rfl fun b10 => ?_)
   refine A4 rfl (A8 (vs := nums .u32 S) rfl rfl rfl (by rw [nums_len, hok2.len]; kernel_rfl) (by rw [nums_len, hok2.len]; rfl) F3 UpC.upd ?_)
   refine A0 (D3 7 10) (A3 (A1 (mv_ (A0 (D8 7 10 48) (A5 ?_)))))
   refine E1 (α := Nat) (fun i => [(7, (vP b7)), (10, (vP b10)), (48, (vI i))]) (fun i => [(b10, blk (nums .u32 (rdW S i)) 179), (b7, blk (nums .u32 S) 179)]) (fun _ => _) (fun i => i ≤ 10) (fun i => 10 - i) 0 (Nat.zero_le _) (D8 7 10 48) (Fit.eq rfl) qI ?_
   rintro k hik
   try dsimp only at hik ⊢
   have hok3 := B5z hok2 k
   refine A1 ?_
   refine A2 (D9 rfl rfl rfl) rfl ?_
   refine A0 (D7 7 10 48 49) (A3 ?_)
   refine C0 rfl ?_ ?_ <;> intro hc
   ·
    have hlt : k < 10 := by simp at hc; omega
    refine A7 (nx (D8 7 10 48) (A3 (A5 (A3 (A1 (mv_ (A0 (D7 7 10 48 50) ?_)))))))
    refine A5 ?_
    refine E1 (α := Nat) (fun i => [(7, (vP b7)), (10, (vP b10)), (48, (vI k)), (50, (vI i))]) (fun i => [(b10, blk (nums .u32 (rdA (rdW S k) i)) 179), (b7, blk (nums .u32 S) 179)]) (fun _ => _) (fun i => i ≤ 4) (fun i => 4 - i) 0 (Nat.zero_le _) (D7 7 10 48 50) (Fit.eq rfl) qI ?_
    rintro a hia
    try dsimp only at hia ⊢
    have hok := A8n hok3 a
    refine A1 ?_
    refine A2 (D9 rfl rfl rfl) rfl ?_
    refine A0 (E6 7 10 48 50 51) (A3 ?_)
    refine C0 rfl ?_ ?_ <;> intro hc
    ·
     have hlt2 : a < 4 := by simp at hc; omega
     refine A7 (nx (D7 7 10 48 50) (A3 (A5 (A1 (mv_ (as_ (A0 (E6 7 10 11 48 50) (A9 ?_))))))))
     refine mv_ (mv_ ?_)
     refine A2 (D1 ((4 + a : Nat) : Int) rfl rfl (E5 qO qO qO)) rfl ?_
     refine mv_ ?_
     refine A2 (D1 ((8 + a : Nat) : Int) rfl rfl (E5 qO qO qO)) rfl ?_
     refine mv_ ?_
     refine A2 (D1 ((12 + a : Nat) : Int) rfl rfl (E5 qO qO qO)) rfl ?_
     refine A4 rfl (C6 (Mc := [(b10, blk (nums .u32 (rdA (rdW S k) a)) 179)]) (R := _) (aS rfl (aS rfl (aS rfl (aS rfl (aS rfl a0))))) kR qP (B1E b10 (rdA (rdW S k) a) (a) (4 + a) (8 + a) (12 + a) _ hok qO qO qO qO) rfl ?_)
     rintro vt Mt Jt ⟨rfl, rfl, rfl⟩
     refine C1 (nb (nx (D7 7 10 48 50) (A9 ?_)))
     refine A2 (D1 ((a + 1 : Nat) : Int) rfl rfl (E5 qO qO qO)) rfl ?_
     refine mv_ (C1 ?_)
     exact rn (a + 1) qO qO (D7 7 10 48 50) (Fit.eq rfl) qI
    ·
     obtain rfl : a = 4 := by simp at hc; omega
     refine D4 (te (re (be rfl (nx (D8 7 10 48) (A1 (mv_ (A0 (D7 7 10 48 62) ?_)))))))
     refine A5 ?_
     refine E1 (α := Nat) (fun i => [(7, (vP b7)), (10, (vP b10)), (48, (vI k)), (62, (vI i))]) (fun i => [(b10, blk (nums .u32 (rdB (rdA (rdW S k) 4) i)) 179), (b7, blk (nums .u32 S) 179)]) (fun _ => _) (fun i => i ≤ 4) (fun i => 4 - i) 0 (Nat.zero_le _) (D7 7 10 48 62) (Fit.eq rfl) qI ?_
     rintro b hib
     try dsimp only at hib ⊢
     have hok := B1G (A8n hok3 4) b
     refine A1 ?_
     refine A2 (D9 rfl rfl rfl) rfl ?_
     refine A0 (E6 7 10 48 62 63) (A3 ?_)
     refine C0 rfl ?_ ?_ <;> intro hc
     ·
      have hlt2 : b < 4 := by simp at hc; omega
      refine A7 (nx (D7 7 10 48 62) (A3 (A5 (A1 (mv_ (as_ (A0 (E6 7 10 12 48 62) (A9 ?_))))))))
      refine mv_ (mv_ ?_)
      refine A2 (D1 ((b + 1 : Nat) : Int) rfl rfl (E5 qO qO qO)) rfl ?_
      refine A2 (L7 (a := b + 1) (b := 4) rfl rfl rfl rfl qD) rfl ?_
      refine A2 (D1 ((4 + (b + 1) % 4 : Nat) : Int) rfl rfl (E5 qO qO qO)) rfl ?_
      refine mv_ ?_
      refine A2 (D1 ((b + 2 : Nat) : Int) rfl rfl (E5 qO qO qO)) rfl ?_
      refine A2 (L7 (a := b + 2) (b := 4) rfl rfl rfl rfl qD) rfl ?_
      refine A2 (D1 ((8 + (b + 2) % 4 : Nat) : Int) rfl rfl (E5 qO qO qO)) rfl ?_
      refine mv_ ?_
      refine A2 (D1 ((b + 3 : Nat) : Int) rfl rfl (E5 qO qO qO)) rfl ?_
      refine A2 (L7 (a := b + 3) (b := 4) rfl rfl rfl rfl qD) rfl ?_
      refine A2 (D1 ((12 + (b + 3) % 4 : Nat) : Int) rfl rfl (E5 qO qO qO)) rfl ?_
      refine A4 rfl (C6 (Mc := [(b10, blk (nums .u32 (rdB (rdA (rdW S k) 4) b)) 179)]) (R := _) (aS rfl (aS rfl (aS rfl (aS rfl (aS rfl a0))))) kR qP (B1E b10 (rdB (rdA (rdW S k) 4) b) (b) (4 + (b + 1) % 4) (8 + (b + 2) % 4) (12 + (b + 3) % 4) _ hok qO qO qO qO) rfl ?_)
      rintro vt Mt Jt ⟨rfl, rfl, rfl⟩
      refine C1 (nb (nx (D7 7 10 48 62) (A9 ?_)))
      refine A2 (D1 ((b + 1 : Nat) : Int) rfl rfl (E5 qO qO qO)) rfl ?_
      refine mv_ (C1 ?_)
      exact rn (b + 1) qO qO (D7 7 10 48 62) (Fit.eq rfl) qI
     ·
      obtain rfl : b = 4 := by simp at hc; omega
      refine D4 (te (re (be rfl (nb (nx (D8 7 10 48) (A9 ?_))))))
      refine A2 (D1 ((k + 1 : Nat) : Int) rfl rfl (E5 qO qO qO)) rfl ?_
      refine mv_ (C1 ?_)
      exact rn (k + 1) qO qO (D8 7 10 48) (Fit.eq rfl) qI
   ·
    obtain rfl : k = 10 := by simp at hc; omega
    obtain ⟨W, hWe⟩ : ∃ z, rdW S 10 = z := ⟨_, rfl⟩
    rw [hWe] at hok3 ⊢
    refine D4 (te (re (be rfl (nx (D3 7 10) (A1 (as_ (A0 (D8 7 10 13) ?_)))))))
    refine A3 (A1 (mv_ (A0 (D7 7 10 13 81) (A5 ?_))))
    refine E1 (α := Nat × Value × Mem) (fun y => [(7, (vP b7)), (10, (vP b10)), (13, y.2.1), (81, (vI y.1))]) (fun y => y.2.2 ++ [(b10, blk (nums .u32 W) 179), (b7, blk (nums .u32 S) 179)]) (fun _ => _) (fun y => y.1 ≤ 16 ∧ Sl 1 y.2.1 (4 * y.1) (nums .u8 (otW W S y.1)) y.2.2) (fun y => 16 - y.1) (0, vS, []) ⟨Nat.zero_le _, Sl.nil⟩ (D7 7 10 13 81) (Fit.eq qM) qI ?_
    rintro ⟨i, u, B⟩ ⟨hi, hsl⟩
    dsimp only at hi hsl ⊢
    haveI := hsl.cel
    refine A1 ?_
    refine A2 (D9 rfl rfl rfl) rfl ?_
    refine A0 (E6 7 10 13 81 82) (A3 ?_)
    refine C0 rfl ?_ ?_ <;> intro hc
    ·
     have hlt : i < 16 := by simp at hc; omega
     refine A7 (nx (D7 7 10 13 81) (A3 (A5 (A1 (mv_ (as_ (A0 (E6 7 10 13 14 81) ?_)))))))
     refine D2 (.range 8) (zp 0 [0, 0, 1, 0, 0, 1, 0, 0]) kR kR fun hs => ?_
     refine fm_ hs ?_
     refine C2 hs rfl (D0 (e := 27) (n := 16) (sz := 1) (i := i) (i) rfl rfl kR kR rfl qO qO) rfl ?_
     refine H2 hs rfl (I3 i rfl kR At.mem rfl (by rw [hok3.len]; omega)) rfl ?_
     refine fm_ hs ?_
     refine C2 hs rfl (D0 (e := 27) (n := 16) (sz := 1) (i := i) (i) rfl rfl kR kR rfl qO qO) rfl ?_
     refine H2 hs rfl (I3 i rfl kR At.mem rfl (by rw [hok2.len]; omega)) rfl ?_
     refine C2 hs rfl (G1 4294967296 rfl rfl rfl rfl rfl rfl) rfl ?_
     obtain ⟨x, hx⟩ : ∃ x, (W.getD i 0 + S.getD i 0) % 4294967296 = x := ⟨_, rfl⟩
     rw [hx]
     refine fa_ hs ?_
     refine E9 (E6 7 10 13 15 81) (A9 (mv_ (mv_ ?_)))
     refine A2 (A1D rfl kR) rfl ?_
     refine mv_ ?_
     refine A2 (T0 8 rfl rfl rfl qD) rfl ?_
     refine A2 (A1D rfl kR) rfl ?_
     refine mv_ ?_
     refine A2 (T0 16 rfl rfl rfl qD) rfl ?_
     refine A2 (A1D rfl kR) rfl ?_
     refine mv_ ?_
     refine A2 (T0 24 rfl rfl rfl qD) rfl ?_
     refine A2 (A1D rfl kR) rfl ?_
     refine A4 rfl (C4 (e := 5) (sz := 1) (z := [zu8, zu8, zu8, zu8]) kR (eS rfl (eS rfl (eS rfl (eS rfl e0)))) (bdS 0 1 rfl qR (bdS 1 1 rfl qR (bdS 2 1 rfl qR (bdS 3 1 rfl qR bd0)))) rfl fun b103 => ?_)
     refine A4 rfl (G9 (e := 5) (sz := 1) (by_ := 1) rfl rfl kR rfl hsl (Rd.whole (n := 4) (cs := nums .u8 (le4 x)) At.mem qR) F3 qP (by unfold maxLen; omega) qO rfl fun v104 B104 hs104 => ?_)
     haveI := hs104.cel
     refine as_ (C1 (nb (nx (D7 7 10 13 81) (A9 ?_))))
     refine A2 (D1 ((i + 1 : Nat) : Int) rfl rfl (E5 qO qO qO)) rfl ?_
     refine mv_ (C1 ?_)
     exact rn (i + 1, v104, B104) ⟨by dsimp only; omega, by dsimp only; show Sl 1 v104 (4 * (i + 1)) (nums .u8 (otW W S i ++ le4 ((W.getD i 0 + S.getD i 0) % 4294967296))) B104; rw [hx]; exact X6 hs104 qO (by simp [nums])⟩ (by dsimp only; omega) (D7 7 10 13 81) (Fit.pick qP (Fit.last qP)) qI
    ·
     obtain rfl : i = 16 := by simp at hc; omega
     refine D4 (te (re (be rfl (nx (D5 13) (A1 (mv_ (as_ (A0 (D5 6) ?_))))))))
     refine B0 ?_
     exact ⟨_, [], B, I4 rfl rfl, Fit.pick qP qZ, rfl, ⟨A02 (hsl.rd fun x hx => by simp [hx]) (by rw [A39]) rfl, B1H W S 16, by rw [A39]; decide⟩⟩

end Go.Proofs.YtlilcmjbaknafaaGreatDoor
