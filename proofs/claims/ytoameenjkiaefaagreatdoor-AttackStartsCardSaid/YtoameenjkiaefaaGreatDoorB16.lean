/- Part 16 of the texts of this claim, one behind the other. -/
import Derived.Test.YtoameenjkiaefaaGreatDoorB15
set_option linter.unusedVariables false
set_option linter.unusedSimpArgs false
set_option maxRecDepth 100000
namespace Go.Proofs.YtoameenjkiaefaaGreatDoor
open Go.Px
structure OpnH (s : Ps) (r : Rsd) (hk : LN) (hp hn : Nat) : Prop where
  sel : S0 s.ts
  k1 : ∀ k, A4d r.sks hk hn = some k → Kok s k
  s2 : S0 (opD (opB s r hk hp) hn).ts
  k2 : Kok (opD (opB s r hk hp) hn) (A7P (opB s r hk hp) hn)
def K32 (w : LN) : Prop := (∀ x ∈ w, x < 256) ∧ w.length = 32
def KK (s : Ps) (w : LN) : Prop := Kok s w ∧ K32 w
structure GS (s : Ps) : Prop where
  tok : Tok s.ts
  sel : S0 s.ts
theorem KK.ext {s s' : Ps} {w : LN} (h : KK s w) (he : Pext s s') : KK s' w := ⟨h.1.ext he, h.2⟩
theorem KK.rok {s : Ps} {w : LN} (h : KK s w) : s.real = false → Rok s.ts w := h.1.rok
theorem A5U (i : Int) : K32 (bts i) := ⟨A7a _, W3 _ qD⟩
theorem B1N (s : Ps) : K32 (D9 s) := by
  cases hr : s.real with
  | true =>
    rw [A6j hr, B35, A6h]
    exact ⟨B3I _ _, B0N _ _⟩
  | false => rw [A1M hr]; exact A5U _
theorem S0.fresh {s : Ps} (h : S0 s.ts) : S0 (D4 s).ts := by
  cases hr : s.real with
  | true => rw [A1L hr]; exact h
  | false => rw [A01 hr]; exact h.not (show (1 : Nat) ≠ 6 by decide)
theorem S0.pub {s : Ps} (h : S0 s.ts) (w : LN) : S0 (G1 s w).ts := by
  unfold G1
  split
  · exact h
  · exact (h.rd w).not (show (3 : Nat) ≠ 6 by decide)
theorem B8w (ts : List Tm) (s o : Int) : (agT ts s o).kind = 4 := by
  unfold agT
  split <;> (try split) <;> (try split) <;> rfl
theorem S0.agr {s : Ps} (h : S0 s.ts) (a B : LN) : S0 (I6 s a B).ts := by
  unfold I6
  split
  · exact h
  · exact ((h.rd a).rd B).not (by rw [B8w]; decide)
theorem S0.der {s : Ps} (h : S0 s.ts) (key : LN) (ws : List (LN)) (lb : LN) (n : Nat) : S0 (A2l s key ws lb n).ts := by
  cases hr : s.real with
  | true => rw [A4N hr]; exact h
  | false =>
    rw [A1r hr]
    have h1 : ∀ (ws : List (LN)) (st : List Tm × List Int), S0 st.1 → S0 (ws.foldl U6 st).1 := by
      intro ws
      induction ws with
      | nil => intro st h; exact h
      | cons w ws ih => intro st h; exact ih _ (h.rd w)
    have h2 : ∀ (ts : List Tm) (ofs : List Int) (n : Nat), S0 ts → S0 (K5 ts ofs lb n).1 := by
      intro ts ofs n
      induction n with
      | zero => exact id
      | succ n ih =>
        intro h
        rw [show K5 ts ofs lb (n + 1) = A7g ofs lb (K5 ts ofs lb n) n from K7 n]
        exact (ih h).not (show (5 : Nat) ≠ 6 by decide)
    exact h2 _ _ n (h1 (key :: ws) (s.ts, []) h)
theorem A9Z {s : Ps} (h : GS s) (hn : s.n < 1000000000) : GS (D4 s) ∧ KK (D4 s) (D9 s) := by
  obtain ⟨h1, h2⟩ := U7 h.tok qO
  refine ⟨⟨?_, h.sel.fresh⟩, h1, B1N s⟩
  cases hr : s.real with
  | true => rw [A1L hr]; exact h.tok
  | false => exact h2 hr
theorem B49 {s : Ps} {w : LN} (h : GS s) (hw : KK s w) (hl : s.ts.length ≤ 1040000) : GS (G1 s w) ∧ K8 (G1 s w) w (I5 s w) := by
  obtain ⟨h1, -, h3⟩ := A4T hw.1 h.tok qO
  exact ⟨⟨h3, h.sel.pub w⟩, h1⟩
theorem K8.k32 {s : Ps} {b B : LN} (h : K8 s b B) : K32 B := by
  unfold K8 at h
  split at h
  · rw [h]; exact ⟨A8F _ _, A2k _ _⟩
  · obtain ⟨i, j, -, -, -, rfl⟩ := h; exact A5U _
theorem K8.kk {s : Ps} {b B : LN} (h : K8 s b B) : KK s B := ⟨h.kok.2, h.k32⟩
theorem A04.kk {s : Ps} {a b k : LN} (h : A04 s a b k) : KK s k := by
  cases hr : s.real with
  | true =>
    rw [A04.t hr] at h
    exact ⟨fun h2 => (by rw [hr] at h2; cases h2), by rw [h.1]; exact ⟨A8F _ _, A2k _ _⟩⟩
  | false =>
    rw [A04.f hr] at h
    obtain ⟨i, j, m, -, -, -, -, h5, rfl⟩ := h
    exact ⟨fun _ => ⟨m, (List.getElem?_eq_some_iff.1 h5).1, rfl⟩, A5U _⟩
theorem B8x {s : Ps} {a b B : LN} (h : GS s) (ha : KK s a) (hB : K8 s b B) (hb : K32 b) (hl : s.ts.length ≤ 1040000) : GS (I6 s a B) ∧ A04 (I6 s a B) a b (Y6 s a B) := by
  obtain ⟨h1, h2⟩ := B2H ha.1 hB h.tok qO ha.2.1 hb.1
  exact ⟨⟨h2, h.sel.agr a B⟩, h1⟩
def A90 (s : Ps) (key : LN) (ws : List (LN)) (lb : LN) (n : Nat) (L : List (LN)) : Prop := A2l s key ws lb n = s ∧ A2P s key ws lb n = L ∧ ∀ w ∈ key :: ws, KK s w
theorem B61 {s : Ps} {key lb : LN} {ws : List (LN)} {n : Nat} (h : GS s) (hk : ∀ w ∈ key :: ws, KK s w) (hb : B256 lb) (hbl : lb.length ≤ 1000) (hn : n ≤ 8) (hl : s.ts.length + ws.length ≤ 1040000) :
    GS (A2l s key ws lb n) ∧ (∀ i, i < n → KK (A2l s key ws lb n) ((A2P s key ws lb n).getD i [])) ∧ A90 (A2l s key ws lb n) key ws lb n (A2P s key ws lb n) := by
  have hr : s.real = false → ∀ w ∈ key :: ws, Rok s.ts w := fun hr w hw => (hk w hw).rok hr
  have ht := A8X h.tok hr hb hbl (show n ≤ 100 by omega) qO
  have he := A4V s key ws lb n
  have hlen := A02 s key ws lb n
  obtain ⟨a, b⟩ := A2t h.tok hr hb hbl (show n ≤ 100 by omega) qO (Pext.refl _) ht qO
  exact ⟨⟨ht, h.sel.der _ _ _ _⟩, fun i hi => ⟨B3S h.tok hr hb hbl qO qO hi, B3U hn hi⟩, a, b, fun w hw => (hk w hw).ext he.p⟩
theorem A90.ext {s s' : Ps} {key lb : LN} {ws : List (LN)} {n : Nat} {L : List (LN)} (h : A90 s key ws lb n L) (he : Pext s s') (hg : GS s) (hg' : GS s') (hb : B256 lb) (hbl : lb.length ≤ 1000) (hn : n ≤ 8) (hl : s'.ts.length + ws.length ≤ 1040000) : A90 s' key ws lb n L := by
  obtain ⟨l, e⟩ := he.ts
  have hle : s.ts.length ≤ s'.ts.length := by rw [e, List.length_append]; omega
  have hr : s.real = false → ∀ w ∈ key :: ws, Rok s.ts w := fun hr w hw => (h.2.2 w hw).rok hr
  obtain ⟨a, b⟩ := A2t hg.tok hr hb hbl (show n ≤ 100 by omega) qO (by rw [h.1]; exact he) hg'.tok qO
  exact ⟨a, b.trans h.2.1, fun w hw => (h.2.2 w hw).ext he⟩
theorem A91 : B256 A4g := ⟨by decide⟩
theorem A92 : B256 A2R := ⟨by decide⟩
structure TrnAt (s : Ps) (root a b R C : LN) : Prop where
  ex : ∃ k L, A04 s a b k ∧ A90 s root [k] A4g 2 L ∧ L.getD 0 [] = R ∧ L.getD 1 [] = C
theorem A93 (s : Ps) (root sec pub : LN) : Ext s (A4h s root sec pub) := (A6t s sec pub).trans (A4V _ _ _ _ _)
theorem B66 (s : Ps) (a B : LN) : (I6 s a B).ts.length ≤ s.ts.length + 3 := L4 s a B
theorem B5a {s : Ps} {root a b B : LN} (h : GS s) (hr : KK s root) (ha : KK s a) (hB : K8 s b B) (hb : K32 b) (hl : s.ts.length ≤ 1030000) :
    GS (A4h s root a B) ∧ KK (A4h s root a B) (B1I s root a B) ∧ KK (A4h s root a B) (B1J s root a B) ∧ TrnAt (A4h s root a B) root a b (B1I s root a B) (B1J s root a B) := by
  obtain ⟨h1, h2⟩ := B8x h ha hB hb qO
  have hle := B66 s a B
  obtain ⟨g1, g2, g3⟩ := B61 (key := root) (ws := [Y6 s a B]) (lb := A4g) (n := 2) h1 (fun w hw => by
    rcases List.mem_cons.1 hw with rfl | hw
    · exact hr.ext (A6t s a B).p
    · rw [List.mem_singleton.1 hw]; exact h2.kk) A91 qD qD (by show _ + 1 ≤ _; omega)
  exact ⟨g1, g2 0 qD, g2 1 qD, ⟨_, _, h2.ext (A4V _ _ _ _ _).p, g3, rfl, rfl⟩⟩
theorem TrnAt.ext {s s' : Ps} {root a b R C : LN} (h : TrnAt s root a b R C) (he : Pext s s') (hg : GS s) (hg' : GS s') (hl : s'.ts.length ≤ 1030000) : TrnAt s' root a b R C := by
  obtain ⟨k, L, h1, h2, h3, h4⟩ := h.ex
  exact ⟨k, L, h1.ext he, h2.ext he hg hg' A91 qD qD (by show _ + 1 ≤ _; omega), h3, h4⟩
theorem TrnAt.comm {s : Ps} {root a b R C : LN} (h : TrnAt s root a b R C) : TrnAt s root b a R C := by
  obtain ⟨k, L, h1, h2, h3, h4⟩ := h.ex
  exact ⟨k, L, h1.comm, h2, h3, h4⟩
theorem TrnAt.eq {s : Ps} {root a b B R C : LN} (h : TrnAt s root a b R C) (hB : K8 s b B) (hg : GS s) (hl : s.ts.length ≤ 1030000) : A4h s root a B = s ∧ B1I s root a B = R ∧ B1J s root a B = C := by
  obtain ⟨k, L, h1, h2, h3, h4⟩ := h.ex
  obtain ⟨e1, e2⟩ := h1.eq hB hg.tok qO
  unfold B1I B1J B8u A4h
  rw [e1, e2, h2.1, h2.2.1]
  exact ⟨rfl, h3, h4⟩
def A1f (s : Ps) (c k c' : LN) : Prop := ∃ L, A90 s c [] A2R 2 L ∧ L.getD 0 [] = k ∧ L.getD 1 [] = c'
theorem A6Q {s : Ps} {c : LN} (h : GS s) (hc : KK s c) (hl : s.ts.length ≤ 1030000) : GS (R9 s c) ∧ KK (R9 s c) (T4 s c) ∧ KK (R9 s c) (A2S s c) ∧ A1f (R9 s c) c (T4 s c) (A2S s c) := by
  obtain ⟨g1, g2, g3⟩ := B61 (key := c) (ws := []) (lb := A2R) (n := 2) h (fun w hw => by rw [List.mem_singleton.1 hw]; exact hc) A92 qD qD (by show _ + 0 ≤ _; omega)
  exact ⟨g1, g2 0 qD, g2 1 qD, _, g3, rfl, rfl⟩
theorem A5V (s : Ps) (c : LN) : Ext s (R9 s c) := A4V _ _ _ _ _
theorem A1f.ext {s s' : Ps} {c k c' : LN} (h : A1f s c k c') (he : Pext s s') (hg : GS s) (hg' : GS s') (hl : s'.ts.length ≤ 1030000) : A1f s' c k c' := by
  obtain ⟨L, h1, h2, h3⟩ := h
  exact ⟨L, h1.ext he hg hg' A92 qD qD (by show _ + 0 ≤ _; omega), h2, h3⟩
theorem A1f.eq {s : Ps} {c k c' : LN} (h : A1f s c k c') : R9 s c = s ∧ T4 s c = k ∧ A2S s c = c' := by
  obtain ⟨L, h1, h2, h3⟩ := h
  unfold T4 A2S B8s R9
  rw [h1.1, h1.2.1]
  exact ⟨rfl, h2, h3⟩
theorem B7a (s : Ps) (w a b : LN) : Ext s (A7F s w a b) := by
  unfold A7F
  split
  · exact Ext.refl s
  · exact ⟨⟨rfl, A3S _ _ _⟩, rfl, Nat.le_refl _⟩
theorem B8y {s : Ps} {w a b : LN} (h : GS s) (hw : KK s w) (ha : ∀ x ∈ a, x < 256) (hb : ∀ x ∈ b, x < 256) (la : a.length ≤ 16777216) (lb : b.length ≤ 16777216) (hl : s.ts.length ≤ 1030000) : GS (A7F s w a b) := by
  unfold A7F
  split
  · exact h
  · rename_i hr
    obtain ⟨i, hi, rfl⟩ := hw.1 (by cases hq : s.real with | true => exact absurd hq hr | false => rfl)
    obtain ⟨e1, e2⟩ := B3P hi qO fun x => A03 x a b
    rw [e1]
    obtain ⟨l, g1, g2, g3, g4⟩ := A1x (A6o (x := ((i : Nat) : Int)) (A1l qO) ha hb la lb) h.tok
    exact ⟨g4, h.sel.add fun _ => ⟨_, a, b, rfl, hb, lb⟩⟩
theorem A6R (s : Ps) (w a b : LN) : (A7F s w a b).ts.length ≤ s.ts.length + 2 ∧ (A7F s w a b).n = s.n := by
  unfold A7F
  split
  · exact ⟨by omega, rfl⟩
  · refine ⟨?_, rfl⟩
    have h1 := L8 (ts := s.ts) (ws := w)
    have h2 := W2 (ts := rdT s.ts w) (t := A03 ((rdI s.ts w : Nat) : Int) a b)
    show (add (rdT s.ts w) (A03 ((rdI s.ts w : Nat) : Int) a b)).length ≤ _
    omega

def he0 : He := ⟨[], [], [], 0, false, 0⟩
def B8z (x : Ses) (r2 : Rsd) : Ses := ⟨x.id, x.wi, he0, false, r2⟩
theorem B7b {R : Mem} : HeR R he0 (vS) (vS) (vS) := ⟨By.nil, By.nil.i, By.nil, by decide, by decide⟩
set_option maxHeartbeats 1000000 in
theorem B5c (pb : Nat × Nat) (s : Ps) (x : Ses) (vi vw p0 r0 u0 vo vt vr vk0 vl vst : Value) (e : Ev) (vz p r u vk vg : Value) (s2 : Ps) (r2 : Rsd) (tx : LN) (MP A : Mem) (hP : Prm pb s MP) (hn_ : s.ts.length + 500 ≤ 1000000) (hsn : s.n < 1000000000) (hx : SeR A x vi vw p0 r0 u0 vo vt vr vk0 vl vst) (he_ : EvR A e vz p r u vk vg) (hid : x.id = e.ses) (hwi : x.wi.length ≤ 1000000) (hel : e.ses.length + e.he.ia.length + e.he.ig.length + e.he.key.length ≤ 1000000) (hfl : (x.wi ++ frW [] e).length + e.hk.length ≤ 1000000) (hgl : e.g.length ≤ 10000000) (hO : OpnH s x.r e.hk e.hp e.hn) (hoz : Q1 s x.r (x.wi ++ frW [] e) e.hk e.hp e.hn e.g = (s2, r2, 0, tx)) (hG : Glb A) : FnX Tryz.prog 25 [.pointer (some ⟨pb.1, 0, none⟩), .agg (seC vi vw p0 r0 u0 vo vt vr vk0 vl vst x).toArray, .agg (evC vz p r u vk vg e).toArray] MP A fun q M J => ∃ wo wt wr wk wl wq q2, q = .tuple #[.agg (seC vi vw (vS) (vS) (vS) wo wt wr wk wl wq (B8z x r2)).toArray, q2, .int .i64 0] ∧ Prm pb s2 M ∧ SeR (J ++ A) (B8z x r2) vi vw (vS) (vS) (vS) wo wt wr wk wl wq ∧ By (J ++ A) q2 tx := by
 haveI := he_.ses.cel
 haveI := he_.he.ia.cel
 haveI := he_.he.ig.cel
 haveI := he_.he.key.cel
 haveI := he_.hk.cel
 haveI := he_.g.cel
 haveI := hx.id.cel
 haveI := hx.wi.cel
 haveI := hx.he.ia.cel
 haveI := hx.he.ig.cel
 haveI := hx.he.key.cel
 haveI := hx.r.own.cel
 haveI := hx.r.their.cel
 haveI := hx.r.root.cel
 haveI := hx.r.sk.cel
 haveI := hx.r.tk.cel
 haveI := hx.r.st.cel
 unfold seC evC
 refine FnX.enterZ (N := 45) Tryz.func25 rfl rfl rfl fun w_ => ?_
 refine A8 (E5 0 1 2) (A1 ?_)
 refine A4 rfl (bx_ fun b4 => ?_)
 refine A4 rfl (bx_ fun b5 => ?_)
 refine A4 rfl (D2 (cs := [vS, vS, vS, vS, vS, E4, .bool false, E4, .bool false, vS, vS, vS, vS, E4, vS, E4, E4, .pointer none]) kR rfl fun b6 => ?_)
 refine as_ (as_ (A0 (F4 0 4 5 6) (A6 (A1 ?_))))
 refine A2 (qf_ 0 0) rfl ?_
 refine A2 ql_ rfl ?_
 refine A2 (qf_ 4 4) rfl ?_
 refine A2 ql_ rfl ?_
 refine D7 (aS rfl (aS rfl a0)) kR (V2 vi vz x.id e.ses _ (hx.id.mono qS) (he_.ses.mono qS)) rfl ?_
 rw [decide_eq_true hid]
 refine A2 (L6 rfl) rfl ?_
 refine A0 (G6 0 4 5 6 17) ?_
 refine B0 rfl ?_
 refine A5 (nx (F4 0 4 5 6) ?_)
 refine E6 (MP) (_) true [0, 1, 2, 3, 4, 5, 6, 7, 8, 9, 10, 11, 12, 13, 14, 15, 17, 18] [(0, 0), (1, 0), (2, 1), (3, 1), (4, 1), (6, 0), (7, 1), (8, 0), (9, 1), (5, 8), (10, 8), (11, 8), (12, 8), (15, 8), (13, 9), (14, 10), (16, 2), (17, 0), (18, 0)] kR kR qP fun hs K n0 hKm hKs hKn => ?_
 refine km_ hs ?_
 refine F1 hs rfl (qf_ 9 9) rfl ?_
 refine I1 hs rfl hKs (E7 (n := 9) (vs := [vo, vt, vr, vk0, (vU x.r.sn), vl, (vU x.r.tn), (vU x.r.prev), vst]) rfl kR At.mem rfl (D3 [vi, vw, p0, r0, u0, (vU x.he.signed), .bool x.he.has, (vU x.he.once), .bool x.tell] [vo, vt, vr, vk0, (vU x.r.sn), vl, (vU x.r.tn), (vU x.r.prev), vst] [])) ?_
 refine I1 hs rfl hKs (E7 (n := 18) (vs := [vi, vw, p0, r0, u0, (vU x.he.signed), .bool x.he.has, (vU x.he.once), .bool x.tell, vo, vt, vr, vk0, (vU x.r.sn), vl, (vU x.r.tn), (vU x.r.prev), vst]) rfl kR At.mem rfl (D3 [] [vi, vw, p0, r0, u0, (vU x.he.signed), .bool x.he.has, (vU x.he.once), .bool x.tell, vo, vt, vr, vk0, (vU x.r.sn), vl, (vU x.r.tn), (vU x.r.prev), vst] [])) ?_
 refine I1 hs rfl hKs (E7 (n := 16) (vs := [.int .i64 e.fu, .int .i64 e.fd, .int .i64 e.tu, .int .i64 e.td, vz, .bool e.has, p, r, u, (vU e.he.signed), .bool e.he.has, (vU e.he.once), vk, (vU e.hp), (vU e.hn), vg]) rfl kR At.mem rfl (D3 [] [.int .i64 e.fu, .int .i64 e.fd, .int .i64 e.tu, .int .i64 e.td, vz, .bool e.has, p, r, u, (vU e.he.signed), .bool e.he.has, (vU e.he.once), vk, (vU e.hp), (vU e.hn), vg] [])) ?_
 refine F1 hs rfl (qf_ 12 12) rfl ?_
 refine I1 hs rfl hKs (E7 (n := 3) (vs := [vk, (vU e.hp), (vU e.hn)]) rfl kR At.mem rfl (D3 [.int .i64 e.fu, .int .i64 e.fd, .int .i64 e.tu, .int .i64 e.td, vz, .bool e.has, p, r, u, (vU e.he.signed), .bool e.he.has, (vU e.he.once)] [vk, (vU e.hp), (vU e.hn)] [vg])) ?_
 refine F1 hs rfl (qf_ 15 15) rfl ?_
 refine I1 hs rfl hKs ql_ ?_
 refine A0b [⟨5, 25, none, [], fun v B R => B = [] ∧ By R v (x.wi ++ frW [] e)⟩, ⟨10, 30, none, MP, fun v B R => ∃ q1 q2, v = .tuple #[q1, q2, .int .i64 0] ∧ Prm pb s2 B ∧ RsV R q1 r2 ∧ By R q2 tx⟩, ⟨11, 19, none, [], fun v B R => B = [] ∧ ∃ q1 q2, v = .tuple #[q1, q2, .int .i64 0] ∧ RsV R q1 r2 ∧ By R q2 tx⟩, ⟨12, 31, none, [], fun v B R => B = [] ∧ RsV R v r2⟩, ⟨15, 9, none, [], fun v B _ => ∃ b, v = (vP b) ∧ B = [(b, blk [vS, vS, vS, vS, .int .u32 0, vS, .int .u32 0, .int .u32 0, .pointer none] 72)]⟩] [⟨13, 32, none, [], fun v B R => B = [] ∧ By R v tx⟩, ⟨14, 33, none, [], fun v B R => B = [] ∧ v = .int .i64 0⟩] ([(b6, blk [vS, vS, vS, vS, vS, .int .u32 0, .bool false, .int .u32 0, .bool false, vS, vS, vS, vS, .int .u32 0, vS, .int .u32 0, .int .u32 0, .pointer none] 74), (b5, blk [.int .i64 e.fu, .int .i64 e.fd, .int .i64 e.tu, .int .i64 e.td, vz, .bool e.has, p, r, u, (vU e.he.signed), .bool e.he.has, (vU e.he.once), vk, (vU e.hp), (vU e.hn), vg] 37), (b4, blk [vi, vw, p0, r0, u0, (vU x.he.signed), .bool x.he.has, (vU x.he.once), .bool x.tell, vo, vt, vr, vk0, (vU x.r.sn), vl, (vU x.r.tn), (vU x.r.prev), vst] 74)]) (fun bs => [bs 5, bs 10, bs 11, bs 12, bs 15, bs 13, bs 14]) (hKn rfl) (by simp [Q6, W4]) (show ∀ m ∈ ([[], MP, [], [], [], [], []] : List Mem), ∀ x ∈ m, K x.1 from A3 (fun _ h => by cases h) (A3 (hKm) (A3 (fun _ h => by cases h) (A3 (fun _ h => by cases h) (A3 (fun _ h => by cases h) (A3 (fun _ h => by cases h) (A3 (fun _ h => by cases h) (H9)))))))) kR (fun _ => by first | rfl | kernel_rfl)
  (A3 (fun _ _ _ _ h hp => ⟨hp.1, hp.2.mono h⟩) (A3 (fun _ _ _ _ h ⟨q1, q2, e_, p1, p2, p3⟩ => ⟨q1, q2, e_, p1, p2.mono h, p3.mono h⟩) (A3 (fun _ _ _ _ h ⟨e0, q1, q2, e_, p2, p3⟩ => ⟨e0, q1, q2, e_, p2.mono h, p3.mono h⟩) (A3 (fun _ _ _ _ h hp => ⟨hp.1, hp.2.mono h⟩) (A3 (fun _ _ _ _ _ h => h) (A3 (fun _ _ _ _ h hp => ⟨hp.1, hp.2.mono h⟩) (A3 (fun _ _ _ _ _ h => h) (H9)))))))) (show List.Nodup [25, 30, 19, 31, 9, 32, 33] by decide) (show List.Nodup [5, 10, 11, 12, 15, 13, 14] by decide) (A3 (D5 rfl) (A3 (D5 rfl) (A3 (D5 rfl) (A3 (D5 rfl) (A3 (D5 rfl) (A3 (D5 rfl) (A3 (D5 rfl) (H9))))))))
  hs (List.cons_ne_nil _ _) (A3 ⟨_, rfl, fun vs bs R Rj wG hb hj hjr ha => ⟨.inl rfl, ?_⟩⟩ (A3 ⟨_, rfl, fun vs bs R Rj wG hb hj hjr ha => ⟨.inl rfl, ?_⟩⟩ (A3 ⟨_, rfl, fun vs bs R Rj wG hb hj hjr ha => ⟨.inl rfl, ?_⟩⟩ (A3 ⟨_, rfl, fun vs bs R Rj wG hb hj hjr ha => ⟨.inl rfl, ?_⟩⟩ (A3 ⟨_, rfl, fun vs bs R Rj wG hb hj hjr ha => ⟨.inl rfl, ?_⟩⟩ (H9)))))) (A3 ⟨rfl, rfl, _, _, _, _, rfl, fun vs bs Rj hj ha => ?_⟩ (A3 ⟨rfl, rfl, _, _, _, _, rfl, fun vs bs Rj hj ha => ?_⟩ (H9))) ?_
 ·
  dsimp only [Gc.inp]
  refine K0 (aS rfl (aS rfl a0)) kR (FnX.amb (A := Rj) (fun x hx => by have := hjr x hx; simp [this]) (A6P x vi vw p0 r0 u0 vo vt vr vk0 vl vst e vz p r u vk vg Rj (hx.mono (fun x hx => hj x (qS x hx))) (he_.mono (fun x hx => hj x (qS x hx))) hwi hel)) rfl ?_
  rintro r M1 J1 ⟨rfl, hh⟩
  exact ⟨_, rfl, rfl, hh.mono fun x hx => by simp [hx]⟩
 ·
  dsimp only [Gc.inp]
  have g5 := ha _ (List.mem_of_getElem? (i := 0) rfl) kR
  replace g5 : (fun v B R => B = [] ∧ By R v (x.wi ++ frW [] e)) (vs 5) (bs 5) Rj := g5
  dsimp only at g5
  obtain ⟨-, h5⟩ := g5
  haveI := h5.cel
  refine A9 (Mc := MP) (R := []) (aS rfl (aS rfl (aS rfl (aS rfl (aS rfl (a0)))))) kR qM (FnX.amb (A := Rj) (fun x hx => by have := hjr x hx; simp [this]) (B46 pb s x.r vo vt vr vk0 vl vst _ vk vg (x.wi ++ frW [] e) e.hk e.g e.hp e.hn MP Rj hP hn_ hsn (hx.r.mono (fun x hx => hj x (qS x hx))) h5 (he_.hk.mono (fun x hx => hj x (qS x hx))) hfl he_.hp he_.hn (he_.g.mono (fun x hx => hj x (qS x hx))) hgl hO.sel hO.k1 hO.s2 hO.k2 (hG.sub (fun x hx => hj x (qS x hx))))) rfl ?_
  rintro v27 M27 J27 ⟨q1, q2, rfl, hP27, p2, p3⟩
  rw [hoz] at hP27 p2 p3 ⊢
  exact ⟨_, rfl, q1, q2, rfl, by simpa using hP27, p2.mono (fun x hx => by simpa using hx), p3.mono (fun x hx => by simpa using hx)⟩
 ·
  dsimp only [Gc.inp]
  have g10 := ha _ (List.mem_of_getElem? (i := 1) rfl) kR
  replace g10 : (fun v B R => ∃ q1 q2, v = .tuple #[q1, q2, .int .i64 0] ∧ Prm pb s2 B ∧ RsV R q1 r2 ∧ By R q2 tx) (vs 10) (bs 10) Rj := g10
  dsimp only at g10
  obtain ⟨q1, q2, e_, -, k⟩ := g10
  exact OpQ.opL qm_ rfl ⟨_, rfl, rfl, q1, q2, e_, k⟩
 ·
  dsimp only [Gc.inp]
  have g11 := ha _ (List.mem_of_getElem? (i := 2) rfl) kR
  replace g11 : (fun v B R => B = [] ∧ ∃ q1 q2, v = .tuple #[q1, q2, .int .i64 0] ∧ RsV R q1 r2 ∧ By R q2 tx) (vs 11) (bs 11) Rj := g11
  dsimp only at g11
  obtain ⟨-, q1, q2, e_, k, -⟩ := g11
  exact OpQ.opL (H6 (vs := #[q1, q2, .int .i64 0]) (by rw [← e_]; rfl) rfl) rfl ⟨_, rfl, rfl, k⟩
 ·
  dsimp only [Gc.inp]
  exact D2 (cs := [vS, vS, vS, vS, E4, vS, E4, E4, .pointer none]) kR rfl fun b => ⟨_, rfl, b, rfl, rfl⟩
 ·
  have g11 := ha _ (List.mem_of_getElem? (i := 2) rfl) kR
  replace g11 : (fun v B R => B = [] ∧ ∃ q1 q2, v = .tuple #[q1, q2, .int .i64 0] ∧ RsV R q1 r2 ∧ By R q2 tx) (vs 11) (bs 11) Rj := g11
  dsimp only at g11
  obtain ⟨-, q1, q2, e_, -, k⟩ := g11
  exact ⟨_, H6 (vs := #[q1, q2, .int .i64 0]) (by rw [← e_]; rfl) rfl, rfl, k⟩
 ·
  have g11 := ha _ (List.mem_of_getElem? (i := 2) rfl) kR
  replace g11 : (fun v B R => B = [] ∧ ∃ q1 q2, v = .tuple #[q1, q2, .int .i64 0] ∧ RsV R q1 r2 ∧ By R q2 tx) (vs 11) (bs 11) Rj := g11
  dsimp only at g11
  obtain ⟨-, q1, q2, e_, -⟩ := g11
  exact ⟨_, H6 (vs := #[q1, q2, .int .i64 0]) (by rw [← e_]; rfl) rfl, rfl, rfl⟩
 intro vs bs Jn0 hφ hKK
 have kk5 := hKK _ (List.mem_of_getElem? (i := 0) rfl)
 dsimp only at kk5
 have kk10 := hKK _ (List.mem_of_getElem? (i := 1) rfl)
 dsimp only at kk10
 have kk11 := hKK _ (List.mem_of_getElem? (i := 2) rfl)
 dsimp only at kk11
 have kk12 := hKK _ (List.mem_of_getElem? (i := 3) rfl)
 dsimp only at kk12
 have kk15 := hKK _ (List.mem_of_getElem? (i := 4) rfl)
 dsimp only at kk15
 have kk13 := hKK _ (List.mem_of_getElem? (i := 5) rfl)
 dsimp only at kk13
 have kk14 := hKK _ (List.mem_of_getElem? (i := 6) rfl)
 dsimp only at kk14
 clear hKK
 have g5 := ofH hφ
 dsimp only at g5
 replace hφ := ofT hφ
 have g10 := ofH hφ
 dsimp only at g10
 replace hφ := ofT hφ
 have g11 := ofH hφ
 dsimp only at g11
 replace hφ := ofT hφ
 have g12 := ofH hφ
 dsimp only at g12
 replace hφ := ofT hφ
 have g15 := ofH hφ
 dsimp only at g15
 replace hφ := ofT hφ
 have g13 := ofH hφ
 dsimp only at g13
 replace hφ := ofT hφ
 have g14 := ofH hφ
 dsimp only at g14
 clear hφ
 dsimp only [N3, Q6, List.foldr, List.map, List.cons_append, List.nil_append]
 generalize bs 5 = B25 at *
 generalize bs 10 = B30 at *
 generalize bs 11 = B19 at *
 generalize bs 12 = B31 at *
 generalize bs 15 = B9 at *
 generalize bs 13 = B32 at *
 generalize bs 14 = B33 at *
 generalize vs 5 = u25 at *
 generalize vs 10 = u30 at *
 generalize vs 11 = u19 at *
 generalize vs 12 = u31 at *
 generalize vs 15 = u9 at *
 generalize vs 13 = u32 at *
 generalize vs 14 = u33 at *
 obtain ⟨-, -, -, hP27, -⟩ := g10
 clear g11
 obtain ⟨rfl, h25⟩ := g5
 obtain ⟨rfl, wo, wt, wr, wk, wl, wq, rfl, hn1⟩ := g12
 obtain ⟨rfl, h29⟩ := g13
 obtain ⟨rfl, rfl⟩ := g14
 obtain ⟨b9, rfl, rfl⟩ := g15
 haveI := hn1.own.cel
 haveI := hn1.their.cel
 haveI := hn1.root.cel
 haveI := hn1.sk.cel
 haveI := hn1.tk.cel
 haveI := hn1.st.cel
 haveI := h29.cel
 unfold rsC
 refine K2 rfl rfl rfl (B8 (vs := [wo, wt, wr, wk, (vU r2.sn), wl, (vU r2.tn), (vU r2.prev), wq]) rfl rfl rfl kR qR (A3 hn1.own.one (A3 hn1.their.one (A3 hn1.root.one (A3 hn1.sk.one (A3 rfl (A3 hn1.tk.one (A3 rfl (A3 rfl (A3 hn1.st.one H9))))))))) UpC.upd ?_)
 refine F1 hs rfl (F5 rfl) rfl ?_
 refine F1 hs rfl (F5 rfl) rfl ?_
 refine G7 (G6 4 6 9 10 11) (A6 (A1 (mv_ ?_)))
 refine A2 (F0 false rfl rfl (neF rfl)) rfl ?_
 refine A0 (I7 4 6 9 10 11 35) ?_
 refine B0 rfl ?_
 refine A5 (nx (F4 4 6 9 10) (A1 ?_))
 refine A2 (E7 (n := 9) (vs := [wo, wt, wr, wk, (vU r2.sn), wl, (vU r2.tn), (vU r2.prev), wq]) rfl kR At.mem rfl (D3 [] [wo, wt, wr, wk, (vU r2.sn), wl, (vU r2.tn), (vU r2.prev), wq] [])) rfl ?_
 refine A2 (D6 (place := fun x => #[(0, 2), (2, 1), (3, 1), (4, 1), (5, 1)][x]?) (z := [vS, vS, vS, .int .u32 0, .bool false, .int .u32 0]) (fun _ => by kernel_rfl) e0 bd0) rfl ?_
 refine A2 (qf_ 9 9) rfl ?_
 refine A4 rfl (K9 (vs := [wo, wt, wr, wk, (vU r2.sn), wl, (vU r2.tn), (vU r2.prev), wq]) (cs' := [vi, vw, p0, r0, u0, (vU x.he.signed), .bool x.he.has, (vU x.he.once), .bool x.tell, wo, wt, wr, wk, (vU r2.sn), wl, (vU r2.tn), (vU r2.prev), wq]) rfl rfl rfl kR (by exact (show 9 + 9 ≤ 18 by decide)) (A3 hn1.own.one (A3 hn1.their.one (A3 hn1.root.one (A3 hn1.sk.one (A3 rfl (A3 hn1.tk.one (A3 rfl (A3 rfl (A3 hn1.st.one H9))))))))) rfl UpC.upd ?_)
 refine A2 (qf_ 8 8) rfl ?_
 refine A4 rfl (F8 rfl rfl rfl kR SetC.set UpC.upd ?_)
 refine A2 (qf_ 2 2) rfl ?_
 refine A4 rfl (K9 (vs := [vS, vS, vS, .int .u32 0, .bool false, .int .u32 0]) (cs' := [vi, vw, vS, vS, vS, .int .u32 0, .bool false, .int .u32 0, .bool false, wo, wt, wr, wk, (vU r2.sn), wl, (vU r2.tn), (vU r2.prev), wq]) rfl rfl rfl kR (by exact (show 2 + 6 ≤ 18 by decide)) al6 rfl UpC.upd ?_)
 refine A0 (E5 4 6 10) (A1 ?_)
 refine A2 (E7 (n := 18) (vs := [vi, vw, vS, vS, vS, .int .u32 0, .bool false, .int .u32 0, .bool false, wo, wt, wr, wk, (vU r2.sn), wl, (vU r2.tn), (vU r2.prev), wq]) rfl kR At.mem rfl (D3 [] [vi, vw, vS, vS, vS, .int .u32 0, .bool false, .int .u32 0, .bool false, wo, wt, wr, wk, (vU r2.sn), wl, (vU r2.tn), (vU r2.prev), wq] [])) rfl ?_
 refine mv_ ?_
 refine A4 rfl (B8 (vs := [vi, vw, vS, vS, vS, .int .u32 0, .bool false, .int .u32 0, .bool false, wo, wt, wr, wk, (vU r2.sn), wl, (vU r2.tn), (vU r2.prev), wq]) rfl rfl rfl kR qR (A3 hx.id.one (A3 hx.wi.one (A3 rfl (A3 rfl (A3 rfl (A3 rfl (A3 rfl (A3 rfl (A3 rfl (A3 hn1.own.one (A3 hn1.their.one (A3 hn1.root.one (A3 hn1.sk.one (A3 rfl (A3 hn1.tk.one (A3 rfl (A3 rfl (A3 hn1.st.one H9)))))))))))))))))) UpC.upd ?_)
 refine as_ (as_ (A0 (E5 6 7 8) (A7 ?_)))
 exact ⟨_, B30, [], A1v (n := 18) rfl rfl rfl rfl kR At.mem qR, Fit.none (Fit.last qP), wo, wt, wr, wk, wl, wq, _, rfl, hP27, ⟨hx.id.mono qS, hx.wi.mono qS, B7b, (show 0 ≤ 1000000 by decide), hn1.mono qS⟩, h29.mono qS⟩

theorem B7c {P : Program} {fn : Func} {l : Env} {R : Mem} {t1 t2 u b1 b2 n1 n2 : Nat} {y1 y2 : TypeId} {c1 c2 : List Value} {e1 e2 : TypeId} {f1 f2 : Nat × Nat} {v : Value} (h : fn.results = #[.cell t1 y1, .cell t2 y2, .tmp u]) (h1 : lk l t1 = some (vP b1)) (h2 : lk l t2 = some (vP b2)) (hu : lk l u = some v) (ht1 : A4q P y1 = some n1) (ht2 : A4q P y2 = some n2)
    (hb1 : (b1, Obj.cells c1.toArray e1 f1) ∈ R) (hb2 : (b2, Obj.cells c2.toArray e2 f2) ∈ R) (hn1 : c1.length = n1) (hn2 : c2.length = n2) : Res P fn l R (.tuple #[.agg c1.toArray, .agg c2.toArray, v]) := fun N a w ha hw => by
  obtain ⟨d1, g1, g2, g3⟩ := L9 ht1
  obtain ⟨d2, k1, k2, k3⟩ := L9 ht2
  have l1 := run_loadVar_row (P := P) w b1 e1 y1 c1.toArray f1 d1 (hw b1 _ hb1) g1 (by cases d1 <;> simp_all [TypeDesc.isRow]) (by rw [g3, ← hn1]; simp)
  have l2 := run_loadVar_row (P := P) w b2 e2 y2 c2.toArray f2 d2 (hw b2 _ hb2) k1 (by cases d2 <;> simp_all [TypeDesc.isRow]) (by rw [k3, ← hn2]; simp)
  simp [results, h, ha.slot t1 _ h1, ha.slot t2 _ h2, ha.slot u _ hu, asAddr, l1, l2]
def A3r (x : Ses) (h : He) (fu fd tu td : Int) : Ev := ⟨fu, fd, tu, td, x.id, x.tell, h, [], 0, 0, []⟩
def A0P (x : Ses) (r2 : Rsd) : Ses := ⟨x.id, x.wi, x.he, x.tell, r2⟩
set_option maxHeartbeats 1000000 in
theorem A94 (pb : Nat × Nat) (s : Ps) (x : Ses) (vi vw p0 r0 u0 vo vt vr vk0 vl vst vx : Value) (fu fd tu td : Int) (tx : LN) (MP A : Mem) (hP : Prm pb s MP) (hn : s.ts.length + 200 ≤ 1000000) (hx : SeR A x vi vw p0 r0 u0 vo vt vr vk0 vl vst) (htell : x.tell = true) (hsk : 0 < x.r.sk.length) (hwi : x.wi.length ≤ 1000000) (hel : x.id.length + x.he.ia.length + x.he.ig.length + x.he.key.length ≤ 1000000) (hfl : (x.wi ++ frW [] (A3r x x.he fu fd tu td)).length ≤ 1000000) (htx : By A vx tx) (hxl : tx.length ≤ 1000000) (hG : Glb A) : FnX Tryz.prog 30 [.pointer (some ⟨pb.1, 0, none⟩), .agg (seC vi vw p0 r0 u0 vo vt vr vk0 vl vst x).toArray, .agg #[.int .i64 fu, .int .i64 fd], .agg #[.int .i64 tu, .int .i64 td], vx] MP A fun q M J => ∃ wo wt wr wk wl wq vid q2 q3, q = .tuple #[.agg (seC vi vw p0 r0 u0 wo wt wr wk wl wq (A0P x (P1 s x.r))).toArray, .agg (evC vid p0 r0 u0 q2 q3 ⟨fu, fd, tu, td, x.id, x.tell, x.he, I5 s x.r.own, x.r.prev, x.r.sn, A4m s x.r (x.wi ++ frW [] (A3r x x.he fu fd tu td)) tx⟩).toArray, .int .i64 0] ∧ Prm pb (A2T s x.r (x.wi ++ frW [] (A3r x x.he fu fd tu td)) tx) M ∧ SeR (J ++ A) (A0P x (P1 s x.r)) vi vw p0 r0 u0 wo wt wr wk wl wq ∧ EvR (J ++ A) (⟨fu, fd, tu, td, x.id, x.tell, x.he, I5 s x.r.own, x.r.prev, x.r.sn, A4m s x.r (x.wi ++ frW [] (A3r x x.he fu fd tu td)) tx⟩ : Ev) vid p0 r0 u0 q2 q3 := by
 haveI := hx.id.cel
 haveI := hx.wi.cel
 haveI := hx.he.ia.cel
 haveI := hx.he.ig.cel
 haveI := hx.he.key.cel
 haveI := hx.r.own.cel
 haveI := hx.r.their.cel
 haveI := hx.r.root.cel
 haveI := hx.r.sk.cel
 haveI := hx.r.tk.cel
 haveI := hx.r.st.cel
 haveI := htx.cel
 unfold seC
 refine FnX.enterZ (N := 57) Tryz.func30 rfl rfl rfl fun w_ => ?_
 refine A8 (G6 0 1 2 3 4) (A1 ?_)
 refine A4 rfl (bx_ fun b6 => ?_)
 refine A4 rfl (bx_ fun b7 => ?_)
 refine A4 rfl (bx_ fun b8 => ?_)
 refine A4 rfl (D2 (cs := [vS, vS, vS, vS, vS, E4, .bool false, E4, .bool false, vS, vS, vS, vS, E4, vS, E4, E4, .pointer none]) kR rfl fun b10 => ?_)
 refine A4 rfl (D2 (cs := [G8, G8, G8, G8, vS, .bool false, vS, vS, vS, E4, .bool false, E4, vS, E4, E4, vS]) kR rfl fun b11 => ?_)
 refine as_ (A0 (S9 0 4 6 7 8 10 11) ?_)
 refine E6 ([]) (_) true (.range 9) [(0, 1), (1, 1), (2, 0), (3, 1), (5, 0), (6, 1), (4, 3), (7, 3), (8, 4), (9, 2)] kR kR qP fun hs K n0 hKm hKs hKn => ?_
 refine I1 hs rfl hKs (E7 (n := 2) (vs := [.int .i64 fu, .int .i64 fd]) rfl kR At.mem rfl (D3 [] [.int .i64 fu, .int .i64 fd] [])) ?_
 refine I1 hs rfl hKs (E7 (n := 2) (vs := [.int .i64 tu, .int .i64 td]) rfl kR At.mem rfl (D3 [] [.int .i64 tu, .int .i64 td] [])) ?_
 refine F1 hs rfl (qf_ 0 0) rfl ?_
 refine I1 hs rfl hKs ql_ ?_
 refine F1 hs rfl (qf_ 8 8) rfl ?_
 refine I1 hs rfl hKs ql_ ?_
 refine V1 [⟨4, 22, none, [], fun v B R => B = [] ∧ By R v x.id⟩, ⟨7, 25, none, [], fun v B R => B = [] ∧ ∃ w0, v = .agg #[.int .i64 fu, .int .i64 fd, .int .i64 tu, .int .i64 td, w0, .bool x.tell, vS, vS, vS, .int .u32 0, .bool false, .int .u32 0, vS, .int .u32 0, .int .u32 0, vS] ∧ By R w0 x.id⟩, ⟨8, 13, none, [], fun v B _ => ∃ b, v = (vP b) ∧ B = [(b, blk [.int .i64 0, .int .i64 0, .int .i64 0, .int .i64 0, vS, .bool false, vS, vS, vS, .int .u32 0, .bool false, .int .u32 0, vS, .int .u32 0, .int .u32 0, vS] 37)]⟩] ([(b11, blk [.int .i64 0, .int .i64 0, .int .i64 0, .int .i64 0, vS, .bool false, vS, vS, vS, .int .u32 0, .bool false, .int .u32 0, vS, .int .u32 0, .int .u32 0, vS] 37), (b10, blk [vS, vS, vS, vS, vS, .int .u32 0, .bool false, .int .u32 0, .bool false, vS, vS, vS, vS, .int .u32 0, vS, .int .u32 0, .int .u32 0, .pointer none] 74), (b8, blk [.int .i64 tu, .int .i64 td] 28), (b7, blk [.int .i64 fu, .int .i64 fd] 28), (b6, blk [vi, vw, p0, r0, u0, (vU x.he.signed), .bool x.he.has, (vU x.he.once), .bool x.tell, vo, vt, vr, vk0, (vU x.r.sn), vl, (vU x.r.tn), (vU x.r.prev), vst] 74)] ++ MP) (fun bs => [bs 4, bs 7, bs 8]) (hKn rfl) (by simp [Q6, W4]) (show ∀ m ∈ ([[], [], []] : List Mem), ∀ x ∈ m, K x.1 from A3 (fun _ h => by cases h) (A3 (fun _ h => by cases h) (A3 (fun _ h => by cases h) (H9)))) kR (fun _ => by first | rfl | kernel_rfl)
  (A3 (fun _ _ _ _ h hp => ⟨hp.1, hp.2.mono h⟩) (A3 (fun _ _ _ _ h hp => (let ⟨e0, w0, e1, e2⟩ := hp; ⟨e0, w0, e1, e2.mono h⟩)) (A3 (fun _ _ _ _ _ h => h) (H9)))) (show List.Nodup [22, 25, 13] by decide) (show List.Nodup [4, 7, 8] by decide) (A3 (D5 rfl) (A3 (D5 rfl) (A3 (D5 rfl) (H9))))
  (A3 ⟨_, rfl, fun vs bs R Rj wG hb hj hjr ha => ⟨.inl rfl, ?_⟩⟩ (A3 ⟨_, rfl, fun vs bs R Rj wG hb hj hjr ha => ⟨.inl rfl, ?_⟩⟩ (A3 ⟨_, rfl, fun vs bs R Rj wG hb hj hjr ha => ⟨.inl rfl, ?_⟩⟩ (H9)))) ?_
 ·
  dsimp only [Gc.inp]
  refine K0 (aS rfl a0) kR (FnX.amb (A := Rj) (fun x hx => by have := hjr x hx; simp [this]) (K6 vi x.id Rj (hx.id.mono (fun x hx => hj x (qS x hx))))) rfl ?_
  rintro r M1 J1 ⟨rfl, hh_⟩
  exact ⟨_, rfl, rfl, hh_.mono fun z hz => by simp [hz]⟩
 ·
  dsimp only [Gc.inp]
  have g4 := ha _ (List.mem_of_getElem? (i := 0) rfl) kR
  replace g4 : (fun v B R => B = [] ∧ By R v x.id) (vs 4) (bs 4) Rj := g4
  dsimp only at g4
  obtain ⟨-, h4⟩ := g4
  haveI := h4.cel
  exact OpQ.opL (D6 (place := fun x => #[(0, 2), (2, 2), (4, 1), (5, 1), (6, 6), (12, 3), (15, 1)][x]?) (z := [G8, G8, G8, G8, vS, .bool false, vS, vS, vS, E4, .bool false, E4, vS, E4, E4, vS]) (fun _ => by kernel_rfl) (eS rfl (eS rfl (eS rfl (eS rfl e0)))) (bdS 0 2 rfl qR (bdS 2 2 rfl qR (bdS 4 1 rfl qR (bdS 5 1 rfl qR bd0))))) rfl ⟨_, rfl, rfl, _, rfl, h4⟩
 ·
  dsimp only [Gc.inp]
  exact D2 (cs := [G8, G8, G8, G8, vS, .bool false, vS, vS, vS, E4, .bool false, E4, vS, E4, E4, vS]) kR rfl fun b => ⟨_, rfl, b, rfl, rfl⟩
 intro vs bs Jn0 hφ hKK
 have kk4 := hKK _ (List.mem_of_getElem? (i := 0) rfl)
 dsimp only at kk4
 have kk7 := hKK _ (List.mem_of_getElem? (i := 1) rfl)
 dsimp only at kk7
 have kk8 := hKK _ (List.mem_of_getElem? (i := 2) rfl)
 dsimp only at kk8
 clear hKK
 have g4 := ofH hφ
 dsimp only at g4
 replace hφ := ofT hφ
 have g7 := ofH hφ
 dsimp only at g7
 replace hφ := ofT hφ
 have g8 := ofH hφ
 dsimp only at g8
 clear hφ
 dsimp only [N3, Q6, List.foldr, List.map, List.cons_append, List.nil_append]
 generalize bs 4 = B22 at *
 generalize bs 7 = B25 at *
 generalize bs 8 = B13 at *
 generalize vs 4 = u22 at *
 generalize vs 7 = u25 at *
 generalize vs 8 = u13 at *
 obtain ⟨rfl, -⟩ := g4
 obtain ⟨rfl, uid, rfl, h22⟩ := g7
 obtain ⟨b13, rfl, rfl⟩ := g8
 haveI := h22.cel
 dsimp only [List.append_eq, List.nil_append, List.cons_append]
 refine K2 rfl rfl rfl (B8 (vs := [.int .i64 fu, .int .i64 fd, .int .i64 tu, .int .i64 td, uid, .bool x.tell, vS, vS, vS, .int .u32 0, .bool false, .int .u32 0, vS, .int .u32 0, .int .u32 0, vS]) rfl rfl rfl kR qR (A3 rfl (A3 rfl (A3 rfl (A3 rfl (A3 h22.one (A3 rfl al10)))))) UpC.upd ?_)
 refine G7 (I7 0 4 6 10 11 13) (A6 (A1 ?_))
 refine A2 (qf_ 8 8) rfl ?_
 refine A2 ql_ rfl ?_
 refine A0 (S9 0 4 6 10 11 13 27) ?_
 refine E9 (by rw [← htell]; rfl) ?_
 refine C6 ?_
 refine A2 (qf_ 2 2) rfl ?_
 refine A2 (E7 (n := 6) (vs := [p0, r0, u0, (vU x.he.signed), .bool x.he.has, (vU x.he.once)]) rfl kR At.mem rfl (D3 [vi, vw] [p0, r0, u0, (vU x.he.signed), .bool x.he.has, (vU x.he.once)] [.bool x.tell, vo, vt, vr, vk0, (vU x.r.sn), vl, (vU x.r.tn), (vU x.r.prev), vst])) rfl ?_
 refine A2 (qf_ 6 6) rfl ?_
 refine A4 rfl (K9 (vs := [p0, r0, u0, (vU x.he.signed), .bool x.he.has, (vU x.he.once)]) (cs' := [.int .i64 fu, .int .i64 fd, .int .i64 tu, .int .i64 td, uid, .bool x.tell, p0, r0, u0, (vU x.he.signed), .bool x.he.has, (vU x.he.once), vS, .int .u32 0, .int .u32 0, vS]) rfl rfl rfl kR (by exact (show 6 + 6 ≤ 16 by decide)) (A3 hx.he.ia.one (A3 hx.he.ig.one (A3 hx.he.key.one al3))) rfl UpC.upd ?_)
 refine A0 (I7 0 4 6 10 11 13) ?_
 have hEv : EvR _ (A3r x x.he fu fd tu td) uid p0 r0 u0 (vS) (vS) := ⟨h22, hx.he.mono qS, hx.hil, By.nil, By.nil, (show 0 < 4294967296 by decide), (show 0 < 4294967296 by decide)⟩
 refine E6 (MP) (_) true [0, 1, 2, 3, 4, 5, 6, 7, 8, 9, 10, 11, 12, 13, 14, 17, 18] [(0, 0), (1, 0), (2, 1), (3, 1), (4, 1), (6, 0), (5, 8), (7, 8), (8, 8), (9, 8), (13, 8), (14, 8), (10, 9), (11, 9), (12, 10), (15, 2), (16, 2), (17, 0), (18, 0)] kR kR qP fun hs K n0 hKm hKs hKn => ?_
 refine km_ hs ?_
 refine F1 hs rfl (qf_ 9 9) rfl ?_
 refine I1 hs rfl hKs (E7 (n := 9) (vs := [vo, vt, vr, vk0, (vU x.r.sn), vl, (vU x.r.tn), (vU x.r.prev), vst]) rfl kR At.mem rfl (D3 [vi, vw, p0, r0, u0, (vU x.he.signed), .bool x.he.has, (vU x.he.once), .bool x.tell] [vo, vt, vr, vk0, (vU x.r.sn), vl, (vU x.r.tn), (vU x.r.prev), vst] [])) ?_
 refine I1 hs rfl hKs (E7 (n := 18) (vs := [vi, vw, p0, r0, u0, (vU x.he.signed), .bool x.he.has, (vU x.he.once), .bool x.tell, vo, vt, vr, vk0, (vU x.r.sn), vl, (vU x.r.tn), (vU x.r.prev), vst]) rfl kR At.mem rfl (D3 [] [vi, vw, p0, r0, u0, (vU x.he.signed), .bool x.he.has, (vU x.he.once), .bool x.tell, vo, vt, vr, vk0, (vU x.r.sn), vl, (vU x.r.tn), (vU x.r.prev), vst] [])) ?_
 refine I1 hs rfl hKs (E7 (n := 16) (vs := [.int .i64 fu, .int .i64 fd, .int .i64 tu, .int .i64 td, uid, .bool x.tell, p0, r0, u0, (vU x.he.signed), .bool x.he.has, (vU x.he.once), vS, .int .u32 0, .int .u32 0, vS]) rfl kR At.mem rfl (D3 [] [.int .i64 fu, .int .i64 fd, .int .i64 tu, .int .i64 td, uid, .bool x.tell, p0, r0, u0, (vU x.he.signed), .bool x.he.has, (vU x.he.once), vS, .int .u32 0, .int .u32 0, vS] [])) ?_
 refine km_ hs ?_
 refine A0b [⟨5, 37, none, [], fun v B R => B = [] ∧ By R v (x.wi ++ frW [] (A3r x x.he fu fd tu td))⟩, ⟨7, 39, none, MP, fun v B R => ∃ q1 q2 q3, v = .tuple #[q1, .agg #[q2, (vU x.r.prev), (vU x.r.sn)], q3, .int .i64 0] ∧ Prm pb (A2T s x.r (x.wi ++ frW [] (A3r x x.he fu fd tu td)) tx) B ∧ RsV R q1 (P1 s x.r) ∧ By R q2 (I5 s x.r.own) ∧ By R q3 (A4m s x.r (x.wi ++ frW [] (A3r x x.he fu fd tu td)) tx)⟩, ⟨8, 31, none, [], fun v B R => B = [] ∧ ∃ q1 q2 q3, v = .tuple #[q1, .agg #[q2, (vU x.r.prev), (vU x.r.sn)], q3, .int .i64 0] ∧ RsV R q1 (P1 s x.r) ∧ By R q2 (I5 s x.r.own) ∧ By R q3 (A4m s x.r (x.wi ++ frW [] (A3r x x.he fu fd tu td)) tx)⟩, ⟨9, 40, none, [], fun v B R => B = [] ∧ RsV R v (P1 s x.r)⟩, ⟨13, 14, none, [], fun v B _ => ∃ b, v = (vP b) ∧ B = [(b, blk [vS, vS, vS, vS, .int .u32 0, vS, .int .u32 0, .int .u32 0, .pointer none] 72)]⟩, ⟨14, 15, none, [], fun v B _ => ∃ b, v = (vP b) ∧ B = [(b, blk [vS, .int .u32 0, .int .u32 0] 35)]⟩] [⟨10, 41, none, [], fun v B R => B = [] ∧ ∃ q2, v = .agg #[q2, (vU x.r.prev), (vU x.r.sn)] ∧ By R q2 (I5 s x.r.own)⟩, ⟨11, 42, none, [], fun v B R => B = [] ∧ By R v (A4m s x.r (x.wi ++ frW [] (A3r x x.he fu fd tu td)) tx)⟩, ⟨12, 43, none, [], fun v B R => B = [] ∧ v = .int .i64 0⟩] ([(b13, blk [.int .i64 fu, .int .i64 fd, .int .i64 tu, .int .i64 td, uid, .bool x.tell, p0, r0, u0, (vU x.he.signed), .bool x.he.has, (vU x.he.once), vS, .int .u32 0, .int .u32 0, vS] 37), (b11, blk [.int .i64 0, .int .i64 0, .int .i64 0, .int .i64 0, vS, .bool false, vS, vS, vS, .int .u32 0, .bool false, .int .u32 0, vS, .int .u32 0, .int .u32 0, vS] 37), (b10, blk [vS, vS, vS, vS, vS, .int .u32 0, .bool false, .int .u32 0, .bool false, vS, vS, vS, vS, .int .u32 0, vS, .int .u32 0, .int .u32 0, .pointer none] 74), (b8, blk [.int .i64 tu, .int .i64 td] 28), (b7, blk [.int .i64 fu, .int .i64 fd] 28), (b6, blk [vi, vw, p0, r0, u0, (vU x.he.signed), .bool x.he.has, (vU x.he.once), .bool x.tell, vo, vt, vr, vk0, (vU x.r.sn), vl, (vU x.r.tn), (vU x.r.prev), vst] 74)]) (fun bs => [bs 5, bs 7, bs 8, bs 9, bs 13, bs 14, bs 10, bs 11, bs 12]) (hKn rfl) (by simp [Q6, W4]) (show ∀ m ∈ ([[], MP, [], [], [], [], [], [], []] : List Mem), ∀ x ∈ m, K x.1 from A3 (fun _ h => by cases h) (A3 (hKm) (A3 (fun _ h => by cases h) (A3 (fun _ h => by cases h) (A3 (fun _ h => by cases h) (A3 (fun _ h => by cases h) (A3 (fun _ h => by cases h) (A3 (fun _ h => by cases h) (A3 (fun _ h => by cases h) (H9)))))))))) kR (fun _ => by first | rfl | kernel_rfl)
  (A3 (fun _ _ _ _ h hp => ⟨hp.1, hp.2.mono h⟩) (A3 (fun _ _ _ _ h ⟨q1, q2, q3, e, p1, p2, p3, p4⟩ => ⟨q1, q2, q3, e, p1, p2.mono h, p3.mono h, p4.mono h⟩) (A3 (fun _ _ _ _ h ⟨e0, q1, q2, q3, e, p2, p3, p4⟩ => ⟨e0, q1, q2, q3, e, p2.mono h, p3.mono h, p4.mono h⟩) (A3 (fun _ _ _ _ h hp => ⟨hp.1, hp.2.mono h⟩) (A3 (fun _ _ _ _ _ h => h) (A3 (fun _ _ _ _ _ h => h) (A3 (fun _ _ _ _ h ⟨e0, q, e, p⟩ => ⟨e0, q, e, p.mono h⟩) (A3 (fun _ _ _ _ h hp => ⟨hp.1, hp.2.mono h⟩) (A3 (fun _ _ _ _ _ h => h) (H9)))))))))) (show List.Nodup [37, 39, 31, 40, 14, 15, 41, 42, 43] by decide) (show List.Nodup [5, 7, 8, 9, 13, 14, 10, 11, 12] by decide) (A3 (D5 rfl) (A3 (D5 rfl) (A3 (D5 rfl) (A3 (D5 rfl) (A3 (D5 rfl) (A3 (D5 rfl) (A3 (D5 rfl) (A3 (D5 rfl) (A3 (D5 rfl) (H9))))))))))
  hs (List.cons_ne_nil _ _) (A3 ⟨_, rfl, fun vs bs R Rj wG hb hj hjr ha => ⟨.inl rfl, ?_⟩⟩ (A3 ⟨_, rfl, fun vs bs R Rj wG hb hj hjr ha => ⟨.inl rfl, ?_⟩⟩ (A3 ⟨_, rfl, fun vs bs R Rj wG hb hj hjr ha => ⟨.inl rfl, ?_⟩⟩ (A3 ⟨_, rfl, fun vs bs R Rj wG hb hj hjr ha => ⟨.inl rfl, ?_⟩⟩ (A3 ⟨_, rfl, fun vs bs R Rj wG hb hj hjr ha => ⟨.inl rfl, ?_⟩⟩ (A3 ⟨_, rfl, fun vs bs R Rj wG hb hj hjr ha => ⟨.inl rfl, ?_⟩⟩ (H9))))))) (A3 ⟨rfl, rfl, _, _, _, _, rfl, fun vs bs Rj hj ha => ?_⟩ (A3 ⟨rfl, rfl, _, _, _, _, rfl, fun vs bs Rj hj ha => ?_⟩ (A3 ⟨rfl, rfl, _, _, _, _, rfl, fun vs bs Rj hj ha => ?_⟩ (H9)))) ?_
 ·
  dsimp only [Gc.inp]
  refine K0 (aS rfl (aS rfl a0)) kR (FnX.amb (A := Rj) (fun x hx => by have := hjr x hx; simp [this]) (A6P x vi vw p0 r0 u0 vo vt vr vk0 vl vst (A3r x x.he fu fd tu td) uid p0 r0 u0 (vS) (vS) Rj (hx.mono (fun x hx => hj x (qS x hx))) (hEv.mono (fun x hx => hj x (qS x hx))) hwi hel)) rfl ?_
  rintro r M1 J1 ⟨rfl, hh_⟩
  exact ⟨_, rfl, rfl, hh_.mono fun z hz => by simp [hz]⟩
 ·
  dsimp only [Gc.inp]
  have g5 := ha _ (List.mem_of_getElem? (i := 0) rfl) kR
  replace g5 : (fun v B R => B = [] ∧ By R v (x.wi ++ frW [] (A3r x x.he fu fd tu td))) (vs 5) (bs 5) Rj := g5
  dsimp only at g5
  obtain ⟨-, h5⟩ := g5
  haveI := h5.cel
  refine A9 (Mc := MP) (R := []) (aS rfl (aS rfl (aS rfl (aS rfl (a0))))) kR qM (FnX.amb (A := Rj) (fun x hx => by have := hjr x hx; simp [this]) (B4T pb s x.r vo vt vr vk0 vl vst _ vx (x.wi ++ frW [] (A3r x x.he fu fd tu td)) tx MP Rj hP qO (hx.r.mono (fun x hx => hj x (qS x hx))) hsk h5 hfl (htx.mono (fun x hx => hj x (qS x hx))) hxl (hG.sub (fun x hx => hj x (qS x hx))))) rfl ?_
  rintro v25 M25 J25 ⟨q1, q2, q3, rfl, hP25, p2, p3, p4⟩
  exact ⟨_, rfl, q1, q2, q3, rfl, by simpa using hP25, p2.mono (fun x hx => by simpa using hx), p3.mono (fun x hx => by simpa using hx), p4.mono (fun x hx => by simpa using hx)⟩
 ·
  dsimp only [Gc.inp]
  have g7 := ha _ (List.mem_of_getElem? (i := 1) rfl) kR
  replace g7 : (fun v B R => ∃ q1 q2 q3, v = .tuple #[q1, .agg #[q2, (vU x.r.prev), (vU x.r.sn)], q3, .int .i64 0] ∧ Prm pb (A2T s x.r (x.wi ++ frW [] (A3r x x.he fu fd tu td)) tx) B ∧ RsV R q1 (P1 s x.r) ∧ By R q2 (I5 s x.r.own) ∧ By R q3 (A4m s x.r (x.wi ++ frW [] (A3r x x.he fu fd tu td)) tx)) (vs 7) (bs 7) Rj := g7
  dsimp only at g7
  obtain ⟨q1, q2, q3, e, -, k⟩ := g7
  exact OpQ.opL qm_ rfl ⟨_, rfl, rfl, q1, q2, q3, e, k⟩
 ·
  dsimp only [Gc.inp]
  have g8 := ha _ (List.mem_of_getElem? (i := 2) rfl) kR
  replace g8 : (fun v B R => B = [] ∧ ∃ q1 q2 q3, v = .tuple #[q1, .agg #[q2, (vU x.r.prev), (vU x.r.sn)], q3, .int .i64 0] ∧ RsV R q1 (P1 s x.r) ∧ By R q2 (I5 s x.r.own) ∧ By R q3 (A4m s x.r (x.wi ++ frW [] (A3r x x.he fu fd tu td)) tx)) (vs 8) (bs 8) Rj := g8
  dsimp only at g8
  obtain ⟨-, q1, q2, q3, e, k, -⟩ := g8
  exact OpQ.opL (H6 (vs := #[q1, .agg #[q2, (vU x.r.prev), (vU x.r.sn)], q3, .int .i64 0]) (by rw [← e]; rfl) rfl) rfl ⟨_, rfl, rfl, k⟩
 ·
  dsimp only [Gc.inp]
  exact D2 (cs := [vS, vS, vS, vS, E4, vS, E4, E4, .pointer none]) kR rfl fun b => ⟨_, rfl, b, rfl, rfl⟩
 ·
  dsimp only [Gc.inp]
  exact D2 (cs := [vS, .int .u32 0, .int .u32 0]) kR rfl fun b => ⟨_, rfl, b, rfl, rfl⟩
 ·
  have g8 := ha _ (List.mem_of_getElem? (i := 2) rfl) kR
  replace g8 : (fun v B R => B = [] ∧ ∃ q1 q2 q3, v = .tuple #[q1, .agg #[q2, (vU x.r.prev), (vU x.r.sn)], q3, .int .i64 0] ∧ RsV R q1 (P1 s x.r) ∧ By R q2 (I5 s x.r.own) ∧ By R q3 (A4m s x.r (x.wi ++ frW [] (A3r x x.he fu fd tu td)) tx)) (vs 8) (bs 8) Rj := g8
  dsimp only at g8
  obtain ⟨-, q1, q2, q3, e, -, k, -⟩ := g8
  exact ⟨_, H6 (vs := #[q1, .agg #[q2, (vU x.r.prev), (vU x.r.sn)], q3, .int .i64 0]) (by rw [← e]; rfl) rfl, rfl, q2, rfl, k⟩
 ·
  have g8 := ha _ (List.mem_of_getElem? (i := 2) rfl) kR
  replace g8 : (fun v B R => B = [] ∧ ∃ q1 q2 q3, v = .tuple #[q1, .agg #[q2, (vU x.r.prev), (vU x.r.sn)], q3, .int .i64 0] ∧ RsV R q1 (P1 s x.r) ∧ By R q2 (I5 s x.r.own) ∧ By R q3 (A4m s x.r (x.wi ++ frW [] (A3r x x.he fu fd tu td)) tx)) (vs 8) (bs 8) Rj := g8
  dsimp only at g8
  obtain ⟨-, q1, q2, q3, e, -, -, k⟩ := g8
  exact ⟨_, H6 (vs := #[q1, .agg #[q2, (vU x.r.prev), (vU x.r.sn)], q3, .int .i64 0]) (by rw [← e]; rfl) rfl, rfl, k⟩
 ·
  have g8 := ha _ (List.mem_of_getElem? (i := 2) rfl) kR
  replace g8 : (fun v B R => B = [] ∧ ∃ q1 q2 q3, v = .tuple #[q1, .agg #[q2, (vU x.r.prev), (vU x.r.sn)], q3, .int .i64 0] ∧ RsV R q1 (P1 s x.r) ∧ By R q2 (I5 s x.r.own) ∧ By R q3 (A4m s x.r (x.wi ++ frW [] (A3r x x.he fu fd tu td)) tx)) (vs 8) (bs 8) Rj := g8
  dsimp only at g8
  obtain ⟨-, q1, q2, q3, e, -⟩ := g8
  exact ⟨_, H6 (vs := #[q1, .agg #[q2, (vU x.r.prev), (vU x.r.sn)], q3, .int .i64 0]) (by rw [← e]; rfl) rfl, rfl, rfl⟩
 intro vs bs Jn0 hφ hKK
 have kk5 := hKK _ (List.mem_of_getElem? (i := 0) rfl)
 dsimp only at kk5
 have kk7 := hKK _ (List.mem_of_getElem? (i := 1) rfl)
 dsimp only at kk7
 have kk8 := hKK _ (List.mem_of_getElem? (i := 2) rfl)
 dsimp only at kk8
 have kk9 := hKK _ (List.mem_of_getElem? (i := 3) rfl)
 dsimp only at kk9
 have kk13 := hKK _ (List.mem_of_getElem? (i := 4) rfl)
 dsimp only at kk13
 have kk14 := hKK _ (List.mem_of_getElem? (i := 5) rfl)
 dsimp only at kk14
 have kk10 := hKK _ (List.mem_of_getElem? (i := 6) rfl)
 dsimp only at kk10
 have kk11 := hKK _ (List.mem_of_getElem? (i := 7) rfl)
 dsimp only at kk11
 have kk12 := hKK _ (List.mem_of_getElem? (i := 8) rfl)
 dsimp only at kk12
 clear hKK
 have g5 := ofH hφ
 dsimp only at g5
 replace hφ := ofT hφ
 have g7 := ofH hφ
 dsimp only at g7
 replace hφ := ofT hφ
 have g8 := ofH hφ
 dsimp only at g8
 replace hφ := ofT hφ
 have g9 := ofH hφ
 dsimp only at g9
 replace hφ := ofT hφ
 have g13 := ofH hφ
 dsimp only at g13
 replace hφ := ofT hφ
 have g14 := ofH hφ
 dsimp only at g14
 replace hφ := ofT hφ
 have g10 := ofH hφ
 dsimp only at g10
 replace hφ := ofT hφ
 have g11 := ofH hφ
 dsimp only at g11
 replace hφ := ofT hφ
 have g12 := ofH hφ
 dsimp only at g12
 clear hφ
 dsimp only [N3, Q6, List.foldr, List.map, List.cons_append, List.nil_append]
 generalize bs 5 = B37 at *
 generalize bs 7 = B39 at *
 generalize bs 8 = B31 at *
 generalize bs 9 = B40 at *
 generalize bs 13 = B14 at *
 generalize bs 14 = B15 at *
 generalize bs 10 = B41 at *
 generalize bs 11 = B42 at *
 generalize bs 12 = B43 at *
 generalize vs 5 = u37 at *
 generalize vs 7 = u39 at *
 generalize vs 8 = u31 at *
 generalize vs 9 = u40 at *
 generalize vs 13 = u14 at *
 generalize vs 14 = u15 at *
 generalize vs 10 = u41 at *
 generalize vs 11 = u42 at *
 generalize vs 12 = u43 at *
 obtain ⟨-, -, -, -, hP27, -⟩ := g7
 clear g8
 obtain ⟨rfl, h5⟩ := g5
 obtain ⟨rfl, wo, wt, wr, wk, wl, wq, rfl, hn1⟩ := g9
 obtain ⟨rfl, hk_, rfl, h29⟩ := g10
 obtain ⟨rfl, h30⟩ := g11
 obtain ⟨rfl, rfl⟩ := g12
 obtain ⟨b14, rfl, rfl⟩ := g13
 obtain ⟨b15, rfl, rfl⟩ := g14
 haveI := hn1.own.cel
 haveI := hn1.their.cel
 haveI := hn1.root.cel
 haveI := hn1.sk.cel
 haveI := hn1.tk.cel
 haveI := hn1.st.cel
 haveI := h29.cel
 haveI := h30.cel
 unfold rsC
 refine K2 rfl rfl rfl (B8 (vs := [wo, wt, wr, wk, .int .u32 (((P1 s x.r).sn : Nat) : Int), wl, .int .u32 (((P1 s x.r).tn : Nat) : Int), .int .u32 (((P1 s x.r).prev : Nat) : Int), wq]) rfl rfl rfl kR qR (A3 hn1.own.one (A3 hn1.their.one (A3 hn1.root.one (A3 hn1.sk.one (A3 rfl (A3 hn1.tk.one (A3 rfl (A3 rfl (A3 hn1.st.one H9))))))))) UpC.upd ?_)
 refine K2 rfl rfl rfl (B8 (vs := [hk_, (vU x.r.prev), (vU x.r.sn)]) rfl rfl rfl kR qR (A3 h29.one al2) UpC.upd ?_)
 refine F1 hs rfl (F5 rfl) rfl ?_
 refine F1 hs rfl (F5 rfl) rfl ?_
 refine G7 (A0A 6 10 11 13 14 15 16 17) (A6 (A1 (mv_ ?_)))
 refine A2 (F0 false rfl rfl (neF rfl)) rfl ?_
 refine A0 (A3A 6 10 11 13 14 15 16 17 45) ?_
 refine B0 rfl ?_
 refine A5 (nx (S9 6 10 11 13 14 15 16) ?_)
 refine E6 ([(b6, blk [vi, vw, p0, r0, u0, (vU x.he.signed), .bool x.he.has, (vU x.he.once), .bool x.tell, vo, vt, vr, vk0, (vU x.r.sn), vl, (vU x.r.tn), (vU x.r.prev), vst] 74)]) (_) true [0, 1, 2, 3, 4, 5, 7] (zp 0 [1, 1, 0, 0, 2, 0, 2, 0, 2]) kR kR qP fun hs K n0 hKm hKs hKn => ?_
 refine I1 hs rfl hKs (E7 (n := 9) (vs := [wo, wt, wr, wk, .int .u32 (((P1 s x.r).sn : Nat) : Int), wl, .int .u32 (((P1 s x.r).tn : Nat) : Int), .int .u32 (((P1 s x.r).prev : Nat) : Int), wq]) rfl kR At.mem rfl (D3 [] [wo, wt, wr, wk, .int .u32 (((P1 s x.r).sn : Nat) : Int), wl, .int .u32 (((P1 s x.r).tn : Nat) : Int), .int .u32 (((P1 s x.r).prev : Nat) : Int), wq] [])) ?_
 refine I1 hs rfl hKs (E7 (n := 3) (vs := [hk_, (vU x.r.prev), (vU x.r.sn)]) rfl kR At.mem rfl (D3 [] [hk_, (vU x.r.prev), (vU x.r.sn)] [])) ?_
 refine km_ hs ?_
 refine F1 hs rfl (qf_ 9 9) rfl ?_
 refine F9 [(b6, blk [vi, vw, p0, r0, u0, (vU x.he.signed), .bool x.he.has, (vU x.he.once), .bool x.tell, vo, vt, vr, vk0, (vU x.r.sn), vl, (vU x.r.tn), (vU x.r.prev), vst] 74)] _ rfl rfl qP (fun x hx => hKm x hx) fun w0 => (K9 (vs := [wo, wt, wr, wk, .int .u32 (((P1 s x.r).sn : Nat) : Int), wl, .int .u32 (((P1 s x.r).tn : Nat) : Int), .int .u32 (((P1 s x.r).prev : Nat) : Int), wq]) (cs' := [vi, vw, p0, r0, u0, (vU x.he.signed), .bool x.he.has, (vU x.he.once), .bool x.tell, wo, wt, wr, wk, .int .u32 (((P1 s x.r).sn : Nat) : Int), wl, .int .u32 (((P1 s x.r).tn : Nat) : Int), .int .u32 (((P1 s x.r).prev : Nat) : Int), wq]) rfl rfl rfl kR (by exact (show 9 + 9 ≤ 18 by decide)) (A3 hn1.own.one (A3 hn1.their.one (A3 hn1.root.one (A3 hn1.sk.one (A3 rfl (A3 hn1.tk.one (A3 rfl (A3 rfl (A3 hn1.st.one H9))))))))) rfl UpC.upd ?_)
 intro _
 dsimp only [List.cons_append, List.nil_append, List.append_eq]
 refine F1 hs rfl (qf_ 12 12) rfl ?_
 refine K2 rfl rfl rfl (K9 (vs := [hk_, (vU x.r.prev), (vU x.r.sn)]) (cs' := [.int .i64 fu, .int .i64 fd, .int .i64 tu, .int .i64 td, uid, .bool x.tell, p0, r0, u0, (vU x.he.signed), .bool x.he.has, (vU x.he.once), hk_, (vU x.r.prev), (vU x.r.sn), vS]) rfl rfl rfl kR (by exact (show 12 + 3 ≤ 16 by decide)) (A3 h29.one al2) rfl UpC.upd ?_)
 refine F1 hs rfl (qf_ 15 15) rfl ?_
 refine K2 rfl rfl rfl (F8 rfl rfl h30.one kR SetC.set UpC.upd ?_)
 refine G7 (F4 6 10 11 13) ?_
 refine E6 ([(b10, blk [vS, vS, vS, vS, vS, .int .u32 0, .bool false, .int .u32 0, .bool false, vS, vS, vS, vS, .int .u32 0, vS, .int .u32 0, .int .u32 0, .pointer none] 74)]) (_) true [0, 1, 2, 4] (zp 0 [1, 1, 2, 2, 0]) kR kR qP fun hs K n0 hKm hKs hKn => ?_
 refine I1 hs rfl hKs (E7 (n := 18) (vs := [vi, vw, p0, r0, u0, (vU x.he.signed), .bool x.he.has, (vU x.he.once), .bool x.tell, wo, wt, wr, wk, .int .u32 (((P1 s x.r).sn : Nat) : Int), wl, .int .u32 (((P1 s x.r).tn : Nat) : Int), .int .u32 (((P1 s x.r).prev : Nat) : Int), wq]) rfl kR At.mem rfl (D3 [] [vi, vw, p0, r0, u0, (vU x.he.signed), .bool x.he.has, (vU x.he.once), .bool x.tell, wo, wt, wr, wk, .int .u32 (((P1 s x.r).sn : Nat) : Int), wl, .int .u32 (((P1 s x.r).tn : Nat) : Int), .int .u32 (((P1 s x.r).prev : Nat) : Int), wq] [])) ?_
 refine I1 hs rfl hKs (E7 (n := 16) (vs := [.int .i64 fu, .int .i64 fd, .int .i64 tu, .int .i64 td, uid, .bool x.tell, p0, r0, u0, (vU x.he.signed), .bool x.he.has, (vU x.he.once), hk_, (vU x.r.prev), (vU x.r.sn), u42]) rfl kR At.mem rfl (D3 [] [.int .i64 fu, .int .i64 fd, .int .i64 tu, .int .i64 td, uid, .bool x.tell, p0, r0, u0, (vU x.he.signed), .bool x.he.has, (vU x.he.once), hk_, (vU x.r.prev), (vU x.r.sn), u42] [])) ?_
 refine F9 [(b10, blk [vS, vS, vS, vS, vS, .int .u32 0, .bool false, .int .u32 0, .bool false, vS, vS, vS, vS, .int .u32 0, vS, .int .u32 0, .int .u32 0, .pointer none] 74)] _ rfl rfl qP (fun x hx => hKm x hx) fun w0 => (B8 (vs := [vi, vw, p0, r0, u0, (vU x.he.signed), .bool x.he.has, (vU x.he.once), .bool x.tell, wo, wt, wr, wk, .int .u32 (((P1 s x.r).sn : Nat) : Int), wl, .int .u32 (((P1 s x.r).tn : Nat) : Int), .int .u32 (((P1 s x.r).prev : Nat) : Int), wq]) rfl rfl rfl kR qR (A3 hx.id.one (A3 hx.wi.one (A3 hx.he.ia.one (A3 hx.he.ig.one (A3 hx.he.key.one (A3 rfl (A3 rfl (A3 rfl (A3 rfl (A3 hn1.own.one (A3 hn1.their.one (A3 hn1.root.one (A3 hn1.sk.one (A3 rfl (A3 hn1.tk.one (A3 rfl (A3 rfl (A3 hn1.st.one H9)))))))))))))))))) UpC.upd ?_)
 intro _
 dsimp only [List.cons_append, List.nil_append, List.append_eq]
 refine K2 rfl rfl rfl (B8 (vs := [.int .i64 fu, .int .i64 fd, .int .i64 tu, .int .i64 td, uid, .bool x.tell, p0, r0, u0, (vU x.he.signed), .bool x.he.has, (vU x.he.once), hk_, (vU x.r.prev), (vU x.r.sn), u42]) rfl rfl rfl kR qR (A3 rfl (A3 rfl (A3 rfl (A3 rfl (A3 h22.one (A3 rfl (A3 hx.he.ia.one (A3 hx.he.ig.one (A3 hx.he.key.one (A3 rfl (A3 rfl (A3 rfl (A3 h29.one (A3 rfl (A3 rfl (A3 h30.one H9)))))))))))))))) UpC.upd ?_)
 refine F1 hs rfl (F5 rfl) rfl ?_
 refine G7 (E5 10 11 12) (A7 ?_)
 exact ⟨_, B39, [], B7c (n1 := 18) (n2 := 16) rfl rfl rfl rfl kR kR At.mem At.mem qR qR, Fit.none (Fit.last qP), wo, wt, wr, wk, wl, wq, uid, hk_, u42, rfl, hP27, ⟨hx.id.mono qS, hx.wi.mono qS, hx.he.mono qS, hx.hil, hn1.mono qS⟩, ⟨h22.mono qS, hx.he.mono qS, hx.hil, h29.mono qS, h30.mono qS, hx.r.prev, hx.r.sn⟩⟩


noncomputable def sB (k : Ks) (b : Bn) (s : Ps) : Ps := idS k (stS k b s)
noncomputable def sWi (k : Ks) (b : Bn) (s : Ps) : LN := A9m k.user k.dev (idA k (stS k b s)) (idG k (stS k b s)) b.user b.dev b.ia b.ig
noncomputable def sNm (k : Ks) (b : Bn) (s : Ps) : List (LN) := [B48, sWi k b s, heW [] (stH k b s)]
noncomputable def sC (k : Ks) (b : Bn) (s : Ps) : Ps := A4a (sB k b s) (sNm k b s)
noncomputable def sD (k : Ks) (b : Bn) (s : Ps) : Ps := begS (sC k b s) (stK k b s) b.key
noncomputable def sX (k : Ks) (b : Bn) (s : Ps) : Ses := ⟨A1z (sB k b s) (sNm k b s), sWi k b s, stH k b s, true, B6U (sC k b s) (stK k b s) b.key⟩
structure StH (k : Ks) (b : Bn) (s : Ps) : Prop where
  a : (stS k b s).ts.length ≤ 900000
  n : (stS k b s).n < 900000000
  ia : (stH k b s).ia.length ≤ 100000
  ig : (stH k b s).ig.length ≤ 100000
  key : (stH k b s).key.length ≤ 100000
  l : (idA k (stS k b s)).length + (idG k (stS k b s)).length + b.ia.length + b.ig.length ≤ 1000000
theorem A95 (s : Ps) (ws : List (LN)) : (A4a s ws).ts.length ≤ s.ts.length + 1 := W2
theorem B8A (k : Ks) (s : Ps) : (idS k s).n = s.n := rfl
theorem B5d (s : Ps) (ws : List (LN)) : (A4a s ws).n = s.n := rfl
theorem sC_n (k : Ks) (b : Bn) (s : Ps) : (sC k b s).n = (stS k b s).n := by
  unfold sC
  rw [B5d]
  unfold sB
  rw [B8A]
set_option maxHeartbeats 1000000 in
theorem A6S (pb : Nat × Nat) (s : Ps) (kb : Nat) (k : Ks) (va vg vq vo vm : Value) (rs ro rm : List (List Value)) (b : Bn) (wa wg wk ws_ wo : Value) (MP A : Mem) (hK : KyR A kb k va vg vq vo vm rs ro rm) (hP : Prm pb s MP) (har : Ar s.ts) (hn : s.ts.length + 1000 ≤ 1040000) (hk : s.n < 1000000000) (ga : By A wa b.ia) (gg : By A wg b.ig) (gk : By A wk b.key) (gs : By A ws_ b.sig) (go : By A wo b.oncek) (hsn : b.signed < 4294967296) (hon : b.once < 4294967296) (hck : ckB s b = true) (hS : StH k b s) (hG : Glb A) : FnX Tryz.prog 29 [.pointer (some ⟨pb.1, 0, none⟩), (vP kb), .agg #[.int .i64 b.user, .int .i64 b.dev, wa, wg, (vU b.signed), wk, ws_, .bool b.has, (vU b.once), wo]] MP A fun q M J => ∃ vi vw p r u xo xt xr xk xl xq, q = .tuple #[.agg (seC vi vw p r u xo xt xr xk xl xq (sX k b s)).toArray, .int .i64 0] ∧ Prm pb (sD k b s) M ∧ SeR (J ++ A) (sX k b s) vi vw p r u xo xt xr xk xl xq := by
 haveI := ga.cel
 haveI := gg.cel
 haveI := gk.cel
 haveI := gs.cel
 haveI := go.cel
 refine FnX.enterZ (N := 46) Tryz.func29 rfl rfl rfl fun w_ => ?_
 refine A8 (E5 0 1 2) (A1 ?_)
 refine A4 rfl (bx_ fun b5 => ?_)
 refine A4 rfl (D2 (cs := [vS, vS, vS, vS, vS, E4, .bool false, E4, .bool false, vS, vS, vS, vS, E4, vS, E4, E4, .pointer none]) kR rfl fun b6 => ?_)
 refine as_ (A0 (F4 0 1 5 6) (A1 (mv_ (mv_ ?_))))
 refine A2 (E7 (n := 10) (vs := [.int .i64 b.user, .int .i64 b.dev, wa, wg, (vU b.signed), wk, ws_, .bool b.has, (vU b.once), wo]) rfl kR At.mem rfl (D3 [] [.int .i64 b.user, .int .i64 b.dev, wa, wg, (vU b.signed), wk, ws_, .bool b.has, (vU b.once), wo] [])) rfl ?_
 refine A4 rfl (A9 (Mc := MP) (R := _) (aS rfl (aS rfl (aS rfl (a0)))) kR qP (FnX.amb qS (B4r pb s kb k va vg vq vo vm rs ro rm b wa wg wk ws_ wo MP A hK hP har hn hk ga gg gk gs go hsn hon hG)) rfl ?_)
 rintro v16 M16 J16 ⟨hs16, -⟩
 obtain ⟨u16, p, r, u, rfl, hP16, hb16, hH⟩ := hs16 hck
 haveI := hb16.cel
 haveI := hH.ia.cel
 haveI := hH.ig.cel
 haveI := hH.key.cel
 have hig := hH.ig.by (by have := hS.ig; omega)
 unfold heC
 have z1 := hS.a
 have z2 := hS.ia
 have z3 := hS.ig
 have z4 := hS.key
 have z5 := hS.l
 have z6 := hS.n
 refine mv_ ?_
 refine A2 (R6 rfl) rfl ?_
 refine A2 (R4 rfl) rfl ?_
 refine A2 (B5v rfl) rfl ?_
 refine A4 rfl (D2 (cs := [vS, vS, vS, .int .u32 0, .bool false, .int .u32 0]) kR rfl fun b9 => ?_)
 refine as_ ?_
 refine A4 rfl (B8 (vs := [p, r, u, .int .u32 (((stH k b s).signed : Nat) : Int), .bool (stH k b s).has, .int .u32 (((stH k b s).once : Nat) : Int)]) rfl rfl rfl kR qR (A3 hH.ia.one (A3 hH.ig.one (A3 hH.key.one al3))) UpC.upd ?_)
 refine as_ (A0 (S9 0 1 5 6 8 9 10) (A6 (A1 (mv_ ?_))))
 refine A2 (F0 false rfl rfl (neF rfl)) rfl ?_
 refine A0 (A0A 0 1 5 6 8 9 10 21) ?_
 refine B0 rfl ?_
 refine A5 (nx (I7 0 1 5 6 8 9) ?_)
 refine E6 (M16) (_) true (.range 11) [(0, 0), (2, 0), (3, 0), (5, 0), (6, 1), (7, 0), (8, 1), (1, 2), (4, 2), (9, 2), (10, 0)] kR kR qP fun hs K n0 hKm hKs hKn => ?_
 refine km_ hs ?_
 refine km_ hs ?_
 refine km_ hs ?_
 refine F1 hs rfl (qf_ 0 0) rfl ?_
 refine I1 hs rfl hKs (E7 (n := 2) (vs := [.int .i64 b.user, .int .i64 b.dev]) rfl kR At.mem rfl (D3 [] [.int .i64 b.user, .int .i64 b.dev] [wa, wg, (vU b.signed), wk, ws_, .bool b.has, (vU b.once), wo])) ?_
 refine F1 hs rfl (qf_ 2 2) rfl ?_
 refine I1 hs rfl hKs (E7 (n := 2) (vs := [wa, wg]) rfl kR At.mem rfl (D3 [.int .i64 b.user, .int .i64 b.dev] [wa, wg] [(vU b.signed), wk, ws_, .bool b.has, (vU b.once), wo])) ?_
 refine F9 [] _ rfl rfl (List.Perm.refl _) (fun _ h => by cases h) fun w0 => (X3 (aS rfl a0) kR (A42 kb k va vg vq vo vm rs ro rm _ (hK.mono qS)) rfl fun _ => ?_)
 dsimp only [List.nil_append, List.append_eq]
 refine F9 _ _ rfl rfl (List.Perm.refl _) hKm fun w0 => (A9 (Mc := M16) (R := _) (aS rfl (aS rfl (a0))) kR qP (A2x pb (stS k b s) kb k va vg vq vo vm rs ro rm M16 _ (hK.mono qS) hP16 qO hG.up) rfl ?_)
 rintro v28 M28 J28 ⟨hP28, xa, xg, rfl, hxa, hxg⟩ hKx28
 haveI := hxa.cel
 haveI := hxg.cel
 change Prm pb (sB k b s) M28 at hP28
 refine F9 [] _ rfl rfl (List.Perm.refl _) (fun _ h => by cases h) fun w0 => (K0 (aS rfl (aS rfl (aS rfl (aS rfl a0)))) kR (A9n k.user k.dev b.user b.dev xa xg wa wg _ _ b.ia b.ig _ (hxa.mono qS) (hxg.mono qS) (ga.mono qS) (gg.mono qS) qO) rfl ?_)
 rintro v33 M33 J33 ⟨rfl, h33⟩ _
 haveI := h33.cel
 change By _ v33 (sWi k b s) at h33
 dsimp only [List.nil_append, List.append_eq]
 refine F1 hs rfl (F5 rfl) rfl ?_
 refine G7 (I7 0 5 6 8 9 11) ?_
 have y1 := A0L k (stS k b s)
 change (sB k b s).ts.length ≤ _ at y1
 have y2 := A95 (sB k b s) (sNm k b s)
 change (sC k b s).ts.length ≤ _ at y2
 have y3 : (sC k b s).n = (stS k b s).n := sC_n k b s
 refine E6 (M28) (_) true [0, 1, 2, 3, 4, 5, 6, 7, 8, 9, 10, 11, 13] [(0, 0), (1, 0), (2, 1), (4, 0), (5, 1), (6, 0), (7, 0), (8, 0), (9, 1), (3, 2), (10, 2), (11, 0), (12, 2), (13, 0)] kR kR qP fun hs K n0 hKm hKs hKn => ?_
 refine km_ hs ?_
 refine km_ hs ?_
 refine I1 hs rfl hKs (E7 (n := 6) (vs := [p, r, u, .int .u32 (((stH k b s).signed : Nat) : Int), .bool (stH k b s).has, .int .u32 (((stH k b s).once : Nat) : Int)]) rfl kR At.mem rfl (D3 [] [p, r, u, .int .u32 (((stH k b s).signed : Nat) : Int), .bool (stH k b s).has, .int .u32 (((stH k b s).once : Nat) : Int)] [])) ?_
 refine km_ hs ?_
 refine I1 hs rfl hKs (E7 (n := 6) (vs := [p, r, u, .int .u32 (((stH k b s).signed : Nat) : Int), .bool (stH k b s).has, .int .u32 (((stH k b s).once : Nat) : Int)]) rfl kR At.mem rfl (D3 [] [p, r, u, .int .u32 (((stH k b s).signed : Nat) : Int), .bool (stH k b s).has, .int .u32 (((stH k b s).once : Nat) : Int)] [])) ?_
 refine km_ hs ?_
 refine km_ hs ?_
 refine F1 hs rfl (qf_ 5 5) rfl ?_
 refine I1 hs rfl hKs ql_ ?_
 refine F9 _ _ rfl rfl (List.Perm.refl _) hKm fun w0 => (A9 (Mc := M28) (R := _) (aS rfl (aS rfl (aS rfl (a0)))) kR qP (A9Y pb (sB k b s) v33 (sWi k b s) (stH k b s) p r u M28 _ hP28 qO (h33.mono qS) (hH.mono qS) qO qO hG.up) rfl ?_)
 rintro v37 M37 J37 ⟨hP37, h37⟩ hKx37
 haveI := h37.cel
 change Prm pb (sC k b s) M37 at hP37
 refine F9 M37 _ rfl rfl qP (fun x hx => hKx37 (hKn rfl) x (by simpa using hx)) fun w0 => (A9 (Mc := M37) (R := _) (aS rfl (aS rfl (aS rfl (a0)))) kR qP (FnX.amb qS (B4O pb (sC k b s) u16 wk (stK k b s) b.key M37 (J16 ++ A) hP37 qO qO (hb16.mono qS) (gk.mono qS) (hG.sub qS))) rfl ?_)
 rintro v44 M44 J44 ⟨hP44, xo, xt, xr, xk, xl, xq, rfl, hr44⟩ hKx44
 haveI := hr44.own.cel
 haveI := hr44.their.cel
 haveI := hr44.root.cel
 haveI := hr44.sk.cel
 haveI := hr44.tk.cel
 haveI := hr44.st.cel
 unfold rsC
 refine F1 hs rfl (D6 (place := fun x => #[(0, 1), (1, 1), (2, 6), (8, 1), (9, 9)][x]?) (z := [vS, vS, vS, vS, vS, E4, .bool false, E4, .bool false, vS, vS, vS, vS, E4, vS, E4, E4, .pointer none]) (fun _ => by kernel_rfl) (eS rfl (eS rfl (eS rfl (eS rfl (eS rfl e0))))) (bdS 0 1 rfl qR (bdS 1 1 rfl qR (bdS 2 6 rfl qR (bdS 8 1 rfl qR (bdS 9 9 rfl qR bd0)))))) rfl ?_
 refine K2 rfl rfl rfl (B8 (vs := [v37, v33, p, r, u, .int .u32 (((stH k b s).signed : Nat) : Int), .bool (stH k b s).has, .int .u32 (((stH k b s).once : Nat) : Int), .bool true, xo, xt, xr, xk, .int .u32 (((B6U (sC k b s) (stK k b s) b.key).sn : Nat) : Int), xl, .int .u32 (((B6U (sC k b s) (stK k b s) b.key).tn : Nat) : Int), .int .u32 (((B6U (sC k b s) (stK k b s) b.key).prev : Nat) : Int), xq]) rfl rfl rfl kR qR (A3 h37.one (A3 h33.one (A3 hH.ia.one (A3 hH.ig.one (A3 hH.key.one (A3 rfl (A3 rfl (A3 rfl (A3 rfl (A3 hr44.own.one (A3 hr44.their.one (A3 hr44.root.one (A3 hr44.sk.one (A3 rfl (A3 hr44.tk.one (A3 rfl (A3 rfl (A3 hr44.st.one H9)))))))))))))))))) UpC.upd ?_)
 refine F1 hs rfl (F5 rfl) rfl ?_
 refine G7 (D0 6 7) (A7 ?_)
 exact ⟨_, M44, [], W0 (n := 18) rfl rfl rfl kR At.mem qR, Fit.none (Fit.last qP), v37, v33, p, r, u, xo, xt, xr, xk, xl, xq, rfl, hP44, ⟨h37.mono qS, h33.mono qS, hH.mono qS, by show (stH k b s).ig.length ≤ _; omega, hr44.mono qS⟩⟩

def B1O : LN := [115, 101, 99, 114, 101, 116]
def shN (b : Bn) : List (LN) := [b.ia, b.ig, b.key, b.sig.take 32] ++ (if b.has then [b.oncek] else [])
def trN (e : Ev) : List (LN) := [e.ses, e.hk, e.g] ++ (if e.has then [e.he.ia, e.he.ig, e.he.key] else [])
def wiW (x : Ses) (h : He) (fu fd tu td : Int) : LN := x.wi ++ frW [] (A3r x h fu fd tu td)
noncomputable def evS (s : Ps) (x : Ses) (h : He) (fu fd tu td : Int) (tx : LN) : Ev := ⟨fu, fd, tu, td, x.id, x.tell, h, I5 s x.r.own, x.r.prev, x.r.sn, A4m s x.r (wiW x h fu fd tu td) tx⟩
def zP0 : Ps := ⟨[], 0, []⟩
noncomputable def aA : Ks × Ps := A9e 0 1 zP0
noncomputable def aB : Ks × Ps := A9e 1 1 aA.2
noncomputable def aU : List Bn × Ps := B4g aB.1 aB.2
noncomputable def aY : Bn := aU.1.getD 1 ⟨0, 0, [], [], 0, [], [], false, 0, []⟩
noncomputable def aX : Ses := sX aA.1 aY aU.2
noncomputable def aD : Ps := sD aA.1 aY aU.2
def aT : LN := S6 1 1 B1O
noncomputable def aE : Ps := A2T aD aX.r (wiW aX aX.he 0 1 1 1) aT
noncomputable def aV : Ev := evS aD aX aX.he 0 1 1 1 aT
noncomputable def aC : Ks × Ps := A9e 2 1 aE
def HL (l : LN) (n : Nat) : List Bool := (List.range n).map fun i => l.contains i
theorem B7d {l : LN} {n i : Nat} (h : kat (HL l n) i = true) : i ∈ l := by
  unfold kat HL at h
  rw [List.getD_eq_getElem?_getD, List.getElem?_map] at h
  by_cases hi : i < n
  · rw [List.getElem?_range hi] at h
    simpa using h
  · rw [List.getElem?_eq_none (by simpa using hi)] at h
    cases h
def lS : LN := [12, 13, 18, 19, 20, 21, 22, 23]
def lT : LN := [29, 30, 31, 34, 39, 42]
def aH : List Bool := HL (32 :: (lS ++ lT)) 43
def aHC : List Bool := HL (32 :: (lS ++ lT ++ [43, 44, 45, 46, 47, 48, 49, 50, 51])) 52
def evB (a b : Ev) : Bool := decide (a.fu = b.fu) && decide (a.fd = b.fd) && decide (a.tu = b.tu) && decide (a.td = b.td) && a.ses == b.ses && a.has == b.has && a.he.ia == b.he.ia && a.he.ig == b.he.ig && a.he.key == b.he.key && a.he.signed == b.he.signed && a.he.has == b.he.has && a.he.once == b.he.once && a.hk == b.hk && a.hp == b.hp && a.hn == b.hn && a.g == b.g
theorem B5e {a b : Ev} (h : evB a b = true) : a = b := by
  obtain ⟨x1, x2, x3, x4, x5, x6, ⟨y1, y2, y3, y4, y5, y6⟩, x8, x9, xa, xb⟩ := a
  obtain ⟨u1, u2, u3, u4, u5, u6, ⟨v1, v2, v3, v4, v5, v6⟩, u8, u9, ua, ub⟩ := b
  simp only [evB, Bool.and_eq_true, decide_eq_true_eq, beq_iff_eq] at h
  obtain ⟨⟨⟨⟨⟨⟨⟨⟨⟨⟨⟨⟨⟨⟨⟨rfl, rfl⟩, rfl⟩, rfl⟩, rfl⟩, rfl⟩, rfl⟩, rfl⟩, rfl⟩, rfl⟩, rfl⟩, rfl⟩, rfl⟩, rfl⟩, rfl⟩, rfl⟩ := h
  rfl
theorem af : (aB.1.signed.length = 1 ∧ aB.1.once.length ≤ 10 ∧ aU.1.length = 5 ∧ aB.2.ts.length ≤ 100 ∧ aU.2.ts.length = 24 ∧ aU.2.n ≤ 100 ∧ ckB aU.2 aY = true) ∧
    (∀ t ∈ aU.2.ts, (t.kind = 3 ∨ t.kind = 6 ∨ t.kind = 7) → 0 < t.of.length) ∧
    ((stS aA.1 aY aU.2).ts.length ≤ 900000 ∧ (stS aA.1 aY aU.2).n < 900000000 ∧ (stH aA.1 aY aU.2).ia.length ≤ 100000 ∧ (stH aA.1 aY aU.2).ig.length ≤ 100000 ∧ (stH aA.1 aY aU.2).key.length ≤ 100000 ∧ (idA aA.1 (stS aA.1 aY aU.2)).length + (idG aA.1 (stS aA.1 aY aU.2)).length + aY.ia.length + aY.ig.length ≤ 1000000) ∧
    (aD.ts.length ≤ 1000 ∧ aD.n ≤ 1000 ∧ 0 < aX.r.sk.length ∧ aX.wi.length ≤ 1000000 ∧ aX.id.length + aX.he.ia.length + aX.he.ig.length + aX.he.key.length ≤ 1000000 ∧ (wiW aX aX.he 0 1 1 1).length ≤ 1000000 ∧ aX.tell = true ∧ aE.ts.length = 43 ∧ aE.n ≤ 100 ∧ aV.has = true ∧ (A35 aV).length ≤ 100000 ∧ aV.ses.length + aV.he.ia.length + aV.he.ig.length + aV.he.key.length + aV.hk.length + aV.g.length ≤ 10000000) ∧
    (dcO (A35 aV) && evB (dcE (A35 aV)) aV) = true ∧
    (aU.1.all fun b => gdB aU.2.ts (shN b) && (lrI aU.2.ts (shN b)).all (kat aH)) = true ∧
    (lS.all fun x => aU.1.any fun b => (lrI aU.2.ts (shN b)).contains x) = true ∧
    B6O aU.2.ts aH = true ∧ (gdB aE.ts (trN aV) && (lrI aE.ts (trN aV)).all (kat aH)) = true ∧ (lT.all fun x => (lrI aE.ts (trN aV)).contains x) = true ∧ B6O aE.ts aH = true ∧
    ((List.range aE.ts.length).all fun i => !txF aE.ts aH i) = true ∧
    (aE.ts.all fun t => t.kind != 6 || (decide (0 < t.of.length) && t.text == S7 [alW (wiW aX aX.he 0 1 1 1) aV.hk aV.hp aV.hn, aT])) = true := by decide +kernel
theorem af2 : (aC.2.ts.length = 52 ∧ aC.2.n ≤ 1000 ∧ aC.1.signed.length ≤ 2 ∧ aC.1.once.length ≤ 100) ∧ (gdB aC.2.ts (A3j aC.1) && (lrI aC.2.ts (A3j aC.1)).all (kat aHC)) = true ∧ B6O aC.2.ts aHC = true ∧ ((List.range aC.2.ts.length).all fun i => !txF aC.2.ts aHC i) = true ∧
    ((List.range 52).all fun i => !kat aH i || kat aHC i) = true ∧
    gdB aC.2.ts (A3j aB.1) = true ∧ B6Q aC.2.ts [32, 25, 26, 27, 28, 33, 36, 38, 40] (HL (lrI aC.2.ts (A3j aB.1) ++ (lS ++ lT)) 52) = true ∧ txF aC.2.ts (HL [40, 42] 52) 42 = true ∧ A5b aT B1O = true ∧
    (aC.2.ts.all fun t => t.kind != 6 || (decide (0 < t.of.length) && t.text == S7 [alW (wiW aX aX.he 0 1 1 1) aV.hk aV.hp aV.hn, aT])) = true := by decide +kernel

theorem B7e {R : Mem} {v : Value} {w : LN} (h : Byi R v w) {k : Nat} (hk : k ≤ w.length) : Byi R (vHi k v) (w.take k) := ⟨by
  have h1 := h.rd.hiV k hk
  rw [Nat.mul_one, ← A4t] at h1
  rw [List.length_take, Nat.min_eq_left hk]
  exact h1, fun x hx => h.lt x (List.mem_of_mem_take hx), by rw [List.length_take]; have := h.len; omega⟩
theorem A7G (v : Value) (ws : LN) (A : Mem) (h : Byi A v ws) : FnV Tryz.prog 123 [v] A (vHi (min ws.length 32) v) := by
 haveI := h.cel
 refine FnX.enter (N := 8) Tryz.func123 rfl rfl rfl fun w => ?_
 refine A8 (C7 0) (A1 (as_ (A0 (C7 0) (A1 (mv_ (mv_ ?_))))))
 refine A2 (E2 (sz := 1) rfl kR h.rd) rfl ?_
 refine A2 (B2k ((min ws.length 32 : Nat) : Int) rfl rfl (by split <;> omega)) rfl ?_
 refine A2 (A19 (sz := 1) (a := min ws.length 32) rfl rfl kR rfl h.rd qO) rfl ?_
 refine as_ (A0 (C7 2) (A7 ?_))
 exact ⟨_, [], [], F7 rfl rfl, List.nil_sublist _, by simp, rfl, rfl, rfl⟩
theorem A7H (y0 : Int) (y1 : Int) (y2 : Value) (wy2 : LN) (y3 : Value) (wy3 : LN) (y4 : Nat) (y5 : Value) (wy5 : LN) (y6 : Value) (wy6 : LN) (y7 : Bool) (y8 : Nat) (y9 : Value) (wy9 : LN) (A : Mem) (h2 : Byi A y2 wy2) (h3 : Byi A y3 wy3) (h5 : Byi A y5 wy5) (h6 : Byi A y6 wy6) (h9 : Byi A y9 wy9) : FnX Tryz.prog 71 [.agg #[.int .i64 y0, .int .i64 y1, y2, y3, (vU y4), y5, y6, .bool y7, (vU y8), y9]] [] A fun q M J => Sl 1 q (4 + (if y7 then 1 else 0)) ([y2, y3, y5, vHi (min wy6.length 32) y6] ++ (if y7 then [y9] else [])) M := by
 haveI := h2.cel
 haveI := h3.cel
 haveI := h5.cel
 haveI := h6.cel
 haveI := h9.cel
 refine FnX.enterZ (N := 24) Tryz.func71 rfl rfl rfl fun w_ => ?_
 refine A8 (C7 0) (A1 ?_)
 refine A4 rfl (bx_ fun b1 => ?_)
 refine as_ (A0 (C7 1) ?_)
 refine G5 (.range 13) (zp 0 [0, 0, 1, 0, 0, 1, 0, 1, 0, 1, 2, 2, 0]) kR kR fun hs => ?_
 refine E8 hs rfl (qf_ 2 2) rfl ?_
 refine E8 hs rfl (qf_ 2 0) rfl ?_
 refine R5 hs rfl ql_ rfl ?_
 refine E8 hs rfl (qf_ 2 2) rfl ?_
 refine E8 hs rfl (qf_ 3 1) rfl ?_
 refine R5 hs rfl ql_ rfl ?_
 refine E8 hs rfl (qf_ 5 5) rfl ?_
 refine R5 hs rfl ql_ rfl ?_
 refine E8 hs rfl (qf_ 6 6) rfl ?_
 refine R5 hs rfl ql_ rfl ?_
 refine Q2 rfl (aS rfl a0) kR (A7G y6 wy6 _ (h6.mono qS)) rfl ?_
 have h6m := B7e h6 (show min wy6.length 32 ≤ wy6.length by omega)
 generalize hvm : vHi (min wy6.length 32) y6 = vm at *
 haveI := h6m.cel
 refine A5s rfl rfl fun _ => (C4 (e := 22) (sz := 1) (z := [vS, vS, vS, vS]) kR (eS rfl (eS rfl (eS rfl (eS rfl e0)))) (bdS 0 1 rfl qR (bdS 1 1 rfl qR (bdS 2 1 rfl qR (bdS 3 1 rfl qR bd0)))) rfl fun b15 => ?_)
 refine fa_ hs ?_
 refine I2 (D0 1 3) (A6 (A1 ?_))
 refine A2 (qf_ 7 7) rfl ?_
 refine A2 ql_ rfl ?_
 refine A0 (E5 1 3 17) ?_
 refine C3 rfl ?_ ?_ <;> intro hc
 ·
  obtain rfl : y7 = true := hc
  refine C6 (mv_ ?_)
  refine A2 (qf_ 9 9) rfl ?_
  refine A2 ql_ rfl ?_
  refine A4 rfl (C4 (e := 22) (sz := 1) (z := [vS]) kR (eS rfl e0) (bdS 0 1 rfl qR bd0) rfl fun b21 => ?_)
  refine A4 rfl (F6 (e := 22) (sz := 1) (by_ := 24) rfl rfl kR rfl (Sl.fresh (n := 4) (sz := 1) (cs := [y2, y3, y5, vm]) (e := 22) qR qD) (Rd.whole (n := 1) At.mem qR) (by intro c hc; rw [List.mem_singleton.1 hc]; exact h9.one) qP (by unfold maxLen; omega) qO rfl fun v22 B22 hs22 => ?_)
  refine as_ (A0 (C7 3) (A1 (mv_ (as_ (A0 (C7 2) (A7 ?_))))))
  exact ⟨_, B22, [], F7 rfl rfl, Fit.none (Fit.last qP), hs22⟩
 ·
  obtain rfl : y7 = false := hc
  refine A5 (nx (C7 3) (A1 (mv_ (as_ (A0 (C7 2) (A7 ?_))))))
  exact ⟨_, [(b15, _)], [], F7 rfl rfl, Fit.none (Fit.last qP), Sl.fresh (n := 4) (sz := 1) (cs := [y2, y3, y5, vm]) (e := 22) qR qD⟩

theorem A5e (y0 : Int) (y1 : Int) (y2 : Int) (y3 : Int) (y4 : Value) (y5 : Bool) (y6 : Value) (y7 : Value) (y8 : Value) (y9 : Nat) (y10 : Bool) (y11 : Nat) (y12 : Value) (y13 : Nat) (y14 : Nat) (y15 : Value) [c4 : Cel y4 [y4]] [c6 : Cel y6 [y6]] [c7 : Cel y7 [y7]] [c8 : Cel y8 [y8]] [c12 : Cel y12 [y12]] [c15 : Cel y15 [y15]] (o4 : y4.oneCell' = true) (o6 : y6.oneCell' = true) (o7 : y7.oneCell' = true) (o8 : y8.oneCell' = true) (o12 : y12.oneCell' = true) (o15 : y15.oneCell' = true) (A : Mem) : FnX Tryz.prog 12 [.agg #[.int .i64 y0, .int .i64 y1, .int .i64 y2, .int .i64 y3, y4, .bool y5, y6, y7, y8, (vU y9), .bool y10, (vU y11), y12, (vU y13), (vU y14), y15]] [] A fun q M J => Sl 1 q (3 + (if y5 then 3 else 0)) ([y4, y12, y15] ++ (if y5 then [y6, y7, y8] else [])) M := by
 refine FnX.enterZ (N := 29) Tryz.func12 rfl rfl rfl fun w_ => ?_
 refine A8 (C7 0) (A1 ?_)
 refine A4 rfl (bx_ fun b1 => ?_)
 refine as_ (A0 (C7 1) (A1 ?_))
 refine A2 (qf_ 4 4) rfl ?_
 refine A2 ql_ rfl ?_
 refine A2 (qf_ 12 12) rfl ?_
 refine A2 (qf_ 12 0) rfl ?_
 refine A2 ql_ rfl ?_
 refine A2 (qf_ 15 15) rfl ?_
 refine A2 ql_ rfl ?_
 refine A4 rfl (C4 (e := 22) (sz := 1) (z := [vS, vS, vS]) kR (eS rfl (eS rfl (eS rfl e0))) (bdS 0 1 rfl qR (bdS 1 1 rfl qR (bdS 2 1 rfl qR bd0))) rfl fun b11 => ?_)
 refine as_ (A0 (D0 1 3) (A6 (A1 ?_)))
 refine A2 (qf_ 5 5) rfl ?_
 refine A2 ql_ rfl ?_
 refine A0 (E5 1 3 13) ?_
 refine C3 rfl ?_ ?_ <;> intro hc
 ·
  obtain rfl : y5 = true := hc
  refine C6 (mv_ ?_)
  refine A2 (qf_ 6 6) rfl ?_
  refine A2 (qf_ 6 0) rfl ?_
  refine A2 (qf_ 6 0) rfl ?_
  refine A2 ql_ rfl ?_
  refine A2 (qf_ 6 6) rfl ?_
  refine A2 (qf_ 6 0) rfl ?_
  refine A2 (qf_ 7 1) rfl ?_
  refine A2 ql_ rfl ?_
  refine A2 (qf_ 6 6) rfl ?_
  refine A2 (qf_ 8 2) rfl ?_
  refine A2 ql_ rfl ?_
  refine A4 rfl (C4 (e := 22) (sz := 1) (z := [vS, vS, vS]) kR (eS rfl (eS rfl (eS rfl e0))) (bdS 0 1 rfl qR (bdS 1 1 rfl qR (bdS 2 1 rfl qR bd0))) rfl fun b26 => ?_)
  refine A4 rfl (F6 (e := 22) (sz := 1) (by_ := 24) rfl rfl kR rfl (Sl.fresh (n := 3) (sz := 1) (cs := [y4, y12, y15]) (e := 22) qR qD) (Rd.whole (n := 3) At.mem qR) (by intro c hc; simp only [List.mem_cons, List.not_mem_nil, or_false] at hc; rcases hc with rfl | rfl | rfl; exact o6; exact o7; exact o8) qP (by unfold maxLen; omega) qO rfl fun v27 B27 hs27 => ?_)
  refine as_ (A0 (C7 3) (A1 (mv_ (as_ (A0 (C7 2) (A7 ?_))))))
  exact ⟨_, B27, [], F7 rfl rfl, Fit.none (Fit.last qP), hs27⟩
 ·
  obtain rfl : y5 = false := hc
  refine A5 (nx (C7 3) (A1 (mv_ (as_ (A0 (C7 2) (A7 ?_))))))
  exact ⟨_, [(b11, _)], [], F7 rfl rfl, Fit.none (Fit.last qP), Sl.fresh (n := 3) (sz := 1) (cs := [y4, y12, y15]) (e := 22) qR qD⟩

end Go.Proofs.YtoameenjkiaefaaGreatDoor
