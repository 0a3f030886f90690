/- Part 9 of the texts of this claim, one behind the other. -/
import Derived.Test.YtoameenjkiaefaaGreatDoorB8
set_option linter.unusedVariables false
set_option linter.unusedSimpArgs false
set_option maxRecDepth 100000
namespace Go.Proofs.YtoameenjkiaefaaGreatDoor
open Go.Px
structure Ks where
  user : Int
  dev : Int
  agree : LN
  sign : LN
  signed : List Pr
  once : List Pr
  next : Nat
  met : List Nm
def A2v (n : Nat) (x : Pr) : Bool := decide (x.n = n)
def tstN (n : Nat) (w : LN) (x : Nm) : Bool := decide (x.n = n) && decide (x.id = w)
def A2w (l : List Pr) (n : Nat) : Option (LN) := if Q5 (A2v n) l < 0 then none else (l[(Q5 (A2v n) l).toNat]?).map (·.sec)
theorem A3W {l : List Pr} {n : Nat} (h : Q5 (A2v n) l = -1) : A2w l n = none := if_pos (by rw [h]; decide)
theorem A1P {l : List Pr} {n i : Nat} {x : Pr} (h : Q5 (A2v n) l = (i : Int)) (hx : l[i]? = some x) : A2w l n = some x.sec := by
  unfold A2w; rw [h, if_neg qO, Int.toNat_natCast, hx]; rfl
def kyC (k : Ks) (va vg vs vo vm : Value) : List Value := [.int .i64 k.user, .int .i64 k.dev, va, vg, vs, vo, (vU k.next), vm]
structure KyR (R : Mem) (kb : Nat) (k : Ks) (va vg vs vo vm : Value) (rs ro rm : List (List Value)) : Prop where
  blk_ : (kb, blk [.int .i64 k.user, .int .i64 k.dev, va, vg, vs, vo, (vU k.next), vm] 127) ∈ R
  agree : By R va k.agree
  sign : By R vg k.sign
  signed : Rd R 3 vs k.signed.length rs.flatten
  signedR : RwL prR R rs k.signed
  once : Rd R 3 vo k.once.length ro.flatten
  onceR : RwL prR R ro k.once
  met : Rd R 2 vm k.met.length rm.flatten
  metR : RwL nmR R rm k.met
  next : k.next < 4294967296
  l1 : k.signed.length ≤ 1000000
  l2 : k.once.length ≤ 1000000
  l3 : k.met.length ≤ 1000000
theorem KyR.mono {R R' : Mem} {kb : Nat} {k : Ks} {va vg vs vo vm : Value} {rs ro rm : List (List Value)} (h : KyR R kb k va vg vs vo vm rs ro rm) (hR : ∀ x, x ∈ R → x ∈ R') : KyR R' kb k va vg vs vo vm rs ro rm :=
  ⟨hR _ h.blk_, h.agree.mono hR, h.sign.mono hR, h.signed.mono hR, h.signedR.mono prT hR, h.once.mono hR, h.onceR.mono prT hR, h.met.mono hR, h.metR.mono nmT hR, h.next, h.l1, h.l2, h.l3⟩
theorem A89 {l : List Pr} {rows : List (List Value)} {n b : Nat} {A : Mem} (hR : RwL prR A rows l) (hb : (b, blk [(vU n)] 31) ∈ A) :
    ∀ (j : Nat) (r : List Value), rows[j]? = some r → FnV Tryz.prog 184 (.agg r.toArray :: [(vP b)]) A (.bool ((fun j => (l[j]?.map (A2v n)).getD false) j)) := fun j r hr => by
  obtain ⟨x, hx, vs, vg, rfl, hs, hg, _⟩ := hR.of hr
  dsimp only
  rw [hx]
  exact A7n vs vg x n b _ hs hg hb
theorem B6q (v : Value) (rows : List (List Value)) (l : List Pr) (n : Nat) (A : Mem) (hv : Rd A 3 v l.length rows.flatten) (hR : RwL prR A rows l) (hl : l.length ≤ 1000000) : FnX Tryz.prog 144 [v, (vU n)] [] A fun r M J => M = [] ∧ ∃ q, r = .tuple #[q, .bool (A2w l n).isSome] ∧ By J q ((A2w l n).getD []) := by
 haveI := hv.cel
 refine FnX.enterZ (N := 18) Tryz.func144 rfl rfl rfl fun w_ => ?_
 refine A8 (D0 0 1) (A1 ?_)
 refine A4 rfl (bx_ fun b3 => ?_)
 refine as_ (as_ (A0 (D0 0 3) (A1 (mv_ ?_))))
 refine A2 (A1N (aS rfl a0)) rfl ?_
 refine D7 (aS rfl (aS rfl a0)) kR (A3f v rows 184 [(vP b3)] (fun j => (l[j]?.map (A2v n)).getD false) _ (by rw [hR.len]; exact hv.mono qS) (hR.lens prT) (by rw [hR.len]; omega) kR (A89 (hR.mono prT qS) At.mem)) rfl ?_
 rw [hR.len, show A2K (fun j => (l[j]?.map (A2v n)).getD false) l.length = Q5 (A2v n) l from rfl]
 refine as_ (A0 (D0 0 6) (A6 (A1 (mv_ ?_))))
 refine A2 (F3 rfl rfl rfl) rfl ?_
 refine A0 (E5 0 6 11) ?_
 refine C3 rfl ?_ ?_ <;> intro hc
 ·
  have hf : Q5 (A2v n) l = -1 := by
   obtain ⟨hf, hz⟩ | ⟨i, x, hf, hxi, hq, hmin⟩ := N2 (A2v n) l
   · exact hf
   · rw [hf] at hc; (simp at hc) <;> omega
  refine A1 (as_ (as_ (A0 (D0 4 5) (A7 (tr ?_)))))
  exact ⟨_, [], [], A1g rfl rfl rfl, qZ, rfl, _, by rw [A3W hf]; rfl, by rw [A3W hf]; exact By.nil⟩
 ·
  obtain ⟨hf, hz⟩ | ⟨i, x, hf, hxi, hq, hmin⟩ := N2 (A2v n) l
  · rw [hf] at hc; simp at hc
  have hil := (List.getElem?_eq_some_iff.1 hxi).1
  rw [hf]
  obtain ⟨r, hr, vs, vg, rfl, hs, hg, hxn⟩ := hR.get i x hxi
  haveI := hs.cel
  refine A5 (nx (D0 0 6) (A1 (mv_ (mv_ ?_))))
  refine A2 (F2 (sz := 3) rfl rfl kR rfl hv hil) rfl ?_
  refine A2 (A8u (off := 1) rfl hv hil kR) rfl ?_
  refine A2 (A8v (u := vs) rfl (hv.mono qS) qO kR (by rw [A0j (hR.lens prT) hr 1 qD]; rfl)) rfl ?_
  refine E0 (aS rfl a0) kR (K6 vs x.sec _ (hs.mono qS)) rfl ?_
  rintro v17 M17 J17 ⟨rfl, h17⟩
  haveI := h17.cel
  refine as_ (as_ (A0 (D0 4 5) (A7 ?_)))
  exact ⟨_, [], [], A1g rfl rfl rfl, qZ, rfl, _, by rw [A1P hf hxi]; rfl, by rw [A1P hf hxi]; exact h17.mono qS⟩
theorem B09 (kb : Nat) (k : Ks) (va vg vs vo vm : Value) (rs ro rm : List (List Value)) (n : Nat) (A : Mem) (hK : KyR A kb k va vg vs vo vm rs ro rm) : FnX Tryz.prog 110 [(vP kb), (vU n)] [] A fun r M J => M = [] ∧ ∃ q, r = .tuple #[q, .bool (A2w k.signed n).isSome] ∧ By J q ((A2w k.signed n).getD []) := by
 have hkb := hK.blk_
 haveI := hK.agree.cel
 haveI := hK.sign.cel
 haveI := hK.signed.cel
 haveI := hK.once.cel
 haveI := hK.met.cel
 refine FnX.enterZ (N := 16) Tryz.func110 rfl rfl rfl fun w_ => ?_
 refine A8 (D0 0 1) (A1 (as_ (as_ (A0 (D0 0 1) (A6 (A1 (mv_ ?_)))))))
 refine A2 (C9 (e := 127) rfl rfl kR) rfl ?_
 refine A0 (E5 0 1 7) ?_
 refine B0 rfl ?_
 refine A5 (nx (D0 0 1) (A1 (mv_ ?_)))
 refine A2 (D8 rfl) rfl ?_
 refine A2 (qf_ 4 4) rfl ?_
 refine A2 (G3 rfl kR (mA hkb) qR) rfl ?_
 refine mv_ ?_
 refine E0 (aS rfl (aS rfl a0)) kR (B6q vs rs k.signed n _ (hK.signed.mono qS) (hK.signedR.mono prT qS) hK.l1) rfl ?_
 rintro r13 M13 J13 ⟨rfl, q, rfl, hq⟩
 haveI := hq.cel
 refine A2 (R6 rfl) rfl ?_
 refine A2 (R4 rfl) rfl ?_
 refine as_ (as_ (A0 (D0 4 5) (A7 ?_)))
 exact ⟨_, [], [], A1g rfl rfl rfl, qZ, rfl, _, rfl, hq.mono qS⟩
theorem A42 (kb : Nat) (k : Ks) (va vg vs vo vm : Value) (rs ro rm : List (List Value)) (A : Mem) (hK : KyR A kb k va vg vs vo vm rs ro rm) : FnV Tryz.prog 23 [(vP kb)] A (.agg #[.int .i64 k.user, .int .i64 k.dev]) := by
 have hkb := hK.blk_
 haveI := hK.agree.cel
 haveI := hK.sign.cel
 haveI := hK.signed.cel
 haveI := hK.once.cel
 haveI := hK.met.cel
 refine FnX.enter (N := 10) Tryz.func23 rfl rfl rfl fun w => ?_
 refine A8 (C7 0) (A1 ?_)
 refine A4 rfl (D2 (cs := [.int .i64 0, .int .i64 0]) kR rfl fun b2 => ?_)
 refine A0 (D0 0 2) (A6 (A1 (mv_ ?_)))
 refine A2 (C9 (e := 127) rfl rfl kR) rfl ?_
 refine A0 (E5 0 2 4) ?_
 refine B0 rfl ?_
 refine A5 (nx (D0 0 2) (A1 (mv_ ?_)))
 refine A2 (D8 rfl) rfl ?_
 refine A2 (qf_ 0 0) rfl ?_
 refine A2 (A15 (n := 2) rfl kR (mA hkb) TakeC.take) rfl ?_
 refine A4 rfl (B8 rfl rfl Cel.cel kR ln2 al2 UpC.upd ?_)
 refine A0 (C7 2) (A7 ?_)
 exact ⟨_, [], [], B0k rfl rfl kR At.mem qR, List.nil_sublist _, by simp, rfl, rfl, rfl⟩
theorem A3X (kb : Nat) (k : Ks) (va vg vs vo vm : Value) (rs ro rm : List (List Value)) (A : Mem) (hK : KyR A kb k va vg vs vo vm rs ro rm) : FnX Tryz.prog 56 [(vP kb)] [] A fun r M J => M = [] ∧ By J r k.agree := by
 have hkb := hK.blk_
 haveI := hK.agree.cel
 haveI := hK.sign.cel
 haveI := hK.signed.cel
 haveI := hK.once.cel
 haveI := hK.met.cel
 refine FnX.enterZ (N := 10) Tryz.func56 rfl rfl rfl fun w_ => ?_
 refine A8 (C7 0) (A1 (as_ (A0 (C7 0) (A6 (A1 (mv_ ?_))))))
 refine A2 (C9 (e := 127) rfl rfl kR) rfl ?_
 refine A0 (D0 0 4) ?_
 refine B0 rfl ?_
 refine A5 (nx (C7 0) (A1 (mv_ ?_)))
 refine A2 (D8 rfl) rfl ?_
 refine A2 (qf_ 2 2) rfl ?_
 refine A2 (G3 rfl kR (mA hkb) qR) rfl ?_
 refine E0 (aS rfl a0) kR (K6 va k.agree _ (hK.agree.mono qS)) rfl ?_
 rintro r9 M9 J9 ⟨rfl, h9⟩
 haveI := h9.cel
 refine as_ (A0 (C7 2) (A7 ?_))
 exact ⟨_, [], [], F7 rfl rfl, qZ, rfl, h9.mono qS⟩
theorem B4d (kb : Nat) (k : Ks) (va vg vs vo vm : Value) (rs ro rm : List (List Value)) (A : Mem) (hK : KyR A kb k va vg vs vo vm rs ro rm) : FnX Tryz.prog 57 [(vP kb)] [] A fun r M J => M = [] ∧ By J r k.sign := by
 have hkb := hK.blk_
 haveI := hK.agree.cel
 haveI := hK.sign.cel
 haveI := hK.signed.cel
 haveI := hK.once.cel
 haveI := hK.met.cel
 refine FnX.enterZ (N := 10) Tryz.func57 rfl rfl rfl fun w_ => ?_
 refine A8 (C7 0) (A1 (as_ (A0 (C7 0) (A6 (A1 (mv_ ?_))))))
 refine A2 (C9 (e := 127) rfl rfl kR) rfl ?_
 refine A0 (D0 0 4) ?_
 refine B0 rfl ?_
 refine A5 (nx (C7 0) (A1 (mv_ ?_)))
 refine A2 (D8 rfl) rfl ?_
 refine A2 (qf_ 3 3) rfl ?_
 refine A2 (G3 rfl kR (mA hkb) qR) rfl ?_
 refine E0 (aS rfl a0) kR (K6 vg k.sign _ (hK.sign.mono qS)) rfl ?_
 rintro r9 M9 J9 ⟨rfl, h9⟩
 haveI := h9.cel
 refine as_ (A0 (C7 2) (A7 ?_))
 exact ⟨_, [], [], F7 rfl rfl, qZ, rfl, h9.mono qS⟩

def B1a (a b : Nat) : Int := if a < b then -1 else if b < a then 1 else 0
theorem A5H {a b : Nat} (h : a < b) : B1a a b = -1 := if_pos h
theorem A5I {a b : Nat} (h : b < a) : B1a a b = 1 := by unfold B1a; rw [if_neg qO, if_pos h]
theorem A5J {a b : Nat} (h : a = b) : B1a a b = 0 := by unfold B1a; rw [if_neg qO, if_neg qO]
theorem B1b (a b : Nat) : H8 .lss .i64 (B1a a b) 0 = some (.bool (decide (a < b))) := by
  rcases Nat.lt_trichotomy a b with h | h | h
  · rw [A5H h, decide_eq_true h]; rfl
  · rw [A5J h, decide_eq_false qO]; rfl
  · rw [A5I h, decide_eq_false qO]; rfl
theorem B1c (a b : Nat) : H8 .eql .i64 (B1a a b) 0 = some (.bool (decide (a = b))) := by
  rcases Nat.lt_trichotomy a b with h | h | h
  · rw [A5H h, decide_eq_false qO]; rfl
  · rw [A5J h, decide_eq_true h]; rfl
  · rw [A5I h, decide_eq_false qO]; rfl
theorem lt32 (a b : Nat) : H8 .lss .u32 ((a : Nat) : Int) ((b : Nat) : Int) = some (.bool (decide (a < b))) := by
  by_cases h : a < b
  · rw [decide_eq_true h]; exact ltT qO
  · rw [decide_eq_false h]; exact ltF qO
theorem gt32 (a b : Nat) : H8 .gtr .u32 ((a : Nat) : Int) ((b : Nat) : Int) = some (.bool (decide (b < a))) := by
  by_cases h : b < a
  · rw [decide_eq_true h]; exact gtT qO
  · rw [decide_eq_false h]; exact gtF qO
def B2K (l : List Pr) : Prop := ∀ (i j : Nat) (x y : Pr), i < j → l[i]? = some x → l[j]? = some y → x.n < y.n
theorem B1d {l : List Pr} {n i : Nat} {x : Pr} (hx : l[i]? = some x) (hn : x.n = n) (h : ∀ (j : Nat) (y : Pr), j < i → l[j]? = some y → y.n < n) : Q5 (A2v n) l = (i : Int) := by
  have hil := (List.getElem?_eq_some_iff.1 hx).1
  refine U9 hil (fun j hj => ?_) (by rw [hx]; simp [A2v, hn])
  have hjl : j < l.length := by omega
  rw [List.getElem?_eq_getElem hjl]
  have := h j _ hj (List.getElem?_eq_getElem hjl)
  simp [A2v]; omega
theorem A7o {l : List Pr} {n : Nat} (h : ∀ (j : Nat) (y : Pr), l[j]? = some y → y.n ≠ n) : Q5 (A2v n) l = -1 := by
  refine V0 fun j hj => ?_
  rw [List.getElem?_eq_getElem hj]
  have := h j _ (List.getElem?_eq_getElem hj)
  simp [A2v, this]
structure BsR (l : List Pr) (n i : Nat) (b : Bool) : Prop where
  le : i ≤ l.length
  lt : ∀ (j : Nat) (y : Pr), j < i → l[j]? = some y → y.n < n
  ge : ∀ (j : Nat) (y : Pr), i ≤ j → l[j]? = some y → n ≤ y.n
  at_ : b = true ↔ ∃ x, l[i]? = some x ∧ x.n = n
theorem BsR.yes {l : List Pr} {n i : Nat} (h : BsR l n i true) : ∃ x, l[i]? = some x ∧ Q5 (A2v n) l = (i : Int) := by
  obtain ⟨x, hx, hn⟩ := h.at_.1 rfl
  exact ⟨x, hx, B1d hx hn h.lt⟩
theorem BsR.no {l : List Pr} {n i : Nat} (hr : B2K l) (h : BsR l n i false) : Q5 (A2v n) l = -1 := by
  refine A7o fun j y hy hn => ?_
  rcases Nat.lt_trichotomy j i with hj | hj | hj
  · have := h.lt j y hj hy; omega
  · subst hj
    have := h.at_.2 ⟨y, hy, hn⟩
    cases this
  · have hjl := (List.getElem?_eq_some_iff.1 hy).1
    have hil : i < l.length := by omega
    have h1 := h.ge i _ (Nat.le_refl _) (List.getElem?_eq_getElem hil)
    have h2 := hr i j _ y hj (List.getElem?_eq_getElem hil) hy
    omega
theorem A43 (x : Int) (A : Mem) : FnV Tryz.prog 186 [.int .u32 x] A (.bool false) := by
 refine FnX.enter (N := 6) Tryz.func186 rfl rfl rfl fun w => ?_
 refine A8 (C7 0) (A1 (as_ (A0 (C7 0) (A1 (mv_ (mv_ ?_))))))
 refine A2 (F0 false rfl rfl (neF rfl)) rfl ?_
 refine as_ (A0 (C7 2) (A7 ?_))
 exact ⟨_, [], [], F7 rfl rfl, List.nil_sublist _, by simp, rfl, rfl, rfl⟩
theorem A5K (a b : Nat) (A : Mem) : FnV Tryz.prog 148 [(vU a), (vU b)] A (.int .i64 (B1a a b)) := by
 refine FnX.enter (N := 20) Tryz.func148 rfl rfl rfl fun w => ?_
 refine A8 (D0 0 1) (A1 (as_ (A0 (D0 0 1) (A1 (mv_ ?_)))))
 refine D7 (aS rfl a0) kR (A43 _ _) rfl ?_
 refine as_ (A0 (E5 0 1 5) (A1 (mv_ ?_)))
 refine D7 (aS rfl a0) kR (A43 _ _) rfl ?_
 refine as_ (A0 (F4 0 1 5 6) (A6 (A1 (mv_ (A0 (F4 0 1 6 11) ?_)))))
 refine B0 rfl ?_
 refine A5 (nx (E5 0 1 6) (A6 (A1 (mv_ (A0 (E5 0 1 13) ?_)))))
 refine B0 rfl ?_
 refine A5 (nx (D0 0 1) (A6 (A1 (mv_ (mv_ ?_)))))
 refine A2 (F0 (decide (a < b)) rfl rfl (lt32 _ _)) rfl ?_
 refine A0 (E5 0 1 16) ?_
 refine C3 rfl ?_ ?_ <;> intro hc
 ·
  have hab : a < b := of_decide_eq_true hc
  refine A1 (as_ (A0 (C7 4) (A7 (tr ?_))))
  exact ⟨_, [], [], F7 rfl rfl, List.nil_sublist _, by simp, by rw [A5H hab], rfl, rfl⟩
 ·
  have hab : ¬ a < b := of_decide_eq_false hc
  refine A5 (nx (D0 0 1) (A6 (A1 (mv_ (mv_ ?_)))))
  refine A2 (F0 (decide (b < a)) rfl rfl (gt32 _ _)) rfl ?_
  refine A0 (C7 19) ?_
  refine C3 rfl ?_ ?_ <;> intro hc
  ·
   have hba : b < a := of_decide_eq_true hc
   refine A1 (as_ (A0 (C7 4) (A7 (tr ?_))))
   exact ⟨_, [], [], F7 rfl rfl, List.nil_sublist _, by simp, by rw [A5I hba], rfl, rfl⟩
  ·
   have hba : ¬ b < a := of_decide_eq_false hc
   refine A5 (nx kn (A1 (as_ (A0 (C7 4) (A7 ?_)))))
   exact ⟨_, [], [], F7 rfl rfl, List.nil_sublist _, by simp, by rw [A5J qO], rfl, rfl⟩
theorem A3g (vs vg : Value) (x : Pr) (n : Nat) (A : Mem) (hs : By A vs x.sec) (hg : By A vg x.sig) : FnV Tryz.prog 147 [.agg #[(vU x.n), vs, vg], (vU n)] A (.int .i64 (B1a x.n n)) := by
 haveI := hs.cel
 haveI := hg.cel
 refine FnX.enter (N := 9) Tryz.func147 rfl rfl rfl fun w => ?_
 refine A8 (D0 0 1) (A1 ?_)
 refine A4 rfl (bx_ fun b2 => ?_)
 refine as_ (A0 (D0 1 2) (A1 ?_))
 refine A2 (qf_ 0 0) rfl ?_
 refine A2 ql_ rfl ?_
 refine mv_ ?_
 refine D7 (aS rfl (aS rfl a0)) kR (A5K x.n n _) rfl ?_
 refine as_ (A0 (C7 4) (A7 ?_))
 exact ⟨_, [], [], F7 rfl rfl, List.nil_sublist _, by simp, rfl, rfl, rfl⟩
theorem A9a (v : Value) (rows : List (List Value)) (l : List Pr) (n : Nat) (A : Mem) (hv : Rd A 3 v l.length rows.flatten) (hR : RwL prR A rows l) (hrise : B2K l) (hl : l.length ≤ 1000000) : FnX Tryz.prog 146 [v, (vU n), .func (.func 147) #[] #[]] [] A fun r M J => M = [] ∧ J = [] ∧ ∃ i b, r = .tuple #[(vI i), .bool b] ∧ BsR l n i b := by
  haveI := hv.cel
  refine FnX.enter (N := 49) Tryz.func146 rfl rfl rfl fun w => ?_
  refine A8 (E5 0 1 2) (A1 (as_ (as_ (A0 (E5 0 1 2) (A1 (mv_ ?_))))))
  refine A2 (E2 (sz := 3) rfl kR hv) rfl ?_
  refine as_ (A0 (F4 0 1 2 8) (A1 (mv_ (as_ (as_ (A0 (I7 0 1 2 8 9 10) (A6 (C5 ?_))))))))
  refine H0 (α := Nat × Nat) (fun y => [(0, v), (1, (vU n)), (2, .func (.func 147) #[] #[]), (8, (vI l.length)), (9, (vI y.1)), (10, (vI y.2))]) (fun _ => []) (fun _ => []) (fun y => y.1 ≤ y.2 ∧ y.2 ≤ l.length ∧ (∀ (j : Nat) (z : Pr), j < y.1 → l[j]? = some z → z.n < n) ∧ (∀ (j : Nat) (z : Pr), y.2 ≤ j → l[j]? = some z → n ≤ z.n)) (fun y => y.2 - y.1) (0, l.length) ⟨Nat.zero_le _, Nat.le_refl _, fun j z h => by omega, fun j z h1 h2 => by have := (List.getElem?_eq_some_iff.1 h2).1; omega⟩ (I7 0 1 2 8 9 10) .rfl qI ?_
  rintro ⟨lo, hi⟩ ⟨h1, h2, h3, h4⟩
  dsimp only at h1 h2 h3 h4 ⊢
  refine A6 (A1 (mv_ (mv_ ?_)))
  refine A2 (F3 rfl rfl rfl) rfl ?_
  refine A0 (S9 0 1 2 8 9 10 17) ?_
  refine C3 rfl ?_ ?_ <;> intro hc
  ·
    have hlt : lo < hi := by simp at hc; omega
    obtain ⟨h, hh⟩ : ∃ h, (lo + hi) / 2 ^ 1 = h := ⟨_, rfl⟩
    have hh1 : lo ≤ h ∧ h < hi := by omega
    obtain ⟨x, hx⟩ : ∃ x, l[h]? = some x := ⟨_, List.getElem?_eq_getElem qO⟩
    obtain ⟨r, hr, vs, vg, rfl, hs_, hg_, hxn⟩ := hR.get h x hx
    haveI := hs_.cel
    haveI := hg_.cel
    refine A5 (nx (I7 0 1 2 8 9 10) (C5 (A1 (mv_ (mv_ ?_)))))
    refine A2 (Q0 ((lo + hi : Nat) : Int) rfl rfl (W1 qO qO qO)) rfl ?_
    refine A2 (H7 (k' := .u64) (lo + hi) rfl kR (A3x qO qO)) rfl ?_
    refine A2 (hh ▸ A78 (a := lo + hi) (b := 1) rfl rfl rfl rfl qD) rfl ?_
    refine A2 (H7 (k' := .i64) h rfl kR (A7X qO)) rfl ?_
    refine as_ (A0 (S9 0 1 2 8 9 10 11) (A1 (mv_ (mv_ (mv_ ?_)))))
    refine A2 (F2 (sz := 3) rfl rfl kR rfl hv (show h < l.length by omega)) rfl ?_
    refine A2 (U4 rfl kR (hv.mono qS) (hR.lens prT) qD hr) rfl ?_
    refine mv_ ?_
    refine A4 rfl (X7 rfl (aS rfl (aS rfl a0)) kR (A3g vs vg x n _ (hs_.mono qS) (hg_.mono qS)) rfl ?_)
    refine A2 (F0 (decide (x.n < n)) rfl rfl (B1b _ _)) rfl ?_
    refine A0 (A0A 0 1 2 8 9 10 11 31) ?_
    refine C3 rfl ?_ ?_ <;> intro hc
    ·
      have hxl : x.n < n := of_decide_eq_true hc
      refine C6 (mv_ ?_)
      refine A2 (Q0 ((h + 1 : Nat) : Int) rfl rfl (W1 qO qO qO)) rfl ?_
      refine as_ (E1 (nb ?_))
      exact rn (h + 1, hi) ⟨by dsimp only; omega, h2, fun j z hj hz => by
        dsimp only at hj
        rcases Nat.lt_or_ge j h with hjh | hjh
        · have := hrise j h z x hjh hz hx; omega
        · obtain rfl : j = h := by omega
          rw [hx] at hz; cases hz; exact hxl, h4⟩ (by dsimp only; omega) (I7 0 1 2 8 9 10) .rfl qI
    ·
      have hxl : ¬ x.n < n := of_decide_eq_false hc
      refine C6 (mv_ (as_ (E1 (nb ?_))))
      exact rn (lo, h) ⟨by dsimp only; omega, by dsimp only; omega, h3, fun j z hj hz => by
        dsimp only at hj
        rcases Nat.lt_or_ge h j with hjh | hjh
        · have := hrise h j x z hjh hx hz; omega
        · obtain rfl : j = h := by omega
          rw [hx] at hz; cases hz; omega⟩ (by dsimp only; omega) (I7 0 1 2 8 9 10) .rfl qI
  ·
    have hlt : lo = hi := by simp at hc; omega
    subst hlt
    refine G4 (te (re (be rfl (nx (G6 0 1 2 8 9) (A1 (mv_ (mv_ (mv_ ?_))))))))
    refine A2 (F3 rfl rfl rfl) rfl ?_
    refine mv_ ?_
    refine H4 (t := 39) rfl (fun hb => ?_) (fun hb => ?_)
    ·
      have hlo : lo < l.length := by simp at hb; omega
      obtain ⟨x, hx⟩ : ∃ x, l[lo]? = some x := ⟨_, List.getElem?_eq_getElem hlo⟩
      obtain ⟨r, hr, vs, vg, rfl, hs_, hg_, hxn⟩ := hR.get lo x hx
      haveI := hs_.cel
      haveI := hg_.cel
      refine C0 rfl rfl (OpQ.opL qm_ rfl ?_)
      refine C0 rfl rfl (OpQ.opL qm_ rfl ?_)
      refine C0 rfl rfl (OpQ.opL qm_ rfl ?_)
      refine C0 rfl rfl (OpQ.opL (F2 (sz := 3) rfl rfl kR rfl hv hlo) rfl ?_)
      refine C0 rfl rfl (OpQ.opL (U4 rfl kR (hv.mono qS) (hR.lens prT) qD hr) rfl ?_)
      refine C0 rfl rfl (OpQ.opL qm_ rfl ?_)
      refine C0 rfl rfl (X7 rfl (aS rfl (aS rfl a0)) kR (A3g vs vg x n _ (hs_.mono qS) (hg_.mono qS)) rfl ?_)
      refine C0 rfl rfl (OpQ.opL (F0 (decide (x.n = n)) rfl rfl (B1c _ _)) rfl ?_)
      refine A2 (E3 rfl rfl) rfl ?_
      refine as_ (as_ (A0 (D0 6 7) (A7 ?_)))
      exact ⟨_, [], [], A1g rfl rfl rfl, List.nil_sublist _, by simp, rfl, rfl, lo, _, rfl, h2, h3, h4, by rw [hx]; simp⟩
    ·
      have hlo : ¬ lo < l.length := by simp at hb; omega
      refine D1 rfl rfl rfl rfl ?_
      refine D1 rfl rfl rfl rfl ?_
      refine D1 rfl rfl rfl rfl ?_
      refine D1 rfl rfl rfl rfl ?_
      refine D1 rfl rfl rfl rfl ?_
      refine D1 rfl rfl rfl rfl ?_
      refine D1 rfl rfl rfl rfl ?_
      refine D1 rfl rfl rfl rfl ?_
      refine A2 (C8 rfl rfl) rfl ?_
      refine as_ (as_ (A0 (D0 6 7) (A7 ?_)))
      exact ⟨_, [], [], A1g rfl rfl rfl, List.nil_sublist _, by simp, rfl, rfl, lo, _, rfl, h2, h3, h4, by rw [List.getElem?_eq_none qO]; simp⟩
theorem B6r (kb : Nat) (k : Ks) (va vg vs vo vm : Value) (rs ro rm : List (List Value)) (n : Nat) (A : Mem) (hK : KyR A kb k va vg vs vo vm rs ro rm) (hrise : B2K k.once) : FnX Tryz.prog 112 [(vP kb), (vU n)] [] A fun r M J => M = [] ∧ ∃ q, r = .tuple #[q, .bool (A2w k.once n).isSome] ∧ By J q ((A2w k.once n).getD []) := by
 have hkb := hK.blk_
 haveI := hK.agree.cel
 haveI := hK.sign.cel
 haveI := hK.signed.cel
 haveI := hK.once.cel
 haveI := hK.met.cel
 refine FnX.enterZ (N := 30) Tryz.func112 rfl rfl rfl fun w_ => ?_
 refine A8 (D0 0 1) (A1 (as_ (as_ (A0 (D0 0 1) (A6 (A1 (mv_ ?_)))))))
 refine A2 (C9 (e := 127) rfl rfl kR) rfl ?_
 refine A0 (E5 0 1 9) ?_
 refine B0 rfl ?_
 refine A5 (nx (D0 0 1) (A1 (mv_ ?_)))
 refine A2 (D8 rfl) rfl ?_
 refine A2 (qf_ 5 5) rfl ?_
 refine A2 (G3 rfl kR (mA hkb) qR) rfl ?_
 refine mv_ ?_
 refine E0 (aS rfl (aS rfl (aS rfl a0))) kR (A9a vo ro k.once n _ (hK.once.mono qS) (hK.onceR.mono prT qS) hrise hK.l2) rfl ?_
 rintro r16 M16 J16 ⟨rfl, rfl, i, b, rfl, hb⟩
 refine mv_ ?_
 refine A2 (R6 rfl) rfl ?_
 refine A2 (R4 rfl) rfl ?_
 refine as_ (as_ (A0 (E5 0 6 7) (A6 ?_)))
 cases b
 ·
  have hf := hb.no hrise
  refine A1 (mv_ ?_)
  refine A2 (L6 rfl) rfl ?_
  refine A0 (E5 0 6 20) ?_
  refine E9 rfl ?_
  refine A1 (as_ (as_ (A0 (D0 4 5) (A7 (tr ?_)))))
  exact ⟨_, [], [], A1g rfl rfl rfl, qZ, rfl, _, by rw [A3W hf]; rfl, by rw [A3W hf]; exact By.nil⟩
 ·
  obtain ⟨x, hx, hf⟩ := hb.yes
  have hil := (List.getElem?_eq_some_iff.1 hx).1
  obtain ⟨r, hr, vs_, vg_, rfl, hs_, hg_, hxn⟩ := hK.onceR.get i x hx
  haveI := hs_.cel
  refine A1 (mv_ ?_)
  refine A2 (L6 rfl) rfl ?_
  refine A0 (E5 0 6 20) ?_
  refine B0 rfl ?_
  refine A5 (nx (D0 0 6) (A1 (mv_ ?_)))
  refine A2 (D8 rfl) rfl ?_
  refine A2 (qf_ 5 5) rfl ?_
  refine A2 (G3 rfl kR (mA hkb) qR) rfl ?_
  refine mv_ ?_
  refine A2 (F2 (sz := 3) rfl rfl kR rfl hK.once hil) rfl ?_
  refine A2 (A8u (off := 1) rfl hK.once hil kR) rfl ?_
  refine A2 (A8v (u := vs_) rfl (hK.once.mono qS) qO kR (by rw [A0j (hK.onceR.lens prT) hr 1 qD]; rfl)) rfl ?_
  refine E0 (aS rfl a0) kR (K6 vs_ x.sec _ (hs_.mono qS)) rfl ?_
  rintro r29 M29 J29 ⟨rfl, h29⟩
  haveI := h29.cel
  refine as_ (as_ (A0 (D0 4 5) (A7 ?_)))
  exact ⟨_, [], [], A1g rfl rfl rfl, qZ, rfl, _, by rw [A1P hf hx]; rfl, by rw [A1P hf hx]; exact h29.mono qS⟩

structure Kys (R : Mem) (kb : Nat) (k : Ks) (M : Mem) : Prop where
  ex : ∃ (va vg vs vo vm : Value) (rs ro rm : List (List Value)) (Bs Bo Bm : Mem), M = (kb, blk [.int .i64 k.user, .int .i64 k.dev, va, vg, vs, vo, (vU k.next), vm] 127) :: (Bs ++ (Bo ++ Bm)) ∧
    By R va k.agree ∧ By R vg k.sign ∧ Sl 3 vs k.signed.length rs.flatten Bs ∧ RwL prR R rs k.signed ∧ Sl 3 vo k.once.length ro.flatten Bo ∧ RwL prR R ro k.once ∧ Sl 2 vm k.met.length rm.flatten Bm ∧ RwL nmR R rm k.met ∧ k.next < 4294967296 ∧ k.signed.length ≤ 2 ∧ k.once.length ≤ 100 ∧ k.met.length ≤ 100000
theorem Kys.mono {R R' : Mem} {kb : Nat} {k : Ks} {M : Mem} (h : Kys R kb k M) (hR : ∀ x, x ∈ R → x ∈ R') : Kys R' kb k M := by
  obtain ⟨va, vg, vs, vo, vm, rs, ro, rm, Bs, Bo, Bm, h1, h2, h3, h4, h5, h6, h7, h8, h9, h10⟩ := h.ex
  exact ⟨va, vg, vs, vo, vm, rs, ro, rm, Bs, Bo, Bm, h1, h2.mono hR, h3.mono hR, h4, h5.mono prT hR, h6, h7.mono prT hR, h8, h9.mono nmT hR, h10⟩
theorem Kys.r {R : Mem} {kb : Nat} {k : Ks} {M : Mem} (h : Kys R kb k M) : ∃ va vg vs vo vm rs ro rm, ∀ R', (∀ x, x ∈ R → x ∈ R') → (∀ x, x ∈ M → x ∈ R') → KyR R' kb k va vg vs vo vm rs ro rm := by
  obtain ⟨va, vg, vs, vo, vm, rs, ro, rm, Bs, Bo, Bm, rfl, h2, h3, h4, h5, h6, h7, h8, h9, h10, h11, h12, h13⟩ := h.ex
  refine ⟨va, vg, vs, vo, vm, rs, ro, rm, fun R' hR hM => ⟨hM _ qK, h2.mono hR, h3.mono hR, h4.rd fun x hx => hM x (by simp [hx]), h5.mono prT hR, h6.rd fun x hx => hM x (by simp [hx]), h7.mono prT hR, h8.rd fun x hx => hM x (by simp [hx]), h9.mono nmT hR, by omega, by omega, by omega, by omega⟩⟩
noncomputable def fillI (k : Ks) (s : Ps) : Nat → Ks × Ps
  | 0 => (k, s)
  | i + 1 => ({ (fillI k s i).1 with once := (fillI k s i).1.once ++ [⟨(fillI k s i).1.next, D9 (fillI k s i).2, []⟩], next := (fillI k s i).1.next + 1 }, D4 (fillI k s i).2)
theorem A3h (k : Ks) (s : Ps) : ∀ i, (fillI k s i).1.once.length = k.once.length + i
  | 0 => rfl
  | i + 1 => by simp [fillI, A3h k s i]; omega
theorem A0n (k : Ks) (s : Ps) : ∀ i, (fillI k s i).1.next = k.next + i
  | 0 => rfl
  | i + 1 => by simp [fillI, A0n k s i]; omega
theorem A6w (k : Ks) (s : Ps) : ∀ i, (fillI k s i).1 = { k with once := (fillI k s i).1.once, next := k.next + i }
  | 0 => rfl
  | i + 1 => by
    have h := A6w k s i
    have hn := A0n k s i
    simp only [fillI, hn]
    rw [h]
    simp [Nat.add_assoc]
theorem K3 (s : Ps) : (D4 s).ts.length ≤ s.ts.length + 1 ∧ (D4 s).n = s.n + 1 := by
  unfold D4
  split
  · exact ⟨by simp, rfl⟩
  · refine ⟨?_, rfl⟩
    show (add s.ts _).length ≤ _
    unfold add
    split <;> simp
theorem A1Q (k : Ks) (s : Ps) : ∀ i, (fillI k s i).2.ts.length ≤ s.ts.length + i ∧ (fillI k s i).2.n = s.n + i
  | 0 => ⟨Nat.le_refl _, rfl⟩
  | i + 1 => by
    have h := A1Q k s i
    have h2 := K3 (fillI k s i).2
    simp only [fillI]
    omega
noncomputable def A2Q (k : Ks) (s : Ps) : Ks × Ps := fillI k s (4 - k.once.length)
theorem B6s (kb : Nat) (pb : Nat × Nat) (k : Ks) (s : Ps) (MK MP A : Mem) (hK : Kys A kb k MK) (hP : Prm pb s MP) (hn : s.ts.length + 100 ≤ 1048576) (hk : s.n < 1000000000) (hnx : k.next + 100 < 4000000000) (hG : Glb A) : FnX Tryz.prog 55 [(vP kb), .pointer (some ⟨pb.1, 0, none⟩)] (MK ++ MP) A fun q M J => q = .int .i64 ((4 - k.once.length : Nat) : Int) ∧ ∃ MK2 MP2, M = MK2 ++ MP2 ∧ Kys (J ++ A) kb (A2Q k s).1 MK2 ∧ Prm pb (A2Q k s).2 MP2 := by
 obtain ⟨va, vg, vs, vo, vm, rs, ro, rm, Bs, Bo, Bm, rfl, hva, hvg, hss, hrs, hso, hro, hsm, hrm, hn1, hn2, hn3, hn4⟩ := hK.ex
 haveI := hva.cel
 haveI := hvg.cel
 haveI := hss.cel
 haveI := hso.cel
 haveI := hsm.cel
 refine FnX.enterZ (N := 42) Tryz.func55 rfl rfl rfl fun w_ => ?_
 refine A8 (D0 0 1) (A1 (as_ (A0 (D0 0 1) (A1 (as_ (A0 (E5 0 1 5) (A6 ?_)))))))
 refine C5 ?_
 refine H0 (α := Nat × (Value × List (List Value) × Mem) × Mem × Mem) (fun y => [(0, (vP kb)), (1, .pointer (some ⟨pb.1, 0, none⟩)), (5, (vI y.1))]) (fun y => (kb, blk [.int .i64 k.user, .int .i64 k.dev, va, vg, vs, y.2.1.1, .int .u32 ((k.next + y.1 : Nat) : Int), vm] 127) :: (Bs ++ (y.2.1.2.2 ++ (Bm ++ y.2.2.1)))) (fun y => y.2.2.2) (fun y => y.1 + k.once.length ≤ max 4 k.once.length ∧ Sl 3 y.2.1.1 (k.once.length + y.1) y.2.1.2.1.flatten y.2.1.2.2 ∧ RwL prR (y.2.2.2 ++ A) y.2.1.2.1 (fillI k s y.1).1.once ∧ Prm pb (fillI k s y.1).2 y.2.2.1) (fun y => 4 - (k.once.length + y.1)) (0, (vo, ro, Bo), MP, []) ⟨by dsimp only; omega, hso, hro, hP⟩ (E5 0 1 5) (Fit.pick (B := [_]) qP (Fit.pick qP (Fit.pick qP (Fit.pick qP (Fit.last qP))))) qI ?_
 rintro ⟨i, ⟨voi, roi, Boi⟩, MPi, Ji⟩ ⟨hi, hsi, hri, hPi⟩
 dsimp only at hi hsi hri hPi ⊢
 haveI := hsi.cel
 have hps := A1Q k s i
 have hnx := A0n k s i
 have hol := A3h k s i
 refine A6 (A1 (mv_ ?_))
 refine A2 (A1h (e := 127) rfl rfl kR) rfl ?_
 refine mv_ ?_
 refine C0 rfl rfl (OpQ.opL qm_ rfl ?_)
 refine C0 rfl rfl (OpQ.opL (D8 rfl) rfl ?_)
 refine C0 rfl rfl (OpQ.opL (qf_ 5 5) rfl ?_)
 refine C0 rfl rfl (OpQ.opL ql_ rfl ?_)
 refine C0 rfl rfl (OpQ.opL (E2 (sz := 3) rfl kR (hsi.rd (R := Boi) fun _ h => h)) rfl ?_)
 refine C0 rfl rfl (OpQ.opL (F3 rfl rfl rfl) rfl ?_)
 refine A2 (E3 rfl rfl) rfl ?_
 refine A0 (F4 0 1 5 15) ?_
 refine C3 rfl ?_ ?_ <;> intro hc
 ·
  have hlt : k.once.length + i < 4 := by simp at hc; omega
  refine A5 (nx (E5 0 1 5) (A6 (C5 ?_)))
  refine E6 (MPi) (_) true [0, 1, 2, 3, 4, 5, 6, 7, 8, 9, 10, 11, 12, 14, 15] (zp 0 [0, 0, 0, 0, 1, 0, 0, 0, 1, 0, 2, 0, 2, 2, 0, 0, 2]) kR kR qP fun hs K n0 hKm hKs hKn => ?_
  refine km_ hs ?_
  refine km_ hs ?_
  refine F1 hs rfl (D8 rfl) rfl ?_
  refine F1 hs rfl (qf_ 5 5) rfl ?_
  refine I1 hs rfl hKs ql_ ?_
  refine km_ hs ?_
  refine F1 hs rfl (D8 rfl) rfl ?_
  refine F1 hs rfl (qf_ 6 6) rfl ?_
  refine I1 hs rfl hKs ql_ ?_
  refine km_ hs ?_
  refine F9 _ _ rfl rfl (List.Perm.refl _) hKm fun w0 => (A9 (Mc := MPi) (R := _) (aS rfl a0) kR qP (R7 pb (fillI k s i).2 MPi _ hPi qO qO hG.up) rfl ?_)
  rintro v28 M28 J28 ⟨hP28, h28⟩ hKx
  haveI := h28.cel
  refine F1 hs rfl (D6 (place := fun x => #[(0, 1), (1, 1), (2, 1)][x]?) (z := [.int .u32 0, vS, vS]) (fun _ => by kernel_rfl) (eS rfl (eS rfl e0)) (bdS 0 1 rfl qR (bdS 1 1 rfl qR bd0))) rfl ?_
  refine F9 [] _ rfl rfl (List.Perm.refl _) (fun _ h => by cases h) fun w0 => (C4 (e := 123) (sz := 3) (z := [.int .u32 0, vS, vS]) kR (eS rfl e0) (bdS 0 3 rfl qR bd0) rfl fun b30 => fun _ => ?_)
  refine A0B (M' := (b30, blk [.int .u32 ((k.next + i : Nat) : Int), v28, vS] 123) :: (M28 ++ ((kb, blk [.int .i64 k.user, .int .i64 k.dev, va, vg, vs, voi, .int .u32 ((k.next + i : Nat) : Int), vm] 127) :: (Bs ++ (Boi ++ (Bm ++ [])))))) qM ?_
  refine K2 rfl rfl rfl (F6 (e := 123) (sz := 3) (by_ := 56) rfl rfl kR rfl hsi (Rd.whole (n := 1) At.mem qR) (by intro c hc; simp only [List.mem_cons, List.not_mem_nil, or_false] at hc; rcases hc with rfl | rfl | rfl; rfl; exact h28.one; rfl) qP (by unfold maxLen; omega) qO rfl fun v31 B31 hs31 => ?_)
  haveI := hs31.cel
  refine F1 hs rfl (D8 rfl) rfl ?_
  refine F1 hs rfl (qf_ 5 5) rfl ?_
  refine K2 rfl rfl rfl (F8 rfl rfl hs31.one kR SetC.set UpC.upd ?_)
  refine G7 (E5 0 1 5) (C6 (mv_ ?_))
  refine A2 (D8 rfl) rfl ?_
  refine A2 (qf_ 6 6) rfl ?_
  refine A2 ql_ rfl ?_
  refine A2 (B2p 4294967296 (a := k.next + i) (b := 1) rfl rfl rfl rfl rfl rfl qO) rfl ?_
  refine A2 (D8 rfl) rfl ?_
  refine A2 (qf_ 6 6) rfl ?_
  refine A4 rfl (F8 rfl rfl rfl kR SetC.set UpC.upd ?_)
  refine E1 (nb (nx (E5 0 1 5) (C6 (mv_ ?_))))
  refine A2 (Q0 ((i + 1 : Nat) : Int) rfl rfl (W1 qO qO qO)) rfl ?_
  refine as_ (E1 ?_)
  exact rn (i + 1, (v31, roi ++ [[.int .u32 ((k.next + i : Nat) : Int), v28, vS]], B31), _, _) ⟨by dsimp only; omega, by simpa [Nat.add_assoc] using hs31, (hri.mono prT qS).snoc ⟨v28, vS, by rw [hnx], h28.mono qS, By.nil, by dsimp only; omega⟩, hP28⟩ (by dsimp only; omega) (E5 0 1 5) (Fit.pick (B := [_]) qP (Fit.pick qP (Fit.pick qP (Fit.pick qP (Fit.last qP))))) qI
 ·
  have hge : 4 ≤ k.once.length + i := by simp at hc; omega
  obtain rfl : i = 4 - k.once.length := by omega
  refine G4 (te (re (be rfl (nx (C7 5) (A1 (mv_ (as_ (A0 (C7 4) ?_))))))))
  refine A7 ?_
  have hfe := A6w k s (4 - k.once.length)
  refine ⟨_, (kb, blk [.int .i64 k.user, .int .i64 k.dev, va, vg, vs, voi, .int .u32 ((k.next + (4 - k.once.length) : Nat) : Int), vm] 127) :: (Bs ++ (Boi ++ (Bm ++ MPi))), [], F7 rfl rfl, Fit.none (Fit.eq qM), rfl, (kb, blk [.int .i64 k.user, .int .i64 k.dev, va, vg, vs, voi, .int .u32 ((k.next + (4 - k.once.length) : Nat) : Int), vm] 127) :: (Bs ++ (Boi ++ Bm)), MPi, by simp, ⟨⟨va, vg, vs, voi, vm, rs, roi, rm, Bs, Boi, Bm, ?_⟩⟩, hPi⟩
  unfold A2Q
  rw [hfe]
  exact ⟨rfl, hva.mono qS, hvg.mono qS, hss, hrs.mono prT qS, by show Sl 3 voi (fillI k s (4 - k.once.length)).1.once.length _ _; rw [hol]; exact hsi, hri, hsm, hrm.mono nmT qS, by dsimp only; omega, hn2, by show (fillI k s (4 - k.once.length)).1.once.length ≤ 100; rw [hol]; omega, hn4⟩

end Go.Proofs.YtoameenjkiaefaaGreatDoor
namespace Go.Px
theorem B1e {rows : List (List Value)} {sz : Nat} {r : List Value} (hl : ∀ r ∈ rows, r.length = sz) (hr : r.length = sz) {j : Nat} (hj : j < rows.length) :
    rows.flatten.take (j * sz) ++ r ++ rows.flatten.drop (j * sz + sz) = (rows.set j r).flatten := by
  rw [show j * sz + sz = (j + 1) * sz from by rw [Nat.add_mul, Nat.one_mul], A0T hl, A0S hl, List.set_eq_take_append_cons_drop, if_pos hj]
  simp
section
variable {C : Cx} {l : Env} {M J : Mem} {K : Env → Mem → Mem → Prop} {ty t : TypeId} {pos : String} {af : Array Edge} {g : Option (Nat × Bool)} {x y : Operand} {v : Value} {xs : List Value} {n j sz : Nat} {B M0 : Mem}
theorem B1f {r : List Value} (hx : ev l x = some (vAt sz j v)) (hy : ev l y = some (.agg r.toArray)) (h : Sl sz v n xs B) (hr : r.length = sz) (h1 : ∀ u ∈ r, u.oneCell' = true)
    (ht : P9 C.P t = some sz) (hj : j < n) (hM : M.Perm (B ++ M0)) (h2 : ∀ B', Sl sz v n (xs.take (j * sz) ++ r ++ xs.drop (j * sz + sz)) B' → K l (B' ++ M0) J) :
    OpL C ⟨none, .store t x y, ty, pos, af, g⟩ l M J K := by
  suffices hh : OpL C ⟨none, .store t x y, ty, pos, af, g⟩ l (B ++ M0) J K from fun Qp a w ha hw => hh Qp a w ha (hw.fit (Fit.perm hM) fun _ h => h)
  clear hM
  subst hr
  have hjm : j * r.length + r.length ≤ n * r.length := by rw [← Nat.succ_mul]; exact Nat.mul_le_mul_right _ hj
  rcases h with ⟨p, rfl, rfl, hx2, rfl⟩ | ⟨b, o, cap, cs, e, rfl, rfl, h3, h4, h5, h6, h7⟩
  · omega
  · simp only [vAt, Addr.add_mid] at hx
    have hcm : n * r.length ≤ cap * r.length := Nat.mul_le_mul_right _ h3
    refine K9 hx hy rfl ht (by omega) h1 rfl .hd (h2 [_] (.inr ⟨b, o, cap, _, e, rfl, rfl, h3, h4, ?_, ?_, ?_⟩))
    · rw [A0i (by omega)]; exact h5
    · rw [A0i (by omega)]; exact h6
    · intro q u hq
      have hlt := (List.getElem?_eq_some_iff.1 hq).1
      rw [A0i (by omega)] at hlt
      by_cases hq1 : q < j * r.length
      · rw [Y8 (by omega) hq1] at hq
        rw [Y8 (by omega) (by omega)]
        exact h7 q u hq
      · by_cases hq2 : q < j * r.length + r.length
        · rw [A0h (by omega) (by omega) hq2] at hq
          rw [A0h (by omega) (by omega) (by omega), ← hq]
          congr 1; omega
        · rw [A4s (by omega) (by omega)] at hq
          rw [A4s (by omega) (by omega)]
          exact h7 q u hq
theorem B1g {e : TypeId} {by_ : Nat} {zs : List Value} (hx : ev l x = some (vLo j sz v)) (ht : A1V C.P t = some (e, sz, by_)) (hz : zn C.P t (n - j) = some zs) (h : Sl sz v n xs B)
    (h1 : ∀ c ∈ zs, c.oneCell' = true) (hj : j < n) (hM : M.Perm (B ++ M0)) (h2 : ∀ B', Sl sz v n (xs.take (j * sz) ++ zs) B' → K l (B' ++ M0) J) :
    OpL C ⟨none, .call { callee := .builtin .clear, args := #[x], argTypes := #[t] }, ty, pos, af, g⟩ l M J K := by
  suffices hh : OpL C ⟨none, .call { callee := .builtin .clear, args := #[x], argTypes := #[t] }, ty, pos, af, g⟩ l (B ++ M0) J K from fun Qp a w ha hw => hh Qp a w ha (hw.fit (Fit.perm hM) fun _ h => h)
  clear hM
  have hzl := B2g hz ht
  have hjm : j * sz ≤ n * sz := Nat.mul_le_mul_right _ (by omega)
  rw [Nat.sub_mul] at hzl
  rcases h with ⟨p, rfl, rfl, hx2, rfl⟩ | ⟨b, o, cap, cs, e', rfl, rfl, h3, h4, h5, h6, h7⟩
  · omega
  · have hcm : n * sz ≤ cap * sz := Nat.mul_le_mul_right _ h3
    simp only [vLo, if_neg (show ¬ cap = j by omega), Option.map_some, Addr.add_mid] at hx
    have hnj : (n - j) * sz = zs.length := by rw [hzl, Nat.sub_mul]
    refine A7U hx ht hz h1 (by rw [hnj]; omega) rfl .hd (h2 [_] (.inr ⟨b, o, cap, _, e', rfl, rfl, h3, h4, ?_, ?_, ?_⟩))
    · rw [hnj, A0i (by omega)]; exact h5
    · simp; omega
    · intro q u hq
      have hlt := (List.getElem?_eq_some_iff.1 hq).1
      simp at hlt
      rw [hnj]
      by_cases hq1 : q < j * sz
      · rw [Y8 (by omega) (by omega)]
        rw [List.getElem?_append_left (by simp; omega), List.getElem?_take_of_lt hq1] at hq
        exact h7 q u hq
      · rw [A0h (by omega) (by omega) (by omega)]
        rw [List.getElem?_append_right (by simp; omega)] at hq
        rw [← hq]
        congr 1
        simp; omega
end
def kpt {β : Type} (p : Nat → Bool) (rows : List β) : Nat → List β
  | 0 => []
  | j + 1 => kpt p rows j ++ (if p j then [] else rows[j]?.toList)
theorem A5L {β : Type} {p : Nat → Bool} {rows : List β} : ∀ j, (∀ i, i < j → p i = false) → kpt p rows j = rows.take j
  | 0, _ => by simp [kpt]
  | j + 1, h => by
    rw [kpt, A5L j fun i hi => h i (by omega), if_neg (by rw [h j (by omega)]; decide), List.take_add_one]
theorem A3i {α : Type} (q : α → Bool) (xs : List α) : ∀ j, kpt (fun i => (xs[i]?.map q).getD false) xs j = (xs.take j).filter fun x => !q x
  | 0 => by simp [kpt]
  | j + 1 => by
    rw [kpt, A3i q xs j, List.take_add_one, List.filter_append]
    congr 1
    cases h : xs[j]? with
    | none => simp
    | some x => cases hq : q x <;> simp [hq]
theorem RwL.kpt {α : Type} {φ : Mem → α → List Value → Prop} {R : Mem} {rows : List (List Value)} {xs : List α} (h : RwL φ R rows xs) (p : Nat → Bool) : ∀ j, RwL φ R (Px.kpt p rows j) (Px.kpt p xs j)
  | 0 => RwL.nil
  | j + 1 => by
    rw [Px.kpt, Px.kpt]
    refine (RwL.kpt h p j).app ?_
    split
    · exact RwL.nil
    · cases hx : xs[j]? with
      | none =>
        have : rows[j]? = none := by rw [List.getElem?_eq_none_iff] at hx ⊢; rw [h.len]; exact hx
        rw [this]; exact RwL.nil
      | some x =>
        obtain ⟨r, h1, h2⟩ := h.get j x hx
        rw [h1]
        exact RwL.cons h2 RwL.nil
theorem B1h {α : Type} {cur : List α} {i : Nat} {r : α} (h : i < cur.length) : (cur.set i r).take (i + 1) = cur.take i ++ [r] := by
  rw [List.take_add_one, List.getElem?_set_self h, List.take_set_of_le (Nat.le_refl _)]
  rfl
theorem Sl.hi_app {sz n i : Nat} {v : Value} {xs zs : List Value} {B : Mem} (h : Sl sz v n (xs.take (i * sz) ++ zs) B) (hx : xs.length = n * sz) (hi : i ≤ n) : Sl sz (vHi i v) i (xs.take (i * sz)) B := by
  have h2 := h.hiV i hi
  have h3 : i * sz ≤ n * sz := Nat.mul_le_mul_right _ hi
  rwa [List.take_left' (by rw [List.length_take]; omega)] at h2
structure Dfs (sz : Nat) (p : Nat → Bool) (rows cur : List (List Value)) (j i : Nat) : Prop where
  jn : j ≤ rows.length
  ki : i = (kpt p rows j).length
  ij : i < j
  cl : cur.length = rows.length
  ct : cur.take i = kpt p rows j
  cd : cur.drop j = rows.drop j
  cs : ∀ r ∈ cur, r.length = sz
  cr : ∀ r ∈ cur, r ∈ rows
section
variable {sz : Nat} {p : Nat → Bool} {rows cur : List (List Value)} {j i i0 : Nat} {r : List Value}
theorem Dfs.init (hl : ∀ r ∈ rows, r.length = sz) (hi : i0 < rows.length) (hp : p i0 = true) (hq : ∀ j, j < i0 → p j = false) : Dfs sz p rows rows (i0 + 1) i0 := by
  have hk0 : kpt p rows (i0 + 1) = rows.take i0 := by rw [kpt, hp, A5L i0 hq]; simp
  exact ⟨hi, by rw [hk0, List.length_take]; omega, by omega, rfl, hk0.symm, rfl, hl, fun _ h => h⟩
theorem Dfs.at_ (h : Dfs sz p rows cur j i) (hr : rows[j]? = some r) : cur[j]? = some r := by
  have h2 := congrArg (fun l => l[0]?) h.cd
  simpa [List.getElem?_drop, hr] using h2
theorem Dfs.keep (h : Dfs sz p rows cur j i) (hr : rows[j]? = some r) (hp : p j = false) : Dfs sz p rows (cur.set i r) (j + 1) (i + 1) := by
  obtain ⟨h1, h2, h3, h4, h5, h6, h7, h8⟩ := h
  have hjl := (List.getElem?_eq_some_iff.1 hr).1
  have hk : kpt p rows (j + 1) = kpt p rows j ++ [r] := by rw [kpt, hp, hr]; rfl
  have hcj : cur.drop (j + 1) = rows.drop (j + 1) := by rw [← List.drop_drop, ← List.drop_drop, h6]
  refine ⟨hjl, by rw [hk]; simp [← h2], by omega, by simp [h4], ?_, ?_, ?_, ?_⟩
  · rw [B1h (by omega), h5, hk]
  · rw [List.drop_set_of_lt (by omega), hcj]
  · intro x hx
    rcases List.mem_or_eq_of_mem_set hx with hx | hx
    · exact h7 x hx
    · subst hx; exact h7 x (List.mem_of_getElem? (Dfs.at_ ⟨h1, h2, h3, h4, h5, h6, h7, h8⟩ hr))
  · intro x hx
    rcases List.mem_or_eq_of_mem_set hx with hx | hx
    · exact h8 x hx
    · subst hx; exact List.mem_of_getElem? hr
theorem Dfs.skip (h : Dfs sz p rows cur j i) (hjl : j < rows.length) (hp : p j = true) : Dfs sz p rows cur (j + 1) i := by
  obtain ⟨h1, h2, h3, h4, h5, h6, h7, h8⟩ := h
  have hk : kpt p rows (j + 1) = kpt p rows j := by rw [kpt, hp]; simp
  exact ⟨hjl, by rw [hk]; exact h2, by omega, h4, by rw [hk]; exact h5, by rw [← List.drop_drop, ← List.drop_drop, h6], h7, h8⟩
end
end Go.Px

namespace Go.Proofs.YtoameenjkiaefaaGreatDoor
open Go.Px
theorem B1i {k : IntKind} (c : Int) : H8 .eql k c (-1) = some (.bool (decide (c = -1))) := by
  by_cases h : c = -1
  · rw [decide_eq_true h]; exact eqT h
  · rw [decide_eq_false h]; exact eqF h
theorem A7p (v : Value) (rows : List (List Value)) (f : FuncId) (cs : List Value) (p : Nat → Bool) (B A : Mem) (hs : Sl 2 v rows.length rows.flatten B) (hl : ∀ r ∈ rows, r.length = 2) (h1 : ∀ c ∈ rows.flatten, c.oneCell' = true) (hn : rows.length ≤ 1099511627776) (hc_ : H2 Tryz.prog f = true) (hf : ∀ (j : Nat) (r : List Value), rows[j]? = some r → FnV Tryz.prog f (.agg r.toArray :: cs) A (.bool (p j))) : FnX Tryz.prog 102 [v, .func (.func f) #[] cs.toArray] B A fun q M J => Sl 2 q (kpt p rows rows.length).length (kpt p rows rows.length).flatten M := by
 haveI := hs.cel
 refine FnX.enterZ (N := 42) Tryz.func102 rfl rfl rfl fun w_ => ?_
 refine A8 (D0 0 1) (A1 (as_ (A0 (D0 0 1) (A1 (mv_ (mv_ ?_))))))
 refine D7 (aS rfl (aS rfl a0)) kR (A7m v rows f cs p _ (hs.rd fun x hx => by simp [hx]) hl hn hc_ (fun j r hr => A41 (hf j r hr) qS)) rfl ?_
 refine as_ (A0 (E5 0 1 5) (A6 (A1 (mv_ ?_))))
 refine A2 (F0 (decide (A2K p rows.length = -1)) rfl rfl (B1i _)) rfl ?_
 refine A0 (F4 0 1 5 12) ?_
 refine C3 rfl ?_ ?_ <;> intro hc
 ·
  have hm1 : A2K p rows.length = -1 := of_decide_eq_true hc
  have hall : ∀ i, i < rows.length → p i = false := by rcases A0k p rows.length with ⟨_, h⟩ | ⟨i, _, h, _, _⟩; exact h; omega
  refine A1 (mv_ (as_ (A0 (C7 4) (A7 (tr ?_)))))
  refine ⟨_, B, [], F7 rfl rfl, Fit.none (Fit.last qP), ?_⟩
  rw [A5L _ hall, List.take_length]
  exact hs
 ·
  have hne : ¬ A2K p rows.length = -1 := of_decide_eq_false hc
  obtain ⟨i0, hi0, he0, hp0, hq0⟩ : ∃ i, i < rows.length ∧ A2K p rows.length = (i : Int) ∧ p i = true ∧ ∀ j, j < i → p j = false := (A0k p rows.length).resolve_left fun h => hne h.1
  rw [he0]
  refine A5 (nx (E5 0 1 5) (A6 (A1 (mv_ ?_))))
  refine A2 (Q0 ((i0 + 1 : Nat) : Int) rfl rfl (W1 qO qO qO)) rfl ?_
  refine as_ (A0 (F4 0 1 5 6) (C5 ?_))
  refine H0 (α := Nat × Nat × List (List Value) × Mem) (fun y => [(0, v), (1, .func (.func f) #[] cs.toArray), (5, (vI y.2.1)), (6, (vI y.1))]) (fun y => y.2.2.2) (fun _ => []) (fun y => Dfs 2 p rows y.2.2.1 y.1 y.2.1 ∧ Sl 2 v rows.length y.2.2.1.flatten y.2.2.2) (fun y => rows.length - y.1) (i0 + 1, i0, rows, B) ⟨Dfs.init hl hi0 hp0 hq0, hs⟩ (F4 0 1 5 6) Fit.rfl qI ?_
  rintro ⟨j, i, cur, Bc⟩ ⟨hD, hsc⟩
  dsimp only at hD hsc ⊢
  have hjn := hD.jn
  have hij := hD.ij
  have hcs := hD.cs
  refine A6 (A1 (mv_ (mv_ ?_)))
  refine A2 (E2 (sz := 2) rfl kR (hsc.rd (R := Bc) fun _ h => h)) rfl ?_
  refine A2 (F3 rfl rfl rfl) rfl ?_
  refine A0 (G6 0 1 5 6 19) ?_
  refine C3 rfl ?_ ?_ <;> intro hc
  ·
   have hlt : j < rows.length := by simp at hc; omega
   obtain ⟨r, hr⟩ : ∃ r, rows[j]? = some r := ⟨_, List.getElem?_eq_getElem hlt⟩
   have hrc : cur[j]? = some r := hD.at_ hr
   have hrl : r.length = 2 := hcs r (List.mem_of_getElem? hrc)
   have hr1 : ∀ c ∈ r, c.oneCell' = true := fun c hc => h1 c (List.mem_flatten.2 ⟨r, List.mem_of_getElem? hr, hc⟩)
   obtain ⟨c0_, c1_, rfl⟩ : ∃ c0_ c1_, r = [c0_, c1_] := by match r, hrl with | [c0_, c1_], _ => exact ⟨c0_, c1_, rfl⟩
   refine A5 (nx (F4 0 1 5 6) (A6 (C5 (A1 (mv_ (mv_ ?_))))))
   refine A2 (F2 (sz := 2) (a := j) rfl rfl kR rfl (hsc.rd (R := Bc) fun _ h => h) hlt) rfl ?_
   refine A2 (U4 rfl kR (hsc.rd fun x hx => by simp [hx]) hcs qD hrc) rfl ?_
   refine A4 rfl (D2 (cs := [.int .u32 0, vS]) kR rfl fun b7 => ?_)
   refine A4 rfl (B8 rfl rfl rfl kR qR hr1 UpC.upd ?_)
   refine A0 (G6 0 1 5 6 7) (A1 (mv_ ?_))
   refine A2 (qw_ 2) rfl ?_
   refine A4 rfl (X7 rfl (aS rfl a0) hc_ (A41 (hf j _ hr) qS) rfl ?_)
   refine A2 (L6 rfl) rfl ?_
   refine A0 (I7 0 1 5 6 7 29) ?_
   refine C3 rfl ?_ ?_ <;> intro hc
   ·
    refine A1 (mv_ (mv_ ?_))
    refine A2 (qw_ 2) rfl ?_
    refine A2 (F2 (sz := 2) (a := i) rfl rfl kR rfl (hsc.rd (R := Bc) fun _ h => h) qO) rfl ?_
    refine A4 rfl (B1f (sz := 2) (j := i) rfl rfl hsc hrl hr1 kR qO qP fun B33 hs33 => ?_)
    refine A0 (F4 0 1 5 6) (C6 (mv_ ?_))
    refine A2 (Q0 ((i + 1 : Nat) : Int) rfl rfl (W1 qO qO qO)) rfl ?_
    refine as_ (E1 (nb (nx (F4 0 1 5 6) (C6 (mv_ ?_)))))
    refine A2 (Q0 ((j + 1 : Nat) : Int) rfl rfl (W1 qO qO qO)) rfl ?_
    refine as_ (E1 ?_)
    exact rn (j + 1, i + 1, cur.set i [c0_, c1_], B33) ⟨hD.keep hr (by simpa using hc), by rw [← B1e hcs rfl (by have := hD.cl; omega)]; exact hs33⟩ (by dsimp only; omega) (F4 0 1 5 6) (Fit.last qP) qI
   ·
    refine A5 (nb (nx (F4 0 1 5 6) (C6 (mv_ ?_))))
    refine A2 (Q0 ((j + 1 : Nat) : Int) rfl rfl (W1 qO qO qO)) rfl ?_
    refine as_ (E1 ?_)
    exact rn (j + 1, i, cur, Bc) ⟨hD.skip hlt (by simpa using hc), hsc⟩ (by dsimp only; omega) (F4 0 1 5 6) (Fit.last qP) qI
  ·
   have hge : j = rows.length := by simp at hc; omega
   subst hge
   refine G4 (te (re (be rfl (nx (D0 0 5) (A1 (mv_ (mv_ ?_)))))))
   refine A2 (A4v (sz := 2) rfl rfl kR rfl (by first | assumption | exact Sl.rd (by assumption) qI | exact By.rd (by assumption)) qO) rfl ?_
   refine A4 rfl (B1g (e := 174) (by_ := 32) (zs := (Builtin.zeroCells #[.int .u32 0, vS] (rows.length - i)).toList) rfl kR kR hsc (A0R (by simp [Value.oneCell']) qM _) qO qP fun B38 hs38 => ?_)
   refine A0 (D0 0 5) (A1 (mv_ (mv_ ?_)))
   refine A2 (A19 (sz := 2) (a := i) rfl rfl kR rfl (hs38.rd (R := B38) fun _ h => h) qO) rfl ?_
   refine as_ (A0 (C7 4) (A7 ?_))
   refine ⟨_, B38, [], F7 rfl rfl, Fit.none (Fit.last qP), ?_⟩
   have h2 := hs38.hi_app (by rw [A3z hcs, hD.cl]) qO
   rw [A0T hcs, hD.ct] at h2
   rw [← hD.ki]
   exact h2

theorem N9 (s : Ps) (w : LN) : (G1 s w).ts.length ≤ s.ts.length + 2 := by
  unfold G1
  split
  · omega
  · have h1 := L8 (ts := s.ts) (ws := w)
    have h2 := W2 (ts := rdT s.ts w) (t := A4l ((rdI s.ts w : Nat) : Int))
    show (add (rdT s.ts w) _).length ≤ _
    omega
theorem A3Y (s : Ps) (w : LN) : (G1 s w).n = s.n := by unfold G1; split <;> rfl
theorem B1j (s : Ps) (w m : LN) : (A4S s w m).ts.length ≤ s.ts.length + 2 := by
  unfold A4S
  split
  · omega
  · have h1 := L8 (ts := s.ts) (ws := w)
    have h2 := W2 (ts := rdT s.ts w) (t := A3d ((rdI s.ts w : Nat) : Int) m)
    show (add (rdT s.ts w) (A3d ((rdI s.ts w : Nat) : Int) m)).length ≤ _
    omega
theorem B6t (s : Ps) (w m : LN) : (A4S s w m).n = s.n := by unfold A4S; split <;> rfl
theorem A44 (s : Ps) (w : LN) : (I5 s w).length = 32 := by
  unfold I5
  split
  · exact A2k _ _
  · exact W3 _ qD
noncomputable def A9b (k : Ks) (s : Ps) : Ps := A4S (G1 (D4 s) (D9 s)) k.sign (A4X k.next (I5 (D4 s) (D9 s)))
noncomputable def turnP (k : Ks) (s : Ps) : Pr := ⟨k.next, D9 s, B2A (G1 (D4 s) (D9 s)) k.sign (A4X k.next (I5 (D4 s) (D9 s)))⟩
def A7q (signed : List Pr) (x : Nm) : Bool := !decide (0 ≤ Q5 (A2v x.n) signed)
noncomputable def Z9 (k : Ks) (s : Ps) : Ks × Ps :=
  ({ k with signed := (turnP k s :: k.signed).take 2, next := k.next + 1, met := k.met.filter fun x => !A7q ((turnP k s :: k.signed).take 2) x }, A9b k s)
theorem A9c {l : List Pr} {rows : List (List Value)} {n b : Nat} {vi : Value} {A : Mem} (hR : RwL prR A rows l) (hvi : Cel vi [vi]) (hb : (b, blk [(vU n), vi] 174) ∈ A) :
    ∀ (j : Nat) (r : List Value), rows[j]? = some r → FnV Tryz.prog 105 (.agg r.toArray :: [(vP b)]) A (.bool ((fun j => (l[j]?.map (A2v n)).getD false) j)) := fun j r hr => by
  obtain ⟨x, hx, vs, vg, rfl, hs, hg, _⟩ := hR.of hr
  dsimp only
  rw [hx]
  exact A5G vs vg vi x n b _ hs hg hvi hb
theorem B4e (kb b n : Nat) (c0 c1 c2 c3 vq c5 c6 c7 vi : Value) (sg : List Pr) (rs : List (List Value)) (A : Mem) (hb : (b, blk [(vP kb)] 26) ∈ A) (hkb : (kb, blk [c0, c1, c2, c3, vq, c5, c6, c7] 127) ∈ A) (hvi : Cel vi [vi]) (hv : Rd A 3 vq sg.length rs.flatten) (hR : RwL prR A rs sg) (hl : sg.length ≤ 1000000) : FnV Tryz.prog 103 [.agg #[(vU n), vi], (vP b)] A (.bool (!decide (0 ≤ Q5 (A2v n) sg))) := by
 haveI := hv.cel
 refine FnX.enter (N := 11) Tryz.func103 rfl rfl rfl fun w => ?_
 refine A8 (D0 0 1) (A1 ?_)
 refine A4 rfl (bx_ fun b2 => ?_)
 refine as_ (A0 (D0 1 2) (A1 ?_))
 refine A2 (G3 rfl kR (mA hb) qR) rfl ?_
 refine A2 (D8 rfl) rfl ?_
 refine A2 (qf_ 4 4) rfl ?_
 refine A2 (G3 rfl kR (mA hkb) qR) rfl ?_
 refine A2 (A1N (aS rfl a0)) rfl ?_
 refine D7 (aS rfl (aS rfl a0)) kR (A3V vq rs 105 [(vP b2)] (fun j => (sg[j]?.map (A2v n)).getD false) _ (by rw [hR.len]; exact hv.mono qS) (hR.lens prT) (by rw [hR.len]; omega) kR (A9c (hR.mono prT qS) hvi At.mem)) rfl ?_
 rw [hR.len]
 refine A2 (L6 rfl) rfl ?_
 refine as_ (A0 (C7 3) (A7 ?_))
 exact ⟨_, [], [], F7 rfl rfl, List.nil_sublist _, by simp, rfl, rfl, rfl⟩
theorem A9d {l : List Nm} {rows : List (List Value)} {kb b : Nat} {c0 c1 c2 c3 vq c5 c6 c7 : Value} {sg : List Pr} {rs : List (List Value)} {A : Mem} (hL : RwL nmR A rows l) (hb : (b, blk [(vP kb)] 26) ∈ A) (hkb : (kb, blk [c0, c1, c2, c3, vq, c5, c6, c7] 127) ∈ A) (hv : Rd A 3 vq sg.length rs.flatten) (hR : RwL prR A rs sg) (hl : sg.length ≤ 1000000) :
    ∀ (j : Nat) (r : List Value), rows[j]? = some r → FnV Tryz.prog 103 (.agg r.toArray :: [(vP b)]) A (.bool ((fun j => (l[j]?.map (A7q sg)).getD false) j)) := fun j r hr => by
  obtain ⟨x, hx, vi, rfl, hi, _⟩ := hL.of hr
  dsimp only
  rw [hx]
  exact B4e kb b x.n c0 c1 c2 c3 vq c5 c6 c7 vi sg rs A hb hkb hi.cel hv hR hl
theorem B6u (kb : Nat) (pb : Nat × Nat) (k : Ks) (s : Ps) (MK MP A : Mem) (hK : Kys A kb k MK) (hP : Prm pb s MP) (hn : s.ts.length + 100 ≤ 1048576) (hk : s.n < 1000000000) (hnx : k.next + 100 < 4000000000) (hG : Glb A) : FnX Tryz.prog 54 [(vP kb), .pointer (some ⟨pb.1, 0, none⟩)] (MK ++ MP) A fun q M J => ∃ MK2 MP2, M = MK2 ++ MP2 ∧ Kys (J ++ A) kb (Z9 k s).1 MK2 ∧ Prm pb (Z9 k s).2 MP2 := by
 obtain ⟨va, vg, vq, vo, vm, rs, ro, rm, Bs, Bo, Bm, rfl, hva, hvg, hss, hrs, hso, hro, hsm, hrm, hn1, hn2, hn3, hn4⟩ := hK.ex
 haveI := hva.cel
 haveI := hvg.cel
 have fl := K3 s
 have pl := N9 (D4 s) (D9 s)
 have pkl := A44 (D4 s) (D9 s)
 haveI := hss.cel
 haveI := hso.cel
 haveI := hsm.cel
 refine FnX.enterZ (N := 68) Tryz.func54 rfl rfl rfl fun w_ => ?_
 refine A8 (D0 0 1) (A1 ?_)
 refine A4 rfl (bx_ fun b2 => ?_)
 refine A0 (D0 1 2) (A6 (A1 ?_))
 refine A2 ql_ rfl ?_
 refine A2 (C9 (e := 127) rfl rfl kR) rfl ?_
 refine A0 (E5 1 2 6) ?_
 refine B0 rfl ?_
 refine A5 (nx (D0 1 2) ?_)
 refine E6 (MP) (_) true (.range 8) (zp 0 [1, 0, 0, 1, 0, 3, 3, 4, 2]) kR kR qP fun hs K n0 hKm hKs hKn => ?_
 refine I1 hs rfl hKs ql_ ?_
 refine F1 hs rfl (D8 rfl) rfl ?_
 refine F1 hs rfl (qf_ 6 6) rfl ?_
 refine I1 hs rfl hKs ql_ ?_
 refine km_ hs ?_
 refine V1 [⟨5, 12, none, MP, fun v B R => Prm pb (D4 (s)) B ∧ By R v (D9 (s))⟩, ⟨6, 13, none, [], fun v B R => B = [] ∧ ∃ u, v = .agg [(vU k.next), u, vS].toArray ∧ By R u (D9 s)⟩, ⟨7, 4, none, [], fun v B _ => ∃ b, v = (vP b) ∧ B = [(b, blk [.int .u32 0, vS, vS] 123)]⟩] ((b2, blk [(vP kb)] 26) :: ((kb, blk [.int .i64 k.user, .int .i64 k.dev, va, vg, vq, vo, (vU k.next), vm] 127) :: (Bs ++ (Bo ++ Bm)))) (fun bs => [bs 5, bs 6, bs 7]) (hKn rfl) (by simp [Q6, W4]) (show ∀ m ∈ ([MP, [], []] : List Mem), ∀ x ∈ m, K x.1 from A3 (hKm) (A3 (fun _ h => by cases h) (A3 (fun _ h => by cases h) (H9)))) kR (fun _ => by first | rfl | kernel_rfl)
  (A3 (fun _ _ _ _ h hp => ⟨hp.1, hp.2.mono h⟩) (A3 (fun _ _ _ _ h ⟨p1, u, p2, p3⟩ => ⟨p1, u, p2, p3.mono h⟩) (A3 (fun _ _ _ _ h hp => hp) (H9)))) (show List.Nodup [12, 13, 4] by decide) (show List.Nodup [5, 6, 7] by decide) (A3 (D5 rfl) (A3 (D5 rfl) (A3 (D5 rfl) (H9))))
  (A3 ⟨_, rfl, fun vs bs R Rj wG hb hj hjr ha => ⟨.inl rfl, ?_⟩⟩ (A3 ⟨_, rfl, fun vs bs R Rj wG hb hj hjr ha => ⟨.inl rfl, ?_⟩⟩ (A3 ⟨_, rfl, fun vs bs R Rj wG hb hj hjr ha => ⟨.inl rfl, ?_⟩⟩ (H9)))) ?_
 ·
  dsimp only [Gc.inp]
  refine A9 (Mc := MP) (R := []) (aS rfl a0) kR qM (R7 pb (s) MP _ hP qO qO (hG.sub fun x hx => by have := hb x (by simp [hx]); simp [this])) rfl ?_
  rintro v12 M12 J12 ⟨hP12, h12⟩
  exact ⟨_, rfl, by simpa using hP12, h12.mono fun x hx => by simp [hx]⟩
 ·
  dsimp only [Gc.inp]
  have g5 := ha _ (List.mem_of_getElem? (i := 0) rfl) kR
  replace g5 : (fun v B R => Prm pb (D4 (s)) B ∧ By R v (D9 (s))) (vs 5) (bs 5) Rj := g5
  dsimp only at g5
  obtain ⟨hP12, h12⟩ := g5
  haveI := h12.cel
  exact OpQ.opL (D6 (place := fun x => #[(0, 1), (1, 1), (2, 1)][x]?) (z := [.int .u32 0, vS, vS]) (fun _ => by kernel_rfl) (eS rfl (eS rfl e0)) (bdS 0 1 rfl qR (bdS 1 1 rfl qR bd0))) rfl ⟨_, rfl, rfl, _, rfl, h12⟩
 ·
  dsimp only [Gc.inp]
  exact D2 (cs := [.int .u32 0, vS, vS]) kR rfl fun b => ⟨_, rfl, b, rfl, rfl⟩
 intro vs bs Jn0 hφ hKK
 have kk5 := hKK _ (List.mem_of_getElem? (i := 0) rfl)
 dsimp only at kk5
 have kk6 := hKK _ (List.mem_of_getElem? (i := 1) rfl)
 dsimp only at kk6
 have kk7 := hKK _ (List.mem_of_getElem? (i := 2) rfl)
 dsimp only at kk7
 clear hKK
 have g5 := ofH hφ
 dsimp only at g5
 replace hφ := ofT hφ
 have g6 := ofH hφ
 dsimp only at g6
 replace hφ := ofT hφ
 have g7 := ofH hφ
 dsimp only at g7
 clear hφ
 dsimp only [N3, Q6, List.foldr, List.map, List.cons_append, List.nil_append]
 generalize bs 5 = B12 at *
 generalize bs 6 = B13 at *
 generalize bs 7 = B4 at *
 generalize vs 5 = u12 at *
 generalize vs 6 = u13 at *
 generalize vs 7 = u4 at *
 obtain ⟨hP12, h12⟩ := g5
 obtain ⟨b4, rfl, rfl⟩ := g7
 obtain ⟨rfl, u, rfl, h12⟩ := g6
 haveI := h12.cel
 refine A0B (M' := B12 ++ ((b4, blk [.int .u32 0, vS, vS] 123) :: (b2, blk [(vP kb)] 26) :: ((kb, blk [.int .i64 k.user, .int .i64 k.dev, va, vg, vq, vo, (vU k.next), vm] 127) :: (Bs ++ (Bo ++ Bm))))) qM ?_
 refine K2 rfl rfl rfl (B8 (vs := [(vU k.next), u, vS]) rfl rfl rfl kR qR (by intro c hc; simp only [List.mem_cons, List.not_mem_nil, or_false] at hc; rcases hc with rfl | rfl | rfl; rfl; exact h12.one; rfl) UpC.upd ?_)
 refine G7 (E5 1 2 4) ?_
 refine E6 (B12) (_) true (.range 14) (zp 0 [0, 1, 0, 0, 1, 0, 1, 0, 0, 1, 2, 2, 2, 0, 2]) kR kR qP fun hs K n0 hKm hKs hKn => ?_
 refine km_ hs ?_
 refine I1 hs rfl hKs ql_ ?_
 refine F1 hs rfl (D8 rfl) rfl ?_
 refine F1 hs rfl (qf_ 3 3) rfl ?_
 refine I1 hs rfl hKs ql_ ?_
 refine F1 hs rfl (qf_ 0 0) rfl ?_
 refine I1 hs rfl hKs ql_ ?_
 refine km_ hs ?_
 refine F1 hs rfl (qf_ 1 1) rfl ?_
 refine I1 hs rfl hKs ql_ ?_
 refine F9 _ _ rfl rfl (List.Perm.refl _) hKm fun w0 => (A9 (Mc := B12) (R := _) (aS rfl (aS rfl a0)) kR qP (A0m pb (D4 s) u (D9 s) B12 _ hP12 qO (h12.mono qS) hG.up) rfl ?_)
 rintro v24 M24 J24 ⟨hP24, h24⟩ hKx
 haveI := h24.cel
 refine A0B (M' := M24 ++ ((b4, blk [(vU k.next), u, vS] 123) :: (b2, blk [(vP kb)] 26) :: ((kb, blk [.int .i64 k.user, .int .i64 k.dev, va, vg, vq, vo, (vU k.next), vm] 127) :: (Bs ++ (Bo ++ Bm))))) qM ?_
 generalize hpk : I5 (D4 s) (D9 s) = pk at *
 generalize hps : G1 (D4 s) (D9 s) = s2 at *
 refine F9 [] _ rfl rfl (List.Perm.refl _) (fun _ h => by cases h) fun w0 => (K0 (aS rfl (aS rfl a0)) kR (A4Y k.next v24 pk _ qO (h24.mono qS) qO) rfl ?_)
 rintro v25 M25 J25 ⟨rfl, h25⟩ _
 haveI := h25.cel
 generalize hms : A4X k.next pk = wm at *
 dsimp only [List.nil_append, List.append_eq]
 refine F9 M24 _ rfl rfl qP (fun x hx => hKx (hKn rfl) x (by simpa using hx)) fun w0 => (A9 (Mc := M24) (R := _) (aS rfl (aS rfl (aS rfl a0))) kR qP (B3O pb s2 vg v25 k.sign wm M24 _ hP24 qO (hvg.mono qS) (h25.mono qS) hG.up) rfl ?_)
 rintro v26 M26 J26 ⟨hP26, h26⟩ hKx
 haveI := h26.cel
 refine F1 hs rfl (qf_ 2 2) rfl ?_
 refine K2 rfl rfl rfl (F8 rfl rfl h26.one kR SetC.set UpC.upd ?_)
 refine G7 (D0 2 4) (A1 ?_)
 refine A2 ql_ rfl ?_
 refine A2 (D8 rfl) rfl ?_
 refine A2 (qf_ 6 6) rfl ?_
 refine A2 ql_ rfl ?_
 refine A2 (B2p 4294967296 (a := k.next) (b := 1) rfl rfl rfl rfl rfl rfl qO) rfl ?_
 refine A2 (D8 rfl) rfl ?_
 refine A2 (qf_ 6 6) rfl ?_
 refine A4 rfl (F8 rfl rfl rfl kR SetC.set UpC.upd ?_)
 refine A0 (D0 2 4) ?_
 refine E6 ([]) (_) true (.range 10) [(0, 1), (1, 1), (3, 1), (4, 0), (5, 0), (6, 1), (2, 2), (7, 2), (8, 0), (9, 0), (10, 2)] kR kR qP fun hs K n0 hKm hKs hKn => ?_
 refine I1 hs rfl hKs ql_ ?_
 refine I1 hs rfl hKs (qw_ 3) ?_
 refine I1 hs rfl hKs ql_ ?_
 refine F1 hs rfl (D8 rfl) rfl ?_
 refine F1 hs rfl (qf_ 4 4) rfl ?_
 refine I1 hs rfl hKs ql_ ?_
 refine F9 [] _ rfl rfl (List.Perm.refl _) (fun _ h => by cases h) fun w0 => (C4 (e := 123) (sz := 3) (z := [.int .u32 0, vS, vS]) kR (eS rfl e0) (bdS 0 3 rfl qR bd0) rfl fun b37 => fun hk37 => ?_)
 dsimp only [List.cons_append, List.nil_append, List.append_eq]
 refine F9 [(b37, blk [(vU k.next), u, v26] 123)] _ rfl rfl qP (fun x hx => hk37 (hKn rfl) x (by simpa using hx)) fun w0 => (F6 (e := 123) (sz := 3) (by_ := 56) rfl rfl kR rfl (Sl.fresh (n := 1) (cs := [(vU k.next), u, v26]) (e := 123) rfl qD) (hss.rd fun x hx => by simp [hx]) (hrs.ones prT) qP (by unfold maxLen; omega) qO rfl fun v42 B42 hs42 => fun _ => ?_)
 haveI := hs42.cel
 refine F1 hs rfl (D8 rfl) rfl ?_
 refine F1 hs rfl (qf_ 4 4) rfl ?_
 refine K2 rfl rfl rfl (F8 rfl rfl hs42.one kR SetC.set UpC.upd ?_)
 refine G7 (C7 2) ?_
 refine G5 (.range 14) (zp 0 [1, 1, 0, 0, 1, 1, 0, 0, 1, 0, 0, 0, 0, 0, 2]) kR kR fun hs => ?_
 refine R5 hs rfl ql_ rfl ?_
 refine R5 hs rfl ql_ rfl ?_
 refine E8 hs rfl (D8 rfl) rfl ?_
 refine E8 hs rfl (qf_ 4 4) rfl ?_
 refine R5 hs rfl ql_ rfl ?_
 refine R5 hs rfl ql_ rfl ?_
 refine E8 hs rfl (D8 rfl) rfl ?_
 refine E8 hs rfl (qf_ 4 4) rfl ?_
 refine R5 hs rfl ql_ rfl ?_
 refine E8 hs rfl (E2 (sz := 3) rfl kR (hs42.rd (R := B42) fun _ h => h)) rfl ?_
 refine E8 hs rfl (B5C rfl rfl) rfl ?_
 refine E8 hs rfl (A19 (sz := 3) (a := min 2 (1 + k.signed.length)) rfl rfl kR qO (hs42.rd (R := B42) fun _ h => h) qO) rfl ?_
 have hs6 := hs42.hiV (min 2 (1 + k.signed.length)) qO
 generalize vHi (min 2 (1 + k.signed.length)) v42 = vq6 at *
 haveI := hs6.cel
 obtain ⟨tp, htp⟩ : ∃ tp, turnP k s = tp := ⟨_, rfl⟩
 have htq : tp = ⟨k.next, D9 s, B2A s2 k.sign wm⟩ := by rw [← htp]; unfold turnP; rw [hpk, hps, hms]
 have hrow : prR (J26 ++ (J25 ++ (J24 ++ (Jn0 ++ A)))) tp [(vU k.next), u, v26] := ⟨u, v26, by rw [htq], by rw [htq]; exact h12.mono qS, by rw [htq]; exact h26.mono qS, by rw [htq]; dsimp only; omega⟩
 have hRs : RwL prR (J26 ++ (J25 ++ (J24 ++ (Jn0 ++ A)))) (([(vU k.next), u, v26] :: rs).take 2) ((tp :: k.signed).take 2) := (RwL.cons hrow (hrs.mono prT qS)).take 2
 have hl6 : ((tp :: k.signed).take 2).length = min 2 (1 + k.signed.length) := by rw [List.length_take, List.length_cons]; omega
 have hSg : Sl 3 vq6 ((tp :: k.signed).take 2).length (([(vU k.next), u, v26] :: rs).take 2).flatten B42 := by
  have e1 : [(vU k.next), u, v26] ++ rs.flatten = ([(vU k.next), u, v26] :: rs).flatten := rfl
  have e2 : min 2 (1 + k.signed.length) = min 2 ([(vU k.next), u, v26] :: rs).length := by rw [List.length_cons, hrs.len]; omega
  rw [e1, A0T ((RwL.cons hrow (hrs.mono prT qS)).lens prT), e2, ← List.take_eq_take_min, ← e2, ← hl6] at hs6
  exact hs6
 refine E8 hs rfl (D8 rfl) rfl ?_
 refine E8 hs rfl (qf_ 4 4) rfl ?_
 refine L7 rfl rfl rfl (F8 rfl rfl hs6.one kR SetC.set UpC.upd ?_)
 refine I2 (C7 2) ?_
 refine W7 (Bm) (_) true (.range 9) (zp 0 [1, 1, 0, 0, 1, 0, 2, 0, 0, 2]) kR kR qP fun hs K n0 hKm hKs hKn => ?_
 refine I1 hs rfl hKs ql_ ?_
 refine I1 hs rfl hKs ql_ ?_
 refine F1 hs rfl (D8 rfl) rfl ?_
 refine F1 hs rfl (qf_ 7 7) rfl ?_
 refine I1 hs rfl hKs ql_ ?_
 refine F1 hs rfl (A1N (aS rfl a0)) rfl ?_
 refine F9 _ _ rfl rfl (List.Perm.refl _) hKm fun w0 => (A9 (Mc := Bm) (R := _) (aS rfl (aS rfl a0)) kR qP (by rw [← hrm.len] at hsm; exact A7p vm rm 103 [(vP b2)] (fun j => (k.met[j]?.map (A7q ((tp :: k.signed).take 2))).getD false) Bm _ hsm (hrm.lens nmT) (hrm.ones nmT) (by rw [hrm.len]; omega) kR (A9d (hrm.mono nmT qS) At.mem At.mem (hSg.rd fun x hx => by simp [hx]) (hRs.mono prT qS) (by rw [hl6]; omega))) rfl ?_)
 rintro v65 M65 J65 h65 _
 haveI := h65.cel
 refine F1 hs rfl (D8 rfl) rfl ?_
 refine F1 hs rfl (qf_ 7 7) rfl ?_
 refine K2 rfl rfl rfl (F8 rfl rfl h65.one kR SetC.set UpC.upd ?_)
 refine A1Y ?_
 have hkm := hrm.kpt (fun j => (k.met[j]?.map (A7q ((tp :: k.signed).take 2))).getD false) rm.length
 rw [A3i, hrm.len, List.take_length] at hkm
 rw [hrm.len] at h65
 have htK : Z9 k s = ({ k with signed := (tp :: k.signed).take 2, next := k.next + 1, met := k.met.filter fun x => !A7q ((tp :: k.signed).take 2) x }, A4S s2 k.sign wm) := by unfold Z9 A9b; rw [htp, hpk, hps, hms]
 rw [htK]
 have hkl : (k.met.filter fun x => !A7q ((tp :: k.signed).take 2) x).length ≤ 100000 := Nat.le_trans (List.length_filter_le _ _) hn4
 refine ⟨_, (kb, blk [.int .i64 k.user, .int .i64 k.dev, va, vg, vq6, vo, .int .u32 ((k.next + 1 : Nat) : Int), v65] 127) :: (B42 ++ (Bo ++ (M65 ++ M26))), [], A2V rfl, Fit.none (Fit.pick (B := [_]) qP (Fit.pick qP (Fit.pick qP (Fit.pick qP (Fit.last qP))))), (kb, blk [.int .i64 k.user, .int .i64 k.dev, va, vg, vq6, vo, .int .u32 ((k.next + 1 : Nat) : Int), v65] 127) :: (B42 ++ (Bo ++ M65)), M26, by simp, ⟨⟨va, vg, vq6, vo, v65, _, ro, _, B42, Bo, M65, rfl, hva.mono qS, hvg.mono qS, hSg, hRs.mono prT qS, hso, hro.mono prT qS, ?_, hkm.mono nmT qS, by dsimp only; omega, by dsimp only; rw [hl6]; omega, hn3, hkl⟩⟩, hP26⟩
 rw [hkm.len] at h65
 exact h65

end Go.Proofs.YtoameenjkiaefaaGreatDoor
