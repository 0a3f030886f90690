/- Part 16 of the texts of this claim, one behind the other. -/
import Derived.Test.YtlilcmjbaknafaaGreatDoorB15
set_option linter.unusedVariables false
set_option linter.unusedSimpArgs false
set_option maxRecDepth 100000
namespace Go.Proofs.YtlilcmjbaknafaaGreatDoor
open Go.Px
def bkN (K : LN) (n : Nat) (N : LN) (q : Nat) : LN := B79 K ((n + q) % 4294967296) N
def stW (K : LN) (n : Nat) (N p : LN) : Nat → LN
  | 0 => List.replicate p.length 0
  | i + 1 => (stW K n N p i).set i (p.getD i 0 ^^^ (bkN K n N (i / 64)).getD (i % 64) 0)
def A5Q (K : LN) (n : Nat) (N p : LN) : LN := stW K n N p p.length
theorem A5R (K : LN) (n : Nat) (N p : LN) : ∀ i, (stW K n N p i).length = p.length
  | 0 => by simp [stW]
  | i + 1 => by show ((stW K n N p i).set _ _).length = _; rw [List.length_set, A5R K n N p i]
theorem Y7 (K : LN) (n : Nat) (N p : LN) : (A5Q K n N p).length = p.length := A5R _ _ _ _ _
theorem B7r (K : LN) (n : Nat) (N : LN) (q : Nat) : (bkN K n N q).length = 64 := A39 _ _ _
theorem B9k (K : LN) (n : Nat) (N : LN) (q : Nat) : ∀ x ∈ bkN K n N q, x < 256 := B1H _ _ _
theorem xor8 {a b : Nat} (ha : a < 256) (hb : b < 256) : a ^^^ b < 256 := Nat.xor_lt_two_pow (n := 8) ha hb
theorem B5A {K N p : LN} {n : Nat} (h : ∀ x ∈ p, x < 256) : ∀ i, ∀ x ∈ stW K n N p i, x < 256
  | 0 => fun x hx => by rw [show stW K n N p 0 = List.replicate p.length 0 from rfl] at hx; rw [(List.mem_replicate.1 hx).2]; decide
  | i + 1 => fun x hx => by
    rcases List.mem_or_eq_of_mem_set hx with h1 | rfl
    · exact B5A h i x h1
    · exact xor8 (A05 h i) (A05 (B9k _ _ _ _) _)
theorem B1J (K : LN) (n : Nat) (N p : LN) : ∀ i j, j < p.length → (stW K n N p i).getD j 0 = if j < i then p.getD j 0 ^^^ (bkN K n N (j / 64)).getD (j % 64) 0 else 0
  | 0, j, hj => by
    show (List.replicate p.length 0).getD j 0 = _
    rw [if_neg qO, List.getD_eq_getElem?_getD, List.getElem?_replicate, if_pos hj]; rfl
  | i + 1, j, hj => by
    show ((stW K n N p i).set i _).getD j 0 = _
    rw [List.getD_eq_getElem?_getD, List.getElem?_set, A5R]
    by_cases h : i = j
    · subst h; rw [if_pos rfl, if_pos hj, if_pos qO]; rfl
    · rw [if_neg h, ← List.getD_eq_getElem?_getD, B1J K n N p i j hj]
      by_cases h2 : j < i
      · rw [if_pos h2, if_pos qO]
      · rw [if_neg h2, if_neg qO]
theorem A8o (K : LN) (n : Nat) (N p : LN) {j : Nat} (hj : j < p.length) : (A5Q K n N p).getD j 0 = p.getD j 0 ^^^ (bkN K n N (j / 64)).getD (j % 64) 0 := by
  unfold A5Q
  rw [B1J _ _ _ _ _ _ hj, if_pos hj]
theorem A9k (K : LN) (n : Nat) (N p : LN) : A5Q K n N (A5Q K n N p) = p := by
  refine List.ext_getElem (by rw [Y7, Y7]) fun j h1 h2 => ?_
  have e : ∀ (l : LN) (h : j < l.length), l[j] = l.getD j 0 := fun l h => by rw [List.getD_eq_getElem?_getD, List.getElem?_eq_getElem h]; rfl
  rw [e _ h1, e _ h2, A8o _ _ _ _ (by rw [Y7]; exact h2), A8o _ _ _ _ h2, Nat.xor_assoc, Nat.xor_self, Nat.xor_zero]
theorem B9l {i : Nat} (h : i < 9223372036854775808) : IntKind.i64.wrap (((i : Nat) : Int).tdiv 64) = ((i / 64 : Nat) : Int) := by
  rw [show ((i : Nat) : Int).tdiv 64 = ((i / 64 : Nat) : Int) from rfl]
  unfold IntKind.wrap
  simp [IntKind.signed, IntKind.bits]
  omega
theorem B7s {n : Nat} (h : n < 4294967296) : IntKind.u32.wrap (n : Int) = (n : Int) := by
  unfold IntKind.wrap
  simp [IntKind.signed, IntKind.bits]
  omega
theorem A8p (v vn vp : Value) (kw nw p : LN) (n : Nat) (A : Mem) (hk : By A v kw) (hno : By A vn nw) (hp : By A vp p) (hn : n < 4294967296) : FnX Tryz.prog 80 [v, (vU n), vn, vp] [] A fun q M J => ∃ b, q = .slice (some ⟨b, 0, none⟩) p.length p.length ∧ M = [] ∧ By J q (A5Q (G7 kw 32) n (G7 nw 12) p) := by
 haveI := hk.cel
 haveI := hno.cel
 haveI := hp.cel
 have hpl := hp.len
 refine FnX.enterZ (N := 46) Tryz.func80 rfl rfl rfl fun w_ => ?_
 refine B4 (D7 0 1 2 3) (A1 (as_ (A0 (D7 0 1 2 3) (A1 (mv_ ?_)))))
 refine A2 (F8 (sz := 1) rfl kR hp.rd) rfl ?_
 refine A4 rfl (A0I (by_ := 1) (k := .u8) (e := 5) p.length rfl rfl kR rfl rfl qO qO rfl fun b14 => ?_)
 refine as_ (A0 (E6 0 1 2 3 9) (A1 (as_ (A0 (H5 0 1 2 3 9 10) (A3 (A1 (mv_ ?_)))))))
 refine A2 (F8 (sz := 1) rfl kR hp.rd) rfl ?_
 refine mv_ (A0 (V3 0 1 2 3 9 10 16 17) (A5 ?_))
 refine E1 (α := Nat × Value × Mem) (fun y => [(0, v), (1, (vU n)), (2, vn), (3, vp), (9, .slice (some ⟨b14, 0, none⟩) p.length p.length), (10, y.2.1), (16, (vI p.length)), (17, (vI y.1))]) (fun y => [(b14, blk (nums .u8 (stW (G7 kw 32) n (G7 nw 12) p y.1)) 5)]) (fun y => y.2.2) (fun y => y.1 ≤ p.length ∧ ∃ w, By (y.2.2 ++ A) y.2.1 w ∧ (y.1 % 64 ≠ 0 → w = bkN (G7 kw 32) n (G7 nw 12) (y.1 / 64))) (fun y => p.length - y.1) (0, vS, []) ⟨Nat.zero_le _, [], By.nil, fun h => absurd rfl h⟩ (V3 0 1 2 3 9 10 16 17) (Fit.eq rfl) qS ?_
 rintro ⟨i, vb, Jb⟩ ⟨hi, wb, hvb, hwb⟩
 dsimp only at hi hvb hwb ⊢
 haveI := hvb.cel
 have hsl := A5R (G7 kw 32) n (G7 nw 12) p i
 refine A1 ?_
 refine A2 (D9 rfl rfl rfl) rfl ?_
 refine A0 (A0j 0 1 2 3 9 10 16 17 18) (A3 ?_)
 refine C0 rfl ?_ ?_ <;> intro hc
 ·
  have hlt : i < p.length := by simp at hc; omega
  refine A7 (nx (V3 0 1 2 3 9 10 16 17) (A3 (A5 (A1 (mv_ (as_ (A0 (A0j 0 1 2 3 9 10 11 16 17) ?_)))))))
  refine Q5 (α := Value × Mem) (fun y => [(0, v), (1, (vU n)), (2, vn), (3, vp), (9, .slice (some ⟨b14, 0, none⟩) p.length p.length), (10, y.1), (11, (vI i)), (16, (vI p.length)), (17, (vI i))]) (fun y => [(b14, blk (nums .u8 (stW (G7 kw 32) n (G7 nw 12) p i)) 5)]) (fun y => y.2) (fun y => By (y.2 ++ A) y.1 (bkN (G7 kw 32) n (G7 nw 12) (i / 64))) ?_ ?_
  ·
   refine A1 (mv_ ?_)
   refine A2 (L7 (a := i) (b := 64) rfl rfl rfl rfl qD) rfl ?_
   refine A2 (D9 rfl rfl rfl) rfl ?_
   refine A0 (kq 0 (A0j 1 2 3 9 10 11 16 17 22)) ?_
   refine C0 rfl ?_ ?_ <;> intro hc
   ·
    have h0 : i % 64 = 0 := by simp at hc; omega
    refine A9 (mv_ (mv_ (mv_ ?_)))
    refine A2 (B8m ((i / 64 : Nat) : Int) rfl rfl qD (B9l qO)) rfl ?_
    refine A2 (A49 (k' := .u32) ((i / 64 : Nat) : Int) rfl kR (B7s qO)) rfl ?_
    refine A2 (G1 4294967296 rfl rfl rfl rfl rfl rfl) rfl ?_
    refine mv_ ?_
    refine C7 (aS rfl (aS rfl (aS rfl a0))) kR (B1I v vn kw nw ((n + i / 64) % 4294967296) _ (hk.mono qS) (hno.mono qS) (Nat.mod_lt _ qD)) rfl ?_
    rintro v30 M30 J30 ⟨rfl, h30⟩
    haveI := h30.cel
    refine as_ (C1 ?_)
    exact jn (v30, J30 ++ Jb) (h30.mono qS) (A0j 0 1 2 3 9 10 11 16 17) (Fit.eq rfl) (fun _ h => by simpa using h)
   ·
    have h0 : i % 64 ≠ 0 := by simp at hc; omega
    refine A7 ?_
    exact jn (vb, Jb) (hwb h0 ▸ hvb) (A0j 0 1 2 3 9 10 11 16 17) (Fit.eq rfl) qI
  ·
   rintro ⟨v2, J2⟩ hb2
   try dsimp only at hb2 ⊢
   haveI := hb2.cel
   have hbl := B7r (G7 kw 32) n (G7 nw 12) (i / 64)
   have hm := Nat.mod_lt i (by decide : 0 < 64)
   refine G3 (.range 13) (zp 0 [0, 0, 0, 0, 0, 1, 0, 0, 0, 0, 1, 0, 0, 2]) kR kR fun hs => ?_
   refine fm_ hs ?_
   refine fm_ hs ?_
   refine fm_ hs ?_
   refine fm_ hs ?_
   refine C2 hs rfl (G8 (sz := 1) (a := i) rfl rfl kR rfl hp.rd hlt) rfl ?_
   refine H2 hs rfl (A0K (k := .u8) rfl kR (hp.rd.mono qS) hlt) rfl ?_
   refine fm_ hs ?_
   refine fm_ hs ?_
   refine C2 hs rfl (L7 (a := i) (b := 64) rfl rfl rfl rfl qD) rfl ?_
   refine C2 hs rfl (G8 (sz := 1) (a := i % 64) rfl rfl kR rfl hb2.rd qO) rfl ?_
   refine H2 hs rfl (A0K (k := .u8) rfl kR (hb2.rd.mono qS) qO) rfl ?_
   refine C2 hs rfl (A9M rfl rfl (A05 hp.lt _) (A05 hb2.lt _)) rfl ?_
   refine C2 hs rfl (K9 (e := 5) (i := i) (sz := 1) rfl rfl kR kR rfl hlt) rfl ?_
   refine G2 rfl rfl rfl (I8 i rfl rfl kR qO qO UpC.upd ?_)
   refine P9 (nb (nx (V3 0 1 2 3 9 10 16 17) (A9 ?_)))
   refine A2 (D1 ((i + 1 : Nat) : Int) rfl rfl (E5 qO qO qO)) rfl ?_
   refine mv_ (C1 ?_)
   exact rn (i + 1, v2, J2) ⟨hlt, _, hb2, fun h => by rw [show (i + 1) / 64 = i / 64 by omega]⟩ (by dsimp only; omega) (V3 0 1 2 3 9 10 16 17) (Fit.eq rfl) qI
 ·
  obtain rfl : i = p.length := by simp at hc; omega
  refine D4 (te (re (be rfl (nx (D5 9) (A1 (mv_ (as_ (A0 (D5 8) ?_))))))))
  refine B0 ?_
  refine ⟨_, [], [(b14, blk (nums .u8 (stW (G7 kw 32) n (G7 nw 12) p p.length)) 5)], I4 rfl rfl, Fit.eq qM, b14, rfl, rfl, ⟨?_, B5A hp.lt _, by rw [Y7]; exact hp.len⟩⟩
  rw [Y7]
  exact Rd.whole (n := p.length) qK (by simp [nums, Y7])
theorem B4n (v vn vp : Value) (kw nw p : LN) (n : Nat) (A : Mem) (hk : By A v kw) (hno : By A vn nw) (hp : By A vp p) (hn : n < 4294967296) : FnX Tryz.prog 80 [v, (vU n), vn, vp] [] A fun q M J => M = [] ∧ By J q (A5Q (G7 kw 32) n (G7 nw 12) p) :=
  (A8p v vn vp kw nw p n A hk hno hp hn).mono fun q M J ⟨_, _, h1, h2⟩ => ⟨h1, h2⟩

structure L5 (l : LN) : Prop where
  len : l.length = 5
  lt : ∀ x ∈ l, x < 18446744073709551616
theorem L5.get {l : LN} (h : L5 l) (i : Nat) : l.getD i 0 < 18446744073709551616 := by
  rw [List.getD_eq_getElem?_getD]
  cases hq : l[i]? with
  | none => decide
  | some x => exact h.lt x (List.mem_of_getElem? hq)
theorem L5.set {l : LN} (h : L5 l) (i x : Nat) (hx : x < 18446744073709551616) : L5 (l.set i x) := ⟨by rw [List.length_set]; exact h.len, fun y hy => by rcases List.mem_or_eq_of_mem_set hy with h1 | rfl; exact h.lt y h1; exact hx⟩
def cy1 (l : LN) (c i : Nat) : LN := l.set i ((l.getD i 0 + c) % 18446744073709551616)
def cyS (a : LN) : Nat → LN × Nat
  | 0 => (a, 0)
  | i + 1 => ((cy1 (cyS a i).1 (cyS a i).2 i).set i ((cy1 (cyS a i).1 (cyS a i).2 i).getD i 0 &&& 67108863), (cy1 (cyS a i).1 (cyS a i).2 i).getD i 0 >>> 26)
def cyN (a : LN) : LN := (cyS a 5).1.set 0 (((cyS a 5).1.getD 0 0 + 5 * (cyS a 5).2 % 18446744073709551616) % 18446744073709551616)
theorem L5.c1 {l : LN} (h : L5 l) (c i : Nat) : L5 (cy1 l c i) := h.set _ _ (Nat.mod_lt _ qD)
theorem B4o (x : Nat) : x &&& 67108863 < 18446744073709551616 := Nat.lt_of_le_of_lt Nat.and_le_right qD
theorem B4p {x : Nat} (h : x < 18446744073709551616) (k : Nat) : x >>> k < 18446744073709551616 := by rw [Nat.shiftRight_eq_div_pow]; exact Nat.lt_of_le_of_lt (Nat.div_le_self _ _) h
theorem A8q {a : LN} (h : L5 a) : ∀ i, L5 (cyS a i).1 ∧ (cyS a i).2 < 18446744073709551616
  | 0 => ⟨h, (show 0 < 18446744073709551616 by decide)⟩
  | i + 1 => ⟨((A8q h i).1.c1 _ _).set _ _ (B4o _), B4p (((A8q h i).1.c1 _ _).get _) _⟩
theorem V1 {a : LN} (h : L5 a) : L5 (cyN a) := (A8q h 5).1.set _ _ (Nat.mod_lt _ qD)
theorem A4a (a : LN) (A : Mem) (ha : L5 a) : FnV Tryz.prog 128 [.agg (nums .u64 a).toArray] A (.agg (nums .u64 (cyN a)).toArray) := by
 refine FnX.enter (N := 31) Tryz.func128 rfl rfl rfl fun w => ?_
 refine B4 (D5 0) (A1 ?_)
 refine A4 rfl (bx_ fun b1 => ?_)
 refine A4 rfl (C3 (cs := [E8, E8, E8, E8, E8]) kR rfl fun b2 => ?_)
 refine A0 (D3 1 2) (A1 (as_ (A0 (D8 1 2 3) (A3 (A1 (mv_ (A0 (D7 1 2 3 5) ?_)))))))
 refine A5 ?_
 refine E1 (α := Nat) (fun i => [(1, (vP b1)), (2, (vP b2)), (3, .int .u64 (((cyS a i).2 : Nat) : Int)), (5, (vI i))]) (fun i => [(b2, blk [.int .u64 0, .int .u64 0, .int .u64 0, .int .u64 0, .int .u64 0] 152), (b1, blk (nums .u64 (cyS a i).1) 152)]) (fun _ => _) (fun i => i ≤ 5) (fun i => 5 - i) 0 (Nat.zero_le _) (D7 1 2 3 5) (Fit.eq rfl) qI ?_
 rintro i hi
 try dsimp only at hi ⊢
 obtain ⟨hok, hcl⟩ := A8q ha i
 have hk1 := hok.c1 (cyS a i).2 i
 refine A1 ?_
 refine A2 (D9 rfl rfl rfl) rfl ?_
 refine A0 (E6 1 2 3 5 6) (A3 ?_)
 refine C0 rfl ?_ ?_ <;> intro hc
 ·
  have hlt : i < 5 := by simp at hc; omega
  refine A7 (nx (D7 1 2 3 5) (A3 (A5 (A1 (mv_ (as_ (A0 (E6 1 2 3 4 5) (A1 ?_))))))))
  refine mv_ ?_
  refine A2 (D0 (e := 94) (n := 5) (sz := 1) (i := i) (i) rfl rfl kR kR rfl qO qO) rfl ?_
  refine A2 (I3 (i) rfl kR At.mem rfl (by rw [hok.len]; omega)) rfl ?_
  refine mv_ ?_
  refine A2 (G1 18446744073709551616 rfl rfl rfl rfl rfl rfl) rfl ?_
  refine A2 (D0 (e := 94) (n := 5) (sz := 1) (i := i) (i) rfl rfl kR kR rfl qO qO) rfl ?_
  refine A4 rfl (I8 (i) rfl rfl kR rfl (by rw [hok.len]; omega) UpC.upd ?_)
  change XL _ _ _ _ _ [(b2, blk [.int .u64 0, .int .u64 0, .int .u64 0, .int .u64 0, .int .u64 0] 152), (b1, blk (nums .u64 (cy1 (cyS a i).1 (cyS a i).2 i)) 152)] _
  refine A0 (D7 1 2 4 5) (A1 (mv_ ?_))
  refine A2 (D0 (e := 94) (n := 5) (sz := 1) (i := i) (i) rfl rfl kR kR rfl qO qO) rfl ?_
  refine A2 (I3 (i) rfl kR At.mem rfl (by rw [hk1.len]; omega)) rfl ?_
  refine A2 (T0 26 rfl rfl rfl qD) rfl ?_
  refine as_ (A0 (E6 1 2 3 4 5) (A9 (mv_ ?_)))
  refine A2 (D0 (e := 94) (n := 5) (sz := 1) (i := i) (i) rfl rfl kR kR rfl qO qO) rfl ?_
  refine A2 (I3 (i) rfl kR At.mem rfl (by rw [hk1.len]; omega)) rfl ?_
  refine A2 (A4q (b := 67108863) rfl rfl rfl (by show _ < 18446744073709551616; exact hk1.get _) qD) rfl ?_
  refine A2 (D0 (e := 94) (n := 5) (sz := 1) (i := i) (i) rfl rfl kR kR rfl qO qO) rfl ?_
  refine A4 rfl (I8 (i) rfl rfl kR rfl (by rw [hk1.len]; omega) UpC.upd ?_)
  refine C1 (nb (nx (D7 1 2 3 5) (A9 ?_)))
  refine A2 (D1 ((i + 1 : Nat) : Int) rfl rfl (E5 qO qO qO)) rfl ?_
  refine mv_ (C1 ?_)
  exact rn (i + 1) qO qO (D7 1 2 3 5) (Fit.eq rfl) qI
 ·
  obtain rfl : i = 5 := by simp at hc; omega
  refine D4 (te (re (be rfl (nx (D8 1 2 3) (A1 ?_)))))
  refine A2 (D0 (e := 94) (n := 5) (sz := 1) (i := 0) (0) rfl rfl kR kR rfl qO qO) rfl ?_
  refine A2 (I3 (0) rfl kR At.mem rfl (by rw [hok.len]; omega)) rfl ?_
  refine mv_ ?_
  refine A2 (N6 18446744073709551616 rfl rfl rfl rfl rfl rfl) rfl ?_
  refine A2 (G1 18446744073709551616 rfl rfl rfl rfl rfl rfl) rfl ?_
  refine A2 (D0 (e := 94) (n := 5) (sz := 1) (i := 0) (0) rfl rfl kR kR rfl qO qO) rfl ?_
  refine A4 rfl (I8 (0) rfl rfl kR rfl (by rw [hok.len]; omega) UpC.upd ?_)
  refine A0 (D3 1 2) ?_
  refine A1S (M' := [(b2, blk [.int .u64 0, .int .u64 0, .int .u64 0, .int .u64 0, .int .u64 0] 152), (b1, blk (nums .u64 (cyN a)) 152)]) (Fit.eq rfl) qI ?_
  refine A1 ?_
  refine A2 (L8 (n := 5) (cs := nums .u64 (cyN a)) rfl kR At.mem (by rw [nums_len]; exact (V1 ha).len)) rfl ?_
  refine A4 rfl (A8 (vs := nums .u64 (cyN a)) rfl rfl rfl (by rw [nums_len, (V1 ha).len]; kernel_rfl) (by rw [nums_len, (V1 ha).len]; rfl) F3 UpC.upd ?_)
  refine A0 (D5 2) (B0 ?_)
  exact ⟨_, [], [], A4l (n := 5) rfl rfl kR At.mem (by rw [nums_len, (V1 ha).len]), List.nil_sublist _, by simp, rfl, rfl, rfl⟩

def xI (p : LN) (i : Nat) : Nat := p.getD i 0 <<< (8 * i % 26) % 18446744073709551616
def pt1 (S : LN) (x k : Nat) : LN := S.set k ((S.getD k 0 + (x &&& 67108863)) % 18446744073709551616)
def pt2 (S : LN) (x k : Nat) : LN := if k < 4 then S.set (k + 1) ((S.getD (k + 1) 0 + x >>> 26) % 18446744073709551616) else S
def ptS (p : LN) : Nat → LN
  | 0 => [0, 0, 0, 0, 0]
  | i + 1 => pt2 (pt1 (ptS p i) (xI p i) (8 * i / 26)) (xI p i) (8 * i / 26)
def ptN (p : LN) : LN := ptS p p.length
theorem B7t {p : LN} {i : Nat} (h : 8 * i / 26 < 4) : ptS p (i + 1) = (pt1 (ptS p i) (xI p i) (8 * i / 26)).set (8 * i / 26 + 1) (((pt1 (ptS p i) (xI p i) (8 * i / 26)).getD (8 * i / 26 + 1) 0 + xI p i >>> 26) % 18446744073709551616) := if_pos h
theorem B9m {p : LN} {i : Nat} (h : ¬ 8 * i / 26 < 4) : ptS p (i + 1) = pt1 (ptS p i) (xI p i) (8 * i / 26) := if_neg h
theorem L5.p1 {S : LN} (h : L5 S) (x k : Nat) : L5 (pt1 S x k) := h.set _ _ (Nat.mod_lt _ qD)
theorem L5.p2 {S : LN} (h : L5 S) (x k : Nat) : L5 (pt2 S x k) := by
  unfold pt2
  split
  · exact h.set _ _ (Nat.mod_lt _ qD)
  · exact h
theorem L5.z : L5 [0, 0, 0, 0, 0] := ⟨rfl, by decide⟩
theorem B1K (p : LN) : ∀ i, L5 (ptS p i)
  | 0 => L5.z
  | i + 1 => ((B1K p i).p1 _ _).p2 _ _
theorem A2i (p : LN) : L5 (ptN p) := B1K p _
theorem C0P (p : LN) (i : Nat) : xI p i < 18446744073709551616 := Nat.mod_lt _ qD
theorem B1L (v : Value) (p : LN) (A : Mem) (hp : By A v p) (hl : p.length ≤ 17) : FnV Tryz.prog 114 [v] A (.agg (nums .u64 (ptN p)).toArray) := by
 haveI := hp.cel
 refine FnX.enter (N := 43) Tryz.func114 rfl rfl rfl fun w => ?_
 refine B4 (D5 0) (A1 ?_)
 refine A4 rfl (C3 (cs := [E8, E8, E8, E8, E8]) kR rfl fun b2 => ?_)
 refine A0 (D3 0 2) (A1 ?_)
 refine A4 rfl (C3 (cs := [E8, E8, E8, E8, E8]) kR rfl fun b3 => ?_)
 refine A0 (D8 0 2 3) (A3 (A1 (mv_ ?_)))
 refine A2 (F8 (sz := 1) rfl kR hp.rd) rfl ?_
 refine mv_ (A0 (E6 2 3 8 9 10) (A5 ?_))
 refine E1 (α := Nat) (fun i => [(2, (vP b2)), (3, (vP b3)), (8, v), (9, (vI p.length)), (10, (vI i))]) (fun i => [(b3, blk (nums .u64 (ptS p i)) 152), (b2, blk [.int .u64 0, .int .u64 0, .int .u64 0, .int .u64 0, .int .u64 0] 152)]) (fun _ => _) (fun i => i ≤ p.length) (fun i => p.length - i) 0 (Nat.zero_le _) (E6 2 3 8 9 10) (Fit.eq rfl) qI ?_
 rintro i hi
 try dsimp only at hi ⊢
 have hok := B1K p i
 have hk1 := hok.p1 (xI p i) (8 * i / 26)
 refine A1 ?_
 refine A2 (D9 rfl rfl rfl) rfl ?_
 refine A0 (H5 2 3 8 9 10 11) (A3 ?_)
 refine C0 rfl ?_ ?_ <;> intro hc
 ·
  have hlt : i < p.length := by simp at hc; omega
  have hk5 : 8 * i / 26 < 5 := by omega
  refine A7 (nx (E6 2 3 8 9 10) ?_)
  refine Q5 (α := Unit) (fun _ => [(2, (vP b2)), (3, (vP b3)), (8, v), (9, (vI p.length)), (10, (vI i))]) (fun _ => [(b3, blk (nums .u64 (ptS p (i + 1))) 152), (b2, blk [.int .u64 0, .int .u64 0, .int .u64 0, .int .u64 0, .int .u64 0] 152)]) (fun _ => []) (fun _ => True) ?_ ?_
  ·
   refine A5 (A1 (mv_ ?_))
   refine A2 (G8 (sz := 1) (a := i) rfl rfl kR rfl hp.rd hlt) rfl ?_
   refine A2 (A0K (k := .u8) rfl kR (hp.rd.mono qS) hlt) rfl ?_
   refine as_ (as_ (A0 (S9 2 3 4 5 8 9 10) ?_))
   refine D2 (.range 11) (zp 0 [0, 0, 0, 0, 0, 0, 0, 0, 0, 0, 0]) kR kR fun hs => ?_
   refine fm_ hs ?_
   refine C2 hs rfl (D1 ((8 * i : Nat) : Int) rfl rfl (A1W qO qO qO)) rfl ?_
   refine C2 hs rfl (B4R (a := 8 * i) (b := 26) rfl rfl rfl rfl qD qO) rfl ?_
   refine fm_ hs ?_
   refine C2 hs rfl (Z5 (k' := .u64) rfl kR (by show _ < 9223372036854775808; have := A05 hp.lt i; omega)) rfl ?_
   refine fm_ hs ?_
   refine C2 hs rfl (D1 ((8 * i : Nat) : Int) rfl rfl (A1W qO qO qO)) rfl ?_
   refine C2 hs rfl (L7 (a := 8 * i) (b := 26) rfl rfl rfl rfl qD) rfl ?_
   refine C2 hs rfl (A2E rfl (8 * i % 26) rfl rfl rfl (by show _ ≤ 64; omega)) rfl ?_
   refine fa_ hs ?_
   refine fa_ hs ?_
   refine E9 (S9 2 3 6 7 8 9 10) (A1 (mv_ ?_))
   refine A2 (D0 (e := 94) (n := 5) (sz := 1) (i := 8 * i / 26) (8 * i / 26) rfl rfl kR kR rfl qO qO) rfl ?_
   refine A2 (I3 (8 * i / 26) rfl kR At.mem rfl (by rw [hok.len]; omega)) rfl ?_
   refine mv_ ?_
   refine A2 (A4q (a := xI p i) (b := 67108863) rfl rfl rfl (C0P p i) qD) rfl ?_
   refine A2 (G1 18446744073709551616 rfl rfl rfl rfl rfl rfl) rfl ?_
   refine A2 (D0 (e := 94) (n := 5) (sz := 1) (i := 8 * i / 26) (8 * i / 26) rfl rfl kR kR rfl qO qO) rfl ?_
   refine A4 rfl (I8 (8 * i / 26) rfl rfl kR rfl (by rw [hok.len]; omega) UpC.upd ?_)
   refine A0 (S9 2 3 6 7 8 9 10) (A1 (mv_ ?_))
   refine A2 (D9 rfl rfl rfl) rfl ?_
   refine A0 (V3 2 3 6 7 8 9 10 32) ?_
   refine C0 rfl ?_ ?_ <;> intro hc
   ·
    have h4 : 8 * i / 26 < 4 := by simp at hc; omega
    refine A9 (mv_ ?_)
    refine A2 (D1 ((8 * i / 26 + 1 : Nat) : Int) rfl rfl (E5 qO qO qO)) rfl ?_
    refine A2 (D0 (e := 94) (n := 5) (sz := 1) (i := 8 * i / 26 + 1) (8 * i / 26 + 1) rfl rfl kR kR rfl qO qO) rfl ?_
    refine A2 (I3 (8 * i / 26 + 1) rfl kR At.mem rfl (by have h := hk1.len; unfold pt1 at h; omega)) rfl ?_
    refine mv_ ?_
    refine A2 (T0 (a := xI p i) 26 rfl rfl rfl qD) rfl ?_
    refine A2 (G1 18446744073709551616 rfl rfl rfl rfl rfl rfl) rfl ?_
    refine A2 (D0 (e := 94) (n := 5) (sz := 1) (i := 8 * i / 26 + 1) (8 * i / 26 + 1) rfl rfl kR kR rfl qO qO) rfl ?_
    refine A4 rfl (I8 (8 * i / 26 + 1) rfl rfl kR rfl (by have h := hk1.len; unfold pt1 at h; omega) UpC.upd ?_)
    refine C1 (nb ?_)
    exact jn () trivial (E6 2 3 8 9 10) (Fit.eq (by rw [B7t h4]; rfl)) qI
   ·
    have h4 : ¬ 8 * i / 26 < 4 := by simp at hc; omega
    refine A7 (nb ?_)
    exact jn () trivial (E6 2 3 8 9 10) (Fit.eq (by rw [B9m h4]; rfl)) qI
  ·
   rintro _ -
   refine A9 ?_
   refine A2 (D1 ((i + 1 : Nat) : Int) rfl rfl (E5 qO qO qO)) rfl ?_
   refine mv_ (C1 ?_)
   exact rn (i + 1) hlt qO (E6 2 3 8 9 10) (Fit.eq rfl) qI
 ·
  obtain rfl : i = p.length := by simp at hc; omega
  refine D4 (te (re (be rfl (nx (D3 2 3) (A1 ?_)))))
  refine A2 (L8 (n := 5) (cs := nums .u64 (ptS p p.length)) rfl kR At.mem (by rw [nums_len]; exact (A2i p).len)) rfl ?_
  refine A4 rfl (A8 (vs := nums .u64 (ptN p)) rfl rfl rfl (by rw [nums_len, (A2i p).len]; kernel_rfl) (by rw [nums_len, (A2i p).len]; rfl) F3 UpC.upd ?_)
  refine A0 (D5 2) (B0 ?_)
  exact ⟨_, [], [], A4l (n := 5) rfl rfl kR At.mem (by rw [nums_len, (A2i p).len]), List.nil_sublist _, by simp, rfl, rfl, rfl⟩

def ml1 (S : LN) (x y i k : Nat) : LN :=
  if i + k < 5 then S.set (i + k) ((S.getD (i + k) 0 + x * y % 18446744073709551616) % 18446744073709551616)
  else S.set (i + k - 5) ((S.getD (i + k - 5) 0 + 5 * x % 18446744073709551616 * y % 18446744073709551616) % 18446744073709551616)
def mlK (a b : LN) (i : Nat) (S : LN) : Nat → LN
  | 0 => S
  | k + 1 => ml1 (mlK a b i S k) (a.getD i 0) (b.getD k 0) i k
def mlI (a b : LN) : Nat → LN
  | 0 => [0, 0, 0, 0, 0]
  | i + 1 => mlK a b i (mlI a b i) 5
def A4x (a b : LN) : LN := cyN (cyN (mlI a b 5))
theorem L5.m1 {S : LN} (h : L5 S) (x y i k : Nat) : L5 (ml1 S x y i k) := by
  unfold ml1
  split <;> exact h.set _ _ (Nat.mod_lt _ qD)
theorem B1M {a b S : LN} {i : Nat} (h : L5 S) : ∀ k, L5 (mlK a b i S k)
  | 0 => h
  | k + 1 => (B1M h k).m1 _ _ _ _
theorem A40 (a b : LN) : ∀ i, L5 (mlI a b i)
  | 0 => L5.z
  | i + 1 => B1M (A40 a b i) 5
theorem A1u (a b : LN) : L5 (A4x a b) := V1 (V1 (A40 a b 5))
theorem B7u {a b S : LN} {i k : Nat} (h : i + k < 5) : mlK a b i S (k + 1) = (mlK a b i S k).set (i + k) (((mlK a b i S k).getD (i + k) 0 + a.getD i 0 * b.getD k 0 % 18446744073709551616) % 18446744073709551616) := if_pos h
theorem B9n {a b S : LN} {i k : Nat} (h : ¬ i + k < 5) : mlK a b i S (k + 1) = (mlK a b i S k).set (i + k - 5) (((mlK a b i S k).getD (i + k - 5) 0 + 5 * a.getD i 0 % 18446744073709551616 * b.getD k 0 % 18446744073709551616) % 18446744073709551616) := if_neg h
theorem B7v (a b : LN) (A : Mem) (ha : L5 a) (hb : L5 b) : FnV Tryz.prog 115 [.agg (nums .u64 a).toArray, .agg (nums .u64 b).toArray] A (.agg (nums .u64 (A4x a b)).toArray) := by
 refine FnX.enter (N := 51) Tryz.func115 rfl rfl rfl fun w => ?_
 refine B4 (D3 0 1) (A1 ?_)
 refine A4 rfl (bx_ fun b2 => ?_)
 refine A4 rfl (bx_ fun b3 => ?_)
 refine A4 rfl (C3 (cs := [E8, E8, E8, E8, E8]) kR rfl fun b4 => ?_)
 refine A0 (D8 2 3 4) (A1 ?_)
 refine A4 rfl (C3 (cs := [E8, E8, E8, E8, E8]) kR rfl fun b5 => ?_)
 refine A0 (D7 2 3 4 5) (A3 (A1 ?_))
 refine A2 (L8 (n := 5) (cs := nums .u64 a) rfl kR At.mem (by rw [nums_len]; exact ha.len)) rfl ?_
 refine mv_ (A0 (E6 3 4 5 10 11) (A5 ?_))
 refine E1 (α := Nat) (fun i => [(3, (vP b3)), (4, (vP b4)), (5, (vP b5)), (10, .agg (nums .u64 a).toArray), (11, (vI i))]) (fun i => [(b5, blk (nums .u64 (mlI a b i)) 152), (b4, blk [.int .u64 0, .int .u64 0, .int .u64 0, .int .u64 0, .int .u64 0] 152), (b3, blk (nums .u64 b) 152), (b2, blk (nums .u64 a) 152)]) (fun _ => _) (fun i => i ≤ 5) (fun i => 5 - i) 0 (Nat.zero_le _) (E6 3 4 5 10 11) (Fit.eq rfl) qI ?_
 rintro i hi
 try dsimp only at hi ⊢
 have hok := A40 a b i
 refine A1 ?_
 refine A2 (D9 rfl rfl rfl) rfl ?_
 refine A0 (H5 3 4 5 10 11 12) (A3 ?_)
 refine C0 rfl ?_ ?_ <;> intro hc
 ·
  have hlt : i < 5 := by simp at hc; omega
  refine A7 (nx (E6 3 4 5 10 11) (A3 (A5 (A1 (mv_ ?_)))))
  refine A2 (A5f (m := 5) (e := 94) (j := i) (cs := nums .u64 a) (u := .int .u64 ((a.getD i 0 : Nat) : Int)) rfl rfl kR kR kR rfl qO (P7 (by rw [ha.len]; omega))) rfl ?_
  refine as_ (as_ (A0 (S9 3 4 5 6 7 10 11) (A1 ?_)))
  refine A2 (L8 (n := 5) (cs := nums .u64 b) rfl kR At.mem (by rw [nums_len]; exact hb.len)) rfl ?_
  refine mv_ (A0 (A0j 3 4 5 6 7 10 11 15 16) (A5 ?_))
  refine E1 (α := Nat) (fun k => [(3, (vP b3)), (4, (vP b4)), (5, (vP b5)), (10, .agg (nums .u64 a).toArray), (11, (vI i)), (6, (vI i)), (7, .int .u64 ((a.getD i 0 : Nat) : Int)), (15, .agg (nums .u64 b).toArray), (16, (vI k))]) (fun k => [(b5, blk (nums .u64 (mlK a b i (mlI a b i) k)) 152), (b4, blk [.int .u64 0, .int .u64 0, .int .u64 0, .int .u64 0, .int .u64 0] 152), (b3, blk (nums .u64 b) 152), (b2, blk (nums .u64 a) 152)]) (fun _ => _) (fun k => k ≤ 5) (fun k => 5 - k) 0 (Nat.zero_le _) (A0j 3 4 5 10 11 6 7 15 16) (Fit.eq rfl) qI ?_
  rintro k hk
  try dsimp only at hk ⊢
  have hok2 := B1M (a := a) (b := b) (i := i) hok k
  refine A1 ?_
  refine A2 (D9 rfl rfl rfl) rfl ?_
  refine A0 (kq 3 (A0j 4 5 6 7 10 11 15 16 17)) (A3 ?_)
  refine C0 rfl ?_ ?_ <;> intro hc
  ·
   have hlt2 : k < 5 := by simp at hc; omega
   refine A7 (nx (A0j 3 4 5 6 7 10 11 15 16) ?_)
   refine Q5 (α := Unit) (fun _ => [(3, (vP b3)), (4, (vP b4)), (5, (vP b5)), (10, .agg (nums .u64 a).toArray), (11, (vI i)), (6, (vI i)), (7, .int .u64 ((a.getD i 0 : Nat) : Int)), (15, .agg (nums .u64 b).toArray), (16, (vI k)), (8, (vI k)), (9, .int .u64 ((b.getD k 0 : Nat) : Int))]) (fun _ => [(b5, blk (nums .u64 (mlK a b i (mlI a b i) (k + 1))) 152), (b4, blk [.int .u64 0, .int .u64 0, .int .u64 0, .int .u64 0, .int .u64 0] 152), (b3, blk (nums .u64 b) 152), (b2, blk (nums .u64 a) 152)]) (fun _ => []) (fun _ => True) ?_ ?_
   ·
    refine A5 (A1 (mv_ ?_))
    refine A2 (A5f (m := 5) (e := 94) (j := k) (cs := nums .u64 b) (u := .int .u64 ((b.getD k 0 : Nat) : Int)) rfl rfl kR kR kR rfl qO (P7 (by rw [hb.len]; omega))) rfl ?_
    refine as_ (as_ ?_)
    refine A0 (kq 3 (kq 4 (A0j 5 6 7 8 9 10 11 15 16))) ?_
    refine A1 (mv_ (mv_ ?_))
    refine A2 (D1 ((i + k : Nat) : Int) rfl rfl (E5 qO qO qO)) rfl ?_
    refine A2 (D9 rfl rfl rfl) rfl ?_
    refine A0 (kq 3 (kq 4 (kq 5 (A0j 6 7 8 9 10 11 15 16 23)))) ?_
    refine C0 rfl ?_ ?_ <;> intro hc
    ·
     have h5 : i + k < 5 := by simp at hc; omega
     refine A9 (mv_ (mv_ ?_))
     refine A2 (D1 ((i + k : Nat) : Int) rfl rfl (E5 qO qO qO)) rfl ?_
     refine A2 (D0 (e := 94) (n := 5) (sz := 1) (i := i + k) (i + k) rfl rfl kR kR rfl qO qO) rfl ?_
     refine A2 (I3 (i + k) rfl kR At.mem rfl (by rw [hok2.len]; omega)) rfl ?_
     refine mv_ (mv_ ?_)
     refine A2 (N6 18446744073709551616 rfl rfl rfl rfl rfl rfl) rfl ?_
     refine A2 (G1 18446744073709551616 rfl rfl rfl rfl rfl rfl) rfl ?_
     refine A2 (D0 (e := 94) (n := 5) (sz := 1) (i := i + k) (i + k) rfl rfl kR kR rfl qO qO) rfl ?_
     refine A4 rfl (I8 (i + k) rfl rfl kR rfl (by rw [hok2.len]; omega) UpC.upd ?_)
     refine C1 (nb ?_)
     exact jn () trivial (kq 3 (kq 4 (A0j 5 10 11 6 7 15 16 8 9))) (Fit.eq (by rw [B7u h5])) qI
    ·
     have h5 : ¬ i + k < 5 := by simp at hc; omega
     refine A9 (mv_ (mv_ ?_))
     refine A2 (D1 ((i + k : Nat) : Int) rfl rfl (E5 qO qO qO)) rfl ?_
     refine A2 (D1 ((i + k - 5 : Nat) : Int) rfl rfl (A0q qO qO qO)) rfl ?_
     refine A2 (D0 (e := 94) (n := 5) (sz := 1) (i := i + k - 5) (i + k - 5) rfl rfl kR kR rfl qO qO) rfl ?_
     refine A2 (I3 (i + k - 5) rfl kR At.mem rfl (by rw [hok2.len]; omega)) rfl ?_
     refine mv_ ?_
     refine A2 (N6 18446744073709551616 rfl rfl rfl rfl rfl rfl) rfl ?_
     refine mv_ ?_
     refine A2 (N6 18446744073709551616 rfl rfl rfl rfl rfl rfl) rfl ?_
     refine A2 (G1 18446744073709551616 rfl rfl rfl rfl rfl rfl) rfl ?_
     refine A2 (D0 (e := 94) (n := 5) (sz := 1) (i := i + k - 5) (i + k - 5) rfl rfl kR kR rfl qO qO) rfl ?_
     refine A4 rfl (I8 (i + k - 5) rfl rfl kR rfl (by rw [hok2.len]; omega) UpC.upd ?_)
     refine C1 (nb ?_)
     exact jn () trivial (kq 3 (kq 4 (A0j 5 10 11 6 7 15 16 8 9))) (Fit.eq (by rw [B9n h5])) qI
   ·
    rintro _ -
    refine A9 ?_
    refine A2 (D1 ((k + 1 : Nat) : Int) rfl rfl (E5 qO qO qO)) rfl ?_
    refine mv_ (C1 ?_)
    exact rn (k + 1) hlt2 qO (A0j 3 4 5 10 11 6 7 15 16) (Fit.eq rfl) qI
  ·
   obtain rfl : k = 5 := by simp at hc; omega
   refine D4 (te (re (be rfl (nb (nx (E6 3 4 5 10 11) (A9 ?_))))))
   refine A2 (D1 ((i + 1 : Nat) : Int) rfl rfl (E5 qO qO qO)) rfl ?_
   refine mv_ (C1 ?_)
   exact rn (i + 1) hlt qO (E6 3 4 5 10 11) (Fit.eq rfl) qI
 ·
  obtain rfl : i = 5 := by simp at hc; omega
  refine D4 (te (re (be rfl (nx (D3 4 5) (A1 ?_)))))
  refine A2 (L8 (n := 5) (cs := nums .u64 (mlI a b 5)) rfl kR At.mem (by rw [nums_len]; exact (A40 a b 5).len)) rfl ?_
  refine F0 (aS rfl a0) kR (A4a (mlI a b 5) _ (A40 a b 5)) rfl ?_
  refine F0 (aS rfl a0) kR (A4a (cyN (mlI a b 5)) _ (V1 (A40 a b 5))) rfl ?_
  refine A4 rfl (A8 (vs := nums .u64 (A4x a b)) rfl rfl rfl (by rw [nums_len, (A1u a b).len]; kernel_rfl) (by rw [nums_len, (A1u a b).len]; rfl) F3 UpC.upd ?_)
  refine A0 (D5 4) (B0 ?_)
  exact ⟨_, [], [], A4l (n := 5) rfl rfl kR At.mem (by rw [nums_len, (A1u a b).len]), List.nil_sublist _, by simp, rfl, rfl, rfl⟩

def em1 (S : LN) (i : Nat) : LN := S.set (i + 1) ((S.getD (i + 1) 0 + S.getD i 0 >>> 26) % 18446744073709551616)
def emS (a : LN) : Nat → LN
  | 0 => a.set 0 ((a.getD 0 0 + 5) % 18446744073709551616)
  | i + 1 => (em1 (emS a i) i).set i ((em1 (emS a i) i).getD i 0 &&& 67108863)
def enF (a : LN) : LN := if 0 < (emS a 4).getD 4 0 >>> 26 then (emS a 4).set 4 ((emS a 4).getD 4 0 &&& 67108863) else a
def exN (f : LN) (i : Nat) : Nat := if 8 * i / 26 < 4 then f.getD (8 * i / 26) 0 >>> (8 * i % 26) ||| f.getD (8 * i / 26 + 1) 0 <<< (26 - 8 * i % 26) % 18446744073709551616 else f.getD (8 * i / 26) 0 >>> (8 * i % 26)
def ecN (f o : LN) (c i : Nat) : Nat := (c + ((exN f i &&& 255) + o.getD i 0) % 18446744073709551616) % 18446744073709551616
def eoS (f o : LN) : Nat → LN × Nat
  | 0 => (List.replicate 16 0, 0)
  | i + 1 => ((eoS f o i).1.set i (ecN f o (eoS f o i).2 i % 256), ecN f o (eoS f o i).2 i >>> 8)
def B9V (a o : LN) : LN := (eoS (enF (cyN (cyN (cyN a)))) o 16).1
theorem L5.e1 {S : LN} (h : L5 S) (i : Nat) : L5 (em1 S i) := h.set _ _ (Nat.mod_lt _ qD)
theorem B1N {a : LN} (h : L5 a) : ∀ i, L5 (emS a i)
  | 0 => h.set _ _ (Nat.mod_lt _ qD)
  | i + 1 => ((B1N h i).e1 i).set _ _ (B4o _)
theorem B9o {a : LN} (h : L5 a) : L5 (enF a) := by
  unfold enF
  split
  · exact (B1N h 4).set _ _ (B4o _)
  · exact h
theorem A2z (f o : LN) : ∀ i, (eoS f o i).1.length = 16
  | 0 => by simp [eoS]
  | i + 1 => by show ((eoS f o i).1.set _ _).length = _; rw [List.length_set, A2z f o i]
theorem B5B (f o : LN) : ∀ i, ∀ x ∈ (eoS f o i).1, x < 256
  | 0 => fun x hx => by rw [show (eoS f o 0).1 = List.replicate 16 0 from rfl] at hx; rw [(List.mem_replicate.1 hx).2]; decide
  | i + 1 => fun x hx => by
    rcases List.mem_or_eq_of_mem_set hx with h1 | rfl
    · exact B5B f o i x h1
    · exact Nat.mod_lt _ qD
theorem B4q (a o : LN) : (B9V a o).length = 16 := A2z _ _ _
theorem C0Q (a o : LN) (v : Value) (A : Mem) (ha : L5 a) (ho : By A v o) (hol : o.length = 16) : FnX Tryz.prog 116 [.agg (nums .u64 a).toArray, v] [] A fun q M J => M = [] ∧ By J q (B9V a o) := by
 haveI := ho.cel
 refine FnX.enterZ (N := 97) Tryz.func116 rfl rfl rfl fun w_ => ?_
 refine B4 (D3 0 1) (A1 ?_)
 refine A4 rfl (bx_ fun b2 => ?_)
 refine as_ (A0 (D3 1 2) (A1 ?_))
 refine A2 (L8 (n := 5) (cs := nums .u64 a) rfl kR At.mem (by rw [nums_len]; exact ha.len)) rfl ?_
 refine F0 (aS rfl a0) kR (A4a a _ ha) rfl ?_
 refine F0 (aS rfl a0) kR (A4a (cyN a) _ (V1 ha)) rfl ?_
 refine F0 (aS rfl a0) kR (A4a (cyN (cyN a)) _ (V1 (V1 ha))) rfl ?_
 refine A4 rfl (A8 (vs := nums .u64 (cyN (cyN (cyN a)))) rfl rfl rfl (by rw [nums_len, (V1 (V1 (V1 ha))).len]; kernel_rfl) (by rw [nums_len, nums_len, ha.len, (V1 (V1 (V1 ha))).len]) F3 UpC.upd ?_)
 refine A0 (D3 1 2) ?_
 unfold B9V
 obtain ⟨e, he⟩ : ∃ z, cyN (cyN (cyN a)) = z := ⟨_, rfl⟩
 have hok := V1 (V1 (V1 ha))
 rw [he] at hok ⊢
 refine A1 ?_
 refine A2 (L8 (n := 5) (cs := nums .u64 e) rfl kR At.mem (by rw [nums_len]; exact hok.len)) rfl ?_
 refine A4 rfl (C3 (cs := [E8, E8, E8, E8, E8]) kR rfl fun b5 => ?_)
 refine A4 rfl (A8 (vs := nums .u64 e) rfl rfl rfl (by rw [nums_len, hok.len]; kernel_rfl) (by rw [nums_len, hok.len]; rfl) F3 UpC.upd ?_)
 refine A0 (D8 1 2 5) (A1 ?_)
 refine A2 (D0 (e := 94) (n := 5) (sz := 1) (i := 0) (0) rfl rfl kR kR rfl qO qO) rfl ?_
 refine A2 (I3 (0) rfl kR At.mem rfl (by rw [hok.len]; omega)) rfl ?_
 refine A2 (G1 18446744073709551616 (b := 5) rfl rfl rfl rfl rfl rfl) rfl ?_
 refine A2 (D0 (e := 94) (n := 5) (sz := 1) (i := 0) (0) rfl rfl kR kR rfl qO qO) rfl ?_
 refine A4 rfl (I8 (0) rfl rfl kR rfl (by rw [hok.len]; omega) UpC.upd ?_)
 refine A0 (D8 1 2 5) (A3 (A1 (mv_ (A0 (D7 1 2 5 21) (A5 ?_)))))
 refine E1 (α := Nat) (fun i => [(1, v), (2, (vP b2)), (5, (vP b5)), (21, (vI i))]) (fun i => [(b5, blk (nums .u64 (emS e i)) 152), (b2, blk (nums .u64 e) 152)]) (fun _ => _) (fun i => i ≤ 4) (fun i => 4 - i) 0 (Nat.zero_le _) (D7 1 2 5 21) (Fit.eq rfl) qI ?_
 rintro i hi
 try dsimp only at hi ⊢
 have hm := B1N hok i
 have hm1 := hm.e1 i
 refine A1 ?_
 refine A2 (D9 rfl rfl rfl) rfl ?_
 refine A0 (E6 1 2 5 21 22) (A3 ?_)
 refine C0 rfl ?_ ?_ <;> intro hc
 ·
  have hlt : i < 4 := by simp at hc; omega
  refine A7 (nx (D7 1 2 5 21) (A3 (A5 (A1 (mv_ (as_ (A0 (E6 1 2 5 6 21) ?_)))))))
  refine D2 (.range 10) (zp 0 [0, 0, 0, 1, 0, 0, 1, 0, 0, 0, 2]) kR kR fun hs => ?_
  refine fm_ hs ?_
  refine C2 hs rfl (D1 ((i + 1 : Nat) : Int) rfl rfl (E5 qO qO qO)) rfl ?_
  refine C2 hs rfl (D0 (e := 94) (n := 5) (sz := 1) (i := i + 1) (i + 1) rfl rfl kR kR rfl qO qO) rfl ?_
  refine H2 hs rfl (I3 (i + 1) rfl kR At.mem rfl (by rw [hm.len]; omega)) rfl ?_
  refine fm_ hs ?_
  refine C2 hs rfl (D0 (e := 94) (n := 5) (sz := 1) (i := i) (i) rfl rfl kR kR rfl qO qO) rfl ?_
  refine H2 hs rfl (I3 (i) rfl kR At.mem rfl (by rw [hm.len]; omega)) rfl ?_
  refine C2 hs rfl (T0 26 rfl rfl rfl qD) rfl ?_
  refine C2 hs rfl (G1 18446744073709551616 rfl rfl rfl rfl rfl rfl) rfl ?_
  refine C2 hs rfl (D0 (e := 94) (n := 5) (sz := 1) (i := i + 1) (i + 1) rfl rfl kR kR rfl qO qO) rfl ?_
  refine G2 rfl rfl rfl (I8 (i + 1) rfl rfl kR rfl (by rw [hm.len]; omega) UpC.upd ?_)
  refine E9 (E6 1 2 5 6 21) (A9 (mv_ ?_))
  refine A2 (D0 (e := 94) (n := 5) (sz := 1) (i := i) (i) rfl rfl kR kR rfl qO qO) rfl ?_
  refine A2 (I3 (i) rfl kR At.mem rfl (by have h := hm1.len; unfold em1 at h; omega)) rfl ?_
  refine A2 (A4q (b := 67108863) rfl rfl rfl (by show _ < 18446744073709551616; exact hm1.get _) qD) rfl ?_
  refine A2 (D0 (e := 94) (n := 5) (sz := 1) (i := i) (i) rfl rfl kR kR rfl qO qO) rfl ?_
  refine A4 rfl (I8 (i) rfl rfl kR rfl (by have h := hm1.len; unfold em1 at h; omega) UpC.upd ?_)
  refine C1 (nb (nx (D7 1 2 5 21) (A9 ?_)))
  refine A2 (D1 ((i + 1 : Nat) : Int) rfl rfl (E5 qO qO qO)) rfl ?_
  refine mv_ (C1 ?_)
  exact rn (i + 1) qO qO (D7 1 2 5 21) (Fit.eq rfl) qI
 ·
  obtain rfl : i = 4 := by simp at hc; omega
  refine D4 (te (re (be rfl (nx (D8 1 2 5) ?_))))
  refine Q5 (α := LN) (fun _ => [(1, v), (2, (vP b2))]) (fun S => [(b5, blk (nums .u64 S) 152), (b2, blk (nums .u64 (enF e)) 152)]) (fun _ => []) (fun _ => True) ?_ ?_
  ·
   refine A1 ?_
   refine A2 (D0 (e := 94) (n := 5) (sz := 1) (i := 4) (4) rfl rfl kR kR rfl qO qO) rfl ?_
   refine A2 (I3 (4) rfl kR At.mem rfl (by rw [hm.len]; omega)) rfl ?_
   refine A2 (T0 26 rfl rfl rfl qD) rfl ?_
   refine A2 (D9 rfl rfl rfl) rfl ?_
   refine A0 (D7 1 2 5 43) ?_
   refine C0 rfl ?_ ?_ <;> intro hc
   ·
    have h0 : 0 < (emS e 4).getD 4 0 >>> 26 := by have := of_decide_eq_true hc; omega
    refine A1 ?_
    refine A2 (D0 (e := 94) (n := 5) (sz := 1) (i := 4) (4) rfl rfl kR kR rfl qO qO) rfl ?_
    refine A2 (I3 (4) rfl kR At.mem rfl (by rw [hm.len]; omega)) rfl ?_
    refine A2 (A4q (b := 67108863) rfl rfl rfl (by show _ < 18446744073709551616; exact hm.get _) qD) rfl ?_
    refine A2 (D0 (e := 94) (n := 5) (sz := 1) (i := 4) (4) rfl rfl kR kR rfl qO qO) rfl ?_
    refine A4 rfl (I8 (4) rfl rfl kR rfl (by rw [hm.len]; omega) UpC.upd ?_)
    refine A0 (D8 1 2 5) ?_
    have hm2 := hm.set 4 ((emS e 4).getD 4 0 &&& 67108863) (B4o _)
    refine A9 ?_
    refine A2 (L8 (n := 5) (cs := nums .u64 ((emS e 4).set 4 ((emS e 4).getD 4 0 &&& 67108863))) rfl kR At.mem (by rw [nums_len]; exact hm2.len)) rfl ?_
    refine A4 rfl (A8 (vs := nums .u64 ((emS e 4).set 4 ((emS e 4).getD 4 0 &&& 67108863))) rfl rfl rfl (by rw [nums_len, hm2.len]; kernel_rfl) (by rw [nums_len, nums_len, hok.len, hm2.len]) F3 UpC.upd ?_)
    refine C1 ?_
    exact jn ((emS e 4).set 4 ((emS e 4).getD 4 0 &&& 67108863)) trivial (D3 1 2) (Fit.eq (by rw [show enF e = _ from if_pos h0])) qI
   ·
    have h0 : ¬ 0 < (emS e 4).getD 4 0 >>> 26 := by have := of_decide_eq_false hc; omega
    refine A7 ?_
    exact jn (emS e 4) trivial (D3 1 2) (Fit.eq (by rw [show enF e = e from if_neg h0])) qI
  ·
   rintro Sx -
   have hf := B9o hok
   obtain ⟨f, hfe⟩ : ∃ z, enF e = z := ⟨_, rfl⟩
   rw [hfe] at hf ⊢
   refine A1 ?_
   refine A4 rfl (A0I (by_ := 1) (k := .u8) (e := 5) 16 rfl rfl kR rfl rfl qD qD rfl fun b49 => ?_)
   refine as_ (A0 (D8 1 2 7) (A1 (as_ (A0 (D7 1 2 7 8) (A3 (A1 (mv_ ?_)))))))
   refine A2 (A07 (e := 5) rfl kR) rfl ?_
   refine mv_ (A0 (H5 1 2 7 8 51 52) (A5 ?_))
   refine E1 (α := Nat) (fun i => [(1, v), (2, (vP b2)), (7, .slice (some ⟨b49, 0, none⟩) 16 16), (8, .int .u64 (((eoS f o i).2 : Nat) : Int)), (51, .int .i64 16), (52, (vI i))]) (fun i => [(b49, blk (nums .u8 (eoS f o (i)).1) 5), (b2, blk (nums .u64 f) 152)]) (fun _ => []) (fun i => i ≤ 16) (fun i => 16 - i) 0 (Nat.zero_le _) (H5 1 2 7 8 51 52) (Fit.pick (B := [(b49, blk (nums .u8 (List.replicate 16 0)) 5)]) qP (Fit.pick (B := [(b2, blk (nums .u64 f) 152)]) qP qZ)) qI ?_
   rintro i hi
   try dsimp only at hi ⊢
   have hol := A2z f o i
   refine A1 ?_
   refine A2 (D9 rfl rfl rfl) rfl ?_
   refine A0 (S9 1 2 7 8 51 52 53) (A3 ?_)
   refine C0 rfl ?_ ?_ <;> intro hc
   ·
    have hlt : i < 16 := by simp at hc; omega
    have hk5 : 8 * i / 26 < 5 := by omega
    refine A7 (nx (H5 1 2 7 8 51 52) (A3 (A5 (A1 (mv_ (as_ (A0 (S9 1 2 7 8 9 51 52) (A1 ?_))))))))
    refine mv_ ?_
    refine A2 (D1 ((8 * i : Nat) : Int) rfl rfl (A1W qO qO qO)) rfl ?_
    refine A2 (B4R (a := 8 * i) (b := 26) rfl rfl rfl rfl qD qO) rfl ?_
    refine as_ (A0 (V3 1 2 7 8 9 10 51 52) (A1 (mv_ ?_)))
    refine A2 (D0 (e := 94) (n := 5) (sz := 1) (i := 8 * i / 26) (8 * i / 26) rfl rfl kR kR rfl qO qO) rfl ?_
    refine A2 (I3 (8 * i / 26) rfl kR At.mem rfl (by rw [hf.len]; omega)) rfl ?_
    refine mv_ ?_
    refine A2 (D1 ((8 * i : Nat) : Int) rfl rfl (A1W qO qO qO)) rfl ?_
    refine A2 (L7 (a := 8 * i) (b := 26) rfl rfl rfl rfl qD) rfl ?_
    refine A2 (T0 (8 * i % 26) rfl rfl rfl (by show _ ≤ 64; omega)) rfl ?_
    refine as_ (A0 (A0j 1 2 7 8 9 10 11 51 52) ?_)
    refine Q5 (α := Unit) (fun _ => [(1, v), (2, (vP b2)), (7, .slice (some ⟨b49, 0, none⟩) 16 16), (8, .int .u64 (((eoS f o i).2 : Nat) : Int)), (51, .int .i64 16), (52, (vI i)), (9, (vI i)), (11, .int .u64 ((exN f i : Nat) : Int))]) (fun _ => [(b49, blk (nums .u8 (eoS f o (i)).1) 5), (b2, blk (nums .u64 f) 152)]) (fun _ => []) (fun _ => True) ?_ ?_
    ·
     refine A1 (mv_ ?_)
     refine A2 (D9 rfl rfl rfl) rfl ?_
     refine A0 (kq 1 (A0j 2 7 8 9 10 11 51 52 66)) ?_
     refine C0 rfl ?_ ?_ <;> intro hc
     ·
      have h4 : 8 * i / 26 < 4 := by simp at hc; omega
      refine A9 (mv_ (mv_ ?_))
      refine A2 (D1 ((8 * i / 26 + 1 : Nat) : Int) rfl rfl (E5 qO qO qO)) rfl ?_
      refine A2 (D0 (e := 94) (n := 5) (sz := 1) (i := 8 * i / 26 + 1) (8 * i / 26 + 1) rfl rfl kR kR rfl qO qO) rfl ?_
      refine A2 (I3 (8 * i / 26 + 1) rfl kR At.mem rfl (by rw [hf.len]; omega)) rfl ?_
      refine mv_ ?_
      refine A2 (D1 ((8 * i : Nat) : Int) rfl rfl (A1W qO qO qO)) rfl ?_
      refine A2 (L7 (a := 8 * i) (b := 26) rfl rfl rfl rfl qD) rfl ?_
      refine A2 (D1 ((26 - 8 * i % 26 : Nat) : Int) rfl rfl (A0q qO qO qO)) rfl ?_
      refine A2 (A2E rfl (26 - 8 * i % 26) rfl rfl rfl (by show _ ≤ 64; omega)) rfl ?_
      refine A2 (B2S rfl rfl rfl (by show _ < 18446744073709551616; exact B4p (hf.get _) _) (by show _ < 18446744073709551616; exact Nat.mod_lt _ qD)) rfl ?_
      refine as_ (C1 ?_)
      exact jn () trivial (kq 1 (kq 2 (kq 7 (kq 8 (kq 51 (kq 52 (kq 9 (kp 11 (by rw [show exN f i = _ from if_pos h4]; rfl) kn)))))))) (Fit.eq rfl) qI
     ·
      have h4 : ¬ 8 * i / 26 < 4 := by simp at hc; omega
      refine A7 ?_
      exact jn () trivial (kq 1 (kq 2 (kq 7 (kq 8 (kq 51 (kq 52 (kq 9 (kp 11 (by rw [show exN f i = _ from if_neg h4]; rfl) kn)))))))) (Fit.eq rfl) qI
    ·
     rintro _ -
     have hex : exN f i < 18446744073709551616 := by
      unfold exN
      split
      · exact Nat.or_lt_two_pow (n := 64) (B4p (hf.get _) _) (Nat.mod_lt _ qD)
      · exact B4p (hf.get _) _
     refine A1 (mv_ (mv_ ?_))
     refine A2 (A4q (a := exN f i) (b := 255) rfl rfl rfl hex qD) rfl ?_
     refine mv_ (mv_ ?_)
     refine A2 (G8 (sz := 1) (a := i) rfl rfl kR rfl ho.rd qO) rfl ?_
     refine A2 (A0K (k := .u8) rfl kR (ho.rd.mono qS) qO) rfl ?_
     refine A2 (Z5 (k' := .u64) rfl kR (by show _ < 9223372036854775808; have := A05 ho.lt i; omega)) rfl ?_
     refine A2 (G1 18446744073709551616 rfl rfl rfl rfl rfl rfl) rfl ?_
     refine A2 (G1 18446744073709551616 rfl rfl rfl rfl rfl rfl) rfl ?_
     refine as_ (A0 (S9 1 2 7 8 9 51 52) (A1 (mv_ (mv_ (mv_ ?_)))))
     refine A2 (A1D rfl kR) rfl ?_
     refine A2 (K9 (e := 5) (i := i) (sz := 1) rfl rfl kR kR rfl hlt) rfl ?_
     refine A4 rfl (I8 i rfl rfl kR qO qO UpC.upd ?_)
     refine A0 (H5 1 2 7 8 51 52) (A9 (mv_ ?_))
     refine A2 (T0 8 rfl rfl rfl qD) rfl ?_
     refine as_ (C1 (nb (nx (H5 1 2 7 8 51 52) (A9 ?_))))
     refine A2 (D1 ((i + 1 : Nat) : Int) rfl rfl (E5 qO qO qO)) rfl ?_
     refine mv_ (C1 ?_)
     exact rn (i + 1) qO qO (H5 1 2 7 8 51 52) (Fit.eq rfl) qI
   ·
    obtain rfl : i = 16 := by simp at hc; omega
    refine D4 (te (re (be rfl (nx (D5 7) (A1 (mv_ (as_ (A0 (D5 4) ?_))))))))
    refine B0 ?_
    refine ⟨_, [], [(b49, blk (nums .u8 (eoS f o 16).1) 5)], I4 rfl rfl, Fit.pick (B := [_]) qP qZ, rfl, ⟨?_, B5B f o 16, by rw [A2z]; decide⟩⟩
    rw [A2z]
    exact Rd.whole (n := 16) qK (by simp [nums, A2z])

end Go.Proofs.YtlilcmjbaknafaaGreatDoor
namespace Go.Px
open Go.RowKit
theorem A6O {P : Program} (w : World) (t ti ty e : TypeId) (k : IntKind) (i : TypeInfo) (z : Value) (ht : P.underlying t = some (.slice e)) (hti : P.underlying ti = some (.int k)) (hi : P.info? e = some i) (hz : i.zero = some z) (hsz : i.size = 1) (hby : i.bytes = 1)
    (n : Nat) (h0 : 0 < n) (hn9 : n ≤ 1000000) :
    (Builtin.append_ #[t, ti] ty #[.slice none 0 0, .int .i64 (n : Int)]).run P w =
      .ok (.slice (some ⟨w.heap.size, 0, none⟩) n (grownCap w n 0 e)) (w.drew.alloc (.cells (Builtin.zeroCells z.cells n ++ Builtin.zeroCells z.cells (grownCap w n 0 e - n)) e)) := by
  have hn : n ≠ 0 := by omega
  have hw : IntKind.i64.wrap (n : Int) = (n : Int) := by unfold IntKind.wrap; simp [IntKind.signed, IntKind.bits]; omega
  have h1 : ¬ ((n : Int) < 0) := by omega
  have h2 : ¬ (281474976710656 < (n : Int)) := by omega
  have h63' : ¬ (9223372036854775807 < (n : Int)) := by omega
  have h48' : ¬ (281474976710656 < Builtin.nextslicecap n 0) := by rw [nextslicecap_zero h0]; omega
  simp [Builtin.append_, run_underlying ht, run_underlying hti, sizeOf, typeInfo, zeroValue, hi, hz, hsz, hby, hn, hw, h1, h2, asInt, asIntOf, h63', h48', Question.forced, run_firstCells_none, newRow, grownCap]
theorem A2j {P : Program} (w : World) (t ti ty e : TypeId) (k : IntKind) (i : TypeInfo) (z : Value) (ht : P.underlying t = some (.slice e)) (hti : P.underlying ti = some (.int k)) (hi : P.info? e = some i) (hz : i.zero = some z) (hsz : i.size = 1) (hby : i.bytes = 1)
    (b : Addr) (sLen sCap : Nat) (olds : List Value) (hlo : olds.length = sLen * 1) (holds : ∀ j v, olds[j]? = some v → w.cell? (b.add j) = some v)
    (n : Nat) (h0 : 0 < n) (hn9 : n ≤ 1000000) (hg : sCap < sLen + n) (hs9 : sLen ≤ 1000000000) :
    (Builtin.append_ #[t, ti] ty #[.slice (some b) sLen sCap, .int .i64 (n : Int)]).run P w =
      .ok (.slice (some ⟨w.heap.size, 0, none⟩) (sLen + n) (grownCap w (sLen + n) sCap e)) (w.drew.alloc (.cells (olds.toArray ++ Builtin.zeroCells z.cells n ++ Builtin.zeroCells z.cells (grownCap w (sLen + n) sCap e - (sLen + n))) e)) := by
  have hn0 : n ≠ 0 := by omega
  have hn : ¬ (sLen + n ≤ sCap) := by omega
  have hw : IntKind.i64.wrap (n : Int) = (n : Int) := by unfold IntKind.wrap; simp [IntKind.signed, IntKind.bits]; omega
  have h1 : ¬ ((n : Int) < 0) := by omega
  have h2 : ¬ (281474976710656 < (n : Int)) := by omega
  have h63' : ¬ (9223372036854775807 < ((sLen : Int) + (n : Int))) := by omega
  have hfit : Builtin.nextslicecap (sLen + n) sCap * 1 ≤ 281474976710656 := growslice_fits (by omega) (by omega)
  have h48' : ¬ (281474976710656 < Builtin.nextslicecap (sLen + n) sCap) := by omega
  have hfo := run_firstCells_some (P := P) w.drew 1 sLen b sLen sCap olds hlo (by simpa using holds)
  simp [Builtin.append_, run_underlying ht, run_underlying hti, sizeOf, typeInfo, zeroValue, hi, hz, hsz, hby, hn0, hn, hw, h1, h2, asInt, asIntOf, h63', h48', Question.forced, hfo, newRow, grownCap]
theorem W1 (z0 : Value) (m : Nat) : Builtin.zeroCells #[z0] m = (List.replicate m z0).toArray := by
  unfold Builtin.zeroCells
  apply Array.ext
  · simp
  · intro i h1 h2
    simp [Nat.mod_one]
theorem A5S {P : Program} (w : World) (t ti ty e : TypeId) (k : IntKind) (i : TypeInfo) (z z0 : Value) (ht : P.underlying t = some (.slice e)) (hti : P.underlying ti = some (.int k)) (hi : P.info? e = some i) (hz : i.zero = some z) (hzc : z.cells = #[z0]) (hsz : i.size = 1) (hby : i.bytes = 1)
    (b o sLen sCap n : Nat) (cs : List Value) (e' : TypeId) (hb : w.heap[b]? = some (.cells cs.toArray e' (0, 0))) (h0 : 0 < n) (hn9 : n ≤ 1000000) (hg : sLen + n ≤ sCap) (hfit : o + sLen + n ≤ cs.length) (h1c : z0.oneCell' = true) :
    (Builtin.append_ #[t, ti] ty #[.slice (some ⟨b, o, none⟩) sLen sCap, .int .i64 (n : Int)]).run P w =
      .ok (.slice (some ⟨b, o, none⟩) (sLen + n) sCap) (w.setRow b (cs.take (o + sLen) ++ List.replicate n z0 ++ cs.drop (o + sLen + n)).toArray) := by
  have hn0 : n ≠ 0 := by omega
  have hw : IntKind.i64.wrap (n : Int) = (n : Int) := by unfold IntKind.wrap; simp [IntKind.signed, IntKind.bits]; omega
  have h1 : ¬ ((n : Int) < 0) := by omega
  have h2 : ¬ (281474976710656 < (n : Int)) := by omega
  have hst := run_storeCells_at (P := P) b (o + sLen) e' (List.replicate n z0) 0 cs.toArray w hb (by simpa using hfit) (fun u hu => by rw [(List.mem_replicate.1 hu).2]; exact h1c)
  simp only [Nat.add_zero, List.length_replicate] at hst
  simp [Builtin.append_, run_underlying ht, run_underlying hti, sizeOf, typeInfo, zeroValue, hi, hz, hzc, W1, hsz, hby, hn0, hg, hw, h1, h2, asInt, asIntOf, Addr.add_mid, hst]
theorem A41 {P : Program} (w : World) (t ti ty e : TypeId) (k : IntKind) (i : TypeInfo) (ht : P.underlying t = some (.slice e)) (hti : P.underlying ti = some (.int k)) (hi : P.info? e = some i) (hsz : i.size = 1) (hby : i.bytes = 1) (p : Option Addr) (sLen sCap : Nat) (hg : sLen ≤ sCap) :
    (Builtin.append_ #[t, ti] ty #[.slice p sLen sCap, .int .i64 ((0 : Nat) : Int)]).run P w = .ok (.slice p sLen sCap) w := by
  have hw : IntKind.i64.wrap 0 = 0 := by rfl
  cases p <;> simp [Builtin.append_, run_underlying ht, run_underlying hti, sizeOf, typeInfo, hi, hsz, hby, hw, hg, asInt, asIntOf, storeCells]
theorem A7t {P : Program} {t ti e ty : TypeId} {k : IntKind} {n m : Nat} {v z0 : Value} {xs : List Value} {B R : Mem} {w : World} (ht : A2n P t = some (e, 1, 1)) (hti : P.underlying ti = some (.int k)) (hzr : ((P.info? e).bind (·.zero)).map (·.cells) = some #[z0]) (h1c : z0.oneCell' = true)
    (hs : Sl 1 v n xs B) (hB : ∀ q, q ∈ B → q ∈ R) (hw : Fx R w) (hm9 : m ≤ 1000000) (hs9 : n ≤ 1000000000) :
    ∃ v' w' B', (Builtin.append_ #[t, ti] ty #[v, .int .i64 (m : Int)]).run P w = .ok v' w' ∧ Sl 1 v' (n + m) (xs ++ List.replicate m z0) B' ∧
      ((w' = w ∧ B' = B) ∨
       (∃ (b : Nat) (cs cs' : List Value) (e' : TypeId), B = [(b, blk cs e')] ∧ B' = [(b, blk cs' e')] ∧ w' = w.setRow b cs'.toArray) ∨
       (∃ o', B' = [(w.heap.size, o')] ∧ w' = w.drew.alloc o')) := by
  obtain ⟨i, z, hu, hi, hz, hzs, his, hib⟩ := U4 ht
  have hzc : z.cells = #[z0] := by
    rw [hi, Option.bind_some, hz, Option.map_some] at hzr
    exact Option.some.inj hzr
  by_cases hm : m = 0
  · subst hm
    rcases hs with ⟨p, rfl, rfl, rfl, rfl⟩ | ⟨b, o, cap, cs, e', rfl, rfl, h1, h2, h3, h4, h5⟩
    · exact ⟨_, w, [], A41 w t ti ty e k i hu hti hi his hib p 0 0 (Nat.le_refl _), by rw [List.replicate_zero, List.append_nil]; exact .inl ⟨p, rfl, rfl, rfl, rfl⟩, .inl ⟨rfl, rfl⟩⟩
    · exact ⟨_, w, _, A41 w t ti ty e k i hu hti hi his hib _ n cap h1, by rw [List.replicate_zero, List.append_nil]; exact .inr ⟨b, o, cap, cs, e', rfl, rfl, h1, h2, h3, h4, h5⟩, .inl ⟨rfl, rfl⟩⟩
  · have h0 : 0 < m := by omega
    have hmax : n + m ≤ maxLen := by unfold maxLen; omega
    have made : ∀ (r : Value) (cap' : Nat), r = .slice (some ⟨w.heap.size, 0, none⟩) (n + m) cap' → n + m ≤ cap' → cap' ≤ maxLen → xs.length = n * 1 →
        Sl 1 r (n + m) (xs ++ List.replicate m z0) [(w.heap.size, .cells (xs.toArray ++ (List.replicate m z0).toArray ++ (List.replicate (cap' - (n + m)) z0).toArray) e (0, 0))] := by
      intro r cap' hr' hc1 hc2 hxl
      refine .inr ⟨w.heap.size, 0, cap', xs ++ List.replicate m z0 ++ List.replicate (cap' - (n + m)) z0, e, hr', by simp [blk], hc1, hc2, ?_, ?_, ?_⟩
      · simp; omega
      · simp; omega
      · intro j u hj
        have hlt : j < (xs ++ List.replicate m z0).length := (List.getElem?_eq_some_iff.1 hj).1
        rw [Nat.zero_add, List.getElem?_append_left hlt]
        exact hj
    rcases hs with ⟨p, rfl, rfl, rfl, rfl⟩ | ⟨b, o, cap, cs, e', rfl, rfl, h1, h2, h3, h4, h5⟩
    · have hge := grownCap_ge w (0 + m) 0 e
      have hcm : grownCap w (0 + m) 0 e ≤ maxLen := grownCap_le_maxLen w (0 + m) 0 e hmax
      cases p with
      | none =>
        have hrn := A6O (P := P) w t ti ty e k i z hu hti hi hz his hib m h0 hm9
        rw [hzc, W1, W1] at hrn
        rw [Nat.zero_add] at hge hcm
        refine ⟨_, _, _, hrn, ?_, .inr (.inr ⟨_, rfl, rfl⟩)⟩
        have := made _ (grownCap w m 0 e) (by rw [Nat.zero_add]) (by omega) hcm (by simp)
        simpa using this
      | some pa =>
        have hrg := A2j (P := P) w t ti ty e k i z hu hti hi hz his hib pa 0 0 [] (by simp) (by simp) m h0 hm9 (by omega) (by omega)
        rw [hzc, W1, W1] at hrg
        refine ⟨_, _, _, hrg, ?_, .inr (.inr ⟨_, rfl, rfl⟩)⟩
        exact made _ _ rfl hge hcm (by simp)
    · have hb := hw b _ (hB _ (List.mem_singleton.2 rfl))
      by_cases hroom : n + m ≤ cap
      · have hrr := A5S (P := P) w t ti ty e k i z z0 hu hti hi hz hzc his hib b o n cap m cs e' hb h0 hm9 hroom (by omega) h1c
        refine ⟨_, _, _, hrr, ?_, .inr (.inl ⟨b, cs, _, e', rfl, rfl, rfl⟩)⟩
        refine .inr ⟨b, o, cap, _, e', rfl, rfl, hroom, h2, ?_, ?_, ?_⟩
        · simp only [List.length_append, List.length_take, List.length_drop, List.length_replicate]
          omega
        · simp; omega
        · intro j q hj
          by_cases hjx : j < xs.length
          · rw [List.getElem?_append_left hjx] at hj
            rw [List.append_assoc, List.getElem?_append_left (by simp; omega), List.getElem?_take_of_lt (by omega)]
            exact h5 j q hj
          · rw [List.getElem?_append_right (by omega)] at hj
            have hlt := (List.getElem?_eq_some_iff.1 hj).1
            have hln : (cs.take (o + n)).length = o + n := by simp; omega
            rw [List.append_assoc, List.getElem?_append_right (by omega), List.getElem?_append_left (by rw [hln]; rw [List.length_replicate] at hlt ⊢; omega), hln, ← hj]
            congr 1
            omega
      · have hge := grownCap_ge w (n + m) cap e
        have hcm : grownCap w (n + m) cap e ≤ maxLen := grownCap_le_maxLen w (n + m) cap e hmax
        have hrg := A2j (P := P) w t ti ty e k i z hu hti hi hz his hib ⟨b, o, none⟩ n cap xs h4 (fun j q hj => by rw [Addr.add_mid, cell_of_row w b _ cs.toArray e' (0, 0) hb]; simpa using h5 j q hj) m h0 hm9 (by omega) hs9
        rw [hzc, W1, W1] at hrg
        refine ⟨_, _, _, hrg, ?_, .inr (.inr ⟨_, rfl, rfl⟩)⟩
        exact made _ _ rfl hge hcm h4
section append
variable {C : Cx} {l : Env} {M J : Mem} {K : Env → Mem → Mem → Prop} {d : Nat} {ty : TypeId} {pos : String} {af : Array Edge} {g : Option (Nat × Bool)} {x y : Operand}
theorem B1O {t ti e : TypeId} {k : IntKind} {n m : Nat} {v z0 : Value} {xs : List Value} {B M0 : Mem} (hx : ev l x = some v) (hy : ev l y = some (.int .i64 (m : Int))) (ht : A2n C.P t = some (e, 1, 1)) (hti : C.P.underlying ti = some (.int k)) (hzr : ((C.P.info? e).bind (·.zero)).map (·.cells) = some #[z0]) (h1c : z0.oneCell' = true)
    (hs : Sl 1 v n xs B) (hM : M.Perm (B ++ M0)) (hm9 : m ≤ 1000000) (hs9 : n ≤ 1000000000) (hd : Nat.blt d C.N = true)
    (kk : ∀ v' B', Sl 1 v' (n + m) (xs ++ List.replicate m z0) B' → K ((d, v') :: l) (B' ++ M0) J) :
    OpL C ⟨some d, .call { callee := .builtin .append, args := #[x, y], argTypes := #[t, ti] }, ty, pos, af, g⟩ l M J K := by
  intro Qp a w ha hw
  obtain ⟨v', w', B', hrun, hsl, hcase⟩ := A7t (P := C.P) (ty := ty) (R := M ++ (J ++ C.A)) ht hti hzr h1c hs (fun q hq => by have := hM.mem_iff.2 (List.mem_append_left M0 hq); simp [this]) hw.fx hm9 hs9
  have hexec : (execOp a.eval ⟨some d, .call { callee := .builtin .append, args := #[x, y], argTypes := #[t, ti] }, ty, pos, af, g⟩).run C.P w = .ok (.value v') w' := by
    simp [execOp, resolve, invoke, builtin, ha.ev hx, ha.ev hy, hrun]
  unfold Oper.wp
  rw [hexec]
  refine ⟨_, B' ++ M0, J, ha.put (C5 hd) v', ?_, kk v' B' hsl⟩
  rcases hcase with ⟨rfl, rfl⟩ | ⟨b, cs, cs', e', rfl, rfl, rfl⟩ | ⟨o', rfl, rfl⟩
  · exact hw.perm hM
  · exact (hw.perm hM).setRow (M' := [(b, blk cs' e')] ++ M0) Upd.hd
  · have h2 : St C ((w.heap.size, o') :: M) J (w.drew.alloc o') := St.alloc (w := w.drew) hw.drew o'
    have h3 := h2.perm (M' := (w.heap.size, o') :: (B ++ M0)) (List.Perm.cons _ hM)
    exact h3.drop (List.Sublist.cons_cons _ (List.sublist_append_right B M0)) (fun _ h => h)
end append
end Go.Px

namespace Go.Proofs.YtlilcmjbaknafaaGreatDoor
open Go.Px
def A9l (p : LN) : LN := p ++ List.replicate ((16 - p.length % 16) % 16) 0
theorem A8r (p : LN) : (A9l p).length = p.length + (16 - p.length % 16) % 16 := by simp [A9l]
theorem B9p (v : Value) (p : LN) (B A : Mem) (hs : Sl 1 v p.length (nums .u8 p) B) (hl : p.length ≤ 100000000) : FnX Tryz.prog 95 [v] B A fun q M J => Sl 1 q (A9l p).length (nums .u8 (A9l p)) M := by
 haveI := hs.cel
 refine FnX.enterZ (N := 10) Tryz.func95 rfl rfl rfl fun w_ => ?_
 refine B4 (D5 0) (A1 (as_ (A0 (D5 0) (A1 (mv_ (mv_ ?_))))))
 refine A2 (F8 (sz := 1) rfl kR (hs.rd (R := B) fun _ h => h)) rfl ?_
 refine A2 (L7 (a := p.length) (b := 16) rfl rfl rfl rfl qD) rfl ?_
 refine A2 (D1 ((16 - p.length % 16 : Nat) : Int) rfl rfl (A0q qO qO qO)) rfl ?_
 refine A2 (L7 (a := 16 - p.length % 16) (b := 16) rfl rfl rfl rfl qD) rfl ?_
 refine A4 rfl (B1O (e := 5) (k := .i64) (z0 := .int .u8 0) rfl rfl kR kR kR rfl hs qP qO qO rfl ?_)
 intro v9 B9 hs9
 haveI := hs9.cel
 refine as_ (A0 (D5 2) (B0 ?_))
 exact ⟨_, B9, [], I4 rfl rfl, Fit.none (Fit.last qP), X6 hs9 (by rw [A8r]) (by simp [A9l, nums])⟩
theorem B5C (v : Value) (w : LN) (n : Nat) (A : Mem) (hv : By A v w) (hn : n ≤ 16777216) : FnX Tryz.prog 96 [v, .int .i64 (n : Int)] [] A fun q M J => Sl 1 q n (nums .u8 (G7 w n)) M := by
 haveI := hv.cel
 have hvl := hv.len
 refine FnX.enterZ (N := 12) Tryz.func96 rfl rfl rfl fun w_ => ?_
 refine B4 (D3 0 1) (A1 (as_ (A0 (D3 0 1) (A1 (mv_ ?_)))))
 refine A4 rfl (A0I (by_ := 1) (k := .u8) (e := 5) n rfl rfl kR rfl rfl qO qO rfl fun b7 => ?_)
 refine as_ (A0 (D3 0 5) (A1 (mv_ (mv_ ?_))))
 refine A4 rfl (A3F (e := 5) (us := w) (ws := List.replicate n 0) (ws' := G7 w n) (by_ := 1) rfl rfl kR (hv.rd.mono qS) qM (by simp [G7]) UpC.upd rfl ?_)
 refine A0 (D5 5) (A1 (mv_ (as_ (A0 (D5 4) (B0 ?_)))))
 refine ⟨_, [(b7, blk (nums .u8 (G7 w n)) 5)], [], I4 rfl rfl, Fit.eq qM, ?_⟩
 exact .inr ⟨b7, 0, n, _, _, rfl, rfl, Nat.le_refl _, by unfold maxLen; omega, by simp [nums, K6], by simp [nums, K6], fun j u h => by rwa [Nat.zero_add]⟩

def clA (r : LN) : Nat → LN
  | 0 => r
  | i + 1 => (clA r i).set (4 * i + 3) ((clA r i).getD (4 * i + 3) 0 &&& 15)
def clB (r : LN) : Nat → LN
  | 0 => r
  | i + 1 => (clB r i).set (4 * i + 4) ((clB r i).getD (4 * i + 4) 0 &&& 252)
def adS (l x : LN) : Nat → LN
  | 0 => l
  | i + 1 => (adS l x i).set i (((adS l x i).getD i 0 + x.getD i 0) % 18446744073709551616)
def tgN (by_ : LN) : Nat → LN → LN → LN
  | 0, l, _ => l
  | f + 1, l, p => if p.length = 0 then l else tgN by_ f (A4x (adS l (ptN (p.take 16 ++ [1])) 5) by_) (p.drop 16)
def B7w (K p : LN) : LN := B9V (tgN (ptN (clB (clA (G7 K 16) 4) 3)) p.length [0, 0, 0, 0, 0] p) (K.drop 16)
theorem A5T (by_ : LN) : ∀ (f : Nat) (l p : LN), p.length ≤ f → tgN by_ f l p = tgN by_ p.length l p
  | 0, l, p, h => by rw [show p.length = 0 by omega]
  | f + 1, l, p, h => by
    by_cases h0 : p.length = 0
    · rw [h0]; show (if p.length = 0 then l else _) = _; rw [if_pos h0]; rfl
    · have hd : (p.drop 16).length ≤ f := by rw [List.length_drop]; omega
      obtain ⟨m, hm⟩ : ∃ m, p.length = m + 1 := ⟨p.length - 1, by omega⟩
      have hd2 : (p.drop 16).length ≤ m := by rw [List.length_drop]; omega
      have e1 : tgN by_ (f + 1) l p = tgN by_ f (A4x (adS l (ptN (p.take 16 ++ [1])) 5) by_) (p.drop 16) := if_neg h0
      have e2 : tgN by_ (m + 1) l p = tgN by_ m (A4x (adS l (ptN (p.take 16 ++ [1])) 5) by_) (p.drop 16) := if_neg h0
      rw [e1, hm, e2, A5T by_ f _ _ hd, A5T by_ m _ _ hd2]
theorem B4r (by_ l p : LN) (h0 : ¬ p.length = 0) : tgN by_ p.length l p = tgN by_ (p.drop 16).length (A4x (adS l (ptN (p.take 16 ++ [1])) 5) by_) (p.drop 16) := by
  obtain ⟨m, hm⟩ : ∃ m, p.length = m + 1 := ⟨p.length - 1, by omega⟩
  have e2 : tgN by_ (m + 1) l p = tgN by_ m (A4x (adS l (ptN (p.take 16 ++ [1])) 5) by_) (p.drop 16) := if_neg h0
  rw [hm, e2, A5T by_ m _ _ (by rw [List.length_drop]; omega)]
theorem B7x (by_ l p : LN) (h0 : p.length = 0) : tgN by_ p.length l p = l := by rw [h0]; rfl
theorem B1P (r : LN) : ∀ i, (clA r i).length = r.length
  | 0 => rfl
  | i + 1 => by show ((clA r i).set _ _).length = _; rw [List.length_set, B1P r i]
theorem B1Q (r : LN) : ∀ i, (clB r i).length = r.length
  | 0 => rfl
  | i + 1 => by show ((clB r i).set _ _).length = _; rw [List.length_set, B1Q r i]
theorem and8 {x k : Nat} (h : x < 256) : x &&& k < 256 := Nat.lt_of_le_of_lt Nat.and_le_left h
theorem set8 {l : LN} (h : ∀ x ∈ l, x < 256) (i x : Nat) (hx : x < 256) : ∀ y ∈ l.set i x, y < 256 := fun y hy => by rcases List.mem_or_eq_of_mem_set hy with h1 | rfl; exact h y h1; exact hx
theorem B1R {r : LN} (h : ∀ x ∈ r, x < 256) : ∀ i, ∀ x ∈ clA r i, x < 256
  | 0 => h
  | i + 1 => set8 (B1R h i) _ _ (and8 (A05 (B1R h i) _))
theorem B1S {r : LN} (h : ∀ x ∈ r, x < 256) : ∀ i, ∀ x ∈ clB r i, x < 256
  | 0 => h
  | i + 1 => set8 (B1S h i) _ _ (and8 (A05 (B1S h i) _))
theorem B5D {l : LN} (h : L5 l) (x : LN) : ∀ i, L5 (adS l x i)
  | 0 => h
  | i + 1 => (B5D h x i).set _ _ (Nat.mod_lt _ qD)
theorem B9q (v : Value) (w : LN) (n : Nat) (A : Mem) (hv : By A v w) (hn : n ≤ 16777216) : FnX Tryz.prog 96 [v, .int .i64 (n : Int)] [] A fun q M J => ∃ b, q = .slice (some ⟨b, 0, none⟩) n n ∧ M = [(b, blk (nums .u8 (G7 w n)) 5)] ∧ J = [] := by
 haveI := hv.cel
 have hvl := hv.len
 refine FnX.enterZ (N := 12) Tryz.func96 rfl rfl rfl fun w_ => ?_
 refine B4 (D3 0 1) (A1 (as_ (A0 (D3 0 1) (A1 (mv_ ?_)))))
 refine A4 rfl (A0I (by_ := 1) (k := .u8) (e := 5) n rfl rfl kR rfl rfl qO qO rfl fun b7 => ?_)
 refine as_ (A0 (D3 0 5) (A1 (mv_ (mv_ ?_))))
 refine A4 rfl (A3F (e := 5) (us := w) (ws := List.replicate n 0) (ws' := G7 w n) (by_ := 1) rfl rfl kR (hv.rd.mono qS) qM (by simp [G7]) UpC.upd rfl ?_)
 refine A0 (D5 5) (A1 (mv_ (as_ (A0 (D5 4) (B0 ?_)))))
 exact ⟨_, [(b7, blk (nums .u8 (G7 w n)) 5)], [], I4 rfl rfl, Fit.eq qM, b7, rfl, rfl, rfl⟩

theorem C0R (q : LN) {m : Nat} (h : min 16 q.length = m) : G7 q m = q.take 16 ∧ q.drop m = q.drop 16 ∧ (q.take 16).length = m := by
  refine ⟨?_, ?_, by rw [List.length_take]; exact h⟩
  · unfold G7
    rw [show m - q.length = 0 by omega, List.replicate_zero, List.append_nil]
    by_cases h1 : 16 ≤ q.length
    · rw [show m = 16 by omega]
    · rw [show m = q.length by omega, List.take_length, List.take_of_length_le qO]
  · by_cases h1 : 16 ≤ q.length
    · rw [show m = 16 by omega]
    · rw [show m = q.length by omega, List.drop_length, List.drop_of_length_le qO]
set_option maxHeartbeats 1000000 in
theorem B9r (v vp : Value) (kw p : LN) (A : Mem) (hk : By A v kw) (hp : By A vp p) : FnX Tryz.prog 97 [v, vp] [] A fun q M J => M = [] ∧ By J q (B7w (G7 kw 32) p) := by
 haveI := hk.cel
 haveI := hp.cel
 refine FnX.enterZ (N := 80) Tryz.func97 rfl rfl rfl fun w_ => ?_
 refine B4 (D3 0 1) (A1 (as_ (A0 (D3 0 1) (A1 (mv_ ?_)))))
 refine C7 (aS rfl (aS rfl a0)) kR (A38 v kw 32 _ (hk.mono qS) qD) rfl ?_
 rintro v16 M16 J16 ⟨rfl, h16⟩
 haveI := h16.cel
 have hkl := K6 kw 32
 generalize G7 kw 32 = K at *
 have hfl := K6 K 16
 have hflt := A1j h16.lt 16
 refine as_ (A0 (D3 0 1) (A1 (mv_ ?_)))
 refine C7 (aS rfl (aS rfl a0)) kR (B9q v16 K 16 _ (h16.mono qS) qD) rfl ?_
 rintro v18 M18 J18 ⟨b18, rfl, rfl, rfl⟩
 refine as_ (A0 (D8 0 1 5) (A3 (A1 ?_)))
 refine A4 rfl (C4 (e := 3) (sz := 1) (z := [A4p, A4p, A4p, A4p]) kR (eS rfl (eS rfl (eS rfl (eS rfl e0)))) (bdS 0 1 rfl qR (bdS 1 1 rfl qR (bdS 2 1 rfl qR (bdS 3 1 rfl qR bd0)))) rfl fun b19 => ?_)
 refine A2 (A07 (e := 3) rfl kR) rfl ?_
 refine mv_ (A0 (H5 0 1 5 19 20 21) (A5 ?_))
 refine A0Z (B := [(b19, blk [.int .i64 3, .int .i64 7, .int .i64 11, .int .i64 15] 3)]) qP ?_
 refine E1 (α := Nat) (fun i => [(0, v16), (1, vp), (5, .slice (some ⟨b18, 0, none⟩) 16 16), (19, .slice (some ⟨b19, 0, none⟩) 4 4), (20, .int .i64 4), (21, (vI i))]) (fun i => [(b18, blk (nums .u8 (clA (G7 K 16) i)) 5)]) (fun _ => _) (fun i => i ≤ 4) (fun i => 4 - i) 0 (Nat.zero_le _) (H5 0 1 5 19 20 21) (Fit.eq rfl) qI ?_
 rintro i hi
 try dsimp only at hi ⊢
 have hal := B1P (G7 K 16) i
 have halt := B1R hflt i
 refine A1 ?_
 refine A2 (D9 rfl rfl rfl) rfl ?_
 refine A0 (S9 0 1 5 19 20 21 22) (A3 ?_)
 refine C0 rfl ?_ ?_ <;> intro hc
 ·
  have hlt : i < 4 := by simp at hc; omega
  refine A7 (nx (H5 0 1 5 19 20 21) (A3 (A5 (A1 ?_))))
  refine A2 (K9 (e := 3) (i := i) (sz := 1) rfl rfl kR kR rfl hlt) rfl ?_
  refine A2 (I7 (v := .int .i64 ((4 * i + 3 : Nat) : Int)) rfl kR At.mem (by rcases (by omega : i = 0 ∨ i = 1 ∨ i = 2 ∨ i = 3) with rfl | rfl | rfl | rfl <;> rfl)) rfl ?_
  refine as_ (A0 (S9 0 1 5 7 19 20 21) (A9 (mv_ (mv_ ?_))))
  refine A2 (K9 (e := 5) (i := 4 * i + 3) (sz := 1) rfl rfl kR kR rfl qO) rfl ?_
  refine A2 (I3 (4 * i + 3) rfl kR At.mem qO qO) rfl ?_
  refine A2 (A4q (b := 15) rfl rfl rfl (by show _ < 256; exact A05 halt _) qD) rfl ?_
  refine A2 (K9 (e := 5) (i := 4 * i + 3) (sz := 1) rfl rfl kR kR rfl qO) rfl ?_
  refine A4 rfl (I8 (4 * i + 3) rfl rfl kR qO qO UpC.upd ?_)
  refine C1 (nb (nx (H5 0 1 5 19 20 21) (A9 ?_)))
  refine A2 (D1 ((i + 1 : Nat) : Int) rfl rfl (E5 qO qO qO)) rfl ?_
  refine mv_ (C1 ?_)
  exact rn (i + 1) qO qO (H5 0 1 5 19 20 21) (Fit.eq rfl) qI
 ·
  obtain rfl : i = 4 := by simp at hc; omega
  refine D4 (te (re (be rfl (nx (D8 0 1 5) (A3 (A1 ?_))))))
  refine A4 rfl (C4 (e := 3) (sz := 1) (z := [A4p, A4p, A4p]) kR (eS rfl (eS rfl (eS rfl e0))) (bdS 0 1 rfl qR (bdS 1 1 rfl qR (bdS 2 1 rfl qR bd0))) rfl fun b32 => ?_)
  refine A2 (A07 (e := 3) rfl kR) rfl ?_
  refine mv_ (A0 (H5 0 1 5 32 33 34) (A5 ?_))
  refine A0Z (B := [(b32, blk [.int .i64 4, .int .i64 8, .int .i64 12] 3)]) qP ?_
  refine E1 (α := Nat) (fun i => [(0, v16), (1, vp), (5, .slice (some ⟨b18, 0, none⟩) 16 16), (32, .slice (some ⟨b32, 0, none⟩) 3 3), (33, .int .i64 3), (34, (vI i))]) (fun i => [(b18, blk (nums .u8 (clB (clA (G7 K 16) 4) i)) 5)]) (fun _ => _) (fun i => i ≤ 3) (fun i => 3 - i) 0 (Nat.zero_le _) (H5 0 1 5 32 33 34) (Fit.eq rfl) qI ?_
  rintro i hi2
  try dsimp only at hi2 ⊢
  have hbl := B1Q (clA (G7 K 16) 4) i
  have hblt := B1S halt i
  refine A1 ?_
  refine A2 (D9 rfl rfl rfl) rfl ?_
  refine A0 (S9 0 1 5 32 33 34 35) (A3 ?_)
  refine C0 rfl ?_ ?_ <;> intro hc
  ·
   have hlt : i < 3 := by simp at hc; omega
   refine A7 (nx (H5 0 1 5 32 33 34) (A3 (A5 (A1 ?_))))
   refine A2 (K9 (e := 3) (i := i) (sz := 1) rfl rfl kR kR rfl hlt) rfl ?_
   refine A2 (I7 (v := .int .i64 ((4 * i + 4 : Nat) : Int)) rfl kR At.mem (by rcases (by omega : i = 0 ∨ i = 1 ∨ i = 2) with rfl | rfl | rfl <;> rfl)) rfl ?_
   refine as_ (A0 (S9 0 1 5 9 32 33 34) (A9 (mv_ (mv_ ?_))))
   refine A2 (K9 (e := 5) (i := 4 * i + 4) (sz := 1) rfl rfl kR kR rfl qO) rfl ?_
   refine A2 (I3 (4 * i + 4) rfl kR At.mem qO qO) rfl ?_
   refine A2 (A4q (b := 252) rfl rfl rfl (by show _ < 256; exact A05 hblt _) qD) rfl ?_
   refine A2 (K9 (e := 5) (i := 4 * i + 4) (sz := 1) rfl rfl kR kR rfl qO) rfl ?_
   refine A4 rfl (I8 (4 * i + 4) rfl rfl kR qO qO UpC.upd ?_)
   refine C1 (nb (nx (H5 0 1 5 32 33 34) (A9 ?_)))
   refine A2 (D1 ((i + 1 : Nat) : Int) rfl rfl (E5 qO qO qO)) rfl ?_
   refine mv_ (C1 ?_)
   exact rn (i + 1) qO qO (H5 0 1 5 32 33 34) (Fit.eq rfl) qI
  ·
   obtain rfl : i = 3 := by simp at hc; omega
   refine D4 (te (re (be rfl (nx (D8 0 1 5) ?_))))
   refine A0Z (B := [(b18, blk (nums .u8 (clB (clA (G7 K 16) 4) 3)) 5)]) qP ?_
   unfold B7w
   obtain ⟨R, hRe⟩ : ∃ z, clB (clA (G7 K 16) 4) 3 = z := ⟨_, rfl⟩
   rw [hRe] at hbl hblt ⊢
   have hRl : R.length = 16 := by omega
   have hrB : By [(b18, blk (nums .u8 R) 5)] (.slice (some ⟨b18, 0, none⟩) 16 16) R := ⟨by rw [hRl]; exact Rd.whole (n := 16) qK (by simp [nums, hRl]), hblt, by omega⟩
   refine A1 (mv_ ?_)
   refine F0 (aS rfl a0) kR (B1L (.slice (some ⟨b18, 0, none⟩) 16 16) R _ (hrB.mono qS) qO) rfl ?_
   refine A4 rfl (C3 (cs := [E8, E8, E8, E8, E8]) kR rfl fun b10 => ?_)
   refine A4 rfl (A8 (vs := nums .u64 (ptN R)) rfl rfl rfl (by rw [nums_len, (A2i R).len]; kernel_rfl) (by rw [nums_len, (A2i R).len]; rfl) F3 UpC.upd ?_)
   refine A0 (D8 0 1 10) (A1 ?_)
   refine A4 rfl (C3 (cs := [E8, E8, E8, E8, E8]) kR rfl fun b11 => ?_)
   refine A0 (D7 0 1 10 11) (A3 (A5 ?_))
   refine E1 (α := Value × LN × LN) (fun y => [(0, v16), (1, y.1), (10, (vP b10)), (11, (vP b11))]) (fun y => [(b11, blk (nums .u64 y.2.2) 152), (b10, blk (nums .u64 (ptN R)) 152)]) (fun _ => _) (fun y => By A y.1 y.2.1 ∧ L5 y.2.2 ∧ tgN (ptN R) y.2.1.length y.2.2 y.2.1 = tgN (ptN R) p.length [0, 0, 0, 0, 0] p) (fun y => y.2.1.length) (vp, p, [0, 0, 0, 0, 0]) ⟨hp, L5.z, rfl⟩ (D7 0 1 10 11) (Fit.eq rfl) qI ?_
   rintro ⟨u, q, l⟩ ⟨hq, hl5, hT⟩
   dsimp only at hq hl5 hT ⊢
   haveI := hq.cel
   refine A3 (A1 (mv_ ?_))
   refine A2 (F8 (sz := 1) rfl kR hq.rd) rfl ?_
   refine A2 (D9 rfl rfl rfl) rfl ?_
   refine A0 (E6 0 1 10 11 49) ?_
   refine C0 rfl ?_ ?_ <;> intro hc
   ·
    have h0 : ¬ q.length = 0 := by simp at hc; omega
    have hql := hq.len
    obtain ⟨m, hm⟩ : ∃ m, min 16 q.length = m := ⟨_, rfl⟩
    obtain ⟨hfm, hdr, htl⟩ := C0R q hm
    obtain ⟨Q, hQe⟩ : ∃ z, q.take 16 ++ [1] = z := ⟨_, rfl⟩
    have hQl : m + 1 = Q.length := by rw [← hQe, List.length_append, htl]; rfl
    have hQt : ∀ x ∈ Q, x < 256 := fun x hx => by rw [← hQe] at hx; rcases List.mem_append.1 hx with h | h; exact hq.lt x (List.mem_of_mem_take h); rw [List.mem_singleton.1 h]; decide
    refine A7 (nx (D7 0 1 10 11) (A5 (A1 (mv_ ?_))))
    refine A2 (F8 (sz := 1) rfl kR hq.rd) rfl ?_
    refine A2 (A4C ((m : Nat) : Int) rfl rfl (by split <;> omega)) rfl ?_
    refine as_ (A0 (E6 0 1 10 11 12) (A3 (A1 (mv_ (mv_ ?_)))))
    refine C7 (aS rfl (aS rfl a0)) kR (B5C u q m _ (hq.mono qS) qO) rfl ?_
    rintro v55 M55 J55 hs55
    haveI := hs55.cel
    refine A4 rfl (C4 (e := 5) (sz := 1) (z := [.int .u8 0]) kR (eS rfl e0) (bdS 0 1 rfl qR bd0) rfl fun b56 => ?_)
    refine A4 rfl (G9 (e := 5) (sz := 1) (by_ := 1) rfl rfl kR rfl hs55 (Rd.whole (n := 1) (cs := nums .u8 [1]) At.mem qR) F3 qP (by unfold maxLen; omega) qO rfl fun v57 B57 hs57 => ?_)
    haveI := hs57.cel
    have hby : By B57 v57 Q := ⟨A02 (hs57.rd fun _ h => h) (by rw [hQl]) (by rw [hfm, ← H6, hQe]), hQt, by omega⟩
    refine F0 (aS rfl a0) kR (B1L v57 Q _ (hby.mono qS) qO) rfl ?_
    refine mv_ (A0 (S9 0 1 10 11 12 58 59) (A5 ?_))
    refine E1 (α := Nat) (fun k => [(0, v16), (1, u), (10, (vP b10)), (11, (vP b11)), (12, (vI m)), (58, .agg (nums .u64 (ptN Q)).toArray), (59, (vI k))]) (fun k => [(b11, blk (nums .u64 (adS l (ptN Q) k)) 152), (b10, blk (nums .u64 (ptN R)) 152)]) (fun _ => _) (fun k => k ≤ 5) (fun k => 5 - k) 0 (Nat.zero_le _) (S9 0 1 10 11 12 58 59) (Fit.pick (B := [(b11, blk (nums .u64 l) 152)]) qP (Fit.pick (B := [(b10, blk (nums .u64 (ptN R)) 152)]) qP qZ)) qI ?_
    rintro k hk5
    try dsimp only at hk5 ⊢
    have hok := B5D hl5 (ptN Q) k
    refine A1 ?_
    refine A2 (D9 rfl rfl rfl) rfl ?_
    refine A0 (V3 0 1 10 11 12 58 59 60) (A3 ?_)
    refine C0 rfl ?_ ?_ <;> intro hc
    ·
     have hlt : k < 5 := by simp at hc; omega
     refine A7 (nx (S9 0 1 10 11 12 58 59) (A3 (A5 (A1 (mv_ ?_)))))
     refine A2 (A5f (m := 5) (e := 94) (j := k) (cs := nums .u64 (ptN Q)) (u := .int .u64 (((ptN Q).getD k 0 : Nat) : Int)) rfl rfl kR kR kR rfl qO (P7 (by rw [(A2i Q).len]; omega))) rfl ?_
     refine as_ (as_ (A0 (A0j 0 1 10 11 12 13 14 58 59) (A9 (mv_ ?_))))
     refine A2 (D0 (e := 94) (n := 5) (sz := 1) (i := k) (k) rfl rfl kR kR rfl qO qO) rfl ?_
     refine A2 (I3 (k) rfl kR At.mem rfl (by rw [hok.len]; omega)) rfl ?_
     refine mv_ ?_
     refine A2 (G1 18446744073709551616 rfl rfl rfl rfl rfl rfl) rfl ?_
     refine A2 (D0 (e := 94) (n := 5) (sz := 1) (i := k) (k) rfl rfl kR kR rfl qO qO) rfl ?_
     refine A4 rfl (I8 (k) rfl rfl kR rfl (by rw [hok.len]; omega) UpC.upd ?_)
     refine C1 (nb (nx (S9 0 1 10 11 12 58 59) (A9 ?_)))
     refine A2 (D1 ((k + 1 : Nat) : Int) rfl rfl (E5 qO qO qO)) rfl ?_
     refine mv_ (C1 ?_)
     exact rn (k + 1) hlt qO (S9 0 1 10 11 12 58 59) (Fit.eq rfl) qI
    ·
     obtain rfl : k = 5 := by simp at hc; omega
     refine D4 (te (re (be rfl (nx (E6 0 1 10 11 12) (A1 ?_)))))
     refine A2 (L8 (n := 5) (cs := nums .u64 (adS l (ptN Q) 5)) rfl kR At.mem (by rw [nums_len]; exact hok.len)) rfl ?_
     refine A2 (L8 (n := 5) (cs := nums .u64 (ptN R)) rfl kR At.mem (by rw [nums_len]; exact (A2i R).len)) rfl ?_
     refine F0 (aS rfl (aS rfl a0)) kR (B7v (adS l (ptN Q) 5) (ptN R) _ hok (A2i R)) rfl ?_
     refine A4 rfl (A8 (vs := nums .u64 (A4x (adS l (ptN Q) 5) (ptN R))) rfl rfl rfl (by rw [nums_len, (A1u _ _).len]; kernel_rfl) (by rw [nums_len, nums_len, (A1u _ _).len, hok.len]) F3 UpC.upd ?_)
     refine A0 (E6 0 1 10 11 12) (A9 (mv_ (mv_ ?_)))
     refine A2 (A15 (sz := 1) (a := m) rfl rfl kR rfl hq.rd qO) rfl ?_
     have h75 := hq.lo m qO
     haveI := h75.cel
     have hst := B4r (ptN R) l q h0
     have hS := A1u (adS l (ptN Q) 5) (ptN R)
     rw [hQe, ← hdr] at hst
     generalize A4x (adS l (ptN Q) 5) (ptN R) = S at *
     have hst2 := hst.symm.trans hT
     refine as_ (C1 (nb ?_))
     exact rn (vLo m 1 u, q.drop m, S) ⟨h75, hS, hst2⟩ (by dsimp only; rw [List.length_drop]; omega) (D7 0 1 10 11) (Fit.eq rfl) (fun _ h => List.mem_append_right _ h)
   ·
    have h0 : q.length = 0 := by have h := of_decide_eq_false hc; omega
    rw [B7x _ _ _ h0] at hT
    rw [← hT]
    refine D4 (te (re (be rfl (nx (D3 0 11) ?_))))
    refine D2 [0, 1, 2, 3, 4] (zp 0 [1, 0, 0, 2, 0]) kR kR fun hs => ?_
    refine H2 hs rfl (L8 (n := 5) (cs := nums .u64 l) rfl kR At.mem (by rw [nums_len]; exact hl5.len)) rfl ?_
    refine fm_ hs ?_
    refine C2 hs rfl (A15 (sz := 1) (a := 16) rfl rfl kR rfl h16.rd qO) rfl ?_
    have h78 := h16.lo 16 qO
    haveI := h78.cel
    refine T4 rfl (aS rfl (aS rfl a0)) kR (C0Q l (K.drop 16) _ _ hl5 (h78.mono qS) (by rw [List.length_drop]; omega)) rfl ?_
    rintro v79 M79 J79 ⟨rfl, h79⟩
    haveI := h79.cel
    refine fa_ hs ?_
    refine E9 (D5 4) (B0 ?_)
    exact ⟨_, [], [], I4 rfl rfl, qZ, rfl, h79.mono qS⟩

end Go.Proofs.YtlilcmjbaknafaaGreatDoor
