/- Part 17 of the texts of this claim, one behind the other. -/
import Derived.Test.YtlilcmjbaknafaaGreatDoorB16
set_option linter.unusedVariables false
set_option linter.unusedSimpArgs false
set_option maxRecDepth 100000
namespace Go.Proofs.YtlilcmjbaknafaaGreatDoor
open Go.Px
theorem B1T (w : LN) : G7 w w.length = w := by unfold G7; rw [List.take_length, Nat.sub_self]; simp
def mcN (wa o : LN) : LN := A9l (A9l wa ++ o)
def nlO (wa o : LN) (i : Nat) : Nat := if i = 0 then wa.length else o.length
def mcO (wa o : LN) : Nat → LN
  | 0 => mcN wa o
  | i + 1 => mcO wa o i ++ A82 (nlO wa o i)
def A7u (K N wa o : LN) : LN := B7w (G7 ((B79 K 0 N).take 32) 32) (mcO wa o 2)
def V9 (K N wa p : LN) : LN := A5Q K 1 N p ++ A7u K N wa (A5Q K 1 N p)
def X9 (K N wa g : LN) : Option (LN) := if g.length < 16 then none else if A7u K N wa (g.take (g.length - 16)) = g.drop (g.length - 16) then some (A5Q K 1 N (g.take (g.length - 16))) else none
theorem A4b (K N wa o : LN) : (A7u K N wa o).length = 16 := B4q _ _
theorem A6P (K N wa p : LN) : X9 K N wa (V9 K N wa p) = some p := by
  have h1 := Y7 K 1 N p
  have h2 := A4b K N wa (A5Q K 1 N p)
  have h3 : (V9 K N wa p).length - 16 = (A5Q K 1 N p).length := by unfold V9; rw [List.length_append]; omega
  have h4 : ¬ (V9 K N wa p).length < 16 := by unfold V9; rw [List.length_append]; omega
  have h5 : (V9 K N wa p).take (A5Q K 1 N p).length = A5Q K 1 N p := by unfold V9; rw [List.take_left]
  have h6 : (V9 K N wa p).drop (A5Q K 1 N p).length = A7u K N wa (A5Q K 1 N p) := by unfold V9; rw [List.drop_left]
  unfold X9
  rw [if_neg h4, h3, h5, h6, if_pos rfl, A9k]
theorem A7v (p : LN) : (A9l p).length ≤ p.length + 16 := by rw [A8r]; omega
theorem B7y (wa o : LN) : (mcN wa o).length ≤ wa.length + o.length + 32 := by
  have h1 := A7v (A9l wa ++ o)
  have h2 := A7v wa
  rw [List.length_append] at h1
  unfold mcN; omega
theorem A8s (n : Nat) : (A82 n).length = 8 := by simp [A82]
theorem B1U (wa o : LN) : ∀ i, (mcO wa o i).length = (mcN wa o).length + 8 * i
  | 0 => rfl
  | i + 1 => by show (mcO wa o i ++ A82 _).length = _; rw [List.length_append, B1U wa o i, A8s]; omega
theorem B1V {p : LN} (h : ∀ x ∈ p, x < 256) : ∀ x ∈ A9l p, x < 256 := fun x hx => by
  rcases List.mem_append.1 hx with h1 | h1
  · exact h x h1
  · rw [(List.mem_replicate.1 h1).2]; decide
theorem B5E {wa o : LN} (hw : ∀ x ∈ wa, x < 256) (ho : ∀ x ∈ o, x < 256) : ∀ i, ∀ x ∈ mcO wa o i, x < 256
  | 0 => B1V fun x hx => (List.mem_append.1 hx).elim (B1V hw x) (ho x)
  | i + 1 => fun x hx => (List.mem_append.1 hx).elim (B5E hw ho i x) (B0y _ x)
theorem _root_.Go.Px.By.hi {R : Mem} {v : Value} {w : LN} (h : By R v w) (k : Nat) (hk : k ≤ w.length) : By R (vHi k v) (w.take k) := by
  refine ⟨?_, fun x hx => h.lt x (List.mem_of_mem_take hx), by rw [List.length_take]; have := h.len; omega⟩
  have h1 := h.rd.hiV k hk
  rw [List.length_take, Nat.min_eq_left hk]
  simpa [nums] using h1
theorem B5F (v vn v2 v3 : Value) (kw nw wa o : LN) (A : Mem) (hk : By A v kw) (hno : By A vn nw) (hw : By A v2 wa) (ho : By A v3 o) (hl : wa.length + o.length ≤ 16000000) : FnX Tryz.prog 81 [v, vn, v2, v3] [] A fun q M J => M = [] ∧ By J q (A7u (G7 kw 32) (G7 nw 12) wa o) := by
 haveI := hk.cel
 haveI := hno.cel
 haveI := hw.cel
 haveI := ho.cel
 refine FnX.enterZ (N := 51) Tryz.func81 rfl rfl rfl fun w_ => ?_
 refine B4 (D7 0 1 2 3) (A1 (as_ (A0 (D7 0 1 2 3) (A1 (mv_ (mv_ ?_))))))
 refine A2 (F8 (sz := 1) rfl kR hw.rd) rfl ?_
 refine C7 (aS rfl (aS rfl a0)) kR (B5C v2 wa wa.length _ (hw.mono qS) qO) rfl ?_
 rintro v16 M16 J16 hs16
 haveI := hs16.cel
 rw [B1T] at hs16
 refine A4 rfl (C6 (Mc := M16) (R := _) (aS rfl a0) kR qP (B9p v16 wa M16 _ hs16 qO) rfl ?_)
 rintro v17 M17 J17 hs17
 haveI := hs17.cel
 have hp1 := A7v wa
 refine as_ (A0 (E6 0 1 2 3 9) (A1 (mv_ (mv_ ?_))))
 refine A4 rfl (G9 (e := 5) (sz := 1) (by_ := 1) rfl rfl kR rfl hs17 (ho.rd.mono qS) F3 qP (by unfold maxLen; omega) qO rfl fun v20 B20 hs20 => ?_)
 haveI := hs20.cel
 replace hs20 : Sl 1 v20 (A9l wa ++ o).length (nums .u8 (A9l wa ++ o)) B20 := X6 hs20 (by rw [List.length_append]) (by rw [H6])
 have hml : (mcN wa o).length ≤ _ := B7y wa o
 refine A4 rfl (C6 (Mc := B20) (R := _) (aS rfl a0) kR qP (B9p v20 (A9l wa ++ o) B20 _ hs20 (by rw [List.length_append]; omega)) rfl ?_)
 rintro v21 M21 J21 hs21
 haveI := hs21.cel
 change Sl 1 v21 (mcO wa o 0).length (nums .u8 (mcO wa o 0)) M21 at hs21
 refine as_ (A0 (E6 0 1 2 3 9) (A3 (A1 (mv_ ?_))))
 refine A2 (F8 (sz := 1) rfl kR hw.rd) rfl ?_
 refine mv_ ?_
 refine A2 (F8 (sz := 1) rfl kR ho.rd) rfl ?_
 refine A4 rfl (C4 (e := 3) (sz := 1) (z := [.int .i64 0, .int .i64 0]) kR (eS rfl (eS rfl e0)) (bdS 0 1 rfl qR (bdS 1 1 rfl qR bd0)) rfl fun b26 => ?_)
 refine A2 (A07 (e := 3) rfl kR) rfl ?_
 refine mv_ (A0 (H5 0 1 9 26 27 28) (A5 ?_))
 refine A0Z (B := [(b26, blk [(vI wa.length), (vI o.length)] 3)]) qP ?_
 refine E1 (α := Nat × Value × Mem) (fun y => [(0, v), (1, vn), (9, y.2.1), (26, .slice (some ⟨b26, 0, none⟩) 2 2), (27, .int .i64 2), (28, (vI y.1))]) (fun y => y.2.2) (fun _ => _) (fun y => y.1 ≤ 2 ∧ Sl 1 y.2.1 (mcO wa o y.1).length (nums .u8 (mcO wa o y.1)) y.2.2) (fun y => 2 - y.1) (0, v21, M21) ⟨Nat.zero_le _, hs21⟩ (H5 0 1 9 26 27 28) (Fit.eq qM) qI ?_
 rintro ⟨i, u, B⟩ ⟨hi, hsl⟩
 dsimp only at hi hsl ⊢
 haveI := hsl.cel
 have hil := B1U wa o i
 refine A1 ?_
 refine A2 (D9 rfl rfl rfl) rfl ?_
 refine A0 (S9 0 1 9 26 27 28 29) (A3 ?_)
 refine C0 rfl ?_ ?_ <;> intro hc
 ·
  have hlt : i < 2 := by simp at hc; omega
  have hnl : nlO wa o i ≤ 16000000 := by unfold nlO; split <;> omega
  refine A7 (nx (H5 0 1 9 26 27 28) (A3 (A5 (A1 ?_))))
  refine A2 (K9 (e := 3) (i := i) (sz := 1) rfl rfl kR kR rfl hlt) rfl ?_
  refine A2 (I7 (v := .int .i64 ((nlO wa o i : Nat) : Int)) rfl kR At.mem (by rcases (by omega : i = 0 ∨ i = 1) with rfl | rfl <;> rfl)) rfl ?_
  refine as_ (A0 (S9 0 1 9 11 26 27 28) (A1 (mv_ (A0 (V3 0 1 9 11 26 27 28 32) (A5 ?_)))))
  obtain ⟨n, hne⟩ : ∃ z, nlO wa o i = z := ⟨_, rfl⟩
  rw [hne] at hnl ⊢
  obtain ⟨q, hqe⟩ : ∃ z, mcO wa o i = z := ⟨_, rfl⟩
  rw [hqe] at hil hsl
  refine E1 (α := Nat × Value × Mem) (fun y => [(0, v), (1, vn), (9, y.2.1), (11, (vI n)), (26, .slice (some ⟨b26, 0, none⟩) 2 2), (27, .int .i64 2), (28, (vI i)), (32, (vI y.1))]) (fun y => y.2.2) (fun _ => _) (fun y => y.1 ≤ 8 ∧ Sl 1 y.2.1 (q.length + y.1) (nums .u8 (q ++ (List.range y.1).map (byt ((n : Nat) : Int)))) y.2.2) (fun y => 8 - y.1) (0, u, B) ⟨Nat.zero_le _, X6 hsl rfl qM⟩ (V3 0 1 9 11 26 27 28 32) .rfl qI ?_
  rintro ⟨k, u2, B2⟩ ⟨hk8, hsl2⟩
  dsimp only at hk8 hsl2 ⊢
  haveI := hsl2.cel
  refine A1 ?_
  refine A2 (D9 rfl rfl rfl) rfl ?_
  refine A0 (A0j 0 1 9 11 26 27 28 32 33) (A3 ?_)
  refine C0 rfl ?_ ?_ <;> intro hc
  ·
   have hlt2 : k < 8 := by simp at hc; omega
   refine A7 (nx (V3 0 1 9 11 26 27 28 32) (A3 (A5 (A1 (mv_ (as_ (A0 (A0j 0 1 9 11 12 26 27 28 32) (A9 ?_))))))))
   refine mv_ (mv_ (mv_ ?_))
   refine A2 (A0Y (a := 8) rfl rfl rfl rfl qO) rfl ?_
   refine A2 (B0q (k := k) rfl rfl rfl hlt2) rfl ?_
   refine A2 (B0r rfl kR) rfl ?_
   refine A4 rfl (C4 (e := 5) (sz := 1) (z := [.int .u8 0]) kR (eS rfl e0) (bdS 0 1 rfl qR bd0) rfl fun b41 => ?_)
   refine A4 rfl (G9 (e := 5) (sz := 1) (by_ := 1) rfl rfl kR rfl hsl2 (Rd.whole (n := 1) (cs := nums .u8 [byt ((n : Nat) : Int) k]) At.mem qR) F3 qP (by unfold maxLen; omega) qO rfl fun v42 B42 hs42 => ?_)
   haveI := hs42.cel
   refine as_ (C1 (nb (nx (V3 0 1 9 11 26 27 28 32) (A9 ?_))))
   refine A2 (D1 ((k + 1 : Nat) : Int) rfl rfl (E5 qO qO qO)) rfl ?_
   refine mv_ (C1 ?_)
   exact rn (k + 1, v42, B42) ⟨by dsimp only; omega, X6 hs42 (by dsimp only; omega) (by dsimp only; rw [List.range_succ, List.map_append, ← List.append_assoc, H6 (ws := q ++ List.map (byt ((n : Nat) : Int)) (List.range k))]; rfl)⟩ (by dsimp only; omega) (V3 0 1 9 11 26 27 28 32) (Fit.sub (List.sublist_append_left _ _)) qI
  ·
   obtain rfl : k = 8 := by simp at hc; omega
   refine D4 (te (re (be rfl (nb (nx (H5 0 1 9 26 27 28) (A9 ?_))))))
   refine A2 (D1 ((i + 1 : Nat) : Int) rfl rfl (E5 qO qO qO)) rfl ?_
   refine mv_ (C1 ?_)
   exact rn (i + 1, u2, B2) ⟨by dsimp only; omega, by have e : mcO wa o (i + 1) = q ++ A82 n := (by rw [← hqe, ← hne]; rfl); dsimp only; rw [e]; exact X6 hsl2 (by rw [List.length_append, A8s]) rfl⟩ (by dsimp only; omega) (H5 0 1 9 26 27 28) .rfl qI
 ·
  obtain rfl : i = 2 := by simp at hc; omega
  refine D4 (te (re (be rfl (nx (D8 0 1 9) (A1 (mv_ (mv_ ?_)))))))
  refine C7 (aS rfl (aS rfl (aS rfl a0))) kR (B1I v vn kw nw 0 _ (hk.mono qS) (hno.mono qS) qD) rfl ?_
  rintro v47 M47 J47 ⟨rfl, h47⟩
  haveI := h47.cel
  have hbl : (B79 (G7 kw 32) 0 (G7 nw 12)).length = 64 := A39 _ _ _
  have h48 := h47.hi 32 qO
  haveI := h48.cel
  refine A2 (A4J (sz := 1) (a := 32) rfl rfl kR rfl h47.rd qO) rfl ?_
  refine mv_ ?_
  refine A3E (B := B) qP ?_
  have hby : By B u (mcO wa o 2) := ⟨hsl.rd fun _ h => h, B5E hw.lt ho.lt 2, by omega⟩
  refine C7 (aS rfl (aS rfl a0)) kR (B9r (vHi 32 v47) u ((B79 (G7 kw 32) 0 (G7 nw 12)).take 32) (mcO wa o 2) _ (h48.mono qS) (hby.mono qS)) rfl ?_
  rintro v50 M50 J50 ⟨rfl, h50⟩
  haveI := h50.cel
  refine as_ (A0 (D5 8) (B0 ?_))
  exact ⟨_, [], [], I4 rfl rfl, qZ, rfl, h50.mono qS⟩
theorem B7z (v vn v2 v3 : Value) (kw nw wa o : LN) (A : Mem) (hk : By A v kw) (hno : By A vn nw) (hw : By A v2 wa) (ho : By A v3 o) (hl : wa.length + o.length ≤ 16000000) : FnX Tryz.prog 64 [v, vn, v2, v3] [] A fun q M J => M = [] ∧ By J q (V9 (G7 kw 32) (G7 nw 12) wa o) := by
 haveI := hk.cel
 haveI := hno.cel
 haveI := hw.cel
 haveI := ho.cel
 refine FnX.enterZ (N := 21) Tryz.func64 rfl rfl rfl fun w_ => ?_
 refine B4 (D7 0 1 2 3) (A1 (as_ (A0 (D7 0 1 2 3) (A1 (mv_ (mv_ (mv_ ?_)))))))
 refine C7 (aS rfl (aS rfl (aS rfl (aS rfl a0)))) kR (A8p v vn v3 kw nw o 1 _ (hk.mono qS) (hno.mono qS) (ho.mono qS) qD) rfl ?_
 rintro v13 M13 J13 ⟨b13, rfl, rfl, h13⟩
 have hsl := Y7 (G7 kw 32) 1 (G7 nw 12) o
 refine as_ (A0 (D7 0 1 2 9) (A1 (mv_ (mv_ (mv_ (mv_ (mv_ ?_)))))))
 refine C7 (aS rfl (aS rfl (aS rfl (aS rfl a0)))) kR (B5F v vn v2 _ kw nw wa (A5Q (G7 kw 32) 1 (G7 nw 12) o) _ (hk.mono qS) (hno.mono qS) (hw.mono qS) (h13.mono qS) qO) rfl ?_
 rintro v19 M19 J19 ⟨rfl, h19⟩
 haveI := h19.cel
 have htl := A4b (G7 kw 32) (G7 nw 12) wa (A5Q (G7 kw 32) 1 (G7 nw 12) o)
 refine A4 rfl (A6r (e := 5) (sz := 1) (by_ := 1) rfl rfl kR rfl (A02 (h13.rd.mono qS) hsl rfl) (h19.rd.mono qS) qO (by unfold maxLen; omega) qO rfl fun v20 B20 hs20 => ?_)
 haveI := hs20.cel
 refine as_ (A0 (D5 8) (B0 ?_))
 exact ⟨_, [], B20, I4 rfl rfl, Fit.pick qP qZ, rfl, ⟨A02 (hs20.rd fun x hx => by simp [hx]) (by unfold V9; rw [List.length_append, hsl]) (by unfold V9; rw [H6]), fun x hx => (List.mem_append.1 hx).elim (h13.lt x) (h19.lt x), by unfold V9; rw [List.length_append]; omega⟩⟩
theorem B7A (v vn v2 v3 : Value) (kw nw wa o : LN) (A : Mem) (hk : By A v kw) (hno : By A vn nw) (hw : By A v2 wa) (ho : By A v3 o) (h16 : o.length < 16) : FnX Tryz.prog 76 [v, vn, v2, v3] [] A fun q M J => M = [] ∧ ∃ u, q = .tuple #[u, .bool (X9 (G7 kw 32) (G7 nw 12) wa o).isSome] ∧ By J u ((X9 (G7 kw 32) (G7 nw 12) wa o).getD []) := by
 haveI := hk.cel
 haveI := hno.cel
 haveI := hw.cel
 haveI := ho.cel
 refine FnX.enterZ (N := 37) Tryz.func76 rfl rfl rfl fun w_ => ?_
 refine B4 (D7 0 1 2 3) (A1 (as_ (as_ (A0 (D7 0 1 2 3) (A1 (mv_ ?_))))))
 refine A2 (F8 (sz := 1) rfl kR ho.rd) rfl ?_
 refine A2 (D1 (((o.length : Nat) : Int) - 16) rfl rfl (A0q qO qO qO)) rfl ?_
 refine as_ (A0 (E6 0 1 2 3 10) (A3 ?_))
 refine D2 (.range 17) [(0, 0), (1, 0), (2, 0), (3, 0), (4, 0), (5, 0), (6, 0), (7, 0), (8, 0), (11, 0), (12, 0), (13, 0), (14, 1), (9, 2), (10, 1), (15, 0), (16, 0)] kR kR fun hs => ?_
 refine fm_ hs ?_
 refine C2 hs rfl (F4 true rfl rfl (ltT qO)) rfl ?_
 refine fm_ hs ?_
 refine K3 hs ?_
 refine K3 hs ?_
 refine K3 hs ?_
 refine K3 hs ?_
 refine K3 hs ?_
 refine K3 hs ?_
 refine K3 hs ?_
 refine K3 hs ?_
 refine K3 hs ?_
 refine X4 hs ?_
 refine W8 hs rfl rfl rfl rfl rfl rfl ?_
 refine X4 hs ?_
 refine K3 hs ?_
 refine C2 hs rfl (E2 rfl rfl) rfl ?_
 refine E9 (E6 0 1 3 10 30) ?_
 refine C8 rfl ?_
 refine A1 (as_ (as_ (A0 (D3 8 9) (B0 (tr ?_)))))
 refine ⟨_, [], [], A1U rfl rfl rfl, qZ, rfl, vS, ?_, ?_⟩
 · unfold X9; rw [if_pos h16]; rfl
 · unfold X9; rw [if_pos h16]; exact By.nil
theorem B7B (v vn v2 v3 : Value) (kw nw wa o : LN) (A : Mem) (hk : By A v kw) (hno : By A vn nw) (hw : By A v2 wa) (ho : By A v3 o) (hl : wa.length + o.length ≤ 16000000) (h16 : ¬ o.length < 16) : FnX Tryz.prog 76 [v, vn, v2, v3] [] A fun q M J => M = [] ∧ ∃ u, q = .tuple #[u, .bool (X9 (G7 kw 32) (G7 nw 12) wa o).isSome] ∧ By J u ((X9 (G7 kw 32) (G7 nw 12) wa o).getD []) := by
 haveI := hk.cel
 haveI := hno.cel
 haveI := hw.cel
 haveI := ho.cel
 refine FnX.enterZ (N := 37) Tryz.func76 rfl rfl rfl fun w_ => ?_
 refine B4 (D7 0 1 2 3) (A1 (as_ (as_ (A0 (D7 0 1 2 3) (A1 (mv_ ?_))))))
 refine A2 (F8 (sz := 1) rfl kR ho.rd) rfl ?_
 refine A2 (D1 ((o.length - 16 : Nat) : Int) rfl rfl (A0q qO qO qO)) rfl ?_
 have hhi := ho.hi (o.length - 16) qO
 have hlo := ho.lo (o.length - 16) qO
 haveI := hhi.cel
 haveI := hlo.cel
 refine as_ (A0 (E6 0 1 2 3 10) (A3 ?_))
 refine D2 (.range 17) [(0, 0), (1, 0), (2, 0), (3, 0), (4, 0), (5, 0), (6, 0), (7, 0), (8, 0), (11, 0), (12, 0), (13, 0), (14, 1), (9, 2), (10, 1), (15, 0), (16, 0)] kR kR fun hs => ?_
 refine fm_ hs ?_
 refine C2 hs rfl (F4 false rfl rfl (ltF qO)) rfl ?_
 refine fm_ hs ?_
 refine F7 hs rfl rfl rfl rfl qm_ rfl ?_
 refine F7 hs rfl rfl rfl rfl qm_ rfl ?_
 refine F7 hs rfl rfl rfl rfl qm_ rfl ?_
 refine F7 hs rfl rfl rfl rfl qm_ rfl ?_
 refine F7 hs rfl rfl rfl rfl qm_ rfl ?_
 refine F7 hs rfl rfl rfl rfl (A4J (sz := 1) (a := o.length - 16) rfl rfl kR rfl ho.rd qO) rfl ?_
 refine F7 hs rfl rfl rfl rfl qm_ rfl ?_
 refine F7 hs rfl rfl rfl rfl qm_ rfl ?_
 refine F7 hs rfl rfl rfl rfl (A15 (sz := 1) (a := o.length - 16) rfl rfl kR rfl ho.rd qO) rfl ?_
 refine W7 hs rfl rfl rfl rfl (R8 rfl kR (hlo.rd.mono qS)) rfl ?_
 refine A2Y rfl rfl rfl rfl (aS rfl (aS rfl (aS rfl (aS rfl a0)))) kR (B5F v vn v2 (vHi (o.length - 16) v3) kw nw wa (o.take (o.length - 16)) _ (hk.mono qS) (hno.mono qS) (hw.mono qS) (hhi.mono qS) (by rw [List.length_take]; omega)) rfl ?_
 rintro v23 M23 J23 ⟨rfl, h23⟩
 haveI := h23.cel
 refine W7 hs rfl rfl rfl rfl (R8 rfl kR (h23.rd.mono qS)) rfl ?_
 refine F7 hs rfl rfl rfl rfl (B6n rfl rfl rfl rfl h23.lt hlo.lt) rfl ?_
 refine C2 hs rfl (E3 rfl rfl) rfl ?_
 refine E9 (E6 0 1 3 10 30) ?_
 refine C0 rfl ?_ ?_ <;> intro hc
 ·
  have hne : ¬ A7u (G7 kw 32) (G7 nw 12) wa (o.take (o.length - 16)) = o.drop (o.length - 16) := by simpa using hc
  have he : X9 (G7 kw 32) (G7 nw 12) wa o = none := by unfold X9; rw [if_neg h16, if_neg hne]
  refine A1 (as_ (as_ (A0 (D3 8 9) (B0 (tr ?_)))))
  exact ⟨_, [], [], A1U rfl rfl rfl, qZ, rfl, vS, by rw [he]; rfl, by rw [he]; exact By.nil⟩
 ·
  have heq : A7u (G7 kw 32) (G7 nw 12) wa (o.take (o.length - 16)) = o.drop (o.length - 16) := by simpa using hc
  have he : X9 (G7 kw 32) (G7 nw 12) wa o = some (A5Q (G7 kw 32) 1 (G7 nw 12) (o.take (o.length - 16))) := by unfold X9; rw [if_neg h16, if_pos heq]
  refine A7 (nx (D7 0 1 3 10) (A1 (mv_ (mv_ (mv_ (mv_ ?_))))))
  refine A2 (A4J (sz := 1) (a := o.length - 16) rfl rfl kR rfl ho.rd qO) rfl ?_
  refine C7 (aS rfl (aS rfl (aS rfl (aS rfl a0)))) kR (B4n v vn (vHi (o.length - 16) v3) kw nw (o.take (o.length - 16)) 1 _ (hk.mono qS) (hno.mono qS) (hhi.mono qS) qD) rfl ?_
  rintro v36 M36 J36 ⟨rfl, h36⟩
  haveI := h36.cel
  refine as_ (as_ (A0 (D3 8 9) (B0 ?_)))
  exact ⟨_, [], [], A1U rfl rfl rfl, qZ, rfl, v36, by rw [he]; rfl, by rw [he]; exact h36.mono qS⟩
theorem B7C (v vn v2 v3 : Value) (kw nw wa o : LN) (A : Mem) (hk : By A v kw) (hno : By A vn nw) (hw : By A v2 wa) (ho : By A v3 o) (hl : wa.length + o.length ≤ 16000000) : FnX Tryz.prog 76 [v, vn, v2, v3] [] A fun q M J => M = [] ∧ ∃ u, q = .tuple #[u, .bool (X9 (G7 kw 32) (G7 nw 12) wa o).isSome] ∧ By J u ((X9 (G7 kw 32) (G7 nw 12) wa o).getD []) := by
  by_cases h : o.length < 16
  · exact B7A v vn v2 v3 kw nw wa o A hk hno hw ho h
  · exact B7B v vn v2 v3 kw nw wa o A hk hno hw ho hl h

def n12 : LN := List.replicate 12 0
theorem B1W (w : LN) : G7 (G7 w 32) 32 = G7 w 32 := A7r (K6 w 32)
theorem A8t {a b x y : LN} (ha : a.length < 18446744073709551616) (hb : b.length < 18446744073709551616) (h : mark a ++ x = mark b ++ y) : a = b ∧ x = y := by
  unfold mark at h
  rw [List.append_assoc, List.append_assoc] at h
  obtain ⟨h1, h2⟩ := A5n (A0a (.inr rfl)) (A0a (.inr rfl)) (show dec a.length ++ 58 :: (a ++ x) = dec b.length ++ 58 :: (b ++ y) from h)
  have h3 : a.length = b.length := by
    have := congrArg dv h1
    rwa [A1e ha, A1e hb] at this
  exact List.append_inj h2 h3
theorem B1X {x : Int} {a b : LN} (h : Tmo (A2L x a b)) : a.length < 18446744073709551616 ∧ b.length < 18446744073709551616 := by
  have h1 : (mark a ++ mark b).length ≤ 1099511627776 := h.tl
  rw [List.length_append] at h1
  have h2 : a.length ≤ (mark a).length := by simp [mark]; omega
  have h3 : b.length ≤ (mark b).length := by simp [mark]; omega
  omega
theorem A8u {x y : Int} {a b c d : LN} (h1 : Tmo (A2L x a b)) (h2 : Tmo (A2L y c d)) (h : A2L x a b = A2L y c d) : x = y ∧ a = c ∧ b = d := by
  obtain ⟨l1, l2⟩ := B1X h1
  obtain ⟨l3, l4⟩ := B1X h2
  unfold A2L at h
  injection h with h1 h2 h3 h4
  obtain ⟨h5, h6⟩ := A8t l1 l3 h3
  obtain ⟨h7, -⟩ := A8t (x := []) (y := []) l2 l4 (by rw [List.append_nil, List.append_nil]; exact h6)
  exact ⟨(List.cons.inj h2).1, h5, h7⟩
def A9m (ts : List Tm) (w wa wg t : LN) : Prop := wg.length = 32 ∧ ∃ i j : Nat, plc wg ts.length = some i ∧ plc w ts.length = some j ∧ ts[i]? = some (A2L ((j : Nat) : Int) wa t)
theorem A9m.inj {ts : List Tm} (ht : Tok ts) {w wa wg t t' : LN} (h : A9m ts w wa wg t) (h' : A9m ts w wa wg t') : t = t' := by
  obtain ⟨-, i, j, h1, h2, h3⟩ := h
  obtain ⟨-, i', j', g1, g2, g3⟩ := h'
  rw [h1] at g1
  obtain rfl := Option.some.inj g1
  rw [h3] at g3
  have m1 := ht.tmo _ (List.mem_of_getElem? h3)
  have e := Option.some.inj g3
  exact (A8u m1 (e ▸ m1) e).2.2
open Classical in
noncomputable def B1Y (ts : List Tm) (w wa wg : LN) : Option (LN) := if h : ∃ t, A9m ts w wa wg t then some (Classical.choose h) else none
theorem A6Q {ts : List Tm} (ht : Tok ts) {w wa wg t : LN} (h : A9m ts w wa wg t) : B1Y ts w wa wg = some t := by
  unfold B1Y
  have h2 : ∃ t, A9m ts w wa wg t := ⟨t, h⟩
  rw [dif_pos h2, (Classical.choose_spec h2).inj ht h]
theorem A2k {ts : List Tm} {w wa wg : LN} (h : ∀ t, ¬ A9m ts w wa wg t) : B1Y ts w wa wg = none := dif_neg fun ⟨t, ht⟩ => h t ht
noncomputable def A1Q (s : Ps) (w wa wg : LN) : Option (LN) := if s.real then X9 (G7 w 32) n12 wa wg else B1Y s.ts w wa wg
theorem B1Z {s : Ps} (h : s.real = true) (w wa wg : LN) : A1Q s w wa wg = X9 (G7 w 32) n12 wa wg := if_pos h
theorem A4c {s : Ps} (h : s.real = false) (w wa wg : LN) : A1Q s w wa wg = B1Y s.ts w wa wg := if_neg (by rw [h]; decide)
def A9x (s : Ps) (w wa wb : LN) : Ps := if s.real then s else B5d s w fun x => A2L x wa wb
def B7D (s : Ps) (w wa wb : LN) : LN := if s.real then V9 (G7 w 32) n12 wa wb else B5e s w fun x => A2L x wa wb
theorem B5G {s : Ps} (h : s.real = true) (w wa wb : LN) : A9x s w wa wb = s := if_pos h
theorem B5H {s : Ps} (h : s.real = false) (w wa wb : LN) : A9x s w wa wb = B5d s w fun x => A2L x wa wb := if_neg (by rw [h]; decide)
theorem B5I {s : Ps} (h : s.real = true) (w wa wb : LN) : B7D s w wa wb = V9 (G7 w 32) n12 wa wb := if_pos h
theorem B5J {s : Ps} (h : s.real = false) (w wa wb : LN) : B7D s w wa wb = B5e s w fun x => A2L x wa wb := if_neg (by rw [h]; decide)
def X3 (ts : List Tm) : Prop := ∀ t ∈ ts, t.kind = 6 → ∃ x a b, t = A2L x a b ∧ (∀ y ∈ b, y < 256) ∧ b.length ≤ 16777216
theorem X3.nil : X3 [] := fun t h => by cases h
theorem X3.add {ts : List Tm} (h : X3 ts) {t : Tm} (ht : t.kind = 6 → ∃ x a b, t = A2L x a b ∧ (∀ y ∈ b, y < 256) ∧ b.length ≤ 16777216) : X3 (add ts t) := by
  unfold Go.Proofs.YtlilcmjbaknafaaGreatDoor.add
  split
  · exact h
  · intro u hu hk
    rcases List.mem_append.1 hu with hu | hu
    · exact h u hu hk
    · rw [List.mem_singleton.1 hu] at hk ⊢; exact ht hk
theorem X3.not {ts : List Tm} (h : X3 ts) {t : Tm} (ht : t.kind ≠ 6) : X3 (Go.Proofs.YtlilcmjbaknafaaGreatDoor.add ts t) := h.add fun hk => absurd hk ht
theorem X3.rd {ts : List Tm} (h : X3 ts) (w : LN) : X3 (rdT ts w) := by
  unfold rdT
  split
  · exact h
  · exact h.not (show (2 : Nat) ≠ 6 by decide)
theorem B7E {s s' : Ps} {w wa wb : LN} (ht : Tok s.ts) (hw : Kok s w) (ha : ∀ x ∈ wa, x < 256) (hb : ∀ x ∈ wb, x < 256) (la : wa.length ≤ 16777216) (lb : wb.length ≤ 16777216) (he : Pext (A9x s w wa wb) s') (ht' : Tok s'.ts) (hl : s'.ts.length ≤ 1048576) : A1Q s' w wa (B7D s w wa wb) = some wb := by
  cases hr : s.real with
  | true =>
    rw [B5G hr] at he
    rw [B1Z (he.real.trans hr), B5I hr, A6P]
  | false =>
    rw [B5H hr] at he
    have hr' : s'.real = false := he.real.trans hr
    obtain ⟨l, e⟩ := he.ts
    obtain ⟨i, hi, rfl⟩ := hw hr
    have hlen : s.ts.length ≤ 1048576 := by
      have hge : ∃ l, add (rdT s.ts (bts ((i : Nat) : Int))) (A2L ((rdI s.ts (bts ((i : Nat) : Int)) : Nat) : Int) wa wb) = rdT s.ts (bts ((i : Nat) : Int)) ++ l := A5K _ _
      obtain ⟨lx, hge⟩ := hge
      have := congrArg List.length hge
      rw [List.length_append] at this
      have h2 := B0D (ts := s.ts) (w := bts ((i : Nat) : Int))
      have h3 : s'.ts.length = (add (rdT s.ts (bts ((i : Nat) : Int))) (A2L ((rdI s.ts (bts ((i : Nat) : Int)) : Nat) : Int) wa wb)).length + l.length := by rw [e, List.length_append]; rfl
      omega
    obtain ⟨a1, a2⟩ := A3K hi hlen
    rw [A4c hr', B5J hr]
    unfold B5d at e
    unfold B5e
    dsimp only at e
    rw [a1, a2] at e ⊢
    obtain ⟨l0, g1, g2, g3, g4⟩ := A4u (B0I (x := ((i : Nat) : Int)) (by unfold i64; omega) ha hb la lb) ht
    have g5 : s'.ts[at_ s.ts (A2L ((i : Nat) : Int) wa wb)]? = some (A2L ((i : Nat) : Int) wa wb) := by rw [e]; exact A3J g3
    have g6 := (List.getElem?_eq_some_iff.1 g5).1
    refine A6Q ht' ⟨A0N _ qD, _, i, ?_, ?_, g5⟩
    · rw [A1L, show ∀ z : Nat, z < s'.ts.length → u64 ((z : Nat) : Int) = z from fun z hz => by unfold u64; omega, if_pos g6]
      exact g6
    · have hi' : i < s'.ts.length := by rw [e, g1, List.length_append, List.length_append]; omega
      rw [A1L, show u64 ((i : Nat) : Int) = i by unfold u64; omega, if_pos hi']
set_option maxHeartbeats 1000000 in
theorem B7F (pb bt bm : Nat) (s : Ps) (hr : s.real = false) (v v2 v3 : Value) (w wa wg : LN) (j : Nat) (MP A : Mem) (hP : PrmT pb bt bm s MP) (hMP : ∀ x, x ∈ MP → x ∈ A) (hn : s.ts.length ≤ 1048576) (hSel : X3 s.ts) (hv : By A v w) (h2 : By A v2 wa) (h3 : By A v3 wg) (hj : plc w s.ts.length = some j) (hG : Glb A) : FnX Tryz.prog 57 [(vP pb), v, v2, v3] [] A fun q M J => M = [] ∧ ∃ u, q = .tuple #[u, .bool (A1Q s w wa wg).isSome] ∧ By J u ((A1Q s w wa wg).getD []) := by
 obtain ⟨sv, B, MT, rfl, hby, hT⟩ := hP.ex
 have hmd : md s.real = 1 := by rw [hr]; rfl
 have hpb := hMP _ qK
 rw [hmd] at hpb
 have hsub : ∀ x, x ∈ MT → x ∈ A := fun x hx => hMP x (by simp [hx])
 obtain ⟨⟨ge0, gf0, h0⟩, ⟨ge1, gf1, h1⟩, ⟨ge4, gf4, h4⟩⟩ := hG
 haveI := hv.cel
 haveI := h2.cel
 haveI := h3.cel
 haveI := hby.cel
 have h2l := h2.len
 refine FnX.enterZ (N := 96) Tryz.func57 rfl rfl rfl fun w_ => ?_
 refine B4 (D7 0 1 2 3) (A1 (as_ (as_ (A0 (D7 0 1 2 3) (A3 (A1 (mv_ ?_)))))))
 refine A2 (G5 (e := 105) rfl rfl kR) rfl ?_
 refine A0 (E6 0 1 2 3 17) ?_
 refine C9 rfl ?_
 refine A7 (nx (D7 0 1 2 3) (A3 (A1 (mv_ ?_))))
 refine A2 (E4 rfl) rfl ?_
 refine A2 (qf_ 0 0) rfl ?_
 refine A2 (I7 rfl kR (mA hpb) qR) rfl ?_
 refine A2 (F4 false rfl rfl (eqF qD)) rfl ?_
 refine A0 (E6 0 1 2 3 22) ?_
 refine C9 rfl ?_
 refine A7 (nx (D7 0 1 2 3) (A1 (mv_ ?_)))
 refine A2 (E4 rfl) rfl ?_
 refine A2 (qf_ 3 3) rfl ?_
 refine A2 (I7 rfl kR (mA hpb) qR) rfl ?_
 refine mv_ ?_
 refine F0 (aS rfl (aS rfl a0)) kR (A2r bt bm s.ts v3 wg MT _ hT (fun x hx => qS _ (hsub x hx)) hn (h3.rd.mono qS) h3.lt h3.max) rfl ?_
 obtain ⟨i, hie⟩ : ∃ z, (plc wg s.ts.length).getD 0 = z := ⟨_, rfl⟩
 rw [hie]
 refine mv_ ?_
 refine A2 (A0G rfl) rfl ?_
 refine A2 (A0x rfl) rfl ?_
 refine as_ (as_ (A0 (H5 0 1 2 3 10 11) (A1 (mv_ ?_))))
 refine A2 (E4 rfl) rfl ?_
 refine A2 (qf_ 3 3) rfl ?_
 refine A2 (I7 rfl kR (mA hpb) qR) rfl ?_
 refine mv_ ?_
 refine C7 (aS rfl (aS rfl a0)) kR (A6o bt bm s.ts _ MT _ hT (fun x hx => qS _ (hsub x hx))) rfl ?_
 rintro v46 M46 J46 ⟨rfl, rfl, c46, ok46, rfl, hg1, hg2⟩
 obtain ⟨vo, t, rfl, hvo, hz, htk, hok, hno⟩ := A6q hT.tok.tmo hg1 hg2
 haveI := hvo.cel
 refine mv_ ?_
 refine A2 (A0G rfl) rfl ?_
 refine A2 (A0x rfl) rfl ?_
 refine A4 rfl (C3 (cs := [.int .u8 0, vS, .string ByteArray.empty, .int .i64 0]) kR rfl fun b12 => ?_)
 refine A4 rfl (A8 (vs := tmc t.kind vo t.text t.n) rfl rfl rfl kR qR (by intro c hc; simp only [tmc, List.mem_cons, List.not_mem_nil, or_false] at hc; rcases hc with rfl | rfl | rfl | rfl <;> first | rfl | exact hvo.one) UpC.upd ?_)
 dsimp only [tmc]
 refine as_ (A0 (H5 0 1 2 3 11 12) (A3 ?_))
 refine K8 ([]) (_) true (.range 22) (zp 0 [0, 0, 0, 0, 0, 0, 0, 0, 0, 1, 0, 0, 0, 0, 1, 0, 1, 0, 0, 2, 0, 0]) kR kR qP fun hs K n0 hKm hKs hKn => ?_
 refine km_ hs ?_
 refine K1 hs rfl (Y0 rfl) rfl ?_
 refine km_ hs ?_
 refine A2X (t := 51) rfl (fun hb => ?_) (fun hb => ?_)
 ·
  have hpn : plc wg s.ts.length = none := by cases hq : plc wg s.ts.length with | none => rfl | some z => rw [hq] at hb; cases hb
  have hno_ : A1Q s w wa wg = none := (A4c hr _ _ _).trans (A2k fun t_ ⟨z0, z1, z2, z3, z4, z5⟩ => by rw [hpn] at z3; cases z3)
  refine Z6 hs rfl rfl rfl rfl rfl rfl ?_
  refine Z6 hs rfl rfl rfl rfl rfl rfl ?_
  refine Z6 hs rfl rfl rfl rfl rfl rfl ?_
  refine K1 hs rfl (E2 rfl rfl) rfl ?_
  refine km_ hs ?_
  refine Z6 hs rfl rfl rfl rfl rfl rfl ?_
  refine A5k hs rfl rfl rfl rfl rfl rfl ?_
  refine Z6 hs rfl rfl rfl rfl rfl rfl ?_
  refine K1 hs rfl (E2 rfl rfl) rfl ?_
  refine km_ hs ?_
  refine Z6 hs rfl rfl rfl rfl rfl rfl ?_
  refine A5k hs rfl rfl rfl rfl rfl rfl ?_
  refine Z6 hs rfl rfl rfl rfl rfl rfl ?_
  refine A5k hs rfl rfl rfl rfl rfl rfl ?_
  refine Z6 hs rfl rfl rfl rfl rfl rfl ?_
  refine Z6 hs rfl rfl rfl rfl rfl rfl ?_
  refine B3b rfl rfl rfl rfl rfl rfl ?_
  refine Z6 hs rfl rfl rfl rfl rfl rfl ?_
  refine K1 hs rfl (E2 rfl rfl) rfl ?_
  refine P8 (D8 2 12 70) ?_
  refine C8 rfl ?_
  refine A1 (as_ (as_ (A0 (D3 8 9) (B0 (tr ?_)))))
  exact ⟨_, [], [], A1U rfl rfl rfl, qZ, rfl, vS, by rw [hno_]; rfl, by rw [hno_]; exact By.nil⟩
 ·
  have hi : plc wg s.ts.length = some i := by cases hq : plc wg s.ts.length with | none => rw [hq] at hb; cases hb | some z => rw [hq] at hie; exact congrArg some hie
  have hil := (B0s hi).1
  have hok2 : ok46 = true := (hg1 ⟨by omega, by omega⟩).1
  obtain ⟨-, ht2⟩ := hok hok2
  rw [Int.toNat_natCast] at ht2
  refine A3t hs rfl rfl rfl rfl qm_ rfl ?_
  refine A3t hs rfl rfl rfl rfl (F8 (sz := 1) rfl kR h3.rd) rfl ?_
  refine A3t hs rfl rfl rfl rfl (D9 rfl rfl rfl) rfl ?_
  refine K1 hs rfl (E3 rfl rfl) rfl ?_
  refine km_ hs ?_
  refine A2X (t := 56) rfl (fun hb => ?_) (fun hb => ?_)
  ·
   have h32 : wg.length ≠ 32 := by intro e; rw [e] at hb; exact absurd hb qD
   have hno_ : A1Q s w wa wg = none := (A4c hr _ _ _).trans (A2k fun t_ ⟨z0, z1, z2, z3, z4, z5⟩ => h32 z0)
   refine Z6 hs rfl rfl rfl rfl rfl rfl ?_
   refine A5k hs rfl rfl rfl rfl rfl rfl ?_
   refine Z6 hs rfl rfl rfl rfl rfl rfl ?_
   refine K1 hs rfl (E2 rfl rfl) rfl ?_
   refine km_ hs ?_
   refine Z6 hs rfl rfl rfl rfl rfl rfl ?_
   refine A5k hs rfl rfl rfl rfl rfl rfl ?_
   refine Z6 hs rfl rfl rfl rfl rfl rfl ?_
   refine A5k hs rfl rfl rfl rfl rfl rfl ?_
   refine Z6 hs rfl rfl rfl rfl rfl rfl ?_
   refine Z6 hs rfl rfl rfl rfl rfl rfl ?_
   refine B3b rfl rfl rfl rfl rfl rfl ?_
   refine Z6 hs rfl rfl rfl rfl rfl rfl ?_
   refine K1 hs rfl (E2 rfl rfl) rfl ?_
   refine P8 (D8 2 12 70) ?_
   refine C8 rfl ?_
   refine A1 (as_ (as_ (A0 (D3 8 9) (B0 (tr ?_)))))
   exact ⟨_, [], [], A1U rfl rfl rfl, qZ, rfl, vS, by rw [hno_]; rfl, by rw [hno_]; exact By.nil⟩
  ·
   have h32 : wg.length = 32 := by simp at hb; omega
   refine A3t hs rfl rfl rfl rfl (qf_ 0 0) rfl ?_
   refine B3a hs rfl rfl rfl rfl (by first | exact fun x hx => by rw [List.append_assoc]; exact List.mem_append_right _ hx | exact qS) hKs ql_ rfl ?_
   refine A3t hs rfl rfl rfl rfl (D9 rfl rfl rfl) rfl ?_
   refine K1 hs rfl (E3 rfl rfl) rfl ?_
   refine km_ hs ?_
   refine A2X (t := 61) rfl (fun hb => ?_) (fun hb => ?_)
   ·
    have hk6 : t.kind ≠ 6 := by intro e; rw [e] at hb; exact absurd hb qD
    have hno_ : A1Q s w wa wg = none := (A4c hr _ _ _).trans (A2k fun t_ ⟨z0, z1, z2, z3, z4, z5⟩ => by rw [hi] at z3; obtain rfl := Option.some.inj z3; rw [ht2] at z5; rw [Option.some.inj z5] at hk6; exact hk6 rfl)
    refine Z6 hs rfl rfl rfl rfl rfl rfl ?_
    refine A5k hs rfl rfl rfl rfl rfl rfl ?_
    refine Z6 hs rfl rfl rfl rfl rfl rfl ?_
    refine A5k hs rfl rfl rfl rfl rfl rfl ?_
    refine Z6 hs rfl rfl rfl rfl rfl rfl ?_
    refine Z6 hs rfl rfl rfl rfl rfl rfl ?_
    refine B3b rfl rfl rfl rfl rfl rfl ?_
    refine Z6 hs rfl rfl rfl rfl rfl rfl ?_
    refine K1 hs rfl (E2 rfl rfl) rfl ?_
    refine P8 (D8 2 12 70) ?_
    refine C8 rfl ?_
    refine A1 (as_ (as_ (A0 (D3 8 9) (B0 (tr ?_)))))
    exact ⟨_, [], [], A1U rfl rfl rfl, qZ, rfl, vS, by rw [hno_]; rfl, by rw [hno_]; exact By.nil⟩
   ·
    have hk6 : t.kind = 6 := by simp at hb; omega
    obtain ⟨x, a, b, rfl, hb256, hbl⟩ := hSel t (List.mem_of_getElem? ht2) hk6
    have hmt := hT.tok.tmo _ (List.mem_of_getElem? ht2)
    have hmb : B256 (A03 [a, b]) := B1m a b ▸ hmt.text
    have hml : (A03 [a, b]).length ≤ 1099511627776 := B1m a b ▸ hmt.tl
    replace hvo : Rd A 1 vo 1 (A1J [x]) := hvo
    refine A3t hs rfl rfl rfl rfl (qf_ 1 1) rfl ?_
    refine B3a hs rfl rfl rfl rfl (by first | exact fun x hx => by rw [List.append_assoc]; exact List.mem_append_right _ hx | exact qS) hKs ql_ rfl ?_
    refine A3t hs rfl rfl rfl rfl (G8 (sz := 1) (a := 0) rfl rfl kR rfl hvo (show 0 < 1 by decide)) rfl ?_
    refine B3a hs rfl rfl rfl rfl (by first | exact fun x hx => by rw [List.append_assoc]; exact List.mem_append_right _ hx | exact qS) hKs (A01 (j := 0) (u := .int .i64 x) (hvo.mono qS) rfl kR qR) rfl ?_
    refine A3t hs rfl rfl rfl rfl qm_ rfl ?_
    refine A3t hs rfl rfl rfl rfl qm_ rfl ?_
    refine B8l [] _ rfl rfl rfl rfl (List.Perm.refl _) (fun _ h => by cases h) fun w0 => (U7 (aS rfl (aS rfl a0)) kR (B37 pb bt bm 1 _ sv s.ts v w j MT _ hT (fun x hx => qS _ (hsub x hx)) (qS _ hpb) hn (hv.mono qS) hj) rfl fun _ => ?_)
    dsimp only [List.nil_append, List.append_eq]
    refine A3t hs rfl rfl rfl rfl (D9 rfl rfl rfl) rfl ?_
    refine K1 hs rfl (E3 rfl rfl) rfl ?_
    refine P8 (D8 2 12 70) ?_
    refine C0 rfl ?_ ?_ <;> intro hc
    ·
     have hxj : x ≠ ((j : Nat) : Int) := by intro e; rw [e] at hc; simp [I0] at hc
     have hno_ : A1Q s w wa wg = none := (A4c hr _ _ _).trans (A2k fun t_ ⟨z0, z1, z2, z3, z4, z5⟩ => by rw [hi] at z3; obtain rfl := Option.some.inj z3; rw [hj] at z4; obtain rfl := Option.some.inj z4; rw [ht2] at z5; exact hxj (List.cons.inj (Tm.mk.inj (Option.some.inj z5)).2.1).1)
     refine A1 (as_ (as_ (A0 (D3 8 9) (B0 (tr ?_)))))
     exact ⟨_, [], [], A1U rfl rfl rfl, qZ, rfl, vS, by rw [hno_]; rfl, by rw [hno_]; exact By.nil⟩
    ·
     obtain rfl : x = ((j : Nat) : Int) := by simp [I0] at hc; exact hc
     refine A7 (nx (D3 2 12) (A1 ?_))
     refine A2 (qf_ 2 2) rfl ?_
     refine A2 ql_ rfl ?_
     rw [show (A2L ((j : Nat) : Int) a b).text = A03 [a, b] from B1m a b]
     refine C7 (aS rfl a0) kR (A8X [a, b] hmb hml _ (qS _ h4)) rfl ?_
     rintro r74 M74 J74 ⟨rfl, v74, rfl, hsl⟩
     haveI := hsl.cel
     refine mv_ ?_
     refine A2 (A0G rfl) rfl ?_
     refine A2 (A0x rfl) rfl ?_
     refine as_ (as_ (A0 (D8 2 14 15) (A3 ?_)))
     refine A0Z (B := M74) qP ?_
     have hrd := hsl.rd (R := M74) fun _ h => h
     refine D2 (.range 15) (zp 0 [0, 0, 0, 0, 0, 0, 0, 0, 0, 0, 1, 0, 1, 0, 0]) kR kR fun hs => ?_
     refine fm_ hs ?_
     refine C2 hs rfl (F4 false rfl rfl (neF rfl)) rfl ?_
     refine fm_ hs ?_
     refine F7 hs rfl rfl rfl rfl qm_ rfl ?_
     refine F7 hs rfl rfl rfl rfl (F8 (sz := 1) rfl kR hrd) rfl ?_
     refine F7 hs rfl rfl rfl rfl (F4 false rfl rfl (neF rfl)) rfl ?_
     refine C2 hs rfl (E3 rfl rfl) rfl ?_
     refine fm_ hs ?_
     refine F7 hs rfl rfl rfl rfl qm_ rfl ?_
     refine F7 hs rfl rfl rfl rfl (G8 (sz := 1) (a := 0) rfl rfl kR rfl hrd (show _ < 2 by decide)) rfl ?_
     refine W7 hs rfl rfl rfl rfl (A01 (j := 0) (u := .string (txt a)) (hrd.mono qS) rfl kR qR) rfl ?_
     refine F7 hs rfl rfl rfl rfl qm_ rfl ?_
     refine W7 hs rfl rfl rfl rfl (R8 rfl kR (h2.rd.mono qS)) rfl ?_
     have ha256 : ∀ y ∈ a, y < 256 := fun y hy => hmb.lt y (by simp [A03, mark, hy])
     refine F7 hs rfl rfl rfl rfl (B6n rfl rfl rfl rfl ha256 h2.lt) rfl ?_
     refine C2 hs rfl (E3 rfl rfl) rfl ?_
     refine E9 (D3 14 91) ?_
     refine C0 rfl ?_ ?_ <;> intro hc
     ·
      have hne : a ≠ wa := by simpa using hc
      have hno_ : A1Q s w wa wg = none := (A4c hr _ _ _).trans (A2k fun t_ ⟨z0, z1, z2, z3, z4, z5⟩ => by rw [hi] at z3; obtain rfl := Option.some.inj z3; rw [ht2] at z5; have e5 := Option.some.inj z5; exact hne (A8u hmt (e5 ▸ hmt) e5).2.1)
      refine A1 (as_ (as_ (A0 (D3 8 9) (B0 (tr ?_)))))
      exact ⟨_, [], [], A1U rfl rfl rfl, qZ, rfl, vS, by rw [hno_]; rfl, by rw [hno_]; exact By.nil⟩
     ·
      obtain rfl : a = wa := by simpa using hc
      have hye : A1Q s w a wg = some b := (A4c hr _ _ _).trans (A6Q hT.tok ⟨h32, i, j, hi, hj, ht2⟩)
      refine A7 (nx (D5 14) (A1 (mv_ ?_)))
      refine A2 (G8 (sz := 1) (a := 1) rfl rfl kR rfl hrd (show _ < 2 by decide)) rfl ?_
      refine A2 (A01 (j := 1) (u := .string (txt b)) (hrd.mono qS) rfl kR qR) rfl ?_
      refine A4 rfl (Z9 (e := 5) rfl rfl hb256 kR kR kR rfl fun v95 B95 hs95 => ?_)
      refine A3E (B := B95) qP ?_
      refine as_ (as_ (A0 (D3 8 9) (B0 ?_)))
      exact ⟨_, [], [], A1U rfl rfl rfl, qZ, rfl, _, by rw [hye]; rfl, by rw [hye]; exact ⟨hs95.mono qS, hb256, hbl⟩⟩
theorem B13 (A : Mem) : FnX Tryz.prog 65 [] [] A fun q M J => M = [] ∧ By J q n12 := by
 refine FnX.enterZ (N := 2) Tryz.func65 rfl rfl rfl fun w_ => ?_
 refine B4 kn (A1 (as_ (A0 kn (A1 ?_))))
 refine A4 rfl (A94 (a := 12) (e := 5) (k := .u8) (by_ := 1) rfl rfl kR rfl rfl qO qO rfl fun v1 B1 hs1 => ?_)
 refine as_ (A0 (D5 0) (B0 ?_))
 exact ⟨_, [], B1, I4 rfl rfl, Fit.pick qP qZ, rfl, ⟨hs1.rd fun x hx => by simp [hx], qD, qD⟩⟩
theorem B7G (pb : Nat) (s : Ps) (hr : s.real = true) (v v2 v3 : Value) (w wa wb : LN) (MP A : Mem) (hP : Prm pb s MP) (hv : By A v w) (h2 : By A v2 wa) (h3 : By A v3 wb) (hl : wa.length + wb.length ≤ 16000000) : FnX Tryz.prog 38 [(vP pb), v, v2, v3] MP A fun q M J => Prm pb s M ∧ By J q (V9 (G7 w 32) n12 wa wb) := by
 obtain ⟨sv, bt, bm, B, MT, rfl, hby, hT⟩ := hP.ex
 haveI := hv.cel
 haveI := hby.cel
 haveI := h2.cel
 haveI := h3.cel
 refine FnX.enterZ (N := 38) Tryz.func38 rfl rfl rfl fun w_ => ?_
 refine B4 (D7 0 1 2 3) (A1 (as_ (A0 (D7 0 1 2 3) (A3 (A1 (mv_ ?_))))))
 refine A2 (G5 (e := 105) rfl rfl kR) rfl ?_
 refine A0 (E6 0 1 2 3 10) ?_
 refine C9 rfl ?_
 refine A7 (nx (D7 0 1 2 3) (A3 (A1 (mv_ ?_))))
 refine A2 (E4 rfl) rfl ?_
 refine A2 (qf_ 0 0) rfl ?_
 refine A2 ql_ rfl ?_
 refine A2 (F4 true rfl rfl (eqT (by rw [hr]; rfl))) rfl ?_
 refine A0 (E6 0 1 2 3 15) ?_
 refine C8 rfl ?_
 refine A1 (mv_ ?_)
 refine C7 (aS rfl (aS rfl a0)) kR (A0O v w 32 _ (hv.mono qS) qD) rfl ?_
 rintro r1 M1 J1 ⟨rfl, k1⟩
 haveI := k1.cel
 refine C7 a0 kR (B13 _) rfl ?_
 rintro r2 M2 J2 ⟨rfl, k2⟩
 haveI := k2.cel
 refine mv_ (mv_ ?_)
 refine C7 (aS rfl (aS rfl (aS rfl (aS rfl a0)))) kR (B7z r1 r2 v2 v3 (G7 w 32) n12 wa wb _ (k1.mono qS) (k2.mono qS) (h2.mono qS) (h3.mono qS) hl) rfl ?_
 rintro r3 M3 J3 ⟨rfl, k3⟩
 rw [B1W, show G7 n12 12 = n12 from rfl] at k3
 haveI := k3.cel
 refine as_ (A0 (D5 8) (B0 (tr ?_)))
 exact ⟨_, (pb, blk [.int .u8 (md s.real), sv, .int .i64 (((s.n : Nat) : Int)), (vP bt)] 105) :: (B ++ MT), [], I4 rfl rfl, (Fit.none (Fit.pick (B := [_]) qP (Fit.pick qP (Fit.last qP)))), ⟨sv, bt, bm, B, MT, rfl, hby, hT⟩, k3.mono qS⟩
theorem B7H (pb : Nat) (s : Ps) (hr : s.real = true) (v v2 v3 : Value) (w wa wg : LN) (MP A : Mem) (hP : Prm pb s MP) (hMP : ∀ x, x ∈ MP → x ∈ A) (hv : By A v w) (h2 : By A v2 wa) (h3 : By A v3 wg) (hl : wa.length + wg.length ≤ 16000000) : FnX Tryz.prog 57 [(vP pb), v, v2, v3] [] A fun q M J => M = [] ∧ ∃ u, q = .tuple #[u, .bool (A1Q s w wa wg).isSome] ∧ By J u ((A1Q s w wa wg).getD []) := by
 obtain ⟨sv, bt, bm, B, MT, rfl, hby, hT⟩ := hP.ex
 have hpb := hMP _ qK
 haveI := hv.cel
 haveI := hby.cel
 haveI := h2.cel
 haveI := h3.cel
 refine FnX.enterZ (N := 96) Tryz.func57 rfl rfl rfl fun w_ => ?_
 refine B4 (D7 0 1 2 3) (A1 (as_ (as_ (A0 (D7 0 1 2 3) (A3 (A1 (mv_ ?_)))))))
 refine A2 (G5 (e := 105) rfl rfl kR) rfl ?_
 refine A0 (E6 0 1 2 3 17) ?_
 refine C9 rfl ?_
 refine A7 (nx (D7 0 1 2 3) (A3 (A1 (mv_ ?_))))
 refine A2 (E4 rfl) rfl ?_
 refine A2 (qf_ 0 0) rfl ?_
 refine A2 (I7 rfl kR (mA hpb) qR) rfl ?_
 refine A2 (F4 true rfl rfl (eqT (by rw [hr]; rfl))) rfl ?_
 refine A0 (E6 0 1 2 3 22) ?_
 refine C8 rfl ?_
 refine A1 (mv_ ?_)
 refine C7 (aS rfl (aS rfl a0)) kR (A0O v w 32 _ (hv.mono qS) qD) rfl ?_
 rintro r1 M1 J1 ⟨rfl, k1⟩
 haveI := k1.cel
 refine C7 a0 kR (B13 _) rfl ?_
 rintro r2 M2 J2 ⟨rfl, k2⟩
 haveI := k2.cel
 refine mv_ (mv_ ?_)
 refine C7 (aS rfl (aS rfl (aS rfl (aS rfl a0)))) kR (B7C r1 r2 v2 v3 (G7 w 32) n12 wa wg _ (k1.mono qS) (k2.mono qS) (h2.mono qS) (h3.mono qS) hl) rfl ?_
 rintro r3 M3 J3 ⟨rfl, u3, rfl, k3⟩
 rw [B1W, show G7 n12 12 = n12 from rfl] at k3 ⊢
 haveI := k3.cel
 refine A2 (A0G rfl) rfl ?_
 refine A2 (A0x rfl) rfl ?_
 refine as_ (as_ (A0 (D3 8 9) (B0 (tr ?_))))
 exact ⟨_, [], [], A1U rfl rfl rfl, qZ, rfl, u3, by rw [B1Z hr], by rw [B1Z hr]; exact k3.mono qS⟩
theorem B7I (pb : Nat) (s : Ps) (v v2 v3 : Value) (w wa wb : LN) (MP A : Mem) (hP : Prm pb s MP) (hn : s.ts.length < 1048576) (hv : By A v w) (hya : By A v2 wa) (hyb : By A v3 wb) (hl : wa.length + wb.length ≤ 16000000) (hG : Glb A) : FnX Tryz.prog 38 [(vP pb), v, v2, v3] MP A fun q M J => Prm pb (A9x s w wa wb) M ∧ By J q (B7D s w wa wb) := by
  cases hr : s.real with
  | true => rw [B5G hr, B5I hr]; exact B7G pb s hr v v2 v3 w wa wb MP A hP hv hya hyb hl
  | false =>
    rw [B5H hr, B5J hr]
    obtain ⟨bt, bm, hT⟩ := hP.t
    exact (B0J pb bt bm s hr v v2 v3 w wa wb MP A hT hn hv hya hyb hG).mono fun q M J h => ⟨h.1.p, h.2⟩
theorem B2a (pb : Nat) (s : Ps) (v v2 v3 : Value) (w wa wg : LN) (MP A : Mem) (hP : Prm pb s MP) (hMP : ∀ x, x ∈ MP → x ∈ A) (hn : s.ts.length ≤ 1048576) (hSel : X3 s.ts) (hv : By A v w) (h2 : By A v2 wa) (h3 : By A v3 wg) (hj : Kok s w) (hl : wa.length + wg.length ≤ 16000000) (hG : Glb A) : FnX Tryz.prog 57 [(vP pb), v, v2, v3] [] A fun q M J => M = [] ∧ ∃ u, q = .tuple #[u, .bool (A1Q s w wa wg).isSome] ∧ By J u ((A1Q s w wa wg).getD []) := by
  cases hr : s.real with
  | true => exact B7H pb s hr v v2 v3 w wa wg MP A hP hMP hv h2 h3 hl
  | false =>
    obtain ⟨bt, bm, hT⟩ := hP.t
    obtain ⟨i, hi, rfl⟩ := hj hr
    exact B7F pb bt bm s hr v v2 v3 _ wa wg i MP A hT hMP hn hSel hv h2 h3 (by rw [A1L, show u64 ((i : Nat) : Int) = i by unfold u64; omega, if_pos hi]) hG

end Go.Proofs.YtlilcmjbaknafaaGreatDoor
namespace Go.Px
theorem FnX.amb {P : Program} {f : FuncId} {args : List Value} {M A A' : Mem} {post : Value → Mem → Mem → Prop} (hA : ∀ x, x ∈ A → x ∈ A') (h : FnX P f args M A post) : FnX P f args M A' post := by
  intro w hw
  have h1 : St ⟨P, w, M.map Prod.fst, A, 0⟩ M [] w := ⟨hw.os, hw.tape, hw.output, hw.size, hw.frame, fun b o hb => hw.mem b o (by
    rcases List.mem_append.1 hb with hb | hb
    · exact List.mem_append_left _ hb
    · exact List.mem_append_right _ (hA _ hb)), hw.nodup, hw.own, hw.sepJ, fun b o hb => hw.sepA b o (hA _ hb), hw.old⟩
  refine Calls.mono (h w h1) ?_
  rintro e w' ⟨r, M', J', rfl, hp, hs⟩
  refine ⟨r, M', J', rfl, hp, ⟨hs.os, hs.tape, hs.output, hs.size, hs.frame, fun b o hb => ?_, hs.nodup, hs.own, hs.sepJ, hw.sepA, hs.old⟩⟩
  rcases List.mem_append.1 hb with hb | hb
  · exact hs.mem b o (List.mem_append_left _ hb)
  · rcases List.mem_append.1 hb with hb | hb
    · exact hs.mem b o (List.mem_append_right _ (List.mem_append_left _ hb))
    · have h2 := hw.sepA b o hb
      rw [hs.frame b h2.2 h2.1]
      exact hw.mem b o (List.mem_append_right _ hb)
end Go.Px

namespace Go.Proofs.YtlilcmjbaknafaaGreatDoor
open Go.Px
theorem B2b {P : Program} {fn : Func} {l : Env} {R : Mem} {t1 t2 u x b1 b2 n1 n2 : Nat} {y1 y2 : TypeId} {c1 c2 : List Value} {e1 e2 : TypeId} {f1 f2 : Nat × Nat} {v z : Value} (h : fn.results = #[.cell t1 y1, .cell t2 y2, .tmp u, .tmp x]) (h1 : lk l t1 = some (vP b1)) (h2 : lk l t2 = some (vP b2)) (hu : lk l u = some v) (hx : lk l x = some z) (ht1 : A6W P y1 = some n1) (ht2 : A6W P y2 = some n2)
    (hb1 : (b1, Obj.cells c1.toArray e1 f1) ∈ R) (hb2 : (b2, Obj.cells c2.toArray e2 f2) ∈ R) (hn1 : c1.length = n1) (hn2 : c2.length = n2) : Res P fn l R (.tuple #[.agg c1.toArray, .agg c2.toArray, v, z]) := fun N a w ha hw => by
  obtain ⟨d1, g1, g2, g3⟩ := W5 ht1
  obtain ⟨d2, k1, k2, k3⟩ := W5 ht2
  have l1 := run_loadVar_row (P := P) w b1 e1 y1 c1.toArray f1 d1 (hw b1 _ hb1) g1 (by cases d1 <;> simp_all [TypeDesc.isRow]) (by rw [g3, ← hn1]; simp)
  have l2 := run_loadVar_row (P := P) w b2 e2 y2 c2.toArray f2 d2 (hw b2 _ hb2) k1 (by cases d2 <;> simp_all [TypeDesc.isRow]) (by rw [k3, ← hn2]; simp)
  simp [results, h, ha.slot t1 _ h1, ha.slot t2 _ h2, ha.slot u _ hu, ha.slot x _ hx, asAddr, l1, l2]
noncomputable def V7 (s : Ps) (r : Rsd) : Rsd := { r with sk := A31 (L2 s r.own) r.sk, sn := (r.sn + 1) % 4294967296 }
noncomputable def B2c (s : Ps) (r : Rsd) (w : LN) : LN := A4Z w (A5P (I2 s r.own) r.prev r.sn)
noncomputable def U5 (s : Ps) (r : Rsd) (w t : LN) : Ps := A9x (X0 (L2 s r.own) r.sk) (A0t (L2 s r.own) r.sk) (B2c s r w) t
noncomputable def A0V (s : Ps) (r : Rsd) (w t : LN) : LN := B7D (X0 (L2 s r.own) r.sk) (A0t (L2 s r.own) r.sk) (B2c s r w) t
theorem A0F (s : Ps) (key : LN) : (X0 s key).ts.length ≤ s.ts.length + 3 ∧ (X0 s key).n = s.n ∧ (X0 s key).real = s.real := by
  have h1 := A26 s key [] A4w 2
  have h2 := A2a s key [] A4w 2
  have e : ([] : List (LN)).length = 0 := rfl
  unfold X0
  exact ⟨by omega, h2.2.1, h2.1⟩
theorem B2d (pb : Nat) (s : Ps) (r : Rsd) (vo vt vr vk vl vs vw vx : Value) (w tx : LN) (MP A : Mem) (hP : Prm pb s MP) (hn : s.ts.length + 200 ≤ 1040000) (hr : RsR A r vo vt vr vk vl vs) (hsk : 0 < r.sk.length) (hw : By A vw w) (hwl : w.length ≤ 1000000) (hx : By A vx tx) (hxl : tx.length ≤ 1000000) (hG : Glb A) : FnX Tryz.prog 16 [(vP pb), .agg (rsC vo vt vr vk vl vs r).toArray, vw, vx] MP A fun q M J => ∃ q1 q2 q3, q = .tuple #[q1, .agg #[q2, (vU r.prev), (vU r.sn)], q3, .int .i64 0] ∧ Prm pb (U5 s r w tx) M ∧ RsV (J ++ A) q1 (V7 s r) ∧ By (J ++ A) q2 (I2 s r.own) ∧ By (J ++ A) q3 (A0V s r w tx) := by
 haveI := hr.own.cel
 haveI := hr.their.cel
 haveI := hr.root.cel
 haveI := hr.sk.cel
 haveI := hr.tk.cel
 haveI := hw.cel
 haveI := hx.cel
 have hst := hr.st
 obtain ⟨sb, u0, rows0, rfl, hsb, hrd0, hrw0⟩ := hst
 have f1 := A35 s r.own
 have f2 := A0F (L2 s r.own) r.sk
 have f3 := A36 s r.own
 unfold rsC
 refine FnX.enterZ (N := 52) Tryz.func16 rfl rfl rfl fun w_ => ?_
 refine B4 (D7 0 1 2 3) (A1 ?_)
 refine A4 rfl (bx_ fun b5 => ?_)
 refine A4 rfl (C3 (cs := [vS, vS, vS, vS, F5, vS, F5, F5, .pointer none]) kR rfl fun b8 => ?_)
 refine A4 rfl (C3 (cs := [vS, .int .u32 0, .int .u32 0]) kR rfl fun b9 => ?_)
 refine as_ (as_ (A0 (H5 0 2 3 5 8 9) (A3 (A1 ?_))))
 refine A2 (qf_ 3 3) rfl ?_
 refine A2 (qf_ 3 0) rfl ?_
 refine A2 ql_ rfl ?_
 refine A2 (F8 (sz := 1) rfl kR hr.sk.rd) rfl ?_
 refine A2 (F4 false rfl rfl (eqF qO)) rfl ?_
 refine A0 (S9 0 2 3 5 8 9 19) ?_
 refine C9 rfl ?_
 refine A7 (nx (H5 0 2 3 5 8 9) ?_)
 refine K8 (MP) (_) true (.range 11) [(0, 0), (1, 0), (2, 1), (4, 0), (5, 1), (6, 0), (7, 0), (8, 1), (3, 3), (9, 3), (10, 4), (11, 2)] kR kR qP fun hs K n0 hKm hKs hKn => ?_
 refine km_ hs ?_
 refine K1 hs rfl (qf_ 0 0) rfl ?_
 refine V2 hs rfl hKs ql_ ?_
 refine K1 hs rfl (qf_ 7 7) rfl ?_
 refine V2 hs rfl hKs ql_ ?_
 refine K1 hs rfl (qf_ 3 3) rfl ?_
 refine K1 hs rfl (qf_ 4 1) rfl ?_
 refine V2 hs rfl hKs ql_ ?_
 refine A6G [⟨3, 25, none, MP, fun v B R => Prm pb (L2 s r.own) B ∧ By R v (I2 s r.own)⟩, ⟨9, 31, none, [], fun v B R => B = [] ∧ ∃ u, v = .agg #[u, (vU r.prev), (vU r.sn)] ∧ By R u (I2 s r.own)⟩, ⟨10, 12, none, [], fun v B _ => ∃ b, v = (vP b) ∧ B = [(b, blk [vS, .int .u32 0, .int .u32 0] 29)]⟩] ([(b9, blk [vS, .int .u32 0, .int .u32 0] 29), (b8, blk [vS, vS, vS, vS, .int .u32 0, vS, .int .u32 0, .int .u32 0, .pointer none] 41), (b5, blk [vo, vt, vr, vk, (vU r.sn), vl, (vU r.tn), (vU r.prev), (vP sb)] 41)]) (fun bs => [bs 3, bs 9, bs 10]) (hKn rfl) (by simp [A0r, A1m]) (show ∀ m ∈ ([MP, [], []] : List Mem), ∀ x ∈ m, K x.1 from A6 (hKm) (A6 (fun _ h => by cases h) (A6 (fun _ h => by cases h) (I6)))) kR (fun _ => by first | rfl | kernel_rfl)
  (A6 (fun _ _ _ _ h ⟨p1, p2⟩ => ⟨p1, p2.mono h⟩) (A6 (fun _ _ _ _ h ⟨p1, u, e, p2⟩ => ⟨p1, u, e, p2.mono h⟩) (A6 (fun _ _ _ _ _ h => h) (I6)))) (show List.Nodup [25, 31, 12] by decide) (show List.Nodup [3, 9, 10] by decide) (A6 (C5 rfl) (A6 (C5 rfl) (A6 (C5 rfl) (I6))))
  (A6 ⟨_, rfl, fun vs bs R Rj wG hb hj hjr ha => ⟨.inl rfl, ?_⟩⟩ (A6 ⟨_, rfl, fun vs bs R Rj wG hb hj hjr ha => ⟨.inl rfl, ?_⟩⟩ (A6 ⟨_, rfl, fun vs bs R Rj wG hb hj hjr ha => ⟨.inl rfl, ?_⟩⟩ (I6)))) ?_
 ·
  dsimp only [Gc.inp]
  refine C6 (Mc := MP) (R := []) (aS rfl (aS rfl (a0))) kR qM (A8f pb s vo r.own MP _ hP qO (hr.own.mono (fun x hx => by have := hb x (by simp [hx]); simp [this])) (hG.sub (fun x hx => by have := hb x (by simp [hx]); simp [this]))) rfl ?_
  rintro v25 M25 J25 ⟨hP25, h25⟩
  exact ⟨_, rfl, by simpa using hP25, h25.mono fun x hx => by simp [hx]⟩
 ·
  dsimp only [Gc.inp]
  have g3 := ha _ (List.mem_of_getElem? (i := 0) rfl) kR
  replace g3 : (fun v B R => Prm pb (L2 s r.own) B ∧ By R v (I2 s r.own)) (vs 3) (bs 3) Rj := g3
  dsimp only at g3
  obtain ⟨-, h25⟩ := g3
  haveI := h25.cel
  dsimp only [P5, List.map, List.cons_append, List.nil_append]
  exact OpQ.opL (F6 (place := fun x => #[(0, 1), (1, 1), (2, 1)][x]?) (z := [vS, .int .u32 0, .int .u32 0]) (fun _ => by kernel_rfl) (eS rfl (eS rfl (eS rfl e0))) (bdS 0 1 rfl qR (bdS 1 1 rfl qR (bdS 2 1 rfl qR bd0)))) rfl ⟨_, rfl, rfl, _, rfl, h25⟩
 ·
  dsimp only [Gc.inp]
  exact C3 (cs := [vS, .int .u32 0, .int .u32 0]) kR rfl fun b => ⟨_, rfl, b, rfl, rfl⟩
 intro vs bs Jn0 hφ hKK
 have kk3 := hKK _ (List.mem_of_getElem? (i := 0) rfl)
 dsimp only at kk3
 have kk9 := hKK _ (List.mem_of_getElem? (i := 1) rfl)
 dsimp only at kk9
 have kk10 := hKK _ (List.mem_of_getElem? (i := 2) rfl)
 dsimp only at kk10
 clear hKK
 have g3 := ofH hφ
 dsimp only at g3
 replace hφ := ofT hφ
 have g9 := ofH hφ
 dsimp only at g9
 replace hφ := ofT hφ
 have g10 := ofH hφ
 dsimp only at g10
 clear hφ
 dsimp only [P5, A0r, List.foldr, List.map, List.cons_append, List.nil_append]
 generalize bs 3 = B25 at *
 generalize bs 9 = B31 at *
 generalize bs 10 = B12 at *
 generalize vs 3 = u25 at *
 generalize vs 9 = u31 at *
 generalize vs 10 = u12 at *
 obtain ⟨hP25, -⟩ := g3
 obtain ⟨rfl, v25, rfl, h25⟩ := g9
 obtain ⟨b12, rfl, rfl⟩ := g10
 haveI := h25.cel
 refine T6 rfl rfl rfl (A8 (vs := [v25, (vU r.prev), (vU r.sn)]) rfl rfl rfl kR qR (A6 h25.one al2) UpC.upd ?_)
 refine P8 (S9 0 2 3 5 8 9 12) (A1 ?_)
 refine A2 (qw_ 9) rfl ?_
 refine C7 (aS rfl a0) kR (FnX.amb qS (A7s r vo vt vr vk vl _ A hr)) rfl ?_
 rintro v33 M33 J33 ⟨cb, rfl, hSt⟩
 obtain ⟨u5, rows5, BS, rfl, hs5, hw5⟩ := hSt.ex
 unfold rsC
 refine A4 rfl (A8 (vs := [vo, vt, vr, vk, (vU r.sn), vl, (vU r.tn), (vU r.prev), (vP cb)]) rfl rfl rfl kR qR (A6 hr.own.one (A6 hr.their.one (A6 hr.root.one (A6 hr.sk.one (A6 rfl (A6 hr.tk.one al3)))))) UpC.upd ?_)
 refine A0 (S9 0 2 3 5 8 9 12) ?_
 refine A0Z (B := (cb, blk [u5] 80) :: BS) qP ?_
 have hrd5 := hs5.rd (R := BS) fun _ h => h
 refine A1 (mv_ ?_)
 refine A2 (qf_ 3 3) rfl ?_
 refine A2 (P4 (n := 2) rfl kR (by first | exact At.mem | exact mA (by assumption)) TakeC.take) rfl ?_
 refine A4 rfl (C6 (Mc := B25) (R := _) (aS rfl (aS rfl (a0))) kR qP (A32 pb (L2 s r.own) vk r.sk r.sn B25 _ hP25 (hr.sk.mono qS) qO hG.up) rfl ?_)
 rintro v38 M38 J38 ⟨k1, k2, rfl, hP38, hb1, hb2⟩
 haveI := hb1.cel
 haveI := hb2.cel
 refine mv_ ?_
 refine A2 (A0G rfl) rfl ?_
 refine A2 (A0x rfl) rfl ?_
 refine A4 rfl (C3 (cs := [vS, .int .u32 0]) kR rfl fun b14 => ?_)
 refine as_ ?_
 refine A4 rfl (A8 (vs := [k2, .int .u32 (((r.sn + 1) % 4294967296 : Nat) : Int)]) rfl rfl rfl kR qR (A6 hb2.one (A6 rfl I6)) UpC.upd ?_)
 refine A0 (A0j 0 2 3 5 8 9 12 13 14) (A1 ?_)
 refine A2 (qw_ 2) rfl ?_
 refine A2 (qf_ 3 3) rfl ?_
 refine A4 rfl (L3 (vs := [k2, .int .u32 (((r.sn + 1) % 4294967296 : Nat) : Int)]) (cs' := [vo, vt, vr, k2, .int .u32 (((r.sn + 1) % 4294967296 : Nat) : Int), vl, (vU r.tn), (vU r.prev), (vP cb)]) rfl rfl rfl kR (by exact (show 3 + 2 ≤ 9 by decide)) (A6 hb2.one (A6 rfl I6)) rfl UpC.upd ?_)
 refine A0 (V3 0 2 3 5 8 9 12 13) ?_
 refine K8 (M38 ++ [(b8, blk [vS, vS, vS, vS, .int .u32 0, vS, .int .u32 0, .int .u32 0, .pointer none] 41)]) (_) true [0, 1, 2, 3, 4, 5, 6, 7, 8, 9, 11, 12] [(0, 1), (1, 1), (2, 0), (3, 0), (4, 0), (5, 1), (7, 0), (6, 2), (8, 2), (9, 2), (10, 2), (11, 0), (12, 0)] kR kR qP fun hs K n0 hKm hKs hKn => ?_
 refine V2 hs rfl hKs (qw_ 9) ?_
 refine V2 hs rfl hKs (qw_ 3) ?_
 refine km_ hs ?_
 refine km_ hs ?_
 refine km_ hs ?_
 refine V2 hs rfl hKs (qw_ 3) ?_
 refine km_ hs ?_
 refine N2 [] _ rfl rfl (List.Perm.refl _) (fun _ h => by cases h) fun w0 => (I1 (aS rfl (aS rfl a0)) kR (B1C vw v25 w (I2 s r.own) r.prev r.sn _ (hw.mono qS) (h25.mono qS) qO hr.prev hr.sn) rfl ?_)
 rintro v49 M49 J49 ⟨rfl, h49⟩ _
 haveI := h49.cel
 dsimp only [List.nil_append, List.append_eq]
 refine N2 M38 _ rfl rfl qP (fun x hx => hKm x (List.mem_append_left _ hx)) fun w0 => (C6 (Mc := M38) (R := _) (aS rfl (aS rfl (aS rfl (aS rfl (a0))))) kR qP (B7I pb (X0 (L2 s r.own) r.sk) k1 v49 vx (A0t (L2 s r.own) r.sk) (B2c s r w) tx M38 _ hP38 qO (hb1.mono qS) (h49.mono qS) (hx.mono qS) (by unfold B2c; rw [A2y, A2h]; omega) hG.up) rfl ?_)
 rintro v51 M51 J51 ⟨hP51, h51⟩ hKx51
 haveI := h51.cel
 refine N2 [(b8, blk [vS, vS, vS, vS, .int .u32 0, vS, .int .u32 0, .int .u32 0, .pointer none] 41)] _ rfl rfl qP (fun x hx => hKm x (List.mem_append_right _ hx)) fun w0 => (A8 (vs := [vo, vt, vr, k2, .int .u32 (((r.sn + 1) % 4294967296 : Nat) : Int), vl, (vU r.tn), (vU r.prev), (vP cb)]) rfl rfl rfl kR qR (A6 hr.own.one (A6 hr.their.one (A6 hr.root.one (A6 hb2.one (A6 rfl (A6 hr.tk.one al3)))))) UpC.upd ?_)
 intro _
 dsimp only [List.cons_append, List.nil_append, List.append_eq]
 refine T6 rfl rfl rfl (A8 (vs := [v25, (vU r.prev), (vU r.sn)]) rfl rfl rfl kR qR (A6 h25.one al2) UpC.upd ?_)
 refine K1 hs rfl (G6 rfl) rfl ?_
 refine K1 hs rfl (G6 rfl) rfl ?_
 refine P8 (D7 8 9 10 11) (B0 ?_)
 exact ⟨_, M51, [], B2b (n1 := 9) (n2 := 3) rfl rfl rfl rfl rfl kR kR At.mem At.mem qR qR, Fit.none (Fit.last qP), _, v25, v51, rfl, hP51, ⟨vo, vt, vr, k2, vl, _, rfl, ⟨hr.own.mono qS, hr.their.mono qS, hr.root.mono qS, hb2.mono qS, hr.tk.mono qS, ⟨cb, u5, rows5, rfl, by simp, hrd5.mono qS, hw5.mono skT qS⟩, Nat.mod_lt _ qD, hr.tn, hr.prev, hr.sks⟩⟩, h25.mono qS, h51.mono qS⟩

structure Rok (ts : List Tm) (w : LN) : Prop where
  lt : ∀ x ∈ w, x < 256
  len : w.length ≤ 1000000000
  st : (∀ n, plc w n = none) ∨ B5a ts w
theorem Rok.ext {ts l : List Tm} {w : LN} (h : Rok ts w) : Rok (ts ++ l) w := ⟨h.lt, h.len, h.st.imp id B5a.ext⟩
theorem B5a.rok {ts : List Tm} {w : LN} (h : B5a ts w) : Rok ts w := by
  obtain ⟨i, hi, rfl⟩ := h
  exact ⟨B3p _, by rw [show (bts ((i : Nat) : Int)).length = 32 from A0N _ qD]; decide, .inr ⟨i, hi, rfl⟩⟩
theorem B5K {ts : List Tm} {w : LN} (ht : Tok ts) (hw : ∀ x ∈ w, x < 256) (hl : w.length ≤ 1000000000) : Tok (rdT ts w) := by
  cases hp : plc w ts.length with
  | some j => rw [(W4 hp).1]; exact ht
  | none =>
    rw [(Y6 hp).1]
    obtain ⟨l, h1, h2, h3, h4⟩ := A4u (A3D hw qO) ht
    exact h4
theorem B4s {ts l : List Tm} {w : LN} (h : Rok ts w) (ht : Tok ts) (ht' : Tok (rdT ts w ++ l)) (hl : (rdT ts w ++ l).length ≤ 1048576) : rdT (rdT ts w ++ l) w = rdT ts w ++ l ∧ rdI (rdT ts w ++ l) w = rdI ts w := by
  have hge := B0D (ts := ts) (w := w)
  rw [List.length_append] at hl
  cases hp : plc w ts.length with
  | some j =>
    obtain ⟨e1, e2⟩ := W4 hp
    obtain ⟨a1, a2⟩ := B0s hp
    rw [e1, e2]
    exact W4 (a2 _ (by rw [List.length_append]; omega))
  | none =>
    have hn : ∀ n, plc w n = none := by
      rcases h.st with h | ⟨i, hi, rfl⟩
      · exact h
      · rw [A1L, show u64 ((i : Nat) : Int) = i by unfold u64; omega, if_pos hi] at hp; cases hp
    obtain ⟨e1, e2⟩ := Y6 hp
    obtain ⟨l0, g1, g2, g3, g4⟩ := A4u (A3D h.lt (by have := h.len; omega)) ht
    rw [e1] at ht' ⊢
    rw [e2]
    obtain ⟨b1, b2⟩ := Y6 (hn (add ts (B4Y w) ++ l).length)
    rw [b1, b2]
    exact B6B ht' (A3J g3)
theorem A7w : ∀ (ws : List (LN)) (st : List Tm × List Int), ∃ l, (ws.foldl A0g st).1 = st.1 ++ l
  | [], st => ⟨[], by simp⟩
  | w :: ws, st => by
    obtain ⟨l1, e1⟩ := A7w ws (A0g st w)
    obtain ⟨l2, e2⟩ := A1N st.1 w
    exact ⟨l2 ++ l1, by rw [List.foldl_cons, e1, show (A0g st w).1 = rdT st.1 w from rfl, e2, List.append_assoc]⟩
theorem B2e : ∀ (ws : List (LN)) (st : List Tm × List Int), (∀ w ∈ ws, Rok st.1 w) → Tok st.1 → Tok (ws.foldl A0g st).1
  | [], st, _, ht => ht
  | w :: ws, st, h, ht => by
    obtain ⟨l2, e2⟩ := A1N st.1 w
    have hw := h w qM
    exact B2e ws (A0g st w) (fun v hv => by show Rok (rdT st.1 w) v; rw [e2]; exact (h v (by simp [hv])).ext) (B5K ht hw.lt hw.len)
theorem A6R : ∀ (ws : List (LN)) (st : List Tm × List Int) (l : List Tm), (∀ w ∈ ws, Rok st.1 w) → Tok st.1 → Tok ((ws.foldl A0g st).1 ++ l) → ((ws.foldl A0g st).1 ++ l).length ≤ 1048576 → ws.foldl A0g ((ws.foldl A0g st).1 ++ l, st.2) = ((ws.foldl A0g st).1 ++ l, (ws.foldl A0g st).2)
  | [], st, l, _, _, _, _ => rfl
  | w :: ws, st, l, h, ht, ht', hl => by
    have hw := h w qM
    obtain ⟨l1, e1⟩ := A7w ws (A0g st w)
    have e2 : (A0g st w).1 = rdT st.1 w := rfl
    rw [List.foldl_cons] at ht' hl ⊢
    have hrest : ∀ v ∈ ws, Rok (A0g st w).1 v := fun v hv => by
      obtain ⟨l2, e3⟩ := A1N st.1 w
      rw [e2, e3]; exact (h v (by simp [hv])).ext
    have ih := A6R ws (A0g st w) l hrest (B5K ht hw.lt hw.len) ht' hl
    have e4 : (ws.foldl A0g (A0g st w)).1 ++ l = rdT st.1 w ++ (l1 ++ l) := by rw [e1, e2, List.append_assoc]
    obtain ⟨a1, a2⟩ := B4s hw ht (l := l1 ++ l) (by rw [← e4]; exact ht') (by rw [← e4]; exact hl)
    rw [List.foldl_cons]
    have e5 : A0g ((ws.foldl A0g (A0g st w)).1 ++ l, st.2) w = ((ws.foldl A0g (A0g st w)).1 ++ l, (A0g st w).2) := by
      show (rdT _ w, st.2 ++ [((rdI _ w : Nat) : Int)]) = (_, st.2 ++ [((rdI st.1 w : Nat) : Int)])
      rw [e4, a1, a2]
    rw [e5]; exact ih
theorem B5L : ∀ (ws : List (LN)) {n0 k : Nat} {st : List Tm × List Int}, RdOk n0 k st → (∀ w ∈ ws, Rok st.1 w) → RdOk n0 (k + ws.length) (ws.foldl A0g st)
  | [], _, _, _, h, _ => h
  | w :: ws, n0, k, st, h, hw => by
    have h1 := hw w qM
    have h2 := h.step h1.lt (by have := h1.len; omega)
    have h3 := B5L ws h2 (fun v hv => by
      obtain ⟨l2, e3⟩ := A1N st.1 w
      show Rok (rdT st.1 w) v
      rw [e3]; exact (hw v (by simp [hv])).ext)
    rw [List.length_cons, show k + (ws.length + 1) = k + 1 + ws.length by omega]
    exact h3
theorem A4d (ts : List Tm) (ofs : List Int) (lb : LN) : ∀ n, ∃ l, (N0 ts ofs lb n).1 = ts ++ l
  | 0 => ⟨[], by show ts = _; simp⟩
  | n + 1 => by
    obtain ⟨l1, e1⟩ := A4d ts ofs lb n
    obtain ⟨l2, e2⟩ := A6v ts ofs lb n
    exact ⟨l1 ++ l2, by rw [e2, e1, List.append_assoc]⟩
theorem A4e {ts : List Tm} {key lb : LN} {ws : List (LN)} (ht : Tok ts) (h : ∀ w ∈ key :: ws, Rok ts w) (hb : B256 lb) (hbl : lb.length ≤ 1000) (hl : ts.length + ws.length + 1 ≤ 1048576) :
    Tok (V5 ts key ws).1 ∧ (∀ k, k < 100 → Tmo (drv (V5 ts key ws).2 lb k)) := by
  have h0 : RdOk ts.length 0 (ts, []) := ⟨Nat.le_refl _, rfl, (fun x hx => by cases hx), ht.tmo⟩
  have h1 := B5L (key :: ws) h0 h
  have e : V5 ts key ws = (key :: ws).foldl A0g (ts, []) := rfl
  rw [← e, List.length_cons] at h1
  refine ⟨B2e (key :: ws) (ts, []) h ht, fun k hk => B48 (fun x hx => ?_) (by rw [h1.ofl]; omega) hb qO qO⟩
  have h2 := h1.of x hx
  have h3 := h1.len
  unfold i64; omega
theorem A8v (s : Ps) (key : LN) (ws : List (LN)) (lb : LN) (n : Nat) : Ext s (A4t s key ws lb n) := by
  cases hr : s.real with
  | true => rw [A6t hr]; exact Ext.refl s
  | false =>
    rw [A3H hr]
    obtain ⟨l1, e1⟩ := A7w (key :: ws) (s.ts, [])
    obtain ⟨l2, e2⟩ := A4d (V5 s.ts key ws).1 (V5 s.ts key ws).2 lb n
    refine ⟨⟨rfl, l1 ++ l2, ?_⟩, rfl, Nat.le_refl _⟩
    show (N0 _ _ _ _).1 = _
    rw [e2, show (V5 s.ts key ws).1 = _ from e1, List.append_assoc]
theorem B7J {s : Ps} {key lb : LN} {ws : List (LN)} {n : Nat} (ht : Tok s.ts) (h : s.real = false → ∀ w ∈ key :: ws, Rok s.ts w) (hb : B256 lb) (hbl : lb.length ≤ 1000) (hn : n ≤ 100) (hl : s.ts.length + ws.length + 1 ≤ 1048576) : Tok (A4t s key ws lb n).ts := by
  cases hr : s.real with
  | true => rw [A6t hr]; exact ht
  | false =>
    obtain ⟨t1, hd⟩ := A4e ht (h hr) hb hbl hl
    rw [A3H hr]
    exact A3L t1 hd hn
theorem A6S {s s' : Ps} {key lb : LN} {ws : List (LN)} {n : Nat} (ht : Tok s.ts) (h : s.real = false → ∀ w ∈ key :: ws, Rok s.ts w) (hb : B256 lb) (hbl : lb.length ≤ 1000) (hn : n ≤ 100) (hl0 : s.ts.length + ws.length + 1 ≤ 1048576) (he : Pext (A4t s key ws lb n) s') (ht' : Tok s'.ts) (hl : s'.ts.length ≤ 1048576) :
    A4t s' key ws lb n = s' ∧ A6s s' key ws lb n = A6s s key ws lb n := by
  have hrr : s'.real = s.real := by rw [he.real, (A2a s key ws lb n).1]
  cases hr : s.real with
  | true => exact ⟨A6t (hrr.trans hr), by rw [A6u hr, A6u (hrr.trans hr)]⟩
  | false =>
    have hr' : s'.real = false := hrr.trans hr
    have h := h hr
    obtain ⟨l, e⟩ := he.ts
    rw [A3H hr] at e
    change s'.ts = (N0 (V5 s.ts key ws).1 (V5 s.ts key ws).2 lb n).1 ++ l at e
    obtain ⟨l2, e2⟩ := A4d (V5 s.ts key ws).1 (V5 s.ts key ws).2 lb n
    have e3 : s'.ts = (V5 s.ts key ws).1 ++ (l2 ++ l) := by rw [e, e2, List.append_assoc]
    obtain ⟨t1, hd⟩ := A4e ht h hb hbl hl0
    have a := A6R (key :: ws) (s.ts, []) (l2 ++ l) h ht (by show Tok ((V5 s.ts key ws).1 ++ (l2 ++ l)); rw [← e3]; exact ht') (by show ((V5 s.ts key ws).1 ++ (l2 ++ l)).length ≤ _; rw [← e3]; exact hl)
    change V5 ((V5 s.ts key ws).1 ++ (l2 ++ l)) key ws = ((V5 s.ts key ws).1 ++ (l2 ++ l), (V5 s.ts key ws).2) at a
    rw [← e3] at a
    have b := A7f t1 hd hn (l := l) e ht'
    have c : A83 s'.ts key ws lb n = (s'.ts, (A83 s.ts key ws lb n).2) := by unfold A83; rw [a]; exact b
    rw [A3H hr', A4T hr', A4T hr, c]
    exact ⟨rfl, rfl⟩
theorem B7K (s : Ps) (key : LN) (ws : List (LN)) (lb : LN) (n : Nat) : (A6s s key ws lb n).length = n := by
  cases hr : s.real with
  | true => rw [A6u hr]; exact A5z _ _
  | false => rw [A4T hr]; exact (A1k _ _ _ _).1
theorem B7L {s : Ps} {key lb : LN} {ws : List (LN)} {n i : Nat} (ht : Tok s.ts) (h : s.real = false → ∀ w ∈ key :: ws, Rok s.ts w) (hb : B256 lb) (hbl : lb.length ≤ 1000) (hn : n ≤ 100) (hl : s.ts.length + ws.length + 1 ≤ 1048576) (hi : i < n) : Kok (A4t s key ws lb n) ((A6s s key ws lb n).getD i []) := by
  intro hr'
  have hr : s.real = false := by rw [← (A2a s key ws lb n).1]; exact hr'
  obtain ⟨t1, hd⟩ := A4e ht (h hr) hb hbl hl
  obtain ⟨j, h1, h2⟩ := B0F t1 hd hn hi
  rw [A3H hr, A4T hr]
  refine ⟨j, (List.getElem?_eq_some_iff.1 h1).1, ?_⟩
  rw [List.getD_eq_getElem?_getD]
  show ((N0 _ _ _ _).2[i]?).getD [] = _
  rw [h2]; rfl
theorem Kok.rok {s : Ps} {w : LN} (h : Kok s w) : s.real = false → Rok s.ts w := fun hr => (h hr).rok
theorem A6T {ts : List Tm} {ofs : List Int} {lb : LN} : ∀ {n : Nat}, ∀ w ∈ (N0 ts ofs lb n).2, ∃ j : Nat, w = bts ((j : Nat) : Int)
  | 0, w, h => by cases h
  | n + 1, w, h => by
    rw [show N0 ts ofs lb (n + 1) = A9s ofs lb (N0 ts ofs lb n) n from P0 n] at h
    rcases List.mem_append.1 (show w ∈ _ ++ [_] from h) with h | h
    · exact A6T w h
    · exact ⟨_, List.mem_singleton.1 h⟩
theorem B7M {s : Ps} {key lb : LN} {ws : List (LN)} {n : Nat} (hn : n ≤ 8) : ∀ w ∈ A6s s key ws lb n, (∀ x ∈ w, x < 256) ∧ w.length = 32 := by
  intro w hw
  cases hr : s.real with
  | true =>
    rw [A6u hr] at hw
    obtain ⟨i, hi, rfl⟩ := List.mem_map.1 hw
    have h1 := List.mem_range.1 hi
    have h2 := A71 key ws lb hn
    refine ⟨fun x hx => A3G _ _ _ x (List.mem_of_mem_take (List.mem_of_mem_drop hx)), ?_⟩
    rw [List.length_drop, List.length_take, h2]; omega
  | false =>
    rw [A4T hr] at hw
    obtain ⟨j, rfl⟩ := A6T w hw
    exact ⟨B3p _, A0N _ qD⟩
theorem B7N {s : Ps} {key lb : LN} {ws : List (LN)} {n i : Nat} (hn : n ≤ 8) (hi : i < n) : (∀ x ∈ (A6s s key ws lb n).getD i [], x < 256) ∧ ((A6s s key ws lb n).getD i []).length = 32 := by
  have hl := B7K s key ws lb n
  rw [List.getD_eq_getElem?_getD, List.getElem?_eq_getElem qO]
  exact B7M hn _ (List.getElem_mem _)
def ahE (N n : Nat) : Int := if n < N then 8 else if 16 < n - N then 7 else 0
def ahX (s : Ps) (key : LN) (N n : Nat) (of : LN) (sks : List Skp) : Ast := if ahE N n = 0 then rep (aSt of) (n - N) (s, key, N, sks) else (s, key, N, sks)
theorem B2f {N n : Nat} (h : ahE N n = 0) : N ≤ n ∧ n - N ≤ 16 := by
  unfold ahE at h
  split at h
  · cases h
  · split at h
    · cases h
    · omega
theorem B2g {N n : Nat} (h1 : N ≤ n) (h2 : n - N ≤ 16) : ahE N n = 0 := by
  unfold ahE
  rw [if_neg qO, if_neg qO]
theorem A8w {s : Ps} {key : LN} {N n : Nat} {of : LN} {sks : List Skp} (h : ahE N n ≠ 0) : ahX s key N n of sks = (s, key, N, sks) := if_neg h
theorem A2A {s : Ps} {key : LN} {N n : Nat} {of : LN} {sks : List Skp} (h : ahE N n = 0) : ahX s key N n of sks = rep (aSt of) (n - N) (s, key, N, sks) := if_pos h
theorem B9s (of : LN) (i : Nat) (x : Ast) : (rep (aSt of) i x).1.n = x.1.n ∧ (rep (aSt of) i x).1.real = x.1.real := by
  induction i with
  | zero => exact ⟨rfl, rfl⟩
  | succ i ih =>
    have h := A0F (rep (aSt of) i x).1 (rep (aSt of) i x).2.1
    exact ⟨h.2.1.trans ih.1, h.2.2.trans ih.2⟩
theorem B7O (s : Ps) (key : LN) (N n : Nat) (of : LN) (sks : List Skp) (hN : N < 4294967296) (hn : n < 4294967296) (hl : sks.length ≤ 1000) :
    (ahX s key N n of sks).1.ts.length ≤ s.ts.length + 48 ∧ (ahX s key N n of sks).1.n = s.n ∧ (ahX s key N n of sks).2.2.1 < 4294967296 ∧ (ahX s key N n of sks).2.2.2.length ≤ 1000 := by
  by_cases h : ahE N n = 0
  · obtain ⟨h1, h2⟩ := B2f h
    rw [A2A h]
    have a := B1s of (n - N) (s, key, N, sks)
    have b := B9s of (n - N) (s, key, N, sks)
    have c := B4e of (n - N) (s, key, N, sks)
    have d := B5p of (n - N) (s, key, N, sks) hl
    dsimp only at a b c d
    exact ⟨by omega, b.1, by omega, d⟩
  · rw [A8w h]
    exact ⟨by dsimp only; omega, rfl, hN, hl⟩
theorem B2h (pb sb : Nat) (s : Ps) (kv vof : Value) (key of : LN) (N n : Nat) (sks : List Skp) (R MP MS A : Mem) (hP : Prm pb s MP) (hS : Sto R sb sks MS) (hR : ∀ x, x ∈ R → x ∈ A) (hk : By R kv key) (hof : By R vof of) (hl : sks.length ≤ 1000) (hn32 : n < 4294967296) (hn : s.ts.length ≤ 1000000) (hG : Glb A) :
    FnX Tryz.prog 59 [(vP pb), .agg #[kv, (vU N)], vof, (vU n), (vP sb)] (MP ++ MS) A fun q M J => ∃ MP' MS' kv', M = MP' ++ MS' ∧ q = .tuple #[.agg #[kv', .int .u32 (((ahX s key N n of sks).2.2.1 : Nat) : Int)], .int .i64 (ahE N n)] ∧ Prm pb (ahX s key N n of sks).1 MP' ∧ Sto (J ++ R) sb (ahX s key N n of sks).2.2.2 MS' ∧ By (J ++ R) kv' (ahX s key N n of sks).2.1 := by
  by_cases h : ahE N n = 0
  · obtain ⟨h1, h2⟩ := B2f h
    rw [A2A h, h]
    exact A9h pb sb s kv vof key of N n sks R MP MS A hP hS hR hk hof hl h1 h2 hn32 hn hG
  · rw [A8w h]
    unfold ahE at h ⊢
    by_cases h1 : n < N
    · rw [if_pos h1]
      refine (FnV.frame (A9i _ _ kv vof key of N n _ (hk.mono fun x hx => List.mem_append_right _ (hR x hx)) (hof.mono fun x hx => List.mem_append_right _ (hR x hx)) h1)).mono fun q M J ⟨e1, e2, e3⟩ => ?_
      subst e1; subst e2; subst e3
      exact ⟨MP, MS, kv, rfl, rfl, hP, hS, hk⟩
    · rw [if_neg h1] at h ⊢
      by_cases h2 : 16 < n - N
      · rw [if_pos h2]
        refine (FnV.frame (A9j _ _ kv vof key of N n _ (hk.mono fun x hx => List.mem_append_right _ (hR x hx)) (hof.mono fun x hx => List.mem_append_right _ (hR x hx)) qO hn32 h2)).mono fun q M J ⟨e1, e2, e3⟩ => ?_
        subst e1; subst e2; subst e3
        exact ⟨MP, MS, kv, rfl, rfl, hP, hS, hk⟩
      · rw [if_neg h2] at h
        exact absurd rfl h
def alW (w hk : LN) (hp hn : Nat) : LN := A4Z w (A5P hk hp hn)
def A1R (r : Rsd) (hk : LN) : Bool := !(decide (hk = r.their)) || decide (r.tk = [])
def opA (s : Ps) (r : Rsd) (hp : Nat) : Ast := if r.tk = [] then (s, r.tk, r.tn, r.sks) else ahX s r.tk r.tn hp r.their r.sks
def A9n (r : Rsd) (hp : Nat) : Int := if r.tk = [] then 0 else ahE r.tn hp
noncomputable def B9W (x : Ast) (r : Rsd) (hk : LN) : Ps × Rsd := (A4j x.1 r.root r.own hk, ⟨r.own, hk, B2I x.1 r.root r.own hk, r.sk, r.sn, A9u x.1 r.root r.own hk, 0, r.prev, x.2.2.2⟩)
noncomputable def opB (s : Ps) (r : Rsd) (hk : LN) (hp : Nat) : Ps × Rsd := if A1R r hk = true then B9W (opA s r hp) r hk else (s, r)
def opC (x : Ps × Rsd) (hn : Nat) : Ast := ahX x.1 x.2.tk x.2.tn hn x.2.their x.2.sks
def opD (x : Ps × Rsd) (hn : Nat) : Ps := X0 (opC x hn).1 (opC x hn).2.1
def A9y (x : Ps × Rsd) (hn : Nat) : LN := A0t (opC x hn).1 (opC x hn).2.1
def opG (r : Rsd) (x : Ps × Rsd) (hn : Nat) : Rsd := ⟨r.own, x.2.their, x.2.root, r.sk, r.sn, A31 (opC x hn).1 (opC x hn).2.1, ((opC x hn).2.2.1 + 1) % 4294967296, r.prev, (opC x hn).2.2.2⟩
noncomputable def opF (s : Ps) (r : Rsd) : Ps × Rsd := (A4j (F2 s) r.root (I9 s) r.their, ⟨I9 s, r.their, B2I (F2 s) r.root (I9 s) r.their, A9u (F2 s) r.root (I9 s) r.their, 0, r.tk, r.tn, r.sn, r.sks⟩)
noncomputable def opZ (b : Bool) (s : Ps) (r : Rsd) : Ps × Rsd := if b = true then opF s r else (s, r)
noncomputable def N5 (s : Ps) (r : Rsd) (w hk : LN) (hp hn : Nat) (g : LN) : Ps × Rsd × Int × LN :=
  match A5M r.sks hk hn with
  | some k => match A1Q s k (alW w hk hp hn) g with
    | none => (s, r, 6, [])
    | some t => (s, ⟨r.own, r.their, r.root, r.sk, r.sn, r.tk, r.tn, r.prev, A2S r.sks hk hn⟩, 0, t)
  | none => if A1R r hk = true ∧ A9n r hp ≠ 0 then ((opA s r hp).1, r, A9n r hp, []) else
    if ahE (opB s r hk hp).2.tn hn ≠ 0 then ((opC (opB s r hk hp) hn).1, r, ahE (opB s r hk hp).2.tn hn, []) else
    match A1Q (opD (opB s r hk hp) hn) (A9y (opB s r hk hp) hn) (alW w hk hp hn) g with
    | none => (opD (opB s r hk hp) hn, r, 6, [])
    | some t => ((opZ (A1R r hk) (opD (opB s r hk hp) hn) (opG r (opB s r hk hp) hn)).1, (opZ (A1R r hk) (opD (opB s r hk hp) hn) (opG r (opB s r hk hp) hn)).2, 0, t)
section
variable {s : Ps} {r : Rsd} {w hk : LN} {hp hn : Nat} {g t k : LN}
theorem B9t (h : A5M r.sks hk hn = some k) (h2 : A1Q s k (alW w hk hp hn) g = none) : N5 s r w hk hp hn g = (s, r, 6, []) := by unfold N5; rw [h]; dsimp only; rw [h2]
theorem B7P (h : A5M r.sks hk hn = some k) (h2 : A1Q s k (alW w hk hp hn) g = some t) : N5 s r w hk hp hn g = (s, ⟨r.own, r.their, r.root, r.sk, r.sn, r.tk, r.tn, r.prev, A2S r.sks hk hn⟩, 0, t) := by unfold N5; rw [h]; dsimp only; rw [h2]
theorem B7Q (h : A5M r.sks hk hn = none) (h1 : A1R r hk = true) (h2 : A9n r hp ≠ 0) : N5 s r w hk hp hn g = ((opA s r hp).1, r, A9n r hp, []) := by unfold N5; rw [h]; dsimp only; rw [if_pos ⟨h1, h2⟩]
theorem oR_n {x : Ps × Rsd} (h : A5M r.sks hk hn = none) (hx : opB s r hk hp = x) (h1 : A1R r hk = true → A9n r hp = 0) (h2 : ahE x.2.tn hn ≠ 0) : N5 s r w hk hp hn g = ((opC x hn).1, r, ahE x.2.tn hn, []) := by
  unfold N5; rw [h]; dsimp only; rw [if_neg (fun h3 => h3.2 (h1 h3.1)), hx, if_pos h2]
theorem C0S {x : Ps × Rsd} (h : A5M r.sks hk hn = none) (hx : opB s r hk hp = x) (h1 : A1R r hk = true → A9n r hp = 0) (h2 : ahE x.2.tn hn = 0) (h3 : A1Q (opD x hn) (A9y x hn) (alW w hk hp hn) g = none) : N5 s r w hk hp hn g = (opD x hn, r, 6, []) := by
  unfold N5; rw [h]; dsimp only; rw [if_neg (fun h3 => h3.2 (h1 h3.1)), hx, if_neg (fun h => h h2), h3]
theorem B2i {x : Ps × Rsd} (h : A5M r.sks hk hn = none) (hx : opB s r hk hp = x) (h1 : A1R r hk = true → A9n r hp = 0) (h2 : ahE x.2.tn hn = 0) (h3 : A1Q (opD x hn) (A9y x hn) (alW w hk hp hn) g = some t) : N5 s r w hk hp hn g = ((opZ (A1R r hk) (opD x hn) (opG r x hn)).1, (opZ (A1R r hk) (opD x hn) (opG r x hn)).2, 0, t) := by
  unfold N5; rw [h]; dsimp only; rw [if_neg (fun h3 => h3.2 (h1 h3.1)), hx, if_neg (fun h => h h2), h3]
end
theorem A4f {P : Program} {fn : Func} {l : Env} {R : Mem} {t u x b n : Nat} {ty : TypeId} {cs : List Value} {e : TypeId} {fr : Nat × Nat} {v z : Value} (h : fn.results = #[.cell t ty, .tmp u, .tmp x]) (hv : lk l t = some (vP b)) (hu : lk l u = some v) (hx : lk l x = some z) (ht : A6W P ty = some n)
    (hb : (b, Obj.cells cs.toArray e fr) ∈ R) (hn : cs.length = n) : Res P fn l R (.tuple #[.agg cs.toArray, v, z]) := fun N a w ha hw => by
  obtain ⟨dsc, h1, h2, h3⟩ := W5 ht
  have hl := run_loadVar_row (P := P) w b e ty cs.toArray fr dsc (hw b _ hb) h1 (by cases dsc <;> simp_all [TypeDesc.isRow]) (by rw [h3, ← hn]; simp)
  simp [results, h, ha.slot t _ hv, ha.slot u _ hu, ha.slot x _ hx, asAddr, hl]

end Go.Proofs.YtlilcmjbaknafaaGreatDoor
