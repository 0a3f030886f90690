/- Part 3 of the texts of this claim, one behind the other. -/
import Derived.Test.YtoigcbkclcbmpaaGreatDoorB2
import Derived.LoopN
set_option linter.unusedVariables false
set_option linter.unusedSimpArgs false
set_option maxRecDepth 100000
namespace Go.Proofs.YtoigcbkclcbmpaaGreatDoor
open Go.Px
def A7x (R : Mem) (v : Value) (ps : List (LN)) : Prop :=
  ∃ vs : List Value, Rd R 1 v ps.length vs ∧ ∀ (i : Nat) (p : LN), ps[i]? = some p → (∀ x ∈ p, x < 256) ∧ ∃ u, vs[i]? = some u ∧ Rd R 1 u p.length (nums .u8 p)
theorem A7x.mono {R R' : Mem} {v : Value} {ps : List (LN)} (h : A7x R v ps) (hR : ∀ x, x ∈ R → x ∈ R') : A7x R' v ps := by
  obtain ⟨vs, h1, h2⟩ := h
  refine ⟨vs, h1.mono hR, fun i p hp => ?_⟩
  obtain ⟨h3, u, h4, h5⟩ := h2 i p hp
  exact ⟨h3, u, h4, h5.mono hR⟩
def A1p (ps : List (LN)) (i : Nat) : LN := (ps.take i).flatten
theorem B0u {ps : List (LN)} {i : Nat} {p : LN} (h : ps[i]? = some p) : A1p ps (i + 1) = A1p ps i ++ p := by
  unfold A1p; rw [List.take_add_one, h]; simp
theorem A22 (ps : List (LN)) : A1p ps ps.length = ps.flatten := by unfold A1p; rw [List.take_length]
theorem B6T (ps : List (LN)) (i : Nat) : (A1p ps i).length ≤ ps.flatten.length := by
  have h := congrArg (fun l => (List.flatten l).length) (List.take_append_drop i ps)
  simp only [List.flatten_append, List.length_append] at h
  unfold A1p; omega
theorem A7y {ps : List (LN)} (h : ∀ (i : Nat) (p : LN), ps[i]? = some p → ∀ x ∈ p, x < 256) (i : Nat) : ∀ x ∈ A1p ps i, x < 256 := by
  intro x hx
  obtain ⟨p, hp, hx⟩ := List.mem_flatten.1 hx
  obtain ⟨j, hj⟩ := List.getElem?_of_mem (List.mem_of_mem_take hp)
  exact h j p hj x hx
theorem A9v (m : LN) : (G6 m).length = 64 * ((G6 m).length / 64) ∧ 64 * (m.length / 64) ≤ (G6 m).length ∧ (G6 m).length ≤ m.length + 73 := by
  have e : (G6 m).length = m.length + 1 + A3p m.length + 8 := by simp [G6, B3p]; omega
  have hz : A3p m.length = (119 - m.length % 64) % 64 := rfl
  omega
theorem A7z (m : LN) (k : Nat) (h : 64 * k ≤ m.length) : (G6 m).drop (64 * k) = m.drop (64 * k) ++ (128 :: (List.replicate (A3p m.length) 0 ++ B3p m.length 8)) := by
  unfold G6; rw [List.drop_append_of_le_length h]
theorem B0v {m : LN} (h : ∀ x ∈ m, x < 256) : ∀ x ∈ G6 m, x < 256 := by
  intro x hx
  unfold G6 at hx
  rcases List.mem_append.1 hx with hx | hx
  · exact h x hx
  · rcases List.mem_cons.1 hx with rfl | hx
    · decide
    · rcases List.mem_append.1 hx with hx | hx
      · rw [(List.mem_replicate.1 hx).2]; decide
      · obtain ⟨i, _, rfl⟩ := List.mem_map.1 hx
        exact Nat.mod_lt _ qD
theorem A6h {k : IntKind} {ws : LN} (n : Nat) : (nums k ws).take (n * 1) = nums k (ws.take n) := by rw [Nat.mul_one, A0Z]
theorem A6i {k : IntKind} {ws : LN} (n : Nat) : (nums k ws).drop (n * 1) = nums k (ws.drop n) := by rw [Nat.mul_one, A0r]
theorem B0w (s t : S8) : (nums .u32 s.list).length = (nums .u32 t.list).length := by rw [nums_len, nums_len]; simp [S8.list]
theorem B0x (n k : Nat) : B3p n (k + 1) = B3p n k ++ [(8 * n) >>> (56 - 8 * k) % 256] := by simp [B3p, List.range_succ]
theorem A1V (v : Value) (ps : List (LN)) (A : Mem) (hv : A7x A v ps) (htot : ps.flatten.length ≤ 2147483648) (hcnt : ps.length ≤ 2147483648) {ef ek : TypeId} {ff fk : Nat × Nat} (h0 : (0, Obj.cells (nums .u32 A0M.list).toArray ef ff) ∈ A) (h1 : (1, Obj.cells (nums .u32 A0V).toArray ek fk) ∈ A) :
  FnX Tryz.prog 66 [v] [] A fun r M J => J = [] ∧ Sl 1 r 32 (nums .u8 (U1 ps.flatten)) M := by
 obtain ⟨vs, hvs, hps⟩ := hv
 refine FnX.enter (N := 90) Tryz.func66 rfl rfl rfl fun w => ?_
 refine C4 (D8 0) (A3 (as_ (A0 (D8 0) (A3 ?_))))
 refine A4 (H6 (cs := nums .u32 A0M.list) (n := 8) rfl kR (mA h0) qR) rfl ?_
 refine A6 rfl (C5 (cs := [G4, G4, G4, G4, G4, G4, G4, G4]) kR rfl fun b3 => ?_)
 refine A8j rfl rfl kR qR E8 ?_
 refine as_ (A0 (E2 0 3 4) (A3 (as_ (A0 (E7 0 3 4 5) (A5 (A3 (mv_ ?_)))))))
 refine A4 (A0O hvs rfl kR) rfl ?_
 refine mv_ (A0 (I1 3 4 5 13 14 15) (C0 ?_))
 refine F2 (α := Nat × Value × Mem) (fun x => [(3, (vP b3)), (4, .int .i64 ((A1p ps x.1).length : Int)), (5, x.2.1), (13, v), (14, .int .i64 (ps.length : Int)), (15, .int .i64 (x.1 : Int))]) (fun x => x.2.2 ++ [(b3, blk (nums .u32 (A1R A0V ((A1p ps x.1).length / 64) A0M (A1p ps x.1)).list) 130)]) (fun _ => []) (fun x => x.1 ≤ ps.length ∧ Sl 1 x.2.1 ((A1p ps x.1).length - 64 * ((A1p ps x.1).length / 64)) (nums .u8 ((A1p ps x.1).drop (64 * ((A1p ps x.1).length / 64)))) x.2.2) (fun x => ps.length - x.1) (0, vS, []) ⟨Nat.zero_le _, A0s Sl.nil (by simp [A1p]) (by simp [A1p, nums])⟩ (I1 3 4 5 13 14 15) (Fit.eq (by simp [A1p, A1R])) qI ?_
 rintro ⟨i, rv, B⟩ ⟨hi, hsl⟩
 dsimp only at hi hsl ⊢
 refine A3 ?_
 refine A4 (F1 rfl rfl rfl) rfl ?_
 refine A0 (Y0 3 4 5 13 14 15 16) (A5 ?_)
 refine C7 rfl ?_ ?_ <;> intro hc
 ·
  have hlt : i < ps.length := by simp at hc; omega
  obtain ⟨q, hq⟩ : ∃ q, ps[i]? = some q := ⟨_, List.getElem?_eq_getElem hlt⟩
  obtain ⟨hq256, u, hu, hqr⟩ := hps i q hq
  have hps1 := B0u hq
  have hle1 := B6T ps (i + 1)
  have hpl : (A1p ps (i + 1)).length = (A1p ps i).length + q.length := by rw [hps1, List.length_append]
  generalize hm : A1p ps i = m at *
  refine A9 (nx (I1 3 4 5 13 14 15) (A5 (C0 (A3 ?_))))
  refine A4 (B3r hvs rfl rfl kR i rfl hlt) rfl ?_
  refine A4 (A00 (hvs.mono fun _ h => mA h) rfl kR hu) rfl ?_
  refine as_ (A0 (Y0 3 4 5 7 13 14 15) (A3 (mv_ (mv_ ?_))))
  refine A4 (A0O hqr rfl kR) rfl ?_
  refine A4 (E3 (((A1p ps (i + 1)).length : Nat) : Int) rfl rfl (G3 qO qO qO)) rfl ?_
  refine as_ (A0 (Y0 3 4 5 7 13 14 15) (A3 (mv_ (mv_ ?_))))
  refine A6 rfl (U2 (e := 5) (sz := 1) (by_ := 1) (m := q.length) (B := B) rfl rfl kR rfl hsl (hqr.mono fun _ h => mA h) E8 (.refl _) (by unfold maxLen; omega) qO rfl fun rv1 B1 hsl1 => ?_)
  have hsl1 : Sl 1 rv1 ((A1p ps (i + 1)).length - 64 * (m.length / 64)) (nums .u8 ((A1p ps (i + 1)).drop (64 * (m.length / 64)))) B1 := A0s hsl1 qO (by rw [hps1, List.drop_append_of_le_length qO, K3])
  refine as_ (A0 (I1 3 4 5 13 14 15) (C0 ?_))
  refine F2 (α := Nat × Value × Mem) (fun x => [(3, (vP b3)), (4, .int .i64 ((A1p ps (i + 1)).length : Int)), (5, x.2.1), (13, v), (14, .int .i64 (ps.length : Int)), (15, .int .i64 (i : Int))]) (fun x => x.2.2 ++ [(b3, blk (nums .u32 (A1R A0V x.1 A0M (A1p ps (i + 1))).list) 130)]) (fun _ => []) (fun x => 64 * x.1 ≤ (A1p ps (i + 1)).length ∧ Sl 1 x.2.1 ((A1p ps (i + 1)).length - 64 * x.1) (nums .u8 ((A1p ps (i + 1)).drop (64 * x.1))) x.2.2) (fun x => (A1p ps (i + 1)).length - 64 * x.1) (m.length / 64, rv1, B1) ⟨by dsimp only; omega, hsl1⟩ (I1 3 4 5 13 14 15) (Fit.eq (by dsimp only; rw [hps1, A46 _ _ _ _ _ qO])) qI ?_
  clear hsl1 hsl
  rintro ⟨k, rv, B⟩ ⟨hk1, hsl⟩
  dsimp only at hk1 hsl ⊢
  refine A5 (A3 (mv_ ?_))
  refine A4 (A0O (hsl.rd fun _ h => h) rfl kR) rfl ?_
  refine A4 (F1 rfl rfl rfl) rfl ?_
  refine A0 (Y0 3 4 5 13 14 15 28) ?_
  refine C7 rfl ?_ ?_ <;> intro hc
  ·
   have hge : 64 ≤ (A1p ps (i + 1)).length - 64 * k := by simp at hc; omega
   obtain ⟨B2, hB2, hsl2⟩ := hsl.loV 64 hge
   refine A9 (nx (I1 3 4 5 13 14 15) (C0 ?_))
   refine A2p (_) [0, 1, 2] [(0, 1), (1, 0), (2, 0), (3, 2), (4, 2)] kR kR qI fun hs => ?_
   refine A4c hs rfl (H6 (n := 8) rfl kR At.mem qR) rfl ?_
   refine N1 hs rfl qm_ rfl ?_
   refine N1 hs rfl (B6Q (hsl.rd fun _ h => h) rfl rfl kR 64 rfl hge) rfl ?_
   refine A1Q rfl rfl rfl (W2 (aS rfl (aS rfl a0)) kR (A4r _ (A45 _ _ _ A1S) _ (fun x hx => (A7y (fun j p hp => (hps j p hp).1) (i + 1)) x (List.mem_of_mem_drop (List.mem_of_mem_take hx))) _ _ (A1n ((hsl.rd fun _ h => by simp [h]).hiV 64 hge) rfl (A6h 64)) (mA h1)) rfl ?_)
   refine A1Q rfl rfl rfl (A8 rfl rfl rfl kR (B0w _ _) E8 UpC.upd ?_)
   refine A4n (I1 3 4 5 13 14 15) ?_
   refine C2 (mv_ ?_)
   refine A4 (B6R (hsl.rd fun _ h => h) rfl rfl kR 64 rfl hge) rfl ?_
   refine as_ (D0 (nb ?_))
   refine rn (k + 1, _, B2) ⟨by dsimp only; omega, A0s hsl2 (by dsimp only; omega) (by rw [A6i, List.drop_drop]; rfl)⟩ (by dsimp only; omega) (I1 3 4 5 13 14 15) ?_ qI
   dsimp only
   rw [A3q]
   exact Fit.sub (List.Sublist.append hB2 (List.Sublist.refl _))
  ·
   have hge : k = (A1p ps (i + 1)).length / 64 := by simp at hc; omega
   subst hge
   refine E6 (te (re (be rfl (nb (nx (I1 3 4 5 13 14 15) (C2 ?_))))))
   refine A4 (E3 ((i + 1 : Nat) : Int) rfl rfl (G3 qO qO qO)) rfl ?_
   refine mv_ (D0 ?_)
   refine rn (i + 1, _, B) ⟨by dsimp only; omega, hsl⟩ (by dsimp only; omega) (I1 3 4 5 13 14 15) .rfl qI
 ·
  have hlt : i = ps.length := by simp at hc; omega
  subst hlt
  rw [A22] at hsl
  simp only [A22]
  generalize hm : ps.flatten = m at *
  refine E6 (te (re (be rfl (nx (E2 3 4 5) (A3 (mv_ ?_))))))
  refine A6 rfl (C6 (e := 5) (sz := 1) (z := [.int .u8 0]) kR (eS rfl e0) (bdS 0 1 rfl qR bd0) rfl fun b37 => ?_)
  have hm256 : ∀ x ∈ m, x < 256 := by rw [← hm, ← A22]; exact A7y (fun j p hp => (hps j p hp).1) _
  have htot' : m.length ≤ 2147483648 := htot
  refine A6 rfl (U2 (e := 5) (sz := 1) (by_ := 1) (m := 1) (B := B) (ys := nums .u8 [128]) (M0 := (b37, _) :: _) rfl rfl kR rfl hsl (Rd.whole (n := 1) m0 qR) E8 pkB (by unfold maxLen; omega) qO rfl fun rv1 B1 hsl1 => ?_)
  clear hsl
  have hsl1 : Sl 1 rv1 (m.length % 64 + 1) (nums .u8 (m.drop (64 * (m.length / 64)) ++ [128])) B1 := A0s hsl1 qO (by rw [K3])
  refine as_ (A0 (E2 3 4 5) (A5 (C0 ?_)))
  refine F2 (α := Nat × Value × Mem) (fun x => [(3, (vP b3)), (4, .int .i64 (m.length : Int)), (5, x.2.1)]) (fun x => x.2.2 ++ [(b3, blk (nums .u32 (A1R A0V (m.length / 64) A0M m).list) 130)]) (fun _ => []) (fun x => x.1 ≤ A3p m.length ∧ Sl 1 x.2.1 (m.length % 64 + 1 + x.1) (nums .u8 (m.drop (64 * (m.length / 64)) ++ (128 :: List.replicate x.1 0))) x.2.2) (fun x => A3p m.length - x.1) (0, rv1, B1) ⟨Nat.zero_le _, hsl1⟩ (E2 3 4 5) (Fit.head1' (List.Sublist.refl _)) qI ?_
  clear hsl1
  rintro ⟨z, rv, B⟩ ⟨hz, hsl⟩
  dsimp only at hz hsl ⊢
  have hzz : A3p m.length = (119 - m.length % 64) % 64 := rfl
  refine A5 (A3 (mv_ ?_))
  refine A4 (A0O (hsl.rd fun _ h => h) rfl kR) rfl ?_
  refine A4 (B0n (b := 64) rfl rfl qD) rfl ?_
  refine A4 (F1 rfl rfl rfl) rfl ?_
  refine A0 (E7 3 4 5 42) ?_
  refine C7 rfl ?_ ?_ <;> intro hc
  ·
   have hlt : z < A3p m.length := by simp at hc; omega
   refine A9 (nx (E2 3 4 5) (C0 (C2 (mv_ ?_))))
   refine A6 rfl (C6 (e := 5) (sz := 1) (z := [.int .u8 0]) kR (eS rfl e0) (bdS 0 1 rfl qR bd0) rfl fun b44 => ?_)
   refine A6 rfl (U2 (e := 5) (sz := 1) (by_ := 1) (m := 1) (B := B) (ys := nums .u8 [0]) (M0 := (b44, _) :: _) rfl rfl kR rfl hsl (Rd.whole (n := 1) m0 qR) E8 pkB (by unfold maxLen; omega) qO rfl fun rv1 B1 hsl1 => ?_)
   refine as_ (D0 (nb ?_))
   refine rn (z + 1, rv1, B1) ⟨by dsimp only; omega, A0s hsl1 (by dsimp only; omega) ?_⟩ (by dsimp only; omega) (E2 3 4 5) (Fit.head1' (List.Sublist.refl _)) qI
   dsimp only
   rw [← K3, List.append_assoc, List.cons_append, ← List.replicate_succ']
  ·
   have hlt : z = A3p m.length := by simp at hc; omega
   subst hlt
   refine E6 (te (re (be rfl (nx (E2 3 4 5) (A5 (A3 (mv_ ?_)))))))
   refine A0 (E7 3 4 5 46) (C0 ?_)
   refine F2 (α := Nat × Value × Mem) (fun x => [(3, (vP b3)), (4, .int .i64 (m.length : Int)), (5, x.2.1), (46, .int .i64 (x.1 : Int))]) (fun x => x.2.2 ++ [(b3, blk (nums .u32 (A1R A0V (m.length / 64) A0M m).list) 130)]) (fun _ => []) (fun x => x.1 ≤ 8 ∧ Sl 1 x.2.1 (m.length % 64 + 1 + A3p m.length + x.1) (nums .u8 (m.drop (64 * (m.length / 64)) ++ (128 :: (List.replicate (A3p m.length) 0 ++ B3p m.length x.1)))) x.2.2) (fun x => 8 - x.1) (0, rv, B) ⟨Nat.zero_le _, A0s hsl rfl (by simp [B3p])⟩ (E7 3 4 5 46) .rfl qI ?_
   clear hsl
   rintro ⟨i, rv, B⟩ ⟨hi, hsl⟩
   dsimp only at hi hsl ⊢
   refine A3 ?_
   refine A4 (F1 rfl rfl rfl) rfl ?_
   refine A0 (F5 3 4 5 46 47) (A5 ?_)
   refine C7 rfl ?_ ?_ <;> intro hc
   ·
    have hlt : i < 8 := by simp at hc; omega
    refine A9 (nx (E7 3 4 5 46) (A5 (C0 (A3 (mv_ (as_ (A0 (F5 3 4 5 8 46) (C2 ?_))))))))
    refine mv_ (mv_ ?_)
    refine A4 (E3 ((8 * m.length : Nat) : Int) rfl rfl (A40 qO qO qO)) rfl ?_
    refine A4 (A1o (k' := .u64) rfl kR (by show _ < 9223372036854775808; omega)) rfl ?_
    refine mv_ ?_
    refine A4 (E3 ((8 * i : Nat) : Int) rfl rfl (A40 qO qO qO)) rfl ?_
    refine A4 (E3 ((56 - 8 * i : Nat) : Int) rfl rfl (Z9 qO qO qO)) rfl ?_
    refine A4 (A0L (56 - 8 * i) rfl rfl rfl (by show _ ≤ 64; omega)) rfl ?_
    refine A4 (A3o rfl kR) rfl ?_
    refine A6 rfl (C6 (e := 5) (sz := 1) (z := [.int .u8 0]) kR (eS rfl e0) (bdS 0 1 rfl qR bd0) rfl fun b58 => ?_)
    refine A6 rfl (U2 (e := 5) (sz := 1) (by_ := 1) (m := 1) (B := B) (ys := nums .u8 [(8 * m.length) >>> (56 - 8 * i) % 256]) (M0 := (b58, _) :: _) rfl rfl kR rfl hsl (Rd.whole (n := 1) m0 qR) E8 pkB (by unfold maxLen; omega) qO rfl fun rv1 B1 hsl1 => ?_)
    refine as_ (D0 (nb (nx (E7 3 4 5 46) (C2 ?_))))
    refine A4 (E3 ((i + 1 : Nat) : Int) rfl rfl (G3 qO qO qO)) rfl ?_
    refine mv_ (D0 ?_)
    refine rn (i + 1, rv1, B1) ⟨by dsimp only; omega, A0s hsl1 (by dsimp only; omega) ?_⟩ (by dsimp only; omega) (E7 3 4 5 46) (Fit.head1' (List.Sublist.refl _)) qI
    dsimp only
    rw [← K3, List.append_assoc, List.cons_append, List.append_assoc, ← B0x]
   ·
    have hlt : i = 8 := by simp at hc; omega
    subst hlt
    refine E6 (te (re (be rfl (nx (D5 3 5) (A5 (C0 ?_))))))
    obtain ⟨hp1, hp2, hp3⟩ := A9v m
    have hsl0 := A0s (n' := (G6 m).length - 64 * (m.length / 64)) (xs' := nums .u8 ((G6 m).drop (64 * (m.length / 64)))) hsl (by simp [G6, B3p]; omega) (by rw [A7z _ _ qO])
    clear hsl
    refine F2 (α := Nat × Value × Mem) (fun x => [(3, (vP b3)), (5, x.2.1)]) (fun x => x.2.2 ++ [(b3, blk (nums .u32 (A1R A0V x.1 A0M (G6 m)).list) 130)]) (fun _ => []) (fun x => 64 * x.1 ≤ (G6 m).length ∧ Sl 1 x.2.1 ((G6 m).length - 64 * x.1) (nums .u8 ((G6 m).drop (64 * x.1))) x.2.2) (fun x => (G6 m).length - 64 * x.1) (m.length / 64, rv, B) ⟨hp2, hsl0⟩ (D5 3 5) (Fit.eq (by dsimp only; unfold G6; rw [A46 _ _ _ _ _ qO])) qI ?_
    clear hsl0
    rintro ⟨k, rv, B⟩ ⟨hk1, hsl⟩
    dsimp only at hk1 hsl ⊢
    refine A5 (A3 (mv_ ?_))
    refine A4 (A0O (hsl.rd fun _ h => h) rfl kR) rfl ?_
    refine A4 (F1 rfl rfl rfl) rfl ?_
    refine A0 (E2 3 5 63) ?_
    refine C7 rfl ?_ ?_ <;> intro hc
    ·
     have hge : 64 ≤ (G6 m).length - 64 * k := by simp at hc; omega
     obtain ⟨B2, hB2, hsl2⟩ := hsl.loV 64 hge
     refine A9 (nx (D5 3 5) (A5 (C0 ?_)))
     refine A1P (_) [0, 1, 2] [(0, 1), (1, 0), (2, 0), (3, 2), (4, 2)] kR kR qI fun hs => ?_
     refine A4c hs rfl (H6 (n := 8) rfl kR At.mem qR) rfl ?_
     refine N1 hs rfl qm_ rfl ?_
     refine N1 hs rfl (B6Q (hsl.rd fun _ h => h) rfl rfl kR 64 rfl hge) rfl ?_
     refine A1Q rfl rfl rfl (W2 (aS rfl (aS rfl a0)) kR (A4r _ (A45 _ _ _ A1S) _ (fun x hx => (B0v hm256) x (List.mem_of_mem_drop (List.mem_of_mem_take hx))) _ _ (A1n ((hsl.rd fun _ h => by simp [h]).hiV 64 hge) rfl (A6h 64)) (mA h1)) rfl ?_)
     refine A1Q rfl rfl rfl (A8 rfl rfl rfl kR (B0w _ _) E8 UpC.upd ?_)
     refine A6a ?_
     refine nb (nx (D5 3 5) (C2 (mv_ ?_)))
     refine A4 (B6R (hsl.rd fun _ h => h) rfl rfl kR 64 rfl hge) rfl ?_
     refine as_ (D0 ?_)
     refine rn (k + 1, _, B2) ⟨by dsimp only; omega, A0s hsl2 (by dsimp only; omega) (by rw [A6i, List.drop_drop]; rfl)⟩ (by dsimp only; omega) (D5 3 5) ?_ qI
     dsimp only
     rw [A3q]
     exact Fit.sub (List.Sublist.append hB2 (List.Sublist.refl _))
    ·
     have hge : k = (G6 m).length / 64 := by simp at hc; omega
     subst hge
     refine E6 (te (re (be rfl (nx (D8 3) (A3 (as_ (A0 (D5 3 9) ?_)))))))
     refine A5 (A3 ?_)
     have hro := A45 A0V ((G6 m).length / 64) (G6 m) A1S
     generalize hr : A1R A0V ((G6 m).length / 64) A0M (G6 m) = r at *
     refine B0k (n := 8) rfl kR qR rfl ?_
     refine mv_ (A0 (E2 9 70 71) (C0 ?_))
     refine F2 (α := Nat × Value × Mem) (fun x => [(9, x.2.1), (70, .agg (nums .u32 r.list).toArray), (71, .int .i64 (x.1 : Int))]) (fun x => x.2.2) (fun _ => []) (fun x => x.1 ≤ 8 ∧ Sl 1 x.2.1 (4 * x.1) (nums .u8 ((r.list.take x.1).flatMap A7h)) x.2.2) (fun x => 8 - x.1) (0, vS, []) ⟨Nat.zero_le _, Sl.nil⟩ (E2 9 70 71) (Fit.sub (List.nil_sublist _)) qI ?_
     clear hsl
     rintro ⟨i, rv, B⟩ ⟨hi, hsl⟩
     dsimp only at hi hsl ⊢
     refine A3 ?_
     refine A4 (F1 rfl rfl rfl) rfl ?_
     refine A0 (E7 9 70 71 72) (A5 ?_)
     refine C7 rfl ?_ ?_ <;> intro hc
     ·
      have hlt : i < 8 := by simp at hc; omega
      have hx32 : r.list.getD i 0 < 4294967296 := getD_lt hro qD
      refine A9 (nx (E2 9 70 71) (A5 (C0 (A3 ?_))))
      refine A4 (B6S (e := 30) (m := 8) (j := i) rfl rfl kR kR kR rfl hlt (W6 (show i < 8 from hlt))) rfl ?_
      refine as_ (A0 (E7 9 11 70 71) (C2 (mv_ (mv_ ?_))))
      refine A4 (A0L 24 rfl rfl rfl qD) rfl ?_
      refine A4 (A3o rfl kR) rfl ?_
      refine mv_ ?_
      refine A4 (A0L 16 rfl rfl rfl qD) rfl ?_
      refine A4 (A3o rfl kR) rfl ?_
      refine mv_ ?_
      refine A4 (A0L 8 rfl rfl rfl qD) rfl ?_
      refine A4 (A3o rfl kR) rfl ?_
      refine mv_ ?_
      refine A4 (A3o rfl kR) rfl ?_
      refine A6 rfl (C6 (e := 5) (sz := 1) (z := [zu8, zu8, zu8, zu8]) kR (eS rfl (eS rfl (eS rfl (eS rfl e0)))) (bdS 0 1 rfl qR (bdS 1 1 rfl qR (bdS 2 1 rfl qR (bdS 3 1 rfl qR bd0)))) rfl fun b86 => ?_)
      refine A6 rfl (U2 (e := 5) (sz := 1) (by_ := 1) (m := 4) (B := B) (ys := nums .u8 (A7h (r.list.getD i 0))) (M0 := (b86, _) :: _) rfl rfl kR rfl hsl (Rd.whole (n := 4) m0 qR) E8 pkB0 (by unfold maxLen; omega) qO rfl fun rv1 B1 hsl1 => ?_)
      refine as_ (D0 (nb (nx (E2 9 70 71) (C2 ?_))))
      refine A4 (E3 ((i + 1 : Nat) : Int) rfl rfl (G3 qO qO qO)) rfl ?_
      refine mv_ (D0 ?_)
      refine rn (i + 1, rv1, B1) ⟨by dsimp only; omega, A0s hsl1 (by dsimp only; omega) ?_⟩ (by dsimp only; omega) (E2 9 70 71) (Fit.sub (List.sublist_append_left _ _)) qI
      dsimp only
      rw [← K3, List.take_add_one, List.flatMap_append, List.getElem?_eq_getElem (show i < r.list.length from hlt), List.getD, List.getElem?_eq_getElem (show i < r.list.length from hlt)]
      simp
     ·
      have hlt : i = 8 := by simp at hc; omega
      subst hlt
      refine E6 (te (re (be rfl (nx (D8 9) (A3 (mv_ (as_ (A0 (D8 2) ?_))))))))
      refine C3 ?_
      refine ⟨_, B, [], K2 rfl rfl, List.Sublist.refl _, by simp, rfl, A0s hsl rfl ?_⟩
      unfold U1; rw [hr]; rfl

def Pv (R : Mem) (vs : List Value) (ps : List (LN)) : Prop := vs.length = ps.length ∧ ∀ (i : Nat) (p : LN), ps[i]? = some p → (∀ x ∈ p, x < 256) ∧ ∃ u, vs[i]? = some u ∧ Rd R 1 u p.length (nums .u8 p)
theorem Pv.nil {R : Mem} : Pv R [] [] := ⟨rfl, fun i p h => by simp at h⟩
theorem Pv.cons {R : Mem} {vs : List Value} {ps : List (LN)} {u : Value} {p : LN} (hp : ∀ x ∈ p, x < 256) (hu : Rd R 1 u p.length (nums .u8 p)) (h : Pv R vs ps) : Pv R (u :: vs) (p :: ps) := by
  refine ⟨by simp [h.1], fun i q hq => ?_⟩
  cases i with
  | zero => cases hq; exact ⟨hp, u, rfl, hu⟩
  | succ i => exact h.2 i q (by simpa using hq)
theorem Pv.mono {R R' : Mem} {vs : List Value} {ps : List (LN)} (h : Pv R vs ps) (hR : ∀ x, x ∈ R → x ∈ R') : Pv R' vs ps := by
  refine ⟨h.1, fun i p hp => ?_⟩
  obtain ⟨h3, u, h4, h5⟩ := h.2 i p hp
  exact ⟨h3, u, h4, h5.mono hR⟩
theorem Pv.one {R : Mem} {vs : List Value} {ps : List (LN)} (h : Pv R vs ps) : ∀ c ∈ vs, c.oneCell' = true := by
  intro c hc
  obtain ⟨i, hi⟩ := List.getElem?_of_mem hc
  have hlt := (List.getElem?_eq_some_iff.1 hi).1
  obtain ⟨_, u, hu, p, c', rfl, _⟩ := h.2 i _ (List.getElem?_eq_getElem (h.1 ▸ hlt))
  rw [hi] at hu; cases hu; rfl
theorem Pv.lt {R : Mem} {vs : List Value} {ps : List (LN)} (h : Pv R vs ps) : ∀ x ∈ ps.flatten, x < 256 := by
  rw [← A22]
  exact A7y (fun i p hp => (h.2 i p hp).1) _
theorem A7x.of {R : Mem} {v : Value} {n : Nat} {vs : List Value} {ps : List (LN)} (h : Rd R 1 v n vs) (hn : n = ps.length) (hp : Pv R vs ps) : A7x R v ps := ⟨vs, hn ▸ h, hp.2⟩
theorem A7x.pv {R : Mem} {v : Value} {ps : List (LN)} (h : A7x R v ps) : ∃ vs, Rd R 1 v ps.length vs ∧ Pv R vs ps := by
  obtain ⟨vs, h1, h2⟩ := h
  exact ⟨vs, h1, by have := h1.len; omega, h2⟩
theorem A3u (p : LN) : (U1 p).length = 32 := by simp [U1, S8.bytes, S8.list, A7h]
theorem A8o (p : LN) : ∀ x ∈ U1 p, x < 256 := by
  intro x hx
  obtain ⟨y, _, hy⟩ := List.mem_flatMap.1 hx
  simp only [A7h, List.mem_cons, List.not_mem_nil, or_false] at hy
  rcases hy with rfl | rfl | rfl | rfl <;> exact Nat.mod_lt _ qD
def A1y (ks : LN) (x i : Nat) : LN := (ks.take i).map (· ^^^ x) ++ ks.drop i
theorem A1W (ks : LN) (x i : Nat) : (A1y ks x i).length = ks.length := by simp [A1y]; omega
theorem A1X {ks : LN} {x i : Nat} (h : i < ks.length) : (A1y ks x i).getD i 0 = ks.getD i 0 := by
  unfold A1y
  have hl : ((ks.take i).map (· ^^^ x)).length = i := by simp; omega
  simp only [List.getD]
  rw [List.getElem?_append_right qO, hl, Nat.sub_self, List.getElem?_drop, Nat.add_zero]
theorem A4t {ks : LN} {x i : Nat} (h : i < ks.length) : (A1y ks x i).set i (ks.getD i 0 ^^^ x) = A1y ks x (i + 1) := by
  unfold A1y
  have hl : ((ks.take i).map (· ^^^ x)).length = i := by simp; omega
  rw [List.set_append_right _ _ qO, hl, Nat.sub_self, List.drop_eq_getElem_cons h, List.set_cons_zero, List.take_add_one, List.getD, List.getElem?_eq_getElem h]
  simp only [Option.getD_some, Option.toList_some, List.map_append, List.map_cons, List.map_nil, List.append_assoc, List.cons_append, List.nil_append]
theorem A6j {ks : LN} {x i : Nat} (h : ks.length = i) : A1y ks x i = ks.map (· ^^^ x) := by
  unfold A1y; rw [← h]; simp
theorem A9w {key : LN} (h : key.length ≤ 64) (x : Nat) : (A2H key x).length = 64 := by simp [A2H]; omega
theorem B0y {key : LN} (h : ∀ x ∈ key, x < 256) {y : Nat} (hy : y < 256) : ∀ x ∈ A2H key y, x < 256 := by
  intro x hx
  obtain ⟨z, hz, rfl⟩ := List.mem_map.1 hx
  refine Nat.xor_lt_two_pow (n := 8) ?_ hy
  rcases List.mem_append.1 hz with hz | hz
  · exact h z hz
  · rw [(List.mem_replicate.1 hz).2]; decide
theorem A9x (key : LN) : (A0N key).length ≤ 64 := by
  unfold A0N; split
  · rw [A3u]; decide
  · omega
theorem B0z {key : LN} (h : ∀ x ∈ key, x < 256) : ∀ x ∈ A0N key, x < 256 := by
  unfold A0N; split
  · exact A8o _
  · exact h
theorem A8p (kv pv : Value) (key : LN) (ps : List (LN)) (A : Mem) (hkey : Rd A 1 kv key.length (nums .u8 key)) (hk256 : ∀ x ∈ key, x < 256) (hk31 : key.length ≤ 1073741824) (hp : A7x A pv ps) (htot : ps.flatten.length ≤ 1073741824) (hcnt : ps.length ≤ 1073741824) {ef ek : TypeId} {ff fk : Nat × Nat} (h0 : (0, Obj.cells (nums .u32 A0M.list).toArray ef ff) ∈ A) (h1 : (1, Obj.cells (nums .u32 A0V).toArray ek fk) ∈ A) :
  FnX Tryz.prog 37 [kv, pv] [] A fun r M J => J = [] ∧ Sl 1 r 32 (nums .u8 (A7i key ps.flatten)) M := by
 obtain ⟨vs, hvs, hpv⟩ := hp.pv
 haveI := hkey.cel
 refine FnX.enter (N := 42) Tryz.func37 rfl rfl rfl fun w => ?_
 refine C4 (D5 0 1) (A3 (as_ (A0 (D5 0 1) ?_)))
 refine A0x (α := Value × Mem) (fun x => [(0, x.1), (1, pv)]) (fun x => x.2) (fun _ => []) (fun x => Rd (x.2 ++ A) 1 x.1 (A0N key).length (nums .u8 (A0N key))) ?_ ?_
 ·
  refine A3 (mv_ ?_)
  refine A4 (A0O hkey rfl kR) rfl ?_
  refine A4 (F1 rfl rfl rfl) rfl ?_
  refine A0 (E2 0 1 10) ?_
  refine C7 rfl ?_ ?_ <;> intro hc
  ·
   have hgt : 64 < key.length := by simp at hc; omega
   refine C2 (mv_ ?_)
   refine A6 rfl (C6 (e := 27) (sz := 1) (z := [vS]) kR (eS rfl e0) (bdS 0 1 rfl qR bd0) rfl fun b12 => ?_)
   refine A6 rfl (E1 (Mc := []) (R := [_]) (aS rfl a0) kR (.refl _) (A1V _ [key] _ (A7x.of (Rd.whole (n := 1) m0 qR) rfl (.cons hk256 (hkey.mono fun _ h => mA h) .nil)) (by simp; omega) qM (mA h0) (mA h1)) rfl ?_)
   rintro r M1 J1 ⟨rfl, hr⟩
   refine as_ (D0 ?_)
   refine jn (r, _) ?_ (D5 0 1) .rfl qI
   dsimp only
   rw [A0N, if_pos hgt, A3u]
   exact A1n (hr.rd fun _ h => by simp [h]) rfl qM
  ·
   have hgt : ¬ 64 < key.length := by simp at hc; omega
   refine A9 ?_
   refine jn (kv, []) ?_ (D5 0 1) .rfl qI
   dsimp only
   rw [A0N, if_neg hgt]
   exact hkey
 ·
  rintro ⟨kv1, Mk⟩ hkv
  dsimp only at hkv ⊢
  have hK64 := A9x key
  have hKb := B0z hk256
  have hkl := A9w hK64
  have hklt := fun y hy => B0y (y := y) hKb hy
  unfold A7i
  unfold A2H at *
  generalize A0N key = K at *
  have hK1 : (K ++ List.replicate (64 - K.length) 0).length = 64 := by simp; omega
  have hK2 : ∀ x ∈ K ++ List.replicate (64 - K.length) 0, x < 256 := fun x hx => by
   rcases List.mem_append.1 hx with h | h
   · exact hKb x h
   · rw [(List.mem_replicate.1 h).2]; decide
  refine A3 ?_
  refine A6 rfl (C5 (cs := nums .u8 (List.replicate 64 0)) kR rfl fun b5 => ?_)
  refine A6 rfl (C5 (cs := nums .u8 (List.replicate 64 0)) kR rfl fun b6 => ?_)
  refine A0 (E7 0 1 5 6) (A3 ?_)
  refine A4 (B3s (e := 5) (sz := 1) (m := 64) rfl kR kR) rfl ?_
  refine mv_ ?_
  refine A6 rfl (B5C (e := 5) (by_ := 1) (n := K.length) (m := 64) (ws := List.replicate 64 0) (us := K) (ws' := K ++ List.replicate (64 - K.length) 0) rfl rfl kR (hkv.mono fun q hq => by rcases List.mem_append.1 hq with h | h <;> simp [h]) hK64 qM (by rw [List.drop_replicate]) UpC.upd rfl ?_)
  refine A0 (E7 0 1 5 6) (A3 ?_)
  refine A4 (B3s (e := 5) (sz := 1) (m := 64) rfl kR kR) rfl ?_
  refine mv_ ?_
  refine A6 rfl (B5C (e := 5) (by_ := 1) (n := K.length) (m := 64) (ws := List.replicate 64 0) (us := K) (ws' := K ++ List.replicate (64 - K.length) 0) rfl rfl kR (hkv.mono fun q hq => by rcases List.mem_append.1 hq with h | h <;> simp [h]) hK64 qM (by rw [List.drop_replicate]) UpC.upd rfl ?_)
  refine A0 (E2 1 5 6) (A5 (A3 (mv_ (A0 (E7 1 5 6 20) (C0 ?_)))))
  generalize hKK : K ++ List.replicate (64 - K.length) 0 = KK at *
  refine F2 (α := Nat) (fun i => [(1, pv), (5, (vP b5)), (6, (vP b6)), (20, .int .i64 (i : Int))]) (fun i => [(b6, blk (nums .u8 (A1y KK 92 i)) 123), (b5, blk (nums .u8 (A1y KK 54 i)) 123)]) (fun _ => []) (fun i => i ≤ 64) (fun i => 64 - i) 0 (Nat.zero_le _) (E7 1 5 6 20) (Fit.sub (.cons_cons _ (.cons_cons _ (List.nil_sublist _)))) qI ?_
  intro i hi
  refine A3 ?_
  refine A4 (F1 rfl rfl rfl) rfl ?_
  refine A0 (F5 1 5 6 20 21) (A5 ?_)
  refine C7 rfl ?_ ?_ <;> intro hc
  ·
   have hlt : i < 64 := by simp at hc; omega
   have hx8 : KK.getD i 0 < 256 := getD_lt hK2 qD
   refine A9 (nx (E7 1 5 6 20) (A5 (C0 (A3 (mv_ (as_ (A0 (F5 1 5 6 7 20) (A3 ?_))))))))
   refine mv_ ?_
   refine A4 (E5 (i := i) (e := 5) (n := 64) (sz := 1) rfl rfl kR kR rfl qO) rfl ?_
   refine A4 (Q9 (ws := A1y KK 54 i) i rfl kR At.mem qO (by rw [A1W]; omega)) rfl ?_
   refine A4 (B0p (b := 54) rfl rfl (by rw [A1X qO]; exact hx8) qD) rfl ?_
   refine A4 (E5 (i := i) (e := 5) (n := 64) (sz := 1) rfl rfl kR kR rfl qO) rfl ?_
   refine A6 rfl (T7 (ws := A1y KK 54 i) i rfl rfl kR qO (by rw [A1W]; omega) UpC.upd ?_)
   refine A0 (F5 1 5 6 7 20) (C2 (mv_ ?_))
   refine A4 (E5 (i := i) (e := 5) (n := 64) (sz := 1) rfl rfl kR kR rfl qO) rfl ?_
   refine A4 (Q9 (ws := A1y KK 92 i) i rfl kR At.mem qO (by rw [A1W]; omega)) rfl ?_
   refine A4 (B0p (b := 92) rfl rfl (by rw [A1X qO]; exact hx8) qD) rfl ?_
   refine A4 (E5 (i := i) (e := 5) (n := 64) (sz := 1) rfl rfl kR kR rfl qO) rfl ?_
   refine A6 rfl (T7 (ws := A1y KK 92 i) i rfl rfl kR qO (by rw [A1W]; omega) UpC.upd ?_)
   refine D0 (nb (nx (E7 1 5 6 20) (C2 ?_)))
   refine A4 (E3 ((i + 1 : Nat) : Int) rfl rfl (G3 qO qO qO)) rfl ?_
   refine mv_ (D0 ?_)
   refine rn (i + 1) qO qO (E7 1 5 6 20) (Fit.eq ?_) qI
   rw [A1X qO, A1X qO, A4t qO, A4t qO]
  ·
   have hlt : i = 64 := by simp at hc; omega
   subst hlt
   rw [A6j hK1, A6j hK1]
   refine E6 (te (re (be rfl (nx (E2 1 5 6) ?_))))
   refine A2p ([]) [] [(0, 0), (1, 0), (3, 0), (2, 2), (4, 2), (5, 2), (6, 2), (7, 2), (8, 0)] kR kR qM fun hs => ?_
   refine N1 hs rfl (B3s (e := 5) (sz := 1) (m := 64) rfl kR kR) rfl ?_
   refine N1 hs rfl (B3s (e := 5) (sz := 1) (m := 64) rfl kR kR) rfl ?_
   refine N1 hs rfl qm_ rfl ?_
   refine A1Q rfl rfl rfl (C6 (e := 27) (sz := 1) (z := [vS]) kR (eS rfl e0) (bdS 0 1 rfl qR bd0) rfl fun b36 => ?_)
   refine A1Q rfl rfl rfl (U2 (e := 27) (sz := 1) (by_ := 24) (n := 1) (m := ps.length) (B := [(b36, _)]) rfl rfl kR rfl (Sl.fresh rfl qD) (hvs.mono fun _ h => mA h) hpv.one (.refl _) (by unfold maxLen; omega) qO rfl fun v38 B38 hsl38 => ?_)
   refine A1Q rfl rfl rfl (E1 (Mc := []) (R := B38 ++ [_, _]) (aS rfl a0) kR (.refl _) (A1V v38 (KK.map (· ^^^ 54) :: ps) _ (A7x.of (hsl38.rd fun _ h => by simp [h]) (by rw [List.length_cons]; omega) (.cons (hklt 54 qD) (A1n (Rd.whole (n := 64) (cs := nums .u8 (KK.map (· ^^^ 54))) At.mem (by simp [hK1])) (hkl 54).symm rfl) (hpv.mono fun _ h => mA h))) (by rw [List.flatten_cons, List.length_append, List.length_map, hK1]; omega) (by rw [List.length_cons]; omega) (mA h0) (mA h1)) rfl ?_)
   rintro r39 M39 J39 ⟨rfl, hr39⟩
   haveI := hr39.cel
   refine A1Q rfl rfl rfl (C6 (e := 27) (sz := 1) (z := [vS, vS]) kR (eS rfl (eS rfl e0)) (bdS 0 1 rfl qR (bdS 1 1 rfl qR bd0)) rfl fun b40 => ?_)
   refine A1Q rfl rfl rfl (E1 (Mc := []) (R := _ :: (M39 ++ (B38 ++ [_, _]))) (aS rfl a0) kR (.refl _) (A1V _ [KK.map (· ^^^ 92), U1 (KK.map (· ^^^ 54) ++ ps.flatten)] _ (A7x.of (Rd.whole (n := 2) m0 qR) rfl (.cons (hklt 92 qD) (A1n (Rd.whole (n := 64) (cs := nums .u8 (KK.map (· ^^^ 92))) At.mem (by simp [hK1])) (hkl 92).symm rfl) (.cons (A8o _) (A1n (hr39.rd fun _ h => by simp [h]) (A3u _).symm qM) .nil))) (by simp [hK1, A3u]) qM (mA h0) (mA h1)) rfl ?_)
   rintro r41 M41 J41 ⟨rfl, hr41⟩
   refine N1 hs rfl (I4 rfl) rfl ?_
   refine A4n (D8 4) ?_
   refine C3 ?_
   refine ⟨_, _, [], K2 rfl rfl, List.sublist_append_left _ _, by simp, rfl, A0s hr41 rfl ?_⟩
   simp
theorem A2I (kv pv : Value) (key p : LN) (A : Mem) (hkey : Rd A 1 kv key.length (nums .u8 key)) (hk256 : ∀ x ∈ key, x < 256) (hk31 : key.length ≤ 1073741824) (hp : Rd A 1 pv p.length (nums .u8 p)) (hp256 : ∀ x ∈ p, x < 256) (htot : p.length ≤ 1073741824) {ef ek : TypeId} {ff fk : Nat × Nat} (h0 : (0, Obj.cells (nums .u32 A0M.list).toArray ef ff) ∈ A) (h1 : (1, Obj.cells (nums .u32 A0V).toArray ek fk) ∈ A) :
  FnX Tryz.prog 21 [kv, pv] [] A fun r M J => J = [] ∧ Sl 1 r 32 (nums .u8 (A7i key p)) M := by
 haveI := hp.cel
 refine FnX.enter (N := 9) Tryz.func21 rfl rfl rfl fun w => ?_
 refine C4 (D5 0 1) (A3 (as_ (A0 (D5 0 1) (A3 (mv_ (mv_ ?_))))))
 refine A6 rfl (C6 (e := 27) (sz := 1) (z := [vS]) kR (eS rfl e0) (bdS 0 1 rfl qR bd0) rfl fun b7 => ?_)
 refine A6 rfl (E1 (Mc := []) (R := [_]) (aS rfl (aS rfl a0)) kR (.refl _) (A8p _ _ key [p] _ (hkey.mono fun _ h => mA h) hk256 hk31 (A7x.of (Rd.whole (n := 1) m0 qR) rfl (.cons hp256 (hp.mono fun _ h => mA h) .nil)) (by simpa using htot) qM (mA h0) (mA h1)) rfl ?_)
 rintro r M1 J1 ⟨rfl, hr⟩
 refine as_ (A0 (D8 4) (C3 ?_))
 refine ⟨_, _, [], K2 rfl rfl, List.sublist_append_left _ _, by simp, rfl, A0s hr rfl ?_⟩
 simp
theorem C1p {M0 M1 B1 D : Mem} (x : Nat × Obj) : (M1 ++ (B1 ++ (x :: (M0 ++ D)))).Perm (M0 ++ (M1 ++ (B1 ++ (x :: D)))) := by
  have h : (M1 ++ (B1 ++ (x :: (M0 ++ D)))) = (M1 ++ B1 ++ [x]) ++ (M0 ++ D) := by simp
  have h2 : (M0 ++ (M1 ++ (B1 ++ (x :: D)))) = M0 ++ ((M1 ++ B1 ++ [x]) ++ D) := by simp
  rw [h, h2, ← List.append_assoc, ← List.append_assoc M0]
  exact List.Perm.append_right _ List.perm_append_comm
def A9y (p : LN) : LN := U1 (0 :: p) ++ U1 (1 :: p)
theorem A3v (pv : Value) (ps : List (LN)) (A : Mem) (hp : A7x A pv ps) (htot : ps.flatten.length ≤ 1073741824) (hcnt : ps.length ≤ 1073741824) {ef ek : TypeId} {ff fk : Nat × Nat} (h0 : (0, Obj.cells (nums .u32 A0M.list).toArray ef ff) ∈ A) (h1 : (1, Obj.cells (nums .u32 A0V).toArray ek fk) ∈ A) :
  FnX Tryz.prog 100 [pv] [] A fun r M J => J = [] ∧ Sl 1 r 64 (nums .u8 (A9y ps.flatten)) M := by
 obtain ⟨vs, hvs, hpv⟩ := hp.pv
 refine FnX.enter (N := 16) Tryz.func100 rfl rfl rfl fun w => ?_
 refine C4 (D8 0) (A3 (as_ (A0 (D8 0) (A3 ?_))))
 refine A6 rfl (C6 (e := 5) (sz := 1) (z := [.int .u8 0]) kR (eS rfl e0) (bdS 0 1 rfl qR bd0) rfl fun b4 => ?_)
 refine A6 rfl (C6 (e := 27) (sz := 1) (z := [vS]) kR (eS rfl e0) (bdS 0 1 rfl qR bd0) rfl fun b5 => ?_)
 refine mv_ ?_
 refine A6 rfl (U2 (e := 27) (sz := 1) (by_ := 24) (n := 1) (m := ps.length) (B := [(b5, _)]) (M0 := _ :: []) rfl rfl kR rfl (Sl.fresh rfl qD) (hvs.mono fun _ h => mA h) hpv.one (.refl _) (by unfold maxLen; omega) qO rfl fun v0 B0 hsl0 => ?_)
 refine A6 rfl (E1 (Mc := []) (R := B0 ++ (_ :: [])) (aS rfl a0) kR (.refl _) (A1V v0 ([0] :: ps) _ (A7x.of (hsl0.rd fun _ h => by simp [h]) (by rw [List.length_cons]; omega) (.cons qM (Rd.whole (n := 1) (b := b4) (cs := nums .u8 [0]) At.mem qR) (hpv.mono fun _ h => mA h))) (by rw [List.flatten_cons, List.length_append, List.length_singleton]; omega) (by rw [List.length_cons]; omega) (mA h0) (mA h1)) rfl ?_)
 rintro r0 M0 J0 ⟨rfl, hr0⟩
 refine as_ (A0 (D5 0 3) (A3 (mv_ ?_)))
 refine A6 rfl (C6 (e := 5) (sz := 1) (z := [.int .u8 0]) kR (eS rfl e0) (bdS 0 1 rfl qR bd0) rfl fun b10 => ?_)
 refine A6 rfl (C6 (e := 27) (sz := 1) (z := [vS]) kR (eS rfl e0) (bdS 0 1 rfl qR bd0) rfl fun b11 => ?_)
 refine mv_ ?_
 refine A6 rfl (U2 (e := 27) (sz := 1) (by_ := 24) (n := 1) (m := ps.length) (B := [(b11, _)]) (M0 := _ :: (M0 ++ (B0 ++ [_]))) rfl rfl kR rfl (Sl.fresh rfl qD) (hvs.mono fun _ h => mA h) hpv.one (.refl _) (by unfold maxLen; omega) qO rfl fun v1 B1 hsl1 => ?_)
 refine A6 rfl (E1 (Mc := []) (R := B1 ++ (_ :: (M0 ++ (B0 ++ [_])))) (aS rfl a0) kR (.refl _) (A1V v1 ([1] :: ps) _ (A7x.of (hsl1.rd fun _ h => by simp [h]) (by rw [List.length_cons]; omega) (.cons qM (Rd.whole (n := 1) (b := b10) (cs := nums .u8 [1]) At.mem qR) (hpv.mono fun _ h => mA h))) (by rw [List.flatten_cons, List.length_append, List.length_singleton]; omega) (by rw [List.length_cons]; omega) (mA h0) (mA h1)) rfl ?_)
 rintro r1 M1 J1 ⟨rfl, hr1⟩
 refine A6 rfl (U2 (e := 5) (sz := 1) (by_ := 1) (n := 32) (m := 32) (B := M0) (M0 := M1 ++ (B1 ++ (_ :: (B0 ++ [_])))) rfl rfl kR rfl hr0 (hr1.rd fun _ h => by simp [h]) E8 (C1p _) (by unfold maxLen; omega) qO rfl fun v9 B9 hsl9 => ?_)
 refine as_ (A0 (D8 2) (C3 ?_))
 refine ⟨_, _, [], K2 rfl rfl, List.sublist_append_left _ _, by simp, rfl, A0s hsl9 rfl ?_⟩
 rw [← K3]; rfl

end Go.Proofs.YtoigcbkclcbmpaaGreatDoor
namespace Go.Px
def nv : List Nat → Nat
  | [] => 0
  | w :: r => w + 4294967296 * nv r
def w32 (ws : List Nat) : Prop := ∀ x ∈ ws, x < 4294967296
def xp (n : Nat) : Nat := 4294967296 ^ n
theorem xp0 : xp 0 = 1 := rfl
theorem xpS (n : Nat) : xp (n + 1) = xp n * 4294967296 := Nat.pow_succ _ _
theorem A1Y (a b : List Nat) : nv (a ++ b) = nv a + xp a.length * nv b := by
  induction a with
  | nil => simp [nv, xp0]
  | cons x a ih => simp only [List.cons_append, nv, ih, List.length_cons, xpS]; grind
theorem A23 (ws : List Nat) (j : Nat) (h : j ≤ ws.length) : nv ws = nv (ws.take j) + xp j * nv (ws.drop j) := by
  conv => lhs; rw [← List.take_append_drop j ws, A1Y, List.length_take, Nat.min_eq_left h]
theorem A01 {ws : List Nat} {j : Nat} (h : j < ws.length) : nv (ws.take (j + 1)) = nv (ws.take j) + xp j * ws.getD j 0 := by
  rw [List.take_add_one, List.getElem?_eq_getElem h, A1Y, List.length_take, Nat.min_eq_left (by omega), List.getD, List.getElem?_eq_getElem h]
  simp [nv]
theorem B3u {ws : List Nat} (h : w32 ws) : nv ws < xp ws.length := by
  induction ws with
  | nil => simp [nv, xp0]
  | cons x ws ih =>
    have h1 := h x (by simp)
    have h2 := ih (fun y hy => h y (by simp [hy]))
    simp only [nv, List.length_cons, xpS]
    omega
theorem w32.take {ws : List Nat} (h : w32 ws) (n : Nat) : w32 (ws.take n) := fun x hx => h x (List.mem_of_mem_take hx)
theorem w32.drop {ws : List Nat} (h : w32 ws) (n : Nat) : w32 (ws.drop n) := fun x hx => h x (List.mem_of_mem_drop hx)
theorem w32.get {ws : List Nat} (h : w32 ws) (n : Nat) : ws.getD n 0 < 4294967296 := getD_lt h (by decide)
theorem w32.set {ws : List Nat} (h : w32 ws) {n x : Nat} (hx : x < 4294967296) : w32 (ws.set n x) := fun y hy => by
  rcases List.mem_or_eq_of_mem_set hy with h1 | rfl
  · exact h y h1
  · exact hx
theorem w32.app {a b : List Nat} (ha : w32 a) (hb : w32 b) : w32 (a ++ b) := fun x hx => (List.mem_append.1 hx).elim (ha x) (hb x)
def tl (ws : List Nat) : Nat → Nat
  | 0 => 0
  | n + 1 => if ws.getD n 0 = 0 then tl ws n else n + 1
def trim (ws : List Nat) : List Nat := ws.take (tl ws ws.length)
def nrm (ws : List Nat) : Prop := ∀ k, ws.length = k + 1 → ws.getD k 0 ≠ 0
theorem A8q {a b : List Nat} (ha : w32 a) {j : Nat} (hj : j < a.length) (hl : a.length = b.length) (hlt : a.getD j 0 < b.getD j 0) (he : a.drop (j + 1) = b.drop (j + 1)) : nv a < nv b := by
  have h1 := A23 a (j + 1) (by omega)
  have h2 := A23 b (j + 1) (by omega)
  rw [A01 hj, he] at h1
  rw [A01 (by omega)] at h2
  have h3 := B3u (ha.take j)
  rw [List.length_take, Nat.min_eq_left (by omega)] at h3
  have h4 : xp j * (a.getD j 0 + 1) ≤ xp j * b.getD j 0 := Nat.mul_le_mul_left _ hlt
  rw [Nat.mul_add, Nat.mul_one] at h4
  omega
end Go.Px

namespace Go.Px
def isPr (n : Nat) : Bool := decide (1 < n) && (List.range n).all fun i => decide (i < 2) || n % i != 0
def B3v (k p lo b : Nat) : Nat := if (lo + 2 ^ b) ^ k ≤ p * xp k then lo + 2 ^ b else lo
def B9e (k p : Nat) : Nat → Nat → Nat
  | 0, lo => lo
  | j + 1, lo => B9e k p j (B3v k p lo j)
def root (k p : Nat) : Nat := B9e k p 40 0 % 4294967296
def rl (k n : Nat) : List Nat := ((List.range n).filter isPr).map (root k)
def pw (P : List Nat) (i : Nat) : Nat → Nat
  | 0 => 0
  | j + 1 => pw P i j * 256 + P.getD (4 * i + j) 0
def wAt (P : List Nat) (i : Nat) : List Nat := wx (P3 P (min i 16)) (i - 16)
end Go.Px

namespace Go.Px
def exp (key info : List Nat) : Nat → List Nat × List Nat
  | 0 => ([], [])
  | i + 1 => ((exp key info i).1 ++ A7i key ((exp key info i).2 ++ (info ++ [(i + 1) % 256])), A7i key ((exp key info i).2 ++ (info ++ [(i + 1) % 256])))
theorem A2s (p : List Nat) : (U1 p).length = 32 := by simp [U1, S8.bytes, S8.list, A7h]
theorem A47 (key info : List Nat) : ∀ i, (exp key info i).1.length = 32 * i
  | 0 => rfl
  | i + 1 => by rw [exp, List.length_append, A47 key info i, A7i, A2s]; omega
def rds (n : Int) : Nat := min 255 ((n.toNat + 31) / 32)
def W4 (key info : List Nat) (n : Int) : List Nat := (exp key info (rds n)).1.take n.toNat
theorem A1e (key info : List Nat) (n : Int) : (W4 key info n).length = min n.toNat 8160 := by
  unfold W4; rw [List.length_take, A47]; unfold rds; omega
end Go.Px

namespace Go.Proofs.YtoigcbkclcbmpaaGreatDoor
open Go.Px
theorem C1q {M B D : Mem} (x y : Nat × Obj) : (M ++ (x :: y :: (B ++ D))).Perm (B ++ ((M ++ [x, y]) ++ D)) := by
  have h : M ++ (x :: y :: (B ++ D)) = (M ++ [x, y]) ++ (B ++ D) := by simp
  rw [h]
  exact List.perm_append_comm_assoc _ _ _
theorem A48 (key p : LN) : ∀ x ∈ A7i key p, x < 256 := A8o _
theorem A1f (key p : LN) : (A7i key p).length = 32 := A3u _
theorem B6U (key info : LN) : ∀ i, ∀ x ∈ (exp key info i).2, x < 256
  | 0 => by simp [exp]
  | i + 1 => A48 _ _
theorem B3w (key info : LN) (i : Nat) : (exp key info i).2.length ≤ 32 := by
  cases i with
  | zero => simp [exp]
  | succ i => rw [exp, A1f]; decide
theorem B0A (key info : LN) : ∀ i, ∀ x ∈ (exp key info i).1, x < 256
  | 0 => by simp [exp]
  | i + 1 => fun x hx => (List.mem_append.1 hx).elim (B0A key info i x) (A48 _ _ x)
theorem A3w (kv iv : Value) (key info : LN) (n : Int) (A : Mem) (hkey : Rd A 1 kv key.length (nums .u8 key)) (hk256 : ∀ x ∈ key, x < 256) (hk31 : key.length ≤ 1073741824) (hinfo : Rd A 1 iv info.length (nums .u8 info)) (hi256 : ∀ x ∈ info, x < 256) (hi31 : info.length ≤ 536870912) (hn : n < 1000000) (hn0 : -1000000 < n) {ef ek : TypeId} {ff fk : Nat × Nat} (h0 : (0, Obj.cells (nums .u32 A0M.list).toArray ef ff) ∈ A) (h1 : (1, Obj.cells (nums .u32 A0V).toArray ek fk) ∈ A) :
  FnX Tryz.prog 20 [kv, iv, .int .i64 n] [] A fun r M J => J = [] ∧ Rd M 1 r (W4 key info n).length (nums .u8 (W4 key info n)) := by
 haveI := hinfo.cel
 refine FnX.enter (N := 40) Tryz.func20 rfl rfl rfl fun w => ?_
 refine C4 (E2 0 1 2) (A3 (as_ (A0 (E2 0 1 2) (A3 (as_ (as_ (A0 (F5 0 1 2 7 8) (A5 ?_))))))))
 refine A3 (as_ (A0 (I1 0 1 2 7 8 9) (C0 ?_)))
 refine F2 (α := Nat × Value × Value × Mem × Mem) (fun x => [(0, kv), (1, iv), (2, .int .i64 n), (7, x.2.1), (8, x.2.2.1), (9, .int .i64 ((x.1 + 1 : Nat) : Int))]) (fun x => x.2.2.2.1 ++ x.2.2.2.2) (fun _ => []) (fun x => x.1 ≤ rds n ∧ Sl 1 x.2.1 (32 * x.1) (nums .u8 (exp key info x.1).1) x.2.2.2.1 ∧ Sl 1 x.2.2.1 (exp key info x.1).2.length (nums .u8 (exp key info x.1).2) x.2.2.2.2) (fun x => rds n - x.1) (0, vS, vS, [], []) ⟨Nat.zero_le _, Sl.nil, Sl.nil⟩ (I1 0 1 2 7 8 9) .rfl qI ?_
 rintro ⟨i, ov, lv, Bo, Bl⟩ ⟨hi, ho, hl⟩
 dsimp only at hi ho hl ⊢
 have hrd : rds n = min 255 ((n.toNat + 31) / 32) := rfl
 have hl32 := B3w key info i
 haveI := hl.cel
 refine A5 ?_
 by_cases h32 : (n : Int) ≤ ((32 * i : Nat) : Int)
 ·
  refine A3 (mv_ ?_)
  refine A4 (A0O (ho.rd fun _ h => h) rfl kR) rfl ?_
  refine mv_ ?_
  refine A4 (F4 false rfl rfl (ltF qO)) rfl ?_
  refine mv_ ?_
  refine L9 rfl rfl rfl rfl ?_
  refine L9 rfl rfl rfl rfl ?_
  refine A4 (E9 rfl rfl) rfl ?_
  refine A0 (Y0 0 1 2 7 8 9 17) ?_
  refine D3 rfl ?_
  refine E6 (te (re (be rfl (nx (D5 2 7) (A3 (mv_ (mv_ ?_)))))))
  refine A4 (A0O (ho.rd fun _ h => h) rfl kR) rfl ?_
  refine A4 (A6c (if ((32 * i : Nat) : Int) < n then ((32 * i : Nat) : Int) else n) rfl rfl rfl) rfl ?_
  have hend : i = rds n := by omega
  subst hend
  refine A4 (B5z ((min n.toNat (32 * rds n) : Nat) : Int) rfl rfl (by split <;> split <;> omega)) rfl ?_
  have hkl : min n.toNat (32 * rds n) = (W4 key info n).length := by rw [A1e]; omega
  obtain ⟨pp, cc, rfl, hpc⟩ := ho.val
  refine as_ (A0 (D5 2 7) (A3 (mv_ (mv_ (mv_ ?_)))))
  refine A4 (A3k (e := 5) (sz := 1) rfl kR kR o0 (o1 (min n.toNat (32 * rds n)) rfl rfl) (o1 (min n.toNat (32 * rds n)) rfl rfl) qM (by simp; omega) qM qM) rfl ?_
  refine as_ (A0 (D8 6) (C3 ?_))
  refine ⟨_, Bo, [], K2 rfl rfl, List.sublist_append_left _ _, by simp, rfl, ?_⟩
  have := Rd.part (ho.rd fun _ h => h) 0 (min n.toNat (32 * rds n)) (min n.toNat (32 * rds n)) (Nat.zero_le _) (Nat.min_le_right _ _) (Nat.le_refl _)
  refine A1n this (by simpa using hkl) ?_
  rw [Nat.zero_mul, List.drop_zero, Nat.sub_zero, Nat.mul_one, ← A0Z]
  have e : ((exp key info (rds n)).1).take (min n.toNat (32 * rds n)) = W4 key info n := by
   unfold W4
   rw [List.take_eq_take_iff, A47]; omega
  rw [e]
 ·
  refine A3 (mv_ ?_)
  refine A4 (A0O (ho.rd fun _ h => h) rfl kR) rfl ?_
  refine mv_ ?_
  refine A4 (F4 true rfl rfl (ltT qO)) rfl ?_
  refine mv_ ?_
  refine G2 rfl rfl (OpQ.opL qm_ rfl ?_)
  refine G2 rfl rfl (OpQ.opL (F1 rfl rfl rfl) rfl ?_)
  refine A4 (I5 rfl rfl) rfl ?_
  refine A0 (Y0 0 1 2 7 8 9 17) ?_
  refine C7 rfl ?_ ?_ <;> intro hc
  ·
   have hlt : i < 255 := by simp at hc; omega
   refine A9 (nx (I1 0 1 2 7 8 9) (A5 (C0 (A3 (mv_ (mv_ (mv_ (mv_ ?_))))))))
   refine A4 (A3o rfl kR) rfl ?_
   refine A6 rfl (C6 (e := 5) (sz := 1) (z := [.int .u8 0]) kR (eS rfl e0) (bdS 0 1 rfl qR bd0) rfl fun b25 => ?_)
   refine A6 rfl (C6 (e := 27) (sz := 1) (z := [vS, vS, vS]) kR (eS rfl (eS rfl (eS rfl e0))) (bdS 0 1 rfl qR (bdS 1 1 rfl qR (bdS 2 1 rfl qR bd0))) rfl fun b26 => ?_)
   refine A6 rfl (E1 (Mc := []) (R := _ :: _ :: (Bo ++ Bl)) (aS rfl (aS rfl a0)) kR (.refl _) (A8p _ _ key [(exp key info i).2, info, [(i + 1) % 256]] _ (hkey.mono fun _ h => mA h) hk256 hk31 (A7x.of (Rd.whole (n := 3) m0 qR) rfl (.cons (B6U _ _ _) (hl.rd fun _ h => by simp [h]) (.cons hi256 (hinfo.mono fun _ h => mA h) (.cons (by intro x hx; simp at hx; subst hx; exact Nat.mod_lt _ qD) (Rd.whole (n := 1) (cs := nums .u8 [(i + 1) % 256]) At.mem qR) .nil)))) (by simp; omega) qM (mA h0) (mA h1)) rfl ?_)
   rintro r27 M27 J1 ⟨rfl, h27⟩
   rw [show [(exp key info i).2, info, [(i + 1) % 256]].flatten = (exp key info i).2 ++ (info ++ [(i + 1) % 256]) from by simp] at h27
   refine as_ (A0 (I1 0 1 2 7 8 9) (C2 (mv_ (mv_ ?_))))
   refine A6 rfl (U2 (e := 5) (sz := 1) (by_ := 1) (m := 32) (B := Bo) (M0 := (M27 ++ [_, _]) ++ Bl) rfl rfl kR rfl ho (h27.rd fun _ h => by simp [h]) E8 (C1q _ _) (by unfold maxLen; omega) qO rfl fun ov1 Bo1 ho1 => ?_)
   refine as_ (D0 (nb (nx (I1 0 1 2 7 8 9) (C2 (mv_ ?_)))))
   refine A4 (E3 ((i + 1 + 1 : Nat) : Int) rfl rfl (G3 qO qO qO)) rfl ?_
   refine as_ (D0 ?_)
   refine rn (i + 1, ov1, r27, Bo1, M27) ⟨by dsimp only; omega, A0s ho1 (by dsimp only; omega) (by rw [← K3]; rfl), A0s h27 (by dsimp only; rw [exp, A1f]) rfl⟩ (by dsimp only; omega) (I1 0 1 2 7 8 9) (Fit.sub (List.Sublist.append (List.Sublist.refl _) ((List.sublist_append_left _ _).trans (List.sublist_append_left _ _)))) qI
  ·
   have hend : i = rds n := by simp at hc; omega
   refine E6 (te (re (be rfl (nx (D5 2 7) (A3 (mv_ (mv_ ?_)))))))
   refine A4 (A0O (ho.rd fun _ h => h) rfl kR) rfl ?_
   refine A4 (A6c (if ((32 * i : Nat) : Int) < n then ((32 * i : Nat) : Int) else n) rfl rfl rfl) rfl ?_
   subst hend
   refine A4 (B5z ((min n.toNat (32 * rds n) : Nat) : Int) rfl rfl (by split <;> split <;> omega)) rfl ?_
   have hkl : min n.toNat (32 * rds n) = (W4 key info n).length := by rw [A1e]; omega
   obtain ⟨pp, cc, rfl, hpc⟩ := ho.val
   refine as_ (A0 (D5 2 7) (A3 (mv_ (mv_ (mv_ ?_)))))
   refine A4 (A3k (e := 5) (sz := 1) rfl kR kR o0 (o1 (min n.toNat (32 * rds n)) rfl rfl) (o1 (min n.toNat (32 * rds n)) rfl rfl) qM (by simp; omega) qM qM) rfl ?_
   refine as_ (A0 (D8 6) (C3 ?_))
   refine ⟨_, Bo, [], K2 rfl rfl, List.sublist_append_left _ _, by simp, rfl, ?_⟩
   have := Rd.part (ho.rd fun _ h => h) 0 (min n.toNat (32 * rds n)) (min n.toNat (32 * rds n)) (Nat.zero_le _) (Nat.min_le_right _ _) (Nat.le_refl _)
   refine A1n this (by simpa using hkl) ?_
   rw [Nat.zero_mul, List.drop_zero, Nat.sub_zero, Nat.mul_one, ← A0Z]
   have e : ((exp key info (rds n)).1).take (min n.toNat (32 * rds n)) = W4 key info n := by
    unfold W4
    rw [List.take_eq_take_iff, A47]; omega
   rw [e]

end Go.Proofs.YtoigcbkclcbmpaaGreatDoor
namespace Go.Px
def Sk (K : Nat → Prop) (w w' : World) : Prop := ∀ b, b < w.heap.size → ¬ K b → w'.heap[b]? = w.heap[b]?
theorem Sk.fx {K : Nat → Prop} {w w' : World} (h : Sk K w w') {R : Mem} (hR : ∀ x ∈ R, ¬ K x.1) (hw : Fx R w) : Fx R w' := fun b o hb => by
  have h1 := hw b o hb
  rw [h b (R6 h1) (hR _ hb)]; exact h1
def XK (C : Cx) (os : List Oper) (Q : XQ) (K : Nat → Prop) (n0 : Nat) (nd : List Nat) (plan : List (Nat × Nat)) (l : Env) (M J : Mem) : Prop :=
  ∀ listed, Q7 os.toArray listed → L0 os.toArray nd plan listed = true → ∀ a w, Ag C.N l a → St C M J w → n0 ≤ w.heap.size →
    A0c C.P os.toArray (R7 (A7g C Q)) (Sk K) nd.contains plan.length listed a w
section plan
variable {C : Cx} {Q : XQ} {l : Env} {M J : Mem} {os : List Oper} {K : Nat → Prop} {n0 : Nat} {nd : List Nat} {plan : List (Nat × Nat)}
theorem A9z {T : World → Prop} {S : World → World → Prop} {ops : Array Oper} {nd : List Nat} {listed : Array Bool} {i : Nat} (h : B0i ops nd listed i = true) (hT : ∀ w w', T w → S w w' → T w') (j : Nat) (hlt : j < ops.size) (hji : j ≠ i) (hun : listed.getD j true = false) : anc ops ops.size j i = true ∨ ∀ w w', T w → (nd.contains j = true → S w w') → T w' := by
  have h1 := List.all_eq_true.1 h j (List.mem_range.2 hlt)
  simp only [Bool.or_eq_true, beq_iff_eq, hji, hun, false_or, Bool.false_eq_true] at h1
  rcases h1 with h1 | h1
  · exact .inr fun w w' hS hw => hT w w' hS (hw h1)
  · exact .inl h1
theorem Y5 {id : Nat} (Mv Ms : Mem) (nv : Bool) (nd : List Nat) (plan : List (Nat × Nat)) (hm : C.P.follows .mixedOrders = true) (hp : W5 os nd plan = true) (hM : M.Perm (Mv ++ Ms))
    (h : Region.noSelect os.toArray = true → ∀ (K : Nat → Prop) n0, (∀ x ∈ Mv, K x.1) → (∀ x ∈ Ms ++ (J ++ C.A), ¬ K x.1) → (nv = true → ∀ b, n0 ≤ b → K b) → XK C os Q K n0 nd plan l (Mv ++ Ms) J) : XC C (.region id os.toArray true) Q l M J := by
  intro a w ha hw0
  have hw := hw0.perm hM
  simp only [W5, Bool.and_eq_true, beq_iff_eq] at hp
  obtain ⟨⟨h1, h3⟩, h4⟩ := hp
  refine Code.wp_mono (Q := R7 (A7g C Q)) (fun e a w h => by cases e <;> first | exact h | exact h.elim) ?_
  let K : Nat → Prop := fun b => b ∈ Mv.map Prod.fst ∨ (nv = true ∧ w.heap.size ≤ b)
  refine wp_region_any hm (A1c (S := Sk K) (need := nd.contains) _ _ _ _ ?_)
  have hK1 : ∀ x ∈ Mv, K x.1 := fun x hx => .inl (List.mem_map_of_mem (f := Prod.fst) hx)
  have hcal := hw.callee (.refl _)
  have hK2 : ∀ x ∈ Ms ++ (J ++ C.A), ¬ K x.1 := by
    rintro ⟨b, o⟩ hx hk
    have h5 := hcal.sepA b o hx
    rcases hk with hk | ⟨_, hk⟩
    · exact h5.1 hk
    · exact absurd h5.2 (Nat.not_lt.2 hk)
  have := h h1 K w.heap.size hK1 hK2 (fun hn b hb => .inr ⟨hn, hb⟩) (Array.replicate os.length false) (fun j oj _ hl => by simp [Array.getElem?_replicate] at hl; split at hl <;> simp at hl) h4 a _ ha hw.drew (Nat.le_refl _)
  rw [h3] at this
  simpa using this
theorem I0 {id : Nat} {c2 : Code} (Mv Ms : Mem) (nv : Bool) (nd : List Nat) (plan : List (Nat × Nat)) (hm : C.P.follows .mixedOrders = true) (hp : W5 os nd plan = true) (hM : M.Perm (Mv ++ Ms))
    (h : Region.noSelect os.toArray = true → ∀ (K : Nat → Prop) n0, (∀ x ∈ Mv, K x.1) → (∀ x ∈ Ms ++ (J ++ C.A), ¬ K x.1) → (nv = true → ∀ b, n0 ≤ b → K b) → XK C os (A2Q C c2 Q) K n0 nd plan l (Mv ++ Ms) J) : XC C (.seq (.region id os.toArray true) c2) Q l M J :=
  A5 (Y5 Mv Ms nv nd plan hm hp hM h)
theorem A3x (h : Q .normal l M J) : XK C os Q K n0 nd [] l M J := by
  intro listed hcl hp a w ha hw hf
  simp only [L0, List.isEmpty_iff] at hp
  exact ⟨hp, l, M, J, ha, hw, h⟩
theorem P4 {c : Code} {l' : Env} (hk : Keep l l') (h : XC C c Q l' M J) : XK C os (A2Q C c Q) K n0 nd [] l M J := A3x (C4 hk h)
theorem A1z {M' : Mem} (hM : M.Perm M') (h : XK C os Q K n0 nd plan l M' J) : XK C os Q K n0 nd plan l M J := fun listed hcl hp a w ha hw hn => h listed hcl hp a w ha (hw.perm hM) hn
theorem C1r {M' : Mem} (hM : M'.Sublist M) (h : XK C os Q K n0 nd plan l M' J) : XK C os Q K n0 nd plan l M J := fun listed hcl hp a w ha hw hn => h listed hcl hp a w ha (hw.drop hM (fun _ h => h)) hn
theorem A49 {i d : Nat} {op : Op} {ty : TypeId} {pos : String} {af : Array Edge} {g : Option (Nat × Bool)} {v : Value} {R : Mem} (hs : Region.noSelect os.toArray = true)
    (hget : nth os i = some ⟨some d, op, ty, pos, af, g⟩) (hR : ∀ x ∈ R, x ∈ M ++ (J ++ C.A)) (hn : ∀ x ∈ R, ¬ K x.1)
    (hy : ∀ a, Ag C.N l a → YieldsIf C.P os.toArray (Fx R) ⟨some d, op, ty, pos, af, g⟩ v a) (hd : Nat.blt d C.N = true)
    (h : XK C os Q K n0 nd plan ((d, v) :: l) M J) : XK C os Q K n0 nd ((i, 1) :: plan) l M J := by
  intro listed hcl hp a w ha hw hf
  simp only [L0, Bool.and_eq_true] at hp
  obtain ⟨⟨⟨h1, h2⟩, h5⟩, h4⟩ := hp
  have hi : os.toArray[i]? = some ⟨some d, op, ty, pos, af, g⟩ := by rw [V2] at hget; simpa using hget
  have hr : i ∈ Region.ready .any os.toArray listed := by simpa using h1
  exact V7 (S := Sk K) (T := Fx R) (N := os.toArray.size) hi (Region.noSelect_spec hs) (fun _ _ _ h => h) (fun _ _ _ _ => rfl) _ listed a w hcl (Region.free_spec hi h2) (A9z h5 fun w w' hT hS => hS.fx hn hT) hr (hy a ha) (fun b o hb => hw.fx b o (hR _ hb))
    (h _ (H8 hcl hr) h4 _ w (ha.put (C8 hd) v) hw hf)
theorem A5a {i d : Nat} {op : Op} {ty : TypeId} {pos : String} {af : Array Edge} {g : Option (Nat × Bool)} {v : Value} (hs : Region.noSelect os.toArray = true)
    (hget : nth os i = some ⟨some d, op, ty, pos, af, g⟩)
    (hy : ∀ a, Ag C.N l a → YieldsIf C.P os.toArray (fun _ => True) ⟨some d, op, ty, pos, af, g⟩ v a) (hd : Nat.blt d C.N = true)
    (h : XK C os Q K n0 nd plan ((d, v) :: l) M J) : XK C os Q K n0 nd ((i, 0) :: plan) l M J := by
  intro listed hcl hp a w ha hw hf
  simp only [L0, Bool.and_eq_true] at hp
  obtain ⟨⟨h1, h2⟩, h4⟩ := hp
  have hi : os.toArray[i]? = some ⟨some d, op, ty, pos, af, g⟩ := by rw [V2] at hget; simpa using hget
  have hr : i ∈ Region.ready .any os.toArray listed := by simpa using h1
  exact V7 (S := Sk K) (T := fun _ => True) (N := 0) hi (Region.noSelect_spec hs) (fun _ _ _ h => h) (fun _ _ _ _ => rfl) _ listed a w hcl (Region.free_spec hi h2) (fun _ _ _ _ => .inr fun _ _ _ _ => trivial) hr (hy a ha) trivial
    (h _ (H8 hcl hr) h4 _ w (ha.put (C8 hd) v) hw hf)
section ops
variable {i d j t : Nat} {op : Op} {ty : TypeId} {pos : String} {af : Array Edge} {b b' : Bool} {v : Value} {oj : Oper} {R : Mem}
theorem I8 (hs : Region.noSelect os.toArray = true) (hget : nth os i = some ⟨some d, op, ty, pos, af, none⟩) (hq : OpQ C.P [] ⟨some d, op, ty, pos, af, none⟩ l v) (hd : Nat.blt d C.N = true)
    (h : XK C os Q K n0 nd plan ((d, v) :: l) M J) : XK C os Q K n0 nd ((i, 0) :: plan) l M J :=
  A5a hs hget (fun a ha => .inl ⟨rfl, fun w hw => hq C.N a w ha (fun _ _ hb => by cases hb)⟩) hd h
theorem XK.r (hs : Region.noSelect os.toArray = true) (hget : nth os i = some ⟨some d, op, ty, pos, af, none⟩) (hR : ∀ x ∈ R, x ∈ M ++ (J ++ C.A)) (hn : ∀ x ∈ R, ¬ K x.1) (hq : OpQ C.P R ⟨some d, op, ty, pos, af, none⟩ l v) (hd : Nat.blt d C.N = true)
    (h : XK C os Q K n0 nd plan ((d, v) :: l) M J) : XK C os Q K n0 nd ((i, 1) :: plan) l M J :=
  A49 hs hget hR hn (fun a ha => .inl ⟨rfl, fun w hw => hq C.N a w ha hw⟩) hd h
theorem C1s (hs : Region.noSelect os.toArray = true) (hget : nth os i = some ⟨some d, op, ty, pos, af, some (j, b)⟩) (hj : nth os j = some oj) (ht : oj.dst = some t) (hl : lk l t = some (.bool b)) (hq : OpQ C.P [] ⟨some d, op, ty, pos, af, some (j, b)⟩ l v) (hd : Nat.blt d C.N = true)
    (h : XK C os Q K n0 nd plan ((d, v) :: l) M J) : XK C os Q K n0 nd ((i, 0) :: plan) l M J :=
  A5a hs hget (fun a ha => .inl ⟨B0m (i := i) ha hj ht hl, fun w hw => hq C.N a w ha (fun _ _ hb => by cases hb)⟩) hd h
theorem C1t (hs : Region.noSelect os.toArray = true) (hget : nth os i = some ⟨some d, op, ty, pos, af, some (j, b)⟩) (hj : nth os j = some oj) (ht : oj.dst = some t) (hl : lk l t = some (.bool b)) (hR : ∀ x ∈ R, x ∈ M ++ (J ++ C.A)) (hn : ∀ x ∈ R, ¬ K x.1) (hq : OpQ C.P R ⟨some d, op, ty, pos, af, some (j, b)⟩ l v) (hd : Nat.blt d C.N = true)
    (h : XK C os Q K n0 nd plan ((d, v) :: l) M J) : XK C os Q K n0 nd ((i, 1) :: plan) l M J :=
  A49 hs hget hR hn (fun a ha => .inl ⟨B0m (i := i) ha hj ht hl, fun w hw => hq C.N a w ha hw⟩) hd h
theorem C1u (hs : Region.noSelect os.toArray = true) (hget : nth os i = some ⟨some d, op, ty, pos, af, some (j, b)⟩) (hj : nth os j = some oj) (ht : oj.dst = some t) (hl : lk l t = some (.bool b')) (hb : (b' == b) = false) (hd : Nat.blt d C.N = true)
    (h : XK C os Q K n0 nd plan ((d, undef) :: l) M J) : XK C os Q K n0 nd ((i, 0) :: plan) l M J :=
  A5a hs hget (fun a ha => .inr ⟨A7p (i := i) ha hj ht hl hb, rfl⟩) hd h
theorem C1v (hs : Region.noSelect os.toArray = true) (hget : nth os i = some ⟨some d, op, ty, pos, af, some (j, b)⟩) (hj : nth os j = some oj) (ht : oj.dst = some t) (hl : lk l t = some (.bool b')) (hb : (b' == b) = false) (hd : Nat.blt d C.N = true)
    (h : XK C os Q K n0 nd plan ((d, undef) :: l) M J) : XK C os Q K n0 nd ((i, 1) :: plan) l M J :=
  A49 (R := []) hs hget (fun _ h => by cases h) (fun _ h => by cases h) (fun a ha => .inr ⟨A7p (i := i) ha hj ht hl hb, rfl⟩) hd h
end ops
theorem B0B {i : Nat} {o : Oper} {Mc R : Mem} (hget : nth os i = some o) (hw' : ∀ a, Ag C.N l a → Region.wanted o (yielded os.toArray a.tmps) = true) (hM : M.Perm (Mc ++ R)) (hK : ∀ x ∈ Mc, K x.1)
    (h : ∀ w, OpL ⟨C.P, w, Mc.map Prod.fst, R ++ (J ++ C.A), C.N⟩ o l Mc [] (fun l' M' J' => ((∀ b, n0 ≤ b → K b) → ∀ x ∈ M', K x.1) → XK C os Q K n0 nd plan l' (M' ++ R) (J' ++ J))) :
    XK C os Q K n0 nd ((i, 2) :: plan) l M J := by
  intro listed hcl hp a w ha hw hf
  simp only [L0, Bool.and_eq_true, beq_iff_eq] at hp
  obtain ⟨h1, h2⟩ := hp
  have hi : os.toArray[i]? = some o := by rw [V2] at hget; simpa using hget
  refine ⟨fun h0 => (by rw [h1] at h0; cases h0), fun j hj => ?_⟩
  have hr := hj
  rw [h1] at hj
  simp only [List.mem_singleton] at hj
  subst hj
  unfold wpOp
  simp only [hi]
  rw [if_pos (hw' a ha)]
  refine .inl (Oper.wp_mono ?_ (h w _ a w ha (hw.callee hM).cx))
  rintro a' w' ⟨l', M', J', ha', hs', hk⟩
  have hsz : w.heap.size ≤ w'.heap.size := hs'.size
  refine ⟨fun _ b hb hnk => hs'.frame b hb fun hm => ?_, hk ?_ _ (H8 hcl hr) h2 a' w' ha' (hw.back hM hs'.cx) (Nat.le_trans hf hsz)⟩
  · obtain ⟨x, hx, e⟩ := List.mem_map.1 hm
    exact hnk (e ▸ hK x hx)
  · rintro hup ⟨b, o'⟩ hx
    rcases hs'.own b o' (by simp [hx]) with h6 | h6
    · obtain ⟨x, hx, e⟩ := List.mem_map.1 h6
      exact e ▸ hK x hx
    · exact hup b (Nat.le_trans hf h6)
theorem K6 {i : Nat} {o : Oper} (Mc R : Mem) (hget : nth os i = some o) (hg : o.guard = none) (hM : M.Perm (Mc ++ R)) (hK : ∀ x ∈ Mc, K x.1)
    (h : ∀ w, OpL ⟨C.P, w, Mc.map Prod.fst, R ++ (J ++ C.A), C.N⟩ o l Mc [] (fun l' M' J' => ((∀ b, n0 ≤ b → K b) → ∀ x ∈ M', K x.1) → XK C os Q K n0 nd plan l' (M' ++ R) (J' ++ J))) :
    XK C os Q K n0 nd ((i, 2) :: plan) l M J := B0B hget (fun a ha => by simp [Region.wanted, hg]) hM hK h
theorem C1w {i j t : Nat} {d : Option Nat} {op : Op} {ty : TypeId} {pos : String} {af : Array Edge} {b : Bool} {oj : Oper} (Mc R : Mem) (hget : nth os i = some ⟨d, op, ty, pos, af, some (j, b)⟩) (hj : nth os j = some oj) (ht : oj.dst = some t) (hl : lk l t = some (.bool b)) (hM : M.Perm (Mc ++ R)) (hK : ∀ x ∈ Mc, K x.1)
    (h : ∀ w, OpL ⟨C.P, w, Mc.map Prod.fst, R ++ (J ++ C.A), C.N⟩ ⟨d, op, ty, pos, af, some (j, b)⟩ l Mc [] (fun l' M' J' => ((∀ b, n0 ≤ b → K b) → ∀ x ∈ M', K x.1) → XK C os Q K n0 nd plan l' (M' ++ R) (J' ++ J))) :
    XK C os Q K n0 nd ((i, 2) :: plan) l M J := B0B hget (fun a ha => by
      have hj' : os.toArray[j]? = some oj := by rw [V2] at hj; simpa using hj
      simp only [Region.wanted, yielded, hj', Option.bind_some, ht, ha.slot _ _ hl]; simp) hM hK h
theorem B6V {i d : Nat} {op : Op} {ty : TypeId} {pos : String} {af : Array Edge} {g : Option (Nat × Bool)} (hget : nth os i = some ⟨some d, op, ty, pos, af, g⟩) (hw' : ∀ a, Ag C.N l a → Region.wanted ⟨some d, op, ty, pos, af, g⟩ (yielded os.toArray a.tmps) = false) (hd : Nat.blt d C.N = true)
    (h : XK C os Q K n0 nd plan ((d, undef) :: l) M J) : XK C os Q K n0 nd ((i, 2) :: plan) l M J := by
  intro listed hcl hp a w ha hw hf
  simp only [L0, Bool.and_eq_true, beq_iff_eq] at hp
  obtain ⟨h1, h2⟩ := hp
  have hi : os.toArray[i]? = some ⟨some d, op, ty, pos, af, g⟩ := by rw [V2] at hget; simpa using hget
  refine ⟨fun h0 => (by rw [h1] at h0; cases h0), fun j hj => ?_⟩
  have hr := hj
  rw [h1] at hj
  simp only [List.mem_singleton] at hj
  subst hj
  unfold wpOp
  simp only [hi]
  rw [if_neg (by rw [hw' a ha]; simp)]
  exact ⟨fun _ _ _ _ => rfl, h _ (H8 hcl hr) h2 _ w (ha.put (C8 hd) undef) hw hf⟩
theorem C1x {i d j t : Nat} {op : Op} {ty : TypeId} {pos : String} {af : Array Edge} {b b' : Bool} {oj : Oper} (hget : nth os i = some ⟨some d, op, ty, pos, af, some (j, b)⟩) (hj : nth os j = some oj) (ht : oj.dst = some t) (hl : lk l t = some (.bool b')) (hb : (b' == b) = false) (hd : Nat.blt d C.N = true)
    (h : XK C os Q K n0 nd plan ((d, undef) :: l) M J) : XK C os Q K n0 nd ((i, 2) :: plan) l M J :=
  B6V hget (fun a ha => A7p (i := i) ha hj ht hl hb) hd h
theorem B3x {t : Nat} {b : Bool} (hl : lk l t = some (.bool b)) (h1 : b = true → XK C os Q K n0 nd plan ((t, .bool true) :: l) M J) (h2 : b = false → XK C os Q K n0 nd plan ((t, .bool false) :: l) M J) :
    XK C os Q K n0 nd plan l M J := by
  intro listed hcl hp a w ha hw hf
  have key : ∀ b', b = b' → Ag C.N ((t, .bool b') :: l) a := by
    rintro b' rfl
    refine ha.sub ?_
    intro i v hi
    simp only [lk] at hi
    by_cases e : t = i
    · subst e; simp at hi; subst hi; exact hl
    · simpa only [X7 e, cond_false] using hi
  cases b
  · exact h2 rfl listed hcl hp a w (key _ rfl) hw hf
  · exact h1 rfl listed hcl hp a w (key _ rfl) hw hf
end plan
def XF (C : Cx) (os : List Oper) (Q : XQ) (nd : List Nat) (plan : List (Nat × Nat)) (l : Env) (M J : Mem) : Prop := XK C os Q (fun _ => False) 0 nd plan l M J
section free
variable {C : Cx} {Q : XQ} {l : Env} {M J : Mem} {os : List Oper} {nd : List Nat} {plan : List (Nat × Nat)}
theorem I9 {id : Nat} (nd : List Nat) (plan : List (Nat × Nat)) (hm : C.P.follows .mixedOrders = true) (hp : W5 os nd plan = true) (h : Region.noSelect os.toArray = true → XF C os Q nd plan l M J) : XC C (.region id os.toArray true) Q l M J := by
  intro a w ha hw
  simp only [W5, Bool.and_eq_true, beq_iff_eq] at hp
  obtain ⟨⟨h1, h3⟩, h4⟩ := hp
  refine Code.wp_mono (Q := R7 (A7g C Q)) (fun e a w h => by cases e <;> first | exact h | exact h.elim) ?_
  refine wp_region_any hm (A1c (S := Sk fun _ => False) (need := nd.contains) _ _ _ _ ?_)
  have := h h1 (Array.replicate os.length false) (fun j oj _ hl => by simp [Array.getElem?_replicate] at hl; split at hl <;> simp at hl) h4 a _ ha hw.drew (Nat.zero_le _)
  rw [h3] at this
  simpa using this
theorem D2 {id : Nat} {c2 : Code} (nd : List Nat) (plan : List (Nat × Nat)) (hm : C.P.follows .mixedOrders = true) (hp : W5 os nd plan = true) (h : Region.noSelect os.toArray = true → XF C os (A2Q C c2 Q) nd plan l M J) : XC C (.seq (.region id os.toArray true) c2) Q l M J :=
  A5 (I9 nd plan hm hp h)
theorem V3 (h : Q .normal l M J) : XF C os Q nd [] l M J := A3x h
theorem E4 {c : Code} {l' : Env} (hk : Keep l l') (h : XC C c Q l' M J) : XF C os (A2Q C c Q) nd [] l M J := P4 hk h
theorem W8 {t : Nat} {b : Bool} (hl : lk l t = some (.bool b)) (h1 : b = true → XF C os Q nd plan ((t, .bool true) :: l) M J) (h2 : b = false → XF C os Q nd plan ((t, .bool false) :: l) M J) : XF C os Q nd plan l M J := B3x hl h1 h2
section ops
variable {i d j t : Nat} {op : Op} {ty : TypeId} {pos : String} {af : Array Edge} {b b' : Bool} {v : Value} {oj : Oper}
theorem D1 (hs : Region.noSelect os.toArray = true) (hget : nth os i = some ⟨some d, op, ty, pos, af, none⟩) (hq : OpQ C.P [] ⟨some d, op, ty, pos, af, none⟩ l v) (hd : Nat.blt d C.N = true)
    (h : XF C os Q nd plan ((d, v) :: l) M J) : XF C os Q nd ((i, 0) :: plan) l M J := I8 hs hget hq hd h
theorem F7 (hs : Region.noSelect os.toArray = true) (hget : nth os i = some ⟨some d, op, ty, pos, af, none⟩) (hq : OpQ C.P (M ++ (J ++ C.A)) ⟨some d, op, ty, pos, af, none⟩ l v) (hd : Nat.blt d C.N = true)
    (h : XF C os Q nd plan ((d, v) :: l) M J) : XF C os Q nd ((i, 1) :: plan) l M J := XK.r hs hget (fun _ h => h) (fun _ _ h => h) hq hd h
theorem L6 (hs : Region.noSelect os.toArray = true) (hget : nth os i = some ⟨some d, op, ty, pos, af, some (j, b)⟩) (hj : nth os j = some oj) (ht : oj.dst = some t) (hl : lk l t = some (.bool b)) (hq : OpQ C.P [] ⟨some d, op, ty, pos, af, some (j, b)⟩ l v) (hd : Nat.blt d C.N = true)
    (h : XF C os Q nd plan ((d, v) :: l) M J) : XF C os Q nd ((i, 0) :: plan) l M J := C1s hs hget hj ht hl hq hd h
theorem Y6 (hs : Region.noSelect os.toArray = true) (hget : nth os i = some ⟨some d, op, ty, pos, af, some (j, b)⟩) (hj : nth os j = some oj) (ht : oj.dst = some t) (hl : lk l t = some (.bool b)) (hq : OpQ C.P (M ++ (J ++ C.A)) ⟨some d, op, ty, pos, af, some (j, b)⟩ l v) (hd : Nat.blt d C.N = true)
    (h : XF C os Q nd plan ((d, v) :: l) M J) : XF C os Q nd ((i, 1) :: plan) l M J := C1t hs hget hj ht hl (fun _ h => h) (fun _ _ h => h) hq hd h
theorem C1y (hs : Region.noSelect os.toArray = true) (hget : nth os i = some ⟨some d, op, ty, pos, af, some (j, b)⟩) (hj : nth os j = some oj) (ht : oj.dst = some t) (hl : lk l t = some (.bool b')) (hb : (b' == b) = false) (hd : Nat.blt d C.N = true)
    (h : XF C os Q nd plan ((d, undef) :: l) M J) : XF C os Q nd ((i, 0) :: plan) l M J := C1u hs hget hj ht hl hb hd h
theorem C1z (hs : Region.noSelect os.toArray = true) (hget : nth os i = some ⟨some d, op, ty, pos, af, some (j, b)⟩) (hj : nth os j = some oj) (ht : oj.dst = some t) (hl : lk l t = some (.bool b')) (hb : (b' == b) = false) (hd : Nat.blt d C.N = true)
    (h : XF C os Q nd plan ((d, undef) :: l) M J) : XF C os Q nd ((i, 1) :: plan) l M J := C1v hs hget hj ht hl hb hd h
theorem A7A (hs : Region.noSelect os.toArray = true) (hget : nth os i = some ⟨some d, op, ty, pos, af, some (j, b)⟩) (hj : nth os j = some oj) (ht : oj.dst = some t) (hl : lk l t = some (.bool b')) (hb : (b' == b) = false) (hd : Nat.blt d C.N = true)
    (h : XF C os Q nd plan ((d, undef) :: l) M J) : XF C os Q nd ((i, 2) :: plan) l M J := C1x hget hj ht hl hb hd h
end ops
theorem B9f {i : Nat} {o : Oper} (hget : nth os i = some o) (hg : o.guard = none)
    (h : ∀ w, OpL ⟨C.P, w, [], M ++ (J ++ C.A), C.N⟩ o l [] [] (fun l' M' J' => XF C os Q nd plan l' (M' ++ M) (J' ++ J))) : XF C os Q nd ((i, 2) :: plan) l M J :=
  K6 [] M hget hg (.refl _) (fun _ h => by cases h) fun w => (h w).mono fun _ _ _ hh _ => hh
theorem C1A {i j t : Nat} {d : Option Nat} {op : Op} {ty : TypeId} {pos : String} {af : Array Edge} {b : Bool} {oj : Oper} (hget : nth os i = some ⟨d, op, ty, pos, af, some (j, b)⟩) (hj : nth os j = some oj) (ht : oj.dst = some t) (hl : lk l t = some (.bool b))
    (h : ∀ w, OpL ⟨C.P, w, [], M ++ (J ++ C.A), C.N⟩ ⟨d, op, ty, pos, af, some (j, b)⟩ l [] [] (fun l' M' J' => XF C os Q nd plan l' (M' ++ M) (J' ++ J))) : XF C os Q nd ((i, 2) :: plan) l M J :=
  C1w [] M hget hj ht hl (.refl _) (fun _ h => by cases h) fun w => (h w).mono fun _ _ _ hh _ => hh
end free
section tails
variable {C : Cx} {Q : XQ} {l : Env} {M J : Mem} {os : List Oper} {K : Nat → Prop} {n0 : Nat} {nd : List Nat} {plan : List (Nat × Nat)}
theorem B0C {i : Nat} {o : Oper} (hget : nth os i = some o) (hw' : ∀ a, Ag C.N l a → Region.wanted o (yielded os.toArray a.tmps) = true) (hnd : nd.contains i = false)
    (h : OpL C o l M J (fun l' M' J' => XK C os Q K 0 nd plan l' M' J')) : XK C os Q K 0 nd ((i, 2) :: plan) l M J := by
  intro listed hcl hp a w ha hw hf
  simp only [L0, Bool.and_eq_true, beq_iff_eq] at hp
  obtain ⟨h1, h2⟩ := hp
  have hi : os.toArray[i]? = some o := by rw [V2] at hget; simpa using hget
  refine ⟨fun h0 => (by rw [h1] at h0; cases h0), fun j hj => ?_⟩
  have hr := hj
  rw [h1] at hj
  simp only [List.mem_singleton] at hj
  subst hj
  unfold wpOp
  simp only [hi]
  rw [if_pos (hw' a ha)]
  refine .inl (Oper.wp_mono ?_ (h _ a w ha hw))
  rintro a' w' ⟨l', M', J', ha', hs', hk⟩
  exact ⟨fun hn => absurd hn (by rw [hnd]; decide), hk _ (H8 hcl hr) h2 a' w' ha' hs' (Nat.zero_le _)⟩
theorem G5 {i : Nat} {o : Oper} (hget : nth os i = some o) (hg : o.guard = none) (hnd : nd.contains i = false) (h : OpL C o l M J (fun l' M' J' => XF C os Q nd plan l' M' J')) : XF C os Q nd ((i, 2) :: plan) l M J :=
  B0C hget (fun a ha => by simp [Region.wanted, hg]) hnd h
end tails
def XR (C : Cx) (c : Code) (Q : XQ) (n : Nat) (l : Env) (M J : Mem) : Prop := ∀ a w, Ag C.N l a → St C M J w → Code.rounds C.P c (A7g C Q) n a w
def unX (C : Cx) (c : Code) (Q : XQ) (n : Nat) : XQ
  | .normal, l, M, J => XR C c Q n l M J
  | e, l, M, J => Q e l M J
section unroll
variable {C : Cx} {Q : XQ} {l l' : Env} {M J : Mem} {c : Code} {n : Nat}
theorem Y7 (n : Nat) (h : XR C c Q n l M J) : XC C (.loop c) Q l M J := fun a w ha hw => wp_loop_rounds n (h a w ha hw)
theorem H3 (h : XC C c (unX C c Q n) l M J) : XR C c Q (n + 1) l M J := by
  intro a w ha hw
  refine Code.wp_mono ?_ (h a w ha hw)
  rintro e a' w' ⟨l', M', J', ha', hw', hq⟩
  cases e with
  | normal => exact hq a' w' ha' hw'
  | _ => exact ⟨l', M', J', ha', hw', hq⟩
theorem un (hk : Keep l l') (h : XR C c Q n l' M J) : unX C c Q n .normal l M J := fun a w ha hw => h a w (ha.sub hk.lk) hw
theorem ue {i : Nat} (h : Q (.exit i) l M J) : unX C c Q n (.exit i) l M J := h
end unroll
section call
variable {C : Cx} {Q : XQ} {l : Env} {M J : Mem} {d i j t : Nat} {ty : TypeId} {pos : String} {af : Array Edge} {b : Bool} {f : FuncId} {xs : List Operand} {vs : List Value} {ts : Array TypeId} {post : Value → Mem → Mem → Prop} {K : Env → Mem → Mem → Prop} {g : Option (Nat × Bool)}
theorem D7 (hx : Evs l xs vs) (hc : K5 C.P f = true)
    (hf : FnX C.P f vs [] (M ++ (J ++ C.A)) post) (hd : Nat.blt d C.N = true) (k : ∀ v M' J', post v M' J' → K ((d, v) :: l) (M' ++ M) (J' ++ J)) :
    OpL C ⟨some d, .call { callee := .value (.func f), args := xs.toArray, argTypes := ts }, ty, pos, af, g⟩ l M J K := E1 (Mc := []) (R := M) hx hc (.refl _) hf hd k
theorem C9 {ops : Array Oper} {rest : List Oper} (hx : Evs l xs vs) (hc : K5 C.P f = true) (hf : FnX C.P f vs [] (M ++ (J ++ C.A)) post) (hd : Nat.blt d C.N = true)
    (k : ∀ v M' J', post v M' J' → XL C ops rest Q ((d, v) :: l) (M' ++ M) (J' ++ J)) :
    XL C ops (⟨some d, .call { callee := .value (.func f), args := xs.toArray, argTypes := ts }, ty, pos, af, none⟩ :: rest) Q l M J := A6 rfl (D7 hx hc hf hd k)
theorem B3y {ops : Array Oper} {rest : List Oper} (ht : (ops[j]?).bind (·.dst) = some t) (hl : lk l t = some (.bool b)) (hx : Evs l xs vs) (hc : K5 C.P f = true) (hf : FnX C.P f vs [] (M ++ (J ++ C.A)) post) (hd : Nat.blt d C.N = true)
    (k : ∀ v M' J', post v M' J' → XL C ops rest Q ((d, v) :: l) (M' ++ M) (J' ++ J)) :
    XL C ops (⟨some d, .call { callee := .value (.func f), args := xs.toArray, argTypes := ts }, ty, pos, af, some (j, b)⟩ :: rest) Q l M J := G2 ht hl (D7 hx hc hf hd k)
variable {os : List Oper} {nd : List Nat} {plan : List (Nat × Nat)} {oj : Oper}
theorem G1 (hget : nth os i = some ⟨some d, .call { callee := .value (.func f), args := xs.toArray, argTypes := ts }, ty, pos, af, none⟩) (hx : Evs l xs vs) (hc : K5 C.P f = true) (hf : FnX C.P f vs [] (M ++ (J ++ C.A)) post) (hd : Nat.blt d C.N = true)
    (k : ∀ v M' J', post v M' J' → XF C os Q nd plan ((d, v) :: l) (M' ++ M) (J' ++ J)) : XF C os Q nd ((i, 2) :: plan) l M J :=
  B9f hget rfl fun w => D7 hx hc hf hd fun v M' J' hp => by simpa using k v M' J' hp
theorem A24 (hget : nth os i = some ⟨some d, .call { callee := .value (.func f), args := xs.toArray, argTypes := ts }, ty, pos, af, some (j, b)⟩) (hj : nth os j = some oj) (ht : oj.dst = some t) (hl : lk l t = some (.bool b)) (hx : Evs l xs vs) (hc : K5 C.P f = true) (hf : FnX C.P f vs [] (M ++ (J ++ C.A)) post) (hd : Nat.blt d C.N = true)
    (k : ∀ v M' J', post v M' J' → XF C os Q nd plan ((d, v) :: l) (M' ++ M) (J' ++ J)) : XF C os Q nd ((i, 2) :: plan) l M J :=
  C1A hget hj ht hl fun w => D7 hx hc hf hd fun v M' J' hp => by simpa using k v M' J' hp
theorem F6 {ops : Array Oper} {rest : List Oper} {v : Value} (hx : Evs l xs vs) (hc : K5 C.P f = true) (hf : FnV C.P f vs (M ++ (J ++ C.A)) v) (hd : Nat.blt d C.N = true) (k : XL C ops rest Q ((d, v) :: l) M J) :
    XL C ops (⟨some d, .call { callee := .value (.func f), args := xs.toArray, argTypes := ts }, ty, pos, af, none⟩ :: rest) Q l M J := C9 hx hc hf hd fun r M' J' h => by obtain ⟨rfl, rfl, rfl⟩ := h; exact k
theorem B0D {ops : Array Oper} {rest : List Oper} {v : Value} (ht : (ops[j]?).bind (·.dst) = some t) (hl : lk l t = some (.bool b)) (hx : Evs l xs vs) (hc : K5 C.P f = true) (hf : FnV C.P f vs (M ++ (J ++ C.A)) v) (hd : Nat.blt d C.N = true) (k : XL C ops rest Q ((d, v) :: l) M J) :
    XL C ops (⟨some d, .call { callee := .value (.func f), args := xs.toArray, argTypes := ts }, ty, pos, af, some (j, b)⟩ :: rest) Q l M J := B3y ht hl hx hc hf hd fun r M' J' h => by obtain ⟨rfl, rfl, rfl⟩ := h; exact k
theorem T6 {v : Value} (hget : nth os i = some ⟨some d, .call { callee := .value (.func f), args := xs.toArray, argTypes := ts }, ty, pos, af, none⟩) (hx : Evs l xs vs) (hc : K5 C.P f = true) (hf : FnV C.P f vs (M ++ (J ++ C.A)) v) (hd : Nat.blt d C.N = true)
    (k : XF C os Q nd plan ((d, v) :: l) M J) : XF C os Q nd ((i, 2) :: plan) l M J := G1 hget hx hc hf hd fun r M' J' h => by obtain ⟨rfl, rfl, rfl⟩ := h; exact k
theorem A1Z {v : Value} (hget : nth os i = some ⟨some d, .call { callee := .value (.func f), args := xs.toArray, argTypes := ts }, ty, pos, af, some (j, b)⟩) (hj : nth os j = some oj) (ht : oj.dst = some t) (hl : lk l t = some (.bool b)) (hx : Evs l xs vs) (hc : K5 C.P f = true) (hf : FnV C.P f vs (M ++ (J ++ C.A)) v) (hd : Nat.blt d C.N = true)
    (k : XF C os Q nd plan ((d, v) :: l) M J) : XF C os Q nd ((i, 2) :: plan) l M J := A24 hget hj ht hl hx hc hf hd fun r M' J' h => by obtain ⟨rfl, rfl, rfl⟩ := h; exact k
end call
end Go.Px

namespace Go.Px
theorem kr_ {X Z Y : Mem} : ∀ x ∈ Z ++ Y, x ∈ (X ++ Z) ++ Y := fun x hx => by rw [List.append_assoc]; exact List.mem_append_right _ hx
def zp : Nat → List Nat → List (Nat × Nat)
  | _, [] => []
  | i, c :: r => (i, c) :: zp (i + 1) r
section
variable {C : Cx} {Q : XQ} {l : Env} {M J : Mem} {os : List Oper} {K : Nat → Prop} {n0 : Nat} {nd : List Nat} {plan : List (Nat × Nat)} {i d j t : Nat} {op : Op} {ty : TypeId} {pos : String} {af : Array Edge} {b b' : Bool} {v : Value} {oj : Oper} {x : Operand}
theorem fm_ (hs : Region.noSelect os.toArray = true) (h : XF C os Q nd plan ((d, v) :: l) M J) (hget : nth os i = some ⟨some d, .move x, ty, pos, af, none⟩ := by exact rfl) (hx : ev l x = some v := by exact rfl) (hd : Nat.blt d C.N = true := by exact rfl) : XF C os Q nd ((i, 0) :: plan) l M J := D1 hs hget (A8g hx) hd h
theorem fa_ (hs : Region.noSelect os.toArray = true) (h : XF C os Q nd plan ((d, v) :: l) M J) (hget : nth os i = some ⟨some d, .assign x, ty, pos, af, none⟩ := by exact rfl) (hx : ev l x = some v := by exact rfl) (hd : Nat.blt d C.N = true := by exact rfl) : XF C os Q nd ((i, 0) :: plan) l M J := D1 hs hget (I4 hx) hd h
theorem km_ (hs : Region.noSelect os.toArray = true) (h : XK C os Q K n0 nd plan ((d, v) :: l) M J) (hget : nth os i = some ⟨some d, .move x, ty, pos, af, none⟩ := by exact rfl) (hx : ev l x = some v := by exact rfl) (hd : Nat.blt d C.N = true := by exact rfl) : XK C os Q K n0 nd ((i, 0) :: plan) l M J := I8 hs hget (A8g hx) hd h
theorem L7 (hs : Region.noSelect os.toArray = true) (h : XF C os Q nd plan ((d, undef) :: l) M J) (hget : nth os i = some ⟨some d, op, ty, pos, af, some (j, b)⟩ := by exact rfl) (hj : nth os j = some oj := by exact rfl) (ht : oj.dst = some t := by exact rfl) (hl : lk l t = some (.bool b') := by exact rfl) (hb : (b' == b) = false := by exact rfl) (hd : Nat.blt d C.N = true := by exact rfl) : XF C os Q nd ((i, 0) :: plan) l M J := C1y hs hget hj ht hl hb hd h
theorem U8 (hs : Region.noSelect os.toArray = true) (h : XF C os Q nd plan ((d, undef) :: l) M J) (hget : nth os i = some ⟨some d, op, ty, pos, af, some (j, b)⟩ := by exact rfl) (hj : nth os j = some oj := by exact rfl) (ht : oj.dst = some t := by exact rfl) (hl : lk l t = some (.bool b') := by exact rfl) (hb : (b' == b) = false := by exact rfl) (hd : Nat.blt d C.N = true := by exact rfl) : XF C os Q nd ((i, 1) :: plan) l M J := C1z hs hget hj ht hl hb hd h
theorem Q0 {R : Mem} (hs : Region.noSelect os.toArray = true) (hget : nth os i = some ⟨some d, op, ty, pos, af, none⟩) (hn : ∀ x ∈ R, ¬ K x.1) (hq : OpQ C.P R ⟨some d, op, ty, pos, af, none⟩ l v) (h : XK C os Q K n0 nd plan ((d, v) :: l) M J) (hR : ∀ x ∈ R, x ∈ M ++ (J ++ C.A) := by first | exact fun x hx => by rw [List.append_assoc]; exact List.mem_append_right _ hx | exact SubC.sub) (hd : Nat.blt d C.N = true := by exact rfl) : XK C os Q K n0 nd ((i, 1) :: plan) l M J := XK.r hs hget hR hn hq hd h
end
end Go.Px

