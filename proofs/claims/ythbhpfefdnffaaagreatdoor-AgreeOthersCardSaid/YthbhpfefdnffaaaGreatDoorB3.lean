/- Part 3 of the texts of this claim, one behind the other. -/
import Derived.Test.YthbhpfefdnffaaaGreatDoorB2
set_option linter.unusedVariables false
set_option linter.unusedSimpArgs false
set_option maxRecDepth 100000
namespace Go.Proofs.YthbhpfefdnffaaaGreatDoor
open Go.Px
def A60 (R : Mem) (v : Value) (ps : List (List Nat)) : Prop :=
  ∃ vs : List Value, Rd R 1 v ps.length vs ∧ ∀ (i : Nat) (p : List Nat), ps[i]? = some p → (∀ x ∈ p, x < 256) ∧ ∃ u, vs[i]? = some u ∧ Rd R 1 u p.length (nums .u8 p)
theorem A60.mono {R R' : Mem} {v : Value} {ps : List (List Nat)} (h : A60 R v ps) (hR : ∀ x, x ∈ R → x ∈ R') : A60 R' v ps := by
  obtain ⟨vs, h1, h2⟩ := h
  refine ⟨vs, h1.mono hR, fun i p hp => ?_⟩
  obtain ⟨h3, u, h4, h5⟩ := h2 i p hp
  exact ⟨h3, u, h4, h5.mono hR⟩
def A1d (ps : List (List Nat)) (i : Nat) : List Nat := (ps.take i).flatten
theorem A9S {ps : List (List Nat)} {i : Nat} {p : List Nat} (h : ps[i]? = some p) : A1d ps (i + 1) = A1d ps i ++ p := by
  unfold A1d; rw [List.take_add_one, h]; simp
theorem A2H (ps : List (List Nat)) : A1d ps ps.length = ps.flatten := by unfold A1d; rw [List.take_length]
theorem B5U (ps : List (List Nat)) (i : Nat) : (A1d ps i).length ≤ ps.flatten.length := by
  have h := congrArg (fun l => (List.flatten l).length) (List.take_append_drop i ps)
  simp only [List.flatten_append, List.length_append] at h
  unfold A1d; omega
theorem A61 {ps : List (List Nat)} (h : ∀ (i : Nat) (p : List Nat), ps[i]? = some p → ∀ x ∈ p, x < 256) (i : Nat) : ∀ x ∈ A1d ps i, x < 256 := by
  intro x hx
  obtain ⟨p, hp, hx⟩ := List.mem_flatten.1 hx
  obtain ⟨j, hj⟩ := List.getElem?_of_mem (List.mem_of_mem_take hp)
  exact h j p hj x hx
theorem A8Z (m : List Nat) : (L6 m).length = 64 * ((L6 m).length / 64) ∧ 64 * (m.length / 64) ≤ (L6 m).length ∧ (L6 m).length ≤ m.length + 73 := by
  have e : (L6 m).length = m.length + 1 + A26 m.length + 8 := by simp [L6, B2u]; omega
  have hz : A26 m.length = (119 - m.length % 64) % 64 := rfl
  omega
theorem A62 (m : List Nat) (k : Nat) (h : 64 * k ≤ m.length) : (L6 m).drop (64 * k) = m.drop (64 * k) ++ (128 :: (List.replicate (A26 m.length) 0 ++ B2u m.length 8)) := by
  unfold L6; rw [List.drop_append_of_le_length h]
theorem A9T {m : List Nat} (h : ∀ x ∈ m, x < 256) : ∀ x ∈ L6 m, x < 256 := by
  intro x hx
  unfold L6 at hx
  rcases List.mem_append.1 hx with hx | hx
  · exact h x hx
  · rcases List.mem_cons.1 hx with rfl | hx
    · decide
    · rcases List.mem_append.1 hx with hx | hx
      · rw [(List.mem_replicate.1 hx).2]; decide
      · obtain ⟨i, _, rfl⟩ := List.mem_map.1 hx
        exact Nat.mod_lt _ (by decide)
theorem A5R {k : IntKind} {ws : List Nat} (n : Nat) : (nums k ws).take (n * 1) = nums k (ws.take n) := by rw [Nat.mul_one, A0L]
theorem A5S {k : IntKind} {ws : List Nat} (n : Nat) : (nums k ws).drop (n * 1) = nums k (ws.drop n) := by rw [Nat.mul_one, A0g]
theorem A9U (s t : S8) : (nums .u32 s.list).length = (nums .u32 t.list).length := by rw [nums_len, nums_len]; simp [S8.list]
theorem A9V (n k : Nat) : B2u n (k + 1) = B2u n k ++ [(8 * n) >>> (56 - 8 * k) % 256] := by simp [B2u, List.range_succ]
theorem A1G (v : Value) (ps : List (List Nat)) (A : Mem) (hv : A60 A v ps) (htot : ps.flatten.length ≤ 2147483648) (hcnt : ps.length ≤ 2147483648) {ef ek : TypeId} {ff fk : Nat × Nat} (h0 : (0, Obj.cells (nums .u32 A2p.list).toArray ef ff) ∈ A) (h1 : (1, Obj.cells (nums .u32 A1B).toArray ek fk) ∈ A) :
  FnX Tryz.prog 138 [v] [] A fun r M J => J = [] ∧ Sl 1 r 32 (nums .u8 (Z5 ps.flatten)) M := by
 obtain ⟨vs, hvs, hps⟩ := hv
 refine FnX.enter (N := 90) Tryz.func138 rfl rfl rfl fun w => ?_
 refine C4 (D8 0) (A3 (as_ (A0 (D8 0) (A3 ?_))))
 refine A4 (H7 (cs := nums .u32 A2p.list) (n := 8) rfl kR (mA h0) (by rfl)) rfl ?_
 refine A6 rfl (C5 (cs := [G4, G4, G4, G4, G4, G4, G4, G4]) kR rfl fun b3 => ?_)
 refine A7O rfl rfl kR (by rfl) E8 ?_
 refine as_ (A0 (E1 0 3 4) (A3 (as_ (A0 (E7 0 3 4 5) (A5 (A3 (mv_ ?_)))))))
 refine A4 (A0E hvs rfl kR) rfl ?_
 refine mv_ (A0 (I5 3 4 5 13 14 15) (C0 ?_))
 refine F2 (α := Nat × Value × Mem) (fun x => [(3, .pointer (some ⟨b3, 0, none⟩)), (4, .int .i64 ((A1d ps x.1).length : Int)), (5, x.2.1), (13, v), (14, .int .i64 (ps.length : Int)), (15, .int .i64 (x.1 : Int))]) (fun x => x.2.2 ++ [(b3, blk (nums .u32 (A3W A1B ((A1d ps x.1).length / 64) A2p (A1d ps x.1)).list) 222)]) (fun _ => []) (fun x => x.1 ≤ ps.length ∧ Sl 1 x.2.1 ((A1d ps x.1).length - 64 * ((A1d ps x.1).length / 64)) (nums .u8 ((A1d ps x.1).drop (64 * ((A1d ps x.1).length / 64)))) x.2.2) (fun x => ps.length - x.1) (0, .slice none 0 0, []) ⟨Nat.zero_le _, A0i Sl.nil (by simp [A1d]) (by simp [A1d, nums])⟩ (I5 3 4 5 13 14 15) (Fit.eq (by simp [A1d, A3W])) (fun _ h => h) ?_
 rintro ⟨i, rv, B⟩ ⟨hi, hsl⟩
 dsimp only at hi hsl ⊢
 refine A3 ?_
 refine A4 (F1 rfl rfl rfl) rfl ?_
 refine A0 (X3 3 4 5 13 14 15 16) (A5 ?_)
 refine C8 rfl (fun hc => ?_) (fun hc => ?_)
 ·
  have hlt : i < ps.length := by simp at hc; omega
  obtain ⟨q, hq⟩ : ∃ q, ps[i]? = some q := ⟨_, List.getElem?_eq_getElem hlt⟩
  obtain ⟨hq256, u, hu, hqr⟩ := hps i q hq
  have hps1 := A9S hq
  have hle1 := B5U ps (i + 1)
  have hpl : (A1d ps (i + 1)).length = (A1d ps i).length + q.length := by rw [hps1, List.length_append]
  generalize hm : A1d ps i = m at *
  refine A9 (nx (I5 3 4 5 13 14 15) (A5 (C0 (A3 ?_))))
  refine A4 (B2w hvs rfl rfl kR i rfl hlt) rfl ?_
  refine A4 (A1b (hvs.mono fun _ h => mA h) rfl kR hu) rfl ?_
  refine as_ (A0 (X3 3 4 5 7 13 14 15) (A3 (mv_ (mv_ ?_))))
  refine A4 (A0E hqr rfl kR) rfl ?_
  refine A4 (E4 (((A1d ps (i + 1)).length : Nat) : Int) rfl rfl (G3 (by omega) (by omega) (by omega))) rfl ?_
  refine as_ (A0 (X3 3 4 5 7 13 14 15) (A3 (mv_ (mv_ ?_))))
  refine A6 rfl (T3 (e := 5) (sz := 1) (by_ := 1) (m := q.length) (B := B) rfl rfl kR rfl hsl (hqr.mono fun _ h => mA h) E8 (.refl _) (by unfold maxLen; omega) (by omega) rfl fun rv1 B1 hsl1 => ?_)
  have hsl1 : Sl 1 rv1 ((A1d ps (i + 1)).length - 64 * (m.length / 64)) (nums .u8 ((A1d ps (i + 1)).drop (64 * (m.length / 64)))) B1 := A0i hsl1 (by omega) (by rw [hps1, List.drop_append_of_le_length (by omega), I9])
  refine as_ (A0 (I5 3 4 5 13 14 15) (C0 ?_))
  refine F2 (α := Nat × Value × Mem) (fun x => [(3, .pointer (some ⟨b3, 0, none⟩)), (4, .int .i64 ((A1d ps (i + 1)).length : Int)), (5, x.2.1), (13, v), (14, .int .i64 (ps.length : Int)), (15, .int .i64 (i : Int))]) (fun x => x.2.2 ++ [(b3, blk (nums .u32 (A3W A1B x.1 A2p (A1d ps (i + 1))).list) 222)]) (fun _ => []) (fun x => 64 * x.1 ≤ (A1d ps (i + 1)).length ∧ Sl 1 x.2.1 ((A1d ps (i + 1)).length - 64 * x.1) (nums .u8 ((A1d ps (i + 1)).drop (64 * x.1))) x.2.2) (fun x => (A1d ps (i + 1)).length - 64 * x.1) (m.length / 64, rv1, B1) ⟨by dsimp only; omega, hsl1⟩ (I5 3 4 5 13 14 15) (Fit.eq (by dsimp only; rw [hps1, A4K _ _ _ _ _ (by omega)])) (fun _ h => h) ?_
  clear hsl1 hsl
  rintro ⟨k, rv, B⟩ ⟨hk1, hsl⟩
  dsimp only at hk1 hsl ⊢
  refine A5 (A3 (mv_ ?_))
  refine A4 (A0E (hsl.rd fun _ h => h) rfl kR) rfl ?_
  refine A4 (F1 rfl rfl rfl) rfl ?_
  refine A0 (X3 3 4 5 13 14 15 28) ?_
  refine C8 rfl (fun hc => ?_) (fun hc => ?_)
  ·
   have hge : 64 ≤ (A1d ps (i + 1)).length - 64 * k := by simp at hc; omega
   obtain ⟨B2, hB2, hsl2⟩ := hsl.loV 64 hge
   refine A9 (nx (I5 3 4 5 13 14 15) (C0 ?_))
   refine A17 (_) [0, 1, 2] [(0, 1), (1, 0), (2, 0), (3, 2), (4, 2)] kR kR (fun _ h => h) fun hs => ?_
   refine A3U hs rfl (H7 (n := 8) rfl kR At.mem (by rfl)) rfl ?_
   refine L7 hs rfl qm_ rfl ?_
   refine L7 hs rfl (B5R (hsl.rd fun _ h => h) rfl rfl kR 64 rfl hge) rfl ?_
   refine A1E rfl rfl rfl (V4 (aS rfl (aS rfl a0)) kR (A37 _ (A4J _ _ _ A4I) _ (fun x hx => (A61 (fun j p hp => (hps j p hp).1) (i + 1)) x (List.mem_of_mem_drop (List.mem_of_mem_take hx))) _ _ (A1c ((hsl.rd fun _ h => by simp [h]).hiV 64 hge) rfl (A5R 64)) (mA h1)) rfl ?_)
   refine A1E rfl rfl rfl (A8 rfl rfl rfl kR (A9U _ _) E8 UpC.upd ?_)
   refine A34 (I5 3 4 5 13 14 15) ?_
   refine C3 (mv_ ?_)
   refine A4 (B5S (hsl.rd fun _ h => h) rfl rfl kR 64 rfl hge) rfl ?_
   refine as_ (D0 (nb ?_))
   refine rn (k + 1, _, B2) ⟨by dsimp only; omega, A0i hsl2 (by dsimp only; omega) (by rw [A5S, List.drop_drop]; rfl)⟩ (by dsimp only; omega) (I5 3 4 5 13 14 15) ?_ (fun _ h => h)
   dsimp only
   rw [A27]
   exact Fit.sub (List.Sublist.append hB2 (List.Sublist.refl _))
  ·
   have hge : k = (A1d ps (i + 1)).length / 64 := by simp at hc; omega
   subst hge
   refine E6 (te (re (be rfl (nb (nx (I5 3 4 5 13 14 15) (C3 ?_))))))
   refine A4 (E4 ((i + 1 : Nat) : Int) rfl rfl (G3 (by omega) (by omega) (by omega))) rfl ?_
   refine mv_ (D0 ?_)
   refine rn (i + 1, _, B) ⟨by dsimp only; omega, hsl⟩ (by dsimp only; omega) (I5 3 4 5 13 14 15) .rfl (fun _ h => h)
 ·
  have hlt : i = ps.length := by simp at hc; omega
  subst hlt
  rw [A2H] at hsl
  simp only [A2H]
  generalize hm : ps.flatten = m at *
  refine E6 (te (re (be rfl (nx (E1 3 4 5) (A3 (mv_ ?_))))))
  refine A6 rfl (C6 (e := 5) (sz := 1) (z := [.int .u8 0]) kR (eS rfl e0) (bdS 0 1 rfl (by rfl) bd0) rfl fun b37 => ?_)
  have hm256 : ∀ x ∈ m, x < 256 := by rw [← hm, ← A2H]; exact A61 (fun j p hp => (hps j p hp).1) _
  have htot' : m.length ≤ 2147483648 := htot
  refine A6 rfl (T3 (e := 5) (sz := 1) (by_ := 1) (m := 1) (B := B) (ys := nums .u8 [128]) (M0 := (b37, _) :: _) rfl rfl kR rfl hsl (Rd.whole (n := 1) m0 (by rfl)) E8 pkB (by unfold maxLen; omega) (by omega) rfl fun rv1 B1 hsl1 => ?_)
  clear hsl
  have hsl1 : Sl 1 rv1 (m.length % 64 + 1) (nums .u8 (m.drop (64 * (m.length / 64)) ++ [128])) B1 := A0i hsl1 (by omega) (by rw [I9])
  refine as_ (A0 (E1 3 4 5) (A5 (C0 ?_)))
  refine F2 (α := Nat × Value × Mem) (fun x => [(3, .pointer (some ⟨b3, 0, none⟩)), (4, .int .i64 (m.length : Int)), (5, x.2.1)]) (fun x => x.2.2 ++ [(b3, blk (nums .u32 (A3W A1B (m.length / 64) A2p m).list) 222)]) (fun _ => []) (fun x => x.1 ≤ A26 m.length ∧ Sl 1 x.2.1 (m.length % 64 + 1 + x.1) (nums .u8 (m.drop (64 * (m.length / 64)) ++ (128 :: List.replicate x.1 0))) x.2.2) (fun x => A26 m.length - x.1) (0, rv1, B1) ⟨Nat.zero_le _, hsl1⟩ (E1 3 4 5) (Fit.head1' (List.Sublist.refl _)) (fun _ h => h) ?_
  clear hsl1
  rintro ⟨z, rv, B⟩ ⟨hz, hsl⟩
  dsimp only at hz hsl ⊢
  have hzz : A26 m.length = (119 - m.length % 64) % 64 := rfl
  refine A5 (A3 (mv_ ?_))
  refine A4 (A0E (hsl.rd fun _ h => h) rfl kR) rfl ?_
  refine A4 (A9M (b := 64) rfl rfl (by decide)) rfl ?_
  refine A4 (F1 rfl rfl rfl) rfl ?_
  refine A0 (E7 3 4 5 42) ?_
  refine C8 rfl (fun hc => ?_) (fun hc => ?_)
  ·
   have hlt : z < A26 m.length := by simp at hc; omega
   refine A9 (nx (E1 3 4 5) (C0 (C3 (mv_ ?_))))
   refine A6 rfl (C6 (e := 5) (sz := 1) (z := [.int .u8 0]) kR (eS rfl e0) (bdS 0 1 rfl (by rfl) bd0) rfl fun b44 => ?_)
   refine A6 rfl (T3 (e := 5) (sz := 1) (by_ := 1) (m := 1) (B := B) (ys := nums .u8 [0]) (M0 := (b44, _) :: _) rfl rfl kR rfl hsl (Rd.whole (n := 1) m0 (by rfl)) E8 pkB (by unfold maxLen; omega) (by omega) rfl fun rv1 B1 hsl1 => ?_)
   refine as_ (D0 (nb ?_))
   refine rn (z + 1, rv1, B1) ⟨by dsimp only; omega, A0i hsl1 (by dsimp only; omega) ?_⟩ (by dsimp only; omega) (E1 3 4 5) (Fit.head1' (List.Sublist.refl _)) (fun _ h => h)
   dsimp only
   rw [← I9, List.append_assoc, List.cons_append, ← List.replicate_succ']
  ·
   have hlt : z = A26 m.length := by simp at hc; omega
   subst hlt
   refine E6 (te (re (be rfl (nx (E1 3 4 5) (A5 (A3 (mv_ ?_)))))))
   refine A0 (E7 3 4 5 46) (C0 ?_)
   refine F2 (α := Nat × Value × Mem) (fun x => [(3, .pointer (some ⟨b3, 0, none⟩)), (4, .int .i64 (m.length : Int)), (5, x.2.1), (46, .int .i64 (x.1 : Int))]) (fun x => x.2.2 ++ [(b3, blk (nums .u32 (A3W A1B (m.length / 64) A2p m).list) 222)]) (fun _ => []) (fun x => x.1 ≤ 8 ∧ Sl 1 x.2.1 (m.length % 64 + 1 + A26 m.length + x.1) (nums .u8 (m.drop (64 * (m.length / 64)) ++ (128 :: (List.replicate (A26 m.length) 0 ++ B2u m.length x.1)))) x.2.2) (fun x => 8 - x.1) (0, rv, B) ⟨Nat.zero_le _, A0i hsl rfl (by simp [B2u])⟩ (E7 3 4 5 46) .rfl (fun _ h => h) ?_
   clear hsl
   rintro ⟨i, rv, B⟩ ⟨hi, hsl⟩
   dsimp only at hi hsl ⊢
   refine A3 ?_
   refine A4 (F1 rfl rfl rfl) rfl ?_
   refine A0 (F7 3 4 5 46 47) (A5 ?_)
   refine C8 rfl (fun hc => ?_) (fun hc => ?_)
   ·
    have hlt : i < 8 := by simp at hc; omega
    refine A9 (nx (E7 3 4 5 46) (A5 (C0 (A3 (mv_ (as_ (A0 (F7 3 4 5 8 46) (C3 ?_))))))))
    refine mv_ (mv_ ?_)
    refine A4 (E4 ((8 * m.length : Nat) : Int) rfl rfl (A4F (by omega) (by omega) (by omega))) rfl ?_
    refine A4 (A2o (k' := .u64) rfl kR (by show _ < 9223372036854775808; omega)) rfl ?_
    refine mv_ ?_
    refine A4 (E4 ((8 * i : Nat) : Int) rfl rfl (A4F (by omega) (by omega) (by omega))) rfl ?_
    refine A4 (E4 ((56 - 8 * i : Nat) : Int) rfl rfl (Y8 (by omega) (by omega) (by omega))) rfl ?_
    refine A4 (A0C (56 - 8 * i) rfl rfl rfl (by show _ ≤ 64; omega)) rfl ?_
    refine A4 (A25 rfl kR) rfl ?_
    refine A6 rfl (C6 (e := 5) (sz := 1) (z := [.int .u8 0]) kR (eS rfl e0) (bdS 0 1 rfl (by rfl) bd0) rfl fun b58 => ?_)
    refine A6 rfl (T3 (e := 5) (sz := 1) (by_ := 1) (m := 1) (B := B) (ys := nums .u8 [(8 * m.length) >>> (56 - 8 * i) % 256]) (M0 := (b58, _) :: _) rfl rfl kR rfl hsl (Rd.whole (n := 1) m0 (by rfl)) E8 pkB (by unfold maxLen; omega) (by omega) rfl fun rv1 B1 hsl1 => ?_)
    refine as_ (D0 (nb (nx (E7 3 4 5 46) (C3 ?_))))
    refine A4 (E4 ((i + 1 : Nat) : Int) rfl rfl (G3 (by omega) (by omega) (by omega))) rfl ?_
    refine mv_ (D0 ?_)
    refine rn (i + 1, rv1, B1) ⟨by dsimp only; omega, A0i hsl1 (by dsimp only; omega) ?_⟩ (by dsimp only; omega) (E7 3 4 5 46) (Fit.head1' (List.Sublist.refl _)) (fun _ h => h)
    dsimp only
    rw [← I9, List.append_assoc, List.cons_append, List.append_assoc, ← A9V]
   ·
    have hlt : i = 8 := by simp at hc; omega
    subst hlt
    refine E6 (te (re (be rfl (nx (D5 3 5) (A5 (C0 ?_))))))
    obtain ⟨hp1, hp2, hp3⟩ := A8Z m
    have hsl0 := A0i (n' := (L6 m).length - 64 * (m.length / 64)) (xs' := nums .u8 ((L6 m).drop (64 * (m.length / 64)))) hsl (by simp [L6, B2u]; omega) (by rw [A62 _ _ (by omega)])
    clear hsl
    refine F2 (α := Nat × Value × Mem) (fun x => [(3, .pointer (some ⟨b3, 0, none⟩)), (5, x.2.1)]) (fun x => x.2.2 ++ [(b3, blk (nums .u32 (A3W A1B x.1 A2p (L6 m)).list) 222)]) (fun _ => []) (fun x => 64 * x.1 ≤ (L6 m).length ∧ Sl 1 x.2.1 ((L6 m).length - 64 * x.1) (nums .u8 ((L6 m).drop (64 * x.1))) x.2.2) (fun x => (L6 m).length - 64 * x.1) (m.length / 64, rv, B) ⟨hp2, hsl0⟩ (D5 3 5) (Fit.eq (by dsimp only; unfold L6; rw [A4K _ _ _ _ _ (by omega)])) (fun _ h => h) ?_
    clear hsl0
    rintro ⟨k, rv, B⟩ ⟨hk1, hsl⟩
    dsimp only at hk1 hsl ⊢
    refine A5 (A3 (mv_ ?_))
    refine A4 (A0E (hsl.rd fun _ h => h) rfl kR) rfl ?_
    refine A4 (F1 rfl rfl rfl) rfl ?_
    refine A0 (E1 3 5 63) ?_
    refine C8 rfl (fun hc => ?_) (fun hc => ?_)
    ·
     have hge : 64 ≤ (L6 m).length - 64 * k := by simp at hc; omega
     obtain ⟨B2, hB2, hsl2⟩ := hsl.loV 64 hge
     refine A9 (nx (D5 3 5) (A5 (C0 ?_)))
     refine A1D (_) [0, 1, 2] [(0, 1), (1, 0), (2, 0), (3, 2), (4, 2)] kR kR (fun _ h => h) fun hs => ?_
     refine A3U hs rfl (H7 (n := 8) rfl kR At.mem (by rfl)) rfl ?_
     refine L7 hs rfl qm_ rfl ?_
     refine L7 hs rfl (B5R (hsl.rd fun _ h => h) rfl rfl kR 64 rfl hge) rfl ?_
     refine A1E rfl rfl rfl (V4 (aS rfl (aS rfl a0)) kR (A37 _ (A4J _ _ _ A4I) _ (fun x hx => (A9T hm256) x (List.mem_of_mem_drop (List.mem_of_mem_take hx))) _ _ (A1c ((hsl.rd fun _ h => by simp [h]).hiV 64 hge) rfl (A5R 64)) (mA h1)) rfl ?_)
     refine A1E rfl rfl rfl (A8 rfl rfl rfl kR (A9U _ _) E8 UpC.upd ?_)
     refine A5J ?_
     refine nb (nx (D5 3 5) (C3 (mv_ ?_)))
     refine A4 (B5S (hsl.rd fun _ h => h) rfl rfl kR 64 rfl hge) rfl ?_
     refine as_ (D0 ?_)
     refine rn (k + 1, _, B2) ⟨by dsimp only; omega, A0i hsl2 (by dsimp only; omega) (by rw [A5S, List.drop_drop]; rfl)⟩ (by dsimp only; omega) (D5 3 5) ?_ (fun _ h => h)
     dsimp only
     rw [A27]
     exact Fit.sub (List.Sublist.append hB2 (List.Sublist.refl _))
    ·
     have hge : k = (L6 m).length / 64 := by simp at hc; omega
     subst hge
     refine E6 (te (re (be rfl (nx (D8 3) (A3 (as_ (A0 (D5 3 9) ?_)))))))
     refine A5 (A3 ?_)
     have hro := A4J A1B ((L6 m).length / 64) (L6 m) A4I
     generalize hr : A3W A1B ((L6 m).length / 64) A2p (L6 m) = r at *
     refine A9J (n := 8) rfl kR (by rfl) rfl ?_
     refine mv_ (A0 (E1 9 70 71) (C0 ?_))
     refine F2 (α := Nat × Value × Mem) (fun x => [(9, x.2.1), (70, .agg (nums .u32 r.list).toArray), (71, .int .i64 (x.1 : Int))]) (fun x => x.2.2) (fun _ => []) (fun x => x.1 ≤ 8 ∧ Sl 1 x.2.1 (4 * x.1) (nums .u8 ((r.list.take x.1).flatMap B5L)) x.2.2) (fun x => 8 - x.1) (0, .slice none 0 0, []) ⟨Nat.zero_le _, Sl.nil⟩ (E1 9 70 71) (Fit.sub (List.nil_sublist _)) (fun _ h => h) ?_
     clear hsl
     rintro ⟨i, rv, B⟩ ⟨hi, hsl⟩
     dsimp only at hi hsl ⊢
     refine A3 ?_
     refine A4 (F1 rfl rfl rfl) rfl ?_
     refine A0 (E7 9 70 71 72) (A5 ?_)
     refine C8 rfl (fun hc => ?_) (fun hc => ?_)
     ·
      have hlt : i < 8 := by simp at hc; omega
      have hx32 : r.list.getD i 0 < 4294967296 := getD_lt hro (by decide)
      refine A9 (nx (E1 9 70 71) (A5 (C0 (A3 ?_))))
      refine A4 (B5T (e := 30) (m := 8) (j := i) rfl rfl kR kR kR rfl hlt (Z4 (show i < 8 from hlt))) rfl ?_
      refine as_ (A0 (E7 9 11 70 71) (C3 (mv_ (mv_ ?_))))
      refine A4 (A0C 24 rfl rfl rfl (by decide)) rfl ?_
      refine A4 (A25 rfl kR) rfl ?_
      refine mv_ ?_
      refine A4 (A0C 16 rfl rfl rfl (by decide)) rfl ?_
      refine A4 (A25 rfl kR) rfl ?_
      refine mv_ ?_
      refine A4 (A0C 8 rfl rfl rfl (by decide)) rfl ?_
      refine A4 (A25 rfl kR) rfl ?_
      refine mv_ ?_
      refine A4 (A25 rfl kR) rfl ?_
      refine A6 rfl (C6 (e := 5) (sz := 1) (z := [zu8, zu8, zu8, zu8]) kR (eS rfl (eS rfl (eS rfl (eS rfl e0)))) (bdS 0 1 rfl (by rfl) (bdS 1 1 rfl (by rfl) (bdS 2 1 rfl (by rfl) (bdS 3 1 rfl (by rfl) bd0)))) rfl fun b86 => ?_)
      refine A6 rfl (T3 (e := 5) (sz := 1) (by_ := 1) (m := 4) (B := B) (ys := nums .u8 (B5L (r.list.getD i 0))) (M0 := (b86, _) :: _) rfl rfl kR rfl hsl (Rd.whole (n := 4) m0 (by rfl)) E8 pkB0 (by unfold maxLen; omega) (by omega) rfl fun rv1 B1 hsl1 => ?_)
      refine as_ (D0 (nb (nx (E1 9 70 71) (C3 ?_))))
      refine A4 (E4 ((i + 1 : Nat) : Int) rfl rfl (G3 (by omega) (by omega) (by omega))) rfl ?_
      refine mv_ (D0 ?_)
      refine rn (i + 1, rv1, B1) ⟨by dsimp only; omega, A0i hsl1 (by dsimp only; omega) ?_⟩ (by dsimp only; omega) (E1 9 70 71) (Fit.sub (List.sublist_append_left _ _)) (fun _ h => h)
      dsimp only
      rw [← I9, List.take_add_one, List.flatMap_append, List.getElem?_eq_getElem (show i < r.list.length from hlt), List.getD, List.getElem?_eq_getElem (show i < r.list.length from hlt)]
      simp
     ·
      have hlt : i = 8 := by simp at hc; omega
      subst hlt
      refine E6 (te (re (be rfl (nx (D8 9) (A3 (mv_ (as_ (A0 (D8 2) ?_))))))))
      refine C2 ?_
      refine ⟨_, B, [], I4 rfl rfl, List.Sublist.refl _, by simp, rfl, A0i hsl rfl ?_⟩
      unfold Z5; rw [hr]; rfl

def Pv (R : Mem) (vs : List Value) (ps : List (List Nat)) : Prop := vs.length = ps.length ∧ ∀ (i : Nat) (p : List Nat), ps[i]? = some p → (∀ x ∈ p, x < 256) ∧ ∃ u, vs[i]? = some u ∧ Rd R 1 u p.length (nums .u8 p)
theorem Pv.nil {R : Mem} : Pv R [] [] := ⟨rfl, fun i p h => by simp at h⟩
theorem Pv.cons {R : Mem} {vs : List Value} {ps : List (List Nat)} {u : Value} {p : List Nat} (hp : ∀ x ∈ p, x < 256) (hu : Rd R 1 u p.length (nums .u8 p)) (h : Pv R vs ps) : Pv R (u :: vs) (p :: ps) := by
  refine ⟨by simp [h.1], fun i q hq => ?_⟩
  cases i with
  | zero => cases hq; exact ⟨hp, u, rfl, hu⟩
  | succ i => exact h.2 i q (by simpa using hq)
theorem Pv.mono {R R' : Mem} {vs : List Value} {ps : List (List Nat)} (h : Pv R vs ps) (hR : ∀ x, x ∈ R → x ∈ R') : Pv R' vs ps := by
  refine ⟨h.1, fun i p hp => ?_⟩
  obtain ⟨h3, u, h4, h5⟩ := h.2 i p hp
  exact ⟨h3, u, h4, h5.mono hR⟩
theorem Pv.one {R : Mem} {vs : List Value} {ps : List (List Nat)} (h : Pv R vs ps) : ∀ c ∈ vs, c.oneCell' = true := by
  intro c hc
  obtain ⟨i, hi⟩ := List.getElem?_of_mem hc
  have hlt := (List.getElem?_eq_some_iff.1 hi).1
  obtain ⟨_, u, hu, p, c', rfl, _⟩ := h.2 i _ (List.getElem?_eq_getElem (h.1 ▸ hlt))
  rw [hi] at hu; cases hu; rfl
theorem Pv.lt {R : Mem} {vs : List Value} {ps : List (List Nat)} (h : Pv R vs ps) : ∀ x ∈ ps.flatten, x < 256 := by
  rw [← A2H]
  exact A61 (fun i p hp => (h.2 i p hp).1) _
theorem A60.of {R : Mem} {v : Value} {n : Nat} {vs : List Value} {ps : List (List Nat)} (h : Rd R 1 v n vs) (hn : n = ps.length) (hp : Pv R vs ps) : A60 R v ps := ⟨vs, hn ▸ h, hp.2⟩
theorem A60.pv {R : Mem} {v : Value} {ps : List (List Nat)} (h : A60 R v ps) : ∃ vs, Rd R 1 v ps.length vs ∧ Pv R vs ps := by
  obtain ⟨vs, h1, h2⟩ := h
  exact ⟨vs, h1, by have := h1.len; omega, h2⟩
theorem A3c (p : List Nat) : (Z5 p).length = 32 := by simp [Z5, S8.bytes, S8.list, B5L]
theorem A7T (p : List Nat) : ∀ x ∈ Z5 p, x < 256 := by
  intro x hx
  obtain ⟨y, _, hy⟩ := List.mem_flatMap.1 hx
  simp only [B5L, List.mem_cons, List.not_mem_nil, or_false] at hy
  rcases hy with rfl | rfl | rfl | rfl <;> exact Nat.mod_lt _ (by decide)
def A1l (ks : List Nat) (x i : Nat) : List Nat := (ks.take i).map (· ^^^ x) ++ ks.drop i
theorem A1H (ks : List Nat) (x i : Nat) : (A1l ks x i).length = ks.length := by simp [A1l]; omega
theorem A1I {ks : List Nat} {x i : Nat} (h : i < ks.length) : (A1l ks x i).getD i 0 = ks.getD i 0 := by
  unfold A1l
  have hl : ((ks.take i).map (· ^^^ x)).length = i := by simp; omega
  simp only [List.getD]
  rw [List.getElem?_append_right (by omega), hl, Nat.sub_self, List.getElem?_drop, Nat.add_zero]
theorem A39 {ks : List Nat} {x i : Nat} (h : i < ks.length) : (A1l ks x i).set i (ks.getD i 0 ^^^ x) = A1l ks x (i + 1) := by
  unfold A1l
  have hl : ((ks.take i).map (· ^^^ x)).length = i := by simp; omega
  rw [List.set_append_right _ _ (by omega), hl, Nat.sub_self, List.drop_eq_getElem_cons h, List.set_cons_zero, List.take_add_one, List.getD, List.getElem?_eq_getElem h]
  simp only [Option.getD_some, Option.toList_some, List.map_append, List.map_cons, List.map_nil, List.append_assoc, List.cons_append, List.nil_append]
theorem A5T {ks : List Nat} {x i : Nat} (h : ks.length = i) : A1l ks x i = ks.map (· ^^^ x) := by
  unfold A1l; rw [← h]; simp
theorem A80 {key : List Nat} (h : key.length ≤ 64) (x : Nat) : (A2q key x).length = 64 := by simp [A2q]; omega
theorem A9W {key : List Nat} (h : ∀ x ∈ key, x < 256) {y : Nat} (hy : y < 256) : ∀ x ∈ A2q key y, x < 256 := by
  intro x hx
  obtain ⟨z, hz, rfl⟩ := List.mem_map.1 hx
  refine Nat.xor_lt_two_pow (n := 8) ?_ hy
  rcases List.mem_append.1 hz with hz | hz
  · exact h z hz
  · rw [(List.mem_replicate.1 hz).2]; decide
theorem A81 (key : List Nat) : (A0D key).length ≤ 64 := by
  unfold A0D; split
  · rw [A3c]; decide
  · omega
theorem A9X {key : List Nat} (h : ∀ x ∈ key, x < 256) : ∀ x ∈ A0D key, x < 256 := by
  unfold A0D; split
  · exact A7T _
  · exact h
theorem A7U (kv pv : Value) (key : List Nat) (ps : List (List Nat)) (A : Mem) (hkey : Rd A 1 kv key.length (nums .u8 key)) (hk256 : ∀ x ∈ key, x < 256) (hk31 : key.length ≤ 1073741824) (hp : A60 A pv ps) (htot : ps.flatten.length ≤ 1073741824) (hcnt : ps.length ≤ 1073741824) {ef ek : TypeId} {ff fk : Nat × Nat} (h0 : (0, Obj.cells (nums .u32 A2p.list).toArray ef ff) ∈ A) (h1 : (1, Obj.cells (nums .u32 A1B).toArray ek fk) ∈ A) :
  FnX Tryz.prog 102 [kv, pv] [] A fun r M J => J = [] ∧ Sl 1 r 32 (nums .u8 (A6K key ps.flatten)) M := by
 obtain ⟨vs, hvs, hpv⟩ := hp.pv
 haveI := hkey.cel
 refine FnX.enter (N := 42) Tryz.func102 rfl rfl rfl fun w => ?_
 refine C4 (D5 0 1) (A3 (as_ (A0 (D5 0 1) ?_)))
 refine A0q (α := Value × Mem) (fun x => [(0, x.1), (1, pv)]) (fun x => x.2) (fun _ => []) (fun x => Rd (x.2 ++ A) 1 x.1 (A0D key).length (nums .u8 (A0D key))) ?_ ?_
 ·
  refine A3 (mv_ ?_)
  refine A4 (A0E hkey rfl kR) rfl ?_
  refine A4 (F1 rfl rfl rfl) rfl ?_
  refine A0 (E1 0 1 10) ?_
  refine C8 rfl (fun hc => ?_) (fun hc => ?_)
  ·
   have hgt : 64 < key.length := by simp at hc; omega
   refine C3 (mv_ ?_)
   refine A6 rfl (C6 (e := 27) (sz := 1) (z := [.slice none 0 0]) kR (eS rfl e0) (bdS 0 1 rfl (by rfl) bd0) rfl fun b12 => ?_)
   refine A6 rfl (E0 (Mc := []) (R := [_]) (aS rfl a0) kR (.refl _) (A1G _ [key] _ (A60.of (Rd.whole (n := 1) m0 (by rfl)) rfl (.cons hk256 (hkey.mono fun _ h => mA h) .nil)) (by simp; omega) (by simp) (mA h0) (mA h1)) rfl ?_)
   rintro r M1 J1 ⟨rfl, hr⟩
   refine as_ (D0 ?_)
   refine jn (r, _) ?_ (D5 0 1) .rfl (fun _ h => h)
   dsimp only
   rw [A0D, if_pos hgt, A3c]
   exact A1c (hr.rd fun _ h => by simp [h]) rfl (by simp)
  ·
   have hgt : ¬ 64 < key.length := by simp at hc; omega
   refine A9 ?_
   refine jn (kv, []) ?_ (D5 0 1) .rfl (fun _ h => h)
   dsimp only
   rw [A0D, if_neg hgt]
   exact hkey
 ·
  rintro ⟨kv1, Mk⟩ hkv
  dsimp only at hkv ⊢
  have hK64 := A81 key
  have hKb := A9X hk256
  have hkl := A80 hK64
  have hklt := fun y hy => A9W (y := y) hKb hy
  unfold A6K
  unfold A2q at *
  generalize A0D key = K at *
  have hK1 : (K ++ List.replicate (64 - K.length) 0).length = 64 := by simp; omega
  have hK2 : ∀ x ∈ K ++ List.replicate (64 - K.length) 0, x < 256 := fun x hx => by
   rcases List.mem_append.1 hx with h | h
   · exact hKb x h
   · rw [(List.mem_replicate.1 h).2]; decide
  refine A3 ?_
  refine A6 rfl (C5 (cs := nums .u8 (List.replicate 64 0)) kR rfl fun b5 => ?_)
  refine A6 rfl (C5 (cs := nums .u8 (List.replicate 64 0)) kR rfl fun b6 => ?_)
  refine A0 (E7 0 1 5 6) (A3 ?_)
  refine A4 (B2x (e := 5) (sz := 1) (m := 64) rfl kR kR) rfl ?_
  refine mv_ ?_
  refine A6 rfl (B4B (e := 5) (by_ := 1) (n := K.length) (m := 64) (ws := List.replicate 64 0) (us := K) (ws' := K ++ List.replicate (64 - K.length) 0) rfl rfl kR (hkv.mono fun q hq => by rcases List.mem_append.1 hq with h | h <;> simp [h]) hK64 (by simp) (by rw [List.drop_replicate]) UpC.upd rfl ?_)
  refine A0 (E7 0 1 5 6) (A3 ?_)
  refine A4 (B2x (e := 5) (sz := 1) (m := 64) rfl kR kR) rfl ?_
  refine mv_ ?_
  refine A6 rfl (B4B (e := 5) (by_ := 1) (n := K.length) (m := 64) (ws := List.replicate 64 0) (us := K) (ws' := K ++ List.replicate (64 - K.length) 0) rfl rfl kR (hkv.mono fun q hq => by rcases List.mem_append.1 hq with h | h <;> simp [h]) hK64 (by simp) (by rw [List.drop_replicate]) UpC.upd rfl ?_)
  refine A0 (E1 1 5 6) (A5 (A3 (mv_ (A0 (E7 1 5 6 20) (C0 ?_)))))
  generalize hKK : K ++ List.replicate (64 - K.length) 0 = KK at *
  refine F2 (α := Nat) (fun i => [(1, pv), (5, .pointer (some ⟨b5, 0, none⟩)), (6, .pointer (some ⟨b6, 0, none⟩)), (20, .int .i64 (i : Int))]) (fun i => [(b6, blk (nums .u8 (A1l KK 92 i)) 215), (b5, blk (nums .u8 (A1l KK 54 i)) 215)]) (fun _ => []) (fun i => i ≤ 64) (fun i => 64 - i) 0 (Nat.zero_le _) (E7 1 5 6 20) (Fit.sub (.cons_cons _ (.cons_cons _ (List.nil_sublist _)))) (fun _ h => h) ?_
  intro i hi
  refine A3 ?_
  refine A4 (F1 rfl rfl rfl) rfl ?_
  refine A0 (F7 1 5 6 20 21) (A5 ?_)
  refine C8 rfl (fun hc => ?_) (fun hc => ?_)
  ·
   have hlt : i < 64 := by simp at hc; omega
   have hx8 : KK.getD i 0 < 256 := getD_lt hK2 (by decide)
   refine A9 (nx (E7 1 5 6 20) (A5 (C0 (A3 (mv_ (as_ (A0 (F7 1 5 6 7 20) (A3 ?_))))))))
   refine mv_ ?_
   refine A4 (E5 (i := i) (e := 5) (n := 64) (sz := 1) rfl rfl kR kR rfl (by omega)) rfl ?_
   refine A4 (Q0 (ws := A1l KK 54 i) i rfl kR At.mem (by omega) (by rw [A1H]; omega)) rfl ?_
   refine A4 (B4A (b := 54) rfl rfl (by rw [A1I (by omega)]; exact hx8) (by decide)) rfl ?_
   refine A4 (E5 (i := i) (e := 5) (n := 64) (sz := 1) rfl rfl kR kR rfl (by omega)) rfl ?_
   refine A6 rfl (S0 (ws := A1l KK 54 i) i rfl rfl kR (by omega) (by rw [A1H]; omega) UpC.upd ?_)
   refine A0 (F7 1 5 6 7 20) (C3 (mv_ ?_))
   refine A4 (E5 (i := i) (e := 5) (n := 64) (sz := 1) rfl rfl kR kR rfl (by omega)) rfl ?_
   refine A4 (Q0 (ws := A1l KK 92 i) i rfl kR At.mem (by omega) (by rw [A1H]; omega)) rfl ?_
   refine A4 (B4A (b := 92) rfl rfl (by rw [A1I (by omega)]; exact hx8) (by decide)) rfl ?_
   refine A4 (E5 (i := i) (e := 5) (n := 64) (sz := 1) rfl rfl kR kR rfl (by omega)) rfl ?_
   refine A6 rfl (S0 (ws := A1l KK 92 i) i rfl rfl kR (by omega) (by rw [A1H]; omega) UpC.upd ?_)
   refine D0 (nb (nx (E7 1 5 6 20) (C3 ?_)))
   refine A4 (E4 ((i + 1 : Nat) : Int) rfl rfl (G3 (by omega) (by omega) (by omega))) rfl ?_
   refine mv_ (D0 ?_)
   refine rn (i + 1) (by omega) (by omega) (E7 1 5 6 20) (Fit.eq ?_) (fun _ h => h)
   rw [A1I (by omega), A1I (by omega), A39 (by omega), A39 (by omega)]
  ·
   have hlt : i = 64 := by simp at hc; omega
   subst hlt
   rw [A5T hK1, A5T hK1]
   refine E6 (te (re (be rfl (nx (E1 1 5 6) ?_))))
   refine A17 ([]) [] [(0, 0), (1, 0), (3, 0), (2, 2), (4, 2), (5, 2), (6, 2), (7, 2), (8, 0)] kR kR (by simp) fun hs => ?_
   refine L7 hs rfl (B2x (e := 5) (sz := 1) (m := 64) rfl kR kR) rfl ?_
   refine L7 hs rfl (B2x (e := 5) (sz := 1) (m := 64) rfl kR kR) rfl ?_
   refine L7 hs rfl qm_ rfl ?_
   refine A1E rfl rfl rfl (C6 (e := 27) (sz := 1) (z := [.slice none 0 0]) kR (eS rfl e0) (bdS 0 1 rfl (by rfl) bd0) rfl fun b36 => ?_)
   refine A1E rfl rfl rfl (T3 (e := 27) (sz := 1) (by_ := 24) (n := 1) (m := ps.length) (B := [(b36, _)]) rfl rfl kR rfl (Sl.fresh rfl (by decide)) (hvs.mono fun _ h => mA h) hpv.one (.refl _) (by unfold maxLen; omega) (by omega) rfl fun v38 B38 hsl38 => ?_)
   refine A1E rfl rfl rfl (E0 (Mc := []) (R := B38 ++ [_, _]) (aS rfl a0) kR (.refl _) (A1G v38 (KK.map (· ^^^ 54) :: ps) _ (A60.of (hsl38.rd fun _ h => by simp [h]) (by rw [List.length_cons]; omega) (.cons (hklt 54 (by decide)) (A1c (Rd.whole (n := 64) (cs := nums .u8 (KK.map (· ^^^ 54))) At.mem (by simp [hK1])) (hkl 54).symm rfl) (hpv.mono fun _ h => mA h))) (by rw [List.flatten_cons, List.length_append, List.length_map, hK1]; omega) (by rw [List.length_cons]; omega) (mA h0) (mA h1)) rfl ?_)
   rintro r39 M39 J39 ⟨rfl, hr39⟩
   haveI := hr39.cel
   refine A1E rfl rfl rfl (C6 (e := 27) (sz := 1) (z := [.slice none 0 0, .slice none 0 0]) kR (eS rfl (eS rfl e0)) (bdS 0 1 rfl (by rfl) (bdS 1 1 rfl (by rfl) bd0)) rfl fun b40 => ?_)
   refine A1E rfl rfl rfl (E0 (Mc := []) (R := _ :: (M39 ++ (B38 ++ [_, _]))) (aS rfl a0) kR (.refl _) (A1G _ [KK.map (· ^^^ 92), Z5 (KK.map (· ^^^ 54) ++ ps.flatten)] _ (A60.of (Rd.whole (n := 2) m0 (by rfl)) rfl (.cons (hklt 92 (by decide)) (A1c (Rd.whole (n := 64) (cs := nums .u8 (KK.map (· ^^^ 92))) At.mem (by simp [hK1])) (hkl 92).symm rfl) (.cons (A7T _) (A1c (hr39.rd fun _ h => by simp [h]) (A3c _).symm (by simp)) .nil))) (by simp [hK1, A3c]) (by simp) (mA h0) (mA h1)) rfl ?_)
   rintro r41 M41 J41 ⟨rfl, hr41⟩
   refine L7 hs rfl (H8 rfl) rfl ?_
   refine A34 (D8 4) ?_
   refine C2 ?_
   refine ⟨_, _, [], I4 rfl rfl, List.sublist_append_left _ _, by simp, rfl, A0i hr41 rfl ?_⟩
   simp
theorem A2r (kv pv : Value) (key p : List Nat) (A : Mem) (hkey : Rd A 1 kv key.length (nums .u8 key)) (hk256 : ∀ x ∈ key, x < 256) (hk31 : key.length ≤ 1073741824) (hp : Rd A 1 pv p.length (nums .u8 p)) (hp256 : ∀ x ∈ p, x < 256) (htot : p.length ≤ 1073741824) {ef ek : TypeId} {ff fk : Nat × Nat} (h0 : (0, Obj.cells (nums .u32 A2p.list).toArray ef ff) ∈ A) (h1 : (1, Obj.cells (nums .u32 A1B).toArray ek fk) ∈ A) :
  FnX Tryz.prog 58 [kv, pv] [] A fun r M J => J = [] ∧ Sl 1 r 32 (nums .u8 (A6K key p)) M := by
 haveI := hp.cel
 refine FnX.enter (N := 9) Tryz.func58 rfl rfl rfl fun w => ?_
 refine C4 (D5 0 1) (A3 (as_ (A0 (D5 0 1) (A3 (mv_ (mv_ ?_))))))
 refine A6 rfl (C6 (e := 27) (sz := 1) (z := [.slice none 0 0]) kR (eS rfl e0) (bdS 0 1 rfl (by rfl) bd0) rfl fun b7 => ?_)
 refine A6 rfl (E0 (Mc := []) (R := [_]) (aS rfl (aS rfl a0)) kR (.refl _) (A7U _ _ key [p] _ (hkey.mono fun _ h => mA h) hk256 hk31 (A60.of (Rd.whole (n := 1) m0 (by rfl)) rfl (.cons hp256 (hp.mono fun _ h => mA h) .nil)) (by simpa using htot) (by simp) (mA h0) (mA h1)) rfl ?_)
 rintro r M1 J1 ⟨rfl, hr⟩
 refine as_ (A0 (D8 4) (C2 ?_))
 refine ⟨_, _, [], I4 rfl rfl, List.sublist_append_left _ _, by simp, rfl, A0i hr rfl ?_⟩
 simp
theorem B90 {M0 M1 B1 D : Mem} (x : Nat × Obj) : (M1 ++ (B1 ++ (x :: (M0 ++ D)))).Perm (M0 ++ (M1 ++ (B1 ++ (x :: D)))) := by
  have h : (M1 ++ (B1 ++ (x :: (M0 ++ D)))) = (M1 ++ B1 ++ [x]) ++ (M0 ++ D) := by simp
  have h2 : (M0 ++ (M1 ++ (B1 ++ (x :: D)))) = M0 ++ ((M1 ++ B1 ++ [x]) ++ D) := by simp
  rw [h, h2, ← List.append_assoc, ← List.append_assoc M0]
  exact List.Perm.append_right _ List.perm_append_comm
def B2z (p : List Nat) : List Nat := Z5 (0 :: p) ++ Z5 (1 :: p)
theorem A3d (pv : Value) (ps : List (List Nat)) (A : Mem) (hp : A60 A pv ps) (htot : ps.flatten.length ≤ 1073741824) (hcnt : ps.length ≤ 1073741824) {ef ek : TypeId} {ff fk : Nat × Nat} (h0 : (0, Obj.cells (nums .u32 A2p.list).toArray ef ff) ∈ A) (h1 : (1, Obj.cells (nums .u32 A1B).toArray ek fk) ∈ A) :
  FnX Tryz.prog 153 [pv] [] A fun r M J => J = [] ∧ Sl 1 r 64 (nums .u8 (B2z ps.flatten)) M := by
 obtain ⟨vs, hvs, hpv⟩ := hp.pv
 refine FnX.enter (N := 16) Tryz.func153 rfl rfl rfl fun w => ?_
 refine C4 (D8 0) (A3 (as_ (A0 (D8 0) (A3 ?_))))
 refine A6 rfl (C6 (e := 5) (sz := 1) (z := [.int .u8 0]) kR (eS rfl e0) (bdS 0 1 rfl (by rfl) bd0) rfl fun b4 => ?_)
 refine A6 rfl (C6 (e := 27) (sz := 1) (z := [.slice none 0 0]) kR (eS rfl e0) (bdS 0 1 rfl (by rfl) bd0) rfl fun b5 => ?_)
 refine mv_ ?_
 refine A6 rfl (T3 (e := 27) (sz := 1) (by_ := 24) (n := 1) (m := ps.length) (B := [(b5, _)]) (M0 := _ :: []) rfl rfl kR rfl (Sl.fresh rfl (by decide)) (hvs.mono fun _ h => mA h) hpv.one (.refl _) (by unfold maxLen; omega) (by omega) rfl fun v0 B0 hsl0 => ?_)
 refine A6 rfl (E0 (Mc := []) (R := B0 ++ (_ :: [])) (aS rfl a0) kR (.refl _) (A1G v0 ([0] :: ps) _ (A60.of (hsl0.rd fun _ h => by simp [h]) (by rw [List.length_cons]; omega) (.cons (by simp) (Rd.whole (n := 1) (b := b4) (cs := nums .u8 [0]) At.mem (by rfl)) (hpv.mono fun _ h => mA h))) (by rw [List.flatten_cons, List.length_append, List.length_singleton]; omega) (by rw [List.length_cons]; omega) (mA h0) (mA h1)) rfl ?_)
 rintro r0 M0 J0 ⟨rfl, hr0⟩
 refine as_ (A0 (D5 0 3) (A3 (mv_ ?_)))
 refine A6 rfl (C6 (e := 5) (sz := 1) (z := [.int .u8 0]) kR (eS rfl e0) (bdS 0 1 rfl (by rfl) bd0) rfl fun b10 => ?_)
 refine A6 rfl (C6 (e := 27) (sz := 1) (z := [.slice none 0 0]) kR (eS rfl e0) (bdS 0 1 rfl (by rfl) bd0) rfl fun b11 => ?_)
 refine mv_ ?_
 refine A6 rfl (T3 (e := 27) (sz := 1) (by_ := 24) (n := 1) (m := ps.length) (B := [(b11, _)]) (M0 := _ :: (M0 ++ (B0 ++ [_]))) rfl rfl kR rfl (Sl.fresh rfl (by decide)) (hvs.mono fun _ h => mA h) hpv.one (.refl _) (by unfold maxLen; omega) (by omega) rfl fun v1 B1 hsl1 => ?_)
 refine A6 rfl (E0 (Mc := []) (R := B1 ++ (_ :: (M0 ++ (B0 ++ [_])))) (aS rfl a0) kR (.refl _) (A1G v1 ([1] :: ps) _ (A60.of (hsl1.rd fun _ h => by simp [h]) (by rw [List.length_cons]; omega) (.cons (by simp) (Rd.whole (n := 1) (b := b10) (cs := nums .u8 [1]) At.mem (by rfl)) (hpv.mono fun _ h => mA h))) (by rw [List.flatten_cons, List.length_append, List.length_singleton]; omega) (by rw [List.length_cons]; omega) (mA h0) (mA h1)) rfl ?_)
 rintro r1 M1 J1 ⟨rfl, hr1⟩
 refine A6 rfl (T3 (e := 5) (sz := 1) (by_ := 1) (n := 32) (m := 32) (B := M0) (M0 := M1 ++ (B1 ++ (_ :: (B0 ++ [_])))) rfl rfl kR rfl hr0 (hr1.rd fun _ h => by simp [h]) E8 (B90 _) (by unfold maxLen; omega) (by omega) rfl fun v9 B9 hsl9 => ?_)
 refine as_ (A0 (D8 2) (C2 ?_))
 refine ⟨_, _, [], I4 rfl rfl, List.sublist_append_left _ _, by simp, rfl, A0i hsl9 rfl ?_⟩
 rw [← I9]; rfl

end Go.Proofs.YthbhpfefdnffaaaGreatDoor
namespace Go.Px
def nv : List Nat → Nat
  | [] => 0
  | w :: r => w + 4294967296 * nv r
def w32 (ws : List Nat) : Prop := ∀ x ∈ ws, x < 4294967296
def xp (n : Nat) : Nat := 4294967296 ^ n
theorem xp0 : xp 0 = 1 := rfl
theorem xpS (n : Nat) : xp (n + 1) = xp n * 4294967296 := Nat.pow_succ _ _
theorem A1J (a b : List Nat) : nv (a ++ b) = nv a + xp a.length * nv b := by
  induction a with
  | nil => simp [nv, xp0]
  | cons x a ih => simp only [List.cons_append, nv, ih, List.length_cons, xpS]; grind
theorem A2I (ws : List Nat) (j : Nat) (h : j ≤ ws.length) : nv ws = nv (ws.take j) + xp j * nv (ws.drop j) := by
  conv => lhs; rw [← List.take_append_drop j ws, A1J, List.length_take, Nat.min_eq_left h]
theorem A0M {ws : List Nat} {j : Nat} (h : j < ws.length) : nv (ws.take (j + 1)) = nv (ws.take j) + xp j * ws.getD j 0 := by
  rw [List.take_add_one, List.getElem?_eq_getElem h, A1J, List.length_take, Nat.min_eq_left (by omega), List.getD, List.getElem?_eq_getElem h]
  simp [nv]
theorem B2A {ws : List Nat} (h : w32 ws) : nv ws < xp ws.length := by
  induction ws with
  | nil => simp [nv, xp0]
  | cons x ws ih =>
    have h1 := h x (by simp)
    have h2 := ih (fun y hy => h y (by simp [hy]))
    simp only [nv, List.length_cons, xpS]
    omega
theorem w32.take {ws : List Nat} (h : w32 ws) (n : Nat) : w32 (ws.take n) := fun x hx => h x (List.mem_of_mem_take hx)
theorem w32.drop {ws : List Nat} (h : w32 ws) (n : Nat) : w32 (ws.drop n) := fun x hx => h x (List.mem_of_mem_drop hx)
theorem w32.get {ws : List Nat} (h : w32 ws) (n : Nat) : ws.getD n 0 < 4294967296 := getD_lt h (by decide)
theorem w32.set {ws : List Nat} (h : w32 ws) {n x : Nat} (hx : x < 4294967296) : w32 (ws.set n x) := fun y hy => by
  rcases List.mem_or_eq_of_mem_set hy with h1 | rfl
  · exact h y h1
  · exact hx
theorem w32.app {a b : List Nat} (ha : w32 a) (hb : w32 b) : w32 (a ++ b) := fun x hx => (List.mem_append.1 hx).elim (ha x) (hb x)
def tl (ws : List Nat) : Nat → Nat
  | 0 => 0
  | n + 1 => if ws.getD n 0 = 0 then tl ws n else n + 1
def trim (ws : List Nat) : List Nat := ws.take (tl ws ws.length)
def nrm (ws : List Nat) : Prop := ∀ k, ws.length = k + 1 → ws.getD k 0 ≠ 0
theorem A7V {a b : List Nat} (ha : w32 a) {j : Nat} (hj : j < a.length) (hl : a.length = b.length) (hlt : a.getD j 0 < b.getD j 0) (he : a.drop (j + 1) = b.drop (j + 1)) : nv a < nv b := by
  have h1 := A2I a (j + 1) (by omega)
  have h2 := A2I b (j + 1) (by omega)
  rw [A0M hj, he] at h1
  rw [A0M (by omega)] at h2
  have h3 := B2A (ha.take j)
  rw [List.length_take, Nat.min_eq_left (by omega)] at h3
  have h4 : xp j * (a.getD j 0 + 1) ≤ xp j * b.getD j 0 := Nat.mul_le_mul_left _ hlt
  rw [Nat.mul_add, Nat.mul_one] at h4
  omega
end Go.Px

namespace Go.Px
def isPr (n : Nat) : Bool := decide (1 < n) && (List.range n).all fun i => decide (i < 2) || n % i != 0
def B2B (k p lo b : Nat) : Nat := if (lo + 2 ^ b) ^ k ≤ p * xp k then lo + 2 ^ b else lo
def B8b (k p : Nat) : Nat → Nat → Nat
  | 0, lo => lo
  | j + 1, lo => B8b k p j (B2B k p lo j)
def root (k p : Nat) : Nat := B8b k p 40 0 % 4294967296
def rl (k n : Nat) : List Nat := ((List.range n).filter isPr).map (root k)
def pw (P : List Nat) (i : Nat) : Nat → Nat
  | 0 => 0
  | j + 1 => pw P i j * 256 + P.getD (4 * i + j) 0
def wAt (P : List Nat) (i : Nat) : List Nat := wx (V5 P (min i 16)) (i - 16)
end Go.Px

namespace Go.Px
def exp (key info : List Nat) : Nat → List Nat × List Nat
  | 0 => ([], [])
  | i + 1 => ((exp key info i).1 ++ A6K key ((exp key info i).2 ++ (info ++ [(i + 1) % 256])), A6K key ((exp key info i).2 ++ (info ++ [(i + 1) % 256])))
theorem A0Z (p : List Nat) : (Z5 p).length = 32 := by simp [Z5, S8.bytes, S8.list, B5L]
theorem A4L (key info : List Nat) : ∀ i, (exp key info i).1.length = 32 * i
  | 0 => rfl
  | i + 1 => by rw [exp, List.length_append, A4L key info i, A6K, A0Z]; omega
def rds (n : Int) : Nat := min 255 ((n.toNat + 31) / 32)
def V7 (key info : List Nat) (n : Int) : List Nat := (exp key info (rds n)).1.take n.toNat
theorem A00 (key info : List Nat) (n : Int) : (V7 key info n).length = min n.toNat 8160 := by
  unfold V7; rw [List.length_take, A4L]; unfold rds; omega
end Go.Px

namespace Go.Proofs.YthbhpfefdnffaaaGreatDoor
open Go.Px
theorem B91 {M B D : Mem} (x y : Nat × Obj) : (M ++ (x :: y :: (B ++ D))).Perm (B ++ ((M ++ [x, y]) ++ D)) := by
  have h : M ++ (x :: y :: (B ++ D)) = (M ++ [x, y]) ++ (B ++ D) := by simp
  rw [h]
  exact List.perm_append_comm_assoc _ _ _
theorem A4M (key p : List Nat) : ∀ x ∈ A6K key p, x < 256 := A7T _
theorem A01 (key p : List Nat) : (A6K key p).length = 32 := A3c _
theorem B5V (key info : List Nat) : ∀ i, ∀ x ∈ (exp key info i).2, x < 256
  | 0 => by simp [exp]
  | i + 1 => A4M _ _
theorem B2C (key info : List Nat) (i : Nat) : (exp key info i).2.length ≤ 32 := by
  cases i with
  | zero => simp [exp]
  | succ i => rw [exp, A01]; decide
theorem A9Y (key info : List Nat) : ∀ i, ∀ x ∈ (exp key info i).1, x < 256
  | 0 => by simp [exp]
  | i + 1 => fun x hx => (List.mem_append.1 hx).elim (A9Y key info i x) (A4M _ _ x)
theorem A3e (kv iv : Value) (key info : List Nat) (n : Int) (A : Mem) (hkey : Rd A 1 kv key.length (nums .u8 key)) (hk256 : ∀ x ∈ key, x < 256) (hk31 : key.length ≤ 1073741824) (hinfo : Rd A 1 iv info.length (nums .u8 info)) (hi256 : ∀ x ∈ info, x < 256) (hi31 : info.length ≤ 536870912) (hn : n < 1000000) (hn0 : -1000000 < n) {ef ek : TypeId} {ff fk : Nat × Nat} (h0 : (0, Obj.cells (nums .u32 A2p.list).toArray ef ff) ∈ A) (h1 : (1, Obj.cells (nums .u32 A1B).toArray ek fk) ∈ A) :
  FnX Tryz.prog 57 [kv, iv, .int .i64 n] [] A fun r M J => J = [] ∧ Rd M 1 r (V7 key info n).length (nums .u8 (V7 key info n)) := by
 haveI := hinfo.cel
 refine FnX.enter (N := 40) Tryz.func57 rfl rfl rfl fun w => ?_
 refine C4 (E1 0 1 2) (A3 (as_ (A0 (E1 0 1 2) (A3 (as_ (as_ (A0 (F7 0 1 2 7 8) (A5 ?_))))))))
 refine A3 (as_ (A0 (I5 0 1 2 7 8 9) (C0 ?_)))
 refine F2 (α := Nat × Value × Value × Mem × Mem) (fun x => [(0, kv), (1, iv), (2, .int .i64 n), (7, x.2.1), (8, x.2.2.1), (9, .int .i64 ((x.1 + 1 : Nat) : Int))]) (fun x => x.2.2.2.1 ++ x.2.2.2.2) (fun _ => []) (fun x => x.1 ≤ rds n ∧ Sl 1 x.2.1 (32 * x.1) (nums .u8 (exp key info x.1).1) x.2.2.2.1 ∧ Sl 1 x.2.2.1 (exp key info x.1).2.length (nums .u8 (exp key info x.1).2) x.2.2.2.2) (fun x => rds n - x.1) (0, .slice none 0 0, .slice none 0 0, [], []) ⟨Nat.zero_le _, Sl.nil, Sl.nil⟩ (I5 0 1 2 7 8 9) .rfl (fun _ h => h) ?_
 rintro ⟨i, ov, lv, Bo, Bl⟩ ⟨hi, ho, hl⟩
 dsimp only at hi ho hl ⊢
 have hrd : rds n = min 255 ((n.toNat + 31) / 32) := rfl
 have hl32 := B2C key info i
 haveI := hl.cel
 refine A5 ?_
 by_cases h32 : (n : Int) ≤ ((32 * i : Nat) : Int)
 ·
  refine A3 (mv_ ?_)
  refine A4 (A0E (ho.rd fun _ h => h) rfl kR) rfl ?_
  refine mv_ ?_
  refine A4 (F9 false rfl rfl (ltF (by omega))) rfl ?_
  refine mv_ ?_
  refine L5 rfl rfl rfl rfl ?_
  refine L5 rfl rfl rfl rfl ?_
  refine A4 (E9 rfl rfl) rfl ?_
  refine A0 (X3 0 1 2 7 8 9 17) ?_
  refine D4 rfl ?_
  refine E6 (te (re (be rfl (nx (D5 2 7) (A3 (mv_ (mv_ ?_)))))))
  refine A4 (A0E (ho.rd fun _ h => h) rfl kR) rfl ?_
  refine A4 (A5L (if ((32 * i : Nat) : Int) < n then ((32 * i : Nat) : Int) else n) rfl rfl rfl) rfl ?_
  have hend : i = rds n := by omega
  subst hend
  refine A4 (B4x ((min n.toNat (32 * rds n) : Nat) : Int) rfl rfl (by split <;> split <;> omega)) rfl ?_
  have hkl : min n.toNat (32 * rds n) = (V7 key info n).length := by rw [A00]; omega
  obtain ⟨pp, cc, rfl, hpc⟩ := ho.val
  refine as_ (A0 (D5 2 7) (A3 (mv_ (mv_ (mv_ ?_)))))
  refine A4 (A21 (e := 5) (sz := 1) rfl kR kR o0 (o1 (min n.toNat (32 * rds n)) rfl rfl) (o1 (min n.toNat (32 * rds n)) rfl rfl) (by simp) (by simp; omega) (by simp) (by simp)) rfl ?_
  refine as_ (A0 (D8 6) (C2 ?_))
  refine ⟨_, Bo, [], I4 rfl rfl, List.sublist_append_left _ _, by simp, rfl, ?_⟩
  have := Rd.part (ho.rd fun _ h => h) 0 (min n.toNat (32 * rds n)) (min n.toNat (32 * rds n)) (Nat.zero_le _) (Nat.min_le_right _ _) (Nat.le_refl _)
  refine A1c this (by simpa using hkl) ?_
  rw [Nat.zero_mul, List.drop_zero, Nat.sub_zero, Nat.mul_one, ← A0L]
  have e : ((exp key info (rds n)).1).take (min n.toNat (32 * rds n)) = V7 key info n := by
   unfold V7
   rw [List.take_eq_take_iff, A4L]; omega
  rw [e]
 ·
  refine A3 (mv_ ?_)
  refine A4 (A0E (ho.rd fun _ h => h) rfl kR) rfl ?_
  refine mv_ ?_
  refine A4 (F9 true rfl rfl (ltT (by omega))) rfl ?_
  refine mv_ ?_
  refine F4 rfl rfl (OpQ.opL qm_ rfl ?_)
  refine F4 rfl rfl (OpQ.opL (F1 rfl rfl rfl) rfl ?_)
  refine A4 (H4 rfl rfl) rfl ?_
  refine A0 (X3 0 1 2 7 8 9 17) ?_
  refine C8 rfl (fun hc => ?_) (fun hc => ?_)
  ·
   have hlt : i < 255 := by simp at hc; omega
   refine A9 (nx (I5 0 1 2 7 8 9) (A5 (C0 (A3 (mv_ (mv_ (mv_ (mv_ ?_))))))))
   refine A4 (A25 rfl kR) rfl ?_
   refine A6 rfl (C6 (e := 5) (sz := 1) (z := [.int .u8 0]) kR (eS rfl e0) (bdS 0 1 rfl (by rfl) bd0) rfl fun b25 => ?_)
   refine A6 rfl (C6 (e := 27) (sz := 1) (z := [.slice none 0 0, .slice none 0 0, .slice none 0 0]) kR (eS rfl (eS rfl (eS rfl e0))) (bdS 0 1 rfl (by rfl) (bdS 1 1 rfl (by rfl) (bdS 2 1 rfl (by rfl) bd0))) rfl fun b26 => ?_)
   refine A6 rfl (E0 (Mc := []) (R := _ :: _ :: (Bo ++ Bl)) (aS rfl (aS rfl a0)) kR (.refl _) (A7U _ _ key [(exp key info i).2, info, [(i + 1) % 256]] _ (hkey.mono fun _ h => mA h) hk256 hk31 (A60.of (Rd.whole (n := 3) m0 (by rfl)) rfl (.cons (B5V _ _ _) (hl.rd fun _ h => by simp [h]) (.cons hi256 (hinfo.mono fun _ h => mA h) (.cons (by intro x hx; simp at hx; subst hx; exact Nat.mod_lt _ (by decide)) (Rd.whole (n := 1) (cs := nums .u8 [(i + 1) % 256]) At.mem (by rfl)) .nil)))) (by simp; omega) (by simp) (mA h0) (mA h1)) rfl ?_)
   rintro r27 M27 J1 ⟨rfl, h27⟩
   rw [show [(exp key info i).2, info, [(i + 1) % 256]].flatten = (exp key info i).2 ++ (info ++ [(i + 1) % 256]) from by simp] at h27
   refine as_ (A0 (I5 0 1 2 7 8 9) (C3 (mv_ (mv_ ?_))))
   refine A6 rfl (T3 (e := 5) (sz := 1) (by_ := 1) (m := 32) (B := Bo) (M0 := (M27 ++ [_, _]) ++ Bl) rfl rfl kR rfl ho (h27.rd fun _ h => by simp [h]) E8 (B91 _ _) (by unfold maxLen; omega) (by omega) rfl fun ov1 Bo1 ho1 => ?_)
   refine as_ (D0 (nb (nx (I5 0 1 2 7 8 9) (C3 (mv_ ?_)))))
   refine A4 (E4 ((i + 1 + 1 : Nat) : Int) rfl rfl (G3 (by omega) (by omega) (by omega))) rfl ?_
   refine as_ (D0 ?_)
   refine rn (i + 1, ov1, r27, Bo1, M27) ⟨by dsimp only; omega, A0i ho1 (by dsimp only; omega) (by rw [← I9]; rfl), A0i h27 (by dsimp only; rw [exp, A01]) rfl⟩ (by dsimp only; omega) (I5 0 1 2 7 8 9) (Fit.sub (List.Sublist.append (List.Sublist.refl _) ((List.sublist_append_left _ _).trans (List.sublist_append_left _ _)))) (fun _ h => h)
  ·
   have hend : i = rds n := by simp at hc; omega
   refine E6 (te (re (be rfl (nx (D5 2 7) (A3 (mv_ (mv_ ?_)))))))
   refine A4 (A0E (ho.rd fun _ h => h) rfl kR) rfl ?_
   refine A4 (A5L (if ((32 * i : Nat) : Int) < n then ((32 * i : Nat) : Int) else n) rfl rfl rfl) rfl ?_
   subst hend
   refine A4 (B4x ((min n.toNat (32 * rds n) : Nat) : Int) rfl rfl (by split <;> split <;> omega)) rfl ?_
   have hkl : min n.toNat (32 * rds n) = (V7 key info n).length := by rw [A00]; omega
   obtain ⟨pp, cc, rfl, hpc⟩ := ho.val
   refine as_ (A0 (D5 2 7) (A3 (mv_ (mv_ (mv_ ?_)))))
   refine A4 (A21 (e := 5) (sz := 1) rfl kR kR o0 (o1 (min n.toNat (32 * rds n)) rfl rfl) (o1 (min n.toNat (32 * rds n)) rfl rfl) (by simp) (by simp; omega) (by simp) (by simp)) rfl ?_
   refine as_ (A0 (D8 6) (C2 ?_))
   refine ⟨_, Bo, [], I4 rfl rfl, List.sublist_append_left _ _, by simp, rfl, ?_⟩
   have := Rd.part (ho.rd fun _ h => h) 0 (min n.toNat (32 * rds n)) (min n.toNat (32 * rds n)) (Nat.zero_le _) (Nat.min_le_right _ _) (Nat.le_refl _)
   refine A1c this (by simpa using hkl) ?_
   rw [Nat.zero_mul, List.drop_zero, Nat.sub_zero, Nat.mul_one, ← A0L]
   have e : ((exp key info (rds n)).1).take (min n.toNat (32 * rds n)) = V7 key info n := by
    unfold V7
    rw [List.take_eq_take_iff, A4L]; omega
   rw [e]

end Go.Proofs.YthbhpfefdnffaaaGreatDoor
