/- Part 3 of the texts of this claim, one behind the other. -/
import Derived.Test.YtlilcmjbaknafaaGreatDoorB2
import Derived.LoopN
set_option linter.unusedVariables false
set_option linter.unusedSimpArgs false
set_option maxRecDepth 100000
namespace Go.Proofs.YtlilcmjbaknafaaGreatDoor
open Go.Px
def A8g (R : Mem) (v : Value) (ps : List (LN)) : Prop :=
  ∃ vs : List Value, Rd R 1 v ps.length vs ∧ ∀ (i : Nat) (p : LN), ps[i]? = some p → (∀ x ∈ p, x < 256) ∧ ∃ u, vs[i]? = some u ∧ Rd R 1 u p.length (nums .u8 p)
theorem A8g.mono {R R' : Mem} {v : Value} {ps : List (LN)} (h : A8g R v ps) (hR : ∀ x, x ∈ R → x ∈ R') : A8g R' v ps := by
  obtain ⟨vs, h1, h2⟩ := h
  refine ⟨vs, h1.mono hR, fun i p hp => ?_⟩
  obtain ⟨h3, u, h4, h5⟩ := h2 i p hp
  exact ⟨h3, u, h4, h5.mono hR⟩
def A1f (ps : List (LN)) (i : Nat) : LN := (ps.take i).flatten
theorem A9k {ps : List (LN)} {i : Nat} {p : LN} (h : ps[i]? = some p) : A1f ps (i + 1) = A1f ps i ++ p := by
  unfold A1f; rw [List.take_add_one, h]; simp
theorem A2y (ps : List (LN)) : A1f ps ps.length = ps.flatten := by unfold A1f; rw [List.take_length]
theorem B5t (ps : List (LN)) (i : Nat) : (A1f ps i).length ≤ ps.flatten.length := by
  have h := congrArg (fun l => (List.flatten l).length) (List.take_append_drop i ps)
  simp only [List.flatten_append, List.length_append] at h
  unfold A1f; omega
theorem A6K {ps : List (LN)} (h : ∀ (i : Nat) (p : LN), ps[i]? = some p → ∀ x ∈ p, x < 256) (i : Nat) : ∀ x ∈ A1f ps i, x < 256 := by
  intro x hx
  obtain ⟨p, hp, hx⟩ := List.mem_flatten.1 hx
  obtain ⟨j, hj⟩ := List.getElem?_of_mem (List.mem_of_mem_take hp)
  exact h j p hj x hx
theorem A8h (m : LN) : (L1 m).length = 64 * ((L1 m).length / 64) ∧ 64 * (m.length / 64) ≤ (L1 m).length ∧ (L1 m).length ≤ m.length + 73 := by
  have e : (L1 m).length = m.length + 1 + A2V m.length + 8 := by simp [L1, B2h]; omega
  have hz : A2V m.length = (119 - m.length % 64) % 64 := rfl
  omega
theorem A6L (m : LN) (k : Nat) (h : 64 * k ≤ m.length) : (L1 m).drop (64 * k) = m.drop (64 * k) ++ (128 :: (List.replicate (A2V m.length) 0 ++ B2h m.length 8)) := by
  unfold L1; rw [List.drop_append_of_le_length h]
theorem A9l {m : LN} (h : ∀ x ∈ m, x < 256) : ∀ x ∈ L1 m, x < 256 := by
  intro x hx
  unfold L1 at hx
  rcases List.mem_append.1 hx with hx | hx
  · exact h x hx
  · rcases List.mem_cons.1 hx with rfl | hx
    · decide
    · rcases List.mem_append.1 hx with hx | hx
      · rw [(List.mem_replicate.1 hx).2]; decide
      · obtain ⟨i, _, rfl⟩ := List.mem_map.1 hx
        exact Nat.mod_lt _ qD
theorem A5F {k : IntKind} {ws : LN} (n : Nat) : (nums k ws).take (n * 1) = nums k (ws.take n) := by rw [Nat.mul_one, A1G]
theorem A5G {k : IntKind} {ws : LN} (n : Nat) : (nums k ws).drop (n * 1) = nums k (ws.drop n) := by rw [Nat.mul_one, A0O]
theorem A9m (s t : S8) : (nums .u32 s.list).length = (nums .u32 t.list).length := by rw [nums_len, nums_len]; simp [S8.list]
theorem A9n (n k : Nat) : B2h n (k + 1) = B2h n k ++ [(8 * n) >>> (56 - 8 * k) % 256] := by simp [B2h, List.range_succ]
theorem A4N (v : Value) (ps : List (LN)) (A : Mem) (hv : A8g A v ps) (htot : ps.flatten.length ≤ 2147483648) (hcnt : ps.length ≤ 2147483648) {ef ek : TypeId} {ff fk : Nat × Nat} (h0 : (0, Obj.cells (nums .u32 A2l.list).toArray ef ff) ∈ A) (h1 : (1, Obj.cells (nums .u32 A1H).toArray ek fk) ∈ A) :
  FnX Tryz.prog 83 [v] [] A fun r M J => J = [] ∧ Sl 1 r 32 (nums .u8 (Z9 ps.flatten)) M := by
 obtain ⟨vs, hvs, hps⟩ := hv
 refine FnX.enter (N := 90) Tryz.func83 rfl rfl rfl fun w => ?_
 refine B0 (D7 0) (A1 (as_ (A0 (D7 0) (A1 ?_))))
 refine A2 (L2 (cs := nums .u32 A2l.list) (n := 8) rfl kR (mA h0) qR) rfl ?_
 refine A5 rfl (C4 (cs := [G3, G3, G3, G3, G3, G3, G3, G3]) kR rfl fun b3 => ?_)
 refine A7g rfl rfl kR qR E5 ?_
 refine as_ (A0 (D6 0 3 4) (A1 (as_ (A0 (D8 0 3 4 5) (A3 (A1 (mv_ ?_)))))))
 refine A2 (A0E hvs rfl kR) rfl ?_
 refine mv_ (A0 (H3 3 4 5 13 14 15) (A4 ?_))
 refine D3 (α := Nat × Value × Mem) (fun x => [(3, (vP b3)), (4, .int .i64 ((A1f ps x.1).length : Int)), (5, x.2.1), (13, v), (14, .int .i64 (ps.length : Int)), (15, .int .i64 (x.1 : Int))]) (fun x => x.2.2 ++ [(b3, blk (nums .u32 (A3V A1H ((A1f ps x.1).length / 64) A2l (A1f ps x.1)).list) 166)]) (fun _ => []) (fun x => x.1 ≤ ps.length ∧ Sl 1 x.2.1 ((A1f ps x.1).length - 64 * ((A1f ps x.1).length / 64)) (nums .u8 ((A1f ps x.1).drop (64 * ((A1f ps x.1).length / 64)))) x.2.2) (fun x => ps.length - x.1) (0, vS, []) ⟨Nat.zero_le _, W6 Sl.nil (by simp [A1f]) (by simp [A1f, nums])⟩ (H3 3 4 5 13 14 15) (Fit.eq (by simp [A1f, A3V])) qI ?_
 rintro ⟨i, rv, B⟩ ⟨hi, hsl⟩
 dsimp only at hi hsl ⊢
 refine A1 ?_
 refine A2 (D4 rfl rfl rfl) rfl ?_
 refine A0 (N0 3 4 5 13 14 15 16) (A3 ?_)
 refine C1 rfl ?_ ?_ <;> intro hc
 ·
  have hlt : i < ps.length := by simp at hc; omega
  obtain ⟨q, hq⟩ : ∃ q, ps[i]? = some q := ⟨_, List.getElem?_eq_getElem hlt⟩
  obtain ⟨hq256, u, hu, hqr⟩ := hps i q hq
  have hps1 := A9k hq
  have hle1 := B5t ps (i + 1)
  have hpl : (A1f ps (i + 1)).length = (A1f ps i).length + q.length := by rw [hps1, List.length_append]
  generalize hm : A1f ps i = m at *
  refine A6 (nx (H3 3 4 5 13 14 15) (A3 (A4 (A1 ?_))))
  refine A2 (B5s hvs rfl rfl kR i rfl hlt) rfl ?_
  refine A2 (A0i (hvs.mono fun _ h => mA h) rfl kR hu) rfl ?_
  refine as_ (A0 (N0 3 4 5 7 13 14 15) (A1 (mv_ (mv_ ?_))))
  refine A2 (A0E hqr rfl kR) rfl ?_
  refine A2 (C7 (((A1f ps (i + 1)).length : Nat) : Int) rfl rfl (E1 qO qO qO)) rfl ?_
  refine as_ (A0 (N0 3 4 5 7 13 14 15) (A1 (mv_ (mv_ ?_))))
  refine A5 rfl (Z5 (e := 5) (sz := 1) (by_ := 1) (m := q.length) (B := B) rfl rfl kR rfl hsl (hqr.mono fun _ h => mA h) E5 (.refl _) (by unfold maxLen; omega) qO rfl fun rv1 B1 hsl1 => ?_)
  have hsl1 : Sl 1 rv1 ((A1f ps (i + 1)).length - 64 * (m.length / 64)) (nums .u8 ((A1f ps (i + 1)).drop (64 * (m.length / 64)))) B1 := W6 hsl1 qO (by rw [hps1, List.drop_append_of_le_length qO, H6])
  refine as_ (A0 (H3 3 4 5 13 14 15) (A4 ?_))
  refine D3 (α := Nat × Value × Mem) (fun x => [(3, (vP b3)), (4, .int .i64 ((A1f ps (i + 1)).length : Int)), (5, x.2.1), (13, v), (14, .int .i64 (ps.length : Int)), (15, .int .i64 (i : Int))]) (fun x => x.2.2 ++ [(b3, blk (nums .u32 (A3V A1H x.1 A2l (A1f ps (i + 1))).list) 166)]) (fun _ => []) (fun x => 64 * x.1 ≤ (A1f ps (i + 1)).length ∧ Sl 1 x.2.1 ((A1f ps (i + 1)).length - 64 * x.1) (nums .u8 ((A1f ps (i + 1)).drop (64 * x.1))) x.2.2) (fun x => (A1f ps (i + 1)).length - 64 * x.1) (m.length / 64, rv1, B1) ⟨by dsimp only; omega, hsl1⟩ (H3 3 4 5 13 14 15) (Fit.eq (by dsimp only; rw [hps1, A4L _ _ _ _ _ qO])) qI ?_
  clear hsl1 hsl
  rintro ⟨k, rv, B⟩ ⟨hk1, hsl⟩
  dsimp only at hk1 hsl ⊢
  refine A3 (A1 (mv_ ?_))
  refine A2 (A0E (hsl.rd fun _ h => h) rfl kR) rfl ?_
  refine A2 (D4 rfl rfl rfl) rfl ?_
  refine A0 (N0 3 4 5 13 14 15 28) ?_
  refine C1 rfl ?_ ?_ <;> intro hc
  ·
   have hge : 64 ≤ (A1f ps (i + 1)).length - 64 * k := by simp at hc; omega
   obtain ⟨B2, hB2, hsl2⟩ := hsl.loV 64 hge
   refine A6 (nx (H3 3 4 5 13 14 15) (A4 ?_))
   refine A1k (_) [0, 1, 2] [(0, 1), (1, 0), (2, 0), (3, 2), (4, 2)] kR kR qI fun hs => ?_
   refine A3S hs rfl (L2 (n := 8) rfl kR At.mem qR) rfl ?_
   refine K5 hs rfl qm_ rfl ?_
   refine K5 hs rfl (B5q (hsl.rd fun _ h => h) rfl rfl kR 64 rfl hge) rfl ?_
   refine A1l rfl rfl rfl (V2 (aS rfl (aS rfl a0)) kR (A39 _ (A4K _ _ _ A4J) _ (fun x hx => (A6K (fun j p hp => (hps j p hp).1) (i + 1)) x (List.mem_of_mem_drop (List.mem_of_mem_take hx))) _ _ (A0H ((hsl.rd fun _ h => by simp [h]).hiV 64 hge) rfl (A5F 64)) (mA h1)) rfl ?_)
   refine A1l rfl rfl rfl (A9 rfl rfl rfl kR (A9m _ _) E5 UpC.upd ?_)
   refine A2S (H3 3 4 5 13 14 15) ?_
   refine A7 (mv_ ?_)
   refine A2 (B5r (hsl.rd fun _ h => h) rfl rfl kR 64 rfl hge) rfl ?_
   refine as_ (C0 (nb ?_))
   refine rn (k + 1, _, B2) ⟨by dsimp only; omega, W6 hsl2 (by dsimp only; omega) (by rw [A5G, List.drop_drop]; rfl)⟩ (by dsimp only; omega) (H3 3 4 5 13 14 15) ?_ qI
   dsimp only
   rw [A2W]
   exact Fit.sub (List.Sublist.append hB2 (List.Sublist.refl _))
  ·
   have hge : k = (A1f ps (i + 1)).length / 64 := by simp at hc; omega
   subst hge
   refine D0 (te (re (be rfl (nb (nx (H3 3 4 5 13 14 15) (A7 ?_))))))
   refine A2 (C7 ((i + 1 : Nat) : Int) rfl rfl (E1 qO qO qO)) rfl ?_
   refine mv_ (C0 ?_)
   refine rn (i + 1, _, B) ⟨by dsimp only; omega, hsl⟩ (by dsimp only; omega) (H3 3 4 5 13 14 15) .rfl qI
 ·
  have hlt : i = ps.length := by simp at hc; omega
  subst hlt
  rw [A2y] at hsl
  simp only [A2y]
  generalize hm : ps.flatten = m at *
  refine D0 (te (re (be rfl (nx (D6 3 4 5) (A1 (mv_ ?_))))))
  refine A5 rfl (C3 (e := 5) (sz := 1) (z := [.int .u8 0]) kR (eS rfl e0) (bdS 0 1 rfl qR bd0) rfl fun b37 => ?_)
  have hm256 : ∀ x ∈ m, x < 256 := by rw [← hm, ← A2y]; exact A6K (fun j p hp => (hps j p hp).1) _
  have htot' : m.length ≤ 2147483648 := htot
  refine A5 rfl (Z5 (e := 5) (sz := 1) (by_ := 1) (m := 1) (B := B) (ys := nums .u8 [128]) (M0 := (b37, _) :: _) rfl rfl kR rfl hsl (Rd.whole (n := 1) m0 qR) E5 pkB (by unfold maxLen; omega) qO rfl fun rv1 B1 hsl1 => ?_)
  clear hsl
  have hsl1 : Sl 1 rv1 (m.length % 64 + 1) (nums .u8 (m.drop (64 * (m.length / 64)) ++ [128])) B1 := W6 hsl1 qO (by rw [H6])
  refine as_ (A0 (D6 3 4 5) (A3 (A4 ?_)))
  refine D3 (α := Nat × Value × Mem) (fun x => [(3, (vP b3)), (4, .int .i64 (m.length : Int)), (5, x.2.1)]) (fun x => x.2.2 ++ [(b3, blk (nums .u32 (A3V A1H (m.length / 64) A2l m).list) 166)]) (fun _ => []) (fun x => x.1 ≤ A2V m.length ∧ Sl 1 x.2.1 (m.length % 64 + 1 + x.1) (nums .u8 (m.drop (64 * (m.length / 64)) ++ (128 :: List.replicate x.1 0))) x.2.2) (fun x => A2V m.length - x.1) (0, rv1, B1) ⟨Nat.zero_le _, hsl1⟩ (D6 3 4 5) (Fit.head1' (List.Sublist.refl _)) qI ?_
  clear hsl1
  rintro ⟨z, rv, B⟩ ⟨hz, hsl⟩
  dsimp only at hz hsl ⊢
  have hzz : A2V m.length = (119 - m.length % 64) % 64 := rfl
  refine A3 (A1 (mv_ ?_))
  refine A2 (A0E (hsl.rd fun _ h => h) rfl kR) rfl ?_
  refine A2 (A9a (b := 64) rfl rfl qD) rfl ?_
  refine A2 (D4 rfl rfl rfl) rfl ?_
  refine A0 (D8 3 4 5 42) ?_
  refine C1 rfl ?_ ?_ <;> intro hc
  ·
   have hlt : z < A2V m.length := by simp at hc; omega
   refine A6 (nx (D6 3 4 5) (A4 (A7 (mv_ ?_))))
   refine A5 rfl (C3 (e := 5) (sz := 1) (z := [.int .u8 0]) kR (eS rfl e0) (bdS 0 1 rfl qR bd0) rfl fun b44 => ?_)
   refine A5 rfl (Z5 (e := 5) (sz := 1) (by_ := 1) (m := 1) (B := B) (ys := nums .u8 [0]) (M0 := (b44, _) :: _) rfl rfl kR rfl hsl (Rd.whole (n := 1) m0 qR) E5 pkB (by unfold maxLen; omega) qO rfl fun rv1 B1 hsl1 => ?_)
   refine as_ (C0 (nb ?_))
   refine rn (z + 1, rv1, B1) ⟨by dsimp only; omega, W6 hsl1 (by dsimp only; omega) ?_⟩ (by dsimp only; omega) (D6 3 4 5) (Fit.head1' (List.Sublist.refl _)) qI
   dsimp only
   rw [← H6, List.append_assoc, List.cons_append, ← List.replicate_succ']
  ·
   have hlt : z = A2V m.length := by simp at hc; omega
   subst hlt
   refine D0 (te (re (be rfl (nx (D6 3 4 5) (A3 (A1 (mv_ ?_)))))))
   refine A0 (D8 3 4 5 46) (A4 ?_)
   refine D3 (α := Nat × Value × Mem) (fun x => [(3, (vP b3)), (4, .int .i64 (m.length : Int)), (5, x.2.1), (46, .int .i64 (x.1 : Int))]) (fun x => x.2.2 ++ [(b3, blk (nums .u32 (A3V A1H (m.length / 64) A2l m).list) 166)]) (fun _ => []) (fun x => x.1 ≤ 8 ∧ Sl 1 x.2.1 (m.length % 64 + 1 + A2V m.length + x.1) (nums .u8 (m.drop (64 * (m.length / 64)) ++ (128 :: (List.replicate (A2V m.length) 0 ++ B2h m.length x.1)))) x.2.2) (fun x => 8 - x.1) (0, rv, B) ⟨Nat.zero_le _, W6 hsl rfl (by simp [B2h])⟩ (D8 3 4 5 46) .rfl qI ?_
   clear hsl
   rintro ⟨i, rv, B⟩ ⟨hi, hsl⟩
   dsimp only at hi hsl ⊢
   refine A1 ?_
   refine A2 (D4 rfl rfl rfl) rfl ?_
   refine A0 (E4 3 4 5 46 47) (A3 ?_)
   refine C1 rfl ?_ ?_ <;> intro hc
   ·
    have hlt : i < 8 := by simp at hc; omega
    refine A6 (nx (D8 3 4 5 46) (A3 (A4 (A1 (mv_ (as_ (A0 (E4 3 4 5 8 46) (A7 ?_))))))))
    refine mv_ (mv_ ?_)
    refine A2 (C7 ((8 * m.length : Nat) : Int) rfl rfl (A1F qO qO qO)) rfl ?_
    refine A2 (A0Q (k' := .u64) rfl kR (by show _ < 9223372036854775808; omega)) rfl ?_
    refine mv_ ?_
    refine A2 (C7 ((8 * i : Nat) : Int) rfl rfl (A1F qO qO qO)) rfl ?_
    refine A2 (C7 ((56 - 8 * i : Nat) : Int) rfl rfl (A0h qO qO qO)) rfl ?_
    refine A2 (Q5 (56 - 8 * i) rfl rfl rfl (by show _ ≤ 64; omega)) rfl ?_
    refine A2 (A1m rfl kR) rfl ?_
    refine A5 rfl (C3 (e := 5) (sz := 1) (z := [.int .u8 0]) kR (eS rfl e0) (bdS 0 1 rfl qR bd0) rfl fun b58 => ?_)
    refine A5 rfl (Z5 (e := 5) (sz := 1) (by_ := 1) (m := 1) (B := B) (ys := nums .u8 [(8 * m.length) >>> (56 - 8 * i) % 256]) (M0 := (b58, _) :: _) rfl rfl kR rfl hsl (Rd.whole (n := 1) m0 qR) E5 pkB (by unfold maxLen; omega) qO rfl fun rv1 B1 hsl1 => ?_)
    refine as_ (C0 (nb (nx (D8 3 4 5 46) (A7 ?_))))
    refine A2 (C7 ((i + 1 : Nat) : Int) rfl rfl (E1 qO qO qO)) rfl ?_
    refine mv_ (C0 ?_)
    refine rn (i + 1, rv1, B1) ⟨by dsimp only; omega, W6 hsl1 (by dsimp only; omega) ?_⟩ (by dsimp only; omega) (D8 3 4 5 46) (Fit.head1' (List.Sublist.refl _)) qI
    dsimp only
    rw [← H6, List.append_assoc, List.cons_append, List.append_assoc, ← A9n]
   ·
    have hlt : i = 8 := by simp at hc; omega
    subst hlt
    refine D0 (te (re (be rfl (nx (D2 3 5) (A3 (A4 ?_))))))
    obtain ⟨hp1, hp2, hp3⟩ := A8h m
    have hsl0 := W6 (n' := (L1 m).length - 64 * (m.length / 64)) (xs' := nums .u8 ((L1 m).drop (64 * (m.length / 64)))) hsl (by simp [L1, B2h]; omega) (by rw [A6L _ _ qO])
    clear hsl
    refine D3 (α := Nat × Value × Mem) (fun x => [(3, (vP b3)), (5, x.2.1)]) (fun x => x.2.2 ++ [(b3, blk (nums .u32 (A3V A1H x.1 A2l (L1 m)).list) 166)]) (fun _ => []) (fun x => 64 * x.1 ≤ (L1 m).length ∧ Sl 1 x.2.1 ((L1 m).length - 64 * x.1) (nums .u8 ((L1 m).drop (64 * x.1))) x.2.2) (fun x => (L1 m).length - 64 * x.1) (m.length / 64, rv, B) ⟨hp2, hsl0⟩ (D2 3 5) (Fit.eq (by dsimp only; unfold L1; rw [A4L _ _ _ _ _ qO])) qI ?_
    clear hsl0
    rintro ⟨k, rv, B⟩ ⟨hk1, hsl⟩
    dsimp only at hk1 hsl ⊢
    refine A3 (A1 (mv_ ?_))
    refine A2 (A0E (hsl.rd fun _ h => h) rfl kR) rfl ?_
    refine A2 (D4 rfl rfl rfl) rfl ?_
    refine A0 (D6 3 5 63) ?_
    refine C1 rfl ?_ ?_ <;> intro hc
    ·
     have hge : 64 ≤ (L1 m).length - 64 * k := by simp at hc; omega
     obtain ⟨B2, hB2, hsl2⟩ := hsl.loV 64 hge
     refine A6 (nx (D2 3 5) (A3 (A4 ?_)))
     refine A1E (_) [0, 1, 2] [(0, 1), (1, 0), (2, 0), (3, 2), (4, 2)] kR kR qI fun hs => ?_
     refine A3S hs rfl (L2 (n := 8) rfl kR At.mem qR) rfl ?_
     refine K5 hs rfl qm_ rfl ?_
     refine K5 hs rfl (B5q (hsl.rd fun _ h => h) rfl rfl kR 64 rfl hge) rfl ?_
     refine A1l rfl rfl rfl (V2 (aS rfl (aS rfl a0)) kR (A39 _ (A4K _ _ _ A4J) _ (fun x hx => (A9l hm256) x (List.mem_of_mem_drop (List.mem_of_mem_take hx))) _ _ (A0H ((hsl.rd fun _ h => by simp [h]).hiV 64 hge) rfl (A5F 64)) (mA h1)) rfl ?_)
     refine A1l rfl rfl rfl (A9 rfl rfl rfl kR (A9m _ _) E5 UpC.upd ?_)
     refine A5z ?_
     refine nb (nx (D2 3 5) (A7 (mv_ ?_)))
     refine A2 (B5r (hsl.rd fun _ h => h) rfl rfl kR 64 rfl hge) rfl ?_
     refine as_ (C0 ?_)
     refine rn (k + 1, _, B2) ⟨by dsimp only; omega, W6 hsl2 (by dsimp only; omega) (by rw [A5G, List.drop_drop]; rfl)⟩ (by dsimp only; omega) (D2 3 5) ?_ qI
     dsimp only
     rw [A2W]
     exact Fit.sub (List.Sublist.append hB2 (List.Sublist.refl _))
    ·
     have hge : k = (L1 m).length / 64 := by simp at hc; omega
     subst hge
     refine D0 (te (re (be rfl (nx (D7 3) (A1 (as_ (A0 (D2 3 9) ?_)))))))
     refine A3 (A1 ?_)
     have hro := A4K A1H ((L1 m).length / 64) (L1 m) A4J
     generalize hr : A3V A1H ((L1 m).length / 64) A2l (L1 m) = r at *
     refine A84 (n := 8) rfl kR qR rfl ?_
     refine mv_ (A0 (D6 9 70 71) (A4 ?_))
     refine D3 (α := Nat × Value × Mem) (fun x => [(9, x.2.1), (70, .agg (nums .u32 r.list).toArray), (71, .int .i64 (x.1 : Int))]) (fun x => x.2.2) (fun _ => []) (fun x => x.1 ≤ 8 ∧ Sl 1 x.2.1 (4 * x.1) (nums .u8 ((r.list.take x.1).flatMap B5l)) x.2.2) (fun x => 8 - x.1) (0, vS, []) ⟨Nat.zero_le _, Sl.nil⟩ (D6 9 70 71) (Fit.sub (List.nil_sublist _)) qI ?_
     clear hsl
     rintro ⟨i, rv, B⟩ ⟨hi, hsl⟩
     dsimp only at hi hsl ⊢
     refine A1 ?_
     refine A2 (D4 rfl rfl rfl) rfl ?_
     refine A0 (D8 9 70 71 72) (A3 ?_)
     refine C1 rfl ?_ ?_ <;> intro hc
     ·
      have hlt : i < 8 := by simp at hc; omega
      have hx32 : r.list.getD i 0 < 4294967296 := getD_lt hro qD
      refine A6 (nx (D6 9 70 71) (A3 (A4 (A1 ?_))))
      refine A2 (A4M (e := 27) (m := 8) (j := i) rfl rfl kR kR kR rfl hlt (Z8 (show i < 8 from hlt))) rfl ?_
      refine as_ (A0 (D8 9 11 70 71) (A7 (mv_ (mv_ ?_))))
      refine A2 (Q5 24 rfl rfl rfl qD) rfl ?_
      refine A2 (A1m rfl kR) rfl ?_
      refine mv_ ?_
      refine A2 (Q5 16 rfl rfl rfl qD) rfl ?_
      refine A2 (A1m rfl kR) rfl ?_
      refine mv_ ?_
      refine A2 (Q5 8 rfl rfl rfl qD) rfl ?_
      refine A2 (A1m rfl kR) rfl ?_
      refine mv_ ?_
      refine A2 (A1m rfl kR) rfl ?_
      refine A5 rfl (C3 (e := 5) (sz := 1) (z := [zu8, zu8, zu8, zu8]) kR (eS rfl (eS rfl (eS rfl (eS rfl e0)))) (bdS 0 1 rfl qR (bdS 1 1 rfl qR (bdS 2 1 rfl qR (bdS 3 1 rfl qR bd0)))) rfl fun b86 => ?_)
      refine A5 rfl (Z5 (e := 5) (sz := 1) (by_ := 1) (m := 4) (B := B) (ys := nums .u8 (B5l (r.list.getD i 0))) (M0 := (b86, _) :: _) rfl rfl kR rfl hsl (Rd.whole (n := 4) m0 qR) E5 pkB0 (by unfold maxLen; omega) qO rfl fun rv1 B1 hsl1 => ?_)
      refine as_ (C0 (nb (nx (D6 9 70 71) (A7 ?_))))
      refine A2 (C7 ((i + 1 : Nat) : Int) rfl rfl (E1 qO qO qO)) rfl ?_
      refine mv_ (C0 ?_)
      refine rn (i + 1, rv1, B1) ⟨by dsimp only; omega, W6 hsl1 (by dsimp only; omega) ?_⟩ (by dsimp only; omega) (D6 9 70 71) (Fit.sub (List.sublist_append_left _ _)) qI
      dsimp only
      rw [← H6, List.take_add_one, List.flatMap_append, List.getElem?_eq_getElem (show i < r.list.length from hlt), List.getD, List.getElem?_eq_getElem (show i < r.list.length from hlt)]
      simp
     ·
      have hlt : i = 8 := by simp at hc; omega
      subst hlt
      refine D0 (te (re (be rfl (nx (D7 9) (A1 (mv_ (as_ (A0 (D7 2) ?_))))))))
      refine B4 ?_
      refine ⟨_, B, [], K9 rfl rfl, List.Sublist.refl _, by simp, rfl, W6 hsl rfl ?_⟩
      unfold Z9; rw [hr]; rfl

def Pv (R : Mem) (vs : List Value) (ps : List (LN)) : Prop := vs.length = ps.length ∧ ∀ (i : Nat) (p : LN), ps[i]? = some p → (∀ x ∈ p, x < 256) ∧ ∃ u, vs[i]? = some u ∧ Rd R 1 u p.length (nums .u8 p)
theorem Pv.nil {R : Mem} : Pv R [] [] := ⟨rfl, fun i p h => by simp at h⟩
theorem Pv.cons {R : Mem} {vs : List Value} {ps : List (LN)} {u : Value} {p : LN} (hp : ∀ x ∈ p, x < 256) (hu : Rd R 1 u p.length (nums .u8 p)) (h : Pv R vs ps) : Pv R (u :: vs) (p :: ps) := by
  refine ⟨by simp [h.1], fun i q hq => ?_⟩
  cases i with
  | zero => cases hq; exact ⟨hp, u, rfl, hu⟩
  | succ i => exact h.2 i q (by simpa using hq)
theorem Pv.mono {R R' : Mem} {vs : List Value} {ps : List (LN)} (h : Pv R vs ps) (hR : ∀ x, x ∈ R → x ∈ R') : Pv R' vs ps := by
  refine ⟨h.1, fun i p hp => ?_⟩
  obtain ⟨h3, u, h4, h5⟩ := h.2 i p hp
  exact ⟨h3, u, h4, h5.mono hR⟩
theorem Pv.one {R : Mem} {vs : List Value} {ps : List (LN)} (h : Pv R vs ps) : ∀ c ∈ vs, c.oneCell' = true := by
  intro c hc
  obtain ⟨i, hi⟩ := List.getElem?_of_mem hc
  have hlt := (List.getElem?_eq_some_iff.1 hi).1
  obtain ⟨_, u, hu, p, c', rfl, _⟩ := h.2 i _ (List.getElem?_eq_getElem (h.1 ▸ hlt))
  rw [hi] at hu; cases hu; rfl
theorem Pv.lt {R : Mem} {vs : List Value} {ps : List (LN)} (h : Pv R vs ps) : ∀ x ∈ ps.flatten, x < 256 := by
  rw [← A2y]
  exact A6K (fun i p hp => (h.2 i p hp).1) _
theorem A8g.of {R : Mem} {v : Value} {n : Nat} {vs : List Value} {ps : List (LN)} (h : Rd R 1 v n vs) (hn : n = ps.length) (hp : Pv R vs ps) : A8g R v ps := ⟨vs, hn ▸ h, hp.2⟩
theorem A8g.pv {R : Mem} {v : Value} {ps : List (LN)} (h : A8g R v ps) : ∃ vs, Rd R 1 v ps.length vs ∧ Pv R vs ps := by
  obtain ⟨vs, h1, h2⟩ := h
  exact ⟨vs, h1, by have := h1.len; omega, h2⟩
theorem A2Z (p : LN) : (Z9 p).length = 32 := by simp [Z9, S8.bytes, S8.list, B5l]
theorem A9o (p : LN) : ∀ x ∈ Z9 p, x < 256 := by
  intro x hx
  obtain ⟨y, _, hy⟩ := List.mem_flatMap.1 hx
  simp only [B5l, List.mem_cons, List.not_mem_nil, or_false] at hy
  rcases hy with rfl | rfl | rfl | rfl <;> exact Nat.mod_lt _ qD
def A1n (ks : LN) (x i : Nat) : LN := (ks.take i).map (· ^^^ x) ++ ks.drop i
theorem A1J (ks : LN) (x i : Nat) : (A1n ks x i).length = ks.length := by simp [A1n]; omega
theorem A1K {ks : LN} {x i : Nat} (h : i < ks.length) : (A1n ks x i).getD i 0 = ks.getD i 0 := by
  unfold A1n
  have hl : ((ks.take i).map (· ^^^ x)).length = i := by simp; omega
  simp only [List.getD]
  rw [List.getElem?_append_right qO, hl, Nat.sub_self, List.getElem?_drop, Nat.add_zero]
theorem A4b {ks : LN} {x i : Nat} (h : i < ks.length) : (A1n ks x i).set i (ks.getD i 0 ^^^ x) = A1n ks x (i + 1) := by
  unfold A1n
  have hl : ((ks.take i).map (· ^^^ x)).length = i := by simp; omega
  rw [List.set_append_right _ _ qO, hl, Nat.sub_self, List.drop_eq_getElem_cons h, List.set_cons_zero, List.take_add_one, List.getD, List.getElem?_eq_getElem h]
  simp only [Option.getD_some, Option.toList_some, List.map_append, List.map_cons, List.map_nil, List.append_assoc, List.cons_append, List.nil_append]
theorem A5H {ks : LN} {x i : Nat} (h : ks.length = i) : A1n ks x i = ks.map (· ^^^ x) := by
  unfold A1n; rw [← h]; simp
theorem A8i {key : LN} (h : key.length ≤ 64) (x : Nat) : (A2m key x).length = 64 := by simp [A2m]; omega
theorem A9p {key : LN} (h : ∀ x ∈ key, x < 256) {y : Nat} (hy : y < 256) : ∀ x ∈ A2m key y, x < 256 := by
  intro x hx
  obtain ⟨z, hz, rfl⟩ := List.mem_map.1 hx
  refine Nat.xor_lt_two_pow (n := 8) ?_ hy
  rcases List.mem_append.1 hz with hz | hz
  · exact h z hz
  · rw [(List.mem_replicate.1 hz).2]; decide
theorem A8j (key : LN) : (A0D key).length ≤ 64 := by
  unfold A0D; split
  · rw [A2Z]; decide
  · omega
theorem A9q {key : LN} (h : ∀ x ∈ key, x < 256) : ∀ x ∈ A0D key, x < 256 := by
  unfold A0D; split
  · exact A9o _
  · exact h
theorem A7l (kv pv : Value) (key : LN) (ps : List (LN)) (A : Mem) (hkey : Rd A 1 kv key.length (nums .u8 key)) (hk256 : ∀ x ∈ key, x < 256) (hk31 : key.length ≤ 1073741824) (hp : A8g A pv ps) (htot : ps.flatten.length ≤ 1073741824) (hcnt : ps.length ≤ 1073741824) {ef ek : TypeId} {ff fk : Nat × Nat} (h0 : (0, Obj.cells (nums .u32 A2l.list).toArray ef ff) ∈ A) (h1 : (1, Obj.cells (nums .u32 A1H).toArray ek fk) ∈ A) :
  FnX Tryz.prog 70 [kv, pv] [] A fun r M J => J = [] ∧ Sl 1 r 32 (nums .u8 (A37 key ps.flatten)) M := by
 obtain ⟨vs, hvs, hpv⟩ := hp.pv
 haveI := hkey.cel
 refine FnX.enter (N := 42) Tryz.func70 rfl rfl rfl fun w => ?_
 refine B0 (D2 0 1) (A1 (as_ (A0 (D2 0 1) ?_)))
 refine P4 (α := Value × Mem) (fun x => [(0, x.1), (1, pv)]) (fun x => x.2) (fun _ => []) (fun x => Rd (x.2 ++ A) 1 x.1 (A0D key).length (nums .u8 (A0D key))) ?_ ?_
 ·
  refine A1 (mv_ ?_)
  refine A2 (A0E hkey rfl kR) rfl ?_
  refine A2 (D4 rfl rfl rfl) rfl ?_
  refine A0 (D6 0 1 10) ?_
  refine C1 rfl ?_ ?_ <;> intro hc
  ·
   have hgt : 64 < key.length := by simp at hc; omega
   refine A7 (mv_ ?_)
   refine A5 rfl (C3 (e := 26) (sz := 1) (z := [vS]) kR (eS rfl e0) (bdS 0 1 rfl qR bd0) rfl fun b12 => ?_)
   refine A5 rfl (E0 (Mc := []) (R := [_]) (aS rfl a0) kR (.refl _) (A4N _ [key] _ (A8g.of (Rd.whole (n := 1) m0 qR) rfl (.cons hk256 (hkey.mono fun _ h => mA h) .nil)) (by simp; omega) qM (mA h0) (mA h1)) rfl ?_)
   rintro r M1 J1 ⟨rfl, hr⟩
   refine as_ (C0 ?_)
   refine jn (r, _) ?_ (D2 0 1) .rfl qI
   dsimp only
   rw [A0D, if_pos hgt, A2Z]
   exact A0H (hr.rd fun _ h => by simp [h]) rfl qM
  ·
   have hgt : ¬ 64 < key.length := by simp at hc; omega
   refine A6 ?_
   refine jn (kv, []) ?_ (D2 0 1) .rfl qI
   dsimp only
   rw [A0D, if_neg hgt]
   exact hkey
 ·
  rintro ⟨kv1, Mk⟩ hkv
  dsimp only at hkv ⊢
  have hK64 := A8j key
  have hKb := A9q hk256
  have hkl := A8i hK64
  have hklt := fun y hy => A9p (y := y) hKb hy
  unfold A37
  unfold A2m at *
  generalize A0D key = K at *
  have hK1 : (K ++ List.replicate (64 - K.length) 0).length = 64 := by simp; omega
  have hK2 : ∀ x ∈ K ++ List.replicate (64 - K.length) 0, x < 256 := fun x hx => by
   rcases List.mem_append.1 hx with h | h
   · exact hKb x h
   · rw [(List.mem_replicate.1 h).2]; decide
  refine A1 ?_
  refine A5 rfl (C4 (cs := nums .u8 (List.replicate 64 0)) kR rfl fun b5 => ?_)
  refine A5 rfl (C4 (cs := nums .u8 (List.replicate 64 0)) kR rfl fun b6 => ?_)
  refine A0 (D8 0 1 5 6) (A1 ?_)
  refine A2 (B2j (e := 5) (sz := 1) (m := 64) rfl kR kR) rfl ?_
  refine mv_ ?_
  refine A5 rfl (B4d (e := 5) (by_ := 1) (n := K.length) (m := 64) (ws := List.replicate 64 0) (us := K) (ws' := K ++ List.replicate (64 - K.length) 0) rfl rfl kR (hkv.mono fun q hq => by rcases List.mem_append.1 hq with h | h <;> simp [h]) hK64 qM (by rw [List.drop_replicate]) UpC.upd rfl ?_)
  refine A0 (D8 0 1 5 6) (A1 ?_)
  refine A2 (B2j (e := 5) (sz := 1) (m := 64) rfl kR kR) rfl ?_
  refine mv_ ?_
  refine A5 rfl (B4d (e := 5) (by_ := 1) (n := K.length) (m := 64) (ws := List.replicate 64 0) (us := K) (ws' := K ++ List.replicate (64 - K.length) 0) rfl rfl kR (hkv.mono fun q hq => by rcases List.mem_append.1 hq with h | h <;> simp [h]) hK64 qM (by rw [List.drop_replicate]) UpC.upd rfl ?_)
  refine A0 (D6 1 5 6) (A3 (A1 (mv_ (A0 (D8 1 5 6 20) (A4 ?_)))))
  generalize hKK : K ++ List.replicate (64 - K.length) 0 = KK at *
  refine D3 (α := Nat) (fun i => [(1, pv), (5, (vP b5)), (6, (vP b6)), (20, .int .i64 (i : Int))]) (fun i => [(b6, blk (nums .u8 (A1n KK 92 i)) 148), (b5, blk (nums .u8 (A1n KK 54 i)) 148)]) (fun _ => []) (fun i => i ≤ 64) (fun i => 64 - i) 0 (Nat.zero_le _) (D8 1 5 6 20) (Fit.sub (.cons_cons _ (.cons_cons _ (List.nil_sublist _)))) qI ?_
  intro i hi
  refine A1 ?_
  refine A2 (D4 rfl rfl rfl) rfl ?_
  refine A0 (E4 1 5 6 20 21) (A3 ?_)
  refine C1 rfl ?_ ?_ <;> intro hc
  ·
   have hlt : i < 64 := by simp at hc; omega
   have hx8 : KK.getD i 0 < 256 := getD_lt hK2 qD
   refine A6 (nx (D8 1 5 6 20) (A3 (A4 (A1 (mv_ (as_ (A0 (E4 1 5 6 7 20) (A1 ?_))))))))
   refine mv_ ?_
   refine A2 (E8 (i := i) (e := 5) (n := 64) (sz := 1) rfl rfl kR kR rfl qO) rfl ?_
   refine A2 (H9 (ws := A1n KK 54 i) i rfl kR At.mem qO (by rw [A1J]; omega)) rfl ?_
   refine A2 (A9d (b := 54) rfl rfl (by rw [A1K qO]; exact hx8) qD) rfl ?_
   refine A2 (E8 (i := i) (e := 5) (n := 64) (sz := 1) rfl rfl kR kR rfl qO) rfl ?_
   refine A5 rfl (I7 (ws := A1n KK 54 i) i rfl rfl kR qO (by rw [A1J]; omega) UpC.upd ?_)
   refine A0 (E4 1 5 6 7 20) (A7 (mv_ ?_))
   refine A2 (E8 (i := i) (e := 5) (n := 64) (sz := 1) rfl rfl kR kR rfl qO) rfl ?_
   refine A2 (H9 (ws := A1n KK 92 i) i rfl kR At.mem qO (by rw [A1J]; omega)) rfl ?_
   refine A2 (A9d (b := 92) rfl rfl (by rw [A1K qO]; exact hx8) qD) rfl ?_
   refine A2 (E8 (i := i) (e := 5) (n := 64) (sz := 1) rfl rfl kR kR rfl qO) rfl ?_
   refine A5 rfl (I7 (ws := A1n KK 92 i) i rfl rfl kR qO (by rw [A1J]; omega) UpC.upd ?_)
   refine C0 (nb (nx (D8 1 5 6 20) (A7 ?_)))
   refine A2 (C7 ((i + 1 : Nat) : Int) rfl rfl (E1 qO qO qO)) rfl ?_
   refine mv_ (C0 ?_)
   refine rn (i + 1) qO qO (D8 1 5 6 20) (Fit.eq ?_) qI
   rw [A1K qO, A1K qO, A4b qO, A4b qO]
  ·
   have hlt : i = 64 := by simp at hc; omega
   subst hlt
   rw [A5H hK1, A5H hK1]
   refine D0 (te (re (be rfl (nx (D6 1 5 6) ?_))))
   refine A1k ([]) [] [(0, 0), (1, 0), (3, 0), (2, 2), (4, 2), (5, 2), (6, 2), (7, 2), (8, 0)] kR kR qM fun hs => ?_
   refine K5 hs rfl (B2j (e := 5) (sz := 1) (m := 64) rfl kR kR) rfl ?_
   refine K5 hs rfl (B2j (e := 5) (sz := 1) (m := 64) rfl kR kR) rfl ?_
   refine K5 hs rfl qm_ rfl ?_
   refine A1l rfl rfl rfl (C3 (e := 26) (sz := 1) (z := [vS]) kR (eS rfl e0) (bdS 0 1 rfl qR bd0) rfl fun b36 => ?_)
   refine A1l rfl rfl rfl (Z5 (e := 26) (sz := 1) (by_ := 24) (n := 1) (m := ps.length) (B := [(b36, _)]) rfl rfl kR rfl (Sl.fresh rfl qD) (hvs.mono fun _ h => mA h) hpv.one (.refl _) (by unfold maxLen; omega) qO rfl fun v38 B38 hsl38 => ?_)
   refine A1l rfl rfl rfl (E0 (Mc := []) (R := B38 ++ [_, _]) (aS rfl a0) kR (.refl _) (A4N v38 (KK.map (· ^^^ 54) :: ps) _ (A8g.of (hsl38.rd fun _ h => by simp [h]) (by rw [List.length_cons]; omega) (.cons (hklt 54 qD) (A0H (Rd.whole (n := 64) (cs := nums .u8 (KK.map (· ^^^ 54))) At.mem (by simp [hK1])) (hkl 54).symm rfl) (hpv.mono fun _ h => mA h))) (by rw [List.flatten_cons, List.length_append, List.length_map, hK1]; omega) (by rw [List.length_cons]; omega) (mA h0) (mA h1)) rfl ?_)
   rintro r39 M39 J39 ⟨rfl, hr39⟩
   haveI := hr39.cel
   refine A1l rfl rfl rfl (C3 (e := 26) (sz := 1) (z := [vS, vS]) kR (eS rfl (eS rfl e0)) (bdS 0 1 rfl qR (bdS 1 1 rfl qR bd0)) rfl fun b40 => ?_)
   refine A1l rfl rfl rfl (E0 (Mc := []) (R := _ :: (M39 ++ (B38 ++ [_, _]))) (aS rfl a0) kR (.refl _) (A4N _ [KK.map (· ^^^ 92), Z9 (KK.map (· ^^^ 54) ++ ps.flatten)] _ (A8g.of (Rd.whole (n := 2) m0 qR) rfl (.cons (hklt 92 qD) (A0H (Rd.whole (n := 64) (cs := nums .u8 (KK.map (· ^^^ 92))) At.mem (by simp [hK1])) (hkl 92).symm rfl) (.cons (A9o _) (A0H (hr39.rd fun _ h => by simp [h]) (A2Z _).symm qM) .nil))) (by simp [hK1, A2Z]) qM (mA h0) (mA h1)) rfl ?_)
   rintro r41 M41 J41 ⟨rfl, hr41⟩
   refine K5 hs rfl (H8 rfl) rfl ?_
   refine A2S (D7 4) ?_
   refine B4 ?_
   refine ⟨_, _, [], K9 rfl rfl, List.sublist_append_left _ _, by simp, rfl, W6 hr41 rfl ?_⟩
   simp
theorem A2n (kv pv : Value) (key p : LN) (A : Mem) (hkey : Rd A 1 kv key.length (nums .u8 key)) (hk256 : ∀ x ∈ key, x < 256) (hk31 : key.length ≤ 1073741824) (hp : Rd A 1 pv p.length (nums .u8 p)) (hp256 : ∀ x ∈ p, x < 256) (htot : p.length ≤ 1073741824) {ef ek : TypeId} {ff fk : Nat × Nat} (h0 : (0, Obj.cells (nums .u32 A2l.list).toArray ef ff) ∈ A) (h1 : (1, Obj.cells (nums .u32 A1H).toArray ek fk) ∈ A) :
  FnX Tryz.prog 49 [kv, pv] [] A fun r M J => J = [] ∧ Sl 1 r 32 (nums .u8 (A37 key p)) M := by
 haveI := hp.cel
 refine FnX.enter (N := 9) Tryz.func49 rfl rfl rfl fun w => ?_
 refine B0 (D2 0 1) (A1 (as_ (A0 (D2 0 1) (A1 (mv_ (mv_ ?_))))))
 refine A5 rfl (C3 (e := 26) (sz := 1) (z := [vS]) kR (eS rfl e0) (bdS 0 1 rfl qR bd0) rfl fun b7 => ?_)
 refine A5 rfl (E0 (Mc := []) (R := [_]) (aS rfl (aS rfl a0)) kR (.refl _) (A7l _ _ key [p] _ (hkey.mono fun _ h => mA h) hk256 hk31 (A8g.of (Rd.whole (n := 1) m0 qR) rfl (.cons hp256 (hp.mono fun _ h => mA h) .nil)) (by simpa using htot) qM (mA h0) (mA h1)) rfl ?_)
 rintro r M1 J1 ⟨rfl, hr⟩
 refine as_ (A0 (D7 4) (B4 ?_))
 refine ⟨_, _, [], K9 rfl rfl, List.sublist_append_left _ _, by simp, rfl, W6 hr rfl ?_⟩
 simp

end Go.Proofs.YtlilcmjbaknafaaGreatDoor
namespace Go.Px
def nv : List Nat → Nat
  | [] => 0
  | w :: r => w + 4294967296 * nv r
def w32 (ws : List Nat) : Prop := ∀ x ∈ ws, x < 4294967296
def xp (n : Nat) : Nat := 4294967296 ^ n
theorem w32.take {ws : List Nat} (h : w32 ws) (n : Nat) : w32 (ws.take n) := fun x hx => h x (List.mem_of_mem_take hx)
theorem w32.drop {ws : List Nat} (h : w32 ws) (n : Nat) : w32 (ws.drop n) := fun x hx => h x (List.mem_of_mem_drop hx)
theorem w32.get {ws : List Nat} (h : w32 ws) (n : Nat) : ws.getD n 0 < 4294967296 := getD_lt h (by decide)
theorem w32.set {ws : List Nat} (h : w32 ws) {n x : Nat} (hx : x < 4294967296) : w32 (ws.set n x) := fun y hy => by
  rcases List.mem_or_eq_of_mem_set hy with h1 | rfl
  · exact h y h1
  · exact hx
theorem w32.app {a b : List Nat} (ha : w32 a) (hb : w32 b) : w32 (a ++ b) := fun x hx => (List.mem_append.1 hx).elim (ha x) (hb x)
def tl (ws : List Nat) : Nat → Nat
  | 0 => 0
  | n + 1 => if ws.getD n 0 = 0 then tl ws n else n + 1
def trim (ws : List Nat) : List Nat := ws.take (tl ws ws.length)
def nrm (ws : List Nat) : Prop := ∀ k, ws.length = k + 1 → ws.getD k 0 ≠ 0
end Go.Px

namespace Go.Px
def isPr (n : Nat) : Bool := decide (1 < n) && (List.range n).all fun i => decide (i < 2) || n % i != 0
def B2l (k p lo b : Nat) : Nat := if (lo + 2 ^ b) ^ k ≤ p * xp k then lo + 2 ^ b else lo
def B7w (k p : Nat) : Nat → Nat → Nat
  | 0, lo => lo
  | j + 1, lo => B7w k p j (B2l k p lo j)
def root (k p : Nat) : Nat := B7w k p 40 0 % 4294967296
def rl (k n : Nat) : List Nat := ((List.range n).filter isPr).map (root k)
def pw (P : List Nat) (i : Nat) : Nat → Nat
  | 0 => 0
  | j + 1 => pw P i j * 256 + P.getD (4 * i + j) 0
def wAt (P : List Nat) (i : Nat) : List Nat := wx (W5 P (min i 16)) (i - 16)
end Go.Px

namespace Go.Px
def exp (key info : List Nat) : Nat → List Nat × List Nat
  | 0 => ([], [])
  | i + 1 => ((exp key info i).1 ++ A37 key ((exp key info i).2 ++ (info ++ [(i + 1) % 256])), A37 key ((exp key info i).2 ++ (info ++ [(i + 1) % 256])))
theorem A0j (p : List Nat) : (Z9 p).length = 32 := by simp [Z9, S8.bytes, S8.list, B5l]
theorem A4O (key info : List Nat) : ∀ i, (exp key info i).1.length = 32 * i
  | 0 => rfl
  | i + 1 => by rw [exp, List.length_append, A4O key info i, A37, A0j]; omega
def rds (n : Int) : Nat := min 255 ((n.toNat + 31) / 32)
def U9 (key info : List Nat) (n : Int) : List Nat := (exp key info (rds n)).1.take n.toNat
theorem A16 (key info : List Nat) (n : Int) : (U9 key info n).length = min n.toNat 8160 := by
  unfold U9; rw [List.length_take, A4O]; unfold rds; omega
end Go.Px

namespace Go.Proofs.YtlilcmjbaknafaaGreatDoor
open Go.Px
theorem B9w {M B D : Mem} (x y : Nat × Obj) : (M ++ (x :: y :: (B ++ D))).Perm (B ++ ((M ++ [x, y]) ++ D)) := by
  have h : M ++ (x :: y :: (B ++ D)) = (M ++ [x, y]) ++ (B ++ D) := by simp
  rw [h]
  exact List.perm_append_comm_assoc _ _ _
theorem A20 (key p : LN) : ∀ x ∈ A37 key p, x < 256 := A9o _
theorem A0s (key p : LN) : (A37 key p).length = 32 := A2Z _
theorem B5u (key info : LN) : ∀ i, ∀ x ∈ (exp key info i).2, x < 256
  | 0 => by simp [exp]
  | i + 1 => A20 _ _
theorem B2m (key info : LN) (i : Nat) : (exp key info i).2.length ≤ 32 := by
  cases i with
  | zero => simp [exp]
  | succ i => rw [exp, A0s]; decide
theorem A9r (key info : LN) : ∀ i, ∀ x ∈ (exp key info i).1, x < 256
  | 0 => by simp [exp]
  | i + 1 => fun x hx => (List.mem_append.1 hx).elim (A9r key info i x) (A20 _ _ x)
theorem A21 (kv iv : Value) (key info : LN) (n : Int) (A : Mem) (hkey : Rd A 1 kv key.length (nums .u8 key)) (hk256 : ∀ x ∈ key, x < 256) (hk31 : key.length ≤ 1073741824) (hinfo : Rd A 1 iv info.length (nums .u8 info)) (hi256 : ∀ x ∈ info, x < 256) (hi31 : info.length ≤ 536870912) (hn : n < 1000000) (hn0 : -1000000 < n) {ef ek : TypeId} {ff fk : Nat × Nat} (h0 : (0, Obj.cells (nums .u32 A2l.list).toArray ef ff) ∈ A) (h1 : (1, Obj.cells (nums .u32 A1H).toArray ek fk) ∈ A) :
  FnX Tryz.prog 48 [kv, iv, .int .i64 n] [] A fun r M J => J = [] ∧ Rd M 1 r (U9 key info n).length (nums .u8 (U9 key info n)) := by
 haveI := hinfo.cel
 refine FnX.enter (N := 40) Tryz.func48 rfl rfl rfl fun w => ?_
 refine B0 (D6 0 1 2) (A1 (as_ (A0 (D6 0 1 2) (A1 (as_ (as_ (A0 (E4 0 1 2 7 8) (A3 ?_))))))))
 refine A1 (as_ (A0 (H3 0 1 2 7 8 9) (A4 ?_)))
 refine D3 (α := Nat × Value × Value × Mem × Mem) (fun x => [(0, kv), (1, iv), (2, .int .i64 n), (7, x.2.1), (8, x.2.2.1), (9, .int .i64 ((x.1 + 1 : Nat) : Int))]) (fun x => x.2.2.2.1 ++ x.2.2.2.2) (fun _ => []) (fun x => x.1 ≤ rds n ∧ Sl 1 x.2.1 (32 * x.1) (nums .u8 (exp key info x.1).1) x.2.2.2.1 ∧ Sl 1 x.2.2.1 (exp key info x.1).2.length (nums .u8 (exp key info x.1).2) x.2.2.2.2) (fun x => rds n - x.1) (0, vS, vS, [], []) ⟨Nat.zero_le _, Sl.nil, Sl.nil⟩ (H3 0 1 2 7 8 9) .rfl qI ?_
 rintro ⟨i, ov, lv, Bo, Bl⟩ ⟨hi, ho, hl⟩
 dsimp only at hi ho hl ⊢
 have hrd : rds n = min 255 ((n.toNat + 31) / 32) := rfl
 have hl32 := B2m key info i
 haveI := hl.cel
 refine A3 ?_
 by_cases h32 : (n : Int) ≤ ((32 * i : Nat) : Int)
 ·
  refine A1 (mv_ ?_)
  refine A2 (A0E (ho.rd fun _ h => h) rfl kR) rfl ?_
  refine mv_ ?_
  refine A2 (E9 false rfl rfl (ltF qO)) rfl ?_
  refine mv_ ?_
  refine K8 rfl rfl rfl rfl ?_
  refine K8 rfl rfl rfl rfl ?_
  refine A2 (I0 rfl rfl) rfl ?_
  refine A0 (N0 0 1 2 7 8 9 17) ?_
  refine C6 rfl ?_
  refine D0 (te (re (be rfl (nx (D2 2 7) (A1 (mv_ (mv_ ?_)))))))
  refine A2 (A0E (ho.rd fun _ h => h) rfl kR) rfl ?_
  refine A2 (A36 (if ((32 * i : Nat) : Int) < n then ((32 * i : Nat) : Int) else n) rfl rfl rfl) rfl ?_
  have hend : i = rds n := by omega
  subst hend
  refine A2 (A88 ((min n.toNat (32 * rds n) : Nat) : Int) rfl rfl (by split <;> split <;> omega)) rfl ?_
  have hkl : min n.toNat (32 * rds n) = (U9 key info n).length := by rw [A16]; omega
  obtain ⟨pp, cc, rfl, hpc⟩ := ho.val
  refine as_ (A0 (D2 2 7) (A1 (mv_ (mv_ (mv_ ?_)))))
  refine A2 (A15 (e := 5) (sz := 1) rfl kR kR o0 (o1 (min n.toNat (32 * rds n)) rfl rfl) (o1 (min n.toNat (32 * rds n)) rfl rfl) qM (by simp; omega) qM qM) rfl ?_
  refine as_ (A0 (D7 6) (B4 ?_))
  refine ⟨_, Bo, [], K9 rfl rfl, List.sublist_append_left _ _, by simp, rfl, ?_⟩
  have := Rd.part (ho.rd fun _ h => h) 0 (min n.toNat (32 * rds n)) (min n.toNat (32 * rds n)) (Nat.zero_le _) (Nat.min_le_right _ _) (Nat.le_refl _)
  refine A0H this (by simpa using hkl) ?_
  rw [Nat.zero_mul, List.drop_zero, Nat.sub_zero, Nat.mul_one, ← A1G]
  have e : ((exp key info (rds n)).1).take (min n.toNat (32 * rds n)) = U9 key info n := by
   unfold U9
   rw [List.take_eq_take_iff, A4O]; omega
  rw [e]
 ·
  refine A1 (mv_ ?_)
  refine A2 (A0E (ho.rd fun _ h => h) rfl kR) rfl ?_
  refine mv_ ?_
  refine A2 (E9 true rfl rfl (ltT qO)) rfl ?_
  refine mv_ ?_
  refine G5 rfl rfl (OpQ.opL qm_ rfl ?_)
  refine G5 rfl rfl (OpQ.opL (D4 rfl rfl rfl) rfl ?_)
  refine A2 (I6 rfl rfl) rfl ?_
  refine A0 (N0 0 1 2 7 8 9 17) ?_
  refine C1 rfl ?_ ?_ <;> intro hc
  ·
   have hlt : i < 255 := by simp at hc; omega
   refine A6 (nx (H3 0 1 2 7 8 9) (A3 (A4 (A1 (mv_ (mv_ (mv_ (mv_ ?_))))))))
   refine A2 (A1m rfl kR) rfl ?_
   refine A5 rfl (C3 (e := 5) (sz := 1) (z := [.int .u8 0]) kR (eS rfl e0) (bdS 0 1 rfl qR bd0) rfl fun b25 => ?_)
   refine A5 rfl (C3 (e := 26) (sz := 1) (z := [vS, vS, vS]) kR (eS rfl (eS rfl (eS rfl e0))) (bdS 0 1 rfl qR (bdS 1 1 rfl qR (bdS 2 1 rfl qR bd0))) rfl fun b26 => ?_)
   refine A5 rfl (E0 (Mc := []) (R := _ :: _ :: (Bo ++ Bl)) (aS rfl (aS rfl a0)) kR (.refl _) (A7l _ _ key [(exp key info i).2, info, [(i + 1) % 256]] _ (hkey.mono fun _ h => mA h) hk256 hk31 (A8g.of (Rd.whole (n := 3) m0 qR) rfl (.cons (B5u _ _ _) (hl.rd fun _ h => by simp [h]) (.cons hi256 (hinfo.mono fun _ h => mA h) (.cons (by intro x hx; simp at hx; subst hx; exact Nat.mod_lt _ qD) (Rd.whole (n := 1) (cs := nums .u8 [(i + 1) % 256]) At.mem qR) .nil)))) (by simp; omega) qM (mA h0) (mA h1)) rfl ?_)
   rintro r27 M27 J1 ⟨rfl, h27⟩
   rw [show [(exp key info i).2, info, [(i + 1) % 256]].flatten = (exp key info i).2 ++ (info ++ [(i + 1) % 256]) from by simp] at h27
   refine as_ (A0 (H3 0 1 2 7 8 9) (A7 (mv_ (mv_ ?_))))
   refine A5 rfl (Z5 (e := 5) (sz := 1) (by_ := 1) (m := 32) (B := Bo) (M0 := (M27 ++ [_, _]) ++ Bl) rfl rfl kR rfl ho (h27.rd fun _ h => by simp [h]) E5 (B9w _ _) (by unfold maxLen; omega) qO rfl fun ov1 Bo1 ho1 => ?_)
   refine as_ (C0 (nb (nx (H3 0 1 2 7 8 9) (A7 (mv_ ?_)))))
   refine A2 (C7 ((i + 1 + 1 : Nat) : Int) rfl rfl (E1 qO qO qO)) rfl ?_
   refine as_ (C0 ?_)
   refine rn (i + 1, ov1, r27, Bo1, M27) ⟨by dsimp only; omega, W6 ho1 (by dsimp only; omega) (by rw [← H6]; rfl), W6 h27 (by dsimp only; rw [exp, A0s]) rfl⟩ (by dsimp only; omega) (H3 0 1 2 7 8 9) (Fit.sub (List.Sublist.append (List.Sublist.refl _) ((List.sublist_append_left _ _).trans (List.sublist_append_left _ _)))) qI
  ·
   have hend : i = rds n := by simp at hc; omega
   refine D0 (te (re (be rfl (nx (D2 2 7) (A1 (mv_ (mv_ ?_)))))))
   refine A2 (A0E (ho.rd fun _ h => h) rfl kR) rfl ?_
   refine A2 (A36 (if ((32 * i : Nat) : Int) < n then ((32 * i : Nat) : Int) else n) rfl rfl rfl) rfl ?_
   subst hend
   refine A2 (A88 ((min n.toNat (32 * rds n) : Nat) : Int) rfl rfl (by split <;> split <;> omega)) rfl ?_
   have hkl : min n.toNat (32 * rds n) = (U9 key info n).length := by rw [A16]; omega
   obtain ⟨pp, cc, rfl, hpc⟩ := ho.val
   refine as_ (A0 (D2 2 7) (A1 (mv_ (mv_ (mv_ ?_)))))
   refine A2 (A15 (e := 5) (sz := 1) rfl kR kR o0 (o1 (min n.toNat (32 * rds n)) rfl rfl) (o1 (min n.toNat (32 * rds n)) rfl rfl) qM (by simp; omega) qM qM) rfl ?_
   refine as_ (A0 (D7 6) (B4 ?_))
   refine ⟨_, Bo, [], K9 rfl rfl, List.sublist_append_left _ _, by simp, rfl, ?_⟩
   have := Rd.part (ho.rd fun _ h => h) 0 (min n.toNat (32 * rds n)) (min n.toNat (32 * rds n)) (Nat.zero_le _) (Nat.min_le_right _ _) (Nat.le_refl _)
   refine A0H this (by simpa using hkl) ?_
   rw [Nat.zero_mul, List.drop_zero, Nat.sub_zero, Nat.mul_one, ← A1G]
   have e : ((exp key info (rds n)).1).take (min n.toNat (32 * rds n)) = U9 key info n := by
    unfold U9
    rw [List.take_eq_take_iff, A4O]; omega
   rw [e]

end Go.Proofs.YtlilcmjbaknafaaGreatDoor
namespace Go.Px
def Sk (K : Nat → Prop) (w w' : World) : Prop := ∀ b, b < w.heap.size → ¬ K b → w'.heap[b]? = w.heap[b]?
theorem Sk.fx {K : Nat → Prop} {w w' : World} (h : Sk K w w') {R : Mem} (hR : ∀ x ∈ R, ¬ K x.1) (hw : Fx R w) : Fx R w' := fun b o hb => by
  have h1 := hw b o hb
  rw [h b (P7 h1) (hR _ hb)]; exact h1
def XK (C : Cx) (os : List Oper) (Q : XQ) (K : Nat → Prop) (n0 : Nat) (nd : List Nat) (plan : List (Nat × Nat)) (l : Env) (M J : Mem) : Prop :=
  ∀ listed, P5 os.toArray listed → I8 os.toArray nd plan listed = true → ∀ a w, Ag C.N l a → St C M J w → n0 ≤ w.heap.size →
    Z4 C.P os.toArray (P8 (A6v C Q)) (Sk K) nd.contains plan.length listed a w
section plan
variable {C : Cx} {Q : XQ} {l : Env} {M J : Mem} {os : List Oper} {K : Nat → Prop} {n0 : Nat} {nd : List Nat} {plan : List (Nat × Nat)}
theorem A8k {T : World → Prop} {S : World → World → Prop} {ops : Array Oper} {nd : List Nat} {listed : Array Bool} {i : Nat} (h : A82 ops nd listed i = true) (hT : ∀ w w', T w → S w w' → T w') (j : Nat) (hlt : j < ops.size) (hji : j ≠ i) (hun : listed.getD j true = false) : anc ops ops.size j i = true ∨ ∀ w w', T w → (nd.contains j = true → S w w') → T w' := by
  have h1 := List.all_eq_true.1 h j (List.mem_range.2 hlt)
  simp only [Bool.or_eq_true, beq_iff_eq, hji, hun, false_or, Bool.false_eq_true] at h1
  rcases h1 with h1 | h1
  · exact .inr fun w w' hS hw => hT w w' hS (hw h1)
  · exact .inl h1
theorem A1L {id : Nat} (Mv Ms : Mem) (nv : Bool) (nd : List Nat) (plan : List (Nat × Nat)) (hm : C.P.follows .mixedOrders = true) (hp : X3 os nd plan = true) (hM : M.Perm (Mv ++ Ms))
    (h : Region.noSelect os.toArray = true → ∀ (K : Nat → Prop) n0, (∀ x ∈ Mv, K x.1) → (∀ x ∈ Ms ++ (J ++ C.A), ¬ K x.1) → (nv = true → ∀ b, n0 ≤ b → K b) → XK C os Q K n0 nd plan l (Mv ++ Ms) J) : XC C (.region id os.toArray true) Q l M J := by
  intro a w ha hw0
  have hw := hw0.perm hM
  simp only [X3, Bool.and_eq_true, beq_iff_eq] at hp
  obtain ⟨⟨h1, h3⟩, h4⟩ := hp
  refine Code.wp_mono (Q := P8 (A6v C Q)) (fun e a w h => by cases e <;> first | exact h | exact h.elim) ?_
  let K : Nat → Prop := fun b => b ∈ Mv.map Prod.fst ∨ (nv = true ∧ w.heap.size ≤ b)
  refine wp_region_any hm (A04 (S := Sk K) (need := nd.contains) _ _ _ _ ?_)
  have hK1 : ∀ x ∈ Mv, K x.1 := fun x hx => .inl (List.mem_map_of_mem (f := Prod.fst) hx)
  have hcal := hw.callee (.refl _)
  have hK2 : ∀ x ∈ Ms ++ (J ++ C.A), ¬ K x.1 := by
    rintro ⟨b, o⟩ hx hk
    have h5 := hcal.sepA b o hx
    rcases hk with hk | ⟨_, hk⟩
    · exact h5.1 hk
    · exact absurd h5.2 (Nat.not_lt.2 hk)
  have := h h1 K w.heap.size hK1 hK2 (fun hn b hb => .inr ⟨hn, hb⟩) (Array.replicate os.length false) (fun j oj _ hl => by simp [Array.getElem?_replicate] at hl; split at hl <;> simp at hl) h4 a _ ha hw.drew (Nat.le_refl _)
  rw [h3] at this
  simpa using this
theorem N1 {id : Nat} {c2 : Code} (Mv Ms : Mem) (nv : Bool) (nd : List Nat) (plan : List (Nat × Nat)) (hm : C.P.follows .mixedOrders = true) (hp : X3 os nd plan = true) (hM : M.Perm (Mv ++ Ms))
    (h : Region.noSelect os.toArray = true → ∀ (K : Nat → Prop) n0, (∀ x ∈ Mv, K x.1) → (∀ x ∈ Ms ++ (J ++ C.A), ¬ K x.1) → (nv = true → ∀ b, n0 ≤ b → K b) → XK C os (A2u C c2 Q) K n0 nd plan l (Mv ++ Ms) J) : XC C (.seq (.region id os.toArray true) c2) Q l M J :=
  A3 (A1L Mv Ms nv nd plan hm hp hM h)
theorem A7m (h : Q .normal l M J) : XK C os Q K n0 nd [] l M J := by
  intro listed hcl hp a w ha hw hf
  simp only [I8, List.isEmpty_iff] at hp
  exact ⟨hp, l, M, J, ha, hw, h⟩
theorem T3 {c : Code} {l' : Env} (hk : Keep l l') (h : XC C c Q l' M J) : XK C os (A2u C c Q) K n0 nd [] l M J := A7m (B0 hk h)
theorem A6M {M' : Mem} (hM : M.Perm M') (h : XK C os Q K n0 nd plan l M' J) : XK C os Q K n0 nd plan l M J := fun listed hcl hp a w ha hw hn => h listed hcl hp a w ha (hw.perm hM) hn
theorem B9x {M' : Mem} (hM : M'.Sublist M) (h : XK C os Q K n0 nd plan l M' J) : XK C os Q K n0 nd plan l M J := fun listed hcl hp a w ha hw hn => h listed hcl hp a w ha (hw.drop hM (fun _ h => h)) hn
theorem A4P {i d : Nat} {op : Op} {ty : TypeId} {pos : String} {af : Array Edge} {g : Option (Nat × Bool)} {v : Value} {R : Mem} (hs : Region.noSelect os.toArray = true)
    (hget : nth os i = some ⟨some d, op, ty, pos, af, g⟩) (hR : ∀ x ∈ R, x ∈ M ++ (J ++ C.A)) (hn : ∀ x ∈ R, ¬ K x.1)
    (hy : ∀ a, Ag C.N l a → YieldsIf C.P os.toArray (Fx R) ⟨some d, op, ty, pos, af, g⟩ v a) (hd : Nat.blt d C.N = true)
    (h : XK C os Q K n0 nd plan ((d, v) :: l) M J) : XK C os Q K n0 nd ((i, 1) :: plan) l M J := by
  intro listed hcl hp a w ha hw hf
  simp only [I8, Bool.and_eq_true] at hp
  obtain ⟨⟨⟨h1, h2⟩, h5⟩, h4⟩ := hp
  have hi : os.toArray[i]? = some ⟨some d, op, ty, pos, af, g⟩ := by rw [U8] at hget; simpa using hget
  have hr : i ∈ Region.ready .any os.toArray listed := by simpa using h1
  exact W1 (S := Sk K) (T := Fx R) (N := os.toArray.size) hi (Region.noSelect_spec hs) (fun _ _ _ h => h) (fun _ _ _ _ => rfl) _ listed a w hcl (Region.free_spec hi h2) (A8k h5 fun w w' hT hS => hS.fx hn hT) hr (hy a ha) (fun b o hb => hw.fx b o (hR _ hb))
    (h _ (H2 hcl hr) h4 _ w (ha.put (C8 hd) v) hw hf)
theorem A4Q {i d : Nat} {op : Op} {ty : TypeId} {pos : String} {af : Array Edge} {g : Option (Nat × Bool)} {v : Value} (hs : Region.noSelect os.toArray = true)
    (hget : nth os i = some ⟨some d, op, ty, pos, af, g⟩)
    (hy : ∀ a, Ag C.N l a → YieldsIf C.P os.toArray (fun _ => True) ⟨some d, op, ty, pos, af, g⟩ v a) (hd : Nat.blt d C.N = true)
    (h : XK C os Q K n0 nd plan ((d, v) :: l) M J) : XK C os Q K n0 nd ((i, 0) :: plan) l M J := by
  intro listed hcl hp a w ha hw hf
  simp only [I8, Bool.and_eq_true] at hp
  obtain ⟨⟨h1, h2⟩, h4⟩ := hp
  have hi : os.toArray[i]? = some ⟨some d, op, ty, pos, af, g⟩ := by rw [U8] at hget; simpa using hget
  have hr : i ∈ Region.ready .any os.toArray listed := by simpa using h1
  exact W1 (S := Sk K) (T := fun _ => True) (N := 0) hi (Region.noSelect_spec hs) (fun _ _ _ h => h) (fun _ _ _ _ => rfl) _ listed a w hcl (Region.free_spec hi h2) (fun _ _ _ _ => .inr fun _ _ _ _ => trivial) hr (hy a ha) trivial
    (h _ (H2 hcl hr) h4 _ w (ha.put (C8 hd) v) hw hf)
section ops
variable {i d j t : Nat} {op : Op} {ty : TypeId} {pos : String} {af : Array Edge} {b b' : Bool} {v : Value} {oj : Oper} {R : Mem}
theorem L9 (hs : Region.noSelect os.toArray = true) (hget : nth os i = some ⟨some d, op, ty, pos, af, none⟩) (hq : OpQ C.P [] ⟨some d, op, ty, pos, af, none⟩ l v) (hd : Nat.blt d C.N = true)
    (h : XK C os Q K n0 nd plan ((d, v) :: l) M J) : XK C os Q K n0 nd ((i, 0) :: plan) l M J :=
  A4Q hs hget (fun a ha => .inl ⟨rfl, fun w hw => hq C.N a w ha (fun _ _ hb => by cases hb)⟩) hd h
theorem XK.r (hs : Region.noSelect os.toArray = true) (hget : nth os i = some ⟨some d, op, ty, pos, af, none⟩) (hR : ∀ x ∈ R, x ∈ M ++ (J ++ C.A)) (hn : ∀ x ∈ R, ¬ K x.1) (hq : OpQ C.P R ⟨some d, op, ty, pos, af, none⟩ l v) (hd : Nat.blt d C.N = true)
    (h : XK C os Q K n0 nd plan ((d, v) :: l) M J) : XK C os Q K n0 nd ((i, 1) :: plan) l M J :=
  A4P hs hget hR hn (fun a ha => .inl ⟨rfl, fun w hw => hq C.N a w ha hw⟩) hd h
theorem A22 (hs : Region.noSelect os.toArray = true) (hget : nth os i = some ⟨some d, op, ty, pos, af, some (j, b)⟩) (hj : nth os j = some oj) (ht : oj.dst = some t) (hl : lk l t = some (.bool b)) (hq : OpQ C.P [] ⟨some d, op, ty, pos, af, some (j, b)⟩ l v) (hd : Nat.blt d C.N = true)
    (h : XK C os Q K n0 nd plan ((d, v) :: l) M J) : XK C os Q K n0 nd ((i, 0) :: plan) l M J :=
  A4Q hs hget (fun a ha => .inl ⟨A87 (i := i) ha hj ht hl, fun w hw => hq C.N a w ha (fun _ _ hb => by cases hb)⟩) hd h
theorem B2n (hs : Region.noSelect os.toArray = true) (hget : nth os i = some ⟨some d, op, ty, pos, af, some (j, b)⟩) (hj : nth os j = some oj) (ht : oj.dst = some t) (hl : lk l t = some (.bool b)) (hR : ∀ x ∈ R, x ∈ M ++ (J ++ C.A)) (hn : ∀ x ∈ R, ¬ K x.1) (hq : OpQ C.P R ⟨some d, op, ty, pos, af, some (j, b)⟩ l v) (hd : Nat.blt d C.N = true)
    (h : XK C os Q K n0 nd plan ((d, v) :: l) M J) : XK C os Q K n0 nd ((i, 1) :: plan) l M J :=
  A4P hs hget hR hn (fun a ha => .inl ⟨A87 (i := i) ha hj ht hl, fun w hw => hq C.N a w ha hw⟩) hd h
theorem Y3 (hs : Region.noSelect os.toArray = true) (hget : nth os i = some ⟨some d, op, ty, pos, af, some (j, b)⟩) (hj : nth os j = some oj) (ht : oj.dst = some t) (hl : lk l t = some (.bool b')) (hb : (b' == b) = false) (hd : Nat.blt d C.N = true)
    (h : XK C os Q K n0 nd plan ((d, undef) :: l) M J) : XK C os Q K n0 nd ((i, 0) :: plan) l M J :=
  A4Q hs hget (fun a ha => .inr ⟨A6E (i := i) ha hj ht hl hb, rfl⟩) hd h
theorem A4R (hs : Region.noSelect os.toArray = true) (hget : nth os i = some ⟨some d, op, ty, pos, af, some (j, b)⟩) (hj : nth os j = some oj) (ht : oj.dst = some t) (hl : lk l t = some (.bool b')) (hb : (b' == b) = false) (hd : Nat.blt d C.N = true)
    (h : XK C os Q K n0 nd plan ((d, undef) :: l) M J) : XK C os Q K n0 nd ((i, 1) :: plan) l M J :=
  A4P (R := []) hs hget (fun _ h => by cases h) (fun _ h => by cases h) (fun a ha => .inr ⟨A6E (i := i) ha hj ht hl hb, rfl⟩) hd h
end ops
theorem A9s {i : Nat} {o : Oper} {Mc R : Mem} (hget : nth os i = some o) (hw' : ∀ a, Ag C.N l a → Region.wanted o (yielded os.toArray a.tmps) = true) (hM : M.Perm (Mc ++ R)) (hK : ∀ x ∈ Mc, K x.1)
    (h : ∀ w, OpL ⟨C.P, w, Mc.map Prod.fst, R ++ (J ++ C.A), C.N⟩ o l Mc [] (fun l' M' J' => ((∀ b, n0 ≤ b → K b) → ∀ x ∈ M', K x.1) → XK C os Q K n0 nd plan l' (M' ++ R) (J' ++ J))) :
    XK C os Q K n0 nd ((i, 2) :: plan) l M J := by
  intro listed hcl hp a w ha hw hf
  simp only [I8, Bool.and_eq_true, beq_iff_eq] at hp
  obtain ⟨h1, h2⟩ := hp
  have hi : os.toArray[i]? = some o := by rw [U8] at hget; simpa using hget
  refine ⟨fun h0 => (by rw [h1] at h0; cases h0), fun j hj => ?_⟩
  have hr := hj
  rw [h1] at hj
  simp only [List.mem_singleton] at hj
  subst hj
  unfold wpOp
  simp only [hi]
  rw [if_pos (hw' a ha)]
  refine .inl (Oper.wp_mono ?_ (h w _ a w ha (hw.callee hM).cx))
  rintro a' w' ⟨l', M', J', ha', hs', hk⟩
  have hsz : w.heap.size ≤ w'.heap.size := hs'.size
  refine ⟨fun _ b hb hnk => hs'.frame b hb fun hm => ?_, hk ?_ _ (H2 hcl hr) h2 a' w' ha' (hw.back hM hs'.cx) (Nat.le_trans hf hsz)⟩
  · obtain ⟨x, hx, e⟩ := List.mem_map.1 hm
    exact hnk (e ▸ hK x hx)
  · rintro hup ⟨b, o'⟩ hx
    rcases hs'.own b o' (by simp [hx]) with h6 | h6
    · obtain ⟨x, hx, e⟩ := List.mem_map.1 h6
      exact e ▸ hK x hx
    · exact hup b (Nat.le_trans hf h6)
theorem Q6 {i : Nat} {o : Oper} (Mc R : Mem) (hget : nth os i = some o) (hg : o.guard = none) (hM : M.Perm (Mc ++ R)) (hK : ∀ x ∈ Mc, K x.1)
    (h : ∀ w, OpL ⟨C.P, w, Mc.map Prod.fst, R ++ (J ++ C.A), C.N⟩ o l Mc [] (fun l' M' J' => ((∀ b, n0 ≤ b → K b) → ∀ x ∈ M', K x.1) → XK C os Q K n0 nd plan l' (M' ++ R) (J' ++ J))) :
    XK C os Q K n0 nd ((i, 2) :: plan) l M J := A9s hget (fun a ha => by simp [Region.wanted, hg]) hM hK h
theorem B7x {i j t : Nat} {d : Option Nat} {op : Op} {ty : TypeId} {pos : String} {af : Array Edge} {b : Bool} {oj : Oper} (Mc R : Mem) (hget : nth os i = some ⟨d, op, ty, pos, af, some (j, b)⟩) (hj : nth os j = some oj) (ht : oj.dst = some t) (hl : lk l t = some (.bool b)) (hM : M.Perm (Mc ++ R)) (hK : ∀ x ∈ Mc, K x.1)
    (h : ∀ w, OpL ⟨C.P, w, Mc.map Prod.fst, R ++ (J ++ C.A), C.N⟩ ⟨d, op, ty, pos, af, some (j, b)⟩ l Mc [] (fun l' M' J' => ((∀ b, n0 ≤ b → K b) → ∀ x ∈ M', K x.1) → XK C os Q K n0 nd plan l' (M' ++ R) (J' ++ J))) :
    XK C os Q K n0 nd ((i, 2) :: plan) l M J := A9s hget (fun a ha => by
      have hj' : os.toArray[j]? = some oj := by rw [U8] at hj; simpa using hj
      simp only [Region.wanted, yielded, hj', Option.bind_some, ht, ha.slot _ _ hl]; simp) hM hK h
theorem B5v {i d : Nat} {op : Op} {ty : TypeId} {pos : String} {af : Array Edge} {g : Option (Nat × Bool)} (hget : nth os i = some ⟨some d, op, ty, pos, af, g⟩) (hw' : ∀ a, Ag C.N l a → Region.wanted ⟨some d, op, ty, pos, af, g⟩ (yielded os.toArray a.tmps) = false) (hd : Nat.blt d C.N = true)
    (h : XK C os Q K n0 nd plan ((d, undef) :: l) M J) : XK C os Q K n0 nd ((i, 2) :: plan) l M J := by
  intro listed hcl hp a w ha hw hf
  simp only [I8, Bool.and_eq_true, beq_iff_eq] at hp
  obtain ⟨h1, h2⟩ := hp
  have hi : os.toArray[i]? = some ⟨some d, op, ty, pos, af, g⟩ := by rw [U8] at hget; simpa using hget
  refine ⟨fun h0 => (by rw [h1] at h0; cases h0), fun j hj => ?_⟩
  have hr := hj
  rw [h1] at hj
  simp only [List.mem_singleton] at hj
  subst hj
  unfold wpOp
  simp only [hi]
  rw [if_neg (by rw [hw' a ha]; simp)]
  exact ⟨fun _ _ _ _ => rfl, h _ (H2 hcl hr) h2 _ w (ha.put (C8 hd) undef) hw hf⟩
theorem B2o {i d j t : Nat} {op : Op} {ty : TypeId} {pos : String} {af : Array Edge} {b b' : Bool} {oj : Oper} (hget : nth os i = some ⟨some d, op, ty, pos, af, some (j, b)⟩) (hj : nth os j = some oj) (ht : oj.dst = some t) (hl : lk l t = some (.bool b')) (hb : (b' == b) = false) (hd : Nat.blt d C.N = true)
    (h : XK C os Q K n0 nd plan ((d, undef) :: l) M J) : XK C os Q K n0 nd ((i, 2) :: plan) l M J :=
  B5v hget (fun a ha => A6E (i := i) ha hj ht hl hb) hd h
theorem A2z {t : Nat} {b : Bool} (hl : lk l t = some (.bool b)) (h1 : b = true → XK C os Q K n0 nd plan ((t, .bool true) :: l) M J) (h2 : b = false → XK C os Q K n0 nd plan ((t, .bool false) :: l) M J) :
    XK C os Q K n0 nd plan l M J := by
  intro listed hcl hp a w ha hw hf
  have key : ∀ b', b = b' → Ag C.N ((t, .bool b') :: l) a := by
    rintro b' rfl
    refine ha.sub ?_
    intro i v hi
    simp only [lk] at hi
    by_cases e : t = i
    · subst e; simp at hi; subst hi; exact hl
    · simpa only [X7 e, cond_false] using hi
  cases b
  · exact h2 rfl listed hcl hp a w (key _ rfl) hw hf
  · exact h1 rfl listed hcl hp a w (key _ rfl) hw hf
end plan
def XF (C : Cx) (os : List Oper) (Q : XQ) (nd : List Nat) (plan : List (Nat × Nat)) (l : Env) (M J : Mem) : Prop := XK C os Q (fun _ => False) 0 nd plan l M J
section free
variable {C : Cx} {Q : XQ} {l : Env} {M J : Mem} {os : List Oper} {nd : List Nat} {plan : List (Nat × Nat)}
theorem F8 {id : Nat} (nd : List Nat) (plan : List (Nat × Nat)) (hm : C.P.follows .mixedOrders = true) (hp : X3 os nd plan = true) (h : Region.noSelect os.toArray = true → XF C os Q nd plan l M J) : XC C (.region id os.toArray true) Q l M J := by
  intro a w ha hw
  simp only [X3, Bool.and_eq_true, beq_iff_eq] at hp
  obtain ⟨⟨h1, h3⟩, h4⟩ := hp
  refine Code.wp_mono (Q := P8 (A6v C Q)) (fun e a w h => by cases e <;> first | exact h | exact h.elim) ?_
  refine wp_region_any hm (A04 (S := Sk fun _ => False) (need := nd.contains) _ _ _ _ ?_)
  have := h h1 (Array.replicate os.length false) (fun j oj _ hl => by simp [Array.getElem?_replicate] at hl; split at hl <;> simp at hl) h4 a _ ha hw.drew (Nat.zero_le _)
  rw [h3] at this
  simpa using this
theorem C9 {id : Nat} {c2 : Code} (nd : List Nat) (plan : List (Nat × Nat)) (hm : C.P.follows .mixedOrders = true) (hp : X3 os nd plan = true) (h : Region.noSelect os.toArray = true → XF C os (A2u C c2 Q) nd plan l M J) : XC C (.seq (.region id os.toArray true) c2) Q l M J :=
  A3 (F8 nd plan hm hp h)
theorem Q8 (h : Q .normal l M J) : XF C os Q nd [] l M J := A7m h
theorem E7 {c : Code} {l' : Env} (hk : Keep l l') (h : XC C c Q l' M J) : XF C os (A2u C c Q) nd [] l M J := T3 hk h
theorem B2p {t : Nat} {b : Bool} (hl : lk l t = some (.bool b)) (h1 : b = true → XF C os Q nd plan ((t, .bool true) :: l) M J) (h2 : b = false → XF C os Q nd plan ((t, .bool false) :: l) M J) : XF C os Q nd plan l M J := A2z hl h1 h2
section ops
variable {i d j t : Nat} {op : Op} {ty : TypeId} {pos : String} {af : Array Edge} {b b' : Bool} {v : Value} {oj : Oper}
theorem C2 (hs : Region.noSelect os.toArray = true) (hget : nth os i = some ⟨some d, op, ty, pos, af, none⟩) (hq : OpQ C.P [] ⟨some d, op, ty, pos, af, none⟩ l v) (hd : Nat.blt d C.N = true)
    (h : XF C os Q nd plan ((d, v) :: l) M J) : XF C os Q nd ((i, 0) :: plan) l M J := L9 hs hget hq hd h
theorem G4 (hs : Region.noSelect os.toArray = true) (hget : nth os i = some ⟨some d, op, ty, pos, af, none⟩) (hq : OpQ C.P (M ++ (J ++ C.A)) ⟨some d, op, ty, pos, af, none⟩ l v) (hd : Nat.blt d C.N = true)
    (h : XF C os Q nd plan ((d, v) :: l) M J) : XF C os Q nd ((i, 1) :: plan) l M J := XK.r hs hget (fun _ h => h) (fun _ _ h => h) hq hd h
theorem L7 (hs : Region.noSelect os.toArray = true) (hget : nth os i = some ⟨some d, op, ty, pos, af, some (j, b)⟩) (hj : nth os j = some oj) (ht : oj.dst = some t) (hl : lk l t = some (.bool b)) (hq : OpQ C.P [] ⟨some d, op, ty, pos, af, some (j, b)⟩ l v) (hd : Nat.blt d C.N = true)
    (h : XF C os Q nd plan ((d, v) :: l) M J) : XF C os Q nd ((i, 0) :: plan) l M J := A22 hs hget hj ht hl hq hd h
theorem A8l (hs : Region.noSelect os.toArray = true) (hget : nth os i = some ⟨some d, op, ty, pos, af, some (j, b)⟩) (hj : nth os j = some oj) (ht : oj.dst = some t) (hl : lk l t = some (.bool b)) (hq : OpQ C.P (M ++ (J ++ C.A)) ⟨some d, op, ty, pos, af, some (j, b)⟩ l v) (hd : Nat.blt d C.N = true)
    (h : XF C os Q nd plan ((d, v) :: l) M J) : XF C os Q nd ((i, 1) :: plan) l M J := B2n hs hget hj ht hl (fun _ h => h) (fun _ _ h => h) hq hd h
theorem B9y (hs : Region.noSelect os.toArray = true) (hget : nth os i = some ⟨some d, op, ty, pos, af, some (j, b)⟩) (hj : nth os j = some oj) (ht : oj.dst = some t) (hl : lk l t = some (.bool b')) (hb : (b' == b) = false) (hd : Nat.blt d C.N = true)
    (h : XF C os Q nd plan ((d, undef) :: l) M J) : XF C os Q nd ((i, 0) :: plan) l M J := Y3 hs hget hj ht hl hb hd h
theorem B9z (hs : Region.noSelect os.toArray = true) (hget : nth os i = some ⟨some d, op, ty, pos, af, some (j, b)⟩) (hj : nth os j = some oj) (ht : oj.dst = some t) (hl : lk l t = some (.bool b')) (hb : (b' == b) = false) (hd : Nat.blt d C.N = true)
    (h : XF C os Q nd plan ((d, undef) :: l) M J) : XF C os Q nd ((i, 1) :: plan) l M J := A4R hs hget hj ht hl hb hd h
theorem B7y (hs : Region.noSelect os.toArray = true) (hget : nth os i = some ⟨some d, op, ty, pos, af, some (j, b)⟩) (hj : nth os j = some oj) (ht : oj.dst = some t) (hl : lk l t = some (.bool b')) (hb : (b' == b) = false) (hd : Nat.blt d C.N = true)
    (h : XF C os Q nd plan ((d, undef) :: l) M J) : XF C os Q nd ((i, 2) :: plan) l M J := B2o hget hj ht hl hb hd h
end ops
theorem B2q {i : Nat} {o : Oper} (hget : nth os i = some o) (hg : o.guard = none)
    (h : ∀ w, OpL ⟨C.P, w, [], M ++ (J ++ C.A), C.N⟩ o l [] [] (fun l' M' J' => XF C os Q nd plan l' (M' ++ M) (J' ++ J))) : XF C os Q nd ((i, 2) :: plan) l M J :=
  Q6 [] M hget hg (.refl _) (fun _ h => by cases h) fun w => (h w).mono fun _ _ _ hh _ => hh
theorem B9A {i j t : Nat} {d : Option Nat} {op : Op} {ty : TypeId} {pos : String} {af : Array Edge} {b : Bool} {oj : Oper} (hget : nth os i = some ⟨d, op, ty, pos, af, some (j, b)⟩) (hj : nth os j = some oj) (ht : oj.dst = some t) (hl : lk l t = some (.bool b))
    (h : ∀ w, OpL ⟨C.P, w, [], M ++ (J ++ C.A), C.N⟩ ⟨d, op, ty, pos, af, some (j, b)⟩ l [] [] (fun l' M' J' => XF C os Q nd plan l' (M' ++ M) (J' ++ J))) : XF C os Q nd ((i, 2) :: plan) l M J :=
  B7x [] M hget hj ht hl (.refl _) (fun _ h => by cases h) fun w => (h w).mono fun _ _ _ hh _ => hh
end free
section tails
variable {C : Cx} {Q : XQ} {l : Env} {M J : Mem} {os : List Oper} {K : Nat → Prop} {n0 : Nat} {nd : List Nat} {plan : List (Nat × Nat)}
theorem A9t {i : Nat} {o : Oper} (hget : nth os i = some o) (hw' : ∀ a, Ag C.N l a → Region.wanted o (yielded os.toArray a.tmps) = true) (hnd : nd.contains i = false)
    (h : OpL C o l M J (fun l' M' J' => XK C os Q K 0 nd plan l' M' J')) : XK C os Q K 0 nd ((i, 2) :: plan) l M J := by
  intro listed hcl hp a w ha hw hf
  simp only [I8, Bool.and_eq_true, beq_iff_eq] at hp
  obtain ⟨h1, h2⟩ := hp
  have hi : os.toArray[i]? = some o := by rw [U8] at hget; simpa using hget
  refine ⟨fun h0 => (by rw [h1] at h0; cases h0), fun j hj => ?_⟩
  have hr := hj
  rw [h1] at hj
  simp only [List.mem_singleton] at hj
  subst hj
  unfold wpOp
  simp only [hi]
  rw [if_pos (hw' a ha)]
  refine .inl (Oper.wp_mono ?_ (h _ a w ha hw))
  rintro a' w' ⟨l', M', J', ha', hs', hk⟩
  exact ⟨fun hn => absurd hn (by rw [hnd]; decide), hk _ (H2 hcl hr) h2 a' w' ha' hs' (Nat.zero_le _)⟩
theorem F5 {i : Nat} {o : Oper} (hget : nth os i = some o) (hg : o.guard = none) (hnd : nd.contains i = false) (h : OpL C o l M J (fun l' M' J' => XF C os Q nd plan l' M' J')) : XF C os Q nd ((i, 2) :: plan) l M J :=
  A9t hget (fun a ha => by simp [Region.wanted, hg]) hnd h
end tails
def XR (C : Cx) (c : Code) (Q : XQ) (n : Nat) (l : Env) (M J : Mem) : Prop := ∀ a w, Ag C.N l a → St C M J w → Code.rounds C.P c (A6v C Q) n a w
def unX (C : Cx) (c : Code) (Q : XQ) (n : Nat) : XQ
  | .normal, l, M, J => XR C c Q n l M J
  | e, l, M, J => Q e l M J
section unroll
variable {C : Cx} {Q : XQ} {l l' : Env} {M J : Mem} {c : Code} {n : Nat}
theorem T7 (n : Nat) (h : XR C c Q n l M J) : XC C (.loop c) Q l M J := fun a w ha hw => wp_loop_rounds n (h a w ha hw)
theorem F6 (h : XC C c (unX C c Q n) l M J) : XR C c Q (n + 1) l M J := by
  intro a w ha hw
  refine Code.wp_mono ?_ (h a w ha hw)
  rintro e a' w' ⟨l', M', J', ha', hw', hq⟩
  cases e with
  | normal => exact hq a' w' ha' hw'
  | _ => exact ⟨l', M', J', ha', hw', hq⟩
theorem un (hk : Keep l l') (h : XR C c Q n l' M J) : unX C c Q n .normal l M J := fun a w ha hw => h a w (ha.sub hk.lk) hw
theorem ue {i : Nat} (h : Q (.exit i) l M J) : unX C c Q n (.exit i) l M J := h
end unroll
section call
variable {C : Cx} {Q : XQ} {l : Env} {M J : Mem} {d i j t : Nat} {ty : TypeId} {pos : String} {af : Array Edge} {b : Bool} {f : FuncId} {xs : List Operand} {vs : List Value} {ts : Array TypeId} {post : Value → Mem → Mem → Prop} {K : Env → Mem → Mem → Prop} {g : Option (Nat × Bool)}
theorem I2 (hx : Evs l xs vs) (hc : K7 C.P f = true)
    (hf : FnX C.P f vs [] (M ++ (J ++ C.A)) post) (hd : Nat.blt d C.N = true) (k : ∀ v M' J', post v M' J' → K ((d, v) :: l) (M' ++ M) (J' ++ J)) :
    OpL C ⟨some d, .call { callee := .value (.func f), args := xs.toArray, argTypes := ts }, ty, pos, af, g⟩ l M J K := E0 (Mc := []) (R := M) hx hc (.refl _) hf hd k
theorem C5 {ops : Array Oper} {rest : List Oper} (hx : Evs l xs vs) (hc : K7 C.P f = true) (hf : FnX C.P f vs [] (M ++ (J ++ C.A)) post) (hd : Nat.blt d C.N = true)
    (k : ∀ v M' J', post v M' J' → XL C ops rest Q ((d, v) :: l) (M' ++ M) (J' ++ J)) :
    XL C ops (⟨some d, .call { callee := .value (.func f), args := xs.toArray, argTypes := ts }, ty, pos, af, none⟩ :: rest) Q l M J := A5 rfl (I2 hx hc hf hd k)
theorem B2r {ops : Array Oper} {rest : List Oper} (ht : (ops[j]?).bind (·.dst) = some t) (hl : lk l t = some (.bool b)) (hx : Evs l xs vs) (hc : K7 C.P f = true) (hf : FnX C.P f vs [] (M ++ (J ++ C.A)) post) (hd : Nat.blt d C.N = true)
    (k : ∀ v M' J', post v M' J' → XL C ops rest Q ((d, v) :: l) (M' ++ M) (J' ++ J)) :
    XL C ops (⟨some d, .call { callee := .value (.func f), args := xs.toArray, argTypes := ts }, ty, pos, af, some (j, b)⟩ :: rest) Q l M J := G5 ht hl (I2 hx hc hf hd k)
variable {os : List Oper} {nd : List Nat} {plan : List (Nat × Nat)} {oj : Oper}
theorem L8 (hget : nth os i = some ⟨some d, .call { callee := .value (.func f), args := xs.toArray, argTypes := ts }, ty, pos, af, none⟩) (hx : Evs l xs vs) (hc : K7 C.P f = true) (hf : FnX C.P f vs [] (M ++ (J ++ C.A)) post) (hd : Nat.blt d C.N = true)
    (k : ∀ v M' J', post v M' J' → XF C os Q nd plan ((d, v) :: l) (M' ++ M) (J' ++ J)) : XF C os Q nd ((i, 2) :: plan) l M J :=
  B2q hget rfl fun w => I2 hx hc hf hd fun v M' J' hp => by simpa using k v M' J' hp
theorem A7n (hget : nth os i = some ⟨some d, .call { callee := .value (.func f), args := xs.toArray, argTypes := ts }, ty, pos, af, some (j, b)⟩) (hj : nth os j = some oj) (ht : oj.dst = some t) (hl : lk l t = some (.bool b)) (hx : Evs l xs vs) (hc : K7 C.P f = true) (hf : FnX C.P f vs [] (M ++ (J ++ C.A)) post) (hd : Nat.blt d C.N = true)
    (k : ∀ v M' J', post v M' J' → XF C os Q nd plan ((d, v) :: l) (M' ++ M) (J' ++ J)) : XF C os Q nd ((i, 2) :: plan) l M J :=
  B9A hget hj ht hl fun w => I2 hx hc hf hd fun v M' J' hp => by simpa using k v M' J' hp
theorem F1 {ops : Array Oper} {rest : List Oper} {v : Value} (hx : Evs l xs vs) (hc : K7 C.P f = true) (hf : FnV C.P f vs (M ++ (J ++ C.A)) v) (hd : Nat.blt d C.N = true) (k : XL C ops rest Q ((d, v) :: l) M J) :
    XL C ops (⟨some d, .call { callee := .value (.func f), args := xs.toArray, argTypes := ts }, ty, pos, af, none⟩ :: rest) Q l M J := C5 hx hc hf hd fun r M' J' h => by obtain ⟨rfl, rfl, rfl⟩ := h; exact k
theorem A9u {ops : Array Oper} {rest : List Oper} {v : Value} (ht : (ops[j]?).bind (·.dst) = some t) (hl : lk l t = some (.bool b)) (hx : Evs l xs vs) (hc : K7 C.P f = true) (hf : FnV C.P f vs (M ++ (J ++ C.A)) v) (hd : Nat.blt d C.N = true) (k : XL C ops rest Q ((d, v) :: l) M J) :
    XL C ops (⟨some d, .call { callee := .value (.func f), args := xs.toArray, argTypes := ts }, ty, pos, af, some (j, b)⟩ :: rest) Q l M J := B2r ht hl hx hc hf hd fun r M' J' h => by obtain ⟨rfl, rfl, rfl⟩ := h; exact k
theorem Q0 {v : Value} (hget : nth os i = some ⟨some d, .call { callee := .value (.func f), args := xs.toArray, argTypes := ts }, ty, pos, af, none⟩) (hx : Evs l xs vs) (hc : K7 C.P f = true) (hf : FnV C.P f vs (M ++ (J ++ C.A)) v) (hd : Nat.blt d C.N = true)
    (k : XF C os Q nd plan ((d, v) :: l) M J) : XF C os Q nd ((i, 2) :: plan) l M J := L8 hget hx hc hf hd fun r M' J' h => by obtain ⟨rfl, rfl, rfl⟩ := h; exact k
theorem A5I {v : Value} (hget : nth os i = some ⟨some d, .call { callee := .value (.func f), args := xs.toArray, argTypes := ts }, ty, pos, af, some (j, b)⟩) (hj : nth os j = some oj) (ht : oj.dst = some t) (hl : lk l t = some (.bool b)) (hx : Evs l xs vs) (hc : K7 C.P f = true) (hf : FnV C.P f vs (M ++ (J ++ C.A)) v) (hd : Nat.blt d C.N = true)
    (k : XF C os Q nd plan ((d, v) :: l) M J) : XF C os Q nd ((i, 2) :: plan) l M J := A7n hget hj ht hl hx hc hf hd fun r M' J' h => by obtain ⟨rfl, rfl, rfl⟩ := h; exact k
end call
end Go.Px

namespace Go.Px
theorem kr_ {X Z Y : Mem} : ∀ x ∈ Z ++ Y, x ∈ (X ++ Z) ++ Y := fun x hx => by rw [List.append_assoc]; exact List.mem_append_right _ hx
def zp : Nat → List Nat → List (Nat × Nat)
  | _, [] => []
  | i, c :: r => (i, c) :: zp (i + 1) r
section
variable {C : Cx} {Q : XQ} {l : Env} {M J : Mem} {os : List Oper} {K : Nat → Prop} {n0 : Nat} {nd : List Nat} {plan : List (Nat × Nat)} {i d j t : Nat} {op : Op} {ty : TypeId} {pos : String} {af : Array Edge} {b b' : Bool} {v : Value} {oj : Oper} {x : Operand}
theorem fm_ (hs : Region.noSelect os.toArray = true) (h : XF C os Q nd plan ((d, v) :: l) M J) (hget : nth os i = some ⟨some d, .move x, ty, pos, af, none⟩ := by exact rfl) (hx : ev l x = some v := by exact rfl) (hd : Nat.blt d C.N = true := by exact rfl) : XF C os Q nd ((i, 0) :: plan) l M J := C2 hs hget (A7e hx) hd h
theorem fa_ (hs : Region.noSelect os.toArray = true) (h : XF C os Q nd plan ((d, v) :: l) M J) (hget : nth os i = some ⟨some d, .assign x, ty, pos, af, none⟩ := by exact rfl) (hx : ev l x = some v := by exact rfl) (hd : Nat.blt d C.N = true := by exact rfl) : XF C os Q nd ((i, 0) :: plan) l M J := C2 hs hget (H8 hx) hd h
theorem km_ (hs : Region.noSelect os.toArray = true) (h : XK C os Q K n0 nd plan ((d, v) :: l) M J) (hget : nth os i = some ⟨some d, .move x, ty, pos, af, none⟩ := by exact rfl) (hx : ev l x = some v := by exact rfl) (hd : Nat.blt d C.N = true := by exact rfl) : XK C os Q K n0 nd ((i, 0) :: plan) l M J := L9 hs hget (A7e hx) hd h
theorem A5J (hs : Region.noSelect os.toArray = true) (h : XF C os Q nd plan ((d, undef) :: l) M J) (hget : nth os i = some ⟨some d, op, ty, pos, af, some (j, b)⟩ := by exact rfl) (hj : nth os j = some oj := by exact rfl) (ht : oj.dst = some t := by exact rfl) (hl : lk l t = some (.bool b') := by exact rfl) (hb : (b' == b) = false := by exact rfl) (hd : Nat.blt d C.N = true := by exact rfl) : XF C os Q nd ((i, 0) :: plan) l M J := B9y hs hget hj ht hl hb hd h
theorem B84 (hs : Region.noSelect os.toArray = true) (h : XF C os Q nd plan ((d, undef) :: l) M J) (hget : nth os i = some ⟨some d, op, ty, pos, af, some (j, b)⟩ := by exact rfl) (hj : nth os j = some oj := by exact rfl) (ht : oj.dst = some t := by exact rfl) (hl : lk l t = some (.bool b') := by exact rfl) (hb : (b' == b) = false := by exact rfl) (hd : Nat.blt d C.N = true := by exact rfl) : XF C os Q nd ((i, 1) :: plan) l M J := B9z hs hget hj ht hl hb hd h
theorem Z0 {R : Mem} (hs : Region.noSelect os.toArray = true) (hget : nth os i = some ⟨some d, op, ty, pos, af, none⟩) (hn : ∀ x ∈ R, ¬ K x.1) (hq : OpQ C.P R ⟨some d, op, ty, pos, af, none⟩ l v) (h : XK C os Q K n0 nd plan ((d, v) :: l) M J) (hR : ∀ x ∈ R, x ∈ M ++ (J ++ C.A) := by first | exact fun x hx => by rw [List.append_assoc]; exact List.mem_append_right _ hx | exact SubC.sub) (hd : Nat.blt d C.N = true := by exact rfl) : XK C os Q K n0 nd ((i, 1) :: plan) l M J := XK.r hs hget hR hn hq hd h
end
end Go.Px

