/- Part 3 of the texts of this claim, one behind the other. -/
import Derived.Test.YthbhpfefdnffaaaGreatDoorB2
import Derived.LoopN
set_option linter.unusedVariables false
set_option linter.unusedSimpArgs false
set_option maxRecDepth 100000
namespace Go.Proofs.YthbhpfefdnffaaaGreatDoor
open Go.Px
def A50 (R : Mem) (v : Value) (ps : List (List Nat)) : Prop :=
  ∃ vs : List Value, Rd R 1 v ps.length vs ∧ ∀ (i : Nat) (p : List Nat), ps[i]? = some p → (∀ x ∈ p, x < 256) ∧ ∃ u, vs[i]? = some u ∧ Rd R 1 u p.length (nums .u8 p)
theorem A50.mono {R R' : Mem} {v : Value} {ps : List (List Nat)} (h : A50 R v ps) (hR : ∀ x, x ∈ R → x ∈ R') : A50 R' v ps := by
  obtain ⟨vs, h1, h2⟩ := h
  refine ⟨vs, h1.mono hR, fun i p hp => ?_⟩
  obtain ⟨h3, u, h4, h5⟩ := h2 i p hp
  exact ⟨h3, u, h4, h5.mono hR⟩
def A0k (ps : List (List Nat)) (i : Nat) : List Nat := (ps.take i).flatten
theorem A6T {ps : List (List Nat)} {i : Nat} {p : List Nat} (h : ps[i]? = some p) : A0k ps (i + 1) = A0k ps i ++ p := by
  unfold A0k; rw [List.take_add_one, h]; simp
theorem A1u (ps : List (List Nat)) : A0k ps ps.length = ps.flatten := by unfold A0k; rw [List.take_length]
theorem B0R (ps : List (List Nat)) (i : Nat) : (A0k ps i).length ≤ ps.flatten.length := by
  have h := congrArg (fun l => (List.flatten l).length) (List.take_append_drop i ps)
  simp only [List.flatten_append, List.length_append] at h
  unfold A0k; omega
theorem A4F {ps : List (List Nat)} (h : ∀ (i : Nat) (p : List Nat), ps[i]? = some p → ∀ x ∈ p, x < 256) (i : Nat) : ∀ x ∈ A0k ps i, x < 256 := by
  intro x hx
  obtain ⟨p, hp, hx⟩ := List.mem_flatten.1 hx
  obtain ⟨j, hj⟩ := List.getElem?_of_mem (List.mem_of_mem_take hp)
  exact h j p hj x hx
theorem A51 (m : List Nat) : (I1 m).length = 64 * ((I1 m).length / 64) ∧ 64 * (m.length / 64) ≤ (I1 m).length ∧ (I1 m).length ≤ m.length + 73 := by
  have e : (I1 m).length = m.length + 1 + A1J m.length + 8 := by simp [I1, A8K]; omega
  have hz : A1J m.length = (119 - m.length % 64) % 64 := rfl
  omega
theorem A4G (m : List Nat) (k : Nat) (h : 64 * k ≤ m.length) : (I1 m).drop (64 * k) = m.drop (64 * k) ++ (128 :: (List.replicate (A1J m.length) 0 ++ A8K m.length 8)) := by
  unfold I1; rw [List.drop_append_of_le_length h]
theorem A6U {m : List Nat} (h : ∀ x ∈ m, x < 256) : ∀ x ∈ I1 m, x < 256 := by
  intro x hx
  unfold I1 at hx
  rcases List.mem_append.1 hx with hx | hx
  · exact h x hx
  · rcases List.mem_cons.1 hx with rfl | hx
    · decide
    · rcases List.mem_append.1 hx with hx | hx
      · rw [(List.mem_replicate.1 hx).2]; decide
      · obtain ⟨i, _, rfl⟩ := List.mem_map.1 hx
        exact Nat.mod_lt _ (by decide)
theorem A3I {k : IntKind} {ws : List Nat} (n : Nat) : (nums k ws).take (n * 1) = nums k (ws.take n) := by rw [Nat.mul_one, A0H]
theorem A3J {k : IntKind} {ws : List Nat} (n : Nat) : (nums k ws).drop (n * 1) = nums k (ws.drop n) := by rw [Nat.mul_one, Y7]
theorem A6V (s t : S8) : (nums .u32 s.list).length = (nums .u32 t.list).length := by rw [nums_len, nums_len]; simp [S8.list]
theorem A6W (n k : Nat) : A8K n (k + 1) = A8K n k ++ [(8 * n) >>> (56 - 8 * k) % 256] := by simp [A8K, List.range_succ]
theorem A22 (v : Value) (ps : List (List Nat)) (A : Mem) (hv : A50 A v ps) (htot : ps.flatten.length ≤ 2147483648) (hcnt : ps.length ≤ 2147483648) {ef ek : TypeId} {ff fk : Nat × Nat} (h0 : (0, Obj.cells (nums .u32 A1K.list).toArray ef ff) ∈ A) (h1 : (1, Obj.cells (nums .u32 A2k).toArray ek fk) ∈ A) :
  FnX Tryz.prog 138 [v] [] A fun r M J => J = [] ∧ Sl 1 r 32 (nums .u8 (V8 ps.flatten)) M := by
 obtain ⟨vs, hvs, hps⟩ := hv
 refine FnX.enter (N := 90) Tryz.func138 rfl rfl rfl fun w => ?_
 refine B0 (D2 0) (A1 (as_ (A0 (D2 0) (A1 ?_))))
 refine A2 (V4 (cs := nums .u32 A1K.list) (n := 8) rfl kR (mA h0) (by rfl)) rfl ?_
 refine A4 rfl (C4 (cs := [I0, I0, I0, I0, I0, I0, I0, I0]) kR rfl fun b3 => ?_)
 refine A5d rfl rfl kR (by rfl) F4 ?_
 refine as_ (A0 (D3 0 3 4) (A1 (as_ (A0 (D8 0 3 4 5) (A3 (A1 (mv_ ?_)))))))
 refine A2 (X9 hvs rfl kR) rfl ?_
 refine mv_ (A0 (H9 3 4 5 13 14 15) (A6 ?_))
 refine E2 (α := Nat × Value × Mem) (fun x => [(3, .pointer (some ⟨b3, 0, none⟩)), (4, .int .i64 ((A0k ps x.1).length : Int)), (5, x.2.1), (13, v), (14, .int .i64 (ps.length : Int)), (15, .int .i64 (x.1 : Int))]) (fun x => x.2.2 ++ [(b3, blk (nums .u32 (A2W A2k ((A0k ps x.1).length / 64) A1K (A0k ps x.1)).list) 222)]) (fun _ => []) (fun x => x.1 ≤ ps.length ∧ Sl 1 x.2.1 ((A0k ps x.1).length - 64 * ((A0k ps x.1).length / 64)) (nums .u8 ((A0k ps x.1).drop (64 * ((A0k ps x.1).length / 64)))) x.2.2) (fun x => ps.length - x.1) (0, .slice none 0 0, []) ⟨Nat.zero_le _, V5 Sl.nil (by simp [A0k]) (by simp [A0k, nums])⟩ (H9 3 4 5 13 14 15) (Fit.eq (by simp [A0k, A2W])) (fun _ h => h) ?_
 rintro ⟨i, rv, B⟩ ⟨hi, hsl⟩
 dsimp only at hi hsl ⊢
 refine A1 ?_
 refine A2 (E0 rfl rfl rfl) rfl ?_
 refine A0 (V6 3 4 5 13 14 15 16) (A3 ?_)
 refine C5 rfl (fun hc => ?_) (fun hc => ?_)
 ·
  have hlt : i < ps.length := by simp at hc; omega
  obtain ⟨q, hq⟩ : ∃ q, ps[i]? = some q := ⟨_, List.getElem?_eq_getElem hlt⟩
  obtain ⟨hq256, u, hu, hqr⟩ := hps i q hq
  have hps1 := A6T hq
  have hle1 := B0R ps (i + 1)
  have hpl : (A0k ps (i + 1)).length = (A0k ps i).length + q.length := by rw [hps1, List.length_append]
  generalize hm : A0k ps i = m at *
  refine A5 (nx (H9 3 4 5 13 14 15) (A3 (A6 (A1 ?_))))
  refine A2 (B0P hvs rfl rfl kR i rfl hlt) rfl ?_
  refine A2 (Y9 (hvs.mono fun _ h => mA h) rfl kR hu) rfl ?_
  refine as_ (A0 (V6 3 4 5 7 13 14 15) (A1 (mv_ (mv_ ?_))))
  refine A2 (X9 hqr rfl kR) rfl ?_
  refine A2 (D5 (((A0k ps (i + 1)).length : Nat) : Int) rfl rfl (F0 (by omega) (by omega) (by omega))) rfl ?_
  refine as_ (A0 (V6 3 4 5 7 13 14 15) (A1 (mv_ (mv_ ?_))))
  refine A4 rfl (U7 (e := 5) (sz := 1) (by_ := 1) (m := q.length) (B := B) rfl rfl kR rfl hsl (hqr.mono fun _ h => mA h) F4 (.refl _) (by unfold maxLen; omega) (by omega) rfl fun rv1 B1 hsl1 => ?_)
  have hsl1 : Sl 1 rv1 ((A0k ps (i + 1)).length - 64 * (m.length / 64)) (nums .u8 ((A0k ps (i + 1)).drop (64 * (m.length / 64)))) B1 := V5 hsl1 (by omega) (by rw [hps1, List.drop_append_of_le_length (by omega), H4])
  refine as_ (A0 (H9 3 4 5 13 14 15) (A6 ?_))
  refine E2 (α := Nat × Value × Mem) (fun x => [(3, .pointer (some ⟨b3, 0, none⟩)), (4, .int .i64 ((A0k ps (i + 1)).length : Int)), (5, x.2.1), (13, v), (14, .int .i64 (ps.length : Int)), (15, .int .i64 (i : Int))]) (fun x => x.2.2 ++ [(b3, blk (nums .u32 (A2W A2k x.1 A1K (A0k ps (i + 1))).list) 222)]) (fun _ => []) (fun x => 64 * x.1 ≤ (A0k ps (i + 1)).length ∧ Sl 1 x.2.1 ((A0k ps (i + 1)).length - 64 * x.1) (nums .u8 ((A0k ps (i + 1)).drop (64 * x.1))) x.2.2) (fun x => (A0k ps (i + 1)).length - 64 * x.1) (m.length / 64, rv1, B1) ⟨by dsimp only; omega, hsl1⟩ (H9 3 4 5 13 14 15) (Fit.eq (by dsimp only; rw [hps1, A2Z _ _ _ _ _ (by omega)])) (fun _ h => h) ?_
  clear hsl1 hsl
  rintro ⟨k, rv, B⟩ ⟨hk1, hsl⟩
  dsimp only at hk1 hsl ⊢
  refine A3 (A1 (mv_ ?_))
  refine A2 (X9 (hsl.rd fun _ h => h) rfl kR) rfl ?_
  refine A2 (E0 rfl rfl rfl) rfl ?_
  refine A0 (V6 3 4 5 13 14 15 28) ?_
  refine C5 rfl (fun hc => ?_) (fun hc => ?_)
  ·
   have hge : 64 ≤ (A0k ps (i + 1)).length - 64 * k := by simp at hc; omega
   obtain ⟨B2, hB2, hsl2⟩ := hsl.loV 64 hge
   refine A5 (nx (H9 3 4 5 13 14 15) (A6 ?_))
   refine A0q (_) [0, 1, 2] [(0, 1), (1, 0), (2, 0), (3, 2), (4, 2)] kR kR (fun _ h => h) fun hs => ?_
   refine A2m hs rfl (V4 (n := 8) rfl kR At.mem (by rfl)) rfl ?_
   refine H3 hs rfl qm_ rfl ?_
   refine H3 hs rfl (B2u (hsl.rd fun _ h => h) rfl rfl kR 64 rfl hge) rfl ?_
   refine A0r rfl rfl rfl (Q0 (aS rfl (aS rfl a0)) kR (A2y _ (A2Y _ _ _ A2X) _ (fun x hx => (A4F (fun j p hp => (hps j p hp).1) (i + 1)) x (List.mem_of_mem_drop (List.mem_of_mem_take hx))) _ _ (A0L ((hsl.rd fun _ h => by simp [h]).hiV 64 hge) rfl (A3I 64)) (mA h1)) rfl ?_)
   refine A0r rfl rfl rfl (A8 rfl rfl rfl kR (A6V _ _) F4 UpC.upd ?_)
   refine A1D (H9 3 4 5 13 14 15) ?_
   refine A9 (mv_ ?_)
   refine A2 (B0O (hsl.rd fun _ h => h) rfl rfl kR 64 rfl hge) rfl ?_
   refine as_ (C2 (nb ?_))
   refine rn (k + 1, _, B2) ⟨by dsimp only; omega, V5 hsl2 (by dsimp only; omega) (by rw [A3J, List.drop_drop]; rfl)⟩ (by dsimp only; omega) (H9 3 4 5 13 14 15) ?_ (fun _ h => h)
   dsimp only
   rw [A1L]
   exact Fit.sub (List.Sublist.append hB2 (List.Sublist.refl _))
  ·
   have hge : k = (A0k ps (i + 1)).length / 64 := by simp at hc; omega
   subst hge
   refine D6 (te (re (be rfl (nb (nx (H9 3 4 5 13 14 15) (A9 ?_))))))
   refine A2 (D5 ((i + 1 : Nat) : Int) rfl rfl (F0 (by omega) (by omega) (by omega))) rfl ?_
   refine mv_ (C2 ?_)
   refine rn (i + 1, _, B) ⟨by dsimp only; omega, hsl⟩ (by dsimp only; omega) (H9 3 4 5 13 14 15) .rfl (fun _ h => h)
 ·
  have hlt : i = ps.length := by simp at hc; omega
  subst hlt
  rw [A1u] at hsl
  simp only [A1u]
  generalize hm : ps.flatten = m at *
  refine D6 (te (re (be rfl (nx (D3 3 4 5) (A1 (mv_ ?_))))))
  refine A4 rfl (C0 (e := 5) (sz := 1) (z := [.int .u8 0]) kR (eS rfl e0) (bdS 0 1 rfl (by rfl) bd0) rfl fun b37 => ?_)
  have hm256 : ∀ x ∈ m, x < 256 := by rw [← hm, ← A1u]; exact A4F (fun j p hp => (hps j p hp).1) _
  have htot' : m.length ≤ 2147483648 := htot
  refine A4 rfl (U7 (e := 5) (sz := 1) (by_ := 1) (m := 1) (B := B) (ys := nums .u8 [128]) (M0 := (b37, _) :: _) rfl rfl kR rfl hsl (Rd.whole (n := 1) m0 (by rfl)) F4 pkB (by unfold maxLen; omega) (by omega) rfl fun rv1 B1 hsl1 => ?_)
  clear hsl
  have hsl1 : Sl 1 rv1 (m.length % 64 + 1) (nums .u8 (m.drop (64 * (m.length / 64)) ++ [128])) B1 := V5 hsl1 (by omega) (by rw [H4])
  refine as_ (A0 (D3 3 4 5) (A3 (A6 ?_)))
  refine E2 (α := Nat × Value × Mem) (fun x => [(3, .pointer (some ⟨b3, 0, none⟩)), (4, .int .i64 (m.length : Int)), (5, x.2.1)]) (fun x => x.2.2 ++ [(b3, blk (nums .u32 (A2W A2k (m.length / 64) A1K m).list) 222)]) (fun _ => []) (fun x => x.1 ≤ A1J m.length ∧ Sl 1 x.2.1 (m.length % 64 + 1 + x.1) (nums .u8 (m.drop (64 * (m.length / 64)) ++ (128 :: List.replicate x.1 0))) x.2.2) (fun x => A1J m.length - x.1) (0, rv1, B1) ⟨Nat.zero_le _, hsl1⟩ (D3 3 4 5) (Fit.head1' (List.Sublist.refl _)) (fun _ h => h) ?_
  clear hsl1
  rintro ⟨z, rv, B⟩ ⟨hz, hsl⟩
  dsimp only at hz hsl ⊢
  have hzz : A1J m.length = (119 - m.length % 64) % 64 := rfl
  refine A3 (A1 (mv_ ?_))
  refine A2 (X9 (hsl.rd fun _ h => h) rfl kR) rfl ?_
  refine A2 (A6M (b := 64) rfl rfl (by decide)) rfl ?_
  refine A2 (E0 rfl rfl rfl) rfl ?_
  refine A0 (D8 3 4 5 42) ?_
  refine C5 rfl (fun hc => ?_) (fun hc => ?_)
  ·
   have hlt : z < A1J m.length := by simp at hc; omega
   refine A5 (nx (D3 3 4 5) (A6 (A9 (mv_ ?_))))
   refine A4 rfl (C0 (e := 5) (sz := 1) (z := [.int .u8 0]) kR (eS rfl e0) (bdS 0 1 rfl (by rfl) bd0) rfl fun b44 => ?_)
   refine A4 rfl (U7 (e := 5) (sz := 1) (by_ := 1) (m := 1) (B := B) (ys := nums .u8 [0]) (M0 := (b44, _) :: _) rfl rfl kR rfl hsl (Rd.whole (n := 1) m0 (by rfl)) F4 pkB (by unfold maxLen; omega) (by omega) rfl fun rv1 B1 hsl1 => ?_)
   refine as_ (C2 (nb ?_))
   refine rn (z + 1, rv1, B1) ⟨by dsimp only; omega, V5 hsl1 (by dsimp only; omega) ?_⟩ (by dsimp only; omega) (D3 3 4 5) (Fit.head1' (List.Sublist.refl _)) (fun _ h => h)
   dsimp only
   rw [← H4, List.append_assoc, List.cons_append, ← List.replicate_succ']
  ·
   have hlt : z = A1J m.length := by simp at hc; omega
   subst hlt
   refine D6 (te (re (be rfl (nx (D3 3 4 5) (A3 (A1 (mv_ ?_)))))))
   refine A0 (D8 3 4 5 46) (A6 ?_)
   refine E2 (α := Nat × Value × Mem) (fun x => [(3, .pointer (some ⟨b3, 0, none⟩)), (4, .int .i64 (m.length : Int)), (5, x.2.1), (46, .int .i64 (x.1 : Int))]) (fun x => x.2.2 ++ [(b3, blk (nums .u32 (A2W A2k (m.length / 64) A1K m).list) 222)]) (fun _ => []) (fun x => x.1 ≤ 8 ∧ Sl 1 x.2.1 (m.length % 64 + 1 + A1J m.length + x.1) (nums .u8 (m.drop (64 * (m.length / 64)) ++ (128 :: (List.replicate (A1J m.length) 0 ++ A8K m.length x.1)))) x.2.2) (fun x => 8 - x.1) (0, rv, B) ⟨Nat.zero_le _, V5 hsl rfl (by simp [A8K])⟩ (D8 3 4 5 46) .rfl (fun _ h => h) ?_
   clear hsl
   rintro ⟨i, rv, B⟩ ⟨hi, hsl⟩
   dsimp only at hi hsl ⊢
   refine A1 ?_
   refine A2 (E0 rfl rfl rfl) rfl ?_
   refine A0 (E4 3 4 5 46 47) (A3 ?_)
   refine C5 rfl (fun hc => ?_) (fun hc => ?_)
   ·
    have hlt : i < 8 := by simp at hc; omega
    refine A5 (nx (D8 3 4 5 46) (A3 (A6 (A1 (mv_ (as_ (A0 (E4 3 4 5 8 46) (A9 ?_))))))))
    refine mv_ (mv_ ?_)
    refine A2 (D5 ((8 * m.length : Nat) : Int) rfl rfl (A3C (by omega) (by omega) (by omega))) rfl ?_
    refine A2 (A1i (k' := .u64) rfl kR (by show _ < 9223372036854775808; omega)) rfl ?_
    refine mv_ ?_
    refine A2 (D5 ((8 * i : Nat) : Int) rfl rfl (A3C (by omega) (by omega) (by omega))) rfl ?_
    refine A2 (D5 ((56 - 8 * i : Nat) : Int) rfl rfl (Y6 (by omega) (by omega) (by omega))) rfl ?_
    refine A2 (X8 (56 - 8 * i) rfl rfl rfl (by show _ ≤ 64; omega)) rfl ?_
    refine A2 (A1H rfl kR) rfl ?_
    refine A4 rfl (C0 (e := 5) (sz := 1) (z := [.int .u8 0]) kR (eS rfl e0) (bdS 0 1 rfl (by rfl) bd0) rfl fun b58 => ?_)
    refine A4 rfl (U7 (e := 5) (sz := 1) (by_ := 1) (m := 1) (B := B) (ys := nums .u8 [(8 * m.length) >>> (56 - 8 * i) % 256]) (M0 := (b58, _) :: _) rfl rfl kR rfl hsl (Rd.whole (n := 1) m0 (by rfl)) F4 pkB (by unfold maxLen; omega) (by omega) rfl fun rv1 B1 hsl1 => ?_)
    refine as_ (C2 (nb (nx (D8 3 4 5 46) (A9 ?_))))
    refine A2 (D5 ((i + 1 : Nat) : Int) rfl rfl (F0 (by omega) (by omega) (by omega))) rfl ?_
    refine mv_ (C2 ?_)
    refine rn (i + 1, rv1, B1) ⟨by dsimp only; omega, V5 hsl1 (by dsimp only; omega) ?_⟩ (by dsimp only; omega) (D8 3 4 5 46) (Fit.head1' (List.Sublist.refl _)) (fun _ h => h)
    dsimp only
    rw [← H4, List.append_assoc, List.cons_append, List.append_assoc, ← A6W]
   ·
    have hlt : i = 8 := by simp at hc; omega
    subst hlt
    refine D6 (te (re (be rfl (nx (C9 3 5) (A3 (A6 ?_))))))
    obtain ⟨hp1, hp2, hp3⟩ := A51 m
    have hsl0 := V5 (n' := (I1 m).length - 64 * (m.length / 64)) (xs' := nums .u8 ((I1 m).drop (64 * (m.length / 64)))) hsl (by simp [I1, A8K]; omega) (by rw [A4G _ _ (by omega)])
    clear hsl
    refine E2 (α := Nat × Value × Mem) (fun x => [(3, .pointer (some ⟨b3, 0, none⟩)), (5, x.2.1)]) (fun x => x.2.2 ++ [(b3, blk (nums .u32 (A2W A2k x.1 A1K (I1 m)).list) 222)]) (fun _ => []) (fun x => 64 * x.1 ≤ (I1 m).length ∧ Sl 1 x.2.1 ((I1 m).length - 64 * x.1) (nums .u8 ((I1 m).drop (64 * x.1))) x.2.2) (fun x => (I1 m).length - 64 * x.1) (m.length / 64, rv, B) ⟨hp2, hsl0⟩ (C9 3 5) (Fit.eq (by dsimp only; unfold I1; rw [A2Z _ _ _ _ _ (by omega)])) (fun _ h => h) ?_
    clear hsl0
    rintro ⟨k, rv, B⟩ ⟨hk1, hsl⟩
    dsimp only at hk1 hsl ⊢
    refine A3 (A1 (mv_ ?_))
    refine A2 (X9 (hsl.rd fun _ h => h) rfl kR) rfl ?_
    refine A2 (E0 rfl rfl rfl) rfl ?_
    refine A0 (D3 3 5 63) ?_
    refine C5 rfl (fun hc => ?_) (fun hc => ?_)
    ·
     have hge : 64 ≤ (I1 m).length - 64 * k := by simp at hc; omega
     obtain ⟨B2, hB2, hsl2⟩ := hsl.loV 64 hge
     refine A5 (nx (C9 3 5) (A3 (A6 ?_)))
     refine A0G (_) [0, 1, 2] [(0, 1), (1, 0), (2, 0), (3, 2), (4, 2)] kR kR (fun _ h => h) fun hs => ?_
     refine A2m hs rfl (V4 (n := 8) rfl kR At.mem (by rfl)) rfl ?_
     refine H3 hs rfl qm_ rfl ?_
     refine H3 hs rfl (B2u (hsl.rd fun _ h => h) rfl rfl kR 64 rfl hge) rfl ?_
     refine A0r rfl rfl rfl (Q0 (aS rfl (aS rfl a0)) kR (A2y _ (A2Y _ _ _ A2X) _ (fun x hx => (A6U hm256) x (List.mem_of_mem_drop (List.mem_of_mem_take hx))) _ _ (A0L ((hsl.rd fun _ h => by simp [h]).hiV 64 hge) rfl (A3I 64)) (mA h1)) rfl ?_)
     refine A0r rfl rfl rfl (A8 rfl rfl rfl kR (A6V _ _) F4 UpC.upd ?_)
     refine A3A ?_
     refine nb (nx (C9 3 5) (A9 (mv_ ?_)))
     refine A2 (B0O (hsl.rd fun _ h => h) rfl rfl kR 64 rfl hge) rfl ?_
     refine as_ (C2 ?_)
     refine rn (k + 1, _, B2) ⟨by dsimp only; omega, V5 hsl2 (by dsimp only; omega) (by rw [A3J, List.drop_drop]; rfl)⟩ (by dsimp only; omega) (C9 3 5) ?_ (fun _ h => h)
     dsimp only
     rw [A1L]
     exact Fit.sub (List.Sublist.append hB2 (List.Sublist.refl _))
    ·
     have hge : k = (I1 m).length / 64 := by simp at hc; omega
     subst hge
     refine D6 (te (re (be rfl (nx (D2 3) (A1 (as_ (A0 (C9 3 9) ?_)))))))
     refine A3 (A1 ?_)
     have hro := A2Y A2k ((I1 m).length / 64) (I1 m) A2X
     generalize hr : A2W A2k ((I1 m).length / 64) A1K (I1 m) = r at *
     refine A6G (n := 8) rfl kR (by rfl) rfl ?_
     refine mv_ (A0 (D3 9 70 71) (A6 ?_))
     refine E2 (α := Nat × Value × Mem) (fun x => [(9, x.2.1), (70, .agg (nums .u32 r.list).toArray), (71, .int .i64 (x.1 : Int))]) (fun x => x.2.2) (fun _ => []) (fun x => x.1 ≤ 8 ∧ Sl 1 x.2.1 (4 * x.1) (nums .u8 ((r.list.take x.1).flatMap B0I)) x.2.2) (fun x => 8 - x.1) (0, .slice none 0 0, []) ⟨Nat.zero_le _, Sl.nil⟩ (D3 9 70 71) (Fit.sub (List.nil_sublist _)) (fun _ h => h) ?_
     clear hsl
     rintro ⟨i, rv, B⟩ ⟨hi, hsl⟩
     dsimp only at hi hsl ⊢
     refine A1 ?_
     refine A2 (E0 rfl rfl rfl) rfl ?_
     refine A0 (D8 9 70 71 72) (A3 ?_)
     refine C5 rfl (fun hc => ?_) (fun hc => ?_)
     ·
      have hlt : i < 8 := by simp at hc; omega
      have hx32 : r.list.getD i 0 < 4294967296 := getD_lt hro (by decide)
      refine A5 (nx (D3 9 70 71) (A3 (A6 (A1 ?_))))
      refine A2 (B0Q (e := 30) (m := 8) (j := i) rfl rfl kR kR kR rfl hlt (A0I (show i < 8 from hlt))) rfl ?_
      refine as_ (A0 (D8 9 11 70 71) (A9 (mv_ (mv_ ?_))))
      refine A2 (X8 24 rfl rfl rfl (by decide)) rfl ?_
      refine A2 (A1H rfl kR) rfl ?_
      refine mv_ ?_
      refine A2 (X8 16 rfl rfl rfl (by decide)) rfl ?_
      refine A2 (A1H rfl kR) rfl ?_
      refine mv_ ?_
      refine A2 (X8 8 rfl rfl rfl (by decide)) rfl ?_
      refine A2 (A1H rfl kR) rfl ?_
      refine mv_ ?_
      refine A2 (A1H rfl kR) rfl ?_
      refine A4 rfl (C0 (e := 5) (sz := 1) (z := [zu8, zu8, zu8, zu8]) kR (eS rfl (eS rfl (eS rfl (eS rfl e0)))) (bdS 0 1 rfl (by rfl) (bdS 1 1 rfl (by rfl) (bdS 2 1 rfl (by rfl) (bdS 3 1 rfl (by rfl) bd0)))) rfl fun b86 => ?_)
      refine A4 rfl (U7 (e := 5) (sz := 1) (by_ := 1) (m := 4) (B := B) (ys := nums .u8 (B0I (r.list.getD i 0))) (M0 := (b86, _) :: _) rfl rfl kR rfl hsl (Rd.whole (n := 4) m0 (by rfl)) F4 pkB0 (by unfold maxLen; omega) (by omega) rfl fun rv1 B1 hsl1 => ?_)
      refine as_ (C2 (nb (nx (D3 9 70 71) (A9 ?_))))
      refine A2 (D5 ((i + 1 : Nat) : Int) rfl rfl (F0 (by omega) (by omega) (by omega))) rfl ?_
      refine mv_ (C2 ?_)
      refine rn (i + 1, rv1, B1) ⟨by dsimp only; omega, V5 hsl1 (by dsimp only; omega) ?_⟩ (by dsimp only; omega) (D3 9 70 71) (Fit.sub (List.sublist_append_left _ _)) (fun _ h => h)
      dsimp only
      rw [← H4, List.take_add_one, List.flatMap_append, List.getElem?_eq_getElem (show i < r.list.length from hlt), List.getD, List.getElem?_eq_getElem (show i < r.list.length from hlt)]
      simp
     ·
      have hlt : i = 8 := by simp at hc; omega
      subst hlt
      refine D6 (te (re (be rfl (nx (D2 9) (A1 (mv_ (as_ (A0 (D2 2) ?_))))))))
      refine B4 ?_
      refine ⟨_, B, [], I9 rfl rfl, List.Sublist.refl _, by simp, rfl, V5 hsl rfl ?_⟩
      unfold V8; rw [hr]; rfl

def Pv (R : Mem) (vs : List Value) (ps : List (List Nat)) : Prop := vs.length = ps.length ∧ ∀ (i : Nat) (p : List Nat), ps[i]? = some p → (∀ x ∈ p, x < 256) ∧ ∃ u, vs[i]? = some u ∧ Rd R 1 u p.length (nums .u8 p)
theorem Pv.nil {R : Mem} : Pv R [] [] := ⟨rfl, fun i p h => by simp at h⟩
theorem Pv.cons {R : Mem} {vs : List Value} {ps : List (List Nat)} {u : Value} {p : List Nat} (hp : ∀ x ∈ p, x < 256) (hu : Rd R 1 u p.length (nums .u8 p)) (h : Pv R vs ps) : Pv R (u :: vs) (p :: ps) := by
  refine ⟨by simp [h.1], fun i q hq => ?_⟩
  cases i with
  | zero => cases hq; exact ⟨hp, u, rfl, hu⟩
  | succ i => exact h.2 i q (by simpa using hq)
theorem Pv.mono {R R' : Mem} {vs : List Value} {ps : List (List Nat)} (h : Pv R vs ps) (hR : ∀ x, x ∈ R → x ∈ R') : Pv R' vs ps := by
  refine ⟨h.1, fun i p hp => ?_⟩
  obtain ⟨h3, u, h4, h5⟩ := h.2 i p hp
  exact ⟨h3, u, h4, h5.mono hR⟩
theorem Pv.one {R : Mem} {vs : List Value} {ps : List (List Nat)} (h : Pv R vs ps) : ∀ c ∈ vs, c.oneCell' = true := by
  intro c hc
  obtain ⟨i, hi⟩ := List.getElem?_of_mem hc
  have hlt := (List.getElem?_eq_some_iff.1 hi).1
  obtain ⟨_, u, hu, p, c', rfl, _⟩ := h.2 i _ (List.getElem?_eq_getElem (h.1 ▸ hlt))
  rw [hi] at hu; cases hu; rfl
theorem Pv.lt {R : Mem} {vs : List Value} {ps : List (List Nat)} (h : Pv R vs ps) : ∀ x ∈ ps.flatten, x < 256 := by
  rw [← A1u]
  exact A4F (fun i p hp => (h.2 i p hp).1) _
theorem A50.of {R : Mem} {v : Value} {n : Nat} {vs : List Value} {ps : List (List Nat)} (h : Rd R 1 v n vs) (hn : n = ps.length) (hp : Pv R vs ps) : A50 R v ps := ⟨vs, hn ▸ h, hp.2⟩
theorem A50.pv {R : Mem} {v : Value} {ps : List (List Nat)} (h : A50 R v ps) : ∃ vs, Rd R 1 v ps.length vs ∧ Pv R vs ps := by
  obtain ⟨vs, h1, h2⟩ := h
  exact ⟨vs, h1, by have := h1.len; omega, h2⟩
theorem A1O (p : List Nat) : (V8 p).length = 32 := by simp [V8, S8.bytes, S8.list, B0I]
theorem A6X (p : List Nat) : ∀ x ∈ V8 p, x < 256 := by
  intro x hx
  obtain ⟨y, _, hy⟩ := List.mem_flatMap.1 hx
  simp only [B0I, List.mem_cons, List.not_mem_nil, or_false] at hy
  rcases hy with rfl | rfl | rfl | rfl <;> exact Nat.mod_lt _ (by decide)
def A0s (ks : List Nat) (x i : Nat) : List Nat := (ks.take i).map (· ^^^ x) ++ ks.drop i
theorem A0M (ks : List Nat) (x i : Nat) : (A0s ks x i).length = ks.length := by simp [A0s]; omega
theorem A0N {ks : List Nat} {x i : Nat} (h : i < ks.length) : (A0s ks x i).getD i 0 = ks.getD i 0 := by
  unfold A0s
  have hl : ((ks.take i).map (· ^^^ x)).length = i := by simp; omega
  simp only [List.getD]
  rw [List.getElem?_append_right (by omega), hl, Nat.sub_self, List.getElem?_drop, Nat.add_zero]
theorem A2A {ks : List Nat} {x i : Nat} (h : i < ks.length) : (A0s ks x i).set i (ks.getD i 0 ^^^ x) = A0s ks x (i + 1) := by
  unfold A0s
  have hl : ((ks.take i).map (· ^^^ x)).length = i := by simp; omega
  rw [List.set_append_right _ _ (by omega), hl, Nat.sub_self, List.drop_eq_getElem_cons h, List.set_cons_zero, List.take_add_one, List.getD, List.getElem?_eq_getElem h]
  simp only [Option.getD_some, Option.toList_some, List.map_append, List.map_cons, List.map_nil, List.append_assoc, List.cons_append, List.nil_append]
theorem A3K {ks : List Nat} {x i : Nat} (h : ks.length = i) : A0s ks x i = ks.map (· ^^^ x) := by
  unfold A0s; rw [← h]; simp
theorem A52 {key : List Nat} (h : key.length ≤ 64) (x : Nat) : (A1j key x).length = 64 := by simp [A1j]; omega
theorem A6Y {key : List Nat} (h : ∀ x ∈ key, x < 256) {y : Nat} (hy : y < 256) : ∀ x ∈ A1j key y, x < 256 := by
  intro x hx
  obtain ⟨z, hz, rfl⟩ := List.mem_map.1 hx
  refine Nat.xor_lt_two_pow (n := 8) ?_ hy
  rcases List.mem_append.1 hz with hz | hz
  · exact h z hz
  · rw [(List.mem_replicate.1 hz).2]; decide
theorem A53 (key : List Nat) : (Y8 key).length ≤ 64 := by
  unfold Y8; split
  · rw [A1O]; decide
  · omega
theorem A6Z {key : List Nat} (h : ∀ x ∈ key, x < 256) : ∀ x ∈ Y8 key, x < 256 := by
  unfold Y8; split
  · exact A6X _
  · exact h
theorem A5j (kv pv : Value) (key : List Nat) (ps : List (List Nat)) (A : Mem) (hkey : Rd A 1 kv key.length (nums .u8 key)) (hk256 : ∀ x ∈ key, x < 256) (hk31 : key.length ≤ 1073741824) (hp : A50 A pv ps) (htot : ps.flatten.length ≤ 1073741824) (hcnt : ps.length ≤ 1073741824) {ef ek : TypeId} {ff fk : Nat × Nat} (h0 : (0, Obj.cells (nums .u32 A1K.list).toArray ef ff) ∈ A) (h1 : (1, Obj.cells (nums .u32 A2k).toArray ek fk) ∈ A) :
  FnX Tryz.prog 102 [kv, pv] [] A fun r M J => J = [] ∧ Sl 1 r 32 (nums .u8 (A6v key ps.flatten)) M := by
 obtain ⟨vs, hvs, hpv⟩ := hp.pv
 haveI := hkey.cel
 refine FnX.enter (N := 42) Tryz.func102 rfl rfl rfl fun w => ?_
 refine B0 (C9 0 1) (A1 (as_ (A0 (C9 0 1) ?_)))
 refine Y4 (α := Value × Mem) (fun x => [(0, x.1), (1, pv)]) (fun x => x.2) (fun _ => []) (fun x => Rd (x.2 ++ A) 1 x.1 (Y8 key).length (nums .u8 (Y8 key))) ?_ ?_
 ·
  refine A1 (mv_ ?_)
  refine A2 (X9 hkey rfl kR) rfl ?_
  refine A2 (E0 rfl rfl rfl) rfl ?_
  refine A0 (D3 0 1 10) ?_
  refine C5 rfl (fun hc => ?_) (fun hc => ?_)
  ·
   have hgt : 64 < key.length := by simp at hc; omega
   refine A9 (mv_ ?_)
   refine A4 rfl (C0 (e := 27) (sz := 1) (z := [.slice none 0 0]) kR (eS rfl e0) (bdS 0 1 rfl (by rfl) bd0) rfl fun b12 => ?_)
   refine A4 rfl (D4 (Mc := []) (R := [_]) (aS rfl a0) kR (.refl _) (A22 _ [key] _ (A50.of (Rd.whole (n := 1) m0 (by rfl)) rfl (.cons hk256 (hkey.mono fun _ h => mA h) .nil)) (by simp; omega) (by simp) (mA h0) (mA h1)) rfl ?_)
   rintro r M1 J1 ⟨rfl, hr⟩
   refine as_ (C2 ?_)
   refine jn (r, _) ?_ (C9 0 1) .rfl (fun _ h => h)
   dsimp only
   rw [Y8, if_pos hgt, A1O]
   exact A0L (hr.rd fun _ h => by simp [h]) rfl (by simp)
  ·
   have hgt : ¬ 64 < key.length := by simp at hc; omega
   refine A5 ?_
   refine jn (kv, []) ?_ (C9 0 1) .rfl (fun _ h => h)
   dsimp only
   rw [Y8, if_neg hgt]
   exact hkey
 ·
  rintro ⟨kv1, Mk⟩ hkv
  dsimp only at hkv ⊢
  have hK64 := A53 key
  have hKb := A6Z hk256
  have hkl := A52 hK64
  have hklt := fun y hy => A6Y (y := y) hKb hy
  unfold A6v
  unfold A1j at *
  generalize Y8 key = K at *
  have hK1 : (K ++ List.replicate (64 - K.length) 0).length = 64 := by simp; omega
  have hK2 : ∀ x ∈ K ++ List.replicate (64 - K.length) 0, x < 256 := fun x hx => by
   rcases List.mem_append.1 hx with h | h
   · exact hKb x h
   · rw [(List.mem_replicate.1 h).2]; decide
  refine A1 ?_
  refine A4 rfl (C4 (cs := nums .u8 (List.replicate 64 0)) kR rfl fun b5 => ?_)
  refine A4 rfl (C4 (cs := nums .u8 (List.replicate 64 0)) kR rfl fun b6 => ?_)
  refine A0 (D8 0 1 5 6) (A1 ?_)
  refine A2 (A8M (e := 5) (sz := 1) (m := 64) rfl kR kR) rfl ?_
  refine mv_ ?_
  refine A4 rfl (B0b (e := 5) (by_ := 1) (n := K.length) (m := 64) (ws := List.replicate 64 0) (us := K) (ws' := K ++ List.replicate (64 - K.length) 0) rfl rfl kR (hkv.mono fun q hq => by rcases List.mem_append.1 hq with h | h <;> simp [h]) hK64 (by simp) (by rw [List.drop_replicate]) UpC.upd rfl ?_)
  refine A0 (D8 0 1 5 6) (A1 ?_)
  refine A2 (A8M (e := 5) (sz := 1) (m := 64) rfl kR kR) rfl ?_
  refine mv_ ?_
  refine A4 rfl (B0b (e := 5) (by_ := 1) (n := K.length) (m := 64) (ws := List.replicate 64 0) (us := K) (ws' := K ++ List.replicate (64 - K.length) 0) rfl rfl kR (hkv.mono fun q hq => by rcases List.mem_append.1 hq with h | h <;> simp [h]) hK64 (by simp) (by rw [List.drop_replicate]) UpC.upd rfl ?_)
  refine A0 (D3 1 5 6) (A3 (A1 (mv_ (A0 (D8 1 5 6 20) (A6 ?_)))))
  generalize hKK : K ++ List.replicate (64 - K.length) 0 = KK at *
  refine E2 (α := Nat) (fun i => [(1, pv), (5, .pointer (some ⟨b5, 0, none⟩)), (6, .pointer (some ⟨b6, 0, none⟩)), (20, .int .i64 (i : Int))]) (fun i => [(b6, blk (nums .u8 (A0s KK 92 i)) 215), (b5, blk (nums .u8 (A0s KK 54 i)) 215)]) (fun _ => []) (fun i => i ≤ 64) (fun i => 64 - i) 0 (Nat.zero_le _) (D8 1 5 6 20) (Fit.sub (.cons_cons _ (.cons_cons _ (List.nil_sublist _)))) (fun _ h => h) ?_
  intro i hi
  refine A1 ?_
  refine A2 (E0 rfl rfl rfl) rfl ?_
  refine A0 (E4 1 5 6 20 21) (A3 ?_)
  refine C5 rfl (fun hc => ?_) (fun hc => ?_)
  ·
   have hlt : i < 64 := by simp at hc; omega
   have hx8 : KK.getD i 0 < 256 := getD_lt hK2 (by decide)
   refine A5 (nx (D8 1 5 6 20) (A3 (A6 (A1 (mv_ (as_ (A0 (E4 1 5 6 7 20) (A1 ?_))))))))
   refine mv_ ?_
   refine A2 (D7 (i := i) (e := 5) (n := 64) (sz := 1) rfl rfl kR kR rfl (by omega)) rfl ?_
   refine A2 (R9 (ws := A0s KK 54 i) i rfl kR At.mem (by omega) (by rw [A0M]; omega)) rfl ?_
   refine A2 (A99 (b := 54) rfl rfl (by rw [A0N (by omega)]; exact hx8) (by decide)) rfl ?_
   refine A2 (D7 (i := i) (e := 5) (n := 64) (sz := 1) rfl rfl kR kR rfl (by omega)) rfl ?_
   refine A4 rfl (P6 (ws := A0s KK 54 i) i rfl rfl kR (by omega) (by rw [A0M]; omega) UpC.upd ?_)
   refine A0 (E4 1 5 6 7 20) (A9 (mv_ ?_))
   refine A2 (D7 (i := i) (e := 5) (n := 64) (sz := 1) rfl rfl kR kR rfl (by omega)) rfl ?_
   refine A2 (R9 (ws := A0s KK 92 i) i rfl kR At.mem (by omega) (by rw [A0M]; omega)) rfl ?_
   refine A2 (A99 (b := 92) rfl rfl (by rw [A0N (by omega)]; exact hx8) (by decide)) rfl ?_
   refine A2 (D7 (i := i) (e := 5) (n := 64) (sz := 1) rfl rfl kR kR rfl (by omega)) rfl ?_
   refine A4 rfl (P6 (ws := A0s KK 92 i) i rfl rfl kR (by omega) (by rw [A0M]; omega) UpC.upd ?_)
   refine C2 (nb (nx (D8 1 5 6 20) (A9 ?_)))
   refine A2 (D5 ((i + 1 : Nat) : Int) rfl rfl (F0 (by omega) (by omega) (by omega))) rfl ?_
   refine mv_ (C2 ?_)
   refine rn (i + 1) (by omega) (by omega) (D8 1 5 6 20) (Fit.eq ?_) (fun _ h => h)
   rw [A0N (by omega), A0N (by omega), A2A (by omega), A2A (by omega)]
  ·
   have hlt : i = 64 := by simp at hc; omega
   subst hlt
   rw [A3K hK1, A3K hK1]
   refine D6 (te (re (be rfl (nx (D3 1 5 6) ?_))))
   refine A0q ([]) [] [(0, 0), (1, 0), (3, 0), (2, 2), (4, 2), (5, 2), (6, 2), (7, 2), (8, 0)] kR kR (by simp) fun hs => ?_
   refine H3 hs rfl (A8M (e := 5) (sz := 1) (m := 64) rfl kR kR) rfl ?_
   refine H3 hs rfl (A8M (e := 5) (sz := 1) (m := 64) rfl kR kR) rfl ?_
   refine H3 hs rfl qm_ rfl ?_
   refine A0r rfl rfl rfl (C0 (e := 27) (sz := 1) (z := [.slice none 0 0]) kR (eS rfl e0) (bdS 0 1 rfl (by rfl) bd0) rfl fun b36 => ?_)
   refine A0r rfl rfl rfl (U7 (e := 27) (sz := 1) (by_ := 24) (n := 1) (m := ps.length) (B := [(b36, _)]) rfl rfl kR rfl (Sl.fresh rfl (by decide)) (hvs.mono fun _ h => mA h) hpv.one (.refl _) (by unfold maxLen; omega) (by omega) rfl fun v38 B38 hsl38 => ?_)
   refine A0r rfl rfl rfl (D4 (Mc := []) (R := B38 ++ [_, _]) (aS rfl a0) kR (.refl _) (A22 v38 (KK.map (· ^^^ 54) :: ps) _ (A50.of (hsl38.rd fun _ h => by simp [h]) (by rw [List.length_cons]; omega) (.cons (hklt 54 (by decide)) (A0L (Rd.whole (n := 64) (cs := nums .u8 (KK.map (· ^^^ 54))) At.mem (by simp [hK1])) (hkl 54).symm rfl) (hpv.mono fun _ h => mA h))) (by rw [List.flatten_cons, List.length_append, List.length_map, hK1]; omega) (by rw [List.length_cons]; omega) (mA h0) (mA h1)) rfl ?_)
   rintro r39 M39 J39 ⟨rfl, hr39⟩
   haveI := hr39.cel
   refine A0r rfl rfl rfl (C0 (e := 27) (sz := 1) (z := [.slice none 0 0, .slice none 0 0]) kR (eS rfl (eS rfl e0)) (bdS 0 1 rfl (by rfl) (bdS 1 1 rfl (by rfl) bd0)) rfl fun b40 => ?_)
   refine A0r rfl rfl rfl (D4 (Mc := []) (R := _ :: (M39 ++ (B38 ++ [_, _]))) (aS rfl a0) kR (.refl _) (A22 _ [KK.map (· ^^^ 92), V8 (KK.map (· ^^^ 54) ++ ps.flatten)] _ (A50.of (Rd.whole (n := 2) m0 (by rfl)) rfl (.cons (hklt 92 (by decide)) (A0L (Rd.whole (n := 64) (cs := nums .u8 (KK.map (· ^^^ 92))) At.mem (by simp [hK1])) (hkl 92).symm rfl) (.cons (A6X _) (A0L (hr39.rd fun _ h => by simp [h]) (A1O _).symm (by simp)) .nil))) (by simp [hK1, A1O]) (by simp) (mA h0) (mA h1)) rfl ?_)
   rintro r41 M41 J41 ⟨rfl, hr41⟩
   refine H3 hs rfl (F3 rfl) rfl ?_
   refine A1D (D2 4) ?_
   refine B4 ?_
   refine ⟨_, _, [], I9 rfl rfl, List.sublist_append_left _ _, by simp, rfl, V5 hr41 rfl ?_⟩
   simp
theorem A1k (kv pv : Value) (key p : List Nat) (A : Mem) (hkey : Rd A 1 kv key.length (nums .u8 key)) (hk256 : ∀ x ∈ key, x < 256) (hk31 : key.length ≤ 1073741824) (hp : Rd A 1 pv p.length (nums .u8 p)) (hp256 : ∀ x ∈ p, x < 256) (htot : p.length ≤ 1073741824) {ef ek : TypeId} {ff fk : Nat × Nat} (h0 : (0, Obj.cells (nums .u32 A1K.list).toArray ef ff) ∈ A) (h1 : (1, Obj.cells (nums .u32 A2k).toArray ek fk) ∈ A) :
  FnX Tryz.prog 58 [kv, pv] [] A fun r M J => J = [] ∧ Sl 1 r 32 (nums .u8 (A6v key p)) M := by
 haveI := hp.cel
 refine FnX.enter (N := 9) Tryz.func58 rfl rfl rfl fun w => ?_
 refine B0 (C9 0 1) (A1 (as_ (A0 (C9 0 1) (A1 (mv_ (mv_ ?_))))))
 refine A4 rfl (C0 (e := 27) (sz := 1) (z := [.slice none 0 0]) kR (eS rfl e0) (bdS 0 1 rfl (by rfl) bd0) rfl fun b7 => ?_)
 refine A4 rfl (D4 (Mc := []) (R := [_]) (aS rfl (aS rfl a0)) kR (.refl _) (A5j _ _ key [p] _ (hkey.mono fun _ h => mA h) hk256 hk31 (A50.of (Rd.whole (n := 1) m0 (by rfl)) rfl (.cons hp256 (hp.mono fun _ h => mA h) .nil)) (by simpa using htot) (by simp) (mA h0) (mA h1)) rfl ?_)
 rintro r M1 J1 ⟨rfl, hr⟩
 refine as_ (A0 (D2 4) (B4 ?_))
 refine ⟨_, _, [], I9 rfl rfl, List.sublist_append_left _ _, by simp, rfl, V5 hr rfl ?_⟩
 simp
def B4x (p : List Nat) : List Nat := V8 (0 :: p) ++ V8 (1 :: p)

end Go.Proofs.YthbhpfefdnffaaaGreatDoor
namespace Go.Px
def nv : List Nat → Nat
  | [] => 0
  | w :: r => w + 4294967296 * nv r
def w32 (ws : List Nat) : Prop := ∀ x ∈ ws, x < 4294967296
def xp (n : Nat) : Nat := 4294967296 ^ n
theorem w32.take {ws : List Nat} (h : w32 ws) (n : Nat) : w32 (ws.take n) := fun x hx => h x (List.mem_of_mem_take hx)
theorem w32.drop {ws : List Nat} (h : w32 ws) (n : Nat) : w32 (ws.drop n) := fun x hx => h x (List.mem_of_mem_drop hx)
theorem w32.get {ws : List Nat} (h : w32 ws) (n : Nat) : ws.getD n 0 < 4294967296 := getD_lt h (by decide)
theorem w32.set {ws : List Nat} (h : w32 ws) {n x : Nat} (hx : x < 4294967296) : w32 (ws.set n x) := fun y hy => by
  rcases List.mem_or_eq_of_mem_set hy with h1 | rfl
  · exact h y h1
  · exact hx
theorem w32.app {a b : List Nat} (ha : w32 a) (hb : w32 b) : w32 (a ++ b) := fun x hx => (List.mem_append.1 hx).elim (ha x) (hb x)
def tl (ws : List Nat) : Nat → Nat
  | 0 => 0
  | n + 1 => if ws.getD n 0 = 0 then tl ws n else n + 1
def trim (ws : List Nat) : List Nat := ws.take (tl ws ws.length)
def nrm (ws : List Nat) : Prop := ∀ k, ws.length = k + 1 → ws.getD k 0 ≠ 0
end Go.Px

namespace Go.Px
def isPr (n : Nat) : Bool := decide (1 < n) && (List.range n).all fun i => decide (i < 2) || n % i != 0
def A8O (k p lo b : Nat) : Nat := if (lo + 2 ^ b) ^ k ≤ p * xp k then lo + 2 ^ b else lo
def B2w (k p : Nat) : Nat → Nat → Nat
  | 0, lo => lo
  | j + 1, lo => B2w k p j (A8O k p lo j)
def root (k p : Nat) : Nat := B2w k p 40 0 % 4294967296
def rl (k n : Nat) : List Nat := ((List.range n).filter isPr).map (root k)
def pw (P : List Nat) (i : Nat) : Nat → Nat
  | 0 => 0
  | j + 1 => pw P i j * 256 + P.getD (4 * i + j) 0
def wAt (P : List Nat) (i : Nat) : List Nat := wx (A1I P (min i 16)) (i - 16)
end Go.Px

namespace Go.Px
def exp (key info : List Nat) : Nat → List Nat × List Nat
  | 0 => ([], [])
  | i + 1 => ((exp key info i).1 ++ A6v key ((exp key info i).2 ++ (info ++ [(i + 1) % 256])), A6v key ((exp key info i).2 ++ (info ++ [(i + 1) % 256])))
theorem A54 (p : List Nat) : (V8 p).length = 32 := by simp [V8, S8.bytes, S8.list, B0I]
theorem A23 (key info : List Nat) : ∀ i, (exp key info i).1.length = 32 * i
  | 0 => rfl
  | i + 1 => by rw [exp, List.length_append, A23 key info i, A6v, A54]; omega
def rds (n : Int) : Nat := min 255 ((n.toNat + 31) / 32)
def T5 (key info : List Nat) (n : Int) : List Nat := (exp key info (rds n)).1.take n.toNat
theorem A08 (key info : List Nat) (n : Int) : (T5 key info n).length = min n.toNat 8160 := by
  unfold T5; rw [List.length_take, A23]; unfold rds; omega
end Go.Px

namespace Go.Proofs.YthbhpfefdnffaaaGreatDoor
open Go.Px
theorem B4y {M B D : Mem} (x y : Nat × Obj) : (M ++ (x :: y :: (B ++ D))).Perm (B ++ ((M ++ [x, y]) ++ D)) := by
  have h : M ++ (x :: y :: (B ++ D)) = (M ++ [x, y]) ++ (B ++ D) := by simp
  rw [h]
  exact List.perm_append_comm_assoc _ _ _
theorem A24 (key p : List Nat) : ∀ x ∈ A6v key p, x < 256 := A6X _
theorem A0d (key p : List Nat) : (A6v key p).length = 32 := A1O _
theorem B0S (key info : List Nat) : ∀ i, ∀ x ∈ (exp key info i).2, x < 256
  | 0 => by simp [exp]
  | i + 1 => A24 _ _
theorem A8P (key info : List Nat) (i : Nat) : (exp key info i).2.length ≤ 32 := by
  cases i with
  | zero => simp [exp]
  | succ i => rw [exp, A0d]; decide
theorem A60 (key info : List Nat) : ∀ i, ∀ x ∈ (exp key info i).1, x < 256
  | 0 => by simp [exp]
  | i + 1 => fun x hx => (List.mem_append.1 hx).elim (A60 key info i x) (A24 _ _ x)
theorem A1P (kv iv : Value) (key info : List Nat) (n : Int) (A : Mem) (hkey : Rd A 1 kv key.length (nums .u8 key)) (hk256 : ∀ x ∈ key, x < 256) (hk31 : key.length ≤ 1073741824) (hinfo : Rd A 1 iv info.length (nums .u8 info)) (hi256 : ∀ x ∈ info, x < 256) (hi31 : info.length ≤ 536870912) (hn : n < 1000000) (hn0 : -1000000 < n) {ef ek : TypeId} {ff fk : Nat × Nat} (h0 : (0, Obj.cells (nums .u32 A1K.list).toArray ef ff) ∈ A) (h1 : (1, Obj.cells (nums .u32 A2k).toArray ek fk) ∈ A) :
  FnX Tryz.prog 57 [kv, iv, .int .i64 n] [] A fun r M J => J = [] ∧ Rd M 1 r (T5 key info n).length (nums .u8 (T5 key info n)) := by
 haveI := hinfo.cel
 refine FnX.enter (N := 40) Tryz.func57 rfl rfl rfl fun w => ?_
 refine B0 (D3 0 1 2) (A1 (as_ (A0 (D3 0 1 2) (A1 (as_ (as_ (A0 (E4 0 1 2 7 8) (A3 ?_))))))))
 refine A1 (as_ (A0 (H9 0 1 2 7 8 9) (A6 ?_)))
 refine E2 (α := Nat × Value × Value × Mem × Mem) (fun x => [(0, kv), (1, iv), (2, .int .i64 n), (7, x.2.1), (8, x.2.2.1), (9, .int .i64 ((x.1 + 1 : Nat) : Int))]) (fun x => x.2.2.2.1 ++ x.2.2.2.2) (fun _ => []) (fun x => x.1 ≤ rds n ∧ Sl 1 x.2.1 (32 * x.1) (nums .u8 (exp key info x.1).1) x.2.2.2.1 ∧ Sl 1 x.2.2.1 (exp key info x.1).2.length (nums .u8 (exp key info x.1).2) x.2.2.2.2) (fun x => rds n - x.1) (0, .slice none 0 0, .slice none 0 0, [], []) ⟨Nat.zero_le _, Sl.nil, Sl.nil⟩ (H9 0 1 2 7 8 9) .rfl (fun _ h => h) ?_
 rintro ⟨i, ov, lv, Bo, Bl⟩ ⟨hi, ho, hl⟩
 dsimp only at hi ho hl ⊢
 have hrd : rds n = min 255 ((n.toNat + 31) / 32) := rfl
 have hl32 := A8P key info i
 haveI := hl.cel
 refine A3 ?_
 by_cases h32 : (n : Int) ≤ ((32 * i : Nat) : Int)
 ·
  refine A1 (mv_ ?_)
  refine A2 (X9 (ho.rd fun _ h => h) rfl kR) rfl ?_
  refine mv_ ?_
  refine A2 (E1 false rfl rfl (ltF (by omega))) rfl ?_
  refine mv_ ?_
  refine H2 rfl rfl rfl rfl ?_
  refine H2 rfl rfl rfl rfl ?_
  refine A2 (G2 rfl rfl) rfl ?_
  refine A0 (V6 0 1 2 7 8 9 17) ?_
  refine C6 rfl ?_
  refine D6 (te (re (be rfl (nx (C9 2 7) (A1 (mv_ (mv_ ?_)))))))
  refine A2 (X9 (ho.rd fun _ h => h) rfl kR) rfl ?_
  refine A2 (A3D (if ((32 * i : Nat) : Int) < n then ((32 * i : Nat) : Int) else n) rfl rfl rfl) rfl ?_
  have hend : i = rds n := by omega
  subst hend
  refine A2 (A6K ((min n.toNat (32 * rds n) : Nat) : Int) rfl rfl (by split <;> split <;> omega)) rfl ?_
  have hkl : min n.toNat (32 * rds n) = (T5 key info n).length := by rw [A08]; omega
  obtain ⟨pp, cc, rfl, hpc⟩ := ho.val
  refine as_ (A0 (C9 2 7) (A1 (mv_ (mv_ (mv_ ?_)))))
  refine A2 (A07 (e := 5) (sz := 1) rfl kR kR o0 (o1 (min n.toNat (32 * rds n)) rfl rfl) (o1 (min n.toNat (32 * rds n)) rfl rfl) (by simp) (by simp; omega) (by simp) (by simp)) rfl ?_
  refine as_ (A0 (D2 6) (B4 ?_))
  refine ⟨_, Bo, [], I9 rfl rfl, List.sublist_append_left _ _, by simp, rfl, ?_⟩
  have := Rd.part (ho.rd fun _ h => h) 0 (min n.toNat (32 * rds n)) (min n.toNat (32 * rds n)) (Nat.zero_le _) (Nat.min_le_right _ _) (Nat.le_refl _)
  refine A0L this (by simpa using hkl) ?_
  rw [Nat.zero_mul, List.drop_zero, Nat.sub_zero, Nat.mul_one, ← A0H]
  have e : ((exp key info (rds n)).1).take (min n.toNat (32 * rds n)) = T5 key info n := by
   unfold T5
   rw [List.take_eq_take_iff, A23]; omega
  rw [e]
 ·
  refine A1 (mv_ ?_)
  refine A2 (X9 (ho.rd fun _ h => h) rfl kR) rfl ?_
  refine mv_ ?_
  refine A2 (E1 true rfl rfl (ltT (by omega))) rfl ?_
  refine mv_ ?_
  refine E5 rfl rfl (OpQ.opL qm_ rfl ?_)
  refine E5 rfl rfl (OpQ.opL (E0 rfl rfl rfl) rfl ?_)
  refine A2 (H7 rfl rfl) rfl ?_
  refine A0 (V6 0 1 2 7 8 9 17) ?_
  refine C5 rfl (fun hc => ?_) (fun hc => ?_)
  ·
   have hlt : i < 255 := by simp at hc; omega
   refine A5 (nx (H9 0 1 2 7 8 9) (A3 (A6 (A1 (mv_ (mv_ (mv_ (mv_ ?_))))))))
   refine A2 (A1H rfl kR) rfl ?_
   refine A4 rfl (C0 (e := 5) (sz := 1) (z := [.int .u8 0]) kR (eS rfl e0) (bdS 0 1 rfl (by rfl) bd0) rfl fun b25 => ?_)
   refine A4 rfl (C0 (e := 27) (sz := 1) (z := [.slice none 0 0, .slice none 0 0, .slice none 0 0]) kR (eS rfl (eS rfl (eS rfl e0))) (bdS 0 1 rfl (by rfl) (bdS 1 1 rfl (by rfl) (bdS 2 1 rfl (by rfl) bd0))) rfl fun b26 => ?_)
   refine A4 rfl (D4 (Mc := []) (R := _ :: _ :: (Bo ++ Bl)) (aS rfl (aS rfl a0)) kR (.refl _) (A5j _ _ key [(exp key info i).2, info, [(i + 1) % 256]] _ (hkey.mono fun _ h => mA h) hk256 hk31 (A50.of (Rd.whole (n := 3) m0 (by rfl)) rfl (.cons (B0S _ _ _) (hl.rd fun _ h => by simp [h]) (.cons hi256 (hinfo.mono fun _ h => mA h) (.cons (by intro x hx; simp at hx; subst hx; exact Nat.mod_lt _ (by decide)) (Rd.whole (n := 1) (cs := nums .u8 [(i + 1) % 256]) At.mem (by rfl)) .nil)))) (by simp; omega) (by simp) (mA h0) (mA h1)) rfl ?_)
   rintro r27 M27 J1 ⟨rfl, h27⟩
   rw [show [(exp key info i).2, info, [(i + 1) % 256]].flatten = (exp key info i).2 ++ (info ++ [(i + 1) % 256]) from by simp] at h27
   refine as_ (A0 (H9 0 1 2 7 8 9) (A9 (mv_ (mv_ ?_))))
   refine A4 rfl (U7 (e := 5) (sz := 1) (by_ := 1) (m := 32) (B := Bo) (M0 := (M27 ++ [_, _]) ++ Bl) rfl rfl kR rfl ho (h27.rd fun _ h => by simp [h]) F4 (B4y _ _) (by unfold maxLen; omega) (by omega) rfl fun ov1 Bo1 ho1 => ?_)
   refine as_ (C2 (nb (nx (H9 0 1 2 7 8 9) (A9 (mv_ ?_)))))
   refine A2 (D5 ((i + 1 + 1 : Nat) : Int) rfl rfl (F0 (by omega) (by omega) (by omega))) rfl ?_
   refine as_ (C2 ?_)
   refine rn (i + 1, ov1, r27, Bo1, M27) ⟨by dsimp only; omega, V5 ho1 (by dsimp only; omega) (by rw [← H4]; rfl), V5 h27 (by dsimp only; rw [exp, A0d]) rfl⟩ (by dsimp only; omega) (H9 0 1 2 7 8 9) (Fit.sub (List.Sublist.append (List.Sublist.refl _) ((List.sublist_append_left _ _).trans (List.sublist_append_left _ _)))) (fun _ h => h)
  ·
   have hend : i = rds n := by simp at hc; omega
   refine D6 (te (re (be rfl (nx (C9 2 7) (A1 (mv_ (mv_ ?_)))))))
   refine A2 (X9 (ho.rd fun _ h => h) rfl kR) rfl ?_
   refine A2 (A3D (if ((32 * i : Nat) : Int) < n then ((32 * i : Nat) : Int) else n) rfl rfl rfl) rfl ?_
   subst hend
   refine A2 (A6K ((min n.toNat (32 * rds n) : Nat) : Int) rfl rfl (by split <;> split <;> omega)) rfl ?_
   have hkl : min n.toNat (32 * rds n) = (T5 key info n).length := by rw [A08]; omega
   obtain ⟨pp, cc, rfl, hpc⟩ := ho.val
   refine as_ (A0 (C9 2 7) (A1 (mv_ (mv_ (mv_ ?_)))))
   refine A2 (A07 (e := 5) (sz := 1) rfl kR kR o0 (o1 (min n.toNat (32 * rds n)) rfl rfl) (o1 (min n.toNat (32 * rds n)) rfl rfl) (by simp) (by simp; omega) (by simp) (by simp)) rfl ?_
   refine as_ (A0 (D2 6) (B4 ?_))
   refine ⟨_, Bo, [], I9 rfl rfl, List.sublist_append_left _ _, by simp, rfl, ?_⟩
   have := Rd.part (ho.rd fun _ h => h) 0 (min n.toNat (32 * rds n)) (min n.toNat (32 * rds n)) (Nat.zero_le _) (Nat.min_le_right _ _) (Nat.le_refl _)
   refine A0L this (by simpa using hkl) ?_
   rw [Nat.zero_mul, List.drop_zero, Nat.sub_zero, Nat.mul_one, ← A0H]
   have e : ((exp key info (rds n)).1).take (min n.toNat (32 * rds n)) = T5 key info n := by
    unfold T5
    rw [List.take_eq_take_iff, A23]; omega
   rw [e]

end Go.Proofs.YthbhpfefdnffaaaGreatDoor
namespace Go.Px
def Sk (K : Nat → Prop) (w w' : World) : Prop := ∀ b, b < w.heap.size → ¬ K b → w'.heap[b]? = w.heap[b]?
theorem Sk.fx {K : Nat → Prop} {w w' : World} (h : Sk K w w') {R : Mem} (hR : ∀ x ∈ R, ¬ K x.1) (hw : Fx R w) : Fx R w' := fun b o hb => by
  have h1 := hw b o hb
  rw [h b (L2 h1) (hR _ hb)]; exact h1
def XK (C : Cx) (os : List Oper) (Q : XQ) (K : Nat → Prop) (n0 : Nat) (nd : List Nat) (plan : List (Nat × Nat)) (l : Env) (M J : Mem) : Prop :=
  ∀ listed, L0 os.toArray listed → G7 os.toArray nd plan listed = true → ∀ a w, Ag C.N l a → St C M J w → n0 ≤ w.heap.size →
    U6 C.P os.toArray (L4 (A4q C Q)) (Sk K) nd.contains plan.length listed a w
section plan
variable {C : Cx} {Q : XQ} {l : Env} {M J : Mem} {os : List Oper} {K : Nat → Prop} {n0 : Nat} {nd : List Nat} {plan : List (Nat × Nat)}
theorem A55 {T : World → Prop} {S : World → World → Prop} {ops : Array Oper} {nd : List Nat} {listed : Array Bool} {i : Nat} (h : A6E ops nd listed i = true) (hT : ∀ w w', T w → S w w' → T w') (j : Nat) (hlt : j < ops.size) (hji : j ≠ i) (hun : listed.getD j true = false) : anc ops ops.size j i = true ∨ ∀ w w', T w → (nd.contains j = true → S w w') → T w' := by
  have h1 := List.all_eq_true.1 h j (List.mem_range.2 hlt)
  simp only [Bool.or_eq_true, beq_iff_eq, hji, hun, false_or, Bool.false_eq_true] at h1
  rcases h1 with h1 | h1
  · exact .inr fun w w' hS hw => hT w w' hS (hw h1)
  · exact .inl h1
theorem A0O {id : Nat} (Mv Ms : Mem) (nv : Bool) (nd : List Nat) (plan : List (Nat × Nat)) (hm : C.P.follows .mixedOrders = true) (hp : R8 os nd plan = true) (hM : M.Perm (Mv ++ Ms))
    (h : Region.noSelect os.toArray = true → ∀ (K : Nat → Prop) n0, (∀ x ∈ Mv, K x.1) → (∀ x ∈ Ms ++ (J ++ C.A), ¬ K x.1) → (nv = true → ∀ b, n0 ≤ b → K b) → XK C os Q K n0 nd plan l (Mv ++ Ms) J) : XC C (.region id os.toArray true) Q l M J := by
  intro a w ha hw0
  have hw := hw0.perm hM
  simp only [R8, Bool.and_eq_true, beq_iff_eq] at hp
  obtain ⟨⟨h1, h3⟩, h4⟩ := hp
  refine Code.wp_mono (Q := L4 (A4q C Q)) (fun e a w h => by cases e <;> first | exact h | exact h.elim) ?_
  let K : Nat → Prop := fun b => b ∈ Mv.map Prod.fst ∨ (nv = true ∧ w.heap.size ≤ b)
  refine wp_region_any hm (A0c (S := Sk K) (need := nd.contains) _ _ _ _ ?_)
  have hK1 : ∀ x ∈ Mv, K x.1 := fun x hx => .inl (List.mem_map_of_mem (f := Prod.fst) hx)
  have hcal := hw.callee (.refl _)
  have hK2 : ∀ x ∈ Ms ++ (J ++ C.A), ¬ K x.1 := by
    rintro ⟨b, o⟩ hx hk
    have h5 := hcal.sepA b o hx
    rcases hk with hk | ⟨_, hk⟩
    · exact h5.1 hk
    · exact absurd h5.2 (Nat.not_lt.2 hk)
  have := h h1 K w.heap.size hK1 hK2 (fun hn b hb => .inr ⟨hn, hb⟩) (Array.replicate os.length false) (fun j oj _ hl => by simp [Array.getElem?_replicate] at hl; split at hl <;> simp at hl) h4 a _ ha hw.drew (Nat.le_refl _)
  rw [h3] at this
  simpa using this
theorem I2 {id : Nat} {c2 : Code} (Mv Ms : Mem) (nv : Bool) (nd : List Nat) (plan : List (Nat × Nat)) (hm : C.P.follows .mixedOrders = true) (hp : R8 os nd plan = true) (hM : M.Perm (Mv ++ Ms))
    (h : Region.noSelect os.toArray = true → ∀ (K : Nat → Prop) n0, (∀ x ∈ Mv, K x.1) → (∀ x ∈ Ms ++ (J ++ C.A), ¬ K x.1) → (nv = true → ∀ b, n0 ≤ b → K b) → XK C os (A1p C c2 Q) K n0 nd plan l (Mv ++ Ms) J) : XC C (.seq (.region id os.toArray true) c2) Q l M J :=
  A3 (A0O Mv Ms nv nd plan hm hp hM h)
theorem A5k (h : Q .normal l M J) : XK C os Q K n0 nd [] l M J := by
  intro listed hcl hp a w ha hw hf
  simp only [G7, List.isEmpty_iff] at hp
  exact ⟨hp, l, M, J, ha, hw, h⟩
theorem N9 {c : Code} {l' : Env} (hk : Keep l l') (h : XC C c Q l' M J) : XK C os (A1p C c Q) K n0 nd [] l M J := A5k (B0 hk h)
theorem A4H {M' : Mem} (hM : M.Perm M') (h : XK C os Q K n0 nd plan l M' J) : XK C os Q K n0 nd plan l M J := fun listed hcl hp a w ha hw hn => h listed hcl hp a w ha (hw.perm hM) hn
theorem B4z {M' : Mem} (hM : M'.Sublist M) (h : XK C os Q K n0 nd plan l M' J) : XK C os Q K n0 nd plan l M J := fun listed hcl hp a w ha hw hn => h listed hcl hp a w ha (hw.drop hM (fun _ h => h)) hn
theorem A25 {i d : Nat} {op : Op} {ty : TypeId} {pos : String} {af : Array Edge} {g : Option (Nat × Bool)} {v : Value} {R : Mem} (hs : Region.noSelect os.toArray = true)
    (hget : nth os i = some ⟨some d, op, ty, pos, af, g⟩) (hR : ∀ x ∈ R, x ∈ M ++ (J ++ C.A)) (hn : ∀ x ∈ R, ¬ K x.1)
    (hy : ∀ a, Ag C.N l a → YieldsIf C.P os.toArray (Fx R) ⟨some d, op, ty, pos, af, g⟩ v a) (hd : Nat.blt d C.N = true)
    (h : XK C os Q K n0 nd plan ((d, v) :: l) M J) : XK C os Q K n0 nd ((i, 1) :: plan) l M J := by
  intro listed hcl hp a w ha hw hf
  simp only [G7, Bool.and_eq_true] at hp
  obtain ⟨⟨⟨h1, h2⟩, h5⟩, h4⟩ := hp
  have hi : os.toArray[i]? = some ⟨some d, op, ty, pos, af, g⟩ := by rw [P8] at hget; simpa using hget
  have hr : i ∈ Region.ready .any os.toArray listed := by simpa using h1
  exact Q6 (S := Sk K) (T := Fx R) (N := os.toArray.size) hi (Region.noSelect_spec hs) (fun _ _ _ h => h) (fun _ _ _ _ => rfl) _ listed a w hcl (Region.free_spec hi h2) (A55 h5 fun w w' hT hS => hS.fx hn hT) hr (hy a ha) (fun b o hb => hw.fx b o (hR _ hb))
    (h _ (F6 hcl hr) h4 _ w (ha.put (C1 hd) v) hw hf)
theorem A26 {i d : Nat} {op : Op} {ty : TypeId} {pos : String} {af : Array Edge} {g : Option (Nat × Bool)} {v : Value} (hs : Region.noSelect os.toArray = true)
    (hget : nth os i = some ⟨some d, op, ty, pos, af, g⟩)
    (hy : ∀ a, Ag C.N l a → YieldsIf C.P os.toArray (fun _ => True) ⟨some d, op, ty, pos, af, g⟩ v a) (hd : Nat.blt d C.N = true)
    (h : XK C os Q K n0 nd plan ((d, v) :: l) M J) : XK C os Q K n0 nd ((i, 0) :: plan) l M J := by
  intro listed hcl hp a w ha hw hf
  simp only [G7, Bool.and_eq_true] at hp
  obtain ⟨⟨h1, h2⟩, h4⟩ := hp
  have hi : os.toArray[i]? = some ⟨some d, op, ty, pos, af, g⟩ := by rw [P8] at hget; simpa using hget
  have hr : i ∈ Region.ready .any os.toArray listed := by simpa using h1
  exact Q6 (S := Sk K) (T := fun _ => True) (N := 0) hi (Region.noSelect_spec hs) (fun _ _ _ h => h) (fun _ _ _ _ => rfl) _ listed a w hcl (Region.free_spec hi h2) (fun _ _ _ _ => .inr fun _ _ _ _ => trivial) hr (hy a ha) trivial
    (h _ (F6 hcl hr) h4 _ w (ha.put (C1 hd) v) hw hf)
section ops
variable {i d j t : Nat} {op : Op} {ty : TypeId} {pos : String} {af : Array Edge} {b b' : Bool} {v : Value} {oj : Oper} {R : Mem}
theorem I6 (hs : Region.noSelect os.toArray = true) (hget : nth os i = some ⟨some d, op, ty, pos, af, none⟩) (hq : OpQ C.P [] ⟨some d, op, ty, pos, af, none⟩ l v) (hd : Nat.blt d C.N = true)
    (h : XK C os Q K n0 nd plan ((d, v) :: l) M J) : XK C os Q K n0 nd ((i, 0) :: plan) l M J :=
  A26 hs hget (fun a ha => .inl ⟨rfl, fun w hw => hq C.N a w ha (fun _ _ hb => by cases hb)⟩) hd h
theorem XK.r (hs : Region.noSelect os.toArray = true) (hget : nth os i = some ⟨some d, op, ty, pos, af, none⟩) (hR : ∀ x ∈ R, x ∈ M ++ (J ++ C.A)) (hn : ∀ x ∈ R, ¬ K x.1) (hq : OpQ C.P R ⟨some d, op, ty, pos, af, none⟩ l v) (hd : Nat.blt d C.N = true)
    (h : XK C os Q K n0 nd plan ((d, v) :: l) M J) : XK C os Q K n0 nd ((i, 1) :: plan) l M J :=
  A25 hs hget hR hn (fun a ha => .inl ⟨rfl, fun w hw => hq C.N a w ha hw⟩) hd h
theorem A0P (hs : Region.noSelect os.toArray = true) (hget : nth os i = some ⟨some d, op, ty, pos, af, some (j, b)⟩) (hj : nth os j = some oj) (ht : oj.dst = some t) (hl : lk l t = some (.bool b)) (hq : OpQ C.P [] ⟨some d, op, ty, pos, af, some (j, b)⟩ l v) (hd : Nat.blt d C.N = true)
    (h : XK C os Q K n0 nd plan ((d, v) :: l) M J) : XK C os Q K n0 nd ((i, 0) :: plan) l M J :=
  A26 hs hget (fun a ha => .inl ⟨A6J (i := i) ha hj ht hl, fun w hw => hq C.N a w ha (fun _ _ hb => by cases hb)⟩) hd h
theorem A61 (hs : Region.noSelect os.toArray = true) (hget : nth os i = some ⟨some d, op, ty, pos, af, some (j, b)⟩) (hj : nth os j = some oj) (ht : oj.dst = some t) (hl : lk l t = some (.bool b)) (hR : ∀ x ∈ R, x ∈ M ++ (J ++ C.A)) (hn : ∀ x ∈ R, ¬ K x.1) (hq : OpQ C.P R ⟨some d, op, ty, pos, af, some (j, b)⟩ l v) (hd : Nat.blt d C.N = true)
    (h : XK C os Q K n0 nd plan ((d, v) :: l) M J) : XK C os Q K n0 nd ((i, 1) :: plan) l M J :=
  A25 hs hget hR hn (fun a ha => .inl ⟨A6J (i := i) ha hj ht hl, fun w hw => hq C.N a w ha hw⟩) hd h
theorem B4A (hs : Region.noSelect os.toArray = true) (hget : nth os i = some ⟨some d, op, ty, pos, af, some (j, b)⟩) (hj : nth os j = some oj) (ht : oj.dst = some t) (hl : lk l t = some (.bool b')) (hb : (b' == b) = false) (hd : Nat.blt d C.N = true)
    (h : XK C os Q K n0 nd plan ((d, undef) :: l) M J) : XK C os Q K n0 nd ((i, 0) :: plan) l M J :=
  A26 hs hget (fun a ha => .inr ⟨A4y (i := i) ha hj ht hl hb, rfl⟩) hd h
theorem B4B (hs : Region.noSelect os.toArray = true) (hget : nth os i = some ⟨some d, op, ty, pos, af, some (j, b)⟩) (hj : nth os j = some oj) (ht : oj.dst = some t) (hl : lk l t = some (.bool b')) (hb : (b' == b) = false) (hd : Nat.blt d C.N = true)
    (h : XK C os Q K n0 nd plan ((d, undef) :: l) M J) : XK C os Q K n0 nd ((i, 1) :: plan) l M J :=
  A25 (R := []) hs hget (fun _ h => by cases h) (fun _ h => by cases h) (fun a ha => .inr ⟨A4y (i := i) ha hj ht hl hb, rfl⟩) hd h
end ops
theorem A62 {i : Nat} {o : Oper} {Mc R : Mem} (hget : nth os i = some o) (hw' : ∀ a, Ag C.N l a → Region.wanted o (yielded os.toArray a.tmps) = true) (hM : M.Perm (Mc ++ R)) (hK : ∀ x ∈ Mc, K x.1)
    (h : ∀ w, OpL ⟨C.P, w, Mc.map Prod.fst, R ++ (J ++ C.A), C.N⟩ o l Mc [] (fun l' M' J' => ((∀ b, n0 ≤ b → K b) → ∀ x ∈ M', K x.1) → XK C os Q K n0 nd plan l' (M' ++ R) (J' ++ J))) :
    XK C os Q K n0 nd ((i, 2) :: plan) l M J := by
  intro listed hcl hp a w ha hw hf
  simp only [G7, Bool.and_eq_true, beq_iff_eq] at hp
  obtain ⟨h1, h2⟩ := hp
  have hi : os.toArray[i]? = some o := by rw [P8] at hget; simpa using hget
  refine ⟨fun h0 => (by rw [h1] at h0; cases h0), fun j hj => ?_⟩
  have hr := hj
  rw [h1] at hj
  simp only [List.mem_singleton] at hj
  subst hj
  unfold wpOp
  simp only [hi]
  rw [if_pos (hw' a ha)]
  refine .inl (Oper.wp_mono ?_ (h w _ a w ha (hw.callee hM).cx))
  rintro a' w' ⟨l', M', J', ha', hs', hk⟩
  have hsz : w.heap.size ≤ w'.heap.size := hs'.size
  refine ⟨fun _ b hb hnk => hs'.frame b hb fun hm => ?_, hk ?_ _ (F6 hcl hr) h2 a' w' ha' (hw.back hM hs'.cx) (Nat.le_trans hf hsz)⟩
  · obtain ⟨x, hx, e⟩ := List.mem_map.1 hm
    exact hnk (e ▸ hK x hx)
  · rintro hup ⟨b, o'⟩ hx
    rcases hs'.own b o' (by simp [hx]) with h6 | h6
    · obtain ⟨x, hx, e⟩ := List.mem_map.1 h6
      exact e ▸ hK x hx
    · exact hup b (Nat.le_trans hf h6)
theorem K8 {i : Nat} {o : Oper} (Mc R : Mem) (hget : nth os i = some o) (hg : o.guard = none) (hM : M.Perm (Mc ++ R)) (hK : ∀ x ∈ Mc, K x.1)
    (h : ∀ w, OpL ⟨C.P, w, Mc.map Prod.fst, R ++ (J ++ C.A), C.N⟩ o l Mc [] (fun l' M' J' => ((∀ b, n0 ≤ b → K b) → ∀ x ∈ M', K x.1) → XK C os Q K n0 nd plan l' (M' ++ R) (J' ++ J))) :
    XK C os Q K n0 nd ((i, 2) :: plan) l M J := A62 hget (fun a ha => by simp [Region.wanted, hg]) hM hK h
theorem B2x {i j t : Nat} {d : Option Nat} {op : Op} {ty : TypeId} {pos : String} {af : Array Edge} {b : Bool} {oj : Oper} (Mc R : Mem) (hget : nth os i = some ⟨d, op, ty, pos, af, some (j, b)⟩) (hj : nth os j = some oj) (ht : oj.dst = some t) (hl : lk l t = some (.bool b)) (hM : M.Perm (Mc ++ R)) (hK : ∀ x ∈ Mc, K x.1)
    (h : ∀ w, OpL ⟨C.P, w, Mc.map Prod.fst, R ++ (J ++ C.A), C.N⟩ ⟨d, op, ty, pos, af, some (j, b)⟩ l Mc [] (fun l' M' J' => ((∀ b, n0 ≤ b → K b) → ∀ x ∈ M', K x.1) → XK C os Q K n0 nd plan l' (M' ++ R) (J' ++ J))) :
    XK C os Q K n0 nd ((i, 2) :: plan) l M J := A62 hget (fun a ha => by
      have hj' : os.toArray[j]? = some oj := by rw [P8] at hj; simpa using hj
      simp only [Region.wanted, yielded, hj', Option.bind_some, ht, ha.slot _ _ hl]; simp) hM hK h
theorem B0T {i d : Nat} {op : Op} {ty : TypeId} {pos : String} {af : Array Edge} {g : Option (Nat × Bool)} (hget : nth os i = some ⟨some d, op, ty, pos, af, g⟩) (hw' : ∀ a, Ag C.N l a → Region.wanted ⟨some d, op, ty, pos, af, g⟩ (yielded os.toArray a.tmps) = false) (hd : Nat.blt d C.N = true)
    (h : XK C os Q K n0 nd plan ((d, undef) :: l) M J) : XK C os Q K n0 nd ((i, 2) :: plan) l M J := by
  intro listed hcl hp a w ha hw hf
  simp only [G7, Bool.and_eq_true, beq_iff_eq] at hp
  obtain ⟨h1, h2⟩ := hp
  have hi : os.toArray[i]? = some ⟨some d, op, ty, pos, af, g⟩ := by rw [P8] at hget; simpa using hget
  refine ⟨fun h0 => (by rw [h1] at h0; cases h0), fun j hj => ?_⟩
  have hr := hj
  rw [h1] at hj
  simp only [List.mem_singleton] at hj
  subst hj
  unfold wpOp
  simp only [hi]
  rw [if_neg (by rw [hw' a ha]; simp)]
  exact ⟨fun _ _ _ _ => rfl, h _ (F6 hcl hr) h2 _ w (ha.put (C1 hd) undef) hw hf⟩
theorem B4C {i d j t : Nat} {op : Op} {ty : TypeId} {pos : String} {af : Array Edge} {b b' : Bool} {oj : Oper} (hget : nth os i = some ⟨some d, op, ty, pos, af, some (j, b)⟩) (hj : nth os j = some oj) (ht : oj.dst = some t) (hl : lk l t = some (.bool b')) (hb : (b' == b) = false) (hd : Nat.blt d C.N = true)
    (h : XK C os Q K n0 nd plan ((d, undef) :: l) M J) : XK C os Q K n0 nd ((i, 2) :: plan) l M J :=
  B0T hget (fun a ha => A4y (i := i) ha hj ht hl hb) hd h
theorem A8Q {t : Nat} {b : Bool} (hl : lk l t = some (.bool b)) (h1 : b = true → XK C os Q K n0 nd plan ((t, .bool true) :: l) M J) (h2 : b = false → XK C os Q K n0 nd plan ((t, .bool false) :: l) M J) :
    XK C os Q K n0 nd plan l M J := by
  intro listed hcl hp a w ha hw hf
  have key : ∀ b', b = b' → Ag C.N ((t, .bool b') :: l) a := by
    rintro b' rfl
    refine ha.sub ?_
    intro i v hi
    simp only [lk] at hi
    by_cases e : t = i
    · subst e; simp at hi; subst hi; exact hl
    · simpa only [S7 e, cond_false] using hi
  cases b
  · exact h2 rfl listed hcl hp a w (key _ rfl) hw hf
  · exact h1 rfl listed hcl hp a w (key _ rfl) hw hf
end plan
def XF (C : Cx) (os : List Oper) (Q : XQ) (nd : List Nat) (plan : List (Nat × Nat)) (l : Env) (M J : Mem) : Prop := XK C os Q (fun _ => False) 0 nd plan l M J
section free
variable {C : Cx} {Q : XQ} {l : Env} {M J : Mem} {os : List Oper} {nd : List Nat} {plan : List (Nat × Nat)}
theorem F1 {id : Nat} (nd : List Nat) (plan : List (Nat × Nat)) (hm : C.P.follows .mixedOrders = true) (hp : R8 os nd plan = true) (h : Region.noSelect os.toArray = true → XF C os Q nd plan l M J) : XC C (.region id os.toArray true) Q l M J := by
  intro a w ha hw
  simp only [R8, Bool.and_eq_true, beq_iff_eq] at hp
  obtain ⟨⟨h1, h3⟩, h4⟩ := hp
  refine Code.wp_mono (Q := L4 (A4q C Q)) (fun e a w h => by cases e <;> first | exact h | exact h.elim) ?_
  refine wp_region_any hm (A0c (S := Sk fun _ => False) (need := nd.contains) _ _ _ _ ?_)
  have := h h1 (Array.replicate os.length false) (fun j oj _ hl => by simp [Array.getElem?_replicate] at hl; split at hl <;> simp at hl) h4 a _ ha hw.drew (Nat.zero_le _)
  rw [h3] at this
  simpa using this
theorem D1 {id : Nat} {c2 : Code} (nd : List Nat) (plan : List (Nat × Nat)) (hm : C.P.follows .mixedOrders = true) (hp : R8 os nd plan = true) (h : Region.noSelect os.toArray = true → XF C os (A1p C c2 Q) nd plan l M J) : XC C (.seq (.region id os.toArray true) c2) Q l M J :=
  A3 (F1 nd plan hm hp h)
theorem P0 (h : Q .normal l M J) : XF C os Q nd [] l M J := A5k h
theorem F5 {c : Code} {l' : Env} (hk : Keep l l') (h : XC C c Q l' M J) : XF C os (A1p C c Q) nd [] l M J := N9 hk h
theorem A8R {t : Nat} {b : Bool} (hl : lk l t = some (.bool b)) (h1 : b = true → XF C os Q nd plan ((t, .bool true) :: l) M J) (h2 : b = false → XF C os Q nd plan ((t, .bool false) :: l) M J) : XF C os Q nd plan l M J := A8Q hl h1 h2
section ops
variable {i d j t : Nat} {op : Op} {ty : TypeId} {pos : String} {af : Array Edge} {b b' : Bool} {v : Value} {oj : Oper}
theorem C3 (hs : Region.noSelect os.toArray = true) (hget : nth os i = some ⟨some d, op, ty, pos, af, none⟩) (hq : OpQ C.P [] ⟨some d, op, ty, pos, af, none⟩ l v) (hd : Nat.blt d C.N = true)
    (h : XF C os Q nd plan ((d, v) :: l) M J) : XF C os Q nd ((i, 0) :: plan) l M J := I6 hs hget hq hd h
theorem G6 (hs : Region.noSelect os.toArray = true) (hget : nth os i = some ⟨some d, op, ty, pos, af, none⟩) (hq : OpQ C.P (M ++ (J ++ C.A)) ⟨some d, op, ty, pos, af, none⟩ l v) (hd : Nat.blt d C.N = true)
    (h : XF C os Q nd plan ((d, v) :: l) M J) : XF C os Q nd ((i, 1) :: plan) l M J := XK.r hs hget (fun _ h => h) (fun _ _ h => h) hq hd h
theorem L9 (hs : Region.noSelect os.toArray = true) (hget : nth os i = some ⟨some d, op, ty, pos, af, some (j, b)⟩) (hj : nth os j = some oj) (ht : oj.dst = some t) (hl : lk l t = some (.bool b)) (hq : OpQ C.P [] ⟨some d, op, ty, pos, af, some (j, b)⟩ l v) (hd : Nat.blt d C.N = true)
    (h : XF C os Q nd plan ((d, v) :: l) M J) : XF C os Q nd ((i, 0) :: plan) l M J := A0P hs hget hj ht hl hq hd h
theorem A8S (hs : Region.noSelect os.toArray = true) (hget : nth os i = some ⟨some d, op, ty, pos, af, some (j, b)⟩) (hj : nth os j = some oj) (ht : oj.dst = some t) (hl : lk l t = some (.bool b)) (hq : OpQ C.P (M ++ (J ++ C.A)) ⟨some d, op, ty, pos, af, some (j, b)⟩ l v) (hd : Nat.blt d C.N = true)
    (h : XF C os Q nd plan ((d, v) :: l) M J) : XF C os Q nd ((i, 1) :: plan) l M J := A61 hs hget hj ht hl (fun _ h => h) (fun _ _ h => h) hq hd h
theorem B4D (hs : Region.noSelect os.toArray = true) (hget : nth os i = some ⟨some d, op, ty, pos, af, some (j, b)⟩) (hj : nth os j = some oj) (ht : oj.dst = some t) (hl : lk l t = some (.bool b')) (hb : (b' == b) = false) (hd : Nat.blt d C.N = true)
    (h : XF C os Q nd plan ((d, undef) :: l) M J) : XF C os Q nd ((i, 0) :: plan) l M J := B4A hs hget hj ht hl hb hd h
theorem B4E (hs : Region.noSelect os.toArray = true) (hget : nth os i = some ⟨some d, op, ty, pos, af, some (j, b)⟩) (hj : nth os j = some oj) (ht : oj.dst = some t) (hl : lk l t = some (.bool b')) (hb : (b' == b) = false) (hd : Nat.blt d C.N = true)
    (h : XF C os Q nd plan ((d, undef) :: l) M J) : XF C os Q nd ((i, 1) :: plan) l M J := B4B hs hget hj ht hl hb hd h
theorem B4F (hs : Region.noSelect os.toArray = true) (hget : nth os i = some ⟨some d, op, ty, pos, af, some (j, b)⟩) (hj : nth os j = some oj) (ht : oj.dst = some t) (hl : lk l t = some (.bool b')) (hb : (b' == b) = false) (hd : Nat.blt d C.N = true)
    (h : XF C os Q nd plan ((d, undef) :: l) M J) : XF C os Q nd ((i, 2) :: plan) l M J := B4C hget hj ht hl hb hd h
end ops
theorem A8T {i : Nat} {o : Oper} (hget : nth os i = some o) (hg : o.guard = none)
    (h : ∀ w, OpL ⟨C.P, w, [], M ++ (J ++ C.A), C.N⟩ o l [] [] (fun l' M' J' => XF C os Q nd plan l' (M' ++ M) (J' ++ J))) : XF C os Q nd ((i, 2) :: plan) l M J :=
  K8 [] M hget hg (.refl _) (fun _ h => by cases h) fun w => (h w).mono fun _ _ _ hh _ => hh
theorem B4G {i j t : Nat} {d : Option Nat} {op : Op} {ty : TypeId} {pos : String} {af : Array Edge} {b : Bool} {oj : Oper} (hget : nth os i = some ⟨d, op, ty, pos, af, some (j, b)⟩) (hj : nth os j = some oj) (ht : oj.dst = some t) (hl : lk l t = some (.bool b))
    (h : ∀ w, OpL ⟨C.P, w, [], M ++ (J ++ C.A), C.N⟩ ⟨d, op, ty, pos, af, some (j, b)⟩ l [] [] (fun l' M' J' => XF C os Q nd plan l' (M' ++ M) (J' ++ J))) : XF C os Q nd ((i, 2) :: plan) l M J :=
  B2x [] M hget hj ht hl (.refl _) (fun _ h => by cases h) fun w => (h w).mono fun _ _ _ hh _ => hh
end free
section tails
variable {C : Cx} {Q : XQ} {l : Env} {M J : Mem} {os : List Oper} {K : Nat → Prop} {n0 : Nat} {nd : List Nat} {plan : List (Nat × Nat)}
theorem A63 {i : Nat} {o : Oper} (hget : nth os i = some o) (hw' : ∀ a, Ag C.N l a → Region.wanted o (yielded os.toArray a.tmps) = true) (hnd : nd.contains i = false)
    (h : OpL C o l M J (fun l' M' J' => XK C os Q K 0 nd plan l' M' J')) : XK C os Q K 0 nd ((i, 2) :: plan) l M J := by
  intro listed hcl hp a w ha hw hf
  simp only [G7, Bool.and_eq_true, beq_iff_eq] at hp
  obtain ⟨h1, h2⟩ := hp
  have hi : os.toArray[i]? = some o := by rw [P8] at hget; simpa using hget
  refine ⟨fun h0 => (by rw [h1] at h0; cases h0), fun j hj => ?_⟩
  have hr := hj
  rw [h1] at hj
  simp only [List.mem_singleton] at hj
  subst hj
  unfold wpOp
  simp only [hi]
  rw [if_pos (hw' a ha)]
  refine .inl (Oper.wp_mono ?_ (h _ a w ha hw))
  rintro a' w' ⟨l', M', J', ha', hs', hk⟩
  exact ⟨fun hn => absurd hn (by rw [hnd]; decide), hk _ (F6 hcl hr) h2 a' w' ha' hs' (Nat.zero_le _)⟩
theorem E6 {i : Nat} {o : Oper} (hget : nth os i = some o) (hg : o.guard = none) (hnd : nd.contains i = false) (h : OpL C o l M J (fun l' M' J' => XF C os Q nd plan l' M' J')) : XF C os Q nd ((i, 2) :: plan) l M J :=
  A63 hget (fun a ha => by simp [Region.wanted, hg]) hnd h
end tails
def XR (C : Cx) (c : Code) (Q : XQ) (n : Nat) (l : Env) (M J : Mem) : Prop := ∀ a w, Ag C.N l a → St C M J w → Code.rounds C.P c (A4q C Q) n a w
def unX (C : Cx) (c : Code) (Q : XQ) (n : Nat) : XQ
  | .normal, l, M, J => XR C c Q n l M J
  | e, l, M, J => Q e l M J
section unroll
variable {C : Cx} {Q : XQ} {l l' : Env} {M J : Mem} {c : Code} {n : Nat}
theorem T6 (n : Nat) (h : XR C c Q n l M J) : XC C (.loop c) Q l M J := fun a w ha hw => wp_loop_rounds n (h a w ha hw)
theorem E8 (h : XC C c (unX C c Q n) l M J) : XR C c Q (n + 1) l M J := by
  intro a w ha hw
  refine Code.wp_mono ?_ (h a w ha hw)
  rintro e a' w' ⟨l', M', J', ha', hw', hq⟩
  cases e with
  | normal => exact hq a' w' ha' hw'
  | _ => exact ⟨l', M', J', ha', hw', hq⟩
theorem un (hk : Keep l l') (h : XR C c Q n l' M J) : unX C c Q n .normal l M J := fun a w ha hw => h a w (ha.sub hk.lk) hw
theorem ue {i : Nat} (h : Q (.exit i) l M J) : unX C c Q n (.exit i) l M J := h
end unroll
section call
variable {C : Cx} {Q : XQ} {l : Env} {M J : Mem} {d i j t : Nat} {ty : TypeId} {pos : String} {af : Array Edge} {b : Bool} {f : FuncId} {xs : List Operand} {vs : List Value} {ts : Array TypeId} {post : Value → Mem → Mem → Prop} {K : Env → Mem → Mem → Prop} {g : Option (Nat × Bool)}
theorem E3 (hx : Evs l xs vs) (hc : H6 C.P f = true)
    (hf : FnX C.P f vs [] (M ++ (J ++ C.A)) post) (hd : Nat.blt d C.N = true) (k : ∀ v M' J', post v M' J' → K ((d, v) :: l) (M' ++ M) (J' ++ J)) :
    OpL C ⟨some d, .call { callee := .value (.func f), args := xs.toArray, argTypes := ts }, ty, pos, af, g⟩ l M J K := D4 (Mc := []) (R := M) hx hc (.refl _) hf hd k
theorem C7 {ops : Array Oper} {rest : List Oper} (hx : Evs l xs vs) (hc : H6 C.P f = true) (hf : FnX C.P f vs [] (M ++ (J ++ C.A)) post) (hd : Nat.blt d C.N = true)
    (k : ∀ v M' J', post v M' J' → XL C ops rest Q ((d, v) :: l) (M' ++ M) (J' ++ J)) :
    XL C ops (⟨some d, .call { callee := .value (.func f), args := xs.toArray, argTypes := ts }, ty, pos, af, none⟩ :: rest) Q l M J := A4 rfl (E3 hx hc hf hd k)
theorem A8U {ops : Array Oper} {rest : List Oper} (ht : (ops[j]?).bind (·.dst) = some t) (hl : lk l t = some (.bool b)) (hx : Evs l xs vs) (hc : H6 C.P f = true) (hf : FnX C.P f vs [] (M ++ (J ++ C.A)) post) (hd : Nat.blt d C.N = true)
    (k : ∀ v M' J', post v M' J' → XL C ops rest Q ((d, v) :: l) (M' ++ M) (J' ++ J)) :
    XL C ops (⟨some d, .call { callee := .value (.func f), args := xs.toArray, argTypes := ts }, ty, pos, af, some (j, b)⟩ :: rest) Q l M J := E5 ht hl (E3 hx hc hf hd k)
variable {os : List Oper} {nd : List Nat} {plan : List (Nat × Nat)} {oj : Oper}
theorem N4 (hget : nth os i = some ⟨some d, .call { callee := .value (.func f), args := xs.toArray, argTypes := ts }, ty, pos, af, none⟩) (hx : Evs l xs vs) (hc : H6 C.P f = true) (hf : FnX C.P f vs [] (M ++ (J ++ C.A)) post) (hd : Nat.blt d C.N = true)
    (k : ∀ v M' J', post v M' J' → XF C os Q nd plan ((d, v) :: l) (M' ++ M) (J' ++ J)) : XF C os Q nd ((i, 2) :: plan) l M J :=
  A8T hget rfl fun w => E3 hx hc hf hd fun v M' J' hp => by simpa using k v M' J' hp
theorem A8V (hget : nth os i = some ⟨some d, .call { callee := .value (.func f), args := xs.toArray, argTypes := ts }, ty, pos, af, some (j, b)⟩) (hj : nth os j = some oj) (ht : oj.dst = some t) (hl : lk l t = some (.bool b)) (hx : Evs l xs vs) (hc : H6 C.P f = true) (hf : FnX C.P f vs [] (M ++ (J ++ C.A)) post) (hd : Nat.blt d C.N = true)
    (k : ∀ v M' J', post v M' J' → XF C os Q nd plan ((d, v) :: l) (M' ++ M) (J' ++ J)) : XF C os Q nd ((i, 2) :: plan) l M J :=
  B4G hget hj ht hl fun w => E3 hx hc hf hd fun v M' J' hp => by simpa using k v M' J' hp
theorem F7 {ops : Array Oper} {rest : List Oper} {v : Value} (hx : Evs l xs vs) (hc : H6 C.P f = true) (hf : FnV C.P f vs (M ++ (J ++ C.A)) v) (hd : Nat.blt d C.N = true) (k : XL C ops rest Q ((d, v) :: l) M J) :
    XL C ops (⟨some d, .call { callee := .value (.func f), args := xs.toArray, argTypes := ts }, ty, pos, af, none⟩ :: rest) Q l M J := C7 hx hc hf hd fun r M' J' h => by obtain ⟨rfl, rfl, rfl⟩ := h; exact k
theorem A64 {ops : Array Oper} {rest : List Oper} {v : Value} (ht : (ops[j]?).bind (·.dst) = some t) (hl : lk l t = some (.bool b)) (hx : Evs l xs vs) (hc : H6 C.P f = true) (hf : FnV C.P f vs (M ++ (J ++ C.A)) v) (hd : Nat.blt d C.N = true) (k : XL C ops rest Q ((d, v) :: l) M J) :
    XL C ops (⟨some d, .call { callee := .value (.func f), args := xs.toArray, argTypes := ts }, ty, pos, af, some (j, b)⟩ :: rest) Q l M J := A8U ht hl hx hc hf hd fun r M' J' h => by obtain ⟨rfl, rfl, rfl⟩ := h; exact k
theorem S0 {v : Value} (hget : nth os i = some ⟨some d, .call { callee := .value (.func f), args := xs.toArray, argTypes := ts }, ty, pos, af, none⟩) (hx : Evs l xs vs) (hc : H6 C.P f = true) (hf : FnV C.P f vs (M ++ (J ++ C.A)) v) (hd : Nat.blt d C.N = true)
    (k : XF C os Q nd plan ((d, v) :: l) M J) : XF C os Q nd ((i, 2) :: plan) l M J := N4 hget hx hc hf hd fun r M' J' h => by obtain ⟨rfl, rfl, rfl⟩ := h; exact k
theorem A3L {v : Value} (hget : nth os i = some ⟨some d, .call { callee := .value (.func f), args := xs.toArray, argTypes := ts }, ty, pos, af, some (j, b)⟩) (hj : nth os j = some oj) (ht : oj.dst = some t) (hl : lk l t = some (.bool b)) (hx : Evs l xs vs) (hc : H6 C.P f = true) (hf : FnV C.P f vs (M ++ (J ++ C.A)) v) (hd : Nat.blt d C.N = true)
    (k : XF C os Q nd plan ((d, v) :: l) M J) : XF C os Q nd ((i, 2) :: plan) l M J := A8V hget hj ht hl hx hc hf hd fun r M' J' h => by obtain ⟨rfl, rfl, rfl⟩ := h; exact k
end call
end Go.Px

namespace Go.Px
theorem kr_ {X Z Y : Mem} : ∀ x ∈ Z ++ Y, x ∈ (X ++ Z) ++ Y := fun x hx => by rw [List.append_assoc]; exact List.mem_append_right _ hx
def zp : Nat → List Nat → List (Nat × Nat)
  | _, [] => []
  | i, c :: r => (i, c) :: zp (i + 1) r
section
variable {C : Cx} {Q : XQ} {l : Env} {M J : Mem} {os : List Oper} {K : Nat → Prop} {n0 : Nat} {nd : List Nat} {plan : List (Nat × Nat)} {i d j t : Nat} {op : Op} {ty : TypeId} {pos : String} {af : Array Edge} {b b' : Bool} {v : Value} {oj : Oper} {x : Operand}
theorem fm_ (hs : Region.noSelect os.toArray = true) (h : XF C os Q nd plan ((d, v) :: l) M J) (hget : nth os i = some ⟨some d, .move x, ty, pos, af, none⟩ := by exact rfl) (hx : ev l x = some v := by exact rfl) (hd : Nat.blt d C.N = true := by exact rfl) : XF C os Q nd ((i, 0) :: plan) l M J := C3 hs hget (A5b hx) hd h
theorem fa_ (hs : Region.noSelect os.toArray = true) (h : XF C os Q nd plan ((d, v) :: l) M J) (hget : nth os i = some ⟨some d, .assign x, ty, pos, af, none⟩ := by exact rfl) (hx : ev l x = some v := by exact rfl) (hd : Nat.blt d C.N = true := by exact rfl) : XF C os Q nd ((i, 0) :: plan) l M J := C3 hs hget (F3 hx) hd h
theorem km_ (hs : Region.noSelect os.toArray = true) (h : XK C os Q K n0 nd plan ((d, v) :: l) M J) (hget : nth os i = some ⟨some d, .move x, ty, pos, af, none⟩ := by exact rfl) (hx : ev l x = some v := by exact rfl) (hd : Nat.blt d C.N = true := by exact rfl) : XK C os Q K n0 nd ((i, 0) :: plan) l M J := I6 hs hget (A5b hx) hd h
theorem B0U (hs : Region.noSelect os.toArray = true) (h : XF C os Q nd plan ((d, undef) :: l) M J) (hget : nth os i = some ⟨some d, op, ty, pos, af, some (j, b)⟩ := by exact rfl) (hj : nth os j = some oj := by exact rfl) (ht : oj.dst = some t := by exact rfl) (hl : lk l t = some (.bool b') := by exact rfl) (hb : (b' == b) = false := by exact rfl) (hd : Nat.blt d C.N = true := by exact rfl) : XF C os Q nd ((i, 0) :: plan) l M J := B4D hs hget hj ht hl hb hd h
theorem frn_ (hs : Region.noSelect os.toArray = true) (h : XF C os Q nd plan ((d, undef) :: l) M J) (hget : nth os i = some ⟨some d, op, ty, pos, af, some (j, b)⟩ := by exact rfl) (hj : nth os j = some oj := by exact rfl) (ht : oj.dst = some t := by exact rfl) (hl : lk l t = some (.bool b') := by exact rfl) (hb : (b' == b) = false := by exact rfl) (hd : Nat.blt d C.N = true := by exact rfl) : XF C os Q nd ((i, 1) :: plan) l M J := B4E hs hget hj ht hl hb hd h
theorem R5 {R : Mem} (hs : Region.noSelect os.toArray = true) (hget : nth os i = some ⟨some d, op, ty, pos, af, none⟩) (hn : ∀ x ∈ R, ¬ K x.1) (hq : OpQ C.P R ⟨some d, op, ty, pos, af, none⟩ l v) (h : XK C os Q K n0 nd plan ((d, v) :: l) M J) (hR : ∀ x ∈ R, x ∈ M ++ (J ++ C.A) := by first | exact fun x hx => by rw [List.append_assoc]; exact List.mem_append_right _ hx | exact SubC.sub) (hd : Nat.blt d C.N = true := by exact rfl) : XK C os Q K n0 nd ((i, 1) :: plan) l M J := XK.r hs hget hR hn hq hd h
end
end Go.Px

