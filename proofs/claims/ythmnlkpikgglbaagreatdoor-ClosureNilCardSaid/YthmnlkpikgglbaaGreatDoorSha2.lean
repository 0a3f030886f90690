/- The walk of sha.Sum. -/
import Derived.Test.YthmnlkpikgglbaaGreatDoorSha1
import Derived.Test.YthmnlkpikgglbaaGreatDoorEx
set_option linter.unusedVariables false
set_option linter.unusedSimpArgs false
namespace Go.Proofs.YthmnlkpikgglbaaGreatDoor
open Go.Px

/-- A slice of slices of bytes. -/
def Parts (R : Mem) (v : Value) (ps : List (List Nat)) : Prop :=
  ∃ vs : List Value, Rd R 1 v ps.length vs ∧ ∀ (i : Nat) (p : List Nat), ps[i]? = some p → (∀ x ∈ p, x < 256) ∧ ∃ u, vs[i]? = some u ∧ Rd R 1 u p.length (nums .u8 p)
theorem Parts.mono {R R' : Mem} {v : Value} {ps : List (List Nat)} (h : Parts R v ps) (hR : ∀ x, x ∈ R → x ∈ R') : Parts R' v ps := by
  obtain ⟨vs, h1, h2⟩ := h
  refine ⟨vs, h1.mono hR, fun i p hp => ?_⟩
  obtain ⟨h3, u, h4, h5⟩ := h2 i p hp
  exact ⟨h3, u, h4, h5.mono hR⟩
def spre (ps : List (List Nat)) (i : Nat) : List Nat := (ps.take i).flatten
theorem spre_succ {ps : List (List Nat)} {i : Nat} {p : List Nat} (h : ps[i]? = some p) : spre ps (i + 1) = spre ps i ++ p := by
  unfold spre; rw [List.take_add_one, h]; simp
theorem spre_all (ps : List (List Nat)) : spre ps ps.length = ps.flatten := by unfold spre; rw [List.take_length]
theorem spre_le (ps : List (List Nat)) (i : Nat) : (spre ps i).length ≤ ps.flatten.length := by
  have h := congrArg (fun l => (List.flatten l).length) (List.take_append_drop i ps)
  simp only [List.flatten_append, List.length_append] at h
  unfold spre; omega
theorem spre_lt {ps : List (List Nat)} (h : ∀ (i : Nat) (p : List Nat), ps[i]? = some p → ∀ x ∈ p, x < 256) (i : Nat) : ∀ x ∈ spre ps i, x < 256 := by
  intro x hx
  obtain ⟨p, hp, hx⟩ := List.mem_flatten.1 hx
  obtain ⟨j, hj⟩ := List.getElem?_of_mem (List.mem_of_mem_take hp)
  exact h j p hj x hx
theorem padded_len (m : List Nat) : (padded m).length = 64 * ((padded m).length / 64) ∧ 64 * (m.length / 64) ≤ (padded m).length ∧ (padded m).length ≤ m.length + 73 := by
  have e : (padded m).length = m.length + 1 + zeros m.length + 8 := by simp [padded, len8]; omega
  have hz : zeros m.length = (119 - m.length % 64) % 64 := rfl
  omega
theorem padded_drop (m : List Nat) (k : Nat) (h : 64 * k ≤ m.length) : (padded m).drop (64 * k) = m.drop (64 * k) ++ (128 :: (List.replicate (zeros m.length) 0 ++ len8 m.length 8)) := by
  unfold padded; rw [List.drop_append_of_le_length h]
theorem padded_lt {m : List Nat} (h : ∀ x ∈ m, x < 256) : ∀ x ∈ padded m, x < 256 := by
  intro x hx
  unfold padded at hx
  rcases List.mem_append.1 hx with hx | hx
  · exact h x hx
  · rcases List.mem_cons.1 hx with rfl | hx
    · decide
    · rcases List.mem_append.1 hx with hx | hx
      · rw [(List.mem_replicate.1 hx).2]; decide
      · obtain ⟨i, _, rfl⟩ := List.mem_map.1 hx
        exact Nat.mod_lt _ (by decide)
theorem take_nums {k : IntKind} {ws : List Nat} (n : Nat) : (nums k ws).take (n * 1) = nums k (ws.take n) := by rw [Nat.mul_one, nums_take]
theorem drop_nums {k : IntKind} {ws : List Nat} (n : Nat) : (nums k ws).drop (n * 1) = nums k (ws.drop n) := by rw [Nat.mul_one, nums_drop]
theorem st8_len (s t : S8) : (nums .u32 s.list).length = (nums .u32 t.list).length := by rw [nums_len, nums_len]; simp [S8.list]
theorem len8_succ (n k : Nat) : len8 n (k + 1) = len8 n k ++ [(8 * n) >>> (56 - 8 * k) % 256] := by simp [len8, List.range_succ]
theorem len8_len (n k : Nat) : (len8 n k).length = k := by simp [len8]

set_option maxRecDepth 100000 in
theorem sum_spec (v : Value) (ps : List (List Nat)) (A : Mem) (hv : Parts A v ps) (htot : ps.flatten.length ≤ 2147483648) (hcnt : ps.length ≤ 2147483648) {ef ek : TypeId} {ff fk : Nat × Nat} (h0 : (0, Obj.cells (nums .u32 hFirst.list).toArray ef ff) ∈ A) (h1 : (3, Obj.cells (nums .u32 kTab).toArray ek fk) ∈ A) :
    FnX Tryz.prog 99 [v] [] A fun r M J => J = [] ∧ Sl 1 r 32 (nums .u8 (sha256 ps.flatten)) M := by
  obtain ⟨vs, hvs, hps⟩ := hv
  refine FnX.enter (N := 90) Tryz.func99 rfl rfl rfl fun w => ?_
  refine XC.keep (kp 0 rfl kn) ?_
  refine XC.reg ?_
  refine XL.q (q_assign rfl) rfl ?_
  refine XL.fin (kp 0 rfl kn) ?_
  refine XC.reg ?_
  refine XL.q (q_loadW (cs := nums .u32 hFirst.list) (n := 8) rfl (by kernel_rfl) (mA h0) (by rfl)) rfl ?_
  refine XL.lo rfl (l_alloc (cs := [.int .u32 0, .int .u32 0, .int .u32 0, .int .u32 0, .int .u32 0, .int .u32 0, .int .u32 0, .int .u32 0]) (by kernel_rfl) rfl fun b3 => ?_)
  refine XL.stW rfl rfl (by kernel_rfl) (by rfl) nums_one ?_
  refine XL.q (q_assign rfl) rfl ?_
  refine XL.fin (kp 0 rfl (kp 3 rfl (kp 4 rfl kn))) ?_
  refine XC.reg ?_
  refine XL.q (q_assign rfl) rfl ?_
  refine XL.fin (kp 0 rfl (kp 3 rfl (kp 4 rfl (kp 5 rfl kn)))) ?_
  refine XC.seq ?_
  refine XC.reg ?_
  refine XL.q (q_move rfl) rfl ?_
  refine XL.q (q_lenV hvs rfl (by kernel_rfl)) rfl ?_
  refine XL.q (q_move rfl) rfl ?_
  refine XL.fin (kp 3 rfl (kp 4 rfl (kp 5 rfl (kp 13 rfl (kp 14 rfl (kp 15 rfl kn)))))) ?_
  refine XC.block ?_
  refine XC.loop (α := Nat × Value × Mem) (fun x => [(3, .pointer (some ⟨b3, 0, none⟩)), (4, .int .i64 ((spre ps x.1).length : Int)), (5, x.2.1), (13, v), (14, .int .i64 (ps.length : Int)), (15, .int .i64 (x.1 : Int))]) (fun x => x.2.2 ++ [(b3, blk (nums .u32 (shaB kTab ((spre ps x.1).length / 64) hFirst (spre ps x.1)).list) 131)]) (fun _ => []) (fun x => x.1 ≤ ps.length ∧ Sl 1 x.2.1 ((spre ps x.1).length - 64 * ((spre ps x.1).length / 64)) (nums .u8 ((spre ps x.1).drop (64 * ((spre ps x.1).length / 64)))) x.2.2) (fun x => ps.length - x.1) (0, .slice none 0 0, []) ⟨Nat.zero_le _, sl_eq Sl.nil (by simp [spre]) (by simp [spre, nums])⟩ (kp 3 rfl (kp 4 rfl (kp 5 rfl (kp 13 rfl (kp 14 rfl (kp 15 rfl kn)))))) (Fit.eq (by simp [spre, shaB])) (fun _ h => h) ?_
  rintro ⟨i, rv, B⟩ ⟨hi, hsl⟩
  dsimp only at hi hsl ⊢
  refine XC.reg ?_
  refine XL.q (q_bin rfl rfl rfl) rfl ?_
  refine XL.fin (kp 3 rfl (kp 4 rfl (kp 5 rfl (kp 13 rfl (kp 14 rfl (kp 15 rfl (kp 16 rfl kn))))))) ?_
  refine XC.seq ?_
  refine XC.cond rfl (fun hc => ?_) (fun hc => ?_)
  ·
    have hlt : i < ps.length := by simp at hc; omega
    obtain ⟨q, hq⟩ : ∃ q, ps[i]? = some q := ⟨_, List.getElem?_eq_getElem hlt⟩
    obtain ⟨hq256, u, hu, hqr⟩ := hps i q hq
    have hps1 := spre_succ hq
    have hle1 := spre_le ps (i + 1)
    have hpl : (spre ps (i + 1)).length = (spre ps i).length + q.length := by rw [hps1, List.length_append]
    generalize hm : spre ps i = m at *
    refine XC.skip ?_
    refine nx (kp 3 rfl (kp 4 rfl (kp 5 rfl (kp 13 rfl (kp 14 rfl (kp 15 rfl kn)))))) ?_
    refine XC.seq ?_
    refine XC.block ?_
    refine XC.reg ?_
    refine XL.q (q_atV hvs rfl rfl (by kernel_rfl) i rfl hlt) rfl ?_
    refine XL.q (q_ldV (hvs.mono fun _ h => mA h) rfl (by kernel_rfl) hu) rfl ?_
    refine XL.q (q_assign rfl) rfl ?_
    refine XL.fin (kp 3 rfl (kp 4 rfl (kp 5 rfl (kp 7 rfl (kp 13 rfl (kp 14 rfl (kp 15 rfl kn))))))) ?_
    refine XC.reg ?_
    refine XL.q (q_move rfl) rfl ?_
    refine XL.q (q_move rfl) rfl ?_
    refine XL.q (q_lenV hqr rfl (by kernel_rfl)) rfl ?_
    refine XL.q (q_num (((spre ps (i + 1)).length : Nat) : Int) rfl rfl (add64 (by omega) (by omega) (by omega))) rfl ?_
    refine XL.q (q_assign rfl) rfl ?_
    refine XL.fin (kp 3 rfl (kp 4 rfl (kp 5 rfl (kp 7 rfl (kp 13 rfl (kp 14 rfl (kp 15 rfl kn))))))) ?_
    refine XC.reg ?_
    refine XL.q (q_move rfl) rfl ?_
    refine XL.q (q_move rfl) rfl ?_
    refine XL.lo rfl (l_append (e := 5) (sz := 1) (by_ := 1) (m := q.length) (B := B) rfl rfl (by kernel_rfl) rfl hsl (hqr.mono fun _ h => mA h) nums_one (.refl _) (by unfold maxLen; omega) (by omega) rfl fun rv1 B1 hsl1 => ?_)
    have hsl1 : Sl 1 rv1 ((spre ps (i + 1)).length - 64 * (m.length / 64)) (nums .u8 ((spre ps (i + 1)).drop (64 * (m.length / 64)))) B1 := sl_eq hsl1 (by omega) (by rw [hps1, List.drop_append_of_le_length (by omega), nums_append])
    refine XL.q (q_assign rfl) rfl ?_
    refine XL.fin (kp 3 rfl (kp 4 rfl (kp 5 rfl (kp 13 rfl (kp 14 rfl (kp 15 rfl kn)))))) ?_
    refine XC.block ?_
    refine XC.loop (α := Nat × Value × Mem) (fun x => [(3, .pointer (some ⟨b3, 0, none⟩)), (4, .int .i64 ((spre ps (i + 1)).length : Int)), (5, x.2.1), (13, v), (14, .int .i64 (ps.length : Int)), (15, .int .i64 (i : Int))]) (fun x => x.2.2 ++ [(b3, blk (nums .u32 (shaB kTab x.1 hFirst (spre ps (i + 1))).list) 131)]) (fun _ => []) (fun x => 64 * x.1 ≤ (spre ps (i + 1)).length ∧ Sl 1 x.2.1 ((spre ps (i + 1)).length - 64 * x.1) (nums .u8 ((spre ps (i + 1)).drop (64 * x.1))) x.2.2) (fun x => (spre ps (i + 1)).length - 64 * x.1) (m.length / 64, rv1, B1) ⟨by dsimp only; omega, hsl1⟩ (kp 3 rfl (kp 4 rfl (kp 5 rfl (kp 13 rfl (kp 14 rfl (kp 15 rfl kn)))))) (Fit.eq (by dsimp only; rw [hps1, shaB_pre _ _ _ _ _ (by omega)])) (fun _ h => h) ?_
    clear hsl1 hsl
    rintro ⟨k, rv, B⟩ ⟨hk1, hsl⟩
    dsimp only at hk1 hsl ⊢
    refine XC.seq ?_
    refine XC.reg ?_
    refine XL.q (q_move rfl) rfl ?_
    refine XL.q (q_lenV (hsl.rd fun _ h => h) rfl (by kernel_rfl)) rfl ?_
    refine XL.q (q_bin rfl rfl rfl) rfl ?_
    refine XL.fin (kp 3 rfl (kp 4 rfl (kp 5 rfl (kp 13 rfl (kp 14 rfl (kp 15 rfl (kp 28 rfl kn))))))) ?_
    refine XC.cond rfl (fun hc => ?_) (fun hc => ?_)
    ·
      have hge : 64 ≤ (spre ps (i + 1)).length - 64 * k := by simp at hc; omega
      obtain ⟨B2, hB2, hsl2⟩ := hsl.loV 64 hge
      refine XC.skip ?_
      refine nx (kp 3 rfl (kp 4 rfl (kp 5 rfl (kp 13 rfl (kp 14 rfl (kp 15 rfl kn)))))) ?_
      refine XC.block ?_
      refine XC.draw (_) [0, 1, 2] [(0, 1), (1, 0), (2, 0), (3, 2), (4, 2)] (by kernel_rfl) (by kernel_rfl) (fun _ h => h) fun hs => ?_
      refine XP.r hs rfl (q_loadW (n := 8) rfl (by kernel_rfl) At.mem (by rfl)) rfl ?_
      refine XP.q hs rfl (q_move rfl) rfl ?_
      refine XP.q hs rfl (q_hiV (hsl.rd fun _ h => h) rfl rfl (by kernel_rfl) 64 rfl hge) rfl ?_
      refine XP.tl rfl rfl rfl (l_callV (aS rfl (aS rfl a0)) (by kernel_rfl) (block_spec _ (shaB_ok _ _ _ first_ok) _ (fun x hx => (spre_lt (fun j p hp => (hps j p hp).1) (i + 1)) x (List.mem_of_mem_drop (List.mem_of_mem_take hx))) _ _ (rd_eq ((hsl.rd fun _ h => by simp [h]).hiV 64 hge) rfl (take_nums 64)) (mA h1)) rfl ?_)
      refine XP.tl rfl rfl rfl (l_storeW rfl rfl rfl (by kernel_rfl) (st8_len _ _) nums_one UpC.upd ?_)
      refine XP.fin (kp 3 rfl (kp 4 rfl (kp 5 rfl (kp 13 rfl (kp 14 rfl (kp 15 rfl kn)))))) ?_
      refine XC.reg1 ?_
      refine XL.q (q_move rfl) rfl ?_
      refine XL.q (q_loV (hsl.rd fun _ h => h) rfl rfl (by kernel_rfl) 64 rfl hge) rfl ?_
      refine XL.q (q_assign rfl) rfl ?_
      refine XL.nil ?_
      refine nb ?_
      refine rn (k + 1, _, B2) ⟨by dsimp only; omega, sl_eq hsl2 (by dsimp only; omega) (by rw [drop_nums, List.drop_drop]; rfl)⟩ (by dsimp only; omega) (kp 3 rfl (kp 4 rfl (kp 5 rfl (kp 13 rfl (kp 14 rfl (kp 15 rfl kn)))))) ?_ (fun _ h => h)
      dsimp only
      rw [shaB_succ]
      exact Fit.sub (List.Sublist.append hB2 (List.Sublist.refl _))
    ·
      have hge : k = (spre ps (i + 1)).length / 64 := by simp at hc; omega
      subst hge
      refine XC.exit ?_
      refine te ?_
      refine re ?_
      refine be rfl ?_
      refine nb ?_
      refine nx (kp 3 rfl (kp 4 rfl (kp 5 rfl (kp 13 rfl (kp 14 rfl (kp 15 rfl kn)))))) ?_
      refine XC.reg1 ?_
      refine XL.q (q_num ((i + 1 : Nat) : Int) rfl rfl (add64 (by omega) (by omega) (by omega))) rfl ?_
      refine XL.q (q_move rfl) rfl ?_
      refine XL.nil ?_
      refine rn (i + 1, _, B) ⟨by dsimp only; omega, hsl⟩ (by dsimp only; omega) (kp 3 rfl (kp 4 rfl (kp 5 rfl (kp 13 rfl (kp 14 rfl (kp 15 rfl kn)))))) .rfl (fun _ h => h)
  ·
    have hlt : i = ps.length := by simp at hc; omega
    subst hlt
    rw [spre_all] at hsl
    simp only [spre_all]
    generalize hm : ps.flatten = m at *
    refine XC.exit ?_
    refine te ?_
    refine re ?_
    refine be rfl ?_
    refine nx (kp 3 rfl (kp 4 rfl (kp 5 rfl kn))) ?_
    refine XC.reg ?_
    refine XL.q (q_move rfl) rfl ?_
    refine XL.lo rfl (l_buildSlice (e := 5) (sz := 1) (z := [.int .u8 0]) (by kernel_rfl) (eS rfl e0) (bdS 0 1 rfl (by rfl) bd0) rfl fun b37 => ?_)
    have hm256 : ∀ x ∈ m, x < 256 := by rw [← hm, ← spre_all]; exact spre_lt (fun j p hp => (hps j p hp).1) _
    have htot' : m.length ≤ 2147483648 := htot
    refine XL.lo rfl (l_append (e := 5) (sz := 1) (by_ := 1) (m := 1) (B := B) (ys := nums .u8 [128]) (M0 := (b37, _) :: _) rfl rfl (by kernel_rfl) rfl hsl (Rd.whole (n := 1) m0 (by rfl)) nums_one pkB (by unfold maxLen; omega) (by omega) rfl fun rv1 B1 hsl1 => ?_)
    clear hsl
    have hsl1 : Sl 1 rv1 (m.length % 64 + 1) (nums .u8 (m.drop (64 * (m.length / 64)) ++ [128])) B1 := sl_eq hsl1 (by omega) (by rw [nums_append])
    refine XL.q (q_assign rfl) rfl ?_
    refine XL.fin (kp 3 rfl (kp 4 rfl (kp 5 rfl kn))) ?_
    refine XC.seq ?_
    refine XC.block ?_
    refine XC.loop (α := Nat × Value × Mem) (fun x => [(3, .pointer (some ⟨b3, 0, none⟩)), (4, .int .i64 (m.length : Int)), (5, x.2.1)]) (fun x => x.2.2 ++ [(b3, blk (nums .u32 (shaB kTab (m.length / 64) hFirst m).list) 131)]) (fun _ => []) (fun x => x.1 ≤ zeros m.length ∧ Sl 1 x.2.1 (m.length % 64 + 1 + x.1) (nums .u8 (m.drop (64 * (m.length / 64)) ++ (128 :: List.replicate x.1 0))) x.2.2) (fun x => zeros m.length - x.1) (0, rv1, B1) ⟨Nat.zero_le _, hsl1⟩ (kp 3 rfl (kp 4 rfl (kp 5 rfl kn))) (Fit.head1' (List.Sublist.refl _)) (fun _ h => h) ?_
    clear hsl1
    rintro ⟨z, rv, B⟩ ⟨hz, hsl⟩
    dsimp only at hz hsl ⊢
    have hzz : zeros m.length = (119 - m.length % 64) % 64 := rfl
    refine XC.seq ?_
    refine XC.reg ?_
    refine XL.q (q_move rfl) rfl ?_
    refine XL.q (q_lenV (hsl.rd fun _ h => h) rfl (by kernel_rfl)) rfl ?_
    refine XL.q (q_remN (b := 64) rfl rfl (by decide)) rfl ?_
    refine XL.q (q_bin rfl rfl rfl) rfl ?_
    refine XL.fin (kp 3 rfl (kp 4 rfl (kp 5 rfl (kp 42 rfl kn)))) ?_
    refine XC.cond rfl (fun hc => ?_) (fun hc => ?_)
    ·
      have hlt : z < zeros m.length := by simp at hc; omega
      refine XC.skip ?_
      refine nx (kp 3 rfl (kp 4 rfl (kp 5 rfl kn))) ?_
      refine XC.block ?_
      refine XC.reg1 ?_
      refine XL.q (q_move rfl) rfl ?_
      refine XL.lo rfl (l_buildSlice (e := 5) (sz := 1) (z := [.int .u8 0]) (by kernel_rfl) (eS rfl e0) (bdS 0 1 rfl (by rfl) bd0) rfl fun b44 => ?_)
      refine XL.lo rfl (l_append (e := 5) (sz := 1) (by_ := 1) (m := 1) (B := B) (ys := nums .u8 [0]) (M0 := (b44, _) :: _) rfl rfl (by kernel_rfl) rfl hsl (Rd.whole (n := 1) m0 (by rfl)) nums_one pkB (by unfold maxLen; omega) (by omega) rfl fun rv1 B1 hsl1 => ?_)
      refine XL.q (q_assign rfl) rfl ?_
      refine XL.nil ?_
      refine nb ?_
      refine rn (z + 1, rv1, B1) ⟨by dsimp only; omega, sl_eq hsl1 (by dsimp only; omega) ?_⟩ (by dsimp only; omega) (kp 3 rfl (kp 4 rfl (kp 5 rfl kn))) (Fit.head1' (List.Sublist.refl _)) (fun _ h => h)
      dsimp only
      rw [← nums_append, List.append_assoc, List.cons_append, ← List.replicate_succ']
    ·
      have hlt : z = zeros m.length := by simp at hc; omega
      subst hlt
      refine XC.exit ?_
      refine te ?_
      refine re ?_
      refine be rfl ?_
      refine nx (kp 3 rfl (kp 4 rfl (kp 5 rfl kn))) ?_
      refine XC.seq ?_
      refine XC.reg ?_
      refine XL.q (q_move rfl) rfl ?_
      refine XL.fin (kp 3 rfl (kp 4 rfl (kp 5 rfl (kp 46 rfl kn)))) ?_
      refine XC.block ?_
      refine XC.loop (α := Nat × Value × Mem) (fun x => [(3, .pointer (some ⟨b3, 0, none⟩)), (4, .int .i64 (m.length : Int)), (5, x.2.1), (46, .int .i64 (x.1 : Int))]) (fun x => x.2.2 ++ [(b3, blk (nums .u32 (shaB kTab (m.length / 64) hFirst m).list) 131)]) (fun _ => []) (fun x => x.1 ≤ 8 ∧ Sl 1 x.2.1 (m.length % 64 + 1 + zeros m.length + x.1) (nums .u8 (m.drop (64 * (m.length / 64)) ++ (128 :: (List.replicate (zeros m.length) 0 ++ len8 m.length x.1)))) x.2.2) (fun x => 8 - x.1) (0, rv, B) ⟨Nat.zero_le _, sl_eq hsl rfl (by simp [len8])⟩ (kp 3 rfl (kp 4 rfl (kp 5 rfl (kp 46 rfl kn)))) .rfl (fun _ h => h) ?_
      clear hsl
      rintro ⟨i, rv, B⟩ ⟨hi, hsl⟩
      dsimp only at hi hsl ⊢
      refine XC.reg ?_
      refine XL.q (q_bin rfl rfl rfl) rfl ?_
      refine XL.fin (kp 3 rfl (kp 4 rfl (kp 5 rfl (kp 46 rfl (kp 47 rfl kn))))) ?_
      refine XC.seq ?_
      refine XC.cond rfl (fun hc => ?_) (fun hc => ?_)
      ·
        have hlt : i < 8 := by simp at hc; omega
        refine XC.skip ?_
        refine nx (kp 3 rfl (kp 4 rfl (kp 5 rfl (kp 46 rfl kn)))) ?_
        refine XC.seq ?_
        refine XC.block ?_
        refine XC.reg ?_
        refine XL.q (q_move rfl) rfl ?_
        refine XL.q (q_assign rfl) rfl ?_
        refine XL.fin (kp 3 rfl (kp 4 rfl (kp 5 rfl (kp 8 rfl (kp 46 rfl kn))))) ?_
        refine XC.reg1 ?_
        refine XL.q (q_move rfl) rfl ?_
        refine XL.q (q_move rfl) rfl ?_
        refine XL.q (q_num ((8 * m.length : Nat) : Int) rfl rfl (mul64 (by omega) (by omega) (by omega))) rfl ?_
        refine XL.q (q_same (k' := .u64) rfl (by kernel_rfl) (by show _ < 9223372036854775808; omega)) rfl ?_
        refine XL.q (q_move rfl) rfl ?_
        refine XL.q (q_num ((8 * i : Nat) : Int) rfl rfl (mul64 (by omega) (by omega) (by omega))) rfl ?_
        refine XL.q (q_num ((56 - 8 * i : Nat) : Int) rfl rfl (sub64 (by omega) (by omega) (by omega))) rfl ?_
        refine XL.q (q_shrN (56 - 8 * i) rfl rfl rfl (by show _ ≤ 64; omega)) rfl ?_
        refine XL.q (q_to8 rfl (by kernel_rfl)) rfl ?_
        refine XL.lo rfl (l_buildSlice (e := 5) (sz := 1) (z := [.int .u8 0]) (by kernel_rfl) (eS rfl e0) (bdS 0 1 rfl (by rfl) bd0) rfl fun b58 => ?_)
        refine XL.lo rfl (l_append (e := 5) (sz := 1) (by_ := 1) (m := 1) (B := B) (ys := nums .u8 [(8 * m.length) >>> (56 - 8 * i) % 256]) (M0 := (b58, _) :: _) rfl rfl (by kernel_rfl) rfl hsl (Rd.whole (n := 1) m0 (by rfl)) nums_one pkB (by unfold maxLen; omega) (by omega) rfl fun rv1 B1 hsl1 => ?_)
        refine XL.q (q_assign rfl) rfl ?_
        refine XL.nil ?_
        refine nb ?_
        refine nx (kp 3 rfl (kp 4 rfl (kp 5 rfl (kp 46 rfl kn)))) ?_
        refine XC.reg1 ?_
        refine XL.q (q_num ((i + 1 : Nat) : Int) rfl rfl (add64 (by omega) (by omega) (by omega))) rfl ?_
        refine XL.q (q_move rfl) rfl ?_
        refine XL.nil ?_
        refine rn (i + 1, rv1, B1) ⟨by dsimp only; omega, sl_eq hsl1 (by dsimp only; omega) ?_⟩ (by dsimp only; omega) (kp 3 rfl (kp 4 rfl (kp 5 rfl (kp 46 rfl kn)))) (Fit.head1' (List.Sublist.refl _)) (fun _ h => h)
        dsimp only
        rw [← nums_append, List.append_assoc, List.cons_append, List.append_assoc, ← len8_succ]
      ·
        have hlt : i = 8 := by simp at hc; omega
        subst hlt
        refine XC.exit ?_
        refine te ?_
        refine re ?_
        refine be rfl ?_
        refine nx (kp 3 rfl (kp 5 rfl kn)) ?_
        refine XC.seq ?_
        refine XC.block ?_
        obtain ⟨hp1, hp2, hp3⟩ := padded_len m
        have hsl0 := sl_eq (n' := (padded m).length - 64 * (m.length / 64)) (xs' := nums .u8 ((padded m).drop (64 * (m.length / 64)))) hsl (by simp [padded, len8]; omega) (by rw [padded_drop _ _ (by omega)])
        clear hsl
        refine XC.loop (α := Nat × Value × Mem) (fun x => [(3, .pointer (some ⟨b3, 0, none⟩)), (5, x.2.1)]) (fun x => x.2.2 ++ [(b3, blk (nums .u32 (shaB kTab x.1 hFirst (padded m)).list) 131)]) (fun _ => []) (fun x => 64 * x.1 ≤ (padded m).length ∧ Sl 1 x.2.1 ((padded m).length - 64 * x.1) (nums .u8 ((padded m).drop (64 * x.1))) x.2.2) (fun x => (padded m).length - 64 * x.1) (m.length / 64, rv, B) ⟨hp2, hsl0⟩ (kp 3 rfl (kp 5 rfl kn)) (Fit.eq (by dsimp only; unfold padded; rw [shaB_pre _ _ _ _ _ (by omega)])) (fun _ h => h) ?_
        clear hsl0
        rintro ⟨k, rv, B⟩ ⟨hk1, hsl⟩
        dsimp only at hk1 hsl ⊢
        refine XC.seq ?_
        refine XC.reg ?_
        refine XL.q (q_move rfl) rfl ?_
        refine XL.q (q_lenV (hsl.rd fun _ h => h) rfl (by kernel_rfl)) rfl ?_
        refine XL.q (q_bin rfl rfl rfl) rfl ?_
        refine XL.fin (kp 3 rfl (kp 5 rfl (kp 63 rfl kn))) ?_
        refine XC.cond rfl (fun hc => ?_) (fun hc => ?_)
        ·
          have hge : 64 ≤ (padded m).length - 64 * k := by simp at hc; omega
          obtain ⟨B2, hB2, hsl2⟩ := hsl.loV 64 hge
          refine XC.skip ?_
          refine nx (kp 3 rfl (kp 5 rfl kn)) ?_
          refine XC.seq ?_
          refine XC.block ?_
          refine XC.draw1 (_) [0, 1, 2] [(0, 1), (1, 0), (2, 0), (3, 2), (4, 2)] (by kernel_rfl) (by kernel_rfl) (fun _ h => h) fun hs => ?_
          refine XP.r hs rfl (q_loadW (n := 8) rfl (by kernel_rfl) At.mem (by rfl)) rfl ?_
          refine XP.q hs rfl (q_move rfl) rfl ?_
          refine XP.q hs rfl (q_hiV (hsl.rd fun _ h => h) rfl rfl (by kernel_rfl) 64 rfl hge) rfl ?_
          refine XP.tl rfl rfl rfl (l_callV (aS rfl (aS rfl a0)) (by kernel_rfl) (block_spec _ (shaB_ok _ _ _ first_ok) _ (fun x hx => (padded_lt hm256) x (List.mem_of_mem_drop (List.mem_of_mem_take hx))) _ _ (rd_eq ((hsl.rd fun _ h => by simp [h]).hiV 64 hge) rfl (take_nums 64)) (mA h1)) rfl ?_)
          refine XP.tl rfl rfl rfl (l_storeW rfl rfl rfl (by kernel_rfl) (st8_len _ _) nums_one UpC.upd ?_)
          refine XP.nil ?_
          refine nb ?_
          refine nx (kp 3 rfl (kp 5 rfl kn)) ?_
          refine XC.reg1 ?_
          refine XL.q (q_move rfl) rfl ?_
          refine XL.q (q_loV (hsl.rd fun _ h => h) rfl rfl (by kernel_rfl) 64 rfl hge) rfl ?_
          refine XL.q (q_assign rfl) rfl ?_
          refine XL.nil ?_
          refine rn (k + 1, _, B2) ⟨by dsimp only; omega, sl_eq hsl2 (by dsimp only; omega) (by rw [drop_nums, List.drop_drop]; rfl)⟩ (by dsimp only; omega) (kp 3 rfl (kp 5 rfl kn)) ?_ (fun _ h => h)
          dsimp only
          rw [shaB_succ]
          exact Fit.sub (List.Sublist.append hB2 (List.Sublist.refl _))
        ·
          have hge : k = (padded m).length / 64 := by simp at hc; omega
          subst hge
          refine XC.exit ?_
          refine te ?_
          refine re ?_
          refine be rfl ?_
          refine nx (kp 3 rfl kn) ?_
          refine XC.reg ?_
          refine XL.q (q_assign rfl) rfl ?_
          refine XL.fin (kp 3 rfl (kp 9 rfl kn)) ?_
          refine XC.seq ?_
          refine XC.reg ?_
          have hro := shaB_ok kTab ((padded m).length / 64) (padded m) first_ok
          generalize hr : shaB kTab ((padded m).length / 64) hFirst (padded m) = r at *
          refine XL.ldW (n := 8) rfl (by kernel_rfl) (by rfl) rfl ?_
          refine XL.q (q_move rfl) rfl ?_
          refine XL.fin (kp 9 rfl (kp 70 rfl (kp 71 rfl kn))) ?_
          refine XC.block ?_
          refine XC.loop (α := Nat × Value × Mem) (fun x => [(9, x.2.1), (70, .agg (nums .u32 r.list).toArray), (71, .int .i64 (x.1 : Int))]) (fun x => x.2.2) (fun _ => []) (fun x => x.1 ≤ 8 ∧ Sl 1 x.2.1 (4 * x.1) (nums .u8 ((r.list.take x.1).flatMap out4)) x.2.2) (fun x => 8 - x.1) (0, .slice none 0 0, []) ⟨Nat.zero_le _, Sl.nil⟩ (kp 9 rfl (kp 70 rfl (kp 71 rfl kn))) (Fit.sub (List.nil_sublist _)) (fun _ h => h) ?_
          clear hsl
          rintro ⟨i, rv, B⟩ ⟨hi, hsl⟩
          dsimp only at hi hsl ⊢
          refine XC.reg ?_
          refine XL.q (q_bin rfl rfl rfl) rfl ?_
          refine XL.fin (kp 9 rfl (kp 70 rfl (kp 71 rfl (kp 72 rfl kn)))) ?_
          refine XC.seq ?_
          refine XC.cond rfl (fun hc => ?_) (fun hc => ?_)
          ·
            have hlt : i < 8 := by simp at hc; omega
            have hx32 : r.list.getD i 0 < 4294967296 := getD_lt hro (by decide)
            refine XC.skip ?_
            refine nx (kp 9 rfl (kp 70 rfl (kp 71 rfl kn))) ?_
            refine XC.seq ?_
            refine XC.block ?_
            refine XC.reg ?_
            refine XL.q (q_index (e := 53) (m := 8) (j := i) rfl rfl (by kernel_rfl) (by kernel_rfl) (by kernel_rfl) rfl hlt (nums_get (show i < 8 from hlt))) rfl ?_
            refine XL.q (q_assign rfl) rfl ?_
            refine XL.fin (kp 9 rfl (kp 11 rfl (kp 70 rfl (kp 71 rfl kn)))) ?_
            refine XC.reg1 ?_
            refine XL.q (q_move rfl) rfl ?_
            refine XL.q (q_move rfl) rfl ?_
            refine XL.q (q_shrN 24 rfl rfl rfl (by decide)) rfl ?_
            refine XL.q (q_to8 rfl (by kernel_rfl)) rfl ?_
            refine XL.q (q_move rfl) rfl ?_
            refine XL.q (q_shrN 16 rfl rfl rfl (by decide)) rfl ?_
            refine XL.q (q_to8 rfl (by kernel_rfl)) rfl ?_
            refine XL.q (q_move rfl) rfl ?_
            refine XL.q (q_shrN 8 rfl rfl rfl (by decide)) rfl ?_
            refine XL.q (q_to8 rfl (by kernel_rfl)) rfl ?_
            refine XL.q (q_move rfl) rfl ?_
            refine XL.q (q_to8 rfl (by kernel_rfl)) rfl ?_
            refine XL.lo rfl (l_buildSlice (e := 5) (sz := 1) (z := [.int .u8 0, .int .u8 0, .int .u8 0, .int .u8 0]) (by kernel_rfl) (eS rfl (eS rfl (eS rfl (eS rfl e0)))) (bdS 0 1 rfl (by rfl) (bdS 1 1 rfl (by rfl) (bdS 2 1 rfl (by rfl) (bdS 3 1 rfl (by rfl) bd0)))) rfl fun b86 => ?_)
            refine XL.lo rfl (l_append (e := 5) (sz := 1) (by_ := 1) (m := 4) (B := B) (ys := nums .u8 (out4 (r.list.getD i 0))) (M0 := (b86, _) :: _) rfl rfl (by kernel_rfl) rfl hsl (Rd.whole (n := 4) m0 (by rfl)) nums_one pkB0 (by unfold maxLen; omega) (by omega) rfl fun rv1 B1 hsl1 => ?_)
            refine XL.q (q_assign rfl) rfl ?_
            refine XL.nil ?_
            refine nb ?_
            refine nx (kp 9 rfl (kp 70 rfl (kp 71 rfl kn))) ?_
            refine XC.reg1 ?_
            refine XL.q (q_num ((i + 1 : Nat) : Int) rfl rfl (add64 (by omega) (by omega) (by omega))) rfl ?_
            refine XL.q (q_move rfl) rfl ?_
            refine XL.nil ?_
            refine rn (i + 1, rv1, B1) ⟨by dsimp only; omega, sl_eq hsl1 (by dsimp only; omega) ?_⟩ (by dsimp only; omega) (kp 9 rfl (kp 70 rfl (kp 71 rfl kn))) (Fit.sub (List.sublist_append_left _ _)) (fun _ h => h)
            dsimp only
            rw [← nums_append, List.take_add_one, List.flatMap_append, List.getElem?_eq_getElem (show i < r.list.length from hlt), List.getD, List.getElem?_eq_getElem (show i < r.list.length from hlt)]
            simp
          ·
            have hlt : i = 8 := by simp at hc; omega
            subst hlt
            refine XC.exit ?_
            refine te ?_
            refine re ?_
            refine be rfl ?_
            refine nx (kp 9 rfl kn) ?_
            refine XC.reg ?_
            refine XL.q (q_move rfl) rfl ?_
            refine XL.q (q_assign rfl) rfl ?_
            refine XL.fin (kp 2 rfl kn) ?_
            refine XC.ret ?_
            refine ⟨_, B, [], res1 rfl rfl, List.Sublist.refl _, by simp, rfl, sl_eq hsl rfl ?_⟩
            unfold sha256; rw [hr]; rfl
