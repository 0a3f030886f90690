/- Part 3 of the texts of this claim, one behind the other. -/
import Derived.Test.YtphcaiplgpmnnaaGreatDoorB2
set_option linter.unusedVariables false
set_option linter.unusedSimpArgs false
set_option maxRecDepth 100000
namespace Go.Proofs.YtphcaiplgpmnnaaGreatDoor
open Go.Px

/-- A slice of slices of bytes. -/
def Parts (R : Mem) (v : Value) (ps : List (List Nat)) : Prop :=
  ∃ vs : List Value, Rd R 1 v ps.length vs ∧ ∀ (i : Nat) (p : List Nat), ps[i]? = some p → (∀ x ∈ p, x < 256) ∧ ∃ u, vs[i]? = some u ∧ Rd R 1 u p.length (nums .u8 p)
theorem Parts.mono {R R' : Mem} {v : Value} {ps : List (List Nat)} (h : Parts R v ps) (hR : ∀ x, x ∈ R → x ∈ R') : Parts R' v ps := by
  obtain ⟨vs, h1, h2⟩ := h
  refine ⟨vs, h1.mono hR, fun i p hp => ?_⟩
  obtain ⟨h3, u, h4, h5⟩ := h2 i p hp
  exact ⟨h3, u, h4, h5.mono hR⟩
def spre (ps : List (List Nat)) (i : Nat) : List Nat := (ps.take i).flatten
theorem spre_succ {ps : List (List Nat)} {i : Nat} {p : List Nat} (h : ps[i]? = some p) : spre ps (i + 1) = spre ps i ++ p := by
  unfold spre; rw [List.take_add_one, h]; simp
theorem spre_all (ps : List (List Nat)) : spre ps ps.length = ps.flatten := by unfold spre; rw [List.take_length]
theorem spre_le (ps : List (List Nat)) (i : Nat) : (spre ps i).length ≤ ps.flatten.length := by
  have h := congrArg (fun l => (List.flatten l).length) (List.take_append_drop i ps)
  simp only [List.flatten_append, List.length_append] at h
  unfold spre; omega
theorem spre_lt {ps : List (List Nat)} (h : ∀ (i : Nat) (p : List Nat), ps[i]? = some p → ∀ x ∈ p, x < 256) (i : Nat) : ∀ x ∈ spre ps i, x < 256 := by
  intro x hx
  obtain ⟨p, hp, hx⟩ := List.mem_flatten.1 hx
  obtain ⟨j, hj⟩ := List.getElem?_of_mem (List.mem_of_mem_take hp)
  exact h j p hj x hx
theorem padded_len (m : List Nat) : (padded m).length = 64 * ((padded m).length / 64) ∧ 64 * (m.length / 64) ≤ (padded m).length ∧ (padded m).length ≤ m.length + 73 := by
  have e : (padded m).length = m.length + 1 + zeros m.length + 8 := by simp [padded, len8]; omega
  have hz : zeros m.length = (119 - m.length % 64) % 64 := rfl
  omega
theorem padded_drop (m : List Nat) (k : Nat) (h : 64 * k ≤ m.length) : (padded m).drop (64 * k) = m.drop (64 * k) ++ (128 :: (List.replicate (zeros m.length) 0 ++ len8 m.length 8)) := by
  unfold padded; rw [List.drop_append_of_le_length h]
theorem padded_lt {m : List Nat} (h : ∀ x ∈ m, x < 256) : ∀ x ∈ padded m, x < 256 := by
  intro x hx
  unfold padded at hx
  rcases List.mem_append.1 hx with hx | hx
  · exact h x hx
  · rcases List.mem_cons.1 hx with rfl | hx
    · decide
    · rcases List.mem_append.1 hx with hx | hx
      · rw [(List.mem_replicate.1 hx).2]; decide
      · obtain ⟨i, _, rfl⟩ := List.mem_map.1 hx
        exact Nat.mod_lt _ (by decide)
theorem take_nums {k : IntKind} {ws : List Nat} (n : Nat) : (nums k ws).take (n * 1) = nums k (ws.take n) := by rw [Nat.mul_one, nums_take]
theorem drop_nums {k : IntKind} {ws : List Nat} (n : Nat) : (nums k ws).drop (n * 1) = nums k (ws.drop n) := by rw [Nat.mul_one, nums_drop]
theorem st8_len (s t : S8) : (nums .u32 s.list).length = (nums .u32 t.list).length := by rw [nums_len, nums_len]; simp [S8.list]
theorem len8_succ (n k : Nat) : len8 n (k + 1) = len8 n k ++ [(8 * n) >>> (56 - 8 * k) % 256] := by simp [len8, List.range_succ]
theorem sum_spec (v : Value) (ps : List (List Nat)) (A : Mem) (hv : Parts A v ps) (htot : ps.flatten.length ≤ 2147483648) (hcnt : ps.length ≤ 2147483648) {ef ek : TypeId} {ff fk : Nat × Nat} (h0 : (0, Obj.cells (nums .u32 hFirst.list).toArray ef ff) ∈ A) (h1 : (1, Obj.cells (nums .u32 kTab).toArray ek fk) ∈ A) :
  FnX Tryz.prog 95 [v] [] A fun r M J => J = [] ∧ Sl 1 r 32 (nums .u8 (sha256 ps.flatten)) M := by
 obtain ⟨vs, hvs, hps⟩ := hv
 refine FnX.enter (N := 90) Tryz.func95 rfl rfl rfl fun w => ?_
 refine XC.keep (kq 0 kn) ?_
 refine XC.reg ?_
 refine as_ ?_
 refine XL.fin (kq 0 kn) ?_
 refine XC.reg ?_
 refine XL.q (q_loadW (cs := nums .u32 hFirst.list) (n := 8) rfl (by kernel_rfl) (mA h0) (by rfl)) rfl ?_
 refine XL.lo rfl (l_alloc (cs := [.int .u32 0, .int .u32 0, .int .u32 0, .int .u32 0, .int .u32 0, .int .u32 0, .int .u32 0, .int .u32 0]) (by kernel_rfl) rfl fun b3 => ?_)
 refine XL.stW rfl rfl (by kernel_rfl) (by rfl) nums_one ?_
 refine as_ ?_
 refine XL.fin (kq 0 (kq 3 (kq 4 kn))) ?_
 refine XC.reg ?_
 refine as_ ?_
 refine XL.fin (kq 0 (kq 3 (kq 4 (kq 5 kn)))) ?_
 refine XC.seq ?_
 refine XC.reg ?_
 refine mv_ ?_
 refine XL.q (q_lenV hvs rfl (by kernel_rfl)) rfl ?_
 refine mv_ ?_
 refine XL.fin (kq 3 (kq 4 (kq 5 (kq 13 (kq 14 (kq 15 kn)))))) ?_
 refine XC.block ?_
 refine XC.loop (α := Nat × Value × Mem) (fun x => [(3, .pointer (some ⟨b3, 0, none⟩)), (4, .int .i64 ((spre ps x.1).length : Int)), (5, x.2.1), (13, v), (14, .int .i64 (ps.length : Int)), (15, .int .i64 (x.1 : Int))]) (fun x => x.2.2 ++ [(b3, blk (nums .u32 (shaB kTab ((spre ps x.1).length / 64) hFirst (spre ps x.1)).list) 159)]) (fun _ => []) (fun x => x.1 ≤ ps.length ∧ Sl 1 x.2.1 ((spre ps x.1).length - 64 * ((spre ps x.1).length / 64)) (nums .u8 ((spre ps x.1).drop (64 * ((spre ps x.1).length / 64)))) x.2.2) (fun x => ps.length - x.1) (0, .slice none 0 0, []) ⟨Nat.zero_le _, sl_eq Sl.nil (by simp [spre]) (by simp [spre, nums])⟩ (kq 3 (kq 4 (kq 5 (kq 13 (kq 14 (kq 15 kn)))))) (Fit.eq (by simp [spre, shaB])) (fun _ h => h) ?_
 rintro ⟨i, rv, B⟩ ⟨hi, hsl⟩
 dsimp only at hi hsl ⊢
 refine XC.reg ?_
 refine XL.q (q_bin rfl rfl rfl) rfl ?_
 refine XL.fin (kq 3 (kq 4 (kq 5 (kq 13 (kq 14 (kq 15 (kq 16 kn))))))) ?_
 refine XC.seq ?_
 refine XC.cond rfl (fun hc => ?_) (fun hc => ?_)
 ·
  have hlt : i < ps.length := by simp at hc; omega
  obtain ⟨q, hq⟩ : ∃ q, ps[i]? = some q := ⟨_, List.getElem?_eq_getElem hlt⟩
  obtain ⟨hq256, u, hu, hqr⟩ := hps i q hq
  have hps1 := spre_succ hq
  have hle1 := spre_le ps (i + 1)
  have hpl : (spre ps (i + 1)).length = (spre ps i).length + q.length := by rw [hps1, List.length_append]
  generalize hm : spre ps i = m at *
  refine XC.skip ?_
  refine nx (kq 3 (kq 4 (kq 5 (kq 13 (kq 14 (kq 15 kn)))))) ?_
  refine XC.seq ?_
  refine XC.block ?_
  refine XC.reg ?_
  refine XL.q (q_atV hvs rfl rfl (by kernel_rfl) i rfl hlt) rfl ?_
  refine XL.q (q_ldV (hvs.mono fun _ h => mA h) rfl (by kernel_rfl) hu) rfl ?_
  refine as_ ?_
  refine XL.fin (kq 3 (kq 4 (kq 5 (kq 7 (kq 13 (kq 14 (kq 15 kn))))))) ?_
  refine XC.reg ?_
  refine mv_ (mv_ ?_)
  refine XL.q (q_lenV hqr rfl (by kernel_rfl)) rfl ?_
  refine XL.q (q_num (((spre ps (i + 1)).length : Nat) : Int) rfl rfl (add64 (by omega) (by omega) (by omega))) rfl ?_
  refine as_ ?_
  refine XL.fin (kq 3 (kq 4 (kq 5 (kq 7 (kq 13 (kq 14 (kq 15 kn))))))) ?_
  refine XC.reg ?_
  refine mv_ (mv_ ?_)
  refine XL.lo rfl (l_append (e := 5) (sz := 1) (by_ := 1) (m := q.length) (B := B) rfl rfl (by kernel_rfl) rfl hsl (hqr.mono fun _ h => mA h) nums_one (.refl _) (by unfold maxLen; omega) (by omega) rfl fun rv1 B1 hsl1 => ?_)
  have hsl1 : Sl 1 rv1 ((spre ps (i + 1)).length - 64 * (m.length / 64)) (nums .u8 ((spre ps (i + 1)).drop (64 * (m.length / 64)))) B1 := sl_eq hsl1 (by omega) (by rw [hps1, List.drop_append_of_le_length (by omega), nums_append])
  refine as_ ?_
  refine XL.fin (kq 3 (kq 4 (kq 5 (kq 13 (kq 14 (kq 15 kn)))))) ?_
  refine XC.block ?_
  refine XC.loop (α := Nat × Value × Mem) (fun x => [(3, .pointer (some ⟨b3, 0, none⟩)), (4, .int .i64 ((spre ps (i + 1)).length : Int)), (5, x.2.1), (13, v), (14, .int .i64 (ps.length : Int)), (15, .int .i64 (i : Int))]) (fun x => x.2.2 ++ [(b3, blk (nums .u32 (shaB kTab x.1 hFirst (spre ps (i + 1))).list) 159)]) (fun _ => []) (fun x => 64 * x.1 ≤ (spre ps (i + 1)).length ∧ Sl 1 x.2.1 ((spre ps (i + 1)).length - 64 * x.1) (nums .u8 ((spre ps (i + 1)).drop (64 * x.1))) x.2.2) (fun x => (spre ps (i + 1)).length - 64 * x.1) (m.length / 64, rv1, B1) ⟨by dsimp only; omega, hsl1⟩ (kq 3 (kq 4 (kq 5 (kq 13 (kq 14 (kq 15 kn)))))) (Fit.eq (by dsimp only; rw [hps1, shaB_pre _ _ _ _ _ (by omega)])) (fun _ h => h) ?_
  clear hsl1 hsl
  rintro ⟨k, rv, B⟩ ⟨hk1, hsl⟩
  dsimp only at hk1 hsl ⊢
  refine XC.seq ?_
  refine XC.reg ?_
  refine mv_ ?_
  refine XL.q (q_lenV (hsl.rd fun _ h => h) rfl (by kernel_rfl)) rfl ?_
  refine XL.q (q_bin rfl rfl rfl) rfl ?_
  refine XL.fin (kq 3 (kq 4 (kq 5 (kq 13 (kq 14 (kq 15 (kq 28 kn))))))) ?_
  refine XC.cond rfl (fun hc => ?_) (fun hc => ?_)
  ·
   have hge : 64 ≤ (spre ps (i + 1)).length - 64 * k := by simp at hc; omega
   obtain ⟨B2, hB2, hsl2⟩ := hsl.loV 64 hge
   refine XC.skip ?_
   refine nx (kq 3 (kq 4 (kq 5 (kq 13 (kq 14 (kq 15 kn)))))) ?_
   refine XC.block ?_
   refine XC.draw (_) [0, 1, 2] [(0, 1), (1, 0), (2, 0), (3, 2), (4, 2)] (by kernel_rfl) (by kernel_rfl) (fun _ h => h) fun hs => ?_
   refine XP.r hs rfl (q_loadW (n := 8) rfl (by kernel_rfl) At.mem (by rfl)) rfl ?_
   refine XP.q hs rfl qm_ rfl ?_
   refine XP.q hs rfl (q_hiV (hsl.rd fun _ h => h) rfl rfl (by kernel_rfl) 64 rfl hge) rfl ?_
   refine XP.tl rfl rfl rfl (l_callV (aS rfl (aS rfl a0)) (by kernel_rfl) (block_spec _ (shaB_ok _ _ _ first_ok) _ (fun x hx => (spre_lt (fun j p hp => (hps j p hp).1) (i + 1)) x (List.mem_of_mem_drop (List.mem_of_mem_take hx))) _ _ (rd_eq ((hsl.rd fun _ h => by simp [h]).hiV 64 hge) rfl (take_nums 64)) (mA h1)) rfl ?_)
   refine XP.tl rfl rfl rfl (l_storeW rfl rfl rfl (by kernel_rfl) (st8_len _ _) nums_one UpC.upd ?_)
   refine XP.fin (kq 3 (kq 4 (kq 5 (kq 13 (kq 14 (kq 15 kn)))))) ?_
   refine XC.reg1 ?_
   refine mv_ ?_
   refine XL.q (q_loV (hsl.rd fun _ h => h) rfl rfl (by kernel_rfl) 64 rfl hge) rfl ?_
   refine as_ ?_
   refine XL.nil ?_
   refine nb ?_
   refine rn (k + 1, _, B2) ⟨by dsimp only; omega, sl_eq hsl2 (by dsimp only; omega) (by rw [drop_nums, List.drop_drop]; rfl)⟩ (by dsimp only; omega) (kq 3 (kq 4 (kq 5 (kq 13 (kq 14 (kq 15 kn)))))) ?_ (fun _ h => h)
   dsimp only
   rw [shaB_succ]
   exact Fit.sub (List.Sublist.append hB2 (List.Sublist.refl _))
  ·
   have hge : k = (spre ps (i + 1)).length / 64 := by simp at hc; omega
   subst hge
   refine XC.exit ?_
   refine te ?_
   refine re ?_
   refine be rfl ?_
   refine nb ?_
   refine nx (kq 3 (kq 4 (kq 5 (kq 13 (kq 14 (kq 15 kn)))))) ?_
   refine XC.reg1 ?_
   refine XL.q (q_num ((i + 1 : Nat) : Int) rfl rfl (add64 (by omega) (by omega) (by omega))) rfl ?_
   refine mv_ ?_
   refine XL.nil ?_
   refine rn (i + 1, _, B) ⟨by dsimp only; omega, hsl⟩ (by dsimp only; omega) (kq 3 (kq 4 (kq 5 (kq 13 (kq 14 (kq 15 kn)))))) .rfl (fun _ h => h)
 ·
  have hlt : i = ps.length := by simp at hc; omega
  subst hlt
  rw [spre_all] at hsl
  simp only [spre_all]
  generalize hm : ps.flatten = m at *
  refine XC.exit ?_
  refine te ?_
  refine re ?_
  refine be rfl ?_
  refine nx (kq 3 (kq 4 (kq 5 kn))) ?_
  refine XC.reg ?_
  refine mv_ ?_
  refine XL.lo rfl (l_buildSlice (e := 5) (sz := 1) (z := [.int .u8 0]) (by kernel_rfl) (eS rfl e0) (bdS 0 1 rfl (by rfl) bd0) rfl fun b37 => ?_)
  have hm256 : ∀ x ∈ m, x < 256 := by rw [← hm, ← spre_all]; exact spre_lt (fun j p hp => (hps j p hp).1) _
  have htot' : m.length ≤ 2147483648 := htot
  refine XL.lo rfl (l_append (e := 5) (sz := 1) (by_ := 1) (m := 1) (B := B) (ys := nums .u8 [128]) (M0 := (b37, _) :: _) rfl rfl (by kernel_rfl) rfl hsl (Rd.whole (n := 1) m0 (by rfl)) nums_one pkB (by unfold maxLen; omega) (by omega) rfl fun rv1 B1 hsl1 => ?_)
  clear hsl
  have hsl1 : Sl 1 rv1 (m.length % 64 + 1) (nums .u8 (m.drop (64 * (m.length / 64)) ++ [128])) B1 := sl_eq hsl1 (by omega) (by rw [nums_append])
  refine as_ ?_
  refine XL.fin (kq 3 (kq 4 (kq 5 kn))) ?_
  refine XC.seq ?_
  refine XC.block ?_
  refine XC.loop (α := Nat × Value × Mem) (fun x => [(3, .pointer (some ⟨b3, 0, none⟩)), (4, .int .i64 (m.length : Int)), (5, x.2.1)]) (fun x => x.2.2 ++ [(b3, blk (nums .u32 (shaB kTab (m.length / 64) hFirst m).list) 159)]) (fun _ => []) (fun x => x.1 ≤ zeros m.length ∧ Sl 1 x.2.1 (m.length % 64 + 1 + x.1) (nums .u8 (m.drop (64 * (m.length / 64)) ++ (128 :: List.replicate x.1 0))) x.2.2) (fun x => zeros m.length - x.1) (0, rv1, B1) ⟨Nat.zero_le _, hsl1⟩ (kq 3 (kq 4 (kq 5 kn))) (Fit.head1' (List.Sublist.refl _)) (fun _ h => h) ?_
  clear hsl1
  rintro ⟨z, rv, B⟩ ⟨hz, hsl⟩
  dsimp only at hz hsl ⊢
  have hzz : zeros m.length = (119 - m.length % 64) % 64 := rfl
  refine XC.seq ?_
  refine XC.reg ?_
  refine mv_ ?_
  refine XL.q (q_lenV (hsl.rd fun _ h => h) rfl (by kernel_rfl)) rfl ?_
  refine XL.q (q_remN (b := 64) rfl rfl (by decide)) rfl ?_
  refine XL.q (q_bin rfl rfl rfl) rfl ?_
  refine XL.fin (kq 3 (kq 4 (kq 5 (kq 42 kn)))) ?_
  refine XC.cond rfl (fun hc => ?_) (fun hc => ?_)
  ·
   have hlt : z < zeros m.length := by simp at hc; omega
   refine XC.skip ?_
   refine nx (kq 3 (kq 4 (kq 5 kn))) ?_
   refine XC.block ?_
   refine XC.reg1 ?_
   refine mv_ ?_
   refine XL.lo rfl (l_buildSlice (e := 5) (sz := 1) (z := [.int .u8 0]) (by kernel_rfl) (eS rfl e0) (bdS 0 1 rfl (by rfl) bd0) rfl fun b44 => ?_)
   refine XL.lo rfl (l_append (e := 5) (sz := 1) (by_ := 1) (m := 1) (B := B) (ys := nums .u8 [0]) (M0 := (b44, _) :: _) rfl rfl (by kernel_rfl) rfl hsl (Rd.whole (n := 1) m0 (by rfl)) nums_one pkB (by unfold maxLen; omega) (by omega) rfl fun rv1 B1 hsl1 => ?_)
   refine as_ ?_
   refine XL.nil ?_
   refine nb ?_
   refine rn (z + 1, rv1, B1) ⟨by dsimp only; omega, sl_eq hsl1 (by dsimp only; omega) ?_⟩ (by dsimp only; omega) (kq 3 (kq 4 (kq 5 kn))) (Fit.head1' (List.Sublist.refl _)) (fun _ h => h)
   dsimp only
   rw [← nums_append, List.append_assoc, List.cons_append, ← List.replicate_succ']
  ·
   have hlt : z = zeros m.length := by simp at hc; omega
   subst hlt
   refine XC.exit ?_
   refine te ?_
   refine re ?_
   refine be rfl ?_
   refine nx (kq 3 (kq 4 (kq 5 kn))) ?_
   refine XC.seq ?_
   refine XC.reg ?_
   refine mv_ ?_
   refine XL.fin (kq 3 (kq 4 (kq 5 (kq 46 kn)))) ?_
   refine XC.block ?_
   refine XC.loop (α := Nat × Value × Mem) (fun x => [(3, .pointer (some ⟨b3, 0, none⟩)), (4, .int .i64 (m.length : Int)), (5, x.2.1), (46, .int .i64 (x.1 : Int))]) (fun x => x.2.2 ++ [(b3, blk (nums .u32 (shaB kTab (m.length / 64) hFirst m).list) 159)]) (fun _ => []) (fun x => x.1 ≤ 8 ∧ Sl 1 x.2.1 (m.length % 64 + 1 + zeros m.length + x.1) (nums .u8 (m.drop (64 * (m.length / 64)) ++ (128 :: (List.replicate (zeros m.length) 0 ++ len8 m.length x.1)))) x.2.2) (fun x => 8 - x.1) (0, rv, B) ⟨Nat.zero_le _, sl_eq hsl rfl (by simp [len8])⟩ (kq 3 (kq 4 (kq 5 (kq 46 kn)))) .rfl (fun _ h => h) ?_
   clear hsl
   rintro ⟨i, rv, B⟩ ⟨hi, hsl⟩
   dsimp only at hi hsl ⊢
   refine XC.reg ?_
   refine XL.q (q_bin rfl rfl rfl) rfl ?_
   refine XL.fin (kq 3 (kq 4 (kq 5 (kq 46 (kq 47 kn))))) ?_
   refine XC.seq ?_
   refine XC.cond rfl (fun hc => ?_) (fun hc => ?_)
   ·
    have hlt : i < 8 := by simp at hc; omega
    refine XC.skip ?_
    refine nx (kq 3 (kq 4 (kq 5 (kq 46 kn)))) ?_
    refine XC.seq ?_
    refine XC.block ?_
    refine XC.reg ?_
    refine mv_ (as_ ?_)
    refine XL.fin (kq 3 (kq 4 (kq 5 (kq 8 (kq 46 kn))))) ?_
    refine XC.reg1 ?_
    refine mv_ (mv_ ?_)
    refine XL.q (q_num ((8 * m.length : Nat) : Int) rfl rfl (mul64 (by omega) (by omega) (by omega))) rfl ?_
    refine XL.q (q_same (k' := .u64) rfl (by kernel_rfl) (by show _ < 9223372036854775808; omega)) rfl ?_
    refine mv_ ?_
    refine XL.q (q_num ((8 * i : Nat) : Int) rfl rfl (mul64 (by omega) (by omega) (by omega))) rfl ?_
    refine XL.q (q_num ((56 - 8 * i : Nat) : Int) rfl rfl (sub64 (by omega) (by omega) (by omega))) rfl ?_
    refine XL.q (q_shrN (56 - 8 * i) rfl rfl rfl (by show _ ≤ 64; omega)) rfl ?_
    refine XL.q (q_to8 rfl (by kernel_rfl)) rfl ?_
    refine XL.lo rfl (l_buildSlice (e := 5) (sz := 1) (z := [.int .u8 0]) (by kernel_rfl) (eS rfl e0) (bdS 0 1 rfl (by rfl) bd0) rfl fun b58 => ?_)
    refine XL.lo rfl (l_append (e := 5) (sz := 1) (by_ := 1) (m := 1) (B := B) (ys := nums .u8 [(8 * m.length) >>> (56 - 8 * i) % 256]) (M0 := (b58, _) :: _) rfl rfl (by kernel_rfl) rfl hsl (Rd.whole (n := 1) m0 (by rfl)) nums_one pkB (by unfold maxLen; omega) (by omega) rfl fun rv1 B1 hsl1 => ?_)
    refine as_ ?_
    refine XL.nil ?_
    refine nb ?_
    refine nx (kq 3 (kq 4 (kq 5 (kq 46 kn)))) ?_
    refine XC.reg1 ?_
    refine XL.q (q_num ((i + 1 : Nat) : Int) rfl rfl (add64 (by omega) (by omega) (by omega))) rfl ?_
    refine mv_ ?_
    refine XL.nil ?_
    refine rn (i + 1, rv1, B1) ⟨by dsimp only; omega, sl_eq hsl1 (by dsimp only; omega) ?_⟩ (by dsimp only; omega) (kq 3 (kq 4 (kq 5 (kq 46 kn)))) (Fit.head1' (List.Sublist.refl _)) (fun _ h => h)
    dsimp only
    rw [← nums_append, List.append_assoc, List.cons_append, List.append_assoc, ← len8_succ]
   ·
    have hlt : i = 8 := by simp at hc; omega
    subst hlt
    refine XC.exit ?_
    refine te ?_
    refine re ?_
    refine be rfl ?_
    refine nx (kq 3 (kq 5 kn)) ?_
    refine XC.seq ?_
    refine XC.block ?_
    obtain ⟨hp1, hp2, hp3⟩ := padded_len m
    have hsl0 := sl_eq (n' := (padded m).length - 64 * (m.length / 64)) (xs' := nums .u8 ((padded m).drop (64 * (m.length / 64)))) hsl (by simp [padded, len8]; omega) (by rw [padded_drop _ _ (by omega)])
    clear hsl
    refine XC.loop (α := Nat × Value × Mem) (fun x => [(3, .pointer (some ⟨b3, 0, none⟩)), (5, x.2.1)]) (fun x => x.2.2 ++ [(b3, blk (nums .u32 (shaB kTab x.1 hFirst (padded m)).list) 159)]) (fun _ => []) (fun x => 64 * x.1 ≤ (padded m).length ∧ Sl 1 x.2.1 ((padded m).length - 64 * x.1) (nums .u8 ((padded m).drop (64 * x.1))) x.2.2) (fun x => (padded m).length - 64 * x.1) (m.length / 64, rv, B) ⟨hp2, hsl0⟩ (kq 3 (kq 5 kn)) (Fit.eq (by dsimp only; unfold padded; rw [shaB_pre _ _ _ _ _ (by omega)])) (fun _ h => h) ?_
    clear hsl0
    rintro ⟨k, rv, B⟩ ⟨hk1, hsl⟩
    dsimp only at hk1 hsl ⊢
    refine XC.seq ?_
    refine XC.reg ?_
    refine mv_ ?_
    refine XL.q (q_lenV (hsl.rd fun _ h => h) rfl (by kernel_rfl)) rfl ?_
    refine XL.q (q_bin rfl rfl rfl) rfl ?_
    refine XL.fin (kq 3 (kq 5 (kq 63 kn))) ?_
    refine XC.cond rfl (fun hc => ?_) (fun hc => ?_)
    ·
     have hge : 64 ≤ (padded m).length - 64 * k := by simp at hc; omega
     obtain ⟨B2, hB2, hsl2⟩ := hsl.loV 64 hge
     refine XC.skip ?_
     refine nx (kq 3 (kq 5 kn)) ?_
     refine XC.seq ?_
     refine XC.block ?_
     refine XC.draw1 (_) [0, 1, 2] [(0, 1), (1, 0), (2, 0), (3, 2), (4, 2)] (by kernel_rfl) (by kernel_rfl) (fun _ h => h) fun hs => ?_
     refine XP.r hs rfl (q_loadW (n := 8) rfl (by kernel_rfl) At.mem (by rfl)) rfl ?_
     refine XP.q hs rfl qm_ rfl ?_
     refine XP.q hs rfl (q_hiV (hsl.rd fun _ h => h) rfl rfl (by kernel_rfl) 64 rfl hge) rfl ?_
     refine XP.tl rfl rfl rfl (l_callV (aS rfl (aS rfl a0)) (by kernel_rfl) (block_spec _ (shaB_ok _ _ _ first_ok) _ (fun x hx => (padded_lt hm256) x (List.mem_of_mem_drop (List.mem_of_mem_take hx))) _ _ (rd_eq ((hsl.rd fun _ h => by simp [h]).hiV 64 hge) rfl (take_nums 64)) (mA h1)) rfl ?_)
     refine XP.tl rfl rfl rfl (l_storeW rfl rfl rfl (by kernel_rfl) (st8_len _ _) nums_one UpC.upd ?_)
     refine XP.nil ?_
     refine nb ?_
     refine nx (kq 3 (kq 5 kn)) ?_
     refine XC.reg1 ?_
     refine mv_ ?_
     refine XL.q (q_loV (hsl.rd fun _ h => h) rfl rfl (by kernel_rfl) 64 rfl hge) rfl ?_
     refine as_ ?_
     refine XL.nil ?_
     refine rn (k + 1, _, B2) ⟨by dsimp only; omega, sl_eq hsl2 (by dsimp only; omega) (by rw [drop_nums, List.drop_drop]; rfl)⟩ (by dsimp only; omega) (kq 3 (kq 5 kn)) ?_ (fun _ h => h)
     dsimp only
     rw [shaB_succ]
     exact Fit.sub (List.Sublist.append hB2 (List.Sublist.refl _))
    ·
     have hge : k = (padded m).length / 64 := by simp at hc; omega
     subst hge
     refine XC.exit ?_
     refine te ?_
     refine re ?_
     refine be rfl ?_
     refine nx (kq 3 kn) ?_
     refine XC.reg ?_
     refine as_ ?_
     refine XL.fin (kq 3 (kq 9 kn)) ?_
     refine XC.seq ?_
     refine XC.reg ?_
     have hro := shaB_ok kTab ((padded m).length / 64) (padded m) first_ok
     generalize hr : shaB kTab ((padded m).length / 64) hFirst (padded m) = r at *
     refine XL.ldW (n := 8) rfl (by kernel_rfl) (by rfl) rfl ?_
     refine mv_ ?_
     refine XL.fin (kq 9 (kq 70 (kq 71 kn))) ?_
     refine XC.block ?_
     refine XC.loop (α := Nat × Value × Mem) (fun x => [(9, x.2.1), (70, .agg (nums .u32 r.list).toArray), (71, .int .i64 (x.1 : Int))]) (fun x => x.2.2) (fun _ => []) (fun x => x.1 ≤ 8 ∧ Sl 1 x.2.1 (4 * x.1) (nums .u8 ((r.list.take x.1).flatMap out4)) x.2.2) (fun x => 8 - x.1) (0, .slice none 0 0, []) ⟨Nat.zero_le _, Sl.nil⟩ (kq 9 (kq 70 (kq 71 kn))) (Fit.sub (List.nil_sublist _)) (fun _ h => h) ?_
     clear hsl
     rintro ⟨i, rv, B⟩ ⟨hi, hsl⟩
     dsimp only at hi hsl ⊢
     refine XC.reg ?_
     refine XL.q (q_bin rfl rfl rfl) rfl ?_
     refine XL.fin (kq 9 (kq 70 (kq 71 (kq 72 kn)))) ?_
     refine XC.seq ?_
     refine XC.cond rfl (fun hc => ?_) (fun hc => ?_)
     ·
      have hlt : i < 8 := by simp at hc; omega
      have hx32 : r.list.getD i 0 < 4294967296 := getD_lt hro (by decide)
      refine XC.skip ?_
      refine nx (kq 9 (kq 70 (kq 71 kn))) ?_
      refine XC.seq ?_
      refine XC.block ?_
      refine XC.reg ?_
      refine XL.q (q_index (e := 22) (m := 8) (j := i) rfl rfl (by kernel_rfl) (by kernel_rfl) (by kernel_rfl) rfl hlt (nums_get (show i < 8 from hlt))) rfl ?_
      refine as_ ?_
      refine XL.fin (kq 9 (kq 11 (kq 70 (kq 71 kn)))) ?_
      refine XC.reg1 ?_
      refine mv_ (mv_ ?_)
      refine XL.q (q_shrN 24 rfl rfl rfl (by decide)) rfl ?_
      refine XL.q (q_to8 rfl (by kernel_rfl)) rfl ?_
      refine mv_ ?_
      refine XL.q (q_shrN 16 rfl rfl rfl (by decide)) rfl ?_
      refine XL.q (q_to8 rfl (by kernel_rfl)) rfl ?_
      refine mv_ ?_
      refine XL.q (q_shrN 8 rfl rfl rfl (by decide)) rfl ?_
      refine XL.q (q_to8 rfl (by kernel_rfl)) rfl ?_
      refine mv_ ?_
      refine XL.q (q_to8 rfl (by kernel_rfl)) rfl ?_
      refine XL.lo rfl (l_buildSlice (e := 5) (sz := 1) (z := [.int .u8 0, .int .u8 0, .int .u8 0, .int .u8 0]) (by kernel_rfl) (eS rfl (eS rfl (eS rfl (eS rfl e0)))) (bdS 0 1 rfl (by rfl) (bdS 1 1 rfl (by rfl) (bdS 2 1 rfl (by rfl) (bdS 3 1 rfl (by rfl) bd0)))) rfl fun b86 => ?_)
      refine XL.lo rfl (l_append (e := 5) (sz := 1) (by_ := 1) (m := 4) (B := B) (ys := nums .u8 (out4 (r.list.getD i 0))) (M0 := (b86, _) :: _) rfl rfl (by kernel_rfl) rfl hsl (Rd.whole (n := 4) m0 (by rfl)) nums_one pkB0 (by unfold maxLen; omega) (by omega) rfl fun rv1 B1 hsl1 => ?_)
      refine as_ ?_
      refine XL.nil ?_
      refine nb ?_
      refine nx (kq 9 (kq 70 (kq 71 kn))) ?_
      refine XC.reg1 ?_
      refine XL.q (q_num ((i + 1 : Nat) : Int) rfl rfl (add64 (by omega) (by omega) (by omega))) rfl ?_
      refine mv_ ?_
      refine XL.nil ?_
      refine rn (i + 1, rv1, B1) ⟨by dsimp only; omega, sl_eq hsl1 (by dsimp only; omega) ?_⟩ (by dsimp only; omega) (kq 9 (kq 70 (kq 71 kn))) (Fit.sub (List.sublist_append_left _ _)) (fun _ h => h)
      dsimp only
      rw [← nums_append, List.take_add_one, List.flatMap_append, List.getElem?_eq_getElem (show i < r.list.length from hlt), List.getD, List.getElem?_eq_getElem (show i < r.list.length from hlt)]
      simp
     ·
      have hlt : i = 8 := by simp at hc; omega
      subst hlt
      refine XC.exit ?_
      refine te ?_
      refine re ?_
      refine be rfl ?_
      refine nx (kq 9 kn) ?_
      refine XC.reg ?_
      refine mv_ (as_ ?_)
      refine XL.fin (kq 2 kn) ?_
      refine XC.ret ?_
      refine ⟨_, B, [], res1 rfl rfl, List.Sublist.refl _, by simp, rfl, sl_eq hsl rfl ?_⟩
      unfold sha256; rw [hr]; rfl

end Go.Proofs.YtphcaiplgpmnnaaGreatDoor
/- The walks of sha.Mac, sha.Extract, sha.Wide. -/
namespace Go.Proofs.YtphcaiplgpmnnaaGreatDoor
open Go.Px

def Pv (R : Mem) (vs : List Value) (ps : List (List Nat)) : Prop := vs.length = ps.length ∧ ∀ (i : Nat) (p : List Nat), ps[i]? = some p → (∀ x ∈ p, x < 256) ∧ ∃ u, vs[i]? = some u ∧ Rd R 1 u p.length (nums .u8 p)
theorem Pv.nil {R : Mem} : Pv R [] [] := ⟨rfl, fun i p h => by simp at h⟩
theorem Pv.cons {R : Mem} {vs : List Value} {ps : List (List Nat)} {u : Value} {p : List Nat} (hp : ∀ x ∈ p, x < 256) (hu : Rd R 1 u p.length (nums .u8 p)) (h : Pv R vs ps) : Pv R (u :: vs) (p :: ps) := by
  refine ⟨by simp [h.1], fun i q hq => ?_⟩
  cases i with
  | zero => cases hq; exact ⟨hp, u, rfl, hu⟩
  | succ i => exact h.2 i q (by simpa using hq)
theorem Pv.mono {R R' : Mem} {vs : List Value} {ps : List (List Nat)} (h : Pv R vs ps) (hR : ∀ x, x ∈ R → x ∈ R') : Pv R' vs ps := by
  refine ⟨h.1, fun i p hp => ?_⟩
  obtain ⟨h3, u, h4, h5⟩ := h.2 i p hp
  exact ⟨h3, u, h4, h5.mono hR⟩
theorem Pv.one {R : Mem} {vs : List Value} {ps : List (List Nat)} (h : Pv R vs ps) : ∀ c ∈ vs, c.oneCell' = true := by
  intro c hc
  obtain ⟨i, hi⟩ := List.getElem?_of_mem hc
  have hlt := (List.getElem?_eq_some_iff.1 hi).1
  obtain ⟨_, u, hu, p, c', rfl, _⟩ := h.2 i _ (List.getElem?_eq_getElem (h.1 ▸ hlt))
  rw [hi] at hu; cases hu; rfl
theorem Pv.lt {R : Mem} {vs : List Value} {ps : List (List Nat)} (h : Pv R vs ps) : ∀ x ∈ ps.flatten, x < 256 := by
  rw [← spre_all]
  exact spre_lt (fun i p hp => (h.2 i p hp).1) _
theorem Parts.of {R : Mem} {v : Value} {n : Nat} {vs : List Value} {ps : List (List Nat)} (h : Rd R 1 v n vs) (hn : n = ps.length) (hp : Pv R vs ps) : Parts R v ps := ⟨vs, hn ▸ h, hp.2⟩
theorem Parts.pv {R : Mem} {v : Value} {ps : List (List Nat)} (h : Parts R v ps) : ∃ vs, Rd R 1 v ps.length vs ∧ Pv R vs ps := by
  obtain ⟨vs, h1, h2⟩ := h
  exact ⟨vs, h1, by have := h1.len; omega, h2⟩
theorem sha_len (p : List Nat) : (sha256 p).length = 32 := by simp [sha256, S8.bytes, S8.list, out4]
theorem sha_lt (p : List Nat) : ∀ x ∈ sha256 p, x < 256 := by
  intro x hx
  obtain ⟨y, _, hy⟩ := List.mem_flatMap.1 hx
  simp only [out4, List.mem_cons, List.not_mem_nil, or_false] at hy
  rcases hy with rfl | rfl | rfl | rfl <;> exact Nat.mod_lt _ (by decide)
def xorAt (ks : List Nat) (x i : Nat) : List Nat := (ks.take i).map (· ^^^ x) ++ ks.drop i
theorem xorAt_len (ks : List Nat) (x i : Nat) : (xorAt ks x i).length = ks.length := by simp [xorAt]; omega
theorem xorAt_get {ks : List Nat} {x i : Nat} (h : i < ks.length) : (xorAt ks x i).getD i 0 = ks.getD i 0 := by
  unfold xorAt
  have hl : ((ks.take i).map (· ^^^ x)).length = i := by simp; omega
  simp only [List.getD]
  rw [List.getElem?_append_right (by omega), hl, Nat.sub_self, List.getElem?_drop, Nat.add_zero]
theorem xorAt_succ {ks : List Nat} {x i : Nat} (h : i < ks.length) : (xorAt ks x i).set i (ks.getD i 0 ^^^ x) = xorAt ks x (i + 1) := by
  unfold xorAt
  have hl : ((ks.take i).map (· ^^^ x)).length = i := by simp; omega
  rw [List.set_append_right _ _ (by omega), hl, Nat.sub_self, List.drop_eq_getElem_cons h, List.set_cons_zero, List.take_add_one, List.getD, List.getElem?_eq_getElem h]
  simp only [Option.getD_some, Option.toList_some, List.map_append, List.map_cons, List.map_nil, List.append_assoc, List.cons_append, List.nil_append]
theorem xorAt_all {ks : List Nat} {x i : Nat} (h : ks.length = i) : xorAt ks x i = ks.map (· ^^^ x) := by
  unfold xorAt; rw [← h]; simp
theorem keyPad_len {key : List Nat} (h : key.length ≤ 64) (x : Nat) : (keyPad key x).length = 64 := by simp [keyPad]; omega
theorem keyPad_lt {key : List Nat} (h : ∀ x ∈ key, x < 256) {y : Nat} (hy : y < 256) : ∀ x ∈ keyPad key y, x < 256 := by
  intro x hx
  obtain ⟨z, hz, rfl⟩ := List.mem_map.1 hx
  refine Nat.xor_lt_two_pow (n := 8) ?_ hy
  rcases List.mem_append.1 hz with hz | hz
  · exact h z hz
  · rw [(List.mem_replicate.1 hz).2]; decide
theorem macKey_len (key : List Nat) : (macKey key).length ≤ 64 := by
  unfold macKey; split
  · rw [sha_len]; decide
  · omega
theorem macKey_lt {key : List Nat} (h : ∀ x ∈ key, x < 256) : ∀ x ∈ macKey key, x < 256 := by
  unfold macKey; split
  · exact sha_lt _
  · exact h

theorem mac_spec (kv pv : Value) (key : List Nat) (ps : List (List Nat)) (A : Mem) (hkey : Rd A 1 kv key.length (nums .u8 key)) (hk256 : ∀ x ∈ key, x < 256) (hk31 : key.length ≤ 1073741824) (hp : Parts A pv ps) (htot : ps.flatten.length ≤ 1073741824) (hcnt : ps.length ≤ 1073741824) {ef ek : TypeId} {ff fk : Nat × Nat} (h0 : (0, Obj.cells (nums .u32 hFirst.list).toArray ef ff) ∈ A) (h1 : (1, Obj.cells (nums .u32 kTab).toArray ek fk) ∈ A) :
  FnX Tryz.prog 119 [kv, pv] [] A fun r M J => J = [] ∧ Sl 1 r 32 (nums .u8 (hmac key ps.flatten)) M := by
 obtain ⟨vs, hvs, hpv⟩ := hp.pv
 haveI := hkey.cel
 refine FnX.enter (N := 42) Tryz.func119 rfl rfl rfl fun w => ?_
 refine XC.keep (kq 0 (kq 1 kn)) ?_
 refine XC.reg ?_
 refine as_ ?_
 refine XL.fin (kq 0 (kq 1 kn)) ?_
 refine XC.join (α := Value × Mem) (fun x => [(0, x.1), (1, pv)]) (fun x => x.2) (fun _ => []) (fun x => Rd (x.2 ++ A) 1 x.1 (macKey key).length (nums .u8 (macKey key))) ?_ ?_
 ·
  refine XC.reg ?_
  refine mv_ ?_
  refine XL.q (q_lenV hkey rfl (by kernel_rfl)) rfl ?_
  refine XL.q (q_bin rfl rfl rfl) rfl ?_
  refine XL.fin (kq 0 (kq 1 (kq 10 kn))) ?_
  refine XC.cond rfl (fun hc => ?_) (fun hc => ?_)
  ·
   have hgt : 64 < key.length := by simp at hc; omega
   refine XC.reg1 ?_
   refine mv_ ?_
   refine XL.lo rfl (l_buildSlice (e := 23) (sz := 1) (z := [.slice none 0 0]) (by kernel_rfl) (eS rfl e0) (bdS 0 1 rfl (by rfl) bd0) rfl fun b12 => ?_)
   refine XL.lo rfl (l_call (Mc := []) (R := [_]) (aS rfl a0) (by kernel_rfl) (.refl _) (sum_spec _ [key] _ (Parts.of (Rd.whole (n := 1) m0 (by rfl)) rfl (.cons hk256 (hkey.mono fun _ h => mA h) .nil)) (by simp; omega) (by simp) (mA h0) (mA h1)) rfl ?_)
   rintro r M1 J1 ⟨rfl, hr⟩
   refine as_ ?_
   refine XL.nil ?_
   refine jn (r, _) ?_ (kq 0 (kq 1 kn)) .rfl (fun _ h => h)
   dsimp only
   rw [macKey, if_pos hgt, sha_len]
   exact rd_eq (hr.rd fun _ h => by simp [h]) rfl (by simp)
  ·
   have hgt : ¬ 64 < key.length := by simp at hc; omega
   refine XC.skip ?_
   refine jn (kv, []) ?_ (kq 0 (kq 1 kn)) .rfl (fun _ h => h)
   dsimp only
   rw [macKey, if_neg hgt]
   exact hkey
 ·
  rintro ⟨kv1, Mk⟩ hkv
  dsimp only at hkv ⊢
  have hK64 := macKey_len key
  have hKb := macKey_lt hk256
  have hkl := keyPad_len hK64
  have hklt := fun y hy => keyPad_lt (y := y) hKb hy
  unfold hmac
  unfold keyPad at *
  generalize macKey key = K at *
  have hK1 : (K ++ List.replicate (64 - K.length) 0).length = 64 := by simp; omega
  have hK2 : ∀ x ∈ K ++ List.replicate (64 - K.length) 0, x < 256 := fun x hx => by
   rcases List.mem_append.1 hx with h | h
   · exact hKb x h
   · rw [(List.mem_replicate.1 h).2]; decide
  refine XC.reg ?_
  refine XL.lo rfl (l_alloc (cs := nums .u8 (List.replicate 64 0)) (by kernel_rfl) rfl fun b5 => ?_)
  refine XL.lo rfl (l_alloc (cs := nums .u8 (List.replicate 64 0)) (by kernel_rfl) rfl fun b6 => ?_)
  refine XL.fin (kq 0 (kq 1 (kq 5 (kq 6 kn)))) ?_
  refine XC.reg ?_
  refine XL.q (q_all (e := 5) (sz := 1) (m := 64) rfl (by kernel_rfl) (by kernel_rfl)) rfl ?_
  refine mv_ ?_
  refine XL.lo rfl (l_copy (e := 5) (by_ := 1) (n := K.length) (m := 64) (ws := List.replicate 64 0) (us := K) (ws' := K ++ List.replicate (64 - K.length) 0) rfl rfl (by kernel_rfl) (hkv.mono fun q hq => by rcases List.mem_append.1 hq with h | h <;> simp [h]) hK64 (by simp) (by rw [List.drop_replicate]) UpC.upd rfl ?_)
  refine XL.fin (kq 0 (kq 1 (kq 5 (kq 6 kn)))) ?_
  refine XC.reg ?_
  refine XL.q (q_all (e := 5) (sz := 1) (m := 64) rfl (by kernel_rfl) (by kernel_rfl)) rfl ?_
  refine mv_ ?_
  refine XL.lo rfl (l_copy (e := 5) (by_ := 1) (n := K.length) (m := 64) (ws := List.replicate 64 0) (us := K) (ws' := K ++ List.replicate (64 - K.length) 0) rfl rfl (by kernel_rfl) (hkv.mono fun q hq => by rcases List.mem_append.1 hq with h | h <;> simp [h]) hK64 (by simp) (by rw [List.drop_replicate]) UpC.upd rfl ?_)
  refine XL.fin (kq 1 (kq 5 (kq 6 kn))) ?_
  refine XC.seq ?_
  refine XC.reg ?_
  refine mv_ ?_
  refine XL.fin (kq 1 (kq 5 (kq 6 (kq 20 kn)))) ?_
  refine XC.block ?_
  generalize hKK : K ++ List.replicate (64 - K.length) 0 = KK at *
  refine XC.loop (α := Nat) (fun i => [(1, pv), (5, .pointer (some ⟨b5, 0, none⟩)), (6, .pointer (some ⟨b6, 0, none⟩)), (20, .int .i64 (i : Int))]) (fun i => [(b6, blk (nums .u8 (xorAt KK 92 i)) 189), (b5, blk (nums .u8 (xorAt KK 54 i)) 189)]) (fun _ => []) (fun i => i ≤ 64) (fun i => 64 - i) 0 (Nat.zero_le _) (kq 1 (kq 5 (kq 6 (kq 20 kn)))) (Fit.sub (.cons_cons _ (.cons_cons _ (List.nil_sublist _)))) (fun _ h => h) ?_
  intro i hi
  refine XC.reg ?_
  refine XL.q (q_bin rfl rfl rfl) rfl ?_
  refine XL.fin (kq 1 (kq 5 (kq 6 (kq 20 (kq 21 kn))))) ?_
  refine XC.seq ?_
  refine XC.cond rfl (fun hc => ?_) (fun hc => ?_)
  ·
   have hlt : i < 64 := by simp at hc; omega
   have hx8 : KK.getD i 0 < 256 := getD_lt hK2 (by decide)
   refine XC.skip ?_
   refine nx (kq 1 (kq 5 (kq 6 (kq 20 kn)))) ?_
   refine XC.seq ?_
   refine XC.block ?_
   refine XC.reg ?_
   refine mv_ (as_ ?_)
   refine XL.fin (kq 1 (kq 5 (kq 6 (kq 7 (kq 20 kn))))) ?_
   refine XC.reg ?_
   refine mv_ ?_
   refine XL.q (q_idxA (i := i) (e := 5) (n := 64) (sz := 1) rfl rfl (by kernel_rfl) (by kernel_rfl) rfl (by omega)) rfl ?_
   refine XL.q (q_ldN (ws := xorAt KK 54 i) i rfl (by kernel_rfl) At.mem (by omega) (by rw [xorAt_len]; omega)) rfl ?_
   refine XL.q (q_xor8 (b := 54) rfl rfl (by rw [xorAt_get (by omega)]; exact hx8) (by decide)) rfl ?_
   refine XL.q (q_idxA (i := i) (e := 5) (n := 64) (sz := 1) rfl rfl (by kernel_rfl) (by kernel_rfl) rfl (by omega)) rfl ?_
   refine XL.lo rfl (l_stN (ws := xorAt KK 54 i) i rfl rfl (by kernel_rfl) (by omega) (by rw [xorAt_len]; omega) UpC.upd ?_)
   refine XL.fin (kq 1 (kq 5 (kq 6 (kq 7 (kq 20 kn))))) ?_
   refine XC.reg1 ?_
   refine mv_ ?_
   refine XL.q (q_idxA (i := i) (e := 5) (n := 64) (sz := 1) rfl rfl (by kernel_rfl) (by kernel_rfl) rfl (by omega)) rfl ?_
   refine XL.q (q_ldN (ws := xorAt KK 92 i) i rfl (by kernel_rfl) At.mem (by omega) (by rw [xorAt_len]; omega)) rfl ?_
   refine XL.q (q_xor8 (b := 92) rfl rfl (by rw [xorAt_get (by omega)]; exact hx8) (by decide)) rfl ?_
   refine XL.q (q_idxA (i := i) (e := 5) (n := 64) (sz := 1) rfl rfl (by kernel_rfl) (by kernel_rfl) rfl (by omega)) rfl ?_
   refine XL.lo rfl (l_stN (ws := xorAt KK 92 i) i rfl rfl (by kernel_rfl) (by omega) (by rw [xorAt_len]; omega) UpC.upd ?_)
   refine XL.nil ?_
   refine nb ?_
   refine nx (kq 1 (kq 5 (kq 6 (kq 20 kn)))) ?_
   refine XC.reg1 ?_
   refine XL.q (q_num ((i + 1 : Nat) : Int) rfl rfl (add64 (by omega) (by omega) (by omega))) rfl ?_
   refine mv_ ?_
   refine XL.nil ?_
   refine rn (i + 1) (by omega) (by omega) (kq 1 (kq 5 (kq 6 (kq 20 kn)))) (Fit.eq ?_) (fun _ h => h)
   rw [xorAt_get (by omega), xorAt_get (by omega), xorAt_succ (by omega), xorAt_succ (by omega)]
  ·
   have hlt : i = 64 := by simp at hc; omega
   subst hlt
   rw [xorAt_all hK1, xorAt_all hK1]
   refine XC.exit ?_
   refine te ?_
   refine re ?_
   refine be rfl ?_
   refine nx (kq 1 (kq 5 (kq 6 kn))) ?_
   refine XC.draw ([]) [] [(0, 0), (1, 0), (3, 0), (2, 2), (4, 2), (5, 2), (6, 2), (7, 2), (8, 0)] (by kernel_rfl) (by kernel_rfl) (by simp) fun hs => ?_
   refine XP.q hs rfl (q_all (e := 5) (sz := 1) (m := 64) rfl (by kernel_rfl) (by kernel_rfl)) rfl ?_
   refine XP.q hs rfl (q_all (e := 5) (sz := 1) (m := 64) rfl (by kernel_rfl) (by kernel_rfl)) rfl ?_
   refine XP.q hs rfl qm_ rfl ?_
   refine XP.tl rfl rfl rfl (l_buildSlice (e := 23) (sz := 1) (z := [.slice none 0 0]) (by kernel_rfl) (eS rfl e0) (bdS 0 1 rfl (by rfl) bd0) rfl fun b36 => ?_)
   refine XP.tl rfl rfl rfl (l_append (e := 23) (sz := 1) (by_ := 24) (n := 1) (m := ps.length) (B := [(b36, _)]) rfl rfl (by kernel_rfl) rfl (Sl.fresh rfl (by decide)) (hvs.mono fun _ h => mA h) hpv.one (.refl _) (by unfold maxLen; omega) (by omega) rfl fun v38 B38 hsl38 => ?_)
   refine XP.tl rfl rfl rfl (l_call (Mc := []) (R := B38 ++ [_, _]) (aS rfl a0) (by kernel_rfl) (.refl _) (sum_spec v38 (KK.map (· ^^^ 54) :: ps) _ (Parts.of (hsl38.rd fun _ h => by simp [h]) (by rw [List.length_cons]; omega) (.cons (hklt 54 (by decide)) (rd_eq (Rd.whole (n := 64) (cs := nums .u8 (KK.map (· ^^^ 54))) At.mem (by simp [hK1])) (hkl 54).symm rfl) (hpv.mono fun _ h => mA h))) (by rw [List.flatten_cons, List.length_append, List.length_map, hK1]; omega) (by rw [List.length_cons]; omega) (mA h0) (mA h1)) rfl ?_)
   rintro r39 M39 J39 ⟨rfl, hr39⟩
   haveI := hr39.cel
   refine XP.tl rfl rfl rfl (l_buildSlice (e := 23) (sz := 1) (z := [.slice none 0 0, .slice none 0 0]) (by kernel_rfl) (eS rfl (eS rfl e0)) (bdS 0 1 rfl (by rfl) (bdS 1 1 rfl (by rfl) bd0)) rfl fun b40 => ?_)
   refine XP.tl rfl rfl rfl (l_call (Mc := []) (R := _ :: (M39 ++ (B38 ++ [_, _]))) (aS rfl a0) (by kernel_rfl) (.refl _) (sum_spec _ [KK.map (· ^^^ 92), sha256 (KK.map (· ^^^ 54) ++ ps.flatten)] _ (Parts.of (Rd.whole (n := 2) m0 (by rfl)) rfl (.cons (hklt 92 (by decide)) (rd_eq (Rd.whole (n := 64) (cs := nums .u8 (KK.map (· ^^^ 92))) At.mem (by simp [hK1])) (hkl 92).symm rfl) (.cons (sha_lt _) (rd_eq (hr39.rd fun _ h => by simp [h]) (sha_len _).symm (by simp)) .nil))) (by simp [hK1, sha_len]) (by simp) (mA h0) (mA h1)) rfl ?_)
   rintro r41 M41 J41 ⟨rfl, hr41⟩
   refine XP.q hs rfl (q_assign rfl) rfl ?_
   refine XP.fin (kq 4 kn) ?_
   refine XC.ret ?_
   refine ⟨_, _, [], res1 rfl rfl, List.sublist_append_left _ _, by simp, rfl, sl_eq hr41 rfl ?_⟩
   simp

theorem extract_spec (kv pv : Value) (key p : List Nat) (A : Mem) (hkey : Rd A 1 kv key.length (nums .u8 key)) (hk256 : ∀ x ∈ key, x < 256) (hk31 : key.length ≤ 1073741824) (hp : Rd A 1 pv p.length (nums .u8 p)) (hp256 : ∀ x ∈ p, x < 256) (htot : p.length ≤ 1073741824) {ef ek : TypeId} {ff fk : Nat × Nat} (h0 : (0, Obj.cells (nums .u32 hFirst.list).toArray ef ff) ∈ A) (h1 : (1, Obj.cells (nums .u32 kTab).toArray ek fk) ∈ A) :
  FnX Tryz.prog 88 [kv, pv] [] A fun r M J => J = [] ∧ Sl 1 r 32 (nums .u8 (hmac key p)) M := by
 haveI := hp.cel
 refine FnX.enter (N := 9) Tryz.func88 rfl rfl rfl fun w => ?_
 refine XC.keep (kq 0 (kq 1 kn)) ?_
 refine XC.reg ?_
 refine as_ ?_
 refine XL.fin (kq 0 (kq 1 kn)) ?_
 refine XC.reg ?_
 refine mv_ (mv_ ?_)
 refine XL.lo rfl (l_buildSlice (e := 23) (sz := 1) (z := [.slice none 0 0]) (by kernel_rfl) (eS rfl e0) (bdS 0 1 rfl (by rfl) bd0) rfl fun b7 => ?_)
 refine XL.lo rfl (l_call (Mc := []) (R := [_]) (aS rfl (aS rfl a0)) (by kernel_rfl) (.refl _) (mac_spec _ _ key [p] _ (hkey.mono fun _ h => mA h) hk256 hk31 (Parts.of (Rd.whole (n := 1) m0 (by rfl)) rfl (.cons hp256 (hp.mono fun _ h => mA h) .nil)) (by simpa using htot) (by simp) (mA h0) (mA h1)) rfl ?_)
 rintro r M1 J1 ⟨rfl, hr⟩
 refine as_ ?_
 refine XL.fin (kq 4 kn) ?_
 refine XC.ret ?_
 refine ⟨_, _, [], res1 rfl rfl, List.sublist_append_left _ _, by simp, rfl, sl_eq hr rfl ?_⟩
 simp

theorem wperm {M0 M1 B1 D : Mem} (x : Nat × Obj) : (M1 ++ (B1 ++ (x :: (M0 ++ D)))).Perm (M0 ++ (M1 ++ (B1 ++ (x :: D)))) := by
  have h : (M1 ++ (B1 ++ (x :: (M0 ++ D)))) = (M1 ++ B1 ++ [x]) ++ (M0 ++ D) := by simp
  have h2 : (M0 ++ (M1 ++ (B1 ++ (x :: D)))) = M0 ++ ((M1 ++ B1 ++ [x]) ++ D) := by simp
  rw [h, h2, ← List.append_assoc, ← List.append_assoc M0]
  exact List.Perm.append_right _ List.perm_append_comm
/-- 64 bytes of some bytes. -/
def wide (p : List Nat) : List Nat := sha256 (0 :: p) ++ sha256 (1 :: p)

theorem wide_spec (pv : Value) (ps : List (List Nat)) (A : Mem) (hp : Parts A pv ps) (htot : ps.flatten.length ≤ 1073741824) (hcnt : ps.length ≤ 1073741824) {ef ek : TypeId} {ff fk : Nat × Nat} (h0 : (0, Obj.cells (nums .u32 hFirst.list).toArray ef ff) ∈ A) (h1 : (1, Obj.cells (nums .u32 kTab).toArray ek fk) ∈ A) :
  FnX Tryz.prog 123 [pv] [] A fun r M J => J = [] ∧ Sl 1 r 64 (nums .u8 (wide ps.flatten)) M := by
 obtain ⟨vs, hvs, hpv⟩ := hp.pv
 refine FnX.enter (N := 16) Tryz.func123 rfl rfl rfl fun w => ?_
 refine XC.keep (kq 0 kn) ?_
 refine XC.reg ?_
 refine as_ ?_
 refine XL.fin (kq 0 kn) ?_
 refine XC.reg ?_
 refine XL.lo rfl (l_buildSlice (e := 5) (sz := 1) (z := [.int .u8 0]) (by kernel_rfl) (eS rfl e0) (bdS 0 1 rfl (by rfl) bd0) rfl fun b4 => ?_)
 refine XL.lo rfl (l_buildSlice (e := 23) (sz := 1) (z := [.slice none 0 0]) (by kernel_rfl) (eS rfl e0) (bdS 0 1 rfl (by rfl) bd0) rfl fun b5 => ?_)
 refine mv_ ?_
 refine XL.lo rfl (l_append (e := 23) (sz := 1) (by_ := 24) (n := 1) (m := ps.length) (B := [(b5, _)]) (M0 := _ :: []) rfl rfl (by kernel_rfl) rfl (Sl.fresh rfl (by decide)) (hvs.mono fun _ h => mA h) hpv.one (.refl _) (by unfold maxLen; omega) (by omega) rfl fun v0 B0 hsl0 => ?_)
 refine XL.lo rfl (l_call (Mc := []) (R := B0 ++ (_ :: [])) (aS rfl a0) (by kernel_rfl) (.refl _) (sum_spec v0 ([0] :: ps) _ (Parts.of (hsl0.rd fun _ h => by simp [h]) (by rw [List.length_cons]; omega) (.cons (by simp) (Rd.whole (n := 1) (b := b4) (cs := nums .u8 [0]) At.mem (by rfl)) (hpv.mono fun _ h => mA h))) (by rw [List.flatten_cons, List.length_append, List.length_singleton]; omega) (by rw [List.length_cons]; omega) (mA h0) (mA h1)) rfl ?_)
 rintro r0 M0 J0 ⟨rfl, hr0⟩
 refine as_ ?_
 refine XL.fin (kq 0 (kq 3 kn)) ?_
 refine XC.reg ?_
 refine mv_ ?_
 refine XL.lo rfl (l_buildSlice (e := 5) (sz := 1) (z := [.int .u8 0]) (by kernel_rfl) (eS rfl e0) (bdS 0 1 rfl (by rfl) bd0) rfl fun b10 => ?_)
 refine XL.lo rfl (l_buildSlice (e := 23) (sz := 1) (z := [.slice none 0 0]) (by kernel_rfl) (eS rfl e0) (bdS 0 1 rfl (by rfl) bd0) rfl fun b11 => ?_)
 refine mv_ ?_
 refine XL.lo rfl (l_append (e := 23) (sz := 1) (by_ := 24) (n := 1) (m := ps.length) (B := [(b11, _)]) (M0 := _ :: (M0 ++ (B0 ++ [_]))) rfl rfl (by kernel_rfl) rfl (Sl.fresh rfl (by decide)) (hvs.mono fun _ h => mA h) hpv.one (.refl _) (by unfold maxLen; omega) (by omega) rfl fun v1 B1 hsl1 => ?_)
 refine XL.lo rfl (l_call (Mc := []) (R := B1 ++ (_ :: (M0 ++ (B0 ++ [_])))) (aS rfl a0) (by kernel_rfl) (.refl _) (sum_spec v1 ([1] :: ps) _ (Parts.of (hsl1.rd fun _ h => by simp [h]) (by rw [List.length_cons]; omega) (.cons (by simp) (Rd.whole (n := 1) (b := b10) (cs := nums .u8 [1]) At.mem (by rfl)) (hpv.mono fun _ h => mA h))) (by rw [List.flatten_cons, List.length_append, List.length_singleton]; omega) (by rw [List.length_cons]; omega) (mA h0) (mA h1)) rfl ?_)
 rintro r1 M1 J1 ⟨rfl, hr1⟩
 refine XL.lo rfl (l_append (e := 5) (sz := 1) (by_ := 1) (n := 32) (m := 32) (B := M0) (M0 := M1 ++ (B1 ++ (_ :: (B0 ++ [_])))) rfl rfl (by kernel_rfl) rfl hr0 (hr1.rd fun _ h => by simp [h]) nums_one (wperm _) (by unfold maxLen; omega) (by omega) rfl fun v9 B9 hsl9 => ?_)
 refine as_ ?_
 refine XL.fin (kq 2 kn) ?_
 refine XC.ret ?_
 refine ⟨_, _, [], res1 rfl rfl, List.sublist_append_left _ _, by simp, rfl, sl_eq hsl9 rfl ?_⟩
 rw [← nums_append]; rfl

end Go.Proofs.YtphcaiplgpmnnaaGreatDoor
/-
  Numbers as rows of words of 32 bits, the lowest first. No program in sight.
-/
namespace Go.Px

def nv : List Nat → Nat
  | [] => 0
  | w :: r => w + 4294967296 * nv r
def w32 (ws : List Nat) : Prop := ∀ x ∈ ws, x < 4294967296
def xp (n : Nat) : Nat := 4294967296 ^ n
theorem xp0 : xp 0 = 1 := rfl
theorem xpS (n : Nat) : xp (n + 1) = xp n * 4294967296 := Nat.pow_succ _ _
theorem nv_append (a b : List Nat) : nv (a ++ b) = nv a + xp a.length * nv b := by
  induction a with
  | nil => simp [nv, xp0]
  | cons x a ih => simp only [List.cons_append, nv, ih, List.length_cons, xpS]; grind
theorem nv_split (ws : List Nat) (j : Nat) (h : j ≤ ws.length) : nv ws = nv (ws.take j) + xp j * nv (ws.drop j) := by
  conv => lhs; rw [← List.take_append_drop j ws, nv_append, List.length_take, Nat.min_eq_left h]
theorem nv_take_succ {ws : List Nat} {j : Nat} (h : j < ws.length) : nv (ws.take (j + 1)) = nv (ws.take j) + xp j * ws.getD j 0 := by
  rw [List.take_add_one, List.getElem?_eq_getElem h, nv_append, List.length_take, Nat.min_eq_left (by omega), List.getD, List.getElem?_eq_getElem h]
  simp [nv]
theorem nv_lt {ws : List Nat} (h : w32 ws) : nv ws < xp ws.length := by
  induction ws with
  | nil => simp [nv, xp0]
  | cons x ws ih =>
    have h1 := h x (by simp)
    have h2 := ih (fun y hy => h y (by simp [hy]))
    simp only [nv, List.length_cons, xpS]
    omega
theorem w32.take {ws : List Nat} (h : w32 ws) (n : Nat) : w32 (ws.take n) := fun x hx => h x (List.mem_of_mem_take hx)
theorem w32.drop {ws : List Nat} (h : w32 ws) (n : Nat) : w32 (ws.drop n) := fun x hx => h x (List.mem_of_mem_drop hx)
theorem w32.get {ws : List Nat} (h : w32 ws) (n : Nat) : ws.getD n 0 < 4294967296 := getD_lt h (by decide)
theorem w32.set {ws : List Nat} (h : w32 ws) {n x : Nat} (hx : x < 4294967296) : w32 (ws.set n x) := fun y hy => by
  rcases List.mem_or_eq_of_mem_set hy with h1 | rfl
  · exact h y h1
  · exact hx
theorem w32.app {a b : List Nat} (ha : w32 a) (hb : w32 b) : w32 (a ++ b) := fun x hx => (List.mem_append.1 hx).elim (ha x) (hb x)
/-! ### Without noughts behind -/
def tl (ws : List Nat) : Nat → Nat
  | 0 => 0
  | n + 1 => if ws.getD n 0 = 0 then tl ws n else n + 1
def trim (ws : List Nat) : List Nat := ws.take (tl ws ws.length)
/-- No nought behind. -/
def nrm (ws : List Nat) : Prop := ∀ k, ws.length = k + 1 → ws.getD k 0 ≠ 0
theorem nv_lt_at {a b : List Nat} (ha : w32 a) {j : Nat} (hj : j < a.length) (hl : a.length = b.length) (hlt : a.getD j 0 < b.getD j 0) (he : a.drop (j + 1) = b.drop (j + 1)) : nv a < nv b := by
  have h1 := nv_split a (j + 1) (by omega)
  have h2 := nv_split b (j + 1) (by omega)
  rw [nv_take_succ hj, he] at h1
  rw [nv_take_succ (by omega)] at h2
  have h3 := nv_lt (ha.take j)
  rw [List.length_take, Nat.min_eq_left (by omega)] at h3
  have h4 : xp j * (a.getD j 0 + 1) ≤ xp j * b.getD j 0 := Nat.mul_le_mul_left _ hlt
  rw [Nat.mul_add, Nat.mul_one] at h4
  omega
/-! ### The product, word by word -/
end Go.Px

/-
  The numbers of the rounds from the roots of primes. No program in sight.
-/
namespace Go.Px

def isPr (n : Nat) : Bool := decide (1 < n) && (List.range n).all fun i => decide (i < 2) || n % i != 0
def rootStep (k p lo b : Nat) : Nat := if (lo + 2 ^ b) ^ k ≤ p * xp k then lo + 2 ^ b else lo
def rootD (k p : Nat) : Nat → Nat → Nat
  | 0, lo => lo
  | j + 1, lo => rootD k p j (rootStep k p lo j)
def root (k p : Nat) : Nat := rootD k p 40 0 % 4294967296
def rl (k n : Nat) : List Nat := ((List.range n).filter isPr).map (root k)
/-! ### The words of a block, one by one -/
def pw (P : List Nat) (i : Nat) : Nat → Nat
  | 0 => 0
  | j + 1 => pw P i j * 256 + P.getD (4 * i + j) 0
def wAt (P : List Nat) (i : Nat) : List Nat := wx (words P (min i 16)) (i - 16)
end Go.Px

/-
  HKDF's expand, in plain lists. No program in sight.
-/
namespace Go.Px

def exp (key info : List Nat) : Nat → List Nat × List Nat
  | 0 => ([], [])
  | i + 1 => ((exp key info i).1 ++ hmac key ((exp key info i).2 ++ (info ++ [(i + 1) % 256])), hmac key ((exp key info i).2 ++ (info ++ [(i + 1) % 256])))
theorem sha256_len (p : List Nat) : (sha256 p).length = 32 := by simp [sha256, S8.bytes, S8.list, out4]
theorem exp_len (key info : List Nat) : ∀ i, (exp key info i).1.length = 32 * i
  | 0 => rfl
  | i + 1 => by rw [exp, List.length_append, exp_len key info i, hmac, sha256_len]; omega
def rds (n : Int) : Nat := min 255 ((n.toNat + 31) / 32)
def expand (key info : List Nat) (n : Int) : List Nat := (exp key info (rds n)).1.take n.toNat
theorem expand_len (key info : List Nat) (n : Int) : (expand key info n).length = min n.toNat 8160 := by
  unfold expand; rw [List.length_take, exp_len]; unfold rds; omega
end Go.Px

/- The walks of sha.Expand and pawlref02.Expand. -/
namespace Go.Proofs.YtphcaiplgpmnnaaGreatDoor
open Go.Px
theorem xperm {M B D : Mem} (x y : Nat × Obj) : (M ++ (x :: y :: (B ++ D))).Perm (B ++ ((M ++ [x, y]) ++ D)) := by
  have h : M ++ (x :: y :: (B ++ D)) = (M ++ [x, y]) ++ (B ++ D) := by simp
  rw [h]
  exact List.perm_append_comm_assoc _ _ _
theorem hmac_lt (key p : List Nat) : ∀ x ∈ hmac key p, x < 256 := sha_lt _
theorem hmac_len (key p : List Nat) : (hmac key p).length = 32 := sha_len _
theorem exp2_lt (key info : List Nat) : ∀ i, ∀ x ∈ (exp key info i).2, x < 256
  | 0 => by simp [exp]
  | i + 1 => hmac_lt _ _
theorem exp2_len (key info : List Nat) (i : Nat) : (exp key info i).2.length ≤ 32 := by
  cases i with
  | zero => simp [exp]
  | succ i => rw [exp, hmac_len]; decide
theorem exp1_lt (key info : List Nat) : ∀ i, ∀ x ∈ (exp key info i).1, x < 256
  | 0 => by simp [exp]
  | i + 1 => fun x hx => (List.mem_append.1 hx).elim (exp1_lt key info i x) (hmac_lt _ _ x)

theorem expand_spec (kv iv : Value) (key info : List Nat) (n : Int) (A : Mem) (hkey : Rd A 1 kv key.length (nums .u8 key)) (hk256 : ∀ x ∈ key, x < 256) (hk31 : key.length ≤ 1073741824) (hinfo : Rd A 1 iv info.length (nums .u8 info)) (hi256 : ∀ x ∈ info, x < 256) (hi31 : info.length ≤ 536870912) (hn : n < 1000000) (hn0 : -1000000 < n) {ef ek : TypeId} {ff fk : Nat × Nat} (h0 : (0, Obj.cells (nums .u32 hFirst.list).toArray ef ff) ∈ A) (h1 : (1, Obj.cells (nums .u32 kTab).toArray ek fk) ∈ A) :
  FnX Tryz.prog 87 [kv, iv, .int .i64 n] [] A fun r M J => J = [] ∧ Rd M 1 r (expand key info n).length (nums .u8 (expand key info n)) := by
 haveI := hinfo.cel
 refine FnX.enter (N := 40) Tryz.func87 rfl rfl rfl fun w => ?_
 refine XC.keep (kq 0 (kq 1 (kq 2 kn))) ?_
 refine XC.reg ?_
 refine as_ ?_
 refine XL.fin (kq 0 (kq 1 (kq 2 kn))) ?_
 refine XC.reg ?_
 refine as_ (as_ ?_)
 refine XL.fin (kq 0 (kq 1 (kq 2 (kq 7 (kq 8 kn))))) ?_
 refine XC.seq ?_
 refine XC.reg ?_
 refine as_ ?_
 refine XL.fin (kq 0 (kq 1 (kq 2 (kq 7 (kq 8 (kq 9 kn)))))) ?_
 refine XC.block ?_
 refine XC.loop (α := Nat × Value × Value × Mem × Mem) (fun x => [(0, kv), (1, iv), (2, .int .i64 n), (7, x.2.1), (8, x.2.2.1), (9, .int .i64 ((x.1 + 1 : Nat) : Int))]) (fun x => x.2.2.2.1 ++ x.2.2.2.2) (fun _ => []) (fun x => x.1 ≤ rds n ∧ Sl 1 x.2.1 (32 * x.1) (nums .u8 (exp key info x.1).1) x.2.2.2.1 ∧ Sl 1 x.2.2.1 (exp key info x.1).2.length (nums .u8 (exp key info x.1).2) x.2.2.2.2) (fun x => rds n - x.1) (0, .slice none 0 0, .slice none 0 0, [], []) ⟨Nat.zero_le _, Sl.nil, Sl.nil⟩ (kq 0 (kq 1 (kq 2 (kq 7 (kq 8 (kq 9 kn)))))) .rfl (fun _ h => h) ?_
 rintro ⟨i, ov, lv, Bo, Bl⟩ ⟨hi, ho, hl⟩
 dsimp only at hi ho hl ⊢
 have hrd : rds n = min 255 ((n.toNat + 31) / 32) := rfl
 have hl32 := exp2_len key info i
 haveI := hl.cel
 refine XC.seq ?_
 by_cases h32 : (n : Int) ≤ ((32 * i : Nat) : Int)
 ·
  refine XC.reg ?_
  refine mv_ ?_
  refine XL.q (q_lenV (ho.rd fun _ h => h) rfl (by kernel_rfl)) rfl ?_
  refine mv_ ?_
  refine XL.q (q_cmp false rfl rfl (ltF (by omega))) rfl ?_
  refine mv_ ?_
  refine XL.gn rfl rfl rfl rfl ?_
  refine XL.gn rfl rfl rfl rfl ?_
  refine XL.q (q_pickF rfl rfl) rfl ?_
  refine XL.fin (kq 0 (kq 1 (kq 2 (kq 7 (kq 8 (kq 9 (kq 17 kn))))))) ?_
  refine XC.condF rfl ?_
  refine XC.exit ?_
  refine te ?_
  refine re ?_
  refine be rfl ?_
  refine nx (kq 2 (kq 7 kn)) ?_
  refine XC.reg ?_
  refine mv_ (mv_ ?_)
  refine XL.q (q_lenV (ho.rd fun _ h => h) rfl (by kernel_rfl)) rfl ?_
  refine XL.q (q_minR (if ((32 * i : Nat) : Int) < n then ((32 * i : Nat) : Int) else n) rfl rfl rfl) rfl ?_
  have hend : i = rds n := by omega
  subst hend
  refine XL.q (q_maxR ((min n.toNat (32 * rds n) : Nat) : Int) rfl rfl (by split <;> split <;> omega)) rfl ?_
  have hkl : min n.toNat (32 * rds n) = (expand key info n).length := by rw [expand_len]; omega
  obtain ⟨pp, cc, rfl, hpc⟩ := ho.val
  refine as_ ?_
  refine XL.fin (kq 2 (kq 7 kn)) ?_
  refine XC.reg ?_
  refine mv_ (mv_ (mv_ ?_))
  refine XL.q (q_slice (e := 5) (sz := 1) rfl (by kernel_rfl) (by kernel_rfl) o0 (o1 (min n.toNat (32 * rds n)) rfl rfl) (o1 (min n.toNat (32 * rds n)) rfl rfl) (by simp) (by simp; omega) (by simp) (by simp)) rfl ?_
  refine as_ ?_
  refine XL.fin (kq 6 kn) ?_
  refine XC.ret ?_
  refine ⟨_, Bo, [], res1 rfl rfl, List.sublist_append_left _ _, by simp, rfl, ?_⟩
  have := Rd.part (ho.rd fun _ h => h) 0 (min n.toNat (32 * rds n)) (min n.toNat (32 * rds n)) (Nat.zero_le _) (Nat.min_le_right _ _) (Nat.le_refl _)
  refine rd_eq this (by simpa using hkl) ?_
  rw [Nat.zero_mul, List.drop_zero, Nat.sub_zero, Nat.mul_one, ← nums_take]
  have e : ((exp key info (rds n)).1).take (min n.toNat (32 * rds n)) = expand key info n := by
   unfold expand
   rw [List.take_eq_take_iff, exp_len]; omega
  rw [e]
 ·
  refine XC.reg ?_
  refine mv_ ?_
  refine XL.q (q_lenV (ho.rd fun _ h => h) rfl (by kernel_rfl)) rfl ?_
  refine mv_ ?_
  refine XL.q (q_cmp true rfl rfl (ltT (by omega))) rfl ?_
  refine mv_ ?_
  refine XL.gy rfl rfl (OpQ.opL qm_ rfl ?_)
  refine XL.gy rfl rfl (OpQ.opL (q_bin rfl rfl rfl) rfl ?_)
  refine XL.q (q_pickT rfl rfl) rfl ?_
  refine XL.fin (kq 0 (kq 1 (kq 2 (kq 7 (kq 8 (kq 9 (kq 17 kn))))))) ?_
  refine XC.cond rfl (fun hc => ?_) (fun hc => ?_)
  ·
   have hlt : i < 255 := by simp at hc; omega
   refine XC.skip ?_
   refine nx (kq 0 (kq 1 (kq 2 (kq 7 (kq 8 (kq 9 kn)))))) ?_
   refine XC.seq ?_
   refine XC.block ?_
   refine XC.reg ?_
   refine mv_ (mv_ (mv_ (mv_ ?_)))
   refine XL.q (q_to8 rfl (by kernel_rfl)) rfl ?_
   refine XL.lo rfl (l_buildSlice (e := 5) (sz := 1) (z := [.int .u8 0]) (by kernel_rfl) (eS rfl e0) (bdS 0 1 rfl (by rfl) bd0) rfl fun b25 => ?_)
   refine XL.lo rfl (l_buildSlice (e := 23) (sz := 1) (z := [.slice none 0 0, .slice none 0 0, .slice none 0 0]) (by kernel_rfl) (eS rfl (eS rfl (eS rfl e0))) (bdS 0 1 rfl (by rfl) (bdS 1 1 rfl (by rfl) (bdS 2 1 rfl (by rfl) bd0))) rfl fun b26 => ?_)
   refine XL.lo rfl (l_call (Mc := []) (R := _ :: _ :: (Bo ++ Bl)) (aS rfl (aS rfl a0)) (by kernel_rfl) (.refl _) (mac_spec _ _ key [(exp key info i).2, info, [(i + 1) % 256]] _ (hkey.mono fun _ h => mA h) hk256 hk31 (Parts.of (Rd.whole (n := 3) m0 (by rfl)) rfl (.cons (exp2_lt _ _ _) (hl.rd fun _ h => by simp [h]) (.cons hi256 (hinfo.mono fun _ h => mA h) (.cons (by intro x hx; simp at hx; subst hx; exact Nat.mod_lt _ (by decide)) (Rd.whole (n := 1) (cs := nums .u8 [(i + 1) % 256]) At.mem (by rfl)) .nil)))) (by simp; omega) (by simp) (mA h0) (mA h1)) rfl ?_)
   rintro r27 M27 J1 ⟨rfl, h27⟩
   rw [show [(exp key info i).2, info, [(i + 1) % 256]].flatten = (exp key info i).2 ++ (info ++ [(i + 1) % 256]) from by simp] at h27
   refine as_ ?_
   refine XL.fin (kq 0 (kq 1 (kq 2 (kq 7 (kq 8 (kq 9 kn)))))) ?_
   refine XC.reg1 ?_
   refine mv_ (mv_ ?_)
   refine XL.lo rfl (l_append (e := 5) (sz := 1) (by_ := 1) (m := 32) (B := Bo) (M0 := (M27 ++ [_, _]) ++ Bl) rfl rfl (by kernel_rfl) rfl ho (h27.rd fun _ h => by simp [h]) nums_one (xperm _ _) (by unfold maxLen; omega) (by omega) rfl fun ov1 Bo1 ho1 => ?_)
   refine as_ ?_
   refine XL.nil ?_
   refine nb ?_
   refine nx (kq 0 (kq 1 (kq 2 (kq 7 (kq 8 (kq 9 kn)))))) ?_
   refine XC.reg1 ?_
   refine mv_ ?_
   refine XL.q (q_num ((i + 1 + 1 : Nat) : Int) rfl rfl (add64 (by omega) (by omega) (by omega))) rfl ?_
   refine as_ ?_
   refine XL.nil ?_
   refine rn (i + 1, ov1, r27, Bo1, M27) ⟨by dsimp only; omega, sl_eq ho1 (by dsimp only; omega) (by rw [← nums_append]; rfl), sl_eq h27 (by dsimp only; rw [exp, hmac_len]) rfl⟩ (by dsimp only; omega) (kq 0 (kq 1 (kq 2 (kq 7 (kq 8 (kq 9 kn)))))) (Fit.sub (List.Sublist.append (List.Sublist.refl _) ((List.sublist_append_left _ _).trans (List.sublist_append_left _ _)))) (fun _ h => h)
  ·
   have hend : i = rds n := by simp at hc; omega
   refine XC.exit ?_
   refine te ?_
   refine re ?_
   refine be rfl ?_
   refine nx (kq 2 (kq 7 kn)) ?_
   refine XC.reg ?_
   refine mv_ (mv_ ?_)
   refine XL.q (q_lenV (ho.rd fun _ h => h) rfl (by kernel_rfl)) rfl ?_
   refine XL.q (q_minR (if ((32 * i : Nat) : Int) < n then ((32 * i : Nat) : Int) else n) rfl rfl rfl) rfl ?_
   subst hend
   refine XL.q (q_maxR ((min n.toNat (32 * rds n) : Nat) : Int) rfl rfl (by split <;> split <;> omega)) rfl ?_
   have hkl : min n.toNat (32 * rds n) = (expand key info n).length := by rw [expand_len]; omega
   obtain ⟨pp, cc, rfl, hpc⟩ := ho.val
   refine as_ ?_
   refine XL.fin (kq 2 (kq 7 kn)) ?_
   refine XC.reg ?_
   refine mv_ (mv_ (mv_ ?_))
   refine XL.q (q_slice (e := 5) (sz := 1) rfl (by kernel_rfl) (by kernel_rfl) o0 (o1 (min n.toNat (32 * rds n)) rfl rfl) (o1 (min n.toNat (32 * rds n)) rfl rfl) (by simp) (by simp; omega) (by simp) (by simp)) rfl ?_
   refine as_ ?_
   refine XL.fin (kq 6 kn) ?_
   refine XC.ret ?_
   refine ⟨_, Bo, [], res1 rfl rfl, List.sublist_append_left _ _, by simp, rfl, ?_⟩
   have := Rd.part (ho.rd fun _ h => h) 0 (min n.toNat (32 * rds n)) (min n.toNat (32 * rds n)) (Nat.zero_le _) (Nat.min_le_right _ _) (Nat.le_refl _)
   refine rd_eq this (by simpa using hkl) ?_
   rw [Nat.zero_mul, List.drop_zero, Nat.sub_zero, Nat.mul_one, ← nums_take]
   have e : ((exp key info (rds n)).1).take (min n.toNat (32 * rds n)) = expand key info n := by
    unfold expand
    rw [List.take_eq_take_iff, exp_len]; omega
   rw [e]

end Go.Proofs.YtphcaiplgpmnnaaGreatDoor
