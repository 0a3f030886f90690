/- Part 14 of the texts of this claim, one behind the other. -/
import Derived.Test.YthmnlkpikgglbaaGreatDoorB13
import Derived.Test.YthmnlkpikgglbaaGreatDoorRows
set_option linter.unusedVariables false
set_option linter.unusedSimpArgs false
set_option linter.unusedVariables false
set_option linter.unusedSimpArgs false
namespace Go.Proofs.YthmnlkpikgglbaaGreatDoor
open Go.Px
/-- A number's bytes, the highest first. -/
def bes (n k x : Nat) : List Nat := (List.range x).map fun j => n / 2 ^ (8 * (k - 1 - j)) % 256
def beN (n k : Nat) : List Nat := bes n k k
theorem bes_len (n k x : Nat) : (bes n k x).length = x := by simp [bes]
theorem beN_len (n k : Nat) : (beN n k).length = k := bes_len n k k
theorem bes_succ (n k x : Nat) : bes n k (x + 1) = bes n k x ++ [n / 2 ^ (8 * (k - 1 - x)) % 256] := by simp [bes, List.range_succ]
theorem bes_lt (n k x : Nat) : ∀ y ∈ bes n k x, y < 256 := by
  intro y hy
  simp only [bes, List.mem_map] at hy
  obtain ⟨j, _, rfl⟩ := hy
  exact Nat.mod_lt _ (by decide)
theorem beN_lt (n k : Nat) : ∀ y ∈ beN n k, y < 256 := bes_lt n k k
theorem lt_app {a b : List Nat} (ha : ∀ x ∈ a, x < 256) (hb : ∀ x ∈ b, x < 256) : ∀ x ∈ a ++ b, x < 256 := fun x hx => (List.mem_append.1 hx).elim (ha x) (hb x)
/-- The number of some bytes. -/
def bev (ws : List Nat) : Nat := ws.foldl (fun n b => n * 256 + b) 0
theorem bev_snoc (ws : List Nat) (b : Nat) : bev (ws ++ [b]) = bev ws * 256 + b := by simp [bev]
theorem bev_lt' (ws : List Nat) (h : ∀ x ∈ ws, x < 256) : ∀ a, ws.foldl (fun n b => n * 256 + b) a < (a + 1) * 256 ^ ws.length := by
  induction ws with
  | nil => intro a; simp
  | cons b ws ih =>
    intro a
    have h1 := ih (fun x hx => h x (by simp [hx])) (a * 256 + b)
    have h2 := h b (by simp)
    rw [List.foldl_cons, List.length_cons, show 256 ^ (ws.length + 1) = 256 * 256 ^ ws.length from Nat.pow_succ', ← Nat.mul_assoc]
    exact Nat.lt_of_lt_of_le h1 (Nat.mul_le_mul_right _ (by omega))
theorem bev_lt {ws : List Nat} (h : ∀ x ∈ ws, x < 256) : bev ws < 256 ^ ws.length := by
  have := bev_lt' ws h 0
  unfold bev; omega
theorem bev_bes (n k : Nat) : ∀ x, x ≤ k → bev (bes n k x) = n / 2 ^ (8 * (k - x)) % 256 ^ x
  | 0, _ => by simp [bes, bev, Nat.mod_one]
  | x + 1, h => by
    rw [bes_succ, bev_snoc, bev_bes n k x (by omega)]
    have e1 : k - 1 - x = k - (x + 1) := by omega
    have e2 : 8 * (k - x) = 8 * (k - (x + 1)) + 8 := by omega
    rw [e1, e2, Nat.pow_add, ← Nat.div_div_eq_div_mul, show 256 ^ (x + 1) = 256 * 256 ^ x from Nat.pow_succ', Nat.mod_mul, show 2 ^ 8 = 256 from rfl]
    omega
theorem bev_beN {n k : Nat} (h : n < 256 ^ k) : bev (beN n k) = n := by
  unfold beN
  rw [bev_bes n k k (Nat.le_refl _), Nat.sub_self, Nat.mul_zero, Nat.pow_zero, Nat.div_one, Nat.mod_eq_of_lt h]
/-- A writer, and what it has laid. -/
structure Wtr (wb : Nat) (ws : List Nat) (M : Mem) : Prop where
  ex : ∃ (v : Value) (B : Mem), M = (wb, blk [v] 101) :: B ∧ Sl 1 v ws.length (nums .u8 ws) B
  lt : ∀ x ∈ ws, x < 256
theorem Wtr.new {b : Nat} : Wtr b [] [(b, blk [.slice none 0 0] 101)] := ⟨⟨_, [], rfl, Sl.nil⟩, fun x h => by cases h⟩
theorem Wtr.eq {wb : Nat} {ws ws' : List Nat} {M : Mem} (h : Wtr wb ws M) (e : ws = ws') : Wtr wb ws' M := e ▸ h

set_option maxRecDepth 100000 in
theorem wnum_spec (wb n k : Nat) (ws : List Nat) (M A : Mem) (hW : Wtr wb ws M) (hn : n < 18446744073709551616) (hk : k ≤ 8) (hl : ws.length ≤ 1099511627776) : FnX Tryz.prog 50 [.pointer (some ⟨wb, 0, none⟩), .int .u64 ((n : Nat) : Int), .int .i64 ((k : Nat) : Int)] M A fun q M J => q = .pointer (some ⟨wb, 0, none⟩) ∧ Wtr wb (ws ++ beN n k) M := by
  obtain ⟨⟨v, B, rfl, hsl⟩, hlt⟩ := hW
  haveI := hsl.cel
  refine FnX.enterZ (N := 33) Tryz.func50 rfl rfl rfl fun w_ => ?_
  refine XC.keep (kp 0 rfl (kp 1 rfl (kp 2 rfl kn))) ?_
  refine XC.reg ?_
  refine XL.q (q_assign rfl) rfl ?_
  refine XL.fin (kp 0 rfl (kp 1 rfl (kp 2 rfl kn))) ?_
  refine XC.seq ?_
  refine XC.reg ?_
  refine XL.q (q_move rfl) rfl ?_
  refine XL.q (q_num ((k : Int) - 1) rfl rfl (sub64 rfl (by omega) (by omega))) rfl ?_
  refine XL.q (q_assign rfl) rfl ?_
  refine XL.fin (kp 0 rfl (kp 1 rfl (kp 7 rfl kn))) ?_
  refine XC.block ?_
  refine XC.loop (α := Nat × Value × Mem) (fun x => [(0, .pointer (some ⟨wb, 0, none⟩)), (1, .int .u64 ((n : Nat) : Int)), (7, .int .i64 ((k : Int) - 1 - (x.1 : Int)))]) (fun x => (wb, blk [x.2.1] 101) :: x.2.2) (fun _ => []) (fun x => x.1 ≤ k ∧ Sl 1 x.2.1 (ws ++ bes n k x.1).length (nums .u8 (ws ++ bes n k x.1)) x.2.2) (fun x => k - x.1) ⟨0, v, B⟩ ⟨Nat.zero_le _, by simpa [bes] using hsl⟩ (kp 0 rfl (kp 1 rfl (kp 7 (by simp; rfl) kn))) .rfl (fun _ h => h) ?_
  clear hsl
  rintro ⟨x, v, B⟩ ⟨hx, hsl⟩
  dsimp only at hx hsl ⊢
  haveI := hsl.cel
  have hbl := bes_len n k x
  have hll : (ws ++ bes n k x).length = ws.length + x := by rw [List.length_append, hbl]
  refine XC.seq ?_
  refine XC.reg ?_
  refine XL.q (q_move rfl) rfl ?_
  refine XL.q (q_bin rfl rfl rfl) rfl ?_
  refine XL.q (q_move rfl) rfl ?_
  refine XL.split (t := 12) rfl (fun hb => ?_) (fun hb => ?_)
  ·
    have hltx : x < k := by simp at hb; omega
    obtain ⟨m, hm, hm2⟩ : ∃ m : Nat, ((k : Int) - 1 - (x : Int)) = (m : Int) ∧ m = k - 1 - x := ⟨k - 1 - x, by omega, rfl⟩
    rw [hm]
    refine XL.gy rfl rfl (OpQ.opL (q_move rfl) rfl ?_)
    refine XL.gy rfl rfl (OpQ.opL (q_cmp true rfl rfl (ltT (by omega))) rfl ?_)
    refine XL.q (q_pickT rfl rfl) rfl ?_
    refine XL.fin (kp 0 rfl (kp 1 rfl (kp 7 rfl (kp 15 rfl kn)))) ?_
    refine XC.condT rfl ?_
    refine XC.skip ?_
    refine nx (kp 0 rfl (kp 1 rfl (kp 7 rfl kn))) ?_
    refine XC.seq ?_
    refine XC.block ?_
    refine XC.drawF1 [0, 1, 2, 3, 4, 5, 6, 7, 8, 9, 10, 12, 13] [(0, 0), (1, 0), (2, 0), (3, 0), (4, 1), (5, 0), (6, 0), (7, 0), (8, 0), (9, 0), (10, 2), (11, 2), (12, 0), (13, 0), (14, 2)] (by kernel_rfl) (by kernel_rfl) fun hs => ?_
    refine XF.q hs rfl (q_move rfl) rfl ?_
    refine XF.q hs rfl (q_move rfl) rfl ?_
    refine XF.q hs rfl (q_nil rfl) rfl ?_
    refine XF.q hs rfl (q_fieldAddrN 0 (off := 0) rfl (by kernel_rfl) rfl) rfl ?_
    refine XF.r hs rfl (q_load rfl (by kernel_rfl) (by first | exact At.mem | exact mA (by assumption)) (by rfl)) rfl ?_
    refine XF.q hs rfl (q_move rfl) rfl ?_
    refine XF.q hs rfl (q_move rfl) rfl ?_
    refine XF.q hs rfl (q_mulI (a := 8) rfl rfl rfl rfl (by omega)) rfl ?_
    refine XF.q hs rfl (q_shrI (a := n) (b := 8 * m) rfl rfl rfl rfl (by show _ ≤ 64; omega)) rfl ?_
    refine XF.q hs rfl (q_to8 rfl (by kernel_rfl)) rfl ?_
    refine XF.lo rfl rfl fun _ => (l_buildSlice (e := 5) (sz := 1) (z := [.int .u8 0]) (by kernel_rfl) (eS rfl e0) (bdS 0 1 rfl (by rfl) bd0) rfl fun b28 => ?_)
    refine XF.tl rfl rfl rfl (l_append2 (e := 5) (sz := 1) (by_ := 1) rfl rfl (by kernel_rfl) rfl (by first | assumption | exact Sl.nil) (Rd.whole (n := 1) At.mem (by rfl)) (by first | (simp [Value.oneCell']; done) | (intro c hc; simp only [List.mem_singleton] at hc; subst hc; first | exact Rd.one (by assumption) | exact Sl.one (by assumption))) PickC.perm (by unfold maxLen; omega) (by omega) rfl fun v29 B29 hs29 => ?_)
    refine XF.q hs rfl (q_nil rfl) rfl ?_
    refine XF.q hs rfl (q_fieldAddrN 0 (off := 0) rfl (by kernel_rfl) rfl) rfl ?_
    refine XF.tl rfl rfl rfl (l_store rfl rfl hs29.one (by kernel_rfl) SetC.set UpC.upd ?_)
    refine XF.nil ?_
    refine nb ?_
    refine nx (kp 0 rfl (kp 1 rfl (kp 7 rfl kn))) ?_
    refine XC.reg1 ?_
    refine XL.q (q_move rfl) rfl ?_
    refine XL.q (q_num ((m : Int) - 1) rfl rfl (sub64 rfl (by omega) (by omega))) rfl ?_
    refine XL.q (q_assign rfl) rfl ?_
    refine XL.nil ?_
    exact rn ⟨x + 1, v29, B29⟩ ⟨by dsimp only; omega, by dsimp only; rw [bes_succ, ← List.append_assoc, ← hm2]; exact sl_eq hs29 (by simp only [List.length_append, List.length_singleton]) (by simp [nums])⟩ (by dsimp only; omega) (kp 0 rfl (kp 1 rfl (kp 7 (by dsimp only; rw [show ((k : Int) - 1 - ((x + 1 : Nat) : Int)) = (m : Int) - 1 by omega]; rfl) kn))) (Fit.pick (B := [_]) PickC.perm (Fit.last PickC.perm)) (fun _ h => by first | exact h | cases h)
  ·
    have hge : x = k := by simp at hb; omega
    subst hge
    refine XL.gn rfl rfl rfl rfl ?_
    refine XL.gn rfl rfl rfl rfl ?_
    refine XL.q (q_pickF rfl rfl) rfl ?_
    refine XL.fin (kp 0 rfl (kp 1 rfl (kp 7 rfl (kp 15 rfl kn)))) ?_
    refine XC.condF rfl ?_
    refine XC.exit ?_
    refine te ?_
    refine re ?_
    refine be rfl ?_
    refine nx (kp 0 rfl kn) ?_
    refine XC.reg ?_
    refine XL.q (q_move rfl) rfl ?_
    refine XL.q (q_assign rfl) rfl ?_
    refine XL.fin (kp 6 rfl kn) ?_
    refine XC.ret ?_
    exact ⟨_, (wb, blk [v] 101) :: B, [], res1 rfl rfl, Fit.none (Fit.last PickC.perm), rfl, ⟨⟨v, B, rfl, hsl⟩, lt_app hlt (beN_lt n x)⟩⟩

set_option maxRecDepth 100000 in
theorem wbytes_spec (wb : Nat) (p : Value) (w ws : List Nat) (M A : Mem) (hW : Wtr wb ws M) (hp : By A p w) (hl : ws.length ≤ 1099511620000) : FnX Tryz.prog 51 [.pointer (some ⟨wb, 0, none⟩), p] M A fun q M J => q = .pointer (some ⟨wb, 0, none⟩) ∧ Wtr wb (ws ++ beN w.length 4 ++ w) M := by
  haveI := hp.cel
  have hpl := hp.len
  refine FnX.enterZ (N := 20) Tryz.func51 rfl rfl rfl fun w_ => ?_
  refine XC.keep (kp 0 rfl (kp 1 rfl kn)) ?_
  refine XC.reg ?_
  refine XL.q (q_assign rfl) rfl ?_
  refine XL.fin (kp 0 rfl (kp 1 rfl kn)) ?_
  refine XC.reg ?_
  refine XL.q (q_move rfl) rfl ?_
  refine XL.q (q_move rfl) rfl ?_
  refine XL.q (q_lenV2 (sz := 1) rfl (by kernel_rfl) hp.rd) rfl ?_
  refine XL.q (q_to64 rfl (by kernel_rfl)) rfl ?_
  rw [Nat.mod_eq_of_lt (show w.length < 18446744073709551616 by omega)]
  refine XL.lo rfl (l_call (Mc := _) (R := _) (aS rfl (aS rfl (aS rfl (a0)))) (by kernel_rfl) PickC.perm (wnum_spec wb w.length 4 ws _ _ hW (by omega) (by decide) (by omega)) rfl ?_)
  rintro v9 M9 J9 ⟨rfl, hW9⟩
  obtain ⟨⟨v, B, rfl, hsl⟩, hlt⟩ := hW9
  haveI := hsl.cel
  have hbl := beN_len w.length 4
  have hll : (ws ++ beN w.length 4).length = ws.length + 4 := by rw [List.length_append, hbl]
  refine XL.fin (kp 0 rfl (kp 1 rfl kn)) ?_
  refine XC.reg ?_
  refine XL.q (q_move rfl) rfl ?_
  refine XL.q (q_move rfl) rfl ?_
  refine XL.q (q_nil rfl) rfl ?_
  refine XL.q (q_fieldAddrN 0 (off := 0) rfl (by kernel_rfl) rfl) rfl ?_
  refine XL.q (q_load rfl (by kernel_rfl) (by first | exact At.mem | exact mA (by assumption)) (by rfl)) rfl ?_
  refine XL.q (q_move rfl) rfl ?_
  refine XL.lo rfl (l_append2 (e := 5) (sz := 1) (by_ := 1) rfl rfl (by kernel_rfl) rfl hsl (hp.rd.mono SubC.sub) nums_one PickC.perm (by unfold maxLen; omega) (by omega) rfl fun v16 B16 hs16 => ?_)
  refine XL.q (q_nil rfl) rfl ?_
  refine XL.q (q_fieldAddrN 0 (off := 0) rfl (by kernel_rfl) rfl) rfl ?_
  refine XL.lo rfl (l_store rfl rfl hs16.one (by kernel_rfl) SetC.set UpC.upd ?_)
  refine XL.fin (kp 0 rfl kn) ?_
  refine XC.reg ?_
  refine XL.q (q_move rfl) rfl ?_
  refine XL.q (q_assign rfl) rfl ?_
  refine XL.fin (kp 4 rfl kn) ?_
  refine XC.ret ?_
  exact ⟨_, (wb, blk [v16] 101) :: B16, [], res1 rfl rfl, Fit.none (Fit.pick (B := [_]) PickC.perm (Fit.last PickC.perm)), rfl, ⟨⟨v16, B16, rfl, sl_eq hs16 (by simp only [List.length_append]) (by simp [nums])⟩, lt_app hlt hp.lt⟩⟩

set_option maxRecDepth 100000 in
theorem wdone_spec (wb : Nat) (ws : List Nat) (M A : Mem) (hW : Wtr wb ws M) (hl : ws.length ≤ 16777216) : FnX Tryz.prog 52 [.pointer (some ⟨wb, 0, none⟩)] M A fun q M J => Wtr wb ws M ∧ By J q ws := by
  obtain ⟨⟨v, B, rfl, hsl⟩, hlt⟩ := hW
  haveI := hsl.cel
  refine FnX.enterZ (N := 8) Tryz.func52 rfl rfl rfl fun w_ => ?_
  refine XC.keep (kp 0 rfl kn) ?_
  refine XC.reg ?_
  refine XL.q (q_assign rfl) rfl ?_
  refine XL.fin (kp 0 rfl kn) ?_
  refine XC.reg ?_
  refine XL.q (q_move rfl) rfl ?_
  refine XL.q (q_nil rfl) rfl ?_
  refine XL.q (q_fieldAddrN 0 (off := 0) rfl (by kernel_rfl) rfl) rfl ?_
  refine XL.q (q_load rfl (by kernel_rfl) (by first | exact At.mem | exact mA (by assumption)) (by rfl)) rfl ?_
  refine XL.lo rfl (l_append2 (e := 5) (sz := 1) (by_ := 1) rfl rfl (by kernel_rfl) rfl Sl.nil (hsl.rd SubC.sub) nums_one PickC.perm (by unfold maxLen; omega) (by omega) rfl fun v7 B7 hs7 => ?_)
  refine XL.q (q_assign rfl) rfl ?_
  refine XL.fin (kp 2 rfl kn) ?_
  refine XC.ret ?_
  exact ⟨_, (wb, blk [v] 101) :: B, B7, res1 rfl rfl, Fit.pick PickC.perm (Fit.last PickC.perm), ⟨⟨v, B, rfl, hsl⟩, hlt⟩, ⟨by simpa using hs7.rd (R := B7) SubC.sub, hlt, hl⟩⟩

end Go.Proofs.YthmnlkpikgglbaaGreatDoor
/- The walks of package wire: Reader. -/
set_option linter.unusedVariables false
set_option linter.unusedSimpArgs false
namespace Go.Proofs.YthmnlkpikgglbaaGreatDoor
open Go.Px
theorem by_pre {R : Mem} {v : Value} {w : List Nat} (h : By R v w) {k : Nat} (hk : k ≤ w.length) : By R (vHi k v) (w.take k) := ⟨by
  have h1 := h.rd.hiV k hk
  rw [Nat.mul_one, ← nums_take] at h1
  rw [List.length_take, Nat.min_eq_left hk]
  exact h1, fun x hx => h.lt x (List.mem_of_mem_take hx), by rw [List.length_take]; have := h.len; omega⟩
theorem by_suf {R : Mem} {v : Value} {w : List Nat} (h : By R v w) {k : Nat} (hk : k ≤ w.length) : By R (vLo k 1 v) (w.drop k) := ⟨by
  have h1 := h.rd.loV k hk
  rw [Nat.mul_one, ← nums_drop] at h1
  rw [List.length_drop]
  exact h1, fun x hx => h.lt x (List.mem_of_mem_drop hx), by rw [List.length_drop]; have := h.len; omega⟩
/-- What a reader has left, and whether there was a fault. -/
abbrev Rst := List Nat × Bool
structure Rdr (rb : Nat) (st : Rst) (R M : Mem) : Prop where
  ex : ∃ (v : Value), M = [(rb, blk [v, .bool st.2] 147)] ∧ By R v st.1
def rnN (st : Rst) (k : Nat) : Nat := if st.2 || decide (st.1.length < k) then 0 else bev (st.1.take k)
def rnS (st : Rst) (k : Nat) : Rst := if st.2 || decide (st.1.length < k) then (st.1, true) else (st.1.drop k, false)
theorem rn_bad {st : Rst} {k : Nat} (h : st.2 = true ∨ st.1.length < k) : rnN st k = 0 ∧ rnS st k = (st.1, true) := by
  have e : (st.2 || decide (st.1.length < k)) = true := by
    rcases h with h | h
    · rw [h]; rfl
    · rw [decide_eq_true h, Bool.or_true]
  unfold rnN rnS
  rw [if_pos e, if_pos e]; exact ⟨rfl, rfl⟩
theorem rn_ok {st : Rst} {k : Nat} (h : st.2 = false) (hl : k ≤ st.1.length) : rnN st k = bev (st.1.take k) ∧ rnS st k = (st.1.drop k, false) := by
  have e : ¬ (st.2 || decide (st.1.length < k)) = true := by rw [h, decide_eq_false (by omega)]; decide
  unfold rnN rnS
  rw [if_neg e, if_neg e]; exact ⟨rfl, rfl⟩
theorem rnN_lt (st : Rst) (k : Nat) (h : ∀ x ∈ st.1, x < 256) : rnN st k < 256 ^ k := by
  unfold rnN
  split
  · exact Nat.pow_pos (by decide)
  · have h1 := bev_lt (ws := st.1.take k) fun x hx => h x (List.mem_of_mem_take hx)
    exact Nat.lt_of_lt_of_le h1 (Nat.pow_le_pow_right (by decide) (List.length_take_le _ _))
def rbN (st : Rst) (most : Nat) : List Nat :=
  if (rnS st 4).2 || decide (rnN st 4 > most) || decide (rnN st 4 > (rnS st 4).1.length) then [] else (rnS st 4).1.take (rnN st 4)
def rbS (st : Rst) (most : Nat) : Rst :=
  if (rnS st 4).2 || decide (rnN st 4 > most) || decide (rnN st 4 > (rnS st 4).1.length) then ((rnS st 4).1, true) else ((rnS st 4).1.drop (rnN st 4), false)
theorem rb_bad {st : Rst} {most : Nat} (h : (rnS st 4).2 = true ∨ rnN st 4 > most ∨ rnN st 4 > (rnS st 4).1.length) : rbN st most = [] ∧ rbS st most = ((rnS st 4).1, true) := by
  have e : ((rnS st 4).2 || decide (rnN st 4 > most) || decide (rnN st 4 > (rnS st 4).1.length)) = true := by
    rcases h with h | h | h
    · rw [h]; rfl
    · rw [decide_eq_true h]; simp
    · rw [decide_eq_true h]; simp
  unfold rbN rbS
  rw [if_pos e, if_pos e]; exact ⟨rfl, rfl⟩
theorem rb_ok {st : Rst} {most : Nat} (h : (rnS st 4).2 = false) (h2 : rnN st 4 ≤ most) (h3 : rnN st 4 ≤ (rnS st 4).1.length) : rbN st most = (rnS st 4).1.take (rnN st 4) ∧ rbS st most = ((rnS st 4).1.drop (rnN st 4), false) := by
  have e : ¬ ((rnS st 4).2 || decide (rnN st 4 > most) || decide (rnN st 4 > (rnS st 4).1.length)) = true := by
    rw [h, decide_eq_false (by omega), decide_eq_false (by omega)]; decide
  unfold rbN rbS
  rw [if_neg e, if_neg e]; exact ⟨rfl, rfl⟩
theorem or_byte {n b : Nat} (hb : b < 256) (hn : n * 256 < 18446744073709551616) : (n * 256 % 18446744073709551616 ||| b) = n * 256 + b := by
  rw [Nat.mod_eq_of_lt hn, Nat.mul_comm]
  exact (Nat.two_pow_add_eq_or_of_lt (i := 8) hb n).symm
/-- A reader that read all, without a fault. -/
def rEnd (st : Rst) : Bool := !st.2 && decide (st.1.length = 0)
theorem cmp_nil (n : Nat) : arith .eql .i64 (n : Int) 0 = some (.bool (decide (n = 0))) := by
  by_cases h : n = 0
  · rw [decide_eq_true h]; exact eqT (by omega)
  · rw [decide_eq_false h]; exact eqF (by omega)
theorem bev_take {ws : List Nat} {j : Nat} (h : j < ws.length) : bev (ws.take (j + 1)) = bev (ws.take j) * 256 + ws.getD j 0 := by
  rw [List.take_add_one, List.getElem?_eq_getElem h, List.getD_eq_getElem?_getD, List.getElem?_eq_getElem h]
  exact bev_snoc _ _

set_option maxRecDepth 100000 in
theorem wread_spec (p : Value) (w : List Nat) (R A : Mem) (hp : By R p w) : FnX Tryz.prog 64 [p] [] A fun q M J => ∃ rb, q = .pointer (some ⟨rb, 0, none⟩) ∧ Rdr rb (w, false) R M := by
  haveI := hp.cel
  refine FnX.enterZ (N := 6) Tryz.func64 rfl rfl rfl fun w_ => ?_
  refine XC.keep (kp 0 rfl kn) ?_
  refine XC.reg ?_
  refine XL.q (q_assign rfl) rfl ?_
  refine XL.fin (kp 0 rfl kn) ?_
  refine XC.reg ?_
  refine XL.q (q_move rfl) rfl ?_
  refine XL.q (q_build (place := fun x => #[(0, 1), (1, 1)][x]?) (z := [.slice none 0 0, .bool false]) (fun _ => by kernel_rfl) (eS rfl e0) (bdS 0 1 rfl (by rfl) bd0)) rfl ?_
  refine XL.lo rfl (l_box rfl (by first | exact Cel.cel | rfl) rfl fun b5 => ?_)
  refine XL.q (q_assign rfl) rfl ?_
  refine XL.fin (kp 2 rfl kn) ?_
  refine XC.ret ?_
  exact ⟨_, [(b5, _)], [], res1 rfl rfl, Fit.none (Fit.last PickC.perm), b5, rfl, ⟨p, rfl, hp⟩⟩

set_option maxRecDepth 100000 in
theorem spoil_spec (rb : Nat) (st : Rst) (R M A : Mem) (hR : Rdr rb st R M) : FnX Tryz.prog 97 [.pointer (some ⟨rb, 0, none⟩)] M A fun q M J => Rdr rb (st.1, true) R M := by
  obtain ⟨v, rfl, hby⟩ := hR.ex
  haveI := hby.cel
  have hbl := hby.len
  refine FnX.enterZ (N := 7) Tryz.func97 rfl rfl rfl fun w_ => ?_
  refine XC.keep (kp 0 rfl kn) ?_
  refine XC.reg ?_
  refine XL.q (q_move rfl) rfl ?_
  refine XL.q (q_ptrNeNil (e := 147) rfl rfl (by kernel_rfl)) rfl ?_
  refine XL.fin (kp 0 rfl (kp 3 rfl kn)) ?_
  refine XC.condT rfl ?_
  refine XC.reg1 ?_
  refine XL.q (q_move rfl) rfl ?_
  refine XL.q (q_nil rfl) rfl ?_
  refine XL.q (q_fieldAddrN 1 (off := 1) rfl (by kernel_rfl) rfl) rfl ?_
  refine XL.lo rfl (l_store rfl rfl rfl (by kernel_rfl) SetC.set UpC.upd ?_)
  refine XL.nil ?_
  exact ⟨_, _, [], res0 rfl, Fit.none (Fit.last PickC.perm), ⟨v, rfl, hby⟩⟩

set_option maxRecDepth 100000 in
theorem rnum_spec (rb k : Nat) (st : Rst) (R M A : Mem) (hR : Rdr rb st R M) (hs : ∀ x, x ∈ R → x ∈ A) (hk : k ≤ 8) : FnX Tryz.prog 65 [.pointer (some ⟨rb, 0, none⟩), .int .i64 ((k : Nat) : Int)] M A fun q M J => q = .int .u64 ((rnN st k : Nat) : Int) ∧ Rdr rb (rnS st k) R M := by
  obtain ⟨v, rfl, hby⟩ := hR.ex
  haveI := hby.cel
  have hbl := hby.len
  refine FnX.enterZ (N := 62) Tryz.func65 rfl rfl rfl fun w_ => ?_
  refine XC.keep (kp 0 rfl (kp 1 rfl kn)) ?_
  refine XC.reg ?_
  refine XL.q (q_assign rfl) rfl ?_
  refine XL.fin (kp 0 rfl (kp 1 rfl kn)) ?_
  refine XC.seq ?_
  refine XC.reg ?_
  refine XL.q (q_move rfl) rfl ?_
  refine XL.q (q_ptrEqNil (e := 147) rfl rfl (by kernel_rfl)) rfl ?_
  refine XL.q (q_move rfl) rfl ?_
  refine XL.gy rfl rfl (OpQ.opL (q_move rfl) rfl ?_)
  refine XL.gy rfl rfl (OpQ.opL (q_nil rfl) rfl ?_)
  refine XL.gy rfl rfl (OpQ.opL (q_fieldAddrN 1 (off := 1) rfl (by kernel_rfl) rfl) rfl ?_)
  refine XL.gy rfl rfl (OpQ.opL (q_load rfl (by kernel_rfl) (by first | exact At.mem | exact mA (by assumption)) (by rfl)) rfl ?_)
  refine XL.q (q_pickF rfl rfl) rfl ?_
  refine XL.q (q_move rfl) rfl ?_
  refine XL.split (t := 16) rfl (fun hb => ?_) (fun hb => ?_)
  ·
    have hbd : st.2 = true := hb
    refine XL.gn rfl rfl rfl rfl ?_
    refine XL.gn rfl rfl rfl rfl ?_
    refine XL.q (q_pickT rfl rfl) rfl ?_
    refine XL.q (q_move rfl) rfl ?_
    refine XL.gn rfl rfl rfl rfl ?_
    refine XL.gn rfl rfl rfl rfl ?_
    refine XL.q (q_pickT rfl rfl) rfl ?_
    refine XL.q (q_move rfl) rfl ?_
    refine XL.gn rfl rfl rfl rfl ?_
    refine XL.gn rfl rfl rfl rfl ?_
    refine XL.gn rfl rfl rfl rfl ?_
    refine XL.gn rfl rfl rfl rfl ?_
    refine XL.gn rfl rfl rfl rfl ?_
    refine XL.gn rfl rfl rfl rfl ?_
    refine XL.gn rfl rfl rfl rfl ?_
    refine XL.q (q_pickT rfl rfl) rfl ?_
    refine XL.fin (kp 0 rfl (kp 1 rfl (kp 32 rfl kn))) ?_
    refine XC.condT rfl ?_
    refine XC.reg ?_
    refine XL.q (q_move rfl) rfl ?_
    refine XL.lo rfl (l_call (Mc := [(rb, blk [v, .bool st.2] 147)]) (R := _) (aS rfl a0) (by kernel_rfl) PickC.perm (spoil_spec rb (st.1, st.2) R _ _ ⟨v, rfl, hby⟩) rfl ?_)
    rintro v34 M34 J34 hR34
    refine XL.fin kn ?_
    refine XC.reg ?_
    refine XL.q (q_assign rfl) rfl ?_
    refine XL.fin (kp 4 rfl kn) ?_
    refine XC.ret ?_
    refine tr ?_
    exact ⟨_, M34, [], res1 rfl rfl, Fit.none (Fit.last PickC.perm), by rw [(rn_bad (.inl hbd)).1]; rfl, by rw [(rn_bad (.inl hbd)).2]; exact hR34⟩
  ·
    have hbd : st.2 = false := hb
    refine XL.gy rfl rfl (OpQ.opL (q_move rfl) rfl ?_)
    refine XL.gy rfl rfl (OpQ.opL (q_cmp false rfl rfl (ltF (by omega))) rfl ?_)
    refine XL.q (q_pickF rfl rfl) rfl ?_
    refine XL.q (q_move rfl) rfl ?_
    refine XL.gy rfl rfl (OpQ.opL (q_move rfl) rfl ?_)
    refine XL.gy rfl rfl (OpQ.opL (q_cmp false rfl rfl (gtF (by omega))) rfl ?_)
    refine XL.q (q_pickF rfl rfl) rfl ?_
    refine XL.q (q_move rfl) rfl ?_
    refine XL.gy rfl rfl (OpQ.opL (q_move rfl) rfl ?_)
    refine XL.gy rfl rfl (OpQ.opL (q_nil rfl) rfl ?_)
    refine XL.gy rfl rfl (OpQ.opL (q_fieldAddrN 0 (off := 0) rfl (by kernel_rfl) rfl) rfl ?_)
    refine XL.gy rfl rfl (OpQ.opL (q_load rfl (by kernel_rfl) (by first | exact At.mem | exact mA (by assumption)) (by rfl)) rfl ?_)
    refine XL.gy rfl rfl (OpQ.opL (q_lenV2 (sz := 1) rfl (by kernel_rfl) hby.rd) rfl ?_)
    refine XL.gy rfl rfl (OpQ.opL (q_move rfl) rfl ?_)
    refine XL.gy rfl rfl (OpQ.opL (q_bin rfl rfl rfl) rfl ?_)
    refine XL.q (q_pickF rfl rfl) rfl ?_
    refine XL.fin (kp 0 rfl (kp 1 rfl (kp 32 rfl kn))) ?_
    refine XC.cond rfl (fun hc => ?_) (fun hc => ?_)
    ·
      have hsh : st.1.length < k := by simp at hc; omega
      refine XC.reg ?_
      refine XL.q (q_move rfl) rfl ?_
      refine XL.lo rfl (l_call (Mc := [(rb, blk [v, .bool st.2] 147)]) (R := _) (aS rfl a0) (by kernel_rfl) PickC.perm (spoil_spec rb (st.1, st.2) R _ _ ⟨v, rfl, hby⟩) rfl ?_)
      rintro v34 M34 J34 hR34
      refine XL.fin kn ?_
      refine XC.reg ?_
      refine XL.q (q_assign rfl) rfl ?_
      refine XL.fin (kp 4 rfl kn) ?_
      refine XC.ret ?_
      refine tr ?_
      exact ⟨_, M34, [], res1 rfl rfl, Fit.none (Fit.last PickC.perm), by rw [(rn_bad (.inr hsh)).1]; rfl, by rw [(rn_bad (.inr hsh)).2]; exact hR34⟩
    ·
      have hsh : k ≤ st.1.length := by simp at hc; omega
      obtain ⟨hr1, hr2⟩ := rn_ok hbd hsh
      have hby2 := by_pre hby hsh
      haveI := hby2.cel
      have hl2 : (st.1.take k).length = k := by rw [List.length_take]; omega
      refine XC.skip ?_
      refine nx (kp 0 rfl (kp 1 rfl kn)) ?_
      refine XC.reg ?_
      refine XL.q (q_assign rfl) rfl ?_
      refine XL.fin (kp 0 rfl (kp 1 rfl (kp 5 rfl kn))) ?_
      refine XC.seq ?_
      refine XC.reg ?_
      refine XL.q (q_move rfl) rfl ?_
      refine XL.q (q_nil rfl) rfl ?_
      refine XL.q (q_fieldAddrN 0 (off := 0) rfl (by kernel_rfl) rfl) rfl ?_
      refine XL.q (q_load rfl (by kernel_rfl) (by first | exact At.mem | exact mA (by assumption)) (by rfl)) rfl ?_
      refine XL.q (q_move rfl) rfl ?_
      refine XL.q (q_hiV2 (sz := 1) (a := k) rfl rfl (by kernel_rfl) rfl hby.rd hsh) rfl ?_
      refine XL.q (q_lenV2 (sz := 1) rfl (by kernel_rfl) hby2.rd) rfl ?_
      refine XL.q (q_move rfl) rfl ?_
      refine XL.fin (kp 0 rfl (kp 1 rfl (kp 5 rfl (kp 40 rfl (kp 41 rfl (kp 42 rfl kn)))))) ?_
      refine XC.block ?_
      rw [hl2]
      refine XC.loop (α := Nat) (fun x => [(0, .pointer (some ⟨rb, 0, none⟩)), (1, .int .i64 ((k : Nat) : Int)), (5, .int .u64 ((bev ((st.1.take k).take x) : Nat) : Int)), (40, vHi k v), (41, .int .i64 ((k : Nat) : Int)), (42, .int .i64 ((x : Nat) : Int))]) (fun _ => [(rb, blk [v, .bool st.2] 147)]) (fun _ => []) (fun x => x ≤ k) (fun x => k - x) 0 (Nat.zero_le _) (kp 0 rfl (kp 1 rfl (kp 5 rfl (kp 40 rfl (kp 41 rfl (kp 42 rfl kn)))))) .rfl (fun _ h => h) ?_
      rintro j hj
      refine XC.reg ?_
      refine XL.q (q_bin rfl rfl rfl) rfl ?_
      refine XL.fin (kp 0 rfl (kp 1 rfl (kp 5 rfl (kp 40 rfl (kp 41 rfl (kp 42 rfl (kp 43 rfl kn))))))) ?_
      refine XC.seq ?_
      refine XC.cond rfl (fun hc => ?_) (fun hc => ?_)
      ·
        have hlt : j < k := by simp at hc; omega
        have hbt := bev_take (ws := st.1.take k) (j := j) (by omega)
        have hb0 : (st.1.take k).getD j 0 < 256 := by rw [List.getD_eq_getElem?_getD, List.getElem?_eq_getElem (by omega)]; exact hby2.lt _ (List.getElem_mem _)
        have hbv := bev_lt (ws := (st.1.take k).take j) fun x hx => hby2.lt x (List.mem_of_mem_take hx)
        rw [List.length_take, Nat.min_eq_left (by omega)] at hbv
        replace hbv := Nat.lt_of_lt_of_le hbv (Nat.pow_le_pow_right (by decide) (show j ≤ 7 by omega))
        rw [show 256 ^ 7 = 72057594037927936 from rfl] at hbv
        generalize bev ((st.1.take k).take j) = n at *
        generalize hbb : (st.1.take k).getD j 0 = b at *
        refine XC.skip ?_
        refine nx (kp 0 rfl (kp 1 rfl (kp 5 rfl (kp 40 rfl (kp 41 rfl (kp 42 rfl kn)))))) ?_
        refine XC.seq ?_
        refine XC.block ?_
        refine XC.reg ?_
        refine XL.q (q_atV2 (sz := 1) rfl rfl (by kernel_rfl) rfl hby2.rd (by omega)) rfl ?_
        refine XL.q (q_ldV (j := j) (u := .int .u8 ((b : Nat) : Int)) (hby2.rd.mono fun x hx => SubC.sub _ (hs x hx)) rfl (by kernel_rfl) (by rw [← hbb]; unfold nums; rw [List.getElem?_map, List.getElem?_eq_getElem (by omega), List.getD_eq_getElem?_getD, List.getElem?_eq_getElem (by omega)]; rfl)) rfl ?_
        refine XL.q (q_assign rfl) rfl ?_
        refine XL.fin (kp 0 rfl (kp 1 rfl (kp 5 rfl (kp 7 rfl (kp 40 rfl (kp 41 rfl (kp 42 rfl kn))))))) ?_
        refine XC.reg1 ?_
        refine XL.q (q_move rfl) rfl ?_
        refine XL.q (q_shlD 8 256 18446744073709551616 rfl rfl rfl rfl rfl rfl (by decide)) rfl ?_
        refine XL.q (q_move rfl) rfl ?_
        refine XL.q (q_to64 rfl (by kernel_rfl)) rfl ?_
        rw [Nat.mod_eq_of_lt (show b < 18446744073709551616 by omega)]
        refine XL.q (q_or rfl rfl rfl (by show _ < 18446744073709551616; exact Nat.mod_lt _ (by decide)) (by show _ < 18446744073709551616; omega)) rfl ?_
        rw [or_byte hb0 (by omega), ← hbt]
        refine XL.q (q_assign rfl) rfl ?_
        refine XL.nil ?_
        refine nb ?_
        refine nx (kp 0 rfl (kp 1 rfl (kp 5 rfl (kp 40 rfl (kp 41 rfl (kp 42 rfl kn)))))) ?_
        refine XC.reg1 ?_
        refine XL.q (q_addI (b := 1) rfl rfl rfl rfl (by omega)) rfl ?_
        refine XL.q (q_move rfl) rfl ?_
        refine XL.nil ?_
        exact rn (j + 1) (by omega) (by omega) (kp 0 rfl (kp 1 rfl (kp 5 rfl (kp 40 rfl (kp 41 rfl (kp 42 rfl kn)))))) .rfl (fun _ h => h)
      ·
        have hge : k = j := by simp at hc; omega
        subst hge
        rw [List.take_take, Nat.min_self]
        refine XC.exit ?_
        refine te ?_
        refine re ?_
        refine be rfl ?_
        refine nx (kp 0 rfl (kp 1 rfl (kp 5 rfl kn))) ?_
        refine XC.reg ?_
        refine XL.q (q_move rfl) rfl ?_
        refine XL.q (q_move rfl) rfl ?_
        refine XL.q (q_nil rfl) rfl ?_
        refine XL.q (q_fieldAddrN 0 (off := 0) rfl (by kernel_rfl) rfl) rfl ?_
        refine XL.q (q_load rfl (by kernel_rfl) (by first | exact At.mem | exact mA (by assumption)) (by rfl)) rfl ?_
        refine XL.q (q_move rfl) rfl ?_
        refine XL.q (q_loV2 (sz := 1) (a := k) rfl rfl (by kernel_rfl) rfl hby.rd hsh) rfl ?_
        have hby3 := by_suf hby hsh
        haveI := hby3.cel
        have hy1 := hby3.one
        refine XL.q (q_nil rfl) rfl ?_
        refine XL.q (q_fieldAddrN 0 (off := 0) rfl (by kernel_rfl) rfl) rfl ?_
        refine XL.lo rfl (l_store rfl rfl hy1 (by kernel_rfl) SetC.set UpC.upd ?_)
        refine XL.fin (kp 5 rfl kn) ?_
        refine XC.reg ?_
        refine XL.q (q_move rfl) rfl ?_
        refine XL.q (q_assign rfl) rfl ?_
        refine XL.fin (kp 4 rfl kn) ?_
        refine XC.ret ?_
        exact ⟨_, [(rb, blk [vLo k 1 v, .bool st.2] 147)], [], res1 rfl rfl, Fit.none (Fit.last PickC.perm), by rw [hr1], by rw [hr2]; exact ⟨_, by rw [hbd], hby3⟩⟩

set_option maxRecDepth 100000 in
theorem rbytes_spec (rb most : Nat) (st : Rst) (R M A : Mem) (hR : Rdr rb st R M) (hs : ∀ x, x ∈ R → x ∈ A) (hm : most ≤ 1000000) : FnX Tryz.prog 66 [.pointer (some ⟨rb, 0, none⟩), .int .i64 ((most : Nat) : Int)] M A fun q M J => By J q (rbN st most) ∧ Rdr rb (rbS st most) R M := by
  obtain ⟨v, rfl, hby⟩ := hR.ex
  haveI := hby.cel
  have hbl := hby.len
  refine FnX.enterZ (N := 56) Tryz.func66 rfl rfl rfl fun w_ => ?_
  refine XC.keep (kp 0 rfl (kp 1 rfl kn)) ?_
  refine XC.reg ?_
  refine XL.q (q_assign rfl) rfl ?_
  refine XL.fin (kp 0 rfl (kp 1 rfl kn)) ?_
  refine XC.reg ?_
  refine XL.q (q_move rfl) rfl ?_
  refine XL.lo rfl (l_call (Mc := [(rb, blk [v, .bool st.2] 147)]) (R := _) (aS rfl (aS rfl a0)) (by kernel_rfl) PickC.perm (rnum_spec rb 4 st R _ _ ⟨v, rfl, hby⟩ (fun x hx => SubC.sub _ (hs x hx)) (by decide)) rfl ?_)
  rintro v8 M8 J8 ⟨rfl, hR8⟩
  have hn8 := rnN_lt st 4 hby.lt
  rw [show 256 ^ 4 = 4294967296 from rfl] at hn8
  have hb8 := @rb_bad st most
  have hk8 := @rb_ok st most
  unfold Rst at *
  generalize rnN st 4 = n at *
  generalize rnS st 4 = s1 at *
  obtain ⟨w, rfl, hbw⟩ := hR8.ex
  haveI := hbw.cel
  have hwl := hbw.len
  refine XL.q (q_assign rfl) rfl ?_
  refine XL.fin (kp 0 rfl (kp 1 rfl (kp 5 rfl kn))) ?_
  refine XC.seq ?_
  refine XC.reg ?_
  refine XL.q (q_move rfl) rfl ?_
  refine XL.q (q_ptrEqNil (e := 147) rfl rfl (by kernel_rfl)) rfl ?_
  refine XL.q (q_move rfl) rfl ?_
  refine XL.gy rfl rfl (OpQ.opL (q_move rfl) rfl ?_)
  refine XL.gy rfl rfl (OpQ.opL (q_nil rfl) rfl ?_)
  refine XL.gy rfl rfl (OpQ.opL (q_fieldAddrN 1 (off := 1) rfl (by kernel_rfl) rfl) rfl ?_)
  refine XL.gy rfl rfl (OpQ.opL (q_load rfl (by kernel_rfl) (by first | exact At.mem | exact mA (by assumption)) (by rfl)) rfl ?_)
  refine XL.q (q_pickF rfl rfl) rfl ?_
  refine XL.q (q_move rfl) rfl ?_
  refine XL.split (t := 17) rfl (fun hb => ?_) (fun hb => ?_)
  ·
    have hbd : s1.2 = true := hb
    refine XL.gn rfl rfl rfl rfl ?_
    refine XL.gn rfl rfl rfl rfl ?_
    refine XL.q (q_pickT rfl rfl) rfl ?_
    refine XL.q (q_move rfl) rfl ?_
    refine XL.gn rfl rfl rfl rfl ?_
    refine XL.gn rfl rfl rfl rfl ?_
    refine XL.gn rfl rfl rfl rfl ?_
    refine XL.gn rfl rfl rfl rfl ?_
    refine XL.q (q_pickT rfl rfl) rfl ?_
    refine XL.q (q_move rfl) rfl ?_
    refine XL.gn rfl rfl rfl rfl ?_
    refine XL.gn rfl rfl rfl rfl ?_
    refine XL.gn rfl rfl rfl rfl ?_
    refine XL.gn rfl rfl rfl rfl ?_
    refine XL.gn rfl rfl rfl rfl ?_
    refine XL.gn rfl rfl rfl rfl ?_
    refine XL.gn rfl rfl rfl rfl ?_
    refine XL.gn rfl rfl rfl rfl ?_
    refine XL.q (q_pickT rfl rfl) rfl ?_
    refine XL.fin (kp 0 rfl (kp 5 rfl (kp 36 rfl kn))) ?_
    refine XC.condT rfl ?_
    refine XC.reg ?_
    refine XL.q (q_move rfl) rfl ?_
    refine XL.lo rfl (l_call (Mc := [(rb, blk [w, .bool s1.2] 147)]) (R := _) (aS rfl a0) (by kernel_rfl) PickC.perm (spoil_spec rb s1 R _ _ ⟨w, rfl, hbw⟩) rfl ?_)
    rintro v38 M38 J38 hR38
    refine XL.fin kn ?_
    refine XC.reg ?_
    refine XL.q (q_assign rfl) rfl ?_
    refine XL.fin (kp 4 rfl kn) ?_
    refine XC.ret ?_
    refine tr ?_
    exact ⟨_, M38, [], res1 rfl rfl, Fit.none (Fit.last PickC.perm), by rw [(hb8 (.inl hbd)).1]; exact By.nil, by rw [(hb8 (.inl hbd)).2]; exact hR38⟩
  ·
    have hbd : s1.2 = false := hb
    refine XL.gy rfl rfl (OpQ.opL (q_move rfl) rfl ?_)
    refine XL.gy rfl rfl (OpQ.opL (q_cmp false rfl rfl (ltF (by omega))) rfl ?_)
    refine XL.q (q_pickF rfl rfl) rfl ?_
    refine XL.q (q_move rfl) rfl ?_
    refine XL.gy rfl rfl (OpQ.opL (q_move rfl) rfl ?_)
    refine XL.gy rfl rfl (OpQ.opL (q_move rfl) rfl ?_)
    refine XL.gy rfl rfl (OpQ.opL (q_to64 rfl (by kernel_rfl)) rfl ?_)
    rw [Nat.mod_eq_of_lt (show most < 18446744073709551616 by omega)]
    refine XL.gy rfl rfl (OpQ.opL (q_bin rfl rfl rfl) rfl ?_)
    refine XL.q (q_pickF rfl rfl) rfl ?_
    refine XL.q (q_move rfl) rfl ?_
    refine XL.split (t := 27) rfl (fun hb => ?_) (fun hb => ?_)
    ·
      have hgm : n > most := by simp at hb; omega
      refine XL.gn rfl rfl rfl rfl ?_
      refine XL.gn rfl rfl rfl rfl ?_
      refine XL.gn rfl rfl rfl rfl ?_
      refine XL.gn rfl rfl rfl rfl ?_
      refine XL.gn rfl rfl rfl rfl ?_
      refine XL.gn rfl rfl rfl rfl ?_
      refine XL.gn rfl rfl rfl rfl ?_
      refine XL.gn rfl rfl rfl rfl ?_
      refine XL.q (q_pickT rfl rfl) rfl ?_
      refine XL.fin (kp 0 rfl (kp 5 rfl (kp 36 rfl kn))) ?_
      refine XC.condT rfl ?_
      refine XC.reg ?_
      refine XL.q (q_move rfl) rfl ?_
      refine XL.lo rfl (l_call (Mc := [(rb, blk [w, .bool s1.2] 147)]) (R := _) (aS rfl a0) (by kernel_rfl) PickC.perm (spoil_spec rb s1 R _ _ ⟨w, rfl, hbw⟩) rfl ?_)
      rintro v38 M38 J38 hR38
      refine XL.fin kn ?_
      refine XC.reg ?_
      refine XL.q (q_assign rfl) rfl ?_
      refine XL.fin (kp 4 rfl kn) ?_
      refine XC.ret ?_
      refine tr ?_
      exact ⟨_, M38, [], res1 rfl rfl, Fit.none (Fit.last PickC.perm), by rw [(hb8 (.inr (.inl hgm))).1]; exact By.nil, by rw [(hb8 (.inr (.inl hgm))).2]; exact hR38⟩
    ·
      have hgm : n ≤ most := by simp at hb; omega
      refine XL.gy rfl rfl (OpQ.opL (q_move rfl) rfl ?_)
      refine XL.gy rfl rfl (OpQ.opL (q_move rfl) rfl ?_)
      refine XL.gy rfl rfl (OpQ.opL (q_nil rfl) rfl ?_)
      refine XL.gy rfl rfl (OpQ.opL (q_fieldAddrN 0 (off := 0) rfl (by kernel_rfl) rfl) rfl ?_)
      refine XL.gy rfl rfl (OpQ.opL (q_load rfl (by kernel_rfl) (by first | exact At.mem | exact mA (by assumption)) (by rfl)) rfl ?_)
      refine XL.gy rfl rfl (OpQ.opL (q_lenV2 (sz := 1) rfl (by kernel_rfl) hbw.rd) rfl ?_)
      refine XL.gy rfl rfl (OpQ.opL (q_to64 rfl (by kernel_rfl)) rfl ?_)
      rw [Nat.mod_eq_of_lt (show s1.1.length < 18446744073709551616 by omega)]
      refine XL.gy rfl rfl (OpQ.opL (q_bin rfl rfl rfl) rfl ?_)
      refine XL.q (q_pickF rfl rfl) rfl ?_
      refine XL.fin (kp 0 rfl (kp 5 rfl (kp 36 rfl kn))) ?_
      refine XC.cond rfl (fun hc => ?_) (fun hc => ?_)
      ·
        have hgl : n > s1.1.length := by simp at hc; omega
        refine XC.reg ?_
        refine XL.q (q_move rfl) rfl ?_
        refine XL.lo rfl (l_call (Mc := [(rb, blk [w, .bool s1.2] 147)]) (R := _) (aS rfl a0) (by kernel_rfl) PickC.perm (spoil_spec rb s1 R _ _ ⟨w, rfl, hbw⟩) rfl ?_)
        rintro v38 M38 J38 hR38
        refine XL.fin kn ?_
        refine XC.reg ?_
        refine XL.q (q_assign rfl) rfl ?_
        refine XL.fin (kp 4 rfl kn) ?_
        refine XC.ret ?_
        refine tr ?_
        exact ⟨_, M38, [], res1 rfl rfl, Fit.none (Fit.last PickC.perm), by rw [(hb8 (.inr (.inr hgl))).1]; exact By.nil, by rw [(hb8 (.inr (.inr hgl))).2]; exact hR38⟩
      ·
        have hgl : n ≤ s1.1.length := by simp at hc; omega
        obtain ⟨hr1, hr2⟩ := hk8 hbd hgm hgl
        have hby2 := by_pre hbw hgl
        haveI := hby2.cel
        have hby3 := by_suf hbw hgl
        haveI := hby3.cel
        have hy1 := hby3.one
        have hl2 : (s1.1.take n).length = n := by rw [List.length_take]; omega
        refine XC.skip ?_
        refine nx (kp 0 rfl (kp 5 rfl kn)) ?_
        refine XC.reg ?_
        refine XL.q (q_move rfl) rfl ?_
        refine XL.q (q_nil rfl) rfl ?_
        refine XL.q (q_fieldAddrN 0 (off := 0) rfl (by kernel_rfl) rfl) rfl ?_
        refine XL.q (q_load rfl (by kernel_rfl) (by first | exact At.mem | exact mA (by assumption)) (by rfl)) rfl ?_
        refine XL.q (q_move rfl) rfl ?_
        refine XL.q (q_hiV2 (sz := 1) (a := n) rfl rfl (by kernel_rfl) rfl hbw.rd hgl) rfl ?_
        refine XL.lo rfl (l_append2 (e := 5) (sz := 1) (by_ := 1) rfl rfl (by kernel_rfl) rfl Sl.nil (hby2.rd.mono fun x hx => SubC.sub _ (hs x hx)) nums_one PickC.perm (by unfold maxLen; omega) (by omega) rfl fun v45 B45 hs45 => ?_)
        haveI := hs45.cel
        refine XL.q (q_assign rfl) rfl ?_
        refine XL.fin (kp 0 rfl (kp 5 rfl (kp 6 rfl kn))) ?_
        refine XC.reg ?_
        refine XL.q (q_move rfl) rfl ?_
        refine XL.q (q_move rfl) rfl ?_
        refine XL.q (q_nil rfl) rfl ?_
        refine XL.q (q_fieldAddrN 0 (off := 0) rfl (by kernel_rfl) rfl) rfl ?_
        refine XL.q (q_load rfl (by kernel_rfl) (by first | exact At.mem | exact mA (by assumption)) (by rfl)) rfl ?_
        refine XL.q (q_move rfl) rfl ?_
        refine XL.q (q_loV2 (sz := 1) (a := n) rfl rfl (by kernel_rfl) rfl hbw.rd hgl) rfl ?_
        refine XL.q (q_nil rfl) rfl ?_
        refine XL.q (q_fieldAddrN 0 (off := 0) rfl (by kernel_rfl) rfl) rfl ?_
        refine XL.lo rfl (l_store rfl rfl hy1 (by kernel_rfl) SetC.set UpC.upd ?_)
        refine XL.fin (kp 6 rfl kn) ?_
        refine XC.reg ?_
        refine XL.q (q_move rfl) rfl ?_
        refine XL.q (q_assign rfl) rfl ?_
        refine XL.fin (kp 4 rfl kn) ?_
        refine XC.ret ?_
        refine ⟨_, [(rb, blk [vLo n 1 w, .bool s1.2] 147)], B45, res1 rfl rfl, Fit.pick PickC.perm (Fit.last PickC.perm), ?_, ?_⟩
        · rw [hr1]
          exact ⟨by simpa using hs45.rd (R := B45 ++ J8) SubC.sub, hby2.lt, hby2.len⟩
        · rw [hr2]
          exact ⟨_, by rw [hbd], hby3⟩

theorem Rdr.rd {rb : Nat} {st : Rst} {R M A : Mem} (h : Rdr rb st R M) (hs : ∀ x, x ∈ M → x ∈ A) : ∃ v, (rb, blk [v, .bool st.2] 147) ∈ A ∧ By R v st.1 := by
  obtain ⟨v, rfl, h2⟩ := h.ex
  exact ⟨v, hs _ (by simp), h2⟩

set_option maxRecDepth 100000 in
theorem rbad_spec (rb : Nat) (st : Rst) (R A : Mem) (hR : ∃ v, (rb, blk [v, .bool st.2] 147) ∈ A ∧ By R v st.1) : FnV Tryz.prog 98 [.pointer (some ⟨rb, 0, none⟩)] A (.bool st.2) := by
  obtain ⟨v, hrb, hby⟩ := hR
  haveI := hby.cel
  refine FnX.enter (N := 11) Tryz.func98 rfl rfl rfl fun w => ?_
  refine XC.keep (kp 0 rfl kn) ?_
  refine XC.reg ?_
  refine XL.q (q_assign rfl) rfl ?_
  refine XL.fin (kp 0 rfl kn) ?_
  refine XC.reg ?_
  refine XL.q (q_move rfl) rfl ?_
  refine XL.q (q_ptrEqNil (e := 147) rfl rfl (by kernel_rfl)) rfl ?_
  refine XL.q (q_move rfl) rfl ?_
  refine XL.gy rfl rfl (OpQ.opL (q_move rfl) rfl ?_)
  refine XL.gy rfl rfl (OpQ.opL (q_nil rfl) rfl ?_)
  refine XL.gy rfl rfl (OpQ.opL (q_fieldAddrN 1 (off := 1) rfl (by kernel_rfl) rfl) rfl ?_)
  refine XL.gy rfl rfl (OpQ.opL (q_load rfl (by kernel_rfl) (mA hrb) (by rfl)) rfl ?_)
  refine XL.q (q_pickF rfl rfl) rfl ?_
  refine XL.q (q_assign rfl) rfl ?_
  refine XL.fin (kp 2 rfl kn) ?_
  refine XC.ret ?_
  exact ⟨_, [], [], res1 rfl rfl, List.nil_sublist _, by simp, rfl, rfl, rfl⟩

set_option maxRecDepth 100000 in
theorem rend_spec (rb : Nat) (st : Rst) (R A : Mem) (hR : ∃ v, (rb, blk [v, .bool st.2] 147) ∈ A ∧ By R v st.1) : FnV Tryz.prog 67 [.pointer (some ⟨rb, 0, none⟩)] A (.bool (rEnd st)) := by
  obtain ⟨v, hrb, hby⟩ := hR
  haveI := hby.cel
  refine FnX.enter (N := 14) Tryz.func67 rfl rfl rfl fun w => ?_
  refine XC.keep (kp 0 rfl kn) ?_
  refine XC.reg ?_
  refine XL.q (q_assign rfl) rfl ?_
  refine XL.fin (kp 0 rfl kn) ?_
  refine XC.reg ?_
  refine XL.q (q_move rfl) rfl ?_
  refine XL.callV (aS rfl a0) (by kernel_rfl) (rbad_spec rb st R _ ⟨v, SubC.sub _ hrb, hby⟩) rfl ?_
  refine XL.q (q_not rfl) rfl ?_
  refine XL.q (q_move rfl) rfl ?_
  refine XL.split (t := 6) rfl (fun hb => ?_) (fun hb => ?_)
  ·
    have hb1 := hb
    refine XL.gy rfl rfl (OpQ.opL (q_move rfl) rfl ?_)
    refine XL.gy rfl rfl (OpQ.opL (q_nil rfl) rfl ?_)
    refine XL.gy rfl rfl (OpQ.opL (q_fieldAddrN 0 (off := 0) rfl (by kernel_rfl) rfl) rfl ?_)
    refine XL.gy rfl rfl (OpQ.opL (q_load rfl (by kernel_rfl) (mA hrb) (by rfl)) rfl ?_)
    refine XL.gy rfl rfl (OpQ.opL (q_lenV2 (sz := 1) rfl (by kernel_rfl) hby.rd) rfl ?_)
    refine XL.gy rfl rfl (OpQ.opL (q_cmp (decide (st.1.length = 0)) rfl rfl (cmp_nil _)) rfl ?_)
    refine XL.q (q_pickT rfl rfl) rfl ?_
    refine XL.q (q_assign rfl) rfl ?_
    refine XL.fin (kp 2 rfl kn) ?_
    refine XC.ret ?_
    exact ⟨_, [], [], res1 rfl rfl, List.nil_sublist _, by simp, by unfold rEnd; rw [hb1]; rfl, rfl, rfl⟩
  ·
    have hb1 := hb
    refine XL.gn rfl rfl rfl rfl ?_
    refine XL.gn rfl rfl rfl rfl ?_
    refine XL.gn rfl rfl rfl rfl ?_
    refine XL.gn rfl rfl rfl rfl ?_
    refine XL.gn rfl rfl rfl rfl ?_
    refine XL.gn rfl rfl rfl rfl ?_
    refine XL.q (q_pickF rfl rfl) rfl ?_
    refine XL.q (q_assign rfl) rfl ?_
    refine XL.fin (kp 2 rfl kn) ?_
    refine XC.ret ?_
    exact ⟨_, [], [], res1 rfl rfl, List.nil_sublist _, by simp, by unfold rEnd; rw [hb1]; rfl, rfl, rfl⟩

end Go.Proofs.YthmnlkpikgglbaaGreatDoor
/- The walks of package envelope: EncodeInner, DecodeInner. -/
set_option linter.unusedVariables false
set_option linter.unusedSimpArgs false
namespace Go.Proofs.YthmnlkpikgglbaaGreatDoor
open Go.Px
theorem wrapU64 {n : Nat} (h : n < 18446744073709551616) : IntKind.u64.wrap (n : Int) = (n : Int) := wrap_u64 (by omega) (by omega)
theorem wrapU32 {n : Nat} (h : n < 4294967296) : IntKind.u32.wrap (n : Int) = (n : Int) := wrap_u32 (by omega) (by omega)
def u32N (x : Int) : Nat := (x % 4294967296).toNat
theorem u32N_lt (x : Int) : u32N x < 4294967296 := by unfold u32N; omega
theorem u32N_wrap (x : Int) : IntKind.u32.wrap x = ((u32N x : Nat) : Int) := by
  unfold u32N IntKind.wrap
  simp [IntKind.signed, IntKind.bits]
  omega
/-- What is sealed, as bytes. -/
def encI (to : Int) (n : Nat) (w : List Nat) : List Nat := beN (u32N to) 4 ++ beN n 4 ++ (beN w.length 4 ++ w)
theorem encI_len (to : Int) (n : Nat) (w : List Nat) : (encI to n w).length = 12 + w.length := by simp [encI, beN_len]; omega
def di1 (p : List Nat) : Rst := rnS (p, false) 4
def di2 (p : List Nat) : Rst := rnS (di1 p) 4
def diT (p : List Nat) : List Nat := rbN (di2 p) 65536
def di3 (p : List Nat) : Rst := rbS (di2 p) 65536
def diA (p : List Nat) : Nat := rnN (p, false) 4
def diN (p : List Nat) : Nat := rnN (di1 p) 4
def diE (p : List Nat) : Nat := if !rEnd (di3 p) then 4 else if (diT p).length > 256 then 5 else 0
/-- A reader goes on. -/
theorem rn_app {n k : Nat} {r : List Nat} (h : n < 256 ^ k) : rnN (beN n k ++ r, false) k = n ∧ rnS (beN n k ++ r, false) k = (r, false) := by
  have hl := beN_len n k
  obtain ⟨h1, h2⟩ := rn_ok (st := (beN n k ++ r, false)) (k := k) rfl (by simp [hl])
  rw [h1, h2]
  refine ⟨?_, ?_⟩
  · show bev ((beN n k ++ r).take k) = n
    rw [List.take_left' hl]; exact bev_beN h
  · show ((beN n k ++ r).drop k, false) = _
    rw [List.drop_left' hl]
theorem rb_app {w r : List Nat} {most : Nat} (h : w.length ≤ most) (h2 : w.length < 4294967296) : rbN (beN w.length 4 ++ w ++ r, false) most = w ∧ rbS (beN w.length 4 ++ w ++ r, false) most = (r, false) := by
  have e : beN w.length 4 ++ w ++ r = beN w.length 4 ++ (w ++ r) := List.append_assoc _ _ _
  obtain ⟨h3, h4⟩ := rn_app (n := w.length) (k := 4) (r := w ++ r) h2
  rw [e]
  obtain ⟨h5, h6⟩ := rb_ok (st := (beN w.length 4 ++ (w ++ r), false)) (most := most) (by rw [h4]) (by rw [h3]; exact h) (by rw [h3, h4]; simp)
  rw [h5, h6, h3, h4]
  exact ⟨by simp, by simp⟩
theorem rb_app0 {w : List Nat} {most : Nat} (h : w.length ≤ most) (h2 : w.length < 4294967296) : rbN (beN w.length 4 ++ w, false) most = w ∧ rbS (beN w.length 4 ++ w, false) most = ([], false) := by
  have := rb_app (r := []) h h2
  rwa [List.append_nil] at this
/-- What was made is read again. -/
theorem dec_enc {to n : Nat} {w : List Nat} (ht : to < 4294967296) (hn : n < 4294967296) (hw : w.length ≤ 256) : diA (encI (to : Int) n w) = to ∧ diN (encI (to : Int) n w) = n ∧ diT (encI (to : Int) n w) = w ∧ diE (encI (to : Int) n w) = 0 := by
  have e : encI (to : Int) n w = beN to 4 ++ (beN n 4 ++ (beN w.length 4 ++ w)) := by
    unfold encI
    rw [List.append_assoc, show u32N (to : Int) = to by unfold u32N; omega]
  have h1 := rn_app (n := to) (k := 4) (r := beN n 4 ++ (beN w.length 4 ++ w)) ht
  have h2 := rn_app (n := n) (k := 4) (r := beN w.length 4 ++ w) hn
  have h3 := rb_app0 (w := w) (most := 65536) (by omega) (by omega)
  rw [e]
  unfold diE diT di3 diN di2 diA di1
  rw [h1.1, h1.2, h2.1, h2.2, h3.1, h3.2]
  refine ⟨rfl, rfl, rfl, ?_⟩
  rw [if_neg (by decide), if_neg (by omega)]

set_option maxRecDepth 100000 in
theorem einner_spec (to : Int) (n : Nat) (v : Value) (w : List Nat) (A : Mem) (hn : n < 4294967296) (hv : By A v w) (hw : w.length ≤ 1000000) : FnX Tryz.prog 26 [.agg #[.int .i64 to, .int .u32 ((n : Nat) : Int), v]] [] A fun q M J => M = [] ∧ By J q (encI to n w) := by
  haveI := hv.cel
  refine FnX.enterZ (N := 20) Tryz.func26 rfl rfl rfl fun w_ => ?_
  refine XC.keep (kp 0 rfl kn) ?_
  refine XC.reg ?_
  refine XL.lo rfl (l_box rfl (by first | exact Cel.cel | rfl) rfl fun b1 => ?_)
  refine XL.q (q_assign rfl) rfl ?_
  refine XL.fin (kp 1 rfl kn) ?_
  refine XC.reg ?_
  refine XL.q (q_build (place := fun x => #[(0, 1)][x]?) (z := [.slice none 0 0]) (fun _ => by kernel_rfl) e0 bd0) rfl ?_
  refine XL.lo rfl (l_box rfl (by first | exact Cel.cel | rfl) rfl fun b5 => ?_)
  refine XL.q (q_assign rfl) rfl ?_
  refine XL.fin (kp 1 rfl (kp 3 rfl kn)) ?_
  refine XC.drawK ([(b5, blk [.slice none 0 0] 101)]) (_) true [0, 1, 2, 3, 4, 5, 6, 7, 8, 9, 10, 11, 14] [(0, 0), (1, 0), (2, 1), (3, 0), (4, 0), (6, 0), (7, 1), (8, 0), (10, 0), (11, 1), (5, 2), (9, 2), (12, 2), (13, 2), (14, 0)] (by kernel_rfl) (by kernel_rfl) PickC.perm fun hs K n0 hKm hKs hKn => ?_
  refine XK.q hs rfl (q_move rfl) rfl ?_
  refine XK.q hs rfl (q_fieldAddrN 0 (off := 0) rfl (by kernel_rfl) rfl) rfl ?_
  refine XK.r hs rfl (fun x hx => by rw [List.append_assoc]; exact List.mem_append_right _ hx) hKs (q_load rfl (by kernel_rfl) (by first | exact At.mem | exact mA (by assumption)) (by rfl)) rfl ?_
  refine XK.q hs rfl (q_convR (k' := .u32) ((u32N to : Nat) : Int) rfl (by kernel_rfl) (u32N_wrap to)) rfl ?_
  refine XK.q hs rfl (q_convN (k' := .u64) (u32N to) rfl (by kernel_rfl) (wrapU64 (by have := u32N_lt to; omega))) rfl ?_
  refine XK.q hs rfl (q_fieldAddrN 1 (off := 1) rfl (by kernel_rfl) rfl) rfl ?_
  refine XK.r hs rfl (fun x hx => by rw [List.append_assoc]; exact List.mem_append_right _ hx) hKs (q_load rfl (by kernel_rfl) (by first | exact At.mem | exact mA (by assumption)) (by rfl)) rfl ?_
  refine XK.q hs rfl (q_convN (k' := .u64) n rfl (by kernel_rfl) (wrapU64 (by omega))) rfl ?_
  refine XK.q hs rfl (q_fieldAddrN 2 (off := 2) rfl (by kernel_rfl) rfl) rfl ?_
  refine XK.r hs rfl (fun x hx => by rw [List.append_assoc]; exact List.mem_append_right _ hx) hKs (q_load rfl (by kernel_rfl) (by first | exact At.mem | exact mA (by assumption)) (by rfl)) rfl ?_
  refine XK.lo _ _ rfl rfl (List.Perm.refl _) hKm fun w0 => (l_call (Mc := [(b5, blk [.slice none 0 0] 101)]) (R := _) (aS rfl (aS rfl (aS rfl a0))) (by kernel_rfl) PickC.perm (wnum_spec b5 (u32N to) 4 [] _ _ Wtr.new (by have := u32N_lt to; omega) (by decide) (by decide)) rfl ?_)
  rintro v11 M11 J11 ⟨rfl, hW11⟩ hKx
  refine XK.lo (M11 ++ []) _ rfl rfl PickC.perm (hKx (hKn rfl)) fun w0 => (l_call (Mc := M11) (R := _) (aS rfl (aS rfl (aS rfl a0))) (by kernel_rfl) PickC.perm (wnum_spec b5 n 4 _ _ _ hW11 (by omega) (by decide) (by simp [beN_len])) rfl ?_)
  rintro v15 M15 J15 ⟨rfl, hW15⟩ hKy
  refine XK.tl rfl rfl rfl (l_call (Mc := M15) (R := _) (aS rfl (aS rfl a0)) (by kernel_rfl) PickC.perm (wbytes_spec b5 v w _ _ _ hW15 (hv.mono SubC.sub) (by simp [beN_len])) rfl ?_)
  rintro v18 M18 J18 ⟨rfl, hW18⟩
  refine XK.tl rfl rfl rfl (l_call (Mc := M18) (R := _) (aS rfl a0) (by kernel_rfl) PickC.perm (wdone_spec b5 _ _ _ hW18 (by simp [beN_len]; omega)) rfl ?_)
  rintro v19 M19 J19 ⟨hW19, hb19⟩
  refine XK.q hs rfl (q_assign rfl) rfl ?_
  refine XK.fin (kp 2 rfl kn) ?_
  refine XC.ret ?_
  exact ⟨_, [], [], res1 rfl rfl, Fit.sub (List.nil_sublist _), rfl, by have := hb19.mono (R' := J19) (fun _ h => h); simpa [encI, List.append_assoc] using hb19.mono SubC.sub⟩

/-- The value of what is sealed. -/
abbrev inn (to : Int) (n : Nat) (v : Value) : Value := .agg #[.int .i64 to, .int .u32 ((n : Nat) : Int), v]
theorem diE_4 {p : List Nat} (h : rEnd (di3 p) = false) : diE p = 4 := by unfold diE; rw [h]; rfl
theorem diE_5 {p : List Nat} (h : rEnd (di3 p) = true) (hl : (diT p).length > 256) : diE p = 5 := by unfold diE; rw [h, if_neg (by decide), if_pos hl]
theorem diE_0 {p : List Nat} (h : rEnd (di3 p) = true) (hl : (diT p).length ≤ 256) : diE p = 0 := by unfold diE; rw [h, if_neg (by decide), if_neg (by omega)]
/-- What DecodeInner answers. -/
def DiR (R : Mem) (q : Value) (p : List Nat) : Prop := ∃ (a n : Nat) (vt : Value) (wt : List Nat), q = .tuple #[inn a n vt, .int .i64 ((diE p : Nat) : Int)] ∧ By R vt wt ∧ ((diE p = 0 ∧ a = diA p ∧ n = diN p ∧ wt = diT p) ∨ (diE p ≠ 0 ∧ a = 0 ∧ n = 0 ∧ wt = []))
theorem DiR.mono {R R' : Mem} {q : Value} {p : List Nat} (h : DiR R q p) (hs : ∀ x, x ∈ R → x ∈ R') : DiR R' q p := by
  obtain ⟨a, n, vt, wt, h1, h2, h3⟩ := h
  exact ⟨a, n, vt, wt, h1, h2.mono hs, h3⟩

set_option maxRecDepth 100000 in
theorem dinner_spec (v : Value) (p : List Nat) (A : Mem) (hv : By A v p) : FnX Tryz.prog 41 [v] [] A fun q M J => M = [] ∧ DiR J q p := by
  haveI := hv.cel
  refine FnX.enterZ (N := 29) Tryz.func41 rfl rfl rfl fun w_ => ?_
  refine XC.keep (kp 0 rfl kn) ?_
  refine XC.reg ?_
  refine XL.lo rfl (l_alloc (cs := [.int .i64 0, .int .u32 0, .slice none 0 0]) (by kernel_rfl) rfl fun b2 => ?_)
  refine XL.q (q_assign rfl) rfl ?_
  refine XL.fin (kp 0 rfl (kp 2 rfl kn)) ?_
  refine XC.reg ?_
  refine XL.q (q_move rfl) rfl ?_
  refine XL.call (aS rfl a0) (by kernel_rfl) (wread_spec v p A _ hv) rfl ?_
  rintro v7 M7 J7 ⟨rb, rfl, hR7⟩
  refine XL.q (q_assign rfl) rfl ?_
  refine XL.fin (kp 2 rfl (kp 4 rfl kn)) ?_
  refine XC.reg ?_
  refine XL.q (q_move rfl) rfl ?_
  refine XL.lo rfl (l_call (Mc := M7) (R := _) (aS rfl (aS rfl a0)) (by kernel_rfl) PickC.perm (rnum_spec rb 4 (p, false) A _ _ hR7 (fun x hx => SubC.sub _ hx) (by decide)) rfl ?_)
  rintro v9 M9 J9 ⟨rfl, hR9⟩
  have hA4 := rnN_lt (p, false) 4 hv.lt
  rw [show 256 ^ 4 = 4294967296 from rfl] at hA4
  change Rdr rb (di1 p) A M9 at hR9
  obtain ⟨w9, -, hb9⟩ := hR9.ex
  refine XL.q (q_convN (k' := .i64) (diA p) rfl (by kernel_rfl) (wrapI (by show rnN (p, false) 4 < _; omega))) rfl ?_
  refine XL.q (q_move rfl) rfl ?_
  refine XL.lo rfl (l_call (Mc := M9) (R := _) (aS rfl (aS rfl a0)) (by kernel_rfl) PickC.perm (rnum_spec rb 4 (di1 p) A _ _ hR9 (fun x hx => SubC.sub _ hx) (by decide)) rfl ?_)
  rintro v12 M12 J12 ⟨rfl, hR12⟩
  have hN4 := rnN_lt (di1 p) 4 hb9.lt
  rw [show 256 ^ 4 = 4294967296 from rfl] at hN4
  change Rdr rb (di2 p) A M12 at hR12
  refine XL.q (q_convN (k' := .u32) (diN p) rfl (by kernel_rfl) (wrapU32 (by show rnN (di1 p) 4 < _; omega))) rfl ?_
  refine XL.q (q_move rfl) rfl ?_
  refine XL.lo rfl (l_call (Mc := M12) (R := _) (aS rfl (aS rfl a0)) (by kernel_rfl) PickC.perm (rbytes_spec rb 65536 (di2 p) A _ _ hR12 (fun x hx => SubC.sub _ hx) (by decide)) rfl ?_)
  rintro v15 M15 J15 ⟨hb15, hR15⟩
  change Rdr rb (di3 p) A M15 at hR15
  change By J15 v15 (diT p) at hb15
  haveI := hb15.cel
  have ho15 := hb15.one
  refine XL.q (q_build (place := fun x => #[(0, 1), (1, 1), (2, 1)][x]?) (z := [.int .i64 0, .int .u32 0, .slice none 0 0]) (fun _ => by kernel_rfl) (eS rfl (eS rfl (eS rfl e0))) (bdS 0 1 rfl (by rfl) (bdS 1 1 rfl (by rfl) (bdS 2 1 rfl (by rfl) bd0)))) rfl ?_
  refine XL.lo rfl (l_alloc (cs := [.int .i64 0, .int .u32 0, .slice none 0 0]) (by kernel_rfl) rfl fun b5 => ?_)
  refine XL.lo rfl (l_storeW rfl rfl Cel.cel (by kernel_rfl) (by rfl) (allS rfl (allS rfl (allS ho15 all0))) UpC.upd ?_)
  refine XL.fin (kp 2 rfl (kp 4 rfl (kp 5 rfl kn))) ?_
  refine XC.seq ?_
  refine XC.block ?_
  refine XC.reg ?_
  refine XL.q (q_move rfl) rfl ?_
  refine XL.callV (aS rfl a0) (by kernel_rfl) (rend_spec rb (di3 p) A _ (hR15.rd SubC.sub)) rfl ?_
  refine XL.q (q_not rfl) rfl ?_
  refine XL.q (q_assign rfl) rfl ?_
  refine XL.fin (kp 2 rfl (kp 5 rfl (kp 17 rfl kn))) ?_
  refine XC.cond rfl (fun hc => ?_) (fun hc => ?_)
  ·
    have he3 : rEnd (di3 p) = false := by simpa using hc
    refine XC.reg ?_
    refine XL.q (q_build (place := fun x => #[(0, 1), (1, 1), (2, 1)][x]?) (z := [.int .i64 0, .int .u32 0, .slice none 0 0]) (fun _ => by kernel_rfl) e0 bd0) rfl ?_
    refine XL.lo rfl (l_storeW rfl rfl Cel.cel (by kernel_rfl) (lnS (lnS (lnS (ln0)))) (allS rfl (allS rfl (allS rfl (all0)))) UpC.upd ?_)
    refine XL.q (q_assign rfl) rfl ?_
    refine XL.fin (kp 2 rfl (kp 3 rfl kn)) ?_
    refine XC.ret ?_
    refine br ?_
    refine tr ?_
    exact ⟨_, [], [], resC1 rfl rfl rfl (by kernel_rfl) At.mem (by rfl), Fit.sub (List.nil_sublist _), rfl, 0, 0, _, [], by rw [diE_4 he3]; rfl, By.nil, .inr ⟨by rw [diE_4 he3]; decide, rfl, rfl, rfl⟩⟩
  ·
    have he3 : rEnd (di3 p) = true := by simpa using hc
    refine XC.reg ?_
    refine XL.q (q_fieldAddrN 2 (off := 2) rfl (by kernel_rfl) rfl) rfl ?_
    refine XL.q (q_load rfl (by kernel_rfl) (by first | exact At.mem | exact mA (by assumption)) (by rfl)) rfl ?_
    refine XL.q (q_lenV2 (sz := 1) rfl (by kernel_rfl) hb15.rd) rfl ?_
    refine XL.q (q_bin rfl rfl rfl) rfl ?_
    refine XL.q (q_assign rfl) rfl ?_
    refine XL.fin (kp 2 rfl (kp 5 rfl (kp 22 rfl kn))) ?_
    refine XC.cond rfl (fun hc => ?_) (fun hc => ?_)
    ·
      have hln : (diT p).length > 256 := by simp at hc; omega
      refine XC.reg ?_
      refine XL.q (q_build (place := fun x => #[(0, 1), (1, 1), (2, 1)][x]?) (z := [.int .i64 0, .int .u32 0, .slice none 0 0]) (fun _ => by kernel_rfl) e0 bd0) rfl ?_
      refine XL.lo rfl (l_storeW rfl rfl Cel.cel (by kernel_rfl) (lnS (lnS (lnS (ln0)))) (allS rfl (allS rfl (allS rfl (all0)))) UpC.upd ?_)
      refine XL.q (q_assign rfl) rfl ?_
      refine XL.fin (kp 2 rfl (kp 3 rfl kn)) ?_
      refine XC.ret ?_
      refine br ?_
      refine tr ?_
      exact ⟨_, [], [], resC1 rfl rfl rfl (by kernel_rfl) At.mem (by rfl), Fit.sub (List.nil_sublist _), rfl, 0, 0, _, [], by rw [diE_5 he3 hln]; rfl, By.nil, .inr ⟨by rw [diE_5 he3 hln]; decide, rfl, rfl, rfl⟩⟩
    ·
      have hln : (diT p).length ≤ 256 := by simp at hc; omega
      refine XC.skip ?_
      refine nb ?_
      refine nx (kp 2 rfl (kp 5 rfl kn)) ?_
      refine XC.reg ?_
      refine XL.q (q_loadW (n := 3) (cs := [.int .i64 ((diA p : Nat) : Int), .int .u32 ((diN p : Nat) : Int), v15]) rfl (by kernel_rfl) At.mem (by rfl)) rfl ?_
      refine XL.lo rfl (l_storeW rfl rfl Cel.cel (by kernel_rfl) (by rfl) (allS rfl (allS rfl (allS ho15 all0))) UpC.upd ?_)
      refine XL.q (q_assign rfl) rfl ?_
      refine XL.fin (kp 2 rfl (kp 3 rfl kn)) ?_
      refine XC.ret ?_
      exact ⟨_, [], [], resC1 rfl rfl rfl (by kernel_rfl) At.mem (by rfl), Fit.sub (List.nil_sublist _), rfl, diA p, diN p, _, diT p, by rw [diE_0 he3 hln]; rfl, hb15.mono SubC.sub, .inl ⟨diE_0 he3 hln, rfl, rfl, rfl⟩⟩

end Go.Proofs.YthmnlkpikgglbaaGreatDoor
/- The walks of closure's Texts, Says. -/
set_option linter.unusedVariables false
set_option linter.unusedSimpArgs false
namespace Go.Proofs.YthmnlkpikgglbaaGreatDoor
open Go.Px
/-- What each sealed term of a table says. -/
def Sld (ts : List Tm) (bs : Nat → List Nat) : Prop := ∀ i t, ts[i]? = some t → t.kind = 6 → 0 < t.of.length ∧ (bs i).length ≤ 16777216 ∧ ∃ a, t.text = marks [a, bs i]
def txF (ts : List Tm) (h : List Bool) (i : Nat) : Bool := kat h i && (match ts[i]? with
  | some t => t.kind == 6 && isK h (t.of.getD 0 0)
  | none => false)
def textsN (ts : List Tm) (h : List Bool) (bs : Nat → List Nat) (n : Nat) : List (List Nat) := ((List.range n).filter (txF ts h)).map bs
theorem textsN_y {ts : List Tm} {h : List Bool} {bs : Nat → List Nat} {n : Nat} (hk : txF ts h n = true) : textsN ts h bs (n + 1) = textsN ts h bs n ++ [bs n] := by
  unfold textsN
  rw [List.range_succ, List.filter_append, List.map_append]
  simp [hk]
theorem textsN_n {ts : List Tm} {h : List Bool} {bs : Nat → List Nat} {n : Nat} (hk : txF ts h n = false) : textsN ts h bs (n + 1) = textsN ts h bs n := by
  unfold textsN
  rw [List.range_succ, List.filter_append, List.map_append]
  simp [hk]
theorem textsN_len (ts : List Tm) (h : List Bool) (bs : Nat → List Nat) (n : Nat) : (textsN ts h bs n).length ≤ n := by
  unfold textsN
  rw [List.length_map]
  exact Nat.le_trans (List.length_filter_le _ _) (by simp)
theorem marks_in {a b : List Nat} (h : B256 (marks [a, b])) : B256 b := ⟨fun x hx => h.lt x (by simp [marks, mark, hx])⟩

set_option maxRecDepth 100000 in
theorem texts_spec (kb bt bm : Nat) (ts : List Tm) (h : List Bool) (bs : Nat → List Nat) (A : Mem) (hK : KnR kb bt h A) (hT0 : TbR bt bm ts A) (hsd : Sld ts bs) (hl : h.length ≤ ts.length) (hn : ts.length ≤ 1048576) {e4 : TypeId} {f4 : Nat × Nat} (h4 : (4, Obj.cells (nums .u64 pow10T).toArray e4 f4) ∈ A) : FnX Tryz.prog 22 [.pointer (some ⟨kb, 0, none⟩)] [] A fun q M J => M = [] ∧ LsV J q (textsN ts h bs h.length) := by
  obtain ⟨v, hkb, hrd⟩ := hK.ex
  haveI := hrd.cel
  obtain ⟨MT, hT, hsub⟩ := hT0.ex
  refine FnX.enterZ (N := 70) Tryz.func22 rfl rfl rfl fun w_ => ?_
  refine XC.keep (kp 0 rfl kn) ?_
  refine XC.reg ?_
  refine XL.q (q_assign rfl) rfl ?_
  refine XL.fin (kp 0 rfl kn) ?_
  refine XC.reg ?_
  refine XL.q (q_assign rfl) rfl ?_
  refine XL.fin (kp 0 rfl (kp 3 rfl kn)) ?_
  refine XC.seq ?_
  refine XC.reg ?_
  refine XL.q (q_move rfl) rfl ?_
  refine XL.q (q_ptrEqNil (e := 79) rfl rfl (by kernel_rfl)) rfl ?_
  refine XL.fin (kp 0 rfl (kp 3 rfl (kp 11 rfl kn))) ?_
  refine XC.condF rfl ?_
  refine XC.skip ?_
  refine nx (kp 0 rfl (kp 3 rfl kn)) ?_
  refine XC.seq ?_
  refine XC.reg ?_
  refine XL.q (q_move rfl) rfl ?_
  refine XL.q (q_nil rfl) rfl ?_
  refine XL.q (q_fieldAddrN 1 (off := 1) rfl (by kernel_rfl) rfl) rfl ?_
  refine XL.q (q_load rfl (by kernel_rfl) (mA hkb) (by rfl)) rfl ?_
  refine XL.q (q_lenV2 (sz := 1) rfl (by kernel_rfl) hrd) rfl ?_
  refine XL.q (q_move rfl) rfl ?_
  refine XL.fin (kp 0 rfl (kp 3 rfl (kp 16 rfl (kp 17 rfl (kp 18 rfl kn))))) ?_
  refine XC.block ?_
  refine XC.loop (α := Nat × List Value × Value × Mem × Mem) (fun x => [(0, .pointer (some ⟨kb, 0, none⟩)), (3, x.2.2.1), (16, v), (17, .int .i64 ((h.length : Nat) : Int)), (18, .int .i64 ((x.1 : Nat) : Int))]) (fun x => x.2.2.2.1) (fun x => x.2.2.2.2) (fun x => x.1 ≤ h.length ∧ Sl 1 x.2.2.1 x.2.1.length x.2.1 x.2.2.2.1 ∧ Lst x.2.2.2.2 x.2.1 (textsN ts h bs x.1)) (fun x => h.length - x.1) ⟨0, [], .slice none 0 0, [], []⟩ ⟨Nat.zero_le _, Sl.nil, Lst.nil⟩ (kp 0 rfl (kp 3 rfl (kp 16 rfl (kp 17 rfl (kp 18 rfl kn))))) .rfl (fun _ h => h) ?_
  rintro ⟨i, vs, v3, B3, J3⟩ ⟨hi, hs3, hlv⟩
  dsimp only at hi hs3 hlv ⊢
  haveI := hs3.cel
  have hvl := hlv.len
  have hvn := textsN_len ts h bs i
  refine XC.reg ?_
  refine XL.q (q_bin rfl rfl rfl) rfl ?_
  refine XL.fin (kp 0 rfl (kp 3 rfl (kp 16 rfl (kp 17 rfl (kp 18 rfl (kp 19 rfl kn)))))) ?_
  refine XC.seq ?_
  refine XC.cond rfl (fun hc => ?_) (fun hc => ?_)
  ·
    have hlt : i < h.length := by simp at hc; omega
    refine XC.skip ?_
    refine nx (kp 0 rfl (kp 3 rfl (kp 16 rfl (kp 17 rfl (kp 18 rfl kn))))) ?_
    refine XC.seq ?_
    refine XC.block ?_
    refine XC.reg ?_
    refine XL.q (q_move rfl) rfl ?_
    refine XL.q (q_atV2 (sz := 1) rfl rfl (by kernel_rfl) rfl hrd hlt) rfl ?_
    refine XL.q (q_ldV (j := i) (u := .bool (h.getD i false)) (hrd.mono SubC.sub) rfl (by kernel_rfl) (bools_get hlt)) rfl ?_
    refine XL.q (q_assign rfl) rfl ?_
    refine XL.q (q_assign rfl) rfl ?_
    refine XL.fin (kp 0 rfl (kp 3 rfl (kp 4 rfl (kp 5 rfl (kp 16 rfl (kp 17 rfl (kp 18 rfl kn))))))) ?_
    refine XC.reg ?_
    refine XL.q (q_move rfl) rfl ?_
    refine XL.q (q_nil rfl) rfl ?_
    refine XL.q (q_fieldAddrN 0 (off := 0) rfl (by kernel_rfl) rfl) rfl ?_
    refine XL.q (q_load rfl (by kernel_rfl) (mA hkb) (by rfl)) rfl ?_
    refine XL.q (q_move rfl) rfl ?_
    refine XL.call (aS rfl (aS rfl a0)) (by kernel_rfl) (getT_spec bt bm ts ((i : Nat) : Int) MT _ hT (fun x hx => SubC.sub _ (hsub x hx))) rfl ?_
    rintro v29 M29 J29 ⟨rfl, rfl, c29, ok29, rfl, hg1, hg2⟩
    obtain ⟨rfl, t, ht, vo, rfl, hvo⟩ := hg1 ⟨by omega, by omega⟩
    rw [Int.toNat_natCast] at ht
    have hto := hT.tok.tmo t (List.mem_of_getElem? ht)
    haveI := hvo.cel
    have hkF : txF ts h i = (kat h i && (t.kind == 6 && isK h (t.of.getD 0 0))) := by unfold txF; rw [ht]
    refine XL.q (q_move rfl) rfl ?_
    refine XL.q (q_x0 rfl) rfl ?_
    refine XL.q (q_x1 rfl) rfl ?_
    refine XL.lo rfl (l_alloc (cs := [.int .u8 0, .slice none 0 0, .string ByteArray.empty, .int .i64 0]) (by kernel_rfl) rfl fun b6 => ?_)
    refine XL.lo rfl (l_storeW rfl rfl rfl (by kernel_rfl) (by rfl) (by intro c hc; simp only [List.mem_cons, List.not_mem_nil, or_false] at hc; rcases hc with rfl | rfl | rfl | rfl <;> first | rfl | exact hvo.one) UpC.upd ?_)
    refine XL.q (q_assign rfl) rfl ?_
    refine XL.fin (kp 0 rfl (kp 3 rfl (kp 5 rfl (kp 6 rfl (kp 16 rfl (kp 17 rfl (kp 18 rfl kn))))))) ?_
    refine XC.seq ?_
    refine XC.reg ?_
    refine XL.q (q_move rfl) rfl ?_
    refine XL.q (q_not rfl) rfl ?_
    refine XL.q (q_move rfl) rfl ?_
    refine XL.split (t := 34) rfl (fun hb => ?_) (fun hb => ?_)
    ·
      have hA : kat h i = false := by unfold kat; simpa using hb
      refine XL.gn rfl rfl rfl rfl ?_
      refine XL.gn rfl rfl rfl rfl ?_
      refine XL.gn rfl rfl rfl rfl ?_
      refine XL.q (q_pickT rfl rfl) rfl ?_
      refine XL.q (q_move rfl) rfl ?_
      refine XL.gn rfl rfl rfl rfl ?_
      refine XL.gn rfl rfl rfl rfl ?_
      refine XL.gn rfl rfl rfl rfl ?_
      refine XL.gn rfl rfl rfl rfl ?_
      refine XL.gn rfl rfl rfl rfl ?_
      refine XL.gn rfl rfl rfl rfl ?_
      refine XL.gn rfl rfl rfl rfl ?_
      refine XL.q (q_pickT rfl rfl) rfl ?_
      refine XL.fin (kp 0 rfl (kp 3 rfl (kp 6 rfl (kp 16 rfl (kp 17 rfl (kp 18 rfl (kp 47 rfl kn))))))) ?_
      refine XC.condT rfl ?_
      refine XC.exit ?_
      refine te ?_
      refine be rfl ?_
      refine nx (kp 0 rfl (kp 3 rfl (kp 16 rfl (kp 17 rfl (kp 18 rfl kn))))) ?_
      refine XC.reg1 ?_
      refine XL.q (q_addI (b := 1) rfl rfl rfl rfl (by omega)) rfl ?_
      refine XL.q (q_move rfl) rfl ?_
      refine XL.nil ?_
      exact rn ⟨i + 1, vs, v3, B3, J3⟩ ⟨by dsimp only; omega, by dsimp only; exact hs3, by dsimp only; rw [textsN_n (by rw [hkF, hA]; rfl)]; exact hlv⟩ (by dsimp only; omega) (kp 0 rfl (kp 3 rfl (kp 16 rfl (kp 17 rfl (kp 18 rfl kn))))) (Fit.last PickC.perm) (fun x hx => SubC.sub x hx)
    ·
      have hA : kat h i = true := by unfold kat; simpa using hb
      refine XL.gy rfl rfl (OpQ.opL (q_fieldAddrN 0 (off := 0) rfl (by kernel_rfl) rfl) rfl ?_)
      refine XL.gy rfl rfl (OpQ.opL (q_load rfl (by kernel_rfl) (by first | exact At.mem | exact mA (by assumption)) (by rfl)) rfl ?_)
      refine XL.gy rfl rfl (OpQ.opL (q_bin rfl rfl rfl) rfl ?_)
      refine XL.q (q_pickF rfl rfl) rfl ?_
      refine XL.q (q_move rfl) rfl ?_
      refine XL.split (t := 39) rfl (fun hb => ?_) (fun hb => ?_)
      ·
        have hk6 : ¬ t.kind = 6 := by simp at hb; omega
        refine XL.gn rfl rfl rfl rfl ?_
        refine XL.gn rfl rfl rfl rfl ?_
        refine XL.gn rfl rfl rfl rfl ?_
        refine XL.gn rfl rfl rfl rfl ?_
        refine XL.gn rfl rfl rfl rfl ?_
        refine XL.gn rfl rfl rfl rfl ?_
        refine XL.gn rfl rfl rfl rfl ?_
        refine XL.q (q_pickT rfl rfl) rfl ?_
        refine XL.fin (kp 0 rfl (kp 3 rfl (kp 6 rfl (kp 16 rfl (kp 17 rfl (kp 18 rfl (kp 47 rfl kn))))))) ?_
        refine XC.condT rfl ?_
        refine XC.exit ?_
        refine te ?_
        refine be rfl ?_
        refine nx (kp 0 rfl (kp 3 rfl (kp 16 rfl (kp 17 rfl (kp 18 rfl kn))))) ?_
        refine XC.reg1 ?_
        refine XL.q (q_addI (b := 1) rfl rfl rfl rfl (by omega)) rfl ?_
        refine XL.q (q_move rfl) rfl ?_
        refine XL.nil ?_
        exact rn ⟨i + 1, vs, v3, B3, J3⟩ ⟨by dsimp only; omega, by dsimp only; exact hs3, by dsimp only; rw [textsN_n (by rw [hkF, hA]; simp [hk6])]; exact hlv⟩ (by dsimp only; omega) (kp 0 rfl (kp 3 rfl (kp 16 rfl (kp 17 rfl (kp 18 rfl kn))))) (Fit.last PickC.perm) (fun x hx => SubC.sub x hx)
      ·
        have hk6 : t.kind = 6 := by simp at hb; omega
        obtain ⟨ho1, hbl, a, htx⟩ := hsd i t ht hk6
        have htb : B256 (marks [a, bs i]) := htx ▸ hto.text
        have hb2 := marks_in htb
        refine XL.gy rfl rfl (OpQ.opL (q_move rfl) rfl ?_)
        refine XL.gy rfl rfl (OpQ.opL (q_fieldAddrN 1 (off := 1) rfl (by kernel_rfl) rfl) rfl ?_)
        refine XL.gy rfl rfl (OpQ.opL (q_load rfl (by kernel_rfl) (by first | exact At.mem | exact mA (by assumption)) (by rfl)) rfl ?_)
        refine XL.gy rfl rfl (OpQ.opL (q_atV2 (sz := 1) (a := 0) rfl rfl (by kernel_rfl) rfl hvo ho1) rfl ?_)
        refine XL.gy rfl rfl (OpQ.opL (q_ldV (j := 0) (u := .int .i64 (t.of.getD 0 0)) (hvo.mono SubC.sub) rfl (by kernel_rfl) (ints_at ho1)) rfl ?_)
        refine XL.callVg rfl rfl (aS rfl (aS rfl a0)) (by kernel_rfl) (is_spec kb bt h _ _ (hK.mono SubC.sub)) rfl ?_
        refine XL.gy rfl rfl (OpQ.opL (q_not rfl) rfl ?_)
        refine XL.q (q_pickF rfl rfl) rfl ?_
        refine XL.fin (kp 0 rfl (kp 3 rfl (kp 6 rfl (kp 16 rfl (kp 17 rfl (kp 18 rfl (kp 47 rfl kn))))))) ?_
        refine XC.cond rfl (fun hc => ?_) (fun hc => ?_)
        ·
          have hC : isK h (t.of.getD 0 0) = false := by simpa using hc
          refine XC.exit ?_
          refine te ?_
          refine be rfl ?_
          refine nx (kp 0 rfl (kp 3 rfl (kp 16 rfl (kp 17 rfl (kp 18 rfl kn))))) ?_
          refine XC.reg1 ?_
          refine XL.q (q_addI (b := 1) rfl rfl rfl rfl (by omega)) rfl ?_
          refine XL.q (q_move rfl) rfl ?_
          refine XL.nil ?_
          exact rn ⟨i + 1, vs, v3, B3, J3⟩ ⟨by dsimp only; omega, by dsimp only; exact hs3, by dsimp only; rw [textsN_n (by rw [hkF, hA, hC]; simp)]; exact hlv⟩ (by dsimp only; omega) (kp 0 rfl (kp 3 rfl (kp 16 rfl (kp 17 rfl (kp 18 rfl kn))))) (Fit.last PickC.perm) (fun x hx => SubC.sub x hx)
        ·
          have hC : isK h (t.of.getD 0 0) = true := by simpa using hc
          refine XC.skip ?_
          refine nx (kp 0 rfl (kp 3 rfl (kp 6 rfl (kp 16 rfl (kp 17 rfl (kp 18 rfl kn)))))) ?_
          refine XC.reg ?_
          refine XL.q (q_fieldAddrN 2 (off := 2) rfl (by kernel_rfl) rfl) rfl ?_
          refine XL.q (q_load rfl (by kernel_rfl) (by first | exact At.mem | exact mA (by assumption)) (by rfl)) rfl ?_
          rw [htx]
          refine XL.call (aS rfl a0) (by kernel_rfl) (parts_spec [a, bs i] htb (by have := hto.tl; rw [htx] at this; exact this) _ (SubC.sub _ h4)) rfl ?_
          rintro v51 M51 J51 ⟨rfl, vp, rfl, hs51⟩
          haveI := hs51.cel
          refine XL.q (q_move rfl) rfl ?_
          refine XL.q (q_x0 rfl) rfl ?_
          refine XL.q (q_x1 rfl) rfl ?_
          refine XL.q (q_assign rfl) rfl ?_
          refine XL.q (q_assign rfl) rfl ?_
          refine XL.fin (kp 0 rfl (kp 3 rfl (kp 8 rfl (kp 9 rfl (kp 16 rfl (kp 17 rfl (kp 18 rfl kn))))))) ?_
          refine XC.reg ?_
          refine XL.q (q_move rfl) rfl ?_
          refine XL.q (q_cmp true rfl rfl (eqT rfl)) rfl ?_
          refine XL.q (q_move rfl) rfl ?_
          refine XL.gy rfl rfl (OpQ.opL (q_move rfl) rfl ?_)
          refine XL.gy rfl rfl (OpQ.opL (q_lenV2 (n := 2) (sz := 1) rfl (by kernel_rfl) (hs51.rd (R := M51) fun _ h => h)) rfl ?_)
          refine XL.gy rfl rfl (OpQ.opL (q_cmp true rfl rfl (eqT rfl)) rfl ?_)
          refine XL.q (q_pickT rfl rfl) rfl ?_
          refine XL.fin (kp 0 rfl (kp 3 rfl (kp 8 rfl (kp 16 rfl (kp 17 rfl (kp 18 rfl (kp 60 rfl kn))))))) ?_
          refine XC.condT rfl ?_
          refine XC.reg1 ?_
          refine XL.q (q_move rfl) rfl ?_
          refine XL.q (q_move rfl) rfl ?_
          refine XL.q (q_atV2 (sz := 1) (a := 1) (n := 2) rfl rfl (by kernel_rfl) rfl (hs51.rd (R := M51) fun _ h => h) (by decide)) rfl ?_
          refine XL.q (q_ldV (j := 1) (u := .string (txt (bs i))) (hs51.rd SubC.sub) rfl (by kernel_rfl) (by rfl)) rfl ?_
          refine XL.lo rfl (l_toBytes (e := 5) rfl rfl B256.lt (by kernel_rfl) (by kernel_rfl) (by kernel_rfl) rfl fun v65 B65 hs65 => ?_)
          refine XL.frz (B := B65) PickC.perm ?_
          have hb65 : By B65 v65 (bs i) := ⟨hs65, hb2.lt, hbl⟩
          haveI := hb65.cel
          refine XL.lo rfl (l_buildSlice (e := 23) (sz := 1) (z := [.slice none 0 0]) (by kernel_rfl) (eS rfl e0) (bdS 0 1 rfl (by rfl) bd0) rfl fun b66 => ?_)
          refine XL.lo rfl (l_append2 (e := 23) (sz := 1) (by_ := 24) rfl rfl (by kernel_rfl) rfl hs3 (Rd.whole (n := 1) At.mem (by rfl)) (by intro c hc; rw [List.mem_singleton.1 hc]; exact hb65.one) PickC.perm (by unfold maxLen; omega) (by omega) rfl fun v67 B67 hs67 => ?_)
          refine XL.q (q_assign rfl) rfl ?_
          refine XL.nil ?_
          refine nb ?_
          refine nx (kp 0 rfl (kp 3 rfl (kp 16 rfl (kp 17 rfl (kp 18 rfl kn))))) ?_
          refine XC.reg1 ?_
          refine XL.q (q_addI (b := 1) rfl rfl rfl rfl (by omega)) rfl ?_
          refine XL.q (q_move rfl) rfl ?_
          refine XL.nil ?_
          exact rn ⟨i + 1, vs ++ [v65], v67, B67, B65 ++ J3⟩ ⟨by dsimp only; omega, by dsimp only; exact sl_eq hs67 (by simp) rfl, by dsimp only; rw [textsN_y (by rw [hkF, hA, hk6, hC]; rfl)]; exact (hlv.mono SubC.sub).snoc (hb65.mono SubC.sub)⟩ (by dsimp only; omega) (kp 0 rfl (kp 3 rfl (kp 16 rfl (kp 17 rfl (kp 18 rfl kn))))) (Fit.last PickC.perm) (fun x hx => SubC.sub x hx)
  ·
    have hge : i = h.length := by simp at hc; omega
    subst hge
    refine XC.exit ?_
    refine te ?_
    refine re ?_
    refine be rfl ?_
    refine nx (kp 3 rfl kn) ?_
    refine XC.reg ?_
    refine XL.q (q_move rfl) rfl ?_
    refine XL.q (q_assign rfl) rfl ?_
    refine XL.fin (kp 2 rfl kn) ?_
    refine XC.ret ?_
    exact ⟨_, [], B3, res1 rfl rfl, Fit.pick PickC.perm (Fit.sub (List.nil_sublist _)), rfl, vs, by rw [← hvl]; exact hs3.rd SubC.sub, hlv.mono SubC.sub⟩

theorem _root_.Go.Px.Lst.of {R : Mem} {vs : List Value} {ls : List (List Nat)} (h : Lst R vs ls) {j : Nat} {u : Value} (hj : vs[j]? = some u) : By R u (ls.getD j []) := by
  have hlt := (List.getElem?_eq_some_iff.1 hj).1
  rw [h.len] at hlt
  obtain ⟨v, h1, h2⟩ := h.at hlt
  obtain rfl := Option.some.inj (hj.symm.trans h1)
  rw [List.getD_eq_getElem?_getD, List.getElem?_eq_getElem hlt]
  exact h2
theorem any_getD {q : List Nat → Bool} (l : List (List Nat)) : (List.range l.length).any (fun j => q (l.getD j [])) = l.any q := by
  rw [← range_any q l, Bool.eq_iff_iff, List.any_eq_true, List.any_eq_true]
  constructor
  · rintro ⟨j, hj, h⟩
    refine ⟨j, hj, ?_⟩
    rw [List.getD_eq_getElem?_getD, List.getElem?_eq_getElem (List.mem_range.1 hj)] at h
    rw [List.getElem?_eq_getElem (List.mem_range.1 hj)]; exact h
  · rintro ⟨j, hj, h⟩
    refine ⟨j, hj, ?_⟩
    rw [List.getElem?_eq_getElem (List.mem_range.1 hj)] at h
    rw [List.getD_eq_getElem?_getD, List.getElem?_eq_getElem (List.mem_range.1 hj)]; exact h
/-- Does a sealed text say that? -/
def saysF (p text : List Nat) : Bool := decide (diE p = 0) && decide (diT p = text)

set_option maxRecDepth 100000 in
theorem says1_spec (p : Value) (wp : List Nat) (b2 : Nat) (x : Value) (text : List Nat) (e : TypeId) (A : Mem) (hp : By A p wp) (hb2 : (b2, blk [x] e) ∈ A) (hx : By A x text) : FnV Tryz.prog 40 [p, .pointer (some ⟨b2, 0, none⟩)] A (.bool (saysF wp text)) := by
  haveI := hp.cel
  haveI := hx.cel
  refine FnX.enter (N := 21) Tryz.func40 rfl rfl rfl fun w => ?_
  refine XC.keep (kp 0 rfl (kp 1 rfl kn)) ?_
  refine XC.reg ?_
  refine XL.q (q_assign rfl) rfl ?_
  refine XL.fin (kp 0 rfl (kp 1 rfl kn)) ?_
  refine XC.reg ?_
  refine XL.q (q_move rfl) rfl ?_
  refine XL.call (aS rfl a0) (by kernel_rfl) (dinner_spec p wp _ (hp.mono SubC.sub)) rfl ?_
  rintro v8 M8 J8 ⟨rfl, da, dn, vt, wt, rfl, hbt, hd⟩
  haveI := hbt.cel
  have hot := hbt.one
  refine XL.q (q_move rfl) rfl ?_
  refine XL.q (q_x0 rfl) rfl ?_
  refine XL.q (q_x1 rfl) rfl ?_
  refine XL.lo rfl (l_alloc (cs := [.int .i64 0, .int .u32 0, .slice none 0 0]) (by kernel_rfl) rfl fun b4 => ?_)
  refine XL.lo rfl (l_storeW rfl rfl Cel.cel (by kernel_rfl) (by rfl) (allS rfl (allS rfl (allS hot all0))) UpC.upd ?_)
  refine XL.q (q_assign rfl) rfl ?_
  refine XL.fin (kp 1 rfl (kp 4 rfl (kp 5 rfl kn))) ?_
  rcases hd with ⟨he, -, -, rfl⟩ | ⟨he, -, -, rfl⟩
  ·
    refine XC.reg ?_
    refine XL.q (q_move rfl) rfl ?_
    refine XL.q (q_cmp true rfl rfl (eqT (by rw [he]; rfl))) rfl ?_
    refine XL.q (q_move rfl) rfl ?_
    refine XL.gy rfl rfl (OpQ.opL (q_fieldAddrN 2 (off := 2) rfl (by kernel_rfl) rfl) rfl ?_)
    refine XL.gy rfl rfl (OpQ.opL (q_load rfl (by kernel_rfl) At.mem (by rfl)) rfl ?_)
    refine XL.gy rfl rfl (OpQ.opL (q_toStr2 rfl (by kernel_rfl) (hbt.rd.mono SubC.sub)) rfl ?_)
    refine XL.gy rfl rfl (OpQ.opL (q_load rfl (by kernel_rfl) (mA hb2) (by rfl)) rfl ?_)
    refine XL.gy rfl rfl (OpQ.opL (q_toStr2 rfl (by kernel_rfl) (hx.rd.mono SubC.sub)) rfl ?_)
    refine XL.gy rfl rfl (OpQ.opL (q_sEq rfl rfl rfl rfl hbt.lt hx.lt) rfl ?_)
    refine XL.q (q_pickT rfl rfl) rfl ?_
    refine XL.q (q_assign rfl) rfl ?_
    refine XL.fin (kp 3 rfl kn) ?_
    refine XC.ret ?_
    exact ⟨_, [], [], res1 rfl rfl, List.nil_sublist _, by simp, by unfold saysF; rw [decide_eq_true he, Bool.true_and], rfl, rfl⟩
  ·
    refine XC.reg ?_
    refine XL.q (q_move rfl) rfl ?_
    refine XL.q (q_cmp false rfl rfl (eqF (by omega))) rfl ?_
    refine XL.q (q_move rfl) rfl ?_
    refine XL.gn rfl rfl rfl rfl ?_
    refine XL.gn rfl rfl rfl rfl ?_
    refine XL.gn rfl rfl rfl rfl ?_
    refine XL.gn rfl rfl rfl rfl ?_
    refine XL.gn rfl rfl rfl rfl ?_
    refine XL.gn rfl rfl rfl rfl ?_
    refine XL.q (q_pickF rfl rfl) rfl ?_
    refine XL.q (q_assign rfl) rfl ?_
    refine XL.fin (kp 3 rfl kn) ?_
    refine XC.ret ?_
    exact ⟨_, [], [], res1 rfl rfl, List.nil_sublist _, by simp, by unfold saysF; rw [decide_eq_false he]; rfl, rfl, rfl⟩

set_option maxRecDepth 100000 in
theorem says_spec (kb bt bm : Nat) (ts : List Tm) (h : List Bool) (bs : Nat → List Nat) (x : Value) (text : List Nat) (A : Mem) (hK : KnR kb bt h A) (hT0 : TbR bt bm ts A) (hsd : Sld ts bs) (hl : h.length ≤ ts.length) (hn : ts.length ≤ 1048576) (hx : By A x text) {e4 : TypeId} {f4 : Nat × Nat} (h4 : (4, Obj.cells (nums .u64 pow10T).toArray e4 f4) ∈ A) : FnV Tryz.prog 23 [.pointer (some ⟨kb, 0, none⟩), x] A (.bool ((textsN ts h bs h.length).any fun w => saysF w text)) := by
  haveI := hx.cel
  refine FnX.enter (N := 9) Tryz.func23 rfl rfl rfl fun w => ?_
  refine XC.keep (kp 0 rfl (kp 1 rfl kn)) ?_
  refine XC.reg ?_
  refine XL.lo rfl (l_box rfl (by first | exact Cel.cel | rfl) rfl fun b3 => ?_)
  refine XL.q (q_assign rfl) rfl ?_
  refine XL.fin (kp 0 rfl (kp 3 rfl kn)) ?_
  refine XC.reg ?_
  refine XL.q (q_move rfl) rfl ?_
  refine XL.call (aS rfl a0) (by kernel_rfl) (texts_spec kb bt bm ts h bs _ (hK.mono SubC.sub) (hT0.mono SubC.sub) hsd hl hn (SubC.sub _ h4)) rfl ?_
  rintro v6 M6 J6 ⟨rfl, hl6⟩
  obtain ⟨vs6, hr6, hls6⟩ := hl6.ex
  haveI := hr6.cel
  have hlen6 := hls6.len
  have htn := textsN_len ts h bs h.length
  rw [← hlen6] at hr6
  refine XL.q (q_mkFuncF a0 (aS rfl a0)) rfl ?_
  refine XL.callV (aS rfl (aS rfl a0)) (by kernel_rfl) (contains_b _ vs6 40 [.pointer (some ⟨b3, 0, none⟩)] (fun j => saysF ((textsN ts h bs h.length).getD j []) text) _ (hr6.mono SubC.sub) (by omega) (by kernel_rfl) (fun j u hj => ⟨says1_spec u _ b3 x text _ _ ((Lst.of hls6 hj).mono SubC.sub) At.mem (hx.mono SubC.sub), (Lst.of hls6 hj).cel⟩)) rfl ?_
  refine XL.q (q_assign rfl) rfl ?_
  refine XL.fin (kp 4 rfl kn) ?_
  refine XC.ret ?_
  exact ⟨_, [], [], res1 rfl rfl, List.nil_sublist _, by simp, by rw [hlen6]; exact congrArg Value.bool (any_getD (q := fun w => saysF w text) (textsN ts h bs h.length)), rfl, rfl⟩

end Go.Proofs.YthmnlkpikgglbaaGreatDoor
