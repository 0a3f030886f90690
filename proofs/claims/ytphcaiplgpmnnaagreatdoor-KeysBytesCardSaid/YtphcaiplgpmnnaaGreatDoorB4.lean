/- Part 4 of the texts of this claim, one behind the other. -/
import Derived.Test.YtphcaiplgpmnnaaGreatDoorB3
import Derived.Test.YtphcaiplgpmnnaaGreatDoorRows
set_option linter.unusedVariables false
set_option linter.unusedSimpArgs false
set_option maxRecDepth 100000
namespace Go.Proofs.YtphcaiplgpmnnaaGreatDoor
open Go.Px
/-- A number's bytes, the highest first. -/
def bes (n k x : Nat) : List Nat := (List.range x).map fun j => n / 2 ^ (8 * (k - 1 - j)) % 256
def beN (n k : Nat) : List Nat := bes n k k
theorem bes_len (n k x : Nat) : (bes n k x).length = x := by simp [bes]
theorem beN_len (n k : Nat) : (beN n k).length = k := bes_len n k k
theorem bes_succ (n k x : Nat) : bes n k (x + 1) = bes n k x ++ [n / 2 ^ (8 * (k - 1 - x)) % 256] := by simp [bes, List.range_succ]
theorem bes_lt (n k x : Nat) : ∀ y ∈ bes n k x, y < 256 := by
  intro y hy
  simp only [bes, List.mem_map] at hy
  obtain ⟨j, _, rfl⟩ := hy
  exact Nat.mod_lt _ (by decide)
theorem beN_lt (n k : Nat) : ∀ y ∈ beN n k, y < 256 := bes_lt n k k
theorem lt_app {a b : List Nat} (ha : ∀ x ∈ a, x < 256) (hb : ∀ x ∈ b, x < 256) : ∀ x ∈ a ++ b, x < 256 := fun x hx => (List.mem_append.1 hx).elim (ha x) (hb x)
/-- The number of some bytes. -/
def bev (ws : List Nat) : Nat := ws.foldl (fun n b => n * 256 + b) 0
theorem bev_snoc (ws : List Nat) (b : Nat) : bev (ws ++ [b]) = bev ws * 256 + b := by simp [bev]
theorem bev_lt' (ws : List Nat) (h : ∀ x ∈ ws, x < 256) : ∀ a, ws.foldl (fun n b => n * 256 + b) a < (a + 1) * 256 ^ ws.length := by
  induction ws with
  | nil => intro a; simp
  | cons b ws ih =>
    intro a
    have h1 := ih (fun x hx => h x (by simp [hx])) (a * 256 + b)
    have h2 := h b (by simp)
    rw [List.foldl_cons, List.length_cons, show 256 ^ (ws.length + 1) = 256 * 256 ^ ws.length from Nat.pow_succ', ← Nat.mul_assoc]
    exact Nat.lt_of_lt_of_le h1 (Nat.mul_le_mul_right _ (by omega))
theorem bev_lt {ws : List Nat} (h : ∀ x ∈ ws, x < 256) : bev ws < 256 ^ ws.length := by
  have := bev_lt' ws h 0
  unfold bev; omega
theorem bev_bes (n k : Nat) : ∀ x, x ≤ k → bev (bes n k x) = n / 2 ^ (8 * (k - x)) % 256 ^ x
  | 0, _ => by simp [bes, bev, Nat.mod_one]
  | x + 1, h => by
    rw [bes_succ, bev_snoc, bev_bes n k x (by omega)]
    have e1 : k - 1 - x = k - (x + 1) := by omega
    have e2 : 8 * (k - x) = 8 * (k - (x + 1)) + 8 := by omega
    rw [e1, e2, Nat.pow_add, ← Nat.div_div_eq_div_mul, show 256 ^ (x + 1) = 256 * 256 ^ x from Nat.pow_succ', Nat.mod_mul, show 2 ^ 8 = 256 from rfl]
    omega
theorem bev_beN {n k : Nat} (h : n < 256 ^ k) : bev (beN n k) = n := by
  unfold beN
  rw [bev_bes n k k (Nat.le_refl _), Nat.sub_self, Nat.mul_zero, Nat.pow_zero, Nat.div_one, Nat.mod_eq_of_lt h]
/-- A writer, and what it has laid. -/
structure Wtr (wb : Nat) (ws : List Nat) (M : Mem) : Prop where
  ex : ∃ (v : Value) (B : Mem), M = (wb, blk [v] 89) :: B ∧ Sl 1 v ws.length (nums .u8 ws) B
  lt : ∀ x ∈ ws, x < 256
theorem Wtr.new {b : Nat} : Wtr b [] [(b, blk [.slice none 0 0] 89)] := ⟨⟨_, [], rfl, Sl.nil⟩, fun x h => by cases h⟩
theorem Wtr.eq {wb : Nat} {ws ws' : List Nat} {M : Mem} (h : Wtr wb ws M) (e : ws = ws') : Wtr wb ws' M := e ▸ h

theorem wnum_spec (wb n k : Nat) (ws : List Nat) (M A : Mem) (hW : Wtr wb ws M) (hn : n < 18446744073709551616) (hk : k ≤ 8) (hl : ws.length ≤ 1099511627776) : FnX Tryz.prog 54 [.pointer (some ⟨wb, 0, none⟩), .int .u64 ((n : Nat) : Int), .int .i64 ((k : Nat) : Int)] M A fun q M J => q = .pointer (some ⟨wb, 0, none⟩) ∧ Wtr wb (ws ++ beN n k) M := by
 obtain ⟨⟨v, B, rfl, hsl⟩, hlt⟩ := hW
 haveI := hsl.cel
 refine FnX.enterZ (N := 33) Tryz.func54 rfl rfl rfl fun w_ => ?_
 refine XC.keep (kq 0 (kq 1 (kq 2 kn))) ?_
 refine XC.reg ?_
 refine as_ ?_
 refine XL.fin (kq 0 (kq 1 (kq 2 kn))) ?_
 refine XC.seq ?_
 refine XC.reg ?_
 refine mv_ ?_
 refine XL.q (q_num ((k : Int) - 1) rfl rfl (sub64 rfl (by omega) (by omega))) rfl ?_
 refine as_ ?_
 refine XL.fin (kq 0 (kq 1 (kq 7 kn))) ?_
 refine XC.block ?_
 refine XC.loop (α := Nat × Value × Mem) (fun x => [(0, .pointer (some ⟨wb, 0, none⟩)), (1, .int .u64 ((n : Nat) : Int)), (7, .int .i64 ((k : Int) - 1 - (x.1 : Int)))]) (fun x => (wb, blk [x.2.1] 89) :: x.2.2) (fun _ => []) (fun x => x.1 ≤ k ∧ Sl 1 x.2.1 (ws ++ bes n k x.1).length (nums .u8 (ws ++ bes n k x.1)) x.2.2) (fun x => k - x.1) ⟨0, v, B⟩ ⟨Nat.zero_le _, by simpa [bes] using hsl⟩ (kq 0 (kq 1 (kp 7 (by simp; rfl) kn))) .rfl (fun _ h => h) ?_
 clear hsl
 rintro ⟨x, v, B⟩ ⟨hx, hsl⟩
 dsimp only at hx hsl ⊢
 haveI := hsl.cel
 have hbl := bes_len n k x
 have hll : (ws ++ bes n k x).length = ws.length + x := by rw [List.length_append, hbl]
 refine XC.seq ?_
 refine XC.reg ?_
 refine mv_ ?_
 refine XL.q (q_bin rfl rfl rfl) rfl ?_
 refine mv_ ?_
 refine XL.split (t := 12) rfl (fun hb => ?_) (fun hb => ?_)
 ·
  have hltx : x < k := by simp at hb; omega
  obtain ⟨m, hm, hm2⟩ : ∃ m : Nat, ((k : Int) - 1 - (x : Int)) = (m : Int) ∧ m = k - 1 - x := ⟨k - 1 - x, by omega, rfl⟩
  rw [hm]
  refine XL.gy rfl rfl (OpQ.opL qm_ rfl ?_)
  refine XL.gy rfl rfl (OpQ.opL (q_cmp true rfl rfl (ltT (by omega))) rfl ?_)
  refine XL.q (q_pickT rfl rfl) rfl ?_
  refine XL.fin (kq 0 (kq 1 (kq 7 (kq 15 kn)))) ?_
  refine XC.condT rfl ?_
  refine XC.skip ?_
  refine nx (kq 0 (kq 1 (kq 7 kn))) ?_
  refine XC.seq ?_
  refine XC.block ?_
  refine XC.drawF1 [0, 1, 2, 3, 4, 5, 6, 7, 8, 9, 10, 12, 13] [(0, 0), (1, 0), (2, 0), (3, 0), (4, 1), (5, 0), (6, 0), (7, 0), (8, 0), (9, 0), (10, 2), (11, 2), (12, 0), (13, 0), (14, 2)] (by kernel_rfl) (by kernel_rfl) fun hs => ?_
  refine XF.q hs rfl qm_ rfl ?_
  refine XF.q hs rfl qm_ rfl ?_
  refine XF.q hs rfl (q_nil rfl) rfl ?_
  refine XF.q hs rfl (qf_ 0 0) rfl ?_
  refine XF.r hs rfl ql_ rfl ?_
  refine XF.q hs rfl qm_ rfl ?_
  refine XF.q hs rfl qm_ rfl ?_
  refine XF.q hs rfl (q_mulI (a := 8) rfl rfl rfl rfl (by omega)) rfl ?_
  refine XF.q hs rfl (q_shrI (a := n) (b := 8 * m) rfl rfl rfl rfl (by show _ ≤ 64; omega)) rfl ?_
  refine XF.q hs rfl (q_to8 rfl (by kernel_rfl)) rfl ?_
  refine XF.lo rfl rfl fun _ => (l_buildSlice (e := 5) (sz := 1) (z := [.int .u8 0]) (by kernel_rfl) (eS rfl e0) (bdS 0 1 rfl (by rfl) bd0) rfl fun b28 => ?_)
  refine XF.tl rfl rfl rfl (l_append2 (e := 5) (sz := 1) (by_ := 1) rfl rfl (by kernel_rfl) rfl (by first | assumption | exact Sl.nil) (Rd.whole (n := 1) At.mem (by rfl)) (by first | (simp [Value.oneCell']; done) | (intro c hc; simp only [List.mem_singleton] at hc; subst hc; first | exact Rd.one (by assumption) | exact Sl.one (by assumption))) PickC.perm (by unfold maxLen; omega) (by omega) rfl fun v29 B29 hs29 => ?_)
  refine XF.q hs rfl (q_nil rfl) rfl ?_
  refine XF.q hs rfl (qf_ 0 0) rfl ?_
  refine XF.tl rfl rfl rfl (l_store rfl rfl hs29.one (by kernel_rfl) SetC.set UpC.upd ?_)
  refine XF.nil ?_
  refine nb ?_
  refine nx (kq 0 (kq 1 (kq 7 kn))) ?_
  refine XC.reg1 ?_
  refine mv_ ?_
  refine XL.q (q_num ((m : Int) - 1) rfl rfl (sub64 rfl (by omega) (by omega))) rfl ?_
  refine as_ ?_
  refine XL.nil ?_
  exact rn ⟨x + 1, v29, B29⟩ ⟨by dsimp only; omega, by dsimp only; rw [bes_succ, ← List.append_assoc, ← hm2]; exact sl_eq hs29 (by simp only [List.length_append, List.length_singleton]) (by simp [nums])⟩ (by dsimp only; omega) (kq 0 (kq 1 (kp 7 (by dsimp only; rw [show ((k : Int) - 1 - ((x + 1 : Nat) : Int)) = (m : Int) - 1 by omega]; rfl) kn))) (Fit.pick (B := [_]) PickC.perm (Fit.last PickC.perm)) (fun _ h => by first | exact h | cases h)
 ·
  have hge : x = k := by simp at hb; omega
  subst hge
  refine XL.gn rfl rfl rfl rfl ?_
  refine XL.gn rfl rfl rfl rfl ?_
  refine XL.q (q_pickF rfl rfl) rfl ?_
  refine XL.fin (kq 0 (kq 1 (kq 7 (kq 15 kn)))) ?_
  refine XC.condF rfl ?_
  refine XC.exit ?_
  refine te ?_
  refine re ?_
  refine be rfl ?_
  refine nx (kq 0 kn) ?_
  refine XC.reg ?_
  refine mv_ (as_ ?_)
  refine XL.fin (kq 6 kn) ?_
  refine XC.ret ?_
  exact ⟨_, (wb, blk [v] 89) :: B, [], res1 rfl rfl, Fit.none (Fit.last PickC.perm), rfl, ⟨⟨v, B, rfl, hsl⟩, lt_app hlt (beN_lt n x)⟩⟩

theorem wbytes_spec (wb : Nat) (p : Value) (w ws : List Nat) (M A : Mem) (hW : Wtr wb ws M) (hp : By A p w) (hl : ws.length ≤ 1099511620000) : FnX Tryz.prog 53 [.pointer (some ⟨wb, 0, none⟩), p] M A fun q M J => q = .pointer (some ⟨wb, 0, none⟩) ∧ Wtr wb (ws ++ beN w.length 4 ++ w) M := by
 haveI := hp.cel
 have hpl := hp.len
 refine FnX.enterZ (N := 20) Tryz.func53 rfl rfl rfl fun w_ => ?_
 refine XC.keep (kq 0 (kq 1 kn)) ?_
 refine XC.reg ?_
 refine as_ ?_
 refine XL.fin (kq 0 (kq 1 kn)) ?_
 refine XC.reg ?_
 refine mv_ (mv_ ?_)
 refine XL.q (q_lenV2 (sz := 1) rfl (by kernel_rfl) hp.rd) rfl ?_
 refine XL.q (q_to64 rfl (by kernel_rfl)) rfl ?_
 rw [Nat.mod_eq_of_lt (show w.length < 18446744073709551616 by omega)]
 refine XL.lo rfl (l_call (Mc := _) (R := _) (aS rfl (aS rfl (aS rfl (a0)))) (by kernel_rfl) PickC.perm (wnum_spec wb w.length 4 ws _ _ hW (by omega) (by decide) (by omega)) rfl ?_)
 rintro v9 M9 J9 ⟨rfl, hW9⟩
 obtain ⟨⟨v, B, rfl, hsl⟩, hlt⟩ := hW9
 haveI := hsl.cel
 have hbl := beN_len w.length 4
 have hll : (ws ++ beN w.length 4).length = ws.length + 4 := by rw [List.length_append, hbl]
 refine XL.fin (kq 0 (kq 1 kn)) ?_
 refine XC.reg ?_
 refine mv_ (mv_ ?_)
 refine XL.q (q_nil rfl) rfl ?_
 refine XL.q (qf_ 0 0) rfl ?_
 refine XL.q ql_ rfl ?_
 refine mv_ ?_
 refine XL.lo rfl (l_append2 (e := 5) (sz := 1) (by_ := 1) rfl rfl (by kernel_rfl) rfl hsl (hp.rd.mono SubC.sub) nums_one PickC.perm (by unfold maxLen; omega) (by omega) rfl fun v16 B16 hs16 => ?_)
 refine XL.q (q_nil rfl) rfl ?_
 refine XL.q (qf_ 0 0) rfl ?_
 refine XL.lo rfl (l_store rfl rfl hs16.one (by kernel_rfl) SetC.set UpC.upd ?_)
 refine XL.fin (kq 0 kn) ?_
 refine XC.reg ?_
 refine mv_ (as_ ?_)
 refine XL.fin (kq 4 kn) ?_
 refine XC.ret ?_
 exact ⟨_, (wb, blk [v16] 89) :: B16, [], res1 rfl rfl, Fit.none (Fit.pick (B := [_]) PickC.perm (Fit.last PickC.perm)), rfl, ⟨⟨v16, B16, rfl, sl_eq hs16 (by simp only [List.length_append]) (by simp [nums])⟩, lt_app hlt hp.lt⟩⟩

theorem wdone_spec (wb : Nat) (ws : List Nat) (M A : Mem) (hW : Wtr wb ws M) (hl : ws.length ≤ 16777216) : FnX Tryz.prog 55 [.pointer (some ⟨wb, 0, none⟩)] M A fun q M J => Wtr wb ws M ∧ By J q ws := by
 obtain ⟨⟨v, B, rfl, hsl⟩, hlt⟩ := hW
 haveI := hsl.cel
 refine FnX.enterZ (N := 8) Tryz.func55 rfl rfl rfl fun w_ => ?_
 refine XC.keep (kq 0 kn) ?_
 refine XC.reg ?_
 refine as_ ?_
 refine XL.fin (kq 0 kn) ?_
 refine XC.reg ?_
 refine mv_ ?_
 refine XL.q (q_nil rfl) rfl ?_
 refine XL.q (qf_ 0 0) rfl ?_
 refine XL.q ql_ rfl ?_
 refine XL.lo rfl (l_append2 (e := 5) (sz := 1) (by_ := 1) rfl rfl (by kernel_rfl) rfl Sl.nil (hsl.rd SubC.sub) nums_one PickC.perm (by unfold maxLen; omega) (by omega) rfl fun v7 B7 hs7 => ?_)
 refine as_ ?_
 refine XL.fin (kq 2 kn) ?_
 refine XC.ret ?_
 exact ⟨_, (wb, blk [v] 89) :: B, B7, res1 rfl rfl, Fit.pick PickC.perm (Fit.last PickC.perm), ⟨⟨v, B, rfl, hsl⟩, hlt⟩, ⟨by simpa using hs7.rd (R := B7) SubC.sub, hlt, hl⟩⟩

end Go.Proofs.YtphcaiplgpmnnaaGreatDoor
/- The walks of package wire: Reader. -/
namespace Go.Proofs.YtphcaiplgpmnnaaGreatDoor
open Go.Px
theorem by_pre {R : Mem} {v : Value} {w : List Nat} (h : By R v w) {k : Nat} (hk : k ≤ w.length) : By R (vHi k v) (w.take k) := ⟨by
  have h1 := h.rd.hiV k hk
  rw [Nat.mul_one, ← nums_take] at h1
  rw [List.length_take, Nat.min_eq_left hk]
  exact h1, fun x hx => h.lt x (List.mem_of_mem_take hx), by rw [List.length_take]; have := h.len; omega⟩
theorem by_suf {R : Mem} {v : Value} {w : List Nat} (h : By R v w) {k : Nat} (hk : k ≤ w.length) : By R (vLo k 1 v) (w.drop k) := ⟨by
  have h1 := h.rd.loV k hk
  rw [Nat.mul_one, ← nums_drop] at h1
  rw [List.length_drop]
  exact h1, fun x hx => h.lt x (List.mem_of_mem_drop hx), by rw [List.length_drop]; have := h.len; omega⟩
/-- What a reader has left, and whether there was a fault. -/
abbrev Rst := List Nat × Bool
structure Rdr (rb : Nat) (st : Rst) (R M : Mem) : Prop where
  ex : ∃ (v : Value), M = [(rb, blk [v, .bool st.2] 149)] ∧ By R v st.1
def rnN (st : Rst) (k : Nat) : Nat := if st.2 || decide (st.1.length < k) then 0 else bev (st.1.take k)
def rnS (st : Rst) (k : Nat) : Rst := if st.2 || decide (st.1.length < k) then (st.1, true) else (st.1.drop k, false)
theorem rn_bad {st : Rst} {k : Nat} (h : st.2 = true ∨ st.1.length < k) : rnN st k = 0 ∧ rnS st k = (st.1, true) := by
  have e : (st.2 || decide (st.1.length < k)) = true := by
    rcases h with h | h
    · rw [h]; rfl
    · rw [decide_eq_true h, Bool.or_true]
  unfold rnN rnS
  rw [if_pos e, if_pos e]; exact ⟨rfl, rfl⟩
theorem rn_ok {st : Rst} {k : Nat} (h : st.2 = false) (hl : k ≤ st.1.length) : rnN st k = bev (st.1.take k) ∧ rnS st k = (st.1.drop k, false) := by
  have e : ¬ (st.2 || decide (st.1.length < k)) = true := by rw [h, decide_eq_false (by omega)]; decide
  unfold rnN rnS
  rw [if_neg e, if_neg e]; exact ⟨rfl, rfl⟩
theorem rnN_lt (st : Rst) (k : Nat) (h : ∀ x ∈ st.1, x < 256) : rnN st k < 256 ^ k := by
  unfold rnN
  split
  · exact Nat.pow_pos (by decide)
  · have h1 := bev_lt (ws := st.1.take k) fun x hx => h x (List.mem_of_mem_take hx)
    exact Nat.lt_of_lt_of_le h1 (Nat.pow_le_pow_right (by decide) (List.length_take_le _ _))
def rbN (st : Rst) (most : Nat) : List Nat :=
  if (rnS st 4).2 || decide (rnN st 4 > most) || decide (rnN st 4 > (rnS st 4).1.length) then [] else (rnS st 4).1.take (rnN st 4)
def rbS (st : Rst) (most : Nat) : Rst :=
  if (rnS st 4).2 || decide (rnN st 4 > most) || decide (rnN st 4 > (rnS st 4).1.length) then ((rnS st 4).1, true) else ((rnS st 4).1.drop (rnN st 4), false)
theorem rb_bad {st : Rst} {most : Nat} (h : (rnS st 4).2 = true ∨ rnN st 4 > most ∨ rnN st 4 > (rnS st 4).1.length) : rbN st most = [] ∧ rbS st most = ((rnS st 4).1, true) := by
  have e : ((rnS st 4).2 || decide (rnN st 4 > most) || decide (rnN st 4 > (rnS st 4).1.length)) = true := by
    rcases h with h | h | h
    · rw [h]; rfl
    · rw [decide_eq_true h]; simp
    · rw [decide_eq_true h]; simp
  unfold rbN rbS
  rw [if_pos e, if_pos e]; exact ⟨rfl, rfl⟩
theorem rb_ok {st : Rst} {most : Nat} (h : (rnS st 4).2 = false) (h2 : rnN st 4 ≤ most) (h3 : rnN st 4 ≤ (rnS st 4).1.length) : rbN st most = (rnS st 4).1.take (rnN st 4) ∧ rbS st most = ((rnS st 4).1.drop (rnN st 4), false) := by
  have e : ¬ ((rnS st 4).2 || decide (rnN st 4 > most) || decide (rnN st 4 > (rnS st 4).1.length)) = true := by
    rw [h, decide_eq_false (by omega), decide_eq_false (by omega)]; decide
  unfold rbN rbS
  rw [if_neg e, if_neg e]; exact ⟨rfl, rfl⟩
theorem or_byte {n b : Nat} (hb : b < 256) (hn : n * 256 < 18446744073709551616) : (n * 256 % 18446744073709551616 ||| b) = n * 256 + b := by
  rw [Nat.mod_eq_of_lt hn, Nat.mul_comm]
  exact (Nat.two_pow_add_eq_or_of_lt (i := 8) hb n).symm
/-- A reader that read all, without a fault. -/
def rEnd (st : Rst) : Bool := !st.2 && decide (st.1.length = 0)
theorem cmp_nil (n : Nat) : arith .eql .i64 (n : Int) 0 = some (.bool (decide (n = 0))) := by
  by_cases h : n = 0
  · rw [decide_eq_true h]; exact eqT (by omega)
  · rw [decide_eq_false h]; exact eqF (by omega)
theorem bev_take {ws : List Nat} {j : Nat} (h : j < ws.length) : bev (ws.take (j + 1)) = bev (ws.take j) * 256 + ws.getD j 0 := by
  rw [List.take_add_one, List.getElem?_eq_getElem h, List.getD_eq_getElem?_getD, List.getElem?_eq_getElem h]
  exact bev_snoc _ _

theorem wread_spec (p : Value) (w : List Nat) (R A : Mem) (hp : By R p w) : FnX Tryz.prog 72 [p] [] A fun q M J => ∃ rb, q = .pointer (some ⟨rb, 0, none⟩) ∧ Rdr rb (w, false) R M := by
 haveI := hp.cel
 refine FnX.enterZ (N := 6) Tryz.func72 rfl rfl rfl fun w_ => ?_
 refine XC.keep (kq 0 kn) ?_
 refine XC.reg ?_
 refine as_ ?_
 refine XL.fin (kq 0 kn) ?_
 refine XC.reg ?_
 refine mv_ ?_
 refine XL.q (q_build (place := fun x => #[(0, 1), (1, 1)][x]?) (z := [.slice none 0 0, .bool false]) (fun _ => by kernel_rfl) (eS rfl e0) (bdS 0 1 rfl (by rfl) bd0)) rfl ?_
 refine XL.lo rfl (bx_ fun b5 => ?_)
 refine as_ ?_
 refine XL.fin (kq 2 kn) ?_
 refine XC.ret ?_
 exact ⟨_, [(b5, _)], [], res1 rfl rfl, Fit.none (Fit.last PickC.perm), b5, rfl, ⟨p, rfl, hp⟩⟩

theorem spoil_spec (rb : Nat) (st : Rst) (R M A : Mem) (hR : Rdr rb st R M) : FnX Tryz.prog 106 [.pointer (some ⟨rb, 0, none⟩)] M A fun q M J => Rdr rb (st.1, true) R M := by
 obtain ⟨v, rfl, hby⟩ := hR.ex
 haveI := hby.cel
 have hbl := hby.len
 refine FnX.enterZ (N := 7) Tryz.func106 rfl rfl rfl fun w_ => ?_
 refine XC.keep (kq 0 kn) ?_
 refine XC.reg ?_
 refine mv_ ?_
 refine XL.q (q_ptrNeNil (e := 149) rfl rfl (by kernel_rfl)) rfl ?_
 refine XL.fin (kq 0 (kq 3 kn)) ?_
 refine XC.condT rfl ?_
 refine XC.reg1 ?_
 refine mv_ ?_
 refine XL.q (q_nil rfl) rfl ?_
 refine XL.q (qf_ 1 1) rfl ?_
 refine XL.lo rfl (l_store rfl rfl rfl (by kernel_rfl) SetC.set UpC.upd ?_)
 refine XL.nil ?_
 exact ⟨_, _, [], res0 rfl, Fit.none (Fit.last PickC.perm), ⟨v, rfl, hby⟩⟩

theorem rnum_spec (rb k : Nat) (st : Rst) (R M A : Mem) (hR : Rdr rb st R M) (hs : ∀ x, x ∈ R → x ∈ A) (hk : k ≤ 8) : FnX Tryz.prog 73 [.pointer (some ⟨rb, 0, none⟩), .int .i64 ((k : Nat) : Int)] M A fun q M J => q = .int .u64 ((rnN st k : Nat) : Int) ∧ Rdr rb (rnS st k) R M := by
 obtain ⟨v, rfl, hby⟩ := hR.ex
 haveI := hby.cel
 have hbl := hby.len
 refine FnX.enterZ (N := 62) Tryz.func73 rfl rfl rfl fun w_ => ?_
 refine XC.keep (kq 0 (kq 1 kn)) ?_
 refine XC.reg ?_
 refine as_ ?_
 refine XL.fin (kq 0 (kq 1 kn)) ?_
 refine XC.seq ?_
 refine XC.reg ?_
 refine mv_ ?_
 refine XL.q (q_ptrEqNil (e := 149) rfl rfl (by kernel_rfl)) rfl ?_
 refine mv_ ?_
 refine XL.gy rfl rfl (OpQ.opL qm_ rfl ?_)
 refine XL.gy rfl rfl (OpQ.opL (q_nil rfl) rfl ?_)
 refine XL.gy rfl rfl (OpQ.opL (qf_ 1 1) rfl ?_)
 refine XL.gy rfl rfl (OpQ.opL ql_ rfl ?_)
 refine XL.q (q_pickF rfl rfl) rfl ?_
 refine mv_ ?_
 refine XL.split (t := 16) rfl (fun hb => ?_) (fun hb => ?_)
 ·
  have hbd : st.2 = true := hb
  refine XL.gn rfl rfl rfl rfl ?_
  refine XL.gn rfl rfl rfl rfl ?_
  refine XL.q (q_pickT rfl rfl) rfl ?_
  refine mv_ ?_
  refine XL.gn rfl rfl rfl rfl ?_
  refine XL.gn rfl rfl rfl rfl ?_
  refine XL.q (q_pickT rfl rfl) rfl ?_
  refine mv_ ?_
  refine XL.gn rfl rfl rfl rfl ?_
  refine XL.gn rfl rfl rfl rfl ?_
  refine XL.gn rfl rfl rfl rfl ?_
  refine XL.gn rfl rfl rfl rfl ?_
  refine XL.gn rfl rfl rfl rfl ?_
  refine XL.gn rfl rfl rfl rfl ?_
  refine XL.gn rfl rfl rfl rfl ?_
  refine XL.q (q_pickT rfl rfl) rfl ?_
  refine XL.fin (kq 0 (kq 1 (kq 32 kn))) ?_
  refine XC.condT rfl ?_
  refine XC.reg ?_
  refine mv_ ?_
  refine XL.lo rfl (l_call (Mc := [(rb, blk [v, .bool st.2] 149)]) (R := _) (aS rfl a0) (by kernel_rfl) PickC.perm (spoil_spec rb (st.1, st.2) R _ _ ⟨v, rfl, hby⟩) rfl ?_)
  rintro v34 M34 J34 hR34
  refine XL.fin kn ?_
  refine XC.reg ?_
  refine as_ ?_
  refine XL.fin (kq 4 kn) ?_
  refine XC.ret ?_
  refine tr ?_
  exact ⟨_, M34, [], res1 rfl rfl, Fit.none (Fit.last PickC.perm), by rw [(rn_bad (.inl hbd)).1]; rfl, by rw [(rn_bad (.inl hbd)).2]; exact hR34⟩
 ·
  have hbd : st.2 = false := hb
  refine XL.gy rfl rfl (OpQ.opL qm_ rfl ?_)
  refine XL.gy rfl rfl (OpQ.opL (q_cmp false rfl rfl (ltF (by omega))) rfl ?_)
  refine XL.q (q_pickF rfl rfl) rfl ?_
  refine mv_ ?_
  refine XL.gy rfl rfl (OpQ.opL qm_ rfl ?_)
  refine XL.gy rfl rfl (OpQ.opL (q_cmp false rfl rfl (gtF (by omega))) rfl ?_)
  refine XL.q (q_pickF rfl rfl) rfl ?_
  refine mv_ ?_
  refine XL.gy rfl rfl (OpQ.opL qm_ rfl ?_)
  refine XL.gy rfl rfl (OpQ.opL (q_nil rfl) rfl ?_)
  refine XL.gy rfl rfl (OpQ.opL (qf_ 0 0) rfl ?_)
  refine XL.gy rfl rfl (OpQ.opL ql_ rfl ?_)
  refine XL.gy rfl rfl (OpQ.opL (q_lenV2 (sz := 1) rfl (by kernel_rfl) hby.rd) rfl ?_)
  refine XL.gy rfl rfl (OpQ.opL qm_ rfl ?_)
  refine XL.gy rfl rfl (OpQ.opL (q_bin rfl rfl rfl) rfl ?_)
  refine XL.q (q_pickF rfl rfl) rfl ?_
  refine XL.fin (kq 0 (kq 1 (kq 32 kn))) ?_
  refine XC.cond rfl (fun hc => ?_) (fun hc => ?_)
  ·
   have hsh : st.1.length < k := by simp at hc; omega
   refine XC.reg ?_
   refine mv_ ?_
   refine XL.lo rfl (l_call (Mc := [(rb, blk [v, .bool st.2] 149)]) (R := _) (aS rfl a0) (by kernel_rfl) PickC.perm (spoil_spec rb (st.1, st.2) R _ _ ⟨v, rfl, hby⟩) rfl ?_)
   rintro v34 M34 J34 hR34
   refine XL.fin kn ?_
   refine XC.reg ?_
   refine as_ ?_
   refine XL.fin (kq 4 kn) ?_
   refine XC.ret ?_
   refine tr ?_
   exact ⟨_, M34, [], res1 rfl rfl, Fit.none (Fit.last PickC.perm), by rw [(rn_bad (.inr hsh)).1]; rfl, by rw [(rn_bad (.inr hsh)).2]; exact hR34⟩
  ·
   have hsh : k ≤ st.1.length := by simp at hc; omega
   obtain ⟨hr1, hr2⟩ := rn_ok hbd hsh
   have hby2 := by_pre hby hsh
   haveI := hby2.cel
   have hl2 : (st.1.take k).length = k := by rw [List.length_take]; omega
   refine XC.skip ?_
   refine nx (kq 0 (kq 1 kn)) ?_
   refine XC.reg ?_
   refine as_ ?_
   refine XL.fin (kq 0 (kq 1 (kq 5 kn))) ?_
   refine XC.seq ?_
   refine XC.reg ?_
   refine mv_ ?_
   refine XL.q (q_nil rfl) rfl ?_
   refine XL.q (qf_ 0 0) rfl ?_
   refine XL.q ql_ rfl ?_
   refine mv_ ?_
   refine XL.q (q_hiV2 (sz := 1) (a := k) rfl rfl (by kernel_rfl) rfl hby.rd hsh) rfl ?_
   refine XL.q (q_lenV2 (sz := 1) rfl (by kernel_rfl) hby2.rd) rfl ?_
   refine mv_ ?_
   refine XL.fin (kq 0 (kq 1 (kq 5 (kq 40 (kq 41 (kq 42 kn)))))) ?_
   refine XC.block ?_
   rw [hl2]
   refine XC.loop (α := Nat) (fun x => [(0, .pointer (some ⟨rb, 0, none⟩)), (1, .int .i64 ((k : Nat) : Int)), (5, .int .u64 ((bev ((st.1.take k).take x) : Nat) : Int)), (40, vHi k v), (41, .int .i64 ((k : Nat) : Int)), (42, .int .i64 ((x : Nat) : Int))]) (fun _ => [(rb, blk [v, .bool st.2] 149)]) (fun _ => []) (fun x => x ≤ k) (fun x => k - x) 0 (Nat.zero_le _) (kq 0 (kq 1 (kq 5 (kq 40 (kq 41 (kq 42 kn)))))) .rfl (fun _ h => h) ?_
   rintro j hj
   refine XC.reg ?_
   refine XL.q (q_bin rfl rfl rfl) rfl ?_
   refine XL.fin (kq 0 (kq 1 (kq 5 (kq 40 (kq 41 (kq 42 (kq 43 kn))))))) ?_
   refine XC.seq ?_
   refine XC.cond rfl (fun hc => ?_) (fun hc => ?_)
   ·
    have hlt : j < k := by simp at hc; omega
    have hbt := bev_take (ws := st.1.take k) (j := j) (by omega)
    have hb0 : (st.1.take k).getD j 0 < 256 := by rw [List.getD_eq_getElem?_getD, List.getElem?_eq_getElem (by omega)]; exact hby2.lt _ (List.getElem_mem _)
    have hbv := bev_lt (ws := (st.1.take k).take j) fun x hx => hby2.lt x (List.mem_of_mem_take hx)
    rw [List.length_take, Nat.min_eq_left (by omega)] at hbv
    replace hbv := Nat.lt_of_lt_of_le hbv (Nat.pow_le_pow_right (by decide) (show j ≤ 7 by omega))
    rw [show 256 ^ 7 = 72057594037927936 from rfl] at hbv
    generalize bev ((st.1.take k).take j) = n at *
    generalize hbb : (st.1.take k).getD j 0 = b at *
    refine XC.skip ?_
    refine nx (kq 0 (kq 1 (kq 5 (kq 40 (kq 41 (kq 42 kn)))))) ?_
    refine XC.seq ?_
    refine XC.block ?_
    refine XC.reg ?_
    refine XL.q (q_atV2 (sz := 1) rfl rfl (by kernel_rfl) rfl hby2.rd (by omega)) rfl ?_
    refine XL.q (q_ldV (j := j) (u := .int .u8 ((b : Nat) : Int)) (hby2.rd.mono fun x hx => SubC.sub _ (hs x hx)) rfl (by kernel_rfl) (by rw [← hbb]; unfold nums; rw [List.getElem?_map, List.getElem?_eq_getElem (by omega), List.getD_eq_getElem?_getD, List.getElem?_eq_getElem (by omega)]; rfl)) rfl ?_
    refine as_ ?_
    refine XL.fin (kq 0 (kq 1 (kq 5 (kq 7 (kq 40 (kq 41 (kq 42 kn))))))) ?_
    refine XC.reg1 ?_
    refine mv_ ?_
    refine XL.q (q_shlD 8 256 18446744073709551616 rfl rfl rfl rfl rfl rfl (by decide)) rfl ?_
    refine mv_ ?_
    refine XL.q (q_to64 rfl (by kernel_rfl)) rfl ?_
    rw [Nat.mod_eq_of_lt (show b < 18446744073709551616 by omega)]
    refine XL.q (q_or rfl rfl rfl (by show _ < 18446744073709551616; exact Nat.mod_lt _ (by decide)) (by show _ < 18446744073709551616; omega)) rfl ?_
    rw [or_byte hb0 (by omega), ← hbt]
    refine as_ ?_
    refine XL.nil ?_
    refine nb ?_
    refine nx (kq 0 (kq 1 (kq 5 (kq 40 (kq 41 (kq 42 kn)))))) ?_
    refine XC.reg1 ?_
    refine XL.q (q_addI (b := 1) rfl rfl rfl rfl (by omega)) rfl ?_
    refine mv_ ?_
    refine XL.nil ?_
    exact rn (j + 1) (by omega) (by omega) (kq 0 (kq 1 (kq 5 (kq 40 (kq 41 (kq 42 kn)))))) .rfl (fun _ h => h)
   ·
    have hge : k = j := by simp at hc; omega
    subst hge
    rw [List.take_take, Nat.min_self]
    refine XC.exit ?_
    refine te ?_
    refine re ?_
    refine be rfl ?_
    refine nx (kq 0 (kq 1 (kq 5 kn))) ?_
    refine XC.reg ?_
    refine mv_ (mv_ ?_)
    refine XL.q (q_nil rfl) rfl ?_
    refine XL.q (qf_ 0 0) rfl ?_
    refine XL.q ql_ rfl ?_
    refine mv_ ?_
    refine XL.q (q_loV2 (sz := 1) (a := k) rfl rfl (by kernel_rfl) rfl hby.rd hsh) rfl ?_
    have hby3 := by_suf hby hsh
    haveI := hby3.cel
    have hy1 := hby3.one
    refine XL.q (q_nil rfl) rfl ?_
    refine XL.q (qf_ 0 0) rfl ?_
    refine XL.lo rfl (l_store rfl rfl hy1 (by kernel_rfl) SetC.set UpC.upd ?_)
    refine XL.fin (kq 5 kn) ?_
    refine XC.reg ?_
    refine mv_ (as_ ?_)
    refine XL.fin (kq 4 kn) ?_
    refine XC.ret ?_
    exact ⟨_, [(rb, blk [vLo k 1 v, .bool st.2] 149)], [], res1 rfl rfl, Fit.none (Fit.last PickC.perm), by rw [hr1], by rw [hr2]; exact ⟨_, by rw [hbd], hby3⟩⟩

theorem rbytes_spec (rb most : Nat) (st : Rst) (R M A : Mem) (hR : Rdr rb st R M) (hs : ∀ x, x ∈ R → x ∈ A) (hm : most ≤ 1000000) : FnX Tryz.prog 74 [.pointer (some ⟨rb, 0, none⟩), .int .i64 ((most : Nat) : Int)] M A fun q M J => By J q (rbN st most) ∧ Rdr rb (rbS st most) R M := by
  obtain ⟨v, rfl, hby⟩ := hR.ex
  haveI := hby.cel
  have hbl := hby.len
  refine FnX.enterZ (N := 56) Tryz.func74 rfl rfl rfl fun w_ => ?_
  refine XC.keep (kq 0 (kq 1 kn)) ?_
  refine XC.reg ?_
  refine as_ ?_
  refine XL.fin (kq 0 (kq 1 kn)) ?_
  refine XC.reg ?_
  refine mv_ ?_
  refine XL.lo rfl (l_call (Mc := [(rb, blk [v, .bool st.2] 149)]) (R := _) (aS rfl (aS rfl a0)) (by kernel_rfl) PickC.perm (rnum_spec rb 4 st R _ _ ⟨v, rfl, hby⟩ (fun x hx => SubC.sub _ (hs x hx)) (by decide)) rfl ?_)
  rintro v8 M8 J8 ⟨rfl, hR8⟩
  have hn8 := rnN_lt st 4 hby.lt
  rw [show 256 ^ 4 = 4294967296 from rfl] at hn8
  have hb8 := @rb_bad st most
  have hk8 := @rb_ok st most
  unfold Rst at *
  generalize rnN st 4 = n at *
  generalize rnS st 4 = s1 at *
  obtain ⟨w, rfl, hbw⟩ := hR8.ex
  haveI := hbw.cel
  have hwl := hbw.len
  refine as_ ?_
  refine XL.fin (kq 0 (kq 1 (kq 5 kn))) ?_
  refine XC.seq ?_
  refine XC.reg ?_
  refine mv_ ?_
  refine XL.q (q_ptrEqNil (e := 149) rfl rfl (by kernel_rfl)) rfl ?_
  refine mv_ ?_
  refine XL.gy rfl rfl (OpQ.opL qm_ rfl ?_)
  refine XL.gy rfl rfl (OpQ.opL (q_nil rfl) rfl ?_)
  refine XL.gy rfl rfl (OpQ.opL (qf_ 1 1) rfl ?_)
  refine XL.gy rfl rfl (OpQ.opL ql_ rfl ?_)
  refine XL.q (q_pickF rfl rfl) rfl ?_
  refine mv_ ?_
  refine XL.split (t := 17) rfl (fun hb => ?_) (fun hb => ?_)
  ·
    have hbd : s1.2 = true := hb
    refine XL.gn rfl rfl rfl rfl ?_
    refine XL.gn rfl rfl rfl rfl ?_
    refine XL.q (q_pickT rfl rfl) rfl ?_
    refine mv_ ?_
    refine XL.gn rfl rfl rfl rfl ?_
    refine XL.gn rfl rfl rfl rfl ?_
    refine XL.gn rfl rfl rfl rfl ?_
    refine XL.gn rfl rfl rfl rfl ?_
    refine XL.q (q_pickT rfl rfl) rfl ?_
    refine mv_ ?_
    refine XL.gn rfl rfl rfl rfl ?_
    refine XL.gn rfl rfl rfl rfl ?_
    refine XL.gn rfl rfl rfl rfl ?_
    refine XL.gn rfl rfl rfl rfl ?_
    refine XL.gn rfl rfl rfl rfl ?_
    refine XL.gn rfl rfl rfl rfl ?_
    refine XL.gn rfl rfl rfl rfl ?_
    refine XL.gn rfl rfl rfl rfl ?_
    refine XL.q (q_pickT rfl rfl) rfl ?_
    refine XL.fin (kq 0 (kq 5 (kq 36 kn))) ?_
    refine XC.condT rfl ?_
    refine XC.reg ?_
    refine mv_ ?_
    refine XL.lo rfl (l_call (Mc := [(rb, blk [w, .bool s1.2] 149)]) (R := _) (aS rfl a0) (by kernel_rfl) PickC.perm (spoil_spec rb s1 R _ _ ⟨w, rfl, hbw⟩) rfl ?_)
    rintro v38 M38 J38 hR38
    refine XL.fin kn ?_
    refine XC.reg ?_
    refine as_ ?_
    refine XL.fin (kq 4 kn) ?_
    refine XC.ret ?_
    refine tr ?_
    exact ⟨_, M38, [], res1 rfl rfl, Fit.none (Fit.last PickC.perm), by rw [(hb8 (.inl hbd)).1]; exact By.nil, by rw [(hb8 (.inl hbd)).2]; exact hR38⟩
  ·
    have hbd : s1.2 = false := hb
    refine XL.gy rfl rfl (OpQ.opL qm_ rfl ?_)
    refine XL.gy rfl rfl (OpQ.opL (q_cmp false rfl rfl (ltF (by omega))) rfl ?_)
    refine XL.q (q_pickF rfl rfl) rfl ?_
    refine mv_ ?_
    refine XL.gy rfl rfl (OpQ.opL qm_ rfl ?_)
    refine XL.gy rfl rfl (OpQ.opL qm_ rfl ?_)
    refine XL.gy rfl rfl (OpQ.opL (q_to64 rfl (by kernel_rfl)) rfl ?_)
    rw [Nat.mod_eq_of_lt (show most < 18446744073709551616 by omega)]
    refine XL.gy rfl rfl (OpQ.opL (q_bin rfl rfl rfl) rfl ?_)
    refine XL.q (q_pickF rfl rfl) rfl ?_
    refine mv_ ?_
    refine XL.split (t := 27) rfl (fun hb => ?_) (fun hb => ?_)
    ·
      have hgm : n > most := by simp at hb; omega
      refine XL.gn rfl rfl rfl rfl ?_
      refine XL.gn rfl rfl rfl rfl ?_
      refine XL.gn rfl rfl rfl rfl ?_
      refine XL.gn rfl rfl rfl rfl ?_
      refine XL.gn rfl rfl rfl rfl ?_
      refine XL.gn rfl rfl rfl rfl ?_
      refine XL.gn rfl rfl rfl rfl ?_
      refine XL.gn rfl rfl rfl rfl ?_
      refine XL.q (q_pickT rfl rfl) rfl ?_
      refine XL.fin (kq 0 (kq 5 (kq 36 kn))) ?_
      refine XC.condT rfl ?_
      refine XC.reg ?_
      refine mv_ ?_
      refine XL.lo rfl (l_call (Mc := [(rb, blk [w, .bool s1.2] 149)]) (R := _) (aS rfl a0) (by kernel_rfl) PickC.perm (spoil_spec rb s1 R _ _ ⟨w, rfl, hbw⟩) rfl ?_)
      rintro v38 M38 J38 hR38
      refine XL.fin kn ?_
      refine XC.reg ?_
      refine as_ ?_
      refine XL.fin (kq 4 kn) ?_
      refine XC.ret ?_
      refine tr ?_
      exact ⟨_, M38, [], res1 rfl rfl, Fit.none (Fit.last PickC.perm), by rw [(hb8 (.inr (.inl hgm))).1]; exact By.nil, by rw [(hb8 (.inr (.inl hgm))).2]; exact hR38⟩
    ·
      have hgm : n ≤ most := by simp at hb; omega
      refine XL.gy rfl rfl (OpQ.opL qm_ rfl ?_)
      refine XL.gy rfl rfl (OpQ.opL qm_ rfl ?_)
      refine XL.gy rfl rfl (OpQ.opL (q_nil rfl) rfl ?_)
      refine XL.gy rfl rfl (OpQ.opL (qf_ 0 0) rfl ?_)
      refine XL.gy rfl rfl (OpQ.opL ql_ rfl ?_)
      refine XL.gy rfl rfl (OpQ.opL (q_lenV2 (sz := 1) rfl (by kernel_rfl) hbw.rd) rfl ?_)
      refine XL.gy rfl rfl (OpQ.opL (q_to64 rfl (by kernel_rfl)) rfl ?_)
      rw [Nat.mod_eq_of_lt (show s1.1.length < 18446744073709551616 by omega)]
      refine XL.gy rfl rfl (OpQ.opL (q_bin rfl rfl rfl) rfl ?_)
      refine XL.q (q_pickF rfl rfl) rfl ?_
      refine XL.fin (kq 0 (kq 5 (kq 36 kn))) ?_
      refine XC.cond rfl (fun hc => ?_) (fun hc => ?_)
      ·
        have hgl : n > s1.1.length := by simp at hc; omega
        refine XC.reg ?_
        refine mv_ ?_
        refine XL.lo rfl (l_call (Mc := [(rb, blk [w, .bool s1.2] 149)]) (R := _) (aS rfl a0) (by kernel_rfl) PickC.perm (spoil_spec rb s1 R _ _ ⟨w, rfl, hbw⟩) rfl ?_)
        rintro v38 M38 J38 hR38
        refine XL.fin kn ?_
        refine XC.reg ?_
        refine as_ ?_
        refine XL.fin (kq 4 kn) ?_
        refine XC.ret ?_
        refine tr ?_
        exact ⟨_, M38, [], res1 rfl rfl, Fit.none (Fit.last PickC.perm), by rw [(hb8 (.inr (.inr hgl))).1]; exact By.nil, by rw [(hb8 (.inr (.inr hgl))).2]; exact hR38⟩
      ·
        have hgl : n ≤ s1.1.length := by simp at hc; omega
        obtain ⟨hr1, hr2⟩ := hk8 hbd hgm hgl
        have hby2 := by_pre hbw hgl
        haveI := hby2.cel
        have hby3 := by_suf hbw hgl
        haveI := hby3.cel
        have hy1 := hby3.one
        have hl2 : (s1.1.take n).length = n := by rw [List.length_take]; omega
        refine XC.skip ?_
        refine nx (kq 0 (kq 5 kn)) ?_
        refine XC.reg ?_
        refine mv_ ?_
        refine XL.q (q_nil rfl) rfl ?_
        refine XL.q (qf_ 0 0) rfl ?_
        refine XL.q ql_ rfl ?_
        refine mv_ ?_
        refine XL.q (q_hiV2 (sz := 1) (a := n) rfl rfl (by kernel_rfl) rfl hbw.rd hgl) rfl ?_
        refine XL.lo rfl (l_append2 (e := 5) (sz := 1) (by_ := 1) rfl rfl (by kernel_rfl) rfl Sl.nil (hby2.rd.mono fun x hx => SubC.sub _ (hs x hx)) nums_one PickC.perm (by unfold maxLen; omega) (by omega) rfl fun v45 B45 hs45 => ?_)
        haveI := hs45.cel
        refine as_ ?_
        refine XL.fin (kq 0 (kq 5 (kq 6 kn))) ?_
        refine XC.reg ?_
        refine mv_ (mv_ ?_)
        refine XL.q (q_nil rfl) rfl ?_
        refine XL.q (qf_ 0 0) rfl ?_
        refine XL.q ql_ rfl ?_
        refine mv_ ?_
        refine XL.q (q_loV2 (sz := 1) (a := n) rfl rfl (by kernel_rfl) rfl hbw.rd hgl) rfl ?_
        refine XL.q (q_nil rfl) rfl ?_
        refine XL.q (qf_ 0 0) rfl ?_
        refine XL.lo rfl (l_store rfl rfl hy1 (by kernel_rfl) SetC.set UpC.upd ?_)
        refine XL.fin (kq 6 kn) ?_
        refine XC.reg ?_
        refine mv_ (as_ ?_)
        refine XL.fin (kq 4 kn) ?_
        refine XC.ret ?_
        refine ⟨_, [(rb, blk [vLo n 1 w, .bool s1.2] 149)], B45, res1 rfl rfl, Fit.pick PickC.perm (Fit.last PickC.perm), ?_, ?_⟩
        · rw [hr1]
          exact ⟨by simpa using hs45.rd (R := B45 ++ J8) SubC.sub, hby2.lt, hby2.len⟩
        · rw [hr2]
          exact ⟨_, by rw [hbd], hby3⟩

theorem Rdr.rd {rb : Nat} {st : Rst} {R M A : Mem} (h : Rdr rb st R M) (hs : ∀ x, x ∈ M → x ∈ A) : ∃ v, (rb, blk [v, .bool st.2] 149) ∈ A ∧ By R v st.1 := by
  obtain ⟨v, rfl, h2⟩ := h.ex
  exact ⟨v, hs _ (by simp), h2⟩

theorem rbad_spec (rb : Nat) (st : Rst) (R A : Mem) (hR : ∃ v, (rb, blk [v, .bool st.2] 149) ∈ A ∧ By R v st.1) : FnV Tryz.prog 76 [.pointer (some ⟨rb, 0, none⟩)] A (.bool st.2) := by
 obtain ⟨v, hrb, hby⟩ := hR
 haveI := hby.cel
 refine FnX.enter (N := 11) Tryz.func76 rfl rfl rfl fun w => ?_
 refine XC.keep (kq 0 kn) ?_
 refine XC.reg ?_
 refine as_ ?_
 refine XL.fin (kq 0 kn) ?_
 refine XC.reg ?_
 refine mv_ ?_
 refine XL.q (q_ptrEqNil (e := 149) rfl rfl (by kernel_rfl)) rfl ?_
 refine mv_ ?_
 refine XL.gy rfl rfl (OpQ.opL qm_ rfl ?_)
 refine XL.gy rfl rfl (OpQ.opL (q_nil rfl) rfl ?_)
 refine XL.gy rfl rfl (OpQ.opL (qf_ 1 1) rfl ?_)
 refine XL.gy rfl rfl (OpQ.opL (q_load rfl (by kernel_rfl) (mA hrb) (by rfl)) rfl ?_)
 refine XL.q (q_pickF rfl rfl) rfl ?_
 refine as_ ?_
 refine XL.fin (kq 2 kn) ?_
 refine XC.ret ?_
 exact ⟨_, [], [], res1 rfl rfl, List.nil_sublist _, by simp, rfl, rfl, rfl⟩

theorem rend_spec (rb : Nat) (st : Rst) (R A : Mem) (hR : ∃ v, (rb, blk [v, .bool st.2] 149) ∈ A ∧ By R v st.1) : FnV Tryz.prog 79 [.pointer (some ⟨rb, 0, none⟩)] A (.bool (rEnd st)) := by
 obtain ⟨v, hrb, hby⟩ := hR
 haveI := hby.cel
 refine FnX.enter (N := 14) Tryz.func79 rfl rfl rfl fun w => ?_
 refine XC.keep (kq 0 kn) ?_
 refine XC.reg ?_
 refine as_ ?_
 refine XL.fin (kq 0 kn) ?_
 refine XC.reg ?_
 refine mv_ ?_
 refine XL.callV (aS rfl a0) (by kernel_rfl) (rbad_spec rb st R _ ⟨v, SubC.sub _ hrb, hby⟩) rfl ?_
 refine XL.q (q_not rfl) rfl ?_
 refine mv_ ?_
 refine XL.split (t := 6) rfl (fun hb => ?_) (fun hb => ?_)
 ·
  have hb1 := hb
  refine XL.gy rfl rfl (OpQ.opL qm_ rfl ?_)
  refine XL.gy rfl rfl (OpQ.opL (q_nil rfl) rfl ?_)
  refine XL.gy rfl rfl (OpQ.opL (qf_ 0 0) rfl ?_)
  refine XL.gy rfl rfl (OpQ.opL (q_load rfl (by kernel_rfl) (mA hrb) (by rfl)) rfl ?_)
  refine XL.gy rfl rfl (OpQ.opL (q_lenV2 (sz := 1) rfl (by kernel_rfl) hby.rd) rfl ?_)
  refine XL.gy rfl rfl (OpQ.opL (q_cmp (decide (st.1.length = 0)) rfl rfl (cmp_nil _)) rfl ?_)
  refine XL.q (q_pickT rfl rfl) rfl ?_
  refine as_ ?_
  refine XL.fin (kq 2 kn) ?_
  refine XC.ret ?_
  exact ⟨_, [], [], res1 rfl rfl, List.nil_sublist _, by simp, by unfold rEnd; rw [hb1]; rfl, rfl, rfl⟩
 ·
  have hb1 := hb
  refine XL.gn rfl rfl rfl rfl ?_
  refine XL.gn rfl rfl rfl rfl ?_
  refine XL.gn rfl rfl rfl rfl ?_
  refine XL.gn rfl rfl rfl rfl ?_
  refine XL.gn rfl rfl rfl rfl ?_
  refine XL.gn rfl rfl rfl rfl ?_
  refine XL.q (q_pickF rfl rfl) rfl ?_
  refine as_ ?_
  refine XL.fin (kq 2 kn) ?_
  refine XC.ret ?_
  exact ⟨_, [], [], res1 rfl rfl, List.nil_sublist _, by simp, by unfold rEnd; rw [hb1]; rfl, rfl, rfl⟩

end Go.Proofs.YtphcaiplgpmnnaaGreatDoor
/- Package wire: what was laid is read again. -/
namespace Go.Proofs.YtphcaiplgpmnnaaGreatDoor
open Go.Px
theorem wrapU64 {n : Nat} (h : n < 18446744073709551616) : IntKind.u64.wrap (n : Int) = (n : Int) := wrap_u64 (by omega) (by omega)
theorem wrapU32 {n : Nat} (h : n < 4294967296) : IntKind.u32.wrap (n : Int) = (n : Int) := wrap_u32 (by omega) (by omega)
def u32N (x : Int) : Nat := (x % 4294967296).toNat
def u64N (x : Int) : Nat := (x % 18446744073709551616).toNat
/-- A reader goes on. -/
theorem rn_app {n k : Nat} {r : List Nat} (h : n < 256 ^ k) : rnN (beN n k ++ r, false) k = n ∧ rnS (beN n k ++ r, false) k = (r, false) := by
  have hl := beN_len n k
  obtain ⟨h1, h2⟩ := rn_ok (st := (beN n k ++ r, false)) (k := k) rfl (by simp [hl])
  rw [h1, h2]
  refine ⟨?_, ?_⟩
  · show bev ((beN n k ++ r).take k) = n
    rw [List.take_left' hl]; exact bev_beN h
  · show ((beN n k ++ r).drop k, false) = _
    rw [List.drop_left' hl]
theorem rb_app {w r : List Nat} {most : Nat} (h : w.length ≤ most) (h2 : w.length < 4294967296) : rbN (beN w.length 4 ++ w ++ r, false) most = w ∧ rbS (beN w.length 4 ++ w ++ r, false) most = (r, false) := by
  have e : beN w.length 4 ++ w ++ r = beN w.length 4 ++ (w ++ r) := List.append_assoc _ _ _
  obtain ⟨h3, h4⟩ := rn_app (n := w.length) (k := 4) (r := w ++ r) h2
  rw [e]
  obtain ⟨h5, h6⟩ := rb_ok (st := (beN w.length 4 ++ (w ++ r), false)) (most := most) (by rw [h4]) (by rw [h3]; exact h) (by rw [h3, h4]; simp)
  rw [h5, h6, h3, h4]
  exact ⟨by simp, by simp⟩
/-- A reader's next number, of two bytes. -/
def ctN (st : Rst) (most : Nat) : Nat := if rnN st 2 > most then 0 else rnN st 2
def ctS (st : Rst) (most : Nat) : Rst := if rnN st 2 > most then ((rnS st 2).1, true) else rnS st 2
theorem ctN_le (st : Rst) (most : Nat) : ctN st most ≤ most := by unfold ctN; split <;> omega

end Go.Proofs.YtphcaiplgpmnnaaGreatDoor
/-
  SHA-256 in plain natural numbers, and what is true of it. No program in sight.
-/
namespace Go.Px

def rotr (x n : Nat) : Nat := (x >>> n) ||| ((x <<< (32 - n)) % 4294967296)
def sg0 (a : Nat) : Nat := rotr a 7 ^^^ rotr a 18 ^^^ (a >>> 3)
def sg1 (b : Nat) : Nat := rotr b 17 ^^^ rotr b 19 ^^^ (b >>> 10)
def wnext (w : List Nat) (i : Nat) : Nat :=
  (((w.getD (i - 16) 0 + sg0 (w.getD (i - 15) 0)) % 4294967296 + w.getD (i - 7) 0) % 4294967296 + sg1 (w.getD (i - 2) 0)) % 4294967296
/-- The words, so many more. -/
def wx (w : List Nat) : Nat → List Nat
  | 0 => w
  | n + 1 => wx w n ++ [wnext (wx w n) (w.length + n)]
theorem wx_len (w : List Nat) (n : Nat) : (wx w n).length = w.length + n := by
  induction n with
  | zero => rfl
  | succ n ih => simp [wx, ih]; omega

structure S8 where
  a : Nat
  b : Nat
  c : Nat
  d : Nat
  e : Nat
  f : Nat
  g : Nat
  h : Nat
def S8.list (s : S8) : List Nat := [s.a, s.b, s.c, s.d, s.e, s.f, s.g, s.h]
def S8.ok (s : S8) : Prop := ∀ x ∈ s.list, x < 4294967296
def bs1 (e : Nat) : Nat := rotr e 6 ^^^ rotr e 11 ^^^ rotr e 25
def bs0 (a : Nat) : Nat := rotr a 2 ^^^ rotr a 13 ^^^ rotr a 22
def chz (e f g : Nat) : Nat := (e &&& f) ^^^ ((4294967295 ^^^ e) &&& g)
def maj (a b c : Nat) : Nat := (a &&& b) ^^^ (a &&& c) ^^^ (b &&& c)
def tmp1 (s : S8) (k w : Nat) : Nat := ((((s.h + bs1 s.e) % 4294967296 + chz s.e s.f s.g) % 4294967296 + k) % 4294967296 + w) % 4294967296
def S8.step (s : S8) (k w : Nat) : S8 :=
  ⟨((tmp1 s k w + bs0 s.a) % 4294967296 + maj s.a s.b s.c) % 4294967296, s.a, s.b, s.c, (s.d + tmp1 s k w) % 4294967296, s.e, s.f, s.g⟩
def rounds (ks ws : List Nat) (s : S8) : Nat → S8
  | 0 => s
  | n + 1 => (rounds ks ws s n).step (ks.getD n 0) (ws.getD n 0)
def S8.plus (s t : S8) : S8 :=
  ⟨(s.a + t.a) % 4294967296, (s.b + t.b) % 4294967296, (s.c + t.c) % 4294967296, (s.d + t.d) % 4294967296, (s.e + t.e) % 4294967296, (s.f + t.f) % 4294967296, (s.g + t.g) % 4294967296, (s.h + t.h) % 4294967296⟩
def word (p : List Nat) (i : Nat) : Nat := ((p.getD (4 * i) 0 * 256 + p.getD (4 * i + 1) 0) * 256 + p.getD (4 * i + 2) 0) * 256 + p.getD (4 * i + 3) 0
def words (p : List Nat) (n : Nat) : List Nat := (List.range n).map (word p)
def shaBlock (ks : List Nat) (s : S8) (p : List Nat) : S8 := s.plus (rounds ks (wx (words p 16) 48) s 64)
/-- So many blocks, one behind the other. -/
def shaB (ks : List Nat) : Nat → S8 → List Nat → S8
  | 0, s, _ => s
  | n + 1, s, p => shaB ks n (shaBlock ks s (p.take 64)) (p.drop 64)
def zeros (n : Nat) : Nat := (119 - n % 64) % 64
def len8 (n : Nat) (k : Nat) : List Nat := (List.range k).map fun i => (8 * n) >>> (56 - 8 * i) % 256
def padded (p : List Nat) : List Nat := p ++ (128 :: (List.replicate (zeros p.length) 0 ++ len8 p.length 8))
def out4 (x : Nat) : List Nat := [(x >>> 24) % 256, (x >>> 16) % 256, (x >>> 8) % 256, x % 256]
def S8.bytes (s : S8) : List Nat := s.list.flatMap out4
def kTab : List Nat := [1116352408, 1899447441, 3049323471, 3921009573, 961987163, 1508970993, 2453635748, 2870763221, 3624381080, 310598401, 607225278, 1426881987, 1925078388, 2162078206, 2614888103, 3248222580, 3835390401, 4022224774, 264347078, 604807628, 770255983, 1249150122, 1555081692, 1996064986, 2554220882, 2821834349, 2952996808, 3210313671, 3336571891, 3584528711, 113926993, 338241895, 666307205, 773529912, 1294757372, 1396182291, 1695183700, 1986661051, 2177026350, 2456956037, 2730485921, 2820302411, 3259730800, 3345764771, 3516065817, 3600352804, 4094571909, 275423344, 430227734, 506948616, 659060556, 883997877, 958139571, 1322822218, 1537002063, 1747873779, 1955562222, 2024104815, 2227730452, 2361852424, 2428436474, 2756734187, 3204031479, 3329325298]
def hFirst : S8 := ⟨1779033703, 3144134277, 1013904242, 2773480762, 1359893119, 2600822924, 528734635, 1541459225⟩
def sha256 (p : List Nat) : List Nat := (shaB kTab ((padded p).length / 64) hFirst (padded p)).bytes
def keyPad (key : List Nat) (x : Nat) : List Nat := (key ++ List.replicate (64 - key.length) 0).map (· ^^^ x)
def macKey (key : List Nat) : List Nat := if 64 < key.length then sha256 key else key
def hmac (key p : List Nat) : List Nat := sha256 (keyPad (macKey key) 92 ++ sha256 (keyPad (macKey key) 54 ++ p))

theorem ktab_lt : ∀ x ∈ kTab, x < 4294967296 := by decide
theorem first_ok : hFirst.ok := by unfold S8.ok; decide

theorem rotr_lt {x n : Nat} (h : x < 4294967296) : rotr x n < 4294967296 := by
  unfold rotr
  refine Nat.or_lt_two_pow (n := 32) ?_ (Nat.mod_lt _ (by decide))
  exact Nat.lt_of_le_of_lt (Nat.shiftRight_le _ _) h
theorem xor32 {a b : Nat} (ha : a < 4294967296) (hb : b < 4294967296) : a ^^^ b < 4294967296 := Nat.xor_lt_two_pow (n := 32) ha hb
theorem or32 {a b : Nat} (ha : a < 4294967296) (hb : b < 4294967296) : a ||| b < 4294967296 := Nat.or_lt_two_pow (n := 32) ha hb
theorem and32 {a b : Nat} (ha : a < 4294967296) : a &&& b < 4294967296 := Nat.lt_of_le_of_lt Nat.and_le_left ha
theorem shr32 {a n : Nat} (ha : a < 4294967296) : a >>> n < 4294967296 := Nat.lt_of_le_of_lt (Nat.shiftRight_le _ _) ha
theorem mod32 {a : Nat} : a % 4294967296 < 4294967296 := Nat.mod_lt _ (by decide)
theorem S8.ok_iff {s : S8} : s.ok ↔ s.a < 4294967296 ∧ s.b < 4294967296 ∧ s.c < 4294967296 ∧ s.d < 4294967296 ∧ s.e < 4294967296 ∧ s.f < 4294967296 ∧ s.g < 4294967296 ∧ s.h < 4294967296 := by
  simp [S8.ok, S8.list]
theorem S8.ok.step {s : S8} (h : s.ok) (k w : Nat) : (s.step k w).ok := by
  rw [S8.ok_iff] at h ⊢
  obtain ⟨h1, h2, h3, h4, h5, h6, h7, h8⟩ := h
  exact ⟨mod32, h1, h2, h3, mod32, h5, h6, h7⟩
theorem S8.ok.plus (s t : S8) : (s.plus t).ok := by
  rw [S8.ok_iff]
  exact ⟨mod32, mod32, mod32, mod32, mod32, mod32, mod32, mod32⟩
theorem S8.ok.rounds {s : S8} (h : s.ok) (ks ws : List Nat) (n : Nat) : (rounds ks ws s n).ok := by
  induction n with
  | zero => exact h
  | succ n ih => exact ih.step _ _
theorem shaBlock_ok (ks : List Nat) (s : S8) (p : List Nat) : (shaBlock ks s p).ok := S8.ok.plus _ _
theorem shaB_ok (ks : List Nat) : ∀ (n : Nat) {s : S8} (p : List Nat), s.ok → (shaB ks n s p).ok
  | 0, _, _, h => h
  | n + 1, s, p, _ => shaB_ok ks n _ (shaBlock_ok ks s _)
theorem shaB_succ (ks : List Nat) : ∀ (n : Nat) (s : S8) (p : List Nat), shaB ks (n + 1) s p = shaBlock ks (shaB ks n s p) ((p.drop (64 * n)).take 64)
  | 0, s, p => by simp [shaB]
  | n + 1, s, p => by
    rw [shaB, shaB_succ ks n, shaB, List.drop_drop, show 64 + 64 * n = 64 * (n + 1) by omega]
theorem shaB_pre (ks : List Nat) : ∀ (n : Nat) (s : S8) (p q : List Nat), 64 * n ≤ p.length → shaB ks n s (p ++ q) = shaB ks n s p
  | 0, s, p, q, h => rfl
  | n + 1, s, p, q, h => by
    rw [shaB, shaB, List.take_append_of_le_length (by omega), List.drop_append_of_le_length (by omega), shaB_pre ks n _ _ _ (by rw [List.length_drop]; omega)]
theorem word_lt {p : List Nat} (h : ∀ x ∈ p, x < 256) (i : Nat) : word p i < 4294967296 := by
  have := fun j => getD_lt (i := j) h (by decide)
  have h0 := this (4 * i); have h1 := this (4 * i + 1); have h2 := this (4 * i + 2); have h3 := this (4 * i + 3)
  unfold word; omega
theorem words_lt {p : List Nat} (h : ∀ x ∈ p, x < 256) (n : Nat) : ∀ x ∈ words p n, x < 4294967296 := by
  intro x hx
  obtain ⟨i, _, rfl⟩ := List.mem_map.1 hx
  exact word_lt h i
theorem words_len (p : List Nat) (n : Nat) : (words p n).length = n := by simp [words]
theorem words_succ (p : List Nat) (n : Nat) : words p (n + 1) = words p n ++ [word p n] := by simp [words, List.range_succ]
theorem wx_lt {w : List Nat} (h : ∀ x ∈ w, x < 4294967296) : ∀ n, ∀ x ∈ wx w n, x < 4294967296
  | 0, x, hx => h x hx
  | n + 1, x, hx => by
    rcases List.mem_append.1 hx with hx | hx
    · exact wx_lt h n x hx
    · simp at hx; subst hx; exact mod32
theorem word_or {a b c d : Nat} (ha : a < 256) (hb : b < 256) (hc : c < 256) (hd : d < 256) :
    ((((a <<< 24) % 4294967296 ||| (b <<< 16) % 4294967296) ||| (c <<< 8) % 4294967296) ||| d) = ((a * 256 + b) * 256 + c) * 256 + d := by
  have e1 : a <<< 24 = (a <<< 8) <<< 16 := by rw [← Nat.shiftLeft_add]
  have f1 : (a <<< 24) % 4294967296 = a <<< 24 := Nat.mod_eq_of_lt (by rw [Nat.shiftLeft_eq]; omega)
  have f2 : (b <<< 16) % 4294967296 = b <<< 16 := Nat.mod_eq_of_lt (by rw [Nat.shiftLeft_eq]; omega)
  have f3 : (c <<< 8) % 4294967296 = c <<< 8 := Nat.mod_eq_of_lt (by rw [Nat.shiftLeft_eq]; omega)
  rw [f1, f2, f3]
  have g1 : (a <<< 24 ||| b <<< 16) = (a * 256 + b) <<< 16 := by
    rw [e1, ← Nat.shiftLeft_or_distrib, ← Nat.shiftLeft_add_eq_or_of_lt (i := 8) hb, Nat.shiftLeft_eq a 8]
  have g2 : ((a * 256 + b) <<< 16 ||| c <<< 8) = ((a * 256 + b) * 256 + c) <<< 8 := by
    rw [show (16 : Nat) = 8 + 8 from rfl, Nat.shiftLeft_add, ← Nat.shiftLeft_or_distrib, ← Nat.shiftLeft_add_eq_or_of_lt (i := 8) hc, Nat.shiftLeft_eq (a * 256 + b) 8]
  rw [g1, g2, ← Nat.shiftLeft_add_eq_or_of_lt (i := 8) hd, Nat.shiftLeft_eq _ 8]
end Go.Px

/- The walks of bits.RotateLeft32 and sha.block. -/
namespace Go.Proofs.YtphcaiplgpmnnaaGreatDoor
open Go.Px

theorem rot_spec (x n : Nat) (k : Int) (A : Mem) (hx : x < 4294967296) (h0 : 0 < n) (hn : n < 32) (hk : k = -(n : Int)) : FnV Tryz.prog 149 [.int .u32 (x : Int), .int .i64 k] A (.int .u32 (rotr x n : Nat)) := by
 refine FnX.enter (N := 17) Tryz.func149 rfl rfl rfl fun w => ?_
 refine XC.keep (kq 0 (kq 1 kn)) ?_
 refine XC.reg ?_
 refine as_ ?_
 refine XL.fin (kq 0 (kq 1 kn)) ?_
 refine XC.reg ?_
 refine mv_ ?_
 refine XL.q (q_convR (k' := .u64) ((18446744073709551616 - n : Nat) : Int) rfl (by kernel_rfl) (by unfold IntKind.wrap; simp [IntKind.bits, IntKind.signed]; omega)) rfl ?_
 refine XL.q (q_num ((32 - n : Nat) : Int) rfl rfl ((andU (k := .u64) (b := 31) rfl (by show _ < 2 ^ 64; omega) (by decide)).trans (by rw [Nat.and_two_pow_sub_one_eq_mod _ 5, show (18446744073709551616 - n) % 2 ^ 5 = 32 - n by omega]))) rfl ?_
 refine as_ ?_
 refine XL.fin (kq 0 (kq 5 kn)) ?_
 refine XC.reg ?_
 refine mv_ (mv_ ?_)
 refine XL.q (q_shl32 (32 - n) rfl rfl rfl (by omega)) rfl ?_
 refine mv_ (mv_ ?_)
 refine XL.q (q_num ((n : Nat) : Int) rfl rfl ((subU (k := .u64) (a := 32) (b := 32 - n) rfl n (by show _ ≤ 2 ^ 64; omega) (by show (32 + (18446744073709551616 - (32 - n))) % 18446744073709551616 = n; omega)))) rfl ?_
 refine XL.q (q_shrN n rfl rfl rfl (by show n ≤ 32; omega)) rfl ?_
 refine XL.q (q_or32 rfl rfl mod32 (shr32 hx)) rfl ?_
 refine as_ ?_
 refine XL.fin (kq 4 kn) ?_
 refine XC.ret ?_
 exact ⟨_, [], [], res1 rfl rfl, List.nil_sublist _, by simp, by rw [Nat.or_comm]; rfl, rfl, rfl⟩

/-- A state's cells. -/
abbrev cells8 (s : S8) : List Value := [.int .u32 (s.a : Int), .int .u32 (s.b : Int), .int .u32 (s.c : Int), .int .u32 (s.d : Int), .int .u32 (s.e : Int), .int .u32 (s.f : Int), .int .u32 (s.g : Int), .int .u32 (s.h : Int)]
def plusAt (s r : S8) (i : Nat) : List Nat := (s.plus r).list.take i ++ s.list.drop i
theorem plusAt_len (s r : S8) (i : Nat) (h : i ≤ 8) : (plusAt s r i).length = 8 := by simp [plusAt, S8.list]; omega
theorem plusAt_get (s r : S8) (i : Nat) (h : i < 8) : (plusAt s r i).getD i 0 = s.list.getD i 0 := by
  have : i = 0 ∨ i = 1 ∨ i = 2 ∨ i = 3 ∨ i = 4 ∨ i = 5 ∨ i = 6 ∨ i = 7 := by omega
  rcases this with rfl | rfl | rfl | rfl | rfl | rfl | rfl | rfl <;> rfl
theorem plusAt_succ (s r : S8) (i : Nat) (h : i < 8) : (plusAt s r i).set i ((s.list.getD i 0 + r.list.getD i 0) % 4294967296) = plusAt s r (i + 1) := by
  have : i = 0 ∨ i = 1 ∨ i = 2 ∨ i = 3 ∨ i = 4 ∨ i = 5 ∨ i = 6 ∨ i = 7 := by omega
  rcases this with rfl | rfl | rfl | rfl | rfl | rfl | rfl | rfl <;> rfl
theorem wnext_ext {w : List Nat} {us : List Nat} {i : Nat} (h : w.length = i) (h16 : 16 ≤ i) (h64 : i < 64) :
    ((((w ++ us).getD (i - 16) 0 + sg0 ((w ++ us).getD (i - 15) 0)) % 4294967296 + (w ++ us).getD (i - 7) 0) % 4294967296 + sg1 ((w ++ us).getD (i - 2) 0)) % 4294967296 = wnext w i := by
  rw [getD_app (by omega), getD_app (by omega), getD_app (by omega), getD_app (by omega)]; rfl

theorem block_spec (s : S8) (hs0 : s.ok) (p : List Nat) (hb : ∀ x ∈ p, x < 256) (v : Value) (A : Mem) (hv : Rd A 1 v 64 (nums .u8 p)) {ek : TypeId} {fk : Nat × Nat} (hk : (1, Obj.cells (nums .u32 kTab).toArray ek fk) ∈ A) :
  FnV Tryz.prog 126 [.agg (nums .u32 s.list).toArray, v] A (.agg (nums .u32 (shaBlock kTab s p).list).toArray) := by
 have hg : ∀ j, p.getD j 0 < 256 := fun j => getD_lt hb (by decide)
 refine FnX.enter (N := 207) Tryz.func126 rfl rfl rfl fun w => ?_
 refine XC.keep (kq 0 (kq 1 kn)) ?_
 refine XC.reg ?_
 refine XL.lo rfl (l_box (cs := nums .u32 s.list) rfl rfl rfl fun b2 => ?_)
 refine XL.lo rfl (l_alloc (cs := [.int .u32 0, .int .u32 0, .int .u32 0, .int .u32 0, .int .u32 0, .int .u32 0, .int .u32 0, .int .u32 0]) (by kernel_rfl) rfl fun b4 => ?_)
 refine XL.fin (kq 1 (kq 2 (kq 4 kn))) ?_
 refine XC.reg ?_
 refine XL.lo rfl (l_alloc (cs := nums .u32 (List.replicate 64 0)) (by kernel_rfl) rfl fun b5 => ?_)
 refine XL.fin (kq 1 (kq 2 (kq 4 (kq 5 kn)))) ?_
 refine XC.seq ?_
 refine XC.reg ?_
 refine mv_ ?_
 refine XL.fin (kq 1 (kq 2 (kq 4 (kq 5 (kq 20 kn))))) ?_
 refine XC.block ?_
 obtain ⟨bp, op, cp, csp, ep, frp, rfl, hmem, hcs⟩ := hv.nums (by decide)
 refine XC.loop (α := Nat) (fun i => [(1, .slice (some ⟨bp, op, none⟩) 64 cp), (2, .pointer (some ⟨b2, 0, none⟩)), (4, .pointer (some ⟨b4, 0, none⟩)), (5, .pointer (some ⟨b5, 0, none⟩)), (20, .int .i64 (i : Int))]) (fun i => [(b5, blk (nums .u32 (words p i ++ List.replicate (64 - i) 0)) _), (b4, blk (cells8 ⟨0, 0, 0, 0, 0, 0, 0, 0⟩) _), (b2, blk (nums .u32 s.list) _)]) (fun _ => []) (fun i => i ≤ 16) (fun i => 16 - i) 0 (Nat.zero_le _) (kq 1 (kq 2 (kq 4 (kq 5 (kq 20 kn))))) .rfl (fun _ h => h) ?_
 intro i hi
 try dsimp only at hi ⊢
 refine XC.reg ?_
 refine XL.q (q_bin rfl rfl rfl) rfl ?_
 refine XL.fin (kq 1 (kq 2 (kq 4 (kq 5 (kq 20 (kq 21 kn)))))) ?_
 refine XC.seq ?_
 refine XC.cond rfl (fun hc => ?_) (fun hc => ?_)
 ·
  have hlt : i < 16 := by simp at hc; omega
  refine XC.skip ?_
  refine nx (kq 1 (kq 2 (kq 4 (kq 5 (kq 20 kn))))) ?_
  refine XC.seq ?_
  refine XC.block ?_
  refine XC.reg ?_
  refine mv_ (as_ ?_)
  refine XL.fin (kq 1 (kq 2 (kq 4 (kq 5 (kq 6 (kq 20 kn)))))) ?_
  refine XC.draw1 (_) [0, 1, 2, 3, 4, 5, 6, 7, 8, 9, 10, 11, 12, 13, 14, 15, 16, 17, 18, 19, 20, 21, 22, 23, 24, 25, 26, 27, 28, 29, 30, 31, 32, 33, 34] [(0, 0), (1, 0), (2, 0), (3, 0), (4, 0), (5, 1), (6, 0), (7, 0), (8, 0), (9, 0), (10, 0), (11, 0), (12, 0), (13, 1), (14, 0), (15, 0), (16, 0), (17, 0), (18, 0), (19, 0), (20, 0), (21, 0), (22, 1), (23, 0), (24, 0), (25, 0), (26, 0), (27, 0), (28, 0), (29, 0), (30, 0), (31, 1), (32, 0), (33, 0), (34, 0), (35, 2)] (by kernel_rfl) (by kernel_rfl) (fun _ h => h) fun hs => ?_
  refine XP.q hs rfl qm_ rfl ?_
  refine XP.q hs rfl qm_ rfl ?_
  refine XP.q hs rfl qm_ rfl ?_
  refine XP.q hs rfl (q_num ((4 * i : Nat) : Int) rfl rfl (mul64 (by omega) (by omega) (by omega))) rfl ?_
  refine XP.q hs rfl (q_idxS (i := 4 * i) (e := 5) (sz := 1) rfl rfl (by kernel_rfl) (by kernel_rfl) rfl (by omega)) rfl ?_
  refine XP.r hs rfl (q_load rfl (by kernel_rfl) (mA hmem) (hcs (4 * i) (by omega))) rfl ?_
  refine XP.q hs rfl (q_same (k' := .u32) rfl (by kernel_rfl) (by show _ < 2147483648; have := hg (4 * i); omega)) rfl ?_
  refine XP.q hs rfl (q_shl32 24 rfl rfl rfl (by decide)) rfl ?_
  refine XP.q hs rfl qm_ rfl ?_
  refine XP.q hs rfl qm_ rfl ?_
  refine XP.q hs rfl (q_num ((4 * i : Nat) : Int) rfl rfl (mul64 (by omega) (by omega) (by omega))) rfl ?_
  refine XP.q hs rfl (q_num ((4 * i + 1 : Nat) : Int) rfl rfl (add64 (by omega) (by omega) (by omega))) rfl ?_
  refine XP.q hs rfl (q_idxS (i := 4 * i + 1) (e := 5) (sz := 1) rfl rfl (by kernel_rfl) (by kernel_rfl) rfl (by omega)) rfl ?_
  refine XP.r hs rfl (q_load rfl (by kernel_rfl) (mA hmem) (hcs (4 * i + 1) (by omega))) rfl ?_
  refine XP.q hs rfl (q_same (k' := .u32) rfl (by kernel_rfl) (by show _ < 2147483648; have := hg (4 * i + 1); omega)) rfl ?_
  refine XP.q hs rfl (q_shl32 16 rfl rfl rfl (by decide)) rfl ?_
  refine XP.q hs rfl (q_or32 rfl rfl mod32 mod32) rfl ?_
  refine XP.q hs rfl qm_ rfl ?_
  refine XP.q hs rfl qm_ rfl ?_
  refine XP.q hs rfl (q_num ((4 * i : Nat) : Int) rfl rfl (mul64 (by omega) (by omega) (by omega))) rfl ?_
  refine XP.q hs rfl (q_num ((4 * i + 2 : Nat) : Int) rfl rfl (add64 (by omega) (by omega) (by omega))) rfl ?_
  refine XP.q hs rfl (q_idxS (i := 4 * i + 2) (e := 5) (sz := 1) rfl rfl (by kernel_rfl) (by kernel_rfl) rfl (by omega)) rfl ?_
  refine XP.r hs rfl (q_load rfl (by kernel_rfl) (mA hmem) (hcs (4 * i + 2) (by omega))) rfl ?_
  refine XP.q hs rfl (q_same (k' := .u32) rfl (by kernel_rfl) (by show _ < 2147483648; have := hg (4 * i + 2); omega)) rfl ?_
  refine XP.q hs rfl (q_shl32 8 rfl rfl rfl (by decide)) rfl ?_
  refine XP.q hs rfl (q_or32 rfl rfl (or32 mod32 mod32) mod32) rfl ?_
  refine XP.q hs rfl qm_ rfl ?_
  refine XP.q hs rfl qm_ rfl ?_
  refine XP.q hs rfl (q_num ((4 * i : Nat) : Int) rfl rfl (mul64 (by omega) (by omega) (by omega))) rfl ?_
  refine XP.q hs rfl (q_num ((4 * i + 3 : Nat) : Int) rfl rfl (add64 (by omega) (by omega) (by omega))) rfl ?_
  refine XP.q hs rfl (q_idxS (i := 4 * i + 3) (e := 5) (sz := 1) rfl rfl (by kernel_rfl) (by kernel_rfl) rfl (by omega)) rfl ?_
  refine XP.r hs rfl (q_load rfl (by kernel_rfl) (mA hmem) (hcs (4 * i + 3) (by omega))) rfl ?_
  refine XP.q hs rfl (q_same (k' := .u32) rfl (by kernel_rfl) (by show _ < 2147483648; have := hg (4 * i + 3); omega)) rfl ?_
  refine XP.q hs rfl (q_or32 rfl rfl (or32 (or32 mod32 mod32) mod32) (by have := hg (4 * i + 3); omega)) rfl ?_
  refine XP.q hs rfl (q_idxA (i := i) (e := 22) (n := 64) (sz := 1) rfl rfl (by kernel_rfl) (by kernel_rfl) rfl (by omega)) rfl ?_
  refine XP.tl rfl rfl rfl (l_stN (ws := words p i ++ List.replicate (64 - i) 0) i rfl rfl (by kernel_rfl) (by omega) (by simp [words_len]; omega) UpC.upd ?_)
  refine XP.nil ?_
  refine nb ?_
  refine nx (kq 1 (kq 2 (kq 4 (kq 5 (kq 20 kn))))) ?_
  refine XC.reg1 ?_
  refine XL.q (q_num ((i + 1 : Nat) : Int) rfl rfl (add64 (by omega) (by omega) (by omega))) rfl ?_
  refine mv_ ?_
  refine XL.nil ?_
  refine rn (i + 1) (by omega) (by omega) (kq 1 (kq 2 (kq 4 (kq 5 (kq 20 kn))))) (Fit.eq ?_) (fun _ h => h)
  rw [word_or (hg _) (hg _) (hg _) (hg _), set_ext (words_len p i) (by omega), words_succ]; rfl
 ·
  have hlt : i = 16 := by simp at hc; omega
  subst hlt
  refine XC.exit ?_
  refine te ?_
  refine re ?_
  refine be rfl ?_
  refine nx (kq 2 (kq 4 (kq 5 kn))) ?_
  refine XC.seq ?_
  refine XC.reg ?_
  refine as_ ?_
  refine XL.fin (kq 2 (kq 4 (kq 5 (kq 7 kn)))) ?_
  refine XC.block ?_
  generalize hW0 : words p 16 = W0
  have hW0l : W0.length = 16 := by rw [← hW0]; exact words_len _ _
  have hW0b : ∀ x ∈ W0, x < 4294967296 := by rw [← hW0]; exact words_lt hb _
  refine XC.loop (α := Nat) (fun i => [(2, .pointer (some ⟨b2, 0, none⟩)), (4, .pointer (some ⟨b4, 0, none⟩)), (5, .pointer (some ⟨b5, 0, none⟩)), (7, .int .i64 (i : Int))]) (fun i => [(b5, blk (nums .u32 (wx W0 (i - 16) ++ List.replicate (64 - i) 0)) _), (b4, blk (cells8 ⟨0, 0, 0, 0, 0, 0, 0, 0⟩) _), (b2, blk (nums .u32 s.list) _)]) (fun _ => []) (fun i => 16 ≤ i ∧ i ≤ 64) (fun i => 64 - i) 16 (by decide) (kq 2 (kq 4 (kq 5 (kq 7 kn)))) .rfl (fun _ h => h) ?_
  rintro i ⟨hi, hi2⟩
  have hwl := wx_len W0 (i - 16)
  have hwb : ∀ j, (wx W0 (i - 16) ++ List.replicate (64 - i) 0).getD j 0 < 4294967296 := fun j => getD_lt (fun x hx => by
   rcases List.mem_append.1 hx with hx | hx
   · exact wx_lt hW0b _ _ hx
   · rw [(List.mem_replicate.1 hx).2]; decide) (by decide)
  have hll : (wx W0 (i - 16) ++ List.replicate (64 - i) 0).length = 64 := by simp [wx_len, hW0l]; omega
  try dsimp only
  refine XC.seq ?_
  refine XC.reg ?_
  refine mv_ ?_
  refine XL.q (q_bin rfl rfl rfl) rfl ?_
  refine XL.fin (kq 2 (kq 4 (kq 5 (kq 7 (kq 60 kn))))) ?_
  refine XC.cond rfl (fun hc => ?_) (fun hc => ?_)
  ·
   have hlt : i < 64 := by simp at hc; omega
   refine XC.skip ?_
   refine nx (kq 2 (kq 4 (kq 5 (kq 7 kn)))) ?_
   refine XC.seq ?_
   refine XC.block ?_
   refine XC.draw (_) [0, 1, 2, 3, 4, 5, 6, 7, 8, 9] [(0, 0), (1, 0), (2, 0), (3, 1), (4, 0), (5, 0), (6, 0), (7, 1), (8, 0), (9, 0)] (by kernel_rfl) (by kernel_rfl) (fun _ h => h) fun hs => ?_
   refine XP.q hs rfl qm_ rfl ?_
   refine XP.q hs rfl (q_num ((i - 15 : Nat) : Int) rfl rfl (sub64 (by omega) (by omega) (by omega))) rfl ?_
   refine XP.q hs rfl (q_idxA (i := i - 15) (e := 22) (n := 64) (sz := 1) rfl rfl (by kernel_rfl) (by kernel_rfl) rfl (by omega)) rfl ?_
   refine XP.r hs rfl (q_ldN (i - 15) rfl (by kernel_rfl) At.mem (by omega) (by omega)) rfl ?_
   refine XP.q hs rfl qm_ rfl ?_
   refine XP.q hs rfl (q_num ((i - 2 : Nat) : Int) rfl rfl (sub64 (by omega) (by omega) (by omega))) rfl ?_
   refine XP.q hs rfl (q_idxA (i := i - 2) (e := 22) (n := 64) (sz := 1) rfl rfl (by kernel_rfl) (by kernel_rfl) rfl (by omega)) rfl ?_
   refine XP.r hs rfl (q_ldN (i - 2) rfl (by kernel_rfl) At.mem (by omega) (by omega)) rfl ?_
   refine XP.q hs rfl (q_assign rfl) rfl ?_
   refine XP.q hs rfl (q_assign rfl) rfl ?_
   refine XP.fin (kq 2 (kq 4 (kq 5 (kq 7 (kq 8 (kq 9 kn)))))) ?_
   refine XC.reg ?_
   refine mv_ ?_
   refine XL.cv (aS rfl (aS rfl a0)) (by kernel_rfl) (rot_spec _ 7 _ _ (hwb _) (by decide) (by decide) rfl) rfl ?_
   refine mv_ ?_
   refine XL.cv (aS rfl (aS rfl a0)) (by kernel_rfl) (rot_spec _ 18 _ _ (hwb _) (by decide) (by decide) rfl) rfl ?_
   refine XL.q (q_xor32 rfl rfl (rotr_lt (hwb _)) (rotr_lt (hwb _))) rfl ?_
   refine mv_ ?_
   refine XL.q (q_shrN 3 rfl rfl rfl (by decide)) rfl ?_
   refine XL.q (q_xor32 rfl rfl (xor32 (rotr_lt (hwb _)) (rotr_lt (hwb _))) (shr32 (hwb _))) rfl ?_
   refine as_ ?_
   refine XL.fin (kq 2 (kq 4 (kq 5 (kq 7 (kq 9 (kq 10 kn)))))) ?_
   refine XC.reg ?_
   refine mv_ ?_
   refine XL.cv (aS rfl (aS rfl a0)) (by kernel_rfl) (rot_spec _ 17 _ _ (hwb _) (by decide) (by decide) rfl) rfl ?_
   refine mv_ ?_
   refine XL.cv (aS rfl (aS rfl a0)) (by kernel_rfl) (rot_spec _ 19 _ _ (hwb _) (by decide) (by decide) rfl) rfl ?_
   refine XL.q (q_xor32 rfl rfl (rotr_lt (hwb _)) (rotr_lt (hwb _))) rfl ?_
   refine mv_ ?_
   refine XL.q (q_shrN 10 rfl rfl rfl (by decide)) rfl ?_
   refine XL.q (q_xor32 rfl rfl (xor32 (rotr_lt (hwb _)) (rotr_lt (hwb _))) (shr32 (hwb _))) rfl ?_
   refine as_ ?_
   refine XL.fin (kq 2 (kq 4 (kq 5 (kq 7 (kq 10 (kq 11 kn)))))) ?_
   refine XC.draw1 (_) [0, 1, 2, 3, 4, 5, 6, 7, 8, 9, 10, 11, 12, 13, 14] [(0, 0), (1, 0), (2, 0), (3, 0), (4, 1), (5, 0), (6, 0), (7, 0), (8, 0), (9, 0), (10, 1), (11, 0), (12, 0), (13, 0), (14, 0), (15, 2)] (by kernel_rfl) (by kernel_rfl) (fun _ h => h) fun hs => ?_
   refine XP.q hs rfl qm_ rfl ?_
   refine XP.q hs rfl qm_ rfl ?_
   refine XP.q hs rfl (q_num ((i - 16 : Nat) : Int) rfl rfl (sub64 (by omega) (by omega) (by omega))) rfl ?_
   refine XP.q hs rfl (q_idxA (i := i - 16) (e := 22) (n := 64) (sz := 1) rfl rfl (by kernel_rfl) (by kernel_rfl) rfl (by omega)) rfl ?_
   refine XP.r hs rfl (q_ldN (i - 16) rfl (by kernel_rfl) At.mem (by omega) (by omega)) rfl ?_
   refine XP.q hs rfl qm_ rfl ?_
   refine XP.q hs rfl (q_add32 rfl rfl) rfl ?_
   refine XP.q hs rfl qm_ rfl ?_
   refine XP.q hs rfl (q_num ((i - 7 : Nat) : Int) rfl rfl (sub64 (by omega) (by omega) (by omega))) rfl ?_
   refine XP.q hs rfl (q_idxA (i := i - 7) (e := 22) (n := 64) (sz := 1) rfl rfl (by kernel_rfl) (by kernel_rfl) rfl (by omega)) rfl ?_
   refine XP.r hs rfl (q_ldN (i - 7) rfl (by kernel_rfl) At.mem (by omega) (by omega)) rfl ?_
   refine XP.q hs rfl (q_add32 rfl rfl) rfl ?_
   refine XP.q hs rfl qm_ rfl ?_
   refine XP.q hs rfl (q_add32 rfl rfl) rfl ?_
   refine XP.q hs rfl (q_idxA (i := i) (e := 22) (n := 64) (sz := 1) rfl rfl (by kernel_rfl) (by kernel_rfl) rfl (by omega)) rfl ?_
   refine XP.tl rfl rfl rfl (l_stN (ws := wx W0 (i - 16) ++ List.replicate (64 - i) 0) i rfl rfl (by kernel_rfl) (by omega) (by omega) UpC.upd ?_)
   refine XP.nil ?_
   refine nb ?_
   refine nx (kq 2 (kq 4 (kq 5 (kq 7 kn)))) ?_
   refine XC.reg1 ?_
   refine mv_ ?_
   refine XL.q (q_num ((i + 1 : Nat) : Int) rfl rfl (add64 (by omega) (by omega) (by omega))) rfl ?_
   refine as_ ?_
   refine XL.nil ?_
   refine rn (i + 1) ⟨by omega, by omega⟩ (by omega) (kq 2 (kq 4 (kq 5 (kq 7 kn)))) (Fit.eq ?_) (fun _ h => h)
   have e := wnext_ext (us := List.replicate (64 - i) 0) (show (wx W0 (i - 16)).length = i by omega) hi hlt
   unfold sg0 sg1 at e
   rw [e, set_ext (by omega) hlt, show i + 1 - 16 = (i - 16) + 1 by omega, wx, show W0.length + (i - 16) = i by omega]
  ·
   have hlt : i = 64 := by simp at hc; omega
   subst hlt
   refine XC.exit ?_
   refine te ?_
   refine re ?_
   refine be rfl ?_
   refine nx (kq 2 (kq 4 (kq 5 kn))) ?_
   refine XC.reg ?_
   refine XL.ldW (n := 8) rfl (by kernel_rfl) (by rfl) rfl ?_
   refine XL.lo rfl (l_alloc (cs := [.int .u32 0, .int .u32 0, .int .u32 0, .int .u32 0, .int .u32 0, .int .u32 0, .int .u32 0, .int .u32 0]) (by kernel_rfl) rfl fun b12 => ?_)
   refine XL.stW rfl rfl (by kernel_rfl) (by rfl) nums_one ?_
   refine XL.fin (kq 2 (kq 4 (kq 5 (kq 12 kn)))) ?_
   refine XC.seq ?_
   refine XC.reg ?_
   refine mv_ ?_
   refine XL.fin (kq 2 (kq 4 (kq 5 (kq 12 (kq 103 kn))))) ?_
   refine XC.block ?_
   generalize hW : wx W0 48 = W
   have hWl : W.length = 64 := by rw [← hW, wx_len]; omega
   have hWb : ∀ j, W.getD j 0 < 4294967296 := fun j => getD_lt (by rw [← hW]; exact wx_lt hW0b _) (by decide)
   have hkt : ∀ j, kTab.getD j 0 < 4294967296 := fun j => getD_lt ktab_lt (by decide)
   refine XC.loop (α := Nat) (fun i => [(2, .pointer (some ⟨b2, 0, none⟩)), (4, .pointer (some ⟨b4, 0, none⟩)), (5, .pointer (some ⟨b5, 0, none⟩)), (12, .pointer (some ⟨b12, 0, none⟩)), (103, .int .i64 (i : Int))]) (fun i => [(b12, blk (cells8 (rounds kTab W s i)) _), (b5, blk (nums .u32 W) _), (b4, blk (cells8 ⟨0, 0, 0, 0, 0, 0, 0, 0⟩) _), (b2, blk (nums .u32 s.list) _)]) (fun _ => []) (fun i => i ≤ 64) (fun i => 64 - i) 0 (Nat.zero_le _) (kq 2 (kq 4 (kq 5 (kq 12 (kq 103 kn))))) (Fit.eq (by rw [show List.replicate (64 - 64) 0 = [] from rfl, List.append_nil]; rfl)) (fun _ h => h) ?_
   intro i hi
   have hro := hs0.rounds kTab W i
   generalize hr : rounds kTab W s i = r at hro
   rw [S8.ok_iff] at hro
   obtain ⟨ra, rb, rc, rd, re', rf, rg, rh⟩ := hro
   try dsimp only at hi ⊢
   refine XC.reg ?_
   refine XL.q (q_bin rfl rfl rfl) rfl ?_
   refine XL.fin (kq 2 (kq 4 (kq 5 (kq 12 (kq 103 (kq 104 kn)))))) ?_
   refine XC.seq ?_
   refine XC.cond rfl (fun hc => ?_) (fun hc => ?_)
   ·
    have hlt : i < 64 := by simp at hc; omega
    refine XC.skip ?_
    refine nx (kq 2 (kq 4 (kq 5 (kq 12 (kq 103 kn))))) ?_
    refine XC.seq ?_
    refine XC.block ?_
    refine XC.reg ?_
    refine mv_ (as_ ?_)
    refine XL.fin (kq 2 (kq 4 (kq 5 (kq 12 (kq 13 (kq 103 kn)))))) ?_
    refine XC.draw (_) [0, 1, 2, 3, 4, 5, 6, 7, 8, 10, 11] [(0, 0), (1, 1), (3, 0), (4, 1), (7, 0), (8, 1), (2, 2), (5, 2), (6, 0), (9, 2), (10, 0), (11, 0)] (by kernel_rfl) (by kernel_rfl) (fun _ h => h) fun hs => ?_
    refine XP.q hs rfl (q_idxA (i := 4) (e := 22) (n := 8) (sz := 1) rfl rfl (by kernel_rfl) (by kernel_rfl) rfl (by decide)) rfl ?_
    refine XP.r hs rfl (q_load rfl (by kernel_rfl) At.mem (by rfl)) rfl ?_
    refine XP.q hs rfl (q_idxA (i := 4) (e := 22) (n := 8) (sz := 1) rfl rfl (by kernel_rfl) (by kernel_rfl) rfl (by decide)) rfl ?_
    refine XP.r hs rfl (q_load rfl (by kernel_rfl) At.mem (by rfl)) rfl ?_
    refine XP.q hs rfl (q_idxA (i := 4) (e := 22) (n := 8) (sz := 1) rfl rfl (by kernel_rfl) (by kernel_rfl) rfl (by decide)) rfl ?_
    refine XP.r hs rfl (q_load rfl (by kernel_rfl) At.mem (by rfl)) rfl ?_
    refine XP.lo rfl rfl (l_callV (aS rfl (aS rfl a0)) (by kernel_rfl) (rot_spec _ 6 _ _ re' (by decide) (by decide) rfl) rfl ⟨fun _ h => h, ?_⟩)
    refine XP.lo rfl rfl (l_callV (aS rfl (aS rfl a0)) (by kernel_rfl) (rot_spec _ 11 _ _ re' (by decide) (by decide) rfl) rfl ⟨fun _ h => h, ?_⟩)
    refine XP.q hs rfl (q_xor32 rfl rfl (rotr_lt re') (rotr_lt re')) rfl ?_
    refine XP.tl rfl rfl rfl (l_callV (aS rfl (aS rfl a0)) (by kernel_rfl) (rot_spec _ 25 _ _ re' (by decide) (by decide) rfl) rfl ?_)
    refine XP.q hs rfl (q_xor32 rfl rfl (xor32 (rotr_lt re') (rotr_lt re')) (rotr_lt re')) rfl ?_
    refine XP.q hs rfl (q_assign rfl) rfl ?_
    refine XP.fin (kq 2 (kq 4 (kq 5 (kq 12 (kq 13 (kq 14 (kq 103 kn))))))) ?_
    refine XC.reg ?_
    refine XL.q (q_idxA (i := 4) (e := 22) (n := 8) (sz := 1) rfl rfl (by kernel_rfl) (by kernel_rfl) rfl (by decide)) rfl ?_
    refine XL.ld rfl (by kernel_rfl) (by rfl) rfl ?_
    refine XL.q (q_idxA (i := 5) (e := 22) (n := 8) (sz := 1) rfl rfl (by kernel_rfl) (by kernel_rfl) rfl (by decide)) rfl ?_
    refine XL.ld rfl (by kernel_rfl) (by rfl) rfl ?_
    refine XL.q (q_and32 rfl rfl re' rf) rfl ?_
    refine XL.q (q_idxA (i := 4) (e := 22) (n := 8) (sz := 1) rfl rfl (by kernel_rfl) (by kernel_rfl) rfl (by decide)) rfl ?_
    refine XL.ld rfl (by kernel_rfl) (by rfl) rfl ?_
    refine XL.q (q_com32 rfl re') rfl ?_
    refine XL.q (q_idxA (i := 6) (e := 22) (n := 8) (sz := 1) rfl rfl (by kernel_rfl) (by kernel_rfl) rfl (by decide)) rfl ?_
    refine XL.ld rfl (by kernel_rfl) (by rfl) rfl ?_
    refine XL.q (q_and32 rfl rfl (xor32 (by decide) re') rg) rfl ?_
    refine XL.q (q_xor32 rfl rfl (and32 re') (and32 (xor32 (by decide) re'))) rfl ?_
    refine as_ ?_
    refine XL.fin (kq 2 (kq 4 (kq 5 (kq 12 (kq 13 (kq 14 (kq 15 (kq 103 kn)))))))) ?_
    refine XC.draw (_) [0, 1, 2, 3, 4, 5, 6, 7, 8, 9, 10, 11, 12, 13, 14] [(0, 0), (1, 1), (2, 0), (3, 0), (4, 0), (5, 0), (6, 0), (7, 0), (8, 1), (9, 0), (10, 0), (11, 0), (12, 1), (13, 0), (14, 0)] (by kernel_rfl) (by kernel_rfl) (fun _ h => h) fun hs => ?_
    refine XP.q hs rfl (q_idxA (i := 7) (e := 22) (n := 8) (sz := 1) rfl rfl (by kernel_rfl) (by kernel_rfl) rfl (by decide)) rfl ?_
    refine XP.r hs rfl (q_load rfl (by kernel_rfl) At.mem (by rfl)) rfl ?_
    refine XP.q hs rfl qm_ rfl ?_
    refine XP.q hs rfl (q_add32 rfl rfl) rfl ?_
    refine XP.q hs rfl qm_ rfl ?_
    refine XP.q hs rfl (q_add32 rfl rfl) rfl ?_
    refine XP.q hs rfl qm_ rfl ?_
    refine XP.q hs rfl (q_idxA (i := i) (e := 22) (n := 64) (sz := 1) rfl rfl (by kernel_rfl) (by kernel_rfl) rfl (by omega)) rfl ?_
    refine XP.r hs rfl (q_ldN i rfl (by kernel_rfl) (mA hk) (by omega) (show i < 64 from hlt)) rfl ?_
    refine XP.q hs rfl (q_add32 rfl rfl) rfl ?_
    refine XP.q hs rfl qm_ rfl ?_
    refine XP.q hs rfl (q_idxA (i := i) (e := 22) (n := 64) (sz := 1) rfl rfl (by kernel_rfl) (by kernel_rfl) rfl (by omega)) rfl ?_
    refine XP.r hs rfl (q_ldN i rfl (by kernel_rfl) At.mem (by omega) (by omega)) rfl ?_
    refine XP.q hs rfl (q_add32 rfl rfl) rfl ?_
    refine XP.q hs rfl (q_assign rfl) rfl ?_
    refine XP.fin (kq 2 (kq 4 (kq 5 (kq 12 (kq 16 (kq 103 kn)))))) ?_
    refine XC.draw (_) [0, 1, 2, 3, 4, 5, 6, 7, 8, 10, 11] [(0, 0), (1, 1), (3, 0), (4, 1), (7, 0), (8, 1), (2, 2), (5, 2), (6, 0), (9, 2), (10, 0), (11, 0)] (by kernel_rfl) (by kernel_rfl) (fun _ h => h) fun hs => ?_
    refine XP.q hs rfl (q_idxA (i := 0) (e := 22) (n := 8) (sz := 1) rfl rfl (by kernel_rfl) (by kernel_rfl) rfl (by decide)) rfl ?_
    refine XP.r hs rfl (q_load rfl (by kernel_rfl) At.mem (by rfl)) rfl ?_
    refine XP.q hs rfl (q_idxA (i := 0) (e := 22) (n := 8) (sz := 1) rfl rfl (by kernel_rfl) (by kernel_rfl) rfl (by decide)) rfl ?_
    refine XP.r hs rfl (q_load rfl (by kernel_rfl) At.mem (by rfl)) rfl ?_
    refine XP.q hs rfl (q_idxA (i := 0) (e := 22) (n := 8) (sz := 1) rfl rfl (by kernel_rfl) (by kernel_rfl) rfl (by decide)) rfl ?_
    refine XP.r hs rfl (q_load rfl (by kernel_rfl) At.mem (by rfl)) rfl ?_
    refine XP.lo rfl rfl (l_callV (aS rfl (aS rfl a0)) (by kernel_rfl) (rot_spec _ 2 _ _ ra (by decide) (by decide) rfl) rfl ⟨fun _ h => h, ?_⟩)
    refine XP.lo rfl rfl (l_callV (aS rfl (aS rfl a0)) (by kernel_rfl) (rot_spec _ 13 _ _ ra (by decide) (by decide) rfl) rfl ⟨fun _ h => h, ?_⟩)
    refine XP.q hs rfl (q_xor32 rfl rfl (rotr_lt ra) (rotr_lt ra)) rfl ?_
    refine XP.tl rfl rfl rfl (l_callV (aS rfl (aS rfl a0)) (by kernel_rfl) (rot_spec _ 22 _ _ ra (by decide) (by decide) rfl) rfl ?_)
    refine XP.q hs rfl (q_xor32 rfl rfl (xor32 (rotr_lt ra) (rotr_lt ra)) (rotr_lt ra)) rfl ?_
    refine XP.q hs rfl (q_assign rfl) rfl ?_
    refine XP.fin (kq 2 (kq 4 (kq 5 (kq 12 (kq 16 (kq 17 (kq 103 kn))))))) ?_
    refine XC.reg ?_
    refine XL.q (q_idxA (i := 0) (e := 22) (n := 8) (sz := 1) rfl rfl (by kernel_rfl) (by kernel_rfl) rfl (by decide)) rfl ?_
    refine XL.ld rfl (by kernel_rfl) (by rfl) rfl ?_
    refine XL.q (q_idxA (i := 1) (e := 22) (n := 8) (sz := 1) rfl rfl (by kernel_rfl) (by kernel_rfl) rfl (by decide)) rfl ?_
    refine XL.ld rfl (by kernel_rfl) (by rfl) rfl ?_
    refine XL.q (q_and32 rfl rfl ra rb) rfl ?_
    refine XL.q (q_idxA (i := 0) (e := 22) (n := 8) (sz := 1) rfl rfl (by kernel_rfl) (by kernel_rfl) rfl (by decide)) rfl ?_
    refine XL.ld rfl (by kernel_rfl) (by rfl) rfl ?_
    refine XL.q (q_idxA (i := 2) (e := 22) (n := 8) (sz := 1) rfl rfl (by kernel_rfl) (by kernel_rfl) rfl (by decide)) rfl ?_
    refine XL.ld rfl (by kernel_rfl) (by rfl) rfl ?_
    refine XL.q (q_and32 rfl rfl ra rc) rfl ?_
    refine XL.q (q_xor32 rfl rfl (and32 ra) (and32 ra)) rfl ?_
    refine XL.q (q_idxA (i := 1) (e := 22) (n := 8) (sz := 1) rfl rfl (by kernel_rfl) (by kernel_rfl) rfl (by decide)) rfl ?_
    refine XL.ld rfl (by kernel_rfl) (by rfl) rfl ?_
    refine XL.q (q_idxA (i := 2) (e := 22) (n := 8) (sz := 1) rfl rfl (by kernel_rfl) (by kernel_rfl) rfl (by decide)) rfl ?_
    refine XL.ld rfl (by kernel_rfl) (by rfl) rfl ?_
    refine XL.q (q_and32 rfl rfl rb rc) rfl ?_
    refine XL.q (q_xor32 rfl rfl (xor32 (and32 ra) (and32 ra)) (and32 rb)) rfl ?_
    refine as_ ?_
    refine XL.fin (kq 2 (kq 4 (kq 5 (kq 12 (kq 16 (kq 17 (kq 18 (kq 103 kn)))))))) ?_
    refine XC.reg1 ?_
    refine mv_ (mv_ ?_)
    refine XL.q (q_add32 rfl rfl) rfl ?_
    refine mv_ ?_
    refine XL.q (q_add32 rfl rfl) rfl ?_
    refine XL.q (q_idxA (i := 0) (e := 22) (n := 8) (sz := 1) rfl rfl (by kernel_rfl) (by kernel_rfl) rfl (by decide)) rfl ?_
    refine XL.ld rfl (by kernel_rfl) (by rfl) rfl ?_
    refine XL.q (q_idxA (i := 1) (e := 22) (n := 8) (sz := 1) rfl rfl (by kernel_rfl) (by kernel_rfl) rfl (by decide)) rfl ?_
    refine XL.ld rfl (by kernel_rfl) (by rfl) rfl ?_
    refine XL.q (q_idxA (i := 2) (e := 22) (n := 8) (sz := 1) rfl rfl (by kernel_rfl) (by kernel_rfl) rfl (by decide)) rfl ?_
    refine XL.ld rfl (by kernel_rfl) (by rfl) rfl ?_
    refine XL.q (q_idxA (i := 3) (e := 22) (n := 8) (sz := 1) rfl rfl (by kernel_rfl) (by kernel_rfl) rfl (by decide)) rfl ?_
    refine XL.ld rfl (by kernel_rfl) (by rfl) rfl ?_
    refine mv_ ?_
    refine XL.q (q_add32 rfl rfl) rfl ?_
    refine XL.q (q_idxA (i := 4) (e := 22) (n := 8) (sz := 1) rfl rfl (by kernel_rfl) (by kernel_rfl) rfl (by decide)) rfl ?_
    refine XL.ld rfl (by kernel_rfl) (by rfl) rfl ?_
    refine XL.q (q_idxA (i := 5) (e := 22) (n := 8) (sz := 1) rfl rfl (by kernel_rfl) (by kernel_rfl) rfl (by decide)) rfl ?_
    refine XL.ld rfl (by kernel_rfl) (by rfl) rfl ?_
    refine XL.q (q_idxA (i := 6) (e := 22) (n := 8) (sz := 1) rfl rfl (by kernel_rfl) (by kernel_rfl) rfl (by decide)) rfl ?_
    refine XL.ld rfl (by kernel_rfl) (by rfl) rfl ?_
    refine XL.q (q_build (place := fun i => some (i * 1, 1)) (z := [.int .u32 0, .int .u32 0, .int .u32 0, .int .u32 0, .int .u32 0, .int .u32 0, .int .u32 0, .int .u32 0]) (fun _ => by kernel_rfl) (eS rfl (eS rfl (eS rfl (eS rfl (eS rfl (eS rfl (eS rfl (eS rfl e0)))))))) (bdS 0 1 rfl (by rfl) (bdS 1 1 rfl (by rfl) (bdS 2 1 rfl (by rfl) (bdS 3 1 rfl (by rfl) (bdS 4 1 rfl (by rfl) (bdS 5 1 rfl (by rfl) (bdS 6 1 rfl (by rfl) (bdS 7 1 rfl (by rfl) bd0))))))))) rfl ?_
    refine XL.stW rfl rfl (by kernel_rfl) (by rfl) (by simp [Value.oneCell']) ?_
    refine XL.nil ?_
    refine nb ?_
    refine nx (kq 2 (kq 4 (kq 5 (kq 12 (kq 103 kn))))) ?_
    refine XC.reg1 ?_
    refine XL.q (q_num ((i + 1 : Nat) : Int) rfl rfl (add64 (by omega) (by omega) (by omega))) rfl ?_
    refine mv_ ?_
    refine XL.nil ?_
    refine rn (i + 1) (by omega) (by omega) (kq 2 (kq 4 (kq 5 (kq 12 (kq 103 kn))))) (Fit.eq ?_) (fun _ h => h)
    rw [rounds, hr]; rfl
   ·
    have hlt : i = 64 := by simp at hc; omega
    subst hlt
    refine XC.exit ?_
    refine te ?_
    refine re ?_
    refine be rfl ?_
    refine nx (kq 2 (kq 4 (kq 12 kn))) ?_
    refine XC.seq ?_
    refine XC.reg ?_
    refine mv_ ?_
    refine XL.fin (kq 2 (kq 4 (kq 12 (kq 194 kn)))) ?_
    refine XC.block ?_
    refine XC.loop (α := Nat) (fun i => [(2, .pointer (some ⟨b2, 0, none⟩)), (4, .pointer (some ⟨b4, 0, none⟩)), (12, .pointer (some ⟨b12, 0, none⟩)), (194, .int .i64 (i : Int))]) (fun i => [(b12, blk (nums .u32 r.list) _), (b5, blk (nums .u32 W) _), (b4, blk (cells8 ⟨0, 0, 0, 0, 0, 0, 0, 0⟩) _), (b2, blk (nums .u32 (plusAt s r i)) _)]) (fun _ => []) (fun i => i ≤ 8) (fun i => 8 - i) 0 (Nat.zero_le _) (kq 2 (kq 4 (kq 12 (kq 194 kn)))) .rfl (fun _ h => h) ?_
    intro i hi
    try dsimp only at hi ⊢
    refine XC.reg ?_
    refine XL.q (q_bin rfl rfl rfl) rfl ?_
    refine XL.fin (kq 2 (kq 4 (kq 12 (kq 194 (kq 195 kn))))) ?_
    refine XC.seq ?_
    refine XC.cond rfl (fun hc => ?_) (fun hc => ?_)
    ·
     have hlt : i < 8 := by simp at hc; omega
     refine XC.skip ?_
     refine nx (kq 2 (kq 4 (kq 12 (kq 194 kn)))) ?_
     refine XC.seq ?_
     refine XC.block ?_
     refine XC.reg ?_
     refine mv_ (as_ ?_)
     refine XL.fin (kq 2 (kq 4 (kq 12 (kq 19 (kq 194 kn))))) ?_
     refine XC.draw1 (_) [0, 1, 2, 3, 4, 5, 6, 7] [(0, 0), (1, 0), (2, 1), (3, 0), (4, 0), (5, 1), (6, 0), (7, 0), (8, 2)] (by kernel_rfl) (by kernel_rfl) (fun _ h => h) fun hs => ?_
     refine XP.q hs rfl qm_ rfl ?_
     refine XP.q hs rfl (q_idxA (i := i) (e := 22) (n := 8) (sz := 1) rfl rfl (by kernel_rfl) (by kernel_rfl) rfl (by omega)) rfl ?_
     refine XP.r hs rfl (q_ldN i rfl (by kernel_rfl) At.mem (by omega) (by rw [plusAt_len _ _ _ hi]; exact hlt)) rfl ?_
     refine XP.q hs rfl qm_ rfl ?_
     refine XP.q hs rfl (q_idxA (i := i) (e := 22) (n := 8) (sz := 1) rfl rfl (by kernel_rfl) (by kernel_rfl) rfl (by omega)) rfl ?_
     refine XP.r hs rfl (q_ldN i rfl (by kernel_rfl) At.mem (by omega) (show i < 8 from hlt)) rfl ?_
     refine XP.q hs rfl (q_add32 rfl rfl) rfl ?_
     refine XP.q hs rfl (q_idxA (i := i) (e := 22) (n := 8) (sz := 1) rfl rfl (by kernel_rfl) (by kernel_rfl) rfl (by omega)) rfl ?_
     refine XP.tl rfl rfl rfl (l_stN (ws := plusAt s r i) i rfl rfl (by kernel_rfl) (by omega) (by rw [plusAt_len _ _ _ hi]; exact hlt) UpC.upd ?_)
     refine XP.nil ?_
     refine nb ?_
     refine nx (kq 2 (kq 4 (kq 12 (kq 194 kn)))) ?_
     refine XC.reg1 ?_
     refine XL.q (q_num ((i + 1 : Nat) : Int) rfl rfl (add64 (by omega) (by omega) (by omega))) rfl ?_
     refine mv_ ?_
     refine XL.nil ?_
     refine rn (i + 1) (by omega) (by omega) (kq 2 (kq 4 (kq 12 (kq 194 kn)))) (Fit.eq ?_) (fun _ h => h)
     rw [plusAt_get _ _ _ hlt, plusAt_succ _ _ _ hlt]
    ·
     have hlt : i = 8 := by simp at hc; omega
     subst hlt
     refine XC.exit ?_
     refine te ?_
     refine re ?_
     refine be rfl ?_
     refine nx (kq 2 (kq 4 kn)) ?_
     refine XC.reg ?_
     refine XL.ldW (n := 8) rfl (by kernel_rfl) (by rfl) rfl ?_
     refine XL.stW rfl rfl (by kernel_rfl) (by rfl) nums_one ?_
     refine XL.fin (kq 4 kn) ?_
     refine XC.ret ?_
     refine ⟨_, [], [], resC (n := 8) rfl rfl (by kernel_rfl) m2 rfl, List.nil_sublist _, by simp, ?_, rfl, rfl⟩
     unfold shaBlock; rw [hW0, hW, hr]; rfl

end Go.Proofs.YtphcaiplgpmnnaaGreatDoor
