/- Part 7 of the texts of this claim, one behind the other. -/
import Derived.Test.YtphcaiplgpmnnaaGreatDoorB6
import Derived.WalkKit
import Derived.ProofKit
import Derived.OpenShut
import Derived.ShutString
import Derived.ChangeOld
import Derived.Below
set_option linter.unusedVariables false
set_option linter.unusedSimpArgs false
set_option maxRecDepth 100000
namespace Go.Proofs.YtphcaiplgpmnnaaGreatDoor
open Go.Px
/-- A number's bits, its bytes. -/
def u64 (i : Int) : Nat := (i % 18446744073709551616).toNat
def byt (i : Int) (k : Nat) : Nat := (i / ((256 ^ k : Nat) : Int) % 256).toNat
theorem byt_u (i : Int) {k : Nat} (hk : k < 8) : byt i k = u64 i / 256 ^ k % 256 := by
  unfold byt u64
  rcases (show k = 0 ∨ k = 1 ∨ k = 2 ∨ k = 3 ∨ k = 4 ∨ k = 5 ∨ k = 6 ∨ k = 7 by omega) with rfl | rfl | rfl | rfl | rfl | rfl | rfl | rfl <;> simp only [Nat.reducePow] <;> omega
theorem byt_lt (i : Int) (k : Nat) : byt i k < 256 := by unfold byt; omega
theorem u64_lt (i : Int) : u64 i < 18446744073709551616 := by unfold u64; omega
/-- The bytes that stand for a place, when so many of the number's are laid. -/
def btk (i : Int) (k : Nat) : List Nat := 84 :: ((List.range k).map (byt i) ++ List.replicate (31 - k) 0)
def bts (i : Int) : List Nat := btk i 8
theorem btk_len (i : Int) {k : Nat} (h : k ≤ 31) : (btk i k).length = 32 := by simp [btk]; omega
theorem btk_succ (i : Int) {k : Nat} (h : k < 31) : (btk i k).set (1 + k) (byt i k) = btk i (k + 1) := by
  unfold btk
  rw [show 1 + k = k + 1 by omega, List.set_cons_succ, List.set_append_right _ _ (by simp), List.range_succ, List.map_append]
  simp only [List.length_map, List.length_range, Nat.sub_self]
  rw [show 31 - k = (31 - (k + 1)) + 1 by omega, List.replicate_succ, List.set_cons_zero]
  simp
theorem bts_get (i : Int) {k : Nat} (h : k < 8) : (bts i).getD (1 + k) 0 = byt i k := by
  unfold bts btk
  rw [show 1 + k = k + 1 by omega, List.getD_cons_succ, List.getD_eq_getElem?_getD, List.getElem?_append_left (by simpa using h)]
  simp [h]
theorem bts_b (i : Int) : ∀ x ∈ bts i, x < 256 := by
  intro x hx
  simp only [bts, btk, List.mem_cons, List.mem_append, List.mem_map, List.mem_replicate] at hx
  rcases hx with rfl | ⟨k, _, rfl⟩ | ⟨_, rfl⟩
  · decide
  · exact byt_lt i k
  · decide
/-- The number of the eight bytes behind the first one. -/
def le8 (ws : List Nat) : Nat → Nat
  | 0 => 0
  | k + 1 => le8 ws k + ws.getD (1 + k) 0 * 256 ^ k
theorem getD_l8 {ws : List Nat} (h : ∀ x ∈ ws, x < 256) (j : Nat) : ws.getD j 0 < 256 := by
  rw [List.getD_eq_getElem?_getD]
  cases hj : ws[j]? with
  | none => decide
  | some x => exact h x (List.mem_of_getElem? hj)
theorem le8_lt {ws : List Nat} (h : ∀ x ∈ ws, x < 256) : ∀ k, le8 ws k < 256 ^ k
  | 0 => by show 0 < 1; decide
  | k + 1 => by
    have h1 := le8_lt h k
    have h2 := getD_l8 h (1 + k)
    have h3 : ws.getD (1 + k) 0 * 256 ^ k ≤ 255 * 256 ^ k := Nat.mul_le_mul_right _ (by omega)
    unfold le8
    rw [Nat.pow_succ]; omega
theorem le8_bts (i : Int) : ∀ k, k ≤ 8 → le8 (bts i) k = u64 i % 256 ^ k
  | 0, _ => by simp [le8, Nat.mod_one]
  | k + 1, h => by
    rw [le8, le8_bts i k (by omega), bts_get i (by omega), byt_u i (by omega), Nat.pow_succ, Nat.mod_mul, Nat.mul_comm (256 ^ k)]
/-- The place for which bytes stand, of so many. -/
def plc (ws : List Nat) (n : Nat) : Option Nat := if 32 ≤ ws.length ∧ ws.getD 0 0 = 84 ∧ (∀ c ∈ ws.drop 9, c = 0) ∧ le8 ws 8 < n then some (le8 ws 8) else none
theorem plc_no {ws : List Nat} {n : Nat} (h : ¬ (32 ≤ ws.length ∧ ws.getD 0 0 = 84 ∧ (∀ c ∈ ws.drop 9, c = 0) ∧ le8 ws 8 < n)) : plc ws n = none := if_neg h
theorem plc_yes {ws : List Nat} {n : Nat} (h : 32 ≤ ws.length ∧ ws.getD 0 0 = 84 ∧ (∀ c ∈ ws.drop 9, c = 0) ∧ le8 ws 8 < n) : plc ws n = some (le8 ws 8) := if_pos h
theorem plc_r0 {ws : List Nat} {n : Nat} (h : plc ws n = none) : Value.tuple #[.int .i64 0, .bool false] = .tuple #[.int .i64 (((plc ws n).getD 0 : Nat) : Int), .bool (plc ws n).isSome] := by rw [h]; rfl
theorem plc_r1 {ws : List Nat} {n m : Nat} (h : plc ws n = some m) : Value.tuple #[.int .i64 (m : Int), .bool true] = .tuple #[.int .i64 (((plc ws n).getD 0 : Nat) : Int), .bool (plc ws n).isSome] := by rw [h]; rfl
theorem plc_len {ws : List Nat} {n : Nat} (h : ws.length < 32) : plc ws n = none := plc_no fun h' => absurd h'.1 (by omega)
theorem plc_84 {ws : List Nat} {n : Nat} (h : ws.getD 0 0 ≠ 84) : plc ws n = none := plc_no fun h' => h h'.2.1
theorem plc_nz {ws : List Nat} {n j : Nat} (hj : j < (ws.drop 9).length) (h : (ws.drop 9).getD j 0 ≠ 0) : plc ws n = none := plc_no fun h' => h (h'.2.2.1 _ (by rw [List.getD_eq_getElem?_getD, List.getElem?_eq_getElem hj]; exact List.getElem_mem hj))
theorem plc_ge {ws : List Nat} {n m : Nat} (h8 : le8 ws 8 = m) (h : n ≤ m) : plc ws n = none := plc_no fun h' => by
  have := h'.2.2.2
  rw [h8] at this
  exact absurd this (Nat.not_lt.2 h)
theorem plc_some {ws : List Nat} {n m : Nat} (h8 : le8 ws 8 = m) (h1 : 32 ≤ ws.length) (h2 : ws.getD 0 0 = 84) (h3 : ∀ c ∈ ws.drop 9, c = 0) (h : m < n) : plc ws n = some m := by
  rw [plc_yes ⟨h1, h2, h3, by rw [h8]; exact h⟩, h8]
theorem plc_bts (i : Int) (n : Nat) : plc (bts i) n = if u64 i < n then some (u64 i) else none := by
  have e : le8 (bts i) 8 = u64 i := by rw [le8_bts i 8 (by omega)]; exact Nat.mod_eq_of_lt (u64_lt i)
  have hd : ∀ c ∈ (bts i).drop 9, c = 0 := by
    intro c hc
    unfold bts btk at hc
    rw [List.drop_succ_cons, List.drop_append_of_le_length (by simp)] at hc
    simp only [List.mem_append] at hc
    rcases hc with hc | hc
    · rw [List.drop_of_length_le (by simp)] at hc; cases hc
    · exact (List.mem_replicate.1 hc).2
  unfold plc
  rw [e, btk_len i (k := 8) (by omega) |> (fun h => (h : (bts i).length = 32))]
  by_cases h : u64 i < n
  · rw [if_pos h, if_pos ⟨by omega, rfl, hd, h⟩]
  · rw [if_neg h, if_neg (fun h' => h h'.2.2.2)]
theorem or_addT {n w k : Nat} (h : n < 2 ^ k) : n ||| w * 2 ^ k = n + w * 2 ^ k := by
  have := Nat.two_pow_add_eq_or_of_lt h w
  rw [Nat.mul_comm w, Nat.or_comm, Nat.add_comm n]; exact this.symm
theorem le8_w {ws : List Nat} (h : ∀ x ∈ ws, x < 256) {k : Nat} (hk : k < 8) : ws.getD (1 + k) 0 * 2 ^ (8 * k) < 18446744073709551616 := by
  have h2 := getD_l8 h (1 + k)
  have hpk : (256 : Nat) ^ k ≤ 256 ^ 7 := Nat.pow_le_pow_right (by decide) (by omega)
  have hmk : ws.getD (1 + k) 0 * 256 ^ k ≤ 255 * 256 ^ 7 := Nat.mul_le_mul (by omega) hpk
  rw [Nat.pow_mul]
  exact Nat.lt_of_le_of_lt hmk (by decide)
theorem le8_n {ws : List Nat} (h : ∀ x ∈ ws, x < 256) {k : Nat} (hk : k < 8) : le8 ws k < 18446744073709551616 :=
  Nat.lt_of_lt_of_le (le8_lt h k) (Nat.le_trans (Nat.pow_le_pow_right (by decide) (show k ≤ 7 by omega)) (by decide))
theorem le8_or {ws : List Nat} (h : ∀ x ∈ ws, x < 256) (k : Nat) : le8 ws k ||| ws.getD (1 + k) 0 * 2 ^ (8 * k) = le8 ws (k + 1) := by
  rw [or_addT (by rw [Nat.pow_mul]; exact le8_lt h k), Nat.pow_mul]; rfl
end Go.Proofs.YtphcaiplgpmnnaaGreatDoor
namespace Go.Px
theorem q_or64 {P : Program} {R : Mem} {l : Env} {d : Option Nat} {ty t t' : TypeId} {pos : String} {af : Array Edge} {g : Option (Nat × Bool)} {x y : Operand} {a b : Nat} (hx : ev l x = some (.int .u64 (a : Int))) (hy : ev l y = some (.int .u64 (b : Int))) (ha : a < 18446744073709551616) (hb : b < 18446744073709551616) : OpQ P R ⟨d, .binOp .or t x y t', ty, pos, af, g⟩ l (.int .u64 ((a ||| b : Nat) : Int)) := q_or rfl hx hy ha hb
section
variable {P : Program} {R R' : Mem} {l : Env} {d : Option Nat} {ty t t' : TypeId} {pos : String} {af : Array Edge} {g : Option (Nat × Bool)} {x y : Operand} {i j : Int} {k : Nat}
theorem q_shr8 (hx : ev l x = some (.int .i64 i)) (hy : ev l y = some (.int .i64 j)) (hj : j = ((8 * k : Nat) : Int)) (hk : k < 8) : OpQ P R ⟨d, .binOp .shr t x y t', ty, pos, af, g⟩ l (.int .i64 (i / ((256 ^ k : Nat) : Int))) := by
  subst hj
  have h := q_shr (P := P) (R := R) (d := d) (ty := ty) (pos := pos) (af := af) (g := g) (t := t) (t' := t') hx hy (by omega)
  rw [Int.toNat_natCast, Nat.min_eq_left (show 8 * k ≤ IntKind.i64.bits by show 8 * k ≤ 64; omega)] at h
  rw [show (256 ^ k : Nat) = 2 ^ (8 * k) by rw [Nat.pow_mul], Int.natCast_pow, ← Int.fdiv_eq_ediv_of_nonneg _ (Int.pow_nonneg (by decide))]
  exact h
theorem q_to8i {s : TypeId} (hx : ev l x = some (.int .i64 i)) (hc : convI P s t = some .u8) : OpQ P R ⟨d, .convert s t x, ty, pos, af, g⟩ l (.int .u8 (((i % 256).toNat : Nat) : Int)) := by
  refine q_convR _ hx hc ?_
  unfold IntKind.wrap
  simp only [IntKind.signed, IntKind.bits, Bool.false_and, Bool.false_eq_true, if_false]
  omega
end
end Go.Px
namespace Go.Proofs.YtphcaiplgpmnnaaGreatDoor
open Go.Px

theorem bytes_spec (i : Int) (A : Mem) : FnX Tryz.prog 44 [.int .i64 i] [] A fun r M J => J = [] ∧ Sl 1 r 32 (nums .u8 (bts i)) M := by
 skip
 refine FnX.enter (N := 22) Tryz.func44 rfl rfl rfl fun w => ?_
 refine XC.keep (kq 0 kn) ?_
 refine XC.reg ?_
 refine as_ ?_
 refine XL.fin (kq 0 kn) ?_
 refine XC.reg ?_
 refine XL.lo rfl (l_makeV (a := 32) (e := 5) (k := .u8) (by_ := 1) rfl rfl (by kernel_rfl) rfl rfl (by omega) (by omega) rfl fun v5 B5 hs5 => ?_)
 refine as_ ?_
 refine XL.fin (kq 0 (kq 3 kn)) ?_
 refine XC.reg ?_
 refine mv_ ?_
 refine XL.q (q_atV2 (sz := 1) (a := 0) rfl rfl (by kernel_rfl) rfl (by first | assumption | exact Sl.rd (by assumption) (fun _ h => h) | exact By.rd (by assumption)) (by omega)) rfl ?_
 refine XL.lo rfl (l_stV2 (u := 84) rfl rfl rfl (by kernel_rfl) hs5 (by decide) PickC.perm fun B5b hs5b => ?_)
 refine XL.fin (kq 0 (kq 3 kn)) ?_
 refine XC.seq ?_
 refine XC.reg ?_
 refine mv_ ?_
 refine XL.fin (kq 0 (kq 3 (kq 8 kn))) ?_
 refine XC.block ?_
 refine XC.loop (α := Nat × Mem) (fun s => [(0, .int .i64 i), (3, v5), (8, .int .i64 (s.1 : Int))]) (fun s => s.2) (fun _ => []) (fun s => s.1 ≤ 8 ∧ Sl 1 v5 32 (nums .u8 (btk i s.1)) s.2) (fun s => 8 - s.1) ⟨0, B5b⟩ ⟨Nat.zero_le _, hs5b⟩ (kq 0 (kq 3 (kq 8 kn))) (Fit.eq (by simp)) (fun _ h => h) ?_
 rintro ⟨k, B⟩ ⟨hk, hs⟩
 dsimp only at hk hs ⊢
 haveI := hs.cel
 refine XC.reg ?_
 refine XL.q (q_bin rfl rfl rfl) rfl ?_
 refine XL.fin (kq 0 (kq 3 (kq 8 (kq 9 kn)))) ?_
 refine XC.seq ?_
 refine XC.cond rfl (fun hc => ?_) (fun hc => ?_)
 ·
  have hlt : k < 8 := by simp at hc; omega
  refine XC.skip ?_
  refine nx (kq 0 (kq 3 (kq 8 kn))) ?_
  refine XC.seq ?_
  refine XC.block ?_
  refine XC.reg ?_
  refine mv_ (as_ ?_)
  refine XL.fin (kq 0 (kq 3 (kq 4 (kq 8 kn)))) ?_
  refine XC.reg1 ?_
  refine mv_ (mv_ ?_)
  refine XL.q (q_addI (a := 1) rfl rfl rfl rfl (by omega)) rfl ?_
  refine mv_ (mv_ ?_)
  refine XL.q (q_mulI (a := 8) rfl rfl rfl rfl (by omega)) rfl ?_
  refine XL.q (q_shr8 (k := k) rfl rfl rfl hlt) rfl ?_
  refine XL.q (q_to8i rfl (by kernel_rfl)) rfl ?_
  refine XL.q (q_atV2 (sz := 1) rfl rfl (by kernel_rfl) rfl (by first | assumption | exact Sl.rd (by assumption) (fun _ h => h) | exact By.rd (by assumption)) (by omega)) rfl ?_
  refine XL.lo rfl (l_stV2 (u := byt i k) rfl rfl rfl (by kernel_rfl) hs (by omega) PickC.perm fun B6 hs6 => ?_)
  rw [btk_succ i (by omega)] at hs6
  refine XL.nil ?_
  refine nb ?_
  refine nx (kq 0 (kq 3 (kq 8 kn))) ?_
  refine XC.reg1 ?_
  refine XL.q (q_addI (b := 1) rfl rfl rfl rfl (by omega)) rfl ?_
  refine mv_ ?_
  refine XL.nil ?_
  exact rn ⟨k + 1, B6⟩ ⟨by dsimp only; omega, hs6⟩ (by dsimp only; omega) (kq 0 (kq 3 (kq 8 kn))) (Fit.eq (by simp)) (fun _ h => h)
 ·
  have hge : k = 8 := by simp at hc; omega
  subst hge
  refine XC.exit ?_
  refine te ?_
  refine re ?_
  refine be rfl ?_
  refine nx (kq 3 kn) ?_
  refine XC.reg ?_
  refine mv_ (as_ ?_)
  refine XL.fin (kq 2 kn) ?_
  refine XC.ret ?_
  exact ⟨_, B, [], res1 rfl rfl, by first | exact List.Sublist.refl _ | simp, by simp, rfl, hs⟩

theorem place_spec (bt bm : Nat) (ts : List Tm) (vp : Value) (ws : List Nat) (MT A : Mem) (hT : Tab bt bm ts MT) (hsub : ∀ x, x ∈ MT → x ∈ A) (hn : ts.length ≤ 1048576) (hp : Rd A 1 vp ws.length (nums .u8 ws)) (hw : ∀ x ∈ ws, x < 256) (hl : ws.length ≤ maxLen) : FnV Tryz.prog 85 [.pointer (some ⟨bt, 0, none⟩), vp] A (.tuple #[.int .i64 (((plc ws ts.length).getD 0 : Nat) : Int), .bool (plc ws ts.length).isSome]) := by
 haveI := hp.cel
 have hmx : maxLen < 9223372036854775808 := by unfold maxLen; omega
 refine FnX.enter (N := 51) Tryz.func85 rfl rfl rfl fun w => ?_
 refine XC.keep (kq 0 (kq 1 kn)) ?_
 refine XC.reg ?_
 refine as_ (as_ ?_)
 refine XL.fin (kq 0 (kq 1 kn)) ?_
 refine XC.seq ?_
 refine XC.reg ?_
 refine mv_ ?_
 refine XL.q (q_lenV2 (sz := 1) rfl (by kernel_rfl) hp) rfl ?_
 refine XL.q (q_bin rfl rfl rfl) rfl ?_
 refine mv_ ?_
 refine XL.split (t := 13) rfl (fun hb => ?_) (fun hb => ?_)
 ·
  refine XL.gn rfl rfl rfl rfl ?_
  refine XL.gn rfl rfl rfl rfl ?_
  refine XL.gn rfl rfl rfl rfl ?_
  refine XL.gn rfl rfl rfl rfl ?_
  refine XL.q (q_pickT rfl rfl) rfl ?_
  refine XL.fin (kq 0 (kq 1 (kq 18 kn))) ?_
  refine XC.condT rfl ?_
  refine XC.reg ?_
  refine as_ (as_ ?_)
  refine XL.fin (kq 4 (kq 5 kn)) ?_
  refine XC.ret ?_
  refine tr ?_
  refine ⟨_, [], [], res2 rfl rfl rfl, List.nil_sublist _, by simp, plc_r0 (plc_len (by simp at hb; omega)), rfl, rfl⟩
 ·
  have h32 : 32 ≤ ws.length := by simp at hb; omega
  have h0 : ws.getD 0 0 = (ws.getD 0 0) := rfl
  refine XL.gy rfl rfl (OpQ.opL qm_ rfl ?_)
  refine XL.gy rfl rfl (OpQ.opL (q_atV2 (sz := 1) (a := 0) rfl rfl (by kernel_rfl) rfl hp (by omega)) rfl ?_)
  refine XL.gy rfl rfl (OpQ.opL (q_ldVN (j := 0) (Rd.mono hp SubC.sub) rfl (by kernel_rfl) (by omega)) rfl ?_)
  refine XL.gy rfl rfl (OpQ.opL (q_bin rfl rfl rfl) rfl ?_)
  refine XL.q (q_pickF rfl rfl) rfl ?_
  refine XL.fin (kq 0 (kq 1 (kq 18 kn))) ?_
  refine XC.cond rfl (fun hc => ?_) (fun hc => ?_)
  ·
   have h84 : ws.getD 0 0 ≠ 84 := by have := bne_iff_ne.1 hc; omega
   refine XC.reg ?_
   refine as_ (as_ ?_)
   refine XL.fin (kq 4 (kq 5 kn)) ?_
   refine XC.ret ?_
   refine tr ?_
   refine ⟨_, [], [], res2 rfl rfl rfl, List.nil_sublist _, by simp, plc_r0 (plc_84 h84), rfl, rfl⟩
  ·
   have h84 : ws.getD 0 0 = 84 := by have h := hc; rw [bne_eq_false_iff_eq] at h; omega
   refine XC.skip ?_
   refine nx (kq 0 (kq 1 kn)) ?_
   refine XC.reg ?_
   refine as_ ?_
   refine XL.fin (kq 0 (kq 1 (kq 6 kn))) ?_
   refine XC.seq ?_
   refine XC.reg ?_
   refine mv_ ?_
   refine XL.fin (kq 0 (kq 1 (kq 6 (kq 19 kn)))) ?_
   refine XC.block ?_
   refine XC.loop (α := Nat) (fun k => [(0, .pointer (some ⟨bt, 0, none⟩)), (1, vp), (6, .int .u64 ((le8 ws k : Nat) : Int)), (19, .int .i64 (k : Int))]) (fun _ => []) (fun _ => []) (fun k => k ≤ 8) (fun k => 8 - k) 0 (by decide) (kq 0 (kq 1 (kq 6 (kq 19 kn)))) (Fit.eq (by simp)) (fun _ h => h) ?_
   rintro k hk
   refine XC.reg ?_
   refine XL.q (q_bin rfl rfl rfl) rfl ?_
   refine XL.fin (kq 0 (kq 1 (kq 6 (kq 19 (kq 20 kn))))) ?_
   refine XC.seq ?_
   refine XC.cond rfl (fun hc => ?_) (fun hc => ?_)
   ·
    have hlt : k < 8 := by simp at hc; omega
    have hwk := getD_l8 hw (1 + k)
    have h8w := le8_w hw hlt
    have h8n := le8_n hw hlt
    refine XC.skip ?_
    refine nx (kq 0 (kq 1 (kq 6 (kq 19 kn)))) ?_
    refine XC.seq ?_
    refine XC.block ?_
    refine XC.reg ?_
    refine mv_ (as_ ?_)
    refine XL.fin (kq 0 (kq 1 (kq 6 (kq 7 (kq 19 kn))))) ?_
    refine XC.reg1 ?_
    refine mv_ (mv_ (mv_ ?_))
    refine XL.q (q_addI (a := 1) rfl rfl rfl rfl (by omega)) rfl ?_
    refine XL.q (q_atV2 (sz := 1) rfl rfl (by kernel_rfl) rfl hp (by omega)) rfl ?_
    refine XL.q (q_ldVN (Rd.mono hp SubC.sub) rfl (by kernel_rfl) (by omega)) rfl ?_
    refine XL.q (q_convN (ws.getD (1 + k) 0) rfl (by kernel_rfl) (by rw [wrap64, Nat.mod_eq_of_lt (by omega)])) rfl ?_
    refine mv_ ?_
    refine XL.q (q_mulI (a := 8) rfl rfl rfl rfl (by omega)) rfl ?_
    refine XL.q (q_shlI 18446744073709551616 rfl (by decide) rfl rfl rfl rfl (by show 8 * k ≤ 64; omega)) rfl ?_
    rw [Nat.mod_eq_of_lt h8w]
    refine XL.q (q_or64 rfl rfl h8n h8w) rfl ?_
    rw [le8_or hw k]
    refine as_ ?_
    refine XL.nil ?_
    refine nb ?_
    refine nx (kq 0 (kq 1 (kq 6 (kq 19 kn)))) ?_
    refine XC.reg1 ?_
    refine XL.q (q_addI (b := 1) rfl rfl rfl rfl (by omega)) rfl ?_
    refine mv_ ?_
    refine XL.nil ?_
    exact rn (k + 1) (by omega) (by omega) (kq 0 (kq 1 (kq 6 (kq 19 kn)))) (Fit.eq (by simp)) (fun _ h => h)
   ·
    have hge : k = 8 := by simp at hc; omega
    subst hge
    generalize h8 : le8 ws 8 = n8
    refine XC.exit ?_
    refine te ?_
    refine re ?_
    refine be rfl ?_
    refine nx (kq 0 (kq 1 (kq 6 kn))) ?_
    refine XC.seq ?_
    refine XC.reg ?_
    refine mv_ ?_
    refine XL.q (q_loV2 (sz := 1) (a := 9) rfl rfl (by kernel_rfl) rfl hp (by omega)) rfl ?_
    have hq := hp.loV 9 (by omega)
    rw [Nat.mul_one, ← nums_drop] at hq
    generalize vLo 9 1 vp = vq at *
    haveI := hq.cel
    refine XL.q (q_lenV2 (sz := 1) rfl (by kernel_rfl) hq) rfl ?_
    refine mv_ ?_
    refine XL.fin (kq 0 (kq 6 (kq 35 (kq 36 (kq 37 kn))))) ?_
    refine XC.block ?_
    refine XC.loop (α := Nat) (fun j => [(0, .pointer (some ⟨bt, 0, none⟩)), (6, .int .u64 ((n8 : Nat) : Int)), (35, vq), (36, .int .i64 ((ws.length - 9 : Nat) : Int)), (37, .int .i64 (j : Int))]) (fun _ => []) (fun _ => []) (fun j => j ≤ ws.length - 9 ∧ ∀ c ∈ (ws.drop 9).take j, c = 0) (fun j => ws.length - 9 - j) 0 ⟨Nat.zero_le _, fun c h => by simp at h⟩ (kq 0 (kq 6 (kq 35 (kq 36 (kq 37 kn))))) (Fit.eq (by simp)) (fun _ h => h) ?_
    rintro j ⟨hj, hz⟩
    refine XC.reg ?_
    refine XL.q (q_bin rfl rfl rfl) rfl ?_
    refine XL.fin (kq 0 (kq 6 (kq 35 (kq 36 (kq 37 (kq 38 kn)))))) ?_
    refine XC.seq ?_
    refine XC.cond rfl (fun hc => ?_) (fun hc => ?_)
    ·
     have hlt : j < ws.length - 9 := by simp at hc; omega
     have hjw : j < (ws.drop 9).length := by rw [List.length_drop]; exact hlt
     have hwj := getD_l8 (ws := ws.drop 9) (fun x hx => hw x (List.mem_of_mem_drop hx)) j
     refine XC.skip ?_
     refine nx (kq 0 (kq 6 (kq 35 (kq 36 (kq 37 kn))))) ?_
     refine XC.seq ?_
     refine XC.block ?_
     refine XC.reg ?_
     refine XL.q (q_atV2 (sz := 1) rfl rfl (by kernel_rfl) rfl hq hlt) rfl ?_
     refine XL.q (q_ldVN (Rd.mono hq SubC.sub) rfl (by kernel_rfl) hlt) rfl ?_
     refine as_ ?_
     refine XL.fin (kq 0 (kq 6 (kq 9 (kq 35 (kq 36 (kq 37 kn)))))) ?_
     refine XC.reg ?_
     refine mv_ ?_
     refine XL.q (q_bin rfl rfl rfl) rfl ?_
     refine XL.fin (kq 0 (kq 6 (kq 35 (kq 36 (kq 37 (kq 42 kn)))))) ?_
     refine XC.cond rfl (fun hc => ?_) (fun hc => ?_)
     ·
      have hne : (ws.drop 9).getD j 0 ≠ 0 := by have := bne_iff_ne.1 hc; omega
      refine XC.reg ?_
      refine as_ (as_ ?_)
      refine XL.fin (kq 4 (kq 5 kn)) ?_
      refine XC.ret ?_
      refine br ?_
      refine tr ?_
      refine rr ?_
      refine br ?_
      refine tr ?_
      refine ⟨_, [], [], res2 rfl rfl rfl, List.nil_sublist _, by simp, plc_r0 (plc_nz hjw hne), rfl, rfl⟩
     ·
      have he0 : (ws.drop 9).getD j 0 = 0 := by have h := hc; rw [bne_eq_false_iff_eq] at h; omega
      refine XC.skip ?_
      refine nb ?_
      refine nx (kq 0 (kq 6 (kq 35 (kq 36 (kq 37 kn))))) ?_
      refine XC.reg1 ?_
      refine XL.q (q_addI (b := 1) rfl rfl rfl rfl (by omega)) rfl ?_
      refine mv_ ?_
      refine XL.nil ?_
      exact rn (j + 1) ⟨by omega, fun c h => by rw [List.take_add_one, List.getElem?_eq_getElem hjw] at h; rcases List.mem_append.1 h with h | h; exact hz c h; simp at h; rw [List.getD_eq_getElem?_getD, List.getElem?_eq_getElem hjw] at he0; simp at he0; omega⟩ (by omega) (kq 0 (kq 6 (kq 35 (kq 36 (kq 37 kn))))) (Fit.eq (by simp)) (fun _ h => h)
    ·
     have hge : j = ws.length - 9 := by simp at hc; omega
     subst hge
     have hzz : ∀ c ∈ ws.drop 9, c = 0 := by rwa [List.take_of_length_le (by rw [List.length_drop]; exact Nat.le_refl _)] at hz
     refine XC.exit ?_
     refine te ?_
     refine re ?_
     refine be rfl ?_
     refine nx (kq 0 (kq 6 kn)) ?_
     refine XC.seq ?_
     refine XC.reg ?_
     refine mv_ (mv_ ?_)
     refine XL.callV (aS rfl a0) (by kernel_rfl) (lenT_spec bt bm ts MT _ hT (fun x hx => mA (hsub x hx))) rfl ?_
     refine XL.q (q_convN ts.length rfl (by kernel_rfl) (by rw [wrap64, Nat.mod_eq_of_lt (by omega)])) rfl ?_
     refine XL.q (q_bin rfl rfl rfl) rfl ?_
     refine XL.fin (kq 6 (kq 48 kn)) ?_
     refine XC.cond rfl (fun hc => ?_) (fun hc => ?_)
     ·
      have hge : ts.length ≤ n8 := by simp at hc; omega
      refine XC.reg ?_
      refine as_ (as_ ?_)
      refine XL.fin (kq 4 (kq 5 kn)) ?_
      refine XC.ret ?_
      refine tr ?_
      refine ⟨_, [], [], res2 rfl rfl rfl, List.nil_sublist _, by simp, plc_r0 (plc_ge h8 hge), rfl, rfl⟩
     ·
      have hltn : n8 < ts.length := by simp at hc; omega
      refine XC.skip ?_
      refine nx (kq 6 kn) ?_
      refine XC.reg ?_
      refine mv_ ?_
      refine XL.q (q_convN n8 rfl (by kernel_rfl) (wrapI (by omega))) rfl ?_
      refine as_ (as_ ?_)
      refine XL.fin (kq 4 (kq 5 kn)) ?_
      refine XC.ret ?_
      refine ⟨_, [], [], res2 rfl rfl rfl, List.nil_sublist _, by simp, plc_r1 (plc_some h8 h32 h84 hzz hltn), rfl, rfl⟩

end Go.Proofs.YtphcaiplgpmnnaaGreatDoor
/- Read; the walk of TermBytes. -/
namespace Go.Proofs.YtphcaiplgpmnnaaGreatDoor
open Go.Px
def rawT (ws : List Nat) : Tm := ⟨2, [], ws, 0⟩
def rdT (ts : List Tm) (ws : List Nat) : List Tm := match plc ws ts.length with
  | some _ => ts
  | none => add ts (rawT ws)
def rdI (ts : List Tm) (ws : List Nat) : Nat := match plc ws ts.length with
  | some j => j
  | none => at_ ts (rawT ws)
theorem rawT_ok {ws : List Nat} (h : ∀ x ∈ ws, x < 256) (hl : ws.length ≤ 1099511627776) : Tmo (rawT ws) := ⟨show 2 < 256 by decide, show i64 0 by unfold i64; omega, fun i hi => (List.not_mem_nil hi).elim, show 0 ≤ 1048576 by decide, ⟨h⟩, hl⟩
theorem rdT_some {ts : List Tm} {ws : List Nat} {j : Nat} (h : plc ws ts.length = some j) : rdT ts ws = ts ∧ rdI ts ws = j := by unfold rdT rdI; rw [h]; exact ⟨rfl, rfl⟩
theorem rdT_none {ts : List Tm} {ws : List Nat} (h : plc ws ts.length = none) : rdT ts ws = add ts (rawT ws) ∧ rdI ts ws = at_ ts (rawT ws) := by unfold rdT rdI; rw [h]; exact ⟨rfl, rfl⟩
theorem plc_lt {ws : List Nat} {n j : Nat} (h : plc ws n = some j) : j < n ∧ ∀ m, j < m → plc ws m = some j := by
  unfold plc at h
  split at h
  · rename_i hc
    have e := Option.some.inj h
    subst e
    exact ⟨hc.2.2.2, fun m hm => plc_yes ⟨hc.1, hc.2.1, hc.2.2.1, hm⟩⟩
  · cases h
theorem add_none {ts : List Tm} {t : Tm} (h : pos ts t = none) : add ts t = ts ++ [t] ∧ at_ ts t = ts.length := by unfold add at_; rw [h]; exact ⟨rfl, rfl⟩
theorem add_some {ts : List Tm} {t : Tm} {j : Nat} (h : pos ts t = some j) : add ts t = ts ∧ at_ ts t = j := by unfold add at_; rw [h]; exact ⟨rfl, rfl⟩
def atoms (k : Nat) : List Tm := (List.range k).map fun (j : Nat) => (⟨1, [], [], (j : Int)⟩ : Tm)
theorem read_spec (bt bm : Nat) (ts : List Tm) (vp : Value) (ws : List Nat) (MT A : Mem) (hT : Tab bt bm ts MT) (hn : ts.length ≤ 1048576) (hp : Rd A 1 vp ws.length (nums .u8 ws)) (hw : ∀ x ∈ ws, x < 256) (hl : ws.length ≤ 1099511627776) {e4 : TypeId} {f4 : Nat × Nat} (h4 : (2, Obj.cells (nums .u64 pow10T).toArray e4 f4) ∈ A) : FnX Tryz.prog 107 [.pointer (some ⟨bt, 0, none⟩), vp] MT A fun r M J => J = [] ∧ r = .int .i64 ((rdI ts ws : Nat) : Int) ∧ Tab bt bm (rdT ts ws) M := by
 haveI := hp.cel
 haveI : B256 ws := ⟨hw⟩
 refine FnX.enter (N := 20) Tryz.func107 rfl rfl rfl fun w => ?_
 refine XC.keep (kq 0 (kq 1 kn)) ?_
 refine XC.reg ?_
 refine as_ ?_
 refine XL.fin (kq 0 (kq 1 kn)) ?_
 refine XC.seq ?_
 refine XC.reg ?_
 refine mv_ (mv_ ?_)
 refine XL.callV (aS rfl (aS rfl a0)) (by kernel_rfl) (place_spec bt bm ts vp ws MT _ hT SubC.sub hn (hp.mono SubC.sub) hw (Nat.le_trans hl (by unfold maxLen; omega))) rfl ?_
 refine mv_ ?_
 refine XL.q (q_x0 rfl) rfl ?_
 refine XL.q (q_x1 rfl) rfl ?_
 refine as_ (as_ ?_)
 refine XL.fin (kq 0 (kq 1 (kq 5 (kq 6 kn)))) ?_
 refine XC.reg ?_
 refine mv_ ?_
 refine XL.fin (kq 0 (kq 1 (kq 5 (kq 13 kn)))) ?_
 refine XC.cond rfl (fun hc => ?_) (fun hc => ?_)
 ·
  obtain ⟨j, hj⟩ := Option.isSome_iff_exists.1 hc
  obtain ⟨h1, h2⟩ := rdT_some hj
  refine XC.reg ?_
  refine mv_ (as_ ?_)
  refine XL.fin (kq 4 kn) ?_
  refine XC.ret ?_
  refine tr ?_
  exact ⟨_, MT, [], res1 rfl rfl, List.Sublist.refl _, by simp, rfl, by rw [h2, hj]; rfl, by rw [h1]; exact hT⟩
 ·
  have hj : plc ws ts.length = none := by simpa using hc
  obtain ⟨h1, h2⟩ := rdT_none hj
  refine XC.skip ?_
  refine nx (kq 0 (kq 1 kn)) ?_
  refine XC.reg ?_
  refine mv_ (mv_ ?_)
  refine XL.q (q_toStr2 rfl (by kernel_rfl) (hp.mono SubC.sub)) rfl ?_
  refine XL.q (q_build (place := fun x => #[(0, 1), (1, 1), (2, 1), (3, 1)][x]?) (z := [.int .u8 0, .slice none 0 0, .string ByteArray.empty, .int .i64 0]) (fun _ => by kernel_rfl) (eS rfl (eS rfl e0)) (bdS 0 1 rfl (by rfl) (bdS 2 1 rfl (by rfl) bd0))) rfl ?_
  refine XL.lo rfl (l_call (Mc := MT) (R := _) (aS rfl (aS rfl a0)) (by kernel_rfl) PickC.perm (putT_spec bt bm ts (.slice none 0 0) (rawT ws) MT _ hT hn Rd.nil (rawT_ok hw hl) (SubC.sub _ h4)) rfl ?_)
  rintro v19 M19 J19 ⟨rfl, rfl, hT19⟩
  refine as_ ?_
  refine XL.fin (kq 4 kn) ?_
  refine XC.ret ?_
  exact ⟨_, M19, [], res1 rfl rfl, by first | exact List.Sublist.refl _ | simp, by simp, rfl, by rw [h2], by rw [h1]; exact hT19⟩

theorem rdT_len {ts : List Tm} {ws : List Nat} : (rdT ts ws).length ≤ ts.length + 1 := by
  unfold rdT
  split
  · omega
  · exact add_len
end Go.Proofs.YtphcaiplgpmnnaaGreatDoor
/- Sort of two numbers; Agree; the walk of TermAgree. -/
namespace Go.Proofs.YtphcaiplgpmnnaaGreatDoor
open Go.Px
/-- Two numbers, the lesser first. -/
def srt (x y : Int) : List Int := if y < x then [y, x] else [x, y]
def two (j : Nat) (x y : Int) : List Int := if j = 1 then [x, y] else [y, x]
def out_ (i : Nat) (x y : Int) : List Int := if i = 1 then [x, y] else srt x y
/-- What a secret one and another one agree on. -/
def agT (ts : List Tm) (s o : Int) : Tm := if 0 ≤ o then match ts[o.toNat]? with
  | some t => if t.kind = 3 ∧ t.of.length = 1 then ⟨4, srt s (t.of.getD 0 0), [], 0⟩ else ⟨4, [s, o], [], 1⟩
  | none => ⟨4, [s, o], [], 1⟩ else ⟨4, [s, o], [], 1⟩
theorem get_facts {A : Mem} {ts : List Tm} {i : Int} {c : List Value} {ok : Bool} (hts : ∀ t ∈ ts, Tmo t) (h1 : (0 ≤ i ∧ i < (ts.length : Int)) → ok = true ∧ ∃ t, ts[i.toNat]? = some t ∧ TmC A c t) (h2 : ¬ (0 ≤ i ∧ i < (ts.length : Int)) → ok = false ∧ c = tmc 0 (.slice none 0 0) [] 0) :
    ∃ (vo : Value) (t : Tm), c = tmc t.kind vo t.text t.n ∧ Rd A 1 vo t.of.length (ints t.of) ∧ (∀ z ∈ t.of, i64 z) ∧ t.kind < 256 ∧ (ok = true → 0 ≤ i ∧ ts[i.toNat]? = some t) ∧ (ok = false → ¬ (0 ≤ i ∧ i < (ts.length : Int))) := by
  by_cases h : 0 ≤ i ∧ i < (ts.length : Int)
  · obtain ⟨e, t, ht, vo, hc, hr⟩ := h1 h
    have hto := hts t (List.mem_of_getElem? ht)
    exact ⟨vo, t, hc, hr, hto.of, hto.kind, fun _ => ⟨h.1, ht⟩, fun e' => by rw [e] at e'; cases e'⟩
  · obtain ⟨e, hc⟩ := h2 h
    exact ⟨.slice none 0 0, ⟨0, [], [], 0⟩, hc, Rd.nil, (fun z hz => by cases hz), by decide, (fun e' => by rw [e] at e'; cases e'), fun _ => h⟩
end Go.Proofs.YtphcaiplgpmnnaaGreatDoor
/-
  Slices of unsigned numbers that came in.
-/
namespace Go.Px
theorem wf_u {k : IntKind} (hk : k.signed = false) {n : Int} (h : (Lit.int k n).wf = true) : 0 ≤ n ∧ n < 2 ^ k.bits := by
  cases k <;> simp_all [Lit.wf, IntKind.min, IntKind.max, IntKind.bits, IntKind.signed] <;> omega
end Go.Px

/-
  Arguments that came in, by their types: what the engine's rules ask of them.
-/
namespace Go.Px
open Go.ChangeShapes Go.WideShapes Go.ChangeAt Go.RowKit
/-- All that lies in a world. -/
def heapA (w : World) : Mem := (List.range w.heap.size).filterMap fun b => (w.heap[b]?).map fun o => (b, o)
theorem heapA_mem {w : World} {b : Nat} {o : Obj} : (b, o) ∈ heapA w ↔ w.heap[b]? = some o := by
  simp only [heapA, List.mem_filterMap, List.mem_range, Option.map_eq_some_iff, Prod.mk.injEq]
  constructor
  · rintro ⟨x, _, y, h, rfl, rfl⟩; exact h
  · intro h; exact ⟨b, lt_of_heap h, o, h, rfl, rfl⟩
theorem heapA_fx (w : World) : Fx (heapA w) w := fun b o h => heapA_mem.1 h
section
variable {H : Type} {enc : TypeId × Value → H} {P : Program} {w : World} {spare : Nat → Bool} {held : Bool} {fuel : Nat} {t e : TypeId} {cs : List Value} {x : DataW H × List MemPlace} {v : Value} {d : DataW H} {p : List MemPlace} {r : Reach} {base : Nat} {k : IntKind}
theorem cells_get {a : Addr} {n : Nat} {c : List Value} (h : w.cells? 0 a n = some c) : c.length = n ∧ ∀ j, j < n → w.cell? (a.add j) = c[j]? := by
  unfold World.cells? at h
  rw [if_pos (Nat.zero_le _)] at h
  exact ⟨by simpa using mapM_some_length h, fun j hj => mapM_some_get h j j (by simp [hj])⟩
theorem in_slice {sz : Nat} (ht : P.underlying t = some (.slice e)) (hsz : P.cellsOf e = sz) (hs0 : 0 < sz) (h : DataW.trod enc P w 0 spare held fuel t cs = some x) :
    ∃ (v : Value) (xss : List (List Value)), cs = [v] ∧ xss.length ≤ maxLen ∧ Rd (heapA w) sz v xss.length xss.flatten ∧ ∀ c ∈ xss, c.length = sz ∧ ∃ m y, DataW.trod enc P w 0 spare held m e c = some y := by
  rcases DataW.trod_slice ht h with ⟨rfl, _⟩ | ⟨a, len, cap, elems, rest, n, _, rfl, _, _, hl, hm, hlen, hel, _, _⟩
  · exact ⟨_, [], rfl, by simp, Rd.nil, fun c hc => by cases hc⟩
  · rw [hsz] at hel
    have hrow : ∀ i, i < len → ∃ c y, w.cells? 0 (a.add (i * sz)) sz = some c ∧ DataW.trod enc P w 0 spare held n e c = some y := by
      intro i hi
      have h1 := hel i hi
      rw [List.getElem?_eq_getElem (by omega)] at h1
      obtain ⟨c, h2, h3⟩ := Option.bind_eq_some_iff.1 h1
      exact ⟨c, _, h2, h3⟩
    have hget : ∀ i, i < len → ((List.range len).map fun i => (w.cells? 0 (a.add (i * sz)) sz).getD [])[i]? = some ((w.cells? 0 (a.add (i * sz)) sz).getD []) := by
      intro i hi; simp [hi]
    have hlen2 : ∀ c ∈ (List.range len).map (fun i => (w.cells? 0 (a.add (i * sz)) sz).getD []), c.length = sz ∧ ∃ m y, DataW.trod enc P w 0 spare held m e c = some y := by
      intro c hc
      obtain ⟨i, hi, rfl⟩ := List.mem_map.1 hc
      obtain ⟨c, y, h1, h2⟩ := hrow i (List.mem_range.1 hi)
      rw [h1, Option.getD_some]
      exact ⟨(cells_get h1).1, n, y, h2⟩
    refine ⟨_, (List.range len).map fun i => (w.cells? 0 (a.add (i * sz)) sz).getD [], rfl, by simp; omega, ?_, hlen2⟩
    have hl1 : ((List.range len).map fun i => (w.cells? 0 (a.add (i * sz)) sz).getD []).length = len := by simp
    have hfl := flat_len (rows := (List.range len).map fun i => (w.cells? 0 (a.add (i * sz)) sz).getD []) (s := sz) fun c hc => (hlen2 c hc).1
    rw [hl1]
    rw [hl1] at hfl
    by_cases h0 : len * sz = 0
    · refine ⟨some a, cap, rfl, hfl, hl, .inl ?_⟩
      rcases Nat.mul_eq_zero.1 h0 with h | h <;> omega
    · have hlp : 0 < len := Nat.pos_of_ne_zero (by rintro rfl; simp at h0)
      have hsp : 0 < sz := Nat.pos_of_ne_zero (by rintro rfl; simp at h0)
      obtain ⟨c0, y0, h1, _⟩ := hrow 0 hlp
      have h2 := (cells_get h1).2 0 hsp
      have h3 := (cells_get h1).1
      obtain ⟨b, o, sp⟩ := a
      have hadd : ((⟨b, o, sp⟩ : Addr).add (0 * sz)).add 0 = ⟨b, o, sp⟩ := by simp [Addr.add]
      rw [hadd, List.getElem?_eq_getElem (by omega)] at h2
      cases hb : w.heap[b]? with
      | none => simp [World.cell?, hb] at h2
      | some ob =>
        cases ob <;> simp [World.cell?, hb] at h2
        rename_i cells et fr
        obtain ⟨rfl, h2⟩ := h2
        refine ⟨_, cap, rfl, hfl, hl, .inr ⟨b, o, cells.toList, et, fr, rfl, heapA_mem.2 (by simpa using hb), fun j u hj => ?_⟩⟩
        have hjl : j < len * sz := by have := (List.getElem?_eq_some_iff.1 hj).1; rwa [hfl] at this
        have hi : j / sz < len := Nat.div_lt_of_lt_mul (by rw [Nat.mul_comm]; exact hjl)
        have hr : j % sz < sz := Nat.mod_lt _ hsp
        have hj2 := flat_get (fun c hc => (hlen2 c hc).1) (hget _ hi) (j % sz) hr
        have ej : j / sz * sz + j % sz = j := by rw [Nat.mul_comm]; exact Nat.div_add_mod j sz
        rw [ej, hj] at hj2
        obtain ⟨c, y, h5, _⟩ := hrow _ hi
        rw [h5, Option.getD_some] at hj2
        have h6 := (cells_get h5).2 _ hr
        rw [← hj2, Addr.add_mid, Addr.add_mid, World.cell?, hb] at h6
        simp only [Option.isSome_none, Bool.false_eq_true, if_false] at h6
        rw [Array.getElem?_toList, show o + j = o + j / sz * sz + j % sz by omega, h6]
/-! ### Scalars -/
theorem nat_of_wf (hk : k.signed = false) {n : Int} (h : (Lit.int k n).wf = true) : ∃ m : Nat, n = (m : Int) ∧ m < 2 ^ k.bits := by
  obtain ⟨h1, h2⟩ := wf_u hk h
  obtain ⟨m, rfl⟩ := Int.eq_ofNat_of_zero_le h1
  refine ⟨m, rfl, ?_⟩
  have h3 : ((m : Nat) : Int) < ((2 ^ k.bits : Nat) : Int) := by simpa using h2
  exact Int.ofNat_lt.1 h3
theorem inU (ht : P.underlying t = some (.int k)) (hk : k.signed = false) (hv : Value.okWide P w r base t v) (h : DataW.Trod enc P w 0 spare held t v d p) : ∃ n : Nat, v = .int k (n : Int) ∧ n < 2 ^ k.bits := by
  obtain ⟨n, rfl⟩ := okWide_int ht hv
  obtain ⟨f, hf⟩ := h
  obtain ⟨m, h1, _, h2⟩ := DataW.trod_int ht hf
  obtain ⟨q, rfl, h3⟩ := nat_of_wf hk h2
  exact ⟨q, by simpa [Value.cells] using h1, h3⟩
/-! ### Slices and arrays -/
theorem uints_of (hk : k.signed = false) (he : P.underlying e = some (.int k)) {xss : List (List Value)} (h : ∀ c ∈ xss, c.length = 1 ∧ ∃ m y, DataW.trod enc P w 0 spare held m e c = some y) :
    ∃ ws : List Nat, xss.flatten = nums k ws ∧ ws.length = xss.length ∧ ∀ x ∈ ws, x < 2 ^ k.bits := by
  induction xss with
  | nil => exact ⟨[], rfl, rfl, fun x hx => by cases hx⟩
  | cons c xss ih =>
    obtain ⟨ws, h1, h2, h3⟩ := ih fun c hc => h c (by simp [hc])
    obtain ⟨_, m, y, h4⟩ := h c (by simp)
    obtain ⟨n, rfl, _, h5⟩ := DataW.trod_int he h4
    obtain ⟨q, rfl, h6⟩ := nat_of_wf hk h5
    refine ⟨q :: ws, by rw [List.flatten_cons, h1]; rfl, by simp [h2], fun x hx => ?_⟩
    rcases List.mem_cons.1 hx with rfl | hx
    · exact h6
    · exact h3 x hx
theorem inSlU (ht : P.underlying t = some (.slice e)) (he : P.underlying e = some (.int k)) (hc : P.cellsOf e = 1) (hk : k.signed = false) (hv : Value.okWide P w r base t v) (h : DataW.Trod enc P w 0 spare held t v d p) :
    ∃ ws, Rd (heapA w) 1 v ws.length (nums k ws) ∧ (∀ x ∈ ws, x < 2 ^ k.bits) ∧ ws.length ≤ maxLen := by
  obtain ⟨a, len, cap, rfl⟩ := okWide_slice ht hv
  obtain ⟨f, hf⟩ := h
  obtain ⟨v, xss, h1, h2, h3, h4⟩ := in_slice ht hc (by decide) hf
  obtain ⟨ws, h5, h6, h7⟩ := uints_of hk he h4
  obtain rfl : Value.slice a len cap = v := by simpa [Value.cells] using h1
  exact ⟨ws, by rw [h6, ← h5]; exact h3, h7, by omega⟩
end
end Go.Px

/-
  Slices of byte slices.
-/
namespace Go.Px
open Go.ChangeShapes Go.WideShapes Go.ChangeAt Go.RowKit
/-- The values 'vs' are slices of the bytes 'ls'. -/
structure Bys (R : Mem) (vs : List Value) (ls : List (List Nat)) : Prop where
  len : vs.length = ls.length
  get : ∀ (j : Nat) (w : List Nat), ls[j]? = some w → ∃ v, vs[j]? = some v ∧ Rd R 1 v w.length (nums .u8 w) ∧ (∀ x ∈ w, x < 256) ∧ w.length ≤ maxLen
section
variable {H : Type} {enc : TypeId × Value → H} {P : Program} {w : World} {spare : Nat → Bool} {held : Bool} {fuel : Nat} {t e e' : TypeId} {cs : List Value} {x : DataW H × List MemPlace} {v : Value} {d : DataW H} {p : List MemPlace} {r : Reach} {base : Nat}
end
end Go.Px

/-
  Owned blocks that are read alone from now on; byte slices to be read; copy of a part.
-/
namespace Go.Px
section
variable {C : Cx} {Q : XQ} {l : Env} {M J B R M' : Mem} {w : World}
theorem St.freezes (h : St C (B ++ M) J w) : St C M (B ++ J) w := by
  induction B generalizing J with
  | nil => exact h
  | cons x B ih =>
    have h1 := ih (J := x :: J) (St.freeze (by simpa using h))
    refine h1.drop (List.Sublist.refl _) fun y hy => ?_
    simp only [List.cons_append, List.mem_cons, List.mem_append] at hy ⊢
    rcases hy with h | h | h <;> simp [h]
theorem St.frz (hp : M.Perm (B ++ M')) (h : St C M J w) : St C M' (B ++ J) w := (h.perm hp).freezes
theorem XC.frz {c : Code} (hp : M.Perm (B ++ M')) (h : XC C c Q l M' (B ++ J)) : XC C c Q l M J := fun a w ha hw => h a w ha (hw.frz hp)
theorem XL.frz {ops : Array Oper} {rest : List Oper} (hp : M.Perm (B ++ M')) (h : XL C ops rest Q l M' (B ++ J)) : XL C ops rest Q l M J := fun a w ha hw => h a w ha (hw.frz hp)
end
theorem FnX.frz0 {P : Program} {f : FuncId} {args : List Value} {A : Mem} {φ : Value → Mem → Prop} (h : FnX P f args [] A fun r M J => J = [] ∧ φ r M) : FnX P f args [] A fun r M J => M = [] ∧ φ r J := by
  intro w hw
  refine Calls.mono (h w hw) ?_
  rintro e w' ⟨v, M', J, rfl, ⟨rfl, hq⟩, hs⟩
  exact ⟨v, [], M', rfl, ⟨rfl, hq⟩, by have := St.frz (B := M') (M' := []) (by simp) hs; simpa using this⟩
/-- A slice of bytes, to be read. -/
structure By (R : Mem) (v : Value) (w : List Nat) : Prop where
  rd : Rd R 1 v w.length (nums .u8 w)
  lt : ∀ x ∈ w, x < 256
  len : w.length ≤ 16777216
theorem By.mono {R R' : Mem} {v : Value} {w : List Nat} (h : By R v w) (hR : ∀ x, x ∈ R → x ∈ R') : By R' v w := ⟨h.rd.mono hR, h.lt, h.len⟩
theorem By.one {R : Mem} {v : Value} {w : List Nat} (h : By R v w) : v.oneCell' = true := h.rd.one
theorem By.cel {R : Mem} {v : Value} {w : List Nat} (h : By R v w) : Cel v [v] := h.rd.cel
theorem By.nil {R : Mem} : By R (.slice none 0 0) [] := ⟨Rd.nil, (fun x h => by cases h), by decide⟩
theorem By.max {R : Mem} {v : Value} {w : List Nat} (h : By R v w) : w.length ≤ maxLen := Nat.le_trans h.len (by unfold maxLen; omega)
/-- Slices of bytes, to be read. -/
structure Lst (R : Mem) (vs : List Value) (ls : List (List Nat)) : Prop where
  len : vs.length = ls.length
  get : ∀ (j : Nat) (w : List Nat), ls[j]? = some w → ∃ v, vs[j]? = some v ∧ By R v w
/-- A slice of slices of bytes, to be read. -/
structure LsV (R : Mem) (v : Value) (ls : List (List Nat)) : Prop where
  ex : ∃ vs, Rd R 1 v ls.length vs ∧ Lst R vs ls
section loud
variable {C : Cx} {l : Env} {M J : Mem} {K : Env → Mem → Mem → Prop} {d : Nat} {ty t e : TypeId} {pos : String} {af : Array Edge} {g : Option (Nat × Bool)} {x y : Operand}
/-- copy of a part, into the whole of an owned array of numbers. -/
theorem l_copyP {b m n : Nat} {u : Value} {k : IntKind} {ws us ws' : List Nat} {e' : TypeId} {by_ : Nat} {M' : Mem} (hx : ev l x = some (.slice (some ⟨b, 0, none⟩) m m)) (hy : ev l y = some u) (ht : elemT C.P t = some (e, 1, by_))
    (hr : Rd (M ++ (J ++ C.A)) 1 u n (nums k us)) (hm : ws.length = m) (hw' : ws' = us.take m ++ ws.drop n) (hu : Upd M b (blk (nums k ws) e') (blk (nums k ws') e') M') (hd : Nat.blt d C.N = true) (h : K ((d, .int .i64 ((min n m : Nat) : Int)) :: l) M' J) :
    OpL C ⟨some d, .call { callee := .builtin .copy, args := #[x, y], argTypes := #[t, t] }, ty, pos, af, g⟩ l M J K := by
  intro Qp a w ha hw
  obtain ⟨i, z, hut, hi, hz, hzs, his, hib⟩ := elemT_spec ht
  obtain ⟨pu, cu, rfl, hul, huc, hub⟩ := hr
  have hru : Rd (M ++ (J ++ C.A)) 1 (.slice pu n cu) n (nums k us) := ⟨pu, cu, rfl, hul, huc, hub⟩
  have hb := hw.mem _ _ (List.mem_append_left _ hu.mem)
  have hf := first_rd (P := C.P) (m := n) (c2 := cu) (hru.hi (min n m) (Nat.min_le_left _ _)) hw.fx
  have hus : us.length = n := by simpa using hul
  rw [Nat.mul_one, show (nums k us).take (min n m) = nums k (us.take (min n m)) by simp [nums]] at hf
  have hst := run_storeCells_at (P := C.P) b 0 e' (nums k (us.take (min n m))) 0 (nums k ws).toArray w hb (by simp [hus, hm]; omega) nums_one
  simp only [Nat.add_zero, Nat.zero_add, List.take_zero, List.nil_append, nums_len, List.length_take, hus] at hst
  rw [← nums_drop, ← nums_append] at hst
  have e1 : us.take (min n m) ++ ws.drop (min (min n m) n) = ws' := by
    rw [hw']
    rcases Nat.le_total m n with h | h
    · rw [Nat.min_eq_right h, Nat.min_eq_left h, List.drop_of_length_le (l := ws) (i := m) (by omega), List.drop_of_length_le (l := ws) (i := n) (by omega)]
    · rw [Nat.min_eq_left h, Nat.min_self, List.take_of_length_le (l := us) (i := n) (by omega), List.take_of_length_le (l := us) (i := m) (by omega)]
  rw [e1] at hst
  have hrun : (execOp a.eval ⟨some d, .call { callee := .builtin .copy, args := #[x, y], argTypes := #[t, t] }, ty, pos, af, g⟩).run C.P w = .ok (.value (.int .i64 ((min n m : Nat) : Int))) (w.setRow b (nums k ws').toArray) := by
    simp [execOp, resolve, invoke, builtin, ha.ev hx, ha.ev hy, Builtin.copy_, run_underlying hut, sizeOf, typeInfo, hi, his, Builtin.lenOf, hf, hst, goInt]
  unfold Oper.wp
  rw [hrun]
  exact ⟨_, M', J, ha.put (blt_lt hd) _, hw.setRow hu, h⟩
/-- An append behind a slice without room, of what is read alone: a new array. -/
theorem l_appendC {sz by_ n m b o : Nat} {u : Value} {xs ys : List Value} (hx : ev l x = some (.slice (some ⟨b, o, none⟩) n n)) (hy : ev l y = some u) (ht : elemT C.P t = some (e, sz, by_)) (hsz : Nat.blt 0 sz = true)
    (hs : Rd (M ++ (J ++ C.A)) sz (.slice (some ⟨b, o, none⟩) n n) n xs) (hr : Rd (M ++ (J ++ C.A)) sz u m ys) (hm : 0 < m) (hmax : n + m ≤ maxLen) (hbytes : (n + m) * by_ ≤ 140737488355328) (hd : Nat.blt d C.N = true)
    (k : ∀ v' B', Sl sz v' (n + m) (xs ++ ys) B' → K ((d, v') :: l) (B' ++ M) J) :
    OpL C ⟨some d, .call { callee := .builtin .append, args := #[x, y], argTypes := #[t, t] }, ty, pos, af, g⟩ l M J K := by
  intro Qp a w ha hw
  obtain ⟨i, z, hu, hi, hz, hzs, his, hib⟩ := elemT_spec ht
  obtain ⟨pu, cu, rfl, hul, huc, hub⟩ := hr
  obtain ⟨p', c', e', hxl, hcc, hxb⟩ := hs
  cases e'
  subst his; subst hib
  obtain ⟨bu, ou, csu, eu, fru, rfl, hbu, hxu⟩ : ∃ (b o : Nat) (cs : List Value) (e : TypeId) (fr : Nat × Nat), pu = some ⟨b, o, none⟩ ∧ (b, Obj.cells cs.toArray e fr) ∈ M ++ (J ++ C.A) ∧ ∀ j u, ys[j]? = some u → cs[o + j]? = some u := by
    rcases hub with h | h
    · omega
    · exact h
  have hnews : ∀ j u, ys[j]? = some u → w.cell? ((⟨bu, ou, none⟩ : Addr).add j) = some u := fun j u hj => by rw [Addr.add_mid, cell_fx hw.fx hbu]; simpa using hxu j u hj
  have holds : ∀ j u, xs[j]? = some u → w.cell? ((⟨b, o, none⟩ : Addr).add j) = some u := fun j u hj => by
    rcases hxb with h | ⟨b2, o2, cs2, e2, f2, h1, h2, h3⟩
    · subst h
      have : xs = [] := List.eq_nil_of_length_eq_zero (by simpa using hxl)
      subst this; simp at hj
    · cases h1
      rw [Addr.add_mid, cell_fx hw.fx h2]; simpa using h3 j u hj
  have hsmall : n + m ≤ 9223372036854775807 := by simp only [maxLen] at hmax; omega
  have hge := grownCap_ge w (n + m) n e
  have hcm : grownCap w (n + m) n e ≤ maxLen := grownCap_le_maxLen w (n + m) n e hmax
  have hrg := run_append_grow (P := C.P) w t ty e i z hu hi hz ⟨b, o, none⟩ n n xs hxl holds ⟨bu, ou, none⟩ m cu ys hul hnews (by omega) (by omega) (growslice_fits (by omega) hbytes)
  have hexec : (execOp a.eval ⟨some d, .call { callee := .builtin .append, args := #[x, y], argTypes := #[t, t] }, ty, pos, af, g⟩).run C.P w = .ok (.value (.slice (some ⟨w.heap.size, 0, none⟩) (n + m) (grownCap w (n + m) n e))) (w.drew.alloc (.cells (xs.toArray ++ ys.toArray ++ Builtin.zeroCells z.cells (grownCap w (n + m) n e - (n + m))) e (0, 0))) := by
    simp [execOp, resolve, invoke, builtin, ha.ev hx, ha.ev hy, hrg]
  unfold Oper.wp
  rw [hexec]
  have hsl : Sl i.size (.slice (some ⟨w.heap.size, 0, none⟩) (n + m) (grownCap w (n + m) n e)) (n + m) (xs ++ ys) [(w.heap.size, .cells (xs.toArray ++ ys.toArray ++ Builtin.zeroCells z.cells (grownCap w (n + m) n e - (n + m))) e (0, 0))] := by
    refine .inr ⟨w.heap.size, 0, _, (xs.toArray ++ ys.toArray ++ Builtin.zeroCells z.cells (grownCap w (n + m) n e - (n + m))).toList, e, rfl, by simp [blk], hge, hcm, ?_, ?_, ?_⟩
    · simp only [Array.length_toList, Array.size_append, List.size_toArray, size_zeroCells, hzs, hxl, hul, ← Nat.add_mul, Nat.zero_add]
      refine Nat.mul_le_mul_right _ ?_
      omega
    · simp [hxl, hul, Nat.add_mul]
    · intro j u hj
      have hlt : j < (xs ++ ys).length := (List.getElem?_eq_some_iff.1 hj).1
      rw [Nat.zero_add]
      simp only [Array.toList_append, List.append_assoc]
      rw [← List.append_assoc, List.getElem?_append_left (by simpa using hlt)]
      exact hj
  exact ⟨_, _, J, ha.put (blt_lt hd) _, St.alloc (w := w.drew) hw.drew _, k _ _ hsl⟩
end loud
/-- The return, in a free form: what is owned still, what is read alone from now on. -/
def retZ (P : Program) (fn : Func) (A : Mem) (post : Value → Mem → Mem → Prop) : XQ
  | .ret, l, M, J => ∃ v M' B, Res P fn l (M ++ (J ++ A)) v ∧ Fit M (B ++ M') ∧ post v M' (B ++ J)
  | .normal, l, M, J => ∃ v M' B, Res P fn l (M ++ (J ++ A)) v ∧ Fit M (B ++ M') ∧ post v M' (B ++ J)
  | _, _, _, _ => False
theorem FnX.enterZ {P : Program} {f : FuncId} {fn : Func} {c : Code} {N : Nat} {args : List Value} {M A : Mem} {post : Value → Mem → Mem → Prop}
    (hf : P.funcs[f]? = some fn) (hb : fn.body = some c) (hn : fn.ntmps = N) (hN : Nat.ble args.length N = true)
    (h : ∀ w, XC ⟨P, w, M.map Prod.fst, A, N⟩ c (retZ P fn A post) (argE args 0) M []) : FnX P f args M A post := by
  intro w hw
  refine calls_of_wp hf hb ?_
  have hle : args.length ≤ N := by simpa using hN
  refine Code.wp_mono ?_ (h w _ w ?_ hw.cx)
  · rintro e a' w' ⟨l, M', J, ha, hw', hq⟩
    cases e <;> first | exact hq.elim | skip
    all_goals
      obtain ⟨v, M2, B, hv, hM2, hp⟩ := hq
      exact ⟨ha.defers, v, hv N a' w' ha hw'.fx, v, M2, B ++ J, rfl, hp, (hw'.fit hM2 (fun _ h => h)).freezes.cx⟩
  · refine ⟨rfl, by simp [hn]; omega, ?_⟩
    intro i v hi
    obtain ⟨_, h2⟩ := argE_lk args 0 i v hi
    simp only [Nat.sub_zero] at h2
    have hlt : i < args.length := (List.getElem?_eq_some_iff.1 h2).1
    rw [Array.getElem?_append_left (by simpa using hlt)]
    simpa using h2
theorem Fit.nil {M : Mem} : Fit M ([] ++ []) := Fit.sub (List.nil_sublist _)
theorem Fit.none {M M' : Mem} (h : Fit M M') : Fit M ([] ++ M') := h
instance PickC.two {M X Y R1 R : Mem} [h1 : PickC M X R1] [h2 : PickC R1 Y R] : PickC M (X ++ Y) R := ⟨h1.perm.trans (by rw [List.append_assoc]; exact h2.perm.append_left X)⟩
instance (priority := 50) PickC.left {D M B R : Mem} [h : PickC D B R] : PickC (D ++ M) B (R ++ M) := ⟨(List.Perm.append_right M h.perm).trans (by rw [List.append_assoc])⟩
instance (priority := 60) PickC.consB {M B R1 R : Mem} {x : Nat × Obj} [h1 : PickC M [x] R1] [h2 : PickC R1 B R] : PickC M (x :: B) R := ⟨h1.perm.trans (List.Perm.cons x h2.perm)⟩
theorem uL {B B' r : Mem} {b : Nat} {o o' : Obj} (h : Upd B b o o' B') : Upd (B ++ r) b o o' (B' ++ r) := by
  induction h with
  | hd => exact .hd
  | tl _ ih => exact .tl ih
instance (priority := 50) UpC.lft {b : Nat} {o o' : Obj} {B B' r : Mem} [h : UpC B b o o' B'] : UpC (B ++ r) b o o' (B' ++ r) := ⟨uL h.upd⟩
end Go.Px

/- The walks of package prim in both modes: New, fit, read, Fresh. -/
namespace Go.Proofs.YtphcaiplgpmnnaaGreatDoor
open Go.Px
/-- What the package variables hold. -/
structure Glb (A : Mem) : Prop where
  first : ∃ e f, (0, Obj.cells (nums .u32 hFirst.list).toArray e f) ∈ A
  round : ∃ e f, (1, Obj.cells (nums .u32 kTab).toArray e f) ∈ A
  pow : ∃ e f, (2, Obj.cells (nums .u64 pow10T).toArray e f) ∈ A
theorem Glb.sub {A A' : Mem} (h : Glb A) (hs : ∀ x, x ∈ A → x ∈ A') : Glb A' := by
  obtain ⟨⟨a, b, c⟩, ⟨d, e, f⟩, ⟨g, h, i⟩⟩ := h
  exact ⟨⟨a, b, hs _ c⟩, ⟨d, e, hs _ f⟩, ⟨g, h, hs _ i⟩⟩
theorem Glb.up {M J A : Mem} (h : Glb A) : Glb (M ++ (J ++ A)) := h.sub fun _ h => mA h
/-- What a Prim is: its mode, its seed, how many keys it made, its terms. -/
structure Ps where
  real : Bool
  seed : List Nat
  n : Nat
  ts : List Tm
def md (b : Bool) : Int := if b then 0 else 1
structure Prm (pb : Nat) (s : Ps) (M : Mem) : Prop where
  ex : ∃ (sv : Value) (bt bm : Nat) (B MT : Mem), M = (pb, blk [.int .u8 (md s.real), sv, .int .i64 ((s.n : Nat) : Int), .pointer (some ⟨bt, 0, none⟩)] 124) :: (B ++ MT) ∧ By B sv s.seed ∧ Tab bt bm s.ts MT
/-! ### The plain functions -/
def fitN (w : List Nat) (n : Nat) : List Nat := w.take n ++ List.replicate (n - w.length) 0
theorem fitN_len (w : List Nat) (n : Nat) : (fitN w n).length = n := by simp [fitN]; omega
theorem fitN_lt {w : List Nat} (h : ∀ x ∈ w, x < 256) (n : Nat) : ∀ x ∈ fitN w n, x < 256 := by
  intro x hx
  rcases List.mem_append.1 hx with h1 | h1
  · exact h x (List.mem_of_mem_take h1)
  · rw [(List.mem_replicate.1 h1).2]; decide
def le8n (n : Nat) : List Nat := (List.range 8).map (byt ((n : Nat) : Int))
def keyR (seed : List Nat) (n : Nat) : List Nat := expand (hmac [] seed) ([107, 101, 121] ++ le8n n) 32
def atom (n : Nat) : Tm := ⟨1, [], [], (n : Int)⟩
def freshS (s : Ps) : Ps := if s.real then { s with n := s.n + 1 } else { s with n := s.n + 1, ts := add s.ts (atom (s.n + 1)) }
def freshK (s : Ps) : List Nat := if s.real then keyR s.seed (s.n + 1) else bts ((at_ s.ts (atom (s.n + 1)) : Nat) : Int)
theorem freshS_t {s : Ps} (h : s.real = true) : freshS s = { s with n := s.n + 1 } := if_pos h
theorem freshS_f {s : Ps} (h : s.real = false) : freshS s = { s with n := s.n + 1, ts := add s.ts (atom (s.n + 1)) } := if_neg (by rw [h]; decide)
theorem freshK_t {s : Ps} (h : s.real = true) : freshK s = keyR s.seed (s.n + 1) := if_pos h
theorem freshK_f {s : Ps} (h : s.real = false) : freshK s = bts ((at_ s.ts (atom (s.n + 1)) : Nat) : Int) := if_neg (by rw [h]; decide)
theorem le8n_lt (n : Nat) : ∀ x ∈ le8n n, x < 256 := by
  intro x hx
  obtain ⟨k, _, rfl⟩ := List.mem_map.1 hx
  exact byt_lt _ _
theorem expand_lt (key info : List Nat) (n : Int) : ∀ x ∈ expand key info n, x < 256 := fun x hx => exp1_lt _ _ _ x (List.mem_of_mem_take hx)
theorem expand_le (key info : List Nat) (n : Int) : (expand key info n).length ≤ n.toNat := by unfold expand; exact List.length_take_le _ _
theorem atom_ok' {n : Nat} (h : n ≤ 1099511627776) : Tmo (atom n) := ⟨show 1 < 256 by decide, show i64 (n : Int) by unfold i64; omega, fun i hi => (List.not_mem_nil hi).elim, show 0 ≤ 1048576 by decide, ⟨fun x hx => (List.not_mem_nil hx).elim⟩, show 0 ≤ 1099511627776 by decide⟩
theorem bts_by {R : Mem} {v : Value} {i : Int} (h : Rd R 1 v 32 (nums .u8 (bts i))) : By R v (bts i) := ⟨by rw [show (bts i).length = 32 from btk_len i (by omega)]; exact h, bts_b i, by rw [show (bts i).length = 32 from btk_len i (by omega)]; decide⟩
theorem bytesJ_spec (i : Int) (A : Mem) : FnX Tryz.prog 44 [.int .i64 i] [] A fun r M J => M = [] ∧ By J r (bts i) :=
  ((bytes_spec i A).mono (post' := fun r M J => J = [] ∧ By M r (bts i)) fun v M J ⟨h1, h2⟩ => ⟨h1, bts_by (h2.rd fun _ h => h)⟩).frz0

theorem pnew_spec (r : Bool) (v : Value) (seed : List Nat) (A : Mem) (hv : By A v seed) : FnX Tryz.prog 48 [.int .u8 (md r), v] [] A fun q M J => ∃ pb, q = .tuple #[.pointer (some ⟨pb, 0, none⟩), .int .i64 0] ∧ Prm pb ⟨r, seed, 0, []⟩ M := by
 haveI := hv.cel
 have hvl := hv.len
 refine FnX.enterZ (N := 18) Tryz.func48 rfl rfl rfl fun w_ => ?_
 refine XC.keep (kq 0 (kq 1 kn)) ?_
 refine XC.reg ?_
 refine as_ (as_ ?_)
 refine XL.fin (kq 0 (kq 1 kn)) ?_
 refine XC.seq ?_
 cases r
 ·
  refine XC.reg ?_
  refine mv_ ?_
  refine XL.q (q_cmp true rfl rfl (neT (by decide))) rfl ?_
  refine mv_ ?_
  refine XL.gy rfl rfl (OpQ.opL qm_ rfl ?_)
  refine XL.gy rfl rfl (OpQ.opL (q_cmp false rfl rfl (neF (by rfl))) rfl ?_)
  refine XL.q (q_pickT rfl rfl) rfl ?_
  refine XL.fin (kq 0 (kq 1 (kq 11 kn))) ?_
  refine XC.condF rfl ?_
  refine XC.skip ?_
  refine nx (kq 0 (kq 1 kn)) ?_
  refine XC.reg ?_
  refine mv_ (mv_ ?_)
  refine XL.lo rfl (l_append2 (e := 5) (sz := 1) (by_ := 1) rfl rfl (by kernel_rfl) rfl Sl.nil (hv.rd.mono SubC.sub) nums_one PickC.perm (by unfold maxLen; omega) (by omega) rfl fun v14 B14 hs14 => ?_)
  haveI := hs14.cel
  refine XL.call a0 (by kernel_rfl) (newT_spec _) rfl ?_
  rintro v15 M15 J15 ⟨rfl, bt, bm, rfl, hT0⟩
  refine XL.q (q_build (place := fun x => #[(0, 1), (1, 1), (2, 1), (3, 1)][x]?) (z := [.int .u8 0, .slice none 0 0, .int .i64 0, .pointer none]) (fun _ => by kernel_rfl) (eS rfl (eS rfl (eS rfl e0))) (bdS 0 1 rfl (by rfl) (bdS 1 1 rfl (by rfl) (bdS 3 1 rfl (by rfl) bd0)))) rfl ?_
  refine XL.lo rfl (bx_ fun b17 => ?_)
  refine as_ (as_ ?_)
  refine XL.fin (kq 4 (kq 5 kn)) ?_
  refine XC.ret ?_
  refine ⟨_, (b17, _) :: (B14 ++ M15), [], res2 rfl rfl rfl, Fit.none (Fit.pick (B := [_]) PickC.perm (Fit.pick PickC.perm (Fit.last PickC.perm))), _, rfl, ⟨v14, bt, bm, B14, M15, rfl, ⟨?_, hv.lt, hv.len⟩, hT0⟩⟩
  have h := hs14.rd (R := B14) fun _ h => h
  simpa using h
 ·
  refine XC.reg ?_
  refine mv_ ?_
  refine XL.q (q_cmp false rfl rfl (neF (by rfl))) rfl ?_
  refine mv_ ?_
  refine XL.gn rfl rfl rfl rfl ?_
  refine XL.gn rfl rfl rfl rfl ?_
  refine XL.q (q_pickF rfl rfl) rfl ?_
  refine XL.fin (kq 0 (kq 1 (kq 11 kn))) ?_
  refine XC.condF rfl ?_
  refine XC.skip ?_
  refine nx (kq 0 (kq 1 kn)) ?_
  refine XC.reg ?_
  refine mv_ (mv_ ?_)
  refine XL.lo rfl (l_append2 (e := 5) (sz := 1) (by_ := 1) rfl rfl (by kernel_rfl) rfl Sl.nil (hv.rd.mono SubC.sub) nums_one PickC.perm (by unfold maxLen; omega) (by omega) rfl fun v14 B14 hs14 => ?_)
  haveI := hs14.cel
  refine XL.call a0 (by kernel_rfl) (newT_spec _) rfl ?_
  rintro v15 M15 J15 ⟨rfl, bt, bm, rfl, hT0⟩
  refine XL.q (q_build (place := fun x => #[(0, 1), (1, 1), (2, 1), (3, 1)][x]?) (z := [.int .u8 0, .slice none 0 0, .int .i64 0, .pointer none]) (fun _ => by kernel_rfl) (eS rfl (eS rfl (eS rfl e0))) (bdS 0 1 rfl (by rfl) (bdS 1 1 rfl (by rfl) (bdS 3 1 rfl (by rfl) bd0)))) rfl ?_
  refine XL.lo rfl (bx_ fun b17 => ?_)
  refine as_ (as_ ?_)
  refine XL.fin (kq 4 (kq 5 kn)) ?_
  refine XC.ret ?_
  refine ⟨_, (b17, _) :: (B14 ++ M15), [], res2 rfl rfl rfl, Fit.none (Fit.pick (B := [_]) PickC.perm (Fit.pick PickC.perm (Fit.last PickC.perm))), _, rfl, ⟨v14, bt, bm, B14, M15, rfl, ⟨?_, hv.lt, hv.len⟩, hT0⟩⟩
  have h := hs14.rd (R := B14) fun _ h => h
  simpa using h

theorem fit_spec (v : Value) (w : List Nat) (n : Nat) (A : Mem) (hv : By A v w) (hn : n ≤ 1000) : FnX Tryz.prog 81 [v, .int .i64 (n : Int)] [] A fun q M J => M = [] ∧ By J q (fitN w n) := by
 haveI := hv.cel
 have hvl := hv.len
 refine FnX.enterZ (N := 12) Tryz.func81 rfl rfl rfl fun w_ => ?_
 refine XC.keep (kq 0 (kq 1 kn)) ?_
 refine XC.reg ?_
 refine as_ ?_
 refine XL.fin (kq 0 (kq 1 kn)) ?_
 refine XC.reg ?_
 refine mv_ ?_
 refine XL.lo rfl (l_makeN (by_ := 1) (k := .u8) (e := 5) n rfl rfl (by kernel_rfl) rfl rfl (by omega) (by omega) rfl fun b7 => ?_)
 refine as_ ?_
 refine XL.fin (kq 0 (kq 5 kn)) ?_
 refine XC.reg ?_
 refine mv_ (mv_ ?_)
 refine XL.lo rfl (l_copyP (e := 5) (us := w) (ws := List.replicate n 0) (ws' := fitN w n) (by_ := 1) rfl rfl (by kernel_rfl) (hv.rd.mono SubC.sub) (by simp) (by simp [fitN]) UpC.upd rfl ?_)
 refine XL.fin (kq 5 kn) ?_
 refine XC.reg ?_
 refine mv_ (as_ ?_)
 refine XL.fin (kq 4 kn) ?_
 refine XC.ret ?_
 refine ⟨_, [], [(b7, blk (nums .u8 (fitN w n)) 5)], res1 rfl rfl, Fit.eq (by simp), ⟨rfl, ⟨?_, fitN_lt hv.lt n, by rw [fitN_len]; omega⟩⟩⟩
 rw [fitN_len]
 exact Rd.whole (n := n) List.mem_cons_self (by simp [fitN_len])

theorem fresh_spec (pb : Nat) (s : Ps) (MP A : Mem) (hP : Prm pb s MP) (hn : s.ts.length ≤ 1048576) (hk : s.n < 1099511627776) (hG : Glb A) : FnX Tryz.prog 40 [.pointer (some ⟨pb, 0, none⟩)] MP A fun q M J => Prm pb (freshS s) M ∧ By J q (freshK s) := by
 obtain ⟨sv, bt, bm, B, MT, rfl, hby, hT⟩ := hP.ex
 obtain ⟨⟨ge0, gf0, h0⟩, ⟨ge1, gf1, h1⟩, ⟨ge4, gf4, h4⟩⟩ := hG
 haveI := hby.cel
 refine FnX.enterZ (N := 55) Tryz.func40 rfl rfl rfl fun w_ => ?_
 refine XC.keep (kq 0 kn) ?_
 refine XC.reg ?_
 refine as_ ?_
 refine XL.fin (kq 0 kn) ?_
 refine XC.seq ?_
 refine XC.reg ?_
 refine mv_ ?_
 refine XL.q (q_ptrEqNil (e := 124) rfl rfl (by kernel_rfl)) rfl ?_
 refine XL.fin (kq 0 (kq 6 kn)) ?_
 refine XC.condF rfl ?_
 refine XC.skip ?_
 refine nx (kq 0 kn) ?_
 refine XC.reg ?_
 refine mv_ ?_
 refine XL.q (q_nil rfl) rfl ?_
 refine XL.q (qf_ 2 2) rfl ?_
 refine XL.q ql_ rfl ?_
 refine XL.q (q_addI (b := 1) rfl rfl rfl rfl (by omega)) rfl ?_
 refine XL.q (q_nil rfl) rfl ?_
 refine XL.q (qf_ 2 2) rfl ?_
 refine XL.lo rfl (l_store rfl rfl rfl (by kernel_rfl) SetC.set UpC.upd ?_)
 refine XL.fin (kq 0 kn) ?_
 refine XC.seq ?_
 refine XC.reg ?_
 refine mv_ ?_
 refine XL.q (q_nil rfl) rfl ?_
 refine XL.q (qf_ 0 0) rfl ?_
 refine XL.q ql_ rfl ?_
 refine XL.q (q_bin rfl rfl rfl) rfl ?_
 refine XL.fin (kq 0 (kq 18 kn)) ?_
 refine XC.cond rfl (fun hc => ?_) (fun hc => ?_)
 ·
  have hr : s.real = true := by cases hq : s.real with | true => rfl | false => rw [hq] at hc; exact absurd hc (by decide)
  refine XC.reg ?_
  refine as_ ?_
  refine XL.fin (kq 0 (kq 3 kn)) ?_
  refine XC.seq ?_
  refine XC.reg ?_
  refine mv_ ?_
  refine XL.fin (kq 0 (kq 3 (kq 19 kn))) ?_
  refine XC.block ?_
  refine XC.loop (α := Nat × Value × Mem) (fun x => [(0, .pointer (some ⟨pb, 0, none⟩)), (3, x.2.1), (19, .int .i64 ((x.1 : Nat) : Int))]) (fun x => x.2.2 ++ ((pb, blk [.int .u8 (md s.real), sv, .int .i64 (((s.n + 1 : Nat) : Int)), .pointer (some ⟨bt, 0, none⟩)] 124) :: (B ++ MT))) (fun _ => []) (fun x => x.1 ≤ 8 ∧ Sl 1 x.2.1 x.1 (nums .u8 ((List.range x.1).map (byt ((s.n + 1 : Nat) : Int)))) x.2.2) (fun x => 8 - x.1) ⟨0, .slice none 0 0, []⟩ ⟨Nat.zero_le _, Sl.nil⟩ (kq 0 (kq 3 (kq 19 kn))) .rfl (fun _ h => h) ?_
  rintro ⟨i, v3, B3⟩ ⟨hi, hs3⟩
  dsimp only at hi hs3 ⊢
  haveI := hs3.cel
  refine XC.reg ?_
  refine XL.q (q_bin rfl rfl rfl) rfl ?_
  refine XL.fin (kq 0 (kq 3 (kq 19 (kq 20 kn)))) ?_
  refine XC.seq ?_
  refine XC.cond rfl (fun hc => ?_) (fun hc => ?_)
  ·
   have hlt : i < 8 := by simp at hc; omega
   refine XC.skip ?_
   refine nx (kq 0 (kq 3 (kq 19 kn))) ?_
   refine XC.seq ?_
   refine XC.block ?_
   refine XC.reg ?_
   refine mv_ (as_ ?_)
   refine XL.fin (kq 0 (kq 3 (kq 4 (kq 19 kn)))) ?_
   refine XC.reg1 ?_
   refine mv_ (mv_ ?_)
   refine XL.q (q_nil rfl) rfl ?_
   refine XL.q (qf_ 2 2) rfl ?_
   refine XL.q ql_ rfl ?_
   refine mv_ ?_
   refine XL.q (q_mulI (a := 8) rfl rfl rfl rfl (by omega)) rfl ?_
   refine XL.q (q_shr8 (k := i) rfl rfl rfl hlt) rfl ?_
   refine XL.q (q_to8i rfl (by kernel_rfl)) rfl ?_
   refine XL.lo rfl (l_buildSlice (e := 5) (sz := 1) (z := [.int .u8 0]) (by kernel_rfl) (eS rfl e0) (bdS 0 1 rfl (by rfl) bd0) rfl fun b31 => ?_)
   refine XL.lo rfl (l_append2 (e := 5) (sz := 1) (by_ := 1) rfl rfl (by kernel_rfl) rfl (by first | assumption | exact Sl.nil) (Rd.whole (n := 1) At.mem (by rfl)) (by first | (simp [Value.oneCell']; done) | (intro c hc; simp only [List.mem_singleton] at hc; subst hc; first | exact Rd.one (by assumption) | exact Sl.one (by assumption))) PickC.perm (by unfold maxLen; omega) (by omega) rfl fun v32 B32 hs32 => ?_)
   refine as_ ?_
   refine XL.nil ?_
   refine nb ?_
   refine nx (kq 0 (kq 3 (kq 19 kn))) ?_
   refine XC.reg1 ?_
   refine XL.q (q_addI (b := 1) rfl rfl rfl rfl (by omega)) rfl ?_
   refine mv_ ?_
   refine XL.nil ?_
   exact rn ⟨i + 1, v32, B32⟩ ⟨by dsimp only; omega, by dsimp only; rw [List.range_succ, List.map_append, nums_append]; exact hs32⟩ (by dsimp only; omega) (kq 0 (kq 3 (kq 19 kn))) (Fit.pick PickC.perm (Fit.pick (B := [_]) PickC.perm (Fit.last PickC.perm))) (fun _ h => by cases h)
  ·
   have hge : i = 8 := by simp at hc; omega
   subst hge
   refine XC.exit ?_
   refine te ?_
   refine re ?_
   refine be rfl ?_
   refine nx (kq 0 (kq 3 kn)) ?_
   refine XC.reg ?_
   refine mv_ ?_
   refine XL.q (q_nil rfl) rfl ?_
   refine XL.q (qf_ 1 1) rfl ?_
   refine XL.q ql_ rfl ?_
   refine XL.call (aS rfl (aS rfl a0)) (by kernel_rfl) ((extract_spec (.slice none 0 0) sv [] s.seed _ Rd.nil (fun x h => by cases h) (by simp) (hby.rd.mono SubC.sub) hby.lt (by have := hby.len; omega) (mA h0) (mA h1)).frz0) rfl ?_
   rintro v38 M38 J38 ⟨rfl, h38⟩
   refine XL.lo rfl (l_buildSlice (e := 5) (sz := 1) (z := [.int .u8 0, .int .u8 0, .int .u8 0]) (by kernel_rfl) (eS rfl (eS rfl (eS rfl e0))) (bdS 0 1 rfl (by rfl) (bdS 1 1 rfl (by rfl) (bdS 2 1 rfl (by rfl) bd0))) rfl fun b39 => ?_)
   refine XL.lo rfl (l_mark rfl (by kernel_rfl) UpC.upd rfl ?_)
   refine mv_ ?_
   refine XL.lo rfl (l_appendC (e := 5) (sz := 1) (by_ := 1) (xs := nums .u8 [107, 101, 121]) rfl rfl (by kernel_rfl) rfl (Rd.whole (n := 3) At.mem (by rfl)) (hs3.rd SubC.sub) (by decide) (by decide) (by decide) rfl fun v42 B42 hs42 => ?_)
   have hs42 : Sl 1 v42 ([107, 101, 121] ++ le8n (s.n + 1)).length (nums .u8 ([107, 101, 121] ++ le8n (s.n + 1))) B42 := sl_eq hs42 (by simp [le8n]) (by rw [nums_append]; rfl)
   refine XL.call (aS rfl (aS rfl (aS rfl a0))) (by kernel_rfl) ((expand_spec v38 v42 (hmac [] s.seed) ([107, 101, 121] ++ le8n (s.n + 1)) 32 _ (by rw [hmac_len]; exact (h38.rd SubC.sub)) (hmac_lt _ _) (by rw [hmac_len]; decide) (hs42.rd SubC.sub) (fun x hx => by rcases List.mem_append.1 hx with h | h; (simp at h; omega); exact le8n_lt _ x h) (by simp [le8n]) (by decide) (by decide) (mA h0) (mA h1)).frz0) rfl ?_
   rintro v43 M43 J43 ⟨rfl, h43⟩
   refine as_ ?_
   refine XL.fin (kq 2 kn) ?_
   refine XC.ret ?_
   refine tr ?_
   exact ⟨_, (pb, blk [.int .u8 (md s.real), sv, .int .i64 (((s.n + 1 : Nat) : Int)), .pointer (some ⟨bt, 0, none⟩)] 124) :: (B ++ MT), [], res1 rfl rfl, (Fit.none (Fit.pick (B := [_]) PickC.perm (Fit.pick PickC.perm (Fit.last PickC.perm)))), by rw [freshS_t hr]; exact ⟨sv, bt, bm, B, MT, rfl, hby, hT⟩, by rw [freshK_t hr]; exact ⟨h43.mono SubC.sub, expand_lt _ _ _, Nat.le_trans (expand_le _ _ _) (by decide)⟩⟩
 ·
  have hr : s.real = false := by cases hq : s.real with | false => rfl | true => rw [hq] at hc; exact absurd hc (by decide)
  refine XC.skip ?_
  refine nx (kq 0 kn) ?_
  refine XC.drawF [0, 1, 2, 3, 4, 5, 6, 7, 8, 11] [(0, 0), (1, 0), (2, 0), (3, 1), (4, 0), (5, 0), (6, 0), (7, 1), (8, 0), (9, 2), (10, 2), (11, 0)] (by kernel_rfl) (by kernel_rfl) fun hs => ?_
  refine XF.q hs rfl qm_ rfl ?_
  refine XF.q hs rfl (q_nil rfl) rfl ?_
  refine XF.q hs rfl (qf_ 3 3) rfl ?_
  refine XF.r hs rfl ql_ rfl ?_
  refine XF.q hs rfl qm_ rfl ?_
  refine XF.q hs rfl (q_nil rfl) rfl ?_
  refine XF.q hs rfl (qf_ 2 2) rfl ?_
  refine XF.r hs rfl ql_ rfl ?_
  refine XF.q hs rfl (q_build (place := fun x => #[(0, 1), (1, 1), (2, 1), (3, 1)][x]?) (z := [.int .u8 0, .slice none 0 0, .string ByteArray.empty, .int .i64 0]) (fun _ => by kernel_rfl) (eS rfl (eS rfl e0)) (bdS 0 1 rfl (by rfl) (bdS 3 1 rfl (by rfl) bd0))) rfl ?_
  refine XF.tl rfl rfl rfl (l_call (Mc := MT) (R := _) (aS rfl (aS rfl a0)) (by kernel_rfl) PickC.perm (putT_spec bt bm s.ts (.slice none 0 0) (atom (s.n + 1)) MT _ hT hn Rd.nil (atom_ok' (by omega)) (mA h4)) rfl ?_)
  rintro v53 M53 J53 ⟨rfl, rfl, hT53⟩
  refine XF.tl rfl rfl rfl (l_call0 (aS rfl a0) (by kernel_rfl) (bytesJ_spec _ _) rfl ?_)
  rintro v54 M54 J54 ⟨rfl, h54⟩
  refine XF.q hs rfl (q_assign rfl) rfl ?_
  refine XF.fin (kq 2 kn) ?_
  refine XC.ret ?_
  exact ⟨_, (pb, blk [.int .u8 (md s.real), sv, .int .i64 (((s.n + 1 : Nat) : Int)), .pointer (some ⟨bt, 0, none⟩)] 124) :: (B ++ M53), [], res1 rfl rfl, (Fit.none (Fit.pick (B := [_]) PickC.perm (Fit.pick PickC.perm (Fit.last PickC.perm)))), by rw [freshS_f hr]; exact ⟨sv, bt, bm, B, M53, rfl, hby, hT53⟩, by rw [freshK_f hr]; exact h54.mono SubC.sub⟩

end Go.Proofs.YtphcaiplgpmnnaaGreatDoor
/- The walk of prim's Derive in both modes. -/
namespace Go.Proofs.YtphcaiplgpmnnaaGreatDoor
open Go.Px
def fits (ws : List (List Nat)) : List Nat := ws.flatMap fun w => fitN w 32
def bigR (key : List Nat) (ws : List (List Nat)) (lb : List Nat) (n : Nat) : List Nat := expand (hmac (fitN key 32) (fits ws)) lb ((32 * n : Nat) : Int)
def cutR (b : List Nat) (n : Nat) : List (List Nat) := (List.range n).map fun i => (b.take (32 * i + 32)).drop (32 * i)
def drv (ofs : List Int) (lb : List Nat) (i : Nat) : Tm := ⟨5, ofs, lb, (i : Int)⟩
def rdSt (st : List Tm × List Int) (w : List Nat) : List Tm × List Int := (rdT st.1 w, st.2 ++ [((rdI st.1 w : Nat) : Int)])
def rdAll (ts : List Tm) (key : List Nat) (ws : List (List Nat)) : List Tm × List Int := ws.foldl rdSt (rdSt (ts, []) key)
def ptSt (ofs : List Int) (lb : List Nat) (st : List Tm × List (List Nat)) (i : Nat) : List Tm × List (List Nat) := (add st.1 (drv ofs lb i), st.2 ++ [bts ((at_ st.1 (drv ofs lb i) : Nat) : Int)])
def ptAll (ts : List Tm) (ofs : List Int) (lb : List Nat) (n : Nat) : List Tm × List (List Nat) := (List.range n).foldl (ptSt ofs lb) (ts, [])
def derT (ts : List Tm) (key : List Nat) (ws : List (List Nat)) (lb : List Nat) (n : Nat) : List Tm × List (List Nat) := ptAll (rdAll ts key ws).1 (rdAll ts key ws).2 lb n
def derS (s : Ps) (key : List Nat) (ws : List (List Nat)) (lb : List Nat) (n : Nat) : Ps := if s.real then s else { s with ts := (derT s.ts key ws lb n).1 }
def derK (s : Ps) (key : List Nat) (ws : List (List Nat)) (lb : List Nat) (n : Nat) : List (List Nat) := if s.real then cutR (bigR key ws lb n) n else (derT s.ts key ws lb n).2
theorem rdI_lt {ts : List Tm} {w : List Nat} (hw : ∀ x ∈ w, x < 256) (hl : w.length ≤ 1099511627776) (hts : ∀ t ∈ ts, Tmo t) : rdI ts w < (rdT ts w).length := by
  cases hp : plc w ts.length with
  | some j =>
    obtain ⟨h1, h2⟩ := rdT_some hp
    rw [h1, h2]; exact (plc_lt hp).1
  | none =>
    obtain ⟨h1, h2⟩ := rdT_none hp
    rw [h1, h2]
    cases hq : pos ts (rawT w) with
    | some j =>
      obtain ⟨h3, h4⟩ := add_some hq
      rw [h3, h4]
      exact (List.getElem?_eq_some_iff.1 (pos_some (rawT_ok hw hl) hts hq)).1
    | none =>
      obtain ⟨h3, h4⟩ := add_none hq
      rw [h3, h4]; simp
/-- What is known of the terms that were read. -/
structure RdOk (n0 k : Nat) (st : List Tm × List Int) : Prop where
  len : st.1.length ≤ n0 + k
  ofl : st.2.length = k
  of : ∀ x ∈ st.2, 0 ≤ x ∧ x < (st.1.length : Int)
  tmo : ∀ t ∈ st.1, Tmo t
end Go.Proofs.YtphcaiplgpmnnaaGreatDoor
/- Plain laws of prim's keys of terms: what was derived is derived again; unlike keys. -/
namespace Go.Proofs.YtphcaiplgpmnnaaGreatDoor
open Go.Px
/-- A table's terms are whole, each once. -/
structure Tok (ts : List Tm) : Prop where
  tmo : ∀ t ∈ ts, Tmo t
  nd : ts.Nodup
theorem Tab.tok {bt bm : Nat} {ts : List Tm} {M : Mem} (h : Tab bt bm ts M) : Tok ts := by
  obtain ⟨_, _, _, _, _, _, _, _, _, _, _, h1, h2⟩ := h
  exact ⟨h1, h2⟩
theorem Tok.nil : Tok [] := ⟨(fun t h => by cases h), List.nodup_nil⟩
theorem pfact {ts : List Tm} {t : Tm} (ht : Tmo t) (h : Tok ts) : ∃ l, add ts t = ts ++ l ∧ (add ts t).length ≤ ts.length + 1 ∧ (add ts t)[at_ ts t]? = some t ∧ Tok (add ts t) := by
  cases hp : pos ts t with
  | some j =>
    obtain ⟨h1, h2⟩ := add_some hp
    exact ⟨[], by rw [h1, List.append_nil], add_len, by rw [h1, h2]; exact pos_some ht h.tmo hp, by rw [h1]; exact h⟩
  | none =>
    obtain ⟨h1, h2⟩ := add_none hp
    refine ⟨[t], h1, add_len, by rw [h1, h2]; simp, ?_⟩
    rw [h1]
    refine ⟨fun u hu => ?_, ?_⟩
    · rcases List.mem_append.1 hu with hu | hu
      · exact h.tmo u hu
      · rw [List.mem_singleton.1 hu]; exact ht
    · rw [List.nodup_append]
      refine ⟨h.nd, by simp, fun x hx y hy e => (pos_none ht h.tmo).1 hp ?_⟩
      rw [List.mem_singleton.1 hy] at e
      exact e ▸ hx
theorem ext_at {ts l : List Tm} {i : Nat} {t : Tm} (h : ts[i]? = some t) : (ts ++ l)[i]? = some t := by
  rw [List.getElem?_append_left (List.getElem?_eq_some_iff.1 h).1]; exact h
/-- A term that is there is put again: nothing changes. -/
theorem again {ts : List Tm} {t : Tm} {i : Nat} (h : Tok ts) (ht : ts[i]? = some t) : add ts t = ts ∧ at_ ts t = i := add_some (pos_of h.tmo h.nd ht)
theorem bts_inj {i j : Nat} (hi : i < 18446744073709551616) (hj : j < 18446744073709551616) (h : bts ((i : Nat) : Int) = bts ((j : Nat) : Int)) : i = j := by
  have h1 := plc_bts ((i : Nat) : Int) 18446744073709551616
  have h2 := plc_bts ((j : Nat) : Int) 18446744073709551616
  have ui : u64 ((i : Nat) : Int) = i := by unfold u64; omega
  have uj : u64 ((j : Nat) : Int) = j := by unfold u64; omega
  rw [ui, if_pos hi] at h1
  rw [uj, if_pos hj] at h2
  rw [h, h2] at h1
  exact (Option.some.inj h1).symm
/-- Bytes that stand for a place of a table. -/
def Good (ts : List Tm) (w : List Nat) : Prop := ∃ i, i < ts.length ∧ w = bts ((i : Nat) : Int)
theorem Good.ext {ts l : List Tm} {w : List Nat} (h : Good ts w) : Good (ts ++ l) w := by
  obtain ⟨i, hi, e⟩ := h
  exact ⟨i, by rw [List.length_append]; omega, e⟩
theorem good_rd {ts : List Tm} {i : Nat} (hi : i < ts.length) (hl : ts.length ≤ 1048576) : rdT ts (bts ((i : Nat) : Int)) = ts ∧ rdI ts (bts ((i : Nat) : Int)) = i := by
  refine rdT_some ?_
  rw [plc_bts, show u64 ((i : Nat) : Int) = i by unfold u64; omega, if_pos hi]
/-- The keys of terms by which a state goes on: good ones, or any of numbers. -/
def Kok (s : Ps) (w : List Nat) : Prop := s.real = false → Good s.ts w
/-- A state behind another one: the same seed, more terms. -/
structure Pext (s s' : Ps) : Prop where
  real : s'.real = s.real
  ts : ∃ l, s'.ts = s.ts ++ l
theorem Pext.refl (s : Ps) : Pext s s := ⟨rfl, [], by simp⟩
theorem Pext.trans {a b c : Ps} (h1 : Pext a b) (h2 : Pext b c) : Pext a c := by
  obtain ⟨l1, e1⟩ := h1.ts
  obtain ⟨l2, e2⟩ := h2.ts
  exact ⟨h2.real.trans h1.real, l1 ++ l2, by rw [e2, e1, List.append_assoc]⟩
theorem Kok.ext {s s' : Ps} {w : List Nat} (h : Kok s w) (he : Pext s s') : Kok s' w := fun hr => by
  obtain ⟨l, e⟩ := he.ts
  rw [e]
  exact (h (by rw [← he.real]; exact hr)).ext
theorem fresh_ext (s : Ps) : Pext s (freshS s) := by
  unfold freshS
  split
  · exact ⟨rfl, [], by simp⟩
  · refine ⟨rfl, ?_⟩
    show ∃ l, add _ _ = _ ++ l
    unfold add
    split
    · exact ⟨[], by simp⟩
    · exact ⟨_, rfl⟩
theorem fresh_kok {s : Ps} (h : Tok s.ts) (hn : s.n < 1099511627776) : Kok (freshS s) (freshK s) ∧ (s.real = false → Tok (freshS s).ts) := by
  cases hr : s.real with
  | true => exact ⟨(fun h1 => by rw [(fresh_ext s).real, hr] at h1; cases h1), (fun h => by cases h)⟩
  | false =>
    obtain ⟨l, g1, g2, g3, g4⟩ := pfact (atom_ok' (n := s.n + 1) (by omega)) h
    refine ⟨fun _ => ?_, fun _ => by rw [freshS_f hr]; exact g4⟩
    rw [freshS_f hr, freshK_f hr]
    exact ⟨_, (List.getElem?_eq_some_iff.1 g3).1, rfl⟩
end Go.Proofs.YtphcaiplgpmnnaaGreatDoor
