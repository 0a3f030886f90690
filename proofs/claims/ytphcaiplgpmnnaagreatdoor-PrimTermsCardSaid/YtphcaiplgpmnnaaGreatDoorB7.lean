/- Part 7 of the texts of this claim, one behind the other. -/
import Derived.Test.YtphcaiplgpmnnaaGreatDoorB6
import Derived.WalkKit
import Derived.ProofKit
import Derived.OpenShut
import Derived.ShutString
import Derived.ChangeOld
import Derived.Below
set_option linter.unusedVariables false
set_option linter.unusedSimpArgs false
set_option maxRecDepth 100000
namespace Go.Proofs.YtphcaiplgpmnnaaGreatDoor
open Go.Px
/-- A number's bits, its bytes. -/
def u64 (i : Int) : Nat := (i % 18446744073709551616).toNat
def byt (i : Int) (k : Nat) : Nat := (i / ((256 ^ k : Nat) : Int) % 256).toNat
theorem byt_u (i : Int) {k : Nat} (hk : k < 8) : byt i k = u64 i / 256 ^ k % 256 := by
  unfold byt u64
  rcases (show k = 0 ∨ k = 1 ∨ k = 2 ∨ k = 3 ∨ k = 4 ∨ k = 5 ∨ k = 6 ∨ k = 7 by omega) with rfl | rfl | rfl | rfl | rfl | rfl | rfl | rfl <;> simp only [Nat.reducePow] <;> omega
theorem byt_lt (i : Int) (k : Nat) : byt i k < 256 := by unfold byt; omega
theorem u64_lt (i : Int) : u64 i < 18446744073709551616 := by unfold u64; omega
/-- The bytes that stand for a place, when so many of the number's are laid. -/
def btk (i : Int) (k : Nat) : List Nat := 84 :: ((List.range k).map (byt i) ++ List.replicate (31 - k) 0)
def bts (i : Int) : List Nat := btk i 8
theorem btk_len (i : Int) {k : Nat} (h : k ≤ 31) : (btk i k).length = 32 := by simp [btk]; omega
theorem btk_succ (i : Int) {k : Nat} (h : k < 31) : (btk i k).set (1 + k) (byt i k) = btk i (k + 1) := by
  unfold btk
  rw [show 1 + k = k + 1 by omega, List.set_cons_succ, List.set_append_right _ _ (by simp), List.range_succ, List.map_append]
  simp only [List.length_map, List.length_range, Nat.sub_self]
  rw [show 31 - k = (31 - (k + 1)) + 1 by omega, List.replicate_succ, List.set_cons_zero]
  simp
theorem bts_get (i : Int) {k : Nat} (h : k < 8) : (bts i).getD (1 + k) 0 = byt i k := by
  unfold bts btk
  rw [show 1 + k = k + 1 by omega, List.getD_cons_succ, List.getD_eq_getElem?_getD, List.getElem?_append_left (by simpa using h)]
  simp [h]
theorem bts_b (i : Int) : ∀ x ∈ bts i, x < 256 := by
  intro x hx
  simp only [bts, btk, List.mem_cons, List.mem_append, List.mem_map, List.mem_replicate] at hx
  rcases hx with rfl | ⟨k, _, rfl⟩ | ⟨_, rfl⟩
  · decide
  · exact byt_lt i k
  · decide
/-- The number of the eight bytes behind the first one. -/
def le8 (ws : List Nat) : Nat → Nat
  | 0 => 0
  | k + 1 => le8 ws k + ws.getD (1 + k) 0 * 256 ^ k
theorem getD_l8 {ws : List Nat} (h : ∀ x ∈ ws, x < 256) (j : Nat) : ws.getD j 0 < 256 := by
  rw [List.getD_eq_getElem?_getD]
  cases hj : ws[j]? with
  | none => decide
  | some x => exact h x (List.mem_of_getElem? hj)
theorem le8_lt {ws : List Nat} (h : ∀ x ∈ ws, x < 256) : ∀ k, le8 ws k < 256 ^ k
  | 0 => by show 0 < 1; decide
  | k + 1 => by
    have h1 := le8_lt h k
    have h2 := getD_l8 h (1 + k)
    have h3 : ws.getD (1 + k) 0 * 256 ^ k ≤ 255 * 256 ^ k := Nat.mul_le_mul_right _ (by omega)
    unfold le8
    rw [Nat.pow_succ]; omega
theorem le8_bts (i : Int) : ∀ k, k ≤ 8 → le8 (bts i) k = u64 i % 256 ^ k
  | 0, _ => by simp [le8, Nat.mod_one]
  | k + 1, h => by
    rw [le8, le8_bts i k (by omega), bts_get i (by omega), byt_u i (by omega), Nat.pow_succ, Nat.mod_mul, Nat.mul_comm (256 ^ k)]
/-- The place for which bytes stand, of so many. -/
def plc (ws : List Nat) (n : Nat) : Option Nat := if 32 ≤ ws.length ∧ ws.getD 0 0 = 84 ∧ (∀ c ∈ ws.drop 9, c = 0) ∧ le8 ws 8 < n then some (le8 ws 8) else none
theorem plc_no {ws : List Nat} {n : Nat} (h : ¬ (32 ≤ ws.length ∧ ws.getD 0 0 = 84 ∧ (∀ c ∈ ws.drop 9, c = 0) ∧ le8 ws 8 < n)) : plc ws n = none := if_neg h
theorem plc_yes {ws : List Nat} {n : Nat} (h : 32 ≤ ws.length ∧ ws.getD 0 0 = 84 ∧ (∀ c ∈ ws.drop 9, c = 0) ∧ le8 ws 8 < n) : plc ws n = some (le8 ws 8) := if_pos h
theorem plc_r0 {ws : List Nat} {n : Nat} (h : plc ws n = none) : Value.tuple #[.int .i64 0, .bool false] = .tuple #[.int .i64 (((plc ws n).getD 0 : Nat) : Int), .bool (plc ws n).isSome] := by rw [h]; rfl
theorem plc_r1 {ws : List Nat} {n m : Nat} (h : plc ws n = some m) : Value.tuple #[.int .i64 (m : Int), .bool true] = .tuple #[.int .i64 (((plc ws n).getD 0 : Nat) : Int), .bool (plc ws n).isSome] := by rw [h]; rfl
theorem plc_len {ws : List Nat} {n : Nat} (h : ws.length < 32) : plc ws n = none := plc_no fun h' => absurd h'.1 (by omega)
theorem plc_84 {ws : List Nat} {n : Nat} (h : ws.getD 0 0 ≠ 84) : plc ws n = none := plc_no fun h' => h h'.2.1
theorem plc_nz {ws : List Nat} {n j : Nat} (hj : j < (ws.drop 9).length) (h : (ws.drop 9).getD j 0 ≠ 0) : plc ws n = none := plc_no fun h' => h (h'.2.2.1 _ (by rw [List.getD_eq_getElem?_getD, List.getElem?_eq_getElem hj]; exact List.getElem_mem hj))
theorem plc_ge {ws : List Nat} {n m : Nat} (h8 : le8 ws 8 = m) (h : n ≤ m) : plc ws n = none := plc_no fun h' => by
  have := h'.2.2.2
  rw [h8] at this
  exact absurd this (Nat.not_lt.2 h)
theorem plc_some {ws : List Nat} {n m : Nat} (h8 : le8 ws 8 = m) (h1 : 32 ≤ ws.length) (h2 : ws.getD 0 0 = 84) (h3 : ∀ c ∈ ws.drop 9, c = 0) (h : m < n) : plc ws n = some m := by
  rw [plc_yes ⟨h1, h2, h3, by rw [h8]; exact h⟩, h8]
theorem plc_bts (i : Int) (n : Nat) : plc (bts i) n = if u64 i < n then some (u64 i) else none := by
  have e : le8 (bts i) 8 = u64 i := by rw [le8_bts i 8 (by omega)]; exact Nat.mod_eq_of_lt (u64_lt i)
  have hd : ∀ c ∈ (bts i).drop 9, c = 0 := by
    intro c hc
    unfold bts btk at hc
    rw [List.drop_succ_cons, List.drop_append_of_le_length (by simp)] at hc
    simp only [List.mem_append] at hc
    rcases hc with hc | hc
    · rw [List.drop_of_length_le (by simp)] at hc; cases hc
    · exact (List.mem_replicate.1 hc).2
  unfold plc
  rw [e, btk_len i (k := 8) (by omega) |> (fun h => (h : (bts i).length = 32))]
  by_cases h : u64 i < n
  · rw [if_pos h, if_pos ⟨by omega, rfl, hd, h⟩]
  · rw [if_neg h, if_neg (fun h' => h h'.2.2.2)]
theorem or_addT {n w k : Nat} (h : n < 2 ^ k) : n ||| w * 2 ^ k = n + w * 2 ^ k := by
  have := Nat.two_pow_add_eq_or_of_lt h w
  rw [Nat.mul_comm w, Nat.or_comm, Nat.add_comm n]; exact this.symm
theorem le8_w {ws : List Nat} (h : ∀ x ∈ ws, x < 256) {k : Nat} (hk : k < 8) : ws.getD (1 + k) 0 * 2 ^ (8 * k) < 18446744073709551616 := by
  have h2 := getD_l8 h (1 + k)
  have hpk : (256 : Nat) ^ k ≤ 256 ^ 7 := Nat.pow_le_pow_right (by decide) (by omega)
  have hmk : ws.getD (1 + k) 0 * 256 ^ k ≤ 255 * 256 ^ 7 := Nat.mul_le_mul (by omega) hpk
  rw [Nat.pow_mul]
  exact Nat.lt_of_le_of_lt hmk (by decide)
theorem le8_n {ws : List Nat} (h : ∀ x ∈ ws, x < 256) {k : Nat} (hk : k < 8) : le8 ws k < 18446744073709551616 :=
  Nat.lt_of_lt_of_le (le8_lt h k) (Nat.le_trans (Nat.pow_le_pow_right (by decide) (show k ≤ 7 by omega)) (by decide))
theorem le8_or {ws : List Nat} (h : ∀ x ∈ ws, x < 256) (k : Nat) : le8 ws k ||| ws.getD (1 + k) 0 * 2 ^ (8 * k) = le8 ws (k + 1) := by
  rw [or_addT (by rw [Nat.pow_mul]; exact le8_lt h k), Nat.pow_mul]; rfl
end Go.Proofs.YtphcaiplgpmnnaaGreatDoor
namespace Go.Px
theorem q_or64 {P : Program} {R : Mem} {l : Env} {d : Option Nat} {ty t t' : TypeId} {pos : String} {af : Array Edge} {g : Option (Nat × Bool)} {x y : Operand} {a b : Nat} (hx : ev l x = some (.int .u64 (a : Int))) (hy : ev l y = some (.int .u64 (b : Int))) (ha : a < 18446744073709551616) (hb : b < 18446744073709551616) : OpQ P R ⟨d, .binOp .or t x y t', ty, pos, af, g⟩ l (.int .u64 ((a ||| b : Nat) : Int)) := q_or rfl hx hy ha hb
section
variable {P : Program} {R R' : Mem} {l : Env} {d : Option Nat} {ty t t' : TypeId} {pos : String} {af : Array Edge} {g : Option (Nat × Bool)} {x y : Operand} {i j : Int} {k : Nat}
theorem q_shr8 (hx : ev l x = some (.int .i64 i)) (hy : ev l y = some (.int .i64 j)) (hj : j = ((8 * k : Nat) : Int)) (hk : k < 8) : OpQ P R ⟨d, .binOp .shr t x y t', ty, pos, af, g⟩ l (.int .i64 (i / ((256 ^ k : Nat) : Int))) := by
  subst hj
  have h := q_shr (P := P) (R := R) (d := d) (ty := ty) (pos := pos) (af := af) (g := g) (t := t) (t' := t') hx hy (by omega)
  rw [Int.toNat_natCast, Nat.min_eq_left (show 8 * k ≤ IntKind.i64.bits by show 8 * k ≤ 64; omega)] at h
  rw [show (256 ^ k : Nat) = 2 ^ (8 * k) by rw [Nat.pow_mul], Int.natCast_pow, ← Int.fdiv_eq_ediv_of_nonneg _ (Int.pow_nonneg (by decide))]
  exact h
theorem q_to8i {s : TypeId} (hx : ev l x = some (.int .i64 i)) (hc : convI P s t = some .u8) : OpQ P R ⟨d, .convert s t x, ty, pos, af, g⟩ l (.int .u8 (((i % 256).toNat : Nat) : Int)) := by
  refine q_convR _ hx hc ?_
  unfold IntKind.wrap
  simp only [IntKind.signed, IntKind.bits, Bool.false_and, Bool.false_eq_true, if_false]
  omega
end
end Go.Px
namespace Go.Proofs.YtphcaiplgpmnnaaGreatDoor
open Go.Px

theorem bytes_spec (i : Int) (A : Mem) : FnX Tryz.prog 44 [.int .i64 i] [] A fun r M J => J = [] ∧ Sl 1 r 32 (nums .u8 (bts i)) M := by
 skip
 refine FnX.enter (N := 22) Tryz.func44 rfl rfl rfl fun w => ?_
 refine XC.keep (kq 0 kn) ?_
 refine XC.reg ?_
 refine as_ ?_
 refine XL.fin (kq 0 kn) ?_
 refine XC.reg ?_
 refine XL.lo rfl (l_makeV (a := 32) (e := 5) (k := .u8) (by_ := 1) rfl rfl (by kernel_rfl) rfl rfl (by omega) (by omega) rfl fun v5 B5 hs5 => ?_)
 refine as_ ?_
 refine XL.fin (kq 0 (kq 3 kn)) ?_
 refine XC.reg ?_
 refine mv_ ?_
 refine XL.q (q_atV2 (sz := 1) (a := 0) rfl rfl (by kernel_rfl) rfl (by first | assumption | exact Sl.rd (by assumption) (fun _ h => h) | exact By.rd (by assumption)) (by omega)) rfl ?_
 refine XL.lo rfl (l_stV2 (u := 84) rfl rfl rfl (by kernel_rfl) hs5 (by decide) PickC.perm fun B5b hs5b => ?_)
 refine XL.fin (kq 0 (kq 3 kn)) ?_
 refine XC.seq ?_
 refine XC.reg ?_
 refine mv_ ?_
 refine XL.fin (kq 0 (kq 3 (kq 8 kn))) ?_
 refine XC.block ?_
 refine XC.loop (α := Nat × Mem) (fun s => [(0, .int .i64 i), (3, v5), (8, .int .i64 (s.1 : Int))]) (fun s => s.2) (fun _ => []) (fun s => s.1 ≤ 8 ∧ Sl 1 v5 32 (nums .u8 (btk i s.1)) s.2) (fun s => 8 - s.1) ⟨0, B5b⟩ ⟨Nat.zero_le _, hs5b⟩ (kq 0 (kq 3 (kq 8 kn))) (Fit.eq (by simp)) (fun _ h => h) ?_
 rintro ⟨k, B⟩ ⟨hk, hs⟩
 dsimp only at hk hs ⊢
 haveI := hs.cel
 refine XC.reg ?_
 refine XL.q (q_bin rfl rfl rfl) rfl ?_
 refine XL.fin (kq 0 (kq 3 (kq 8 (kq 9 kn)))) ?_
 refine XC.seq ?_
 refine XC.cond rfl (fun hc => ?_) (fun hc => ?_)
 ·
  have hlt : k < 8 := by simp at hc; omega
  refine XC.skip ?_
  refine nx (kq 0 (kq 3 (kq 8 kn))) ?_
  refine XC.seq ?_
  refine XC.block ?_
  refine XC.reg ?_
  refine mv_ (as_ ?_)
  refine XL.fin (kq 0 (kq 3 (kq 4 (kq 8 kn)))) ?_
  refine XC.reg1 ?_
  refine mv_ (mv_ ?_)
  refine XL.q (q_addI (a := 1) rfl rfl rfl rfl (by omega)) rfl ?_
  refine mv_ (mv_ ?_)
  refine XL.q (q_mulI (a := 8) rfl rfl rfl rfl (by omega)) rfl ?_
  refine XL.q (q_shr8 (k := k) rfl rfl rfl hlt) rfl ?_
  refine XL.q (q_to8i rfl (by kernel_rfl)) rfl ?_
  refine XL.q (q_atV2 (sz := 1) rfl rfl (by kernel_rfl) rfl (by first | assumption | exact Sl.rd (by assumption) (fun _ h => h) | exact By.rd (by assumption)) (by omega)) rfl ?_
  refine XL.lo rfl (l_stV2 (u := byt i k) rfl rfl rfl (by kernel_rfl) hs (by omega) PickC.perm fun B6 hs6 => ?_)
  rw [btk_succ i (by omega)] at hs6
  refine XL.nil ?_
  refine nb ?_
  refine nx (kq 0 (kq 3 (kq 8 kn))) ?_
  refine XC.reg1 ?_
  refine XL.q (q_addI (b := 1) rfl rfl rfl rfl (by omega)) rfl ?_
  refine mv_ ?_
  refine XL.nil ?_
  exact rn ⟨k + 1, B6⟩ ⟨by dsimp only; omega, hs6⟩ (by dsimp only; omega) (kq 0 (kq 3 (kq 8 kn))) (Fit.eq (by simp)) (fun _ h => h)
 ·
  have hge : k = 8 := by simp at hc; omega
  subst hge
  refine XC.exit ?_
  refine te ?_
  refine re ?_
  refine be rfl ?_
  refine nx (kq 3 kn) ?_
  refine XC.reg ?_
  refine mv_ (as_ ?_)
  refine XL.fin (kq 2 kn) ?_
  refine XC.ret ?_
  exact ⟨_, B, [], res1 rfl rfl, by first | exact List.Sublist.refl _ | simp, by simp, rfl, hs⟩

theorem place_spec (bt bm : Nat) (ts : List Tm) (vp : Value) (ws : List Nat) (MT A : Mem) (hT : Tab bt bm ts MT) (hsub : ∀ x, x ∈ MT → x ∈ A) (hn : ts.length ≤ 1048576) (hp : Rd A 1 vp ws.length (nums .u8 ws)) (hw : ∀ x ∈ ws, x < 256) (hl : ws.length ≤ maxLen) : FnV Tryz.prog 85 [.pointer (some ⟨bt, 0, none⟩), vp] A (.tuple #[.int .i64 (((plc ws ts.length).getD 0 : Nat) : Int), .bool (plc ws ts.length).isSome]) := by
 haveI := hp.cel
 have hmx : maxLen < 9223372036854775808 := by unfold maxLen; omega
 refine FnX.enter (N := 51) Tryz.func85 rfl rfl rfl fun w => ?_
 refine XC.keep (kq 0 (kq 1 kn)) ?_
 refine XC.reg ?_
 refine as_ (as_ ?_)
 refine XL.fin (kq 0 (kq 1 kn)) ?_
 refine XC.seq ?_
 refine XC.reg ?_
 refine mv_ ?_
 refine XL.q (q_lenV2 (sz := 1) rfl (by kernel_rfl) hp) rfl ?_
 refine XL.q (q_bin rfl rfl rfl) rfl ?_
 refine mv_ ?_
 refine XL.split (t := 13) rfl (fun hb => ?_) (fun hb => ?_)
 ·
  refine XL.gn rfl rfl rfl rfl ?_
  refine XL.gn rfl rfl rfl rfl ?_
  refine XL.gn rfl rfl rfl rfl ?_
  refine XL.gn rfl rfl rfl rfl ?_
  refine XL.q (q_pickT rfl rfl) rfl ?_
  refine XL.fin (kq 0 (kq 1 (kq 18 kn))) ?_
  refine XC.condT rfl ?_
  refine XC.reg ?_
  refine as_ (as_ ?_)
  refine XL.fin (kq 4 (kq 5 kn)) ?_
  refine XC.ret ?_
  refine tr ?_
  refine ⟨_, [], [], res2 rfl rfl rfl, List.nil_sublist _, by simp, plc_r0 (plc_len (by simp at hb; omega)), rfl, rfl⟩
 ·
  have h32 : 32 ≤ ws.length := by simp at hb; omega
  have h0 : ws.getD 0 0 = (ws.getD 0 0) := rfl
  refine XL.gy rfl rfl (OpQ.opL qm_ rfl ?_)
  refine XL.gy rfl rfl (OpQ.opL (q_atV2 (sz := 1) (a := 0) rfl rfl (by kernel_rfl) rfl hp (by omega)) rfl ?_)
  refine XL.gy rfl rfl (OpQ.opL (q_ldVN (j := 0) (Rd.mono hp SubC.sub) rfl (by kernel_rfl) (by omega)) rfl ?_)
  refine XL.gy rfl rfl (OpQ.opL (q_bin rfl rfl rfl) rfl ?_)
  refine XL.q (q_pickF rfl rfl) rfl ?_
  refine XL.fin (kq 0 (kq 1 (kq 18 kn))) ?_
  refine XC.cond rfl (fun hc => ?_) (fun hc => ?_)
  ·
   have h84 : ws.getD 0 0 ≠ 84 := by have := bne_iff_ne.1 hc; omega
   refine XC.reg ?_
   refine as_ (as_ ?_)
   refine XL.fin (kq 4 (kq 5 kn)) ?_
   refine XC.ret ?_
   refine tr ?_
   refine ⟨_, [], [], res2 rfl rfl rfl, List.nil_sublist _, by simp, plc_r0 (plc_84 h84), rfl, rfl⟩
  ·
   have h84 : ws.getD 0 0 = 84 := by have h := hc; rw [bne_eq_false_iff_eq] at h; omega
   refine XC.skip ?_
   refine nx (kq 0 (kq 1 kn)) ?_
   refine XC.reg ?_
   refine as_ ?_
   refine XL.fin (kq 0 (kq 1 (kq 6 kn))) ?_
   refine XC.seq ?_
   refine XC.reg ?_
   refine mv_ ?_
   refine XL.fin (kq 0 (kq 1 (kq 6 (kq 19 kn)))) ?_
   refine XC.block ?_
   refine XC.loop (α := Nat) (fun k => [(0, .pointer (some ⟨bt, 0, none⟩)), (1, vp), (6, .int .u64 ((le8 ws k : Nat) : Int)), (19, .int .i64 (k : Int))]) (fun _ => []) (fun _ => []) (fun k => k ≤ 8) (fun k => 8 - k) 0 (by decide) (kq 0 (kq 1 (kq 6 (kq 19 kn)))) (Fit.eq (by simp)) (fun _ h => h) ?_
   rintro k hk
   refine XC.reg ?_
   refine XL.q (q_bin rfl rfl rfl) rfl ?_
   refine XL.fin (kq 0 (kq 1 (kq 6 (kq 19 (kq 20 kn))))) ?_
   refine XC.seq ?_
   refine XC.cond rfl (fun hc => ?_) (fun hc => ?_)
   ·
    have hlt : k < 8 := by simp at hc; omega
    have hwk := getD_l8 hw (1 + k)
    have h8w := le8_w hw hlt
    have h8n := le8_n hw hlt
    refine XC.skip ?_
    refine nx (kq 0 (kq 1 (kq 6 (kq 19 kn)))) ?_
    refine XC.seq ?_
    refine XC.block ?_
    refine XC.reg ?_
    refine mv_ (as_ ?_)
    refine XL.fin (kq 0 (kq 1 (kq 6 (kq 7 (kq 19 kn))))) ?_
    refine XC.reg1 ?_
    refine mv_ (mv_ (mv_ ?_))
    refine XL.q (q_addI (a := 1) rfl rfl rfl rfl (by omega)) rfl ?_
    refine XL.q (q_atV2 (sz := 1) rfl rfl (by kernel_rfl) rfl hp (by omega)) rfl ?_
    refine XL.q (q_ldVN (Rd.mono hp SubC.sub) rfl (by kernel_rfl) (by omega)) rfl ?_
    refine XL.q (q_convN (ws.getD (1 + k) 0) rfl (by kernel_rfl) (by rw [wrap64, Nat.mod_eq_of_lt (by omega)])) rfl ?_
    refine mv_ ?_
    refine XL.q (q_mulI (a := 8) rfl rfl rfl rfl (by omega)) rfl ?_
    refine XL.q (q_shlI 18446744073709551616 rfl (by decide) rfl rfl rfl rfl (by show 8 * k ≤ 64; omega)) rfl ?_
    rw [Nat.mod_eq_of_lt h8w]
    refine XL.q (q_or64 rfl rfl h8n h8w) rfl ?_
    rw [le8_or hw k]
    refine as_ ?_
    refine XL.nil ?_
    refine nb ?_
    refine nx (kq 0 (kq 1 (kq 6 (kq 19 kn)))) ?_
    refine XC.reg1 ?_
    refine XL.q (q_addI (b := 1) rfl rfl rfl rfl (by omega)) rfl ?_
    refine mv_ ?_
    refine XL.nil ?_
    exact rn (k + 1) (by omega) (by omega) (kq 0 (kq 1 (kq 6 (kq 19 kn)))) (Fit.eq (by simp)) (fun _ h => h)
   ·
    have hge : k = 8 := by simp at hc; omega
    subst hge
    generalize h8 : le8 ws 8 = n8
    refine XC.exit ?_
    refine te ?_
    refine re ?_
    refine be rfl ?_
    refine nx (kq 0 (kq 1 (kq 6 kn))) ?_
    refine XC.seq ?_
    refine XC.reg ?_
    refine mv_ ?_
    refine XL.q (q_loV2 (sz := 1) (a := 9) rfl rfl (by kernel_rfl) rfl hp (by omega)) rfl ?_
    have hq := hp.loV 9 (by omega)
    rw [Nat.mul_one, ← nums_drop] at hq
    generalize vLo 9 1 vp = vq at *
    haveI := hq.cel
    refine XL.q (q_lenV2 (sz := 1) rfl (by kernel_rfl) hq) rfl ?_
    refine mv_ ?_
    refine XL.fin (kq 0 (kq 6 (kq 35 (kq 36 (kq 37 kn))))) ?_
    refine XC.block ?_
    refine XC.loop (α := Nat) (fun j => [(0, .pointer (some ⟨bt, 0, none⟩)), (6, .int .u64 ((n8 : Nat) : Int)), (35, vq), (36, .int .i64 ((ws.length - 9 : Nat) : Int)), (37, .int .i64 (j : Int))]) (fun _ => []) (fun _ => []) (fun j => j ≤ ws.length - 9 ∧ ∀ c ∈ (ws.drop 9).take j, c = 0) (fun j => ws.length - 9 - j) 0 ⟨Nat.zero_le _, fun c h => by simp at h⟩ (kq 0 (kq 6 (kq 35 (kq 36 (kq 37 kn))))) (Fit.eq (by simp)) (fun _ h => h) ?_
    rintro j ⟨hj, hz⟩
    refine XC.reg ?_
    refine XL.q (q_bin rfl rfl rfl) rfl ?_
    refine XL.fin (kq 0 (kq 6 (kq 35 (kq 36 (kq 37 (kq 38 kn)))))) ?_
    refine XC.seq ?_
    refine XC.cond rfl (fun hc => ?_) (fun hc => ?_)
    ·
     have hlt : j < ws.length - 9 := by simp at hc; omega
     have hjw : j < (ws.drop 9).length := by rw [List.length_drop]; exact hlt
     have hwj := getD_l8 (ws := ws.drop 9) (fun x hx => hw x (List.mem_of_mem_drop hx)) j
     refine XC.skip ?_
     refine nx (kq 0 (kq 6 (kq 35 (kq 36 (kq 37 kn))))) ?_
     refine XC.seq ?_
     refine XC.block ?_
     refine XC.reg ?_
     refine XL.q (q_atV2 (sz := 1) rfl rfl (by kernel_rfl) rfl hq hlt) rfl ?_
     refine XL.q (q_ldVN (Rd.mono hq SubC.sub) rfl (by kernel_rfl) hlt) rfl ?_
     refine as_ ?_
     refine XL.fin (kq 0 (kq 6 (kq 9 (kq 35 (kq 36 (kq 37 kn)))))) ?_
     refine XC.reg ?_
     refine mv_ ?_
     refine XL.q (q_bin rfl rfl rfl) rfl ?_
     refine XL.fin (kq 0 (kq 6 (kq 35 (kq 36 (kq 37 (kq 42 kn)))))) ?_
     refine XC.cond rfl (fun hc => ?_) (fun hc => ?_)
     ·
      have hne : (ws.drop 9).getD j 0 ≠ 0 := by have := bne_iff_ne.1 hc; omega
      refine XC.reg ?_
      refine as_ (as_ ?_)
      refine XL.fin (kq 4 (kq 5 kn)) ?_
      refine XC.ret ?_
      refine br ?_
      refine tr ?_
      refine rr ?_
      refine br ?_
      refine tr ?_
      refine ⟨_, [], [], res2 rfl rfl rfl, List.nil_sublist _, by simp, plc_r0 (plc_nz hjw hne), rfl, rfl⟩
     ·
      have he0 : (ws.drop 9).getD j 0 = 0 := by have h := hc; rw [bne_eq_false_iff_eq] at h; omega
      refine XC.skip ?_
      refine nb ?_
      refine nx (kq 0 (kq 6 (kq 35 (kq 36 (kq 37 kn))))) ?_
      refine XC.reg1 ?_
      refine XL.q (q_addI (b := 1) rfl rfl rfl rfl (by omega)) rfl ?_
      refine mv_ ?_
      refine XL.nil ?_
      exact rn (j + 1) ⟨by omega, fun c h => by rw [List.take_add_one, List.getElem?_eq_getElem hjw] at h; rcases List.mem_append.1 h with h | h; exact hz c h; simp at h; rw [List.getD_eq_getElem?_getD, List.getElem?_eq_getElem hjw] at he0; simp at he0; omega⟩ (by omega) (kq 0 (kq 6 (kq 35 (kq 36 (kq 37 kn))))) (Fit.eq (by simp)) (fun _ h => h)
    ·
     have hge : j = ws.length - 9 := by simp at hc; omega
     subst hge
     have hzz : ∀ c ∈ ws.drop 9, c = 0 := by rwa [List.take_of_length_le (by rw [List.length_drop]; exact Nat.le_refl _)] at hz
     refine XC.exit ?_
     refine te ?_
     refine re ?_
     refine be rfl ?_
     refine nx (kq 0 (kq 6 kn)) ?_
     refine XC.seq ?_
     refine XC.reg ?_
     refine mv_ (mv_ ?_)
     refine XL.callV (aS rfl a0) (by kernel_rfl) (lenT_spec bt bm ts MT _ hT (fun x hx => mA (hsub x hx))) rfl ?_
     refine XL.q (q_convN ts.length rfl (by kernel_rfl) (by rw [wrap64, Nat.mod_eq_of_lt (by omega)])) rfl ?_
     refine XL.q (q_bin rfl rfl rfl) rfl ?_
     refine XL.fin (kq 6 (kq 48 kn)) ?_
     refine XC.cond rfl (fun hc => ?_) (fun hc => ?_)
     ·
      have hge : ts.length ≤ n8 := by simp at hc; omega
      refine XC.reg ?_
      refine as_ (as_ ?_)
      refine XL.fin (kq 4 (kq 5 kn)) ?_
      refine XC.ret ?_
      refine tr ?_
      refine ⟨_, [], [], res2 rfl rfl rfl, List.nil_sublist _, by simp, plc_r0 (plc_ge h8 hge), rfl, rfl⟩
     ·
      have hltn : n8 < ts.length := by simp at hc; omega
      refine XC.skip ?_
      refine nx (kq 6 kn) ?_
      refine XC.reg ?_
      refine mv_ ?_
      refine XL.q (q_convN n8 rfl (by kernel_rfl) (wrapI (by omega))) rfl ?_
      refine as_ (as_ ?_)
      refine XL.fin (kq 4 (kq 5 kn)) ?_
      refine XC.ret ?_
      refine ⟨_, [], [], res2 rfl rfl rfl, List.nil_sublist _, by simp, plc_r1 (plc_some h8 h32 h84 hzz hltn), rfl, rfl⟩

end Go.Proofs.YtphcaiplgpmnnaaGreatDoor
/- Read; the walk of TermBytes. -/
namespace Go.Proofs.YtphcaiplgpmnnaaGreatDoor
open Go.Px
def rawT (ws : List Nat) : Tm := ⟨2, [], ws, 0⟩
def rdT (ts : List Tm) (ws : List Nat) : List Tm := match plc ws ts.length with
  | some _ => ts
  | none => add ts (rawT ws)
def rdI (ts : List Tm) (ws : List Nat) : Nat := match plc ws ts.length with
  | some j => j
  | none => at_ ts (rawT ws)
theorem rawT_ok {ws : List Nat} (h : ∀ x ∈ ws, x < 256) (hl : ws.length ≤ 1099511627776) : Tmo (rawT ws) := ⟨show 2 < 256 by decide, show i64 0 by unfold i64; omega, fun i hi => (List.not_mem_nil hi).elim, show 0 ≤ 1048576 by decide, ⟨h⟩, hl⟩
theorem rdT_some {ts : List Tm} {ws : List Nat} {j : Nat} (h : plc ws ts.length = some j) : rdT ts ws = ts ∧ rdI ts ws = j := by unfold rdT rdI; rw [h]; exact ⟨rfl, rfl⟩
theorem rdT_none {ts : List Tm} {ws : List Nat} (h : plc ws ts.length = none) : rdT ts ws = add ts (rawT ws) ∧ rdI ts ws = at_ ts (rawT ws) := by unfold rdT rdI; rw [h]; exact ⟨rfl, rfl⟩
theorem plc_lt {ws : List Nat} {n j : Nat} (h : plc ws n = some j) : j < n ∧ ∀ m, j < m → plc ws m = some j := by
  unfold plc at h
  split at h
  · rename_i hc
    have e := Option.some.inj h
    subst e
    exact ⟨hc.2.2.2, fun m hm => plc_yes ⟨hc.1, hc.2.1, hc.2.2.1, hm⟩⟩
  · cases h
theorem add_none {ts : List Tm} {t : Tm} (h : pos ts t = none) : add ts t = ts ++ [t] ∧ at_ ts t = ts.length := by unfold add at_; rw [h]; exact ⟨rfl, rfl⟩
theorem add_some {ts : List Tm} {t : Tm} {j : Nat} (h : pos ts t = some j) : add ts t = ts ∧ at_ ts t = j := by unfold add at_; rw [h]; exact ⟨rfl, rfl⟩
def atoms (k : Nat) : List Tm := (List.range k).map fun (j : Nat) => (⟨1, [], [], (j : Int)⟩ : Tm)
theorem read_spec (bt bm : Nat) (ts : List Tm) (vp : Value) (ws : List Nat) (MT A : Mem) (hT : Tab bt bm ts MT) (hn : ts.length ≤ 1048576) (hp : Rd A 1 vp ws.length (nums .u8 ws)) (hw : ∀ x ∈ ws, x < 256) (hl : ws.length ≤ 1099511627776) {e4 : TypeId} {f4 : Nat × Nat} (h4 : (2, Obj.cells (nums .u64 pow10T).toArray e4 f4) ∈ A) : FnX Tryz.prog 107 [.pointer (some ⟨bt, 0, none⟩), vp] MT A fun r M J => J = [] ∧ r = .int .i64 ((rdI ts ws : Nat) : Int) ∧ Tab bt bm (rdT ts ws) M := by
 haveI := hp.cel
 haveI : B256 ws := ⟨hw⟩
 refine FnX.enter (N := 20) Tryz.func107 rfl rfl rfl fun w => ?_
 refine XC.keep (kq 0 (kq 1 kn)) ?_
 refine XC.reg ?_
 refine as_ ?_
 refine XL.fin (kq 0 (kq 1 kn)) ?_
 refine XC.seq ?_
 refine XC.reg ?_
 refine mv_ (mv_ ?_)
 refine XL.callV (aS rfl (aS rfl a0)) (by kernel_rfl) (place_spec bt bm ts vp ws MT _ hT SubC.sub hn (hp.mono SubC.sub) hw (Nat.le_trans hl (by unfold maxLen; omega))) rfl ?_
 refine mv_ ?_
 refine XL.q (q_x0 rfl) rfl ?_
 refine XL.q (q_x1 rfl) rfl ?_
 refine as_ (as_ ?_)
 refine XL.fin (kq 0 (kq 1 (kq 5 (kq 6 kn)))) ?_
 refine XC.reg ?_
 refine mv_ ?_
 refine XL.fin (kq 0 (kq 1 (kq 5 (kq 13 kn)))) ?_
 refine XC.cond rfl (fun hc => ?_) (fun hc => ?_)
 ·
  obtain ⟨j, hj⟩ := Option.isSome_iff_exists.1 hc
  obtain ⟨h1, h2⟩ := rdT_some hj
  refine XC.reg ?_
  refine mv_ (as_ ?_)
  refine XL.fin (kq 4 kn) ?_
  refine XC.ret ?_
  refine tr ?_
  exact ⟨_, MT, [], res1 rfl rfl, List.Sublist.refl _, by simp, rfl, by rw [h2, hj]; rfl, by rw [h1]; exact hT⟩
 ·
  have hj : plc ws ts.length = none := by simpa using hc
  obtain ⟨h1, h2⟩ := rdT_none hj
  refine XC.skip ?_
  refine nx (kq 0 (kq 1 kn)) ?_
  refine XC.reg ?_
  refine mv_ (mv_ ?_)
  refine XL.q (q_toStr2 rfl (by kernel_rfl) (hp.mono SubC.sub)) rfl ?_
  refine XL.q (q_build (place := fun x => #[(0, 1), (1, 1), (2, 1), (3, 1)][x]?) (z := [.int .u8 0, .slice none 0 0, .string ByteArray.empty, .int .i64 0]) (fun _ => by kernel_rfl) (eS rfl (eS rfl e0)) (bdS 0 1 rfl (by rfl) (bdS 2 1 rfl (by rfl) bd0))) rfl ?_
  refine XL.lo rfl (l_call (Mc := MT) (R := _) (aS rfl (aS rfl a0)) (by kernel_rfl) PickC.perm (putT_spec bt bm ts (.slice none 0 0) (rawT ws) MT _ hT hn Rd.nil (rawT_ok hw hl) (SubC.sub _ h4)) rfl ?_)
  rintro v19 M19 J19 ⟨rfl, rfl, hT19⟩
  refine as_ ?_
  refine XL.fin (kq 4 kn) ?_
  refine XC.ret ?_
  exact ⟨_, M19, [], res1 rfl rfl, by first | exact List.Sublist.refl _ | simp, by simp, rfl, by rw [h2], by rw [h1]; exact hT19⟩

theorem rdT_len {ts : List Tm} {ws : List Nat} : (rdT ts ws).length ≤ ts.length + 1 := by
  unfold rdT
  split
  · omega
  · exact add_len
end Go.Proofs.YtphcaiplgpmnnaaGreatDoor
/- Sort of two numbers; Agree; the walk of TermAgree. -/
namespace Go.Proofs.YtphcaiplgpmnnaaGreatDoor
open Go.Px
/-- Two numbers, the lesser first. -/
def srt (x y : Int) : List Int := if y < x then [y, x] else [x, y]
def two (j : Nat) (x y : Int) : List Int := if j = 1 then [x, y] else [y, x]
def out_ (i : Nat) (x y : Int) : List Int := if i = 1 then [x, y] else srt x y
theorem two_rd {R : Mem} {b j : Nat} {x y : Int} {e : TypeId} {fr : Nat × Nat} (h : (b, Obj.cells (ints (two j x y)).toArray e fr) ∈ R) : Rd R 1 (.slice (some ⟨b, 0, none⟩) 2 2) 2 (ints (two j x y)) := Rd.whole (n := 2) h (by unfold two; split <;> rfl)

theorem isNaN_spec (x : Int) (A : Mem) : FnV Tryz.prog 206 [.int .i64 x] A (.bool false) := by
 refine FnX.enter (N := 6) Tryz.func206 rfl rfl rfl fun w => ?_
 refine XC.keep (kq 0 kn) ?_
 refine XC.reg ?_
 refine as_ ?_
 refine XL.fin (kq 0 kn) ?_
 refine XC.reg ?_
 refine mv_ (mv_ ?_)
 refine XL.q (q_bin (v := .bool false) rfl rfl (by simp [arith])) rfl ?_
 refine as_ ?_
 refine XL.fin (kq 2 kn) ?_
 refine XC.ret ?_
 refine ⟨_, [], [], res1 rfl rfl, List.nil_sublist _, by simp, rfl, rfl, rfl⟩

theorem less_spec (x y : Int) (A : Mem) : FnV Tryz.prog 188 [.int .i64 x, .int .i64 y] A (.bool (decide (x < y))) := by
 refine FnX.enter (N := 17) Tryz.func188 rfl rfl rfl fun w => ?_
 refine XC.keep (kq 0 (kq 1 kn)) ?_
 refine XC.reg ?_
 refine as_ ?_
 refine XL.fin (kq 0 (kq 1 kn)) ?_
 refine XC.reg ?_
 refine mv_ ?_
 refine XL.callV (aS rfl a0) (by kernel_rfl) (isNaN_spec x _) rfl ?_
 refine mv_ ?_
 refine XL.gn rfl rfl rfl rfl ?_
 refine XL.gn rfl rfl rfl rfl ?_
 refine XL.gn rfl rfl rfl rfl ?_
 refine XL.q (q_pickF rfl rfl) rfl ?_
 refine mv_ ?_
 refine XL.gy rfl rfl (OpQ.opL qm_ rfl ?_)
 refine XL.gy rfl rfl (OpQ.opL qm_ rfl ?_)
 refine XL.gy rfl rfl (OpQ.opL (q_bin rfl rfl rfl) rfl ?_)
 refine XL.q (q_pickF rfl rfl) rfl ?_
 refine as_ ?_
 refine XL.fin (kq 4 kn) ?_
 refine XC.ret ?_
 refine ⟨_, [], [], res1 rfl rfl, List.nil_sublist _, by simp, rfl, rfl, rfl⟩

theorem ins_spec (b : Nat) (x y : Int) (A : Mem) : FnX Tryz.prog 182 [.slice (some ⟨b, 0, none⟩) 2 2, .int .i64 0, .int .i64 2] [(b, blk (ints ([x, y])) 3)] A fun r M J => J = [] ∧ r = .tuple #[] ∧ M = [(b, blk (ints (srt x y)) 3)] := by
 refine FnX.enter (N := 49) Tryz.func182 rfl rfl rfl fun w => ?_
 refine XC.keep (kq 0 (kq 1 (kq 2 kn))) ?_
 refine XC.reg ?_
 refine mv_ ?_
 refine XL.q (q_addI (a := 0) (b := 1) rfl rfl rfl rfl (by omega)) rfl ?_
 refine as_ ?_
 refine XL.fin (kq 0 (kq 1 (kq 2 (kq 6 kn)))) ?_
 refine XC.block ?_
 refine XC.loop (α := Nat) (fun i => [(0, .slice (some ⟨b, 0, none⟩) 2 2), (1, .int .i64 0), (2, .int .i64 2), (6, .int .i64 (i : Int))]) (fun i => [(b, blk (ints (out_ i x y)) 3)]) (fun _ => []) (fun i => i = 1 ∨ i = 2) (fun i => 2 - i) 1 (.inl rfl) (kq 0 (kq 1 (kq 2 (kq 6 kn)))) .rfl (fun _ h => h) ?_
 rintro i hi
 refine XC.seq ?_
 refine XC.reg ?_
 refine mv_ (mv_ ?_)
 refine XL.q (q_bin rfl rfl rfl) rfl ?_
 refine XL.fin (kq 0 (kq 1 (kq 2 (kq 6 (kq 12 kn))))) ?_
 refine XC.cond rfl (fun hc => ?_) (fun hc => ?_)
 ·
  obtain rfl : i = 1 := by simp at hc; omega
  refine XC.skip ?_
  refine nx (kq 0 (kq 1 (kq 2 (kq 6 kn)))) ?_
  refine XC.seq ?_
  refine XC.block ?_
  refine XC.reg ?_
  refine mv_ (as_ ?_)
  refine XL.fin (kq 0 (kq 1 (kq 2 (kq 6 (kq 7 kn))))) ?_
  refine XC.block ?_
  refine XC.loop (α := Nat) (fun j => [(0, .slice (some ⟨b, 0, none⟩) 2 2), (1, .int .i64 0), (2, .int .i64 2), (6, .int .i64 1), (7, .int .i64 (j : Int))]) (fun j => [(b, blk (ints (two j x y)) 3)]) (fun _ => []) (fun j => j = 1 ∨ (j = 0 ∧ y < x)) (fun j => j) 1 (.inl rfl) (kq 0 (kq 1 (kq 2 (kq 6 (kq 7 kn))))) .rfl (fun _ h => h) ?_
  rintro j hj
  refine XC.seq ?_
  refine XC.drawF [0, 1, 2, 3, 4, 5, 6, 7, 8, 9, 10, 11, 12, 13, 14] [(0, 0), (1, 0), (2, 0), (3, 0), (4, 0), (5, 0), (6, 0), (7, 1), (8, 0), (9, 0), (10, 0), (11, 0), (12, 1), (13, 2), (14, 0)] (by kernel_rfl) (by kernel_rfl) fun hs => ?_
  refine XF.q hs rfl qm_ rfl ?_
  refine XF.q hs rfl qm_ rfl ?_
  refine XF.q hs rfl (q_bin rfl rfl rfl) rfl ?_
  refine XF.q hs rfl qm_ rfl ?_
  refine XF.split (t := 19) rfl (fun hb => ?_) (fun hb => ?_)
  ·
   obtain rfl : j = 1 := by have := of_decide_eq_true hb; omega
   refine XF.qg hs rfl rfl rfl rfl qm_ rfl ?_
   refine XF.qg hs rfl rfl rfl rfl qm_ rfl ?_
   refine XF.qg hs rfl rfl rfl rfl (q_atV2 (sz := 1) (a := 1) rfl rfl (by kernel_rfl) rfl (two_rd (R := [_]) (j := 1) (x := x) (y := y) (e := 3) (fr := (0, 0)) List.mem_cons_self) (by decide)) rfl ?_
   refine XF.rg hs rfl rfl rfl rfl (q_ldV (j := 1) (u := .int .i64 y) (two_rd At.mem) rfl (by kernel_rfl) rfl) rfl ?_
   refine XF.qg hs rfl rfl rfl rfl qm_ rfl ?_
   refine XF.qg hs rfl rfl rfl rfl qm_ rfl ?_
   refine XF.qg hs rfl rfl rfl rfl (q_subI (a := 1) (b := 1) rfl rfl rfl rfl (by omega) (by omega)) rfl ?_
   refine XF.qg hs rfl rfl rfl rfl (q_atV2 (sz := 1) (a := 0) rfl rfl (by kernel_rfl) rfl (two_rd (R := [_]) (j := 1) (x := x) (y := y) (e := 3) (fr := (0, 0)) List.mem_cons_self) (by decide)) rfl ?_
   refine XF.rg hs rfl rfl rfl rfl (q_ldV (j := 0) (u := .int .i64 x) (two_rd At.mem) rfl (by kernel_rfl) rfl) rfl ?_
   refine XF.callVg rfl rfl rfl rfl (aS rfl (aS rfl a0)) (by kernel_rfl) (less_spec y x _) rfl ?_
   refine XF.q hs rfl (q_pickT rfl rfl) rfl ?_
   refine XF.fin (kq 0 (kq 1 (kq 2 (kq 6 (kq 7 (kq 30 kn)))))) ?_
   refine XC.cond rfl (fun hc => ?_) (fun hc => ?_)
   ·
    have hyx : y < x := by simpa using hc
    refine XC.skip ?_
    refine nx (kq 0 (kq 1 (kq 2 (kq 6 (kq 7 kn))))) ?_
    refine XC.seq ?_
    refine XC.block ?_
    refine XC.drawF1 [0, 1, 2, 3, 4, 5, 6, 7, 8, 9, 10, 11, 12, 13, 14, 16] [(0, 0), (1, 0), (2, 0), (3, 0), (4, 0), (5, 0), (6, 0), (7, 0), (8, 0), (9, 1), (10, 0), (11, 0), (12, 0), (13, 1), (14, 0), (15, 2), (16, 0), (17, 2)] (by kernel_rfl) (by kernel_rfl) fun hs => ?_
    refine XF.q hs rfl qm_ rfl ?_
    refine XF.q hs rfl qm_ rfl ?_
    refine XF.q hs rfl qm_ rfl ?_
    refine XF.q hs rfl qm_ rfl ?_
    refine XF.q hs rfl (q_subI (a := 1) (b := 1) rfl rfl rfl rfl (by omega) (by omega)) rfl ?_
    refine XF.q hs rfl qm_ rfl ?_
    refine XF.q hs rfl qm_ rfl ?_
    refine XF.q hs rfl (q_subI (a := 1) (b := 1) rfl rfl rfl rfl (by omega) (by omega)) rfl ?_
    refine XF.q hs rfl (q_atV2 (sz := 1) (a := 0) rfl rfl (by kernel_rfl) rfl (two_rd (R := [_]) (j := 1) (x := x) (y := y) (e := 3) (fr := (0, 0)) List.mem_cons_self) (by decide)) rfl ?_
    refine XF.r hs rfl (q_ldV (j := 0) (u := .int .i64 x) (two_rd At.mem) rfl (by kernel_rfl) rfl) rfl ?_
    refine XF.q hs rfl qm_ rfl ?_
    refine XF.q hs rfl qm_ rfl ?_
    refine XF.q hs rfl (q_atV2 (sz := 1) (a := 1) rfl rfl (by kernel_rfl) rfl (two_rd (R := [_]) (j := 1) (x := x) (y := y) (e := 3) (fr := (0, 0)) List.mem_cons_self) (by decide)) rfl ?_
    refine XF.r hs rfl (q_ldV (j := 1) (u := .int .i64 y) (two_rd At.mem) rfl (by kernel_rfl) rfl) rfl ?_
    refine XF.q hs rfl (q_atV2 (sz := 1) (a := 1) rfl rfl (by kernel_rfl) rfl (two_rd (R := [_]) (j := 1) (x := x) (y := y) (e := 3) (fr := (0, 0)) List.mem_cons_self) (by decide)) rfl ?_
    refine XF.tl rfl rfl rfl (l_store (show ev _ _ = some (.pointer (some ⟨b, 1, none⟩)) from rfl) rfl rfl (by kernel_rfl) (show SetL [.int .i64 x, .int .i64 y] 1 (.int .i64 x) [.int .i64 x, .int .i64 x] from SetC.set) UpC.upd ?_)
    refine XF.q hs rfl (q_atV2 (sz := 1) (a := 0) rfl rfl (by kernel_rfl) rfl (two_rd (R := [_]) (j := 1) (x := x) (y := y) (e := 3) (fr := (0, 0)) List.mem_cons_self) (by decide)) rfl ?_
    refine XF.tl rfl rfl rfl (l_store (show ev _ _ = some (.pointer (some ⟨b, 0, none⟩)) from rfl) rfl rfl (by kernel_rfl) (show SetL [.int .i64 x, .int .i64 x] 0 (.int .i64 y) [.int .i64 y, .int .i64 x] from SetC.set) UpC.upd ?_)
    refine XF.nil ?_
    refine nb ?_
    refine nx (kq 0 (kq 1 (kq 2 (kq 6 (kq 7 kn))))) ?_
    refine XC.reg1 ?_
    refine mv_ ?_
    refine XL.q (q_subI (a := 1) (b := 1) rfl rfl rfl rfl (by omega) (by omega)) rfl ?_
    refine as_ ?_
    refine XL.nil ?_
    exact rn 0 (.inr ⟨rfl, hyx⟩) (by decide) (kq 0 (kq 1 (kq 2 (kq 6 (kq 7 kn))))) .rfl (fun _ h => h)
   ·
    have hyx : ¬ y < x := by simpa using hc
    refine XC.exit ?_
    refine te ?_
    refine re ?_
    refine be rfl ?_
    refine nb ?_
    refine nx (kq 0 (kq 1 (kq 2 (kq 6 kn)))) ?_
    refine XC.reg1 ?_
    refine mv_ ?_
    refine XL.q (q_addI (a := 1) (b := 1) rfl rfl rfl rfl (by omega)) rfl ?_
    refine as_ ?_
    refine XL.nil ?_
    exact rn 2 (.inr rfl) (by decide) (kq 0 (kq 1 (kq 2 (kq 6 kn)))) (by rw [show out_ 2 x y = [x, y] by unfold out_ srt; simp [hyx]]; exact .rfl) (fun _ h => h)
  ·
   obtain ⟨rfl, hyx⟩ : j = 0 ∧ y < x := by have := of_decide_eq_false hb; omega
   refine XF.qn hs rfl rfl rfl rfl rfl rfl ?_
   refine XF.qn hs rfl rfl rfl rfl rfl rfl ?_
   refine XF.qn hs rfl rfl rfl rfl rfl rfl ?_
   refine XF.rn hs rfl rfl rfl rfl rfl rfl ?_
   refine XF.qn hs rfl rfl rfl rfl rfl rfl ?_
   refine XF.qn hs rfl rfl rfl rfl rfl rfl ?_
   refine XF.qn hs rfl rfl rfl rfl rfl rfl ?_
   refine XF.qn hs rfl rfl rfl rfl rfl rfl ?_
   refine XF.rn hs rfl rfl rfl rfl rfl rfl ?_
   refine XF.ln hs rfl rfl rfl rfl rfl rfl ?_
   refine XF.q hs rfl (q_pickF rfl rfl) rfl ?_
   refine XF.fin (kq 0 (kq 1 (kq 2 (kq 6 (kq 7 (kq 30 kn)))))) ?_
   refine XC.condF rfl ?_
   refine XC.exit ?_
   refine te ?_
   refine re ?_
   refine be rfl ?_
   refine nb ?_
   refine nx (kq 0 (kq 1 (kq 2 (kq 6 kn)))) ?_
   refine XC.reg1 ?_
   refine mv_ ?_
   refine XL.q (q_addI (a := 1) (b := 1) rfl rfl rfl rfl (by omega)) rfl ?_
   refine as_ ?_
   refine XL.nil ?_
   exact rn 2 (.inr rfl) (by decide) (kq 0 (kq 1 (kq 2 (kq 6 kn)))) (by rw [show out_ 2 x y = [y, x] by unfold out_ srt; simp [hyx]]; exact .rfl) (fun _ h => h)
 ·
  obtain rfl : i = 2 := by simp at hc; omega
  refine XC.exit ?_
  refine te ?_
  refine re ?_
  refine be rfl ?_
  exact ⟨_, _, [], res0 rfl, List.Sublist.refl _, by simp, rfl, rfl, rfl⟩

theorem pdq_spec (b : Nat) (x y n : Int) (A : Mem) : FnX Tryz.prog 161 [.slice (some ⟨b, 0, none⟩) 2 2, .int .i64 0, .int .i64 2, .int .i64 n] [(b, blk (ints ([x, y])) 3)] A fun r M J => J = [] ∧ r = .tuple #[] ∧ M = [(b, blk (ints (srt x y)) 3)] := by
 refine FnX.enter (N := 134) Tryz.func161 rfl rfl rfl fun w => ?_
 refine XC.keep (kq 0 (kq 1 (kq 2 (kq 3 kn)))) ?_
 refine XC.reg ?_
 refine as_ ?_
 refine XL.fin (kq 0 (kq 1 (kq 2 (kq 3 (kq 8 kn))))) ?_
 refine XC.reg ?_
 refine as_ ?_
 refine XL.fin (kq 0 (kq 1 (kq 2 (kq 3 (kq 8 (kq 9 kn)))))) ?_
 refine XC.block ?_
 refine XC.loop (α := Unit) (fun _ => [(0, .slice (some ⟨b, 0, none⟩) 2 2), (1, .int .i64 0), (2, .int .i64 2), (3, .int .i64 n), (8, .bool true), (9, .bool true)]) (fun _ => [(b, blk (ints ([x, y])) 3)]) (fun _ => []) (fun _ => True) (fun _ => 0) () trivial (kq 0 (kq 1 (kq 2 (kq 3 (kq 8 (kq 9 kn)))))) .rfl (fun _ h => h) ?_
 rintro _ _
 refine XC.block ?_
 refine XC.reg ?_
 refine mv_ (mv_ ?_)
 refine XL.q (q_subI (a := 2) (b := 0) rfl rfl rfl rfl (by omega) (by omega)) rfl ?_
 refine as_ ?_
 refine XL.fin (kq 0 (kq 1 (kq 2 (kq 3 (kq 8 (kq 9 (kq 10 kn))))))) ?_
 refine XC.seq ?_
 refine XC.reg ?_
 refine mv_ ?_
 refine XL.q (q_bin (v := .bool true) rfl rfl (by rfl)) rfl ?_
 refine XL.fin (kq 0 (kq 1 (kq 2 (kq 3 (kq 8 (kq 9 (kq 10 (kq 23 kn)))))))) ?_
 refine XC.cond rfl (fun hc => ?_) (fun hc => ?_)
 ·
  refine XC.reg ?_
  refine mv_ (mv_ (mv_ ?_))
  refine XL.lo rfl (l_call (Mc := [(b, blk (ints ([x, y])) 3)]) (R := []) (aS rfl (aS rfl (aS rfl a0))) (by kernel_rfl) (.refl _) (ins_spec b x y _) rfl ?_)
  rintro v27 M27 J27 ⟨rfl, rfl, rfl⟩
  refine XL.fin kn ?_
  refine XC.ret ?_
  refine tr ?_
  refine br ?_
  refine rr ?_
  refine br ?_
  exact ⟨_, _, [], res0 rfl, by first | exact List.Sublist.refl _ | simp, by simp, rfl, rfl, by first | rfl | simp⟩
 ·
  exact absurd hc (by decide)

theorem len_spec (x : Nat) (hx : x < 18446744073709551616) (A : Mem) : FnX Tryz.prog 162 [.int .u64 (x : Int)] [] A fun r M J => M = [] ∧ J = [] ∧ ∃ n : Int, r = .int .i64 n := by
 refine FnX.enter (N := 8) Tryz.func162 rfl rfl rfl fun w => ?_
 refine XC.keep (kq 0 kn) ?_
 refine XC.reg ?_
 refine as_ ?_
 refine XL.fin (kq 0 kn) ?_
 refine XC.seq ?_
 refine XC.cond rfl (fun hc => ?_) (fun hc => ?_)
 ·
  exact absurd hc (by decide)
 ·
  refine XC.skip ?_
  refine nx (kq 0 kn) ?_
  refine XC.reg ?_
  refine mv_ ?_
  refine XL.call (aS rfl a0) (by kernel_rfl) (len64_spec x hx _) rfl ?_
  rintro v7 M7 J7 ⟨rfl, rfl, n7, rfl, -⟩
  refine as_ ?_
  refine XL.fin (kq 2 kn) ?_
  refine XC.ret ?_
  exact ⟨_, [], [], res1 rfl rfl, by first | exact List.Sublist.refl _ | simp, by simp, rfl, rfl, _, rfl⟩

theorem sort_spec (b : Nat) (x y : Int) (A : Mem) : FnX Tryz.prog 135 [.slice (some ⟨b, 0, none⟩) 2 2] [(b, blk (ints ([x, y])) 3)] A fun r M J => J = [] ∧ r = .tuple #[] ∧ M = [(b, blk (ints (srt x y)) 3)] := by
 refine FnX.enter (N := 11) Tryz.func135 rfl rfl rfl fun w => ?_
 refine XC.keep (kq 0 kn) ?_
 refine XC.reg ?_
 refine mv_ ?_
 refine XL.q (q_lenS (e := 3) rfl (by kernel_rfl)) rfl ?_
 refine as_ ?_
 refine XL.fin (kq 0 (kq 2 kn)) ?_
 refine XC.reg1 ?_
 refine mv_ (mv_ (mv_ ?_))
 refine XL.q (q_convN (k' := .u64) 2 rfl (by kernel_rfl) (by rfl)) rfl ?_
 refine XL.call (aS rfl a0) (by kernel_rfl) (len_spec 2 (by decide) _) rfl ?_
 rintro v9 M9 J9 ⟨rfl, rfl, n9, rfl⟩
 refine XL.lo rfl (l_call (Mc := [(b, blk (ints ([x, y])) 3)]) (R := []) (aS rfl (aS rfl (aS rfl (aS rfl a0)))) (by kernel_rfl) (.refl _) (pdq_spec b x y _ _) rfl ?_)
 rintro v10 M10 J10 ⟨rfl, rfl, rfl⟩
 refine XL.nil ?_
 exact ⟨_, _, [], res0 rfl, by first | exact List.Sublist.refl _ | simp, by simp, rfl, rfl, by first | rfl | simp⟩

/-- What a secret one and another one agree on. -/
def agT (ts : List Tm) (s o : Int) : Tm := if 0 ≤ o then match ts[o.toNat]? with
  | some t => if t.kind = 3 ∧ t.of.length = 1 then ⟨4, srt s (t.of.getD 0 0), [], 0⟩ else ⟨4, [s, o], [], 1⟩
  | none => ⟨4, [s, o], [], 1⟩ else ⟨4, [s, o], [], 1⟩
theorem agT_no {ts : List Tm} {s o : Int} (h : ¬ (0 ≤ o ∧ o < (ts.length : Int))) : agT ts s o = ⟨4, [s, o], [], 1⟩ := by
  unfold agT
  by_cases h0 : 0 ≤ o
  · rw [if_pos h0, List.getElem?_eq_none (by omega)]
  · rw [if_neg h0]
theorem agT_un {ts : List Tm} {s o : Int} {t : Tm} (h0 : 0 ≤ o) (h : ts[o.toNat]? = some t) (hk : ¬ (t.kind = 3 ∧ t.of.length = 1)) : agT ts s o = ⟨4, [s, o], [], 1⟩ := by
  unfold agT
  rw [if_pos h0, h]
  exact if_neg hk
theorem agT_yes {ts : List Tm} {s o : Int} {t : Tm} (h0 : 0 ≤ o) (h : ts[o.toNat]? = some t) (hk : t.kind = 3 ∧ t.of.length = 1) : agT ts s o = ⟨4, srt s (t.of.getD 0 0), [], 0⟩ := by
  unfold agT
  rw [if_pos h0, h]
  exact if_pos hk
theorem get_facts {A : Mem} {ts : List Tm} {i : Int} {c : List Value} {ok : Bool} (hts : ∀ t ∈ ts, Tmo t) (h1 : (0 ≤ i ∧ i < (ts.length : Int)) → ok = true ∧ ∃ t, ts[i.toNat]? = some t ∧ TmC A c t) (h2 : ¬ (0 ≤ i ∧ i < (ts.length : Int)) → ok = false ∧ c = tmc 0 (.slice none 0 0) [] 0) :
    ∃ (vo : Value) (t : Tm), c = tmc t.kind vo t.text t.n ∧ Rd A 1 vo t.of.length (ints t.of) ∧ (∀ z ∈ t.of, i64 z) ∧ t.kind < 256 ∧ (ok = true → 0 ≤ i ∧ ts[i.toNat]? = some t) ∧ (ok = false → ¬ (0 ≤ i ∧ i < (ts.length : Int))) := by
  by_cases h : 0 ≤ i ∧ i < (ts.length : Int)
  · obtain ⟨e, t, ht, vo, hc, hr⟩ := h1 h
    have hto := hts t (List.mem_of_getElem? ht)
    exact ⟨vo, t, hc, hr, hto.of, hto.kind, fun _ => ⟨h.1, ht⟩, fun e' => by rw [e] at e'; cases e'⟩
  · obtain ⟨e, hc⟩ := h2 h
    exact ⟨.slice none 0 0, ⟨0, [], [], 0⟩, hc, Rd.nil, (fun z hz => by cases hz), by decide, (fun e' => by rw [e] at e'; cases e'), fun _ => h⟩
theorem srt_len (x y : Int) : (srt x y).length = 2 := by unfold srt; split <;> rfl
theorem srt_mem {x y z : Int} (h : z ∈ srt x y) : z = x ∨ z = y := by
  unfold srt at h
  split at h <;> simp at h <;> omega
theorem ag_ok {s o n : Int} {l : List Int} (hl : l.length = 2) (h : ∀ z ∈ l, i64 z) (hn : n = 0 ∨ n = 1) : Tmo ⟨4, l, [], n⟩ := ⟨show 4 < 256 by decide, show i64 n by unfold i64; omega, h, show l.length ≤ 1048576 by omega, ⟨fun x hx => (List.not_mem_nil hx).elim⟩, show 0 ≤ 1099511627776 by decide⟩

theorem agree_spec (bt bm : Nat) (ts : List Tm) (s o : Int) (MT A : Mem) (hT : Tab bt bm ts MT) (hn : ts.length ≤ 1048576) (hs : i64 s) (ho : i64 o) {e4 : TypeId} {f4 : Nat × Nat} (h4 : (2, Obj.cells (nums .u64 pow10T).toArray e4 f4) ∈ A) : FnX Tryz.prog 100 [.pointer (some ⟨bt, 0, none⟩), .int .i64 s, .int .i64 o] MT A fun r M J => J = [] ∧ r = .int .i64 ((at_ ts (agT ts s o) : Nat) : Int) ∧ Tab bt bm (add ts (agT ts s o)) M := by
 have hnT := hT
 obtain ⟨_, _, _, _, _, _, _, _, _, _, _, hts, hnd⟩ := hnT
 refine FnX.enter (N := 46) Tryz.func100 rfl rfl rfl fun w => ?_
 refine XC.keep (kq 0 (kq 1 (kq 2 kn))) ?_
 refine XC.reg ?_
 refine as_ ?_
 refine XL.fin (kq 0 (kq 1 (kq 2 kn))) ?_
 refine XC.seq ?_
 refine XC.reg ?_
 refine mv_ (mv_ ?_)
 refine XL.call (aS rfl (aS rfl a0)) (by kernel_rfl) (getT_spec bt bm ts o MT _ hT SubC.sub) rfl ?_
 rintro v13 M13 J13 ⟨rfl, rfl, c13, ok13, rfl, hg1, hg2⟩
 obtain ⟨vo, t, rfl, hvo, hz, htk, hok, hno⟩ := get_facts hts hg1 hg2
 haveI := hvo.cel
 refine mv_ ?_
 refine XL.q (q_x0 rfl) rfl ?_
 refine XL.q (q_x1 rfl) rfl ?_
 refine XL.lo rfl (l_alloc (cs := [.int .u8 0, .slice none 0 0, .string ByteArray.empty, .int .i64 0]) (by kernel_rfl) rfl fun b7 => ?_)
 refine XL.lo rfl (l_storeW rfl rfl rfl (by kernel_rfl) (by rfl) (by intro c hc; simp only [List.mem_cons, List.not_mem_nil, or_false] at hc; rcases hc with rfl | rfl | rfl | rfl <;> first | rfl | exact hvo.one) UpC.upd ?_)
 refine as_ ?_
 refine XL.fin (kq 0 (kq 1 (kq 2 (kq 7 (kq 8 kn))))) ?_
 refine XC.reg ?_
 refine mv_ (mv_ ?_)
 refine XL.split (t := 17) rfl (fun hb => ?_) (fun hb => ?_)
 ·
  obtain ⟨h0, hget⟩ := hok hb
  refine XL.gy rfl rfl (OpQ.opL (qf_ 0 0) rfl ?_)
  refine XL.gy rfl rfl (OpQ.opL ql_ rfl ?_)
  refine XL.gy rfl rfl (OpQ.opL (q_bin rfl rfl rfl) rfl ?_)
  refine XL.q (q_pickT rfl rfl) rfl ?_
  refine mv_ ?_
  refine XL.split (t := 22) rfl (fun hb => ?_) (fun hb => ?_)
  ·
   have hk3 : t.kind = 3 := by simp at hb; omega
   refine XL.gy rfl rfl (OpQ.opL (qf_ 1 1) rfl ?_)
   refine XL.gy rfl rfl (OpQ.opL ql_ rfl ?_)
   refine XL.gy rfl rfl (OpQ.opL (q_lenV2 (sz := 1) rfl (by kernel_rfl) hvo) rfl ?_)
   refine XL.gy rfl rfl (OpQ.opL (q_bin rfl rfl rfl) rfl ?_)
   refine XL.q (q_pickT rfl rfl) rfl ?_
   refine XL.fin (kq 0 (kq 1 (kq 2 (kq 7 (kq 27 kn))))) ?_
   refine XC.cond rfl (fun hc => ?_) (fun hc => ?_)
   ·
    have h1 : t.of.length = 1 := by simp at hc; omega
    have hag := agT_yes (s := s) h0 hget ⟨hk3, h1⟩
    have hz0 : i64 (t.of.getD 0 0) := hz _ (by rw [List.getD_eq_getElem?_getD, List.getElem?_eq_getElem (by omega)]; exact List.getElem_mem _)
    generalize hzz : t.of.getD 0 0 = z0 at *
    refine XC.reg ?_
    refine mv_ ?_
    refine XL.q (qf_ 1 1) rfl ?_
    refine XL.q ql_ rfl ?_
    refine XL.q (q_atV2 (sz := 1) (a := 0) rfl rfl (by kernel_rfl) rfl hvo (by omega)) rfl ?_
    refine XL.q (q_ldV (j := 0) (u := .int .i64 z0) (hvo.mono SubC.sub) rfl (by kernel_rfl) (by rw [← hzz, List.getD_eq_getElem?_getD, ints, List.getElem?_map, List.getElem?_eq_getElem (by omega)]; rfl)) rfl ?_
    refine XL.lo rfl (l_buildSlice (e := 3) (sz := 1) (z := [.int .i64 0, .int .i64 0]) (by kernel_rfl) (eS rfl (eS rfl e0)) (bdS 0 1 rfl (by rfl) (bdS 1 1 rfl (by rfl) bd0)) rfl fun b33 => ?_)
    refine as_ ?_
    refine XL.fin (kq 0 (kq 9 kn)) ?_
    refine XC.reg ?_
    refine mv_ ?_
    refine XL.lo rfl (l_call (Mc := [(b33, blk [.int .i64 s, .int .i64 z0] 3)]) (R := _) (aS rfl a0) (by kernel_rfl) PickC.perm (sort_spec b33 s z0 _) rfl ?_)
    rintro v35 M35 J35 ⟨rfl, rfl, rfl⟩
    refine XL.fin (kq 0 (kq 9 kn)) ?_
    refine XC.reg ?_
    refine mv_ (mv_ ?_)
    refine XL.q (q_build (place := fun x => #[(0, 1), (1, 1), (2, 1), (3, 1)][x]?) (z := [.int .u8 0, .slice none 0 0, .string ByteArray.empty, .int .i64 0]) (fun _ => by kernel_rfl) (eS rfl (eS rfl e0)) (bdS 0 1 rfl (by rfl) (bdS 1 1 rfl (by rfl) bd0))) rfl ?_
    refine XL.lo rfl (l_call (Mc := MT) (R := _) (aS rfl (aS rfl a0)) (by kernel_rfl) PickC.perm (putT_spec bt bm ts _ ⟨4, srt s z0, [], 0⟩ MT _ hT hn (by rw [srt_len]; exact (Rd.whole (n := 2) At.mem (by first | rfl | exact (ints_len _).trans (srt_len _ _)))) (ag_ok (s := s) (o := o) (srt_len _ _) (fun q hq => (srt_mem hq).elim (fun e => e ▸ hs) (fun e => e ▸ hz0)) (.inl rfl)) (SubC.sub _ h4)) rfl ?_)
    rintro v39 M39 J39 ⟨rfl, rfl, hT39⟩
    refine as_ ?_
    refine XL.fin (kq 6 kn) ?_
    refine XC.ret ?_
    refine tr ?_
    exact ⟨_, M39, [], res1 rfl rfl, by first | exact List.Sublist.refl _ | simp, by simp, rfl, by rw [hag], by rw [hag]; exact hT39⟩
   ·
    have hag := agT_un (s := s) h0 hget (fun h => by have := h.2; simp at hc; omega)
    refine XC.skip ?_
    refine nx (kq 0 (kq 1 (kq 2 kn))) ?_
    refine XC.reg ?_
    refine mv_ (mv_ (mv_ ?_))
    refine XL.lo rfl (l_buildSlice (e := 3) (sz := 1) (z := [.int .i64 0, .int .i64 0]) (by kernel_rfl) (eS rfl (eS rfl e0)) (bdS 0 1 rfl (by rfl) (bdS 1 1 rfl (by rfl) bd0)) rfl fun b43 => ?_)
    refine XL.q (q_build (place := fun x => #[(0, 1), (1, 1), (2, 1), (3, 1)][x]?) (z := [.int .u8 0, .slice none 0 0, .string ByteArray.empty, .int .i64 0]) (fun _ => by kernel_rfl) (eS rfl (eS rfl (eS rfl e0))) (bdS 0 1 rfl (by rfl) (bdS 1 1 rfl (by rfl) (bdS 3 1 rfl (by rfl) bd0)))) rfl ?_
    refine XL.lo rfl (l_call (Mc := MT) (R := _) (aS rfl (aS rfl a0)) (by kernel_rfl) PickC.perm (putT_spec bt bm ts _ ⟨4, [s, o], [], 1⟩ MT _ hT hn (Rd.whole (n := 2) At.mem (by first | rfl | exact (ints_len _).trans (srt_len _ _))) (ag_ok (s := s) (o := o) rfl (fun q hq => by simp at hq; rcases hq with rfl | rfl <;> assumption) (.inr rfl)) (SubC.sub _ h4)) rfl ?_)
    rintro v45 M45 J45 ⟨rfl, rfl, hT45⟩
    refine as_ ?_
    refine XL.fin (kq 6 kn) ?_
    refine XC.ret ?_
    exact ⟨_, M45, [], res1 rfl rfl, by first | exact List.Sublist.refl _ | simp, by simp, rfl, by rw [hag], by rw [hag]; exact hT45⟩
  ·
   have hag := agT_un (s := s) h0 hget (fun h => by have := h.1; simp at hb; omega)
   refine XL.gn rfl rfl rfl rfl ?_
   refine XL.gn rfl rfl rfl rfl ?_
   refine XL.gn rfl rfl rfl rfl ?_
   refine XL.gn rfl rfl rfl rfl ?_
   refine XL.q (q_pickF rfl rfl) rfl ?_
   refine XL.fin (kq 0 (kq 1 (kq 2 (kq 7 (kq 27 kn))))) ?_
   refine XC.condF rfl ?_
   refine XC.skip ?_
   refine nx (kq 0 (kq 1 (kq 2 kn))) ?_
   refine XC.reg ?_
   refine mv_ (mv_ (mv_ ?_))
   refine XL.lo rfl (l_buildSlice (e := 3) (sz := 1) (z := [.int .i64 0, .int .i64 0]) (by kernel_rfl) (eS rfl (eS rfl e0)) (bdS 0 1 rfl (by rfl) (bdS 1 1 rfl (by rfl) bd0)) rfl fun b43 => ?_)
   refine XL.q (q_build (place := fun x => #[(0, 1), (1, 1), (2, 1), (3, 1)][x]?) (z := [.int .u8 0, .slice none 0 0, .string ByteArray.empty, .int .i64 0]) (fun _ => by kernel_rfl) (eS rfl (eS rfl (eS rfl e0))) (bdS 0 1 rfl (by rfl) (bdS 1 1 rfl (by rfl) (bdS 3 1 rfl (by rfl) bd0)))) rfl ?_
   refine XL.lo rfl (l_call (Mc := MT) (R := _) (aS rfl (aS rfl a0)) (by kernel_rfl) PickC.perm (putT_spec bt bm ts _ ⟨4, [s, o], [], 1⟩ MT _ hT hn (Rd.whole (n := 2) At.mem (by first | rfl | exact (ints_len _).trans (srt_len _ _))) (ag_ok (s := s) (o := o) rfl (fun q hq => by simp at hq; rcases hq with rfl | rfl <;> assumption) (.inr rfl)) (SubC.sub _ h4)) rfl ?_)
   rintro v45 M45 J45 ⟨rfl, rfl, hT45⟩
   refine as_ ?_
   refine XL.fin (kq 6 kn) ?_
   refine XC.ret ?_
   exact ⟨_, M45, [], res1 rfl rfl, by first | exact List.Sublist.refl _ | simp, by simp, rfl, by rw [hag], by rw [hag]; exact hT45⟩
 ·
  have hag := agT_no (s := s) (hno hb)
  refine XL.gn rfl rfl rfl rfl ?_
  refine XL.gn rfl rfl rfl rfl ?_
  refine XL.gn rfl rfl rfl rfl ?_
  refine XL.q (q_pickF rfl rfl) rfl ?_
  refine mv_ ?_
  refine XL.gn rfl rfl rfl rfl ?_
  refine XL.gn rfl rfl rfl rfl ?_
  refine XL.gn rfl rfl rfl rfl ?_
  refine XL.gn rfl rfl rfl rfl ?_
  refine XL.q (q_pickF rfl rfl) rfl ?_
  refine XL.fin (kq 0 (kq 1 (kq 2 (kq 7 (kq 27 kn))))) ?_
  refine XC.condF rfl ?_
  refine XC.skip ?_
  refine nx (kq 0 (kq 1 (kq 2 kn))) ?_
  refine XC.reg ?_
  refine mv_ (mv_ (mv_ ?_))
  refine XL.lo rfl (l_buildSlice (e := 3) (sz := 1) (z := [.int .i64 0, .int .i64 0]) (by kernel_rfl) (eS rfl (eS rfl e0)) (bdS 0 1 rfl (by rfl) (bdS 1 1 rfl (by rfl) bd0)) rfl fun b43 => ?_)
  refine XL.q (q_build (place := fun x => #[(0, 1), (1, 1), (2, 1), (3, 1)][x]?) (z := [.int .u8 0, .slice none 0 0, .string ByteArray.empty, .int .i64 0]) (fun _ => by kernel_rfl) (eS rfl (eS rfl (eS rfl e0))) (bdS 0 1 rfl (by rfl) (bdS 1 1 rfl (by rfl) (bdS 3 1 rfl (by rfl) bd0)))) rfl ?_
  refine XL.lo rfl (l_call (Mc := MT) (R := _) (aS rfl (aS rfl a0)) (by kernel_rfl) PickC.perm (putT_spec bt bm ts _ ⟨4, [s, o], [], 1⟩ MT _ hT hn (Rd.whole (n := 2) At.mem (by first | rfl | exact (ints_len _).trans (srt_len _ _))) (ag_ok (s := s) (o := o) rfl (fun q hq => by simp at hq; rcases hq with rfl | rfl <;> assumption) (.inr rfl)) (SubC.sub _ h4)) rfl ?_)
  rintro v45 M45 J45 ⟨rfl, rfl, hT45⟩
  refine as_ ?_
  refine XL.fin (kq 6 kn) ?_
  refine XC.ret ?_
  exact ⟨_, M45, [], res1 rfl rfl, by first | exact List.Sublist.refl _ | simp, by simp, rfl, by rw [hag], by rw [hag]; exact hT45⟩

end Go.Proofs.YtphcaiplgpmnnaaGreatDoor
/-
  Slices of unsigned numbers that came in.
-/
namespace Go.Px
theorem wf_u {k : IntKind} (hk : k.signed = false) {n : Int} (h : (Lit.int k n).wf = true) : 0 ≤ n ∧ n < 2 ^ k.bits := by
  cases k <;> simp_all [Lit.wf, IntKind.min, IntKind.max, IntKind.bits, IntKind.signed] <;> omega
end Go.Px

/-
  Arguments that came in, by their types: what the engine's rules ask of them.
-/
namespace Go.Px
open Go.ChangeShapes Go.WideShapes Go.ChangeAt Go.RowKit
/-- All that lies in a world. -/
def heapA (w : World) : Mem := (List.range w.heap.size).filterMap fun b => (w.heap[b]?).map fun o => (b, o)
theorem heapA_mem {w : World} {b : Nat} {o : Obj} : (b, o) ∈ heapA w ↔ w.heap[b]? = some o := by
  simp only [heapA, List.mem_filterMap, List.mem_range, Option.map_eq_some_iff, Prod.mk.injEq]
  constructor
  · rintro ⟨x, _, y, h, rfl, rfl⟩; exact h
  · intro h; exact ⟨b, lt_of_heap h, o, h, rfl, rfl⟩
theorem heapA_fx (w : World) : Fx (heapA w) w := fun b o h => heapA_mem.1 h
section
variable {H : Type} {enc : TypeId × Value → H} {P : Program} {w : World} {spare : Nat → Bool} {held : Bool} {fuel : Nat} {t e : TypeId} {cs : List Value} {x : DataW H × List MemPlace} {v : Value} {d : DataW H} {p : List MemPlace} {r : Reach} {base : Nat} {k : IntKind}
theorem cells_get {a : Addr} {n : Nat} {c : List Value} (h : w.cells? 0 a n = some c) : c.length = n ∧ ∀ j, j < n → w.cell? (a.add j) = c[j]? := by
  unfold World.cells? at h
  rw [if_pos (Nat.zero_le _)] at h
  exact ⟨by simpa using mapM_some_length h, fun j hj => mapM_some_get h j j (by simp [hj])⟩
theorem in_slice {sz : Nat} (ht : P.underlying t = some (.slice e)) (hsz : P.cellsOf e = sz) (hs0 : 0 < sz) (h : DataW.trod enc P w 0 spare held fuel t cs = some x) :
    ∃ (v : Value) (xss : List (List Value)), cs = [v] ∧ xss.length ≤ maxLen ∧ Rd (heapA w) sz v xss.length xss.flatten ∧ ∀ c ∈ xss, c.length = sz ∧ ∃ m y, DataW.trod enc P w 0 spare held m e c = some y := by
  rcases DataW.trod_slice ht h with ⟨rfl, _⟩ | ⟨a, len, cap, elems, rest, n, _, rfl, _, _, hl, hm, hlen, hel, _, _⟩
  · exact ⟨_, [], rfl, by simp, Rd.nil, fun c hc => by cases hc⟩
  · rw [hsz] at hel
    have hrow : ∀ i, i < len → ∃ c y, w.cells? 0 (a.add (i * sz)) sz = some c ∧ DataW.trod enc P w 0 spare held n e c = some y := by
      intro i hi
      have h1 := hel i hi
      rw [List.getElem?_eq_getElem (by omega)] at h1
      obtain ⟨c, h2, h3⟩ := Option.bind_eq_some_iff.1 h1
      exact ⟨c, _, h2, h3⟩
    have hget : ∀ i, i < len → ((List.range len).map fun i => (w.cells? 0 (a.add (i * sz)) sz).getD [])[i]? = some ((w.cells? 0 (a.add (i * sz)) sz).getD []) := by
      intro i hi; simp [hi]
    have hlen2 : ∀ c ∈ (List.range len).map (fun i => (w.cells? 0 (a.add (i * sz)) sz).getD []), c.length = sz ∧ ∃ m y, DataW.trod enc P w 0 spare held m e c = some y := by
      intro c hc
      obtain ⟨i, hi, rfl⟩ := List.mem_map.1 hc
      obtain ⟨c, y, h1, h2⟩ := hrow i (List.mem_range.1 hi)
      rw [h1, Option.getD_some]
      exact ⟨(cells_get h1).1, n, y, h2⟩
    refine ⟨_, (List.range len).map fun i => (w.cells? 0 (a.add (i * sz)) sz).getD [], rfl, by simp; omega, ?_, hlen2⟩
    have hl1 : ((List.range len).map fun i => (w.cells? 0 (a.add (i * sz)) sz).getD []).length = len := by simp
    have hfl := flat_len (rows := (List.range len).map fun i => (w.cells? 0 (a.add (i * sz)) sz).getD []) (s := sz) fun c hc => (hlen2 c hc).1
    rw [hl1]
    rw [hl1] at hfl
    by_cases h0 : len * sz = 0
    · refine ⟨some a, cap, rfl, hfl, hl, .inl ?_⟩
      rcases Nat.mul_eq_zero.1 h0 with h | h <;> omega
    · have hlp : 0 < len := Nat.pos_of_ne_zero (by rintro rfl; simp at h0)
      have hsp : 0 < sz := Nat.pos_of_ne_zero (by rintro rfl; simp at h0)
      obtain ⟨c0, y0, h1, _⟩ := hrow 0 hlp
      have h2 := (cells_get h1).2 0 hsp
      have h3 := (cells_get h1).1
      obtain ⟨b, o, sp⟩ := a
      have hadd : ((⟨b, o, sp⟩ : Addr).add (0 * sz)).add 0 = ⟨b, o, sp⟩ := by simp [Addr.add]
      rw [hadd, List.getElem?_eq_getElem (by omega)] at h2
      cases hb : w.heap[b]? with
      | none => simp [World.cell?, hb] at h2
      | some ob =>
        cases ob <;> simp [World.cell?, hb] at h2
        rename_i cells et fr
        obtain ⟨rfl, h2⟩ := h2
        refine ⟨_, cap, rfl, hfl, hl, .inr ⟨b, o, cells.toList, et, fr, rfl, heapA_mem.2 (by simpa using hb), fun j u hj => ?_⟩⟩
        have hjl : j < len * sz := by have := (List.getElem?_eq_some_iff.1 hj).1; rwa [hfl] at this
        have hi : j / sz < len := Nat.div_lt_of_lt_mul (by rw [Nat.mul_comm]; exact hjl)
        have hr : j % sz < sz := Nat.mod_lt _ hsp
        have hj2 := flat_get (fun c hc => (hlen2 c hc).1) (hget _ hi) (j % sz) hr
        have ej : j / sz * sz + j % sz = j := by rw [Nat.mul_comm]; exact Nat.div_add_mod j sz
        rw [ej, hj] at hj2
        obtain ⟨c, y, h5, _⟩ := hrow _ hi
        rw [h5, Option.getD_some] at hj2
        have h6 := (cells_get h5).2 _ hr
        rw [← hj2, Addr.add_mid, Addr.add_mid, World.cell?, hb] at h6
        simp only [Option.isSome_none, Bool.false_eq_true, if_false] at h6
        rw [Array.getElem?_toList, show o + j = o + j / sz * sz + j % sz by omega, h6]
/-! ### Scalars -/
theorem nat_of_wf (hk : k.signed = false) {n : Int} (h : (Lit.int k n).wf = true) : ∃ m : Nat, n = (m : Int) ∧ m < 2 ^ k.bits := by
  obtain ⟨h1, h2⟩ := wf_u hk h
  obtain ⟨m, rfl⟩ := Int.eq_ofNat_of_zero_le h1
  refine ⟨m, rfl, ?_⟩
  have h3 : ((m : Nat) : Int) < ((2 ^ k.bits : Nat) : Int) := by simpa using h2
  exact Int.ofNat_lt.1 h3
theorem inS (ht : P.underlying t = some .string) (hv : Value.okWide P w r base t v) (h : DataW.Trod enc P w 0 spare held t v d p) : ∃ s, v = .string s ∧ s.size ≤ maxLen := by
  obtain ⟨n, rfl⟩ := okWide_string ht hv
  obtain ⟨f, hf⟩ := h
  obtain ⟨m, h1, _, h2⟩ := DataW.trod_string ht hf
  exact ⟨m, by simpa [Value.cells] using h1, h2⟩
/-! ### Slices and arrays -/
theorem uints_of (hk : k.signed = false) (he : P.underlying e = some (.int k)) {xss : List (List Value)} (h : ∀ c ∈ xss, c.length = 1 ∧ ∃ m y, DataW.trod enc P w 0 spare held m e c = some y) :
    ∃ ws : List Nat, xss.flatten = nums k ws ∧ ws.length = xss.length ∧ ∀ x ∈ ws, x < 2 ^ k.bits := by
  induction xss with
  | nil => exact ⟨[], rfl, rfl, fun x hx => by cases hx⟩
  | cons c xss ih =>
    obtain ⟨ws, h1, h2, h3⟩ := ih fun c hc => h c (by simp [hc])
    obtain ⟨_, m, y, h4⟩ := h c (by simp)
    obtain ⟨n, rfl, _, h5⟩ := DataW.trod_int he h4
    obtain ⟨q, rfl, h6⟩ := nat_of_wf hk h5
    refine ⟨q :: ws, by rw [List.flatten_cons, h1]; rfl, by simp [h2], fun x hx => ?_⟩
    rcases List.mem_cons.1 hx with rfl | hx
    · exact h6
    · exact h3 x hx
theorem inSlU (ht : P.underlying t = some (.slice e)) (he : P.underlying e = some (.int k)) (hc : P.cellsOf e = 1) (hk : k.signed = false) (hv : Value.okWide P w r base t v) (h : DataW.Trod enc P w 0 spare held t v d p) :
    ∃ ws, Rd (heapA w) 1 v ws.length (nums k ws) ∧ (∀ x ∈ ws, x < 2 ^ k.bits) ∧ ws.length ≤ maxLen := by
  obtain ⟨a, len, cap, rfl⟩ := okWide_slice ht hv
  obtain ⟨f, hf⟩ := h
  obtain ⟨v, xss, h1, h2, h3, h4⟩ := in_slice ht hc (by decide) hf
  obtain ⟨ws, h5, h6, h7⟩ := uints_of hk he h4
  obtain rfl : Value.slice a len cap = v := by simpa [Value.cells] using h1
  exact ⟨ws, by rw [h6, ← h5]; exact h3, h7, by omega⟩
end
end Go.Px

/-
  Slices of byte slices.
-/
namespace Go.Px
open Go.ChangeShapes Go.WideShapes Go.ChangeAt Go.RowKit
/-- The values 'vs' are slices of the bytes 'ls'. -/
structure Bys (R : Mem) (vs : List Value) (ls : List (List Nat)) : Prop where
  len : vs.length = ls.length
  get : ∀ (j : Nat) (w : List Nat), ls[j]? = some w → ∃ v, vs[j]? = some v ∧ Rd R 1 v w.length (nums .u8 w) ∧ (∀ x ∈ w, x < 256) ∧ w.length ≤ maxLen
theorem Bys.mono {R R' : Mem} {vs : List Value} {ls : List (List Nat)} (h : Bys R vs ls) (hR : ∀ x, x ∈ R → x ∈ R') : Bys R' vs ls := ⟨h.len, fun j w hj => by
  obtain ⟨v, h1, h2, h3, h4⟩ := h.get j w hj
  exact ⟨v, h1, h2.mono hR, h3, h4⟩⟩
theorem Bys.nil {R : Mem} : Bys R [] [] := ⟨rfl, fun j w h => by simp at h⟩
theorem Bys.cons {R : Mem} {vs : List Value} {ls : List (List Nat)} (h : Bys R vs ls) {v : Value} {w : List Nat} (hv : Rd R 1 v w.length (nums .u8 w)) (hb : ∀ x ∈ w, x < 256) (hl : w.length ≤ maxLen) : Bys R (v :: vs) (w :: ls) := ⟨by simp [h.len], fun j u hj => by
  cases j with
  | zero => simp at hj; subst hj; exact ⟨v, rfl, hv, hb, hl⟩
  | succ j => exact h.get j u hj⟩
section
variable {H : Type} {enc : TypeId × Value → H} {P : Program} {w : World} {spare : Nat → Bool} {held : Bool} {fuel : Nat} {t e e' : TypeId} {cs : List Value} {x : DataW H × List MemPlace} {v : Value} {d : DataW H} {p : List MemPlace} {r : Reach} {base : Nat}
end
end Go.Px

/-
  Owned blocks that are read alone from now on; byte slices to be read; copy of a part.
-/
namespace Go.Px
section
variable {C : Cx} {Q : XQ} {l : Env} {M J B R M' : Mem} {w : World}
theorem St.freezes (h : St C (B ++ M) J w) : St C M (B ++ J) w := by
  induction B generalizing J with
  | nil => exact h
  | cons x B ih =>
    have h1 := ih (J := x :: J) (St.freeze (by simpa using h))
    refine h1.drop (List.Sublist.refl _) fun y hy => ?_
    simp only [List.cons_append, List.mem_cons, List.mem_append] at hy ⊢
    rcases hy with h | h | h <;> simp [h]
theorem St.frz (hp : M.Perm (B ++ M')) (h : St C M J w) : St C M' (B ++ J) w := (h.perm hp).freezes
theorem XL.frz {ops : Array Oper} {rest : List Oper} (hp : M.Perm (B ++ M')) (h : XL C ops rest Q l M' (B ++ J)) : XL C ops rest Q l M J := fun a w ha hw => h a w ha (hw.frz hp)
end
theorem FnX.frz0 {P : Program} {f : FuncId} {args : List Value} {A : Mem} {φ : Value → Mem → Prop} (h : FnX P f args [] A fun r M J => J = [] ∧ φ r M) : FnX P f args [] A fun r M J => M = [] ∧ φ r J := by
  intro w hw
  refine Calls.mono (h w hw) ?_
  rintro e w' ⟨v, M', J, rfl, ⟨rfl, hq⟩, hs⟩
  exact ⟨v, [], M', rfl, ⟨rfl, hq⟩, by have := St.frz (B := M') (M' := []) (by simp) hs; simpa using this⟩
/-- A slice of bytes, to be read. -/
structure By (R : Mem) (v : Value) (w : List Nat) : Prop where
  rd : Rd R 1 v w.length (nums .u8 w)
  lt : ∀ x ∈ w, x < 256
  len : w.length ≤ 16777216
theorem By.mono {R R' : Mem} {v : Value} {w : List Nat} (h : By R v w) (hR : ∀ x, x ∈ R → x ∈ R') : By R' v w := ⟨h.rd.mono hR, h.lt, h.len⟩
theorem By.b256 {R : Mem} {v : Value} {w : List Nat} (h : By R v w) : B256 w := ⟨h.lt⟩
theorem By.one {R : Mem} {v : Value} {w : List Nat} (h : By R v w) : v.oneCell' = true := h.rd.one
theorem By.cel {R : Mem} {v : Value} {w : List Nat} (h : By R v w) : Cel v [v] := h.rd.cel
theorem By.nil {R : Mem} : By R (.slice none 0 0) [] := ⟨Rd.nil, (fun x h => by cases h), by decide⟩
theorem By.max {R : Mem} {v : Value} {w : List Nat} (h : By R v w) : w.length ≤ maxLen := Nat.le_trans h.len (by unfold maxLen; omega)
/-- Slices of bytes, to be read. -/
structure Lst (R : Mem) (vs : List Value) (ls : List (List Nat)) : Prop where
  len : vs.length = ls.length
  get : ∀ (j : Nat) (w : List Nat), ls[j]? = some w → ∃ v, vs[j]? = some v ∧ By R v w
theorem Lst.mono {R R' : Mem} {vs : List Value} {ls : List (List Nat)} (h : Lst R vs ls) (hR : ∀ x, x ∈ R → x ∈ R') : Lst R' vs ls := ⟨h.len, fun j w hj => by
  obtain ⟨v, h1, h2⟩ := h.get j w hj
  exact ⟨v, h1, h2.mono hR⟩⟩
theorem Lst.at {R : Mem} {vs : List Value} {ls : List (List Nat)} (h : Lst R vs ls) {j : Nat} (hj : j < ls.length) : ∃ v, vs[j]? = some v ∧ By R v ls[j] := h.get j ls[j] (List.getElem?_eq_getElem hj)
theorem Lst.nil {R : Mem} : Lst R [] [] := ⟨rfl, fun j w h => by simp at h⟩
theorem Lst.cons {R : Mem} {vs : List Value} {ls : List (List Nat)} {v : Value} {w : List Nat} (hv : By R v w) (h : Lst R vs ls) : Lst R (v :: vs) (w :: ls) := ⟨by simp [h.len], fun j u hj => by
  cases j with
  | zero => simp at hj; subst hj; exact ⟨v, rfl, hv⟩
  | succ j => exact h.get j u hj⟩
theorem Lst.snoc {R : Mem} {vs : List Value} {ls : List (List Nat)} (h : Lst R vs ls) {v : Value} {w : List Nat} (hv : By R v w) : Lst R (vs ++ [v]) (ls ++ [w]) := ⟨by simp [h.len], fun j u hj => by
  by_cases hlt : j < ls.length
  · rw [List.getElem?_append_left hlt] at hj
    obtain ⟨v', h1, h2⟩ := h.get j u hj
    exact ⟨v', by rw [List.getElem?_append_left (List.getElem?_eq_some_iff.1 h1).1]; exact h1, h2⟩
  · rw [List.getElem?_append_right (by omega)] at hj
    have hj0 : j = ls.length := by
      have := (List.getElem?_eq_some_iff.1 hj).1
      simp at this; omega
    subst hj0
    simp at hj
    subst hj
    exact ⟨v, by rw [List.getElem?_append_right (by rw [h.len]; omega), h.len]; simp, hv⟩⟩
/-- A slice of slices of bytes, to be read. -/
structure LsV (R : Mem) (v : Value) (ls : List (List Nat)) : Prop where
  ex : ∃ vs, Rd R 1 v ls.length vs ∧ Lst R vs ls
theorem LsV.mono {R R' : Mem} {v : Value} {ls : List (List Nat)} (h : LsV R v ls) (hR : ∀ x, x ∈ R → x ∈ R') : LsV R' v ls := by
  obtain ⟨vs, h1, h2⟩ := h.ex
  exact ⟨vs, h1.mono hR, h2.mono hR⟩
theorem LsV.nil {R : Mem} : LsV R (.slice none 0 0) [] := ⟨[], Rd.nil, Lst.nil⟩
section loud
variable {C : Cx} {l : Env} {M J : Mem} {K : Env → Mem → Mem → Prop} {d : Nat} {ty t e : TypeId} {pos : String} {af : Array Edge} {g : Option (Nat × Bool)} {x y : Operand}
/-- copy of a part, into the whole of an owned array of numbers. -/
theorem l_copyP {b m n : Nat} {u : Value} {k : IntKind} {ws us ws' : List Nat} {e' : TypeId} {by_ : Nat} {M' : Mem} (hx : ev l x = some (.slice (some ⟨b, 0, none⟩) m m)) (hy : ev l y = some u) (ht : elemT C.P t = some (e, 1, by_))
    (hr : Rd (M ++ (J ++ C.A)) 1 u n (nums k us)) (hm : ws.length = m) (hw' : ws' = us.take m ++ ws.drop n) (hu : Upd M b (blk (nums k ws) e') (blk (nums k ws') e') M') (hd : Nat.blt d C.N = true) (h : K ((d, .int .i64 ((min n m : Nat) : Int)) :: l) M' J) :
    OpL C ⟨some d, .call { callee := .builtin .copy, args := #[x, y], argTypes := #[t, t] }, ty, pos, af, g⟩ l M J K := by
  intro Qp a w ha hw
  obtain ⟨i, z, hut, hi, hz, hzs, his, hib⟩ := elemT_spec ht
  obtain ⟨pu, cu, rfl, hul, huc, hub⟩ := hr
  have hru : Rd (M ++ (J ++ C.A)) 1 (.slice pu n cu) n (nums k us) := ⟨pu, cu, rfl, hul, huc, hub⟩
  have hb := hw.mem _ _ (List.mem_append_left _ hu.mem)
  have hf := first_rd (P := C.P) (m := n) (c2 := cu) (hru.hi (min n m) (Nat.min_le_left _ _)) hw.fx
  have hus : us.length = n := by simpa using hul
  rw [Nat.mul_one, show (nums k us).take (min n m) = nums k (us.take (min n m)) by simp [nums]] at hf
  have hst := run_storeCells_at (P := C.P) b 0 e' (nums k (us.take (min n m))) 0 (nums k ws).toArray w hb (by simp [hus, hm]; omega) nums_one
  simp only [Nat.add_zero, Nat.zero_add, List.take_zero, List.nil_append, nums_len, List.length_take, hus] at hst
  rw [← nums_drop, ← nums_append] at hst
  have e1 : us.take (min n m) ++ ws.drop (min (min n m) n) = ws' := by
    rw [hw']
    rcases Nat.le_total m n with h | h
    · rw [Nat.min_eq_right h, Nat.min_eq_left h, List.drop_of_length_le (l := ws) (i := m) (by omega), List.drop_of_length_le (l := ws) (i := n) (by omega)]
    · rw [Nat.min_eq_left h, Nat.min_self, List.take_of_length_le (l := us) (i := n) (by omega), List.take_of_length_le (l := us) (i := m) (by omega)]
  rw [e1] at hst
  have hrun : (execOp a.eval ⟨some d, .call { callee := .builtin .copy, args := #[x, y], argTypes := #[t, t] }, ty, pos, af, g⟩).run C.P w = .ok (.value (.int .i64 ((min n m : Nat) : Int))) (w.setRow b (nums k ws').toArray) := by
    simp [execOp, resolve, invoke, builtin, ha.ev hx, ha.ev hy, Builtin.copy_, run_underlying hut, sizeOf, typeInfo, hi, his, Builtin.lenOf, hf, hst, goInt]
  unfold Oper.wp
  rw [hrun]
  exact ⟨_, M', J, ha.put (blt_lt hd) _, hw.setRow hu, h⟩
/-- An append behind a slice without room, of what is read alone: a new array. -/
theorem l_appendC {sz by_ n m b o : Nat} {u : Value} {xs ys : List Value} (hx : ev l x = some (.slice (some ⟨b, o, none⟩) n n)) (hy : ev l y = some u) (ht : elemT C.P t = some (e, sz, by_)) (hsz : Nat.blt 0 sz = true)
    (hs : Rd (M ++ (J ++ C.A)) sz (.slice (some ⟨b, o, none⟩) n n) n xs) (hr : Rd (M ++ (J ++ C.A)) sz u m ys) (hm : 0 < m) (hmax : n + m ≤ maxLen) (hbytes : (n + m) * by_ ≤ 140737488355328) (hd : Nat.blt d C.N = true)
    (k : ∀ v' B', Sl sz v' (n + m) (xs ++ ys) B' → K ((d, v') :: l) (B' ++ M) J) :
    OpL C ⟨some d, .call { callee := .builtin .append, args := #[x, y], argTypes := #[t, t] }, ty, pos, af, g⟩ l M J K := by
  intro Qp a w ha hw
  obtain ⟨i, z, hu, hi, hz, hzs, his, hib⟩ := elemT_spec ht
  obtain ⟨pu, cu, rfl, hul, huc, hub⟩ := hr
  obtain ⟨p', c', e', hxl, hcc, hxb⟩ := hs
  cases e'
  subst his; subst hib
  obtain ⟨bu, ou, csu, eu, fru, rfl, hbu, hxu⟩ : ∃ (b o : Nat) (cs : List Value) (e : TypeId) (fr : Nat × Nat), pu = some ⟨b, o, none⟩ ∧ (b, Obj.cells cs.toArray e fr) ∈ M ++ (J ++ C.A) ∧ ∀ j u, ys[j]? = some u → cs[o + j]? = some u := by
    rcases hub with h | h
    · omega
    · exact h
  have hnews : ∀ j u, ys[j]? = some u → w.cell? ((⟨bu, ou, none⟩ : Addr).add j) = some u := fun j u hj => by rw [Addr.add_mid, cell_fx hw.fx hbu]; simpa using hxu j u hj
  have holds : ∀ j u, xs[j]? = some u → w.cell? ((⟨b, o, none⟩ : Addr).add j) = some u := fun j u hj => by
    rcases hxb with h | ⟨b2, o2, cs2, e2, f2, h1, h2, h3⟩
    · subst h
      have : xs = [] := List.eq_nil_of_length_eq_zero (by simpa using hxl)
      subst this; simp at hj
    · cases h1
      rw [Addr.add_mid, cell_fx hw.fx h2]; simpa using h3 j u hj
  have hsmall : n + m ≤ 9223372036854775807 := by simp only [maxLen] at hmax; omega
  have hge := grownCap_ge w (n + m) n e
  have hcm : grownCap w (n + m) n e ≤ maxLen := grownCap_le_maxLen w (n + m) n e hmax
  have hrg := run_append_grow (P := C.P) w t ty e i z hu hi hz ⟨b, o, none⟩ n n xs hxl holds ⟨bu, ou, none⟩ m cu ys hul hnews (by omega) (by omega) (growslice_fits (by omega) hbytes)
  have hexec : (execOp a.eval ⟨some d, .call { callee := .builtin .append, args := #[x, y], argTypes := #[t, t] }, ty, pos, af, g⟩).run C.P w = .ok (.value (.slice (some ⟨w.heap.size, 0, none⟩) (n + m) (grownCap w (n + m) n e))) (w.drew.alloc (.cells (xs.toArray ++ ys.toArray ++ Builtin.zeroCells z.cells (grownCap w (n + m) n e - (n + m))) e (0, 0))) := by
    simp [execOp, resolve, invoke, builtin, ha.ev hx, ha.ev hy, hrg]
  unfold Oper.wp
  rw [hexec]
  have hsl : Sl i.size (.slice (some ⟨w.heap.size, 0, none⟩) (n + m) (grownCap w (n + m) n e)) (n + m) (xs ++ ys) [(w.heap.size, .cells (xs.toArray ++ ys.toArray ++ Builtin.zeroCells z.cells (grownCap w (n + m) n e - (n + m))) e (0, 0))] := by
    refine .inr ⟨w.heap.size, 0, _, (xs.toArray ++ ys.toArray ++ Builtin.zeroCells z.cells (grownCap w (n + m) n e - (n + m))).toList, e, rfl, by simp [blk], hge, hcm, ?_, ?_, ?_⟩
    · simp only [Array.length_toList, Array.size_append, List.size_toArray, size_zeroCells, hzs, hxl, hul, ← Nat.add_mul, Nat.zero_add]
      refine Nat.mul_le_mul_right _ ?_
      omega
    · simp [hxl, hul, Nat.add_mul]
    · intro j u hj
      have hlt : j < (xs ++ ys).length := (List.getElem?_eq_some_iff.1 hj).1
      rw [Nat.zero_add]
      simp only [Array.toList_append, List.append_assoc]
      rw [← List.append_assoc, List.getElem?_append_left (by simpa using hlt)]
      exact hj
  exact ⟨_, _, J, ha.put (blt_lt hd) _, St.alloc (w := w.drew) hw.drew _, k _ _ hsl⟩
end loud
/-- The return, in a free form: what is owned still, what is read alone from now on. -/
def retZ (P : Program) (fn : Func) (A : Mem) (post : Value → Mem → Mem → Prop) : XQ
  | .ret, l, M, J => ∃ v M' B, Res P fn l (M ++ (J ++ A)) v ∧ Fit M (B ++ M') ∧ post v M' (B ++ J)
  | .normal, l, M, J => ∃ v M' B, Res P fn l (M ++ (J ++ A)) v ∧ Fit M (B ++ M') ∧ post v M' (B ++ J)
  | _, _, _, _ => False
theorem FnX.enterZ {P : Program} {f : FuncId} {fn : Func} {c : Code} {N : Nat} {args : List Value} {M A : Mem} {post : Value → Mem → Mem → Prop}
    (hf : P.funcs[f]? = some fn) (hb : fn.body = some c) (hn : fn.ntmps = N) (hN : Nat.ble args.length N = true)
    (h : ∀ w, XC ⟨P, w, M.map Prod.fst, A, N⟩ c (retZ P fn A post) (argE args 0) M []) : FnX P f args M A post := by
  intro w hw
  refine calls_of_wp hf hb ?_
  have hle : args.length ≤ N := by simpa using hN
  refine Code.wp_mono ?_ (h w _ w ?_ hw.cx)
  · rintro e a' w' ⟨l, M', J, ha, hw', hq⟩
    cases e <;> first | exact hq.elim | skip
    all_goals
      obtain ⟨v, M2, B, hv, hM2, hp⟩ := hq
      exact ⟨ha.defers, v, hv N a' w' ha hw'.fx, v, M2, B ++ J, rfl, hp, (hw'.fit hM2 (fun _ h => h)).freezes.cx⟩
  · refine ⟨rfl, by simp [hn]; omega, ?_⟩
    intro i v hi
    obtain ⟨_, h2⟩ := argE_lk args 0 i v hi
    simp only [Nat.sub_zero] at h2
    have hlt : i < args.length := (List.getElem?_eq_some_iff.1 h2).1
    rw [Array.getElem?_append_left (by simpa using hlt)]
    simpa using h2
theorem Fit.nil {M : Mem} : Fit M ([] ++ []) := Fit.sub (List.nil_sublist _)
theorem Fit.none {M M' : Mem} (h : Fit M M') : Fit M ([] ++ M') := h
instance PickC.two {M X Y R1 R : Mem} [h1 : PickC M X R1] [h2 : PickC R1 Y R] : PickC M (X ++ Y) R := ⟨h1.perm.trans (by rw [List.append_assoc]; exact h2.perm.append_left X)⟩
instance (priority := 50) PickC.left {D M B R : Mem} [h : PickC D B R] : PickC (D ++ M) B (R ++ M) := ⟨(List.Perm.append_right M h.perm).trans (by rw [List.append_assoc])⟩
instance (priority := 60) PickC.consB {M B R1 R : Mem} {x : Nat × Obj} [h1 : PickC M [x] R1] [h2 : PickC R1 B R] : PickC M (x :: B) R := ⟨h1.perm.trans (List.Perm.cons x h2.perm)⟩
theorem uL {B B' r : Mem} {b : Nat} {o o' : Obj} (h : Upd B b o o' B') : Upd (B ++ r) b o o' (B' ++ r) := by
  induction h with
  | hd => exact .hd
  | tl _ ih => exact .tl ih
instance (priority := 50) UpC.lft {b : Nat} {o o' : Obj} {B B' r : Mem} [h : UpC B b o o' B'] : UpC (B ++ r) b o o' (B' ++ r) := ⟨uL h.upd⟩
end Go.Px

