/- Part 7 of the texts of this claim, one behind the other. -/
import Derived.Test.YthmnlkpikgglbaaGreatDoorB6
import Derived.MapKept
set_option linter.unusedVariables false
set_option linter.unusedSimpArgs false
set_option linter.unusedVariables false
set_option linter.unusedSimpArgs false
namespace Go.Proofs.YthmnlkpikgglbaaGreatDoor
open Go.Px
theorem dv_cons_le (l : List Nat) (r : List Nat) : dv l ≤ dv (l ++ r) := by
  have key : ∀ (r : List Nat) (a : Nat), a ≤ r.foldl (fun a c => a * 10 + (c - 48)) a := by
    intro r
    induction r with
    | nil => intro a; exact Nat.le_refl _
    | cons c r ih => intro a; exact Nat.le_trans (show a ≤ a * 10 + (c - 48) by omega) (ih _)
  unfold dv
  rw [List.foldl_append]
  exact key r _
theorem dv_take_succ {l : List Nat} {i : Nat} (h : i < l.length) : dv (l.take (i + 1)) = dv (l.take i) * 10 + (l.getD i 0 - 48) := by
  rw [List.take_add_one, List.getElem?_eq_getElem h]
  simp only [Option.toList_some, dv_app, List.getD, List.getElem?_eq_getElem h, Option.getD_some]
theorem dv_take_le (l : List Nat) (i : Nat) : dv (l.take i) ≤ dv l := by
  conv => rhs; rw [← List.take_append_drop i l]
  exact dv_cons_le _ _
theorem getD_mem' {l : List Nat} {i : Nat} (h : i < l.length) : l.getD i 0 ∈ l := by
  simp [List.getD, List.getElem?_eq_getElem h]
instance B256.dec {u : Nat} : B256 (dec u) := ⟨fun x h => by have := dec_mem h; omega⟩
instance B256.decI {i : Int} : B256 (decI i) := ⟨fun x h => by have := decI_mem h; omega⟩
theorem nd10_18 {m : Nat} (h : m < 1000000000000000000) : 0 < nd10 m ∧ nd10 m < 19 := by
  refine ⟨ndF_pos 64 m, ?_⟩
  by_cases h10 : 10 ≤ m
  · have h3 : 10 ^ (nd10 m - 1) ≤ m := ndF_ge 64 m h10
    have : 10 ^ (nd10 m - 1) < 10 ^ 18 := Nat.lt_of_le_of_lt h3 h
    have := (Nat.pow_lt_pow_iff_right (by decide : 1 < 10)).1 this
    omega
  · have hd : nd10 m = 1 := by unfold nd10 ndF; rw [if_pos (by omega)]
    omega

set_option maxRecDepth 100000 in
theorem atoi0_spec (m : Nat) (hm : m < 1000000000000000000) (A : Mem) : FnV Tryz.prog 94 [.string (txt (dec m))] A (.tuple #[.int .i64 (m : Int), .nilIface]) := by
  refine FnX.enter (N := 77) Tryz.func94 rfl rfl rfl fun w => ?_
  refine XC.keep (kp 0 rfl kn) ?_
  refine XC.reg ?_
  refine XL.q (q_assign rfl) rfl ?_
  refine XL.q (q_assign rfl) rfl ?_
  refine XL.fin (kp 0 rfl kn) ?_
  refine XC.reg ?_
  refine XL.q (q_move rfl) rfl ?_
  refine XL.q (q_sLen rfl rfl (by kernel_rfl)) rfl ?_
  refine XL.q (q_assign rfl) rfl ?_
  refine XL.fin (kp 0 rfl (kp 4 rfl kn)) ?_
  refine XC.seq ?_
  obtain ⟨hn0, hn18⟩ := nd10_18 hm
  have hdl := dec_len m
  have hb : ∀ i, i < (dec m).length → 48 ≤ (dec m).getD i 0 ∧ (dec m).getD i 0 < 58 := fun i hi => dec_mem (getD_mem' hi)
  have hb0 := hb 0 (by omega)
  refine XC.reg ?_
  refine XL.q (q_move rfl) rfl ?_
  refine XL.gn rfl rfl rfl rfl ?_
  refine XL.gn rfl rfl rfl rfl ?_
  refine XL.gn rfl rfl rfl rfl ?_
  refine XL.gu rfl rfl rfl ?_
  refine XL.gu rfl rfl rfl ?_
  refine XL.gn rfl rfl rfl rfl ?_
  refine XL.q (q_pickF rfl rfl) rfl ?_
  refine XL.q (q_move rfl) rfl ?_
  refine XL.gy rfl rfl (OpQ.opL (q_move rfl) rfl ?_)
  refine XL.gy rfl rfl (OpQ.opL (q_move rfl) rfl ?_)
  refine XL.gy rfl rfl (OpQ.opL (q_cmp true rfl rfl (ltT (by omega))) rfl ?_)
  refine XL.gy rfl rfl (OpQ.opL (q_move rfl) rfl ?_)
  refine XL.gy rfl rfl (OpQ.opL (q_move rfl) rfl ?_)
  refine XL.gy rfl rfl (OpQ.opL (q_cmp true rfl rfl (ltT (by omega))) rfl ?_)
  refine XL.gy rfl rfl (OpQ.opL (q_pickT rfl rfl) rfl ?_)
  refine XL.gy rfl rfl (OpQ.opL (q_pickT rfl rfl) rfl ?_)
  refine XL.q (q_pickF rfl rfl) rfl ?_
  refine XL.fin (kp 0 rfl (kp 30 rfl kn)) ?_
  refine XC.condT rfl ?_
  refine XC.reg ?_
  refine XL.q (q_move rfl) rfl ?_
  refine XL.q (q_assign rfl) rfl ?_
  refine XL.fin (kp 0 rfl (kp 5 rfl kn)) ?_
  refine XC.seq ?_
  refine XC.reg ?_
  refine XL.q (q_move rfl) rfl ?_
  refine XL.q (q_sAt (a := 0) rfl rfl B256.lt rfl (by kernel_rfl) rfl (by omega)) rfl ?_
  refine XL.q (q_cmp false rfl rfl (eqF (by omega))) rfl ?_
  refine XL.q (q_move rfl) rfl ?_
  refine XL.gy rfl rfl (OpQ.opL (q_move rfl) rfl ?_)
  refine XL.gy rfl rfl (OpQ.opL (q_sAt (a := 0) rfl rfl B256.lt rfl (by kernel_rfl) rfl (by omega)) rfl ?_)
  refine XL.gy rfl rfl (OpQ.opL (q_cmp false rfl rfl (eqF (by omega))) rfl ?_)
  refine XL.q (q_pickF rfl rfl) rfl ?_
  refine XL.fin (kp 0 rfl (kp 5 rfl (kp 39 rfl kn))) ?_
  refine XC.condF rfl ?_
  refine XC.skip ?_
  refine nx (kp 0 rfl (kp 5 rfl kn)) ?_
  refine XC.reg ?_
  refine XL.q (q_assign rfl) rfl ?_
  refine XL.fin (kp 0 rfl (kp 5 rfl (kp 6 rfl kn))) ?_
  refine XC.seq ?_
  refine XC.reg ?_
  refine XL.q (q_move rfl) rfl ?_
  refine XL.lo rfl (l_toBytes (e := 5) rfl rfl B256.lt (by kernel_rfl) (by kernel_rfl) (by kernel_rfl) rfl fun v47 B47 hs47 => ?_)
  refine XL.q (q_lenV2 (sz := 1) rfl (by kernel_rfl) (by first | assumption | exact Sl.rd (by assumption) (fun _ h => h) | exact By.rd (by assumption))) rfl ?_
  refine XL.q (q_move rfl) rfl ?_
  refine XL.fin (kp 5 rfl (kp 6 rfl (kp 47 rfl (kp 48 rfl (kp 49 rfl kn))))) ?_
  refine XC.block ?_
  refine XC.loop (α := Nat) (fun i => [(5, .string (txt (dec m))), (6, .int .i64 ((dv ((dec m).take i) : Nat) : Int)), (47, v47), (48, .int .i64 (((dec m).length : Nat) : Int)), (49, .int .i64 (i : Int))]) (fun _ => B47) (fun _ => []) (fun i => i ≤ (dec m).length) (fun i => (dec m).length - i) 0 (Nat.zero_le _) (kp 5 rfl (kp 6 rfl (kp 47 rfl (kp 48 rfl (kp 49 rfl kn))))) (Fit.eq (by simp)) (fun _ h => h) ?_
  rintro i hi
  have hle := dv_take_le (dec m) i
  rw [dv_dec (by omega)] at hle
  refine XC.reg ?_
  refine XL.q (q_bin rfl rfl rfl) rfl ?_
  refine XL.fin (kp 5 rfl (kp 6 rfl (kp 47 rfl (kp 48 rfl (kp 49 rfl (kp 50 rfl kn)))))) ?_
  refine XC.seq ?_
  refine XC.cond rfl (fun hc => ?_) (fun hc => ?_)
  ·
    have hlt : i < (dec m).length := by simp at hc; omega
    have hbi := hb i hlt
    have hds := dv_take_succ hlt
    have hle2 := dv_take_le (dec m) (i + 1)
    rw [dv_dec (by omega), hds] at hle2
    refine XC.skip ?_
    refine nx (kp 5 rfl (kp 6 rfl (kp 47 rfl (kp 48 rfl (kp 49 rfl kn))))) ?_
    refine XC.seq ?_
    refine XC.block ?_
    refine XC.reg ?_
    refine XL.q (q_atV2 (sz := 1) rfl rfl (by kernel_rfl) rfl (by first | assumption | exact Sl.rd (by assumption) (fun _ h => h) | exact By.rd (by assumption)) (by omega)) rfl ?_
    refine XL.q (q_ldVN2 (k := .u8) rfl (by kernel_rfl) (by first | exact Rd.mono (by assumption) SubC.sub | exact Sl.rd (by assumption) SubC.sub | exact Rd.mono (By.rd (by assumption)) SubC.sub) (by omega)) rfl ?_
    refine XL.q (q_assign rfl) rfl ?_
    refine XL.fin (kp 5 rfl (kp 6 rfl (kp 8 rfl (kp 47 rfl (kp 48 rfl (kp 49 rfl kn)))))) ?_
    refine XC.reg ?_
    refine XL.q (q_move rfl) rfl ?_
    refine XL.q (q_subM 256 (b := 48) rfl rfl rfl rfl rfl rfl (by omega)) rfl ?_
    rw [show ((dec m).getD i 0 + (256 - 48)) % 256 = (dec m).getD i 0 - 48 by omega]
    refine XL.q (q_assign rfl) rfl ?_
    refine XL.fin (kp 5 rfl (kp 6 rfl (kp 8 rfl (kp 47 rfl (kp 48 rfl (kp 49 rfl kn)))))) ?_
    refine XC.seq ?_
    refine XC.reg ?_
    refine XL.q (q_move rfl) rfl ?_
    refine XL.q (q_cmp false rfl rfl (gtF (by omega))) rfl ?_
    refine XL.fin (kp 5 rfl (kp 6 rfl (kp 8 rfl (kp 47 rfl (kp 48 rfl (kp 49 rfl (kp 56 rfl kn))))))) ?_
    refine XC.condF rfl ?_
    refine XC.skip ?_
    refine nx (kp 5 rfl (kp 6 rfl (kp 8 rfl (kp 47 rfl (kp 48 rfl (kp 49 rfl kn)))))) ?_
    refine XC.reg1 ?_
    refine XL.q (q_move rfl) rfl ?_
    refine XL.q (q_mulI (b := 10) rfl rfl rfl rfl (by omega)) rfl ?_
    refine XL.q (q_move rfl) rfl ?_
    refine XL.q (q_same (k' := .i64) rfl (by kernel_rfl) (by show _ < 9223372036854775808; omega)) rfl ?_
    refine XL.q (q_addI rfl rfl rfl rfl (by omega)) rfl ?_
    refine XL.q (q_assign rfl) rfl ?_
    refine XL.nil ?_
    refine nb ?_
    refine nx (kp 5 rfl (kp 6 rfl (kp 47 rfl (kp 48 rfl (kp 49 rfl kn))))) ?_
    refine XC.reg1 ?_
    refine XL.q (q_addI (b := 1) rfl rfl rfl rfl (by omega)) rfl ?_
    refine XL.q (q_move rfl) rfl ?_
    refine XL.nil ?_
    exact rn (i + 1) (by omega) (by omega) (kp 5 rfl (kp 6 (by rw [hds]; rfl) (kp 47 rfl (kp 48 rfl (kp 49 rfl kn))))) (Fit.eq (by simp)) (fun _ h => h)
  ·
    have hge : i = (dec m).length := by simp at hc; omega
    subst hge
    rw [List.take_length, dv_dec (by omega)]
    refine XC.exit ?_
    refine te ?_
    refine re ?_
    refine be rfl ?_
    refine nx (kp 5 rfl (kp 6 rfl kn)) ?_
    refine XC.seq ?_
    refine XC.reg ?_
    refine XL.q (q_move rfl) rfl ?_
    refine XL.q (q_sAt (a := 0) rfl rfl B256.lt rfl (by kernel_rfl) rfl (by omega)) rfl ?_
    refine XL.q (q_cmp false rfl rfl (eqF (by omega))) rfl ?_
    refine XL.fin (kp 6 rfl (kp 66 rfl kn)) ?_
    refine XC.condF rfl ?_
    refine XC.skip ?_
    refine nx (kp 6 rfl kn) ?_
    refine XC.reg ?_
    refine XL.q (q_move rfl) rfl ?_
    refine XL.q (q_assign rfl) rfl ?_
    refine XL.q (q_assign rfl) rfl ?_
    refine XL.fin (kp 2 rfl (kp 3 rfl kn)) ?_
    refine XC.ret ?_
    refine tr ?_
    exact ⟨_, [], [], res2 rfl rfl rfl, List.nil_sublist _, by simp, rfl, rfl, rfl⟩

set_option maxRecDepth 100000 in
theorem atoi_spec (m : Nat) (hm : m < 1000000000000000000) (A : Mem) : FnV Tryz.prog 62 [.string (txt (dec m))] A (.tuple #[.int .i64 (m : Int), .nilIface]) := by
  refine FnX.enter (N := 18) Tryz.func62 rfl rfl rfl fun w => ?_
  refine XC.keep (kp 0 rfl kn) ?_
  refine XC.reg ?_
  refine XL.q (q_assign rfl) rfl ?_
  refine XL.q (q_assign rfl) rfl ?_
  refine XL.fin (kp 0 rfl kn) ?_
  refine XC.reg ?_
  refine XL.q (q_move rfl) rfl ?_
  refine XL.callV (aS rfl a0) (by kernel_rfl) (atoi0_spec m hm _) rfl ?_
  refine XL.q (q_move rfl) rfl ?_
  refine XL.q (q_x0 rfl) rfl ?_
  refine XL.q (q_x1 rfl) rfl ?_
  refine XL.q (q_assign rfl) rfl ?_
  refine XL.q (q_assign rfl) rfl ?_
  refine XL.fin (kp 0 rfl (kp 4 rfl (kp 5 rfl kn))) ?_
  refine XC.seq ?_
  refine XC.reg ?_
  refine XL.q (q_move rfl) rfl ?_
  refine XL.q (q_ifNe0 rfl (by kernel_rfl)) rfl ?_
  refine XL.fin (kp 0 rfl (kp 4 rfl (kp 5 rfl (kp 12 rfl kn)))) ?_
  refine XC.condF rfl ?_
  refine XC.skip ?_
  refine nx (kp 4 rfl kn) ?_
  refine XC.reg ?_
  refine XL.q (q_move rfl) rfl ?_
  refine XL.q (q_assign rfl) rfl ?_
  refine XL.q (q_assign rfl) rfl ?_
  refine XL.fin (kp 2 rfl (kp 3 rfl kn)) ?_
  refine XC.ret ?_
  exact ⟨_, [], [], res2 rfl rfl rfl, List.nil_sublist _, by simp, rfl, rfl, rfl⟩

/-! ### What is marked -/
def mark (p : List Nat) : List Nat := dec p.length ++ 58 :: p
def marks (l : List (List Nat)) : List Nat := l.flatMap mark
theorem mark_len (p : List Nat) (h : p.length < 18446744073709551616) : (mark p).length ≤ p.length + 21 := by
  have := nd10_le h
  simp [mark, dec_len]; omega
instance B256.mark {p : List Nat} [h : B256 p] : B256 (mark p) := by unfold Go.Proofs.YthmnlkpikgglbaaGreatDoor.mark; exact @B256.app _ _ _ (B256.cons (by decide) h)

set_option maxRecDepth 100000 in
theorem mark_spec (v : Value) (p : List Nat) (A : Mem) (hp : Rd A 1 v p.length (nums .u8 p)) [hb : B256 p] (hl : p.length ≤ 1099511627776) {e4 : TypeId} {f4 : Nat × Nat} (h4 : (4, Obj.cells (nums .u64 pow10T).toArray e4 f4) ∈ A) : FnV Tryz.prog 49 [v] A (.string (txt (mark p))) := by
  have hdl := dec_len p.length
  have hd20 := nd10_le (u := p.length) (by omega)
  refine FnX.enter (N := 10) Tryz.func49 rfl rfl rfl fun w => ?_
  refine XC.keep (kp 0 rfl kn) ?_
  refine XC.reg ?_
  refine XL.q (q_assign rfl) rfl ?_
  refine XL.fin (kp 0 rfl kn) ?_
  refine XC.drawF [0, 1, 2, 3, 4, 5, 6, 7] [(0, 0), (1, 0), (4, 0), (5, 1), (2, 2), (3, 0), (6, 0), (7, 0)] (by kernel_rfl) (by kernel_rfl) fun hs => ?_
  refine XF.q hs rfl (q_move rfl) rfl ?_
  refine XF.q hs rfl (q_lenV2 (sz := 1) rfl (by kernel_rfl) hp) rfl ?_
  refine XF.q hs rfl (q_move rfl) rfl ?_
  refine XF.r hs rfl (q_toStr2 rfl (by kernel_rfl) (by first | exact Rd.mono (by assumption) SubC.sub | exact Sl.rd (by assumption) SubC.sub | exact Rd.mono (By.rd (by assumption)) SubC.sub)) rfl ?_
  refine XF.callV rfl (aS rfl a0) (by kernel_rfl) (itoa_spec (p.length : Int) (by omega) (by omega) _ (mA h4)) rfl ?_
  rw [show decI ((p.length : Nat) : Int) = dec p.length by simp [decI]]
  refine XF.q hs rfl (q_sAdd (ws' := [58]) rfl rfl rfl (by kernel_rfl) (by first | omega | (simp only [List.length_append, List.length_cons, List.length_nil, List.length_take, List.length_drop]; omega))) rfl ?_
  refine XF.q hs rfl (q_sAdd rfl rfl rfl rfl (by first | omega | (simp only [List.length_append, List.length_cons, List.length_nil, List.length_take, List.length_drop]; omega))) rfl ?_
  refine XF.q hs rfl (q_assign rfl) rfl ?_
  refine XF.fin (kp 2 rfl kn) ?_
  refine XC.ret ?_
  exact ⟨_, [], [], res1 rfl rfl, List.nil_sublist _, by simp, by simp [mark], rfl, rfl⟩

theorem marks_cons (p : List Nat) (l : List (List Nat)) : marks (p :: l) = dec p.length ++ 58 :: (p ++ marks l) := by simp [marks, mark]
/-- What stands in a text that begins with something marked. -/
theorem mark_facts {p R s : List Nat} (h : s = dec p.length ++ 58 :: (p ++ R)) : s.length = (dec p.length).length + 1 + p.length + R.length ∧ s.getD (dec p.length).length 0 = 58 ∧ (∀ k, k < (dec p.length).length → s.getD k 0 ≠ 58) ∧ s.take (dec p.length).length = dec p.length ∧ (s.take ((dec p.length).length + 1 + p.length)).drop ((dec p.length).length + 1) = p ∧ s.drop ((dec p.length).length + 1 + p.length) = R := by
  have e : s = (dec p.length ++ [58] ++ p) ++ R := by rw [h]; simp
  have e2 : (dec p.length ++ [58] ++ p).length = (dec p.length).length + 1 + p.length := by simp; omega
  refine ⟨?_, ?_, ?_, ?_, ?_, ?_⟩
  · rw [e]; simp; omega
  · rw [h]; simp [List.getD]
  · intro k hk
    have : s.getD k 0 = (dec p.length).getD k 0 := by rw [h]; simp only [List.getD]; rw [List.getElem?_append_left hk]
    rw [this]
    have := dec_mem (getD_mem' hk); omega
  · rw [h]; simp
  · rw [e, ← e2, List.take_left, show (dec p.length).length + 1 = (dec p.length ++ [58]).length by simp, List.drop_left]
  · rw [e, ← e2, List.drop_left]
def strs (l : List (List Nat)) : List Value := l.map fun p => .string (txt p)
theorem strs_len (l : List (List Nat)) : (strs l).length = l.length := by simp [strs]

set_option maxRecDepth 100000 in
theorem parts_spec (l : List (List Nat)) (hb : B256 (marks l)) (hl : (marks l).length ≤ 1099511627776) (A : Mem) {e4 : TypeId} {f4 : Nat × Nat} (h4 : (4, Obj.cells (nums .u64 pow10T).toArray e4 f4) ∈ A) : FnX Tryz.prog 39 [.string (txt (marks l))] [] A fun r M J => J = [] ∧ ∃ v, r = .tuple #[v, .int .i64 0] ∧ Sl 1 v l.length (strs l) M := by
  refine FnX.enter (N := 77) Tryz.func39 rfl rfl rfl fun w => ?_
  refine XC.keep (kp 0 rfl kn) ?_
  refine XC.reg ?_
  refine XL.q (q_assign rfl) rfl ?_
  refine XL.q (q_assign rfl) rfl ?_
  refine XL.fin (kp 0 rfl kn) ?_
  refine XC.reg ?_
  refine XL.q (q_assign rfl) rfl ?_
  refine XL.fin (kp 0 rfl (kp 4 rfl kn)) ?_
  refine XC.seq ?_
  refine XC.block ?_
  refine XC.loop (α := Nat × Value × Mem) (fun x => [(0, .string (txt (marks (l.drop x.1)))), (4, x.2.1)]) (fun x => x.2.2) (fun _ => []) (fun x => x.1 ≤ l.length ∧ Sl 1 x.2.1 x.1 (strs (l.take x.1)) x.2.2 ∧ B256 (marks (l.drop x.1)) ∧ (marks (l.drop x.1)).length + x.1 ≤ 1099511627776) (fun x => l.length - x.1) (0, .slice none 0 0, []) ⟨Nat.zero_le _, Sl.nil, hb, hl⟩ (kp 0 rfl (kp 4 rfl kn)) .rfl (fun _ h => h) ?_
  rintro ⟨j, v, B⟩ ⟨hj, hsl, hbs, hml⟩
  dsimp only at hj hsl hbs hml ⊢
  refine XC.seq ?_
  refine XC.reg ?_
  refine XL.q (q_move rfl) rfl ?_
  refine XL.q (q_sLen rfl rfl (by kernel_rfl)) rfl ?_
  refine XL.q (q_bin rfl rfl rfl) rfl ?_
  refine XL.fin (kp 0 rfl (kp 4 rfl (kp 10 rfl kn))) ?_
  refine XC.cond rfl (fun hc => ?_) (fun hc => ?_)
  ·
    have hlt : j < l.length := by
      rcases Nat.lt_or_ge j l.length with h | h
      · exact h
      · rw [List.drop_eq_nil_of_le h] at hc; simp [marks] at hc
    obtain ⟨p, hp⟩ : ∃ p, p = l[j] := ⟨_, rfl⟩
    have hdr : l.drop j = p :: l.drop (j + 1) := by rw [hp]; exact List.drop_eq_getElem_cons hlt
    obtain ⟨f1, f2, f3, f4, f5, f6⟩ := mark_facts (marks_cons p (l.drop (j + 1)))
    rw [← hdr] at f1 f2 f3 f4 f5 f6
    have hbR : B256 (marks (l.drop (j + 1))) := by rw [← f6]; exact B256.drop
    have htk : strs (l.take (j + 1)) = strs (l.take j) ++ [.string (txt p)] := by simp only [strs]; rw [List.take_add_one, List.getElem?_eq_getElem hlt, hp, List.map_append]; rfl
    generalize marks (l.drop j) = s at *
    refine XC.skip ?_
    refine nx (kp 0 rfl (kp 4 rfl kn)) ?_
    refine XC.block ?_
    refine XC.reg ?_
    refine XL.q (q_assign rfl) rfl ?_
    refine XL.fin (kp 0 rfl (kp 4 rfl (kp 5 rfl kn))) ?_
    refine XC.seq ?_
    refine XC.block ?_
    refine XC.loop (α := Nat) (fun k => [(0, .string (txt s)), (4, v), (5, .int .i64 (k : Int))]) (fun _ => B) (fun _ => []) (fun k => k ≤ (dec p.length).length) (fun k => (dec p.length).length - k) 0 (Nat.zero_le _) (kp 0 rfl (kp 4 rfl (kp 5 rfl kn))) .rfl (fun _ h => h) ?_
    rintro k hk
    refine XC.seq ?_
    by_cases hkl : k < (dec p.length).length
    ·
      refine XC.reg ?_
      refine XL.q (q_move rfl) rfl ?_
      refine XL.q (q_move rfl) rfl ?_
      refine XL.q (q_sLen rfl rfl (by kernel_rfl)) rfl ?_
      refine XL.q (q_cmp true rfl rfl (ltT (by omega))) rfl ?_
      refine XL.q (q_move rfl) rfl ?_
      refine XL.gy rfl rfl (OpQ.opL (q_move rfl) rfl ?_)
      refine XL.gy rfl rfl (OpQ.opL (q_move rfl) rfl ?_)
      refine XL.gy rfl rfl (OpQ.opL (q_sAt rfl rfl B256.lt rfl (by kernel_rfl) rfl (by omega)) rfl ?_)
      refine XL.gy rfl rfl (OpQ.opL (q_cmp true rfl rfl (neT (by have := f3 k hkl; omega))) rfl ?_)
      refine XL.q (q_pickT rfl rfl) rfl ?_
      refine XL.fin (kp 0 rfl (kp 4 rfl (kp 5 rfl (kp 20 rfl kn)))) ?_
      refine XC.condT rfl ?_
      refine XC.skip ?_
      refine nx (kp 0 rfl (kp 4 rfl (kp 5 rfl kn))) ?_
      refine XC.block ?_
      refine XC.reg1 ?_
      refine XL.q (q_move rfl) rfl ?_
      refine XL.q (q_addI (b := 1) rfl rfl rfl rfl (by omega)) rfl ?_
      refine XL.q (q_assign rfl) rfl ?_
      refine XL.nil ?_
      refine nb ?_
      exact rn (k + 1) (by omega) (by omega) (kp 0 rfl (kp 4 rfl (kp 5 rfl kn))) .rfl (fun _ h => h)
    ·
      obtain rfl : k = (dec p.length).length := by omega
      refine XC.reg ?_
      refine XL.q (q_move rfl) rfl ?_
      refine XL.q (q_move rfl) rfl ?_
      refine XL.q (q_sLen rfl rfl (by kernel_rfl)) rfl ?_
      refine XL.q (q_cmp true rfl rfl (ltT (by omega))) rfl ?_
      refine XL.q (q_move rfl) rfl ?_
      refine XL.gy rfl rfl (OpQ.opL (q_move rfl) rfl ?_)
      refine XL.gy rfl rfl (OpQ.opL (q_move rfl) rfl ?_)
      refine XL.gy rfl rfl (OpQ.opL (q_sAt rfl rfl B256.lt rfl (by kernel_rfl) rfl (by omega)) rfl ?_)
      refine XL.gy rfl rfl (OpQ.opL (q_cmp false rfl rfl (neF (by rw [f2]; rfl))) rfl ?_)
      refine XL.q (q_pickT rfl rfl) rfl ?_
      refine XL.fin (kp 0 rfl (kp 4 rfl (kp 5 rfl (kp 20 rfl kn)))) ?_
      refine XC.condF rfl ?_
      refine XC.exit ?_
      refine te ?_
      refine re ?_
      refine be rfl ?_
      refine nx (kp 0 rfl (kp 4 rfl (kp 5 rfl kn))) ?_
      refine XC.reg ?_
      refine XL.q (q_move rfl) rfl ?_
      refine XL.q (q_move rfl) rfl ?_
      refine XL.q (q_sHi rfl rfl rfl (by kernel_rfl) rfl (by first | omega | (simp only [List.length_append, List.length_cons, List.length_nil, List.length_take, List.length_drop]; omega))) rfl ?_
      rw [f4]
      refine XL.callV (aS rfl a0) (by kernel_rfl) (atoi_spec p.length (by omega) _) rfl ?_
      refine XL.q (q_move rfl) rfl ?_
      refine XL.q (q_x0 rfl) rfl ?_
      refine XL.q (q_x1 rfl) rfl ?_
      refine XL.q (q_assign rfl) rfl ?_
      refine XL.q (q_assign rfl) rfl ?_
      refine XL.fin (kp 0 rfl (kp 4 rfl (kp 5 rfl (kp 6 rfl (kp 7 rfl kn))))) ?_
      refine XC.seq ?_
      refine XC.drawF [0, 1, 2, 3, 4, 5, 6, 7, 8, 9, 10, 11, 12, 13, 14, 15, 16, 17, 18, 19, 20, 21, 22, 23, 24, 25, 26, 27, 28] [(0, 0), (1, 0), (2, 0), (3, 0), (5, 0), (6, 0), (7, 0), (4, 2), (8, 0), (9, 0), (10, 0), (11, 0), (12, 0), (13, 0), (14, 0), (15, 0), (16, 0), (17, 0), (18, 0), (19, 0), (20, 0), (21, 0), (22, 0), (23, 0), (24, 0), (25, 0), (26, 0), (27, 0), (28, 0)] (by kernel_rfl) (by kernel_rfl) fun hs => ?_
      refine XF.q hs rfl (q_move rfl) rfl ?_
      refine XF.q hs rfl (q_ifNe0 rfl (by kernel_rfl)) rfl ?_
      refine XF.q hs rfl (q_move rfl) rfl ?_
      refine XF.qg hs rfl rfl rfl rfl (q_move rfl) rfl ?_
      refine XF.qg hs rfl rfl rfl rfl (q_move rfl) rfl ?_
      refine XF.qg hs rfl rfl rfl rfl (q_move rfl) rfl ?_
      refine XF.qg hs rfl rfl rfl rfl (q_sHi rfl rfl rfl (by kernel_rfl) rfl (by first | omega | (simp only [List.length_append, List.length_cons, List.length_nil, List.length_take, List.length_drop]; omega))) rfl ?_
      rw [f4]
      refine XF.callVg rfl rfl rfl rfl (aS rfl a0) (by kernel_rfl) (itoa_spec (p.length : Int) (by omega) (by omega) _ (mA h4)) rfl ?_
      rw [show decI ((p.length : Nat) : Int) = dec p.length by simp [decI]]
      refine XF.qg hs rfl rfl rfl rfl ((show (!decide (dec p.length = dec p.length)) = false by simp) ▸ q_sNe rfl rfl rfl rfl B256.lt B256.lt) rfl ?_
      refine XF.q hs rfl (q_pickF rfl rfl) rfl ?_
      refine XF.q hs rfl (q_move rfl) rfl ?_
      refine XF.qg hs rfl rfl rfl rfl (q_move rfl) rfl ?_
      refine XF.qg hs rfl rfl rfl rfl (q_cmp false rfl rfl (ltF (by omega))) rfl ?_
      refine XF.q hs rfl (q_pickF rfl rfl) rfl ?_
      refine XF.q hs rfl (q_move rfl) rfl ?_
      refine XF.qg hs rfl rfl rfl rfl (q_move rfl) rfl ?_
      refine XF.qg hs rfl rfl rfl rfl (q_move rfl) rfl ?_
      refine XF.qg hs rfl rfl rfl rfl (q_sLen rfl rfl (by kernel_rfl)) rfl ?_
      refine XF.qg hs rfl rfl rfl rfl (q_cmp false rfl rfl (eqF (by omega))) rfl ?_
      refine XF.q hs rfl (q_pickF rfl rfl) rfl ?_
      refine XF.q hs rfl (q_move rfl) rfl ?_
      refine XF.qg hs rfl rfl rfl rfl (q_move rfl) rfl ?_
      refine XF.qg hs rfl rfl rfl rfl (q_move rfl) rfl ?_
      refine XF.qg hs rfl rfl rfl rfl (q_sLen rfl rfl (by kernel_rfl)) rfl ?_
      refine XF.qg hs rfl rfl rfl rfl (q_move rfl) rfl ?_
      refine XF.qg hs rfl rfl rfl rfl (q_subI rfl rfl rfl rfl (by omega) (by omega)) rfl ?_
      refine XF.qg hs rfl rfl rfl rfl (q_subI (b := 1) rfl rfl rfl rfl (by omega) (by omega)) rfl ?_
      refine XF.qg hs rfl rfl rfl rfl (q_cmp false rfl rfl (gtF (by omega))) rfl ?_
      refine XF.q hs rfl (q_pickF rfl rfl) rfl ?_
      refine XF.fin (kp 0 rfl (kp 4 rfl (kp 5 rfl (kp 6 rfl (kp 58 rfl kn))))) ?_
      refine XC.condF rfl ?_
      refine XC.skip ?_
      refine nx (kp 0 rfl (kp 4 rfl (kp 5 rfl (kp 6 rfl kn)))) ?_
      refine XC.drawF1 [0, 1, 2, 3, 4, 5, 6, 7, 8, 9, 11, 12, 13, 14, 15, 16, 17, 18] [(0, 0), (1, 0), (2, 0), (3, 0), (4, 0), (5, 0), (6, 0), (7, 0), (8, 0), (11, 0), (12, 0), (13, 0), (14, 0), (15, 0), (16, 0), (9, 2), (10, 2), (17, 0), (18, 0)] (by kernel_rfl) (by kernel_rfl) fun hs => ?_
      refine XF.q hs rfl (q_move rfl) rfl ?_
      refine XF.q hs rfl (q_move rfl) rfl ?_
      refine XF.q hs rfl (q_move rfl) rfl ?_
      refine XF.q hs rfl (q_addI (b := 1) rfl rfl rfl rfl (by omega)) rfl ?_
      refine XF.q hs rfl (q_move rfl) rfl ?_
      refine XF.q hs rfl (q_addI (b := 1) rfl rfl rfl rfl (by omega)) rfl ?_
      refine XF.q hs rfl (q_move rfl) rfl ?_
      refine XF.q hs rfl (q_addI rfl rfl rfl rfl (by omega)) rfl ?_
      refine XF.q hs rfl (q_sLH rfl rfl rfl rfl (by kernel_rfl) rfl rfl (by omega) (by first | omega | (simp only [List.length_append, List.length_cons, List.length_nil, List.length_take, List.length_drop]; omega))) rfl ?_
      rw [f5]
      refine XF.q hs rfl (q_move rfl) rfl ?_
      refine XF.q hs rfl (q_move rfl) rfl ?_
      refine XF.q hs rfl (q_addI (b := 1) rfl rfl rfl rfl (by omega)) rfl ?_
      refine XF.q hs rfl (q_move rfl) rfl ?_
      refine XF.q hs rfl (q_addI rfl rfl rfl rfl (by omega)) rfl ?_
      refine XF.q hs rfl (q_sLo rfl rfl rfl (by kernel_rfl) rfl (by first | omega | (simp only [List.length_append, List.length_cons, List.length_nil, List.length_take, List.length_drop]; omega))) rfl ?_
      rw [f6]
      refine XF.lo rfl rfl fun _ => (l_buildSlice (e := 9) (sz := 1) (z := [.string ByteArray.empty]) (by kernel_rfl) (eS rfl e0) (bdS 0 1 rfl (by rfl) bd0) rfl fun b68 => ?_)
      refine XF.tl rfl rfl rfl (l_append2 (e := 9) (sz := 1) (by_ := 16) rfl rfl (by kernel_rfl) rfl (by first | assumption | exact Sl.nil) (Rd.whole (n := 1) At.mem (by rfl)) (by first | (simp [Value.oneCell']; done) | (intro c hc; simp only [List.mem_singleton] at hc; subst hc; first | exact Rd.one (by assumption) | exact Sl.one (by assumption))) PickC.perm (by unfold maxLen; omega) (by omega) rfl fun v69 B69 hs69 => ?_)
      refine XF.q hs rfl (q_assign rfl) rfl ?_
      refine XF.q hs rfl (q_assign rfl) rfl ?_
      refine XF.nil ?_
      refine nb ?_
      exact rn (j + 1, v69, B69) ⟨by dsimp only; omega, by dsimp only; rw [htk]; exact hs69, hbR, by dsimp only; omega⟩ (by dsimp only; omega) (kp 0 rfl (kp 4 rfl kn)) (Fit.sub (List.sublist_append_left _ _)) (fun _ h => h)
  ·
    have hge : j = l.length := by
      rcases Nat.lt_or_ge j l.length with h | h
      · rw [List.drop_eq_getElem_cons h, marks_cons] at hc; simp at hc; omega
      · omega
    subst hge
    rw [List.take_length] at hsl
    refine XC.exit ?_
    refine te ?_
    refine re ?_
    refine be rfl ?_
    refine nx (kp 4 rfl kn) ?_
    refine XC.reg ?_
    refine XL.q (q_move rfl) rfl ?_
    refine XL.q (q_assign rfl) rfl ?_
    refine XL.q (q_assign rfl) rfl ?_
    refine XL.fin (kp 2 rfl (kp 3 rfl kn)) ?_
    refine XC.ret ?_
    exact ⟨_, B, [], res2 rfl rfl rfl, List.Sublist.refl _, by simp, rfl, v, rfl, hsl⟩

end Go.Proofs.YthmnlkpikgglbaaGreatDoor
/-
  Maps from texts to places: each text once, the place of each the number of those ahead of it.
-/
set_option linter.unusedVariables false
set_option linter.unusedSimpArgs false
namespace Go.Px
/-- The entries of such a map. -/
def ents : List ByteArray → Nat → List MapEntry
  | [], _ => []
  | k :: ks, i => ⟨.string k, .int .i64 (i : Int), i⟩ :: ents ks (i + 1)
theorem ents_len : ∀ (ks : List ByteArray) (i : Nat), (ents ks i).length = ks.length
  | [], _ => rfl
  | k :: ks, i => by simp [ents, ents_len ks]
theorem ents_app : ∀ (ks : List ByteArray) (s : ByteArray) (i : Nat), ents (ks ++ [s]) i = ents ks i ++ [⟨.string s, .int .i64 ((i + ks.length : Nat) : Int), i + ks.length⟩]
  | [], s, i => by simp [ents]
  | k :: ks, s, i => by
    simp only [List.cons_append, ents, ents_app ks s (i + 1), List.length_cons]
    rw [show i + 1 + ks.length = i + (ks.length + 1) by omega]
/-- The place of a text. -/
def lookK (s : ByteArray) : List ByteArray → Nat → Option Nat
  | [], _ => none
  | k :: ks, i => if s == k then some i else lookK s ks (i + 1)
theorem find_ents (s : ByteArray) : ∀ (ks : List ByteArray) (i j : Nat), Instr.findNow .string (.string s) (ents ks i) j = some ((lookK s ks i).map fun q => (q - i + j, .int .i64 (q : Int)))
  | [], i, j => rfl
  | k :: ks, i, j => by
    unfold ents Instr.findNow lookK
    simp only [Instr.sameNow]
    by_cases h : s == k
    · simp [h]
    · simp only [Bool.not_eq_true] at h
      simp only [h, Bool.false_eq_true, if_false]
      rw [find_ents s ks (i + 1) (j + 1)]
      have hge : ∀ (ks : List ByteArray) (i q : Nat), lookK s ks i = some q → i ≤ q := by
        intro ks
        induction ks with
        | nil => intro i q h; cases h
        | cons k ks ih =>
          intro i q h
          unfold lookK at h
          split at h
          · cases h; exact Nat.le_refl _
          · have := ih _ _ h; omega
      cases hl : lookK s ks (i + 1) with
      | none => rfl
      | some q =>
        have := hge _ _ _ hl
        simp only [Option.map_some]
        congr 3; omega
theorem ba_eq {a b : ByteArray} : (a == b) = true ↔ a = b := by
  rcases a with ⟨a⟩; rcases b with ⟨b⟩
  show (a == b) = true ↔ _
  simp
theorem lookK_none {s : ByteArray} : ∀ {ks : List ByteArray} {i : Nat}, lookK s ks i = none ↔ s ∉ ks
  | [], i => by simp [lookK]
  | k :: ks, i => by
    unfold lookK
    by_cases h : s = k
    · rw [if_pos (ba_eq.2 h)]
      simp [h]
    · rw [if_neg (fun e => h (ba_eq.1 e)), lookK_none (ks := ks) (i := i + 1)]
      simp [h]
theorem lookK_some {s : ByteArray} : ∀ {ks : List ByteArray} {i q : Nat}, lookK s ks i = some q → i ≤ q ∧ ks[q - i]? = some s
  | [], i, q, h => by cases h
  | k :: ks, i, q, h => by
    unfold lookK at h
    split at h
    · rename_i he
      cases h
      have := ba_eq.1 he
      simp [this]
    · obtain ⟨h1, h2⟩ := lookK_some h
      refine ⟨by omega, ?_⟩
      rw [show q - i = (q - (i + 1)) + 1 by omega]
      simpa using h2
section
variable {P : Program} {R : Mem} {l : Env} {d : Option Nat} {ty t kt et : TypeId} {pos : String} {af : Array Edge} {g : Option (Nat × Bool)} {x y z : Operand} {b c : Nat} {s : ByteArray} {ks : List ByteArray}
theorem checkStr {em : Bool} {w : World} (hk : P.underlying kt = some .string) : (Instr.checkKey em 10000 kt (.string s)).run P w = .ok () w := by
  unfold Instr.checkKey
  simp only [Sem.run_bind, run_underlying hk, Result.andThen_ok]
  rfl
theorem findStr {w : World} (hk : P.underlying kt = some .string) : (Instr.findKey kt (.string s) (ents ks 0)).run P w = .ok ((lookK s ks 0).map fun q => (q, .int .i64 (q : Int))) w := by
  unfold Instr.findKey
  simp only [Sem.run_bind, run_underlying hk, Result.andThen_ok, find_ents]
  cases lookK s ks 0 <;> simp
/-- 'v, ok := m[k]'. -/
theorem q_lookT (hx : ev l x = some (.map (some b))) (hy : ev l y = some (.string s)) (hu : P.underlying t = some (.map kt et)) (hk : P.underlying kt = some .string) (hz : ∀ w, (zeroValue et).run P w = .ok (.int .i64 0) w)
    (hb : (b, Obj.map (ents ks 0).toArray c) ∈ R) : OpQ P R ⟨d, .lookup t x y true, ty, pos, af, g⟩ l (.tuple #[.int .i64 (((lookK s ks 0).getD 0 : Nat) : Int), .bool (lookK s ks 0).isSome]) := fun N a w ha hw => by
  have hm : (getObj b).run P w = .ok (.map (ents ks 0).toArray c) w := by simp [getObj, Sem.run, hw _ _ hb]
  simp only [execOp, ha.ev hx, ha.ev hy, Instr.lookup, Sem.run_bind, run_underlying hu, Result.andThen_ok, hm, Sem.run_pure, checkStr hk]
  rw [findStr hk]
  cases lookK s ks 0 <;> simp [hz]
end
section
variable {C : Cx} {l : Env} {M J : Mem} {K : Env → Mem → Mem → Prop} {d : Nat} {ty t kt et : TypeId} {pos : String} {af : Array Edge} {g : Option (Nat × Bool)} {x y z : Operand} {b : Nat} {s : ByteArray} {ks : List ByteArray}
theorem l_makeMap (hd : Nat.blt d C.N = true) (k : ∀ b, K ((d, .map (some b)) :: l) ((b, .map (ents [] 0).toArray 0) :: M) J) : OpL C ⟨some d, .makeMap t none, ty, pos, af, g⟩ l M J K := by
  intro Qp a w ha hw
  unfold Oper.wp
  simp only [execOp, Option.map_none, RowKit.run_makeMap]
  exact ⟨_, _, J, ha.put (blt_lt hd) _, hw.alloc _, k _⟩
/-- 'm[k] = n' of a text that isn't there: the next place. -/
theorem l_mapPush {M' : Mem} (hx : ev l x = some (.map (some b))) (hy : ev l y = some (.string s)) (hz : ev l z = some (.int .i64 (ks.length : Int))) (hu : C.P.underlying t = some (.map kt et)) (hk : C.P.underlying kt = some .string) (hn : lookK s ks 0 = none)
    (hM : Upd M b (.map (ents ks 0).toArray ks.length) (.map (ents (ks ++ [s]) 0).toArray (ks.length + 1)) M') (k : K l M' J) : OpL C ⟨none, .mapUpdate t x y z, ty, pos, af, g⟩ l M J K := by
  intro Qp a w ha hw
  have hm := hw.mem _ _ (List.mem_append_left _ hM.mem)
  have hst : (Instr.mapUpdate t (.map (some b)) (.string s) (.int .i64 (ks.length : Int))).run C.P w = .ok () { w with heap := w.heap.setIfInBounds b (.map (ents (ks ++ [s]) 0).toArray (ks.length + 1)) } := by
    have hg : (getObj b).run C.P w = .ok (.map (ents ks 0).toArray ks.length) w := by simp [getObj, Sem.run, hm]
    have hs : ∀ o, (setObj b o).run C.P w = .ok () { w with heap := w.heap.setIfInBounds b o } := fun o => by simp [setObj, Sem.run, hm]
    simp only [Instr.mapUpdate, Sem.run_bind, run_underlying hu, Result.andThen_ok, hg, checkStr hk]
    rw [findStr hk, hn]
    simp only [Option.map_none, Result.andThen_ok, hs, ents_app, Nat.zero_add]
    simp
  unfold Oper.wp
  simp only [execOp, ha.ev hx, ha.ev hy, ha.ev hz, hst, Sem.run_bind, Result.andThen_ok]
  refine ⟨_, _, J, ha, hw.upd hM (by simp [lt_of_heap hm]) (fun k hk => by simp [Array.getElem?_setIfInBounds, Ne.symm hk]) (by simp) rfl rfl rfl, k⟩
/-- The entries while a new one is still open. -/
def openE (ks : List ByteArray) (s : ByteArray) : List MapEntry := ents ks 0 ++ [{ key := .string s, val := .int .i64 0, born := ks.length }]
/-- 'm[k] = n' in two: a place for a text that isn't there; what stands there. -/
theorem l_mapEntry {M' : Mem} (hx : ev l x = some (.map (some b))) (hy : ev l y = some (.string s)) (hu : C.P.underlying t = some (.map kt et)) (hk : C.P.underlying kt = some .string) (hz : ∀ w, (zeroValue et).run C.P w = .ok (.int .i64 0) w) (hn : lookK s ks 0 = none) (hd : Nat.blt d C.N = true)
    (hM : Upd M b (.map (ents ks 0).toArray ks.length) (.map (openE ks s).toArray (ks.length + 1)) M') (k : K ((d, .tuple #[.int .i64 0, .int .i64 (ks.length : Int)]) :: l) M' J) : OpL C ⟨some d, .mapEntry t x y, ty, pos, af, g⟩ l M J K := by
  intro Qp a w ha hw
  have hm := hw.mem _ _ (List.mem_append_left _ hM.mem)
  have hst : (Instr.mapEntry t (.map (some b)) (.string s)).run C.P w = .ok (.tuple #[.int .i64 0, .int .i64 (ks.length : Int)]) { w with heap := w.heap.setIfInBounds b (.map (openE ks s).toArray (ks.length + 1)) } := by
    have hg : (getObj b).run C.P w = .ok (.map (ents ks 0).toArray ks.length) w := by simp [getObj, Sem.run, hm]
    have hs : ∀ o, (setObj b o).run C.P w = .ok () { w with heap := w.heap.setIfInBounds b o } := fun o => by simp [setObj, Sem.run, hm]
    simp only [Instr.mapEntry, Sem.run_bind, run_underlying hu, Result.andThen_ok, hg, checkStr hk]
    rw [findStr hk, hn]
    simp only [Option.map_none, Result.andThen_ok, Sem.run_bind, hz, hs, Sem.run_pure]
    simp [goInt, openE]
  unfold Oper.wp
  simp only [execOp, ha.ev hx, ha.ev hy, hst, Sem.run_bind, Result.andThen_ok, Sem.run_pure]
  refine ⟨_, _, J, ha.put (blt_lt hd) _, hw.upd hM (by simp [lt_of_heap hm]) (fun k hk => by simp [Array.getElem?_setIfInBounds, Ne.symm hk]) (by simp) rfl rfl rfl, k⟩
theorem born_idx (e : MapEntry) : ∀ (ks : List ByteArray) (i n : Nat), n = i + ks.length → e.born = n → (ents ks i ++ [e]).findIdx? (fun e => (e.born : Int) == (n : Int)) = some ks.length
  | [], i, n, hn, he => by simp [ents, List.findIdx?_cons, he]
  | k :: ks, i, n, hn, he => by
    simp only [List.length_cons] at hn
    rw [ents, List.cons_append, List.findIdx?_cons, if_neg (by simp; omega), born_idx e ks (i + 1) n (by omega) he]
    rfl
theorem l_entryStore {M' : Mem} (hx : ev l x = some (.map (some b))) (hy : ev l y = some (.int .i64 (ks.length : Int))) (hz : ev l z = some (.int .i64 (ks.length : Int)))
    (hM : Upd M b (.map (openE ks s).toArray (ks.length + 1)) (.map (ents (ks ++ [s]) 0).toArray (ks.length + 1)) M') (k : K l M' J) : OpL C ⟨none, .entryStore t x y z, ty, pos, af, g⟩ l M J K := by
  intro Qp a w ha hw
  have hm := hw.mem _ _ (List.mem_append_left _ hM.mem)
  have hst : (Instr.entryStore t (.map (some b)) (.int .i64 (ks.length : Int)) (.int .i64 (ks.length : Int))).run C.P w = .ok () { w with heap := w.heap.setIfInBounds b (.map (ents (ks ++ [s]) 0).toArray (ks.length + 1)) } := by
    have hg : (getObj b).run C.P w = .ok (.map (openE ks s).toArray (ks.length + 1)) w := by simp [getObj, Sem.run, hm]
    have hs : ∀ o, (setObj b o).run C.P w = .ok () { w with heap := w.heap.setIfInBounds b o } := fun o => by simp [setObj, Sem.run, hm]
    have hi : (openE ks s).toArray.findIdx? (fun e => (e.born : Int) == (ks.length : Int)) = some ks.length := by
      rw [List.findIdx?_toArray]; unfold openE; exact born_idx _ ks 0 ks.length (by omega) rfl
    have hmod : (openE ks s).toArray.modify ks.length (fun e => { e with val := .int .i64 (ks.length : Int) }) = (ents (ks ++ [s]) 0).toArray := by
      unfold openE
      rw [ents_app, Nat.zero_add, List.modify_toArray]
      congr 1
      rw [List.modify_eq_take_cons_drop (by simp [ents_len])]
      simp [ents_len, List.getElem_append_right]
    simp only [Instr.entryStore, Sem.run_bind, Result.andThen_ok, hg, asInt, asIntOf, Sem.run_pure, hi, hs, hmod]
  unfold Oper.wp
  simp only [execOp, ha.ev hx, ha.ev hy, ha.ev hz, hst, Sem.run_bind, Result.andThen_ok]
  refine ⟨_, _, J, ha, hw.upd hM (by simp [lt_of_heap hm]) (fun k hk => by simp [Array.getElem?_setIfInBounds, Ne.symm hk]) (by simp) rfl rfl rfl, k⟩
end
end Go.Px

/- The walks of pawllaw07.awake and TermNil. -/
set_option linter.unusedVariables false
set_option linter.unusedSimpArgs false
namespace Go.Proofs.YthmnlkpikgglbaaGreatDoor
open Go.Px
def ints (l : List Int) : List Value := l.map (.int .i64)
/-- The cells of a term. -/
abbrev tmc (k : Nat) (vo : Value) (t : List Nat) (n : Int) : List Value := [.int .u8 (k : Int), vo, .string (txt t), .int .i64 n]

set_option maxRecDepth 100000 in
theorem getNil_spec (i : Int) (A : Mem) : FnV Tryz.prog 17 [.pointer none, .int .i64 i] A (.tuple #[.agg (tmc 0 (.slice none 0 0) [] 0).toArray, .bool false]) := by
  refine FnX.enter (N := 29) Tryz.func17 rfl rfl rfl fun w => ?_
  refine XC.keep (kp 0 rfl (kp 1 rfl kn)) ?_
  refine XC.reg ?_
  refine XL.lo rfl (l_alloc (cs := [.int .u8 0, .slice none 0 0, .string ByteArray.empty, .int .i64 0]) (by kernel_rfl) rfl fun b4 => ?_)
  refine XL.q (q_assign rfl) rfl ?_
  refine XL.fin (kp 0 rfl (kp 1 rfl (kp 4 rfl kn))) ?_
  refine XC.seq ?_
  refine XC.reg ?_
  refine XL.q (q_move rfl) rfl ?_
  refine XL.q (q_ptrEqNil (e := 83) rfl rfl (by kernel_rfl)) rfl ?_
  refine XL.q (q_move rfl) rfl ?_
  refine XL.gn rfl rfl rfl rfl ?_
  refine XL.gn rfl rfl rfl rfl ?_
  refine XL.q (q_pickT rfl rfl) rfl ?_
  refine XL.q (q_move rfl) rfl ?_
  refine XL.gn rfl rfl rfl rfl ?_
  refine XL.gn rfl rfl rfl rfl ?_
  refine XL.gn rfl rfl rfl rfl ?_
  refine XL.gn rfl rfl rfl rfl ?_
  refine XL.gn rfl rfl rfl rfl ?_
  refine XL.gn rfl rfl rfl rfl ?_
  refine XL.gn rfl rfl rfl rfl ?_
  refine XL.q (q_pickT rfl rfl) rfl ?_
  refine XL.fin (kp 0 rfl (kp 1 rfl (kp 4 rfl (kp 20 rfl kn)))) ?_
  refine XC.condT rfl ?_
  refine XC.reg ?_
  refine XL.q (q_build (place := fun x => #[(0, 1), (1, 1), (2, 1), (3, 1)][x]?) (z := [.int .u8 0, .slice none 0 0, .string ByteArray.empty, .int .i64 0]) (fun _ => by kernel_rfl) e0 bd0) rfl ?_
  refine XL.lo rfl (l_storeW rfl rfl Cel.cel (by kernel_rfl) (lnS (lnS (lnS (lnS (ln0))))) (allS rfl (allS rfl (allS rfl (allS rfl (all0))))) UpC.upd ?_)
  refine XL.q (q_assign rfl) rfl ?_
  refine XL.fin (kp 4 rfl (kp 5 rfl kn)) ?_
  refine XC.ret ?_
  refine tr ?_
  exact ⟨_, [], [], resC1 rfl rfl rfl (by kernel_rfl) At.mem (by rfl), List.nil_sublist _, by simp, rfl, rfl, rfl⟩

set_option maxRecDepth 100000 in
theorem findNil_spec (k : Nat) (vo : Value) (tx : List Nat) (n : Int) (A : Mem) : FnV Tryz.prog 93 [.pointer none, .agg (tmc k vo tx n).toArray] A (.tuple #[.int .i64 0, .bool false]) := by
  skip
  refine FnX.enter (N := 22) Tryz.func93 rfl rfl rfl fun w => ?_
  refine XC.keep (kp 0 rfl (kp 1 rfl kn)) ?_
  refine XC.reg ?_
  refine XL.lo rfl (l_box rfl (by first | exact Cel.cel | rfl) rfl fun b3 => ?_)
  refine XL.q (q_assign rfl) rfl ?_
  refine XL.q (q_assign rfl) rfl ?_
  refine XL.fin (kp 0 rfl (kp 3 rfl kn)) ?_
  refine XC.seq ?_
  refine XC.reg ?_
  refine XL.q (q_move rfl) rfl ?_
  refine XL.q (q_ptrEqNil (e := 83) rfl rfl (by kernel_rfl)) rfl ?_
  refine XL.fin (kp 0 rfl (kp 3 rfl (kp 9 rfl kn))) ?_
  refine XC.condT rfl ?_
  refine XC.reg ?_
  refine XL.q (q_assign rfl) rfl ?_
  refine XL.q (q_assign rfl) rfl ?_
  refine XL.fin (kp 4 rfl (kp 5 rfl kn)) ?_
  refine XC.ret ?_
  refine tr ?_
  exact ⟨_, [], [], res2 rfl rfl rfl, List.nil_sublist _, by simp, rfl, rfl, rfl⟩

set_option maxRecDepth 100000 in
theorem putNil_spec (k : Nat) (vo : Value) (tx : List Nat) (n : Int) (A : Mem) : FnV Tryz.prog 44 [.pointer none, .agg (tmc k vo tx n).toArray] A (.int .i64 (-1)) := by
  refine FnX.enter (N := 50) Tryz.func44 rfl rfl rfl fun w => ?_
  refine XC.keep (kp 0 rfl (kp 1 rfl kn)) ?_
  refine XC.reg ?_
  refine XL.lo rfl (l_box rfl (by first | exact Cel.cel | rfl) rfl fun b3 => ?_)
  refine XL.q (q_assign rfl) rfl ?_
  refine XL.fin (kp 0 rfl (kp 3 rfl kn)) ?_
  refine XC.seq ?_
  refine XC.reg ?_
  refine XL.q (q_move rfl) rfl ?_
  refine XL.q (q_ptrEqNil (e := 83) rfl rfl (by kernel_rfl)) rfl ?_
  refine XL.fin (kp 0 rfl (kp 3 rfl (kp 8 rfl kn))) ?_
  refine XC.condT rfl ?_
  refine XC.reg ?_
  refine XL.q (q_assign rfl) rfl ?_
  refine XL.fin (kp 4 rfl kn) ?_
  refine XC.ret ?_
  refine tr ?_
  exact ⟨_, [], [], res1 rfl rfl, List.nil_sublist _, by simp, rfl, rfl, rfl⟩

set_option maxRecDepth 100000 in
theorem lenNil_spec (A : Mem) : FnV Tryz.prog 12 [.pointer none] A (.int .i64 0) := by
  refine FnX.enter (N := 10) Tryz.func12 rfl rfl rfl fun w => ?_
  refine XC.keep (kp 0 rfl kn) ?_
  refine XC.reg ?_
  refine XL.q (q_assign rfl) rfl ?_
  refine XL.fin (kp 0 rfl kn) ?_
  refine XC.seq ?_
  refine XC.reg ?_
  refine XL.q (q_move rfl) rfl ?_
  refine XL.q (q_ptrEqNil (e := 83) rfl rfl (by kernel_rfl)) rfl ?_
  refine XL.fin (kp 0 rfl (kp 4 rfl kn)) ?_
  refine XC.condT rfl ?_
  refine XC.reg ?_
  refine XL.q (q_assign rfl) rfl ?_
  refine XL.fin (kp 2 rfl kn) ?_
  refine XC.ret ?_
  refine tr ?_
  exact ⟨_, [], [], res1 rfl rfl, List.nil_sublist _, by simp, rfl, rfl, rfl⟩

end Go.Proofs.YthmnlkpikgglbaaGreatDoor
/- The walks of package term's table: name, New, Put, Get, Find, Len. -/
set_option linter.unusedVariables false
set_option linter.unusedSimpArgs false
namespace Go.Proofs.YthmnlkpikgglbaaGreatDoor
open Go.Px
def i64 (i : Int) : Prop := -9223372036854775808 ≤ i ∧ i ≤ 9223372036854775807
/-- A term whose parts are not too great. -/
structure Tmo (t : Tm) : Prop where
  kind : t.kind < 256
  n : i64 t.n
  of : ∀ i ∈ t.of, i64 i
  ofl : t.of.length ≤ 1048576
  text : B256 t.text
  tl : t.text.length ≤ 1099511627776
theorem Tmo.ok {t : Tm} (h : Tmo t) : t.ok := ⟨h.kind, by have := h.n; unfold i64 at this; omega, fun i hi => by have := h.of i hi; unfold i64 at this; omega, h.text.lt⟩
theorem ints_len (l : List Int) : (ints l).length = l.length := by simp [ints]
theorem ints_one' (l : List Int) : ∀ c ∈ ints l, c.oneCell' = true := fun c hc => by
  obtain ⟨i, _, rfl⟩ := List.mem_map.1 hc; rfl
/-- The cells of a term that read. -/
def TmC (R : Mem) (c : List Value) (t : Tm) : Prop := ∃ vo, c = tmc t.kind vo t.text t.n ∧ Rd R 1 vo t.of.length (ints t.of)
theorem TmC.mono {R R' : Mem} {c : List Value} {t : Tm} (h : TmC R c t) (hR : ∀ x, x ∈ R → x ∈ R') : TmC R' c t := by
  obtain ⟨vo, h1, h2⟩ := h; exact ⟨vo, h1, h2.mono hR⟩
/-- The text ahead of a term's mark, so many of its parts told. -/
def pre (t : Tm) (i : Nat) : List Nat := dec t.kind ++ 32 :: decI t.n ++ (t.of.take i).flatMap (fun j => 32 :: decI j)
theorem pre_succ {t : Tm} {i : Nat} (h : i < t.of.length) : pre t (i + 1) = pre t i ++ (32 :: decI t.of[i]) := by
  unfold pre
  rw [List.take_add_one, List.getElem?_eq_getElem h, List.flatMap_append]
  simp
theorem nm_pre (t : Tm) : t.nm = pre t t.of.length ++ 58 :: t.text := by
  unfold Tm.nm pre sepd
  rw [List.take_length]
  simp [List.flatMap_map]
theorem pre_b (t : Tm) (i : Nat) : B256 (pre t i) := ⟨fun x hx => by
  unfold pre at hx
  simp only [List.mem_append, List.mem_cons, List.mem_flatMap] at hx
  rcases hx with (hx | hx | hx) | ⟨j, _, hx | hx⟩
  · have := dec_mem hx; omega
  · omega
  · have := decI_mem hx; omega
  · omega
  · have := decI_mem hx; omega⟩
theorem pre_len {t : Tm} (h : Tmo t) : ∀ i, i ≤ t.of.length → (pre t i).length ≤ 43 + 22 * i
  | 0, _ => by
    have a := nd10_le (u := t.kind) (by have := h.kind; omega)
    have b := decI_len (i := t.n) (h.ok.n)
    simp only [pre, List.take_zero, List.flatMap_nil, List.append_nil, List.length_append, List.length_cons, dec_len]
    omega
  | i + 1, hi => by
    have a := pre_len h i (by omega)
    have b := decI_len (i := t.of[i]) (h.ok.of _ (List.getElem_mem _))
    rw [pre_succ (by omega), List.length_append, List.length_cons]
    omega
theorem nm_b {t : Tm} (h : Tmo t) : B256 t.nm := by
  rw [nm_pre]
  exact @B256.app _ _ (pre_b _ _) (B256.cons (by decide) h.text)
/-- What a term is known by. -/
def key (t : Tm) : ByteArray := txt t.nm
theorem key_inj {s t : Tm} (hs : Tmo s) (ht : Tmo t) (h : key s = key t) : s = t := Tm.nm_inj hs.ok ht.ok (txt_inj (nm_b hs).lt (nm_b ht).lt h)
theorem look_key {t : Tm} {ts : List Tm} (ht : Tmo t) (hts : ∀ t ∈ ts, Tmo t) : (lookK (key t) (ts.map key) 0 = none ↔ t ∉ ts) ∧ ∀ i, lookK (key t) (ts.map key) 0 = some i → ts[i]? = some t := by
  constructor
  · rw [lookK_none, List.mem_map]
    constructor
    · exact fun h hm => h ⟨t, hm, rfl⟩
    · rintro h ⟨s, hs, e⟩
      exact h (key_inj (hts s hs) ht e ▸ hs)
  · intro i h
    obtain ⟨_, h2⟩ := lookK_some h
    rw [Nat.sub_zero, List.getElem?_map] at h2
    cases h3 : ts[i]? with
    | none => rw [h3] at h2; cases h2
    | some s =>
      rw [h3] at h2
      have := key_inj (hts s (List.mem_of_getElem? h3)) ht (by simpa using h2)
      rw [this]
/-- A table of terms, at its two blocks. -/
def Tab (bt bm : Nat) (ts : List Tm) (M : Mem) : Prop := ∃ (v : Value) (rows : List (List Value)) (ks : List ByteArray) (Bl BX : Mem), M = (bt, blk [v, .map (some bm)] 83) :: (bm, .map (ents ks 0).toArray ks.length) :: (Bl ++ BX) ∧ ks = ts.map key ∧ Sl 4 v ks.length rows.flatten Bl ∧ rows.length = ks.length ∧ (∀ r ∈ rows, r.length = 4) ∧ (∀ (j : Nat) (t : Tm), ts[j]? = some t → ∃ r, rows[j]? = some r ∧ TmC BX r t) ∧ (∀ t ∈ ts, Tmo t) ∧ ts.Nodup
theorem dec_decI (k : Nat) : decI ((k : Nat) : Int) = dec k := by simp [decI]

set_option maxRecDepth 100000 in
theorem cloneI_spec (v : Value) (n : Nat) (xs : List Value) (A : Mem) (h : Rd A 1 v n xs) (h1 : ∀ c ∈ xs, c.oneCell' = true) (hn : n ≤ 1099511627776) : FnX Tryz.prog 70 [v] [] A fun r M J => J = [] ∧ Rd M 1 r n xs := by
  haveI := h.cel
  refine FnX.enter (N := 8) Tryz.func70 rfl rfl rfl fun w => ?_
  refine XC.keep (kp 0 rfl kn) ?_
  refine XC.reg ?_
  refine XL.q (q_assign rfl) rfl ?_
  refine XL.fin (kp 0 rfl kn) ?_
  refine XC.seq ?_
  refine XC.reg ?_
  refine XL.q (q_move rfl) rfl ?_
  refine XL.q (q_slEqNil (e := 3) rfl (by kernel_rfl) (by first | assumption | exact Sl.rd (by assumption) (fun _ h => h) | exact By.rd (by assumption))) rfl ?_
  refine XL.fin (kp 0 rfl (kp 4 rfl kn)) ?_
  refine XC.cond rfl (fun hc => ?_) (fun hc => ?_)
  ·
    have h0 := h.isNil hc
    subst h0
    obtain rfl : xs = [] := List.eq_nil_of_length_eq_zero (by have := h.len; omega)
    refine XC.reg ?_
    refine XL.q (q_assign rfl) rfl ?_
    refine XL.fin (kp 2 rfl kn) ?_
    refine XC.ret ?_
    refine tr ?_
    exact ⟨_, [], [], res1 rfl rfl, List.nil_sublist _, by simp, rfl, Rd.nil⟩
  ·
    refine XC.skip ?_
    refine nx (kp 0 rfl kn) ?_
    refine XC.reg ?_
    refine XL.lo rfl (l_buildSlice (e := 3) (sz := 1) (z := []) (by kernel_rfl) e0 bd0 rfl fun b5 => ?_)
    refine XL.q (q_move rfl) rfl ?_
    refine XL.lo rfl (l_append2 (e := 3) (sz := 1) (by_ := 8) rfl rfl (by kernel_rfl) rfl (Sl.fresh (n := 0) (cs := []) (e := 3) rfl (by decide)) (Rd.mono h SubC.sub) h1 PickC.perm (by unfold maxLen; omega) (by omega) rfl fun v7 B7 hs7 => ?_)
    refine XL.q (q_assign rfl) rfl ?_
    refine XL.fin (kp 2 rfl kn) ?_
    refine XC.ret ?_
    exact ⟨_, B7, [], res1 rfl rfl, List.sublist_append_left _ _, by simp, rfl, rd_eq (hs7.rd fun _ h => h) (by omega) (by simp)⟩

set_option maxRecDepth 100000 in
theorem name_spec (vo : Value) (t : Tm) (A : Mem) (hvo : Rd A 1 vo t.of.length (ints t.of)) (ht : Tmo t) {e4 : TypeId} {f4 : Nat × Nat} (h4 : (4, Obj.cells (nums .u64 pow10T).toArray e4 f4) ∈ A) : FnV Tryz.prog 69 [.agg (tmc t.kind vo t.text t.n).toArray] A (.string (key t)) := by
  haveI := hvo.cel
  have hkind := ht.kind
  refine FnX.enter (N := 33) Tryz.func69 rfl rfl rfl fun w => ?_
  refine XC.keep (kp 0 rfl kn) ?_
  refine XC.reg ?_
  refine XL.lo rfl (l_box rfl (by first | exact Cel.cel | rfl) rfl fun b1 => ?_)
  refine XL.q (q_assign rfl) rfl ?_
  refine XL.fin (kp 1 rfl kn) ?_
  refine XC.drawF [0, 1, 2, 3, 4, 5, 6, 7, 8, 9] [(0, 0), (1, 1), (2, 0), (5, 0), (6, 1), (3, 2), (4, 0), (7, 2), (8, 0), (9, 0)] (by kernel_rfl) (by kernel_rfl) fun hs => ?_
  refine XF.q hs rfl (q_fieldAddrN 0 (off := 0) rfl (by kernel_rfl) rfl) rfl ?_
  refine XF.r hs rfl (q_load rfl (by kernel_rfl) (by first | exact At.mem | exact mA (by assumption)) (by rfl)) rfl ?_
  refine XF.q hs rfl (q_same (k' := .i64) rfl (by kernel_rfl) (by show _ < 9223372036854775808; have := ht.kind; omega)) rfl ?_
  refine XF.q hs rfl (q_fieldAddrN 3 (off := 3) rfl (by kernel_rfl) rfl) rfl ?_
  refine XF.r hs rfl (q_load rfl (by kernel_rfl) (by first | exact At.mem | exact mA (by assumption)) (by rfl)) rfl ?_
  refine XF.callV rfl (aS rfl a0) (by kernel_rfl) (itoa_spec (t.kind : Int) (by have := ht.kind; omega) (by have := ht.kind; omega) _ (mA h4)) rfl ?_
  rw [dec_decI]
  refine XF.q hs rfl (q_sAdd (ws' := [32]) rfl rfl rfl (by kernel_rfl) (by simp only [dec_len, List.length_cons, List.length_nil]; have := nd10_le (u := t.kind) (by have := ht.kind; omega); omega)) rfl ?_
  refine XF.callV rfl (aS rfl a0) (by kernel_rfl) (itoa_spec t.n ht.n.1 ht.n.2 _ (mA h4)) rfl ?_
  refine XF.q hs rfl (q_sAdd rfl rfl rfl rfl (by simp only [List.length_append, dec_len, List.length_cons, List.length_nil]; have := nd10_le (u := t.kind) (by have := ht.kind; omega); have := decI_len (i := t.n) ht.ok.n; omega)) rfl ?_
  refine XF.q hs rfl (q_assign rfl) rfl ?_
  rw [show dec t.kind ++ [32] ++ decI t.n = pre t 0 by simp [pre]]
  refine XF.fin (kp 1 rfl (kp 3 rfl kn)) ?_
  refine XC.seq ?_
  refine XC.reg ?_
  refine XL.q (q_fieldAddrN 1 (off := 1) rfl (by kernel_rfl) rfl) rfl ?_
  refine XL.q (q_load rfl (by kernel_rfl) (by first | exact At.mem | exact mA (by assumption)) (by rfl)) rfl ?_
  refine XL.q (q_lenV2 (sz := 1) rfl (by kernel_rfl) hvo) rfl ?_
  refine XL.q (q_move rfl) rfl ?_
  refine XL.fin (kp 1 rfl (kp 3 rfl (kp 16 rfl (kp 17 rfl (kp 18 rfl kn))))) ?_
  refine XC.block ?_
  refine XC.loop (α := Nat) (fun i => [(1, .pointer (some ⟨b1, 0, none⟩)), (3, .string (txt (pre t i))), (16, vo), (17, .int .i64 ((t.of.length : Nat) : Int)), (18, .int .i64 (i : Int))]) (fun _ => [(b1, blk (tmc t.kind vo t.text t.n) 41)]) (fun _ => []) (fun i => i ≤ t.of.length) (fun i => t.of.length - i) 0 (Nat.zero_le _) (kp 1 rfl (kp 3 rfl (kp 16 rfl (kp 17 rfl (kp 18 rfl kn))))) .rfl (fun _ h => h) ?_
  rintro i hi
  have hpl := pre_len ht i hi
  have hofl := ht.ofl
  haveI := pre_b t i
  refine XC.reg ?_
  refine XL.q (q_bin rfl rfl rfl) rfl ?_
  refine XL.fin (kp 1 rfl (kp 3 rfl (kp 16 rfl (kp 17 rfl (kp 18 rfl (kp 19 rfl kn)))))) ?_
  refine XC.seq ?_
  refine XC.cond rfl (fun hc => ?_) (fun hc => ?_)
  ·
    have hlt : i < t.of.length := by simp at hc; omega
    have hi64 := ht.of _ (List.getElem_mem hlt)
    have hdl := decI_len (i := t.of[i]) (ht.ok.of _ (List.getElem_mem hlt))
    refine XC.skip ?_
    refine nx (kp 1 rfl (kp 3 rfl (kp 16 rfl (kp 17 rfl (kp 18 rfl kn))))) ?_
    refine XC.seq ?_
    refine XC.block ?_
    refine XC.reg ?_
    refine XL.q (q_atV2 (sz := 1) rfl rfl (by kernel_rfl) rfl hvo hlt) rfl ?_
    refine XL.q (q_ldV (u := .int .i64 t.of[i]) (Rd.mono hvo SubC.sub) rfl (by kernel_rfl) (by simp [ints, hlt])) rfl ?_
    refine XL.q (q_assign rfl) rfl ?_
    refine XL.fin (kp 1 rfl (kp 3 rfl (kp 5 rfl (kp 16 rfl (kp 17 rfl (kp 18 rfl kn)))))) ?_
    refine XC.reg1 ?_
    refine XL.q (q_move rfl) rfl ?_
    refine XL.q (q_move rfl) rfl ?_
    refine XL.callV (aS rfl a0) (by kernel_rfl) (itoa_spec t.of[i] hi64.1 hi64.2 _ (mA h4)) rfl ?_
    refine XL.q (q_sAdd (ws := [32]) rfl rfl (by kernel_rfl) rfl (by simp only [List.length_cons, List.length_nil]; omega)) rfl ?_
    refine XL.q (q_sAdd rfl rfl rfl rfl (by simp only [List.length_cons, List.length_append, List.length_nil]; omega)) rfl ?_
    refine XL.q (q_assign rfl) rfl ?_
    rw [show pre t i ++ ([32] ++ decI t.of[i]) = pre t (i + 1) by rw [pre_succ hlt]; rfl]
    refine XL.nil ?_
    refine nb ?_
    refine nx (kp 1 rfl (kp 3 rfl (kp 16 rfl (kp 17 rfl (kp 18 rfl kn))))) ?_
    refine XC.reg1 ?_
    refine XL.q (q_addI (b := 1) rfl rfl rfl rfl (by omega)) rfl ?_
    refine XL.q (q_move rfl) rfl ?_
    refine XL.nil ?_
    exact rn (i + 1) (by omega) (by omega) (kp 1 rfl (kp 3 rfl (kp 16 rfl (kp 17 rfl (kp 18 rfl kn))))) .rfl (fun _ h => h)
  ·
    have hge : i = t.of.length := by simp at hc; omega
    subst hge
    refine XC.exit ?_
    refine te ?_
    refine re ?_
    refine be rfl ?_
    refine nx (kp 1 rfl (kp 3 rfl kn)) ?_
    refine XC.reg ?_
    refine XL.q (q_move rfl) rfl ?_
    refine XL.q (q_sAdd (ws' := [58]) rfl rfl rfl (by kernel_rfl) (by simp only [List.length_cons, List.length_nil]; omega)) rfl ?_
    refine XL.q (q_fieldAddrN 2 (off := 2) rfl (by kernel_rfl) rfl) rfl ?_
    refine XL.q (q_load rfl (by kernel_rfl) (by first | exact At.mem | exact mA (by assumption)) (by rfl)) rfl ?_
    refine XL.q (q_sAdd rfl rfl rfl rfl (by simp only [List.length_append, List.length_cons, List.length_nil]; have := ht.tl; omega)) rfl ?_
    refine XL.q (q_assign rfl) rfl ?_
    refine XL.fin (kp 2 rfl kn) ?_
    refine XC.ret ?_
    refine ⟨_, [], [], res1 rfl rfl, List.nil_sublist _, by simp, ?_, rfl, rfl⟩
    rw [key, nm_pre]; simp

set_option maxRecDepth 100000 in
theorem newT_spec (A : Mem) : FnX Tryz.prog 56 [] [] A fun r M J => J = [] ∧ ∃ bt bm, r = .pointer (some ⟨bt, 0, none⟩) ∧ Tab bt bm [] M := by
  refine FnX.enter (N := 4) Tryz.func56 rfl rfl rfl fun w => ?_
  refine XC.keep kn ?_
  refine XC.reg ?_
  refine XL.q (q_assign rfl) rfl ?_
  refine XL.fin kn ?_
  refine XC.reg ?_
  refine XL.lo rfl (l_makeMap rfl fun b1 => ?_)
  refine XL.q (q_build (place := fun x => #[(0, 1), (1, 1)][x]?) (z := [.slice none 0 0, .map none]) (fun _ => by kernel_rfl) (eS rfl e0) (bdS 1 1 rfl (by rfl) bd0)) rfl ?_
  refine XL.lo rfl (l_box rfl (by first | exact Cel.cel | rfl) rfl fun b3 => ?_)
  refine XL.q (q_assign rfl) rfl ?_
  refine XL.fin (kp 0 rfl kn) ?_
  refine XC.ret ?_
  exact ⟨_, [_, _], [], res1 rfl rfl, List.Sublist.refl _, by simp, rfl, b3, b1, rfl, .slice none 0 0, [], [], [], [], rfl, rfl, Sl.nil, rfl, (fun r h => by cases h), (fun j t h => by simp at h), (fun t h => by cases h), List.nodup_nil⟩

set_option maxRecDepth 100000 in
theorem lenT_spec (bt bm : Nat) (ts : List Tm) (MT A : Mem) (hT : Tab bt bm ts MT) (hsub : ∀ x, x ∈ MT → x ∈ A) : FnV Tryz.prog 12 [.pointer (some ⟨bt, 0, none⟩)] A (.int .i64 ((ts.length : Nat) : Int)) := by
  obtain ⟨v, rows, ks, Bl, BX, rfl, hks, hsl, hrl, hr4, hat, hto, hnd⟩ := hT
  have hbt : (bt, blk [v, .map (some bm)] 83) ∈ A := hsub _ (by simp)
  have hrd := hsl.rd (R := A) (fun x hx => hsub x (by simp [hx]))
  refine FnX.enter (N := 10) Tryz.func12 rfl rfl rfl fun w => ?_
  refine XC.keep (kp 0 rfl kn) ?_
  refine XC.reg ?_
  refine XL.q (q_assign rfl) rfl ?_
  refine XL.fin (kp 0 rfl kn) ?_
  refine XC.seq ?_
  refine XC.reg ?_
  refine XL.q (q_move rfl) rfl ?_
  refine XL.q (q_ptrEqNil (e := 83) rfl rfl (by kernel_rfl)) rfl ?_
  refine XL.fin (kp 0 rfl (kp 4 rfl kn)) ?_
  refine XC.condF rfl ?_
  refine XC.skip ?_
  refine nx (kp 0 rfl kn) ?_
  refine XC.reg ?_
  refine XL.q (q_move rfl) rfl ?_
  refine XL.q (q_nil rfl) rfl ?_
  refine XL.q (q_fieldAddrN 0 (off := 0) rfl (by kernel_rfl) rfl) rfl ?_
  refine XL.q (q_load rfl (by kernel_rfl) (mA hbt) (by rfl)) rfl ?_
  refine XL.q (q_lenV2 (sz := 4) rfl (by kernel_rfl) hrd) rfl ?_
  refine XL.q (q_assign rfl) rfl ?_
  refine XL.fin (kp 2 rfl kn) ?_
  refine XC.ret ?_
  refine ⟨_, [], [], res1 rfl rfl, List.nil_sublist _, by simp, ?_, rfl, rfl⟩
  rw [hks, List.length_map]

set_option maxRecDepth 100000 in
theorem getT_spec (bt bm : Nat) (ts : List Tm) (i : Int) (MT A : Mem) (hT : Tab bt bm ts MT) (hsub : ∀ x, x ∈ MT → x ∈ A) : FnX Tryz.prog 17 [.pointer (some ⟨bt, 0, none⟩), .int .i64 i] [] A fun r M J => M = [] ∧ J = [] ∧ ∃ c ok, r = .tuple #[.agg (List.toArray c), .bool ok] ∧ ((0 ≤ i ∧ i < (ts.length : Int)) → ok = true ∧ ∃ t, ts[i.toNat]? = some t ∧ TmC A c t) ∧ (¬ (0 ≤ i ∧ i < (ts.length : Int)) → ok = false ∧ c = tmc 0 (.slice none 0 0) [] 0) := by
  obtain ⟨v, rows, ks, Bl, BX, rfl, hks, hsl, hrl, hr4, hat, hto, hnd⟩ := hT
  have hbt : (bt, blk [v, .map (some bm)] 83) ∈ A := hsub _ (by simp)
  have hrd := hsl.rd (R := A) (fun x hx => hsub x (by simp [hx]))
  have hkl : ks.length = ts.length := by rw [hks, List.length_map]
  refine FnX.enter (N := 29) Tryz.func17 rfl rfl rfl fun w => ?_
  refine XC.keep (kp 0 rfl (kp 1 rfl kn)) ?_
  refine XC.reg ?_
  refine XL.lo rfl (l_alloc (cs := [.int .u8 0, .slice none 0 0, .string ByteArray.empty, .int .i64 0]) (by kernel_rfl) rfl fun b4 => ?_)
  refine XL.q (q_assign rfl) rfl ?_
  refine XL.fin (kp 0 rfl (kp 1 rfl (kp 4 rfl kn))) ?_
  refine XC.seq ?_
  refine XC.reg ?_
  refine XL.q (q_move rfl) rfl ?_
  refine XL.q (q_ptrEqNil (e := 83) rfl rfl (by kernel_rfl)) rfl ?_
  refine XL.q (q_move rfl) rfl ?_
  refine XL.gy rfl rfl (OpQ.opL (q_move rfl) rfl ?_)
  refine XL.gy rfl rfl (OpQ.opL (q_bin rfl rfl rfl) rfl ?_)
  refine XL.q (q_pickF rfl rfl) rfl ?_
  refine XL.q (q_move rfl) rfl ?_
  refine XL.split (t := 12) rfl (fun hb => ?_) (fun hb => ?_)
  ·
    have hlt0 : i < 0 := by simpa using hb
    refine XL.gn rfl rfl rfl rfl ?_
    refine XL.gn rfl rfl rfl rfl ?_
    refine XL.gn rfl rfl rfl rfl ?_
    refine XL.gn rfl rfl rfl rfl ?_
    refine XL.gn rfl rfl rfl rfl ?_
    refine XL.gn rfl rfl rfl rfl ?_
    refine XL.gn rfl rfl rfl rfl ?_
    refine XL.q (q_pickT rfl rfl) rfl ?_
    refine XL.fin (kp 0 rfl (kp 1 rfl (kp 4 rfl (kp 20 rfl kn)))) ?_
    refine XC.condT rfl ?_
    refine XC.reg ?_
    refine XL.q (q_build (place := fun x => #[(0, 1), (1, 1), (2, 1), (3, 1)][x]?) (z := [.int .u8 0, .slice none 0 0, .string ByteArray.empty, .int .i64 0]) (fun _ => by kernel_rfl) e0 bd0) rfl ?_
    refine XL.lo rfl (l_storeW rfl rfl Cel.cel (by kernel_rfl) (lnS (lnS (lnS (lnS (ln0))))) (allS rfl (allS rfl (allS rfl (allS rfl (all0))))) UpC.upd ?_)
    refine XL.q (q_assign rfl) rfl ?_
    refine XL.fin (kp 4 rfl (kp 5 rfl kn)) ?_
    refine XC.ret ?_
    refine tr ?_
    refine ⟨_, [], [], resC1 rfl rfl rfl (by kernel_rfl) At.mem (by rfl), List.nil_sublist _, by simp, rfl, rfl, _, _, rfl, (fun h => absurd h.1 (by omega)), fun _ => ⟨rfl, rfl⟩⟩
  ·
    have hge0 : 0 ≤ i := by simpa using hb
    obtain ⟨n, rfl⟩ := Int.eq_ofNat_of_zero_le hge0
    refine XL.gy rfl rfl (OpQ.opL (q_move rfl) rfl ?_)
    refine XL.gy rfl rfl (OpQ.opL (q_move rfl) rfl ?_)
    refine XL.gy rfl rfl (OpQ.opL (q_nil rfl) rfl ?_)
    refine XL.gy rfl rfl (OpQ.opL (q_fieldAddrN 0 (off := 0) rfl (by kernel_rfl) rfl) rfl ?_)
    refine XL.gy rfl rfl (OpQ.opL (q_load rfl (by kernel_rfl) (mA hbt) (by rfl)) rfl ?_)
    refine XL.gy rfl rfl (OpQ.opL (q_lenV2 (sz := 4) rfl (by kernel_rfl) hrd) rfl ?_)
    refine XL.gy rfl rfl (OpQ.opL (q_bin rfl rfl rfl) rfl ?_)
    refine XL.q (q_pickF rfl rfl) rfl ?_
    refine XL.fin (kp 0 rfl (kp 1 rfl (kp 4 rfl (kp 20 rfl kn)))) ?_
    refine XC.cond rfl (fun hc => ?_) (fun hc => ?_)
    ·
      have hge : ts.length ≤ n := by simp at hc; omega
      refine XC.reg ?_
      refine XL.q (q_build (place := fun x => #[(0, 1), (1, 1), (2, 1), (3, 1)][x]?) (z := [.int .u8 0, .slice none 0 0, .string ByteArray.empty, .int .i64 0]) (fun _ => by kernel_rfl) e0 bd0) rfl ?_
      refine XL.lo rfl (l_storeW rfl rfl Cel.cel (by kernel_rfl) (lnS (lnS (lnS (lnS (ln0))))) (allS rfl (allS rfl (allS rfl (allS rfl (all0))))) UpC.upd ?_)
      refine XL.q (q_assign rfl) rfl ?_
      refine XL.fin (kp 4 rfl (kp 5 rfl kn)) ?_
      refine XC.ret ?_
      refine tr ?_
      refine ⟨_, [], [], resC1 rfl rfl rfl (by kernel_rfl) At.mem (by rfl), List.nil_sublist _, by simp, rfl, rfl, _, _, rfl, (fun h => absurd h.2 (by omega)), fun _ => ⟨rfl, rfl⟩⟩
    ·
      have hlt : n < ts.length := by simp at hc; omega
      obtain ⟨r, hr, hcr⟩ := hat n ts[n] (List.getElem?_eq_getElem hlt)
      obtain ⟨vo, rfl, hvo⟩ := hcr
      refine XC.skip ?_
      refine nx (kp 0 rfl (kp 1 rfl (kp 4 rfl kn))) ?_
      refine XC.reg ?_
      refine XL.q (q_move rfl) rfl ?_
      refine XL.q (q_nil rfl) rfl ?_
      refine XL.q (q_fieldAddrN 0 (off := 0) rfl (by kernel_rfl) rfl) rfl ?_
      refine XL.q (q_load rfl (by kernel_rfl) (mA hbt) (by rfl)) rfl ?_
      refine XL.q (q_move rfl) rfl ?_
      refine XL.q (q_atV2 (sz := 4) rfl rfl (by kernel_rfl) rfl hrd (by omega)) rfl ?_
      refine XL.q (q_ldVR rfl (by kernel_rfl) (hrd.mono fun _ h => mA h) hr4 (by decide) hr) rfl ?_
      refine XL.lo rfl (l_storeW rfl rfl rfl (by kernel_rfl) (by rfl) (by intro c hc; simp only [List.mem_cons, List.not_mem_nil, or_false] at hc; rcases hc with rfl | rfl | rfl | rfl <;> first | rfl | exact Rd.one hvo) UpC.upd ?_)
      refine XL.q (q_assign rfl) rfl ?_
      refine XL.fin (kp 4 rfl (kp 5 rfl kn)) ?_
      refine XC.ret ?_
      refine ⟨_, [], [], resC1 rfl rfl rfl (by kernel_rfl) At.mem (by rfl), List.nil_sublist _, by simp, rfl, rfl, _, _, rfl, (fun _ => ⟨rfl, ts[n], by simp [hlt], vo, rfl, hvo.mono fun x hx => hsub x (by simp [hx])⟩), fun h => absurd ⟨Int.natCast_nonneg n, by omega⟩ h⟩

end Go.Proofs.YthmnlkpikgglbaaGreatDoor
