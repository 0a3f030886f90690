/- The walks of strconv.Atoi (of a number's text), term.Mark, term.Parts (of what was marked), and the examples of pawllaw07. -/
import Derived.Test.YthmnlkpikgglbaaGreatDoorStc2
set_option linter.unusedVariables false
set_option linter.unusedSimpArgs false
namespace Go.Proofs.YthmnlkpikgglbaaGreatDoor
open Go.Px
theorem dv_cons_le (l : List Nat) (r : List Nat) : dv l ≤ dv (l ++ r) := by
  have key : ∀ (r : List Nat) (a : Nat), a ≤ r.foldl (fun a c => a * 10 + (c - 48)) a := by
    intro r
    induction r with
    | nil => intro a; exact Nat.le_refl _
    | cons c r ih => intro a; exact Nat.le_trans (show a ≤ a * 10 + (c - 48) by omega) (ih _)
  unfold dv
  rw [List.foldl_append]
  exact key r _
theorem dv_take_succ {l : List Nat} {i : Nat} (h : i < l.length) : dv (l.take (i + 1)) = dv (l.take i) * 10 + (l.getD i 0 - 48) := by
  rw [List.take_add_one, List.getElem?_eq_getElem h]
  simp only [Option.toList_some, dv_app, List.getD, List.getElem?_eq_getElem h, Option.getD_some]
theorem dv_take_le (l : List Nat) (i : Nat) : dv (l.take i) ≤ dv l := by
  conv => rhs; rw [← List.take_append_drop i l]
  exact dv_cons_le _ _
theorem getD_mem' {l : List Nat} {i : Nat} (h : i < l.length) : l.getD i 0 ∈ l := by
  simp [List.getD, List.getElem?_eq_getElem h]
instance B256.dec {u : Nat} : B256 (dec u) := ⟨fun x h => by have := dec_mem h; omega⟩
instance B256.decI {i : Int} : B256 (decI i) := ⟨fun x h => by have := decI_mem h; omega⟩
theorem nd10_18 {m : Nat} (h : m < 1000000000000000000) : 0 < nd10 m ∧ nd10 m < 19 := by
  refine ⟨ndF_pos 64 m, ?_⟩
  by_cases h10 : 10 ≤ m
  · have h3 : 10 ^ (nd10 m - 1) ≤ m := ndF_ge 64 m h10
    have : 10 ^ (nd10 m - 1) < 10 ^ 18 := Nat.lt_of_le_of_lt h3 h
    have := (Nat.pow_lt_pow_iff_right (by decide : 1 < 10)).1 this
    omega
  · have hd : nd10 m = 1 := by unfold nd10 ndF; rw [if_pos (by omega)]
    omega

set_option maxRecDepth 100000 in
theorem atoi0_spec (m : Nat) (hm : m < 1000000000000000000) (A : Mem) : FnV Tryz.prog 94 [.string (txt (dec m))] A (.tuple #[.int .i64 (m : Int), .nilIface]) := by
  refine FnX.enter (N := 77) Tryz.func94 rfl rfl rfl fun w => ?_
  refine XC.keep (kp 0 rfl kn) ?_
  refine XC.reg ?_
  refine XL.q (q_assign rfl) rfl ?_
  refine XL.q (q_assign rfl) rfl ?_
  refine XL.fin (kp 0 rfl kn) ?_
  refine XC.reg ?_
  refine XL.q (q_move rfl) rfl ?_
  refine XL.q (q_sLen rfl rfl (by kernel_rfl)) rfl ?_
  refine XL.q (q_assign rfl) rfl ?_
  refine XL.fin (kp 0 rfl (kp 4 rfl kn)) ?_
  refine XC.seq ?_
  obtain ⟨hn0, hn18⟩ := nd10_18 hm
  have hdl := dec_len m
  have hb : ∀ i, i < (dec m).length → 48 ≤ (dec m).getD i 0 ∧ (dec m).getD i 0 < 58 := fun i hi => dec_mem (getD_mem' hi)
  have hb0 := hb 0 (by omega)
  refine XC.reg ?_
  refine XL.q (q_move rfl) rfl ?_
  refine XL.gn rfl rfl rfl rfl ?_
  refine XL.gn rfl rfl rfl rfl ?_
  refine XL.gn rfl rfl rfl rfl ?_
  refine XL.gu rfl rfl rfl ?_
  refine XL.gu rfl rfl rfl ?_
  refine XL.gn rfl rfl rfl rfl ?_
  refine XL.q (q_pickF rfl rfl) rfl ?_
  refine XL.q (q_move rfl) rfl ?_
  refine XL.gy rfl rfl (OpQ.opL (q_move rfl) rfl ?_)
  refine XL.gy rfl rfl (OpQ.opL (q_move rfl) rfl ?_)
  refine XL.gy rfl rfl (OpQ.opL (q_cmp true rfl rfl (ltT (by omega))) rfl ?_)
  refine XL.gy rfl rfl (OpQ.opL (q_move rfl) rfl ?_)
  refine XL.gy rfl rfl (OpQ.opL (q_move rfl) rfl ?_)
  refine XL.gy rfl rfl (OpQ.opL (q_cmp true rfl rfl (ltT (by omega))) rfl ?_)
  refine XL.gy rfl rfl (OpQ.opL (q_pickT rfl rfl) rfl ?_)
  refine XL.gy rfl rfl (OpQ.opL (q_pickT rfl rfl) rfl ?_)
  refine XL.q (q_pickF rfl rfl) rfl ?_
  refine XL.fin (kp 0 rfl (kp 30 rfl kn)) ?_
  refine XC.condT rfl ?_
  refine XC.reg ?_
  refine XL.q (q_move rfl) rfl ?_
  refine XL.q (q_assign rfl) rfl ?_
  refine XL.fin (kp 0 rfl (kp 5 rfl kn)) ?_
  refine XC.seq ?_
  refine XC.reg ?_
  refine XL.q (q_move rfl) rfl ?_
  refine XL.q (q_sAt (a := 0) rfl rfl B256.lt rfl (by kernel_rfl) rfl (by omega)) rfl ?_
  refine XL.q (q_cmp false rfl rfl (eqF (by omega))) rfl ?_
  refine XL.q (q_move rfl) rfl ?_
  refine XL.gy rfl rfl (OpQ.opL (q_move rfl) rfl ?_)
  refine XL.gy rfl rfl (OpQ.opL (q_sAt (a := 0) rfl rfl B256.lt rfl (by kernel_rfl) rfl (by omega)) rfl ?_)
  refine XL.gy rfl rfl (OpQ.opL (q_cmp false rfl rfl (eqF (by omega))) rfl ?_)
  refine XL.q (q_pickF rfl rfl) rfl ?_
  refine XL.fin (kp 0 rfl (kp 5 rfl (kp 39 rfl kn))) ?_
  refine XC.condF rfl ?_
  refine XC.skip ?_
  refine nx (kp 0 rfl (kp 5 rfl kn)) ?_
  refine XC.reg ?_
  refine XL.q (q_assign rfl) rfl ?_
  refine XL.fin (kp 0 rfl (kp 5 rfl (kp 6 rfl kn))) ?_
  refine XC.seq ?_
  refine XC.reg ?_
  refine XL.q (q_move rfl) rfl ?_
  refine XL.lo rfl (l_toBytes (e := 5) rfl rfl B256.lt (by kernel_rfl) (by kernel_rfl) (by kernel_rfl) rfl fun v47 B47 hs47 => ?_)
  refine XL.q (q_lenV2 (sz := 1) rfl (by kernel_rfl) (by first | assumption | exact Sl.rd (by assumption) (fun _ h => h) | exact By.rd (by assumption))) rfl ?_
  refine XL.q (q_move rfl) rfl ?_
  refine XL.fin (kp 5 rfl (kp 6 rfl (kp 47 rfl (kp 48 rfl (kp 49 rfl kn))))) ?_
  refine XC.block ?_
  refine XC.loop (α := Nat) (fun i => [(5, .string (txt (dec m))), (6, .int .i64 ((dv ((dec m).take i) : Nat) : Int)), (47, v47), (48, .int .i64 (((dec m).length : Nat) : Int)), (49, .int .i64 (i : Int))]) (fun _ => B47) (fun _ => []) (fun i => i ≤ (dec m).length) (fun i => (dec m).length - i) 0 (Nat.zero_le _) (kp 5 rfl (kp 6 rfl (kp 47 rfl (kp 48 rfl (kp 49 rfl kn))))) (Fit.eq (by simp)) (fun _ h => h) ?_
  rintro i hi
  have hle := dv_take_le (dec m) i
  rw [dv_dec (by omega)] at hle
  refine XC.reg ?_
  refine XL.q (q_bin rfl rfl rfl) rfl ?_
  refine XL.fin (kp 5 rfl (kp 6 rfl (kp 47 rfl (kp 48 rfl (kp 49 rfl (kp 50 rfl kn)))))) ?_
  refine XC.seq ?_
  refine XC.cond rfl (fun hc => ?_) (fun hc => ?_)
  ·
    have hlt : i < (dec m).length := by simp at hc; omega
    have hbi := hb i hlt
    have hds := dv_take_succ hlt
    have hle2 := dv_take_le (dec m) (i + 1)
    rw [dv_dec (by omega), hds] at hle2
    refine XC.skip ?_
    refine nx (kp 5 rfl (kp 6 rfl (kp 47 rfl (kp 48 rfl (kp 49 rfl kn))))) ?_
    refine XC.seq ?_
    refine XC.block ?_
    refine XC.reg ?_
    refine XL.q (q_atV2 (sz := 1) rfl rfl (by kernel_rfl) rfl (by first | assumption | exact Sl.rd (by assumption) (fun _ h => h) | exact By.rd (by assumption)) (by omega)) rfl ?_
    refine XL.q (q_ldVN2 (k := .u8) rfl (by kernel_rfl) (by first | exact Rd.mono (by assumption) SubC.sub | exact Sl.rd (by assumption) SubC.sub | exact Rd.mono (By.rd (by assumption)) SubC.sub) (by omega)) rfl ?_
    refine XL.q (q_assign rfl) rfl ?_
    refine XL.fin (kp 5 rfl (kp 6 rfl (kp 8 rfl (kp 47 rfl (kp 48 rfl (kp 49 rfl kn)))))) ?_
    refine XC.reg ?_
    refine XL.q (q_move rfl) rfl ?_
    refine XL.q (q_subM 256 (b := 48) rfl rfl rfl rfl rfl rfl (by omega)) rfl ?_
    rw [show ((dec m).getD i 0 + (256 - 48)) % 256 = (dec m).getD i 0 - 48 by omega]
    refine XL.q (q_assign rfl) rfl ?_
    refine XL.fin (kp 5 rfl (kp 6 rfl (kp 8 rfl (kp 47 rfl (kp 48 rfl (kp 49 rfl kn)))))) ?_
    refine XC.seq ?_
    refine XC.reg ?_
    refine XL.q (q_move rfl) rfl ?_
    refine XL.q (q_cmp false rfl rfl (gtF (by omega))) rfl ?_
    refine XL.fin (kp 5 rfl (kp 6 rfl (kp 8 rfl (kp 47 rfl (kp 48 rfl (kp 49 rfl (kp 56 rfl kn))))))) ?_
    refine XC.condF rfl ?_
    refine XC.skip ?_
    refine nx (kp 5 rfl (kp 6 rfl (kp 8 rfl (kp 47 rfl (kp 48 rfl (kp 49 rfl kn)))))) ?_
    refine XC.reg1 ?_
    refine XL.q (q_move rfl) rfl ?_
    refine XL.q (q_mulI (b := 10) rfl rfl rfl rfl (by omega)) rfl ?_
    refine XL.q (q_move rfl) rfl ?_
    refine XL.q (q_same (k' := .i64) rfl (by kernel_rfl) (by show _ < 9223372036854775808; omega)) rfl ?_
    refine XL.q (q_addI rfl rfl rfl rfl (by omega)) rfl ?_
    refine XL.q (q_assign rfl) rfl ?_
    refine XL.nil ?_
    refine nb ?_
    refine nx (kp 5 rfl (kp 6 rfl (kp 47 rfl (kp 48 rfl (kp 49 rfl kn))))) ?_
    refine XC.reg1 ?_
    refine XL.q (q_addI (b := 1) rfl rfl rfl rfl (by omega)) rfl ?_
    refine XL.q (q_move rfl) rfl ?_
    refine XL.nil ?_
    exact rn (i + 1) (by omega) (by omega) (kp 5 rfl (kp 6 (by rw [hds]; rfl) (kp 47 rfl (kp 48 rfl (kp 49 rfl kn))))) (Fit.eq (by simp)) (fun _ h => h)
  ·
    have hge : i = (dec m).length := by simp at hc; omega
    subst hge
    rw [List.take_length, dv_dec (by omega)]
    refine XC.exit ?_
    refine te ?_
    refine re ?_
    refine be rfl ?_
    refine nx (kp 5 rfl (kp 6 rfl kn)) ?_
    refine XC.seq ?_
    refine XC.reg ?_
    refine XL.q (q_move rfl) rfl ?_
    refine XL.q (q_sAt (a := 0) rfl rfl B256.lt rfl (by kernel_rfl) rfl (by omega)) rfl ?_
    refine XL.q (q_cmp false rfl rfl (eqF (by omega))) rfl ?_
    refine XL.fin (kp 6 rfl (kp 66 rfl kn)) ?_
    refine XC.condF rfl ?_
    refine XC.skip ?_
    refine nx (kp 6 rfl kn) ?_
    refine XC.reg ?_
    refine XL.q (q_move rfl) rfl ?_
    refine XL.q (q_assign rfl) rfl ?_
    refine XL.q (q_assign rfl) rfl ?_
    refine XL.fin (kp 2 rfl (kp 3 rfl kn)) ?_
    refine XC.ret ?_
    refine tr ?_
    exact ⟨_, [], [], res2 rfl rfl rfl, List.nil_sublist _, by simp, rfl, rfl, rfl⟩

set_option maxRecDepth 100000 in
theorem atoi_spec (m : Nat) (hm : m < 1000000000000000000) (A : Mem) : FnV Tryz.prog 62 [.string (txt (dec m))] A (.tuple #[.int .i64 (m : Int), .nilIface]) := by
  refine FnX.enter (N := 18) Tryz.func62 rfl rfl rfl fun w => ?_
  refine XC.keep (kp 0 rfl kn) ?_
  refine XC.reg ?_
  refine XL.q (q_assign rfl) rfl ?_
  refine XL.q (q_assign rfl) rfl ?_
  refine XL.fin (kp 0 rfl kn) ?_
  refine XC.reg ?_
  refine XL.q (q_move rfl) rfl ?_
  refine XL.callV (aS rfl a0) (by kernel_rfl) (atoi0_spec m hm _) rfl ?_
  refine XL.q (q_move rfl) rfl ?_
  refine XL.q (q_x0 rfl) rfl ?_
  refine XL.q (q_x1 rfl) rfl ?_
  refine XL.q (q_assign rfl) rfl ?_
  refine XL.q (q_assign rfl) rfl ?_
  refine XL.fin (kp 0 rfl (kp 4 rfl (kp 5 rfl kn))) ?_
  refine XC.seq ?_
  refine XC.reg ?_
  refine XL.q (q_move rfl) rfl ?_
  refine XL.q (q_ifNe0 rfl (by kernel_rfl)) rfl ?_
  refine XL.fin (kp 0 rfl (kp 4 rfl (kp 5 rfl (kp 12 rfl kn)))) ?_
  refine XC.condF rfl ?_
  refine XC.skip ?_
  refine nx (kp 4 rfl kn) ?_
  refine XC.reg ?_
  refine XL.q (q_move rfl) rfl ?_
  refine XL.q (q_assign rfl) rfl ?_
  refine XL.q (q_assign rfl) rfl ?_
  refine XL.fin (kp 2 rfl (kp 3 rfl kn)) ?_
  refine XC.ret ?_
  exact ⟨_, [], [], res2 rfl rfl rfl, List.nil_sublist _, by simp, rfl, rfl, rfl⟩

/-! ### What is marked -/
def mark (p : List Nat) : List Nat := dec p.length ++ 58 :: p
def marks (l : List (List Nat)) : List Nat := l.flatMap mark
theorem mark_len (p : List Nat) (h : p.length < 18446744073709551616) : (mark p).length ≤ p.length + 21 := by
  have := nd10_le h
  simp [mark, dec_len]; omega
instance B256.mark {p : List Nat} [h : B256 p] : B256 (mark p) := by unfold Go.Proofs.YthmnlkpikgglbaaGreatDoor.mark; exact @B256.app _ _ _ (B256.cons (by decide) h)

set_option maxRecDepth 100000 in
theorem mark_spec (v : Value) (p : List Nat) (A : Mem) (hp : Rd A 1 v p.length (nums .u8 p)) [hb : B256 p] (hl : p.length ≤ 1099511627776) {e4 : TypeId} {f4 : Nat × Nat} (h4 : (4, Obj.cells (nums .u64 pow10T).toArray e4 f4) ∈ A) : FnV Tryz.prog 49 [v] A (.string (txt (mark p))) := by
  have hdl := dec_len p.length
  have hd20 := nd10_le (u := p.length) (by omega)
  refine FnX.enter (N := 10) Tryz.func49 rfl rfl rfl fun w => ?_
  refine XC.keep (kp 0 rfl kn) ?_
  refine XC.reg ?_
  refine XL.q (q_assign rfl) rfl ?_
  refine XL.fin (kp 0 rfl kn) ?_
  refine XC.drawF [0, 1, 2, 3, 4, 5, 6, 7] [(0, 0), (1, 0), (4, 0), (5, 1), (2, 2), (3, 0), (6, 0), (7, 0)] (by kernel_rfl) (by kernel_rfl) fun hs => ?_
  refine XF.q hs rfl (q_move rfl) rfl ?_
  refine XF.q hs rfl (q_lenV2 (sz := 1) rfl (by kernel_rfl) hp) rfl ?_
  refine XF.q hs rfl (q_move rfl) rfl ?_
  refine XF.r hs rfl (q_toStr2 rfl (by kernel_rfl) (by first | exact Rd.mono (by assumption) SubC.sub | exact Sl.rd (by assumption) SubC.sub | exact Rd.mono (By.rd (by assumption)) SubC.sub)) rfl ?_
  refine XF.callV rfl (aS rfl a0) (by kernel_rfl) (itoa_spec (p.length : Int) (by omega) (by omega) _ (mA h4)) rfl ?_
  rw [show decI ((p.length : Nat) : Int) = dec p.length by simp [decI]]
  refine XF.q hs rfl (q_sAdd (ws' := [58]) rfl rfl rfl (by kernel_rfl) (by first | omega | (simp only [List.length_append, List.length_cons, List.length_nil, List.length_take, List.length_drop]; omega))) rfl ?_
  refine XF.q hs rfl (q_sAdd rfl rfl rfl rfl (by first | omega | (simp only [List.length_append, List.length_cons, List.length_nil, List.length_take, List.length_drop]; omega))) rfl ?_
  refine XF.q hs rfl (q_assign rfl) rfl ?_
  refine XF.fin (kp 2 rfl kn) ?_
  refine XC.ret ?_
  exact ⟨_, [], [], res1 rfl rfl, List.nil_sublist _, by simp, by simp [mark], rfl, rfl⟩

theorem marks_cons (p : List Nat) (l : List (List Nat)) : marks (p :: l) = dec p.length ++ 58 :: (p ++ marks l) := by simp [marks, mark]
/-- What stands in a text that begins with something marked. -/
theorem mark_facts {p R s : List Nat} (h : s = dec p.length ++ 58 :: (p ++ R)) : s.length = (dec p.length).length + 1 + p.length + R.length ∧ s.getD (dec p.length).length 0 = 58 ∧ (∀ k, k < (dec p.length).length → s.getD k 0 ≠ 58) ∧ s.take (dec p.length).length = dec p.length ∧ (s.take ((dec p.length).length + 1 + p.length)).drop ((dec p.length).length + 1) = p ∧ s.drop ((dec p.length).length + 1 + p.length) = R := by
  have e : s = (dec p.length ++ [58] ++ p) ++ R := by rw [h]; simp
  have e2 : (dec p.length ++ [58] ++ p).length = (dec p.length).length + 1 + p.length := by simp; omega
  refine ⟨?_, ?_, ?_, ?_, ?_, ?_⟩
  · rw [e]; simp; omega
  · rw [h]; simp [List.getD]
  · intro k hk
    have : s.getD k 0 = (dec p.length).getD k 0 := by rw [h]; simp only [List.getD]; rw [List.getElem?_append_left hk]
    rw [this]
    have := dec_mem (getD_mem' hk); omega
  · rw [h]; simp
  · rw [e, ← e2, List.take_left, show (dec p.length).length + 1 = (dec p.length ++ [58]).length by simp, List.drop_left]
  · rw [e, ← e2, List.drop_left]
def strs (l : List (List Nat)) : List Value := l.map fun p => .string (txt p)
theorem strs_len (l : List (List Nat)) : (strs l).length = l.length := by simp [strs]

set_option maxRecDepth 100000 in
theorem parts_spec (l : List (List Nat)) (hb : B256 (marks l)) (hl : (marks l).length ≤ 1099511627776) (A : Mem) {e4 : TypeId} {f4 : Nat × Nat} (h4 : (4, Obj.cells (nums .u64 pow10T).toArray e4 f4) ∈ A) : FnX Tryz.prog 39 [.string (txt (marks l))] [] A fun r M J => J = [] ∧ ∃ v, r = .tuple #[v, .int .i64 0] ∧ Sl 1 v l.length (strs l) M := by
  refine FnX.enter (N := 77) Tryz.func39 rfl rfl rfl fun w => ?_
  refine XC.keep (kp 0 rfl kn) ?_
  refine XC.reg ?_
  refine XL.q (q_assign rfl) rfl ?_
  refine XL.q (q_assign rfl) rfl ?_
  refine XL.fin (kp 0 rfl kn) ?_
  refine XC.reg ?_
  refine XL.q (q_assign rfl) rfl ?_
  refine XL.fin (kp 0 rfl (kp 4 rfl kn)) ?_
  refine XC.seq ?_
  refine XC.block ?_
  refine XC.loop (α := Nat × Value × Mem) (fun x => [(0, .string (txt (marks (l.drop x.1)))), (4, x.2.1)]) (fun x => x.2.2) (fun _ => []) (fun x => x.1 ≤ l.length ∧ Sl 1 x.2.1 x.1 (strs (l.take x.1)) x.2.2 ∧ B256 (marks (l.drop x.1)) ∧ (marks (l.drop x.1)).length + x.1 ≤ 1099511627776) (fun x => l.length - x.1) (0, .slice none 0 0, []) ⟨Nat.zero_le _, Sl.nil, hb, hl⟩ (kp 0 rfl (kp 4 rfl kn)) .rfl (fun _ h => h) ?_
  rintro ⟨j, v, B⟩ ⟨hj, hsl, hbs, hml⟩
  dsimp only at hj hsl hbs hml ⊢
  refine XC.seq ?_
  refine XC.reg ?_
  refine XL.q (q_move rfl) rfl ?_
  refine XL.q (q_sLen rfl rfl (by kernel_rfl)) rfl ?_
  refine XL.q (q_bin rfl rfl rfl) rfl ?_
  refine XL.fin (kp 0 rfl (kp 4 rfl (kp 10 rfl kn))) ?_
  refine XC.cond rfl (fun hc => ?_) (fun hc => ?_)
  ·
    have hlt : j < l.length := by
      rcases Nat.lt_or_ge j l.length with h | h
      · exact h
      · rw [List.drop_eq_nil_of_le h] at hc; simp [marks] at hc
    obtain ⟨p, hp⟩ : ∃ p, p = l[j] := ⟨_, rfl⟩
    have hdr : l.drop j = p :: l.drop (j + 1) := by rw [hp]; exact List.drop_eq_getElem_cons hlt
    obtain ⟨f1, f2, f3, f4, f5, f6⟩ := mark_facts (marks_cons p (l.drop (j + 1)))
    rw [← hdr] at f1 f2 f3 f4 f5 f6
    have hbR : B256 (marks (l.drop (j + 1))) := by rw [← f6]; exact B256.drop
    have htk : strs (l.take (j + 1)) = strs (l.take j) ++ [.string (txt p)] := by simp only [strs]; rw [List.take_add_one, List.getElem?_eq_getElem hlt, hp, List.map_append]; rfl
    generalize marks (l.drop j) = s at *
    refine XC.skip ?_
    refine nx (kp 0 rfl (kp 4 rfl kn)) ?_
    refine XC.block ?_
    refine XC.reg ?_
    refine XL.q (q_assign rfl) rfl ?_
    refine XL.fin (kp 0 rfl (kp 4 rfl (kp 5 rfl kn))) ?_
    refine XC.seq ?_
    refine XC.block ?_
    refine XC.loop (α := Nat) (fun k => [(0, .string (txt s)), (4, v), (5, .int .i64 (k : Int))]) (fun _ => B) (fun _ => []) (fun k => k ≤ (dec p.length).length) (fun k => (dec p.length).length - k) 0 (Nat.zero_le _) (kp 0 rfl (kp 4 rfl (kp 5 rfl kn))) .rfl (fun _ h => h) ?_
    rintro k hk
    refine XC.seq ?_
    by_cases hkl : k < (dec p.length).length
    ·
      refine XC.reg ?_
      refine XL.q (q_move rfl) rfl ?_
      refine XL.q (q_move rfl) rfl ?_
      refine XL.q (q_sLen rfl rfl (by kernel_rfl)) rfl ?_
      refine XL.q (q_cmp true rfl rfl (ltT (by omega))) rfl ?_
      refine XL.q (q_move rfl) rfl ?_
      refine XL.gy rfl rfl (OpQ.opL (q_move rfl) rfl ?_)
      refine XL.gy rfl rfl (OpQ.opL (q_move rfl) rfl ?_)
      refine XL.gy rfl rfl (OpQ.opL (q_sAt rfl rfl B256.lt rfl (by kernel_rfl) rfl (by omega)) rfl ?_)
      refine XL.gy rfl rfl (OpQ.opL (q_cmp true rfl rfl (neT (by have := f3 k hkl; omega))) rfl ?_)
      refine XL.q (q_pickT rfl rfl) rfl ?_
      refine XL.fin (kp 0 rfl (kp 4 rfl (kp 5 rfl (kp 20 rfl kn)))) ?_
      refine XC.condT rfl ?_
      refine XC.skip ?_
      refine nx (kp 0 rfl (kp 4 rfl (kp 5 rfl kn))) ?_
      refine XC.block ?_
      refine XC.reg1 ?_
      refine XL.q (q_move rfl) rfl ?_
      refine XL.q (q_addI (b := 1) rfl rfl rfl rfl (by omega)) rfl ?_
      refine XL.q (q_assign rfl) rfl ?_
      refine XL.nil ?_
      refine nb ?_
      exact rn (k + 1) (by omega) (by omega) (kp 0 rfl (kp 4 rfl (kp 5 rfl kn))) .rfl (fun _ h => h)
    ·
      obtain rfl : k = (dec p.length).length := by omega
      refine XC.reg ?_
      refine XL.q (q_move rfl) rfl ?_
      refine XL.q (q_move rfl) rfl ?_
      refine XL.q (q_sLen rfl rfl (by kernel_rfl)) rfl ?_
      refine XL.q (q_cmp true rfl rfl (ltT (by omega))) rfl ?_
      refine XL.q (q_move rfl) rfl ?_
      refine XL.gy rfl rfl (OpQ.opL (q_move rfl) rfl ?_)
      refine XL.gy rfl rfl (OpQ.opL (q_move rfl) rfl ?_)
      refine XL.gy rfl rfl (OpQ.opL (q_sAt rfl rfl B256.lt rfl (by kernel_rfl) rfl (by omega)) rfl ?_)
      refine XL.gy rfl rfl (OpQ.opL (q_cmp false rfl rfl (neF (by rw [f2]; rfl))) rfl ?_)
      refine XL.q (q_pickT rfl rfl) rfl ?_
      refine XL.fin (kp 0 rfl (kp 4 rfl (kp 5 rfl (kp 20 rfl kn)))) ?_
      refine XC.condF rfl ?_
      refine XC.exit ?_
      refine te ?_
      refine re ?_
      refine be rfl ?_
      refine nx (kp 0 rfl (kp 4 rfl (kp 5 rfl kn))) ?_
      refine XC.reg ?_
      refine XL.q (q_move rfl) rfl ?_
      refine XL.q (q_move rfl) rfl ?_
      refine XL.q (q_sHi rfl rfl rfl (by kernel_rfl) rfl (by first | omega | (simp only [List.length_append, List.length_cons, List.length_nil, List.length_take, List.length_drop]; omega))) rfl ?_
      rw [f4]
      refine XL.callV (aS rfl a0) (by kernel_rfl) (atoi_spec p.length (by omega) _) rfl ?_
      refine XL.q (q_move rfl) rfl ?_
      refine XL.q (q_x0 rfl) rfl ?_
      refine XL.q (q_x1 rfl) rfl ?_
      refine XL.q (q_assign rfl) rfl ?_
      refine XL.q (q_assign rfl) rfl ?_
      refine XL.fin (kp 0 rfl (kp 4 rfl (kp 5 rfl (kp 6 rfl (kp 7 rfl kn))))) ?_
      refine XC.seq ?_
      refine XC.drawF [0, 1, 2, 3, 4, 5, 6, 7, 8, 9, 10, 11, 12, 13, 14, 15, 16, 17, 18, 19, 20, 21, 22, 23, 24, 25, 26, 27, 28] [(0, 0), (1, 0), (2, 0), (3, 0), (5, 0), (6, 0), (7, 0), (4, 2), (8, 0), (9, 0), (10, 0), (11, 0), (12, 0), (13, 0), (14, 0), (15, 0), (16, 0), (17, 0), (18, 0), (19, 0), (20, 0), (21, 0), (22, 0), (23, 0), (24, 0), (25, 0), (26, 0), (27, 0), (28, 0)] (by kernel_rfl) (by kernel_rfl) fun hs => ?_
      refine XF.q hs rfl (q_move rfl) rfl ?_
      refine XF.q hs rfl (q_ifNe0 rfl (by kernel_rfl)) rfl ?_
      refine XF.q hs rfl (q_move rfl) rfl ?_
      refine XF.qg hs rfl rfl rfl rfl (q_move rfl) rfl ?_
      refine XF.qg hs rfl rfl rfl rfl (q_move rfl) rfl ?_
      refine XF.qg hs rfl rfl rfl rfl (q_move rfl) rfl ?_
      refine XF.qg hs rfl rfl rfl rfl (q_sHi rfl rfl rfl (by kernel_rfl) rfl (by first | omega | (simp only [List.length_append, List.length_cons, List.length_nil, List.length_take, List.length_drop]; omega))) rfl ?_
      rw [f4]
      refine XF.callVg rfl rfl rfl rfl (aS rfl a0) (by kernel_rfl) (itoa_spec (p.length : Int) (by omega) (by omega) _ (mA h4)) rfl ?_
      rw [show decI ((p.length : Nat) : Int) = dec p.length by simp [decI]]
      refine XF.qg hs rfl rfl rfl rfl ((show (!decide (dec p.length = dec p.length)) = false by simp) ▸ q_sNe rfl rfl rfl rfl B256.lt B256.lt) rfl ?_
      refine XF.q hs rfl (q_pickF rfl rfl) rfl ?_
      refine XF.q hs rfl (q_move rfl) rfl ?_
      refine XF.qg hs rfl rfl rfl rfl (q_move rfl) rfl ?_
      refine XF.qg hs rfl rfl rfl rfl (q_cmp false rfl rfl (ltF (by omega))) rfl ?_
      refine XF.q hs rfl (q_pickF rfl rfl) rfl ?_
      refine XF.q hs rfl (q_move rfl) rfl ?_
      refine XF.qg hs rfl rfl rfl rfl (q_move rfl) rfl ?_
      refine XF.qg hs rfl rfl rfl rfl (q_move rfl) rfl ?_
      refine XF.qg hs rfl rfl rfl rfl (q_sLen rfl rfl (by kernel_rfl)) rfl ?_
      refine XF.qg hs rfl rfl rfl rfl (q_cmp false rfl rfl (eqF (by omega))) rfl ?_
      refine XF.q hs rfl (q_pickF rfl rfl) rfl ?_
      refine XF.q hs rfl (q_move rfl) rfl ?_
      refine XF.qg hs rfl rfl rfl rfl (q_move rfl) rfl ?_
      refine XF.qg hs rfl rfl rfl rfl (q_move rfl) rfl ?_
      refine XF.qg hs rfl rfl rfl rfl (q_sLen rfl rfl (by kernel_rfl)) rfl ?_
      refine XF.qg hs rfl rfl rfl rfl (q_move rfl) rfl ?_
      refine XF.qg hs rfl rfl rfl rfl (q_subI rfl rfl rfl rfl (by omega) (by omega)) rfl ?_
      refine XF.qg hs rfl rfl rfl rfl (q_subI (b := 1) rfl rfl rfl rfl (by omega) (by omega)) rfl ?_
      refine XF.qg hs rfl rfl rfl rfl (q_cmp false rfl rfl (gtF (by omega))) rfl ?_
      refine XF.q hs rfl (q_pickF rfl rfl) rfl ?_
      refine XF.fin (kp 0 rfl (kp 4 rfl (kp 5 rfl (kp 6 rfl (kp 58 rfl kn))))) ?_
      refine XC.condF rfl ?_
      refine XC.skip ?_
      refine nx (kp 0 rfl (kp 4 rfl (kp 5 rfl (kp 6 rfl kn)))) ?_
      refine XC.drawF1 [0, 1, 2, 3, 4, 5, 6, 7, 8, 9, 11, 12, 13, 14, 15, 16, 17, 18] [(0, 0), (1, 0), (2, 0), (3, 0), (4, 0), (5, 0), (6, 0), (7, 0), (8, 0), (11, 0), (12, 0), (13, 0), (14, 0), (15, 0), (16, 0), (9, 2), (10, 2), (17, 0), (18, 0)] (by kernel_rfl) (by kernel_rfl) fun hs => ?_
      refine XF.q hs rfl (q_move rfl) rfl ?_
      refine XF.q hs rfl (q_move rfl) rfl ?_
      refine XF.q hs rfl (q_move rfl) rfl ?_
      refine XF.q hs rfl (q_addI (b := 1) rfl rfl rfl rfl (by omega)) rfl ?_
      refine XF.q hs rfl (q_move rfl) rfl ?_
      refine XF.q hs rfl (q_addI (b := 1) rfl rfl rfl rfl (by omega)) rfl ?_
      refine XF.q hs rfl (q_move rfl) rfl ?_
      refine XF.q hs rfl (q_addI rfl rfl rfl rfl (by omega)) rfl ?_
      refine XF.q hs rfl (q_sLH rfl rfl rfl rfl (by kernel_rfl) rfl rfl (by omega) (by first | omega | (simp only [List.length_append, List.length_cons, List.length_nil, List.length_take, List.length_drop]; omega))) rfl ?_
      rw [f5]
      refine XF.q hs rfl (q_move rfl) rfl ?_
      refine XF.q hs rfl (q_move rfl) rfl ?_
      refine XF.q hs rfl (q_addI (b := 1) rfl rfl rfl rfl (by omega)) rfl ?_
      refine XF.q hs rfl (q_move rfl) rfl ?_
      refine XF.q hs rfl (q_addI rfl rfl rfl rfl (by omega)) rfl ?_
      refine XF.q hs rfl (q_sLo rfl rfl rfl (by kernel_rfl) rfl (by first | omega | (simp only [List.length_append, List.length_cons, List.length_nil, List.length_take, List.length_drop]; omega))) rfl ?_
      rw [f6]
      refine XF.lo rfl rfl fun _ => (l_buildSlice (e := 9) (sz := 1) (z := [.string ByteArray.empty]) (by kernel_rfl) (eS rfl e0) (bdS 0 1 rfl (by rfl) bd0) rfl fun b68 => ?_)
      refine XF.tl rfl rfl rfl (l_append2 (e := 9) (sz := 1) (by_ := 16) rfl rfl (by kernel_rfl) rfl (by first | assumption | exact Sl.nil) (Rd.whole (n := 1) At.mem (by rfl)) (by first | (simp [Value.oneCell']; done) | (intro c hc; simp only [List.mem_singleton] at hc; subst hc; first | exact Rd.one (by assumption) | exact Sl.one (by assumption))) PickC.perm (by unfold maxLen; omega) (by omega) rfl fun v69 B69 hs69 => ?_)
      refine XF.q hs rfl (q_assign rfl) rfl ?_
      refine XF.q hs rfl (q_assign rfl) rfl ?_
      refine XF.nil ?_
      refine nb ?_
      exact rn (j + 1, v69, B69) ⟨by dsimp only; omega, by dsimp only; rw [htk]; exact hs69, hbR, by dsimp only; omega⟩ (by dsimp only; omega) (kp 0 rfl (kp 4 rfl kn)) (Fit.sub (List.sublist_append_left _ _)) (fun _ h => h)
  ·
    have hge : j = l.length := by
      rcases Nat.lt_or_ge j l.length with h | h
      · rw [List.drop_eq_getElem_cons h, marks_cons] at hc; simp at hc; omega
      · omega
    subst hge
    rw [List.take_length] at hsl
    refine XC.exit ?_
    refine te ?_
    refine re ?_
    refine be rfl ?_
    refine nx (kp 4 rfl kn) ?_
    refine XC.reg ?_
    refine XL.q (q_move rfl) rfl ?_
    refine XL.q (q_assign rfl) rfl ?_
    refine XL.q (q_assign rfl) rfl ?_
    refine XL.fin (kp 2 rfl (kp 3 rfl kn)) ?_
    refine XC.ret ?_
    exact ⟨_, B, [], res2 rfl rfl rfl, List.Sublist.refl _, by simp, rfl, v, rfl, hsl⟩
