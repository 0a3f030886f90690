/- The walks of closure's Can, Traffic. -/
import Derived.Test.YthmnlkpikgglbaaGreatDoorCls5
import Derived.Test.YthmnlkpikgglbaaGreatDoorStIn
set_option linter.unusedVariables false
set_option linter.unusedSimpArgs false
namespace Go.Proofs.YthmnlkpikgglbaaGreatDoor
open Go.Px
/-- What Has answers of some bytes, wherever it is called. -/
def Hs (A : Mem) (kp v : Value) (r : Bool) : Prop := ∀ A', (∀ x, x ∈ A → x ∈ A') → FnV Tryz.prog 18 [kp, v] A' (.bool r)
theorem Hs.mono {A A' : Mem} {kp v : Value} {r : Bool} (h : Hs A kp v r) (hs : ∀ x, x ∈ A → x ∈ A') : Hs A' kp v r := fun B hB => h B fun x hx => hB x (hs x hx)

set_option maxRecDepth 100000 in
theorem index_b (v : Value) (vs : List Value) (f : FuncId) (cs : List Value) (p : Nat → Bool) (A : Mem) (hv : Rd A 1 v vs.length vs) (hn : vs.length ≤ 1099511627776) (hc_ : callable Tryz.prog f = true) (hf : ∀ (j : Nat) (u : Value), vs[j]? = some u → FnV Tryz.prog f (u :: cs) A (.bool (p j)) ∧ Cel u [u]) : FnV Tryz.prog 61 [v, .func (.func f) #[] cs.toArray] A (.int .i64 (fidx p vs.length)) := by
  haveI := hv.cel
  refine FnX.enter (N := 19) Tryz.func61 rfl rfl rfl fun w => ?_
  refine XC.keep (kp 0 rfl (kp 1 rfl kn)) ?_
  refine XC.reg ?_
  refine XL.q (q_assign rfl) rfl ?_
  refine XL.fin (kp 0 rfl (kp 1 rfl kn)) ?_
  refine XC.seq ?_
  refine XC.reg ?_
  refine XL.q (q_move rfl) rfl ?_
  refine XL.q (q_lenV2 (sz := 1) rfl (by kernel_rfl) hv) rfl ?_
  refine XL.q (q_move rfl) rfl ?_
  refine XL.fin (kp 0 rfl (kp 1 rfl (kp 7 rfl (kp 8 rfl kn)))) ?_
  refine XC.block ?_
  refine XC.loop (α := Nat) (fun i => [(0, v), (1, .func (.func f) #[] cs.toArray), (7, .int .i64 ((vs.length : Nat) : Int)), (8, .int .i64 (i : Int))]) (fun _ => []) (fun _ => []) (fun i => i ≤ vs.length ∧ ∀ j, j < i → p j = false) (fun i => vs.length - i) 0 ⟨Nat.zero_le _, fun j h => absurd h (Nat.not_lt_zero j)⟩ (kp 0 rfl (kp 1 rfl (kp 7 rfl (kp 8 rfl kn)))) .rfl (fun _ h => h) ?_
  rintro i ⟨hi, hp⟩
  refine XC.reg ?_
  refine XL.q (q_bin rfl rfl rfl) rfl ?_
  refine XL.fin (kp 0 rfl (kp 1 rfl (kp 7 rfl (kp 8 rfl (kp 9 rfl kn))))) ?_
  refine XC.seq ?_
  refine XC.cond rfl (fun hc => ?_) (fun hc => ?_)
  ·
    have hlt : i < vs.length := by simp at hc; omega
    obtain ⟨u, hu⟩ : ∃ u, vs[i]? = some u := ⟨_, List.getElem?_eq_getElem hlt⟩
    obtain ⟨hf1, hf2⟩ := hf i u hu
    haveI := hf2
    refine XC.skip ?_
    refine nx (kp 0 rfl (kp 1 rfl (kp 7 rfl (kp 8 rfl kn)))) ?_
    refine XC.seq ?_
    refine XC.block ?_
    refine XC.reg ?_
    refine XL.q (q_move rfl) rfl ?_
    refine XL.q (q_assign rfl) rfl ?_
    refine XL.fin (kp 0 rfl (kp 1 rfl (kp 5 rfl (kp 7 rfl (kp 8 rfl kn))))) ?_
    refine XC.reg ?_
    refine XL.q (q_move rfl) rfl ?_
    refine XL.q (q_move rfl) rfl ?_
    refine XL.q (q_move rfl) rfl ?_
    refine XL.q (q_atV2 (sz := 1) rfl rfl (by kernel_rfl) rfl hv hlt) rfl ?_
    refine XL.q (q_ldV (j := i) (u := u) (hv.mono SubC.sub) rfl (by kernel_rfl) hu) rfl ?_
    refine XL.lo rfl (l_callFV rfl (aS rfl a0) hc_ hf1 rfl ?_)
    refine XL.fin (kp 0 rfl (kp 1 rfl (kp 5 rfl (kp 7 rfl (kp 8 rfl (kp 16 rfl kn)))))) ?_
    refine XC.cond rfl (fun hc => ?_) (fun hc => ?_)
    ·
      refine XC.reg ?_
      refine XL.q (q_move rfl) rfl ?_
      refine XL.q (q_assign rfl) rfl ?_
      refine XL.fin (kp 4 rfl kn) ?_
      refine XC.ret ?_
      refine br ?_
      refine tr ?_
      refine rr ?_
      refine br ?_
      refine tr ?_
      exact ⟨_, [], [], res1 rfl rfl, List.nil_sublist _, by simp, by rw [fidx_some hlt hp hc], rfl, rfl⟩
    ·
      refine XC.skip ?_
      refine nb ?_
      refine nx (kp 0 rfl (kp 1 rfl (kp 7 rfl (kp 8 rfl kn)))) ?_
      refine XC.reg1 ?_
      refine XL.q (q_addI (b := 1) rfl rfl rfl rfl (by omega)) rfl ?_
      refine XL.q (q_move rfl) rfl ?_
      refine XL.nil ?_
      exact rn (i + 1) ⟨hlt, fun j hj => by rcases Nat.lt_succ_iff_lt_or_eq.1 hj with h | h; exact hp j h; rw [h]; exact hc⟩ (by omega) (kp 0 rfl (kp 1 rfl (kp 7 rfl (kp 8 rfl kn)))) .rfl (fun _ h => h)
  ·
    have hge : i = vs.length := by simp at hc; omega
    subst hge
    refine XC.exit ?_
    refine te ?_
    refine re ?_
    refine be rfl ?_
    refine nx kn ?_
    refine XC.reg ?_
    refine XL.q (q_assign rfl) rfl ?_
    refine XL.fin (kp 4 rfl kn) ?_
    refine XC.ret ?_
    exact ⟨_, [], [], res1 rfl rfl, List.nil_sublist _, by simp, by rw [fidx_none hp], rfl, rfl⟩

set_option maxRecDepth 100000 in
theorem contains_b (v : Value) (vs : List Value) (f : FuncId) (cs : List Value) (p : Nat → Bool) (A : Mem) (hv : Rd A 1 v vs.length vs) (hn : vs.length ≤ 1099511627776) (hc_ : callable Tryz.prog f = true) (hf : ∀ (j : Nat) (u : Value), vs[j]? = some u → FnV Tryz.prog f (u :: cs) A (.bool (p j)) ∧ Cel u [u]) : FnV Tryz.prog 37 [v, .func (.func f) #[] cs.toArray] A (.bool ((List.range vs.length).any p)) := by
  haveI := hv.cel
  refine FnX.enter (N := 9) Tryz.func37 rfl rfl rfl fun w => ?_
  refine XC.keep (kp 0 rfl (kp 1 rfl kn)) ?_
  refine XC.reg ?_
  refine XL.q (q_assign rfl) rfl ?_
  refine XL.fin (kp 0 rfl (kp 1 rfl kn)) ?_
  refine XC.reg ?_
  refine XL.q (q_move rfl) rfl ?_
  refine XL.q (q_move rfl) rfl ?_
  refine XL.callV (aS rfl (aS rfl a0)) (by kernel_rfl) (index_b v vs f cs p _ (hv.mono SubC.sub) hn hc_ hf) rfl ?_
  refine XL.q (q_cmp (decide (fidx p vs.length ≥ 0)) rfl rfl rfl) rfl ?_
  refine XL.q (q_assign rfl) rfl ?_
  refine XL.fin (kp 4 rfl kn) ?_
  refine XC.ret ?_
  exact ⟨_, [], [], res1 rfl rfl, List.nil_sublist _, by simp, by rw [fidx_ge], rfl, rfl⟩

set_option maxRecDepth 100000 in
theorem can1_spec (b2 : Nat) (q : Option Addr) (u : Value) [hcu : Cel u [u]] (r : Bool) (e : TypeId) (A : Mem) (hb2 : (b2, blk [.pointer q] e) ∈ A) (hf : Hs A (.pointer q) u r) : FnV Tryz.prog 38 [u, .pointer (some ⟨b2, 0, none⟩)] A (.bool (!r)) := by
  refine FnX.enter (N := 8) Tryz.func38 rfl rfl rfl fun w => ?_
  refine XC.keep (kp 0 rfl (kp 1 rfl kn)) ?_
  refine XC.reg ?_
  refine XL.q (q_assign rfl) rfl ?_
  refine XL.fin (kp 0 rfl (kp 1 rfl kn)) ?_
  refine XC.reg ?_
  refine XL.q (q_load rfl (by kernel_rfl) (mA hb2) (by rfl)) rfl ?_
  refine XL.q (q_move rfl) rfl ?_
  refine XL.callV (aS rfl (aS rfl a0)) (by kernel_rfl) (hf _ SubC.sub) rfl ?_
  refine XL.q (q_not rfl) rfl ?_
  refine XL.q (q_assign rfl) rfl ?_
  refine XL.fin (kp 3 rfl kn) ?_
  refine XC.ret ?_
  exact ⟨_, [], [], res1 rfl rfl, List.nil_sublist _, by simp, rfl, rfl, rfl⟩

theorem thr {φ : Value → Bool → Prop} {ψ : Value → Bool → Prop} {a b c : Value} {ra rb rc : Bool} (hφ : ∀ u r, Cel u [u] → ψ u r → φ u (!r)) (ca : Cel a [a]) (cb : Cel b [b]) (cc : Cel c [c]) (h1 : ψ a ra) (h2 : ψ b rb) (h3 : ψ c rc) :
    ∀ (j : Nat) (u : Value), ([a, b, c] : List Value)[j]? = some u → φ u (!([ra, rb, rc] : List Bool).getD j false) := by
  intro j u hj
  match j, hj with
  | 0, hj => cases hj; exact hφ _ _ ca h1
  | 1, hj => cases hj; exact hφ _ _ cb h2
  | 2, hj => cases hj; exact hφ _ _ cc h3
  | j + 3, hj => simp at hj
theorem six {φ : Value → Bool → Prop} {ψ : Value → Bool → Prop} {a b c d e f : Value} {ra rb rc rd re rf : Bool} (hφ : ∀ u r, Cel u [u] → ψ u r → φ u (!r)) (ca : Cel a [a]) (cb : Cel b [b]) (cc : Cel c [c]) (cd : Cel d [d]) (ce : Cel e [e]) (cf : Cel f [f]) (h1 : ψ a ra) (h2 : ψ b rb) (h3 : ψ c rc) (h4 : ψ d rd) (h5 : ψ e re) (h6 : ψ f rf) :
    ∀ (j : Nat) (u : Value), ([a, b, c, d, e, f] : List Value)[j]? = some u → φ u (!([ra, rb, rc, rd, re, rf] : List Bool).getD j false) := by
  intro j u hj
  match j, hj with
  | 0, hj => cases hj; exact hφ _ _ ca h1
  | 1, hj => cases hj; exact hφ _ _ cb h2
  | 2, hj => cases hj; exact hφ _ _ cc h3
  | 3, hj => cases hj; exact hφ _ _ cd h4
  | 4, hj => cases hj; exact hφ _ _ ce h5
  | 5, hj => cases hj; exact hφ _ _ cf h6
  | j + 6, hj => simp at hj

set_option maxRecDepth 100000 in
theorem can_spec (q : Option Addr) (y0 : Int) (y1 : Int) (y2 : Int) (y3 : Int) (y4 : Value) (y5 : Bool) (y6 : Value) (y7 : Value) (y8 : Value) (y9 : Nat) (y10 : Bool) (y11 : Nat) (y12 : Value) (y13 : Nat) (y14 : Nat) (y15 : Value) [c4 : Cel y4 [y4]] [c6 : Cel y6 [y6]] [c7 : Cel y7 [y7]] [c8 : Cel y8 [y8]] [c12 : Cel y12 [y12]] [c15 : Cel y15 [y15]] (o4 : y4.oneCell' = true) (o6 : y6.oneCell' = true) (o7 : y7.oneCell' = true) (o8 : y8.oneCell' = true) (o12 : y12.oneCell' = true) (o15 : y15.oneCell' = true) (r4 r6 r7 r8 r12 r15 : Bool) (A : Mem) (h4 : Hs A (.pointer q) y4 r4) (h6 : Hs A (.pointer q) y6 r6) (h7 : Hs A (.pointer q) y7 r7) (h8 : Hs A (.pointer q) y8 r8) (h12 : Hs A (.pointer q) y12 r12) (h15 : Hs A (.pointer q) y15 r15) : FnV Tryz.prog 21 [.pointer q, .agg #[.int .i64 y0, .int .i64 y1, .int .i64 y2, .int .i64 y3, y4, .bool y5, y6, y7, y8, .int .u32 ((y9 : Nat) : Int), .bool y10, .int .u32 ((y11 : Nat) : Int), y12, .int .u32 ((y13 : Nat) : Int), .int .u32 ((y14 : Nat) : Int), y15]] A (.bool (r4 && r12 && r15 && (if y5 then r6 && r7 && r8 else true))) := by
  refine FnX.enter (N := 34) Tryz.func21 rfl rfl rfl fun w => ?_
  refine XC.keep (kp 0 rfl (kp 1 rfl kn)) ?_
  refine XC.reg ?_
  refine XL.lo rfl (l_box rfl (by first | exact Cel.cel | rfl) rfl fun b2 => ?_)
  refine XL.lo rfl (l_box rfl (by first | exact Cel.cel | rfl) rfl fun b3 => ?_)
  refine XL.q (q_assign rfl) rfl ?_
  refine XL.fin (kp 2 rfl (kp 3 rfl kn)) ?_
  refine XC.reg ?_
  refine XL.q (q_fieldAddrN 4 (off := 4) rfl (by kernel_rfl) rfl) rfl ?_
  refine XL.q (q_load rfl (by kernel_rfl) (by first | exact At.mem | exact mA (by assumption)) (by rfl)) rfl ?_
  refine XL.q (q_fieldAddrN 12 (off := 12) rfl (by kernel_rfl) rfl) rfl ?_
  refine XL.q (q_fieldAddrN 12 (off := 0) rfl (by kernel_rfl) rfl) rfl ?_
  refine XL.q (q_load rfl (by kernel_rfl) (by first | exact At.mem | exact mA (by assumption)) (by rfl)) rfl ?_
  refine XL.q (q_fieldAddrN 15 (off := 15) rfl (by kernel_rfl) rfl) rfl ?_
  refine XL.q (q_load rfl (by kernel_rfl) (by first | exact At.mem | exact mA (by assumption)) (by rfl)) rfl ?_
  refine XL.lo rfl (l_buildSlice (e := 23) (sz := 1) (z := [.slice none 0 0, .slice none 0 0, .slice none 0 0]) (by kernel_rfl) (eS rfl (eS rfl (eS rfl e0))) (bdS 0 1 rfl (by rfl) (bdS 1 1 rfl (by rfl) (bdS 2 1 rfl (by rfl) bd0))) rfl fun b13 => ?_)
  refine XL.q (q_assign rfl) rfl ?_
  refine XL.fin (kp 2 rfl (kp 3 rfl (kp 5 rfl kn))) ?_
  refine XC.seq ?_
  refine XC.reg ?_
  refine XL.q (q_fieldAddrN 5 (off := 5) rfl (by kernel_rfl) rfl) rfl ?_
  refine XL.q (q_load rfl (by kernel_rfl) (by first | exact At.mem | exact mA (by assumption)) (by rfl)) rfl ?_
  refine XL.fin (kp 2 rfl (kp 3 rfl (kp 5 rfl (kp 15 rfl kn)))) ?_
  refine XC.cond rfl (fun hc => ?_) (fun hc => ?_)
  ·
    obtain rfl : y5 = true := hc
    refine XC.reg1 ?_
    refine XL.q (q_move rfl) rfl ?_
    refine XL.q (q_fieldAddrN 6 (off := 6) rfl (by kernel_rfl) rfl) rfl ?_
    refine XL.q (q_fieldAddrN 6 (off := 0) rfl (by kernel_rfl) rfl) rfl ?_
    refine XL.q (q_fieldAddrN 6 (off := 0) rfl (by kernel_rfl) rfl) rfl ?_
    refine XL.q (q_load rfl (by kernel_rfl) (by first | exact At.mem | exact mA (by assumption)) (by rfl)) rfl ?_
    refine XL.q (q_fieldAddrN 6 (off := 6) rfl (by kernel_rfl) rfl) rfl ?_
    refine XL.q (q_fieldAddrN 6 (off := 0) rfl (by kernel_rfl) rfl) rfl ?_
    refine XL.q (q_fieldAddrN 7 (off := 1) rfl (by kernel_rfl) rfl) rfl ?_
    refine XL.q (q_load rfl (by kernel_rfl) (by first | exact At.mem | exact mA (by assumption)) (by rfl)) rfl ?_
    refine XL.q (q_fieldAddrN 6 (off := 6) rfl (by kernel_rfl) rfl) rfl ?_
    refine XL.q (q_fieldAddrN 8 (off := 2) rfl (by kernel_rfl) rfl) rfl ?_
    refine XL.q (q_load rfl (by kernel_rfl) (by first | exact At.mem | exact mA (by assumption)) (by rfl)) rfl ?_
    refine XL.lo rfl (l_buildSlice (e := 23) (sz := 1) (z := [.slice none 0 0, .slice none 0 0, .slice none 0 0]) (by kernel_rfl) (eS rfl (eS rfl (eS rfl e0))) (bdS 0 1 rfl (by rfl) (bdS 1 1 rfl (by rfl) (bdS 2 1 rfl (by rfl) bd0))) rfl fun b28 => ?_)
    refine XL.lo rfl (l_append2 (e := 23) (sz := 1) (by_ := 24) rfl rfl (by kernel_rfl) rfl (Sl.fresh (n := 3) (sz := 1) (cs := [y4, y12, y15]) (e := 23) (by rfl) (by decide)) (Rd.whole (n := 3) At.mem (by rfl)) (by intro c hc; simp only [List.mem_cons, List.not_mem_nil, or_false] at hc; rcases hc with rfl | rfl | rfl; exact o6; exact o7; exact o8) PickC.perm (by unfold maxLen; omega) (by omega) rfl fun v29 B29 hs29 => ?_)
    replace hs29 : Sl 1 v29 6 [y4, y12, y15, y6, y7, y8] B29 := hs29
    refine XL.q (q_assign rfl) rfl ?_
    refine XL.fin (kp 2 rfl (kp 5 rfl kn)) ?_
    refine XC.reg ?_
    refine XL.q (q_move rfl) rfl ?_
    refine XL.q (q_mkFuncF a0 (aS rfl a0)) rfl ?_
    refine XL.callV (aS rfl (aS rfl a0)) (by kernel_rfl) (contains_b _ [y4, y12, y15, y6, y7, y8] 38 [.pointer (some ⟨b2, 0, none⟩)] (fun j => !([r4, r12, r15, r6, r7, r8] : List Bool).getD j false) _ (hs29.rd SubC.sub) (show 6 ≤ 1099511627776 by decide) (by kernel_rfl) (six (φ := fun u r_ => FnV Tryz.prog 38 [u, .pointer (some ⟨b2, 0, none⟩)] _ (.bool r_) ∧ Cel u [u]) (ψ := fun u r_ => Hs A (.pointer q) u r_) (fun u r hcu hh => ⟨@can1_spec b2 q u hcu r _ _ At.mem (hh.mono SubC.sub), hcu⟩) c4 c12 c15 c6 c7 c8 h4 h12 h15 h6 h7 h8)) rfl ?_
    refine XL.q (q_not rfl) rfl ?_
    refine XL.q (q_assign rfl) rfl ?_
    refine XL.fin (kp 4 rfl kn) ?_
    refine XC.ret ?_
    exact ⟨_, [], [], res1 rfl rfl, List.nil_sublist _, by simp, by congr 1; cases r4 <;> cases r12 <;> cases r15 <;> cases r6 <;> cases r7 <;> cases r8 <;> rfl, rfl, rfl⟩
  ·
    obtain rfl : y5 = false := hc
    refine XC.skip ?_
    refine nx (kp 2 rfl (kp 5 rfl kn)) ?_
    refine XC.reg ?_
    refine XL.q (q_move rfl) rfl ?_
    refine XL.q (q_mkFuncF a0 (aS rfl a0)) rfl ?_
    refine XL.callV (aS rfl (aS rfl a0)) (by kernel_rfl) (contains_b _ [y4, y12, y15] 38 [.pointer (some ⟨b2, 0, none⟩)] (fun j => !([r4, r12, r15] : List Bool).getD j false) _ (Rd.whole (n := 3) At.mem (by rfl)) (show 3 ≤ 1099511627776 by decide) (by kernel_rfl) (thr (φ := fun u r_ => FnV Tryz.prog 38 [u, .pointer (some ⟨b2, 0, none⟩)] _ (.bool r_) ∧ Cel u [u]) (ψ := fun u r_ => Hs A (.pointer q) u r_) (fun u r hcu hh => ⟨@can1_spec b2 q u hcu r _ _ At.mem (hh.mono SubC.sub), hcu⟩) c4 c12 c15 h4 h12 h15)) rfl ?_
    refine XL.q (q_not rfl) rfl ?_
    refine XL.q (q_assign rfl) rfl ?_
    refine XL.fin (kp 4 rfl kn) ?_
    refine XC.ret ?_
    exact ⟨_, [], [], res1 rfl rfl, List.nil_sublist _, by simp, by congr 1; cases r4 <;> cases r12 <;> cases r15 <;> rfl, rfl, rfl⟩
