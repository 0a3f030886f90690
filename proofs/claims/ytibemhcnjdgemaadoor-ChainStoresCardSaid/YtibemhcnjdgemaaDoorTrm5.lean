/- The walks of the term laws: same; terms that are put. -/
import Derived.Test.YtibemhcnjdgemaaDoorTrm4
set_option linter.unusedVariables false
set_option linter.unusedSimpArgs false
namespace Go.Proofs.YtibemhcnjdgemaaDoor
open Go.Px
/-- Are two terms one? -/
def tmEq (a b : Tm) : Bool := a.kind == b.kind && a.n == b.n && a.text == b.text && a.of == b.of
theorem tmEq_iff {a b : Tm} : tmEq a b = true ↔ a = b := by
  cases a; cases b
  simp only [tmEq, Bool.and_eq_true, beq_iff_eq, Tm.mk.injEq]
  constructor
  · rintro ⟨⟨⟨a, b⟩, c⟩, d⟩; exact ⟨a, d, c, b⟩
  · rintro ⟨a, d, c, b⟩; exact ⟨⟨⟨a, b⟩, c⟩, d⟩

set_option maxRecDepth 100000 in
theorem same_spec (va vb : Value) (a b : Tm) (A : Mem) (hra : Rd A 1 va a.of.length (ints a.of)) (hrb : Rd A 1 vb b.of.length (ints b.of)) (hao : Tmo a) (hbo : Tmo b) : FnV Tryd.prog 32 [.agg (tmc a.kind va a.text a.n).toArray, .agg (tmc b.kind vb b.text b.n).toArray] A (.bool (tmEq a b)) := by
  haveI := hra.cel
  haveI := hrb.cel
  have hak := hao.kind
  have hbk := hbo.kind
  haveI := hao.text
  haveI := hbo.text
  refine FnX.enter (N := 52) Tryd.func32 rfl rfl rfl fun w => ?_
  refine XC.keep (kp 0 rfl (kp 1 rfl kn)) ?_
  refine XC.reg ?_
  refine XL.lo rfl (l_box rfl rfl rfl fun b2 => ?_)
  refine XL.lo rfl (l_box rfl rfl rfl fun b3 => ?_)
  refine XL.q (q_assign rfl) rfl ?_
  refine XL.fin (kp 2 rfl (kp 3 rfl kn)) ?_
  refine XC.seq ?_
  refine XC.reg ?_
  refine XL.q (q_fieldAddrN 0 (off := 0) rfl (by kernel_rfl) rfl) rfl ?_
  refine XL.q (q_load rfl (by kernel_rfl) (by first | exact At.mem | exact mA (by assumption)) (by rfl)) rfl ?_
  refine XL.q (q_fieldAddrN 0 (off := 0) rfl (by kernel_rfl) rfl) rfl ?_
  refine XL.q (q_load rfl (by kernel_rfl) (by first | exact At.mem | exact mA (by assumption)) (by rfl)) rfl ?_
  refine XL.q (q_bin rfl rfl rfl) rfl ?_
  refine XL.q (q_move rfl) rfl ?_
  refine XL.split (t := 11) rfl (fun hb => ?_) (fun hb => ?_)
  ·
    refine XL.gn rfl rfl rfl rfl ?_
    refine XL.gn rfl rfl rfl rfl ?_
    refine XL.gn rfl rfl rfl rfl ?_
    refine XL.gn rfl rfl rfl rfl ?_
    refine XL.gn rfl rfl rfl rfl ?_
    refine XL.q (q_pickT rfl rfl) rfl ?_
    refine XL.q (q_move rfl) rfl ?_
    refine XL.gn rfl rfl rfl rfl ?_
    refine XL.gn rfl rfl rfl rfl ?_
    refine XL.gn rfl rfl rfl rfl ?_
    refine XL.gn rfl rfl rfl rfl ?_
    refine XL.gn rfl rfl rfl rfl ?_
    refine XL.q (q_pickT rfl rfl) rfl ?_
    refine XL.q (q_move rfl) rfl ?_
    refine XL.gn rfl rfl rfl rfl ?_
    refine XL.gn rfl rfl rfl rfl ?_
    refine XL.gn rfl rfl rfl rfl ?_
    refine XL.gn rfl rfl rfl rfl ?_
    refine XL.gn rfl rfl rfl rfl ?_
    refine XL.gn rfl rfl rfl rfl ?_
    refine XL.gn rfl rfl rfl rfl ?_
    refine XL.q (q_pickT rfl rfl) rfl ?_
    refine XL.fin (kp 2 rfl (kp 3 rfl (kp 33 rfl kn))) ?_
    refine XC.condT rfl ?_
    refine XC.reg ?_
    refine XL.q (q_assign rfl) rfl ?_
    refine XL.fin (kp 4 rfl kn) ?_
    refine XC.ret ?_
    refine tr ?_
    refine ⟨_, [], [], res1 rfl rfl, List.nil_sublist _, by simp, ?_, rfl, rfl⟩
    have hf : tmEq a b = false := by
      cases h : tmEq a b with
      | false => rfl
      | true =>
        exfalso
        have e := tmEq_iff.1 h
        subst e
        simp at hb
    rw [hf]
  ·
    have hk : a.kind = b.kind := by simp at hb; omega
    refine XL.gy rfl rfl (OpQ.opL (q_fieldAddrN 3 (off := 3) rfl (by kernel_rfl) rfl) rfl ?_)
    refine XL.gy rfl rfl (OpQ.opL (q_load rfl (by kernel_rfl) (by first | exact At.mem | exact mA (by assumption)) (by rfl)) rfl ?_)
    refine XL.gy rfl rfl (OpQ.opL (q_fieldAddrN 3 (off := 3) rfl (by kernel_rfl) rfl) rfl ?_)
    refine XL.gy rfl rfl (OpQ.opL (q_load rfl (by kernel_rfl) (by first | exact At.mem | exact mA (by assumption)) (by rfl)) rfl ?_)
    refine XL.gy rfl rfl (OpQ.opL (q_bin rfl rfl rfl) rfl ?_)
    refine XL.q (q_pickF rfl rfl) rfl ?_
    refine XL.q (q_move rfl) rfl ?_
    refine XL.split (t := 18) rfl (fun hb => ?_) (fun hb => ?_)
    ·
      refine XL.gn rfl rfl rfl rfl ?_
      refine XL.gn rfl rfl rfl rfl ?_
      refine XL.gn rfl rfl rfl rfl ?_
      refine XL.gn rfl rfl rfl rfl ?_
      refine XL.gn rfl rfl rfl rfl ?_
      refine XL.q (q_pickT rfl rfl) rfl ?_
      refine XL.q (q_move rfl) rfl ?_
      refine XL.gn rfl rfl rfl rfl ?_
      refine XL.gn rfl rfl rfl rfl ?_
      refine XL.gn rfl rfl rfl rfl ?_
      refine XL.gn rfl rfl rfl rfl ?_
      refine XL.gn rfl rfl rfl rfl ?_
      refine XL.gn rfl rfl rfl rfl ?_
      refine XL.gn rfl rfl rfl rfl ?_
      refine XL.q (q_pickT rfl rfl) rfl ?_
      refine XL.fin (kp 2 rfl (kp 3 rfl (kp 33 rfl kn))) ?_
      refine XC.condT rfl ?_
      refine XC.reg ?_
      refine XL.q (q_assign rfl) rfl ?_
      refine XL.fin (kp 4 rfl kn) ?_
      refine XC.ret ?_
      refine tr ?_
      refine ⟨_, [], [], res1 rfl rfl, List.nil_sublist _, by simp, ?_, rfl, rfl⟩
      have hf : tmEq a b = false := by
        cases h : tmEq a b with
        | false => rfl
        | true =>
          exfalso
          have e := tmEq_iff.1 h
          subst e
          simp at hb
      rw [hf]
    ·
      have hn : a.n = b.n := by simpa using hb
      refine XL.gy rfl rfl (OpQ.opL (q_fieldAddrN 2 (off := 2) rfl (by kernel_rfl) rfl) rfl ?_)
      refine XL.gy rfl rfl (OpQ.opL (q_load rfl (by kernel_rfl) (by first | exact At.mem | exact mA (by assumption)) (by rfl)) rfl ?_)
      refine XL.gy rfl rfl (OpQ.opL (q_fieldAddrN 2 (off := 2) rfl (by kernel_rfl) rfl) rfl ?_)
      refine XL.gy rfl rfl (OpQ.opL (q_load rfl (by kernel_rfl) (by first | exact At.mem | exact mA (by assumption)) (by rfl)) rfl ?_)
      refine XL.gy rfl rfl (OpQ.opL (q_sNe rfl rfl rfl rfl B256.lt B256.lt) rfl ?_)
      refine XL.q (q_pickF rfl rfl) rfl ?_
      refine XL.q (q_move rfl) rfl ?_
      refine XL.split (t := 25) rfl (fun hb => ?_) (fun hb => ?_)
      ·
        refine XL.gn rfl rfl rfl rfl ?_
        refine XL.gn rfl rfl rfl rfl ?_
        refine XL.gn rfl rfl rfl rfl ?_
        refine XL.gn rfl rfl rfl rfl ?_
        refine XL.gn rfl rfl rfl rfl ?_
        refine XL.gn rfl rfl rfl rfl ?_
        refine XL.gn rfl rfl rfl rfl ?_
        refine XL.q (q_pickT rfl rfl) rfl ?_
        refine XL.fin (kp 2 rfl (kp 3 rfl (kp 33 rfl kn))) ?_
        refine XC.condT rfl ?_
        refine XC.reg ?_
        refine XL.q (q_assign rfl) rfl ?_
        refine XL.fin (kp 4 rfl kn) ?_
        refine XC.ret ?_
        refine tr ?_
        refine ⟨_, [], [], res1 rfl rfl, List.nil_sublist _, by simp, ?_, rfl, rfl⟩
        have hf : tmEq a b = false := by
          cases h : tmEq a b with
          | false => rfl
          | true =>
            exfalso
            have e := tmEq_iff.1 h
            subst e
            simp at hb
        rw [hf]
      ·
        have ht : a.text = b.text := by simpa using hb
        refine XL.gy rfl rfl (OpQ.opL (q_fieldAddrN 1 (off := 1) rfl (by kernel_rfl) rfl) rfl ?_)
        refine XL.gy rfl rfl (OpQ.opL (q_load rfl (by kernel_rfl) (by first | exact At.mem | exact mA (by assumption)) (by rfl)) rfl ?_)
        refine XL.gy rfl rfl (OpQ.opL (q_lenV2 (sz := 1) rfl (by kernel_rfl) hra) rfl ?_)
        refine XL.gy rfl rfl (OpQ.opL (q_fieldAddrN 1 (off := 1) rfl (by kernel_rfl) rfl) rfl ?_)
        refine XL.gy rfl rfl (OpQ.opL (q_load rfl (by kernel_rfl) (by first | exact At.mem | exact mA (by assumption)) (by rfl)) rfl ?_)
        refine XL.gy rfl rfl (OpQ.opL (q_lenV2 (sz := 1) rfl (by kernel_rfl) hrb) rfl ?_)
        refine XL.gy rfl rfl (OpQ.opL (q_bin rfl rfl rfl) rfl ?_)
        refine XL.q (q_pickF rfl rfl) rfl ?_
        refine XL.fin (kp 2 rfl (kp 3 rfl (kp 33 rfl kn))) ?_
        refine XC.cond rfl (fun hc => ?_) (fun hc => ?_)
        ·
          refine XC.reg ?_
          refine XL.q (q_assign rfl) rfl ?_
          refine XL.fin (kp 4 rfl kn) ?_
          refine XC.ret ?_
          refine tr ?_
          refine ⟨_, [], [], res1 rfl rfl, List.nil_sublist _, by simp, ?_, rfl, rfl⟩
          have hf : tmEq a b = false := by
            cases h : tmEq a b with
            | false => rfl
            | true =>
              exfalso
              have e := tmEq_iff.1 h
              subst e
              simp at hc
          rw [hf]
        ·
          have hl : a.of.length = b.of.length := by simp at hc; omega
          refine XC.skip ?_
          refine nx (kp 2 rfl (kp 3 rfl kn)) ?_
          refine XC.seq ?_
          refine XC.reg ?_
          refine XL.q (q_assign rfl) rfl ?_
          refine XL.fin (kp 2 rfl (kp 3 rfl (kp 5 rfl kn))) ?_
          refine XC.block ?_
          refine XC.loop (α := Nat) (fun i => [(2, .pointer (some ⟨b2, 0, none⟩)), (3, .pointer (some ⟨b3, 0, none⟩)), (5, .int .i64 (i : Int))]) (fun _ => [(b3, blk (tmc b.kind vb b.text b.n) 62), (b2, blk (tmc a.kind va a.text a.n) 62)]) (fun _ => []) (fun i => i ≤ a.of.length ∧ a.of.take i = b.of.take i) (fun i => a.of.length - i) 0 ⟨Nat.zero_le _, rfl⟩ (kp 2 rfl (kp 3 rfl (kp 5 rfl kn))) .rfl (fun _ h => h) ?_
          rintro i ⟨hi, hi2⟩
          have hal := hao.ofl
          refine XC.seq ?_
          refine XC.reg ?_
          refine XL.q (q_move rfl) rfl ?_
          refine XL.q (q_fieldAddrN 1 (off := 1) rfl (by kernel_rfl) rfl) rfl ?_
          refine XL.q (q_load rfl (by kernel_rfl) (by first | exact At.mem | exact mA (by assumption)) (by rfl)) rfl ?_
          refine XL.q (q_lenV2 (sz := 1) rfl (by kernel_rfl) hra) rfl ?_
          refine XL.q (q_bin rfl rfl rfl) rfl ?_
          refine XL.fin (kp 2 rfl (kp 3 rfl (kp 5 rfl (kp 38 rfl kn)))) ?_
          refine XC.cond rfl (fun hc => ?_) (fun hc => ?_)
          ·
            have hlt : i < a.of.length := by simp at hc; omega
            have hltb : i < b.of.length := by omega
            have hai := hao.of _ (List.getElem_mem hlt)
            have hbi := hbo.of _ (List.getElem_mem hltb)
            refine XC.skip ?_
            refine nx (kp 2 rfl (kp 3 rfl (kp 5 rfl kn))) ?_
            refine XC.seq ?_
            refine XC.block ?_
            refine XC.drawF [0, 1, 2, 3, 4, 5, 6, 7, 8, 9, 10] [(0, 0), (1, 1), (2, 0), (3, 0), (4, 1), (5, 0), (6, 1), (7, 0), (8, 0), (9, 1), (10, 0)] (by kernel_rfl) (by kernel_rfl) fun hs => ?_
            refine XF.q hs rfl (q_fieldAddrN 1 (off := 1) rfl (by kernel_rfl) rfl) rfl ?_
            refine XF.r hs rfl (q_load rfl (by kernel_rfl) (by first | exact At.mem | exact mA (by assumption)) (by rfl)) rfl ?_
            refine XF.q hs rfl (q_move rfl) rfl ?_
            refine XF.q hs rfl (q_atV2 (sz := 1) rfl rfl (by kernel_rfl) rfl hra hlt) rfl ?_
            refine XF.r hs rfl (q_ldV (u := .int .i64 a.of[i]) (Rd.mono hra SubC.sub) rfl (by kernel_rfl) (by simp [ints, hlt])) rfl ?_
            refine XF.q hs rfl (q_fieldAddrN 1 (off := 1) rfl (by kernel_rfl) rfl) rfl ?_
            refine XF.r hs rfl (q_load rfl (by kernel_rfl) (by first | exact At.mem | exact mA (by assumption)) (by rfl)) rfl ?_
            refine XF.q hs rfl (q_move rfl) rfl ?_
            refine XF.q hs rfl (q_atV2 (sz := 1) rfl rfl (by kernel_rfl) rfl hrb hltb) rfl ?_
            refine XF.r hs rfl (q_ldV (u := .int .i64 b.of[i]) (Rd.mono hrb SubC.sub) rfl (by kernel_rfl) (by simp [ints, hltb])) rfl ?_
            refine XF.q hs rfl (q_bin rfl rfl rfl) rfl ?_
            refine XF.fin (kp 2 rfl (kp 3 rfl (kp 5 rfl (kp 51 rfl kn)))) ?_
            refine XC.cond rfl (fun hc => ?_) (fun hc => ?_)
            ·
              have hne : a.of[i] ≠ b.of[i] := by simpa using hc
              refine XC.reg ?_
              refine XL.q (q_assign rfl) rfl ?_
              refine XL.fin (kp 4 rfl kn) ?_
              refine XC.ret ?_
              refine br ?_
              refine tr ?_
              refine rr ?_
              refine br ?_
              refine tr ?_
              refine ⟨_, [], [], res1 rfl rfl, List.nil_sublist _, by simp, ?_, rfl, rfl⟩
              have hf : tmEq a b = false := by
                cases h : tmEq a b with
                | false => rfl
                | true =>
                  exfalso
                  have e := tmEq_iff.1 h
                  subst e
                  simp at hne
              rw [hf]
            ·
              have heq : a.of[i] = b.of[i] := by simpa using hc
              refine XC.skip ?_
              refine nb ?_
              refine nx (kp 2 rfl (kp 3 rfl (kp 5 rfl kn))) ?_
              refine XC.reg1 ?_
              refine XL.q (q_move rfl) rfl ?_
              refine XL.q (q_addI (b := 1) rfl rfl rfl rfl (by omega)) rfl ?_
              refine XL.q (q_assign rfl) rfl ?_
              refine XL.nil ?_
              exact rn (i + 1) ⟨by omega, by rw [List.take_add_one, List.take_add_one, hi2, List.getElem?_eq_getElem hlt, List.getElem?_eq_getElem hltb, heq]⟩ (by omega) (kp 2 rfl (kp 3 rfl (kp 5 rfl kn))) .rfl (fun _ h => h)
          ·
            have hge : i = a.of.length := by simp at hc; omega
            refine XC.exit ?_
            refine te ?_
            refine re ?_
            refine be rfl ?_
            refine nx kn ?_
            refine XC.reg ?_
            refine XL.q (q_assign rfl) rfl ?_
            refine XL.fin (kp 4 rfl kn) ?_
            refine XC.ret ?_
            refine ⟨_, [], [], res1 rfl rfl, List.nil_sublist _, by simp, ?_, rfl, rfl⟩
            have e : a = b := by
              have hof : a.of = b.of := by rw [List.take_of_length_le (by omega), List.take_of_length_le (by omega)] at hi2; exact hi2
              cases a; cases b; simp_all
            rw [tmEq_iff.2 e]
