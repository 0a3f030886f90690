/- The walk of TermMarks. -/
import Derived.Test.YtibemhcnjdgemaaDoorPrs5
import Derived.Test.YtibemhcnjdgemaaDoorBy
import Derived.Test.YtibemhcnjdgemaaDoorTrm2
set_option linter.unusedVariables false
set_option linter.unusedSimpArgs false
namespace Go.Proofs.YtibemhcnjdgemaaDoor
open Go.Px
theorem marks_len {l : List (List Nat)} (h : ∀ w ∈ l, w.length ≤ 300) : (marks l).length ≤ l.length * 321 := by
  induction l with
  | nil => simp [marks]
  | cons w l ih =>
    have h1 := ih fun x hx => h x (by simp [hx])
    have h2 := h w (by simp)
    have h3 := mark_len w (by omega)
    have : marks (w :: l) = mark w ++ marks l := by simp [marks]
    rw [this, List.length_append, List.length_cons]
    omega
theorem marks_256 {l : List (List Nat)} (h : ∀ w ∈ l, B256 w) : B256 (marks l) := by
  induction l with
  | nil => exact B256.nil
  | cons w l ih =>
    have h1 := ih fun x hx => h x (by simp [hx])
    have h2 := h w (by simp)
    have : marks (w :: l) = mark w ++ marks l := by simp [marks]
    rw [this]
    infer_instance
theorem marks_take {l : List (List Nat)} {i : Nat} (h : i < l.length) : marks (l.take (i + 1)) = marks (l.take i) ++ mark l[i] := by
  rw [List.take_add_one, List.getElem?_eq_getElem h]; exact marks_snoc _ _
theorem mark_nil (p : List Nat) : 0 < (mark p).length := by simp only [mark, List.length_append, List.length_cons]; omega
theorem marks_parts {l : List (List Nat)} {n : Nat} (h : (marks l).length ≤ n) : l.length ≤ n ∧ ∀ w ∈ l, w.length ≤ n := by
  induction l generalizing n with
  | nil => exact ⟨Nat.zero_le _, fun w hw => by cases hw⟩
  | cons w l ih =>
    have : marks (w :: l) = mark w ++ marks l := by simp [marks]
    rw [this, List.length_append] at h
    have h1 := mark_nil w
    obtain ⟨h2, h3⟩ := ih (n := n - (mark w).length) (by omega)
    have h4 : w.length ≤ (mark w).length := by simp [mark]; omega
    refine ⟨by simp; omega, fun x hx => ?_⟩
    rcases List.mem_cons.1 hx with rfl | hx
    · omega
    · have := h3 x hx; omega
theorem marks_part256 {l : List (List Nat)} (h : B256 (marks l)) : ∀ w ∈ l, B256 w := by
  intro w hw
  refine ⟨fun x hx => h.lt x ?_⟩
  simp only [marks, List.mem_flatMap]
  exact ⟨w, hw, by simp [mark, hx]⟩

set_option maxRecDepth 100000 in
theorem termMarks_spec (vl : Value) (vs : List Value) (ls : List (List Nat)) (ss : List Nat) (cut : Nat) (A : Mem) (hrl : Rd A 1 vl ls.length vs) (hbs : Bys A vs ls) (hss : B256 ss) (hsl : ss.length ≤ maxLen) (hcut : cut < 65536) {v5 : Value} {e5 : TypeId} {f5 : Nat × Nat} (c5 : Cel v5 [v5]) (h5 : (1, Obj.cells [v5].toArray e5 f5) ∈ A) {v6 : Value} {e6 : TypeId} {f6 : Nat × Nat} (c6 : Cel v6 [v6]) (h6 : (2, Obj.cells [v6].toArray e6 f6) ∈ A) {e4 : TypeId} {f4 : Nat × Nat} (h4 : (4, Obj.cells (nums .u64 pow10T).toArray e4 f4) ∈ A) : FnV Tryd.prog 5 [vl, .string (txt ss), .int .u16 (cut : Int)] A (.bool true) := by
  haveI := hrl.cel
  haveI := hss
  have hmx : maxLen < 9223372036854775808 := by unfold maxLen; omega
  have hlb : ∀ w ∈ ls, B256 w := fun w hw => by
    obtain ⟨j, hj⟩ := List.getElem?_of_mem hw
    obtain ⟨v, _, _, h3, _⟩ := hbs.get j w hj
    exact ⟨h3⟩
  refine FnX.enter (N := 135) Tryd.func5 rfl rfl rfl fun w => ?_
  refine XC.keep (kp 0 rfl (kp 1 rfl (kp 2 rfl kn))) ?_
  refine XC.reg ?_
  refine XL.q (q_assign rfl) rfl ?_
  refine XL.fin (kp 0 rfl (kp 1 rfl (kp 2 rfl kn))) ?_
  refine XC.seq ?_
  refine XC.reg ?_
  refine XL.callV a0 (by kernel_rfl) (tawake_spec _ (mA h4)) rfl ?_
  refine XL.q (q_not rfl) rfl ?_
  refine XL.q (q_move rfl) rfl ?_
  refine XL.gy rfl rfl (OpQ.opL (q_move rfl) rfl ?_)
  refine XL.gy rfl rfl (OpQ.opL (q_lenV2 (sz := 1) rfl (by kernel_rfl) hrl) rfl ?_)
  refine XL.gy rfl rfl (OpQ.opL (q_bin rfl rfl rfl) rfl ?_)
  refine XL.q (q_pickF rfl rfl) rfl ?_
  refine XL.q (q_move rfl) rfl ?_
  refine XL.split (t := 25) rfl (fun hb => ?_) (fun hb => ?_)
  ·
    refine XL.gn rfl rfl rfl rfl ?_
    refine XL.gn rfl rfl rfl rfl ?_
    refine XL.gn rfl rfl rfl rfl ?_
    refine XL.q (q_pickT rfl rfl) rfl ?_
    refine XL.fin (kp 0 rfl (kp 1 rfl (kp 2 rfl (kp 29 rfl kn)))) ?_
    refine XC.condT rfl ?_
    refine XC.reg ?_
    refine XL.callV a0 (by kernel_rfl) (tawake_spec _ (mA h4)) rfl ?_
    refine XL.q (q_assign rfl) rfl ?_
    refine XL.fin (kp 6 rfl kn) ?_
    refine XC.ret ?_
    refine tr ?_
    exact ⟨_, [], [], res1 rfl rfl, List.nil_sublist _, by simp, rfl, rfl, rfl⟩
  ·
    refine XL.gy rfl rfl (OpQ.opL (q_move rfl) rfl ?_)
    refine XL.gy rfl rfl (OpQ.opL (q_sLen rfl rfl (by kernel_rfl)) rfl ?_)
    refine XL.gy rfl rfl (OpQ.opL (q_bin rfl rfl rfl) rfl ?_)
    refine XL.q (q_pickF rfl rfl) rfl ?_
    refine XL.fin (kp 0 rfl (kp 1 rfl (kp 2 rfl (kp 29 rfl kn)))) ?_
    refine XC.cond rfl (fun hc => ?_) (fun hc => ?_)
    ·
      refine XC.reg ?_
      refine XL.callV a0 (by kernel_rfl) (tawake_spec _ (mA h4)) rfl ?_
      refine XL.q (q_assign rfl) rfl ?_
      refine XL.fin (kp 6 rfl kn) ?_
      refine XC.ret ?_
      refine tr ?_
      exact ⟨_, [], [], res1 rfl rfl, List.nil_sublist _, by simp, rfl, rfl, rfl⟩
    ·
      have hn20 : ls.length ≤ 20 := by simp at hb; omega
      have hs200 : ss.length ≤ 200 := by simp at hc; omega
      refine XC.skip ?_
      refine nx (kp 0 rfl (kp 1 rfl (kp 2 rfl kn))) ?_
      refine XC.reg ?_
      refine XL.q (q_assign rfl) rfl ?_
      refine XL.fin (kp 0 rfl (kp 1 rfl (kp 2 rfl (kp 7 rfl kn)))) ?_
      refine XC.seq ?_
      refine XC.reg ?_
      refine XL.q (q_assign rfl) rfl ?_
      refine XL.fin (kp 0 rfl (kp 1 rfl (kp 2 rfl (kp 7 rfl (kp 8 rfl kn))))) ?_
      refine XC.block ?_
      refine XC.loop (α := Nat) (fun i => [(0, vl), (1, .string (txt ss)), (2, .int .u16 (cut : Int)), (7, .string (txt (marks (ls.take i)))), (8, .int .i64 (i : Int))]) (fun _ => []) (fun _ => []) (fun i => i ≤ ls.length ∧ ∀ w ∈ ls.take i, w.length ≤ 300) (fun i => ls.length - i) 0 ⟨Nat.zero_le _, by simp⟩ (kp 0 rfl (kp 1 rfl (kp 2 rfl (kp 7 rfl (kp 8 rfl kn))))) (Fit.sub (List.nil_sublist _)) (fun _ h => h) ?_
      rintro i ⟨hi, h300⟩
      have hml := marks_len h300
      rw [List.length_take] at hml
      have hmb : B256 (marks (ls.take i)) := marks_256 fun w hw => hlb w (List.mem_of_mem_take hw)
      refine XC.seq ?_
      refine XC.reg ?_
      refine XL.q (q_move rfl) rfl ?_
      refine XL.q (q_move rfl) rfl ?_
      refine XL.q (q_lenV2 (sz := 1) rfl (by kernel_rfl) hrl) rfl ?_
      refine XL.q (q_bin rfl rfl rfl) rfl ?_
      refine XL.fin (kp 0 rfl (kp 1 rfl (kp 2 rfl (kp 7 rfl (kp 8 rfl (kp 34 rfl kn)))))) ?_
      refine XC.cond rfl (fun hc => ?_) (fun hc => ?_)
      ·
        have hlt : i < ls.length := by simp at hc; omega
        obtain ⟨v, hvi, hvr, hvb, hvl⟩ := hbs.at hlt
        haveI := hvr.cel
        have hmt := marks_take hlt
        refine XC.skip ?_
        refine nx (kp 0 rfl (kp 1 rfl (kp 2 rfl (kp 7 rfl (kp 8 rfl kn))))) ?_
        refine XC.seq ?_
        refine XC.block ?_
        refine XC.seq ?_
        refine XC.reg ?_
        refine XL.q (q_move rfl) rfl ?_
        refine XL.q (q_move rfl) rfl ?_
        refine XL.q (q_atV2 (sz := 1) rfl rfl (by kernel_rfl) rfl (by first | assumption | exact Sl.rd (by assumption) (fun _ h => h)) (by omega)) rfl ?_
        refine XL.q (q_ldV (u := v) (Rd.mono hrl SubC.sub) rfl (by kernel_rfl) hvi) rfl ?_
        refine XL.q (q_lenV2 (sz := 1) rfl (by kernel_rfl) (by first | assumption | exact Sl.rd (by assumption) (fun _ h => h))) rfl ?_
        refine XL.q (q_bin rfl rfl rfl) rfl ?_
        refine XL.fin (kp 0 rfl (kp 1 rfl (kp 2 rfl (kp 7 rfl (kp 8 rfl (kp 42 rfl kn)))))) ?_
        refine XC.cond rfl (fun hc => ?_) (fun hc => ?_)
        ·
          refine XC.reg ?_
          refine XL.q (q_assign rfl) rfl ?_
          refine XL.fin (kp 6 rfl kn) ?_
          refine XC.ret ?_
          refine tr ?_
          refine br ?_
          refine tr ?_
          refine rr ?_
          refine br ?_
          refine tr ?_
          exact ⟨_, [], [], res1 rfl rfl, List.nil_sublist _, by simp, rfl, rfl, rfl⟩
        ·
          have hv3 : ls[i].length ≤ 300 := by simp at hc; omega
          have hmk := mark_len ls[i] (by omega)
          refine XC.skip ?_
          refine nx (kp 0 rfl (kp 1 rfl (kp 2 rfl (kp 7 rfl (kp 8 rfl kn))))) ?_
          refine XC.reg1 ?_
          refine XL.q (q_move rfl) rfl ?_
          refine XL.q (q_move rfl) rfl ?_
          refine XL.q (q_move rfl) rfl ?_
          refine XL.q (q_atV2 (sz := 1) rfl rfl (by kernel_rfl) rfl (by first | assumption | exact Sl.rd (by assumption) (fun _ h => h)) (by omega)) rfl ?_
          refine XL.q (q_ldV (u := v) (Rd.mono hrl SubC.sub) rfl (by kernel_rfl) hvi) rfl ?_
          refine XL.callV (aS rfl a0) (by kernel_rfl) (mark_spec v ls[i] _ (hvr.mono SubC.sub) (by omega) (mA h4)) rfl ?_
          refine XL.q (q_sAdd rfl rfl rfl rfl (by first | omega | (simp only [List.length_append, List.length_cons, List.length_nil, List.length_take, List.length_drop]; omega))) rfl ?_
          rw [← hmt]
          refine XL.q (q_assign rfl) rfl ?_
          refine XL.nil ?_
          refine nb ?_
          refine nx (kp 0 rfl (kp 1 rfl (kp 2 rfl (kp 7 rfl (kp 8 rfl kn))))) ?_
          refine XC.reg1 ?_
          refine XL.q (q_move rfl) rfl ?_
          refine XL.q (q_addI (b := 1) rfl rfl rfl rfl (by omega)) rfl ?_
          refine XL.q (q_assign rfl) rfl ?_
          refine XL.nil ?_
          exact rn (i + 1) ⟨hlt, by rw [List.take_add_one, List.getElem?_eq_getElem hlt]; intro w hw; rcases List.mem_append.1 hw with hw | hw; exact h300 w hw; simp at hw; rw [hw]; exact hv3⟩ (by omega) (kp 0 rfl (kp 1 rfl (kp 2 rfl (kp 7 rfl (kp 8 rfl kn))))) .rfl (fun _ h => h)
      ·
        have hge : i = ls.length := by simp at hc; omega
        subst hge
        rw [List.take_length] at h300 hml hmb ⊢
        have hml2 : (marks ls).length ≤ 6420 := Nat.le_trans hml (by rw [Nat.min_self]; omega)
        refine XC.exit ?_
        refine te ?_
        refine re ?_
        refine be rfl ?_
        refine nx (kp 0 rfl (kp 1 rfl (kp 2 rfl (kp 7 rfl kn)))) ?_
        refine XC.reg ?_
        refine XL.q (q_move rfl) rfl ?_
        refine XL.call (aS rfl a0) (by kernel_rfl) (parts_spec ls hmb (by omega) _ (mA h4)) rfl ?_
        rintro v52 M52 J52 ⟨rfl, vg, rfl, hsg⟩
        haveI := hsg.cel
        refine XL.q (q_move rfl) rfl ?_
        refine XL.q (q_x0 rfl) rfl ?_
        refine XL.q (q_x1 rfl) rfl ?_
        refine XL.q (q_assign rfl) rfl ?_
        refine XL.q (q_assign rfl) rfl ?_
        refine XL.fin (kp 0 rfl (kp 1 rfl (kp 2 rfl (kp 7 rfl (kp 9 rfl (kp 10 rfl kn)))))) ?_
        refine XC.seq ?_
        refine XC.reg ?_
        refine XL.q (q_move rfl) rfl ?_
        refine XL.q (q_cmp false rfl rfl (neF rfl)) rfl ?_
        refine XL.q (q_move rfl) rfl ?_
        refine XL.gy rfl rfl (OpQ.opL (q_move rfl) rfl ?_)
        refine XL.gy rfl rfl (OpQ.opL (q_lenV2 (sz := 1) rfl (by kernel_rfl) (hsg.rd (R := M52) fun _ h => h)) rfl ?_)
        refine XL.gy rfl rfl (OpQ.opL (q_move rfl) rfl ?_)
        refine XL.gy rfl rfl (OpQ.opL (q_lenV2 (sz := 1) rfl (by kernel_rfl) hrl) rfl ?_)
        refine XL.gy rfl rfl (OpQ.opL (q_cmp false rfl rfl (neF rfl)) rfl ?_)
        refine XL.q (q_pickF rfl rfl) rfl ?_
        refine XL.fin (kp 0 rfl (kp 1 rfl (kp 2 rfl (kp 7 rfl (kp 9 rfl (kp 63 rfl kn)))))) ?_
        refine XC.condF rfl ?_
        refine XC.skip ?_
        refine nx (kp 0 rfl (kp 1 rfl (kp 2 rfl (kp 7 rfl (kp 9 rfl kn))))) ?_
        refine XC.seq ?_
        refine XC.reg ?_
        refine XL.q (q_assign rfl) rfl ?_
        refine XL.fin (kp 0 rfl (kp 1 rfl (kp 2 rfl (kp 7 rfl (kp 9 rfl (kp 11 rfl kn)))))) ?_
        refine XC.block ?_
        refine XC.loop (α := Nat) (fun i => [(0, vl), (1, .string (txt ss)), (2, .int .u16 (cut : Int)), (7, .string (txt (marks ls))), (9, vg), (11, .int .i64 (i : Int))]) (fun _ => M52) (fun _ => []) (fun i => i ≤ ls.length) (fun i => ls.length - i) 0 (Nat.zero_le _) (kp 0 rfl (kp 1 rfl (kp 2 rfl (kp 7 rfl (kp 9 rfl (kp 11 rfl kn)))))) (Fit.eq (by simp)) (fun _ h => by first | exact h | cases h) ?_
        rintro i hi
        refine XC.seq ?_
        refine XC.reg ?_
        refine XL.q (q_move rfl) rfl ?_
        refine XL.q (q_move rfl) rfl ?_
        refine XL.q (q_lenV2 (sz := 1) rfl (by kernel_rfl) hrl) rfl ?_
        refine XL.q (q_bin rfl rfl rfl) rfl ?_
        refine XL.fin (kp 0 rfl (kp 1 rfl (kp 2 rfl (kp 7 rfl (kp 9 rfl (kp 11 rfl (kp 67 rfl kn))))))) ?_
        refine XC.cond rfl (fun hc => ?_) (fun hc => ?_)
        ·
          have hlt : i < ls.length := by simp at hc; omega
          obtain ⟨v, hvi, hvr, hvb, hvl⟩ := hbs.at hlt
          haveI := hvr.cel
          refine XC.skip ?_
          refine nx (kp 0 rfl (kp 1 rfl (kp 2 rfl (kp 7 rfl (kp 9 rfl (kp 11 rfl kn)))))) ?_
          refine XC.seq ?_
          refine XC.block ?_
          refine XC.drawF [0, 1, 2, 3, 4, 5, 6, 7, 8, 9] [(0, 0), (1, 0), (2, 0), (3, 1), (4, 0), (5, 0), (6, 0), (7, 1), (8, 1), (9, 0)] (by kernel_rfl) (by kernel_rfl) fun hs => ?_
          refine XF.q hs rfl (q_move rfl) rfl ?_
          refine XF.q hs rfl (q_move rfl) rfl ?_
          refine XF.q hs rfl (q_atV2 (sz := 1) rfl rfl (by kernel_rfl) rfl (hsg.rd (R := M52) fun _ h => h) (by omega)) rfl ?_
          refine XF.r hs rfl (q_ldV (u := .string (txt ls[i])) (hsg.rd SubC.sub) rfl (by kernel_rfl) (by simp [strs, hlt])) rfl ?_
          refine XF.q hs rfl (q_move rfl) rfl ?_
          refine XF.q hs rfl (q_move rfl) rfl ?_
          refine XF.q hs rfl (q_atV2 (sz := 1) rfl rfl (by kernel_rfl) rfl hrl (by omega)) rfl ?_
          refine XF.r hs rfl (q_ldV (u := v) (Rd.mono hrl SubC.sub) rfl (by kernel_rfl) hvi) rfl ?_
          refine XF.r hs rfl (q_toStr2 rfl (by kernel_rfl) (hvr.mono SubC.sub)) rfl ?_
          refine XF.q hs rfl ((show (!decide (ls[i] = ls[i])) = false by simp) ▸ q_sNe rfl rfl rfl rfl hvb.lt hvb.lt) rfl ?_
          refine XF.fin (kp 0 rfl (kp 1 rfl (kp 2 rfl (kp 7 rfl (kp 9 rfl (kp 11 rfl (kp 79 rfl kn))))))) ?_
          refine XC.condF rfl ?_
          refine XC.skip ?_
          refine nb ?_
          refine nx (kp 0 rfl (kp 1 rfl (kp 2 rfl (kp 7 rfl (kp 9 rfl (kp 11 rfl kn)))))) ?_
          refine XC.reg1 ?_
          refine XL.q (q_move rfl) rfl ?_
          refine XL.q (q_addI (b := 1) rfl rfl rfl rfl (by omega)) rfl ?_
          refine XL.q (q_assign rfl) rfl ?_
          refine XL.nil ?_
          exact rn (i + 1) (by omega) (by omega) (kp 0 rfl (kp 1 rfl (kp 2 rfl (kp 7 rfl (kp 9 rfl (kp 11 rfl kn)))))) .rfl (fun _ h => h)
        ·
          have hge : i = ls.length := by simp at hc; omega
          refine XC.exit ?_
          refine te ?_
          refine re ?_
          refine be rfl ?_
          refine nx (kp 1 rfl (kp 2 rfl (kp 7 rfl kn))) ?_
          refine XC.seq ?_
          refine XC.reg ?_
          refine XL.q (q_move rfl) rfl ?_
          refine XL.q (q_move rfl) rfl ?_
          refine XL.q (q_move rfl) rfl ?_
          refine XL.q (q_same (k' := .i64) rfl (by kernel_rfl) (by show _ < 9223372036854775808; omega)) rfl ?_
          refine XL.q (q_move rfl) rfl ?_
          refine XL.q (q_sLen rfl rfl (by kernel_rfl)) rfl ?_
          refine XL.q (q_addI (b := 1) rfl rfl rfl rfl (by omega)) rfl ?_
          refine XL.q (q_remI rfl rfl rfl rfl (by omega)) rfl ?_
          refine XL.q (q_sHi (a := cut % ((marks ls).length + 1)) rfl rfl rfl (by kernel_rfl) rfl (Nat.lt_succ_iff.1 (Nat.mod_lt _ (Nat.succ_pos _)))) rfl ?_
          refine XL.lo rfl (l_buildSlice (e := 9) (sz := 1) (z := [.string ByteArray.empty, .string ByteArray.empty]) (by kernel_rfl) (eS rfl (eS rfl e0)) (bdS 0 1 rfl (by rfl) (bdS 1 1 rfl (by rfl) bd0)) rfl fun b89 => ?_)
          refine XL.q (q_lenS (e := 9) rfl (by kernel_rfl)) rfl ?_
          refine XL.q (q_move rfl) rfl ?_
          refine XL.fin (kp 89 rfl (kp 90 rfl (kp 91 rfl kn))) ?_
          refine XC.block ?_
          have hx : ∀ i : Nat, i < 2 → ∃ x : List Nat, [Value.string (txt ss), Value.string (txt ((marks ls).take (cut % ((marks ls).length + 1))))][i]? = some (.string (txt x)) ∧ B256 x ∧ x.length ≤ 6420 := by
            intro i hi
            rcases (by omega : i = 0 ∨ i = 1) with rfl | rfl
            · exact ⟨ss, rfl, hss, by omega⟩
            · exact ⟨_, rfl, @B256.take _ _ hmb, Nat.le_trans (List.length_take_le' _ _) (by omega)⟩
          generalize hgl : [Value.string (txt ss), Value.string (txt ((marks ls).take (cut % ((marks ls).length + 1))))] = two at hx ⊢
          have h2l : two.length = 2 := by rw [← hgl]; rfl
          refine XC.loop (α := Nat) (fun i => [(89, .slice (some ⟨b89, 0, none⟩) 2 2), (90, .int .i64 2), (91, .int .i64 (i : Int))]) (fun _ => [(b89, blk two 9)]) (fun _ => []) (fun i => i ≤ 2) (fun i => 2 - i) 0 (by omega) (kp 89 rfl (kp 90 rfl (kp 91 rfl kn))) (Fit.sub (.cons_cons _ (List.nil_sublist _))) (fun _ h => by first | exact h | cases h) ?_
          rintro i hi
          have hr89 : Rd [(b89, blk two 9)] 1 (.slice (some ⟨b89, 0, none⟩) 2 2) 2 two := Rd.whole (n := 2) List.mem_cons_self (by rw [h2l])
          refine XC.reg ?_
          refine XL.q (q_bin rfl rfl rfl) rfl ?_
          refine XL.fin (kp 89 rfl (kp 90 rfl (kp 91 rfl (kp 92 rfl kn)))) ?_
          refine XC.seq ?_
          refine XC.cond rfl (fun hc => ?_) (fun hc => ?_)
          ·
            have hlt : i < 2 := by simp at hc; omega
            obtain ⟨x, hxi, hxb, hxl⟩ := hx i hlt
            refine XC.skip ?_
            refine nx (kp 89 rfl (kp 90 rfl (kp 91 rfl kn))) ?_
            refine XC.seq ?_
            refine XC.block ?_
            refine XC.reg ?_
            refine XL.q (q_atV2 (sz := 1) rfl rfl (by kernel_rfl) rfl hr89 hlt) rfl ?_
            refine XL.q (q_ldV (u := .string (txt x)) (hr89.mono SubC.sub) rfl (by kernel_rfl) hxi) rfl ?_
            refine XL.q (q_assign rfl) rfl ?_
            refine XL.fin (kp 13 rfl (kp 89 rfl (kp 90 rfl (kp 91 rfl kn)))) ?_
            refine XC.reg ?_
            refine XL.q (q_move rfl) rfl ?_
            refine XL.call (aS rfl a0) (by kernel_rfl) (parts_any x hxb (by omega) _ c5 (mA h5) c6 (mA h6) (mA h4)) rfl ?_
            rintro v97 M97 J97 h97
            obtain ⟨l, vq, ec, rfl, hrq, hec, hlq⟩ : ∃ (l : List (List Nat)) (vq : Value) (ec : Int), v97 = .tuple #[vq, .int .i64 ec] ∧ Rd M97 1 vq l.length (strs l) ∧ (ec = 0 ∧ x = marks l ∨ ec = 4 ∧ l = []) ∧ (marks l).length ≤ 6420 ∧ B256 (marks l) := by
              rcases h97 with ⟨l, v, rfl, hm, hs⟩ | rfl
              · exact ⟨l, v, 0, rfl, hs.rd fun _ h => h, .inl ⟨rfl, hm⟩, hm ▸ hxl, hm ▸ hxb⟩
              · exact ⟨[], _, 4, rfl, Rd.nil, .inr ⟨rfl, rfl⟩, Nat.zero_le _, B256.nil⟩
            obtain ⟨hlq, hlqb⟩ := hlq
            haveI := hrq.cel
            obtain ⟨hp1, hp2⟩ := marks_parts hlq
            have hp3 := marks_part256 hlqb
            refine XL.q (q_move rfl) rfl ?_
            refine XL.q (q_x0 rfl) rfl ?_
            refine XL.q (q_x1 rfl) rfl ?_
            refine XL.q (q_assign rfl) rfl ?_
            refine XL.q (q_assign rfl) rfl ?_
            refine XL.fin (kp 13 rfl (kp 14 rfl (kp 15 rfl (kp 89 rfl (kp 90 rfl (kp 91 rfl kn)))))) ?_
            refine XC.reg ?_
            refine XL.q (q_assign rfl) rfl ?_
            refine XL.fin (kp 13 rfl (kp 14 rfl (kp 15 rfl (kp 16 rfl (kp 89 rfl (kp 90 rfl (kp 91 rfl kn))))))) ?_
            refine XC.seq ?_
            refine XC.reg ?_
            refine XL.q (q_assign rfl) rfl ?_
            refine XL.fin (kp 13 rfl (kp 14 rfl (kp 15 rfl (kp 16 rfl (kp 17 rfl (kp 89 rfl (kp 90 rfl (kp 91 rfl kn)))))))) ?_
            refine XC.block ?_
            refine XC.loop (α := Nat) (fun j => [(13, .string (txt x)), (14, vq), (15, .int .i64 ec), (16, .string (txt (marks (l.take j)))), (17, .int .i64 (j : Int)), (89, .slice (some ⟨b89, 0, none⟩) 2 2), (90, .int .i64 2), (91, .int .i64 (i : Int))]) (fun _ => M97 ++ [(b89, blk two 9)]) (fun _ => []) (fun j => j ≤ l.length ∧ (marks (l.take j)).length ≤ 6420) (fun j => l.length - j) 0 ⟨Nat.zero_le _, by simp [marks]⟩ (kp 13 rfl (kp 14 rfl (kp 15 rfl (kp 16 rfl (kp 17 rfl (kp 89 rfl (kp 90 rfl (kp 91 rfl kn)))))))) .rfl (fun _ h => by first | exact h | cases h) ?_
            rintro j ⟨hj, hjl⟩
            refine XC.seq ?_
            refine XC.reg ?_
            refine XL.q (q_move rfl) rfl ?_
            refine XL.q (q_move rfl) rfl ?_
            refine XL.q (q_lenV2 (sz := 1) rfl (by kernel_rfl) hrq) rfl ?_
            refine XL.q (q_bin rfl rfl rfl) rfl ?_
            refine XL.fin (kp 13 rfl (kp 14 rfl (kp 15 rfl (kp 16 rfl (kp 17 rfl (kp 89 rfl (kp 90 rfl (kp 91 rfl (kp 103 rfl kn))))))))) ?_
            refine XC.cond rfl (fun hc => ?_) (fun hc => ?_)
            ·
              have hlt2 : j < l.length := by simp at hc; omega
              have hmt := marks_take hlt2
              have hpl := hp2 _ (List.getElem_mem hlt2)
              haveI := hp3 _ (List.getElem_mem hlt2)
              have hmk := mark_len l[j] (by omega)
              have hfull : (marks (l.take (j + 1))).length ≤ 6420 := by
                have e : marks l = marks (l.take (j + 1)) ++ marks (l.drop (j + 1)) := by
                  unfold marks
                  rw [← List.flatMap_append, List.take_append_drop]
                rw [e, List.length_append] at hlq; omega
              refine XC.skip ?_
              refine nx (kp 13 rfl (kp 14 rfl (kp 15 rfl (kp 16 rfl (kp 17 rfl (kp 89 rfl (kp 90 rfl (kp 91 rfl kn)))))))) ?_
              refine XC.seq ?_
              refine XC.block ?_
              refine XC.reg1 ?_
              refine XL.q (q_move rfl) rfl ?_
              refine XL.q (q_move rfl) rfl ?_
              refine XL.q (q_move rfl) rfl ?_
              refine XL.q (q_atV2 (sz := 1) rfl rfl (by kernel_rfl) rfl hrq hlt2) rfl ?_
              refine XL.q (q_ldV (u := .string (txt l[j])) (hrq.mono SubC.sub) rfl (by kernel_rfl) (by simp [strs, hlt2])) rfl ?_
              refine XL.lo rfl (l_toBytes (e := 5) rfl rfl B256.lt (by kernel_rfl) (by kernel_rfl) (by kernel_rfl) rfl fun v111 B111 hs111 => ?_)
              refine XL.callV (aS rfl a0) (by kernel_rfl) (mark_spec v111 l[j] _ (hs111.mono SubC.sub) (by omega) (mA h4)) rfl ?_
              refine XL.q (q_sAdd rfl rfl rfl rfl (by first | omega | (simp only [List.length_append, List.length_cons, List.length_nil, List.length_take, List.length_drop]; omega))) rfl ?_
              rw [← hmt]
              refine XL.q (q_assign rfl) rfl ?_
              refine XL.nil ?_
              refine nb ?_
              refine nx (kp 13 rfl (kp 14 rfl (kp 15 rfl (kp 16 rfl (kp 17 rfl (kp 89 rfl (kp 90 rfl (kp 91 rfl kn)))))))) ?_
              refine XC.reg1 ?_
              refine XL.q (q_move rfl) rfl ?_
              refine XL.q (q_addI (b := 1) rfl rfl rfl rfl (by omega)) rfl ?_
              refine XL.q (q_assign rfl) rfl ?_
              refine XL.nil ?_
              exact rn (j + 1) ⟨hlt2, hfull⟩ (by omega) (kp 13 rfl (kp 14 rfl (kp 15 rfl (kp 16 rfl (kp 17 rfl (kp 89 rfl (kp 90 rfl (kp 91 rfl kn)))))))) Fit.tail (fun _ h => h)
            ·
              have hge : j = l.length := by simp at hc; omega
              subst hge
              rw [List.take_length]
              refine XC.exit ?_
              refine te ?_
              refine re ?_
              refine be rfl ?_
              refine nx (kp 13 rfl (kp 14 rfl (kp 15 rfl (kp 16 rfl (kp 89 rfl (kp 90 rfl (kp 91 rfl kn))))))) ?_
              rcases hec with ⟨rfl, hxm⟩ | ⟨rfl, rfl⟩
              ·
                haveI := hlqb
                haveI := hxb
                refine XC.reg ?_
                refine XL.q (q_move rfl) rfl ?_
                refine XL.q (q_cmp true rfl rfl (eqT rfl)) rfl ?_
                refine XL.q (q_move rfl) rfl ?_
                refine XL.gy rfl rfl (OpQ.opL (q_move rfl) rfl ?_)
                refine XL.gy rfl rfl (OpQ.opL (q_move rfl) rfl ?_)
                refine XL.gy rfl rfl (OpQ.opL ((show (!decide (marks l = x)) = false by simp [hxm]) ▸ q_sNe rfl rfl rfl rfl B256.lt B256.lt) rfl ?_)
                refine XL.q (q_pickT rfl rfl) rfl ?_
                refine XL.q (q_move rfl) rfl ?_
                refine XL.gy rfl rfl (OpQ.opL (q_move rfl) rfl ?_)
                refine XL.gy rfl rfl (OpQ.opL (q_cmp false rfl rfl (neF rfl)) rfl ?_)
                refine XL.gy rfl rfl (OpQ.opL (q_move rfl) rfl ?_)
                refine XL.gn rfl rfl rfl rfl ?_
                refine XL.gn rfl rfl rfl rfl ?_
                refine XL.gn rfl rfl rfl rfl ?_
                refine XL.gu rfl rfl rfl ?_
                refine XL.gu rfl rfl rfl ?_
                refine XL.gu rfl rfl rfl ?_
                refine XL.gn rfl rfl rfl rfl ?_
                refine XL.gy rfl rfl (OpQ.opL (q_pickF rfl rfl) rfl ?_)
                refine XL.q (q_pickF rfl rfl) rfl ?_
                refine XL.fin (kp 89 rfl (kp 90 rfl (kp 91 rfl (kp 133 rfl kn)))) ?_
                refine XC.condF rfl ?_
                refine XC.skip ?_
                refine nb ?_
                refine nx (kp 89 rfl (kp 90 rfl (kp 91 rfl kn))) ?_
                refine XC.reg1 ?_
                refine XL.q (q_addI (b := 1) rfl rfl rfl rfl (by omega)) rfl ?_
                refine XL.q (q_move rfl) rfl ?_
                refine XL.nil ?_
                exact rn (i + 1) (by omega) (by omega) (kp 89 rfl (kp 90 rfl (kp 91 rfl kn))) Fit.tail (fun _ h => by cases h)
              ·
                refine XC.reg ?_
                refine XL.q (q_move rfl) rfl ?_
                refine XL.q (q_cmp false rfl rfl (eqF (by decide))) rfl ?_
                refine XL.q (q_move rfl) rfl ?_
                refine XL.gn rfl rfl rfl rfl ?_
                refine XL.gn rfl rfl rfl rfl ?_
                refine XL.gn rfl rfl rfl rfl ?_
                refine XL.q (q_pickF rfl rfl) rfl ?_
                refine XL.q (q_move rfl) rfl ?_
                refine XL.gy rfl rfl (OpQ.opL (q_move rfl) rfl ?_)
                refine XL.gy rfl rfl (OpQ.opL (q_cmp true rfl rfl (neT (by decide))) rfl ?_)
                refine XL.gy rfl rfl (OpQ.opL (q_move rfl) rfl ?_)
                refine XL.gy rfl rfl (OpQ.opL (q_move rfl) rfl ?_)
                refine XL.gy rfl rfl (OpQ.opL (q_cmp false rfl rfl (neF rfl)) rfl ?_)
                refine XL.gy rfl rfl (OpQ.opL (q_move rfl) rfl ?_)
                refine XL.gy rfl rfl (OpQ.opL (q_move rfl) rfl ?_)
                refine XL.gy rfl rfl (OpQ.opL (q_lenV2 (sz := 1) rfl (by kernel_rfl) hrq) rfl ?_)
                refine XL.gy rfl rfl (OpQ.opL (q_cmp false rfl rfl (neF rfl)) rfl ?_)
                refine XL.gy rfl rfl (OpQ.opL (q_pickF rfl rfl) rfl ?_)
                refine XL.gy rfl rfl (OpQ.opL (q_pickT rfl rfl) rfl ?_)
                refine XL.q (q_pickF rfl rfl) rfl ?_
                refine XL.fin (kp 89 rfl (kp 90 rfl (kp 91 rfl (kp 133 rfl kn)))) ?_
                refine XC.condF rfl ?_
                refine XC.skip ?_
                refine nb ?_
                refine nx (kp 89 rfl (kp 90 rfl (kp 91 rfl kn))) ?_
                refine XC.reg1 ?_
                refine XL.q (q_addI (b := 1) rfl rfl rfl rfl (by omega)) rfl ?_
                refine XL.q (q_move rfl) rfl ?_
                refine XL.nil ?_
                exact rn (i + 1) (by omega) (by omega) (kp 89 rfl (kp 90 rfl (kp 91 rfl kn))) Fit.tail (fun _ h => by cases h)
          ·
            refine XC.exit ?_
            refine te ?_
            refine re ?_
            refine be rfl ?_
            refine nx kn ?_
            refine XC.reg ?_
            refine XL.q (q_assign rfl) rfl ?_
            refine XL.fin (kp 6 rfl kn) ?_
            refine XC.ret ?_
            exact ⟨_, [], [], res1 rfl rfl, List.nil_sublist _, by simp, rfl, rfl, rfl⟩
