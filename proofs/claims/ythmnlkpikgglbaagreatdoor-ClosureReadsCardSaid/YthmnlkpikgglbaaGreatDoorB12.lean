/- Part 12 of the texts of this claim, one behind the other. -/
import Derived.Test.YthmnlkpikgglbaaGreatDoorB11
set_option linter.unusedVariables false
set_option linter.unusedSimpArgs false
set_option linter.unusedVariables false
set_option linter.unusedSimpArgs false
namespace Go.Proofs.YthmnlkpikgglbaaGreatDoor
open Go.Px
def padB (h : List Bool) (n : Nat) : List Bool := h ++ List.replicate (n - h.length) false
theorem padB_len {h : List Bool} {n : Nat} (hl : h.length ≤ n) : (padB h n).length = n := by simp [padB]; omega
theorem kat_pad (h : List Bool) (n i : Nat) : kat (padB h n) i = kat h i := by
  unfold kat padB
  rw [List.getD_eq_getElem?_getD, List.getD_eq_getElem?_getD]
  by_cases hi : i < h.length
  · rw [List.getElem?_append_left hi]
  · rw [List.getElem?_append_right (by omega), List.getElem?_eq_none (l := h) (by omega), List.getElem?_replicate]
    split <;> rfl
theorem pad_le (h : List Bool) (n : Nat) : Le h (padB h n) := fun i hi => by rw [kat_pad]; exact hi
theorem le_pad (h : List Bool) (n : Nat) : Le (padB h n) h := fun i hi => by rw [kat_pad] at hi; exact hi
theorem cnt_pad (h : List Bool) (n : Nat) : cnt (padB h n) = cnt h := by
  unfold cnt padB
  rw [List.countP_append]
  simp [List.countP_replicate]
theorem cnt_top (h : List Bool) : cnt h ≤ h.length := List.countP_le_length
def chgd (ts : List Tm) (h : List Bool) (n : Nat) : Bool := decide (psN ts h n ≠ h)
theorem chgd_0 (ts : List Tm) (h : List Bool) : chgd ts h 0 = false := by unfold chgd; exact decide_eq_false (fun hh => hh rfl)
/-- A term that is new. -/
theorem chgd_y {ts : List Tm} {h : List Bool} {n : Nat} (hl : n < h.length) (h1 : kat (psN ts h n) n = false) (h2 : madeF ts (psN ts h n) n = true) : psN ts h (n + 1) = (psN ts h n).set n true ∧ chgd ts h (n + 1) = true := by
  have e : psN ts h (n + 1) = (psN ts h n).set n true := by rw [psN_succ]; unfold stF; rw [h1, h2]; rfl
  refine ⟨e, decide_eq_true fun hh => ?_⟩
  have h3 : kat h n = false := by
    cases hk : kat h n with
    | false => rfl
    | true => rw [psN_le ts h n n hk] at h1; cases h1
  have h4 := kat_set (h := psN ts h n) (i := n) (j := n) (by rw [psN_len]; exact hl)
  rw [← e, hh, h3] at h4
  simp at h4
theorem chgd_n {ts : List Tm} {h : List Bool} {n : Nat} (h1 : (!kat (psN ts h n) n && madeF ts (psN ts h n) n) = false) : psN ts h (n + 1) = psN ts h n ∧ chgd ts h (n + 1) = chgd ts h n := by
  have e : psN ts h (n + 1) = psN ts h n := by rw [psN_succ]; unfold stF; rw [h1]; rfl
  exact ⟨e, by unfold chgd; rw [e]⟩
theorem padB_id {h : List Bool} {n : Nat} (hl : h.length = n) : padB h n = h := by simp [padB, hl]

set_option maxRecDepth 100000 in
theorem knew_spec (bt : Nat) (A : Mem) : FnX Tryz.prog 11 [.pointer (some ⟨bt, 0, none⟩)] [] A fun q M J => ∃ kb, q = .pointer (some ⟨kb, 0, none⟩) ∧ Knw kb bt [] M := by
  skip
  refine FnX.enterZ (N := 6) Tryz.func11 rfl rfl rfl fun w_ => ?_
  refine XC.keep (kp 0 rfl kn) ?_
  refine XC.reg ?_
  refine XL.q (q_assign rfl) rfl ?_
  refine XL.fin (kp 0 rfl kn) ?_
  refine XC.reg ?_
  refine XL.q (q_move rfl) rfl ?_
  refine XL.q (q_build (place := fun x => #[(0, 1), (1, 1)][x]?) (z := [.pointer none, .slice none 0 0]) (fun _ => by kernel_rfl) (eS rfl e0) (bdS 0 1 rfl (by rfl) bd0)) rfl ?_
  refine XL.lo rfl (l_box rfl (by first | exact Cel.cel | rfl) rfl fun b5 => ?_)
  refine XL.q (q_assign rfl) rfl ?_
  refine XL.fin (kp 2 rfl kn) ?_
  refine XC.ret ?_
  exact ⟨_, [(b5, _)], [], res1 rfl rfl, Fit.none (Fit.last PickC.perm), b5, rfl, _, [], rfl, Sl.nil⟩

set_option maxRecDepth 100000 in
theorem grow_spec (kb bt bm : Nat) (ts : List Tm) (h : List Bool) (MK A : Mem) (hK : Knw kb bt h MK) (hT0 : TbR bt bm ts A) (hl : h.length ≤ ts.length) (hn : ts.length ≤ 1048576) : FnX Tryz.prog 33 [.pointer (some ⟨kb, 0, none⟩)] MK A fun q M J => Knw kb bt (padB h ts.length) M := by
  obtain ⟨v, B, rfl, hsl⟩ := hK.ex
  haveI := hsl.cel
  obtain ⟨MT, hT, hsub⟩ := hT0.ex
  refine FnX.enterZ (N := 21) Tryz.func33 rfl rfl rfl fun w_ => ?_
  refine XC.keep (kp 0 rfl kn) ?_
  refine XC.drawF1 [0, 1, 2, 3, 4, 5, 6, 7, 8, 9, 10, 11, 12, 13, 14, 15, 17, 18] [(0, 0), (1, 0), (2, 0), (3, 0), (4, 1), (5, 0), (6, 0), (7, 0), (8, 1), (10, 0), (11, 0), (12, 0), (13, 1), (14, 0), (9, 2), (15, 0), (16, 2), (17, 0), (18, 0), (19, 2)] (by kernel_rfl) (by kernel_rfl) fun hs => ?_
  refine XF.q hs rfl (q_move rfl) rfl ?_
  refine XF.q hs rfl (q_move rfl) rfl ?_
  refine XF.q hs rfl (q_nil rfl) rfl ?_
  refine XF.q hs rfl (q_fieldAddrN 1 (off := 1) rfl (by kernel_rfl) rfl) rfl ?_
  refine XF.r hs rfl (q_load rfl (by kernel_rfl) (by first | exact At.mem | exact mA (by assumption)) (by rfl)) rfl ?_
  refine XF.q hs rfl (q_move rfl) rfl ?_
  refine XF.q hs rfl (q_nil rfl) rfl ?_
  refine XF.q hs rfl (q_fieldAddrN 0 (off := 0) rfl (by kernel_rfl) rfl) rfl ?_
  refine XF.r hs rfl (q_load rfl (by kernel_rfl) (by first | exact At.mem | exact mA (by assumption)) (by rfl)) rfl ?_
  refine XF.q hs rfl (q_move rfl) rfl ?_
  refine XF.q hs rfl (q_nil rfl) rfl ?_
  refine XF.q hs rfl (q_fieldAddrN 1 (off := 1) rfl (by kernel_rfl) rfl) rfl ?_
  refine XF.r hs rfl (q_load rfl (by kernel_rfl) (by first | exact At.mem | exact mA (by assumption)) (by rfl)) rfl ?_
  refine XF.q hs rfl (q_lenV2 (sz := 1) rfl (by kernel_rfl) (hsl.rd (R := B) fun _ h => h)) rfl ?_
  refine XF.callV rfl (aS rfl a0) (by kernel_rfl) (lenT_spec bt bm ts MT _ hT (fun x hx => mA (hsub x hx))) rfl ?_
  refine XF.q hs rfl (q_subI rfl rfl rfl rfl (by omega) (by omega)) rfl ?_
  refine XF.tl rfl rfl rfl (l_appendZB (e := 4) (by_ := 1) (m := ts.length - h.length) rfl rfl (by omega) (by kernel_rfl) hsl PickC.perm (by unfold maxLen; omega) (by omega) rfl fun v18 B18 hs18 => ?_)
  refine XF.q hs rfl (q_nil rfl) rfl ?_
  refine XF.q hs rfl (q_fieldAddrN 1 (off := 1) rfl (by kernel_rfl) rfl) rfl ?_
  refine XF.tl rfl rfl rfl (l_store rfl rfl hs18.one (by kernel_rfl) SetC.set UpC.upd ?_)
  refine XF.nil ?_
  exact ⟨_, _, [], res0 rfl, Fit.none (Fit.last PickC.perm), v18, B18, rfl, by rw [padB_len hl]; exact sl_eq hs18 (by omega) (by rw [padB, bools_app])⟩

set_option maxRecDepth 100000 in
theorem close_spec (kb bt bm : Nat) (ts : List Tm) (h : List Bool) (MK A : Mem) (hK : Knw kb bt h MK) (hT0 : TbR bt bm ts A) (hl : h.length ≤ ts.length) (hn : ts.length ≤ 1048576) {e4 : TypeId} {f4 : Nat × Nat} (h4 : (4, Obj.cells (nums .u64 pow10T).toArray e4 f4) ∈ A) : FnX Tryz.prog 15 [.pointer (some ⟨kb, 0, none⟩)] MK A fun q M J => ∃ h', Clo ts h h' ∧ Knw kb bt h' M := by
  obtain ⟨v, B, rfl, hsl⟩ := hK.ex
  haveI := hsl.cel
  refine FnX.enterZ (N := 44) Tryz.func15 rfl rfl rfl fun w_ => ?_
  refine XC.keep (kp 0 rfl kn) ?_
  refine XC.seq ?_
  refine XC.reg ?_
  refine XL.q (q_move rfl) rfl ?_
  refine XL.q (q_ptrEqNil (e := 79) rfl rfl (by kernel_rfl)) rfl ?_
  refine XL.q (q_move rfl) rfl ?_
  refine XL.gy rfl rfl (OpQ.opL (q_move rfl) rfl ?_)
  refine XL.gy rfl rfl (OpQ.opL (q_nil rfl) rfl ?_)
  refine XL.gy rfl rfl (OpQ.opL (q_fieldAddrN 0 (off := 0) rfl (by kernel_rfl) rfl) rfl ?_)
  refine XL.gy rfl rfl (OpQ.opL (q_load rfl (by kernel_rfl) (by first | exact At.mem | exact mA (by assumption)) (by rfl)) rfl ?_)
  refine XL.gy rfl rfl (OpQ.opL (q_ptrEqNil (e := 83) rfl rfl (by kernel_rfl)) rfl ?_)
  refine XL.q (q_pickF rfl rfl) rfl ?_
  refine XL.fin (kp 0 rfl (kp 12 rfl kn)) ?_
  refine XC.condF rfl ?_
  refine XC.skip ?_
  refine nx (kp 0 rfl kn) ?_
  refine XC.reg ?_
  refine XL.q (q_assign rfl) rfl ?_
  refine XL.fin (kp 0 rfl (kp 2 rfl kn)) ?_
  refine XC.block ?_
  refine XC.loop (α := Bool × List Bool × Mem) (fun x => [(0, .pointer (some ⟨kb, 0, none⟩)), (2, .bool x.1)]) (fun x => x.2.2) (fun _ => []) (fun x => Knw kb bt x.2.1 x.2.2 ∧ x.2.1.length ≤ ts.length ∧ Le h x.2.1 ∧ (∀ h', Le h h' → Cld ts h' → Le x.2.1 h') ∧ (x.1 = false → x.2.1.length = ts.length ∧ Cld ts x.2.1)) (fun x => 2 * (ts.length - cnt x.2.1) + (if x.1 then 1 else 0)) ⟨true, h, _⟩ ⟨hK, hl, Le.refl h, fun _ h1 _ => h1, fun h => by cases h⟩ (kp 0 rfl (kp 2 rfl kn)) .rfl (fun _ h => h) ?_
  rintro ⟨mo, g, MKi⟩ ⟨hKi, hgl, hg1, hg2, hg3⟩
  dsimp only at hKi hgl hg1 hg2 hg3 ⊢
  refine XC.seq ?_
  refine XC.reg ?_
  refine XL.q (q_move rfl) rfl ?_
  refine XL.fin (kp 0 rfl (kp 13 rfl kn)) ?_
  refine XC.cond rfl (fun hc => ?_) (fun hc => ?_)
  ·
    obtain rfl : mo = true := hc
    refine XC.skip ?_
    refine nx (kp 0 rfl kn) ?_
    refine XC.block ?_
    refine XC.reg ?_
    refine XL.q (q_assign rfl) rfl ?_
    refine XL.fin (kp 0 rfl (kp 2 rfl kn)) ?_
    refine XC.reg ?_
    refine XL.q (q_move rfl) rfl ?_
    refine XL.lo rfl (l_call (Mc := MKi) (R := _) (aS rfl a0) (by kernel_rfl) PickC.perm (grow_spec kb bt bm ts g MKi _ hKi (hT0.mono SubC.sub) hgl hn) rfl ?_)
    rintro v15 M15 J15 hK15
    clear hKi
    have hpl := padB_len hgl
    have hq1 : Le g (padB g ts.length) := pad_le g _
    have hq2 := le_pad g ts.length
    have hcp := cnt_pad g ts.length
    generalize hp : padB g ts.length = p at *
    obtain ⟨v, B, rfl, hsl⟩ := hK15.ex
    clear hK15
    haveI := hsl.cel
    refine XL.fin (kp 0 rfl (kp 2 rfl kn)) ?_
    refine XC.reg ?_
    refine XL.q (q_move rfl) rfl ?_
    refine XL.q (q_nil rfl) rfl ?_
    refine XL.q (q_fieldAddrN 1 (off := 1) rfl (by kernel_rfl) rfl) rfl ?_
    refine XL.q (q_load rfl (by kernel_rfl) (by first | exact At.mem | exact mA (by assumption)) (by rfl)) rfl ?_
    refine XL.q (q_lenV2 (sz := 1) rfl (by kernel_rfl) (hsl.rd (R := B) fun _ h => h)) rfl ?_
    refine XL.q (q_move rfl) rfl ?_
    refine XL.fin (kp 0 rfl (kp 2 rfl (kp 20 rfl (kp 21 rfl kn)))) ?_
    refine XC.block ?_
    rw [hpl]
    refine XC.loop (α := Nat × Value × Mem) (fun x => [(0, .pointer (some ⟨kb, 0, none⟩)), (2, .bool (chgd ts p x.1)), (20, .int .i64 ((ts.length : Nat) : Int)), (21, .int .i64 ((x.1 : Nat) : Int))]) (fun x => (kb, blk [.pointer (some ⟨bt, 0, none⟩), x.2.1] 79) :: x.2.2) (fun _ => []) (fun x => x.1 ≤ ts.length ∧ Sl 1 x.2.1 ts.length (bools (psN ts p x.1)) x.2.2) (fun x => ts.length - x.1) ⟨0, v, B⟩ ⟨Nat.zero_le _, by rw [← hpl]; exact hsl⟩ (kp 0 rfl (kp 2 (by rw [chgd_0]; rfl) (kp 20 rfl (kp 21 rfl kn)))) (Fit.last PickC.perm) (fun _ h => by cases h) ?_
    clear hsl
    rintro ⟨i, v, B⟩ ⟨hi, hsl⟩
    dsimp only at hi hsl ⊢
    haveI := hsl.cel
    refine XC.reg ?_
    refine XL.q (q_bin rfl rfl rfl) rfl ?_
    refine XL.fin (kp 0 rfl (kp 2 rfl (kp 20 rfl (kp 21 rfl (kp 22 rfl kn))))) ?_
    refine XC.seq ?_
    refine XC.cond rfl (fun hc => ?_) (fun hc => ?_)
    ·
      have hlt : i < ts.length := by simp at hc; omega
      refine XC.skip ?_
      refine nx (kp 0 rfl (kp 2 rfl (kp 20 rfl (kp 21 rfl kn)))) ?_
      refine XC.seq ?_
      refine XC.block ?_
      refine XC.reg ?_
      refine XL.q (q_move rfl) rfl ?_
      refine XL.q (q_assign rfl) rfl ?_
      refine XL.fin (kp 0 rfl (kp 2 rfl (kp 3 rfl (kp 20 rfl (kp 21 rfl kn))))) ?_
      refine XC.reg ?_
      refine XL.q (q_move rfl) rfl ?_
      refine XL.q (q_nil rfl) rfl ?_
      refine XL.q (q_fieldAddrN 1 (off := 1) rfl (by kernel_rfl) rfl) rfl ?_
      refine XL.q (q_load rfl (by kernel_rfl) (by first | exact At.mem | exact mA (by assumption)) (by rfl)) rfl ?_
      refine XL.q (q_move rfl) rfl ?_
      refine XL.q (q_atV2 (sz := 1) rfl rfl (by kernel_rfl) rfl (hsl.rd (R := B) fun _ h => h) hlt) rfl ?_
      refine XL.q (q_ldV (j := i) (u := .bool ((psN ts p i).getD i false)) (hsl.rd SubC.sub) rfl (by kernel_rfl) (bools_get (by rw [psN_len]; omega))) rfl ?_
      refine XL.q (q_not rfl) rfl ?_
      refine XL.q (q_move rfl) rfl ?_
      refine XL.split (t := 32) rfl (fun hb => ?_) (fun hb => ?_)
      ·
        have hk1 : kat (psN ts p i) i = false := by unfold kat; simpa using hb
        refine XL.gy rfl rfl (OpQ.opL (q_move rfl) rfl ?_)
        refine XL.gy rfl rfl (OpQ.opL (q_move rfl) rfl ?_)
        refine XL.callVg rfl rfl (aS rfl (aS rfl a0)) (by kernel_rfl) (made_k kb bt bm ts (psN ts p i) i _ (Knw.rd ⟨v, B, rfl, by rw [psN_len, hpl]; exact hsl⟩ SubC.sub) (hT0.mono SubC.sub) hlt (SubC.sub _ h4)) rfl ?_
        refine XL.q (q_pickT rfl rfl) rfl ?_
        refine XL.fin (kp 0 rfl (kp 2 rfl (kp 3 rfl (kp 20 rfl (kp 21 rfl (kp 36 rfl kn)))))) ?_
        refine XC.cond rfl (fun hc => ?_) (fun hc => ?_)
        ·
          obtain ⟨he1, he2⟩ := chgd_y (by omega) hk1 hc
          refine XC.reg1 ?_
          refine XL.q (q_move rfl) rfl ?_
          refine XL.q (q_nil rfl) rfl ?_
          refine XL.q (q_fieldAddrN 1 (off := 1) rfl (by kernel_rfl) rfl) rfl ?_
          refine XL.q (q_load rfl (by kernel_rfl) (by first | exact At.mem | exact mA (by assumption)) (by rfl)) rfl ?_
          refine XL.q (q_move rfl) rfl ?_
          refine XL.q (q_atV2 (sz := 1) rfl rfl (by kernel_rfl) rfl (hsl.rd (R := B) fun _ h => h) hlt) rfl ?_
          refine XL.lo rfl (l_stE hsl rfl rfl rfl (by kernel_rfl) hlt PickC.perm fun B9 hs9 => ?_)
          refine XL.q (q_assign rfl) rfl ?_
          refine XL.nil ?_
          refine nb ?_
          refine nx (kp 0 rfl (kp 2 rfl (kp 20 rfl (kp 21 rfl kn)))) ?_
          refine XC.reg1 ?_
          refine XL.q (q_addI (b := 1) rfl rfl rfl rfl (by omega)) rfl ?_
          refine XL.q (q_move rfl) rfl ?_
          refine XL.nil ?_
          exact rn ⟨i + 1, v, B9⟩ ⟨by dsimp only; omega, by dsimp only; rw [he1, ← bools_set]; exact hs9⟩ (by dsimp only; omega) (kp 0 rfl (kp 2 (by dsimp only; rw [he2]; rfl) (kp 20 rfl (kp 21 rfl kn)))) (Fit.pick (B := [_]) PickC.perm (Fit.last PickC.perm)) (fun _ h => h)
        ·
          obtain ⟨he1, he2⟩ := chgd_n (by rw [hk1, hc]; rfl)
          refine XC.skip ?_
          refine nb ?_
          refine nx (kp 0 rfl (kp 2 rfl (kp 20 rfl (kp 21 rfl kn)))) ?_
          refine XC.reg1 ?_
          refine XL.q (q_addI (b := 1) rfl rfl rfl rfl (by omega)) rfl ?_
          refine XL.q (q_move rfl) rfl ?_
          refine XL.nil ?_
          exact rn ⟨i + 1, v, B⟩ ⟨by dsimp only; omega, by dsimp only; rw [he1]; exact hsl⟩ (by dsimp only; omega) (kp 0 rfl (kp 2 (by dsimp only; rw [he2]; rfl) (kp 20 rfl (kp 21 rfl kn)))) (Fit.pick (B := [_]) PickC.perm (Fit.last PickC.perm)) (fun _ h => h)
      ·
        have hk1 : kat (psN ts p i) i = true := by unfold kat; simpa using hb
        obtain ⟨he1, he2⟩ := chgd_n (by rw [hk1]; rfl)
        refine XL.gn rfl rfl rfl rfl ?_
        refine XL.gn rfl rfl rfl rfl ?_
        refine XL.gn rfl rfl rfl rfl ?_
        refine XL.q (q_pickF rfl rfl) rfl ?_
        refine XL.fin (kp 0 rfl (kp 2 rfl (kp 3 rfl (kp 20 rfl (kp 21 rfl (kp 36 rfl kn)))))) ?_
        refine XC.condF rfl ?_
        refine XC.skip ?_
        refine nb ?_
        refine nx (kp 0 rfl (kp 2 rfl (kp 20 rfl (kp 21 rfl kn)))) ?_
        refine XC.reg1 ?_
        refine XL.q (q_addI (b := 1) rfl rfl rfl rfl (by omega)) rfl ?_
        refine XL.q (q_move rfl) rfl ?_
        refine XL.nil ?_
        exact rn ⟨i + 1, v, B⟩ ⟨by dsimp only; omega, by dsimp only; rw [he1]; exact hsl⟩ (by dsimp only; omega) (kp 0 rfl (kp 2 (by dsimp only; rw [he2]; rfl) (kp 20 rfl (kp 21 rfl kn)))) (Fit.pick (B := [_]) PickC.perm (Fit.last PickC.perm)) (fun _ h => h)
    ·
      have hge : i = ts.length := by simp at hc; omega
      subst hge
      refine XC.exit ?_
      refine te ?_
      refine re ?_
      refine be rfl ?_
      refine nb ?_
      have hcl := cnt_le (h := p) (h' := psN ts p ts.length) (by rw [psN_len]) (psN_le _ _ _)
      have hct := cnt_top (psN ts p ts.length)
      rw [psN_len, hpl] at hct
      have hne : chgd ts p ts.length = true → p ≠ psN ts p ts.length := fun h1 h2 => (of_decide_eq_true h1) h2.symm
      refine rn ⟨chgd ts p ts.length, psN ts p ts.length, (kb, blk [.pointer (some ⟨bt, 0, none⟩), v] 79) :: B⟩ ⟨⟨v, B, rfl, by rw [psN_len, hpl]; exact hsl⟩, by dsimp only; rw [psN_len]; omega, hg1.trans (hq1.trans (psN_le _ _ _)), fun h' a b => psN_below (hq2.trans (hg2 h' a b)) b _, fun hf => ?_⟩ ?_ (kp 0 rfl (kp 2 rfl kn)) (Fit.last PickC.perm) (fun _ h => by cases h)
      · have e := Decidable.not_not.1 (of_decide_eq_false hf)
        dsimp only
        rw [e]
        exact ⟨hpl, Cld.of hpl e⟩
      · dsimp only
        cases hch : chgd ts p ts.length with
        | true =>
          have h5 := hne hch
          have : cnt p ≠ cnt (psN ts p ts.length) := fun h6 => h5 (hcl.2 h6)
          simp only [if_true]
          omega
        | false => simp only [if_true, Bool.false_eq_true, if_false]; omega
  ·
    obtain rfl : mo = false := hc
    obtain ⟨hg4, hg5⟩ := hg3 rfl
    refine XC.exit ?_
    refine te ?_
    refine re ?_
    refine be rfl ?_
    exact ⟨_, MKi, [], res0 rfl, Fit.none (Fit.last PickC.perm), g, ⟨hg4, hg1, hg5, hg2⟩, hKi⟩

end Go.Proofs.YthmnlkpikgglbaaGreatDoor
/- The walks of package closure: Learn, Has. -/
set_option linter.unusedVariables false
set_option linter.unusedSimpArgs false
namespace Go.Proofs.YthmnlkpikgglbaaGreatDoor
open Go.Px
abbrev Lst2 := List Tm × List Bool
def lrSt (st : Lst2) (w : List Nat) : Lst2 := (rdT st.1 w, (padB st.2 (rdT st.1 w).length).set (rdI st.1 w) true)
def lrAll (ts : List Tm) (h : List Bool) (ls : List (List Nat)) : Lst2 := ls.foldl lrSt (ts, h)
theorem lrSt_len {st : Lst2} {w : List Nat} (hl : st.2.length ≤ st.1.length) : (lrSt st w).2.length = (lrSt st w).1.length := by
  show ((padB st.2 (rdT st.1 w).length).set _ true).length = (rdT st.1 w).length
  have := rdT_ge (ts := st.1) (w := w)
  rw [List.length_set, padB_len (by omega)]
theorem kn_get {R : Mem} {vs : List Value} {ls : List (List Nat)} (h : Lst R vs ls) {i : Nat} (hi : i < ls.length) : ∃ v, vs[i]? = some v ∧ By R v ls[i] := h.at hi

set_option maxRecDepth 100000 in
theorem learn_spec (kb bt bm : Nat) (ts : List Tm) (h : List Bool) (vl : Value) (ls : List (List Nat)) (MK MT A : Mem) (hK : Knw kb bt h MK) (hT : Tab bt bm ts MT) (hw : LsV A vl ls) (hl : h.length ≤ ts.length) (hn : ts.length + ls.length ≤ 1048576) {e4 : TypeId} {f4 : Nat × Nat} (h4 : (4, Obj.cells (nums .u64 pow10T).toArray e4 f4) ∈ A) : FnX Tryz.prog 13 [.pointer (some ⟨kb, 0, none⟩), vl] (MK ++ MT) A fun q M J => ∃ h' MK' MT', M = MK' ++ MT' ∧ Clo (lrAll ts h ls).1 (lrAll ts h ls).2 h' ∧ Knw kb bt h' MK' ∧ Tab bt bm (lrAll ts h ls).1 MT' := by
  have hK0 := hK
  obtain ⟨v, B, rfl, hsl⟩ := hK.ex
  clear hK
  haveI := hsl.cel
  obtain ⟨wvs, hwr, hwl⟩ := hw.ex
  haveI := hwr.cel
  refine FnX.enterZ (N := 39) Tryz.func13 rfl rfl rfl fun w_ => ?_
  refine XC.keep (kp 0 rfl (kp 1 rfl kn)) ?_
  refine XC.seq ?_
  refine XC.reg ?_
  refine XL.q (q_move rfl) rfl ?_
  refine XL.q (q_ptrEqNil (e := 79) rfl rfl (by kernel_rfl)) rfl ?_
  refine XL.q (q_move rfl) rfl ?_
  refine XL.gy rfl rfl (OpQ.opL (q_move rfl) rfl ?_)
  refine XL.gy rfl rfl (OpQ.opL (q_nil rfl) rfl ?_)
  refine XL.gy rfl rfl (OpQ.opL (q_fieldAddrN 0 (off := 0) rfl (by kernel_rfl) rfl) rfl ?_)
  refine XL.gy rfl rfl (OpQ.opL (q_load rfl (by kernel_rfl) At.mem (by rfl)) rfl ?_)
  refine XL.gy rfl rfl (OpQ.opL (q_ptrEqNil (e := 83) rfl rfl (by kernel_rfl)) rfl ?_)
  refine XL.q (q_pickF rfl rfl) rfl ?_
  refine XL.fin (kp 0 rfl (kp 1 rfl (kp 15 rfl kn))) ?_
  refine XC.condF rfl ?_
  refine XC.skip ?_
  refine nx (kp 0 rfl (kp 1 rfl kn)) ?_
  refine XC.seq ?_
  refine XC.reg ?_
  refine XL.q (q_move rfl) rfl ?_
  refine XL.q (q_lenV2 (sz := 1) rfl (by kernel_rfl) hwr) rfl ?_
  refine XL.q (q_move rfl) rfl ?_
  refine XL.fin (kp 0 rfl (kp 16 rfl (kp 17 rfl (kp 18 rfl kn)))) ?_
  refine XC.block ?_
  refine XC.loop (α := Nat × Mem × Mem) (fun x => [(0, .pointer (some ⟨kb, 0, none⟩)), (16, vl), (17, .int .i64 ((ls.length : Nat) : Int)), (18, .int .i64 ((x.1 : Nat) : Int))]) (fun x => x.2.1 ++ x.2.2) (fun _ => []) (fun x => x.1 ≤ ls.length ∧ Knw kb bt (((ls.take x.1).foldl lrSt (ts, h)).2) x.2.1 ∧ Tab bt bm (((ls.take x.1).foldl lrSt (ts, h)).1) x.2.2 ∧ (((ls.take x.1).foldl lrSt (ts, h)).2).length ≤ (((ls.take x.1).foldl lrSt (ts, h)).1).length ∧ (((ls.take x.1).foldl lrSt (ts, h)).1).length ≤ ts.length + x.1) (fun x => ls.length - x.1) ⟨0, _, MT⟩ ⟨Nat.zero_le _, hK0, hT, hl, Nat.le_refl _⟩ (kp 0 rfl (kp 16 rfl (kp 17 rfl (kp 18 rfl kn)))) .rfl (fun _ h => h) ?_
  clear hK0 hT hsl
  rintro ⟨i, MKi, MTi⟩ ⟨hi, hKi, hTi, hli, hni⟩
  dsimp only at hi hKi hTi hli hni ⊢
  refine XC.reg ?_
  refine XL.q (q_bin rfl rfl rfl) rfl ?_
  refine XL.fin (kp 0 rfl (kp 16 rfl (kp 17 rfl (kp 18 rfl (kp 19 rfl kn))))) ?_
  refine XC.seq ?_
  refine XC.cond rfl (fun hc => ?_) (fun hc => ?_)
  ·
    have hlt : i < ls.length := by simp at hc; omega
    obtain ⟨p, hvi, hvb⟩ := hwl.at hlt
    haveI := hvb.cel
    have hft := fold_take (f := lrSt) (b := (ts, h)) hlt
    generalize hst : (ls.take i).foldl lrSt (ts, h) = st at *
    obtain ⟨us, g⟩ := st
    dsimp only at hKi hTi hli hni
    have hKi0 := hKi
    obtain ⟨v, B, rfl, hsl⟩ := hKi0.ex
    haveI := hsl.cel
    have hub := rdT_len (ts := us) (ws := ls[i])
    have huc := rdT_ge (ts := us) (w := ls[i])
    refine XC.skip ?_
    refine nx (kp 0 rfl (kp 16 rfl (kp 17 rfl (kp 18 rfl kn)))) ?_
    refine XC.seq ?_
    refine XC.block ?_
    refine XC.reg ?_
    refine XL.q (q_atV2 (sz := 1) rfl rfl (by kernel_rfl) rfl hwr hlt) rfl ?_
    refine XL.q (q_ldV (u := p) (hwr.mono SubC.sub) rfl (by kernel_rfl) hvi) rfl ?_
    refine XL.q (q_assign rfl) rfl ?_
    refine XL.fin (kp 0 rfl (kp 5 rfl (kp 16 rfl (kp 17 rfl (kp 18 rfl kn))))) ?_
    refine XC.reg ?_
    refine XL.q (q_move rfl) rfl ?_
    refine XL.q (q_nil rfl) rfl ?_
    refine XL.q (q_fieldAddrN 0 (off := 0) rfl (by kernel_rfl) rfl) rfl ?_
    refine XL.q (q_load rfl (by kernel_rfl) At.mem (by rfl)) rfl ?_
    refine XL.q (q_move rfl) rfl ?_
    refine XL.lo rfl (l_call (Mc := MTi) (R := _) (aS rfl (aS rfl a0)) (by kernel_rfl) PickC.perm (read_spec bt bm us p ls[i] MTi _ hTi (by omega) (hvb.rd.mono SubC.sub) hvb.lt (by have := hvb.len; omega) (SubC.sub _ h4)) rfl ?_)
    rintro v27 M27 J27 ⟨rfl, rfl, hT27⟩
    have hri := rdI_lt hvb.lt (by have := hvb.len; omega) hTi.tok.tmo
    refine XL.q (q_assign rfl) rfl ?_
    refine XL.fin (kp 0 rfl (kp 6 rfl (kp 16 rfl (kp 17 rfl (kp 18 rfl kn))))) ?_
    refine XC.reg ?_
    refine XL.q (q_move rfl) rfl ?_
    refine XL.lo rfl (l_call (Mc := (kb, blk [.pointer (some ⟨bt, 0, none⟩), v] 79) :: B) (R := _) (aS rfl a0) (by kernel_rfl) PickC.perm (grow_spec kb bt bm (rdT us ls[i]) g _ _ hKi (hT27.tbr SubC.sub) (by omega) (by omega)) rfl ?_)
    rintro v29 M29 J29 hK29
    obtain ⟨v2, B2, rfl, hsl2⟩ := hK29.ex
    haveI := hsl2.cel
    rw [padB_len (by omega)] at hsl2
    refine XL.fin (kp 0 rfl (kp 6 rfl (kp 16 rfl (kp 17 rfl (kp 18 rfl kn))))) ?_
    refine XC.reg1 ?_
    refine XL.q (q_move rfl) rfl ?_
    refine XL.q (q_nil rfl) rfl ?_
    refine XL.q (q_fieldAddrN 1 (off := 1) rfl (by kernel_rfl) rfl) rfl ?_
    refine XL.q (q_load rfl (by kernel_rfl) At.mem (by rfl)) rfl ?_
    refine XL.q (q_move rfl) rfl ?_
    refine XL.q (q_atV2 (sz := 1) rfl rfl (by kernel_rfl) rfl (hsl2.rd (R := B2) fun _ h => h) hri) rfl ?_
    refine XL.lo rfl (l_stE hsl2 rfl rfl rfl (by kernel_rfl) hri PickC.perm fun B9 hs9 => ?_)
    refine XL.nil ?_
    refine nb ?_
    refine nx (kp 0 rfl (kp 16 rfl (kp 17 rfl (kp 18 rfl kn)))) ?_
    refine XC.reg1 ?_
    refine XL.q (q_addI (b := 1) rfl rfl rfl rfl (by omega)) rfl ?_
    refine XL.q (q_move rfl) rfl ?_
    refine XL.nil ?_
    have hll := lrSt_len (st := (us, g)) (w := ls[i]) hli
    refine rn ⟨i + 1, (kb, blk [.pointer (some ⟨bt, 0, none⟩), v2] 79) :: B9, M27⟩ ⟨by dsimp only; omega, ?_, by dsimp only; rw [hft]; exact hT27, by dsimp only; rw [hft]; omega, by dsimp only; rw [hft]; show (rdT us ls[i]).length ≤ _; omega⟩ (by dsimp only; omega) (kp 0 rfl (kp 16 rfl (kp 17 rfl (kp 18 rfl kn)))) (Fit.pick (B := (kb, _) :: B9) PickC.perm (Fit.last PickC.perm)) (fun _ h => by cases h)
    dsimp only
    rw [hft]
    exact ⟨v2, B9, rfl, by rw [hll]; show Sl 1 v2 (rdT us ls[i]).length (bools ((padB g (rdT us ls[i]).length).set (rdI us ls[i]) true)) B9; rw [← bools_set]; exact hs9⟩
  ·
    have hge : i = ls.length := by simp at hc; omega
    subst hge
    rw [List.take_length] at hKi hTi hli hni
    refine XC.exit ?_
    refine te ?_
    refine re ?_
    refine be rfl ?_
    refine nx (kp 0 rfl kn) ?_
    refine XC.reg1 ?_
    refine XL.q (q_move rfl) rfl ?_
    refine XL.lo rfl (l_call (Mc := MKi) (R := _) (aS rfl a0) (by kernel_rfl) PickC.perm (close_spec kb bt bm _ _ MKi _ hKi (hTi.tbr SubC.sub) hli (by omega) (SubC.sub _ h4)) rfl ?_)
    rintro v38 M38 J38 ⟨h', hcl, hK38⟩
    refine XL.nil ?_
    exact ⟨_, M38 ++ MTi, [], res0 rfl, Fit.none (Fit.pick PickC.perm (Fit.last PickC.perm)), h', M38, MTi, rfl, hcl, hK38, hTi⟩

/-- Is that known for which bytes stand? -/
def hasF (ts : List Tm) (h : List Bool) (w : List Nat) : Bool := !(plc w ts.length).isSome || isK h (((plc w ts.length).getD 0 : Nat) : Int)

set_option maxRecDepth 100000 in
theorem has_spec (kb bt bm : Nat) (ts : List Tm) (h : List Bool) (p : Value) (ws : List Nat) (A : Mem) (hK : KnR kb bt h A) (hT0 : TbR bt bm ts A) (hn : ts.length ≤ 1048576) (hp : By A p ws) : FnV Tryz.prog 18 [.pointer (some ⟨kb, 0, none⟩), p] A (.bool (hasF ts h ws)) := by
  obtain ⟨v, hkb, hrd⟩ := hK.ex
  haveI := hrd.cel
  obtain ⟨MT, hT, hsub⟩ := hT0.ex
  haveI := hp.cel
  refine FnX.enter (N := 32) Tryz.func18 rfl rfl rfl fun w => ?_
  refine XC.keep (kp 0 rfl (kp 1 rfl kn)) ?_
  refine XC.reg ?_
  refine XL.q (q_assign rfl) rfl ?_
  refine XL.fin (kp 0 rfl (kp 1 rfl kn)) ?_
  refine XC.seq ?_
  refine XC.reg ?_
  refine XL.q (q_move rfl) rfl ?_
  refine XL.q (q_ptrEqNil (e := 79) rfl rfl (by kernel_rfl)) rfl ?_
  refine XL.q (q_move rfl) rfl ?_
  refine XL.gy rfl rfl (OpQ.opL (q_move rfl) rfl ?_)
  refine XL.gy rfl rfl (OpQ.opL (q_nil rfl) rfl ?_)
  refine XL.gy rfl rfl (OpQ.opL (q_fieldAddrN 0 (off := 0) rfl (by kernel_rfl) rfl) rfl ?_)
  refine XL.gy rfl rfl (OpQ.opL (q_load rfl (by kernel_rfl) (by first | exact At.mem | exact mA (by assumption)) (by rfl)) rfl ?_)
  refine XL.gy rfl rfl (OpQ.opL (q_ptrEqNil (e := 83) rfl rfl (by kernel_rfl)) rfl ?_)
  refine XL.q (q_pickF rfl rfl) rfl ?_
  refine XL.fin (kp 0 rfl (kp 1 rfl (kp 15 rfl kn))) ?_
  refine XC.condF rfl ?_
  refine XC.skip ?_
  refine nx (kp 0 rfl (kp 1 rfl kn)) ?_
  refine XC.reg ?_
  refine XL.q (q_move rfl) rfl ?_
  refine XL.q (q_nil rfl) rfl ?_
  refine XL.q (q_fieldAddrN 0 (off := 0) rfl (by kernel_rfl) rfl) rfl ?_
  refine XL.q (q_load rfl (by kernel_rfl) (by first | exact At.mem | exact mA (by assumption)) (by rfl)) rfl ?_
  refine XL.q (q_move rfl) rfl ?_
  refine XL.callV (aS rfl (aS rfl a0)) (by kernel_rfl) (place_spec bt bm ts p ws MT _ hT (fun x hx => mA (hsub x hx)) hn (hp.rd.mono SubC.sub) hp.lt (by have := hp.len; unfold maxLen; omega)) rfl ?_
  generalize hpl : plc ws ts.length = pl
  refine XL.q (q_move rfl) rfl ?_
  refine XL.q (q_x0 rfl) rfl ?_
  refine XL.q (q_x1 rfl) rfl ?_
  refine XL.q (q_assign rfl) rfl ?_
  refine XL.q (q_assign rfl) rfl ?_
  refine XL.fin (kp 0 rfl (kp 5 rfl (kp 6 rfl kn))) ?_
  refine XC.reg ?_
  refine XL.q (q_move rfl) rfl ?_
  refine XL.q (q_not rfl) rfl ?_
  refine XL.q (q_move rfl) rfl ?_
  refine XL.split (t := 27) rfl (fun hb => ?_) (fun hb => ?_)
  ·
    have hA := hb
    refine XL.gn rfl rfl rfl rfl ?_
    refine XL.gn rfl rfl rfl rfl ?_
    refine XL.gn rfl rfl rfl rfl ?_
    refine XL.q (q_pickT rfl rfl) rfl ?_
    refine XL.q (q_assign rfl) rfl ?_
    refine XL.fin (kp 4 rfl kn) ?_
    refine XC.ret ?_
    exact ⟨_, [], [], res1 rfl rfl, List.nil_sublist _, by simp, by unfold hasF; rw [hpl, hA]; rfl, rfl, rfl⟩
  ·
    have hA := hb
    refine XL.gy rfl rfl (OpQ.opL (q_move rfl) rfl ?_)
    refine XL.gy rfl rfl (OpQ.opL (q_move rfl) rfl ?_)
    refine XL.callVg rfl rfl (aS rfl (aS rfl a0)) (by kernel_rfl) (is_spec kb bt h _ _ (hK.mono SubC.sub)) rfl ?_
    refine XL.q (q_pickF rfl rfl) rfl ?_
    refine XL.q (q_assign rfl) rfl ?_
    refine XL.fin (kp 4 rfl kn) ?_
    refine XC.ret ?_
    exact ⟨_, [], [], res1 rfl rfl, List.nil_sublist _, by simp, by unfold hasF; rw [hpl, hA]; rfl, rfl, rfl⟩

end Go.Proofs.YthmnlkpikgglbaaGreatDoor
/- The walks of pawllaw22: open, awake. -/
set_option linter.unusedVariables false
set_option linter.unusedSimpArgs false
namespace Go.Proofs.YthmnlkpikgglbaaGreatDoor
open Go.Px
/-- All that can be made of what is known, computed. -/
def cloF (ts : List Tm) (h : List Bool) : List Bool := rds_ ts (padB h ts.length) (ts.length + 1)
theorem cloF_clo {ts : List Tm} {h : List Bool} (hl : h.length ≤ ts.length) : Clo ts h (cloF ts h) := by
  have hc := rds_clo ts (padB h ts.length) (padB_len hl)
  exact ⟨hc.len, (pad_le h _).trans hc.sup, hc.cld, fun h' a b => hc.lst h' ((le_pad h _).trans a) b⟩
theorem Clo.eq {ts : List Tm} {h h' : List Bool} (hl : h.length ≤ ts.length) (hc : Clo ts h h') : h' = cloF ts h := hc.uniq (cloF_clo hl)
/-- What is known when some bytes are learnt. -/
def lrn (st : Lst2) (w : List Nat) : Lst2 := (rdT st.1 w, cloF (rdT st.1 w) (lrSt st w).2)
theorem lrn_len {st : Lst2} {w : List Nat} (hl : st.2.length ≤ st.1.length) : (lrn st w).2.length = (lrn st w).1.length := (cloF_clo (Nat.le_of_eq (lrSt_len hl))).len
theorem lrn_le {st : Lst2} {w : List Nat} : (lrn st w).1.length ≤ st.1.length + 1 := rdT_len
theorem learn1_spec (kb bt bm : Nat) (st : Lst2) (vl : Value) (w : List Nat) (MK MT A : Mem) (hK : Knw kb bt st.2 MK) (hT : Tab bt bm st.1 MT) (hw : LsV A vl [w]) (hl : st.2.length ≤ st.1.length) (hn : st.1.length + 1 ≤ 1048576) {e4 : TypeId} {f4 : Nat × Nat} (h4 : (4, Obj.cells (nums .u64 pow10T).toArray e4 f4) ∈ A) :
    FnX Tryz.prog 13 [.pointer (some ⟨kb, 0, none⟩), vl] (MK ++ MT) A fun q M J => ∃ MK' MT', M = MK' ++ MT' ∧ Knw kb bt (lrn st w).2 MK' ∧ Tab bt bm (lrn st w).1 MT' :=
  (learn_spec kb bt bm st.1 st.2 vl [w] MK MT A hK hT hw hl hn h4).mono fun q M J ⟨h', MK', MT', h1, h2, h3, h5⟩ => by
    have e : h' = (lrn st w).2 := Clo.eq (Nat.le_of_eq (lrSt_len hl)) h2
    exact ⟨MK', MT', h1, e ▸ h3, h5⟩
def s00 : Ps := ⟨false, [], 0, []⟩
def aw1 : Ps := freshS s00
def aw2 : Ps := freshS aw1
def aw3 : Ps := pubS aw2 (freshK aw1)
def aw4 : Ps := agrS aw3 (freshK s00) (pubK aw2 (freshK aw1))
def aw5 : Ps := pubS aw4 (freshK aw1)
def awS : List Nat := agrK aw3 (freshK s00) (pubK aw2 (freshK aw1))
def aw50 : Lst2 := (aw5.ts, [])
theorem aw50_1 : aw50.1 = aw5.ts := by simp only [aw50]
theorem aw50_2 : aw50.2 = [] := by simp only [aw50]
def aw6 : Lst2 := lrn aw50 (pubK aw4 (freshK aw1))
def aw7 : Lst2 := lrn aw6 (freshK s00)
theorem aw_r : aw4.real = false ∧ aw4.ts.length < 1048576 := by decide +kernel
theorem aw_1 : hasF aw6.1 aw6.2 awS = false := by decide +kernel
theorem aw_2 : hasF aw7.1 aw7.2 awS = true := by decide +kernel
theorem aw_3 : hasF aw7.1 aw7.2 (freshK aw1) = false := by decide +kernel
theorem aw_n : aw3.ts.length = 3 ∧ aw4.ts.length = 4 ∧ aw5.ts.length = 4 ∧ aw6.1.length = 4 ∧ aw7.1.length = 4 := by decide +kernel

set_option maxRecDepth 100000 in
theorem open22_spec (A : Mem) : FnX Tryz.prog 8 [] [] A fun q M J => ∃ pb, q = .pointer (some ⟨pb, 0, none⟩) ∧ Prm pb s00 M := by
  skip
  refine FnX.enterZ (N := 8) Tryz.func8 rfl rfl rfl fun w_ => ?_
  refine XC.keep kn ?_
  refine XC.reg ?_
  refine XL.q (q_assign rfl) rfl ?_
  refine XL.fin kn ?_
  refine XC.reg ?_
  refine XL.call (aS rfl (aS rfl a0)) (by kernel_rfl) (pnew_spec false (.slice none 0 0) [] _ By.nil) rfl ?_
  rintro v4 MP J4 ⟨pb, rfl, hP⟩
  refine XL.q (q_move rfl) rfl ?_
  refine XL.q (q_x0 rfl) rfl ?_
  refine XL.q (q_x1 rfl) rfl ?_
  refine XL.q (q_assign rfl) rfl ?_
  refine XL.q (q_assign rfl) rfl ?_
  refine XL.fin (kp 1 rfl kn) ?_
  refine XC.reg ?_
  refine XL.q (q_move rfl) rfl ?_
  refine XL.q (q_assign rfl) rfl ?_
  refine XL.fin (kp 0 rfl kn) ?_
  refine XC.ret ?_
  exact ⟨_, MP, [], res1 rfl rfl, Fit.none (Fit.last PickC.perm), pb, rfl, hP⟩

set_option maxRecDepth 100000 in
theorem awake22_spec (A : Mem) (hG : Glb A) : FnV Tryz.prog 7 [] A (.bool true) := by
  have hGG := hG
  obtain ⟨⟨ge0, gf0, h0⟩, ⟨ge1, gf1, h1⟩, ⟨ge4, gf4, h4⟩⟩ := hGG
  refine FnX.enter (N := 49) Tryz.func7 rfl rfl rfl fun w => ?_
  refine XC.keep kn ?_
  refine XC.reg ?_
  refine XL.q (q_assign rfl) rfl ?_
  refine XL.fin kn ?_
  refine XC.reg ?_
  refine XL.call a0 (by kernel_rfl) (open22_spec _) rfl ?_
  rintro v7 M7 J7 ⟨pb, rfl, hP7⟩
  refine XL.q (q_assign rfl) rfl ?_
  refine XL.fin (kp 1 rfl kn) ?_
  refine XC.seq ?_
  refine XC.reg ?_
  refine XL.q (q_move rfl) rfl ?_
  refine XL.q (q_ptrEqNil (e := 77) rfl rfl (by kernel_rfl)) rfl ?_
  refine XL.fin (kp 1 rfl (kp 9 rfl kn)) ?_
  refine XC.condF rfl ?_
  refine XC.skip ?_
  refine nx (kp 1 rfl kn) ?_
  refine XC.reg ?_
  refine XL.q (q_move rfl) rfl ?_
  refine XL.lo rfl (l_call (Mc := M7) (R := _) (aS rfl a0) (by kernel_rfl) PickC.perm (fresh_spec pb s00 M7 _ hP7 (by decide) (by decide) hG.up) rfl ?_)
  rintro v11 M11 J11 ⟨hP11, hb11⟩
  haveI := hb11.cel
  refine XL.q (q_assign rfl) rfl ?_
  refine XL.fin (kp 1 rfl (kp 2 rfl kn)) ?_
  refine XC.reg ?_
  refine XL.q (q_move rfl) rfl ?_
  refine XL.lo rfl (l_call (Mc := M11) (R := _) (aS rfl a0) (by kernel_rfl) PickC.perm (fresh_spec pb aw1 M11 _ hP11 (by decide) (by decide) hG.up) rfl ?_)
  rintro v13 M13 J13 ⟨hP13, hb13⟩
  haveI := hb13.cel
  refine XL.q (q_assign rfl) rfl ?_
  refine XL.fin (kp 1 rfl (kp 2 rfl (kp 3 rfl kn))) ?_
  refine XC.reg ?_
  refine XL.q (q_move rfl) rfl ?_
  refine XL.q (q_move rfl) rfl ?_
  refine XL.q (q_move rfl) rfl ?_
  refine XL.q (q_move rfl) rfl ?_
  refine XL.lo rfl (l_call (Mc := M13) (R := _) (aS rfl (aS rfl a0)) (by kernel_rfl) PickC.perm (public_p pb aw2 rfl v13 (freshK aw1) M13 _ hP13 (by decide) (hb13.mono SubC.sub) hG.up) rfl ?_)
  rintro v18 M18 J18 ⟨hP18, hb18⟩
  haveI := hb18.cel
  refine XL.lo rfl (l_call (Mc := M18) (R := _) (aS rfl (aS rfl (aS rfl a0))) (by kernel_rfl) PickC.perm (pagree_p pb aw3 rfl v11 v18 (freshK s00) (pubK aw2 (freshK aw1)) M18 _ hP18 (by decide +kernel) (hb11.mono SubC.sub) (hb18.mono SubC.sub) hG.up) rfl ?_)
  rintro v19 M19 J19 ⟨hP19, hb19⟩
  haveI := hb19.cel
  obtain ⟨bt, bm, hP19⟩ := hP19.t
  have hP19k := hP19
  obtain ⟨sv, B, MT, rfl, hby, hT⟩ := hP19.ex
  refine XL.q (q_assign rfl) rfl ?_
  refine XL.fin (kp 1 rfl (kp 2 rfl (kp 3 rfl (kp 4 rfl kn)))) ?_
  refine XC.reg ?_
  refine XL.q (q_move rfl) rfl ?_
  refine XL.callV (aS rfl a0) (by kernel_rfl) (ptable_spec pb bt _ sv _ At.mem) rfl ?_
  refine XL.call (aS rfl a0) (by kernel_rfl) (knew_spec bt _) rfl ?_
  rintro v22 M22 J22 ⟨kb, rfl, hK22⟩
  refine XL.q (q_assign rfl) rfl ?_
  refine XL.fin (kp 1 rfl (kp 2 rfl (kp 3 rfl (kp 4 rfl (kp 5 rfl kn))))) ?_
  refine XC.reg ?_
  refine XL.q (q_move rfl) rfl ?_
  refine XL.q (q_move rfl) rfl ?_
  refine XL.q (q_move rfl) rfl ?_
  refine XL.lo rfl (l_call (Mc := _ :: (B ++ MT)) (R := _) (aS rfl (aS rfl a0)) (by kernel_rfl) PickC.perm (public_spec pb bt bm aw4 aw_r.1 v13 (freshK aw1) _ _ hP19k aw_r.2 (hb13.mono SubC.sub) hG.up) rfl ?_)
  rintro v26 M26 J26 ⟨hP26, hb26⟩
  rw [show pubS aw4 (freshK aw1) = aw5 from rfl] at hP26
  haveI := hb26.cel
  obtain ⟨sv2, B2, MT2, rfl, hby2, hT2⟩ := hP26.ex
  refine XL.lo rfl (l_buildSlice (e := 23) (sz := 1) (z := [.slice none 0 0]) (by kernel_rfl) (eS rfl e0) (bdS 0 1 rfl (by rfl) bd0) rfl fun b27 => ?_)
  refine XL.lo rfl (l_call (Mc := M22 ++ MT2) (R := _) (aS rfl (aS rfl a0)) (by kernel_rfl) PickC.perm (learn1_spec kb bt bm aw50 _ (pubK aw4 (freshK aw1)) M22 MT2 _ (by rw [aw50_2]; exact hK22) (by rw [aw50_1]; exact hT2) ⟨_, Rd.whole (n := 1) At.mem (by rfl), Lst.cons (hb26.mono SubC.sub) Lst.nil⟩ (by decide +kernel) (by decide +kernel) (SubC.sub _ h4)) rfl ?_)
  rintro v28 M28 J28 ⟨MK28, MT28, rfl, hK28, hT28⟩
  refine XL.fin (kp 2 rfl (kp 3 rfl (kp 4 rfl (kp 5 rfl kn)))) ?_
  refine XC.reg ?_
  refine XL.q (q_move rfl) rfl ?_
  refine XL.q (q_move rfl) rfl ?_
  refine XL.callV (aS rfl (aS rfl a0)) (by kernel_rfl) (has_spec kb bt bm aw6.1 aw6.2 _ awS _ (hK28.rd SubC.sub) (hT28.tbr SubC.sub) (by decide +kernel) (hb19.mono SubC.sub)) rfl ?_
  rw [aw_1]
  refine XL.q (q_assign rfl) rfl ?_
  refine XL.fin (kp 2 rfl (kp 3 rfl (kp 4 rfl (kp 5 rfl (kp 6 rfl kn))))) ?_
  refine XC.reg ?_
  refine XL.q (q_move rfl) rfl ?_
  refine XL.q (q_move rfl) rfl ?_
  refine XL.lo rfl (l_buildSlice (e := 23) (sz := 1) (z := [.slice none 0 0]) (by kernel_rfl) (eS rfl e0) (bdS 0 1 rfl (by rfl) bd0) rfl fun b34 => ?_)
  refine XL.lo rfl (l_call (Mc := MK28 ++ MT28) (R := _) (aS rfl (aS rfl a0)) (by kernel_rfl) PickC.perm (learn1_spec kb bt bm aw6 _ (freshK s00) MK28 MT28 _ hK28 hT28 ⟨_, Rd.whole (n := 1) At.mem (by rfl), Lst.cons (hb11.mono SubC.sub) Lst.nil⟩ (by decide +kernel) (by decide +kernel) (SubC.sub _ h4)) rfl ?_)
  rintro v35 M35 J35 ⟨MK35, MT35, rfl, hK35, hT35⟩
  refine XL.fin (kp 3 rfl (kp 4 rfl (kp 5 rfl (kp 6 rfl kn)))) ?_
  refine XC.reg ?_
  refine XL.q (q_move rfl) rfl ?_
  refine XL.q (q_not rfl) rfl ?_
  refine XL.q (q_move rfl) rfl ?_
  refine XL.gy rfl rfl (OpQ.opL (q_move rfl) rfl ?_)
  refine XL.gy rfl rfl (OpQ.opL (q_move rfl) rfl ?_)
  refine XL.callVg rfl rfl (aS rfl (aS rfl a0)) (by kernel_rfl) (has_spec kb bt bm aw7.1 aw7.2 _ awS _ (hK35.rd SubC.sub) (hT35.tbr SubC.sub) (by decide +kernel) (hb19.mono SubC.sub)) rfl ?_
  rw [aw_2]
  refine XL.q (q_pickT rfl rfl) rfl ?_
  refine XL.q (q_move rfl) rfl ?_
  refine XL.gy rfl rfl (OpQ.opL (q_move rfl) rfl ?_)
  refine XL.gy rfl rfl (OpQ.opL (q_move rfl) rfl ?_)
  refine XL.callVg rfl rfl (aS rfl (aS rfl a0)) (by kernel_rfl) (has_spec kb bt bm aw7.1 aw7.2 _ (freshK aw1) _ (hK35.rd SubC.sub) (hT35.tbr SubC.sub) (by decide +kernel) (hb13.mono SubC.sub)) rfl ?_
  rw [aw_3]
  refine XL.gy rfl rfl (OpQ.opL (q_not rfl) rfl ?_)
  refine XL.q (q_pickT rfl rfl) rfl ?_
  refine XL.q (q_assign rfl) rfl ?_
  refine XL.fin (kp 0 rfl kn) ?_
  refine XC.ret ?_
  exact ⟨_, [], [], res1 rfl rfl, List.nil_sublist _, by simp, rfl, rfl, rfl⟩

end Go.Proofs.YthmnlkpikgglbaaGreatDoor
/- The walks of prim's Seal, Sign of terms. -/
set_option linter.unusedVariables false
set_option linter.unusedSimpArgs false
namespace Go.Proofs.YthmnlkpikgglbaaGreatDoor
open Go.Px
def selT (x : Int) (a b : List Nat) : Tm := ⟨6, [x], mark a ++ mark b, 0⟩
def sigT (x : Int) (m : List Nat) : Tm := ⟨7, [x], m, 0⟩
/-- One term of one other, put. -/
def one1 (s : Ps) (w : List Nat) (f : Int → Tm) : Ps := { s with ts := add (rdT s.ts w) (f ((rdI s.ts w : Nat) : Int)) }
def oneK (s : Ps) (w : List Nat) (f : Int → Tm) : List Nat := bts ((at_ (rdT s.ts w) (f ((rdI s.ts w : Nat) : Int)) : Nat) : Int)
theorem sel_ok {x : Int} (h : i64 x) {a b : List Nat} (ha : ∀ y ∈ a, y < 256) (hb : ∀ y ∈ b, y < 256) (la : a.length ≤ 16777216) (lb : b.length ≤ 16777216) : Tmo (selT x a b) := by
  haveI : B256 a := ⟨ha⟩
  haveI : B256 b := ⟨hb⟩
  have h1 := mark_len a (by omega)
  have h2 := mark_len b (by omega)
  exact ⟨show 6 < 256 by decide, show i64 (0 : Int) by unfold i64; omega, fun i hi => by rw [List.mem_singleton.1 hi]; exact h, show 1 ≤ 1048576 by decide, inferInstanceAs (B256 (mark a ++ mark b)), by show (mark a ++ mark b).length ≤ _; rw [List.length_append]; omega⟩
theorem sig_ok {x : Int} (h : i64 x) {m : List Nat} (hm : ∀ y ∈ m, y < 256) (lm : m.length ≤ 16777216) : Tmo (sigT x m) :=
  ⟨show 7 < 256 by decide, show i64 (0 : Int) by unfold i64; omega, fun i hi => by rw [List.mem_singleton.1 hi]; exact h, show 1 ≤ 1048576 by decide, ⟨hm⟩, show m.length ≤ 1099511627776 by omega⟩

set_option maxRecDepth 100000 in
theorem seal_spec (pb bt bm : Nat) (s : Ps) (hr : s.real = false) (v v2 v3 : Value) (w wa wb : List Nat) (MP A : Mem) (hP : PrmT pb bt bm s MP) (hn : s.ts.length < 1048576) (hv : By A v w) (hya : By A v2 wa) (hyb : By A v3 wb) (hG : Glb A) : FnX Tryz.prog 25 [.pointer (some ⟨pb, 0, none⟩), v, v2, v3] MP A fun q M J => PrmT pb bt bm (one1 s w fun x => selT x wa wb) M ∧ By J q (oneK s w fun x => selT x wa wb) := by
  obtain ⟨sv, B, MT, rfl, hby, hT⟩ := hP.ex
  have hmd : md s.real = 1 := by rw [hr]; rfl
  rw [hmd] at *
  obtain ⟨⟨ge0, gf0, h0⟩, ⟨ge1, gf1, h1⟩, ⟨ge4, gf4, h4⟩⟩ := hG
  haveI := hv.cel
  haveI := hya.cel
  haveI := hyb.cel
  haveI := hby.cel
  have hvl := hv.len
  have hal := hya.len
  have hbl := hyb.len
  refine FnX.enterZ (N := 38) Tryz.func25 rfl rfl rfl fun w_ => ?_
  refine XC.keep (kp 0 rfl (kp 1 rfl (kp 2 rfl (kp 3 rfl kn)))) ?_
  refine XC.reg ?_
  refine XL.q (q_assign rfl) rfl ?_
  refine XL.fin (kp 0 rfl (kp 1 rfl (kp 2 rfl (kp 3 rfl kn)))) ?_
  refine XC.seq ?_
  refine XC.reg ?_
  refine XL.q (q_move rfl) rfl ?_
  refine XL.q (q_ptrEqNil (e := 77) rfl rfl (by kernel_rfl)) rfl ?_
  refine XL.fin (kp 0 rfl (kp 1 rfl (kp 2 rfl (kp 3 rfl (kp 10 rfl kn))))) ?_
  refine XC.condF rfl ?_
  refine XC.skip ?_
  refine nx (kp 0 rfl (kp 1 rfl (kp 2 rfl (kp 3 rfl kn)))) ?_
  refine XC.seq ?_
  refine XC.reg ?_
  refine XL.q (q_move rfl) rfl ?_
  refine XL.q (q_nil rfl) rfl ?_
  refine XL.q (q_fieldAddrN 0 (off := 0) rfl (by kernel_rfl) rfl) rfl ?_
  refine XL.q (q_load rfl (by kernel_rfl) (by first | exact At.mem | exact mA (by assumption)) (by rfl)) rfl ?_
  refine XL.q (q_cmp false rfl rfl (eqF (by decide))) rfl ?_
  refine XL.fin (kp 0 rfl (kp 1 rfl (kp 2 rfl (kp 3 rfl (kp 15 rfl kn))))) ?_
  refine XC.condF rfl ?_
  refine XC.skip ?_
  refine nx (kp 0 rfl (kp 1 rfl (kp 2 rfl (kp 3 rfl kn)))) ?_
  refine XC.drawK (MT) (_) true [0, 1, 2, 3, 4, 5, 6, 7, 8, 9, 10, 11, 12, 13, 16] [(0, 0), (1, 0), (2, 0), (3, 1), (4, 0), (5, 0), (8, 0), (10, 0), (6, 2), (7, 3), (9, 3), (11, 3), (12, 4), (13, 0), (14, 2), (15, 2), (16, 0)] (by kernel_rfl) (by kernel_rfl) PickC.perm fun hs K n0 hKm hKs hKn => ?_
  refine XK.q hs rfl (q_move rfl) rfl ?_
  refine XK.q hs rfl (q_nil rfl) rfl ?_
  refine XK.q hs rfl (q_fieldAddrN 3 (off := 3) rfl (by kernel_rfl) rfl) rfl ?_
  refine XK.r hs rfl (fun x hx => by rw [List.append_assoc]; exact List.mem_append_right _ hx) hKs (q_load rfl (by kernel_rfl) (by first | exact At.mem | exact mA (by assumption)) (by rfl)) rfl ?_
  refine XK.q hs rfl (q_move rfl) rfl ?_
  refine XK.q hs rfl (q_move rfl) rfl ?_
  refine XK.q hs rfl (q_move rfl) rfl ?_
  refine XK.q hs rfl (q_move rfl) rfl ?_
  refine XK.lo _ _ rfl rfl (List.Perm.refl _) hKm fun w0 => (l_call (Mc := MT) (R := _) (aS rfl (aS rfl a0)) (by kernel_rfl) PickC.perm (pread2_spec pb bt bm 1 _ sv s.ts v w MT _ hT At.mem (by omega) (hv.mono SubC.sub) (SubC.sub _ h4)) rfl ?_)
  rintro v28 M28 J28 ⟨rfl, hT28⟩ hKx
  refine XK.groupO [⟨7, 29, fun v B _ => ∃ b, v = .slice (some ⟨b, 0, none⟩) 1 1 ∧ B = [(b, blk [.int .i64 ((rdI s.ts w : Nat) : Int)] 3)]⟩, ⟨9, 31, fun v B _ => B = [] ∧ v = .string (txt (mark wa))⟩, ⟨11, 33, fun v B _ => B = [] ∧ v = .string (txt (mark wb))⟩, ⟨12, 34, fun v B _ => B = [] ∧ v = .string (txt (mark wa ++ mark wb))⟩]
    (allS (fun _ _ _ _ _ h => h) (allS (fun _ _ _ _ _ h => h) (allS (fun _ _ _ _ _ h => h) (allS (fun _ _ _ _ _ h => h) (all0))))) (show List.Nodup [29, 31, 33, 34] by decide) (show List.Nodup [7, 9, 11, 12] by decide) (allS (blt_lt rfl) (allS (blt_lt rfl) (allS (blt_lt rfl) (allS (blt_lt rfl) (all0)))))
    (allS ⟨_, rfl, fun vs bs R w hb ha => ⟨.inl rfl, ?_⟩⟩ (allS ⟨_, rfl, fun vs bs R w hb ha => ⟨.inl rfl, ?_⟩⟩ (allS ⟨_, rfl, fun vs bs R w hb ha => ⟨.inl rfl, ?_⟩⟩ (allS ⟨_, rfl, fun vs bs R w hb ha => ⟨.inl rfl, ?_⟩⟩ (all0))))) ?_
  ·
    exact l_buildSlice (e := 3) (sz := 1) (z := [.int .i64 0]) (by kernel_rfl) (eS rfl e0) (bdS 0 1 rfl (by rfl) bd0) rfl fun b => ⟨_, rfl, b, rfl, rfl⟩
  ·
    exact l_callV (aS rfl a0) (by kernel_rfl) (mark_spec v2 wa _ (hya.rd.mono fun x hx => hb _ (SubC.sub x hx)) (hb := hya.b256) (by have := hya.len; omega) (hb _ (SubC.sub _ h4))) rfl ⟨_, rfl, rfl, rfl⟩
  ·
    have g9 := ha _ (List.mem_of_getElem? (i := 1) rfl) (by kernel_rfl)
    replace g9 : (fun v B _ => B = [] ∧ v = .string (txt (mark wa))) (vs 9) (bs 9) R := g9
    dsimp only at g9
    exact l_callV (aS rfl a0) (by kernel_rfl) (mark_spec v3 wb _ (hyb.rd.mono fun x hx => hb _ (SubC.sub x hx)) (hb := hyb.b256) (by have := hyb.len; omega) (hb _ (SubC.sub _ h4))) rfl ⟨_, rfl, rfl, rfl⟩
  ·
    have g9 := ha _ (List.mem_of_getElem? (i := 1) rfl) (by kernel_rfl)
    replace g9 : (fun v B _ => B = [] ∧ v = .string (txt (mark wa))) (vs 9) (bs 9) R := g9
    dsimp only at g9
    have g11 := ha _ (List.mem_of_getElem? (i := 2) rfl) (by kernel_rfl)
    replace g11 : (fun v B _ => B = [] ∧ v = .string (txt (mark wb))) (vs 11) (bs 11) R := g11
    dsimp only at g11
    obtain ⟨-, h9⟩ := g9
    obtain ⟨-, h11⟩ := g11
    exact OpQ.opL (q_sAdd (ws := mark wa) (ws' := mark wb) (by rw [← h9]; rfl) (by rw [← h11]; rfl) rfl rfl (by have h1 := mark_len wa (by omega); have h2 := mark_len wb (by omega); omega)) rfl ⟨_, rfl, rfl, rfl⟩
  intro vs bs Jn0 hφ
  have g7 := ofH hφ
  dsimp only at g7
  replace hφ := ofT hφ
  have g9 := ofH hφ
  dsimp only at g9
  replace hφ := ofT hφ
  have g11 := ofH hφ
  dsimp only at g11
  replace hφ := ofT hφ
  have g12 := ofH hφ
  dsimp only at g12
  clear hφ
  dsimp only [gEnvO, ownOf, List.map, List.flatten, List.cons_append, List.nil_append]
  generalize bs 7 = B29 at *
  generalize bs 9 = B31 at *
  generalize bs 11 = B33 at *
  generalize bs 12 = B34 at *
  generalize vs 7 = u29 at *
  generalize vs 9 = u31 at *
  generalize vs 11 = u33 at *
  generalize vs 12 = u34 at *
  obtain ⟨b29, rfl, rfl⟩ := g7
  obtain ⟨rfl, rfl⟩ := g9
  obtain ⟨rfl, rfl⟩ := g11
  obtain ⟨rfl, rfl⟩ := g12
  dsimp only [List.append_eq, List.nil_append, List.cons_append]
  refine XK.q hs rfl (q_build (place := fun x => #[(0, 1), (1, 1), (2, 1), (3, 1)][x]?) (z := [.int .u8 0, .slice none 0 0, .string ByteArray.empty, .int .i64 0]) (fun _ => by kernel_rfl) (eS rfl (eS rfl (eS rfl e0))) (bdS 0 1 rfl (by rfl) (bdS 1 1 rfl (by rfl) (bdS 2 1 rfl (by rfl) bd0)))) rfl ?_
  refine XK.tl rfl rfl rfl (l_call (Mc := M28) (R := _) (aS rfl (aS rfl a0)) (by kernel_rfl) PickC.perm (putT_spec bt bm (rdT s.ts w) _ (selT ((rdI s.ts w : Nat) : Int) wa wb) M28 _ hT28 (by have := rdT_len (ts := s.ts) (ws := w); omega) (Rd.whole (n := 1) At.mem (by rfl)) (sel_ok (rdI_i64 hv.lt (by omega) hT.tok.tmo (by omega)) hya.lt hyb.lt hya.len hyb.len) (SubC.sub _ h4)) rfl ?_)
  rintro v36 M36 J36 ⟨rfl, rfl, hT36⟩
  refine XK.tl rfl rfl rfl (l_call0 (aS rfl a0) (by kernel_rfl) (bytesJ_spec _ _) rfl ?_)
  rintro v37 M37 J37 ⟨rfl, h37⟩
  refine XK.q hs rfl (q_assign rfl) rfl ?_
  refine XK.fin (kp 8 rfl kn) ?_
  refine XC.ret ?_
  exact ⟨_, (pb, blk [.int .u8 1, sv, .int .i64 (((s.n : Nat) : Int)), .pointer (some ⟨bt, 0, none⟩)] 77) :: (B ++ M36), [], res1 rfl rfl, (Fit.none (Fit.pick (B := [_]) PickC.perm (Fit.pick PickC.perm (Fit.last PickC.perm)))), ⟨sv, B, M36, by rw [show md (one1 s w (fun x => selT x wa wb)).real = 1 by show md s.real = 1; rw [hr]; rfl]; rfl, hby, hT36⟩, h37.mono SubC.sub⟩

set_option maxRecDepth 100000 in
theorem sign_spec (pb bt bm : Nat) (s : Ps) (hr : s.real = false) (v v2 : Value) (w wm : List Nat) (MP A : Mem) (hP : PrmT pb bt bm s MP) (hn : s.ts.length < 1048576) (hv : By A v w) (hm : By A v2 wm) (hG : Glb A) : FnX Tryz.prog 31 [.pointer (some ⟨pb, 0, none⟩), v, v2] MP A fun q M J => PrmT pb bt bm (one1 s w fun x => sigT x wm) M ∧ By J q (fitN (oneK s w fun x => sigT x wm) 64) := by
  obtain ⟨sv, B, MT, rfl, hby, hT⟩ := hP.ex
  have hmd : md s.real = 1 := by rw [hr]; rfl
  rw [hmd] at *
  obtain ⟨⟨ge0, gf0, h0⟩, ⟨ge1, gf1, h1⟩, ⟨ge4, gf4, h4⟩⟩ := hG
  haveI := hv.cel
  haveI := hm.cel
  haveI := hby.cel
  have hvl := hv.len
  have hml := hm.len
  refine FnX.enterZ (N := 32) Tryz.func31 rfl rfl rfl fun w_ => ?_
  refine XC.keep (kp 0 rfl (kp 1 rfl (kp 2 rfl kn))) ?_
  refine XC.reg ?_
  refine XL.q (q_assign rfl) rfl ?_
  refine XL.fin (kp 0 rfl (kp 1 rfl (kp 2 rfl kn))) ?_
  refine XC.seq ?_
  refine XC.reg ?_
  refine XL.q (q_move rfl) rfl ?_
  refine XL.q (q_ptrEqNil (e := 77) rfl rfl (by kernel_rfl)) rfl ?_
  refine XL.fin (kp 0 rfl (kp 1 rfl (kp 2 rfl (kp 8 rfl kn)))) ?_
  refine XC.condF rfl ?_
  refine XC.skip ?_
  refine nx (kp 0 rfl (kp 1 rfl (kp 2 rfl kn))) ?_
  refine XC.seq ?_
  refine XC.reg ?_
  refine XL.q (q_move rfl) rfl ?_
  refine XL.q (q_nil rfl) rfl ?_
  refine XL.q (q_fieldAddrN 0 (off := 0) rfl (by kernel_rfl) rfl) rfl ?_
  refine XL.q (q_load rfl (by kernel_rfl) (by first | exact At.mem | exact mA (by assumption)) (by rfl)) rfl ?_
  refine XL.q (q_cmp false rfl rfl (eqF (by decide))) rfl ?_
  refine XL.fin (kp 0 rfl (kp 1 rfl (kp 2 rfl (kp 13 rfl kn)))) ?_
  refine XC.condF rfl ?_
  refine XC.skip ?_
  refine nx (kp 0 rfl (kp 1 rfl (kp 2 rfl kn))) ?_
  refine XC.drawK (MT) (_) true [0, 1, 2, 3, 4, 5, 6, 7, 8, 9, 10, 14] [(0, 0), (1, 0), (2, 0), (3, 1), (4, 0), (5, 0), (8, 0), (9, 1), (6, 2), (7, 2), (10, 0), (11, 2), (12, 2), (13, 2), (14, 0)] (by kernel_rfl) (by kernel_rfl) PickC.perm fun hs K n0 hKm hKs hKn => ?_
  refine XK.q hs rfl (q_move rfl) rfl ?_
  refine XK.q hs rfl (q_nil rfl) rfl ?_
  refine XK.q hs rfl (q_fieldAddrN 3 (off := 3) rfl (by kernel_rfl) rfl) rfl ?_
  refine XK.r hs rfl (fun x hx => by rw [List.append_assoc]; exact List.mem_append_right _ hx) hKs (q_load rfl (by kernel_rfl) (by first | exact At.mem | exact mA (by assumption)) (by rfl)) rfl ?_
  refine XK.q hs rfl (q_move rfl) rfl ?_
  refine XK.q hs rfl (q_move rfl) rfl ?_
  refine XK.q hs rfl (q_move rfl) rfl ?_
  refine XK.r hs rfl (fun x hx => by rw [List.append_assoc]; exact List.mem_append_right _ hx) hKs (q_toStr2 rfl (by kernel_rfl) (hm.rd.mono SubC.sub)) rfl ?_
  refine XK.lo _ _ rfl rfl (List.Perm.refl _) hKm fun w0 => (l_call (Mc := MT) (R := _) (aS rfl (aS rfl a0)) (by kernel_rfl) PickC.perm (pread2_spec pb bt bm 1 _ sv s.ts v w MT _ hT At.mem (by omega) (hv.mono SubC.sub) (SubC.sub _ h4)) rfl ?_)
  rintro v24 M24 J24 ⟨rfl, hT24⟩ hKx
  refine XK.lo [] _ rfl rfl (List.Perm.refl _) (fun _ h => by cases h) fun w0 => (l_buildSlice (e := 3) (sz := 1) (z := [.int .i64 0]) (by kernel_rfl) (eS rfl e0) (bdS 0 1 rfl (by rfl) bd0) rfl fun b25 => fun _ => ?_)
  refine XK.perm (M' := (b25, blk [.int .i64 ((rdI s.ts w : Nat) : Int)] 3) :: (M24 ++ ((pb, blk [.int .u8 1, sv, .int .i64 (((s.n : Nat) : Int)), .pointer (some ⟨bt, 0, none⟩)] 77) :: (B ++ [])))) (by simp) ?_
  refine XK.q hs rfl (q_build (place := fun x => #[(0, 1), (1, 1), (2, 1), (3, 1)][x]?) (z := [.int .u8 0, .slice none 0 0, .string ByteArray.empty, .int .i64 0]) (fun _ => by kernel_rfl) (eS rfl (eS rfl (eS rfl e0))) (bdS 0 1 rfl (by rfl) (bdS 1 1 rfl (by rfl) (bdS 2 1 rfl (by rfl) bd0)))) rfl ?_
  refine XK.tl rfl rfl rfl (l_call (Mc := M24) (R := _) (aS rfl (aS rfl a0)) (by kernel_rfl) PickC.perm (putT_spec bt bm (rdT s.ts w) _ (sigT ((rdI s.ts w : Nat) : Int) wm) M24 _ hT24 (by have := rdT_len (ts := s.ts) (ws := w); omega) (Rd.whole (n := 1) At.mem (by rfl)) (sig_ok (rdI_i64 hv.lt (by omega) hT.tok.tmo (by omega)) hm.lt hm.len) (SubC.sub _ h4)) rfl ?_)
  rintro v29 M29 J29 ⟨rfl, rfl, hT29⟩
  refine XK.tl rfl rfl rfl (l_call0 (aS rfl a0) (by kernel_rfl) (bytesJ_spec _ _) rfl ?_)
  rintro v30 M30 J30 ⟨rfl, h30⟩
  haveI := h30.cel
  refine XK.tl rfl rfl rfl (l_call0 (aS rfl (aS rfl a0)) (by kernel_rfl) (fit_spec v30 _ 64 _ (h30.mono SubC.sub) (by decide)) rfl ?_)
  rintro v31 M31 J31 ⟨rfl, h31⟩
  refine XK.q hs rfl (q_assign rfl) rfl ?_
  refine XK.fin (kp 6 rfl kn) ?_
  refine XC.ret ?_
  exact ⟨_, (pb, blk [.int .u8 1, sv, .int .i64 (((s.n : Nat) : Int)), .pointer (some ⟨bt, 0, none⟩)] 77) :: (B ++ M29), [], res1 rfl rfl, (Fit.none (Fit.pick (B := [_]) PickC.perm (Fit.pick PickC.perm (Fit.last PickC.perm)))), ⟨sv, B, M29, by rw [show md (one1 s w (fun x => sigT x wm)).real = 1 by show md s.real = 1; rw [hr]; rfl]; rfl, hby, hT29⟩, h31.mono SubC.sub⟩

end Go.Proofs.YthmnlkpikgglbaaGreatDoor
/- The walk of pawllaw22's build. -/
set_option linter.unusedVariables false
set_option linter.unusedSimpArgs false
namespace Go.Proofs.YthmnlkpikgglbaaGreatDoor
open Go.Px
/-- What build has: the keys' state, and the bytes. -/
abbrev Bst := Ps × List (List Nat)
def b00 : Bst := (freshS (freshS (freshS s00)), [freshK s00, freshK (freshS s00), freshK (freshS (freshS s00))])
def pick (l : List (List Nat)) (x : Nat) : List Nat := l.getD (x % l.length) []
def stepB (st : Bst) (k x y : Nat) : Bst :=
  let a := pick st.2 x
  let b := pick st.2 y
  if k % 7 = 0 then (freshS st.1, st.2 ++ [freshK st.1])
  else if k % 7 = 1 then (pubS st.1 a, st.2 ++ [pubK st.1 a])
  else if k % 7 = 2 then (agrS st.1 a b, st.2 ++ [agrK st.1 a b])
  else if k % 7 = 3 then (derS st.1 a [b] [100] 2, st.2 ++ derK st.1 a [b] [100] 2)
  else if k % 7 = 4 then (one1 st.1 a fun z => selT z [119] [y], st.2 ++ [oneK st.1 a fun z => selT z [119] [y]])
  else if k % 7 = 5 then (one1 st.1 a fun z => sigT z [109], st.2 ++ [(fitN (oneK st.1 a fun z => sigT z [109]) 64).take 32])
  else (agrS (pubS st.1 b) a (pubK st.1 b), st.2 ++ [agrK (pubS st.1 b) a (pubK st.1 b)])
def bAt (zs : List Nat) : Nat → Bst
  | 0 => b00
  | i + 1 => stepB (bAt zs i) (zs.getD (i * 3) 0) (zs.getD (i * 3 + 1) 0) (zs.getD (i * 3 + 2) 0)
structure Bok (st : Bst) (i : Nat) : Prop where
  real : st.1.real = false
  ts : st.1.ts.length ≤ 3 + 5 * i
  n : st.1.n ≤ 3 + i
  lo : 3 ≤ st.2.length
  hi : st.2.length ≤ 3 + 2 * i
theorem fresh_len {s : Ps} (h : s.real = false) : (freshS s).ts.length ≤ s.ts.length + 1 ∧ (freshS s).n = s.n + 1 ∧ (freshS s).real = false := by
  rw [freshS_f h]
  exact ⟨add_len, rfl, h⟩
theorem pub_len (s : Ps) (w : List Nat) : (pubS s w).ts.length ≤ s.ts.length + 2 := by
  have h1 := add_len (ts := rdT s.ts w) (t := pubT ((rdI s.ts w : Nat) : Int))
  have h2 := rdT_len (ts := s.ts) (ws := w)
  show (add _ _).length ≤ _
  omega
theorem agr_len (s : Ps) (w u : List Nat) : (agrS s w u).ts.length ≤ s.ts.length + 3 := by
  have h1 := add_len (ts := rdT (rdT s.ts w) u) (t := agT (rdT (rdT s.ts w) u) ((rdI s.ts w : Nat) : Int) ((rdI (rdT s.ts w) u : Nat) : Int))
  have h2 := rdT_len (ts := s.ts) (ws := w)
  have h3 := rdT_len (ts := rdT s.ts w) (ws := u)
  show (add _ _).length ≤ _
  omega
theorem one_len (s : Ps) (w : List Nat) (f : Int → Tm) : (one1 s w f).ts.length ≤ s.ts.length + 2 := by
  have h1 := add_len (ts := rdT s.ts w) (t := f ((rdI s.ts w : Nat) : Int))
  have h2 := rdT_len (ts := s.ts) (ws := w)
  show (add _ _).length ≤ _
  omega
theorem derK_len2 (s : Ps) (h : s.real = false) (key : List Nat) (ws : List (List Nat)) (lb : List Nat) (n : Nat) : (derK s key ws lb n).length = n := by
  rw [derK_f h]
  exact (ptAll_len _ _ _ _).1
section
variable {st : Bst} {k x y : Nat}
theorem sb0 (h : k % 7 = 0) : stepB st k x y = (freshS st.1, st.2 ++ [freshK st.1]) := by unfold stepB; simp [h]
theorem sb1 (h : k % 7 = 1) : stepB st k x y = (pubS st.1 (pick st.2 x), st.2 ++ [pubK st.1 (pick st.2 x)]) := by unfold stepB; simp [h]
theorem sb2 (h : k % 7 = 2) : stepB st k x y = (agrS st.1 (pick st.2 x) (pick st.2 y), st.2 ++ [agrK st.1 (pick st.2 x) (pick st.2 y)]) := by unfold stepB; simp [h]
theorem sb3 (h : k % 7 = 3) : stepB st k x y = (derS st.1 (pick st.2 x) [pick st.2 y] [100] 2, st.2 ++ derK st.1 (pick st.2 x) [pick st.2 y] [100] 2) := by unfold stepB; simp [h]
theorem sb4 (h : k % 7 = 4) : stepB st k x y = (one1 st.1 (pick st.2 x) fun z => selT z [119] [y], st.2 ++ [oneK st.1 (pick st.2 x) fun z => selT z [119] [y]]) := by unfold stepB; simp [h]
theorem sb5 (h : k % 7 = 5) : stepB st k x y = (one1 st.1 (pick st.2 x) fun z => sigT z [109], st.2 ++ [(fitN (oneK st.1 (pick st.2 x) fun z => sigT z [109]) 64).take 32]) := by unfold stepB; simp [h]
theorem sb6 (h : k % 7 ≠ 0 ∧ k % 7 ≠ 1 ∧ k % 7 ≠ 2 ∧ k % 7 ≠ 3 ∧ k % 7 ≠ 4 ∧ k % 7 ≠ 5) : stepB st k x y = (agrS (pubS st.1 (pick st.2 y)) (pick st.2 x) (pubK st.1 (pick st.2 y)), st.2 ++ [agrK (pubS st.1 (pick st.2 y)) (pick st.2 x) (pubK st.1 (pick st.2 y))]) := by unfold stepB; simp [h]
end
theorem bok_mk {st : Bst} {s' : Ps} {outs : List (List Nat)} {i : Nat} (h : Bok st i) (hr : s'.real = false) (ht : s'.ts.length ≤ st.1.ts.length + 5) (hn : s'.n ≤ st.1.n + 1) (h1 : 1 ≤ outs.length) (h2 : outs.length ≤ 2) : Bok (s', st.2 ++ outs) (i + 1) := by
  obtain ⟨g1, g2, g3, g4, g5⟩ := h
  exact ⟨hr, by show s'.ts.length ≤ _; omega, by show s'.n ≤ _; omega, by rw [List.length_append]; omega, by rw [List.length_append]; omega⟩
theorem pub_n (s : Ps) (w : List Nat) : (pubS s w).n = s.n ∧ (pubS s w).real = s.real := ⟨rfl, rfl⟩
theorem agr_n (s : Ps) (w u : List Nat) : (agrS s w u).n = s.n ∧ (agrS s w u).real = s.real := ⟨rfl, rfl⟩
theorem one_n (s : Ps) (w : List Nat) (f : Int → Tm) : (one1 s w f).n = s.n ∧ (one1 s w f).real = s.real := ⟨rfl, rfl⟩
theorem bok_step {st : Bst} {i : Nat} (h : Bok st i) (k x y : Nat) : Bok (stepB st k x y) (i + 1) := by
  have h1 := h.real
  rcases (by omega : k % 7 = 0 ∨ k % 7 = 1 ∨ k % 7 = 2 ∨ k % 7 = 3 ∨ k % 7 = 4 ∨ k % 7 = 5 ∨ k % 7 = 6) with e | e | e | e | e | e | e
  · rw [sb0 e]
    have hf := fresh_len h1
    exact bok_mk h hf.2.2 (by omega) (by omega) (Nat.le_refl 1) (show 1 ≤ 2 by decide)
  · rw [sb1 e]
    have hp := pub_len st.1 (pick st.2 x)
    have hq := pub_n st.1 (pick st.2 x)
    exact bok_mk h (hq.2.trans h1) (by omega) (by omega) (Nat.le_refl 1) (show 1 ≤ 2 by decide)
  · rw [sb2 e]
    have hp := agr_len st.1 (pick st.2 x) (pick st.2 y)
    have hq := agr_n st.1 (pick st.2 x) (pick st.2 y)
    exact bok_mk h (hq.2.trans h1) (by omega) (by omega) (Nat.le_refl 1) (show 1 ≤ 2 by decide)
  · rw [sb3 e]
    have hd := derS_len st.1 (pick st.2 x) [pick st.2 y] [100] 2
    have hdr := derS_real st.1 (pick st.2 x) [pick st.2 y] [100] 2
    have hdk := derK_len2 st.1 h1 (pick st.2 x) [pick st.2 y] [100] 2
    simp only [List.length_cons, List.length_nil] at hd
    exact bok_mk h (hdr.1.trans h1) (by omega) (by omega) (by omega) (by omega)
  · rw [sb4 e]
    have hp := one_len st.1 (pick st.2 x) (fun z => selT z [119] [y])
    have hq := one_n st.1 (pick st.2 x) (fun z => selT z [119] [y])
    exact bok_mk h (hq.2.trans h1) (by omega) (by omega) (Nat.le_refl 1) (show 1 ≤ 2 by decide)
  · rw [sb5 e]
    have hp := one_len st.1 (pick st.2 x) (fun z => sigT z [109])
    have hq := one_n st.1 (pick st.2 x) (fun z => sigT z [109])
    exact bok_mk h (hq.2.trans h1) (by omega) (by omega) (Nat.le_refl 1) (show 1 ≤ 2 by decide)
  · rw [sb6 (by omega)]
    have hpb := pub_len st.1 (pick st.2 y)
    have hab := agr_len (pubS st.1 (pick st.2 y)) (pick st.2 x) (pubK st.1 (pick st.2 y))
    have hq := pub_n st.1 (pick st.2 y)
    have hq2 := agr_n (pubS st.1 (pick st.2 y)) (pick st.2 x) (pubK st.1 (pick st.2 y))
    exact bok_mk h (hq2.2.trans (hq.2.trans h1)) (by omega) (by omega) (Nat.le_refl 1) (show 1 ≤ 2 by decide)
theorem bok0 : Bok b00 0 := ⟨by decide +kernel, by decide +kernel, by decide +kernel, by decide, by decide⟩
theorem bok (zs : List Nat) (i : Nat) : Bok (bAt zs i) i := by
  induction i with
  | zero => exact bok0
  | succ i ih => exact bok_step ih _ _ _

end Go.Proofs.YthmnlkpikgglbaaGreatDoor
