/- The walks of package closure: New, grow, Close, Learn, Has. -/
import Derived.Test.YthmnlkpikgglbaaGreatDoorCls2
set_option linter.unusedVariables false
set_option linter.unusedSimpArgs false
namespace Go.Proofs.YthmnlkpikgglbaaGreatDoor
open Go.Px
def padB (h : List Bool) (n : Nat) : List Bool := h ++ List.replicate (n - h.length) false
theorem padB_len {h : List Bool} {n : Nat} (hl : h.length ≤ n) : (padB h n).length = n := by simp [padB]; omega
theorem kat_pad (h : List Bool) (n i : Nat) : kat (padB h n) i = kat h i := by
  unfold kat padB
  rw [List.getD_eq_getElem?_getD, List.getD_eq_getElem?_getD]
  by_cases hi : i < h.length
  · rw [List.getElem?_append_left hi]
  · rw [List.getElem?_append_right (by omega), List.getElem?_eq_none (l := h) (by omega), List.getElem?_replicate]
    split <;> rfl
theorem pad_le (h : List Bool) (n : Nat) : Le h (padB h n) := fun i hi => by rw [kat_pad]; exact hi
theorem le_pad (h : List Bool) (n : Nat) : Le (padB h n) h := fun i hi => by rw [kat_pad] at hi; exact hi
theorem cnt_pad (h : List Bool) (n : Nat) : cnt (padB h n) = cnt h := by
  unfold cnt padB
  rw [List.countP_append]
  simp [List.countP_replicate]
theorem cnt_top (h : List Bool) : cnt h ≤ h.length := List.countP_le_length
def chgd (ts : List Tm) (h : List Bool) (n : Nat) : Bool := decide (psN ts h n ≠ h)
theorem chgd_0 (ts : List Tm) (h : List Bool) : chgd ts h 0 = false := by unfold chgd; exact decide_eq_false (fun hh => hh rfl)
/-- A term that is new. -/
theorem chgd_y {ts : List Tm} {h : List Bool} {n : Nat} (hl : n < h.length) (h1 : kat (psN ts h n) n = false) (h2 : madeF ts (psN ts h n) n = true) : psN ts h (n + 1) = (psN ts h n).set n true ∧ chgd ts h (n + 1) = true := by
  have e : psN ts h (n + 1) = (psN ts h n).set n true := by rw [psN_succ]; unfold stF; rw [h1, h2]; rfl
  refine ⟨e, decide_eq_true fun hh => ?_⟩
  have h3 : kat h n = false := by
    cases hk : kat h n with
    | false => rfl
    | true => rw [psN_le ts h n n hk] at h1; cases h1
  have h4 := kat_set (h := psN ts h n) (i := n) (j := n) (by rw [psN_len]; exact hl)
  rw [← e, hh, h3] at h4
  simp at h4
theorem chgd_n {ts : List Tm} {h : List Bool} {n : Nat} (h1 : (!kat (psN ts h n) n && madeF ts (psN ts h n) n) = false) : psN ts h (n + 1) = psN ts h n ∧ chgd ts h (n + 1) = chgd ts h n := by
  have e : psN ts h (n + 1) = psN ts h n := by rw [psN_succ]; unfold stF; rw [h1]; rfl
  exact ⟨e, by unfold chgd; rw [e]⟩
theorem padB_id {h : List Bool} {n : Nat} (hl : h.length = n) : padB h n = h := by simp [padB, hl]

set_option maxRecDepth 100000 in
theorem knew_spec (bt : Nat) (A : Mem) : FnX Tryz.prog 11 [.pointer (some ⟨bt, 0, none⟩)] [] A fun q M J => ∃ kb, q = .pointer (some ⟨kb, 0, none⟩) ∧ Knw kb bt [] M := by
  skip
  refine FnX.enterZ (N := 6) Tryz.func11 rfl rfl rfl fun w_ => ?_
  refine XC.keep (kp 0 rfl kn) ?_
  refine XC.reg ?_
  refine XL.q (q_assign rfl) rfl ?_
  refine XL.fin (kp 0 rfl kn) ?_
  refine XC.reg ?_
  refine XL.q (q_move rfl) rfl ?_
  refine XL.q (q_build (place := fun x => #[(0, 1), (1, 1)][x]?) (z := [.pointer none, .slice none 0 0]) (fun _ => by kernel_rfl) (eS rfl e0) (bdS 0 1 rfl (by rfl) bd0)) rfl ?_
  refine XL.lo rfl (l_box rfl (by first | exact Cel.cel | rfl) rfl fun b5 => ?_)
  refine XL.q (q_assign rfl) rfl ?_
  refine XL.fin (kp 2 rfl kn) ?_
  refine XC.ret ?_
  exact ⟨_, [(b5, _)], [], res1 rfl rfl, Fit.none (Fit.last PickC.perm), b5, rfl, _, [], rfl, Sl.nil⟩

set_option maxRecDepth 100000 in
theorem grow_spec (kb bt bm : Nat) (ts : List Tm) (h : List Bool) (MK A : Mem) (hK : Knw kb bt h MK) (hT0 : TbR bt bm ts A) (hl : h.length ≤ ts.length) (hn : ts.length ≤ 1048576) : FnX Tryz.prog 33 [.pointer (some ⟨kb, 0, none⟩)] MK A fun q M J => Knw kb bt (padB h ts.length) M := by
  obtain ⟨v, B, rfl, hsl⟩ := hK.ex
  haveI := hsl.cel
  obtain ⟨MT, hT, hsub⟩ := hT0.ex
  refine FnX.enterZ (N := 21) Tryz.func33 rfl rfl rfl fun w_ => ?_
  refine XC.keep (kp 0 rfl kn) ?_
  refine XC.drawF1 [0, 1, 2, 3, 4, 5, 6, 7, 8, 9, 10, 11, 12, 13, 14, 15, 17, 18] [(0, 0), (1, 0), (2, 0), (3, 0), (4, 1), (5, 0), (6, 0), (7, 0), (8, 1), (10, 0), (11, 0), (12, 0), (13, 1), (14, 0), (9, 2), (15, 0), (16, 2), (17, 0), (18, 0), (19, 2)] (by kernel_rfl) (by kernel_rfl) fun hs => ?_
  refine XF.q hs rfl (q_move rfl) rfl ?_
  refine XF.q hs rfl (q_move rfl) rfl ?_
  refine XF.q hs rfl (q_nil rfl) rfl ?_
  refine XF.q hs rfl (q_fieldAddrN 1 (off := 1) rfl (by kernel_rfl) rfl) rfl ?_
  refine XF.r hs rfl (q_load rfl (by kernel_rfl) (by first | exact At.mem | exact mA (by assumption)) (by rfl)) rfl ?_
  refine XF.q hs rfl (q_move rfl) rfl ?_
  refine XF.q hs rfl (q_nil rfl) rfl ?_
  refine XF.q hs rfl (q_fieldAddrN 0 (off := 0) rfl (by kernel_rfl) rfl) rfl ?_
  refine XF.r hs rfl (q_load rfl (by kernel_rfl) (by first | exact At.mem | exact mA (by assumption)) (by rfl)) rfl ?_
  refine XF.q hs rfl (q_move rfl) rfl ?_
  refine XF.q hs rfl (q_nil rfl) rfl ?_
  refine XF.q hs rfl (q_fieldAddrN 1 (off := 1) rfl (by kernel_rfl) rfl) rfl ?_
  refine XF.r hs rfl (q_load rfl (by kernel_rfl) (by first | exact At.mem | exact mA (by assumption)) (by rfl)) rfl ?_
  refine XF.q hs rfl (q_lenV2 (sz := 1) rfl (by kernel_rfl) (hsl.rd (R := B) fun _ h => h)) rfl ?_
  refine XF.callV rfl (aS rfl a0) (by kernel_rfl) (lenT_spec bt bm ts MT _ hT (fun x hx => mA (hsub x hx))) rfl ?_
  refine XF.q hs rfl (q_subI rfl rfl rfl rfl (by omega) (by omega)) rfl ?_
  refine XF.tl rfl rfl rfl (l_appendZB (e := 4) (by_ := 1) (m := ts.length - h.length) rfl rfl (by omega) (by kernel_rfl) hsl PickC.perm (by unfold maxLen; omega) (by omega) rfl fun v18 B18 hs18 => ?_)
  refine XF.q hs rfl (q_nil rfl) rfl ?_
  refine XF.q hs rfl (q_fieldAddrN 1 (off := 1) rfl (by kernel_rfl) rfl) rfl ?_
  refine XF.tl rfl rfl rfl (l_store rfl rfl hs18.one (by kernel_rfl) SetC.set UpC.upd ?_)
  refine XF.nil ?_
  exact ⟨_, _, [], res0 rfl, Fit.none (Fit.last PickC.perm), v18, B18, rfl, by rw [padB_len hl]; exact sl_eq hs18 (by omega) (by rw [padB, bools_app])⟩

set_option maxRecDepth 100000 in
theorem close_spec (kb bt bm : Nat) (ts : List Tm) (h : List Bool) (MK A : Mem) (hK : Knw kb bt h MK) (hT0 : TbR bt bm ts A) (hl : h.length ≤ ts.length) (hn : ts.length ≤ 1048576) {e4 : TypeId} {f4 : Nat × Nat} (h4 : (4, Obj.cells (nums .u64 pow10T).toArray e4 f4) ∈ A) : FnX Tryz.prog 15 [.pointer (some ⟨kb, 0, none⟩)] MK A fun q M J => ∃ h', Clo ts h h' ∧ Knw kb bt h' M := by
  obtain ⟨v, B, rfl, hsl⟩ := hK.ex
  haveI := hsl.cel
  refine FnX.enterZ (N := 44) Tryz.func15 rfl rfl rfl fun w_ => ?_
  refine XC.keep (kp 0 rfl kn) ?_
  refine XC.seq ?_
  refine XC.reg ?_
  refine XL.q (q_move rfl) rfl ?_
  refine XL.q (q_ptrEqNil (e := 79) rfl rfl (by kernel_rfl)) rfl ?_
  refine XL.q (q_move rfl) rfl ?_
  refine XL.gy rfl rfl (OpQ.opL (q_move rfl) rfl ?_)
  refine XL.gy rfl rfl (OpQ.opL (q_nil rfl) rfl ?_)
  refine XL.gy rfl rfl (OpQ.opL (q_fieldAddrN 0 (off := 0) rfl (by kernel_rfl) rfl) rfl ?_)
  refine XL.gy rfl rfl (OpQ.opL (q_load rfl (by kernel_rfl) (by first | exact At.mem | exact mA (by assumption)) (by rfl)) rfl ?_)
  refine XL.gy rfl rfl (OpQ.opL (q_ptrEqNil (e := 83) rfl rfl (by kernel_rfl)) rfl ?_)
  refine XL.q (q_pickF rfl rfl) rfl ?_
  refine XL.fin (kp 0 rfl (kp 12 rfl kn)) ?_
  refine XC.condF rfl ?_
  refine XC.skip ?_
  refine nx (kp 0 rfl kn) ?_
  refine XC.reg ?_
  refine XL.q (q_assign rfl) rfl ?_
  refine XL.fin (kp 0 rfl (kp 2 rfl kn)) ?_
  refine XC.block ?_
  refine XC.loop (α := Bool × List Bool × Mem) (fun x => [(0, .pointer (some ⟨kb, 0, none⟩)), (2, .bool x.1)]) (fun x => x.2.2) (fun _ => []) (fun x => Knw kb bt x.2.1 x.2.2 ∧ x.2.1.length ≤ ts.length ∧ Le h x.2.1 ∧ (∀ h', Le h h' → Cld ts h' → Le x.2.1 h') ∧ (x.1 = false → x.2.1.length = ts.length ∧ Cld ts x.2.1)) (fun x => 2 * (ts.length - cnt x.2.1) + (if x.1 then 1 else 0)) ⟨true, h, _⟩ ⟨hK, hl, Le.refl h, fun _ h1 _ => h1, fun h => by cases h⟩ (kp 0 rfl (kp 2 rfl kn)) .rfl (fun _ h => h) ?_
  rintro ⟨mo, g, MKi⟩ ⟨hKi, hgl, hg1, hg2, hg3⟩
  dsimp only at hKi hgl hg1 hg2 hg3 ⊢
  refine XC.seq ?_
  refine XC.reg ?_
  refine XL.q (q_move rfl) rfl ?_
  refine XL.fin (kp 0 rfl (kp 13 rfl kn)) ?_
  refine XC.cond rfl (fun hc => ?_) (fun hc => ?_)
  ·
    obtain rfl : mo = true := hc
    refine XC.skip ?_
    refine nx (kp 0 rfl kn) ?_
    refine XC.block ?_
    refine XC.reg ?_
    refine XL.q (q_assign rfl) rfl ?_
    refine XL.fin (kp 0 rfl (kp 2 rfl kn)) ?_
    refine XC.reg ?_
    refine XL.q (q_move rfl) rfl ?_
    refine XL.lo rfl (l_call (Mc := MKi) (R := _) (aS rfl a0) (by kernel_rfl) PickC.perm (grow_spec kb bt bm ts g MKi _ hKi (hT0.mono SubC.sub) hgl hn) rfl ?_)
    rintro v15 M15 J15 hK15
    clear hKi
    have hpl := padB_len hgl
    have hq1 : Le g (padB g ts.length) := pad_le g _
    have hq2 := le_pad g ts.length
    have hcp := cnt_pad g ts.length
    generalize hp : padB g ts.length = p at *
    obtain ⟨v, B, rfl, hsl⟩ := hK15.ex
    clear hK15
    haveI := hsl.cel
    refine XL.fin (kp 0 rfl (kp 2 rfl kn)) ?_
    refine XC.reg ?_
    refine XL.q (q_move rfl) rfl ?_
    refine XL.q (q_nil rfl) rfl ?_
    refine XL.q (q_fieldAddrN 1 (off := 1) rfl (by kernel_rfl) rfl) rfl ?_
    refine XL.q (q_load rfl (by kernel_rfl) (by first | exact At.mem | exact mA (by assumption)) (by rfl)) rfl ?_
    refine XL.q (q_lenV2 (sz := 1) rfl (by kernel_rfl) (hsl.rd (R := B) fun _ h => h)) rfl ?_
    refine XL.q (q_move rfl) rfl ?_
    refine XL.fin (kp 0 rfl (kp 2 rfl (kp 20 rfl (kp 21 rfl kn)))) ?_
    refine XC.block ?_
    rw [hpl]
    refine XC.loop (α := Nat × Value × Mem) (fun x => [(0, .pointer (some ⟨kb, 0, none⟩)), (2, .bool (chgd ts p x.1)), (20, .int .i64 ((ts.length : Nat) : Int)), (21, .int .i64 ((x.1 : Nat) : Int))]) (fun x => (kb, blk [.pointer (some ⟨bt, 0, none⟩), x.2.1] 79) :: x.2.2) (fun _ => []) (fun x => x.1 ≤ ts.length ∧ Sl 1 x.2.1 ts.length (bools (psN ts p x.1)) x.2.2) (fun x => ts.length - x.1) ⟨0, v, B⟩ ⟨Nat.zero_le _, by rw [← hpl]; exact hsl⟩ (kp 0 rfl (kp 2 (by rw [chgd_0]; rfl) (kp 20 rfl (kp 21 rfl kn)))) (Fit.last PickC.perm) (fun _ h => by cases h) ?_
    clear hsl
    rintro ⟨i, v, B⟩ ⟨hi, hsl⟩
    dsimp only at hi hsl ⊢
    haveI := hsl.cel
    refine XC.reg ?_
    refine XL.q (q_bin rfl rfl rfl) rfl ?_
    refine XL.fin (kp 0 rfl (kp 2 rfl (kp 20 rfl (kp 21 rfl (kp 22 rfl kn))))) ?_
    refine XC.seq ?_
    refine XC.cond rfl (fun hc => ?_) (fun hc => ?_)
    ·
      have hlt : i < ts.length := by simp at hc; omega
      refine XC.skip ?_
      refine nx (kp 0 rfl (kp 2 rfl (kp 20 rfl (kp 21 rfl kn)))) ?_
      refine XC.seq ?_
      refine XC.block ?_
      refine XC.reg ?_
      refine XL.q (q_move rfl) rfl ?_
      refine XL.q (q_assign rfl) rfl ?_
      refine XL.fin (kp 0 rfl (kp 2 rfl (kp 3 rfl (kp 20 rfl (kp 21 rfl kn))))) ?_
      refine XC.reg ?_
      refine XL.q (q_move rfl) rfl ?_
      refine XL.q (q_nil rfl) rfl ?_
      refine XL.q (q_fieldAddrN 1 (off := 1) rfl (by kernel_rfl) rfl) rfl ?_
      refine XL.q (q_load rfl (by kernel_rfl) (by first | exact At.mem | exact mA (by assumption)) (by rfl)) rfl ?_
      refine XL.q (q_move rfl) rfl ?_
      refine XL.q (q_atV2 (sz := 1) rfl rfl (by kernel_rfl) rfl (hsl.rd (R := B) fun _ h => h) hlt) rfl ?_
      refine XL.q (q_ldV (j := i) (u := .bool ((psN ts p i).getD i false)) (hsl.rd SubC.sub) rfl (by kernel_rfl) (bools_get (by rw [psN_len]; omega))) rfl ?_
      refine XL.q (q_not rfl) rfl ?_
      refine XL.q (q_move rfl) rfl ?_
      refine XL.split (t := 32) rfl (fun hb => ?_) (fun hb => ?_)
      ·
        have hk1 : kat (psN ts p i) i = false := by unfold kat; simpa using hb
        refine XL.gy rfl rfl (OpQ.opL (q_move rfl) rfl ?_)
        refine XL.gy rfl rfl (OpQ.opL (q_move rfl) rfl ?_)
        refine XL.callVg rfl rfl (aS rfl (aS rfl a0)) (by kernel_rfl) (made_k kb bt bm ts (psN ts p i) i _ (Knw.rd ⟨v, B, rfl, by rw [psN_len, hpl]; exact hsl⟩ SubC.sub) (hT0.mono SubC.sub) hlt (SubC.sub _ h4)) rfl ?_
        refine XL.q (q_pickT rfl rfl) rfl ?_
        refine XL.fin (kp 0 rfl (kp 2 rfl (kp 3 rfl (kp 20 rfl (kp 21 rfl (kp 36 rfl kn)))))) ?_
        refine XC.cond rfl (fun hc => ?_) (fun hc => ?_)
        ·
          obtain ⟨he1, he2⟩ := chgd_y (by omega) hk1 hc
          refine XC.reg1 ?_
          refine XL.q (q_move rfl) rfl ?_
          refine XL.q (q_nil rfl) rfl ?_
          refine XL.q (q_fieldAddrN 1 (off := 1) rfl (by kernel_rfl) rfl) rfl ?_
          refine XL.q (q_load rfl (by kernel_rfl) (by first | exact At.mem | exact mA (by assumption)) (by rfl)) rfl ?_
          refine XL.q (q_move rfl) rfl ?_
          refine XL.q (q_atV2 (sz := 1) rfl rfl (by kernel_rfl) rfl (hsl.rd (R := B) fun _ h => h) hlt) rfl ?_
          refine XL.lo rfl (l_stE hsl rfl rfl rfl (by kernel_rfl) hlt PickC.perm fun B9 hs9 => ?_)
          refine XL.q (q_assign rfl) rfl ?_
          refine XL.nil ?_
          refine nb ?_
          refine nx (kp 0 rfl (kp 2 rfl (kp 20 rfl (kp 21 rfl kn)))) ?_
          refine XC.reg1 ?_
          refine XL.q (q_addI (b := 1) rfl rfl rfl rfl (by omega)) rfl ?_
          refine XL.q (q_move rfl) rfl ?_
          refine XL.nil ?_
          exact rn ⟨i + 1, v, B9⟩ ⟨by dsimp only; omega, by dsimp only; rw [he1, ← bools_set]; exact hs9⟩ (by dsimp only; omega) (kp 0 rfl (kp 2 (by dsimp only; rw [he2]; rfl) (kp 20 rfl (kp 21 rfl kn)))) (Fit.pick (B := [_]) PickC.perm (Fit.last PickC.perm)) (fun _ h => h)
        ·
          obtain ⟨he1, he2⟩ := chgd_n (by rw [hk1, hc]; rfl)
          refine XC.skip ?_
          refine nb ?_
          refine nx (kp 0 rfl (kp 2 rfl (kp 20 rfl (kp 21 rfl kn)))) ?_
          refine XC.reg1 ?_
          refine XL.q (q_addI (b := 1) rfl rfl rfl rfl (by omega)) rfl ?_
          refine XL.q (q_move rfl) rfl ?_
          refine XL.nil ?_
          exact rn ⟨i + 1, v, B⟩ ⟨by dsimp only; omega, by dsimp only; rw [he1]; exact hsl⟩ (by dsimp only; omega) (kp 0 rfl (kp 2 (by dsimp only; rw [he2]; rfl) (kp 20 rfl (kp 21 rfl kn)))) (Fit.pick (B := [_]) PickC.perm (Fit.last PickC.perm)) (fun _ h => h)
      ·
        have hk1 : kat (psN ts p i) i = true := by unfold kat; simpa using hb
        obtain ⟨he1, he2⟩ := chgd_n (by rw [hk1]; rfl)
        refine XL.gn rfl rfl rfl rfl ?_
        refine XL.gn rfl rfl rfl rfl ?_
        refine XL.gn rfl rfl rfl rfl ?_
        refine XL.q (q_pickF rfl rfl) rfl ?_
        refine XL.fin (kp 0 rfl (kp 2 rfl (kp 3 rfl (kp 20 rfl (kp 21 rfl (kp 36 rfl kn)))))) ?_
        refine XC.condF rfl ?_
        refine XC.skip ?_
        refine nb ?_
        refine nx (kp 0 rfl (kp 2 rfl (kp 20 rfl (kp 21 rfl kn)))) ?_
        refine XC.reg1 ?_
        refine XL.q (q_addI (b := 1) rfl rfl rfl rfl (by omega)) rfl ?_
        refine XL.q (q_move rfl) rfl ?_
        refine XL.nil ?_
        exact rn ⟨i + 1, v, B⟩ ⟨by dsimp only; omega, by dsimp only; rw [he1]; exact hsl⟩ (by dsimp only; omega) (kp 0 rfl (kp 2 (by dsimp only; rw [he2]; rfl) (kp 20 rfl (kp 21 rfl kn)))) (Fit.pick (B := [_]) PickC.perm (Fit.last PickC.perm)) (fun _ h => h)
    ·
      have hge : i = ts.length := by simp at hc; omega
      subst hge
      refine XC.exit ?_
      refine te ?_
      refine re ?_
      refine be rfl ?_
      refine nb ?_
      have hcl := cnt_le (h := p) (h' := psN ts p ts.length) (by rw [psN_len]) (psN_le _ _ _)
      have hct := cnt_top (psN ts p ts.length)
      rw [psN_len, hpl] at hct
      have hne : chgd ts p ts.length = true → p ≠ psN ts p ts.length := fun h1 h2 => (of_decide_eq_true h1) h2.symm
      refine rn ⟨chgd ts p ts.length, psN ts p ts.length, (kb, blk [.pointer (some ⟨bt, 0, none⟩), v] 79) :: B⟩ ⟨⟨v, B, rfl, by rw [psN_len, hpl]; exact hsl⟩, by dsimp only; rw [psN_len]; omega, hg1.trans (hq1.trans (psN_le _ _ _)), fun h' a b => psN_below (hq2.trans (hg2 h' a b)) b _, fun hf => ?_⟩ ?_ (kp 0 rfl (kp 2 rfl kn)) (Fit.last PickC.perm) (fun _ h => by cases h)
      · have e := Decidable.not_not.1 (of_decide_eq_false hf)
        dsimp only
        rw [e]
        exact ⟨hpl, Cld.of hpl e⟩
      · dsimp only
        cases hch : chgd ts p ts.length with
        | true =>
          have h5 := hne hch
          have : cnt p ≠ cnt (psN ts p ts.length) := fun h6 => h5 (hcl.2 h6)
          simp only [if_true]
          omega
        | false => simp only [if_true, Bool.false_eq_true, if_false]; omega
  ·
    obtain rfl : mo = false := hc
    obtain ⟨hg4, hg5⟩ := hg3 rfl
    refine XC.exit ?_
    refine te ?_
    refine re ?_
    refine be rfl ?_
    exact ⟨_, MKi, [], res0 rfl, Fit.none (Fit.last PickC.perm), g, ⟨hg4, hg1, hg5, hg2⟩, hKi⟩
