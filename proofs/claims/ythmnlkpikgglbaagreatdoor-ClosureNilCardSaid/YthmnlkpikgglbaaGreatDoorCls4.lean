/- The walks of package closure: Learn, Has. -/
import Derived.Test.YthmnlkpikgglbaaGreatDoorCls3
set_option linter.unusedVariables false
set_option linter.unusedSimpArgs false
namespace Go.Proofs.YthmnlkpikgglbaaGreatDoor
open Go.Px
abbrev Lst2 := List Tm × List Bool
def lrSt (st : Lst2) (w : List Nat) : Lst2 := (rdT st.1 w, (padB st.2 (rdT st.1 w).length).set (rdI st.1 w) true)
def lrAll (ts : List Tm) (h : List Bool) (ls : List (List Nat)) : Lst2 := ls.foldl lrSt (ts, h)
theorem lrSt_len {st : Lst2} {w : List Nat} (hl : st.2.length ≤ st.1.length) : (lrSt st w).2.length = (lrSt st w).1.length := by
  show ((padB st.2 (rdT st.1 w).length).set _ true).length = (rdT st.1 w).length
  have := rdT_ge (ts := st.1) (w := w)
  rw [List.length_set, padB_len (by omega)]
theorem kn_get {R : Mem} {vs : List Value} {ls : List (List Nat)} (h : Lst R vs ls) {i : Nat} (hi : i < ls.length) : ∃ v, vs[i]? = some v ∧ By R v ls[i] := h.at hi

set_option maxRecDepth 100000 in
theorem learn_spec (kb bt bm : Nat) (ts : List Tm) (h : List Bool) (vl : Value) (ls : List (List Nat)) (MK MT A : Mem) (hK : Knw kb bt h MK) (hT : Tab bt bm ts MT) (hw : LsV A vl ls) (hl : h.length ≤ ts.length) (hn : ts.length + ls.length ≤ 1048576) {e4 : TypeId} {f4 : Nat × Nat} (h4 : (4, Obj.cells (nums .u64 pow10T).toArray e4 f4) ∈ A) : FnX Tryz.prog 13 [.pointer (some ⟨kb, 0, none⟩), vl] (MK ++ MT) A fun q M J => ∃ h' MK' MT', M = MK' ++ MT' ∧ Clo (lrAll ts h ls).1 (lrAll ts h ls).2 h' ∧ Knw kb bt h' MK' ∧ Tab bt bm (lrAll ts h ls).1 MT' := by
  have hK0 := hK
  obtain ⟨v, B, rfl, hsl⟩ := hK.ex
  clear hK
  haveI := hsl.cel
  obtain ⟨wvs, hwr, hwl⟩ := hw.ex
  haveI := hwr.cel
  refine FnX.enterZ (N := 39) Tryz.func13 rfl rfl rfl fun w_ => ?_
  refine XC.keep (kp 0 rfl (kp 1 rfl kn)) ?_
  refine XC.seq ?_
  refine XC.reg ?_
  refine XL.q (q_move rfl) rfl ?_
  refine XL.q (q_ptrEqNil (e := 79) rfl rfl (by kernel_rfl)) rfl ?_
  refine XL.q (q_move rfl) rfl ?_
  refine XL.gy rfl rfl (OpQ.opL (q_move rfl) rfl ?_)
  refine XL.gy rfl rfl (OpQ.opL (q_nil rfl) rfl ?_)
  refine XL.gy rfl rfl (OpQ.opL (q_fieldAddrN 0 (off := 0) rfl (by kernel_rfl) rfl) rfl ?_)
  refine XL.gy rfl rfl (OpQ.opL (q_load rfl (by kernel_rfl) At.mem (by rfl)) rfl ?_)
  refine XL.gy rfl rfl (OpQ.opL (q_ptrEqNil (e := 83) rfl rfl (by kernel_rfl)) rfl ?_)
  refine XL.q (q_pickF rfl rfl) rfl ?_
  refine XL.fin (kp 0 rfl (kp 1 rfl (kp 15 rfl kn))) ?_
  refine XC.condF rfl ?_
  refine XC.skip ?_
  refine nx (kp 0 rfl (kp 1 rfl kn)) ?_
  refine XC.seq ?_
  refine XC.reg ?_
  refine XL.q (q_move rfl) rfl ?_
  refine XL.q (q_lenV2 (sz := 1) rfl (by kernel_rfl) hwr) rfl ?_
  refine XL.q (q_move rfl) rfl ?_
  refine XL.fin (kp 0 rfl (kp 16 rfl (kp 17 rfl (kp 18 rfl kn)))) ?_
  refine XC.block ?_
  refine XC.loop (α := Nat × Mem × Mem) (fun x => [(0, .pointer (some ⟨kb, 0, none⟩)), (16, vl), (17, .int .i64 ((ls.length : Nat) : Int)), (18, .int .i64 ((x.1 : Nat) : Int))]) (fun x => x.2.1 ++ x.2.2) (fun _ => []) (fun x => x.1 ≤ ls.length ∧ Knw kb bt (((ls.take x.1).foldl lrSt (ts, h)).2) x.2.1 ∧ Tab bt bm (((ls.take x.1).foldl lrSt (ts, h)).1) x.2.2 ∧ (((ls.take x.1).foldl lrSt (ts, h)).2).length ≤ (((ls.take x.1).foldl lrSt (ts, h)).1).length ∧ (((ls.take x.1).foldl lrSt (ts, h)).1).length ≤ ts.length + x.1) (fun x => ls.length - x.1) ⟨0, _, MT⟩ ⟨Nat.zero_le _, hK0, hT, hl, Nat.le_refl _⟩ (kp 0 rfl (kp 16 rfl (kp 17 rfl (kp 18 rfl kn)))) .rfl (fun _ h => h) ?_
  clear hK0 hT hsl
  rintro ⟨i, MKi, MTi⟩ ⟨hi, hKi, hTi, hli, hni⟩
  dsimp only at hi hKi hTi hli hni ⊢
  refine XC.reg ?_
  refine XL.q (q_bin rfl rfl rfl) rfl ?_
  refine XL.fin (kp 0 rfl (kp 16 rfl (kp 17 rfl (kp 18 rfl (kp 19 rfl kn))))) ?_
  refine XC.seq ?_
  refine XC.cond rfl (fun hc => ?_) (fun hc => ?_)
  ·
    have hlt : i < ls.length := by simp at hc; omega
    obtain ⟨p, hvi, hvb⟩ := hwl.at hlt
    haveI := hvb.cel
    have hft := fold_take (f := lrSt) (b := (ts, h)) hlt
    generalize hst : (ls.take i).foldl lrSt (ts, h) = st at *
    obtain ⟨us, g⟩ := st
    dsimp only at hKi hTi hli hni
    have hKi0 := hKi
    obtain ⟨v, B, rfl, hsl⟩ := hKi0.ex
    haveI := hsl.cel
    have hub := rdT_len (ts := us) (ws := ls[i])
    have huc := rdT_ge (ts := us) (w := ls[i])
    refine XC.skip ?_
    refine nx (kp 0 rfl (kp 16 rfl (kp 17 rfl (kp 18 rfl kn)))) ?_
    refine XC.seq ?_
    refine XC.block ?_
    refine XC.reg ?_
    refine XL.q (q_atV2 (sz := 1) rfl rfl (by kernel_rfl) rfl hwr hlt) rfl ?_
    refine XL.q (q_ldV (u := p) (hwr.mono SubC.sub) rfl (by kernel_rfl) hvi) rfl ?_
    refine XL.q (q_assign rfl) rfl ?_
    refine XL.fin (kp 0 rfl (kp 5 rfl (kp 16 rfl (kp 17 rfl (kp 18 rfl kn))))) ?_
    refine XC.reg ?_
    refine XL.q (q_move rfl) rfl ?_
    refine XL.q (q_nil rfl) rfl ?_
    refine XL.q (q_fieldAddrN 0 (off := 0) rfl (by kernel_rfl) rfl) rfl ?_
    refine XL.q (q_load rfl (by kernel_rfl) At.mem (by rfl)) rfl ?_
    refine XL.q (q_move rfl) rfl ?_
    refine XL.lo rfl (l_call (Mc := MTi) (R := _) (aS rfl (aS rfl a0)) (by kernel_rfl) PickC.perm (read_spec bt bm us p ls[i] MTi _ hTi (by omega) (hvb.rd.mono SubC.sub) hvb.lt (by have := hvb.len; omega) (SubC.sub _ h4)) rfl ?_)
    rintro v27 M27 J27 ⟨rfl, rfl, hT27⟩
    have hri := rdI_lt hvb.lt (by have := hvb.len; omega) hTi.tok.tmo
    refine XL.q (q_assign rfl) rfl ?_
    refine XL.fin (kp 0 rfl (kp 6 rfl (kp 16 rfl (kp 17 rfl (kp 18 rfl kn))))) ?_
    refine XC.reg ?_
    refine XL.q (q_move rfl) rfl ?_
    refine XL.lo rfl (l_call (Mc := (kb, blk [.pointer (some ⟨bt, 0, none⟩), v] 79) :: B) (R := _) (aS rfl a0) (by kernel_rfl) PickC.perm (grow_spec kb bt bm (rdT us ls[i]) g _ _ hKi (hT27.tbr SubC.sub) (by omega) (by omega)) rfl ?_)
    rintro v29 M29 J29 hK29
    obtain ⟨v2, B2, rfl, hsl2⟩ := hK29.ex
    haveI := hsl2.cel
    rw [padB_len (by omega)] at hsl2
    refine XL.fin (kp 0 rfl (kp 6 rfl (kp 16 rfl (kp 17 rfl (kp 18 rfl kn))))) ?_
    refine XC.reg1 ?_
    refine XL.q (q_move rfl) rfl ?_
    refine XL.q (q_nil rfl) rfl ?_
    refine XL.q (q_fieldAddrN 1 (off := 1) rfl (by kernel_rfl) rfl) rfl ?_
    refine XL.q (q_load rfl (by kernel_rfl) At.mem (by rfl)) rfl ?_
    refine XL.q (q_move rfl) rfl ?_
    refine XL.q (q_atV2 (sz := 1) rfl rfl (by kernel_rfl) rfl (hsl2.rd (R := B2) fun _ h => h) hri) rfl ?_
    refine XL.lo rfl (l_stE hsl2 rfl rfl rfl (by kernel_rfl) hri PickC.perm fun B9 hs9 => ?_)
    refine XL.nil ?_
    refine nb ?_
    refine nx (kp 0 rfl (kp 16 rfl (kp 17 rfl (kp 18 rfl kn)))) ?_
    refine XC.reg1 ?_
    refine XL.q (q_addI (b := 1) rfl rfl rfl rfl (by omega)) rfl ?_
    refine XL.q (q_move rfl) rfl ?_
    refine XL.nil ?_
    have hll := lrSt_len (st := (us, g)) (w := ls[i]) hli
    refine rn ⟨i + 1, (kb, blk [.pointer (some ⟨bt, 0, none⟩), v2] 79) :: B9, M27⟩ ⟨by dsimp only; omega, ?_, by dsimp only; rw [hft]; exact hT27, by dsimp only; rw [hft]; omega, by dsimp only; rw [hft]; show (rdT us ls[i]).length ≤ _; omega⟩ (by dsimp only; omega) (kp 0 rfl (kp 16 rfl (kp 17 rfl (kp 18 rfl kn)))) (Fit.pick (B := (kb, _) :: B9) PickC.perm (Fit.last PickC.perm)) (fun _ h => by cases h)
    dsimp only
    rw [hft]
    exact ⟨v2, B9, rfl, by rw [hll]; show Sl 1 v2 (rdT us ls[i]).length (bools ((padB g (rdT us ls[i]).length).set (rdI us ls[i]) true)) B9; rw [← bools_set]; exact hs9⟩
  ·
    have hge : i = ls.length := by simp at hc; omega
    subst hge
    rw [List.take_length] at hKi hTi hli hni
    refine XC.exit ?_
    refine te ?_
    refine re ?_
    refine be rfl ?_
    refine nx (kp 0 rfl kn) ?_
    refine XC.reg1 ?_
    refine XL.q (q_move rfl) rfl ?_
    refine XL.lo rfl (l_call (Mc := MKi) (R := _) (aS rfl a0) (by kernel_rfl) PickC.perm (close_spec kb bt bm _ _ MKi _ hKi (hTi.tbr SubC.sub) hli (by omega) (SubC.sub _ h4)) rfl ?_)
    rintro v38 M38 J38 ⟨h', hcl, hK38⟩
    refine XL.nil ?_
    exact ⟨_, M38 ++ MTi, [], res0 rfl, Fit.none (Fit.pick PickC.perm (Fit.last PickC.perm)), h', M38, MTi, rfl, hcl, hK38, hTi⟩

/-- Is that known for which bytes stand? -/
def hasF (ts : List Tm) (h : List Bool) (w : List Nat) : Bool := !(plc w ts.length).isSome || isK h (((plc w ts.length).getD 0 : Nat) : Int)

set_option maxRecDepth 100000 in
theorem has_spec (kb bt bm : Nat) (ts : List Tm) (h : List Bool) (p : Value) (ws : List Nat) (A : Mem) (hK : KnR kb bt h A) (hT0 : TbR bt bm ts A) (hn : ts.length ≤ 1048576) (hp : By A p ws) : FnV Tryz.prog 18 [.pointer (some ⟨kb, 0, none⟩), p] A (.bool (hasF ts h ws)) := by
  obtain ⟨v, hkb, hrd⟩ := hK.ex
  haveI := hrd.cel
  obtain ⟨MT, hT, hsub⟩ := hT0.ex
  haveI := hp.cel
  refine FnX.enter (N := 32) Tryz.func18 rfl rfl rfl fun w => ?_
  refine XC.keep (kp 0 rfl (kp 1 rfl kn)) ?_
  refine XC.reg ?_
  refine XL.q (q_assign rfl) rfl ?_
  refine XL.fin (kp 0 rfl (kp 1 rfl kn)) ?_
  refine XC.seq ?_
  refine XC.reg ?_
  refine XL.q (q_move rfl) rfl ?_
  refine XL.q (q_ptrEqNil (e := 79) rfl rfl (by kernel_rfl)) rfl ?_
  refine XL.q (q_move rfl) rfl ?_
  refine XL.gy rfl rfl (OpQ.opL (q_move rfl) rfl ?_)
  refine XL.gy rfl rfl (OpQ.opL (q_nil rfl) rfl ?_)
  refine XL.gy rfl rfl (OpQ.opL (q_fieldAddrN 0 (off := 0) rfl (by kernel_rfl) rfl) rfl ?_)
  refine XL.gy rfl rfl (OpQ.opL (q_load rfl (by kernel_rfl) (by first | exact At.mem | exact mA (by assumption)) (by rfl)) rfl ?_)
  refine XL.gy rfl rfl (OpQ.opL (q_ptrEqNil (e := 83) rfl rfl (by kernel_rfl)) rfl ?_)
  refine XL.q (q_pickF rfl rfl) rfl ?_
  refine XL.fin (kp 0 rfl (kp 1 rfl (kp 15 rfl kn))) ?_
  refine XC.condF rfl ?_
  refine XC.skip ?_
  refine nx (kp 0 rfl (kp 1 rfl kn)) ?_
  refine XC.reg ?_
  refine XL.q (q_move rfl) rfl ?_
  refine XL.q (q_nil rfl) rfl ?_
  refine XL.q (q_fieldAddrN 0 (off := 0) rfl (by kernel_rfl) rfl) rfl ?_
  refine XL.q (q_load rfl (by kernel_rfl) (by first | exact At.mem | exact mA (by assumption)) (by rfl)) rfl ?_
  refine XL.q (q_move rfl) rfl ?_
  refine XL.callV (aS rfl (aS rfl a0)) (by kernel_rfl) (place_spec bt bm ts p ws MT _ hT (fun x hx => mA (hsub x hx)) hn (hp.rd.mono SubC.sub) hp.lt (by have := hp.len; unfold maxLen; omega)) rfl ?_
  generalize hpl : plc ws ts.length = pl
  refine XL.q (q_move rfl) rfl ?_
  refine XL.q (q_x0 rfl) rfl ?_
  refine XL.q (q_x1 rfl) rfl ?_
  refine XL.q (q_assign rfl) rfl ?_
  refine XL.q (q_assign rfl) rfl ?_
  refine XL.fin (kp 0 rfl (kp 5 rfl (kp 6 rfl kn))) ?_
  refine XC.reg ?_
  refine XL.q (q_move rfl) rfl ?_
  refine XL.q (q_not rfl) rfl ?_
  refine XL.q (q_move rfl) rfl ?_
  refine XL.split (t := 27) rfl (fun hb => ?_) (fun hb => ?_)
  ·
    have hA := hb
    refine XL.gn rfl rfl rfl rfl ?_
    refine XL.gn rfl rfl rfl rfl ?_
    refine XL.gn rfl rfl rfl rfl ?_
    refine XL.q (q_pickT rfl rfl) rfl ?_
    refine XL.q (q_assign rfl) rfl ?_
    refine XL.fin (kp 4 rfl kn) ?_
    refine XC.ret ?_
    exact ⟨_, [], [], res1 rfl rfl, List.nil_sublist _, by simp, by unfold hasF; rw [hpl, hA]; rfl, rfl, rfl⟩
  ·
    have hA := hb
    refine XL.gy rfl rfl (OpQ.opL (q_move rfl) rfl ?_)
    refine XL.gy rfl rfl (OpQ.opL (q_move rfl) rfl ?_)
    refine XL.callVg rfl rfl (aS rfl (aS rfl a0)) (by kernel_rfl) (is_spec kb bt h _ _ (hK.mono SubC.sub)) rfl ?_
    refine XL.q (q_pickF rfl rfl) rfl ?_
    refine XL.q (q_assign rfl) rfl ?_
    refine XL.fin (kp 4 rfl kn) ?_
    refine XC.ret ?_
    exact ⟨_, [], [], res1 rfl rfl, List.nil_sublist _, by simp, by unfold hasF; rw [hpl, hA]; rfl, rfl, rfl⟩
