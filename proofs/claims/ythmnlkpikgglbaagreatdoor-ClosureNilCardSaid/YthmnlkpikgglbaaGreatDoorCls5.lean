/- The walks of pawllaw22: open, awake. -/
import Derived.Test.YthmnlkpikgglbaaGreatDoorCls4
set_option linter.unusedVariables false
set_option linter.unusedSimpArgs false
namespace Go.Proofs.YthmnlkpikgglbaaGreatDoor
open Go.Px
/-- All that can be made of what is known, computed. -/
def cloF (ts : List Tm) (h : List Bool) : List Bool := rds_ ts (padB h ts.length) (ts.length + 1)
theorem cloF_clo {ts : List Tm} {h : List Bool} (hl : h.length ≤ ts.length) : Clo ts h (cloF ts h) := by
  have hc := rds_clo ts (padB h ts.length) (padB_len hl)
  exact ⟨hc.len, (pad_le h _).trans hc.sup, hc.cld, fun h' a b => hc.lst h' ((le_pad h _).trans a) b⟩
theorem Clo.eq {ts : List Tm} {h h' : List Bool} (hl : h.length ≤ ts.length) (hc : Clo ts h h') : h' = cloF ts h := hc.uniq (cloF_clo hl)
/-- What is known when some bytes are learnt. -/
def lrn (st : Lst2) (w : List Nat) : Lst2 := (rdT st.1 w, cloF (rdT st.1 w) (lrSt st w).2)
theorem lrn_len {st : Lst2} {w : List Nat} (hl : st.2.length ≤ st.1.length) : (lrn st w).2.length = (lrn st w).1.length := (cloF_clo (Nat.le_of_eq (lrSt_len hl))).len
theorem lrn_le {st : Lst2} {w : List Nat} : (lrn st w).1.length ≤ st.1.length + 1 := rdT_len
theorem learn1_spec (kb bt bm : Nat) (st : Lst2) (vl : Value) (w : List Nat) (MK MT A : Mem) (hK : Knw kb bt st.2 MK) (hT : Tab bt bm st.1 MT) (hw : LsV A vl [w]) (hl : st.2.length ≤ st.1.length) (hn : st.1.length + 1 ≤ 1048576) {e4 : TypeId} {f4 : Nat × Nat} (h4 : (4, Obj.cells (nums .u64 pow10T).toArray e4 f4) ∈ A) :
    FnX Tryz.prog 13 [.pointer (some ⟨kb, 0, none⟩), vl] (MK ++ MT) A fun q M J => ∃ MK' MT', M = MK' ++ MT' ∧ Knw kb bt (lrn st w).2 MK' ∧ Tab bt bm (lrn st w).1 MT' :=
  (learn_spec kb bt bm st.1 st.2 vl [w] MK MT A hK hT hw hl hn h4).mono fun q M J ⟨h', MK', MT', h1, h2, h3, h5⟩ => by
    have e : h' = (lrn st w).2 := Clo.eq (Nat.le_of_eq (lrSt_len hl)) h2
    exact ⟨MK', MT', h1, e ▸ h3, h5⟩
def s00 : Ps := ⟨false, [], 0, []⟩
def aw1 : Ps := freshS s00
def aw2 : Ps := freshS aw1
def aw3 : Ps := pubS aw2 (freshK aw1)
def aw4 : Ps := agrS aw3 (freshK s00) (pubK aw2 (freshK aw1))
def aw5 : Ps := pubS aw4 (freshK aw1)
def awS : List Nat := agrK aw3 (freshK s00) (pubK aw2 (freshK aw1))
def aw50 : Lst2 := (aw5.ts, [])
theorem aw50_1 : aw50.1 = aw5.ts := by simp only [aw50]
theorem aw50_2 : aw50.2 = [] := by simp only [aw50]
def aw6 : Lst2 := lrn aw50 (pubK aw4 (freshK aw1))
def aw7 : Lst2 := lrn aw6 (freshK s00)
theorem aw_r : aw4.real = false ∧ aw4.ts.length < 1048576 := by decide +kernel
theorem aw_1 : hasF aw6.1 aw6.2 awS = false := by decide +kernel
theorem aw_2 : hasF aw7.1 aw7.2 awS = true := by decide +kernel
theorem aw_3 : hasF aw7.1 aw7.2 (freshK aw1) = false := by decide +kernel
theorem aw_n : aw3.ts.length = 3 ∧ aw4.ts.length = 4 ∧ aw5.ts.length = 4 ∧ aw6.1.length = 4 ∧ aw7.1.length = 4 := by decide +kernel

set_option maxRecDepth 100000 in
theorem open22_spec (A : Mem) : FnX Tryz.prog 8 [] [] A fun q M J => ∃ pb, q = .pointer (some ⟨pb, 0, none⟩) ∧ Prm pb s00 M := by
  skip
  refine FnX.enterZ (N := 8) Tryz.func8 rfl rfl rfl fun w_ => ?_
  refine XC.keep kn ?_
  refine XC.reg ?_
  refine XL.q (q_assign rfl) rfl ?_
  refine XL.fin kn ?_
  refine XC.reg ?_
  refine XL.call (aS rfl (aS rfl a0)) (by kernel_rfl) (pnew_spec false (.slice none 0 0) [] _ By.nil) rfl ?_
  rintro v4 MP J4 ⟨pb, rfl, hP⟩
  refine XL.q (q_move rfl) rfl ?_
  refine XL.q (q_x0 rfl) rfl ?_
  refine XL.q (q_x1 rfl) rfl ?_
  refine XL.q (q_assign rfl) rfl ?_
  refine XL.q (q_assign rfl) rfl ?_
  refine XL.fin (kp 1 rfl kn) ?_
  refine XC.reg ?_
  refine XL.q (q_move rfl) rfl ?_
  refine XL.q (q_assign rfl) rfl ?_
  refine XL.fin (kp 0 rfl kn) ?_
  refine XC.ret ?_
  exact ⟨_, MP, [], res1 rfl rfl, Fit.none (Fit.last PickC.perm), pb, rfl, hP⟩

set_option maxRecDepth 100000 in
theorem awake22_spec (A : Mem) (hG : Glb A) : FnV Tryz.prog 7 [] A (.bool true) := by
  have hGG := hG
  obtain ⟨⟨ge0, gf0, h0⟩, ⟨ge1, gf1, h1⟩, ⟨ge4, gf4, h4⟩⟩ := hGG
  refine FnX.enter (N := 49) Tryz.func7 rfl rfl rfl fun w => ?_
  refine XC.keep kn ?_
  refine XC.reg ?_
  refine XL.q (q_assign rfl) rfl ?_
  refine XL.fin kn ?_
  refine XC.reg ?_
  refine XL.call a0 (by kernel_rfl) (open22_spec _) rfl ?_
  rintro v7 M7 J7 ⟨pb, rfl, hP7⟩
  refine XL.q (q_assign rfl) rfl ?_
  refine XL.fin (kp 1 rfl kn) ?_
  refine XC.seq ?_
  refine XC.reg ?_
  refine XL.q (q_move rfl) rfl ?_
  refine XL.q (q_ptrEqNil (e := 77) rfl rfl (by kernel_rfl)) rfl ?_
  refine XL.fin (kp 1 rfl (kp 9 rfl kn)) ?_
  refine XC.condF rfl ?_
  refine XC.skip ?_
  refine nx (kp 1 rfl kn) ?_
  refine XC.reg ?_
  refine XL.q (q_move rfl) rfl ?_
  refine XL.lo rfl (l_call (Mc := M7) (R := _) (aS rfl a0) (by kernel_rfl) PickC.perm (fresh_spec pb s00 M7 _ hP7 (by decide) (by decide) hG.up) rfl ?_)
  rintro v11 M11 J11 ⟨hP11, hb11⟩
  haveI := hb11.cel
  refine XL.q (q_assign rfl) rfl ?_
  refine XL.fin (kp 1 rfl (kp 2 rfl kn)) ?_
  refine XC.reg ?_
  refine XL.q (q_move rfl) rfl ?_
  refine XL.lo rfl (l_call (Mc := M11) (R := _) (aS rfl a0) (by kernel_rfl) PickC.perm (fresh_spec pb aw1 M11 _ hP11 (by decide) (by decide) hG.up) rfl ?_)
  rintro v13 M13 J13 ⟨hP13, hb13⟩
  haveI := hb13.cel
  refine XL.q (q_assign rfl) rfl ?_
  refine XL.fin (kp 1 rfl (kp 2 rfl (kp 3 rfl kn))) ?_
  refine XC.reg ?_
  refine XL.q (q_move rfl) rfl ?_
  refine XL.q (q_move rfl) rfl ?_
  refine XL.q (q_move rfl) rfl ?_
  refine XL.q (q_move rfl) rfl ?_
  refine XL.lo rfl (l_call (Mc := M13) (R := _) (aS rfl (aS rfl a0)) (by kernel_rfl) PickC.perm (public_p pb aw2 rfl v13 (freshK aw1) M13 _ hP13 (by decide) (hb13.mono SubC.sub) hG.up) rfl ?_)
  rintro v18 M18 J18 ⟨hP18, hb18⟩
  haveI := hb18.cel
  refine XL.lo rfl (l_call (Mc := M18) (R := _) (aS rfl (aS rfl (aS rfl a0))) (by kernel_rfl) PickC.perm (pagree_p pb aw3 rfl v11 v18 (freshK s00) (pubK aw2 (freshK aw1)) M18 _ hP18 (by decide +kernel) (hb11.mono SubC.sub) (hb18.mono SubC.sub) hG.up) rfl ?_)
  rintro v19 M19 J19 ⟨hP19, hb19⟩
  haveI := hb19.cel
  obtain ⟨bt, bm, hP19⟩ := hP19.t
  have hP19k := hP19
  obtain ⟨sv, B, MT, rfl, hby, hT⟩ := hP19.ex
  refine XL.q (q_assign rfl) rfl ?_
  refine XL.fin (kp 1 rfl (kp 2 rfl (kp 3 rfl (kp 4 rfl kn)))) ?_
  refine XC.reg ?_
  refine XL.q (q_move rfl) rfl ?_
  refine XL.callV (aS rfl a0) (by kernel_rfl) (ptable_spec pb bt _ sv _ At.mem) rfl ?_
  refine XL.call (aS rfl a0) (by kernel_rfl) (knew_spec bt _) rfl ?_
  rintro v22 M22 J22 ⟨kb, rfl, hK22⟩
  refine XL.q (q_assign rfl) rfl ?_
  refine XL.fin (kp 1 rfl (kp 2 rfl (kp 3 rfl (kp 4 rfl (kp 5 rfl kn))))) ?_
  refine XC.reg ?_
  refine XL.q (q_move rfl) rfl ?_
  refine XL.q (q_move rfl) rfl ?_
  refine XL.q (q_move rfl) rfl ?_
  refine XL.lo rfl (l_call (Mc := _ :: (B ++ MT)) (R := _) (aS rfl (aS rfl a0)) (by kernel_rfl) PickC.perm (public_spec pb bt bm aw4 aw_r.1 v13 (freshK aw1) _ _ hP19k aw_r.2 (hb13.mono SubC.sub) hG.up) rfl ?_)
  rintro v26 M26 J26 ⟨hP26, hb26⟩
  rw [show pubS aw4 (freshK aw1) = aw5 from rfl] at hP26
  haveI := hb26.cel
  obtain ⟨sv2, B2, MT2, rfl, hby2, hT2⟩ := hP26.ex
  refine XL.lo rfl (l_buildSlice (e := 23) (sz := 1) (z := [.slice none 0 0]) (by kernel_rfl) (eS rfl e0) (bdS 0 1 rfl (by rfl) bd0) rfl fun b27 => ?_)
  refine XL.lo rfl (l_call (Mc := M22 ++ MT2) (R := _) (aS rfl (aS rfl a0)) (by kernel_rfl) PickC.perm (learn1_spec kb bt bm aw50 _ (pubK aw4 (freshK aw1)) M22 MT2 _ (by rw [aw50_2]; exact hK22) (by rw [aw50_1]; exact hT2) ⟨_, Rd.whole (n := 1) At.mem (by rfl), Lst.cons (hb26.mono SubC.sub) Lst.nil⟩ (by decide +kernel) (by decide +kernel) (SubC.sub _ h4)) rfl ?_)
  rintro v28 M28 J28 ⟨MK28, MT28, rfl, hK28, hT28⟩
  refine XL.fin (kp 2 rfl (kp 3 rfl (kp 4 rfl (kp 5 rfl kn)))) ?_
  refine XC.reg ?_
  refine XL.q (q_move rfl) rfl ?_
  refine XL.q (q_move rfl) rfl ?_
  refine XL.callV (aS rfl (aS rfl a0)) (by kernel_rfl) (has_spec kb bt bm aw6.1 aw6.2 _ awS _ (hK28.rd SubC.sub) (hT28.tbr SubC.sub) (by decide +kernel) (hb19.mono SubC.sub)) rfl ?_
  rw [aw_1]
  refine XL.q (q_assign rfl) rfl ?_
  refine XL.fin (kp 2 rfl (kp 3 rfl (kp 4 rfl (kp 5 rfl (kp 6 rfl kn))))) ?_
  refine XC.reg ?_
  refine XL.q (q_move rfl) rfl ?_
  refine XL.q (q_move rfl) rfl ?_
  refine XL.lo rfl (l_buildSlice (e := 23) (sz := 1) (z := [.slice none 0 0]) (by kernel_rfl) (eS rfl e0) (bdS 0 1 rfl (by rfl) bd0) rfl fun b34 => ?_)
  refine XL.lo rfl (l_call (Mc := MK28 ++ MT28) (R := _) (aS rfl (aS rfl a0)) (by kernel_rfl) PickC.perm (learn1_spec kb bt bm aw6 _ (freshK s00) MK28 MT28 _ hK28 hT28 ⟨_, Rd.whole (n := 1) At.mem (by rfl), Lst.cons (hb11.mono SubC.sub) Lst.nil⟩ (by decide +kernel) (by decide +kernel) (SubC.sub _ h4)) rfl ?_)
  rintro v35 M35 J35 ⟨MK35, MT35, rfl, hK35, hT35⟩
  refine XL.fin (kp 3 rfl (kp 4 rfl (kp 5 rfl (kp 6 rfl kn)))) ?_
  refine XC.reg ?_
  refine XL.q (q_move rfl) rfl ?_
  refine XL.q (q_not rfl) rfl ?_
  refine XL.q (q_move rfl) rfl ?_
  refine XL.gy rfl rfl (OpQ.opL (q_move rfl) rfl ?_)
  refine XL.gy rfl rfl (OpQ.opL (q_move rfl) rfl ?_)
  refine XL.callVg rfl rfl (aS rfl (aS rfl a0)) (by kernel_rfl) (has_spec kb bt bm aw7.1 aw7.2 _ awS _ (hK35.rd SubC.sub) (hT35.tbr SubC.sub) (by decide +kernel) (hb19.mono SubC.sub)) rfl ?_
  rw [aw_2]
  refine XL.q (q_pickT rfl rfl) rfl ?_
  refine XL.q (q_move rfl) rfl ?_
  refine XL.gy rfl rfl (OpQ.opL (q_move rfl) rfl ?_)
  refine XL.gy rfl rfl (OpQ.opL (q_move rfl) rfl ?_)
  refine XL.callVg rfl rfl (aS rfl (aS rfl a0)) (by kernel_rfl) (has_spec kb bt bm aw7.1 aw7.2 _ (freshK aw1) _ (hK35.rd SubC.sub) (hT35.tbr SubC.sub) (by decide +kernel) (hb13.mono SubC.sub)) rfl ?_
  rw [aw_3]
  refine XL.gy rfl rfl (OpQ.opL (q_not rfl) rfl ?_)
  refine XL.q (q_pickT rfl rfl) rfl ?_
  refine XL.q (q_assign rfl) rfl ?_
  refine XL.fin (kp 0 rfl kn) ?_
  refine XC.ret ?_
  exact ⟨_, [], [], res1 rfl rfl, List.nil_sublist _, by simp, rfl, rfl, rfl⟩
