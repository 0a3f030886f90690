/- Part 13 of the texts of this claim, one behind the other. -/
import Derived.Test.YthmnlkpikgglbaaGreatDoorB12
set_option linter.unusedVariables false
set_option linter.unusedSimpArgs false
set_option linter.unusedVariables false
set_option linter.unusedSimpArgs false
namespace Go.Proofs.YthmnlkpikgglbaaGreatDoor
open Go.Px
theorem pick_at {R : Mem} {vs : List Value} {ls : List (List Nat)} (h : Lst R vs ls) (x : Nat) (h0 : 0 < ls.length) : ∃ v, vs[x % ls.length]? = some v ∧ By R v (pick ls x) := by
  obtain ⟨v, h1, h2⟩ := h.at (j := x % ls.length) (Nat.mod_lt _ h0)
  refine ⟨v, h1, ?_⟩
  unfold pick
  rw [List.getD_eq_getElem?_getD, List.getElem?_eq_getElem (Nat.mod_lt _ h0)]
  exact h2
theorem nums_at {k : IntKind} {zs : List Nat} {j : Nat} (h : j < zs.length) : (nums k zs)[j]? = some (.int k ((zs.getD j 0 : Nat) : Int)) := by
  unfold nums
  rw [List.getElem?_map, List.getD_eq_getElem?_getD, List.getElem?_eq_getElem h]; rfl
theorem _root_.Go.Px.Lst.app {R : Mem} {vs us : List Value} {ls ks : List (List Nat)} (h : Lst R vs ls) (h2 : Lst R us ks) : Lst R (vs ++ us) (ls ++ ks) := ⟨by simp [h.len, h2.len], fun j w hj => by
  have hl := h.len
  by_cases hj1 : j < ls.length
  · rw [List.getElem?_append_left hj1] at hj
    obtain ⟨v, a, b⟩ := h.get j w hj
    exact ⟨v, by rw [List.getElem?_append_left (by omega)]; exact a, b⟩
  · rw [List.getElem?_append_right (by omega)] at hj
    obtain ⟨v, a, b⟩ := h2.get _ w hj
    exact ⟨v, by rw [List.getElem?_append_right (by omega), hl]; exact a, b⟩⟩
theorem by_hi {R : Mem} {v : Value} {w : List Nat} (h : By R v w) {k : Nat} (hk : k ≤ w.length) : By R (vHi k v) (w.take k) := ⟨by
  have h1 := h.rd.hiV k hk
  rw [Nat.mul_one, ← nums_take] at h1
  rw [List.length_take, Nat.min_eq_left hk]
  exact h1, fun x hx => h.lt x (List.mem_of_mem_take hx), by rw [List.length_take]; have := h.len; omega⟩
theorem seal_p (pb : Nat) (s : Ps) (hr : s.real = false) (v v2 v3 : Value) (w wa wb : List Nat) (MP A : Mem) (hP : Prm pb s MP) (hn : s.ts.length < 1048576) (hv : By A v w) (ha : By A v2 wa) (hb : By A v3 wb) (hG : Glb A) : FnX Tryz.prog 25 [.pointer (some ⟨pb, 0, none⟩), v, v2, v3] MP A fun q M J => Prm pb (one1 s w fun x => selT x wa wb) M ∧ By J q (oneK s w fun x => selT x wa wb) := by
  obtain ⟨bt, bm, h⟩ := hP.t
  exact (seal_spec pb bt bm s hr v v2 v3 w wa wb MP A h hn hv ha hb hG).mono fun q M J ⟨h1, h2⟩ => ⟨h1.p, h2⟩
theorem sign_p (pb : Nat) (s : Ps) (hr : s.real = false) (v v2 : Value) (w wm : List Nat) (MP A : Mem) (hP : Prm pb s MP) (hn : s.ts.length < 1048576) (hv : By A v w) (hm : By A v2 wm) (hG : Glb A) : FnX Tryz.prog 31 [.pointer (some ⟨pb, 0, none⟩), v, v2] MP A fun q M J => Prm pb (one1 s w fun x => sigT x wm) M ∧ By J q (fitN (oneK s w fun x => sigT x wm) 64) := by
  obtain ⟨bt, bm, h⟩ := hP.t
  exact (sign_spec pb bt bm s hr v v2 w wm MP A h hn hv hm hG).mono fun q M J ⟨h1, h2⟩ => ⟨h1.p, h2⟩

set_option maxRecDepth 100000 in
theorem build_spec (pb n : Nat) (lv : Value) (zs : List Nat) (MP A : Mem) (hP : Prm pb s00 MP) (hz : Rd A 3 lv n (nums .u8 zs)) (hzl : zs.length = n * 3) (hz8 : ∀ x ∈ zs, x < 256) (hn : n ≤ 1000) (hG : Glb A) : FnX Tryz.prog 9 [.pointer (some ⟨pb, 0, none⟩), lv] MP A fun q M J => Prm pb (bAt zs n).1 M ∧ LsV J q (bAt zs n).2 := by
  haveI := hz.cel
  have zlt : ∀ j, zs.getD j 0 < 256 := fun j => by
    rw [List.getD_eq_getElem?_getD]
    cases hj : zs[j]? with
    | none => decide
    | some x => exact hz8 x (List.mem_of_getElem? hj)
  refine FnX.enterZ (N := 122) Tryz.func9 rfl rfl rfl fun w_ => ?_
  refine XC.keep (kp 0 rfl (kp 1 rfl kn)) ?_
  refine XC.reg ?_
  refine XL.q (q_assign rfl) rfl ?_
  refine XL.fin (kp 0 rfl (kp 1 rfl kn)) ?_
  refine XC.reg ?_
  refine XL.q (q_move rfl) rfl ?_
  refine XL.lo rfl (l_call (Mc := MP) (R := _) (aS rfl a0) (by kernel_rfl) PickC.perm (fresh_spec pb s00 MP _ hP (by decide) (by decide) hG.up) rfl ?_)
  rintro v10 M10 J10 ⟨hP10, hb10⟩
  haveI := hb10.cel
  refine XL.q (q_move rfl) rfl ?_
  refine XL.lo rfl (l_call (Mc := M10) (R := _) (aS rfl a0) (by kernel_rfl) PickC.perm (fresh_spec pb (freshS s00) M10 _ hP10 (by decide) (by decide) hG.up) rfl ?_)
  rintro v12 M12 J12 ⟨hP12, hb12⟩
  haveI := hb12.cel
  refine XL.q (q_move rfl) rfl ?_
  refine XL.lo rfl (l_call (Mc := M12) (R := _) (aS rfl a0) (by kernel_rfl) PickC.perm (fresh_spec pb (freshS (freshS s00)) M12 _ hP12 (by decide) (by decide) hG.up) rfl ?_)
  rintro v14 M14 J14 ⟨hP14, hb14⟩
  haveI := hb14.cel
  refine XL.lo rfl (l_buildSlice (e := 23) (sz := 1) (z := [.slice none 0 0, .slice none 0 0, .slice none 0 0]) (by kernel_rfl) (eS rfl (eS rfl (eS rfl e0))) (bdS 0 1 rfl (by rfl) (bdS 1 1 rfl (by rfl) (bdS 2 1 rfl (by rfl) bd0))) rfl fun b15 => ?_)
  refine XL.q (q_assign rfl) rfl ?_
  refine XL.fin (kp 0 rfl (kp 1 rfl (kp 5 rfl kn))) ?_
  refine XC.seq ?_
  refine XC.reg ?_
  refine XL.q (q_assign rfl) rfl ?_
  refine XL.fin (kp 0 rfl (kp 1 rfl (kp 5 rfl (kp 6 rfl kn)))) ?_
  refine XC.block ?_
  refine XC.loop (α := Nat × List Value × Value × Mem × Mem × Mem) (fun x => [(0, .pointer (some ⟨pb, 0, none⟩)), (1, lv), (5, x.2.2.1), (6, .int .i64 ((x.1 : Nat) : Int))]) (fun x => x.2.2.2.1 ++ x.2.2.2.2.1) (fun x => x.2.2.2.2.2) (fun x => x.1 ≤ n ∧ Prm pb (bAt zs x.1).1 x.2.2.2.2.1 ∧ Sl 1 x.2.2.1 x.2.1.length x.2.1 x.2.2.2.1 ∧ Lst x.2.2.2.2.2 x.2.1 (bAt zs x.1).2) (fun x => n - x.1) ⟨0, [v10, v12, v14], .slice (some ⟨b15, 0, none⟩) 3 3, [(b15, _)], M14, J14 ++ (J12 ++ J10)⟩ ⟨Nat.zero_le _, hP14, Sl.fresh (n := 3) (sz := 1) (cs := [v10, v12, v14]) (e := 23) (by rfl) (by decide), Lst.cons (hb10.mono SubC.sub) (Lst.cons (hb12.mono SubC.sub) (Lst.cons (hb14.mono SubC.sub) Lst.nil))⟩ (kp 0 rfl (kp 1 rfl (kp 5 rfl (kp 6 rfl kn)))) (Fit.pick (B := [_]) PickC.perm (Fit.last PickC.perm)) (fun x hx => SubC.sub x hx) ?_
  rintro ⟨i, vs, v5, B5, MP, J5⟩ ⟨hi, hP, hs5, hlv⟩
  dsimp only at hi hP hs5 hlv ⊢
  haveI := hs5.cel
  obtain ⟨hk1, hk2, hk3, hk4, hk5⟩ := bok zs i
  have hvl := hlv.len
  refine XC.seq ?_
  refine XC.reg ?_
  refine XL.q (q_move rfl) rfl ?_
  refine XL.q (q_move rfl) rfl ?_
  refine XL.q (q_lenV2 (sz := 3) rfl (by kernel_rfl) hz) rfl ?_
  refine XL.q (q_bin rfl rfl rfl) rfl ?_
  refine XL.fin (kp 0 rfl (kp 1 rfl (kp 5 rfl (kp 6 rfl (kp 19 rfl kn))))) ?_
  refine XC.cond rfl (fun hc => ?_) (fun hc => ?_)
  ·
    have hlt : i < n := by simp at hc; omega
    have hnx : bAt zs (i + 1) = stepB (bAt zs i) (zs.getD (i * 3) 0) (zs.getD (i * 3 + 1) 0) (zs.getD (i * 3 + 2) 0) := rfl
    obtain ⟨k0, hk0⟩ : ∃ k, k = zs.getD (i * 3) 0 := ⟨_, rfl⟩
    obtain ⟨x0, hx0⟩ : ∃ k, k = zs.getD (i * 3 + 1) 0 := ⟨_, rfl⟩
    obtain ⟨y0, hy0⟩ : ∃ k, k = zs.getD (i * 3 + 2) 0 := ⟨_, rfl⟩
    rw [← hk0, ← hx0, ← hy0] at hnx
    have hzk : k0 < 256 := hk0 ▸ zlt _
    have hzx : x0 < 256 := hx0 ▸ zlt _
    have hzy : y0 < 256 := hy0 ▸ zlt _
    obtain ⟨va, hva, hba⟩ := pick_at hlv x0 (by omega)
    obtain ⟨vb, hvb, hbb⟩ := pick_at hlv y0 (by omega)
    haveI := hba.cel
    haveI := hbb.cel
    rw [← hvl] at hva hvb
    refine XC.skip ?_
    refine nx (kp 0 rfl (kp 1 rfl (kp 5 rfl (kp 6 rfl kn)))) ?_
    refine XC.seq ?_
    refine XC.block ?_
    refine XC.reg ?_
    refine XL.q (q_move rfl) rfl ?_
    refine XL.q (q_move rfl) rfl ?_
    refine XL.q (q_move rfl) rfl ?_
    refine XL.q (q_atV2 (sz := 3) rfl rfl (by kernel_rfl) rfl hz hlt) rfl ?_
    refine XL.q (q_fldV (off := 1) rfl hz hlt (by kernel_rfl)) rfl ?_
    refine XL.q (q_ldVF (u := .int .u8 ((x0 : Nat) : Int)) rfl (hz.mono SubC.sub) (by omega) (by kernel_rfl) (by rw [hx0]; exact nums_at (by omega))) rfl ?_
    refine XL.q (q_convN x0 rfl (by kernel_rfl) (wrapI (by omega))) rfl ?_
    refine XL.q (q_move rfl) rfl ?_
    refine XL.q (q_lenV2 (sz := 1) rfl (by kernel_rfl) (hs5.rd (R := B5) fun _ h => h)) rfl ?_
    refine XL.q (q_remI (a := x0) (b := vs.length) rfl rfl rfl rfl (by omega)) rfl ?_
    refine XL.q (q_atV2 (sz := 1) (a := x0 % vs.length) rfl rfl (by kernel_rfl) rfl (hs5.rd (R := B5) fun _ h => h) (Nat.mod_lt _ (by omega))) rfl ?_
    refine XL.q (q_ldV (j := x0 % vs.length) (u := va) (hs5.rd SubC.sub) rfl (by kernel_rfl) hva) rfl ?_
    refine XL.q (q_assign rfl) rfl ?_
    refine XL.fin (kp 0 rfl (kp 1 rfl (kp 5 rfl (kp 6 rfl (kp 7 rfl kn))))) ?_
    refine XC.reg ?_
    refine XL.q (q_move rfl) rfl ?_
    refine XL.q (q_move rfl) rfl ?_
    refine XL.q (q_move rfl) rfl ?_
    refine XL.q (q_atV2 (sz := 3) rfl rfl (by kernel_rfl) rfl hz hlt) rfl ?_
    refine XL.q (q_fldV (off := 2) rfl hz hlt (by kernel_rfl)) rfl ?_
    refine XL.q (q_ldVF (u := .int .u8 ((y0 : Nat) : Int)) rfl (hz.mono SubC.sub) (by omega) (by kernel_rfl) (by rw [hy0]; exact nums_at (by omega))) rfl ?_
    refine XL.q (q_convN y0 rfl (by kernel_rfl) (wrapI (by omega))) rfl ?_
    refine XL.q (q_move rfl) rfl ?_
    refine XL.q (q_lenV2 (sz := 1) rfl (by kernel_rfl) (hs5.rd (R := B5) fun _ h => h)) rfl ?_
    refine XL.q (q_remI (a := y0) (b := vs.length) rfl rfl rfl rfl (by omega)) rfl ?_
    refine XL.q (q_atV2 (sz := 1) (a := y0 % vs.length) rfl rfl (by kernel_rfl) rfl (hs5.rd (R := B5) fun _ h => h) (Nat.mod_lt _ (by omega))) rfl ?_
    refine XL.q (q_ldV (j := y0 % vs.length) (u := vb) (hs5.rd SubC.sub) rfl (by kernel_rfl) hvb) rfl ?_
    refine XL.q (q_assign rfl) rfl ?_
    refine XL.fin (kp 0 rfl (kp 1 rfl (kp 5 rfl (kp 6 rfl (kp 7 rfl (kp 8 rfl kn)))))) ?_
    refine XC.reg ?_
    refine XL.q (q_move rfl) rfl ?_
    refine XL.q (q_move rfl) rfl ?_
    refine XL.q (q_atV2 (sz := 3) rfl rfl (by kernel_rfl) rfl hz hlt) rfl ?_
    refine XL.q (q_fldV (off := 0) rfl hz hlt (by kernel_rfl)) rfl ?_
    refine XL.q (q_ldVF (u := .int .u8 ((k0 : Nat) : Int)) rfl (hz.mono SubC.sub) (by omega) (by kernel_rfl) (by rw [hk0]; exact nums_at (by omega))) rfl ?_
    refine XL.q (q_remI (a := k0) (b := 7) rfl rfl rfl rfl (by decide)) rfl ?_
    refine XL.fin (kp 0 rfl (kp 1 rfl (kp 5 rfl (kp 6 rfl (kp 7 rfl (kp 8 rfl (kp 51 rfl kn))))))) ?_
    refine XC.block ?_
    refine XC.reg ?_
    refine XL.q (q_bin rfl rfl rfl) rfl ?_
    refine XL.q (q_assign rfl) rfl ?_
    refine XL.fin (kp 0 rfl (kp 1 rfl (kp 5 rfl (kp 6 rfl (kp 7 rfl (kp 8 rfl (kp 51 rfl (kp 61 rfl kn)))))))) ?_
    refine XC.cond rfl (fun hc => ?_) (fun hc => ?_)
    ·
      have ek0 : k0 % 7 = 0 := by simp at hc; omega
      refine XC.reg1 ?_
      refine XL.q (q_move rfl) rfl ?_
      refine XL.q (q_move rfl) rfl ?_
      refine XL.lo rfl (l_call (Mc := MP) (R := _) (aS rfl (a0)) (by kernel_rfl) PickC.perm (fresh_spec pb (bAt zs i).1 MP _ hP (by omega) (by omega) hG.up) rfl ?_)
      rintro v65 M65 J65 ⟨hP65, hb65⟩
      haveI := hb65.cel
      refine XL.lo rfl (l_buildSlice (e := 23) (sz := 1) (z := [.slice none 0 0]) (by kernel_rfl) (eS rfl e0) (bdS 0 1 rfl (by rfl) bd0) rfl fun b66 => ?_)
      refine XL.lo rfl (l_append2 (e := 23) (sz := 1) (by_ := 24) rfl rfl (by kernel_rfl) rfl hs5 (Rd.whole (n := 1) At.mem (by rfl)) (by intro c hc; rw [List.mem_singleton.1 hc]; exact hb65.one) PickC.perm (by unfold maxLen; omega) (by omega) rfl fun v67 B67 hs67 => ?_)
      refine XL.q (q_assign rfl) rfl ?_
      refine XL.nil ?_
      refine nb ?_
      refine nb ?_
      refine nx (kp 0 rfl (kp 1 rfl (kp 5 rfl (kp 6 rfl kn)))) ?_
      refine XC.reg1 ?_
      refine XL.q (q_move rfl) rfl ?_
      refine XL.q (q_addI (b := 1) rfl rfl rfl rfl (by omega)) rfl ?_
      refine XL.q (q_assign rfl) rfl ?_
      refine XL.nil ?_
      exact rn ⟨i + 1, vs ++ [v65], v67, B67, M65, J65 ++ J5⟩ ⟨by dsimp only; omega, by dsimp only; rw [hnx, sb0 ek0]; exact hP65, by dsimp only; exact sl_eq hs67 (by simp) rfl, by dsimp only; rw [hnx, sb0 ek0]; exact (hlv.mono SubC.sub).snoc (hb65.mono SubC.sub)⟩ (by dsimp only; omega) (kp 0 rfl (kp 1 rfl (kp 5 rfl (kp 6 rfl kn)))) (Fit.pick PickC.perm (Fit.last PickC.perm)) (fun x hx => SubC.sub x hx)
    ·
      have ek0 : ¬ k0 % 7 = 0 := by simp at hc; omega
      refine XC.reg ?_
      refine XL.q (q_bin rfl rfl rfl) rfl ?_
      refine XL.q (q_assign rfl) rfl ?_
      refine XL.fin (kp 0 rfl (kp 1 rfl (kp 5 rfl (kp 6 rfl (kp 7 rfl (kp 8 rfl (kp 51 rfl (kp 68 rfl kn)))))))) ?_
      refine XC.cond rfl (fun hc => ?_) (fun hc => ?_)
      ·
        have ek1 : k0 % 7 = 1 := by simp at hc; omega
        refine XC.reg1 ?_
        refine XL.q (q_move rfl) rfl ?_
        refine XL.q (q_move rfl) rfl ?_
        refine XL.q (q_move rfl) rfl ?_
        refine XL.lo rfl (l_call (Mc := MP) (R := _) (aS rfl (aS rfl (a0))) (by kernel_rfl) PickC.perm (public_p pb (bAt zs i).1 hk1 va _ MP _ hP (by omega) (hba.mono SubC.sub) hG.up) rfl ?_)
        rintro v73 M73 J73 ⟨hP73, hb73⟩
        haveI := hb73.cel
        refine XL.lo rfl (l_buildSlice (e := 23) (sz := 1) (z := [.slice none 0 0]) (by kernel_rfl) (eS rfl e0) (bdS 0 1 rfl (by rfl) bd0) rfl fun b74 => ?_)
        refine XL.lo rfl (l_append2 (e := 23) (sz := 1) (by_ := 24) rfl rfl (by kernel_rfl) rfl hs5 (Rd.whole (n := 1) At.mem (by rfl)) (by intro c hc; rw [List.mem_singleton.1 hc]; exact hb73.one) PickC.perm (by unfold maxLen; omega) (by omega) rfl fun v75 B75 hs75 => ?_)
        refine XL.q (q_assign rfl) rfl ?_
        refine XL.nil ?_
        refine nb ?_
        refine nb ?_
        refine nx (kp 0 rfl (kp 1 rfl (kp 5 rfl (kp 6 rfl kn)))) ?_
        refine XC.reg1 ?_
        refine XL.q (q_move rfl) rfl ?_
        refine XL.q (q_addI (b := 1) rfl rfl rfl rfl (by omega)) rfl ?_
        refine XL.q (q_assign rfl) rfl ?_
        refine XL.nil ?_
        exact rn ⟨i + 1, vs ++ [v73], v75, B75, M73, J73 ++ J5⟩ ⟨by dsimp only; omega, by dsimp only; rw [hnx, sb1 ek1]; exact hP73, by dsimp only; exact sl_eq hs75 (by simp) rfl, by dsimp only; rw [hnx, sb1 ek1]; exact (hlv.mono SubC.sub).snoc (hb73.mono SubC.sub)⟩ (by dsimp only; omega) (kp 0 rfl (kp 1 rfl (kp 5 rfl (kp 6 rfl kn)))) (Fit.pick PickC.perm (Fit.last PickC.perm)) (fun x hx => SubC.sub x hx)
      ·
        have ek1 : ¬ k0 % 7 = 1 := by simp at hc; omega
        refine XC.reg ?_
        refine XL.q (q_bin rfl rfl rfl) rfl ?_
        refine XL.q (q_assign rfl) rfl ?_
        refine XL.fin (kp 0 rfl (kp 1 rfl (kp 5 rfl (kp 6 rfl (kp 7 rfl (kp 8 rfl (kp 51 rfl (kp 76 rfl kn)))))))) ?_
        refine XC.cond rfl (fun hc => ?_) (fun hc => ?_)
        ·
          have ek2 : k0 % 7 = 2 := by simp at hc; omega
          refine XC.reg1 ?_
          refine XL.q (q_move rfl) rfl ?_
          refine XL.q (q_move rfl) rfl ?_
          refine XL.q (q_move rfl) rfl ?_
          refine XL.q (q_move rfl) rfl ?_
          refine XL.lo rfl (l_call (Mc := MP) (R := _) (aS rfl (aS rfl (aS rfl (a0)))) (by kernel_rfl) PickC.perm (pagree_p pb (bAt zs i).1 hk1 va vb _ _ MP _ hP (by omega) (hba.mono SubC.sub) (hbb.mono SubC.sub) hG.up) rfl ?_)
          rintro v82 M82 J82 ⟨hP82, hb82⟩
          haveI := hb82.cel
          refine XL.lo rfl (l_buildSlice (e := 23) (sz := 1) (z := [.slice none 0 0]) (by kernel_rfl) (eS rfl e0) (bdS 0 1 rfl (by rfl) bd0) rfl fun b83 => ?_)
          refine XL.lo rfl (l_append2 (e := 23) (sz := 1) (by_ := 24) rfl rfl (by kernel_rfl) rfl hs5 (Rd.whole (n := 1) At.mem (by rfl)) (by intro c hc; rw [List.mem_singleton.1 hc]; exact hb82.one) PickC.perm (by unfold maxLen; omega) (by omega) rfl fun v84 B84 hs84 => ?_)
          refine XL.q (q_assign rfl) rfl ?_
          refine XL.nil ?_
          refine nb ?_
          refine nb ?_
          refine nx (kp 0 rfl (kp 1 rfl (kp 5 rfl (kp 6 rfl kn)))) ?_
          refine XC.reg1 ?_
          refine XL.q (q_move rfl) rfl ?_
          refine XL.q (q_addI (b := 1) rfl rfl rfl rfl (by omega)) rfl ?_
          refine XL.q (q_assign rfl) rfl ?_
          refine XL.nil ?_
          exact rn ⟨i + 1, vs ++ [v82], v84, B84, M82, J82 ++ J5⟩ ⟨by dsimp only; omega, by dsimp only; rw [hnx, sb2 ek2]; exact hP82, by dsimp only; exact sl_eq hs84 (by simp) rfl, by dsimp only; rw [hnx, sb2 ek2]; exact (hlv.mono SubC.sub).snoc (hb82.mono SubC.sub)⟩ (by dsimp only; omega) (kp 0 rfl (kp 1 rfl (kp 5 rfl (kp 6 rfl kn)))) (Fit.pick PickC.perm (Fit.last PickC.perm)) (fun x hx => SubC.sub x hx)
        ·
          have ek2 : ¬ k0 % 7 = 2 := by simp at hc; omega
          refine XC.reg ?_
          refine XL.q (q_bin rfl rfl rfl) rfl ?_
          refine XL.q (q_assign rfl) rfl ?_
          refine XL.fin (kp 0 rfl (kp 1 rfl (kp 5 rfl (kp 6 rfl (kp 7 rfl (kp 8 rfl (kp 51 rfl (kp 85 rfl kn)))))))) ?_
          refine XC.cond rfl (fun hc => ?_) (fun hc => ?_)
          ·
            have ek3 : k0 % 7 = 3 := by simp at hc; omega
            refine XC.reg1 ?_
            refine XL.q (q_move rfl) rfl ?_
            refine XL.q (q_move rfl) rfl ?_
            refine XL.q (q_move rfl) rfl ?_
            refine XL.q (q_move rfl) rfl ?_
            refine XL.lo rfl (l_buildSlice (e := 23) (sz := 1) (z := [.slice none 0 0]) (by kernel_rfl) (eS rfl e0) (bdS 0 1 rfl (by rfl) bd0) rfl fun b91 => ?_)
            refine XL.lo rfl (l_call (Mc := MP) (R := _) (aS rfl (aS rfl (aS rfl (aS rfl (aS rfl a0))))) (by kernel_rfl) PickC.perm (derive_spec pb (bAt zs i).1 va _ _ [100] [pick (bAt zs i).2 y0] 2 MP _ hP (hba.mono SubC.sub) ⟨_, Rd.whole (n := 1) At.mem (by rfl), Lst.cons (hbb.mono SubC.sub) Lst.nil⟩ (show 1 ≤ 1000 by decide) ⟨by decide⟩ (by decide) (by decide) (by decide) (by omega) hG.up) rfl ?_)
            rintro v92 M92 J92 ⟨hP92, hl92⟩
            obtain ⟨vs92, hr92, hls92⟩ := hl92.ex
            haveI := hr92.cel
            have hkl := derK_len2 (bAt zs i).1 hk1 (pick (bAt zs i).2 x0) [pick (bAt zs i).2 y0] [100] 2
            have hll92 := hls92.len
            rw [hkl] at hr92
            refine XL.lo rfl (l_append2 (e := 23) (sz := 1) (by_ := 24) rfl rfl (by kernel_rfl) rfl hs5 (hr92.mono SubC.sub) (hls92.one) PickC.perm (by unfold maxLen; omega) (by omega) rfl fun v93 B93 hs93 => ?_)
            refine XL.q (q_assign rfl) rfl ?_
            refine XL.nil ?_
            refine nb ?_
            refine nb ?_
            refine nx (kp 0 rfl (kp 1 rfl (kp 5 rfl (kp 6 rfl kn)))) ?_
            refine XC.reg1 ?_
            refine XL.q (q_move rfl) rfl ?_
            refine XL.q (q_addI (b := 1) rfl rfl rfl rfl (by omega)) rfl ?_
            refine XL.q (q_assign rfl) rfl ?_
            refine XL.nil ?_
            exact rn ⟨i + 1, vs ++ vs92, v93, B93, M92, J92 ++ J5⟩ ⟨by dsimp only; omega, by dsimp only; rw [hnx, sb3 ek3]; exact hP92, by dsimp only; exact sl_eq hs93 (by simp; omega) rfl, by dsimp only; rw [hnx, sb3 ek3]; exact (hlv.mono SubC.sub).app (hls92.mono SubC.sub)⟩ (by dsimp only; omega) (kp 0 rfl (kp 1 rfl (kp 5 rfl (kp 6 rfl kn)))) (Fit.pick PickC.perm (Fit.last PickC.perm)) (fun x hx => SubC.sub x hx)
          ·
            have ek3 : ¬ k0 % 7 = 3 := by simp at hc; omega
            refine XC.reg ?_
            refine XL.q (q_bin rfl rfl rfl) rfl ?_
            refine XL.q (q_assign rfl) rfl ?_
            refine XL.fin (kp 0 rfl (kp 1 rfl (kp 5 rfl (kp 6 rfl (kp 7 rfl (kp 8 rfl (kp 51 rfl (kp 94 rfl kn)))))))) ?_
            refine XC.cond rfl (fun hc => ?_) (fun hc => ?_)
            ·
              have ek4 : k0 % 7 = 4 := by simp at hc; omega
              refine XC.reg1 ?_
              refine XL.q (q_move rfl) rfl ?_
              refine XL.q (q_move rfl) rfl ?_
              refine XL.q (q_move rfl) rfl ?_
              refine XL.lo rfl (l_buildSlice (e := 5) (sz := 1) (z := [.int .u8 0]) (by kernel_rfl) (eS rfl e0) (bdS 0 1 rfl (by rfl) bd0) rfl fun b99 => ?_)
              refine XL.lo rfl (l_mark rfl (by kernel_rfl) UpC.upd rfl ?_)
              refine XL.q (q_move rfl) rfl ?_
              refine XL.q (q_move rfl) rfl ?_
              refine XL.q (q_atV2 (sz := 3) rfl rfl (by kernel_rfl) rfl hz hlt) rfl ?_
              refine XL.q (q_fldV (off := 2) rfl hz hlt (by kernel_rfl)) rfl ?_
              refine XL.q (q_ldVF (u := .int .u8 ((y0 : Nat) : Int)) rfl (hz.mono SubC.sub) (by omega) (by kernel_rfl) (by rw [hy0]; exact nums_at (by omega))) rfl ?_
              refine XL.lo rfl (l_buildSlice (e := 5) (sz := 1) (z := [.int .u8 0]) (by kernel_rfl) (eS rfl e0) (bdS 0 1 rfl (by rfl) bd0) rfl fun b106 => ?_)
              refine XL.lo rfl (l_call (Mc := MP) (R := _) (aS rfl (aS rfl (aS rfl (aS rfl (a0))))) (by kernel_rfl) PickC.perm (seal_p pb (bAt zs i).1 hk1 va _ _ _ [119] [y0] MP _ hP (by omega) (hba.mono SubC.sub) ⟨Rd.whole (n := 1) At.mem (by rfl), by decide, by decide⟩ ⟨Rd.whole (n := 1) At.mem (by rfl), (fun x hx => by rw [List.mem_singleton.1 hx]; exact hzy), show 1 ≤ 16777216 by decide⟩ hG.up) rfl ?_)
              rintro v107 M107 J107 ⟨hP107, hb107⟩
              haveI := hb107.cel
              refine XL.lo rfl (l_buildSlice (e := 23) (sz := 1) (z := [.slice none 0 0]) (by kernel_rfl) (eS rfl e0) (bdS 0 1 rfl (by rfl) bd0) rfl fun b108 => ?_)
              refine XL.lo rfl (l_append2 (e := 23) (sz := 1) (by_ := 24) rfl rfl (by kernel_rfl) rfl hs5 (Rd.whole (n := 1) At.mem (by rfl)) (by intro c hc; rw [List.mem_singleton.1 hc]; exact hb107.one) PickC.perm (by unfold maxLen; omega) (by omega) rfl fun v109 B109 hs109 => ?_)
              refine XL.q (q_assign rfl) rfl ?_
              refine XL.nil ?_
              refine nb ?_
              refine nb ?_
              refine nx (kp 0 rfl (kp 1 rfl (kp 5 rfl (kp 6 rfl kn)))) ?_
              refine XC.reg1 ?_
              refine XL.q (q_move rfl) rfl ?_
              refine XL.q (q_addI (b := 1) rfl rfl rfl rfl (by omega)) rfl ?_
              refine XL.q (q_assign rfl) rfl ?_
              refine XL.nil ?_
              exact rn ⟨i + 1, vs ++ [v107], v109, B109, M107, J107 ++ J5⟩ ⟨by dsimp only; omega, by dsimp only; rw [hnx, sb4 ek4]; exact hP107, by dsimp only; exact sl_eq hs109 (by simp) rfl, by dsimp only; rw [hnx, sb4 ek4]; exact (hlv.mono SubC.sub).snoc (hb107.mono SubC.sub)⟩ (by dsimp only; omega) (kp 0 rfl (kp 1 rfl (kp 5 rfl (kp 6 rfl kn)))) (Fit.pick PickC.perm (Fit.last PickC.perm)) (fun x hx => SubC.sub x hx)
            ·
              have ek4 : ¬ k0 % 7 = 4 := by simp at hc; omega
              refine XC.reg ?_
              refine XL.q (q_bin rfl rfl rfl) rfl ?_
              refine XL.q (q_assign rfl) rfl ?_
              refine XL.fin (kp 0 rfl (kp 1 rfl (kp 5 rfl (kp 6 rfl (kp 7 rfl (kp 8 rfl (kp 110 rfl kn))))))) ?_
              refine XC.cond rfl (fun hc => ?_) (fun hc => ?_)
              ·
                have ek5 : k0 % 7 = 5 := by simp at hc; omega
                refine XC.reg1 ?_
                refine XL.q (q_move rfl) rfl ?_
                refine XL.q (q_move rfl) rfl ?_
                refine XL.q (q_move rfl) rfl ?_
                refine XL.lo rfl (l_buildSlice (e := 5) (sz := 1) (z := [.int .u8 0]) (by kernel_rfl) (eS rfl e0) (bdS 0 1 rfl (by rfl) bd0) rfl fun b115 => ?_)
                refine XL.lo rfl (l_mark rfl (by kernel_rfl) UpC.upd rfl ?_)
                refine XL.lo rfl (l_call (Mc := MP) (R := _) (aS rfl (aS rfl (aS rfl (a0)))) (by kernel_rfl) PickC.perm (sign_p pb (bAt zs i).1 hk1 va _ _ [109] MP _ hP (by omega) (hba.mono SubC.sub) ⟨Rd.whole (n := 1) At.mem (by rfl), by decide, by decide⟩ hG.up) rfl ?_)
                rintro v117 M117 J117 ⟨hP117, hb117⟩
                haveI := hb117.cel
                refine XL.q (q_hiV2 (sz := 1) (a := 32) rfl rfl (by kernel_rfl) rfl hb117.rd (by rw [fitN_len]; decide)) rfl ?_
                have hb118 := by_hi hb117 (k := 32) (by rw [fitN_len]; decide)
                generalize vHi 32 v117 = v118 at *
                haveI := hb118.cel
                refine XL.lo rfl (l_buildSlice (e := 23) (sz := 1) (z := [.slice none 0 0]) (by kernel_rfl) (eS rfl e0) (bdS 0 1 rfl (by rfl) bd0) rfl fun b119 => ?_)
                refine XL.lo rfl (l_append2 (e := 23) (sz := 1) (by_ := 24) rfl rfl (by kernel_rfl) rfl hs5 (Rd.whole (n := 1) At.mem (by rfl)) (by intro c hc; rw [List.mem_singleton.1 hc]; exact hb118.one) PickC.perm (by unfold maxLen; omega) (by omega) rfl fun v120 B120 hs120 => ?_)
                refine XL.q (q_assign rfl) rfl ?_
                refine XL.nil ?_
                refine nb ?_
                refine nb ?_
                refine nx (kp 0 rfl (kp 1 rfl (kp 5 rfl (kp 6 rfl kn)))) ?_
                refine XC.reg1 ?_
                refine XL.q (q_move rfl) rfl ?_
                refine XL.q (q_addI (b := 1) rfl rfl rfl rfl (by omega)) rfl ?_
                refine XL.q (q_assign rfl) rfl ?_
                refine XL.nil ?_
                exact rn ⟨i + 1, vs ++ [v118], v120, B120, M117, J117 ++ J5⟩ ⟨by dsimp only; omega, by dsimp only; rw [hnx, sb5 ek5]; exact hP117, by dsimp only; exact sl_eq hs120 (by simp) rfl, by dsimp only; rw [hnx, sb5 ek5]; exact (hlv.mono SubC.sub).snoc (hb118.mono SubC.sub)⟩ (by dsimp only; omega) (kp 0 rfl (kp 1 rfl (kp 5 rfl (kp 6 rfl kn)))) (Fit.pick PickC.perm (Fit.last PickC.perm)) (fun x hx => SubC.sub x hx)
              ·
                have ek5 : ¬ k0 % 7 = 5 := by simp at hc; omega
                refine XC.reg1 ?_
                refine XL.q (q_move rfl) rfl ?_
                refine XL.q (q_move rfl) rfl ?_
                refine XL.q (q_move rfl) rfl ?_
                refine XL.q (q_move rfl) rfl ?_
                refine XL.q (q_move rfl) rfl ?_
                refine XL.lo rfl (l_call (Mc := MP) (R := _) (aS rfl (aS rfl (a0))) (by kernel_rfl) PickC.perm (public_p pb (bAt zs i).1 hk1 vb _ MP _ hP (by omega) (hbb.mono SubC.sub) hG.up) rfl ?_)
                rintro v57 M57 J57 ⟨hP57, hb57⟩
                haveI := hb57.cel
                have hpn := pub_len (bAt zs i).1 (pick (bAt zs i).2 y0)
                refine XL.lo rfl (l_call (Mc := M57) (R := _) (aS rfl (aS rfl (aS rfl (a0)))) (by kernel_rfl) PickC.perm (pagree_p pb (pubS (bAt zs i).1 (pick (bAt zs i).2 y0)) hk1 va v57 _ _ M57 _ hP57 (by omega) (hba.mono SubC.sub) (hb57.mono SubC.sub) hG.up) rfl ?_)
                rintro v58 M58 J58 ⟨hP58, hb58⟩
                haveI := hb58.cel
                refine XL.lo rfl (l_buildSlice (e := 23) (sz := 1) (z := [.slice none 0 0]) (by kernel_rfl) (eS rfl e0) (bdS 0 1 rfl (by rfl) bd0) rfl fun b59 => ?_)
                refine XL.lo rfl (l_append2 (e := 23) (sz := 1) (by_ := 24) rfl rfl (by kernel_rfl) rfl hs5 (Rd.whole (n := 1) At.mem (by rfl)) (by intro c hc; rw [List.mem_singleton.1 hc]; exact hb58.one) PickC.perm (by unfold maxLen; omega) (by omega) rfl fun v60 B60 hs60 => ?_)
                refine XL.q (q_assign rfl) rfl ?_
                refine XL.nil ?_
                refine nb ?_
                refine nb ?_
                refine nx (kp 0 rfl (kp 1 rfl (kp 5 rfl (kp 6 rfl kn)))) ?_
                refine XC.reg1 ?_
                refine XL.q (q_move rfl) rfl ?_
                refine XL.q (q_addI (b := 1) rfl rfl rfl rfl (by omega)) rfl ?_
                refine XL.q (q_assign rfl) rfl ?_
                refine XL.nil ?_
                exact rn ⟨i + 1, vs ++ [v58], v60, B60, M58, J58 ++ (J57 ++ J5)⟩ ⟨by dsimp only; omega, by dsimp only; rw [hnx, sb6 ⟨ek0, ek1, ek2, ek3, ek4, ek5⟩]; exact hP58, by dsimp only; exact sl_eq hs60 (by simp) rfl, by dsimp only; rw [hnx, sb6 ⟨ek0, ek1, ek2, ek3, ek4, ek5⟩]; exact (hlv.mono SubC.sub).snoc (hb58.mono SubC.sub)⟩ (by dsimp only; omega) (kp 0 rfl (kp 1 rfl (kp 5 rfl (kp 6 rfl kn)))) (Fit.pick PickC.perm (Fit.last PickC.perm)) (fun x hx => SubC.sub x hx)
  ·
    have hge : i = n := by simp at hc; omega
    subst hge
    refine XC.exit ?_
    refine te ?_
    refine re ?_
    refine be rfl ?_
    refine nx (kp 5 rfl kn) ?_
    refine XC.reg ?_
    refine XL.q (q_move rfl) rfl ?_
    refine XL.q (q_assign rfl) rfl ?_
    refine XL.fin (kp 4 rfl kn) ?_
    refine XC.ret ?_
    exact ⟨_, MP, B5, res1 rfl rfl, Fit.pick PickC.perm (Fit.last PickC.perm), hP, vs, by rw [← hvl]; exact hs5.rd SubC.sub, hlv.mono SubC.sub⟩

end Go.Proofs.YthmnlkpikgglbaaGreatDoor
/- The walk of closure's Keys. -/
set_option linter.unusedVariables false
set_option linter.unusedSimpArgs false
namespace Go.Proofs.YthmnlkpikgglbaaGreatDoor
open Go.Px
def secK (k : Nat) : Bool := k == 1 || k == 4 || k == 5
def keyF (ts : List Tm) (h : List Bool) (i : Nat) : Bool := kat h i && (match ts[i]? with
  | some t => secK t.kind
  | none => false)
def keysN (ts : List Tm) (h : List Bool) (n : Nat) : List (List Nat) := ((List.range n).filter (keyF ts h)).map fun i => bts ((i : Nat) : Int)
theorem keysN_y {ts : List Tm} {h : List Bool} {n : Nat} (hk : keyF ts h n = true) : keysN ts h (n + 1) = keysN ts h n ++ [bts ((n : Nat) : Int)] := by
  unfold keysN
  rw [List.range_succ, List.filter_append, List.map_append]
  simp [hk]
theorem keysN_n {ts : List Tm} {h : List Bool} {n : Nat} (hk : keyF ts h n = false) : keysN ts h (n + 1) = keysN ts h n := by
  unfold keysN
  rw [List.range_succ, List.filter_append, List.map_append]
  simp [hk]
theorem keysN_len (ts : List Tm) (h : List Bool) (n : Nat) : (keysN ts h n).length ≤ n := by
  unfold keysN
  rw [List.length_map]
  exact Nat.le_trans (List.length_filter_le _ _) (by simp)

set_option maxRecDepth 100000 in
theorem keys_spec (kb bt bm : Nat) (ts : List Tm) (h : List Bool) (A : Mem) (hK : KnR kb bt h A) (hT0 : TbR bt bm ts A) (hl : h.length ≤ ts.length) (hn : ts.length ≤ 1048576) : FnX Tryz.prog 20 [.pointer (some ⟨kb, 0, none⟩)] [] A fun q M J => M = [] ∧ LsV J q (keysN ts h h.length) := by
  obtain ⟨v, hkb, hrd⟩ := hK.ex
  haveI := hrd.cel
  obtain ⟨MT, hT, hsub⟩ := hT0.ex
  refine FnX.enterZ (N := 53) Tryz.func20 rfl rfl rfl fun w_ => ?_
  refine XC.keep (kp 0 rfl kn) ?_
  refine XC.reg ?_
  refine XL.q (q_assign rfl) rfl ?_
  refine XL.fin (kp 0 rfl kn) ?_
  refine XC.reg ?_
  refine XL.q (q_assign rfl) rfl ?_
  refine XL.fin (kp 0 rfl (kp 3 rfl kn)) ?_
  refine XC.seq ?_
  refine XC.reg ?_
  refine XL.q (q_move rfl) rfl ?_
  refine XL.q (q_ptrEqNil (e := 79) rfl rfl (by kernel_rfl)) rfl ?_
  refine XL.fin (kp 0 rfl (kp 3 rfl (kp 9 rfl kn))) ?_
  refine XC.condF rfl ?_
  refine XC.skip ?_
  refine nx (kp 0 rfl (kp 3 rfl kn)) ?_
  refine XC.seq ?_
  refine XC.reg ?_
  refine XL.q (q_move rfl) rfl ?_
  refine XL.q (q_nil rfl) rfl ?_
  refine XL.q (q_fieldAddrN 1 (off := 1) rfl (by kernel_rfl) rfl) rfl ?_
  refine XL.q (q_load rfl (by kernel_rfl) (mA hkb) (by rfl)) rfl ?_
  refine XL.q (q_lenV2 (sz := 1) rfl (by kernel_rfl) hrd) rfl ?_
  refine XL.q (q_move rfl) rfl ?_
  refine XL.fin (kp 0 rfl (kp 3 rfl (kp 14 rfl (kp 15 rfl (kp 16 rfl kn))))) ?_
  refine XC.block ?_
  refine XC.loop (α := Nat × List Value × Value × Mem × Mem) (fun x => [(0, .pointer (some ⟨kb, 0, none⟩)), (3, x.2.2.1), (14, v), (15, .int .i64 ((h.length : Nat) : Int)), (16, .int .i64 ((x.1 : Nat) : Int))]) (fun x => x.2.2.2.1) (fun x => x.2.2.2.2) (fun x => x.1 ≤ h.length ∧ Sl 1 x.2.2.1 x.2.1.length x.2.1 x.2.2.2.1 ∧ Lst x.2.2.2.2 x.2.1 (keysN ts h x.1)) (fun x => h.length - x.1) ⟨0, [], .slice none 0 0, [], []⟩ ⟨Nat.zero_le _, Sl.nil, Lst.nil⟩ (kp 0 rfl (kp 3 rfl (kp 14 rfl (kp 15 rfl (kp 16 rfl kn))))) .rfl (fun _ h => h) ?_
  rintro ⟨i, vs, v3, B3, J3⟩ ⟨hi, hs3, hlv⟩
  dsimp only at hi hs3 hlv ⊢
  haveI := hs3.cel
  have hvl := hlv.len
  have hvn := keysN_len ts h i
  refine XC.reg ?_
  refine XL.q (q_bin rfl rfl rfl) rfl ?_
  refine XL.fin (kp 0 rfl (kp 3 rfl (kp 14 rfl (kp 15 rfl (kp 16 rfl (kp 17 rfl kn)))))) ?_
  refine XC.seq ?_
  refine XC.cond rfl (fun hc => ?_) (fun hc => ?_)
  ·
    have hlt : i < h.length := by simp at hc; omega
    refine XC.skip ?_
    refine nx (kp 0 rfl (kp 3 rfl (kp 14 rfl (kp 15 rfl (kp 16 rfl kn))))) ?_
    refine XC.seq ?_
    refine XC.block ?_
    refine XC.reg ?_
    refine XL.q (q_move rfl) rfl ?_
    refine XL.q (q_atV2 (sz := 1) rfl rfl (by kernel_rfl) rfl hrd hlt) rfl ?_
    refine XL.q (q_ldV (j := i) (u := .bool (h.getD i false)) (hrd.mono SubC.sub) rfl (by kernel_rfl) (bools_get hlt)) rfl ?_
    refine XL.q (q_assign rfl) rfl ?_
    refine XL.q (q_assign rfl) rfl ?_
    refine XL.fin (kp 0 rfl (kp 3 rfl (kp 4 rfl (kp 5 rfl (kp 14 rfl (kp 15 rfl (kp 16 rfl kn))))))) ?_
    refine XC.reg ?_
    refine XL.q (q_move rfl) rfl ?_
    refine XL.q (q_nil rfl) rfl ?_
    refine XL.q (q_fieldAddrN 0 (off := 0) rfl (by kernel_rfl) rfl) rfl ?_
    refine XL.q (q_load rfl (by kernel_rfl) (mA hkb) (by rfl)) rfl ?_
    refine XL.q (q_move rfl) rfl ?_
    refine XL.call (aS rfl (aS rfl a0)) (by kernel_rfl) (getT_spec bt bm ts ((i : Nat) : Int) MT _ hT (fun x hx => SubC.sub _ (hsub x hx))) rfl ?_
    rintro v27 M27 J27 ⟨rfl, rfl, c27, ok27, rfl, hg1, hg2⟩
    obtain ⟨rfl, t, ht, vo, rfl, hvo⟩ := hg1 ⟨by omega, by omega⟩
    rw [Int.toNat_natCast] at ht
    have hto := hT.tok.tmo t (List.mem_of_getElem? ht)
    haveI := hvo.cel
    have hkF : keyF ts h i = (kat h i && secK t.kind) := by unfold keyF; rw [ht]
    refine XL.q (q_move rfl) rfl ?_
    refine XL.q (q_x0 rfl) rfl ?_
    refine XL.q (q_x1 rfl) rfl ?_
    refine XL.lo rfl (l_alloc (cs := [.int .u8 0, .slice none 0 0, .string ByteArray.empty, .int .i64 0]) (by kernel_rfl) rfl fun b6 => ?_)
    refine XL.lo rfl (l_storeW rfl rfl rfl (by kernel_rfl) (by rfl) (by intro c hc; simp only [List.mem_cons, List.not_mem_nil, or_false] at hc; rcases hc with rfl | rfl | rfl | rfl <;> first | rfl | exact hvo.one) UpC.upd ?_)
    refine XL.q (q_assign rfl) rfl ?_
    refine XL.fin (kp 0 rfl (kp 3 rfl (kp 4 rfl (kp 5 rfl (kp 6 rfl (kp 14 rfl (kp 15 rfl (kp 16 rfl kn)))))))) ?_
    refine XC.reg ?_
    refine XL.q (q_move rfl) rfl ?_
    refine XL.q (q_move rfl) rfl ?_
    refine XL.split (t := 31) rfl (fun hb => ?_) (fun hb => ?_)
    ·
      have hA : kat h i = true := hb
      refine XL.gy rfl rfl (OpQ.opL (q_fieldAddrN 0 (off := 0) rfl (by kernel_rfl) rfl) rfl ?_)
      refine XL.gy rfl rfl (OpQ.opL (q_load rfl (by kernel_rfl) (by first | exact At.mem | exact mA (by assumption)) (by rfl)) rfl ?_)
      refine XL.gy rfl rfl (OpQ.opL (q_bin rfl rfl rfl) rfl ?_)
      refine XL.gy rfl rfl (OpQ.opL (q_move rfl) rfl ?_)
      refine XL.split (t := 35) rfl (fun hb => ?_) (fun hb => ?_)
      ·
        have hk1 : t.kind = 1 := by simp at hb; omega
        refine XL.gn rfl rfl rfl rfl ?_
        refine XL.gn rfl rfl rfl rfl ?_
        refine XL.gn rfl rfl rfl rfl ?_
        refine XL.gy rfl rfl (OpQ.opL (q_pickT rfl rfl) rfl ?_)
        refine XL.gy rfl rfl (OpQ.opL (q_move rfl) rfl ?_)
        refine XL.gn rfl rfl rfl rfl ?_
        refine XL.gn rfl rfl rfl rfl ?_
        refine XL.gn rfl rfl rfl rfl ?_
        refine XL.gy rfl rfl (OpQ.opL (q_pickT rfl rfl) rfl ?_)
        refine XL.q (q_pickT rfl rfl) rfl ?_
        refine XL.fin (kp 0 rfl (kp 3 rfl (kp 4 rfl (kp 14 rfl (kp 15 rfl (kp 16 rfl (kp 45 rfl kn))))))) ?_
        refine XC.condT rfl ?_
        refine XC.reg1 ?_
        refine XL.q (q_move rfl) rfl ?_
        refine XL.q (q_move rfl) rfl ?_
        refine XL.call (aS rfl a0) (by kernel_rfl) (bytesJ_spec _ _) rfl ?_
        rintro v48 M48 J48 ⟨rfl, hb48⟩
        haveI := hb48.cel
        refine XL.lo rfl (l_buildSlice (e := 23) (sz := 1) (z := [.slice none 0 0]) (by kernel_rfl) (eS rfl e0) (bdS 0 1 rfl (by rfl) bd0) rfl fun b49 => ?_)
        refine XL.lo rfl (l_append2 (e := 23) (sz := 1) (by_ := 24) rfl rfl (by kernel_rfl) rfl hs3 (Rd.whole (n := 1) At.mem (by rfl)) (by intro c hc; rw [List.mem_singleton.1 hc]; exact hb48.one) PickC.perm (by unfold maxLen; omega) (by omega) rfl fun v50 B50 hs50 => ?_)
        refine XL.q (q_assign rfl) rfl ?_
        refine XL.nil ?_
        refine nb ?_
        refine nx (kp 0 rfl (kp 3 rfl (kp 14 rfl (kp 15 rfl (kp 16 rfl kn))))) ?_
        refine XC.reg1 ?_
        refine XL.q (q_addI (b := 1) rfl rfl rfl rfl (by omega)) rfl ?_
        refine XL.q (q_move rfl) rfl ?_
        refine XL.nil ?_
        exact rn ⟨i + 1, vs ++ [v48], v50, B50, J48 ++ J3⟩ ⟨by dsimp only; omega, by dsimp only; exact sl_eq hs50 (by simp) rfl, by dsimp only; rw [keysN_y (by rw [hkF, hA]; unfold secK; rw [hk1]; rfl)]; exact (hlv.mono SubC.sub).snoc (hb48.mono SubC.sub)⟩ (by dsimp only; omega) (kp 0 rfl (kp 3 rfl (kp 14 rfl (kp 15 rfl (kp 16 rfl kn))))) (Fit.last PickC.perm) (fun x hx => SubC.sub x hx)
      ·
        have hk1 : ¬ t.kind = 1 := by simp at hb; omega
        refine XL.gy rfl rfl (OpQ.opL (q_fieldAddrN 0 (off := 0) rfl (by kernel_rfl) rfl) rfl ?_)
        refine XL.gy rfl rfl (OpQ.opL (q_load rfl (by kernel_rfl) (by first | exact At.mem | exact mA (by assumption)) (by rfl)) rfl ?_)
        refine XL.gy rfl rfl (OpQ.opL (q_bin rfl rfl rfl) rfl ?_)
        refine XL.gy rfl rfl (OpQ.opL (q_pickF rfl rfl) rfl ?_)
        refine XL.gy rfl rfl (OpQ.opL (q_move rfl) rfl ?_)
        refine XL.split (t := 40) rfl (fun hb => ?_) (fun hb => ?_)
        ·
          have hk4 : t.kind = 4 := by simp at hb; omega
          refine XL.gn rfl rfl rfl rfl ?_
          refine XL.gn rfl rfl rfl rfl ?_
          refine XL.gn rfl rfl rfl rfl ?_
          refine XL.gy rfl rfl (OpQ.opL (q_pickT rfl rfl) rfl ?_)
          refine XL.q (q_pickT rfl rfl) rfl ?_
          refine XL.fin (kp 0 rfl (kp 3 rfl (kp 4 rfl (kp 14 rfl (kp 15 rfl (kp 16 rfl (kp 45 rfl kn))))))) ?_
          refine XC.condT rfl ?_
          refine XC.reg1 ?_
          refine XL.q (q_move rfl) rfl ?_
          refine XL.q (q_move rfl) rfl ?_
          refine XL.call (aS rfl a0) (by kernel_rfl) (bytesJ_spec _ _) rfl ?_
          rintro v48 M48 J48 ⟨rfl, hb48⟩
          haveI := hb48.cel
          refine XL.lo rfl (l_buildSlice (e := 23) (sz := 1) (z := [.slice none 0 0]) (by kernel_rfl) (eS rfl e0) (bdS 0 1 rfl (by rfl) bd0) rfl fun b49 => ?_)
          refine XL.lo rfl (l_append2 (e := 23) (sz := 1) (by_ := 24) rfl rfl (by kernel_rfl) rfl hs3 (Rd.whole (n := 1) At.mem (by rfl)) (by intro c hc; rw [List.mem_singleton.1 hc]; exact hb48.one) PickC.perm (by unfold maxLen; omega) (by omega) rfl fun v50 B50 hs50 => ?_)
          refine XL.q (q_assign rfl) rfl ?_
          refine XL.nil ?_
          refine nb ?_
          refine nx (kp 0 rfl (kp 3 rfl (kp 14 rfl (kp 15 rfl (kp 16 rfl kn))))) ?_
          refine XC.reg1 ?_
          refine XL.q (q_addI (b := 1) rfl rfl rfl rfl (by omega)) rfl ?_
          refine XL.q (q_move rfl) rfl ?_
          refine XL.nil ?_
          exact rn ⟨i + 1, vs ++ [v48], v50, B50, J48 ++ J3⟩ ⟨by dsimp only; omega, by dsimp only; exact sl_eq hs50 (by simp) rfl, by dsimp only; rw [keysN_y (by rw [hkF, hA]; unfold secK; rw [hk4]; rfl)]; exact (hlv.mono SubC.sub).snoc (hb48.mono SubC.sub)⟩ (by dsimp only; omega) (kp 0 rfl (kp 3 rfl (kp 14 rfl (kp 15 rfl (kp 16 rfl kn))))) (Fit.last PickC.perm) (fun x hx => SubC.sub x hx)
        ·
          have hk4 : ¬ t.kind = 4 := by simp at hb; omega
          refine XL.gy rfl rfl (OpQ.opL (q_fieldAddrN 0 (off := 0) rfl (by kernel_rfl) rfl) rfl ?_)
          refine XL.gy rfl rfl (OpQ.opL (q_load rfl (by kernel_rfl) (by first | exact At.mem | exact mA (by assumption)) (by rfl)) rfl ?_)
          refine XL.gy rfl rfl (OpQ.opL (q_bin rfl rfl rfl) rfl ?_)
          refine XL.gy rfl rfl (OpQ.opL (q_pickF rfl rfl) rfl ?_)
          refine XL.q (q_pickT rfl rfl) rfl ?_
          refine XL.fin (kp 0 rfl (kp 3 rfl (kp 4 rfl (kp 14 rfl (kp 15 rfl (kp 16 rfl (kp 45 rfl kn))))))) ?_
          refine XC.cond rfl (fun hc => ?_) (fun hc => ?_)
          ·
            have hk5 : t.kind = 5 := by simp at hc; omega
            refine XC.reg1 ?_
            refine XL.q (q_move rfl) rfl ?_
            refine XL.q (q_move rfl) rfl ?_
            refine XL.call (aS rfl a0) (by kernel_rfl) (bytesJ_spec _ _) rfl ?_
            rintro v48 M48 J48 ⟨rfl, hb48⟩
            haveI := hb48.cel
            refine XL.lo rfl (l_buildSlice (e := 23) (sz := 1) (z := [.slice none 0 0]) (by kernel_rfl) (eS rfl e0) (bdS 0 1 rfl (by rfl) bd0) rfl fun b49 => ?_)
            refine XL.lo rfl (l_append2 (e := 23) (sz := 1) (by_ := 24) rfl rfl (by kernel_rfl) rfl hs3 (Rd.whole (n := 1) At.mem (by rfl)) (by intro c hc; rw [List.mem_singleton.1 hc]; exact hb48.one) PickC.perm (by unfold maxLen; omega) (by omega) rfl fun v50 B50 hs50 => ?_)
            refine XL.q (q_assign rfl) rfl ?_
            refine XL.nil ?_
            refine nb ?_
            refine nx (kp 0 rfl (kp 3 rfl (kp 14 rfl (kp 15 rfl (kp 16 rfl kn))))) ?_
            refine XC.reg1 ?_
            refine XL.q (q_addI (b := 1) rfl rfl rfl rfl (by omega)) rfl ?_
            refine XL.q (q_move rfl) rfl ?_
            refine XL.nil ?_
            exact rn ⟨i + 1, vs ++ [v48], v50, B50, J48 ++ J3⟩ ⟨by dsimp only; omega, by dsimp only; exact sl_eq hs50 (by simp) rfl, by dsimp only; rw [keysN_y (by rw [hkF, hA]; unfold secK; rw [hk5]; rfl)]; exact (hlv.mono SubC.sub).snoc (hb48.mono SubC.sub)⟩ (by dsimp only; omega) (kp 0 rfl (kp 3 rfl (kp 14 rfl (kp 15 rfl (kp 16 rfl kn))))) (Fit.last PickC.perm) (fun x hx => SubC.sub x hx)
          ·
            have hk5 : ¬ t.kind = 5 := by simp at hc; omega
            refine XC.skip ?_
            refine nb ?_
            refine nx (kp 0 rfl (kp 3 rfl (kp 14 rfl (kp 15 rfl (kp 16 rfl kn))))) ?_
            refine XC.reg1 ?_
            refine XL.q (q_addI (b := 1) rfl rfl rfl rfl (by omega)) rfl ?_
            refine XL.q (q_move rfl) rfl ?_
            refine XL.nil ?_
            exact rn ⟨i + 1, vs, v3, B3, J3⟩ ⟨by dsimp only; omega, hs3, by dsimp only; rw [keysN_n (by rw [hkF, show secK t.kind = false by simp [secK, hk1, hk4, hk5]]; simp)]; exact hlv⟩ (by dsimp only; omega) (kp 0 rfl (kp 3 rfl (kp 14 rfl (kp 15 rfl (kp 16 rfl kn))))) (Fit.last PickC.perm) (fun x hx => SubC.sub x hx)
    ·
      have hA : kat h i = false := hb
      refine XL.gn rfl rfl rfl rfl ?_
      refine XL.gn rfl rfl rfl rfl ?_
      refine XL.gn rfl rfl rfl rfl ?_
      refine XL.gn rfl rfl rfl rfl ?_
      refine XL.gu rfl rfl rfl ?_
      refine XL.gu rfl rfl rfl ?_
      refine XL.gu rfl rfl rfl ?_
      refine XL.gn rfl rfl rfl rfl ?_
      refine XL.gn rfl rfl rfl rfl ?_
      refine XL.gu rfl rfl rfl ?_
      refine XL.gu rfl rfl rfl ?_
      refine XL.gu rfl rfl rfl ?_
      refine XL.gn rfl rfl rfl rfl ?_
      refine XL.q (q_pickF rfl rfl) rfl ?_
      refine XL.fin (kp 0 rfl (kp 3 rfl (kp 4 rfl (kp 14 rfl (kp 15 rfl (kp 16 rfl (kp 45 rfl kn))))))) ?_
      refine XC.condF rfl ?_
      refine XC.skip ?_
      refine nb ?_
      refine nx (kp 0 rfl (kp 3 rfl (kp 14 rfl (kp 15 rfl (kp 16 rfl kn))))) ?_
      refine XC.reg1 ?_
      refine XL.q (q_addI (b := 1) rfl rfl rfl rfl (by omega)) rfl ?_
      refine XL.q (q_move rfl) rfl ?_
      refine XL.nil ?_
      exact rn ⟨i + 1, vs, v3, B3, J3⟩ ⟨by dsimp only; omega, hs3, by dsimp only; rw [keysN_n (by rw [hkF, hA]; rfl)]; exact hlv⟩ (by dsimp only; omega) (kp 0 rfl (kp 3 rfl (kp 14 rfl (kp 15 rfl (kp 16 rfl kn))))) (Fit.last PickC.perm) (fun x hx => SubC.sub x hx)
  ·
    have hge : i = h.length := by simp at hc; omega
    subst hge
    refine XC.exit ?_
    refine te ?_
    refine re ?_
    refine be rfl ?_
    refine nx (kp 3 rfl kn) ?_
    refine XC.reg ?_
    refine XL.q (q_move rfl) rfl ?_
    refine XL.q (q_assign rfl) rfl ?_
    refine XL.fin (kp 2 rfl kn) ?_
    refine XC.ret ?_
    exact ⟨_, [], B3, res1 rfl rfl, Fit.pick PickC.perm (Fit.sub (List.nil_sublist _)), rfl, vs, by rw [← hvl]; exact hs3.rd SubC.sub, hlv.mono SubC.sub⟩

end Go.Proofs.YthmnlkpikgglbaaGreatDoor
/- Plain laws of built tables: each term is whole, made of elder ones. No program in sight. -/
set_option linter.unusedVariables false
set_option linter.unusedSimpArgs false
namespace Go.Proofs.YthmnlkpikgglbaaGreatDoor
open Go.Px
/-- A term of elder ones. -/
def Eld (n : Nat) (l : List Int) : Prop := ∀ x ∈ l, 0 ≤ x ∧ x < (n : Int)
structure Wt (n : Nat) (t : Tm) : Prop where
  eld : Eld n t.of
  kind : (t.kind = 1 ∧ t.of = []) ∨ (t.kind = 3 ∧ ∃ x, t = pubT x) ∨ (t.kind = 4 ∧ t.of.length = 2) ∨ ((t.kind = 5 ∨ t.kind = 6 ∨ t.kind = 7) ∧ t.of ≠ [])
def Wf (ts : List Tm) : Prop := ∀ i t, ts[i]? = some t → Wt i t
theorem Eld.up {n m : Nat} {l : List Int} (h : Eld n l) (hm : n ≤ m) : Eld m l := fun x hx => by have := h x hx; omega
theorem Wf.nil : Wf [] := fun i t h => by simp at h
theorem Wf.add {ts : List Tm} {t : Tm} (h : Wf ts) (ht : Wt ts.length t) : Wf (add ts t) := by
  cases hp : pos ts t with
  | some j => rw [(add_some hp).1]; exact h
  | none =>
    rw [(add_none hp).1]
    intro i u hu
    by_cases hi : i < ts.length
    · rw [List.getElem?_append_left hi] at hu; exact h i u hu
    · rw [List.getElem?_append_right (by omega)] at hu
      have : i - ts.length = 0 := by
        rcases Nat.eq_zero_or_pos (i - ts.length) with h0 | h0
        · exact h0
        · rw [List.getElem?_eq_none (by simp; omega)] at hu; cases hu
      rw [this] at hu
      have hi2 : i = ts.length := by omega
      subst hi2
      cases hu
      exact ht
/-- What is known of nothing: nothing. -/
theorem made_none {ts : List Tm} (h : Wf ts) (n : Nat) (i : Nat) : madeF ts (List.replicate n false) i = false := by
  have hk : ∀ x : Int, isK (List.replicate n false) x = false := by
    intro x
    unfold isK kat
    rw [List.getD_eq_getElem?_getD, List.getElem?_replicate]
    split <;> simp
  have hall : ∀ l : List Int, l ≠ [] → l.all (isK (List.replicate n false)) = false := by
    intro l hl
    cases l with
    | nil => exact absurd rfl hl
    | cons x l => simp [hk x]
  unfold madeF
  cases ht : ts[i]? with
  | none => rfl
  | some t =>
    obtain ⟨he, hkd⟩ := h i t ht
    show madeT ts _ t = false
    rcases hkd with ⟨h1, h2⟩ | ⟨h1, x, rfl⟩ | ⟨h1, h2⟩ | ⟨h1, h2⟩
    · unfold madeT; rw [h1]; rfl
    · rw [madeT_mk rfl]; exact hall _ (by simp [pubT])
    · by_cases hn : t.n = 0 ∧ t.of.length = 2
      · rw [madeT_4a h1 hn.1 hn.2, hk, hk]; rfl
      · rw [madeT_4b h1 hn]; exact hall _ (by intro e; rw [e] at h2; cases h2)
    · rw [madeT_mk (by rcases h1 with e | e | e <;> rw [e] <;> rfl)]; exact hall _ h2
theorem clo_none {ts : List Tm} (h : Wf ts) : cloF ts [] = List.replicate ts.length false := by
  have hc := cloF_clo (ts := ts) (h := []) (Nat.zero_le _)
  apply kat_ext (by rw [hc.len, List.length_replicate])
  · exact hc.lst _ (fun i hi => by simp [kat] at hi) (fun i hi => by rw [made_none h] at hi; cases hi)
  · intro i hi
    unfold kat at hi
    rw [List.getD_eq_getElem?_getD, List.getElem?_replicate] at hi
    split at hi <;> simp at hi
theorem keys_none {ts : List Tm} (n m : Nat) : keysN ts (List.replicate n false) m = [] := by
  unfold keysN
  rw [List.filter_eq_nil_iff.2]
  · rfl
  · intro i hi
    unfold keyF kat
    rw [List.getD_eq_getElem?_getD, List.getElem?_replicate]
    split <;> simp

end Go.Proofs.YthmnlkpikgglbaaGreatDoor
/- Plain: what build makes is whole. No program in sight. -/
set_option linter.unusedVariables false
set_option linter.unusedSimpArgs false
namespace Go.Proofs.YthmnlkpikgglbaaGreatDoor
open Go.Px
/-- A table that is whole, with keys that stand for its places. -/
structure Bw (ts : List Tm) (ks : List (List Nat)) : Prop where
  wf : Wf ts
  tok : Tok ts
  good : ∀ w ∈ ks, Good ts w
theorem put_bw {ts : List Tm} {ks : List (List Nat)} {t : Tm} (h : Bw ts ks) (ht : Tmo t) (hw : Wt ts.length t) : Bw (add ts t) (ks ++ [bts ((at_ ts t : Nat) : Int)]) := by
  obtain ⟨l, h1, h2, h3, h4⟩ := pfact ht h.tok
  refine ⟨h.wf.add hw, h4, fun w hw2 => ?_⟩
  rcases List.mem_append.1 hw2 with hw2 | hw2
  · rw [h1]; exact (h.good w hw2).ext
  · rw [List.mem_singleton.1 hw2]
    exact ⟨_, (List.getElem?_eq_some_iff.1 h3).1, rfl⟩
theorem good_pl {ts : List Tm} {w : List Nat} (h : Good ts w) (hl : ts.length ≤ 1048576) : rdT ts w = ts ∧ rdI ts w < ts.length := by
  obtain ⟨i, hi, rfl⟩ := h
  obtain ⟨h1, h2⟩ := good_rd hi hl
  exact ⟨h1, by rw [h2]; exact hi⟩
theorem i64_lt {i : Nat} (h : i ≤ 1048576) : i64 ((i : Nat) : Int) := by unfold i64; omega
theorem eld1 {n i : Nat} (h : i < n) : Eld n [((i : Nat) : Int)] := fun x hx => by rw [List.mem_singleton.1 hx]; omega
theorem eld2 {n i j : Nat} (h : i < n) (h2 : j < n) : Eld n [((i : Nat) : Int), ((j : Nat) : Int)] := fun x hx => by
  simp only [List.mem_cons, List.not_mem_nil, or_false] at hx
  rcases hx with rfl | rfl <;> omega
theorem wt_atom (n k : Nat) : Wt n (atom k) := ⟨fun x hx => (List.not_mem_nil hx).elim, .inl ⟨rfl, rfl⟩⟩
theorem wt_pub {n i : Nat} (h : i < n) : Wt n (pubT ((i : Nat) : Int)) := ⟨eld1 h, .inr (.inl ⟨rfl, _, rfl⟩)⟩
theorem agT_w {ts : List Tm} (h : Wf ts) {i j : Nat} (hi : i < ts.length) (hj : j < ts.length) (hl : ts.length ≤ 1048576) : Wt ts.length (agT ts ((i : Nat) : Int) ((j : Nat) : Int)) ∧ Tmo (agT ts ((i : Nat) : Int) ((j : Nat) : Int)) := by
  have plain : Wt ts.length ⟨4, [((i : Nat) : Int), ((j : Nat) : Int)], [], 1⟩ ∧ Tmo ⟨4, [((i : Nat) : Int), ((j : Nat) : Int)], [], 1⟩ :=
    ⟨⟨eld2 hi hj, .inr (.inr (.inl ⟨rfl, rfl⟩))⟩, ag_ok (s := 0) (o := 0) rfl (fun z hz => by have := eld2 hi hj z hz; unfold i64; omega) (.inr rfl)⟩
  have h0 : (0 : Int) ≤ ((j : Nat) : Int) := Int.natCast_nonneg j
  obtain ⟨t, ht⟩ : ∃ t, ts[((j : Nat) : Int).toNat]? = some t := ⟨ts[j], by rw [Int.toNat_natCast]; exact List.getElem?_eq_getElem hj⟩
  by_cases hk : t.kind = 3 ∧ t.of.length = 1
  · rw [agT_yes h0 ht hk]
    rw [Int.toNat_natCast] at ht
    have hw := h j t ht
    have hz : 0 ≤ t.of.getD 0 0 ∧ t.of.getD 0 0 < (j : Int) := hw.eld _ (by rw [List.getD_eq_getElem?_getD, List.getElem?_eq_getElem (by omega)]; exact List.getElem_mem _)
    generalize t.of.getD 0 0 = z at *
    refine ⟨⟨fun x hx => ?_, .inr (.inr (.inl ⟨rfl, srt_len _ _⟩))⟩, ag_ok (s := 0) (o := 0) (srt_len _ _) (fun x hx => ?_) (.inl rfl)⟩
    · rcases srt_mem hx with e | e <;> rw [e] <;> omega
    · rcases srt_mem hx with e | e <;> rw [e] <;> unfold i64 <;> omega
  · rw [agT_un h0 ht hk]; exact plain
theorem pick_mem {l : List (List Nat)} (x : Nat) (h : 0 < l.length) : pick l x ∈ l := by
  unfold pick
  rw [List.getD_eq_getElem?_getD, List.getElem?_eq_getElem (Nat.mod_lt _ h)]
  exact List.getElem_mem _
theorem sub_bw {ts : List Tm} {ks ks' : List (List Nat)} (h : Bw ts ks) (hs : ∀ w ∈ ks', w ∈ ks) : Bw ts ks' := ⟨h.wf, h.tok, fun w hw => h.good w (hs w hw)⟩
/-- One term of one key more. -/
theorem one_bw {s : Ps} {ks : List (List Nat)} (h : Bw s.ts ks) {w : List Nat} (hw : Good s.ts w) (hl : s.ts.length ≤ 1048576) {f : Int → Tm} (hf : ∀ i : Nat, i < s.ts.length → Wt s.ts.length (f ((i : Nat) : Int)) ∧ Tmo (f ((i : Nat) : Int))) : Bw (one1 s w f).ts (ks ++ [oneK s w f]) := by
  obtain ⟨h1, h2⟩ := good_pl hw hl
  obtain ⟨h3, h4⟩ := hf _ h2
  unfold one1 oneK
  dsimp only
  rw [h1]
  exact put_bw h h4 h3
theorem fit_take {w : List Nat} (h : w.length = 32) : (fitN w 64).take 32 = w := by
  unfold fitN
  rw [List.take_append_of_le_length (by rw [List.length_take]; omega), List.take_take, List.take_of_length_le (by omega)]
theorem pub_bw {s : Ps} {ks : List (List Nat)} (h : Bw s.ts ks) {w : List Nat} (hw : Good s.ts w) (hl : s.ts.length ≤ 1048576) : Bw (pubS s w).ts (ks ++ [pubK s w]) := by
  obtain ⟨h1, h2⟩ := good_pl hw hl
  unfold pubS pubK
  dsimp only
  rw [h1]
  exact put_bw h (pub_ok (i64_lt (by omega))) (wt_pub h2)
theorem agr_bw {s : Ps} {ks : List (List Nat)} (h : Bw s.ts ks) {w u : List Nat} (hw : Good s.ts w) (hu : Good s.ts u) (hl : s.ts.length ≤ 1048576) : Bw (agrS s w u).ts (ks ++ [agrK s w u]) := by
  obtain ⟨h1, h2⟩ := good_pl hw hl
  obtain ⟨h3, h4⟩ := good_pl hu hl
  unfold agrS agrK
  dsimp only
  rw [h1, h3]
  obtain ⟨a, b⟩ := agT_w h.wf h2 h4 hl
  exact put_bw h b a
theorem der_bw {s : Ps} (hr : s.real = false) {ks : List (List Nat)} (h : Bw s.ts ks) {w u : List Nat} (hw : Good s.ts w) (hu : Good s.ts u) (hl : s.ts.length ≤ 1000000) : Bw (derS s w [u] [100] 2).ts (ks ++ derK s w [u] [100] 2) := by
  obtain ⟨h1, h2⟩ := good_pl hw (by omega)
  obtain ⟨h3, h4⟩ := good_pl hu (by omega)
  have e : rdAll s.ts w [u] = (s.ts, [((rdI s.ts w : Nat) : Int), ((rdI s.ts u : Nat) : Int)]) := by
    show (rdT (rdT s.ts w) u, ([] ++ [((rdI s.ts w : Nat) : Int)]) ++ [((rdI (rdT s.ts w) u : Nat) : Int)]) = _
    rw [h1, h3]; rfl
  rw [derS_f hr, derK_f hr]
  unfold derT
  rw [e]
  dsimp only
  have hE := eld2 h2 h4
  generalize hof : [((rdI s.ts w : Nat) : Int), ((rdI s.ts u : Nat) : Int)] = ofs at *
  have hlen : ofs.length = 2 := by rw [← hof]; rfl
  have hd : ∀ i, i < 100 → Tmo (drv ofs [100] i) := fun i hi => drv_ok (fun x hx => by have := hE x hx; unfold i64; omega) (by omega) ⟨by decide⟩ (by decide) (by omega)
  have hw0 : ∀ m i, s.ts.length ≤ m → Wt m (drv ofs [100] i) := fun m i hm => ⟨hE.up hm, .inr (.inr (.inr ⟨.inl rfl, by intro e; have : ofs = [] := e; rw [this] at hlen; cases hlen⟩))⟩
  have hp : ptAll s.ts ofs [100] 2 = (add (add s.ts (drv ofs [100] 0)) (drv ofs [100] 1), [bts ((at_ s.ts (drv ofs [100] 0) : Nat) : Int), bts ((at_ (add s.ts (drv ofs [100] 0)) (drv ofs [100] 1) : Nat) : Int)]) := rfl
  rw [hp]
  dsimp only
  have b1 := put_bw h (hd 0 (by decide)) (hw0 _ 0 (Nat.le_refl _))
  obtain ⟨l, hl1, _⟩ := pfact (hd 0 (by decide)) h.tok
  have b2 := put_bw b1 (hd 1 (by decide)) (hw0 _ 1 (by rw [hl1, List.length_append]; omega))
  rw [List.append_assoc] at b2
  exact b2
theorem step_bw {st : Bst} {i : Nat} (hb : Bok st i) (hi : i ≤ 1000) (h : Bw st.1.ts st.2) (k x y : Nat) (hy : y < 256) : Bw (stepB st k x y).1.ts (stepB st k x y).2 := by
  have ga := h.good _ (pick_mem x (show 0 < st.2.length by have := hb.lo; omega))
  have gb := h.good _ (pick_mem y (show 0 < st.2.length by have := hb.lo; omega))
  have h1 := hb.real
  have h2 := hb.ts
  have h3 := hb.n
  generalize hpa : pick st.2 x = a at *
  generalize hpb : pick st.2 y = b at *
  rcases (by omega : k % 7 = 0 ∨ k % 7 = 1 ∨ k % 7 = 2 ∨ k % 7 = 3 ∨ k % 7 = 4 ∨ k % 7 = 5 ∨ k % 7 = 6) with e | e | e | e | e | e | e
  · rw [sb0 e, freshS_f h1, freshK_f h1]
    exact put_bw h (atom_ok' (by omega)) (wt_atom _ _)
  · rw [sb1 e, hpa]; exact pub_bw h ga (by omega)
  · rw [sb2 e, hpa, hpb]; exact agr_bw h ga gb (by omega)
  · rw [sb3 e, hpa, hpb]; exact der_bw h1 h ga gb (by omega)
  · rw [sb4 e, hpa]
    exact one_bw h ga (by omega) fun i hi => ⟨⟨eld1 hi, .inr (.inr (.inr ⟨.inr (.inl rfl), by intro e; cases e⟩))⟩, sel_ok (i64_lt (by omega)) (by decide) (fun z hz => by rw [List.mem_singleton.1 hz]; exact hy) (by decide) (show 1 ≤ 16777216 by decide)⟩
  · have e32 : (oneK st.1 a fun z => sigT z [109]).length = 32 := by unfold oneK; exact btk_len _ (by omega)
    have hh := one_bw (f := fun z => sigT z [109]) h ga (by omega) (fun i hi => ⟨⟨eld1 hi, .inr (.inr (.inr ⟨.inr (.inr rfl), (by intro e; cases e)⟩))⟩, sig_ok (m := [109]) (i64_lt (by omega)) (by decide) (by decide)⟩)
    rw [sb5 e, hpa, fit_take e32]
    exact hh
  · rw [sb6 (by omega), hpa, hpb]
    have c1 := pub_bw h gb (by omega)
    have c2 := agr_bw c1 (w := a) (u := pubK st.1 b) (by obtain ⟨l, e1, _⟩ := pfact (t := pubT ((rdI st.1.ts b : Nat) : Int)) (pub_ok (i64_lt (by have := (good_pl gb (by omega)).2; omega))) h.tok; show Good (add (rdT st.1.ts b) _) a; rw [(good_pl gb (by omega)).1, e1]; exact ga.ext) (c1.good _ (by simp)) (by have := pub_len st.1 b; omega)
    refine sub_bw c2 fun w hw => ?_
    simp only [List.mem_append, List.mem_singleton] at hw ⊢
    rcases hw with hw | hw
    · exact .inl (.inl hw)
    · exact .inr hw
theorem b00_bw : Bw b00.1.ts b00.2 := by
  have h0 : Bw s00.ts [] := ⟨Wf.nil, Tok.nil, fun w hw => by cases hw⟩
  have h1 := put_bw h0 (atom_ok' (n := 1) (by decide)) (wt_atom _ _)
  have h2 := put_bw h1 (atom_ok' (n := 2) (by decide)) (wt_atom _ _)
  have h3 := put_bw h2 (atom_ok' (n := 3) (by decide)) (wt_atom _ _)
  exact h3
theorem bAt_bw {zs : List Nat} (hz : ∀ j, zs.getD j 0 < 256) (i : Nat) (hi : i ≤ 1000) : Bw (bAt zs i).1.ts (bAt zs i).2 := by
  induction i with
  | zero => exact b00_bw
  | succ i ih => exact step_bw (bok zs i) (by omega) (ih (by omega)) _ _ _ (hz _)

end Go.Proofs.YthmnlkpikgglbaaGreatDoor
/- Plain: what is known of places that are learnt. -/
set_option linter.unusedVariables false
set_option linter.unusedSimpArgs false
namespace Go.Proofs.YthmnlkpikgglbaaGreatDoor
open Go.Px
/-- The place for which a key stands. -/
def plo (ts : List Tm) (w : List Nat) : Nat := rdI ts w
theorem has_good {ts : List Tm} {h : List Bool} {w : List Nat} (hw : Good ts w) (hl : ts.length ≤ 1048576) : hasF ts h w = kat h (rdI ts w) := by
  obtain ⟨i, hi, rfl⟩ := hw
  unfold hasF
  rw [(good_rd hi hl).2, plc_bts, show u64 ((i : Nat) : Int) = i by unfold u64; omega, if_pos hi]
  show (false || isK h ((i : Nat) : Int)) = _
  rw [isK_nat]; rfl
theorem lrn_good {ts : List Tm} {h : List Bool} {w : List Nat} (hw : Good ts w) (hl : ts.length ≤ 1048576) : lrn (ts, h) w = (ts, cloF ts ((padB h ts.length).set (rdI ts w) true)) := by
  obtain ⟨h1, h2⟩ := good_pl hw hl
  show (rdT ts w, cloF (rdT ts w) ((padB h (rdT ts w).length).set (rdI ts w) true)) = _
  rw [h1]
/-- Who learns a key knows it, and what was known. -/
theorem lrn_knows {ts : List Tm} {h : List Bool} {w : List Nat} (hw : Good ts w) (hl : ts.length ≤ 1048576) (hh : h.length ≤ ts.length) : kat (lrn (ts, h) w).2 (rdI ts w) = true ∧ Le h (lrn (ts, h) w).2 := by
  rw [lrn_good hw hl]
  have hp := padB_len hh
  have hi := (good_pl hw hl).2
  have hc := cloF_clo (ts := ts) (h := (padB h ts.length).set (rdI ts w) true) (by rw [List.length_set]; omega)
  refine ⟨hc.sup _ (by rw [kat_set (by omega)]; simp), fun i hi2 => hc.sup _ (set_le _ (pad_le _ _ _ hi2))⟩

end Go.Proofs.YthmnlkpikgglbaaGreatDoor
/- Plain laws of pawllaw22's known: sweeps over a whole table. No program in sight. -/
set_option linter.unusedVariables false
set_option linter.unusedSimpArgs false
namespace Go.Proofs.YthmnlkpikgglbaaGreatDoor
open Go.Px
theorem pub_found {ts : List Tm} (hw : Wf ts) (hk : Tok ts) {h : List Bool} {i : Int} {j : Nat} {t : Tm} (ht : ts[j]? = some t) (h3 : t.kind = 3) (ho : t.of.getD 0 0 = i) (hj : kat h j = true) : pubF ts h i = true := by
  obtain ⟨_, hkd⟩ := hw j t ht
  rcases hkd with ⟨h1, _⟩ | ⟨_, x, rfl⟩ | ⟨h1, _⟩ | ⟨h1, _⟩
  · omega
  · have : x = i := ho
    subst this
    have := pos_of hk.tmo hk.nd ht
    unfold pubF
    rw [this]
    simp [hj]
  · omega
  · omega
theorem pub_far {ts : List Tm} (hk : Tok ts) {h : List Bool} {i : Int} (hi : i64 i) (hn : ∀ j t, ts[j]? = some t → t.kind = 3 → t.of.getD 0 0 = i → kat h j = false) : pubF ts h i = isK h i := by
  unfold pubF
  cases hp : pos ts (pubT i) with
  | none => rfl
  | some j =>
    have ht := pos_some (pub_ok hi) hk.tmo hp
    have := hn j _ ht rfl rfl
    show (kat h j || _) = _
    rw [this]; rfl
theorem set_made {ts : List Tm} {h : List Bool} {i : Nat} (hi : i < h.length) (hk : kat h i = false) : h.set i (madeF ts h i) = stF ts h i := by
  unfold stF
  rw [hk]
  cases hm : madeF ts h i with
  | true => rfl
  | false =>
    show h.set i false = h
    apply List.ext_getElem (by simp)
    intro j a b
    rw [List.getElem_set]
    split
    · rename_i e
      subst e
      unfold kat at hk
      rw [List.getD_eq_getElem?_getD, List.getElem?_eq_getElem hi] at hk
      exact hk.symm
    · rfl
theorem stF_known {ts : List Tm} {h : List Bool} {i : Nat} (hk : kat h i = true) : stF ts h i = h := by unfold stF; rw [hk]; rfl
theorem stF_unmade {ts : List Tm} {h : List Bool} {i : Nat} (hm : madeF ts h i = false) : stF ts h i = h := by unfold stF; rw [hm]; simp
theorem made_atom {ts : List Tm} {h : List Bool} {i : Nat} {t : Tm} (ht : ts[i]? = some t) (h1 : t.kind = 1) : madeF ts h i = false := by
  unfold madeF
  rw [ht]
  exact madeT_no (by rw [h1]; rfl) (by omega)
theorem made_all {ts : List Tm} (hw : Wf ts) {h : List Bool} {i : Nat} {t : Tm} (ht : ts[i]? = some t) (h1 : ¬ t.kind = 1) (h4 : ¬ (t.kind = 4 ∧ t.n = 0)) : madeF ts h i = t.of.all (isK h) := by
  unfold madeF
  rw [ht]
  obtain ⟨_, hkd⟩ := hw i t ht
  show madeT ts h t = _
  rcases hkd with ⟨e, _⟩ | ⟨e, _⟩ | ⟨e, _⟩ | ⟨e, _⟩
  · omega
  · exact madeT_mk (by rw [e]; rfl)
  · exact madeT_4b e (fun hh => h4 ⟨e, hh.1⟩)
  · exact madeT_mk (by rcases e with e | e | e <;> rw [e] <;> rfl)
theorem made_agreed {ts : List Tm} (hw : Wf ts) {h : List Bool} {i : Nat} {t : Tm} (ht : ts[i]? = some t) (h4 : t.kind = 4) (hn : t.n = 0) : t.of.length = 2 ∧ madeF ts h i = ((isK h (t.of.getD 0 0) && pubF ts h (t.of.getD 1 0)) || (isK h (t.of.getD 1 0) && pubF ts h (t.of.getD 0 0))) := by
  obtain ⟨_, hkd⟩ := hw i t ht
  have hl : t.of.length = 2 := by
    rcases hkd with ⟨e, _⟩ | ⟨e, _⟩ | ⟨_, e⟩ | ⟨e, _⟩
    · omega
    · omega
    · exact e
    · omega
  refine ⟨hl, ?_⟩
  unfold madeF
  rw [ht]
  exact madeT_4a h4 hn hl
theorem eld_at {n : Nat} {l : List Int} (h : Eld n l) {a : Nat} (ha : a < l.length) : ∃ m : Nat, l.getD a 0 = (m : Int) ∧ m < n := by
  have := h (l.getD a 0) (by rw [List.getD_eq_getElem?_getD, List.getElem?_eq_getElem ha]; exact List.getElem_mem _)
  exact ⟨(l.getD a 0).toNat, by omega, by omega⟩
theorem isK_at {h : List Bool} {i : Int} {m : Nat} (hi : i = (m : Int)) : isK h i = h.getD m false := by rw [hi, isK_nat]
theorem all_take {h : List Bool} {l : List Int} {j : Nat} (hj : j < l.length) : (l.take (j + 1)).all (isK h) = ((l.take j).all (isK h) && isK h (l.getD j 0)) := by
  have e : l.take (j + 1) = l.take j ++ [l.getD j 0] := by rw [List.take_add_one, List.getElem?_eq_getElem hj, List.getD_eq_getElem?_getD, List.getElem?_eq_getElem hj]; rfl
  rw [e, List.all_append]; simp
/-! ### What is learnt one behind the other -/
theorem clo_same {ts : List Tm} {a b : List Bool} (ha : a.length ≤ ts.length) (hb : b.length ≤ ts.length) (h1 : Le a (cloF ts b)) (h2 : Le b (cloF ts a)) : cloF ts a = cloF ts b := by
  have ca := cloF_clo ha
  have cb := cloF_clo hb
  exact kat_ext (ca.len.trans cb.len.symm) (ca.lst _ h1 cb.cld) (cb.lst _ h2 ca.cld)
theorem clo_idem {ts : List Tm} {a : List Bool} (ha : a.length ≤ ts.length) : cloF ts (cloF ts a) = cloF ts a := by
  have ca := cloF_clo ha
  have hl : (cloF ts a).length ≤ ts.length := Nat.le_of_eq ca.len
  exact clo_same hl ha (Le.refl _) ((ca.sup).trans (cloF_clo hl).sup)
theorem set_le_clo {ts : List Tm} {a b : List Bool} {i : Nat} (ha : a.length = ts.length) (hb : b.length = ts.length) (hi : i < ts.length) (e : cloF ts a = cloF ts b) : Le (a.set i true) (cloF ts (b.set i true)) := by
  have ca := cloF_clo (ts := ts) (h := a) (by omega)
  have cb := cloF_clo (ts := ts) (h := b) (by omega)
  have cs := cloF_clo (ts := ts) (h := b.set i true) (by rw [List.length_set]; omega)
  intro j hj
  rw [kat_set (by omega)] at hj
  rcases Bool.or_eq_true _ _ ▸ hj with h1 | h1
  · have h2 := ca.sup j h1
    rw [e] at h2
    exact cb.lst _ ((set_le (h := b) (i := i)).trans cs.sup) cs.cld j h2
  · have h3 := of_decide_eq_true h1
    subst h3
    exact cs.sup i (by rw [kat_set (by omega)]; simp)
theorem clo_set {ts : List Tm} {a b : List Bool} {i : Nat} (ha : a.length = ts.length) (hb : b.length = ts.length) (hi : i < ts.length) (e : cloF ts a = cloF ts b) : cloF ts (a.set i true) = cloF ts (b.set i true) :=
  clo_same (by rw [List.length_set]; omega) (by rw [List.length_set]; omega) (set_le_clo ha hb hi e) (set_le_clo hb ha hi e.symm)
theorem pad_same (ts : List Tm) (h : List Bool) (hl : h.length ≤ ts.length) : cloF ts (padB h ts.length) = cloF ts h :=
  clo_same (by rw [padB_len hl]; omega) hl (fun i hi => (cloF_clo hl).sup i (le_pad _ _ i hi)) (fun i hi => (cloF_clo (ts := ts) (h := padB h ts.length) (by rw [padB_len hl]; omega)).sup i (pad_le _ _ i hi))
/-- One key more is learnt. -/
theorem learn_more {ts : List Tm} {h hv : List Bool} {i : Nat} (hl : h.length ≤ ts.length) (hvl : hv.length = ts.length) (hi : i < ts.length) (e : cloF ts h = cloF ts hv) : cloF ts (cloF ts ((padB h ts.length).set i true)) = cloF ts (hv.set i true) := by
  rw [clo_idem (by rw [List.length_set, padB_len hl]; omega)]
  exact clo_set (padB_len hl) hvl hi ((pad_same ts h hl).trans e)
theorem known_clo {ts : List Tm} {hv : List Bool} (hl : hv.length = ts.length) : rds_ ts hv (ts.length + 1) = cloF ts hv := by
  unfold cloF
  rw [padB_id hl]
/-! ### The keys, one behind the other -/
theorem keysN_at {ts : List Tm} {h : List Bool} {i m : Nat} (hi : i < m) (hy : keyF ts h i = true) : (keysN ts h i).length < (keysN ts h m).length ∧ (keysN ts h m)[(keysN ts h i).length]? = some (bts ((i : Nat) : Int)) := by
  have key : ∀ d, (keysN ts h (i + 1 + d))[(keysN ts h i).length]? = some (bts ((i : Nat) : Int)) := by
    intro d
    induction d with
    | zero =>
      have : keysN ts h (i + 0 + 1) = keysN ts h i ++ [bts ((i : Nat) : Int)] := keysN_y hy
      rw [show i + 1 + 0 = i + 0 + 1 by omega, this]
      simp
    | succ d ih =>
      rw [show i + 1 + (d + 1) = (i + 1 + d) + 1 by omega]
      cases hq : keyF ts h (i + 1 + d) with
      | true => rw [keysN_y hq, List.getElem?_append_left (List.getElem?_eq_some_iff.1 ih).1]; exact ih
      | false => rw [keysN_n hq]; exact ih
  have := key (m - (i + 1))
  rw [show i + 1 + (m - (i + 1)) = m by omega] at this
  exact ⟨(List.getElem?_eq_some_iff.1 this).1, this⟩
theorem good_bts {ts : List Tm} {i : Nat} (hi : i < ts.length) : Good ts (bts ((i : Nat) : Int)) := ⟨i, hi, rfl⟩

end Go.Proofs.YthmnlkpikgglbaaGreatDoor
