/- Part 13 of the texts of this claim, one behind the other. -/
import Derived.Test.YthmnlkpikgglbaaGreatDoorB12
set_option linter.unusedVariables false
set_option linter.unusedSimpArgs false
set_option linter.unusedVariables false
set_option linter.unusedSimpArgs false
namespace Go.Proofs.YthmnlkpikgglbaaGreatDoor
open Go.Px
theorem pick_at {R : Mem} {vs : List Value} {ls : List (List Nat)} (h : Lst R vs ls) (x : Nat) (h0 : 0 < ls.length) : ∃ v, vs[x % ls.length]? = some v ∧ By R v (pick ls x) := by
  obtain ⟨v, h1, h2⟩ := h.at (j := x % ls.length) (Nat.mod_lt _ h0)
  refine ⟨v, h1, ?_⟩
  unfold pick
  rw [List.getD_eq_getElem?_getD, List.getElem?_eq_getElem (Nat.mod_lt _ h0)]
  exact h2
theorem nums_at {k : IntKind} {zs : List Nat} {j : Nat} (h : j < zs.length) : (nums k zs)[j]? = some (.int k ((zs.getD j 0 : Nat) : Int)) := by
  unfold nums
  rw [List.getElem?_map, List.getD_eq_getElem?_getD, List.getElem?_eq_getElem h]; rfl
theorem _root_.Go.Px.Lst.app {R : Mem} {vs us : List Value} {ls ks : List (List Nat)} (h : Lst R vs ls) (h2 : Lst R us ks) : Lst R (vs ++ us) (ls ++ ks) := ⟨by simp [h.len, h2.len], fun j w hj => by
  have hl := h.len
  by_cases hj1 : j < ls.length
  · rw [List.getElem?_append_left hj1] at hj
    obtain ⟨v, a, b⟩ := h.get j w hj
    exact ⟨v, by rw [List.getElem?_append_left (by omega)]; exact a, b⟩
  · rw [List.getElem?_append_right (by omega)] at hj
    obtain ⟨v, a, b⟩ := h2.get _ w hj
    exact ⟨v, by rw [List.getElem?_append_right (by omega), hl]; exact a, b⟩⟩
theorem by_hi {R : Mem} {v : Value} {w : List Nat} (h : By R v w) {k : Nat} (hk : k ≤ w.length) : By R (vHi k v) (w.take k) := ⟨by
  have h1 := h.rd.hiV k hk
  rw [Nat.mul_one, ← nums_take] at h1
  rw [List.length_take, Nat.min_eq_left hk]
  exact h1, fun x hx => h.lt x (List.mem_of_mem_take hx), by rw [List.length_take]; have := h.len; omega⟩
theorem seal_p (pb : Nat) (s : Ps) (hr : s.real = false) (v v2 v3 : Value) (w wa wb : List Nat) (MP A : Mem) (hP : Prm pb s MP) (hn : s.ts.length < 1048576) (hv : By A v w) (ha : By A v2 wa) (hb : By A v3 wb) (hG : Glb A) : FnX Tryz.prog 25 [.pointer (some ⟨pb, 0, none⟩), v, v2, v3] MP A fun q M J => Prm pb (one1 s w fun x => selT x wa wb) M ∧ By J q (oneK s w fun x => selT x wa wb) := by
  obtain ⟨bt, bm, h⟩ := hP.t
  exact (seal_spec pb bt bm s hr v v2 v3 w wa wb MP A h hn hv ha hb hG).mono fun q M J ⟨h1, h2⟩ => ⟨h1.p, h2⟩
theorem sign_p (pb : Nat) (s : Ps) (hr : s.real = false) (v v2 : Value) (w wm : List Nat) (MP A : Mem) (hP : Prm pb s MP) (hn : s.ts.length < 1048576) (hv : By A v w) (hm : By A v2 wm) (hG : Glb A) : FnX Tryz.prog 31 [.pointer (some ⟨pb, 0, none⟩), v, v2] MP A fun q M J => Prm pb (one1 s w fun x => sigT x wm) M ∧ By J q (fitN (oneK s w fun x => sigT x wm) 64) := by
  obtain ⟨bt, bm, h⟩ := hP.t
  exact (sign_spec pb bt bm s hr v v2 w wm MP A h hn hv hm hG).mono fun q M J ⟨h1, h2⟩ => ⟨h1.p, h2⟩

set_option maxRecDepth 100000 in
theorem build_spec (pb n : Nat) (lv : Value) (zs : List Nat) (MP A : Mem) (hP : Prm pb s00 MP) (hz : Rd A 3 lv n (nums .u8 zs)) (hzl : zs.length = n * 3) (hz8 : ∀ x ∈ zs, x < 256) (hn : n ≤ 1000) (hG : Glb A) : FnX Tryz.prog 9 [.pointer (some ⟨pb, 0, none⟩), lv] MP A fun q M J => Prm pb (bAt zs n).1 M ∧ LsV J q (bAt zs n).2 := by
  haveI := hz.cel
  have zlt : ∀ j, zs.getD j 0 < 256 := fun j => by
    rw [List.getD_eq_getElem?_getD]
    cases hj : zs[j]? with
    | none => decide
    | some x => exact hz8 x (List.mem_of_getElem? hj)
  refine FnX.enterZ (N := 122) Tryz.func9 rfl rfl rfl fun w_ => ?_
  refine XC.keep (kp 0 rfl (kp 1 rfl kn)) ?_
  refine XC.reg ?_
  refine XL.q (q_assign rfl) rfl ?_
  refine XL.fin (kp 0 rfl (kp 1 rfl kn)) ?_
  refine XC.reg ?_
  refine XL.q (q_move rfl) rfl ?_
  refine XL.lo rfl (l_call (Mc := MP) (R := _) (aS rfl a0) (by kernel_rfl) PickC.perm (fresh_spec pb s00 MP _ hP (by decide) (by decide) hG.up) rfl ?_)
  rintro v10 M10 J10 ⟨hP10, hb10⟩
  haveI := hb10.cel
  refine XL.q (q_move rfl) rfl ?_
  refine XL.lo rfl (l_call (Mc := M10) (R := _) (aS rfl a0) (by kernel_rfl) PickC.perm (fresh_spec pb (freshS s00) M10 _ hP10 (by decide) (by decide) hG.up) rfl ?_)
  rintro v12 M12 J12 ⟨hP12, hb12⟩
  haveI := hb12.cel
  refine XL.q (q_move rfl) rfl ?_
  refine XL.lo rfl (l_call (Mc := M12) (R := _) (aS rfl a0) (by kernel_rfl) PickC.perm (fresh_spec pb (freshS (freshS s00)) M12 _ hP12 (by decide) (by decide) hG.up) rfl ?_)
  rintro v14 M14 J14 ⟨hP14, hb14⟩
  haveI := hb14.cel
  refine XL.lo rfl (l_buildSlice (e := 23) (sz := 1) (z := [.slice none 0 0, .slice none 0 0, .slice none 0 0]) (by kernel_rfl) (eS rfl (eS rfl (eS rfl e0))) (bdS 0 1 rfl (by rfl) (bdS 1 1 rfl (by rfl) (bdS 2 1 rfl (by rfl) bd0))) rfl fun b15 => ?_)
  refine XL.q (q_assign rfl) rfl ?_
  refine XL.fin (kp 0 rfl (kp 1 rfl (kp 5 rfl kn))) ?_
  refine XC.seq ?_
  refine XC.reg ?_
  refine XL.q (q_assign rfl) rfl ?_
  refine XL.fin (kp 0 rfl (kp 1 rfl (kp 5 rfl (kp 6 rfl kn)))) ?_
  refine XC.block ?_
  refine XC.loop (α := Nat × List Value × Value × Mem × Mem × Mem) (fun x => [(0, .pointer (some ⟨pb, 0, none⟩)), (1, lv), (5, x.2.2.1), (6, .int .i64 ((x.1 : Nat) : Int))]) (fun x => x.2.2.2.1 ++ x.2.2.2.2.1) (fun x => x.2.2.2.2.2) (fun x => x.1 ≤ n ∧ Prm pb (bAt zs x.1).1 x.2.2.2.2.1 ∧ Sl 1 x.2.2.1 x.2.1.length x.2.1 x.2.2.2.1 ∧ Lst x.2.2.2.2.2 x.2.1 (bAt zs x.1).2) (fun x => n - x.1) ⟨0, [v10, v12, v14], .slice (some ⟨b15, 0, none⟩) 3 3, [(b15, _)], M14, J14 ++ (J12 ++ J10)⟩ ⟨Nat.zero_le _, hP14, Sl.fresh (n := 3) (sz := 1) (cs := [v10, v12, v14]) (e := 23) (by rfl) (by decide), Lst.cons (hb10.mono SubC.sub) (Lst.cons (hb12.mono SubC.sub) (Lst.cons (hb14.mono SubC.sub) Lst.nil))⟩ (kp 0 rfl (kp 1 rfl (kp 5 rfl (kp 6 rfl kn)))) (Fit.pick (B := [_]) PickC.perm (Fit.last PickC.perm)) (fun x hx => SubC.sub x hx) ?_
  rintro ⟨i, vs, v5, B5, MP, J5⟩ ⟨hi, hP, hs5, hlv⟩
  dsimp only at hi hP hs5 hlv ⊢
  haveI := hs5.cel
  obtain ⟨hk1, hk2, hk3, hk4, hk5⟩ := bok zs i
  have hvl := hlv.len
  refine XC.seq ?_
  refine XC.reg ?_
  refine XL.q (q_move rfl) rfl ?_
  refine XL.q (q_move rfl) rfl ?_
  refine XL.q (q_lenV2 (sz := 3) rfl (by kernel_rfl) hz) rfl ?_
  refine XL.q (q_bin rfl rfl rfl) rfl ?_
  refine XL.fin (kp 0 rfl (kp 1 rfl (kp 5 rfl (kp 6 rfl (kp 19 rfl kn))))) ?_
  refine XC.cond rfl (fun hc => ?_) (fun hc => ?_)
  ·
    have hlt : i < n := by simp at hc; omega
    have hnx : bAt zs (i + 1) = stepB (bAt zs i) (zs.getD (i * 3) 0) (zs.getD (i * 3 + 1) 0) (zs.getD (i * 3 + 2) 0) := rfl
    obtain ⟨k0, hk0⟩ : ∃ k, k = zs.getD (i * 3) 0 := ⟨_, rfl⟩
    obtain ⟨x0, hx0⟩ : ∃ k, k = zs.getD (i * 3 + 1) 0 := ⟨_, rfl⟩
    obtain ⟨y0, hy0⟩ : ∃ k, k = zs.getD (i * 3 + 2) 0 := ⟨_, rfl⟩
    rw [← hk0, ← hx0, ← hy0] at hnx
    have hzk : k0 < 256 := hk0 ▸ zlt _
    have hzx : x0 < 256 := hx0 ▸ zlt _
    have hzy : y0 < 256 := hy0 ▸ zlt _
    obtain ⟨va, hva, hba⟩ := pick_at hlv x0 (by omega)
    obtain ⟨vb, hvb, hbb⟩ := pick_at hlv y0 (by omega)
    haveI := hba.cel
    haveI := hbb.cel
    rw [← hvl] at hva hvb
    refine XC.skip ?_
    refine nx (kp 0 rfl (kp 1 rfl (kp 5 rfl (kp 6 rfl kn)))) ?_
    refine XC.seq ?_
    refine XC.block ?_
    refine XC.reg ?_
    refine XL.q (q_move rfl) rfl ?_
    refine XL.q (q_move rfl) rfl ?_
    refine XL.q (q_move rfl) rfl ?_
    refine XL.q (q_atV2 (sz := 3) rfl rfl (by kernel_rfl) rfl hz hlt) rfl ?_
    refine XL.q (q_fldV (off := 1) rfl hz hlt (by kernel_rfl)) rfl ?_
    refine XL.q (q_ldVF (u := .int .u8 ((x0 : Nat) : Int)) rfl (hz.mono SubC.sub) (by omega) (by kernel_rfl) (by rw [hx0]; exact nums_at (by omega))) rfl ?_
    refine XL.q (q_convN x0 rfl (by kernel_rfl) (wrapI (by omega))) rfl ?_
    refine XL.q (q_move rfl) rfl ?_
    refine XL.q (q_lenV2 (sz := 1) rfl (by kernel_rfl) (hs5.rd (R := B5) fun _ h => h)) rfl ?_
    refine XL.q (q_remI (a := x0) (b := vs.length) rfl rfl rfl rfl (by omega)) rfl ?_
    refine XL.q (q_atV2 (sz := 1) (a := x0 % vs.length) rfl rfl (by kernel_rfl) rfl (hs5.rd (R := B5) fun _ h => h) (Nat.mod_lt _ (by omega))) rfl ?_
    refine XL.q (q_ldV (j := x0 % vs.length) (u := va) (hs5.rd SubC.sub) rfl (by kernel_rfl) hva) rfl ?_
    refine XL.q (q_assign rfl) rfl ?_
    refine XL.fin (kp 0 rfl (kp 1 rfl (kp 5 rfl (kp 6 rfl (kp 7 rfl kn))))) ?_
    refine XC.reg ?_
    refine XL.q (q_move rfl) rfl ?_
    refine XL.q (q_move rfl) rfl ?_
    refine XL.q (q_move rfl) rfl ?_
    refine XL.q (q_atV2 (sz := 3) rfl rfl (by kernel_rfl) rfl hz hlt) rfl ?_
    refine XL.q (q_fldV (off := 2) rfl hz hlt (by kernel_rfl)) rfl ?_
    refine XL.q (q_ldVF (u := .int .u8 ((y0 : Nat) : Int)) rfl (hz.mono SubC.sub) (by omega) (by kernel_rfl) (by rw [hy0]; exact nums_at (by omega))) rfl ?_
    refine XL.q (q_convN y0 rfl (by kernel_rfl) (wrapI (by omega))) rfl ?_
    refine XL.q (q_move rfl) rfl ?_
    refine XL.q (q_lenV2 (sz := 1) rfl (by kernel_rfl) (hs5.rd (R := B5) fun _ h => h)) rfl ?_
    refine XL.q (q_remI (a := y0) (b := vs.length) rfl rfl rfl rfl (by omega)) rfl ?_
    refine XL.q (q_atV2 (sz := 1) (a := y0 % vs.length) rfl rfl (by kernel_rfl) rfl (hs5.rd (R := B5) fun _ h => h) (Nat.mod_lt _ (by omega))) rfl ?_
    refine XL.q (q_ldV (j := y0 % vs.length) (u := vb) (hs5.rd SubC.sub) rfl (by kernel_rfl) hvb) rfl ?_
    refine XL.q (q_assign rfl) rfl ?_
    refine XL.fin (kp 0 rfl (kp 1 rfl (kp 5 rfl (kp 6 rfl (kp 7 rfl (kp 8 rfl kn)))))) ?_
    refine XC.reg ?_
    refine XL.q (q_move rfl) rfl ?_
    refine XL.q (q_move rfl) rfl ?_
    refine XL.q (q_atV2 (sz := 3) rfl rfl (by kernel_rfl) rfl hz hlt) rfl ?_
    refine XL.q (q_fldV (off := 0) rfl hz hlt (by kernel_rfl)) rfl ?_
    refine XL.q (q_ldVF (u := .int .u8 ((k0 : Nat) : Int)) rfl (hz.mono SubC.sub) (by omega) (by kernel_rfl) (by rw [hk0]; exact nums_at (by omega))) rfl ?_
    refine XL.q (q_remI (a := k0) (b := 7) rfl rfl rfl rfl (by decide)) rfl ?_
    refine XL.fin (kp 0 rfl (kp 1 rfl (kp 5 rfl (kp 6 rfl (kp 7 rfl (kp 8 rfl (kp 51 rfl kn))))))) ?_
    refine XC.block ?_
    refine XC.reg ?_
    refine XL.q (q_bin rfl rfl rfl) rfl ?_
    refine XL.q (q_assign rfl) rfl ?_
    refine XL.fin (kp 0 rfl (kp 1 rfl (kp 5 rfl (kp 6 rfl (kp 7 rfl (kp 8 rfl (kp 51 rfl (kp 61 rfl kn)))))))) ?_
    refine XC.cond rfl (fun hc => ?_) (fun hc => ?_)
    ·
      have ek0 : k0 % 7 = 0 := by simp at hc; omega
      refine XC.reg1 ?_
      refine XL.q (q_move rfl) rfl ?_
      refine XL.q (q_move rfl) rfl ?_
      refine XL.lo rfl (l_call (Mc := MP) (R := _) (aS rfl (a0)) (by kernel_rfl) PickC.perm (fresh_spec pb (bAt zs i).1 MP _ hP (by omega) (by omega) hG.up) rfl ?_)
      rintro v65 M65 J65 ⟨hP65, hb65⟩
      haveI := hb65.cel
      refine XL.lo rfl (l_buildSlice (e := 23) (sz := 1) (z := [.slice none 0 0]) (by kernel_rfl) (eS rfl e0) (bdS 0 1 rfl (by rfl) bd0) rfl fun b66 => ?_)
      refine XL.lo rfl (l_append2 (e := 23) (sz := 1) (by_ := 24) rfl rfl (by kernel_rfl) rfl hs5 (Rd.whole (n := 1) At.mem (by rfl)) (by intro c hc; rw [List.mem_singleton.1 hc]; exact hb65.one) PickC.perm (by unfold maxLen; omega) (by omega) rfl fun v67 B67 hs67 => ?_)
      refine XL.q (q_assign rfl) rfl ?_
      refine XL.nil ?_
      refine nb ?_
      refine nb ?_
      refine nx (kp 0 rfl (kp 1 rfl (kp 5 rfl (kp 6 rfl kn)))) ?_
      refine XC.reg1 ?_
      refine XL.q (q_move rfl) rfl ?_
      refine XL.q (q_addI (b := 1) rfl rfl rfl rfl (by omega)) rfl ?_
      refine XL.q (q_assign rfl) rfl ?_
      refine XL.nil ?_
      exact rn ⟨i + 1, vs ++ [v65], v67, B67, M65, J65 ++ J5⟩ ⟨by dsimp only; omega, by dsimp only; rw [hnx, sb0 ek0]; exact hP65, by dsimp only; exact sl_eq hs67 (by simp) rfl, by dsimp only; rw [hnx, sb0 ek0]; exact (hlv.mono SubC.sub).snoc (hb65.mono SubC.sub)⟩ (by dsimp only; omega) (kp 0 rfl (kp 1 rfl (kp 5 rfl (kp 6 rfl kn)))) (Fit.pick PickC.perm (Fit.last PickC.perm)) (fun x hx => SubC.sub x hx)
    ·
      have ek0 : ¬ k0 % 7 = 0 := by simp at hc; omega
      refine XC.reg ?_
      refine XL.q (q_bin rfl rfl rfl) rfl ?_
      refine XL.q (q_assign rfl) rfl ?_
      refine XL.fin (kp 0 rfl (kp 1 rfl (kp 5 rfl (kp 6 rfl (kp 7 rfl (kp 8 rfl (kp 51 rfl (kp 68 rfl kn)))))))) ?_
      refine XC.cond rfl (fun hc => ?_) (fun hc => ?_)
      ·
        have ek1 : k0 % 7 = 1 := by simp at hc; omega
        refine XC.reg1 ?_
        refine XL.q (q_move rfl) rfl ?_
        refine XL.q (q_move rfl) rfl ?_
        refine XL.q (q_move rfl) rfl ?_
        refine XL.lo rfl (l_call (Mc := MP) (R := _) (aS rfl (aS rfl (a0))) (by kernel_rfl) PickC.perm (public_p pb (bAt zs i).1 hk1 va _ MP _ hP (by omega) (hba.mono SubC.sub) hG.up) rfl ?_)
        rintro v73 M73 J73 ⟨hP73, hb73⟩
        haveI := hb73.cel
        refine XL.lo rfl (l_buildSlice (e := 23) (sz := 1) (z := [.slice none 0 0]) (by kernel_rfl) (eS rfl e0) (bdS 0 1 rfl (by rfl) bd0) rfl fun b74 => ?_)
        refine XL.lo rfl (l_append2 (e := 23) (sz := 1) (by_ := 24) rfl rfl (by kernel_rfl) rfl hs5 (Rd.whole (n := 1) At.mem (by rfl)) (by intro c hc; rw [List.mem_singleton.1 hc]; exact hb73.one) PickC.perm (by unfold maxLen; omega) (by omega) rfl fun v75 B75 hs75 => ?_)
        refine XL.q (q_assign rfl) rfl ?_
        refine XL.nil ?_
        refine nb ?_
        refine nb ?_
        refine nx (kp 0 rfl (kp 1 rfl (kp 5 rfl (kp 6 rfl kn)))) ?_
        refine XC.reg1 ?_
        refine XL.q (q_move rfl) rfl ?_
        refine XL.q (q_addI (b := 1) rfl rfl rfl rfl (by omega)) rfl ?_
        refine XL.q (q_assign rfl) rfl ?_
        refine XL.nil ?_
        exact rn ⟨i + 1, vs ++ [v73], v75, B75, M73, J73 ++ J5⟩ ⟨by dsimp only; omega, by dsimp only; rw [hnx, sb1 ek1]; exact hP73, by dsimp only; exact sl_eq hs75 (by simp) rfl, by dsimp only; rw [hnx, sb1 ek1]; exact (hlv.mono SubC.sub).snoc (hb73.mono SubC.sub)⟩ (by dsimp only; omega) (kp 0 rfl (kp 1 rfl (kp 5 rfl (kp 6 rfl kn)))) (Fit.pick PickC.perm (Fit.last PickC.perm)) (fun x hx => SubC.sub x hx)
      ·
        have ek1 : ¬ k0 % 7 = 1 := by simp at hc; omega
        refine XC.reg ?_
        refine XL.q (q_bin rfl rfl rfl) rfl ?_
        refine XL.q (q_assign rfl) rfl ?_
        refine XL.fin (kp 0 rfl (kp 1 rfl (kp 5 rfl (kp 6 rfl (kp 7 rfl (kp 8 rfl (kp 51 rfl (kp 76 rfl kn)))))))) ?_
        refine XC.cond rfl (fun hc => ?_) (fun hc => ?_)
        ·
          have ek2 : k0 % 7 = 2 := by simp at hc; omega
          refine XC.reg1 ?_
          refine XL.q (q_move rfl) rfl ?_
          refine XL.q (q_move rfl) rfl ?_
          refine XL.q (q_move rfl) rfl ?_
          refine XL.q (q_move rfl) rfl ?_
          refine XL.lo rfl (l_call (Mc := MP) (R := _) (aS rfl (aS rfl (aS rfl (a0)))) (by kernel_rfl) PickC.perm (pagree_p pb (bAt zs i).1 hk1 va vb _ _ MP _ hP (by omega) (hba.mono SubC.sub) (hbb.mono SubC.sub) hG.up) rfl ?_)
          rintro v82 M82 J82 ⟨hP82, hb82⟩
          haveI := hb82.cel
          refine XL.lo rfl (l_buildSlice (e := 23) (sz := 1) (z := [.slice none 0 0]) (by kernel_rfl) (eS rfl e0) (bdS 0 1 rfl (by rfl) bd0) rfl fun b83 => ?_)
          refine XL.lo rfl (l_append2 (e := 23) (sz := 1) (by_ := 24) rfl rfl (by kernel_rfl) rfl hs5 (Rd.whole (n := 1) At.mem (by rfl)) (by intro c hc; rw [List.mem_singleton.1 hc]; exact hb82.one) PickC.perm (by unfold maxLen; omega) (by omega) rfl fun v84 B84 hs84 => ?_)
          refine XL.q (q_assign rfl) rfl ?_
          refine XL.nil ?_
          refine nb ?_
          refine nb ?_
          refine nx (kp 0 rfl (kp 1 rfl (kp 5 rfl (kp 6 rfl kn)))) ?_
          refine XC.reg1 ?_
          refine XL.q (q_move rfl) rfl ?_
          refine XL.q (q_addI (b := 1) rfl rfl rfl rfl (by omega)) rfl ?_
          refine XL.q (q_assign rfl) rfl ?_
          refine XL.nil ?_
          exact rn ⟨i + 1, vs ++ [v82], v84, B84, M82, J82 ++ J5⟩ ⟨by dsimp only; omega, by dsimp only; rw [hnx, sb2 ek2]; exact hP82, by dsimp only; exact sl_eq hs84 (by simp) rfl, by dsimp only; rw [hnx, sb2 ek2]; exact (hlv.mono SubC.sub).snoc (hb82.mono SubC.sub)⟩ (by dsimp only; omega) (kp 0 rfl (kp 1 rfl (kp 5 rfl (kp 6 rfl kn)))) (Fit.pick PickC.perm (Fit.last PickC.perm)) (fun x hx => SubC.sub x hx)
        ·
          have ek2 : ¬ k0 % 7 = 2 := by simp at hc; omega
          refine XC.reg ?_
          refine XL.q (q_bin rfl rfl rfl) rfl ?_
          refine XL.q (q_assign rfl) rfl ?_
          refine XL.fin (kp 0 rfl (kp 1 rfl (kp 5 rfl (kp 6 rfl (kp 7 rfl (kp 8 rfl (kp 51 rfl (kp 85 rfl kn)))))))) ?_
          refine XC.cond rfl (fun hc => ?_) (fun hc => ?_)
          ·
            have ek3 : k0 % 7 = 3 := by simp at hc; omega
            refine XC.reg1 ?_
            refine XL.q (q_move rfl) rfl ?_
            refine XL.q (q_move rfl) rfl ?_
            refine XL.q (q_move rfl) rfl ?_
            refine XL.q (q_move rfl) rfl ?_
            refine XL.lo rfl (l_buildSlice (e := 23) (sz := 1) (z := [.slice none 0 0]) (by kernel_rfl) (eS rfl e0) (bdS 0 1 rfl (by rfl) bd0) rfl fun b91 => ?_)
            refine XL.lo rfl (l_call (Mc := MP) (R := _) (aS rfl (aS rfl (aS rfl (aS rfl (aS rfl a0))))) (by kernel_rfl) PickC.perm (derive_spec pb (bAt zs i).1 va _ _ [100] [pick (bAt zs i).2 y0] 2 MP _ hP (hba.mono SubC.sub) ⟨_, Rd.whole (n := 1) At.mem (by rfl), Lst.cons (hbb.mono SubC.sub) Lst.nil⟩ (show 1 ≤ 1000 by decide) ⟨by decide⟩ (by decide) (by decide) (by decide) (by omega) hG.up) rfl ?_)
            rintro v92 M92 J92 ⟨hP92, hl92⟩
            obtain ⟨vs92, hr92, hls92⟩ := hl92.ex
            haveI := hr92.cel
            have hkl := derK_len2 (bAt zs i).1 hk1 (pick (bAt zs i).2 x0) [pick (bAt zs i).2 y0] [100] 2
            have hll92 := hls92.len
            rw [hkl] at hr92
            refine XL.lo rfl (l_append2 (e := 23) (sz := 1) (by_ := 24) rfl rfl (by kernel_rfl) rfl hs5 (hr92.mono SubC.sub) (hls92.one) PickC.perm (by unfold maxLen; omega) (by omega) rfl fun v93 B93 hs93 => ?_)
            refine XL.q (q_assign rfl) rfl ?_
            refine XL.nil ?_
            refine nb ?_
            refine nb ?_
            refine nx (kp 0 rfl (kp 1 rfl (kp 5 rfl (kp 6 rfl kn)))) ?_
            refine XC.reg1 ?_
            refine XL.q (q_move rfl) rfl ?_
            refine XL.q (q_addI (b := 1) rfl rfl rfl rfl (by omega)) rfl ?_
            refine XL.q (q_assign rfl) rfl ?_
            refine XL.nil ?_
            exact rn ⟨i + 1, vs ++ vs92, v93, B93, M92, J92 ++ J5⟩ ⟨by dsimp only; omega, by dsimp only; rw [hnx, sb3 ek3]; exact hP92, by dsimp only; exact sl_eq hs93 (by simp; omega) rfl, by dsimp only; rw [hnx, sb3 ek3]; exact (hlv.mono SubC.sub).app (hls92.mono SubC.sub)⟩ (by dsimp only; omega) (kp 0 rfl (kp 1 rfl (kp 5 rfl (kp 6 rfl kn)))) (Fit.pick PickC.perm (Fit.last PickC.perm)) (fun x hx => SubC.sub x hx)
          ·
            have ek3 : ¬ k0 % 7 = 3 := by simp at hc; omega
            refine XC.reg ?_
            refine XL.q (q_bin rfl rfl rfl) rfl ?_
            refine XL.q (q_assign rfl) rfl ?_
            refine XL.fin (kp 0 rfl (kp 1 rfl (kp 5 rfl (kp 6 rfl (kp 7 rfl (kp 8 rfl (kp 51 rfl (kp 94 rfl kn)))))))) ?_
            refine XC.cond rfl (fun hc => ?_) (fun hc => ?_)
            ·
              have ek4 : k0 % 7 = 4 := by simp at hc; omega
              refine XC.reg1 ?_
              refine XL.q (q_move rfl) rfl ?_
              refine XL.q (q_move rfl) rfl ?_
              refine XL.q (q_move rfl) rfl ?_
              refine XL.lo rfl (l_buildSlice (e := 5) (sz := 1) (z := [.int .u8 0]) (by kernel_rfl) (eS rfl e0) (bdS 0 1 rfl (by rfl) bd0) rfl fun b99 => ?_)
              refine XL.lo rfl (l_mark rfl (by kernel_rfl) UpC.upd rfl ?_)
              refine XL.q (q_move rfl) rfl ?_
              refine XL.q (q_move rfl) rfl ?_
              refine XL.q (q_atV2 (sz := 3) rfl rfl (by kernel_rfl) rfl hz hlt) rfl ?_
              refine XL.q (q_fldV (off := 2) rfl hz hlt (by kernel_rfl)) rfl ?_
              refine XL.q (q_ldVF (u := .int .u8 ((y0 : Nat) : Int)) rfl (hz.mono SubC.sub) (by omega) (by kernel_rfl) (by rw [hy0]; exact nums_at (by omega))) rfl ?_
              refine XL.lo rfl (l_buildSlice (e := 5) (sz := 1) (z := [.int .u8 0]) (by kernel_rfl) (eS rfl e0) (bdS 0 1 rfl (by rfl) bd0) rfl fun b106 => ?_)
              refine XL.lo rfl (l_call (Mc := MP) (R := _) (aS rfl (aS rfl (aS rfl (aS rfl (a0))))) (by kernel_rfl) PickC.perm (seal_p pb (bAt zs i).1 hk1 va _ _ _ [119] [y0] MP _ hP (by omega) (hba.mono SubC.sub) ⟨Rd.whole (n := 1) At.mem (by rfl), by decide, by decide⟩ ⟨Rd.whole (n := 1) At.mem (by rfl), (fun x hx => by rw [List.mem_singleton.1 hx]; exact hzy), show 1 ≤ 16777216 by decide⟩ hG.up) rfl ?_)
              rintro v107 M107 J107 ⟨hP107, hb107⟩
              haveI := hb107.cel
              refine XL.lo rfl (l_buildSlice (e := 23) (sz := 1) (z := [.slice none 0 0]) (by kernel_rfl) (eS rfl e0) (bdS 0 1 rfl (by rfl) bd0) rfl fun b108 => ?_)
              refine XL.lo rfl (l_append2 (e := 23) (sz := 1) (by_ := 24) rfl rfl (by kernel_rfl) rfl hs5 (Rd.whole (n := 1) At.mem (by rfl)) (by intro c hc; rw [List.mem_singleton.1 hc]; exact hb107.one) PickC.perm (by unfold maxLen; omega) (by omega) rfl fun v109 B109 hs109 => ?_)
              refine XL.q (q_assign rfl) rfl ?_
              refine XL.nil ?_
              refine nb ?_
              refine nb ?_
              refine nx (kp 0 rfl (kp 1 rfl (kp 5 rfl (kp 6 rfl kn)))) ?_
              refine XC.reg1 ?_
              refine XL.q (q_move rfl) rfl ?_
              refine XL.q (q_addI (b := 1) rfl rfl rfl rfl (by omega)) rfl ?_
              refine XL.q (q_assign rfl) rfl ?_
              refine XL.nil ?_
              exact rn ⟨i + 1, vs ++ [v107], v109, B109, M107, J107 ++ J5⟩ ⟨by dsimp only; omega, by dsimp only; rw [hnx, sb4 ek4]; exact hP107, by dsimp only; exact sl_eq hs109 (by simp) rfl, by dsimp only; rw [hnx, sb4 ek4]; exact (hlv.mono SubC.sub).snoc (hb107.mono SubC.sub)⟩ (by dsimp only; omega) (kp 0 rfl (kp 1 rfl (kp 5 rfl (kp 6 rfl kn)))) (Fit.pick PickC.perm (Fit.last PickC.perm)) (fun x hx => SubC.sub x hx)
            ·
              have ek4 : ¬ k0 % 7 = 4 := by simp at hc; omega
              refine XC.reg ?_
              refine XL.q (q_bin rfl rfl rfl) rfl ?_
              refine XL.q (q_assign rfl) rfl ?_
              refine XL.fin (kp 0 rfl (kp 1 rfl (kp 5 rfl (kp 6 rfl (kp 7 rfl (kp 8 rfl (kp 110 rfl kn))))))) ?_
              refine XC.cond rfl (fun hc => ?_) (fun hc => ?_)
              ·
                have ek5 : k0 % 7 = 5 := by simp at hc; omega
                refine XC.reg1 ?_
                refine XL.q (q_move rfl) rfl ?_
                refine XL.q (q_move rfl) rfl ?_
                refine XL.q (q_move rfl) rfl ?_
                refine XL.lo rfl (l_buildSlice (e := 5) (sz := 1) (z := [.int .u8 0]) (by kernel_rfl) (eS rfl e0) (bdS 0 1 rfl (by rfl) bd0) rfl fun b115 => ?_)
                refine XL.lo rfl (l_mark rfl (by kernel_rfl) UpC.upd rfl ?_)
                refine XL.lo rfl (l_call (Mc := MP) (R := _) (aS rfl (aS rfl (aS rfl (a0)))) (by kernel_rfl) PickC.perm (sign_p pb (bAt zs i).1 hk1 va _ _ [109] MP _ hP (by omega) (hba.mono SubC.sub) ⟨Rd.whole (n := 1) At.mem (by rfl), by decide, by decide⟩ hG.up) rfl ?_)
                rintro v117 M117 J117 ⟨hP117, hb117⟩
                haveI := hb117.cel
                refine XL.q (q_hiV2 (sz := 1) (a := 32) rfl rfl (by kernel_rfl) rfl hb117.rd (by rw [fitN_len]; decide)) rfl ?_
                have hb118 := by_hi hb117 (k := 32) (by rw [fitN_len]; decide)
                generalize vHi 32 v117 = v118 at *
                haveI := hb118.cel
                refine XL.lo rfl (l_buildSlice (e := 23) (sz := 1) (z := [.slice none 0 0]) (by kernel_rfl) (eS rfl e0) (bdS 0 1 rfl (by rfl) bd0) rfl fun b119 => ?_)
                refine XL.lo rfl (l_append2 (e := 23) (sz := 1) (by_ := 24) rfl rfl (by kernel_rfl) rfl hs5 (Rd.whole (n := 1) At.mem (by rfl)) (by intro c hc; rw [List.mem_singleton.1 hc]; exact hb118.one) PickC.perm (by unfold maxLen; omega) (by omega) rfl fun v120 B120 hs120 => ?_)
                refine XL.q (q_assign rfl) rfl ?_
                refine XL.nil ?_
                refine nb ?_
                refine nb ?_
                refine nx (kp 0 rfl (kp 1 rfl (kp 5 rfl (kp 6 rfl kn)))) ?_
                refine XC.reg1 ?_
                refine XL.q (q_move rfl) rfl ?_
                refine XL.q (q_addI (b := 1) rfl rfl rfl rfl (by omega)) rfl ?_
                refine XL.q (q_assign rfl) rfl ?_
                refine XL.nil ?_
                exact rn ⟨i + 1, vs ++ [v118], v120, B120, M117, J117 ++ J5⟩ ⟨by dsimp only; omega, by dsimp only; rw [hnx, sb5 ek5]; exact hP117, by dsimp only; exact sl_eq hs120 (by simp) rfl, by dsimp only; rw [hnx, sb5 ek5]; exact (hlv.mono SubC.sub).snoc (hb118.mono SubC.sub)⟩ (by dsimp only; omega) (kp 0 rfl (kp 1 rfl (kp 5 rfl (kp 6 rfl kn)))) (Fit.pick PickC.perm (Fit.last PickC.perm)) (fun x hx => SubC.sub x hx)
              ·
                have ek5 : ¬ k0 % 7 = 5 := by simp at hc; omega
                refine XC.reg1 ?_
                refine XL.q (q_move rfl) rfl ?_
                refine XL.q (q_move rfl) rfl ?_
                refine XL.q (q_move rfl) rfl ?_
                refine XL.q (q_move rfl) rfl ?_
                refine XL.q (q_move rfl) rfl ?_
                refine XL.lo rfl (l_call (Mc := MP) (R := _) (aS rfl (aS rfl (a0))) (by kernel_rfl) PickC.perm (public_p pb (bAt zs i).1 hk1 vb _ MP _ hP (by omega) (hbb.mono SubC.sub) hG.up) rfl ?_)
                rintro v57 M57 J57 ⟨hP57, hb57⟩
                haveI := hb57.cel
                have hpn := pub_len (bAt zs i).1 (pick (bAt zs i).2 y0)
                refine XL.lo rfl (l_call (Mc := M57) (R := _) (aS rfl (aS rfl (aS rfl (a0)))) (by kernel_rfl) PickC.perm (pagree_p pb (pubS (bAt zs i).1 (pick (bAt zs i).2 y0)) hk1 va v57 _ _ M57 _ hP57 (by omega) (hba.mono SubC.sub) (hb57.mono SubC.sub) hG.up) rfl ?_)
                rintro v58 M58 J58 ⟨hP58, hb58⟩
                haveI := hb58.cel
                refine XL.lo rfl (l_buildSlice (e := 23) (sz := 1) (z := [.slice none 0 0]) (by kernel_rfl) (eS rfl e0) (bdS 0 1 rfl (by rfl) bd0) rfl fun b59 => ?_)
                refine XL.lo rfl (l_append2 (e := 23) (sz := 1) (by_ := 24) rfl rfl (by kernel_rfl) rfl hs5 (Rd.whole (n := 1) At.mem (by rfl)) (by intro c hc; rw [List.mem_singleton.1 hc]; exact hb58.one) PickC.perm (by unfold maxLen; omega) (by omega) rfl fun v60 B60 hs60 => ?_)
                refine XL.q (q_assign rfl) rfl ?_
                refine XL.nil ?_
                refine nb ?_
                refine nb ?_
                refine nx (kp 0 rfl (kp 1 rfl (kp 5 rfl (kp 6 rfl kn)))) ?_
                refine XC.reg1 ?_
                refine XL.q (q_move rfl) rfl ?_
                refine XL.q (q_addI (b := 1) rfl rfl rfl rfl (by omega)) rfl ?_
                refine XL.q (q_assign rfl) rfl ?_
                refine XL.nil ?_
                exact rn ⟨i + 1, vs ++ [v58], v60, B60, M58, J58 ++ (J57 ++ J5)⟩ ⟨by dsimp only; omega, by dsimp only; rw [hnx, sb6 ⟨ek0, ek1, ek2, ek3, ek4, ek5⟩]; exact hP58, by dsimp only; exact sl_eq hs60 (by simp) rfl, by dsimp only; rw [hnx, sb6 ⟨ek0, ek1, ek2, ek3, ek4, ek5⟩]; exact (hlv.mono SubC.sub).snoc (hb58.mono SubC.sub)⟩ (by dsimp only; omega) (kp 0 rfl (kp 1 rfl (kp 5 rfl (kp 6 rfl kn)))) (Fit.pick PickC.perm (Fit.last PickC.perm)) (fun x hx => SubC.sub x hx)
  ·
    have hge : i = n := by simp at hc; omega
    subst hge
    refine XC.exit ?_
    refine te ?_
    refine re ?_
    refine be rfl ?_
    refine nx (kp 5 rfl kn) ?_
    refine XC.reg ?_
    refine XL.q (q_move rfl) rfl ?_
    refine XL.q (q_assign rfl) rfl ?_
    refine XL.fin (kp 4 rfl kn) ?_
    refine XC.ret ?_
    exact ⟨_, MP, B5, res1 rfl rfl, Fit.pick PickC.perm (Fit.last PickC.perm), hP, vs, by rw [← hvl]; exact hs5.rd SubC.sub, hlv.mono SubC.sub⟩

end Go.Proofs.YthmnlkpikgglbaaGreatDoor
/- The walk of closure's Keys. -/
set_option linter.unusedVariables false
set_option linter.unusedSimpArgs false
namespace Go.Proofs.YthmnlkpikgglbaaGreatDoor
open Go.Px
def secK (k : Nat) : Bool := k == 1 || k == 4 || k == 5
def keyF (ts : List Tm) (h : List Bool) (i : Nat) : Bool := kat h i && (match ts[i]? with
  | some t => secK t.kind
  | none => false)
def keysN (ts : List Tm) (h : List Bool) (n : Nat) : List (List Nat) := ((List.range n).filter (keyF ts h)).map fun i => bts ((i : Nat) : Int)
theorem keysN_y {ts : List Tm} {h : List Bool} {n : Nat} (hk : keyF ts h n = true) : keysN ts h (n + 1) = keysN ts h n ++ [bts ((n : Nat) : Int)] := by
  unfold keysN
  rw [List.range_succ, List.filter_append, List.map_append]
  simp [hk]
theorem keysN_n {ts : List Tm} {h : List Bool} {n : Nat} (hk : keyF ts h n = false) : keysN ts h (n + 1) = keysN ts h n := by
  unfold keysN
  rw [List.range_succ, List.filter_append, List.map_append]
  simp [hk]
theorem keysN_len (ts : List Tm) (h : List Bool) (n : Nat) : (keysN ts h n).length ≤ n := by
  unfold keysN
  rw [List.length_map]
  exact Nat.le_trans (List.length_filter_le _ _) (by simp)

set_option maxRecDepth 100000 in
theorem keys_spec (kb bt bm : Nat) (ts : List Tm) (h : List Bool) (A : Mem) (hK : KnR kb bt h A) (hT0 : TbR bt bm ts A) (hl : h.length ≤ ts.length) (hn : ts.length ≤ 1048576) : FnX Tryz.prog 20 [.pointer (some ⟨kb, 0, none⟩)] [] A fun q M J => M = [] ∧ LsV J q (keysN ts h h.length) := by
  obtain ⟨v, hkb, hrd⟩ := hK.ex
  haveI := hrd.cel
  obtain ⟨MT, hT, hsub⟩ := hT0.ex
  refine FnX.enterZ (N := 53) Tryz.func20 rfl rfl rfl fun w_ => ?_
  refine XC.keep (kp 0 rfl kn) ?_
  refine XC.reg ?_
  refine XL.q (q_assign rfl) rfl ?_
  refine XL.fin (kp 0 rfl kn) ?_
  refine XC.reg ?_
  refine XL.q (q_assign rfl) rfl ?_
  refine XL.fin (kp 0 rfl (kp 3 rfl kn)) ?_
  refine XC.seq ?_
  refine XC.reg ?_
  refine XL.q (q_move rfl) rfl ?_
  refine XL.q (q_ptrEqNil (e := 79) rfl rfl (by kernel_rfl)) rfl ?_
  refine XL.fin (kp 0 rfl (kp 3 rfl (kp 9 rfl kn))) ?_
  refine XC.condF rfl ?_
  refine XC.skip ?_
  refine nx (kp 0 rfl (kp 3 rfl kn)) ?_
  refine XC.seq ?_
  refine XC.reg ?_
  refine XL.q (q_move rfl) rfl ?_
  refine XL.q (q_nil rfl) rfl ?_
  refine XL.q (q_fieldAddrN 1 (off := 1) rfl (by kernel_rfl) rfl) rfl ?_
  refine XL.q (q_load rfl (by kernel_rfl) (mA hkb) (by rfl)) rfl ?_
  refine XL.q (q_lenV2 (sz := 1) rfl (by kernel_rfl) hrd) rfl ?_
  refine XL.q (q_move rfl) rfl ?_
  refine XL.fin (kp 0 rfl (kp 3 rfl (kp 14 rfl (kp 15 rfl (kp 16 rfl kn))))) ?_
  refine XC.block ?_
  refine XC.loop (α := Nat × List Value × Value × Mem × Mem) (fun x => [(0, .pointer (some ⟨kb, 0, none⟩)), (3, x.2.2.1), (14, v), (15, .int .i64 ((h.length : Nat) : Int)), (16, .int .i64 ((x.1 : Nat) : Int))]) (fun x => x.2.2.2.1) (fun x => x.2.2.2.2) (fun x => x.1 ≤ h.length ∧ Sl 1 x.2.2.1 x.2.1.length x.2.1 x.2.2.2.1 ∧ Lst x.2.2.2.2 x.2.1 (keysN ts h x.1)) (fun x => h.length - x.1) ⟨0, [], .slice none 0 0, [], []⟩ ⟨Nat.zero_le _, Sl.nil, Lst.nil⟩ (kp 0 rfl (kp 3 rfl (kp 14 rfl (kp 15 rfl (kp 16 rfl kn))))) .rfl (fun _ h => h) ?_
  rintro ⟨i, vs, v3, B3, J3⟩ ⟨hi, hs3, hlv⟩
  dsimp only at hi hs3 hlv ⊢
  haveI := hs3.cel
  have hvl := hlv.len
  have hvn := keysN_len ts h i
  refine XC.reg ?_
  refine XL.q (q_bin rfl rfl rfl) rfl ?_
  refine XL.fin (kp 0 rfl (kp 3 rfl (kp 14 rfl (kp 15 rfl (kp 16 rfl (kp 17 rfl kn)))))) ?_
  refine XC.seq ?_
  refine XC.cond rfl (fun hc => ?_) (fun hc => ?_)
  ·
    have hlt : i < h.length := by simp at hc; omega
    refine XC.skip ?_
    refine nx (kp 0 rfl (kp 3 rfl (kp 14 rfl (kp 15 rfl (kp 16 rfl kn))))) ?_
    refine XC.seq ?_
    refine XC.block ?_
    refine XC.reg ?_
    refine XL.q (q_move rfl) rfl ?_
    refine XL.q (q_atV2 (sz := 1) rfl rfl (by kernel_rfl) rfl hrd hlt) rfl ?_
    refine XL.q (q_ldV (j := i) (u := .bool (h.getD i false)) (hrd.mono SubC.sub) rfl (by kernel_rfl) (bools_get hlt)) rfl ?_
    refine XL.q (q_assign rfl) rfl ?_
    refine XL.q (q_assign rfl) rfl ?_
    refine XL.fin (kp 0 rfl (kp 3 rfl (kp 4 rfl (kp 5 rfl (kp 14 rfl (kp 15 rfl (kp 16 rfl kn))))))) ?_
    refine XC.reg ?_
    refine XL.q (q_move rfl) rfl ?_
    refine XL.q (q_nil rfl) rfl ?_
    refine XL.q (q_fieldAddrN 0 (off := 0) rfl (by kernel_rfl) rfl) rfl ?_
    refine XL.q (q_load rfl (by kernel_rfl) (mA hkb) (by rfl)) rfl ?_
    refine XL.q (q_move rfl) rfl ?_
    refine XL.call (aS rfl (aS rfl a0)) (by kernel_rfl) (getT_spec bt bm ts ((i : Nat) : Int) MT _ hT (fun x hx => SubC.sub _ (hsub x hx))) rfl ?_
    rintro v27 M27 J27 ⟨rfl, rfl, c27, ok27, rfl, hg1, hg2⟩
    obtain ⟨rfl, t, ht, vo, rfl, hvo⟩ := hg1 ⟨by omega, by omega⟩
    rw [Int.toNat_natCast] at ht
    have hto := hT.tok.tmo t (List.mem_of_getElem? ht)
    haveI := hvo.cel
    have hkF : keyF ts h i = (kat h i && secK t.kind) := by unfold keyF; rw [ht]
    refine XL.q (q_move rfl) rfl ?_
    refine XL.q (q_x0 rfl) rfl ?_
    refine XL.q (q_x1 rfl) rfl ?_
    refine XL.lo rfl (l_alloc (cs := [.int .u8 0, .slice none 0 0, .string ByteArray.empty, .int .i64 0]) (by kernel_rfl) rfl fun b6 => ?_)
    refine XL.lo rfl (l_storeW rfl rfl rfl (by kernel_rfl) (by rfl) (by intro c hc; simp only [List.mem_cons, List.not_mem_nil, or_false] at hc; rcases hc with rfl | rfl | rfl | rfl <;> first | rfl | exact hvo.one) UpC.upd ?_)
    refine XL.q (q_assign rfl) rfl ?_
    refine XL.fin (kp 0 rfl (kp 3 rfl (kp 4 rfl (kp 5 rfl (kp 6 rfl (kp 14 rfl (kp 15 rfl (kp 16 rfl kn)))))))) ?_
    refine XC.reg ?_
    refine XL.q (q_move rfl) rfl ?_
    refine XL.q (q_move rfl) rfl ?_
    refine XL.split (t := 31) rfl (fun hb => ?_) (fun hb => ?_)
    ·
      have hA : kat h i = true := hb
      refine XL.gy rfl rfl (OpQ.opL (q_fieldAddrN 0 (off := 0) rfl (by kernel_rfl) rfl) rfl ?_)
      refine XL.gy rfl rfl (OpQ.opL (q_load rfl (by kernel_rfl) (by first | exact At.mem | exact mA (by assumption)) (by rfl)) rfl ?_)
      refine XL.gy rfl rfl (OpQ.opL (q_bin rfl rfl rfl) rfl ?_)
      refine XL.gy rfl rfl (OpQ.opL (q_move rfl) rfl ?_)
      refine XL.split (t := 35) rfl (fun hb => ?_) (fun hb => ?_)
      ·
        have hk1 : t.kind = 1 := by simp at hb; omega
        refine XL.gn rfl rfl rfl rfl ?_
        refine XL.gn rfl rfl rfl rfl ?_
        refine XL.gn rfl rfl rfl rfl ?_
        refine XL.gy rfl rfl (OpQ.opL (q_pickT rfl rfl) rfl ?_)
        refine XL.gy rfl rfl (OpQ.opL (q_move rfl) rfl ?_)
        refine XL.gn rfl rfl rfl rfl ?_
        refine XL.gn rfl rfl rfl rfl ?_
        refine XL.gn rfl rfl rfl rfl ?_
        refine XL.gy rfl rfl (OpQ.opL (q_pickT rfl rfl) rfl ?_)
        refine XL.q (q_pickT rfl rfl) rfl ?_
        refine XL.fin (kp 0 rfl (kp 3 rfl (kp 4 rfl (kp 14 rfl (kp 15 rfl (kp 16 rfl (kp 45 rfl kn))))))) ?_
        refine XC.condT rfl ?_
        refine XC.reg1 ?_
        refine XL.q (q_move rfl) rfl ?_
        refine XL.q (q_move rfl) rfl ?_
        refine XL.call (aS rfl a0) (by kernel_rfl) (bytesJ_spec _ _) rfl ?_
        rintro v48 M48 J48 ⟨rfl, hb48⟩
        haveI := hb48.cel
        refine XL.lo rfl (l_buildSlice (e := 23) (sz := 1) (z := [.slice none 0 0]) (by kernel_rfl) (eS rfl e0) (bdS 0 1 rfl (by rfl) bd0) rfl fun b49 => ?_)
        refine XL.lo rfl (l_append2 (e := 23) (sz := 1) (by_ := 24) rfl rfl (by kernel_rfl) rfl hs3 (Rd.whole (n := 1) At.mem (by rfl)) (by intro c hc; rw [List.mem_singleton.1 hc]; exact hb48.one) PickC.perm (by unfold maxLen; omega) (by omega) rfl fun v50 B50 hs50 => ?_)
        refine XL.q (q_assign rfl) rfl ?_
        refine XL.nil ?_
        refine nb ?_
        refine nx (kp 0 rfl (kp 3 rfl (kp 14 rfl (kp 15 rfl (kp 16 rfl kn))))) ?_
        refine XC.reg1 ?_
        refine XL.q (q_addI (b := 1) rfl rfl rfl rfl (by omega)) rfl ?_
        refine XL.q (q_move rfl) rfl ?_
        refine XL.nil ?_
        exact rn ⟨i + 1, vs ++ [v48], v50, B50, J48 ++ J3⟩ ⟨by dsimp only; omega, by dsimp only; exact sl_eq hs50 (by simp) rfl, by dsimp only; rw [keysN_y (by rw [hkF, hA]; unfold secK; rw [hk1]; rfl)]; exact (hlv.mono SubC.sub).snoc (hb48.mono SubC.sub)⟩ (by dsimp only; omega) (kp 0 rfl (kp 3 rfl (kp 14 rfl (kp 15 rfl (kp 16 rfl kn))))) (Fit.last PickC.perm) (fun x hx => SubC.sub x hx)
      ·
        have hk1 : ¬ t.kind = 1 := by simp at hb; omega
        refine XL.gy rfl rfl (OpQ.opL (q_fieldAddrN 0 (off := 0) rfl (by kernel_rfl) rfl) rfl ?_)
        refine XL.gy rfl rfl (OpQ.opL (q_load rfl (by kernel_rfl) (by first | exact At.mem | exact mA (by assumption)) (by rfl)) rfl ?_)
        refine XL.gy rfl rfl (OpQ.opL (q_bin rfl rfl rfl) rfl ?_)
        refine XL.gy rfl rfl (OpQ.opL (q_pickF rfl rfl) rfl ?_)
        refine XL.gy rfl rfl (OpQ.opL (q_move rfl) rfl ?_)
        refine XL.split (t := 40) rfl (fun hb => ?_) (fun hb => ?_)
        ·
          have hk4 : t.kind = 4 := by simp at hb; omega
          refine XL.gn rfl rfl rfl rfl ?_
          refine XL.gn rfl rfl rfl rfl ?_
          refine XL.gn rfl rfl rfl rfl ?_
          refine XL.gy rfl rfl (OpQ.opL (q_pickT rfl rfl) rfl ?_)
          refine XL.q (q_pickT rfl rfl) rfl ?_
          refine XL.fin (kp 0 rfl (kp 3 rfl (kp 4 rfl (kp 14 rfl (kp 15 rfl (kp 16 rfl (kp 45 rfl kn))))))) ?_
          refine XC.condT rfl ?_
          refine XC.reg1 ?_
          refine XL.q (q_move rfl) rfl ?_
          refine XL.q (q_move rfl) rfl ?_
          refine XL.call (aS rfl a0) (by kernel_rfl) (bytesJ_spec _ _) rfl ?_
          rintro v48 M48 J48 ⟨rfl, hb48⟩
          haveI := hb48.cel
          refine XL.lo rfl (l_buildSlice (e := 23) (sz := 1) (z := [.slice none 0 0]) (by kernel_rfl) (eS rfl e0) (bdS 0 1 rfl (by rfl) bd0) rfl fun b49 => ?_)
          refine XL.lo rfl (l_append2 (e := 23) (sz := 1) (by_ := 24) rfl rfl (by kernel_rfl) rfl hs3 (Rd.whole (n := 1) At.mem (by rfl)) (by intro c hc; rw [List.mem_singleton.1 hc]; exact hb48.one) PickC.perm (by unfold maxLen; omega) (by omega) rfl fun v50 B50 hs50 => ?_)
          refine XL.q (q_assign rfl) rfl ?_
          refine XL.nil ?_
          refine nb ?_
          refine nx (kp 0 rfl (kp 3 rfl (kp 14 rfl (kp 15 rfl (kp 16 rfl kn))))) ?_
          refine XC.reg1 ?_
          refine XL.q (q_addI (b := 1) rfl rfl rfl rfl (by omega)) rfl ?_
          refine XL.q (q_move rfl) rfl ?_
          refine XL.nil ?_
          exact rn ⟨i + 1, vs ++ [v48], v50, B50, J48 ++ J3⟩ ⟨by dsimp only; omega, by dsimp only; exact sl_eq hs50 (by simp) rfl, by dsimp only; rw [keysN_y (by rw [hkF, hA]; unfold secK; rw [hk4]; rfl)]; exact (hlv.mono SubC.sub).snoc (hb48.mono SubC.sub)⟩ (by dsimp only; omega) (kp 0 rfl (kp 3 rfl (kp 14 rfl (kp 15 rfl (kp 16 rfl kn))))) (Fit.last PickC.perm) (fun x hx => SubC.sub x hx)
        ·
          have hk4 : ¬ t.kind = 4 := by simp at hb; omega
          refine XL.gy rfl rfl (OpQ.opL (q_fieldAddrN 0 (off := 0) rfl (by kernel_rfl) rfl) rfl ?_)
          refine XL.gy rfl rfl (OpQ.opL (q_load rfl (by kernel_rfl) (by first | exact At.mem | exact mA (by assumption)) (by rfl)) rfl ?_)
          refine XL.gy rfl rfl (OpQ.opL (q_bin rfl rfl rfl) rfl ?_)
          refine XL.gy rfl rfl (OpQ.opL (q_pickF rfl rfl) rfl ?_)
          refine XL.q (q_pickT rfl rfl) rfl ?_
          refine XL.fin (kp 0 rfl (kp 3 rfl (kp 4 rfl (kp 14 rfl (kp 15 rfl (kp 16 rfl (kp 45 rfl kn))))))) ?_
          refine XC.cond rfl (fun hc => ?_) (fun hc => ?_)
          ·
            have hk5 : t.kind = 5 := by simp at hc; omega
            refine XC.reg1 ?_
            refine XL.q (q_move rfl) rfl ?_
            refine XL.q (q_move rfl) rfl ?_
            refine XL.call (aS rfl a0) (by kernel_rfl) (bytesJ_spec _ _) rfl ?_
            rintro v48 M48 J48 ⟨rfl, hb48⟩
            haveI := hb48.cel
            refine XL.lo rfl (l_buildSlice (e := 23) (sz := 1) (z := [.slice none 0 0]) (by kernel_rfl) (eS rfl e0) (bdS 0 1 rfl (by rfl) bd0) rfl fun b49 => ?_)
            refine XL.lo rfl (l_append2 (e := 23) (sz := 1) (by_ := 24) rfl rfl (by kernel_rfl) rfl hs3 (Rd.whole (n := 1) At.mem (by rfl)) (by intro c hc; rw [List.mem_singleton.1 hc]; exact hb48.one) PickC.perm (by unfold maxLen; omega) (by omega) rfl fun v50 B50 hs50 => ?_)
            refine XL.q (q_assign rfl) rfl ?_
            refine XL.nil ?_
            refine nb ?_
            refine nx (kp 0 rfl (kp 3 rfl (kp 14 rfl (kp 15 rfl (kp 16 rfl kn))))) ?_
            refine XC.reg1 ?_
            refine XL.q (q_addI (b := 1) rfl rfl rfl rfl (by omega)) rfl ?_
            refine XL.q (q_move rfl) rfl ?_
            refine XL.nil ?_
            exact rn ⟨i + 1, vs ++ [v48], v50, B50, J48 ++ J3⟩ ⟨by dsimp only; omega, by dsimp only; exact sl_eq hs50 (by simp) rfl, by dsimp only; rw [keysN_y (by rw [hkF, hA]; unfold secK; rw [hk5]; rfl)]; exact (hlv.mono SubC.sub).snoc (hb48.mono SubC.sub)⟩ (by dsimp only; omega) (kp 0 rfl (kp 3 rfl (kp 14 rfl (kp 15 rfl (kp 16 rfl kn))))) (Fit.last PickC.perm) (fun x hx => SubC.sub x hx)
          ·
            have hk5 : ¬ t.kind = 5 := by simp at hc; omega
            refine XC.skip ?_
            refine nb ?_
            refine nx (kp 0 rfl (kp 3 rfl (kp 14 rfl (kp 15 rfl (kp 16 rfl kn))))) ?_
            refine XC.reg1 ?_
            refine XL.q (q_addI (b := 1) rfl rfl rfl rfl (by omega)) rfl ?_
            refine XL.q (q_move rfl) rfl ?_
            refine XL.nil ?_
            exact rn ⟨i + 1, vs, v3, B3, J3⟩ ⟨by dsimp only; omega, hs3, by dsimp only; rw [keysN_n (by rw [hkF, show secK t.kind = false by simp [secK, hk1, hk4, hk5]]; simp)]; exact hlv⟩ (by dsimp only; omega) (kp 0 rfl (kp 3 rfl (kp 14 rfl (kp 15 rfl (kp 16 rfl kn))))) (Fit.last PickC.perm) (fun x hx => SubC.sub x hx)
    ·
      have hA : kat h i = false := hb
      refine XL.gn rfl rfl rfl rfl ?_
      refine XL.gn rfl rfl rfl rfl ?_
      refine XL.gn rfl rfl rfl rfl ?_
      refine XL.gn rfl rfl rfl rfl ?_
      refine XL.gu rfl rfl rfl ?_
      refine XL.gu rfl rfl rfl ?_
      refine XL.gu rfl rfl rfl ?_
      refine XL.gn rfl rfl rfl rfl ?_
      refine XL.gn rfl rfl rfl rfl ?_
      refine XL.gu rfl rfl rfl ?_
      refine XL.gu rfl rfl rfl ?_
      refine XL.gu rfl rfl rfl ?_
      refine XL.gn rfl rfl rfl rfl ?_
      refine XL.q (q_pickF rfl rfl) rfl ?_
      refine XL.fin (kp 0 rfl (kp 3 rfl (kp 4 rfl (kp 14 rfl (kp 15 rfl (kp 16 rfl (kp 45 rfl kn))))))) ?_
      refine XC.condF rfl ?_
      refine XC.skip ?_
      refine nb ?_
      refine nx (kp 0 rfl (kp 3 rfl (kp 14 rfl (kp 15 rfl (kp 16 rfl kn))))) ?_
      refine XC.reg1 ?_
      refine XL.q (q_addI (b := 1) rfl rfl rfl rfl (by omega)) rfl ?_
      refine XL.q (q_move rfl) rfl ?_
      refine XL.nil ?_
      exact rn ⟨i + 1, vs, v3, B3, J3⟩ ⟨by dsimp only; omega, hs3, by dsimp only; rw [keysN_n (by rw [hkF, hA]; rfl)]; exact hlv⟩ (by dsimp only; omega) (kp 0 rfl (kp 3 rfl (kp 14 rfl (kp 15 rfl (kp 16 rfl kn))))) (Fit.last PickC.perm) (fun x hx => SubC.sub x hx)
  ·
    have hge : i = h.length := by simp at hc; omega
    subst hge
    refine XC.exit ?_
    refine te ?_
    refine re ?_
    refine be rfl ?_
    refine nx (kp 3 rfl kn) ?_
    refine XC.reg ?_
    refine XL.q (q_move rfl) rfl ?_
    refine XL.q (q_assign rfl) rfl ?_
    refine XL.fin (kp 2 rfl kn) ?_
    refine XC.ret ?_
    exact ⟨_, [], B3, res1 rfl rfl, Fit.pick PickC.perm (Fit.sub (List.nil_sublist _)), rfl, vs, by rw [← hvl]; exact hs3.rd SubC.sub, hlv.mono SubC.sub⟩

end Go.Proofs.YthmnlkpikgglbaaGreatDoor
/- Plain laws of built tables: each term is whole, made of elder ones. No program in sight. -/
set_option linter.unusedVariables false
set_option linter.unusedSimpArgs false
namespace Go.Proofs.YthmnlkpikgglbaaGreatDoor
open Go.Px
/-- A term of elder ones. -/
def Eld (n : Nat) (l : List Int) : Prop := ∀ x ∈ l, 0 ≤ x ∧ x < (n : Int)
structure Wt (n : Nat) (t : Tm) : Prop where
  eld : Eld n t.of
  kind : (t.kind = 1 ∧ t.of = []) ∨ (t.kind = 3 ∧ ∃ x, t = pubT x) ∨ (t.kind = 4 ∧ t.of.length = 2) ∨ ((t.kind = 5 ∨ t.kind = 6 ∨ t.kind = 7) ∧ t.of ≠ [])
def Wf (ts : List Tm) : Prop := ∀ i t, ts[i]? = some t → Wt i t
theorem Eld.up {n m : Nat} {l : List Int} (h : Eld n l) (hm : n ≤ m) : Eld m l := fun x hx => by have := h x hx; omega
theorem Wf.nil : Wf [] := fun i t h => by simp at h
theorem Wf.add {ts : List Tm} {t : Tm} (h : Wf ts) (ht : Wt ts.length t) : Wf (add ts t) := by
  cases hp : pos ts t with
  | some j => rw [(add_some hp).1]; exact h
  | none =>
    rw [(add_none hp).1]
    intro i u hu
    by_cases hi : i < ts.length
    · rw [List.getElem?_append_left hi] at hu; exact h i u hu
    · rw [List.getElem?_append_right (by omega)] at hu
      have : i - ts.length = 0 := by
        rcases Nat.eq_zero_or_pos (i - ts.length) with h0 | h0
        · exact h0
        · rw [List.getElem?_eq_none (by simp; omega)] at hu; cases hu
      rw [this] at hu
      have hi2 : i = ts.length := by omega
      subst hi2
      cases hu
      exact ht
/-- What is known of nothing: nothing. -/
theorem made_none {ts : List Tm} (h : Wf ts) (n : Nat) (i : Nat) : madeF ts (List.replicate n false) i = false := by
  have hk : ∀ x : Int, isK (List.replicate n false) x = false := by
    intro x
    unfold isK kat
    rw [List.getD_eq_getElem?_getD, List.getElem?_replicate]
    split <;> simp
  have hall : ∀ l : List Int, l ≠ [] → l.all (isK (List.replicate n false)) = false := by
    intro l hl
    cases l with
    | nil => exact absurd rfl hl
    | cons x l => simp [hk x]
  unfold madeF
  cases ht : ts[i]? with
  | none => rfl
  | some t =>
    obtain ⟨he, hkd⟩ := h i t ht
    show madeT ts _ t = false
    rcases hkd with ⟨h1, h2⟩ | ⟨h1, x, rfl⟩ | ⟨h1, h2⟩ | ⟨h1, h2⟩
    · unfold madeT; rw [h1]; rfl
    · rw [madeT_mk rfl]; exact hall _ (by simp [pubT])
    · by_cases hn : t.n = 0 ∧ t.of.length = 2
      · rw [madeT_4a h1 hn.1 hn.2, hk, hk]; rfl
      · rw [madeT_4b h1 hn]; exact hall _ (by intro e; rw [e] at h2; cases h2)
    · rw [madeT_mk (by rcases h1 with e | e | e <;> rw [e] <;> rfl)]; exact hall _ h2
theorem clo_none {ts : List Tm} (h : Wf ts) : cloF ts [] = List.replicate ts.length false := by
  have hc := cloF_clo (ts := ts) (h := []) (Nat.zero_le _)
  apply kat_ext (by rw [hc.len, List.length_replicate])
  · exact hc.lst _ (fun i hi => by simp [kat] at hi) (fun i hi => by rw [made_none h] at hi; cases hi)
  · intro i hi
    unfold kat at hi
    rw [List.getD_eq_getElem?_getD, List.getElem?_replicate] at hi
    split at hi <;> simp at hi
theorem keys_none {ts : List Tm} (n m : Nat) : keysN ts (List.replicate n false) m = [] := by
  unfold keysN
  rw [List.filter_eq_nil_iff.2]
  · rfl
  · intro i hi
    unfold keyF kat
    rw [List.getD_eq_getElem?_getD, List.getElem?_replicate]
    split <;> simp

end Go.Proofs.YthmnlkpikgglbaaGreatDoor
/- Plain: what build makes is whole. No program in sight. -/
set_option linter.unusedVariables false
set_option linter.unusedSimpArgs false
namespace Go.Proofs.YthmnlkpikgglbaaGreatDoor
open Go.Px
/-- A table that is whole, with keys that stand for its places. -/
structure Bw (ts : List Tm) (ks : List (List Nat)) : Prop where
  wf : Wf ts
  tok : Tok ts
  good : ∀ w ∈ ks, Good ts w
theorem put_bw {ts : List Tm} {ks : List (List Nat)} {t : Tm} (h : Bw ts ks) (ht : Tmo t) (hw : Wt ts.length t) : Bw (add ts t) (ks ++ [bts ((at_ ts t : Nat) : Int)]) := by
  obtain ⟨l, h1, h2, h3, h4⟩ := pfact ht h.tok
  refine ⟨h.wf.add hw, h4, fun w hw2 => ?_⟩
  rcases List.mem_append.1 hw2 with hw2 | hw2
  · rw [h1]; exact (h.good w hw2).ext
  · rw [List.mem_singleton.1 hw2]
    exact ⟨_, (List.getElem?_eq_some_iff.1 h3).1, rfl⟩
theorem good_pl {ts : List Tm} {w : List Nat} (h : Good ts w) (hl : ts.length ≤ 1048576) : rdT ts w = ts ∧ rdI ts w < ts.length := by
  obtain ⟨i, hi, rfl⟩ := h
  obtain ⟨h1, h2⟩ := good_rd hi hl
  exact ⟨h1, by rw [h2]; exact hi⟩
theorem i64_lt {i : Nat} (h : i ≤ 1048576) : i64 ((i : Nat) : Int) := by unfold i64; omega
theorem eld1 {n i : Nat} (h : i < n) : Eld n [((i : Nat) : Int)] := fun x hx => by rw [List.mem_singleton.1 hx]; omega
theorem eld2 {n i j : Nat} (h : i < n) (h2 : j < n) : Eld n [((i : Nat) : Int), ((j : Nat) : Int)] := fun x hx => by
  simp only [List.mem_cons, List.not_mem_nil, or_false] at hx
  rcases hx with rfl | rfl <;> omega
theorem wt_atom (n k : Nat) : Wt n (atom k) := ⟨fun x hx => (List.not_mem_nil hx).elim, .inl ⟨rfl, rfl⟩⟩
theorem wt_pub {n i : Nat} (h : i < n) : Wt n (pubT ((i : Nat) : Int)) := ⟨eld1 h, .inr (.inl ⟨rfl, _, rfl⟩)⟩
theorem agT_w {ts : List Tm} (h : Wf ts) {i j : Nat} (hi : i < ts.length) (hj : j < ts.length) (hl : ts.length ≤ 1048576) : Wt ts.length (agT ts ((i : Nat) : Int) ((j : Nat) : Int)) ∧ Tmo (agT ts ((i : Nat) : Int) ((j : Nat) : Int)) := by
  have plain : Wt ts.length ⟨4, [((i : Nat) : Int), ((j : Nat) : Int)], [], 1⟩ ∧ Tmo ⟨4, [((i : Nat) : Int), ((j : Nat) : Int)], [], 1⟩ :=
    ⟨⟨eld2 hi hj, .inr (.inr (.inl ⟨rfl, rfl⟩))⟩, ag_ok (s := 0) (o := 0) rfl (fun z hz => by have := eld2 hi hj z hz; unfold i64; omega) (.inr rfl)⟩
  have h0 : (0 : Int) ≤ ((j : Nat) : Int) := Int.natCast_nonneg j
  obtain ⟨t, ht⟩ : ∃ t, ts[((j : Nat) : Int).toNat]? = some t := ⟨ts[j], by rw [Int.toNat_natCast]; exact List.getElem?_eq_getElem hj⟩
  by_cases hk : t.kind = 3 ∧ t.of.length = 1
  · rw [agT_yes h0 ht hk]
    rw [Int.toNat_natCast] at ht
    have hw := h j t ht
    have hz : 0 ≤ t.of.getD 0 0 ∧ t.of.getD 0 0 < (j : Int) := hw.eld _ (by rw [List.getD_eq_getElem?_getD, List.getElem?_eq_getElem (by omega)]; exact List.getElem_mem _)
    generalize t.of.getD 0 0 = z at *
    refine ⟨⟨fun x hx => ?_, .inr (.inr (.inl ⟨rfl, srt_len _ _⟩))⟩, ag_ok (s := 0) (o := 0) (srt_len _ _) (fun x hx => ?_) (.inl rfl)⟩
    · rcases srt_mem hx with e | e <;> rw [e] <;> omega
    · rcases srt_mem hx with e | e <;> rw [e] <;> unfold i64 <;> omega
  · rw [agT_un h0 ht hk]; exact plain
theorem pick_mem {l : List (List Nat)} (x : Nat) (h : 0 < l.length) : pick l x ∈ l := by
  unfold pick
  rw [List.getD_eq_getElem?_getD, List.getElem?_eq_getElem (Nat.mod_lt _ h)]
  exact List.getElem_mem _
theorem sub_bw {ts : List Tm} {ks ks' : List (List Nat)} (h : Bw ts ks) (hs : ∀ w ∈ ks', w ∈ ks) : Bw ts ks' := ⟨h.wf, h.tok, fun w hw => h.good w (hs w hw)⟩
/-- One term of one key more. -/
theorem one_bw {s : Ps} {ks : List (List Nat)} (h : Bw s.ts ks) {w : List Nat} (hw : Good s.ts w) (hl : s.ts.length ≤ 1048576) {f : Int → Tm} (hf : ∀ i : Nat, i < s.ts.length → Wt s.ts.length (f ((i : Nat) : Int)) ∧ Tmo (f ((i : Nat) : Int))) : Bw (one1 s w f).ts (ks ++ [oneK s w f]) := by
  obtain ⟨h1, h2⟩ := good_pl hw hl
  obtain ⟨h3, h4⟩ := hf _ h2
  unfold one1 oneK
  dsimp only
  rw [h1]
  exact put_bw h h4 h3
theorem fit_take {w : List Nat} (h : w.length = 32) : (fitN w 64).take 32 = w := by
  unfold fitN
  rw [List.take_append_of_le_length (by rw [List.length_take]; omega), List.take_take, List.take_of_length_le (by omega)]
theorem pub_bw {s : Ps} {ks : List (List Nat)} (h : Bw s.ts ks) {w : List Nat} (hw : Good s.ts w) (hl : s.ts.length ≤ 1048576) : Bw (pubS s w).ts (ks ++ [pubK s w]) := by
  obtain ⟨h1, h2⟩ := good_pl hw hl
  unfold pubS pubK
  dsimp only
  rw [h1]
  exact put_bw h (pub_ok (i64_lt (by omega))) (wt_pub h2)
theorem agr_bw {s : Ps} {ks : List (List Nat)} (h : Bw s.ts ks) {w u : List Nat} (hw : Good s.ts w) (hu : Good s.ts u) (hl : s.ts.length ≤ 1048576) : Bw (agrS s w u).ts (ks ++ [agrK s w u]) := by
  obtain ⟨h1, h2⟩ := good_pl hw hl
  obtain ⟨h3, h4⟩ := good_pl hu hl
  unfold agrS agrK
  dsimp only
  rw [h1, h3]
  obtain ⟨a, b⟩ := agT_w h.wf h2 h4 hl
  exact put_bw h b a
theorem der_bw {s : Ps} (hr : s.real = false) {ks : List (List Nat)} (h : Bw s.ts ks) {w u : List Nat} (hw : Good s.ts w) (hu : Good s.ts u) (hl : s.ts.length ≤ 1000000) : Bw (derS s w [u] [100] 2).ts (ks ++ derK s w [u] [100] 2) := by
  obtain ⟨h1, h2⟩ := good_pl hw (by omega)
  obtain ⟨h3, h4⟩ := good_pl hu (by omega)
  have e : rdAll s.ts w [u] = (s.ts, [((rdI s.ts w : Nat) : Int), ((rdI s.ts u : Nat) : Int)]) := by
    show (rdT (rdT s.ts w) u, ([] ++ [((rdI s.ts w : Nat) : Int)]) ++ [((rdI (rdT s.ts w) u : Nat) : Int)]) = _
    rw [h1, h3]; rfl
  rw [derS_f hr, derK_f hr]
  unfold derT
  rw [e]
  dsimp only
  have hE := eld2 h2 h4
  generalize hof : [((rdI s.ts w : Nat) : Int), ((rdI s.ts u : Nat) : Int)] = ofs at *
  have hlen : ofs.length = 2 := by rw [← hof]; rfl
  have hd : ∀ i, i < 100 → Tmo (drv ofs [100] i) := fun i hi => drv_ok (fun x hx => by have := hE x hx; unfold i64; omega) (by omega) ⟨by decide⟩ (by decide) (by omega)
  have hw0 : ∀ m i, s.ts.length ≤ m → Wt m (drv ofs [100] i) := fun m i hm => ⟨hE.up hm, .inr (.inr (.inr ⟨.inl rfl, by intro e; have : ofs = [] := e; rw [this] at hlen; cases hlen⟩))⟩
  have hp : ptAll s.ts ofs [100] 2 = (add (add s.ts (drv ofs [100] 0)) (drv ofs [100] 1), [bts ((at_ s.ts (drv ofs [100] 0) : Nat) : Int), bts ((at_ (add s.ts (drv ofs [100] 0)) (drv ofs [100] 1) : Nat) : Int)]) := rfl
  rw [hp]
  dsimp only
  have b1 := put_bw h (hd 0 (by decide)) (hw0 _ 0 (Nat.le_refl _))
  obtain ⟨l, hl1, _⟩ := pfact (hd 0 (by decide)) h.tok
  have b2 := put_bw b1 (hd 1 (by decide)) (hw0 _ 1 (by rw [hl1, List.length_append]; omega))
  rw [List.append_assoc] at b2
  exact b2
theorem step_bw {st : Bst} {i : Nat} (hb : Bok st i) (hi : i ≤ 1000) (h : Bw st.1.ts st.2) (k x y : Nat) (hy : y < 256) : Bw (stepB st k x y).1.ts (stepB st k x y).2 := by
  have ga := h.good _ (pick_mem x (show 0 < st.2.length by have := hb.lo; omega))
  have gb := h.good _ (pick_mem y (show 0 < st.2.length by have := hb.lo; omega))
  have h1 := hb.real
  have h2 := hb.ts
  have h3 := hb.n
  generalize hpa : pick st.2 x = a at *
  generalize hpb : pick st.2 y = b at *
  rcases (by omega : k % 7 = 0 ∨ k % 7 = 1 ∨ k % 7 = 2 ∨ k % 7 = 3 ∨ k % 7 = 4 ∨ k % 7 = 5 ∨ k % 7 = 6) with e | e | e | e | e | e | e
  · rw [sb0 e, freshS_f h1, freshK_f h1]
    exact put_bw h (atom_ok' (by omega)) (wt_atom _ _)
  · rw [sb1 e, hpa]; exact pub_bw h ga (by omega)
  · rw [sb2 e, hpa, hpb]; exact agr_bw h ga gb (by omega)
  · rw [sb3 e, hpa, hpb]; exact der_bw h1 h ga gb (by omega)
  · rw [sb4 e, hpa]
    exact one_bw h ga (by omega) fun i hi => ⟨⟨eld1 hi, .inr (.inr (.inr ⟨.inr (.inl rfl), by intro e; cases e⟩))⟩, sel_ok (i64_lt (by omega)) (by decide) (fun z hz => by rw [List.mem_singleton.1 hz]; exact hy) (by decide) (show 1 ≤ 16777216 by decide)⟩
  · have e32 : (oneK st.1 a fun z => sigT z [109]).length = 32 := by unfold oneK; exact btk_len _ (by omega)
    have hh := one_bw (f := fun z => sigT z [109]) h ga (by omega) (fun i hi => ⟨⟨eld1 hi, .inr (.inr (.inr ⟨.inr (.inr rfl), (by intro e; cases e)⟩))⟩, sig_ok (m := [109]) (i64_lt (by omega)) (by decide) (by decide)⟩)
    rw [sb5 e, hpa, fit_take e32]
    exact hh
  · rw [sb6 (by omega), hpa, hpb]
    have c1 := pub_bw h gb (by omega)
    have c2 := agr_bw c1 (w := a) (u := pubK st.1 b) (by obtain ⟨l, e1, _⟩ := pfact (t := pubT ((rdI st.1.ts b : Nat) : Int)) (pub_ok (i64_lt (by have := (good_pl gb (by omega)).2; omega))) h.tok; show Good (add (rdT st.1.ts b) _) a; rw [(good_pl gb (by omega)).1, e1]; exact ga.ext) (c1.good _ (by simp)) (by have := pub_len st.1 b; omega)
    refine sub_bw c2 fun w hw => ?_
    simp only [List.mem_append, List.mem_singleton] at hw ⊢
    rcases hw with hw | hw
    · exact .inl (.inl hw)
    · exact .inr hw
theorem b00_bw : Bw b00.1.ts b00.2 := by
  have h0 : Bw s00.ts [] := ⟨Wf.nil, Tok.nil, fun w hw => by cases hw⟩
  have h1 := put_bw h0 (atom_ok' (n := 1) (by decide)) (wt_atom _ _)
  have h2 := put_bw h1 (atom_ok' (n := 2) (by decide)) (wt_atom _ _)
  have h3 := put_bw h2 (atom_ok' (n := 3) (by decide)) (wt_atom _ _)
  exact h3
theorem bAt_bw {zs : List Nat} (hz : ∀ j, zs.getD j 0 < 256) (i : Nat) (hi : i ≤ 1000) : Bw (bAt zs i).1.ts (bAt zs i).2 := by
  induction i with
  | zero => exact b00_bw
  | succ i ih => exact step_bw (bok zs i) (by omega) (ih (by omega)) _ _ _ (hz _)

end Go.Proofs.YthmnlkpikgglbaaGreatDoor
/- Plain: what is known of places that are learnt. -/
set_option linter.unusedVariables false
set_option linter.unusedSimpArgs false
namespace Go.Proofs.YthmnlkpikgglbaaGreatDoor
open Go.Px
/-- The place for which a key stands. -/
def plo (ts : List Tm) (w : List Nat) : Nat := rdI ts w
theorem has_good {ts : List Tm} {h : List Bool} {w : List Nat} (hw : Good ts w) (hl : ts.length ≤ 1048576) : hasF ts h w = kat h (rdI ts w) := by
  obtain ⟨i, hi, rfl⟩ := hw
  unfold hasF
  rw [(good_rd hi hl).2, plc_bts, show u64 ((i : Nat) : Int) = i by unfold u64; omega, if_pos hi]
  show (false || isK h ((i : Nat) : Int)) = _
  rw [isK_nat]; rfl
theorem lrn_good {ts : List Tm} {h : List Bool} {w : List Nat} (hw : Good ts w) (hl : ts.length ≤ 1048576) : lrn (ts, h) w = (ts, cloF ts ((padB h ts.length).set (rdI ts w) true)) := by
  obtain ⟨h1, h2⟩ := good_pl hw hl
  show (rdT ts w, cloF (rdT ts w) ((padB h (rdT ts w).length).set (rdI ts w) true)) = _
  rw [h1]
/-- Who learns a key knows it, and what was known. -/
theorem lrn_knows {ts : List Tm} {h : List Bool} {w : List Nat} (hw : Good ts w) (hl : ts.length ≤ 1048576) (hh : h.length ≤ ts.length) : kat (lrn (ts, h) w).2 (rdI ts w) = true ∧ Le h (lrn (ts, h) w).2 := by
  rw [lrn_good hw hl]
  have hp := padB_len hh
  have hi := (good_pl hw hl).2
  have hc := cloF_clo (ts := ts) (h := (padB h ts.length).set (rdI ts w) true) (by rw [List.length_set]; omega)
  refine ⟨hc.sup _ (by rw [kat_set (by omega)]; simp), fun i hi2 => hc.sup _ (set_le _ (pad_le _ _ _ hi2))⟩

end Go.Proofs.YthmnlkpikgglbaaGreatDoor
/-
  Structs that came in, opened to their leaves; slices of bytes of any length.
-/
set_option linter.unusedVariables false
namespace Go.Px
open Go.ChangeShapes Go.WideShapes Go.ChangeAt Go.RowKit
/-- A slice of bytes of any length that a slice bears. -/
structure Byi (R : Mem) (v : Value) (w : List Nat) : Prop where
  rd : Rd R 1 v w.length (nums .u8 w)
  lt : ∀ x ∈ w, x < 256
  len : w.length ≤ maxLen
theorem Byi.mono {R R' : Mem} {v : Value} {w : List Nat} (h : Byi R v w) (hR : ∀ x, x ∈ R → x ∈ R') : Byi R' v w := ⟨h.rd.mono hR, h.lt, h.len⟩
theorem By.i {R : Mem} {v : Value} {w : List Nat} (h : By R v w) : Byi R v w := ⟨h.rd, h.lt, h.max⟩
theorem Byi.by {R : Mem} {v : Value} {w : List Nat} (h : Byi R v w) (hl : w.length ≤ 16777216) : By R v w := ⟨h.rd, h.lt, hl⟩
theorem Byi.cel {R : Mem} {v : Value} {w : List Nat} (h : Byi R v w) : Cel v [v] := h.rd.cel
theorem Byi.one {R : Mem} {v : Value} {w : List Nat} (h : Byi R v w) : v.oneCell' = true := h.rd.one
section
variable {H : Type} {enc : TypeId × Value → H} {P : Program} {w : World} {spare : Nat → Bool} {held : Bool} {fuel : Nat} {t e : TypeId} {cs : List Value} {x : DataW H × List MemPlace}
theorem st_field {fs : Array Field} {tf : TypeId} {o c : Nat} (ht : P.underlying t = some (.struct fs)) (h : DataW.trod enc P w 0 spare held fuel t cs = some x) (i : Nat) (f : Field) (hf : fs[i]? = some f) (hty : f.type = tf) (ho : f.offset = o) (hc : P.cellsOf tf = c) :
    ∃ m y, DataW.trod enc P w 0 spare held m tf ((cs.drop o).take c) = some y := by
  obtain ⟨xs, m, _, _, h1, h2, h3⟩ := DataW.trod_struct ht h
  have e0 := h3 i f hf
  have hi : i < fs.size := (Array.getElem?_eq_some_iff.1 hf).1
  rw [hty, ho, hc, List.getElem?_eq_getElem (by omega)] at e0
  exact ⟨m, _, e0⟩
theorem in_bytes (ht : P.underlying t = some (.slice e)) (he : P.underlying e = some (.int .u8)) (hc : P.cellsOf e = 1) (h : DataW.trod enc P w 0 spare held fuel t cs = some x) :
    ∃ v ws, cs = [v] ∧ Byi (heapA w) v ws := by
  obtain ⟨v, xss, h1, h2, h3, h4⟩ := in_slice ht hc (by decide) h
  obtain ⟨ws, h5, h6, h7⟩ := uints_of (k := .u8) rfl he h4
  exact ⟨v, ws, h1, by rw [h6, ← h5]; exact h3, h7, by omega⟩
end
end Go.Px

/- The walks of closure's Can, Traffic. -/
set_option linter.unusedVariables false
set_option linter.unusedSimpArgs false
namespace Go.Proofs.YthmnlkpikgglbaaGreatDoor
open Go.Px
/-- What Has answers of some bytes, wherever it is called. -/
def Hs (A : Mem) (kp v : Value) (r : Bool) : Prop := ∀ A', (∀ x, x ∈ A → x ∈ A') → FnV Tryz.prog 18 [kp, v] A' (.bool r)
theorem Hs.mono {A A' : Mem} {kp v : Value} {r : Bool} (h : Hs A kp v r) (hs : ∀ x, x ∈ A → x ∈ A') : Hs A' kp v r := fun B hB => h B fun x hx => hB x (hs x hx)

set_option maxRecDepth 100000 in
theorem index_b (v : Value) (vs : List Value) (f : FuncId) (cs : List Value) (p : Nat → Bool) (A : Mem) (hv : Rd A 1 v vs.length vs) (hn : vs.length ≤ 1099511627776) (hc_ : callable Tryz.prog f = true) (hf : ∀ (j : Nat) (u : Value), vs[j]? = some u → FnV Tryz.prog f (u :: cs) A (.bool (p j)) ∧ Cel u [u]) : FnV Tryz.prog 61 [v, .func (.func f) #[] cs.toArray] A (.int .i64 (fidx p vs.length)) := by
  haveI := hv.cel
  refine FnX.enter (N := 19) Tryz.func61 rfl rfl rfl fun w => ?_
  refine XC.keep (kp 0 rfl (kp 1 rfl kn)) ?_
  refine XC.reg ?_
  refine XL.q (q_assign rfl) rfl ?_
  refine XL.fin (kp 0 rfl (kp 1 rfl kn)) ?_
  refine XC.seq ?_
  refine XC.reg ?_
  refine XL.q (q_move rfl) rfl ?_
  refine XL.q (q_lenV2 (sz := 1) rfl (by kernel_rfl) hv) rfl ?_
  refine XL.q (q_move rfl) rfl ?_
  refine XL.fin (kp 0 rfl (kp 1 rfl (kp 7 rfl (kp 8 rfl kn)))) ?_
  refine XC.block ?_
  refine XC.loop (α := Nat) (fun i => [(0, v), (1, .func (.func f) #[] cs.toArray), (7, .int .i64 ((vs.length : Nat) : Int)), (8, .int .i64 (i : Int))]) (fun _ => []) (fun _ => []) (fun i => i ≤ vs.length ∧ ∀ j, j < i → p j = false) (fun i => vs.length - i) 0 ⟨Nat.zero_le _, fun j h => absurd h (Nat.not_lt_zero j)⟩ (kp 0 rfl (kp 1 rfl (kp 7 rfl (kp 8 rfl kn)))) .rfl (fun _ h => h) ?_
  rintro i ⟨hi, hp⟩
  refine XC.reg ?_
  refine XL.q (q_bin rfl rfl rfl) rfl ?_
  refine XL.fin (kp 0 rfl (kp 1 rfl (kp 7 rfl (kp 8 rfl (kp 9 rfl kn))))) ?_
  refine XC.seq ?_
  refine XC.cond rfl (fun hc => ?_) (fun hc => ?_)
  ·
    have hlt : i < vs.length := by simp at hc; omega
    obtain ⟨u, hu⟩ : ∃ u, vs[i]? = some u := ⟨_, List.getElem?_eq_getElem hlt⟩
    obtain ⟨hf1, hf2⟩ := hf i u hu
    haveI := hf2
    refine XC.skip ?_
    refine nx (kp 0 rfl (kp 1 rfl (kp 7 rfl (kp 8 rfl kn)))) ?_
    refine XC.seq ?_
    refine XC.block ?_
    refine XC.reg ?_
    refine XL.q (q_move rfl) rfl ?_
    refine XL.q (q_assign rfl) rfl ?_
    refine XL.fin (kp 0 rfl (kp 1 rfl (kp 5 rfl (kp 7 rfl (kp 8 rfl kn))))) ?_
    refine XC.reg ?_
    refine XL.q (q_move rfl) rfl ?_
    refine XL.q (q_move rfl) rfl ?_
    refine XL.q (q_move rfl) rfl ?_
    refine XL.q (q_atV2 (sz := 1) rfl rfl (by kernel_rfl) rfl hv hlt) rfl ?_
    refine XL.q (q_ldV (j := i) (u := u) (hv.mono SubC.sub) rfl (by kernel_rfl) hu) rfl ?_
    refine XL.lo rfl (l_callFV rfl (aS rfl a0) hc_ hf1 rfl ?_)
    refine XL.fin (kp 0 rfl (kp 1 rfl (kp 5 rfl (kp 7 rfl (kp 8 rfl (kp 16 rfl kn)))))) ?_
    refine XC.cond rfl (fun hc => ?_) (fun hc => ?_)
    ·
      refine XC.reg ?_
      refine XL.q (q_move rfl) rfl ?_
      refine XL.q (q_assign rfl) rfl ?_
      refine XL.fin (kp 4 rfl kn) ?_
      refine XC.ret ?_
      refine br ?_
      refine tr ?_
      refine rr ?_
      refine br ?_
      refine tr ?_
      exact ⟨_, [], [], res1 rfl rfl, List.nil_sublist _, by simp, by rw [fidx_some hlt hp hc], rfl, rfl⟩
    ·
      refine XC.skip ?_
      refine nb ?_
      refine nx (kp 0 rfl (kp 1 rfl (kp 7 rfl (kp 8 rfl kn)))) ?_
      refine XC.reg1 ?_
      refine XL.q (q_addI (b := 1) rfl rfl rfl rfl (by omega)) rfl ?_
      refine XL.q (q_move rfl) rfl ?_
      refine XL.nil ?_
      exact rn (i + 1) ⟨hlt, fun j hj => by rcases Nat.lt_succ_iff_lt_or_eq.1 hj with h | h; exact hp j h; rw [h]; exact hc⟩ (by omega) (kp 0 rfl (kp 1 rfl (kp 7 rfl (kp 8 rfl kn)))) .rfl (fun _ h => h)
  ·
    have hge : i = vs.length := by simp at hc; omega
    subst hge
    refine XC.exit ?_
    refine te ?_
    refine re ?_
    refine be rfl ?_
    refine nx kn ?_
    refine XC.reg ?_
    refine XL.q (q_assign rfl) rfl ?_
    refine XL.fin (kp 4 rfl kn) ?_
    refine XC.ret ?_
    exact ⟨_, [], [], res1 rfl rfl, List.nil_sublist _, by simp, by rw [fidx_none hp], rfl, rfl⟩

set_option maxRecDepth 100000 in
theorem contains_b (v : Value) (vs : List Value) (f : FuncId) (cs : List Value) (p : Nat → Bool) (A : Mem) (hv : Rd A 1 v vs.length vs) (hn : vs.length ≤ 1099511627776) (hc_ : callable Tryz.prog f = true) (hf : ∀ (j : Nat) (u : Value), vs[j]? = some u → FnV Tryz.prog f (u :: cs) A (.bool (p j)) ∧ Cel u [u]) : FnV Tryz.prog 37 [v, .func (.func f) #[] cs.toArray] A (.bool ((List.range vs.length).any p)) := by
  haveI := hv.cel
  refine FnX.enter (N := 9) Tryz.func37 rfl rfl rfl fun w => ?_
  refine XC.keep (kp 0 rfl (kp 1 rfl kn)) ?_
  refine XC.reg ?_
  refine XL.q (q_assign rfl) rfl ?_
  refine XL.fin (kp 0 rfl (kp 1 rfl kn)) ?_
  refine XC.reg ?_
  refine XL.q (q_move rfl) rfl ?_
  refine XL.q (q_move rfl) rfl ?_
  refine XL.callV (aS rfl (aS rfl a0)) (by kernel_rfl) (index_b v vs f cs p _ (hv.mono SubC.sub) hn hc_ hf) rfl ?_
  refine XL.q (q_cmp (decide (fidx p vs.length ≥ 0)) rfl rfl rfl) rfl ?_
  refine XL.q (q_assign rfl) rfl ?_
  refine XL.fin (kp 4 rfl kn) ?_
  refine XC.ret ?_
  exact ⟨_, [], [], res1 rfl rfl, List.nil_sublist _, by simp, by rw [fidx_ge], rfl, rfl⟩

set_option maxRecDepth 100000 in
theorem can1_spec (b2 : Nat) (q : Option Addr) (u : Value) [hcu : Cel u [u]] (r : Bool) (e : TypeId) (A : Mem) (hb2 : (b2, blk [.pointer q] e) ∈ A) (hf : Hs A (.pointer q) u r) : FnV Tryz.prog 38 [u, .pointer (some ⟨b2, 0, none⟩)] A (.bool (!r)) := by
  refine FnX.enter (N := 8) Tryz.func38 rfl rfl rfl fun w => ?_
  refine XC.keep (kp 0 rfl (kp 1 rfl kn)) ?_
  refine XC.reg ?_
  refine XL.q (q_assign rfl) rfl ?_
  refine XL.fin (kp 0 rfl (kp 1 rfl kn)) ?_
  refine XC.reg ?_
  refine XL.q (q_load rfl (by kernel_rfl) (mA hb2) (by rfl)) rfl ?_
  refine XL.q (q_move rfl) rfl ?_
  refine XL.callV (aS rfl (aS rfl a0)) (by kernel_rfl) (hf _ SubC.sub) rfl ?_
  refine XL.q (q_not rfl) rfl ?_
  refine XL.q (q_assign rfl) rfl ?_
  refine XL.fin (kp 3 rfl kn) ?_
  refine XC.ret ?_
  exact ⟨_, [], [], res1 rfl rfl, List.nil_sublist _, by simp, rfl, rfl, rfl⟩

theorem thr {φ : Value → Bool → Prop} {ψ : Value → Bool → Prop} {a b c : Value} {ra rb rc : Bool} (hφ : ∀ u r, Cel u [u] → ψ u r → φ u (!r)) (ca : Cel a [a]) (cb : Cel b [b]) (cc : Cel c [c]) (h1 : ψ a ra) (h2 : ψ b rb) (h3 : ψ c rc) :
    ∀ (j : Nat) (u : Value), ([a, b, c] : List Value)[j]? = some u → φ u (!([ra, rb, rc] : List Bool).getD j false) := by
  intro j u hj
  match j, hj with
  | 0, hj => cases hj; exact hφ _ _ ca h1
  | 1, hj => cases hj; exact hφ _ _ cb h2
  | 2, hj => cases hj; exact hφ _ _ cc h3
  | j + 3, hj => simp at hj
theorem six {φ : Value → Bool → Prop} {ψ : Value → Bool → Prop} {a b c d e f : Value} {ra rb rc rd re rf : Bool} (hφ : ∀ u r, Cel u [u] → ψ u r → φ u (!r)) (ca : Cel a [a]) (cb : Cel b [b]) (cc : Cel c [c]) (cd : Cel d [d]) (ce : Cel e [e]) (cf : Cel f [f]) (h1 : ψ a ra) (h2 : ψ b rb) (h3 : ψ c rc) (h4 : ψ d rd) (h5 : ψ e re) (h6 : ψ f rf) :
    ∀ (j : Nat) (u : Value), ([a, b, c, d, e, f] : List Value)[j]? = some u → φ u (!([ra, rb, rc, rd, re, rf] : List Bool).getD j false) := by
  intro j u hj
  match j, hj with
  | 0, hj => cases hj; exact hφ _ _ ca h1
  | 1, hj => cases hj; exact hφ _ _ cb h2
  | 2, hj => cases hj; exact hφ _ _ cc h3
  | 3, hj => cases hj; exact hφ _ _ cd h4
  | 4, hj => cases hj; exact hφ _ _ ce h5
  | 5, hj => cases hj; exact hφ _ _ cf h6
  | j + 6, hj => simp at hj

set_option maxRecDepth 100000 in
theorem can_spec (q : Option Addr) (y0 : Int) (y1 : Int) (y2 : Int) (y3 : Int) (y4 : Value) (y5 : Bool) (y6 : Value) (y7 : Value) (y8 : Value) (y9 : Nat) (y10 : Bool) (y11 : Nat) (y12 : Value) (y13 : Nat) (y14 : Nat) (y15 : Value) [c4 : Cel y4 [y4]] [c6 : Cel y6 [y6]] [c7 : Cel y7 [y7]] [c8 : Cel y8 [y8]] [c12 : Cel y12 [y12]] [c15 : Cel y15 [y15]] (o4 : y4.oneCell' = true) (o6 : y6.oneCell' = true) (o7 : y7.oneCell' = true) (o8 : y8.oneCell' = true) (o12 : y12.oneCell' = true) (o15 : y15.oneCell' = true) (r4 r6 r7 r8 r12 r15 : Bool) (A : Mem) (h4 : Hs A (.pointer q) y4 r4) (h6 : Hs A (.pointer q) y6 r6) (h7 : Hs A (.pointer q) y7 r7) (h8 : Hs A (.pointer q) y8 r8) (h12 : Hs A (.pointer q) y12 r12) (h15 : Hs A (.pointer q) y15 r15) : FnV Tryz.prog 21 [.pointer q, .agg #[.int .i64 y0, .int .i64 y1, .int .i64 y2, .int .i64 y3, y4, .bool y5, y6, y7, y8, .int .u32 ((y9 : Nat) : Int), .bool y10, .int .u32 ((y11 : Nat) : Int), y12, .int .u32 ((y13 : Nat) : Int), .int .u32 ((y14 : Nat) : Int), y15]] A (.bool (r4 && r12 && r15 && (if y5 then r6 && r7 && r8 else true))) := by
  refine FnX.enter (N := 34) Tryz.func21 rfl rfl rfl fun w => ?_
  refine XC.keep (kp 0 rfl (kp 1 rfl kn)) ?_
  refine XC.reg ?_
  refine XL.lo rfl (l_box rfl (by first | exact Cel.cel | rfl) rfl fun b2 => ?_)
  refine XL.lo rfl (l_box rfl (by first | exact Cel.cel | rfl) rfl fun b3 => ?_)
  refine XL.q (q_assign rfl) rfl ?_
  refine XL.fin (kp 2 rfl (kp 3 rfl kn)) ?_
  refine XC.reg ?_
  refine XL.q (q_fieldAddrN 4 (off := 4) rfl (by kernel_rfl) rfl) rfl ?_
  refine XL.q (q_load rfl (by kernel_rfl) (by first | exact At.mem | exact mA (by assumption)) (by rfl)) rfl ?_
  refine XL.q (q_fieldAddrN 12 (off := 12) rfl (by kernel_rfl) rfl) rfl ?_
  refine XL.q (q_fieldAddrN 12 (off := 0) rfl (by kernel_rfl) rfl) rfl ?_
  refine XL.q (q_load rfl (by kernel_rfl) (by first | exact At.mem | exact mA (by assumption)) (by rfl)) rfl ?_
  refine XL.q (q_fieldAddrN 15 (off := 15) rfl (by kernel_rfl) rfl) rfl ?_
  refine XL.q (q_load rfl (by kernel_rfl) (by first | exact At.mem | exact mA (by assumption)) (by rfl)) rfl ?_
  refine XL.lo rfl (l_buildSlice (e := 23) (sz := 1) (z := [.slice none 0 0, .slice none 0 0, .slice none 0 0]) (by kernel_rfl) (eS rfl (eS rfl (eS rfl e0))) (bdS 0 1 rfl (by rfl) (bdS 1 1 rfl (by rfl) (bdS 2 1 rfl (by rfl) bd0))) rfl fun b13 => ?_)
  refine XL.q (q_assign rfl) rfl ?_
  refine XL.fin (kp 2 rfl (kp 3 rfl (kp 5 rfl kn))) ?_
  refine XC.seq ?_
  refine XC.reg ?_
  refine XL.q (q_fieldAddrN 5 (off := 5) rfl (by kernel_rfl) rfl) rfl ?_
  refine XL.q (q_load rfl (by kernel_rfl) (by first | exact At.mem | exact mA (by assumption)) (by rfl)) rfl ?_
  refine XL.fin (kp 2 rfl (kp 3 rfl (kp 5 rfl (kp 15 rfl kn)))) ?_
  refine XC.cond rfl (fun hc => ?_) (fun hc => ?_)
  ·
    obtain rfl : y5 = true := hc
    refine XC.reg1 ?_
    refine XL.q (q_move rfl) rfl ?_
    refine XL.q (q_fieldAddrN 6 (off := 6) rfl (by kernel_rfl) rfl) rfl ?_
    refine XL.q (q_fieldAddrN 6 (off := 0) rfl (by kernel_rfl) rfl) rfl ?_
    refine XL.q (q_fieldAddrN 6 (off := 0) rfl (by kernel_rfl) rfl) rfl ?_
    refine XL.q (q_load rfl (by kernel_rfl) (by first | exact At.mem | exact mA (by assumption)) (by rfl)) rfl ?_
    refine XL.q (q_fieldAddrN 6 (off := 6) rfl (by kernel_rfl) rfl) rfl ?_
    refine XL.q (q_fieldAddrN 6 (off := 0) rfl (by kernel_rfl) rfl) rfl ?_
    refine XL.q (q_fieldAddrN 7 (off := 1) rfl (by kernel_rfl) rfl) rfl ?_
    refine XL.q (q_load rfl (by kernel_rfl) (by first | exact At.mem | exact mA (by assumption)) (by rfl)) rfl ?_
    refine XL.q (q_fieldAddrN 6 (off := 6) rfl (by kernel_rfl) rfl) rfl ?_
    refine XL.q (q_fieldAddrN 8 (off := 2) rfl (by kernel_rfl) rfl) rfl ?_
    refine XL.q (q_load rfl (by kernel_rfl) (by first | exact At.mem | exact mA (by assumption)) (by rfl)) rfl ?_
    refine XL.lo rfl (l_buildSlice (e := 23) (sz := 1) (z := [.slice none 0 0, .slice none 0 0, .slice none 0 0]) (by kernel_rfl) (eS rfl (eS rfl (eS rfl e0))) (bdS 0 1 rfl (by rfl) (bdS 1 1 rfl (by rfl) (bdS 2 1 rfl (by rfl) bd0))) rfl fun b28 => ?_)
    refine XL.lo rfl (l_append2 (e := 23) (sz := 1) (by_ := 24) rfl rfl (by kernel_rfl) rfl (Sl.fresh (n := 3) (sz := 1) (cs := [y4, y12, y15]) (e := 23) (by rfl) (by decide)) (Rd.whole (n := 3) At.mem (by rfl)) (by intro c hc; simp only [List.mem_cons, List.not_mem_nil, or_false] at hc; rcases hc with rfl | rfl | rfl; exact o6; exact o7; exact o8) PickC.perm (by unfold maxLen; omega) (by omega) rfl fun v29 B29 hs29 => ?_)
    replace hs29 : Sl 1 v29 6 [y4, y12, y15, y6, y7, y8] B29 := hs29
    refine XL.q (q_assign rfl) rfl ?_
    refine XL.fin (kp 2 rfl (kp 5 rfl kn)) ?_
    refine XC.reg ?_
    refine XL.q (q_move rfl) rfl ?_
    refine XL.q (q_mkFuncF a0 (aS rfl a0)) rfl ?_
    refine XL.callV (aS rfl (aS rfl a0)) (by kernel_rfl) (contains_b _ [y4, y12, y15, y6, y7, y8] 38 [.pointer (some ⟨b2, 0, none⟩)] (fun j => !([r4, r12, r15, r6, r7, r8] : List Bool).getD j false) _ (hs29.rd SubC.sub) (show 6 ≤ 1099511627776 by decide) (by kernel_rfl) (six (φ := fun u r_ => FnV Tryz.prog 38 [u, .pointer (some ⟨b2, 0, none⟩)] _ (.bool r_) ∧ Cel u [u]) (ψ := fun u r_ => Hs A (.pointer q) u r_) (fun u r hcu hh => ⟨@can1_spec b2 q u hcu r _ _ At.mem (hh.mono SubC.sub), hcu⟩) c4 c12 c15 c6 c7 c8 h4 h12 h15 h6 h7 h8)) rfl ?_
    refine XL.q (q_not rfl) rfl ?_
    refine XL.q (q_assign rfl) rfl ?_
    refine XL.fin (kp 4 rfl kn) ?_
    refine XC.ret ?_
    exact ⟨_, [], [], res1 rfl rfl, List.nil_sublist _, by simp, by congr 1; cases r4 <;> cases r12 <;> cases r15 <;> cases r6 <;> cases r7 <;> cases r8 <;> rfl, rfl, rfl⟩
  ·
    obtain rfl : y5 = false := hc
    refine XC.skip ?_
    refine nx (kp 2 rfl (kp 5 rfl kn)) ?_
    refine XC.reg ?_
    refine XL.q (q_move rfl) rfl ?_
    refine XL.q (q_mkFuncF a0 (aS rfl a0)) rfl ?_
    refine XL.callV (aS rfl (aS rfl a0)) (by kernel_rfl) (contains_b _ [y4, y12, y15] 38 [.pointer (some ⟨b2, 0, none⟩)] (fun j => !([r4, r12, r15] : List Bool).getD j false) _ (Rd.whole (n := 3) At.mem (by rfl)) (show 3 ≤ 1099511627776 by decide) (by kernel_rfl) (thr (φ := fun u r_ => FnV Tryz.prog 38 [u, .pointer (some ⟨b2, 0, none⟩)] _ (.bool r_) ∧ Cel u [u]) (ψ := fun u r_ => Hs A (.pointer q) u r_) (fun u r hcu hh => ⟨@can1_spec b2 q u hcu r _ _ At.mem (hh.mono SubC.sub), hcu⟩) c4 c12 c15 h4 h12 h15)) rfl ?_
    refine XL.q (q_not rfl) rfl ?_
    refine XL.q (q_assign rfl) rfl ?_
    refine XL.fin (kp 4 rfl kn) ?_
    refine XC.ret ?_
    exact ⟨_, [], [], res1 rfl rfl, List.nil_sublist _, by simp, by congr 1; cases r4 <;> cases r12 <;> cases r15 <;> rfl, rfl, rfl⟩

end Go.Proofs.YthmnlkpikgglbaaGreatDoor
