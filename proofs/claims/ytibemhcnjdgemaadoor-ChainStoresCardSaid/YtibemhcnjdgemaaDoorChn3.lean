/- The walks of package chain: Put, Get, Drop, Len, All, Copy. -/
import Derived.Test.YtibemhcnjdgemaaDoorChn2
set_option linter.unusedVariables false
set_option linter.unusedSimpArgs false
namespace Go.Proofs.YtibemhcnjdgemaaDoor
open Go.Px
theorem fit_lastS {M B R B' : Mem} (h : M.Perm (B ++ R)) (hs : B'.Sublist B) : Fit M B' := ⟨_, h, hs.trans (List.sublist_append_left _ _)⟩
theorem Sl.cast {sz n n' : Nat} {v : Value} {xs xs' : List Value} {B : Mem} (h : Sl sz v n xs B) (h1 : n = n') (h2 : xs = xs') : Sl sz v n' xs' B := by subst h1; subst h2; exact h
def getS (sks : List Skp) (of : List Nat) (n : Nat) : Option (List Nat) := if fidxL (tst of n) sks < 0 then none else (sks[(fidxL (tst of n) sks).toNat]?).map (·.key)
theorem getS_no {sks : List Skp} {of : List Nat} {n : Nat} (h : fidxL (tst of n) sks = -1) : getS sks of n = none := if_pos (by rw [h]; decide)
theorem getS_yes {sks : List Skp} {of : List Nat} {n i : Nat} {x : Skp} (h : fidxL (tst of n) sks = (i : Int)) (hx : sks[i]? = some x) : getS sks of n = some x.key := by
  unfold getS; rw [h, if_neg (by omega), Int.toNat_natCast, hx]; rfl

set_option maxRecDepth 100000 in
theorem put_spec (sb : Nat) (vof vk : Value) (sks : List Skp) (of key : List Nat) (n : Nat) (R MS A : Mem) (hS : Sto R sb sks MS) (hR : ∀ x, x ∈ R → x ∈ A) (hl : sks.length ≤ 1000000) (hof : By R vof of) (hk : By R vk key) (hn : n < 4294967296) : FnX Tryd.prog 23 [.pointer (some ⟨sb, 0, none⟩), .agg #[vof, .int .u32 ((n : Nat) : Int), vk]] MS A fun q M J => q = .tuple #[] ∧ Sto (J ++ R) sb (putS sks ⟨of, n, key⟩) M := by
  obtain ⟨v, rows, B, rfl, hsl, hrw⟩ := hS.ex
  haveI := hsl.cel
  haveI := hof.cel
  haveI := hk.cel
  refine FnX.enterZ (N := 59) Tryd.func23 rfl rfl rfl fun w_ => ?_
  refine XC.keep (kp 0 rfl (kp 1 rfl kn)) ?_
  refine XC.reg ?_
  refine XL.lo rfl (l_box rfl (by first | exact Cel.cel | rfl) rfl fun b3 => ?_)
  refine XL.fin (kp 0 rfl (kp 3 rfl kn)) ?_
  refine XC.seq ?_
  refine XC.reg ?_
  refine XL.q (q_move rfl) rfl ?_
  refine XL.q (q_ptrEqNil (e := 38) rfl rfl (by kernel_rfl)) rfl ?_
  refine XL.fin (kp 0 rfl (kp 3 rfl (kp 6 rfl kn))) ?_
  refine XC.condF rfl ?_
  refine XC.skip ?_
  refine nx (kp 0 rfl (kp 3 rfl kn)) ?_
  refine XC.join (α := Value × List (List Value) × Mem) (fun x => [(0, .pointer (some ⟨sb, 0, none⟩)), (3, .pointer (some ⟨b3, 0, none⟩))]) (fun x => (b3, blk [vof, .int .u32 ((n : Nat) : Int), vk] 53) :: (sb, blk [x.1] 38) :: x.2.2) (fun _ => []) (fun x => Sl 3 x.1 (delS sks of n).length x.2.1.flatten x.2.2 ∧ RwL skR R x.2.1 (delS sks of n)) ?_ ?_
  ·
    refine XC.reg ?_
    refine XL.q (q_move rfl) rfl ?_
    refine XL.q (q_fieldAddrN 0 (off := 0) rfl (by kernel_rfl) rfl) rfl ?_
    refine XL.q (q_load rfl (by kernel_rfl) (by first | exact At.mem | exact mA (by assumption)) (by rfl)) rfl ?_
    refine XL.q (q_fieldAddrN 1 (off := 1) rfl (by kernel_rfl) rfl) rfl ?_
    refine XL.q (q_load rfl (by kernel_rfl) (by first | exact At.mem | exact mA (by assumption)) (by rfl)) rfl ?_
    refine XL.callV (aS rfl (aS rfl (aS rfl a0))) (by kernel_rfl) (find_spec sb v vof rows sks of n _ (by simp) (hsl.rd SubC.sub) (hrw.mono skT (fun x hx => mA (hR x hx))) hl (hof.mono (fun x hx => mA (hR x hx)))) rfl ?_
    refine XL.q (q_assign rfl) rfl ?_
    refine XL.fin (kp 0 rfl (kp 3 rfl (kp 4 rfl kn))) ?_
    refine XC.reg ?_
    refine XL.q (q_move rfl) rfl ?_
    refine XL.q (q_bin rfl rfl rfl) rfl ?_
    refine XL.fin (kp 0 rfl (kp 3 rfl (kp 4 rfl (kp 14 rfl kn)))) ?_
    refine XC.cond rfl (fun hc => ?_) (fun hc => ?_)
    ·
      obtain ⟨hf, hz⟩ | ⟨i, x, hf, hxi, hq, hmin⟩ := fidxL_cases (tst of n) sks
      · rw [hf] at hc; simp at hc
      have hil := (List.getElem?_eq_some_iff.1 hxi).1
      rw [hf]
      obtain ⟨p, rfl, h0, _, _⟩ | ⟨b, o, cap, cs, e, rfl, rfl, g1, g2, g3, g4, g5⟩ := hsl
      · omega
      refine XC.reg1 ?_
      refine XL.q (q_move rfl) rfl ?_
      refine XL.q (q_move rfl) rfl ?_
      refine XL.q (q_nil rfl) rfl ?_
      refine XL.q (q_fieldAddrN 0 (off := 0) rfl (by kernel_rfl) rfl) rfl ?_
      refine XL.q (q_load rfl (by kernel_rfl) (by first | exact At.mem | exact mA (by assumption)) (by rfl)) rfl ?_
      refine XL.q (q_move rfl) rfl ?_
      refine XL.q (q_move rfl) rfl ?_
      refine XL.q (q_addI (b := 1) rfl rfl rfl rfl (by omega)) rfl ?_
      refine XL.lo rfl (l_call (Mc := [(b, blk cs e)]) (R := _) (aS rfl (aS rfl (aS rfl a0))) (by kernel_rfl) PickC.perm (delete_Skip b o cap sks.length i (i + 1) cs rows.flatten e _ g1 g2 g3 g4 g5 (hrw.ones skT) (by omega) (by omega)) rfl ?_)
      rintro v23 M23 J23 ⟨rfl, hs23⟩
      have hsd : Sl 3 v23 (sks.eraseIdx i).length (rows.take i ++ rows.drop (i + 1)).flatten M23 := by
        have h := hs23
        rw [flat_erase (hrw.lens skT)] at h
        exact Sl.cast h (by rw [List.length_eraseIdx, if_pos hil]; omega) rfl
      haveI := hsd.cel
      refine XL.q (q_nil rfl) rfl ?_
      refine XL.q (q_fieldAddrN 0 (off := 0) rfl (by kernel_rfl) rfl) rfl ?_
      refine XL.lo rfl (l_store rfl rfl hsd.one (by kernel_rfl) SetC.set UpC.upd ?_)
      refine XL.nil ?_
      exact jn (v23, rows.take i ++ rows.drop (i + 1), M23) ⟨by rw [delS_yes hf]; exact hsd, by rw [delS_yes hf]; exact hrw.erase i⟩ (kp 0 rfl (kp 3 rfl kn)) (Fit.pick (B := [_]) PickC.perm (Fit.pick (B := [_]) PickC.perm (Fit.last PickC.perm))) (fun _ h => by cases h)
    ·
      have hf : fidxL (tst of n) sks = -1 := by
        obtain ⟨hf, hz⟩ | ⟨i, x, hf, hxi, hq, hmin⟩ := fidxL_cases (tst of n) sks
        · exact hf
        · rw [hf] at hc; (simp at hc) <;> omega
      refine XC.skip ?_
      exact jn (v, rows, B) ⟨by rw [delS_no hf]; exact hsl, by rw [delS_no hf]; exact hrw⟩ (kp 0 rfl (kp 3 rfl kn)) .rfl (fun _ h => h)
  ·
    rintro ⟨v1, rows1, B1⟩ ⟨hsl1, hrw1⟩
    dsimp only at hsl1 hrw1 ⊢
    haveI := hsl1.cel
    have hdl := delS_len sks of n
    have hdd : putS sks ⟨of, n, key⟩ = List.drop ((delS sks of n ++ [(⟨of, n, key⟩ : Skp)]).length - 32) (delS sks of n ++ [(⟨of, n, key⟩ : Skp)]) := rfl
    generalize delS sks of n = ds at *
    rw [List.length_append, List.length_singleton] at hdd
    refine XC.drawF [0, 1, 2, 3, 4, 5, 6, 7, 8, 9, 10, 11, 12, 13, 14, 16, 17] [(0, 0), (1, 0), (2, 0), (3, 0), (4, 1), (5, 0), (6, 1), (8, 0), (9, 1), (10, 0), (11, 1), (7, 2), (12, 2), (13, 0), (14, 2), (15, 2), (16, 0), (17, 0), (18, 2)] (by kernel_rfl) (by kernel_rfl) fun hs => ?_
    refine XF.q hs rfl (q_move rfl) rfl ?_
    refine XF.q hs rfl (q_move rfl) rfl ?_
    refine XF.q hs rfl (q_nil rfl) rfl ?_
    refine XF.q hs rfl (q_fieldAddrN 0 (off := 0) rfl (by kernel_rfl) rfl) rfl ?_
    refine XF.r hs rfl (q_load rfl (by kernel_rfl) (by first | exact At.mem | exact mA (by assumption)) (by rfl)) rfl ?_
    refine XF.q hs rfl (q_fieldAddrN 0 (off := 0) rfl (by kernel_rfl) rfl) rfl ?_
    refine XF.r hs rfl (q_load rfl (by kernel_rfl) (by first | exact At.mem | exact mA (by assumption)) (by rfl)) rfl ?_
    refine XF.q hs rfl (q_fieldAddrN 1 (off := 1) rfl (by kernel_rfl) rfl) rfl ?_
    refine XF.r hs rfl (q_load rfl (by kernel_rfl) (by first | exact At.mem | exact mA (by assumption)) (by rfl)) rfl ?_
    refine XF.q hs rfl (q_fieldAddrN 2 (off := 2) rfl (by kernel_rfl) rfl) rfl ?_
    refine XF.r hs rfl (q_load rfl (by kernel_rfl) (by first | exact At.mem | exact mA (by assumption)) (by rfl)) rfl ?_
    refine XF.call rfl (aS rfl a0) (by kernel_rfl) (cloneB_spec vof of _ (hof.mono (fun x hx => mA (hR x hx)))) rfl ?_
    rintro v33 M33 J33 ⟨rfl, h33⟩
    haveI := h33.cel
    refine XF.call rfl (aS rfl a0) (by kernel_rfl) (cloneB_spec vk key _ (hk.mono (fun x hx => mA (hR x hx)))) rfl ?_
    rintro v38 M38 J38 ⟨rfl, h38⟩
    haveI := h38.cel
    refine XF.q hs rfl (q_build (place := fun x => #[(0, 1), (1, 1), (2, 1)][x]?) (z := [.slice none 0 0, .int .u32 0, .slice none 0 0]) (fun _ => by kernel_rfl) (eS rfl (eS rfl (eS rfl e0))) (bdS 0 1 rfl (by rfl) (bdS 1 1 rfl (by rfl) (bdS 2 1 rfl (by rfl) bd0)))) rfl ?_
    refine XF.lo rfl rfl fun _ => (l_buildSlice (e := 53) (sz := 3) (z := [.slice none 0 0, .int .u32 0, .slice none 0 0]) (by kernel_rfl) (eS rfl e0) (bdS 0 3 rfl (by rfl) bd0) rfl fun b40 => ?_)
    refine XF.tl rfl rfl rfl (l_append2 (e := 53) (sz := 3) (by_ := 56) rfl rfl (by kernel_rfl) rfl hsl1 (Rd.whole (n := 1) At.mem (by rfl)) (by intro c hc; simp only [List.mem_cons, List.not_mem_nil, or_false] at hc; rcases hc with rfl | rfl | rfl; exact h33.one; rfl; exact h38.one) PickC.perm (by unfold maxLen; omega) (by omega) rfl fun v41 B41 hs41 => ?_)
    haveI := hs41.cel
    refine XF.q hs rfl (q_nil rfl) rfl ?_
    refine XF.q hs rfl (q_fieldAddrN 0 (off := 0) rfl (by kernel_rfl) rfl) rfl ?_
    refine XF.tl rfl rfl rfl (l_store rfl rfl hs41.one (by kernel_rfl) SetC.set UpC.upd ?_)
    obtain ⟨B42, hsub42, hs42⟩ := hs41.loV (ds.length + 1 - 32) (by omega)
    refine XF.fin (kp 0 rfl kn) ?_
    refine XC.drawF1 [0, 1, 2, 3, 4, 5, 6, 7, 8, 9, 10, 11, 12, 13, 14] [(0, 0), (1, 0), (2, 0), (3, 0), (4, 1), (5, 0), (6, 0), (7, 0), (8, 1), (9, 0), (10, 0), (11, 0), (12, 0), (13, 0), (14, 0), (15, 2)] (by kernel_rfl) (by kernel_rfl) fun hs => ?_
    refine XF.q hs rfl (q_move rfl) rfl ?_
    refine XF.q hs rfl (q_move rfl) rfl ?_
    refine XF.q hs rfl (q_nil rfl) rfl ?_
    refine XF.q hs rfl (q_fieldAddrN 0 (off := 0) rfl (by kernel_rfl) rfl) rfl ?_
    refine XF.r hs rfl (q_load rfl (by kernel_rfl) (by first | exact At.mem | exact mA (by assumption)) (by rfl)) rfl ?_
    refine XF.q hs rfl (q_move rfl) rfl ?_
    refine XF.q hs rfl (q_nil rfl) rfl ?_
    refine XF.q hs rfl (q_fieldAddrN 0 (off := 0) rfl (by kernel_rfl) rfl) rfl ?_
    refine XF.r hs rfl (q_load rfl (by kernel_rfl) (by first | exact At.mem | exact mA (by assumption)) (by rfl)) rfl ?_
    refine XF.q hs rfl (q_lenV2 (sz := 3) rfl (by kernel_rfl) (hs41.rd (R := B41) fun _ h => h)) rfl ?_
    refine XF.q hs rfl (q_num (((ds.length + 1 : Nat) : Int) - 32) rfl rfl (sub64 (by omega) (by omega) (by omega))) rfl ?_
    refine XF.q hs rfl (q_maxR (((ds.length + 1 - 32 : Nat)) : Int) rfl rfl (by split <;> omega)) rfl ?_
    refine XF.q hs rfl (q_loV2 (sz := 3) (a := ds.length + 1 - 32) rfl rfl (by kernel_rfl) rfl (hs41.rd (R := B41) fun _ h => h) (by omega)) rfl ?_
    refine XF.q hs rfl (q_nil rfl) rfl ?_
    refine XF.q hs rfl (q_fieldAddrN 0 (off := 0) rfl (by kernel_rfl) rfl) rfl ?_
    refine XF.tl rfl rfl rfl (l_store rfl rfl hs42.one (by kernel_rfl) SetC.set UpC.upd ?_)
    refine XF.nil ?_
    refine ⟨_, (sb, blk [vLo (ds.length + 1 - 32) 3 v41] 38) :: B42, [], res0 rfl, Fit.none (Fit.pick (B := [_]) PickC.perm (fit_lastS (B := B41) PickC.perm hsub42)), rfl, ⟨_, (rows1 ++ [[v33, .int .u32 ((n : Nat) : Int), v38]]).drop (ds.length + 1 - 32), B42, rfl, ?_, ?_⟩⟩
    · refine Sl.cast hs42 ?_ ?_
      · rw [hdd, List.length_drop, List.length_append, List.length_singleton]
      · rw [← flat_drop (s := 3) (by intro r hr; rcases List.mem_append.1 hr with h | h; exact hrw1.lens skT r h; rw [List.mem_singleton.1 h]; rfl)]; simp
    · rw [hdd]
      refine (RwL.snoc (x := (⟨of, n, key⟩ : Skp)) (r := [v33, .int .u32 ((n : Nat) : Int), v38]) (hrw1.mono skT (fun x hx => List.mem_append_right _ hx)) ⟨v33, v38, rfl, h33.mono (fun x hx => ?_), h38.mono (fun x hx => ?_), hn⟩).drop _ <;> simp [hx]

set_option maxRecDepth 100000 in
theorem get_spec (sb : Nat) (v vof : Value) (rows : List (List Value)) (sks : List Skp) (of : List Nat) (n : Nat) (A : Mem) (hsb : (sb, blk [v] 38) ∈ A) (hv : Rd A 3 v sks.length rows.flatten) (hrw : RwL skR A rows sks) (hl : sks.length ≤ 1000000) (hof : By A vof of) : FnX Tryd.prog 18 [.pointer (some ⟨sb, 0, none⟩), vof, .int .u32 ((n : Nat) : Int)] [] A fun q M J => M = [] ∧ ∃ u, q = .tuple #[u, .bool (getS sks of n).isSome] ∧ By J u ((getS sks of n).getD []) := by
  haveI := hof.cel
  haveI := hv.cel
  refine FnX.enterZ (N := 24) Tryd.func18 rfl rfl rfl fun w_ => ?_
  refine XC.keep (kp 0 rfl (kp 1 rfl (kp 2 rfl kn))) ?_
  refine XC.reg ?_
  refine XL.q (q_assign rfl) rfl ?_
  refine XL.q (q_assign rfl) rfl ?_
  refine XL.fin (kp 0 rfl (kp 1 rfl (kp 2 rfl kn))) ?_
  refine XC.reg ?_
  refine XL.q (q_move rfl) rfl ?_
  refine XL.q (q_move rfl) rfl ?_
  refine XL.q (q_move rfl) rfl ?_
  refine XL.callV (aS rfl (aS rfl (aS rfl a0))) (by kernel_rfl) (find_spec sb v vof rows sks of n _ (mA hsb) (hv.mono SubC.sub) (hrw.mono skT SubC.sub) hl (hof.mono SubC.sub)) rfl ?_
  refine XL.q (q_assign rfl) rfl ?_
  refine XL.fin (kp 0 rfl (kp 8 rfl kn)) ?_
  refine XC.seq ?_
  refine XC.reg ?_
  refine XL.q (q_move rfl) rfl ?_
  refine XL.q (q_bin rfl rfl rfl) rfl ?_
  refine XL.fin (kp 0 rfl (kp 8 rfl (kp 14 rfl kn))) ?_
  refine XC.cond rfl (fun hc => ?_) (fun hc => ?_)
  ·
    have hf : fidxL (tst of n) sks = -1 := by
      obtain ⟨hf, hz⟩ | ⟨i, x, hf, hxi, hq, hmin⟩ := fidxL_cases (tst of n) sks
      · exact hf
      · rw [hf] at hc; (simp at hc) <;> omega
    refine XC.reg ?_
    refine XL.q (q_assign rfl) rfl ?_
    refine XL.q (q_assign rfl) rfl ?_
    refine XL.fin (kp 6 rfl (kp 7 rfl kn)) ?_
    refine XC.ret ?_
    refine tr ?_
    exact ⟨_, [], [], res2 rfl rfl rfl, Fit.sub (List.nil_sublist _), rfl, _, by rw [getS_no hf]; rfl, by rw [getS_no hf]; exact By.nil⟩
  ·
    obtain ⟨hf, hz⟩ | ⟨i, x, hf, hxi, hq, hmin⟩ := fidxL_cases (tst of n) sks
    · rw [hf] at hc; simp at hc
    have hil := (List.getElem?_eq_some_iff.1 hxi).1
    rw [hf]
    obtain ⟨r, hr, vo, vk, rfl, ho, hk, hn⟩ := hrw.get i x hxi
    haveI := hk.cel
    refine XC.skip ?_
    refine nx (kp 0 rfl (kp 8 rfl kn)) ?_
    refine XC.reg ?_
    refine XL.q (q_move rfl) rfl ?_
    refine XL.q (q_nil rfl) rfl ?_
    refine XL.q (q_fieldAddrN 0 (off := 0) rfl (by kernel_rfl) rfl) rfl ?_
    refine XL.q (q_load rfl (by kernel_rfl) (mA hsb) (by rfl)) rfl ?_
    refine XL.q (q_move rfl) rfl ?_
    refine XL.q (q_atV2 (sz := 3) rfl rfl (by kernel_rfl) rfl hv hil) rfl ?_
    refine XL.q (q_fldV (off := 2) rfl hv hil (by kernel_rfl)) rfl ?_
    refine XL.q (q_ldVF (u := vk) rfl (hv.mono SubC.sub) (by omega) (by kernel_rfl) (by rw [flat_get (hrw.lens skT) hr 2 (by decide)]; rfl)) rfl ?_
    refine XL.call (aS rfl a0) (by kernel_rfl) (cloneB_spec vk x.key _ (hk.mono SubC.sub)) rfl ?_
    rintro v23 M23 J23 ⟨rfl, h23⟩
    haveI := h23.cel
    refine XL.q (q_assign rfl) rfl ?_
    refine XL.q (q_assign rfl) rfl ?_
    refine XL.fin (kp 6 rfl (kp 7 rfl kn)) ?_
    refine XC.ret ?_
    exact ⟨_, [], [], res2 rfl rfl rfl, Fit.sub (List.nil_sublist _), rfl, _, by rw [getS_yes hf hxi]; rfl, by rw [getS_yes hf hxi]; exact h23.mono SubC.sub⟩

set_option maxRecDepth 100000 in
theorem getNil_spec2 (vof : Value) (of : List Nat) (n : Nat) (A : Mem) (hof : By A vof of) : FnX Tryd.prog 18 [.pointer none, vof, .int .u32 ((n : Nat) : Int)] [] A fun q M J => M = [] ∧ q = .tuple #[.slice none 0 0, .bool false] := by
  haveI := hof.cel
  refine FnX.enterZ (N := 24) Tryd.func18 rfl rfl rfl fun w_ => ?_
  refine XC.keep (kp 0 rfl (kp 1 rfl (kp 2 rfl kn))) ?_
  refine XC.reg ?_
  refine XL.q (q_assign rfl) rfl ?_
  refine XL.q (q_assign rfl) rfl ?_
  refine XL.fin (kp 0 rfl (kp 1 rfl (kp 2 rfl kn))) ?_
  refine XC.reg ?_
  refine XL.q (q_move rfl) rfl ?_
  refine XL.q (q_move rfl) rfl ?_
  refine XL.q (q_move rfl) rfl ?_
  refine XL.callV (aS rfl (aS rfl (aS rfl a0))) (by kernel_rfl) (findNil_spec2 vof of n _ (hof.mono SubC.sub)) rfl ?_
  refine XL.q (q_assign rfl) rfl ?_
  refine XL.fin (kp 0 rfl (kp 8 rfl kn)) ?_
  refine XC.seq ?_
  refine XC.reg ?_
  refine XL.q (q_move rfl) rfl ?_
  refine XL.q (q_cmp true rfl rfl (ltT (by decide))) rfl ?_
  refine XL.fin (kp 0 rfl (kp 8 rfl (kp 14 rfl kn))) ?_
  refine XC.condT rfl ?_
  refine XC.reg ?_
  refine XL.q (q_assign rfl) rfl ?_
  refine XL.q (q_assign rfl) rfl ?_
  refine XL.fin (kp 6 rfl (kp 7 rfl kn)) ?_
  refine XC.ret ?_
  refine tr ?_
  exact ⟨_, [], [], res2 rfl rfl rfl, Fit.sub (List.nil_sublist _), rfl, rfl⟩

set_option maxRecDepth 100000 in
theorem drop_spec (sb : Nat) (vof : Value) (sks : List Skp) (of : List Nat) (n : Nat) (R MS A : Mem) (hS : Sto R sb sks MS) (hR : ∀ x, x ∈ R → x ∈ A) (hl : sks.length ≤ 1000000) (hof : By R vof of) : FnX Tryd.prog 22 [.pointer (some ⟨sb, 0, none⟩), vof, .int .u32 ((n : Nat) : Int)] MS A fun q M J => q = .bool (decide (fidxL (tst of n) sks ≥ 0)) ∧ Sto R sb (delS sks of n) M := by
  obtain ⟨v, rows, B, rfl, hsl, hrw⟩ := hS.ex
  haveI := hsl.cel
  haveI := hof.cel
  refine FnX.enterZ (N := 27) Tryd.func22 rfl rfl rfl fun w_ => ?_
  refine XC.keep (kp 0 rfl (kp 1 rfl (kp 2 rfl kn))) ?_
  refine XC.reg ?_
  refine XL.q (q_assign rfl) rfl ?_
  refine XL.fin (kp 0 rfl (kp 1 rfl (kp 2 rfl kn))) ?_
  refine XC.reg ?_
  refine XL.q (q_move rfl) rfl ?_
  refine XL.q (q_move rfl) rfl ?_
  refine XL.q (q_move rfl) rfl ?_
  refine XL.callV (aS rfl (aS rfl (aS rfl a0))) (by kernel_rfl) (find_spec sb v vof rows sks of n _ (by simp) (hsl.rd SubC.sub) (hrw.mono skT (fun x hx => mA (hR x hx))) hl (hof.mono (fun x hx => mA (hR x hx)))) rfl ?_
  refine XL.q (q_assign rfl) rfl ?_
  refine XL.fin (kp 0 rfl (kp 7 rfl kn)) ?_
  refine XC.join (α := Value × List (List Value) × Mem) (fun x => [(7, .int .i64 (fidxL (tst of n) sks))]) (fun x => (sb, blk [x.1] 38) :: x.2.2) (fun _ => []) (fun x => Sl 3 x.1 (delS sks of n).length x.2.1.flatten x.2.2 ∧ RwL skR R x.2.1 (delS sks of n)) ?_ ?_
  ·
    refine XC.reg ?_
    refine XL.q (q_move rfl) rfl ?_
    refine XL.q (q_bin rfl rfl rfl) rfl ?_
    refine XL.fin (kp 0 rfl (kp 7 rfl (kp 13 rfl kn))) ?_
    refine XC.cond rfl (fun hc => ?_) (fun hc => ?_)
    ·
      obtain ⟨hf, hz⟩ | ⟨i, x, hf, hxi, hq, hmin⟩ := fidxL_cases (tst of n) sks
      · rw [hf] at hc; simp at hc
      have hil := (List.getElem?_eq_some_iff.1 hxi).1
      rw [hf]
      obtain ⟨p, rfl, h0, _, _⟩ | ⟨b, o, cap, cs, e, rfl, rfl, g1, g2, g3, g4, g5⟩ := hsl
      · omega
      refine XC.reg1 ?_
      refine XL.q (q_move rfl) rfl ?_
      refine XL.q (q_move rfl) rfl ?_
      refine XL.q (q_nil rfl) rfl ?_
      refine XL.q (q_fieldAddrN 0 (off := 0) rfl (by kernel_rfl) rfl) rfl ?_
      refine XL.q (q_load rfl (by kernel_rfl) (by first | exact At.mem | exact mA (by assumption)) (by rfl)) rfl ?_
      refine XL.q (q_move rfl) rfl ?_
      refine XL.q (q_move rfl) rfl ?_
      refine XL.q (q_addI (b := 1) rfl rfl rfl rfl (by omega)) rfl ?_
      refine XL.lo rfl (l_call (Mc := [(b, blk cs e)]) (R := _) (aS rfl (aS rfl (aS rfl a0))) (by kernel_rfl) PickC.perm (delete_Skip b o cap sks.length i (i + 1) cs rows.flatten e _ g1 g2 g3 g4 g5 (hrw.ones skT) (by omega) (by omega)) rfl ?_)
      rintro v22 M22 J22 ⟨rfl, hs22⟩
      have hsd : Sl 3 v22 (sks.eraseIdx i).length (rows.take i ++ rows.drop (i + 1)).flatten M22 := by
        have h := hs22
        rw [flat_erase (hrw.lens skT)] at h
        exact Sl.cast h (by rw [List.length_eraseIdx, if_pos hil]; omega) rfl
      haveI := hsd.cel
      refine XL.q (q_nil rfl) rfl ?_
      refine XL.q (q_fieldAddrN 0 (off := 0) rfl (by kernel_rfl) rfl) rfl ?_
      refine XL.lo rfl (l_store rfl rfl hsd.one (by kernel_rfl) SetC.set UpC.upd ?_)
      refine XL.nil ?_
      exact jn (v22, rows.take i ++ rows.drop (i + 1), M22) ⟨by rw [delS_yes hf]; exact hsd, by rw [delS_yes hf]; exact hrw.erase i⟩ (kp 7 rfl kn) (Fit.pick (B := [_]) PickC.perm (Fit.last PickC.perm)) (fun _ h => by cases h)
    ·
      have hf : fidxL (tst of n) sks = -1 := by
        obtain ⟨hf, hz⟩ | ⟨i, x, hf, hxi, hq, hmin⟩ := fidxL_cases (tst of n) sks
        · exact hf
        · rw [hf] at hc; (simp at hc) <;> omega
      refine XC.skip ?_
      exact jn (v, rows, B) ⟨by rw [delS_no hf]; exact hsl, by rw [delS_no hf]; exact hrw⟩ (kp 7 rfl kn) .rfl (fun _ h => h)
  ·
    rintro ⟨v1, rows1, B1⟩ ⟨hsl1, hrw1⟩
    dsimp only at hsl1 hrw1 ⊢
    refine XC.reg ?_
    refine XL.q (q_move rfl) rfl ?_
    refine XL.q (q_bin rfl rfl rfl) rfl ?_
    refine XL.q (q_assign rfl) rfl ?_
    refine XL.fin (kp 6 rfl kn) ?_
    refine XC.ret ?_
    exact ⟨_, _, [], res1 rfl rfl, Fit.none .rfl, rfl, ⟨v1, rows1, B1, rfl, hsl1, hrw1⟩⟩

set_option maxRecDepth 100000 in
theorem dropNil_spec (vof : Value) (of : List Nat) (n : Nat) (A : Mem) (hof : By A vof of) : FnX Tryd.prog 22 [.pointer none, vof, .int .u32 ((n : Nat) : Int)] [] A fun q M J => M = [] ∧ q = .bool false := by
  haveI := hof.cel
  refine FnX.enterZ (N := 27) Tryd.func22 rfl rfl rfl fun w_ => ?_
  refine XC.keep (kp 0 rfl (kp 1 rfl (kp 2 rfl kn))) ?_
  refine XC.reg ?_
  refine XL.q (q_assign rfl) rfl ?_
  refine XL.fin (kp 0 rfl (kp 1 rfl (kp 2 rfl kn))) ?_
  refine XC.reg ?_
  refine XL.q (q_move rfl) rfl ?_
  refine XL.q (q_move rfl) rfl ?_
  refine XL.q (q_move rfl) rfl ?_
  refine XL.callV (aS rfl (aS rfl (aS rfl a0))) (by kernel_rfl) (findNil_spec2 vof of n _ (hof.mono SubC.sub)) rfl ?_
  refine XL.q (q_assign rfl) rfl ?_
  refine XL.fin (kp 0 rfl (kp 7 rfl kn)) ?_
  refine XC.seq ?_
  refine XC.reg ?_
  refine XL.q (q_move rfl) rfl ?_
  refine XL.q (q_cmp false rfl rfl (geF (by decide))) rfl ?_
  refine XL.fin (kp 0 rfl (kp 7 rfl (kp 13 rfl kn))) ?_
  refine XC.condF rfl ?_
  refine XC.skip ?_
  refine nx (kp 7 rfl kn) ?_
  refine XC.reg ?_
  refine XL.q (q_move rfl) rfl ?_
  refine XL.q (q_cmp false rfl rfl (geF (by decide))) rfl ?_
  refine XL.q (q_assign rfl) rfl ?_
  refine XL.fin (kp 6 rfl kn) ?_
  refine XC.ret ?_
  exact ⟨_, [], [], res1 rfl rfl, Fit.sub (List.nil_sublist _), rfl, rfl⟩

set_option maxRecDepth 100000 in
theorem slen_spec (sb k : Nat) (v : Value) (xs : List Value) (A : Mem) (hsb : (sb, blk [v] 38) ∈ A) (hv : Rd A 3 v k xs) : FnV Tryd.prog 17 [.pointer (some ⟨sb, 0, none⟩)] A (.int .i64 (k : Int)) := by
  haveI := hv.cel
  refine FnX.enter (N := 10) Tryd.func17 rfl rfl rfl fun w => ?_
  refine XC.keep (kp 0 rfl kn) ?_
  refine XC.reg ?_
  refine XL.q (q_assign rfl) rfl ?_
  refine XL.fin (kp 0 rfl kn) ?_
  refine XC.seq ?_
  refine XC.reg ?_
  refine XL.q (q_move rfl) rfl ?_
  refine XL.q (q_ptrEqNil (e := 38) rfl rfl (by kernel_rfl)) rfl ?_
  refine XL.fin (kp 0 rfl (kp 4 rfl kn)) ?_
  refine XC.condF rfl ?_
  refine XC.skip ?_
  refine nx (kp 0 rfl kn) ?_
  refine XC.reg ?_
  refine XL.q (q_move rfl) rfl ?_
  refine XL.q (q_nil rfl) rfl ?_
  refine XL.q (q_fieldAddrN 0 (off := 0) rfl (by kernel_rfl) rfl) rfl ?_
  refine XL.q (q_load rfl (by kernel_rfl) (mA hsb) (by rfl)) rfl ?_
  refine XL.q (q_lenV2 (sz := 3) rfl (by kernel_rfl) hv) rfl ?_
  refine XL.q (q_assign rfl) rfl ?_
  refine XL.fin (kp 2 rfl kn) ?_
  refine XC.ret ?_
  exact ⟨_, [], [], res1 rfl rfl, List.nil_sublist _, by simp, rfl, rfl, rfl⟩

set_option maxRecDepth 100000 in
theorem slenNil_spec (A : Mem) : FnV Tryd.prog 17 [.pointer none] A (.int .i64 0) := by
  refine FnX.enter (N := 10) Tryd.func17 rfl rfl rfl fun w => ?_
  refine XC.keep (kp 0 rfl kn) ?_
  refine XC.reg ?_
  refine XL.q (q_assign rfl) rfl ?_
  refine XL.fin (kp 0 rfl kn) ?_
  refine XC.seq ?_
  refine XC.reg ?_
  refine XL.q (q_move rfl) rfl ?_
  refine XL.q (q_ptrEqNil (e := 38) rfl rfl (by kernel_rfl)) rfl ?_
  refine XL.fin (kp 0 rfl (kp 4 rfl kn)) ?_
  refine XC.condT rfl ?_
  refine XC.reg ?_
  refine XL.q (q_assign rfl) rfl ?_
  refine XL.fin (kp 2 rfl kn) ?_
  refine XC.ret ?_
  refine tr ?_
  exact ⟨_, [], [], res1 rfl rfl, List.nil_sublist _, by simp, rfl, rfl, rfl⟩

set_option maxRecDepth 100000 in
theorem allNil_spec (A : Mem) : FnV Tryd.prog 26 [.pointer none] A (.slice none 0 0) := by
  refine FnX.enter (N := 10) Tryd.func26 rfl rfl rfl fun w => ?_
  refine XC.keep (kp 0 rfl kn) ?_
  refine XC.reg ?_
  refine XL.q (q_assign rfl) rfl ?_
  refine XL.fin (kp 0 rfl kn) ?_
  refine XC.seq ?_
  refine XC.reg ?_
  refine XL.q (q_move rfl) rfl ?_
  refine XL.q (q_ptrEqNil (e := 38) rfl rfl (by kernel_rfl)) rfl ?_
  refine XL.fin (kp 0 rfl (kp 4 rfl kn)) ?_
  refine XC.condT rfl ?_
  refine XC.reg ?_
  refine XL.q (q_assign rfl) rfl ?_
  refine XL.fin (kp 2 rfl kn) ?_
  refine XC.ret ?_
  refine tr ?_
  exact ⟨_, [], [], res1 rfl rfl, List.nil_sublist _, by simp, rfl, rfl, rfl⟩

set_option maxRecDepth 100000 in
theorem all_spec (sb k : Nat) (v : Value) (xs : List Value) (A : Mem) (hsb : (sb, blk [v] 38) ∈ A) (hv : Rd A 3 v k xs) (h1 : ∀ c ∈ xs, c.oneCell' = true) (hk : k ≤ 1099511627776) : FnX Tryd.prog 26 [.pointer (some ⟨sb, 0, none⟩)] [] A fun q M J => Sl 3 q k xs M := by
  haveI := hv.cel
  refine FnX.enterZ (N := 10) Tryd.func26 rfl rfl rfl fun w_ => ?_
  refine XC.keep (kp 0 rfl kn) ?_
  refine XC.reg ?_
  refine XL.q (q_assign rfl) rfl ?_
  refine XL.fin (kp 0 rfl kn) ?_
  refine XC.seq ?_
  refine XC.reg ?_
  refine XL.q (q_move rfl) rfl ?_
  refine XL.q (q_ptrEqNil (e := 38) rfl rfl (by kernel_rfl)) rfl ?_
  refine XL.fin (kp 0 rfl (kp 4 rfl kn)) ?_
  refine XC.condF rfl ?_
  refine XC.skip ?_
  refine nx (kp 0 rfl kn) ?_
  refine XC.reg ?_
  refine XL.q (q_move rfl) rfl ?_
  refine XL.q (q_nil rfl) rfl ?_
  refine XL.q (q_fieldAddrN 0 (off := 0) rfl (by kernel_rfl) rfl) rfl ?_
  refine XL.q (q_load rfl (by kernel_rfl) (mA hsb) (by rfl)) rfl ?_
  refine XL.call (aS rfl a0) (by kernel_rfl) (clone_Skip v k xs _ (hv.mono SubC.sub) h1 hk) rfl ?_
  rintro v9 M9 J9 hs9
  haveI := hs9.cel
  refine XL.q (q_assign rfl) rfl ?_
  refine XL.fin (kp 2 rfl kn) ?_
  refine XC.ret ?_
  exact ⟨_, M9, [], res1 rfl rfl, Fit.none (Fit.last PickC.perm), hs9⟩

set_option maxRecDepth 100000 in
theorem copy_spec (sb k : Nat) (v : Value) (xs : List Value) (A : Mem) (hsb : (sb, blk [v] 38) ∈ A) (hv : Rd A 3 v k xs) (h1 : ∀ c ∈ xs, c.oneCell' = true) (hk : k ≤ 1099511627776) : FnX Tryd.prog 25 [.pointer (some ⟨sb, 0, none⟩)] [] A fun q M J => ∃ cb u B, q = .pointer (some ⟨cb, 0, none⟩) ∧ M = (cb, blk [u] 38) :: B ∧ Sl 3 u k xs B := by
  refine FnX.enterZ (N := 7) Tryd.func25 rfl rfl rfl fun w_ => ?_
  refine XC.keep (kp 0 rfl kn) ?_
  refine XC.reg ?_
  refine XL.q (q_assign rfl) rfl ?_
  refine XL.fin (kp 0 rfl kn) ?_
  refine XC.reg ?_
  refine XL.q (q_move rfl) rfl ?_
  refine XL.call (aS rfl a0) (by kernel_rfl) (all_spec sb k v xs _ (mA hsb) (hv.mono SubC.sub) h1 hk) rfl ?_
  rintro v4 M4 J4 hs4
  haveI := hs4.cel
  refine XL.q (q_build (place := fun x => #[(0, 1)][x]?) (z := [.slice none 0 0]) (fun _ => by kernel_rfl) (eS rfl e0) (bdS 0 1 rfl (by rfl) bd0)) rfl ?_
  refine XL.lo rfl (l_box rfl (by first | exact Cel.cel | rfl) rfl fun b6 => ?_)
  refine XL.q (q_assign rfl) rfl ?_
  refine XL.fin (kp 2 rfl kn) ?_
  refine XC.ret ?_
  exact ⟨_, (b6, _) :: M4, [], res1 rfl rfl, Fit.none (Fit.pick (B := [_]) PickC.perm (Fit.last PickC.perm)), b6, v4, M4, rfl, rfl, hs4⟩

set_option maxRecDepth 100000 in
theorem copyNil_spec (A : Mem) : FnX Tryd.prog 25 [.pointer none] [] A fun q M J => ∃ cb u B, q = .pointer (some ⟨cb, 0, none⟩) ∧ M = (cb, blk [u] 38) :: B ∧ Sl 3 u 0 [] B := by
  refine FnX.enterZ (N := 7) Tryd.func25 rfl rfl rfl fun w_ => ?_
  refine XC.keep (kp 0 rfl kn) ?_
  refine XC.reg ?_
  refine XL.q (q_assign rfl) rfl ?_
  refine XL.fin (kp 0 rfl kn) ?_
  refine XC.reg ?_
  refine XL.q (q_move rfl) rfl ?_
  refine XL.callV (aS rfl a0) (by kernel_rfl) (allNil_spec _) rfl ?_
  refine XL.q (q_build (place := fun x => #[(0, 1)][x]?) (z := [.slice none 0 0]) (fun _ => by kernel_rfl) (eS rfl e0) (bdS 0 1 rfl (by rfl) bd0)) rfl ?_
  refine XL.lo rfl (l_box rfl (by first | exact Cel.cel | rfl) rfl fun b6 => ?_)
  refine XL.q (q_assign rfl) rfl ?_
  refine XL.fin (kp 2 rfl kn) ?_
  refine XC.ret ?_
  exact ⟨_, [(b6, _)], [], res1 rfl rfl, Fit.none (Fit.last PickC.perm), b6, _, [], rfl, rfl, Sl.nil⟩
