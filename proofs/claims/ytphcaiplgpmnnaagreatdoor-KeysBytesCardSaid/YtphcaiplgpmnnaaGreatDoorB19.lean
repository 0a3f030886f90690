/- Part 19 of the texts of this claim, one behind the other. -/
import Derived.Test.YtphcaiplgpmnnaaGreatDoorB18
import Derived.Laws.StructEq
set_option linter.unusedVariables false
set_option linter.unusedSimpArgs false
set_option maxRecDepth 100000
namespace Go.Proofs.YtphcaiplgpmnnaaGreatDoor
open Go.Px
theorem rnN_lk {st : Rst} (h : ∀ x ∈ st.1, x < 256) (k : Nat) : rnN st k < 256 ^ k := by
  unfold rnN
  split
  · exact Nat.pow_pos (by decide)
  · rename_i hc
    have h1 := bev_lt (ws := st.1.take k) fun x hx => h x (List.mem_of_mem_take hx)
    exact Nat.lt_of_lt_of_le h1 (Nat.pow_le_pow_right (by decide) (List.length_take_le _ _))
theorem Rdr.lt {rb : Nat} {st : Rst} {R M : Mem} (h : Rdr rb st R M) : ∀ x ∈ st.1, x < 256 := by
  obtain ⟨v, _, hb⟩ := h.ex; exact hb.lt
theorem Rdr.lt4 {rb : Nat} {st : Rst} {R M : Mem} (h : Rdr rb st R M) : rnN st 4 < 4294967296 := rnN_lk h.lt 4
theorem dPs_snoc : ∀ (i : Nat) (st : Rst), dPs (i + 1) st = ((dPs i st).1 ++ [dPr (dPs i st).2], dPrS (dPs i st).2)
  | 0, st => rfl
  | i + 1, st => by
    have h := dPs_snoc i (dPrS st)
    rw [dPs, h]
    rfl
theorem dPs_len (i : Nat) (st : Rst) : (dPs i st).1.length = i := (dPs_le i st).2

theorem rcount_spec (rb most : Nat) (st : Rst) (R M A : Mem) (hR : Rdr rb st R M) (hs : ∀ x, x ∈ R → x ∈ A) (hm : most ≤ 65535) : FnX Tryz.prog 75 [.pointer (some ⟨rb, 0, none⟩), .int .i64 ((most : Nat) : Int)] M A fun q M J => q = .int .i64 ((ctN st most : Nat) : Int) ∧ Rdr rb (ctS st most) R M := by
 refine FnX.enterZ (N := 20) Tryz.func75 rfl rfl rfl fun w_ => ?_
 refine XC.keep (kq 0 (kq 1 kn)) ?_
 refine XC.reg ?_
 refine as_ ?_
 refine XL.fin (kq 0 (kq 1 kn)) ?_
 refine XC.reg ?_
 refine mv_ ?_
 refine XL.lo rfl (l_call (Mc := M) (R := _) (aS rfl (aS rfl a0)) (by kernel_rfl) PickC.perm (rnum_spec rb 2 st R M _ hR (fun x hx => SubC.sub x (hs x hx)) (by decide)) rfl ?_)
 rintro v7 M7 J7 ⟨rfl, hR7⟩
 have hn2 : rnN st 2 < 65536 := rnN_lk hR.lt 2
 refine as_ ?_
 refine XL.fin (kq 0 (kq 1 (kq 5 kn))) ?_
 refine XC.seq ?_
 refine XC.reg ?_
 refine mv_ ?_
 refine XL.q (q_cmp false rfl rfl (ltF (by omega))) rfl ?_
 refine mv_ ?_
 refine XL.gy rfl rfl (OpQ.opL qm_ rfl ?_)
 refine XL.gy rfl rfl (OpQ.opL qm_ rfl ?_)
 refine XL.gy rfl rfl (OpQ.opL (q_convN (k' := .u64) most rfl (by kernel_rfl) (wrapU64 (by omega))) rfl ?_)
 refine XL.gy rfl rfl (OpQ.opL (q_cmp (decide (most < rnN st 2)) rfl rfl (gtN _ _)) rfl ?_)
 refine XL.q (q_pickF rfl rfl) rfl ?_
 refine XL.fin (kq 0 (kq 5 (kq 15 kn))) ?_
 refine XC.cond rfl (fun hc => ?_) (fun hc => ?_)
 ·
  have hc2 : rnN st 2 > most := of_decide_eq_true hc
  have e1 : ctN st most = 0 := if_pos hc2
  have e2 : ctS st most = ((rnS st 2).1, true) := if_pos hc2
  refine XC.reg ?_
  refine mv_ ?_
  refine XL.lo rfl (l_call (Mc := M7) (R := _) (aS rfl a0) (by kernel_rfl) PickC.perm (spoil_spec rb _ R M7 _ hR7) rfl ?_)
  rintro v17 M17 J17 hR17
  refine XL.fin kn ?_
  refine XC.reg ?_
  refine as_ ?_
  refine XL.fin (kq 4 kn) ?_
  refine XC.ret ?_
  refine tr ?_
  exact ⟨_, M17, [], res1 rfl rfl, Fit.none (Fit.last PickC.perm), by rw [e1]; rfl, by rw [e2]; exact hR17⟩
 ·
  have hc2 : ¬ rnN st 2 > most := of_decide_eq_false hc
  have e1 : ctN st most = rnN st 2 := if_neg hc2
  have e2 : ctS st most = rnS st 2 := if_neg hc2
  refine XC.skip ?_
  refine nx (kq 5 kn) ?_
  refine XC.reg ?_
  refine mv_ ?_
  refine XL.q (q_same (k' := .i64) rfl (by kernel_rfl) (by show _ < 9223372036854775808; omega)) rfl ?_
  refine as_ ?_
  refine XL.fin (kq 4 kn) ?_
  refine XC.ret ?_
  exact ⟨_, M7, [], res1 rfl rfl, Fit.none (Fit.last PickC.perm), by rw [e1], by rw [e2]; exact hR7⟩

theorem decc_f (vs vg vs2 vg2 : Value) (x y : Pr) (A : Mem) (h1 : By A vs x.sec) (h2 : By A vg x.sig) (h3 : By A vs2 y.sec) (h4 : By A vg2 y.sig) : FnV Tryz.prog 78 [.agg #[.int .u32 ((x.n : Nat) : Int), vs, vg], .agg #[.int .u32 ((y.n : Nat) : Int), vs2, vg2]] A (.int .i64 (cmpK x.n y.n)) := by
 haveI := h1.cel
 haveI := h2.cel
 haveI := h3.cel
 haveI := h4.cel
 refine FnX.enter (N := 10) Tryz.func78 rfl rfl rfl fun w_ => ?_
 refine XC.keep (kq 0 (kq 1 kn)) ?_
 refine XC.reg ?_
 refine XL.lo rfl (bx_ fun b2 => ?_)
 refine XL.lo rfl (bx_ fun b3 => ?_)
 refine as_ ?_
 refine XL.fin (kq 2 (kq 3 kn)) ?_
 refine XC.reg ?_
 refine XL.q (qf_ 0 0) rfl ?_
 refine XL.q ql_ rfl ?_
 refine XL.q (qf_ 0 0) rfl ?_
 refine XL.q ql_ rfl ?_
 refine XL.callV (aS rfl (aS rfl a0)) (by kernel_rfl) (compare32_f x.n y.n _) rfl ?_
 refine as_ ?_
 refine XL.fin (kq 4 kn) ?_
 refine XC.ret ?_
 exact ⟨_, [], [], res1 rfl rfl, List.nil_sublist _, by simp, rfl, rfl, rfl⟩

theorem sorted_f (v : Value) (rows : List (List Value)) (l : List Pr) (A : Mem) (hv : Rd A 3 v l.length rows.flatten) (hR : RwL prR A rows l) (hl : l.length ≤ 1000000) : FnV Tryz.prog 77 [v, .func (.func 78) #[] #[]] A (.bool (sortP l)) := by
 haveI := hv.cel
 refine FnX.enter (N := 25) Tryz.func77 rfl rfl rfl fun w => ?_
 refine XC.keep (kq 0 (kq 1 kn)) ?_
 refine XC.reg ?_
 refine as_ ?_
 refine XL.fin (kq 0 (kq 1 kn)) ?_
 refine XC.seq ?_
 refine XC.reg ?_
 refine mv_ ?_
 refine XL.q (q_lenV2 (sz := 3) rfl (by kernel_rfl) hv) rfl ?_
 refine XL.q (q_num (((l.length : Nat) : Int) - 1) rfl rfl (sub64 (by omega) (by omega) (by omega))) rfl ?_
 refine as_ ?_
 refine XL.fin (kq 0 (kq 1 (kq 5 kn))) ?_
 refine XC.block ?_
 refine XC.loop (α := Int) (fun i => [(0, v), (1, .func (.func 78) #[] #[]), (5, .int .i64 i)]) (fun _ => []) (fun _ => []) (fun i => -1 ≤ i ∧ i < ((l.length : Nat) : Int) ∧ sortP l = sortI l i.toNat) (fun i => i.toNat) (((l.length : Nat) : Int) - 1) ⟨by omega, by omega, by show sortI l (l.length - 1) = _; congr 1; omega⟩ (kq 0 (kq 1 (kq 5 kn))) .rfl (fun _ h => h) ?_
 rintro i ⟨hi1, hi2, hi3⟩
 refine XC.seq ?_
 refine XC.reg ?_
 refine mv_ ?_
 refine XL.q (q_cmp (decide (0 < i)) rfl rfl (by by_cases h : 0 < i; rw [decide_eq_true h]; exact gtT h; rw [decide_eq_false h]; exact gtF (by omega))) rfl ?_
 refine XL.fin (kq 0 (kq 1 (kq 5 (kq 10 kn)))) ?_
 refine XC.cond rfl (fun hc => ?_) (fun hc => ?_)
 ·
  have h0 : 0 < i := of_decide_eq_true hc
  obtain ⟨j, rfl⟩ : ∃ j : Nat, i = ((j + 1 : Nat) : Int) := ⟨i.toNat - 1, by omega⟩
  have hj1 : j + 1 < l.length := by omega
  obtain ⟨x, hx⟩ : ∃ x, l[j + 1]? = some x := ⟨_, List.getElem?_eq_getElem hj1⟩
  obtain ⟨y, hy⟩ : ∃ y, l[j]? = some y := ⟨_, List.getElem?_eq_getElem (by omega)⟩
  obtain ⟨r1, hr1, x1, x2, rfl, hx1, hx2, hxn⟩ := hR.get _ x hx
  obtain ⟨r2, hr2, y1, y2, rfl, hy1, hy2, hyn⟩ := hR.get _ y hy
  haveI := hx1.cel
  haveI := hx2.cel
  haveI := hy1.cel
  haveI := hy2.cel
  have hst := sortI_succ hx hy
  rw [Int.toNat_natCast] at hi3
  refine XC.skip ?_
  refine nx (kq 0 (kq 1 (kq 5 kn))) ?_
  refine XC.seq ?_
  refine XC.block ?_
  refine XC.drawF [0, 1, 2, 3, 4, 5, 6, 7, 8, 9, 11] [(0, 0), (1, 0), (2, 0), (3, 0), (4, 1), (5, 0), (6, 0), (7, 0), (8, 0), (9, 1), (10, 2), (11, 0)] (by kernel_rfl) (by kernel_rfl) fun hs => ?_
  refine XF.q hs rfl qm_ rfl ?_
  refine XF.q hs rfl qm_ rfl ?_
  refine XF.q hs rfl qm_ rfl ?_
  refine XF.q hs rfl (q_atV2 (sz := 3) (a := j + 1) rfl rfl (by kernel_rfl) rfl hv hj1) rfl ?_
  refine XF.r hs rfl (q_ldVR rfl (by kernel_rfl) (hv.mono SubC.sub) (hR.lens prT) (by decide) hr1) rfl ?_
  refine XF.q hs rfl qm_ rfl ?_
  refine XF.q hs rfl qm_ rfl ?_
  refine XF.q hs rfl (q_num ((j : Nat) : Int) rfl rfl (sub64 (by omega) (by omega) (by omega))) rfl ?_
  refine XF.q hs rfl (q_atV2 (sz := 3) (a := j) rfl rfl (by kernel_rfl) rfl hv (by omega)) rfl ?_
  refine XF.r hs rfl (q_ldVR rfl (by kernel_rfl) (hv.mono SubC.sub) (hR.lens prT) (by decide) hr2) rfl ?_
  refine XF.tl rfl rfl rfl (l_callFV rfl (aS rfl (aS rfl a0)) (by kernel_rfl) (decc_f x1 x2 y1 y2 x y _ (hx1.mono SubC.sub) (hx2.mono SubC.sub) (hy1.mono SubC.sub) (hy2.mono SubC.sub)) rfl ?_)
  refine XF.q hs rfl (q_cmp (decide (x.n < y.n)) rfl rfl (cmpK_lss _ _)) rfl ?_
  refine XF.fin (kq 0 (kq 1 (kq 5 (kq 24 kn)))) ?_
  refine XC.cond rfl (fun hc => ?_) (fun hc => ?_)
  ·
   have hf : sortP l = false := by rw [hi3, hst, if_pos (of_decide_eq_true hc)]
   refine XC.reg ?_
   refine as_ ?_
   refine XL.fin (kq 4 kn) ?_
   refine XC.ret ?_
   refine br ?_
   refine tr ?_
   refine rr ?_
   refine br ?_
   refine tr ?_
   exact ⟨_, [], [], res1 rfl rfl, List.nil_sublist _, by simp, by rw [hf], rfl, rfl⟩
  ·
   rw [hst, if_neg (of_decide_eq_false hc)] at hi3
   refine XC.skip ?_
   refine nb ?_
   refine nx (kq 0 (kq 1 (kq 5 kn))) ?_
   refine XC.reg1 ?_
   refine mv_ ?_
   refine XL.q (q_num ((j : Nat) : Int) rfl rfl (sub64 (by omega) (by omega) (by omega))) rfl ?_
   refine as_ ?_
   refine XL.nil ?_
   exact rn ((j : Nat) : Int) ⟨by omega, by omega, by rw [Int.toNat_natCast]; exact hi3⟩ (by omega) (kq 0 (kq 1 (kq 5 kn))) .rfl (fun _ h => h)
 ·
  have h0 : sortP l = true := by
   have h : ¬ 0 < i := of_decide_eq_false hc
   rw [hi3, show i.toNat = 0 by omega]; rfl
  refine XC.exit ?_
  refine te ?_
  refine re ?_
  refine be rfl ?_
  refine nx kn ?_
  refine XC.reg ?_
  refine as_ ?_
  refine XL.fin (kq 4 kn) ?_
  refine XC.ret ?_
  exact ⟨_, [], [], res1 rfl rfl, List.nil_sublist _, by simp, by rw [h0], rfl, rfl⟩

end Go.Proofs.YtphcaiplgpmnnaaGreatDoor
/- The walk of keys.Decode. -/
namespace Go.Proofs.YtphcaiplgpmnnaaGreatDoor
open Go.Px
theorem decOk_end {p : List Nat} (h : rEnd (dkM p).2 = false) : decOk p = false := by unfold decOk; rw [h]; simp
theorem decOk_emp {p : List Nat} (h : (dkS p).1.length = 0) : decOk p = false := by
  unfold decOk; rw [List.length_eq_zero_iff.1 h]; simp
theorem decOk_srt {p : List Nat} (h : sortP (dkO p).1 = false) : decOk p = false := by unfold decOk; rw [h]; simp
theorem decOk_enc {p : List Nat} (h : ¬ p = encK (decK p)) : decOk p = false := by
  unfold decOk; rw [decide_eq_false fun e => h e.symm]; simp
theorem decOk_all {p : List Nat} (h1 : rEnd (dkM p).2 = true) (h2 : ¬ (dkS p).1.length = 0) (h3 : sortP (dkO p).1 = true) (h4 : p = encK (decK p)) : decOk p = true := by
  unfold decOk
  have e : (dkS p).1.isEmpty = false := by
    cases hh : (dkS p).1 with
    | nil => rw [hh] at h2; exact absurd rfl h2
    | cons a l => rfl
  rw [h1, h3, e, decide_eq_true h4.symm]; rfl
/-- Keys in the making. -/
structure DeS where
  i : Nat
  vx : Value
  rx : List (List Value)
  Bx : Mem
  MR : Mem
  J : Mem

set_option maxHeartbeats 1600000 in
theorem decode_f (v : Value) (p : List Nat) (A : Mem) (hv : By A v p) (hpl : p.length ≤ 700000) : FnX Tryz.prog 29 [v] [] A fun q M J => (decOk p = true ∧ ∃ kb, q = .tuple #[.pointer (some ⟨kb, 0, none⟩), .int .i64 0] ∧ Kys J kb (decK p) M) ∨ (decOk p = false ∧ q = .tuple #[.pointer none, .int .i64 4] ∧ M = []) := by
 haveI := hv.cel
 refine FnX.enterZ (N := 120) Tryz.func29 rfl rfl rfl fun w_ => ?_
 refine XC.keep (kq 0 kn) ?_
 refine XC.reg ?_
 refine as_ (as_ ?_)
 refine XL.fin (kq 0 kn) ?_
 refine XC.reg ?_
 refine mv_ ?_
 refine XL.lo rfl (l_call0 (aS rfl a0) (by kernel_rfl) (wread_spec v p A _ hv) rfl ?_)
 rintro v11 M11 J11 ⟨rb, rfl, hR11⟩
 refine as_ ?_
 refine XL.fin (kq 0 (kq 4 kn)) ?_
 refine XC.reg ?_
 refine mv_ ?_
 refine XL.lo rfl (l_call (Mc := M11) (R := _) (aS rfl (aS rfl a0)) (by kernel_rfl) PickC.perm (rnum_spec rb 4 (p, false) A M11 _ hR11 SubC.sub (by decide)) rfl ?_)
 rintro v13 M13 J13 ⟨rfl, hR13⟩
 have hlt13 := hR11.lt4
 obtain ⟨n1, hn1⟩ : ∃ n, rnN (p, false) 4 = n := ⟨_, rfl⟩
 rw [hn1] at hlt13 ⊢
 change Rdr rb (dk1 p) A M13 at hR13
 refine XL.q (q_same (k' := .i64) rfl (by kernel_rfl) (by show _ < 9223372036854775808; omega)) rfl ?_
 refine mv_ ?_
 refine XL.lo rfl (l_call (Mc := M13) (R := _) (aS rfl (aS rfl a0)) (by kernel_rfl) PickC.perm (rnum_spec rb 4 (dk1 p) A M13 _ hR13 SubC.sub (by decide)) rfl ?_)
 rintro v16 M16 J16 ⟨rfl, hR16⟩
 have hlt16 := hR13.lt4
 obtain ⟨n2, hn2⟩ : ∃ n, rnN (dk1 p) 4 = n := ⟨_, rfl⟩
 rw [hn2] at hlt16 ⊢
 change Rdr rb (dk2 p) A M16 at hR16
 refine XL.q (q_same (k' := .i64) rfl (by kernel_rfl) (by show _ < 9223372036854775808; omega)) rfl ?_
 refine XL.q (q_build (place := fun x => #[(0, 1), (1, 1)][x]?) (z := [.int .i64 0, .int .i64 0]) (fun _ => by kernel_rfl) (eS rfl (eS rfl e0)) (bdS 0 1 rfl (by rfl) (bdS 1 1 rfl (by rfl) bd0))) rfl ?_
 refine mv_ ?_
 refine XL.lo rfl (l_call (Mc := M16) (R := _) (aS rfl (aS rfl a0)) (by kernel_rfl) PickC.perm (rbytes_spec rb 65536 (dk2 p) A M16 _ hR16 SubC.sub (by decide)) rfl ?_)
 rintro v20 M20 J20 ⟨h20, hR20⟩
 haveI := h20.cel
 change Rdr rb (dk3 p) A M20 at hR20
 refine mv_ ?_
 refine XL.lo rfl (l_call (Mc := M20) (R := _) (aS rfl (aS rfl a0)) (by kernel_rfl) PickC.perm (rbytes_spec rb 65536 (dk3 p) A M20 _ hR20 SubC.sub (by decide)) rfl ?_)
 rintro v22 M22 J22 ⟨h22, hR22⟩
 haveI := h22.cel
 change Rdr rb (dk4 p) A M22 at hR22
 refine mv_ ?_
 refine XL.lo rfl (l_call (Mc := M22) (R := _) (aS rfl (aS rfl a0)) (by kernel_rfl) PickC.perm (rnum_spec rb 4 (dk4 p) A M22 _ hR22 SubC.sub (by decide)) rfl ?_)
 rintro v24 M24 J24 ⟨rfl, hR24⟩
 have hlt24 := hR22.lt4
 obtain ⟨n5, hn5⟩ : ∃ n, rnN (dk4 p) 4 = n := ⟨_, rfl⟩
 rw [hn5] at hlt24 ⊢
 change Rdr rb (dk5 p) A M24 at hR24
 have hdk : decK p = ⟨((n1 : Nat) : Int), ((n2 : Nat) : Int), rbN (dk2 p) 65536, rbN (dk3 p) 65536, (dkS p).1, (dkO p).1, n5, (dkM p).1⟩ := by unfold decK; rw [hn1, hn2, hn5]
 obtain ⟨hz1, hz2, hz3, hz4⟩ := decK_sz p
 rw [hdk] at hz2 hz3 hz4
 dsimp only at hz2 hz3 hz4
 clear hn1 hn2 hn5
 refine XL.q (q_convN (k' := .u32) n5 rfl (by kernel_rfl) (wrapU32 (by omega))) rfl ?_
 refine XL.q (q_build (place := fun x => #[(0, 2), (2, 1), (3, 1), (4, 1), (5, 1), (6, 1), (7, 1)][x]?) (z := [.int .i64 0, .int .i64 0, .slice none 0 0, .slice none 0 0, .slice none 0 0, .slice none 0 0, .int .u32 0, .slice none 0 0]) (fun _ => by kernel_rfl) (eS rfl (eS rfl (eS rfl (eS rfl e0)))) (bdS 0 2 rfl (by rfl) (bdS 2 1 rfl (by rfl) (bdS 3 1 rfl (by rfl) (bdS 6 1 rfl (by rfl) bd0))))) rfl ?_
 refine XL.lo rfl (bx_ fun b27 => ?_)
 refine as_ ?_
 refine XL.fin (kq 0 (kq 4 (kq 5 kn))) ?_
 refine XC.seq ?_
 refine XC.drawF [0, 1, 2, 3, 4, 5, 6, 7, 8] [(0, 0), (1, 0), (2, 0), (3, 0), (4, 0), (5, 0), (8, 0), (6, 2), (7, 0)] (by kernel_rfl) (by kernel_rfl) fun hs => ?_
 refine XF.q hs rfl qm_ rfl ?_
 refine XF.q hs rfl (q_nil rfl) rfl ?_
 refine XF.q hs rfl (qf_ 4 4) rfl ?_
 refine XF.q hs rfl qm_ rfl ?_
 refine XF.q hs rfl (q_nil rfl) rfl ?_
 refine XF.q hs rfl (qf_ 5 5) rfl ?_
 refine XF.q hs rfl qm_ rfl ?_
 refine XF.lo rfl rfl fun _ => (l_buildSlice (e := 117) (sz := 1) (z := [.pointer none, .pointer none]) (by kernel_rfl) (eS rfl (eS rfl e0)) (bdS 0 1 rfl (by rfl) (bdS 1 1 rfl (by rfl) bd0)) rfl fun b34 => ?_)
 refine XF.q hs rfl (q_lenS (e := 117) rfl (by kernel_rfl)) rfl ?_
 refine XF.frz (B := [(b34, blk [.pointer (some ⟨b27, 4, none⟩), .pointer (some ⟨b27, 5, none⟩)] 117)]) PickC.perm ?_
 refine XF.fin (kq 0 (kq 4 (kq 5 (kq 34 (kq 35 (kq 36 kn)))))) ?_
 refine XC.block ?_
 refine XC.rounds 3 ?_
 refine XR.step ?_
 refine XC.reg ?_
 refine XL.q (q_cmp true rfl rfl (ltT (by decide))) rfl ?_
 refine XL.fin (kq 0 (kq 4 (kq 5 (kq 34 (kq 35 (kq 36 (kq 37 kn))))))) ?_
 refine XC.seq ?_
 refine XC.condT rfl ?_
 refine XC.skip ?_
 refine nx (kq 0 (kq 4 (kq 5 (kq 34 (kq 35 (kq 36 kn)))))) ?_
 refine XC.seq ?_
 refine XC.block ?_
 refine XC.reg ?_
 refine mv_ ?_
 refine XL.q (q_atV2 (sz := 1) (a := 0) rfl rfl (by kernel_rfl) rfl (Rd.whole (n := 2) (R := [(b34, blk [.pointer (some ⟨b27, 4, none⟩), .pointer (some ⟨b27, 5, none⟩)] 117)]) (cs := [.pointer (some ⟨b27, 4, none⟩), .pointer (some ⟨b27, 5, none⟩)]) List.mem_cons_self (by rfl)) (by decide)) rfl ?_
 refine XL.q (q_ldV (j := 0) (u := .pointer (some ⟨b27, 4, none⟩)) (Rd.whole (n := 2) (cs := [.pointer (some ⟨b27, 4, none⟩), .pointer (some ⟨b27, 5, none⟩)]) At.mem (by rfl)) rfl (by kernel_rfl) rfl) rfl ?_
 refine as_ (as_ ?_)
 refine XL.fin (kq 0 (kq 4 (kq 5 (kq 6 (kq 7 (kq 34 (kq 35 (kq 36 kn)))))))) ?_
 refine XC.reg ?_
 refine mv_ ?_
 refine XL.lo rfl (l_buildSlice (e := 3) (sz := 1) (z := [.int .i64 0, .int .i64 0]) (by kernel_rfl) (eS rfl (eS rfl e0)) (bdS 0 1 rfl (by rfl) (bdS 1 1 rfl (by rfl) bd0)) rfl fun b42 => ?_)
 refine mv_ ?_
 refine XL.q (q_atV2 (sz := 1) (a := 0) rfl rfl (by kernel_rfl) rfl (Rd.whole (n := 2) (R := [(b42, blk [.int .i64 ((2 : Nat) : Int), .int .i64 ((4 : Nat) : Int)] 3)]) (cs := [.int .i64 ((2 : Nat) : Int), .int .i64 ((4 : Nat) : Int)]) List.mem_cons_self (by rfl)) (by decide)) rfl ?_
 refine XL.q (q_ldV (j := 0) (u := .int .i64 ((2 : Nat) : Int)) (Rd.whole (n := 2) (cs := [.int .i64 ((2 : Nat) : Int), .int .i64 ((4 : Nat) : Int)]) At.mem (by rfl)) rfl (by kernel_rfl) rfl) rfl ?_
 refine XL.lo rfl (l_call (Mc := M24) (R := _) (aS rfl (aS rfl a0)) (by kernel_rfl) PickC.perm (rcount_spec rb 2 (dk5 p) A M24 _ hR24 SubC.sub (by decide)) rfl ?_)
 rintro v46 M46 J46 ⟨rfl, hR46⟩
 refine mv_ ?_
 refine XL.fin (kq 0 (kq 4 (kq 5 (kq 7 (kq 34 (kq 35 (kq 36 (kq 46 (kq 47 kn))))))))) ?_
 refine XC.block ?_
 obtain ⟨J1, hJ1⟩ : ∃ J1 : Mem, J1 = (b34, blk [.pointer (some ⟨b27, 4, none⟩), .pointer (some ⟨b27, 5, none⟩)] 117) :: (J22 ++ J20) := ⟨_, rfl⟩
 refine XC.loop (α := DeS) (fun y => [(0, v), (4, .pointer (some ⟨rb, 0, none⟩)), (5, .pointer (some ⟨b27, 0, none⟩)), (7, .pointer (some ⟨b27, 4, none⟩)), (34, .slice (some ⟨b34, 0, none⟩) 2 2), (35, .int .i64 2), (36, .int .i64 0), (46, .int .i64 (((ctN (dk5 p) 2) : Nat) : Int)), (47, .int .i64 ((y.i : Nat) : Int))]) (fun y => (b27, blk [.int .i64 ((n1 : Nat) : Int), .int .i64 ((n2 : Nat) : Int), v20, v22, y.vx, .slice none 0 0, .int .u32 ((n5 : Nat) : Int), .slice none 0 0] 96) :: (y.Bx ++ (y.MR))) (fun y => y.J) (fun y => y.i ≤ (ctN (dk5 p) 2) ∧ Sl 3 y.vx y.i y.rx.flatten y.Bx ∧ RwL prR y.J y.rx (dPs y.i (ctS (dk5 p) 2)).1 ∧ Rdr rb (dPs y.i (ctS (dk5 p) 2)).2 A y.MR ∧ ∀ z, z ∈ J1 → z ∈ y.J) (fun y => (ctN (dk5 p) 2) - y.i) ⟨0, .slice none 0 0, [], [], M46, J1⟩ ⟨Nat.zero_le _, Sl.nil, RwL.nil, hR46, fun z h => h⟩ (kq 0 (kq 4 (kq 5 (kq 7 (kq 34 (kq 35 (kq 36 (kq 46 (kq 47 kn))))))))) (Fit.pick (B := [_]) PickC.perm (Fit.none (Fit.last PickC.perm))) (by first | (rw [hJ1]; exact SubC.sub) | exact SubC.sub) ?_
 rintro ⟨i, vx, rx, Bx, MR, JX⟩ ⟨hi, hsx, hrx, hRx, hJX⟩
 dsimp only at hi hsx hrx hRx hJX ⊢
 haveI := hsx.cel
 have hsn := dPs_snoc i (ctS (dk5 p) 2)
 refine XC.reg ?_
 refine XL.q (q_cmp (decide (i < (ctN (dk5 p) 2))) rfl rfl (ltN i _)) rfl ?_
 refine XL.fin (kq 0 (kq 4 (kq 5 (kq 7 (kq 34 (kq 35 (kq 36 (kq 46 (kq 47 (kq 48 kn)))))))))) ?_
 refine XC.seq ?_
 refine XC.cond rfl (fun hc => ?_) (fun hc => ?_)
 ·
  have hil : i < (ctN (dk5 p) 2) := of_decide_eq_true hc
  have hct := ctN_le (dk5 p) 2
  refine XC.skip ?_
  refine nx (kq 0 (kq 4 (kq 5 (kq 7 (kq 34 (kq 35 (kq 36 (kq 46 (kq 47 kn))))))))) ?_
  refine XC.seq ?_
  refine XC.block ?_
  refine XC.drawK1 (MR) (_) true [0, 1, 2, 3, 4, 5, 6, 7, 8, 9, 10, 11, 12, 14] [(0, 0), (1, 0), (2, 0), (3, 1), (4, 0), (7, 0), (9, 0), (5, 2), (6, 0), (8, 2), (10, 2), (11, 0), (12, 2), (13, 2), (14, 0), (15, 2)] (by kernel_rfl) (by kernel_rfl) PickC.perm fun hs K n0 hKm hKs hKn => ?_
  refine XK.q hs rfl qm_ rfl ?_
  refine XK.q hs rfl qm_ rfl ?_
  refine XK.q hs rfl (q_nil rfl) rfl ?_
  refine XK.r hs rfl (by first | exact fun x hx => by rw [List.append_assoc]; exact List.mem_append_right _ hx | exact SubC.sub) hKs ql_ rfl ?_
  refine XK.q hs rfl qm_ rfl ?_
  refine XK.q hs rfl qm_ rfl ?_
  refine XK.q hs rfl qm_ rfl ?_
  refine XK.lo _ _ rfl rfl (List.Perm.refl _) hKm fun w0 => (l_call (Mc := MR) (R := _) (aS rfl (aS rfl a0)) (by kernel_rfl) PickC.perm (rnum_spec rb 4 (dPs i (ctS (dk5 p) 2)).2 A MR _ hRx SubC.sub (by decide)) rfl ?_)
  rintro v54 M54 J54 ⟨rfl, hR54⟩ hKx54
  have hxl := hRx.lt4
  refine XK.q hs rfl (q_convN (k' := .u32) (rnN (dPs i (ctS (dk5 p) 2)).2 4) rfl (by kernel_rfl) (wrapU32 (by omega))) rfl ?_
  refine XK.lo M54 _ rfl rfl PickC.perm (fun x hx => hKx54 (hKn rfl) x (by simpa using hx)) fun w0 => (l_call (Mc := M54) (R := _) (aS rfl (aS rfl a0)) (by kernel_rfl) PickC.perm (rbytes_spec rb 65536 (rnS (dPs i (ctS (dk5 p) 2)).2 4) A M54 _ hR54 SubC.sub (by decide)) rfl ?_)
  rintro v57 M57 J57 ⟨h57, hR57⟩ hKx57
  haveI := h57.cel
  refine XK.lo M57 _ rfl rfl PickC.perm (fun x hx => hKx57 (hKn rfl) x (by simpa using hx)) fun w0 => (l_call (Mc := M57) (R := _) (aS rfl (aS rfl a0)) (by kernel_rfl) PickC.perm (rbytes_spec rb 65536 (rbS (rnS (dPs i (ctS (dk5 p) 2)).2 4) 65536) A M57 _ hR57 SubC.sub (by decide)) rfl ?_)
  rintro v59 M59 J59 ⟨h59, hR59⟩ hKx59
  haveI := h59.cel
  change Rdr rb (dPrS (dPs i (ctS (dk5 p) 2)).2) A M59 at hR59
  refine XK.q hs rfl (q_build (place := fun x => #[(0, 1), (1, 1), (2, 1)][x]?) (z := [.int .u32 0, .slice none 0 0, .slice none 0 0]) (fun _ => by kernel_rfl) (eS rfl (eS rfl (eS rfl e0))) (bdS 0 1 rfl (by rfl) (bdS 1 1 rfl (by rfl) (bdS 2 1 rfl (by rfl) bd0)))) rfl ?_
  refine XK.lo [] _ rfl rfl (List.Perm.refl _) (fun _ h => by cases h) fun w0 => (l_buildSlice (e := 98) (sz := 3) (z := [.int .u32 0, .slice none 0 0, .slice none 0 0]) (by kernel_rfl) (eS rfl e0) (bdS 0 3 rfl (by rfl) bd0) rfl fun b61 => fun hk61 => ?_)
  dsimp only [List.cons_append, List.nil_append, List.append_eq]
  refine XK.tl rfl rfl rfl (l_append2 (e := 98) (sz := 3) (by_ := 56) rfl rfl (by kernel_rfl) rfl hsx (Rd.whole (n := 1) At.mem (by rfl)) (allS rfl (allS h57.one (allS h59.one all0))) PickC.perm (by unfold maxLen; omega) (by omega) rfl fun v62 B62 hs62 => ?_)
  haveI := hs62.cel
  refine XK.q hs rfl (q_nil rfl) rfl ?_
  refine XK.tl rfl rfl rfl (l_store rfl rfl hs62.one (by kernel_rfl) SetC.set UpC.upd ?_)
  refine XK.nil ?_
  refine nb ?_
  refine nx (kq 0 (kq 4 (kq 5 (kq 7 (kq 34 (kq 35 (kq 36 (kq 46 (kq 47 kn))))))))) ?_
  refine XC.reg1 ?_
  refine XL.q (q_num ((i + 1 : Nat) : Int) rfl rfl (add64 (by omega) (by omega) (by omega))) rfl ?_
  refine mv_ ?_
  refine XL.nil ?_
  exact rn ⟨i + 1, v62, rx ++ [[.int .u32 ((rnN (dPs i (ctS (dk5 p) 2)).2 4 : Nat) : Int), v57, v59]], B62, M59, _⟩ ⟨hil, by simpa using hs62, by dsimp only; rw [hsn]; exact (hrx.mono prT SubC.sub).snoc ⟨v57, v59, rfl, h57.mono SubC.sub, h59.mono SubC.sub, hxl⟩, by dsimp only; rw [hsn]; exact hR59, fun z hz => SubC.sub z (hJX z hz)⟩ (by dsimp only; omega) (kq 0 (kq 4 (kq 5 (kq 7 (kq 34 (kq 35 (kq 36 (kq 46 (kq 47 kn))))))))) (Fit.pick (B := [_]) PickC.perm (Fit.pick PickC.perm (Fit.last PickC.perm))) (fun _ h => h)
 ·
  have hge : i = (ctN (dk5 p) 2) := by have := of_decide_eq_false hc; omega
  subst hge
  change RwL prR _ rx (dkS p).1 at hrx
  change Rdr rb (dkS p).2 A MR at hRx
  have hsl : ctN (dk5 p) 2 = (dkS p).1.length := (dPs_len _ _).symm
  rw [hsl] at hsx
  obtain ⟨vs, hvs⟩ : ∃ z, z = vx := ⟨_, rfl⟩
  obtain ⟨Bs, hBs⟩ : ∃ z, z = Bx := ⟨_, rfl⟩
  obtain ⟨JS, hJS_⟩ : ∃ z, z = JX := ⟨_, rfl⟩
  obtain ⟨rs, hrs_⟩ : ∃ z, z = rx := ⟨_, rfl⟩
  subst hvs hBs hJS_ hrs_
  have hss := hsx
  have hrs := hrx
  have hJS := hJX
  clear hsx hrx hJX
  refine XC.exit ?_
  refine te ?_
  refine re ?_
  refine be rfl ?_
  refine nb ?_
  refine nx (kq 0 (kq 4 (kq 5 (kq 34 (kq 35 (kq 36 kn)))))) ?_
  refine XC.reg1 ?_
  refine XL.q (q_num (1 : Int) rfl rfl (add64 (by decide) (by decide) (by decide))) rfl ?_
  refine mv_ ?_
  refine XL.nil ?_
  refine un (kq 0 (kq 4 (kq 5 (kq 34 (kq 35 (kq 36 kn)))))) ?_
  refine XR.step ?_
  refine XC.reg ?_
  refine XL.q (q_cmp true rfl rfl (ltT (by decide))) rfl ?_
  refine XL.fin (kq 0 (kq 4 (kq 5 (kq 34 (kq 35 (kq 36 (kq 37 kn))))))) ?_
  refine XC.seq ?_
  refine XC.condT rfl ?_
  refine XC.skip ?_
  refine nx (kq 0 (kq 4 (kq 5 (kq 34 (kq 35 (kq 36 kn)))))) ?_
  refine XC.seq ?_
  refine XC.block ?_
  refine XC.reg ?_
  refine mv_ ?_
  refine XL.q (q_atV2 (sz := 1) (a := 1) rfl rfl (by kernel_rfl) rfl (Rd.whole (n := 2) (R := [(b34, blk [.pointer (some ⟨b27, 4, none⟩), .pointer (some ⟨b27, 5, none⟩)] 117)]) (cs := [.pointer (some ⟨b27, 4, none⟩), .pointer (some ⟨b27, 5, none⟩)]) List.mem_cons_self (by rfl)) (by decide)) rfl ?_
  refine XL.q (q_ldV (j := 1) (u := .pointer (some ⟨b27, 5, none⟩)) (Rd.whole (n := 2) (cs := [.pointer (some ⟨b27, 4, none⟩), .pointer (some ⟨b27, 5, none⟩)]) (SubC.sub (b34, blk [.pointer (some ⟨b27, 4, none⟩), .pointer (some ⟨b27, 5, none⟩)] 117) (hJS _ (by rw [hJ1]; exact List.mem_cons_self))) (by rfl)) rfl (by kernel_rfl) rfl) rfl ?_
  refine as_ (as_ ?_)
  refine XL.fin (kq 0 (kq 4 (kq 5 (kq 6 (kq 7 (kq 34 (kq 35 (kq 36 kn)))))))) ?_
  refine XC.reg ?_
  refine mv_ ?_
  refine XL.lo rfl (l_buildSlice (e := 3) (sz := 1) (z := [.int .i64 0, .int .i64 0]) (by kernel_rfl) (eS rfl (eS rfl e0)) (bdS 0 1 rfl (by rfl) (bdS 1 1 rfl (by rfl) bd0)) rfl fun b42 => ?_)
  refine mv_ ?_
  refine XL.q (q_atV2 (sz := 1) (a := 1) rfl rfl (by kernel_rfl) rfl (Rd.whole (n := 2) (R := [(b42, blk [.int .i64 ((2 : Nat) : Int), .int .i64 ((4 : Nat) : Int)] 3)]) (cs := [.int .i64 ((2 : Nat) : Int), .int .i64 ((4 : Nat) : Int)]) List.mem_cons_self (by rfl)) (by decide)) rfl ?_
  refine XL.q (q_ldV (j := 1) (u := .int .i64 ((4 : Nat) : Int)) (Rd.whole (n := 2) (cs := [.int .i64 ((2 : Nat) : Int), .int .i64 ((4 : Nat) : Int)]) At.mem (by rfl)) rfl (by kernel_rfl) rfl) rfl ?_
  refine XL.lo rfl (l_call (Mc := MR) (R := _) (aS rfl (aS rfl a0)) (by kernel_rfl) PickC.perm (rcount_spec rb 4 (dkS p).2 A MR _ hRx SubC.sub (by decide)) rfl ?_)
  rintro v46 M46 J46 ⟨rfl, hR46⟩
  refine mv_ ?_
  refine XL.fin (kq 0 (kq 4 (kq 5 (kq 7 (kq 34 (kq 35 (kq 36 (kq 46 (kq 47 kn))))))))) ?_
  refine XC.block ?_
  refine XC.loop (α := DeS) (fun y => [(0, v), (4, .pointer (some ⟨rb, 0, none⟩)), (5, .pointer (some ⟨b27, 0, none⟩)), (7, .pointer (some ⟨b27, 5, none⟩)), (34, .slice (some ⟨b34, 0, none⟩) 2 2), (35, .int .i64 2), (36, .int .i64 1), (46, .int .i64 (((ctN (dkS p).2 4) : Nat) : Int)), (47, .int .i64 ((y.i : Nat) : Int))]) (fun y => (b27, blk [.int .i64 ((n1 : Nat) : Int), .int .i64 ((n2 : Nat) : Int), v20, v22, vs, y.vx, .int .u32 ((n5 : Nat) : Int), .slice none 0 0] 96) :: (y.Bx ++ (y.MR ++ Bs))) (fun y => y.J) (fun y => y.i ≤ (ctN (dkS p).2 4) ∧ Sl 3 y.vx y.i y.rx.flatten y.Bx ∧ RwL prR y.J y.rx (dPs y.i (ctS (dkS p).2 4)).1 ∧ Rdr rb (dPs y.i (ctS (dkS p).2 4)).2 A y.MR ∧ ∀ z, z ∈ JS → z ∈ y.J) (fun y => (ctN (dkS p).2 4) - y.i) ⟨0, .slice none 0 0, [], [], M46, JS⟩ ⟨Nat.zero_le _, Sl.nil, RwL.nil, hR46, fun z h => h⟩ (kq 0 (kq 4 (kq 5 (kq 7 (kq 34 (kq 35 (kq 36 (kq 46 (kq 47 kn))))))))) (Fit.pick (B := [_]) PickC.perm (Fit.none (Fit.pick PickC.perm (Fit.last PickC.perm)))) (by first | (rw [hJ1]; exact SubC.sub) | exact SubC.sub) ?_
  rintro ⟨i, vx, rx, Bx, MR, JX⟩ ⟨hi, hsx, hrx, hRx, hJX⟩
  dsimp only at hi hsx hrx hRx hJX ⊢
  haveI := hsx.cel
  have hsn := dPs_snoc i (ctS (dkS p).2 4)
  refine XC.reg ?_
  refine XL.q (q_cmp (decide (i < (ctN (dkS p).2 4))) rfl rfl (ltN i _)) rfl ?_
  refine XL.fin (kq 0 (kq 4 (kq 5 (kq 7 (kq 34 (kq 35 (kq 36 (kq 46 (kq 47 (kq 48 kn)))))))))) ?_
  refine XC.seq ?_
  refine XC.cond rfl (fun hc => ?_) (fun hc => ?_)
  ·
   have hil : i < (ctN (dkS p).2 4) := of_decide_eq_true hc
   have hct := ctN_le (dkS p).2 4
   refine XC.skip ?_
   refine nx (kq 0 (kq 4 (kq 5 (kq 7 (kq 34 (kq 35 (kq 36 (kq 46 (kq 47 kn))))))))) ?_
   refine XC.seq ?_
   refine XC.block ?_
   refine XC.drawK1 (MR) (_) true [0, 1, 2, 3, 4, 5, 6, 7, 8, 9, 10, 11, 12, 14] [(0, 0), (1, 0), (2, 0), (3, 1), (4, 0), (7, 0), (9, 0), (5, 2), (6, 0), (8, 2), (10, 2), (11, 0), (12, 2), (13, 2), (14, 0), (15, 2)] (by kernel_rfl) (by kernel_rfl) PickC.perm fun hs K n0 hKm hKs hKn => ?_
   refine XK.q hs rfl qm_ rfl ?_
   refine XK.q hs rfl qm_ rfl ?_
   refine XK.q hs rfl (q_nil rfl) rfl ?_
   refine XK.r hs rfl (by first | exact fun x hx => by rw [List.append_assoc]; exact List.mem_append_right _ hx | exact SubC.sub) hKs ql_ rfl ?_
   refine XK.q hs rfl qm_ rfl ?_
   refine XK.q hs rfl qm_ rfl ?_
   refine XK.q hs rfl qm_ rfl ?_
   refine XK.lo _ _ rfl rfl (List.Perm.refl _) hKm fun w0 => (l_call (Mc := MR) (R := _) (aS rfl (aS rfl a0)) (by kernel_rfl) PickC.perm (rnum_spec rb 4 (dPs i (ctS (dkS p).2 4)).2 A MR _ hRx SubC.sub (by decide)) rfl ?_)
   rintro v54 M54 J54 ⟨rfl, hR54⟩ hKx54
   have hxl := hRx.lt4
   refine XK.q hs rfl (q_convN (k' := .u32) (rnN (dPs i (ctS (dkS p).2 4)).2 4) rfl (by kernel_rfl) (wrapU32 (by omega))) rfl ?_
   refine XK.lo M54 _ rfl rfl PickC.perm (fun x hx => hKx54 (hKn rfl) x (by simpa using hx)) fun w0 => (l_call (Mc := M54) (R := _) (aS rfl (aS rfl a0)) (by kernel_rfl) PickC.perm (rbytes_spec rb 65536 (rnS (dPs i (ctS (dkS p).2 4)).2 4) A M54 _ hR54 SubC.sub (by decide)) rfl ?_)
   rintro v57 M57 J57 ⟨h57, hR57⟩ hKx57
   haveI := h57.cel
   refine XK.lo M57 _ rfl rfl PickC.perm (fun x hx => hKx57 (hKn rfl) x (by simpa using hx)) fun w0 => (l_call (Mc := M57) (R := _) (aS rfl (aS rfl a0)) (by kernel_rfl) PickC.perm (rbytes_spec rb 65536 (rbS (rnS (dPs i (ctS (dkS p).2 4)).2 4) 65536) A M57 _ hR57 SubC.sub (by decide)) rfl ?_)
   rintro v59 M59 J59 ⟨h59, hR59⟩ hKx59
   haveI := h59.cel
   change Rdr rb (dPrS (dPs i (ctS (dkS p).2 4)).2) A M59 at hR59
   refine XK.q hs rfl (q_build (place := fun x => #[(0, 1), (1, 1), (2, 1)][x]?) (z := [.int .u32 0, .slice none 0 0, .slice none 0 0]) (fun _ => by kernel_rfl) (eS rfl (eS rfl (eS rfl e0))) (bdS 0 1 rfl (by rfl) (bdS 1 1 rfl (by rfl) (bdS 2 1 rfl (by rfl) bd0)))) rfl ?_
   refine XK.lo [] _ rfl rfl (List.Perm.refl _) (fun _ h => by cases h) fun w0 => (l_buildSlice (e := 98) (sz := 3) (z := [.int .u32 0, .slice none 0 0, .slice none 0 0]) (by kernel_rfl) (eS rfl e0) (bdS 0 3 rfl (by rfl) bd0) rfl fun b61 => fun hk61 => ?_)
   dsimp only [List.cons_append, List.nil_append, List.append_eq]
   refine XK.tl rfl rfl rfl (l_append2 (e := 98) (sz := 3) (by_ := 56) rfl rfl (by kernel_rfl) rfl hsx (Rd.whole (n := 1) At.mem (by rfl)) (allS rfl (allS h57.one (allS h59.one all0))) PickC.perm (by unfold maxLen; omega) (by omega) rfl fun v62 B62 hs62 => ?_)
   haveI := hs62.cel
   refine XK.q hs rfl (q_nil rfl) rfl ?_
   refine XK.tl rfl rfl rfl (l_store rfl rfl hs62.one (by kernel_rfl) SetC.set UpC.upd ?_)
   refine XK.nil ?_
   refine nb ?_
   refine nx (kq 0 (kq 4 (kq 5 (kq 7 (kq 34 (kq 35 (kq 36 (kq 46 (kq 47 kn))))))))) ?_
   refine XC.reg1 ?_
   refine XL.q (q_num ((i + 1 : Nat) : Int) rfl rfl (add64 (by omega) (by omega) (by omega))) rfl ?_
   refine mv_ ?_
   refine XL.nil ?_
   exact rn ⟨i + 1, v62, rx ++ [[.int .u32 ((rnN (dPs i (ctS (dkS p).2 4)).2 4 : Nat) : Int), v57, v59]], B62, M59, _⟩ ⟨hil, by simpa using hs62, by dsimp only; rw [hsn]; exact (hrx.mono prT SubC.sub).snoc ⟨v57, v59, rfl, h57.mono SubC.sub, h59.mono SubC.sub, hxl⟩, by dsimp only; rw [hsn]; exact hR59, fun z hz => SubC.sub z (hJX z hz)⟩ (by dsimp only; omega) (kq 0 (kq 4 (kq 5 (kq 7 (kq 34 (kq 35 (kq 36 (kq 46 (kq 47 kn))))))))) (Fit.pick (B := [_]) PickC.perm (Fit.pick PickC.perm (Fit.pick PickC.perm (Fit.last PickC.perm)))) (fun _ h => h)
  ·
   have hge : i = (ctN (dkS p).2 4) := by have := of_decide_eq_false hc; omega
   subst hge
   change RwL prR _ rx (dkO p).1 at hrx
   change Rdr rb (dkO p).2 A MR at hRx
   have hol : ctN (dkS p).2 4 = (dkO p).1.length := (dPs_len _ _).symm
   rw [hol] at hsx
   obtain ⟨vo, hvo⟩ : ∃ z, z = vx := ⟨_, rfl⟩
   obtain ⟨Bo, hBo⟩ : ∃ z, z = Bx := ⟨_, rfl⟩
   obtain ⟨ro, hro_⟩ : ∃ z, z = rx := ⟨_, rfl⟩
   obtain ⟨JM, hJM⟩ : ∃ z, z = JX := ⟨_, rfl⟩
   subst hvo hBo hro_ hJM
   have hso := hsx
   have hro := hrx
   clear hsx hrx
   refine XC.exit ?_
   refine te ?_
   refine re ?_
   refine be rfl ?_
   refine nb ?_
   refine nx (kq 0 (kq 4 (kq 5 (kq 34 (kq 35 (kq 36 kn)))))) ?_
   refine XC.reg1 ?_
   refine XL.q (q_num (2 : Int) rfl rfl (add64 (by decide) (by decide) (by decide))) rfl ?_
   refine mv_ ?_
   refine XL.nil ?_
   refine un (kq 0 (kq 4 (kq 5 (kq 34 (kq 35 (kq 36 kn)))))) ?_
   refine XR.step ?_
   refine XC.reg ?_
   refine XL.q (q_cmp false rfl rfl (ltF (by decide))) rfl ?_
   refine XL.fin (kq 0 (kq 4 (kq 5 (kq 34 (kq 35 (kq 36 (kq 37 kn))))))) ?_
   refine XC.seq ?_
   refine XC.condF rfl ?_
   refine XC.exit ?_
   refine te ?_
   refine ue ?_
   refine be rfl ?_
   refine nx (kq 0 (kq 4 (kq 5 kn))) ?_
   refine XC.join (α := List Nm × Rst × DeS) (fun y => [(0, v), (4, .pointer (some ⟨rb, 0, none⟩)), (5, .pointer (some ⟨b27, 0, none⟩))]) (fun y => (b27, blk [.int .i64 ((n1 : Nat) : Int), .int .i64 ((n2 : Nat) : Int), v20, v22, vs, vo, .int .u32 ((n5 : Nat) : Int), y.2.2.vx] 96) :: (y.2.2.Bx ++ (y.2.2.MR ++ (Bo ++ Bs)))) (fun y => y.2.2.J) (fun y => dkM p = (y.1, y.2.1) ∧ Sl 2 y.2.2.vx y.1.length y.2.2.rx.flatten y.2.2.Bx ∧ RwL nmR y.2.2.J y.2.2.rx y.1 ∧ Rdr rb y.2.1 A y.2.2.MR ∧ ∀ z, z ∈ JM → z ∈ y.2.2.J) ?_ ?_
   ·
    refine XC.reg ?_
    refine mv_ ?_
    refine XL.lo rfl (l_call (Mc := MR) (R := _) (aS rfl (aS rfl a0)) (by kernel_rfl) PickC.perm (rnum_spec rb 4 (dkO p).2 A MR _ hRx SubC.sub (by decide)) rfl ?_)
    rintro v67 M67 J67 ⟨rfl, hR67⟩
    have hlt67 := hRx.lt4
    obtain ⟨n8, hn8⟩ : ∃ n, rnN (dkO p).2 4 = n := ⟨_, rfl⟩
    rw [hn8] at hlt67 ⊢
    have hdm : dkM p = dNs n8 (rnS (dkO p).2 4) := by unfold dkM; rw [hn8]
    refine as_ ?_
    refine XL.fin (kq 0 (kq 4 (kq 5 (kq 8 kn)))) ?_
    refine XC.block ?_
    refine XC.loop (α := Nat × List Nm × Rst × DeS) (fun y => [(0, v), (4, .pointer (some ⟨rb, 0, none⟩)), (5, .pointer (some ⟨b27, 0, none⟩)), (8, .int .u64 ((y.1 : Nat) : Int))]) (fun y => (b27, blk [.int .i64 ((n1 : Nat) : Int), .int .i64 ((n2 : Nat) : Int), v20, v22, vs, vo, .int .u32 ((n5 : Nat) : Int), y.2.2.2.vx] 96) :: (y.2.2.2.Bx ++ (y.2.2.2.MR ++ (Bo ++ Bs)))) (fun y => y.2.2.2.J) (fun y => y.1 < 4294967296 ∧ dkM p = (y.2.1 ++ (dNs y.1 y.2.2.1).1, (dNs y.1 y.2.2.1).2) ∧ Sl 2 y.2.2.2.vx y.2.1.length y.2.2.2.rx.flatten y.2.2.2.Bx ∧ RwL nmR y.2.2.2.J y.2.2.2.rx y.2.1 ∧ Rdr rb y.2.2.1 A y.2.2.2.MR ∧ ∀ z, z ∈ JM → z ∈ y.2.2.2.J) (fun y => y.1) (n8, [], rnS (dkO p).2 4, ⟨0, .slice none 0 0, [], [], M67, JM⟩) ⟨by dsimp only; omega, by dsimp only; rw [hdm]; simp, Sl.nil, RwL.nil, hR67, fun z h => h⟩ (kq 0 (kq 4 (kq 5 (kq 8 kn)))) (Fit.pick (B := [_]) PickC.perm (Fit.none (Fit.pick PickC.perm (Fit.pick PickC.perm (Fit.last PickC.perm))))) SubC.sub ?_
    rintro ⟨n, acc, st, ⟨_, vm, rm, Bm, MN, JN⟩⟩ ⟨hn32, hacc, hsm, hrm, hRn, hJN⟩
    dsimp only at hn32 hacc hsm hrm hRn hJN ⊢
    haveI := hsm.cel
    have hal : acc.length ≤ 200000 := by rw [hacc, List.length_append] at hz4; omega
    refine XC.seq ?_
    refine XC.reg ?_
    refine mv_ ?_
    refine XL.q (q_cmp (decide (0 < n)) rfl rfl (gtN 0 n)) rfl ?_
    refine mv_ ?_
    refine XL.split (t := 70) rfl (fun hb => ?_) (fun hb => ?_)
    ·
     have hn0 : 0 < n := of_decide_eq_true hb
     refine XL.gy rfl rfl (OpQ.opL qm_ rfl ?_)
     refine XL.callVg rfl rfl (aS rfl a0) (by kernel_rfl) (rbad_spec rb st A _ (hRn.rd SubC.sub)) rfl ?_
     refine XL.gy rfl rfl (OpQ.opL (q_not rfl) rfl ?_)
     refine XL.q (q_pickT rfl rfl) rfl ?_
     refine XL.fin (kq 0 (kq 4 (kq 5 (kq 8 (kq 74 kn))))) ?_
     refine XC.cond rfl (fun hc => ?_) (fun hc => ?_)
     ·
      have hst : st.2 = false := by simpa using hc
      obtain ⟨m, rfl⟩ : ∃ m, n = m + 1 := ⟨n - 1, by omega⟩
      rw [dNs_go hst] at hacc
      refine XC.skip ?_
      refine nx (kq 0 (kq 4 (kq 5 (kq 8 kn)))) ?_
      refine XC.seq ?_
      refine XC.block ?_
      refine XC.drawK1 (MN) (_) true [0, 1, 2, 3, 4, 5, 6, 7, 8, 9, 10, 11, 13, 14] [(0, 0), (1, 0), (2, 0), (3, 0), (4, 1), (5, 0), (8, 0), (6, 2), (7, 0), (9, 2), (10, 0), (11, 2), (12, 2), (13, 0), (14, 0), (15, 2)] (by kernel_rfl) (by kernel_rfl) PickC.perm fun hs K n0 hKm hKs hKn => ?_
      refine XK.q hs rfl qm_ rfl ?_
      refine XK.q hs rfl qm_ rfl ?_
      refine XK.q hs rfl (q_nil rfl) rfl ?_
      refine XK.q hs rfl (qf_ 7 7) rfl ?_
      refine XK.r hs rfl (by first | exact fun x hx => by rw [List.append_assoc]; exact List.mem_append_right _ hx | exact SubC.sub) hKs ql_ rfl ?_
      refine XK.q hs rfl qm_ rfl ?_
      refine XK.q hs rfl qm_ rfl ?_
      refine XK.lo _ _ rfl rfl (List.Perm.refl _) hKm fun w0 => (l_call (Mc := MN) (R := _) (aS rfl (aS rfl a0)) (by kernel_rfl) PickC.perm (rnum_spec rb 4 st A MN _ hRn SubC.sub (by decide)) rfl ?_)
      rintro v83 M83 J83 ⟨rfl, hR83⟩ hKx83
      have hxl := hRn.lt4
      refine XK.q hs rfl (q_convN (k' := .u32) (rnN st 4) rfl (by kernel_rfl) (wrapU32 (by omega))) rfl ?_
      refine XK.lo M83 _ rfl rfl PickC.perm (fun x hx => hKx83 (hKn rfl) x (by simpa using hx)) fun w0 => (l_call (Mc := M83) (R := _) (aS rfl (aS rfl a0)) (by kernel_rfl) PickC.perm (rbytes_spec rb 65536 (rnS st 4) A M83 _ hR83 SubC.sub (by decide)) rfl ?_)
      rintro v86 M86 J86 ⟨h86, hR86⟩ hKx86
      haveI := h86.cel
      change Rdr rb (dNmS st) A M86 at hR86
      refine XK.q hs rfl (q_build (place := fun x => #[(0, 1), (1, 1)][x]?) (z := [.int .u32 0, .slice none 0 0]) (fun _ => by kernel_rfl) (eS rfl (eS rfl e0)) (bdS 0 1 rfl (by rfl) (bdS 1 1 rfl (by rfl) bd0))) rfl ?_
      refine XK.lo [] _ rfl rfl (List.Perm.refl _) (fun _ h => by cases h) fun w0 => (l_buildSlice (e := 101) (sz := 2) (z := [.int .u32 0, .slice none 0 0]) (by kernel_rfl) (eS rfl e0) (bdS 0 2 rfl (by rfl) bd0) rfl fun b88 => fun hk88 => ?_)
      dsimp only [List.cons_append, List.nil_append, List.append_eq]
      refine XK.tl rfl rfl rfl (l_append2 (e := 101) (sz := 2) (by_ := 32) rfl rfl (by kernel_rfl) rfl hsm (Rd.whole (n := 1) At.mem (by rfl)) (allS rfl (allS h86.one all0)) PickC.perm (by unfold maxLen; omega) (by omega) rfl fun v89 B89 hs89 => ?_)
      haveI := hs89.cel
      refine XK.q hs rfl (q_nil rfl) rfl ?_
      refine XK.q hs rfl (qf_ 7 7) rfl ?_
      refine XK.tl rfl rfl rfl (l_store rfl rfl hs89.one (by kernel_rfl) SetC.set UpC.upd ?_)
      refine XK.nil ?_
      refine nb ?_
      refine nx (kq 0 (kq 4 (kq 5 (kq 8 kn)))) ?_
      refine XC.reg1 ?_
      refine mv_ ?_
      refine XL.q (q_subS 18446744073709551616 (a := m + 1) (b := 1) rfl rfl rfl rfl rfl rfl (by omega) (by omega)) rfl ?_
      rw [Nat.add_sub_cancel]
      refine as_ ?_
      refine XL.nil ?_
      exact rn (m, acc ++ [dNm st], dNmS st, ⟨0, v89, rm ++ [[.int .u32 ((rnN st 4 : Nat) : Int), v86]], B89, M86, _⟩) ⟨by dsimp only; omega, by dsimp only; rw [hacc]; simp, by simpa using hs89, (hrm.mono nmT SubC.sub).snoc ⟨v86, rfl, h86.mono SubC.sub, hxl⟩, hR86, fun z hz => SubC.sub z (hJN z hz)⟩ (by dsimp only; omega) (kq 0 (kq 4 (kq 5 (kq 8 kn)))) (show Fit _ ((b27, blk [.int .i64 ((n1 : Nat) : Int), .int .i64 ((n2 : Nat) : Int), v20, v22, vs, vo, .int .u32 ((n5 : Nat) : Int), v89] 96) :: (B89 ++ (M86 ++ (Bo ++ Bs)))) from Fit.pick (B := [_]) PickC.perm (Fit.pick PickC.perm (Fit.pick PickC.perm (Fit.last PickC.perm)))) (fun _ h => h)
     ·
      have hst : st.2 = true := by simpa using hc
      rw [dNs_stop (.inl hst)] at hacc
      refine XC.exit ?_
      refine te ?_
      refine re ?_
      refine be rfl ?_
      exact jn (acc, st, ⟨0, vm, rm, Bm, MN, JN⟩) ⟨by simpa using hacc, hsm, hrm, hRn, hJN⟩ (kq 0 (kq 4 (kq 5 kn))) (Fit.pick (B := [_]) PickC.perm (Fit.pick PickC.perm (Fit.pick PickC.perm (Fit.last PickC.perm)))) (fun _ h => h)
    ·
     have hn0 : n = 0 := by have := of_decide_eq_false hb; omega
     rw [dNs_stop (.inr hn0)] at hacc
     refine XL.gn rfl rfl rfl rfl ?_
     refine XL.gn rfl rfl rfl rfl ?_
     refine XL.gn rfl rfl rfl rfl ?_
     refine XL.q (q_pickF rfl rfl) rfl ?_
     refine XL.fin (kq 0 (kq 4 (kq 5 (kq 8 (kq 74 kn))))) ?_
     refine XC.condF rfl ?_
     refine XC.exit ?_
     refine te ?_
     refine re ?_
     refine be rfl ?_
     exact jn (acc, st, ⟨0, vm, rm, Bm, MN, JN⟩) ⟨by simpa using hacc, hsm, hrm, hRn, hJN⟩ (kq 0 (kq 4 (kq 5 kn))) (Fit.pick (B := [_]) PickC.perm (Fit.pick PickC.perm (Fit.pick PickC.perm (Fit.last PickC.perm)))) (fun _ h => h)
   ·
    rintro ⟨acc, st, ⟨_, vm, rm, Bm, MN, JN⟩⟩ ⟨hdm2, hsm, hrm, hRn, hJN⟩
    dsimp only at hdm2 hsm hrm hRn hJN ⊢
    haveI := hsm.cel
    rw [hdm2] at hdk hz4
    dsimp only at hdk hz4
    have hup : ∀ z, z ∈ JM → z ∈ JN := hJN
    have hup2 : ∀ z, z ∈ JS → z ∈ JN := fun z hz => hJN z (hJX z hz)
    have hup1 : ∀ z, z ∈ J22 ++ J20 → z ∈ JN := fun z hz => hJN z (hJX z (hJS z (by rw [hJ1]; exact List.mem_cons_of_mem _ hz)))
    have hKy : Kys JN b27 (decK p) ((b27, blk [.int .i64 ((n1 : Nat) : Int), .int .i64 ((n2 : Nat) : Int), v20, v22, vs, vo, .int .u32 ((n5 : Nat) : Int), vm] 96) :: (Bs ++ (Bo ++ Bm))) := by
     rw [hdk]
     exact ⟨⟨v20, v22, vs, vo, vm, rs, ro, rm, Bs, Bo, Bm, rfl, h20.mono fun z hz => hup1 z (List.mem_append_right _ hz), h22.mono fun z hz => hup1 z (List.mem_append_left _ hz), hss, hrs.mono prT hup2, hso, hro.mono prT hup, hsm, hrm, by dsimp only; omega, by dsimp only; omega, by dsimp only; omega, by dsimp only; omega⟩⟩
    refine XC.reg ?_
    refine mv_ ?_
    refine XL.q (q_nil rfl) rfl ?_
    refine XL.q (qf_ 5 5) rfl ?_
    refine XL.q ql_ rfl ?_
    refine XL.callV (aS rfl (aS rfl a0)) (by kernel_rfl) (sorted_f vo ro (dkO p).1 _ (hso.rd SubC.sub) (hro.mono prT fun z hz => SubC.sub z (hup z hz)) (by omega)) rfl ?_
    refine as_ ?_
    refine XL.fin (kq 0 (kq 4 (kq 5 (kq 9 kn)))) ?_
    refine XC.seq ?_
    refine XC.reg ?_
    refine mv_ ?_
    refine XL.callV (aS rfl a0) (by kernel_rfl) (rend_spec rb st A _ (hRn.rd SubC.sub)) rfl ?_
    refine XL.q (q_not rfl) rfl ?_
    refine mv_ ?_
    refine XL.split (t := 100) rfl (fun hb => ?_) (fun hb => ?_)
    ·
     have hcv := decOk_end (p := p) (by rw [hdm2]; simpa using hb)
     refine XL.gn rfl rfl rfl rfl ?_
     refine XL.gn rfl rfl rfl rfl ?_
     refine XL.gn rfl rfl rfl rfl ?_
     refine XL.gn rfl rfl rfl rfl ?_
     refine XL.gn rfl rfl rfl rfl ?_
     refine XL.gn rfl rfl rfl rfl ?_
     refine XL.q (q_pickT rfl rfl) rfl ?_
     refine mv_ ?_
     refine XL.gn rfl rfl rfl rfl ?_
     refine XL.gn rfl rfl rfl rfl ?_
     refine XL.q (q_pickT rfl rfl) rfl ?_
     refine mv_ ?_
     refine XL.gn rfl rfl rfl rfl ?_
     refine XL.gn rfl rfl rfl rfl ?_
     refine XL.gn rfl rfl rfl rfl ?_
     refine XL.gn rfl rfl rfl rfl ?_
     refine XL.gn rfl rfl rfl rfl ?_
     refine XL.q (q_pickT rfl rfl) rfl ?_
     refine XL.fin (kq 5 (kq 118 kn)) ?_
     refine XC.condT rfl ?_
     refine XC.reg ?_
     refine as_ (as_ ?_)
     refine XL.fin (kq 2 (kq 3 kn)) ?_
     refine XC.ret ?_
     refine tr ?_
     exact ⟨_, [], [], res2 rfl rfl rfl, Fit.sub (List.nil_sublist _), .inr ⟨hcv, rfl, rfl⟩⟩
    ·
     have he : rEnd (dkM p).2 = true := by rw [hdm2]; simpa using hb
     refine XL.gy rfl rfl (OpQ.opL qm_ rfl ?_)
     refine XL.gy rfl rfl (OpQ.opL (q_nil rfl) rfl ?_)
     refine XL.gy rfl rfl (OpQ.opL (qf_ 4 4) rfl ?_)
     refine XL.gy rfl rfl (OpQ.opL ql_ rfl ?_)
     refine XL.gy rfl rfl (OpQ.opL (q_lenV2 (sz := 3) rfl (by kernel_rfl) (hss.rd (R := Bs) fun _ h => h)) rfl ?_)
     refine XL.gy rfl rfl (OpQ.opL (q_cmp (decide ((dkS p).1.length = 0)) rfl rfl (eqN _ 0)) rfl ?_)
     refine XL.q (q_pickF rfl rfl) rfl ?_
     refine mv_ ?_
     refine XL.split (t := 108) rfl (fun hb => ?_) (fun hb => ?_)
     ·
      have hcv := decOk_emp (of_decide_eq_true hb)
      refine XL.gn rfl rfl rfl rfl ?_
      refine XL.gn rfl rfl rfl rfl ?_
      refine XL.q (q_pickT rfl rfl) rfl ?_
      refine mv_ ?_
      refine XL.gn rfl rfl rfl rfl ?_
      refine XL.gn rfl rfl rfl rfl ?_
      refine XL.gn rfl rfl rfl rfl ?_
      refine XL.gn rfl rfl rfl rfl ?_
      refine XL.gn rfl rfl rfl rfl ?_
      refine XL.q (q_pickT rfl rfl) rfl ?_
      refine XL.fin (kq 5 (kq 118 kn)) ?_
      refine XC.condT rfl ?_
      refine XC.reg ?_
      refine as_ (as_ ?_)
      refine XL.fin (kq 2 (kq 3 kn)) ?_
      refine XC.ret ?_
      refine tr ?_
      exact ⟨_, [], [], res2 rfl rfl rfl, Fit.sub (List.nil_sublist _), .inr ⟨hcv, rfl, rfl⟩⟩
     ·
      have hs0 : ¬ (dkS p).1.length = 0 := of_decide_eq_false hb
      refine XL.gy rfl rfl (OpQ.opL qm_ rfl ?_)
      refine XL.gy rfl rfl (OpQ.opL (q_not rfl) rfl ?_)
      refine XL.q (q_pickF rfl rfl) rfl ?_
      refine mv_ ?_
      refine XL.split (t := 112) rfl (fun hb => ?_) (fun hb => ?_)
      ·
       have hcv := decOk_srt (p := p) (by simpa using hb)
       refine XL.gn rfl rfl rfl rfl ?_
       refine XL.gn rfl rfl rfl rfl ?_
       refine XL.gn rfl rfl rfl rfl ?_
       refine XL.gn rfl rfl rfl rfl ?_
       refine XL.gn rfl rfl rfl rfl ?_
       refine XL.q (q_pickT rfl rfl) rfl ?_
       refine XL.fin (kq 5 (kq 118 kn)) ?_
       refine XC.condT rfl ?_
       refine XC.reg ?_
       refine as_ (as_ ?_)
       refine XL.fin (kq 2 (kq 3 kn)) ?_
       refine XC.ret ?_
       refine tr ?_
       exact ⟨_, [], [], res2 rfl rfl rfl, Fit.sub (List.nil_sublist _), .inr ⟨hcv, rfl, rfl⟩⟩
      ·
       have hsrt : sortP (dkO p).1 = true := by simpa using hb
       obtain ⟨wa, wg, ws, wo, wm, qs, qo, qm, hr⟩ := hKy.r
       refine XL.gy rfl rfl (OpQ.opL qm_ rfl ?_)
       refine XL.callg rfl rfl (aS rfl a0) (by kernel_rfl) (encode_f b27 (decK p) wa wg ws wo wm qs qo qm _ (hr _ SubC.sub SubC.sub) ⟨n1, by rw [hdk], hlt13⟩ ⟨n2, by rw [hdk], hlt16⟩ (by omega)) rfl ?_
       rintro v114 M114 J114 ⟨rfl, h114⟩
       obtain ⟨we, hwe⟩ : ∃ w, encK (decK p) = w := ⟨_, rfl⟩
       rw [hwe] at h114
       haveI := h114.cel
       refine XL.gy rfl rfl (OpQ.opL qm_ rfl ?_)
       refine XL.callVg rfl rfl (aS rfl (aS rfl a0)) (by kernel_rfl) (bEqual_spec v114 v we p _ (h114.mono SubC.sub) (hv.mono SubC.sub)) rfl ?_
       refine XL.gy rfl rfl (OpQ.opL (q_not rfl) rfl ?_)
       refine XL.q (q_pickF rfl rfl) rfl ?_
       refine XL.fin (kq 5 (kq 118 kn)) ?_
       refine XC.cond rfl (fun hc => ?_) (fun hc => ?_)
       ·
        have hcv := decOk_enc (p := p) (by rw [hwe]; exact fun e => (show ¬ we = p by simpa using hc) e.symm)
        refine XC.reg ?_
        refine as_ (as_ ?_)
        refine XL.fin (kq 2 (kq 3 kn)) ?_
        refine XC.ret ?_
        refine tr ?_
        exact ⟨_, [], [], res2 rfl rfl rfl, Fit.sub (List.nil_sublist _), .inr ⟨hcv, rfl, rfl⟩⟩
       ·
        have hcv := decOk_all he hs0 hsrt (by rw [hwe]; exact (show we = p by simpa using hc).symm)
        refine XC.skip ?_
        refine nx (kq 5 kn) ?_
        refine XC.reg ?_
        refine mv_ (as_ (as_ ?_))
        refine XL.fin (kq 2 (kq 3 kn)) ?_
        refine XC.ret ?_
        exact ⟨_, (b27, blk [.int .i64 ((n1 : Nat) : Int), .int .i64 ((n2 : Nat) : Int), v20, v22, vs, vo, .int .u32 ((n5 : Nat) : Int), vm] 96) :: (Bs ++ (Bo ++ Bm)), [], res2 rfl rfl rfl, Fit.none (Fit.pick (B := [_]) PickC.perm (Fit.pick PickC.perm (Fit.pick PickC.perm (Fit.last PickC.perm)))), .inl ⟨hcv, b27, rfl, hKy.mono SubC.sub⟩⟩

end Go.Proofs.YtphcaiplgpmnnaaGreatDoor
/- Keys that can be read again stay so; what KeysMeets keeps. -/
namespace Go.Proofs.YtphcaiplgpmnnaaGreatDoor
open Go.Px
theorem freshK_le (s : Ps) : (freshK s).length ≤ 32 := by
  unfold freshK
  split
  · exact expand_le _ _ _
  · rw [show (bts ((at_ s.ts (atom (s.n + 1)) : Nat) : Int)).length = 32 from btk_len _ (by decide)]; decide
theorem sgK2_le (s : Ps) (w m : List Nat) : (sgK2 s w m).length = 64 := by
  unfold sgK2
  split
  · exact sigB_len _ _
  · exact fitN_len _ _
theorem turnP_ok (k : Ks) (s : Ps) (hn : k.next < 4294967296) : PrOk (turnP k s) := ⟨hn, by have := freshK_le s; show (freshK s).length ≤ _; omega, by show (sgK2 _ _ _).length ≤ _; rw [sgK2_le]; decide⟩
theorem KsOk.turn {k : Ks} (h : KsOk k) (s : Ps) (hn : k.next + 1 < 4294967296) : KsOk (turnK k s).1 := by
  refine ⟨h.user, h.dev, h.agree, h.sign, ⟨List.length_take_le _ _, fun x hx => ?_⟩, h.once, hn, ⟨Nat.lt_of_le_of_lt (List.length_filter_le _ _) h.met.1, fun x hx => h.met.2 x (List.mem_filter.1 hx).1⟩⟩
  rcases List.mem_cons.1 (List.mem_of_mem_take hx) with rfl | h1
  · exact turnP_ok k s (by omega)
  · exact h.signed.2 x h1
theorem fillI_ok {k : Ks} (s : Ps) (h : ∀ x ∈ k.once, PrOk x) : ∀ i, k.next + i < 4294967296 → ∀ x ∈ (fillI k s i).1.once, PrOk x
  | 0, _, x, hx => h x hx
  | i + 1, hn, x, hx => by
    have e := fillI_next k s i
    rcases List.mem_append.1 (show x ∈ (fillI k s i).1.once ++ [_] from hx) with h1 | h1
    · exact fillI_ok s h i (by omega) x h1
    · rw [List.mem_singleton.1 h1]
      exact ⟨show (fillI k s i).1.next < _ by omega, by have := freshK_le (fillI k s i).2; show (freshK _).length ≤ _; omega, by show 0 ≤ _; omega⟩
theorem KsOk.fill {k : Ks} (h : KsOk k) (s : Ps) (hn : k.next + 4 < 4294967296) : KsOk (fillK k s).1 := by
  have h1 := fillI_ok s h.once.2 (4 - k.once.length) (by omega)
  have h2 := fillI_once k s (4 - k.once.length)
  have h3 := h.once.1
  change (fillK k s).1.once.length = _ at h2
  change ∀ x ∈ (fillK k s).1.once, PrOk x at h1
  rw [fill_eq]
  exact ⟨h.user, h.dev, h.agree, h.sign, h.signed, ⟨by show (fillK k s).1.once.length ≤ 4; omega, h1⟩, by show k.next + _ < _; omega, h.met⟩
theorem KsOk.use {k : Ks} (h : KsOk k) (n : Nat) : KsOk (useK k n) := ⟨h.user, h.dev, h.agree, h.sign, h.signed, ⟨Nat.le_trans (List.length_filter_le _ _) h.once.1, fun x hx => h.once.2 x (List.mem_filter.1 hx).1⟩, h.next, h.met⟩
theorem KsOk.new {u d : Nat} (hu : u < 4294967296) (hd : d < 4294967296) (s : Ps) : KsOk (newK (u : Int) (d : Int) s).1 := by
  have f1 := freshK_le s
  have f2 := freshK_le (freshS s)
  have h0 : KsOk (k0N (u : Int) (d : Int) s) := ⟨⟨u, rfl, hu⟩, ⟨d, rfl, hd⟩, by show (freshK s).length ≤ _; omega, by show (freshK (freshS s)).length ≤ _; omega, ⟨by show 0 ≤ 2; omega, fun x hx => by cases hx⟩, ⟨by show 0 ≤ 4; omega, fun x hx => by cases hx⟩, by show 1 < _; omega, ⟨by show 0 < _; omega, fun x hx => by cases hx⟩⟩
  exact (h0.turn _ (by show 1 + 1 < _; omega)).fill _ (by show 1 + 1 + 4 < _; omega)
/-- Keys behind so many acts: which sessions were begun by a signed prekey alone. -/
structure MeI (i : Nat) (k : Ks) (s : Ps) (sg : List Nat) (l : List (Nat × Nat)) : Prop where
  t : TuI i k s sg [2, 3, 4, 5]
  ok : KsOk k
  ids : ∀ x ∈ k.met, ∃ c, x.id = [c]
  mem : ∀ m c, (∃ x ∈ k.met, x.n = m ∧ x.id = [c]) ↔ (m, c) ∈ l
  sub : ∀ y ∈ l, y.1 ∈ last2 sg
  ml : k.met.length ≤ i
  ll : l.length ≤ i
  who : k.user = 2 ∧ k.dev = 2
theorem met_any {l : List Nm} {n : Nat} {w : List Nat} : (0 ≤ fidxL (tstN n w) l) ↔ ∃ x ∈ l, x.n = n ∧ x.id = w := by
  rcases fidxL_cases (tstN n w) l with ⟨h1, h2⟩ | ⟨i, x, h1, h2, h3, h4⟩
  · rw [h1]
    refine ⟨fun h => absurd h (by decide), fun ⟨x, hx, e1, e2⟩ => ?_⟩
    have := h2 x hx
    simp [tstN, e1, e2] at this
  · rw [h1]
    refine ⟨fun _ => ?_, fun _ => by omega⟩
    simp [tstN] at h3
    exact ⟨x, List.mem_of_getElem? h2, h3.1, h3.2⟩
/-- What is left of a row where only the last two are. -/
def keepL (sg : List Nat) (l : List (Nat × Nat)) : List (Nat × Nat) := l.filter fun y => decide (y.1 ∈ last2 sg)
theorem MeI.met {i : Nat} {k : Ks} {s : Ps} {sg : List Nat} {l : List (Nat × Nat)} (h : MeI i k s sg l) (m c : Nat) : decide (0 ≤ fidxL (tstN m [c]) k.met) = decide ((m, c) ∈ l) := by
  rw [decide_eq_decide, met_any, h.mem m c]
theorem MeI.back {i : Nat} {k : Ks} {s : Ps} {sg : List Nat} {l : List (Nat × Nat)} (h : MeI i k s sg l) : decK (encK k) = k ∧ decOk (encK k) = true := by
  refine dec_encK h.ok (fun e => ?_) h.t.riseK
  have h1 := h.t.sn
  have h2 := h.t.ne.2
  unfold snN at h1
  rw [e] at h1
  have h3 := congrArg List.length h1
  unfold last2 at h3
  simp at h3
  omega

end Go.Proofs.YtphcaiplgpmnnaaGreatDoor
/- The walk of KeysMeets. -/
namespace Go.Proofs.YtphcaiplgpmnnaaGreatDoor
open Go.Px
/-- Keys of few bytes. -/
structure Ksm (k : Ks) : Prop where
  ag : k.agree.length ≤ 64
  sg : k.sign.length ≤ 64
  signed : ∀ x ∈ k.signed, x.sec.length ≤ 64 ∧ x.sig.length ≤ 64
  once : ∀ x ∈ k.once, x.sec.length ≤ 64 ∧ x.sig.length ≤ 64
theorem Ksm.turn {k : Ks} (h : Ksm k) (s : Ps) : Ksm (turnK k s).1 := by
  refine ⟨h.ag, h.sg, fun x hx => ?_, h.once⟩
  rcases List.mem_cons.1 (List.mem_of_mem_take hx) with rfl | h1
  · exact ⟨by have := freshK_le s; show (freshK s).length ≤ _; omega, by show (sgK2 _ _ _).length ≤ _; rw [sgK2_le]; decide⟩
  · exact h.signed x h1
theorem Ksm.fillI {k : Ks} {s : Ps} (h : Ksm k) : ∀ i, Ksm (fillI k s i).1
  | 0 => h
  | i + 1 => by
    have ih := h.fillI (s := s) i
    refine ⟨ih.ag, ih.sg, ih.signed, fun x hx => ?_⟩
    rcases List.mem_append.1 (show x ∈ (Go.Proofs.YtphcaiplgpmnnaaGreatDoor.fillI k s i).1.once ++ [_] from hx) with h1 | h1
    · exact ih.once x h1
    · rw [List.mem_singleton.1 h1]
      exact ⟨by have := freshK_le (Go.Proofs.YtphcaiplgpmnnaaGreatDoor.fillI k s i).2; show (freshK _).length ≤ _; omega, Nat.zero_le _⟩
theorem Ksm.use {k : Ks} (h : Ksm k) (n : Nat) : Ksm (useK k n) := ⟨h.ag, h.sg, h.signed, fun x hx => h.once x (List.mem_filter.1 hx).1⟩
theorem Ksm.new {u d : Int} {s : Ps} : Ksm (newK u d s).1 := by
  have f1 := freshK_le s
  have f2 := freshK_le (freshS s)
  have h0 : Ksm (k0N u d s) := ⟨by show (freshK s).length ≤ _; omega, by show (freshK (freshS s)).length ≤ _; omega, (fun x hx => by cases hx), (fun x hx => by cases hx)⟩
  exact (h0.turn _).fillI _
theorem encPs_small {l : List Pr} (h : ∀ x ∈ l, x.sec.length ≤ 64 ∧ x.sig.length ≤ 64) : (encPs l).length ≤ 140 * l.length := by
  induction l with
  | nil => simp [encPs]
  | cons x l ih =>
    have h1 := h x (by simp)
    have h2 := ih fun y hy => h y (by simp [hy])
    rw [encPs_cons, List.length_append, encPr_len, List.length_cons]; omega
theorem encNs_small {l : List Nm} (h : ∀ x ∈ l, ∃ c, x.id = [c]) : (encNs l).length = 9 * l.length := by
  induction l with
  | nil => rfl
  | cons x l ih =>
    obtain ⟨c, hc⟩ := h x (by simp)
    have h2 := ih fun y hy => h y (by simp [hy])
    rw [encNs_cons, List.length_append, encNm_len, List.length_cons, hc]; simp; omega
theorem enc_small {k : Ks} (h : Ksm k) (h1 : k.signed.length ≤ 2) (h2 : k.once.length ≤ 4) (h3 : ∀ x ∈ k.met, ∃ c, x.id = [c]) (h4 : k.met.length ≤ 1000) : (encK k).length ≤ 20000 := by
  have e := encK_len k
  have a := encPs_small h.signed
  have b := encPs_small h.once
  have c := encNs_small h3
  have d := h.ag
  have f := h.sg
  omega
/-- A row of what was met: the number, the name's byte. -/
def mt1 (y : Nat × Nat) : List Value := [.int .u32 ((y.1 : Nat) : Int), .int .u8 ((y.2 : Nat) : Int)]
def mtc (l : List (Nat × Nat)) : List Value := (l.map mt1).flatten
structure MeS where
  i : Nat
  k : Ks
  s : Ps
  sg : List Nat
  l : List (Nat × Nat)
  vs : Value
  vl : Value
  Bs : Mem
  Bl : Mem
  MK : Mem
  MP : Mem
  J : Mem

end Go.Proofs.YtphcaiplgpmnnaaGreatDoor
/-
  Equality of structs of two ints (a Who).
-/
namespace Go.Px
def intT (P : Program) (t : TypeId) : Bool := match P.underlying t with
  | some (.int _) => true
  | _ => false
def twoT (P : Program) (t : TypeId) : Bool :=
  match P.underlying t with
  | some (.struct fs) => match fs.toList with
    | [f, g] => f.offset == 0 && g.offset == 1 && (f.name != "_") && (g.name != "_") && intT P f.type && intT P g.type && !P.stoodInHeld t && !P.eqGuardType P.depth t
    | _ => false
  | _ => false
theorem intT_spec {P : Program} {t : TypeId} (h : intT P t = true) : ∃ k, P.underlying t = some (.int k) := by
  unfold intT at h
  split at h
  · rename_i k hk; exact ⟨k, hk⟩
  · cases h
theorem run_part_int {P : Program} {t : TypeId} {k : IntKind} (ht : P.underlying t = some (.int k)) {cs : Array Value} {off : Nat} {v : Value} (hv : cs[off]? = some v) (w : World) : (part t cs off).run P w = .ok v w := by
  simp [part, isAgg, run_underlying ht, hv]
theorem run_two {P : Program} {t : TypeId} (h : twoT P t = true) (k : IntKind) (a b a' b' : Int) (w : World) :
    P.eqGuardType P.depth t = false ∧ (Op.equalIn 10000 t (.agg #[.int k a, .int k b]) (.agg #[.int k a', .int k b'])).run P w = .ok (a == a' && b == b') w := by
  unfold twoT at h
  split at h
  · rename_i fs hfs
    split at h
    · rename_i f g hfg
      simp only [Bool.and_eq_true, beq_iff_eq, bne_iff_ne, Bool.not_eq_true'] at h
      obtain ⟨⟨⟨⟨⟨⟨⟨h1, h2⟩, h3⟩, h4⟩, h5⟩, h6⟩, h7⟩, h8⟩ := h
      obtain ⟨k1, e1⟩ := intT_spec h5
      obtain ⟨k2, e2⟩ := intT_spec h6
      have hf : P.fieldsOf t = fs := by unfold Program.fieldsOf; rw [hfs]
      refine ⟨h8, ?_⟩
      rw [run_equalIn_struct w 9999 t _ _ (by rw [hf]; exact hfs) h7, hf, hfg]
      unfold Op.eqFields
      rw [if_pos h3]
      simp only [Sem.run_bind, run_part_int e1 (show (#[Value.int k a, .int k b])[f.offset]? = some (.int k a) by rw [h1]; rfl), run_part_int e1 (show (#[Value.int k a', .int k b'])[f.offset]? = some (.int k a') by rw [h1]; rfl), Result.andThen_ok, run_equalIn_int w 9998 f.type k k1 a a' e1]
      by_cases ha : a = a'
      · subst ha
        simp only [BEq.rfl, Bool.not_true, Bool.false_eq_true, if_false, Bool.true_and]
        unfold Op.eqFields
        rw [if_pos h4]
        simp only [Sem.run_bind, run_part_int e2 (show (#[Value.int k a, .int k b])[g.offset]? = some (.int k b) by rw [h2]; rfl), run_part_int e2 (show (#[Value.int k a, .int k b'])[g.offset]? = some (.int k b') by rw [h2]; rfl), Result.andThen_ok, run_equalIn_int w 9998 g.type k k2 b b' e2]
        by_cases hb : b = b'
        · subst hb; simp [Op.eqFields]
        · have : (b == b') = false := by simp [hb]
          rw [this]; simp
      · have : (a == a') = false := by simp [ha]
        rw [this]; simp
    · cases h
  · cases h
section
variable {P : Program} {R : Mem} {l : Env} {d : Option Nat} {ty t t' : TypeId} {pos : String} {af : Array Edge} {g : Option (Nat × Bool)} {x y : Operand} {k : IntKind} {a b a' b' : Int}
theorem q_twoNe (hx : ev l x = some (.agg #[.int k a, .int k b])) (hy : ev l y = some (.agg #[.int k a', .int k b'])) (ht : twoT P t = true) :
    OpQ P R ⟨d, .binOp .neq t x y t', ty, pos, af, g⟩ l (.bool !(a == a' && b == b')) := fun N A w ha hw => by
  obtain ⟨h1, h2⟩ := run_two ht k a b a' b' w
  simp only [execOp, ha.ev hx, ha.ev hy, Sem.run_bind, run_eqGuard_agg w _ _ _ _ _ _ h1, Result.andThen_ok, run_neq_struct]
  simp only [h2, Result.andThen_ok, Sem.run_pure]
variable {v u : Value} {xs : List Value} {n j sz off m : Nat} {R' : Mem}
/-- A field of a struct's value. -/
def fldT (P : Program) (s : TypeId) (f off : Nat) : Bool := match P.underlying s with
  | some (.struct fs) => match fs[f]? with
    | some fd => fd.offset == off && scalarT P fd.type
    | none => false
  | _ => false
end
end Go.Px

