/- The walks of closure's Traffic, and of ClosureCan. -/
import Derived.Test.YthmnlkpikgglbaaDoorCls7
set_option linter.unusedVariables false
set_option linter.unusedSimpArgs false
namespace Go.Proofs.YthmnlkpikgglbaaDoor
open Go.Px
def cn1 : Ps := freshS s00
def cn2 : Ps := freshS cn1
def cn3 : Ps := freshS cn2
def cn4 : Ps := freshS cn3
def cn5 : Ps := freshS cn4
def cn6 : Ps := freshS cn5
def kys : List (List Nat) := [freshK s00, freshK cn1, freshK cn2, freshK cn3, freshK cn4, freshK cn5]
/-- What is known behind so many. -/
def stc (all : Bool) (out : Nat) : Nat → Lst2
  | 0 => (cn6.ts, [])
  | i + 1 => if (all || decide (i ≠ out)) = true then lrn (stc all out i) (kys.getD i []) else stc all out i
theorem cn_n : cn6.ts.length = 6 := by decide +kernel
theorem stc_len (all : Bool) (out i : Nat) : (stc all out i).2.length ≤ (stc all out i).1.length ∧ (stc all out i).1.length ≤ 6 + i := by
  induction i with
  | zero => exact ⟨Nat.zero_le _, by show cn6.ts.length ≤ 6; rw [cn_n]; decide⟩
  | succ i ih =>
    rw [stc]
    split
    · have h1 := lrn_len (w := kys.getD i []) ih.1
      have h2 := lrn_le (st := stc all out i) (w := kys.getD i [])
      exact ⟨by omega, by omega⟩
    · exact ⟨ih.1, by omega⟩
theorem stc_y {all : Bool} {out i : Nat} (h : (all || decide (i ≠ out)) = true) : stc all out (i + 1) = lrn (stc all out i) (kys.getD i []) := by rw [stc]; exact if_pos h
theorem stc_n {all : Bool} {out i : Nat} (h : ¬ (all || decide (i ≠ out)) = true) : stc all out (i + 1) = stc all out i := by rw [stc]; exact if_neg h
def rK (all : Bool) (out j : Nat) : Bool := hasF (stc all out 6).1 (stc all out 6).2 (kys.getD j [])
theorem can_law : ∀ (all has : Bool) (out : Nat), out < 6 → (rK all out 0 && rK all out 4 && rK all out 5 && (if has then rK all out 1 && rK all out 2 && rK all out 3 else true)) = (all || (decide (1 ≤ out) && decide (out ≤ 3)) && !has) := by decide +kernel

set_option maxRecDepth 100000 in
theorem traffic_spec (y0 : Int) (y1 : Int) (y2 : Int) (y3 : Int) (y4 : Value) (y5 : Bool) (y6 : Value) (y7 : Value) (y8 : Value) (y9 : Nat) (y10 : Bool) (y11 : Nat) (y12 : Value) (y13 : Nat) (y14 : Nat) (y15 : Value) [c4 : Cel y4 [y4]] [c6 : Cel y6 [y6]] [c7 : Cel y7 [y7]] [c8 : Cel y8 [y8]] [c12 : Cel y12 [y12]] [c15 : Cel y15 [y15]] (o4 : y4.oneCell' = true) (o6 : y6.oneCell' = true) (o7 : y7.oneCell' = true) (o8 : y8.oneCell' = true) (o12 : y12.oneCell' = true) (o15 : y15.oneCell' = true) (A : Mem) : FnX Tryd.prog 12 [.agg #[.int .i64 y0, .int .i64 y1, .int .i64 y2, .int .i64 y3, y4, .bool y5, y6, y7, y8, .int .u32 ((y9 : Nat) : Int), .bool y10, .int .u32 ((y11 : Nat) : Int), y12, .int .u32 ((y13 : Nat) : Int), .int .u32 ((y14 : Nat) : Int), y15]] [] A fun q M J => ∃ xs, Sl 1 q (3 + (if y5 then 3 else 0)) xs M := by
  refine FnX.enterZ (N := 29) Tryd.func12 rfl rfl rfl fun w_ => ?_
  refine XC.keep (kp 0 rfl kn) ?_
  refine XC.reg ?_
  refine XL.lo rfl (l_box rfl (by first | exact Cel.cel | rfl) rfl fun b1 => ?_)
  refine XL.q (q_assign rfl) rfl ?_
  refine XL.fin (kp 1 rfl kn) ?_
  refine XC.reg ?_
  refine XL.q (q_fieldAddrN 4 (off := 4) rfl (by kernel_rfl) rfl) rfl ?_
  refine XL.q (q_load rfl (by kernel_rfl) (by first | exact At.mem | exact mA (by assumption)) (by rfl)) rfl ?_
  refine XL.q (q_fieldAddrN 12 (off := 12) rfl (by kernel_rfl) rfl) rfl ?_
  refine XL.q (q_fieldAddrN 12 (off := 0) rfl (by kernel_rfl) rfl) rfl ?_
  refine XL.q (q_load rfl (by kernel_rfl) (by first | exact At.mem | exact mA (by assumption)) (by rfl)) rfl ?_
  refine XL.q (q_fieldAddrN 15 (off := 15) rfl (by kernel_rfl) rfl) rfl ?_
  refine XL.q (q_load rfl (by kernel_rfl) (by first | exact At.mem | exact mA (by assumption)) (by rfl)) rfl ?_
  refine XL.lo rfl (l_buildSlice (e := 24) (sz := 1) (z := [.slice none 0 0, .slice none 0 0, .slice none 0 0]) (by kernel_rfl) (eS rfl (eS rfl (eS rfl e0))) (bdS 0 1 rfl (by rfl) (bdS 1 1 rfl (by rfl) (bdS 2 1 rfl (by rfl) bd0))) rfl fun b11 => ?_)
  refine XL.q (q_assign rfl) rfl ?_
  refine XL.fin (kp 1 rfl (kp 3 rfl kn)) ?_
  refine XC.seq ?_
  refine XC.reg ?_
  refine XL.q (q_fieldAddrN 5 (off := 5) rfl (by kernel_rfl) rfl) rfl ?_
  refine XL.q (q_load rfl (by kernel_rfl) (by first | exact At.mem | exact mA (by assumption)) (by rfl)) rfl ?_
  refine XL.fin (kp 1 rfl (kp 3 rfl (kp 13 rfl kn))) ?_
  refine XC.cond rfl (fun hc => ?_) (fun hc => ?_)
  ·
    obtain rfl : y5 = true := hc
    refine XC.reg1 ?_
    refine XL.q (q_move rfl) rfl ?_
    refine XL.q (q_fieldAddrN 6 (off := 6) rfl (by kernel_rfl) rfl) rfl ?_
    refine XL.q (q_fieldAddrN 6 (off := 0) rfl (by kernel_rfl) rfl) rfl ?_
    refine XL.q (q_fieldAddrN 6 (off := 0) rfl (by kernel_rfl) rfl) rfl ?_
    refine XL.q (q_load rfl (by kernel_rfl) (by first | exact At.mem | exact mA (by assumption)) (by rfl)) rfl ?_
    refine XL.q (q_fieldAddrN 6 (off := 6) rfl (by kernel_rfl) rfl) rfl ?_
    refine XL.q (q_fieldAddrN 6 (off := 0) rfl (by kernel_rfl) rfl) rfl ?_
    refine XL.q (q_fieldAddrN 7 (off := 1) rfl (by kernel_rfl) rfl) rfl ?_
    refine XL.q (q_load rfl (by kernel_rfl) (by first | exact At.mem | exact mA (by assumption)) (by rfl)) rfl ?_
    refine XL.q (q_fieldAddrN 6 (off := 6) rfl (by kernel_rfl) rfl) rfl ?_
    refine XL.q (q_fieldAddrN 8 (off := 2) rfl (by kernel_rfl) rfl) rfl ?_
    refine XL.q (q_load rfl (by kernel_rfl) (by first | exact At.mem | exact mA (by assumption)) (by rfl)) rfl ?_
    refine XL.lo rfl (l_buildSlice (e := 24) (sz := 1) (z := [.slice none 0 0, .slice none 0 0, .slice none 0 0]) (by kernel_rfl) (eS rfl (eS rfl (eS rfl e0))) (bdS 0 1 rfl (by rfl) (bdS 1 1 rfl (by rfl) (bdS 2 1 rfl (by rfl) bd0))) rfl fun b26 => ?_)
    refine XL.lo rfl (l_append2 (e := 24) (sz := 1) (by_ := 24) rfl rfl (by kernel_rfl) rfl (Sl.fresh (n := 3) (sz := 1) (cs := [y4, y12, y15]) (e := 24) (by rfl) (by decide)) (Rd.whole (n := 3) At.mem (by rfl)) (by intro c hc; simp only [List.mem_cons, List.not_mem_nil, or_false] at hc; rcases hc with rfl | rfl | rfl; exact o6; exact o7; exact o8) PickC.perm (by unfold maxLen; omega) (by omega) rfl fun v27 B27 hs27 => ?_)
    refine XL.q (q_assign rfl) rfl ?_
    refine XL.fin (kp 3 rfl kn) ?_
    refine XC.reg ?_
    refine XL.q (q_move rfl) rfl ?_
    refine XL.q (q_assign rfl) rfl ?_
    refine XL.fin (kp 2 rfl kn) ?_
    refine XC.ret ?_
    exact ⟨_, B27, [], res1 rfl rfl, Fit.none (Fit.last PickC.perm), _, hs27⟩
  ·
    obtain rfl : y5 = false := hc
    refine XC.skip ?_
    refine nx (kp 3 rfl kn) ?_
    refine XC.reg ?_
    refine XL.q (q_move rfl) rfl ?_
    refine XL.q (q_assign rfl) rfl ?_
    refine XL.fin (kp 2 rfl kn) ?_
    refine XC.ret ?_
    exact ⟨_, [(b11, _)], [], res1 rfl rfl, Fit.none (Fit.last PickC.perm), _, Sl.fresh (n := 3) (sz := 1) (cs := [y4, y12, y15]) (e := 24) (by rfl) (by decide)⟩

set_option maxRecDepth 100000 in
theorem closureCan_spec (how : Nat) (hh : how < 256) (all : Bool) (A : Mem) (hG : Glb A) : FnV Tryd.prog 4 [.int .u8 ((how : Nat) : Int), .bool all] A (.bool true) := by
  have hGG := hG
  obtain ⟨⟨ge0, gf0, h0⟩, ⟨ge1, gf1, h1⟩, ⟨ge4, gf4, h4⟩⟩ := hGG
  refine FnX.enter (N := 106) Tryd.func4 rfl rfl rfl fun w => ?_
  refine XC.keep (kp 0 rfl (kp 1 rfl kn)) ?_
  refine XC.reg ?_
  refine XL.q (q_assign rfl) rfl ?_
  refine XL.fin (kp 0 rfl (kp 1 rfl kn)) ?_
  refine XC.seq ?_
  refine XC.reg ?_
  refine XL.callV a0 (by kernel_rfl) (awake22_spec _ hG.up) rfl ?_
  refine XL.q (q_not rfl) rfl ?_
  refine XL.fin (kp 0 rfl (kp 1 rfl (kp 15 rfl kn))) ?_
  refine XC.condF rfl ?_
  refine XC.skip ?_
  refine nx (kp 0 rfl (kp 1 rfl kn)) ?_
  refine XC.reg ?_
  refine XL.call a0 (by kernel_rfl) (open22_spec _) rfl ?_
  rintro v16 M16 J16 ⟨pb, rfl, hP16⟩
  refine XL.q (q_assign rfl) rfl ?_
  refine XL.fin (kp 0 rfl (kp 1 rfl (kp 5 rfl kn))) ?_
  refine XC.reg ?_
  refine XL.q (q_move rfl) rfl ?_
  refine XL.lo rfl (l_call (Mc := M16) (R := _) (aS rfl a0) (by kernel_rfl) PickC.perm (fresh_spec pb s00 M16 _ hP16 (by decide) (by decide) hG.up) rfl ?_)
  rintro v18 M18 J18 ⟨hP18, hb18⟩
  haveI := hb18.cel
  refine XL.q (q_move rfl) rfl ?_
  refine XL.lo rfl (l_call (Mc := M18) (R := _) (aS rfl a0) (by kernel_rfl) PickC.perm (fresh_spec pb cn1 M18 _ hP18 (by decide) (by decide) hG.up) rfl ?_)
  rintro v20 M20 J20 ⟨hP20, hb20⟩
  haveI := hb20.cel
  refine XL.q (q_move rfl) rfl ?_
  refine XL.lo rfl (l_call (Mc := M20) (R := _) (aS rfl a0) (by kernel_rfl) PickC.perm (fresh_spec pb cn2 M20 _ hP20 (by decide) (by decide) hG.up) rfl ?_)
  rintro v22 M22 J22 ⟨hP22, hb22⟩
  haveI := hb22.cel
  refine XL.q (q_move rfl) rfl ?_
  refine XL.lo rfl (l_call (Mc := M22) (R := _) (aS rfl a0) (by kernel_rfl) PickC.perm (fresh_spec pb cn3 M22 _ hP22 (by decide) (by decide) hG.up) rfl ?_)
  rintro v24 M24 J24 ⟨hP24, hb24⟩
  haveI := hb24.cel
  refine XL.q (q_move rfl) rfl ?_
  refine XL.lo rfl (l_call (Mc := M24) (R := _) (aS rfl a0) (by kernel_rfl) PickC.perm (fresh_spec pb cn4 M24 _ hP24 (by decide) (by decide) hG.up) rfl ?_)
  rintro v26 M26 J26 ⟨hP26, hb26⟩
  haveI := hb26.cel
  refine XL.q (q_move rfl) rfl ?_
  refine XL.lo rfl (l_call (Mc := M26) (R := _) (aS rfl a0) (by kernel_rfl) PickC.perm (fresh_spec pb cn5 M26 _ hP26 (by decide) (by decide) hG.up) rfl ?_)
  rintro v28 M28 J28 ⟨hP28, hb28⟩
  haveI := hb28.cel
  rw [show freshS cn5 = cn6 from rfl] at hP28
  obtain ⟨sv, bt, bm, B, MT, rfl, hby, hT⟩ := hP28.ex
  refine XL.lo rfl (l_buildSlice (e := 24) (sz := 1) (z := [.slice none 0 0, .slice none 0 0, .slice none 0 0, .slice none 0 0, .slice none 0 0, .slice none 0 0]) (by kernel_rfl) (eS rfl (eS rfl (eS rfl (eS rfl (eS rfl (eS rfl e0)))))) (bdS 0 1 rfl (by rfl) (bdS 1 1 rfl (by rfl) (bdS 2 1 rfl (by rfl) (bdS 3 1 rfl (by rfl) (bdS 4 1 rfl (by rfl) (bdS 5 1 rfl (by rfl) bd0)))))) rfl fun b29 => ?_)
  refine XL.frz (B := [_]) (PickC.sing).perm ?_
  have hl6 : Rd ((b29, blk [v18, v20, v22, v24, v26, v28] 24) :: (J28 ++ (J26 ++ (J24 ++ (J22 ++ (J20 ++ J18)))))) 1 (.slice (some ⟨b29, 0, none⟩) 6 6) 6 [v18, v20, v22, v24, v26, v28] := Rd.whole (n := 6) List.mem_cons_self (by rfl)
  have hLs : Lst ((b29, blk [v18, v20, v22, v24, v26, v28] 24) :: (J28 ++ (J26 ++ (J24 ++ (J22 ++ (J20 ++ J18)))))) [v18, v20, v22, v24, v26, v28] kys := Lst.cons (hb18.mono SubC.sub) (Lst.cons (hb20.mono SubC.sub) (Lst.cons (hb22.mono SubC.sub) (Lst.cons (hb24.mono SubC.sub) (Lst.cons (hb26.mono SubC.sub) (Lst.cons (hb28.mono SubC.sub) Lst.nil)))))
  refine XL.q (q_assign rfl) rfl ?_
  refine XL.fin (kp 0 rfl (kp 1 rfl (kp 5 rfl (kp 6 rfl kn)))) ?_
  refine XC.drawF [0, 1, 2, 3, 4, 5, 6, 7, 8, 9, 10, 11, 12, 13, 14, 15, 16, 17, 18, 19, 20, 21, 22, 23, 24] [(0, 0), (1, 0), (2, 1), (3, 0), (4, 0), (5, 0), (6, 0), (7, 1), (8, 0), (9, 0), (10, 1), (11, 0), (12, 0), (13, 0), (14, 1), (15, 0), (16, 0), (17, 0), (18, 1), (19, 0), (20, 0), (21, 0), (22, 1), (23, 0), (24, 2), (25, 2)] (by kernel_rfl) (by kernel_rfl) fun hs => ?_
  refine XF.q hs rfl (q_move rfl) rfl ?_
  refine XF.q hs rfl (q_atV2 (sz := 1) (a := 0) rfl rfl (by kernel_rfl) rfl hl6 (by decide)) rfl ?_
  refine XF.r hs rfl (q_ldV (j := 0) (u := v18) (hl6.mono SubC.sub) rfl (by kernel_rfl) rfl) rfl ?_
  refine XF.q hs rfl (q_move rfl) rfl ?_
  refine XF.q hs rfl (q_bin rfl rfl rfl) rfl ?_
  generalize hhs : decide ((how : Int) ≥ 128) = hB at *
  refine XF.q hs rfl (q_move rfl) rfl ?_
  refine XF.q hs rfl (q_atV2 (sz := 1) (a := 1) rfl rfl (by kernel_rfl) rfl hl6 (by decide)) rfl ?_
  refine XF.r hs rfl (q_ldV (j := 1) (u := v20) (hl6.mono SubC.sub) rfl (by kernel_rfl) rfl) rfl ?_
  refine XF.q hs rfl (q_move rfl) rfl ?_
  refine XF.q hs rfl (q_atV2 (sz := 1) (a := 2) rfl rfl (by kernel_rfl) rfl hl6 (by decide)) rfl ?_
  refine XF.r hs rfl (q_ldV (j := 2) (u := v22) (hl6.mono SubC.sub) rfl (by kernel_rfl) rfl) rfl ?_
  refine XF.q hs rfl (q_build (place := fun x => #[(0, 1), (1, 1)][x]?) (z := [.slice none 0 0, .slice none 0 0]) (fun _ => by kernel_rfl) (eS rfl (eS rfl e0)) (bdS 0 1 rfl (by rfl) (bdS 1 1 rfl (by rfl) bd0))) rfl ?_
  refine XF.q hs rfl (q_move rfl) rfl ?_
  refine XF.q hs rfl (q_atV2 (sz := 1) (a := 3) rfl rfl (by kernel_rfl) rfl hl6 (by decide)) rfl ?_
  refine XF.r hs rfl (q_ldV (j := 3) (u := v24) (hl6.mono SubC.sub) rfl (by kernel_rfl) rfl) rfl ?_
  refine XF.q hs rfl (q_build (place := fun x => #[(0, 2), (2, 1), (3, 1), (4, 1), (5, 1)][x]?) (z := [.slice none 0 0, .slice none 0 0, .slice none 0 0, .int .u32 0, .bool false, .int .u32 0]) (fun _ => by kernel_rfl) (eS rfl (eS rfl e0)) (bdS 0 2 rfl (by rfl) (bdS 2 1 rfl (by rfl) bd0))) rfl ?_
  refine XF.q hs rfl (q_move rfl) rfl ?_
  refine XF.q hs rfl (q_atV2 (sz := 1) (a := 4) rfl rfl (by kernel_rfl) rfl hl6 (by decide)) rfl ?_
  refine XF.r hs rfl (q_ldV (j := 4) (u := v26) (hl6.mono SubC.sub) rfl (by kernel_rfl) rfl) rfl ?_
  refine XF.q hs rfl (q_build (place := fun x => #[(0, 1), (1, 1), (2, 1)][x]?) (z := [.slice none 0 0, .int .u32 0, .int .u32 0]) (fun _ => by kernel_rfl) (eS rfl e0) (bdS 0 1 rfl (by rfl) bd0)) rfl ?_
  refine XF.q hs rfl (q_move rfl) rfl ?_
  refine XF.q hs rfl (q_atV2 (sz := 1) (a := 5) rfl rfl (by kernel_rfl) rfl hl6 (by decide)) rfl ?_
  refine XF.r hs rfl (q_ldV (j := 5) (u := v28) (hl6.mono SubC.sub) rfl (by kernel_rfl) rfl) rfl ?_
  refine XF.q hs rfl (q_build (place := fun x => #[(0, 2), (2, 2), (4, 1), (5, 1), (6, 6), (12, 3), (15, 1)][x]?) (z := [.int .i64 0, .int .i64 0, .int .i64 0, .int .i64 0, .slice none 0 0, .bool false, .slice none 0 0, .slice none 0 0, .slice none 0 0, .int .u32 0, .bool false, .int .u32 0, .slice none 0 0, .int .u32 0, .int .u32 0, .slice none 0 0]) (fun _ => by kernel_rfl) (eS rfl (eS rfl (eS rfl (eS rfl (eS rfl e0))))) (bdS 4 1 rfl (by rfl) (bdS 5 1 rfl (by rfl) (bdS 6 6 rfl (by rfl) (bdS 12 3 rfl (by rfl) (bdS 15 1 rfl (by rfl) bd0)))))) rfl ?_
  refine XF.lo rfl rfl fun _ => (l_alloc (cs := [.int .i64 0, .int .i64 0, .int .i64 0, .int .i64 0, .slice none 0 0, .bool false, .slice none 0 0, .slice none 0 0, .slice none 0 0, .int .u32 0, .bool false, .int .u32 0, .slice none 0 0, .int .u32 0, .int .u32 0, .slice none 0 0]) (by kernel_rfl) rfl fun b7 => ?_)
  refine XF.tl rfl rfl rfl (l_storeW rfl rfl Cel.cel (by kernel_rfl) (lnS (lnS (lnS (lnS (lnS (lnS (lnS (lnS (lnS (lnS (lnS (lnS (lnS (lnS (lnS (lnS (ln0))))))))))))))))) (allS rfl (allS rfl (allS rfl (allS rfl (allS hb18.one (allS rfl (allS hb20.one (allS hb22.one (allS hb24.one (allS rfl (allS rfl (allS rfl (allS hb26.one (allS rfl (allS rfl (allS hb28.one (all0))))))))))))))))) UpC.upd ?_)
  refine XF.fin (kp 0 rfl (kp 1 rfl (kp 5 rfl (kp 6 rfl (kp 7 rfl kn))))) ?_
  refine XC.reg ?_
  refine XL.q (q_move rfl) rfl ?_
  refine XL.callV (aS rfl a0) (by kernel_rfl) (ptable_spec pb bt _ sv _ At.mem) rfl ?_
  refine XL.call (aS rfl a0) (by kernel_rfl) (knew_spec bt _) rfl ?_
  rintro v56 M56 J56 ⟨kb, rfl, hK56⟩
  refine XL.q (q_assign rfl) rfl ?_
  refine XL.fin (kp 0 rfl (kp 1 rfl (kp 6 rfl (kp 7 rfl (kp 8 rfl kn))))) ?_
  refine XC.reg ?_
  refine XL.q (q_move rfl) rfl ?_
  refine XL.q (q_convN how rfl (by kernel_rfl) (wrapI (by omega))) rfl ?_
  refine XL.q (q_remI rfl rfl rfl rfl (by decide)) rfl ?_
  have ho : how % 6 < 6 := Nat.mod_lt _ (by decide)
  generalize how % 6 = out at *
  refine XL.q (q_assign rfl) rfl ?_
  refine XL.fin (kp 1 rfl (kp 6 rfl (kp 7 rfl (kp 8 rfl (kp 9 rfl kn))))) ?_
  refine XC.seq ?_
  refine XC.reg ?_
  refine XL.q (q_assign rfl) rfl ?_
  refine XL.fin (kp 1 rfl (kp 6 rfl (kp 7 rfl (kp 8 rfl (kp 9 rfl (kp 10 rfl kn)))))) ?_
  refine XC.block ?_
  refine XC.loop (α := Nat × Mem × Mem) (fun x => [(1, .bool all), (6, .slice (some ⟨b29, 0, none⟩) 6 6), (7, .pointer (some ⟨b7, 0, none⟩)), (8, .pointer (some ⟨kb, 0, none⟩)), (9, .int .i64 ((out : Nat) : Int)), (10, .int .i64 ((x.1 : Nat) : Int))]) (fun x => x.2.1 ++ (x.2.2 ++ [(b7, blk [.int .i64 0, .int .i64 0, .int .i64 0, .int .i64 0, v18,   .bool hB, v20, v22, v24, .int .u32 0, .bool false, .int .u32 0, v26, .int .u32 0, .int .u32 0, v28] 42)])) (fun _ => ((b29, blk [v18, v20, v22, v24, v26, v28] 24) :: (J28 ++ (J26 ++ (J24 ++ (J22 ++ (J20 ++ J18))))))) (fun x => x.1 ≤ 6 ∧ Knw kb bt (stc all out x.1).2 x.2.1 ∧ Tab bt bm (stc all out x.1).1 x.2.2) (fun x => 6 - x.1) ⟨0, M56, MT⟩ ⟨Nat.zero_le _, hK56, hT⟩ (kp 1 rfl (kp 6 rfl (kp 7 rfl (kp 8 rfl (kp 9 rfl (kp 10 rfl kn)))))) (Fit.pick PickC.perm (Fit.pick PickC.perm (Fit.last (B := [_]) PickC.perm))) (fun x hx => SubC.sub x hx) ?_
  rintro ⟨i, MK, MT⟩ ⟨hi, hK, hT⟩
  dsimp only at hi hK hT ⊢
  obtain ⟨hl1, hl2⟩ := stc_len all out i
  refine XC.seq ?_
  refine XC.reg ?_
  refine XL.q (q_move rfl) rfl ?_
  refine XL.q (q_bin rfl rfl rfl) rfl ?_
  refine XL.fin (kp 1 rfl (kp 6 rfl (kp 7 rfl (kp 8 rfl (kp 9 rfl (kp 10 rfl (kp 61 rfl kn))))))) ?_
  refine XC.cond rfl (fun hc => ?_) (fun hc => ?_)
  ·
    have hlt : i < 6 := by simp at hc; omega
    obtain ⟨vi, hvi, hvb⟩ := hLs.at (j := i) (show i < kys.length from hlt)
    haveI := hvb.cel
    replace hvb : By ((b29, blk [v18, v20, v22, v24, v26, v28] 24) :: (J28 ++ (J26 ++ (J24 ++ (J22 ++ (J20 ++ J18)))))) vi (kys.getD i []) := by rw [List.getD_eq_getElem?_getD, List.getElem?_eq_getElem (show i < kys.length from hlt)]; exact hvb
    refine XC.skip ?_
    refine nx (kp 1 rfl (kp 6 rfl (kp 7 rfl (kp 8 rfl (kp 9 rfl (kp 10 rfl kn)))))) ?_
    refine XC.seq ?_
    refine XC.block ?_
    refine XC.reg ?_
    refine XL.q (q_move rfl) rfl ?_
    refine XL.q (q_move rfl) rfl ?_
    refine XL.split (t := 65) rfl (fun hb => ?_) (fun hb => ?_)
    ·
      have hy : (all || decide (i ≠ out)) = true := by rw [hb]; rfl
      refine XL.gn rfl rfl rfl rfl ?_
      refine XL.gn rfl rfl rfl rfl ?_
      refine XL.gn rfl rfl rfl rfl ?_
      refine XL.q (q_pickT rfl rfl) rfl ?_
      refine XL.fin (kp 1 rfl (kp 6 rfl (kp 7 rfl (kp 8 rfl (kp 9 rfl (kp 10 rfl (kp 69 rfl kn))))))) ?_
      refine XC.condT rfl ?_
      refine XC.reg1 ?_
      refine XL.q (q_move rfl) rfl ?_
      refine XL.q (q_move rfl) rfl ?_
      refine XL.q (q_move rfl) rfl ?_
      refine XL.q (q_atV2 (sz := 1) rfl rfl (by kernel_rfl) rfl hl6 (by omega)) rfl ?_
      refine XL.q (q_ldV (j := i) (u := vi) (hl6.mono SubC.sub) rfl (by kernel_rfl) hvi) rfl ?_
      refine XL.lo rfl (l_buildSlice (e := 24) (sz := 1) (z := [.slice none 0 0]) (by kernel_rfl) (eS rfl e0) (bdS 0 1 rfl (by rfl) bd0) rfl fun b75 => ?_)
      refine XL.lo rfl (l_call (Mc := MK ++ MT) (R := _) (aS rfl (aS rfl a0)) (by kernel_rfl) PickC.perm (learn1_spec kb bt bm (stc all out i) _ (kys.getD i []) MK MT _ hK hT ⟨_, Rd.whole (n := 1) At.mem (by rfl), Lst.cons (hvb.mono SubC.sub) Lst.nil⟩ hl1 (by omega) (SubC.sub _ h4)) rfl ?_)
      rintro v76 M76 J76 ⟨MK2, MT2, rfl, hK2, hT2⟩
      rw [← stc_y hy] at hK2 hT2
      refine XL.nil ?_
      refine nb ?_
      refine nx (kp 1 rfl (kp 6 rfl (kp 7 rfl (kp 8 rfl (kp 9 rfl (kp 10 rfl kn)))))) ?_
      refine XC.reg1 ?_
      refine XL.q (q_move rfl) rfl ?_
      refine XL.q (q_addI (b := 1) rfl rfl rfl rfl (by omega)) rfl ?_
      refine XL.q (q_assign rfl) rfl ?_
      refine XL.nil ?_
      exact rn ⟨i + 1, MK2, MT2⟩ ⟨by dsimp only; omega, hK2, hT2⟩ (by dsimp only; omega) (kp 1 rfl (kp 6 rfl (kp 7 rfl (kp 8 rfl (kp 9 rfl (kp 10 rfl kn)))))) (Fit.pick PickC.perm (Fit.pick PickC.perm (Fit.last (B := [_]) PickC.perm))) (fun x hx => SubC.sub x hx)
    ·
      have hal : all = false := hb
      refine XL.gy rfl rfl (OpQ.opL (q_move rfl) rfl ?_)
      refine XL.gy rfl rfl (OpQ.opL (q_move rfl) rfl ?_)
      refine XL.gy rfl rfl (OpQ.opL (q_bin rfl rfl rfl) rfl ?_)
      refine XL.q (q_pickF rfl rfl) rfl ?_
      refine XL.fin (kp 1 rfl (kp 6 rfl (kp 7 rfl (kp 8 rfl (kp 9 rfl (kp 10 rfl (kp 69 rfl kn))))))) ?_
      refine XC.cond rfl (fun hc => ?_) (fun hc => ?_)
      ·
        have hy : (all || decide (i ≠ out)) = true := by simp at hc; simp; right; omega
        refine XC.reg1 ?_
        refine XL.q (q_move rfl) rfl ?_
        refine XL.q (q_move rfl) rfl ?_
        refine XL.q (q_move rfl) rfl ?_
        refine XL.q (q_atV2 (sz := 1) rfl rfl (by kernel_rfl) rfl hl6 (by omega)) rfl ?_
        refine XL.q (q_ldV (j := i) (u := vi) (hl6.mono SubC.sub) rfl (by kernel_rfl) hvi) rfl ?_
        refine XL.lo rfl (l_buildSlice (e := 24) (sz := 1) (z := [.slice none 0 0]) (by kernel_rfl) (eS rfl e0) (bdS 0 1 rfl (by rfl) bd0) rfl fun b75 => ?_)
        refine XL.lo rfl (l_call (Mc := MK ++ MT) (R := _) (aS rfl (aS rfl a0)) (by kernel_rfl) PickC.perm (learn1_spec kb bt bm (stc all out i) _ (kys.getD i []) MK MT _ hK hT ⟨_, Rd.whole (n := 1) At.mem (by rfl), Lst.cons (hvb.mono SubC.sub) Lst.nil⟩ hl1 (by omega) (SubC.sub _ h4)) rfl ?_)
        rintro v76 M76 J76 ⟨MK2, MT2, rfl, hK2, hT2⟩
        rw [← stc_y hy] at hK2 hT2
        refine XL.nil ?_
        refine nb ?_
        refine nx (kp 1 rfl (kp 6 rfl (kp 7 rfl (kp 8 rfl (kp 9 rfl (kp 10 rfl kn)))))) ?_
        refine XC.reg1 ?_
        refine XL.q (q_move rfl) rfl ?_
        refine XL.q (q_addI (b := 1) rfl rfl rfl rfl (by omega)) rfl ?_
        refine XL.q (q_assign rfl) rfl ?_
        refine XL.nil ?_
        exact rn ⟨i + 1, MK2, MT2⟩ ⟨by dsimp only; omega, hK2, hT2⟩ (by dsimp only; omega) (kp 1 rfl (kp 6 rfl (kp 7 rfl (kp 8 rfl (kp 9 rfl (kp 10 rfl kn)))))) (Fit.pick PickC.perm (Fit.pick PickC.perm (Fit.last (B := [_]) PickC.perm))) (fun x hx => SubC.sub x hx)
      ·
        have hn : ¬ (all || decide (i ≠ out)) = true := by simp at hc; simp [hal]; omega
        refine XC.skip ?_
        refine nb ?_
        refine nx (kp 1 rfl (kp 6 rfl (kp 7 rfl (kp 8 rfl (kp 9 rfl (kp 10 rfl kn)))))) ?_
        refine XC.reg1 ?_
        refine XL.q (q_move rfl) rfl ?_
        refine XL.q (q_addI (b := 1) rfl rfl rfl rfl (by omega)) rfl ?_
        refine XL.q (q_assign rfl) rfl ?_
        refine XL.nil ?_
        exact rn ⟨i + 1, MK, MT⟩ ⟨by dsimp only; omega, by dsimp only; rw [stc_n hn]; exact hK, by dsimp only; rw [stc_n hn]; exact hT⟩ (by dsimp only; omega) (kp 1 rfl (kp 6 rfl (kp 7 rfl (kp 8 rfl (kp 9 rfl (kp 10 rfl kn)))))) (Fit.pick PickC.perm (Fit.pick PickC.perm (Fit.last (B := [_]) PickC.perm))) (fun x hx => SubC.sub x hx)
  ·
    have hge : i = 6 := by simp at hc; omega
    subst hge
    refine XC.exit ?_
    refine te ?_
    refine re ?_
    refine be rfl ?_
    refine nx (kp 1 rfl (kp 7 rfl (kp 8 rfl (kp 9 rfl kn)))) ?_
    refine XC.reg ?_
    refine XL.q (q_move rfl) rfl ?_
    refine XL.q (q_bin rfl rfl rfl) rfl ?_
    refine XL.q (q_move rfl) rfl ?_
    refine XL.split (t := 79) rfl (fun hb => ?_) (fun hb => ?_)
    ·
      have hq1 : decide (1 ≤ out) = true := decide_eq_true (by simp at hb; omega)
      refine XL.gy rfl rfl (OpQ.opL (q_move rfl) rfl ?_)
      refine XL.gy rfl rfl (OpQ.opL (q_bin rfl rfl rfl) rfl ?_)
      refine XL.q (q_pickT rfl rfl) rfl ?_
      refine XL.q (q_assign rfl) rfl ?_
      refine XL.fin (kp 1 rfl (kp 7 rfl (kp 8 rfl (kp 11 rfl kn)))) ?_
      refine XC.reg ?_
      refine XL.q (q_loadW (n := 16) rfl (by kernel_rfl) (by first | exact At.mem | exact mA (by assumption)) (by rfl)) rfl ?_
      refine XL.call (aS rfl a0) (by kernel_rfl) (traffic_spec 0 0 0 0 v18 hB v20 v22 v24 0 false 0 v26 0 0 v28 hb18.one hb20.one hb22.one hb24.one hb26.one hb28.one _) rfl ?_
      rintro v84 M84 J84 ⟨xs, hs84⟩
      haveI := hs84.cel
      refine XL.q (q_assign rfl) rfl ?_
      refine XL.fin (kp 1 rfl (kp 7 rfl (kp 8 rfl (kp 11 rfl (kp 12 rfl kn))))) ?_
      refine XC.reg ?_
      refine XL.q (q_assign rfl) rfl ?_
      refine XL.fin (kp 1 rfl (kp 7 rfl (kp 8 rfl (kp 11 rfl (kp 12 rfl (kp 13 rfl kn)))))) ?_
      refine XC.seq ?_
      refine XC.reg ?_
      refine XL.q (q_fieldAddrN 5 (off := 5) rfl (by kernel_rfl) rfl) rfl ?_
      refine XL.q (q_load rfl (by kernel_rfl) (by first | exact At.mem | exact mA (by assumption)) (by rfl)) rfl ?_
      refine XL.fin (kp 1 rfl (kp 7 rfl (kp 8 rfl (kp 11 rfl (kp 12 rfl (kp 13 rfl (kp 86 rfl kn))))))) ?_
      refine XC.cond rfl (fun hc => ?_) (fun hc => ?_)
      ·
        obtain rfl : hB = true := hc
        refine XC.reg1 ?_
        refine XL.q (q_assign rfl) rfl ?_
        refine XL.fin (kp 1 rfl (kp 7 rfl (kp 8 rfl (kp 11 rfl (kp 12 rfl (kp 13 rfl kn)))))) ?_
        refine XC.reg ?_
        refine XL.q (q_move rfl) rfl ?_
        refine XL.q (q_loadW (n := 16) rfl (by kernel_rfl) (by first | exact At.mem | exact mA (by assumption)) (by rfl)) rfl ?_
        refine XL.callV (aS rfl (aS rfl a0)) (by kernel_rfl) (can_spec (some ⟨kb, 0, none⟩) 0 0 0 0 v18 _ v20 v22 v24 0 false 0 v26 0 0 v28 hb18.one hb20.one hb22.one hb24.one hb26.one hb28.one (rK all out 0) (rK all out 1) (rK all out 2) (rK all out 3) (rK all out 4) (rK all out 5) _ (fun A' hA => has_spec kb bt bm (stc all out 6).1 (stc all out 6).2 v18 (kys.getD 0 []) A' (hK.rd fun x hx => hA x (SubC.sub x hx)) (hT.tbr fun x hx => hA x (SubC.sub x hx)) (by omega) (hb18.mono fun x hx => hA x (SubC.sub x hx))) (fun A' hA => has_spec kb bt bm (stc all out 6).1 (stc all out 6).2 v20 (kys.getD 1 []) A' (hK.rd fun x hx => hA x (SubC.sub x hx)) (hT.tbr fun x hx => hA x (SubC.sub x hx)) (by omega) (hb20.mono fun x hx => hA x (SubC.sub x hx))) (fun A' hA => has_spec kb bt bm (stc all out 6).1 (stc all out 6).2 v22 (kys.getD 2 []) A' (hK.rd fun x hx => hA x (SubC.sub x hx)) (hT.tbr fun x hx => hA x (SubC.sub x hx)) (by omega) (hb22.mono fun x hx => hA x (SubC.sub x hx))) (fun A' hA => has_spec kb bt bm (stc all out 6).1 (stc all out 6).2 v24 (kys.getD 3 []) A' (hK.rd fun x hx => hA x (SubC.sub x hx)) (hT.tbr fun x hx => hA x (SubC.sub x hx)) (by omega) (hb24.mono fun x hx => hA x (SubC.sub x hx))) (fun A' hA => has_spec kb bt bm (stc all out 6).1 (stc all out 6).2 v26 (kys.getD 4 []) A' (hK.rd fun x hx => hA x (SubC.sub x hx)) (hT.tbr fun x hx => hA x (SubC.sub x hx)) (by omega) (hb26.mono fun x hx => hA x (SubC.sub x hx))) (fun A' hA => has_spec kb bt bm (stc all out 6).1 (stc all out 6).2 v28 (kys.getD 5 []) A' (hK.rd fun x hx => hA x (SubC.sub x hx)) (hT.tbr fun x hx => hA x (SubC.sub x hx)) (by omega) (hb28.mono fun x hx => hA x (SubC.sub x hx)))) rfl ?_
        rw [can_law all _ out ho]
        refine XL.q (q_move rfl) rfl ?_
        refine XL.q (q_move rfl) rfl ?_
        refine XL.split (t := 91) rfl (fun hb => ?_) (fun hb => ?_)
        ·
          obtain rfl : all = true := hb
          refine XL.gn rfl rfl rfl rfl ?_
          refine XL.gn rfl rfl rfl rfl ?_
          refine XL.gu rfl rfl rfl ?_
          refine XL.gu rfl rfl rfl ?_
          refine XL.gu rfl rfl rfl ?_
          refine XL.gn rfl rfl rfl rfl ?_
          refine XL.q (q_pickT rfl rfl) rfl ?_
          refine XL.q (q_boolEqR true rfl rfl (by kernel_rfl) (by rfl)) rfl ?_
          refine XL.q (q_move rfl) rfl ?_
          refine XL.gy rfl rfl (OpQ.opL (q_move rfl) rfl ?_)
          refine XL.gy rfl rfl (OpQ.opL (q_lenV2 (sz := 1) rfl (by kernel_rfl) (hs84.rd (R := M84) fun _ h => h)) rfl ?_)
          refine XL.gy rfl rfl (OpQ.opL (q_move rfl) rfl ?_)
          refine XL.gy rfl rfl (OpQ.opL (q_cmp true rfl rfl (eqT (by rfl))) rfl ?_)
          refine XL.q (q_pickT rfl rfl) rfl ?_
          refine XL.q (q_assign rfl) rfl ?_
          refine XL.fin (kp 4 rfl kn) ?_
          refine XC.ret ?_
          exact ⟨_, [], [], res1 rfl rfl, List.nil_sublist _, by simp, rfl, rfl, rfl⟩
        ·
          obtain rfl : all = false := hb
          refine XL.gy rfl rfl (OpQ.opL (q_move rfl) rfl ?_)
          refine XL.gy rfl rfl (OpQ.opL (q_move rfl) rfl ?_)
          refine XL.split (t := 93) rfl (fun hb => ?_) (fun hb => ?_)
          ·
            have hq2 : decide (out ≤ 3) = true := decide_eq_true (by simp at hb; omega)
            refine XL.gy rfl rfl (OpQ.opL (q_fieldAddrN 5 (off := 5) rfl (by kernel_rfl) rfl) rfl ?_)
            refine XL.gy rfl rfl (OpQ.opL (q_load rfl (by kernel_rfl) (by first | exact At.mem | exact mA (by assumption)) (by rfl)) rfl ?_)
            refine XL.gy rfl rfl (OpQ.opL (q_not rfl) rfl ?_)
            refine XL.gy rfl rfl (OpQ.opL (q_pickT rfl rfl) rfl ?_)
            refine XL.q (q_pickF rfl rfl) rfl ?_
            refine XL.q (q_boolEqR true rfl rfl (by kernel_rfl) (by rw [hq1, hq2]; rfl)) rfl ?_
            refine XL.q (q_move rfl) rfl ?_
            refine XL.gy rfl rfl (OpQ.opL (q_move rfl) rfl ?_)
            refine XL.gy rfl rfl (OpQ.opL (q_lenV2 (sz := 1) rfl (by kernel_rfl) (hs84.rd (R := M84) fun _ h => h)) rfl ?_)
            refine XL.gy rfl rfl (OpQ.opL (q_move rfl) rfl ?_)
            refine XL.gy rfl rfl (OpQ.opL (q_cmp true rfl rfl (eqT (by rfl))) rfl ?_)
            refine XL.q (q_pickT rfl rfl) rfl ?_
            refine XL.q (q_assign rfl) rfl ?_
            refine XL.fin (kp 4 rfl kn) ?_
            refine XC.ret ?_
            exact ⟨_, [], [], res1 rfl rfl, List.nil_sublist _, by simp, rfl, rfl, rfl⟩
          ·
            have hq2 : decide (out ≤ 3) = false := decide_eq_false (by simp at hb; omega)
            refine XL.gn rfl rfl rfl rfl ?_
            refine XL.gn rfl rfl rfl rfl ?_
            refine XL.gn rfl rfl rfl rfl ?_
            refine XL.gy rfl rfl (OpQ.opL (q_pickF rfl rfl) rfl ?_)
            refine XL.q (q_pickF rfl rfl) rfl ?_
            refine XL.q (q_boolEqR true rfl rfl (by kernel_rfl) (by rw [hq1, hq2]; rfl)) rfl ?_
            refine XL.q (q_move rfl) rfl ?_
            refine XL.gy rfl rfl (OpQ.opL (q_move rfl) rfl ?_)
            refine XL.gy rfl rfl (OpQ.opL (q_lenV2 (sz := 1) rfl (by kernel_rfl) (hs84.rd (R := M84) fun _ h => h)) rfl ?_)
            refine XL.gy rfl rfl (OpQ.opL (q_move rfl) rfl ?_)
            refine XL.gy rfl rfl (OpQ.opL (q_cmp true rfl rfl (eqT (by rfl))) rfl ?_)
            refine XL.q (q_pickT rfl rfl) rfl ?_
            refine XL.q (q_assign rfl) rfl ?_
            refine XL.fin (kp 4 rfl kn) ?_
            refine XC.ret ?_
            exact ⟨_, [], [], res1 rfl rfl, List.nil_sublist _, by simp, rfl, rfl, rfl⟩
      ·
        obtain rfl : hB = false := hc
        refine XC.skip ?_
        refine nx (kp 1 rfl (kp 7 rfl (kp 8 rfl (kp 11 rfl (kp 12 rfl (kp 13 rfl kn)))))) ?_
        refine XC.reg ?_
        refine XL.q (q_move rfl) rfl ?_
        refine XL.q (q_loadW (n := 16) rfl (by kernel_rfl) (by first | exact At.mem | exact mA (by assumption)) (by rfl)) rfl ?_
        refine XL.callV (aS rfl (aS rfl a0)) (by kernel_rfl) (can_spec (some ⟨kb, 0, none⟩) 0 0 0 0 v18 _ v20 v22 v24 0 false 0 v26 0 0 v28 hb18.one hb20.one hb22.one hb24.one hb26.one hb28.one (rK all out 0) (rK all out 1) (rK all out 2) (rK all out 3) (rK all out 4) (rK all out 5) _ (fun A' hA => has_spec kb bt bm (stc all out 6).1 (stc all out 6).2 v18 (kys.getD 0 []) A' (hK.rd fun x hx => hA x (SubC.sub x hx)) (hT.tbr fun x hx => hA x (SubC.sub x hx)) (by omega) (hb18.mono fun x hx => hA x (SubC.sub x hx))) (fun A' hA => has_spec kb bt bm (stc all out 6).1 (stc all out 6).2 v20 (kys.getD 1 []) A' (hK.rd fun x hx => hA x (SubC.sub x hx)) (hT.tbr fun x hx => hA x (SubC.sub x hx)) (by omega) (hb20.mono fun x hx => hA x (SubC.sub x hx))) (fun A' hA => has_spec kb bt bm (stc all out 6).1 (stc all out 6).2 v22 (kys.getD 2 []) A' (hK.rd fun x hx => hA x (SubC.sub x hx)) (hT.tbr fun x hx => hA x (SubC.sub x hx)) (by omega) (hb22.mono fun x hx => hA x (SubC.sub x hx))) (fun A' hA => has_spec kb bt bm (stc all out 6).1 (stc all out 6).2 v24 (kys.getD 3 []) A' (hK.rd fun x hx => hA x (SubC.sub x hx)) (hT.tbr fun x hx => hA x (SubC.sub x hx)) (by omega) (hb24.mono fun x hx => hA x (SubC.sub x hx))) (fun A' hA => has_spec kb bt bm (stc all out 6).1 (stc all out 6).2 v26 (kys.getD 4 []) A' (hK.rd fun x hx => hA x (SubC.sub x hx)) (hT.tbr fun x hx => hA x (SubC.sub x hx)) (by omega) (hb26.mono fun x hx => hA x (SubC.sub x hx))) (fun A' hA => has_spec kb bt bm (stc all out 6).1 (stc all out 6).2 v28 (kys.getD 5 []) A' (hK.rd fun x hx => hA x (SubC.sub x hx)) (hT.tbr fun x hx => hA x (SubC.sub x hx)) (by omega) (hb28.mono fun x hx => hA x (SubC.sub x hx)))) rfl ?_
        rw [can_law all _ out ho]
        refine XL.q (q_move rfl) rfl ?_
        refine XL.q (q_move rfl) rfl ?_
        refine XL.split (t := 91) rfl (fun hb => ?_) (fun hb => ?_)
        ·
          obtain rfl : all = true := hb
          refine XL.gn rfl rfl rfl rfl ?_
          refine XL.gn rfl rfl rfl rfl ?_
          refine XL.gu rfl rfl rfl ?_
          refine XL.gu rfl rfl rfl ?_
          refine XL.gu rfl rfl rfl ?_
          refine XL.gn rfl rfl rfl rfl ?_
          refine XL.q (q_pickT rfl rfl) rfl ?_
          refine XL.q (q_boolEqR true rfl rfl (by kernel_rfl) (by rfl)) rfl ?_
          refine XL.q (q_move rfl) rfl ?_
          refine XL.gy rfl rfl (OpQ.opL (q_move rfl) rfl ?_)
          refine XL.gy rfl rfl (OpQ.opL (q_lenV2 (sz := 1) rfl (by kernel_rfl) (hs84.rd (R := M84) fun _ h => h)) rfl ?_)
          refine XL.gy rfl rfl (OpQ.opL (q_move rfl) rfl ?_)
          refine XL.gy rfl rfl (OpQ.opL (q_cmp true rfl rfl (eqT (by rfl))) rfl ?_)
          refine XL.q (q_pickT rfl rfl) rfl ?_
          refine XL.q (q_assign rfl) rfl ?_
          refine XL.fin (kp 4 rfl kn) ?_
          refine XC.ret ?_
          exact ⟨_, [], [], res1 rfl rfl, List.nil_sublist _, by simp, rfl, rfl, rfl⟩
        ·
          obtain rfl : all = false := hb
          refine XL.gy rfl rfl (OpQ.opL (q_move rfl) rfl ?_)
          refine XL.gy rfl rfl (OpQ.opL (q_move rfl) rfl ?_)
          refine XL.split (t := 93) rfl (fun hb => ?_) (fun hb => ?_)
          ·
            have hq2 : decide (out ≤ 3) = true := decide_eq_true (by simp at hb; omega)
            refine XL.gy rfl rfl (OpQ.opL (q_fieldAddrN 5 (off := 5) rfl (by kernel_rfl) rfl) rfl ?_)
            refine XL.gy rfl rfl (OpQ.opL (q_load rfl (by kernel_rfl) (by first | exact At.mem | exact mA (by assumption)) (by rfl)) rfl ?_)
            refine XL.gy rfl rfl (OpQ.opL (q_not rfl) rfl ?_)
            refine XL.gy rfl rfl (OpQ.opL (q_pickT rfl rfl) rfl ?_)
            refine XL.q (q_pickF rfl rfl) rfl ?_
            refine XL.q (q_boolEqR true rfl rfl (by kernel_rfl) (by rw [hq1, hq2]; rfl)) rfl ?_
            refine XL.q (q_move rfl) rfl ?_
            refine XL.gy rfl rfl (OpQ.opL (q_move rfl) rfl ?_)
            refine XL.gy rfl rfl (OpQ.opL (q_lenV2 (sz := 1) rfl (by kernel_rfl) (hs84.rd (R := M84) fun _ h => h)) rfl ?_)
            refine XL.gy rfl rfl (OpQ.opL (q_move rfl) rfl ?_)
            refine XL.gy rfl rfl (OpQ.opL (q_cmp true rfl rfl (eqT (by rfl))) rfl ?_)
            refine XL.q (q_pickT rfl rfl) rfl ?_
            refine XL.q (q_assign rfl) rfl ?_
            refine XL.fin (kp 4 rfl kn) ?_
            refine XC.ret ?_
            exact ⟨_, [], [], res1 rfl rfl, List.nil_sublist _, by simp, rfl, rfl, rfl⟩
          ·
            have hq2 : decide (out ≤ 3) = false := decide_eq_false (by simp at hb; omega)
            refine XL.gn rfl rfl rfl rfl ?_
            refine XL.gn rfl rfl rfl rfl ?_
            refine XL.gn rfl rfl rfl rfl ?_
            refine XL.gy rfl rfl (OpQ.opL (q_pickF rfl rfl) rfl ?_)
            refine XL.q (q_pickF rfl rfl) rfl ?_
            refine XL.q (q_boolEqR true rfl rfl (by kernel_rfl) (by rw [hq1, hq2]; rfl)) rfl ?_
            refine XL.q (q_move rfl) rfl ?_
            refine XL.gy rfl rfl (OpQ.opL (q_move rfl) rfl ?_)
            refine XL.gy rfl rfl (OpQ.opL (q_lenV2 (sz := 1) rfl (by kernel_rfl) (hs84.rd (R := M84) fun _ h => h)) rfl ?_)
            refine XL.gy rfl rfl (OpQ.opL (q_move rfl) rfl ?_)
            refine XL.gy rfl rfl (OpQ.opL (q_cmp true rfl rfl (eqT (by rfl))) rfl ?_)
            refine XL.q (q_pickT rfl rfl) rfl ?_
            refine XL.q (q_assign rfl) rfl ?_
            refine XL.fin (kp 4 rfl kn) ?_
            refine XC.ret ?_
            exact ⟨_, [], [], res1 rfl rfl, List.nil_sublist _, by simp, rfl, rfl, rfl⟩
    ·
      have hq1 : decide (1 ≤ out) = false := decide_eq_false (by simp at hb; omega)
      refine XL.gn rfl rfl rfl rfl ?_
      refine XL.gn rfl rfl rfl rfl ?_
      refine XL.q (q_pickF rfl rfl) rfl ?_
      refine XL.q (q_assign rfl) rfl ?_
      refine XL.fin (kp 1 rfl (kp 7 rfl (kp 8 rfl (kp 11 rfl kn)))) ?_
      refine XC.reg ?_
      refine XL.q (q_loadW (n := 16) rfl (by kernel_rfl) (by first | exact At.mem | exact mA (by assumption)) (by rfl)) rfl ?_
      refine XL.call (aS rfl a0) (by kernel_rfl) (traffic_spec 0 0 0 0 v18 hB v20 v22 v24 0 false 0 v26 0 0 v28 hb18.one hb20.one hb22.one hb24.one hb26.one hb28.one _) rfl ?_
      rintro v84 M84 J84 ⟨xs, hs84⟩
      haveI := hs84.cel
      refine XL.q (q_assign rfl) rfl ?_
      refine XL.fin (kp 1 rfl (kp 7 rfl (kp 8 rfl (kp 11 rfl (kp 12 rfl kn))))) ?_
      refine XC.reg ?_
      refine XL.q (q_assign rfl) rfl ?_
      refine XL.fin (kp 1 rfl (kp 7 rfl (kp 8 rfl (kp 11 rfl (kp 12 rfl (kp 13 rfl kn)))))) ?_
      refine XC.seq ?_
      refine XC.reg ?_
      refine XL.q (q_fieldAddrN 5 (off := 5) rfl (by kernel_rfl) rfl) rfl ?_
      refine XL.q (q_load rfl (by kernel_rfl) (by first | exact At.mem | exact mA (by assumption)) (by rfl)) rfl ?_
      refine XL.fin (kp 1 rfl (kp 7 rfl (kp 8 rfl (kp 11 rfl (kp 12 rfl (kp 13 rfl (kp 86 rfl kn))))))) ?_
      refine XC.cond rfl (fun hc => ?_) (fun hc => ?_)
      ·
        obtain rfl : hB = true := hc
        refine XC.reg1 ?_
        refine XL.q (q_assign rfl) rfl ?_
        refine XL.fin (kp 1 rfl (kp 7 rfl (kp 8 rfl (kp 11 rfl (kp 12 rfl (kp 13 rfl kn)))))) ?_
        refine XC.reg ?_
        refine XL.q (q_move rfl) rfl ?_
        refine XL.q (q_loadW (n := 16) rfl (by kernel_rfl) (by first | exact At.mem | exact mA (by assumption)) (by rfl)) rfl ?_
        refine XL.callV (aS rfl (aS rfl a0)) (by kernel_rfl) (can_spec (some ⟨kb, 0, none⟩) 0 0 0 0 v18 _ v20 v22 v24 0 false 0 v26 0 0 v28 hb18.one hb20.one hb22.one hb24.one hb26.one hb28.one (rK all out 0) (rK all out 1) (rK all out 2) (rK all out 3) (rK all out 4) (rK all out 5) _ (fun A' hA => has_spec kb bt bm (stc all out 6).1 (stc all out 6).2 v18 (kys.getD 0 []) A' (hK.rd fun x hx => hA x (SubC.sub x hx)) (hT.tbr fun x hx => hA x (SubC.sub x hx)) (by omega) (hb18.mono fun x hx => hA x (SubC.sub x hx))) (fun A' hA => has_spec kb bt bm (stc all out 6).1 (stc all out 6).2 v20 (kys.getD 1 []) A' (hK.rd fun x hx => hA x (SubC.sub x hx)) (hT.tbr fun x hx => hA x (SubC.sub x hx)) (by omega) (hb20.mono fun x hx => hA x (SubC.sub x hx))) (fun A' hA => has_spec kb bt bm (stc all out 6).1 (stc all out 6).2 v22 (kys.getD 2 []) A' (hK.rd fun x hx => hA x (SubC.sub x hx)) (hT.tbr fun x hx => hA x (SubC.sub x hx)) (by omega) (hb22.mono fun x hx => hA x (SubC.sub x hx))) (fun A' hA => has_spec kb bt bm (stc all out 6).1 (stc all out 6).2 v24 (kys.getD 3 []) A' (hK.rd fun x hx => hA x (SubC.sub x hx)) (hT.tbr fun x hx => hA x (SubC.sub x hx)) (by omega) (hb24.mono fun x hx => hA x (SubC.sub x hx))) (fun A' hA => has_spec kb bt bm (stc all out 6).1 (stc all out 6).2 v26 (kys.getD 4 []) A' (hK.rd fun x hx => hA x (SubC.sub x hx)) (hT.tbr fun x hx => hA x (SubC.sub x hx)) (by omega) (hb26.mono fun x hx => hA x (SubC.sub x hx))) (fun A' hA => has_spec kb bt bm (stc all out 6).1 (stc all out 6).2 v28 (kys.getD 5 []) A' (hK.rd fun x hx => hA x (SubC.sub x hx)) (hT.tbr fun x hx => hA x (SubC.sub x hx)) (by omega) (hb28.mono fun x hx => hA x (SubC.sub x hx)))) rfl ?_
        rw [can_law all _ out ho]
        refine XL.q (q_move rfl) rfl ?_
        refine XL.q (q_move rfl) rfl ?_
        refine XL.split (t := 91) rfl (fun hb => ?_) (fun hb => ?_)
        ·
          obtain rfl : all = true := hb
          refine XL.gn rfl rfl rfl rfl ?_
          refine XL.gn rfl rfl rfl rfl ?_
          refine XL.gu rfl rfl rfl ?_
          refine XL.gu rfl rfl rfl ?_
          refine XL.gu rfl rfl rfl ?_
          refine XL.gn rfl rfl rfl rfl ?_
          refine XL.q (q_pickT rfl rfl) rfl ?_
          refine XL.q (q_boolEqR true rfl rfl (by kernel_rfl) (by rfl)) rfl ?_
          refine XL.q (q_move rfl) rfl ?_
          refine XL.gy rfl rfl (OpQ.opL (q_move rfl) rfl ?_)
          refine XL.gy rfl rfl (OpQ.opL (q_lenV2 (sz := 1) rfl (by kernel_rfl) (hs84.rd (R := M84) fun _ h => h)) rfl ?_)
          refine XL.gy rfl rfl (OpQ.opL (q_move rfl) rfl ?_)
          refine XL.gy rfl rfl (OpQ.opL (q_cmp true rfl rfl (eqT (by rfl))) rfl ?_)
          refine XL.q (q_pickT rfl rfl) rfl ?_
          refine XL.q (q_assign rfl) rfl ?_
          refine XL.fin (kp 4 rfl kn) ?_
          refine XC.ret ?_
          exact ⟨_, [], [], res1 rfl rfl, List.nil_sublist _, by simp, rfl, rfl, rfl⟩
        ·
          obtain rfl : all = false := hb
          refine XL.gy rfl rfl (OpQ.opL (q_move rfl) rfl ?_)
          refine XL.gy rfl rfl (OpQ.opL (q_move rfl) rfl ?_)
          refine XL.gn rfl rfl rfl rfl ?_
          refine XL.gn rfl rfl rfl rfl ?_
          refine XL.gn rfl rfl rfl rfl ?_
          refine XL.gy rfl rfl (OpQ.opL (q_pickF rfl rfl) rfl ?_)
          refine XL.q (q_pickF rfl rfl) rfl ?_
          refine XL.q (q_boolEqR true rfl rfl (by kernel_rfl) (by rw [hq1]; rfl)) rfl ?_
          refine XL.q (q_move rfl) rfl ?_
          refine XL.gy rfl rfl (OpQ.opL (q_move rfl) rfl ?_)
          refine XL.gy rfl rfl (OpQ.opL (q_lenV2 (sz := 1) rfl (by kernel_rfl) (hs84.rd (R := M84) fun _ h => h)) rfl ?_)
          refine XL.gy rfl rfl (OpQ.opL (q_move rfl) rfl ?_)
          refine XL.gy rfl rfl (OpQ.opL (q_cmp true rfl rfl (eqT (by rfl))) rfl ?_)
          refine XL.q (q_pickT rfl rfl) rfl ?_
          refine XL.q (q_assign rfl) rfl ?_
          refine XL.fin (kp 4 rfl kn) ?_
          refine XC.ret ?_
          exact ⟨_, [], [], res1 rfl rfl, List.nil_sublist _, by simp, rfl, rfl, rfl⟩
      ·
        obtain rfl : hB = false := hc
        refine XC.skip ?_
        refine nx (kp 1 rfl (kp 7 rfl (kp 8 rfl (kp 11 rfl (kp 12 rfl (kp 13 rfl kn)))))) ?_
        refine XC.reg ?_
        refine XL.q (q_move rfl) rfl ?_
        refine XL.q (q_loadW (n := 16) rfl (by kernel_rfl) (by first | exact At.mem | exact mA (by assumption)) (by rfl)) rfl ?_
        refine XL.callV (aS rfl (aS rfl a0)) (by kernel_rfl) (can_spec (some ⟨kb, 0, none⟩) 0 0 0 0 v18 _ v20 v22 v24 0 false 0 v26 0 0 v28 hb18.one hb20.one hb22.one hb24.one hb26.one hb28.one (rK all out 0) (rK all out 1) (rK all out 2) (rK all out 3) (rK all out 4) (rK all out 5) _ (fun A' hA => has_spec kb bt bm (stc all out 6).1 (stc all out 6).2 v18 (kys.getD 0 []) A' (hK.rd fun x hx => hA x (SubC.sub x hx)) (hT.tbr fun x hx => hA x (SubC.sub x hx)) (by omega) (hb18.mono fun x hx => hA x (SubC.sub x hx))) (fun A' hA => has_spec kb bt bm (stc all out 6).1 (stc all out 6).2 v20 (kys.getD 1 []) A' (hK.rd fun x hx => hA x (SubC.sub x hx)) (hT.tbr fun x hx => hA x (SubC.sub x hx)) (by omega) (hb20.mono fun x hx => hA x (SubC.sub x hx))) (fun A' hA => has_spec kb bt bm (stc all out 6).1 (stc all out 6).2 v22 (kys.getD 2 []) A' (hK.rd fun x hx => hA x (SubC.sub x hx)) (hT.tbr fun x hx => hA x (SubC.sub x hx)) (by omega) (hb22.mono fun x hx => hA x (SubC.sub x hx))) (fun A' hA => has_spec kb bt bm (stc all out 6).1 (stc all out 6).2 v24 (kys.getD 3 []) A' (hK.rd fun x hx => hA x (SubC.sub x hx)) (hT.tbr fun x hx => hA x (SubC.sub x hx)) (by omega) (hb24.mono fun x hx => hA x (SubC.sub x hx))) (fun A' hA => has_spec kb bt bm (stc all out 6).1 (stc all out 6).2 v26 (kys.getD 4 []) A' (hK.rd fun x hx => hA x (SubC.sub x hx)) (hT.tbr fun x hx => hA x (SubC.sub x hx)) (by omega) (hb26.mono fun x hx => hA x (SubC.sub x hx))) (fun A' hA => has_spec kb bt bm (stc all out 6).1 (stc all out 6).2 v28 (kys.getD 5 []) A' (hK.rd fun x hx => hA x (SubC.sub x hx)) (hT.tbr fun x hx => hA x (SubC.sub x hx)) (by omega) (hb28.mono fun x hx => hA x (SubC.sub x hx)))) rfl ?_
        rw [can_law all _ out ho]
        refine XL.q (q_move rfl) rfl ?_
        refine XL.q (q_move rfl) rfl ?_
        refine XL.split (t := 91) rfl (fun hb => ?_) (fun hb => ?_)
        ·
          obtain rfl : all = true := hb
          refine XL.gn rfl rfl rfl rfl ?_
          refine XL.gn rfl rfl rfl rfl ?_
          refine XL.gu rfl rfl rfl ?_
          refine XL.gu rfl rfl rfl ?_
          refine XL.gu rfl rfl rfl ?_
          refine XL.gn rfl rfl rfl rfl ?_
          refine XL.q (q_pickT rfl rfl) rfl ?_
          refine XL.q (q_boolEqR true rfl rfl (by kernel_rfl) (by rfl)) rfl ?_
          refine XL.q (q_move rfl) rfl ?_
          refine XL.gy rfl rfl (OpQ.opL (q_move rfl) rfl ?_)
          refine XL.gy rfl rfl (OpQ.opL (q_lenV2 (sz := 1) rfl (by kernel_rfl) (hs84.rd (R := M84) fun _ h => h)) rfl ?_)
          refine XL.gy rfl rfl (OpQ.opL (q_move rfl) rfl ?_)
          refine XL.gy rfl rfl (OpQ.opL (q_cmp true rfl rfl (eqT (by rfl))) rfl ?_)
          refine XL.q (q_pickT rfl rfl) rfl ?_
          refine XL.q (q_assign rfl) rfl ?_
          refine XL.fin (kp 4 rfl kn) ?_
          refine XC.ret ?_
          exact ⟨_, [], [], res1 rfl rfl, List.nil_sublist _, by simp, rfl, rfl, rfl⟩
        ·
          obtain rfl : all = false := hb
          refine XL.gy rfl rfl (OpQ.opL (q_move rfl) rfl ?_)
          refine XL.gy rfl rfl (OpQ.opL (q_move rfl) rfl ?_)
          refine XL.gn rfl rfl rfl rfl ?_
          refine XL.gn rfl rfl rfl rfl ?_
          refine XL.gn rfl rfl rfl rfl ?_
          refine XL.gy rfl rfl (OpQ.opL (q_pickF rfl rfl) rfl ?_)
          refine XL.q (q_pickF rfl rfl) rfl ?_
          refine XL.q (q_boolEqR true rfl rfl (by kernel_rfl) (by rw [hq1]; rfl)) rfl ?_
          refine XL.q (q_move rfl) rfl ?_
          refine XL.gy rfl rfl (OpQ.opL (q_move rfl) rfl ?_)
          refine XL.gy rfl rfl (OpQ.opL (q_lenV2 (sz := 1) rfl (by kernel_rfl) (hs84.rd (R := M84) fun _ h => h)) rfl ?_)
          refine XL.gy rfl rfl (OpQ.opL (q_move rfl) rfl ?_)
          refine XL.gy rfl rfl (OpQ.opL (q_cmp true rfl rfl (eqT (by rfl))) rfl ?_)
          refine XL.q (q_pickT rfl rfl) rfl ?_
          refine XL.q (q_assign rfl) rfl ?_
          refine XL.fin (kp 4 rfl kn) ?_
          refine XC.ret ?_
          exact ⟨_, [], [], res1 rfl rfl, List.nil_sublist _, by simp, rfl, rfl, rfl⟩
