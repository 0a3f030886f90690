/- The walks of closure's Shown, and of ClosureShown. -/
import Derived.Test.YthmnlkpikgglbaaDoorCls5
import Derived.Test.YthmnlkpikgglbaaDoorStIn
set_option linter.unusedVariables false
set_option linter.unusedSimpArgs false
namespace Go.Proofs.YthmnlkpikgglbaaDoor
open Go.Px
theorem byi_hi {R : Mem} {v : Value} {w : List Nat} (h : Byi R v w) {k : Nat} (hk : k ≤ w.length) : Byi R (vHi k v) (w.take k) := ⟨by
  have h1 := h.rd.hiV k hk
  rw [Nat.mul_one, ← nums_take] at h1
  rw [List.length_take, Nat.min_eq_left hk]
  exact h1, fun x hx => h.lt x (List.mem_of_mem_take hx), by rw [List.length_take]; have := h.len; omega⟩

set_option maxRecDepth 100000 in
theorem fit22_spec (v : Value) (ws : List Nat) (A : Mem) (h : Byi A v ws) : FnV Tryd.prog 17 [v] A (vHi (min ws.length 32) v) := by
  haveI := h.cel
  refine FnX.enter (N := 8) Tryd.func17 rfl rfl rfl fun w => ?_
  refine XC.keep (kp 0 rfl kn) ?_
  refine XC.reg ?_
  refine XL.q (q_assign rfl) rfl ?_
  refine XL.fin (kp 0 rfl kn) ?_
  refine XC.reg ?_
  refine XL.q (q_move rfl) rfl ?_
  refine XL.q (q_move rfl) rfl ?_
  refine XL.q (q_lenV2 (sz := 1) rfl (by kernel_rfl) h.rd) rfl ?_
  refine XL.q (q_minR ((min ws.length 32 : Nat) : Int) rfl rfl (by split <;> omega)) rfl ?_
  refine XL.q (q_hiV2 (sz := 1) (a := min ws.length 32) rfl rfl (by kernel_rfl) rfl h.rd (by omega)) rfl ?_
  refine XL.q (q_assign rfl) rfl ?_
  refine XL.fin (kp 2 rfl kn) ?_
  refine XC.ret ?_
  exact ⟨_, [], [], res1 rfl rfl, List.nil_sublist _, by simp, rfl, rfl, rfl⟩

set_option maxRecDepth 100000 in
theorem shown_spec (y0 : Int) (y1 : Int) (y2 : Value) (wy2 : List Nat) (y3 : Value) (wy3 : List Nat) (y4 : Nat) (y5 : Value) (wy5 : List Nat) (y6 : Value) (wy6 : List Nat) (y7 : Bool) (y8 : Nat) (y9 : Value) (wy9 : List Nat) (A : Mem) (h2 : Byi A y2 wy2) (h3 : Byi A y3 wy3) (h5 : Byi A y5 wy5) (h6 : Byi A y6 wy6) (h9 : Byi A y9 wy9) : FnX Tryd.prog 6 [.agg #[.int .i64 y0, .int .i64 y1, y2, y3, .int .u32 ((y4 : Nat) : Int), y5, y6, .bool y7, .int .u32 ((y8 : Nat) : Int), y9]] [] A fun q M J => Sl 1 q (4 + (if y7 then 1 else 0)) ([y2, y3, y5, vHi (min wy6.length 32) y6] ++ (if y7 then [y9] else [])) M := by
  haveI := h2.cel
  haveI := h3.cel
  haveI := h5.cel
  haveI := h6.cel
  haveI := h9.cel
  refine FnX.enterZ (N := 24) Tryd.func6 rfl rfl rfl fun w_ => ?_
  refine XC.keep (kp 0 rfl kn) ?_
  refine XC.reg ?_
  refine XL.lo rfl (l_box rfl (by first | exact Cel.cel | rfl) rfl fun b1 => ?_)
  refine XL.q (q_assign rfl) rfl ?_
  refine XL.fin (kp 1 rfl kn) ?_
  refine XC.drawF [0, 1, 2, 3, 4, 5, 6, 7, 8, 9, 10, 11, 12] [(0, 0), (1, 0), (2, 1), (3, 0), (4, 0), (5, 1), (6, 0), (7, 1), (8, 0), (9, 1), (10, 2), (11, 2), (12, 0)] (by kernel_rfl) (by kernel_rfl) fun hs => ?_
  refine XF.q hs rfl (q_fieldAddrN 2 (off := 2) rfl (by kernel_rfl) rfl) rfl ?_
  refine XF.q hs rfl (q_fieldAddrN 2 (off := 0) rfl (by kernel_rfl) rfl) rfl ?_
  refine XF.r hs rfl (q_load rfl (by kernel_rfl) (by first | exact At.mem | exact mA (by assumption)) (by rfl)) rfl ?_
  refine XF.q hs rfl (q_fieldAddrN 2 (off := 2) rfl (by kernel_rfl) rfl) rfl ?_
  refine XF.q hs rfl (q_fieldAddrN 3 (off := 1) rfl (by kernel_rfl) rfl) rfl ?_
  refine XF.r hs rfl (q_load rfl (by kernel_rfl) (by first | exact At.mem | exact mA (by assumption)) (by rfl)) rfl ?_
  refine XF.q hs rfl (q_fieldAddrN 5 (off := 5) rfl (by kernel_rfl) rfl) rfl ?_
  refine XF.r hs rfl (q_load rfl (by kernel_rfl) (by first | exact At.mem | exact mA (by assumption)) (by rfl)) rfl ?_
  refine XF.q hs rfl (q_fieldAddrN 6 (off := 6) rfl (by kernel_rfl) rfl) rfl ?_
  refine XF.r hs rfl (q_load rfl (by kernel_rfl) (by first | exact At.mem | exact mA (by assumption)) (by rfl)) rfl ?_
  refine XF.callV rfl (aS rfl a0) (by kernel_rfl) (fit22_spec y6 wy6 _ (h6.mono SubC.sub)) rfl ?_
  have h6m := byi_hi h6 (show min wy6.length 32 ≤ wy6.length by omega)
  generalize hvm : vHi (min wy6.length 32) y6 = vm at *
  haveI := h6m.cel
  refine XF.lo rfl rfl fun _ => (l_buildSlice (e := 24) (sz := 1) (z := [.slice none 0 0, .slice none 0 0, .slice none 0 0, .slice none 0 0]) (by kernel_rfl) (eS rfl (eS rfl (eS rfl (eS rfl e0)))) (bdS 0 1 rfl (by rfl) (bdS 1 1 rfl (by rfl) (bdS 2 1 rfl (by rfl) (bdS 3 1 rfl (by rfl) bd0)))) rfl fun b15 => ?_)
  refine XF.q hs rfl (q_assign rfl) rfl ?_
  refine XF.fin (kp 1 rfl (kp 3 rfl kn)) ?_
  refine XC.seq ?_
  refine XC.reg ?_
  refine XL.q (q_fieldAddrN 7 (off := 7) rfl (by kernel_rfl) rfl) rfl ?_
  refine XL.q (q_load rfl (by kernel_rfl) (by first | exact At.mem | exact mA (by assumption)) (by rfl)) rfl ?_
  refine XL.fin (kp 1 rfl (kp 3 rfl (kp 17 rfl kn))) ?_
  refine XC.cond rfl (fun hc => ?_) (fun hc => ?_)
  ·
    obtain rfl : y7 = true := hc
    refine XC.reg1 ?_
    refine XL.q (q_move rfl) rfl ?_
    refine XL.q (q_fieldAddrN 9 (off := 9) rfl (by kernel_rfl) rfl) rfl ?_
    refine XL.q (q_load rfl (by kernel_rfl) (by first | exact At.mem | exact mA (by assumption)) (by rfl)) rfl ?_
    refine XL.lo rfl (l_buildSlice (e := 24) (sz := 1) (z := [.slice none 0 0]) (by kernel_rfl) (eS rfl e0) (bdS 0 1 rfl (by rfl) bd0) rfl fun b21 => ?_)
    refine XL.lo rfl (l_append2 (e := 24) (sz := 1) (by_ := 24) rfl rfl (by kernel_rfl) rfl (Sl.fresh (n := 4) (sz := 1) (cs := [y2, y3, y5, vm]) (e := 24) (by rfl) (by decide)) (Rd.whole (n := 1) At.mem (by rfl)) (by intro c hc; rw [List.mem_singleton.1 hc]; exact h9.one) PickC.perm (by unfold maxLen; omega) (by omega) rfl fun v22 B22 hs22 => ?_)
    refine XL.q (q_assign rfl) rfl ?_
    refine XL.fin (kp 3 rfl kn) ?_
    refine XC.reg ?_
    refine XL.q (q_move rfl) rfl ?_
    refine XL.q (q_assign rfl) rfl ?_
    refine XL.fin (kp 2 rfl kn) ?_
    refine XC.ret ?_
    exact ⟨_, B22, [], res1 rfl rfl, Fit.none (Fit.last PickC.perm), hs22⟩
  ·
    obtain rfl : y7 = false := hc
    refine XC.skip ?_
    refine nx (kp 3 rfl kn) ?_
    refine XC.reg ?_
    refine XL.q (q_move rfl) rfl ?_
    refine XL.q (q_assign rfl) rfl ?_
    refine XL.fin (kp 2 rfl kn) ?_
    refine XC.ret ?_
    exact ⟨_, [(b15, _)], [], res1 rfl rfl, Fit.none (Fit.last PickC.perm), Sl.fresh (n := 4) (sz := 1) (cs := [y2, y3, y5, vm]) (e := 24) (by rfl) (by decide)⟩

set_option maxRecDepth 100000 in
theorem closureShown_T (y0 : Int) (y1 : Int) (y2 : Value) (wy2 : List Nat) (y3 : Value) (wy3 : List Nat) (y4 : Nat) (y5 : Value) (wy5 : List Nat) (y6 : Value) (wy6 : List Nat) (y8 : Nat) (y9 : Value) (wy9 : List Nat) (A : Mem) (h2 : Byi A y2 wy2) (h3 : Byi A y3 wy3) (h5 : Byi A y5 wy5) (h6 : Byi A y6 wy6) (h9 : Byi A y9 wy9) (hG : Glb A) : FnV Tryd.prog 3 [.agg #[.int .i64 y0, .int .i64 y1, y2, y3, .int .u32 ((y4 : Nat) : Int), y5, y6, .bool true, .int .u32 ((y8 : Nat) : Int), y9]] A (.bool true) := by
  haveI := h2.cel
  haveI := h3.cel
  haveI := h5.cel
  haveI := h6.cel
  haveI := h9.cel
  refine FnX.enter (N := 86) Tryd.func3 rfl rfl rfl fun w => ?_
  refine XC.keep (kp 0 rfl kn) ?_
  refine XC.reg ?_
  refine XL.lo rfl (l_box rfl (by first | exact Cel.cel | rfl) rfl fun b1 => ?_)
  refine XL.q (q_assign rfl) rfl ?_
  refine XL.fin (kp 1 rfl kn) ?_
  refine XC.seq ?_
  refine XC.reg ?_
  refine XL.callV a0 (by kernel_rfl) (awake22_spec _ hG.up) rfl ?_
  refine XL.q (q_not rfl) rfl ?_
  refine XL.q (q_move rfl) rfl ?_
  refine XL.gy rfl rfl (OpQ.opL (q_fieldAddrN 6 (off := 6) rfl (by kernel_rfl) rfl) rfl ?_)
  refine XL.gy rfl rfl (OpQ.opL (q_load rfl (by kernel_rfl) (by first | exact At.mem | exact mA (by assumption)) (by rfl)) rfl ?_)
  refine XL.gy rfl rfl (OpQ.opL (q_lenV2 (sz := 1) rfl (by kernel_rfl) h6.rd) rfl ?_)
  refine XL.gy rfl rfl (OpQ.opL (q_bin rfl rfl rfl) rfl ?_)
  refine XL.q (q_pickF rfl rfl) rfl ?_
  refine XL.fin (kp 1 rfl (kp 13 rfl kn)) ?_
  refine XC.cond rfl (fun hc => ?_) (fun hc => ?_)
  ·
    refine XC.reg ?_
    refine XL.callV a0 (by kernel_rfl) (awake22_spec _ hG.up) rfl ?_
    refine XL.q (q_assign rfl) rfl ?_
    refine XL.fin (kp 2 rfl kn) ?_
    refine XC.ret ?_
    refine tr ?_
    exact ⟨_, [], [], res1 rfl rfl, List.nil_sublist _, by simp, rfl, rfl, rfl⟩
  ·
    refine XC.skip ?_
    refine nx (kp 1 rfl kn) ?_
    refine XC.reg ?_
    refine XL.q (q_loadW (n := 10) rfl (by kernel_rfl) (by first | exact At.mem | exact mA (by assumption)) (by rfl)) rfl ?_
    refine XL.call (aS rfl a0) (by kernel_rfl) (shown_spec y0 y1 y2 wy2 y3 wy3 y4 y5 wy5 y6 wy6 true y8 y9 wy9 _ (h2.mono SubC.sub) (h3.mono SubC.sub) (h5.mono SubC.sub) (h6.mono SubC.sub) (h9.mono SubC.sub)) rfl ?_
    rintro v16 M16 J16 hs16
    replace hs16 : Sl 1 v16 5 ([y2, y3, y5, vHi (min wy6.length 32) y6] ++ [y9]) M16 := hs16
    have h6m := byi_hi h6 (show min wy6.length 32 ≤ wy6.length by omega)
    generalize hvm : vHi (min wy6.length 32) y6 = vm at *
    haveI := h6m.cel
    haveI := hs16.cel
    refine XL.q (q_assign rfl) rfl ?_
    refine XL.fin (kp 1 rfl (kp 3 rfl kn)) ?_
    refine XC.reg ?_
    refine XL.q (q_assign rfl) rfl ?_
    refine XL.fin (kp 1 rfl (kp 3 rfl (kp 4 rfl kn))) ?_
    refine XC.seq ?_
    refine XC.reg ?_
    refine XL.q (q_fieldAddrN 7 (off := 7) rfl (by kernel_rfl) rfl) rfl ?_
    refine XL.q (q_load rfl (by kernel_rfl) (by first | exact At.mem | exact mA (by assumption)) (by rfl)) rfl ?_
    refine XL.fin (kp 1 rfl (kp 3 rfl (kp 4 rfl (kp 18 rfl kn)))) ?_
    refine XC.condT rfl ?_
    refine XC.reg1 ?_
    refine XL.q (q_assign rfl) rfl ?_
    refine XL.fin (kp 1 rfl (kp 3 rfl (kp 4 rfl kn))) ?_
    refine XC.reg ?_
    refine XL.q (q_fieldAddrN 6 (off := 6) rfl (by kernel_rfl) rfl) rfl ?_
    refine XL.q (q_load rfl (by kernel_rfl) (by first | exact At.mem | exact mA (by assumption)) (by rfl)) rfl ?_
    refine XL.q (q_assign rfl) rfl ?_
    refine XL.fin (kp 1 rfl (kp 3 rfl (kp 4 rfl (kp 5 rfl kn)))) ?_
    refine XC.seq ?_
    refine XC.reg ?_
    refine XL.q (q_move rfl) rfl ?_
    refine XL.q (q_lenV2 (sz := 1) rfl (by kernel_rfl) h6.rd) rfl ?_
    refine XL.q (q_bin rfl rfl rfl) rfl ?_
    refine XL.fin (kp 1 rfl (kp 3 rfl (kp 4 rfl (kp 5 rfl (kp 23 rfl kn))))) ?_
    refine XC.cond rfl (fun hc => ?_) (fun hc => ?_)
    ·
      have h32 : 32 < wy6.length := by simp at hc; omega
      have htx : wy6.take (min wy6.length 32) = wy6.take 32 := by rw [Nat.min_eq_right (by omega)]
      have h6s := byi_hi h6 (show 32 ≤ wy6.length by omega)
      refine XC.reg1 ?_
      refine XL.q (q_move rfl) rfl ?_
      refine XL.q (q_hiV2 (sz := 1) (a := 32) rfl rfl (by kernel_rfl) rfl h6.rd (by omega)) rfl ?_
      generalize hvs : vHi 32 y6 = vs at *
      haveI := h6s.cel
      refine XL.q (q_assign rfl) rfl ?_
      refine XL.fin (kp 1 rfl (kp 3 rfl (kp 4 rfl (kp 5 rfl kn)))) ?_
      refine XC.drawF [0, 1, 2, 3, 4, 5, 6, 7, 8, 9, 10, 11, 12, 13, 14, 15, 16, 17, 18, 19, 20, 21, 22, 23, 24, 25, 26, 27, 28, 29, 30, 31, 32, 33, 34, 35, 36, 37, 38, 39, 40, 41, 42, 43, 44, 45, 46, 47, 48, 49, 50, 51, 52, 53, 54, 55, 56, 57, 58, 59, 60] [(0, 0), (1, 0), (2, 0), (3, 0), (4, 0), (5, 0), (6, 0), (7, 1), (8, 1), (9, 0), (10, 0), (11, 1), (12, 1), (13, 0), (14, 0), (15, 0), (16, 0), (17, 0), (18, 1), (19, 1), (20, 0), (21, 0), (22, 1), (23, 1), (24, 0), (25, 0), (26, 0), (27, 0), (28, 0), (29, 1), (30, 1), (31, 0), (32, 1), (33, 1), (34, 0), (35, 0), (36, 0), (37, 0), (38, 0), (39, 1), (40, 1), (41, 0), (42, 1), (43, 0), (44, 0), (45, 0), (46, 0), (47, 1), (48, 0), (49, 0), (50, 0), (51, 0), (52, 1), (53, 1), (54, 0), (55, 1), (56, 1), (57, 0), (58, 0), (59, 0), (60, 0)] (by kernel_rfl) (by kernel_rfl) fun hs => ?_
      refine XF.q hs rfl (q_move rfl) rfl ?_
      refine XF.q hs rfl (q_lenV2 (sz := 1) rfl (by kernel_rfl) (hs16.rd (R := M16) fun _ h => h)) rfl ?_
      refine XF.q hs rfl (q_move rfl) rfl ?_
      refine XF.q hs rfl (q_cmp true rfl rfl (eqT rfl)) rfl ?_
      refine XF.q hs rfl (q_move rfl) rfl ?_
      refine XF.qg hs rfl rfl rfl rfl (q_move rfl) rfl ?_
      refine XF.qg hs rfl rfl rfl rfl (q_atV2 (sz := 1) (a := 0) rfl rfl (by kernel_rfl) rfl (hs16.rd (R := M16) fun _ h => h) (by decide)) rfl ?_
      refine XF.rg hs rfl rfl rfl rfl (q_ldV (j := 0) (u := y2) (hs16.rd SubC.sub) rfl (by kernel_rfl) rfl) rfl ?_
      refine XF.rg hs rfl rfl rfl rfl (q_toStr2 rfl (by kernel_rfl) (h2.rd.mono SubC.sub)) rfl ?_
      refine XF.qg hs rfl rfl rfl rfl (q_fieldAddrN 2 (off := 2) rfl (by kernel_rfl) rfl) rfl ?_
      refine XF.qg hs rfl rfl rfl rfl (q_fieldAddrN 2 (off := 0) rfl (by kernel_rfl) rfl) rfl ?_
      refine XF.rg hs rfl rfl rfl rfl (q_load rfl (by kernel_rfl) (by first | exact At.mem | exact mA (by assumption)) (by rfl)) rfl ?_
      refine XF.rg hs rfl rfl rfl rfl (q_toStr2 rfl (by kernel_rfl) (h2.rd.mono SubC.sub)) rfl ?_
      refine XF.qg hs rfl rfl rfl rfl (q_strEqT rfl rfl rfl) rfl ?_
      refine XF.q hs rfl (q_pickT rfl rfl) rfl ?_
      refine XF.q hs rfl (q_move rfl) rfl ?_
      refine XF.qg hs rfl rfl rfl rfl (q_move rfl) rfl ?_
      refine XF.qg hs rfl rfl rfl rfl (q_atV2 (sz := 1) (a := 1) rfl rfl (by kernel_rfl) rfl (hs16.rd (R := M16) fun _ h => h) (by decide)) rfl ?_
      refine XF.rg hs rfl rfl rfl rfl (q_ldV (j := 1) (u := y3) (hs16.rd SubC.sub) rfl (by kernel_rfl) rfl) rfl ?_
      refine XF.rg hs rfl rfl rfl rfl (q_toStr2 rfl (by kernel_rfl) (h3.rd.mono SubC.sub)) rfl ?_
      refine XF.qg hs rfl rfl rfl rfl (q_fieldAddrN 2 (off := 2) rfl (by kernel_rfl) rfl) rfl ?_
      refine XF.qg hs rfl rfl rfl rfl (q_fieldAddrN 3 (off := 1) rfl (by kernel_rfl) rfl) rfl ?_
      refine XF.rg hs rfl rfl rfl rfl (q_load rfl (by kernel_rfl) (by first | exact At.mem | exact mA (by assumption)) (by rfl)) rfl ?_
      refine XF.rg hs rfl rfl rfl rfl (q_toStr2 rfl (by kernel_rfl) (h3.rd.mono SubC.sub)) rfl ?_
      refine XF.qg hs rfl rfl rfl rfl (q_strEqT rfl rfl rfl) rfl ?_
      refine XF.q hs rfl (q_pickT rfl rfl) rfl ?_
      refine XF.q hs rfl (q_move rfl) rfl ?_
      refine XF.qg hs rfl rfl rfl rfl (q_move rfl) rfl ?_
      refine XF.qg hs rfl rfl rfl rfl (q_atV2 (sz := 1) (a := 2) rfl rfl (by kernel_rfl) rfl (hs16.rd (R := M16) fun _ h => h) (by decide)) rfl ?_
      refine XF.rg hs rfl rfl rfl rfl (q_ldV (j := 2) (u := y5) (hs16.rd SubC.sub) rfl (by kernel_rfl) rfl) rfl ?_
      refine XF.rg hs rfl rfl rfl rfl (q_toStr2 rfl (by kernel_rfl) (h5.rd.mono SubC.sub)) rfl ?_
      refine XF.qg hs rfl rfl rfl rfl (q_fieldAddrN 5 (off := 5) rfl (by kernel_rfl) rfl) rfl ?_
      refine XF.rg hs rfl rfl rfl rfl (q_load rfl (by kernel_rfl) (by first | exact At.mem | exact mA (by assumption)) (by rfl)) rfl ?_
      refine XF.rg hs rfl rfl rfl rfl (q_toStr2 rfl (by kernel_rfl) (h5.rd.mono SubC.sub)) rfl ?_
      refine XF.qg hs rfl rfl rfl rfl (q_strEqT rfl rfl rfl) rfl ?_
      refine XF.q hs rfl (q_pickT rfl rfl) rfl ?_
      refine XF.q hs rfl (q_move rfl) rfl ?_
      refine XF.qg hs rfl rfl rfl rfl (q_move rfl) rfl ?_
      refine XF.qg hs rfl rfl rfl rfl (q_atV2 (sz := 1) (a := 3) rfl rfl (by kernel_rfl) rfl (hs16.rd (R := M16) fun _ h => h) (by decide)) rfl ?_
      refine XF.rg hs rfl rfl rfl rfl (q_ldV (j := 3) (u := vm) (hs16.rd SubC.sub) rfl (by kernel_rfl) rfl) rfl ?_
      refine XF.rg hs rfl rfl rfl rfl (q_toStr2 rfl (by kernel_rfl) (h6m.rd.mono SubC.sub)) rfl ?_
      refine XF.qg hs rfl rfl rfl rfl (q_move rfl) rfl ?_
      refine XF.rg hs rfl rfl rfl rfl (q_toStr2 rfl (by kernel_rfl) (h6s.rd.mono SubC.sub)) rfl ?_
      refine XF.qg hs rfl rfl rfl rfl (q_strEqT rfl rfl (by rw [htx])) rfl ?_
      refine XF.q hs rfl (q_pickT rfl rfl) rfl ?_
      refine XF.q hs rfl (q_move rfl) rfl ?_
      refine XF.qg hs rfl rfl rfl rfl (q_fieldAddrN 7 (off := 7) rfl (by kernel_rfl) rfl) rfl ?_
      refine XF.rg hs rfl rfl rfl rfl (q_load rfl (by kernel_rfl) (by first | exact At.mem | exact mA (by assumption)) (by rfl)) rfl ?_
      refine XF.qg hs rfl rfl rfl rfl (q_not rfl) rfl ?_
      refine XF.qg hs rfl rfl rfl rfl (q_move rfl) rfl ?_
      refine XF.qg hs rfl rfl rfl rfl (q_move rfl) rfl ?_
      refine XF.qg hs rfl rfl rfl rfl (q_atV2 (sz := 1) (a := 4) rfl rfl (by kernel_rfl) rfl (hs16.rd (R := M16) fun _ h => h) (by decide)) rfl ?_
      refine XF.rg hs rfl rfl rfl rfl (q_ldV (j := 4) (u := y9) (hs16.rd SubC.sub) rfl (by kernel_rfl) rfl) rfl ?_
      refine XF.rg hs rfl rfl rfl rfl (q_toStr2 rfl (by kernel_rfl) (h9.rd.mono SubC.sub)) rfl ?_
      refine XF.qg hs rfl rfl rfl rfl (q_fieldAddrN 9 (off := 9) rfl (by kernel_rfl) rfl) rfl ?_
      refine XF.rg hs rfl rfl rfl rfl (q_load rfl (by kernel_rfl) (by first | exact At.mem | exact mA (by assumption)) (by rfl)) rfl ?_
      refine XF.rg hs rfl rfl rfl rfl (q_toStr2 rfl (by kernel_rfl) (h9.rd.mono SubC.sub)) rfl ?_
      refine XF.qg hs rfl rfl rfl rfl (q_strEqT rfl rfl rfl) rfl ?_
      refine XF.qg hs rfl rfl rfl rfl (q_pickF rfl rfl) rfl ?_
      refine XF.q hs rfl (q_pickT rfl rfl) rfl ?_
      refine XF.q hs rfl (q_assign rfl) rfl ?_
      refine XF.fin (kp 2 rfl kn) ?_
      refine XC.ret ?_
      exact ⟨_, [], [], res1 rfl rfl, List.nil_sublist _, by simp, rfl, rfl, rfl⟩
    ·
      have h32 : ¬ 32 < wy6.length := by simp at hc; omega
      have htx : wy6.take (min wy6.length 32) = wy6 := List.take_of_length_le (by omega)
      refine XC.skip ?_
      refine nx (kp 1 rfl (kp 3 rfl (kp 4 rfl (kp 5 rfl kn)))) ?_
      refine XC.drawF [0, 1, 2, 3, 4, 5, 6, 7, 8, 9, 10, 11, 12, 13, 14, 15, 16, 17, 18, 19, 20, 21, 22, 23, 24, 25, 26, 27, 28, 29, 30, 31, 32, 33, 34, 35, 36, 37, 38, 39, 40, 41, 42, 43, 44, 45, 46, 47, 48, 49, 50, 51, 52, 53, 54, 55, 56, 57, 58, 59, 60] [(0, 0), (1, 0), (2, 0), (3, 0), (4, 0), (5, 0), (6, 0), (7, 1), (8, 1), (9, 0), (10, 0), (11, 1), (12, 1), (13, 0), (14, 0), (15, 0), (16, 0), (17, 0), (18, 1), (19, 1), (20, 0), (21, 0), (22, 1), (23, 1), (24, 0), (25, 0), (26, 0), (27, 0), (28, 0), (29, 1), (30, 1), (31, 0), (32, 1), (33, 1), (34, 0), (35, 0), (36, 0), (37, 0), (38, 0), (39, 1), (40, 1), (41, 0), (42, 1), (43, 0), (44, 0), (45, 0), (46, 0), (47, 1), (48, 0), (49, 0), (50, 0), (51, 0), (52, 1), (53, 1), (54, 0), (55, 1), (56, 1), (57, 0), (58, 0), (59, 0), (60, 0)] (by kernel_rfl) (by kernel_rfl) fun hs => ?_
      refine XF.q hs rfl (q_move rfl) rfl ?_
      refine XF.q hs rfl (q_lenV2 (sz := 1) rfl (by kernel_rfl) (hs16.rd (R := M16) fun _ h => h)) rfl ?_
      refine XF.q hs rfl (q_move rfl) rfl ?_
      refine XF.q hs rfl (q_cmp true rfl rfl (eqT rfl)) rfl ?_
      refine XF.q hs rfl (q_move rfl) rfl ?_
      refine XF.qg hs rfl rfl rfl rfl (q_move rfl) rfl ?_
      refine XF.qg hs rfl rfl rfl rfl (q_atV2 (sz := 1) (a := 0) rfl rfl (by kernel_rfl) rfl (hs16.rd (R := M16) fun _ h => h) (by decide)) rfl ?_
      refine XF.rg hs rfl rfl rfl rfl (q_ldV (j := 0) (u := y2) (hs16.rd SubC.sub) rfl (by kernel_rfl) rfl) rfl ?_
      refine XF.rg hs rfl rfl rfl rfl (q_toStr2 rfl (by kernel_rfl) (h2.rd.mono SubC.sub)) rfl ?_
      refine XF.qg hs rfl rfl rfl rfl (q_fieldAddrN 2 (off := 2) rfl (by kernel_rfl) rfl) rfl ?_
      refine XF.qg hs rfl rfl rfl rfl (q_fieldAddrN 2 (off := 0) rfl (by kernel_rfl) rfl) rfl ?_
      refine XF.rg hs rfl rfl rfl rfl (q_load rfl (by kernel_rfl) (by first | exact At.mem | exact mA (by assumption)) (by rfl)) rfl ?_
      refine XF.rg hs rfl rfl rfl rfl (q_toStr2 rfl (by kernel_rfl) (h2.rd.mono SubC.sub)) rfl ?_
      refine XF.qg hs rfl rfl rfl rfl (q_strEqT rfl rfl rfl) rfl ?_
      refine XF.q hs rfl (q_pickT rfl rfl) rfl ?_
      refine XF.q hs rfl (q_move rfl) rfl ?_
      refine XF.qg hs rfl rfl rfl rfl (q_move rfl) rfl ?_
      refine XF.qg hs rfl rfl rfl rfl (q_atV2 (sz := 1) (a := 1) rfl rfl (by kernel_rfl) rfl (hs16.rd (R := M16) fun _ h => h) (by decide)) rfl ?_
      refine XF.rg hs rfl rfl rfl rfl (q_ldV (j := 1) (u := y3) (hs16.rd SubC.sub) rfl (by kernel_rfl) rfl) rfl ?_
      refine XF.rg hs rfl rfl rfl rfl (q_toStr2 rfl (by kernel_rfl) (h3.rd.mono SubC.sub)) rfl ?_
      refine XF.qg hs rfl rfl rfl rfl (q_fieldAddrN 2 (off := 2) rfl (by kernel_rfl) rfl) rfl ?_
      refine XF.qg hs rfl rfl rfl rfl (q_fieldAddrN 3 (off := 1) rfl (by kernel_rfl) rfl) rfl ?_
      refine XF.rg hs rfl rfl rfl rfl (q_load rfl (by kernel_rfl) (by first | exact At.mem | exact mA (by assumption)) (by rfl)) rfl ?_
      refine XF.rg hs rfl rfl rfl rfl (q_toStr2 rfl (by kernel_rfl) (h3.rd.mono SubC.sub)) rfl ?_
      refine XF.qg hs rfl rfl rfl rfl (q_strEqT rfl rfl rfl) rfl ?_
      refine XF.q hs rfl (q_pickT rfl rfl) rfl ?_
      refine XF.q hs rfl (q_move rfl) rfl ?_
      refine XF.qg hs rfl rfl rfl rfl (q_move rfl) rfl ?_
      refine XF.qg hs rfl rfl rfl rfl (q_atV2 (sz := 1) (a := 2) rfl rfl (by kernel_rfl) rfl (hs16.rd (R := M16) fun _ h => h) (by decide)) rfl ?_
      refine XF.rg hs rfl rfl rfl rfl (q_ldV (j := 2) (u := y5) (hs16.rd SubC.sub) rfl (by kernel_rfl) rfl) rfl ?_
      refine XF.rg hs rfl rfl rfl rfl (q_toStr2 rfl (by kernel_rfl) (h5.rd.mono SubC.sub)) rfl ?_
      refine XF.qg hs rfl rfl rfl rfl (q_fieldAddrN 5 (off := 5) rfl (by kernel_rfl) rfl) rfl ?_
      refine XF.rg hs rfl rfl rfl rfl (q_load rfl (by kernel_rfl) (by first | exact At.mem | exact mA (by assumption)) (by rfl)) rfl ?_
      refine XF.rg hs rfl rfl rfl rfl (q_toStr2 rfl (by kernel_rfl) (h5.rd.mono SubC.sub)) rfl ?_
      refine XF.qg hs rfl rfl rfl rfl (q_strEqT rfl rfl rfl) rfl ?_
      refine XF.q hs rfl (q_pickT rfl rfl) rfl ?_
      refine XF.q hs rfl (q_move rfl) rfl ?_
      refine XF.qg hs rfl rfl rfl rfl (q_move rfl) rfl ?_
      refine XF.qg hs rfl rfl rfl rfl (q_atV2 (sz := 1) (a := 3) rfl rfl (by kernel_rfl) rfl (hs16.rd (R := M16) fun _ h => h) (by decide)) rfl ?_
      refine XF.rg hs rfl rfl rfl rfl (q_ldV (j := 3) (u := vm) (hs16.rd SubC.sub) rfl (by kernel_rfl) rfl) rfl ?_
      refine XF.rg hs rfl rfl rfl rfl (q_toStr2 rfl (by kernel_rfl) (h6m.rd.mono SubC.sub)) rfl ?_
      refine XF.qg hs rfl rfl rfl rfl (q_move rfl) rfl ?_
      refine XF.rg hs rfl rfl rfl rfl (q_toStr2 rfl (by kernel_rfl) (h6.rd.mono SubC.sub)) rfl ?_
      refine XF.qg hs rfl rfl rfl rfl (q_strEqT rfl rfl (by rw [htx])) rfl ?_
      refine XF.q hs rfl (q_pickT rfl rfl) rfl ?_
      refine XF.q hs rfl (q_move rfl) rfl ?_
      refine XF.qg hs rfl rfl rfl rfl (q_fieldAddrN 7 (off := 7) rfl (by kernel_rfl) rfl) rfl ?_
      refine XF.rg hs rfl rfl rfl rfl (q_load rfl (by kernel_rfl) (by first | exact At.mem | exact mA (by assumption)) (by rfl)) rfl ?_
      refine XF.qg hs rfl rfl rfl rfl (q_not rfl) rfl ?_
      refine XF.qg hs rfl rfl rfl rfl (q_move rfl) rfl ?_
      refine XF.qg hs rfl rfl rfl rfl (q_move rfl) rfl ?_
      refine XF.qg hs rfl rfl rfl rfl (q_atV2 (sz := 1) (a := 4) rfl rfl (by kernel_rfl) rfl (hs16.rd (R := M16) fun _ h => h) (by decide)) rfl ?_
      refine XF.rg hs rfl rfl rfl rfl (q_ldV (j := 4) (u := y9) (hs16.rd SubC.sub) rfl (by kernel_rfl) rfl) rfl ?_
      refine XF.rg hs rfl rfl rfl rfl (q_toStr2 rfl (by kernel_rfl) (h9.rd.mono SubC.sub)) rfl ?_
      refine XF.qg hs rfl rfl rfl rfl (q_fieldAddrN 9 (off := 9) rfl (by kernel_rfl) rfl) rfl ?_
      refine XF.rg hs rfl rfl rfl rfl (q_load rfl (by kernel_rfl) (by first | exact At.mem | exact mA (by assumption)) (by rfl)) rfl ?_
      refine XF.rg hs rfl rfl rfl rfl (q_toStr2 rfl (by kernel_rfl) (h9.rd.mono SubC.sub)) rfl ?_
      refine XF.qg hs rfl rfl rfl rfl (q_strEqT rfl rfl rfl) rfl ?_
      refine XF.qg hs rfl rfl rfl rfl (q_pickF rfl rfl) rfl ?_
      refine XF.q hs rfl (q_pickT rfl rfl) rfl ?_
      refine XF.q hs rfl (q_assign rfl) rfl ?_
      refine XF.fin (kp 2 rfl kn) ?_
      refine XC.ret ?_
      exact ⟨_, [], [], res1 rfl rfl, List.nil_sublist _, by simp, rfl, rfl, rfl⟩

set_option maxRecDepth 100000 in
theorem closureShown_F (y0 : Int) (y1 : Int) (y2 : Value) (wy2 : List Nat) (y3 : Value) (wy3 : List Nat) (y4 : Nat) (y5 : Value) (wy5 : List Nat) (y6 : Value) (wy6 : List Nat) (y8 : Nat) (y9 : Value) (wy9 : List Nat) (A : Mem) (h2 : Byi A y2 wy2) (h3 : Byi A y3 wy3) (h5 : Byi A y5 wy5) (h6 : Byi A y6 wy6) (h9 : Byi A y9 wy9) (hG : Glb A) : FnV Tryd.prog 3 [.agg #[.int .i64 y0, .int .i64 y1, y2, y3, .int .u32 ((y4 : Nat) : Int), y5, y6, .bool false, .int .u32 ((y8 : Nat) : Int), y9]] A (.bool true) := by
  haveI := h2.cel
  haveI := h3.cel
  haveI := h5.cel
  haveI := h6.cel
  haveI := h9.cel
  refine FnX.enter (N := 86) Tryd.func3 rfl rfl rfl fun w => ?_
  refine XC.keep (kp 0 rfl kn) ?_
  refine XC.reg ?_
  refine XL.lo rfl (l_box rfl (by first | exact Cel.cel | rfl) rfl fun b1 => ?_)
  refine XL.q (q_assign rfl) rfl ?_
  refine XL.fin (kp 1 rfl kn) ?_
  refine XC.seq ?_
  refine XC.reg ?_
  refine XL.callV a0 (by kernel_rfl) (awake22_spec _ hG.up) rfl ?_
  refine XL.q (q_not rfl) rfl ?_
  refine XL.q (q_move rfl) rfl ?_
  refine XL.gy rfl rfl (OpQ.opL (q_fieldAddrN 6 (off := 6) rfl (by kernel_rfl) rfl) rfl ?_)
  refine XL.gy rfl rfl (OpQ.opL (q_load rfl (by kernel_rfl) (by first | exact At.mem | exact mA (by assumption)) (by rfl)) rfl ?_)
  refine XL.gy rfl rfl (OpQ.opL (q_lenV2 (sz := 1) rfl (by kernel_rfl) h6.rd) rfl ?_)
  refine XL.gy rfl rfl (OpQ.opL (q_bin rfl rfl rfl) rfl ?_)
  refine XL.q (q_pickF rfl rfl) rfl ?_
  refine XL.fin (kp 1 rfl (kp 13 rfl kn)) ?_
  refine XC.cond rfl (fun hc => ?_) (fun hc => ?_)
  ·
    refine XC.reg ?_
    refine XL.callV a0 (by kernel_rfl) (awake22_spec _ hG.up) rfl ?_
    refine XL.q (q_assign rfl) rfl ?_
    refine XL.fin (kp 2 rfl kn) ?_
    refine XC.ret ?_
    refine tr ?_
    exact ⟨_, [], [], res1 rfl rfl, List.nil_sublist _, by simp, rfl, rfl, rfl⟩
  ·
    refine XC.skip ?_
    refine nx (kp 1 rfl kn) ?_
    refine XC.reg ?_
    refine XL.q (q_loadW (n := 10) rfl (by kernel_rfl) (by first | exact At.mem | exact mA (by assumption)) (by rfl)) rfl ?_
    refine XL.call (aS rfl a0) (by kernel_rfl) (shown_spec y0 y1 y2 wy2 y3 wy3 y4 y5 wy5 y6 wy6 false y8 y9 wy9 _ (h2.mono SubC.sub) (h3.mono SubC.sub) (h5.mono SubC.sub) (h6.mono SubC.sub) (h9.mono SubC.sub)) rfl ?_
    rintro v16 M16 J16 hs16
    replace hs16 : Sl 1 v16 4 ([y2, y3, y5, vHi (min wy6.length 32) y6] ++ []) M16 := hs16
    have h6m := byi_hi h6 (show min wy6.length 32 ≤ wy6.length by omega)
    generalize hvm : vHi (min wy6.length 32) y6 = vm at *
    haveI := h6m.cel
    haveI := hs16.cel
    refine XL.q (q_assign rfl) rfl ?_
    refine XL.fin (kp 1 rfl (kp 3 rfl kn)) ?_
    refine XC.reg ?_
    refine XL.q (q_assign rfl) rfl ?_
    refine XL.fin (kp 1 rfl (kp 3 rfl (kp 4 rfl kn))) ?_
    refine XC.seq ?_
    refine XC.reg ?_
    refine XL.q (q_fieldAddrN 7 (off := 7) rfl (by kernel_rfl) rfl) rfl ?_
    refine XL.q (q_load rfl (by kernel_rfl) (by first | exact At.mem | exact mA (by assumption)) (by rfl)) rfl ?_
    refine XL.fin (kp 1 rfl (kp 3 rfl (kp 4 rfl (kp 18 rfl kn)))) ?_
    refine XC.condF rfl ?_
    refine XC.skip ?_
    refine nx (kp 1 rfl (kp 3 rfl (kp 4 rfl kn))) ?_
    refine XC.reg ?_
    refine XL.q (q_fieldAddrN 6 (off := 6) rfl (by kernel_rfl) rfl) rfl ?_
    refine XL.q (q_load rfl (by kernel_rfl) (by first | exact At.mem | exact mA (by assumption)) (by rfl)) rfl ?_
    refine XL.q (q_assign rfl) rfl ?_
    refine XL.fin (kp 1 rfl (kp 3 rfl (kp 4 rfl (kp 5 rfl kn)))) ?_
    refine XC.seq ?_
    refine XC.reg ?_
    refine XL.q (q_move rfl) rfl ?_
    refine XL.q (q_lenV2 (sz := 1) rfl (by kernel_rfl) h6.rd) rfl ?_
    refine XL.q (q_bin rfl rfl rfl) rfl ?_
    refine XL.fin (kp 1 rfl (kp 3 rfl (kp 4 rfl (kp 5 rfl (kp 23 rfl kn))))) ?_
    refine XC.cond rfl (fun hc => ?_) (fun hc => ?_)
    ·
      have h32 : 32 < wy6.length := by simp at hc; omega
      have htx : wy6.take (min wy6.length 32) = wy6.take 32 := by rw [Nat.min_eq_right (by omega)]
      have h6s := byi_hi h6 (show 32 ≤ wy6.length by omega)
      refine XC.reg1 ?_
      refine XL.q (q_move rfl) rfl ?_
      refine XL.q (q_hiV2 (sz := 1) (a := 32) rfl rfl (by kernel_rfl) rfl h6.rd (by omega)) rfl ?_
      generalize hvs : vHi 32 y6 = vs at *
      haveI := h6s.cel
      refine XL.q (q_assign rfl) rfl ?_
      refine XL.fin (kp 1 rfl (kp 3 rfl (kp 4 rfl (kp 5 rfl kn)))) ?_
      refine XC.drawF [0, 1, 2, 3, 4, 5, 6, 7, 8, 9, 10, 11, 12, 13, 14, 15, 16, 17, 18, 19, 20, 21, 22, 23, 24, 25, 26, 27, 28, 29, 30, 31, 32, 33, 34, 35, 36, 37, 38, 39, 40, 41, 42, 43, 44, 45, 46, 47, 48, 49, 50, 51, 52, 53, 54, 55, 56, 57, 58, 59, 60] [(0, 0), (1, 0), (2, 0), (3, 0), (4, 0), (5, 0), (6, 0), (7, 1), (8, 1), (9, 0), (10, 0), (11, 1), (12, 1), (13, 0), (14, 0), (15, 0), (16, 0), (17, 0), (18, 1), (19, 1), (20, 0), (21, 0), (22, 1), (23, 1), (24, 0), (25, 0), (26, 0), (27, 0), (28, 0), (29, 1), (30, 1), (31, 0), (32, 1), (33, 1), (34, 0), (35, 0), (36, 0), (37, 0), (38, 0), (39, 1), (40, 1), (41, 0), (42, 1), (43, 0), (44, 0), (45, 0), (46, 0), (47, 1), (48, 0), (49, 0), (50, 0), (51, 0), (52, 1), (53, 1), (54, 0), (55, 1), (56, 1), (57, 0), (58, 0), (59, 0), (60, 0)] (by kernel_rfl) (by kernel_rfl) fun hs => ?_
      refine XF.q hs rfl (q_move rfl) rfl ?_
      refine XF.q hs rfl (q_lenV2 (sz := 1) rfl (by kernel_rfl) (hs16.rd (R := M16) fun _ h => h)) rfl ?_
      refine XF.q hs rfl (q_move rfl) rfl ?_
      refine XF.q hs rfl (q_cmp true rfl rfl (eqT rfl)) rfl ?_
      refine XF.q hs rfl (q_move rfl) rfl ?_
      refine XF.qg hs rfl rfl rfl rfl (q_move rfl) rfl ?_
      refine XF.qg hs rfl rfl rfl rfl (q_atV2 (sz := 1) (a := 0) rfl rfl (by kernel_rfl) rfl (hs16.rd (R := M16) fun _ h => h) (by decide)) rfl ?_
      refine XF.rg hs rfl rfl rfl rfl (q_ldV (j := 0) (u := y2) (hs16.rd SubC.sub) rfl (by kernel_rfl) rfl) rfl ?_
      refine XF.rg hs rfl rfl rfl rfl (q_toStr2 rfl (by kernel_rfl) (h2.rd.mono SubC.sub)) rfl ?_
      refine XF.qg hs rfl rfl rfl rfl (q_fieldAddrN 2 (off := 2) rfl (by kernel_rfl) rfl) rfl ?_
      refine XF.qg hs rfl rfl rfl rfl (q_fieldAddrN 2 (off := 0) rfl (by kernel_rfl) rfl) rfl ?_
      refine XF.rg hs rfl rfl rfl rfl (q_load rfl (by kernel_rfl) (by first | exact At.mem | exact mA (by assumption)) (by rfl)) rfl ?_
      refine XF.rg hs rfl rfl rfl rfl (q_toStr2 rfl (by kernel_rfl) (h2.rd.mono SubC.sub)) rfl ?_
      refine XF.qg hs rfl rfl rfl rfl (q_strEqT rfl rfl rfl) rfl ?_
      refine XF.q hs rfl (q_pickT rfl rfl) rfl ?_
      refine XF.q hs rfl (q_move rfl) rfl ?_
      refine XF.qg hs rfl rfl rfl rfl (q_move rfl) rfl ?_
      refine XF.qg hs rfl rfl rfl rfl (q_atV2 (sz := 1) (a := 1) rfl rfl (by kernel_rfl) rfl (hs16.rd (R := M16) fun _ h => h) (by decide)) rfl ?_
      refine XF.rg hs rfl rfl rfl rfl (q_ldV (j := 1) (u := y3) (hs16.rd SubC.sub) rfl (by kernel_rfl) rfl) rfl ?_
      refine XF.rg hs rfl rfl rfl rfl (q_toStr2 rfl (by kernel_rfl) (h3.rd.mono SubC.sub)) rfl ?_
      refine XF.qg hs rfl rfl rfl rfl (q_fieldAddrN 2 (off := 2) rfl (by kernel_rfl) rfl) rfl ?_
      refine XF.qg hs rfl rfl rfl rfl (q_fieldAddrN 3 (off := 1) rfl (by kernel_rfl) rfl) rfl ?_
      refine XF.rg hs rfl rfl rfl rfl (q_load rfl (by kernel_rfl) (by first | exact At.mem | exact mA (by assumption)) (by rfl)) rfl ?_
      refine XF.rg hs rfl rfl rfl rfl (q_toStr2 rfl (by kernel_rfl) (h3.rd.mono SubC.sub)) rfl ?_
      refine XF.qg hs rfl rfl rfl rfl (q_strEqT rfl rfl rfl) rfl ?_
      refine XF.q hs rfl (q_pickT rfl rfl) rfl ?_
      refine XF.q hs rfl (q_move rfl) rfl ?_
      refine XF.qg hs rfl rfl rfl rfl (q_move rfl) rfl ?_
      refine XF.qg hs rfl rfl rfl rfl (q_atV2 (sz := 1) (a := 2) rfl rfl (by kernel_rfl) rfl (hs16.rd (R := M16) fun _ h => h) (by decide)) rfl ?_
      refine XF.rg hs rfl rfl rfl rfl (q_ldV (j := 2) (u := y5) (hs16.rd SubC.sub) rfl (by kernel_rfl) rfl) rfl ?_
      refine XF.rg hs rfl rfl rfl rfl (q_toStr2 rfl (by kernel_rfl) (h5.rd.mono SubC.sub)) rfl ?_
      refine XF.qg hs rfl rfl rfl rfl (q_fieldAddrN 5 (off := 5) rfl (by kernel_rfl) rfl) rfl ?_
      refine XF.rg hs rfl rfl rfl rfl (q_load rfl (by kernel_rfl) (by first | exact At.mem | exact mA (by assumption)) (by rfl)) rfl ?_
      refine XF.rg hs rfl rfl rfl rfl (q_toStr2 rfl (by kernel_rfl) (h5.rd.mono SubC.sub)) rfl ?_
      refine XF.qg hs rfl rfl rfl rfl (q_strEqT rfl rfl rfl) rfl ?_
      refine XF.q hs rfl (q_pickT rfl rfl) rfl ?_
      refine XF.q hs rfl (q_move rfl) rfl ?_
      refine XF.qg hs rfl rfl rfl rfl (q_move rfl) rfl ?_
      refine XF.qg hs rfl rfl rfl rfl (q_atV2 (sz := 1) (a := 3) rfl rfl (by kernel_rfl) rfl (hs16.rd (R := M16) fun _ h => h) (by decide)) rfl ?_
      refine XF.rg hs rfl rfl rfl rfl (q_ldV (j := 3) (u := vm) (hs16.rd SubC.sub) rfl (by kernel_rfl) rfl) rfl ?_
      refine XF.rg hs rfl rfl rfl rfl (q_toStr2 rfl (by kernel_rfl) (h6m.rd.mono SubC.sub)) rfl ?_
      refine XF.qg hs rfl rfl rfl rfl (q_move rfl) rfl ?_
      refine XF.rg hs rfl rfl rfl rfl (q_toStr2 rfl (by kernel_rfl) (h6s.rd.mono SubC.sub)) rfl ?_
      refine XF.qg hs rfl rfl rfl rfl (q_strEqT rfl rfl (by rw [htx])) rfl ?_
      refine XF.q hs rfl (q_pickT rfl rfl) rfl ?_
      refine XF.q hs rfl (q_move rfl) rfl ?_
      refine XF.qg hs rfl rfl rfl rfl (q_fieldAddrN 7 (off := 7) rfl (by kernel_rfl) rfl) rfl ?_
      refine XF.rg hs rfl rfl rfl rfl (q_load rfl (by kernel_rfl) (by first | exact At.mem | exact mA (by assumption)) (by rfl)) rfl ?_
      refine XF.qg hs rfl rfl rfl rfl (q_not rfl) rfl ?_
      refine XF.qg hs rfl rfl rfl rfl (q_move rfl) rfl ?_
      refine XF.qn hs rfl rfl rfl rfl rfl rfl ?_
      refine XF.qn hs rfl rfl rfl rfl rfl rfl ?_
      refine XF.rn hs rfl rfl rfl rfl rfl rfl ?_
      refine XF.rn hs rfl rfl rfl rfl rfl rfl ?_
      refine XF.qn hs rfl rfl rfl rfl rfl rfl ?_
      refine XF.rn hs rfl rfl rfl rfl rfl rfl ?_
      refine XF.rn hs rfl rfl rfl rfl rfl rfl ?_
      refine XF.qn hs rfl rfl rfl rfl rfl rfl ?_
      refine XF.qg hs rfl rfl rfl rfl (q_pickT rfl rfl) rfl ?_
      refine XF.q hs rfl (q_pickT rfl rfl) rfl ?_
      refine XF.q hs rfl (q_assign rfl) rfl ?_
      refine XF.fin (kp 2 rfl kn) ?_
      refine XC.ret ?_
      exact ⟨_, [], [], res1 rfl rfl, List.nil_sublist _, by simp, rfl, rfl, rfl⟩
    ·
      have h32 : ¬ 32 < wy6.length := by simp at hc; omega
      have htx : wy6.take (min wy6.length 32) = wy6 := List.take_of_length_le (by omega)
      refine XC.skip ?_
      refine nx (kp 1 rfl (kp 3 rfl (kp 4 rfl (kp 5 rfl kn)))) ?_
      refine XC.drawF [0, 1, 2, 3, 4, 5, 6, 7, 8, 9, 10, 11, 12, 13, 14, 15, 16, 17, 18, 19, 20, 21, 22, 23, 24, 25, 26, 27, 28, 29, 30, 31, 32, 33, 34, 35, 36, 37, 38, 39, 40, 41, 42, 43, 44, 45, 46, 47, 48, 49, 50, 51, 52, 53, 54, 55, 56, 57, 58, 59, 60] [(0, 0), (1, 0), (2, 0), (3, 0), (4, 0), (5, 0), (6, 0), (7, 1), (8, 1), (9, 0), (10, 0), (11, 1), (12, 1), (13, 0), (14, 0), (15, 0), (16, 0), (17, 0), (18, 1), (19, 1), (20, 0), (21, 0), (22, 1), (23, 1), (24, 0), (25, 0), (26, 0), (27, 0), (28, 0), (29, 1), (30, 1), (31, 0), (32, 1), (33, 1), (34, 0), (35, 0), (36, 0), (37, 0), (38, 0), (39, 1), (40, 1), (41, 0), (42, 1), (43, 0), (44, 0), (45, 0), (46, 0), (47, 1), (48, 0), (49, 0), (50, 0), (51, 0), (52, 1), (53, 1), (54, 0), (55, 1), (56, 1), (57, 0), (58, 0), (59, 0), (60, 0)] (by kernel_rfl) (by kernel_rfl) fun hs => ?_
      refine XF.q hs rfl (q_move rfl) rfl ?_
      refine XF.q hs rfl (q_lenV2 (sz := 1) rfl (by kernel_rfl) (hs16.rd (R := M16) fun _ h => h)) rfl ?_
      refine XF.q hs rfl (q_move rfl) rfl ?_
      refine XF.q hs rfl (q_cmp true rfl rfl (eqT rfl)) rfl ?_
      refine XF.q hs rfl (q_move rfl) rfl ?_
      refine XF.qg hs rfl rfl rfl rfl (q_move rfl) rfl ?_
      refine XF.qg hs rfl rfl rfl rfl (q_atV2 (sz := 1) (a := 0) rfl rfl (by kernel_rfl) rfl (hs16.rd (R := M16) fun _ h => h) (by decide)) rfl ?_
      refine XF.rg hs rfl rfl rfl rfl (q_ldV (j := 0) (u := y2) (hs16.rd SubC.sub) rfl (by kernel_rfl) rfl) rfl ?_
      refine XF.rg hs rfl rfl rfl rfl (q_toStr2 rfl (by kernel_rfl) (h2.rd.mono SubC.sub)) rfl ?_
      refine XF.qg hs rfl rfl rfl rfl (q_fieldAddrN 2 (off := 2) rfl (by kernel_rfl) rfl) rfl ?_
      refine XF.qg hs rfl rfl rfl rfl (q_fieldAddrN 2 (off := 0) rfl (by kernel_rfl) rfl) rfl ?_
      refine XF.rg hs rfl rfl rfl rfl (q_load rfl (by kernel_rfl) (by first | exact At.mem | exact mA (by assumption)) (by rfl)) rfl ?_
      refine XF.rg hs rfl rfl rfl rfl (q_toStr2 rfl (by kernel_rfl) (h2.rd.mono SubC.sub)) rfl ?_
      refine XF.qg hs rfl rfl rfl rfl (q_strEqT rfl rfl rfl) rfl ?_
      refine XF.q hs rfl (q_pickT rfl rfl) rfl ?_
      refine XF.q hs rfl (q_move rfl) rfl ?_
      refine XF.qg hs rfl rfl rfl rfl (q_move rfl) rfl ?_
      refine XF.qg hs rfl rfl rfl rfl (q_atV2 (sz := 1) (a := 1) rfl rfl (by kernel_rfl) rfl (hs16.rd (R := M16) fun _ h => h) (by decide)) rfl ?_
      refine XF.rg hs rfl rfl rfl rfl (q_ldV (j := 1) (u := y3) (hs16.rd SubC.sub) rfl (by kernel_rfl) rfl) rfl ?_
      refine XF.rg hs rfl rfl rfl rfl (q_toStr2 rfl (by kernel_rfl) (h3.rd.mono SubC.sub)) rfl ?_
      refine XF.qg hs rfl rfl rfl rfl (q_fieldAddrN 2 (off := 2) rfl (by kernel_rfl) rfl) rfl ?_
      refine XF.qg hs rfl rfl rfl rfl (q_fieldAddrN 3 (off := 1) rfl (by kernel_rfl) rfl) rfl ?_
      refine XF.rg hs rfl rfl rfl rfl (q_load rfl (by kernel_rfl) (by first | exact At.mem | exact mA (by assumption)) (by rfl)) rfl ?_
      refine XF.rg hs rfl rfl rfl rfl (q_toStr2 rfl (by kernel_rfl) (h3.rd.mono SubC.sub)) rfl ?_
      refine XF.qg hs rfl rfl rfl rfl (q_strEqT rfl rfl rfl) rfl ?_
      refine XF.q hs rfl (q_pickT rfl rfl) rfl ?_
      refine XF.q hs rfl (q_move rfl) rfl ?_
      refine XF.qg hs rfl rfl rfl rfl (q_move rfl) rfl ?_
      refine XF.qg hs rfl rfl rfl rfl (q_atV2 (sz := 1) (a := 2) rfl rfl (by kernel_rfl) rfl (hs16.rd (R := M16) fun _ h => h) (by decide)) rfl ?_
      refine XF.rg hs rfl rfl rfl rfl (q_ldV (j := 2) (u := y5) (hs16.rd SubC.sub) rfl (by kernel_rfl) rfl) rfl ?_
      refine XF.rg hs rfl rfl rfl rfl (q_toStr2 rfl (by kernel_rfl) (h5.rd.mono SubC.sub)) rfl ?_
      refine XF.qg hs rfl rfl rfl rfl (q_fieldAddrN 5 (off := 5) rfl (by kernel_rfl) rfl) rfl ?_
      refine XF.rg hs rfl rfl rfl rfl (q_load rfl (by kernel_rfl) (by first | exact At.mem | exact mA (by assumption)) (by rfl)) rfl ?_
      refine XF.rg hs rfl rfl rfl rfl (q_toStr2 rfl (by kernel_rfl) (h5.rd.mono SubC.sub)) rfl ?_
      refine XF.qg hs rfl rfl rfl rfl (q_strEqT rfl rfl rfl) rfl ?_
      refine XF.q hs rfl (q_pickT rfl rfl) rfl ?_
      refine XF.q hs rfl (q_move rfl) rfl ?_
      refine XF.qg hs rfl rfl rfl rfl (q_move rfl) rfl ?_
      refine XF.qg hs rfl rfl rfl rfl (q_atV2 (sz := 1) (a := 3) rfl rfl (by kernel_rfl) rfl (hs16.rd (R := M16) fun _ h => h) (by decide)) rfl ?_
      refine XF.rg hs rfl rfl rfl rfl (q_ldV (j := 3) (u := vm) (hs16.rd SubC.sub) rfl (by kernel_rfl) rfl) rfl ?_
      refine XF.rg hs rfl rfl rfl rfl (q_toStr2 rfl (by kernel_rfl) (h6m.rd.mono SubC.sub)) rfl ?_
      refine XF.qg hs rfl rfl rfl rfl (q_move rfl) rfl ?_
      refine XF.rg hs rfl rfl rfl rfl (q_toStr2 rfl (by kernel_rfl) (h6.rd.mono SubC.sub)) rfl ?_
      refine XF.qg hs rfl rfl rfl rfl (q_strEqT rfl rfl (by rw [htx])) rfl ?_
      refine XF.q hs rfl (q_pickT rfl rfl) rfl ?_
      refine XF.q hs rfl (q_move rfl) rfl ?_
      refine XF.qg hs rfl rfl rfl rfl (q_fieldAddrN 7 (off := 7) rfl (by kernel_rfl) rfl) rfl ?_
      refine XF.rg hs rfl rfl rfl rfl (q_load rfl (by kernel_rfl) (by first | exact At.mem | exact mA (by assumption)) (by rfl)) rfl ?_
      refine XF.qg hs rfl rfl rfl rfl (q_not rfl) rfl ?_
      refine XF.qg hs rfl rfl rfl rfl (q_move rfl) rfl ?_
      refine XF.qn hs rfl rfl rfl rfl rfl rfl ?_
      refine XF.qn hs rfl rfl rfl rfl rfl rfl ?_
      refine XF.rn hs rfl rfl rfl rfl rfl rfl ?_
      refine XF.rn hs rfl rfl rfl rfl rfl rfl ?_
      refine XF.qn hs rfl rfl rfl rfl rfl rfl ?_
      refine XF.rn hs rfl rfl rfl rfl rfl rfl ?_
      refine XF.rn hs rfl rfl rfl rfl rfl rfl ?_
      refine XF.qn hs rfl rfl rfl rfl rfl rfl ?_
      refine XF.qg hs rfl rfl rfl rfl (q_pickT rfl rfl) rfl ?_
      refine XF.q hs rfl (q_pickT rfl rfl) rfl ?_
      refine XF.q hs rfl (q_assign rfl) rfl ?_
      refine XF.fin (kp 2 rfl kn) ?_
      refine XC.ret ?_
      exact ⟨_, [], [], res1 rfl rfl, List.nil_sublist _, by simp, rfl, rfl, rfl⟩

theorem closureShown_spec (y0 : Int) (y1 : Int) (y2 : Value) (wy2 : List Nat) (y3 : Value) (wy3 : List Nat) (y4 : Nat) (y5 : Value) (wy5 : List Nat) (y6 : Value) (wy6 : List Nat) (y7 : Bool) (y8 : Nat) (y9 : Value) (wy9 : List Nat) (A : Mem) (h2 : Byi A y2 wy2) (h3 : Byi A y3 wy3) (h5 : Byi A y5 wy5) (h6 : Byi A y6 wy6) (h9 : Byi A y9 wy9) (hG : Glb A) : FnV Tryd.prog 3 [.agg #[.int .i64 y0, .int .i64 y1, y2, y3, .int .u32 ((y4 : Nat) : Int), y5, y6, .bool y7, .int .u32 ((y8 : Nat) : Int), y9]] A (.bool true) := by
  cases y7
  · exact closureShown_F y0 y1 y2 wy2 y3 wy3 y4 y5 wy5 y6 wy6 y8 y9 wy9 A h2 h3 h5 h6 h9 hG
  · exact closureShown_T y0 y1 y2 wy2 y3 wy3 y4 y5 wy5 y6 wy6 y8 y9 wy9 A h2 h3 h5 h6 h9 hG
