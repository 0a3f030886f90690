/- The walks of pawllaw10: awake, same, ChainNil. -/
import Derived.Test.YtibemhcnjdgemaaDoorChn6
set_option linter.unusedVariables false
set_option linter.unusedSimpArgs false
namespace Go.Proofs.YtibemhcnjdgemaaDoor
open Go.Px
def aw1 : Ast := rep (aSt [107]) 2 (freshS (opn false), freshK (opn false), 0, [])
def aw2 : Ast := rep (aSt [107]) 2 (aw1.1, aw1.2.1, 2, aw1.2.2.2)
theorem aw1_n : aw1.2.2.1 = 2 := rep_n _ _ _
theorem aw1_ts : aw1.1.ts.length ≤ 100 := Nat.le_trans (rep_ts _ _ _) (by have := opn_len false; dsimp only; omega)
theorem aw1_sk : aw1.2.2.2.length ≤ 1000 := rep_sk _ _ _ (by decide)
set_option maxRecDepth 100000 in
theorem aw2_len : aw2.2.2.2.length = 4 := by decide +kernel
set_option maxRecDepth 100000 in
theorem aw2_get : (getS aw2.2.2.2 [107] 3).isSome = true := by decide +kernel

set_option maxRecDepth 100000 in
theorem cawake_spec (A : Mem) (hG : Glb A) : FnX Tryd.prog 12 [] [] A fun q M J => M = [] ∧ q = .bool true := by
  refine FnX.enterZ (N := 57) Tryd.func12 rfl rfl rfl fun w_ => ?_
  refine XC.keep kn ?_
  refine XC.reg ?_
  refine XL.q (q_assign rfl) rfl ?_
  refine XL.fin kn ?_
  refine XC.reg ?_
  refine XL.call (aS rfl a0) (by kernel_rfl) (open_spec 1 _ (by decide) hG.up) rfl ?_
  rintro v10 MP J10 ⟨pb, kv, rfl, hP, hk⟩
  haveI := hk.cel
  change Prm pb (freshS (opn false)) MP at hP
  change By J10 kv (freshK (opn false)) at hk
  refine XL.q (q_move rfl) rfl ?_
  refine XL.q (q_x0 rfl) rfl ?_
  refine XL.q (q_x1 rfl) rfl ?_
  refine XL.lo rfl (l_alloc (cs := [.slice none 0 0, .int .u32 0]) (by kernel_rfl) rfl fun b2 => ?_)
  refine XL.q (q_assign rfl) rfl ?_
  refine XL.lo rfl (l_storeW rfl rfl Cel.cel (by kernel_rfl) (by rfl) (by intro c hc; simp only [List.mem_cons, List.not_mem_nil, or_false] at hc; rcases hc with rfl | rfl; exact hk.one; rfl) UpC.upd ?_)
  refine XL.fin (kp 1 rfl (kp 2 rfl kn)) ?_
  refine XC.reg ?_
  refine XL.q (q_build (place := fun x => #[(0, 1)][x]?) (z := [.slice none 0 0]) (fun _ => by kernel_rfl) e0 bd0) rfl ?_
  refine XL.lo rfl (l_box rfl (by first | exact Cel.cel | rfl) rfl fun b14 => ?_)
  refine XL.q (q_assign rfl) rfl ?_
  refine XL.fin (kp 1 rfl (kp 2 rfl (kp 3 rfl kn))) ?_
  refine XC.reg ?_
  refine XL.q (q_move rfl) rfl ?_
  refine XL.q (q_loadW (n := 2) rfl (by kernel_rfl) (by first | exact At.mem | exact mA (by assumption)) (by rfl)) rfl ?_
  refine XL.lo rfl (l_buildSlice (e := 5) (sz := 1) (z := [.int .u8 0]) (by kernel_rfl) (eS rfl e0) (bdS 0 1 rfl (by rfl) bd0) rfl fun b18 => ?_)
  refine XL.lo rfl (l_mark rfl (by kernel_rfl) UpC.upd rfl ?_)
  refine XL.frz (B := [_]) (PickC.sing).perm ?_
  refine XL.q (q_move rfl) rfl ?_
  refine XL.lo rfl (l_call (Mc := MP ++ [(b14, blk [.slice none 0 0] 38)]) (R := _) (aS rfl (aS rfl (aS rfl (aS rfl (aS rfl a0))))) (by kernel_rfl) PickC.perm (ahead_spec pb b14 (freshS (opn false)) kv _ (freshK (opn false)) [107] 0 2 [] _ MP _ _ hP ⟨_, [], [], rfl, Sl.nil, RwL.nil⟩ upR (hk.mono SubC.sub) ⟨Rd.whole (n := 1) At.mem (by rfl), by decide, by decide⟩ (by decide) (by decide) (by decide) (by decide) (by have := opn_len false; omega) hG.up) rfl ?_)
  rintro v21 M21 J21 ⟨MP1, MS1, kv1, rfl, rfl, hP1, hS1, hk1⟩
  haveI := hk1.cel
  change Prm pb aw1.1 MP1 at hP1
  change Sto _ b14 aw1.2.2.2 MS1 at hS1
  change By _ kv1 aw1.2.1 at hk1
  rw [show (rep (aSt [107]) (2 - 0) (freshS (opn false), freshK (opn false), 0, [])).2.2.1 = 2 from aw1_n]
  have aw1_ts := aw1_ts
  have aw1_sk := aw1_sk
  refine XL.q (q_move rfl) rfl ?_
  refine XL.q (q_x0 rfl) rfl ?_
  refine XL.q (q_x1 rfl) rfl ?_
  refine XL.lo rfl (l_storeW rfl rfl Cel.cel (by kernel_rfl) (by rfl) (by intro c hc; simp only [List.mem_cons, List.not_mem_nil, or_false] at hc; rcases hc with rfl | rfl; exact hk1.one; rfl) UpC.upd ?_)
  refine XL.q (q_assign rfl) rfl ?_
  refine XL.fin (kp 1 rfl (kp 2 rfl (kp 3 rfl (kp 4 rfl kn)))) ?_
  refine XC.seq ?_
  refine XC.reg ?_
  refine XL.q (q_move rfl) rfl ?_
  refine XL.q (q_cmp false rfl rfl (neF rfl)) rfl ?_
  refine XL.fin (kp 1 rfl (kp 2 rfl (kp 3 rfl (kp 25 rfl kn)))) ?_
  refine XC.condF rfl ?_
  refine XC.skip ?_
  refine nx (kp 1 rfl (kp 2 rfl (kp 3 rfl kn))) ?_
  refine XC.reg ?_
  refine XL.q (q_move rfl) rfl ?_
  refine XL.q (q_loadW (n := 2) rfl (by kernel_rfl) (by first | exact At.mem | exact mA (by assumption)) (by rfl)) rfl ?_
  refine XL.lo rfl (l_buildSlice (e := 5) (sz := 1) (z := [.int .u8 0]) (by kernel_rfl) (eS rfl e0) (bdS 0 1 rfl (by rfl) bd0) rfl fun b29 => ?_)
  refine XL.lo rfl (l_mark rfl (by kernel_rfl) UpC.upd rfl ?_)
  refine XL.frz (B := [_]) (PickC.sing).perm ?_
  refine XL.q (q_move rfl) rfl ?_
  refine XL.lo rfl (l_call (Mc := MP1 ++ MS1) (R := _) (aS rfl (aS rfl (aS rfl (aS rfl (aS rfl a0))))) (by kernel_rfl) PickC.perm (ahead_spec pb b14 aw1.1 kv1 _ aw1.2.1 [107] 2 4 aw1.2.2.2 _ MP1 MS1 _ hP1 (hS1.mono SubC.sub) upR (hk1.mono SubC.sub) ⟨Rd.whole (n := 1) At.mem (by rfl), by decide, by decide⟩ aw1_sk (by decide) (by decide) (by decide) (by omega) hG.up) rfl ?_)
  rintro v32 M32 J32 ⟨MP2, MS2, kv2, rfl, rfl, hP2, hS2, hk2⟩
  haveI := hk2.cel
  obtain ⟨vS, rowsS, BS, rfl, hslS, hrwS⟩ := hS2.ex
  change Sl 3 vS aw2.2.2.2.length rowsS.flatten BS at hslS
  change RwL skR _ rowsS aw2.2.2.2 at hrwS
  have aw2_len := aw2_len
  haveI := hslS.cel
  refine XL.q (q_move rfl) rfl ?_
  refine XL.q (q_x0 rfl) rfl ?_
  refine XL.q (q_x1 rfl) rfl ?_
  refine XL.lo rfl (l_alloc (cs := [.slice none 0 0, .int .u32 0]) (by kernel_rfl) rfl fun b5 => ?_)
  refine XL.lo rfl (l_storeW rfl rfl Cel.cel (by kernel_rfl) (by rfl) (by intro c hc; simp only [List.mem_cons, List.not_mem_nil, or_false] at hc; rcases hc with rfl | rfl; exact hk2.one; rfl) UpC.upd ?_)
  refine XL.q (q_assign rfl) rfl ?_
  refine XL.fin (kp 2 rfl (kp 3 rfl (kp 6 rfl kn))) ?_
  refine XC.reg ?_
  refine XL.q (q_move rfl) rfl ?_
  refine XL.lo rfl (l_buildSlice (e := 5) (sz := 1) (z := [.int .u8 0]) (by kernel_rfl) (eS rfl e0) (bdS 0 1 rfl (by rfl) bd0) rfl fun b37 => ?_)
  refine XL.lo rfl (l_mark rfl (by kernel_rfl) UpC.upd rfl ?_)
  refine XL.frz (B := [_]) (PickC.sing).perm ?_
  refine XL.call (aS rfl (aS rfl (aS rfl a0))) (by kernel_rfl) (get_spec b14 vS _ rowsS aw2.2.2.2 [107] 3 _ At.mem (hslS.rd SubC.sub) (hrwS.mono skT SubC.sub) (by omega) ⟨Rd.whole (n := 1) At.mem (by rfl), by decide, by decide⟩) rfl ?_
  rintro v39 M39 J39 ⟨rfl, u39, rfl, hb39⟩
  haveI := hb39.cel
  rw [aw2_get]
  refine XL.q (q_move rfl) rfl ?_
  refine XL.q (q_x0 rfl) rfl ?_
  refine XL.q (q_x1 rfl) rfl ?_
  refine XL.q (q_assign rfl) rfl ?_
  refine XL.q (q_assign rfl) rfl ?_
  refine XL.fin (kp 2 rfl (kp 3 rfl (kp 6 rfl (kp 8 rfl kn)))) ?_
  refine XC.reg ?_
  refine XL.q (q_move rfl) rfl ?_
  refine XL.q (q_cmp true rfl rfl (eqT rfl)) rfl ?_
  refine XL.q (q_move rfl) rfl ?_
  refine XL.gy rfl rfl (OpQ.opL (q_move rfl) rfl ?_)
  refine XL.callVg rfl rfl (aS rfl a0) (by kernel_rfl) (slen_spec b14 aw2.2.2.2.length vS _ _ At.mem (hslS.rd SubC.sub)) rfl ?_
  rw [aw2_len]
  refine XL.gy rfl rfl (OpQ.opL (q_cmp true rfl rfl (eqT rfl)) rfl ?_)
  refine XL.q (q_pickT rfl rfl) rfl ?_
  refine XL.q (q_move rfl) rfl ?_
  refine XL.gy rfl rfl (OpQ.opL (q_move rfl) rfl ?_)
  refine XL.q (q_pickT rfl rfl) rfl ?_
  refine XL.q (q_move rfl) rfl ?_
  refine XL.gy rfl rfl (OpQ.opL (q_fieldAddrN 1 (off := 1) rfl (by kernel_rfl) rfl) rfl ?_)
  refine XL.gy rfl rfl (OpQ.opL (q_load rfl (by kernel_rfl) (by first | exact At.mem | exact mA (by assumption)) (by rfl)) rfl ?_)
  refine XL.gy rfl rfl (OpQ.opL (q_cmp true rfl rfl (eqT rfl)) rfl ?_)
  refine XL.q (q_pickT rfl rfl) rfl ?_
  refine XL.q (q_assign rfl) rfl ?_
  refine XL.fin (kp 0 rfl kn) ?_
  refine XC.ret ?_
  exact ⟨_, [], [], res1 rfl rfl, Fit.sub (List.nil_sublist _), rfl, rfl⟩
