/- The walk of ChainSteps. -/
import Derived.Test.YtibemhcnjdgemaaDoorChn7
import Derived.Test.YtibemhcnjdgemaaDoorChnR
set_option linter.unusedVariables false
set_option linter.unusedSimpArgs false
namespace Go.Proofs.YtibemhcnjdgemaaDoor
open Go.Px
def stp (r : Bool) : Nat → Ps × List Nat
  | 0 => (freshS (opn r), freshK (opn r))
  | i + 1 => (stepS (stp r i).1 (stp r i).2, stepC (stp r i).1 (stp r i).2)
structure StpOk (r : Bool) (i : Nat) : Prop where
  real : (stp r i).1.real = r
  kok : Kok (stp r i).1 (stp r i).2
  tok : Tok (stp r i).1.ts
  len : (stp r i).1.ts.length ≤ 1 + 3 * i
theorem stp_ok (r : Bool) (i : Nat) (hi : i ≤ 100) : StpOk r i := by
  induction i with
  | zero => exact ⟨by show (freshS (opn r)).real = r; cases r <;> rfl, opn_kok r, opn_tok2 r, by have := opn_len r; show (freshS (opn r)).ts.length ≤ _; omega⟩
  | succ i ih =>
    have ih := ih (by omega)
    have hl := ih.len
    refine ⟨(derS_real _ _ _ _ _).1.trans ih.real, step_kok ih.kok ih.tok (by omega), step_tok ih.kok ih.tok (by omega), ?_⟩
    have := derS_len (stp r i).1 (stp r i).2 [] stepW 2
    show (stepS (stp r i).1 (stp r i).2).ts.length ≤ _
    unfold stepS
    simp at this
    omega
theorem stepL_t {s : Ps} {key : List Nat} (h : s.real = true) : stepK s key = ((bigR key [] stepW 2).take 32).drop 0 ∧ stepC s key = ((bigR key [] stepW 2).take 64).drop 32 := by
  unfold stepK stepC stepL
  rw [derK_t h]
  exact ⟨rfl, rfl⟩
theorem chk_ne (n : Nat) (k : List Nat) (s : Ps) (hs : s.real = true) : ∀ (i : Nat) (f : Nat → List Nat), (∀ j, f (j + 1) = ((bigR (f j) [] stepW 2).take 64).drop 32) → f 0 = k → chkR n k = true → i < n → stepK s (f i) ≠ stepC s (f i) := by
  induction n generalizing k with
  | zero => intro i f _ _ _ h; omega
  | succ n ih =>
    intro i f hf h0 hc hi
    have e : chkR (n + 1) k = ((!(((bigR k [] stepW 2).take 32).drop 0 == ((bigR k [] stepW 2).take 64).drop 32)) && chkR n (((bigR k [] stepW 2).take 64).drop 32)) := rfl
    rw [e, Bool.and_eq_true] at hc
    obtain ⟨h1, h2⟩ := hc
    cases i with
    | zero =>
      obtain ⟨e1, e2⟩ := stepL_t (key := f 0) hs
      rw [e1, e2, h0]
      intro h
      rw [h] at h1
      simp at h1
    | succ i => exact ih _ i (fun j => f (j + 1)) (fun j => hf (j + 1)) (by show f (0 + 1) = _; rw [hf 0, h0]) h2 (by omega)
theorem stp_ne (r : Bool) (i : Nat) (hi : i < 20) : stepK (stp r i).1 (stp r i).2 ≠ stepC (stp r i).1 (stp r i).2 := by
  have h := stp_ok r i (by omega)
  cases r with
  | false => exact step_ne h.kok h.tok (by have := h.len; omega) h.real
  | true =>
    refine chk_ne 20 (keyR [99, 104, 97, 105, 110] 1) (stp true i).1 h.real i (fun j => (stp true j).2) (fun j => ?_) (show freshK (opn true) = keyR chainW 1 from freshK_t rfl) chk20 hi
    have hj : (stp true j).1.real = true := by
      induction j with
      | zero => rfl
      | succ j ih => exact (derS_real _ _ _ _ _).1.trans ih
    exact (stepL_t hj).2

set_option maxRecDepth 100000 in
theorem chainSteps_spec (m n : Nat) (A : Mem) (hm : m < 256) (hn : n < 256) (hG : Glb A) : FnV Tryd.prog 3 [.int .u8 ((m : Nat) : Int), .int .u8 ((n : Nat) : Int)] A (.bool true) := by
  refine FnX.enter (N := 90) Tryd.func3 rfl rfl rfl fun w => ?_
  refine XC.keep (kp 0 rfl (kp 1 rfl kn)) ?_
  refine XC.reg ?_
  refine XL.q (q_assign rfl) rfl ?_
  refine XL.fin (kp 0 rfl (kp 1 rfl kn)) ?_
  refine XC.seq ?_
  refine XC.reg ?_
  refine XL.call a0 (by kernel_rfl) (cawake_spec _ hG.up) rfl ?_
  rintro v13 M13 J13 ⟨rfl, rfl⟩
  refine XL.q (q_not rfl) rfl ?_
  refine XL.fin (kp 0 rfl (kp 1 rfl (kp 14 rfl kn))) ?_
  refine XC.condF rfl ?_
  refine XC.skip ?_
  refine nx (kp 0 rfl (kp 1 rfl kn)) ?_
  refine XC.reg ?_
  refine XL.q (q_move rfl) rfl ?_
  refine XL.call (aS rfl a0) (by kernel_rfl) (open_spec m _ hm hG.up) rfl ?_
  rintro v17 MP0 J17 ⟨pb, kv0, rfl, hP0, hk0⟩
  haveI := hk0.cel
  generalize hrr : (m % 2 == 0) = r at *
  refine XL.q (q_move rfl) rfl ?_
  refine XL.q (q_x0 rfl) rfl ?_
  refine XL.q (q_x1 rfl) rfl ?_
  refine XL.lo rfl (l_alloc (cs := [.slice none 0 0, .int .u32 0]) (by kernel_rfl) rfl fun b6 => ?_)
  refine XL.q (q_assign rfl) rfl ?_
  refine XL.lo rfl (l_storeW rfl rfl Cel.cel (by kernel_rfl) (by rfl) (by intro c hc; simp only [List.mem_cons, List.not_mem_nil, or_false] at hc; rcases hc with rfl | rfl; exact hk0.one; rfl) UpC.upd ?_)
  refine XL.fin (kp 1 rfl (kp 5 rfl (kp 6 rfl kn))) ?_
  refine XC.seq ?_
  refine XC.reg ?_
  refine XL.q (q_assign rfl) rfl ?_
  refine XL.fin (kp 1 rfl (kp 5 rfl (kp 6 rfl (kp 7 rfl kn)))) ?_
  refine XC.block ?_
  refine XC.loop (α := Nat × Mem × Value × Mem) (fun x => [(1, .int .u8 ((n : Nat) : Int)), (5, .pointer (some ⟨pb, 0, none⟩)), (6, .pointer (some ⟨b6, 0, none⟩)), (7, .int .i64 ((x.1 : Nat) : Int))]) (fun x => x.2.1 ++ [(b6, blk [x.2.2.1, .int .u32 ((x.1 : Nat) : Int)] 27)]) (fun x => x.2.2.2) (fun x => x.1 ≤ n % 20 ∧ Prm pb (stp r x.1).1 x.2.1 ∧ By x.2.2.2 x.2.2.1 (stp r x.1).2) (fun x => n % 20 - x.1) ⟨0, MP0, kv0, J17 ++ (J13 ++ [])⟩ ⟨Nat.zero_le _, hP0, hk0.mono SubC.sub⟩ (kp 1 rfl (kp 5 rfl (kp 6 rfl (kp 7 rfl kn)))) (Fit.pick PickC.perm (Fit.last PickC.perm)) (fun _ h => h) ?_
  rintro ⟨i, MPi, kvi, Ji⟩ ⟨hi, hPi, hki⟩
  dsimp only at hi hPi hki ⊢
  haveI := hki.cel
  have hn20 : n % 20 < 20 := Nat.mod_lt _ (by decide)
  refine XC.seq ?_
  refine XC.reg ?_
  refine XL.q (q_move rfl) rfl ?_
  refine XL.q (q_move rfl) rfl ?_
  refine XL.q (q_same (k' := .i64) rfl (by kernel_rfl) (by show _ < 9223372036854775808; omega)) rfl ?_
  refine XL.q (q_remI (b := 20) rfl rfl rfl rfl (by omega)) rfl ?_
  refine XL.q (q_bin rfl rfl rfl) rfl ?_
  refine XL.fin (kp 1 rfl (kp 5 rfl (kp 6 rfl (kp 7 rfl (kp 24 rfl kn))))) ?_
  refine XC.cond rfl (fun hc => ?_) (fun hc => ?_)
  ·
    have hlt : i < n % 20 := by simp at hc; omega
    have hso := stp_ok r i (by omega)
    have hsl := hso.len
    have hsne := stp_ne r i (by omega)
    have hag := step_again hso.kok hso.tok (s' := stepS (stp r i).1 (stp r i).2) (by have := derS_len (stp r i).1 (stp r i).2 [] stepW 2; unfold stepS; simp at this; omega) (Pext.refl _) (step_tok hso.kok hso.tok (by omega))
    have hsucc : stp r (i + 1) = (stepS (stp r i).1 (stp r i).2, stepC (stp r i).1 (stp r i).2) := rfl
    generalize (stp r i).1 = s at *
    generalize (stp r i).2 = key at *
    obtain ⟨hag1, hag2⟩ := hag
    have hagK : stepK (stepS s key) key = stepK s key := by unfold stepK; rw [hag2]
    have hagC : stepC (stepS s key) key = stepC s key := by unfold stepC; rw [hag2]
    refine XC.skip ?_
    refine nx (kp 1 rfl (kp 5 rfl (kp 6 rfl (kp 7 rfl kn)))) ?_
    refine XC.seq ?_
    refine XC.block ?_
    refine XC.reg ?_
    refine XL.q (q_move rfl) rfl ?_
    refine XL.q (q_fieldAddrN 0 (off := 0) rfl (by kernel_rfl) rfl) rfl ?_
    refine XL.q (q_load (v := kvi) rfl (by kernel_rfl) At.mem (by rfl)) rfl ?_
    refine XL.lo rfl (l_call (Mc := MPi) (R := _) (aS rfl (aS rfl (aS rfl (aS rfl (aS rfl a0))))) (by kernel_rfl) PickC.perm (derive_spec pb s kvi (.slice none 0 0) key stepW [] 2 MPi _ hPi (hki.mono SubC.sub) LsV.nil (by decide) ⟨by decide⟩ (by decide) (by decide) (by decide) (by omega) hG.up) rfl ?_)
    rintro v30 M30 J30 ⟨hP30, hL30⟩
    have hlen := derK_len s key [] stepW 2
    obtain ⟨us, u0, u1, hru, hu0, hu1, hb0, hb1⟩ := lsv_two hL30 hlen
    haveI := hru.cel
    haveI := hb0.cel
    haveI := hb1.cel
    change By J30 u0 (stepK s key) at hb0
    change By J30 u1 (stepC s key) at hb1
    change Prm pb (stepS s key) M30 at hP30
    refine XL.q (q_assign rfl) rfl ?_
    refine XL.fin (kp 1 rfl (kp 5 rfl (kp 6 rfl (kp 7 rfl (kp 8 rfl kn))))) ?_
    refine XC.reg ?_
    refine XL.q (q_move rfl) rfl ?_
    refine XL.q (q_loadW (n := 2) rfl (by kernel_rfl) (by first | exact At.mem | exact mA (by assumption)) (by rfl)) rfl ?_
    refine XL.lo rfl (l_call (Mc := M30) (R := _) (aS rfl (aS rfl a0)) (by kernel_rfl) PickC.perm (step_spec pb (stepS s key) kvi key i M30 _ hP30 (hki.mono SubC.sub) (by have := derS_len s key [] stepW 2; unfold stepS; simp at this; omega) hG.up) rfl ?_)
    rintro v34 M34 J34 ⟨w1, w2, rfl, hP34, hw1, hw2⟩
    rw [hagK] at hw1
    rw [hagC] at hw2
    rw [hag1] at hP34
    haveI := hw1.cel
    haveI := hw2.cel
    rw [Nat.mod_eq_of_lt (show i + 1 < 4294967296 by omega)]
    refine XL.q (q_move rfl) rfl ?_
    refine XL.q (q_x0 rfl) rfl ?_
    refine XL.q (q_x1 rfl) rfl ?_
    refine XL.lo rfl (l_alloc (cs := [.slice none 0 0, .int .u32 0]) (by kernel_rfl) rfl fun b10 => ?_)
    refine XL.q (q_assign rfl) rfl ?_
    refine XL.lo rfl (l_storeW rfl rfl Cel.cel (by kernel_rfl) (by rfl) (by intro c hc; simp only [List.mem_cons, List.not_mem_nil, or_false] at hc; rcases hc with rfl | rfl; exact hw2.one; rfl) UpC.upd ?_)
    refine XL.fin (kp 1 rfl (kp 5 rfl (kp 6 rfl (kp 7 rfl (kp 8 rfl (kp 9 rfl (kp 10 rfl kn))))))) ?_
    refine XC.seq ?_
    refine XC.drawF [0, 1, 2, 3, 4, 5, 6, 7, 8, 9, 10, 11, 12, 13, 14, 15, 16, 17, 18, 19, 20, 21, 22, 23, 24, 25, 26, 27, 28, 29, 30, 31, 32] [(0, 0), (1, 1), (2, 0), (3, 0), (4, 1), (5, 1), (6, 0), (7, 0), (8, 0), (9, 1), (10, 1), (11, 0), (12, 0), (13, 1), (14, 1), (15, 0), (16, 0), (17, 0), (18, 0), (19, 1), (20, 0), (21, 1), (22, 0), (23, 0), (24, 0), (25, 0), (26, 0), (27, 1), (28, 0), (29, 1), (30, 1), (31, 0), (32, 0)] (by kernel_rfl) (by kernel_rfl) fun hs => ?_
    refine XF.q hs rfl (q_move rfl) rfl ?_
    refine XF.r hs rfl (q_toStr2 rfl (by kernel_rfl) (hw1.rd.mono SubC.sub)) rfl ?_
    refine XF.q hs rfl (q_move rfl) rfl ?_
    refine XF.q hs rfl (q_atV2 (sz := 1) (a := 0) rfl rfl (by kernel_rfl) rfl hru (by decide)) rfl ?_
    refine XF.r hs rfl (q_ldV (u := u0) (hru.mono SubC.sub) rfl (by kernel_rfl) hu0) rfl ?_
    refine XF.r hs rfl (q_toStr2 rfl (by kernel_rfl) (hb0.rd.mono SubC.sub)) rfl ?_
    refine XF.q hs rfl ((show (!decide ((stepK s key) = (stepK s key))) = false by simp) ▸ q_sNe rfl rfl rfl rfl hw1.lt hw1.lt) rfl ?_
    refine XF.q hs rfl (q_move rfl) rfl ?_
    refine XF.qg hs rfl rfl rfl rfl (q_fieldAddrN 0 (off := 0) rfl (by kernel_rfl) rfl) rfl ?_
    refine XF.rg hs rfl rfl rfl rfl (q_load (v := w2) rfl (by kernel_rfl) At.mem (by rfl)) rfl ?_
    refine XF.rg hs rfl rfl rfl rfl (q_toStr2 rfl (by kernel_rfl) (hw2.rd.mono SubC.sub)) rfl ?_
    refine XF.qg hs rfl rfl rfl rfl (q_move rfl) rfl ?_
    refine XF.qg hs rfl rfl rfl rfl (q_atV2 (sz := 1) (a := 1) rfl rfl (by kernel_rfl) rfl hru (by decide)) rfl ?_
    refine XF.rg hs rfl rfl rfl rfl (q_ldV (u := u1) (hru.mono SubC.sub) rfl (by kernel_rfl) hu1) rfl ?_
    refine XF.rg hs rfl rfl rfl rfl (q_toStr2 rfl (by kernel_rfl) (hb1.rd.mono SubC.sub)) rfl ?_
    refine XF.qg hs rfl rfl rfl rfl ((show (!decide ((stepC s key) = (stepC s key))) = false by simp) ▸ q_sNe rfl rfl rfl rfl hw2.lt hw2.lt) rfl ?_
    refine XF.q hs rfl (q_pickF rfl rfl) rfl ?_
    refine XF.q hs rfl (q_move rfl) rfl ?_
    refine XF.qg hs rfl rfl rfl rfl (q_fieldAddrN 1 (off := 1) rfl (by kernel_rfl) rfl) rfl ?_
    refine XF.rg hs rfl rfl rfl rfl (q_load rfl (by kernel_rfl) (by first | exact At.mem | exact mA (by assumption)) (by rfl)) rfl ?_
    refine XF.qg hs rfl rfl rfl rfl (q_fieldAddrN 1 (off := 1) rfl (by kernel_rfl) rfl) rfl ?_
    refine XF.rg hs rfl rfl rfl rfl (q_load rfl (by kernel_rfl) (by first | exact At.mem | exact mA (by assumption)) (by rfl)) rfl ?_
    refine XF.qg hs rfl rfl rfl rfl (q_addM 4294967296 (b := 1) rfl rfl rfl rfl rfl rfl) rfl ?_
    refine XF.qg hs rfl rfl rfl rfl (q_cmp false rfl rfl (neF (by omega))) rfl ?_
    refine XF.q hs rfl (q_pickF rfl rfl) rfl ?_
    refine XF.q hs rfl (q_move rfl) rfl ?_
    refine XF.qg hs rfl rfl rfl rfl (q_move rfl) rfl ?_
    refine XF.rg hs rfl rfl rfl rfl (q_toStr2 rfl (by kernel_rfl) (hw1.rd.mono SubC.sub)) rfl ?_
    refine XF.qg hs rfl rfl rfl rfl (q_fieldAddrN 0 (off := 0) rfl (by kernel_rfl) rfl) rfl ?_
    refine XF.rg hs rfl rfl rfl rfl (q_load (v := w2) rfl (by kernel_rfl) At.mem (by rfl)) rfl ?_
    refine XF.rg hs rfl rfl rfl rfl (q_toStr2 rfl (by kernel_rfl) (hw2.rd.mono SubC.sub)) rfl ?_
    refine XF.qg hs rfl rfl rfl rfl ((show (decide ((stepK s key) = (stepC s key))) = false by simp [hsne]) ▸ q_sEq rfl rfl rfl rfl hw1.lt hw2.lt) rfl ?_
    refine XF.q hs rfl (q_pickF rfl rfl) rfl ?_
    refine XF.fin (kp 1 rfl (kp 5 rfl (kp 6 rfl (kp 7 rfl (kp 10 rfl (kp 69 rfl kn)))))) ?_
    refine XC.condF rfl ?_
    refine XC.skip ?_
    refine nx (kp 1 rfl (kp 5 rfl (kp 6 rfl (kp 7 rfl (kp 10 rfl kn))))) ?_
    refine XC.reg1 ?_
    refine XL.q (q_loadW (n := 2) rfl (by kernel_rfl) (by first | exact At.mem | exact mA (by assumption)) (by rfl)) rfl ?_
    refine XL.lo rfl (l_storeW rfl rfl Cel.cel (by kernel_rfl) (by rfl) (by intro c hc; simp only [List.mem_cons, List.not_mem_nil, or_false] at hc; rcases hc with rfl | rfl; exact hw2.one; rfl) UpC.upd ?_)
    refine XL.nil ?_
    refine nb ?_
    refine nx (kp 1 rfl (kp 5 rfl (kp 6 rfl (kp 7 rfl kn)))) ?_
    refine XC.reg1 ?_
    refine XL.q (q_move rfl) rfl ?_
    refine XL.q (q_addI (b := 1) rfl rfl rfl rfl (by omega)) rfl ?_
    refine XL.q (q_assign rfl) rfl ?_
    refine XL.nil ?_
    exact rn ⟨i + 1, M34, w2, J34 ++ (J30 ++ Ji)⟩ ⟨hlt, by dsimp only; rw [hsucc]; exact hP34, by dsimp only; rw [hsucc]; exact hw2.mono SubC.sub⟩ (by dsimp only; omega) (kp 1 rfl (kp 5 rfl (kp 6 rfl (kp 7 rfl kn)))) (Fit.pick PickC.perm (Fit.last PickC.perm)) (fun _ h => h)
  ·
    have hge : i = n % 20 := by simp at hc; omega
    refine XC.exit ?_
    refine te ?_
    refine re ?_
    refine be rfl ?_
    refine nx (kp 6 rfl kn) ?_
    refine XC.reg ?_
    refine XL.q (q_loadW (n := 2) rfl (by kernel_rfl) (by first | exact At.mem | exact mA (by assumption)) (by rfl)) rfl ?_
    refine XL.callV (aS rfl (aS rfl a0)) (by kernel_rfl) (stepNil_spec kvi (stp r i).2 i _ (hki.mono SubC.sub)) rfl ?_
    refine XL.q (q_move rfl) rfl ?_
    refine XL.q (q_x0 rfl) rfl ?_
    refine XL.q (q_x1 rfl) rfl ?_
    refine XL.lo rfl (l_alloc (cs := [.slice none 0 0, .int .u32 0]) (by kernel_rfl) rfl fun b12 => ?_)
    refine XL.q (q_assign rfl) rfl ?_
    refine XL.lo rfl (l_storeW rfl rfl Cel.cel (by kernel_rfl) (by rfl) (by intro c hc; simp only [List.mem_cons, List.not_mem_nil, or_false] at hc; rcases hc with rfl | rfl; exact hki.one; rfl) UpC.upd ?_)
    refine XL.fin (kp 6 rfl (kp 12 rfl kn)) ?_
    refine XC.reg ?_
    refine XL.q (q_fieldAddrN 1 (off := 1) rfl (by kernel_rfl) rfl) rfl ?_
    refine XL.q (q_load rfl (by kernel_rfl) (by first | exact At.mem | exact mA (by assumption)) (by rfl)) rfl ?_
    refine XL.q (q_fieldAddrN 1 (off := 1) rfl (by kernel_rfl) rfl) rfl ?_
    refine XL.q (q_load rfl (by kernel_rfl) (by first | exact At.mem | exact mA (by assumption)) (by rfl)) rfl ?_
    refine XL.q (q_cmp true rfl rfl (eqT rfl)) rfl ?_
    refine XL.q (q_move rfl) rfl ?_
    refine XL.gy rfl rfl (OpQ.opL (q_fieldAddrN 0 (off := 0) rfl (by kernel_rfl) rfl) rfl ?_)
    refine XL.gy rfl rfl (OpQ.opL (q_load (v := kvi) rfl (by kernel_rfl) At.mem (by rfl)) rfl ?_)
    refine XL.gy rfl rfl (OpQ.opL (q_toStr2 rfl (by kernel_rfl) (hki.rd.mono SubC.sub)) rfl ?_)
    refine XL.gy rfl rfl (OpQ.opL (q_fieldAddrN 0 (off := 0) rfl (by kernel_rfl) rfl) rfl ?_)
    refine XL.gy rfl rfl (OpQ.opL (q_load (v := kvi) rfl (by kernel_rfl) At.mem (by rfl)) rfl ?_)
    refine XL.gy rfl rfl (OpQ.opL (q_toStr2 rfl (by kernel_rfl) (hki.rd.mono SubC.sub)) rfl ?_)
    refine XL.gy rfl rfl (OpQ.opL ((show (decide ((stp r i).2 = (stp r i).2)) = true by simp) ▸ q_sEq rfl rfl rfl rfl hki.lt hki.lt) rfl ?_)
    refine XL.q (q_pickT rfl rfl) rfl ?_
    refine XL.q (q_assign rfl) rfl ?_
    refine XL.fin (kp 4 rfl kn) ?_
    refine XC.ret ?_
    exact ⟨_, [], [], res1 rfl rfl, List.nil_sublist _, by simp, rfl, rfl, rfl⟩
