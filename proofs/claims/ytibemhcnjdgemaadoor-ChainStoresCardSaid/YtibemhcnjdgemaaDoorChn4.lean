/- The walks of package chain: Step, Ahead. -/
import Derived.Test.YtibemhcnjdgemaaDoorChn3
set_option linter.unusedVariables false
set_option linter.unusedSimpArgs false
namespace Go.Proofs.YtibemhcnjdgemaaDoor
open Go.Px
def stepW : List Nat := [115, 116, 101, 112]
def stepS (s : Ps) (key : List Nat) : Ps := derS s key [] stepW 2
def stepL (s : Ps) (key : List Nat) : List (List Nat) := derK s key [] stepW 2
def stepK (s : Ps) (key : List Nat) : List Nat := (stepL s key).getD 0 []
def stepC (s : Ps) (key : List Nat) : List Nat := (stepL s key).getD 1 []
theorem derK_len (s : Ps) (key : List Nat) (ws : List (List Nat)) (lb : List Nat) (n : Nat) : (derK s key ws lb n).length = n := by
  unfold derK
  split
  · exact cutR_len _ _
  · exact (ptAll_len _ _ _ _).1
theorem rdFold_len (ws : List (List Nat)) (st : List Tm × List Int) : (ws.foldl rdSt st).1.length ≤ st.1.length + ws.length := by
  induction ws generalizing st with
  | nil => exact Nat.le_refl _
  | cons w ws ih =>
    have h1 := ih (rdSt st w)
    have h2 := rdT_len (ts := st.1) (ws := w)
    have h3 : (rdSt st w).1.length = (rdT st.1 w).length := rfl
    rw [List.foldl_cons, List.length_cons]; omega
theorem derS_len (s : Ps) (key : List Nat) (ws : List (List Nat)) (lb : List Nat) (n : Nat) : (derS s key ws lb n).ts.length ≤ s.ts.length + 1 + ws.length + n := by
  unfold derS
  split
  · omega
  · have h1 := (ptAll_len (rdAll s.ts key ws).1 (rdAll s.ts key ws).2 lb n).2
    have h2 := rdFold_len ws (rdSt (s.ts, []) key)
    have h3 := rdT_len (ts := s.ts) (ws := key)
    have h4 : (rdSt (s.ts, []) key).1.length = (rdT s.ts key).length := rfl
    show (derT s.ts key ws lb n).1.length ≤ _
    have h5 : (rdAll s.ts key ws).1.length ≤ s.ts.length + 1 + ws.length := by
      show (ws.foldl rdSt (rdSt (s.ts, []) key)).1.length ≤ _
      omega
    unfold derT
    omega
theorem derS_real (s : Ps) (key : List Nat) (ws : List (List Nat)) (lb : List Nat) (n : Nat) : (derS s key ws lb n).real = s.real ∧ (derS s key ws lb n).n = s.n ∧ (derS s key ws lb n).seed = s.seed := by
  unfold derS
  split <;> exact ⟨rfl, rfl, rfl⟩
theorem Prm.bound {pb : Nat} {s : Ps} {M : Mem} (h : Prm pb s M) : ∀ t ∈ s.ts, Tmo t := by
  obtain ⟨_, _, _, _, _, _, _, hT⟩ := h.ex
  obtain ⟨_, _, _, _, _, _, _, _, _, _, _, h, _⟩ := hT
  exact h
theorem lsv_two {R : Mem} {v : Value} {ls : List (List Nat)} (h : LsV R v ls) (hl : ls.length = 2) : ∃ vs u0 u1, Rd R 1 v 2 vs ∧ vs[0]? = some u0 ∧ vs[1]? = some u1 ∧ By R u0 (ls.getD 0 []) ∧ By R u1 (ls.getD 1 []) := by
  obtain ⟨vs, h1, h2⟩ := h.ex
  obtain ⟨u0, a0, b0⟩ := h2.at (j := 0) (by omega)
  obtain ⟨u1, a1, b1⟩ := h2.at (j := 1) (by omega)
  rw [hl] at h1
  refine ⟨vs, u0, u1, h1, a0, a1, ?_, ?_⟩
  · rw [List.getD_eq_getElem?_getD, List.getElem?_eq_getElem (by omega)]; exact b0
  · rw [List.getD_eq_getElem?_getD, List.getElem?_eq_getElem (by omega)]; exact b1

set_option maxRecDepth 100000 in
theorem deriveNil_spec (kv wv : Value) (key lb : List Nat) (ws : List (List Nat)) (n : Nat) (A : Mem) (hk : By A kv key) (hw : LsV A wv ws) : FnV Tryd.prog 14 [.pointer none, kv, wv, .string (txt lb), .int .i64 (n : Int)] A (.slice none 0 0) := by
  haveI := hk.cel
  haveI := hw.cel
  refine FnX.enter (N := 108) Tryd.func14 rfl rfl rfl fun w => ?_
  refine XC.keep (kp 0 rfl (kp 1 rfl (kp 2 rfl (kp 3 rfl (kp 4 rfl kn))))) ?_
  refine XC.reg ?_
  refine XL.q (q_assign rfl) rfl ?_
  refine XL.fin (kp 0 rfl (kp 1 rfl (kp 2 rfl (kp 3 rfl (kp 4 rfl kn))))) ?_
  refine XC.reg ?_
  refine XL.q (q_assign rfl) rfl ?_
  refine XL.fin (kp 0 rfl (kp 1 rfl (kp 2 rfl (kp 3 rfl (kp 4 rfl (kp 11 rfl kn)))))) ?_
  refine XC.seq ?_
  refine XC.reg ?_
  refine XL.q (q_move rfl) rfl ?_
  refine XL.q (q_ptrEqNil (e := 85) rfl rfl (by kernel_rfl)) rfl ?_
  refine XL.q (q_move rfl) rfl ?_
  refine XL.gn rfl rfl rfl rfl ?_
  refine XL.gn rfl rfl rfl rfl ?_
  refine XL.q (q_pickT rfl rfl) rfl ?_
  refine XL.fin (kp 0 rfl (kp 1 rfl (kp 2 rfl (kp 3 rfl (kp 4 rfl (kp 11 rfl (kp 26 rfl kn))))))) ?_
  refine XC.condT rfl ?_
  refine XC.reg ?_
  refine XL.q (q_move rfl) rfl ?_
  refine XL.q (q_assign rfl) rfl ?_
  refine XL.fin (kp 10 rfl kn) ?_
  refine XC.ret ?_
  refine tr ?_
  exact ⟨_, [], [], res1 rfl rfl, List.nil_sublist _, by simp, rfl, rfl, rfl⟩

theorem resT1C {P : Program} {fn : Func} {l : Env} {R : Mem} {t u b n : Nat} {ty : TypeId} {cs : List Value} {e : TypeId} {fr : Nat × Nat} {v : Value} (h : fn.results = #[.tmp u, .cell t ty]) (hv : lk l t = some (.pointer (some ⟨b, 0, none⟩))) (hu : lk l u = some v) (ht : rowT P ty = some n)
    (hb : (b, Obj.cells cs.toArray e fr) ∈ R) (hn : cs.length = n) : Res P fn l R (.tuple #[v, .agg cs.toArray]) := fun N a w ha hw => by
  obtain ⟨dsc, h1, h2, h3⟩ := rowT_spec ht
  have hl := run_loadVar_row (P := P) w b e ty cs.toArray fr dsc (hw b _ hb) h1 (by cases dsc <;> simp_all [TypeDesc.isRow]) (by rw [h3, ← hn]; simp)
  simp [results, h, ha.slot t _ hv, ha.slot u _ hu, asAddr, hl]

set_option maxRecDepth 100000 in
theorem step_spec (pb : Nat) (s : Ps) (kv : Value) (key : List Nat) (n : Nat) (MP A : Mem) (hP : Prm pb s MP) (hk : By A kv key) (hn : s.ts.length ≤ 1040000) (hG : Glb A) : FnX Tryd.prog 15 [.pointer (some ⟨pb, 0, none⟩), .agg #[kv, .int .u32 ((n : Nat) : Int)]] MP A fun q M J => ∃ v1 v2, q = .tuple #[v1, .agg #[v2, .int .u32 (((n + 1) % 4294967296 : Nat) : Int)]] ∧ Prm pb (stepS s key) M ∧ By J v1 (stepK s key) ∧ By J v2 (stepC s key) := by
  haveI := hk.cel
  refine FnX.enterZ (N := 25) Tryd.func15 rfl rfl rfl fun w_ => ?_
  refine XC.keep (kp 0 rfl (kp 1 rfl kn)) ?_
  refine XC.reg ?_
  refine XL.lo rfl (l_box rfl Cel.cel rfl fun b3 => ?_)
  refine XL.q (q_assign rfl) rfl ?_
  refine XL.lo rfl (l_alloc (cs := [.slice none 0 0, .int .u32 0]) (by kernel_rfl) rfl fun b5 => ?_)
  refine XL.fin (kp 0 rfl (kp 3 rfl (kp 5 rfl kn))) ?_
  refine XC.reg ?_
  refine XL.q (q_move rfl) rfl ?_
  refine XL.q (q_fieldAddrN 0 (off := 0) rfl (by kernel_rfl) rfl) rfl ?_
  refine XL.q (q_load (v := kv) rfl (by kernel_rfl) At.mem (by rfl)) rfl ?_
  refine XL.lo rfl (l_call (Mc := MP) (R := _) (aS rfl (aS rfl (aS rfl (aS rfl (aS rfl a0))))) (by kernel_rfl) PickC.perm (derive_spec pb s kv (.slice none 0 0) key stepW [] 2 MP _ hP (hk.mono SubC.sub) LsV.nil (by decide) ⟨by decide⟩ (by decide) (by decide) (by decide) hn hG.up) rfl ?_)
  rintro v10 M10 J10 ⟨hP10, hL10⟩
  have hlen := derK_len s key [] stepW 2
  obtain ⟨us, u0, u1, hr, hu0, hu1, hb0, hb1⟩ := lsv_two hL10 hlen
  haveI := hr.cel
  haveI := hb0.cel
  haveI := hb1.cel
  refine XL.q (q_assign rfl) rfl ?_
  refine XL.fin (kp 3 rfl (kp 5 rfl (kp 6 rfl kn))) ?_
  refine XC.seq ?_
  refine XC.reg ?_
  refine XL.q (q_move rfl) rfl ?_
  refine XL.q (q_lenV2 (sz := 1) rfl (by kernel_rfl) hr) rfl ?_
  refine XL.q (q_cmp false rfl rfl (neF rfl)) rfl ?_
  refine XL.fin (kp 3 rfl (kp 5 rfl (kp 6 rfl (kp 13 rfl kn)))) ?_
  refine XC.condF rfl ?_
  refine XC.skip ?_
  refine nx (kp 3 rfl (kp 5 rfl (kp 6 rfl kn))) ?_
  refine XC.drawF [0, 1, 2, 3, 4, 5, 6, 7, 8, 9, 10] [(0, 0), (1, 0), (2, 1), (3, 0), (4, 0), (5, 1), (6, 0), (7, 1), (8, 0), (9, 0), (10, 0), (11, 2)] (by kernel_rfl) (by kernel_rfl) fun hs => ?_
  refine XF.q hs rfl (q_move rfl) rfl ?_
  refine XF.q hs rfl (q_atV2 (sz := 1) (a := 0) rfl rfl (by kernel_rfl) rfl hr (by decide)) rfl ?_
  refine XF.r hs rfl (q_ldV (u := u0) (hr.mono SubC.sub) rfl (by kernel_rfl) hu0) rfl ?_
  refine XF.q hs rfl (q_move rfl) rfl ?_
  refine XF.q hs rfl (q_atV2 (sz := 1) (a := 1) rfl rfl (by kernel_rfl) rfl hr (by decide)) rfl ?_
  refine XF.r hs rfl (q_ldV (u := u1) (hr.mono SubC.sub) rfl (by kernel_rfl) hu1) rfl ?_
  refine XF.q hs rfl (q_fieldAddrN 1 (off := 1) rfl (by kernel_rfl) rfl) rfl ?_
  refine XF.r hs rfl (q_load rfl (by kernel_rfl) (by first | exact At.mem | exact mA (by assumption)) (by rfl)) rfl ?_
  refine XF.q hs rfl (q_addM 4294967296 (b := 1) rfl rfl rfl rfl rfl rfl) rfl ?_
  refine XF.q hs rfl (q_build (place := fun x => #[(0, 1), (1, 1)][x]?) (z := [.slice none 0 0, .int .u32 0]) (fun _ => by kernel_rfl) (eS rfl (eS rfl e0)) (bdS 0 1 rfl (by rfl) (bdS 1 1 rfl (by rfl) bd0))) rfl ?_
  refine XF.q hs rfl (q_assign rfl) rfl ?_
  refine XF.tl rfl rfl rfl (l_storeW rfl rfl Cel.cel (by kernel_rfl) (by rfl) (by intro c hc; simp only [List.mem_cons, List.not_mem_nil, or_false] at hc; rcases hc with rfl | rfl; exact hb1.one; rfl) UpC.upd ?_)
  refine XF.fin (kp 4 rfl (kp 5 rfl kn)) ?_
  refine XC.ret ?_
  refine ⟨_, M10, [], resT1C (n := 2) rfl rfl rfl (by kernel_rfl) At.mem (by rfl), Fit.none (Fit.last PickC.perm), u0, u1, rfl, hP10, hb0.mono (fun x hx => by simp [hx]), hb1.mono (fun x hx => by simp [hx])⟩

set_option maxRecDepth 100000 in
theorem stepNil_spec (kv : Value) (key : List Nat) (n : Nat) (A : Mem) (hk : By A kv key) : FnV Tryd.prog 15 [.pointer none, .agg #[kv, .int .u32 ((n : Nat) : Int)]] A (.tuple #[.slice none 0 0, .agg #[kv, .int .u32 ((n : Nat) : Int)]]) := by
  haveI := hk.cel
  refine FnX.enter (N := 25) Tryd.func15 rfl rfl rfl fun w => ?_
  refine XC.keep (kp 0 rfl (kp 1 rfl kn)) ?_
  refine XC.reg ?_
  refine XL.lo rfl (l_box rfl Cel.cel rfl fun b3 => ?_)
  refine XL.q (q_assign rfl) rfl ?_
  refine XL.lo rfl (l_alloc (cs := [.slice none 0 0, .int .u32 0]) (by kernel_rfl) rfl fun b5 => ?_)
  refine XL.fin (kp 0 rfl (kp 3 rfl (kp 5 rfl kn))) ?_
  refine XC.reg ?_
  refine XL.q (q_move rfl) rfl ?_
  refine XL.q (q_fieldAddrN 0 (off := 0) rfl (by kernel_rfl) rfl) rfl ?_
  refine XL.q (q_load (v := kv) rfl (by kernel_rfl) At.mem (by rfl)) rfl ?_
  refine XL.callV (aS rfl (aS rfl (aS rfl (aS rfl (aS rfl a0))))) (by kernel_rfl) (deriveNil_spec kv (.slice none 0 0) key stepW [] 2 _ (hk.mono SubC.sub) LsV.nil) rfl ?_
  refine XL.q (q_assign rfl) rfl ?_
  refine XL.fin (kp 3 rfl (kp 5 rfl (kp 6 rfl kn))) ?_
  refine XC.seq ?_
  refine XC.reg ?_
  refine XL.q (q_move rfl) rfl ?_
  refine XL.q (q_lenS (e := 24) rfl (by kernel_rfl)) rfl ?_
  refine XL.q (q_cmp true rfl rfl (neT (by decide))) rfl ?_
  refine XL.fin (kp 3 rfl (kp 5 rfl (kp 6 rfl (kp 13 rfl kn)))) ?_
  refine XC.condT rfl ?_
  refine XC.drawF [0, 1] [(0, 1), (1, 0), (2, 2)] (by kernel_rfl) (by kernel_rfl) fun hs => ?_
  refine XF.r hs rfl (q_loadW (n := 2) rfl (by kernel_rfl) At.mem (by rfl)) rfl ?_
  refine XF.q hs rfl (q_assign rfl) rfl ?_
  refine XF.tl rfl rfl rfl (l_storeW rfl rfl Cel.cel (by kernel_rfl) (by rfl) (by intro c hc; simp only [List.mem_cons, List.not_mem_nil, or_false] at hc; rcases hc with rfl | rfl; exact hk.one; rfl) UpC.upd ?_)
  refine XF.fin (kp 4 rfl (kp 5 rfl kn)) ?_
  refine XC.ret ?_
  refine tr ?_
  exact ⟨_, [], [], resT1C (n := 2) rfl rfl rfl (by kernel_rfl) At.mem (by rfl), List.nil_sublist _, by simp, rfl, rfl, rfl⟩
