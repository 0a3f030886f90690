/- The card of the law KeysSecrets: it returns true for every input; each argument reads behind the call as it read before; the listed package variables are tied to the program's text. No further condition. -/
import Derived.Test.YtphcaiplgpmnnaaGreatDoorB20
import Derived.Lib.LaidTab
import Derived.Stop.LaidErr
import Derived.MakeChecks
import Derived.Test.YtphcaiplgpmnnaaGreatDoorCards
import Derived.Test.YtphcaiplgpmnnaaGreatDoorTie
import Derived.Deep.DeepHandedRow
import Derived.Deep.DeepWitnessRowRef
import Derived.Lay
import Derived.LaidMore
set_option linter.unusedVariables false
set_option linter.unusedSimpArgs false
set_option linter.unusedVariables false
set_option linter.unusedSimpArgs false
namespace Go.Proofs.YtphcaiplgpmnnaaGreatDoor
open Go.Px
def snN (k : Ks) : List Nat := k.signed.map (·.n)
def onN (k : Ks) : List Nat := k.once.map (·.n)
theorem turn_sn (k : Ks) (s : Ps) : snN (turnK k s).1 = (k.next :: snN k).take 2 := by
  show List.map (fun x : Pr => x.n) ((turnP k s :: k.signed).take 2) = _
  rw [List.map_take]; rfl
theorem turn_on (k : Ks) (s : Ps) : onN (turnK k s).1 = onN k := rfl
theorem fillI_on (k : Ks) (s : Ps) : ∀ i, onN (fillI k s i).1 = onN k ++ (List.range i).map (k.next + ·)
  | 0 => by simp [fillI]
  | i + 1 => by
    have h := fillI_on k s i
    have hn := fillI_next k s i
    show List.map (fun x : Pr => x.n) ((fillI k s i).1.once ++ [_]) = _
    unfold onN at h ⊢
    rw [List.map_append, h, List.range_succ, List.map_append, ← List.append_assoc]
    simp [hn]
theorem fill_on (k : Ks) (s : Ps) : onN (fillK k s).1 = onN k ++ (List.range (4 - k.once.length)).map (k.next + ·) := fillI_on k s _
theorem fill_eq (k : Ks) (s : Ps) : (fillK k s).1 = { k with once := (fillK k s).1.once, next := k.next + (4 - k.once.length) } := fillI_eq k s _
theorem fill_sn (k : Ks) (s : Ps) : snN (fillK k s).1 = snN k := by rw [fill_eq]; rfl
theorem use_on (k : Ks) (n : Nat) : onN (useK k n) = (onN k).filter fun m => !decide (m = n) := by
  show (k.once.filter _).map _ = _
  unfold onN tstP
  rw [List.filter_map]; rfl
theorem new_sn (u d : Int) (s : Ps) : snN (newK u d s).1 = [1] := by
  unfold newK; rw [fill_sn, turn_sn]; rfl
theorem new_on (u d : Int) (s : Ps) : onN (newK u d s).1 = [2, 3, 4, 5] := by
  unfold newK; rw [fill_on, turn_on]; rfl
theorem sn_len (k : Ks) : (snN k).length = k.signed.length := List.length_map ..
theorem on_len (k : Ks) : (onN k).length = k.once.length := List.length_map ..
/-- Prekeys are in a rising row just if their numbers are. -/
theorem rise_of {l : List Pr} (h : (l.map (·.n)).Pairwise (· < ·)) : Rise l := by
  intro i j x y hij hx hy
  have h1 := List.pairwise_iff_getElem.1 h i j (by rw [List.length_map]; exact (List.getElem?_eq_some_iff.1 hx).1) (by rw [List.length_map]; exact (List.getElem?_eq_some_iff.1 hy).1) hij
  obtain ⟨hi, ei⟩ := List.getElem?_eq_some_iff.1 hx
  obtain ⟨hj, ej⟩ := List.getElem?_eq_some_iff.1 hy
  simp only [List.getElem_map, ei, ej] at h1
  exact h1
theorem bunI_get0 {b : Bn} {l : List Pr} {s : Ps} : ∀ {i : Nat}, i ≤ l.length → (bunI b l s i).1[0]? = some b
  | 0, _ => rfl
  | i + 1, h => by
    rw [bunI_succ (List.getElem?_eq_getElem (by omega))]
    have h1 := (bunI_len (b := b) (s := s) (l := l) (i := i) (by omega)).1
    show (_ ++ _)[0]? = _
    rw [List.getElem?_append_left (by omega)]
    exact bunI_get0 (by omega)
theorem bunI_get {b : Bn} {l : List Pr} {s : Ps} {j : Nat} {o : Pr} (ho : l[j]? = some o) : ∀ {i : Nat}, i ≤ l.length → j < i → (bunI b l s i).1[j + 1]? = some { b with has := true, once := o.n, oncek := pubK2 (bunI b l s j).2 o.sec }
  | 0, _, hj => by omega
  | i + 1, h, hj => by
    obtain ⟨x, hx⟩ : ∃ x, l[i]? = some x := ⟨_, List.getElem?_eq_getElem (by omega)⟩
    rw [bunI_succ hx]
    have h1 := (bunI_len (b := b) (s := s) (l := l) (i := i) (by omega)).1
    show (_ ++ _)[j + 1]? = _
    by_cases e : j = i
    · subst e
      rw [hx] at ho
      cases ho
      rw [List.getElem?_append_right (by omega), h1, Nat.sub_self]; rfl
    · rw [List.getElem?_append_left (by omega)]
      exact bunI_get ho (by omega) (by omega)
/-- What the bundles of some keys are. -/
theorem bunK_facts {k : Ks} {s : Ps} {x : Pr} {sl : List Pr} (h : k.signed = x :: sl) : (bunK k s).1.length = k.once.length + 1 ∧ (bunK k s).1[0]? = some (bunB k x s) ∧ (∀ (j : Nat) (o : Pr), k.once[j]? = some o → (bunK k s).1[j + 1]? = some { bunB k x s with has := true, once := o.n, oncek := pubK2 (bunI (bunB k x s) k.once (pubS2 (idS k s) x.sec) j).2 o.sec }) ∧ (bunK k s).2.ts.length ≤ s.ts.length + 6 + 2 * k.once.length := by
  have e : bunK k s = bunI (bunB k x s) k.once (pubS2 (idS k s) x.sec) k.once.length := by unfold bunK; rw [h]
  rw [e]
  have h1 := bunI_len (b := bunB k x s) (s := pubS2 (idS k s) x.sec) (l := k.once) (Nat.le_refl _)
  have h2 := idS_len k s
  have h3 := pubS2_len (idS k s) x.sec
  exact ⟨h1.1, bunI_get0 (Nat.le_refl _), fun j o ho => bunI_get ho (Nat.le_refl _) (List.getElem?_eq_some_iff.1 ho).1, by omega⟩
theorem md_mod (m : Nat) : ((m % 2 : Nat) : Int) = md (m % 2 == 0) := by
  rcases (by omega : m % 2 = 0 ∨ m % 2 = 1) with h | h <;> rw [h] <;> rfl
def opK (m : Nat) : Ps := ⟨m % 2 == 0, [107, 101, 121, 115], 0, []⟩

set_option maxRecDepth 100000 in
theorem who12_f (a b : Nat) (A : Mem) (ha : a < 256) (hb : b < 256) : FnV Tryz.prog 17 [.int .u8 ((a : Nat) : Int), .int .u8 ((b : Nat) : Int)] A (.agg #[.int .i64 ((a % 8 : Nat) : Int), .int .i64 ((b : Nat) : Int)]) := by
  refine FnX.enter (N := 11) Tryz.func17 rfl rfl rfl fun w => ?_
  refine XC.keep (kp 0 rfl (kp 1 rfl kn)) ?_
  refine XC.reg ?_
  refine XL.lo rfl (l_alloc (cs := [.int .i64 0, .int .i64 0]) (by kernel_rfl) rfl fun b4 => ?_)
  refine XL.fin (kp 0 rfl (kp 1 rfl (kp 4 rfl kn))) ?_
  refine XC.reg ?_
  refine XL.q (q_move rfl) rfl ?_
  refine XL.q (q_remI (a := a) (b := 8) rfl rfl rfl rfl (by decide)) rfl ?_
  refine XL.q (q_same (k' := .i64) rfl (by kernel_rfl) (by show _ < 9223372036854775808; omega)) rfl ?_
  refine XL.q (q_move rfl) rfl ?_
  refine XL.q (q_same (k' := .i64) rfl (by kernel_rfl) (by show _ < 9223372036854775808; omega)) rfl ?_
  refine XL.q (q_build (place := fun x => #[(0, 1), (1, 1)][x]?) (z := [.int .i64 0, .int .i64 0]) (fun _ => by kernel_rfl) (eS rfl (eS rfl e0)) (bdS 0 1 rfl (by rfl) (bdS 1 1 rfl (by rfl) bd0))) rfl ?_
  refine XL.lo rfl (l_storeW rfl rfl Cel.cel (by kernel_rfl) (lnS (lnS (ln0))) (allS rfl (allS rfl (all0))) UpC.upd ?_)
  refine XL.fin (kp 4 rfl kn) ?_
  refine XC.ret ?_
  exact ⟨_, [], [], resC rfl rfl (by kernel_rfl) At.mem (by rfl), List.nil_sublist _, by simp, rfl, rfl, rfl⟩

set_option maxRecDepth 100000 in
theorem open12_f (m : Nat) (u d : Int) (A : Mem) (hm : m < 256) (hG : Glb A) : FnX Tryz.prog 16 [.int .u8 ((m : Nat) : Int), .agg #[.int .i64 u, .int .i64 d]] [] A fun q M J => ∃ pb kb MK MP, q = .tuple #[.pointer (some ⟨pb, 0, none⟩), .pointer (some ⟨kb, 0, none⟩)] ∧ M = MK ++ MP ∧ Kys (J ++ A) kb (newK u d (opK m)).1 MK ∧ Prm pb (newK u d (opK m)).2 MP := by
  refine FnX.enterZ (N := 22) Tryz.func16 rfl rfl rfl fun w_ => ?_
  refine XC.keep (kp 0 rfl (kp 1 rfl kn)) ?_
  refine XC.reg ?_
  refine XL.lo rfl (l_box rfl (by first | exact Cel.cel | rfl) rfl fun b3 => ?_)
  refine XL.q (q_assign rfl) rfl ?_
  refine XL.q (q_assign rfl) rfl ?_
  refine XL.fin (kp 0 rfl (kp 3 rfl kn)) ?_
  refine XC.reg ?_
  refine XL.q (q_move rfl) rfl ?_
  refine XL.q (q_remI (a := m) (b := 2) rfl rfl rfl rfl (by decide)) rfl ?_
  rw [md_mod m]
  refine XL.lo rfl (l_buildSlice (e := 5) (sz := 1) (z := [.int .u8 0, .int .u8 0, .int .u8 0, .int .u8 0]) (by kernel_rfl) (eS rfl (eS rfl (eS rfl (eS rfl e0)))) (bdS 0 1 rfl (by rfl) (bdS 1 1 rfl (by rfl) (bdS 2 1 rfl (by rfl) (bdS 3 1 rfl (by rfl) bd0)))) rfl fun b11 => ?_)
  refine XL.lo rfl (l_mark rfl (by kernel_rfl) UpC.upd rfl ?_)
  refine XL.frz (B := [_]) (PickC.sing).perm ?_
  refine XL.call (aS rfl (aS rfl a0)) (by kernel_rfl) (pnew_spec (m % 2 == 0) _ [107, 101, 121, 115] _ ⟨Rd.whole (n := 4) (At.mem) (by rfl), by decide, by decide⟩) rfl ?_
  rintro v13 MP J13 ⟨pb, rfl, hP⟩
  refine XL.q (q_move rfl) rfl ?_
  refine XL.q (q_x0 rfl) rfl ?_
  refine XL.q (q_x1 rfl) rfl ?_
  refine XL.q (q_assign rfl) rfl ?_
  refine XL.q (q_assign rfl) rfl ?_
  refine XL.fin (kp 3 rfl (kp 6 rfl (kp 7 rfl kn))) ?_
  refine XC.seq ?_
  refine XC.reg ?_
  refine XL.q (q_move rfl) rfl ?_
  refine XL.q (q_cmp false rfl rfl (neF rfl)) rfl ?_
  refine XL.fin (kp 3 rfl (kp 6 rfl (kp 17 rfl kn))) ?_
  refine XC.condF rfl ?_
  refine XC.skip ?_
  refine nx (kp 3 rfl (kp 6 rfl kn)) ?_
  refine XC.reg ?_
  refine XL.q (q_move rfl) rfl ?_
  refine XL.q (q_move rfl) rfl ?_
  refine XL.q (q_loadW (n := 2) rfl (by kernel_rfl) (by first | exact At.mem | exact mA (by assumption)) (by rfl)) rfl ?_
  refine XL.lo rfl (l_call (Mc := MP) (R := _) (aS rfl (aS rfl a0)) (by kernel_rfl) PickC.perm (new_f u d pb (opK m) MP _ hP (show 0 + 200 ≤ 1048576 by decide) (show 0 + 100 < 1000000000 by decide) hG.up) rfl ?_)
  rintro v21 M21 J21 ⟨kb, MK, MP2, rfl, rfl, hK, hP2⟩
  refine XL.q (q_assign rfl) rfl ?_
  refine XL.q (q_assign rfl) rfl ?_
  refine XL.fin (kp 4 rfl (kp 5 rfl kn)) ?_
  refine XC.ret ?_
  exact ⟨_, MK ++ MP2, [(b3, blk [.int .i64 u, .int .i64 d] 35)], res2 rfl rfl rfl, Fit.pick (B := [_]) PickC.perm (Fit.last PickC.perm), pb, kb, MK, MP2, rfl, rfl, hK.mono SubC.sub, hP2⟩

set_option maxRecDepth 100000 in
theorem awake12_f (A : Mem) (hG : Glb A) : FnV Tryz.prog 12 [] A (.bool true) := by
  refine FnX.enter (N := 51) Tryz.func12 rfl rfl rfl fun w => ?_
  refine XC.keep kn ?_
  refine XC.reg ?_
  refine XL.q (q_assign rfl) rfl ?_
  refine XL.fin kn ?_
  refine XC.reg ?_
  refine XL.callV (aS rfl (aS rfl a0)) (by kernel_rfl) (who12_f 1 2 _ (by decide) (by decide)) rfl ?_
  refine XL.call (aS rfl (aS rfl a0)) (by kernel_rfl) (open12_f 1 _ _ _ (by decide) hG.up) rfl ?_
  rintro v6 M6 J6 ⟨pb, kb, MK, MP, rfl, rfl, hK, hP⟩
  have hns := newK_ps (((1 % 8 : Nat)) : Int) ((2 : Nat) : Int) (opK 1)
  have hnsn := new_sn (((1 % 8 : Nat)) : Int) ((2 : Nat) : Int) (opK 1)
  have hnon := new_on (((1 % 8 : Nat)) : Int) ((2 : Nat) : Int) (opK 1)
  have hop : (opK 1).ts.length = 0 := rfl
  generalize (newK (((1 % 8 : Nat)) : Int) ((2 : Nat) : Int) (opK 1)).1 = k at *
  generalize (newK (((1 % 8 : Nat)) : Int) ((2 : Nat) : Int) (opK 1)).2 = s at *
  obtain ⟨va, vg, vs_, vo, vm, rs, ro, rm, hr⟩ := hK.r
  have hol := on_len k
  rw [hnon] at hol
  obtain ⟨x, sl, hsg, hxn⟩ : ∃ x sl, k.signed = x :: sl ∧ x.n = 1 := by
    unfold snN at hnsn
    cases hs : k.signed with
    | nil => rw [hs] at hnsn; cases hnsn
    | cons x sl => rw [hs] at hnsn; exact ⟨x, sl, rfl, (List.cons.inj hnsn).1⟩
  refine XL.q (q_move rfl) rfl ?_
  refine XL.q (q_x0 rfl) rfl ?_
  refine XL.q (q_x1 rfl) rfl ?_
  refine XL.q (q_assign rfl) rfl ?_
  refine XL.q (q_assign rfl) rfl ?_
  refine XL.fin (kp 1 rfl (kp 2 rfl kn)) ?_
  refine XC.seq ?_
  refine XC.reg ?_
  refine XL.q (q_move rfl) rfl ?_
  refine XL.q (q_ptrEqNil (e := 96) rfl rfl (by kernel_rfl)) rfl ?_
  refine XL.fin (kp 1 rfl (kp 2 rfl (kp 10 rfl kn))) ?_
  refine XC.condF rfl ?_
  refine XC.skip ?_
  refine nx (kp 1 rfl (kp 2 rfl kn)) ?_
  refine XC.reg ?_
  refine XL.q (q_move rfl) rfl ?_
  refine XL.q (q_move rfl) rfl ?_
  refine XL.lo rfl (l_call (Mc := MP) (R := _) (aS rfl (aS rfl a0)) (by kernel_rfl) PickC.perm (bundles_f pb s kb k va vg vs_ vo vm rs ro rm x sl MP _ (hr _ SubC.sub SubC.sub) hsg hP (by omega) (by rw [← hol]; decide) hG.up) rfl ?_)
  rintro v13 M13 J13 ⟨hP13, rows, hrd, hrw⟩
  haveI := hrd.cel
  obtain ⟨hbl, hb0, hbj, -⟩ := bunK_facts (s := s) hsg
  rw [← hol] at hbl
  have hog : ∀ (j n : Nat), [2, 3, 4, 5][j]? = some n → ∃ o, k.once[j]? = some o ∧ o.n = n := fun j n h => by
    rw [← hnon] at h
    unfold onN at h
    rw [List.getElem?_map] at h
    cases ho : k.once[j]? with
    | none => rw [ho] at h; cases h
    | some o => rw [ho] at h; exact ⟨o, rfl, Option.some.inj h⟩
  obtain ⟨o0, ho0, hn0⟩ := hog 0 2 rfl
  obtain ⟨o3, ho3, hn3⟩ := hog 3 5 rfl
  have hb1 := hbj 0 o0 ho0
  have hb4 := hbj 3 o3 ho3
  obtain ⟨r0, hr0, a1, a2, a3, a4, a5, rfl, -⟩ := hrw.get 0 _ hb0
  obtain ⟨r1, hr1, c1, c2, c3, c4, c5, rfl, -⟩ := hrw.get 1 _ hb1
  obtain ⟨r4, hr4, d1, d2, d3, d4, d5, rfl, -⟩ := hrw.get 4 _ hb4
  dsimp only [bunB] at hr0 hr1 hr4
  rw [hxn] at hr0 hr1 hr4
  rw [hn0] at hr1
  rw [hn3] at hr4
  refine XL.q (q_assign rfl) rfl ?_
  refine XL.fin (kp 3 rfl kn) ?_
  refine XC.reg ?_
  refine XL.q (q_move rfl) rfl ?_
  refine XL.q (q_lenV2 (sz := 10) rfl (by kernel_rfl) hrd) rfl ?_
  rw [hbl]
  refine XL.q (q_cmp true rfl rfl (eqT rfl)) rfl ?_
  refine XL.q (q_move rfl) rfl ?_
  refine XL.gy rfl rfl (OpQ.opL (q_move rfl) rfl ?_)
  refine XL.gy rfl rfl (OpQ.opL (q_atV2 (sz := 10) (a := 0) rfl rfl (by kernel_rfl) rfl hrd (by rw [hbl]; decide)) rfl ?_)
  refine XL.gy rfl rfl (OpQ.opL (q_fldV (off := 4) rfl hrd (by rw [hbl]; decide) (by kernel_rfl)) rfl ?_)
  refine XL.gy rfl rfl (OpQ.opL (q_ldVF (u := .int .u32 ((1 : Nat) : Int)) rfl (hrd.mono SubC.sub) (by omega) (by kernel_rfl) (by rw [flat_get (hrw.lens bnT) hr0 4 (by decide)]; rfl)) rfl ?_)
  refine XL.gy rfl rfl (OpQ.opL (q_cmp true rfl rfl (eqT rfl)) rfl ?_)
  refine XL.q (q_pickT rfl rfl) rfl ?_
  refine XL.q (q_move rfl) rfl ?_
  refine XL.gy rfl rfl (OpQ.opL (q_move rfl) rfl ?_)
  refine XL.gy rfl rfl (OpQ.opL (q_atV2 (sz := 10) (a := 0) rfl rfl (by kernel_rfl) rfl hrd (by rw [hbl]; decide)) rfl ?_)
  refine XL.gy rfl rfl (OpQ.opL (q_fldV (off := 7) rfl hrd (by rw [hbl]; decide) (by kernel_rfl)) rfl ?_)
  refine XL.gy rfl rfl (OpQ.opL (q_ldVF (u := .bool false) rfl (hrd.mono SubC.sub) (by omega) (by kernel_rfl) (by rw [flat_get (hrw.lens bnT) hr0 7 (by decide)]; rfl)) rfl ?_)
  refine XL.gy rfl rfl (OpQ.opL (q_not rfl) rfl ?_)
  refine XL.q (q_pickT rfl rfl) rfl ?_
  refine XL.q (q_move rfl) rfl ?_
  refine XL.gy rfl rfl (OpQ.opL (q_move rfl) rfl ?_)
  refine XL.gy rfl rfl (OpQ.opL (q_atV2 (sz := 10) (a := 1) rfl rfl (by kernel_rfl) rfl hrd (by rw [hbl]; decide)) rfl ?_)
  refine XL.gy rfl rfl (OpQ.opL (q_fldV (off := 7) rfl hrd (by rw [hbl]; decide) (by kernel_rfl)) rfl ?_)
  refine XL.gy rfl rfl (OpQ.opL (q_ldVF (u := .bool true) rfl (hrd.mono SubC.sub) (by omega) (by kernel_rfl) (by rw [flat_get (hrw.lens bnT) hr1 7 (by decide)]; rfl)) rfl ?_)
  refine XL.q (q_pickT rfl rfl) rfl ?_
  refine XL.q (q_move rfl) rfl ?_
  refine XL.gy rfl rfl (OpQ.opL (q_move rfl) rfl ?_)
  refine XL.gy rfl rfl (OpQ.opL (q_atV2 (sz := 10) (a := 1) rfl rfl (by kernel_rfl) rfl hrd (by rw [hbl]; decide)) rfl ?_)
  refine XL.gy rfl rfl (OpQ.opL (q_fldV (off := 8) rfl hrd (by rw [hbl]; decide) (by kernel_rfl)) rfl ?_)
  refine XL.gy rfl rfl (OpQ.opL (q_ldVF (u := .int .u32 ((2 : Nat) : Int)) rfl (hrd.mono SubC.sub) (by omega) (by kernel_rfl) (by rw [flat_get (hrw.lens bnT) hr1 8 (by decide)]; rfl)) rfl ?_)
  refine XL.gy rfl rfl (OpQ.opL (q_cmp true rfl rfl (eqT rfl)) rfl ?_)
  refine XL.q (q_pickT rfl rfl) rfl ?_
  refine XL.q (q_move rfl) rfl ?_
  refine XL.gy rfl rfl (OpQ.opL (q_move rfl) rfl ?_)
  refine XL.gy rfl rfl (OpQ.opL (q_atV2 (sz := 10) (a := 4) rfl rfl (by kernel_rfl) rfl hrd (by rw [hbl]; decide)) rfl ?_)
  refine XL.gy rfl rfl (OpQ.opL (q_fldV (off := 8) rfl hrd (by rw [hbl]; decide) (by kernel_rfl)) rfl ?_)
  refine XL.gy rfl rfl (OpQ.opL (q_ldVF (u := .int .u32 ((5 : Nat) : Int)) rfl (hrd.mono SubC.sub) (by omega) (by kernel_rfl) (by rw [flat_get (hrw.lens bnT) hr4 8 (by decide)]; rfl)) rfl ?_)
  refine XL.gy rfl rfl (OpQ.opL (q_cmp true rfl rfl (eqT rfl)) rfl ?_)
  refine XL.q (q_pickT rfl rfl) rfl ?_
  refine XL.q (q_assign rfl) rfl ?_
  refine XL.fin (kp 0 rfl kn) ?_
  refine XC.ret ?_
  exact ⟨_, [], [], res1 rfl rfl, List.nil_sublist _, by simp, rfl, rfl, rfl⟩

end Go.Proofs.YtphcaiplgpmnnaaGreatDoor
/- What was made of keys is made of them again, in both modes: what a state behind it answers. -/
set_option linter.unusedVariables false
set_option linter.unusedSimpArgs false
namespace Go.Proofs.YtphcaiplgpmnnaaGreatDoor
open Go.Px
/-- A state behind another one: of the same seed, too. -/
structure Ext (s s' : Ps) : Prop where
  p : Pext s s'
  seed : s'.seed = s.seed
  n : s.n ≤ s'.n
theorem Ext.refl (s : Ps) : Ext s s := ⟨Pext.refl s, rfl, Nat.le_refl _⟩
theorem Ext.trans {a b c : Ps} (h : Ext a b) (h' : Ext b c) : Ext a c := ⟨h.p.trans h'.p, h'.seed.trans h.seed, Nat.le_trans h.n h'.n⟩
theorem add_pre (ts : List Tm) (t : Tm) : ∃ l, add ts t = ts ++ l := by
  unfold add
  split
  · exact ⟨[], by simp⟩
  · exact ⟨_, rfl⟩
theorem rdT_pre (ts : List Tm) (w : List Nat) : ∃ l, rdT ts w = ts ++ l := by
  cases hp : plc w ts.length with
  | some j => exact ⟨[], by rw [(rdT_some hp).1]; simp⟩
  | none => rw [(rdT_none hp).1]; exact add_pre _ _
theorem radd_pre (ts : List Tm) (w : List Nat) (t : Tm) : ∃ l, add (rdT ts w) t = ts ++ l := by
  obtain ⟨l1, e1⟩ := rdT_pre ts w
  obtain ⟨l2, e2⟩ := add_pre (rdT ts w) t
  exact ⟨l1 ++ l2, by rw [e2, e1, List.append_assoc]⟩
theorem fresh_ex (s : Ps) : Ext s (freshS s) := ⟨fresh_ext s, by unfold freshS; split <;> rfl, by unfold freshS; split <;> exact Nat.le_succ _⟩
theorem pub_ex (s : Ps) (w : List Nat) : Ext s (pubS2 s w) := by
  unfold pubS2
  split
  · exact Ext.refl s
  · exact ⟨⟨rfl, radd_pre _ _ _⟩, rfl, Nat.le_refl _⟩
theorem sgn_ex (s : Ps) (w m : List Nat) : Ext s (sgS2 s w m) := by
  unfold sgS2
  split
  · exact Ext.refl s
  · exact ⟨⟨rfl, radd_pre _ _ _⟩, rfl, Nat.le_refl _⟩
theorem Tok.pre {a l : List Tm} (h : Tok (a ++ l)) : Tok a := ⟨fun t ht => h.tmo t (List.mem_append_left _ ht), (List.nodup_append.1 h.nd).1⟩
theorem Ext.tok {s s' : Ps} (h : Ext s s') (ht : Tok s'.ts) : Tok s.ts := by
  obtain ⟨l, e⟩ := h.p.ts
  rw [e] at ht
  exact ht.pre

theorem Good.ps {s s' : Ps} {w : List Nat} (h : Good s.ts w) (he : Pext s s') : Good s'.ts w := by
  obtain ⟨l, e⟩ := he.ts
  rw [e]; exact h.ext
theorem pub_t {s : Ps} {i : Nat} (hi : i < s.ts.length) (hl : s.ts.length ≤ 1048576) : pubS s (bts ((i : Nat) : Int)) = { s with ts := add s.ts (pubT ((i : Nat) : Int)) } ∧ pubK s (bts ((i : Nat) : Int)) = bts ((at_ s.ts (pubT ((i : Nat) : Int)) : Nat) : Int) := by
  obtain ⟨h1, h2⟩ := good_rd hi hl
  unfold pubS pubK
  rw [h1, h2]
  exact ⟨rfl, rfl⟩
/-- Of a secret key this is public. -/
def PubT (s : Ps) (w p : List Nat) : Prop := ∃ i j : Nat, i < s.ts.length ∧ w = bts ((i : Nat) : Int) ∧ s.ts[j]? = some (pubT ((i : Nat) : Int)) ∧ p = bts ((j : Nat) : Int)
def PubAt (s : Ps) (w p : List Nat) : Prop := if s.real then p = base25 (fitN w 32) else PubT s w p
def SkAt (s : Ps) (w p : List Nat) : Prop := if s.real then p = pubB (fitN w 32) else PubT s w p
def SigAt (s : Ps) (w m g : List Nat) : Prop := if s.real then g = sigB (fitN w 32) m else ∃ i j : Nat, i < s.ts.length ∧ w = bts ((i : Nat) : Int) ∧ s.ts[j]? = some (sigT ((i : Nat) : Int) m) ∧ g = fitN (bts ((j : Nat) : Int)) 64
theorem PubT.ext {s s' : Ps} {w p : List Nat} (h : PubT s w p) (he : Pext s s') : PubT s' w p := by
  obtain ⟨l, e⟩ := he.ts
  obtain ⟨i, j, h1, h2, h3, h4⟩ := h
  exact ⟨i, j, by rw [e, List.length_append]; omega, h2, by rw [e]; exact ext_at h3, h4⟩
theorem PubAt.ext {s s' : Ps} {w p : List Nat} (h : PubAt s w p) (he : Pext s s') : PubAt s' w p := by
  unfold PubAt at *
  rw [he.real]
  split
  · rename_i hr; rwa [if_pos hr] at h
  · rename_i hr; rw [if_neg hr] at h; exact h.ext he
theorem SkAt.ext {s s' : Ps} {w p : List Nat} (h : SkAt s w p) (he : Pext s s') : SkAt s' w p := by
  unfold SkAt at *
  rw [he.real]
  split
  · rename_i hr; rwa [if_pos hr] at h
  · rename_i hr; rw [if_neg hr] at h; exact h.ext he
theorem SigAt.ext {s s' : Ps} {w m g : List Nat} (h : SigAt s w m g) (he : Pext s s') : SigAt s' w m g := by
  unfold SigAt at *
  rw [he.real]
  split
  · rename_i hr; rwa [if_pos hr] at h
  · rename_i hr
    rw [if_neg hr] at h
    obtain ⟨l, e⟩ := he.ts
    obtain ⟨i, j, h1, h2, h3, h4⟩ := h
    exact ⟨i, j, by rw [e, List.length_append]; omega, h2, by rw [e]; exact ext_at h3, h4⟩
theorem PubT.eq {s : Ps} {w p : List Nat} (h : PubT s w p) (ht : Tok s.ts) (hl : s.ts.length ≤ 1048576) : pubS s w = s ∧ pubK s w = p := by
  obtain ⟨i, j, h1, rfl, h3, rfl⟩ := h
  obtain ⟨e1, e2⟩ := pub_t h1 hl
  obtain ⟨e3, e4⟩ := again ht h3
  rw [e1, e2, e3, e4]
  exact ⟨rfl, rfl⟩
theorem PubAt.eq {s : Ps} {w p : List Nat} (h : PubAt s w p) (ht : Tok s.ts) (hl : s.ts.length ≤ 1048576) : pubS2 s w = s ∧ pubK2 s w = p := by
  unfold PubAt at h
  unfold pubS2 pubK2
  cases hr : s.real with
  | true => rw [hr] at h; exact ⟨rfl, h.symm⟩
  | false => rw [hr] at h; exact PubT.eq h ht hl
theorem SkAt.eq {s : Ps} {w p : List Nat} (h : SkAt s w p) (ht : Tok s.ts) (hl : s.ts.length ≤ 1048576) : pubS2 s w = s ∧ skK2 s w = p := by
  unfold SkAt at h
  unfold pubS2 skK2
  cases hr : s.real with
  | true => rw [hr] at h; exact ⟨rfl, h.symm⟩
  | false => rw [hr] at h; exact PubT.eq h ht hl
theorem SigAt.t {s : Ps} (h : s.real = true) {w m g : List Nat} : SigAt s w m g ↔ g = sigB (fitN w 32) m := by unfold SigAt; rw [if_pos h]
theorem SigAt.f {s : Ps} (h : s.real = false) {w m g : List Nat} : SigAt s w m g ↔ ∃ i j : Nat, i < s.ts.length ∧ w = bts ((i : Nat) : Int) ∧ s.ts[j]? = some (sigT ((i : Nat) : Int) m) ∧ g = fitN (bts ((j : Nat) : Int)) 64 := by unfold SigAt; rw [if_neg (by rw [h]; decide)]
/-- What Check answers of terms. -/
def chkT (ts : List Tm) (p m g : List Nat) : Bool := decide (g.length = 64) && match plc g ts.length, plc p ts.length with
  | some i, some k => decide (p.length = 32) && match ts[i]?, ts[k]? with
    | some t, some u => decide (t.kind = 7) && decide (t.text = m) && decide (u.kind = 3) && decide (u.of.getD 0 0 = t.of.getD 0 0)
    | _, _ => false
  | _, _ => false
noncomputable def chkK (s : Ps) (p m g : List Nat) : Bool := if s.real then chkB p m g else chkT s.ts p m g
/-- Terms that are made of something are. -/
def Ar (ts : List Tm) : Prop := ∀ t ∈ ts, (t.kind = 3 ∨ t.kind = 6 ∨ t.kind = 7) → 0 < t.of.length
theorem Ar.nil : Ar [] := fun t h => by cases h
theorem Ar.add {ts : List Tm} (h : Ar ts) {t : Tm} (ht : (t.kind = 3 ∨ t.kind = 6 ∨ t.kind = 7) → 0 < t.of.length) : Ar (add ts t) := by
  unfold Go.Proofs.YtphcaiplgpmnnaaGreatDoor.add
  split
  · exact h
  · intro u hu
    rcases List.mem_append.1 hu with h1 | h1
    · exact h u h1
    · rw [List.mem_singleton.1 h1]; exact ht
theorem Ar.rd {ts : List Tm} (h : Ar ts) (w : List Nat) : Ar (rdT ts w) := by
  cases hp : plc w ts.length with
  | some j => rw [(rdT_some hp).1]; exact h
  | none => rw [(rdT_none hp).1]; exact h.add (by intro h; rcases h with h | h | h <;> cases h)
theorem Ar.fresh {s : Ps} (h : Ar s.ts) : Ar (freshS s).ts := by
  cases hr : s.real with
  | true => rw [freshS_t hr]; exact h
  | false => rw [freshS_f hr]; exact h.add (by intro h; rcases h with h | h | h <;> cases h)
end Go.Proofs.YtphcaiplgpmnnaaGreatDoor
/- All secrets of keys are unlike; the walk of KeysSecrets. -/
set_option linter.unusedVariables false
set_option linter.unusedSimpArgs false
namespace Go.Proofs.YtphcaiplgpmnnaaGreatDoor
open Go.Px
theorem turn_ex (k : Ks) (s : Ps) : Ext s (turnK k s).2 := ((fresh_ex s).trans (pub_ex _ _)).trans (sgn_ex _ _ _)
theorem fillI_ex (k : Ks) (s : Ps) : ∀ i, Ext s (fillI k s i).2
  | 0 => Ext.refl s
  | i + 1 => (fillI_ex k s i).trans (fresh_ex _)
/-- The key that was made as the i-th one. -/
def Fr (s : Ps) (w : List Nat) (i : Nat) : Prop := if s.real then w = keyR s.seed i else ∃ j, s.ts[j]? = some (atom i) ∧ w = bts ((j : Nat) : Int)
theorem Fr.ext {s s' : Ps} {w : List Nat} {i : Nat} (h : Fr s w i) (he : Ext s s') : Fr s' w i := by
  unfold Fr at h ⊢
  rw [he.p.real]
  obtain ⟨l, e⟩ := he.p.ts
  split
  · rename_i hr; rw [if_pos hr] at h; rw [he.seed]; exact h
  · rename_i hr
    rw [if_neg hr] at h
    obtain ⟨j, h1, h2⟩ := h
    exact ⟨j, by rw [e]; exact ext_at h1, h2⟩
theorem fr_fresh {s : Ps} (ht : Tok s.ts) (hn : s.n < 1099511627776) : Fr (freshS s) (freshK s) (s.n + 1) := by
  unfold Fr
  cases hr : s.real with
  | true => rw [freshS_t hr, freshK_t hr]; simp [hr]
  | false =>
    obtain ⟨l, g1, g2, g3, g4⟩ := pfact (atom_ok' (n := s.n + 1) (by omega)) ht
    rw [freshS_f hr, freshK_f hr]
    simp only [hr]
    exact ⟨_, g3, rfl⟩
theorem fr_ne {s : Ps} {w w' : List Nat} {i i' : Nat} (h : Fr s w i) (h' : Fr s w' i') (hi : i ≠ i') (hl : s.ts.length ≤ 1048576) (hk : s.real = true → keyR s.seed i ≠ keyR s.seed i') : w ≠ w' := by
  unfold Fr at h h'
  split at h
  · rename_i hr
    rw [if_pos hr] at h'
    rw [h, h']
    exact hk hr
  · rename_i hr
    rw [if_neg hr] at h'
    obtain ⟨j, h1, rfl⟩ := h
    obtain ⟨j', h2, rfl⟩ := h'
    intro e
    have b1 := (List.getElem?_eq_some_iff.1 h1).1
    have b2 := (List.getElem?_eq_some_iff.1 h2).1
    have e2 := bts_inj (by omega) (by omega) e
    subst e2
    rw [h1] at h2
    have e3 := Option.some.inj h2
    unfold atom at e3
    injection e3 with a1 a2 a3 a4
    exact hi (by omega)
/-- Secrets, each once, each made by the state. -/
structure Sok (L : List (List Nat)) (s : Ps) : Prop where
  nd : L.Nodup
  fr : ∀ w ∈ L, ∃ i, i ≤ s.n ∧ Fr s w i
theorem Sok.nil {s : Ps} : Sok [] s := ⟨List.nodup_nil, fun w h => by cases h⟩
theorem Sok.ext {L : List (List Nat)} {s s' : Ps} (h : Sok L s) (he : Ext s s') : Sok L s' := ⟨h.nd, fun w hw => by
  obtain ⟨i, h1, h2⟩ := h.fr w hw
  exact ⟨i, Nat.le_trans h1 he.n, h2.ext he⟩⟩
theorem Sok.sub {L L' : List (List Nat)} {s : Ps} (h : Sok L s) (hs : L'.Sublist L) : Sok L' s := ⟨h.nd.sublist hs, fun w hw => h.fr w (hs.subset hw)⟩
theorem Sok.perm {L L' : List (List Nat)} {s : Ps} (h : Sok L s) (hp : L.Perm L') : Sok L' s := ⟨hp.nodup_iff.1 h.nd, fun w hw => h.fr w (hp.mem_iff.2 hw)⟩
/-- The keys of a seed up to a number are unlike. -/
def Apart (seed : List Nat) (m : Nat) : Prop := ∀ i j, i ≤ m → j ≤ m → i ≠ j → keyR seed i ≠ keyR seed j
theorem Sok.add {L : List (List Nat)} {s s' : Ps} {w : List Nat} {m : Nat} (h : Sok L s) (he : Ext s s') (hw : Fr s' w (s.n + 1)) (hn : s.n + 1 ≤ s'.n) (hl : s'.ts.length ≤ 1048576) (hm : s.n + 1 ≤ m) (ha : s'.real = true → Apart s'.seed m) : Sok (w :: L) s' := by
  have h' := h.ext he
  refine ⟨List.nodup_cons.2 ⟨fun hm' => ?_, h.nd⟩, fun x hx => ?_⟩
  · obtain ⟨i, h1, h2⟩ := h.fr w hm'
    exact fr_ne hw (h2.ext he) (show s.n + 1 ≠ i by omega) hl (fun hr => ha hr _ _ hm (by omega) (by omega)) rfl
  · rcases List.mem_cons.1 hx with rfl | hx
    · exact ⟨_, hn, hw⟩
    · exact h'.fr x hx
theorem sec_turn {k : Ks} {s : Ps} {m : Nat} (h : Sok (secL k) s) (ht : Tok s.ts) (hn : s.n + 1 ≤ m) (hb : s.n < 1099511627776) (hl : s.ts.length + 100 ≤ 1048576) (ha : s.real = true → Apart s.seed m) : Sok (secL (turnK k s).1) (turnK k s).2 := by
  have he := turn_ex k s
  have hp := turnK_ps k s
  have h1 : Fr (turnK k s).2 (freshK s) (s.n + 1) := (fr_fresh ht hb).ext ((pub_ex _ _).trans (sgn_ex _ _ _))
  have h2 := h.add (m := m) he h1 (by omega) (by omega) hn (fun hr => by rw [he.seed]; exact ha (by rw [← he.p.real]; exact hr))
  have e : secL (turnK k s).1 = k.agree :: k.sign :: freshK s :: (k.signed.take 1 ++ k.once).map (·.sec) := rfl
  rw [e]
  have hsub : (freshK s :: k.agree :: k.sign :: (k.signed.take 1 ++ k.once).map (·.sec)).Sublist (freshK s :: secL k) :=
    .cons_cons _ (.cons_cons _ (.cons_cons _ (List.Sublist.map _ (List.Sublist.append (List.take_sublist _ _) (List.Sublist.refl _)))))
  refine (h2.sub hsub).perm ?_
  exact (List.Perm.swap _ _ _).trans (List.Perm.cons _ (List.Perm.swap _ _ _))
theorem sec_fillI {k : Ks} {s : Ps} {m : Nat} (h : Sok (secL k) s) (hl : s.ts.length + 100 ≤ 1048576) (hb : s.n < 1000000000) (ha : s.real = true → Apart s.seed m) : ∀ i, i ≤ 4 → s.n + i ≤ m → Tok (fillI k s i).2.ts → Sok (secL (fillI k s i).1) (fillI k s i).2
  | 0, _, _, _ => h
  | i + 1, hi, hm, ht => by
    have hx := fresh_ex (fillI k s i).2
    have ht2 := hx.tok ht
    have ih := sec_fillI h hl hb ha i (by omega) (by omega) ht2
    have hp := fillI_ps k s i
    have hp2 := fillI_ps k s (i + 1)
    have he := fillI_ex k s i
    have h1 := fr_fresh ht2 (by omega)
    have h2 := ih.add (m := m) hx h1 (by have := (freshS_len (fillI k s i).2).2; omega) (by show (fillI k s (i + 1)).2.ts.length ≤ _; omega) (by omega) (fun hr => by rw [hx.seed, he.seed]; exact ha (by rw [← he.p.real, ← hx.p.real]; exact hr))
    refine h2.perm ?_
    have e : secL (fillI k s (i + 1)).1 = secL (fillI k s i).1 ++ [freshK (fillI k s i).2] := by
      simp [secL, fillI]
    rw [e]
    exact (List.perm_append_comm (l₁ := [_])).symm.symm
theorem sec_new {u d : Int} {s : Ps} {m : Nat} (h0 : s.n = 0) (hl : s.ts.length = 0) (hm : 7 ≤ m) (ha : s.real = true → Apart s.seed m) (ht : Tok (newK u d s).2.ts) : Sok (secL (newK u d s).1) (newK u d s).2 := by
  have f1 := freshS_len s
  have f2 := freshS_len (freshS s)
  have e1 := fresh_ex s
  have e2 := fresh_ex (freshS s)
  have e3 := turn_ex (k0N u d s) (freshS (freshS s))
  have p3 := turnK_ps (k0N u d s) (freshS (freshS s))
  have e4 : Ext (turnK (k0N u d s) (freshS (freshS s))).2 (newK u d s).2 := fillI_ex _ _ _
  have t3 := e4.tok ht
  have t2 := e3.tok t3
  have t1 := e2.tok t2
  have t0 := e1.tok t1
  have a1 := (Sok.nil (s := s)).add (m := m) e1 (fr_fresh t0 (by omega)) (by omega) (by omega) (by omega) (fun hr => by rw [e1.seed]; exact ha (by rw [← e1.p.real]; exact hr))
  have a2 := a1.add (m := m) e2 (fr_fresh t1 (by omega)) (by omega) (by omega) (by omega) (fun hr => by rw [e2.seed, e1.seed]; exact ha (by rw [← e1.p.real, ← e2.p.real]; exact hr))
  have a2' : Sok (secL (k0N u d s)) (freshS (freshS s)) := a2.perm (List.Perm.swap _ _ _)
  have a3 := sec_turn (m := m) a2' t2 (by omega) (by omega) (by omega) (fun hr => by rw [e2.seed, e1.seed]; exact ha (by rw [← e1.p.real, ← e2.p.real]; exact hr))
  have hon : (turnK (k0N u d s) (freshS (freshS s))).1.once.length = 0 := rfl
  exact sec_fillI (m := m) a3 (by omega) (by omega) (fun hr => by rw [e3.seed, e2.seed, e1.seed]; exact ha (by rw [← e1.p.real, ← e2.p.real, ← e3.p.real]; exact hr)) _ (by omega) (by omega) ht
def kW : List Nat := [107, 101, 121, 115]
set_option maxRecDepth 100000 in
theorem keys8F : ((List.range 9).map fun i => hmacF (hmacF [] kW) (([107, 101, 121] ++ le8n i) ++ [1])).Nodup := by decide +kernel
theorem keyR_F (seed : List Nat) (i : Nat) : keyR seed i = hmacF (hmacF [] seed) (([107, 101, 121] ++ le8n i) ++ [1]) := by
  unfold keyR
  rw [← hmacF_eq]
  exact expand32 _ _
theorem apart_of {seed : List Nat} {m : Nat} (h : ((List.range (m + 1)).map fun i => hmacF (hmacF [] seed) (([107, 101, 121] ++ le8n i) ++ [1])).Nodup) : Apart seed m := by
  intro i j hi hj hne e
  rw [keyR_F, keyR_F] at e
  have h1 := List.pairwise_iff_getElem.1 h
  rcases Nat.lt_or_gt_of_ne hne with hlt | hlt
  · have := h1 i j (by simp; omega) (by simp; omega) hlt
    simp at this; exact this e
  · have := h1 j i (by simp; omega) (by simp; omega) hlt
    simp at this; exact this e.symm
theorem keys8 : Apart kW 8 := apart_of keys8F

theorem use8 {k : Ks} {n : Nat} (hn : n < 8) (h : onN k = [2, 3, 4, 5]) : (useK k n).once.length = if (getP k.once n).isSome then 3 else 4 := by
  rw [getP_mem, show k.once.map (·.n) = [2, 3, 4, 5] from h]
  have e : (useK k n).once.length = ([2, 3, 4, 5].filter fun m => !decide (m = n)).length := by rw [← on_len, use_on, h]
  rw [e]
  rcases (by omega : n = 0 ∨ n = 1 ∨ n = 2 ∨ n = 3 ∨ n = 4 ∨ n = 5 ∨ n = 6 ∨ n = 7) with rfl | rfl | rfl | rfl | rfl | rfl | rfl | rfl <;> rfl
theorem use_nd {k : Ks} (n : Nat) (h : (secL k).Nodup) : (secL (useK k n)).Nodup := h.sublist (.cons_cons _ (.cons_cons _ (List.Sublist.map _ (List.Sublist.append (List.Sublist.refl _) List.filter_sublist))))
theorem nd_get {L : List (List Nat)} (h : L.Nodup) {i j : Nat} (hi : i < L.length) (hj : j < i) : L[i]'hi ≠ L[j]'(by omega) := fun e => by
  have := List.pairwise_iff_getElem.1 h j i (by omega) hi hj
  exact this e.symm
/-- A slice of bytes' rows, read at a place. -/
theorem lsv_at {R : Mem} {v : Value} {ls : List (List Nat)} (h : LsV R v ls) : ∃ us, Rd R 1 v ls.length us ∧ ∀ (i : Nat) (hi : i < ls.length), ∃ u, us[i]? = some u ∧ By R u (ls[i]'hi) := by
  obtain ⟨us, h1, h2⟩ := h.ex
  exact ⟨us, h1, fun i hi => h2.at hi⟩

set_option maxRecDepth 100000 in
theorem keysSecrets_f (m u : Nat) (tu : Bool) (A : Mem) (hm : m < 256) (hu : u < 256) (hG : Glb A) : FnV Tryz.prog 5 [.int .u8 ((m : Nat) : Int), .bool tu, .int .u8 ((u : Nat) : Int)] A (.bool true) := by
  refine FnX.enter (N := 82) Tryz.func5 rfl rfl rfl fun w_ => ?_
  refine XC.keep (kp 0 rfl (kp 1 rfl (kp 2 rfl kn))) ?_
  refine XC.reg ?_
  refine XL.q (q_assign rfl) rfl ?_
  refine XL.fin (kp 0 rfl (kp 1 rfl (kp 2 rfl kn))) ?_
  refine XC.seq ?_
  refine XC.reg ?_
  refine XL.callV a0 (by kernel_rfl) (awake12_f _ hG.up) rfl ?_
  refine XL.q (q_not rfl) rfl ?_
  refine XL.fin (kp 0 rfl (kp 1 rfl (kp 2 rfl (kp 14 rfl kn)))) ?_
  refine XC.condF rfl ?_
  refine XC.skip ?_
  refine nx (kp 0 rfl (kp 1 rfl (kp 2 rfl kn))) ?_
  refine XC.reg ?_
  refine XL.q (q_move rfl) rfl ?_
  refine XL.callV (aS rfl (aS rfl a0)) (by kernel_rfl) (who12_f 3 1 _ (by decide) (by decide)) rfl ?_
  refine XL.call (aS rfl (aS rfl a0)) (by kernel_rfl) (open12_f m _ _ _ hm hG.up) rfl ?_
  rintro v18 M18 J18 ⟨pb, kb, MK, MP, rfl, rfl, hK, hP⟩
  have hns := newK_ps (((3 % 8 : Nat)) : Int) ((1 : Nat) : Int) (opK m)
  have hsn := new_sn (((3 % 8 : Nat)) : Int) ((1 : Nat) : Int) (opK m)
  have hon := new_on (((3 % 8 : Nat)) : Int) ((1 : Nat) : Int) (opK m)
  have hsc := sec_new (m := 8) (u := ((3 % 8 : Nat) : Int)) (d := ((1 : Nat) : Int)) (s := opK m) rfl rfl (by decide) (fun _ => keys8) hP.tok
  have hop : (opK m).ts.length = 0 ∧ (opK m).n = 0 := ⟨rfl, rfl⟩
  have hex : Ext (opK m) (newK ((3 % 8 : Nat) : Int) ((1 : Nat) : Int) (opK m)).2 := ((fresh_ex _).trans (fresh_ex _)).trans ((turn_ex _ _).trans (fillI_ex _ _ _))
  generalize (newK (((3 % 8 : Nat)) : Int) ((1 : Nat) : Int) (opK m)).1 = k at *
  generalize (newK (((3 % 8 : Nat)) : Int) ((1 : Nat) : Int) (opK m)).2 = s at *
  have hsl : k.signed.length = 1 := by rw [← sn_len, hsn]; rfl
  refine XL.q (q_move rfl) rfl ?_
  refine XL.q (q_x0 rfl) rfl ?_
  refine XL.q (q_x1 rfl) rfl ?_
  refine XL.q (q_assign rfl) rfl ?_
  refine XL.q (q_assign rfl) rfl ?_
  refine XL.fin (kp 1 rfl (kp 2 rfl (kp 7 rfl (kp 8 rfl kn)))) ?_
  refine XC.reg ?_
  refine XL.q (q_assign rfl) rfl ?_
  refine XL.fin (kp 1 rfl (kp 2 rfl (kp 7 rfl (kp 8 rfl (kp 9 rfl kn))))) ?_
  refine XC.join (α := Ks × Mem × Mem × Nat) (fun y => [(2, .int .u8 ((u : Nat) : Int)), (8, .pointer (some ⟨kb, 0, none⟩)), (9, .int .i64 ((y.2.2.2 : Nat) : Int))]) (fun y => y.2.1) (fun y => y.2.2.1) (fun y => Kys (y.2.2.1 ++ A) kb y.1 y.2.1 ∧ (secL y.1).Nodup ∧ onN y.1 = [2, 3, 4, 5] ∧ y.2.2.2 = 6 + y.1.signed.length ∧ y.1.signed.length ≤ 2) ?_ ?_
  ·
    refine XC.reg ?_
    refine XL.q (q_move rfl) rfl ?_
    refine XL.fin (kp 2 rfl (kp 7 rfl (kp 8 rfl (kp 9 rfl (kp 21 rfl kn))))) ?_
    refine XC.cond rfl (fun hc => ?_) (fun hc => ?_)
    ·
      refine XC.reg ?_
      refine XL.q (q_move rfl) rfl ?_
      refine XL.q (q_move rfl) rfl ?_
      refine XL.lo rfl (l_call (Mc := MK ++ MP) (R := _) (aS rfl (aS rfl a0)) (by kernel_rfl) PickC.perm (turn_f kb pb k s MK MP _ (hK.mono SubC.sub) hP (by omega) (by omega) (by omega) hG.up) rfl ?_)
      rintro v24 M24 J24 ⟨MK2, MP2, rfl, hK2, hP2⟩
      have hsc2 := sec_turn (m := 8) hsc hP.tok (by omega) (by omega) (by omega) (fun hr => by rw [hex.seed]; exact keys8)
      have hsl2 : (turnK k s).1.signed.length = 2 := by rw [← sn_len, turn_sn, hsn]; rfl
      have hon2 := turn_on k s
      refine XL.fin (kp 2 rfl (kp 8 rfl (kp 9 rfl kn))) ?_
      refine XC.reg1 ?_
      refine XL.q (q_move rfl) rfl ?_
      refine XL.q (q_num (8 : Int) rfl rfl (add64 (by decide) (by decide) (by decide))) rfl ?_
      refine XL.q (q_assign rfl) rfl ?_
      refine XL.nil ?_
      exact jn ((turnK k s).1, MK2, _, 8) ⟨hK2.mono SubC.sub, hsc2.nd, by dsimp only; rw [hon2, hon], by dsimp only; omega, by dsimp only; omega⟩ (kp 2 rfl (kp 8 rfl (kp 9 rfl kn))) (Fit.last PickC.perm) (fun _ h => h)
    ·
      refine XC.skip ?_
      exact jn (k, MK, _, 7) ⟨hK.mono SubC.sub, hsc.nd, hon, by dsimp only; omega, by dsimp only; omega⟩ (kp 2 rfl (kp 8 rfl (kp 9 rfl kn))) (Fit.last PickC.perm) (fun _ h => h)
  ·
    clear hK hP hns hsn hsc hop hex hsl hon
    clear k s
    rintro ⟨k, MK1, J1, nn⟩ ⟨hK, hnd, hon, hnn, hsl⟩
    dsimp only at hK hnd hon hnn hsl ⊢
    have hrise : Rise k.once := rise_of (by show (onN k).Pairwise _; rw [hon]; decide)
    have hol := on_len k
    rw [hon] at hol
    have hu8 : u % 8 < 8 := Nat.mod_lt _ (by decide)
    refine XC.join (α := Ks × Mem × Mem × Nat) (fun y => [(8, .pointer (some ⟨kb, 0, none⟩)), (9, .int .i64 ((y.2.2.2 : Nat) : Int))]) (fun y => y.2.1) (fun y => y.2.2.1) (fun y => Kys (y.2.2.1 ++ A) kb y.1 y.2.1 ∧ (secL y.1).Nodup ∧ y.2.2.2 = (secL y.1).length ∧ y.1.once.length ≤ 4 ∧ y.1.signed.length ≤ 2) ?_ ?_
    ·
      refine XC.reg ?_
      refine XL.q (q_move rfl) rfl ?_
      refine XL.q (q_move rfl) rfl ?_
      refine XL.q (q_remI (a := u) (b := 8) rfl rfl rfl rfl (by decide)) rfl ?_
      refine XL.q (q_same (k' := .u32) rfl (by kernel_rfl) (by show _ < 2147483648; omega)) rfl ?_
      refine XL.lo rfl (l_call (Mc := MK1) (R := _) (aS rfl (aS rfl a0)) (by kernel_rfl) PickC.perm (use_f kb k (u % 8) MK1 _ (hK.mono SubC.sub) hrise) rfl ?_)
      rintro v31 M31 J31 ⟨rfl, hK31⟩
      have hul := use8 hu8 hon
      have hun := use_nd (u % 8) hnd
      have hs2 : (useK k (u % 8)).signed.length = k.signed.length := rfl
      have hsl2 := secL_len (useK k (u % 8))
      rw [List.length_append] at hsl2
      have hgs : ∃ b, (getP k.once (u % 8)).isSome = b := ⟨_, rfl⟩
      obtain ⟨bu, hbu⟩ := hgs
      rw [hbu] at hul ⊢
      generalize useK k (u % 8) = k2 at *
      refine XL.fin (kp 8 rfl (kp 9 rfl (kp 31 rfl kn))) ?_
      refine XC.cond rfl (fun hc => ?_) (fun hc => ?_)
      ·
        refine XC.reg1 ?_
        refine XL.q (q_move rfl) rfl ?_
        refine XL.q (q_num ((nn - 1 : Nat) : Int) rfl rfl (sub64 (by omega) (by omega) (by omega))) rfl ?_
        refine XL.q (q_assign rfl) rfl ?_
        refine XL.nil ?_
        exact jn (k2, M31, _, nn - 1) ⟨hK31.mono SubC.sub, hun, by dsimp only; rw [hc] at hul; simp at hul; omega, by dsimp only; rw [hul]; split <;> decide, by dsimp only; omega⟩ (kp 8 rfl (kp 9 rfl kn)) (Fit.last PickC.perm) (fun _ h => h)
      ·
        refine XC.skip ?_
        exact jn (k2, M31, _, nn) ⟨hK31.mono SubC.sub, hun, by dsimp only; rw [hc] at hul; simp at hul; omega, by dsimp only; rw [hul]; split <;> decide, by dsimp only; omega⟩ (kp 8 rfl (kp 9 rfl kn)) (Fit.last PickC.perm) (fun _ h => h)
    ·
      clear hK hnd hon hnn hsl hrise hol
      clear k
      rintro ⟨k2, M31, J1, y⟩ ⟨hK31, hun, hy, ho4, hs2⟩
      dsimp only at hK31 hun hy ho4 hs2 ⊢
      subst hy
      have hsl2 := secL_len k2
      rw [List.length_append] at hsl2
      obtain ⟨va, vg, vs_, vo, vm, rs, ro, rm, hr⟩ := hK31.r
      refine XC.reg ?_
      refine XL.q (q_move rfl) rfl ?_
      refine XL.call (aS rfl a0) (by kernel_rfl) (secrets_f kb k2 va vg vs_ vo vm rs ro rm _ (hr _ SubC.sub SubC.sub) (by omega) (by omega)) rfl ?_
      rintro v35 M35 J35 ⟨rfl, hL⟩
      obtain ⟨us, hus, hug⟩ := lsv_at hL
      haveI := hus.cel
      refine XL.frz (B := M31) PickC.perm ?_
      obtain ⟨u0, hu0, hb0⟩ := hug 0 (by omega)
      obtain ⟨u1, hu1, hb1⟩ := hug 1 (by omega)
      haveI := hb0.cel
      haveI := hb1.cel
      change By _ u0 k2.agree at hb0
      change By _ u1 k2.sign at hb1
      refine XL.q (q_assign rfl) rfl ?_
      refine XL.fin (kp 8 rfl (kp 9 rfl (kp 10 rfl kn))) ?_
      refine XC.seq ?_
      refine XC.drawF [0, 1, 2, 3, 4, 5, 6, 7, 8, 9, 10, 11, 12, 13, 14, 15, 16, 17, 18, 19, 20, 21, 22, 23] [(0, 0), (1, 0), (2, 0), (3, 0), (4, 0), (5, 0), (6, 0), (7, 1), (8, 1), (9, 0), (10, 2), (11, 1), (12, 0), (13, 0), (14, 0), (15, 0), (16, 0), (17, 1), (18, 1), (19, 0), (20, 2), (21, 1), (22, 0), (23, 0)] (by kernel_rfl) (by kernel_rfl) fun hs => ?_
      refine XF.q hs rfl (q_move rfl) rfl ?_
      refine XF.q hs rfl (q_lenV2 (sz := 1) rfl (by kernel_rfl) hus) rfl ?_
      refine XF.q hs rfl (q_move rfl) rfl ?_
      refine XF.q hs rfl (q_cmp false rfl rfl (neF rfl)) rfl ?_
      refine XF.q hs rfl (q_move rfl) rfl ?_
      refine XF.qg hs rfl rfl rfl rfl (q_move rfl) rfl ?_
      refine XF.qg hs rfl rfl rfl rfl (q_atV2 (sz := 1) (a := 0) rfl rfl (by kernel_rfl) rfl hus (by omega)) rfl ?_
      refine XF.rg hs rfl rfl rfl rfl (q_ldV (j := 0) (u := u0) (hus.mono SubC.sub) rfl (by kernel_rfl) hu0) rfl ?_
      refine XF.rg hs rfl rfl rfl rfl (q_toStr2 rfl (by kernel_rfl) (hb0.rd.mono SubC.sub)) rfl ?_
      refine XF.qg hs rfl rfl rfl rfl (q_move rfl) rfl ?_
      refine XF.callg rfl rfl rfl rfl (aS rfl a0) (by kernel_rfl) (kagree_f kb k2 va vg vs_ vo vm rs ro rm _ (hr _ SubC.sub SubC.sub)) rfl ?_
      rintro v46 M46 J46 ⟨rfl, h46⟩
      haveI := h46.cel
      refine XF.rg hs rfl rfl rfl rfl (q_toStr2 rfl (by kernel_rfl) (h46.rd.mono SubC.sub)) rfl ?_
      refine XF.qg hs rfl rfl rfl rfl ((show (!decide (k2.agree = k2.agree)) = false by simp) ▸ q_sNe rfl rfl rfl rfl hb0.lt hb0.lt) rfl ?_
      refine XF.q hs rfl (q_pickF rfl rfl) rfl ?_
      refine XF.q hs rfl (q_move rfl) rfl ?_
      refine XF.qg hs rfl rfl rfl rfl (q_move rfl) rfl ?_
      refine XF.qg hs rfl rfl rfl rfl (q_atV2 (sz := 1) (a := 1) rfl rfl (by kernel_rfl) rfl hus (by omega)) rfl ?_
      refine XF.rg hs rfl rfl rfl rfl (q_ldV (j := 1) (u := u1) (hus.mono SubC.sub) rfl (by kernel_rfl) hu1) rfl ?_
      refine XF.rg hs rfl rfl rfl rfl (q_toStr2 rfl (by kernel_rfl) (hb1.rd.mono SubC.sub)) rfl ?_
      refine XF.qg hs rfl rfl rfl rfl (q_move rfl) rfl ?_
      refine XF.callg rfl rfl rfl rfl (aS rfl a0) (by kernel_rfl) (ksign_f kb k2 va vg vs_ vo vm rs ro rm _ (hr _ SubC.sub SubC.sub)) rfl ?_
      rintro v56 M56 J56 ⟨rfl, h56⟩
      haveI := h56.cel
      refine XF.rg hs rfl rfl rfl rfl (q_toStr2 rfl (by kernel_rfl) (h56.rd.mono SubC.sub)) rfl ?_
      refine XF.qg hs rfl rfl rfl rfl ((show (!decide (k2.sign = k2.sign)) = false by simp) ▸ q_sNe rfl rfl rfl rfl hb1.lt hb1.lt) rfl ?_
      refine XF.q hs rfl (q_pickF rfl rfl) rfl ?_
      refine XF.fin (kp 10 rfl (kp 59 rfl kn)) ?_
      refine XC.condF rfl ?_
      refine XC.skip ?_
      refine nx (kp 10 rfl kn) ?_
      refine XC.seq ?_
      refine XC.reg ?_
      refine XL.q (q_assign rfl) rfl ?_
      refine XL.fin (kp 10 rfl (kp 11 rfl kn)) ?_
      refine XC.block ?_
      refine XC.loop (α := Nat) (fun i => [(10, v35), (11, .int .i64 ((i : Nat) : Int))]) (fun _ => []) (fun _ => M31 ++ (J35 ++ J1)) (fun i => i ≤ (secL k2).length) (fun i => (secL k2).length - i) 0 (Nat.zero_le _) (kp 10 rfl (kp 11 rfl kn)) (Fit.sub (List.nil_sublist _)) (fun x hx => SubC.sub x hx) ?_
      rintro i hi
      refine XC.seq ?_
      refine XC.reg ?_
      refine XL.q (q_move rfl) rfl ?_
      refine XL.q (q_move rfl) rfl ?_
      refine XL.q (q_lenV2 (sz := 1) rfl (by kernel_rfl) hus) rfl ?_
      refine XL.q (q_bin rfl rfl rfl) rfl ?_
      refine XL.fin (kp 10 rfl (kp 11 rfl (kp 63 rfl kn))) ?_
      refine XC.cond rfl (fun hc => ?_) (fun hc => ?_)
      ·
        have hlt : i < (secL k2).length := by simp at hc; omega
        obtain ⟨ui, hui, hbi⟩ := hug i hlt
        haveI := hbi.cel
        refine XC.skip ?_
        refine nx (kp 10 rfl (kp 11 rfl kn)) ?_
        refine XC.seq ?_
        refine XC.block ?_
        refine XC.reg ?_
        refine XL.q (q_assign rfl) rfl ?_
        refine XL.fin (kp 10 rfl (kp 11 rfl (kp 12 rfl kn))) ?_
        refine XC.block ?_
        refine XC.loop (α := Nat) (fun j => [(10, v35), (11, .int .i64 ((i : Nat) : Int)), (12, .int .i64 ((j : Nat) : Int))]) (fun _ => []) (fun _ => M31 ++ (J35 ++ J1)) (fun j => j ≤ i) (fun j => i - j) 0 (Nat.zero_le _) (kp 10 rfl (kp 11 rfl (kp 12 rfl kn))) (Fit.sub (List.nil_sublist _)) (fun x hx => SubC.sub x hx) ?_
        rintro j hj
        refine XC.seq ?_
        refine XC.reg ?_
        refine XL.q (q_move rfl) rfl ?_
        refine XL.q (q_move rfl) rfl ?_
        refine XL.q (q_bin rfl rfl rfl) rfl ?_
        refine XL.fin (kp 10 rfl (kp 11 rfl (kp 12 rfl (kp 68 rfl kn)))) ?_
        refine XC.cond rfl (fun hc => ?_) (fun hc => ?_)
        ·
          have hji : j < i := by simp at hc; omega
          obtain ⟨uj, huj, hbj⟩ := hug j (by omega)
          haveI := hbj.cel
          refine XC.skip ?_
          refine nx (kp 10 rfl (kp 11 rfl (kp 12 rfl kn))) ?_
          refine XC.seq ?_
          refine XC.block ?_
          refine XC.drawF [0, 1, 2, 3, 4, 5, 6, 7, 8, 9, 10] [(0, 0), (1, 0), (2, 0), (3, 1), (4, 1), (5, 0), (6, 0), (7, 0), (8, 1), (9, 1), (10, 0)] (by kernel_rfl) (by kernel_rfl) fun hs => ?_
          refine XF.q hs rfl (q_move rfl) rfl ?_
          refine XF.q hs rfl (q_move rfl) rfl ?_
          refine XF.q hs rfl (q_atV2 (sz := 1) (a := i) rfl rfl (by kernel_rfl) rfl hus hlt) rfl ?_
          refine XF.r hs rfl (q_ldV (j := i) (u := ui) (hus.mono SubC.sub) rfl (by kernel_rfl) hui) rfl ?_
          refine XF.r hs rfl (q_toStr2 rfl (by kernel_rfl) (hbi.rd.mono SubC.sub)) rfl ?_
          refine XF.q hs rfl (q_move rfl) rfl ?_
          refine XF.q hs rfl (q_move rfl) rfl ?_
          refine XF.q hs rfl (q_atV2 (sz := 1) (a := j) rfl rfl (by kernel_rfl) rfl hus (by omega)) rfl ?_
          refine XF.r hs rfl (q_ldV (j := j) (u := uj) (hus.mono SubC.sub) rfl (by kernel_rfl) huj) rfl ?_
          refine XF.r hs rfl (q_toStr2 rfl (by kernel_rfl) (hbj.rd.mono SubC.sub)) rfl ?_
          refine XF.q hs rfl ((show (decide ((secL k2)[i] = (secL k2)[j])) = false from decide_eq_false (nd_get hun hlt hji)) ▸ q_sEq rfl rfl rfl rfl hbi.lt hbj.lt) rfl ?_
          refine XF.fin (kp 10 rfl (kp 11 rfl (kp 12 rfl (kp 81 rfl kn)))) ?_
          refine XC.condF rfl ?_
          refine XC.skip ?_
          refine nb ?_
          refine nx (kp 10 rfl (kp 11 rfl (kp 12 rfl kn))) ?_
          refine XC.reg1 ?_
          refine XL.q (q_move rfl) rfl ?_
          refine XL.q (q_num ((j + 1 : Nat) : Int) rfl rfl (add64 (by omega) (by omega) (by omega))) rfl ?_
          refine XL.q (q_assign rfl) rfl ?_
          refine XL.nil ?_
          exact rn (j + 1) (by omega) (by omega) (kp 10 rfl (kp 11 rfl (kp 12 rfl kn))) .rfl (fun _ h => h)
        ·
          have hji : j = i := by simp at hc; omega
          refine XC.exit ?_
          refine te ?_
          refine re ?_
          refine be rfl ?_
          refine nb ?_
          refine nx (kp 10 rfl (kp 11 rfl kn)) ?_
          refine XC.reg1 ?_
          refine XL.q (q_move rfl) rfl ?_
          refine XL.q (q_num ((i + 1 : Nat) : Int) rfl rfl (add64 (by omega) (by omega) (by omega))) rfl ?_
          refine XL.q (q_assign rfl) rfl ?_
          refine XL.nil ?_
          exact rn (i + 1) hlt (by omega) (kp 10 rfl (kp 11 rfl kn)) .rfl (fun _ h => h)
      ·
        refine XC.exit ?_
        refine te ?_
        refine re ?_
        refine be rfl ?_
        refine nx kn ?_
        refine XC.reg ?_
        refine XL.q (q_assign rfl) rfl ?_
        refine XL.fin (kp 6 rfl kn) ?_
        refine XC.ret ?_
        exact ⟨_, [], [], res1 rfl rfl, List.nil_sublist _, by simp, rfl, rfl, rfl⟩

end Go.Proofs.YtphcaiplgpmnnaaGreatDoor
/- Terms that came in; what the rows' lists give. -/
set_option linter.unusedVariables false
set_option linter.unusedSimpArgs false
namespace Go.Proofs.YtphcaiplgpmnnaaGreatDoor
open Go.Px Go.ChangeShapes Go.WideShapes Go.ChangeAt Go.RowKit
section
variable {H : Type} {enc : TypeId × Value → H} {P : Program} {w : World} {spare : Nat → Bool} {held : Bool} {fuel : Nat} {t e : TypeId} {cs : List Value} {x : DataW H × List MemPlace} {v : Value} {d : DataW H} {p : List MemPlace} {r : Reach} {base : Nat} {k : IntKind}
end
theorem var_heap {P : Program} {W : World} {name : String} {g : Nat} {cs : Array Value} (hg : P.globalNamed name = some g) (h : W.var? P name = some cs) : ∃ e fr, W.heap[g]? = some (.cells cs e fr) := by
  unfold World.var? at h
  rw [hg] at h
  simp only [Option.bind_some] at h
  split at h
  · rename_i c e fr hh
    cases h
    exact ⟨e, fr, hh⟩
  · cases h
def zints (ws : List Nat) : List Int := ws.map fun n : Nat => (n : Int)
theorem zints_nums (k : IntKind) (ws : List Nat) : ((zints ws).map fun z => Value.int k z).toArray = (nums k ws).toArray := by simp [zints, nums]
set_option maxRecDepth 100000 in
theorem pow_tab {W : World} {a b : String × DataW Unit} {rest : List (String × DataW Unit)} (h : laidMet Tryz.prog (a :: b :: ("internal/strconv.uint64pow10", Rows.laid_internal_strconv_uint64pow10) :: rest) W) : ∃ e fr, W.heap[2]? = some (Obj.cells (nums .u64 pow10T).toArray e fr) := by
  have h' : laidMet Tryz.prog (("internal/strconv.uint64pow10", Lib.tabData .u64 (zints pow10T)) :: rest) W := h.tail.tail
  have h1 := Lib.tabIs_of_head (g := 2) (t := 240) (e := 28) (n := 20) (by kernel_rfl) (by kernel_rfl) (by kernel_rfl) (by kernel_rfl) (by kernel_rfl) (by kernel_rfl) h'
  obtain ⟨ek, fk, h3⟩ := var_heap (g := 2) (by kernel_rfl) h1
  rw [zints_nums] at h3
  exact ⟨ek, fk, h3⟩
end Go.Proofs.YtphcaiplgpmnnaaGreatDoor

/- What the rows' lists give: the tables of packages sha and strconv. -/
set_option linter.unusedVariables false
set_option linter.unusedSimpArgs false
namespace Go.Proofs.YtphcaiplgpmnnaaGreatDoor
open Go.Px
set_option maxRecDepth 100000 in
theorem glb_in {W : World} {a b : String × DataW Unit} {rest : List (String × DataW Unit)} (h : laidMet Tryz.prog (a :: b :: ("internal/strconv.uint64pow10", Rows.laid_internal_strconv_uint64pow10) :: ("pawl/sha.round", Rows.laid_pawl_sha_round) :: ("pawl/sha.first", Rows.laid_pawl_sha_first) :: rest) W) : Glb (heapA W) := by
  obtain ⟨e4, f4, h4⟩ := pow_tab h
  have h' : laidMet Tryz.prog (("pawl/sha.round", Lib.tabData .u32 (zints kTab)) :: ("pawl/sha.first", Lib.tabData .u32 (zints hFirst.list)) :: rest) W := h.tail.tail.tail
  have h1 := Lib.tabIs_of_head (g := 1) (t := 194) (e := 22) (n := 64) (by kernel_rfl) (by kernel_rfl) (by kernel_rfl) (by kernel_rfl) (by kernel_rfl) (by kernel_rfl) h'
  have h2 := Lib.tabIs_of_head (g := 0) (t := 159) (e := 22) (n := 8) (by kernel_rfl) (by kernel_rfl) (by kernel_rfl) (by kernel_rfl) (by kernel_rfl) (by kernel_rfl) h'.tail
  obtain ⟨ek, fk, h3⟩ := var_heap (g := 1) (by kernel_rfl) h1
  obtain ⟨ef, ff, h5⟩ := var_heap (g := 0) (by kernel_rfl) h2
  rw [zints_nums] at h3 h5
  exact ⟨⟨ef, ff, heapA_mem.2 h5⟩, ⟨ek, fk, heapA_mem.2 h3⟩, ⟨e4, f4, heapA_mem.2 h4⟩⟩
end Go.Proofs.YtphcaiplgpmnnaaGreatDoor

/- The card of the law KeysSecrets: it returns true for every input; each argument reads behind the call as it read before; the listed package variables are tied to the program's text. No further condition. -/
namespace Go.Proofs.YtphcaiplgpmnnaaGreatDoor.keysSecrets
open Go.ChangeShapes Go.WideShapes Go.ChangeAt Go.RowKit
set_option linter.unusedVariables false

theorem own : ownKnob Tryz.prog.godebug = none := by kernel_rfl
theorem laidOut : laidOutB Tryz.prog = true := by kernel_rfl

noncomputable def laidWorld (os : Os) : World := World.laidAll Tryz.prog os Rows.keysSecretsRow.laid
theorem laid_met (os : Os) : laidMetH Tryz.prog Rows.keysSecretsRow.laid ((laidWorld os).forCall (fun _ _ => 0) ⟨#[], #[.int .u8 0, .bool false, .int .u8 0], []⟩).memory := by
  rw [MakeChecks.laidMetH_plain _ _ _ (by kernel_rfl)]; exact laidMet_laidAll _ (by kernel_rfl) (by kernel_rfl)
theorem reads (os : Os) {H : Type} (enc : TypeId × Value → H) : ∃ places, DataW.whole enc Tryz.prog ((laidWorld os).forCall (fun _ _ => 0) ⟨#[], #[.int .u8 0, .bool false, .int .u8 0], []⟩).memory Tryz.f5.params.toList Rows.keysSecretsSpec.vars false (#[.int .u8 0, .bool false, .int .u8 0] : Array Value).toList 8 = some ([.lit (.int .u8 0), .lit (.bool false), .lit (.int .u8 0)], [], places) :=
  ⟨[], by kernel_rfl⟩

set_option maxRecDepth 100000 in
theorem lifted (os : Os) (started : os.Started) (H : Type) (enc : TypeId × Value → H) (F : Stop.Interp) :
    ReturnsInHanded {} Tryz.checked os 5 .any ((OpenSpec.ofChange Rows.keysSecretsSpec).preRow enc Tryz.prog Tryz.f5 Rows.keysSecretsRow.domain false Rows.keysSecretsRow.laid) (((OpenSpec.ofChange Rows.keysSecretsSpec).at F).post enc Tryz.prog Tryz.f5 false true false false) := by
  obtain ⟨places, hx⟩ := reads os enc
  refine returnsInHanded_of_row (C := Tryz.checked) (s := (OpenSpec.ofChange Rows.keysSecretsSpec)) own started (by kernel_rfl) Tryz.func5
    (witness_row_at (enc := enc) (C := Tryz.checked) false (laidWorld os) #[.int .u8 0, .bool false, .int .u8 0] (World.laidAll_os _ _ _) (by kernel_rfl) (by kernel_rfl) (by kernel_rfl)
      (OpenSpec.preRow_of_cond 8 hx (by kernel_rfl) (fun k hk => by cases hk) (by kernel_rfl) (laid_met os))) ?_
  intro W base args ds gs before hval0 hW _ _ _ hL _ _
  have hval : ∀ (j : Nat) t v, Tryz.f5.params[j]? = some t → args[j]? = some v → Value.okWide Tryz.prog W .any base t v := hval0
  have hW' := hW
  obtain ⟨p, q, hA0, hV, rfl, hfz, hnd⟩ := hW
  have hA : DataW.TrodAll enc Tryz.prog W 0 (fun _ => true) true Tryz.f5.params.toList args.toList ds p := hA0
  rw [Tryz.params5] at hA hval
  obtain ⟨v0, vs0, d0, ds0, p0, q0, hargs, rfl, rfl, k0, r0_⟩ := trodAll_cons hA
  obtain ⟨v1, vs1, d1, ds1, p1, q1, rfl, rfl, rfl, k1, r1_⟩ := trodAll_cons r0_
  obtain ⟨v2, vs2, d2, ds2, p2, q2, rfl, rfl, rfl, k2, r2_⟩ := trodAll_cons r1_
  obtain ⟨rfl, rfl, rfl⟩ := trodAll_nil r2_
  obtain rfl : args = #[v0, v1, v2] := by cases args; simp_all
  obtain ⟨rfl, rfl⟩ := trodVars_none hV
  have lt0 : ∀ x ∈ p0, x.block < W.heap.size := by obtain ⟨m, hm⟩ := k0; exact DataW.trod_lt m _ _ _ hm
  have lt1 : ∀ x ∈ p1, x.block < W.heap.size := by obtain ⟨m, hm⟩ := k1; exact DataW.trod_lt m _ _ _ hm
  have lt2 : ∀ x ∈ p2, x.block < W.heap.size := by obtain ⟨m, hm⟩ := k2; exact DataW.trod_lt m _ _ _ hm
  obtain ⟨x0, rfl, hx0⟩ := Px.inU Tryz.underlying5 rfl (hval 0 5 v0 rfl rfl) k0
  obtain ⟨x1, rfl⟩ := Px.inB Tryz.underlying4 (hval 1 4 v1 rfl rfl)
  obtain ⟨x2, rfl, hx2⟩ := Px.inU Tryz.underlying5 rfl (hval 2 5 v2 rfl rfl) k2
  clear hA0 hval0
  rw [MakeChecks.laidMetH_plain _ _ _ (by kernel_rfl)] at hL
  have hG := glb_in hL
  refine Calls.mono ((keysSecrets_f x0 x2 x1 _ hx0 hx2 hG).calls (Px.heapA_fx W)) fun e W' ⟨he, bel⟩ => ?_
  subst he
  exact ⟨_, rfl, _, _, _, [], _, [], hW', trodAll_mk1 (shut_bool Tryz.underlying4 _), (trodAll_cons_mk (Below.trod laidOut (by kernel_rfl) (of_decide_eq_true (by kernel_rfl)) k0 bel lt0) (trodAll_cons_mk (Below.trod laidOut (by kernel_rfl) (of_decide_eq_true (by kernel_rfl)) k1 bel lt1) (trodAll_cons_mk (Below.trod laidOut (by kernel_rfl) (of_decide_eq_true (by kernel_rfl)) k2 bel lt2) trodAll_mk0))), rfl, bel.frame _, fun h => by cases h⟩

theorem said : Rows.KeysSecretsSaid :=
  OpenClaim.holds_of_cond 5 Tryz.f5 rfl rfl rfl rfl rfl rfl rfl ⟨rfl, rfl, rfl, rfl, rfl⟩ rfl rfl rfl rfl rfl (by kernel_rfl) Tryz.func5 (by kernel_rfl)
    (of_decide_eq_true (by kernel_rfl)) (by unfold Func.isWrapper; first | (rw [if_pos (by decide +kernel)]; kernel_rfl) | (rw [if_neg (by decide +kernel)]; exact ⟨rfl, rfl⟩))
    (fun os started H enc _ F => by rw [OpenClaim.pre_eq_preRow]; exact lifted os started H enc F)
theorem plain (f : FuncId) (fn : Func) (hf : Tryz.pinned.checked.prog.funcNamed "pawl/pawllaw12.KeysSecrets" = some f) (hfn : Tryz.pinned.checked.prog.funcs[f]? = some fn) :
    true = Tryz.pinned.checked.prog.looks [] ∧ ∀ (j : Nat) t, fn.params[j]? = some t → Tryz.pinned.checked.prog.wantsStandIn t = false := by
  obtain rfl : f = 5 := Option.some.inj ((show Tryz.prog.funcNamed "pawl/pawllaw12.KeysSecrets" = some 5 by kernel_rfl).symm.trans hf) |>.symm
  obtain rfl : fn = Tryz.f5 := (Option.some.inj (Tryz.func5.symm.trans hfn)).symm
  refine ⟨by kernel_rfl, fun j t ht => ?_⟩
  rw [Tryz.params5] at ht
  have hm := Array.mem_of_getElem? ht
  simp only [List.mem_toArray, List.mem_cons, List.not_mem_nil, or_false] at hm
  rcases hm with rfl | rfl | rfl
  · exact (show Tryz.prog.wantsStandIn 5 = false by kernel_rfl)
  · exact (show Tryz.prog.wantsStandIn 4 = false by kernel_rfl)
  · exact (show Tryz.prog.wantsStandIn 5 = false by kernel_rfl)

theorem proved : Rows.KeysSecretsCardSaid :=
  Claim7.holds_tied_plain_at .later [] _ _ _ _ said (fun _ h => by cases h) (by kernel_rfl) (fun _ h => by cases h) keysSecrets_row_tie rfl ⟨rfl, rfl⟩ (by kernel_rfl) rfl plain (by kernel_rfl)
#print axioms proved
end Go.Proofs.YtphcaiplgpmnnaaGreatDoor.keysSecrets



