/- The card of the law KeysNil: it returns true for every input; each argument reads behind the call as it read before; the listed package variables are tied to the program's text. No further condition. -/
import Derived.Test.YtphcaiplgpmnnaaGreatDoorB15
import Derived.Laws.StructEq
import Derived.Lib.LaidTab
import Derived.Stop.LaidErr
import Derived.MakeChecks
import Derived.Test.YtphcaiplgpmnnaaGreatDoorCards
import Derived.Test.YtphcaiplgpmnnaaGreatDoorTie
import Derived.Deep.DeepHandedRow
import Derived.Deep.DeepWitnessRowRef
import Derived.Lay
import Derived.LaidMore
set_option linter.unusedVariables false
set_option linter.unusedSimpArgs false
set_option maxRecDepth 100000
namespace Go.Proofs.YtphcaiplgpmnnaaGreatDoor
open Go.Px
def snN (k : Ks) : List Nat := k.signed.map (·.n)
def onN (k : Ks) : List Nat := k.once.map (·.n)
theorem turn_sn (k : Ks) (s : Ps) : snN (turnK k s).1 = (k.next :: snN k).take 2 := by
  show List.map (fun x : Pr => x.n) ((turnP k s :: k.signed).take 2) = _
  rw [List.map_take]; rfl
theorem turn_on (k : Ks) (s : Ps) : onN (turnK k s).1 = onN k := rfl
theorem fillI_on (k : Ks) (s : Ps) : ∀ i, onN (fillI k s i).1 = onN k ++ (List.range i).map (k.next + ·)
  | 0 => by simp [fillI]
  | i + 1 => by
    have h := fillI_on k s i
    have hn := fillI_next k s i
    show List.map (fun x : Pr => x.n) ((fillI k s i).1.once ++ [_]) = _
    unfold onN at h ⊢
    rw [List.map_append, h, List.range_succ, List.map_append, ← List.append_assoc]
    simp [hn]
theorem fill_on (k : Ks) (s : Ps) : onN (fillK k s).1 = onN k ++ (List.range (4 - k.once.length)).map (k.next + ·) := fillI_on k s _
theorem fill_eq (k : Ks) (s : Ps) : (fillK k s).1 = { k with once := (fillK k s).1.once, next := k.next + (4 - k.once.length) } := fillI_eq k s _
theorem fill_sn (k : Ks) (s : Ps) : snN (fillK k s).1 = snN k := by rw [fill_eq]; rfl
theorem new_sn (u d : Int) (s : Ps) : snN (newK u d s).1 = [1] := by
  unfold newK; rw [fill_sn, turn_sn]; rfl
theorem new_on (u d : Int) (s : Ps) : onN (newK u d s).1 = [2, 3, 4, 5] := by
  unfold newK; rw [fill_on, turn_on]; rfl
theorem on_len (k : Ks) : (onN k).length = k.once.length := List.length_map ..
theorem bunI_get0 {b : Bn} {l : List Pr} {s : Ps} : ∀ {i : Nat}, i ≤ l.length → (bunI b l s i).1[0]? = some b
  | 0, _ => rfl
  | i + 1, h => by
    rw [bunI_succ (List.getElem?_eq_getElem (by omega))]
    have h1 := (bunI_len (b := b) (s := s) (l := l) (i := i) (by omega)).1
    show (_ ++ _)[0]? = _
    rw [List.getElem?_append_left (by omega)]
    exact bunI_get0 (by omega)
theorem bunI_get {b : Bn} {l : List Pr} {s : Ps} {j : Nat} {o : Pr} (ho : l[j]? = some o) : ∀ {i : Nat}, i ≤ l.length → j < i → (bunI b l s i).1[j + 1]? = some { b with has := true, once := o.n, oncek := pubK2 (bunI b l s j).2 o.sec }
  | 0, _, hj => by omega
  | i + 1, h, hj => by
    obtain ⟨x, hx⟩ : ∃ x, l[i]? = some x := ⟨_, List.getElem?_eq_getElem (by omega)⟩
    rw [bunI_succ hx]
    have h1 := (bunI_len (b := b) (s := s) (l := l) (i := i) (by omega)).1
    show (_ ++ _)[j + 1]? = _
    by_cases e : j = i
    · subst e
      rw [hx] at ho
      cases ho
      rw [List.getElem?_append_right (by omega), h1, Nat.sub_self]; rfl
    · rw [List.getElem?_append_left (by omega)]
      exact bunI_get ho (by omega) (by omega)
/-- What the bundles of some keys are. -/
theorem bunK_facts {k : Ks} {s : Ps} {x : Pr} {sl : List Pr} (h : k.signed = x :: sl) : (bunK k s).1.length = k.once.length + 1 ∧ (bunK k s).1[0]? = some (bunB k x s) ∧ (∀ (j : Nat) (o : Pr), k.once[j]? = some o → (bunK k s).1[j + 1]? = some { bunB k x s with has := true, once := o.n, oncek := pubK2 (bunI (bunB k x s) k.once (pubS2 (idS k s) x.sec) j).2 o.sec }) ∧ (bunK k s).2.ts.length ≤ s.ts.length + 6 + 2 * k.once.length := by
  have e : bunK k s = bunI (bunB k x s) k.once (pubS2 (idS k s) x.sec) k.once.length := by unfold bunK; rw [h]
  rw [e]
  have h1 := bunI_len (b := bunB k x s) (s := pubS2 (idS k s) x.sec) (l := k.once) (Nat.le_refl _)
  have h2 := idS_len k s
  have h3 := pubS2_len (idS k s) x.sec
  exact ⟨h1.1, bunI_get0 (Nat.le_refl _), fun j o ho => bunI_get ho (Nat.le_refl _) (List.getElem?_eq_some_iff.1 ho).1, by omega⟩
theorem md_mod (m : Nat) : ((m % 2 : Nat) : Int) = md (m % 2 == 0) := by
  rcases (by omega : m % 2 = 0 ∨ m % 2 = 1) with h | h <;> rw [h] <;> rfl
def opK (m : Nat) : Ps := ⟨m % 2 == 0, [107, 101, 121, 115], 0, []⟩

theorem who12_f (a b : Nat) (A : Mem) (ha : a < 256) (hb : b < 256) : FnV Tryz.prog 17 [.int .u8 ((a : Nat) : Int), .int .u8 ((b : Nat) : Int)] A (.agg #[.int .i64 ((a % 8 : Nat) : Int), .int .i64 ((b : Nat) : Int)]) := by
 refine FnX.enter (N := 11) Tryz.func17 rfl rfl rfl fun w => ?_
 refine XC.keep (kq 0 (kq 1 kn)) ?_
 refine XC.reg ?_
 refine XL.lo rfl (l_alloc (cs := [.int .i64 0, .int .i64 0]) (by kernel_rfl) rfl fun b4 => ?_)
 refine XL.fin (kq 0 (kq 1 (kq 4 kn))) ?_
 refine XC.reg ?_
 refine mv_ ?_
 refine XL.q (q_remI (a := a) (b := 8) rfl rfl rfl rfl (by decide)) rfl ?_
 refine XL.q (q_same (k' := .i64) rfl (by kernel_rfl) (by show _ < 9223372036854775808; omega)) rfl ?_
 refine mv_ ?_
 refine XL.q (q_same (k' := .i64) rfl (by kernel_rfl) (by show _ < 9223372036854775808; omega)) rfl ?_
 refine XL.q (q_build (place := fun x => #[(0, 1), (1, 1)][x]?) (z := [.int .i64 0, .int .i64 0]) (fun _ => by kernel_rfl) (eS rfl (eS rfl e0)) (bdS 0 1 rfl (by rfl) (bdS 1 1 rfl (by rfl) bd0))) rfl ?_
 refine XL.lo rfl (l_storeW rfl rfl Cel.cel (by kernel_rfl) (lnS (lnS (ln0))) (allS rfl (allS rfl (all0))) UpC.upd ?_)
 refine XL.fin (kq 4 kn) ?_
 refine XC.ret ?_
 exact ⟨_, [], [], resC rfl rfl (by kernel_rfl) At.mem (by rfl), List.nil_sublist _, by simp, rfl, rfl, rfl⟩

theorem open12_f (m : Nat) (u d : Int) (A : Mem) (hm : m < 256) (hG : Glb A) : FnX Tryz.prog 16 [.int .u8 ((m : Nat) : Int), .agg #[.int .i64 u, .int .i64 d]] [] A fun q M J => ∃ pb kb MK MP, q = .tuple #[.pointer (some ⟨pb, 0, none⟩), .pointer (some ⟨kb, 0, none⟩)] ∧ M = MK ++ MP ∧ Kys (J ++ A) kb (newK u d (opK m)).1 MK ∧ Prm pb (newK u d (opK m)).2 MP := by
 refine FnX.enterZ (N := 22) Tryz.func16 rfl rfl rfl fun w_ => ?_
 refine XC.keep (kq 0 (kq 1 kn)) ?_
 refine XC.reg ?_
 refine XL.lo rfl (bx_ fun b3 => ?_)
 refine as_ (as_ ?_)
 refine XL.fin (kq 0 (kq 3 kn)) ?_
 refine XC.reg ?_
 refine mv_ ?_
 refine XL.q (q_remI (a := m) (b := 2) rfl rfl rfl rfl (by decide)) rfl ?_
 rw [md_mod m]
 refine XL.lo rfl (l_buildSlice (e := 5) (sz := 1) (z := [.int .u8 0, .int .u8 0, .int .u8 0, .int .u8 0]) (by kernel_rfl) (eS rfl (eS rfl (eS rfl (eS rfl e0)))) (bdS 0 1 rfl (by rfl) (bdS 1 1 rfl (by rfl) (bdS 2 1 rfl (by rfl) (bdS 3 1 rfl (by rfl) bd0)))) rfl fun b11 => ?_)
 refine XL.lo rfl (l_mark rfl (by kernel_rfl) UpC.upd rfl ?_)
 refine XL.frz (B := [_]) (PickC.sing).perm ?_
 refine XL.call (aS rfl (aS rfl a0)) (by kernel_rfl) (pnew_spec (m % 2 == 0) _ [107, 101, 121, 115] _ ⟨Rd.whole (n := 4) (At.mem) (by rfl), by decide, by decide⟩) rfl ?_
 rintro v13 MP J13 ⟨pb, rfl, hP⟩
 refine mv_ ?_
 refine XL.q (q_x0 rfl) rfl ?_
 refine XL.q (q_x1 rfl) rfl ?_
 refine as_ (as_ ?_)
 refine XL.fin (kq 3 (kq 6 (kq 7 kn))) ?_
 refine XC.seq ?_
 refine XC.reg ?_
 refine mv_ ?_
 refine XL.q (q_cmp false rfl rfl (neF rfl)) rfl ?_
 refine XL.fin (kq 3 (kq 6 (kq 17 kn))) ?_
 refine XC.condF rfl ?_
 refine XC.skip ?_
 refine nx (kq 3 (kq 6 kn)) ?_
 refine XC.reg ?_
 refine mv_ (mv_ ?_)
 refine XL.q (qw_ 2) rfl ?_
 refine XL.lo rfl (l_call (Mc := MP) (R := _) (aS rfl (aS rfl a0)) (by kernel_rfl) PickC.perm (new_f u d pb (opK m) MP _ hP (show 0 + 200 ≤ 1048576 by decide) (show 0 + 100 < 1000000000 by decide) hG.up) rfl ?_)
 rintro v21 M21 J21 ⟨kb, MK, MP2, rfl, rfl, hK, hP2⟩
 refine as_ (as_ ?_)
 refine XL.fin (kq 4 (kq 5 kn)) ?_
 refine XC.ret ?_
 exact ⟨_, MK ++ MP2, [(b3, blk [.int .i64 u, .int .i64 d] 35)], res2 rfl rfl rfl, Fit.pick (B := [_]) PickC.perm (Fit.last PickC.perm), pb, kb, MK, MP2, rfl, rfl, hK.mono SubC.sub, hP2⟩

theorem awake12_f (A : Mem) (hG : Glb A) : FnV Tryz.prog 12 [] A (.bool true) := by
 refine FnX.enter (N := 51) Tryz.func12 rfl rfl rfl fun w => ?_
 refine XC.keep kn ?_
 refine XC.reg ?_
 refine as_ ?_
 refine XL.fin kn ?_
 refine XC.reg ?_
 refine XL.callV (aS rfl (aS rfl a0)) (by kernel_rfl) (who12_f 1 2 _ (by decide) (by decide)) rfl ?_
 refine XL.call (aS rfl (aS rfl a0)) (by kernel_rfl) (open12_f 1 _ _ _ (by decide) hG.up) rfl ?_
 rintro v6 M6 J6 ⟨pb, kb, MK, MP, rfl, rfl, hK, hP⟩
 have hns := newK_ps (((1 % 8 : Nat)) : Int) ((2 : Nat) : Int) (opK 1)
 have hnsn := new_sn (((1 % 8 : Nat)) : Int) ((2 : Nat) : Int) (opK 1)
 have hnon := new_on (((1 % 8 : Nat)) : Int) ((2 : Nat) : Int) (opK 1)
 have hop : (opK 1).ts.length = 0 := rfl
 generalize (newK (((1 % 8 : Nat)) : Int) ((2 : Nat) : Int) (opK 1)).1 = k at *
 generalize (newK (((1 % 8 : Nat)) : Int) ((2 : Nat) : Int) (opK 1)).2 = s at *
 obtain ⟨va, vg, vs_, vo, vm, rs, ro, rm, hr⟩ := hK.r
 have hol := on_len k
 rw [hnon] at hol
 obtain ⟨x, sl, hsg, hxn⟩ : ∃ x sl, k.signed = x :: sl ∧ x.n = 1 := by
  unfold snN at hnsn
  cases hs : k.signed with
  | nil => rw [hs] at hnsn; cases hnsn
  | cons x sl => rw [hs] at hnsn; exact ⟨x, sl, rfl, (List.cons.inj hnsn).1⟩
 refine mv_ ?_
 refine XL.q (q_x0 rfl) rfl ?_
 refine XL.q (q_x1 rfl) rfl ?_
 refine as_ (as_ ?_)
 refine XL.fin (kq 1 (kq 2 kn)) ?_
 refine XC.seq ?_
 refine XC.reg ?_
 refine mv_ ?_
 refine XL.q (q_ptrEqNil (e := 96) rfl rfl (by kernel_rfl)) rfl ?_
 refine XL.fin (kq 1 (kq 2 (kq 10 kn))) ?_
 refine XC.condF rfl ?_
 refine XC.skip ?_
 refine nx (kq 1 (kq 2 kn)) ?_
 refine XC.reg ?_
 refine mv_ (mv_ ?_)
 refine XL.lo rfl (l_call (Mc := MP) (R := _) (aS rfl (aS rfl a0)) (by kernel_rfl) PickC.perm (bundles_f pb s kb k va vg vs_ vo vm rs ro rm x sl MP _ (hr _ SubC.sub SubC.sub) hsg hP (by omega) (by rw [← hol]; decide) hG.up) rfl ?_)
 rintro v13 M13 J13 ⟨hP13, rows, hrd, hrw⟩
 haveI := hrd.cel
 obtain ⟨hbl, hb0, hbj, -⟩ := bunK_facts (s := s) hsg
 rw [← hol] at hbl
 have hog : ∀ (j n : Nat), [2, 3, 4, 5][j]? = some n → ∃ o, k.once[j]? = some o ∧ o.n = n := fun j n h => by
  rw [← hnon] at h
  unfold onN at h
  rw [List.getElem?_map] at h
  cases ho : k.once[j]? with
  | none => rw [ho] at h; cases h
  | some o => rw [ho] at h; exact ⟨o, rfl, Option.some.inj h⟩
 obtain ⟨o0, ho0, hn0⟩ := hog 0 2 rfl
 obtain ⟨o3, ho3, hn3⟩ := hog 3 5 rfl
 have hb1 := hbj 0 o0 ho0
 have hb4 := hbj 3 o3 ho3
 obtain ⟨r0, hr0, a1, a2, a3, a4, a5, rfl, -⟩ := hrw.get 0 _ hb0
 obtain ⟨r1, hr1, c1, c2, c3, c4, c5, rfl, -⟩ := hrw.get 1 _ hb1
 obtain ⟨r4, hr4, d1, d2, d3, d4, d5, rfl, -⟩ := hrw.get 4 _ hb4
 dsimp only [bunB] at hr0 hr1 hr4
 rw [hxn] at hr0 hr1 hr4
 rw [hn0] at hr1
 rw [hn3] at hr4
 refine as_ ?_
 refine XL.fin (kq 3 kn) ?_
 refine XC.reg ?_
 refine mv_ ?_
 refine XL.q (q_lenV2 (sz := 10) rfl (by kernel_rfl) hrd) rfl ?_
 rw [hbl]
 refine XL.q (q_cmp true rfl rfl (eqT rfl)) rfl ?_
 refine mv_ ?_
 refine XL.gy rfl rfl (OpQ.opL qm_ rfl ?_)
 refine XL.gy rfl rfl (OpQ.opL (q_atV2 (sz := 10) (a := 0) rfl rfl (by kernel_rfl) rfl hrd (by rw [hbl]; decide)) rfl ?_)
 refine XL.gy rfl rfl (OpQ.opL (q_fldV (off := 4) rfl hrd (by rw [hbl]; decide) (by kernel_rfl)) rfl ?_)
 refine XL.gy rfl rfl (OpQ.opL (q_ldVF (u := .int .u32 ((1 : Nat) : Int)) rfl (hrd.mono SubC.sub) (by omega) (by kernel_rfl) (by rw [flat_get (hrw.lens bnT) hr0 4 (by decide)]; rfl)) rfl ?_)
 refine XL.gy rfl rfl (OpQ.opL (q_cmp true rfl rfl (eqT rfl)) rfl ?_)
 refine XL.q (q_pickT rfl rfl) rfl ?_
 refine mv_ ?_
 refine XL.gy rfl rfl (OpQ.opL qm_ rfl ?_)
 refine XL.gy rfl rfl (OpQ.opL (q_atV2 (sz := 10) (a := 0) rfl rfl (by kernel_rfl) rfl hrd (by rw [hbl]; decide)) rfl ?_)
 refine XL.gy rfl rfl (OpQ.opL (q_fldV (off := 7) rfl hrd (by rw [hbl]; decide) (by kernel_rfl)) rfl ?_)
 refine XL.gy rfl rfl (OpQ.opL (q_ldVF (u := .bool false) rfl (hrd.mono SubC.sub) (by omega) (by kernel_rfl) (by rw [flat_get (hrw.lens bnT) hr0 7 (by decide)]; rfl)) rfl ?_)
 refine XL.gy rfl rfl (OpQ.opL (q_not rfl) rfl ?_)
 refine XL.q (q_pickT rfl rfl) rfl ?_
 refine mv_ ?_
 refine XL.gy rfl rfl (OpQ.opL qm_ rfl ?_)
 refine XL.gy rfl rfl (OpQ.opL (q_atV2 (sz := 10) (a := 1) rfl rfl (by kernel_rfl) rfl hrd (by rw [hbl]; decide)) rfl ?_)
 refine XL.gy rfl rfl (OpQ.opL (q_fldV (off := 7) rfl hrd (by rw [hbl]; decide) (by kernel_rfl)) rfl ?_)
 refine XL.gy rfl rfl (OpQ.opL (q_ldVF (u := .bool true) rfl (hrd.mono SubC.sub) (by omega) (by kernel_rfl) (by rw [flat_get (hrw.lens bnT) hr1 7 (by decide)]; rfl)) rfl ?_)
 refine XL.q (q_pickT rfl rfl) rfl ?_
 refine mv_ ?_
 refine XL.gy rfl rfl (OpQ.opL qm_ rfl ?_)
 refine XL.gy rfl rfl (OpQ.opL (q_atV2 (sz := 10) (a := 1) rfl rfl (by kernel_rfl) rfl hrd (by rw [hbl]; decide)) rfl ?_)
 refine XL.gy rfl rfl (OpQ.opL (q_fldV (off := 8) rfl hrd (by rw [hbl]; decide) (by kernel_rfl)) rfl ?_)
 refine XL.gy rfl rfl (OpQ.opL (q_ldVF (u := .int .u32 ((2 : Nat) : Int)) rfl (hrd.mono SubC.sub) (by omega) (by kernel_rfl) (by rw [flat_get (hrw.lens bnT) hr1 8 (by decide)]; rfl)) rfl ?_)
 refine XL.gy rfl rfl (OpQ.opL (q_cmp true rfl rfl (eqT rfl)) rfl ?_)
 refine XL.q (q_pickT rfl rfl) rfl ?_
 refine mv_ ?_
 refine XL.gy rfl rfl (OpQ.opL qm_ rfl ?_)
 refine XL.gy rfl rfl (OpQ.opL (q_atV2 (sz := 10) (a := 4) rfl rfl (by kernel_rfl) rfl hrd (by rw [hbl]; decide)) rfl ?_)
 refine XL.gy rfl rfl (OpQ.opL (q_fldV (off := 8) rfl hrd (by rw [hbl]; decide) (by kernel_rfl)) rfl ?_)
 refine XL.gy rfl rfl (OpQ.opL (q_ldVF (u := .int .u32 ((5 : Nat) : Int)) rfl (hrd.mono SubC.sub) (by omega) (by kernel_rfl) (by rw [flat_get (hrw.lens bnT) hr4 8 (by decide)]; rfl)) rfl ?_)
 refine XL.gy rfl rfl (OpQ.opL (q_cmp true rfl rfl (eqT rfl)) rfl ?_)
 refine XL.q (q_pickT rfl rfl) rfl ?_
 refine as_ ?_
 refine XL.fin (kq 0 kn) ?_
 refine XC.ret ?_
 exact ⟨_, [], [], res1 rfl rfl, List.nil_sublist _, by simp, rfl, rfl, rfl⟩

end Go.Proofs.YtphcaiplgpmnnaaGreatDoor
/- What was made of keys is made of them again, in both modes: what a state behind it answers. -/
namespace Go.Proofs.YtphcaiplgpmnnaaGreatDoor
open Go.Px
/-- A state behind another one: of the same seed, too. -/
structure Ext (s s' : Ps) : Prop where
  p : Pext s s'
  seed : s'.seed = s.seed
  n : s.n ≤ s'.n
theorem Ext.refl (s : Ps) : Ext s s := ⟨Pext.refl s, rfl, Nat.le_refl _⟩
theorem Ext.trans {a b c : Ps} (h : Ext a b) (h' : Ext b c) : Ext a c := ⟨h.p.trans h'.p, h'.seed.trans h.seed, Nat.le_trans h.n h'.n⟩
theorem pub_t {s : Ps} {i : Nat} (hi : i < s.ts.length) (hl : s.ts.length ≤ 1048576) : pubS s (bts ((i : Nat) : Int)) = { s with ts := add s.ts (pubT ((i : Nat) : Int)) } ∧ pubK s (bts ((i : Nat) : Int)) = bts ((at_ s.ts (pubT ((i : Nat) : Int)) : Nat) : Int) := by
  obtain ⟨h1, h2⟩ := good_rd hi hl
  unfold pubS pubK
  rw [h1, h2]
  exact ⟨rfl, rfl⟩
/-- Of a secret key this is public. -/
def PubT (s : Ps) (w p : List Nat) : Prop := ∃ i j : Nat, i < s.ts.length ∧ w = bts ((i : Nat) : Int) ∧ s.ts[j]? = some (pubT ((i : Nat) : Int)) ∧ p = bts ((j : Nat) : Int)
def PubAt (s : Ps) (w p : List Nat) : Prop := if s.real then p = base25 (fitN w 32) else PubT s w p
def SkAt (s : Ps) (w p : List Nat) : Prop := if s.real then p = pubB (fitN w 32) else PubT s w p
def SigAt (s : Ps) (w m g : List Nat) : Prop := if s.real then g = sigB (fitN w 32) m else ∃ i j : Nat, i < s.ts.length ∧ w = bts ((i : Nat) : Int) ∧ s.ts[j]? = some (sigT ((i : Nat) : Int) m) ∧ g = fitN (bts ((j : Nat) : Int)) 64
theorem PubT.ext {s s' : Ps} {w p : List Nat} (h : PubT s w p) (he : Pext s s') : PubT s' w p := by
  obtain ⟨l, e⟩ := he.ts
  obtain ⟨i, j, h1, h2, h3, h4⟩ := h
  exact ⟨i, j, by rw [e, List.length_append]; omega, h2, by rw [e]; exact ext_at h3, h4⟩
theorem PubAt.ext {s s' : Ps} {w p : List Nat} (h : PubAt s w p) (he : Pext s s') : PubAt s' w p := by
  unfold PubAt at *
  rw [he.real]
  split
  · rename_i hr; rwa [if_pos hr] at h
  · rename_i hr; rw [if_neg hr] at h; exact h.ext he
theorem SkAt.ext {s s' : Ps} {w p : List Nat} (h : SkAt s w p) (he : Pext s s') : SkAt s' w p := by
  unfold SkAt at *
  rw [he.real]
  split
  · rename_i hr; rwa [if_pos hr] at h
  · rename_i hr; rw [if_neg hr] at h; exact h.ext he
theorem SigAt.ext {s s' : Ps} {w m g : List Nat} (h : SigAt s w m g) (he : Pext s s') : SigAt s' w m g := by
  unfold SigAt at *
  rw [he.real]
  split
  · rename_i hr; rwa [if_pos hr] at h
  · rename_i hr
    rw [if_neg hr] at h
    obtain ⟨l, e⟩ := he.ts
    obtain ⟨i, j, h1, h2, h3, h4⟩ := h
    exact ⟨i, j, by rw [e, List.length_append]; omega, h2, by rw [e]; exact ext_at h3, h4⟩
theorem PubT.eq {s : Ps} {w p : List Nat} (h : PubT s w p) (ht : Tok s.ts) (hl : s.ts.length ≤ 1048576) : pubS s w = s ∧ pubK s w = p := by
  obtain ⟨i, j, h1, rfl, h3, rfl⟩ := h
  obtain ⟨e1, e2⟩ := pub_t h1 hl
  obtain ⟨e3, e4⟩ := again ht h3
  rw [e1, e2, e3, e4]
  exact ⟨rfl, rfl⟩
theorem PubAt.eq {s : Ps} {w p : List Nat} (h : PubAt s w p) (ht : Tok s.ts) (hl : s.ts.length ≤ 1048576) : pubS2 s w = s ∧ pubK2 s w = p := by
  unfold PubAt at h
  unfold pubS2 pubK2
  cases hr : s.real with
  | true => rw [hr] at h; exact ⟨rfl, h.symm⟩
  | false => rw [hr] at h; exact PubT.eq h ht hl
theorem SkAt.eq {s : Ps} {w p : List Nat} (h : SkAt s w p) (ht : Tok s.ts) (hl : s.ts.length ≤ 1048576) : pubS2 s w = s ∧ skK2 s w = p := by
  unfold SkAt at h
  unfold pubS2 skK2
  cases hr : s.real with
  | true => rw [hr] at h; exact ⟨rfl, h.symm⟩
  | false => rw [hr] at h; exact PubT.eq h ht hl
theorem SigAt.f {s : Ps} (h : s.real = false) {w m g : List Nat} : SigAt s w m g ↔ ∃ i j : Nat, i < s.ts.length ∧ w = bts ((i : Nat) : Int) ∧ s.ts[j]? = some (sigT ((i : Nat) : Int) m) ∧ g = fitN (bts ((j : Nat) : Int)) 64 := by unfold SigAt; rw [if_neg (by rw [h]; decide)]
/-- What Check answers of terms. -/
def chkT (ts : List Tm) (p m g : List Nat) : Bool := decide (g.length = 64) && match plc g ts.length, plc p ts.length with
  | some i, some k => decide (p.length = 32) && match ts[i]?, ts[k]? with
    | some t, some u => decide (t.kind = 7) && decide (t.text = m) && decide (u.kind = 3) && decide (u.of.getD 0 0 = t.of.getD 0 0)
    | _, _ => false
  | _, _ => false
noncomputable def chkK (s : Ps) (p m g : List Nat) : Bool := if s.real then chkB p m g else chkT s.ts p m g
/-- Terms that are made of something are. -/
def Ar (ts : List Tm) : Prop := ∀ t ∈ ts, (t.kind = 3 ∨ t.kind = 6 ∨ t.kind = 7) → 0 < t.of.length
theorem Ar.nil : Ar [] := fun t h => by cases h
theorem Ar.add {ts : List Tm} (h : Ar ts) {t : Tm} (ht : (t.kind = 3 ∨ t.kind = 6 ∨ t.kind = 7) → 0 < t.of.length) : Ar (add ts t) := by
  unfold Go.Proofs.YtphcaiplgpmnnaaGreatDoor.add
  split
  · exact h
  · intro u hu
    rcases List.mem_append.1 hu with h1 | h1
    · exact h u h1
    · rw [List.mem_singleton.1 h1]; exact ht
theorem Ar.rd {ts : List Tm} (h : Ar ts) (w : List Nat) : Ar (rdT ts w) := by
  cases hp : plc w ts.length with
  | some j => rw [(rdT_some hp).1]; exact h
  | none => rw [(rdT_none hp).1]; exact h.add (by intro h; rcases h with h | h | h <;> cases h)
end Go.Proofs.YtphcaiplgpmnnaaGreatDoor
/- All secrets of keys are unlike; the walk of KeysSecrets. -/
namespace Go.Proofs.YtphcaiplgpmnnaaGreatDoor
open Go.Px
/-- The key that was made as the i-th one. -/
def Fr (s : Ps) (w : List Nat) (i : Nat) : Prop := if s.real then w = keyR s.seed i else ∃ j, s.ts[j]? = some (atom i) ∧ w = bts ((j : Nat) : Int)
theorem Fr.ext {s s' : Ps} {w : List Nat} {i : Nat} (h : Fr s w i) (he : Ext s s') : Fr s' w i := by
  unfold Fr at h ⊢
  rw [he.p.real]
  obtain ⟨l, e⟩ := he.p.ts
  split
  · rename_i hr; rw [if_pos hr] at h; rw [he.seed]; exact h
  · rename_i hr
    rw [if_neg hr] at h
    obtain ⟨j, h1, h2⟩ := h
    exact ⟨j, by rw [e]; exact ext_at h1, h2⟩
theorem fr_ne {s : Ps} {w w' : List Nat} {i i' : Nat} (h : Fr s w i) (h' : Fr s w' i') (hi : i ≠ i') (hl : s.ts.length ≤ 1048576) (hk : s.real = true → keyR s.seed i ≠ keyR s.seed i') : w ≠ w' := by
  unfold Fr at h h'
  split at h
  · rename_i hr
    rw [if_pos hr] at h'
    rw [h, h']
    exact hk hr
  · rename_i hr
    rw [if_neg hr] at h'
    obtain ⟨j, h1, rfl⟩ := h
    obtain ⟨j', h2, rfl⟩ := h'
    intro e
    have b1 := (List.getElem?_eq_some_iff.1 h1).1
    have b2 := (List.getElem?_eq_some_iff.1 h2).1
    have e2 := bts_inj (by omega) (by omega) e
    subst e2
    rw [h1] at h2
    have e3 := Option.some.inj h2
    unfold atom at e3
    injection e3 with a1 a2 a3 a4
    exact hi (by omega)
/-- Secrets, each once, each made by the state. -/
structure Sok (L : List (List Nat)) (s : Ps) : Prop where
  nd : L.Nodup
  fr : ∀ w ∈ L, ∃ i, i ≤ s.n ∧ Fr s w i
theorem Sok.nil {s : Ps} : Sok [] s := ⟨List.nodup_nil, fun w h => by cases h⟩
theorem Sok.ext {L : List (List Nat)} {s s' : Ps} (h : Sok L s) (he : Ext s s') : Sok L s' := ⟨h.nd, fun w hw => by
  obtain ⟨i, h1, h2⟩ := h.fr w hw
  exact ⟨i, Nat.le_trans h1 he.n, h2.ext he⟩⟩
theorem Sok.sub {L L' : List (List Nat)} {s : Ps} (h : Sok L s) (hs : L'.Sublist L) : Sok L' s := ⟨h.nd.sublist hs, fun w hw => h.fr w (hs.subset hw)⟩
theorem Sok.perm {L L' : List (List Nat)} {s : Ps} (h : Sok L s) (hp : L.Perm L') : Sok L' s := ⟨hp.nodup_iff.1 h.nd, fun w hw => h.fr w (hp.mem_iff.2 hw)⟩
/-- The keys of a seed up to a number are unlike. -/
def Apart (seed : List Nat) (m : Nat) : Prop := ∀ i j, i ≤ m → j ≤ m → i ≠ j → keyR seed i ≠ keyR seed j
theorem Sok.add {L : List (List Nat)} {s s' : Ps} {w : List Nat} {m : Nat} (h : Sok L s) (he : Ext s s') (hw : Fr s' w (s.n + 1)) (hn : s.n + 1 ≤ s'.n) (hl : s'.ts.length ≤ 1048576) (hm : s.n + 1 ≤ m) (ha : s'.real = true → Apart s'.seed m) : Sok (w :: L) s' := by
  have h' := h.ext he
  refine ⟨List.nodup_cons.2 ⟨fun hm' => ?_, h.nd⟩, fun x hx => ?_⟩
  · obtain ⟨i, h1, h2⟩ := h.fr w hm'
    exact fr_ne hw (h2.ext he) (show s.n + 1 ≠ i by omega) hl (fun hr => ha hr _ _ hm (by omega) (by omega)) rfl
  · rcases List.mem_cons.1 hx with rfl | hx
    · exact ⟨_, hn, hw⟩
    · exact h'.fr x hx
def kW : List Nat := [107, 101, 121, 115]
end Go.Proofs.YtphcaiplgpmnnaaGreatDoor
/-
  A call answers the same where more stands still.
-/
namespace Go.Px
end Go.Px

/- The walk of keys.Encode. -/
namespace Go.Proofs.YtphcaiplgpmnnaaGreatDoor
open Go.Px
def preK (k : Ks) : Nat → List Nat
  | 0 => encH k
  | 1 => encH k ++ encL k.signed
  | _ => encH k ++ (encL k.signed ++ encL k.once)
def lisK (k : Ks) : Nat → List Pr
  | 0 => k.signed
  | _ => k.once
end Go.Proofs.YtphcaiplgpmnnaaGreatDoor
/-
  Equality of structs of two ints (a Who).
-/
namespace Go.Px
def intT (P : Program) (t : TypeId) : Bool := match P.underlying t with
  | some (.int _) => true
  | _ => false
def twoT (P : Program) (t : TypeId) : Bool :=
  match P.underlying t with
  | some (.struct fs) => match fs.toList with
    | [f, g] => f.offset == 0 && g.offset == 1 && (f.name != "_") && (g.name != "_") && intT P f.type && intT P g.type && !P.stoodInHeld t && !P.eqGuardType P.depth t
    | _ => false
  | _ => false
theorem intT_spec {P : Program} {t : TypeId} (h : intT P t = true) : ∃ k, P.underlying t = some (.int k) := by
  unfold intT at h
  split at h
  · rename_i k hk; exact ⟨k, hk⟩
  · cases h
theorem run_part_int {P : Program} {t : TypeId} {k : IntKind} (ht : P.underlying t = some (.int k)) {cs : Array Value} {off : Nat} {v : Value} (hv : cs[off]? = some v) (w : World) : (part t cs off).run P w = .ok v w := by
  simp [part, isAgg, run_underlying ht, hv]
theorem run_two {P : Program} {t : TypeId} (h : twoT P t = true) (k : IntKind) (a b a' b' : Int) (w : World) :
    P.eqGuardType P.depth t = false ∧ (Op.equalIn 10000 t (.agg #[.int k a, .int k b]) (.agg #[.int k a', .int k b'])).run P w = .ok (a == a' && b == b') w := by
  unfold twoT at h
  split at h
  · rename_i fs hfs
    split at h
    · rename_i f g hfg
      simp only [Bool.and_eq_true, beq_iff_eq, bne_iff_ne, Bool.not_eq_true'] at h
      obtain ⟨⟨⟨⟨⟨⟨⟨h1, h2⟩, h3⟩, h4⟩, h5⟩, h6⟩, h7⟩, h8⟩ := h
      obtain ⟨k1, e1⟩ := intT_spec h5
      obtain ⟨k2, e2⟩ := intT_spec h6
      have hf : P.fieldsOf t = fs := by unfold Program.fieldsOf; rw [hfs]
      refine ⟨h8, ?_⟩
      rw [run_equalIn_struct w 9999 t _ _ (by rw [hf]; exact hfs) h7, hf, hfg]
      unfold Op.eqFields
      rw [if_pos h3]
      simp only [Sem.run_bind, run_part_int e1 (show (#[Value.int k a, .int k b])[f.offset]? = some (.int k a) by rw [h1]; rfl), run_part_int e1 (show (#[Value.int k a', .int k b'])[f.offset]? = some (.int k a') by rw [h1]; rfl), Result.andThen_ok, run_equalIn_int w 9998 f.type k k1 a a' e1]
      by_cases ha : a = a'
      · subst ha
        simp only [BEq.rfl, Bool.not_true, Bool.false_eq_true, if_false, Bool.true_and]
        unfold Op.eqFields
        rw [if_pos h4]
        simp only [Sem.run_bind, run_part_int e2 (show (#[Value.int k a, .int k b])[g.offset]? = some (.int k b) by rw [h2]; rfl), run_part_int e2 (show (#[Value.int k a, .int k b'])[g.offset]? = some (.int k b') by rw [h2]; rfl), Result.andThen_ok, run_equalIn_int w 9998 g.type k k2 b b' e2]
        by_cases hb : b = b'
        · subst hb; simp [Op.eqFields]
        · have : (b == b') = false := by simp [hb]
          rw [this]; simp
      · have : (a == a') = false := by simp [ha]
        rw [this]; simp
    · cases h
  · cases h
section
variable {P : Program} {R : Mem} {l : Env} {d : Option Nat} {ty t t' : TypeId} {pos : String} {af : Array Edge} {g : Option (Nat × Bool)} {x y : Operand} {k : IntKind} {a b a' b' : Int}
theorem q_twoEq (hx : ev l x = some (.agg #[.int k a, .int k b])) (hy : ev l y = some (.agg #[.int k a', .int k b'])) (ht : twoT P t = true) :
    OpQ P R ⟨d, .binOp .eql t x y t', ty, pos, af, g⟩ l (.bool (a == a' && b == b')) := fun N A w ha hw => by
  obtain ⟨h1, h2⟩ := run_two ht k a b a' b' w
  simp only [execOp, ha.ev hx, ha.ev hy, Sem.run_bind, run_eqGuard_agg w _ _ _ _ _ _ h1, Result.andThen_ok, run_eql_struct]
  simp only [h2, Result.andThen_ok, Sem.run_pure]
variable {v u : Value} {xs : List Value} {n j sz off m : Nat} {R' : Mem}
/-- A field of a struct's value. -/
def fldT (P : Program) (s : TypeId) (f off : Nat) : Bool := match P.underlying s with
  | some (.struct fs) => match fs[f]? with
    | some fd => fd.offset == off && scalarT P fd.type
    | none => false
  | _ => false
theorem q_field {f off : Nat} {s : TypeId} {cs : List Value} (hx : ev l x = some (.agg cs.toArray)) (ht : fldT P s f off = true) (hv : cs[off]? = some v) : OpQ P R ⟨d, .field s x f, ty, pos, af, g⟩ l v := fun N a w ha hw => by
  unfold fldT at ht
  split at ht
  · rename_i fs hfs
    split at ht
    · rename_i fd hfd
      simp only [Bool.and_eq_true, beq_iff_eq] at ht
      obtain ⟨h1, h2⟩ := ht
      have h3 : cs[fd.offset]? = some v := by rw [h1]; exact hv
      simp [execOp, ha.ev hx, Instr.field, run_underlying hfs, hfd, part, isAgg_scalar h2, asAgg, h3]
    · cases ht
  · cases ht
end
end Go.Px

/- Nil keys: the walk of KeysNil. -/
namespace Go.Proofs.YtphcaiplgpmnnaaGreatDoor
open Go.Px

theorem signed_n (n : Nat) (A : Mem) : FnV Tryz.prog 21 [.pointer none, .int .u32 ((n : Nat) : Int)] A (.tuple #[.slice none 0 0, .bool false]) := by
 refine FnX.enter (N := 16) Tryz.func21 rfl rfl rfl fun w_ => ?_
 refine XC.keep (kq 0 (kq 1 kn)) ?_
 refine XC.reg ?_
 refine as_ (as_ ?_)
 refine XL.fin (kq 0 (kq 1 kn)) ?_
 refine XC.seq ?_
 refine XC.reg ?_
 refine mv_ ?_
 refine XL.q (q_ptrEqNil (e := 96) rfl rfl (by kernel_rfl)) rfl ?_
 refine XL.fin (kq 0 (kq 1 (kq 7 kn))) ?_
 refine XC.condT rfl ?_
 refine XC.reg ?_
 refine as_ (as_ ?_)
 refine XL.fin (kq 4 (kq 5 kn)) ?_
 refine XC.ret ?_
 refine tr ?_
 exact ⟨_, [], [], res2 rfl rfl rfl, List.nil_sublist _, by simp, rfl, rfl, rfl⟩

theorem once_n (n : Nat) (A : Mem) : FnV Tryz.prog 22 [.pointer none, .int .u32 ((n : Nat) : Int)] A (.tuple #[.slice none 0 0, .bool false]) := by
 refine FnX.enter (N := 30) Tryz.func22 rfl rfl rfl fun w_ => ?_
 refine XC.keep (kq 0 (kq 1 kn)) ?_
 refine XC.reg ?_
 refine as_ (as_ ?_)
 refine XL.fin (kq 0 (kq 1 kn)) ?_
 refine XC.seq ?_
 refine XC.reg ?_
 refine mv_ ?_
 refine XL.q (q_ptrEqNil (e := 96) rfl rfl (by kernel_rfl)) rfl ?_
 refine XL.fin (kq 0 (kq 1 (kq 9 kn))) ?_
 refine XC.condT rfl ?_
 refine XC.reg ?_
 refine as_ (as_ ?_)
 refine XL.fin (kq 4 (kq 5 kn)) ?_
 refine XC.ret ?_
 refine tr ?_
 exact ⟨_, [], [], res2 rfl rfl rfl, List.nil_sublist _, by simp, rfl, rfl, rfl⟩

theorem met_n (n : Nat) (A : Mem) : FnV Tryz.prog 28 [.pointer none, .int .u32 ((n : Nat) : Int), .slice none 0 0] A (.bool false) := by
 refine FnX.enter (N := 17) Tryz.func28 rfl rfl rfl fun w_ => ?_
 refine XC.keep (kq 0 (kq 1 (kq 2 kn))) ?_
 refine XC.reg ?_
 refine XL.lo rfl (bx_ fun b4 => ?_)
 refine XL.lo rfl (bx_ fun b5 => ?_)
 refine as_ ?_
 refine XL.fin (kq 0 (kq 4 (kq 5 kn))) ?_
 refine XC.reg ?_
 refine mv_ ?_
 refine XL.q (q_ptrNeNil (e := 96) rfl rfl (by kernel_rfl)) rfl ?_
 refine mv_ ?_
 refine XL.gn rfl rfl rfl rfl ?_
 refine XL.gn rfl rfl rfl rfl ?_
 refine XL.gn rfl rfl rfl rfl ?_
 refine XL.gn rfl rfl rfl rfl ?_
 refine XL.gn rfl rfl rfl rfl ?_
 refine XL.gn rfl rfl rfl rfl ?_
 refine XL.q (q_pickF rfl rfl) rfl ?_
 refine as_ ?_
 refine XL.fin (kq 6 kn) ?_
 refine XC.ret ?_
 exact ⟨_, [], [], res1 rfl rfl, List.nil_sublist _, by simp, rfl, rfl, rfl⟩

theorem use_n (n : Nat) (A : Mem) : FnV Tryz.prog 20 [.pointer none, .int .u32 ((n : Nat) : Int)] A (.bool false) := by
 refine FnX.enter (N := 24) Tryz.func20 rfl rfl rfl fun w_ => ?_
 refine XC.keep (kq 0 (kq 1 kn)) ?_
 refine XC.reg ?_
 refine XL.lo rfl (bx_ fun b3 => ?_)
 refine as_ ?_
 refine XL.fin (kq 0 (kq 3 kn)) ?_
 refine XC.seq ?_
 refine XC.reg ?_
 refine mv_ ?_
 refine XL.q ql_ rfl ?_
 refine XL.callV (aS rfl (aS rfl a0)) (by kernel_rfl) (once_n n _) rfl ?_
 refine mv_ ?_
 refine XL.q (q_x0 rfl) rfl ?_
 refine XL.q (q_x1 rfl) rfl ?_
 refine as_ (as_ ?_)
 refine XL.fin (kq 0 (kq 3 (kq 6 kn))) ?_
 refine XC.reg ?_
 refine mv_ ?_
 refine XL.q (q_not rfl) rfl ?_
 refine XL.fin (kq 0 (kq 3 (kq 14 kn))) ?_
 refine XC.condT rfl ?_
 refine XC.reg ?_
 refine as_ ?_
 refine XL.fin (kq 4 kn) ?_
 refine XC.ret ?_
 refine tr ?_
 exact ⟨_, [], [], res1 rfl rfl, List.nil_sublist _, by simp, rfl, rfl, rfl⟩

theorem fill_n (pb : Nat) (A : Mem) : FnV Tryz.prog 19 [.pointer none, .pointer (some ⟨pb, 0, none⟩)] A (.int .i64 0) := by
 refine FnX.enter (N := 42) Tryz.func19 rfl rfl rfl fun w_ => ?_
 refine XC.keep (kq 0 (kq 1 kn)) ?_
 refine XC.reg ?_
 refine as_ ?_
 refine XL.fin (kq 0 (kq 1 kn)) ?_
 refine XC.reg ?_
 refine as_ ?_
 refine XL.fin (kq 0 (kq 1 (kq 5 kn))) ?_
 refine XC.seq ?_
 refine XC.block ?_
 refine XC.rounds 1 ?_
 refine XR.step ?_
 refine XC.seq ?_
 refine XC.reg ?_
 refine mv_ ?_
 refine XL.q (q_ptrNeNil (e := 96) rfl rfl (by kernel_rfl)) rfl ?_
 refine mv_ ?_
 refine XL.gn rfl rfl rfl rfl ?_
 refine XL.gn rfl rfl rfl rfl ?_
 refine XL.gn rfl rfl rfl rfl ?_
 refine XL.gn rfl rfl rfl rfl ?_
 refine XL.gn rfl rfl rfl rfl ?_
 refine XL.gn rfl rfl rfl rfl ?_
 refine XL.q (q_pickF rfl rfl) rfl ?_
 refine XL.fin (kq 0 (kq 1 (kq 5 (kq 15 kn)))) ?_
 refine XC.condF rfl ?_
 refine XC.exit ?_
 refine te ?_
 refine ue ?_
 refine be rfl ?_
 refine nx (kq 5 kn) ?_
 refine XC.reg ?_
 refine mv_ (as_ ?_)
 refine XL.fin (kq 4 kn) ?_
 refine XC.ret ?_
 exact ⟨_, [], [], res1 rfl rfl, List.nil_sublist _, by simp, rfl, rfl, rfl⟩

theorem len_n (A : Mem) : FnV Tryz.prog 32 [.pointer none] A (.int .i64 0) := by
 refine FnX.enter (N := 10) Tryz.func32 rfl rfl rfl fun w_ => ?_
 refine XC.keep (kq 0 kn) ?_
 refine XC.reg ?_
 refine as_ ?_
 refine XL.fin (kq 0 kn) ?_
 refine XC.seq ?_
 refine XC.reg ?_
 refine mv_ ?_
 refine XL.q (q_ptrEqNil (e := 96) rfl rfl (by kernel_rfl)) rfl ?_
 refine XL.fin (kq 0 (kq 4 kn)) ?_
 refine XC.condT rfl ?_
 refine XC.reg ?_
 refine as_ ?_
 refine XL.fin (kq 2 kn) ?_
 refine XC.ret ?_
 refine tr ?_
 exact ⟨_, [], [], res1 rfl rfl, List.nil_sublist _, by simp, rfl, rfl, rfl⟩

theorem who_n (A : Mem) : FnV Tryz.prog 33 [.pointer none] A (.agg #[.int .i64 0, .int .i64 0]) := by
 refine FnX.enter (N := 10) Tryz.func33 rfl rfl rfl fun w_ => ?_
 refine XC.keep (kq 0 kn) ?_
 refine XC.reg ?_
 refine XL.lo rfl (l_alloc (cs := [.int .i64 0, .int .i64 0]) (by kernel_rfl) rfl fun b2 => ?_)
 refine XL.fin (kq 0 (kq 2 kn)) ?_
 refine XC.seq ?_
 refine XC.reg ?_
 refine mv_ ?_
 refine XL.q (q_ptrEqNil (e := 96) rfl rfl (by kernel_rfl)) rfl ?_
 refine XL.fin (kq 0 (kq 2 (kq 4 kn))) ?_
 refine XC.condT rfl ?_
 refine XC.reg ?_
 refine XL.q (q_build (place := fun x => #[(0, 1), (1, 1)][x]?) (z := [.int .i64 0, .int .i64 0]) (fun _ => by kernel_rfl) e0 bd0) rfl ?_
 refine XL.lo rfl (l_storeW rfl rfl Cel.cel (by kernel_rfl) (lnS (lnS (ln0))) (allS rfl (allS rfl (all0))) UpC.upd ?_)
 refine XL.fin (kq 2 kn) ?_
 refine XC.ret ?_
 refine tr ?_
 exact ⟨_, [], [], resC rfl rfl (by kernel_rfl) At.mem (by rfl), List.nil_sublist _, by simp, rfl, rfl, rfl⟩

theorem bundles_n (pb : Nat) (A : Mem) : FnV Tryz.prog 23 [.pointer none, .pointer (some ⟨pb, 0, none⟩)] A (.slice none 0 0) := by
 refine FnX.enter (N := 62) Tryz.func23 rfl rfl rfl fun w_ => ?_
 refine XC.keep (kq 0 (kq 1 kn)) ?_
 refine XC.reg ?_
 refine as_ ?_
 refine XL.fin (kq 0 (kq 1 kn)) ?_
 refine XC.seq ?_
 refine XC.reg ?_
 refine mv_ ?_
 refine XL.q (q_ptrEqNil (e := 96) rfl rfl (by kernel_rfl)) rfl ?_
 refine XL.fin (kq 0 (kq 1 (kq 12 kn))) ?_
 refine XC.condT rfl ?_
 refine XC.reg ?_
 refine as_ ?_
 refine XL.fin (kq 4 kn) ?_
 refine XC.ret ?_
 refine tr ?_
 exact ⟨_, [], [], res1 rfl rfl, List.nil_sublist _, by simp, rfl, rfl, rfl⟩

theorem agree_n (A : Mem) : FnV Tryz.prog 25 [.pointer none] A (.slice none 0 0) := by
 refine FnX.enter (N := 10) Tryz.func25 rfl rfl rfl fun w_ => ?_
 refine XC.keep (kq 0 kn) ?_
 refine XC.reg ?_
 refine as_ ?_
 refine XL.fin (kq 0 kn) ?_
 refine XC.seq ?_
 refine XC.reg ?_
 refine mv_ ?_
 refine XL.q (q_ptrEqNil (e := 96) rfl rfl (by kernel_rfl)) rfl ?_
 refine XL.fin (kq 0 (kq 4 kn)) ?_
 refine XC.condT rfl ?_
 refine XC.reg ?_
 refine as_ ?_
 refine XL.fin (kq 2 kn) ?_
 refine XC.ret ?_
 refine tr ?_
 exact ⟨_, [], [], res1 rfl rfl, List.nil_sublist _, by simp, rfl, rfl, rfl⟩

theorem ksign_n (A : Mem) : FnV Tryz.prog 26 [.pointer none] A (.slice none 0 0) := by
 refine FnX.enter (N := 10) Tryz.func26 rfl rfl rfl fun w_ => ?_
 refine XC.keep (kq 0 kn) ?_
 refine XC.reg ?_
 refine as_ ?_
 refine XL.fin (kq 0 kn) ?_
 refine XC.seq ?_
 refine XC.reg ?_
 refine mv_ ?_
 refine XL.q (q_ptrEqNil (e := 96) rfl rfl (by kernel_rfl)) rfl ?_
 refine XL.fin (kq 0 (kq 4 kn)) ?_
 refine XC.condT rfl ?_
 refine XC.reg ?_
 refine as_ ?_
 refine XL.fin (kq 2 kn) ?_
 refine XC.ret ?_
 refine tr ?_
 exact ⟨_, [], [], res1 rfl rfl, List.nil_sublist _, by simp, rfl, rfl, rfl⟩

theorem secrets_n (A : Mem) : FnV Tryz.prog 24 [.pointer none] A (.slice none 0 0) := by
 refine FnX.enter (N := 36) Tryz.func24 rfl rfl rfl fun w_ => ?_
 refine XC.keep (kq 0 kn) ?_
 refine XC.reg ?_
 refine as_ ?_
 refine XL.fin (kq 0 kn) ?_
 refine XC.seq ?_
 refine XC.reg ?_
 refine mv_ ?_
 refine XL.q (q_ptrEqNil (e := 96) rfl rfl (by kernel_rfl)) rfl ?_
 refine XL.fin (kq 0 (kq 7 kn)) ?_
 refine XC.condT rfl ?_
 refine XC.reg ?_
 refine as_ ?_
 refine XL.fin (kq 2 kn) ?_
 refine XC.ret ?_
 refine tr ?_
 exact ⟨_, [], [], res1 rfl rfl, List.nil_sublist _, by simp, rfl, rfl, rfl⟩

theorem ident_n (pb : Nat) (A : Mem) : FnV Tryz.prog 31 [.pointer none, .pointer (some ⟨pb, 0, none⟩)] A (.agg #[.slice none 0 0, .slice none 0 0]) := by
 refine FnX.enter (N := 21) Tryz.func31 rfl rfl rfl fun w_ => ?_
 refine XC.keep (kq 0 (kq 1 kn)) ?_
 refine XC.reg ?_
 refine XL.lo rfl (l_alloc (cs := [.slice none 0 0, .slice none 0 0]) (by kernel_rfl) rfl fun b4 => ?_)
 refine XL.fin (kq 0 (kq 1 (kq 4 kn))) ?_
 refine XC.seq ?_
 refine XC.reg ?_
 refine mv_ ?_
 refine XL.q (q_ptrEqNil (e := 96) rfl rfl (by kernel_rfl)) rfl ?_
 refine XL.fin (kq 0 (kq 1 (kq 4 (kq 6 kn)))) ?_
 refine XC.condT rfl ?_
 refine XC.reg ?_
 refine XL.q (q_build (place := fun x => #[(0, 1), (1, 1)][x]?) (z := [.slice none 0 0, .slice none 0 0]) (fun _ => by kernel_rfl) e0 bd0) rfl ?_
 refine XL.lo rfl (l_storeW rfl rfl Cel.cel (by kernel_rfl) (lnS (lnS (ln0))) (allS rfl (allS rfl (all0))) UpC.upd ?_)
 refine XL.fin (kq 4 kn) ?_
 refine XC.ret ?_
 refine tr ?_
 exact ⟨_, [], [], resC rfl rfl (by kernel_rfl) At.mem (by rfl), List.nil_sublist _, by simp, rfl, rfl, rfl⟩

theorem turn_n (pb : Nat) (A : Mem) : FnX Tryz.prog 18 [.pointer none, .pointer (some ⟨pb, 0, none⟩)] [] A fun q M J => M = [] := by
 refine FnX.enterZ (N := 68) Tryz.func18 rfl rfl rfl fun w_ => ?_
 refine XC.keep (kq 0 (kq 1 kn)) ?_
 refine XC.reg ?_
 refine XL.lo rfl (bx_ fun b2 => ?_)
 refine XL.fin (kq 1 (kq 2 kn)) ?_
 refine XC.seq ?_
 refine XC.reg ?_
 refine XL.q ql_ rfl ?_
 refine XL.q (q_ptrEqNil (e := 96) rfl rfl (by kernel_rfl)) rfl ?_
 refine XL.fin (kq 1 (kq 2 (kq 6 kn))) ?_
 refine XC.condT rfl ?_
 refine XC.ret ?_
 refine tr ?_
 exact ⟨_, [], [], res0 rfl, Fit.sub (List.nil_sublist _), rfl⟩

theorem meet_n (n : Nat) (A : Mem) : FnX Tryz.prog 27 [.pointer none, .int .u32 ((n : Nat) : Int), .slice none 0 0] [] A fun q M J => M = [] := by
 refine FnX.enterZ (N := 35) Tryz.func27 rfl rfl rfl fun w_ => ?_
 refine XC.keep (kq 0 (kq 1 (kq 2 kn))) ?_
 refine XC.reg ?_
 refine mv_ (mv_ ?_)
 refine XL.callV (aS rfl (aS rfl a0)) (by kernel_rfl) (signed_n n _) rfl ?_
 refine mv_ ?_
 refine XL.q (q_x0 rfl) rfl ?_
 refine XL.q (q_x1 rfl) rfl ?_
 refine as_ (as_ ?_)
 refine XL.fin (kq 0 (kq 1 (kq 2 (kq 7 kn)))) ?_
 refine XC.reg ?_
 refine mv_ (mv_ ?_)
 refine XL.gn rfl rfl rfl rfl ?_
 refine XL.gn rfl rfl rfl rfl ?_
 refine XL.gn rfl rfl rfl rfl ?_
 refine XL.gn rfl rfl rfl rfl ?_
 refine XL.gn rfl rfl rfl rfl ?_
 refine XL.q (q_pickF rfl rfl) rfl ?_
 refine XL.fin (kq 0 (kq 1 (kq 2 (kq 21 kn)))) ?_
 refine XC.condF rfl ?_
 refine XC.skip ?_
 exact ⟨_, [], [], res0 rfl, Fit.sub (List.nil_sublist _), rfl⟩

theorem encode_n (A : Mem) : FnX Tryz.prog 30 [.pointer none] [] A fun q M J => M = [] ∧ By J q [] := by
 refine FnX.enterZ (N := 113) Tryz.func30 rfl rfl rfl fun w_ => ?_
 refine XC.keep (kq 0 kn) ?_
 refine XC.reg ?_
 refine as_ ?_
 refine XL.fin (kq 0 kn) ?_
 refine XC.reg ?_
 refine XL.q (q_build (place := fun x => #[(0, 1)][x]?) (z := [.slice none 0 0]) (fun _ => by kernel_rfl) e0 bd0) rfl ?_
 refine XL.lo rfl (bx_ fun b11 => ?_)
 refine as_ ?_
 refine XL.fin (kq 0 (kq 3 kn)) ?_
 refine XC.seq ?_
 refine XC.reg ?_
 refine mv_ ?_
 refine XL.q (q_ptrEqNil (e := 96) rfl rfl (by kernel_rfl)) rfl ?_
 refine XL.fin (kq 0 (kq 3 (kq 13 kn))) ?_
 refine XC.condT rfl ?_
 refine XC.reg ?_
 refine mv_ ?_
 refine XL.lo rfl (l_call (Mc := [(b11, blk [.slice none 0 0] 89)]) (R := _) (aS rfl a0) (by kernel_rfl) PickC.perm (wdone_spec b11 _ _ _ Wtr.new (by decide)) rfl ?_)
 rintro v15 M15 J15 ⟨hW15, hb15⟩
 haveI := hb15.cel
 refine as_ ?_
 refine XL.fin (kq 2 kn) ?_
 refine XC.ret ?_
 refine tr ?_
 exact ⟨_, [], [], res1 rfl rfl, Fit.sub (List.nil_sublist _), rfl, hb15.mono SubC.sub⟩

theorem keysNil_f (n m : Nat) (A : Mem) (hm : m < 256) (hG : Glb A) : FnV Tryz.prog 8 [.int .u32 ((n : Nat) : Int), .int .u8 ((m : Nat) : Int)] A (.bool true) := by
 refine FnX.enter (N := 102) Tryz.func8 rfl rfl rfl fun w_ => ?_
 refine XC.keep (kq 0 (kq 1 kn)) ?_
 refine XC.reg ?_
 refine as_ ?_
 refine XL.fin (kq 0 (kq 1 kn)) ?_
 refine XC.seq ?_
 refine XC.reg ?_
 refine XL.callV a0 (by kernel_rfl) (awake12_f _ hG.up) rfl ?_
 refine XL.q (q_not rfl) rfl ?_
 refine XL.fin (kq 0 (kq 1 (kq 13 kn))) ?_
 refine XC.condF rfl ?_
 refine XC.skip ?_
 refine nx (kq 0 (kq 1 kn)) ?_
 refine XC.reg ?_
 refine mv_ ?_
 refine XL.callV (aS rfl (aS rfl a0)) (by kernel_rfl) (who12_f 0 0 _ (by decide) (by decide)) rfl ?_
 refine XL.call (aS rfl (aS rfl a0)) (by kernel_rfl) (open12_f m _ _ _ hm hG.up) rfl ?_
 rintro v17 M17 J17 ⟨pb, kb, MK, MP, rfl, rfl, -, -⟩
 refine mv_ ?_
 refine XL.q (q_x0 rfl) rfl ?_
 refine XL.q (q_x1 rfl) rfl ?_
 refine as_ (as_ ?_)
 refine XL.fin (kq 0 (kq 5 kn)) ?_
 refine XC.reg ?_
 refine as_ ?_
 refine XL.fin (kq 0 (kq 5 (kq 7 kn))) ?_
 refine XC.reg ?_
 refine mv_ (mv_ ?_)
 refine XL.call (aS rfl (aS rfl a0)) (by kernel_rfl) (turn_n pb _) rfl ?_
 rintro v22 M22 J22 rfl
 refine XL.fin (kq 0 (kq 5 (kq 7 kn))) ?_
 refine XC.reg ?_
 refine mv_ (mv_ ?_)
 refine XL.call (aS rfl (aS rfl (aS rfl a0))) (by kernel_rfl) (meet_n n _) rfl ?_
 rintro v25 M25 J25 rfl
 refine XL.fin (kq 0 (kq 5 (kq 7 kn))) ?_
 refine XC.reg ?_
 refine mv_ (mv_ ?_)
 refine XL.callV (aS rfl (aS rfl a0)) (by kernel_rfl) (signed_n n _) rfl ?_
 refine mv_ ?_
 refine XL.q (q_x0 rfl) rfl ?_
 refine XL.q (q_x1 rfl) rfl ?_
 refine as_ (as_ ?_)
 refine XL.fin (kq 0 (kq 5 (kq 7 (kq 9 kn)))) ?_
 refine XC.reg ?_
 refine mv_ (mv_ ?_)
 refine XL.callV (aS rfl (aS rfl a0)) (by kernel_rfl) (once_n n _) rfl ?_
 refine mv_ ?_
 refine XL.q (q_x0 rfl) rfl ?_
 refine XL.q (q_x1 rfl) rfl ?_
 refine as_ (as_ ?_)
 refine XL.fin (kq 0 (kq 5 (kq 7 (kq 9 (kq 11 kn))))) ?_
 refine XC.reg ?_
 refine mv_ (mv_ ?_)
 refine XL.callV (aS rfl (aS rfl a0)) (by kernel_rfl) (fill_n pb _) rfl ?_
 refine XL.q (q_cmp true rfl rfl (eqT rfl)) rfl ?_
 refine mv_ ?_
 refine XL.gy rfl rfl (OpQ.opL qm_ rfl ?_)
 refine XL.gy rfl rfl (OpQ.opL qm_ rfl ?_)
 refine XL.callVg rfl rfl (aS rfl (aS rfl (aS rfl a0))) (by kernel_rfl) (met_n n _) rfl ?_
 refine XL.gy rfl rfl (OpQ.opL (q_not rfl) rfl ?_)
 refine XL.q (q_pickT rfl rfl) rfl ?_
 refine mv_ ?_
 refine XL.gy rfl rfl (OpQ.opL qm_ rfl ?_)
 refine XL.gy rfl rfl (OpQ.opL (q_not rfl) rfl ?_)
 refine XL.q (q_pickT rfl rfl) rfl ?_
 refine mv_ ?_
 refine XL.gy rfl rfl (OpQ.opL qm_ rfl ?_)
 refine XL.gy rfl rfl (OpQ.opL (q_not rfl) rfl ?_)
 refine XL.q (q_pickT rfl rfl) rfl ?_
 refine mv_ ?_
 refine XL.gy rfl rfl (OpQ.opL qm_ rfl ?_)
 refine XL.gy rfl rfl (OpQ.opL qm_ rfl ?_)
 refine XL.callVg rfl rfl (aS rfl (aS rfl a0)) (by kernel_rfl) (use_n n _) rfl ?_
 refine XL.gy rfl rfl (OpQ.opL (q_not rfl) rfl ?_)
 refine XL.q (q_pickT rfl rfl) rfl ?_
 refine mv_ ?_
 refine XL.gy rfl rfl (OpQ.opL qm_ rfl ?_)
 refine XL.callVg rfl rfl (aS rfl a0) (by kernel_rfl) (len_n _) rfl ?_
 refine XL.gy rfl rfl (OpQ.opL (q_cmp true rfl rfl (eqT rfl)) rfl ?_)
 refine XL.q (q_pickT rfl rfl) rfl ?_
 refine mv_ ?_
 refine XL.gy rfl rfl (OpQ.opL qm_ rfl ?_)
 refine XL.callVg rfl rfl (aS rfl a0) (by kernel_rfl) (who_n _) rfl ?_
 refine XL.gy rfl rfl (OpQ.opL (q_build (place := fun x => #[(0, 1), (1, 1)][x]?) (z := [.int .i64 0, .int .i64 0]) (fun _ => by kernel_rfl) e0 bd0) rfl ?_)
 refine XL.gy rfl rfl (OpQ.opL ((show ((0 : Int) == 0 && (0 : Int) == 0) = true from rfl) ▸ q_twoEq rfl rfl (by kernel_rfl)) rfl ?_)
 refine XL.q (q_pickT rfl rfl) rfl ?_
 refine mv_ ?_
 refine XL.gy rfl rfl (OpQ.opL qm_ rfl ?_)
 refine XL.gy rfl rfl (OpQ.opL qm_ rfl ?_)
 refine XL.callVg rfl rfl (aS rfl (aS rfl a0)) (by kernel_rfl) (bundles_n pb _) rfl ?_
 refine XL.gy rfl rfl (OpQ.opL (q_lenV2 (sz := 10) rfl (by kernel_rfl) (Rd.nil (R := []))) rfl ?_)
 refine XL.gy rfl rfl (OpQ.opL qm_ rfl ?_)
 refine XL.callVg rfl rfl (aS rfl a0) (by kernel_rfl) (agree_n _) rfl ?_
 refine XL.gy rfl rfl (OpQ.opL (q_lenV2 (sz := 1) rfl (by kernel_rfl) (Rd.nil (R := []))) rfl ?_)
 refine XL.gy rfl rfl (OpQ.opL (q_num (0 : Int) rfl rfl (add64 (by decide) (by decide) (by decide))) rfl ?_)
 refine XL.gy rfl rfl (OpQ.opL qm_ rfl ?_)
 refine XL.callVg rfl rfl (aS rfl a0) (by kernel_rfl) (ksign_n _) rfl ?_
 refine XL.gy rfl rfl (OpQ.opL (q_lenV2 (sz := 1) rfl (by kernel_rfl) (Rd.nil (R := []))) rfl ?_)
 refine XL.gy rfl rfl (OpQ.opL (q_num (0 : Int) rfl rfl (add64 (by decide) (by decide) (by decide))) rfl ?_)
 refine XL.gy rfl rfl (OpQ.opL qm_ rfl ?_)
 refine XL.callVg rfl rfl (aS rfl a0) (by kernel_rfl) (secrets_n _) rfl ?_
 refine XL.gy rfl rfl (OpQ.opL (q_lenV2 (sz := 1) rfl (by kernel_rfl) (Rd.nil (R := []))) rfl ?_)
 refine XL.gy rfl rfl (OpQ.opL (q_num (0 : Int) rfl rfl (add64 (by decide) (by decide) (by decide))) rfl ?_)
 refine XL.gy rfl rfl (OpQ.opL qm_ rfl ?_)
 refine XL.callg rfl rfl (aS rfl a0) (by kernel_rfl) (encode_n _) rfl ?_
 rintro v91 M91 J91 ⟨rfl, h91⟩
 haveI := h91.cel
 refine XL.gy rfl rfl (OpQ.opL (q_lenV2 (sz := 1) rfl (by kernel_rfl) h91.rd) rfl ?_)
 refine XL.gy rfl rfl (OpQ.opL (q_num (0 : Int) rfl rfl (add64 (by decide) (by decide) (by decide))) rfl ?_)
 refine XL.gy rfl rfl (OpQ.opL qm_ rfl ?_)
 refine XL.gy rfl rfl (OpQ.opL qm_ rfl ?_)
 refine XL.callVg rfl rfl (aS rfl (aS rfl a0)) (by kernel_rfl) (ident_n pb _) rfl ?_
 refine XL.gy rfl rfl (OpQ.opL (q_field (off := 0) (v := .slice none 0 0) rfl (by kernel_rfl) rfl) rfl ?_)
 refine XL.gy rfl rfl (OpQ.opL (q_lenV2 (sz := 1) rfl (by kernel_rfl) (Rd.nil (R := []))) rfl ?_)
 refine XL.gy rfl rfl (OpQ.opL (q_num (0 : Int) rfl rfl (add64 (by decide) (by decide) (by decide))) rfl ?_)
 refine XL.gy rfl rfl (OpQ.opL (q_cmp true rfl rfl (eqT rfl)) rfl ?_)
 refine XL.q (q_pickT rfl rfl) rfl ?_
 refine as_ ?_
 refine XL.fin (kq 4 kn) ?_
 refine XC.ret ?_
 exact ⟨_, [], [], res1 rfl rfl, List.nil_sublist _, by simp, rfl, rfl, rfl⟩

end Go.Proofs.YtphcaiplgpmnnaaGreatDoor
/- Terms that came in; what the rows' lists give. -/
namespace Go.Proofs.YtphcaiplgpmnnaaGreatDoor
open Go.Px Go.ChangeShapes Go.WideShapes Go.ChangeAt Go.RowKit
section
variable {H : Type} {enc : TypeId × Value → H} {P : Program} {w : World} {spare : Nat → Bool} {held : Bool} {fuel : Nat} {t e : TypeId} {cs : List Value} {x : DataW H × List MemPlace} {v : Value} {d : DataW H} {p : List MemPlace} {r : Reach} {base : Nat} {k : IntKind}
end
theorem var_heap {P : Program} {W : World} {name : String} {g : Nat} {cs : Array Value} (hg : P.globalNamed name = some g) (h : W.var? P name = some cs) : ∃ e fr, W.heap[g]? = some (.cells cs e fr) := by
  unfold World.var? at h
  rw [hg] at h
  simp only [Option.bind_some] at h
  split at h
  · rename_i c e fr hh
    cases h
    exact ⟨e, fr, hh⟩
  · cases h
def zints (ws : List Nat) : List Int := ws.map fun n : Nat => (n : Int)
theorem zints_nums (k : IntKind) (ws : List Nat) : ((zints ws).map fun z => Value.int k z).toArray = (nums k ws).toArray := by simp [zints, nums]
theorem pow_tab {W : World} {a b : String × DataW Unit} {rest : List (String × DataW Unit)} (h : laidMet Tryz.prog (a :: b :: ("internal/strconv.uint64pow10", Rows.laid_internal_strconv_uint64pow10) :: rest) W) : ∃ e fr, W.heap[2]? = some (Obj.cells (nums .u64 pow10T).toArray e fr) := by
  have h' : laidMet Tryz.prog (("internal/strconv.uint64pow10", Lib.tabData .u64 (zints pow10T)) :: rest) W := h.tail.tail
  have h1 := Lib.tabIs_of_head (g := 2) (t := 240) (e := 28) (n := 20) (by kernel_rfl) (by kernel_rfl) (by kernel_rfl) (by kernel_rfl) (by kernel_rfl) (by kernel_rfl) h'
  obtain ⟨ek, fk, h3⟩ := var_heap (g := 2) (by kernel_rfl) h1
  rw [zints_nums] at h3
  exact ⟨ek, fk, h3⟩
end Go.Proofs.YtphcaiplgpmnnaaGreatDoor

/- What the rows' lists give: the tables of packages sha and strconv. -/
namespace Go.Proofs.YtphcaiplgpmnnaaGreatDoor
open Go.Px
theorem glb_in {W : World} {a b : String × DataW Unit} {rest : List (String × DataW Unit)} (h : laidMet Tryz.prog (a :: b :: ("internal/strconv.uint64pow10", Rows.laid_internal_strconv_uint64pow10) :: ("pawl/sha.round", Rows.laid_pawl_sha_round) :: ("pawl/sha.first", Rows.laid_pawl_sha_first) :: rest) W) : Glb (heapA W) := by
  obtain ⟨e4, f4, h4⟩ := pow_tab h
  have h' : laidMet Tryz.prog (("pawl/sha.round", Lib.tabData .u32 (zints kTab)) :: ("pawl/sha.first", Lib.tabData .u32 (zints hFirst.list)) :: rest) W := h.tail.tail.tail
  have h1 := Lib.tabIs_of_head (g := 1) (t := 194) (e := 22) (n := 64) (by kernel_rfl) (by kernel_rfl) (by kernel_rfl) (by kernel_rfl) (by kernel_rfl) (by kernel_rfl) h'
  have h2 := Lib.tabIs_of_head (g := 0) (t := 159) (e := 22) (n := 8) (by kernel_rfl) (by kernel_rfl) (by kernel_rfl) (by kernel_rfl) (by kernel_rfl) (by kernel_rfl) h'.tail
  obtain ⟨ek, fk, h3⟩ := var_heap (g := 1) (by kernel_rfl) h1
  obtain ⟨ef, ff, h5⟩ := var_heap (g := 0) (by kernel_rfl) h2
  rw [zints_nums] at h3 h5
  exact ⟨⟨ef, ff, heapA_mem.2 h5⟩, ⟨ek, fk, heapA_mem.2 h3⟩, ⟨e4, f4, heapA_mem.2 h4⟩⟩
end Go.Proofs.YtphcaiplgpmnnaaGreatDoor

/- The card of the law KeysNil: it returns true for every input; each argument reads behind the call as it read before; the listed package variables are tied to the program's text. No further condition. -/
namespace Go.Proofs.YtphcaiplgpmnnaaGreatDoor.keysNil
open Go.ChangeShapes Go.WideShapes Go.ChangeAt Go.RowKit

theorem own : ownKnob Tryz.prog.godebug = none := by kernel_rfl
theorem laidOut : laidOutB Tryz.prog = true := by kernel_rfl

noncomputable def laidWorld (os : Os) : World := World.laidAll Tryz.prog os Rows.keysNilRow.laid
theorem laid_met (os : Os) : laidMetH Tryz.prog Rows.keysNilRow.laid ((laidWorld os).forCall (fun _ _ => 0) ⟨#[], #[.int .u32 0, .int .u8 0], []⟩).memory := by
  rw [MakeChecks.laidMetH_plain _ _ _ (by kernel_rfl)]; exact laidMet_laidAll _ (by kernel_rfl) (by kernel_rfl)
theorem reads (os : Os) {H : Type} (enc : TypeId × Value → H) : ∃ places, DataW.whole enc Tryz.prog ((laidWorld os).forCall (fun _ _ => 0) ⟨#[], #[.int .u32 0, .int .u8 0], []⟩).memory Tryz.f8.params.toList Rows.keysNilSpec.vars false (#[.int .u32 0, .int .u8 0] : Array Value).toList 8 = some ([.lit (.int .u32 0), .lit (.int .u8 0)], [], places) :=
  ⟨[], by kernel_rfl⟩

theorem lifted (os : Os) (started : os.Started) (H : Type) (enc : TypeId × Value → H) (F : Stop.Interp) :
    ReturnsInHanded {} Tryz.checked os 8 .any ((OpenSpec.ofChange Rows.keysNilSpec).preRow enc Tryz.prog Tryz.f8 Rows.keysNilRow.domain false Rows.keysNilRow.laid) (((OpenSpec.ofChange Rows.keysNilSpec).at F).post enc Tryz.prog Tryz.f8 false true false false) := by
  obtain ⟨places, hx⟩ := reads os enc
  refine returnsInHanded_of_row (C := Tryz.checked) (s := (OpenSpec.ofChange Rows.keysNilSpec)) own started (by kernel_rfl) Tryz.func8
    (witness_row_at (enc := enc) (C := Tryz.checked) false (laidWorld os) #[.int .u32 0, .int .u8 0] (World.laidAll_os _ _ _) (by kernel_rfl) (by kernel_rfl) (by kernel_rfl)
      (OpenSpec.preRow_of_cond 8 hx (by kernel_rfl) (fun k hk => by cases hk) (by kernel_rfl) (laid_met os))) ?_
  intro W base args ds gs before hval0 hW _ _ _ hL _ _
  have hval : ∀ (j : Nat) t v, Tryz.f8.params[j]? = some t → args[j]? = some v → Value.okWide Tryz.prog W .any base t v := hval0
  have hW' := hW
  obtain ⟨p, q, hA0, hV, rfl, hfz, hnd⟩ := hW
  have hA : DataW.TrodAll enc Tryz.prog W 0 (fun _ => true) true Tryz.f8.params.toList args.toList ds p := hA0
  rw [Tryz.params8] at hA hval
  obtain ⟨v0, vs0, d0, ds0, p0, q0, hargs, rfl, rfl, k0, r0_⟩ := trodAll_cons hA
  obtain ⟨v1, vs1, d1, ds1, p1, q1, rfl, rfl, rfl, k1, r1_⟩ := trodAll_cons r0_
  obtain ⟨rfl, rfl, rfl⟩ := trodAll_nil r1_
  obtain rfl : args = #[v0, v1] := by cases args; simp_all
  obtain ⟨rfl, rfl⟩ := trodVars_none hV
  have lt0 : ∀ x ∈ p0, x.block < W.heap.size := by obtain ⟨m, hm⟩ := k0; exact DataW.trod_lt m _ _ _ hm
  have lt1 : ∀ x ∈ p1, x.block < W.heap.size := by obtain ⟨m, hm⟩ := k1; exact DataW.trod_lt m _ _ _ hm
  obtain ⟨x0, rfl, hx0⟩ := Px.inU Tryz.underlying22 rfl (hval 0 22 v0 rfl rfl) k0
  obtain ⟨x1, rfl, hx1⟩ := Px.inU Tryz.underlying5 rfl (hval 1 5 v1 rfl rfl) k1
  clear hA0 hval0
  rw [MakeChecks.laidMetH_plain _ _ _ (by kernel_rfl)] at hL
  have hG := glb_in hL
  refine Calls.mono ((keysNil_f x0 x1 _ hx1 hG).calls (Px.heapA_fx W)) fun e W' ⟨he, bel⟩ => ?_
  subst he
  exact ⟨_, rfl, _, _, _, [], _, [], hW', trodAll_mk1 (shut_bool Tryz.underlying4 _), (trodAll_cons_mk (Below.trod laidOut (by kernel_rfl) (of_decide_eq_true (by kernel_rfl)) k0 bel lt0) (trodAll_cons_mk (Below.trod laidOut (by kernel_rfl) (of_decide_eq_true (by kernel_rfl)) k1 bel lt1) trodAll_mk0)), rfl, bel.frame _, fun h => by cases h⟩

theorem said : Rows.KeysNilSaid :=
  OpenClaim.holds_of_cond 8 Tryz.f8 rfl rfl rfl rfl rfl rfl rfl ⟨rfl, rfl, rfl, rfl, rfl⟩ rfl rfl rfl rfl rfl (by kernel_rfl) Tryz.func8 (by kernel_rfl)
    (of_decide_eq_true (by kernel_rfl)) (by unfold Func.isWrapper; first | (rw [if_pos (by decide +kernel)]; kernel_rfl) | (rw [if_neg (by decide +kernel)]; exact ⟨rfl, rfl⟩))
    (fun os started H enc _ F => by rw [OpenClaim.pre_eq_preRow]; exact lifted os started H enc F)
theorem plain (f : FuncId) (fn : Func) (hf : Tryz.pinned.checked.prog.funcNamed "pawl/pawllaw12.KeysNil" = some f) (hfn : Tryz.pinned.checked.prog.funcs[f]? = some fn) :
    true = Tryz.pinned.checked.prog.looks [] ∧ ∀ (j : Nat) t, fn.params[j]? = some t → Tryz.pinned.checked.prog.wantsStandIn t = false := by
  obtain rfl : f = 8 := Option.some.inj ((show Tryz.prog.funcNamed "pawl/pawllaw12.KeysNil" = some 8 by kernel_rfl).symm.trans hf) |>.symm
  obtain rfl : fn = Tryz.f8 := (Option.some.inj (Tryz.func8.symm.trans hfn)).symm
  refine ⟨by kernel_rfl, fun j t ht => ?_⟩
  rw [Tryz.params8] at ht
  have hm := Array.mem_of_getElem? ht
  simp only [List.mem_toArray, List.mem_cons, List.not_mem_nil, or_false] at hm
  rcases hm with rfl | rfl
  · exact (show Tryz.prog.wantsStandIn 22 = false by kernel_rfl)
  · exact (show Tryz.prog.wantsStandIn 5 = false by kernel_rfl)

theorem proved : Rows.KeysNilCardSaid :=
  Claim7.holds_tied_plain_at .later [] _ _ _ _ said (fun _ h => by cases h) (by kernel_rfl) (fun _ h => by cases h) keysNil_row_tie rfl ⟨rfl, rfl⟩ (by kernel_rfl) rfl plain (by kernel_rfl)
#print axioms proved
end Go.Proofs.YtphcaiplgpmnnaaGreatDoor.keysNil



