/- Part 19 of the texts of this claim, one behind the other. -/
import Derived.Test.YtphcaiplgpmnnaaGreatDoorB18
import Derived.Laws.StructEq
set_option linter.unusedVariables false
set_option linter.unusedSimpArgs false
set_option maxRecDepth 100000
namespace Go.Proofs.YtphcaiplgpmnnaaGreatDoor
open Go.Px
/-- Owned keys, taken apart; where all of it is known they are keys that are read. -/
theorem Kys.ex2 {R : Mem} {kb : Nat} {k : Ks} {M : Mem} (h : Kys R kb k M) : ∃ (va vg vs vo vm : Value) (rs ro rm : List (List Value)) (Bs Bo Bm : Mem), M = (kb, blk [.int .i64 k.user, .int .i64 k.dev, va, vg, vs, vo, .int .u32 ((k.next : Nat) : Int), vm] 96) :: (Bs ++ (Bo ++ Bm)) ∧
    (By R va k.agree ∧ By R vg k.sign ∧ Sl 3 vs k.signed.length rs.flatten Bs ∧ RwL prR R rs k.signed ∧ Sl 3 vo k.once.length ro.flatten Bo ∧ RwL prR R ro k.once ∧ Sl 2 vm k.met.length rm.flatten Bm ∧ RwL nmR R rm k.met ∧ k.next < 4294967296 ∧ k.signed.length ≤ 2 ∧ k.once.length ≤ 100 ∧ k.met.length ≤ 100000) ∧
    ∀ R', (∀ x, x ∈ R → x ∈ R') → (∀ x, x ∈ M → x ∈ R') → KyR R' kb k va vg vs vo vm rs ro rm := by
  obtain ⟨va, vg, vs, vo, vm, rs, ro, rm, Bs, Bo, Bm, h1, h2, h3, h4, h5, h6, h7, h8, h9, h10, h11, h12, h13⟩ := h.ex
  refine ⟨va, vg, vs, vo, vm, rs, ro, rm, Bs, Bo, Bm, h1, ⟨h2, h3, h4, h5, h6, h7, h8, h9, h10, h11, h12, h13⟩, fun R' hR hM => ?_⟩
  subst h1
  exact ⟨hM _ List.mem_cons_self, h2.mono hR, h3.mono hR, h4.rd fun x hx => hM x (by simp [hx]), h5.mono prT hR, h6.rd fun x hx => hM x (by simp [hx]), h7.mono prT hR, h8.rd fun x hx => hM x (by simp [hx]), h9.mono nmT hR, by omega, by omega, by omega, by omega⟩
def useK (k : Ks) (n : Nat) : Ks := { k with once := k.once.filter fun x => !tstP n x }
def meetK (k : Ks) (n : Nat) (w : List Nat) : Ks := if (getP k.signed n).isSome && !decide (0 ≤ fidxL (tstN n w) k.met) then { k with met := k.met ++ [⟨n, w⟩] } else k
theorem getP_mem {l : List Pr} {n : Nat} : (getP l n).isSome = decide (n ∈ l.map (·.n)) := by
  rcases fidxL_cases (tstP n) l with ⟨h1, h2⟩ | ⟨i, x, h1, h2, h3, h4⟩
  · rw [getP_no h1]
    symm
    refine decide_eq_false fun h => ?_
    obtain ⟨x, hx, e⟩ := List.mem_map.1 h
    have := h2 x hx
    simp [tstP, e] at this
  · rw [getP_yes h1 h2]
    symm
    have e : x.n = n := by simpa [tstP] using h3
    exact decide_eq_true (List.mem_map.2 ⟨x, List.mem_of_getElem? h2, e⟩)
theorem useK_no {k : Ks} {n : Nat} (h : (getP k.once n).isSome = false) : useK k n = k := by
  have h2 : k.once.filter (fun x => !tstP n x) = k.once := by
    refine List.filter_eq_self.2 fun x hx => ?_
    rw [getP_mem] at h
    have h3 := of_decide_eq_false h
    have : x.n ≠ n := fun e => h3 (List.mem_map.2 ⟨x, hx, e⟩)
    simp [tstP, this]
  unfold useK; rw [h2]
theorem use_cloP {l : List Pr} {rows : List (List Value)} {n b : Nat} {A : Mem} (hR : RwL prR A rows l) (hb : (b, blk [.int .u32 ((n : Nat) : Int)] 22) ∈ A) :
    ∀ (j : Nat) (r : List Value), rows[j]? = some r → FnV Tryz.prog 62 (.agg r.toArray :: [.pointer (some ⟨b, 0, none⟩)]) A (.bool ((fun j => (l[j]?.map (tstP n)).getD false) j)) := fun j r hr => by
  obtain ⟨x, hx, vs, vg, rfl, hs, hg, _⟩ := hR.of hr
  dsimp only
  rw [hx]
  exact usec_spec vs vg x n b _ hs hg hb
def secL (k : Ks) : List (List Nat) := k.agree :: k.sign :: (k.signed ++ k.once).map (·.sec)

theorem use_f (kb : Nat) (k : Ks) (n : Nat) (MK A : Mem) (hK : Kys A kb k MK) (hrise : Rise k.once) : FnX Tryz.prog 20 [.pointer (some ⟨kb, 0, none⟩), .int .u32 ((n : Nat) : Int)] MK A fun q M J => q = .bool (getP k.once n).isSome ∧ Kys (J ++ A) kb (useK k n) M := by
 obtain ⟨va, vg, vq, vo, vm, rs, ro, rm, Bs, Bo, Bm, rfl, ⟨hva, hvg, hss, hrs, hso, hro, hsm, hrm, hn1, hn2, hn3, hn4⟩, hr⟩ := hK.ex2
 haveI := hva.cel
 haveI := hvg.cel
 haveI := hss.cel
 haveI := hso.cel
 haveI := hsm.cel
 refine FnX.enterZ (N := 24) Tryz.func20 rfl rfl rfl fun w_ => ?_
 refine XC.keep (kq 0 (kq 1 kn)) ?_
 refine XC.reg ?_
 refine XL.lo rfl (bx_ fun b3 => ?_)
 refine as_ ?_
 refine XL.fin (kq 0 (kq 3 kn)) ?_
 refine XC.seq ?_
 refine XC.reg ?_
 refine mv_ ?_
 refine XL.q ql_ rfl ?_
 refine XL.call (aS rfl (aS rfl a0)) (by kernel_rfl) (once_f kb k va vg vq vo vm rs ro rm n _ (hr _ SubC.sub SubC.sub) hrise) rfl ?_
 rintro v10 M10 J10 ⟨rfl, q, rfl, hq⟩
 haveI := hq.cel
 refine mv_ ?_
 refine XL.q (q_x0 rfl) rfl ?_
 refine XL.q (q_x1 rfl) rfl ?_
 refine as_ (as_ ?_)
 refine XL.fin (kq 0 (kq 3 (kq 6 kn))) ?_
 cases hg : (getP k.once n).isSome
 ·
  refine XC.reg ?_
  refine mv_ ?_
  refine XL.q (q_not rfl) rfl ?_
  refine XL.fin (kq 0 (kq 3 (kq 14 kn))) ?_
  refine XC.condT rfl ?_
  refine XC.reg ?_
  refine as_ ?_
  refine XL.fin (kq 4 kn) ?_
  refine XC.ret ?_
  refine tr ?_
  exact ⟨_, (kb, blk [.int .i64 k.user, .int .i64 k.dev, va, vg, vq, vo, .int .u32 ((k.next : Nat) : Int), vm] 96) :: (Bs ++ (Bo ++ Bm)), [], res1 rfl rfl, Fit.none (Fit.pick (B := [_]) PickC.perm (Fit.last PickC.perm)), rfl, by rw [useK_no hg]; exact ⟨⟨va, vg, vq, vo, vm, rs, ro, rm, Bs, Bo, Bm, rfl, hva.mono SubC.sub, hvg.mono SubC.sub, hss, hrs.mono prT SubC.sub, hso, hro.mono prT SubC.sub, hsm, hrm.mono nmT SubC.sub, hn1, hn2, hn3, hn4⟩⟩⟩
 ·
  refine XC.reg ?_
  refine mv_ ?_
  refine XL.q (q_not rfl) rfl ?_
  refine XL.fin (kq 0 (kq 3 (kq 14 kn))) ?_
  refine XC.condF rfl ?_
  refine XC.skip ?_
  refine nx (kq 0 (kq 3 kn)) ?_
  refine XC.reg ?_
  refine mv_ (mv_ ?_)
  refine XL.q (q_nil rfl) rfl ?_
  refine XL.q (qf_ 5 5) rfl ?_
  refine XL.q ql_ rfl ?_
  refine XL.q (q_mkFunc (aS rfl a0)) rfl ?_
  refine XL.lo rfl (l_call (Mc := Bo) (R := _) (aS rfl (aS rfl a0)) (by kernel_rfl) PickC.perm (by rw [← hro.len] at hso; exact delfn_Pair vo ro 62 [.pointer (some ⟨b3, 0, none⟩)] (fun j => (k.once[j]?.map (tstP n)).getD false) Bo _ hso (hro.lens prT) (hro.ones prT) (by rw [hro.len]; omega) (by kernel_rfl) (use_cloP (hro.mono prT SubC.sub) At.mem)) rfl ?_)
  rintro v21 M21 J21 h21
  haveI := h21.cel
  refine XL.q (q_nil rfl) rfl ?_
  refine XL.q (qf_ 5 5) rfl ?_
  refine XL.lo rfl (l_store rfl rfl h21.one (by kernel_rfl) SetC.set UpC.upd ?_)
  refine XL.fin kn ?_
  refine XC.reg ?_
  refine as_ ?_
  refine XL.fin (kq 4 kn) ?_
  refine XC.ret ?_
  have hkm := hro.kpt (fun j => (k.once[j]?.map (tstP n)).getD false) ro.length
  rw [kpt_filter, hro.len, List.take_length] at hkm
  rw [hro.len] at h21
  have hkl : (k.once.filter fun x => !tstP n x).length ≤ 100 := Nat.le_trans (List.length_filter_le _ _) hn3
  refine ⟨_, (kb, blk [.int .i64 k.user, .int .i64 k.dev, va, vg, vq, v21, .int .u32 ((k.next : Nat) : Int), vm] 96) :: (Bs ++ (M21 ++ Bm)), [], res1 rfl rfl, Fit.none (Fit.pick (B := [_]) PickC.perm (Fit.pick PickC.perm (Fit.pick PickC.perm (Fit.last PickC.perm)))), rfl, ⟨⟨va, vg, vq, v21, vm, rs, _, rm, Bs, M21, Bm, rfl, hva.mono SubC.sub, hvg.mono SubC.sub, hss, hrs.mono prT SubC.sub, ?_, hkm.mono prT SubC.sub, hsm, hrm.mono nmT SubC.sub, hn1, hn2, hkl, hn4⟩⟩⟩
  rw [hkm.len] at h21
  exact h21

end Go.Proofs.YtphcaiplgpmnnaaGreatDoor
/- Numbers of keys; the walks of who, open, awake. -/
namespace Go.Proofs.YtphcaiplgpmnnaaGreatDoor
open Go.Px
def snN (k : Ks) : List Nat := k.signed.map (·.n)
def onN (k : Ks) : List Nat := k.once.map (·.n)
theorem turn_sn (k : Ks) (s : Ps) : snN (turnK k s).1 = (k.next :: snN k).take 2 := by
  show List.map (fun x : Pr => x.n) ((turnP k s :: k.signed).take 2) = _
  rw [List.map_take]; rfl
theorem turn_on (k : Ks) (s : Ps) : onN (turnK k s).1 = onN k := rfl
theorem fillI_on (k : Ks) (s : Ps) : ∀ i, onN (fillI k s i).1 = onN k ++ (List.range i).map (k.next + ·)
  | 0 => by simp [fillI]
  | i + 1 => by
    have h := fillI_on k s i
    have hn := fillI_next k s i
    show List.map (fun x : Pr => x.n) ((fillI k s i).1.once ++ [_]) = _
    unfold onN at h ⊢
    rw [List.map_append, h, List.range_succ, List.map_append, ← List.append_assoc]
    simp [hn]
theorem fill_on (k : Ks) (s : Ps) : onN (fillK k s).1 = onN k ++ (List.range (4 - k.once.length)).map (k.next + ·) := fillI_on k s _
theorem fill_eq (k : Ks) (s : Ps) : (fillK k s).1 = { k with once := (fillK k s).1.once, next := k.next + (4 - k.once.length) } := fillI_eq k s _
theorem fill_sn (k : Ks) (s : Ps) : snN (fillK k s).1 = snN k := by rw [fill_eq]; rfl
theorem use_on (k : Ks) (n : Nat) : onN (useK k n) = (onN k).filter fun m => !decide (m = n) := by
  show (k.once.filter _).map _ = _
  unfold onN tstP
  rw [List.filter_map]; rfl
theorem new_sn (u d : Int) (s : Ps) : snN (newK u d s).1 = [1] := by
  unfold newK; rw [fill_sn, turn_sn]; rfl
theorem new_on (u d : Int) (s : Ps) : onN (newK u d s).1 = [2, 3, 4, 5] := by
  unfold newK; rw [fill_on, turn_on]; rfl
theorem new_who (u d : Int) (s : Ps) : (newK u d s).1.user = u ∧ (newK u d s).1.dev = d := by
  unfold newK; rw [fill_eq]; exact ⟨rfl, rfl⟩
theorem sn_len (k : Ks) : (snN k).length = k.signed.length := List.length_map ..
theorem on_len (k : Ks) : (onN k).length = k.once.length := List.length_map ..
/-- Prekeys are in a rising row just if their numbers are. -/
theorem rise_of {l : List Pr} (h : (l.map (·.n)).Pairwise (· < ·)) : Rise l := by
  intro i j x y hij hx hy
  have h1 := List.pairwise_iff_getElem.1 h i j (by rw [List.length_map]; exact (List.getElem?_eq_some_iff.1 hx).1) (by rw [List.length_map]; exact (List.getElem?_eq_some_iff.1 hy).1) hij
  obtain ⟨hi, ei⟩ := List.getElem?_eq_some_iff.1 hx
  obtain ⟨hj, ej⟩ := List.getElem?_eq_some_iff.1 hy
  simp only [List.getElem_map, ei, ej] at h1
  exact h1
theorem bunI_get0 {b : Bn} {l : List Pr} {s : Ps} : ∀ {i : Nat}, i ≤ l.length → (bunI b l s i).1[0]? = some b
  | 0, _ => rfl
  | i + 1, h => by
    rw [bunI_succ (List.getElem?_eq_getElem (by omega))]
    have h1 := (bunI_len (b := b) (s := s) (l := l) (i := i) (by omega)).1
    show (_ ++ _)[0]? = _
    rw [List.getElem?_append_left (by omega)]
    exact bunI_get0 (by omega)
theorem bunI_get {b : Bn} {l : List Pr} {s : Ps} {j : Nat} {o : Pr} (ho : l[j]? = some o) : ∀ {i : Nat}, i ≤ l.length → j < i → (bunI b l s i).1[j + 1]? = some { b with has := true, once := o.n, oncek := pubK2 (bunI b l s j).2 o.sec }
  | 0, _, hj => by omega
  | i + 1, h, hj => by
    obtain ⟨x, hx⟩ : ∃ x, l[i]? = some x := ⟨_, List.getElem?_eq_getElem (by omega)⟩
    rw [bunI_succ hx]
    have h1 := (bunI_len (b := b) (s := s) (l := l) (i := i) (by omega)).1
    show (_ ++ _)[j + 1]? = _
    by_cases e : j = i
    · subst e
      rw [hx] at ho
      cases ho
      rw [List.getElem?_append_right (by omega), h1, Nat.sub_self]; rfl
    · rw [List.getElem?_append_left (by omega)]
      exact bunI_get ho (by omega) (by omega)
/-- What the bundles of some keys are. -/
theorem bunK_facts {k : Ks} {s : Ps} {x : Pr} {sl : List Pr} (h : k.signed = x :: sl) : (bunK k s).1.length = k.once.length + 1 ∧ (bunK k s).1[0]? = some (bunB k x s) ∧ (∀ (j : Nat) (o : Pr), k.once[j]? = some o → (bunK k s).1[j + 1]? = some { bunB k x s with has := true, once := o.n, oncek := pubK2 (bunI (bunB k x s) k.once (pubS2 (idS k s) x.sec) j).2 o.sec }) ∧ (bunK k s).2.ts.length ≤ s.ts.length + 6 + 2 * k.once.length := by
  have e : bunK k s = bunI (bunB k x s) k.once (pubS2 (idS k s) x.sec) k.once.length := by unfold bunK; rw [h]
  rw [e]
  have h1 := bunI_len (b := bunB k x s) (s := pubS2 (idS k s) x.sec) (l := k.once) (Nat.le_refl _)
  have h2 := idS_len k s
  have h3 := pubS2_len (idS k s) x.sec
  exact ⟨h1.1, bunI_get0 (Nat.le_refl _), fun j o ho => bunI_get ho (Nat.le_refl _) (List.getElem?_eq_some_iff.1 ho).1, by omega⟩
theorem md_mod (m : Nat) : ((m % 2 : Nat) : Int) = md (m % 2 == 0) := by
  rcases (by omega : m % 2 = 0 ∨ m % 2 = 1) with h | h <;> rw [h] <;> rfl
def opK (m : Nat) : Ps := ⟨m % 2 == 0, [107, 101, 121, 115], 0, []⟩

theorem who12_f (a b : Nat) (A : Mem) (ha : a < 256) (hb : b < 256) : FnV Tryz.prog 17 [.int .u8 ((a : Nat) : Int), .int .u8 ((b : Nat) : Int)] A (.agg #[.int .i64 ((a % 8 : Nat) : Int), .int .i64 ((b : Nat) : Int)]) := by
 refine FnX.enter (N := 11) Tryz.func17 rfl rfl rfl fun w => ?_
 refine XC.keep (kq 0 (kq 1 kn)) ?_
 refine XC.reg ?_
 refine XL.lo rfl (l_alloc (cs := [.int .i64 0, .int .i64 0]) (by kernel_rfl) rfl fun b4 => ?_)
 refine XL.fin (kq 0 (kq 1 (kq 4 kn))) ?_
 refine XC.reg ?_
 refine mv_ ?_
 refine XL.q (q_remI (a := a) (b := 8) rfl rfl rfl rfl (by decide)) rfl ?_
 refine XL.q (q_same (k' := .i64) rfl (by kernel_rfl) (by show _ < 9223372036854775808; omega)) rfl ?_
 refine mv_ ?_
 refine XL.q (q_same (k' := .i64) rfl (by kernel_rfl) (by show _ < 9223372036854775808; omega)) rfl ?_
 refine XL.q (q_build (place := fun x => #[(0, 1), (1, 1)][x]?) (z := [.int .i64 0, .int .i64 0]) (fun _ => by kernel_rfl) (eS rfl (eS rfl e0)) (bdS 0 1 rfl (by rfl) (bdS 1 1 rfl (by rfl) bd0))) rfl ?_
 refine XL.lo rfl (l_storeW rfl rfl Cel.cel (by kernel_rfl) (lnS (lnS (ln0))) (allS rfl (allS rfl (all0))) UpC.upd ?_)
 refine XL.fin (kq 4 kn) ?_
 refine XC.ret ?_
 exact ⟨_, [], [], resC rfl rfl (by kernel_rfl) At.mem (by rfl), List.nil_sublist _, by simp, rfl, rfl, rfl⟩

theorem open12_f (m : Nat) (u d : Int) (A : Mem) (hm : m < 256) (hG : Glb A) : FnX Tryz.prog 16 [.int .u8 ((m : Nat) : Int), .agg #[.int .i64 u, .int .i64 d]] [] A fun q M J => ∃ pb kb MK MP, q = .tuple #[.pointer (some ⟨pb, 0, none⟩), .pointer (some ⟨kb, 0, none⟩)] ∧ M = MK ++ MP ∧ Kys (J ++ A) kb (newK u d (opK m)).1 MK ∧ Prm pb (newK u d (opK m)).2 MP := by
 refine FnX.enterZ (N := 22) Tryz.func16 rfl rfl rfl fun w_ => ?_
 refine XC.keep (kq 0 (kq 1 kn)) ?_
 refine XC.reg ?_
 refine XL.lo rfl (bx_ fun b3 => ?_)
 refine as_ (as_ ?_)
 refine XL.fin (kq 0 (kq 3 kn)) ?_
 refine XC.reg ?_
 refine mv_ ?_
 refine XL.q (q_remI (a := m) (b := 2) rfl rfl rfl rfl (by decide)) rfl ?_
 rw [md_mod m]
 refine XL.lo rfl (l_buildSlice (e := 5) (sz := 1) (z := [.int .u8 0, .int .u8 0, .int .u8 0, .int .u8 0]) (by kernel_rfl) (eS rfl (eS rfl (eS rfl (eS rfl e0)))) (bdS 0 1 rfl (by rfl) (bdS 1 1 rfl (by rfl) (bdS 2 1 rfl (by rfl) (bdS 3 1 rfl (by rfl) bd0)))) rfl fun b11 => ?_)
 refine XL.lo rfl (l_mark rfl (by kernel_rfl) UpC.upd rfl ?_)
 refine XL.frz (B := [_]) (PickC.sing).perm ?_
 refine XL.call (aS rfl (aS rfl a0)) (by kernel_rfl) (pnew_spec (m % 2 == 0) _ [107, 101, 121, 115] _ ⟨Rd.whole (n := 4) (At.mem) (by rfl), by decide, by decide⟩) rfl ?_
 rintro v13 MP J13 ⟨pb, rfl, hP⟩
 refine mv_ ?_
 refine XL.q (q_x0 rfl) rfl ?_
 refine XL.q (q_x1 rfl) rfl ?_
 refine as_ (as_ ?_)
 refine XL.fin (kq 3 (kq 6 (kq 7 kn))) ?_
 refine XC.seq ?_
 refine XC.reg ?_
 refine mv_ ?_
 refine XL.q (q_cmp false rfl rfl (neF rfl)) rfl ?_
 refine XL.fin (kq 3 (kq 6 (kq 17 kn))) ?_
 refine XC.condF rfl ?_
 refine XC.skip ?_
 refine nx (kq 3 (kq 6 kn)) ?_
 refine XC.reg ?_
 refine mv_ (mv_ ?_)
 refine XL.q (qw_ 2) rfl ?_
 refine XL.lo rfl (l_call (Mc := MP) (R := _) (aS rfl (aS rfl a0)) (by kernel_rfl) PickC.perm (new_f u d pb (opK m) MP _ hP (show 0 + 200 ≤ 1048576 by decide) (show 0 + 100 < 1000000000 by decide) hG.up) rfl ?_)
 rintro v21 M21 J21 ⟨kb, MK, MP2, rfl, rfl, hK, hP2⟩
 refine as_ (as_ ?_)
 refine XL.fin (kq 4 (kq 5 kn)) ?_
 refine XC.ret ?_
 exact ⟨_, MK ++ MP2, [(b3, blk [.int .i64 u, .int .i64 d] 35)], res2 rfl rfl rfl, Fit.pick (B := [_]) PickC.perm (Fit.last PickC.perm), pb, kb, MK, MP2, rfl, rfl, hK.mono SubC.sub, hP2⟩

theorem awake12_f (A : Mem) (hG : Glb A) : FnV Tryz.prog 12 [] A (.bool true) := by
 refine FnX.enter (N := 51) Tryz.func12 rfl rfl rfl fun w => ?_
 refine XC.keep kn ?_
 refine XC.reg ?_
 refine as_ ?_
 refine XL.fin kn ?_
 refine XC.reg ?_
 refine XL.callV (aS rfl (aS rfl a0)) (by kernel_rfl) (who12_f 1 2 _ (by decide) (by decide)) rfl ?_
 refine XL.call (aS rfl (aS rfl a0)) (by kernel_rfl) (open12_f 1 _ _ _ (by decide) hG.up) rfl ?_
 rintro v6 M6 J6 ⟨pb, kb, MK, MP, rfl, rfl, hK, hP⟩
 have hns := newK_ps (((1 % 8 : Nat)) : Int) ((2 : Nat) : Int) (opK 1)
 have hnsn := new_sn (((1 % 8 : Nat)) : Int) ((2 : Nat) : Int) (opK 1)
 have hnon := new_on (((1 % 8 : Nat)) : Int) ((2 : Nat) : Int) (opK 1)
 have hop : (opK 1).ts.length = 0 := rfl
 generalize (newK (((1 % 8 : Nat)) : Int) ((2 : Nat) : Int) (opK 1)).1 = k at *
 generalize (newK (((1 % 8 : Nat)) : Int) ((2 : Nat) : Int) (opK 1)).2 = s at *
 obtain ⟨va, vg, vs_, vo, vm, rs, ro, rm, hr⟩ := hK.r
 have hol := on_len k
 rw [hnon] at hol
 obtain ⟨x, sl, hsg, hxn⟩ : ∃ x sl, k.signed = x :: sl ∧ x.n = 1 := by
  unfold snN at hnsn
  cases hs : k.signed with
  | nil => rw [hs] at hnsn; cases hnsn
  | cons x sl => rw [hs] at hnsn; exact ⟨x, sl, rfl, (List.cons.inj hnsn).1⟩
 refine mv_ ?_
 refine XL.q (q_x0 rfl) rfl ?_
 refine XL.q (q_x1 rfl) rfl ?_
 refine as_ (as_ ?_)
 refine XL.fin (kq 1 (kq 2 kn)) ?_
 refine XC.seq ?_
 refine XC.reg ?_
 refine mv_ ?_
 refine XL.q (q_ptrEqNil (e := 96) rfl rfl (by kernel_rfl)) rfl ?_
 refine XL.fin (kq 1 (kq 2 (kq 10 kn))) ?_
 refine XC.condF rfl ?_
 refine XC.skip ?_
 refine nx (kq 1 (kq 2 kn)) ?_
 refine XC.reg ?_
 refine mv_ (mv_ ?_)
 refine XL.lo rfl (l_call (Mc := MP) (R := _) (aS rfl (aS rfl a0)) (by kernel_rfl) PickC.perm (bundles_f pb s kb k va vg vs_ vo vm rs ro rm x sl MP _ (hr _ SubC.sub SubC.sub) hsg hP (by omega) (by rw [← hol]; decide) hG.up) rfl ?_)
 rintro v13 M13 J13 ⟨hP13, rows, hrd, hrw⟩
 haveI := hrd.cel
 obtain ⟨hbl, hb0, hbj, -⟩ := bunK_facts (s := s) hsg
 rw [← hol] at hbl
 have hog : ∀ (j n : Nat), [2, 3, 4, 5][j]? = some n → ∃ o, k.once[j]? = some o ∧ o.n = n := fun j n h => by
  rw [← hnon] at h
  unfold onN at h
  rw [List.getElem?_map] at h
  cases ho : k.once[j]? with
  | none => rw [ho] at h; cases h
  | some o => rw [ho] at h; exact ⟨o, rfl, Option.some.inj h⟩
 obtain ⟨o0, ho0, hn0⟩ := hog 0 2 rfl
 obtain ⟨o3, ho3, hn3⟩ := hog 3 5 rfl
 have hb1 := hbj 0 o0 ho0
 have hb4 := hbj 3 o3 ho3
 obtain ⟨r0, hr0, a1, a2, a3, a4, a5, rfl, -⟩ := hrw.get 0 _ hb0
 obtain ⟨r1, hr1, c1, c2, c3, c4, c5, rfl, -⟩ := hrw.get 1 _ hb1
 obtain ⟨r4, hr4, d1, d2, d3, d4, d5, rfl, -⟩ := hrw.get 4 _ hb4
 dsimp only [bunB] at hr0 hr1 hr4
 rw [hxn] at hr0 hr1 hr4
 rw [hn0] at hr1
 rw [hn3] at hr4
 refine as_ ?_
 refine XL.fin (kq 3 kn) ?_
 refine XC.reg ?_
 refine mv_ ?_
 refine XL.q (q_lenV2 (sz := 10) rfl (by kernel_rfl) hrd) rfl ?_
 rw [hbl]
 refine XL.q (q_cmp true rfl rfl (eqT rfl)) rfl ?_
 refine mv_ ?_
 refine XL.gy rfl rfl (OpQ.opL qm_ rfl ?_)
 refine XL.gy rfl rfl (OpQ.opL (q_atV2 (sz := 10) (a := 0) rfl rfl (by kernel_rfl) rfl hrd (by rw [hbl]; decide)) rfl ?_)
 refine XL.gy rfl rfl (OpQ.opL (q_fldV (off := 4) rfl hrd (by rw [hbl]; decide) (by kernel_rfl)) rfl ?_)
 refine XL.gy rfl rfl (OpQ.opL (q_ldVF (u := .int .u32 ((1 : Nat) : Int)) rfl (hrd.mono SubC.sub) (by omega) (by kernel_rfl) (by rw [flat_get (hrw.lens bnT) hr0 4 (by decide)]; rfl)) rfl ?_)
 refine XL.gy rfl rfl (OpQ.opL (q_cmp true rfl rfl (eqT rfl)) rfl ?_)
 refine XL.q (q_pickT rfl rfl) rfl ?_
 refine mv_ ?_
 refine XL.gy rfl rfl (OpQ.opL qm_ rfl ?_)
 refine XL.gy rfl rfl (OpQ.opL (q_atV2 (sz := 10) (a := 0) rfl rfl (by kernel_rfl) rfl hrd (by rw [hbl]; decide)) rfl ?_)
 refine XL.gy rfl rfl (OpQ.opL (q_fldV (off := 7) rfl hrd (by rw [hbl]; decide) (by kernel_rfl)) rfl ?_)
 refine XL.gy rfl rfl (OpQ.opL (q_ldVF (u := .bool false) rfl (hrd.mono SubC.sub) (by omega) (by kernel_rfl) (by rw [flat_get (hrw.lens bnT) hr0 7 (by decide)]; rfl)) rfl ?_)
 refine XL.gy rfl rfl (OpQ.opL (q_not rfl) rfl ?_)
 refine XL.q (q_pickT rfl rfl) rfl ?_
 refine mv_ ?_
 refine XL.gy rfl rfl (OpQ.opL qm_ rfl ?_)
 refine XL.gy rfl rfl (OpQ.opL (q_atV2 (sz := 10) (a := 1) rfl rfl (by kernel_rfl) rfl hrd (by rw [hbl]; decide)) rfl ?_)
 refine XL.gy rfl rfl (OpQ.opL (q_fldV (off := 7) rfl hrd (by rw [hbl]; decide) (by kernel_rfl)) rfl ?_)
 refine XL.gy rfl rfl (OpQ.opL (q_ldVF (u := .bool true) rfl (hrd.mono SubC.sub) (by omega) (by kernel_rfl) (by rw [flat_get (hrw.lens bnT) hr1 7 (by decide)]; rfl)) rfl ?_)
 refine XL.q (q_pickT rfl rfl) rfl ?_
 refine mv_ ?_
 refine XL.gy rfl rfl (OpQ.opL qm_ rfl ?_)
 refine XL.gy rfl rfl (OpQ.opL (q_atV2 (sz := 10) (a := 1) rfl rfl (by kernel_rfl) rfl hrd (by rw [hbl]; decide)) rfl ?_)
 refine XL.gy rfl rfl (OpQ.opL (q_fldV (off := 8) rfl hrd (by rw [hbl]; decide) (by kernel_rfl)) rfl ?_)
 refine XL.gy rfl rfl (OpQ.opL (q_ldVF (u := .int .u32 ((2 : Nat) : Int)) rfl (hrd.mono SubC.sub) (by omega) (by kernel_rfl) (by rw [flat_get (hrw.lens bnT) hr1 8 (by decide)]; rfl)) rfl ?_)
 refine XL.gy rfl rfl (OpQ.opL (q_cmp true rfl rfl (eqT rfl)) rfl ?_)
 refine XL.q (q_pickT rfl rfl) rfl ?_
 refine mv_ ?_
 refine XL.gy rfl rfl (OpQ.opL qm_ rfl ?_)
 refine XL.gy rfl rfl (OpQ.opL (q_atV2 (sz := 10) (a := 4) rfl rfl (by kernel_rfl) rfl hrd (by rw [hbl]; decide)) rfl ?_)
 refine XL.gy rfl rfl (OpQ.opL (q_fldV (off := 8) rfl hrd (by rw [hbl]; decide) (by kernel_rfl)) rfl ?_)
 refine XL.gy rfl rfl (OpQ.opL (q_ldVF (u := .int .u32 ((5 : Nat) : Int)) rfl (hrd.mono SubC.sub) (by omega) (by kernel_rfl) (by rw [flat_get (hrw.lens bnT) hr4 8 (by decide)]; rfl)) rfl ?_)
 refine XL.gy rfl rfl (OpQ.opL (q_cmp true rfl rfl (eqT rfl)) rfl ?_)
 refine XL.q (q_pickT rfl rfl) rfl ?_
 refine as_ ?_
 refine XL.fin (kq 0 kn) ?_
 refine XC.ret ?_
 exact ⟨_, [], [], res1 rfl rfl, List.nil_sublist _, by simp, rfl, rfl, rfl⟩

end Go.Proofs.YtphcaiplgpmnnaaGreatDoor
/- What was made of keys is made of them again, in both modes: what a state behind it answers. -/
namespace Go.Proofs.YtphcaiplgpmnnaaGreatDoor
open Go.Px
/-- A state behind another one: of the same seed, too. -/
structure Ext (s s' : Ps) : Prop where
  p : Pext s s'
  seed : s'.seed = s.seed
  n : s.n ≤ s'.n
theorem Ext.refl (s : Ps) : Ext s s := ⟨Pext.refl s, rfl, Nat.le_refl _⟩
theorem Ext.trans {a b c : Ps} (h : Ext a b) (h' : Ext b c) : Ext a c := ⟨h.p.trans h'.p, h'.seed.trans h.seed, Nat.le_trans h.n h'.n⟩
theorem add_pre (ts : List Tm) (t : Tm) : ∃ l, add ts t = ts ++ l := by
  unfold add
  split
  · exact ⟨[], by simp⟩
  · exact ⟨_, rfl⟩
theorem rdT_pre (ts : List Tm) (w : List Nat) : ∃ l, rdT ts w = ts ++ l := by
  cases hp : plc w ts.length with
  | some j => exact ⟨[], by rw [(rdT_some hp).1]; simp⟩
  | none => rw [(rdT_none hp).1]; exact add_pre _ _
theorem radd_pre (ts : List Tm) (w : List Nat) (t : Tm) : ∃ l, add (rdT ts w) t = ts ++ l := by
  obtain ⟨l1, e1⟩ := rdT_pre ts w
  obtain ⟨l2, e2⟩ := add_pre (rdT ts w) t
  exact ⟨l1 ++ l2, by rw [e2, e1, List.append_assoc]⟩
theorem fresh_ex (s : Ps) : Ext s (freshS s) := ⟨fresh_ext s, by unfold freshS; split <;> rfl, by unfold freshS; split <;> exact Nat.le_succ _⟩
theorem pub_ex (s : Ps) (w : List Nat) : Ext s (pubS2 s w) := by
  unfold pubS2
  split
  · exact Ext.refl s
  · exact ⟨⟨rfl, radd_pre _ _ _⟩, rfl, Nat.le_refl _⟩
theorem sgn_ex (s : Ps) (w m : List Nat) : Ext s (sgS2 s w m) := by
  unfold sgS2
  split
  · exact Ext.refl s
  · exact ⟨⟨rfl, radd_pre _ _ _⟩, rfl, Nat.le_refl _⟩
theorem pub_t {s : Ps} {i : Nat} (hi : i < s.ts.length) (hl : s.ts.length ≤ 1048576) : pubS s (bts ((i : Nat) : Int)) = { s with ts := add s.ts (pubT ((i : Nat) : Int)) } ∧ pubK s (bts ((i : Nat) : Int)) = bts ((at_ s.ts (pubT ((i : Nat) : Int)) : Nat) : Int) := by
  obtain ⟨h1, h2⟩ := good_rd hi hl
  unfold pubS pubK
  rw [h1, h2]
  exact ⟨rfl, rfl⟩
theorem one_t {s : Ps} {i : Nat} (hi : i < s.ts.length) (hl : s.ts.length ≤ 1048576) (f : Int → Tm) : one1 s (bts ((i : Nat) : Int)) f = { s with ts := add s.ts (f ((i : Nat) : Int)) } ∧ oneK s (bts ((i : Nat) : Int)) f = bts ((at_ s.ts (f ((i : Nat) : Int)) : Nat) : Int) := by
  obtain ⟨h1, h2⟩ := good_rd hi hl
  unfold one1 oneK
  rw [h1, h2]
  exact ⟨rfl, rfl⟩
theorem i64_nat {i : Nat} (h : i ≤ 1048576) : i64 ((i : Nat) : Int) := by unfold i64; omega
/-- Of a secret key this is public. -/
def PubT (s : Ps) (w p : List Nat) : Prop := ∃ i j : Nat, i < s.ts.length ∧ w = bts ((i : Nat) : Int) ∧ s.ts[j]? = some (pubT ((i : Nat) : Int)) ∧ p = bts ((j : Nat) : Int)
def PubAt (s : Ps) (w p : List Nat) : Prop := if s.real then p = base25 (fitN w 32) else PubT s w p
def SkAt (s : Ps) (w p : List Nat) : Prop := if s.real then p = pubB (fitN w 32) else PubT s w p
def SigAt (s : Ps) (w m g : List Nat) : Prop := if s.real then g = sigB (fitN w 32) m else ∃ i j : Nat, i < s.ts.length ∧ w = bts ((i : Nat) : Int) ∧ s.ts[j]? = some (sigT ((i : Nat) : Int) m) ∧ g = fitN (bts ((j : Nat) : Int)) 64
theorem PubT.ext {s s' : Ps} {w p : List Nat} (h : PubT s w p) (he : Pext s s') : PubT s' w p := by
  obtain ⟨l, e⟩ := he.ts
  obtain ⟨i, j, h1, h2, h3, h4⟩ := h
  exact ⟨i, j, by rw [e, List.length_append]; omega, h2, by rw [e]; exact ext_at h3, h4⟩
theorem PubAt.ext {s s' : Ps} {w p : List Nat} (h : PubAt s w p) (he : Pext s s') : PubAt s' w p := by
  unfold PubAt at *
  rw [he.real]
  split
  · rename_i hr; rwa [if_pos hr] at h
  · rename_i hr; rw [if_neg hr] at h; exact h.ext he
theorem SkAt.ext {s s' : Ps} {w p : List Nat} (h : SkAt s w p) (he : Pext s s') : SkAt s' w p := by
  unfold SkAt at *
  rw [he.real]
  split
  · rename_i hr; rwa [if_pos hr] at h
  · rename_i hr; rw [if_neg hr] at h; exact h.ext he
theorem SigAt.ext {s s' : Ps} {w m g : List Nat} (h : SigAt s w m g) (he : Pext s s') : SigAt s' w m g := by
  unfold SigAt at *
  rw [he.real]
  split
  · rename_i hr; rwa [if_pos hr] at h
  · rename_i hr
    rw [if_neg hr] at h
    obtain ⟨l, e⟩ := he.ts
    obtain ⟨i, j, h1, h2, h3, h4⟩ := h
    exact ⟨i, j, by rw [e, List.length_append]; omega, h2, by rw [e]; exact ext_at h3, h4⟩
theorem pubT_at {s : Ps} {w : List Nat} (h : Good s.ts w) (ht : Tok s.ts) (hl : s.ts.length ≤ 1048576) : PubT (pubS s w) w (pubK s w) ∧ Tok (pubS s w).ts := by
  obtain ⟨i, hi, rfl⟩ := h
  obtain ⟨e1, e2⟩ := pub_t hi hl
  obtain ⟨l, g1, g2, g3, g4⟩ := pfact (pub_ok (i64_nat (show i ≤ 1048576 by omega))) ht
  rw [e1, e2]
  exact ⟨⟨i, _, by show i < (add s.ts _).length; rw [g1, List.length_append]; omega, rfl, g3, rfl⟩, g4⟩
theorem pub_at {s : Ps} {w : List Nat} (h : Kok s w) (ht : Tok s.ts) (hl : s.ts.length ≤ 1048576) : PubAt (pubS2 s w) w (pubK2 s w) ∧ SkAt (pubS2 s w) w (skK2 s w) ∧ Tok (pubS2 s w).ts := by
  unfold PubAt SkAt pubS2 pubK2 skK2
  cases hr : s.real with
  | true => simp [hr, ht]
  | false =>
    obtain ⟨h1, h2⟩ := pubT_at (h hr) ht hl
    have h3 : (pubS s w).real = false := hr
    simp only [Bool.false_eq_true, if_false, h3]
    exact ⟨h1, h1, h2⟩
theorem PubT.eq {s : Ps} {w p : List Nat} (h : PubT s w p) (ht : Tok s.ts) (hl : s.ts.length ≤ 1048576) : pubS s w = s ∧ pubK s w = p := by
  obtain ⟨i, j, h1, rfl, h3, rfl⟩ := h
  obtain ⟨e1, e2⟩ := pub_t h1 hl
  obtain ⟨e3, e4⟩ := again ht h3
  rw [e1, e2, e3, e4]
  exact ⟨rfl, rfl⟩
theorem PubAt.eq {s : Ps} {w p : List Nat} (h : PubAt s w p) (ht : Tok s.ts) (hl : s.ts.length ≤ 1048576) : pubS2 s w = s ∧ pubK2 s w = p := by
  unfold PubAt at h
  unfold pubS2 pubK2
  cases hr : s.real with
  | true => rw [hr] at h; exact ⟨rfl, h.symm⟩
  | false => rw [hr] at h; exact PubT.eq h ht hl
theorem SkAt.eq {s : Ps} {w p : List Nat} (h : SkAt s w p) (ht : Tok s.ts) (hl : s.ts.length ≤ 1048576) : pubS2 s w = s ∧ skK2 s w = p := by
  unfold SkAt at h
  unfold pubS2 skK2
  cases hr : s.real with
  | true => rw [hr] at h; exact ⟨rfl, h.symm⟩
  | false => rw [hr] at h; exact PubT.eq h ht hl
theorem sigT_at {s : Ps} {i : Nat} {m : List Nat} (hi : i < s.ts.length) (ht : Tok s.ts) (hl : s.ts.length ≤ 1048576) (hm : ∀ y ∈ m, y < 256) (lm : m.length ≤ 16777216) : ∃ j, i < (one1 s (bts ((i : Nat) : Int)) fun x => sigT x m).ts.length ∧ (one1 s (bts ((i : Nat) : Int)) fun x => sigT x m).ts[j]? = some (sigT ((i : Nat) : Int) m) ∧ (oneK s (bts ((i : Nat) : Int)) fun x => sigT x m) = bts ((j : Nat) : Int) ∧ Tok (one1 s (bts ((i : Nat) : Int)) fun x => sigT x m).ts := by
  obtain ⟨e1, e2⟩ := one_t hi hl fun x => sigT x m
  have hT : Tmo (sigT ((i : Nat) : Int) m) := sig_ok (i64_nat (show i ≤ 1048576 by omega)) hm lm
  rw [e1, e2]
  generalize sigT ((i : Nat) : Int) m = t at *
  obtain ⟨l, g1, g2, g3, g4⟩ := pfact hT ht
  refine ⟨at_ s.ts t, ?_, g3, rfl, g4⟩
  show i < (add s.ts t).length
  rw [g1, List.length_append]; omega
theorem one1_real (s : Ps) (w : List Nat) (f : Int → Tm) : (one1 s w f).real = s.real := rfl
theorem SigAt.t {s : Ps} (h : s.real = true) {w m g : List Nat} : SigAt s w m g ↔ g = sigB (fitN w 32) m := by unfold SigAt; rw [if_pos h]
theorem SigAt.f {s : Ps} (h : s.real = false) {w m g : List Nat} : SigAt s w m g ↔ ∃ i j : Nat, i < s.ts.length ∧ w = bts ((i : Nat) : Int) ∧ s.ts[j]? = some (sigT ((i : Nat) : Int) m) ∧ g = fitN (bts ((j : Nat) : Int)) 64 := by unfold SigAt; rw [if_neg (by rw [h]; decide)]
theorem sgS2_t {s : Ps} (h : s.real = true) (w m : List Nat) : sgS2 s w m = s := by unfold sgS2; rw [if_pos h]
theorem sgS2_f {s : Ps} (h : s.real = false) (w m : List Nat) : sgS2 s w m = one1 s w fun x => sigT x m := by unfold sgS2; rw [if_neg (by rw [h]; decide)]
theorem sgK2_t {s : Ps} (h : s.real = true) (w m : List Nat) : sgK2 s w m = sigB (fitN w 32) m := by unfold sgK2; rw [if_pos h]
theorem sgK2_f {s : Ps} (h : s.real = false) (w m : List Nat) : sgK2 s w m = fitN (oneK s w fun x => sigT x m) 64 := by unfold sgK2; rw [if_neg (by rw [h]; decide)]
theorem sig_at {s : Ps} {w m : List Nat} (h : Kok s w) (ht : Tok s.ts) (hl : s.ts.length ≤ 1048576) (hm : ∀ y ∈ m, y < 256) (lm : m.length ≤ 16777216) : SigAt (sgS2 s w m) w m (sgK2 s w m) ∧ Tok (sgS2 s w m).ts := by
  cases hr : s.real with
  | true =>
    rw [sgS2_t hr, sgK2_t hr, SigAt.t hr]
    exact ⟨rfl, ht⟩
  | false =>
    obtain ⟨i, hi, e⟩ := h hr
    rw [sgS2_f hr, sgK2_f hr, e]
    obtain ⟨j, g1, g2, g3, g4⟩ := sigT_at hi ht hl hm lm
    rw [SigAt.f ((one1_real _ _ _).trans hr), g3]
    exact ⟨⟨i, j, g1, rfl, g2, rfl⟩, g4⟩
/-- What Check answers of terms. -/
def chkT (ts : List Tm) (p m g : List Nat) : Bool := decide (g.length = 64) && match plc g ts.length, plc p ts.length with
  | some i, some k => decide (p.length = 32) && match ts[i]?, ts[k]? with
    | some t, some u => decide (t.kind = 7) && decide (t.text = m) && decide (u.kind = 3) && decide (u.of.getD 0 0 = t.of.getD 0 0)
    | _, _ => false
  | _, _ => false
noncomputable def chkK (s : Ps) (p m g : List Nat) : Bool := if s.real then chkB p m g else chkT s.ts p m g
/-- Terms that are made of something are. -/
def Ar (ts : List Tm) : Prop := ∀ t ∈ ts, (t.kind = 3 ∨ t.kind = 6 ∨ t.kind = 7) → 0 < t.of.length
theorem plc_fit {i n : Nat} (h : i < n) (hn : n ≤ 1048576) : plc (fitN (bts ((i : Nat) : Int)) 64) n = some i := by
  have h1 := plc_bts ((i : Nat) : Int) n
  have e : u64 ((i : Nat) : Int) = i := by unfold u64; omega
  rw [e, if_pos h] at h1
  have hl : (bts ((i : Nat) : Int)).length = 32 := btk_len _ (by decide)
  have ef : fitN (bts ((i : Nat) : Int)) 64 = bts ((i : Nat) : Int) ++ List.replicate 32 0 := by unfold fitN; rw [List.take_of_length_le (by omega), hl]
  rw [ef]
  unfold plc at h1 ⊢
  have hle : ∀ k, k ≤ 8 → le8 (bts ((i : Nat) : Int) ++ List.replicate 32 0) k = le8 (bts ((i : Nat) : Int)) k := by
    intro k
    induction k with
    | zero => intro _; rfl
    | succ k ih =>
      intro hk
      unfold le8
      rw [ih (by omega)]
      congr 2
      rw [List.getD_eq_getElem?_getD, List.getD_eq_getElem?_getD, List.getElem?_append_left (by omega)]
  rw [hle 8 (Nat.le_refl _)]
  split at h1
  · rename_i hc
    obtain ⟨c1, c2, c3, c4⟩ := hc
    have c0 : ∀ c ∈ (bts ((i : Nat) : Int) ++ List.replicate 32 0).drop 9, c = 0 := fun c hc => by
      rw [List.drop_append_of_le_length (by omega)] at hc
      rcases List.mem_append.1 hc with hc | hc
      · exact c3 c hc
      · exact (List.mem_replicate.1 hc).2
    rw [if_pos ⟨by rw [List.length_append]; omega, by rw [List.getD_eq_getElem?_getD, List.getElem?_append_left (by omega), ← List.getD_eq_getElem?_getD]; exact c2, c0, c4⟩]
    exact h1
  · cases h1
theorem chk_at {s : Ps} {w p m g : List Nat} (hl : s.ts.length ≤ 1048576) (hp : SkAt s w p) (hg : SigAt s w m g) : chkK s p m g = true := by
  unfold SkAt at hp
  unfold SigAt at hg
  unfold chkK
  cases hr : s.real with
  | true =>
    rw [hr] at hp hg
    simp only [if_true] at hp hg ⊢
    rw [hp, hg]; exact chk_sig _ _
  | false =>
    rw [hr] at hp hg
    simp only [Bool.false_eq_true, if_false] at hp hg ⊢
    obtain ⟨i, j, h1, h2, h3, rfl⟩ := hp
    obtain ⟨i', j', h1', h2', h3', rfl⟩ := hg
    have e := bts_inj (by omega) (by omega) (h2.symm.trans h2')
    subst e
    have b1 := (List.getElem?_eq_some_iff.1 h3).1
    have b2 := (List.getElem?_eq_some_iff.1 h3').1
    have p1 := plc_fit b2 hl
    have p2 := plc_bts ((j : Nat) : Int) s.ts.length
    have e : u64 ((j : Nat) : Int) = j := by unfold u64; omega
    rw [e, if_pos b1] at p2
    have hbl : (bts ((j : Nat) : Int)).length = 32 := btk_len _ (by decide)
    unfold chkT
    rw [p1, p2, fitN_len]
    simp only [h3, h3', hbl]
    simp [sigT, pubT]
theorem Ar.nil : Ar [] := fun t h => by cases h
theorem Ar.add {ts : List Tm} (h : Ar ts) {t : Tm} (ht : (t.kind = 3 ∨ t.kind = 6 ∨ t.kind = 7) → 0 < t.of.length) : Ar (add ts t) := by
  unfold Go.Proofs.YtphcaiplgpmnnaaGreatDoor.add
  split
  · exact h
  · intro u hu
    rcases List.mem_append.1 hu with h1 | h1
    · exact h u h1
    · rw [List.mem_singleton.1 h1]; exact ht
theorem Ar.rd {ts : List Tm} (h : Ar ts) (w : List Nat) : Ar (rdT ts w) := by
  cases hp : plc w ts.length with
  | some j => rw [(rdT_some hp).1]; exact h
  | none => rw [(rdT_none hp).1]; exact h.add (by intro h; rcases h with h | h | h <;> cases h)
theorem Ar.fresh {s : Ps} (h : Ar s.ts) : Ar (freshS s).ts := by
  cases hr : s.real with
  | true => rw [freshS_t hr]; exact h
  | false => rw [freshS_f hr]; exact h.add (by intro h; rcases h with h | h | h <;> cases h)
theorem Ar.pub {s : Ps} (h : Ar s.ts) (w : List Nat) : Ar (pubS2 s w).ts := by
  unfold pubS2
  split
  · exact h
  · exact (h.rd w).add fun _ => Nat.one_pos
theorem Ar.sgn {s : Ps} (h : Ar s.ts) (w m : List Nat) : Ar (sgS2 s w m).ts := by
  unfold sgS2
  split
  · exact h
  · exact (h.rd w).add fun _ => Nat.one_pos

end Go.Proofs.YtphcaiplgpmnnaaGreatDoor
/- All secrets of keys are unlike; the walk of KeysSecrets. -/
namespace Go.Proofs.YtphcaiplgpmnnaaGreatDoor
open Go.Px
theorem turn_ex (k : Ks) (s : Ps) : Ext s (turnK k s).2 := ((fresh_ex s).trans (pub_ex _ _)).trans (sgn_ex _ _ _)
/-- The key that was made as the i-th one. -/
def Fr (s : Ps) (w : List Nat) (i : Nat) : Prop := if s.real then w = keyR s.seed i else ∃ j, s.ts[j]? = some (atom i) ∧ w = bts ((j : Nat) : Int)
/-- Secrets, each once, each made by the state. -/
structure Sok (L : List (List Nat)) (s : Ps) : Prop where
  nd : L.Nodup
  fr : ∀ w ∈ L, ∃ i, i ≤ s.n ∧ Fr s w i
/-- The keys of a seed up to a number are unlike. -/
def Apart (seed : List Nat) (m : Nat) : Prop := ∀ i j, i ≤ m → j ≤ m → i ≠ j → keyR seed i ≠ keyR seed j
def kW : List Nat := [107, 101, 121, 115]
end Go.Proofs.YtphcaiplgpmnnaaGreatDoor
/- What is known of keys that a device made: their public parts, and their signatures. -/
namespace Go.Proofs.YtphcaiplgpmnnaaGreatDoor
open Go.Px
structure BuI (k : Ks) (s : Ps) : Prop where
  tok : Tok s.ts
  ar : Ar s.ts
  ag : Kok s k.agree
  sg : Kok s k.sign
  signed : ∀ x ∈ k.signed, Kok s x.sec ∧ ∃ p, PubAt s x.sec p ∧ SigAt s k.sign (msgN x.n p) x.sig
  once : ∀ x ∈ k.once, Kok s x.sec
theorem BuI.ext {k : Ks} {s s' : Ps} (h : BuI k s) (he : Pext s s') (ht : Tok s'.ts) (ha : Ar s'.ts) : BuI k s' :=
  ⟨ht, ha, h.ag.ext he, h.sg.ext he, fun x hx => by
    obtain ⟨h1, p, h2, h3⟩ := h.signed x hx
    exact ⟨h1.ext he, p, h2.ext he, h3.ext he⟩, fun x hx => (h.once x hx).ext he⟩
theorem fresh_tok {s : Ps} (h : Tok s.ts) (hn : s.n < 1099511627776) : Tok (freshS s).ts := by
  cases hr : s.real with
  | true => rw [freshS_t hr]; exact h
  | false => exact (fresh_kok h hn).2 hr
theorem msgN_lt (n : Nat) {w : List Nat} (h : ∀ x ∈ w, x < 256) : ∀ x ∈ msgN n w, x < 256 := by
  intro x hx
  unfold msgN at hx
  simp only [List.mem_append] at hx
  rcases hx with ((hx | hx) | hx) | hx | hx
  · exact beN_lt _ _ x hx
  · revert x; decide
  · exact beN_lt _ _ x hx
  · exact beN_lt _ _ x hx
  · exact h x hx
theorem pubK2_lt (s : Ps) (w : List Nat) : ∀ x ∈ pubK2 s w, x < 256 := by
  unfold pubK2
  split
  · exact x25_lt _ _
  · exact bts_b _
theorem BuI.turn {k : Ks} {s : Ps} (h : BuI k s) (hn : s.n < 1000000000) (hl : s.ts.length + 100 ≤ 1048576) : BuI (turnK k s).1 (turnK k s).2 := by
  have f1 := freshS_len s
  have f2 := pubS2_len (freshS s) (freshK s)
  have t1 := fresh_tok h.tok (by omega : s.n < 1099511627776)
  have k1 := (fresh_kok h.tok (by omega : s.n < 1099511627776)).1
  obtain ⟨p1, -, t2⟩ := pub_at k1 t1 (by omega)
  have e1 := (fresh_ex s).p
  have e2 := (pub_ex (freshS s) (freshK s)).p
  have ksg := (h.sg.ext e1).ext e2
  obtain ⟨g1, t3⟩ := sig_at (m := msgN k.next (pubK2 (freshS s) (freshK s))) ksg t2 (by omega) (msgN_lt _ (pubK2_lt _ _)) (by rw [msgN_len, pubK2_len]; omega)
  have e3 := (sgn_ex (pubS2 (freshS s) (freshK s)) k.sign (msgN k.next (pubK2 (freshS s) (freshK s)))).p
  have he : Pext s (turnK k s).2 := (turn_ex k s).p
  have ha : Ar (turnK k s).2.ts := ((h.ar.fresh).pub _).sgn _ _
  have h' := h.ext he t3 ha
  refine ⟨t3, ha, h'.ag, h'.sg, fun x hx => ?_, h'.once⟩
  rcases List.mem_cons.1 (List.mem_of_mem_take (show x ∈ (turnP k s :: k.signed).take 2 from hx)) with rfl | hx
  · exact ⟨(k1.ext e2).ext e3, _, p1.ext e3, g1⟩
  · exact h'.signed x hx
theorem BuI.fillI {k : Ks} {s : Ps} (h : BuI k s) (hn : s.n < 1000000000) : ∀ i, i ≤ 4 → BuI (fillI k s i).1 (fillI k s i).2
  | 0, _ => h
  | i + 1, hi => by
    have ih := h.fillI hn i (by omega)
    have hp := fillI_ps k s i
    have t1 := fresh_tok ih.tok (by omega)
    have k1 := (fresh_kok ih.tok (by omega)).1
    have h' := ih.ext (fresh_ex _).p t1 ih.ar.fresh
    refine ⟨t1, h'.ar, h'.ag, h'.sg, h'.signed, fun x hx => ?_⟩
    rcases List.mem_append.1 (show x ∈ (Go.Proofs.YtphcaiplgpmnnaaGreatDoor.fillI k s i).1.once ++ [_] from hx) with h1 | h1
    · exact h'.once x h1
    · rw [List.mem_singleton.1 h1]; exact k1
theorem BuI.fill {k : Ks} {s : Ps} (h : BuI k s) (hn : s.n < 1000000000) : BuI (fillK k s).1 (fillK k s).2 := h.fillI hn _ (by omega)
theorem BuI.use {k : Ks} {s : Ps} (h : BuI k s) (n : Nat) : BuI (useK k n) s := ⟨h.tok, h.ar, h.ag, h.sg, h.signed, fun x hx => h.once x (List.mem_filter.1 hx).1⟩
theorem BuI.new {u d : Int} {s : Ps} (ht : Tok s.ts) (ha : Ar s.ts) (hn : s.n + 100 < 1000000000) (hl : s.ts.length + 200 ≤ 1048576) : BuI (newK u d s).1 (newK u d s).2 := by
  have f1 := freshS_len s
  have f2 := freshS_len (freshS s)
  have t1 := fresh_tok ht (by omega)
  have k1 := (fresh_kok ht (by omega)).1
  have t2 := fresh_tok t1 (by omega)
  have k2 := (fresh_kok t1 (by omega)).1
  have h0 : BuI (k0N u d s) (freshS (freshS s)) := ⟨t2, ha.fresh.fresh, k1.ext (fresh_ex _).p, k2, fun x hx => (by cases hx), fun x hx => (by cases hx)⟩
  have h1 := h0.turn (by omega) (by omega)
  have hp := turnK_ps (k0N u d s) (freshS (freshS s))
  exact h1.fill (by omega)
/-- What is known behind the bundles. -/
theorem BuI.id {k : Ks} {s : Ps} (h : BuI k s) (hl : s.ts.length + 100 ≤ 1048576) : BuI k (idS k s) ∧ Pext s (idS k s) ∧ PubAt (idS k s) k.agree (idA k s) ∧ SkAt (idS k s) k.sign (idG k s) := by
  have f1 := pubS2_len s k.agree
  obtain ⟨p1, -, t1⟩ := pub_at h.ag h.tok (by omega)
  have e1 := (pub_ex s k.agree).p
  obtain ⟨-, p2, t2⟩ := pub_at (h.sg.ext e1) t1 (by omega)
  have e2 := (pub_ex (pubS2 s k.agree) k.sign).p
  have e : Pext s (idS k s) := e1.trans e2
  exact ⟨h.ext e t2 ((h.ar.pub _).pub _), e, p1.ext e2, p2⟩
theorem BuI.bunJ {k : Ks} {s : Ps} {b : Bn} (h : BuI k s) (hl : s.ts.length + 100 ≤ 1048576) (ho4 : k.once.length ≤ 10) : ∀ i, i ≤ k.once.length → BuI k (bunI b k.once s i).2 ∧ Pext s (bunI b k.once s i).2 ∧ ∀ (j : Nat) (o : Pr), j < i → k.once[j]? = some o → PubAt (bunI b k.once s i).2 o.sec (pubK2 (bunI b k.once s j).2 o.sec)
  | 0, _ => ⟨h, Pext.refl _, fun j o hj => by omega⟩
  | i + 1, hi => by
    obtain ⟨h1, h2, h3⟩ := h.bunJ (b := b) hl ho4 i (by omega)
    obtain ⟨x, hx⟩ : ∃ x, k.once[i]? = some x := ⟨_, List.getElem?_eq_getElem (by omega)⟩
    have hb := (bunI_len (b := b) (s := s) (l := k.once) (i := i) (by omega)).2
    obtain ⟨p1, -, t1⟩ := pub_at (h1.once x (List.mem_of_getElem? hx)) h1.tok (by omega)
    have e1 := (pub_ex (bunI b k.once s i).2 x.sec).p
    rw [bunI_succ hx]
    refine ⟨h1.ext e1 t1 (h1.ar.pub _), h2.trans e1, fun j o hj ho => ?_⟩
    by_cases e : j = i
    · subst e
      rw [hx] at ho
      cases ho
      exact p1
    · exact (h3 j o (by omega) ho).ext e1
theorem BuI.bundles {k : Ks} {s : Ps} {x : Pr} {sl : List Pr} (h : BuI k s) (hs : k.signed = x :: sl) (hl : s.ts.length + 200 ≤ 1048576) (ho4 : k.once.length ≤ 10) :
    BuI k (bunK k s).2 ∧ Pext s (bunK k s).2 ∧ PubAt (bunK k s).2 k.agree (idA k s) ∧ SkAt (bunK k s).2 k.sign (idG k s) ∧ PubAt (bunK k s).2 x.sec (pubK2 (idS k s) x.sec) ∧ SigAt (bunK k s).2 k.sign (msgN x.n (pubK2 (idS k s) x.sec)) x.sig ∧
    ∀ (j : Nat) (o : Pr), k.once[j]? = some o → PubAt (bunK k s).2 o.sec (pubK2 (bunI (bunB k x s) k.once (pubS2 (idS k s) x.sec) j).2 o.sec) := by
  have e : bunK k s = bunI (bunB k x s) k.once (pubS2 (idS k s) x.sec) k.once.length := by unfold bunK; rw [hs]
  have il := idS_len k s
  obtain ⟨h1, e1, a1, a2⟩ := h.id (by omega)
  obtain ⟨kx, p, px, gx⟩ := h1.signed x (by rw [hs]; simp)
  obtain ⟨p1, -, t1⟩ := pub_at kx h1.tok (by omega)
  have ee := px.eq h1.tok (by omega)
  have e2 := (pub_ex (idS k s) x.sec).p
  have pl := pubS2_len (idS k s) x.sec
  obtain ⟨b1, b2, b3⟩ := (h1.ext e2 t1 (h1.ar.pub _)).bunJ (b := bunB k x s) (by rw [ee.1]; omega) ho4 k.once.length (Nat.le_refl _)
  rw [e]
  refine ⟨b1, (e1.trans e2).trans b2, (a1.ext e2).ext b2, (a2.ext e2).ext b2, p1.ext b2, ?_, fun j o ho => b3 j o (List.getElem?_eq_some_iff.1 ho).1 ho⟩
  rw [ee.2]
  exact (gx.ext e2).ext b2

end Go.Proofs.YtphcaiplgpmnnaaGreatDoor
/- What KeysTurns and KeysMeets keep. -/
namespace Go.Proofs.YtphcaiplgpmnnaaGreatDoor
open Go.Px
/-- The last two of a row, the last first. -/
def last2 (l : List Nat) : List Nat := l.reverse.take 2
/-- One taken out of a rising row. -/
theorem filter_out {l : List Nat} (h : l.Pairwise (· < ·)) {j x : Nat} (hx : l[j]? = some x) : (l.filter fun m => !decide (m = x)) = l.take j ++ l.drop (j + 1) := by
  obtain ⟨hj, e⟩ := List.getElem?_eq_some_iff.1 hx
  have hd : l = l.take j ++ x :: l.drop (j + 1) := by rw [← e, List.getElem_cons_drop hj, List.take_append_drop]
  have hp := h
  rw [hd] at hp
  have hq := List.pairwise_append.1 hp
  have e1 : (l.take j).filter (fun m => !decide (m = x)) = l.take j := List.filter_eq_self.2 fun a ha => by
    have := hq.2.2 a ha x (by simp)
    simp; omega
  have e2 : (l.drop (j + 1)).filter (fun m => !decide (m = x)) = l.drop (j + 1) := List.filter_eq_self.2 fun a ha => by
    have := (List.pairwise_cons.1 hq.2.1).1 a ha
    simp; omega
  conv => lhs; rw [hd]
  rw [List.filter_append, e1, List.filter_cons, e2]
  simp
/-- Keys behind so many acts: which numbers there are. -/
structure TuI (i : Nat) (k : Ks) (s : Ps) (sg l : List Nat) : Prop where
  on : onN k = l
  sn : snN k = last2 sg
  ne : sg.length ≤ i + 1 ∧ 1 ≤ sg.length
  rise : l.Pairwise (· < ·)
  lt : ∀ x ∈ l, x < k.next
  slt : ∀ x ∈ sg, x < k.next
  ol : l.length ≤ 4
  nx : k.next ≤ 6 + 4 * i
  ts : s.ts.length ≤ 11 + 5 * i
  n : s.n ≤ 7 + 4 * i
end Go.Proofs.YtphcaiplgpmnnaaGreatDoor
/-
  A call answers the same where more stands still.
-/
namespace Go.Px
theorem FnX.amb {P : Program} {f : FuncId} {args : List Value} {M A A' : Mem} {post : Value → Mem → Mem → Prop} (hA : ∀ x, x ∈ A → x ∈ A') (h : FnX P f args M A post) : FnX P f args M A' post := by
  intro w hw
  have h1 : St ⟨P, w, M.map Prod.fst, A, 0⟩ M [] w := ⟨hw.os, hw.tape, hw.output, hw.size, hw.frame, fun b o hb => hw.mem b o (by
    rcases List.mem_append.1 hb with hb | hb
    · exact List.mem_append_left _ hb
    · exact List.mem_append_right _ (hA _ hb)), hw.nodup, hw.own, hw.sepJ, fun b o hb => hw.sepA b o (hA _ hb), hw.old⟩
  refine Calls.mono (h w h1) ?_
  rintro e w' ⟨r, M', J', rfl, hp, hs⟩
  refine ⟨r, M', J', rfl, hp, ⟨hs.os, hs.tape, hs.output, hs.size, hs.frame, fun b o hb => ?_, hs.nodup, hs.own, hs.sepJ, hw.sepA, hs.old⟩⟩
  rcases List.mem_append.1 hb with hb | hb
  · exact hs.mem b o (List.mem_append_left _ hb)
  · rcases List.mem_append.1 hb with hb | hb
    · exact hs.mem b o (List.mem_append_right _ (List.mem_append_left _ hb))
    · have h2 := hw.sepA b o hb
      rw [hs.frame b h2.2 h2.1]
      exact hw.mem b o (List.mem_append_right _ hb)
end Go.Px

/- The walk of KeysTurns. -/
namespace Go.Proofs.YtphcaiplgpmnnaaGreatDoor
open Go.Px
theorem gtN {k : IntKind} (a b : Nat) : arith .gtr k ((b : Nat) : Int) ((a : Nat) : Int) = some (.bool (decide (a < b))) := by
  by_cases h : a < b
  · rw [decide_eq_true h]; exact gtT (by omega)
  · rw [decide_eq_false h]; exact gtF (by omega)
structure TuS where
  i : Nat
  k : Ks
  s : Ps
  sg : List Nat
  l : List Nat
  vs : Value
  vo : Value
  Bs : Mem
  Bo : Mem
  MK : Mem
  MP : Mem
  J : Mem

end Go.Proofs.YtphcaiplgpmnnaaGreatDoor
/- The walk of prim's Check, in both modes. -/
namespace Go.Proofs.YtphcaiplgpmnnaaGreatDoor
open Go.Px
theorem eqN8 {k : IntKind} (a b : Nat) : arith .eql k ((a : Nat) : Int) ((b : Nat) : Int) = some (.bool (decide (a = b))) := by
  by_cases h : a = b
  · rw [decide_eq_true h]; exact eqT (by omega)
  · rw [decide_eq_false h]; exact eqF (by omega)
theorem ints_at0 {l : List Int} (h : 0 < l.length) : (ints l)[0]? = some (.int .i64 (l.getD 0 0)) := by
  rw [List.getD_eq_getElem?_getD, ints, List.getElem?_map, List.getElem?_eq_getElem h]; rfl
theorem chkT_len {ts : List Tm} {p m g : List Nat} (h : ¬ g.length = 64) : chkT ts p m g = false := by
  unfold chkT; rw [decide_eq_false h, Bool.false_and]
theorem chkT_n1 {ts : List Tm} {p m g : List Nat} (h : plc g ts.length = none) : chkT ts p m g = false := by
  unfold chkT; rw [h]; simp
theorem chkT_n2 {ts : List Tm} {p m g : List Nat} (h : plc p ts.length = none) : chkT ts p m g = false := by
  unfold chkT; rw [h]; split <;> simp_all
theorem chkT_val {ts : List Tm} {p m g : List Nat} {t u : Tm} {i k : Nat} (h64 : g.length = 64) (hi : plc g ts.length = some i) (hk : plc p ts.length = some k) (ht : ts[i]? = some t) (hu : ts[k]? = some u) :
    chkT ts p m g = (decide (p.length = 32) && (decide (t.kind = 7) && (decide (t.text = m) && (decide (u.kind = 3) && (u.of.getD 0 0 == t.of.getD 0 0))))) := by
  unfold chkT
  rw [hi, hk, decide_eq_true h64]
  simp only [ht, hu, Bool.true_and, Bool.and_assoc]
  congr 4
theorem chkK_t {s : Ps} (h : s.real = true) (p m g : List Nat) : chkK s p m g = chkB p m g := by unfold chkK; rw [if_pos h]
theorem chkK_f {s : Ps} (h : s.real = false) (p m g : List Nat) : chkK s p m g = chkT s.ts p m g := by unfold chkK; rw [if_neg (by rw [h]; decide)]
theorem chkK_len {s : Ps} {p m g : List Nat} (h : ¬ g.length = 64) : chkK s p m g = false := by
  cases hr : s.real with
  | true => rw [chkK_t hr]; exact chk_len h
  | false => rw [chkK_f hr]; exact chkT_len h

theorem neN8 {k : IntKind} (a b : Nat) : arith .neq k ((a : Nat) : Int) ((b : Nat) : Int) = some (.bool (!decide (a = b))) := by
  by_cases h : a = b
  · rw [decide_eq_true h]; exact neF (by omega)
  · rw [decide_eq_false h]; exact neT (by omega)

theorem pcheck_f (pb : Nat) (s : Ps) (v1 v2 v3 : Value) (wp wm wg : List Nat) (MP A : Mem) (hP : Prm pb s MP) (hsub : ∀ x, x ∈ MP → x ∈ A) (har : Ar s.ts) (hn : s.ts.length ≤ 1048576) (hp : By A v1 wp) (hm : By A v2 wm) (hg : By A v3 wg) (hG : Glb A) : FnV Tryz.prog 36 [.pointer (some ⟨pb, 0, none⟩), v1, v2, v3] A (.bool (chkK s wp wm wg)) := by
 obtain ⟨sv, bt, bm, B, MT, rfl, hby, hT⟩ := hP.ex
 have hpb := hsub _ List.mem_cons_self
 have hMT : ∀ x, x ∈ MT → x ∈ A := fun x hx => hsub x (by simp [hx])
 haveI := hp.cel
 haveI := hm.cel
 haveI := hg.cel
 haveI := hby.cel
 have hpl := hp.len
 have hml := hm.len
 have hgl := hg.len
 refine FnX.enter (N := 106) Tryz.func36 rfl rfl rfl fun w_ => ?_
 refine XC.keep (kq 0 (kq 1 (kq 2 (kq 3 kn)))) ?_
 refine XC.reg ?_
 refine as_ ?_
 refine XL.fin (kq 0 (kq 1 (kq 2 (kq 3 kn)))) ?_
 refine XC.seq ?_
 refine XC.reg ?_
 refine mv_ ?_
 refine XL.q (q_ptrEqNil (e := 124) rfl rfl (by kernel_rfl)) rfl ?_
 refine mv_ ?_
 refine XL.gy rfl rfl (OpQ.opL qm_ rfl ?_)
 refine XL.gy rfl rfl (OpQ.opL (q_lenV2 (sz := 1) rfl (by kernel_rfl) (by first | assumption | exact Sl.rd (by assumption) (fun _ h => h) | exact By.rd (by assumption))) rfl ?_)
 refine XL.gy rfl rfl (OpQ.opL (q_cmp (!decide (wg.length = 64)) rfl rfl (neN8 _ 64)) rfl ?_)
 refine XL.q (q_pickF rfl rfl) rfl ?_
 refine XL.fin (kq 0 (kq 1 (kq 2 (kq 3 (kq 23 kn))))) ?_
 refine XC.cond rfl (fun hc => ?_) (fun hc => ?_)
 ·
  have h64 : ¬ wg.length = 64 := by simpa using hc
  refine XC.reg ?_
  refine as_ ?_
  refine XL.fin (kq 8 kn) ?_
  refine XC.ret ?_
  refine tr ?_
  exact ⟨_, [], [], res1 rfl rfl, List.nil_sublist _, by simp, by rw [chkK_len h64], rfl, rfl⟩
 ·
  have h64 : wg.length = 64 := by simpa using hc
  refine XC.skip ?_
  refine nx (kq 0 (kq 1 (kq 2 (kq 3 kn)))) ?_
  refine XC.seq ?_
  refine XC.reg ?_
  refine mv_ ?_
  refine XL.q (q_nil rfl) rfl ?_
  refine XL.q (qf_ 0 0) rfl ?_
  refine XL.q (q_load rfl (by kernel_rfl) (mA hpb) (by rfl)) rfl ?_
  refine XL.q (q_bin rfl rfl rfl) rfl ?_
  refine XL.fin (kq 0 (kq 1 (kq 2 (kq 3 (kq 28 kn))))) ?_
  refine XC.cond rfl (fun hc => ?_) (fun hc => ?_)
  ·
   have hr : s.real = true := by cases hq : s.real with | true => rfl | false => rw [hq] at hc; exact absurd hc (by decide)
   refine XC.reg ?_
   refine mv_ (mv_ (mv_ ?_))
   refine XL.callV (aS rfl (aS rfl (aS rfl a0))) (by kernel_rfl) (check_f v1 v2 v3 wp wm wg _ (hp.mono SubC.sub) (hm.mono SubC.sub) (hg.mono SubC.sub) hG.s.up) rfl ?_
   refine as_ ?_
   refine XL.fin (kq 8 kn) ?_
   refine XC.ret ?_
   refine tr ?_
   exact ⟨_, [], [], res1 rfl rfl, List.nil_sublist _, by simp, by rw [chkK_t hr], rfl, rfl⟩
  ·
   have hr : s.real = false := by cases hq : s.real with | false => rfl | true => rw [hq] at hc; exact absurd hc (by decide)
   refine XC.skip ?_
   refine nx (kq 0 (kq 1 (kq 2 (kq 3 kn)))) ?_
   refine XC.reg ?_
   refine mv_ ?_
   refine XL.q (q_nil rfl) rfl ?_
   refine XL.q (qf_ 3 3) rfl ?_
   refine XL.q (q_load rfl (by kernel_rfl) (mA hpb) (by rfl)) rfl ?_
   refine mv_ ?_
   refine XL.callV (aS rfl (aS rfl a0)) (by kernel_rfl) (place_spec bt bm s.ts v3 wg MT _ hT (fun x hx => SubC.sub _ (hMT x hx)) hn (hg.rd.mono SubC.sub) hg.lt hg.max) rfl ?_
   refine mv_ ?_
   refine XL.q (q_x0 rfl) rfl ?_
   refine XL.q (q_x1 rfl) rfl ?_
   refine as_ (as_ ?_)
   refine XL.fin (kq 0 (kq 1 (kq 2 (kq 9 (kq 10 kn))))) ?_
   refine XC.reg ?_
   refine mv_ ?_
   refine XL.q (q_nil rfl) rfl ?_
   refine XL.q (qf_ 3 3) rfl ?_
   refine XL.q (q_load rfl (by kernel_rfl) (mA hpb) (by rfl)) rfl ?_
   refine mv_ ?_
   refine XL.call (aS rfl (aS rfl a0)) (by kernel_rfl) (getT_spec bt bm s.ts _ MT _ hT (fun x hx => SubC.sub _ (hMT x hx))) rfl ?_
   rintro v48 M48 J48 ⟨rfl, rfl, c48, ok48, rfl, hg1a, hg2a⟩
   obtain ⟨voa, ta, rfl, hvoa, hza, htka, hoka, hnoa⟩ := get_facts hT.tok.tmo hg1a hg2a
   haveI := hvoa.cel
   refine mv_ ?_
   refine XL.q (q_x0 rfl) rfl ?_
   refine XL.q (q_x1 rfl) rfl ?_
   refine XL.lo rfl (l_alloc (cs := [.int .u8 0, .slice none 0 0, .string ByteArray.empty, .int .i64 0]) (by kernel_rfl) rfl fun b11 => ?_)
   refine XL.lo rfl (l_storeW (vs := tmc ta.kind voa ta.text ta.n) rfl rfl rfl (by kernel_rfl) (by rfl) (by intro c hc; simp only [tmc, List.mem_cons, List.not_mem_nil, or_false] at hc; rcases hc with rfl | rfl | rfl | rfl <;> first | rfl | exact hvoa.one) UpC.upd ?_)
   dsimp only [tmc]
   refine as_ ?_
   refine XL.fin (kq 0 (kq 1 (kq 2 (kq 10 (kq 11 kn))))) ?_
   refine XC.reg ?_
   refine mv_ ?_
   refine XL.q (q_nil rfl) rfl ?_
   refine XL.q (qf_ 3 3) rfl ?_
   refine XL.q (q_load rfl (by kernel_rfl) (mA hpb) (by rfl)) rfl ?_
   refine mv_ ?_
   refine XL.callV (aS rfl (aS rfl a0)) (by kernel_rfl) (place_spec bt bm s.ts v1 wp MT _ hT (fun x hx => SubC.sub _ (hMT x hx)) hn (hp.rd.mono SubC.sub) hp.lt hp.max) rfl ?_
   refine mv_ ?_
   refine XL.q (q_x0 rfl) rfl ?_
   refine XL.q (q_x1 rfl) rfl ?_
   refine as_ (as_ ?_)
   refine XL.fin (kq 0 (kq 1 (kq 2 (kq 10 (kq 11 (kq 13 (kq 14 kn))))))) ?_
   refine XC.reg ?_
   refine mv_ ?_
   refine XL.q (q_nil rfl) rfl ?_
   refine XL.q (qf_ 3 3) rfl ?_
   refine XL.q (q_load rfl (by kernel_rfl) (mA hpb) (by rfl)) rfl ?_
   refine mv_ ?_
   refine XL.call (aS rfl (aS rfl a0)) (by kernel_rfl) (getT_spec bt bm s.ts _ MT _ hT (fun x hx => SubC.sub _ (hMT x hx))) rfl ?_
   rintro v66 M66 J66 ⟨rfl, rfl, c66, ok66, rfl, hg1b, hg2b⟩
   obtain ⟨vob, tb, rfl, hvob, hzb, htkb, hokb, hnob⟩ := get_facts hT.tok.tmo hg1b hg2b
   haveI := hvob.cel
   refine mv_ ?_
   refine XL.q (q_x0 rfl) rfl ?_
   refine XL.q (q_x1 rfl) rfl ?_
   refine XL.lo rfl (l_alloc (cs := [.int .u8 0, .slice none 0 0, .string ByteArray.empty, .int .i64 0]) (by kernel_rfl) rfl fun b15 => ?_)
   refine XL.lo rfl (l_storeW (vs := tmc tb.kind vob tb.text tb.n) rfl rfl rfl (by kernel_rfl) (by rfl) (by intro c hc; simp only [tmc, List.mem_cons, List.not_mem_nil, or_false] at hc; rcases hc with rfl | rfl | rfl | rfl <;> first | rfl | exact hvob.one) UpC.upd ?_)
   dsimp only [tmc]
   refine as_ ?_
   refine XL.fin (kq 1 (kq 2 (kq 10 (kq 11 (kq 14 (kq 15 kn)))))) ?_
   refine XC.drawF [0, 1, 2, 3, 4, 5, 6, 7, 8, 9, 10, 11, 12, 13, 14, 15, 16, 17, 18, 19, 20, 21, 22, 23, 24, 25, 26, 27, 28, 29, 30, 31, 32, 33, 34, 35, 36, 37] [(0, 0), (1, 0), (2, 0), (3, 0), (4, 0), (5, 0), (6, 0), (7, 0), (8, 0), (9, 0), (10, 0), (11, 1), (12, 0), (13, 0), (14, 0), (15, 0), (16, 1), (17, 0), (18, 1), (19, 0), (20, 0), (21, 0), (22, 0), (23, 1), (24, 0), (25, 0), (26, 0), (27, 0), (28, 1), (29, 0), (30, 1), (31, 0), (32, 1), (33, 0), (34, 1), (35, 0), (36, 0), (37, 0)] (by kernel_rfl) (by kernel_rfl) fun hs => ?_
   refine XF.q hs rfl qm_ rfl ?_
   refine XF.q hs rfl qm_ rfl ?_
   refine XF.split (t := 70) rfl (fun hb => ?_) (fun hb => ?_)
   ·
    obtain ⟨i, hi⟩ := Option.isSome_iff_exists.1 hb
    refine XF.qg hs rfl rfl rfl rfl qm_ rfl ?_
    refine XF.q hs rfl (q_pickT rfl rfl) rfl ?_
    refine XF.q hs rfl qm_ rfl ?_
    refine XF.split (t := 73) rfl (fun hb => ?_) (fun hb => ?_)
    ·
     obtain ⟨k, hk⟩ := Option.isSome_iff_exists.1 hb
     have hta : s.ts[i]? = some ta := by
      have hl := (plc_lt hi).1
      rw [hi] at hoka hnoa
      cases ok48 with
      | true => have := (hoka rfl).2; rwa [Option.getD_some, Int.toNat_natCast] at this
      | false => exact absurd ⟨by rw [Option.getD_some]; omega, by rw [Option.getD_some]; omega⟩ (hnoa rfl)
     have htb : s.ts[k]? = some tb := by
      have hl := (plc_lt hk).1
      rw [hk] at hokb hnob
      cases ok66 with
      | true => have := (hokb rfl).2; rwa [Option.getD_some, Int.toNat_natCast] at this
      | false => exact absurd ⟨by rw [Option.getD_some]; omega, by rw [Option.getD_some]; omega⟩ (hnob rfl)
     have hcv := chkT_val (m := wm) h64 hi hk hta htb
     refine XF.qg hs rfl rfl rfl rfl qm_ rfl ?_
     refine XF.qg hs rfl rfl rfl rfl (q_lenV2 (sz := 1) rfl (by kernel_rfl) (by first | assumption | exact Sl.rd (by assumption) (fun _ h => h) | exact By.rd (by assumption))) rfl ?_
     refine XF.qg hs rfl rfl rfl rfl (q_cmp (decide (wp.length = 32)) rfl rfl (eqN8 _ 32)) rfl ?_
     refine XF.q hs rfl (q_pickT rfl rfl) rfl ?_
     refine XF.q hs rfl qm_ rfl ?_
     refine XF.split (t := 78) rfl (fun hb => ?_) (fun hb => ?_)
     ·
      rw [hb, Bool.true_and] at hcv
      refine XF.qg hs rfl rfl rfl rfl (qf_ 0 0) rfl ?_
      refine XF.rg hs rfl rfl rfl rfl ql_ rfl ?_
      refine XF.qg hs rfl rfl rfl rfl (q_cmp (decide (ta.kind = 7)) rfl rfl (eqN8 _ 7)) rfl ?_
      refine XF.q hs rfl (q_pickT rfl rfl) rfl ?_
      refine XF.q hs rfl qm_ rfl ?_
      refine XF.split (t := 83) rfl (fun hb => ?_) (fun hb => ?_)
      ·
       rw [hb, Bool.true_and] at hcv
       have ha0 : 0 < ta.of.length := har ta (List.mem_of_getElem? hta) (.inr (.inr (of_decide_eq_true hb)))
       refine XF.qg hs rfl rfl rfl rfl (qf_ 2 2) rfl ?_
       refine XF.rg hs rfl rfl rfl rfl ql_ rfl ?_
       refine XF.qg hs rfl rfl rfl rfl qm_ rfl ?_
       refine XF.rg hs rfl rfl rfl rfl (q_toStr2 rfl (by kernel_rfl) (hm.rd.mono SubC.sub)) rfl ?_
       refine XF.qg hs rfl rfl rfl rfl (q_sEq rfl rfl rfl rfl (hT.tok.tmo ta (List.mem_of_getElem? hta)).text.lt hm.lt) rfl ?_
       refine XF.q hs rfl (q_pickT rfl rfl) rfl ?_
       refine XF.q hs rfl qm_ rfl ?_
       refine XF.split (t := 90) rfl (fun hb => ?_) (fun hb => ?_)
       ·
        rw [hb, Bool.true_and] at hcv
        refine XF.qg hs rfl rfl rfl rfl (qf_ 0 0) rfl ?_
        refine XF.rg hs rfl rfl rfl rfl ql_ rfl ?_
        refine XF.qg hs rfl rfl rfl rfl (q_cmp (decide (tb.kind = 3)) rfl rfl (eqN8 _ 3)) rfl ?_
        refine XF.q hs rfl (q_pickT rfl rfl) rfl ?_
        refine XF.q hs rfl qm_ rfl ?_
        refine XF.split (t := 95) rfl (fun hb => ?_) (fun hb => ?_)
        ·
         rw [hb, Bool.true_and] at hcv
         have hb0 : 0 < tb.of.length := har tb (List.mem_of_getElem? htb) (.inl (of_decide_eq_true hb))
         refine XF.qg hs rfl rfl rfl rfl (qf_ 1 1) rfl ?_
         refine XF.rg hs rfl rfl rfl rfl ql_ rfl ?_
         refine XF.qg hs rfl rfl rfl rfl (q_atV2 (sz := 1) (a := 0) rfl rfl (by kernel_rfl) rfl hvob hb0) rfl ?_
         refine XF.rg hs rfl rfl rfl rfl (q_ldV (j := 0) (u := .int .i64 (tb.of.getD 0 0)) (hvob.mono SubC.sub) rfl (by kernel_rfl) (ints_at0 hb0)) rfl ?_
         refine XF.qg hs rfl rfl rfl rfl (qf_ 1 1) rfl ?_
         refine XF.rg hs rfl rfl rfl rfl ql_ rfl ?_
         refine XF.qg hs rfl rfl rfl rfl (q_atV2 (sz := 1) (a := 0) rfl rfl (by kernel_rfl) rfl hvoa ha0) rfl ?_
         refine XF.rg hs rfl rfl rfl rfl (q_ldV (j := 0) (u := .int .i64 (ta.of.getD 0 0)) (hvoa.mono SubC.sub) rfl (by kernel_rfl) (ints_at0 ha0)) rfl ?_
         refine XF.qg hs rfl rfl rfl rfl (q_bin rfl rfl rfl) rfl ?_
         refine XF.q hs rfl (q_pickT rfl rfl) rfl ?_
         refine XF.q hs rfl (q_assign rfl) rfl ?_
         refine XF.fin (kq 8 kn) ?_
         refine XC.ret ?_
         exact ⟨_, [], [], res1 rfl rfl, List.nil_sublist _, by simp, by rw [chkK_f hr, hcv], rfl, rfl⟩
        ·
         rw [hb, Bool.false_and] at hcv
         refine XF.qn hs rfl rfl rfl rfl rfl rfl ?_
         refine XF.rn hs rfl rfl rfl rfl rfl rfl ?_
         refine XF.qn hs rfl rfl rfl rfl rfl rfl ?_
         refine XF.rn hs rfl rfl rfl rfl rfl rfl ?_
         refine XF.qn hs rfl rfl rfl rfl rfl rfl ?_
         refine XF.rn hs rfl rfl rfl rfl rfl rfl ?_
         refine XF.qn hs rfl rfl rfl rfl rfl rfl ?_
         refine XF.rn hs rfl rfl rfl rfl rfl rfl ?_
         refine XF.qn hs rfl rfl rfl rfl rfl rfl ?_
         refine XF.q hs rfl (q_pickF rfl rfl) rfl ?_
         refine XF.q hs rfl (q_assign rfl) rfl ?_
         refine XF.fin (kq 8 kn) ?_
         refine XC.ret ?_
         exact ⟨_, [], [], res1 rfl rfl, List.nil_sublist _, by simp, by rw [chkK_f hr, hcv], rfl, rfl⟩
       ·
        rw [hb, Bool.false_and] at hcv
        refine XF.qn hs rfl rfl rfl rfl rfl rfl ?_
        refine XF.rn hs rfl rfl rfl rfl rfl rfl ?_
        refine XF.qn hs rfl rfl rfl rfl rfl rfl ?_
        refine XF.q hs rfl (q_pickF rfl rfl) rfl ?_
        refine XF.q hs rfl qm_ rfl ?_
        refine XF.qn hs rfl rfl rfl rfl rfl rfl ?_
        refine XF.rn hs rfl rfl rfl rfl rfl rfl ?_
        refine XF.qn hs rfl rfl rfl rfl rfl rfl ?_
        refine XF.rn hs rfl rfl rfl rfl rfl rfl ?_
        refine XF.qn hs rfl rfl rfl rfl rfl rfl ?_
        refine XF.rn hs rfl rfl rfl rfl rfl rfl ?_
        refine XF.qn hs rfl rfl rfl rfl rfl rfl ?_
        refine XF.rn hs rfl rfl rfl rfl rfl rfl ?_
        refine XF.qn hs rfl rfl rfl rfl rfl rfl ?_
        refine XF.q hs rfl (q_pickF rfl rfl) rfl ?_
        refine XF.q hs rfl (q_assign rfl) rfl ?_
        refine XF.fin (kq 8 kn) ?_
        refine XC.ret ?_
        exact ⟨_, [], [], res1 rfl rfl, List.nil_sublist _, by simp, by rw [chkK_f hr, hcv], rfl, rfl⟩
      ·
       rw [hb, Bool.false_and] at hcv
       refine XF.qn hs rfl rfl rfl rfl rfl rfl ?_
       refine XF.rn hs rfl rfl rfl rfl rfl rfl ?_
       refine XF.qn hs rfl rfl rfl rfl rfl rfl ?_
       refine XF.rn hs rfl rfl rfl rfl rfl rfl ?_
       refine XF.qn hs rfl rfl rfl rfl rfl rfl ?_
       refine XF.q hs rfl (q_pickF rfl rfl) rfl ?_
       refine XF.q hs rfl qm_ rfl ?_
       refine XF.qn hs rfl rfl rfl rfl rfl rfl ?_
       refine XF.rn hs rfl rfl rfl rfl rfl rfl ?_
       refine XF.qn hs rfl rfl rfl rfl rfl rfl ?_
       refine XF.q hs rfl (q_pickF rfl rfl) rfl ?_
       refine XF.q hs rfl qm_ rfl ?_
       refine XF.qn hs rfl rfl rfl rfl rfl rfl ?_
       refine XF.rn hs rfl rfl rfl rfl rfl rfl ?_
       refine XF.qn hs rfl rfl rfl rfl rfl rfl ?_
       refine XF.rn hs rfl rfl rfl rfl rfl rfl ?_
       refine XF.qn hs rfl rfl rfl rfl rfl rfl ?_
       refine XF.rn hs rfl rfl rfl rfl rfl rfl ?_
       refine XF.qn hs rfl rfl rfl rfl rfl rfl ?_
       refine XF.rn hs rfl rfl rfl rfl rfl rfl ?_
       refine XF.qn hs rfl rfl rfl rfl rfl rfl ?_
       refine XF.q hs rfl (q_pickF rfl rfl) rfl ?_
       refine XF.q hs rfl (q_assign rfl) rfl ?_
       refine XF.fin (kq 8 kn) ?_
       refine XC.ret ?_
       exact ⟨_, [], [], res1 rfl rfl, List.nil_sublist _, by simp, by rw [chkK_f hr, hcv], rfl, rfl⟩
     ·
      rw [hb, Bool.false_and] at hcv
      refine XF.qn hs rfl rfl rfl rfl rfl rfl ?_
      refine XF.rn hs rfl rfl rfl rfl rfl rfl ?_
      refine XF.qn hs rfl rfl rfl rfl rfl rfl ?_
      refine XF.q hs rfl (q_pickF rfl rfl) rfl ?_
      refine XF.q hs rfl qm_ rfl ?_
      refine XF.qn hs rfl rfl rfl rfl rfl rfl ?_
      refine XF.rn hs rfl rfl rfl rfl rfl rfl ?_
      refine XF.qn hs rfl rfl rfl rfl rfl rfl ?_
      refine XF.rn hs rfl rfl rfl rfl rfl rfl ?_
      refine XF.qn hs rfl rfl rfl rfl rfl rfl ?_
      refine XF.q hs rfl (q_pickF rfl rfl) rfl ?_
      refine XF.q hs rfl qm_ rfl ?_
      refine XF.qn hs rfl rfl rfl rfl rfl rfl ?_
      refine XF.rn hs rfl rfl rfl rfl rfl rfl ?_
      refine XF.qn hs rfl rfl rfl rfl rfl rfl ?_
      refine XF.q hs rfl (q_pickF rfl rfl) rfl ?_
      refine XF.q hs rfl qm_ rfl ?_
      refine XF.qn hs rfl rfl rfl rfl rfl rfl ?_
      refine XF.rn hs rfl rfl rfl rfl rfl rfl ?_
      refine XF.qn hs rfl rfl rfl rfl rfl rfl ?_
      refine XF.rn hs rfl rfl rfl rfl rfl rfl ?_
      refine XF.qn hs rfl rfl rfl rfl rfl rfl ?_
      refine XF.rn hs rfl rfl rfl rfl rfl rfl ?_
      refine XF.qn hs rfl rfl rfl rfl rfl rfl ?_
      refine XF.rn hs rfl rfl rfl rfl rfl rfl ?_
      refine XF.qn hs rfl rfl rfl rfl rfl rfl ?_
      refine XF.q hs rfl (q_pickF rfl rfl) rfl ?_
      refine XF.q hs rfl (q_assign rfl) rfl ?_
      refine XF.fin (kq 8 kn) ?_
      refine XC.ret ?_
      exact ⟨_, [], [], res1 rfl rfl, List.nil_sublist _, by simp, by rw [chkK_f hr, hcv], rfl, rfl⟩
    ·
     have hcv := chkT_n2 (g := wg) (m := wm) (Option.not_isSome_iff_eq_none.1 (by rw [hb]; decide))
     refine XF.qn hs rfl rfl rfl rfl rfl rfl ?_
     refine XF.qn hs rfl rfl rfl rfl rfl rfl ?_
     refine XF.qn hs rfl rfl rfl rfl rfl rfl ?_
     refine XF.q hs rfl (q_pickF rfl rfl) rfl ?_
     refine XF.q hs rfl qm_ rfl ?_
     refine XF.qn hs rfl rfl rfl rfl rfl rfl ?_
     refine XF.rn hs rfl rfl rfl rfl rfl rfl ?_
     refine XF.qn hs rfl rfl rfl rfl rfl rfl ?_
     refine XF.q hs rfl (q_pickF rfl rfl) rfl ?_
     refine XF.q hs rfl qm_ rfl ?_
     refine XF.qn hs rfl rfl rfl rfl rfl rfl ?_
     refine XF.rn hs rfl rfl rfl rfl rfl rfl ?_
     refine XF.qn hs rfl rfl rfl rfl rfl rfl ?_
     refine XF.rn hs rfl rfl rfl rfl rfl rfl ?_
     refine XF.qn hs rfl rfl rfl rfl rfl rfl ?_
     refine XF.q hs rfl (q_pickF rfl rfl) rfl ?_
     refine XF.q hs rfl qm_ rfl ?_
     refine XF.qn hs rfl rfl rfl rfl rfl rfl ?_
     refine XF.rn hs rfl rfl rfl rfl rfl rfl ?_
     refine XF.qn hs rfl rfl rfl rfl rfl rfl ?_
     refine XF.q hs rfl (q_pickF rfl rfl) rfl ?_
     refine XF.q hs rfl qm_ rfl ?_
     refine XF.qn hs rfl rfl rfl rfl rfl rfl ?_
     refine XF.rn hs rfl rfl rfl rfl rfl rfl ?_
     refine XF.qn hs rfl rfl rfl rfl rfl rfl ?_
     refine XF.rn hs rfl rfl rfl rfl rfl rfl ?_
     refine XF.qn hs rfl rfl rfl rfl rfl rfl ?_
     refine XF.rn hs rfl rfl rfl rfl rfl rfl ?_
     refine XF.qn hs rfl rfl rfl rfl rfl rfl ?_
     refine XF.rn hs rfl rfl rfl rfl rfl rfl ?_
     refine XF.qn hs rfl rfl rfl rfl rfl rfl ?_
     refine XF.q hs rfl (q_pickF rfl rfl) rfl ?_
     refine XF.q hs rfl (q_assign rfl) rfl ?_
     refine XF.fin (kq 8 kn) ?_
     refine XC.ret ?_
     exact ⟨_, [], [], res1 rfl rfl, List.nil_sublist _, by simp, by rw [chkK_f hr, hcv], rfl, rfl⟩
   ·
    have hcv := chkT_n1 (p := wp) (m := wm) (Option.not_isSome_iff_eq_none.1 (by rw [hb]; decide))
    refine XF.qn hs rfl rfl rfl rfl rfl rfl ?_
    refine XF.q hs rfl (q_pickF rfl rfl) rfl ?_
    refine XF.q hs rfl qm_ rfl ?_
    refine XF.qn hs rfl rfl rfl rfl rfl rfl ?_
    refine XF.qn hs rfl rfl rfl rfl rfl rfl ?_
    refine XF.qn hs rfl rfl rfl rfl rfl rfl ?_
    refine XF.q hs rfl (q_pickF rfl rfl) rfl ?_
    refine XF.q hs rfl qm_ rfl ?_
    refine XF.qn hs rfl rfl rfl rfl rfl rfl ?_
    refine XF.rn hs rfl rfl rfl rfl rfl rfl ?_
    refine XF.qn hs rfl rfl rfl rfl rfl rfl ?_
    refine XF.q hs rfl (q_pickF rfl rfl) rfl ?_
    refine XF.q hs rfl qm_ rfl ?_
    refine XF.qn hs rfl rfl rfl rfl rfl rfl ?_
    refine XF.rn hs rfl rfl rfl rfl rfl rfl ?_
    refine XF.qn hs rfl rfl rfl rfl rfl rfl ?_
    refine XF.rn hs rfl rfl rfl rfl rfl rfl ?_
    refine XF.qn hs rfl rfl rfl rfl rfl rfl ?_
    refine XF.q hs rfl (q_pickF rfl rfl) rfl ?_
    refine XF.q hs rfl qm_ rfl ?_
    refine XF.qn hs rfl rfl rfl rfl rfl rfl ?_
    refine XF.rn hs rfl rfl rfl rfl rfl rfl ?_
    refine XF.qn hs rfl rfl rfl rfl rfl rfl ?_
    refine XF.q hs rfl (q_pickF rfl rfl) rfl ?_
    refine XF.q hs rfl qm_ rfl ?_
    refine XF.qn hs rfl rfl rfl rfl rfl rfl ?_
    refine XF.rn hs rfl rfl rfl rfl rfl rfl ?_
    refine XF.qn hs rfl rfl rfl rfl rfl rfl ?_
    refine XF.rn hs rfl rfl rfl rfl rfl rfl ?_
    refine XF.qn hs rfl rfl rfl rfl rfl rfl ?_
    refine XF.rn hs rfl rfl rfl rfl rfl rfl ?_
    refine XF.qn hs rfl rfl rfl rfl rfl rfl ?_
    refine XF.rn hs rfl rfl rfl rfl rfl rfl ?_
    refine XF.qn hs rfl rfl rfl rfl rfl rfl ?_
    refine XF.q hs rfl (q_pickF rfl rfl) rfl ?_
    refine XF.q hs rfl (q_assign rfl) rfl ?_
    refine XF.fin (kq 8 kn) ?_
    refine XC.ret ?_
    exact ⟨_, [], [], res1 rfl rfl, List.nil_sublist _, by simp, by rw [chkK_f hr, hcv], rfl, rfl⟩

end Go.Proofs.YtphcaiplgpmnnaaGreatDoor
/-
  Equality of structs of two ints (a Who).
-/
namespace Go.Px
def intT (P : Program) (t : TypeId) : Bool := match P.underlying t with
  | some (.int _) => true
  | _ => false
def twoT (P : Program) (t : TypeId) : Bool :=
  match P.underlying t with
  | some (.struct fs) => match fs.toList with
    | [f, g] => f.offset == 0 && g.offset == 1 && (f.name != "_") && (g.name != "_") && intT P f.type && intT P g.type && !P.stoodInHeld t && !P.eqGuardType P.depth t
    | _ => false
  | _ => false
theorem intT_spec {P : Program} {t : TypeId} (h : intT P t = true) : ∃ k, P.underlying t = some (.int k) := by
  unfold intT at h
  split at h
  · rename_i k hk; exact ⟨k, hk⟩
  · cases h
theorem run_part_int {P : Program} {t : TypeId} {k : IntKind} (ht : P.underlying t = some (.int k)) {cs : Array Value} {off : Nat} {v : Value} (hv : cs[off]? = some v) (w : World) : (part t cs off).run P w = .ok v w := by
  simp [part, isAgg, run_underlying ht, hv]
theorem run_two {P : Program} {t : TypeId} (h : twoT P t = true) (k : IntKind) (a b a' b' : Int) (w : World) :
    P.eqGuardType P.depth t = false ∧ (Op.equalIn 10000 t (.agg #[.int k a, .int k b]) (.agg #[.int k a', .int k b'])).run P w = .ok (a == a' && b == b') w := by
  unfold twoT at h
  split at h
  · rename_i fs hfs
    split at h
    · rename_i f g hfg
      simp only [Bool.and_eq_true, beq_iff_eq, bne_iff_ne, Bool.not_eq_true'] at h
      obtain ⟨⟨⟨⟨⟨⟨⟨h1, h2⟩, h3⟩, h4⟩, h5⟩, h6⟩, h7⟩, h8⟩ := h
      obtain ⟨k1, e1⟩ := intT_spec h5
      obtain ⟨k2, e2⟩ := intT_spec h6
      have hf : P.fieldsOf t = fs := by unfold Program.fieldsOf; rw [hfs]
      refine ⟨h8, ?_⟩
      rw [run_equalIn_struct w 9999 t _ _ (by rw [hf]; exact hfs) h7, hf, hfg]
      unfold Op.eqFields
      rw [if_pos h3]
      simp only [Sem.run_bind, run_part_int e1 (show (#[Value.int k a, .int k b])[f.offset]? = some (.int k a) by rw [h1]; rfl), run_part_int e1 (show (#[Value.int k a', .int k b'])[f.offset]? = some (.int k a') by rw [h1]; rfl), Result.andThen_ok, run_equalIn_int w 9998 f.type k k1 a a' e1]
      by_cases ha : a = a'
      · subst ha
        simp only [BEq.rfl, Bool.not_true, Bool.false_eq_true, if_false, Bool.true_and]
        unfold Op.eqFields
        rw [if_pos h4]
        simp only [Sem.run_bind, run_part_int e2 (show (#[Value.int k a, .int k b])[g.offset]? = some (.int k b) by rw [h2]; rfl), run_part_int e2 (show (#[Value.int k a, .int k b'])[g.offset]? = some (.int k b') by rw [h2]; rfl), Result.andThen_ok, run_equalIn_int w 9998 g.type k k2 b b' e2]
        by_cases hb : b = b'
        · subst hb; simp [Op.eqFields]
        · have : (b == b') = false := by simp [hb]
          rw [this]; simp
      · have : (a == a') = false := by simp [ha]
        rw [this]; simp
    · cases h
  · cases h
section
variable {P : Program} {R : Mem} {l : Env} {d : Option Nat} {ty t t' : TypeId} {pos : String} {af : Array Edge} {g : Option (Nat × Bool)} {x y : Operand} {k : IntKind} {a b a' b' : Int}
theorem q_twoNe (hx : ev l x = some (.agg #[.int k a, .int k b])) (hy : ev l y = some (.agg #[.int k a', .int k b'])) (ht : twoT P t = true) :
    OpQ P R ⟨d, .binOp .neq t x y t', ty, pos, af, g⟩ l (.bool !(a == a' && b == b')) := fun N A w ha hw => by
  obtain ⟨h1, h2⟩ := run_two ht k a b a' b' w
  simp only [execOp, ha.ev hx, ha.ev hy, Sem.run_bind, run_eqGuard_agg w _ _ _ _ _ _ h1, Result.andThen_ok, run_neq_struct]
  simp only [h2, Result.andThen_ok, Sem.run_pure]
variable {v u : Value} {xs : List Value} {n j sz off m : Nat} {R' : Mem}
/-- A field of a field of an element. -/
theorem q_fldVV {f : Nat} {s : TypeId} (hx : ev l x = some (vAt 1 j v)) (h : Rd R' sz v n xs) (hn : 0 < n) (hf : fieldOff P s f = some off) : OpQ P R ⟨d, .fieldAddr s x f, ty, pos, af, g⟩ l (vAt 1 (j + off) v) := by
  obtain ⟨p, c, rfl, h2, h3, h4⟩ := h
  rcases h4 with h4 | ⟨b, o, cs, e', fr, rfl, hb, hx'⟩
  · omega
  · simp only [vAt, Addr.add_mid, Nat.mul_one] at hx ⊢
    exact q_fieldAddrN _ hx hf (by omega)
/-- Some cells of an element. -/
theorem q_ldVC {cs : List Value} (hx : ev l x = some (vAt 1 j v)) (ht : rowT P t = some m) (h : Rd R sz v n xs) (hn : 0 < n) (hl : cs.length = m) (hc : ∀ i u, cs[i]? = some u → xs[j + i]? = some u) : OpQ P R ⟨d, .load t x, ty, pos, af, g⟩ l (.agg cs.toArray) := by
  obtain ⟨p, c, rfl, h2, h3, h4⟩ := h
  rcases h4 with h4 | ⟨b, o, cs', e', fr, rfl, hb, hx'⟩
  · omega
  · simp only [vAt, Addr.add_mid] at hx
    refine q_loadR (b := b) (o := o + j * 1) hx ht hb hl fun i u hi => ?_
    rw [Nat.mul_one, Nat.add_assoc]; exact hx' _ u (hc i u hi)
end
end Go.Px

