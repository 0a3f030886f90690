/- Part 18 of the texts of this claim, one behind the other. -/
import Derived.Test.YtphcaiplgpmnnaaGreatDoorB17
set_option linter.unusedVariables false
set_option linter.unusedSimpArgs false
set_option maxRecDepth 100000
namespace Go.Proofs.YtphcaiplgpmnnaaGreatDoor
open Go.Px
/-- Owned keys, taken apart; where all of it is known they are keys that are read. -/
theorem Kys.ex2 {R : Mem} {kb : Nat} {k : Ks} {M : Mem} (h : Kys R kb k M) : ∃ (va vg vs vo vm : Value) (rs ro rm : List (List Value)) (Bs Bo Bm : Mem), M = (kb, blk [.int .i64 k.user, .int .i64 k.dev, va, vg, vs, vo, .int .u32 ((k.next : Nat) : Int), vm] 96) :: (Bs ++ (Bo ++ Bm)) ∧
    (By R va k.agree ∧ By R vg k.sign ∧ Sl 3 vs k.signed.length rs.flatten Bs ∧ RwL prR R rs k.signed ∧ Sl 3 vo k.once.length ro.flatten Bo ∧ RwL prR R ro k.once ∧ Sl 2 vm k.met.length rm.flatten Bm ∧ RwL nmR R rm k.met ∧ k.next < 4294967296 ∧ k.signed.length ≤ 2 ∧ k.once.length ≤ 100 ∧ k.met.length ≤ 100000) ∧
    ∀ R', (∀ x, x ∈ R → x ∈ R') → (∀ x, x ∈ M → x ∈ R') → KyR R' kb k va vg vs vo vm rs ro rm := by
  obtain ⟨va, vg, vs, vo, vm, rs, ro, rm, Bs, Bo, Bm, h1, h2, h3, h4, h5, h6, h7, h8, h9, h10, h11, h12, h13⟩ := h.ex
  refine ⟨va, vg, vs, vo, vm, rs, ro, rm, Bs, Bo, Bm, h1, ⟨h2, h3, h4, h5, h6, h7, h8, h9, h10, h11, h12, h13⟩, fun R' hR hM => ?_⟩
  subst h1
  exact ⟨hM _ List.mem_cons_self, h2.mono hR, h3.mono hR, h4.rd fun x hx => hM x (by simp [hx]), h5.mono prT hR, h6.rd fun x hx => hM x (by simp [hx]), h7.mono prT hR, h8.rd fun x hx => hM x (by simp [hx]), h9.mono nmT hR, by omega, by omega, by omega, by omega⟩
def useK (k : Ks) (n : Nat) : Ks := { k with once := k.once.filter fun x => !tstP n x }
def meetK (k : Ks) (n : Nat) (w : List Nat) : Ks := if (getP k.signed n).isSome && !decide (0 ≤ fidxL (tstN n w) k.met) then { k with met := k.met ++ [⟨n, w⟩] } else k
theorem getP_mem {l : List Pr} {n : Nat} : (getP l n).isSome = decide (n ∈ l.map (·.n)) := by
  rcases fidxL_cases (tstP n) l with ⟨h1, h2⟩ | ⟨i, x, h1, h2, h3, h4⟩
  · rw [getP_no h1]
    symm
    refine decide_eq_false fun h => ?_
    obtain ⟨x, hx, e⟩ := List.mem_map.1 h
    have := h2 x hx
    simp [tstP, e] at this
  · rw [getP_yes h1 h2]
    symm
    have e : x.n = n := by simpa [tstP] using h3
    exact decide_eq_true (List.mem_map.2 ⟨x, List.mem_of_getElem? h2, e⟩)
theorem useK_no {k : Ks} {n : Nat} (h : (getP k.once n).isSome = false) : useK k n = k := by
  have h2 : k.once.filter (fun x => !tstP n x) = k.once := by
    refine List.filter_eq_self.2 fun x hx => ?_
    rw [getP_mem] at h
    have h3 := of_decide_eq_false h
    have : x.n ≠ n := fun e => h3 (List.mem_map.2 ⟨x, hx, e⟩)
    simp [tstP, this]
  unfold useK; rw [h2]
theorem use_cloP {l : List Pr} {rows : List (List Value)} {n b : Nat} {A : Mem} (hR : RwL prR A rows l) (hb : (b, blk [.int .u32 ((n : Nat) : Int)] 22) ∈ A) :
    ∀ (j : Nat) (r : List Value), rows[j]? = some r → FnV Tryz.prog 62 (.agg r.toArray :: [.pointer (some ⟨b, 0, none⟩)]) A (.bool ((fun j => (l[j]?.map (tstP n)).getD false) j)) := fun j r hr => by
  obtain ⟨x, hx, vs, vg, rfl, hs, hg, _⟩ := hR.of hr
  dsimp only
  rw [hx]
  exact usec_spec vs vg x n b _ hs hg hb
def secL (k : Ks) : List (List Nat) := k.agree :: k.sign :: (k.signed ++ k.once).map (·.sec)

theorem use_f (kb : Nat) (k : Ks) (n : Nat) (MK A : Mem) (hK : Kys A kb k MK) (hrise : Rise k.once) : FnX Tryz.prog 20 [.pointer (some ⟨kb, 0, none⟩), .int .u32 ((n : Nat) : Int)] MK A fun q M J => q = .bool (getP k.once n).isSome ∧ Kys (J ++ A) kb (useK k n) M := by
 obtain ⟨va, vg, vq, vo, vm, rs, ro, rm, Bs, Bo, Bm, rfl, ⟨hva, hvg, hss, hrs, hso, hro, hsm, hrm, hn1, hn2, hn3, hn4⟩, hr⟩ := hK.ex2
 haveI := hva.cel
 haveI := hvg.cel
 haveI := hss.cel
 haveI := hso.cel
 haveI := hsm.cel
 refine FnX.enterZ (N := 24) Tryz.func20 rfl rfl rfl fun w_ => ?_
 refine XC.keep (kq 0 (kq 1 kn)) ?_
 refine XC.reg ?_
 refine XL.lo rfl (bx_ fun b3 => ?_)
 refine as_ ?_
 refine XL.fin (kq 0 (kq 3 kn)) ?_
 refine XC.seq ?_
 refine XC.reg ?_
 refine mv_ ?_
 refine XL.q ql_ rfl ?_
 refine XL.call (aS rfl (aS rfl a0)) (by kernel_rfl) (once_f kb k va vg vq vo vm rs ro rm n _ (hr _ SubC.sub SubC.sub) hrise) rfl ?_
 rintro v10 M10 J10 ⟨rfl, q, rfl, hq⟩
 haveI := hq.cel
 refine mv_ ?_
 refine XL.q (q_x0 rfl) rfl ?_
 refine XL.q (q_x1 rfl) rfl ?_
 refine as_ (as_ ?_)
 refine XL.fin (kq 0 (kq 3 (kq 6 kn))) ?_
 cases hg : (getP k.once n).isSome
 ·
  refine XC.reg ?_
  refine mv_ ?_
  refine XL.q (q_not rfl) rfl ?_
  refine XL.fin (kq 0 (kq 3 (kq 14 kn))) ?_
  refine XC.condT rfl ?_
  refine XC.reg ?_
  refine as_ ?_
  refine XL.fin (kq 4 kn) ?_
  refine XC.ret ?_
  refine tr ?_
  exact ⟨_, (kb, blk [.int .i64 k.user, .int .i64 k.dev, va, vg, vq, vo, .int .u32 ((k.next : Nat) : Int), vm] 96) :: (Bs ++ (Bo ++ Bm)), [], res1 rfl rfl, Fit.none (Fit.pick (B := [_]) PickC.perm (Fit.last PickC.perm)), rfl, by rw [useK_no hg]; exact ⟨⟨va, vg, vq, vo, vm, rs, ro, rm, Bs, Bo, Bm, rfl, hva.mono SubC.sub, hvg.mono SubC.sub, hss, hrs.mono prT SubC.sub, hso, hro.mono prT SubC.sub, hsm, hrm.mono nmT SubC.sub, hn1, hn2, hn3, hn4⟩⟩⟩
 ·
  refine XC.reg ?_
  refine mv_ ?_
  refine XL.q (q_not rfl) rfl ?_
  refine XL.fin (kq 0 (kq 3 (kq 14 kn))) ?_
  refine XC.condF rfl ?_
  refine XC.skip ?_
  refine nx (kq 0 (kq 3 kn)) ?_
  refine XC.reg ?_
  refine mv_ (mv_ ?_)
  refine XL.q (q_nil rfl) rfl ?_
  refine XL.q (qf_ 5 5) rfl ?_
  refine XL.q ql_ rfl ?_
  refine XL.q (q_mkFunc (aS rfl a0)) rfl ?_
  refine XL.lo rfl (l_call (Mc := Bo) (R := _) (aS rfl (aS rfl a0)) (by kernel_rfl) PickC.perm (by rw [← hro.len] at hso; exact delfn_Pair vo ro 62 [.pointer (some ⟨b3, 0, none⟩)] (fun j => (k.once[j]?.map (tstP n)).getD false) Bo _ hso (hro.lens prT) (hro.ones prT) (by rw [hro.len]; omega) (by kernel_rfl) (use_cloP (hro.mono prT SubC.sub) At.mem)) rfl ?_)
  rintro v21 M21 J21 h21
  haveI := h21.cel
  refine XL.q (q_nil rfl) rfl ?_
  refine XL.q (qf_ 5 5) rfl ?_
  refine XL.lo rfl (l_store rfl rfl h21.one (by kernel_rfl) SetC.set UpC.upd ?_)
  refine XL.fin kn ?_
  refine XC.reg ?_
  refine as_ ?_
  refine XL.fin (kq 4 kn) ?_
  refine XC.ret ?_
  have hkm := hro.kpt (fun j => (k.once[j]?.map (tstP n)).getD false) ro.length
  rw [kpt_filter, hro.len, List.take_length] at hkm
  rw [hro.len] at h21
  have hkl : (k.once.filter fun x => !tstP n x).length ≤ 100 := Nat.le_trans (List.length_filter_le _ _) hn3
  refine ⟨_, (kb, blk [.int .i64 k.user, .int .i64 k.dev, va, vg, vq, v21, .int .u32 ((k.next : Nat) : Int), vm] 96) :: (Bs ++ (M21 ++ Bm)), [], res1 rfl rfl, Fit.none (Fit.pick (B := [_]) PickC.perm (Fit.pick PickC.perm (Fit.pick PickC.perm (Fit.last PickC.perm)))), rfl, ⟨⟨va, vg, vq, v21, vm, rs, _, rm, Bs, M21, Bm, rfl, hva.mono SubC.sub, hvg.mono SubC.sub, hss, hrs.mono prT SubC.sub, ?_, hkm.mono prT SubC.sub, hsm, hrm.mono nmT SubC.sub, hn1, hn2, hkl, hn4⟩⟩⟩
  rw [hkm.len] at h21
  exact h21

theorem grow_f (m : Nat) (A : Mem) (hm : m ≤ 1000000) : FnX Tryz.prog 105 [.slice none 0 0, .int .i64 ((m : Nat) : Int)] [] A fun q M J => Sl 3 q 0 [] M := by
 refine FnX.enterZ (N := 27) Tryz.func105 rfl rfl rfl fun w_ => ?_
 refine XC.keep (kq 0 (kq 1 kn)) ?_
 refine XC.reg ?_
 refine as_ ?_
 refine XL.fin (kq 0 (kq 1 kn)) ?_
 refine XC.seq ?_
 refine XC.reg ?_
 refine mv_ ?_
 refine XL.q (q_cmp false rfl rfl (ltF (by omega))) rfl ?_
 refine XL.fin (kq 0 (kq 1 (kq 6 kn))) ?_
 refine XC.condF rfl ?_
 refine XC.skip ?_
 refine nx (kq 0 (kq 1 kn)) ?_
 refine XC.join (α := Value × Mem) (fun y => [(0, y.1)]) (fun y => y.2) (fun _ => []) (fun y => Sl 3 y.1 0 [] y.2) ?_ ?_
 ·
  refine XC.reg ?_
  refine mv_ (mv_ ?_)
  refine XL.q (q_capS (e := 98) rfl (by kernel_rfl)) rfl ?_
  refine mv_ ?_
  refine XL.q (q_lenS (e := 98) rfl (by kernel_rfl)) rfl ?_
  refine XL.q (q_num (0 : Int) rfl rfl (sub64 (by decide) (by decide) (by decide))) rfl ?_
  refine XL.q (q_num (m : Int) rfl rfl (sub64 (by omega) (by omega) (by omega))) rfl ?_
  refine as_ ?_
  refine XL.fin (kq 0 (kq 1 kn)) ?_
  refine XC.reg ?_
  refine mv_ ?_
  refine XL.q (q_bin rfl rfl rfl) rfl ?_
  refine XL.fin (kq 0 (kq 1 (kq 16 kn))) ?_
  refine XC.cond rfl (fun hc => ?_) (fun hc => ?_)
  ·
   have hm0 : 0 < m := by simp at hc; omega
   refine XC.reg1 ?_
   refine mv_ (mv_ ?_)
   refine XL.q (q_capS (e := 98) rfl (by kernel_rfl)) rfl ?_
   refine XL.q (q_hiV2 (sz := 3) (a := 0) rfl rfl (by kernel_rfl) rfl (Rd.nil (R := [])) (by decide)) rfl ?_
   refine mv_ ?_
   refine XL.lo rfl (l_appendZN (m := m) rfl rfl rfl (e := 98) (zs := [.int .u32 0, .slice none 0 0, .slice none 0 0]) (by_ := 56) (by kernel_rfl) (by unfold maxLen; omega) (by omega) rfl fun v22 B22 hs22 => ?_)
   haveI := hs22.cel
   refine mv_ ?_
   refine XL.q (q_lenS (e := 98) rfl (by kernel_rfl)) rfl ?_
   refine XL.q (q_hiV2 (sz := 3) (a := 0) rfl rfl (by kernel_rfl) rfl (hs22.rd (R := B22) fun _ h => h) (by omega)) rfl ?_
   refine as_ ?_
   refine XL.nil ?_
   exact jn (vHi 0 v22, B22) (by simpa using hs22.hiV 0 (by omega)) (kq 0 kn) (Fit.last PickC.perm) (fun _ h => h)
  ·
   have hm0 : m = 0 := by simp at hc; omega
   refine XC.skip ?_
   exact jn (.slice none 0 0, []) Sl.nil (kq 0 kn) .rfl (fun _ h => h)
 ·
  rintro ⟨vj, Bj⟩ hj
  dsimp only at hj ⊢
  haveI := hj.cel
  refine XC.reg ?_
  refine mv_ (as_ ?_)
  refine XL.fin (kq 4 kn) ?_
  refine XC.ret ?_
  exact ⟨_, Bj, [], res1 rfl rfl, Fit.none (Fit.last PickC.perm), hj⟩

theorem concat_f (v v1 v2 : Value) (n1 n2 : Nat) (xs1 xs2 : List Value) (A : Mem) (hv : Rd A 1 v 2 [v1, v2]) (h1 : Rd A 3 v1 n1 xs1) (h2 : Rd A 3 v2 n2 xs2) (o1 : ∀ c ∈ xs1, c.oneCell' = true) (o2 : ∀ c ∈ xs2, c.oneCell' = true) (hn1 : n1 ≤ 10000) (hn2 : n2 ≤ 10000) : FnX Tryz.prog 68 [v] [] A fun q M J => Sl 3 q (n1 + n2) (xs1 ++ xs2) M := by
 haveI := hv.cel
 haveI := h1.cel
 haveI := h2.cel
 refine FnX.enterZ (N := 36) Tryz.func68 rfl rfl rfl fun w_ => ?_
 refine XC.keep (kq 0 kn) ?_
 refine XC.reg ?_
 refine as_ ?_
 refine XL.fin (kq 0 kn) ?_
 refine XC.reg ?_
 refine as_ ?_
 refine XL.fin (kq 0 (kq 3 kn)) ?_
 refine XC.seq ?_
 refine XC.reg ?_
 refine mv_ ?_
 refine XL.q (q_lenV2 (sz := 1) rfl (by kernel_rfl) hv) rfl ?_
 refine mv_ ?_
 refine XL.fin (kq 0 (kq 3 (kq 9 (kq 10 (kq 11 kn))))) ?_
 refine XC.block ?_
 refine XC.rounds 3 ?_
 refine XR.step ?_
 refine XC.reg ?_
 refine XL.q (q_cmp true rfl rfl (ltT (by decide))) rfl ?_
 refine XL.fin (kq 0 (kq 3 (kq 9 (kq 10 (kq 11 (kq 12 kn)))))) ?_
 refine XC.seq ?_
 refine XC.condT rfl ?_
 refine XC.skip ?_
 refine nx (kq 0 (kq 3 (kq 9 (kq 10 (kq 11 kn))))) ?_
 refine XC.seq ?_
 refine XC.block ?_
 refine XC.reg ?_
 refine XL.q (q_atV2 (sz := 1) (a := 0) rfl rfl (by kernel_rfl) rfl hv (by decide)) rfl ?_
 refine XL.q (q_ldV (u := v1) (hv.mono SubC.sub) rfl (by kernel_rfl) rfl) rfl ?_
 refine as_ ?_
 refine XL.fin (kq 0 (kq 3 (kq 5 (kq 9 (kq 10 (kq 11 kn)))))) ?_
 refine XC.reg ?_
 refine mv_ (mv_ ?_)
 refine XL.q (q_lenV2 (sz := 3) rfl (by kernel_rfl) h1) rfl ?_
 refine XL.q (q_num ((n1 : Nat) : Int) rfl rfl (add64 (by omega) (by omega) (by omega))) rfl ?_
 refine as_ ?_
 refine XL.fin (kq 0 (kq 3 (kq 9 (kq 10 (kq 11 kn))))) ?_
 refine XC.reg ?_
 refine mv_ ?_
 refine XL.q (q_cmp false rfl rfl (ltF (by omega))) rfl ?_
 refine XL.fin (kq 0 (kq 3 (kq 9 (kq 10 (kq 11 (kq 20 kn)))))) ?_
 refine XC.condF rfl ?_
 refine XC.skip ?_
 refine nb ?_
 refine nx (kq 0 (kq 3 (kq 9 (kq 10 (kq 11 kn))))) ?_
 refine XC.reg1 ?_
 refine XL.q (q_num (1 : Int) rfl rfl (add64 (by decide) (by decide) (by decide))) rfl ?_
 refine mv_ ?_
 refine XL.nil ?_
 refine un (kq 0 (kq 3 (kq 9 (kq 10 (kq 11 kn))))) ?_
 refine XR.step ?_
 refine XC.reg ?_
 refine XL.q (q_cmp true rfl rfl (ltT (by decide))) rfl ?_
 refine XL.fin (kq 0 (kq 3 (kq 9 (kq 10 (kq 11 (kq 12 kn)))))) ?_
 refine XC.seq ?_
 refine XC.condT rfl ?_
 refine XC.skip ?_
 refine nx (kq 0 (kq 3 (kq 9 (kq 10 (kq 11 kn))))) ?_
 refine XC.seq ?_
 refine XC.block ?_
 refine XC.reg ?_
 refine XL.q (q_atV2 (sz := 1) (a := 1) rfl rfl (by kernel_rfl) rfl hv (by decide)) rfl ?_
 refine XL.q (q_ldV (u := v2) (hv.mono SubC.sub) rfl (by kernel_rfl) rfl) rfl ?_
 refine as_ ?_
 refine XL.fin (kq 0 (kq 3 (kq 5 (kq 9 (kq 10 (kq 11 kn)))))) ?_
 refine XC.reg ?_
 refine mv_ (mv_ ?_)
 refine XL.q (q_lenV2 (sz := 3) rfl (by kernel_rfl) h2) rfl ?_
 refine XL.q (q_num ((n1 + n2 : Nat) : Int) rfl rfl (add64 (by omega) (by omega) (by omega))) rfl ?_
 refine as_ ?_
 refine XL.fin (kq 0 (kq 3 (kq 9 (kq 10 (kq 11 kn))))) ?_
 refine XC.reg ?_
 refine mv_ ?_
 refine XL.q (q_cmp false rfl rfl (ltF (by omega))) rfl ?_
 refine XL.fin (kq 0 (kq 3 (kq 9 (kq 10 (kq 11 (kq 20 kn)))))) ?_
 refine XC.condF rfl ?_
 refine XC.skip ?_
 refine nb ?_
 refine nx (kq 0 (kq 3 (kq 9 (kq 10 (kq 11 kn))))) ?_
 refine XC.reg1 ?_
 refine XL.q (q_num (2 : Int) rfl rfl (add64 (by decide) (by decide) (by decide))) rfl ?_
 refine mv_ ?_
 refine XL.nil ?_
 refine un (kq 0 (kq 3 (kq 9 (kq 10 (kq 11 kn))))) ?_
 refine XR.step ?_
 refine XC.reg ?_
 refine XL.q (q_cmp false rfl rfl (ltF (by decide))) rfl ?_
 refine XL.fin (kq 0 (kq 3 (kq 9 (kq 10 (kq 11 (kq 12 kn)))))) ?_
 refine XC.seq ?_
 refine XC.condF rfl ?_
 refine XC.exit ?_
 refine te ?_
 refine ue ?_
 refine be rfl ?_
 refine nx (kq 0 (kq 3 kn)) ?_
 refine XC.reg ?_
 refine mv_ ?_
 refine XL.lo rfl (l_call0 (aS rfl (aS rfl a0)) (by kernel_rfl) (grow_f (n1 + n2) _ (by omega)) rfl ?_)
 rintro v24 M24 J24 hs24
 haveI := hs24.cel
 refine as_ ?_
 refine XL.fin (kq 0 (kq 6 kn)) ?_
 refine XC.seq ?_
 refine XC.reg ?_
 refine mv_ ?_
 refine XL.q (q_lenV2 (sz := 1) rfl (by kernel_rfl) hv) rfl ?_
 refine mv_ ?_
 refine XL.fin (kq 6 (kq 25 (kq 26 (kq 27 kn)))) ?_
 refine XC.block ?_
 refine XC.rounds 3 ?_
 refine XR.step ?_
 refine XC.reg ?_
 refine XL.q (q_cmp true rfl rfl (ltT (by decide))) rfl ?_
 refine XL.fin (kq 6 (kq 25 (kq 26 (kq 27 (kq 28 kn))))) ?_
 refine XC.seq ?_
 refine XC.condT rfl ?_
 refine XC.skip ?_
 refine nx (kq 6 (kq 25 (kq 26 (kq 27 kn)))) ?_
 refine XC.seq ?_
 refine XC.block ?_
 refine XC.reg ?_
 refine XL.q (q_atV2 (sz := 1) (a := 0) rfl rfl (by kernel_rfl) rfl hv (by decide)) rfl ?_
 refine XL.q (q_ldV (u := v1) (hv.mono SubC.sub) rfl (by kernel_rfl) rfl) rfl ?_
 refine as_ ?_
 refine XL.fin (kq 6 (kq 8 (kq 25 (kq 26 (kq 27 kn))))) ?_
 refine XC.reg1 ?_
 refine mv_ (mv_ ?_)
 refine XL.lo rfl (l_append2 (e := 98) (sz := 3) (by_ := 56) rfl rfl (by kernel_rfl) rfl hs24 (h1.mono SubC.sub) o1 PickC.perm (by unfold maxLen; omega) (by omega) rfl fun v33 B33 hs33 => ?_)
 haveI := hs33.cel
 refine as_ ?_
 refine XL.nil ?_
 refine nb ?_
 refine nx (kq 6 (kq 25 (kq 26 (kq 27 kn)))) ?_
 refine XC.reg1 ?_
 refine XL.q (q_num (1 : Int) rfl rfl (add64 (by decide) (by decide) (by decide))) rfl ?_
 refine mv_ ?_
 refine XL.nil ?_
 refine un (kq 6 (kq 25 (kq 26 (kq 27 kn)))) ?_
 refine XR.step ?_
 refine XC.reg ?_
 refine XL.q (q_cmp true rfl rfl (ltT (by decide))) rfl ?_
 refine XL.fin (kq 6 (kq 25 (kq 26 (kq 27 (kq 28 kn))))) ?_
 refine XC.seq ?_
 refine XC.condT rfl ?_
 refine XC.skip ?_
 refine nx (kq 6 (kq 25 (kq 26 (kq 27 kn)))) ?_
 refine XC.seq ?_
 refine XC.block ?_
 refine XC.reg ?_
 refine XL.q (q_atV2 (sz := 1) (a := 1) rfl rfl (by kernel_rfl) rfl hv (by decide)) rfl ?_
 refine XL.q (q_ldV (u := v2) (hv.mono SubC.sub) rfl (by kernel_rfl) rfl) rfl ?_
 refine as_ ?_
 refine XL.fin (kq 6 (kq 8 (kq 25 (kq 26 (kq 27 kn))))) ?_
 refine XC.reg1 ?_
 refine mv_ (mv_ ?_)
 refine XL.lo rfl (l_append2 (e := 98) (sz := 3) (by_ := 56) rfl rfl (by kernel_rfl) rfl hs33 (h2.mono SubC.sub) o2 PickC.perm (by unfold maxLen; omega) (by omega) rfl fun v34 B34 hs34 => ?_)
 haveI := hs34.cel
 refine as_ ?_
 refine XL.nil ?_
 refine nb ?_
 refine nx (kq 6 (kq 25 (kq 26 (kq 27 kn)))) ?_
 refine XC.reg1 ?_
 refine XL.q (q_num (2 : Int) rfl rfl (add64 (by decide) (by decide) (by decide))) rfl ?_
 refine mv_ ?_
 refine XL.nil ?_
 refine un (kq 6 (kq 25 (kq 26 (kq 27 kn)))) ?_
 refine XR.step ?_
 refine XC.reg ?_
 refine XL.q (q_cmp false rfl rfl (ltF (by decide))) rfl ?_
 refine XL.fin (kq 6 (kq 25 (kq 26 (kq 27 (kq 28 kn))))) ?_
 refine XC.seq ?_
 refine XC.condF rfl ?_
 refine XC.exit ?_
 refine te ?_
 refine ue ?_
 refine be rfl ?_
 refine nx (kq 6 kn) ?_
 refine XC.reg ?_
 refine mv_ (as_ ?_)
 refine XL.fin (kq 2 kn) ?_
 refine XC.ret ?_
 exact ⟨_, B34, [], res1 rfl rfl, Fit.none (Fit.last PickC.perm), by simpa using hs34⟩

theorem secL_len (k : Ks) : (secL k).length = (k.signed ++ k.once).length + 2 := by simp [secL]
theorem secL_take {k : Ks} {i : Nat} {x : Pr} (h : (k.signed ++ k.once)[i]? = some x) : (secL k).take (i + 2 + 1) = (secL k).take (i + 2) ++ [x.sec] := by
  rw [List.take_add_one]
  have e : (secL k)[i + 2]? = some x.sec := by
    unfold secL
    rw [List.getElem?_cons_succ, List.getElem?_cons_succ, List.getElem?_map, h]; rfl
  rw [e]; rfl

theorem secrets_f (kb : Nat) (k : Ks) (va vg vq vo vm : Value) (rs ro rm : List (List Value)) (A : Mem) (hK : KyR A kb k va vg vq vo vm rs ro rm) (hl1 : k.signed.length ≤ 10000) (hl2 : k.once.length ≤ 10000) : FnX Tryz.prog 24 [.pointer (some ⟨kb, 0, none⟩)] [] A fun q M J => M = [] ∧ LsV (J ++ A) q (secL k) := by
 have hkb := hK.blk_
 haveI := hK.agree.cel
 haveI := hK.sign.cel
 haveI := hK.signed.cel
 haveI := hK.once.cel
 haveI := hK.met.cel
 refine FnX.enterZ (N := 36) Tryz.func24 rfl rfl rfl fun w_ => ?_
 refine XC.keep (kq 0 kn) ?_
 refine XC.reg ?_
 refine as_ ?_
 refine XL.fin (kq 0 kn) ?_
 refine XC.seq ?_
 refine XC.reg ?_
 refine mv_ ?_
 refine XL.q (q_ptrEqNil (e := 96) rfl rfl (by kernel_rfl)) rfl ?_
 refine XL.fin (kq 0 (kq 7 kn)) ?_
 refine XC.condF rfl ?_
 refine XC.skip ?_
 refine nx (kq 0 kn) ?_
 refine XC.reg ?_
 refine mv_ ?_
 refine XL.call (aS rfl a0) (by kernel_rfl) (kagree_f kb k va vg vq vo vm rs ro rm _ (hK.mono SubC.sub)) rfl ?_
 rintro v9 M9 J9 ⟨rfl, h9⟩
 haveI := h9.cel
 refine mv_ ?_
 refine XL.call (aS rfl a0) (by kernel_rfl) (ksign_f kb k va vg vq vo vm rs ro rm _ (hK.mono SubC.sub)) rfl ?_
 rintro v11 M11 J11 ⟨rfl, h11⟩
 haveI := h11.cel
 refine XL.lo rfl (l_buildSlice (e := 23) (sz := 1) (z := [.slice none 0 0, .slice none 0 0]) (by kernel_rfl) (eS rfl (eS rfl e0)) (bdS 0 1 rfl (by rfl) (bdS 1 1 rfl (by rfl) bd0)) rfl fun b12 => ?_)
 refine as_ ?_
 refine XL.fin (kq 0 (kq 3 kn)) ?_
 refine XC.seq ?_
 refine XC.drawF [0, 1, 2, 3, 4, 5, 6, 7, 8, 9, 10, 11] [(0, 0), (1, 0), (2, 0), (3, 1), (4, 0), (5, 0), (6, 0), (7, 1), (11, 0), (8, 2), (9, 2), (10, 0)] (by kernel_rfl) (by kernel_rfl) fun hs => ?_
 refine XF.q hs rfl qm_ rfl ?_
 refine XF.q hs rfl (q_nil rfl) rfl ?_
 refine XF.q hs rfl (qf_ 4 4) rfl ?_
 refine XF.r hs rfl (q_load rfl (by kernel_rfl) (mA hkb) (by rfl)) rfl ?_
 refine XF.q hs rfl qm_ rfl ?_
 refine XF.q hs rfl (q_nil rfl) rfl ?_
 refine XF.q hs rfl (qf_ 5 5) rfl ?_
 refine XF.r hs rfl (q_load rfl (by kernel_rfl) (mA hkb) (by rfl)) rfl ?_
 refine XF.q hs rfl qm_ rfl ?_
 refine XF.lo rfl rfl fun _ => (l_buildSlice (e := 93) (sz := 1) (z := [.slice none 0 0, .slice none 0 0]) (by kernel_rfl) (eS rfl (eS rfl e0)) (bdS 0 1 rfl (by rfl) (bdS 1 1 rfl (by rfl) bd0)) rfl fun b21 => ?_)
 refine XF.call rfl (aS rfl a0) (by kernel_rfl) (concat_f (.slice (some ⟨b21, 0, none⟩) 2 2) vq vo k.signed.length k.once.length rs.flatten ro.flatten _ (Rd.whole (n := 2) At.mem (by rfl)) (hK.signed.mono SubC.sub) (hK.once.mono SubC.sub) (hK.signedR.ones prT) (hK.onceR.ones prT) hl1 hl2) rfl ?_
 rintro v22 M22 J22 hs22
 haveI := hs22.cel
 refine XF.frz (B := M22) PickC.perm ?_
 have hr22 := hs22.rd (R := M22) fun _ h => h
 rw [← List.flatten_append, ← List.length_append] at hr22
 have hll : (k.signed ++ k.once).length ≤ 20000 := by rw [List.length_append]; omega
 have hsl := secL_len k
 have hpr := hK.signedR.app hK.onceR
 obtain ⟨pl, hpl⟩ : ∃ pl, k.signed ++ k.once = pl := ⟨_, rfl⟩
 rw [hpl] at hr22 hll hsl hpr
 refine XF.q hs rfl (q_lenV2 (sz := 3) rfl (by kernel_rfl) hr22) rfl ?_
 refine XF.fin (kq 3 (kq 22 (kq 23 (kq 24 kn)))) ?_
 refine XC.block ?_
 refine XC.loop (α := Nat × Value × List Value × Mem × Mem) (fun y => [(3, y.2.1), (22, v22), (23, .int .i64 ((pl.length : Nat) : Int)), (24, .int .i64 ((y.1 : Nat) : Int))]) (fun y => y.2.2.2.1) (fun y => y.2.2.2.2) (fun y => y.1 ≤ pl.length ∧ Sl 1 y.2.1 (y.1 + 2) y.2.2.1 y.2.2.2.1 ∧ Lst (y.2.2.2.2 ++ A) y.2.2.1 ((secL k).take (y.1 + 2)) ∧ ∀ z, z ∈ M22 → z ∈ y.2.2.2.2) (fun y => pl.length - y.1) (0, .slice (some ⟨b12, 0, none⟩) 2 2, [v9, v11], [(b12, _)], _) ⟨Nat.zero_le _, Sl.fresh (n := 2) (cs := [v9, v11]) (e := 23) rfl (by decide), Lst.cons (h9.mono SubC.sub) (Lst.cons (h11.mono SubC.sub) Lst.nil), fun z hz => by simp [hz]⟩ (kq 3 (kq 22 (kq 23 (kq 24 kn)))) (Fit.last PickC.perm) (fun _ h => h) ?_
 rintro ⟨i, vi, us, Bi, Ji⟩ ⟨hi, hsi, hli, hJi⟩
 dsimp only at hi hsi hli hJi ⊢
 haveI := hsi.cel
 refine XC.reg ?_
 refine XL.q (q_bin rfl rfl rfl) rfl ?_
 refine XL.fin (kq 3 (kq 22 (kq 23 (kq 24 (kq 25 kn))))) ?_
 refine XC.seq ?_
 refine XC.cond rfl (fun hc => ?_) (fun hc => ?_)
 ·
  have hlt : i < pl.length := by simp at hc; omega
  obtain ⟨o, ho⟩ : ∃ o, pl[i]? = some o := ⟨_, List.getElem?_eq_getElem hlt⟩
  obtain ⟨r1, hr1, vo1, vo2, rfl, ho1, ho2, hon⟩ := hpr.get i o ho
  haveI := ho1.cel
  haveI := ho2.cel
  have hst := secL_take (k := k) (i := i) (x := o) (by rw [hpl]; exact ho)
  refine XC.skip ?_
  refine nx (kq 3 (kq 22 (kq 23 (kq 24 kn)))) ?_
  refine XC.seq ?_
  refine XC.block ?_
  refine XC.reg ?_
  refine XL.q (q_atV2 (sz := 3) rfl rfl (by kernel_rfl) rfl hr22 hlt) rfl ?_
  refine XL.q (q_ldVR rfl (by kernel_rfl) (hr22.mono fun z hz => by simp [hJi z hz]) (hpr.lens prT) (by decide) hr1) rfl ?_
  refine XL.lo rfl (l_alloc (cs := [.int .u32 0, .slice none 0 0, .slice none 0 0]) (by kernel_rfl) rfl fun b5 => ?_)
  refine XL.lo rfl (l_storeW (vs := [.int .u32 ((o.n : Nat) : Int), vo1, vo2]) rfl rfl rfl (by kernel_rfl) (by rfl) (allS rfl (allS ho1.one (allS ho2.one all0))) UpC.upd ?_)
  refine XL.fin (kq 3 (kq 5 (kq 22 (kq 23 (kq 24 kn))))) ?_
  refine XC.reg1 ?_
  refine mv_ ?_
  refine XL.q (qf_ 1 1) rfl ?_
  refine XL.q ql_ rfl ?_
  refine XL.call (aS rfl a0) (by kernel_rfl) (bclone_spec vo1 o.sec _ (ho1.mono SubC.sub)) rfl ?_
  rintro v31 M31 J31 ⟨rfl, h31⟩
  haveI := h31.cel
  refine XL.lo rfl (l_buildSlice (e := 23) (sz := 1) (z := [.slice none 0 0]) (by kernel_rfl) (eS rfl e0) (bdS 0 1 rfl (by rfl) bd0) rfl fun b32 => ?_)
  refine XL.lo rfl (l_append2 (e := 23) (sz := 1) (by_ := 24) rfl rfl (by kernel_rfl) rfl hsi (Rd.whole (n := 1) At.mem (by rfl)) (allS h31.one all0) PickC.perm (by unfold maxLen; omega) (by omega) rfl fun v33 B33 hs33 => ?_)
  refine as_ ?_
  refine XL.nil ?_
  refine nb ?_
  refine nx (kq 3 (kq 22 (kq 23 (kq 24 kn)))) ?_
  refine XC.reg1 ?_
  refine XL.q (q_num ((i + 1 : Nat) : Int) rfl rfl (add64 (by omega) (by omega) (by omega))) rfl ?_
  refine mv_ ?_
  refine XL.nil ?_
  exact rn (i + 1, v33, us ++ [v31], B33, _) ⟨by dsimp only; omega, by dsimp only; rw [show i + 1 + 2 = i + 2 + 1 by omega]; exact hs33, by dsimp only; rw [show i + 1 + 2 = i + 2 + 1 by omega, hst]; exact (hli.mono SubC.sub).snoc (h31.mono SubC.sub), fun z hz => by simp [hJi z hz]⟩ (by dsimp only; omega) (kq 3 (kq 22 (kq 23 (kq 24 kn)))) (Fit.last PickC.perm) (fun _ h => h)
 ·
  have hge : i = pl.length := by simp at hc; omega
  subst hge
  refine XC.exit ?_
  refine te ?_
  refine re ?_
  refine be rfl ?_
  refine nx (kq 3 kn) ?_
  refine XC.reg ?_
  refine mv_ (as_ ?_)
  refine XL.fin (kq 2 kn) ?_
  refine XC.ret ?_
  rw [List.take_of_length_le (by omega)] at hli
  exact ⟨_, [], Bi, res1 rfl rfl, Fit.pick PickC.perm (Fit.sub (List.nil_sublist _)), rfl, us, by rw [hsl]; exact hsi.rd fun x hx => by simp [hx], hli.mono SubC.sub⟩

end Go.Proofs.YtphcaiplgpmnnaaGreatDoor
/- Numbers of keys; the walks of who, open, awake. -/
namespace Go.Proofs.YtphcaiplgpmnnaaGreatDoor
open Go.Px
def snN (k : Ks) : List Nat := k.signed.map (·.n)
def onN (k : Ks) : List Nat := k.once.map (·.n)
theorem turn_sn (k : Ks) (s : Ps) : snN (turnK k s).1 = (k.next :: snN k).take 2 := by
  show List.map (fun x : Pr => x.n) ((turnP k s :: k.signed).take 2) = _
  rw [List.map_take]; rfl
theorem turn_on (k : Ks) (s : Ps) : onN (turnK k s).1 = onN k := rfl
theorem fillI_on (k : Ks) (s : Ps) : ∀ i, onN (fillI k s i).1 = onN k ++ (List.range i).map (k.next + ·)
  | 0 => by simp [fillI]
  | i + 1 => by
    have h := fillI_on k s i
    have hn := fillI_next k s i
    show List.map (fun x : Pr => x.n) ((fillI k s i).1.once ++ [_]) = _
    unfold onN at h ⊢
    rw [List.map_append, h, List.range_succ, List.map_append, ← List.append_assoc]
    simp [hn]
theorem fill_on (k : Ks) (s : Ps) : onN (fillK k s).1 = onN k ++ (List.range (4 - k.once.length)).map (k.next + ·) := fillI_on k s _
theorem fill_eq (k : Ks) (s : Ps) : (fillK k s).1 = { k with once := (fillK k s).1.once, next := k.next + (4 - k.once.length) } := fillI_eq k s _
theorem fill_sn (k : Ks) (s : Ps) : snN (fillK k s).1 = snN k := by rw [fill_eq]; rfl
theorem fill_next (k : Ks) (s : Ps) : (fillK k s).1.next = k.next + (4 - k.once.length) := by rw [fill_eq]
theorem use_on (k : Ks) (n : Nat) : onN (useK k n) = (onN k).filter fun m => !decide (m = n) := by
  show (k.once.filter _).map _ = _
  unfold onN tstP
  rw [List.filter_map]; rfl
theorem new_sn (u d : Int) (s : Ps) : snN (newK u d s).1 = [1] := by
  unfold newK; rw [fill_sn, turn_sn]; rfl
theorem new_on (u d : Int) (s : Ps) : onN (newK u d s).1 = [2, 3, 4, 5] := by
  unfold newK; rw [fill_on, turn_on]; rfl
theorem new_next (u d : Int) (s : Ps) : (newK u d s).1.next = 6 := by
  unfold newK; rw [fill_next]; rfl
theorem new_met (u d : Int) (s : Ps) : (newK u d s).1.met = [] := by
  unfold newK; rw [fill_eq]; rfl
theorem new_who (u d : Int) (s : Ps) : (newK u d s).1.user = u ∧ (newK u d s).1.dev = d := by
  unfold newK; rw [fill_eq]; exact ⟨rfl, rfl⟩
theorem sn_len (k : Ks) : (snN k).length = k.signed.length := List.length_map ..
theorem on_len (k : Ks) : (onN k).length = k.once.length := List.length_map ..
/-- Prekeys are in a rising row just if their numbers are. -/
theorem rise_of {l : List Pr} (h : (l.map (·.n)).Pairwise (· < ·)) : Rise l := by
  intro i j x y hij hx hy
  have h1 := List.pairwise_iff_getElem.1 h i j (by rw [List.length_map]; exact (List.getElem?_eq_some_iff.1 hx).1) (by rw [List.length_map]; exact (List.getElem?_eq_some_iff.1 hy).1) hij
  obtain ⟨hi, ei⟩ := List.getElem?_eq_some_iff.1 hx
  obtain ⟨hj, ej⟩ := List.getElem?_eq_some_iff.1 hy
  simp only [List.getElem_map, ei, ej] at h1
  exact h1
theorem bunI_get0 {b : Bn} {l : List Pr} {s : Ps} : ∀ {i : Nat}, i ≤ l.length → (bunI b l s i).1[0]? = some b
  | 0, _ => rfl
  | i + 1, h => by
    rw [bunI_succ (List.getElem?_eq_getElem (by omega))]
    have h1 := (bunI_len (b := b) (s := s) (l := l) (i := i) (by omega)).1
    show (_ ++ _)[0]? = _
    rw [List.getElem?_append_left (by omega)]
    exact bunI_get0 (by omega)
theorem bunI_get {b : Bn} {l : List Pr} {s : Ps} {j : Nat} {o : Pr} (ho : l[j]? = some o) : ∀ {i : Nat}, i ≤ l.length → j < i → (bunI b l s i).1[j + 1]? = some { b with has := true, once := o.n, oncek := pubK2 (bunI b l s j).2 o.sec }
  | 0, _, hj => by omega
  | i + 1, h, hj => by
    obtain ⟨x, hx⟩ : ∃ x, l[i]? = some x := ⟨_, List.getElem?_eq_getElem (by omega)⟩
    rw [bunI_succ hx]
    have h1 := (bunI_len (b := b) (s := s) (l := l) (i := i) (by omega)).1
    show (_ ++ _)[j + 1]? = _
    by_cases e : j = i
    · subst e
      rw [hx] at ho
      cases ho
      rw [List.getElem?_append_right (by omega), h1, Nat.sub_self]; rfl
    · rw [List.getElem?_append_left (by omega)]
      exact bunI_get ho (by omega) (by omega)
/-- What the bundles of some keys are. -/
theorem bunK_facts {k : Ks} {s : Ps} {x : Pr} {sl : List Pr} (h : k.signed = x :: sl) : (bunK k s).1.length = k.once.length + 1 ∧ (bunK k s).1[0]? = some (bunB k x s) ∧ (∀ (j : Nat) (o : Pr), k.once[j]? = some o → (bunK k s).1[j + 1]? = some { bunB k x s with has := true, once := o.n, oncek := pubK2 (bunI (bunB k x s) k.once (pubS2 (idS k s) x.sec) j).2 o.sec }) ∧ (bunK k s).2.ts.length ≤ s.ts.length + 6 + 2 * k.once.length := by
  have e : bunK k s = bunI (bunB k x s) k.once (pubS2 (idS k s) x.sec) k.once.length := by unfold bunK; rw [h]
  rw [e]
  have h1 := bunI_len (b := bunB k x s) (s := pubS2 (idS k s) x.sec) (l := k.once) (Nat.le_refl _)
  have h2 := idS_len k s
  have h3 := pubS2_len (idS k s) x.sec
  exact ⟨h1.1, bunI_get0 (Nat.le_refl _), fun j o ho => bunI_get ho (Nat.le_refl _) (List.getElem?_eq_some_iff.1 ho).1, by omega⟩
theorem md_mod (m : Nat) : ((m % 2 : Nat) : Int) = md (m % 2 == 0) := by
  rcases (by omega : m % 2 = 0 ∨ m % 2 = 1) with h | h <;> rw [h] <;> rfl
def opK (m : Nat) : Ps := ⟨m % 2 == 0, [107, 101, 121, 115], 0, []⟩

theorem who12_f (a b : Nat) (A : Mem) (ha : a < 256) (hb : b < 256) : FnV Tryz.prog 17 [.int .u8 ((a : Nat) : Int), .int .u8 ((b : Nat) : Int)] A (.agg #[.int .i64 ((a % 8 : Nat) : Int), .int .i64 ((b : Nat) : Int)]) := by
 refine FnX.enter (N := 11) Tryz.func17 rfl rfl rfl fun w => ?_
 refine XC.keep (kq 0 (kq 1 kn)) ?_
 refine XC.reg ?_
 refine XL.lo rfl (l_alloc (cs := [.int .i64 0, .int .i64 0]) (by kernel_rfl) rfl fun b4 => ?_)
 refine XL.fin (kq 0 (kq 1 (kq 4 kn))) ?_
 refine XC.reg ?_
 refine mv_ ?_
 refine XL.q (q_remI (a := a) (b := 8) rfl rfl rfl rfl (by decide)) rfl ?_
 refine XL.q (q_same (k' := .i64) rfl (by kernel_rfl) (by show _ < 9223372036854775808; omega)) rfl ?_
 refine mv_ ?_
 refine XL.q (q_same (k' := .i64) rfl (by kernel_rfl) (by show _ < 9223372036854775808; omega)) rfl ?_
 refine XL.q (q_build (place := fun x => #[(0, 1), (1, 1)][x]?) (z := [.int .i64 0, .int .i64 0]) (fun _ => by kernel_rfl) (eS rfl (eS rfl e0)) (bdS 0 1 rfl (by rfl) (bdS 1 1 rfl (by rfl) bd0))) rfl ?_
 refine XL.lo rfl (l_storeW rfl rfl Cel.cel (by kernel_rfl) (lnS (lnS (ln0))) (allS rfl (allS rfl (all0))) UpC.upd ?_)
 refine XL.fin (kq 4 kn) ?_
 refine XC.ret ?_
 exact ⟨_, [], [], resC rfl rfl (by kernel_rfl) At.mem (by rfl), List.nil_sublist _, by simp, rfl, rfl, rfl⟩

theorem open12_f (m : Nat) (u d : Int) (A : Mem) (hm : m < 256) (hG : Glb A) : FnX Tryz.prog 16 [.int .u8 ((m : Nat) : Int), .agg #[.int .i64 u, .int .i64 d]] [] A fun q M J => ∃ pb kb MK MP, q = .tuple #[.pointer (some ⟨pb, 0, none⟩), .pointer (some ⟨kb, 0, none⟩)] ∧ M = MK ++ MP ∧ Kys (J ++ A) kb (newK u d (opK m)).1 MK ∧ Prm pb (newK u d (opK m)).2 MP := by
 refine FnX.enterZ (N := 22) Tryz.func16 rfl rfl rfl fun w_ => ?_
 refine XC.keep (kq 0 (kq 1 kn)) ?_
 refine XC.reg ?_
 refine XL.lo rfl (bx_ fun b3 => ?_)
 refine as_ (as_ ?_)
 refine XL.fin (kq 0 (kq 3 kn)) ?_
 refine XC.reg ?_
 refine mv_ ?_
 refine XL.q (q_remI (a := m) (b := 2) rfl rfl rfl rfl (by decide)) rfl ?_
 rw [md_mod m]
 refine XL.lo rfl (l_buildSlice (e := 5) (sz := 1) (z := [.int .u8 0, .int .u8 0, .int .u8 0, .int .u8 0]) (by kernel_rfl) (eS rfl (eS rfl (eS rfl (eS rfl e0)))) (bdS 0 1 rfl (by rfl) (bdS 1 1 rfl (by rfl) (bdS 2 1 rfl (by rfl) (bdS 3 1 rfl (by rfl) bd0)))) rfl fun b11 => ?_)
 refine XL.lo rfl (l_mark rfl (by kernel_rfl) UpC.upd rfl ?_)
 refine XL.frz (B := [_]) (PickC.sing).perm ?_
 refine XL.call (aS rfl (aS rfl a0)) (by kernel_rfl) (pnew_spec (m % 2 == 0) _ [107, 101, 121, 115] _ ⟨Rd.whole (n := 4) (At.mem) (by rfl), by decide, by decide⟩) rfl ?_
 rintro v13 MP J13 ⟨pb, rfl, hP⟩
 refine mv_ ?_
 refine XL.q (q_x0 rfl) rfl ?_
 refine XL.q (q_x1 rfl) rfl ?_
 refine as_ (as_ ?_)
 refine XL.fin (kq 3 (kq 6 (kq 7 kn))) ?_
 refine XC.seq ?_
 refine XC.reg ?_
 refine mv_ ?_
 refine XL.q (q_cmp false rfl rfl (neF rfl)) rfl ?_
 refine XL.fin (kq 3 (kq 6 (kq 17 kn))) ?_
 refine XC.condF rfl ?_
 refine XC.skip ?_
 refine nx (kq 3 (kq 6 kn)) ?_
 refine XC.reg ?_
 refine mv_ (mv_ ?_)
 refine XL.q (qw_ 2) rfl ?_
 refine XL.lo rfl (l_call (Mc := MP) (R := _) (aS rfl (aS rfl a0)) (by kernel_rfl) PickC.perm (new_f u d pb (opK m) MP _ hP (show 0 + 200 ≤ 1048576 by decide) (show 0 + 100 < 1000000000 by decide) hG.up) rfl ?_)
 rintro v21 M21 J21 ⟨kb, MK, MP2, rfl, rfl, hK, hP2⟩
 refine as_ (as_ ?_)
 refine XL.fin (kq 4 (kq 5 kn)) ?_
 refine XC.ret ?_
 exact ⟨_, MK ++ MP2, [(b3, blk [.int .i64 u, .int .i64 d] 35)], res2 rfl rfl rfl, Fit.pick (B := [_]) PickC.perm (Fit.last PickC.perm), pb, kb, MK, MP2, rfl, rfl, hK.mono SubC.sub, hP2⟩

theorem awake12_f (A : Mem) (hG : Glb A) : FnV Tryz.prog 12 [] A (.bool true) := by
 refine FnX.enter (N := 51) Tryz.func12 rfl rfl rfl fun w => ?_
 refine XC.keep kn ?_
 refine XC.reg ?_
 refine as_ ?_
 refine XL.fin kn ?_
 refine XC.reg ?_
 refine XL.callV (aS rfl (aS rfl a0)) (by kernel_rfl) (who12_f 1 2 _ (by decide) (by decide)) rfl ?_
 refine XL.call (aS rfl (aS rfl a0)) (by kernel_rfl) (open12_f 1 _ _ _ (by decide) hG.up) rfl ?_
 rintro v6 M6 J6 ⟨pb, kb, MK, MP, rfl, rfl, hK, hP⟩
 have hns := newK_ps (((1 % 8 : Nat)) : Int) ((2 : Nat) : Int) (opK 1)
 have hnsn := new_sn (((1 % 8 : Nat)) : Int) ((2 : Nat) : Int) (opK 1)
 have hnon := new_on (((1 % 8 : Nat)) : Int) ((2 : Nat) : Int) (opK 1)
 have hop : (opK 1).ts.length = 0 := rfl
 generalize (newK (((1 % 8 : Nat)) : Int) ((2 : Nat) : Int) (opK 1)).1 = k at *
 generalize (newK (((1 % 8 : Nat)) : Int) ((2 : Nat) : Int) (opK 1)).2 = s at *
 obtain ⟨va, vg, vs_, vo, vm, rs, ro, rm, hr⟩ := hK.r
 have hol := on_len k
 rw [hnon] at hol
 obtain ⟨x, sl, hsg, hxn⟩ : ∃ x sl, k.signed = x :: sl ∧ x.n = 1 := by
  unfold snN at hnsn
  cases hs : k.signed with
  | nil => rw [hs] at hnsn; cases hnsn
  | cons x sl => rw [hs] at hnsn; exact ⟨x, sl, rfl, (List.cons.inj hnsn).1⟩
 refine mv_ ?_
 refine XL.q (q_x0 rfl) rfl ?_
 refine XL.q (q_x1 rfl) rfl ?_
 refine as_ (as_ ?_)
 refine XL.fin (kq 1 (kq 2 kn)) ?_
 refine XC.seq ?_
 refine XC.reg ?_
 refine mv_ ?_
 refine XL.q (q_ptrEqNil (e := 96) rfl rfl (by kernel_rfl)) rfl ?_
 refine XL.fin (kq 1 (kq 2 (kq 10 kn))) ?_
 refine XC.condF rfl ?_
 refine XC.skip ?_
 refine nx (kq 1 (kq 2 kn)) ?_
 refine XC.reg ?_
 refine mv_ (mv_ ?_)
 refine XL.lo rfl (l_call (Mc := MP) (R := _) (aS rfl (aS rfl a0)) (by kernel_rfl) PickC.perm (bundles_f pb s kb k va vg vs_ vo vm rs ro rm x sl MP _ (hr _ SubC.sub SubC.sub) hsg hP (by omega) (by rw [← hol]; decide) hG.up) rfl ?_)
 rintro v13 M13 J13 ⟨hP13, rows, hrd, hrw⟩
 haveI := hrd.cel
 obtain ⟨hbl, hb0, hbj, -⟩ := bunK_facts (s := s) hsg
 rw [← hol] at hbl
 have hog : ∀ (j n : Nat), [2, 3, 4, 5][j]? = some n → ∃ o, k.once[j]? = some o ∧ o.n = n := fun j n h => by
  rw [← hnon] at h
  unfold onN at h
  rw [List.getElem?_map] at h
  cases ho : k.once[j]? with
  | none => rw [ho] at h; cases h
  | some o => rw [ho] at h; exact ⟨o, rfl, Option.some.inj h⟩
 obtain ⟨o0, ho0, hn0⟩ := hog 0 2 rfl
 obtain ⟨o3, ho3, hn3⟩ := hog 3 5 rfl
 have hb1 := hbj 0 o0 ho0
 have hb4 := hbj 3 o3 ho3
 obtain ⟨r0, hr0, a1, a2, a3, a4, a5, rfl, -⟩ := hrw.get 0 _ hb0
 obtain ⟨r1, hr1, c1, c2, c3, c4, c5, rfl, -⟩ := hrw.get 1 _ hb1
 obtain ⟨r4, hr4, d1, d2, d3, d4, d5, rfl, -⟩ := hrw.get 4 _ hb4
 dsimp only [bunB] at hr0 hr1 hr4
 rw [hxn] at hr0 hr1 hr4
 rw [hn0] at hr1
 rw [hn3] at hr4
 refine as_ ?_
 refine XL.fin (kq 3 kn) ?_
 refine XC.reg ?_
 refine mv_ ?_
 refine XL.q (q_lenV2 (sz := 10) rfl (by kernel_rfl) hrd) rfl ?_
 rw [hbl]
 refine XL.q (q_cmp true rfl rfl (eqT rfl)) rfl ?_
 refine mv_ ?_
 refine XL.gy rfl rfl (OpQ.opL qm_ rfl ?_)
 refine XL.gy rfl rfl (OpQ.opL (q_atV2 (sz := 10) (a := 0) rfl rfl (by kernel_rfl) rfl hrd (by rw [hbl]; decide)) rfl ?_)
 refine XL.gy rfl rfl (OpQ.opL (q_fldV (off := 4) rfl hrd (by rw [hbl]; decide) (by kernel_rfl)) rfl ?_)
 refine XL.gy rfl rfl (OpQ.opL (q_ldVF (u := .int .u32 ((1 : Nat) : Int)) rfl (hrd.mono SubC.sub) (by omega) (by kernel_rfl) (by rw [flat_get (hrw.lens bnT) hr0 4 (by decide)]; rfl)) rfl ?_)
 refine XL.gy rfl rfl (OpQ.opL (q_cmp true rfl rfl (eqT rfl)) rfl ?_)
 refine XL.q (q_pickT rfl rfl) rfl ?_
 refine mv_ ?_
 refine XL.gy rfl rfl (OpQ.opL qm_ rfl ?_)
 refine XL.gy rfl rfl (OpQ.opL (q_atV2 (sz := 10) (a := 0) rfl rfl (by kernel_rfl) rfl hrd (by rw [hbl]; decide)) rfl ?_)
 refine XL.gy rfl rfl (OpQ.opL (q_fldV (off := 7) rfl hrd (by rw [hbl]; decide) (by kernel_rfl)) rfl ?_)
 refine XL.gy rfl rfl (OpQ.opL (q_ldVF (u := .bool false) rfl (hrd.mono SubC.sub) (by omega) (by kernel_rfl) (by rw [flat_get (hrw.lens bnT) hr0 7 (by decide)]; rfl)) rfl ?_)
 refine XL.gy rfl rfl (OpQ.opL (q_not rfl) rfl ?_)
 refine XL.q (q_pickT rfl rfl) rfl ?_
 refine mv_ ?_
 refine XL.gy rfl rfl (OpQ.opL qm_ rfl ?_)
 refine XL.gy rfl rfl (OpQ.opL (q_atV2 (sz := 10) (a := 1) rfl rfl (by kernel_rfl) rfl hrd (by rw [hbl]; decide)) rfl ?_)
 refine XL.gy rfl rfl (OpQ.opL (q_fldV (off := 7) rfl hrd (by rw [hbl]; decide) (by kernel_rfl)) rfl ?_)
 refine XL.gy rfl rfl (OpQ.opL (q_ldVF (u := .bool true) rfl (hrd.mono SubC.sub) (by omega) (by kernel_rfl) (by rw [flat_get (hrw.lens bnT) hr1 7 (by decide)]; rfl)) rfl ?_)
 refine XL.q (q_pickT rfl rfl) rfl ?_
 refine mv_ ?_
 refine XL.gy rfl rfl (OpQ.opL qm_ rfl ?_)
 refine XL.gy rfl rfl (OpQ.opL (q_atV2 (sz := 10) (a := 1) rfl rfl (by kernel_rfl) rfl hrd (by rw [hbl]; decide)) rfl ?_)
 refine XL.gy rfl rfl (OpQ.opL (q_fldV (off := 8) rfl hrd (by rw [hbl]; decide) (by kernel_rfl)) rfl ?_)
 refine XL.gy rfl rfl (OpQ.opL (q_ldVF (u := .int .u32 ((2 : Nat) : Int)) rfl (hrd.mono SubC.sub) (by omega) (by kernel_rfl) (by rw [flat_get (hrw.lens bnT) hr1 8 (by decide)]; rfl)) rfl ?_)
 refine XL.gy rfl rfl (OpQ.opL (q_cmp true rfl rfl (eqT rfl)) rfl ?_)
 refine XL.q (q_pickT rfl rfl) rfl ?_
 refine mv_ ?_
 refine XL.gy rfl rfl (OpQ.opL qm_ rfl ?_)
 refine XL.gy rfl rfl (OpQ.opL (q_atV2 (sz := 10) (a := 4) rfl rfl (by kernel_rfl) rfl hrd (by rw [hbl]; decide)) rfl ?_)
 refine XL.gy rfl rfl (OpQ.opL (q_fldV (off := 8) rfl hrd (by rw [hbl]; decide) (by kernel_rfl)) rfl ?_)
 refine XL.gy rfl rfl (OpQ.opL (q_ldVF (u := .int .u32 ((5 : Nat) : Int)) rfl (hrd.mono SubC.sub) (by omega) (by kernel_rfl) (by rw [flat_get (hrw.lens bnT) hr4 8 (by decide)]; rfl)) rfl ?_)
 refine XL.gy rfl rfl (OpQ.opL (q_cmp true rfl rfl (eqT rfl)) rfl ?_)
 refine XL.q (q_pickT rfl rfl) rfl ?_
 refine as_ ?_
 refine XL.fin (kq 0 kn) ?_
 refine XC.ret ?_
 exact ⟨_, [], [], res1 rfl rfl, List.nil_sublist _, by simp, rfl, rfl, rfl⟩

end Go.Proofs.YtphcaiplgpmnnaaGreatDoor
/- What was made of keys is made of them again, in both modes: what a state behind it answers. -/
namespace Go.Proofs.YtphcaiplgpmnnaaGreatDoor
open Go.Px
/-- A state behind another one: of the same seed, too. -/
structure Ext (s s' : Ps) : Prop where
  p : Pext s s'
  seed : s'.seed = s.seed
  n : s.n ≤ s'.n
theorem Ext.refl (s : Ps) : Ext s s := ⟨Pext.refl s, rfl, Nat.le_refl _⟩
theorem Ext.trans {a b c : Ps} (h : Ext a b) (h' : Ext b c) : Ext a c := ⟨h.p.trans h'.p, h'.seed.trans h.seed, Nat.le_trans h.n h'.n⟩
theorem pub_t {s : Ps} {i : Nat} (hi : i < s.ts.length) (hl : s.ts.length ≤ 1048576) : pubS s (bts ((i : Nat) : Int)) = { s with ts := add s.ts (pubT ((i : Nat) : Int)) } ∧ pubK s (bts ((i : Nat) : Int)) = bts ((at_ s.ts (pubT ((i : Nat) : Int)) : Nat) : Int) := by
  obtain ⟨h1, h2⟩ := good_rd hi hl
  unfold pubS pubK
  rw [h1, h2]
  exact ⟨rfl, rfl⟩
/-- Of a secret key this is public. -/
def PubT (s : Ps) (w p : List Nat) : Prop := ∃ i j : Nat, i < s.ts.length ∧ w = bts ((i : Nat) : Int) ∧ s.ts[j]? = some (pubT ((i : Nat) : Int)) ∧ p = bts ((j : Nat) : Int)
def PubAt (s : Ps) (w p : List Nat) : Prop := if s.real then p = base25 (fitN w 32) else PubT s w p
def SkAt (s : Ps) (w p : List Nat) : Prop := if s.real then p = pubB (fitN w 32) else PubT s w p
def SigAt (s : Ps) (w m g : List Nat) : Prop := if s.real then g = sigB (fitN w 32) m else ∃ i j : Nat, i < s.ts.length ∧ w = bts ((i : Nat) : Int) ∧ s.ts[j]? = some (sigT ((i : Nat) : Int) m) ∧ g = fitN (bts ((j : Nat) : Int)) 64
theorem PubT.ext {s s' : Ps} {w p : List Nat} (h : PubT s w p) (he : Pext s s') : PubT s' w p := by
  obtain ⟨l, e⟩ := he.ts
  obtain ⟨i, j, h1, h2, h3, h4⟩ := h
  exact ⟨i, j, by rw [e, List.length_append]; omega, h2, by rw [e]; exact ext_at h3, h4⟩
theorem PubAt.ext {s s' : Ps} {w p : List Nat} (h : PubAt s w p) (he : Pext s s') : PubAt s' w p := by
  unfold PubAt at *
  rw [he.real]
  split
  · rename_i hr; rwa [if_pos hr] at h
  · rename_i hr; rw [if_neg hr] at h; exact h.ext he
theorem SkAt.ext {s s' : Ps} {w p : List Nat} (h : SkAt s w p) (he : Pext s s') : SkAt s' w p := by
  unfold SkAt at *
  rw [he.real]
  split
  · rename_i hr; rwa [if_pos hr] at h
  · rename_i hr; rw [if_neg hr] at h; exact h.ext he
theorem SigAt.ext {s s' : Ps} {w m g : List Nat} (h : SigAt s w m g) (he : Pext s s') : SigAt s' w m g := by
  unfold SigAt at *
  rw [he.real]
  split
  · rename_i hr; rwa [if_pos hr] at h
  · rename_i hr
    rw [if_neg hr] at h
    obtain ⟨l, e⟩ := he.ts
    obtain ⟨i, j, h1, h2, h3, h4⟩ := h
    exact ⟨i, j, by rw [e, List.length_append]; omega, h2, by rw [e]; exact ext_at h3, h4⟩
theorem PubT.eq {s : Ps} {w p : List Nat} (h : PubT s w p) (ht : Tok s.ts) (hl : s.ts.length ≤ 1048576) : pubS s w = s ∧ pubK s w = p := by
  obtain ⟨i, j, h1, rfl, h3, rfl⟩ := h
  obtain ⟨e1, e2⟩ := pub_t h1 hl
  obtain ⟨e3, e4⟩ := again ht h3
  rw [e1, e2, e3, e4]
  exact ⟨rfl, rfl⟩
theorem PubAt.eq {s : Ps} {w p : List Nat} (h : PubAt s w p) (ht : Tok s.ts) (hl : s.ts.length ≤ 1048576) : pubS2 s w = s ∧ pubK2 s w = p := by
  unfold PubAt at h
  unfold pubS2 pubK2
  cases hr : s.real with
  | true => rw [hr] at h; exact ⟨rfl, h.symm⟩
  | false => rw [hr] at h; exact PubT.eq h ht hl
theorem SkAt.eq {s : Ps} {w p : List Nat} (h : SkAt s w p) (ht : Tok s.ts) (hl : s.ts.length ≤ 1048576) : pubS2 s w = s ∧ skK2 s w = p := by
  unfold SkAt at h
  unfold pubS2 skK2
  cases hr : s.real with
  | true => rw [hr] at h; exact ⟨rfl, h.symm⟩
  | false => rw [hr] at h; exact PubT.eq h ht hl
theorem SigAt.f {s : Ps} (h : s.real = false) {w m g : List Nat} : SigAt s w m g ↔ ∃ i j : Nat, i < s.ts.length ∧ w = bts ((i : Nat) : Int) ∧ s.ts[j]? = some (sigT ((i : Nat) : Int) m) ∧ g = fitN (bts ((j : Nat) : Int)) 64 := by unfold SigAt; rw [if_neg (by rw [h]; decide)]
/-- What Check answers of terms. -/
def chkT (ts : List Tm) (p m g : List Nat) : Bool := decide (g.length = 64) && match plc g ts.length, plc p ts.length with
  | some i, some k => decide (p.length = 32) && match ts[i]?, ts[k]? with
    | some t, some u => decide (t.kind = 7) && decide (t.text = m) && decide (u.kind = 3) && decide (u.of.getD 0 0 = t.of.getD 0 0)
    | _, _ => false
  | _, _ => false
noncomputable def chkK (s : Ps) (p m g : List Nat) : Bool := if s.real then chkB p m g else chkT s.ts p m g
/-- Terms that are made of something are. -/
def Ar (ts : List Tm) : Prop := ∀ t ∈ ts, (t.kind = 3 ∨ t.kind = 6 ∨ t.kind = 7) → 0 < t.of.length
theorem Ar.nil : Ar [] := fun t h => by cases h
theorem Ar.add {ts : List Tm} (h : Ar ts) {t : Tm} (ht : (t.kind = 3 ∨ t.kind = 6 ∨ t.kind = 7) → 0 < t.of.length) : Ar (add ts t) := by
  unfold Go.Proofs.YtphcaiplgpmnnaaGreatDoor.add
  split
  · exact h
  · intro u hu
    rcases List.mem_append.1 hu with h1 | h1
    · exact h u h1
    · rw [List.mem_singleton.1 h1]; exact ht
theorem Ar.rd {ts : List Tm} (h : Ar ts) (w : List Nat) : Ar (rdT ts w) := by
  cases hp : plc w ts.length with
  | some j => rw [(rdT_some hp).1]; exact h
  | none => rw [(rdT_none hp).1]; exact h.add (by intro h; rcases h with h | h | h <;> cases h)
end Go.Proofs.YtphcaiplgpmnnaaGreatDoor
/- All secrets of keys are unlike; the walk of KeysSecrets. -/
namespace Go.Proofs.YtphcaiplgpmnnaaGreatDoor
open Go.Px
/-- The key that was made as the i-th one. -/
def Fr (s : Ps) (w : List Nat) (i : Nat) : Prop := if s.real then w = keyR s.seed i else ∃ j, s.ts[j]? = some (atom i) ∧ w = bts ((j : Nat) : Int)
theorem Fr.ext {s s' : Ps} {w : List Nat} {i : Nat} (h : Fr s w i) (he : Ext s s') : Fr s' w i := by
  unfold Fr at h ⊢
  rw [he.p.real]
  obtain ⟨l, e⟩ := he.p.ts
  split
  · rename_i hr; rw [if_pos hr] at h; rw [he.seed]; exact h
  · rename_i hr
    rw [if_neg hr] at h
    obtain ⟨j, h1, h2⟩ := h
    exact ⟨j, by rw [e]; exact ext_at h1, h2⟩
theorem fr_ne {s : Ps} {w w' : List Nat} {i i' : Nat} (h : Fr s w i) (h' : Fr s w' i') (hi : i ≠ i') (hl : s.ts.length ≤ 1048576) (hk : s.real = true → keyR s.seed i ≠ keyR s.seed i') : w ≠ w' := by
  unfold Fr at h h'
  split at h
  · rename_i hr
    rw [if_pos hr] at h'
    rw [h, h']
    exact hk hr
  · rename_i hr
    rw [if_neg hr] at h'
    obtain ⟨j, h1, rfl⟩ := h
    obtain ⟨j', h2, rfl⟩ := h'
    intro e
    have b1 := (List.getElem?_eq_some_iff.1 h1).1
    have b2 := (List.getElem?_eq_some_iff.1 h2).1
    have e2 := bts_inj (by omega) (by omega) e
    subst e2
    rw [h1] at h2
    have e3 := Option.some.inj h2
    unfold atom at e3
    injection e3 with a1 a2 a3 a4
    exact hi (by omega)
/-- Secrets, each once, each made by the state. -/
structure Sok (L : List (List Nat)) (s : Ps) : Prop where
  nd : L.Nodup
  fr : ∀ w ∈ L, ∃ i, i ≤ s.n ∧ Fr s w i
theorem Sok.nil {s : Ps} : Sok [] s := ⟨List.nodup_nil, fun w h => by cases h⟩
theorem Sok.ext {L : List (List Nat)} {s s' : Ps} (h : Sok L s) (he : Ext s s') : Sok L s' := ⟨h.nd, fun w hw => by
  obtain ⟨i, h1, h2⟩ := h.fr w hw
  exact ⟨i, Nat.le_trans h1 he.n, h2.ext he⟩⟩
theorem Sok.sub {L L' : List (List Nat)} {s : Ps} (h : Sok L s) (hs : L'.Sublist L) : Sok L' s := ⟨h.nd.sublist hs, fun w hw => h.fr w (hs.subset hw)⟩
theorem Sok.perm {L L' : List (List Nat)} {s : Ps} (h : Sok L s) (hp : L.Perm L') : Sok L' s := ⟨hp.nodup_iff.1 h.nd, fun w hw => h.fr w (hp.mem_iff.2 hw)⟩
/-- The keys of a seed up to a number are unlike. -/
def Apart (seed : List Nat) (m : Nat) : Prop := ∀ i j, i ≤ m → j ≤ m → i ≠ j → keyR seed i ≠ keyR seed j
theorem Sok.add {L : List (List Nat)} {s s' : Ps} {w : List Nat} {m : Nat} (h : Sok L s) (he : Ext s s') (hw : Fr s' w (s.n + 1)) (hn : s.n + 1 ≤ s'.n) (hl : s'.ts.length ≤ 1048576) (hm : s.n + 1 ≤ m) (ha : s'.real = true → Apart s'.seed m) : Sok (w :: L) s' := by
  have h' := h.ext he
  refine ⟨List.nodup_cons.2 ⟨fun hm' => ?_, h.nd⟩, fun x hx => ?_⟩
  · obtain ⟨i, h1, h2⟩ := h.fr w hm'
    exact fr_ne hw (h2.ext he) (show s.n + 1 ≠ i by omega) hl (fun hr => ha hr _ _ hm (by omega) (by omega)) rfl
  · rcases List.mem_cons.1 hx with rfl | hx
    · exact ⟨_, hn, hw⟩
    · exact h'.fr x hx
def kW : List Nat := [107, 101, 121, 115]
end Go.Proofs.YtphcaiplgpmnnaaGreatDoor
/-
  A call answers the same where more stands still.
-/
namespace Go.Px
theorem FnX.amb {P : Program} {f : FuncId} {args : List Value} {M A A' : Mem} {post : Value → Mem → Mem → Prop} (hA : ∀ x, x ∈ A → x ∈ A') (h : FnX P f args M A post) : FnX P f args M A' post := by
  intro w hw
  have h1 : St ⟨P, w, M.map Prod.fst, A, 0⟩ M [] w := ⟨hw.os, hw.tape, hw.output, hw.size, hw.frame, fun b o hb => hw.mem b o (by
    rcases List.mem_append.1 hb with hb | hb
    · exact List.mem_append_left _ hb
    · exact List.mem_append_right _ (hA _ hb)), hw.nodup, hw.own, hw.sepJ, fun b o hb => hw.sepA b o (hA _ hb), hw.old⟩
  refine Calls.mono (h w h1) ?_
  rintro e w' ⟨r, M', J', rfl, hp, hs⟩
  refine ⟨r, M', J', rfl, hp, ⟨hs.os, hs.tape, hs.output, hs.size, hs.frame, fun b o hb => ?_, hs.nodup, hs.own, hs.sepJ, hw.sepA, hs.old⟩⟩
  rcases List.mem_append.1 hb with hb | hb
  · exact hs.mem b o (List.mem_append_left _ hb)
  · rcases List.mem_append.1 hb with hb | hb
    · exact hs.mem b o (List.mem_append_right _ (List.mem_append_left _ hb))
    · have h2 := hw.sepA b o hb
      rw [hs.frame b h2.2 h2.1]
      exact hw.mem b o (List.mem_append_right _ hb)
end Go.Px

/- The walk of keys.Encode. -/
namespace Go.Proofs.YtphcaiplgpmnnaaGreatDoor
open Go.Px
def preK (k : Ks) : Nat → List Nat
  | 0 => encH k
  | 1 => encH k ++ encL k.signed
  | _ => encH k ++ (encL k.signed ++ encL k.once)
def lisK (k : Ks) : Nat → List Pr
  | 0 => k.signed
  | _ => k.once
theorem preK_succ {k : Ks} {t : Nat} (h : t < 2) : preK k (t + 1) = preK k t ++ encL (lisK k t) := by
  rcases (by omega : t = 0 ∨ t = 1) with rfl | rfl
  · rfl
  · simp [preK, lisK]
theorem preK_len {k : Ks} {t : Nat} (h : t < 2) : (preK k t).length + (encL (lisK k t)).length ≤ (encK k).length := by
  rcases (by omega : t = 0 ∨ t = 1) with rfl | rfl <;> simp [preK, lisK, encK] <;> omega
theorem encL_len (l : List Pr) : (encL l).length = 2 + (encPs l).length := by simp [encL, beN_len]
theorem encPs_take_len {l : List Pr} {i : Nat} {x : Pr} (h : l[i]? = some x) : (encPs (l.take i)).length + x.sec.length + x.sig.length + 12 ≤ (encPs l).length := by
  have h1 := encPs_le l (i + 1)
  rw [encPs_take h, List.length_append, encPr_len] at h1
  omega
theorem encNs_take_len {l : List Nm} {i : Nat} {x : Nm} (h : l[i]? = some x) : (encNs (l.take i)).length + x.id.length + 8 ≤ (encNs l).length := by
  have h1 := encNs_le l (i + 1)
  rw [encNs_take h, List.length_append, encNm_len] at h1
  omega

theorem ltN {k : IntKind} (a b : Nat) : arith .lss k ((a : Nat) : Int) ((b : Nat) : Int) = some (.bool (decide (a < b))) := by
  by_cases h : a < b
  · rw [decide_eq_true h]; exact ltT (by omega)
  · rw [decide_eq_false h]; exact ltF (by omega)

theorem wdone_o (wb : Nat) (ws : List Nat) (M A : Mem) (hW : Wtr wb ws M) (hl : ws.length ≤ 16777216) : FnX Tryz.prog 55 [.pointer (some ⟨wb, 0, none⟩)] M A fun q M J => ∃ MW B, M = B ++ MW ∧ Wtr wb ws MW ∧ Sl 1 q ws.length (nums .u8 ws) B := by
 obtain ⟨⟨v, B, rfl, hsl⟩, hlt⟩ := hW
 haveI := hsl.cel
 refine FnX.enterZ (N := 8) Tryz.func55 rfl rfl rfl fun w_ => ?_
 refine XC.keep (kq 0 kn) ?_
 refine XC.reg ?_
 refine as_ ?_
 refine XL.fin (kq 0 kn) ?_
 refine XC.reg ?_
 refine mv_ ?_
 refine XL.q (q_nil rfl) rfl ?_
 refine XL.q (qf_ 0 0) rfl ?_
 refine XL.q ql_ rfl ?_
 refine XL.lo rfl (l_append2 (e := 5) (sz := 1) (by_ := 1) rfl rfl (by kernel_rfl) rfl Sl.nil (hsl.rd SubC.sub) nums_one PickC.perm (by unfold maxLen; omega) (by omega) rfl fun v7 B7 hs7 => ?_)
 refine as_ ?_
 refine XL.fin (kq 2 kn) ?_
 refine XC.ret ?_
 exact ⟨_, B7 ++ ((wb, blk [v] 89) :: B), [], res1 rfl rfl, Fit.none (Fit.last PickC.perm), _, B7, rfl, ⟨⟨v, B, rfl, hsl⟩, hlt⟩, by simpa using hs7⟩

theorem encode_o (kb : Nat) (k : Ks) (va vg vq vo vm : Value) (rs ro rm : List (List Value)) (A : Mem) (hK : KyR A kb k va vg vq vo vm rs ro rm) (hu : ∃ u : Nat, k.user = (u : Int) ∧ u < 4294967296) (hd : ∃ u : Nat, k.dev = (u : Int) ∧ u < 4294967296) (hl : (encK k).length ≤ 16777216) : FnX Tryz.prog 30 [.pointer (some ⟨kb, 0, none⟩)] [] A fun q M J => Sl 1 q (encK k).length (nums .u8 (encK k)) M ∧ ∀ x ∈ encK k, x < 256 := by
 have hkb := hK.blk_
 haveI := hK.agree.cel
 haveI := hK.sign.cel
 haveI := hK.signed.cel
 haveI := hK.once.cel
 haveI := hK.met.cel
 obtain ⟨u, hu, hu4⟩ := hu
 obtain ⟨d, hd, hd4⟩ := hd
 have hal := hK.agree.len
 have hgl := hK.sign.len
 have hel := encK_len k
 rw [hu, hd] at hkb
 refine FnX.enterZ (N := 113) Tryz.func30 rfl rfl rfl fun w_ => ?_
 refine XC.keep (kq 0 kn) ?_
 refine XC.reg ?_
 refine as_ ?_
 refine XL.fin (kq 0 kn) ?_
 refine XC.reg ?_
 refine XL.q (q_build (place := fun x => #[(0, 1)][x]?) (z := [.slice none 0 0]) (fun _ => by kernel_rfl) e0 bd0) rfl ?_
 refine XL.lo rfl (bx_ fun b11 => ?_)
 refine as_ ?_
 refine XL.fin (kq 0 (kq 3 kn)) ?_
 refine XC.seq ?_
 refine XC.reg ?_
 refine mv_ ?_
 refine XL.q (q_ptrEqNil (e := 96) rfl rfl (by kernel_rfl)) rfl ?_
 refine XL.fin (kq 0 (kq 3 (kq 13 kn))) ?_
 refine XC.condF rfl ?_
 refine XC.skip ?_
 refine nx (kq 0 (kq 3 kn)) ?_
 refine XC.drawK ([(b11, blk [.slice none 0 0] 89)]) (_) true [0, 1, 2, 3, 4, 5, 6, 7, 8, 9, 10, 11, 12, 13, 14, 15, 16, 17, 18, 19, 20, 21, 22, 23, 24, 25, 26, 27, 28, 29, 30] [(0, 0), (1, 0), (2, 0), (3, 0), (4, 0), (5, 1), (6, 0), (8, 0), (9, 0), (10, 0), (11, 0), (12, 1), (13, 0), (15, 0), (16, 0), (17, 0), (18, 1), (20, 0), (21, 0), (22, 0), (23, 1), (25, 0), (26, 0), (27, 0), (28, 1), (29, 0), (7, 2), (14, 2), (19, 2), (24, 2), (30, 2)] (by kernel_rfl) (by kernel_rfl) PickC.perm fun hs K n0 hKm hKs hKn => ?_
 refine XK.q hs rfl qm_ rfl ?_
 refine XK.q hs rfl qm_ rfl ?_
 refine XK.q hs rfl (q_nil rfl) rfl ?_
 refine XK.q hs rfl (qf_ 0 0) rfl ?_
 refine XK.q hs rfl (qf_ 0 0) rfl ?_
 refine XK.r hs rfl (by first | exact fun x hx => by rw [List.append_assoc]; exact List.mem_append_right _ hx | exact SubC.sub) hKs (q_load rfl (by kernel_rfl) (mA hkb) (by rfl)) rfl ?_
 refine XK.q hs rfl (q_convN (k' := .u64) u rfl (by kernel_rfl) (wrapU64 (by omega))) rfl ?_
 refine XK.q hs rfl qm_ rfl ?_
 refine XK.q hs rfl (q_nil rfl) rfl ?_
 refine XK.q hs rfl (qf_ 0 0) rfl ?_
 refine XK.q hs rfl (qf_ 1 1) rfl ?_
 refine XK.r hs rfl (by first | exact fun x hx => by rw [List.append_assoc]; exact List.mem_append_right _ hx | exact SubC.sub) hKs (q_load rfl (by kernel_rfl) (mA hkb) (by rfl)) rfl ?_
 refine XK.q hs rfl (q_convN (k' := .u64) d rfl (by kernel_rfl) (wrapU64 (by omega))) rfl ?_
 refine XK.q hs rfl qm_ rfl ?_
 refine XK.q hs rfl (q_nil rfl) rfl ?_
 refine XK.q hs rfl (qf_ 2 2) rfl ?_
 refine XK.r hs rfl (by first | exact fun x hx => by rw [List.append_assoc]; exact List.mem_append_right _ hx | exact SubC.sub) hKs (q_load rfl (by kernel_rfl) (mA hkb) (by rfl)) rfl ?_
 refine XK.q hs rfl qm_ rfl ?_
 refine XK.q hs rfl (q_nil rfl) rfl ?_
 refine XK.q hs rfl (qf_ 3 3) rfl ?_
 refine XK.r hs rfl (by first | exact fun x hx => by rw [List.append_assoc]; exact List.mem_append_right _ hx | exact SubC.sub) hKs (q_load rfl (by kernel_rfl) (mA hkb) (by rfl)) rfl ?_
 refine XK.q hs rfl qm_ rfl ?_
 refine XK.q hs rfl (q_nil rfl) rfl ?_
 refine XK.q hs rfl (qf_ 6 6) rfl ?_
 refine XK.r hs rfl (by first | exact fun x hx => by rw [List.append_assoc]; exact List.mem_append_right _ hx | exact SubC.sub) hKs (q_load rfl (by kernel_rfl) (mA hkb) (by rfl)) rfl ?_
 refine XK.q hs rfl (q_convN (k' := .u64) k.next rfl (by kernel_rfl) (wrapU64 (by have := hK.next; omega))) rfl ?_
 refine XK.lo _ _ rfl rfl (List.Perm.refl _) hKm fun w0 => (l_call (Mc := [(b11, blk [.slice none 0 0] 89)]) (R := _) (aS rfl (aS rfl (aS rfl (a0)))) (by kernel_rfl) PickC.perm (wnum_spec b11 (u) 4 _ _ _ Wtr.new (by omega) (by decide) (by decide)) rfl ?_)
 rintro v23 M23 J23 ⟨rfl, hW23⟩ hKx23
 refine XK.lo M23 _ rfl rfl PickC.perm (fun x hx => hKx23 (hKn rfl) x (by simpa using hx)) fun w0 => (l_call (Mc := M23) (R := _) (aS rfl (aS rfl (aS rfl (a0)))) (by kernel_rfl) PickC.perm (wnum_spec b11 (d) 4 _ _ _ hW23 (by omega) (by decide) (by first | (simp [beN_len]; done) | (simp [beN_len]; omega))) rfl ?_)
 rintro v30 M30 J30 ⟨rfl, hW30⟩ hKx30
 refine XK.lo M30 _ rfl rfl PickC.perm (fun x hx => hKx30 (hKn rfl) x (by simpa using hx)) fun w0 => (l_call (Mc := M30) (R := _) (aS rfl (aS rfl (a0))) (by kernel_rfl) PickC.perm (wbytes_spec b11 va k.agree _ _ _ hW30 (hK.agree.mono SubC.sub) (by first | (simp [beN_len]; done) | (simp [beN_len]; omega))) rfl ?_)
 rintro v35 M35 J35 ⟨rfl, hW35⟩ hKx35
 refine XK.lo M35 _ rfl rfl PickC.perm (fun x hx => hKx35 (hKn rfl) x (by simpa using hx)) fun w0 => (l_call (Mc := M35) (R := _) (aS rfl (aS rfl (a0))) (by kernel_rfl) PickC.perm (wbytes_spec b11 vg k.sign _ _ _ hW35 (hK.sign.mono SubC.sub) (by first | (simp [beN_len]; done) | (simp [beN_len]; omega))) rfl ?_)
 rintro v40 M40 J40 ⟨rfl, hW40⟩ hKx40
 refine XK.lo M40 _ rfl rfl PickC.perm (fun x hx => hKx40 (hKn rfl) x (by simpa using hx)) fun w0 => (l_call (Mc := M40) (R := _) (aS rfl (aS rfl (aS rfl (a0)))) (by kernel_rfl) PickC.perm (wnum_spec b11 (k.next) 4 _ _ _ hW40 (by have := hK.next; omega) (by decide) (by first | (simp [beN_len]; done) | (simp [beN_len]; omega))) rfl ?_)
 rintro v46 M46 J46 ⟨rfl, hW46⟩ hKx46
 refine XK.fin (kq 0 (kq 3 kn)) ?_
 refine XC.seq ?_
 dsimp only [List.nil_append, List.append_eq, List.append_nil]
 replace hW46 : Wtr b11 (preK k 0) M46 := hW46.eq (by simp [preK, encH, encB, hu, hd, List.append_assoc])
 refine XC.drawF [0, 1, 2, 3, 4, 5, 6, 7, 8, 9, 10] [(0, 0), (1, 0), (2, 0), (3, 1), (4, 0), (5, 0), (6, 0), (7, 1), (10, 0), (8, 2), (9, 0)] (by kernel_rfl) (by kernel_rfl) fun hs => ?_
 refine XF.q hs rfl qm_ rfl ?_
 refine XF.q hs rfl (q_nil rfl) rfl ?_
 refine XF.q hs rfl (qf_ 4 4) rfl ?_
 refine XF.r hs rfl (q_load rfl (by kernel_rfl) (mA hkb) (by rfl)) rfl ?_
 refine XF.q hs rfl qm_ rfl ?_
 refine XF.q hs rfl (q_nil rfl) rfl ?_
 refine XF.q hs rfl (qf_ 5 5) rfl ?_
 refine XF.r hs rfl (q_load rfl (by kernel_rfl) (mA hkb) (by rfl)) rfl ?_
 refine XF.q hs rfl qm_ rfl ?_
 refine XF.lo rfl rfl fun _ => (l_buildSlice (e := 93) (sz := 1) (z := [.slice none 0 0, .slice none 0 0]) (by kernel_rfl) (eS rfl (eS rfl e0)) (bdS 0 1 rfl (by rfl) (bdS 1 1 rfl (by rfl) bd0)) rfl fun b55 => ?_)
 refine XF.q hs rfl (q_lenS (e := 93) rfl (by kernel_rfl)) rfl ?_
 refine XF.fin (kq 0 (kq 3 (kq 55 (kq 56 (kq 57 kn))))) ?_
 refine XC.block ?_
 refine XC.frz (B := [(b55, blk [vq, vo] 93)]) PickC.perm ?_
 refine XC.loop (α := Nat × Mem) (fun y => [(0, .pointer (some ⟨kb, 0, none⟩)), (3, .pointer (some ⟨b11, 0, none⟩)), (55, .slice (some ⟨b55, 0, none⟩) 2 2), (56, .int .i64 2), (57, .int .i64 ((y.1 : Nat) : Int))]) (fun y => y.2) (fun _ => [(b55, blk [vq, vo] 93)]) (fun y => y.1 ≤ 2 ∧ Wtr b11 (preK k y.1) y.2) (fun y => 2 - y.1) (0, M46) ⟨Nat.zero_le _, hW46⟩ (kq 0 (kq 3 (kq 55 (kq 56 (kq 57 kn))))) (Fit.last PickC.perm) SubC.sub ?_
 rintro ⟨t, MW⟩ ⟨ht, hW⟩
 dsimp only at ht hW ⊢
 refine XC.reg ?_
 refine XL.q (q_cmp (decide (t < 2)) rfl rfl (ltN t 2)) rfl ?_
 refine XL.fin (kq 0 (kq 3 (kq 55 (kq 56 (kq 57 (kq 58 kn)))))) ?_
 refine XC.seq ?_
 refine XC.cond rfl (fun hc => ?_) (fun hc => ?_)
 ·
  have ht2 : t < 2 := of_decide_eq_true hc
  have hps := preK_succ (k := k) ht2
  have hpl := preK_len (k := k) ht2
  rw [encL_len] at hpl
  obtain ⟨vt, rt, hvt, hrd, hrw, hlt⟩ : ∃ vt rt, [vq, vo][t]? = some vt ∧ Rd A 3 vt (lisK k t).length rt.flatten ∧ RwL prR A rt (lisK k t) ∧ (lisK k t).length ≤ 1000000 := by
   rcases (by omega : t = 0 ∨ t = 1) with rfl | rfl
   · exact ⟨vq, rs, rfl, hK.signed, hK.signedR, hK.l1⟩
   · exact ⟨vo, ro, rfl, hK.once, hK.onceR, hK.l2⟩
  haveI := hrd.cel
  generalize lisK k t = lt at *
  refine XC.skip ?_
  refine nx (kq 0 (kq 3 (kq 55 (kq 56 (kq 57 kn))))) ?_
  refine XC.seq ?_
  refine XC.block ?_
  refine XC.reg ?_
  refine XL.q (q_atV2 (sz := 1) rfl rfl (by kernel_rfl) rfl (Rd.whole (n := 2) (R := [(b55, blk [vq, vo] 93)]) List.mem_cons_self (by rfl)) ht2) rfl ?_
  refine XL.q (q_ldV (u := vt) (Rd.whole (n := 2) (cs := [vq, vo]) At.mem (by rfl)) rfl (by kernel_rfl) hvt) rfl ?_
  refine as_ ?_
  refine XL.fin (kq 0 (kq 3 (kq 5 (kq 55 (kq 56 (kq 57 kn)))))) ?_
  refine XC.reg ?_
  refine mv_ (mv_ ?_)
  refine XL.q (q_lenV2 (sz := 3) rfl (by kernel_rfl) hrd) rfl ?_
  refine XL.q (q_convN (k' := .u64) lt.length rfl (by kernel_rfl) (wrapU64 (by omega))) rfl ?_
  refine XL.lo rfl (l_call (Mc := MW) (R := _) (aS rfl (aS rfl (aS rfl a0))) (by kernel_rfl) PickC.perm (wnum_spec b11 lt.length 2 _ _ _ hW (by omega) (by decide) (by omega)) rfl ?_)
  rintro v65 M65 J65 ⟨rfl, hW65⟩
  refine XL.fin (kq 0 (kq 3 (kq 5 (kq 55 (kq 56 (kq 57 kn)))))) ?_
  refine XC.reg ?_
  refine mv_ ?_
  refine XL.q (q_lenV2 (sz := 3) rfl (by kernel_rfl) hrd) rfl ?_
  refine mv_ ?_
  refine XL.fin (kq 0 (kq 3 (kq 55 (kq 56 (kq 57 (kq 66 (kq 67 (kq 68 kn)))))))) ?_
  refine XC.block ?_
  refine XC.loop (α := Nat × Mem) (fun y => [(0, .pointer (some ⟨kb, 0, none⟩)), (3, .pointer (some ⟨b11, 0, none⟩)), (55, .slice (some ⟨b55, 0, none⟩) 2 2), (56, .int .i64 2), (57, .int .i64 ((t : Nat) : Int)), (66, vt), (67, .int .i64 ((lt.length : Nat) : Int)), (68, .int .i64 ((y.1 : Nat) : Int))]) (fun y => y.2) (fun _ => [(b55, blk [vq, vo] 93)]) (fun y => y.1 ≤ lt.length ∧ Wtr b11 (preK k t ++ beN lt.length 2 ++ encPs (lt.take y.1)) y.2) (fun y => lt.length - y.1) (0, M65) ⟨Nat.zero_le _, hW65.eq (by simp [encPs])⟩ (kq 0 (kq 3 (kq 55 (kq 56 (kq 57 (kq 66 (kq 67 (kq 68 kn)))))))) (Fit.last PickC.perm) SubC.sub ?_
  rintro ⟨i, MI⟩ ⟨hi, hWi⟩
  dsimp only at hi hWi ⊢
  refine XC.reg ?_
  refine XL.q (q_cmp (decide (i < lt.length)) rfl rfl (ltN i lt.length)) rfl ?_
  refine XL.fin (kq 0 (kq 3 (kq 55 (kq 56 (kq 57 (kq 66 (kq 67 (kq 68 (kq 69 kn))))))))) ?_
  refine XC.seq ?_
  refine XC.cond rfl (fun hc => ?_) (fun hc => ?_)
  ·
   have hil : i < lt.length := of_decide_eq_true hc
   obtain ⟨o, ho⟩ : ∃ o, lt[i]? = some o := ⟨_, List.getElem?_eq_getElem hil⟩
   obtain ⟨r1, hr1, vo1, vo2, rfl, ho1, ho2, hon⟩ := hrw.get i o ho
   haveI := ho1.cel
   haveI := ho2.cel
   have hst := encPs_take ho
   have hsl := encPs_take_len ho
   refine XC.skip ?_
   refine nx (kq 0 (kq 3 (kq 55 (kq 56 (kq 57 (kq 66 (kq 67 (kq 68 kn)))))))) ?_
   refine XC.seq ?_
   refine XC.block ?_
   refine XC.reg ?_
   refine XL.q (q_atV2 (sz := 3) rfl rfl (by kernel_rfl) rfl hrd hil) rfl ?_
   refine XL.q (q_ldVR rfl (by kernel_rfl) (hrd.mono SubC.sub) (hrw.lens prT) (by decide) hr1) rfl ?_
   refine XL.lo rfl (l_alloc (cs := [.int .u32 0, .slice none 0 0, .slice none 0 0]) (by kernel_rfl) rfl fun b7 => ?_)
   refine XL.lo rfl (l_storeW (vs := [.int .u32 ((o.n : Nat) : Int), vo1, vo2]) rfl rfl rfl (by kernel_rfl) (by rfl) (allS rfl (allS ho1.one (allS ho2.one all0))) UpC.upd ?_)
   refine XL.fin (kq 0 (kq 3 (kq 7 (kq 55 (kq 56 (kq 57 (kq 66 (kq 67 (kq 68 kn))))))))) ?_
   refine XC.drawK1 (MI) (_) true [0, 1, 2, 3, 4, 5, 6, 7, 8, 9, 10] [(0, 0), (1, 0), (2, 1), (3, 0), (5, 0), (6, 1), (8, 0), (9, 1), (4, 2), (7, 2), (10, 2)] (by kernel_rfl) (by kernel_rfl) PickC.perm fun hs K n0 hKm hKs hKn => ?_
   refine XK.q hs rfl qm_ rfl ?_
   refine XK.q hs rfl (qf_ 0 0) rfl ?_
   refine XK.r hs rfl (by first | exact fun x hx => by rw [List.append_assoc]; exact List.mem_append_right _ hx | exact SubC.sub) hKs ql_ rfl ?_
   refine XK.q hs rfl (q_convN (k' := .u64) o.n rfl (by kernel_rfl) (wrapU64 (by omega))) rfl ?_
   refine XK.q hs rfl (qf_ 1 1) rfl ?_
   refine XK.r hs rfl (by first | exact fun x hx => by rw [List.append_assoc]; exact List.mem_append_right _ hx | exact SubC.sub) hKs ql_ rfl ?_
   refine XK.q hs rfl (qf_ 2 2) rfl ?_
   refine XK.r hs rfl (by first | exact fun x hx => by rw [List.append_assoc]; exact List.mem_append_right _ hx | exact SubC.sub) hKs ql_ rfl ?_
   refine XK.lo _ _ rfl rfl (List.Perm.refl _) hKm fun w0 => (l_call (Mc := MI) (R := _) (aS rfl (aS rfl (aS rfl (a0)))) (by kernel_rfl) PickC.perm (wnum_spec b11 (o.n) 4 _ _ _ hWi (by omega) (by decide) (by first | (simp [beN_len]; done) | (simp [beN_len]; omega))) rfl ?_)
   rintro v76 M76 J76 ⟨rfl, hW76⟩ hKx76
   refine XK.lo M76 _ rfl rfl PickC.perm (fun x hx => hKx76 (hKn rfl) x (by simpa using hx)) fun w0 => (l_call (Mc := M76) (R := _) (aS rfl (aS rfl (a0))) (by kernel_rfl) PickC.perm (wbytes_spec b11 vo1 o.sec _ _ _ hW76 (ho1.mono SubC.sub) (by first | (simp [beN_len]; done) | (simp [beN_len]; omega))) rfl ?_)
   rintro v79 M79 J79 ⟨rfl, hW79⟩ hKx79
   refine XK.lo M79 _ rfl rfl PickC.perm (fun x hx => hKx79 (hKn rfl) x (by simpa using hx)) fun w0 => (l_call (Mc := M79) (R := _) (aS rfl (aS rfl (a0))) (by kernel_rfl) PickC.perm (wbytes_spec b11 vo2 o.sig _ _ _ hW79 (ho2.mono SubC.sub) (by first | (simp [beN_len]; done) | (simp [beN_len]; omega))) rfl ?_)
   rintro v82 M82 J82 ⟨rfl, hW82⟩ hKx82
   refine XK.nil ?_
   refine nb ?_
   refine nx (kq 0 (kq 3 (kq 55 (kq 56 (kq 57 (kq 66 (kq 67 (kq 68 kn)))))))) ?_
   refine XC.reg1 ?_
   refine XL.q (q_num ((i + 1 : Nat) : Int) rfl rfl (add64 (by omega) (by omega) (by omega))) rfl ?_
   refine mv_ ?_
   refine XL.nil ?_
   exact rn (i + 1, M82) ⟨hil, hW82.eq (by rw [hst]; simp [encPr, encB, List.append_assoc])⟩ (by dsimp only; omega) (kq 0 (kq 3 (kq 55 (kq 56 (kq 57 (kq 66 (kq 67 (kq 68 kn)))))))) (Fit.last PickC.perm) SubC.sub
  ·
   have hil : i = lt.length := by have := of_decide_eq_false hc; omega
   subst hil
   rw [List.take_length] at hWi
   replace hWi : Wtr b11 (preK k (t + 1)) MI := hWi.eq (by rw [hps]; simp [encL, List.append_assoc])
   refine XC.exit ?_
   refine te ?_
   refine re ?_
   refine be rfl ?_
   refine nb ?_
   refine nx (kq 0 (kq 3 (kq 55 (kq 56 (kq 57 kn))))) ?_
   refine XC.reg1 ?_
   refine XL.q (q_num ((t + 1 : Nat) : Int) rfl rfl (add64 (by omega) (by omega) (by omega))) rfl ?_
   refine mv_ ?_
   refine XL.nil ?_
   exact rn (t + 1, MI) ⟨ht2, hWi⟩ (by dsimp only; omega) (kq 0 (kq 3 (kq 55 (kq 56 (kq 57 kn))))) (Fit.last PickC.perm) SubC.sub
 ·
  have ht2 : t = 2 := by have := of_decide_eq_false hc; omega
  subst ht2
  refine XC.exit ?_
  refine te ?_
  refine re ?_
  refine be rfl ?_
  refine nx (kq 0 (kq 3 kn)) ?_
  have hp2 : (preK k 2).length + 4 + (encNs k.met).length = (encK k).length := by simp [preK, encK, encM, beN_len]; omega
  have hl3 := hK.l3
  refine XC.reg ?_
  refine mv_ (mv_ ?_)
  refine XL.q (q_nil rfl) rfl ?_
  refine XL.q (qf_ 7 7) rfl ?_
  refine XL.q (q_load rfl (by kernel_rfl) (mA hkb) (by rfl)) rfl ?_
  refine XL.q (q_lenV2 (sz := 2) rfl (by kernel_rfl) hK.met) rfl ?_
  refine XL.q (q_convN (k' := .u64) k.met.length rfl (by kernel_rfl) (wrapU64 (by omega))) rfl ?_
  refine XL.lo rfl (l_call (Mc := MW) (R := _) (aS rfl (aS rfl (aS rfl a0))) (by kernel_rfl) PickC.perm (wnum_spec b11 k.met.length 4 _ _ _ hW (by omega) (by decide) (by omega)) rfl ?_)
  rintro v92 M92 J92 ⟨rfl, hW92⟩
  refine XL.fin (kq 0 (kq 3 kn)) ?_
  refine XC.seq ?_
  refine XC.reg ?_
  refine mv_ ?_
  refine XL.q (q_nil rfl) rfl ?_
  refine XL.q (qf_ 7 7) rfl ?_
  refine XL.q (q_load rfl (by kernel_rfl) (mA hkb) (by rfl)) rfl ?_
  refine XL.q (q_lenV2 (sz := 2) rfl (by kernel_rfl) hK.met) rfl ?_
  refine mv_ ?_
  refine XL.fin (kq 3 (kq 96 (kq 97 (kq 98 kn)))) ?_
  refine XC.block ?_
  refine XC.loop (α := Nat × Mem) (fun y => [(3, .pointer (some ⟨b11, 0, none⟩)), (96, vm), (97, .int .i64 ((k.met.length : Nat) : Int)), (98, .int .i64 ((y.1 : Nat) : Int))]) (fun y => y.2) (fun _ => []) (fun y => y.1 ≤ k.met.length ∧ Wtr b11 (preK k 2 ++ beN k.met.length 4 ++ encNs (k.met.take y.1)) y.2) (fun y => k.met.length - y.1) (0, M92) ⟨Nat.zero_le _, hW92.eq (by simp [encNs])⟩ (kq 3 (kq 96 (kq 97 (kq 98 kn)))) (Fit.last PickC.perm) SubC.sub ?_
  rintro ⟨i, MI⟩ ⟨hi, hWi⟩
  dsimp only at hi hWi ⊢
  refine XC.reg ?_
  refine XL.q (q_cmp (decide (i < k.met.length)) rfl rfl (ltN i k.met.length)) rfl ?_
  refine XL.fin (kq 3 (kq 96 (kq 97 (kq 98 (kq 99 kn))))) ?_
  refine XC.seq ?_
  refine XC.cond rfl (fun hc => ?_) (fun hc => ?_)
  ·
   have hil : i < k.met.length := of_decide_eq_true hc
   obtain ⟨o, ho⟩ : ∃ o, k.met[i]? = some o := ⟨_, List.getElem?_eq_getElem hil⟩
   obtain ⟨r1, hr1, vo1, rfl, ho1, hon⟩ := hK.metR.get i o ho
   haveI := ho1.cel
   have hst := encNs_take ho
   have hsl := encNs_take_len ho
   refine XC.skip ?_
   refine nx (kq 3 (kq 96 (kq 97 (kq 98 kn)))) ?_
   refine XC.seq ?_
   refine XC.block ?_
   refine XC.reg ?_
   refine XL.q (q_atV2 (sz := 2) rfl rfl (by kernel_rfl) rfl hK.met hil) rfl ?_
   refine XL.q (q_ldVR rfl (by kernel_rfl) (hK.met.mono SubC.sub) (hK.metR.lens nmT) (by decide) hr1) rfl ?_
   refine XL.lo rfl (l_alloc (cs := [.int .u32 0, .slice none 0 0]) (by kernel_rfl) rfl fun b9 => ?_)
   refine XL.lo rfl (l_storeW (vs := [.int .u32 ((o.n : Nat) : Int), vo1]) rfl rfl rfl (by kernel_rfl) (by rfl) (allS rfl (allS ho1.one all0)) UpC.upd ?_)
   refine XL.fin (kq 3 (kq 9 (kq 96 (kq 97 (kq 98 kn))))) ?_
   refine XC.drawK1 (MI) (_) true [0, 1, 2, 3, 4, 5, 6, 7] [(0, 0), (1, 0), (2, 1), (3, 0), (5, 0), (6, 1), (4, 2), (7, 2)] (by kernel_rfl) (by kernel_rfl) PickC.perm fun hs K n0 hKm hKs hKn => ?_
   refine XK.q hs rfl qm_ rfl ?_
   refine XK.q hs rfl (qf_ 0 0) rfl ?_
   refine XK.r hs rfl (by first | exact fun x hx => by rw [List.append_assoc]; exact List.mem_append_right _ hx | exact SubC.sub) hKs ql_ rfl ?_
   refine XK.q hs rfl (q_convN (k' := .u64) o.n rfl (by kernel_rfl) (wrapU64 (by omega))) rfl ?_
   refine XK.q hs rfl (qf_ 1 1) rfl ?_
   refine XK.r hs rfl (by first | exact fun x hx => by rw [List.append_assoc]; exact List.mem_append_right _ hx | exact SubC.sub) hKs ql_ rfl ?_
   refine XK.lo _ _ rfl rfl (List.Perm.refl _) hKm fun w0 => (l_call (Mc := MI) (R := _) (aS rfl (aS rfl (aS rfl (a0)))) (by kernel_rfl) PickC.perm (wnum_spec b11 (o.n) 4 _ _ _ hWi (by omega) (by decide) (by first | (simp [beN_len]; done) | (simp [beN_len]; omega))) rfl ?_)
   rintro v106 M106 J106 ⟨rfl, hW106⟩ hKx106
   refine XK.lo M106 _ rfl rfl PickC.perm (fun x hx => hKx106 (hKn rfl) x (by simpa using hx)) fun w0 => (l_call (Mc := M106) (R := _) (aS rfl (aS rfl (a0))) (by kernel_rfl) PickC.perm (wbytes_spec b11 vo1 o.id _ _ _ hW106 (ho1.mono SubC.sub) (by first | (simp [beN_len]; done) | (simp [beN_len]; omega))) rfl ?_)
   rintro v109 M109 J109 ⟨rfl, hW109⟩ hKx109
   refine XK.nil ?_
   refine nb ?_
   refine nx (kq 3 (kq 96 (kq 97 (kq 98 kn)))) ?_
   refine XC.reg1 ?_
   refine XL.q (q_num ((i + 1 : Nat) : Int) rfl rfl (add64 (by omega) (by omega) (by omega))) rfl ?_
   refine mv_ ?_
   refine XL.nil ?_
   exact rn (i + 1, M109) ⟨hil, hW109.eq (by rw [hst]; simp [encNm, encB, List.append_assoc])⟩ (by dsimp only; omega) (kq 3 (kq 96 (kq 97 (kq 98 kn)))) (Fit.last PickC.perm) SubC.sub
  ·
   have hil : i = k.met.length := by have := of_decide_eq_false hc; omega
   subst hil
   rw [List.take_length] at hWi
   replace hWi : Wtr b11 (encK k) MI := hWi.eq (by simp [preK, encK, encM, List.append_assoc])
   refine XC.exit ?_
   refine te ?_
   refine re ?_
   refine be rfl ?_
   refine nx (kq 3 kn) ?_
   refine XC.reg ?_
   refine mv_ ?_
   refine XL.lo rfl (l_call (Mc := MI) (R := _) (aS rfl a0) (by kernel_rfl) PickC.perm (wdone_o b11 _ _ _ hWi (by omega)) rfl ?_)
   rintro v112 M112 J112 ⟨MW2, B112, rfl, hW112, hb112⟩
   haveI := hb112.cel
   refine as_ ?_
   refine XL.fin (kq 2 kn) ?_
   refine XC.ret ?_
   exact ⟨_, B112, [], res1 rfl rfl, Fit.none (Fit.last PickC.perm), hb112, hW112.lt⟩

theorem encode_f (kb : Nat) (k : Ks) (va vg vq vo vm : Value) (rs ro rm : List (List Value)) (A : Mem) (hK : KyR A kb k va vg vq vo vm rs ro rm) (hu : ∃ u : Nat, k.user = (u : Int) ∧ u < 4294967296) (hd : ∃ u : Nat, k.dev = (u : Int) ∧ u < 4294967296) (hl : (encK k).length ≤ 16777216) : FnX Tryz.prog 30 [.pointer (some ⟨kb, 0, none⟩)] [] A fun q M J => M = [] ∧ By J q (encK k) := by
  refine (FnX.frz (post := fun q B M J => M = [] ∧ (Sl 1 q (encK k).length (nums .u8 (encK k)) B ∧ ∀ x ∈ encK k, x < 256)) ((encode_o kb k va vg vq vo vm rs ro rm A hK hu hd hl).mono fun q M J h => ⟨M, [], by simp, rfl, h⟩)).mono ?_
  rintro q M J ⟨B, J2, rfl, h1, h2, h3⟩
  exact ⟨h1, ⟨h2.rd fun x hx => List.mem_append_left _ hx, h3, hl⟩⟩

end Go.Proofs.YtphcaiplgpmnnaaGreatDoor
/- What KeysTurns and KeysMeets keep. -/
namespace Go.Proofs.YtphcaiplgpmnnaaGreatDoor
open Go.Px
/-- The last two of a row, the last first. -/
def last2 (l : List Nat) : List Nat := l.reverse.take 2
theorem more_rise {l : List Nat} {n : Nat} (h : l.Pairwise (· < ·)) (hl : ∀ x ∈ l, x < n) : ∀ i, (l ++ (List.range i).map (n + ·)).Pairwise (· < ·) ∧ ∀ x ∈ l ++ (List.range i).map (n + ·), x < n + i := by
  intro i
  refine ⟨List.pairwise_append.2 ⟨h, ?_, fun a ha b hb => ?_⟩, fun x hx => ?_⟩
  · rw [List.pairwise_map]
    exact List.pairwise_lt_range.imp fun hab => by omega
  · obtain ⟨c, _, rfl⟩ := List.mem_map.1 hb
    have := hl a ha; omega
  · rcases List.mem_append.1 hx with h1 | h1
    · have := hl x h1; omega
    · obtain ⟨c, hc, rfl⟩ := List.mem_map.1 h1
      have := List.mem_range.1 hc; omega
/-- Keys behind so many acts: which numbers there are. -/
structure TuI (i : Nat) (k : Ks) (s : Ps) (sg l : List Nat) : Prop where
  on : onN k = l
  sn : snN k = last2 sg
  ne : sg.length ≤ i + 1 ∧ 1 ≤ sg.length
  rise : l.Pairwise (· < ·)
  lt : ∀ x ∈ l, x < k.next
  slt : ∀ x ∈ sg, x < k.next
  ol : l.length ≤ 4
  nx : k.next ≤ 6 + 4 * i
  ts : s.ts.length ≤ 11 + 5 * i
  n : s.n ≤ 7 + 4 * i
theorem TuI.riseK {i : Nat} {k : Ks} {s : Ps} {sg l : List Nat} (h : TuI i k s sg l) : Rise k.once := rise_of (by show (onN k).Pairwise _; rw [h.on]; exact h.rise)
end Go.Proofs.YtphcaiplgpmnnaaGreatDoor
/- The walk of KeysTurns. -/
namespace Go.Proofs.YtphcaiplgpmnnaaGreatDoor
open Go.Px
theorem eqN {k : IntKind} (a b : Nat) : arith .eql k ((a : Nat) : Int) ((b : Nat) : Int) = some (.bool (decide (a = b))) := by
  by_cases h : a = b
  · rw [decide_eq_true h]; exact eqT (by omega)
  · rw [decide_eq_false h]; exact eqF (by omega)
theorem gtN {k : IntKind} (a b : Nat) : arith .gtr k ((b : Nat) : Int) ((a : Nat) : Int) = some (.bool (decide (a < b))) := by
  by_cases h : a < b
  · rw [decide_eq_true h]; exact gtT (by omega)
  · rw [decide_eq_false h]; exact gtF (by omega)
structure TuS where
  i : Nat
  k : Ks
  s : Ps
  sg : List Nat
  l : List Nat
  vs : Value
  vo : Value
  Bs : Mem
  Bo : Mem
  MK : Mem
  MP : Mem
  J : Mem

end Go.Proofs.YtphcaiplgpmnnaaGreatDoor
