/- The walk of ChainStores. -/
import Derived.Test.YtibemhcnjdgemaaDoorChn8
import Derived.Test.YtibemhcnjdgemaaDoorChn10
import Derived.Test.YtibemhcnjdgemaaDoorGrpX
set_option linter.unusedVariables false
set_option linter.unusedSimpArgs false
namespace Go.Proofs.YtibemhcnjdgemaaDoor
open Go.Px
/-- What is kept of the keys in a store: few, each name once, named by one small byte. -/
structure Inv (l : List Skp) : Prop where
  len : l.length ≤ 32
  one : ∀ s ∈ l, ∃ c, c < 3 ∧ s.of = [c]
  nd : l.Pairwise fun a b => ¬ (a.n = b.n ∧ a.of = b.of)
theorem tst_iff {of : List Nat} {n : Nat} {s : Skp} : tst of n s = true ↔ s.n = n ∧ s.of = of := by simp [tst]
theorem Inv.uniq {l : List Skp} (h : Inv l) {of : List Nat} {n i j : Nat} {x y : Skp} (hx : l[i]? = some x) (hy : l[j]? = some y) (tx : tst of n x = true) (ty : tst of n y = true) : i = j := by
  obtain ⟨a1, a2⟩ := List.getElem?_eq_some_iff.1 hx
  obtain ⟨b1, b2⟩ := List.getElem?_eq_some_iff.1 hy
  have hpw := List.pairwise_iff_getElem.1 h.nd
  obtain ⟨p1, p2⟩ := tst_iff.1 tx
  obtain ⟨q1, q2⟩ := tst_iff.1 ty
  rcases Nat.lt_trichotomy i j with h1 | h1 | h1
  · exact absurd ⟨by rw [a2, b2, p1, q1], by rw [a2, b2, p2, q2]⟩ (hpw i j a1 b1 h1)
  · exact h1
  · exact absurd ⟨by rw [a2, b2, p1, q1], by rw [a2, b2, p2, q2]⟩ (hpw j i b1 a1 h1)
theorem Inv.at {l : List Skp} (h : Inv l) {of : List Nat} {n j : Nat} {x : Skp} (hx : l[j]? = some x) (tx : tst of n x = true) : fidxL (tst of n) l = (j : Int) := by
  rcases fidxL_cases (tst of n) l with ⟨_, h2⟩ | ⟨i, y, h1, h2, h3, _⟩
  · rw [h2 x (List.mem_of_getElem? hx)] at tx; cases tx
  · rw [h1, h.uniq h2 hx h3 tx]
theorem Inv.del {l : List Skp} (h : Inv l) (of : List Nat) (n : Nat) : Inv (delS l of n) ∧ ∀ y ∈ delS l of n, tst of n y = false := by
  rcases fidxL_cases (tst of n) l with ⟨h1, h2⟩ | ⟨i, x, h1, h2, h3, _⟩
  · rw [delS_no h1]; exact ⟨h, h2⟩
  · rw [delS_yes h1]
    refine ⟨⟨Nat.le_trans (List.length_eraseIdx_le _ _) h.len, fun s hs => h.one s (List.mem_of_mem_eraseIdx hs), h.nd.sublist (List.eraseIdx_sublist _ _)⟩, fun y hy => ?_⟩
    obtain ⟨j, hj, hy⟩ := List.mem_eraseIdx_iff_getElem?.1 hy
    cases ht : tst of n y with
    | false => rfl
    | true => exact absurd (h.uniq hy h2 ht h3) hj
theorem Inv.put {l : List Skp} (h : Inv l) {x : Skp} (hx : ∃ c, c < 3 ∧ x.of = [c]) : Inv (putS l x) := by
  obtain ⟨h1, h2⟩ := h.del x.of x.n
  refine ⟨putS_len l x, fun s hs => ?_, ?_⟩
  · rcases List.mem_append.1 (List.mem_of_mem_drop hs) with hs | hs
    · exact h1.one s hs
    · rw [List.mem_singleton.1 hs]; exact hx
  · refine List.Pairwise.sublist (List.drop_sublist _ _) (List.pairwise_append.2 ⟨h1.nd, List.pairwise_singleton _ _, fun a ha b hb => ?_⟩)
    rw [List.mem_singleton.1 hb]
    intro e
    have := h2 a ha
    rw [tst_iff.2 e] at this
    cases this
theorem Inv.nil : Inv [] := ⟨by decide, (fun s h => by cases h), List.Pairwise.nil⟩
theorem getS_some {l : List Skp} {of : List Nat} {n : Nat} : (getS l of n).isSome = decide (fidxL (tst of n) l ≥ 0) := by
  rcases fidxL_cases (tst of n) l with ⟨h1, h2⟩ | ⟨i, x, h1, h2, h3, _⟩
  · rw [getS_no h1, h1]; rfl
  · rw [getS_yes h1 h2, h1]
    symm
    simp

theorem putS_new2 {l : List Skp} {x : Skp} (h : ∀ y ∈ l, tst x.of x.n y = false) : putS l x = (l ++ [x]).drop (l.length + 1 - 32) := by
  have h1 : delS l x.of x.n = l := by
    refine delS_no ?_
    rcases fidxL_cases (tst x.of x.n) l with ⟨h1, _⟩ | ⟨i, y, _, h2, h3, _⟩
    · exact h1
    · rw [h y (List.mem_of_getElem? h2)] at h3; cases h3
  unfold putS
  rw [h1, List.length_append, List.length_singleton]
theorem Inv.nine {l : List Skp} (h : Inv l) : ∀ y ∈ l, tst [9] 9 y = false := by
  intro y hy
  obtain ⟨c, hc, e⟩ := h.one y hy
  cases ht : tst [9] 9 y with
  | false => rfl
  | true =>
    have := (tst_iff.1 ht).2
    rw [e] at this
    injection this with h1
    omega
structure Csx where
  i : Nat
  l : List Skp
  MS : Mem
  v : Value
  rows : List (List Value)
  B : Mem
  J : Mem
structure CsOk (A : Mem) (sb : Nat) (x : Csx) : Prop where
  i : x.i ≤ 120
  inv : Inv x.l
  sto : Sto (x.J ++ A) sb x.l x.MS
  sl : Sl 3 x.v x.l.length x.rows.flatten x.B
  rw_ : RwL skR (x.J ++ A) x.rows x.l

set_option maxRecDepth 100000 in
theorem chainStores_spec (vo vn va : Value) (os ns acs : List Nat) (A : Mem) (hro : Rd A 1 vo os.length (nums .u8 os)) (hrn : Rd A 1 vn ns.length (nums .u8 ns)) (hra : Rd A 1 va acs.length (nums .u8 acs)) (ho : ∀ x ∈ os, x < 256) (hn : ∀ x ∈ ns, x < 256) (ha : ∀ x ∈ acs, x < 256) (hol : os.length ≤ maxLen) (hnl : ns.length ≤ maxLen) (hal : acs.length ≤ maxLen) (hG : Glb A) : FnV Tryd.prog 6 [vo, vn, va] A (.bool true) := by
  haveI := hro.cel
  haveI := hrn.cel
  haveI := hra.cel
  have hmx : maxLen < 9223372036854775808 := by unfold maxLen; omega
  refine FnX.enter (N := 187) Tryd.func6 rfl rfl rfl fun w => ?_
  refine XC.keep (kp 0 rfl (kp 1 rfl (kp 2 rfl kn))) ?_
  refine XC.reg ?_
  refine XL.q (q_assign rfl) rfl ?_
  refine XL.fin (kp 0 rfl (kp 1 rfl (kp 2 rfl kn))) ?_
  refine XC.seq ?_
  refine XC.reg ?_
  refine XL.call a0 (by kernel_rfl) (cawake_spec _ hG.up) rfl ?_
  rintro v17 M17 J17 ⟨rfl, rfl⟩
  refine XL.q (q_not rfl) rfl ?_
  refine XL.q (q_move rfl) rfl ?_
  refine XL.gy rfl rfl (OpQ.opL (q_move rfl) rfl ?_)
  refine XL.gy rfl rfl (OpQ.opL (q_lenV2 (sz := 1) rfl (by kernel_rfl) hro) rfl ?_)
  refine XL.gy rfl rfl (OpQ.opL (q_bin rfl rfl rfl) rfl ?_)
  refine XL.q (q_pickF rfl rfl) rfl ?_
  refine XL.fin (kp 0 rfl (kp 1 rfl (kp 2 rfl (kp 23 rfl kn)))) ?_
  refine XC.cond rfl (fun hc => ?_) (fun hc => ?_)
  ·
    refine XC.reg ?_
    refine XL.call a0 (by kernel_rfl) (cawake_spec _ hG.up) rfl ?_
    rintro v24 M24 J24 ⟨rfl, rfl⟩
    refine XL.q (q_assign rfl) rfl ?_
    refine XL.fin (kp 6 rfl kn) ?_
    refine XC.ret ?_
    refine tr ?_
    exact ⟨_, [], [], res1 rfl rfl, List.nil_sublist _, by simp, rfl, rfl, rfl⟩
  ·
    have h120 : os.length ≤ 120 := by simp at hc; omega
    refine XC.skip ?_
    refine nx (kp 0 rfl (kp 1 rfl (kp 2 rfl kn))) ?_
    refine XC.reg ?_
    refine XL.q (q_build (place := fun x => #[(0, 1)][x]?) (z := [.slice none 0 0]) (fun _ => by kernel_rfl) e0 bd0) rfl ?_
    refine XL.lo rfl (l_box rfl (by first | exact Cel.cel | rfl) rfl fun b26 => ?_)
    refine XL.q (q_assign rfl) rfl ?_
    refine XL.fin (kp 0 rfl (kp 1 rfl (kp 2 rfl (kp 7 rfl kn)))) ?_
    refine XC.reg ?_
    refine XL.q (q_assign rfl) rfl ?_
    refine XL.fin (kp 0 rfl (kp 1 rfl (kp 2 rfl (kp 7 rfl (kp 8 rfl kn))))) ?_
    refine XC.join (α := Csx) (fun x => [(7, .pointer (some ⟨b26, 0, none⟩)), (8, x.v)]) (fun x => x.MS ++ x.B) (fun x => x.J) (CsOk A b26) ?_ ?_
    ·
      refine XC.reg ?_
      refine XL.q (q_assign rfl) rfl ?_
      refine XL.fin (kp 0 rfl (kp 1 rfl (kp 2 rfl (kp 7 rfl (kp 8 rfl (kp 9 rfl kn)))))) ?_
      refine XC.block ?_
      refine XC.loop (α := Csx) (fun x => [(0, vo), (1, vn), (2, va), (7, .pointer (some ⟨b26, 0, none⟩)), (8, x.v), (9, .int .i64 ((x.i : Nat) : Int))]) (fun x => x.MS ++ x.B) (fun x => x.J) (CsOk A b26) (fun x => 200 - x.i) ⟨0, [], [(b26, blk [.slice none 0 0] 38)], .slice none 0 0, [], [], J17 ++ []⟩ ⟨Nat.zero_le _, Inv.nil, ⟨_, [], [], rfl, Sl.nil, RwL.nil⟩, Sl.nil, RwL.nil⟩ (kp 0 rfl (kp 1 rfl (kp 2 rfl (kp 7 rfl (kp 8 rfl (kp 9 rfl kn)))))) (Fit.eq (by simp)) (fun _ h => h) ?_
      rintro x hx
      obtain ⟨i, l, MS, vm, rowsM, BM, Ji⟩ := x
      obtain ⟨hi, hI, hS, hsm, hrm⟩ := hx
      dsimp only at hi hI hS hsm hrm ⊢
      obtain ⟨vS, rowsS, BS, rfl, hslS, hrwS⟩ := hS.ex
      haveI := hsm.cel
      haveI := hslS.cel
      have hIl := hI.len
      refine XC.seq ?_
      have h3 : (i < os.length ∧ i < ns.length ∧ i < acs.length) ∨ (i < os.length ∧ i < ns.length ∧ ¬ i < acs.length) ∨ (i < os.length ∧ ¬ i < ns.length) ∨ ¬ i < os.length := by omega
      rcases h3 with ⟨hio, hin, hia⟩ | ⟨hio, hin, hia⟩ | ⟨hio, hin⟩ | hio
      ·
        refine XC.reg ?_
        refine XL.q (q_move rfl) rfl ?_
        refine XL.q (q_move rfl) rfl ?_
        refine XL.q (q_lenV2 (sz := 1) rfl (by kernel_rfl) hro) rfl ?_
        refine XL.q (q_cmp true rfl rfl (ltT (by omega))) rfl ?_
        refine XL.q (q_move rfl) rfl ?_
        refine XL.gy rfl rfl (OpQ.opL (q_move rfl) rfl ?_)
        refine XL.gy rfl rfl (OpQ.opL (q_move rfl) rfl ?_)
        refine XL.gy rfl rfl (OpQ.opL (q_lenV2 (sz := 1) rfl (by kernel_rfl) hrn) rfl ?_)
        refine XL.gy rfl rfl (OpQ.opL (q_cmp true rfl rfl (ltT (by omega))) rfl ?_)
        refine XL.q (q_pickT rfl rfl) rfl ?_
        refine XL.q (q_move rfl) rfl ?_
        refine XL.gy rfl rfl (OpQ.opL (q_move rfl) rfl ?_)
        refine XL.gy rfl rfl (OpQ.opL (q_move rfl) rfl ?_)
        refine XL.gy rfl rfl (OpQ.opL (q_lenV2 (sz := 1) rfl (by kernel_rfl) hra) rfl ?_)
        refine XL.gy rfl rfl (OpQ.opL (q_cmp true rfl rfl (ltT (by omega))) rfl ?_)
        refine XL.q (q_pickT rfl rfl) rfl ?_
        refine XL.fin (kp 0 rfl (kp 1 rfl (kp 2 rfl (kp 7 rfl (kp 8 rfl (kp 9 rfl (kp 42 rfl kn))))))) ?_
        refine XC.condT rfl ?_
        refine XC.skip ?_
        refine nx (kp 0 rfl (kp 1 rfl (kp 2 rfl (kp 7 rfl (kp 8 rfl (kp 9 rfl kn)))))) ?_
        refine XC.seq ?_
        refine XC.block ?_
        refine XC.drawF [0, 1, 2, 3, 4, 5, 6, 7, 8, 9, 10, 11, 12, 13, 14, 15, 16, 17, 18, 19, 20] [(0, 0), (1, 0), (2, 0), (3, 1), (4, 0), (6, 0), (7, 0), (8, 0), (9, 1), (10, 0), (11, 0), (12, 0), (13, 0), (14, 0), (15, 0), (16, 0), (17, 1), (5, 3), (18, 3), (19, 3), (20, 4), (21, 2)] (by kernel_rfl) (by kernel_rfl) fun hs => ?_
        refine XF.q hs rfl (q_move rfl) rfl ?_
        refine XF.q hs rfl (q_move rfl) rfl ?_
        refine XF.q hs rfl (q_atV2 (sz := 1) rfl rfl (by kernel_rfl) rfl (by first | assumption | exact Sl.rd (by assumption) (fun _ h => h) | exact By.rd (by assumption)) (by omega)) rfl ?_
        refine XF.r hs rfl (q_ldVN2 (k := .u8) rfl (by kernel_rfl) (by first | exact Rd.mono (by assumption) SubC.sub | exact Sl.rd (by assumption) SubC.sub | exact Rd.mono (By.rd (by assumption)) SubC.sub) (by omega)) rfl ?_
        refine XF.q hs rfl (q_remI (b := 3) rfl rfl rfl rfl (by omega)) rfl ?_
        refine XF.q hs rfl (q_move rfl) rfl ?_
        refine XF.q hs rfl (q_move rfl) rfl ?_
        refine XF.q hs rfl (q_atV2 (sz := 1) rfl rfl (by kernel_rfl) rfl (by first | assumption | exact Sl.rd (by assumption) (fun _ h => h) | exact By.rd (by assumption)) (by omega)) rfl ?_
        refine XF.r hs rfl (q_ldVN2 (k := .u8) rfl (by kernel_rfl) (by first | exact Rd.mono (by assumption) SubC.sub | exact Sl.rd (by assumption) SubC.sub | exact Rd.mono (By.rd (by assumption)) SubC.sub) (by omega)) rfl ?_
        refine XF.q hs rfl (q_remI (b := 40) rfl rfl rfl rfl (by omega)) rfl ?_
        refine XF.q hs rfl (q_same (k' := .u32) rfl (by kernel_rfl) (by show _ < 2147483648; omega)) rfl ?_
        refine XF.q hs rfl (q_move rfl) rfl ?_
        refine XF.q hs rfl (q_to8 rfl (by kernel_rfl)) rfl ?_
        refine XF.q hs rfl (q_move rfl) rfl ?_
        refine XF.q hs rfl (q_move rfl) rfl ?_
        refine XF.q hs rfl (q_atV2 (sz := 1) rfl rfl (by kernel_rfl) rfl (by first | assumption | exact Sl.rd (by assumption) (fun _ h => h) | exact By.rd (by assumption)) (by omega)) rfl ?_
        refine XF.r hs rfl (q_ldVN2 (k := .u8) rfl (by kernel_rfl) (by first | exact Rd.mono (by assumption) SubC.sub | exact Sl.rd (by assumption) SubC.sub | exact Rd.mono (By.rd (by assumption)) SubC.sub) (by omega)) rfl ?_
        refine XF.groupX [⟨5, 50, [], fun _ v B _ => ∃ b, v = .slice (some ⟨b, 0, none⟩) 1 1 ∧ B = [(b, blk (nums .u8 [(os.getD i 0 % 3)]) 5)]⟩, ⟨18, 63, [], fun _ v B _ => ∃ b, v = .slice (some ⟨b, 0, none⟩) 2 2 ∧ B = [(b, blk (nums .u8 [i % 256, ns.getD i 0]) 5)]⟩, ⟨19, 64, [5, 18], fun us v B _ => B = [] ∧ ∃ p q, us = [p, q] ∧ v = .agg #[p, .int .u32 (((ns.getD i 0 % 40) : Nat) : Int), q]⟩, ⟨20, 10, [], fun _ v B _ => ∃ b, v = .pointer (some ⟨b, 0, none⟩) ∧ B = [(b, blk [.slice none 0 0, .int .u32 0, .slice none 0 0] 53)]⟩]
          (allS (fun _ _ _ _ _ _ h => h) (allS (fun _ _ _ _ _ _ h => h) (allS (fun _ _ _ _ _ _ h => h) (allS (fun _ _ _ _ _ _ h => h) (all0))))) (show List.Nodup [50, 63, 64, 10] by decide) (show List.Nodup [5, 18, 19, 20] by decide) (allS (all0) (allS (all0) (allS (allS ⟨show 5 ≠ 19 by decide, by kernel_rfl⟩ (allS ⟨show 18 ≠ 19 by decide, by kernel_rfl⟩ (all0))) (allS (all0) (all0))))) (allS (blt_lt rfl) (allS (blt_lt rfl) (allS (blt_lt rfl) (allS (blt_lt rfl) (all0)))))
          (allS ⟨_, rfl, fun vs bs R w hb ha => ⟨.inl rfl, ?_⟩⟩ (allS ⟨_, rfl, fun vs bs R w hb ha => ⟨.inl rfl, ?_⟩⟩ (allS ⟨_, rfl, fun vs bs R w hb ha => ⟨.inl rfl, ?_⟩⟩ (allS ⟨_, rfl, fun vs bs R w hb ha => ⟨.inl rfl, ?_⟩⟩ (all0))))) ?_
        ·
          exact l_buildSlice (e := 5) (sz := 1) (z := [.int .u8 0]) (by kernel_rfl) (eS rfl e0) (bdS 0 1 rfl (by rfl) bd0) rfl fun b => ⟨_, rfl, b, rfl, rfl⟩
        ·
          exact l_buildSlice (e := 5) (sz := 1) (z := [.int .u8 0, .int .u8 0]) (by kernel_rfl) (eS rfl (eS rfl e0)) (bdS 0 1 rfl (by rfl) (bdS 1 1 rfl (by rfl) bd0)) rfl fun b => ⟨_, rfl, b, rfl, rfl⟩
        ·
          have g5 := ha _ (List.mem_of_getElem? (i := 0) rfl) (by kernel_rfl)
          replace g5 : (fun _ v B _ => ∃ b, v = .slice (some ⟨b, 0, none⟩) 1 1 ∧ B = [(b, blk (nums .u8 [(os.getD i 0 % 3)]) 5)]) ([] : List Value) (vs 5) (bs 5) R := g5
          dsimp only at g5
          have g18 := ha _ (List.mem_of_getElem? (i := 1) rfl) (by kernel_rfl)
          replace g18 : (fun _ v B _ => ∃ b, v = .slice (some ⟨b, 0, none⟩) 2 2 ∧ B = [(b, blk (nums .u8 [i % 256, ns.getD i 0]) 5)]) ([] : List Value) (vs 18) (bs 18) R := g18
          dsimp only at g18
          obtain ⟨c5, h5, -⟩ := g5
          obtain ⟨c18, h18, -⟩ := g18
          exact OpQ.opL (q_build (place := fun x => #[(0, 1), (1, 1), (2, 1)][x]?) (z := [.slice none 0 0, .int .u32 0, .slice none 0 0]) (fun _ => by kernel_rfl) (eS (v := .slice (some ⟨c5, 0, none⟩) 1 1) (by rw [← h5]; rfl) (eS rfl (eS (v := .slice (some ⟨c18, 0, none⟩) 2 2) (by rw [← h18]; rfl) e0))) (bdS 0 1 rfl (by rfl) (bdS 1 1 rfl (by rfl) (bdS 2 1 rfl (by rfl) bd0)))) rfl ⟨_, rfl, rfl, vs 5, vs 18, rfl, by rw [h5, h18]⟩
        ·
          exact l_alloc (cs := [.slice none 0 0, .int .u32 0, .slice none 0 0]) (by kernel_rfl) rfl fun b => ⟨_, rfl, b, rfl, rfl⟩
        intro vs bs Jn0 hφ
        have g5 := ofH hφ
        dsimp only at g5
        replace hφ := ofT hφ
        have g18 := ofH hφ
        dsimp only at g18
        replace hφ := ofT hφ
        have g19 := ofH hφ
        dsimp only at g19
        replace hφ := ofT hφ
        have g20 := ofH hφ
        dsimp only at g20
        clear hφ
        dsimp only [gEnvX, ownOf, List.map, List.flatten, List.cons_append, List.nil_append] at *
        generalize bs 5 = B50 at *
        generalize bs 18 = B63 at *
        generalize bs 19 = B64 at *
        generalize bs 20 = B10 at *
        generalize vs 5 = u50 at *
        generalize vs 18 = u63 at *
        generalize vs 19 = u64 at *
        generalize vs 20 = u10 at *
        obtain ⟨b50, rfl, rfl⟩ := g5
        obtain ⟨b63, rfl, rfl⟩ := g18
        obtain ⟨rfl, p, q, hus, rfl⟩ := g19
        cases hus
        obtain ⟨b10, rfl, rfl⟩ := g20
        dsimp only [List.append_eq, List.nil_append, List.cons_append]
        refine XF.frz (B := [(b50, blk (nums .u8 [(os.getD i 0 % 3)]) 5)]) PickC.perm ?_
        refine XF.frz (B := [(b63, blk (nums .u8 [i % 256, ns.getD i 0]) 5)]) PickC.perm ?_
        have h50 : By [(b50, blk (nums .u8 [(os.getD i 0 % 3)]) 5)] (.slice (some ⟨b50, 0, none⟩) 1 1) [(os.getD i 0 % 3)] := ⟨Rd.whole (n := 1) List.mem_cons_self (by rfl), (fun x hx => by rw [List.mem_singleton.1 hx]; omega), show 1 ≤ 16777216 by decide⟩
        have hnb : ns.getD i 0 < 256 := getD_lt hn i
        have h63 : By [(b63, blk (nums .u8 [i % 256, ns.getD i 0]) 5)] (.slice (some ⟨b63, 0, none⟩) 2 2) [i % 256, ns.getD i 0] := ⟨Rd.whole (n := 2) List.mem_cons_self (by rfl), (fun x hx => by simp only [List.mem_cons, List.not_mem_nil, or_false] at hx; rcases hx with rfl | rfl; exact Nat.mod_lt _ (by decide); exact hnb), by show 2 ≤ 16777216; decide⟩
        refine XF.tl rfl rfl rfl (l_storeW rfl rfl Cel.cel (by kernel_rfl) (by rfl) (by intro c hc; simp only [List.mem_cons, List.not_mem_nil, or_false] at hc; rcases hc with rfl | rfl | rfl <;> rfl) UpC.upd ?_)
        refine XF.fin (kp 0 rfl (kp 1 rfl (kp 2 rfl (kp 7 rfl (kp 8 rfl (kp 9 rfl (kp 10 rfl kn))))))) ?_
        refine XC.reg ?_
        refine XL.q (q_assign rfl) rfl ?_
        refine XL.fin (kp 0 rfl (kp 1 rfl (kp 2 rfl (kp 7 rfl (kp 8 rfl (kp 9 rfl (kp 10 rfl (kp 11 rfl kn)))))))) ?_
        refine XC.seq ?_
        refine XC.reg ?_
        refine XL.q (q_assign rfl) rfl ?_
        refine XL.fin (kp 0 rfl (kp 1 rfl (kp 2 rfl (kp 7 rfl (kp 8 rfl (kp 9 rfl (kp 10 rfl (kp 11 rfl (kp 12 rfl kn))))))))) ?_
        refine XC.block ?_
        refine XC.loop (α := Nat × Int) (fun y => [(0, vo), (1, vn), (2, va), (7, .pointer (some ⟨b26, 0, none⟩)), (8, vm), (9, .int .i64 ((i : Nat) : Int)), (10, .pointer (some ⟨b10, 0, none⟩)), (11, .int .i64 y.2), (12, .int .i64 ((y.1 : Nat) : Int))]) (fun _ => (b10, blk [(.slice (some ⟨b50, 0, none⟩) 1 1), .int .u32 (((ns.getD i 0 % 40) : Nat) : Int), (.slice (some ⟨b63, 0, none⟩) 2 2)] 53) :: (((b26, blk [vS] 38) :: BS) ++ BM)) (fun _ => ([(b63, blk (nums .u8 [i % 256, ns.getD i 0]) 5)] ++ ([(b50, blk (nums .u8 [(os.getD i 0 % 3)]) 5)] ++ (Jn0 ++ Ji)))) (fun y => y.1 ≤ l.length ∧ ((y.2 = -1 ∧ ∀ (j : Nat) (s : Skp), j < y.1 → l[j]? = some s → (tst [(os.getD i 0 % 3)] (ns.getD i 0 % 40)) s = false) ∨ ∃ (j : Nat) (s : Skp), j < y.1 ∧ l[j]? = some s ∧ (tst [(os.getD i 0 % 3)] (ns.getD i 0 % 40)) s = true ∧ y.2 = (j : Int))) (fun y => l.length - y.1) (0, -1) ⟨Nat.zero_le _, .inl ⟨rfl, fun j s h => absurd h (Nat.not_lt_zero j)⟩⟩ (kp 0 rfl (kp 1 rfl (kp 2 rfl (kp 7 rfl (kp 8 rfl (kp 9 rfl (kp 10 rfl (kp 11 rfl (kp 12 rfl kn))))))))) (Fit.pick (B := [_]) PickC.perm (Fit.pick (B := ((b26, blk [vS] 38) :: BS)) PickC.perm (Fit.last (B := BM) PickC.perm))) (fun _ h => h) ?_
        rintro ⟨k, av⟩ ⟨hk, hat⟩
        dsimp only at hk hat ⊢
        refine XC.seq ?_
        refine XC.reg ?_
        refine XL.q (q_move rfl) rfl ?_
        refine XL.q (q_move rfl) rfl ?_
        refine XL.q (q_lenV2 (sz := 3) rfl (by kernel_rfl) (hsm.rd (R := BM) fun _ h => h)) rfl ?_
        refine XL.q (q_bin rfl rfl rfl) rfl ?_
        refine XL.fin (kp 0 rfl (kp 1 rfl (kp 2 rfl (kp 7 rfl (kp 8 rfl (kp 9 rfl (kp 10 rfl (kp 11 rfl (kp 12 rfl (kp 68 rfl kn)))))))))) ?_
        refine XC.cond rfl (fun hc => ?_) (fun hc => ?_)
        ·
          have hlt : k < l.length := by simp at hc; omega
          obtain ⟨s, hsk⟩ : ∃ s, l[k]? = some s := ⟨_, List.getElem?_eq_getElem hlt⟩
          obtain ⟨row, hrow, wo, wk, rfl, hwo, hwk, hsn⟩ := hrm.get k s hsk
          obtain ⟨c, hc3, hof⟩ := hI.one s (List.mem_of_getElem? hsk)
          rw [hof] at hwo
          haveI := hwo.cel
          haveI := hwk.cel
          refine XC.skip ?_
          refine nx (kp 0 rfl (kp 1 rfl (kp 2 rfl (kp 7 rfl (kp 8 rfl (kp 9 rfl (kp 10 rfl (kp 11 rfl (kp 12 rfl kn))))))))) ?_
          refine XC.seq ?_
          refine XC.block ?_
          have h3 : s.n ≠ (ns.getD i 0 % 40) ∨ s.n = (ns.getD i 0 % 40) ∧ (c ≠ (os.getD i 0 % 3) ∨ c = (os.getD i 0 % 3)) := by omega
          rcases h3 with h1 | ⟨h1, h2 | h2⟩
          ·
            refine XC.drawF [0, 1, 2, 3, 4, 5, 6, 7, 8, 9, 10, 11, 12, 13, 14, 15, 16, 17, 18, 19, 20, 21] [(0, 0), (1, 0), (2, 0), (3, 0), (4, 1), (5, 0), (6, 1), (7, 0), (8, 0), (9, 0), (10, 0), (11, 0), (12, 0), (13, 1), (14, 0), (15, 1), (16, 0), (17, 1), (18, 0), (19, 1), (20, 0), (21, 0)] (by kernel_rfl) (by kernel_rfl) fun hs => ?_
            refine XF.q hs rfl (q_move rfl) rfl ?_
            refine XF.q hs rfl (q_move rfl) rfl ?_
            refine XF.q hs rfl (q_atV2 (sz := 3) rfl rfl (by kernel_rfl) rfl (hsm.rd (R := BM) fun _ h => h) hlt) rfl ?_
            refine XF.q hs rfl (q_fldV (off := 1) rfl (hsm.rd (R := BM) fun _ h => h) hlt (by kernel_rfl)) rfl ?_
            refine XF.r hs rfl (q_ldVF (u := .int .u32 ((s.n : Nat) : Int)) rfl (hsm.rd SubC.sub) (by omega) (by kernel_rfl) (by rw [flat_get (hrm.lens skT) hrow 1 (by decide)]; rfl)) rfl ?_
            refine XF.q hs rfl (q_fieldAddrN 1 (off := 1) rfl (by kernel_rfl) rfl) rfl ?_
            refine XF.r hs rfl (q_load (v := .int .u32 (((ns.getD i 0 % 40) : Nat) : Int)) rfl (by kernel_rfl) At.mem (by rfl)) rfl ?_
            refine XF.q hs rfl (q_cmp false rfl rfl (eqF (by omega))) rfl ?_
            refine XF.q hs rfl (q_move rfl) rfl ?_
            refine XF.qn hs rfl rfl rfl rfl rfl rfl ?_
            refine XF.qn hs rfl rfl rfl rfl rfl rfl ?_
            refine XF.qn hs rfl rfl rfl rfl rfl rfl ?_
            refine XF.qn hs rfl rfl rfl rfl rfl rfl ?_
            refine XF.rn hs rfl rfl rfl rfl rfl rfl ?_
            refine XF.qn hs rfl rfl rfl rfl rfl rfl ?_
            refine XF.rn hs rfl rfl rfl rfl rfl rfl ?_
            refine XF.qn hs rfl rfl rfl rfl rfl rfl ?_
            refine XF.rn hs rfl rfl rfl rfl rfl rfl ?_
            refine XF.qn hs rfl rfl rfl rfl rfl rfl ?_
            refine XF.rn hs rfl rfl rfl rfl rfl rfl ?_
            refine XF.qn hs rfl rfl rfl rfl rfl rfl ?_
            refine XF.q hs rfl (q_pickF rfl rfl) rfl ?_
            refine XF.fin (kp 0 rfl (kp 1 rfl (kp 2 rfl (kp 7 rfl (kp 8 rfl (kp 9 rfl (kp 10 rfl (kp 11 rfl (kp 12 rfl (kp 92 rfl kn)))))))))) ?_
            refine XC.condF rfl ?_
            refine XC.skip ?_
            refine nb ?_
            refine nx (kp 0 rfl (kp 1 rfl (kp 2 rfl (kp 7 rfl (kp 8 rfl (kp 9 rfl (kp 10 rfl (kp 11 rfl (kp 12 rfl kn))))))))) ?_
            refine XC.reg1 ?_
            refine XL.q (q_move rfl) rfl ?_
            refine XL.q (q_addI (b := 1) rfl rfl rfl rfl (by omega)) rfl ?_
            refine XL.q (q_assign rfl) rfl ?_
            refine XL.nil ?_
            exact rn (k + 1, av) ⟨by dsimp only; omega, hat.imp (fun ⟨e1, e2⟩ => ⟨e1, fun j s' hj hs' => by
              rcases Nat.lt_succ_iff_lt_or_eq.1 hj with h | h
              · exact e2 j s' h hs'
              · subst h; rw [hsk] at hs'; cases hs'; cases ht : (tst [(os.getD i 0 % 3)] (ns.getD i 0 % 40)) s with | false => rfl | true => exact absurd (tst_iff.1 ht).1 h1⟩) (fun ⟨j, s', h1, h2⟩ => ⟨j, s', Nat.lt_succ_of_lt h1, h2⟩)⟩ (by dsimp only; omega) (kp 0 rfl (kp 1 rfl (kp 2 rfl (kp 7 rfl (kp 8 rfl (kp 9 rfl (kp 10 rfl (kp 11 rfl (kp 12 rfl kn))))))))) .rfl (fun _ h => h)
          ·
            refine XC.drawF [0, 1, 2, 3, 4, 5, 6, 7, 8, 9, 10, 11, 12, 13, 14, 15, 16, 17, 18, 19, 20, 21] [(0, 0), (1, 0), (2, 0), (3, 0), (4, 1), (5, 0), (6, 1), (7, 0), (8, 0), (9, 0), (10, 0), (11, 0), (12, 0), (13, 1), (14, 0), (15, 1), (16, 0), (17, 1), (18, 0), (19, 1), (20, 0), (21, 0)] (by kernel_rfl) (by kernel_rfl) fun hs => ?_
            refine XF.q hs rfl (q_move rfl) rfl ?_
            refine XF.q hs rfl (q_move rfl) rfl ?_
            refine XF.q hs rfl (q_atV2 (sz := 3) rfl rfl (by kernel_rfl) rfl (hsm.rd (R := BM) fun _ h => h) hlt) rfl ?_
            refine XF.q hs rfl (q_fldV (off := 1) rfl (hsm.rd (R := BM) fun _ h => h) hlt (by kernel_rfl)) rfl ?_
            refine XF.r hs rfl (q_ldVF (u := .int .u32 ((s.n : Nat) : Int)) rfl (hsm.rd SubC.sub) (by omega) (by kernel_rfl) (by rw [flat_get (hrm.lens skT) hrow 1 (by decide)]; rfl)) rfl ?_
            refine XF.q hs rfl (q_fieldAddrN 1 (off := 1) rfl (by kernel_rfl) rfl) rfl ?_
            refine XF.r hs rfl (q_load (v := .int .u32 (((ns.getD i 0 % 40) : Nat) : Int)) rfl (by kernel_rfl) At.mem (by rfl)) rfl ?_
            refine XF.q hs rfl (q_cmp true rfl rfl (eqT (by omega))) rfl ?_
            refine XF.q hs rfl (q_move rfl) rfl ?_
            refine XF.qg hs rfl rfl rfl rfl (q_move rfl) rfl ?_
            refine XF.qg hs rfl rfl rfl rfl (q_move rfl) rfl ?_
            refine XF.qg hs rfl rfl rfl rfl (q_atV2 (sz := 3) rfl rfl (by kernel_rfl) rfl (hsm.rd (R := BM) fun _ h => h) hlt) rfl ?_
            refine XF.qg hs rfl rfl rfl rfl (q_fldV (off := 0) rfl (hsm.rd (R := BM) fun _ h => h) hlt (by kernel_rfl)) rfl ?_
            refine XF.rg hs rfl rfl rfl rfl (q_ldVF (u := wo) rfl (hsm.rd SubC.sub) (by omega) (by kernel_rfl) (by rw [flat_get (hrm.lens skT) hrow 0 (by decide)]; rfl)) rfl ?_
            refine XF.qg hs rfl rfl rfl rfl (q_atV2 (sz := 1) (a := 0) rfl rfl (by kernel_rfl) rfl hwo.rd (show 0 < 1 by decide)) rfl ?_
            refine XF.rg hs rfl rfl rfl rfl (q_ldVN (j := 0) (hwo.rd.mono SubC.sub) rfl (by kernel_rfl) (show 0 < 1 by decide)) rfl ?_
            refine XF.qg hs rfl rfl rfl rfl (q_fieldAddrN 0 (off := 0) rfl (by kernel_rfl) rfl) rfl ?_
            refine XF.rg hs rfl rfl rfl rfl (q_load (v := (.slice (some ⟨b50, 0, none⟩) 1 1)) rfl (by kernel_rfl) At.mem (by rfl)) rfl ?_
            refine XF.qg hs rfl rfl rfl rfl (q_atV2 (sz := 1) (a := 0) rfl rfl (by kernel_rfl) rfl h50.rd (show 0 < 1 by decide)) rfl ?_
            refine XF.rg hs rfl rfl rfl rfl (q_ldVN (j := 0) (h50.rd.mono SubC.sub) rfl (by kernel_rfl) (show 0 < 1 by decide)) rfl ?_
            refine XF.qg hs rfl rfl rfl rfl (q_cmp false rfl rfl (eqF (by show ((c : Nat) : Int) ≠ (((os.getD i 0 % 3) : Nat) : Int); omega))) rfl ?_
            refine XF.q hs rfl (q_pickT rfl rfl) rfl ?_
            refine XF.fin (kp 0 rfl (kp 1 rfl (kp 2 rfl (kp 7 rfl (kp 8 rfl (kp 9 rfl (kp 10 rfl (kp 11 rfl (kp 12 rfl (kp 92 rfl kn)))))))))) ?_
            refine XC.condF rfl ?_
            refine XC.skip ?_
            refine nb ?_
            refine nx (kp 0 rfl (kp 1 rfl (kp 2 rfl (kp 7 rfl (kp 8 rfl (kp 9 rfl (kp 10 rfl (kp 11 rfl (kp 12 rfl kn))))))))) ?_
            refine XC.reg1 ?_
            refine XL.q (q_move rfl) rfl ?_
            refine XL.q (q_addI (b := 1) rfl rfl rfl rfl (by omega)) rfl ?_
            refine XL.q (q_assign rfl) rfl ?_
            refine XL.nil ?_
            exact rn (k + 1, av) ⟨by dsimp only; omega, hat.imp (fun ⟨e1, e2⟩ => ⟨e1, fun j s' hj hs' => by
              rcases Nat.lt_succ_iff_lt_or_eq.1 hj with h | h
              · exact e2 j s' h hs'
              · subst h; rw [hsk] at hs'; cases hs'; cases ht : (tst [(os.getD i 0 % 3)] (ns.getD i 0 % 40)) s with | false => rfl | true => exact absurd (by have h := (tst_iff.1 ht).2; rw [hof] at h; injection h) h2⟩) (fun ⟨j, s', h1, h2⟩ => ⟨j, s', Nat.lt_succ_of_lt h1, h2⟩)⟩ (by dsimp only; omega) (kp 0 rfl (kp 1 rfl (kp 2 rfl (kp 7 rfl (kp 8 rfl (kp 9 rfl (kp 10 rfl (kp 11 rfl (kp 12 rfl kn))))))))) .rfl (fun _ h => h)
          ·
            refine XC.drawF [0, 1, 2, 3, 4, 5, 6, 7, 8, 9, 10, 11, 12, 13, 14, 15, 16, 17, 18, 19, 20, 21] [(0, 0), (1, 0), (2, 0), (3, 0), (4, 1), (5, 0), (6, 1), (7, 0), (8, 0), (9, 0), (10, 0), (11, 0), (12, 0), (13, 1), (14, 0), (15, 1), (16, 0), (17, 1), (18, 0), (19, 1), (20, 0), (21, 0)] (by kernel_rfl) (by kernel_rfl) fun hs => ?_
            refine XF.q hs rfl (q_move rfl) rfl ?_
            refine XF.q hs rfl (q_move rfl) rfl ?_
            refine XF.q hs rfl (q_atV2 (sz := 3) rfl rfl (by kernel_rfl) rfl (hsm.rd (R := BM) fun _ h => h) hlt) rfl ?_
            refine XF.q hs rfl (q_fldV (off := 1) rfl (hsm.rd (R := BM) fun _ h => h) hlt (by kernel_rfl)) rfl ?_
            refine XF.r hs rfl (q_ldVF (u := .int .u32 ((s.n : Nat) : Int)) rfl (hsm.rd SubC.sub) (by omega) (by kernel_rfl) (by rw [flat_get (hrm.lens skT) hrow 1 (by decide)]; rfl)) rfl ?_
            refine XF.q hs rfl (q_fieldAddrN 1 (off := 1) rfl (by kernel_rfl) rfl) rfl ?_
            refine XF.r hs rfl (q_load (v := .int .u32 (((ns.getD i 0 % 40) : Nat) : Int)) rfl (by kernel_rfl) At.mem (by rfl)) rfl ?_
            refine XF.q hs rfl (q_cmp true rfl rfl (eqT (by omega))) rfl ?_
            refine XF.q hs rfl (q_move rfl) rfl ?_
            refine XF.qg hs rfl rfl rfl rfl (q_move rfl) rfl ?_
            refine XF.qg hs rfl rfl rfl rfl (q_move rfl) rfl ?_
            refine XF.qg hs rfl rfl rfl rfl (q_atV2 (sz := 3) rfl rfl (by kernel_rfl) rfl (hsm.rd (R := BM) fun _ h => h) hlt) rfl ?_
            refine XF.qg hs rfl rfl rfl rfl (q_fldV (off := 0) rfl (hsm.rd (R := BM) fun _ h => h) hlt (by kernel_rfl)) rfl ?_
            refine XF.rg hs rfl rfl rfl rfl (q_ldVF (u := wo) rfl (hsm.rd SubC.sub) (by omega) (by kernel_rfl) (by rw [flat_get (hrm.lens skT) hrow 0 (by decide)]; rfl)) rfl ?_
            refine XF.qg hs rfl rfl rfl rfl (q_atV2 (sz := 1) (a := 0) rfl rfl (by kernel_rfl) rfl hwo.rd (show 0 < 1 by decide)) rfl ?_
            refine XF.rg hs rfl rfl rfl rfl (q_ldVN (j := 0) (hwo.rd.mono SubC.sub) rfl (by kernel_rfl) (show 0 < 1 by decide)) rfl ?_
            refine XF.qg hs rfl rfl rfl rfl (q_fieldAddrN 0 (off := 0) rfl (by kernel_rfl) rfl) rfl ?_
            refine XF.rg hs rfl rfl rfl rfl (q_load (v := (.slice (some ⟨b50, 0, none⟩) 1 1)) rfl (by kernel_rfl) At.mem (by rfl)) rfl ?_
            refine XF.qg hs rfl rfl rfl rfl (q_atV2 (sz := 1) (a := 0) rfl rfl (by kernel_rfl) rfl h50.rd (show 0 < 1 by decide)) rfl ?_
            refine XF.rg hs rfl rfl rfl rfl (q_ldVN (j := 0) (h50.rd.mono SubC.sub) rfl (by kernel_rfl) (show 0 < 1 by decide)) rfl ?_
            refine XF.qg hs rfl rfl rfl rfl (q_cmp true rfl rfl (eqT (by show ((c : Nat) : Int) = (((os.getD i 0 % 3) : Nat) : Int); omega))) rfl ?_
            refine XF.q hs rfl (q_pickT rfl rfl) rfl ?_
            refine XF.fin (kp 0 rfl (kp 1 rfl (kp 2 rfl (kp 7 rfl (kp 8 rfl (kp 9 rfl (kp 10 rfl (kp 11 rfl (kp 12 rfl (kp 92 rfl kn)))))))))) ?_
            refine XC.condT rfl ?_
            refine XC.reg1 ?_
            refine XL.q (q_move rfl) rfl ?_
            refine XL.q (q_assign rfl) rfl ?_
            refine XL.nil ?_
            refine nb ?_
            refine nx (kp 0 rfl (kp 1 rfl (kp 2 rfl (kp 7 rfl (kp 8 rfl (kp 9 rfl (kp 10 rfl (kp 11 rfl (kp 12 rfl kn))))))))) ?_
            refine XC.reg1 ?_
            refine XL.q (q_move rfl) rfl ?_
            refine XL.q (q_addI (b := 1) rfl rfl rfl rfl (by omega)) rfl ?_
            refine XL.q (q_assign rfl) rfl ?_
            refine XL.nil ?_
            exact rn (k + 1, (k : Int)) ⟨by dsimp only; omega, .inr ⟨k, s, Nat.lt_succ_self k, hsk, tst_iff.2 ⟨h1, by rw [hof, h2]⟩, rfl⟩⟩ (by dsimp only; omega) (kp 0 rfl (kp 1 rfl (kp 2 rfl (kp 7 rfl (kp 8 rfl (kp 9 rfl (kp 10 rfl (kp 11 rfl (kp 12 rfl kn))))))))) .rfl (fun _ h => h)
        ·
          have hge : k = l.length := by simp at hc; omega
          subst hge
          have hfa : av = (fidxL (tst [(os.getD i 0 % 3)] (ns.getD i 0 % 40)) l) := by
            rcases hat with ⟨h1, h2⟩ | ⟨j, s, h1, h2, h3, h4⟩
            · rw [h1]
              rcases fidxL_cases (tst [(os.getD i 0 % 3)] (ns.getD i 0 % 40)) l with ⟨h3, _⟩ | ⟨j, s, _, h4, h5, _⟩
              · exact h3.symm
              · rw [h2 j s (List.getElem?_eq_some_iff.1 h4).1 h4] at h5; cases h5
            · rw [h4, hI.at h2 h3]
          clear hat
          subst hfa
          refine XC.exit ?_
          refine te ?_
          refine re ?_
          refine be rfl ?_
          refine nx (kp 0 rfl (kp 1 rfl (kp 2 rfl (kp 7 rfl (kp 8 rfl (kp 9 rfl (kp 10 rfl (kp 11 rfl kn)))))))) ?_
          refine XC.reg ?_
          refine XL.q (q_move rfl) rfl ?_
          refine XL.q (q_fieldAddrN 0 (off := 0) rfl (by kernel_rfl) rfl) rfl ?_
          refine XL.q (q_load (v := (.slice (some ⟨b50, 0, none⟩) 1 1)) rfl (by kernel_rfl) At.mem (by rfl)) rfl ?_
          refine XL.q (q_fieldAddrN 1 (off := 1) rfl (by kernel_rfl) rfl) rfl ?_
          refine XL.q (q_load (v := .int .u32 (((ns.getD i 0 % 40) : Nat) : Int)) rfl (by kernel_rfl) At.mem (by rfl)) rfl ?_
          refine XL.call (aS rfl (aS rfl (aS rfl a0))) (by kernel_rfl) (get_spec b26 vS (.slice (some ⟨b50, 0, none⟩) 1 1) rowsS l [(os.getD i 0 % 3)] (ns.getD i 0 % 40) _ At.mem (hslS.rd SubC.sub) (hrwS.mono skT SubC.sub) (by omega) (h50.mono SubC.sub)) rfl ?_
          rintro v100 M100 J100 ⟨rfl, u100, rfl, hb100⟩
          haveI := hb100.cel
          rw [getS_some]
          refine XL.q (q_move rfl) rfl ?_
          refine XL.q (q_x0 rfl) rfl ?_
          refine XL.q (q_x1 rfl) rfl ?_
          refine XL.q (q_assign rfl) rfl ?_
          refine XL.q (q_assign rfl) rfl ?_
          refine XL.fin (kp 0 rfl (kp 1 rfl (kp 2 rfl (kp 7 rfl (kp 8 rfl (kp 9 rfl (kp 10 rfl (kp 11 rfl (kp 13 rfl (kp 14 rfl kn)))))))))) ?_
          refine XC.join (α := Unit) (fun _ => [(0, vo), (1, vn), (2, va), (7, .pointer (some ⟨b26, 0, none⟩)), (8, vm), (9, .int .i64 ((i : Nat) : Int)), (10, .pointer (some ⟨b10, 0, none⟩)), (11, .int .i64 (fidxL (tst [(os.getD i 0 % 3)] (ns.getD i 0 % 40)) l))]) (fun _ => (b10, blk [(.slice (some ⟨b50, 0, none⟩) 1 1), .int .u32 (((ns.getD i 0 % 40) : Nat) : Int), (.slice (some ⟨b63, 0, none⟩) 2 2)] 53) :: (((b26, blk [vS] 38) :: BS) ++ BM)) (fun _ => ([(b63, blk (nums .u8 [i % 256, ns.getD i 0]) 5)] ++ ([(b50, blk (nums .u8 [(os.getD i 0 % 3)]) 5)] ++ (Jn0 ++ Ji)))) (fun _ => True) ?_ ?_
          ·
            refine XC.drawF [0, 1, 2, 3, 4, 5, 6, 7, 8, 9, 10, 11, 12, 13, 14, 15, 16, 17] [(0, 0), (1, 0), (2, 0), (3, 0), (4, 0), (5, 0), (6, 0), (7, 0), (8, 1), (9, 0), (10, 0), (11, 0), (12, 0), (13, 1), (14, 1), (15, 0), (16, 0), (17, 0)] (by kernel_rfl) (by kernel_rfl) fun hs => ?_
            refine XF.q hs rfl (q_move rfl) rfl ?_
            refine XF.q hs rfl (q_move rfl) rfl ?_
            refine XF.q hs rfl (q_bin rfl rfl rfl) rfl ?_
            refine XF.q hs rfl (q_boolNeR false rfl rfl (by kernel_rfl) (by simp)) rfl ?_
            refine XF.q hs rfl (q_move rfl) rfl ?_
            refine XF.qg hs rfl rfl rfl rfl (q_move rfl) rfl ?_
            refine XF.qg hs rfl rfl rfl rfl (q_move rfl) rfl ?_
            refine XF.split (t := 109) rfl (fun hb => ?_) (fun hb => ?_)
            ·
              obtain ⟨hf, hz⟩ | ⟨j, x, hfj, hxj, hq, hmin⟩ := fidxL_cases (tst [(os.getD i 0 % 3)] (ns.getD i 0 % 40)) l
              · rw [hf] at hb; simp at hb
              have hjl := (List.getElem?_eq_some_iff.1 hxj).1
              rw [getS_yes hfj hxj] at hb100
              obtain ⟨row, hrow, wo, wk, rfl, hwo, hwk, hsn⟩ := hrm.get j x hxj
              haveI := hwk.cel
              refine XF.qg hs rfl rfl rfl rfl (q_move rfl) rfl ?_
              refine XF.rg hs rfl rfl rfl rfl (q_toStr2 rfl (by kernel_rfl) (hb100.rd.mono SubC.sub)) rfl ?_
              refine XF.qg hs rfl rfl rfl rfl (q_move rfl) rfl ?_
              refine XF.qg hs rfl rfl rfl rfl (q_move rfl) rfl ?_
              refine XF.qg hs rfl rfl rfl rfl (q_atV2 (sz := 3) (a := j) rfl rfl (by kernel_rfl) hfj (hsm.rd (R := BM) fun _ h => h) hjl) rfl ?_
              refine XF.qg hs rfl rfl rfl rfl (q_fldV (off := 2) rfl (hsm.rd (R := BM) fun _ h => h) hjl (by kernel_rfl)) rfl ?_
              refine XF.rg hs rfl rfl rfl rfl (q_ldVF (u := wk) rfl (hsm.rd SubC.sub) (by omega) (by kernel_rfl) (by rw [flat_get (hrm.lens skT) hrow 2 (by decide)]; rfl)) rfl ?_
              refine XF.rg hs rfl rfl rfl rfl (q_toStr2 rfl (by kernel_rfl) (hwk.rd.mono SubC.sub)) rfl ?_
              refine XF.qg hs rfl rfl rfl rfl ((show (!decide ((some x.key).getD [] = x.key)) = false by simp) ▸ q_sNe rfl rfl rfl rfl hb100.lt hwk.lt) rfl ?_
              refine XF.qg hs rfl rfl rfl rfl (q_pickT rfl rfl) rfl ?_
              refine XF.q hs rfl (q_pickF rfl rfl) rfl ?_
              refine XF.fin (kp 0 rfl (kp 1 rfl (kp 2 rfl (kp 7 rfl (kp 8 rfl (kp 9 rfl (kp 10 rfl (kp 11 rfl (kp 120 rfl kn))))))))) ?_
              refine XC.condF rfl ?_
              refine XC.skip ?_
              exact jn () trivial (kp 0 rfl (kp 1 rfl (kp 2 rfl (kp 7 rfl (kp 8 rfl (kp 9 rfl (kp 10 rfl (kp 11 rfl kn)))))))) .rfl (fun x h => List.mem_append_right _ h)
            ·
              refine XF.qn hs rfl rfl rfl rfl rfl rfl ?_
              refine XF.rn hs rfl rfl rfl rfl rfl rfl ?_
              refine XF.qn hs rfl rfl rfl rfl rfl rfl ?_
              refine XF.qn hs rfl rfl rfl rfl rfl rfl ?_
              refine XF.qn hs rfl rfl rfl rfl rfl rfl ?_
              refine XF.qn hs rfl rfl rfl rfl rfl rfl ?_
              refine XF.rn hs rfl rfl rfl rfl rfl rfl ?_
              refine XF.rn hs rfl rfl rfl rfl rfl rfl ?_
              refine XF.qn hs rfl rfl rfl rfl rfl rfl ?_
              refine XF.qg hs rfl rfl rfl rfl (q_pickF rfl rfl) rfl ?_
              refine XF.q hs rfl (q_pickF rfl rfl) rfl ?_
              refine XF.fin (kp 0 rfl (kp 1 rfl (kp 2 rfl (kp 7 rfl (kp 8 rfl (kp 9 rfl (kp 10 rfl (kp 11 rfl (kp 120 rfl kn))))))))) ?_
              refine XC.condF rfl ?_
              refine XC.skip ?_
              exact jn () trivial (kp 0 rfl (kp 1 rfl (kp 2 rfl (kp 7 rfl (kp 8 rfl (kp 9 rfl (kp 10 rfl (kp 11 rfl kn)))))))) .rfl (fun x h => List.mem_append_right _ h)
          ·
            rintro _ _
            refine XC.join (α := Value × List (List Value) × Mem) (fun y => [(0, vo), (1, vn), (2, va), (7, .pointer (some ⟨b26, 0, none⟩)), (8, y.1), (9, .int .i64 ((i : Nat) : Int)), (10, .pointer (some ⟨b10, 0, none⟩)), (11, .int .i64 (fidxL (tst [(os.getD i 0 % 3)] (ns.getD i 0 % 40)) l))]) (fun y => (b10, blk [(.slice (some ⟨b50, 0, none⟩) 1 1), .int .u32 (((ns.getD i 0 % 40) : Nat) : Int), (.slice (some ⟨b63, 0, none⟩) 2 2)] 53) :: (((b26, blk [vS] 38) :: BS) ++ y.2.2)) (fun _ => ([(b63, blk (nums .u8 [i % 256, ns.getD i 0]) 5)] ++ ([(b50, blk (nums .u8 [(os.getD i 0 % 3)]) 5)] ++ (Jn0 ++ Ji)))) (fun y => Sl 3 y.1 (delS l [(os.getD i 0 % 3)] (ns.getD i 0 % 40)).length y.2.1.flatten y.2.2 ∧ RwL skR (Ji ++ A) y.2.1 (delS l [(os.getD i 0 % 3)] (ns.getD i 0 % 40))) ?_ ?_
            ·
              refine XC.reg ?_
              refine XL.q (q_move rfl) rfl ?_
              refine XL.q (q_bin rfl rfl rfl) rfl ?_
              refine XL.fin (kp 0 rfl (kp 1 rfl (kp 2 rfl (kp 7 rfl (kp 8 rfl (kp 9 rfl (kp 10 rfl (kp 11 rfl (kp 122 rfl kn))))))))) ?_
              refine XC.cond rfl (fun hc => ?_) (fun hc => ?_)
              ·
                obtain ⟨hf, hz⟩ | ⟨j, x, hfj, hxj, hq, hmin⟩ := fidxL_cases (tst [(os.getD i 0 % 3)] (ns.getD i 0 % 40)) l
                · rw [hf] at hc; simp at hc
                have hjl := (List.getElem?_eq_some_iff.1 hxj).1
                refine XC.reg ?_
                refine XL.q (q_assign rfl) rfl ?_
                refine XL.fin (kp 0 rfl (kp 1 rfl (kp 2 rfl (kp 7 rfl (kp 8 rfl (kp 9 rfl (kp 10 rfl (kp 11 rfl (kp 15 rfl kn))))))))) ?_
                refine XC.reg ?_
                refine XL.q (q_move rfl) rfl ?_
                refine XL.q (q_move rfl) rfl ?_
                refine XL.q (q_move rfl) rfl ?_
                refine XL.q (q_hiV2 (sz := 3) (a := j) rfl rfl (by kernel_rfl) hfj (hsm.rd (R := BM) fun _ h => h) (by omega)) rfl ?_
                refine XL.lo rfl (l_append2 (e := 53) (sz := 3) (by_ := 56) rfl rfl (by kernel_rfl) rfl Sl.nil ((((hsm.rd (R := BM) fun _ h => h)).hiV j (by omega)).mono SubC.sub) (fun c hc => hrm.ones skT c (List.mem_of_mem_take hc)) PickC.perm (by unfold maxLen; omega) (by omega) rfl fun v127 B127 hs127 => ?_)
                haveI := hs127.cel
                refine XL.q (q_assign rfl) rfl ?_
                refine XL.fin (kp 0 rfl (kp 1 rfl (kp 2 rfl (kp 7 rfl (kp 8 rfl (kp 9 rfl (kp 10 rfl (kp 11 rfl (kp 15 rfl kn))))))))) ?_
                refine XC.reg1 ?_
                refine XL.q (q_move rfl) rfl ?_
                refine XL.q (q_move rfl) rfl ?_
                refine XL.q (q_move rfl) rfl ?_
                refine XL.q (q_addI (a := j) (b := 1) rfl rfl hfj rfl (by omega)) rfl ?_
                refine XL.q (q_loV2 (sz := 3) (a := j + 1) rfl rfl (by kernel_rfl) rfl (hsm.rd (R := BM) fun _ h => h) (by omega)) rfl ?_
                refine XL.lo rfl (l_append2 (e := 53) (sz := 3) (by_ := 56) rfl rfl (by kernel_rfl) rfl hs127 ((((hsm.rd (R := BM) fun _ h => h)).loV (j + 1) (by omega)).mono SubC.sub) (fun c hc => hrm.ones skT c (List.mem_of_mem_drop hc)) PickC.perm (by unfold maxLen; omega) (by omega) rfl fun v133 B133 hs133 => ?_)
                haveI := hs133.cel
                refine XL.q (q_assign rfl) rfl ?_
                refine XL.nil ?_
                exact jn (v133, rowsM.take j ++ rowsM.drop (j + 1), B133) ⟨by rw [delS_yes hfj]; exact Sl.cast hs133 (by rw [List.length_eraseIdx, if_pos hjl]; omega) (by rw [List.nil_append]; exact flat_erase (hrm.lens skT) j), by rw [delS_yes hfj]; exact hrm.erase j⟩ (kp 0 rfl (kp 1 rfl (kp 2 rfl (kp 7 rfl (kp 8 rfl (kp 9 rfl (kp 10 rfl (kp 11 rfl kn)))))))) (Fit.pick (B := [_]) PickC.perm (Fit.pick (B := ((b26, blk [vS] 38) :: BS)) PickC.perm (Fit.last (B := B133) PickC.perm))) (fun _ h => h)
              ·
                have hf : (fidxL (tst [(os.getD i 0 % 3)] (ns.getD i 0 % 40)) l) = -1 := by
                  obtain ⟨hf, hz⟩ | ⟨j, x, hfj, hxj, hq, hmin⟩ := fidxL_cases (tst [(os.getD i 0 % 3)] (ns.getD i 0 % 40)) l
                  · exact hf
                  · rw [hfj] at hc; (simp at hc) <;> omega
                refine XC.skip ?_
                exact jn (vm, rowsM, BM) ⟨by rw [delS_no hf]; exact hsm, by rw [delS_no hf]; exact hrm⟩ (kp 0 rfl (kp 1 rfl (kp 2 rfl (kp 7 rfl (kp 8 rfl (kp 9 rfl (kp 10 rfl (kp 11 rfl kn)))))))) .rfl (fun _ h => h)
            ·
              rintro ⟨v1, rows1, B1⟩ ⟨hsl1, hrw1⟩
              dsimp only at hsl1 hrw1 ⊢
              haveI := hsl1.cel
              obtain ⟨hdI, hdno⟩ := hI.del [(os.getD i 0 % 3)] (ns.getD i 0 % 40)
              have hdl := hdI.len
              have hS8 : Sto (([(b63, blk (nums .u8 [i % 256, ns.getD i 0]) 5)] ++ ([(b50, blk (nums .u8 [(os.getD i 0 % 3)]) 5)] ++ (Jn0 ++ Ji))) ++ A) b26 l ((b26, blk [vS] 38) :: BS) := hS.mono SubC.sub
              have hrw18 : RwL skR (([(b63, blk (nums .u8 [i % 256, ns.getD i 0]) 5)] ++ ([(b50, blk (nums .u8 [(os.getD i 0 % 3)]) 5)] ++ (Jn0 ++ Ji))) ++ A) rows1 (delS l [(os.getD i 0 % 3)] (ns.getD i 0 % 40)) := hrw1.mono skT SubC.sub
              refine XC.join (α := Csx) (fun x => [(0, vo), (1, vn), (2, va), (7, .pointer (some ⟨b26, 0, none⟩)), (8, x.v), (9, .int .i64 ((i : Nat) : Int))]) (fun x => x.MS ++ x.B) (fun x => x.J) (CsOk A b26) ?_ ?_
              ·
                refine XC.reg ?_
                refine XL.q (q_move rfl) rfl ?_
                refine XL.q (q_move rfl) rfl ?_
                refine XL.q (q_atV2 (sz := 1) rfl rfl (by kernel_rfl) rfl hra hia) rfl ?_
                refine XL.q (q_ldVN2 (k := .u8) rfl (by kernel_rfl) (hra.mono SubC.sub) hia) rfl ?_
                refine XL.q (q_remI (b := 4) rfl rfl rfl rfl (by omega)) rfl ?_
                refine XL.q (q_bin rfl rfl rfl) rfl ?_
                refine XL.fin (kp 0 rfl (kp 1 rfl (kp 2 rfl (kp 7 rfl (kp 8 rfl (kp 9 rfl (kp 10 rfl (kp 11 rfl (kp 139 rfl kn))))))))) ?_
                refine XC.cond rfl (fun hc => ?_) (fun hc => ?_)
                ·
                  refine XC.reg ?_
                  refine XL.q (q_move rfl) rfl ?_
                  refine XL.q (q_fieldAddrN 0 (off := 0) rfl (by kernel_rfl) rfl) rfl ?_
                  refine XL.q (q_load (v := (.slice (some ⟨b50, 0, none⟩) 1 1)) rfl (by kernel_rfl) At.mem (by rfl)) rfl ?_
                  refine XL.q (q_fieldAddrN 1 (off := 1) rfl (by kernel_rfl) rfl) rfl ?_
                  refine XL.q (q_load (v := .int .u32 (((ns.getD i 0 % 40) : Nat) : Int)) rfl (by kernel_rfl) At.mem (by rfl)) rfl ?_
                  refine XL.lo rfl (l_call (Mc := ((b26, blk [vS] 38) :: BS)) (R := _) (aS rfl (aS rfl (aS rfl a0))) (by kernel_rfl) PickC.perm (drop_spec b26 (.slice (some ⟨b50, 0, none⟩) 1 1) l [(os.getD i 0 % 3)] (ns.getD i 0 % 40) (([(b63, blk (nums .u8 [i % 256, ns.getD i 0]) 5)] ++ ([(b50, blk (nums .u8 [(os.getD i 0 % 3)]) 5)] ++ (Jn0 ++ Ji))) ++ A) ((b26, blk [vS] 38) :: BS) _ hS8 upR (by omega) (h50.mono SubC.sub)) rfl ?_)
                  rintro v145 M145 J145 ⟨rfl, hS145⟩
                  refine XL.q (q_move rfl) rfl ?_
                  refine XL.q (q_bin rfl rfl rfl) rfl ?_
                  refine XL.q (q_boolNeR false rfl rfl (by kernel_rfl) (by simp)) rfl ?_
                  refine XL.fin (kp 0 rfl (kp 1 rfl (kp 2 rfl (kp 7 rfl (kp 8 rfl (kp 9 rfl (kp 148 rfl kn))))))) ?_
                  refine XC.condF rfl ?_
                  refine XC.skip ?_
                  exact jn ⟨0, (delS l [(os.getD i 0 % 3)] (ns.getD i 0 % 40)), M145, v1, rows1, B1, ([(b63, blk (nums .u8 [i % 256, ns.getD i 0]) 5)] ++ ([(b50, blk (nums .u8 [(os.getD i 0 % 3)]) 5)] ++ (Jn0 ++ Ji)))⟩ ⟨Nat.zero_le _, hdI, hS145.mono SubC.sub, hsl1, hrw18⟩ (kp 0 rfl (kp 1 rfl (kp 2 rfl (kp 7 rfl (kp 8 rfl (kp 9 rfl kn)))))) (Fit.pick PickC.perm (Fit.last PickC.perm)) (fun _ h => List.mem_append_right _ h)
                ·
                  refine XC.reg ?_
                  refine XL.q (q_move rfl) rfl ?_
                  refine XL.q (q_loadW (n := 3) rfl (by kernel_rfl) At.mem (by rfl)) rfl ?_
                  refine XL.lo rfl (l_call (Mc := ((b26, blk [vS] 38) :: BS)) (R := _) (aS rfl (aS rfl a0)) (by kernel_rfl) PickC.perm (put_spec b26 (.slice (some ⟨b50, 0, none⟩) 1 1) (.slice (some ⟨b63, 0, none⟩) 2 2) l [(os.getD i 0 % 3)] [i % 256, ns.getD i 0] (ns.getD i 0 % 40) (([(b63, blk (nums .u8 [i % 256, ns.getD i 0]) 5)] ++ ([(b50, blk (nums .u8 [(os.getD i 0 % 3)]) 5)] ++ (Jn0 ++ Ji))) ++ A) ((b26, blk [vS] 38) :: BS) _ hS8 upR (by omega) (h50.mono SubC.sub) (h63.mono SubC.sub) (by omega)) rfl ?_)
                  rintro v151 M151 J151 ⟨rfl, hS151⟩
                  have hput : putS l ⟨[(os.getD i 0 % 3)], (ns.getD i 0 % 40), [i % 256, ns.getD i 0]⟩ = List.drop ((delS l [(os.getD i 0 % 3)] (ns.getD i 0 % 40)).length + 1 - 32) ((delS l [(os.getD i 0 % 3)] (ns.getD i 0 % 40)) ++ [(⟨[(os.getD i 0 % 3)], (ns.getD i 0 % 40), [i % 256, ns.getD i 0]⟩ : Skp)]) := by unfold putS; rw [List.length_append, List.length_singleton]
                  have hpI := hI.put (x := ⟨[(os.getD i 0 % 3)], (ns.getD i 0 % 40), [i % 256, ns.getD i 0]⟩) ⟨_, Nat.mod_lt _ (by decide), rfl⟩
                  refine XL.fin (kp 0 rfl (kp 1 rfl (kp 2 rfl (kp 7 rfl (kp 8 rfl (kp 9 rfl (kp 10 rfl kn))))))) ?_
                  refine XC.reg ?_
                  refine XL.q (q_move rfl) rfl ?_
                  refine XL.q (q_loadW (n := 3) rfl (by kernel_rfl) At.mem (by rfl)) rfl ?_
                  refine XL.lo rfl (l_buildSlice (e := 53) (sz := 3) (z := [.slice none 0 0, .int .u32 0, .slice none 0 0]) (by kernel_rfl) (eS rfl e0) (bdS 0 3 rfl (by rfl) bd0) rfl fun b154 => ?_)
                  refine XL.lo rfl (l_append2 (e := 53) (sz := 3) (by_ := 56) rfl rfl (by kernel_rfl) rfl hsl1 (Rd.whole (n := 1) At.mem (by rfl)) (by intro c hc; simp only [List.mem_cons, List.not_mem_nil, or_false] at hc; rcases hc with rfl | rfl | rfl <;> rfl) PickC.perm (by unfold maxLen; omega) (by omega) rfl fun v155 B155 hs155 => ?_)
                  haveI := hs155.cel
                  have hrw2 := hrw18.snoc (x := (⟨[(os.getD i 0 % 3)], (ns.getD i 0 % 40), [i % 256, ns.getD i 0]⟩ : Skp)) (r := [(.slice (some ⟨b50, 0, none⟩) 1 1), .int .u32 (((ns.getD i 0 % 40) : Nat) : Int), (.slice (some ⟨b63, 0, none⟩) 2 2)]) ⟨_, _, rfl, h50.mono SubC.sub, h63.mono SubC.sub, (by show (ns.getD i 0 % 40) < 4294967296; omega)⟩
                  have hs156 : Sl 3 v155 ((delS l [(os.getD i 0 % 3)] (ns.getD i 0 % 40)) ++ [(⟨[(os.getD i 0 % 3)], (ns.getD i 0 % 40), [i % 256, ns.getD i 0]⟩ : Skp)]).length (rows1 ++ [([(.slice (some ⟨b50, 0, none⟩) 1 1), .int .u32 (((ns.getD i 0 % 40) : Nat) : Int), (.slice (some ⟨b63, 0, none⟩) 2 2)] : List Value)]).flatten B155 := Sl.cast hs155 (by simp) (by simp)
                  have hlen2 : ((delS l [(os.getD i 0 % 3)] (ns.getD i 0 % 40)) ++ [(⟨[(os.getD i 0 % 3)], (ns.getD i 0 % 40), [i % 256, ns.getD i 0]⟩ : Skp)]).length = (delS l [(os.getD i 0 % 3)] (ns.getD i 0 % 40)).length + 1 := by simp
                  refine XL.q (q_assign rfl) rfl ?_
                  refine XL.fin (kp 0 rfl (kp 1 rfl (kp 2 rfl (kp 7 rfl (kp 8 rfl (kp 9 rfl kn)))))) ?_
                  refine XC.reg ?_
                  refine XL.q (q_move rfl) rfl ?_
                  refine XL.q (q_lenV2 (sz := 3) rfl (by kernel_rfl) (hs155.rd (R := B155) fun _ h => h)) rfl ?_
                  refine XL.q (q_bin rfl rfl rfl) rfl ?_
                  refine XL.fin (kp 0 rfl (kp 1 rfl (kp 2 rfl (kp 7 rfl (kp 8 rfl (kp 9 rfl (kp 158 rfl kn))))))) ?_
                  refine XC.cond rfl (fun hc => ?_) (fun hc => ?_)
                  ·
                    have hgt : (delS l [(os.getD i 0 % 3)] (ns.getD i 0 % 40)).length + 1 = 33 := by have := of_decide_eq_true hc; omega
                    obtain ⟨B3, hsub3, hs3⟩ := hs156.loV 1 (by omega)
                    haveI := hs3.cel
                    refine XC.reg1 ?_
                    refine XL.q (q_move rfl) rfl ?_
                    refine XL.q (q_loV2 (sz := 3) (a := 1) rfl rfl (by kernel_rfl) rfl (hs155.rd (R := B155) fun _ h => h) (by omega)) rfl ?_
                    refine XL.q (q_assign rfl) rfl ?_
                    refine XL.nil ?_
                    exact jn ⟨0, putS l ⟨[(os.getD i 0 % 3)], (ns.getD i 0 % 40), [i % 256, ns.getD i 0]⟩, M151, vLo 1 3 v155, (rows1 ++ [([(.slice (some ⟨b50, 0, none⟩) 1 1), .int .u32 (((ns.getD i 0 % 40) : Nat) : Int), (.slice (some ⟨b63, 0, none⟩) 2 2)] : List Value)]).drop 1, B3, J151 ++ ([(b63, blk (nums .u8 [i % 256, ns.getD i 0]) 5)] ++ ([(b50, blk (nums .u8 [(os.getD i 0 % 3)]) 5)] ++ (Jn0 ++ Ji)))⟩ ⟨Nat.zero_le _, hpI, hS151.mono SubC.sub, by rw [hput]; exact Sl.cast hs3 (by rw [List.length_drop]; omega) (by rw [show (delS l [(os.getD i 0 % 3)] (ns.getD i 0 % 40)).length + 1 - 32 = 1 by omega, ← flat_drop (hrw2.lens skT) 1]), by rw [hput, show (delS l [(os.getD i 0 % 3)] (ns.getD i 0 % 40)).length + 1 - 32 = 1 by omega]; exact (hrw2.mono skT SubC.sub).drop 1⟩ (kp 0 rfl (kp 1 rfl (kp 2 rfl (kp 7 rfl (kp 8 rfl (kp 9 rfl kn)))))) (Fit.pick PickC.perm (fit_lastS (B := B155) PickC.perm hsub3)) (fun _ h => h)
                  ·
                    have hle : (delS l [(os.getD i 0 % 3)] (ns.getD i 0 % 40)).length + 1 ≤ 32 := by have := of_decide_eq_false hc; omega
                    refine XC.skip ?_
                    exact jn ⟨0, putS l ⟨[(os.getD i 0 % 3)], (ns.getD i 0 % 40), [i % 256, ns.getD i 0]⟩, M151, v155, rows1 ++ [([(.slice (some ⟨b50, 0, none⟩) 1 1), .int .u32 (((ns.getD i 0 % 40) : Nat) : Int), (.slice (some ⟨b63, 0, none⟩) 2 2)] : List Value)], B155, J151 ++ ([(b63, blk (nums .u8 [i % 256, ns.getD i 0]) 5)] ++ ([(b50, blk (nums .u8 [(os.getD i 0 % 3)]) 5)] ++ (Jn0 ++ Ji)))⟩ ⟨Nat.zero_le _, hpI, hS151.mono SubC.sub, by rw [hput, show (delS l [(os.getD i 0 % 3)] (ns.getD i 0 % 40)).length + 1 - 32 = 0 by omega]; exact hs156, by rw [hput, show (delS l [(os.getD i 0 % 3)] (ns.getD i 0 % 40)).length + 1 - 32 = 0 by omega]; exact hrw2.mono skT SubC.sub⟩ (kp 0 rfl (kp 1 rfl (kp 2 rfl (kp 7 rfl (kp 8 rfl (kp 9 rfl kn)))))) (Fit.pick PickC.perm (Fit.last PickC.perm)) (fun _ h => h)
              ·
                rintro ⟨i0, l2, MS2, v2, rows2, B2, J2⟩ ⟨-, hI2, hS2, hsl2, hrw2⟩
                dsimp only at hI2 hS2 hsl2 hrw2 ⊢
                obtain ⟨vT, rowsT, BT, rfl, hslT, hrwT⟩ := hS2.ex
                haveI := hsl2.cel
                haveI := hslT.cel
                have hI2l := hI2.len
                refine XC.reg ?_
                refine XL.q (q_move rfl) rfl ?_
                refine XL.q (q_move rfl) rfl ?_
                refine XL.callV (aS rfl (aS rfl a0)) (by kernel_rfl) (csame_spec b26 vT v2 rowsT rows2 l2 l2 _ At.mem (hslT.rd SubC.sub) (hrwT.mono skT SubC.sub) (by omega) (hsl2.rd SubC.sub) (hrw2.mono skT SubC.sub) (by omega)) rfl ?_
                rw [decide_eq_true rfl]
                refine XL.q (q_not rfl) rfl ?_
                refine XL.fin (kp 0 rfl (kp 1 rfl (kp 2 rfl (kp 7 rfl (kp 8 rfl (kp 9 rfl (kp 164 rfl kn))))))) ?_
                refine XC.condF rfl ?_
                refine XC.skip ?_
                refine nb ?_
                refine nx (kp 0 rfl (kp 1 rfl (kp 2 rfl (kp 7 rfl (kp 8 rfl (kp 9 rfl kn)))))) ?_
                refine XC.reg1 ?_
                refine XL.q (q_move rfl) rfl ?_
                refine XL.q (q_addI (b := 1) rfl rfl rfl rfl (by omega)) rfl ?_
                refine XL.q (q_assign rfl) rfl ?_
                refine XL.nil ?_
                exact rn ⟨i + 1, l2, (b26, blk [vT] 38) :: BT, v2, rows2, B2, J2⟩ ⟨by dsimp only; omega, hI2, hS2, hsl2, hrw2⟩ (by dsimp only; omega) (kp 0 rfl (kp 1 rfl (kp 2 rfl (kp 7 rfl (kp 8 rfl (kp 9 rfl kn)))))) .rfl (fun _ h => h)
      ·
        refine XC.reg ?_
        refine XL.q (q_move rfl) rfl ?_
        refine XL.q (q_move rfl) rfl ?_
        refine XL.q (q_lenV2 (sz := 1) rfl (by kernel_rfl) hro) rfl ?_
        refine XL.q (q_cmp true rfl rfl (ltT (by omega))) rfl ?_
        refine XL.q (q_move rfl) rfl ?_
        refine XL.gy rfl rfl (OpQ.opL (q_move rfl) rfl ?_)
        refine XL.gy rfl rfl (OpQ.opL (q_move rfl) rfl ?_)
        refine XL.gy rfl rfl (OpQ.opL (q_lenV2 (sz := 1) rfl (by kernel_rfl) hrn) rfl ?_)
        refine XL.gy rfl rfl (OpQ.opL (q_cmp true rfl rfl (ltT (by omega))) rfl ?_)
        refine XL.q (q_pickT rfl rfl) rfl ?_
        refine XL.q (q_move rfl) rfl ?_
        refine XL.gy rfl rfl (OpQ.opL (q_move rfl) rfl ?_)
        refine XL.gy rfl rfl (OpQ.opL (q_move rfl) rfl ?_)
        refine XL.gy rfl rfl (OpQ.opL (q_lenV2 (sz := 1) rfl (by kernel_rfl) hra) rfl ?_)
        refine XL.gy rfl rfl (OpQ.opL (q_cmp false rfl rfl (ltF (by omega))) rfl ?_)
        refine XL.q (q_pickT rfl rfl) rfl ?_
        refine XL.fin (kp 0 rfl (kp 1 rfl (kp 2 rfl (kp 7 rfl (kp 8 rfl (kp 9 rfl (kp 42 rfl kn))))))) ?_
        refine XC.condF rfl ?_
        refine XC.exit ?_
        refine te ?_
        refine re ?_
        refine be rfl ?_
        exact jn ⟨i, l, ((b26, blk [vS] 38) :: BS), vm, rowsM, BM, Ji⟩ ⟨hi, hI, hS, hsm, hrm⟩ (kp 7 rfl (kp 8 rfl kn)) .rfl (fun _ h => h)
      ·
        refine XC.reg ?_
        refine XL.q (q_move rfl) rfl ?_
        refine XL.q (q_move rfl) rfl ?_
        refine XL.q (q_lenV2 (sz := 1) rfl (by kernel_rfl) hro) rfl ?_
        refine XL.q (q_cmp true rfl rfl (ltT (by omega))) rfl ?_
        refine XL.q (q_move rfl) rfl ?_
        refine XL.gy rfl rfl (OpQ.opL (q_move rfl) rfl ?_)
        refine XL.gy rfl rfl (OpQ.opL (q_move rfl) rfl ?_)
        refine XL.gy rfl rfl (OpQ.opL (q_lenV2 (sz := 1) rfl (by kernel_rfl) hrn) rfl ?_)
        refine XL.gy rfl rfl (OpQ.opL (q_cmp false rfl rfl (ltF (by omega))) rfl ?_)
        refine XL.q (q_pickT rfl rfl) rfl ?_
        refine XL.q (q_move rfl) rfl ?_
        refine XL.gn rfl rfl rfl rfl ?_
        refine XL.gn rfl rfl rfl rfl ?_
        refine XL.gn rfl rfl rfl rfl ?_
        refine XL.gn rfl rfl rfl rfl ?_
        refine XL.q (q_pickF rfl rfl) rfl ?_
        refine XL.fin (kp 0 rfl (kp 1 rfl (kp 2 rfl (kp 7 rfl (kp 8 rfl (kp 9 rfl (kp 42 rfl kn))))))) ?_
        refine XC.condF rfl ?_
        refine XC.exit ?_
        refine te ?_
        refine re ?_
        refine be rfl ?_
        exact jn ⟨i, l, ((b26, blk [vS] 38) :: BS), vm, rowsM, BM, Ji⟩ ⟨hi, hI, hS, hsm, hrm⟩ (kp 7 rfl (kp 8 rfl kn)) .rfl (fun _ h => h)
      ·
        refine XC.reg ?_
        refine XL.q (q_move rfl) rfl ?_
        refine XL.q (q_move rfl) rfl ?_
        refine XL.q (q_lenV2 (sz := 1) rfl (by kernel_rfl) hro) rfl ?_
        refine XL.q (q_cmp false rfl rfl (ltF (by omega))) rfl ?_
        refine XL.q (q_move rfl) rfl ?_
        refine XL.gn rfl rfl rfl rfl ?_
        refine XL.gn rfl rfl rfl rfl ?_
        refine XL.gn rfl rfl rfl rfl ?_
        refine XL.gn rfl rfl rfl rfl ?_
        refine XL.q (q_pickF rfl rfl) rfl ?_
        refine XL.q (q_move rfl) rfl ?_
        refine XL.gn rfl rfl rfl rfl ?_
        refine XL.gn rfl rfl rfl rfl ?_
        refine XL.gn rfl rfl rfl rfl ?_
        refine XL.gn rfl rfl rfl rfl ?_
        refine XL.q (q_pickF rfl rfl) rfl ?_
        refine XL.fin (kp 0 rfl (kp 1 rfl (kp 2 rfl (kp 7 rfl (kp 8 rfl (kp 9 rfl (kp 42 rfl kn))))))) ?_
        refine XC.condF rfl ?_
        refine XC.exit ?_
        refine te ?_
        refine re ?_
        refine be rfl ?_
        exact jn ⟨i, l, ((b26, blk [vS] 38) :: BS), vm, rowsM, BM, Ji⟩ ⟨hi, hI, hS, hsm, hrm⟩ (kp 7 rfl (kp 8 rfl kn)) .rfl (fun _ h => h)
    ·
      rintro x hx
      obtain ⟨i, l, MS, vm, rowsM, BM, Ji⟩ := x
      obtain ⟨hi, hI, hS, hsm, hrm⟩ := hx
      dsimp only at hi hI hS hsm hrm ⊢
      obtain ⟨vS, rowsS, BS, rfl, hslS, hrwS⟩ := hS.ex
      haveI := hsm.cel
      haveI := hslS.cel
      have hIl := hI.len
      refine XC.reg ?_
      refine XL.q (q_move rfl) rfl ?_
      refine XL.call (aS rfl a0) (by kernel_rfl) (copy_spec b26 l.length vS rowsS.flatten _ At.mem (hslS.rd SubC.sub) (hrwS.ones skT) (by omega)) rfl ?_
      rintro v166 M166 J166 ⟨cb, uC, BC, rfl, rfl, hsC⟩
      haveI := hsC.cel
      refine XL.q (q_assign rfl) rfl ?_
      refine XL.fin (kp 7 rfl (kp 8 rfl (kp 16 rfl kn))) ?_
      refine XC.reg ?_
      refine XL.q (q_move rfl) rfl ?_
      refine XL.lo rfl (l_buildSlice (e := 5) (sz := 1) (z := [.int .u8 0]) (by kernel_rfl) (eS rfl e0) (bdS 0 1 rfl (by rfl) bd0) rfl fun b168 => ?_)
      refine XL.frz (B := [_]) (PickC.sing).perm ?_
      refine XL.q (q_build (place := fun x => #[(0, 1), (1, 1), (2, 1)][x]?) (z := [.slice none 0 0, .int .u32 0, .slice none 0 0]) (fun _ => by kernel_rfl) (eS rfl (eS rfl e0)) (bdS 0 1 rfl (by rfl) (bdS 1 1 rfl (by rfl) bd0))) rfl ?_
      refine XL.lo rfl (l_call (Mc := (cb, blk [uC] 38) :: BC) (R := _) (aS rfl (aS rfl a0)) (by kernel_rfl) PickC.perm (put_spec cb _ (.slice none 0 0) l [9] [] 9 _ ((cb, blk [uC] 38) :: BC) _ ⟨uC, rowsS, BC, rfl, hsC, hrwS.mono skT SubC.sub⟩ upR (by omega) ⟨Rd.whole (n := 1) At.mem (by rfl), by decide, by decide⟩ By.nil (by decide)) rfl ?_)
      rintro v170 M170 J170 ⟨rfl, hS170⟩
      obtain ⟨vD, rowsD, BD, rfl, hslD, hrwD⟩ := hS170.ex
      haveI := hslD.cel
      have hp9 := putS_new2 (x := ⟨[9], 9, []⟩) hI.nine
      refine XL.fin (kp 7 rfl (kp 8 rfl (kp 16 rfl kn))) ?_
      have hpl : (putS l ⟨[9], 9, []⟩).length = l.length + 1 - (l.length + 1 - 32) := by rw [hp9, List.length_drop, List.length_append, List.length_singleton]
      have h3 : l.length < 32 ∨ l.length = 32 := by omega
      rcases h3 with h1 | h1
      ·
        refine XC.reg ?_
        refine XL.q (q_move rfl) rfl ?_
        refine XL.q (q_move rfl) rfl ?_
        refine XL.callV (aS rfl (aS rfl a0)) (by kernel_rfl) (csame_spec b26 vS vm rowsS rowsM l l _ At.mem (hslS.rd SubC.sub) (hrwS.mono skT SubC.sub) (by omega) (hsm.rd SubC.sub) (hrm.mono skT SubC.sub) (by omega)) rfl ?_
        rw [decide_eq_true rfl]
        refine XL.q (q_move rfl) rfl ?_
        refine XL.gy rfl rfl (OpQ.opL (q_move rfl) rfl ?_)
        refine XL.callVg rfl rfl (aS rfl a0) (by kernel_rfl) (slen_spec cb (putS l ⟨[9], 9, []⟩).length vD rowsD.flatten _ At.mem (hslD.rd SubC.sub)) rfl ?_
        refine XL.gy rfl rfl (OpQ.opL (q_move rfl) rfl ?_)
        refine XL.gy rfl rfl (OpQ.opL (q_lenV2 (sz := 3) rfl (by kernel_rfl) (hsm.rd (R := BM) fun _ h => h)) rfl ?_)
        refine XL.gy rfl rfl (OpQ.opL (q_addI (b := 1) rfl rfl rfl rfl (by omega)) rfl ?_)
        refine XL.gy rfl rfl (OpQ.opL (q_cmp true rfl rfl (eqT (by omega))) rfl ?_)
        refine XL.q (q_pickT rfl rfl) rfl ?_
        refine XL.q (q_move rfl) rfl ?_
        refine XL.gn rfl rfl rfl rfl ?_
        refine XL.gn rfl rfl rfl rfl ?_
        refine XL.gn rfl rfl rfl rfl ?_
        refine XL.q (q_pickT rfl rfl) rfl ?_
        refine XL.q (q_assign rfl) rfl ?_
        refine XL.fin (kp 6 rfl kn) ?_
        refine XC.ret ?_
        exact ⟨_, [], [], res1 rfl rfl, List.nil_sublist _, by simp, rfl, rfl, rfl⟩
      ·
        refine XC.reg ?_
        refine XL.q (q_move rfl) rfl ?_
        refine XL.q (q_move rfl) rfl ?_
        refine XL.callV (aS rfl (aS rfl a0)) (by kernel_rfl) (csame_spec b26 vS vm rowsS rowsM l l _ At.mem (hslS.rd SubC.sub) (hrwS.mono skT SubC.sub) (by omega) (hsm.rd SubC.sub) (hrm.mono skT SubC.sub) (by omega)) rfl ?_
        rw [decide_eq_true rfl]
        refine XL.q (q_move rfl) rfl ?_
        refine XL.gy rfl rfl (OpQ.opL (q_move rfl) rfl ?_)
        refine XL.callVg rfl rfl (aS rfl a0) (by kernel_rfl) (slen_spec cb (putS l ⟨[9], 9, []⟩).length vD rowsD.flatten _ At.mem (hslD.rd SubC.sub)) rfl ?_
        refine XL.gy rfl rfl (OpQ.opL (q_move rfl) rfl ?_)
        refine XL.gy rfl rfl (OpQ.opL (q_lenV2 (sz := 3) rfl (by kernel_rfl) (hsm.rd (R := BM) fun _ h => h)) rfl ?_)
        refine XL.gy rfl rfl (OpQ.opL (q_addI (b := 1) rfl rfl rfl rfl (by omega)) rfl ?_)
        refine XL.gy rfl rfl (OpQ.opL (q_cmp false rfl rfl (eqF (by omega))) rfl ?_)
        refine XL.q (q_pickT rfl rfl) rfl ?_
        refine XL.q (q_move rfl) rfl ?_
        refine XL.gy rfl rfl (OpQ.opL (q_move rfl) rfl ?_)
        refine XL.gy rfl rfl (OpQ.opL (q_lenV2 (sz := 3) rfl (by kernel_rfl) (hsm.rd (R := BM) fun _ h => h)) rfl ?_)
        refine XL.gy rfl rfl (OpQ.opL (q_cmp true rfl rfl (eqT (by omega))) rfl ?_)
        refine XL.q (q_pickF rfl rfl) rfl ?_
        refine XL.q (q_assign rfl) rfl ?_
        refine XL.fin (kp 6 rfl kn) ?_
        refine XC.ret ?_
        exact ⟨_, [], [], res1 rfl rfl, List.nil_sublist _, by simp, rfl, rfl, rfl⟩
