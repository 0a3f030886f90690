/- The card of the law KeysTurns: it returns true for every input; each argument reads behind the call as it read before; the listed package variables are tied to the program's text. No further condition. -/
import Derived.Test.YtphcaiplgpmnnaaGreatDoorB20
import Derived.Lib.LaidTab
import Derived.Stop.LaidErr
import Derived.MakeChecks
import Derived.Test.YtphcaiplgpmnnaaGreatDoorCards
import Derived.Test.YtphcaiplgpmnnaaGreatDoorTie
import Derived.Deep.DeepHandedRow
import Derived.Deep.DeepWitnessRowRef
import Derived.Lay
import Derived.LaidMore
set_option linter.unusedVariables false
set_option linter.unusedSimpArgs false
set_option linter.unusedVariables false
set_option linter.unusedSimpArgs false
namespace Go.Proofs.YtphcaiplgpmnnaaGreatDoor
open Go.Px
theorem last2_dec {l : List Nat} {n : Nat} (h : 1 ≤ l.length) : decide (n ∈ last2 l) = (decide (n = l.getD (l.length - 1) 0) || (decide (1 < l.length) && decide (n = l.getD (l.length - 2) 0))) := by
  have hx : l[l.length - 1]? = some (l.getD (l.length - 1) 0) := by
    rw [List.getD_eq_getElem?_getD, List.getElem?_eq_getElem (by omega)]; rfl
  have h1 := last2_mem (n := n) (m := l.length - 1) (by omega) hx
  rw [Bool.eq_iff_iff]
  simp only [decide_eq_true_iff, Bool.or_eq_true, Bool.and_eq_true]
  rw [h1]
  refine or_congr Iff.rfl ⟨fun ⟨a, b⟩ => ⟨by omega, ?_⟩, fun ⟨a, b⟩ => ⟨by omega, ?_⟩⟩
  · rw [List.getD_eq_getElem?_getD, show l.length - 2 = l.length - 1 - 1 by omega, b]; rfl
  · subst b
    rw [List.getD_eq_getElem?_getD, show l.length - 2 = l.length - 1 - 1 by omega, List.getElem?_eq_getElem (by omega)]; rfl
theorem take_dec {l : List Nat} {n j : Nat} (h : j < l.length) : decide (n ∈ l.take (j + 1)) = (decide (n ∈ l.take j) || decide (l.getD j 0 = n)) := by
  have hx : l[j]? = some (l.getD j 0) := by rw [List.getD_eq_getElem?_getD, List.getElem?_eq_getElem h]; rfl
  rw [Bool.eq_iff_iff]
  simp only [decide_eq_true_iff, Bool.or_eq_true]
  rw [mem_snoc_iff hx]
  exact or_congr Iff.rfl eq_comm
theorem eqN {k : IntKind} (a b : Nat) : arith .eql k ((a : Nat) : Int) ((b : Nat) : Int) = some (.bool (decide (a = b))) := by
  by_cases h : a = b
  · rw [decide_eq_true h]; exact eqT (by omega)
  · rw [decide_eq_false h]; exact eqF (by omega)
theorem gtN {k : IntKind} (a b : Nat) : arith .gtr k ((b : Nat) : Int) ((a : Nat) : Int) = some (.bool (decide (a < b))) := by
  by_cases h : a < b
  · rw [decide_eq_true h]; exact gtT (by omega)
  · rw [decide_eq_false h]; exact gtF (by omega)
structure TuS where
  i : Nat
  k : Ks
  s : Ps
  sg : List Nat
  l : List Nat
  vs : Value
  vo : Value
  Bs : Mem
  Bo : Mem
  MK : Mem
  MP : Mem
  J : Mem

set_option maxRecDepth 100000 in
theorem keysTurns_f (m : Nat) (v : Value) (ws : List Nat) (A : Mem) (hm : m < 256) (hv : Rd A 1 v ws.length (nums .u8 ws)) (hb : ∀ x ∈ ws, x < 256) (hG : Glb A) : FnV Tryz.prog 4 [.int .u8 ((m : Nat) : Int), v] A (.bool true) := by
  haveI := hv.cel
  refine FnX.enter (N := 186) Tryz.func4 rfl rfl rfl fun w_ => ?_
  refine XC.keep (kp 0 rfl (kp 1 rfl kn)) ?_
  refine XC.reg ?_
  refine XL.q (q_assign rfl) rfl ?_
  refine XL.fin (kp 0 rfl (kp 1 rfl kn)) ?_
  refine XC.seq ?_
  refine XC.reg ?_
  refine XL.callV a0 (by kernel_rfl) (awake12_f _ hG.up) rfl ?_
  refine XL.q (q_not rfl) rfl ?_
  refine XL.q (q_move rfl) rfl ?_
  refine XL.gy rfl rfl (OpQ.opL (q_move rfl) rfl ?_)
  refine XL.gy rfl rfl (OpQ.opL (q_lenV2 (sz := 1) rfl (by kernel_rfl) (by first | assumption | exact Sl.rd (by assumption) (fun _ h => h) | exact By.rd (by assumption))) rfl ?_)
  refine XL.gy rfl rfl (OpQ.opL (q_bin rfl rfl rfl) rfl ?_)
  refine XL.q (q_pickF rfl rfl) rfl ?_
  refine XL.fin (kp 0 rfl (kp 1 rfl (kp 28 rfl kn))) ?_
  refine XC.cond rfl (fun hc => ?_) (fun hc => ?_)
  ·
    refine XC.reg ?_
    refine XL.callV a0 (by kernel_rfl) (awake12_f _ hG.up) rfl ?_
    refine XL.q (q_assign rfl) rfl ?_
    refine XL.fin (kp 4 rfl kn) ?_
    refine XC.ret ?_
    refine tr ?_
    exact ⟨_, [], [], res1 rfl rfl, List.nil_sublist _, by simp, rfl, rfl, rfl⟩
  ·
    have hlen : ws.length ≤ 20 := by simp at hc; omega
    refine XC.skip ?_
    refine nx (kp 0 rfl (kp 1 rfl kn)) ?_
    refine XC.reg ?_
    refine XL.q (q_move rfl) rfl ?_
    refine XL.callV (aS rfl (aS rfl a0)) (by kernel_rfl) (who12_f 0 1 _ (by decide) (by decide)) rfl ?_
    refine XL.call (aS rfl (aS rfl a0)) (by kernel_rfl) (open12_f m _ _ _ hm hG.up) rfl ?_
    rintro v33 M33 J33 ⟨pb, kb, MK0, MP0, rfl, rfl, hK0, hP0⟩
    have hI0 := TuI.new (u := ((0 % 8 : Nat) : Int)) (d := ((1 : Nat) : Int)) (m := m)
    have hn0 := new_next ((0 % 8 : Nat) : Int) ((1 : Nat) : Int) (opK m)
    generalize (newK ((0 % 8 : Nat) : Int) ((1 : Nat) : Int) (opK m)).1 = k0 at *
    generalize (newK ((0 % 8 : Nat) : Int) ((1 : Nat) : Int) (opK m)).2 = s0 at *
    refine XL.q (q_move rfl) rfl ?_
    refine XL.q (q_x0 rfl) rfl ?_
    refine XL.q (q_x1 rfl) rfl ?_
    refine XL.q (q_assign rfl) rfl ?_
    refine XL.q (q_assign rfl) rfl ?_
    refine XL.fin (kp 1 rfl (kp 5 rfl (kp 6 rfl kn))) ?_
    refine XC.reg ?_
    refine XL.lo rfl (l_buildSlice (e := 22) (sz := 1) (z := [.int .u32 0]) (by kernel_rfl) (eS rfl e0) (bdS 0 1 rfl (by rfl) bd0) rfl fun b36 => ?_)
    refine XL.q (q_assign rfl) rfl ?_
    refine XL.fin (kp 1 rfl (kp 5 rfl (kp 6 rfl (kp 7 rfl kn)))) ?_
    refine XC.reg ?_
    refine XL.lo rfl (l_buildSlice (e := 22) (sz := 1) (z := [.int .u32 0, .int .u32 0, .int .u32 0, .int .u32 0]) (by kernel_rfl) (eS rfl (eS rfl (eS rfl (eS rfl e0)))) (bdS 0 1 rfl (by rfl) (bdS 1 1 rfl (by rfl) (bdS 2 1 rfl (by rfl) (bdS 3 1 rfl (by rfl) bd0)))) rfl fun b37 => ?_)
    refine XL.q (q_assign rfl) rfl ?_
    refine XL.fin (kp 1 rfl (kp 5 rfl (kp 6 rfl (kp 7 rfl (kp 8 rfl kn))))) ?_
    refine XC.reg ?_
    refine XL.q (q_assign rfl) rfl ?_
    refine XL.fin (kp 1 rfl (kp 5 rfl (kp 6 rfl (kp 7 rfl (kp 8 rfl (kp 9 rfl kn)))))) ?_
    refine XC.seq ?_
    refine XC.reg ?_
    refine XL.q (q_assign rfl) rfl ?_
    refine XL.fin (kp 1 rfl (kp 5 rfl (kp 6 rfl (kp 7 rfl (kp 8 rfl (kp 9 rfl (kp 10 rfl kn))))))) ?_
    refine XC.block ?_
    refine XC.loop (α := TuS) (fun y => [(1, v), (5, .pointer (some ⟨pb, 0, none⟩)), (6, .pointer (some ⟨kb, 0, none⟩)), (7, y.vs), (8, y.vo), (9, .int .u32 ((y.k.next : Nat) : Int)), (10, .int .i64 ((y.i : Nat) : Int))]) (fun y => y.Bs ++ (y.Bo ++ (y.MK ++ y.MP))) (fun y => y.J) (fun y => y.i ≤ ws.length ∧ TuI y.i y.k y.s y.sg y.l ∧ Sl 1 y.vs y.sg.length (nums .u32 y.sg) y.Bs ∧ Sl 1 y.vo y.l.length (nums .u32 y.l) y.Bo ∧ Kys (y.J ++ A) kb y.k y.MK ∧ Prm pb y.s y.MP) (fun y => ws.length - y.i) ⟨0, k0, s0, [1], [2, 3, 4, 5], _, _, _, _, MK0, MP0, _⟩ ⟨Nat.zero_le _, hI0, Sl.fresh (n := 1) (cs := [.int .u32 ((1 : Nat) : Int)]) (e := 22) rfl (by decide), Sl.fresh (n := 4) (cs := [.int .u32 ((2 : Nat) : Int), .int .u32 ((3 : Nat) : Int), .int .u32 ((4 : Nat) : Int), .int .u32 ((5 : Nat) : Int)]) (e := 22) rfl (by decide), hK0.mono SubC.sub, hP0⟩ (kp 1 rfl (kp 5 rfl (kp 6 rfl (kp 7 rfl (kp 8 rfl (kp 9 (by rw [hn0]; rfl) (kp 10 rfl kn))))))) (Fit.pick (B := [_]) PickC.perm (Fit.pick (B := [_]) PickC.perm (Fit.pick PickC.perm (Fit.last PickC.perm)))) (fun _ h => h) ?_
    clear hI0 hK0 hP0 hn0
    rintro ⟨i, k, s, sg, l, vs, vo, Bs, Bo, MK, MP, J⟩ ⟨hi, hI, hss, hso, hK, hP⟩
    dsimp only at hi hI hss hso hK hP ⊢
    haveI := hss.cel
    haveI := hso.cel
    have hne := hI.ne
    have hnx := hI.nx
    have hts := hI.ts
    have hsn := hI.n
    have hol := hI.ol
    refine XC.seq ?_
    refine XC.reg ?_
    refine XL.q (q_move rfl) rfl ?_
    refine XL.q (q_move rfl) rfl ?_
    refine XL.q (q_lenV2 (sz := 1) rfl (by kernel_rfl) hv) rfl ?_
    refine XL.q (q_bin rfl rfl rfl) rfl ?_
    refine XL.fin (kp 1 rfl (kp 5 rfl (kp 6 rfl (kp 7 rfl (kp 8 rfl (kp 9 rfl (kp 10 rfl (kp 41 rfl kn)))))))) ?_
    refine XC.cond rfl (fun hc => ?_) (fun hc => ?_)
    ·
      have hlt : i < ws.length := by simp at hc; omega
      refine XC.skip ?_
      refine nx (kp 1 rfl (kp 5 rfl (kp 6 rfl (kp 7 rfl (kp 8 rfl (kp 9 rfl (kp 10 rfl kn))))))) ?_
      refine XC.seq ?_
      refine XC.block ?_
      refine XC.join (α := TuS) (fun y => [(1, v), (5, .pointer (some ⟨pb, 0, none⟩)), (6, .pointer (some ⟨kb, 0, none⟩)), (7, y.vs), (8, y.vo), (9, .int .u32 ((y.k.next : Nat) : Int)), (10, .int .i64 ((y.i : Nat) : Int))]) (fun y => y.Bs ++ (y.Bo ++ (y.MK ++ y.MP))) (fun y => y.J) (fun y => y.i = i ∧ TuI (i + 1) y.k y.s y.sg y.l ∧ Sl 1 y.vs y.sg.length (nums .u32 y.sg) y.Bs ∧ Sl 1 y.vo y.l.length (nums .u32 y.l) y.Bo ∧ Kys (y.J ++ A) kb y.k y.MK ∧ Prm pb y.s y.MP) ?_ ?_
      ·
        refine XC.reg ?_
        refine XL.q (q_move rfl) rfl ?_
        refine XL.q (q_move rfl) rfl ?_
        refine XL.q (q_atV2 (sz := 1) rfl rfl (by kernel_rfl) rfl hv hlt) rfl ?_
        refine XL.q (q_ldVN2 (k := .u8) rfl (by kernel_rfl) (hv.mono SubC.sub) hlt) rfl ?_
        refine XL.q (q_remI (b := 3) rfl rfl rfl rfl (by decide)) rfl ?_
        refine XL.fin (kp 1 rfl (kp 5 rfl (kp 6 rfl (kp 7 rfl (kp 8 rfl (kp 9 rfl (kp 10 rfl (kp 48 rfl kn)))))))) ?_
        refine XC.block ?_
        refine XC.reg ?_
        refine XL.q (q_cmp (decide (ws.getD i 0 % 3 = 0)) rfl rfl (eqN _ _)) rfl ?_
        refine XL.q (q_assign rfl) rfl ?_
        refine XL.fin (kp 1 rfl (kp 5 rfl (kp 6 rfl (kp 7 rfl (kp 8 rfl (kp 9 rfl (kp 10 rfl (kp 48 rfl (kp 79 rfl kn))))))))) ?_
        refine XC.cond rfl (fun hc => ?_) (fun hc => ?_)
        ·
          refine XC.reg ?_
          refine XL.q (q_move rfl) rfl ?_
          refine XL.q (q_move rfl) rfl ?_
          refine XL.lo rfl (l_call (Mc := MK ++ MP) (R := _) (aS rfl (aS rfl a0)) (by kernel_rfl) PickC.perm (FnX.amb SubC.sub (turn_f kb pb k s MK MP (J ++ A) hK hP (by omega) (by omega) (by omega) (hG.sub fun x hx => List.mem_append_right _ hx))) rfl ?_)
          rintro v83 M83 J83 ⟨MK2, MP2, rfl, hK2, hP2⟩
          refine XL.fin (kp 1 rfl (kp 5 rfl (kp 6 rfl (kp 7 rfl (kp 8 rfl (kp 9 rfl (kp 10 rfl kn))))))) ?_
          refine XC.reg ?_
          refine XL.q (q_move rfl) rfl ?_
          refine XL.q (q_move rfl) rfl ?_
          refine XL.lo rfl (l_buildSlice (e := 22) (sz := 1) (z := [.int .u32 0]) (by kernel_rfl) (eS rfl e0) (bdS 0 1 rfl (by rfl) bd0) rfl fun b86 => ?_)
          refine XL.lo rfl (l_append2 (e := 22) (sz := 1) (by_ := 4) rfl rfl (by kernel_rfl) rfl hss (Rd.whole (n := 1) At.mem (by rfl)) (allS rfl all0) PickC.perm (by unfold maxLen; omega) (by omega) rfl fun v87 B87 hs87 => ?_)
          haveI := hs87.cel
          refine XL.q (q_assign rfl) rfl ?_
          refine XL.fin (kp 1 rfl (kp 5 rfl (kp 6 rfl (kp 7 rfl (kp 8 rfl (kp 9 rfl (kp 10 rfl kn))))))) ?_
          refine XC.reg1 ?_
          refine XL.q (q_move rfl) rfl ?_
          refine XL.q (q_addS 4294967296 (a := k.next) (b := 1) rfl rfl rfl rfl rfl rfl (by omega)) rfl ?_
          refine XL.q (q_assign rfl) rfl ?_
          refine XL.nil ?_
          refine nb ?_
          exact jn ⟨i, _, _, sg ++ [k.next], l, v87, vo, B87, Bo, MK2, MP2, _⟩ ⟨rfl, hI.turn, sl_eq hs87 (by simp) (by simp [nums]), hso, by dsimp only; exact hK2.mono SubC.sub, hP2⟩ (kp 1 rfl (kp 5 rfl (kp 6 rfl (kp 7 rfl (kp 8 rfl (kp 9 rfl (kp 10 rfl kn))))))) (Fit.pick PickC.perm (Fit.pick PickC.perm (Fit.pick PickC.perm (Fit.last PickC.perm)))) (fun _ h => h)
        ·
          refine XC.reg ?_
          refine XL.q (q_cmp (decide (ws.getD i 0 % 3 = 1)) rfl rfl (eqN _ _)) rfl ?_
          refine XL.q (q_assign rfl) rfl ?_
          refine XL.fin (kp 1 rfl (kp 5 rfl (kp 6 rfl (kp 7 rfl (kp 8 rfl (kp 9 rfl (kp 10 rfl (kp 90 rfl kn)))))))) ?_
          refine XC.cond rfl (fun hc => ?_) (fun hc => ?_)
          ·
            refine XC.reg ?_
            refine XL.q (q_move rfl) rfl ?_
            refine XL.q (q_move rfl) rfl ?_
            refine XL.lo rfl (l_call (Mc := MK ++ MP) (R := _) (aS rfl (aS rfl a0)) (by kernel_rfl) PickC.perm (FnX.amb SubC.sub (fill_f kb pb k s MK MP (J ++ A) hK hP (by omega) (by omega) (by omega) (hG.sub fun x hx => List.mem_append_right _ hx))) rfl ?_)
            rintro v94 M94 J94 ⟨rfl, MK2, MP2, rfl, hK2, hP2⟩
            have hoL := hI.olen
            have hI2 := hI.fill
            have hfn := fill_next k s
            rw [hoL] at hfn
            refine XL.q (q_assign rfl) rfl ?_
            refine XL.fin (kp 1 rfl (kp 5 rfl (kp 6 rfl (kp 7 rfl (kp 8 rfl (kp 9 rfl (kp 10 rfl (kp 11 rfl kn)))))))) ?_
            refine XC.seq ?_
            refine XC.reg ?_
            refine XL.q (q_move rfl) rfl ?_
            refine XL.q (q_move rfl) rfl ?_
            refine XL.q (q_lenV2 (sz := 1) rfl (by kernel_rfl) (hso.rd (R := Bo) fun _ h => h)) rfl ?_
            refine XL.q (q_num ((4 - l.length : Nat) : Int) rfl rfl (sub64 (by omega) (by omega) (by omega))) rfl ?_
            refine XL.q (q_cmp false rfl rfl (neF (by rw [hoL]))) rfl ?_
            refine XL.fin (kp 1 rfl (kp 5 rfl (kp 6 rfl (kp 7 rfl (kp 8 rfl (kp 9 rfl (kp 10 rfl (kp 99 rfl kn)))))))) ?_
            refine XC.condF rfl ?_
            refine XC.skip ?_
            refine nx (kp 1 rfl (kp 5 rfl (kp 6 rfl (kp 7 rfl (kp 8 rfl (kp 9 rfl (kp 10 rfl kn))))))) ?_
            refine XC.block ?_
            refine XC.loop (α := Nat × Value × Mem) (fun y => [(1, v), (5, .pointer (some ⟨pb, 0, none⟩)), (6, .pointer (some ⟨kb, 0, none⟩)), (7, vs), (8, y.2.1), (9, .int .u32 ((k.next + y.1 : Nat) : Int)), (10, .int .i64 ((i : Nat) : Int))]) (fun y => Bs ++ (y.2.2 ++ (MK2 ++ MP2))) (fun _ => J94 ++ J) (fun y => y.1 ≤ 4 - l.length ∧ Sl 1 y.2.1 (l.length + y.1) (nums .u32 (l ++ (List.range y.1).map (k.next + ·))) y.2.2) (fun y => 4 - l.length - y.1) (0, vo, Bo) ⟨Nat.zero_le _, by simpa using hso⟩ (kp 1 rfl (kp 5 rfl (kp 6 rfl (kp 7 rfl (kp 8 rfl (kp 9 rfl (kp 10 rfl kn))))))) (Fit.pick PickC.perm (Fit.pick PickC.perm (Fit.pick PickC.perm (Fit.last PickC.perm)))) (fun _ h => h) ?_
            rintro ⟨j, voj, Boj⟩ ⟨hj, hsj⟩
            dsimp only at hj hsj ⊢
            haveI := hsj.cel
            refine XC.seq ?_
            refine XC.reg ?_
            refine XL.q (q_move rfl) rfl ?_
            refine XL.q (q_lenV2 (sz := 1) rfl (by kernel_rfl) (hsj.rd (R := Boj) fun _ h => h)) rfl ?_
            refine XL.q (q_bin rfl rfl rfl) rfl ?_
            refine XL.fin (kp 1 rfl (kp 5 rfl (kp 6 rfl (kp 7 rfl (kp 8 rfl (kp 9 rfl (kp 10 rfl (kp 102 rfl kn)))))))) ?_
            refine XC.cond rfl (fun hc => ?_) (fun hc => ?_)
            ·
              have hjl : j < 4 - l.length := by simp at hc; omega
              refine XC.skip ?_
              refine nx (kp 1 rfl (kp 5 rfl (kp 6 rfl (kp 7 rfl (kp 8 rfl (kp 9 rfl (kp 10 rfl kn))))))) ?_
              refine XC.block ?_
              refine XC.reg ?_
              refine XL.q (q_move rfl) rfl ?_
              refine XL.q (q_move rfl) rfl ?_
              refine XL.lo rfl (l_buildSlice (e := 22) (sz := 1) (z := [.int .u32 0]) (by kernel_rfl) (eS rfl e0) (bdS 0 1 rfl (by rfl) bd0) rfl fun b105 => ?_)
              refine XL.lo rfl (l_append2 (e := 22) (sz := 1) (by_ := 4) rfl rfl (by kernel_rfl) rfl hsj (Rd.whole (n := 1) At.mem (by rfl)) (allS rfl all0) PickC.perm (by unfold maxLen; omega) (by omega) rfl fun v106 B106 hs106 => ?_)
              haveI := hs106.cel
              refine XL.q (q_assign rfl) rfl ?_
              refine XL.fin (kp 1 rfl (kp 5 rfl (kp 6 rfl (kp 7 rfl (kp 8 rfl (kp 9 rfl (kp 10 rfl kn))))))) ?_
              refine XC.reg1 ?_
              refine XL.q (q_move rfl) rfl ?_
              refine XL.q (q_addS 4294967296 (a := k.next + j) (b := 1) rfl rfl rfl rfl rfl rfl (by omega)) rfl ?_
              refine XL.q (q_assign rfl) rfl ?_
              refine XL.nil ?_
              refine nb ?_
              exact rn (j + 1, v106, B106) ⟨by dsimp only; omega, by dsimp only; rw [List.range_succ, List.map_append, ← List.append_assoc, nums_append]; exact hs106⟩ (by dsimp only; omega) (kp 1 rfl (kp 5 rfl (kp 6 rfl (kp 7 rfl (kp 8 rfl (kp 9 rfl (kp 10 rfl kn))))))) (Fit.pick PickC.perm (Fit.pick PickC.perm (Fit.pick PickC.perm (Fit.last PickC.perm)))) (fun _ h => h)
            ·
              have hjl : j = 4 - l.length := by simp at hc; omega
              subst hjl
              refine XC.exit ?_
              refine te ?_
              refine re ?_
              refine be rfl ?_
              refine nb ?_
              exact jn ⟨i, _, _, sg, _, vs, voj, Bs, Boj, MK2, MP2, _⟩ ⟨rfl, hI2, hss, sl_eq hsj (by simp) rfl, by dsimp only; exact hK2.mono SubC.sub, hP2⟩ (kp 1 rfl (kp 5 rfl (kp 6 rfl (kp 7 rfl (kp 8 rfl (kp 9 (by rw [← hfn]; rfl) (kp 10 rfl kn))))))) (Fit.pick PickC.perm (Fit.pick PickC.perm (Fit.pick PickC.perm (Fit.last PickC.perm)))) (fun _ h => h)
          ·
            refine XC.reg ?_
            refine XL.q (q_move rfl) rfl ?_
            refine XL.q (q_lenV2 (sz := 1) rfl (by kernel_rfl) (hso.rd (R := Bo) fun _ h => h)) rfl ?_
            refine XL.q (q_bin rfl rfl rfl) rfl ?_
            refine XL.fin (kp 1 rfl (kp 5 rfl (kp 6 rfl (kp 7 rfl (kp 8 rfl (kp 9 rfl (kp 10 rfl (kp 51 rfl kn)))))))) ?_
            refine XC.cond rfl (fun hc => ?_) (fun hc => ?_)
            ·
              have hl0 : 0 < l.length := by simp at hc; omega
              obtain ⟨j, hj⟩ : ∃ j, ws.getD i 0 / 3 % l.length = j := ⟨_, rfl⟩
              have hjl : j < l.length := by rw [← hj]; exact Nat.mod_lt _ hl0
              obtain ⟨x, hx⟩ : ∃ x, l[j]? = some x := ⟨_, List.getElem?_eq_getElem hjl⟩
              have hxg : l.getD j 0 = x := by rw [List.getD_eq_getElem?_getD, hx]; rfl
              have hI2 := hI.use hx
              have hus : (getP k.once x).isSome = true := by rw [hI.getO]; exact decide_eq_true (List.mem_of_getElem? hx)
              have hxl := hI.lt x (List.mem_of_getElem? hx)
              refine XC.reg ?_
              refine XL.q (q_move rfl) rfl ?_
              refine XL.q (q_move rfl) rfl ?_
              refine XL.q (q_atV2 (sz := 1) rfl rfl (by kernel_rfl) rfl hv hlt) rfl ?_
              refine XL.q (q_ldVN2 (k := .u8) rfl (by kernel_rfl) (hv.mono SubC.sub) hlt) rfl ?_
              refine XL.q (q_quoU (b := 3) (m := 256) rfl rfl rfl rfl rfl rfl (by decide) (by have := getD_l8 hb i; omega)) rfl ?_
              refine XL.q (q_same (k' := .i64) rfl (by kernel_rfl) (by show _ < 9223372036854775808; have := getD_l8 hb i; omega)) rfl ?_
              refine XL.q (q_move rfl) rfl ?_
              refine XL.q (q_lenV2 (sz := 1) rfl (by kernel_rfl) (hso.rd (R := Bo) fun _ h => h)) rfl ?_
              refine XL.q (q_remI rfl rfl rfl rfl (by omega)) rfl ?_
              rw [hj]
              refine XL.q (q_assign rfl) rfl ?_
              refine XL.fin (kp 1 rfl (kp 5 rfl (kp 6 rfl (kp 7 rfl (kp 8 rfl (kp 9 rfl (kp 10 rfl (kp 12 rfl kn)))))))) ?_
              refine XC.seq ?_
              refine XC.reg ?_
              refine XL.q (q_move rfl) rfl ?_
              refine XL.q (q_move rfl) rfl ?_
              refine XL.q (q_move rfl) rfl ?_
              refine XL.q (q_atV2 (sz := 1) rfl rfl (by kernel_rfl) rfl (hso.rd (R := Bo) fun _ h => h) hjl) rfl ?_
              refine XL.q (q_ldVN2 (k := .u32) rfl (by kernel_rfl) (hso.rd SubC.sub) hjl) rfl ?_
              rw [hxg]
              refine XL.lo rfl (l_call (Mc := MK) (R := _) (aS rfl (aS rfl a0)) (by kernel_rfl) PickC.perm (FnX.amb SubC.sub (use_f kb k x MK (J ++ A) hK hI.riseK)) rfl ?_)
              rintro v66 MK2 J66 ⟨rfl, hK2⟩
              rw [hus]
              refine XL.q (q_not rfl) rfl ?_
              refine XL.fin (kp 1 rfl (kp 5 rfl (kp 6 rfl (kp 7 rfl (kp 8 rfl (kp 9 rfl (kp 10 rfl (kp 12 rfl (kp 67 rfl kn))))))))) ?_
              refine XC.condF rfl ?_
              refine XC.skip ?_
              refine nx (kp 1 rfl (kp 5 rfl (kp 6 rfl (kp 7 rfl (kp 8 rfl (kp 9 rfl (kp 10 rfl (kp 12 rfl kn)))))))) ?_
              refine XC.reg ?_
              refine XL.q (q_assign rfl) rfl ?_
              refine XL.fin (kp 1 rfl (kp 5 rfl (kp 6 rfl (kp 7 rfl (kp 8 rfl (kp 9 rfl (kp 10 rfl (kp 12 rfl (kp 13 rfl kn))))))))) ?_
              refine XC.reg ?_
              refine XL.q (q_move rfl) rfl ?_
              refine XL.q (q_move rfl) rfl ?_
              refine XL.q (q_move rfl) rfl ?_
              refine XL.q (q_hiV2 (sz := 1) rfl rfl (by kernel_rfl) rfl (hso.rd (R := Bo) fun _ h => h) (by omega)) rfl ?_
              refine XL.lo rfl (l_append2 (e := 22) (sz := 1) (by_ := 4) rfl rfl (by kernel_rfl) rfl Sl.nil ((hso.rd SubC.sub).hiV j (by omega)) (fun c hc => nums_one c (List.mem_of_mem_take hc)) PickC.perm (by unfold maxLen; omega) (by omega) rfl fun v72 B72 hs72 => ?_)
              haveI := hs72.cel
              refine XL.q (q_assign rfl) rfl ?_
              refine XL.fin (kp 1 rfl (kp 5 rfl (kp 6 rfl (kp 7 rfl (kp 8 rfl (kp 9 rfl (kp 10 rfl (kp 12 rfl (kp 13 rfl kn))))))))) ?_
              refine XC.reg1 ?_
              refine XL.q (q_move rfl) rfl ?_
              refine XL.q (q_move rfl) rfl ?_
              refine XL.q (q_move rfl) rfl ?_
              refine XL.q (q_num ((j + 1 : Nat) : Int) rfl rfl (add64 (by omega) (by omega) (by omega))) rfl ?_
              refine XL.q (q_loV2 (sz := 1) rfl rfl (by kernel_rfl) rfl (hso.rd (R := Bo) fun _ h => h) (by omega)) rfl ?_
              refine XL.lo rfl (l_append2 (e := 22) (sz := 1) (by_ := 4) rfl rfl (by kernel_rfl) rfl hs72 ((hso.rd SubC.sub).loV (j + 1) (by omega)) (fun c hc => nums_one c (List.mem_of_mem_drop hc)) PickC.perm (by unfold maxLen; omega) (by omega) rfl fun v78 B78 hs78 => ?_)
              haveI := hs78.cel
              refine XL.q (q_assign rfl) rfl ?_
              refine XL.nil ?_
              refine nb ?_
              exact jn ⟨i, _, s, sg, _, vs, v78, Bs, B78, MK2, MP, _⟩ ⟨rfl, hI2, hss, sl_eq hs78 (by simp; omega) (by simp [nums, List.map_take, List.map_drop]), by dsimp only; exact hK2.mono SubC.sub, hP⟩ (kp 1 rfl (kp 5 rfl (kp 6 rfl (kp 7 rfl (kp 8 rfl (kp 9 rfl (kp 10 rfl kn))))))) (Fit.pick PickC.perm (Fit.pick PickC.perm (Fit.pick PickC.perm (Fit.last PickC.perm)))) (fun _ h => h)
            ·
              refine XC.skip ?_
              refine nb ?_
              exact jn ⟨i, k, s, sg, l, vs, vo, Bs, Bo, MK, MP, _⟩ ⟨rfl, hI.more, hss, hso, hK, hP⟩ (kp 1 rfl (kp 5 rfl (kp 6 rfl (kp 7 rfl (kp 8 rfl (kp 9 rfl (kp 10 rfl kn))))))) (Fit.pick PickC.perm (Fit.pick PickC.perm (Fit.pick PickC.perm (Fit.last PickC.perm)))) (fun _ h => h)
      ·
        clear hI hss hso hK hP hne hnx hts hsn hol
        rintro ⟨i2, k, s, sg, l, vs, vo, Bs, Bo, MK, MP, J⟩ ⟨hii, hI, hss, hso, hK, hP⟩
        dsimp only at hii
        subst hii
        dsimp only at hI hss hso hK hP ⊢
        haveI := hss.cel
        haveI := hso.cel
        have hne := hI.ne
        have hnx := hI.nx
        have hts := hI.ts
        have hsn := hI.n
        have hol := hI.ol
        obtain ⟨va, vg, vs_, vo_, vm, rs, ro, rm, hr⟩ := hK.r
        have hrise := hI.riseK
        refine XC.reg ?_
        refine XL.q (q_assign rfl) rfl ?_
        refine XL.fin (kp 1 rfl (kp 5 rfl (kp 6 rfl (kp 7 rfl (kp 8 rfl (kp 9 rfl (kp 10 rfl (kp 14 rfl kn)))))))) ?_
        refine XC.block ?_
        refine XC.loop (α := Nat) (fun n => [(1, v), (5, .pointer (some ⟨pb, 0, none⟩)), (6, .pointer (some ⟨kb, 0, none⟩)), (7, vs), (8, vo), (9, .int .u32 ((k.next : Nat) : Int)), (10, .int .i64 ((i2 : Nat) : Int)), (14, .int .u32 ((n : Nat) : Int))]) (fun _ => Bs ++ (Bo ++ (MK ++ MP))) (fun _ => J) (fun n => n ≤ k.next + 2) (fun n => k.next + 2 - n) 0 (Nat.zero_le _) (kp 1 rfl (kp 5 rfl (kp 6 rfl (kp 7 rfl (kp 8 rfl (kp 9 rfl (kp 10 rfl (kp 14 rfl kn)))))))) .rfl (fun _ h => h) ?_
        rintro n hn
        refine XC.seq ?_
        refine XC.reg ?_
        refine XL.q (q_move rfl) rfl ?_
        refine XL.q (q_move rfl) rfl ?_
        refine XL.q (q_addS 4294967296 (a := k.next) (b := 2) rfl rfl rfl rfl rfl rfl (by omega)) rfl ?_
        refine XL.q (q_bin rfl rfl rfl) rfl ?_
        refine XL.fin (kp 1 rfl (kp 5 rfl (kp 6 rfl (kp 7 rfl (kp 8 rfl (kp 9 rfl (kp 10 rfl (kp 14 rfl (kp 112 rfl kn))))))))) ?_
        refine XC.cond rfl (fun hc => ?_) (fun hc => ?_)
        ·
          have hnl : n < k.next + 2 := by simp at hc; omega
          refine XC.skip ?_
          refine nx (kp 1 rfl (kp 5 rfl (kp 6 rfl (kp 7 rfl (kp 8 rfl (kp 9 rfl (kp 10 rfl (kp 14 rfl kn)))))))) ?_
          refine XC.seq ?_
          refine XC.block ?_
          refine XC.reg ?_
          refine XL.q (q_move rfl) rfl ?_
          refine XL.q (q_move rfl) rfl ?_
          refine XL.call (aS rfl (aS rfl a0)) (by kernel_rfl) (signed_f kb k va vg vs_ vo_ vm rs ro rm n _ (hr _ SubC.sub SubC.sub)) rfl ?_
          rintro v118 M118 J118 ⟨rfl, q1, rfl, hq1⟩
          haveI := hq1.cel
          refine XL.q (q_move rfl) rfl ?_
          refine XL.q (q_x0 rfl) rfl ?_
          refine XL.q (q_x1 rfl) rfl ?_
          refine XL.q (q_assign rfl) rfl ?_
          refine XL.q (q_assign rfl) rfl ?_
          refine XL.fin (kp 1 rfl (kp 5 rfl (kp 6 rfl (kp 7 rfl (kp 8 rfl (kp 9 rfl (kp 10 rfl (kp 14 rfl (kp 16 rfl kn))))))))) ?_
          refine XC.reg ?_
          refine XL.q (q_move rfl) rfl ?_
          refine XL.q (q_move rfl) rfl ?_
          refine XL.call (aS rfl (aS rfl a0)) (by kernel_rfl) (once_f kb k va vg vs_ vo_ vm rs ro rm n _ (hr _ SubC.sub SubC.sub) hrise) rfl ?_
          rintro v124 M124 J124 ⟨rfl, q2, rfl, hq2⟩
          haveI := hq2.cel
          refine XL.q (q_move rfl) rfl ?_
          refine XL.q (q_x0 rfl) rfl ?_
          refine XL.q (q_x1 rfl) rfl ?_
          refine XL.q (q_assign rfl) rfl ?_
          refine XL.q (q_assign rfl) rfl ?_
          refine XL.fin (kp 1 rfl (kp 5 rfl (kp 6 rfl (kp 7 rfl (kp 8 rfl (kp 9 rfl (kp 10 rfl (kp 14 rfl (kp 16 rfl (kp 18 rfl kn)))))))))) ?_
          refine XC.reg ?_
          refine XL.q (q_assign rfl) rfl ?_
          refine XL.fin (kp 1 rfl (kp 5 rfl (kp 6 rfl (kp 7 rfl (kp 8 rfl (kp 9 rfl (kp 10 rfl (kp 14 rfl (kp 16 rfl (kp 18 rfl (kp 19 rfl kn))))))))))) ?_
          refine XC.seq ?_
          refine XC.reg ?_
          refine XL.q (q_assign rfl) rfl ?_
          refine XL.fin (kp 1 rfl (kp 5 rfl (kp 6 rfl (kp 7 rfl (kp 8 rfl (kp 9 rfl (kp 10 rfl (kp 14 rfl (kp 16 rfl (kp 18 rfl (kp 19 rfl (kp 20 rfl kn)))))))))))) ?_
          refine XC.block ?_
          refine XC.loop (α := Nat) (fun j => [(1, v), (5, .pointer (some ⟨pb, 0, none⟩)), (6, .pointer (some ⟨kb, 0, none⟩)), (7, vs), (8, vo), (9, .int .u32 ((k.next : Nat) : Int)), (10, .int .i64 ((i2 : Nat) : Int)), (14, .int .u32 ((n : Nat) : Int)), (16, .bool (getP k.signed n).isSome), (18, .bool (getP k.once n).isSome), (19, .bool (decide (n ∈ l.take j))), (20, .int .i64 ((j : Nat) : Int))]) (fun _ => Bs ++ (Bo ++ (MK ++ MP))) (fun _ => J) (fun j => j ≤ l.length) (fun j => l.length - j) 0 (Nat.zero_le _) (kp 1 rfl (kp 5 rfl (kp 6 rfl (kp 7 rfl (kp 8 rfl (kp 9 rfl (kp 10 rfl (kp 14 rfl (kp 16 rfl (kp 18 rfl (kp 19 rfl (kp 20 rfl kn)))))))))))) .rfl SubC.sub ?_
          rintro j hj
          refine XC.seq ?_
          refine XC.reg ?_
          refine XL.q (q_move rfl) rfl ?_
          refine XL.q (q_move rfl) rfl ?_
          refine XL.q (q_lenV2 (sz := 1) rfl (by kernel_rfl) (hso.rd (R := Bo) fun _ h => h)) rfl ?_
          refine XL.q (q_bin rfl rfl rfl) rfl ?_
          refine XL.fin (kp 1 rfl (kp 5 rfl (kp 6 rfl (kp 7 rfl (kp 8 rfl (kp 9 rfl (kp 10 rfl (kp 14 rfl (kp 16 rfl (kp 18 rfl (kp 19 rfl (kp 20 rfl (kp 130 rfl kn))))))))))))) ?_
          refine XC.cond rfl (fun hc => ?_) (fun hc => ?_)
          ·
            have hjl : j < l.length := by simp at hc; omega
            have htd := take_dec (n := n) hjl
            refine XC.skip ?_
            refine nx (kp 1 rfl (kp 5 rfl (kp 6 rfl (kp 7 rfl (kp 8 rfl (kp 9 rfl (kp 10 rfl (kp 14 rfl (kp 16 rfl (kp 18 rfl (kp 19 rfl (kp 20 rfl kn)))))))))))) ?_
            refine XC.seq ?_
            refine XC.block ?_
            refine XC.reg1 ?_
            refine XL.q (q_move rfl) rfl ?_
            refine XL.q (q_move rfl) rfl ?_
            refine XL.split (t := 134) rfl (fun hb => ?_) (fun hb => ?_)
            ·
              rw [hb, Bool.true_or] at htd
              refine XL.gn rfl rfl rfl rfl ?_
              refine XL.gn rfl rfl rfl rfl ?_
              refine XL.gn rfl rfl rfl rfl ?_
              refine XL.gn rfl rfl rfl rfl ?_
              refine XL.gn rfl rfl rfl rfl ?_
              refine XL.gn rfl rfl rfl rfl ?_
              refine XL.q (q_pickT rfl rfl) rfl ?_
              refine XL.q (q_assign rfl) rfl ?_
              refine XL.nil ?_
              refine nb ?_
              refine nx (kp 1 rfl (kp 5 rfl (kp 6 rfl (kp 7 rfl (kp 8 rfl (kp 9 rfl (kp 10 rfl (kp 14 rfl (kp 16 rfl (kp 18 rfl (kp 19 rfl (kp 20 rfl kn)))))))))))) ?_
              refine XC.reg1 ?_
              refine XL.q (q_move rfl) rfl ?_
              refine XL.q (q_addI (b := 1) rfl rfl rfl rfl (by omega)) rfl ?_
              refine XL.q (q_assign rfl) rfl ?_
              refine XL.nil ?_
              exact rn (j + 1) (by omega) (by omega) (kp 1 rfl (kp 5 rfl (kp 6 rfl (kp 7 rfl (kp 8 rfl (kp 9 rfl (kp 10 rfl (kp 14 rfl (kp 16 rfl (kp 18 rfl (kp 19 (by rw [htd]; rfl) (kp 20 rfl kn)))))))))))) .rfl (fun _ h => h)
            ·
              rw [hb, Bool.false_or] at htd
              refine XL.gy rfl rfl (OpQ.opL (q_move rfl) rfl ?_)
              refine XL.gy rfl rfl (OpQ.opL (q_move rfl) rfl ?_)
              refine XL.gy rfl rfl (OpQ.opL (q_atV2 (sz := 1) rfl rfl (by kernel_rfl) rfl (hso.rd (R := Bo) fun _ h => h) hjl) rfl ?_)
              refine XL.gy rfl rfl (OpQ.opL (q_ldVN2 (k := .u32) rfl (by kernel_rfl) (hso.rd SubC.sub) hjl) rfl ?_)
              refine XL.gy rfl rfl (OpQ.opL (q_move rfl) rfl ?_)
              refine XL.gy rfl rfl (OpQ.opL (q_cmp (decide (l.getD j 0 = n)) rfl rfl (eq32 _ _)) rfl ?_)
              refine XL.q (q_pickF rfl rfl) rfl ?_
              refine XL.q (q_assign rfl) rfl ?_
              refine XL.nil ?_
              refine nb ?_
              refine nx (kp 1 rfl (kp 5 rfl (kp 6 rfl (kp 7 rfl (kp 8 rfl (kp 9 rfl (kp 10 rfl (kp 14 rfl (kp 16 rfl (kp 18 rfl (kp 19 rfl (kp 20 rfl kn)))))))))))) ?_
              refine XC.reg1 ?_
              refine XL.q (q_move rfl) rfl ?_
              refine XL.q (q_addI (b := 1) rfl rfl rfl rfl (by omega)) rfl ?_
              refine XL.q (q_assign rfl) rfl ?_
              refine XL.nil ?_
              exact rn (j + 1) (by omega) (by omega) (kp 1 rfl (kp 5 rfl (kp 6 rfl (kp 7 rfl (kp 8 rfl (kp 9 rfl (kp 10 rfl (kp 14 rfl (kp 16 rfl (kp 18 rfl (kp 19 (by rw [htd]; rfl) (kp 20 rfl kn)))))))))))) .rfl (fun _ h => h)
          ·
            have hjl : j = l.length := by simp at hc; omega
            subst hjl
            refine XC.exit ?_
            refine te ?_
            refine re ?_
            refine be rfl ?_
            refine nx (kp 1 rfl (kp 5 rfl (kp 6 rfl (kp 7 rfl (kp 8 rfl (kp 9 rfl (kp 10 rfl (kp 14 rfl (kp 16 rfl (kp 18 rfl (kp 19 rfl kn))))))))))) ?_
            refine XC.reg ?_
            refine XL.q (q_move rfl) rfl ?_
            refine XL.q (q_move rfl) rfl ?_
            refine XL.q (q_move rfl) rfl ?_
            refine XL.q (q_lenV2 (sz := 1) rfl (by kernel_rfl) (hss.rd (R := Bs) fun _ h => h)) rfl ?_
            refine XL.q (q_num ((sg.length - 1 : Nat) : Int) rfl rfl (sub64 (by omega) (by omega) (by omega))) rfl ?_
            refine XL.q (q_atV2 (sz := 1) rfl rfl (by kernel_rfl) rfl (hss.rd (R := Bs) fun _ h => h) (by omega)) rfl ?_
            refine XL.q (q_ldVN2 (k := .u32) rfl (by kernel_rfl) (hss.rd SubC.sub) (by omega)) rfl ?_
            refine XL.q (q_cmp (decide (n = sg.getD (sg.length - 1) 0)) rfl rfl (eq32 _ _)) rfl ?_
            have hld := last2_dec (n := n) hne.2
            have hgs := hI.getS n
            have hgo := hI.getO n
            rw [hld] at hgs
            rw [List.take_length]
            refine XL.q (q_move rfl) rfl ?_
            refine XL.split (t := 150) rfl (fun hb => ?_) (fun hb => ?_)
            ·
              rw [hb, Bool.true_or] at hgs
              refine XL.gn rfl rfl rfl rfl ?_
              refine XL.gn rfl rfl rfl rfl ?_
              refine XL.gn rfl rfl rfl rfl ?_
              refine XL.gn rfl rfl rfl rfl ?_
              refine XL.gu rfl rfl rfl ?_
              refine XL.gu rfl rfl rfl ?_
              refine XL.gu rfl rfl rfl ?_
              refine XL.gu rfl rfl rfl ?_
              refine XL.gu rfl rfl rfl ?_
              refine XL.gu rfl rfl rfl ?_
              refine XL.gu rfl rfl rfl ?_
              refine XL.gu rfl rfl rfl ?_
              refine XL.gn rfl rfl rfl rfl ?_
              refine XL.q (q_pickT rfl rfl) rfl ?_
              refine XL.q (q_assign rfl) rfl ?_
              refine XL.fin (kp 1 rfl (kp 5 rfl (kp 6 rfl (kp 7 rfl (kp 8 rfl (kp 9 rfl (kp 10 rfl (kp 14 rfl (kp 16 rfl (kp 18 rfl (kp 19 rfl (kp 21 rfl kn)))))))))))) ?_
              refine XC.reg ?_
              refine XL.q (q_move rfl) rfl ?_
              refine XL.q (q_move rfl) rfl ?_
              refine XL.q (q_boolNeR false rfl rfl (by kernel_rfl) (by rw [hgs]; simp)) rfl ?_
              refine XL.q (q_move rfl) rfl ?_
              refine XL.gy rfl rfl (OpQ.opL (q_move rfl) rfl ?_)
              refine XL.gy rfl rfl (OpQ.opL (q_move rfl) rfl ?_)
              refine XL.gy rfl rfl (OpQ.opL (q_boolNeR false rfl rfl (by kernel_rfl) (by rw [hgo]; simp)) rfl ?_)
              refine XL.q (q_pickF rfl rfl) rfl ?_
              refine XL.fin (kp 1 rfl (kp 5 rfl (kp 6 rfl (kp 7 rfl (kp 8 rfl (kp 9 rfl (kp 10 rfl (kp 14 rfl (kp 172 rfl kn))))))))) ?_
              refine XC.condF rfl ?_
              refine XC.skip ?_
              refine nb ?_
              refine nx (kp 1 rfl (kp 5 rfl (kp 6 rfl (kp 7 rfl (kp 8 rfl (kp 9 rfl (kp 10 rfl (kp 14 rfl kn)))))))) ?_
              refine XC.reg1 ?_
              refine XL.q (q_move rfl) rfl ?_
              refine XL.q (q_addS 4294967296 (a := n) (b := 1) rfl rfl rfl rfl rfl rfl (by omega)) rfl ?_
              refine XL.q (q_assign rfl) rfl ?_
              refine XL.nil ?_
              exact rn (n + 1) (by omega) (by omega) (kp 1 rfl (kp 5 rfl (kp 6 rfl (kp 7 rfl (kp 8 rfl (kp 9 rfl (kp 10 rfl (kp 14 rfl kn)))))))) .rfl SubC.sub
            ·
              rw [hb, Bool.false_or] at hgs
              refine XL.gy rfl rfl (OpQ.opL (q_move rfl) rfl ?_)
              refine XL.gy rfl rfl (OpQ.opL (q_lenV2 (sz := 1) rfl (by kernel_rfl) (hss.rd (R := Bs) fun _ h => h)) rfl ?_)
              refine XL.gy rfl rfl (OpQ.opL (q_cmp (decide (1 < sg.length)) rfl rfl (gtN _ _)) rfl ?_)
              refine XL.gy rfl rfl (OpQ.opL (q_move rfl) rfl ?_)
              refine XL.split (t := 154) rfl (fun hb => ?_) (fun hb => ?_)
              ·
                rw [hb, Bool.true_and] at hgs
                have h1l : 1 < sg.length := of_decide_eq_true hb
                refine XL.gy rfl rfl (OpQ.opL (q_move rfl) rfl ?_)
                refine XL.gy rfl rfl (OpQ.opL (q_move rfl) rfl ?_)
                refine XL.gy rfl rfl (OpQ.opL (q_move rfl) rfl ?_)
                refine XL.gy rfl rfl (OpQ.opL (q_lenV2 (sz := 1) rfl (by kernel_rfl) (hss.rd (R := Bs) fun _ h => h)) rfl ?_)
                refine XL.gy rfl rfl (OpQ.opL (q_num ((sg.length - 2 : Nat) : Int) rfl rfl (sub64 (by omega) (by omega) (by omega))) rfl ?_)
                refine XL.gy rfl rfl (OpQ.opL (q_atV2 (sz := 1) rfl rfl (by kernel_rfl) rfl (hss.rd (R := Bs) fun _ h => h) (by omega)) rfl ?_)
                refine XL.gy rfl rfl (OpQ.opL (q_ldVN2 (k := .u32) rfl (by kernel_rfl) (hss.rd SubC.sub) (by omega)) rfl ?_)
                refine XL.gy rfl rfl (OpQ.opL (q_cmp (decide (n = sg.getD (sg.length - 2) 0)) rfl rfl (eq32 _ _)) rfl ?_)
                refine XL.gy rfl rfl (OpQ.opL (q_pickT rfl rfl) rfl ?_)
                refine XL.q (q_pickF rfl rfl) rfl ?_
                refine XL.q (q_assign rfl) rfl ?_
                refine XL.fin (kp 1 rfl (kp 5 rfl (kp 6 rfl (kp 7 rfl (kp 8 rfl (kp 9 rfl (kp 10 rfl (kp 14 rfl (kp 16 rfl (kp 18 rfl (kp 19 rfl (kp 21 rfl kn)))))))))))) ?_
                refine XC.reg ?_
                refine XL.q (q_move rfl) rfl ?_
                refine XL.q (q_move rfl) rfl ?_
                refine XL.q (q_boolNeR false rfl rfl (by kernel_rfl) (by rw [hgs]; simp)) rfl ?_
                refine XL.q (q_move rfl) rfl ?_
                refine XL.gy rfl rfl (OpQ.opL (q_move rfl) rfl ?_)
                refine XL.gy rfl rfl (OpQ.opL (q_move rfl) rfl ?_)
                refine XL.gy rfl rfl (OpQ.opL (q_boolNeR false rfl rfl (by kernel_rfl) (by rw [hgo]; simp)) rfl ?_)
                refine XL.q (q_pickF rfl rfl) rfl ?_
                refine XL.fin (kp 1 rfl (kp 5 rfl (kp 6 rfl (kp 7 rfl (kp 8 rfl (kp 9 rfl (kp 10 rfl (kp 14 rfl (kp 172 rfl kn))))))))) ?_
                refine XC.condF rfl ?_
                refine XC.skip ?_
                refine nb ?_
                refine nx (kp 1 rfl (kp 5 rfl (kp 6 rfl (kp 7 rfl (kp 8 rfl (kp 9 rfl (kp 10 rfl (kp 14 rfl kn)))))))) ?_
                refine XC.reg1 ?_
                refine XL.q (q_move rfl) rfl ?_
                refine XL.q (q_addS 4294967296 (a := n) (b := 1) rfl rfl rfl rfl rfl rfl (by omega)) rfl ?_
                refine XL.q (q_assign rfl) rfl ?_
                refine XL.nil ?_
                exact rn (n + 1) (by omega) (by omega) (kp 1 rfl (kp 5 rfl (kp 6 rfl (kp 7 rfl (kp 8 rfl (kp 9 rfl (kp 10 rfl (kp 14 rfl kn)))))))) .rfl SubC.sub
              ·
                rw [hb, Bool.false_and] at hgs
                refine XL.gn rfl rfl rfl rfl ?_
                refine XL.gn rfl rfl rfl rfl ?_
                refine XL.gn rfl rfl rfl rfl ?_
                refine XL.gn rfl rfl rfl rfl ?_
                refine XL.gn rfl rfl rfl rfl ?_
                refine XL.gn rfl rfl rfl rfl ?_
                refine XL.gn rfl rfl rfl rfl ?_
                refine XL.gn rfl rfl rfl rfl ?_
                refine XL.gy rfl rfl (OpQ.opL (q_pickF rfl rfl) rfl ?_)
                refine XL.q (q_pickF rfl rfl) rfl ?_
                refine XL.q (q_assign rfl) rfl ?_
                refine XL.fin (kp 1 rfl (kp 5 rfl (kp 6 rfl (kp 7 rfl (kp 8 rfl (kp 9 rfl (kp 10 rfl (kp 14 rfl (kp 16 rfl (kp 18 rfl (kp 19 rfl (kp 21 rfl kn)))))))))))) ?_
                refine XC.reg ?_
                refine XL.q (q_move rfl) rfl ?_
                refine XL.q (q_move rfl) rfl ?_
                refine XL.q (q_boolNeR false rfl rfl (by kernel_rfl) (by rw [hgs]; simp)) rfl ?_
                refine XL.q (q_move rfl) rfl ?_
                refine XL.gy rfl rfl (OpQ.opL (q_move rfl) rfl ?_)
                refine XL.gy rfl rfl (OpQ.opL (q_move rfl) rfl ?_)
                refine XL.gy rfl rfl (OpQ.opL (q_boolNeR false rfl rfl (by kernel_rfl) (by rw [hgo]; simp)) rfl ?_)
                refine XL.q (q_pickF rfl rfl) rfl ?_
                refine XL.fin (kp 1 rfl (kp 5 rfl (kp 6 rfl (kp 7 rfl (kp 8 rfl (kp 9 rfl (kp 10 rfl (kp 14 rfl (kp 172 rfl kn))))))))) ?_
                refine XC.condF rfl ?_
                refine XC.skip ?_
                refine nb ?_
                refine nx (kp 1 rfl (kp 5 rfl (kp 6 rfl (kp 7 rfl (kp 8 rfl (kp 9 rfl (kp 10 rfl (kp 14 rfl kn)))))))) ?_
                refine XC.reg1 ?_
                refine XL.q (q_move rfl) rfl ?_
                refine XL.q (q_addS 4294967296 (a := n) (b := 1) rfl rfl rfl rfl rfl rfl (by omega)) rfl ?_
                refine XL.q (q_assign rfl) rfl ?_
                refine XL.nil ?_
                exact rn (n + 1) (by omega) (by omega) (kp 1 rfl (kp 5 rfl (kp 6 rfl (kp 7 rfl (kp 8 rfl (kp 9 rfl (kp 10 rfl (kp 14 rfl kn)))))))) .rfl SubC.sub
        ·
          refine XC.exit ?_
          refine te ?_
          refine re ?_
          refine be rfl ?_
          refine nb ?_
          refine nx (kp 1 rfl (kp 5 rfl (kp 6 rfl (kp 7 rfl (kp 8 rfl (kp 9 rfl (kp 10 rfl kn))))))) ?_
          refine XC.reg1 ?_
          refine XL.q (q_move rfl) rfl ?_
          refine XL.q (q_num ((i2 + 1 : Nat) : Int) rfl rfl (add64 (by omega) (by omega) (by omega))) rfl ?_
          refine XL.q (q_assign rfl) rfl ?_
          refine XL.nil ?_
          exact rn ⟨i2 + 1, k, s, sg, l, vs, vo, Bs, Bo, MK, MP, J⟩ ⟨by dsimp only; omega, hI, hss, hso, hK, hP⟩ (by dsimp only; omega) (kp 1 rfl (kp 5 rfl (kp 6 rfl (kp 7 rfl (kp 8 rfl (kp 9 rfl (kp 10 rfl kn))))))) .rfl (fun _ h => h)
    ·
      have hge : i = ws.length := by simp at hc; omega
      refine XC.exit ?_
      refine te ?_
      refine re ?_
      refine be rfl ?_
      refine nx (kp 5 rfl (kp 6 rfl (kp 7 rfl kn))) ?_
      obtain ⟨x, sl, hsg, hxn⟩ := hI.head (m := sg.length - 1) (x := sg.getD (sg.length - 1) 0) (by omega) (by rw [List.getD_eq_getElem?_getD, List.getElem?_eq_getElem (by omega)]; rfl)
      obtain ⟨va, vg, vs_, vo_, vm, rs, ro, rm, hr⟩ := hK.r
      have hoL := hI.olen
      refine XC.frz (B := Bs ++ (Bo ++ MK)) PickC.perm ?_
      refine XC.drawK (MP) (_) true [0, 1, 2, 3, 4, 5, 6, 7, 8, 9, 10, 11, 12, 13] [(0, 0), (1, 0), (6, 0), (7, 0), (8, 0), (9, 0), (10, 0), (11, 1), (2, 2), (3, 0), (4, 0), (5, 2), (12, 0), (13, 0)] (by kernel_rfl) (by kernel_rfl) PickC.perm fun hs K n0 hKm hKs hKn => ?_
      refine XK.q hs rfl (q_move rfl) rfl ?_
      refine XK.q hs rfl (q_move rfl) rfl ?_
      refine XK.q hs rfl (q_move rfl) rfl ?_
      refine XK.q hs rfl (q_move rfl) rfl ?_
      refine XK.q hs rfl (q_lenV2 (sz := 1) rfl (by kernel_rfl) (hss.rd (R := Bs) fun _ h => h)) rfl ?_
      refine XK.q hs rfl (q_num ((sg.length - 1 : Nat) : Int) rfl rfl (sub64 (by omega) (by omega) (by omega))) rfl ?_
      refine XK.q hs rfl (q_atV2 (sz := 1) rfl rfl (by kernel_rfl) rfl (hss.rd (R := Bs) fun _ h => h) (by omega)) rfl ?_
      refine XK.r hs rfl (fun x hx => by rw [List.append_assoc]; exact List.mem_append_right _ hx) hKs (q_ldVN2 (k := .u32) rfl (by kernel_rfl) (hss.rd SubC.sub) (by omega)) rfl ?_
      refine XK.lo _ _ rfl rfl (List.Perm.refl _) hKm fun w0 => (l_call (Mc := MP) (R := _) (aS rfl (aS rfl a0)) (by kernel_rfl) PickC.perm (bundles_f pb s kb k va vg vs_ vo_ vm rs ro rm x sl MP _ (hr _ SubC.sub SubC.sub) hsg hP (by omega) (by omega) hG.up) rfl ?_)
      rintro v175 M175 J175 ⟨hP175, rows, hrd, hrw⟩ _
      haveI := hrd.cel
      obtain ⟨hbl, hb0, -, -⟩ := bunK_facts (s := s) hsg
      obtain ⟨r0, hr0, a1, a2, a3, a4, a5, rfl, -⟩ := hrw.get 0 _ hb0
      dsimp only [bunB] at hr0
      rw [hxn] at hr0
      refine XK.q hs rfl (q_atV2 (sz := 10) (a := 0) rfl rfl (by kernel_rfl) rfl hrd (by rw [hbl]; omega)) rfl ?_
      refine XK.q hs rfl (q_fldV (off := 4) rfl hrd (by rw [hbl]; omega) (by kernel_rfl)) rfl ?_
      refine XK.lo [] _ rfl rfl (List.Perm.refl _) (fun _ h => by cases h) fun w0 => (OpQ.opL (q_ldVF (u := .int .u32 ((sg.getD (sg.length - 1) 0 : Nat) : Int)) rfl (hrd.mono SubC.sub) (by rw [hbl]; omega) (by kernel_rfl) (by rw [flat_get (hrw.lens bnT) hr0 4 (by decide)]; rfl)) rfl ?_)
      intro _
      refine XK.q hs rfl (q_cmp true rfl rfl (eqT rfl)) rfl ?_
      refine XK.q hs rfl (q_assign rfl) rfl ?_
      refine XK.fin (kp 4 rfl kn) ?_
      refine XC.ret ?_
      exact ⟨_, [], [], res1 rfl rfl, List.nil_sublist _, by simp, rfl, rfl, rfl⟩

end Go.Proofs.YtphcaiplgpmnnaaGreatDoor
/- Terms that came in; what the rows' lists give. -/
set_option linter.unusedVariables false
set_option linter.unusedSimpArgs false
namespace Go.Proofs.YtphcaiplgpmnnaaGreatDoor
open Go.Px Go.ChangeShapes Go.WideShapes Go.ChangeAt Go.RowKit
section
variable {H : Type} {enc : TypeId × Value → H} {P : Program} {w : World} {spare : Nat → Bool} {held : Bool} {fuel : Nat} {t e : TypeId} {cs : List Value} {x : DataW H × List MemPlace} {v : Value} {d : DataW H} {p : List MemPlace} {r : Reach} {base : Nat} {k : IntKind}
end
theorem var_heap {P : Program} {W : World} {name : String} {g : Nat} {cs : Array Value} (hg : P.globalNamed name = some g) (h : W.var? P name = some cs) : ∃ e fr, W.heap[g]? = some (.cells cs e fr) := by
  unfold World.var? at h
  rw [hg] at h
  simp only [Option.bind_some] at h
  split at h
  · rename_i c e fr hh
    cases h
    exact ⟨e, fr, hh⟩
  · cases h
def zints (ws : List Nat) : List Int := ws.map fun n : Nat => (n : Int)
theorem zints_nums (k : IntKind) (ws : List Nat) : ((zints ws).map fun z => Value.int k z).toArray = (nums k ws).toArray := by simp [zints, nums]
set_option maxRecDepth 100000 in
theorem pow_tab {W : World} {a b : String × DataW Unit} {rest : List (String × DataW Unit)} (h : laidMet Tryz.prog (a :: b :: ("internal/strconv.uint64pow10", Rows.laid_internal_strconv_uint64pow10) :: rest) W) : ∃ e fr, W.heap[2]? = some (Obj.cells (nums .u64 pow10T).toArray e fr) := by
  have h' : laidMet Tryz.prog (("internal/strconv.uint64pow10", Lib.tabData .u64 (zints pow10T)) :: rest) W := h.tail.tail
  have h1 := Lib.tabIs_of_head (g := 2) (t := 240) (e := 28) (n := 20) (by kernel_rfl) (by kernel_rfl) (by kernel_rfl) (by kernel_rfl) (by kernel_rfl) (by kernel_rfl) h'
  obtain ⟨ek, fk, h3⟩ := var_heap (g := 2) (by kernel_rfl) h1
  rw [zints_nums] at h3
  exact ⟨ek, fk, h3⟩
end Go.Proofs.YtphcaiplgpmnnaaGreatDoor

/- What the rows' lists give: the tables of packages sha and strconv. -/
set_option linter.unusedVariables false
set_option linter.unusedSimpArgs false
namespace Go.Proofs.YtphcaiplgpmnnaaGreatDoor
open Go.Px
set_option maxRecDepth 100000 in
theorem glb_in {W : World} {a b : String × DataW Unit} {rest : List (String × DataW Unit)} (h : laidMet Tryz.prog (a :: b :: ("internal/strconv.uint64pow10", Rows.laid_internal_strconv_uint64pow10) :: ("pawl/sha.round", Rows.laid_pawl_sha_round) :: ("pawl/sha.first", Rows.laid_pawl_sha_first) :: rest) W) : Glb (heapA W) := by
  obtain ⟨e4, f4, h4⟩ := pow_tab h
  have h' : laidMet Tryz.prog (("pawl/sha.round", Lib.tabData .u32 (zints kTab)) :: ("pawl/sha.first", Lib.tabData .u32 (zints hFirst.list)) :: rest) W := h.tail.tail.tail
  have h1 := Lib.tabIs_of_head (g := 1) (t := 194) (e := 22) (n := 64) (by kernel_rfl) (by kernel_rfl) (by kernel_rfl) (by kernel_rfl) (by kernel_rfl) (by kernel_rfl) h'
  have h2 := Lib.tabIs_of_head (g := 0) (t := 159) (e := 22) (n := 8) (by kernel_rfl) (by kernel_rfl) (by kernel_rfl) (by kernel_rfl) (by kernel_rfl) (by kernel_rfl) h'.tail
  obtain ⟨ek, fk, h3⟩ := var_heap (g := 1) (by kernel_rfl) h1
  obtain ⟨ef, ff, h5⟩ := var_heap (g := 0) (by kernel_rfl) h2
  rw [zints_nums] at h3 h5
  exact ⟨⟨ef, ff, heapA_mem.2 h5⟩, ⟨ek, fk, heapA_mem.2 h3⟩, ⟨e4, f4, heapA_mem.2 h4⟩⟩
end Go.Proofs.YtphcaiplgpmnnaaGreatDoor

/- The card of the law KeysTurns: it returns true for every input; each argument reads behind the call as it read before; the listed package variables are tied to the program's text. No further condition. -/
namespace Go.Proofs.YtphcaiplgpmnnaaGreatDoor.keysTurns
open Go.ChangeShapes Go.WideShapes Go.ChangeAt Go.RowKit
set_option linter.unusedVariables false

theorem own : ownKnob Tryz.prog.godebug = none := by kernel_rfl
theorem laidOut : laidOutB Tryz.prog = true := by kernel_rfl

noncomputable def laidWorld (os : Os) : World := World.laidAll Tryz.prog os Rows.keysTurnsRow.laid
theorem laid_met (os : Os) : laidMetH Tryz.prog Rows.keysTurnsRow.laid ((laidWorld os).forCall (fun _ _ => 0) ⟨#[], #[.int .u8 0, .slice none 0 0], []⟩).memory := by
  rw [MakeChecks.laidMetH_plain _ _ _ (by kernel_rfl)]; exact laidMet_laidAll _ (by kernel_rfl) (by kernel_rfl)
theorem reads (os : Os) {H : Type} (enc : TypeId × Value → H) : ∃ places, DataW.whole enc Tryz.prog ((laidWorld os).forCall (fun _ _ => 0) ⟨#[], #[.int .u8 0, .slice none 0 0], []⟩).memory Tryz.f4.params.toList Rows.keysTurnsSpec.vars false (#[.int .u8 0, .slice none 0 0] : Array Value).toList 8 = some ([.lit (.int .u8 0), .nil], [], places) :=
  ⟨[], by kernel_rfl⟩

set_option maxRecDepth 100000 in
theorem lifted (os : Os) (started : os.Started) (H : Type) (enc : TypeId × Value → H) (F : Stop.Interp) :
    ReturnsInHanded {} Tryz.checked os 4 .any ((OpenSpec.ofChange Rows.keysTurnsSpec).preRow enc Tryz.prog Tryz.f4 Rows.keysTurnsRow.domain false Rows.keysTurnsRow.laid) (((OpenSpec.ofChange Rows.keysTurnsSpec).at F).post enc Tryz.prog Tryz.f4 false true false false) := by
  obtain ⟨places, hx⟩ := reads os enc
  refine returnsInHanded_of_row (C := Tryz.checked) (s := (OpenSpec.ofChange Rows.keysTurnsSpec)) own started (by kernel_rfl) Tryz.func4
    (witness_row_at (enc := enc) (C := Tryz.checked) false (laidWorld os) #[.int .u8 0, .slice none 0 0] (World.laidAll_os _ _ _) (by kernel_rfl) (by kernel_rfl) (by kernel_rfl)
      (OpenSpec.preRow_of_cond 8 hx (by kernel_rfl) (fun k hk => by cases hk) (by kernel_rfl) (laid_met os))) ?_
  intro W base args ds gs before hval0 hW _ _ _ hL _ _
  have hval : ∀ (j : Nat) t v, Tryz.f4.params[j]? = some t → args[j]? = some v → Value.okWide Tryz.prog W .any base t v := hval0
  have hW' := hW
  obtain ⟨p, q, hA0, hV, rfl, hfz, hnd⟩ := hW
  have hA : DataW.TrodAll enc Tryz.prog W 0 (fun _ => true) true Tryz.f4.params.toList args.toList ds p := hA0
  rw [Tryz.params4] at hA hval
  obtain ⟨v0, vs0, d0, ds0, p0, q0, hargs, rfl, rfl, k0, r0_⟩ := trodAll_cons hA
  obtain ⟨v1, vs1, d1, ds1, p1, q1, rfl, rfl, rfl, k1, r1_⟩ := trodAll_cons r0_
  obtain ⟨rfl, rfl, rfl⟩ := trodAll_nil r1_
  obtain rfl : args = #[v0, v1] := by cases args; simp_all
  obtain ⟨rfl, rfl⟩ := trodVars_none hV
  have lt0 : ∀ x ∈ p0, x.block < W.heap.size := by obtain ⟨m, hm⟩ := k0; exact DataW.trod_lt m _ _ _ hm
  have lt1 : ∀ x ∈ p1, x.block < W.heap.size := by obtain ⟨m, hm⟩ := k1; exact DataW.trod_lt m _ _ _ hm
  obtain ⟨x0, rfl, hx0⟩ := Px.inU Tryz.underlying5 rfl (hval 0 5 v0 rfl rfl) k0
  obtain ⟨x1, r1, hx1, l1⟩ := Px.inSlU Tryz.underlying23 Tryz.underlying5 (by kernel_rfl) rfl (hval 1 23 v1 rfl rfl) k1
  clear hA0 hval0
  rw [MakeChecks.laidMetH_plain _ _ _ (by kernel_rfl)] at hL
  have hG := glb_in hL
  refine Calls.mono ((keysTurns_f x0 v1 x1 _ hx0 r1 hx1 hG).calls (Px.heapA_fx W)) fun e W' ⟨he, bel⟩ => ?_
  subst he
  exact ⟨_, rfl, _, _, _, [], _, [], hW', trodAll_mk1 (shut_bool Tryz.underlying4 _), (trodAll_cons_mk (Below.trod laidOut (by kernel_rfl) (of_decide_eq_true (by kernel_rfl)) k0 bel lt0) (trodAll_cons_mk (Below.trod laidOut (by kernel_rfl) (of_decide_eq_true (by kernel_rfl)) k1 bel lt1) trodAll_mk0)), rfl, bel.frame _, fun h => by cases h⟩

theorem said : Rows.KeysTurnsSaid :=
  OpenClaim.holds_of_cond 4 Tryz.f4 rfl rfl rfl rfl rfl rfl rfl ⟨rfl, rfl, rfl, rfl, rfl⟩ rfl rfl rfl rfl rfl (by kernel_rfl) Tryz.func4 (by kernel_rfl)
    (of_decide_eq_true (by kernel_rfl)) (by unfold Func.isWrapper; first | (rw [if_pos (by decide +kernel)]; kernel_rfl) | (rw [if_neg (by decide +kernel)]; exact ⟨rfl, rfl⟩))
    (fun os started H enc _ F => by rw [OpenClaim.pre_eq_preRow]; exact lifted os started H enc F)
theorem plain (f : FuncId) (fn : Func) (hf : Tryz.pinned.checked.prog.funcNamed "pawl/pawllaw12.KeysTurns" = some f) (hfn : Tryz.pinned.checked.prog.funcs[f]? = some fn) :
    true = Tryz.pinned.checked.prog.looks [] ∧ ∀ (j : Nat) t, fn.params[j]? = some t → Tryz.pinned.checked.prog.wantsStandIn t = false := by
  obtain rfl : f = 4 := Option.some.inj ((show Tryz.prog.funcNamed "pawl/pawllaw12.KeysTurns" = some 4 by kernel_rfl).symm.trans hf) |>.symm
  obtain rfl : fn = Tryz.f4 := (Option.some.inj (Tryz.func4.symm.trans hfn)).symm
  refine ⟨by kernel_rfl, fun j t ht => ?_⟩
  rw [Tryz.params4] at ht
  have hm := Array.mem_of_getElem? ht
  simp only [List.mem_toArray, List.mem_cons, List.not_mem_nil, or_false] at hm
  rcases hm with rfl | rfl
  · exact (show Tryz.prog.wantsStandIn 5 = false by kernel_rfl)
  · exact (show Tryz.prog.wantsStandIn 23 = false by kernel_rfl)

theorem proved : Rows.KeysTurnsCardSaid :=
  Claim7.holds_tied_plain_at .later [] _ _ _ _ said (fun _ h => by cases h) (by kernel_rfl) (fun _ h => by cases h) keysTurns_row_tie rfl ⟨rfl, rfl⟩ (by kernel_rfl) rfl plain (by kernel_rfl)
#print axioms proved
end Go.Proofs.YtphcaiplgpmnnaaGreatDoor.keysTurns



