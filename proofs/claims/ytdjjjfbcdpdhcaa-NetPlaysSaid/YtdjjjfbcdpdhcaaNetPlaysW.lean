/- The walk of the law NetPlays. -/
import Derived.Test.YtdjjjfbcdpdhcaaNet
set_option linter.unusedVariables false
namespace Go.Proofs.Ytdjjjfbcdpdhcaa
open Go.Px

/-- The state of the play: the round, the numbers under way, the slice that holds them, the net's blocks, the slice's block. -/
structure PS where
  i : Nat
  l : List Int
  v : Value
  Mn : Mem
  B : Mem
def PSok (b : Nat) (x : PS) : Prop :=
  x.l.length ≤ x.i ∧ NetM b (x.l.map pk) x.Mn ∧ Sl 1 x.v x.l.length (x.l.map (Value.int .i64)) x.B ∧ ∀ n ∈ x.l, 0 ≤ n ∧ n < 200
theorem erase_map {α β : Type} (f : α → β) : ∀ (l : List α) (k : Nat), (l.map f).eraseIdx k = (l.eraseIdx k).map f
  | [], _ => rfl
  | _ :: _, 0 => rfl
  | _ :: r, k + 1 => by simp [erase_map f r k]
theorem n_wrap {n : Int} (h : 0 ≤ n ∧ n < 200) : IntKind.i64.wrap (IntKind.u32.wrap n) = n := by
  rw [wrap_u32 (by omega) (by omega), wrap_i64 (by omega) (by omega)]
theorem getD_mem {l : List Int} {k : Nat} (h : k < l.length) : l.getD k 0 ∈ l := by
  rw [List.getD, List.getElem?_eq_getElem h]; exact List.getElem_mem h
theorem getD_some {l : List Int} {k : Nat} (h : k < l.length) : (l.map pk)[k]? = some (pk (l.getD k 0)) := by
  rw [List.getElem?_map, List.getD, List.getElem?_eq_getElem h]; rfl

set_option maxRecDepth 4000 in
theorem netPlays_spec (q0 q1 : Option Addr) (la ca lp cp : Nat) (z0 z1 : List Int) (A : Mem) (hra : Rd A 1 (.slice q0 la ca) la (z0.map (Value.int .u8))) (hrp : Rd A 1 (.slice q1 lp cp) lp (z1.map (Value.int .i64))) :
    FnV Try.prog 4 [.slice q0 la ca, .slice q1 lp cp] A (.bool true) := by
  refine FnX.enter (N := 170) Try.func4 rfl rfl rfl fun w => ?_
  refine XC.keep (kp 0 rfl (kp 1 rfl kn)) ?_
  refine XC.reg ?_
  refine XL.q (q_assign rfl) rfl ?_
  refine XL.fin (kp 0 rfl (kp 1 rfl kn)) ?_
  refine XC.seq ?_
  refine XC.reg ?_
  refine XL.cv a0 (by kernel_rfl) (awake_spec _) rfl ?_
  refine XL.q (q_not rfl) rfl ?_
  refine XL.q (q_move rfl) rfl ?_
  refine XL.gy rfl rfl (OpQ.opL (q_move rfl) rfl ?_)
  refine XL.gy rfl rfl (OpQ.opL (q_lenS (e := 5) rfl (by kernel_rfl)) rfl ?_)
  refine XL.gy rfl rfl (OpQ.opL (q_bin rfl rfl rfl) rfl ?_)
  refine XL.q (q_pickF rfl rfl) rfl ?_
  refine XL.fin (kp 0 rfl (kp 1 rfl (kp 22 rfl kn))) ?_
  refine XC.cond rfl (fun hc => ?_) (fun hc => ?_)
  ·
    refine XC.reg ?_
    refine XL.cv a0 (by kernel_rfl) (awake_spec _) rfl ?_
    refine XL.q (q_assign rfl) rfl ?_
    refine XL.fin (kp 4 rfl kn) ?_
    refine XC.ret ?_
    refine tr ?_
    exact ⟨_, [], [], res1 rfl rfl, List.nil_sublist _, by simp, rfl, rfl, rfl⟩
  ·
    have h200 : la ≤ 200 := by simp at hc; omega
    refine XC.skip ?_
    refine nx (kp 0 rfl (kp 1 rfl kn)) ?_
    refine XC.reg ?_
    refine XL.q (q_build (place := fun x => #[(0, 1)][x]?) (z := [.slice none 0 0]) (fun _ => by kernel_rfl) e0 bd0) rfl ?_
    refine XL.lo rfl (l_box rfl rfl rfl fun b25 => ?_)
    refine XL.q (q_assign rfl) rfl ?_
    refine XL.fin (kp 0 rfl (kp 1 rfl (kp 5 rfl kn))) ?_
    refine XC.reg ?_
    refine XL.q (q_assign rfl) rfl ?_
    refine XL.fin (kp 0 rfl (kp 1 rfl (kp 5 rfl (kp 6 rfl kn)))) ?_
    refine XC.seq ?_
    refine XC.reg ?_
    refine XL.q (q_assign rfl) rfl ?_
    refine XL.fin (kp 0 rfl (kp 1 rfl (kp 5 rfl (kp 6 rfl (kp 7 rfl kn))))) ?_
    refine XC.block ?_
    refine XC.loop (α := PS) (fun x => [(0, .slice q0 la ca), (1, .slice q1 lp cp), (5, .pointer (some ⟨b25, 0, none⟩)), (6, x.v), (7, .int .i64 (x.i : Int))]) (fun x => x.Mn ++ x.B) (fun _ => []) (fun x => x.i ≤ la ∧ PSok b25 x) (fun x => la - x.i) ⟨0, [], .slice none 0 0, [(b25, _)], []⟩ ⟨Nat.zero_le _, Nat.le_refl _, net_new _ _, Sl.nil, by simp⟩ (kp 0 rfl (kp 1 rfl (kp 5 rfl (kp 6 rfl (kp 7 rfl kn))))) .rfl (fun _ h => h) ?_
    rintro ⟨i, l, v, Mn, B⟩ ⟨hi, hll, hnet, hsl, hrg⟩
    dsimp only at hi hll hnet hsl hrg ⊢
    obtain ⟨pv, cv, rfl, hcv⟩ := hsl.val
    refine XC.seq ?_
    refine XC.reg ?_
    refine XL.q (q_move rfl) rfl ?_
    refine XL.q (q_move rfl) rfl ?_
    refine XL.q (q_lenS (e := 5) rfl (by kernel_rfl)) rfl ?_
    refine XL.q (q_bin rfl rfl rfl) rfl ?_
    refine XL.fin (kp 0 rfl (kp 1 rfl (kp 5 rfl (kp 6 rfl (kp 7 rfl (kp 29 rfl kn)))))) ?_
    refine XC.cond rfl (fun hc => ?_) (fun hc => ?_)
    ·
      have hlt : i < la := by simpa using hc
      obtain ⟨ba, oa, ca', csa, ea, fra, heqa, hba, hca⟩ := hra.int hlt
      cases heqa
      refine XC.skip ?_
      refine nx (kp 0 rfl (kp 1 rfl (kp 5 rfl (kp 6 rfl (kp 7 rfl kn))))) ?_
      refine XC.seq ?_
      refine XC.block ?_
      refine XC.reg ?_
      refine XL.q (q_assign rfl) rfl ?_
      refine XL.fin (kp 0 rfl (kp 1 rfl (kp 5 rfl (kp 6 rfl (kp 7 rfl (kp 8 rfl kn)))))) ?_
      refine XC.join (α := Int) (fun kk => [(0, .slice (some ⟨ba, oa, none⟩) la ca), (1, .slice q1 lp cp), (5, .pointer (some ⟨b25, 0, none⟩)), (6, .slice pv l.length cv), (7, .int .i64 (i : Int)), (8, .int .i64 kk)]) (fun _ => Mn ++ B) (fun _ => []) (fun _ => True) ?_ ?_
      ·
        refine XC.reg ?_
        refine XL.q (q_move rfl) rfl ?_
        refine XL.q (q_move rfl) rfl ?_
        refine XL.q (q_lenS (e := 3) rfl (by kernel_rfl)) rfl ?_
        refine XL.q (q_bin rfl rfl rfl) rfl ?_
        refine XL.fin (kp 0 rfl (kp 1 rfl (kp 5 rfl (kp 6 rfl (kp 7 rfl (kp 8 rfl (kp 35 rfl kn))))))) ?_
        refine XC.cond rfl (fun hc => ?_) (fun hc => ?_)
        ·
          have hlp2 : i < lp := by simpa using hc
          obtain ⟨bp, op, cp', csp, ep, frp, heqp, hbp, hcp⟩ := hrp.int hlp2
          cases heqp
          refine XC.reg1 ?_
          refine XL.q (q_move rfl) rfl ?_
          refine XL.q (q_move rfl) rfl ?_
          refine XL.q (q_idxS (i := i) (e := 3) (sz := 1) rfl rfl (by kernel_rfl) (by kernel_rfl) rfl hlp2) rfl ?_
          refine XL.q (q_load rfl (by kernel_rfl) (mA hbp) hcp) rfl ?_
          refine XL.q (q_assign rfl) rfl ?_
          refine XL.nil ?_
          exact jn _ trivial (kp 0 rfl (kp 1 rfl (kp 5 rfl (kp 6 rfl (kp 7 rfl (kp 8 rfl kn)))))) .rfl (fun _ h => h)
        ·
          refine XC.skip ?_
          exact jn _ trivial (kp 0 rfl (kp 1 rfl (kp 5 rfl (kp 6 rfl (kp 7 rfl (kp 8 rfl kn)))))) .rfl (fun _ h => h)
      ·
        rintro kk _
        by_cases hl0 : l = []
        ·
          subst hl0
          have hb0 := hnet.blk
          obtain ⟨p0, c0, e0', hb0⟩ := hb0
          have hslr : Sl 1 (.slice none 0 0) ([] : List Int).length (([] : List Int).map (Value.int .i64)) [] := Sl.nil
          refine XC.reg ?_
          refine XL.q (q_assign rfl) rfl ?_
          refine XL.fin (kp 0 rfl (kp 1 rfl (kp 5 rfl (kp 6 rfl (kp 7 rfl (kp 8 rfl (kp 9 rfl kn))))))) ?_
          refine XC.seq ?_
          refine XC.reg ?_
          refine XL.q (q_move rfl) rfl ?_
          refine XL.q (q_lenS (e := 3) rfl (by kernel_rfl)) rfl ?_
          refine XL.q (q_cmp false rfl rfl (gtF (by simp))) rfl ?_
          refine XL.fin (kp 0 rfl (kp 1 rfl (kp 5 rfl (kp 6 rfl (kp 7 rfl (kp 8 rfl (kp 9 rfl (kp 42 rfl kn)))))))) ?_
          refine XC.condF rfl ?_
          refine XC.skip ?_
          refine nx (kp 0 rfl (kp 1 rfl (kp 5 rfl (kp 6 rfl (kp 7 rfl (kp 8 rfl (kp 9 rfl kn))))))) ?_
          refine XC.reg ?_
          refine XL.q (q_assign rfl) rfl ?_
          refine XL.fin (kp 0 rfl (kp 1 rfl (kp 5 rfl (kp 6 rfl (kp 7 rfl (kp 8 rfl (kp 9 rfl (kp 10 rfl kn)))))))) ?_
          refine XC.seq ?_
          refine XC.reg ?_
          refine XL.q (q_move rfl) rfl ?_
          refine XL.q (q_cmp false rfl rfl (geF (by decide))) rfl ?_
          refine XL.fin (kp 0 rfl (kp 1 rfl (kp 5 rfl (kp 6 rfl (kp 7 rfl (kp 8 rfl (kp 9 rfl (kp 10 rfl (kp 51 rfl kn))))))))) ?_
          refine XC.condF rfl ?_
          refine XC.skip ?_
          refine nx (kp 0 rfl (kp 1 rfl (kp 5 rfl (kp 6 rfl (kp 7 rfl (kp 8 rfl (kp 9 rfl (kp 10 rfl kn)))))))) ?_
          refine XC.join (α := PS) (fun x => [(0, .slice (some ⟨ba, oa, none⟩) la ca), (1, .slice q1 lp cp), (5, .pointer (some ⟨b25, 0, none⟩)), (6, x.v), (7, .int .i64 (i : Int))]) (fun x => x.Mn ++ x.B) (fun _ => []) (fun x => x.i = i + 1 ∧ PSok b25 x) ?_ ?_
          ·
            refine XC.reg ?_
            refine XL.q (q_move rfl) rfl ?_
            refine XL.q (q_move rfl) rfl ?_
            refine XL.q (q_idxS (i := i) (e := 5) (sz := 1) rfl rfl (by kernel_rfl) (by kernel_rfl) rfl hlt) rfl ?_
            refine XL.q (q_load rfl (by kernel_rfl) (mA hba) hca) rfl ?_
            refine XL.q (q_rem rfl rfl (by decide)) rfl ?_
            generalize (z0.getD i 0).tmod 5 = tg
            refine XL.fin (kp 0 rfl (kp 1 rfl (kp 5 rfl (kp 6 rfl (kp 7 rfl (kp 8 rfl (kp 9 rfl (kp 10 rfl (kp 67 rfl kn))))))))) ?_
            refine XC.block ?_
            refine XC.join (α := Bool) (fun b => [(0, .slice (some ⟨ba, oa, none⟩) la ca), (1, .slice q1 lp cp), (5, .pointer (some ⟨b25, 0, none⟩)), (6, .slice pv 0 cv), (7, .int .i64 (i : Int)), (8, .int .i64 kk), (9, .int .i64 (-1)), (10, .slice none 0 0), (67, .int .u8 tg), (83, .bool b)]) (fun _ => [] ++ (Mn ++ B)) (fun _ => []) (fun _ => True) ?_ ?_
            ·
              refine XC.reg ?_
              refine XL.q (q_bin rfl rfl rfl) rfl ?_
              refine XL.q (q_assign rfl) rfl ?_
              refine XL.fin (kp 0 rfl (kp 1 rfl (kp 5 rfl (kp 6 rfl (kp 7 rfl (kp 8 rfl (kp 9 rfl (kp 10 rfl (kp 67 rfl (kp 83 rfl kn)))))))))) ?_
              refine XC.cond rfl (fun hc => ?_) (fun hc => ?_)
              ·
                refine XC.skip ?_
                exact jn _ trivial (kp 0 rfl (kp 1 rfl (kp 5 rfl (kp 6 rfl (kp 7 rfl (kp 8 rfl (kp 9 rfl (kp 10 rfl (kp 67 rfl (kp 83 rfl kn)))))))))) .rfl (fun _ h => h)
              ·
                refine XC.reg1 ?_
                refine XL.q (q_bin rfl rfl rfl) rfl ?_
                refine XL.q (q_assign rfl) rfl ?_
                refine XL.nil ?_
                exact jn _ trivial (kp 0 rfl (kp 1 rfl (kp 5 rfl (kp 6 rfl (kp 7 rfl (kp 8 rfl (kp 9 rfl (kp 10 rfl (kp 67 rfl (kp 83 rfl kn)))))))))) .rfl (fun _ h => h)
            ·
              rintro bq _
              refine XC.cond rfl (fun hc => ?_) (fun hc => ?_)
              ·
                refine XC.fit (M' := Mn ++ B) (J' := []) Fit.tail (by simp) ?_
                refine XC.reg ?_
                refine XL.q (q_move rfl) rfl ?_
                refine XL.q (q_move rfl) rfl ?_
                refine XL.cv (aS rfl a0) (by kernel_rfl) (packet_spec i _) rfl ?_
                refine XL.lo rfl (l_call (Mc := Mn) (aS rfl (aS rfl a0)) (by kernel_rfl) (.refl _) (put_spec b25 Mn _ (([] : List Int).map pk) (pk i) hnet (pk_rows []) (pk_len _) (pk_one _) (by simp)) rfl ?_)
                rintro _ M1 _ ⟨rfl, rfl, hn1⟩
                have e1 : last (([] : List Int).map pk ++ [pk (i : Int)]) = (([] : List Int) ++ [(i : Int)]).map pk := rfl
                rw [e1] at hn1
                refine XL.fin (kp 0 rfl (kp 1 rfl (kp 5 rfl (kp 6 rfl (kp 7 rfl kn))))) ?_
                refine XC.reg1 ?_
                refine XL.q (q_move rfl) rfl ?_
                refine XL.q (q_move rfl) rfl ?_
                refine XL.lo rfl (l_buildSlice (e := 3) (sz := 1) (z := [.int .i64 0]) (by kernel_rfl) (eS rfl e0) (bdS 0 1 rfl (by rfl) bd0) rfl fun b92 => ?_)
                refine XL.lo rfl (l_append (e := 3) (sz := 1) (by_ := 8) (m := 1) (n := ([] : List Int).length) (B := B) (xs := ([] : List Int).map (Value.int .i64)) (ys := [.int .i64 (i : Int)]) rfl rfl (by kernel_rfl) rfl hsl (Rd.whole (n := 1) m0 rfl) (by simp [Value.oneCell']) (List.perm_append_comm (l₁ := _ :: M1)) (by unfold maxLen; simp) (by simp) rfl fun v2 B2 hs2 => ?_)
                refine XL.q (q_assign rfl) rfl ?_
                refine XL.nil ?_
                refine nb ?_
                exact jn ⟨i + 1, ([] : List Int) ++ [(i : Int)], v2, M1, B2⟩ ⟨rfl, by simp, hn1, by simpa using hs2, by intro n hn; simp at hn; omega⟩ (kp 0 rfl (kp 1 rfl (kp 5 rfl (kp 6 rfl (kp 7 rfl kn))))) Fit.app (by simp)
              ·
                refine XC.reg ?_
                refine XL.q (q_bin rfl rfl rfl) rfl ?_
                refine XL.q (q_assign rfl) rfl ?_
                refine XL.fin (kp 0 rfl (kp 1 rfl (kp 5 rfl (kp 6 rfl (kp 7 rfl (kp 8 rfl (kp 9 rfl (kp 10 rfl (kp 67 rfl (kp 94 rfl kn)))))))))) ?_
                refine XC.cond rfl (fun hc => ?_) (fun hc => ?_)
                ·
                  refine XC.reg ?_
                  refine XL.q (q_move rfl) rfl ?_
                  refine XL.q (q_move rfl) rfl ?_
                  refine XL.cv (aS rfl (aS rfl a0)) (by kernel_rfl) (take_none b25 c0 p0 e0' kk _ (by simp [show (b25, blk [.slice p0 0 c0] e0') ∈ Mn from hb0])) rfl ?_
                  refine XL.q (q_move rfl) rfl ?_
                  refine XL.q (q_extract rfl rfl) rfl ?_
                  refine XL.q (q_extract rfl rfl) rfl ?_
                  refine XL.lo rfl (l_alloc (cs := [.int .u8 0, .int .i64 0, .int .i64 0, .int .u32 0, .int .u32 0, .int .i64 0, .slice none 0 0, .int .u64 0, .slice none 0 0, .int .u8 0, .int .i64 0, .int .i64 0, .int .u32 0, .int .u32 0, .int .i64 0, .slice none 0 0, .slice none 0 0, .slice none 0 0, .bool false]) (by kernel_rfl) rfl fun b11 => ?_)
                  refine XL.stW rfl rfl (by kernel_rfl) (by rfl) (by simp [Value.oneCell']) ?_
                  refine XL.q (q_assign rfl) rfl ?_
                  refine XL.fin (kp 0 rfl (kp 1 rfl (kp 5 rfl (kp 6 rfl (kp 7 rfl (kp 9 rfl (kp 10 rfl (kp 11 rfl (kp 12 rfl kn))))))))) ?_
                  refine XC.seq ?_
                  refine XC.draw (_) [0, 1, 2, 3, 4, 5, 6, 7, 8, 9, 10, 11, 12, 13, 14, 15, 16, 17, 18, 19, 20, 21, 22, 23, 24, 25, 26, 27, 28] [(0, 0), (1, 0), (2, 0), (3, 0), (4, 0), (5, 0), (6, 0), (7, 0), (8, 0), (9, 1), (10, 0), (11, 0), (12, 0), (13, 0), (14, 1), (15, 0), (16, 0), (17, 0), (18, 1), (19, 0), (20, 0), (21, 0), (22, 1), (23, 0), (24, 0), (25, 0), (26, 0), (27, 0), (28, 0)] (by kernel_rfl) (by kernel_rfl) (fun _ h => h) fun hs => ?_
                  refine XP.q hs rfl (q_move rfl) rfl ?_
                  refine XP.q hs rfl (q_move rfl) rfl ?_
                  refine XP.q hs rfl (q_cmp false rfl rfl (geF (by decide))) rfl ?_
                  refine XP.q hs rfl (q_boolNeR false rfl rfl (by kernel_rfl) rfl) rfl ?_
                  refine XP.q hs rfl (q_move rfl) rfl ?_
                  refine XP.qg hs rfl rfl rfl rfl (q_move rfl) rfl ?_
                  refine XP.qg hs rfl rfl rfl rfl (q_move rfl) rfl ?_
                  refine XP.qn (m := 0) hs rfl rfl rfl rfl rfl rfl ?_
                  refine XP.qn (m := 0) hs rfl rfl rfl rfl rfl rfl ?_
                  refine XP.rn (m := 0) hs rfl rfl rfl rfl rfl rfl ?_
                  refine XP.qn (m := 0) hs rfl rfl rfl rfl rfl rfl ?_
                  refine XP.qn (m := 0) hs rfl rfl rfl rfl rfl rfl ?_
                  refine XP.qn (m := 0) hs rfl rfl rfl rfl rfl rfl ?_
                  refine XP.qn (m := 0) hs rfl rfl rfl rfl rfl rfl ?_
                  refine XP.rn (m := 0) hs rfl rfl rfl rfl rfl rfl ?_
                  refine XP.qn (m := 0) hs rfl rfl rfl rfl rfl rfl ?_
                  refine XP.qn (m := 0) hs rfl rfl rfl rfl rfl rfl ?_
                  refine XP.qu hs rfl rfl rfl rfl rfl ?_
                  refine XP.ru hs rfl rfl rfl rfl rfl ?_
                  refine XP.qu hs rfl rfl rfl rfl rfl ?_
                  refine XP.qu hs rfl rfl rfl rfl rfl ?_
                  refine XP.qu hs rfl rfl rfl rfl rfl ?_
                  refine XP.ru hs rfl rfl rfl rfl rfl ?_
                  refine XP.qu hs rfl rfl rfl rfl rfl ?_
                  refine XP.qu hs rfl rfl rfl rfl rfl ?_
                  refine XP.qu hs rfl rfl rfl rfl rfl ?_
                  refine XP.qn (m := 0) hs rfl rfl rfl rfl rfl rfl ?_
                  refine XP.qg hs rfl rfl rfl rfl (q_pickF rfl rfl) rfl ?_
                  refine XP.q hs rfl (q_pickF rfl rfl) rfl ?_
                  refine XP.fin (kp 0 rfl (kp 1 rfl (kp 5 rfl (kp 7 rfl (kp 10 rfl (kp 130 rfl kn)))))) ?_
                  refine XC.condF rfl ?_
                  refine XC.skip ?_
                  refine nx (kp 0 rfl (kp 1 rfl (kp 5 rfl (kp 7 rfl (kp 10 rfl kn))))) ?_
                  refine XC.reg1 ?_
                  refine XL.q (q_move rfl) rfl ?_
                  refine XL.q (q_assign rfl) rfl ?_
                  refine XL.nil ?_
                  refine nb ?_
                  exact jn ⟨i + 1, [], _, Mn, []⟩ ⟨rfl, by simp, hnet, Sl.nil, by simp⟩ (kp 0 rfl (kp 1 rfl (kp 5 rfl (kp 6 rfl (kp 7 rfl kn))))) (Fit.head1 (M := Mn) (E := []) (List.nil_sublist _)) (by simp)
                ·
                  refine XC.reg ?_
                  refine XL.q (q_bin rfl rfl rfl) rfl ?_
                  refine XL.q (q_assign rfl) rfl ?_
                  refine XL.fin (kp 0 rfl (kp 1 rfl (kp 5 rfl (kp 6 rfl (kp 7 rfl (kp 8 rfl (kp 9 rfl (kp 10 rfl (kp 132 rfl kn))))))))) ?_
                  refine XC.cond rfl (fun hc => ?_) (fun hc => ?_)
                  ·
                    refine XC.seq ?_
                    refine XC.reg ?_
                    refine XL.q (q_move rfl) rfl ?_
                    refine XL.q (q_move rfl) rfl ?_
                    refine XL.cv (aS rfl (aS rfl a0)) (by kernel_rfl) (drop_none b25 c0 p0 e0' kk _ (by simp [show (b25, blk [.slice p0 0 c0] e0') ∈ Mn from hb0])) rfl ?_
                    refine XL.q (q_move rfl) rfl ?_
                    refine XL.q (q_cmp false rfl rfl (geF (by decide))) rfl ?_
                    refine XL.q (q_boolNeR false rfl rfl (by kernel_rfl) rfl) rfl ?_
                    refine XL.fin (kp 0 rfl (kp 1 rfl (kp 5 rfl (kp 7 rfl (kp 10 rfl (kp 139 rfl kn)))))) ?_
                    refine XC.condF rfl ?_
                    refine XC.skip ?_
                    refine nx (kp 0 rfl (kp 1 rfl (kp 5 rfl (kp 7 rfl (kp 10 rfl kn))))) ?_
                    refine XC.reg1 ?_
                    refine XL.q (q_move rfl) rfl ?_
                    refine XL.q (q_assign rfl) rfl ?_
                    refine XL.nil ?_
                    refine nb ?_
                    exact jn ⟨i + 1, [], _, Mn, []⟩ ⟨rfl, by simp, hnet, Sl.nil, by simp⟩ (kp 0 rfl (kp 1 rfl (kp 5 rfl (kp 6 rfl (kp 7 rfl kn))))) (Fit.head (M := Mn) (E := []) (List.nil_sublist _)) (by simp)
                  ·
                    refine XC.seq ?_
                    refine XC.reg ?_
                    refine XL.q (q_move rfl) rfl ?_
                    refine XL.q (q_move rfl) rfl ?_
                    refine XL.cv (aS rfl (aS rfl a0)) (by kernel_rfl) (double_none b25 c0 p0 e0' kk _ (by simp [show (b25, blk [.slice p0 0 c0] e0') ∈ Mn from hb0])) rfl ?_
                    refine XL.q (q_move rfl) rfl ?_
                    refine XL.q (q_cmp false rfl rfl (geF (by decide))) rfl ?_
                    refine XL.q (q_boolNeR false rfl rfl (by kernel_rfl) rfl) rfl ?_
                    refine XL.fin (kp 0 rfl (kp 1 rfl (kp 5 rfl (kp 6 rfl (kp 7 rfl (kp 9 rfl (kp 73 rfl kn))))))) ?_
                    refine XC.condF rfl ?_
                    refine XC.skip ?_
                    refine nx (kp 0 rfl (kp 1 rfl (kp 5 rfl (kp 6 rfl (kp 7 rfl (kp 9 rfl kn)))))) ?_
                    refine XC.reg ?_
                    refine XL.q (q_move rfl) rfl ?_
                    refine XL.q (q_cmp false rfl rfl (geF (by decide))) rfl ?_
                    refine XL.fin (kp 0 rfl (kp 1 rfl (kp 5 rfl (kp 6 rfl (kp 7 rfl (kp 9 rfl (kp 75 rfl kn))))))) ?_
                    refine XC.condF rfl ?_
                    refine XC.skip ?_
                    refine nb ?_
                    exact jn ⟨i + 1, [], _, Mn, B⟩ ⟨rfl, by simp, hnet, hsl, by simp⟩ (kp 0 rfl (kp 1 rfl (kp 5 rfl (kp 6 rfl (kp 7 rfl kn))))) .rfl (by simp)
          ·
            rintro ⟨i2, l2, v2, Mn2, B2⟩ ⟨hi2, hll2, hnet2, hsl2, hrg2⟩
            dsimp only at hi2 hll2 hnet2 hsl2 hrg2 ⊢
            subst hi2
            obtain ⟨pv2, cv2, rfl, hcv2⟩ := hsl2.val
            obtain ⟨pn, cn, en, hbn⟩ := hnet2.blk
            rw [List.length_map] at hbn
            refine XC.reg ?_
            refine XL.q (q_move rfl) rfl ?_
            refine XL.cv (aS rfl a0) (by kernel_rfl) (len_spec b25 l2.length cn pn en _ (by simp [show (b25, blk [.slice pn l2.length cn] en) ∈ Mn2 from hbn])) rfl ?_
            refine XL.q (q_move rfl) rfl ?_
            refine XL.q (q_lenS (e := 3) rfl (by kernel_rfl)) rfl ?_
            refine XL.q (q_cmp false rfl rfl (neF rfl)) rfl ?_
            refine XL.fin (kp 0 rfl (kp 1 rfl (kp 5 rfl (kp 6 rfl (kp 7 rfl (kp 145 rfl kn)))))) ?_
            refine XC.condF rfl ?_
            refine XC.skip ?_
            refine nb ?_
            refine nx (kp 0 rfl (kp 1 rfl (kp 5 rfl (kp 6 rfl (kp 7 rfl kn))))) ?_
            refine XC.reg1 ?_
            refine XL.q (q_move rfl) rfl ?_
            refine XL.q (q_num ((i + 1 : Nat) : Int) rfl rfl (add64 (by omega) (by omega) (by omega))) rfl ?_
            refine XL.q (q_assign rfl) rfl ?_
            refine XL.nil ?_
            exact rn ⟨i + 1, l2, _, Mn2, B2⟩ ⟨by dsimp only; omega, hll2, hnet2, hsl2, hrg2⟩ (by dsimp only; omega) (kp 0 rfl (kp 1 rfl (kp 5 rfl (kp 6 rfl (kp 7 rfl kn))))) .rfl (fun _ h => h)
        ·
          have hlp : 0 < l.length := List.length_pos_iff.2 hl0
          have hkq := plc_lt kk hlp
          generalize hkq' : plc kk l.length = kq at hkq
          obtain ⟨bl, ol, cap, csl, el, heq, rfl, hg1, hg2, hg3, hg4, hg5⟩ : ∃ bl ol cap csl el, Value.slice pv l.length cv = .slice (some ⟨bl, ol, none⟩) l.length cap ∧ B = [(bl, blk csl el)] ∧ l.length ≤ cap ∧ cap ≤ maxLen ∧ ol + cap * 1 ≤ csl.length ∧ (l.map (Value.int .i64)).length = l.length * 1 ∧ (∀ j u, (l.map (Value.int .i64))[j]? = some u → csl[ol + j]? = some u) := by
            rcases hsl with ⟨p, _, hz, _, _⟩ | ⟨bl, ol, cap, csl, el, h1, h2, h3⟩
            · omega
            · exact ⟨bl, ol, cap, csl, el, h1, h2, h3⟩
          cases heq
          have hcell : csl[ol + kq * 1]? = some (.int .i64 (l.getD kq 0)) := by
            rw [Nat.mul_one]
            refine hg5 kq _ ?_
            rw [List.getElem?_map, List.getElem?_eq_getElem hkq]
            simp [List.getD, List.getElem?_eq_getElem hkq]
          have hrw := hrg _ (getD_mem hkq)
          have hrdl : ∀ R : Mem, (bl, blk csl el) ∈ R → Rd R 1 (.slice (some ⟨bl, ol, none⟩) l.length cv) l.length (l.map (Value.int .i64)) := fun R hR => ⟨_, cv, rfl, hg4, hg1, .inr ⟨bl, ol, csl, el, (0, 0), rfl, hR, hg5⟩⟩
          refine XC.reg ?_
          refine XL.q (q_assign rfl) rfl ?_
          refine XL.fin (kp 0 rfl (kp 1 rfl (kp 5 rfl (kp 6 rfl (kp 7 rfl (kp 8 rfl (kp 9 rfl kn))))))) ?_
          refine XC.seq ?_
          refine XC.reg ?_
          refine XL.q (q_move rfl) rfl ?_
          refine XL.q (q_lenS (e := 3) rfl (by kernel_rfl)) rfl ?_
          refine XL.q (q_cmp true rfl rfl (gtT (by omega))) rfl ?_
          refine XL.fin (kp 0 rfl (kp 1 rfl (kp 5 rfl (kp 6 rfl (kp 7 rfl (kp 8 rfl (kp 9 rfl (kp 42 rfl kn)))))))) ?_
          refine XC.condT rfl ?_
          refine XC.reg1 ?_
          refine XL.q (q_move rfl) rfl ?_
          refine XL.q (q_conv (k' := .u64) rfl (by kernel_rfl)) rfl ?_
          refine XL.q (q_move rfl) rfl ?_
          refine XL.q (q_lenS (e := 3) rfl (by kernel_rfl)) rfl ?_
          refine XL.q (q_conv (k' := .u64) rfl (by kernel_rfl)) rfl ?_
          refine XL.q (q_rem rfl rfl (by rw [wrap_u64 (by omega) (by omega)]; omega)) rfl ?_
          refine XL.q (q_convR (k' := .i64) (kq : Int) rfl (by kernel_rfl) (by rw [plc_eq kk hlp (by omega), hkq'])) rfl ?_
          refine XL.q (q_assign rfl) rfl ?_
          refine XL.fin (kp 0 rfl (kp 1 rfl (kp 5 rfl (kp 6 rfl (kp 7 rfl (kp 8 rfl (kp 9 rfl kn))))))) ?_
          refine XC.reg ?_
          refine XL.q (q_assign rfl) rfl ?_
          refine XL.fin (kp 0 rfl (kp 1 rfl (kp 5 rfl (kp 6 rfl (kp 7 rfl (kp 8 rfl (kp 9 rfl (kp 10 rfl kn)))))))) ?_
          refine XC.seq ?_
          refine XC.reg ?_
          refine XL.q (q_move rfl) rfl ?_
          refine XL.q (q_cmp true rfl rfl (geT (by omega))) rfl ?_
          refine XL.fin (kp 0 rfl (kp 1 rfl (kp 5 rfl (kp 6 rfl (kp 7 rfl (kp 8 rfl (kp 9 rfl (kp 10 rfl (kp 51 rfl kn))))))))) ?_
          refine XC.condT rfl ?_
          refine XC.reg ?_
          refine XL.q (q_move rfl) rfl ?_
          refine XL.q (q_move rfl) rfl ?_
          refine XL.q (q_move rfl) rfl ?_
          refine XL.q (q_slHi (h := kq) (e := 3) (sz := 1) rfl rfl (by kernel_rfl) (by kernel_rfl) rfl (by omega)) rfl ?_
          refine XL.lo rfl (l_append (e := 3) (sz := 1) (by_ := 8) (n := 0) (m := kq) (B := []) (xs := []) rfl rfl (by kernel_rfl) rfl Sl.nil ((hrdl _ (by simp)).hi kq (by omega)) (fun c hc => ints_one l c (List.mem_of_mem_take hc)) (.refl _) (by unfold maxLen; omega) (by omega) rfl fun v1 B1 hs1 => ?_)
          obtain ⟨pv1, cv1, rfl, hcv1⟩ := hs1.val
          refine XL.q (q_assign rfl) rfl ?_
          refine XL.fin (kp 0 rfl (kp 1 rfl (kp 5 rfl (kp 6 rfl (kp 7 rfl (kp 8 rfl (kp 9 rfl (kp 10 rfl kn)))))))) ?_
          refine XC.reg1 ?_
          refine XL.q (q_move rfl) rfl ?_
          refine XL.q (q_move rfl) rfl ?_
          refine XL.q (q_move rfl) rfl ?_
          refine XL.q (q_num ((kq + 1 : Nat) : Int) rfl rfl (add64 (by omega) (by omega) (by omega))) rfl ?_
          refine XL.q (q_slLo (h := kq + 1) (e := 3) (sz := 1) rfl rfl (by kernel_rfl) (by kernel_rfl) rfl (by omega) (by omega)) rfl ?_
          refine XL.lo rfl (l_append (e := 3) (sz := 1) (by_ := 8) (m := l.length - (kq + 1)) rfl rfl (by kernel_rfl) rfl hs1 ((hrdl _ (by simp)).lo (kq + 1) (by omega)) (fun c hc => ints_one l c (List.mem_of_mem_drop hc)) (.refl _) (by unfold maxLen; omega) (by omega) rfl fun vr Br hsr => ?_)
          have hslr : Sl 1 vr (l.eraseIdx kq).length ((l.eraseIdx kq).map (Value.int .i64)) Br := by
            have e1 : (l.eraseIdx kq).length = 0 + kq + (l.length - (kq + 1)) := by rw [List.length_eraseIdx, if_pos hkq]; omega
            have e2 : (l.eraseIdx kq).map (Value.int .i64) = [] ++ (l.map (Value.int .i64)).take (kq * 1) ++ (l.map (Value.int .i64)).drop ((kq + 1) * 1) := by
              rw [List.eraseIdx_eq_take_drop_succ]; simp [List.map_take, List.map_drop]
            rw [e1, e2]; exact hsr
          clear hsr
          have hrl : ∀ n ∈ l.eraseIdx kq, 0 ≤ n ∧ n < 200 := fun n hn => hrg n (List.mem_of_mem_eraseIdx hn)
          have hrll : (l.eraseIdx kq).length + 1 = l.length := by rw [List.length_eraseIdx, if_pos hkq]; omega
          refine XL.q (q_assign rfl) rfl ?_
          refine XL.fin (kp 0 rfl (kp 1 rfl (kp 5 rfl (kp 6 rfl (kp 7 rfl (kp 8 rfl (kp 9 rfl (kp 10 rfl kn)))))))) ?_
          refine XC.join (α := PS) (fun x => [(0, .slice (some ⟨ba, oa, none⟩) la ca), (1, .slice q1 lp cp), (5, .pointer (some ⟨b25, 0, none⟩)), (6, x.v), (7, .int .i64 (i : Int))]) (fun x => x.Mn ++ x.B) (fun _ => []) (fun x => x.i = i + 1 ∧ PSok b25 x) ?_ ?_
          ·
            refine XC.reg ?_
            refine XL.q (q_move rfl) rfl ?_
            refine XL.q (q_move rfl) rfl ?_
            refine XL.q (q_idxS (i := i) (e := 5) (sz := 1) rfl rfl (by kernel_rfl) (by kernel_rfl) rfl hlt) rfl ?_
            refine XL.q (q_load rfl (by kernel_rfl) (mA hba) hca) rfl ?_
            refine XL.q (q_rem rfl rfl (by decide)) rfl ?_
            generalize (z0.getD i 0).tmod 5 = tg
            refine XL.fin (kp 0 rfl (kp 1 rfl (kp 5 rfl (kp 6 rfl (kp 7 rfl (kp 8 rfl (kp 9 rfl (kp 10 rfl (kp 67 rfl kn))))))))) ?_
            refine XC.block ?_
            refine XC.join (α := Bool) (fun b => [(0, .slice (some ⟨ba, oa, none⟩) la ca), (1, .slice q1 lp cp), (5, .pointer (some ⟨b25, 0, none⟩)), (6, .slice (some ⟨bl, ol, none⟩) l.length cv), (7, .int .i64 (i : Int)), (8, .int .i64 kk), (9, .int .i64 (kq : Int)), (10, vr), (67, .int .u8 tg), (83, .bool b)]) (fun _ => Br ++ (Mn ++ [(bl, blk csl el)])) (fun _ => []) (fun _ => True) ?_ ?_
            ·
              refine XC.reg ?_
              refine XL.q (q_bin rfl rfl rfl) rfl ?_
              refine XL.q (q_assign rfl) rfl ?_
              refine XL.fin (kp 0 rfl (kp 1 rfl (kp 5 rfl (kp 6 rfl (kp 7 rfl (kp 8 rfl (kp 9 rfl (kp 10 rfl (kp 67 rfl (kp 83 rfl kn)))))))))) ?_
              refine XC.cond rfl (fun hc => ?_) (fun hc => ?_)
              ·
                refine XC.skip ?_
                exact jn _ trivial (kp 0 rfl (kp 1 rfl (kp 5 rfl (kp 6 rfl (kp 7 rfl (kp 8 rfl (kp 9 rfl (kp 10 rfl (kp 67 rfl (kp 83 rfl kn)))))))))) .rfl (fun _ h => h)
              ·
                refine XC.reg1 ?_
                refine XL.q (q_bin rfl rfl rfl) rfl ?_
                refine XL.q (q_assign rfl) rfl ?_
                refine XL.nil ?_
                exact jn _ trivial (kp 0 rfl (kp 1 rfl (kp 5 rfl (kp 6 rfl (kp 7 rfl (kp 8 rfl (kp 9 rfl (kp 10 rfl (kp 67 rfl (kp 83 rfl kn)))))))))) .rfl (fun _ h => h)
            ·
              rintro bq _
              refine XC.cond rfl (fun hc => ?_) (fun hc => ?_)
              ·
                refine XC.fit (M' := Mn ++ [(bl, blk csl el)]) (J' := []) Fit.tail (by simp) ?_
                refine XC.reg ?_
                refine XL.q (q_move rfl) rfl ?_
                refine XL.q (q_move rfl) rfl ?_
                refine XL.cv (aS rfl a0) (by kernel_rfl) (packet_spec i _) rfl ?_
                refine XL.lo rfl (l_call (Mc := Mn) (aS rfl (aS rfl a0)) (by kernel_rfl) (.refl _) (put_spec b25 Mn _ (l.map pk) (pk i) hnet (pk_rows l) (pk_len _) (pk_one _) (by simp; omega)) rfl ?_)
                rintro _ M1 _ ⟨rfl, rfl, hn1⟩
                have e1 : last (l.map pk ++ [pk (i : Int)]) = (l ++ [(i : Int)]).map pk := by
                  unfold last; rw [show (l.map pk ++ [pk (i : Int)]).length - 256 = 0 from by simp; omega]; simp
                rw [e1] at hn1
                refine XL.fin (kp 0 rfl (kp 1 rfl (kp 5 rfl (kp 6 rfl (kp 7 rfl kn))))) ?_
                refine XC.reg1 ?_
                refine XL.q (q_move rfl) rfl ?_
                refine XL.q (q_move rfl) rfl ?_
                refine XL.lo rfl (l_buildSlice (e := 3) (sz := 1) (z := [.int .i64 0]) (by kernel_rfl) (eS rfl e0) (bdS 0 1 rfl (by rfl) bd0) rfl fun b92 => ?_)
                refine XL.lo rfl (l_append (e := 3) (sz := 1) (by_ := 8) (m := 1) (n := l.length) (B := [(bl, blk csl el)]) (xs := l.map (Value.int .i64)) (ys := [.int .i64 (i : Int)]) rfl rfl (by kernel_rfl) rfl hsl (Rd.whole (n := 1) m0 rfl) (by simp [Value.oneCell']) (List.perm_append_comm (l₁ := _ :: M1)) (by unfold maxLen; omega) (by omega) rfl fun v2 B2 hs2 => ?_)
                refine XL.q (q_assign rfl) rfl ?_
                refine XL.nil ?_
                refine nb ?_
                exact jn ⟨i + 1, l ++ [(i : Int)], v2, M1, B2⟩ ⟨rfl, by simp; omega, hn1, by simpa using hs2, by intro n hn; simp at hn; rcases hn with hn | rfl; exact hrg n hn; omega⟩ (kp 0 rfl (kp 1 rfl (kp 5 rfl (kp 6 rfl (kp 7 rfl kn))))) Fit.app (by simp)
              ·
                refine XC.reg ?_
                refine XL.q (q_bin rfl rfl rfl) rfl ?_
                refine XL.q (q_assign rfl) rfl ?_
                refine XL.fin (kp 0 rfl (kp 1 rfl (kp 5 rfl (kp 6 rfl (kp 7 rfl (kp 8 rfl (kp 9 rfl (kp 10 rfl (kp 67 rfl (kp 94 rfl kn)))))))))) ?_
                refine XC.cond rfl (fun hc => ?_) (fun hc => ?_)
                ·
                  refine XC.fit (M' := Mn ++ (Br ++ [(bl, blk csl el)])) (J' := []) (Fit.perm (List.perm_append_comm_assoc _ _ _)) (by simp) ?_
                  refine XC.reg ?_
                  refine XL.q (q_move rfl) rfl ?_
                  refine XL.q (q_move rfl) rfl ?_
                  refine XL.lo rfl (l_call (Mc := Mn) (aS rfl (aS rfl a0)) (by kernel_rfl) (.refl _) (take_spec b25 kk Mn _ (l.map pk) (pk (l.getD kq 0)) hnet (pk_rows l) (by simp; omega) (by rw [List.length_map, hkq']; exact getD_some hkq)) rfl ?_)
                  rintro _ M1 _ ⟨rfl, rfl, hn1⟩
                  rw [List.length_map, hkq', erase_map] at hn1
                  refine XL.q (q_move rfl) rfl ?_
                  refine XL.q (q_extract rfl rfl) rfl ?_
                  refine XL.q (q_extract rfl rfl) rfl ?_
                  refine XL.lo rfl (l_alloc (cs := [.int .u8 0, .int .i64 0, .int .i64 0, .int .u32 0, .int .u32 0, .int .i64 0, .slice none 0 0, .int .u64 0, .slice none 0 0, .int .u8 0, .int .i64 0, .int .i64 0, .int .u32 0, .int .u32 0, .int .i64 0, .slice none 0 0, .slice none 0 0, .slice none 0 0, .bool false]) (by kernel_rfl) rfl fun b11 => ?_)
                  refine XL.stW rfl rfl (by kernel_rfl) (by rfl) (pk_one _) ?_
                  refine XL.q (q_assign rfl) rfl ?_
                  refine XL.fin (kp 0 rfl (kp 1 rfl (kp 5 rfl (kp 6 rfl (kp 7 rfl (kp 9 rfl (kp 10 rfl (kp 11 rfl (kp 12 rfl kn))))))))) ?_
                  refine XC.seq ?_
                  refine XC.draw (_) [0, 1, 2, 3, 4, 5, 6, 7, 8, 9, 10, 11, 12, 13, 14, 15, 16, 17, 18, 19, 20, 21, 22, 23, 24, 25, 26, 27, 28] [(0, 0), (1, 0), (2, 0), (3, 0), (4, 0), (5, 0), (6, 0), (7, 0), (8, 0), (9, 1), (10, 0), (11, 0), (12, 0), (13, 0), (14, 1), (15, 0), (16, 0), (17, 0), (18, 1), (19, 0), (20, 0), (21, 0), (22, 1), (23, 0), (24, 0), (25, 0), (26, 0), (27, 0), (28, 0)] (by kernel_rfl) (by kernel_rfl) (fun _ h => h) fun hs => ?_
                  refine XP.q hs rfl (q_move rfl) rfl ?_
                  refine XP.q hs rfl (q_move rfl) rfl ?_
                  refine XP.q hs rfl (q_cmp true rfl rfl (geT (by omega))) rfl ?_
                  refine XP.q hs rfl (q_boolNeR false rfl rfl (by kernel_rfl) rfl) rfl ?_
                  refine XP.q hs rfl (q_move rfl) rfl ?_
                  refine XP.qg hs rfl rfl rfl rfl (q_move rfl) rfl ?_
                  refine XP.qg hs rfl rfl rfl rfl (q_move rfl) rfl ?_
                  refine XP.qg hs rfl rfl rfl rfl (q_fieldAddrN 0 (off := 0) rfl (by kernel_rfl) rfl) rfl ?_
                  refine XP.qg hs rfl rfl rfl rfl (q_fieldAddrN 3 (off := 3) rfl (by kernel_rfl) rfl) rfl ?_
                  refine XP.rg hs rfl rfl rfl rfl (q_load rfl (by kernel_rfl) At.mem (by rfl)) rfl ?_
                  refine XP.qg hs rfl rfl rfl rfl (q_convR (k' := .i64) (l.getD kq 0) rfl (by kernel_rfl) (n_wrap hrw)) rfl ?_
                  refine XP.qg hs rfl rfl rfl rfl (q_move rfl) rfl ?_
                  refine XP.qg hs rfl rfl rfl rfl (q_move rfl) rfl ?_
                  refine XP.qg hs rfl rfl rfl rfl (q_idxS (i := kq) (e := 3) (sz := 1) rfl rfl (by kernel_rfl) (by kernel_rfl) rfl hkq) rfl ?_
                  refine XP.rg hs rfl rfl rfl rfl (q_load rfl (by kernel_rfl) At.mem hcell) rfl ?_
                  refine XP.qg hs rfl rfl rfl rfl (q_cmp false rfl rfl (neF rfl)) rfl ?_
                  refine XP.qg hs rfl rfl rfl rfl (q_move rfl) rfl ?_
                  refine XP.qg hs rfl rfl rfl rfl (q_fieldAddrN 18 (off := 18) rfl (by kernel_rfl) rfl) rfl ?_
                  refine XP.rg hs rfl rfl rfl rfl (q_load rfl (by kernel_rfl) At.mem (by rfl)) rfl ?_
                  refine XP.qg hs rfl rfl rfl rfl (q_move rfl) rfl ?_
                  refine XP.qg hs rfl rfl rfl rfl (q_move rfl) rfl ?_
                  refine XP.qg hs rfl rfl rfl rfl (q_idxS (i := kq) (e := 3) (sz := 1) rfl rfl (by kernel_rfl) (by kernel_rfl) rfl hkq) rfl ?_
                  refine XP.rg hs rfl rfl rfl rfl (q_load rfl (by kernel_rfl) At.mem hcell) rfl ?_
                  refine XP.qg hs rfl rfl rfl rfl (q_rem rfl rfl (by decide)) rfl ?_
                  refine XP.qg hs rfl rfl rfl rfl (q_bin rfl rfl rfl) rfl ?_
                  refine XP.qg hs rfl rfl rfl rfl (q_boolNeR false rfl rfl (by kernel_rfl) (by simp)) rfl ?_
                  refine XP.qg hs rfl rfl rfl rfl (q_pickF rfl rfl) rfl ?_
                  refine XP.qg hs rfl rfl rfl rfl (q_pickT rfl rfl) rfl ?_
                  refine XP.q hs rfl (q_pickF rfl rfl) rfl ?_
                  refine XP.fin (kp 0 rfl (kp 1 rfl (kp 5 rfl (kp 7 rfl (kp 10 rfl (kp 130 rfl kn)))))) ?_
                  refine XC.condF rfl ?_
                  refine XC.skip ?_
                  refine nx (kp 0 rfl (kp 1 rfl (kp 5 rfl (kp 7 rfl (kp 10 rfl kn))))) ?_
                  refine XC.reg1 ?_
                  refine XL.q (q_move rfl) rfl ?_
                  refine XL.q (q_assign rfl) rfl ?_
                  refine XL.nil ?_
                  refine nb ?_
                  exact jn ⟨i + 1, l.eraseIdx kq, _, M1, Br⟩ ⟨rfl, by dsimp only; omega, hn1, hslr, hrl⟩ (kp 0 rfl (kp 1 rfl (kp 5 rfl (kp 6 rfl (kp 7 rfl kn))))) (Fit.head1 (List.sublist_append_left _ _)) (by simp)
                ·
                  refine XC.reg ?_
                  refine XL.q (q_bin rfl rfl rfl) rfl ?_
                  refine XL.q (q_assign rfl) rfl ?_
                  refine XL.fin (kp 0 rfl (kp 1 rfl (kp 5 rfl (kp 6 rfl (kp 7 rfl (kp 8 rfl (kp 9 rfl (kp 10 rfl (kp 132 rfl kn))))))))) ?_
                  refine XC.cond rfl (fun hc => ?_) (fun hc => ?_)
                  ·
                    refine XC.seq ?_
                    refine XC.fit (M' := Mn ++ (Br ++ [(bl, blk csl el)])) (J' := []) (Fit.perm (List.perm_append_comm_assoc _ _ _)) (by simp) ?_
                    refine XC.reg ?_
                    refine XL.q (q_move rfl) rfl ?_
                    refine XL.q (q_move rfl) rfl ?_
                    refine XL.lo rfl (l_call (Mc := Mn) (aS rfl (aS rfl a0)) (by kernel_rfl) (.refl _) (drop_spec b25 kk Mn _ (l.map pk) (pk (l.getD kq 0)) hnet (pk_rows l) (by simp; omega) (by rw [List.length_map, hkq']; exact getD_some hkq)) rfl ?_)
                    rintro _ M1 _ ⟨rfl, rfl, hn1⟩
                    rw [List.length_map, hkq', erase_map] at hn1
                    refine XL.q (q_move rfl) rfl ?_
                    refine XL.q (q_cmp true rfl rfl (geT (by omega))) rfl ?_
                    refine XL.q (q_boolNeR false rfl rfl (by kernel_rfl) rfl) rfl ?_
                    refine XL.fin (kp 0 rfl (kp 1 rfl (kp 5 rfl (kp 7 rfl (kp 10 rfl (kp 139 rfl kn)))))) ?_
                    refine XC.condF rfl ?_
                    refine XC.skip ?_
                    refine nx (kp 0 rfl (kp 1 rfl (kp 5 rfl (kp 7 rfl (kp 10 rfl kn))))) ?_
                    refine XC.reg1 ?_
                    refine XL.q (q_move rfl) rfl ?_
                    refine XL.q (q_assign rfl) rfl ?_
                    refine XL.nil ?_
                    refine nb ?_
                    exact jn ⟨i + 1, l.eraseIdx kq, _, M1, Br⟩ ⟨rfl, by dsimp only; omega, hn1, hslr, hrl⟩ (kp 0 rfl (kp 1 rfl (kp 5 rfl (kp 6 rfl (kp 7 rfl kn))))) (Fit.head (List.sublist_append_left _ _)) (by simp)
                  ·
                    refine XC.seq ?_
                    refine XC.fit (M' := Mn ++ (Br ++ [(bl, blk csl el)])) (J' := []) (Fit.perm (List.perm_append_comm_assoc _ _ _)) (by simp) ?_
                    refine XC.reg ?_
                    refine XL.q (q_move rfl) rfl ?_
                    refine XL.q (q_move rfl) rfl ?_
                    refine XL.lo rfl (l_call (Mc := Mn) (aS rfl (aS rfl a0)) (by kernel_rfl) (.refl _) (double_spec b25 kk Mn _ (l.map pk) (pk (l.getD kq 0)) hnet (pk_rows l) (by simp; omega) (by rw [List.length_map, hkq']; exact getD_some hkq)) rfl ?_)
                    rintro _ M1 _ ⟨rfl, rfl, hn1⟩
                    refine XL.q (q_move rfl) rfl ?_
                    refine XL.q (q_cmp true rfl rfl (geT (by omega))) rfl ?_
                    refine XL.q (q_boolNeR false rfl rfl (by kernel_rfl) rfl) rfl ?_
                    refine XL.fin (kp 0 rfl (kp 1 rfl (kp 5 rfl (kp 6 rfl (kp 7 rfl (kp 9 rfl (kp 73 rfl kn))))))) ?_
                    refine XC.condF rfl ?_
                    refine XC.skip ?_
                    refine nx (kp 0 rfl (kp 1 rfl (kp 5 rfl (kp 6 rfl (kp 7 rfl (kp 9 rfl kn)))))) ?_
                    refine XC.reg ?_
                    refine XL.q (q_move rfl) rfl ?_
                    refine XL.q (q_cmp true rfl rfl (geT (by omega))) rfl ?_
                    refine XL.fin (kp 0 rfl (kp 1 rfl (kp 5 rfl (kp 6 rfl (kp 7 rfl (kp 9 rfl (kp 75 rfl kn))))))) ?_
                    refine XC.condT rfl ?_
                    refine XC.fit (M' := M1 ++ [(bl, blk csl el)]) (J' := []) (Fit.sub (List.Sublist.append (List.Sublist.refl _) (List.sublist_append_right _ _))) (by simp) ?_
                    refine XC.reg1 ?_
                    refine XL.q (q_move rfl) rfl ?_
                    refine XL.q (q_move rfl) rfl ?_
                    refine XL.q (q_move rfl) rfl ?_
                    refine XL.q (q_idxS (i := kq) (e := 3) (sz := 1) rfl rfl (by kernel_rfl) (by kernel_rfl) rfl hkq) rfl ?_
                    refine XL.q (q_load rfl (by kernel_rfl) At.mem hcell) rfl ?_
                    refine XL.lo rfl (l_buildSlice (e := 3) (sz := 1) (z := [.int .i64 0]) (by kernel_rfl) (eS rfl e0) (bdS 0 1 rfl (by rfl) bd0) rfl fun b81 => ?_)
                    refine XL.lo rfl (l_append (e := 3) (sz := 1) (by_ := 8) (m := 1) (n := l.length) (B := [(bl, blk csl el)]) (xs := l.map (Value.int .i64)) (ys := [.int .i64 (l.getD kq 0)]) rfl rfl (by kernel_rfl) rfl (.inr ⟨bl, ol, cv, csl, el, rfl, rfl, hg1, hg2, hg3, hg4, hg5⟩) (Rd.whole (n := 1) m0 rfl) (by simp [Value.oneCell']) (List.perm_append_comm (l₁ := _ :: M1)) (by unfold maxLen; omega) (by omega) rfl fun v2 B2 hs2 => ?_)
                    refine XL.q (q_assign rfl) rfl ?_
                    refine XL.nil ?_
                    refine nb ?_
                    exact jn ⟨i + 1, l ++ [l.getD kq 0], v2, M1, B2⟩ ⟨rfl, by simp; omega, by simpa using hn1, by simpa using hs2, by intro n hn; simp only [List.mem_append, List.mem_singleton] at hn; rcases hn with hn | rfl; exact hrg n hn; exact hrw⟩ (kp 0 rfl (kp 1 rfl (kp 5 rfl (kp 6 rfl (kp 7 rfl kn))))) Fit.app (by simp)
          ·
            rintro ⟨i2, l2, v2, Mn2, B2⟩ ⟨hi2, hll2, hnet2, hsl2, hrg2⟩
            dsimp only at hi2 hll2 hnet2 hsl2 hrg2 ⊢
            subst hi2
            obtain ⟨pv2, cv2, rfl, hcv2⟩ := hsl2.val
            obtain ⟨pn, cn, en, hbn⟩ := hnet2.blk
            rw [List.length_map] at hbn
            refine XC.reg ?_
            refine XL.q (q_move rfl) rfl ?_
            refine XL.cv (aS rfl a0) (by kernel_rfl) (len_spec b25 l2.length cn pn en _ (by simp [show (b25, blk [.slice pn l2.length cn] en) ∈ Mn2 from hbn])) rfl ?_
            refine XL.q (q_move rfl) rfl ?_
            refine XL.q (q_lenS (e := 3) rfl (by kernel_rfl)) rfl ?_
            refine XL.q (q_cmp false rfl rfl (neF rfl)) rfl ?_
            refine XL.fin (kp 0 rfl (kp 1 rfl (kp 5 rfl (kp 6 rfl (kp 7 rfl (kp 145 rfl kn)))))) ?_
            refine XC.condF rfl ?_
            refine XC.skip ?_
            refine nb ?_
            refine nx (kp 0 rfl (kp 1 rfl (kp 5 rfl (kp 6 rfl (kp 7 rfl kn))))) ?_
            refine XC.reg1 ?_
            refine XL.q (q_move rfl) rfl ?_
            refine XL.q (q_num ((i + 1 : Nat) : Int) rfl rfl (add64 (by omega) (by omega) (by omega))) rfl ?_
            refine XL.q (q_assign rfl) rfl ?_
            refine XL.nil ?_
            exact rn ⟨i + 1, l2, _, Mn2, B2⟩ ⟨by dsimp only; omega, hll2, hnet2, hsl2, hrg2⟩ (by dsimp only; omega) (kp 0 rfl (kp 1 rfl (kp 5 rfl (kp 6 rfl (kp 7 rfl kn))))) .rfl (fun _ h => h)
    ·
      have hie : i = la := by simp at hc; omega
      refine XC.exit ?_
      refine te ?_
      refine re ?_
      refine be rfl ?_
      refine nx (kp 5 rfl (kp 6 rfl kn)) ?_
      refine XC.seq ?_
      refine XC.reg ?_
      refine XL.q (q_assign rfl) rfl ?_
      refine XL.fin (kp 5 rfl (kp 6 rfl (kp 13 rfl kn))) ?_
      refine XC.block ?_
      refine XC.loop (α := Nat × Mem) (fun x => [(5, .pointer (some ⟨b25, 0, none⟩)), (6, .slice pv l.length cv), (13, .int .i64 (x.1 : Int))]) (fun x => x.2 ++ B) (fun _ => []) (fun x => x.1 ≤ l.length ∧ NetM b25 ((l.drop x.1).map pk) x.2) (fun x => l.length - x.1) (0, Mn) ⟨Nat.zero_le _, hnet⟩ (kp 5 rfl (kp 6 rfl (kp 13 rfl kn))) .rfl (fun _ h => h) ?_
      rintro ⟨j, Mj⟩ ⟨hj, hnj⟩
      dsimp only at hj hnj ⊢
      refine XC.seq ?_
      refine XC.reg ?_
      refine XL.q (q_move rfl) rfl ?_
      refine XL.q (q_move rfl) rfl ?_
      refine XL.q (q_lenS (e := 3) rfl (by kernel_rfl)) rfl ?_
      refine XL.q (q_bin rfl rfl rfl) rfl ?_
      refine XL.fin (kp 5 rfl (kp 6 rfl (kp 13 rfl (kp 149 rfl kn)))) ?_
      refine XC.cond rfl (fun hc => ?_) (fun hc => ?_)
      ·
        have hjl : j < l.length := by simpa using hc
        obtain ⟨bl, ol, cap, csl, el, frl, heql, hbl, hcl⟩ := (hsl.rd (R := B) (fun _ h => h)).int hjl
        cases heql
        have hrw := hrg _ (getD_mem hjl)
        have hhd : ((l.drop j).map pk)[plc 0 ((l.drop j).map pk).length]? = some (pk (l.getD j 0)) := by
          rw [show plc 0 ((l.drop j).map pk).length = 0 from by simp [plc], List.getElem?_map, List.getElem?_drop, Nat.add_zero, List.getD, List.getElem?_eq_getElem hjl]; rfl
        refine XC.skip ?_
        refine nx (kp 5 rfl (kp 6 rfl (kp 13 rfl kn))) ?_
        refine XC.seq ?_
        refine XC.block ?_
        refine XC.reg ?_
        refine XL.q (q_move rfl) rfl ?_
        refine XL.lo rfl (l_call (Mc := Mj) (aS rfl (aS rfl a0)) (by kernel_rfl) (.refl _) (take_spec b25 0 Mj _ ((l.drop j).map pk) (pk (l.getD j 0)) hnj (pk_rows _) (by simp; omega) hhd) rfl ?_)
        rintro _ M1 _ ⟨rfl, rfl, hn1⟩
        rw [show plc 0 ((l.drop j).map pk).length = 0 from by simp [plc], erase_map, show (l.drop j).eraseIdx 0 = l.drop (j + 1) from by simp] at hn1
        refine XL.q (q_move rfl) rfl ?_
        refine XL.q (q_extract rfl rfl) rfl ?_
        refine XL.q (q_extract rfl rfl) rfl ?_
        refine XL.lo rfl (l_alloc (cs := [.int .u8 0, .int .i64 0, .int .i64 0, .int .u32 0, .int .u32 0, .int .i64 0, .slice none 0 0, .int .u64 0, .slice none 0 0, .int .u8 0, .int .i64 0, .int .i64 0, .int .u32 0, .int .u32 0, .int .i64 0, .slice none 0 0, .slice none 0 0, .slice none 0 0, .bool false]) (by kernel_rfl) rfl fun b14 => ?_)
        refine XL.stW rfl rfl (by kernel_rfl) (by rfl) (pk_one _) ?_
        refine XL.q (q_assign rfl) rfl ?_
        refine XL.fin (kp 5 rfl (kp 6 rfl (kp 13 rfl (kp 14 rfl (kp 15 rfl kn))))) ?_
        refine XC.draw (_) [0, 1, 2, 3, 4, 5, 6, 7, 8, 9, 10, 11, 12] [(0, 0), (1, 0), (2, 0), (3, 0), (4, 0), (5, 1), (6, 0), (7, 0), (8, 0), (9, 0), (10, 1), (11, 0), (12, 0)] (by kernel_rfl) (by kernel_rfl) (fun _ h => h) fun hs => ?_
        refine XP.q hs rfl (q_move rfl) rfl ?_
        refine XP.q hs rfl (q_not rfl) rfl ?_
        refine XP.q hs rfl (q_move rfl) rfl ?_
        refine XP.qg hs rfl rfl rfl rfl (q_fieldAddrN 0 (off := 0) rfl (by kernel_rfl) rfl) rfl ?_
        refine XP.qg hs rfl rfl rfl rfl (q_fieldAddrN 3 (off := 3) rfl (by kernel_rfl) rfl) rfl ?_
        refine XP.rg hs rfl rfl rfl rfl (q_load rfl (by kernel_rfl) At.mem (by rfl)) rfl ?_
        refine XP.qg hs rfl rfl rfl rfl (q_convR (k' := .i64) (l.getD j 0) rfl (by kernel_rfl) (n_wrap hrw)) rfl ?_
        refine XP.qg hs rfl rfl rfl rfl (q_move rfl) rfl ?_
        refine XP.qg hs rfl rfl rfl rfl (q_move rfl) rfl ?_
        refine XP.qg hs rfl rfl rfl rfl (q_idxS (i := j) (e := 3) (sz := 1) rfl rfl (by kernel_rfl) (by kernel_rfl) rfl hjl) rfl ?_
        refine XP.rg hs rfl rfl rfl rfl (q_load rfl (by kernel_rfl) (List.mem_append_left _ (List.mem_cons_of_mem _ (List.mem_append_right _ hbl))) hcl) rfl ?_
        refine XP.qg hs rfl rfl rfl rfl (q_cmp false rfl rfl (neF rfl)) rfl ?_
        refine XP.q hs rfl (q_pickF rfl rfl) rfl ?_
        refine XP.fin (kp 5 rfl (kp 6 rfl (kp 13 rfl (kp 169 rfl kn)))) ?_
        refine XC.condF rfl ?_
        refine XC.skip ?_
        refine nb ?_
        refine nx (kp 5 rfl (kp 6 rfl (kp 13 rfl kn))) ?_
        refine XC.reg1 ?_
        refine XL.q (q_move rfl) rfl ?_
        refine XL.q (q_num ((j + 1 : Nat) : Int) rfl rfl (add64 (by omega) (by omega) (by omega))) rfl ?_
        refine XL.q (q_assign rfl) rfl ?_
        refine XL.nil ?_
        exact rn (j + 1, M1) ⟨by omega, hn1⟩ (by dsimp only; omega) (kp 5 rfl (kp 6 rfl (kp 13 rfl kn))) (Fit.sub (List.sublist_cons_self _ _)) (fun _ h => h)
      ·
        refine XC.exit ?_
        refine te ?_
        refine re ?_
        refine be rfl ?_
        refine nx kn ?_
        refine XC.reg ?_
        refine XL.q (q_assign rfl) rfl ?_
        refine XL.fin (kp 4 rfl kn) ?_
        refine XC.ret ?_
        exact ⟨_, [], [], res1 rfl rfl, List.nil_sublist _, by simp, rfl, rfl, rfl⟩

end Go.Proofs.Ytdjjjfbcdpdhcaa
