/- The walk of TermAgree. -/
import Derived.Test.YtibemhcnjdgemaaDoorTrm9
set_option linter.unusedVariables false
set_option linter.unusedSimpArgs false
namespace Go.Proofs.YtibemhcnjdgemaaDoor
open Go.Px
theorem put_fact {ts : List Tm} {t : Tm} (ht : Tmo t) (hts : ∀ t ∈ ts, Tmo t) : ∃ l, add ts t = ts ++ l ∧ (add ts t).length ≤ ts.length + 1 ∧ (add ts t)[at_ ts t]? = some t := by
  cases hp : pos ts t with
  | some j =>
    obtain ⟨h1, h2⟩ := add_some hp
    exact ⟨[], by rw [h1, List.append_nil], add_len, by rw [h1, h2]; exact pos_some ht hts hp⟩
  | none =>
    obtain ⟨h1, h2⟩ := add_none hp
    exact ⟨[t], h1, add_len, by rw [h1, h2]; simp⟩
theorem ext_get {ts l : List Tm} {i : Nat} {t : Tm} (h : ts[i]? = some t) : (ts ++ l)[i]? = some t := by
  rw [List.getElem?_append_left (List.getElem?_eq_some_iff.1 h).1]; exact h
theorem nd_inj {ts : List Tm} (hts : ∀ t ∈ ts, Tmo t) (hnd : ts.Nodup) {i j : Nat} {t : Tm} (h1 : ts[i]? = some t) (h2 : ts[j]? = some t) : i = j := Option.some.inj ((pos_of hts hnd h1).symm.trans (pos_of hts hnd h2))
theorem nd_ne {ts : List Tm} {i j : Nat} {t u : Tm} (h1 : ts[i]? = some t) (h2 : ts[j]? = some u) (h : t ≠ u) : i ≠ j := by
  rintro rfl
  exact h (Option.some.inj (h1.symm.trans h2))
theorem srt_comm (x y : Int) : srt y x = srt x y := by
  unfold srt
  split <;> split
  · omega
  · rfl
  · rfl
  · have : x = y := by omega
    rw [this]
theorem srt_inj {x y z : Int} (h : srt x y = srt x z) : y = z := by
  unfold srt at h
  split at h <;> split at h <;> simp at h <;> omega
theorem at_ok {a : Int} (h : i64 a) : Tmo ⟨1, [], [], a⟩ := ⟨show 1 < 256 by decide, h, fun i hi => (List.not_mem_nil hi).elim, show 0 ≤ 1048576 by decide, ⟨fun x hx => (List.not_mem_nil hx).elim⟩, show 0 ≤ 1099511627776 by decide⟩
theorem pub_ok {x : Nat} (h : x ≤ 20) : Tmo ⟨3, [(x : Int)], [], 0⟩ := ⟨show 3 < 256 by decide, show i64 0 by unfold i64; omega, fun i hi => by rw [List.mem_singleton.1 hi]; unfold i64; omega, show 1 ≤ 1048576 by decide, ⟨fun x hx => (List.not_mem_nil hx).elim⟩, show 0 ≤ 1099511627776 by decide⟩
theorem agr_ok {x y : Nat} {n : Int} {l : List Int} (hl : l = srt x y ∨ l = [(x : Int), (y : Int)]) (hx : x ≤ 20) (hy : y ≤ 20) (hn : n = 0 ∨ n = 1) : Tmo ⟨4, l, [], n⟩ := by
  refine ag_ok (s := x) (o := y) ?_ ?_ hn
  · rcases hl with rfl | rfl
    · exact srt_len _ _
    · rfl
  · intro z hz
    have : z = x ∨ z = y := by
      rcases hl with rfl | rfl
      · exact srt_mem hz
      · simpa using hz
    unfold i64
    omega
theorem nat64 {x : Nat} (h : x ≤ 20) : i64 (x : Int) := by unfold i64; omega
theorem get_le {ts : List Tm} {i n : Nat} {t : Tm} (h : ts[i]? = some t) (hn : ts.length ≤ n) : i ≤ n := by
  have := (List.getElem?_eq_some_iff.1 h).1
  omega

set_option maxRecDepth 100000 in
theorem termAgree_spec (a b c : Int) (A : Mem) (ha : i64 a) (hb : i64 b) (hc : i64 c) {e4 : TypeId} {f4 : Nat × Nat} (h4 : (4, Obj.cells (nums .u64 pow10T).toArray e4 f4) ∈ A) : FnV Tryd.prog 11 [.int .i64 a, .int .i64 b, .int .i64 c] A (.bool true) := by
  skip
  refine FnX.enter (N := 80) Tryd.func11 rfl rfl rfl fun w => ?_
  refine XC.keep (kp 0 rfl (kp 1 rfl (kp 2 rfl kn))) ?_
  refine XC.reg ?_
  refine XL.q (q_assign rfl) rfl ?_
  refine XL.fin (kp 0 rfl (kp 1 rfl (kp 2 rfl kn))) ?_
  refine XC.reg ?_
  refine XL.call a0 (by kernel_rfl) (newT_spec _) rfl ?_
  rintro v14 MT0 J14 ⟨rfl, bt, bm, rfl, hT0⟩
  obtain ⟨ts0, hts00⟩ : ∃ t : List Tm, t = [] := ⟨_, rfl⟩
  rw [← hts00] at hT0
  have hnT0 := hT0
  obtain ⟨_, _, _, _, _, _, _, _, _, _, _, hts0, hnd0⟩ := hnT0
  have len0 : ts0.length ≤ 0 := by rw [hts00]; exact Nat.le_refl _
  refine XL.q (q_assign rfl) rfl ?_
  refine XL.fin (kp 0 rfl (kp 1 rfl (kp 2 rfl (kp 7 rfl kn)))) ?_
  refine XC.reg ?_
  refine XL.q (q_move rfl) rfl ?_
  refine XL.q (q_move rfl) rfl ?_
  refine XL.q (q_build (place := fun x => #[(0, 1), (1, 1), (2, 1), (3, 1)][x]?) (z := [.int .u8 0, .slice none 0 0, .string ByteArray.empty, .int .i64 0]) (fun _ => by kernel_rfl) (eS rfl (eS rfl e0)) (bdS 0 1 rfl (by rfl) (bdS 3 1 rfl (by rfl) bd0))) rfl ?_
  refine XL.lo rfl (l_call (Mc := MT0) (R := _) (aS rfl (aS rfl a0)) (by kernel_rfl) PickC.perm (putT_spec bt bm ts0 (.slice none 0 0) ⟨1, [], [], a⟩ MT0 _ hT0 (by omega) Rd.nil (at_ok ha) (SubC.sub _ h4)) rfl ?_)
  rintro v18 MT1 J18 ⟨rfl, rfl, hT1⟩
  obtain ⟨l1, e1, n1, gX⟩ := put_fact (ts := ts0) (t := ⟨1, [], [], a⟩) (at_ok ha) hts0
  generalize at_ ts0 ⟨1, [], [], a⟩ = xx at *
  generalize add ts0 ⟨1, [], [], a⟩ = ts1 at *
  have hnT1 := hT1
  obtain ⟨_, _, _, _, _, _, _, _, _, _, _, hts1, hnd1⟩ := hnT1
  have len1 : ts1.length ≤ 1 := by omega
  have lexx : xx ≤ 20 := Nat.le_trans (get_le gX len1) (by decide)
  refine XL.q (q_assign rfl) rfl ?_
  refine XL.fin (kp 1 rfl (kp 2 rfl (kp 7 rfl (kp 8 rfl kn)))) ?_
  refine XC.reg ?_
  refine XL.q (q_move rfl) rfl ?_
  refine XL.q (q_move rfl) rfl ?_
  refine XL.q (q_build (place := fun x => #[(0, 1), (1, 1), (2, 1), (3, 1)][x]?) (z := [.int .u8 0, .slice none 0 0, .string ByteArray.empty, .int .i64 0]) (fun _ => by kernel_rfl) (eS rfl (eS rfl e0)) (bdS 0 1 rfl (by rfl) (bdS 3 1 rfl (by rfl) bd0))) rfl ?_
  refine XL.lo rfl (l_call (Mc := MT1) (R := _) (aS rfl (aS rfl a0)) (by kernel_rfl) PickC.perm (putT_spec bt bm ts1 (.slice none 0 0) ⟨1, [], [], b⟩ MT1 _ hT1 (by omega) Rd.nil (at_ok hb) (SubC.sub _ h4)) rfl ?_)
  rintro v22 MT2 J22 ⟨rfl, rfl, hT2⟩
  obtain ⟨l2, e2, n2, gY⟩ := put_fact (ts := ts1) (t := ⟨1, [], [], b⟩) (at_ok hb) hts1
  generalize at_ ts1 ⟨1, [], [], b⟩ = yy at *
  generalize add ts1 ⟨1, [], [], b⟩ = ts2 at *
  have hnT2 := hT2
  obtain ⟨_, _, _, _, _, _, _, _, _, _, _, hts2, hnd2⟩ := hnT2
  have len2 : ts2.length ≤ 2 := by omega
  replace gX : ts2[xx]? = some ⟨1, [], [], a⟩ := by rw [e2]; exact ext_get gX
  have leyy : yy ≤ 20 := Nat.le_trans (get_le gY len2) (by decide)
  refine XL.q (q_assign rfl) rfl ?_
  refine XL.fin (kp 1 rfl (kp 2 rfl (kp 7 rfl (kp 8 rfl (kp 9 rfl kn))))) ?_
  refine XC.reg ?_
  refine XL.q (q_move rfl) rfl ?_
  refine XL.q (q_move rfl) rfl ?_
  refine XL.q (q_build (place := fun x => #[(0, 1), (1, 1), (2, 1), (3, 1)][x]?) (z := [.int .u8 0, .slice none 0 0, .string ByteArray.empty, .int .i64 0]) (fun _ => by kernel_rfl) (eS rfl (eS rfl e0)) (bdS 0 1 rfl (by rfl) (bdS 3 1 rfl (by rfl) bd0))) rfl ?_
  refine XL.lo rfl (l_call (Mc := MT2) (R := _) (aS rfl (aS rfl a0)) (by kernel_rfl) PickC.perm (putT_spec bt bm ts2 (.slice none 0 0) ⟨1, [], [], c⟩ MT2 _ hT2 (by omega) Rd.nil (at_ok hc) (SubC.sub _ h4)) rfl ?_)
  rintro v26 MT3 J26 ⟨rfl, rfl, hT3⟩
  obtain ⟨l3, e3, n3, gZ⟩ := put_fact (ts := ts2) (t := ⟨1, [], [], c⟩) (at_ok hc) hts2
  generalize at_ ts2 ⟨1, [], [], c⟩ = zz at *
  generalize add ts2 ⟨1, [], [], c⟩ = ts3 at *
  have hnT3 := hT3
  obtain ⟨_, _, _, _, _, _, _, _, _, _, _, hts3, hnd3⟩ := hnT3
  have len3 : ts3.length ≤ 3 := by omega
  replace gX : ts3[xx]? = some ⟨1, [], [], a⟩ := by rw [e3]; exact ext_get gX
  replace gY : ts3[yy]? = some ⟨1, [], [], b⟩ := by rw [e3]; exact ext_get gY
  have lezz : zz ≤ 20 := Nat.le_trans (get_le gZ len3) (by decide)
  refine XL.q (q_assign rfl) rfl ?_
  refine XL.fin (kp 1 rfl (kp 2 rfl (kp 7 rfl (kp 8 rfl (kp 9 rfl (kp 10 rfl kn)))))) ?_
  refine XC.reg ?_
  refine XL.q (q_move rfl) rfl ?_
  refine XL.q (q_move rfl) rfl ?_
  refine XL.lo rfl (l_buildSlice (e := 3) (sz := 1) (z := [.int .i64 0]) (by kernel_rfl) (eS rfl e0) (bdS 0 1 rfl (by rfl) bd0) rfl fun b29 => ?_)
  refine XL.q (q_build (place := fun x => #[(0, 1), (1, 1), (2, 1), (3, 1)][x]?) (z := [.int .u8 0, .slice none 0 0, .string ByteArray.empty, .int .i64 0]) (fun _ => by kernel_rfl) (eS rfl (eS rfl e0)) (bdS 0 1 rfl (by rfl) (bdS 1 1 rfl (by rfl) bd0))) rfl ?_
  refine XL.lo rfl (l_call (Mc := MT3) (R := _) (aS rfl (aS rfl a0)) (by kernel_rfl) PickC.perm (putT_spec bt bm ts3 _ ⟨3, [(xx : Int)], [], 0⟩ MT3 _ hT3 (by omega) (Rd.whole (n := 1) At.mem (by rfl)) (pub_ok lexx) (SubC.sub _ h4)) rfl ?_)
  rintro v31 MT4 J31 ⟨rfl, rfl, hT4⟩
  obtain ⟨l4, e4, n4, gP⟩ := put_fact (ts := ts3) (t := ⟨3, [(xx : Int)], [], 0⟩) (pub_ok lexx) hts3
  generalize at_ ts3 ⟨3, [(xx : Int)], [], 0⟩ = pp at *
  generalize add ts3 ⟨3, [(xx : Int)], [], 0⟩ = ts4 at *
  have hnT4 := hT4
  obtain ⟨_, _, _, _, _, _, _, _, _, _, _, hts4, hnd4⟩ := hnT4
  have len4 : ts4.length ≤ 4 := by omega
  replace gX : ts4[xx]? = some ⟨1, [], [], a⟩ := by rw [e4]; exact ext_get gX
  replace gY : ts4[yy]? = some ⟨1, [], [], b⟩ := by rw [e4]; exact ext_get gY
  replace gZ : ts4[zz]? = some ⟨1, [], [], c⟩ := by rw [e4]; exact ext_get gZ
  have lepp : pp ≤ 20 := Nat.le_trans (get_le gP len4) (by decide)
  refine XL.q (q_assign rfl) rfl ?_
  refine XL.fin (kp 1 rfl (kp 2 rfl (kp 7 rfl (kp 8 rfl (kp 9 rfl (kp 10 rfl (kp 11 rfl kn))))))) ?_
  refine XC.reg ?_
  refine XL.q (q_move rfl) rfl ?_
  refine XL.q (q_move rfl) rfl ?_
  refine XL.lo rfl (l_buildSlice (e := 3) (sz := 1) (z := [.int .i64 0]) (by kernel_rfl) (eS rfl e0) (bdS 0 1 rfl (by rfl) bd0) rfl fun b34 => ?_)
  refine XL.q (q_build (place := fun x => #[(0, 1), (1, 1), (2, 1), (3, 1)][x]?) (z := [.int .u8 0, .slice none 0 0, .string ByteArray.empty, .int .i64 0]) (fun _ => by kernel_rfl) (eS rfl (eS rfl e0)) (bdS 0 1 rfl (by rfl) (bdS 1 1 rfl (by rfl) bd0))) rfl ?_
  refine XL.lo rfl (l_call (Mc := MT4) (R := _) (aS rfl (aS rfl a0)) (by kernel_rfl) PickC.perm (putT_spec bt bm ts4 _ ⟨3, [(yy : Int)], [], 0⟩ MT4 _ hT4 (by omega) (Rd.whole (n := 1) At.mem (by rfl)) (pub_ok leyy) (SubC.sub _ h4)) rfl ?_)
  rintro v36 MT5 J36 ⟨rfl, rfl, hT5⟩
  obtain ⟨l5, e5, n5, gQ⟩ := put_fact (ts := ts4) (t := ⟨3, [(yy : Int)], [], 0⟩) (pub_ok leyy) hts4
  generalize at_ ts4 ⟨3, [(yy : Int)], [], 0⟩ = qq at *
  generalize add ts4 ⟨3, [(yy : Int)], [], 0⟩ = ts5 at *
  have hnT5 := hT5
  obtain ⟨_, _, _, _, _, _, _, _, _, _, _, hts5, hnd5⟩ := hnT5
  have len5 : ts5.length ≤ 5 := by omega
  replace gX : ts5[xx]? = some ⟨1, [], [], a⟩ := by rw [e5]; exact ext_get gX
  replace gY : ts5[yy]? = some ⟨1, [], [], b⟩ := by rw [e5]; exact ext_get gY
  replace gZ : ts5[zz]? = some ⟨1, [], [], c⟩ := by rw [e5]; exact ext_get gZ
  replace gP : ts5[pp]? = some ⟨3, [(xx : Int)], [], 0⟩ := by rw [e5]; exact ext_get gP
  have leqq : qq ≤ 20 := Nat.le_trans (get_le gQ len5) (by decide)
  refine XL.q (q_assign rfl) rfl ?_
  refine XL.fin (kp 1 rfl (kp 2 rfl (kp 7 rfl (kp 8 rfl (kp 9 rfl (kp 10 rfl (kp 11 rfl (kp 12 rfl kn)))))))) ?_
  refine XC.reg ?_
  refine XL.q (q_move rfl) rfl ?_
  refine XL.q (q_move rfl) rfl ?_
  refine XL.lo rfl (l_buildSlice (e := 3) (sz := 1) (z := [.int .i64 0]) (by kernel_rfl) (eS rfl e0) (bdS 0 1 rfl (by rfl) bd0) rfl fun b39 => ?_)
  refine XL.q (q_build (place := fun x => #[(0, 1), (1, 1), (2, 1), (3, 1)][x]?) (z := [.int .u8 0, .slice none 0 0, .string ByteArray.empty, .int .i64 0]) (fun _ => by kernel_rfl) (eS rfl (eS rfl e0)) (bdS 0 1 rfl (by rfl) (bdS 1 1 rfl (by rfl) bd0))) rfl ?_
  refine XL.lo rfl (l_call (Mc := MT5) (R := _) (aS rfl (aS rfl a0)) (by kernel_rfl) PickC.perm (putT_spec bt bm ts5 _ ⟨3, [(zz : Int)], [], 0⟩ MT5 _ hT5 (by omega) (Rd.whole (n := 1) At.mem (by rfl)) (pub_ok lezz) (SubC.sub _ h4)) rfl ?_)
  rintro v41 MT6 J41 ⟨rfl, rfl, hT6⟩
  obtain ⟨l6, e6, n6, gR⟩ := put_fact (ts := ts5) (t := ⟨3, [(zz : Int)], [], 0⟩) (pub_ok lezz) hts5
  generalize at_ ts5 ⟨3, [(zz : Int)], [], 0⟩ = rr at *
  generalize add ts5 ⟨3, [(zz : Int)], [], 0⟩ = ts6 at *
  have hnT6 := hT6
  obtain ⟨_, _, _, _, _, _, _, _, _, _, _, hts6, hnd6⟩ := hnT6
  have len6 : ts6.length ≤ 6 := by omega
  replace gX : ts6[xx]? = some ⟨1, [], [], a⟩ := by rw [e6]; exact ext_get gX
  replace gY : ts6[yy]? = some ⟨1, [], [], b⟩ := by rw [e6]; exact ext_get gY
  replace gZ : ts6[zz]? = some ⟨1, [], [], c⟩ := by rw [e6]; exact ext_get gZ
  replace gP : ts6[pp]? = some ⟨3, [(xx : Int)], [], 0⟩ := by rw [e6]; exact ext_get gP
  replace gQ : ts6[qq]? = some ⟨3, [(yy : Int)], [], 0⟩ := by rw [e6]; exact ext_get gQ
  have lerr : rr ≤ 20 := Nat.le_trans (get_le gR len6) (by decide)
  refine XL.q (q_assign rfl) rfl ?_
  refine XL.fin (kp 1 rfl (kp 2 rfl (kp 7 rfl (kp 8 rfl (kp 9 rfl (kp 11 rfl (kp 12 rfl (kp 13 rfl kn)))))))) ?_
  refine XC.reg ?_
  refine XL.callV a0 (by kernel_rfl) (tawake_spec _ (SubC.sub _ h4)) rfl ?_
  refine XL.q (q_move rfl) rfl ?_
  refine XL.gy rfl rfl (OpQ.opL (q_move rfl) rfl ?_)
  refine XL.gy rfl rfl (OpQ.opL (q_move rfl) rfl ?_)
  refine XL.gy rfl rfl (OpQ.opL (q_move rfl) rfl ?_)
  refine XL.gy rfl rfl (l_call (Mc := MT6) (R := _) (aS rfl (aS rfl (aS rfl a0))) (by kernel_rfl) PickC.perm (agree_spec bt bm ts6 (xx : Int) (qq : Int) MT6 _ hT6 (by omega) (nat64 lexx) (nat64 leqq) (SubC.sub _ h4)) rfl ?_)
  rintro v47 MT7 J47 ⟨rfl, rfl, hT7⟩
  have hag7 : agT ts6 (xx : Int) (qq : Int) = ⟨4, srt (xx : Int) (yy : Int), [], 0⟩ := (agT_yes (t := ⟨3, [(yy : Int)], [], 0⟩) (Int.natCast_nonneg _) (by rw [Int.toNat_natCast]; exact gQ) ⟨rfl, rfl⟩)
  rw [hag7] at hT7
  rw [hag7]
  obtain ⟨l7, e7, n7, gA⟩ := put_fact (ts := ts6) (t := ⟨4, srt (xx : Int) (yy : Int), [], 0⟩) (agr_ok (x := xx) (y := yy) (.inl rfl) lexx leyy (.inl rfl)) hts6
  generalize at_ ts6 ⟨4, srt (xx : Int) (yy : Int), [], 0⟩ = i7 at *
  generalize add ts6 ⟨4, srt (xx : Int) (yy : Int), [], 0⟩ = ts7 at *
  have hnT7 := hT7
  obtain ⟨_, _, _, _, _, _, _, _, _, _, _, hts7, hnd7⟩ := hnT7
  have len7 : ts7.length ≤ 7 := by omega
  replace gX : ts7[xx]? = some ⟨1, [], [], a⟩ := by rw [e7]; exact ext_get gX
  replace gY : ts7[yy]? = some ⟨1, [], [], b⟩ := by rw [e7]; exact ext_get gY
  replace gZ : ts7[zz]? = some ⟨1, [], [], c⟩ := by rw [e7]; exact ext_get gZ
  replace gP : ts7[pp]? = some ⟨3, [(xx : Int)], [], 0⟩ := by rw [e7]; exact ext_get gP
  replace gQ : ts7[qq]? = some ⟨3, [(yy : Int)], [], 0⟩ := by rw [e7]; exact ext_get gQ
  replace gR : ts7[rr]? = some ⟨3, [(zz : Int)], [], 0⟩ := by rw [e7]; exact ext_get gR
  refine XL.gy rfl rfl (OpQ.opL (q_move rfl) rfl ?_)
  refine XL.gy rfl rfl (OpQ.opL (q_move rfl) rfl ?_)
  refine XL.gy rfl rfl (OpQ.opL (q_move rfl) rfl ?_)
  refine XL.gy rfl rfl (l_call (Mc := MT7) (R := _) (aS rfl (aS rfl (aS rfl a0))) (by kernel_rfl) PickC.perm (agree_spec bt bm ts7 (yy : Int) (pp : Int) MT7 _ hT7 (by omega) (nat64 leyy) (nat64 lepp) (SubC.sub _ h4)) rfl ?_)
  rintro v51 MT8 J51 ⟨rfl, rfl, hT8⟩
  have hag8 : agT ts7 (yy : Int) (pp : Int) = ⟨4, srt (xx : Int) (yy : Int), [], 0⟩ := (agT_yes (t := ⟨3, [(xx : Int)], [], 0⟩) (Int.natCast_nonneg _) (by rw [Int.toNat_natCast]; exact gP) ⟨rfl, rfl⟩).trans (congrArg (fun l => (⟨4, l, [], 0⟩ : Tm)) (srt_comm (xx : Int) (yy : Int)))
  rw [hag8] at hT8
  rw [hag8]
  obtain ⟨l8, e8, n8, gB⟩ := put_fact (ts := ts7) (t := ⟨4, srt (xx : Int) (yy : Int), [], 0⟩) (agr_ok (x := xx) (y := yy) (.inl rfl) lexx leyy (.inl rfl)) hts7
  generalize at_ ts7 ⟨4, srt (xx : Int) (yy : Int), [], 0⟩ = i8 at *
  generalize add ts7 ⟨4, srt (xx : Int) (yy : Int), [], 0⟩ = ts8 at *
  have hnT8 := hT8
  obtain ⟨_, _, _, _, _, _, _, _, _, _, _, hts8, hnd8⟩ := hnT8
  have len8 : ts8.length ≤ 8 := by omega
  replace gX : ts8[xx]? = some ⟨1, [], [], a⟩ := by rw [e8]; exact ext_get gX
  replace gY : ts8[yy]? = some ⟨1, [], [], b⟩ := by rw [e8]; exact ext_get gY
  replace gZ : ts8[zz]? = some ⟨1, [], [], c⟩ := by rw [e8]; exact ext_get gZ
  replace gP : ts8[pp]? = some ⟨3, [(xx : Int)], [], 0⟩ := by rw [e8]; exact ext_get gP
  replace gQ : ts8[qq]? = some ⟨3, [(yy : Int)], [], 0⟩ := by rw [e8]; exact ext_get gQ
  replace gR : ts8[rr]? = some ⟨3, [(zz : Int)], [], 0⟩ := by rw [e8]; exact ext_get gR
  replace gA : ts8[i7]? = some ⟨4, srt (xx : Int) (yy : Int), [], 0⟩ := by rw [e8]; exact ext_get gA
  refine XL.gy rfl rfl (OpQ.opL (q_bin (v := .bool true) rfl rfl (by rw [nd_inj hts8 hnd8 gA gB]; simp [arith])) rfl ?_)
  refine XL.q (q_pickT rfl rfl) rfl ?_
  refine XL.q (q_move rfl) rfl ?_
  refine XL.gy rfl rfl (OpQ.opL (q_move rfl) rfl ?_)
  refine XL.gy rfl rfl (OpQ.opL (q_move rfl) rfl ?_)
  refine XL.gy rfl rfl (OpQ.opL (q_move rfl) rfl ?_)
  refine XL.gy rfl rfl (l_call (Mc := MT8) (R := _) (aS rfl (aS rfl (aS rfl a0))) (by kernel_rfl) PickC.perm (agree_spec bt bm ts8 (xx : Int) (qq : Int) MT8 _ hT8 (by omega) (nat64 lexx) (nat64 leqq) (SubC.sub _ h4)) rfl ?_)
  rintro v58 MT9 J58 ⟨rfl, rfl, hT9⟩
  have hag9 : agT ts8 (xx : Int) (qq : Int) = ⟨4, srt (xx : Int) (yy : Int), [], 0⟩ := (agT_yes (t := ⟨3, [(yy : Int)], [], 0⟩) (Int.natCast_nonneg _) (by rw [Int.toNat_natCast]; exact gQ) ⟨rfl, rfl⟩)
  rw [hag9] at hT9
  rw [hag9]
  obtain ⟨l9, e9, n9, gC⟩ := put_fact (ts := ts8) (t := ⟨4, srt (xx : Int) (yy : Int), [], 0⟩) (agr_ok (x := xx) (y := yy) (.inl rfl) lexx leyy (.inl rfl)) hts8
  generalize at_ ts8 ⟨4, srt (xx : Int) (yy : Int), [], 0⟩ = i9 at *
  generalize add ts8 ⟨4, srt (xx : Int) (yy : Int), [], 0⟩ = ts9 at *
  have hnT9 := hT9
  obtain ⟨_, _, _, _, _, _, _, _, _, _, _, hts9, hnd9⟩ := hnT9
  have len9 : ts9.length ≤ 9 := by omega
  replace gX : ts9[xx]? = some ⟨1, [], [], a⟩ := by rw [e9]; exact ext_get gX
  replace gY : ts9[yy]? = some ⟨1, [], [], b⟩ := by rw [e9]; exact ext_get gY
  replace gZ : ts9[zz]? = some ⟨1, [], [], c⟩ := by rw [e9]; exact ext_get gZ
  replace gP : ts9[pp]? = some ⟨3, [(xx : Int)], [], 0⟩ := by rw [e9]; exact ext_get gP
  replace gQ : ts9[qq]? = some ⟨3, [(yy : Int)], [], 0⟩ := by rw [e9]; exact ext_get gQ
  replace gR : ts9[rr]? = some ⟨3, [(zz : Int)], [], 0⟩ := by rw [e9]; exact ext_get gR
  replace gA : ts9[i7]? = some ⟨4, srt (xx : Int) (yy : Int), [], 0⟩ := by rw [e9]; exact ext_get gA
  replace gB : ts9[i8]? = some ⟨4, srt (xx : Int) (yy : Int), [], 0⟩ := by rw [e9]; exact ext_get gB
  refine XL.gy rfl rfl (OpQ.opL (q_move rfl) rfl ?_)
  refine XL.gy rfl rfl (OpQ.opL (q_move rfl) rfl ?_)
  refine XL.gy rfl rfl (OpQ.opL (q_move rfl) rfl ?_)
  refine XL.gy rfl rfl (l_call (Mc := MT9) (R := _) (aS rfl (aS rfl (aS rfl a0))) (by kernel_rfl) PickC.perm (agree_spec bt bm ts9 (xx : Int) (rr : Int) MT9 _ hT9 (by omega) (nat64 lexx) (nat64 lerr) (SubC.sub _ h4)) rfl ?_)
  rintro v62 MT10 J62 ⟨rfl, rfl, hT10⟩
  have hag10 : agT ts9 (xx : Int) (rr : Int) = ⟨4, srt (xx : Int) (zz : Int), [], 0⟩ := (agT_yes (t := ⟨3, [(zz : Int)], [], 0⟩) (Int.natCast_nonneg _) (by rw [Int.toNat_natCast]; exact gR) ⟨rfl, rfl⟩)
  rw [hag10] at hT10
  rw [hag10]
  obtain ⟨l10, e10, n10, gD⟩ := put_fact (ts := ts9) (t := ⟨4, srt (xx : Int) (zz : Int), [], 0⟩) (agr_ok (x := xx) (y := zz) (.inl rfl) lexx lezz (.inl rfl)) hts9
  generalize at_ ts9 ⟨4, srt (xx : Int) (zz : Int), [], 0⟩ = i10 at *
  generalize add ts9 ⟨4, srt (xx : Int) (zz : Int), [], 0⟩ = ts10 at *
  have hnT10 := hT10
  obtain ⟨_, _, _, _, _, _, _, _, _, _, _, hts10, hnd10⟩ := hnT10
  have len10 : ts10.length ≤ 10 := by omega
  replace gX : ts10[xx]? = some ⟨1, [], [], a⟩ := by rw [e10]; exact ext_get gX
  replace gY : ts10[yy]? = some ⟨1, [], [], b⟩ := by rw [e10]; exact ext_get gY
  replace gZ : ts10[zz]? = some ⟨1, [], [], c⟩ := by rw [e10]; exact ext_get gZ
  replace gP : ts10[pp]? = some ⟨3, [(xx : Int)], [], 0⟩ := by rw [e10]; exact ext_get gP
  replace gQ : ts10[qq]? = some ⟨3, [(yy : Int)], [], 0⟩ := by rw [e10]; exact ext_get gQ
  replace gR : ts10[rr]? = some ⟨3, [(zz : Int)], [], 0⟩ := by rw [e10]; exact ext_get gR
  replace gA : ts10[i7]? = some ⟨4, srt (xx : Int) (yy : Int), [], 0⟩ := by rw [e10]; exact ext_get gA
  replace gB : ts10[i8]? = some ⟨4, srt (xx : Int) (yy : Int), [], 0⟩ := by rw [e10]; exact ext_get gB
  replace gC : ts10[i9]? = some ⟨4, srt (xx : Int) (yy : Int), [], 0⟩ := by rw [e10]; exact ext_get gC
  have hbc : i9 = i10 ↔ b = c := by
    constructor
    · intro h
      rw [h] at gC
      have h1 := Option.some.inj (gC.symm.trans gD)
      have h2 : (yy : Int) = (zz : Int) := srt_inj (Tm.mk.inj h1).2.1
      have h3 : yy = zz := by omega
      rw [h3] at gY
      have h4 := Option.some.inj (gY.symm.trans gZ)
      exact (Tm.mk.inj h4).2.2.2
    · intro h
      rw [h] at gY
      have h3 := nd_inj hts10 hnd10 gY gZ
      rw [h3] at gC
      exact nd_inj hts10 hnd10 gC gD
  refine XL.gy rfl rfl (OpQ.opL (q_bin (v := .bool (decide (b = c))) rfl rfl (by simp only [arith]; congr 2; rw [Bool.eq_iff_iff]; simp only [beq_iff_eq, decide_eq_true_eq]; rw [← hbc]; omega)) rfl ?_)
  refine XL.gy rfl rfl (OpQ.opL (q_move rfl) rfl ?_)
  refine XL.gy rfl rfl (OpQ.opL (q_move rfl) rfl ?_)
  refine XL.gy rfl rfl (OpQ.opL (q_bin (v := .bool (decide (b = c))) rfl rfl (by simp only [arith]; congr 2)) rfl ?_)
  refine XL.gy rfl rfl (OpQ.opL (q_boolEq rfl rfl (by kernel_rfl)) rfl ?_)
  rw [show (decide (b = c) == decide (b = c)) = true by simp]
  refine XL.q (q_pickT rfl rfl) rfl ?_
  refine XL.q (q_move rfl) rfl ?_
  refine XL.gy rfl rfl (OpQ.opL (q_move rfl) rfl ?_)
  refine XL.gy rfl rfl (OpQ.opL (q_move rfl) rfl ?_)
  refine XL.gy rfl rfl (OpQ.opL (q_move rfl) rfl ?_)
  refine XL.gy rfl rfl (l_call (Mc := MT10) (R := _) (aS rfl (aS rfl (aS rfl a0))) (by kernel_rfl) PickC.perm (agree_spec bt bm ts10 (xx : Int) (yy : Int) MT10 _ hT10 (by omega) (nat64 lexx) (nat64 leyy) (SubC.sub _ h4)) rfl ?_)
  rintro v73 MT11 J73 ⟨rfl, rfl, hT11⟩
  have hag11 : agT ts10 (xx : Int) (yy : Int) = ⟨4, [(xx : Int), (yy : Int)], [], 1⟩ := (agT_un (Int.natCast_nonneg _) (by rw [Int.toNat_natCast]; exact gY) (fun h => absurd h.1 (show ¬ (1 = 3) by decide)))
  rw [hag11] at hT11
  rw [hag11]
  obtain ⟨l11, e11, n11, gE⟩ := put_fact (ts := ts10) (t := ⟨4, [(xx : Int), (yy : Int)], [], 1⟩) (agr_ok (x := xx) (y := yy) (.inr rfl) lexx leyy (.inr rfl)) hts10
  generalize at_ ts10 ⟨4, [(xx : Int), (yy : Int)], [], 1⟩ = i11 at *
  generalize add ts10 ⟨4, [(xx : Int), (yy : Int)], [], 1⟩ = ts11 at *
  have hnT11 := hT11
  obtain ⟨_, _, _, _, _, _, _, _, _, _, _, hts11, hnd11⟩ := hnT11
  have len11 : ts11.length ≤ 11 := by omega
  replace gX : ts11[xx]? = some ⟨1, [], [], a⟩ := by rw [e11]; exact ext_get gX
  replace gY : ts11[yy]? = some ⟨1, [], [], b⟩ := by rw [e11]; exact ext_get gY
  replace gZ : ts11[zz]? = some ⟨1, [], [], c⟩ := by rw [e11]; exact ext_get gZ
  replace gP : ts11[pp]? = some ⟨3, [(xx : Int)], [], 0⟩ := by rw [e11]; exact ext_get gP
  replace gQ : ts11[qq]? = some ⟨3, [(yy : Int)], [], 0⟩ := by rw [e11]; exact ext_get gQ
  replace gR : ts11[rr]? = some ⟨3, [(zz : Int)], [], 0⟩ := by rw [e11]; exact ext_get gR
  replace gA : ts11[i7]? = some ⟨4, srt (xx : Int) (yy : Int), [], 0⟩ := by rw [e11]; exact ext_get gA
  replace gB : ts11[i8]? = some ⟨4, srt (xx : Int) (yy : Int), [], 0⟩ := by rw [e11]; exact ext_get gB
  replace gC : ts11[i9]? = some ⟨4, srt (xx : Int) (yy : Int), [], 0⟩ := by rw [e11]; exact ext_get gC
  replace gD : ts11[i10]? = some ⟨4, srt (xx : Int) (zz : Int), [], 0⟩ := by rw [e11]; exact ext_get gD
  refine XL.gy rfl rfl (OpQ.opL (q_move rfl) rfl ?_)
  refine XL.gy rfl rfl (OpQ.opL (q_move rfl) rfl ?_)
  refine XL.gy rfl rfl (OpQ.opL (q_move rfl) rfl ?_)
  refine XL.gy rfl rfl (l_call (Mc := MT11) (R := _) (aS rfl (aS rfl (aS rfl a0))) (by kernel_rfl) PickC.perm (agree_spec bt bm ts11 (xx : Int) (qq : Int) MT11 _ hT11 (by omega) (nat64 lexx) (nat64 leqq) (SubC.sub _ h4)) rfl ?_)
  rintro v77 MT12 J77 ⟨rfl, rfl, hT12⟩
  have hag12 : agT ts11 (xx : Int) (qq : Int) = ⟨4, srt (xx : Int) (yy : Int), [], 0⟩ := (agT_yes (t := ⟨3, [(yy : Int)], [], 0⟩) (Int.natCast_nonneg _) (by rw [Int.toNat_natCast]; exact gQ) ⟨rfl, rfl⟩)
  rw [hag12] at hT12
  rw [hag12]
  obtain ⟨l12, e12, n12, gF⟩ := put_fact (ts := ts11) (t := ⟨4, srt (xx : Int) (yy : Int), [], 0⟩) (agr_ok (x := xx) (y := yy) (.inl rfl) lexx leyy (.inl rfl)) hts11
  generalize at_ ts11 ⟨4, srt (xx : Int) (yy : Int), [], 0⟩ = i12 at *
  generalize add ts11 ⟨4, srt (xx : Int) (yy : Int), [], 0⟩ = ts12 at *
  have hnT12 := hT12
  obtain ⟨_, _, _, _, _, _, _, _, _, _, _, hts12, hnd12⟩ := hnT12
  have len12 : ts12.length ≤ 12 := by omega
  replace gX : ts12[xx]? = some ⟨1, [], [], a⟩ := by rw [e12]; exact ext_get gX
  replace gY : ts12[yy]? = some ⟨1, [], [], b⟩ := by rw [e12]; exact ext_get gY
  replace gZ : ts12[zz]? = some ⟨1, [], [], c⟩ := by rw [e12]; exact ext_get gZ
  replace gP : ts12[pp]? = some ⟨3, [(xx : Int)], [], 0⟩ := by rw [e12]; exact ext_get gP
  replace gQ : ts12[qq]? = some ⟨3, [(yy : Int)], [], 0⟩ := by rw [e12]; exact ext_get gQ
  replace gR : ts12[rr]? = some ⟨3, [(zz : Int)], [], 0⟩ := by rw [e12]; exact ext_get gR
  replace gA : ts12[i7]? = some ⟨4, srt (xx : Int) (yy : Int), [], 0⟩ := by rw [e12]; exact ext_get gA
  replace gB : ts12[i8]? = some ⟨4, srt (xx : Int) (yy : Int), [], 0⟩ := by rw [e12]; exact ext_get gB
  replace gC : ts12[i9]? = some ⟨4, srt (xx : Int) (yy : Int), [], 0⟩ := by rw [e12]; exact ext_get gC
  replace gD : ts12[i10]? = some ⟨4, srt (xx : Int) (zz : Int), [], 0⟩ := by rw [e12]; exact ext_get gD
  replace gE : ts12[i11]? = some ⟨4, [(xx : Int), (yy : Int)], [], 1⟩ := by rw [e12]; exact ext_get gE
  have h1112 : i11 ≠ i12 := nd_ne gE gF (fun h => absurd (Tm.mk.inj h).2.2.2 (by decide))
  refine XL.gy rfl rfl (OpQ.opL (q_bin (v := .bool true) rfl rfl (by simp only [arith]; congr 2; simp only [bne_iff_ne]; omega)) rfl ?_)
  refine XL.q (q_pickT rfl rfl) rfl ?_
  refine XL.q (q_assign rfl) rfl ?_
  refine XL.fin (kp 6 rfl kn) ?_
  refine XC.ret ?_
  exact ⟨_, [], [], res1 rfl rfl, List.nil_sublist _, by simp, rfl, rfl, rfl⟩
