/- The card of the law ClosureReads: it returns true for every input; each argument reads behind the call as it read before; the listed package variables are tied to the program's text. No further condition. -/
import Derived.Test.YthmnlkpikgglbaaGreatDoorB14
import Derived.Lib.LaidTab
import Derived.Stop.LaidErr
import Derived.MakeChecks
import Derived.Test.YthmnlkpikgglbaaGreatDoorCards
import Derived.Test.YthmnlkpikgglbaaGreatDoorTie
import Derived.Deep.DeepHandedRow
import Derived.Deep.DeepWitnessRowRef
import Derived.Lay
import Derived.LaidMore
set_option linter.unusedVariables false
set_option linter.unusedSimpArgs false
set_option linter.unusedVariables false
set_option linter.unusedSimpArgs false
namespace Go.Proofs.YthmnlkpikgglbaaGreatDoor
open Go.Px
def rdW : List Nat := [119, 105, 116, 104]
def ts2 (x : List Nat) : List Tm := [atom 1, selT 0 rdW x]
theorem s1_bw : Bw (freshS s00).ts [bts ((0 : Nat) : Int)] := by
  have h0 : Bw s00.ts [] := ⟨Wf.nil, Tok.nil, fun w hw => by cases hw⟩
  exact put_bw h0 (atom_ok' (n := 1) (by decide)) (wt_atom _ _)
theorem s1_ts : (freshS s00).ts = [atom 1] := rfl
theorem s1_k : freshK s00 = bts ((0 : Nat) : Int) := by decide +kernel
theorem sealed2 {x : List Nat} (hx : ∀ y ∈ x, y < 256) (hl : x.length ≤ 16777216) : (one1 (freshS s00) (freshK s00) fun z => selT z rdW x).ts = ts2 x ∧ oneK (freshS s00) (freshK s00) (fun z => selT z rdW x) = bts ((1 : Nat) : Int) := by
  have hg : Good (freshS s00).ts (freshK s00) := ⟨0, by rw [s1_ts]; decide, s1_k⟩
  obtain ⟨h1, -⟩ := good_pl hg (by rw [s1_ts]; decide)
  have h2 : rdI (freshS s00).ts (freshK s00) = 0 := by rw [s1_k]; exact (good_rd (i := 0) (by rw [s1_ts]; decide) (by rw [s1_ts]; decide)).2
  have hp : pos [atom 1] (selT 0 rdW x) = none := (pos_none (sel_ok (by unfold i64; omega) (by decide) hx (by decide) hl) (by rw [← s1_ts]; exact s1_bw.tok.tmo)).2 (by
    intro h
    rw [List.mem_singleton] at h
    have h6 : (6 : Nat) = 1 := congrArg Tm.kind h
    exact absurd h6 (by decide))
  unfold one1 oneK
  dsimp only
  rw [h1, h2, s1_ts]
  obtain ⟨h3, h4⟩ := add_none hp
  exact ⟨h3, by show bts ((at_ _ (selT 0 rdW x) : Nat) : Int) = _; rw [h4]; rfl⟩
theorem ts2_sld {x : List Nat} (hl : x.length ≤ 16777216) : Sld (ts2 x) (fun _ => x) := by
  intro i t ht hk
  match i, ht with
  | 0, ht => cases ht; exact absurd hk (by decide)
  | 1, ht => cases ht; exact ⟨Nat.one_pos, hl, rdW, by simp [selT, marks]⟩
  | i + 2, ht => simp [ts2] at ht
theorem g0 (x : List Nat) : Good (ts2 x) (bts ((0 : Nat) : Int)) := ⟨0, show 0 < 2 by decide, rfl⟩
theorem g1 (x : List Nat) : Good (ts2 x) (bts ((1 : Nat) : Int)) := ⟨1, show 1 < 2 by decide, rfl⟩
theorem ri0 (x : List Nat) : rdI (ts2 x) (bts ((0 : Nat) : Int)) = 0 := (good_rd (ts := ts2 x) (i := 0) (show 0 < 2 by decide) (show 2 ≤ 1048576 by decide)).2
theorem ri1 (x : List Nat) : rdI (ts2 x) (bts ((1 : Nat) : Int)) = 1 := (good_rd (ts := ts2 x) (i := 1) (show 1 < 2 by decide) (show 2 ≤ 1048576 by decide)).2
theorem lr1 (x : List Nat) : lrn (ts2 x, []) (bts ((1 : Nat) : Int)) = (ts2 x, [false, true]) := by
  rw [lrn_good (g1 x) (show 2 ≤ 1048576 by decide), ri1]; rfl
theorem lr0 (x : List Nat) : lrn (ts2 x, []) (bts ((0 : Nat) : Int)) = (ts2 x, [true, true]) := by
  rw [lrn_good (g0 x) (show 2 ≤ 1048576 by decide), ri0]; rfl
theorem lr10 (x : List Nat) : lrn (ts2 x, [false, true]) (bts ((0 : Nat) : Int)) = (ts2 x, [true, true]) := by
  rw [lrn_good (g0 x) (show 2 ≤ 1048576 by decide), ri0]; rfl
theorem tx0 (x : List Nat) : textsN (ts2 x) [] (fun _ => x) 0 = [] := rfl
theorem tx1 (x : List Nat) : textsN (ts2 x) [false, true] (fun _ => x) 2 = [] := rfl
theorem tx2 (x : List Nat) : textsN (ts2 x) [true, true] (fun _ => x) 2 = [x] := rfl
theorem hs2 (x : List Nat) (h : List Bool) : hasF (ts2 x) h (bts ((1 : Nat) : Int)) = kat h 1 := by rw [has_good (g1 x) (show 2 ≤ 1048576 by decide), ri1]
theorem sy {t q : List Nat} (h : t.length ≤ 256) : saysF (encI 1 2 t) q = decide (t = q) := by
  obtain ⟨_, _, h3, h4⟩ := dec_enc (to := 1) (n := 2) (w := t) (by decide) (by decide) h
  unfold saysF
  rw [show encI 1 2 t = encI ((1 : Nat) : Int) 2 t from rfl, h3, h4]; simp
theorem encI_lt {to : Int} {n : Nat} {w : List Nat} (h : ∀ x ∈ w, x < 256) : ∀ x ∈ encI to n w, x < 256 := lt_app (lt_app (beN_lt _ _) (beN_lt _ _)) (lt_app (beN_lt _ _) h)

set_option maxRecDepth 100000 in
theorem closureReads_spec (v0 v1 : Value) (text other : List Nat) (it key : Bool) (A : Mem) (hr0 : Rd A 1 v0 text.length (nums .u8 text)) (hl0 : ∀ x ∈ text, x < 256) (hr1 : Rd A 1 v1 other.length (nums .u8 other)) (hl1 : ∀ x ∈ other, x < 256) (hm0 : text.length ≤ 9223372036854775807) (hm1 : other.length ≤ 9223372036854775807) (hG : Glb A) : FnV Tryz.prog 6 [v0, v1, .bool it, .bool key] A (.bool true) := by
  have hGG := hG
  obtain ⟨⟨ge0, gf0, h0⟩, ⟨ge1, gf1, h1⟩, ⟨ge4, gf4, h4⟩⟩ := hGG
  haveI := hr0.cel
  haveI := hr1.cel
  refine FnX.enter (N := 88) Tryz.func6 rfl rfl rfl fun w => ?_
  refine XC.keep (kp 0 rfl (kp 1 rfl (kp 2 rfl (kp 3 rfl kn)))) ?_
  refine XC.reg ?_
  refine XL.q (q_assign rfl) rfl ?_
  refine XL.fin (kp 0 rfl (kp 1 rfl (kp 2 rfl (kp 3 rfl kn)))) ?_
  refine XC.seq ?_
  refine XC.reg ?_
  refine XL.callV a0 (by kernel_rfl) (awake22_spec _ hG.up) rfl ?_
  refine XL.q (q_not rfl) rfl ?_
  refine XL.q (q_move rfl) rfl ?_
  refine XL.gy rfl rfl (OpQ.opL (q_move rfl) rfl ?_)
  refine XL.gy rfl rfl (OpQ.opL (q_lenV2 (sz := 1) rfl (by kernel_rfl) hr0) rfl ?_)
  refine XL.gy rfl rfl (OpQ.opL (q_bin rfl rfl rfl) rfl ?_)
  refine XL.q (q_pickF rfl rfl) rfl ?_
  refine XL.q (q_move rfl) rfl ?_
  refine XL.split (t := 21) rfl (fun hb => ?_) (fun hb => ?_)
  ·
    refine XL.gn rfl rfl rfl rfl ?_
    refine XL.gn rfl rfl rfl rfl ?_
    refine XL.gn rfl rfl rfl rfl ?_
    refine XL.q (q_pickT rfl rfl) rfl ?_
    refine XL.fin (kp 0 rfl (kp 1 rfl (kp 2 rfl (kp 3 rfl (kp 25 rfl kn))))) ?_
    refine XC.condT rfl ?_
    refine XC.reg ?_
    refine XL.callV a0 (by kernel_rfl) (awake22_spec _ hG.up) rfl ?_
    refine XL.q (q_assign rfl) rfl ?_
    refine XL.fin (kp 8 rfl kn) ?_
    refine XC.ret ?_
    refine tr ?_
    exact ⟨_, [], [], res1 rfl rfl, List.nil_sublist _, by simp, rfl, rfl, rfl⟩
  ·
    have htl : text.length ≤ 256 := by simp at hb; omega
    refine XL.gy rfl rfl (OpQ.opL (q_move rfl) rfl ?_)
    refine XL.gy rfl rfl (OpQ.opL (q_lenV2 (sz := 1) rfl (by kernel_rfl) hr1) rfl ?_)
    refine XL.gy rfl rfl (OpQ.opL (q_bin rfl rfl rfl) rfl ?_)
    refine XL.q (q_pickF rfl rfl) rfl ?_
    refine XL.fin (kp 0 rfl (kp 1 rfl (kp 2 rfl (kp 3 rfl (kp 25 rfl kn))))) ?_
    refine XC.cond rfl (fun hc => ?_) (fun hc => ?_)
    ·
      refine XC.reg ?_
      refine XL.callV a0 (by kernel_rfl) (awake22_spec _ hG.up) rfl ?_
      refine XL.q (q_assign rfl) rfl ?_
      refine XL.fin (kp 8 rfl kn) ?_
      refine XC.ret ?_
      refine tr ?_
      exact ⟨_, [], [], res1 rfl rfl, List.nil_sublist _, by simp, rfl, rfl, rfl⟩
    ·
      have hol : other.length ≤ 256 := by simp at hc; omega
      have hy0 : By A v0 text := ⟨hr0, hl0, by omega⟩
      have hy1 : By A v1 other := ⟨hr1, hl1, by omega⟩
      refine XC.skip ?_
      refine nx (kp 0 rfl (kp 1 rfl (kp 2 rfl (kp 3 rfl kn)))) ?_
      refine XC.reg ?_
      refine XL.call a0 (by kernel_rfl) (open22_spec _) rfl ?_
      rintro v27 M27 J27 ⟨pb, rfl, hP27⟩
      refine XL.q (q_assign rfl) rfl ?_
      refine XL.fin (kp 0 rfl (kp 1 rfl (kp 2 rfl (kp 3 rfl (kp 9 rfl kn))))) ?_
      refine XC.reg ?_
      refine XL.q (q_move rfl) rfl ?_
      refine XL.lo rfl (l_call (Mc := M27) (R := _) (aS rfl a0) (by kernel_rfl) PickC.perm (fresh_spec pb s00 M27 _ hP27 (by decide) (by decide) hG.up) rfl ?_)
      rintro v29 M29 J29 ⟨hP29, hb29⟩
      haveI := hb29.cel
      refine XL.q (q_assign rfl) rfl ?_
      refine XL.fin (kp 0 rfl (kp 1 rfl (kp 2 rfl (kp 3 rfl (kp 9 rfl (kp 10 rfl kn)))))) ?_
      refine XC.reg ?_
      refine XL.q (q_move rfl) rfl ?_
      refine XL.q (q_move rfl) rfl ?_
      refine XL.lo rfl (l_buildSlice (e := 5) (sz := 1) (z := [.int .u8 0, .int .u8 0, .int .u8 0, .int .u8 0]) (by kernel_rfl) (eS rfl (eS rfl (eS rfl (eS rfl e0)))) (bdS 0 1 rfl (by rfl) (bdS 1 1 rfl (by rfl) (bdS 2 1 rfl (by rfl) (bdS 3 1 rfl (by rfl) bd0)))) rfl fun b32 => ?_)
      refine XL.lo rfl (l_mark rfl (by kernel_rfl) UpC.upd rfl ?_)
      refine XL.q (q_move rfl) rfl ?_
      refine XL.q (q_build (place := fun x => #[(0, 1), (1, 1), (2, 1)][x]?) (z := [.int .i64 0, .int .u32 0, .slice none 0 0]) (fun _ => by kernel_rfl) (eS rfl (eS rfl (eS rfl e0))) (bdS 0 1 rfl (by rfl) (bdS 1 1 rfl (by rfl) (bdS 2 1 rfl (by rfl) bd0)))) rfl ?_
      refine XL.call (aS rfl a0) (by kernel_rfl) (einner_spec 1 2 v0 text _ (by decide) (hy0.mono SubC.sub) (by omega)) rfl ?_
      rintro v36 M36 J36 ⟨rfl, hb36⟩
      haveI := hb36.cel
      obtain ⟨x, hx⟩ : ∃ x, x = encI 1 2 text := ⟨_, rfl⟩
      have hxl : x.length ≤ 16777216 := by rw [hx, encI_len]; omega
      have hxb : ∀ y ∈ x, y < 256 := hx ▸ encI_lt hy0.lt
      rw [← hx] at hb36
      refine XL.lo rfl (l_call (Mc := M29) (R := _) (aS rfl (aS rfl (aS rfl (aS rfl a0)))) (by kernel_rfl) PickC.perm (seal_p pb (freshS s00) rfl v29 _ v36 (freshK s00) rdW x M29 _ hP29 (by rw [s1_ts]; decide) (hb29.mono SubC.sub) ⟨Rd.whole (n := 4) At.mem (by rfl), by decide, by decide⟩ (hb36.mono SubC.sub) hG.up) rfl ?_)
      rintro v37 M37 J37 ⟨hP37, hb37⟩
      haveI := hb37.cel
      obtain ⟨hse1, hse2⟩ := sealed2 hxb hxl
      rw [hse2] at hb37
      rw [s1_k] at hb29
      obtain ⟨sv, bt, bm, B, MT, rfl, hby, hT⟩ := hP37.ex
      rw [hse1] at hT
      haveI := hby.cel
      dsimp only [one1]
      rw [show md (freshS s00).real = 1 from rfl]
      refine XL.q (q_assign rfl) rfl ?_
      refine XL.fin (kp 0 rfl (kp 1 rfl (kp 2 rfl (kp 3 rfl (kp 9 rfl (kp 10 rfl (kp 11 rfl kn))))))) ?_
      refine XC.reg ?_
      refine XL.q (q_move rfl) rfl ?_
      refine XL.callV (aS rfl a0) (by kernel_rfl) (ptable_spec pb bt _ sv _ At.mem) rfl ?_
      refine XL.call (aS rfl a0) (by kernel_rfl) (knew_spec bt _) rfl ?_
      rintro v40 M40 J40 ⟨kb, rfl, hK40⟩
      refine XL.q (q_assign rfl) rfl ?_
      refine XL.fin (kp 0 rfl (kp 1 rfl (kp 2 rfl (kp 3 rfl (kp 10 rfl (kp 11 rfl (kp 12 rfl kn))))))) ?_
      refine XC.seq ?_
      cases it <;> cases key
      ·
        refine XC.reg ?_
        refine XL.q (q_move rfl) rfl ?_
        refine XL.fin (kp 0 rfl (kp 1 rfl (kp 2 rfl (kp 3 rfl (kp 10 rfl (kp 11 rfl (kp 12 rfl (kp 41 rfl kn)))))))) ?_
        refine XC.condF rfl ?_
        refine XC.skip ?_
        refine nx (kp 0 rfl (kp 1 rfl (kp 2 rfl (kp 3 rfl (kp 10 rfl (kp 11 rfl (kp 12 rfl kn))))))) ?_
        refine XC.seq ?_
        refine XC.reg ?_
        refine XL.q (q_move rfl) rfl ?_
        refine XL.fin (kp 0 rfl (kp 1 rfl (kp 2 rfl (kp 3 rfl (kp 10 rfl (kp 11 rfl (kp 12 rfl (kp 46 rfl kn)))))))) ?_
        refine XC.condF rfl ?_
        refine XC.skip ?_
        refine nx (kp 0 rfl (kp 1 rfl (kp 2 rfl (kp 3 rfl (kp 11 rfl (kp 12 rfl kn)))))) ?_
        refine XC.reg ?_
        refine XL.q (q_assign rfl) rfl ?_
        refine XL.fin (kp 0 rfl (kp 1 rfl (kp 2 rfl (kp 3 rfl (kp 11 rfl (kp 12 rfl (kp 13 rfl kn))))))) ?_
        refine XC.seq ?_
        refine XC.reg ?_
        refine XL.q (q_move rfl) rfl ?_
        refine XL.fin (kp 0 rfl (kp 1 rfl (kp 2 rfl (kp 3 rfl (kp 11 rfl (kp 12 rfl (kp 13 rfl (kp 51 rfl kn)))))))) ?_
        refine XC.condF rfl ?_
        refine XC.skip ?_
        refine nx (kp 0 rfl (kp 1 rfl (kp 2 rfl (kp 3 rfl (kp 11 rfl (kp 12 rfl (kp 13 rfl kn))))))) ?_
        refine XC.reg ?_
        refine XL.q (q_move rfl) rfl ?_
        refine XL.q (q_move rfl) rfl ?_
        refine XL.callV (aS rfl (aS rfl a0)) (by kernel_rfl) (says_spec kb bt bm (ts2 x) [] (fun _ => x) v0 text _ (hK40.rd SubC.sub) (hT.tbr SubC.sub) (ts2_sld hxl) (show 0 ≤ 2 by decide) (show 2 ≤ 1048576 by decide) (hy0.mono SubC.sub) (SubC.sub _ h4)) rfl ?_
        rw [show ([] : List Bool).length = 0 from rfl, tx0]
        rw [show (([] : List (List Nat)).any fun w => saysF w text) = false from rfl]
        refine XL.q (q_move rfl) rfl ?_
        refine XL.q (q_boolEqR true rfl rfl (by kernel_rfl) rfl) rfl ?_
        refine XL.q (q_move rfl) rfl ?_
        refine XL.gy rfl rfl (OpQ.opL (q_move rfl) rfl ?_)
        refine XL.gy rfl rfl (OpQ.opL (q_move rfl) rfl ?_)
        refine XL.callVg rfl rfl (aS rfl (aS rfl a0)) (by kernel_rfl) (says_spec kb bt bm (ts2 x) [] (fun _ => x) v1 other _ (hK40.rd SubC.sub) (hT.tbr SubC.sub) (ts2_sld hxl) (show 0 ≤ 2 by decide) (show 2 ≤ 1048576 by decide) (hy1.mono SubC.sub) (SubC.sub _ h4)) rfl ?_
        rw [show ([] : List Bool).length = 0 from rfl, tx0]
        rw [show (([] : List (List Nat)).any fun w => saysF w other) = false from rfl]
        refine XL.gy rfl rfl (OpQ.opL (q_move rfl) rfl ?_)
        refine XL.gy rfl rfl (OpQ.opL (q_move rfl) rfl ?_)
        refine XL.gn rfl rfl rfl rfl ?_
        refine XL.gn rfl rfl rfl rfl ?_
        refine XL.gn rfl rfl rfl rfl ?_
        refine XL.gn rfl rfl rfl rfl ?_
        refine XL.gn rfl rfl rfl rfl ?_
        refine XL.gy rfl rfl (OpQ.opL (q_pickF rfl rfl) rfl ?_)
        refine XL.gy rfl rfl (OpQ.opL (q_boolEqR true rfl rfl (by kernel_rfl) rfl) rfl ?_)
        refine XL.q (q_pickT rfl rfl) rfl ?_
        refine XL.q (q_move rfl) rfl ?_
        refine XL.gy rfl rfl (OpQ.opL (q_move rfl) rfl ?_)
        refine XL.callg rfl rfl (aS rfl a0) (by kernel_rfl) (texts_spec kb bt bm (ts2 x) [] (fun _ => x) _ (hK40.rd SubC.sub) (hT.tbr SubC.sub) (ts2_sld hxl) (show 0 ≤ 2 by decide) (show 2 ≤ 1048576 by decide) (SubC.sub _ h4)) rfl ?_
        rintro v73 M73 J73 ⟨rfl, hl73⟩
        rw [show ([] : List Bool).length = 0 from rfl, tx0] at hl73
        obtain ⟨vs73, hr73, hls73⟩ := hl73.ex
        haveI := hr73.cel
        refine XL.gy rfl rfl (OpQ.opL (q_lenV2 (n := 0) (sz := 1) rfl (by kernel_rfl) hr73) rfl ?_)
        refine XL.gy rfl rfl (OpQ.opL (q_move rfl) rfl ?_)
        refine XL.gy rfl rfl (OpQ.opL (q_cmp true rfl rfl (eqT rfl)) rfl ?_)
        refine XL.q (q_pickT rfl rfl) rfl ?_
        refine XL.q (q_move rfl) rfl ?_
        refine XL.gy rfl rfl (OpQ.opL (q_move rfl) rfl ?_)
        refine XL.gy rfl rfl (OpQ.opL (q_move rfl) rfl ?_)
        refine XL.callVg rfl rfl (aS rfl (aS rfl a0)) (by kernel_rfl) (has_spec kb bt bm (ts2 x) [] v37 (bts ((1 : Nat) : Int)) _ (hK40.rd SubC.sub) (hT.tbr SubC.sub) (show 2 ≤ 1048576 by decide) (hb37.mono SubC.sub)) rfl ?_
        rw [hs2, show kat [] 1 = false from rfl]
        refine XL.gy rfl rfl (OpQ.opL (q_move rfl) rfl ?_)
        refine XL.gy rfl rfl (OpQ.opL (q_move rfl) rfl ?_)
        refine XL.gy rfl rfl (OpQ.opL (q_move rfl) rfl ?_)
        refine XL.gy rfl rfl (OpQ.opL (q_pickF rfl rfl) rfl ?_)
        refine XL.gy rfl rfl (OpQ.opL (q_boolEqR true rfl rfl (by kernel_rfl) rfl) rfl ?_)
        refine XL.q (q_pickT rfl rfl) rfl ?_
        refine XL.q (q_assign rfl) rfl ?_
        refine XL.fin (kp 8 rfl kn) ?_
        refine XC.ret ?_
        exact ⟨_, [], [], res1 rfl rfl, List.nil_sublist _, by simp, rfl, rfl, rfl⟩
      ·
        refine XC.reg ?_
        refine XL.q (q_move rfl) rfl ?_
        refine XL.fin (kp 0 rfl (kp 1 rfl (kp 2 rfl (kp 3 rfl (kp 10 rfl (kp 11 rfl (kp 12 rfl (kp 41 rfl kn)))))))) ?_
        refine XC.condF rfl ?_
        refine XC.skip ?_
        refine nx (kp 0 rfl (kp 1 rfl (kp 2 rfl (kp 3 rfl (kp 10 rfl (kp 11 rfl (kp 12 rfl kn))))))) ?_
        refine XC.seq ?_
        refine XC.reg ?_
        refine XL.q (q_move rfl) rfl ?_
        refine XL.fin (kp 0 rfl (kp 1 rfl (kp 2 rfl (kp 3 rfl (kp 10 rfl (kp 11 rfl (kp 12 rfl (kp 46 rfl kn)))))))) ?_
        refine XC.condT rfl ?_
        refine XC.reg1 ?_
        refine XL.q (q_move rfl) rfl ?_
        refine XL.q (q_move rfl) rfl ?_
        refine XL.lo rfl (l_buildSlice (e := 23) (sz := 1) (z := [.slice none 0 0]) (by kernel_rfl) (eS rfl e0) (bdS 0 1 rfl (by rfl) bd0) rfl fun b49 => ?_)
        refine XL.lo rfl (l_call (Mc := M40 ++ MT) (R := _) (aS rfl (aS rfl a0)) (by kernel_rfl) PickC.perm (learn1_spec kb bt bm (ts2 x, []) _ (bts ((0 : Nat) : Int)) M40 MT _ hK40 hT ⟨_, Rd.whole (n := 1) At.mem (by rfl), Lst.cons (hb29.mono SubC.sub) Lst.nil⟩ (show 0 ≤ 2 by decide) (show 3 ≤ 1048576 by decide) (SubC.sub _ h4)) rfl ?_)
        rintro v50 M50 J50 ⟨MK50, MT50, rfl, hK50, hT50⟩
        rw [lr0 x] at hK50 hT50
        refine XL.fin (kp 0 rfl (kp 1 rfl (kp 2 rfl (kp 3 rfl (kp 11 rfl (kp 12 rfl kn)))))) ?_
        refine XC.reg ?_
        refine XL.q (q_assign rfl) rfl ?_
        refine XL.fin (kp 0 rfl (kp 1 rfl (kp 2 rfl (kp 3 rfl (kp 11 rfl (kp 12 rfl (kp 13 rfl kn))))))) ?_
        refine XC.seq ?_
        refine XC.reg ?_
        refine XL.q (q_move rfl) rfl ?_
        refine XL.fin (kp 0 rfl (kp 1 rfl (kp 2 rfl (kp 3 rfl (kp 11 rfl (kp 12 rfl (kp 13 rfl (kp 51 rfl kn)))))))) ?_
        refine XC.condT rfl ?_
        refine XC.reg1 ?_
        refine XL.q (q_assign rfl) rfl ?_
        refine XL.fin (kp 0 rfl (kp 1 rfl (kp 2 rfl (kp 3 rfl (kp 11 rfl (kp 12 rfl (kp 13 rfl kn))))))) ?_
        refine XC.reg ?_
        refine XL.q (q_move rfl) rfl ?_
        refine XL.q (q_move rfl) rfl ?_
        refine XL.callV (aS rfl (aS rfl a0)) (by kernel_rfl) (says_spec kb bt bm (ts2 x) [true, true] (fun _ => x) v0 text _ (hK50.rd SubC.sub) (hT50.tbr SubC.sub) (ts2_sld hxl) (show 2 ≤ 2 by decide) (show 2 ≤ 1048576 by decide) (hy0.mono SubC.sub) (SubC.sub _ h4)) rfl ?_
        rw [show ([true, true] : List Bool).length = 2 from rfl, tx2]
        rw [show ([x].any fun w => saysF w text) = decide (text = text) by simp [hx, sy htl]]
        rw [decide_eq_true rfl]
        refine XL.q (q_move rfl) rfl ?_
        refine XL.q (q_boolEqR true rfl rfl (by kernel_rfl) rfl) rfl ?_
        refine XL.q (q_move rfl) rfl ?_
        refine XL.gy rfl rfl (OpQ.opL (q_move rfl) rfl ?_)
        refine XL.gy rfl rfl (OpQ.opL (q_move rfl) rfl ?_)
        refine XL.callVg rfl rfl (aS rfl (aS rfl a0)) (by kernel_rfl) (says_spec kb bt bm (ts2 x) [true, true] (fun _ => x) v1 other _ (hK50.rd SubC.sub) (hT50.tbr SubC.sub) (ts2_sld hxl) (show 2 ≤ 2 by decide) (show 2 ≤ 1048576 by decide) (hy1.mono SubC.sub) (SubC.sub _ h4)) rfl ?_
        rw [show ([true, true] : List Bool).length = 2 from rfl, tx2]
        rw [show ([x].any fun w => saysF w other) = decide (text = other) by simp [hx, sy htl]]
        refine XL.gy rfl rfl (OpQ.opL (q_move rfl) rfl ?_)
        refine XL.gy rfl rfl (OpQ.opL (q_move rfl) rfl ?_)
        refine XL.gy rfl rfl (OpQ.opL (q_move rfl) rfl ?_)
        refine XL.gy rfl rfl (OpQ.opL (q_toStr2 rfl (by kernel_rfl) (hy1.rd.mono SubC.sub)) rfl ?_)
        refine XL.gy rfl rfl (OpQ.opL (q_move rfl) rfl ?_)
        refine XL.gy rfl rfl (OpQ.opL (q_toStr2 rfl (by kernel_rfl) (hy0.rd.mono SubC.sub)) rfl ?_)
        refine XL.gy rfl rfl (OpQ.opL (q_sEq (ws := other) (ws' := text) rfl rfl rfl rfl hy1.lt hy0.lt) rfl ?_)
        refine XL.gy rfl rfl (OpQ.opL (q_pickT rfl rfl) rfl ?_)
        refine XL.gy rfl rfl (OpQ.opL (q_boolEqR true rfl rfl (by kernel_rfl) (by rw [show (decide (other = text)) = decide (text = other) from decide_eq_decide.2 ⟨Eq.symm, Eq.symm⟩]; simp)) rfl ?_)
        refine XL.q (q_pickT rfl rfl) rfl ?_
        refine XL.q (q_move rfl) rfl ?_
        refine XL.gy rfl rfl (OpQ.opL (q_move rfl) rfl ?_)
        refine XL.callg rfl rfl (aS rfl a0) (by kernel_rfl) (texts_spec kb bt bm (ts2 x) [true, true] (fun _ => x) _ (hK50.rd SubC.sub) (hT50.tbr SubC.sub) (ts2_sld hxl) (show 2 ≤ 2 by decide) (show 2 ≤ 1048576 by decide) (SubC.sub _ h4)) rfl ?_
        rintro v73 M73 J73 ⟨rfl, hl73⟩
        rw [show ([true, true] : List Bool).length = 2 from rfl, tx2] at hl73
        obtain ⟨vs73, hr73, hls73⟩ := hl73.ex
        haveI := hr73.cel
        refine XL.gy rfl rfl (OpQ.opL (q_lenV2 (n := 1) (sz := 1) rfl (by kernel_rfl) hr73) rfl ?_)
        refine XL.gy rfl rfl (OpQ.opL (q_move rfl) rfl ?_)
        refine XL.gy rfl rfl (OpQ.opL (q_cmp true rfl rfl (eqT rfl)) rfl ?_)
        refine XL.q (q_pickT rfl rfl) rfl ?_
        refine XL.q (q_move rfl) rfl ?_
        refine XL.gy rfl rfl (OpQ.opL (q_move rfl) rfl ?_)
        refine XL.gy rfl rfl (OpQ.opL (q_move rfl) rfl ?_)
        refine XL.callVg rfl rfl (aS rfl (aS rfl a0)) (by kernel_rfl) (has_spec kb bt bm (ts2 x) [true, true] v37 (bts ((1 : Nat) : Int)) _ (hK50.rd SubC.sub) (hT50.tbr SubC.sub) (show 2 ≤ 1048576 by decide) (hb37.mono SubC.sub)) rfl ?_
        rw [hs2, show kat [true, true] 1 = true from rfl]
        refine XL.gy rfl rfl (OpQ.opL (q_move rfl) rfl ?_)
        refine XL.gy rfl rfl (OpQ.opL (q_move rfl) rfl ?_)
        refine XL.gy rfl rfl (OpQ.opL (q_move rfl) rfl ?_)
        refine XL.gy rfl rfl (OpQ.opL (q_pickF rfl rfl) rfl ?_)
        refine XL.gy rfl rfl (OpQ.opL (q_boolEqR true rfl rfl (by kernel_rfl) rfl) rfl ?_)
        refine XL.q (q_pickT rfl rfl) rfl ?_
        refine XL.q (q_assign rfl) rfl ?_
        refine XL.fin (kp 8 rfl kn) ?_
        refine XC.ret ?_
        exact ⟨_, [], [], res1 rfl rfl, List.nil_sublist _, by simp, rfl, rfl, rfl⟩
      ·
        refine XC.reg ?_
        refine XL.q (q_move rfl) rfl ?_
        refine XL.fin (kp 0 rfl (kp 1 rfl (kp 2 rfl (kp 3 rfl (kp 10 rfl (kp 11 rfl (kp 12 rfl (kp 41 rfl kn)))))))) ?_
        refine XC.condT rfl ?_
        refine XC.reg1 ?_
        refine XL.q (q_move rfl) rfl ?_
        refine XL.q (q_move rfl) rfl ?_
        refine XL.lo rfl (l_buildSlice (e := 23) (sz := 1) (z := [.slice none 0 0]) (by kernel_rfl) (eS rfl e0) (bdS 0 1 rfl (by rfl) bd0) rfl fun b44 => ?_)
        refine XL.lo rfl (l_call (Mc := M40 ++ MT) (R := _) (aS rfl (aS rfl a0)) (by kernel_rfl) PickC.perm (learn1_spec kb bt bm (ts2 x, []) _ (bts ((1 : Nat) : Int)) M40 MT _ hK40 hT ⟨_, Rd.whole (n := 1) At.mem (by rfl), Lst.cons (hb37.mono SubC.sub) Lst.nil⟩ (show 0 ≤ 2 by decide) (show 3 ≤ 1048576 by decide) (SubC.sub _ h4)) rfl ?_)
        rintro v45 M45 J45 ⟨MK45, MT45, rfl, hK45, hT45⟩
        rw [lr1 x] at hK45 hT45
        refine XL.fin (kp 0 rfl (kp 1 rfl (kp 2 rfl (kp 3 rfl (kp 10 rfl (kp 11 rfl (kp 12 rfl kn))))))) ?_
        refine XC.seq ?_
        refine XC.reg ?_
        refine XL.q (q_move rfl) rfl ?_
        refine XL.fin (kp 0 rfl (kp 1 rfl (kp 2 rfl (kp 3 rfl (kp 10 rfl (kp 11 rfl (kp 12 rfl (kp 46 rfl kn)))))))) ?_
        refine XC.condF rfl ?_
        refine XC.skip ?_
        refine nx (kp 0 rfl (kp 1 rfl (kp 2 rfl (kp 3 rfl (kp 11 rfl (kp 12 rfl kn)))))) ?_
        refine XC.reg ?_
        refine XL.q (q_assign rfl) rfl ?_
        refine XL.fin (kp 0 rfl (kp 1 rfl (kp 2 rfl (kp 3 rfl (kp 11 rfl (kp 12 rfl (kp 13 rfl kn))))))) ?_
        refine XC.seq ?_
        refine XC.reg ?_
        refine XL.q (q_move rfl) rfl ?_
        refine XL.fin (kp 0 rfl (kp 1 rfl (kp 2 rfl (kp 3 rfl (kp 11 rfl (kp 12 rfl (kp 13 rfl (kp 51 rfl kn)))))))) ?_
        refine XC.condF rfl ?_
        refine XC.skip ?_
        refine nx (kp 0 rfl (kp 1 rfl (kp 2 rfl (kp 3 rfl (kp 11 rfl (kp 12 rfl (kp 13 rfl kn))))))) ?_
        refine XC.reg ?_
        refine XL.q (q_move rfl) rfl ?_
        refine XL.q (q_move rfl) rfl ?_
        refine XL.callV (aS rfl (aS rfl a0)) (by kernel_rfl) (says_spec kb bt bm (ts2 x) [false, true] (fun _ => x) v0 text _ (hK45.rd SubC.sub) (hT45.tbr SubC.sub) (ts2_sld hxl) (show 2 ≤ 2 by decide) (show 2 ≤ 1048576 by decide) (hy0.mono SubC.sub) (SubC.sub _ h4)) rfl ?_
        rw [show ([false, true] : List Bool).length = 2 from rfl, tx1]
        rw [show (([] : List (List Nat)).any fun w => saysF w text) = false from rfl]
        refine XL.q (q_move rfl) rfl ?_
        refine XL.q (q_boolEqR true rfl rfl (by kernel_rfl) rfl) rfl ?_
        refine XL.q (q_move rfl) rfl ?_
        refine XL.gy rfl rfl (OpQ.opL (q_move rfl) rfl ?_)
        refine XL.gy rfl rfl (OpQ.opL (q_move rfl) rfl ?_)
        refine XL.callVg rfl rfl (aS rfl (aS rfl a0)) (by kernel_rfl) (says_spec kb bt bm (ts2 x) [false, true] (fun _ => x) v1 other _ (hK45.rd SubC.sub) (hT45.tbr SubC.sub) (ts2_sld hxl) (show 2 ≤ 2 by decide) (show 2 ≤ 1048576 by decide) (hy1.mono SubC.sub) (SubC.sub _ h4)) rfl ?_
        rw [show ([false, true] : List Bool).length = 2 from rfl, tx1]
        rw [show (([] : List (List Nat)).any fun w => saysF w other) = false from rfl]
        refine XL.gy rfl rfl (OpQ.opL (q_move rfl) rfl ?_)
        refine XL.gy rfl rfl (OpQ.opL (q_move rfl) rfl ?_)
        refine XL.gn rfl rfl rfl rfl ?_
        refine XL.gn rfl rfl rfl rfl ?_
        refine XL.gn rfl rfl rfl rfl ?_
        refine XL.gn rfl rfl rfl rfl ?_
        refine XL.gn rfl rfl rfl rfl ?_
        refine XL.gy rfl rfl (OpQ.opL (q_pickF rfl rfl) rfl ?_)
        refine XL.gy rfl rfl (OpQ.opL (q_boolEqR true rfl rfl (by kernel_rfl) rfl) rfl ?_)
        refine XL.q (q_pickT rfl rfl) rfl ?_
        refine XL.q (q_move rfl) rfl ?_
        refine XL.gy rfl rfl (OpQ.opL (q_move rfl) rfl ?_)
        refine XL.callg rfl rfl (aS rfl a0) (by kernel_rfl) (texts_spec kb bt bm (ts2 x) [false, true] (fun _ => x) _ (hK45.rd SubC.sub) (hT45.tbr SubC.sub) (ts2_sld hxl) (show 2 ≤ 2 by decide) (show 2 ≤ 1048576 by decide) (SubC.sub _ h4)) rfl ?_
        rintro v73 M73 J73 ⟨rfl, hl73⟩
        rw [show ([false, true] : List Bool).length = 2 from rfl, tx1] at hl73
        obtain ⟨vs73, hr73, hls73⟩ := hl73.ex
        haveI := hr73.cel
        refine XL.gy rfl rfl (OpQ.opL (q_lenV2 (n := 0) (sz := 1) rfl (by kernel_rfl) hr73) rfl ?_)
        refine XL.gy rfl rfl (OpQ.opL (q_move rfl) rfl ?_)
        refine XL.gy rfl rfl (OpQ.opL (q_cmp true rfl rfl (eqT rfl)) rfl ?_)
        refine XL.q (q_pickT rfl rfl) rfl ?_
        refine XL.q (q_move rfl) rfl ?_
        refine XL.gy rfl rfl (OpQ.opL (q_move rfl) rfl ?_)
        refine XL.gy rfl rfl (OpQ.opL (q_move rfl) rfl ?_)
        refine XL.callVg rfl rfl (aS rfl (aS rfl a0)) (by kernel_rfl) (has_spec kb bt bm (ts2 x) [false, true] v37 (bts ((1 : Nat) : Int)) _ (hK45.rd SubC.sub) (hT45.tbr SubC.sub) (show 2 ≤ 1048576 by decide) (hb37.mono SubC.sub)) rfl ?_
        rw [hs2, show kat [false, true] 1 = true from rfl]
        refine XL.gy rfl rfl (OpQ.opL (q_move rfl) rfl ?_)
        refine XL.gy rfl rfl (OpQ.opL (q_move rfl) rfl ?_)
        refine XL.gn rfl rfl rfl rfl ?_
        refine XL.gy rfl rfl (OpQ.opL (q_pickT rfl rfl) rfl ?_)
        refine XL.gy rfl rfl (OpQ.opL (q_boolEqR true rfl rfl (by kernel_rfl) rfl) rfl ?_)
        refine XL.q (q_pickT rfl rfl) rfl ?_
        refine XL.q (q_assign rfl) rfl ?_
        refine XL.fin (kp 8 rfl kn) ?_
        refine XC.ret ?_
        exact ⟨_, [], [], res1 rfl rfl, List.nil_sublist _, by simp, rfl, rfl, rfl⟩
      ·
        refine XC.reg ?_
        refine XL.q (q_move rfl) rfl ?_
        refine XL.fin (kp 0 rfl (kp 1 rfl (kp 2 rfl (kp 3 rfl (kp 10 rfl (kp 11 rfl (kp 12 rfl (kp 41 rfl kn)))))))) ?_
        refine XC.condT rfl ?_
        refine XC.reg1 ?_
        refine XL.q (q_move rfl) rfl ?_
        refine XL.q (q_move rfl) rfl ?_
        refine XL.lo rfl (l_buildSlice (e := 23) (sz := 1) (z := [.slice none 0 0]) (by kernel_rfl) (eS rfl e0) (bdS 0 1 rfl (by rfl) bd0) rfl fun b44 => ?_)
        refine XL.lo rfl (l_call (Mc := M40 ++ MT) (R := _) (aS rfl (aS rfl a0)) (by kernel_rfl) PickC.perm (learn1_spec kb bt bm (ts2 x, []) _ (bts ((1 : Nat) : Int)) M40 MT _ hK40 hT ⟨_, Rd.whole (n := 1) At.mem (by rfl), Lst.cons (hb37.mono SubC.sub) Lst.nil⟩ (show 0 ≤ 2 by decide) (show 3 ≤ 1048576 by decide) (SubC.sub _ h4)) rfl ?_)
        rintro v45 M45 J45 ⟨MK45, MT45, rfl, hK45, hT45⟩
        rw [lr1 x] at hK45 hT45
        refine XL.fin (kp 0 rfl (kp 1 rfl (kp 2 rfl (kp 3 rfl (kp 10 rfl (kp 11 rfl (kp 12 rfl kn))))))) ?_
        refine XC.seq ?_
        refine XC.reg ?_
        refine XL.q (q_move rfl) rfl ?_
        refine XL.fin (kp 0 rfl (kp 1 rfl (kp 2 rfl (kp 3 rfl (kp 10 rfl (kp 11 rfl (kp 12 rfl (kp 46 rfl kn)))))))) ?_
        refine XC.condT rfl ?_
        refine XC.reg1 ?_
        refine XL.q (q_move rfl) rfl ?_
        refine XL.q (q_move rfl) rfl ?_
        refine XL.lo rfl (l_buildSlice (e := 23) (sz := 1) (z := [.slice none 0 0]) (by kernel_rfl) (eS rfl e0) (bdS 0 1 rfl (by rfl) bd0) rfl fun b49 => ?_)
        refine XL.lo rfl (l_call (Mc := MK45 ++ MT45) (R := _) (aS rfl (aS rfl a0)) (by kernel_rfl) PickC.perm (learn1_spec kb bt bm (ts2 x, [false, true]) _ (bts ((0 : Nat) : Int)) MK45 MT45 _ hK45 hT45 ⟨_, Rd.whole (n := 1) At.mem (by rfl), Lst.cons (hb29.mono SubC.sub) Lst.nil⟩ (show 2 ≤ 2 by decide) (show 3 ≤ 1048576 by decide) (SubC.sub _ h4)) rfl ?_)
        rintro v50 M50 J50 ⟨MK50, MT50, rfl, hK50, hT50⟩
        rw [lr10 x] at hK50 hT50
        refine XL.fin (kp 0 rfl (kp 1 rfl (kp 2 rfl (kp 3 rfl (kp 11 rfl (kp 12 rfl kn)))))) ?_
        refine XC.reg ?_
        refine XL.q (q_assign rfl) rfl ?_
        refine XL.fin (kp 0 rfl (kp 1 rfl (kp 2 rfl (kp 3 rfl (kp 11 rfl (kp 12 rfl (kp 13 rfl kn))))))) ?_
        refine XC.seq ?_
        refine XC.reg ?_
        refine XL.q (q_move rfl) rfl ?_
        refine XL.fin (kp 0 rfl (kp 1 rfl (kp 2 rfl (kp 3 rfl (kp 11 rfl (kp 12 rfl (kp 13 rfl (kp 51 rfl kn)))))))) ?_
        refine XC.condT rfl ?_
        refine XC.reg1 ?_
        refine XL.q (q_assign rfl) rfl ?_
        refine XL.fin (kp 0 rfl (kp 1 rfl (kp 2 rfl (kp 3 rfl (kp 11 rfl (kp 12 rfl (kp 13 rfl kn))))))) ?_
        refine XC.reg ?_
        refine XL.q (q_move rfl) rfl ?_
        refine XL.q (q_move rfl) rfl ?_
        refine XL.callV (aS rfl (aS rfl a0)) (by kernel_rfl) (says_spec kb bt bm (ts2 x) [true, true] (fun _ => x) v0 text _ (hK50.rd SubC.sub) (hT50.tbr SubC.sub) (ts2_sld hxl) (show 2 ≤ 2 by decide) (show 2 ≤ 1048576 by decide) (hy0.mono SubC.sub) (SubC.sub _ h4)) rfl ?_
        rw [show ([true, true] : List Bool).length = 2 from rfl, tx2]
        rw [show ([x].any fun w => saysF w text) = decide (text = text) by simp [hx, sy htl]]
        rw [decide_eq_true rfl]
        refine XL.q (q_move rfl) rfl ?_
        refine XL.q (q_boolEqR true rfl rfl (by kernel_rfl) rfl) rfl ?_
        refine XL.q (q_move rfl) rfl ?_
        refine XL.gy rfl rfl (OpQ.opL (q_move rfl) rfl ?_)
        refine XL.gy rfl rfl (OpQ.opL (q_move rfl) rfl ?_)
        refine XL.callVg rfl rfl (aS rfl (aS rfl a0)) (by kernel_rfl) (says_spec kb bt bm (ts2 x) [true, true] (fun _ => x) v1 other _ (hK50.rd SubC.sub) (hT50.tbr SubC.sub) (ts2_sld hxl) (show 2 ≤ 2 by decide) (show 2 ≤ 1048576 by decide) (hy1.mono SubC.sub) (SubC.sub _ h4)) rfl ?_
        rw [show ([true, true] : List Bool).length = 2 from rfl, tx2]
        rw [show ([x].any fun w => saysF w other) = decide (text = other) by simp [hx, sy htl]]
        refine XL.gy rfl rfl (OpQ.opL (q_move rfl) rfl ?_)
        refine XL.gy rfl rfl (OpQ.opL (q_move rfl) rfl ?_)
        refine XL.gy rfl rfl (OpQ.opL (q_move rfl) rfl ?_)
        refine XL.gy rfl rfl (OpQ.opL (q_toStr2 rfl (by kernel_rfl) (hy1.rd.mono SubC.sub)) rfl ?_)
        refine XL.gy rfl rfl (OpQ.opL (q_move rfl) rfl ?_)
        refine XL.gy rfl rfl (OpQ.opL (q_toStr2 rfl (by kernel_rfl) (hy0.rd.mono SubC.sub)) rfl ?_)
        refine XL.gy rfl rfl (OpQ.opL (q_sEq (ws := other) (ws' := text) rfl rfl rfl rfl hy1.lt hy0.lt) rfl ?_)
        refine XL.gy rfl rfl (OpQ.opL (q_pickT rfl rfl) rfl ?_)
        refine XL.gy rfl rfl (OpQ.opL (q_boolEqR true rfl rfl (by kernel_rfl) (by rw [show (decide (other = text)) = decide (text = other) from decide_eq_decide.2 ⟨Eq.symm, Eq.symm⟩]; simp)) rfl ?_)
        refine XL.q (q_pickT rfl rfl) rfl ?_
        refine XL.q (q_move rfl) rfl ?_
        refine XL.gy rfl rfl (OpQ.opL (q_move rfl) rfl ?_)
        refine XL.callg rfl rfl (aS rfl a0) (by kernel_rfl) (texts_spec kb bt bm (ts2 x) [true, true] (fun _ => x) _ (hK50.rd SubC.sub) (hT50.tbr SubC.sub) (ts2_sld hxl) (show 2 ≤ 2 by decide) (show 2 ≤ 1048576 by decide) (SubC.sub _ h4)) rfl ?_
        rintro v73 M73 J73 ⟨rfl, hl73⟩
        rw [show ([true, true] : List Bool).length = 2 from rfl, tx2] at hl73
        obtain ⟨vs73, hr73, hls73⟩ := hl73.ex
        haveI := hr73.cel
        refine XL.gy rfl rfl (OpQ.opL (q_lenV2 (n := 1) (sz := 1) rfl (by kernel_rfl) hr73) rfl ?_)
        refine XL.gy rfl rfl (OpQ.opL (q_move rfl) rfl ?_)
        refine XL.gy rfl rfl (OpQ.opL (q_cmp true rfl rfl (eqT rfl)) rfl ?_)
        refine XL.q (q_pickT rfl rfl) rfl ?_
        refine XL.q (q_move rfl) rfl ?_
        refine XL.gy rfl rfl (OpQ.opL (q_move rfl) rfl ?_)
        refine XL.gy rfl rfl (OpQ.opL (q_move rfl) rfl ?_)
        refine XL.callVg rfl rfl (aS rfl (aS rfl a0)) (by kernel_rfl) (has_spec kb bt bm (ts2 x) [true, true] v37 (bts ((1 : Nat) : Int)) _ (hK50.rd SubC.sub) (hT50.tbr SubC.sub) (show 2 ≤ 1048576 by decide) (hb37.mono SubC.sub)) rfl ?_
        rw [hs2, show kat [true, true] 1 = true from rfl]
        refine XL.gy rfl rfl (OpQ.opL (q_move rfl) rfl ?_)
        refine XL.gy rfl rfl (OpQ.opL (q_move rfl) rfl ?_)
        refine XL.gn rfl rfl rfl rfl ?_
        refine XL.gy rfl rfl (OpQ.opL (q_pickT rfl rfl) rfl ?_)
        refine XL.gy rfl rfl (OpQ.opL (q_boolEqR true rfl rfl (by kernel_rfl) rfl) rfl ?_)
        refine XL.q (q_pickT rfl rfl) rfl ?_
        refine XL.q (q_assign rfl) rfl ?_
        refine XL.fin (kp 8 rfl kn) ?_
        refine XC.ret ?_
        exact ⟨_, [], [], res1 rfl rfl, List.nil_sublist _, by simp, rfl, rfl, rfl⟩

end Go.Proofs.YthmnlkpikgglbaaGreatDoor
/- Terms that came in; what the rows' lists give. -/
set_option linter.unusedVariables false
set_option linter.unusedSimpArgs false
namespace Go.Proofs.YthmnlkpikgglbaaGreatDoor
open Go.Px Go.ChangeShapes Go.WideShapes Go.ChangeAt Go.RowKit
section
variable {H : Type} {enc : TypeId × Value → H} {P : Program} {w : World} {spare : Nat → Bool} {held : Bool} {fuel : Nat} {t e : TypeId} {cs : List Value} {x : DataW H × List MemPlace} {v : Value} {d : DataW H} {p : List MemPlace} {r : Reach} {base : Nat} {k : IntKind}
theorem ba_txt (s : ByteArray) : ∃ ws : List Nat, s = txt ws ∧ B256 ws ∧ ws.length = s.size := by
  refine ⟨s.data.toList.map UInt8.toNat, ?_, ⟨fun x hx => ?_⟩, by rw [List.length_map, Array.length_toList]; rfl⟩
  · apply ByteArray.ext
    have e : (UInt8.ofNat ∘ UInt8.toNat) = id := by funext c; simp
    simp [txt, e]
  · obtain ⟨c, _, rfl⟩ := List.mem_map.1 hx
    exact c.toNat_lt
theorem ints_of (he : P.underlying e = some (.int k)) {xss : List (List Value)} (h : ∀ c ∈ xss, c.length = 1 ∧ ∃ m y, DataW.trod enc P w 0 spare held m e c = some y) :
    ∃ zs : List Int, xss.flatten = zs.map (.int k) ∧ zs.length = xss.length ∧ ∀ z ∈ zs, (Lit.int k z).wf = true := by
  induction xss with
  | nil => exact ⟨[], rfl, rfl, fun x hx => by cases hx⟩
  | cons c xss ih =>
    obtain ⟨zs, h1, h2, h3⟩ := ih fun c hc => h c (by simp [hc])
    obtain ⟨_, m, y, h4⟩ := h c (by simp)
    obtain ⟨n, rfl, _, h5⟩ := DataW.trod_int he h4
    refine ⟨n :: zs, by rw [List.flatten_cons, h1]; rfl, by simp [h2], fun x hx => ?_⟩
    rcases List.mem_cons.1 hx with rfl | hx
    · exact h5
    · exact h3 x hx
theorem in_tm {tk to te ts tn : TypeId} {f0 f1 f2 f3 : Field} (ht : P.underlying t = some (.struct #[f0, f1, f2, f3])) (hc : P.cellsOf t = 4) (o0 : f0.offset = 0) (o1 : f1.offset = 1) (o2 : f2.offset = 2) (o3 : f3.offset = 3)
    (t0 : f0.type = tk) (t1 : f1.type = to) (t2 : f2.type = ts) (t3 : f3.type = tn) (c0 : P.cellsOf tk = 1) (c1 : P.cellsOf to = 1) (c2 : P.cellsOf ts = 1) (c3 : P.cellsOf tn = 1) (hk : P.underlying tk = some (.int .u8)) (ho : P.underlying to = some (.slice te)) (he : P.underlying te = some (.int .i64)) (ce : P.cellsOf te = 1)
    (hs : P.underlying ts = some .string) (hn : P.underlying tn = some (.int .i64)) (h : DataW.trod enc P w 0 spare held fuel t cs = some x) :
    ∃ (k : Nat) (vo : Value) (tx : List Nat) (n : Int) (zs : List Int), cs = tmc k vo tx n ∧ k < 256 ∧ Rd (heapA w) 1 vo zs.length (ints zs) ∧ zs.length ≤ maxLen ∧ B256 tx ∧ tx.length ≤ maxLen ∧ (Lit.int .i64 n).wf = true ∧ ∀ z ∈ zs, (Lit.int .i64 z).wf = true := by
  obtain ⟨xs, m, _, _, h1, h2, h3⟩ := DataW.trod_struct ht h
  rw [hc] at h1
  match cs, h1 with
  | [a, b, c, d], _ =>
    have hx : xs.length = 4 := by simpa using h2
    have g : ∀ i (hi : i < 4), xs[i]? = some (xs[i]'(by omega)) := fun i hi => List.getElem?_eq_getElem (by omega)
    have e0 := h3 0 f0 rfl
    have e1 := h3 1 f1 rfl
    have e2 := h3 2 f2 rfl
    have e3 := h3 3 f3 rfl
    rw [o0, t0, c0, g 0 (by decide)] at e0
    rw [o1, t1, c1, g 1 (by decide)] at e1
    rw [o2, t2, c2, g 2 (by decide)] at e2
    rw [o3, t3, c3, g 3 (by decide)] at e3
    obtain ⟨n0, k0, _, w0⟩ := DataW.trod_int hk e0
    obtain ⟨q, rfl, hq⟩ := nat_of_wf rfl w0
    obtain ⟨v1, xss, k1, l1, r1, i1⟩ := in_slice ho ce (by decide) e1
    obtain ⟨zs, z1, z2, z3⟩ := ints_of he i1
    obtain ⟨s, k2, _, l2⟩ := DataW.trod_string hs e2
    obtain ⟨tx, rfl, b2, ls⟩ := ba_txt s
    obtain ⟨n3, k3, _, w3⟩ := DataW.trod_int hn e3
    simp only [List.drop, List.take, List.cons.injEq, and_true] at k0 k1 k2 k3
    subst k0 k1 k2 k3
    refine ⟨q, b, tx, n3, zs, rfl, hq, ?_, by omega, b2, by omega, w3, z3⟩
    rw [z2, show ints zs = xss.flatten from z1.symm]; exact r1
end
theorem var_heap {P : Program} {W : World} {name : String} {g : Nat} {cs : Array Value} (hg : P.globalNamed name = some g) (h : W.var? P name = some cs) : ∃ e fr, W.heap[g]? = some (.cells cs e fr) := by
  unfold World.var? at h
  rw [hg] at h
  simp only [Option.bind_some] at h
  split at h
  · rename_i c e fr hh
    cases h
    exact ⟨e, fr, hh⟩
  · cases h
def zints (ws : List Nat) : List Int := ws.map fun n : Nat => (n : Int)
theorem zints_nums (k : IntKind) (ws : List Nat) : ((zints ws).map fun z => Value.int k z).toArray = (nums k ws).toArray := by simp [zints, nums]
set_option maxRecDepth 100000 in
theorem pow_tab {W : World} {a b : String × DataW Unit} {rest : List (String × DataW Unit)} (h : laidMet Tryz.prog (a :: b :: ("internal/strconv.uint64pow10", Rows.laid_internal_strconv_uint64pow10) :: rest) W) : ∃ e fr, W.heap[4]? = some (Obj.cells (nums .u64 pow10T).toArray e fr) := by
  have h' : laidMet Tryz.prog (("internal/strconv.uint64pow10", Lib.tabData .u64 (zints pow10T)) :: rest) W := h.tail.tail
  have h1 := Lib.tabIs_of_head (g := 4) (t := 226) (e := 85) (n := 20) (by kernel_rfl) (by kernel_rfl) (by kernel_rfl) (by kernel_rfl) (by kernel_rfl) (by kernel_rfl) h'
  obtain ⟨ek, fk, h3⟩ := var_heap (g := 4) (by kernel_rfl) h1
  rw [zints_nums] at h3
  exact ⟨ek, fk, h3⟩
end Go.Proofs.YthmnlkpikgglbaaGreatDoor

/- What the rows' lists give: the tables of packages sha and strconv. -/
set_option linter.unusedVariables false
set_option linter.unusedSimpArgs false
namespace Go.Proofs.YthmnlkpikgglbaaGreatDoor
open Go.Px
set_option maxRecDepth 100000 in
theorem glb_in {W : World} {a b : String × DataW Unit} {rest : List (String × DataW Unit)} (h : laidMet Tryz.prog (a :: b :: ("internal/strconv.uint64pow10", Rows.laid_internal_strconv_uint64pow10) :: ("pawl/sha.round", Rows.laid_pawl_sha_round) :: ("pawl/sha.first", Rows.laid_pawl_sha_first) :: rest) W) : Glb (heapA W) := by
  obtain ⟨e4, f4, h4⟩ := pow_tab h
  have h' : laidMet Tryz.prog (("pawl/sha.round", Lib.tabData .u32 (zints kTab)) :: ("pawl/sha.first", Lib.tabData .u32 (zints hFirst.list)) :: rest) W := h.tail.tail.tail
  have h1 := Lib.tabIs_of_head (g := 3) (t := 209) (e := 53) (n := 64) (by kernel_rfl) (by kernel_rfl) (by kernel_rfl) (by kernel_rfl) (by kernel_rfl) (by kernel_rfl) h'
  have h2 := Lib.tabIs_of_head (g := 0) (t := 131) (e := 53) (n := 8) (by kernel_rfl) (by kernel_rfl) (by kernel_rfl) (by kernel_rfl) (by kernel_rfl) (by kernel_rfl) h'.tail
  obtain ⟨ek, fk, h3⟩ := var_heap (g := 3) (by kernel_rfl) h1
  obtain ⟨ef, ff, h5⟩ := var_heap (g := 0) (by kernel_rfl) h2
  rw [zints_nums] at h3 h5
  exact ⟨⟨ef, ff, heapA_mem.2 h5⟩, ⟨ek, fk, heapA_mem.2 h3⟩, ⟨e4, f4, heapA_mem.2 h4⟩⟩
end Go.Proofs.YthmnlkpikgglbaaGreatDoor

/- The card of the law ClosureReads: it returns true for every input; each argument reads behind the call as it read before; the listed package variables are tied to the program's text. No further condition. -/
namespace Go.Proofs.YthmnlkpikgglbaaGreatDoor.closureReads
open Go.ChangeShapes Go.WideShapes Go.ChangeAt Go.RowKit
set_option linter.unusedVariables false

theorem own : ownKnob Tryz.prog.godebug = none := by kernel_rfl
theorem laidOut : laidOutB Tryz.prog = true := by kernel_rfl

noncomputable def laidWorld (os : Os) : World := World.laidAll Tryz.prog os Rows.closureReadsRow.laid
theorem laid_met (os : Os) : laidMetH Tryz.prog Rows.closureReadsRow.laid ((laidWorld os).forCall (fun _ _ => 0) ⟨#[], #[.slice none 0 0, .slice none 0 0, .bool false, .bool false], []⟩).memory := by
  rw [MakeChecks.laidMetH_plain _ _ _ (by kernel_rfl)]; exact laidMet_laidAll _ (by kernel_rfl) (by kernel_rfl)
theorem reads (os : Os) {H : Type} (enc : TypeId × Value → H) : ∃ places, DataW.whole enc Tryz.prog ((laidWorld os).forCall (fun _ _ => 0) ⟨#[], #[.slice none 0 0, .slice none 0 0, .bool false, .bool false], []⟩).memory Tryz.f6.params.toList Rows.closureReadsSpec.vars false (#[.slice none 0 0, .slice none 0 0, .bool false, .bool false] : Array Value).toList 8 = some ([.nil, .nil, .lit (.bool false), .lit (.bool false)], [], places) :=
  ⟨[], by kernel_rfl⟩

set_option maxRecDepth 100000 in
theorem lifted (os : Os) (started : os.Started) (H : Type) (enc : TypeId × Value → H) (F : Stop.Interp) :
    ReturnsInHanded {} Tryz.checked os 6 .any ((OpenSpec.ofChange Rows.closureReadsSpec).preRow enc Tryz.prog Tryz.f6 Rows.closureReadsRow.domain false Rows.closureReadsRow.laid) (((OpenSpec.ofChange Rows.closureReadsSpec).at F).post enc Tryz.prog Tryz.f6 false true false false) := by
  obtain ⟨places, hx⟩ := reads os enc
  refine returnsInHanded_of_row (C := Tryz.checked) (s := (OpenSpec.ofChange Rows.closureReadsSpec)) own started (by kernel_rfl) Tryz.func6
    (witness_row_at (enc := enc) (C := Tryz.checked) false (laidWorld os) #[.slice none 0 0, .slice none 0 0, .bool false, .bool false] (World.laidAll_os _ _ _) (by kernel_rfl) (by kernel_rfl) (by kernel_rfl)
      (OpenSpec.preRow_of_cond 8 hx (by kernel_rfl) (fun k hk => by cases hk) (by kernel_rfl) (laid_met os))) ?_
  intro W base args ds gs before hval0 hW _ _ _ hL _ _
  have hval : ∀ (j : Nat) t v, Tryz.f6.params[j]? = some t → args[j]? = some v → Value.okWide Tryz.prog W .any base t v := hval0
  have hW' := hW
  obtain ⟨p, q, hA0, hV, rfl, hfz, hnd⟩ := hW
  have hA : DataW.TrodAll enc Tryz.prog W 0 (fun _ => true) true Tryz.f6.params.toList args.toList ds p := hA0
  rw [Tryz.params6] at hA hval
  obtain ⟨v0, vs0, d0, ds0, p0, q0, hargs, rfl, rfl, k0, r0_⟩ := trodAll_cons hA
  obtain ⟨v1, vs1, d1, ds1, p1, q1, rfl, rfl, rfl, k1, r1_⟩ := trodAll_cons r0_
  obtain ⟨v2, vs2, d2, ds2, p2, q2, rfl, rfl, rfl, k2, r2_⟩ := trodAll_cons r1_
  obtain ⟨v3, vs3, d3, ds3, p3, q3, rfl, rfl, rfl, k3, r3_⟩ := trodAll_cons r2_
  obtain ⟨rfl, rfl, rfl⟩ := trodAll_nil r3_
  obtain rfl : args = #[v0, v1, v2, v3] := by cases args; simp_all
  obtain ⟨rfl, rfl⟩ := trodVars_none hV
  have lt0 : ∀ x ∈ p0, x.block < W.heap.size := by obtain ⟨m, hm⟩ := k0; exact DataW.trod_lt m _ _ _ hm
  have lt1 : ∀ x ∈ p1, x.block < W.heap.size := by obtain ⟨m, hm⟩ := k1; exact DataW.trod_lt m _ _ _ hm
  have lt2 : ∀ x ∈ p2, x.block < W.heap.size := by obtain ⟨m, hm⟩ := k2; exact DataW.trod_lt m _ _ _ hm
  have lt3 : ∀ x ∈ p3, x.block < W.heap.size := by obtain ⟨m, hm⟩ := k3; exact DataW.trod_lt m _ _ _ hm
  obtain ⟨x0, r0, hx0, l0⟩ := Px.inSlU Tryz.underlying23 Tryz.underlying5 (by kernel_rfl) rfl (hval 0 23 v0 rfl rfl) k0
  obtain ⟨x1, r1, hx1, l1⟩ := Px.inSlU Tryz.underlying23 Tryz.underlying5 (by kernel_rfl) rfl (hval 1 23 v1 rfl rfl) k1
  obtain ⟨x2, rfl⟩ := Px.inB Tryz.underlying4 (hval 2 4 v2 rfl rfl)
  obtain ⟨x3, rfl⟩ := Px.inB Tryz.underlying4 (hval 3 4 v3 rfl rfl)
  clear hA0 hval0
  rw [MakeChecks.laidMetH_plain _ _ _ (by kernel_rfl)] at hL
  have hG := glb_in hL
  refine Calls.mono ((closureReads_spec v0 v1 x0 x1 x2 x3 _ r0 hx0 r1 hx1 (Nat.le_trans l0 (by decide)) (Nat.le_trans l1 (by decide)) hG).calls (Px.heapA_fx W)) fun e W' ⟨he, bel⟩ => ?_
  subst he
  exact ⟨_, rfl, _, _, _, [], _, [], hW', trodAll_mk1 (shut_bool Tryz.underlying4 _), (trodAll_cons_mk (Below.trod laidOut (by kernel_rfl) (of_decide_eq_true (by kernel_rfl)) k0 bel lt0) (trodAll_cons_mk (Below.trod laidOut (by kernel_rfl) (of_decide_eq_true (by kernel_rfl)) k1 bel lt1) (trodAll_cons_mk (Below.trod laidOut (by kernel_rfl) (of_decide_eq_true (by kernel_rfl)) k2 bel lt2) (trodAll_cons_mk (Below.trod laidOut (by kernel_rfl) (of_decide_eq_true (by kernel_rfl)) k3 bel lt3) trodAll_mk0)))), rfl, bel.frame _, fun h => by cases h⟩

theorem said : Rows.ClosureReadsSaid :=
  OpenClaim.holds_of_cond 6 Tryz.f6 rfl rfl rfl rfl rfl rfl rfl ⟨rfl, rfl, rfl, rfl, rfl⟩ rfl rfl rfl rfl rfl (by kernel_rfl) Tryz.func6 (by kernel_rfl)
    (of_decide_eq_true (by kernel_rfl)) (by unfold Func.isWrapper; first | (rw [if_pos (by decide +kernel)]; kernel_rfl) | (rw [if_neg (by decide +kernel)]; exact ⟨rfl, rfl⟩))
    (fun os started H enc _ F => by rw [OpenClaim.pre_eq_preRow]; exact lifted os started H enc F)
theorem plain (f : FuncId) (fn : Func) (hf : Tryz.pinned.checked.prog.funcNamed "pawl/pawllaw22.ClosureReads" = some f) (hfn : Tryz.pinned.checked.prog.funcs[f]? = some fn) :
    true = Tryz.pinned.checked.prog.looks [] ∧ ∀ (j : Nat) t, fn.params[j]? = some t → Tryz.pinned.checked.prog.wantsStandIn t = false := by
  obtain rfl : f = 6 := Option.some.inj ((show Tryz.prog.funcNamed "pawl/pawllaw22.ClosureReads" = some 6 by kernel_rfl).symm.trans hf) |>.symm
  obtain rfl : fn = Tryz.f6 := (Option.some.inj (Tryz.func6.symm.trans hfn)).symm
  refine ⟨by kernel_rfl, fun j t ht => ?_⟩
  rw [Tryz.params6] at ht
  have hm := Array.mem_of_getElem? ht
  simp only [List.mem_toArray, List.mem_cons, List.not_mem_nil, or_false] at hm
  rcases hm with rfl | rfl | rfl | rfl
  · exact (show Tryz.prog.wantsStandIn 23 = false by kernel_rfl)
  · exact (show Tryz.prog.wantsStandIn 23 = false by kernel_rfl)
  · exact (show Tryz.prog.wantsStandIn 4 = false by kernel_rfl)
  · exact (show Tryz.prog.wantsStandIn 4 = false by kernel_rfl)

theorem proved : Rows.ClosureReadsCardSaid :=
  Claim7.holds_tied_plain_at .later [] _ _ _ _ said (fun _ h => by cases h) (by kernel_rfl) (fun _ h => by cases h) closureReads_row_tie rfl ⟨rfl, rfl⟩ (by kernel_rfl) rfl plain (by kernel_rfl)
#print axioms proved
end Go.Proofs.YthmnlkpikgglbaaGreatDoor.closureReads



