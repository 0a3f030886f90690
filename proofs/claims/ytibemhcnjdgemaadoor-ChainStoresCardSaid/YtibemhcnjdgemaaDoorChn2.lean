/- The walks of package chain: the store of skipped keys. -/
import Derived.Test.YtibemhcnjdgemaaDoorChn1
set_option linter.unusedVariables false
set_option linter.unusedSimpArgs false
namespace Go.Proofs.YtibemhcnjdgemaaDoor
open Go.Px
structure Skp where
  of : List Nat
  n : Nat
  key : List Nat
deriving DecidableEq
def skR (R : Mem) (s : Skp) (r : List Value) : Prop := ∃ vo vk, r = [vo, .int .u32 ((s.n : Nat) : Int), vk] ∧ By R vo s.of ∧ By R vk s.key ∧ s.n < 4294967296
theorem skT : RowT 3 skR := ⟨fun R R' x r hR ⟨vo, vk, h1, h2, h3, h4⟩ => ⟨vo, vk, h1, h2.mono hR, h3.mono hR, h4⟩, fun R x r ⟨vo, vk, h1, _⟩ => by rw [h1]; rfl, fun R x r ⟨vo, vk, h1, h2, h3, _⟩ c hc => by
  rw [h1] at hc
  simp only [List.mem_cons, List.not_mem_nil, or_false] at hc
  rcases hc with rfl | rfl | rfl
  · exact h2.one
  · rfl
  · exact h3.one⟩
/-- A store of keys that were skipped. -/
structure Sto (R : Mem) (sb : Nat) (sks : List Skp) (M : Mem) : Prop where
  ex : ∃ v rows B, M = (sb, blk [v] 38) :: B ∧ Sl 3 v sks.length rows.flatten B ∧ RwL skR R rows sks
theorem Sto.mono {R R' : Mem} {sb : Nat} {sks : List Skp} {M : Mem} (h : Sto R sb sks M) (hR : ∀ x, x ∈ R → x ∈ R') : Sto R' sb sks M := by
  obtain ⟨v, rows, B, h1, h2, h3⟩ := h.ex
  exact ⟨v, rows, B, h1, h2, h3.mono skT hR⟩
def tst (of : List Nat) (n : Nat) (s : Skp) : Bool := decide (s.n = n) && decide (s.of = of)
def delS (sks : List Skp) (of : List Nat) (n : Nat) : List Skp := if fidxL (tst of n) sks < 0 then sks else sks.eraseIdx (fidxL (tst of n) sks).toNat
def putS (sks : List Skp) (x : Skp) : List Skp := (delS sks x.of x.n ++ [x]).drop ((delS sks x.of x.n ++ [x]).length - 32)
theorem delS_no {sks : List Skp} {of : List Nat} {n : Nat} (h : fidxL (tst of n) sks = -1) : delS sks of n = sks := if_pos (by rw [h]; decide)
theorem delS_yes {sks : List Skp} {of : List Nat} {n i : Nat} (h : fidxL (tst of n) sks = (i : Int)) : delS sks of n = sks.eraseIdx i := by
  unfold delS; rw [h, if_neg (by omega), Int.toNat_natCast]
theorem delS_len (sks : List Skp) (of : List Nat) (n : Nat) : (delS sks of n).length ≤ sks.length := by
  unfold delS; split
  · exact Nat.le_refl _
  · exact List.length_eraseIdx_le _ _
theorem putS_len (sks : List Skp) (x : Skp) : (putS sks x).length ≤ 32 := by
  unfold putS; rw [List.length_drop]; omega
theorem bdec_eq (a b : Nat) : (((a : Nat) : Int) == ((b : Nat) : Int)) = decide (a = b) := by
  rw [Bool.eq_iff_iff]; simp; omega

set_option maxRecDepth 100000 in
theorem tst_spec (vo vk vof : Value) (s : Skp) (of : List Nat) (n : Nat) (b4 b5 : Nat) (A : Mem) (ho : By A vo s.of) (hk : By A vk s.key) (hof : By A vof of) (hb5 : (b5, blk [.int .u32 ((n : Nat) : Int)] 25) ∈ A) (hb4 : (b4, blk [vof] 24) ∈ A) : FnV Tryd.prog 54 [.agg #[vo, .int .u32 ((s.n : Nat) : Int), vk], .pointer (some ⟨b5, 0, none⟩), .pointer (some ⟨b4, 0, none⟩)] A (.bool (tst of n s)) := by
  haveI := ho.cel
  haveI := hk.cel
  haveI := hof.cel
  refine FnX.enter (N := 15) Tryd.func54 rfl rfl rfl fun w => ?_
  refine XC.keep (kp 0 rfl (kp 1 rfl (kp 2 rfl kn))) ?_
  refine XC.reg ?_
  refine XL.lo rfl (l_box rfl (by first | exact Cel.cel | rfl) rfl fun b3 => ?_)
  refine XL.q (q_assign rfl) rfl ?_
  refine XL.fin (kp 1 rfl (kp 2 rfl (kp 3 rfl kn))) ?_
  refine XC.reg ?_
  refine XL.q (q_fieldAddrN 1 (off := 1) rfl (by kernel_rfl) rfl) rfl ?_
  refine XL.q (q_load rfl (by kernel_rfl) (by first | exact At.mem | exact mA (by assumption)) (by rfl)) rfl ?_
  refine XL.q (q_load rfl (by kernel_rfl) (mA hb5) (by rfl)) rfl ?_
  refine XL.q (q_bin rfl rfl rfl) rfl ?_
  refine XL.q (q_move rfl) rfl ?_
  refine XL.split (t := 9) rfl (fun hb => ?_) (fun hb => ?_)
  ·
    have hnn : s.n = n := by simp at hb; omega
    refine XL.gy rfl rfl (OpQ.opL (q_fieldAddrN 0 (off := 0) rfl (by kernel_rfl) rfl) rfl ?_)
    refine XL.gy rfl rfl (OpQ.opL (q_load rfl (by kernel_rfl) (by first | exact At.mem | exact mA (by assumption)) (by rfl)) rfl ?_)
    refine XL.gy rfl rfl (OpQ.opL (q_load rfl (by kernel_rfl) (mA hb4) (by rfl)) rfl ?_)
    refine XL.callVg rfl rfl (aS rfl (aS rfl a0)) (by kernel_rfl) (bEqual_spec vo vof s.of of _ (ho.mono SubC.sub) (hof.mono SubC.sub)) rfl ?_
    refine XL.q (q_pickT rfl rfl) rfl ?_
    refine XL.q (q_assign rfl) rfl ?_
    refine XL.fin (kp 4 rfl kn) ?_
    refine XC.ret ?_
    exact ⟨_, [], [], res1 rfl rfl, List.nil_sublist _, by simp, by unfold tst; rw [hnn]; simp, rfl, rfl⟩
  ·
    have hnn : s.n ≠ n := by simp at hb; omega
    refine XL.gn rfl rfl rfl rfl ?_
    refine XL.gn rfl rfl rfl rfl ?_
    refine XL.gn rfl rfl rfl rfl ?_
    refine XL.gn rfl rfl rfl rfl ?_
    refine XL.q (q_pickF rfl rfl) rfl ?_
    refine XL.q (q_assign rfl) rfl ?_
    refine XL.fin (kp 4 rfl kn) ?_
    refine XC.ret ?_
    exact ⟨_, [], [], res1 rfl rfl, List.nil_sublist _, by simp, by unfold tst; simp [hnn], rfl, rfl⟩

theorem find_clo {vof : Value} {sks : List Skp} {rows : List (List Value)} {of : List Nat} {n b4 b5 : Nat} {A : Mem} (hR : RwL skR A rows sks) (hof : By A vof of) (hb5 : (b5, blk [.int .u32 ((n : Nat) : Int)] 25) ∈ A) (hb4 : (b4, blk [vof] 24) ∈ A) :
    ∀ (j : Nat) (r : List Value), rows[j]? = some r → FnV Tryd.prog 54 (.agg r.toArray :: [.pointer (some ⟨b5, 0, none⟩), .pointer (some ⟨b4, 0, none⟩)]) A (.bool ((fun j => (sks[j]?.map (tst of n)).getD false) j)) := fun j r hr => by
  obtain ⟨s, hs, vo, vk, rfl, ho, hk, _⟩ := hR.of hr
  dsimp only
  rw [hs]
  exact tst_spec vo vk vof s of n b4 b5 _ ho hk hof hb5 hb4

set_option maxRecDepth 100000 in
theorem find_spec (sb : Nat) (v vof : Value) (rows : List (List Value)) (sks : List Skp) (of : List Nat) (n : Nat) (A : Mem) (hsb : (sb, blk [v] 38) ∈ A) (hv : Rd A 3 v sks.length rows.flatten) (hR : RwL skR A rows sks) (hl : sks.length ≤ 1000000) (hof : By A vof of) : FnV Tryd.prog 43 [.pointer (some ⟨sb, 0, none⟩), vof, .int .u32 ((n : Nat) : Int)] A (.int .i64 (fidxL (tst of n) sks)) := by
  haveI := hof.cel
  haveI := hv.cel
  refine FnX.enter (N := 15) Tryd.func43 rfl rfl rfl fun w => ?_
  refine XC.keep (kp 0 rfl (kp 1 rfl (kp 2 rfl kn))) ?_
  refine XC.reg ?_
  refine XL.lo rfl (l_box rfl (by first | exact Cel.cel | rfl) rfl fun b4 => ?_)
  refine XL.lo rfl (l_box rfl (by first | exact Cel.cel | rfl) rfl fun b5 => ?_)
  refine XL.q (q_assign rfl) rfl ?_
  refine XL.fin (kp 0 rfl (kp 4 rfl (kp 5 rfl kn))) ?_
  refine XC.seq ?_
  refine XC.reg ?_
  refine XL.q (q_move rfl) rfl ?_
  refine XL.q (q_ptrEqNil (e := 38) rfl rfl (by kernel_rfl)) rfl ?_
  refine XL.fin (kp 0 rfl (kp 4 rfl (kp 5 rfl (kp 8 rfl kn)))) ?_
  refine XC.condF rfl ?_
  refine XC.skip ?_
  refine nx (kp 0 rfl (kp 4 rfl (kp 5 rfl kn))) ?_
  refine XC.reg ?_
  refine XL.q (q_move rfl) rfl ?_
  refine XL.q (q_nil rfl) rfl ?_
  refine XL.q (q_fieldAddrN 0 (off := 0) rfl (by kernel_rfl) rfl) rfl ?_
  refine XL.q (q_load rfl (by kernel_rfl) (mA hsb) (by rfl)) rfl ?_
  refine XL.q (q_mkFunc (aS rfl (aS rfl a0))) rfl ?_
  refine XL.callV (aS rfl (aS rfl a0)) (by kernel_rfl) (index_Skip v rows 54 [.pointer (some ⟨b5, 0, none⟩), .pointer (some ⟨b4, 0, none⟩)] (fun j => (sks[j]?.map (tst of n)).getD false) _ (by rw [hR.len]; exact hv.mono SubC.sub) (hR.lens skT) (by rw [hR.len]; omega) (by kernel_rfl) (find_clo (hR.mono skT SubC.sub) (hof.mono SubC.sub) (by simp) (by simp))) rfl ?_
  refine XL.q (q_assign rfl) rfl ?_
  refine XL.fin (kp 6 rfl kn) ?_
  refine XC.ret ?_
  exact ⟨_, [], [], res1 rfl rfl, List.nil_sublist _, by simp, by rw [hR.len]; rfl, rfl, rfl⟩

set_option maxRecDepth 100000 in
theorem findNil_spec2 (vof : Value) (of : List Nat) (n : Nat) (A : Mem) (hof : By A vof of) : FnV Tryd.prog 43 [.pointer none, vof, .int .u32 ((n : Nat) : Int)] A (.int .i64 (-1)) := by
  haveI := hof.cel
  refine FnX.enter (N := 15) Tryd.func43 rfl rfl rfl fun w => ?_
  refine XC.keep (kp 0 rfl (kp 1 rfl (kp 2 rfl kn))) ?_
  refine XC.reg ?_
  refine XL.lo rfl (l_box rfl (by first | exact Cel.cel | rfl) rfl fun b4 => ?_)
  refine XL.lo rfl (l_box rfl (by first | exact Cel.cel | rfl) rfl fun b5 => ?_)
  refine XL.q (q_assign rfl) rfl ?_
  refine XL.fin (kp 0 rfl (kp 4 rfl (kp 5 rfl kn))) ?_
  refine XC.seq ?_
  refine XC.reg ?_
  refine XL.q (q_move rfl) rfl ?_
  refine XL.q (q_ptrEqNil (e := 38) rfl rfl (by kernel_rfl)) rfl ?_
  refine XL.fin (kp 0 rfl (kp 4 rfl (kp 5 rfl (kp 8 rfl kn)))) ?_
  refine XC.condT rfl ?_
  refine XC.reg ?_
  refine XL.q (q_assign rfl) rfl ?_
  refine XL.fin (kp 6 rfl kn) ?_
  refine XC.ret ?_
  refine tr ?_
  exact ⟨_, [], [], res1 rfl rfl, List.nil_sublist _, by simp, rfl, rfl, rfl⟩
