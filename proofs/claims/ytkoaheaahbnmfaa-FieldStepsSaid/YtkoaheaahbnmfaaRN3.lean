/- The walks of the document's field (pawlref03): P, mod, Of, Mul, Add, Sub, Pow, Inv, Square. -/
import Derived.Test.YtkoaheaahbnmfaaRN2
import Derived.Test.YtkoaheaahbnmfaaFld6
set_option linter.unusedVariables false
set_option linter.unusedSimpArgs false
namespace Go.Proofs.Ytkoaheaahbnmfaa
open Go.Px
theorem nrm_trim {ws : List Nat} (h : nrm ws) : tl ws ws.length = ws.length := by
  cases hl : ws.length with
  | zero => rfl
  | succ k => rw [tl, if_neg (h k hl)]
theorem nrm_len {a b : List Nat} (ha : nrm a) (hb : w32 b) (h : nv a ≤ nv b) : a.length ≤ b.length := by
  rcases Nat.lt_or_ge b.length a.length with h1 | h1
  · have := nv_lt_len hb ha h1; omega
  · exact h1
theorem nrm_len8 {a : List Nat} (ha : nrm a) (h : nv a < 115792089237316195423570985008687907853269984665640564039457584007913129639936) : a.length ≤ 8 := by
  rcases Nat.lt_or_ge 8 a.length with h1 | h1
  · have h2 := nrm_le ha (by rintro rfl; simp at h1)
    have h3 := xp_mono (show 8 ≤ a.length - 1 by omega)
    have h4 : xp 8 = 115792089237316195423570985008687907853269984665640564039457584007913129639936 := rfl
    omega
  · exact h1
def pWs : List Nat := [4294967277, 4294967295, 4294967295, 4294967295, 4294967295, 4294967295, 4294967295, 2147483647]
theorem pWs_nv : nv pWs = p25 := rfl
theorem pWs_w32 : w32 pWs := by unfold w32 pWs; decide
theorem w32_1 : w32 [1] := by unfold w32; decide
theorem nrm_1 : nrm [1] := by
  intro k hk
  obtain rfl : k = 0 := by simpa using hk.symm
  decide
theorem w32_19 : w32 [19] := by unfold w32; decide
theorem pWs_len : pWs.length = 8 := rfl
instance (priority := low) SubC.union {X Y Z : Mem} [h1 : SubC X Z] [h2 : SubC Y Z] : SubC (X ++ Y) Z := ⟨fun x h => (List.mem_append.1 h).elim (h1.sub x) (h2.sub x)⟩
instance (priority := low) SubC.consC {b : Nat} {o : Obj} {X Z : Mem} [h1 : At Z b o] [h2 : SubC X Z] : SubC ((b, o) :: X) Z := ⟨fun x h => (List.mem_cons.1 h).elim (fun h => h ▸ h1.mem) (h2.sub x)⟩
/-- What a number's function answers, be it new or one that was there. -/
def Nr (A : Mem) (r : Value) (M : Mem) (x : Nat) : Prop := ∃ ws, Rw M r ws ∧ w32 ws ∧ nv ws = x ∧ nrm ws
theorem rw_or {M M2 : Mem} {r v : Value} {os ws : List Nat} (h : Rw M r os ∨ (r = v ∧ os = ws)) (h2 : Rw M2 v ws) : Rw (M ++ M2) r os := by
  rcases h with h | ⟨rfl, rfl⟩
  · exact h.mono fun _ h => List.mem_append_left _ h
  · exact h2.mono fun _ h => List.mem_append_right _ h
theorem low255 {os : List Nat} (w : w32 os) (hl : 8 ≤ os.length) : nv ((os.take 8).set 7 ((os.take 8).getD 7 0 % 2147483648)) = nv os % 57896044618658097711785492504343953926634992332820282019728792003956564819968 := by
  have h1 := nv_split os 8 hl
  have h8 : (os.take 8).length = 8 := by simp; omega
  have h2 := nv_set (ws := os.take 8) (j := 7) (x := (os.take 8).getD 7 0 % 2147483648) (by omega)
  have h3 := nv_take_succ (ws := os.take 8) (j := 7) (by omega)
  have h4 := nv_lt ((w.take 8).take 7)
  have h5 := (w.take 8).get 7
  rw [show 7 + 1 = (os.take 8).length from h8.symm, List.take_length] at h3
  rw [List.length_take, Nat.min_eq_left (by omega)] at h4
  rw [show xp 7 = 26959946667150639794667015087019630673637144422540572481103610249216 from rfl] at *
  rw [show xp 8 = 115792089237316195423570985008687907853269984665640564039457584007913129639936 from rfl] at *
  omega
theorem mod_step {V : Nat} : (V % 57896044618658097711785492504343953926634992332820282019728792003956564819968 + V / 57896044618658097711785492504343953926634992332820282019728792003956564819968 * 19) % p25 = V % p25 :=
  mod_of_settle (q := V / 57896044618658097711785492504343953926634992332820282019728792003956564819968) (by unfold p25; omega)
theorem two255 : (2 : Nat) ^ 255 = 57896044618658097711785492504343953926634992332820282019728792003956564819968 := rfl
theorem pow255 {n : Nat} (h : 255 < n) : (57896044618658097711785492504343953926634992332820282019728792003956564819968 : Nat) ≤ 2 ^ (n - 1) := two255 ▸ Nat.pow_le_pow_right (by decide) (by omega)
theorem pow255' {n : Nat} (h : n ≤ 255) : 2 ^ n ≤ (57896044618658097711785492504343953926634992332820282019728792003956564819968 : Nat) := two255 ▸ Nat.pow_le_pow_right (by decide) h
theorem len8_of {ws : List Nat} (w : w32 ws) (h : (57896044618658097711785492504343953926634992332820282019728792003956564819968 : Nat) ≤ nv ws) : 8 ≤ ws.length := by
  rcases Nat.lt_or_ge ws.length 8 with h1 | h1
  · have h2 := nv_lt w
    have h3 := xp_mono (show ws.length ≤ 7 by omega)
    rw [show xp 7 = 26959946667150639794667015087019630673637144422540572481103610249216 from rfl] at h3
    omega
  · exact h1

theorem rP_spec (A : Mem) : FnX Try.prog 43 [] [] A fun r M J => J = [] ∧ Sw r pWs M := by
  refine FnX.enter (N := 2) Try.func43 rfl rfl rfl fun w => ?_
  refine XC.keep kn ?_
  refine XC.reg ?_
  refine XL.q (q_assign rfl) rfl ?_
  refine XL.fin kn ?_
  refine XC.reg ?_
  refine XL.lo rfl (l_buildSlice (e := 33) (sz := 1) (z := [.int .u32 0, .int .u32 0, .int .u32 0, .int .u32 0, .int .u32 0, .int .u32 0, .int .u32 0, .int .u32 0]) (by kernel_rfl) (eS rfl (eS rfl (eS rfl (eS rfl (eS rfl (eS rfl (eS rfl (eS rfl e0)))))))) (bdS 0 1 rfl (by rfl) (bdS 1 1 rfl (by rfl) (bdS 2 1 rfl (by rfl) (bdS 3 1 rfl (by rfl) (bdS 4 1 rfl (by rfl) (bdS 5 1 rfl (by rfl) (bdS 6 1 rfl (by rfl) (bdS 7 1 rfl (by rfl) bd0)))))))) rfl fun b1 => ?_)
  refine XL.q (q_assign rfl) rfl ?_
  refine XL.fin (kp 0 rfl kn) ?_
  refine XC.ret ?_
  exact ⟨_, [_], [], res1 rfl rfl, List.Sublist.refl _, by simp, rfl, Sl.fresh (b := b1) (n := 8) rfl (by decide)⟩

theorem rmod_spec (v : Value) (ws : List Nat) (A : Mem) (h : Rw A v ws) (hw0 : w32 ws) (hn0 : nrm ws) (hl0 : ws.length ≤ 1048576) : FnX Try.prog 37 [v] [] A fun r M J => J = [] ∧ ∃ os, (Rw M r os ∨ (r = v ∧ os = ws)) ∧ w32 os ∧ nv os = nv ws % p25 ∧ nrm os := by
  refine FnX.enter (N := 41) Try.func37 rfl rfl rfl fun w => ?_
  refine XC.keep (kp 0 rfl kn) ?_
  refine XC.reg ?_
  refine XL.q (q_assign rfl) rfl ?_
  refine XL.fin (kp 0 rfl kn) ?_
  refine XC.seq ?_
  refine XC.block ?_
  refine XC.loop (α := Value × List Nat × Mem) (fun x => [(0, x.1)]) (fun x => x.2.2) (fun _ => []) (fun x => (Rw x.2.2 x.1 x.2.1 ∨ (x.1 = v ∧ x.2.1 = ws)) ∧ w32 x.2.1 ∧ nrm x.2.1 ∧ x.2.1.length ≤ 1048576 ∧ nv x.2.1 % p25 = nv ws % p25) (fun x => nv x.2.1) (v, ws, []) ⟨.inr ⟨rfl, rfl⟩, hw0, hn0, hl0, rfl⟩ (kp 0 rfl kn) .rfl (fun _ h => h) ?_
  rintro ⟨u, os, B⟩ ⟨hvo, ow, on, ol, oe⟩
  dsimp only at hvo ow on ol oe ⊢
  have hv := rw_or hvo h
  refine XC.seq ?_
  refine XC.reg ?_
  refine XL.q (q_move rfl) rfl ?_
  refine XL.call (aS rfl a0) (by kernel_rfl) (len_spec _ os _ (Rd.mono hv SubC.sub) ow (by omega)) rfl ?_
  rintro r6 M6 J6 ⟨rfl, rfl, m, rfl, hm1, hm2, hm3⟩
  refine XL.q (q_bin rfl rfl rfl) rfl ?_
  refine XL.fin (kp 0 rfl (kp 7 rfl kn)) ?_
  refine XC.cond rfl (fun hc => ?_) (fun hc => ?_)
  ·
    have hlt : 255 < m := by simp at hc; omega
    have hge := Nat.le_trans (pow255 hlt) (hm3 (by omega))
    have hl8 := len8_of ow hge
    refine XC.skip ?_
    refine nx (kp 0 rfl kn) ?_
    refine XC.block ?_
    refine XC.reg ?_
    refine XL.q (q_move rfl) rfl ?_
    refine XL.call (aS rfl (aS rfl a0)) (by kernel_rfl) (down_spec _ os 255 _ (Rd.mono hv SubC.sub) ow (by omega) (by decide)) rfl ?_
    rintro r9 M9 J9 ⟨rfl, hw, hs9, h932, hnv9, hnrm9, hlen9⟩
    refine XL.q (q_assign rfl) rfl ?_
    refine XL.fin (kp 0 rfl (kp 3 rfl kn)) ?_
    refine XC.reg ?_
    refine XL.q (q_move rfl) rfl ?_
    refine XL.lo rfl (l_append2 (e := 33) (sz := 1) (by_ := 4) rfl rfl (by kernel_rfl) rfl Sl.nil (by first | exact Rd.mono (by assumption) SubC.sub | exact Sl.rd (by assumption) SubC.sub) (by first | exact nums_one | simp [Value.oneCell']) PickC.perm (by unfold maxLen; omega) (by omega) rfl fun v11 B11 hs11 => ?_)
    replace hs11 : Sw v11 os B11 := sl_eq hs11 (by simp) (by simp)
    refine XL.callV (aS rfl a0) (by kernel_rfl) (trim_spec _ os _ (hs11.rd SubC.sub) (by omega)) rfl ?_
    have hs12 := Sw_trim hs11
    rw [show trim os = os by rw [trim, nrm_trim on, List.take_length]] at hs12
    generalize vHi (tl os os.length) v11 = vl at *
    refine XL.q (q_assign rfl) rfl ?_
    refine XL.fin (kp 3 rfl (kp 4 rfl kn)) ?_
    refine XC.join (α := Value) (fun y => [(3, r9), (4, y)]) (fun _ => B11 ++ (M9 ++ B)) (fun _ => []) (fun y => Sw y (os.take 8) B11) ?_ ?_
    ·
      refine XC.reg ?_
      refine XL.q (q_move rfl) rfl ?_
      refine XL.q (q_lenV2 (sz := 1) rfl (by kernel_rfl) (by first | assumption | exact Sl.rd (by assumption) (fun _ h => h))) rfl ?_
      refine XL.q (q_bin rfl rfl rfl) rfl ?_
      refine XL.fin (kp 3 rfl (kp 4 rfl (kp 15 rfl kn))) ?_
      refine XC.cond rfl (fun hc => ?_) (fun hc => ?_)
      ·
        have hl9 : 8 < os.length := by simp at hc; omega
        refine XC.reg1 ?_
        refine XL.q (q_move rfl) rfl ?_
        refine XL.q (q_hiV2 (sz := 1) (a := 8) rfl rfl (by kernel_rfl) rfl (by first | assumption | exact Sl.rd (by assumption) (fun _ h => h)) (by omega)) rfl ?_
        refine XL.q (q_assign rfl) rfl ?_
        refine XL.nil ?_
        exact jn _ (sl_eq (hs12.hiV 8 (by omega)) (by simp; omega) (by rw [Nat.mul_one, ← nums_take])) (kp 3 rfl (kp 4 rfl kn)) .rfl (fun _ h => h)
      ·
        have hl9 : os.length = 8 := by simp at hc; omega
        refine XC.skip ?_
        exact jn vl (sl_eq hs12 (by simp; omega) (by rw [List.take_of_length_le (by omega)])) (kp 3 rfl (kp 4 rfl kn)) .rfl (fun _ h => h)
    ·
      rintro y hs4
      have h8 : (os.take 8).length = 8 := by simp; omega
      have hg7 := (ow.take 8).get 7
      have hnl := low255 ow hl8
      have hw8 : w32 ((os.take 8).set 7 ((os.take 8).getD 7 0 % 2147483648)) := (ow.take 8).set (by omega)
      have hl88 : ((os.take 8).set 7 ((os.take 8).getD 7 0 % 2147483648)).length = 8 := by simp; omega
      refine XC.seq ?_
      refine XC.reg ?_
      refine XL.q (q_move rfl) rfl ?_
      refine XL.q (q_lenV2 (sz := 1) rfl (by kernel_rfl) (by first | assumption | exact Sl.rd (by assumption) (fun _ h => h))) rfl ?_
      refine XL.q (q_cmp true rfl rfl (eqT (by omega))) rfl ?_
      refine XL.fin (kp 3 rfl (kp 4 rfl (kp 20 rfl kn))) ?_
      refine XC.condT rfl ?_
      refine XC.reg1 ?_
      refine XL.q (q_move rfl) rfl ?_
      refine XL.q (q_move rfl) rfl ?_
      refine XL.q (q_atV2 (sz := 1) (a := 7) rfl rfl (by kernel_rfl) rfl (by first | assumption | exact Sl.rd (by assumption) (fun _ h => h)) (by omega)) rfl ?_
      refine XL.q (q_ldVN2 (k := .u32) rfl (by kernel_rfl) (by first | exact Rd.mono (by assumption) SubC.sub | exact Sl.rd (by assumption) SubC.sub) (by omega)) rfl ?_
      refine XL.q (q_andD 31 2147483648 rfl rfl rfl rfl rfl (by show _ < 4294967296; first | assumption | exact Nat.mod_lt _ (by decide) | omega) (by decide)) rfl ?_
      refine XL.q (q_atV2 (sz := 1) (a := 7) rfl rfl (by kernel_rfl) rfl (by first | assumption | exact Sl.rd (by assumption) (fun _ h => h)) (by omega)) rfl ?_
      refine XL.lo rfl (l_stV2 rfl rfl rfl (by kernel_rfl) (by assumption) (by omega) PickC.perm fun Bs1 hst1 => ?_)
      replace hst1 : Sw y ((os.take 8).set 7 ((os.take 8).getD 7 0 % 2147483648)) Bs1 := sl_eq hst1 (by simp) rfl
      generalize (os.take 8).set 7 ((os.take 8).getD 7 0 % 2147483648) = lw at *
      refine XL.fin (kp 3 rfl (kp 4 rfl kn)) ?_
      refine XC.reg1 ?_
      refine XL.q (q_move rfl) rfl ?_
      refine XL.callV (aS rfl a0) (by kernel_rfl) (trim_spec _ lw _ (hst1.rd SubC.sub) (by omega)) rfl ?_
      have hs28 := Sw_trim hst1
      have h2832 := trim_w32 hw8
      have h28nv := trim_nv lw
      have h28l : (trim lw).length ≤ 8 := by rw [trim_len]; have := tl_le lw lw.length; omega
      generalize vHi (tl lw lw.length) y = v28 at *
      generalize trim lw = tw at *
      refine XL.q (q_move rfl) rfl ?_
      refine XL.lo rfl (l_buildSlice (e := 33) (sz := 1) (z := [.int .u32 0]) (by kernel_rfl) (eS rfl e0) (bdS 0 1 rfl (by rfl) bd0) rfl fun b30 => ?_)
      refine XL.call (aS rfl (aS rfl a0)) (by kernel_rfl) (times_spec _ _ hw [19] _ (hs9.rd SubC.sub) (Rd.whole (n := 1) At.mem (by rfl)) h932 w32_19 (by omega) (by decide)) rfl ?_
      rintro r31 M31 J31 ⟨rfl, tw2, hs31, h3132, h31nv, h31n, h31l⟩
      refine XL.call (aS rfl (aS rfl a0)) (by kernel_rfl) (plus_spec _ _ tw tw2 _ (hs28.rd SubC.sub) (hs31.rd SubC.sub) h2832 h3132 (by omega) (by simp at h31l; omega)) rfl ?_
      rintro r32 M32 J32 ⟨rfl, ps, hs32, h3232, h32nv, h32n, h32l⟩
      refine XL.q (q_assign rfl) rfl ?_
      refine XL.nil ?_
      refine nb ?_
      rw [h28nv, hnl, h31nv, hnv9, two255, show nv [19] = 19 from rfl] at h32nv
      have hdec : nv ps < nv os := by rw [h32nv]; omega
      exact rn (r32, ps, M32) ⟨.inl (hs32.rd fun _ h => h), h3232, h32n, Nat.le_trans (nrm_len h32n ow (Nat.le_of_lt hdec)) ol, by dsimp only; rw [h32nv, mod_step, oe]⟩ hdec (kp 0 rfl kn) (Fit.sub (List.sublist_append_left _ _)) (fun _ h => h)
  ·
    have hle : m ≤ 255 := by simp at hc; omega
    have hlt := Nat.lt_of_lt_of_le hm2 (pow255' hle)
    refine XC.exit ?_
    refine te ?_
    refine re ?_
    refine be rfl ?_
    refine nx (kp 0 rfl kn) ?_
    refine XC.seq ?_
    refine XC.reg ?_
    refine XL.q (q_move rfl) rfl ?_
    refine XL.call a0 (by kernel_rfl) (rP_spec _) rfl ?_
    rintro r34 M34 J34 ⟨rfl, hp34⟩
    refine XL.call (aS rfl (aS rfl a0)) (by kernel_rfl) (cmp_spec _ _ os pWs _ (Rd.mono hv SubC.sub) (hp34.rd SubC.sub) ow pWs_w32 (by omega) (by decide)) rfl ?_
    rintro r35 M35 J35 ⟨rfl, rfl, c35, rfl, hc1, hc2⟩
    rw [pWs_nv] at hc1 hc2
    refine XL.q (q_bin rfl rfl rfl) rfl ?_
    refine XL.fin (kp 0 rfl (kp 36 rfl kn)) ?_
    refine XC.cond rfl (fun hc => ?_) (fun hc => ?_)
    ·
      have hge : p25 ≤ nv os := by simp at hc; omega
      refine XC.reg1 ?_
      refine XL.q (q_move rfl) rfl ?_
      refine XL.call a0 (by kernel_rfl) (rP_spec _) rfl ?_
      rintro r38 M38 J38 ⟨rfl, hp38⟩
      refine XL.call (aS rfl (aS rfl a0)) (by kernel_rfl) (less_spec _ _ os pWs _ (Rd.mono hv SubC.sub) (hp38.rd SubC.sub) ow pWs_w32 (by omega) (by decide) (by rw [pWs_nv]; exact hge)) rfl ?_
      rintro r39 M39 J39 ⟨rfl, ls, hs39, h3932, h39nv, h39n, h39l⟩
      refine XL.q (q_assign rfl) rfl ?_
      refine XL.fin (kp 0 rfl kn) ?_
      refine XC.reg ?_
      refine XL.q (q_move rfl) rfl ?_
      refine XL.q (q_assign rfl) rfl ?_
      refine XL.fin (kp 2 rfl kn) ?_
      refine XC.ret ?_
      exact ⟨_, M39, [], res1 rfl rfl, List.sublist_append_left _ _, by simp, rfl, ls, .inl (hs39.rd fun _ h => h), h3932, by rw [h39nv, pWs_nv, ← oe]; unfold p25 at *; omega, h39n⟩
    ·
      have hlt2 : nv os < p25 := by simp at hc; omega
      refine XC.skip ?_
      refine nx (kp 0 rfl kn) ?_
      refine XC.reg ?_
      refine XL.q (q_move rfl) rfl ?_
      refine XL.q (q_assign rfl) rfl ?_
      refine XL.fin (kp 2 rfl kn) ?_
      refine XC.ret ?_
      exact ⟨_, B, [], res1 rfl rfl, List.sublist_append_right _ _, by simp, rfl, os, hvo, ow, by rw [← oe]; exact (Nat.mod_eq_of_lt hlt2).symm, on⟩

theorem radd_spec (va vb : Value) (a b : List Nat) (A : Mem) (ha : Rw A va a) (hb : Rw A vb b) (wa : w32 a) (wb : w32 b) (la : a.length ≤ 1000) (lb : b.length ≤ 1000) : FnX Try.prog 27 [va, vb] [] A fun r M J => J = [] ∧ Nr A r M ((nv a + nv b) % p25) := by
  refine FnX.enter (N := 9) Try.func27 rfl rfl rfl fun w => ?_
  refine XC.keep (kp 0 rfl (kp 1 rfl kn)) ?_
  refine XC.reg ?_
  refine XL.q (q_assign rfl) rfl ?_
  refine XL.fin (kp 0 rfl (kp 1 rfl kn)) ?_
  refine XC.reg ?_
  refine XL.q (q_move rfl) rfl ?_
  refine XL.q (q_move rfl) rfl ?_
  refine XL.call (aS rfl (aS rfl a0)) (by kernel_rfl) (plus_spec _ _ a b _ (Rd.mono ha SubC.sub) (Rd.mono hb SubC.sub) wa wb (by omega) (by omega)) rfl ?_
  rintro r7 M7 J7 ⟨rfl, ws7, hs7, hw7, hv7, hn7, hl7⟩
  refine XL.call (aS rfl a0) (by kernel_rfl) (rmod_spec _ ws7 _ (hs7.rd SubC.sub) hw7 hn7 (by omega)) rfl ?_
  rintro r8 M8 J8 ⟨rfl, ws8, hs8, hw8, hv8, hn8⟩
  replace hs8 := rw_or hs8 (hs7.rd fun _ h => h)
  refine XL.q (q_assign rfl) rfl ?_
  refine XL.fin (kp 4 rfl kn) ?_
  refine XC.ret ?_
  exact ⟨_, _, [], res1 rfl rfl, List.Sublist.refl _, by simp, rfl, ws8, rd_eq (Rd.mono hs8 SubC.sub) rfl rfl, hw8, by rw [hv8, hv7], hn8⟩

theorem rmul_spec (va vb : Value) (a b : List Nat) (A : Mem) (ha : Rw A va a) (hb : Rw A vb b) (wa : w32 a) (wb : w32 b) (la : a.length ≤ 1000) (lb : b.length ≤ 1000) : FnX Try.prog 32 [va, vb] [] A fun r M J => J = [] ∧ Nr A r M ((nv a * nv b) % p25) := by
  refine FnX.enter (N := 9) Try.func32 rfl rfl rfl fun w => ?_
  refine XC.keep (kp 0 rfl (kp 1 rfl kn)) ?_
  refine XC.reg ?_
  refine XL.q (q_assign rfl) rfl ?_
  refine XL.fin (kp 0 rfl (kp 1 rfl kn)) ?_
  refine XC.reg ?_
  refine XL.q (q_move rfl) rfl ?_
  refine XL.q (q_move rfl) rfl ?_
  refine XL.call (aS rfl (aS rfl a0)) (by kernel_rfl) (times_spec _ _ a b _ (Rd.mono ha SubC.sub) (Rd.mono hb SubC.sub) wa wb (by omega) (by omega)) rfl ?_
  rintro r7 M7 J7 ⟨rfl, ws7, hs7, hw7, hv7, hn7, hl7⟩
  refine XL.call (aS rfl a0) (by kernel_rfl) (rmod_spec _ ws7 _ (hs7.rd SubC.sub) hw7 hn7 (by omega)) rfl ?_
  rintro r8 M8 J8 ⟨rfl, ws8, hs8, hw8, hv8, hn8⟩
  replace hs8 := rw_or hs8 (hs7.rd fun _ h => h)
  refine XL.q (q_assign rfl) rfl ?_
  refine XL.fin (kp 4 rfl kn) ?_
  refine XC.ret ?_
  exact ⟨_, _, [], res1 rfl rfl, List.Sublist.refl _, by simp, rfl, ws8, rd_eq (Rd.mono hs8 SubC.sub) rfl rfl, hw8, by rw [hv8, hv7], hn8⟩

theorem rsub_spec (va vb : Value) (a b : List Nat) (A : Mem) (ha : Rw A va a) (hb : Rw A vb b) (wa : w32 a) (wb : w32 b) (la : a.length ≤ 1000) (lb : b.length ≤ 1000) (hle : nv b ≤ nv a + p25) : FnX Try.prog 29 [va, vb] [] A fun r M J => J = [] ∧ Nr A r M ((nv a + p25 - nv b) % p25) := by
  refine FnX.enter (N := 11) Try.func29 rfl rfl rfl fun w => ?_
  refine XC.keep (kp 0 rfl (kp 1 rfl kn)) ?_
  refine XC.reg ?_
  refine XL.q (q_assign rfl) rfl ?_
  refine XL.fin (kp 0 rfl (kp 1 rfl kn)) ?_
  refine XC.reg ?_
  refine XL.q (q_move rfl) rfl ?_
  refine XL.call a0 (by kernel_rfl) (rP_spec _) rfl ?_
  rintro r6 M6 J6 ⟨rfl, hp6⟩
  refine XL.call (aS rfl (aS rfl a0)) (by kernel_rfl) (plus_spec _ _ a pWs _ (Rd.mono ha SubC.sub) (hp6.rd SubC.sub) wa pWs_w32 (by omega) (by decide)) rfl ?_
  rintro r7 M7 J7 ⟨rfl, ws7, hs7, hw7, hv7, hn7, hl7⟩
  rw [pWs_nv] at hv7
  rw [pWs_len] at hl7
  refine XL.q (q_move rfl) rfl ?_
  refine XL.call (aS rfl (aS rfl a0)) (by kernel_rfl) (less_spec _ _ ws7 b _ (hs7.rd SubC.sub) (Rd.mono hb SubC.sub) hw7 wb (by omega) (by omega) (by rw [hv7]; exact hle)) rfl ?_
  rintro r9 M9 J9 ⟨rfl, ws9, hs9, hw9, hv9, hn9, hl9⟩
  refine XL.call (aS rfl a0) (by kernel_rfl) (rmod_spec _ ws9 _ (hs9.rd SubC.sub) hw9 hn9 (by omega)) rfl ?_
  rintro r10 M10 J10 ⟨rfl, ws10, hs10, hw10, hv10, hn10⟩
  replace hs10 := rw_or hs10 (hs9.rd fun _ h => h)
  refine XL.q (q_assign rfl) rfl ?_
  refine XL.fin (kp 4 rfl kn) ?_
  refine XC.ret ?_
  exact ⟨_, _, [], res1 rfl rfl, List.Sublist.refl _, by simp, rfl, ws10, rd_eq (Rd.mono hs10 SubC.sub) rfl rfl, hw10, by rw [hv10, hv9, hv7], hn10⟩

theorem rpow_spec (va ve : Value) (a e : List Nat) (A : Mem) (ha : Rw A va a) (he : Rw A ve e) (wa : w32 a) (we : w32 e) (la : a.length ≤ 1000) (le : e.length ≤ 1000) : FnX Try.prog 16 [va, ve] [] A fun r M J => J = [] ∧ Nr A r M (nv a ^ nv e % p25) := by
  refine FnX.enter (N := 26) Try.func16 rfl rfl rfl fun w => ?_
  refine XC.keep (kp 0 rfl (kp 1 rfl kn)) ?_
  refine XC.reg ?_
  refine XL.q (q_assign rfl) rfl ?_
  refine XL.fin (kp 0 rfl (kp 1 rfl kn)) ?_
  refine XC.reg ?_
  refine XL.lo rfl (l_buildSlice (e := 33) (sz := 1) (z := [.int .u32 0]) (by kernel_rfl) (eS rfl e0) (bdS 0 1 rfl (by rfl) bd0) rfl fun b7 => ?_)
  refine XL.q (q_assign rfl) rfl ?_
  refine XL.fin (kp 0 rfl (kp 1 rfl (kp 5 rfl kn))) ?_
  refine XC.seq ?_
  refine XC.reg ?_
  refine XL.q (q_move rfl) rfl ?_
  refine XL.call (aS rfl a0) (by kernel_rfl) (len_spec _ e _ (Rd.mono he SubC.sub) we (by omega)) rfl ?_
  rintro r9 M9 J9 ⟨rfl, rfl, m, rfl, hm1, hm2, hm3⟩
  refine XL.q (q_num ((m : Int) - 1) rfl rfl (sub64 rfl (by omega) (by omega))) rfl ?_
  refine XL.q (q_assign rfl) rfl ?_
  refine XL.fin (kp 0 rfl (kp 1 rfl (kp 5 rfl (kp 6 rfl kn)))) ?_
  refine XC.block ?_
  have hs0 : Rw [(b7, blk [.int .u32 1] 33)] (.slice (some ⟨b7, 0, none⟩) 1 1) [1] := Rd.whole (n := 1) List.mem_cons_self (by rfl)
  generalize hB7 : [(b7, blk [.int .u32 1] 33)] = B7 at *
  generalize (Value.slice (some ⟨b7, 0, none⟩) 1 1) = v7 at *
  refine XC.loop (α := Nat × Value × List Nat × Mem) (fun x => [(0, va), (1, ve), (5, x.2.1), (6, .int .i64 ((x.1 : Int) - 1))]) (fun x => x.2.2.2) (fun _ => []) (fun x => x.1 ≤ m ∧ Rw x.2.2.2 x.2.1 x.2.2.1 ∧ w32 x.2.2.1 ∧ nrm x.2.2.1 ∧ nv x.2.2.1 = pw (nv a) (nv e) x.1) (fun x => x.1) (m, v7, [1], B7) ⟨Nat.le_refl _, hs0, w32_1, nrm_1, (by unfold pw; rw [Nat.div_eq_of_lt hm2]; rfl)⟩ (kp 0 rfl (kp 1 rfl (kp 5 rfl (kp 6 rfl kn)))) (Fit.eq (by simp [hB7])) (fun _ h => h) ?_
  clear hs0 hB7
  rintro ⟨j, u, os, B⟩ ⟨hj, hv, ow, on, oe⟩
  dsimp only at hj hv ow on oe ⊢
  refine XC.seq ?_
  refine XC.reg ?_
  refine XL.q (q_move rfl) rfl ?_
  refine XL.q (q_bin rfl rfl rfl) rfl ?_
  refine XL.fin (kp 0 rfl (kp 1 rfl (kp 5 rfl (kp 6 rfl (kp 12 rfl kn))))) ?_
  refine XC.cond rfl (fun hc => ?_) (fun hc => ?_)
  ·
    have hj0 : 0 < j := by simp at hc; omega
    obtain ⟨i, rfl⟩ : ∃ i, j = i + 1 := ⟨j - 1, by omega⟩
    have ei : ((i + 1 : Nat) : Int) - 1 = (i : Int) := by omega
    rw [ei]
    have hps := pw_step (nv a) (nv e) i
    have ol : os.length ≤ 1000 := (by have := nrm_len8 on (by rw [show nv os = _ from oe]; unfold pw; exact Nat.lt_trans (Nat.mod_lt _ (by decide)) (by decide)); omega)
    have hbt : nv e / 2 ^ i % 2 < 2 := Nat.mod_lt _ (by decide)
    refine XC.skip ?_
    refine nx (kp 0 rfl (kp 1 rfl (kp 5 rfl (kp 6 rfl kn)))) ?_
    refine XC.seq ?_
    refine XC.block ?_
    refine XC.reg ?_
    refine XL.q (q_move rfl) rfl ?_
    refine XL.q (q_move rfl) rfl ?_
    refine XL.call (aS rfl (aS rfl a0)) (by kernel_rfl) (rmul_spec _ _ os os _ (Rd.mono hv SubC.sub) (Rd.mono hv SubC.sub) ow ow ol ol) rfl ?_
    rintro r17 M17 J17 ⟨rfl, ws17, hs17, hw17, hv17, hn17⟩
    have hl17 : ws17.length ≤ 1000 := (by have := nrm_len8 hn17 (by rw [hv17]; exact Nat.lt_trans (Nat.mod_lt _ (by decide)) (by decide)); omega)
    refine XL.q (q_assign rfl) rfl ?_
    refine XL.fin (kp 0 rfl (kp 1 rfl (kp 5 rfl (kp 6 rfl kn)))) ?_
    refine XC.reg ?_
    refine XL.q (q_move rfl) rfl ?_
    refine XL.q (q_move rfl) rfl ?_
    refine XL.callV (aS rfl (aS rfl a0)) (by kernel_rfl) (bit_spec _ e i _ (Rd.mono he SubC.sub) we (by omega) (by omega)) rfl ?_
    generalize nv e / 2 ^ i % 2 = bt at *
    refine XL.q (q_cmp (decide (bt = 1)) rfl rfl (by rcases (show bt = 0 ∨ bt = 1 by omega) with h | h <;> subst h <;> rfl)) rfl ?_
    refine XL.fin (kp 0 rfl (kp 1 rfl (kp 5 rfl (kp 6 rfl (kp 21 rfl kn))))) ?_
    refine XC.cond rfl (fun hc => ?_) (fun hc => ?_)
    ·
      have hb1 : bt = 1 := by simpa using hc
      rw [if_pos hb1] at hps
      refine XC.reg1 ?_
      refine XL.q (q_move rfl) rfl ?_
      refine XL.q (q_move rfl) rfl ?_
      refine XL.call (aS rfl (aS rfl a0)) (by kernel_rfl) (rmul_spec _ _ ws17 a _ (Rd.mono hs17 SubC.sub) (Rd.mono ha SubC.sub) hw17 wa hl17 la) rfl ?_
      rintro r24 M24 J24 ⟨rfl, ws24, hs24, hw24, hv24, hn24⟩
      refine XL.q (q_assign rfl) rfl ?_
      refine XL.nil ?_
      refine nb ?_
      refine nx (kp 0 rfl (kp 1 rfl (kp 5 rfl (kp 6 rfl kn)))) ?_
      refine XC.reg1 ?_
      refine XL.q (q_move rfl) rfl ?_
      refine XL.q (q_num ((i : Int) - 1) rfl rfl (sub64 rfl (by omega) (by omega))) rfl ?_
      refine XL.q (q_assign rfl) rfl ?_
      refine XL.nil ?_
      exact rn (i, r24, ws24, M24) ⟨by dsimp only; omega, hs24, hw24, hn24, by dsimp only; rw [hv24, hv17, oe, hps, Nat.mul_mod_mod]⟩ (by dsimp only; omega) (kp 0 rfl (kp 1 rfl (kp 5 rfl (kp 6 rfl kn)))) (Fit.sub (List.sublist_append_left _ _)) (fun _ h => h)
    ·
      have hb1 : ¬ bt = 1 := by simpa using hc
      rw [if_neg hb1] at hps
      refine XC.skip ?_
      refine nb ?_
      refine nx (kp 0 rfl (kp 1 rfl (kp 5 rfl (kp 6 rfl kn)))) ?_
      refine XC.reg1 ?_
      refine XL.q (q_move rfl) rfl ?_
      refine XL.q (q_num ((i : Int) - 1) rfl rfl (sub64 rfl (by omega) (by omega))) rfl ?_
      refine XL.q (q_assign rfl) rfl ?_
      refine XL.nil ?_
      exact rn (i, r17, ws17, M17) ⟨by dsimp only; omega, hs17, hw17, hn17, by dsimp only; rw [hv17, oe, hps]⟩ (by dsimp only; omega) (kp 0 rfl (kp 1 rfl (kp 5 rfl (kp 6 rfl kn)))) (Fit.sub (List.sublist_append_left _ _)) (fun _ h => h)
  ·
    have hj0 : j = 0 := by simp at hc; omega
    subst hj0
    refine XC.exit ?_
    refine te ?_
    refine re ?_
    refine be rfl ?_
    refine nx (kp 5 rfl kn) ?_
    refine XC.reg ?_
    refine XL.q (q_move rfl) rfl ?_
    refine XL.q (q_assign rfl) rfl ?_
    refine XL.fin (kp 4 rfl kn) ?_
    refine XC.ret ?_
    exact ⟨_, B, [], res1 rfl rfl, List.Sublist.refl _, by simp, rfl, os, hv, ow, by rw [oe]; unfold pw; rw [Nat.pow_zero, Nat.div_one], on⟩

theorem w32_2 : w32 [2] := by unfold w32; decide
theorem nr_len {A M : Mem} {r : Value} {ws : List Nat} {x : Nat} (h : nv ws = x % p25) (hn : nrm ws) : ws.length ≤ 1000 := by
  have := nrm_len8 hn (by rw [h]; exact Nat.lt_trans (Nat.mod_lt _ (by decide)) (by decide)); omega

theorem rinv_spec (va : Value) (a : List Nat) (A : Mem) (ha : Rw A va a) (wa : w32 a) (la : a.length ≤ 1000) : FnX Try.prog 18 [va] [] A fun r M J => J = [] ∧ ∃ n, n + 1 = p25 - 1 ∧ Nr A r M (nv a ^ n % p25) := by
  refine FnX.enter (N := 8) Try.func18 rfl rfl rfl fun w => ?_
  refine XC.keep (kp 0 rfl kn) ?_
  refine XC.reg ?_
  refine XL.q (q_assign rfl) rfl ?_
  refine XL.fin (kp 0 rfl kn) ?_
  refine XC.reg ?_
  refine XL.q (q_move rfl) rfl ?_
  refine XL.call a0 (by kernel_rfl) (rP_spec _) rfl ?_
  rintro r4 M4 J4 ⟨rfl, hp4⟩
  refine XL.lo rfl (l_buildSlice (e := 33) (sz := 1) (z := [.int .u32 0]) (by kernel_rfl) (eS rfl e0) (bdS 0 1 rfl (by rfl) bd0) rfl fun b5 => ?_)
  refine XL.call (aS rfl (aS rfl a0)) (by kernel_rfl) (less_spec _ _ pWs [2] _ (hp4.rd SubC.sub) (Rd.whole (n := 1) At.mem (by rfl)) pWs_w32 w32_2 (by decide) (by decide) (by decide)) rfl ?_
  rintro r6 M6 J6 ⟨rfl, ws6, hs6, hw6, hv6, hn6, hl6⟩
  rw [pWs_nv] at hv6
  rw [pWs_len] at hl6
  refine XL.call (aS rfl (aS rfl a0)) (by kernel_rfl) (rpow_spec _ _ a ws6 _ (Rd.mono ha SubC.sub) (hs6.rd SubC.sub) wa hw6 la (by omega)) rfl ?_
  rintro r7 M7 J7 ⟨rfl, ws7, hs7, hw7, hv7, hn7⟩
  have hv61 : nv ws6 + 1 = p25 - 1 := by rw [hv6]; decide
  refine XL.q (q_assign rfl) rfl ?_
  refine XL.fin (kp 2 rfl kn) ?_
  refine XC.ret ?_
  exact ⟨_, _, [], res1 rfl rfl, List.Sublist.refl _, by simp, rfl, _, hv61, ws7, rd_eq (Rd.mono hs7 SubC.sub) rfl rfl, hw7, hv7, hn7⟩

theorem nrm_zero {a : List Nat} (h : nrm a) : a.length = 0 ↔ nv a = 0 := by
  constructor
  · intro h0; rw [List.eq_nil_of_length_eq_zero h0]; rfl
  · intro h0
    rcases Nat.eq_zero_or_pos a.length with h1 | h1
    · exact h1
    · have := nrm_le h (by rintro rfl; simp at h1)
      have := xp_pos (a.length - 1)
      omega

theorem rsquare_spec (va : Value) (a : List Nat) (A : Mem) (ha : Rw A va a) (wa : w32 a) (na : nrm a) (la : a.length ≤ 1000) (n : Nat) (hn : n = p25 / 2 ^ 1) : FnV Try.prog 36 [va] A (.bool (decide (nv a = 0 ∨ nv a ^ n % p25 = 1))) := by
  refine FnX.enter (N := 13) Try.func36 rfl rfl rfl fun w => ?_
  refine XC.keep (kp 0 rfl kn) ?_
  refine XC.reg ?_
  refine XL.q (q_assign rfl) rfl ?_
  refine XL.fin (kp 0 rfl kn) ?_
  refine XC.seq ?_
  refine XC.reg ?_
  refine XL.q (q_move rfl) rfl ?_
  refine XL.q (q_lenV2 (sz := 1) rfl (by kernel_rfl) (by first | assumption | exact Sl.rd (by assumption) (fun _ h => h))) rfl ?_
  refine XL.q (q_bin rfl rfl rfl) rfl ?_
  refine XL.fin (kp 0 rfl (kp 5 rfl kn)) ?_
  refine XC.cond rfl (fun hc => ?_) (fun hc => ?_)
  ·
    have h0 : nv a = 0 := (nrm_zero na).1 (by generalize a.length = k at hc ⊢; simp at hc; omega)
    refine XC.reg ?_
    refine XL.q (q_assign rfl) rfl ?_
    refine XL.fin (kp 2 rfl kn) ?_
    refine XC.ret ?_
    refine tr ?_
    exact ⟨_, [], [], res1 rfl rfl, List.nil_sublist _, by simp, by simp [h0], rfl, rfl⟩
  ·
    have h0 : nv a ≠ 0 := fun h => absurd ((nrm_zero na).2 h) (by generalize a.length = k at hc ⊢; simp at hc; omega)
    refine XC.skip ?_
    refine nx (kp 0 rfl kn) ?_
    refine XC.reg ?_
    refine XL.q (q_move rfl) rfl ?_
    refine XL.call a0 (by kernel_rfl) (rP_spec _) rfl ?_
    rintro r7 M7 J7 ⟨rfl, hp7⟩
    refine XL.call (aS rfl (aS rfl a0)) (by kernel_rfl) (down_spec _ pWs 1 _ (hp7.rd SubC.sub) pWs_w32 (by decide) (by decide)) rfl ?_
    rintro r8 M8 J8 ⟨rfl, ws8, hs8, hw8, hv8, hn8, hl8⟩
    rw [pWs_nv, ← hn] at hv8
    rw [pWs_len] at hl8
    clear hn
    refine XL.call (aS rfl (aS rfl a0)) (by kernel_rfl) (rpow_spec _ _ a ws8 _ (Rd.mono ha SubC.sub) (hs8.rd SubC.sub) wa hw8 la (by omega)) rfl ?_
    rintro r9 M9 J9 ⟨rfl, ws9, hs9, hw9, hv9, hn9⟩
    rw [hv8] at hv9
    have hl9 := nr_len (A := A) (M := []) (r := va) hv9 hn9
    refine XL.lo rfl (l_buildSlice (e := 33) (sz := 1) (z := [.int .u32 0]) (by kernel_rfl) (eS rfl e0) (bdS 0 1 rfl (by rfl) bd0) rfl fun b10 => ?_)
    refine XL.call (aS rfl (aS rfl a0)) (by kernel_rfl) (cmp_spec _ _ ws9 [1] _ (Rd.mono hs9 SubC.sub) (Rd.whole (n := 1) At.mem (by rfl)) hw9 w32_1 (by omega) (by decide)) rfl ?_
    rintro r11 M11 J11 ⟨rfl, rfl, c, rfl, hc1, hc2⟩
    rw [show nv [1] = 1 from rfl, hv9] at hc1 hc2
    have hz : c = 0 ↔ nv a ^ n % p25 = 1 := by generalize nv a ^ n % p25 = z at hc1 hc2 ⊢; omega
    refine XL.q (q_cmp (decide (nv a ^ n % p25 = 1)) rfl rfl (by rw [← decide_eq_decide.2 hz]; rfl)) rfl ?_
    refine XL.q (q_assign rfl) rfl ?_
    refine XL.fin (kp 2 rfl kn) ?_
    refine XC.ret ?_
    exact ⟨_, [], [], res1 rfl rfl, List.nil_sublist _, by simp, by simp [h0], rfl, rfl⟩

theorem of_val {p : List Nat} (h : p.length = 32) (hp : ∀ x ∈ p, x < 256) : bv (p.set 31 (p.getD 31 0 % 128)) = bv p % 57896044618658097711785492504343953926634992332820282019728792003956564819968 := by
  have h1 := bv_take_succ (p := p) (j := 31) (by omega)
  rw [show 31 + 1 = p.length from h.symm, List.take_length] at h1
  have h2 := bv_take_succ (p := p.set 31 (p.getD 31 0 % 128)) (j := 31) (by simp; omega)
  rw [show 31 + 1 = (p.set 31 (p.getD 31 0 % 128)).length by simp [h], List.take_length, List.take_set_of_le (by omega)] at h2
  have h3 : (p.set 31 (p.getD 31 0 % 128)).getD 31 0 = p.getD 31 0 % 128 := by rw [List.getD, List.getElem?_set_self (by omega), Option.getD_some]
  rw [h3] at h2
  have h4 := bv_lt (p := p.take 31) fun x hx => hp x (List.mem_of_mem_take hx)
  have h5 := getD_lt (i := 31) hp (by decide)
  rw [List.length_take, Nat.min_eq_left (by omega)] at h4
  rw [show (256 : Nat) ^ 31 = 452312848583266388373324160190187140051835877600158453279131187530910662656 from rfl] at *
  omega

theorem rof_spec (v : Value) (p : List Nat) (A : Mem) (h : Rb A v p) (hp : ∀ x ∈ p, x < 256) (hl : p.length ≤ 1000000) : FnX Try.prog 10 [v] [] A fun r M J => J = [] ∧ Nr A r M (rdN p) := by
  refine FnX.enter (N := 19) Try.func10 rfl rfl rfl fun w => ?_
  refine XC.keep (kp 0 rfl kn) ?_
  refine XC.reg ?_
  refine XL.q (q_assign rfl) rfl ?_
  refine XL.fin (kp 0 rfl kn) ?_
  refine XC.seq ?_
  refine XC.reg ?_
  refine XL.q (q_move rfl) rfl ?_
  refine XL.q (q_lenV2 (sz := 1) rfl (by kernel_rfl) (by first | assumption | exact Sl.rd (by assumption) (fun _ h => h))) rfl ?_
  refine XL.q (q_bin rfl rfl rfl) rfl ?_
  refine XL.fin (kp 0 rfl (kp 6 rfl kn)) ?_
  refine XC.cond rfl (fun hc => ?_) (fun hc => ?_)
  ·
    have h32 : p.length ≠ 32 := by simp at hc; omega
    refine XC.reg ?_
    refine XL.q (q_assign rfl) rfl ?_
    refine XL.fin (kp 2 rfl kn) ?_
    refine XC.ret ?_
    refine tr ?_
    exact ⟨_, [], [], res1 rfl rfl, List.nil_sublist _, by simp, rfl, [], Rd.nil, (fun _ h => by simp at h), by rw [rdN, if_neg h32]; rfl, (fun k h => by simp at h)⟩
  ·
    have h32 : p.length = 32 := by simp at hc; omega
    have hpl : p.length ≤ 1000 := by omega
    refine XC.skip ?_
    refine nx (kp 0 rfl kn) ?_
    refine XC.reg ?_
    refine XL.q (q_assign rfl) rfl ?_
    refine XL.fin (kp 0 rfl (kp 3 rfl kn)) ?_
    refine XC.reg ?_
    refine XL.q (q_move rfl) rfl ?_
    refine XL.q (q_move rfl) rfl ?_
    refine XL.lo rfl (l_append2 (e := 5) (sz := 1) (by_ := 1) rfl rfl (by kernel_rfl) rfl (by first | assumption | exact Sl.nil) (by first | exact Rd.mono (by assumption) SubC.sub | exact Sl.rd (by assumption) SubC.sub) (by first | exact nums_one | simp [Value.oneCell']) PickC.perm (by unfold maxLen; omega) (by omega) rfl fun v9 B9 hs9 => ?_)
    replace hs9 : Sb v9 p B9 := sl_eq hs9 (by simp) (by simp)
    have hg31 := getD_lt (i := 31) hp (by decide)
    refine XL.q (q_assign rfl) rfl ?_
    refine XL.fin (kp 3 rfl kn) ?_
    refine XC.reg ?_
    refine XL.q (q_move rfl) rfl ?_
    refine XL.q (q_move rfl) rfl ?_
    refine XL.q (q_atV2 (sz := 1) (a := 31) rfl rfl (by kernel_rfl) rfl (by first | assumption | exact Sl.rd (by assumption) (fun _ h => h)) (by omega)) rfl ?_
    refine XL.q (q_ldVN2 (k := .u8) rfl (by kernel_rfl) (by first | exact Rd.mono (by assumption) SubC.sub | exact Sl.rd (by assumption) SubC.sub) (by omega)) rfl ?_
    refine XL.q (q_andD 7 128 rfl rfl rfl rfl rfl (by show _ < 256; first | assumption | exact Nat.mod_lt _ (by decide) | omega) (by decide)) rfl ?_
    refine XL.q (q_atV2 (sz := 1) (a := 31) rfl rfl (by kernel_rfl) rfl (by first | assumption | exact Sl.rd (by assumption) (fun _ h => h)) (by omega)) rfl ?_
    refine XL.lo rfl (l_stV2 rfl rfl rfl (by kernel_rfl) (by assumption) (by omega) PickC.perm fun Bs1 hst1 => ?_)
    replace hst1 : Sb v9 (p.set 31 (p.getD 31 0 % 128)) Bs1 := sl_eq hst1 (by simp) rfl
    have hq256 : ∀ x ∈ p.set 31 (p.getD 31 0 % 128), x < 256 := fun x hx => (List.mem_or_eq_of_mem_set hx).elim (hp x) (fun h => by omega)
    have hql : (p.set 31 (p.getD 31 0 % 128)).length = 32 := by simp [h32]
    have hqv := of_val h32 hp
    generalize p.set 31 (p.getD 31 0 % 128) = q at *
    refine XL.fin (kp 3 rfl kn) ?_
    refine XC.reg ?_
    refine XL.q (q_move rfl) rfl ?_
    refine XL.call (aS rfl a0) (by kernel_rfl) (low_spec _ q _ (hst1.rd SubC.sub) hq256 (by omega)) rfl ?_
    rintro r17 M17 J17 ⟨rfl, ws17, hs17, hw17, hv17, hn17, hl17⟩
    refine XL.call (aS rfl a0) (by kernel_rfl) (rmod_spec _ ws17 _ (hs17.rd SubC.sub) hw17 hn17 (by omega)) rfl ?_
    rintro r18 M18 J18 ⟨rfl, ws18, hs18, hw18, hv18, hn18⟩
    replace hs18 := rw_or hs18 (hs17.rd fun _ h => h)
    refine XL.q (q_assign rfl) rfl ?_
    refine XL.fin (kp 2 rfl kn) ?_
    refine XC.ret ?_
    exact ⟨_, _, [], res1 rfl rfl, List.Sublist.refl _, by simp, rfl, ws18, rd_eq (Rd.mono hs18 SubC.sub) rfl rfl, hw18, by rw [hv18, hv17, hqv, rdN, if_pos h32], hn18⟩
