/- Part 17 of the texts of this claim, one behind the other. -/
import Derived.Test.YtcfdeohjhhpmcaaDoorB16
set_option linter.unusedVariables false
set_option linter.unusedSimpArgs false
set_option linter.unusedVariables false
set_option linter.unusedSimpArgs false
namespace Go.Proofs.YtcfdeohjhhpmcaaDoor
open Go.Px
theorem nrm_trim {ws : List Nat} (h : nrm ws) : tl ws ws.length = ws.length := by
  cases hl : ws.length with
  | zero => rfl
  | succ k => rw [tl, if_neg (h k hl)]
theorem nrm_len {a b : List Nat} (ha : nrm a) (hb : w32 b) (h : nv a ≤ nv b) : a.length ≤ b.length := by
  rcases Nat.lt_or_ge b.length a.length with h1 | h1
  · have := nv_lt_len hb ha h1; omega
  · exact h1
theorem nrm_len8 {a : List Nat} (ha : nrm a) (h : nv a < 115792089237316195423570985008687907853269984665640564039457584007913129639936) : a.length ≤ 8 := by
  rcases Nat.lt_or_ge 8 a.length with h1 | h1
  · have h2 := nrm_le ha (by rintro rfl; simp at h1)
    have h3 := xp_mono (show 8 ≤ a.length - 1 by omega)
    have h4 : xp 8 = 115792089237316195423570985008687907853269984665640564039457584007913129639936 := rfl
    omega
  · exact h1
def pWs : List Nat := [4294967277, 4294967295, 4294967295, 4294967295, 4294967295, 4294967295, 4294967295, 2147483647]
theorem pWs_nv : nv pWs = p25 := rfl
theorem pWs_w32 : w32 pWs := by unfold w32 pWs; decide
theorem w32_1 : w32 [1] := by unfold w32; decide
theorem nrm_1 : nrm [1] := by
  intro k hk
  obtain rfl : k = 0 := by simpa using hk.symm
  decide
theorem w32_19 : w32 [19] := by unfold w32; decide
theorem pWs_len : pWs.length = 8 := rfl
instance (priority := low) SubC.union {X Y Z : Mem} [h1 : SubC X Z] [h2 : SubC Y Z] : SubC (X ++ Y) Z := ⟨fun x h => (List.mem_append.1 h).elim (h1.sub x) (h2.sub x)⟩
instance (priority := low) SubC.consC {b : Nat} {o : Obj} {X Z : Mem} [h1 : At Z b o] [h2 : SubC X Z] : SubC ((b, o) :: X) Z := ⟨fun x h => (List.mem_cons.1 h).elim (fun h => h ▸ h1.mem) (h2.sub x)⟩
/-- What a number's function answers, be it new or one that was there. -/
def Nr (A : Mem) (r : Value) (M : Mem) (x : Nat) : Prop := ∃ ws, Rw M r ws ∧ w32 ws ∧ nv ws = x ∧ nrm ws
theorem rw_or {M M2 : Mem} {r v : Value} {os ws : List Nat} (h : Rw M r os ∨ (r = v ∧ os = ws)) (h2 : Rw M2 v ws) : Rw (M ++ M2) r os := by
  rcases h with h | ⟨rfl, rfl⟩
  · exact h.mono fun _ h => List.mem_append_left _ h
  · exact h2.mono fun _ h => List.mem_append_right _ h
theorem low255 {os : List Nat} (w : w32 os) (hl : 8 ≤ os.length) : nv ((os.take 8).set 7 ((os.take 8).getD 7 0 % 2147483648)) = nv os % 57896044618658097711785492504343953926634992332820282019728792003956564819968 := by
  have h1 := nv_split os 8 hl
  have h8 : (os.take 8).length = 8 := by simp; omega
  have h2 := nv_set (ws := os.take 8) (j := 7) (x := (os.take 8).getD 7 0 % 2147483648) (by omega)
  have h3 := nv_take_succ (ws := os.take 8) (j := 7) (by omega)
  have h4 := nv_lt ((w.take 8).take 7)
  have h5 := (w.take 8).get 7
  rw [show 7 + 1 = (os.take 8).length from h8.symm, List.take_length] at h3
  rw [List.length_take, Nat.min_eq_left (by omega)] at h4
  rw [show xp 7 = 26959946667150639794667015087019630673637144422540572481103610249216 from rfl] at *
  rw [show xp 8 = 115792089237316195423570985008687907853269984665640564039457584007913129639936 from rfl] at *
  omega
theorem mod_step {V : Nat} : (V % 57896044618658097711785492504343953926634992332820282019728792003956564819968 + V / 57896044618658097711785492504343953926634992332820282019728792003956564819968 * 19) % p25 = V % p25 :=
  mod_of_settle (q := V / 57896044618658097711785492504343953926634992332820282019728792003956564819968) (by unfold p25; omega)
theorem two255 : (2 : Nat) ^ 255 = 57896044618658097711785492504343953926634992332820282019728792003956564819968 := rfl
theorem pow255 {n : Nat} (h : 255 < n) : (57896044618658097711785492504343953926634992332820282019728792003956564819968 : Nat) ≤ 2 ^ (n - 1) := two255 ▸ Nat.pow_le_pow_right (by decide) (by omega)
theorem pow255' {n : Nat} (h : n ≤ 255) : 2 ^ n ≤ (57896044618658097711785492504343953926634992332820282019728792003956564819968 : Nat) := two255 ▸ Nat.pow_le_pow_right (by decide) h
theorem len8_of {ws : List Nat} (w : w32 ws) (h : (57896044618658097711785492504343953926634992332820282019728792003956564819968 : Nat) ≤ nv ws) : 8 ≤ ws.length := by
  rcases Nat.lt_or_ge ws.length 8 with h1 | h1
  · have h2 := nv_lt w
    have h3 := xp_mono (show ws.length ≤ 7 by omega)
    rw [show xp 7 = 26959946667150639794667015087019630673637144422540572481103610249216 from rfl] at h3
    omega
  · exact h1

set_option maxRecDepth 100000 in
theorem rP_spec (A : Mem) : FnX Tryd.prog 61 [] [] A fun r M J => J = [] ∧ Sw r pWs M := by
  refine FnX.enter (N := 2) Tryd.func61 rfl rfl rfl fun w => ?_
  refine XC.keep kn ?_
  refine XC.reg ?_
  refine XL.q (q_assign rfl) rfl ?_
  refine XL.fin kn ?_
  refine XC.reg ?_
  refine XL.lo rfl (l_buildSlice (e := 49) (sz := 1) (z := [.int .u32 0, .int .u32 0, .int .u32 0, .int .u32 0, .int .u32 0, .int .u32 0, .int .u32 0, .int .u32 0]) (by kernel_rfl) (eS rfl (eS rfl (eS rfl (eS rfl (eS rfl (eS rfl (eS rfl (eS rfl e0)))))))) (bdS 0 1 rfl (by rfl) (bdS 1 1 rfl (by rfl) (bdS 2 1 rfl (by rfl) (bdS 3 1 rfl (by rfl) (bdS 4 1 rfl (by rfl) (bdS 5 1 rfl (by rfl) (bdS 6 1 rfl (by rfl) (bdS 7 1 rfl (by rfl) bd0)))))))) rfl fun b1 => ?_)
  refine XL.q (q_assign rfl) rfl ?_
  refine XL.fin (kp 0 rfl kn) ?_
  refine XC.ret ?_
  exact ⟨_, [_], [], res1 rfl rfl, List.Sublist.refl _, by simp, rfl, Sl.fresh (b := b1) (n := 8) rfl (by decide)⟩

set_option maxRecDepth 100000 in
theorem rmod_spec (v : Value) (ws : List Nat) (A : Mem) (h : Rw A v ws) (hw0 : w32 ws) (hn0 : nrm ws) (hl0 : ws.length ≤ 1048576) : FnX Tryd.prog 62 [v] [] A fun r M J => J = [] ∧ ∃ os, (Rw M r os ∨ (r = v ∧ os = ws)) ∧ w32 os ∧ nv os = nv ws % p25 ∧ nrm os := by
  refine FnX.enter (N := 41) Tryd.func62 rfl rfl rfl fun w => ?_
  refine XC.keep (kp 0 rfl kn) ?_
  refine XC.reg ?_
  refine XL.q (q_assign rfl) rfl ?_
  refine XL.fin (kp 0 rfl kn) ?_
  refine XC.seq ?_
  refine XC.block ?_
  refine XC.loop (α := Value × List Nat × Mem) (fun x => [(0, x.1)]) (fun x => x.2.2) (fun _ => []) (fun x => (Rw x.2.2 x.1 x.2.1 ∨ (x.1 = v ∧ x.2.1 = ws)) ∧ w32 x.2.1 ∧ nrm x.2.1 ∧ x.2.1.length ≤ 1048576 ∧ nv x.2.1 % p25 = nv ws % p25) (fun x => nv x.2.1) (v, ws, []) ⟨.inr ⟨rfl, rfl⟩, hw0, hn0, hl0, rfl⟩ (kp 0 rfl kn) .rfl (fun _ h => h) ?_
  rintro ⟨u, os, B⟩ ⟨hvo, ow, on, ol, oe⟩
  dsimp only at hvo ow on ol oe ⊢
  have hv := rw_or hvo h
  refine XC.seq ?_
  refine XC.reg ?_
  refine XL.q (q_move rfl) rfl ?_
  refine XL.call (aS rfl a0) (by kernel_rfl) (len_spec _ os _ (Rd.mono hv SubC.sub) ow (by omega)) rfl ?_
  rintro r6 M6 J6 ⟨rfl, rfl, m, rfl, hm1, hm2, hm3⟩
  refine XL.q (q_bin rfl rfl rfl) rfl ?_
  refine XL.fin (kp 0 rfl (kp 7 rfl kn)) ?_
  refine XC.cond rfl (fun hc => ?_) (fun hc => ?_)
  ·
    have hlt : 255 < m := by simp at hc; omega
    have hge := Nat.le_trans (pow255 hlt) (hm3 (by omega))
    have hl8 := len8_of ow hge
    refine XC.skip ?_
    refine nx (kp 0 rfl kn) ?_
    refine XC.block ?_
    refine XC.reg ?_
    refine XL.q (q_move rfl) rfl ?_
    refine XL.call (aS rfl (aS rfl a0)) (by kernel_rfl) (down_spec _ os 255 _ (Rd.mono hv SubC.sub) ow (by omega) (by decide)) rfl ?_
    rintro r9 M9 J9 ⟨rfl, hw, hs9, h932, hnv9, hnrm9, hlen9⟩
    refine XL.q (q_assign rfl) rfl ?_
    refine XL.fin (kp 0 rfl (kp 3 rfl kn)) ?_
    refine XC.reg ?_
    refine XL.q (q_move rfl) rfl ?_
    refine XL.lo rfl (l_append2 (e := 49) (sz := 1) (by_ := 4) rfl rfl (by kernel_rfl) rfl Sl.nil (by first | exact Rd.mono (by assumption) SubC.sub | exact Sl.rd (by assumption) SubC.sub | exact Rd.mono (By.rd (by assumption)) SubC.sub) (by first | exact nums_one | simp [Value.oneCell']) PickC.perm (by unfold maxLen; omega) (by omega) rfl fun v11 B11 hs11 => ?_)
    replace hs11 : Sw v11 os B11 := sl_eq hs11 (by simp) (by simp)
    refine XL.callV (aS rfl a0) (by kernel_rfl) (trim_spec _ os _ (hs11.rd SubC.sub) (by omega)) rfl ?_
    have hs12 := Sw_trim hs11
    rw [show trim os = os by rw [trim, nrm_trim on, List.take_length]] at hs12
    generalize vHi (tl os os.length) v11 = vl at *
    refine XL.q (q_assign rfl) rfl ?_
    refine XL.fin (kp 3 rfl (kp 4 rfl kn)) ?_
    refine XC.join (α := Value) (fun y => [(3, r9), (4, y)]) (fun _ => B11 ++ (M9 ++ B)) (fun _ => []) (fun y => Sw y (os.take 8) B11) ?_ ?_
    ·
      refine XC.reg ?_
      refine XL.q (q_move rfl) rfl ?_
      refine XL.q (q_lenV2 (sz := 1) rfl (by kernel_rfl) (by first | assumption | exact Sl.rd (by assumption) (fun _ h => h) | exact By.rd (by assumption))) rfl ?_
      refine XL.q (q_bin rfl rfl rfl) rfl ?_
      refine XL.fin (kp 3 rfl (kp 4 rfl (kp 15 rfl kn))) ?_
      refine XC.cond rfl (fun hc => ?_) (fun hc => ?_)
      ·
        have hl9 : 8 < os.length := by simp at hc; omega
        refine XC.reg1 ?_
        refine XL.q (q_move rfl) rfl ?_
        refine XL.q (q_hiV2 (sz := 1) (a := 8) rfl rfl (by kernel_rfl) rfl (by first | assumption | exact Sl.rd (by assumption) (fun _ h => h) | exact By.rd (by assumption)) (by omega)) rfl ?_
        refine XL.q (q_assign rfl) rfl ?_
        refine XL.nil ?_
        exact jn _ (sl_eq (hs12.hiV 8 (by omega)) (by simp; omega) (by rw [Nat.mul_one, ← nums_take])) (kp 3 rfl (kp 4 rfl kn)) .rfl (fun _ h => h)
      ·
        have hl9 : os.length = 8 := by simp at hc; omega
        refine XC.skip ?_
        exact jn vl (sl_eq hs12 (by simp; omega) (by rw [List.take_of_length_le (by omega)])) (kp 3 rfl (kp 4 rfl kn)) .rfl (fun _ h => h)
    ·
      rintro y hs4
      have h8 : (os.take 8).length = 8 := by simp; omega
      have hg7 := (ow.take 8).get 7
      have hnl := low255 ow hl8
      have hw8 : w32 ((os.take 8).set 7 ((os.take 8).getD 7 0 % 2147483648)) := (ow.take 8).set (by omega)
      have hl88 : ((os.take 8).set 7 ((os.take 8).getD 7 0 % 2147483648)).length = 8 := by simp; omega
      refine XC.seq ?_
      refine XC.reg ?_
      refine XL.q (q_move rfl) rfl ?_
      refine XL.q (q_lenV2 (sz := 1) rfl (by kernel_rfl) (by first | assumption | exact Sl.rd (by assumption) (fun _ h => h) | exact By.rd (by assumption))) rfl ?_
      refine XL.q (q_cmp true rfl rfl (eqT (by omega))) rfl ?_
      refine XL.fin (kp 3 rfl (kp 4 rfl (kp 20 rfl kn))) ?_
      refine XC.condT rfl ?_
      refine XC.reg1 ?_
      refine XL.q (q_move rfl) rfl ?_
      refine XL.q (q_move rfl) rfl ?_
      refine XL.q (q_atV2 (sz := 1) (a := 7) rfl rfl (by kernel_rfl) rfl (by first | assumption | exact Sl.rd (by assumption) (fun _ h => h) | exact By.rd (by assumption)) (by omega)) rfl ?_
      refine XL.q (q_ldVN2 (k := .u32) rfl (by kernel_rfl) (by first | exact Rd.mono (by assumption) SubC.sub | exact Sl.rd (by assumption) SubC.sub | exact Rd.mono (By.rd (by assumption)) SubC.sub) (by omega)) rfl ?_
      refine XL.q (q_andD 31 2147483648 rfl rfl rfl rfl rfl (by show _ < 4294967296; first | assumption | exact Nat.mod_lt _ (by decide) | omega) (by decide)) rfl ?_
      refine XL.q (q_atV2 (sz := 1) (a := 7) rfl rfl (by kernel_rfl) rfl (by first | assumption | exact Sl.rd (by assumption) (fun _ h => h) | exact By.rd (by assumption)) (by omega)) rfl ?_
      refine XL.lo rfl (l_stV2 rfl rfl rfl (by kernel_rfl) (by assumption) (by omega) PickC.perm fun Bs1 hst1 => ?_)
      replace hst1 : Sw y ((os.take 8).set 7 ((os.take 8).getD 7 0 % 2147483648)) Bs1 := sl_eq hst1 (by simp) rfl
      generalize (os.take 8).set 7 ((os.take 8).getD 7 0 % 2147483648) = lw at *
      refine XL.fin (kp 3 rfl (kp 4 rfl kn)) ?_
      refine XC.reg1 ?_
      refine XL.q (q_move rfl) rfl ?_
      refine XL.callV (aS rfl a0) (by kernel_rfl) (trim_spec _ lw _ (hst1.rd SubC.sub) (by omega)) rfl ?_
      have hs28 := Sw_trim hst1
      have h2832 := trim_w32 hw8
      have h28nv := trim_nv lw
      have h28l : (trim lw).length ≤ 8 := by rw [trim_len]; have := tl_le lw lw.length; omega
      generalize vHi (tl lw lw.length) y = v28 at *
      generalize trim lw = tw at *
      refine XL.q (q_move rfl) rfl ?_
      refine XL.lo rfl (l_buildSlice (e := 49) (sz := 1) (z := [.int .u32 0]) (by kernel_rfl) (eS rfl e0) (bdS 0 1 rfl (by rfl) bd0) rfl fun b30 => ?_)
      refine XL.call (aS rfl (aS rfl a0)) (by kernel_rfl) (times_spec _ _ hw [19] _ (hs9.rd SubC.sub) (Rd.whole (n := 1) At.mem (by rfl)) h932 w32_19 (by omega) (by decide)) rfl ?_
      rintro r31 M31 J31 ⟨rfl, tw2, hs31, h3132, h31nv, h31n, h31l⟩
      refine XL.call (aS rfl (aS rfl a0)) (by kernel_rfl) (plus_spec _ _ tw tw2 _ (hs28.rd SubC.sub) (hs31.rd SubC.sub) h2832 h3132 (by omega) (by simp at h31l; omega)) rfl ?_
      rintro r32 M32 J32 ⟨rfl, ps, hs32, h3232, h32nv, h32n, h32l⟩
      refine XL.q (q_assign rfl) rfl ?_
      refine XL.nil ?_
      refine nb ?_
      rw [h28nv, hnl, h31nv, hnv9, two255, show nv [19] = 19 from rfl] at h32nv
      have hdec : nv ps < nv os := by rw [h32nv]; omega
      exact rn (r32, ps, M32) ⟨.inl (hs32.rd fun _ h => h), h3232, h32n, Nat.le_trans (nrm_len h32n ow (Nat.le_of_lt hdec)) ol, by dsimp only; rw [h32nv, mod_step, oe]⟩ hdec (kp 0 rfl kn) (Fit.sub (List.sublist_append_left _ _)) (fun _ h => h)
  ·
    have hle : m ≤ 255 := by simp at hc; omega
    have hlt := Nat.lt_of_lt_of_le hm2 (pow255' hle)
    refine XC.exit ?_
    refine te ?_
    refine re ?_
    refine be rfl ?_
    refine nx (kp 0 rfl kn) ?_
    refine XC.seq ?_
    refine XC.reg ?_
    refine XL.q (q_move rfl) rfl ?_
    refine XL.call a0 (by kernel_rfl) (rP_spec _) rfl ?_
    rintro r34 M34 J34 ⟨rfl, hp34⟩
    refine XL.call (aS rfl (aS rfl a0)) (by kernel_rfl) (cmp_spec _ _ os pWs _ (Rd.mono hv SubC.sub) (hp34.rd SubC.sub) ow pWs_w32 (by omega) (by decide)) rfl ?_
    rintro r35 M35 J35 ⟨rfl, rfl, c35, rfl, hc1, hc2⟩
    rw [pWs_nv] at hc1 hc2
    refine XL.q (q_bin rfl rfl rfl) rfl ?_
    refine XL.fin (kp 0 rfl (kp 36 rfl kn)) ?_
    refine XC.cond rfl (fun hc => ?_) (fun hc => ?_)
    ·
      have hge : p25 ≤ nv os := by simp at hc; omega
      refine XC.reg1 ?_
      refine XL.q (q_move rfl) rfl ?_
      refine XL.call a0 (by kernel_rfl) (rP_spec _) rfl ?_
      rintro r38 M38 J38 ⟨rfl, hp38⟩
      refine XL.call (aS rfl (aS rfl a0)) (by kernel_rfl) (less_spec _ _ os pWs _ (Rd.mono hv SubC.sub) (hp38.rd SubC.sub) ow pWs_w32 (by omega) (by decide) (by rw [pWs_nv]; exact hge)) rfl ?_
      rintro r39 M39 J39 ⟨rfl, ls, hs39, h3932, h39nv, h39n, h39l⟩
      refine XL.q (q_assign rfl) rfl ?_
      refine XL.fin (kp 0 rfl kn) ?_
      refine XC.reg ?_
      refine XL.q (q_move rfl) rfl ?_
      refine XL.q (q_assign rfl) rfl ?_
      refine XL.fin (kp 2 rfl kn) ?_
      refine XC.ret ?_
      exact ⟨_, M39, [], res1 rfl rfl, List.sublist_append_left _ _, by simp, rfl, ls, .inl (hs39.rd fun _ h => h), h3932, by rw [h39nv, pWs_nv, ← oe]; unfold p25 at *; omega, h39n⟩
    ·
      have hlt2 : nv os < p25 := by simp at hc; omega
      refine XC.skip ?_
      refine nx (kp 0 rfl kn) ?_
      refine XC.reg ?_
      refine XL.q (q_move rfl) rfl ?_
      refine XL.q (q_assign rfl) rfl ?_
      refine XL.fin (kp 2 rfl kn) ?_
      refine XC.ret ?_
      exact ⟨_, B, [], res1 rfl rfl, List.sublist_append_right _ _, by simp, rfl, os, hvo, ow, by rw [← oe]; exact (Nat.mod_eq_of_lt hlt2).symm, on⟩

set_option maxRecDepth 100000 in
theorem radd_spec (va vb : Value) (a b : List Nat) (A : Mem) (ha : Rw A va a) (hb : Rw A vb b) (wa : w32 a) (wb : w32 b) (la : a.length ≤ 1000) (lb : b.length ≤ 1000) : FnX Tryd.prog 65 [va, vb] [] A fun r M J => J = [] ∧ Nr A r M ((nv a + nv b) % p25) := by
  refine FnX.enter (N := 9) Tryd.func65 rfl rfl rfl fun w => ?_
  refine XC.keep (kp 0 rfl (kp 1 rfl kn)) ?_
  refine XC.reg ?_
  refine XL.q (q_assign rfl) rfl ?_
  refine XL.fin (kp 0 rfl (kp 1 rfl kn)) ?_
  refine XC.reg ?_
  refine XL.q (q_move rfl) rfl ?_
  refine XL.q (q_move rfl) rfl ?_
  refine XL.call (aS rfl (aS rfl a0)) (by kernel_rfl) (plus_spec _ _ a b _ (Rd.mono ha SubC.sub) (Rd.mono hb SubC.sub) wa wb (by omega) (by omega)) rfl ?_
  rintro r7 M7 J7 ⟨rfl, ws7, hs7, hw7, hv7, hn7, hl7⟩
  refine XL.call (aS rfl a0) (by kernel_rfl) (rmod_spec _ ws7 _ (hs7.rd SubC.sub) hw7 hn7 (by omega)) rfl ?_
  rintro r8 M8 J8 ⟨rfl, ws8, hs8, hw8, hv8, hn8⟩
  replace hs8 := rw_or hs8 (hs7.rd fun _ h => h)
  refine XL.q (q_assign rfl) rfl ?_
  refine XL.fin (kp 4 rfl kn) ?_
  refine XC.ret ?_
  exact ⟨_, _, [], res1 rfl rfl, List.Sublist.refl _, by simp, rfl, ws8, rd_eq (Rd.mono hs8 SubC.sub) rfl rfl, hw8, by rw [hv8, hv7], hn8⟩

set_option maxRecDepth 100000 in
theorem rmul_spec (va vb : Value) (a b : List Nat) (A : Mem) (ha : Rw A va a) (hb : Rw A vb b) (wa : w32 a) (wb : w32 b) (la : a.length ≤ 1000) (lb : b.length ≤ 1000) : FnX Tryd.prog 34 [va, vb] [] A fun r M J => J = [] ∧ Nr A r M ((nv a * nv b) % p25) := by
  refine FnX.enter (N := 9) Tryd.func34 rfl rfl rfl fun w => ?_
  refine XC.keep (kp 0 rfl (kp 1 rfl kn)) ?_
  refine XC.reg ?_
  refine XL.q (q_assign rfl) rfl ?_
  refine XL.fin (kp 0 rfl (kp 1 rfl kn)) ?_
  refine XC.reg ?_
  refine XL.q (q_move rfl) rfl ?_
  refine XL.q (q_move rfl) rfl ?_
  refine XL.call (aS rfl (aS rfl a0)) (by kernel_rfl) (times_spec _ _ a b _ (Rd.mono ha SubC.sub) (Rd.mono hb SubC.sub) wa wb (by omega) (by omega)) rfl ?_
  rintro r7 M7 J7 ⟨rfl, ws7, hs7, hw7, hv7, hn7, hl7⟩
  refine XL.call (aS rfl a0) (by kernel_rfl) (rmod_spec _ ws7 _ (hs7.rd SubC.sub) hw7 hn7 (by omega)) rfl ?_
  rintro r8 M8 J8 ⟨rfl, ws8, hs8, hw8, hv8, hn8⟩
  replace hs8 := rw_or hs8 (hs7.rd fun _ h => h)
  refine XL.q (q_assign rfl) rfl ?_
  refine XL.fin (kp 4 rfl kn) ?_
  refine XC.ret ?_
  exact ⟨_, _, [], res1 rfl rfl, List.Sublist.refl _, by simp, rfl, ws8, rd_eq (Rd.mono hs8 SubC.sub) rfl rfl, hw8, by rw [hv8, hv7], hn8⟩

set_option maxRecDepth 100000 in
theorem rsub_spec (va vb : Value) (a b : List Nat) (A : Mem) (ha : Rw A va a) (hb : Rw A vb b) (wa : w32 a) (wb : w32 b) (la : a.length ≤ 1000) (lb : b.length ≤ 1000) (hle : nv b ≤ nv a + p25) : FnX Tryd.prog 63 [va, vb] [] A fun r M J => J = [] ∧ Nr A r M ((nv a + p25 - nv b) % p25) := by
  refine FnX.enter (N := 11) Tryd.func63 rfl rfl rfl fun w => ?_
  refine XC.keep (kp 0 rfl (kp 1 rfl kn)) ?_
  refine XC.reg ?_
  refine XL.q (q_assign rfl) rfl ?_
  refine XL.fin (kp 0 rfl (kp 1 rfl kn)) ?_
  refine XC.reg ?_
  refine XL.q (q_move rfl) rfl ?_
  refine XL.call a0 (by kernel_rfl) (rP_spec _) rfl ?_
  rintro r6 M6 J6 ⟨rfl, hp6⟩
  refine XL.call (aS rfl (aS rfl a0)) (by kernel_rfl) (plus_spec _ _ a pWs _ (Rd.mono ha SubC.sub) (hp6.rd SubC.sub) wa pWs_w32 (by omega) (by decide)) rfl ?_
  rintro r7 M7 J7 ⟨rfl, ws7, hs7, hw7, hv7, hn7, hl7⟩
  rw [pWs_nv] at hv7
  rw [pWs_len] at hl7
  refine XL.q (q_move rfl) rfl ?_
  refine XL.call (aS rfl (aS rfl a0)) (by kernel_rfl) (less_spec _ _ ws7 b _ (hs7.rd SubC.sub) (Rd.mono hb SubC.sub) hw7 wb (by omega) (by omega) (by rw [hv7]; exact hle)) rfl ?_
  rintro r9 M9 J9 ⟨rfl, ws9, hs9, hw9, hv9, hn9, hl9⟩
  refine XL.call (aS rfl a0) (by kernel_rfl) (rmod_spec _ ws9 _ (hs9.rd SubC.sub) hw9 hn9 (by omega)) rfl ?_
  rintro r10 M10 J10 ⟨rfl, ws10, hs10, hw10, hv10, hn10⟩
  replace hs10 := rw_or hs10 (hs9.rd fun _ h => h)
  refine XL.q (q_assign rfl) rfl ?_
  refine XL.fin (kp 4 rfl kn) ?_
  refine XC.ret ?_
  exact ⟨_, _, [], res1 rfl rfl, List.Sublist.refl _, by simp, rfl, ws10, rd_eq (Rd.mono hs10 SubC.sub) rfl rfl, hw10, by rw [hv10, hv9, hv7], hn10⟩

set_option maxRecDepth 100000 in
theorem rpow_spec (va ve : Value) (a e : List Nat) (A : Mem) (ha : Rw A va a) (he : Rw A ve e) (wa : w32 a) (we : w32 e) (la : a.length ≤ 1000) (le : e.length ≤ 1000) : FnX Tryd.prog 60 [va, ve] [] A fun r M J => J = [] ∧ Nr A r M (nv a ^ nv e % p25) := by
  refine FnX.enter (N := 26) Tryd.func60 rfl rfl rfl fun w => ?_
  refine XC.keep (kp 0 rfl (kp 1 rfl kn)) ?_
  refine XC.reg ?_
  refine XL.q (q_assign rfl) rfl ?_
  refine XL.fin (kp 0 rfl (kp 1 rfl kn)) ?_
  refine XC.reg ?_
  refine XL.lo rfl (l_buildSlice (e := 49) (sz := 1) (z := [.int .u32 0]) (by kernel_rfl) (eS rfl e0) (bdS 0 1 rfl (by rfl) bd0) rfl fun b7 => ?_)
  refine XL.q (q_assign rfl) rfl ?_
  refine XL.fin (kp 0 rfl (kp 1 rfl (kp 5 rfl kn))) ?_
  refine XC.seq ?_
  refine XC.reg ?_
  refine XL.q (q_move rfl) rfl ?_
  refine XL.call (aS rfl a0) (by kernel_rfl) (len_spec _ e _ (Rd.mono he SubC.sub) we (by omega)) rfl ?_
  rintro r9 M9 J9 ⟨rfl, rfl, m, rfl, hm1, hm2, hm3⟩
  refine XL.q (q_num ((m : Int) - 1) rfl rfl (sub64 rfl (by omega) (by omega))) rfl ?_
  refine XL.q (q_assign rfl) rfl ?_
  refine XL.fin (kp 0 rfl (kp 1 rfl (kp 5 rfl (kp 6 rfl kn)))) ?_
  refine XC.block ?_
  have hs0 : Rw [(b7, blk [.int .u32 1] 49)] (.slice (some ⟨b7, 0, none⟩) 1 1) [1] := Rd.whole (n := 1) List.mem_cons_self (by rfl)
  generalize hB7 : [(b7, blk [.int .u32 1] 49)] = B7 at *
  generalize (Value.slice (some ⟨b7, 0, none⟩) 1 1) = v7 at *
  refine XC.loop (α := Nat × Value × List Nat × Mem) (fun x => [(0, va), (1, ve), (5, x.2.1), (6, .int .i64 ((x.1 : Int) - 1))]) (fun x => x.2.2.2) (fun _ => []) (fun x => x.1 ≤ m ∧ Rw x.2.2.2 x.2.1 x.2.2.1 ∧ w32 x.2.2.1 ∧ nrm x.2.2.1 ∧ nv x.2.2.1 = pwE (nv a) (nv e) x.1) (fun x => x.1) (m, v7, [1], B7) ⟨Nat.le_refl _, hs0, w32_1, nrm_1, (by unfold pwE; rw [Nat.div_eq_of_lt hm2]; rfl)⟩ (kp 0 rfl (kp 1 rfl (kp 5 rfl (kp 6 rfl kn)))) (Fit.eq (by simp [hB7])) (fun _ h => h) ?_
  clear hs0 hB7
  rintro ⟨j, u, os, B⟩ ⟨hj, hv, ow, on, oe⟩
  dsimp only at hj hv ow on oe ⊢
  refine XC.seq ?_
  refine XC.reg ?_
  refine XL.q (q_move rfl) rfl ?_
  refine XL.q (q_bin rfl rfl rfl) rfl ?_
  refine XL.fin (kp 0 rfl (kp 1 rfl (kp 5 rfl (kp 6 rfl (kp 12 rfl kn))))) ?_
  refine XC.cond rfl (fun hc => ?_) (fun hc => ?_)
  ·
    have hj0 : 0 < j := by simp at hc; omega
    obtain ⟨i, rfl⟩ : ∃ i, j = i + 1 := ⟨j - 1, by omega⟩
    have ei : ((i + 1 : Nat) : Int) - 1 = (i : Int) := by omega
    rw [ei]
    have hps := pwE_step (nv a) (nv e) i
    have ol : os.length ≤ 1000 := (by have := nrm_len8 on (by rw [show nv os = _ from oe]; unfold pwE; exact Nat.lt_trans (Nat.mod_lt _ (by decide)) (by decide)); omega)
    have hbt : nv e / 2 ^ i % 2 < 2 := Nat.mod_lt _ (by decide)
    refine XC.skip ?_
    refine nx (kp 0 rfl (kp 1 rfl (kp 5 rfl (kp 6 rfl kn)))) ?_
    refine XC.seq ?_
    refine XC.block ?_
    refine XC.reg ?_
    refine XL.q (q_move rfl) rfl ?_
    refine XL.q (q_move rfl) rfl ?_
    refine XL.call (aS rfl (aS rfl a0)) (by kernel_rfl) (rmul_spec _ _ os os _ (Rd.mono hv SubC.sub) (Rd.mono hv SubC.sub) ow ow ol ol) rfl ?_
    rintro r17 M17 J17 ⟨rfl, ws17, hs17, hw17, hv17, hn17⟩
    have hl17 : ws17.length ≤ 1000 := (by have := nrm_len8 hn17 (by rw [hv17]; exact Nat.lt_trans (Nat.mod_lt _ (by decide)) (by decide)); omega)
    refine XL.q (q_assign rfl) rfl ?_
    refine XL.fin (kp 0 rfl (kp 1 rfl (kp 5 rfl (kp 6 rfl kn)))) ?_
    refine XC.reg ?_
    refine XL.q (q_move rfl) rfl ?_
    refine XL.q (q_move rfl) rfl ?_
    refine XL.callV (aS rfl (aS rfl a0)) (by kernel_rfl) (bit_spec _ e i _ (Rd.mono he SubC.sub) we (by omega) (by omega)) rfl ?_
    generalize nv e / 2 ^ i % 2 = bt at *
    refine XL.q (q_cmp (decide (bt = 1)) rfl rfl (by rcases (show bt = 0 ∨ bt = 1 by omega) with h | h <;> subst h <;> rfl)) rfl ?_
    refine XL.fin (kp 0 rfl (kp 1 rfl (kp 5 rfl (kp 6 rfl (kp 21 rfl kn))))) ?_
    refine XC.cond rfl (fun hc => ?_) (fun hc => ?_)
    ·
      have hb1 : bt = 1 := by simpa using hc
      rw [if_pos hb1] at hps
      refine XC.reg1 ?_
      refine XL.q (q_move rfl) rfl ?_
      refine XL.q (q_move rfl) rfl ?_
      refine XL.call (aS rfl (aS rfl a0)) (by kernel_rfl) (rmul_spec _ _ ws17 a _ (Rd.mono hs17 SubC.sub) (Rd.mono ha SubC.sub) hw17 wa hl17 la) rfl ?_
      rintro r24 M24 J24 ⟨rfl, ws24, hs24, hw24, hv24, hn24⟩
      refine XL.q (q_assign rfl) rfl ?_
      refine XL.nil ?_
      refine nb ?_
      refine nx (kp 0 rfl (kp 1 rfl (kp 5 rfl (kp 6 rfl kn)))) ?_
      refine XC.reg1 ?_
      refine XL.q (q_move rfl) rfl ?_
      refine XL.q (q_num ((i : Int) - 1) rfl rfl (sub64 rfl (by omega) (by omega))) rfl ?_
      refine XL.q (q_assign rfl) rfl ?_
      refine XL.nil ?_
      exact rn (i, r24, ws24, M24) ⟨by dsimp only; omega, hs24, hw24, hn24, by dsimp only; rw [hv24, hv17, oe, hps, Nat.mul_mod_mod]⟩ (by dsimp only; omega) (kp 0 rfl (kp 1 rfl (kp 5 rfl (kp 6 rfl kn)))) (Fit.sub (List.sublist_append_left _ _)) (fun _ h => h)
    ·
      have hb1 : ¬ bt = 1 := by simpa using hc
      rw [if_neg hb1] at hps
      refine XC.skip ?_
      refine nb ?_
      refine nx (kp 0 rfl (kp 1 rfl (kp 5 rfl (kp 6 rfl kn)))) ?_
      refine XC.reg1 ?_
      refine XL.q (q_move rfl) rfl ?_
      refine XL.q (q_num ((i : Int) - 1) rfl rfl (sub64 rfl (by omega) (by omega))) rfl ?_
      refine XL.q (q_assign rfl) rfl ?_
      refine XL.nil ?_
      exact rn (i, r17, ws17, M17) ⟨by dsimp only; omega, hs17, hw17, hn17, by dsimp only; rw [hv17, oe, hps]⟩ (by dsimp only; omega) (kp 0 rfl (kp 1 rfl (kp 5 rfl (kp 6 rfl kn)))) (Fit.sub (List.sublist_append_left _ _)) (fun _ h => h)
  ·
    have hj0 : j = 0 := by simp at hc; omega
    subst hj0
    refine XC.exit ?_
    refine te ?_
    refine re ?_
    refine be rfl ?_
    refine nx (kp 5 rfl kn) ?_
    refine XC.reg ?_
    refine XL.q (q_move rfl) rfl ?_
    refine XL.q (q_assign rfl) rfl ?_
    refine XL.fin (kp 4 rfl kn) ?_
    refine XC.ret ?_
    exact ⟨_, B, [], res1 rfl rfl, List.Sublist.refl _, by simp, rfl, os, hv, ow, by rw [oe]; unfold pwE; rw [Nat.pow_zero, Nat.div_one], on⟩

theorem w32_2 : w32 [2] := by unfold w32; decide
theorem nr_len {A M : Mem} {r : Value} {ws : List Nat} {x : Nat} (h : nv ws = x % p25) (hn : nrm ws) : ws.length ≤ 1000 := by
  have := nrm_len8 hn (by rw [h]; exact Nat.lt_trans (Nat.mod_lt _ (by decide)) (by decide)); omega

set_option maxRecDepth 100000 in
theorem rinv_spec (va : Value) (a : List Nat) (A : Mem) (ha : Rw A va a) (wa : w32 a) (la : a.length ≤ 1000) : FnX Tryd.prog 33 [va] [] A fun r M J => J = [] ∧ ∃ n, n + 1 = p25 - 1 ∧ Nr A r M (nv a ^ n % p25) := by
  refine FnX.enter (N := 8) Tryd.func33 rfl rfl rfl fun w => ?_
  refine XC.keep (kp 0 rfl kn) ?_
  refine XC.reg ?_
  refine XL.q (q_assign rfl) rfl ?_
  refine XL.fin (kp 0 rfl kn) ?_
  refine XC.reg ?_
  refine XL.q (q_move rfl) rfl ?_
  refine XL.call a0 (by kernel_rfl) (rP_spec _) rfl ?_
  rintro r4 M4 J4 ⟨rfl, hp4⟩
  refine XL.lo rfl (l_buildSlice (e := 49) (sz := 1) (z := [.int .u32 0]) (by kernel_rfl) (eS rfl e0) (bdS 0 1 rfl (by rfl) bd0) rfl fun b5 => ?_)
  refine XL.call (aS rfl (aS rfl a0)) (by kernel_rfl) (less_spec _ _ pWs [2] _ (hp4.rd SubC.sub) (Rd.whole (n := 1) At.mem (by rfl)) pWs_w32 w32_2 (by decide) (by decide) (by decide)) rfl ?_
  rintro r6 M6 J6 ⟨rfl, ws6, hs6, hw6, hv6, hn6, hl6⟩
  rw [pWs_nv] at hv6
  rw [pWs_len] at hl6
  refine XL.call (aS rfl (aS rfl a0)) (by kernel_rfl) (rpow_spec _ _ a ws6 _ (Rd.mono ha SubC.sub) (hs6.rd SubC.sub) wa hw6 la (by omega)) rfl ?_
  rintro r7 M7 J7 ⟨rfl, ws7, hs7, hw7, hv7, hn7⟩
  have hv61 : nv ws6 + 1 = p25 - 1 := by rw [hv6]; decide
  refine XL.q (q_assign rfl) rfl ?_
  refine XL.fin (kp 2 rfl kn) ?_
  refine XC.ret ?_
  exact ⟨_, _, [], res1 rfl rfl, List.Sublist.refl _, by simp, rfl, _, hv61, ws7, rd_eq (Rd.mono hs7 SubC.sub) rfl rfl, hw7, hv7, hn7⟩

theorem nrm_zero {a : List Nat} (h : nrm a) : a.length = 0 ↔ nv a = 0 := by
  constructor
  · intro h0; rw [List.eq_nil_of_length_eq_zero h0]; rfl
  · intro h0
    rcases Nat.eq_zero_or_pos a.length with h1 | h1
    · exact h1
    · have := nrm_le h (by rintro rfl; simp at h1)
      have := xp_pos (a.length - 1)
      omega

set_option maxRecDepth 100000 in
theorem rsquare_spec (va : Value) (a : List Nat) (A : Mem) (ha : Rw A va a) (wa : w32 a) (na : nrm a) (la : a.length ≤ 1000) (n : Nat) (hn : n = p25 / 2 ^ 1) : FnV Tryd.prog 67 [va] A (.bool (decide (nv a = 0 ∨ nv a ^ n % p25 = 1))) := by
  refine FnX.enter (N := 13) Tryd.func67 rfl rfl rfl fun w => ?_
  refine XC.keep (kp 0 rfl kn) ?_
  refine XC.reg ?_
  refine XL.q (q_assign rfl) rfl ?_
  refine XL.fin (kp 0 rfl kn) ?_
  refine XC.seq ?_
  refine XC.reg ?_
  refine XL.q (q_move rfl) rfl ?_
  refine XL.q (q_lenV2 (sz := 1) rfl (by kernel_rfl) (by first | assumption | exact Sl.rd (by assumption) (fun _ h => h) | exact By.rd (by assumption))) rfl ?_
  refine XL.q (q_bin rfl rfl rfl) rfl ?_
  refine XL.fin (kp 0 rfl (kp 5 rfl kn)) ?_
  refine XC.cond rfl (fun hc => ?_) (fun hc => ?_)
  ·
    have h0 : nv a = 0 := (nrm_zero na).1 (by generalize a.length = k at hc ⊢; simp at hc; omega)
    refine XC.reg ?_
    refine XL.q (q_assign rfl) rfl ?_
    refine XL.fin (kp 2 rfl kn) ?_
    refine XC.ret ?_
    refine tr ?_
    exact ⟨_, [], [], res1 rfl rfl, List.nil_sublist _, by simp, by simp [h0], rfl, rfl⟩
  ·
    have h0 : nv a ≠ 0 := fun h => absurd ((nrm_zero na).2 h) (by generalize a.length = k at hc ⊢; simp at hc; omega)
    refine XC.skip ?_
    refine nx (kp 0 rfl kn) ?_
    refine XC.reg ?_
    refine XL.q (q_move rfl) rfl ?_
    refine XL.call a0 (by kernel_rfl) (rP_spec _) rfl ?_
    rintro r7 M7 J7 ⟨rfl, hp7⟩
    refine XL.call (aS rfl (aS rfl a0)) (by kernel_rfl) (down_spec _ pWs 1 _ (hp7.rd SubC.sub) pWs_w32 (by decide) (by decide)) rfl ?_
    rintro r8 M8 J8 ⟨rfl, ws8, hs8, hw8, hv8, hn8, hl8⟩
    rw [pWs_nv, ← hn] at hv8
    rw [pWs_len] at hl8
    clear hn
    refine XL.call (aS rfl (aS rfl a0)) (by kernel_rfl) (rpow_spec _ _ a ws8 _ (Rd.mono ha SubC.sub) (hs8.rd SubC.sub) wa hw8 la (by omega)) rfl ?_
    rintro r9 M9 J9 ⟨rfl, ws9, hs9, hw9, hv9, hn9⟩
    rw [hv8] at hv9
    have hl9 := nr_len (A := A) (M := []) (r := va) hv9 hn9
    refine XL.lo rfl (l_buildSlice (e := 49) (sz := 1) (z := [.int .u32 0]) (by kernel_rfl) (eS rfl e0) (bdS 0 1 rfl (by rfl) bd0) rfl fun b10 => ?_)
    refine XL.call (aS rfl (aS rfl a0)) (by kernel_rfl) (cmp_spec _ _ ws9 [1] _ (Rd.mono hs9 SubC.sub) (Rd.whole (n := 1) At.mem (by rfl)) hw9 w32_1 (by omega) (by decide)) rfl ?_
    rintro r11 M11 J11 ⟨rfl, rfl, c, rfl, hc1, hc2⟩
    rw [show nv [1] = 1 from rfl, hv9] at hc1 hc2
    have hz : c = 0 ↔ nv a ^ n % p25 = 1 := by generalize nv a ^ n % p25 = z at hc1 hc2 ⊢; omega
    refine XL.q (q_cmp (decide (nv a ^ n % p25 = 1)) rfl rfl (by rw [← decide_eq_decide.2 hz]; rfl)) rfl ?_
    refine XL.q (q_assign rfl) rfl ?_
    refine XL.fin (kp 2 rfl kn) ?_
    refine XC.ret ?_
    exact ⟨_, [], [], res1 rfl rfl, List.nil_sublist _, by simp, by simp [h0], rfl, rfl⟩

theorem of_val {p : List Nat} (h : p.length = 32) (hp : ∀ x ∈ p, x < 256) : bv (p.set 31 (p.getD 31 0 % 128)) = bv p % 57896044618658097711785492504343953926634992332820282019728792003956564819968 := by
  have h1 := bv_take_succ (p := p) (j := 31) (by omega)
  rw [show 31 + 1 = p.length from h.symm, List.take_length] at h1
  have h2 := bv_take_succ (p := p.set 31 (p.getD 31 0 % 128)) (j := 31) (by simp; omega)
  rw [show 31 + 1 = (p.set 31 (p.getD 31 0 % 128)).length by simp [h], List.take_length, List.take_set_of_le (by omega)] at h2
  have h3 : (p.set 31 (p.getD 31 0 % 128)).getD 31 0 = p.getD 31 0 % 128 := by rw [List.getD, List.getElem?_set_self (by omega), Option.getD_some]
  rw [h3] at h2
  have h4 := bv_lt (p := p.take 31) fun x hx => hp x (List.mem_of_mem_take hx)
  have h5 := getD_lt (i := 31) hp (by decide)
  rw [List.length_take, Nat.min_eq_left (by omega)] at h4
  rw [show (256 : Nat) ^ 31 = 452312848583266388373324160190187140051835877600158453279131187530910662656 from rfl] at *
  omega

set_option maxRecDepth 100000 in
theorem rof_spec (v : Value) (p : List Nat) (A : Mem) (h : Rb A v p) (hp : ∀ x ∈ p, x < 256) (hl : p.length ≤ 1000000) : FnX Tryd.prog 66 [v] [] A fun r M J => J = [] ∧ Nr A r M (rdN p) := by
  refine FnX.enter (N := 19) Tryd.func66 rfl rfl rfl fun w => ?_
  refine XC.keep (kp 0 rfl kn) ?_
  refine XC.reg ?_
  refine XL.q (q_assign rfl) rfl ?_
  refine XL.fin (kp 0 rfl kn) ?_
  refine XC.seq ?_
  refine XC.reg ?_
  refine XL.q (q_move rfl) rfl ?_
  refine XL.q (q_lenV2 (sz := 1) rfl (by kernel_rfl) (by first | assumption | exact Sl.rd (by assumption) (fun _ h => h) | exact By.rd (by assumption))) rfl ?_
  refine XL.q (q_bin rfl rfl rfl) rfl ?_
  refine XL.fin (kp 0 rfl (kp 6 rfl kn)) ?_
  refine XC.cond rfl (fun hc => ?_) (fun hc => ?_)
  ·
    have h32 : p.length ≠ 32 := by simp at hc; omega
    refine XC.reg ?_
    refine XL.q (q_assign rfl) rfl ?_
    refine XL.fin (kp 2 rfl kn) ?_
    refine XC.ret ?_
    refine tr ?_
    exact ⟨_, [], [], res1 rfl rfl, List.nil_sublist _, by simp, rfl, [], Rd.nil, (fun _ h => by simp at h), by rw [rdN, if_neg h32]; rfl, (fun k h => by simp at h)⟩
  ·
    have h32 : p.length = 32 := by simp at hc; omega
    have hpl : p.length ≤ 1000 := by omega
    refine XC.skip ?_
    refine nx (kp 0 rfl kn) ?_
    refine XC.reg ?_
    refine XL.q (q_assign rfl) rfl ?_
    refine XL.fin (kp 0 rfl (kp 3 rfl kn)) ?_
    refine XC.reg ?_
    refine XL.q (q_move rfl) rfl ?_
    refine XL.q (q_move rfl) rfl ?_
    refine XL.lo rfl (l_append2 (e := 5) (sz := 1) (by_ := 1) rfl rfl (by kernel_rfl) rfl (by first | assumption | exact Sl.nil) (by first | exact Rd.mono (by assumption) SubC.sub | exact Sl.rd (by assumption) SubC.sub | exact Rd.mono (By.rd (by assumption)) SubC.sub) (by first | exact nums_one | simp [Value.oneCell']) PickC.perm (by unfold maxLen; omega) (by omega) rfl fun v9 B9 hs9 => ?_)
    replace hs9 : Sb v9 p B9 := sl_eq hs9 (by simp) (by simp)
    have hg31 := getD_lt (i := 31) hp (by decide)
    refine XL.q (q_assign rfl) rfl ?_
    refine XL.fin (kp 3 rfl kn) ?_
    refine XC.reg ?_
    refine XL.q (q_move rfl) rfl ?_
    refine XL.q (q_move rfl) rfl ?_
    refine XL.q (q_atV2 (sz := 1) (a := 31) rfl rfl (by kernel_rfl) rfl (by first | assumption | exact Sl.rd (by assumption) (fun _ h => h) | exact By.rd (by assumption)) (by omega)) rfl ?_
    refine XL.q (q_ldVN2 (k := .u8) rfl (by kernel_rfl) (by first | exact Rd.mono (by assumption) SubC.sub | exact Sl.rd (by assumption) SubC.sub | exact Rd.mono (By.rd (by assumption)) SubC.sub) (by omega)) rfl ?_
    refine XL.q (q_andD 7 128 rfl rfl rfl rfl rfl (by show _ < 256; first | assumption | exact Nat.mod_lt _ (by decide) | omega) (by decide)) rfl ?_
    refine XL.q (q_atV2 (sz := 1) (a := 31) rfl rfl (by kernel_rfl) rfl (by first | assumption | exact Sl.rd (by assumption) (fun _ h => h) | exact By.rd (by assumption)) (by omega)) rfl ?_
    refine XL.lo rfl (l_stV2 rfl rfl rfl (by kernel_rfl) (by assumption) (by omega) PickC.perm fun Bs1 hst1 => ?_)
    replace hst1 : Sb v9 (p.set 31 (p.getD 31 0 % 128)) Bs1 := sl_eq hst1 (by simp) rfl
    have hq256 : ∀ x ∈ p.set 31 (p.getD 31 0 % 128), x < 256 := fun x hx => (List.mem_or_eq_of_mem_set hx).elim (hp x) (fun h => by omega)
    have hql : (p.set 31 (p.getD 31 0 % 128)).length = 32 := by simp [h32]
    have hqv := of_val h32 hp
    generalize p.set 31 (p.getD 31 0 % 128) = q at *
    refine XL.fin (kp 3 rfl kn) ?_
    refine XC.reg ?_
    refine XL.q (q_move rfl) rfl ?_
    refine XL.call (aS rfl a0) (by kernel_rfl) (low_spec _ q _ (hst1.rd SubC.sub) hq256 (by omega)) rfl ?_
    rintro r17 M17 J17 ⟨rfl, ws17, hs17, hw17, hv17, hn17, hl17⟩
    refine XL.call (aS rfl a0) (by kernel_rfl) (rmod_spec _ ws17 _ (hs17.rd SubC.sub) hw17 hn17 (by omega)) rfl ?_
    rintro r18 M18 J18 ⟨rfl, ws18, hs18, hw18, hv18, hn18⟩
    replace hs18 := rw_or hs18 (hs17.rd fun _ h => h)
    refine XL.q (q_assign rfl) rfl ?_
    refine XL.fin (kp 2 rfl kn) ?_
    refine XC.ret ?_
    exact ⟨_, _, [], res1 rfl rfl, List.Sublist.refl _, by simp, rfl, ws18, rd_eq (Rd.mono hs18 SubC.sub) rfl rfl, hw18, by rw [hv18, hv17, hqv, rdN, if_pos h32], hn18⟩

end Go.Proofs.YtcfdeohjhhpmcaaDoor
/- The reference's numbers, frozen: the contracts of packages pawlref02 and pawlref03, told by them. -/
set_option linter.unusedVariables false
set_option linter.unusedSimpArgs false
namespace Go.Proofs.YtcfdeohjhhpmcaaDoor
open Go.Px Go.Ed
/-- The value of a number. -/
structure Nz (R : Mem) (v : Value) (x : Nat) : Prop where
  ex : ∃ ws, Rw R v ws ∧ w32 ws ∧ nv ws = x ∧ ws.length ≤ 400
/-- A number that was made. -/
structure Nf (R : Mem) (v : Value) (x L : Nat) : Prop where
  ex : ∃ ws, Rw R v ws ∧ w32 ws ∧ nv ws = x ∧ nrm ws ∧ ws.length ≤ L
theorem Nz.mono {R R' : Mem} {v : Value} {x : Nat} (h : Nz R v x) (hR : ∀ q, q ∈ R → q ∈ R') : Nz R' v x := by
  obtain ⟨ws, a, b⟩ := h.ex
  exact ⟨ws, Rd.mono a hR, b⟩
theorem Nz.cel {R : Mem} {v : Value} {x : Nat} (h : Nz R v x) : Cel v [v] := by
  obtain ⟨ws, a, b⟩ := h.ex
  exact Rd.cel a
theorem Nz.one {R : Mem} {v : Value} {x : Nat} (h : Nz R v x) : v.oneCell' = true := by
  obtain ⟨ws, a, b⟩ := h.ex
  exact Rd.one a
theorem Nz.nil {R : Mem} : Nz R (.slice none 0 0) 0 := ⟨[], Rd.nil, (fun x hx => by cases hx), rfl, by decide⟩
theorem Nz.lit {R : Mem} {b n : Nat} {e : TypeId} {fr : Nat × Nat} (ws : List Nat) (hm : (b, Obj.cells (nums .u32 ws).toArray e fr) ∈ R) (hn : ws.length = n) (hw : w32 ws) (hl : ws.length ≤ 400) {x : Nat} (hx : nv ws = x) : Nz R (.slice (some ⟨b, 0, none⟩) n n) x := by
  subst hn
  exact ⟨ws, Rd.whole (n := ws.length) hm (by simp), hw, hx, hl⟩
theorem Nf.mono {R R' : Mem} {v : Value} {x L : Nat} (h : Nf R v x L) (hR : ∀ q, q ∈ R → q ∈ R') : Nf R' v x L := by
  obtain ⟨ws, a, b⟩ := h.ex
  exact ⟨ws, Rd.mono a hR, b⟩
theorem Nf.z {R : Mem} {v : Value} {x L : Nat} (h : Nf R v x L) (hL : L ≤ 400) : Nz R v x := by
  obtain ⟨ws, a, b, c, d, e⟩ := h.ex
  exact ⟨ws, a, b, c, Nat.le_trans e hL⟩
theorem Nf.s {R : Mem} {v : Value} {x L : Nat} (h : Nf R v x L) (hx : x < 115792089237316195423570985008687907853269984665640564039457584007913129639936) : Nf R v x 8 := by
  obtain ⟨ws, a, b, c, d, e⟩ := h.ex
  exact ⟨ws, a, b, c, d, nrm_len8 d (by rw [c]; exact hx)⟩
theorem Nf.as {R : Mem} {v : Value} {x y L : Nat} (h : Nf R v x L) (e : x = y) : Nf R v y L := e ▸ h
theorem p25_256 {x : Nat} (h : x < p25) : x < 115792089237316195423570985008687907853269984665640564039457584007913129639936 := Nat.lt_trans h (by decide)
theorem Nr.f {A : Mem} {r : Value} {J : Mem} {x : Nat} (h : Nr A r J x) (hx : x < p25) : Nf J r x 8 := by
  obtain ⟨ws, a, b, c, d⟩ := h
  exact ⟨ws, a, b, c, d, nrm_len8 d (by rw [c]; exact p25_256 hx)⟩
theorem Nn.f {r : Value} {J : Mem} {x L : Nat} (h : Nn r J x L) : Nf J r x L := by
  obtain ⟨ws, a, b, c, d, e⟩ := h
  exact ⟨ws, a.rd fun _ h => h, b, c, d, e⟩
theorem radd_z {v u : Value} {x y : Nat} (A : Mem) (hx : Nz A v x) (hy : Nz A u y) : FnX Tryd.prog 65 [v, u] [] A fun r M J => M = [] ∧ Nf J r (fA x y) 8 := by
  obtain ⟨a, a1, a2, rfl, a3⟩ := hx.ex
  obtain ⟨b, b1, b2, rfl, b3⟩ := hy.ex
  exact ((radd_spec v u a b A a1 b1 a2 b2 (by omega) (by omega)).frz0).mono fun r M J ⟨h1, h2⟩ => ⟨h1, h2.f (Nat.mod_lt _ p25_pos)⟩
theorem rmul_z {v u : Value} {x y : Nat} (A : Mem) (hx : Nz A v x) (hy : Nz A u y) : FnX Tryd.prog 34 [v, u] [] A fun r M J => M = [] ∧ Nf J r (fM x y) 8 := by
  obtain ⟨a, a1, a2, rfl, a3⟩ := hx.ex
  obtain ⟨b, b1, b2, rfl, b3⟩ := hy.ex
  exact ((rmul_spec v u a b A a1 b1 a2 b2 (by omega) (by omega)).frz0).mono fun r M J ⟨h1, h2⟩ => ⟨h1, h2.f (Nat.mod_lt _ p25_pos)⟩
theorem rsub_z {v u : Value} {x y : Nat} (A : Mem) (hx : Nz A v x) (hy : Nz A u y) (hle : y < p25) : FnX Tryd.prog 63 [v, u] [] A fun r M J => M = [] ∧ Nf J r (fS x y) 8 := by
  obtain ⟨a, a1, a2, rfl, a3⟩ := hx.ex
  obtain ⟨b, b1, b2, rfl, b3⟩ := hy.ex
  exact ((rsub_spec v u a b A a1 b1 a2 b2 (by omega) (by omega) (by omega)).frz0).mono fun r M J ⟨h1, h2⟩ => ⟨h1, h2.f (Nat.mod_lt _ p25_pos)⟩
theorem rinv_z {v : Value} {x : Nat} (A : Mem) (hx : Nz A v x) : FnX Tryd.prog 33 [v] [] A fun r M J => M = [] ∧ Nf J r (fI x) 8 := by
  obtain ⟨a, a1, a2, rfl, a3⟩ := hx.ex
  exact ((rinv_spec v a A a1 a2 (by omega)).frz0).mono fun r M J ⟨h1, n, hn, h2⟩ => ⟨h1, by
    have h3 := Nr.f h2 (Nat.mod_lt _ p25_pos)
    rw [fI_eq, ← rtp_eq (show n = p25 - 2 by omega)]
    exact h3⟩
theorem rpow_z {v u : Value} {x y : Nat} (A : Mem) (hx : Nz A v x) (hy : Nz A u y) : FnX Tryd.prog 60 [v, u] [] A fun r M J => M = [] ∧ Nf J r (rtp x y) 8 := by
  obtain ⟨a, a1, a2, rfl, a3⟩ := hx.ex
  obtain ⟨b, b1, b2, rfl, b3⟩ := hy.ex
  exact ((rpow_spec v u a b A a1 b1 a2 b2 (by omega) (by omega)).frz0).mono fun r M J ⟨h1, h2⟩ => ⟨h1, h2.f (Nat.mod_lt _ p25_pos)⟩
theorem rsmall_z (n : Nat) (hn : n < 18446744073709551616) (A : Mem) : FnX Tryd.prog 64 [.int .u64 (n : Int)] [] A fun r M J => M = [] ∧ Nz J r n :=
  ((small_spec n hn A).frz0).mono fun r M J ⟨h1, ws, h2, h3, h4, h5⟩ => ⟨h1, ws, h2.rd fun _ h => h, h3, h4, by omega⟩
theorem rplus_z {v u : Value} {x y : Nat} (A : Mem) (hx : Nz A v x) (hy : Nz A u y) : FnX Tryd.prog 14 [v, u] [] A fun r M J => M = [] ∧ Nf J r (x + y) 801 := by
  obtain ⟨a, a1, a2, rfl, a3⟩ := hx.ex
  obtain ⟨b, b1, b2, rfl, b3⟩ := hy.ex
  exact ((plus_spec v u a b A a1 b1 a2 b2 (by omega) (by omega)).frz0).mono fun r M J ⟨h1, ws, c1, c2, c3, c4, c5⟩ => ⟨h1, ws, c1.rd fun _ h => h, c2, c3, c4, by omega⟩
theorem rtimes_z {v u : Value} {x y : Nat} (A : Mem) (hx : Nz A v x) (hy : Nz A u y) : FnX Tryd.prog 15 [v, u] [] A fun r M J => M = [] ∧ Nf J r (x * y) 800 := by
  obtain ⟨a, a1, a2, rfl, a3⟩ := hx.ex
  obtain ⟨b, b1, b2, rfl, b3⟩ := hy.ex
  exact ((times_spec v u a b A a1 b1 a2 b2 (by omega) (by omega)).frz0).mono fun r M J ⟨h1, ws, c1, c2, c3, c4, c5⟩ => ⟨h1, ws, c1.rd fun _ h => h, c2, c3, c4, by omega⟩
theorem rless_z {v u : Value} {x y : Nat} (A : Mem) (hx : Nz A v x) (hy : Nz A u y) (hle : y ≤ x) : FnX Tryd.prog 42 [v, u] [] A fun r M J => M = [] ∧ Nf J r (x - y) 400 := by
  obtain ⟨a, a1, a2, rfl, a3⟩ := hx.ex
  obtain ⟨b, b1, b2, rfl, b3⟩ := hy.ex
  exact ((less_spec v u a b A a1 b1 a2 b2 (by omega) (by omega) hle).frz0).mono fun r M J ⟨h1, ws, c1, c2, c3, c4, c5⟩ => ⟨h1, ws, c1.rd fun _ h => h, c2, c3, c4, by omega⟩
theorem rdown_z {v : Value} {x : Nat} (n : Nat) (A : Mem) (hx : Nz A v x) (hn : n ≤ 1000) : FnX Tryd.prog 83 [v, .int .i64 (n : Int)] [] A fun r M J => M = [] ∧ Nf J r (x / 2 ^ n) 400 := by
  obtain ⟨a, a1, a2, rfl, a3⟩ := hx.ex
  exact ((down_spec v a n A a1 a2 (by omega) (by omega)).frz0).mono fun r M J ⟨h1, ws, c1, c2, c3, c4, c5⟩ => ⟨h1, ws, c1.rd fun _ h => h, c2, c3, c4, by omega⟩
theorem rcmp_z {v u : Value} {x y : Nat} (A : Mem) (hx : Nz A v x) (hy : Nz A u y) : FnX Tryd.prog 41 [v, u] [] A fun r M J => M = [] ∧ J = [] ∧ ∃ c : Int, r = .int .i64 c ∧ (c < 0 ↔ x < y) ∧ (0 < c ↔ y < x) := by
  obtain ⟨a, a1, a2, rfl, a3⟩ := hx.ex
  obtain ⟨b, b1, b2, rfl, b3⟩ := hy.ex
  exact cmp_spec v u a b A a1 b1 a2 b2 (by omega) (by omega)
theorem rbit_z {v : Value} {x : Nat} (i : Nat) (A : Mem) (hx : Nz A v x) (hi : i ≤ 100000) : FnV Tryd.prog 35 [v, .int .i64 (i : Int)] A (.int .u32 ((x / 2 ^ i % 2 : Nat) : Int)) := by
  obtain ⟨a, a1, a2, rfl, a3⟩ := hx.ex
  exact bit_spec v a i A a1 a2 (by omega) (by omega)
theorem rlen_z {v : Value} {x : Nat} (A : Mem) (hx : Nz A v x) : FnX Tryd.prog 38 [v] [] A fun r M J => M = [] ∧ J = [] ∧ ∃ n : Nat, r = .int .i64 (n : Int) ∧ n ≤ 12800 ∧ x < 2 ^ n := by
  obtain ⟨a, a1, a2, rfl, a3⟩ := hx.ex
  exact (len_spec v a A a1 a2 (by omega)).mono fun r M J ⟨h1, h2, n, h3, h4, h5, h6⟩ => ⟨h1, h2, n, h3, by omega, h5⟩
theorem rbytes_z {v : Value} {x : Nat} (n : Nat) (A : Mem) (hx : Nz A v x) (hn : n ≤ 1000) : FnX Tryd.prog 17 [v, .int .i64 (n : Int)] [] A fun r M J => J = [] ∧ Sl 1 r n (nums .u8 (digs x n)) M := by
  obtain ⟨a, a1, a2, rfl, a3⟩ := hx.ex
  refine (rbytes_spec v a n A a1 a2 (by omega) (by omega)).mono fun r M J ⟨h1, h2⟩ => ⟨h1, ?_⟩
  have h3 : Sl 1 r (digs (nv a) n).length (nums .u8 (digs (nv a) n)) M := h2
  rwa [digs_len] at h3
theorem rP_z (A : Mem) : FnX Tryd.prog 61 [] [] A fun r M J => M = [] ∧ Nz J r p25 :=
  ((rP_spec A).frz0).mono fun r M J ⟨h1, h2⟩ => ⟨h1, pWs, h2.rd fun _ h => h, pWs_w32, pWs_nv, by decide⟩

end Go.Proofs.YtcfdeohjhhpmcaaDoor
/- The walks of the reference's curve: D, Origin, Sum, Times, Told. -/
set_option linter.unusedVariables false
set_option linter.unusedSimpArgs false
namespace Go.Proofs.YtcfdeohjhhpmcaaDoor
open Go.Px Go.Ed
/-- Three numbers that tell a point. -/
structure R3 (X Y Z : Nat) (Q : Fin p25 × Fin p25) : Prop where
  z : fF Z ≠ 0
  x : fF X = Q.1 * fF Z
  y : fF Y = Q.2 * fF Z
  lx : X < p25
  ly : Y < p25
  lz : Z < p25
theorem sum3 {X1 Y1 Z1 X2 Y2 Z2 : Fin p25} {P Q : Fin p25 × Fin p25} (oP : On (fF dN) P) (oQ : On (fF dN) Q) (z1 : Z1 ≠ 0) (z2 : Z2 ≠ 0) (hx1 : X1 = P.1 * Z1) (hy1 : Y1 = P.2 * Z1) (hx2 : X2 = Q.1 * Z2) (hy2 : Y2 = Q.2 * Z2)
    {a b c e f g h : Fin p25} (ha : a = Z1 * Z2) (hb : b = a * a) (hc : c = X1 * X2) (he : e = Y1 * Y2) (hf : f = fF dN * (c * e)) (hg : g = b - f) (hh : h = b + f) :
    g * h ≠ 0 ∧ a * g * ((X1 + Y1) * (X2 + Y2) - c - e) = (FF.add P Q).1 * (g * h) ∧ a * h * (e + c) = (FF.add P Q).2 * (g * h) := by
  obtain ⟨c1, c2⟩ := FF.complete oP oQ
  obtain ⟨s1, s2⟩ := FF.add_spec oP oQ
  generalize FF.add P Q = R at *
  obtain ⟨x1, y1⟩ := P
  obtain ⟨x2, y2⟩ := Q
  obtain ⟨u, v⟩ := R
  dsimp only at *
  generalize fF dN = d at *
  have hzz := FF.mul_ne z1 z2
  have eg : g = a * a * (1 - d*x1*x2*y1*y2) := by subst ha hx1 hy1 hx2 hy2 hb hc he hf hg; grind
  have eh : h = a * a * (1 + d*x1*x2*y1*y2) := by subst ha hx1 hy1 hx2 hy2 hb hc he hf hh; grind
  have ex : (X1 + Y1) * (X2 + Y2) - c - e = a * (x1*y2 + x2*y1) := by subst ha hx1 hy1 hx2 hy2 hc he; grind
  have ey : e + c = a * (y1*y2 + x1*x2) := by subst ha hx1 hy1 hx2 hy2 hc he; grind
  rw [← s1] at ex
  rw [← s2] at ey
  rw [ex, ey]
  have hane : a ≠ 0 := by rw [ha]; exact hzz
  clear s1 s2 ex ey hf hg hh hb hc he hx1 hy1 hx2 hy2
  generalize 1 + d*x1*x2*y1*y2 = H at *
  generalize 1 - d*x1*x2*y1*y2 = G at *
  subst eg eh
  refine ⟨FF.mul_ne (FF.mul_ne (FF.mul_ne hane hane) c2) (FF.mul_ne (FF.mul_ne hane hane) c1), by grind, by grind⟩
structure T3 (R : Mem) (vx vy vz : Value) (Q : Fin p25 × Fin p25) : Prop where
  ex : ∃ X Y Z, Nz R vx X ∧ Nz R vy Y ∧ Nz R vz Z ∧ R3 X Y Z Q
theorem T3.mono {R R' : Mem} {vx vy vz : Value} {Q : Fin p25 × Fin p25} (h : T3 R vx vy vz Q) (hR : ∀ q, q ∈ R → q ∈ R') : T3 R' vx vy vz Q := by
  obtain ⟨X, Y, Z, a, b, c, d⟩ := h.ex
  exact ⟨X, Y, Z, a.mono hR, b.mono hR, c.mono hR, d⟩
theorem T3.c1 {R : Mem} {vx vy vz : Value} {Q : Fin p25 × Fin p25} (h : T3 R vx vy vz Q) : Cel vx [vx] := by
  obtain ⟨X, Y, Z, a, b, c, d⟩ := h.ex; exact a.cel
theorem T3.c2 {R : Mem} {vx vy vz : Value} {Q : Fin p25 × Fin p25} (h : T3 R vx vy vz Q) : Cel vy [vy] := by
  obtain ⟨X, Y, Z, a, b, c, d⟩ := h.ex; exact b.cel
theorem T3.c3 {R : Mem} {vx vy vz : Value} {Q : Fin p25 × Fin p25} (h : T3 R vx vy vz Q) : Cel vz [vz] := by
  obtain ⟨X, Y, Z, a, b, c, d⟩ := h.ex; exact c.cel
def Tp (R : Mem) (V : Value) (Q : Fin p25 × Fin p25) : Prop := ∃ vx vy vz, V = .agg #[vx, vy, vz] ∧ T3 R vx vy vz Q
theorem R3.sum {X1 Y1 Z1 X2 Y2 Z2 : Nat} {P Q : Fin p25 × Fin p25} (h1 : R3 X1 Y1 Z1 P) (h2 : R3 X2 Y2 Z2 Q) (oP : On (fF dN) P) (oQ : On (fF dN) Q) {a b c e f g h : Nat} (ha : a = fM Z1 Z2) (hb : b = fM a a) (hc : c = fM X1 X2) (he : e = fM Y1 Y2) (hf : f = fM dN (fM c e)) (hg : g = fS b f) (hh : h = fA b f) :
    R3 (fM (fM a g) (fS (fS (fM (fA X1 Y1) (fA X2 Y2)) c) e)) (fM (fM a h) (fA e c)) (fM g h) (FF.add P Q) := by
  have hce : c < p25 := by rw [hc]; exact fM_lt _ _
  have hee : e < p25 := by rw [he]; exact fM_lt _ _
  have hff : f < p25 := by rw [hf]; exact fM_lt _ _
  obtain ⟨s1, s2, s3⟩ := sum3 oP oQ h1.z h2.z h1.x h1.y h2.x h2.y (a := fF a) (b := fF b) (c := fF c) (e := fF e) (f := fF f) (g := fF g) (h := fF h) (by rw [ha, fF_M]) (by rw [hb, fF_M]) (by rw [hc, fF_M]) (by rw [he, fF_M]) (by rw [hf, fF_M, fF_M]) (by rw [hg, fF_S hff]) (by rw [hh, fF_A])
  refine ⟨by rw [fF_M]; exact s1, ?_, ?_, fM_lt _ _, fM_lt _ _, fM_lt _ _⟩
  · rw [fF_M, fF_M, fF_S hee, fF_S hce, fF_M, fF_A, fF_A, fF_M]; exact s2
  · rw [fF_M, fF_M, fF_A, fF_M]; exact s3
theorem R3.o : R3 0 1 1 ((0 : Fin p25), (1 : Fin p25)) := ⟨by decide, by decide, by decide, by decide, by decide, by decide⟩
theorem R3.aff {X Y Z : Nat} {Q : Fin p25 × Fin p25} (h : R3 X Y Z Q) : fM X (fI Z) = Q.1.val ∧ fM Y (fI Z) = Q.2.val := by
  have hi := fF_I h.z
  have hx := h.x
  have hy := h.y
  constructor
  · apply fF_inj (fM_lt _ _) Q.1.isLt
    rw [fF_M, fF_of, hx]; grind
  · apply fF_inj (fM_lt _ _) Q.2.isLt
    rw [fF_M, fF_of, hy]; grind
theorem dg_prts {y : Nat} (hy : y < p25) : digs y 32 = prts 8 32 y 255 := by
  have h2 : y < 2 ^ 255 := Nat.lt_trans hy (by decide)
  unfold digs prts
  apply List.map_congr_left
  intro j _
  unfold prt
  rw [Nat.mod_eq_of_lt h2, show (256 : Nat) = 2 ^ 8 from rfl, ← Nat.pow_mul]
theorem d_of : fM (fS 0 121665) (fI 121666) = dN := by
  rw [fI_eq, rtp_pm (by decide)]
  decide +kernel

set_option maxRecDepth 100000 in
theorem rD_z (A : Mem) : FnX Tryd.prog 37 [] [] A fun r M J => M = [] ∧ Nz J r dN := by
  refine FnX.enterZ (N := 6) Tryd.func37 rfl rfl rfl fun w_ => ?_
  refine XC.keep kn ?_
  refine XC.reg ?_
  refine XL.q (q_assign rfl) rfl ?_
  refine XL.fin kn ?_
  refine XC.reg ?_
  refine XL.call (aS rfl a0) (by kernel_rfl) (rsmall_z 121665 (by decide) _) rfl ?_
  rintro r1 M1 J1 ⟨rfl, h1⟩
  haveI := h1.cel
  refine XL.call (aS rfl (aS rfl a0)) (by kernel_rfl) (rsub_z _ Nz.nil (h1.mono SubC.sub) (by decide)) rfl ?_
  rintro r2 M2 J2 ⟨rfl, k2⟩
  have h2 := k2.z (by decide)
  haveI := h2.cel
  refine XL.call (aS rfl a0) (by kernel_rfl) (rsmall_z 121666 (by decide) _) rfl ?_
  rintro r3 M3 J3 ⟨rfl, h3⟩
  haveI := h3.cel
  refine XL.call (aS rfl a0) (by kernel_rfl) (rinv_z _ (h3.mono SubC.sub)) rfl ?_
  rintro r4 M4 J4 ⟨rfl, k4⟩
  have h4 := k4.z (by decide)
  haveI := h4.cel
  refine XL.call (aS rfl (aS rfl a0)) (by kernel_rfl) (rmul_z _ (h2.mono SubC.sub) (h4.mono SubC.sub)) rfl ?_
  rintro r5 M5 J5 ⟨rfl, k5⟩
  have h5 := k5.z (by decide)
  haveI := h5.cel
  rw [d_of] at h5
  refine XL.q (q_assign rfl) rfl ?_
  refine XL.fin (kp 0 rfl kn) ?_
  refine XC.ret ?_
  exact ⟨_, [], [], res1 rfl rfl, Fit.sub (List.nil_sublist _), rfl, h5.mono SubC.sub⟩

set_option maxRecDepth 100000 in
theorem rSum_z (vx vy vz ux uy uz vd : Value) (P Q : Fin p25 × Fin p25) (A : Mem) (hP : T3 A vx vy vz P) (hQ : T3 A ux uy uz Q) (oP : On (fF dN) P) (oQ : On (fF dN) Q) (hd : Nz A vd dN) : FnX Tryd.prog 39 [.agg #[vx, vy, vz], .agg #[ux, uy, uz], vd] [] A fun r M J => M = [] ∧ Tp J r (FF.add P Q) := by
  obtain ⟨X1, Y1, Z1, hx1, hy1, hz1, q1⟩ := hP.ex
  haveI := hP.c1
  haveI := hP.c2
  haveI := hP.c3
  obtain ⟨X2, Y2, Z2, hx2, hy2, hz2, q2⟩ := hQ.ex
  haveI := hQ.c1
  haveI := hQ.c2
  haveI := hQ.c3
  haveI := hd.cel
  refine FnX.enterZ (N := 77) Tryd.func39 rfl rfl rfl fun w_ => ?_
  refine XC.keep (kp 0 rfl (kp 1 rfl (kp 2 rfl kn))) ?_
  refine XC.reg ?_
  refine XL.lo rfl (l_box rfl (by first | exact Cel.cel | rfl) rfl fun b3 => ?_)
  refine XL.lo rfl (l_box rfl (by first | exact Cel.cel | rfl) rfl fun b4 => ?_)
  refine XL.lo rfl (l_alloc (cs := [.slice none 0 0, .slice none 0 0, .slice none 0 0]) (by kernel_rfl) rfl fun b6 => ?_)
  refine XL.fin (kp 2 rfl (kp 3 rfl (kp 4 rfl (kp 6 rfl kn)))) ?_
  refine XC.reg ?_
  refine XL.q (q_fieldAddrN 2 (off := 2) rfl (by kernel_rfl) rfl) rfl ?_
  refine XL.q (q_load rfl (by kernel_rfl) (by first | exact At.mem | exact mA (by assumption)) (by rfl)) rfl ?_
  refine XL.q (q_fieldAddrN 2 (off := 2) rfl (by kernel_rfl) rfl) rfl ?_
  refine XL.q (q_load rfl (by kernel_rfl) (by first | exact At.mem | exact mA (by assumption)) (by rfl)) rfl ?_
  refine XL.call (aS rfl (aS rfl a0)) (by kernel_rfl) (rmul_z _ (hz1.mono SubC.sub) (hz2.mono SubC.sub)) rfl ?_
  rintro r20 M20 J20 ⟨rfl, k20⟩
  have h20 := k20.z (by decide)
  haveI := h20.cel
  refine XL.q (q_assign rfl) rfl ?_
  refine XL.fin (kp 2 rfl (kp 3 rfl (kp 4 rfl (kp 6 rfl (kp 7 rfl kn))))) ?_
  refine XC.reg ?_
  refine XL.q (q_move rfl) rfl ?_
  refine XL.q (q_move rfl) rfl ?_
  refine XL.call (aS rfl (aS rfl a0)) (by kernel_rfl) (rmul_z _ (h20.mono SubC.sub) (h20.mono SubC.sub)) rfl ?_
  rintro r23 M23 J23 ⟨rfl, k23⟩
  have h23 := k23.z (by decide)
  haveI := h23.cel
  refine XL.q (q_assign rfl) rfl ?_
  refine XL.fin (kp 2 rfl (kp 3 rfl (kp 4 rfl (kp 6 rfl (kp 7 rfl (kp 8 rfl kn)))))) ?_
  refine XC.reg ?_
  refine XL.q (q_fieldAddrN 0 (off := 0) rfl (by kernel_rfl) rfl) rfl ?_
  refine XL.q (q_load rfl (by kernel_rfl) (by first | exact At.mem | exact mA (by assumption)) (by rfl)) rfl ?_
  refine XL.q (q_fieldAddrN 0 (off := 0) rfl (by kernel_rfl) rfl) rfl ?_
  refine XL.q (q_load rfl (by kernel_rfl) (by first | exact At.mem | exact mA (by assumption)) (by rfl)) rfl ?_
  refine XL.call (aS rfl (aS rfl a0)) (by kernel_rfl) (rmul_z _ (hx1.mono SubC.sub) (hx2.mono SubC.sub)) rfl ?_
  rintro r28 M28 J28 ⟨rfl, k28⟩
  have h28 := k28.z (by decide)
  haveI := h28.cel
  refine XL.q (q_assign rfl) rfl ?_
  refine XL.fin (kp 2 rfl (kp 3 rfl (kp 4 rfl (kp 6 rfl (kp 7 rfl (kp 8 rfl (kp 9 rfl kn))))))) ?_
  refine XC.reg ?_
  refine XL.q (q_fieldAddrN 1 (off := 1) rfl (by kernel_rfl) rfl) rfl ?_
  refine XL.q (q_load rfl (by kernel_rfl) (by first | exact At.mem | exact mA (by assumption)) (by rfl)) rfl ?_
  refine XL.q (q_fieldAddrN 1 (off := 1) rfl (by kernel_rfl) rfl) rfl ?_
  refine XL.q (q_load rfl (by kernel_rfl) (by first | exact At.mem | exact mA (by assumption)) (by rfl)) rfl ?_
  refine XL.call (aS rfl (aS rfl a0)) (by kernel_rfl) (rmul_z _ (hy1.mono SubC.sub) (hy2.mono SubC.sub)) rfl ?_
  rintro r33 M33 J33 ⟨rfl, k33⟩
  have h33 := k33.z (by decide)
  haveI := h33.cel
  refine XL.q (q_assign rfl) rfl ?_
  refine XL.fin (kp 2 rfl (kp 3 rfl (kp 4 rfl (kp 6 rfl (kp 7 rfl (kp 8 rfl (kp 9 rfl (kp 10 rfl kn)))))))) ?_
  refine XC.reg ?_
  refine XL.q (q_move rfl) rfl ?_
  refine XL.q (q_move rfl) rfl ?_
  refine XL.q (q_move rfl) rfl ?_
  refine XL.call (aS rfl (aS rfl a0)) (by kernel_rfl) (rmul_z _ (h28.mono SubC.sub) (h33.mono SubC.sub)) rfl ?_
  rintro r37 M37 J37 ⟨rfl, k37⟩
  have h37 := k37.z (by decide)
  haveI := h37.cel
  refine XL.call (aS rfl (aS rfl a0)) (by kernel_rfl) (rmul_z _ (hd.mono SubC.sub) (h37.mono SubC.sub)) rfl ?_
  rintro r38 M38 J38 ⟨rfl, k38⟩
  have h38 := k38.z (by decide)
  haveI := h38.cel
  refine XL.q (q_assign rfl) rfl ?_
  refine XL.fin (kp 3 rfl (kp 4 rfl (kp 6 rfl (kp 7 rfl (kp 8 rfl (kp 9 rfl (kp 10 rfl (kp 11 rfl kn)))))))) ?_
  refine XC.reg ?_
  refine XL.q (q_move rfl) rfl ?_
  refine XL.q (q_move rfl) rfl ?_
  refine XL.call (aS rfl (aS rfl a0)) (by kernel_rfl) (rsub_z _ (h23.mono SubC.sub) (h38.mono SubC.sub) (fM_lt _ _)) rfl ?_
  rintro r41 M41 J41 ⟨rfl, k41⟩
  have h41 := k41.z (by decide)
  haveI := h41.cel
  refine XL.q (q_move rfl) rfl ?_
  refine XL.q (q_move rfl) rfl ?_
  refine XL.call (aS rfl (aS rfl a0)) (by kernel_rfl) (radd_z _ (h23.mono SubC.sub) (h38.mono SubC.sub)) rfl ?_
  rintro r44 M44 J44 ⟨rfl, k44⟩
  have h44 := k44.z (by decide)
  haveI := h44.cel
  refine XL.q (q_assign rfl) rfl ?_
  refine XL.q (q_assign rfl) rfl ?_
  refine XL.fin (kp 3 rfl (kp 4 rfl (kp 6 rfl (kp 7 rfl (kp 9 rfl (kp 10 rfl (kp 12 rfl (kp 13 rfl kn)))))))) ?_
  refine XC.drawF [0, 1, 2, 3, 4, 5, 6, 7, 8, 9, 10, 11, 12, 13, 14, 15, 16, 17, 18, 19] [(0, 0), (1, 0), (3, 0), (4, 1), (5, 0), (6, 1), (8, 0), (9, 1), (10, 0), (11, 1), (14, 0), (16, 0), (2, 2), (7, 2), (12, 2), (13, 2), (15, 2), (17, 2), (18, 2), (19, 0)] (by kernel_rfl) (by kernel_rfl) fun hs => ?_
  refine XF.q hs rfl (q_move rfl) rfl ?_
  refine XF.q hs rfl (q_move rfl) rfl ?_
  refine XF.q hs rfl (q_fieldAddrN 0 (off := 0) rfl (by kernel_rfl) rfl) rfl ?_
  refine XF.r hs rfl (q_load rfl (by kernel_rfl) (by first | exact At.mem | exact mA (by assumption)) (by rfl)) rfl ?_
  refine XF.q hs rfl (q_fieldAddrN 1 (off := 1) rfl (by kernel_rfl) rfl) rfl ?_
  refine XF.r hs rfl (q_load rfl (by kernel_rfl) (by first | exact At.mem | exact mA (by assumption)) (by rfl)) rfl ?_
  refine XF.q hs rfl (q_fieldAddrN 0 (off := 0) rfl (by kernel_rfl) rfl) rfl ?_
  refine XF.r hs rfl (q_load rfl (by kernel_rfl) (by first | exact At.mem | exact mA (by assumption)) (by rfl)) rfl ?_
  refine XF.q hs rfl (q_fieldAddrN 1 (off := 1) rfl (by kernel_rfl) rfl) rfl ?_
  refine XF.r hs rfl (q_load rfl (by kernel_rfl) (by first | exact At.mem | exact mA (by assumption)) (by rfl)) rfl ?_
  refine XF.q hs rfl (q_move rfl) rfl ?_
  refine XF.q hs rfl (q_move rfl) rfl ?_
  refine XF.call rfl (aS rfl (aS rfl a0)) (by kernel_rfl) (rmul_z _ (h20.mono SubC.sub) (h41.mono SubC.sub)) rfl ?_
  rintro r47 M47 J47 ⟨rfl, k47⟩
  have h47 := k47.z (by decide)
  haveI := h47.cel
  refine XF.call rfl (aS rfl (aS rfl a0)) (by kernel_rfl) (radd_z _ (hx1.mono SubC.sub) (hy1.mono SubC.sub)) rfl ?_
  rintro r52 M52 J52 ⟨rfl, k52⟩
  have h52 := k52.z (by decide)
  haveI := h52.cel
  refine XF.call rfl (aS rfl (aS rfl a0)) (by kernel_rfl) (radd_z _ (hx2.mono SubC.sub) (hy2.mono SubC.sub)) rfl ?_
  rintro r57 M57 J57 ⟨rfl, k57⟩
  have h57 := k57.z (by decide)
  haveI := h57.cel
  refine XF.call rfl (aS rfl (aS rfl a0)) (by kernel_rfl) (rmul_z _ (h52.mono SubC.sub) (h57.mono SubC.sub)) rfl ?_
  rintro r58 M58 J58 ⟨rfl, k58⟩
  have h58 := k58.z (by decide)
  haveI := h58.cel
  refine XF.call rfl (aS rfl (aS rfl a0)) (by kernel_rfl) (rsub_z _ (h58.mono SubC.sub) (h28.mono SubC.sub) (fM_lt _ _)) rfl ?_
  rintro r60 M60 J60 ⟨rfl, k60⟩
  have h60 := k60.z (by decide)
  haveI := h60.cel
  refine XF.call rfl (aS rfl (aS rfl a0)) (by kernel_rfl) (rsub_z _ (h60.mono SubC.sub) (h33.mono SubC.sub) (fM_lt _ _)) rfl ?_
  rintro r62 M62 J62 ⟨rfl, k62⟩
  have h62 := k62.z (by decide)
  haveI := h62.cel
  refine XF.call rfl (aS rfl (aS rfl a0)) (by kernel_rfl) (rmul_z _ (h47.mono SubC.sub) (h62.mono SubC.sub)) rfl ?_
  rintro r63 M63 J63 ⟨rfl, k63⟩
  have h63 := k63.z (by decide)
  haveI := h63.cel
  refine XF.q hs rfl (q_assign rfl) rfl ?_
  refine XF.fin (kp 6 rfl (kp 7 rfl (kp 9 rfl (kp 10 rfl (kp 12 rfl (kp 13 rfl (kp 14 rfl kn))))))) ?_
  refine XC.reg ?_
  refine XL.q (q_move rfl) rfl ?_
  refine XL.q (q_move rfl) rfl ?_
  refine XL.call (aS rfl (aS rfl a0)) (by kernel_rfl) (rmul_z _ (h20.mono SubC.sub) (h44.mono SubC.sub)) rfl ?_
  rintro r66 M66 J66 ⟨rfl, k66⟩
  have h66 := k66.z (by decide)
  haveI := h66.cel
  refine XL.q (q_move rfl) rfl ?_
  refine XL.q (q_move rfl) rfl ?_
  refine XL.call (aS rfl (aS rfl a0)) (by kernel_rfl) (radd_z _ (h33.mono SubC.sub) (h28.mono SubC.sub)) rfl ?_
  rintro r69 M69 J69 ⟨rfl, k69⟩
  have h69 := k69.z (by decide)
  haveI := h69.cel
  refine XL.call (aS rfl (aS rfl a0)) (by kernel_rfl) (rmul_z _ (h66.mono SubC.sub) (h69.mono SubC.sub)) rfl ?_
  rintro r70 M70 J70 ⟨rfl, k70⟩
  have h70 := k70.z (by decide)
  haveI := h70.cel
  refine XL.q (q_assign rfl) rfl ?_
  refine XL.fin (kp 6 rfl (kp 12 rfl (kp 13 rfl (kp 14 rfl (kp 15 rfl kn))))) ?_
  refine XC.reg ?_
  refine XL.q (q_move rfl) rfl ?_
  refine XL.q (q_move rfl) rfl ?_
  refine XL.q (q_move rfl) rfl ?_
  refine XL.q (q_move rfl) rfl ?_
  refine XL.call (aS rfl (aS rfl a0)) (by kernel_rfl) (rmul_z _ (h41.mono SubC.sub) (h44.mono SubC.sub)) rfl ?_
  rintro r75 M75 J75 ⟨rfl, k75⟩
  have h75 := k75.z (by decide)
  haveI := h75.cel
  refine XL.q (q_build (place := fun x => #[(0, 1), (1, 1), (2, 1)][x]?) (z := [.slice none 0 0, .slice none 0 0, .slice none 0 0]) (fun _ => by kernel_rfl) (eS rfl (eS rfl (eS rfl e0))) (bdS 0 1 rfl (by rfl) (bdS 1 1 rfl (by rfl) (bdS 2 1 rfl (by rfl) bd0)))) rfl ?_
  refine XL.lo rfl (l_storeW (vs := [r63, r70, r75]) rfl rfl rfl (by kernel_rfl) (by rfl) (allS h63.one (allS h70.one (allS h75.one all0))) UpC.upd ?_)
  refine XL.fin (kp 6 rfl kn) ?_
  refine XC.ret ?_
  exact ⟨_, [], [], resC rfl rfl (by kernel_rfl) At.mem (by rfl), Fit.sub (List.nil_sublist _), rfl, _, _, _, rfl, _, _, _, h63.mono SubC.sub, h70.mono SubC.sub, h75.mono SubC.sub, q1.sum q2 oP oQ rfl rfl rfl rfl rfl rfl rfl⟩

set_option maxRecDepth 100000 in
theorem rOrigin_z (A : Mem) : FnX Tryd.prog 36 [] [] A fun r M J => M = [] ∧ Tp J r ((0 : Fin p25), (1 : Fin p25)) := by
  refine FnX.enterZ (N := 4) Tryd.func36 rfl rfl rfl fun w_ => ?_
  refine XC.keep kn ?_
  refine XC.reg ?_
  refine XL.lo rfl (l_alloc (cs := [.slice none 0 0, .slice none 0 0, .slice none 0 0]) (by kernel_rfl) rfl fun b0 => ?_)
  refine XL.fin (kp 0 rfl kn) ?_
  refine XC.reg ?_
  refine XL.lo rfl (l_buildSlice (e := 49) (sz := 1) (z := [.int .u32 0]) (by kernel_rfl) (eS rfl e0) (bdS 0 1 rfl (by rfl) bd0) rfl fun b1 => ?_)
  refine XL.lo rfl (l_buildSlice (e := 49) (sz := 1) (z := [.int .u32 0]) (by kernel_rfl) (eS rfl e0) (bdS 0 1 rfl (by rfl) bd0) rfl fun b2 => ?_)
  refine XL.q (q_build (place := fun x => #[(0, 1), (1, 1), (2, 1)][x]?) (z := [.slice none 0 0, .slice none 0 0, .slice none 0 0]) (fun _ => by kernel_rfl) (eS rfl (eS rfl (eS rfl e0))) (bdS 0 1 rfl (by rfl) (bdS 1 1 rfl (by rfl) (bdS 2 1 rfl (by rfl) bd0)))) rfl ?_
  refine XL.lo rfl (l_storeW rfl rfl Cel.cel (by kernel_rfl) (lnS (lnS (lnS (ln0)))) (allS rfl (allS rfl (allS rfl (all0)))) UpC.upd ?_)
  refine XL.fin (kp 0 rfl kn) ?_
  refine XC.ret ?_
  exact ⟨_, [], _, resC rfl rfl (by kernel_rfl) At.mem (by rfl), Fit.eq (List.append_nil _).symm, rfl, _, _, _, rfl, _, _, _, Nz.nil, Nz.lit [1] At.mem rfl w32_1 (by decide) rfl, Nz.lit [1] At.mem rfl w32_1 (by decide) rfl, R3.o⟩

theorem tp_open {R : Mem} {V : Value} {Q : Fin p25 × Fin p25} (h : Tp R V Q) : ∃ vx vy vz, V = .agg #[vx, vy, vz] ∧ T3 R vx vy vz Q := h
theorem T3.ones {R : Mem} {vx vy vz : Value} {Q : Fin p25 × Fin p25} (h : T3 R vx vy vz Q) : ∀ c ∈ [vx, vy, vz], c.oneCell' = true := by
  obtain ⟨X, Y, Z, a, b, c, d⟩ := h.ex
  exact allS a.one (allS b.one (allS c.one all0))
theorem nsm_dbl {Q : Fin p25 × Fin p25} (o : On (fF dN) Q) (n i : Nat) : FF.nsm (n / 2 ^ i) Q = if n / 2 ^ i % 2 = 1 then FF.add (FF.add (FF.nsm (n / 2 ^ (i + 1)) Q) (FF.nsm (n / 2 ^ (i + 1)) Q)) Q else FF.add (FF.nsm (n / 2 ^ (i + 1)) Q) (FF.nsm (n / 2 ^ (i + 1)) Q) := by
  have h : n / 2 ^ i = 2 * (n / 2 ^ (i + 1)) + n / 2 ^ i % 2 := by
    rw [Nat.pow_succ, ← Nat.div_div_eq_div_mul]; omega
  have hb : n / 2 ^ i % 2 = 0 ∨ n / 2 ^ i % 2 = 1 := by omega
  generalize n / 2 ^ (i + 1) = m at *
  rcases hb with hb | hb
  · rw [if_neg (by omega)]
    conv => lhs; rw [h, hb, Nat.add_zero, Nat.two_mul, FF.nsm_add o]
  · rw [if_pos hb]
    conv => lhs; rw [h, hb, FF.nsm_succ, Nat.two_mul, FF.nsm_add o]

set_option maxRecDepth 100000 in
theorem rTimes_z (vx vy vz vn : Value) (Q : Fin p25 × Fin p25) (n : Nat) (A : Mem) (hQ : T3 A vx vy vz Q) (oQ : On (fF dN) Q) (hn : Nz A vn n) : FnX Tryd.prog 11 [.agg #[vx, vy, vz], vn] [] A fun r M J => M = [] ∧ Tp J r (FF.nsm n Q) := by
  haveI := hQ.c1
  haveI := hQ.c2
  haveI := hQ.c3
  haveI := hn.cel
  refine FnX.enterZ (N := 30) Tryd.func11 rfl rfl rfl fun w_ => ?_
  refine XC.keep (kp 0 rfl (kp 1 rfl kn)) ?_
  refine XC.reg ?_
  refine XL.lo rfl (l_box rfl (by first | exact Cel.cel | rfl) rfl fun b2 => ?_)
  refine XL.lo rfl (l_alloc (cs := [.slice none 0 0, .slice none 0 0, .slice none 0 0]) (by kernel_rfl) rfl fun b4 => ?_)
  refine XL.fin (kp 1 rfl (kp 2 rfl (kp 4 rfl kn))) ?_
  refine XC.reg ?_
  refine XL.call a0 (by kernel_rfl) (rOrigin_z _) rfl ?_
  rintro r8 M8 J8 ⟨rfl, ho⟩
  have hoT := ho
  clear ho
  obtain ⟨ox, oy, oz, rfl, ho⟩ := tp_open hoT
  haveI := ho.c1
  haveI := ho.c2
  haveI := ho.c3
  refine XL.lo rfl (l_alloc (cs := [.slice none 0 0, .slice none 0 0, .slice none 0 0]) (by kernel_rfl) rfl fun b5 => ?_)
  refine XL.lo rfl (l_storeW (vs := [ox, oy, oz]) rfl rfl rfl (by kernel_rfl) (by rfl) ho.ones UpC.upd ?_)
  refine XL.fin (kp 1 rfl (kp 2 rfl (kp 4 rfl (kp 5 rfl kn)))) ?_
  refine XC.reg ?_
  refine XL.call a0 (by kernel_rfl) (rD_z _) rfl ?_
  rintro r9 M9 J9 ⟨rfl, hd⟩
  haveI := hd.cel
  refine XL.q (q_assign rfl) rfl ?_
  refine XL.fin (kp 1 rfl (kp 2 rfl (kp 4 rfl (kp 5 rfl (kp 6 rfl kn))))) ?_
  refine XC.seq ?_
  refine XC.reg ?_
  refine XL.q (q_move rfl) rfl ?_
  refine XL.call (aS rfl a0) (by kernel_rfl) (rlen_z _ (hn.mono SubC.sub)) rfl ?_
  rintro r11 M11 J11 ⟨rfl, rfl, m, rfl, hm1, hm2⟩
  refine XL.q (q_num ((m : Int) - 1) rfl rfl (sub64 rfl (by omega) (by omega))) rfl ?_
  refine XL.q (q_assign rfl) rfl ?_
  refine XL.fin (kp 1 rfl (kp 2 rfl (kp 4 rfl (kp 5 rfl (kp 6 rfl (kp 7 rfl kn)))))) ?_
  refine XC.block ?_
  refine XC.fit (M' := [(b5, blk [ox, oy, oz] 33), (b4, blk [.slice none 0 0, .slice none 0 0, .slice none 0 0] 33), (b2, blk [vx, vy, vz] 33)]) (Fit.eq rfl) (fun _ h => h) ?_
  refine XC.loop (α := Nat × (Value × Value × Value) × Mem) (fun y => [(1, vn), (2, .pointer (some ⟨b2, 0, none⟩)), (4, .pointer (some ⟨b4, 0, none⟩)), (5, .pointer (some ⟨b5, 0, none⟩)), (6, r9), (7, .int .i64 ((y.1 : Int) - 1))]) (fun y => [(b5, blk [y.2.1.1, y.2.1.2.1, y.2.1.2.2] 33), (b4, blk [.slice none 0 0, .slice none 0 0, .slice none 0 0] 33), (b2, blk [vx, vy, vz] 33)]) (fun y => y.2.2) (fun y => y.1 ≤ m ∧ Nz y.2.2 r9 dN ∧ T3 y.2.2 y.2.1.1 y.2.1.2.1 y.2.1.2.2 (FF.nsm (n / 2 ^ y.1) Q)) (fun y => y.1) (m, (ox, oy, oz), _) ⟨Nat.le_refl _, hd.mono SubC.sub, by rw [Nat.div_eq_of_lt hm2]; exact ho.mono SubC.sub⟩ (kp 1 rfl (kp 2 rfl (kp 4 rfl (kp 5 rfl (kp 6 rfl (kp 7 rfl kn)))))) .rfl (fun _ h => h) ?_
  clear ho
  rintro ⟨j, ⟨zx, zy, zz⟩, Jj⟩ ⟨hj, hdj, ht⟩
  dsimp only at hj hdj ht ⊢
  clear hd
  haveI := ht.c1
  haveI := ht.c2
  haveI := ht.c3
  refine XC.seq ?_
  refine XC.reg ?_
  refine XL.q (q_move rfl) rfl ?_
  refine XL.q (q_bin rfl rfl rfl) rfl ?_
  refine XL.fin (kp 1 rfl (kp 2 rfl (kp 4 rfl (kp 5 rfl (kp 6 rfl (kp 7 rfl (kp 14 rfl kn))))))) ?_
  refine XC.cond rfl (fun hc => ?_) (fun hc => ?_)
  ·
    have hj0 : 0 < j := by simp at hc; omega
    obtain ⟨i, rfl⟩ : ∃ i, j = i + 1 := ⟨j - 1, by omega⟩
    rw [show (((i + 1 : Nat) : Int) - 1) = (i : Int) by omega]
    have hts := nsm_dbl oQ n i
    have onm := FF.nsm_on oQ (n / 2 ^ (i + 1))
    have ond := FF.add_on onm onm
    have hbt : n / 2 ^ i % 2 < 2 := Nat.mod_lt _ (by decide)
    generalize hbe : n / 2 ^ i % 2 = bt at *
    refine XC.skip ?_
    refine nx (kp 1 rfl (kp 2 rfl (kp 4 rfl (kp 5 rfl (kp 6 rfl (kp 7 rfl kn)))))) ?_
    refine XC.seq ?_
    refine XC.block ?_
    refine XC.reg ?_
    refine XL.q (q_loadW (n := 3) rfl (by kernel_rfl) (by first | exact At.mem | exact mA (by assumption)) (by rfl)) rfl ?_
    refine XL.q (q_loadW (n := 3) rfl (by kernel_rfl) (by first | exact At.mem | exact mA (by assumption)) (by rfl)) rfl ?_
    refine XL.q (q_move rfl) rfl ?_
    refine XL.call (aS rfl (aS rfl (aS rfl a0))) (by kernel_rfl) (rSum_z _ _ _ _ _ _ _ _ _ _ (ht.mono SubC.sub) (ht.mono SubC.sub) onm onm (hdj.mono SubC.sub)) rfl ?_
    rintro r20 M20 J20 ⟨rfl, hs⟩
    have hsT := hs
    clear hs
    obtain ⟨sx, sy, sz, rfl, hs⟩ := tp_open hsT
    haveI := hs.c1
    haveI := hs.c2
    haveI := hs.c3
    refine XL.lo rfl (l_storeW (vs := [sx, sy, sz]) rfl rfl rfl (by kernel_rfl) (by rfl) hs.ones UpC.upd ?_)
    refine XL.fin (kp 1 rfl (kp 2 rfl (kp 4 rfl (kp 5 rfl (kp 6 rfl (kp 7 rfl kn)))))) ?_
    refine XC.reg ?_
    refine XL.q (q_move rfl) rfl ?_
    refine XL.q (q_move rfl) rfl ?_
    refine XL.callV (aS rfl (aS rfl a0)) (by kernel_rfl) (rbit_z i _ (hn.mono SubC.sub) (by omega)) rfl ?_
    rw [hbe]
    refine XL.q (q_cmp (decide (bt = 1)) rfl rfl (by rcases (show bt = 0 ∨ bt = 1 by omega) with h | h <;> subst h <;> rfl)) rfl ?_
    refine XL.fin (kp 1 rfl (kp 2 rfl (kp 4 rfl (kp 5 rfl (kp 6 rfl (kp 7 rfl (kp 24 rfl kn))))))) ?_
    refine XC.cond rfl (fun hc => ?_) (fun hc => ?_)
    ·
      have hb1 : bt = 1 := by simpa using hc
      rw [if_pos hb1] at hts
      refine XC.reg1 ?_
      refine XL.q (q_loadW (n := 3) rfl (by kernel_rfl) (by first | exact At.mem | exact mA (by assumption)) (by rfl)) rfl ?_
      refine XL.q (q_loadW (n := 3) rfl (by kernel_rfl) (by first | exact At.mem | exact mA (by assumption)) (by rfl)) rfl ?_
      refine XL.q (q_move rfl) rfl ?_
      refine XL.call (aS rfl (aS rfl (aS rfl a0))) (by kernel_rfl) (rSum_z _ _ _ _ _ _ _ _ _ _ (hs.mono SubC.sub) (hQ.mono SubC.sub) ond oQ (hdj.mono SubC.sub)) rfl ?_
      rintro r28 M28 J28 ⟨rfl, hu⟩
      rw [← hts] at hu
      have huT := hu
      clear hu
      obtain ⟨ux, uy, uz, rfl, hu⟩ := tp_open huT
      haveI := hu.c1
      haveI := hu.c2
      haveI := hu.c3
      refine XL.lo rfl (l_storeW (vs := [ux, uy, uz]) rfl rfl rfl (by kernel_rfl) (by rfl) hu.ones UpC.upd ?_)
      refine XL.nil ?_
      refine nb ?_
      refine nx (kp 1 rfl (kp 2 rfl (kp 4 rfl (kp 5 rfl (kp 6 rfl (kp 7 rfl kn)))))) ?_
      refine XC.reg1 ?_
      refine XL.q (q_move rfl) rfl ?_
      refine XL.q (q_num ((i : Int) - 1) rfl rfl (sub64 rfl (by omega) (by omega))) rfl ?_
      refine XL.q (q_assign rfl) rfl ?_
      refine XL.nil ?_
      exact rn (i, (ux, uy, uz), _) ⟨by dsimp only; omega, hdj.mono SubC.sub, hu.mono SubC.sub⟩ (by dsimp only; omega) (kp 1 rfl (kp 2 rfl (kp 4 rfl (kp 5 rfl (kp 6 rfl (kp 7 rfl kn)))))) (Fit.eq rfl) (fun _ h => h)
    ·
      have hb1 : ¬ bt = 1 := by simpa using hc
      rw [if_neg hb1] at hts
      refine XC.skip ?_
      refine nb ?_
      refine nx (kp 1 rfl (kp 2 rfl (kp 4 rfl (kp 5 rfl (kp 6 rfl (kp 7 rfl kn)))))) ?_
      refine XC.reg1 ?_
      refine XL.q (q_move rfl) rfl ?_
      refine XL.q (q_num ((i : Int) - 1) rfl rfl (sub64 rfl (by omega) (by omega))) rfl ?_
      refine XL.q (q_assign rfl) rfl ?_
      refine XL.nil ?_
      exact rn (i, (sx, sy, sz), _) ⟨by dsimp only; omega, hdj.mono SubC.sub, by dsimp only; rw [hts]; exact hs.mono SubC.sub⟩ (by dsimp only; omega) (kp 1 rfl (kp 2 rfl (kp 4 rfl (kp 5 rfl (kp 6 rfl (kp 7 rfl kn)))))) (Fit.eq rfl) (fun _ h => h)
  ·
    have hj0 : j = 0 := by simp at hc; omega
    subst hj0
    rw [Nat.pow_zero, Nat.div_one] at ht
    refine XC.exit ?_
    refine te ?_
    refine re ?_
    refine be rfl ?_
    refine nx (kp 4 rfl (kp 5 rfl kn)) ?_
    refine XC.reg ?_
    refine XL.q (q_loadW (n := 3) rfl (by kernel_rfl) (by first | exact At.mem | exact mA (by assumption)) (by rfl)) rfl ?_
    refine XL.lo rfl (l_storeW (vs := [zx, zy, zz]) rfl rfl rfl (by kernel_rfl) (by rfl) ht.ones UpC.upd ?_)
    refine XL.fin (kp 4 rfl kn) ?_
    refine XC.ret ?_
    exact ⟨_, [], [], resC rfl rfl (by kernel_rfl) At.mem (by rfl), Fit.sub (List.nil_sublist _), rfl, _, _, _, rfl, by simpa using ht⟩

end Go.Proofs.YtcfdeohjhhpmcaaDoor
