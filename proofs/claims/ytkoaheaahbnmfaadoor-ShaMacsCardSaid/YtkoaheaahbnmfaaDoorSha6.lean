/- The walks of pawlref02.Mac and pawlref02.Expand. -/
import Derived.Test.YtkoaheaahbnmfaaDoorSha5
set_option linter.unusedVariables false
set_option linter.unusedSimpArgs false
namespace Go.Proofs.YtkoaheaahbnmfaaDoor
open Go.Px

theorem operm {B D M : Mem} (x y : Nat × Obj) : (x :: (B ++ (y :: (D ++ M)))).Perm (D ++ (x :: (B ++ (y :: M)))) := by
  have h1 : (x :: (B ++ (y :: (D ++ M)))) = (x :: (B ++ [y])) ++ (D ++ M) := by simp
  have h2 : (D ++ (x :: (B ++ (y :: M)))) = D ++ ((x :: (B ++ [y])) ++ M) := by simp
  rw [h1, h2]
  exact List.perm_append_comm_assoc _ _ _
theorem ofit {B D M : Mem} (x y : Nat × Obj) : Fit (D ++ (x :: (B ++ (y :: M)))) (B ++ (D ++ M)) := by
  refine ⟨B ++ (D ++ (x :: y :: M)), ?_, List.Sublist.append (List.Sublist.refl _) (List.Sublist.append (List.Sublist.refl _) (.cons _ (.cons _ (List.Sublist.refl _))))⟩
  have h1 : (D ++ (x :: (B ++ (y :: M)))).Perm (D ++ (B ++ (x :: y :: M))) := List.Perm.append_left _ List.perm_middle.symm
  exact h1.trans (List.perm_append_comm_assoc _ _ _)

theorem rmac_spec (kv mv : Value) (key m : List Nat) (A : Mem) (hkey : Rd A 1 kv key.length (nums .u8 key)) (hk256 : ∀ x ∈ key, x < 256) (hk31 : key.length ≤ 1073741824) (hm : Rd A 1 mv m.length (nums .u8 m)) (hm256 : ∀ x ∈ m, x < 256) (hml : m.length ≤ 536870912) :
    FnX Tryd.prog 12 [kv, mv] [] A fun r M J => J = [] ∧ Sl 1 r 32 (nums .u8 (hmac key m)) M := by
  refine FnX.enter (N := 43) Tryd.func12 rfl rfl rfl fun w => ?_
  refine XC.keep (kp 0 rfl (kp 1 rfl kn)) ?_
  refine XC.reg ?_
  refine XL.q (q_assign rfl) rfl ?_
  refine XL.fin (kp 0 rfl (kp 1 rfl kn)) ?_
  refine XC.join (α := Value × Mem) (fun x => [(0, x.1), (1, mv)]) (fun x => x.2) (fun _ => []) (fun x => Rd (x.2 ++ A) 1 x.1 (macKey key).length (nums .u8 (macKey key))) ?_ ?_
  ·
    refine XC.reg ?_
    refine XL.q (q_move rfl) rfl ?_
    refine XL.q (q_lenV hkey rfl (by kernel_rfl)) rfl ?_
    refine XL.q (q_bin rfl rfl rfl) rfl ?_
    refine XL.fin (kp 0 rfl (kp 1 rfl (kp 11 rfl kn))) ?_
    refine XC.cond rfl (fun hc => ?_) (fun hc => ?_)
    ·
      have hgt : 64 < key.length := by simp at hc; omega
      refine XC.reg1 ?_
      refine XL.q (q_move rfl) rfl ?_
      refine XL.lo rfl (l_call (Mc := []) (R := []) (aS rfl a0) (by kernel_rfl) (.refl _) (rsum_spec _ key _ (hkey.mono fun _ h => mA h) hk256 (by omega)) rfl ?_)
      rintro r M1 J1 ⟨rfl, hr⟩
      refine XL.q (q_assign rfl) rfl ?_
      refine XL.nil ?_
      refine jn (r, _) ?_ (kp 0 rfl (kp 1 rfl kn)) .rfl (fun _ h => h)
      dsimp only
      rw [macKey, if_pos hgt, sha_len]
      exact hr.rd fun _ h => by simp [h]
    ·
      have hgt : ¬ 64 < key.length := by simp at hc; omega
      refine XC.skip ?_
      refine jn (kv, []) ?_ (kp 0 rfl (kp 1 rfl kn)) .rfl (fun _ h => h)
      dsimp only
      rw [macKey, if_neg hgt]
      exact hkey
  ·
    rintro ⟨kv1, Mk⟩ hkv
    dsimp only at hkv ⊢
    have hK64 := macKey_len key
    have hKb := macKey_lt hk256
    have hkl := keyPad_len hK64
    have hklt := fun y hy => keyPad_lt (y := y) hKb hy
    unfold hmac
    unfold keyPad at *
    generalize macKey key = K at *
    have hK1 : (K ++ List.replicate (64 - K.length) 0).length = 64 := by simp; omega
    have hK2 : ∀ x ∈ K ++ List.replicate (64 - K.length) 0, x < 256 := fun x hx => by
      rcases List.mem_append.1 hx with h | h
      · exact hKb x h
      · rw [(List.mem_replicate.1 h).2]; decide
    have hKlo : ∀ i, i < K.length → K.getD i 0 = (K ++ List.replicate (64 - K.length) 0).getD i 0 := fun i hi => (getD_app hi).symm
    have hKhi : ∀ i, K.length ≤ i → (K ++ List.replicate (64 - K.length) 0).getD i 0 = 0 := fun i hi => by
      simp only [List.getD]
      rw [List.getElem?_append_right hi, List.getElem?_replicate]
      split <;> rfl
    generalize hKK : K ++ List.replicate (64 - K.length) 0 = KK at *
    refine XC.reg ?_
    refine XL.q (q_assign rfl) rfl ?_
    refine XL.q (q_assign rfl) rfl ?_
    refine XL.fin (kp 0 rfl (kp 1 rfl (kp 5 rfl (kp 6 rfl kn)))) ?_
    refine XC.seq ?_
    refine XC.reg ?_
    refine XL.q (q_assign rfl) rfl ?_
    refine XL.fin (kp 0 rfl (kp 1 rfl (kp 5 rfl (kp 6 rfl (kp 7 rfl kn))))) ?_
    refine XC.block ?_
    refine XC.loop (α := Nat × Value × Value × Mem × Mem) (fun x => [(0, kv1), (1, mv), (5, x.2.1), (6, x.2.2.1), (7, .int .i64 (x.1 : Int))]) (fun x => x.2.2.2.1 ++ (x.2.2.2.2 ++ Mk)) (fun _ => []) (fun x => x.1 ≤ 64 ∧ Sl 1 x.2.1 x.1 (nums .u8 ((KK.take x.1).map (· ^^^ 54))) x.2.2.2.1 ∧ Sl 1 x.2.2.1 x.1 (nums .u8 ((KK.take x.1).map (· ^^^ 92))) x.2.2.2.2) (fun x => 64 - x.1) (0, .slice none 0 0, .slice none 0 0, [], []) ⟨Nat.zero_le _, Sl.nil, Sl.nil⟩ (kp 0 rfl (kp 1 rfl (kp 5 rfl (kp 6 rfl (kp 7 rfl kn))))) .rfl (fun _ h => h) ?_
    rintro ⟨i, iv, ov, Bi, Bo⟩ ⟨hi, hin, hon⟩
    dsimp only at hi hin hon ⊢
    refine XC.seq ?_
    refine XC.reg ?_
    refine XL.q (q_move rfl) rfl ?_
    refine XL.q (q_bin rfl rfl rfl) rfl ?_
    refine XL.fin (kp 0 rfl (kp 1 rfl (kp 5 rfl (kp 6 rfl (kp 7 rfl (kp 15 rfl kn)))))) ?_
    refine XC.cond rfl (fun hc => ?_) (fun hc => ?_)
    ·
      have hlt : i < 64 := by simp at hc; omega
      have hx8 : KK.getD i 0 < 256 := getD_lt hK2 (by decide)
      have htk : KK.take (i + 1) = KK.take i ++ [KK.getD i 0] := by
        rw [List.take_add_one, List.getElem?_eq_getElem (show i < KK.length by omega), List.getD, List.getElem?_eq_getElem (show i < KK.length by omega)]; rfl
      refine XC.skip ?_
      refine nx (kp 0 rfl (kp 1 rfl (kp 5 rfl (kp 6 rfl (kp 7 rfl kn))))) ?_
      refine XC.seq ?_
      refine XC.block ?_
      refine XC.reg ?_
      refine XL.q (q_assign rfl) rfl ?_
      refine XL.fin (kp 0 rfl (kp 1 rfl (kp 5 rfl (kp 6 rfl (kp 7 rfl (kp 8 rfl kn)))))) ?_
      refine XC.join (α := Unit) (fun _ => [(0, kv1), (1, mv), (5, iv), (6, ov), (7, .int .i64 (i : Int)), (8, .int .u8 ((KK.getD i 0 : Nat) : Int))]) (fun _ => Bi ++ (Bo ++ Mk)) (fun _ => []) (fun _ => True) ?_ ?_
      ·
        refine XC.reg ?_
        refine XL.q (q_move rfl) rfl ?_
        refine XL.q (q_move rfl) rfl ?_
        refine XL.q (q_lenV hkv rfl (by kernel_rfl)) rfl ?_
        refine XL.q (q_bin rfl rfl rfl) rfl ?_
        refine XL.fin (kp 0 rfl (kp 1 rfl (kp 5 rfl (kp 6 rfl (kp 7 rfl (kp 8 rfl (kp 21 rfl kn))))))) ?_
        refine XC.cond rfl (fun hc => ?_) (fun hc => ?_)
        ·
          have hik : i < K.length := by simp at hc; omega
          refine XC.reg1 ?_
          refine XL.q (q_move rfl) rfl ?_
          refine XL.q (q_move rfl) rfl ?_
          refine XL.q (q_atV hkv rfl rfl (by kernel_rfl) i rfl hik) rfl ?_
          refine XL.q (q_ldVN (hkv.mono fun q hq => by rcases List.mem_append.1 hq with h | h <;> simp [h]) rfl (by kernel_rfl) hik) rfl ?_
          rw [hKlo i hik]
          refine XL.q (q_assign rfl) rfl ?_
          refine XL.nil ?_
          exact jn () trivial (kp 0 rfl (kp 1 rfl (kp 5 rfl (kp 6 rfl (kp 7 rfl (kp 8 rfl kn)))))) .rfl (fun _ h => h)
        ·
          have hik : K.length ≤ i := by simp at hc; omega
          refine XC.skip ?_
          refine jn () trivial (kp 0 rfl (kp 1 rfl (kp 5 rfl (kp 6 rfl (kp 7 rfl (kp 8 (by rw [hKhi i hik]; rfl) kn)))))) .rfl (fun _ h => h)
      ·
        rintro _ _
        refine XC.reg ?_
        refine XL.q (q_move rfl) rfl ?_
        refine XL.q (q_move rfl) rfl ?_
        refine XL.q (q_xor8 (b := 54) rfl rfl hx8 (by decide)) rfl ?_
        refine XL.lo rfl (l_buildSlice (e := 5) (sz := 1) (z := [.int .u8 0]) (by kernel_rfl) (eS rfl e0) (bdS 0 1 rfl (by rfl) bd0) rfl fun b29 => ?_)
        refine XL.lo rfl (l_append (e := 5) (sz := 1) (by_ := 1) (m := 1) (B := Bi) (ys := nums .u8 [KK.getD i 0 ^^^ 54]) (M0 := (b29, _) :: (Bo ++ Mk)) rfl rfl (by kernel_rfl) rfl hin (Rd.whole (n := 1) m0 (by rfl)) nums_one pkB (by unfold maxLen; omega) (by omega) rfl fun iv1 Bi1 hin1 => ?_)
        refine XL.q (q_assign rfl) rfl ?_
        refine XL.fin (kp 0 rfl (kp 1 rfl (kp 5 rfl (kp 6 rfl (kp 7 rfl (kp 8 rfl kn)))))) ?_
        refine XC.reg1 ?_
        refine XL.q (q_move rfl) rfl ?_
        refine XL.q (q_move rfl) rfl ?_
        refine XL.q (q_xor8 (b := 92) rfl rfl hx8 (by decide)) rfl ?_
        refine XL.lo rfl (l_buildSlice (e := 5) (sz := 1) (z := [.int .u8 0]) (by kernel_rfl) (eS rfl e0) (bdS 0 1 rfl (by rfl) bd0) rfl fun b34 => ?_)
        refine XL.lo rfl (l_append (e := 5) (sz := 1) (by_ := 1) (m := 1) (B := Bo) (ys := nums .u8 [KK.getD i 0 ^^^ 92]) (M0 := (b34, _) :: (Bi1 ++ (_ :: Mk))) rfl rfl (by kernel_rfl) rfl hon (Rd.whole (n := 1) m0 (by rfl)) nums_one (operm _ _) (by unfold maxLen; omega) (by omega) rfl fun ov1 Bo1 hon1 => ?_)
        refine XL.q (q_assign rfl) rfl ?_
        refine XL.nil ?_
        refine nb ?_
        refine nx (kp 0 rfl (kp 1 rfl (kp 5 rfl (kp 6 rfl (kp 7 rfl kn))))) ?_
        refine XC.reg1 ?_
        refine XL.q (q_move rfl) rfl ?_
        refine XL.q (q_num ((i + 1 : Nat) : Int) rfl rfl (add64 (by omega) (by omega) (by omega))) rfl ?_
        refine XL.q (q_assign rfl) rfl ?_
        refine XL.nil ?_
        refine rn (i + 1, iv1, ov1, Bi1, Bo1) ⟨by dsimp only; omega, sl_eq hin1 rfl (by dsimp only; rw [htk, List.map_append, nums_append]; rfl), sl_eq hon1 rfl (by dsimp only; rw [htk, List.map_append, nums_append]; rfl)⟩ (by dsimp only; omega) (kp 0 rfl (kp 1 rfl (kp 5 rfl (kp 6 rfl (kp 7 rfl kn))))) (ofit _ _) (fun _ h => h)
    ·
      have hlt : i = 64 := by simp at hc; omega
      subst hlt
      rw [show KK.take 64 = KK from by rw [← hK1, List.take_length]] at hin hon
      refine XC.exit ?_
      refine te ?_
      refine re ?_
      refine be rfl ?_
      refine nx (kp 1 rfl (kp 5 rfl (kp 6 rfl kn))) ?_
      refine XC.reg ?_
      refine XL.q (q_move rfl) rfl ?_
      refine XL.q (q_move rfl) rfl ?_
      refine XL.q (q_move rfl) rfl ?_
      refine XL.lo rfl (l_append (e := 5) (sz := 1) (by_ := 1) (m := m.length) (B := Bi) (M0 := Bo ++ Mk) rfl rfl (by kernel_rfl) rfl hin (hm.mono fun _ h => mA h) nums_one (.refl _) (by unfold maxLen; omega) (by omega) rfl fun v39 B39 h39 => ?_)
      rw [← nums_append] at h39
      refine XL.lo rfl (l_call (Mc := []) (R := B39 ++ (Bo ++ Mk)) (aS rfl a0) (by kernel_rfl) (.refl _) (rsum_spec _ (KK.map (· ^^^ 54) ++ m) _ (rd_eq (h39.rd fun _ h => by simp [h]) (by rw [List.length_append, hkl]) rfl) (fun x hx => (List.mem_append.1 hx).elim (hklt 54 (by decide) x) (hm256 x)) (by rw [List.length_append, hkl]; omega)) rfl ?_)
      rintro r40 M40 J1 ⟨rfl, h40⟩
      refine XL.lo rfl (l_append (e := 5) (sz := 1) (by_ := 1) (m := 32) (B := Bo) (M0 := (M40 ++ B39) ++ Mk) rfl rfl (by kernel_rfl) rfl hon (h40.rd fun _ h => by simp [h]) nums_one (by rw [← List.append_assoc]; exact List.perm_append_comm_assoc _ _ _) (by unfold maxLen; omega) (by omega) rfl fun v41 B41 h41 => ?_)
      rw [← nums_append] at h41
      refine XL.lo rfl (l_call (Mc := []) (R := B41 ++ ((M40 ++ B39) ++ Mk)) (aS rfl a0) (by kernel_rfl) (.refl _) (rsum_spec _ (KK.map (· ^^^ 92) ++ sha256 (KK.map (· ^^^ 54) ++ m)) _ (rd_eq (h41.rd fun _ h => by simp [h]) (by rw [List.length_append, hkl, sha_len]) rfl) (fun x hx => (List.mem_append.1 hx).elim (hklt 92 (by decide) x) (sha_lt _ x)) (by rw [List.length_append, hkl, sha_len]; decide)) rfl ?_)
      rintro r42 M42 J1 ⟨rfl, h42⟩
      refine XL.q (q_assign rfl) rfl ?_
      refine XL.fin (kp 4 rfl kn) ?_
      refine XC.ret ?_
      exact ⟨_, _, [], res1 rfl rfl, List.sublist_append_left _ _, by simp, rfl, h42⟩
