/- The walks of sha.Mac, sha.Extract, sha.Wide. -/
import Derived.Test.YthmnlkpikgglbaaGreatDoorSha2
set_option linter.unusedVariables false
set_option linter.unusedSimpArgs false
namespace Go.Proofs.YthmnlkpikgglbaaGreatDoor
open Go.Px

def Pv (R : Mem) (vs : List Value) (ps : List (List Nat)) : Prop := vs.length = ps.length ∧ ∀ (i : Nat) (p : List Nat), ps[i]? = some p → (∀ x ∈ p, x < 256) ∧ ∃ u, vs[i]? = some u ∧ Rd R 1 u p.length (nums .u8 p)
theorem Pv.nil {R : Mem} : Pv R [] [] := ⟨rfl, fun i p h => by simp at h⟩
theorem Pv.cons {R : Mem} {vs : List Value} {ps : List (List Nat)} {u : Value} {p : List Nat} (hp : ∀ x ∈ p, x < 256) (hu : Rd R 1 u p.length (nums .u8 p)) (h : Pv R vs ps) : Pv R (u :: vs) (p :: ps) := by
  refine ⟨by simp [h.1], fun i q hq => ?_⟩
  cases i with
  | zero => cases hq; exact ⟨hp, u, rfl, hu⟩
  | succ i => exact h.2 i q (by simpa using hq)
theorem Pv.mono {R R' : Mem} {vs : List Value} {ps : List (List Nat)} (h : Pv R vs ps) (hR : ∀ x, x ∈ R → x ∈ R') : Pv R' vs ps := by
  refine ⟨h.1, fun i p hp => ?_⟩
  obtain ⟨h3, u, h4, h5⟩ := h.2 i p hp
  exact ⟨h3, u, h4, h5.mono hR⟩
theorem Pv.one {R : Mem} {vs : List Value} {ps : List (List Nat)} (h : Pv R vs ps) : ∀ c ∈ vs, c.oneCell' = true := by
  intro c hc
  obtain ⟨i, hi⟩ := List.getElem?_of_mem hc
  have hlt := (List.getElem?_eq_some_iff.1 hi).1
  obtain ⟨_, u, hu, p, c', rfl, _⟩ := h.2 i _ (List.getElem?_eq_getElem (h.1 ▸ hlt))
  rw [hi] at hu; cases hu; rfl
theorem Pv.lt {R : Mem} {vs : List Value} {ps : List (List Nat)} (h : Pv R vs ps) : ∀ x ∈ ps.flatten, x < 256 := by
  rw [← spre_all]
  exact spre_lt (fun i p hp => (h.2 i p hp).1) _
theorem Parts.of {R : Mem} {v : Value} {n : Nat} {vs : List Value} {ps : List (List Nat)} (h : Rd R 1 v n vs) (hn : n = ps.length) (hp : Pv R vs ps) : Parts R v ps := ⟨vs, hn ▸ h, hp.2⟩
theorem Parts.pv {R : Mem} {v : Value} {ps : List (List Nat)} (h : Parts R v ps) : ∃ vs, Rd R 1 v ps.length vs ∧ Pv R vs ps := by
  obtain ⟨vs, h1, h2⟩ := h
  exact ⟨vs, h1, by have := h1.len; omega, h2⟩
theorem sha_len (p : List Nat) : (sha256 p).length = 32 := by simp [sha256, S8.bytes, S8.list, out4]
theorem sha_lt (p : List Nat) : ∀ x ∈ sha256 p, x < 256 := by
  intro x hx
  obtain ⟨y, _, hy⟩ := List.mem_flatMap.1 hx
  simp only [out4, List.mem_cons, List.not_mem_nil, or_false] at hy
  rcases hy with rfl | rfl | rfl | rfl <;> exact Nat.mod_lt _ (by decide)
def xorAt (ks : List Nat) (x i : Nat) : List Nat := (ks.take i).map (· ^^^ x) ++ ks.drop i
theorem xorAt_len (ks : List Nat) (x i : Nat) : (xorAt ks x i).length = ks.length := by simp [xorAt]; omega
theorem xorAt_get {ks : List Nat} {x i : Nat} (h : i < ks.length) : (xorAt ks x i).getD i 0 = ks.getD i 0 := by
  unfold xorAt
  have hl : ((ks.take i).map (· ^^^ x)).length = i := by simp; omega
  simp only [List.getD]
  rw [List.getElem?_append_right (by omega), hl, Nat.sub_self, List.getElem?_drop, Nat.add_zero]
theorem xorAt_succ {ks : List Nat} {x i : Nat} (h : i < ks.length) : (xorAt ks x i).set i (ks.getD i 0 ^^^ x) = xorAt ks x (i + 1) := by
  unfold xorAt
  have hl : ((ks.take i).map (· ^^^ x)).length = i := by simp; omega
  rw [List.set_append_right _ _ (by omega), hl, Nat.sub_self, List.drop_eq_getElem_cons h, List.set_cons_zero, List.take_add_one, List.getD, List.getElem?_eq_getElem h]
  simp only [Option.getD_some, Option.toList_some, List.map_append, List.map_cons, List.map_nil, List.append_assoc, List.cons_append, List.nil_append]
theorem xorAt_all {ks : List Nat} {x i : Nat} (h : ks.length = i) : xorAt ks x i = ks.map (· ^^^ x) := by
  unfold xorAt; rw [← h]; simp
theorem keyPad_len {key : List Nat} (h : key.length ≤ 64) (x : Nat) : (keyPad key x).length = 64 := by simp [keyPad]; omega
theorem keyPad_lt {key : List Nat} (h : ∀ x ∈ key, x < 256) {y : Nat} (hy : y < 256) : ∀ x ∈ keyPad key y, x < 256 := by
  intro x hx
  obtain ⟨z, hz, rfl⟩ := List.mem_map.1 hx
  refine Nat.xor_lt_two_pow (n := 8) ?_ hy
  rcases List.mem_append.1 hz with hz | hz
  · exact h z hz
  · rw [(List.mem_replicate.1 hz).2]; decide
theorem macKey_len (key : List Nat) : (macKey key).length ≤ 64 := by
  unfold macKey; split
  · rw [sha_len]; decide
  · omega
theorem macKey_lt {key : List Nat} (h : ∀ x ∈ key, x < 256) : ∀ x ∈ macKey key, x < 256 := by
  unfold macKey; split
  · exact sha_lt _
  · exact h

set_option maxRecDepth 100000 in
theorem mac_spec (kv pv : Value) (key : List Nat) (ps : List (List Nat)) (A : Mem) (hkey : Rd A 1 kv key.length (nums .u8 key)) (hk256 : ∀ x ∈ key, x < 256) (hk31 : key.length ≤ 1073741824) (hp : Parts A pv ps) (htot : ps.flatten.length ≤ 1073741824) (hcnt : ps.length ≤ 1073741824) {ef ek : TypeId} {ff fk : Nat × Nat} (h0 : (0, Obj.cells (nums .u32 hFirst.list).toArray ef ff) ∈ A) (h1 : (3, Obj.cells (nums .u32 kTab).toArray ek fk) ∈ A) :
    FnX Tryz.prog 68 [kv, pv] [] A fun r M J => J = [] ∧ Sl 1 r 32 (nums .u8 (hmac key ps.flatten)) M := by
  obtain ⟨vs, hvs, hpv⟩ := hp.pv
  haveI := hkey.cel
  refine FnX.enter (N := 42) Tryz.func68 rfl rfl rfl fun w => ?_
  refine XC.keep (kp 0 rfl (kp 1 rfl kn)) ?_
  refine XC.reg ?_
  refine XL.q (q_assign rfl) rfl ?_
  refine XL.fin (kp 0 rfl (kp 1 rfl kn)) ?_
  refine XC.join (α := Value × Mem) (fun x => [(0, x.1), (1, pv)]) (fun x => x.2) (fun _ => []) (fun x => Rd (x.2 ++ A) 1 x.1 (macKey key).length (nums .u8 (macKey key))) ?_ ?_
  ·
    refine XC.reg ?_
    refine XL.q (q_move rfl) rfl ?_
    refine XL.q (q_lenV hkey rfl (by kernel_rfl)) rfl ?_
    refine XL.q (q_bin rfl rfl rfl) rfl ?_
    refine XL.fin (kp 0 rfl (kp 1 rfl (kp 10 rfl kn))) ?_
    refine XC.cond rfl (fun hc => ?_) (fun hc => ?_)
    ·
      have hgt : 64 < key.length := by simp at hc; omega
      refine XC.reg1 ?_
      refine XL.q (q_move rfl) rfl ?_
      refine XL.lo rfl (l_buildSlice (e := 23) (sz := 1) (z := [.slice none 0 0]) (by kernel_rfl) (eS rfl e0) (bdS 0 1 rfl (by rfl) bd0) rfl fun b12 => ?_)
      refine XL.lo rfl (l_call (Mc := []) (R := [_]) (aS rfl a0) (by kernel_rfl) (.refl _) (sum_spec _ [key] _ (Parts.of (Rd.whole (n := 1) m0 (by rfl)) rfl (.cons hk256 (hkey.mono fun _ h => mA h) .nil)) (by simp; omega) (by simp) (mA h0) (mA h1)) rfl ?_)
      rintro r M1 J1 ⟨rfl, hr⟩
      refine XL.q (q_assign rfl) rfl ?_
      refine XL.nil ?_
      refine jn (r, _) ?_ (kp 0 rfl (kp 1 rfl kn)) .rfl (fun _ h => h)
      dsimp only
      rw [macKey, if_pos hgt, sha_len]
      exact rd_eq (hr.rd fun _ h => by simp [h]) rfl (by simp)
    ·
      have hgt : ¬ 64 < key.length := by simp at hc; omega
      refine XC.skip ?_
      refine jn (kv, []) ?_ (kp 0 rfl (kp 1 rfl kn)) .rfl (fun _ h => h)
      dsimp only
      rw [macKey, if_neg hgt]
      exact hkey
  ·
    rintro ⟨kv1, Mk⟩ hkv
    dsimp only at hkv ⊢
    have hK64 := macKey_len key
    have hKb := macKey_lt hk256
    have hkl := keyPad_len hK64
    have hklt := fun y hy => keyPad_lt (y := y) hKb hy
    unfold hmac
    unfold keyPad at *
    generalize macKey key = K at *
    have hK1 : (K ++ List.replicate (64 - K.length) 0).length = 64 := by simp; omega
    have hK2 : ∀ x ∈ K ++ List.replicate (64 - K.length) 0, x < 256 := fun x hx => by
      rcases List.mem_append.1 hx with h | h
      · exact hKb x h
      · rw [(List.mem_replicate.1 h).2]; decide
    refine XC.reg ?_
    refine XL.lo rfl (l_alloc (cs := nums .u8 (List.replicate 64 0)) (by kernel_rfl) rfl fun b5 => ?_)
    refine XL.lo rfl (l_alloc (cs := nums .u8 (List.replicate 64 0)) (by kernel_rfl) rfl fun b6 => ?_)
    refine XL.fin (kp 0 rfl (kp 1 rfl (kp 5 rfl (kp 6 rfl kn)))) ?_
    refine XC.reg ?_
    refine XL.q (q_all (e := 5) (sz := 1) (m := 64) rfl (by kernel_rfl) (by kernel_rfl)) rfl ?_
    refine XL.q (q_move rfl) rfl ?_
    refine XL.lo rfl (l_copy (e := 5) (by_ := 1) (n := K.length) (m := 64) (ws := List.replicate 64 0) (us := K) (ws' := K ++ List.replicate (64 - K.length) 0) rfl rfl (by kernel_rfl) (hkv.mono fun q hq => by rcases List.mem_append.1 hq with h | h <;> simp [h]) hK64 (by simp) (by rw [List.drop_replicate]) UpC.upd rfl ?_)
    refine XL.fin (kp 0 rfl (kp 1 rfl (kp 5 rfl (kp 6 rfl kn)))) ?_
    refine XC.reg ?_
    refine XL.q (q_all (e := 5) (sz := 1) (m := 64) rfl (by kernel_rfl) (by kernel_rfl)) rfl ?_
    refine XL.q (q_move rfl) rfl ?_
    refine XL.lo rfl (l_copy (e := 5) (by_ := 1) (n := K.length) (m := 64) (ws := List.replicate 64 0) (us := K) (ws' := K ++ List.replicate (64 - K.length) 0) rfl rfl (by kernel_rfl) (hkv.mono fun q hq => by rcases List.mem_append.1 hq with h | h <;> simp [h]) hK64 (by simp) (by rw [List.drop_replicate]) UpC.upd rfl ?_)
    refine XL.fin (kp 1 rfl (kp 5 rfl (kp 6 rfl kn))) ?_
    refine XC.seq ?_
    refine XC.reg ?_
    refine XL.q (q_move rfl) rfl ?_
    refine XL.fin (kp 1 rfl (kp 5 rfl (kp 6 rfl (kp 20 rfl kn)))) ?_
    refine XC.block ?_
    generalize hKK : K ++ List.replicate (64 - K.length) 0 = KK at *
    refine XC.loop (α := Nat) (fun i => [(1, pv), (5, .pointer (some ⟨b5, 0, none⟩)), (6, .pointer (some ⟨b6, 0, none⟩)), (20, .int .i64 (i : Int))]) (fun i => [(b6, blk (nums .u8 (xorAt KK 92 i)) 149), (b5, blk (nums .u8 (xorAt KK 54 i)) 149)]) (fun _ => []) (fun i => i ≤ 64) (fun i => 64 - i) 0 (Nat.zero_le _) (kp 1 rfl (kp 5 rfl (kp 6 rfl (kp 20 rfl kn)))) (Fit.sub (.cons_cons _ (.cons_cons _ (List.nil_sublist _)))) (fun _ h => h) ?_
    intro i hi
    refine XC.reg ?_
    refine XL.q (q_bin rfl rfl rfl) rfl ?_
    refine XL.fin (kp 1 rfl (kp 5 rfl (kp 6 rfl (kp 20 rfl (kp 21 rfl kn))))) ?_
    refine XC.seq ?_
    refine XC.cond rfl (fun hc => ?_) (fun hc => ?_)
    ·
      have hlt : i < 64 := by simp at hc; omega
      have hx8 : KK.getD i 0 < 256 := getD_lt hK2 (by decide)
      refine XC.skip ?_
      refine nx (kp 1 rfl (kp 5 rfl (kp 6 rfl (kp 20 rfl kn)))) ?_
      refine XC.seq ?_
      refine XC.block ?_
      refine XC.reg ?_
      refine XL.q (q_move rfl) rfl ?_
      refine XL.q (q_assign rfl) rfl ?_
      refine XL.fin (kp 1 rfl (kp 5 rfl (kp 6 rfl (kp 7 rfl (kp 20 rfl kn))))) ?_
      refine XC.reg ?_
      refine XL.q (q_move rfl) rfl ?_
      refine XL.q (q_idxA (i := i) (e := 5) (n := 64) (sz := 1) rfl rfl (by kernel_rfl) (by kernel_rfl) rfl (by omega)) rfl ?_
      refine XL.q (q_ldN (ws := xorAt KK 54 i) i rfl (by kernel_rfl) At.mem (by omega) (by rw [xorAt_len]; omega)) rfl ?_
      refine XL.q (q_xor8 (b := 54) rfl rfl (by rw [xorAt_get (by omega)]; exact hx8) (by decide)) rfl ?_
      refine XL.q (q_idxA (i := i) (e := 5) (n := 64) (sz := 1) rfl rfl (by kernel_rfl) (by kernel_rfl) rfl (by omega)) rfl ?_
      refine XL.lo rfl (l_stN (ws := xorAt KK 54 i) i rfl rfl (by kernel_rfl) (by omega) (by rw [xorAt_len]; omega) UpC.upd ?_)
      refine XL.fin (kp 1 rfl (kp 5 rfl (kp 6 rfl (kp 7 rfl (kp 20 rfl kn))))) ?_
      refine XC.reg1 ?_
      refine XL.q (q_move rfl) rfl ?_
      refine XL.q (q_idxA (i := i) (e := 5) (n := 64) (sz := 1) rfl rfl (by kernel_rfl) (by kernel_rfl) rfl (by omega)) rfl ?_
      refine XL.q (q_ldN (ws := xorAt KK 92 i) i rfl (by kernel_rfl) At.mem (by omega) (by rw [xorAt_len]; omega)) rfl ?_
      refine XL.q (q_xor8 (b := 92) rfl rfl (by rw [xorAt_get (by omega)]; exact hx8) (by decide)) rfl ?_
      refine XL.q (q_idxA (i := i) (e := 5) (n := 64) (sz := 1) rfl rfl (by kernel_rfl) (by kernel_rfl) rfl (by omega)) rfl ?_
      refine XL.lo rfl (l_stN (ws := xorAt KK 92 i) i rfl rfl (by kernel_rfl) (by omega) (by rw [xorAt_len]; omega) UpC.upd ?_)
      refine XL.nil ?_
      refine nb ?_
      refine nx (kp 1 rfl (kp 5 rfl (kp 6 rfl (kp 20 rfl kn)))) ?_
      refine XC.reg1 ?_
      refine XL.q (q_num ((i + 1 : Nat) : Int) rfl rfl (add64 (by omega) (by omega) (by omega))) rfl ?_
      refine XL.q (q_move rfl) rfl ?_
      refine XL.nil ?_
      refine rn (i + 1) (by omega) (by omega) (kp 1 rfl (kp 5 rfl (kp 6 rfl (kp 20 rfl kn)))) (Fit.eq ?_) (fun _ h => h)
      rw [xorAt_get (by omega), xorAt_get (by omega), xorAt_succ (by omega), xorAt_succ (by omega)]
    ·
      have hlt : i = 64 := by simp at hc; omega
      subst hlt
      rw [xorAt_all hK1, xorAt_all hK1]
      refine XC.exit ?_
      refine te ?_
      refine re ?_
      refine be rfl ?_
      refine nx (kp 1 rfl (kp 5 rfl (kp 6 rfl kn))) ?_
      refine XC.draw ([]) [] [(0, 0), (1, 0), (3, 0), (2, 2), (4, 2), (5, 2), (6, 2), (7, 2), (8, 0)] (by kernel_rfl) (by kernel_rfl) (by simp) fun hs => ?_
      refine XP.q hs rfl (q_all (e := 5) (sz := 1) (m := 64) rfl (by kernel_rfl) (by kernel_rfl)) rfl ?_
      refine XP.q hs rfl (q_all (e := 5) (sz := 1) (m := 64) rfl (by kernel_rfl) (by kernel_rfl)) rfl ?_
      refine XP.q hs rfl (q_move rfl) rfl ?_
      refine XP.tl rfl rfl rfl (l_buildSlice (e := 23) (sz := 1) (z := [.slice none 0 0]) (by kernel_rfl) (eS rfl e0) (bdS 0 1 rfl (by rfl) bd0) rfl fun b36 => ?_)
      refine XP.tl rfl rfl rfl (l_append (e := 23) (sz := 1) (by_ := 24) (n := 1) (m := ps.length) (B := [(b36, _)]) rfl rfl (by kernel_rfl) rfl (Sl.fresh rfl (by decide)) (hvs.mono fun _ h => mA h) hpv.one (.refl _) (by unfold maxLen; omega) (by omega) rfl fun v38 B38 hsl38 => ?_)
      refine XP.tl rfl rfl rfl (l_call (Mc := []) (R := B38 ++ [_, _]) (aS rfl a0) (by kernel_rfl) (.refl _) (sum_spec v38 (KK.map (· ^^^ 54) :: ps) _ (Parts.of (hsl38.rd fun _ h => by simp [h]) (by rw [List.length_cons]; omega) (.cons (hklt 54 (by decide)) (rd_eq (Rd.whole (n := 64) (cs := nums .u8 (KK.map (· ^^^ 54))) At.mem (by simp [hK1])) (hkl 54).symm rfl) (hpv.mono fun _ h => mA h))) (by rw [List.flatten_cons, List.length_append, List.length_map, hK1]; omega) (by rw [List.length_cons]; omega) (mA h0) (mA h1)) rfl ?_)
      rintro r39 M39 J39 ⟨rfl, hr39⟩
      haveI := hr39.cel
      refine XP.tl rfl rfl rfl (l_buildSlice (e := 23) (sz := 1) (z := [.slice none 0 0, .slice none 0 0]) (by kernel_rfl) (eS rfl (eS rfl e0)) (bdS 0 1 rfl (by rfl) (bdS 1 1 rfl (by rfl) bd0)) rfl fun b40 => ?_)
      refine XP.tl rfl rfl rfl (l_call (Mc := []) (R := _ :: (M39 ++ (B38 ++ [_, _]))) (aS rfl a0) (by kernel_rfl) (.refl _) (sum_spec _ [KK.map (· ^^^ 92), sha256 (KK.map (· ^^^ 54) ++ ps.flatten)] _ (Parts.of (Rd.whole (n := 2) m0 (by rfl)) rfl (.cons (hklt 92 (by decide)) (rd_eq (Rd.whole (n := 64) (cs := nums .u8 (KK.map (· ^^^ 92))) At.mem (by simp [hK1])) (hkl 92).symm rfl) (.cons (sha_lt _) (rd_eq (hr39.rd fun _ h => by simp [h]) (sha_len _).symm (by simp)) .nil))) (by simp [hK1, sha_len]) (by simp) (mA h0) (mA h1)) rfl ?_)
      rintro r41 M41 J41 ⟨rfl, hr41⟩
      refine XP.q hs rfl (q_assign rfl) rfl ?_
      refine XP.fin (kp 4 rfl kn) ?_
      refine XC.ret ?_
      refine ⟨_, _, [], res1 rfl rfl, List.sublist_append_left _ _, by simp, rfl, sl_eq hr41 rfl ?_⟩
      simp

set_option maxRecDepth 100000 in
theorem extract_spec (kv pv : Value) (key p : List Nat) (A : Mem) (hkey : Rd A 1 kv key.length (nums .u8 key)) (hk256 : ∀ x ∈ key, x < 256) (hk31 : key.length ≤ 1073741824) (hp : Rd A 1 pv p.length (nums .u8 p)) (hp256 : ∀ x ∈ p, x < 256) (htot : p.length ≤ 1073741824) {ef ek : TypeId} {ff fk : Nat × Nat} (h0 : (0, Obj.cells (nums .u32 hFirst.list).toArray ef ff) ∈ A) (h1 : (3, Obj.cells (nums .u32 kTab).toArray ek fk) ∈ A) :
    FnX Tryz.prog 43 [kv, pv] [] A fun r M J => J = [] ∧ Sl 1 r 32 (nums .u8 (hmac key p)) M := by
  haveI := hp.cel
  refine FnX.enter (N := 9) Tryz.func43 rfl rfl rfl fun w => ?_
  refine XC.keep (kp 0 rfl (kp 1 rfl kn)) ?_
  refine XC.reg ?_
  refine XL.q (q_assign rfl) rfl ?_
  refine XL.fin (kp 0 rfl (kp 1 rfl kn)) ?_
  refine XC.reg ?_
  refine XL.q (q_move rfl) rfl ?_
  refine XL.q (q_move rfl) rfl ?_
  refine XL.lo rfl (l_buildSlice (e := 23) (sz := 1) (z := [.slice none 0 0]) (by kernel_rfl) (eS rfl e0) (bdS 0 1 rfl (by rfl) bd0) rfl fun b7 => ?_)
  refine XL.lo rfl (l_call (Mc := []) (R := [_]) (aS rfl (aS rfl a0)) (by kernel_rfl) (.refl _) (mac_spec _ _ key [p] _ (hkey.mono fun _ h => mA h) hk256 hk31 (Parts.of (Rd.whole (n := 1) m0 (by rfl)) rfl (.cons hp256 (hp.mono fun _ h => mA h) .nil)) (by simpa using htot) (by simp) (mA h0) (mA h1)) rfl ?_)
  rintro r M1 J1 ⟨rfl, hr⟩
  refine XL.q (q_assign rfl) rfl ?_
  refine XL.fin (kp 4 rfl kn) ?_
  refine XC.ret ?_
  refine ⟨_, _, [], res1 rfl rfl, List.sublist_append_left _ _, by simp, rfl, sl_eq hr rfl ?_⟩
  simp

theorem wperm {M0 M1 B1 D : Mem} (x : Nat × Obj) : (M1 ++ (B1 ++ (x :: (M0 ++ D)))).Perm (M0 ++ (M1 ++ (B1 ++ (x :: D)))) := by
  have h : (M1 ++ (B1 ++ (x :: (M0 ++ D)))) = (M1 ++ B1 ++ [x]) ++ (M0 ++ D) := by simp
  have h2 : (M0 ++ (M1 ++ (B1 ++ (x :: D)))) = M0 ++ ((M1 ++ B1 ++ [x]) ++ D) := by simp
  rw [h, h2, ← List.append_assoc, ← List.append_assoc M0]
  exact List.Perm.append_right _ List.perm_append_comm
/-- 64 bytes of some bytes. -/
def wide (p : List Nat) : List Nat := sha256 (0 :: p) ++ sha256 (1 :: p)

set_option maxRecDepth 100000 in
theorem wide_spec (pv : Value) (ps : List (List Nat)) (A : Mem) (hp : Parts A pv ps) (htot : ps.flatten.length ≤ 1073741824) (hcnt : ps.length ≤ 1073741824) {ef ek : TypeId} {ff fk : Nat × Nat} (h0 : (0, Obj.cells (nums .u32 hFirst.list).toArray ef ff) ∈ A) (h1 : (3, Obj.cells (nums .u32 kTab).toArray ek fk) ∈ A) :
    FnX Tryz.prog 82 [pv] [] A fun r M J => J = [] ∧ Sl 1 r 64 (nums .u8 (wide ps.flatten)) M := by
  obtain ⟨vs, hvs, hpv⟩ := hp.pv
  refine FnX.enter (N := 16) Tryz.func82 rfl rfl rfl fun w => ?_
  refine XC.keep (kp 0 rfl kn) ?_
  refine XC.reg ?_
  refine XL.q (q_assign rfl) rfl ?_
  refine XL.fin (kp 0 rfl kn) ?_
  refine XC.reg ?_
  refine XL.lo rfl (l_buildSlice (e := 5) (sz := 1) (z := [.int .u8 0]) (by kernel_rfl) (eS rfl e0) (bdS 0 1 rfl (by rfl) bd0) rfl fun b4 => ?_)
  refine XL.lo rfl (l_buildSlice (e := 23) (sz := 1) (z := [.slice none 0 0]) (by kernel_rfl) (eS rfl e0) (bdS 0 1 rfl (by rfl) bd0) rfl fun b5 => ?_)
  refine XL.q (q_move rfl) rfl ?_
  refine XL.lo rfl (l_append (e := 23) (sz := 1) (by_ := 24) (n := 1) (m := ps.length) (B := [(b5, _)]) (M0 := _ :: []) rfl rfl (by kernel_rfl) rfl (Sl.fresh rfl (by decide)) (hvs.mono fun _ h => mA h) hpv.one (.refl _) (by unfold maxLen; omega) (by omega) rfl fun v0 B0 hsl0 => ?_)
  refine XL.lo rfl (l_call (Mc := []) (R := B0 ++ (_ :: [])) (aS rfl a0) (by kernel_rfl) (.refl _) (sum_spec v0 ([0] :: ps) _ (Parts.of (hsl0.rd fun _ h => by simp [h]) (by rw [List.length_cons]; omega) (.cons (by simp) (Rd.whole (n := 1) (b := b4) (cs := nums .u8 [0]) At.mem (by rfl)) (hpv.mono fun _ h => mA h))) (by rw [List.flatten_cons, List.length_append, List.length_singleton]; omega) (by rw [List.length_cons]; omega) (mA h0) (mA h1)) rfl ?_)
  rintro r0 M0 J0 ⟨rfl, hr0⟩
  refine XL.q (q_assign rfl) rfl ?_
  refine XL.fin (kp 0 rfl (kp 3 rfl kn)) ?_
  refine XC.reg ?_
  refine XL.q (q_move rfl) rfl ?_
  refine XL.lo rfl (l_buildSlice (e := 5) (sz := 1) (z := [.int .u8 0]) (by kernel_rfl) (eS rfl e0) (bdS 0 1 rfl (by rfl) bd0) rfl fun b10 => ?_)
  refine XL.lo rfl (l_buildSlice (e := 23) (sz := 1) (z := [.slice none 0 0]) (by kernel_rfl) (eS rfl e0) (bdS 0 1 rfl (by rfl) bd0) rfl fun b11 => ?_)
  refine XL.q (q_move rfl) rfl ?_
  refine XL.lo rfl (l_append (e := 23) (sz := 1) (by_ := 24) (n := 1) (m := ps.length) (B := [(b11, _)]) (M0 := _ :: (M0 ++ (B0 ++ [_]))) rfl rfl (by kernel_rfl) rfl (Sl.fresh rfl (by decide)) (hvs.mono fun _ h => mA h) hpv.one (.refl _) (by unfold maxLen; omega) (by omega) rfl fun v1 B1 hsl1 => ?_)
  refine XL.lo rfl (l_call (Mc := []) (R := B1 ++ (_ :: (M0 ++ (B0 ++ [_])))) (aS rfl a0) (by kernel_rfl) (.refl _) (sum_spec v1 ([1] :: ps) _ (Parts.of (hsl1.rd fun _ h => by simp [h]) (by rw [List.length_cons]; omega) (.cons (by simp) (Rd.whole (n := 1) (b := b10) (cs := nums .u8 [1]) At.mem (by rfl)) (hpv.mono fun _ h => mA h))) (by rw [List.flatten_cons, List.length_append, List.length_singleton]; omega) (by rw [List.length_cons]; omega) (mA h0) (mA h1)) rfl ?_)
  rintro r1 M1 J1 ⟨rfl, hr1⟩
  refine XL.lo rfl (l_append (e := 5) (sz := 1) (by_ := 1) (n := 32) (m := 32) (B := M0) (M0 := M1 ++ (B1 ++ (_ :: (B0 ++ [_])))) rfl rfl (by kernel_rfl) rfl hr0 (hr1.rd fun _ h => by simp [h]) nums_one (wperm _) (by unfold maxLen; omega) (by omega) rfl fun v9 B9 hsl9 => ?_)
  refine XL.q (q_assign rfl) rfl ?_
  refine XL.fin (kp 2 rfl kn) ?_
  refine XC.ret ?_
  refine ⟨_, _, [], res1 rfl rfl, List.sublist_append_left _ _, by simp, rfl, sl_eq hsl9 rfl ?_⟩
  rw [← nums_append]; rfl
