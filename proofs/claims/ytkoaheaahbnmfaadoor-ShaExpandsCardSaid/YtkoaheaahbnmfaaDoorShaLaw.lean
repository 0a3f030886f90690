/- The walks of the laws of pawllaw02. -/
import Derived.Test.YtkoaheaahbnmfaaDoorSha8
import Derived.Test.YtkoaheaahbnmfaaDoorGrp
set_option linter.unusedVariables false
set_option linter.unusedSimpArgs false
namespace Go.Proofs.YtkoaheaahbnmfaaDoor
open Go.Px

theorem shaSums_spec (pv : Value) (p : List Nat) (A : Mem) (hp : Rd A 1 pv p.length (nums .u8 p)) (hp256 : ∀ x ∈ p, x < 256) {ef ek : TypeId} {ff fk : Nat × Nat} (h0 : (0, Obj.cells (nums .u32 hFirst.list).toArray ef ff) ∈ A) (h1 : (1, Obj.cells (nums .u32 kTab).toArray ek fk) ∈ A) : FnV Tryd.prog 3 [pv] A (.bool true) := by
  haveI := hp.cel
  refine FnX.enter (N := 19) Tryd.func3 rfl rfl rfl fun w => ?_
  refine XC.keep (kp 0 rfl kn) ?_
  refine XC.reg ?_
  refine XL.q (q_assign rfl) rfl ?_
  refine XL.fin (kp 0 rfl kn) ?_
  refine XC.seq ?_
  refine XC.reg ?_
  refine XL.callV a0 (by kernel_rfl) (awake_spec _ (mA h0) (mA h1)) rfl ?_
  refine XL.q (q_not rfl) rfl ?_
  refine XL.q (q_move rfl) rfl ?_
  refine XL.gy rfl rfl (OpQ.opL (q_move rfl) rfl ?_)
  refine XL.gy rfl rfl (OpQ.opL (q_lenV hp rfl (by kernel_rfl)) rfl ?_)
  refine XL.gy rfl rfl (OpQ.opL (q_bin rfl rfl rfl) rfl ?_)
  refine XL.q (q_pickF rfl rfl) rfl ?_
  refine XL.fin (kp 0 rfl (kp 9 rfl kn)) ?_
  refine XC.cond rfl (fun hc => ?_) (fun hc => ?_)
  ·
    refine XC.reg ?_
    refine XL.callV a0 (by kernel_rfl) (awake_spec _ (mA h0) (mA h1)) rfl ?_
    refine XL.q (q_assign rfl) rfl ?_
    refine XL.fin (kp 2 rfl kn) ?_
    refine XC.ret ?_
    refine tr ?_
    exact ⟨_, [], [], res1 rfl rfl, List.nil_sublist _, by simp, rfl, rfl, rfl⟩
  ·
    have hle : p.length ≤ 300 := by simp at hc; omega
    refine XC.skip ?_
    refine nx (kp 0 rfl kn) ?_
    refine XC.drawF [0, 1, 2, 3, 4, 5, 6, 7, 8] [(0, 0), (4, 0), (1, 2), (2, 2), (3, 1), (5, 2), (6, 1), (7, 0), (8, 0)] (by kernel_rfl) (by kernel_rfl) fun hs => ?_
    refine XF.q hs rfl (q_move rfl) rfl ?_
    refine XF.q hs rfl (q_move rfl) rfl ?_
    refine XF.lo rfl rfl fun _ => (l_buildSlice (e := 22) (sz := 1) (z := [.slice none 0 0]) (by kernel_rfl) (eS rfl e0) (bdS 0 1 rfl (by rfl) bd0) rfl fun b12 => ?_)
    refine XF.call rfl (aS rfl a0) (by kernel_rfl) (sum_spec _ [p] _ (Parts.of (Rd.whole (n := 1) m0 (by rfl)) rfl (.cons hp256 (hp.mono fun _ h => mA h) .nil)) (by simp; omega) (by simp) (mA h0) (mA h1)) rfl ?_
    rintro r1 M1 J1 ⟨rfl, h1r⟩
    rw [show [p].flatten = p from by simp] at h1r
    refine XF.r hs rfl (q_toStr (h1r.rd fun _ h => by simp [h]) rfl (by kernel_rfl)) rfl ?_
    refine XF.call rfl (aS rfl a0) (by kernel_rfl) (rsum_spec _ p _ (hp.mono fun _ h => mA h) hp256 (by omega)) rfl ?_
    rintro r2 M2 J2 ⟨rfl, h2r⟩
    refine XF.r hs rfl (q_toStr (h2r.rd fun _ h => by simp [h]) rfl (by kernel_rfl)) rfl ?_
    refine XF.q hs rfl (q_strEqT rfl rfl rfl) rfl ?_
    refine XF.q hs rfl (q_assign rfl) rfl ?_
    refine XF.fin (kp 2 rfl kn) ?_
    refine XC.ret ?_
    exact ⟨_, [], [], res1 rfl rfl, List.nil_sublist _, by simp, rfl, rfl, rfl⟩

theorem shaMacs_spec (pv kv : Value) (p key : List Nat) (A : Mem) (hp : Rd A 1 pv p.length (nums .u8 p)) (hp256 : ∀ x ∈ p, x < 256) (hkey : Rd A 1 kv key.length (nums .u8 key)) (hk256 : ∀ x ∈ key, x < 256) {ef ek : TypeId} {ff fk : Nat × Nat} (h0 : (0, Obj.cells (nums .u32 hFirst.list).toArray ef ff) ∈ A) (h1 : (1, Obj.cells (nums .u32 kTab).toArray ek fk) ∈ A) : FnV Tryd.prog 4 [kv, pv] A (.bool true) := by
  haveI := hp.cel
  haveI := hkey.cel
  refine FnX.enter (N := 39) Tryd.func4 rfl rfl rfl fun w => ?_
  refine XC.keep (kp 0 rfl (kp 1 rfl kn)) ?_
  refine XC.reg ?_
  refine XL.q (q_assign rfl) rfl ?_
  refine XL.fin (kp 0 rfl (kp 1 rfl kn)) ?_
  refine XC.seq ?_
  refine XC.reg ?_
  refine XL.callV a0 (by kernel_rfl) (awake_spec _ (mA h0) (mA h1)) rfl ?_
  refine XL.q (q_not rfl) rfl ?_
  refine XL.q (q_move rfl) rfl ?_
  refine XL.gy rfl rfl (OpQ.opL (q_move rfl) rfl ?_)
  refine XL.gy rfl rfl (OpQ.opL (q_lenV hp rfl (by kernel_rfl)) rfl ?_)
  refine XL.gy rfl rfl (OpQ.opL (q_bin rfl rfl rfl) rfl ?_)
  refine XL.q (q_pickF rfl rfl) rfl ?_
  refine XL.q (q_move rfl) rfl ?_
  refine XL.split (t := 12) rfl (fun hb => ?_) (fun hb => ?_)
  ·
    refine XL.gn rfl rfl rfl rfl ?_
    refine XL.gn rfl rfl rfl rfl ?_
    refine XL.gn rfl rfl rfl rfl ?_
    refine XL.q (q_pickT rfl rfl) rfl ?_
    refine XL.fin (kp 0 rfl (kp 1 rfl (kp 16 rfl kn))) ?_
    refine XC.condT rfl ?_
    refine XC.reg ?_
    refine XL.callV a0 (by kernel_rfl) (awake_spec _ (mA h0) (mA h1)) rfl ?_
    refine XL.q (q_assign rfl) rfl ?_
    refine XL.fin (kp 4 rfl kn) ?_
    refine XC.ret ?_
    refine tr ?_
    exact ⟨_, [], [], res1 rfl rfl, List.nil_sublist _, by simp, rfl, rfl, rfl⟩
  ·
    refine XL.gy rfl rfl (OpQ.opL (q_move rfl) rfl ?_)
    refine XL.gy rfl rfl (OpQ.opL (q_lenV hkey rfl (by kernel_rfl)) rfl ?_)
    refine XL.gy rfl rfl (OpQ.opL (q_bin rfl rfl rfl) rfl ?_)
    refine XL.q (q_pickF rfl rfl) rfl ?_
    refine XL.fin (kp 0 rfl (kp 1 rfl (kp 16 rfl kn))) ?_
    refine XC.cond rfl (fun hc => ?_) (fun hc => ?_)
    ·
      refine XC.reg ?_
      refine XL.callV a0 (by kernel_rfl) (awake_spec _ (mA h0) (mA h1)) rfl ?_
      refine XL.q (q_assign rfl) rfl ?_
      refine XL.fin (kp 4 rfl kn) ?_
      refine XC.ret ?_
      refine tr ?_
      exact ⟨_, [], [], res1 rfl rfl, List.nil_sublist _, by simp, rfl, rfl, rfl⟩
    ·
      have hle : p.length ≤ 200 ∧ key.length ≤ 200 := by simp at hb hc; omega
      refine XC.skip ?_
      refine nx (kp 0 rfl (kp 1 rfl kn)) ?_
      refine XC.drawF [0, 1, 2, 3, 4, 5, 6, 7, 8, 9, 10, 11, 12, 13, 14, 15, 16, 17, 18, 19, 20, 21] [(0, 0), (1, 0), (5, 0), (6, 0), (2, 2), (3, 2), (4, 1), (7, 2), (8, 1), (9, 0), (10, 0), (11, 0), (12, 0), (15, 0), (16, 0), (13, 2), (14, 1), (17, 2), (18, 1), (19, 0), (20, 0), (21, 0)] (by kernel_rfl) (by kernel_rfl) fun hs => ?_
      refine XF.q hs rfl (q_move rfl) rfl ?_
      refine XF.q hs rfl (q_move rfl) rfl ?_
      refine XF.q hs rfl (q_move rfl) rfl ?_
      refine XF.q hs rfl (q_move rfl) rfl ?_
      refine XF.lo rfl rfl fun _ => (l_buildSlice (e := 22) (sz := 1) (z := [.slice none 0 0]) (by kernel_rfl) (eS rfl e0) (bdS 0 1 rfl (by rfl) bd0) rfl fun b20 => ?_)
      refine XF.call rfl (aS rfl (aS rfl a0)) (by kernel_rfl) (mac_spec _ _ key [p] _ (hkey.mono fun _ h => mA h) hk256 (by omega) (Parts.of (Rd.whole (n := 1) m0 (by rfl)) rfl (.cons hp256 (hp.mono fun _ h => mA h) .nil)) (by simp; omega) (by simp) (mA h0) (mA h1)) rfl ?_
      rintro r1 M1 J1 ⟨rfl, h1r⟩
      rw [show [p].flatten = p from by simp] at h1r
      refine XF.r hs rfl (q_toStr (h1r.rd fun _ h => by simp [h]) rfl (by kernel_rfl)) rfl ?_
      refine XF.call rfl (aS rfl (aS rfl a0)) (by kernel_rfl) (rmac_spec _ _ key p _ (hkey.mono fun _ h => mA h) hk256 (by omega) (hp.mono fun _ h => mA h) hp256 (by omega)) rfl ?_
      rintro r2 M2 J2 ⟨rfl, h2r⟩
      refine XF.r hs rfl (q_toStr (h2r.rd fun _ h => by simp [h]) rfl (by kernel_rfl)) rfl ?_
      refine XF.q hs rfl (q_strEqT rfl rfl rfl) rfl ?_
      refine XF.q hs rfl (q_move rfl) rfl ?_
      refine XF.qg hs rfl rfl rfl rfl (q_move rfl) rfl ?_
      refine XF.qg hs rfl rfl rfl rfl (q_move rfl) rfl ?_
      refine XF.qg hs rfl rfl rfl rfl (q_move rfl) rfl ?_
      refine XF.qg hs rfl rfl rfl rfl (q_move rfl) rfl ?_
      refine XF.callg rfl rfl rfl rfl (aS rfl (aS rfl a0)) (by kernel_rfl) (extract_spec _ _ key p _ (hkey.mono fun _ h => mA h) hk256 (by omega) (hp.mono fun _ h => mA h) hp256 (by omega) (mA h0) (mA h1)) rfl ?_
      rintro r3 M3 J3 ⟨rfl, h3r⟩
      refine XF.rg hs rfl rfl rfl rfl (q_toStr (h3r.rd fun _ h => by simp [h]) rfl (by kernel_rfl)) rfl ?_
      refine XF.callg rfl rfl rfl rfl (aS rfl (aS rfl a0)) (by kernel_rfl) (rmac_spec _ _ key p _ (hkey.mono fun _ h => mA h) hk256 (by omega) (hp.mono fun _ h => mA h) hp256 (by omega)) rfl ?_
      rintro r4 M4 J4 ⟨rfl, h4r⟩
      refine XF.rg hs rfl rfl rfl rfl (q_toStr (h4r.rd fun _ h => by simp [h]) rfl (by kernel_rfl)) rfl ?_
      refine XF.qg hs rfl rfl rfl rfl (q_strEqT rfl rfl rfl) rfl ?_
      refine XF.q hs rfl (q_pickT rfl rfl) rfl ?_
      refine XF.q hs rfl (q_assign rfl) rfl ?_
      refine XF.fin (kp 4 rfl kn) ?_
      refine XC.ret ?_
      exact ⟨_, [], [], res1 rfl rfl, List.nil_sublist _, by simp, rfl, rfl, rfl⟩

theorem txt_size (p : List Nat) : (txt p).size = p.length := by simp [txt, ByteArray.size]
theorem growsParts {ps : List (List Nat)} : Grows fun v R => Parts R v ps := fun _ _ _ h hp => hp.mono h
theorem growsLit {n : Nat} {cs : List Value} {e : TypeId} : Grows fun v R => ∃ b, v = .slice (some ⟨b, 0, none⟩) n n ∧ (b, Obj.cells cs.toArray e (0, 0)) ∈ R := fun _ _ _ h ⟨b, e, hb⟩ => ⟨b, e, h _ hb⟩

theorem shaWides_spec (pv : Value) (p : List Nat) (A : Mem) (hp : Rd A 1 pv p.length (nums .u8 p)) (hp256 : ∀ x ∈ p, x < 256) {ef ek : TypeId} {ff fk : Nat × Nat} (h0 : (0, Obj.cells (nums .u32 hFirst.list).toArray ef ff) ∈ A) (h1 : (1, Obj.cells (nums .u32 kTab).toArray ek fk) ∈ A) : FnV Tryd.prog 6 [pv] A (.bool true) := by
  haveI := hp.cel
  refine FnX.enter (N := 27) Tryd.func6 rfl rfl rfl fun w => ?_
  refine XC.keep (kp 0 rfl kn) ?_
  refine XC.reg ?_
  refine XL.q (q_assign rfl) rfl ?_
  refine XL.fin (kp 0 rfl kn) ?_
  refine XC.seq ?_
  refine XC.reg ?_
  refine XL.callV a0 (by kernel_rfl) (awake_spec _ (mA h0) (mA h1)) rfl ?_
  refine XL.q (q_not rfl) rfl ?_
  refine XL.q (q_move rfl) rfl ?_
  refine XL.gy rfl rfl (OpQ.opL (q_move rfl) rfl ?_)
  refine XL.gy rfl rfl (OpQ.opL (q_lenV hp rfl (by kernel_rfl)) rfl ?_)
  refine XL.gy rfl rfl (OpQ.opL (q_bin rfl rfl rfl) rfl ?_)
  refine XL.q (q_pickF rfl rfl) rfl ?_
  refine XL.fin (kp 0 rfl (kp 9 rfl kn)) ?_
  refine XC.cond rfl (fun hc => ?_) (fun hc => ?_)
  ·
    refine XC.reg ?_
    refine XL.callV a0 (by kernel_rfl) (awake_spec _ (mA h0) (mA h1)) rfl ?_
    refine XL.q (q_assign rfl) rfl ?_
    refine XL.fin (kp 2 rfl kn) ?_
    refine XC.ret ?_
    refine tr ?_
    exact ⟨_, [], [], res1 rfl rfl, List.nil_sublist _, by simp, rfl, rfl, rfl⟩
  ·
    have hle : p.length ≤ 150 := by simp at hc; omega
    refine XC.skip ?_
    refine nx (kp 0 rfl kn) ?_
    refine XC.drawF [0, 1, 2, 3, 4, 5, 6, 7, 8, 9, 10, 11, 12, 13, 14, 15, 16] [(0, 0), (5, 0), (10, 0), (1, 3), (2, 3), (3, 3), (4, 3), (6, 3), (7, 3), (8, 3), (9, 3), (11, 3), (12, 3), (13, 3), (14, 4), (15, 0), (16, 0)] (by kernel_rfl) (by kernel_rfl) fun hs => ?_
    refine XF.q hs rfl (q_move rfl) rfl ?_
    refine XF.q hs rfl (q_move rfl) rfl ?_
    refine XF.q hs rfl (q_move rfl) rfl ?_
    refine XF.group [⟨1, 12, fun v R => Parts R v [p]⟩, ⟨2, 13, fun v R => Rd R 1 v 64 (nums .u8 (wide p))⟩, ⟨3, 14, fun v _ => v = .string (txt (wide p))⟩, ⟨4, 15, fun v R => ∃ b, v = .slice (some ⟨b, 0, none⟩) 1 1 ∧ (b, Obj.cells (nums .u8 [0]).toArray 5 (0, 0)) ∈ R⟩, ⟨6, 17, fun v R => Rd R 1 v (p.length + 1) (nums .u8 (0 :: p))⟩, ⟨7, 18, fun v R => Rd R 1 v 32 (nums .u8 (sha256 (0 :: p)))⟩, ⟨8, 19, fun v _ => v = .string (txt (sha256 (0 :: p)))⟩, ⟨9, 20, fun v R => ∃ b, v = .slice (some ⟨b, 0, none⟩) 1 1 ∧ (b, Obj.cells (nums .u8 [1]).toArray 5 (0, 0)) ∈ R⟩, ⟨11, 22, fun v R => Rd R 1 v (p.length + 1) (nums .u8 (1 :: p))⟩, ⟨12, 23, fun v R => Rd R 1 v 32 (nums .u8 (sha256 (1 :: p)))⟩, ⟨13, 24, fun v _ => v = .string (txt (sha256 (1 :: p)))⟩, ⟨14, 25, fun v _ => v = .string (txt (sha256 (0 :: p) ++ sha256 (1 :: p)))⟩]
      (allS growsParts (allS growsRd (allS growsEq (allS growsLit (allS growsRd (allS growsRd (allS growsEq (allS growsLit (allS growsRd (allS growsRd (allS growsEq (allS growsEq (all0))))))))))))) (show List.Nodup [12, 13, 14, 15, 17, 18, 19, 20, 22, 23, 24, 25] by decide) (show List.Nodup [1, 2, 3, 4, 6, 7, 8, 9, 11, 12, 13, 14] by decide) (allS (blt_lt rfl) (allS (blt_lt rfl) (allS (blt_lt rfl) (allS (blt_lt rfl) (allS (blt_lt rfl) (allS (blt_lt rfl) (allS (blt_lt rfl) (allS (blt_lt rfl) (allS (blt_lt rfl) (allS (blt_lt rfl) (allS (blt_lt rfl) (allS (blt_lt rfl) (all0)))))))))))))
      (allS ⟨_, rfl, fun vs R w hb ha => ⟨.inl rfl, ?_⟩⟩ (allS ⟨_, rfl, fun vs R w hb ha => ⟨.inl rfl, ?_⟩⟩ (allS ⟨_, rfl, fun vs R w hb ha => ⟨.inl rfl, ?_⟩⟩ (allS ⟨_, rfl, fun vs R w hb ha => ⟨.inl rfl, ?_⟩⟩ (allS ⟨_, rfl, fun vs R w hb ha => ⟨.inl rfl, ?_⟩⟩ (allS ⟨_, rfl, fun vs R w hb ha => ⟨.inl rfl, ?_⟩⟩ (allS ⟨_, rfl, fun vs R w hb ha => ⟨.inl rfl, ?_⟩⟩ (allS ⟨_, rfl, fun vs R w hb ha => ⟨.inl rfl, ?_⟩⟩ (allS ⟨_, rfl, fun vs R w hb ha => ⟨.inl rfl, ?_⟩⟩ (allS ⟨_, rfl, fun vs R w hb ha => ⟨.inl rfl, ?_⟩⟩ (allS ⟨_, rfl, fun vs R w hb ha => ⟨.inl rfl, ?_⟩⟩ (allS ⟨_, rfl, fun vs R w hb ha => ⟨.inl rfl, ?_⟩⟩ (all0))))))))))))) ?_
    ·
      exact l_buildSlice (e := 22) (sz := 1) (z := [.slice none 0 0]) (by kernel_rfl) (eS rfl e0) (bdS 0 1 rfl (by rfl) bd0) rfl fun b => ⟨_, rfl, Parts.of (Rd.whole (n := 1) (List.mem_append_left _ List.mem_cons_self) (by rfl)) rfl (.cons hp256 (hp.mono fun _ h => List.mem_append_right _ (hb _ (mA h))) .nil)⟩
    ·
      have g1 := ha _ (List.mem_of_getElem? (i := 0) rfl) (by kernel_rfl)
      replace g1 : (fun v R => Parts R v [p]) (vs 1) R := g1
      dsimp only at g1
      refine l_call0 (aS rfl (a0)) (by kernel_rfl) ((show wide [p].flatten = wide p by simp) ▸ wide_spec _ [p] _ g1 (by simp; omega) (by simp) (hb _ (mA h0)) (hb _ (mA h1))) rfl ?_
      rintro r M1 J1 ⟨rfl, hr⟩
      exact ⟨_, rfl, by simpa using hr.rd fun _ h => List.mem_append_left _ h⟩
    ·
      have g1 := ha _ (List.mem_of_getElem? (i := 0) rfl) (by kernel_rfl)
      replace g1 : (fun v R => Parts R v [p]) (vs 1) R := g1
      dsimp only at g1
      have g2 := ha _ (List.mem_of_getElem? (i := 1) rfl) (by kernel_rfl)
      replace g2 : (fun v R => Rd R 1 v 64 (nums .u8 (wide p))) (vs 2) R := g2
      dsimp only at g2
      exact OpQ.opL (q_toStr g2 rfl (by kernel_rfl)) rfl ⟨_, rfl, rfl⟩
    ·
      exact l_buildSlice (e := 5) (sz := 1) (z := [.int .u8 0]) (by kernel_rfl) (eS rfl e0) (bdS 0 1 rfl (by rfl) bd0) rfl fun b => ⟨_, rfl, b, rfl, List.mem_append_left _ List.mem_cons_self⟩
    ·
      have g1 := ha _ (List.mem_of_getElem? (i := 0) rfl) (by kernel_rfl)
      replace g1 : (fun v R => Parts R v [p]) (vs 1) R := g1
      dsimp only at g1
      have g2 := ha _ (List.mem_of_getElem? (i := 1) rfl) (by kernel_rfl)
      replace g2 : (fun v R => Rd R 1 v 64 (nums .u8 (wide p))) (vs 2) R := g2
      dsimp only at g2
      have g4 := ha _ (List.mem_of_getElem? (i := 3) rfl) (by kernel_rfl)
      replace g4 : (fun v R => ∃ b, v = .slice (some ⟨b, 0, none⟩) 1 1 ∧ (b, Obj.cells (nums .u8 [0]).toArray 5 (0, 0)) ∈ R) (vs 4) R := g4
      dsimp only at g4
      obtain ⟨b, e, hbb⟩ := g4
      refine l_appendF (e := 5) (sz := 1) (by_ := 1) (n := 1) (m := p.length) (xs := nums .u8 [0]) (by rw [← e]; rfl) rfl (by kernel_rfl) rfl (Rd.whole hbb (by rfl)) (hp.mono fun _ h => hb _ (mA h)) (by unfold maxLen; omega) (by omega) rfl fun v' B' h1' _ => ?_
      exact ⟨_, rfl, rd_eq (by simpa using h1') (by omega) (by rw [← nums_append]; rfl)⟩
    ·
      have g1 := ha _ (List.mem_of_getElem? (i := 0) rfl) (by kernel_rfl)
      replace g1 : (fun v R => Parts R v [p]) (vs 1) R := g1
      dsimp only at g1
      have g2 := ha _ (List.mem_of_getElem? (i := 1) rfl) (by kernel_rfl)
      replace g2 : (fun v R => Rd R 1 v 64 (nums .u8 (wide p))) (vs 2) R := g2
      dsimp only at g2
      have g4 := ha _ (List.mem_of_getElem? (i := 3) rfl) (by kernel_rfl)
      replace g4 : (fun v R => ∃ b, v = .slice (some ⟨b, 0, none⟩) 1 1 ∧ (b, Obj.cells (nums .u8 [0]).toArray 5 (0, 0)) ∈ R) (vs 4) R := g4
      dsimp only at g4
      have g6 := ha _ (List.mem_of_getElem? (i := 4) rfl) (by kernel_rfl)
      replace g6 : (fun v R => Rd R 1 v (p.length + 1) (nums .u8 (0 :: p))) (vs 6) R := g6
      dsimp only at g6
      refine l_call0 (aS rfl (a0)) (by kernel_rfl) (rsum_spec _ (0 :: p) _ (rd_eq g6 (by simp) rfl) (fun x hx => (List.mem_cons.1 hx).elim (fun h => h ▸ by decide) (hp256 x)) (by simp; omega)) rfl ?_
      rintro r M1 J1 ⟨rfl, hr⟩
      exact ⟨_, rfl, by simpa using hr.rd fun _ h => List.mem_append_left _ h⟩
    ·
      have g1 := ha _ (List.mem_of_getElem? (i := 0) rfl) (by kernel_rfl)
      replace g1 : (fun v R => Parts R v [p]) (vs 1) R := g1
      dsimp only at g1
      have g2 := ha _ (List.mem_of_getElem? (i := 1) rfl) (by kernel_rfl)
      replace g2 : (fun v R => Rd R 1 v 64 (nums .u8 (wide p))) (vs 2) R := g2
      dsimp only at g2
      have g4 := ha _ (List.mem_of_getElem? (i := 3) rfl) (by kernel_rfl)
      replace g4 : (fun v R => ∃ b, v = .slice (some ⟨b, 0, none⟩) 1 1 ∧ (b, Obj.cells (nums .u8 [0]).toArray 5 (0, 0)) ∈ R) (vs 4) R := g4
      dsimp only at g4
      have g6 := ha _ (List.mem_of_getElem? (i := 4) rfl) (by kernel_rfl)
      replace g6 : (fun v R => Rd R 1 v (p.length + 1) (nums .u8 (0 :: p))) (vs 6) R := g6
      dsimp only at g6
      have g7 := ha _ (List.mem_of_getElem? (i := 5) rfl) (by kernel_rfl)
      replace g7 : (fun v R => Rd R 1 v 32 (nums .u8 (sha256 (0 :: p)))) (vs 7) R := g7
      dsimp only at g7
      exact OpQ.opL (q_toStr g7 rfl (by kernel_rfl)) rfl ⟨_, rfl, rfl⟩
    ·
      exact l_buildSlice (e := 5) (sz := 1) (z := [.int .u8 0]) (by kernel_rfl) (eS rfl e0) (bdS 0 1 rfl (by rfl) bd0) rfl fun b => ⟨_, rfl, b, rfl, List.mem_append_left _ List.mem_cons_self⟩
    ·
      have g1 := ha _ (List.mem_of_getElem? (i := 0) rfl) (by kernel_rfl)
      replace g1 : (fun v R => Parts R v [p]) (vs 1) R := g1
      dsimp only at g1
      have g2 := ha _ (List.mem_of_getElem? (i := 1) rfl) (by kernel_rfl)
      replace g2 : (fun v R => Rd R 1 v 64 (nums .u8 (wide p))) (vs 2) R := g2
      dsimp only at g2
      have g4 := ha _ (List.mem_of_getElem? (i := 3) rfl) (by kernel_rfl)
      replace g4 : (fun v R => ∃ b, v = .slice (some ⟨b, 0, none⟩) 1 1 ∧ (b, Obj.cells (nums .u8 [0]).toArray 5 (0, 0)) ∈ R) (vs 4) R := g4
      dsimp only at g4
      have g6 := ha _ (List.mem_of_getElem? (i := 4) rfl) (by kernel_rfl)
      replace g6 : (fun v R => Rd R 1 v (p.length + 1) (nums .u8 (0 :: p))) (vs 6) R := g6
      dsimp only at g6
      have g7 := ha _ (List.mem_of_getElem? (i := 5) rfl) (by kernel_rfl)
      replace g7 : (fun v R => Rd R 1 v 32 (nums .u8 (sha256 (0 :: p)))) (vs 7) R := g7
      dsimp only at g7
      have g9 := ha _ (List.mem_of_getElem? (i := 7) rfl) (by kernel_rfl)
      replace g9 : (fun v R => ∃ b, v = .slice (some ⟨b, 0, none⟩) 1 1 ∧ (b, Obj.cells (nums .u8 [1]).toArray 5 (0, 0)) ∈ R) (vs 9) R := g9
      dsimp only at g9
      obtain ⟨b, e, hbb⟩ := g9
      refine l_appendF (e := 5) (sz := 1) (by_ := 1) (n := 1) (m := p.length) (xs := nums .u8 [1]) (by rw [← e]; rfl) rfl (by kernel_rfl) rfl (Rd.whole hbb (by rfl)) (hp.mono fun _ h => hb _ (mA h)) (by unfold maxLen; omega) (by omega) rfl fun v' B' h1' _ => ?_
      exact ⟨_, rfl, rd_eq (by simpa using h1') (by omega) (by rw [← nums_append]; rfl)⟩
    ·
      have g1 := ha _ (List.mem_of_getElem? (i := 0) rfl) (by kernel_rfl)
      replace g1 : (fun v R => Parts R v [p]) (vs 1) R := g1
      dsimp only at g1
      have g2 := ha _ (List.mem_of_getElem? (i := 1) rfl) (by kernel_rfl)
      replace g2 : (fun v R => Rd R 1 v 64 (nums .u8 (wide p))) (vs 2) R := g2
      dsimp only at g2
      have g4 := ha _ (List.mem_of_getElem? (i := 3) rfl) (by kernel_rfl)
      replace g4 : (fun v R => ∃ b, v = .slice (some ⟨b, 0, none⟩) 1 1 ∧ (b, Obj.cells (nums .u8 [0]).toArray 5 (0, 0)) ∈ R) (vs 4) R := g4
      dsimp only at g4
      have g6 := ha _ (List.mem_of_getElem? (i := 4) rfl) (by kernel_rfl)
      replace g6 : (fun v R => Rd R 1 v (p.length + 1) (nums .u8 (0 :: p))) (vs 6) R := g6
      dsimp only at g6
      have g7 := ha _ (List.mem_of_getElem? (i := 5) rfl) (by kernel_rfl)
      replace g7 : (fun v R => Rd R 1 v 32 (nums .u8 (sha256 (0 :: p)))) (vs 7) R := g7
      dsimp only at g7
      have g9 := ha _ (List.mem_of_getElem? (i := 7) rfl) (by kernel_rfl)
      replace g9 : (fun v R => ∃ b, v = .slice (some ⟨b, 0, none⟩) 1 1 ∧ (b, Obj.cells (nums .u8 [1]).toArray 5 (0, 0)) ∈ R) (vs 9) R := g9
      dsimp only at g9
      have g11 := ha _ (List.mem_of_getElem? (i := 8) rfl) (by kernel_rfl)
      replace g11 : (fun v R => Rd R 1 v (p.length + 1) (nums .u8 (1 :: p))) (vs 11) R := g11
      dsimp only at g11
      refine l_call0 (aS rfl (a0)) (by kernel_rfl) (rsum_spec _ (1 :: p) _ (rd_eq g11 (by simp) rfl) (fun x hx => (List.mem_cons.1 hx).elim (fun h => h ▸ by decide) (hp256 x)) (by simp; omega)) rfl ?_
      rintro r M1 J1 ⟨rfl, hr⟩
      exact ⟨_, rfl, by simpa using hr.rd fun _ h => List.mem_append_left _ h⟩
    ·
      have g1 := ha _ (List.mem_of_getElem? (i := 0) rfl) (by kernel_rfl)
      replace g1 : (fun v R => Parts R v [p]) (vs 1) R := g1
      dsimp only at g1
      have g2 := ha _ (List.mem_of_getElem? (i := 1) rfl) (by kernel_rfl)
      replace g2 : (fun v R => Rd R 1 v 64 (nums .u8 (wide p))) (vs 2) R := g2
      dsimp only at g2
      have g4 := ha _ (List.mem_of_getElem? (i := 3) rfl) (by kernel_rfl)
      replace g4 : (fun v R => ∃ b, v = .slice (some ⟨b, 0, none⟩) 1 1 ∧ (b, Obj.cells (nums .u8 [0]).toArray 5 (0, 0)) ∈ R) (vs 4) R := g4
      dsimp only at g4
      have g6 := ha _ (List.mem_of_getElem? (i := 4) rfl) (by kernel_rfl)
      replace g6 : (fun v R => Rd R 1 v (p.length + 1) (nums .u8 (0 :: p))) (vs 6) R := g6
      dsimp only at g6
      have g7 := ha _ (List.mem_of_getElem? (i := 5) rfl) (by kernel_rfl)
      replace g7 : (fun v R => Rd R 1 v 32 (nums .u8 (sha256 (0 :: p)))) (vs 7) R := g7
      dsimp only at g7
      have g9 := ha _ (List.mem_of_getElem? (i := 7) rfl) (by kernel_rfl)
      replace g9 : (fun v R => ∃ b, v = .slice (some ⟨b, 0, none⟩) 1 1 ∧ (b, Obj.cells (nums .u8 [1]).toArray 5 (0, 0)) ∈ R) (vs 9) R := g9
      dsimp only at g9
      have g11 := ha _ (List.mem_of_getElem? (i := 8) rfl) (by kernel_rfl)
      replace g11 : (fun v R => Rd R 1 v (p.length + 1) (nums .u8 (1 :: p))) (vs 11) R := g11
      dsimp only at g11
      have g12 := ha _ (List.mem_of_getElem? (i := 9) rfl) (by kernel_rfl)
      replace g12 : (fun v R => Rd R 1 v 32 (nums .u8 (sha256 (1 :: p)))) (vs 12) R := g12
      dsimp only at g12
      exact OpQ.opL (q_toStr g12 rfl (by kernel_rfl)) rfl ⟨_, rfl, rfl⟩
    ·
      have g1 := ha _ (List.mem_of_getElem? (i := 0) rfl) (by kernel_rfl)
      replace g1 : (fun v R => Parts R v [p]) (vs 1) R := g1
      dsimp only at g1
      have g2 := ha _ (List.mem_of_getElem? (i := 1) rfl) (by kernel_rfl)
      replace g2 : (fun v R => Rd R 1 v 64 (nums .u8 (wide p))) (vs 2) R := g2
      dsimp only at g2
      have g4 := ha _ (List.mem_of_getElem? (i := 3) rfl) (by kernel_rfl)
      replace g4 : (fun v R => ∃ b, v = .slice (some ⟨b, 0, none⟩) 1 1 ∧ (b, Obj.cells (nums .u8 [0]).toArray 5 (0, 0)) ∈ R) (vs 4) R := g4
      dsimp only at g4
      have g6 := ha _ (List.mem_of_getElem? (i := 4) rfl) (by kernel_rfl)
      replace g6 : (fun v R => Rd R 1 v (p.length + 1) (nums .u8 (0 :: p))) (vs 6) R := g6
      dsimp only at g6
      have g7 := ha _ (List.mem_of_getElem? (i := 5) rfl) (by kernel_rfl)
      replace g7 : (fun v R => Rd R 1 v 32 (nums .u8 (sha256 (0 :: p)))) (vs 7) R := g7
      dsimp only at g7
      have g8 := ha _ (List.mem_of_getElem? (i := 6) rfl) (by kernel_rfl)
      replace g8 : (fun v _ => v = .string (txt (sha256 (0 :: p)))) (vs 8) R := g8
      dsimp only at g8
      have g9 := ha _ (List.mem_of_getElem? (i := 7) rfl) (by kernel_rfl)
      replace g9 : (fun v R => ∃ b, v = .slice (some ⟨b, 0, none⟩) 1 1 ∧ (b, Obj.cells (nums .u8 [1]).toArray 5 (0, 0)) ∈ R) (vs 9) R := g9
      dsimp only at g9
      have g11 := ha _ (List.mem_of_getElem? (i := 8) rfl) (by kernel_rfl)
      replace g11 : (fun v R => Rd R 1 v (p.length + 1) (nums .u8 (1 :: p))) (vs 11) R := g11
      dsimp only at g11
      have g12 := ha _ (List.mem_of_getElem? (i := 9) rfl) (by kernel_rfl)
      replace g12 : (fun v R => Rd R 1 v 32 (nums .u8 (sha256 (1 :: p)))) (vs 12) R := g12
      dsimp only at g12
      have g13 := ha _ (List.mem_of_getElem? (i := 10) rfl) (by kernel_rfl)
      replace g13 : (fun v _ => v = .string (txt (sha256 (1 :: p)))) (vs 13) R := g13
      dsimp only at g13
      refine OpQ.opL (q_strAdd (by rw [← g8]; rfl) (by rw [← g13]; rfl) (by rw [txt_size, txt_size, sha_len, sha_len]; decide)) rfl ⟨_, rfl, ?_⟩
      rw [txt_append]
    intro vs Jn0 hφ
    have g1 := ofH hφ
    dsimp only at g1
    replace hφ := ofT hφ
    have g2 := ofH hφ
    dsimp only at g2
    replace hφ := ofT hφ
    have g3 := ofH hφ
    dsimp only at g3
    replace hφ := ofT hφ
    have g4 := ofH hφ
    dsimp only at g4
    replace hφ := ofT hφ
    have g6 := ofH hφ
    dsimp only at g6
    replace hφ := ofT hφ
    have g7 := ofH hφ
    dsimp only at g7
    replace hφ := ofT hφ
    have g8 := ofH hφ
    dsimp only at g8
    replace hφ := ofT hφ
    have g9 := ofH hφ
    dsimp only at g9
    replace hφ := ofT hφ
    have g11 := ofH hφ
    dsimp only at g11
    replace hφ := ofT hφ
    have g12 := ofH hφ
    dsimp only at g12
    replace hφ := ofT hφ
    have g13 := ofH hφ
    dsimp only at g13
    replace hφ := ofT hφ
    have g14 := ofH hφ
    dsimp only at g14
    clear hφ
    dsimp only [gEnv, List.map, List.cons_append, List.nil_append]
    generalize vs 1 = u12 at *
    generalize vs 2 = u13 at *
    generalize vs 3 = u14 at *
    generalize vs 4 = u15 at *
    generalize vs 6 = u17 at *
    generalize vs 7 = u18 at *
    generalize vs 8 = u19 at *
    generalize vs 9 = u20 at *
    generalize vs 11 = u22 at *
    generalize vs 12 = u23 at *
    generalize vs 13 = u24 at *
    generalize vs 14 = u25 at *
    subst g3; subst g14
    refine XF.q hs rfl (q_strEqT rfl rfl rfl) rfl ?_
    refine XF.q hs rfl (q_assign rfl) rfl ?_
    refine XF.fin (kp 2 rfl kn) ?_
    refine XC.ret ?_
    exact ⟨_, [], [], res1 rfl rfl, List.nil_sublist _, by simp, rfl, rfl, rfl⟩

theorem Pv.snoc {R : Mem} {vs : List Value} {ps : List (List Nat)} {v : Value} {p : List Nat} (h : Pv R vs ps) (hp : ∀ x ∈ p, x < 256) (hv : Rd R 1 v p.length (nums .u8 p)) : Pv R (vs ++ [v]) (ps ++ [p]) := by
  refine ⟨by simp [h.1], fun i q hq => ?_⟩
  rcases Nat.lt_or_ge i ps.length with hi | hi
  · rw [List.getElem?_append_left hi] at hq
    obtain ⟨h1, u, h2, h3⟩ := h.2 i q hq
    exact ⟨h1, u, by rw [List.getElem?_append_left (by have := h.1; omega)]; exact h2, h3⟩
  · rw [List.getElem?_append_right hi] at hq
    have h0 : i - ps.length = 0 := by
      rcases Nat.eq_zero_or_pos (i - ps.length) with h0 | h0
      · exact h0
      · rw [List.getElem?_eq_none (by simp; omega)] at hq; cases hq
    rw [h0] at hq
    cases hq
    refine ⟨hp, v, ?_, hv⟩
    rw [List.getElem?_append_right (by have := h.1; omega), show i - vs.length = 0 by have := h.1; omega]
    rfl
theorem getD_mem_lt {ws : List Nat} {b i : Nat} (h : ∀ x ∈ ws, x < b) (hb : 0 < b) : ws.getD i 0 < b := getD_lt h hb

theorem shaParts_spec (pv kv cv : Value) (p key cuts : List Nat) (A : Mem) (hp : Rd A 1 pv p.length (nums .u8 p)) (hp256 : ∀ x ∈ p, x < 256) (hkey : Rd A 1 kv key.length (nums .u8 key)) (hk256 : ∀ x ∈ key, x < 256) (hcu : Rd A 1 cv cuts.length (nums .u16 cuts)) (hcu16 : ∀ x ∈ cuts, x < 65536) {ef ek : TypeId} {ff fk : Nat × Nat} (h0 : (0, Obj.cells (nums .u32 hFirst.list).toArray ef ff) ∈ A) (h1 : (1, Obj.cells (nums .u32 kTab).toArray ek fk) ∈ A) : FnV Tryd.prog 5 [pv, kv, cv] A (.bool true) := by
  haveI := hp.cel
  haveI := hkey.cel
  haveI := hcu.cel
  refine FnX.enter (N := 98) Tryd.func5 rfl rfl rfl fun w => ?_
  refine XC.keep (kp 0 rfl (kp 1 rfl (kp 2 rfl kn))) ?_
  refine XC.reg ?_
  refine XL.q (q_assign rfl) rfl ?_
  refine XL.fin (kp 0 rfl (kp 1 rfl (kp 2 rfl kn))) ?_
  refine XC.seq ?_
  refine XC.reg ?_
  refine XL.callV a0 (by kernel_rfl) (awake_spec _ (mA h0) (mA h1)) rfl ?_
  refine XL.q (q_not rfl) rfl ?_
  refine XL.q (q_move rfl) rfl ?_
  refine XL.gy rfl rfl (OpQ.opL (q_move rfl) rfl ?_)
  refine XL.gy rfl rfl (OpQ.opL (q_lenV hp rfl (by kernel_rfl)) rfl ?_)
  refine XL.gy rfl rfl (OpQ.opL (q_bin rfl rfl rfl) rfl ?_)
  refine XL.q (q_pickF rfl rfl) rfl ?_
  refine XL.q (q_move rfl) rfl ?_
  refine XL.split (t := 18) rfl (fun hb => ?_) (fun hb => ?_)
  ·
    refine XL.gn rfl rfl rfl rfl ?_
    refine XL.gn rfl rfl rfl rfl ?_
    refine XL.gn rfl rfl rfl rfl ?_
    refine XL.q (q_pickT rfl rfl) rfl ?_
    refine XL.q (q_move rfl) rfl ?_
    refine XL.gn rfl rfl rfl rfl ?_
    refine XL.gn rfl rfl rfl rfl ?_
    refine XL.gn rfl rfl rfl rfl ?_
    refine XL.q (q_pickT rfl rfl) rfl ?_
    refine XL.fin (kp 0 rfl (kp 1 rfl (kp 2 rfl (kp 27 rfl kn)))) ?_
    refine XC.condT rfl ?_
    refine XC.reg ?_
    refine XL.callV a0 (by kernel_rfl) (awake_spec _ (mA h0) (mA h1)) rfl ?_
    refine XL.q (q_assign rfl) rfl ?_
    refine XL.fin (kp 6 rfl kn) ?_
    refine XC.ret ?_
    refine tr ?_
    exact ⟨_, [], [], res1 rfl rfl, List.nil_sublist _, by simp, rfl, rfl, rfl⟩
  ·
    refine XL.gy rfl rfl (OpQ.opL (q_move rfl) rfl ?_)
    refine XL.gy rfl rfl (OpQ.opL (q_lenV hkey rfl (by kernel_rfl)) rfl ?_)
    refine XL.gy rfl rfl (OpQ.opL (q_bin rfl rfl rfl) rfl ?_)
    refine XL.q (q_pickF rfl rfl) rfl ?_
    refine XL.q (q_move rfl) rfl ?_
    refine XL.split (t := 23) rfl (fun hb => ?_) (fun hb => ?_)
    ·
      refine XL.gn rfl rfl rfl rfl ?_
      refine XL.gn rfl rfl rfl rfl ?_
      refine XL.gn rfl rfl rfl rfl ?_
      refine XL.q (q_pickT rfl rfl) rfl ?_
      refine XL.fin (kp 0 rfl (kp 1 rfl (kp 2 rfl (kp 27 rfl kn)))) ?_
      refine XC.condT rfl ?_
      refine XC.reg ?_
      refine XL.callV a0 (by kernel_rfl) (awake_spec _ (mA h0) (mA h1)) rfl ?_
      refine XL.q (q_assign rfl) rfl ?_
      refine XL.fin (kp 6 rfl kn) ?_
      refine XC.ret ?_
      refine tr ?_
      exact ⟨_, [], [], res1 rfl rfl, List.nil_sublist _, by simp, rfl, rfl, rfl⟩
    ·
      refine XL.gy rfl rfl (OpQ.opL (q_move rfl) rfl ?_)
      refine XL.gy rfl rfl (OpQ.opL (q_lenV hcu rfl (by kernel_rfl)) rfl ?_)
      refine XL.gy rfl rfl (OpQ.opL (q_bin rfl rfl rfl) rfl ?_)
      refine XL.q (q_pickF rfl rfl) rfl ?_
      refine XL.fin (kp 0 rfl (kp 1 rfl (kp 2 rfl (kp 27 rfl kn)))) ?_
      refine XC.cond rfl (fun hc => ?_) (fun hc => ?_)
      ·
        refine XC.reg ?_
        refine XL.callV a0 (by kernel_rfl) (awake_spec _ (mA h0) (mA h1)) rfl ?_
        refine XL.q (q_assign rfl) rfl ?_
        refine XL.fin (kp 6 rfl kn) ?_
        refine XC.ret ?_
        refine tr ?_
        exact ⟨_, [], [], res1 rfl rfl, List.nil_sublist _, by simp, rfl, rfl, rfl⟩
      ·
        have hle : p.length ≤ 2000 ∧ key.length ≤ 300 ∧ cuts.length ≤ 20 := by simp at *; omega
        refine XC.skip ?_
        refine nx (kp 0 rfl (kp 1 rfl (kp 2 rfl kn))) ?_
        refine XC.reg ?_
        refine XL.q (q_assign rfl) rfl ?_
        refine XL.fin (kp 0 rfl (kp 1 rfl (kp 2 rfl (kp 7 rfl kn)))) ?_
        refine XC.reg ?_
        refine XL.q (q_assign rfl) rfl ?_
        refine XL.fin (kp 0 rfl (kp 1 rfl (kp 2 rfl (kp 7 rfl (kp 8 rfl kn))))) ?_
        refine XC.seq ?_
        refine XC.reg ?_
        refine XL.q (q_assign rfl) rfl ?_
        refine XL.fin (kp 0 rfl (kp 1 rfl (kp 2 rfl (kp 7 rfl (kp 8 rfl (kp 9 rfl kn)))))) ?_
        refine XC.block ?_
        refine XC.loop (α := Nat × Nat × Value × Mem × List Value × List (List Nat)) (fun x => [(0, pv), (1, kv), (2, cv), (7, x.2.2.1), (8, .int .i64 (x.2.1 : Int)), (9, .int .i64 (x.1 : Int))]) (fun x => x.2.2.2.1) (fun _ => []) (fun x => x.1 ≤ cuts.length ∧ x.2.1 ≤ p.length ∧ x.2.2.2.2.2.length ≤ x.1 ∧ Sl 1 x.2.2.1 x.2.2.2.2.2.length x.2.2.2.2.1 x.2.2.2.1 ∧ Pv A x.2.2.2.2.1 x.2.2.2.2.2 ∧ x.2.2.2.2.2.flatten = p.take x.2.1) (fun x => cuts.length - x.1) (0, 0, .slice none 0 0, [], [], []) ⟨Nat.zero_le _, Nat.zero_le _, Nat.le_refl _, Sl.nil, ⟨rfl, fun i q h => by simp at h⟩, rfl⟩ (kp 0 rfl (kp 1 rfl (kp 2 rfl (kp 7 rfl (kp 8 rfl (kp 9 rfl kn)))))) .rfl (fun _ h => h) ?_
        rintro ⟨i, at_, xv, B, vs, ps⟩ ⟨hi, hat, hpi, hsl, hpv, hfl⟩
        dsimp only at hi hat hpi hsl hpv hfl ⊢
        refine XC.seq ?_
        refine XC.reg ?_
        refine XL.q (q_move rfl) rfl ?_
        refine XL.q (q_move rfl) rfl ?_
        refine XL.q (q_lenV hcu rfl (by kernel_rfl)) rfl ?_
        refine XL.q (q_bin rfl rfl rfl) rfl ?_
        refine XL.q (q_move rfl) rfl ?_
        refine XL.split (t := 33) rfl (fun hb => ?_) (fun hb => ?_)
        ·
          refine XL.gy rfl rfl (OpQ.opL (q_move rfl) rfl ?_)
          refine XL.gy rfl rfl (OpQ.opL (q_move rfl) rfl ?_)
          refine XL.gy rfl rfl (OpQ.opL (q_lenV hp rfl (by kernel_rfl)) rfl ?_)
          refine XL.gy rfl rfl (OpQ.opL (q_bin rfl rfl rfl) rfl ?_)
          refine XL.q (q_pickT rfl rfl) rfl ?_
          refine XL.fin (kp 0 rfl (kp 1 rfl (kp 2 rfl (kp 7 rfl (kp 8 rfl (kp 9 rfl (kp 38 rfl kn))))))) ?_
          refine XC.cond rfl (fun hc => ?_) (fun hc => ?_)
          ·
            have hlt : i < cuts.length ∧ at_ < p.length := by simp at *; omega
            have hc16 : cuts.getD i 0 < 65536 := getD_lt hcu16 (by decide)
            refine XC.skip ?_
            refine nx (kp 0 rfl (kp 1 rfl (kp 2 rfl (kp 7 rfl (kp 8 rfl (kp 9 rfl kn)))))) ?_
            refine XC.seq ?_
            refine XC.block ?_
            refine XC.reg ?_
            refine XL.q (q_move rfl) rfl ?_
            refine XL.q (q_move rfl) rfl ?_
            refine XL.q (q_move rfl) rfl ?_
            refine XL.q (q_atV hcu rfl rfl (by kernel_rfl) i rfl (by omega)) rfl ?_
            refine XL.q (q_ldVN (hcu.mono fun _ h => mA h) rfl (by kernel_rfl) (by omega)) rfl ?_
            refine XL.q (q_convN (cuts.getD i 0) rfl (by kernel_rfl) (wrapI (by omega))) rfl ?_
            refine XL.q (q_move rfl) rfl ?_
            refine XL.q (q_lenV hp rfl (by kernel_rfl)) rfl ?_
            refine XL.q (q_move rfl) rfl ?_
            refine XL.q (q_num ((p.length - at_ : Nat) : Int) rfl rfl (sub64 (by omega) (by omega) (by omega))) rfl ?_
            refine XL.q (q_num ((p.length - at_ + 1 : Nat) : Int) rfl rfl (add64 (by omega) (by omega) (by omega))) rfl ?_
            refine XL.q (q_remN rfl rfl (by omega)) rfl ?_
            have hmod : cuts.getD i 0 % (p.length - at_ + 1) < p.length - at_ + 1 := Nat.mod_lt _ (by omega)
            generalize hrd : cuts.getD i 0 % (p.length - at_ + 1) = rd at *
            refine XL.q (q_num ((at_ + rd : Nat) : Int) rfl rfl (add64 (by omega) (by omega) (by omega))) rfl ?_
            refine XL.q (q_assign rfl) rfl ?_
            refine XL.fin (kp 0 rfl (kp 1 rfl (kp 2 rfl (kp 7 rfl (kp 8 rfl (kp 9 rfl (kp 10 rfl kn))))))) ?_
            refine XC.reg ?_
            refine XL.q (q_move rfl) rfl ?_
            refine XL.q (q_move rfl) rfl ?_
            refine XL.q (q_move rfl) rfl ?_
            refine XL.q (q_move rfl) rfl ?_
            refine XL.q (q_lhV hp rfl rfl rfl (by kernel_rfl) at_ (at_ + rd) rfl rfl (by omega) (by omega)) rfl ?_
            have hcut := (hp.hiV (at_ + rd) (by omega)).loV at_ (by omega)
            rw [take_nums, drop_nums] at hcut
            haveI := hcut.cel
            refine XL.lo rfl (l_buildSlice (e := 22) (sz := 1) (z := [.slice none 0 0]) (by kernel_rfl) (eS rfl e0) (bdS 0 1 rfl (by rfl) bd0) rfl fun b59 => ?_)
            refine XL.lo rfl (l_append (e := 22) (sz := 1) (by_ := 24) (m := 1) (B := B) (M0 := [_]) rfl rfl (by kernel_rfl) rfl hsl (Rd.whole (n := 1) m0 (by rfl)) (by obtain ⟨_, _, h, _⟩ := hcut; rw [h]; simp [Value.oneCell']) pkB0 (by unfold maxLen; omega) (by omega) rfl fun xv1 B1 hsl1 => ?_)
            refine XL.q (q_assign rfl) rfl ?_
            refine XL.fin (kp 0 rfl (kp 1 rfl (kp 2 rfl (kp 7 rfl (kp 9 rfl (kp 10 rfl kn)))))) ?_
            refine XC.reg1 ?_
            refine XL.q (q_move rfl) rfl ?_
            refine XL.q (q_assign rfl) rfl ?_
            refine XL.nil ?_
            refine nb ?_
            refine nx (kp 0 rfl (kp 1 rfl (kp 2 rfl (kp 7 rfl (kp 8 rfl (kp 9 rfl kn)))))) ?_
            refine XC.reg1 ?_
            refine XL.q (q_move rfl) rfl ?_
            refine XL.q (q_num ((i + 1 : Nat) : Int) rfl rfl (add64 (by omega) (by omega) (by omega))) rfl ?_
            refine XL.q (q_assign rfl) rfl ?_
            refine XL.nil ?_
            refine rn (i + 1, at_ + rd, xv1, B1, vs ++ [_], ps ++ [(p.take (at_ + rd)).drop at_]) ⟨by dsimp only; omega, by dsimp only; omega, by simp; omega, sl_eq hsl1 (by simp) rfl, hpv.snoc (fun x hx => hp256 x (List.mem_of_mem_take (List.mem_of_mem_drop hx))) (rd_eq hcut (by simp; omega) rfl), ?_⟩ (by dsimp only; omega) (kp 0 rfl (kp 1 rfl (kp 2 rfl (kp 7 rfl (kp 8 rfl (kp 9 rfl kn)))))) (Fit.sub (List.sublist_append_left _ _)) (fun _ h => h)
            dsimp only
            rw [List.flatten_append, hfl]
            simp only [List.flatten_cons, List.flatten_nil, List.append_nil]
            rw [List.drop_take, show at_ + rd - at_ = rd by omega, ← List.take_add]
          ·
            refine XC.exit ?_
            refine te ?_
            refine re ?_
            refine be rfl ?_
            refine nx (kp 0 rfl (kp 1 rfl (kp 7 rfl (kp 8 rfl kn)))) ?_
            refine XC.reg ?_
            refine XL.q (q_move rfl) rfl ?_
            refine XL.q (q_move rfl) rfl ?_
            refine XL.q (q_move rfl) rfl ?_
            refine XL.q (q_loV hp rfl rfl (by kernel_rfl) at_ rfl (by omega)) rfl ?_
            have hcut := hp.loV at_ (by omega)
            rw [drop_nums] at hcut
            haveI := hcut.cel
            refine XL.lo rfl (l_buildSlice (e := 22) (sz := 1) (z := [.slice none 0 0]) (by kernel_rfl) (eS rfl e0) (bdS 0 1 rfl (by rfl) bd0) rfl fun b66 => ?_)
            refine XL.lo rfl (l_append (e := 22) (sz := 1) (by_ := 24) (m := 1) (B := B) (M0 := [_]) rfl rfl (by kernel_rfl) rfl hsl (Rd.whole (n := 1) m0 (by rfl)) (by obtain ⟨_, _, h, _⟩ := hcut; rw [h]; simp [Value.oneCell']) pkB0 (by unfold maxLen; omega) (by omega) rfl fun xv1 B1 hsl1 => ?_)
            have hpv1 := hpv.snoc (fun x hx => hp256 x (List.mem_of_mem_drop hx)) (rd_eq hcut (by simp) rfl)
            have hP : Parts (B1 ++ A) xv1 (ps ++ [p.drop at_]) := Parts.of (hsl1.rd fun _ h => List.mem_append_left _ h) (by simp) (hpv1.mono fun _ h => List.mem_append_right _ h)
            have hPf : (ps ++ [p.drop at_]).flatten = p := by rw [List.flatten_append, hfl]; simp
            have hPl : (ps ++ [p.drop at_]).length ≤ 21 := by simp; omega
            generalize ps ++ [p.drop at_] = qs at hP hPf hPl
            refine XL.q (q_assign rfl) rfl ?_
            refine XL.fin (kp 0 rfl (kp 1 rfl (kp 7 rfl kn))) ?_
            refine XC.drawF [0, 1, 2, 3, 4, 5, 6, 7, 8, 9, 10, 11, 12, 13, 14, 15, 16, 17, 18, 19, 20, 21, 22, 23, 24, 25, 26, 27, 28, 29, 30] [(0, 0), (3, 0), (1, 3), (2, 3), (4, 3), (5, 3), (6, 4), (7, 0), (8, 0), (9, 0), (10, 0), (13, 0), (14, 0), (11, 3), (12, 3), (15, 3), (16, 3), (17, 4), (18, 0), (19, 0), (20, 0), (21, 0), (24, 0), (22, 3), (23, 3), (25, 3), (26, 3), (27, 4), (28, 0), (29, 0), (30, 0)] (by kernel_rfl) (by kernel_rfl) fun hs => ?_
            refine XF.q hs rfl (q_move rfl) rfl ?_
            refine XF.q hs rfl (q_move rfl) rfl ?_
            refine XF.group [⟨1, 69, fun v R => Rd R 1 v 32 (nums .u8 (sha256 p))⟩, ⟨2, 70, fun v _ => v = .string (txt (sha256 p))⟩, ⟨4, 72, fun v R => Parts R v [p]⟩, ⟨5, 73, fun v R => Rd R 1 v 32 (nums .u8 (sha256 p))⟩, ⟨6, 74, fun v _ => v = .string (txt (sha256 p))⟩]
              (allS growsRd (allS growsEq (allS growsParts (allS growsRd (allS growsEq (all0)))))) (show List.Nodup [69, 70, 72, 73, 74] by decide) (show List.Nodup [1, 2, 4, 5, 6] by decide) (allS (blt_lt rfl) (allS (blt_lt rfl) (allS (blt_lt rfl) (allS (blt_lt rfl) (allS (blt_lt rfl) (all0))))))
              (allS ⟨_, rfl, fun vs R w hb ha => ⟨.inl rfl, ?_⟩⟩ (allS ⟨_, rfl, fun vs R w hb ha => ⟨.inl rfl, ?_⟩⟩ (allS ⟨_, rfl, fun vs R w hb ha => ⟨.inl rfl, ?_⟩⟩ (allS ⟨_, rfl, fun vs R w hb ha => ⟨.inl rfl, ?_⟩⟩ (allS ⟨_, rfl, fun vs R w hb ha => ⟨.inl rfl, ?_⟩⟩ (all0)))))) ?_
            ·
              refine l_call0 (aS rfl (a0)) (by kernel_rfl) (hPf ▸ sum_spec _ qs _ (hP.mono fun _ h => hb _ ((List.mem_append.1 h).elim (fun h => by simp [h]) (fun h => mA h))) (by rw [hPf]; omega) (by omega) (hb _ (mA h0)) (hb _ (mA h1))) rfl ?_
              rintro r M1 J1 ⟨rfl, hr⟩
              exact ⟨_, rfl, by simpa using hr.rd fun _ h => List.mem_append_left _ h⟩
            ·
              have g1 := ha _ (List.mem_of_getElem? (i := 0) rfl) (by kernel_rfl)
              replace g1 : (fun v R => Rd R 1 v 32 (nums .u8 (sha256 p))) (vs 1) R := g1
              dsimp only at g1
              exact OpQ.opL (q_toStr g1 rfl (by kernel_rfl)) rfl ⟨_, rfl, rfl⟩
            ·
              exact l_buildSlice (e := 22) (sz := 1) (z := [.slice none 0 0]) (by kernel_rfl) (eS rfl e0) (bdS 0 1 rfl (by rfl) bd0) rfl fun b => ⟨_, rfl, Parts.of (Rd.whole (n := 1) (List.mem_append_left _ List.mem_cons_self) (by rfl)) rfl (.cons hp256 (hp.mono fun _ h => List.mem_append_right _ (hb _ (mA h))) .nil)⟩
            ·
              have g1 := ha _ (List.mem_of_getElem? (i := 0) rfl) (by kernel_rfl)
              replace g1 : (fun v R => Rd R 1 v 32 (nums .u8 (sha256 p))) (vs 1) R := g1
              dsimp only at g1
              have g4 := ha _ (List.mem_of_getElem? (i := 2) rfl) (by kernel_rfl)
              replace g4 : (fun v R => Parts R v [p]) (vs 4) R := g4
              dsimp only at g4
              refine l_call0 (aS rfl (a0)) (by kernel_rfl) ((show [p].flatten = p by simp) ▸ sum_spec _ [p] _ g4 (by simp; omega) (by simp) (hb _ (mA h0)) (hb _ (mA h1))) rfl ?_
              rintro r M1 J1 ⟨rfl, hr⟩
              exact ⟨_, rfl, by simpa using hr.rd fun _ h => List.mem_append_left _ h⟩
            ·
              have g1 := ha _ (List.mem_of_getElem? (i := 0) rfl) (by kernel_rfl)
              replace g1 : (fun v R => Rd R 1 v 32 (nums .u8 (sha256 p))) (vs 1) R := g1
              dsimp only at g1
              have g4 := ha _ (List.mem_of_getElem? (i := 2) rfl) (by kernel_rfl)
              replace g4 : (fun v R => Parts R v [p]) (vs 4) R := g4
              dsimp only at g4
              have g5 := ha _ (List.mem_of_getElem? (i := 3) rfl) (by kernel_rfl)
              replace g5 : (fun v R => Rd R 1 v 32 (nums .u8 (sha256 p))) (vs 5) R := g5
              dsimp only at g5
              exact OpQ.opL (q_toStr g5 rfl (by kernel_rfl)) rfl ⟨_, rfl, rfl⟩
            intro vs Jn0 hφ
            have g1 := ofH hφ
            dsimp only at g1
            replace hφ := ofT hφ
            have g2 := ofH hφ
            dsimp only at g2
            replace hφ := ofT hφ
            have g4 := ofH hφ
            dsimp only at g4
            replace hφ := ofT hφ
            have g5 := ofH hφ
            dsimp only at g5
            replace hφ := ofT hφ
            have g6 := ofH hφ
            dsimp only at g6
            clear hφ
            dsimp only [gEnv, List.map, List.cons_append, List.nil_append]
            generalize vs 1 = u69 at *
            generalize vs 2 = u70 at *
            generalize vs 4 = u72 at *
            generalize vs 5 = u73 at *
            generalize vs 6 = u74 at *
            subst g2; subst g6
            refine XF.q hs rfl (q_strEqT rfl rfl rfl) rfl ?_
            refine XF.q hs rfl (q_move rfl) rfl ?_
            refine XF.qg hs rfl rfl rfl rfl (q_move rfl) rfl ?_
            refine XF.qg hs rfl rfl rfl rfl (q_move rfl) rfl ?_
            refine XF.qg hs rfl rfl rfl rfl (q_move rfl) rfl ?_
            refine XF.qg hs rfl rfl rfl rfl (q_move rfl) rfl ?_
            refine XF.group [⟨11, 79, fun v R => Rd R 1 v 32 (nums .u8 (hmac key p))⟩, ⟨12, 80, fun v _ => v = .string (txt (hmac key p))⟩, ⟨15, 83, fun v R => Parts R v [p]⟩, ⟨16, 84, fun v R => Rd R 1 v 32 (nums .u8 (hmac key p))⟩, ⟨17, 85, fun v _ => v = .string (txt (hmac key p))⟩]
              (allS growsRd (allS growsEq (allS growsParts (allS growsRd (allS growsEq (all0)))))) (show List.Nodup [79, 80, 83, 84, 85] by decide) (show List.Nodup [11, 12, 15, 16, 17] by decide) (allS (blt_lt rfl) (allS (blt_lt rfl) (allS (blt_lt rfl) (allS (blt_lt rfl) (allS (blt_lt rfl) (all0))))))
              (allS ⟨_, rfl, fun vs R w hb ha => ⟨.inr ⟨_, _, _, _, rfl, rfl, rfl, rfl⟩, ?_⟩⟩ (allS ⟨_, rfl, fun vs R w hb ha => ⟨.inr ⟨_, _, _, _, rfl, rfl, rfl, rfl⟩, ?_⟩⟩ (allS ⟨_, rfl, fun vs R w hb ha => ⟨.inr ⟨_, _, _, _, rfl, rfl, rfl, rfl⟩, ?_⟩⟩ (allS ⟨_, rfl, fun vs R w hb ha => ⟨.inr ⟨_, _, _, _, rfl, rfl, rfl, rfl⟩, ?_⟩⟩ (allS ⟨_, rfl, fun vs R w hb ha => ⟨.inr ⟨_, _, _, _, rfl, rfl, rfl, rfl⟩, ?_⟩⟩ (all0)))))) ?_
            ·
              refine l_call0 (aS rfl (aS rfl (a0))) (by kernel_rfl) (hPf ▸ mac_spec _ _ key qs _ (hkey.mono fun _ h => hb _ (mA h)) hk256 (by omega) (hP.mono fun _ h => hb _ ((List.mem_append.1 h).elim (fun h => by simp [h]) (fun h => mA h))) (by rw [hPf]; omega) (by omega) (hb _ (mA h0)) (hb _ (mA h1))) rfl ?_
              rintro r M1 J1 ⟨rfl, hr⟩
              exact ⟨_, rfl, by simpa using hr.rd fun _ h => List.mem_append_left _ h⟩
            ·
              have g11 := ha _ (List.mem_of_getElem? (i := 0) rfl) (by kernel_rfl)
              replace g11 : (fun v R => Rd R 1 v 32 (nums .u8 (hmac key p))) (vs 11) R := g11
              dsimp only at g11
              exact OpQ.opL (q_toStr g11 rfl (by kernel_rfl)) rfl ⟨_, rfl, rfl⟩
            ·
              exact l_buildSlice (e := 22) (sz := 1) (z := [.slice none 0 0]) (by kernel_rfl) (eS rfl e0) (bdS 0 1 rfl (by rfl) bd0) rfl fun b => ⟨_, rfl, Parts.of (Rd.whole (n := 1) (List.mem_append_left _ List.mem_cons_self) (by rfl)) rfl (.cons hp256 (hp.mono fun _ h => List.mem_append_right _ (hb _ (mA h))) .nil)⟩
            ·
              have g11 := ha _ (List.mem_of_getElem? (i := 0) rfl) (by kernel_rfl)
              replace g11 : (fun v R => Rd R 1 v 32 (nums .u8 (hmac key p))) (vs 11) R := g11
              dsimp only at g11
              have g15 := ha _ (List.mem_of_getElem? (i := 2) rfl) (by kernel_rfl)
              replace g15 : (fun v R => Parts R v [p]) (vs 15) R := g15
              dsimp only at g15
              refine l_call0 (aS rfl (aS rfl (a0))) (by kernel_rfl) ((show [p].flatten = p by simp) ▸ mac_spec _ _ key [p] _ (hkey.mono fun _ h => hb _ (mA h)) hk256 (by omega) g15 (by simp; omega) (by simp) (hb _ (mA h0)) (hb _ (mA h1))) rfl ?_
              rintro r M1 J1 ⟨rfl, hr⟩
              exact ⟨_, rfl, by simpa using hr.rd fun _ h => List.mem_append_left _ h⟩
            ·
              have g11 := ha _ (List.mem_of_getElem? (i := 0) rfl) (by kernel_rfl)
              replace g11 : (fun v R => Rd R 1 v 32 (nums .u8 (hmac key p))) (vs 11) R := g11
              dsimp only at g11
              have g15 := ha _ (List.mem_of_getElem? (i := 2) rfl) (by kernel_rfl)
              replace g15 : (fun v R => Parts R v [p]) (vs 15) R := g15
              dsimp only at g15
              have g16 := ha _ (List.mem_of_getElem? (i := 3) rfl) (by kernel_rfl)
              replace g16 : (fun v R => Rd R 1 v 32 (nums .u8 (hmac key p))) (vs 16) R := g16
              dsimp only at g16
              exact OpQ.opL (q_toStr g16 rfl (by kernel_rfl)) rfl ⟨_, rfl, rfl⟩
            intro vs Jn1 hφ
            have g11 := ofH hφ
            dsimp only at g11
            replace hφ := ofT hφ
            have g12 := ofH hφ
            dsimp only at g12
            replace hφ := ofT hφ
            have g15 := ofH hφ
            dsimp only at g15
            replace hφ := ofT hφ
            have g16 := ofH hφ
            dsimp only at g16
            replace hφ := ofT hφ
            have g17 := ofH hφ
            dsimp only at g17
            clear hφ
            dsimp only [gEnv, List.map, List.cons_append, List.nil_append]
            generalize vs 11 = u79 at *
            generalize vs 12 = u80 at *
            generalize vs 15 = u83 at *
            generalize vs 16 = u84 at *
            generalize vs 17 = u85 at *
            subst g12; subst g17
            refine XF.qg hs rfl rfl rfl rfl (q_strEqT rfl rfl rfl) rfl ?_
            refine XF.q hs rfl (q_pickT rfl rfl) rfl ?_
            refine XF.q hs rfl (q_move rfl) rfl ?_
            refine XF.qg hs rfl rfl rfl rfl (q_move rfl) rfl ?_
            refine XF.qg hs rfl rfl rfl rfl (q_move rfl) rfl ?_
            refine XF.group [⟨22, 90, fun v R => Rd R 1 v 64 (nums .u8 (wide p))⟩, ⟨23, 91, fun v _ => v = .string (txt (wide p))⟩, ⟨25, 93, fun v R => Parts R v [p]⟩, ⟨26, 94, fun v R => Rd R 1 v 64 (nums .u8 (wide p))⟩, ⟨27, 95, fun v _ => v = .string (txt (wide p))⟩]
              (allS growsRd (allS growsEq (allS growsParts (allS growsRd (allS growsEq (all0)))))) (show List.Nodup [90, 91, 93, 94, 95] by decide) (show List.Nodup [22, 23, 25, 26, 27] by decide) (allS (blt_lt rfl) (allS (blt_lt rfl) (allS (blt_lt rfl) (allS (blt_lt rfl) (allS (blt_lt rfl) (all0))))))
              (allS ⟨_, rfl, fun vs R w hb ha => ⟨.inr ⟨_, _, _, _, rfl, rfl, rfl, rfl⟩, ?_⟩⟩ (allS ⟨_, rfl, fun vs R w hb ha => ⟨.inr ⟨_, _, _, _, rfl, rfl, rfl, rfl⟩, ?_⟩⟩ (allS ⟨_, rfl, fun vs R w hb ha => ⟨.inr ⟨_, _, _, _, rfl, rfl, rfl, rfl⟩, ?_⟩⟩ (allS ⟨_, rfl, fun vs R w hb ha => ⟨.inr ⟨_, _, _, _, rfl, rfl, rfl, rfl⟩, ?_⟩⟩ (allS ⟨_, rfl, fun vs R w hb ha => ⟨.inr ⟨_, _, _, _, rfl, rfl, rfl, rfl⟩, ?_⟩⟩ (all0)))))) ?_
            ·
              refine l_call0 (aS rfl (a0)) (by kernel_rfl) (hPf ▸ wide_spec _ qs _ (hP.mono fun _ h => hb _ ((List.mem_append.1 h).elim (fun h => by simp [h]) (fun h => mA h))) (by rw [hPf]; omega) (by omega) (hb _ (mA h0)) (hb _ (mA h1))) rfl ?_
              rintro r M1 J1 ⟨rfl, hr⟩
              exact ⟨_, rfl, by simpa using hr.rd fun _ h => List.mem_append_left _ h⟩
            ·
              have g22 := ha _ (List.mem_of_getElem? (i := 0) rfl) (by kernel_rfl)
              replace g22 : (fun v R => Rd R 1 v 64 (nums .u8 (wide p))) (vs 22) R := g22
              dsimp only at g22
              exact OpQ.opL (q_toStr g22 rfl (by kernel_rfl)) rfl ⟨_, rfl, rfl⟩
            ·
              exact l_buildSlice (e := 22) (sz := 1) (z := [.slice none 0 0]) (by kernel_rfl) (eS rfl e0) (bdS 0 1 rfl (by rfl) bd0) rfl fun b => ⟨_, rfl, Parts.of (Rd.whole (n := 1) (List.mem_append_left _ List.mem_cons_self) (by rfl)) rfl (.cons hp256 (hp.mono fun _ h => List.mem_append_right _ (hb _ (mA h))) .nil)⟩
            ·
              have g22 := ha _ (List.mem_of_getElem? (i := 0) rfl) (by kernel_rfl)
              replace g22 : (fun v R => Rd R 1 v 64 (nums .u8 (wide p))) (vs 22) R := g22
              dsimp only at g22
              have g25 := ha _ (List.mem_of_getElem? (i := 2) rfl) (by kernel_rfl)
              replace g25 : (fun v R => Parts R v [p]) (vs 25) R := g25
              dsimp only at g25
              refine l_call0 (aS rfl (a0)) (by kernel_rfl) ((show [p].flatten = p by simp) ▸ wide_spec _ [p] _ g25 (by simp; omega) (by simp) (hb _ (mA h0)) (hb _ (mA h1))) rfl ?_
              rintro r M1 J1 ⟨rfl, hr⟩
              exact ⟨_, rfl, by simpa using hr.rd fun _ h => List.mem_append_left _ h⟩
            ·
              have g22 := ha _ (List.mem_of_getElem? (i := 0) rfl) (by kernel_rfl)
              replace g22 : (fun v R => Rd R 1 v 64 (nums .u8 (wide p))) (vs 22) R := g22
              dsimp only at g22
              have g25 := ha _ (List.mem_of_getElem? (i := 2) rfl) (by kernel_rfl)
              replace g25 : (fun v R => Parts R v [p]) (vs 25) R := g25
              dsimp only at g25
              have g26 := ha _ (List.mem_of_getElem? (i := 3) rfl) (by kernel_rfl)
              replace g26 : (fun v R => Rd R 1 v 64 (nums .u8 (wide p))) (vs 26) R := g26
              dsimp only at g26
              exact OpQ.opL (q_toStr g26 rfl (by kernel_rfl)) rfl ⟨_, rfl, rfl⟩
            intro vs Jn2 hφ
            have g22 := ofH hφ
            dsimp only at g22
            replace hφ := ofT hφ
            have g23 := ofH hφ
            dsimp only at g23
            replace hφ := ofT hφ
            have g25 := ofH hφ
            dsimp only at g25
            replace hφ := ofT hφ
            have g26 := ofH hφ
            dsimp only at g26
            replace hφ := ofT hφ
            have g27 := ofH hφ
            dsimp only at g27
            clear hφ
            dsimp only [gEnv, List.map, List.cons_append, List.nil_append]
            generalize vs 22 = u90 at *
            generalize vs 23 = u91 at *
            generalize vs 25 = u93 at *
            generalize vs 26 = u94 at *
            generalize vs 27 = u95 at *
            subst g23; subst g27
            refine XF.qg hs rfl rfl rfl rfl (q_strEqT rfl rfl rfl) rfl ?_
            refine XF.q hs rfl (q_pickT rfl rfl) rfl ?_
            refine XF.q hs rfl (q_assign rfl) rfl ?_
            refine XF.fin (kp 6 rfl kn) ?_
            refine XC.ret ?_
            exact ⟨_, [], [], res1 rfl rfl, List.nil_sublist _, by simp, rfl, rfl, rfl⟩
        ·
          refine XL.gn rfl rfl rfl rfl ?_
          refine XL.gn rfl rfl rfl rfl ?_
          refine XL.gn rfl rfl rfl rfl ?_
          refine XL.gn rfl rfl rfl rfl ?_
          refine XL.q (q_pickF rfl rfl) rfl ?_
          refine XL.fin (kp 0 rfl (kp 1 rfl (kp 2 rfl (kp 7 rfl (kp 8 rfl (kp 9 rfl (kp 38 rfl kn))))))) ?_
          refine XC.condF rfl ?_
          refine XC.exit ?_
          refine te ?_
          refine re ?_
          refine be rfl ?_
          refine nx (kp 0 rfl (kp 1 rfl (kp 7 rfl (kp 8 rfl kn)))) ?_
          refine XC.reg ?_
          refine XL.q (q_move rfl) rfl ?_
          refine XL.q (q_move rfl) rfl ?_
          refine XL.q (q_move rfl) rfl ?_
          refine XL.q (q_loV hp rfl rfl (by kernel_rfl) at_ rfl (by omega)) rfl ?_
          have hcut := hp.loV at_ (by omega)
          rw [drop_nums] at hcut
          haveI := hcut.cel
          refine XL.lo rfl (l_buildSlice (e := 22) (sz := 1) (z := [.slice none 0 0]) (by kernel_rfl) (eS rfl e0) (bdS 0 1 rfl (by rfl) bd0) rfl fun b66 => ?_)
          refine XL.lo rfl (l_append (e := 22) (sz := 1) (by_ := 24) (m := 1) (B := B) (M0 := [_]) rfl rfl (by kernel_rfl) rfl hsl (Rd.whole (n := 1) m0 (by rfl)) (by obtain ⟨_, _, h, _⟩ := hcut; rw [h]; simp [Value.oneCell']) pkB0 (by unfold maxLen; omega) (by omega) rfl fun xv1 B1 hsl1 => ?_)
          have hpv1 := hpv.snoc (fun x hx => hp256 x (List.mem_of_mem_drop hx)) (rd_eq hcut (by simp) rfl)
          have hP : Parts (B1 ++ A) xv1 (ps ++ [p.drop at_]) := Parts.of (hsl1.rd fun _ h => List.mem_append_left _ h) (by simp) (hpv1.mono fun _ h => List.mem_append_right _ h)
          have hPf : (ps ++ [p.drop at_]).flatten = p := by rw [List.flatten_append, hfl]; simp
          have hPl : (ps ++ [p.drop at_]).length ≤ 21 := by simp; omega
          generalize ps ++ [p.drop at_] = qs at hP hPf hPl
          refine XL.q (q_assign rfl) rfl ?_
          refine XL.fin (kp 0 rfl (kp 1 rfl (kp 7 rfl kn))) ?_
          refine XC.drawF [0, 1, 2, 3, 4, 5, 6, 7, 8, 9, 10, 11, 12, 13, 14, 15, 16, 17, 18, 19, 20, 21, 22, 23, 24, 25, 26, 27, 28, 29, 30] [(0, 0), (3, 0), (1, 3), (2, 3), (4, 3), (5, 3), (6, 4), (7, 0), (8, 0), (9, 0), (10, 0), (13, 0), (14, 0), (11, 3), (12, 3), (15, 3), (16, 3), (17, 4), (18, 0), (19, 0), (20, 0), (21, 0), (24, 0), (22, 3), (23, 3), (25, 3), (26, 3), (27, 4), (28, 0), (29, 0), (30, 0)] (by kernel_rfl) (by kernel_rfl) fun hs => ?_
          refine XF.q hs rfl (q_move rfl) rfl ?_
          refine XF.q hs rfl (q_move rfl) rfl ?_
          refine XF.group [⟨1, 69, fun v R => Rd R 1 v 32 (nums .u8 (sha256 p))⟩, ⟨2, 70, fun v _ => v = .string (txt (sha256 p))⟩, ⟨4, 72, fun v R => Parts R v [p]⟩, ⟨5, 73, fun v R => Rd R 1 v 32 (nums .u8 (sha256 p))⟩, ⟨6, 74, fun v _ => v = .string (txt (sha256 p))⟩]
            (allS growsRd (allS growsEq (allS growsParts (allS growsRd (allS growsEq (all0)))))) (show List.Nodup [69, 70, 72, 73, 74] by decide) (show List.Nodup [1, 2, 4, 5, 6] by decide) (allS (blt_lt rfl) (allS (blt_lt rfl) (allS (blt_lt rfl) (allS (blt_lt rfl) (allS (blt_lt rfl) (all0))))))
            (allS ⟨_, rfl, fun vs R w hb ha => ⟨.inl rfl, ?_⟩⟩ (allS ⟨_, rfl, fun vs R w hb ha => ⟨.inl rfl, ?_⟩⟩ (allS ⟨_, rfl, fun vs R w hb ha => ⟨.inl rfl, ?_⟩⟩ (allS ⟨_, rfl, fun vs R w hb ha => ⟨.inl rfl, ?_⟩⟩ (allS ⟨_, rfl, fun vs R w hb ha => ⟨.inl rfl, ?_⟩⟩ (all0)))))) ?_
          ·
            refine l_call0 (aS rfl (a0)) (by kernel_rfl) (hPf ▸ sum_spec _ qs _ (hP.mono fun _ h => hb _ ((List.mem_append.1 h).elim (fun h => by simp [h]) (fun h => mA h))) (by rw [hPf]; omega) (by omega) (hb _ (mA h0)) (hb _ (mA h1))) rfl ?_
            rintro r M1 J1 ⟨rfl, hr⟩
            exact ⟨_, rfl, by simpa using hr.rd fun _ h => List.mem_append_left _ h⟩
          ·
            have g1 := ha _ (List.mem_of_getElem? (i := 0) rfl) (by kernel_rfl)
            replace g1 : (fun v R => Rd R 1 v 32 (nums .u8 (sha256 p))) (vs 1) R := g1
            dsimp only at g1
            exact OpQ.opL (q_toStr g1 rfl (by kernel_rfl)) rfl ⟨_, rfl, rfl⟩
          ·
            exact l_buildSlice (e := 22) (sz := 1) (z := [.slice none 0 0]) (by kernel_rfl) (eS rfl e0) (bdS 0 1 rfl (by rfl) bd0) rfl fun b => ⟨_, rfl, Parts.of (Rd.whole (n := 1) (List.mem_append_left _ List.mem_cons_self) (by rfl)) rfl (.cons hp256 (hp.mono fun _ h => List.mem_append_right _ (hb _ (mA h))) .nil)⟩
          ·
            have g1 := ha _ (List.mem_of_getElem? (i := 0) rfl) (by kernel_rfl)
            replace g1 : (fun v R => Rd R 1 v 32 (nums .u8 (sha256 p))) (vs 1) R := g1
            dsimp only at g1
            have g4 := ha _ (List.mem_of_getElem? (i := 2) rfl) (by kernel_rfl)
            replace g4 : (fun v R => Parts R v [p]) (vs 4) R := g4
            dsimp only at g4
            refine l_call0 (aS rfl (a0)) (by kernel_rfl) ((show [p].flatten = p by simp) ▸ sum_spec _ [p] _ g4 (by simp; omega) (by simp) (hb _ (mA h0)) (hb _ (mA h1))) rfl ?_
            rintro r M1 J1 ⟨rfl, hr⟩
            exact ⟨_, rfl, by simpa using hr.rd fun _ h => List.mem_append_left _ h⟩
          ·
            have g1 := ha _ (List.mem_of_getElem? (i := 0) rfl) (by kernel_rfl)
            replace g1 : (fun v R => Rd R 1 v 32 (nums .u8 (sha256 p))) (vs 1) R := g1
            dsimp only at g1
            have g4 := ha _ (List.mem_of_getElem? (i := 2) rfl) (by kernel_rfl)
            replace g4 : (fun v R => Parts R v [p]) (vs 4) R := g4
            dsimp only at g4
            have g5 := ha _ (List.mem_of_getElem? (i := 3) rfl) (by kernel_rfl)
            replace g5 : (fun v R => Rd R 1 v 32 (nums .u8 (sha256 p))) (vs 5) R := g5
            dsimp only at g5
            exact OpQ.opL (q_toStr g5 rfl (by kernel_rfl)) rfl ⟨_, rfl, rfl⟩
          intro vs Jn0 hφ
          have g1 := ofH hφ
          dsimp only at g1
          replace hφ := ofT hφ
          have g2 := ofH hφ
          dsimp only at g2
          replace hφ := ofT hφ
          have g4 := ofH hφ
          dsimp only at g4
          replace hφ := ofT hφ
          have g5 := ofH hφ
          dsimp only at g5
          replace hφ := ofT hφ
          have g6 := ofH hφ
          dsimp only at g6
          clear hφ
          dsimp only [gEnv, List.map, List.cons_append, List.nil_append]
          generalize vs 1 = u69 at *
          generalize vs 2 = u70 at *
          generalize vs 4 = u72 at *
          generalize vs 5 = u73 at *
          generalize vs 6 = u74 at *
          subst g2; subst g6
          refine XF.q hs rfl (q_strEqT rfl rfl rfl) rfl ?_
          refine XF.q hs rfl (q_move rfl) rfl ?_
          refine XF.qg hs rfl rfl rfl rfl (q_move rfl) rfl ?_
          refine XF.qg hs rfl rfl rfl rfl (q_move rfl) rfl ?_
          refine XF.qg hs rfl rfl rfl rfl (q_move rfl) rfl ?_
          refine XF.qg hs rfl rfl rfl rfl (q_move rfl) rfl ?_
          refine XF.group [⟨11, 79, fun v R => Rd R 1 v 32 (nums .u8 (hmac key p))⟩, ⟨12, 80, fun v _ => v = .string (txt (hmac key p))⟩, ⟨15, 83, fun v R => Parts R v [p]⟩, ⟨16, 84, fun v R => Rd R 1 v 32 (nums .u8 (hmac key p))⟩, ⟨17, 85, fun v _ => v = .string (txt (hmac key p))⟩]
            (allS growsRd (allS growsEq (allS growsParts (allS growsRd (allS growsEq (all0)))))) (show List.Nodup [79, 80, 83, 84, 85] by decide) (show List.Nodup [11, 12, 15, 16, 17] by decide) (allS (blt_lt rfl) (allS (blt_lt rfl) (allS (blt_lt rfl) (allS (blt_lt rfl) (allS (blt_lt rfl) (all0))))))
            (allS ⟨_, rfl, fun vs R w hb ha => ⟨.inr ⟨_, _, _, _, rfl, rfl, rfl, rfl⟩, ?_⟩⟩ (allS ⟨_, rfl, fun vs R w hb ha => ⟨.inr ⟨_, _, _, _, rfl, rfl, rfl, rfl⟩, ?_⟩⟩ (allS ⟨_, rfl, fun vs R w hb ha => ⟨.inr ⟨_, _, _, _, rfl, rfl, rfl, rfl⟩, ?_⟩⟩ (allS ⟨_, rfl, fun vs R w hb ha => ⟨.inr ⟨_, _, _, _, rfl, rfl, rfl, rfl⟩, ?_⟩⟩ (allS ⟨_, rfl, fun vs R w hb ha => ⟨.inr ⟨_, _, _, _, rfl, rfl, rfl, rfl⟩, ?_⟩⟩ (all0)))))) ?_
          ·
            refine l_call0 (aS rfl (aS rfl (a0))) (by kernel_rfl) (hPf ▸ mac_spec _ _ key qs _ (hkey.mono fun _ h => hb _ (mA h)) hk256 (by omega) (hP.mono fun _ h => hb _ ((List.mem_append.1 h).elim (fun h => by simp [h]) (fun h => mA h))) (by rw [hPf]; omega) (by omega) (hb _ (mA h0)) (hb _ (mA h1))) rfl ?_
            rintro r M1 J1 ⟨rfl, hr⟩
            exact ⟨_, rfl, by simpa using hr.rd fun _ h => List.mem_append_left _ h⟩
          ·
            have g11 := ha _ (List.mem_of_getElem? (i := 0) rfl) (by kernel_rfl)
            replace g11 : (fun v R => Rd R 1 v 32 (nums .u8 (hmac key p))) (vs 11) R := g11
            dsimp only at g11
            exact OpQ.opL (q_toStr g11 rfl (by kernel_rfl)) rfl ⟨_, rfl, rfl⟩
          ·
            exact l_buildSlice (e := 22) (sz := 1) (z := [.slice none 0 0]) (by kernel_rfl) (eS rfl e0) (bdS 0 1 rfl (by rfl) bd0) rfl fun b => ⟨_, rfl, Parts.of (Rd.whole (n := 1) (List.mem_append_left _ List.mem_cons_self) (by rfl)) rfl (.cons hp256 (hp.mono fun _ h => List.mem_append_right _ (hb _ (mA h))) .nil)⟩
          ·
            have g11 := ha _ (List.mem_of_getElem? (i := 0) rfl) (by kernel_rfl)
            replace g11 : (fun v R => Rd R 1 v 32 (nums .u8 (hmac key p))) (vs 11) R := g11
            dsimp only at g11
            have g15 := ha _ (List.mem_of_getElem? (i := 2) rfl) (by kernel_rfl)
            replace g15 : (fun v R => Parts R v [p]) (vs 15) R := g15
            dsimp only at g15
            refine l_call0 (aS rfl (aS rfl (a0))) (by kernel_rfl) ((show [p].flatten = p by simp) ▸ mac_spec _ _ key [p] _ (hkey.mono fun _ h => hb _ (mA h)) hk256 (by omega) g15 (by simp; omega) (by simp) (hb _ (mA h0)) (hb _ (mA h1))) rfl ?_
            rintro r M1 J1 ⟨rfl, hr⟩
            exact ⟨_, rfl, by simpa using hr.rd fun _ h => List.mem_append_left _ h⟩
          ·
            have g11 := ha _ (List.mem_of_getElem? (i := 0) rfl) (by kernel_rfl)
            replace g11 : (fun v R => Rd R 1 v 32 (nums .u8 (hmac key p))) (vs 11) R := g11
            dsimp only at g11
            have g15 := ha _ (List.mem_of_getElem? (i := 2) rfl) (by kernel_rfl)
            replace g15 : (fun v R => Parts R v [p]) (vs 15) R := g15
            dsimp only at g15
            have g16 := ha _ (List.mem_of_getElem? (i := 3) rfl) (by kernel_rfl)
            replace g16 : (fun v R => Rd R 1 v 32 (nums .u8 (hmac key p))) (vs 16) R := g16
            dsimp only at g16
            exact OpQ.opL (q_toStr g16 rfl (by kernel_rfl)) rfl ⟨_, rfl, rfl⟩
          intro vs Jn1 hφ
          have g11 := ofH hφ
          dsimp only at g11
          replace hφ := ofT hφ
          have g12 := ofH hφ
          dsimp only at g12
          replace hφ := ofT hφ
          have g15 := ofH hφ
          dsimp only at g15
          replace hφ := ofT hφ
          have g16 := ofH hφ
          dsimp only at g16
          replace hφ := ofT hφ
          have g17 := ofH hφ
          dsimp only at g17
          clear hφ
          dsimp only [gEnv, List.map, List.cons_append, List.nil_append]
          generalize vs 11 = u79 at *
          generalize vs 12 = u80 at *
          generalize vs 15 = u83 at *
          generalize vs 16 = u84 at *
          generalize vs 17 = u85 at *
          subst g12; subst g17
          refine XF.qg hs rfl rfl rfl rfl (q_strEqT rfl rfl rfl) rfl ?_
          refine XF.q hs rfl (q_pickT rfl rfl) rfl ?_
          refine XF.q hs rfl (q_move rfl) rfl ?_
          refine XF.qg hs rfl rfl rfl rfl (q_move rfl) rfl ?_
          refine XF.qg hs rfl rfl rfl rfl (q_move rfl) rfl ?_
          refine XF.group [⟨22, 90, fun v R => Rd R 1 v 64 (nums .u8 (wide p))⟩, ⟨23, 91, fun v _ => v = .string (txt (wide p))⟩, ⟨25, 93, fun v R => Parts R v [p]⟩, ⟨26, 94, fun v R => Rd R 1 v 64 (nums .u8 (wide p))⟩, ⟨27, 95, fun v _ => v = .string (txt (wide p))⟩]
            (allS growsRd (allS growsEq (allS growsParts (allS growsRd (allS growsEq (all0)))))) (show List.Nodup [90, 91, 93, 94, 95] by decide) (show List.Nodup [22, 23, 25, 26, 27] by decide) (allS (blt_lt rfl) (allS (blt_lt rfl) (allS (blt_lt rfl) (allS (blt_lt rfl) (allS (blt_lt rfl) (all0))))))
            (allS ⟨_, rfl, fun vs R w hb ha => ⟨.inr ⟨_, _, _, _, rfl, rfl, rfl, rfl⟩, ?_⟩⟩ (allS ⟨_, rfl, fun vs R w hb ha => ⟨.inr ⟨_, _, _, _, rfl, rfl, rfl, rfl⟩, ?_⟩⟩ (allS ⟨_, rfl, fun vs R w hb ha => ⟨.inr ⟨_, _, _, _, rfl, rfl, rfl, rfl⟩, ?_⟩⟩ (allS ⟨_, rfl, fun vs R w hb ha => ⟨.inr ⟨_, _, _, _, rfl, rfl, rfl, rfl⟩, ?_⟩⟩ (allS ⟨_, rfl, fun vs R w hb ha => ⟨.inr ⟨_, _, _, _, rfl, rfl, rfl, rfl⟩, ?_⟩⟩ (all0)))))) ?_
          ·
            refine l_call0 (aS rfl (a0)) (by kernel_rfl) (hPf ▸ wide_spec _ qs _ (hP.mono fun _ h => hb _ ((List.mem_append.1 h).elim (fun h => by simp [h]) (fun h => mA h))) (by rw [hPf]; omega) (by omega) (hb _ (mA h0)) (hb _ (mA h1))) rfl ?_
            rintro r M1 J1 ⟨rfl, hr⟩
            exact ⟨_, rfl, by simpa using hr.rd fun _ h => List.mem_append_left _ h⟩
          ·
            have g22 := ha _ (List.mem_of_getElem? (i := 0) rfl) (by kernel_rfl)
            replace g22 : (fun v R => Rd R 1 v 64 (nums .u8 (wide p))) (vs 22) R := g22
            dsimp only at g22
            exact OpQ.opL (q_toStr g22 rfl (by kernel_rfl)) rfl ⟨_, rfl, rfl⟩
          ·
            exact l_buildSlice (e := 22) (sz := 1) (z := [.slice none 0 0]) (by kernel_rfl) (eS rfl e0) (bdS 0 1 rfl (by rfl) bd0) rfl fun b => ⟨_, rfl, Parts.of (Rd.whole (n := 1) (List.mem_append_left _ List.mem_cons_self) (by rfl)) rfl (.cons hp256 (hp.mono fun _ h => List.mem_append_right _ (hb _ (mA h))) .nil)⟩
          ·
            have g22 := ha _ (List.mem_of_getElem? (i := 0) rfl) (by kernel_rfl)
            replace g22 : (fun v R => Rd R 1 v 64 (nums .u8 (wide p))) (vs 22) R := g22
            dsimp only at g22
            have g25 := ha _ (List.mem_of_getElem? (i := 2) rfl) (by kernel_rfl)
            replace g25 : (fun v R => Parts R v [p]) (vs 25) R := g25
            dsimp only at g25
            refine l_call0 (aS rfl (a0)) (by kernel_rfl) ((show [p].flatten = p by simp) ▸ wide_spec _ [p] _ g25 (by simp; omega) (by simp) (hb _ (mA h0)) (hb _ (mA h1))) rfl ?_
            rintro r M1 J1 ⟨rfl, hr⟩
            exact ⟨_, rfl, by simpa using hr.rd fun _ h => List.mem_append_left _ h⟩
          ·
            have g22 := ha _ (List.mem_of_getElem? (i := 0) rfl) (by kernel_rfl)
            replace g22 : (fun v R => Rd R 1 v 64 (nums .u8 (wide p))) (vs 22) R := g22
            dsimp only at g22
            have g25 := ha _ (List.mem_of_getElem? (i := 2) rfl) (by kernel_rfl)
            replace g25 : (fun v R => Parts R v [p]) (vs 25) R := g25
            dsimp only at g25
            have g26 := ha _ (List.mem_of_getElem? (i := 3) rfl) (by kernel_rfl)
            replace g26 : (fun v R => Rd R 1 v 64 (nums .u8 (wide p))) (vs 26) R := g26
            dsimp only at g26
            exact OpQ.opL (q_toStr g26 rfl (by kernel_rfl)) rfl ⟨_, rfl, rfl⟩
          intro vs Jn2 hφ
          have g22 := ofH hφ
          dsimp only at g22
          replace hφ := ofT hφ
          have g23 := ofH hφ
          dsimp only at g23
          replace hφ := ofT hφ
          have g25 := ofH hφ
          dsimp only at g25
          replace hφ := ofT hφ
          have g26 := ofH hφ
          dsimp only at g26
          replace hφ := ofT hφ
          have g27 := ofH hφ
          dsimp only at g27
          clear hφ
          dsimp only [gEnv, List.map, List.cons_append, List.nil_append]
          generalize vs 22 = u90 at *
          generalize vs 23 = u91 at *
          generalize vs 25 = u93 at *
          generalize vs 26 = u94 at *
          generalize vs 27 = u95 at *
          subst g23; subst g27
          refine XF.qg hs rfl rfl rfl rfl (q_strEqT rfl rfl rfl) rfl ?_
          refine XF.q hs rfl (q_pickT rfl rfl) rfl ?_
          refine XF.q hs rfl (q_assign rfl) rfl ?_
          refine XF.fin (kp 6 rfl kn) ?_
          refine XC.ret ?_
          exact ⟨_, [], [], res1 rfl rfl, List.nil_sublist _, by simp, rfl, rfl, rfl⟩

theorem tmod_bd (a : Int) {b : Int} (hb : 0 < b) : -b < a.tmod b ∧ a.tmod b < b := by
  have h := Int.natAbs_tmod a b
  have h2 : a.natAbs % b.natAbs < b.natAbs := Nat.mod_lt _ (by omega)
  omega

theorem shaExpands_spec (kv iv : Value) (key info : List Nat) (n m : Int) (A : Mem) (hkey : Rd A 1 kv key.length (nums .u8 key)) (hk256 : ∀ x ∈ key, x < 256) (hinfo : Rd A 1 iv info.length (nums .u8 info)) (hi256 : ∀ x ∈ info, x < 256) {ef ek : TypeId} {ff fk : Nat × Nat} (h0 : (0, Obj.cells (nums .u32 hFirst.list).toArray ef ff) ∈ A) (h1 : (1, Obj.cells (nums .u32 kTab).toArray ek fk) ∈ A) : FnV Tryd.prog 7 [kv, iv, .int .i64 n, .int .i64 m] A (.bool true) := by
  haveI := hkey.cel
  haveI := hinfo.cel
  refine FnX.enter (N := 76) Tryd.func7 rfl rfl rfl fun w => ?_
  refine XC.keep (kp 0 rfl (kp 1 rfl (kp 2 rfl (kp 3 rfl kn)))) ?_
  refine XC.reg ?_
  refine XL.q (q_assign rfl) rfl ?_
  refine XL.fin (kp 0 rfl (kp 1 rfl (kp 2 rfl (kp 3 rfl kn)))) ?_
  refine XC.seq ?_
  refine XC.reg ?_
  refine XL.callV a0 (by kernel_rfl) (awake_spec _ (mA h0) (mA h1)) rfl ?_
  refine XL.q (q_not rfl) rfl ?_
  refine XL.q (q_move rfl) rfl ?_
  refine XL.gy rfl rfl (OpQ.opL (q_move rfl) rfl ?_)
  refine XL.gy rfl rfl (OpQ.opL (q_lenV hkey rfl (by kernel_rfl)) rfl ?_)
  refine XL.gy rfl rfl (OpQ.opL (q_bin rfl rfl rfl) rfl ?_)
  refine XL.q (q_pickF rfl rfl) rfl ?_
  refine XL.q (q_move rfl) rfl ?_
  refine XL.split (t := 20) rfl (fun hb => ?_) (fun hb => ?_)
  ·
    refine XL.gn rfl rfl rfl rfl ?_
    refine XL.gn rfl rfl rfl rfl ?_
    refine XL.gn rfl rfl rfl rfl ?_
    refine XL.q (q_pickT rfl rfl) rfl ?_
    refine XL.fin (kp 0 rfl (kp 1 rfl (kp 2 rfl (kp 3 rfl (kp 24 rfl kn))))) ?_
    refine XC.condT rfl ?_
    refine XC.reg ?_
    refine XL.callV a0 (by kernel_rfl) (awake_spec _ (mA h0) (mA h1)) rfl ?_
    refine XL.q (q_assign rfl) rfl ?_
    refine XL.fin (kp 8 rfl kn) ?_
    refine XC.ret ?_
    refine tr ?_
    exact ⟨_, [], [], res1 rfl rfl, List.nil_sublist _, by simp, rfl, rfl, rfl⟩
  ·
    refine XL.gy rfl rfl (OpQ.opL (q_move rfl) rfl ?_)
    refine XL.gy rfl rfl (OpQ.opL (q_lenV hinfo rfl (by kernel_rfl)) rfl ?_)
    refine XL.gy rfl rfl (OpQ.opL (q_bin rfl rfl rfl) rfl ?_)
    refine XL.q (q_pickF rfl rfl) rfl ?_
    refine XL.fin (kp 0 rfl (kp 1 rfl (kp 2 rfl (kp 3 rfl (kp 24 rfl kn))))) ?_
    refine XC.cond rfl (fun hc => ?_) (fun hc => ?_)
    ·
      refine XC.reg ?_
      refine XL.callV a0 (by kernel_rfl) (awake_spec _ (mA h0) (mA h1)) rfl ?_
      refine XL.q (q_assign rfl) rfl ?_
      refine XL.fin (kp 8 rfl kn) ?_
      refine XC.ret ?_
      refine tr ?_
      exact ⟨_, [], [], res1 rfl rfl, List.nil_sublist _, by simp, rfl, rfl, rfl⟩
    ·
      have hle : key.length ≤ 100 ∧ info.length ≤ 100 := by simp at hb hc; omega
      have hn := tmod_bd n (b := 100) (by decide)
      have hm := tmod_bd m (b := 9000) (by decide)
      generalize hnn : n.tmod 100 = nn at hn
      generalize hmm : m.tmod 9000 = mm at hm
      have hla := expand_len key info nn
      have hlb := expand_len key info mm
      refine XC.skip ?_
      refine nx (kp 0 rfl (kp 1 rfl (kp 2 rfl (kp 3 rfl kn)))) ?_
      refine XC.reg ?_
      refine XL.q (q_move rfl) rfl ?_
      refine XL.q (q_move rfl) rfl ?_
      refine XL.q (q_move rfl) rfl ?_
      refine XL.q (hnn ▸ q_rem rfl rfl (by decide)) rfl ?_
      refine XL.call (aS rfl (aS rfl (aS rfl a0))) (by kernel_rfl) (expand_spec _ _ key info nn _ (hkey.mono fun _ h => mA h) hk256 (by omega) (hinfo.mono fun _ h => mA h) hi256 (by omega) (by omega) (by omega) (mA h0) (mA h1)) rfl ?_
      rintro r3 M3 J3 ⟨rfl, h3⟩
      haveI := h3.cel
      refine XL.q (q_assign rfl) rfl ?_
      refine XL.fin (kp 0 rfl (kp 1 rfl (kp 2 rfl (kp 3 rfl (kp 9 rfl kn))))) ?_
      refine XC.reg ?_
      refine XL.q (q_move rfl) rfl ?_
      refine XL.q (q_move rfl) rfl ?_
      refine XL.q (q_move rfl) rfl ?_
      refine XL.q (hmm ▸ q_rem rfl rfl (by decide)) rfl ?_
      refine XL.call (aS rfl (aS rfl (aS rfl a0))) (by kernel_rfl) (expand_spec _ _ key info mm _ (hkey.mono fun _ h => mA h) hk256 (by omega) (hinfo.mono fun _ h => mA h) hi256 (by omega) (by omega) (by omega) (mA h0) (mA h1)) rfl ?_
      rintro r4 M4 J4 ⟨rfl, h4⟩
      haveI := h4.cel
      refine XL.q (q_assign rfl) rfl ?_
      refine XL.fin (kp 0 rfl (kp 1 rfl (kp 2 rfl (kp 3 rfl (kp 9 rfl (kp 10 rfl kn)))))) ?_
      refine XC.reg ?_
      refine XL.q (q_move rfl) rfl ?_
      refine XL.q (q_lenV h3 rfl (by kernel_rfl)) rfl ?_
      refine XL.q (q_assign rfl) rfl ?_
      refine XL.fin (kp 0 rfl (kp 1 rfl (kp 2 rfl (kp 3 rfl (kp 9 rfl (kp 10 rfl (kp 11 rfl kn))))))) ?_
      refine XC.join (α := Unit) (fun _ => [(0, kv), (1, iv), (2, .int .i64 n), (3, .int .i64 m), (9, r3), (10, r4), (11, .int .i64 ((min (expand key info nn).length (expand key info mm).length : Nat) : Int))]) (fun _ => M4 ++ (M3 ++ [])) (fun _ => []) (fun _ => True) ?_ ?_
      ·
        refine XC.reg ?_
        refine XL.q (q_move rfl) rfl ?_
        refine XL.q (q_lenV h4 rfl (by kernel_rfl)) rfl ?_
        refine XL.q (q_move rfl) rfl ?_
        refine XL.q (q_bin rfl rfl rfl) rfl ?_
        refine XL.fin (kp 0 rfl (kp 1 rfl (kp 2 rfl (kp 3 rfl (kp 9 rfl (kp 10 rfl (kp 11 rfl (kp 41 rfl kn)))))))) ?_
        refine XC.cond rfl (fun hc => ?_) (fun hc => ?_)
        ·
          have hlt : (expand key info mm).length < (expand key info nn).length := by simp at hc; omega
          refine XC.reg1 ?_
          refine XL.q (q_move rfl) rfl ?_
          refine XL.q (q_lenV h4 rfl (by kernel_rfl)) rfl ?_
          refine XL.q (q_assign rfl) rfl ?_
          refine XL.nil ?_
          exact jn () trivial (kp 0 rfl (kp 1 rfl (kp 2 rfl (kp 3 rfl (kp 9 rfl (kp 10 rfl (kp 11 (by rw [Nat.min_eq_right (by omega)]; rfl) kn))))))) .rfl (fun _ h => h)
        ·
          have hlt : (expand key info nn).length ≤ (expand key info mm).length := by simp at hc; omega
          refine XC.skip ?_
          exact jn () trivial (kp 0 rfl (kp 1 rfl (kp 2 rfl (kp 3 rfl (kp 9 rfl (kp 10 rfl (kp 11 (by rw [Nat.min_eq_left (by omega)]; rfl) kn))))))) .rfl (fun _ h => h)
      ·
        rintro _ _
        refine XC.reg ?_
        refine XL.q (q_move rfl) rfl ?_
        refine XL.q (hmm ▸ q_rem rfl rfl (by decide)) rfl ?_
        refine XL.q (q_assign rfl) rfl ?_
        refine XL.fin (kp 0 rfl (kp 1 rfl (kp 2 rfl (kp 9 rfl (kp 10 rfl (kp 11 rfl (kp 12 rfl kn))))))) ?_
        refine XC.join (α := Unit) (fun _ => [(0, kv), (1, iv), (2, .int .i64 n), (9, r3), (10, r4), (11, .int .i64 ((min (expand key info nn).length (expand key info mm).length : Nat) : Int)), (12, .int .i64 ((mm.toNat : Nat) : Int))]) (fun _ => M4 ++ (M3 ++ [])) (fun _ => []) (fun _ => True) ?_ ?_
        ·
          refine XC.reg ?_
          refine XL.q (q_move rfl) rfl ?_
          refine XL.q (q_bin rfl rfl rfl) rfl ?_
          refine XL.fin (kp 0 rfl (kp 1 rfl (kp 2 rfl (kp 9 rfl (kp 10 rfl (kp 11 rfl (kp 12 rfl (kp 47 rfl kn)))))))) ?_
          refine XC.cond rfl (fun hc => ?_) (fun hc => ?_)
          ·
            have hs : mm < 0 := by simp at hc; omega
            refine XC.reg1 ?_
            refine XL.q (q_assign rfl) rfl ?_
            refine XL.nil ?_
            exact jn () trivial (kp 0 rfl (kp 1 rfl (kp 2 rfl (kp 9 rfl (kp 10 rfl (kp 11 rfl (kp 12 (by rw [show mm.toNat = 0 by omega]; rfl) kn))))))) .rfl (fun _ h => h)
          ·
            have hs : 0 ≤ mm := by simp at hc; omega
            refine XC.skip ?_
            exact jn () trivial (kp 0 rfl (kp 1 rfl (kp 2 rfl (kp 9 rfl (kp 10 rfl (kp 11 rfl (kp 12 (by rw [Int.toNat_of_nonneg hs]; rfl) kn))))))) .rfl (fun _ h => h)
        ·
          rintro _ _
          refine XC.join (α := Unit) (fun _ => [(0, kv), (1, iv), (2, .int .i64 n), (9, r3), (10, r4), (11, .int .i64 ((min (expand key info nn).length (expand key info mm).length : Nat) : Int)), (12, .int .i64 (((expand key info mm).length : Nat) : Int))]) (fun _ => M4 ++ (M3 ++ [])) (fun _ => []) (fun _ => True) ?_ ?_
          ·
            refine XC.reg ?_
            refine XL.q (q_move rfl) rfl ?_
            refine XL.q (q_bin rfl rfl rfl) rfl ?_
            refine XL.fin (kp 0 rfl (kp 1 rfl (kp 2 rfl (kp 9 rfl (kp 10 rfl (kp 11 rfl (kp 12 rfl (kp 49 rfl kn)))))))) ?_
            refine XC.cond rfl (fun hc => ?_) (fun hc => ?_)
            ·
              have hs : 8160 < mm.toNat := by simp at hc; omega
              refine XC.reg1 ?_
              refine XL.q (q_assign rfl) rfl ?_
              refine XL.nil ?_
              exact jn () trivial (kp 0 rfl (kp 1 rfl (kp 2 rfl (kp 9 rfl (kp 10 rfl (kp 11 rfl (kp 12 (by rw [show (expand key info mm).length = 8160 by omega]; rfl) kn))))))) .rfl (fun _ h => h)
            ·
              have hs : mm.toNat ≤ 8160 := by simp at hc; omega
              refine XC.skip ?_
              exact jn () trivial (kp 0 rfl (kp 1 rfl (kp 2 rfl (kp 9 rfl (kp 10 rfl (kp 11 rfl (kp 12 (by rw [show (expand key info mm).length = mm.toNat by omega]; rfl) kn))))))) .rfl (fun _ h => h)
          ·
            rintro _ _
            refine XC.drawF [0, 1, 2, 3, 4, 5, 6, 7, 8, 9, 10, 11, 12, 13, 14, 15, 16, 17, 18, 19, 20, 21, 22, 23, 24, 25, 26] [(0, 0), (1, 1), (2, 0), (3, 0), (4, 0), (5, 0), (6, 2), (7, 1), (8, 0), (9, 0), (10, 0), (11, 0), (12, 0), (13, 1), (14, 0), (15, 0), (16, 0), (17, 1), (18, 0), (19, 0), (20, 0), (21, 0), (22, 0), (23, 0), (24, 0), (25, 0), (26, 0)] (by kernel_rfl) (by kernel_rfl) fun hs => ?_
            refine XF.q hs rfl (q_move rfl) rfl ?_
            refine XF.r hs rfl (q_toStr (h3.mono fun _ h => by simp [h]) rfl (by kernel_rfl)) rfl ?_
            refine XF.q hs rfl (q_move rfl) rfl ?_
            refine XF.q hs rfl (q_move rfl) rfl ?_
            refine XF.q hs rfl (q_move rfl) rfl ?_
            refine XF.q hs rfl (hnn ▸ q_rem rfl rfl (by decide)) rfl ?_
            refine XF.call rfl (aS rfl (aS rfl (aS rfl a0))) (by kernel_rfl) (rexpand_spec _ _ key info nn _ (hkey.mono fun _ h => mA h) hk256 (by omega) (hinfo.mono fun _ h => mA h) hi256 (by omega) (by omega) (by omega)) rfl ?_
            rintro r5 M5 J5 ⟨rfl, h5⟩
            refine XF.r hs rfl (q_toStr (h5.mono fun _ h => by simp [h]) rfl (by kernel_rfl)) rfl ?_
            refine XF.q hs rfl (q_strEqT rfl rfl rfl) rfl ?_
            refine XF.q hs rfl (q_move rfl) rfl ?_
            refine XF.qg hs rfl rfl rfl rfl (q_move rfl) rfl ?_
            refine XF.qg hs rfl rfl rfl rfl (q_move rfl) rfl ?_
            refine XF.qg hs rfl rfl rfl rfl (q_hiV h3 rfl rfl (by kernel_rfl) (min (expand key info nn).length (expand key info mm).length) rfl (by omega)) rfl ?_
            refine XF.rg hs rfl rfl rfl rfl (q_toStr (take_nums _ ▸ (h3.mono fun _ h => by simp [h]).hiV (min (expand key info nn).length (expand key info mm).length) (by omega)) rfl (by kernel_rfl)) rfl ?_
            refine XF.qg hs rfl rfl rfl rfl (q_move rfl) rfl ?_
            refine XF.qg hs rfl rfl rfl rfl (q_move rfl) rfl ?_
            refine XF.qg hs rfl rfl rfl rfl (q_hiV h4 rfl rfl (by kernel_rfl) (min (expand key info nn).length (expand key info mm).length) rfl (by omega)) rfl ?_
            refine XF.rg hs rfl rfl rfl rfl (q_toStr (take_nums _ ▸ (h4.mono fun _ h => by simp [h]).hiV (min (expand key info nn).length (expand key info mm).length) (by omega)) rfl (by kernel_rfl)) rfl ?_
            refine XF.qg hs rfl rfl rfl rfl (q_strEqT rfl rfl (by rw [expand_same key info nn mm _ (by omega) (by omega)])) rfl ?_
            refine XF.q hs rfl (q_pickT rfl rfl) rfl ?_
            refine XF.q hs rfl (q_move rfl) rfl ?_
            refine XF.qg hs rfl rfl rfl rfl (q_move rfl) rfl ?_
            refine XF.qg hs rfl rfl rfl rfl (q_lenV h4 rfl (by kernel_rfl)) rfl ?_
            refine XF.qg hs rfl rfl rfl rfl (q_move rfl) rfl ?_
            refine XF.qg hs rfl rfl rfl rfl (q_cmp true rfl rfl (eqT rfl)) rfl ?_
            refine XF.q hs rfl (q_pickT rfl rfl) rfl ?_
            refine XF.q hs rfl (q_assign rfl) rfl ?_
            refine XF.fin (kp 8 rfl kn) ?_
            refine XC.ret ?_
            exact ⟨_, [], [], res1 rfl rfl, List.nil_sublist _, by simp, rfl, rfl, rfl⟩
