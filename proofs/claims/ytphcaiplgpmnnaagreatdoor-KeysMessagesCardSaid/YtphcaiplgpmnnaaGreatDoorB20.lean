/- The card of the law KeysMessages: it returns true for every input; each argument reads behind the call as it read before; the listed package variables are tied to the program's text. No further condition. -/
import Derived.Test.YtphcaiplgpmnnaaGreatDoorB19
import Derived.Lib.LaidTab
import Derived.Stop.LaidErr
import Derived.MakeChecks
import Derived.Test.YtphcaiplgpmnnaaGreatDoorCards
import Derived.Test.YtphcaiplgpmnnaaGreatDoorTie
import Derived.Deep.DeepHandedRow
import Derived.Deep.DeepWitnessRowRef
import Derived.Lay
import Derived.LaidMore
set_option linter.unusedVariables false
set_option linter.unusedSimpArgs false
set_option linter.unusedVariables false
set_option linter.unusedSimpArgs false
namespace Go.Proofs.YtphcaiplgpmnnaaGreatDoor
open Go.Px
/-- A number laid behind some bytes; bytes behind their length. -/
def rNum (p : List Nat) (n k : Nat) : List Nat := p ++ beN n k
def rByt (p q : List Nat) : List Nat := p ++ beN q.length 4 ++ q
theorem lt_num {p : List Nat} (hp : ∀ x ∈ p, x < 256) (n k : Nat) : ∀ x ∈ rNum p n k, x < 256 := lt_app hp (beN_lt n k)
theorem lt_byt {p q : List Nat} (hp : ∀ x ∈ p, x < 256) (hq : ∀ x ∈ q, x < 256) : ∀ x ∈ rByt p q, x < 256 := lt_app (lt_app hp (beN_lt _ _)) hq
theorem sl_byj {v : Value} {w : List Nat} {B : Mem} (h : Sl 1 v w.length (nums .u8 w) B) (hw : ∀ x ∈ w, x < 256) (hl : w.length ≤ 16777216) : By B v w := ⟨h.rd fun _ h => h, hw, hl⟩

set_option maxRecDepth 100000 in
theorem r9num_f (v : Value) (w : List Nat) (n k : Nat) (A : Mem) (hv : By A v w) (hn : n < 18446744073709551616) (hk : k ≤ 8) : FnX Tryz.prog 15 [v, .int .u64 ((n : Nat) : Int), .int .i64 ((k : Nat) : Int)] [] A fun q M J => J = [] ∧ Sl 1 q (rNum w n k).length (nums .u8 (rNum w n k)) M := by
  haveI := hv.cel
  have hvl := hv.len
  refine FnX.enterZ (N := 27) Tryz.func15 rfl rfl rfl fun w_ => ?_
  refine XC.keep (kp 0 rfl (kp 1 rfl (kp 2 rfl kn))) ?_
  refine XC.reg ?_
  refine XL.q (q_assign rfl) rfl ?_
  refine XL.fin (kp 0 rfl (kp 1 rfl (kp 2 rfl kn))) ?_
  refine XC.reg ?_
  refine XL.q (q_assign rfl) rfl ?_
  refine XL.fin (kp 0 rfl (kp 1 rfl (kp 2 rfl (kp 7 rfl kn)))) ?_
  refine XC.reg ?_
  refine XL.q (q_move rfl) rfl ?_
  refine XL.q (q_move rfl) rfl ?_
  refine XL.lo rfl (l_append2 (e := 5) (sz := 1) (by_ := 1) rfl rfl (by kernel_rfl) rfl Sl.nil (hv.rd.mono SubC.sub) nums_one PickC.perm (by unfold maxLen; omega) (by omega) rfl fun v11 B11 hs11 => ?_)
  haveI := hs11.cel
  refine XL.q (q_assign rfl) rfl ?_
  refine XL.fin (kp 1 rfl (kp 2 rfl (kp 7 rfl kn))) ?_
  refine XC.seq ?_
  refine XC.reg ?_
  refine XL.q (q_move rfl) rfl ?_
  refine XL.q (q_num ((k : Int) - 1) rfl rfl (sub64 rfl (by omega) (by omega))) rfl ?_
  refine XL.q (q_assign rfl) rfl ?_
  refine XL.fin (kp 1 rfl (kp 7 rfl (kp 8 rfl kn))) ?_
  refine XC.block ?_
  refine XC.loop (α := Nat × Value × Mem) (fun x => [(1, .int .u64 ((n : Nat) : Int)), (7, x.2.1), (8, .int .i64 ((k : Int) - 1 - (x.1 : Int)))]) (fun x => x.2.2) (fun _ => []) (fun x => x.1 ≤ k ∧ Sl 1 x.2.1 (w ++ bes n k x.1).length (nums .u8 (w ++ bes n k x.1)) x.2.2) (fun x => k - x.1) ⟨0, v11, B11⟩ ⟨Nat.zero_le _, by simpa [bes] using hs11⟩ (kp 1 rfl (kp 7 rfl (kp 8 (by simp; rfl) kn))) (Fit.last PickC.perm) (fun _ h => by cases h) ?_
  rintro ⟨x, v7, B7⟩ ⟨hx, hsl⟩
  dsimp only at hx hsl ⊢
  haveI := hsl.cel
  have hbl := bes_len n k x
  have hll : (w ++ bes n k x).length = w.length + x := by rw [List.length_append, hbl]
  refine XC.seq ?_
  refine XC.reg ?_
  refine XL.q (q_move rfl) rfl ?_
  refine XL.q (q_bin rfl rfl rfl) rfl ?_
  refine XL.fin (kp 1 rfl (kp 7 rfl (kp 8 rfl (kp 15 rfl kn)))) ?_
  refine XC.cond rfl (fun hc => ?_) (fun hc => ?_)
  ·
    have hltx : x < k := by simp at hc; omega
    obtain ⟨m, hm, hm2⟩ : ∃ m : Nat, ((k : Int) - 1 - (x : Int)) = (m : Int) ∧ m = k - 1 - x := ⟨k - 1 - x, by omega, rfl⟩
    rw [hm]
    refine XC.skip ?_
    refine nx (kp 1 rfl (kp 7 rfl (kp 8 rfl kn))) ?_
    refine XC.seq ?_
    refine XC.block ?_
    refine XC.reg1 ?_
    refine XL.q (q_move rfl) rfl ?_
    refine XL.q (q_move rfl) rfl ?_
    refine XL.q (q_move rfl) rfl ?_
    refine XL.q (q_num ((8 * m : Nat) : Int) rfl rfl (mul64 (by omega) (by omega) (by omega))) rfl ?_
    refine XL.q (q_shrI (a := n) (b := 8 * m) rfl rfl rfl rfl (by show _ ≤ 64; omega)) rfl ?_
    refine XL.q (q_to8 rfl (by kernel_rfl)) rfl ?_
    refine XL.lo rfl (l_buildSlice (e := 5) (sz := 1) (z := [.int .u8 0]) (by kernel_rfl) (eS rfl e0) (bdS 0 1 rfl (by rfl) bd0) rfl fun b24 => ?_)
    refine XL.lo rfl (l_append2 (e := 5) (sz := 1) (by_ := 1) rfl rfl (by kernel_rfl) rfl (by first | assumption | exact Sl.nil) (Rd.whole (n := 1) At.mem (by rfl)) (by first | (simp [Value.oneCell']; done) | (intro c hc; simp only [List.mem_singleton] at hc; subst hc; first | exact Rd.one (by assumption) | exact Sl.one (by assumption))) PickC.perm (by unfold maxLen; omega) (by omega) rfl fun v25 B25 hs25 => ?_)
    refine XL.q (q_assign rfl) rfl ?_
    refine XL.nil ?_
    refine nb ?_
    refine nx (kp 1 rfl (kp 7 rfl (kp 8 rfl kn))) ?_
    refine XC.reg1 ?_
    refine XL.q (q_move rfl) rfl ?_
    refine XL.q (q_num ((m : Int) - 1) rfl rfl (sub64 rfl (by omega) (by omega))) rfl ?_
    refine XL.q (q_assign rfl) rfl ?_
    refine XL.nil ?_
    exact rn ⟨x + 1, v25, B25⟩ ⟨by dsimp only; omega, by dsimp only; rw [bes_succ, ← List.append_assoc, ← hm2]; exact sl_eq hs25 (by simp only [List.length_append, List.length_singleton]) (by simp [nums])⟩ (by dsimp only; omega) (kp 1 rfl (kp 7 rfl (kp 8 (by dsimp only; rw [show ((k : Int) - 1 - ((x + 1 : Nat) : Int)) = (m : Int) - 1 by omega]; rfl) kn))) (Fit.last PickC.perm) (fun _ h => by first | exact h | cases h)
  ·
    have hge : x = k := by simp at hc; omega
    subst hge
    refine XC.exit ?_
    refine te ?_
    refine re ?_
    refine be rfl ?_
    refine nx (kp 7 rfl kn) ?_
    refine XC.reg ?_
    refine XL.q (q_move rfl) rfl ?_
    refine XL.q (q_assign rfl) rfl ?_
    refine XL.fin (kp 6 rfl kn) ?_
    refine XC.ret ?_
    exact ⟨_, B7, [], res1 rfl rfl, Fit.none (Fit.last PickC.perm), rfl, hsl⟩

set_option maxRecDepth 100000 in
theorem r9bytes_f (v q : Value) (w u : List Nat) (A : Mem) (hv : By A v w) (hq : By A q u) : FnX Tryz.prog 14 [v, q] [] A fun r M J => J = [] ∧ Sl 1 r (rByt w u).length (nums .u8 (rByt w u)) M := by
  haveI := hv.cel
  haveI := hq.cel
  have hvl := hv.len
  have hql := hq.len
  refine FnX.enterZ (N := 12) Tryz.func14 rfl rfl rfl fun w_ => ?_
  refine XC.keep (kp 0 rfl (kp 1 rfl kn)) ?_
  refine XC.reg ?_
  refine XL.q (q_assign rfl) rfl ?_
  refine XL.fin (kp 0 rfl (kp 1 rfl kn)) ?_
  refine XC.reg ?_
  refine XL.q (q_move rfl) rfl ?_
  refine XL.q (q_move rfl) rfl ?_
  refine XL.q (q_lenV2 (sz := 1) rfl (by kernel_rfl) hq.rd) rfl ?_
  refine XL.q (q_to64 rfl (by kernel_rfl)) rfl ?_
  rw [Nat.mod_eq_of_lt (show u.length < 18446744073709551616 by omega)]
  refine XL.call (aS rfl (aS rfl (aS rfl a0))) (by kernel_rfl) (r9num_f v w u.length 4 _ (hv.mono SubC.sub) (by omega) (by decide)) rfl ?_
  rintro v9 M9 J9 ⟨rfl, hs9⟩
  haveI := hs9.cel
  have hl9 : (rNum w u.length 4).length = w.length + 4 := by unfold rNum; rw [List.length_append, beN_len]
  refine XL.q (q_move rfl) rfl ?_
  refine XL.lo rfl (l_append2 (e := 5) (sz := 1) (by_ := 1) rfl rfl (by kernel_rfl) rfl hs9 (hq.rd.mono SubC.sub) nums_one PickC.perm (by unfold maxLen; omega) (by omega) rfl fun v11 B11 hs11 => ?_)
  haveI := hs11.cel
  refine XL.q (q_assign rfl) rfl ?_
  refine XL.fin (kp 4 rfl kn) ?_
  refine XC.ret ?_
  exact ⟨_, B11, [], res1 rfl rfl, Fit.none (Fit.last PickC.perm), rfl, sl_eq hs11 (by unfold rByt rNum; simp only [List.length_append]) (by unfold rByt rNum; simp [nums])⟩

/-- The same, frozen. -/
theorem r9num_j (v : Value) (w : List Nat) (n k : Nat) (A : Mem) (hv : By A v w) (hn : n < 18446744073709551616) (hk : k ≤ 8) (hl : w.length ≤ 1000000) : FnX Tryz.prog 15 [v, .int .u64 ((n : Nat) : Int), .int .i64 ((k : Nat) : Int)] [] A fun r M J => M = [] ∧ By J r (rNum w n k) :=
  ((r9num_f v w n k A hv hn hk).frz0).mono fun r M J ⟨h1, h2⟩ => ⟨h1, sl_byj h2 (lt_num hv.lt n k) (by unfold rNum; rw [List.length_append, beN_len]; omega)⟩
theorem r9bytes_j (v q : Value) (w u : List Nat) (A : Mem) (hv : By A v w) (hq : By A q u) (hl : w.length ≤ 1000000) (hlu : u.length ≤ 1000000) : FnX Tryz.prog 14 [v, q] [] A fun r M J => M = [] ∧ By J r (rByt w u) :=
  ((r9bytes_f v q w u A hv hq).frz0).mono fun r M J ⟨h1, h2⟩ => ⟨h1, sl_byj h2 (lt_byt hv.lt hq.lt) (by unfold rByt; rw [List.length_append, List.length_append, beN_len]; omega)⟩

end Go.Proofs.YtphcaiplgpmnnaaGreatDoor
/- The walk of KeysMessages. -/
set_option linter.unusedVariables false
set_option linter.unusedSimpArgs false
namespace Go.Proofs.YtphcaiplgpmnnaaGreatDoor
open Go.Px
theorem msg_ref (n : Nat) (w : List Nat) : rByt (rNum (rByt [] [112, 114, 101, 107, 101, 121]) n 4) w = msgN n w := by
  unfold rByt rNum msgN
  simp [List.append_assoc]

set_option maxRecDepth 100000 in
theorem keysMessages_f (n : Nat) (v : Value) (w : List Nat) (A : Mem) (hnn : n < 4294967296) (hv0 : Byi A v w) (hG : Glb A) : FnV Tryz.prog 3 [.int .u32 ((n : Nat) : Int), v] A (.bool true) := by
  haveI := hv0.cel
  have hvl := hv0.len
  unfold maxLen at hvl
  refine FnX.enter (N := 27) Tryz.func3 rfl rfl rfl fun w_ => ?_
  refine XC.keep (kp 0 rfl (kp 1 rfl kn)) ?_
  refine XC.reg ?_
  refine XL.q (q_assign rfl) rfl ?_
  refine XL.fin (kp 0 rfl (kp 1 rfl kn)) ?_
  refine XC.seq ?_
  refine XC.reg ?_
  refine XL.callV a0 (by kernel_rfl) (awake12_f _ hG.up) rfl ?_
  refine XL.q (q_not rfl) rfl ?_
  refine XL.q (q_move rfl) rfl ?_
  refine XL.gy rfl rfl (OpQ.opL (q_move rfl) rfl ?_)
  refine XL.gy rfl rfl (OpQ.opL (q_lenV2 (sz := 1) rfl (by kernel_rfl) hv0.rd) rfl ?_)
  refine XL.gy rfl rfl (OpQ.opL (q_bin rfl rfl rfl) rfl ?_)
  refine XL.q (q_pickF rfl rfl) rfl ?_
  refine XL.fin (kp 0 rfl (kp 1 rfl (kp 11 rfl kn))) ?_
  refine XC.cond rfl (fun hc => ?_) (fun hc => ?_)
  ·
    have hlen : 200 < w.length := by simp at hc; omega
    refine XC.reg ?_
    refine XL.callV a0 (by kernel_rfl) (awake12_f _ hG.up) rfl ?_
    refine XL.q (q_assign rfl) rfl ?_
    refine XL.fin (kp 4 rfl kn) ?_
    refine XC.ret ?_
    refine tr ?_
    exact ⟨_, [], [], res1 rfl rfl, List.nil_sublist _, by simp, rfl, rfl, rfl⟩
  ·
    have hlen : ¬ 200 < w.length := by simp at hc; omega
    have hv := hv0.by (by omega)
    refine XC.skip ?_
    refine nx (kp 0 rfl (kp 1 rfl kn)) ?_
    refine XC.drawK ([]) (_) true [0, 1, 2, 3, 4, 5, 6, 7, 8, 9, 10, 11, 12, 13, 14] [(0, 0), (1, 0), (7, 0), (8, 0), (10, 0), (2, 3), (3, 3), (4, 3), (5, 3), (6, 3), (9, 3), (11, 3), (12, 3), (13, 4), (14, 0)] (by kernel_rfl) (by kernel_rfl) PickC.perm fun hs K n0 hKm hKs hKn => ?_
    refine XK.q hs rfl (q_move rfl) rfl ?_
    refine XK.q hs rfl (q_move rfl) rfl ?_
    refine XK.q hs rfl (q_move rfl) rfl ?_
    refine XK.q hs rfl (q_same (k' := .u64) rfl (by kernel_rfl) (by show _ < 9223372036854775808; omega)) rfl ?_
    refine XK.q hs rfl (q_move rfl) rfl ?_
    refine XK.groupC [⟨2, 15, none, [], fun v B R => B = [] ∧ By R v (msgN n w)⟩, ⟨3, 16, none, [], fun v B _ => B = [] ∧ v = (.string (txt (msgN n w)))⟩, ⟨4, 17, none, [], fun v B _ => ∃ b, v = .slice (some ⟨b, 0, none⟩) 6 6 ∧ B = [(b, blk (nums .u8 [112, 114, 101, 107, 101, 121]) 5)]⟩, ⟨5, 18, some 4, [], fun v B _ => By B v [112, 114, 101, 107, 101, 121]⟩, ⟨6, 19, some 5, [], fun v B R => By R v (rByt [] [112, 114, 101, 107, 101, 121])⟩, ⟨9, 22, none, [], fun v B R => B = [] ∧ By R v (rNum (rByt [] [112, 114, 101, 107, 101, 121]) n 4)⟩, ⟨11, 24, none, [], fun v B R => B = [] ∧ By R v (rByt (rNum (rByt [] [112, 114, 101, 107, 101, 121]) n 4) w)⟩, ⟨12, 25, none, [], fun v B _ => B = [] ∧ v = (.string (txt (msgN n w)))⟩, ⟨13, 26, none, [], fun v B _ => B = [] ∧ v = (.bool true)⟩] (_) (fun bs => [bs 2, bs 3, bs 6, bs 9, bs 11, bs 12, bs 13]) (hKn rfl) (List.Perm.refl _) (show ∀ m ∈ ([[], [], [], [], [], [], []] : List Mem), ∀ x ∈ m, K x.1 from allS (fun _ h => by cases h) (allS (fun _ h => by cases h) (allS (fun _ h => by cases h) (allS (fun _ h => by cases h) (allS (fun _ h => by cases h) (allS (fun _ h => by cases h) (allS (fun _ h => by cases h) (all0)))))))) (by kernel_rfl) (fun _ => by first | rfl | kernel_rfl)
      (allS (fun _ _ _ _ hR h => ⟨h.1, h.2.mono hR⟩) (allS (fun _ _ _ _ _ h => h) (allS (fun _ _ _ _ _ h => h) (allS (fun _ _ _ _ _ h => h) (allS (fun _ _ _ _ hR h => h.mono hR) (allS (fun _ _ _ _ hR h => ⟨h.1, h.2.mono hR⟩) (allS (fun _ _ _ _ hR h => ⟨h.1, h.2.mono hR⟩) (allS (fun _ _ _ _ _ h => h) (allS (fun _ _ _ _ _ h => h) (all0)))))))))) (show List.Nodup [15, 16, 17, 18, 19, 22, 24, 25, 26] by decide) (show List.Nodup [2, 3, 4, 5, 6, 9, 11, 12, 13] by decide) (allS (blt_lt rfl) (allS (blt_lt rfl) (allS (blt_lt rfl) (allS (blt_lt rfl) (allS (blt_lt rfl) (allS (blt_lt rfl) (allS (blt_lt rfl) (allS (blt_lt rfl) (allS (blt_lt rfl) (all0))))))))))
      (allS ⟨_, rfl, fun vs bs R Rj wG hb hj hjr ha => ⟨.inl rfl, ?_⟩⟩ (allS ⟨_, rfl, fun vs bs R Rj wG hb hj hjr ha => ⟨.inl rfl, ?_⟩⟩ (allS ⟨_, rfl, fun vs bs R Rj wG hb hj hjr ha => ⟨.inl rfl, ?_⟩⟩ (allS ⟨_, rfl, fun vs bs R Rj wG hb hj hjr ha => ⟨.inl rfl, ?_⟩⟩ (allS ⟨_, rfl, fun vs bs R Rj wG hb hj hjr ha => ⟨.inl rfl, ?_⟩⟩ (allS ⟨_, rfl, fun vs bs R Rj wG hb hj hjr ha => ⟨.inl rfl, ?_⟩⟩ (allS ⟨_, rfl, fun vs bs R Rj wG hb hj hjr ha => ⟨.inl rfl, ?_⟩⟩ (allS ⟨_, rfl, fun vs bs R Rj wG hb hj hjr ha => ⟨.inl rfl, ?_⟩⟩ (allS ⟨_, rfl, fun vs bs R Rj wG hb hj hjr ha => ⟨.inl rfl, ?_⟩⟩ (all0)))))))))) ?_
    ·
      dsimp only [Gc.inp]
      refine l_call0 (aS rfl (aS rfl (a0))) (by kernel_rfl) (message_f n v w _ hnn (hv.mono (fun x hx => by have := hb x (by simp [hx]); simp [this])) (by omega)) rfl ?_
      rintro r M1 J1 ⟨rfl, hh⟩
      exact ⟨_, rfl, rfl, hh.mono fun x hx => by simp [hx]⟩
    ·
      dsimp only [Gc.inp]
      have g2 := ha _ (List.mem_of_getElem? (i := 0) rfl) (by kernel_rfl)
      replace g2 : (fun v B R => B = [] ∧ By R v (msgN n w)) (vs 2) (bs 2) Rj := g2
      dsimp only at g2
      obtain ⟨-, h2⟩ := g2
      exact OpQ.opL (q_toStr2 rfl (by kernel_rfl) (h2.rd.mono (fun x hx => by have := hjr x hx; simp [this]))) rfl ⟨_, rfl, rfl, rfl⟩
    ·
      dsimp only [Gc.inp]
      exact l_buildSlice (e := 5) (sz := 1) (z := [.int .u8 0, .int .u8 0, .int .u8 0, .int .u8 0, .int .u8 0, .int .u8 0]) (by kernel_rfl) (eS rfl (eS rfl (eS rfl (eS rfl (eS rfl (eS rfl e0)))))) (bdS 0 1 rfl (by rfl) (bdS 1 1 rfl (by rfl) (bdS 2 1 rfl (by rfl) (bdS 3 1 rfl (by rfl) (bdS 4 1 rfl (by rfl) (bdS 5 1 rfl (by rfl) bd0)))))) rfl fun b => ⟨_, rfl, b, rfl, rfl⟩
    ·
      dsimp only [Gc.inp]
      have g4 := ha _ (List.mem_of_getElem? (i := 2) rfl) (by kernel_rfl)
      replace g4 : (fun v B _ => ∃ b, v = .slice (some ⟨b, 0, none⟩) 6 6 ∧ B = [(b, blk (nums .u8 [112, 114, 101, 107, 101, 121]) 5)]) (vs 4) (bs 4) Rj := g4
      dsimp only at g4
      obtain ⟨b, e, eB⟩ := g4
      dsimp only [gEnvC, List.map, List.cons_append, List.nil_append]
      rw [e, eB]
      exact l_mark rfl (by kernel_rfl) UpC.upd rfl ⟨_, rfl, ⟨Rd.whole (n := 6) (List.mem_singleton.2 rfl) (by rfl), by decide, by decide⟩⟩
    ·
      dsimp only [Gc.inp]
      have g2 := ha _ (List.mem_of_getElem? (i := 0) rfl) (by kernel_rfl)
      replace g2 : (fun v B R => B = [] ∧ By R v (msgN n w)) (vs 2) (bs 2) Rj := g2
      dsimp only at g2
      have g4 := ha _ (List.mem_of_getElem? (i := 2) rfl) (by kernel_rfl)
      replace g4 : (fun v B _ => ∃ b, v = .slice (some ⟨b, 0, none⟩) 6 6 ∧ B = [(b, blk (nums .u8 [112, 114, 101, 107, 101, 121]) 5)]) (vs 4) (bs 4) Rj := g4
      dsimp only at g4
      have g5 := ha _ (List.mem_of_getElem? (i := 3) rfl) (by kernel_rfl)
      replace g5 : (fun v B _ => By B v [112, 114, 101, 107, 101, 121]) (vs 5) (bs 5) Rj := g5
      dsimp only at g5
      refine l_call (Mc := []) (R := bs 5) (aS rfl (aS rfl (a0))) (by kernel_rfl) (by simp) (r9bytes_j _ _ [] [112, 114, 101, 107, 101, 121] _ By.nil (g5.mono fun x hx => by simp [hx]) (by decide) (by decide)) rfl ?_
      rintro r M1 J1 ⟨rfl, hh⟩
      exact ⟨_, rfl, hh.mono fun x hx => by simp [hx]⟩
    ·
      dsimp only [Gc.inp]
      have g2 := ha _ (List.mem_of_getElem? (i := 0) rfl) (by kernel_rfl)
      replace g2 : (fun v B R => B = [] ∧ By R v (msgN n w)) (vs 2) (bs 2) Rj := g2
      dsimp only at g2
      have g4 := ha _ (List.mem_of_getElem? (i := 2) rfl) (by kernel_rfl)
      replace g4 : (fun v B _ => ∃ b, v = .slice (some ⟨b, 0, none⟩) 6 6 ∧ B = [(b, blk (nums .u8 [112, 114, 101, 107, 101, 121]) 5)]) (vs 4) (bs 4) Rj := g4
      dsimp only at g4
      have g5 := ha _ (List.mem_of_getElem? (i := 3) rfl) (by kernel_rfl)
      replace g5 : (fun v B _ => By B v [112, 114, 101, 107, 101, 121]) (vs 5) (bs 5) Rj := g5
      dsimp only at g5
      have g6 := ha _ (List.mem_of_getElem? (i := 4) rfl) (by kernel_rfl)
      replace g6 : (fun v B R => By R v (rByt [] [112, 114, 101, 107, 101, 121])) (vs 6) (bs 6) Rj := g6
      dsimp only at g6
      refine l_call0 (aS rfl (aS rfl (aS rfl (a0)))) (by kernel_rfl) (r9num_j _ _ n 4 _ (g6.mono (fun x hx => by have := hjr x hx; simp [this])) (by omega) (by decide) (by decide)) rfl ?_
      rintro r M1 J1 ⟨rfl, hh⟩
      exact ⟨_, rfl, rfl, hh.mono fun x hx => by simp [hx]⟩
    ·
      dsimp only [Gc.inp]
      have g2 := ha _ (List.mem_of_getElem? (i := 0) rfl) (by kernel_rfl)
      replace g2 : (fun v B R => B = [] ∧ By R v (msgN n w)) (vs 2) (bs 2) Rj := g2
      dsimp only at g2
      have g4 := ha _ (List.mem_of_getElem? (i := 2) rfl) (by kernel_rfl)
      replace g4 : (fun v B _ => ∃ b, v = .slice (some ⟨b, 0, none⟩) 6 6 ∧ B = [(b, blk (nums .u8 [112, 114, 101, 107, 101, 121]) 5)]) (vs 4) (bs 4) Rj := g4
      dsimp only at g4
      have g5 := ha _ (List.mem_of_getElem? (i := 3) rfl) (by kernel_rfl)
      replace g5 : (fun v B _ => By B v [112, 114, 101, 107, 101, 121]) (vs 5) (bs 5) Rj := g5
      dsimp only at g5
      have g6 := ha _ (List.mem_of_getElem? (i := 4) rfl) (by kernel_rfl)
      replace g6 : (fun v B R => By R v (rByt [] [112, 114, 101, 107, 101, 121])) (vs 6) (bs 6) Rj := g6
      dsimp only at g6
      have g9 := ha _ (List.mem_of_getElem? (i := 5) rfl) (by kernel_rfl)
      replace g9 : (fun v B R => B = [] ∧ By R v (rNum (rByt [] [112, 114, 101, 107, 101, 121]) n 4)) (vs 9) (bs 9) Rj := g9
      dsimp only at g9
      refine l_call0 (aS rfl (aS rfl (a0))) (by kernel_rfl) (r9bytes_j _ _ _ w _ (g9.2.mono (fun x hx => by have := hjr x hx; simp [this])) (hv.mono (fun x hx => by have := hb x (by simp [hx]); simp [this])) (by unfold rNum; rw [List.length_append, beN_len]; exact (by decide : 10 + 4 ≤ 1000000)) (by omega)) rfl ?_
      rintro r M1 J1 ⟨rfl, hh⟩
      exact ⟨_, rfl, rfl, hh.mono fun x hx => by simp [hx]⟩
    ·
      dsimp only [Gc.inp]
      have g2 := ha _ (List.mem_of_getElem? (i := 0) rfl) (by kernel_rfl)
      replace g2 : (fun v B R => B = [] ∧ By R v (msgN n w)) (vs 2) (bs 2) Rj := g2
      dsimp only at g2
      have g4 := ha _ (List.mem_of_getElem? (i := 2) rfl) (by kernel_rfl)
      replace g4 : (fun v B _ => ∃ b, v = .slice (some ⟨b, 0, none⟩) 6 6 ∧ B = [(b, blk (nums .u8 [112, 114, 101, 107, 101, 121]) 5)]) (vs 4) (bs 4) Rj := g4
      dsimp only at g4
      have g5 := ha _ (List.mem_of_getElem? (i := 3) rfl) (by kernel_rfl)
      replace g5 : (fun v B _ => By B v [112, 114, 101, 107, 101, 121]) (vs 5) (bs 5) Rj := g5
      dsimp only at g5
      have g6 := ha _ (List.mem_of_getElem? (i := 4) rfl) (by kernel_rfl)
      replace g6 : (fun v B R => By R v (rByt [] [112, 114, 101, 107, 101, 121])) (vs 6) (bs 6) Rj := g6
      dsimp only at g6
      have g9 := ha _ (List.mem_of_getElem? (i := 5) rfl) (by kernel_rfl)
      replace g9 : (fun v B R => B = [] ∧ By R v (rNum (rByt [] [112, 114, 101, 107, 101, 121]) n 4)) (vs 9) (bs 9) Rj := g9
      dsimp only at g9
      have g11 := ha _ (List.mem_of_getElem? (i := 6) rfl) (by kernel_rfl)
      replace g11 : (fun v B R => B = [] ∧ By R v (rByt (rNum (rByt [] [112, 114, 101, 107, 101, 121]) n 4) w)) (vs 11) (bs 11) Rj := g11
      dsimp only at g11
      obtain ⟨-, h11⟩ := g11
      rw [msg_ref] at h11
      exact OpQ.opL (q_toStr2 rfl (by kernel_rfl) (h11.rd.mono (fun x hx => by have := hjr x hx; simp [this]))) rfl ⟨_, rfl, rfl, rfl⟩
    ·
      dsimp only [Gc.inp]
      have g2 := ha _ (List.mem_of_getElem? (i := 0) rfl) (by kernel_rfl)
      replace g2 : (fun v B R => B = [] ∧ By R v (msgN n w)) (vs 2) (bs 2) Rj := g2
      dsimp only at g2
      have g3 := ha _ (List.mem_of_getElem? (i := 1) rfl) (by kernel_rfl)
      replace g3 : (fun v B _ => B = [] ∧ v = (.string (txt (msgN n w)))) (vs 3) (bs 3) Rj := g3
      dsimp only at g3
      have g4 := ha _ (List.mem_of_getElem? (i := 2) rfl) (by kernel_rfl)
      replace g4 : (fun v B _ => ∃ b, v = .slice (some ⟨b, 0, none⟩) 6 6 ∧ B = [(b, blk (nums .u8 [112, 114, 101, 107, 101, 121]) 5)]) (vs 4) (bs 4) Rj := g4
      dsimp only at g4
      have g5 := ha _ (List.mem_of_getElem? (i := 3) rfl) (by kernel_rfl)
      replace g5 : (fun v B _ => By B v [112, 114, 101, 107, 101, 121]) (vs 5) (bs 5) Rj := g5
      dsimp only at g5
      have g6 := ha _ (List.mem_of_getElem? (i := 4) rfl) (by kernel_rfl)
      replace g6 : (fun v B R => By R v (rByt [] [112, 114, 101, 107, 101, 121])) (vs 6) (bs 6) Rj := g6
      dsimp only at g6
      have g9 := ha _ (List.mem_of_getElem? (i := 5) rfl) (by kernel_rfl)
      replace g9 : (fun v B R => B = [] ∧ By R v (rNum (rByt [] [112, 114, 101, 107, 101, 121]) n 4)) (vs 9) (bs 9) Rj := g9
      dsimp only at g9
      have g11 := ha _ (List.mem_of_getElem? (i := 6) rfl) (by kernel_rfl)
      replace g11 : (fun v B R => B = [] ∧ By R v (rByt (rNum (rByt [] [112, 114, 101, 107, 101, 121]) n 4) w)) (vs 11) (bs 11) Rj := g11
      dsimp only at g11
      have g12 := ha _ (List.mem_of_getElem? (i := 7) rfl) (by kernel_rfl)
      replace g12 : (fun v B _ => B = [] ∧ v = (.string (txt (msgN n w)))) (vs 12) (bs 12) Rj := g12
      dsimp only at g12
      obtain ⟨-, e3⟩ := g3
      obtain ⟨-, e12⟩ := g12
      dsimp only [gEnvC, List.map, List.cons_append, List.nil_append]
      rw [e3, e12]
      exact OpQ.opL (q_strEqT rfl rfl rfl) rfl ⟨_, rfl, rfl, rfl⟩
    intro vs bs Jn0 hφ hKK
    have kk2 := hKK _ (List.mem_of_getElem? (i := 0) rfl)
    dsimp only at kk2
    have kk3 := hKK _ (List.mem_of_getElem? (i := 1) rfl)
    dsimp only at kk3
    have kk4 := hKK _ (List.mem_of_getElem? (i := 2) rfl)
    dsimp only at kk4
    have kk5 := hKK _ (List.mem_of_getElem? (i := 3) rfl)
    dsimp only at kk5
    have kk6 := hKK _ (List.mem_of_getElem? (i := 4) rfl)
    dsimp only at kk6
    have kk9 := hKK _ (List.mem_of_getElem? (i := 5) rfl)
    dsimp only at kk9
    have kk11 := hKK _ (List.mem_of_getElem? (i := 6) rfl)
    dsimp only at kk11
    have kk12 := hKK _ (List.mem_of_getElem? (i := 7) rfl)
    dsimp only at kk12
    have kk13 := hKK _ (List.mem_of_getElem? (i := 8) rfl)
    dsimp only at kk13
    clear hKK
    have g2 := ofH hφ
    dsimp only at g2
    replace hφ := ofT hφ
    have g3 := ofH hφ
    dsimp only at g3
    replace hφ := ofT hφ
    have g4 := ofH hφ
    dsimp only at g4
    replace hφ := ofT hφ
    have g5 := ofH hφ
    dsimp only at g5
    replace hφ := ofT hφ
    have g6 := ofH hφ
    dsimp only at g6
    replace hφ := ofT hφ
    have g9 := ofH hφ
    dsimp only at g9
    replace hφ := ofT hφ
    have g11 := ofH hφ
    dsimp only at g11
    replace hφ := ofT hφ
    have g12 := ofH hφ
    dsimp only at g12
    replace hφ := ofT hφ
    have g13 := ofH hφ
    dsimp only at g13
    clear hφ
    dsimp only [gEnvC, joinC, List.foldr, List.map, List.cons_append, List.nil_append]
    generalize bs 2 = B15 at *
    generalize bs 3 = B16 at *
    generalize bs 4 = B17 at *
    generalize bs 5 = B18 at *
    generalize bs 6 = B19 at *
    generalize bs 9 = B22 at *
    generalize bs 11 = B24 at *
    generalize bs 12 = B25 at *
    generalize bs 13 = B26 at *
    generalize vs 2 = u15 at *
    generalize vs 3 = u16 at *
    generalize vs 4 = u17 at *
    generalize vs 5 = u18 at *
    generalize vs 6 = u19 at *
    generalize vs 9 = u22 at *
    generalize vs 11 = u24 at *
    generalize vs 12 = u25 at *
    generalize vs 13 = u26 at *
    obtain ⟨rfl, rfl⟩ := g13
    refine XK.q hs rfl (q_assign rfl) rfl ?_
    refine XK.fin (kp 4 rfl kn) ?_
    refine XC.ret ?_
    exact ⟨_, [], [], res1 rfl rfl, List.nil_sublist _, by simp, rfl, rfl, rfl⟩

end Go.Proofs.YtphcaiplgpmnnaaGreatDoor
/- Terms that came in; what the rows' lists give. -/
set_option linter.unusedVariables false
set_option linter.unusedSimpArgs false
namespace Go.Proofs.YtphcaiplgpmnnaaGreatDoor
open Go.Px Go.ChangeShapes Go.WideShapes Go.ChangeAt Go.RowKit
section
variable {H : Type} {enc : TypeId × Value → H} {P : Program} {w : World} {spare : Nat → Bool} {held : Bool} {fuel : Nat} {t e : TypeId} {cs : List Value} {x : DataW H × List MemPlace} {v : Value} {d : DataW H} {p : List MemPlace} {r : Reach} {base : Nat} {k : IntKind}
end
theorem var_heap {P : Program} {W : World} {name : String} {g : Nat} {cs : Array Value} (hg : P.globalNamed name = some g) (h : W.var? P name = some cs) : ∃ e fr, W.heap[g]? = some (.cells cs e fr) := by
  unfold World.var? at h
  rw [hg] at h
  simp only [Option.bind_some] at h
  split at h
  · rename_i c e fr hh
    cases h
    exact ⟨e, fr, hh⟩
  · cases h
def zints (ws : List Nat) : List Int := ws.map fun n : Nat => (n : Int)
theorem zints_nums (k : IntKind) (ws : List Nat) : ((zints ws).map fun z => Value.int k z).toArray = (nums k ws).toArray := by simp [zints, nums]
set_option maxRecDepth 100000 in
theorem pow_tab {W : World} {a b : String × DataW Unit} {rest : List (String × DataW Unit)} (h : laidMet Tryz.prog (a :: b :: ("internal/strconv.uint64pow10", Rows.laid_internal_strconv_uint64pow10) :: rest) W) : ∃ e fr, W.heap[2]? = some (Obj.cells (nums .u64 pow10T).toArray e fr) := by
  have h' : laidMet Tryz.prog (("internal/strconv.uint64pow10", Lib.tabData .u64 (zints pow10T)) :: rest) W := h.tail.tail
  have h1 := Lib.tabIs_of_head (g := 2) (t := 240) (e := 28) (n := 20) (by kernel_rfl) (by kernel_rfl) (by kernel_rfl) (by kernel_rfl) (by kernel_rfl) (by kernel_rfl) h'
  obtain ⟨ek, fk, h3⟩ := var_heap (g := 2) (by kernel_rfl) h1
  rw [zints_nums] at h3
  exact ⟨ek, fk, h3⟩
end Go.Proofs.YtphcaiplgpmnnaaGreatDoor

/- What the rows' lists give: the tables of packages sha and strconv. -/
set_option linter.unusedVariables false
set_option linter.unusedSimpArgs false
namespace Go.Proofs.YtphcaiplgpmnnaaGreatDoor
open Go.Px
set_option maxRecDepth 100000 in
theorem glb_in {W : World} {a b : String × DataW Unit} {rest : List (String × DataW Unit)} (h : laidMet Tryz.prog (a :: b :: ("internal/strconv.uint64pow10", Rows.laid_internal_strconv_uint64pow10) :: ("pawl/sha.round", Rows.laid_pawl_sha_round) :: ("pawl/sha.first", Rows.laid_pawl_sha_first) :: rest) W) : Glb (heapA W) := by
  obtain ⟨e4, f4, h4⟩ := pow_tab h
  have h' : laidMet Tryz.prog (("pawl/sha.round", Lib.tabData .u32 (zints kTab)) :: ("pawl/sha.first", Lib.tabData .u32 (zints hFirst.list)) :: rest) W := h.tail.tail.tail
  have h1 := Lib.tabIs_of_head (g := 1) (t := 194) (e := 22) (n := 64) (by kernel_rfl) (by kernel_rfl) (by kernel_rfl) (by kernel_rfl) (by kernel_rfl) (by kernel_rfl) h'
  have h2 := Lib.tabIs_of_head (g := 0) (t := 159) (e := 22) (n := 8) (by kernel_rfl) (by kernel_rfl) (by kernel_rfl) (by kernel_rfl) (by kernel_rfl) (by kernel_rfl) h'.tail
  obtain ⟨ek, fk, h3⟩ := var_heap (g := 1) (by kernel_rfl) h1
  obtain ⟨ef, ff, h5⟩ := var_heap (g := 0) (by kernel_rfl) h2
  rw [zints_nums] at h3 h5
  exact ⟨⟨ef, ff, heapA_mem.2 h5⟩, ⟨ek, fk, heapA_mem.2 h3⟩, ⟨e4, f4, heapA_mem.2 h4⟩⟩
end Go.Proofs.YtphcaiplgpmnnaaGreatDoor

/- The card of the law KeysMessages: it returns true for every input; each argument reads behind the call as it read before; the listed package variables are tied to the program's text. No further condition. -/
namespace Go.Proofs.YtphcaiplgpmnnaaGreatDoor.keysMessages
open Go.ChangeShapes Go.WideShapes Go.ChangeAt Go.RowKit
set_option linter.unusedVariables false

theorem own : ownKnob Tryz.prog.godebug = none := by kernel_rfl
theorem laidOut : laidOutB Tryz.prog = true := by kernel_rfl

noncomputable def laidWorld (os : Os) : World := World.laidAll Tryz.prog os Rows.keysMessagesRow.laid
theorem laid_met (os : Os) : laidMetH Tryz.prog Rows.keysMessagesRow.laid ((laidWorld os).forCall (fun _ _ => 0) ⟨#[], #[.int .u32 0, .slice none 0 0], []⟩).memory := by
  rw [MakeChecks.laidMetH_plain _ _ _ (by kernel_rfl)]; exact laidMet_laidAll _ (by kernel_rfl) (by kernel_rfl)
theorem reads (os : Os) {H : Type} (enc : TypeId × Value → H) : ∃ places, DataW.whole enc Tryz.prog ((laidWorld os).forCall (fun _ _ => 0) ⟨#[], #[.int .u32 0, .slice none 0 0], []⟩).memory Tryz.f3.params.toList Rows.keysMessagesSpec.vars false (#[.int .u32 0, .slice none 0 0] : Array Value).toList 8 = some ([.lit (.int .u32 0), .nil], [], places) :=
  ⟨[], by kernel_rfl⟩

set_option maxRecDepth 100000 in
theorem lifted (os : Os) (started : os.Started) (H : Type) (enc : TypeId × Value → H) (F : Stop.Interp) :
    ReturnsInHanded {} Tryz.checked os 3 .any ((OpenSpec.ofChange Rows.keysMessagesSpec).preRow enc Tryz.prog Tryz.f3 Rows.keysMessagesRow.domain false Rows.keysMessagesRow.laid) (((OpenSpec.ofChange Rows.keysMessagesSpec).at F).post enc Tryz.prog Tryz.f3 false true false false) := by
  obtain ⟨places, hx⟩ := reads os enc
  refine returnsInHanded_of_row (C := Tryz.checked) (s := (OpenSpec.ofChange Rows.keysMessagesSpec)) own started (by kernel_rfl) Tryz.func3
    (witness_row_at (enc := enc) (C := Tryz.checked) false (laidWorld os) #[.int .u32 0, .slice none 0 0] (World.laidAll_os _ _ _) (by kernel_rfl) (by kernel_rfl) (by kernel_rfl)
      (OpenSpec.preRow_of_cond 8 hx (by kernel_rfl) (fun k hk => by cases hk) (by kernel_rfl) (laid_met os))) ?_
  intro W base args ds gs before hval0 hW _ _ _ hL _ _
  have hval : ∀ (j : Nat) t v, Tryz.f3.params[j]? = some t → args[j]? = some v → Value.okWide Tryz.prog W .any base t v := hval0
  have hW' := hW
  obtain ⟨p, q, hA0, hV, rfl, hfz, hnd⟩ := hW
  have hA : DataW.TrodAll enc Tryz.prog W 0 (fun _ => true) true Tryz.f3.params.toList args.toList ds p := hA0
  rw [Tryz.params3] at hA hval
  obtain ⟨v0, vs0, d0, ds0, p0, q0, hargs, rfl, rfl, k0, r0_⟩ := trodAll_cons hA
  obtain ⟨v1, vs1, d1, ds1, p1, q1, rfl, rfl, rfl, k1, r1_⟩ := trodAll_cons r0_
  obtain ⟨rfl, rfl, rfl⟩ := trodAll_nil r1_
  obtain rfl : args = #[v0, v1] := by cases args; simp_all
  obtain ⟨rfl, rfl⟩ := trodVars_none hV
  have lt0 : ∀ x ∈ p0, x.block < W.heap.size := by obtain ⟨m, hm⟩ := k0; exact DataW.trod_lt m _ _ _ hm
  have lt1 : ∀ x ∈ p1, x.block < W.heap.size := by obtain ⟨m, hm⟩ := k1; exact DataW.trod_lt m _ _ _ hm
  obtain ⟨x0, rfl, hx0⟩ := Px.inU Tryz.underlying22 rfl (hval 0 22 v0 rfl rfl) k0
  obtain ⟨x1, r1, hx1, l1⟩ := Px.inSlU Tryz.underlying23 Tryz.underlying5 (by kernel_rfl) rfl (hval 1 23 v1 rfl rfl) k1
  clear hA0 hval0
  rw [MakeChecks.laidMetH_plain _ _ _ (by kernel_rfl)] at hL
  have hG := glb_in hL
  refine Calls.mono ((keysMessages_f x0 v1 x1 _ hx0 ⟨r1, hx1, l1⟩ hG).calls (Px.heapA_fx W)) fun e W' ⟨he, bel⟩ => ?_
  subst he
  exact ⟨_, rfl, _, _, _, [], _, [], hW', trodAll_mk1 (shut_bool Tryz.underlying4 _), (trodAll_cons_mk (Below.trod laidOut (by kernel_rfl) (of_decide_eq_true (by kernel_rfl)) k0 bel lt0) (trodAll_cons_mk (Below.trod laidOut (by kernel_rfl) (of_decide_eq_true (by kernel_rfl)) k1 bel lt1) trodAll_mk0)), rfl, bel.frame _, fun h => by cases h⟩

theorem said : Rows.KeysMessagesSaid :=
  OpenClaim.holds_of_cond 3 Tryz.f3 rfl rfl rfl rfl rfl rfl rfl ⟨rfl, rfl, rfl, rfl, rfl⟩ rfl rfl rfl rfl rfl (by kernel_rfl) Tryz.func3 (by kernel_rfl)
    (of_decide_eq_true (by kernel_rfl)) (by unfold Func.isWrapper; first | (rw [if_pos (by decide +kernel)]; kernel_rfl) | (rw [if_neg (by decide +kernel)]; exact ⟨rfl, rfl⟩))
    (fun os started H enc _ F => by rw [OpenClaim.pre_eq_preRow]; exact lifted os started H enc F)
theorem plain (f : FuncId) (fn : Func) (hf : Tryz.pinned.checked.prog.funcNamed "pawl/pawllaw12.KeysMessages" = some f) (hfn : Tryz.pinned.checked.prog.funcs[f]? = some fn) :
    true = Tryz.pinned.checked.prog.looks [] ∧ ∀ (j : Nat) t, fn.params[j]? = some t → Tryz.pinned.checked.prog.wantsStandIn t = false := by
  obtain rfl : f = 3 := Option.some.inj ((show Tryz.prog.funcNamed "pawl/pawllaw12.KeysMessages" = some 3 by kernel_rfl).symm.trans hf) |>.symm
  obtain rfl : fn = Tryz.f3 := (Option.some.inj (Tryz.func3.symm.trans hfn)).symm
  refine ⟨by kernel_rfl, fun j t ht => ?_⟩
  rw [Tryz.params3] at ht
  have hm := Array.mem_of_getElem? ht
  simp only [List.mem_toArray, List.mem_cons, List.not_mem_nil, or_false] at hm
  rcases hm with rfl | rfl
  · exact (show Tryz.prog.wantsStandIn 22 = false by kernel_rfl)
  · exact (show Tryz.prog.wantsStandIn 23 = false by kernel_rfl)

theorem proved : Rows.KeysMessagesCardSaid :=
  Claim7.holds_tied_plain_at .later [] _ _ _ _ said (fun _ h => by cases h) (by kernel_rfl) (fun _ h => by cases h) keysMessages_row_tie rfl ⟨rfl, rfl⟩ (by kernel_rfl) rfl plain (by kernel_rfl)
#print axioms proved
end Go.Proofs.YtphcaiplgpmnnaaGreatDoor.keysMessages



