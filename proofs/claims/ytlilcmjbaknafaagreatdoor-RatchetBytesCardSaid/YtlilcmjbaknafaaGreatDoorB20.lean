/- Part 20 of the texts of this claim, one behind the other. -/
import Derived.Test.YtlilcmjbaknafaaGreatDoorB19
set_option linter.unusedVariables false
set_option linter.unusedSimpArgs false
set_option maxRecDepth 100000
namespace Go.Proofs.YtlilcmjbaknafaaGreatDoor
open Go.Px
theorem eqU8 (a b : Nat) : I0 .eql .u32 ((a : Nat) : Int) ((b : Nat) : Int) = some (.bool (decide (a = b))) := by
  by_cases h : a = b
  · rw [decide_eq_true h]; exact eqT qO
  · rw [decide_eq_false h]; exact eqF qO
theorem C0W {k : IntKind} (a b : Nat) : I0 .neq k ((a : Nat) : Int) ((b : Nat) : Int) = some (.bool (!decide (a = b))) := by
  by_cases h : a = b
  · rw [decide_eq_true h]; exact neF qO
  · rw [decide_eq_false h]; exact neT qO
theorem B9F (v1 v2 : Value) (k1 k2 : LN) (n1 n2 : Nat) (A : Mem) (h1 : By A v1 k1) (h2 : By A v2 k2) : FnV Tryz.prog 32 [.agg #[v1, (vU n1)], .agg #[v2, (vU n2)]] A (.bool (decide (n1 = n2) && decide (k1 = k2))) := by
 haveI := h1.cel
 haveI := h2.cel
 refine FnX.enter (N := 17) Tryz.func32 rfl rfl rfl fun w_ => ?_
 refine B4 (D3 0 1) (A1 ?_)
 refine A4 rfl (bx_ fun b2 => ?_)
 refine A4 rfl (bx_ fun b3 => ?_)
 refine as_ (A0 (D3 2 3) (A1 ?_))
 refine A2 (qf_ 1 1) rfl ?_
 refine A2 ql_ rfl ?_
 refine A2 (qf_ 1 1) rfl ?_
 refine A2 ql_ rfl ?_
 refine A2 (F4 (decide (n1 = n2)) rfl rfl (eqU8 _ _)) rfl ?_
 refine mv_ ?_
 refine P6 (t := 10) rfl (fun hb => ?_) (fun hb => ?_)
 ·
  have e1 : n1 = n2 := of_decide_eq_true hb
  refine D6 rfl rfl (OpQ.opL (qf_ 0 0) rfl ?_)
  refine D6 rfl rfl (OpQ.opL ql_ rfl ?_)
  refine D6 rfl rfl (OpQ.opL (qf_ 0 0) rfl ?_)
  refine D6 rfl rfl (OpQ.opL ql_ rfl ?_)
  refine A56 rfl rfl (aS rfl (aS rfl a0)) kR (Q9 v1 v2 k1 k2 _ (h1.mono qS) (h2.mono qS)) rfl ?_
  refine A2 (E2 rfl rfl) rfl ?_
  refine as_ (A0 (D5 4) (B0 ?_))
  exact ⟨_, [], [], I4 rfl rfl, List.nil_sublist _, by simp, by rw [e1]; simp, rfl, rfl⟩
 ·
  have e1 : decide (n1 = n2) = false := hb
  refine E7 rfl rfl rfl rfl ?_
  refine E7 rfl rfl rfl rfl ?_
  refine E7 rfl rfl rfl rfl ?_
  refine E7 rfl rfl rfl rfl ?_
  refine E7 rfl rfl rfl rfl ?_
  refine A2 (E3 rfl rfl) rfl ?_
  refine as_ (A0 (D5 4) (B0 ?_))
  exact ⟨_, [], [], I4 rfl rfl, List.nil_sublist _, by simp, by rw [e1]; rfl, rfl, rfl⟩
theorem B7X {a b : Rsd} (h1 : a.own = b.own) (h2 : a.their = b.their) (h3 : a.root = b.root) (h4 : a.sn = b.sn ∧ a.sk = b.sk) (h5 : a.tn = b.tn ∧ a.tk = b.tk) (h6 : a.prev = b.prev) (h7 : a.sks = b.sks) : a = b := by
  obtain ⟨a1, a2, a3, a4, a5, a6, a7, a8, a9⟩ := a
  obtain ⟨b1, b2, b3, b4, b5, b6, b7, b8, b9⟩ := b
  dsimp only at h1 h2 h3 h4 h5 h6 h7
  obtain ⟨g1, g2⟩ := h4
  obtain ⟨g3, g4⟩ := h5
  rw [h1, h2, h3, g1, g2, g3, g4, h6, h7]
set_option maxHeartbeats 2000000 in
theorem B5P (a b : Rsd) (ao at_ ar ak al aq bo bt bw bk bl bq : Value) (A : Mem) (ha : RsR A a ao at_ ar ak al aq) (hb_ : RsR A b bo bt bw bk bl bq) : FnX Tryz.prog 14 [.agg (rsC ao at_ ar ak al aq a).toArray, .agg (rsC bo bt bw bk bl bq b).toArray] [] A fun q M J => M = [] ∧ ∃ c, q = .bool c ∧ (c = true ↔ a = b) := by
 haveI := ha.own.cel
 haveI := ha.their.cel
 haveI := ha.root.cel
 haveI := ha.sk.cel
 haveI := ha.tk.cel
 haveI := hb_.own.cel
 haveI := hb_.their.cel
 haveI := hb_.root.cel
 haveI := hb_.sk.cel
 haveI := hb_.tk.cel
 obtain ⟨sa, ua, rowsA, rfl, hsa, hrdA, hrwA⟩ := ha.st
 obtain ⟨sb, ub, rowsB, rfl, hsb, hrdB, hrwB⟩ := hb_.st
 have hal := ha.sks
 have hbl := hb_.sks
 unfold rsC
 refine FnX.enterZ (N := 108) Tryz.func14 rfl rfl rfl fun w_ => ?_
 refine B4 (D3 0 1) (A1 ?_)
 refine A4 rfl (bx_ fun b2 => ?_)
 refine A4 rfl (bx_ fun b3 => ?_)
 refine as_ (A0 (D3 2 3) (A1 (as_ (A0 (D8 2 3 5) (A3 ?_)))))
 refine D2 (.range 56) [(0, 0), (1, 1), (2, 0), (3, 1), (4, 2), (5, 0), (6, 0), (7, 0), (8, 1), (9, 0), (10, 1), (11, 2), (12, 0), (13, 0), (14, 0), (15, 0), (16, 1), (17, 0), (18, 1), (19, 2), (20, 0), (21, 0), (22, 0), (23, 0), (24, 0), (25, 1), (26, 0), (27, 1), (28, 2), (29, 0), (30, 0), (31, 0), (32, 0), (33, 0), (34, 1), (35, 0), (36, 1), (37, 2), (38, 0), (39, 0), (40, 0), (41, 0), (42, 1), (43, 0), (44, 1), (45, 0), (46, 0), (47, 0), (48, 0), (49, 1), (51, 0), (52, 1), (50, 2), (53, 2), (54, 0), (55, 0)] kR kR fun hs => ?_
 refine C2 hs rfl (qf_ 0 0) rfl ?_
 refine H2 hs rfl ql_ rfl ?_
 refine C2 hs rfl (qf_ 0 0) rfl ?_
 refine H2 hs rfl ql_ rfl ?_
 refine N3 rfl (aS rfl (aS rfl a0)) kR (Q9 ao bo a.own b.own _ (ha.own.mono qS) (hb_.own.mono qS)) rfl ?_
 refine C2 hs rfl (Y0 rfl) rfl ?_
 refine fm_ hs ?_
 refine Y4 (t := 15) rfl (fun hb => ?_) (fun hb => ?_)
 ·
  have hne : a ≠ b := fun e => by rw [e] at hb; simp at hb
  refine K3 hs ?_
  refine X4 hs ?_
  refine K3 hs ?_
  refine X4 hs ?_
  refine W8 hs rfl rfl rfl rfl rfl rfl ?_
  refine K3 hs ?_
  refine C2 hs rfl (E2 rfl rfl) rfl ?_
  refine fm_ hs ?_
  refine K3 hs ?_
  refine X4 hs ?_
  refine K3 hs ?_
  refine X4 hs ?_
  refine W8 hs rfl rfl rfl rfl rfl rfl ?_
  refine K3 hs ?_
  refine C2 hs rfl (E2 rfl rfl) rfl ?_
  refine fm_ hs ?_
  refine K3 hs ?_
  refine K3 hs ?_
  refine X4 hs ?_
  refine K3 hs ?_
  refine X4 hs ?_
  refine W8 hs rfl rfl rfl rfl rfl rfl ?_
  refine K3 hs ?_
  refine C2 hs rfl (E2 rfl rfl) rfl ?_
  refine fm_ hs ?_
  refine K3 hs ?_
  refine K3 hs ?_
  refine X4 hs ?_
  refine K3 hs ?_
  refine X4 hs ?_
  refine W8 hs rfl rfl rfl rfl rfl rfl ?_
  refine K3 hs ?_
  refine C2 hs rfl (E2 rfl rfl) rfl ?_
  refine fm_ hs ?_
  refine K3 hs ?_
  refine X4 hs ?_
  refine K3 hs ?_
  refine X4 hs ?_
  refine K3 hs ?_
  refine C2 hs rfl (E2 rfl rfl) rfl ?_
  refine fm_ hs ?_
  refine K3 hs ?_
  refine X4 hs ?_
  refine K3 hs ?_
  refine X4 hs ?_
  refine W8 hs rfl rfl rfl rfl rfl rfl ?_
  refine W8 hs rfl rfl rfl rfl rfl rfl ?_
  refine K3 hs ?_
  refine C2 hs rfl (E2 rfl rfl) rfl ?_
  refine E9 (D8 2 3 64) ?_
  refine C8 rfl ?_
  refine A1 (as_ (A0 (D5 4) (B0 (tr ?_))))
  exact ⟨_, [], [], I4 rfl rfl, qZ, rfl, false, rfl, ⟨(fun h => by cases h), fun h => absurd h hne⟩⟩
 ·
  have e0 : a.own = b.own := by simpa using hb
  refine F7 hs rfl rfl rfl rfl (qf_ 1 1) rfl ?_
  refine W7 hs rfl rfl rfl rfl ql_ rfl ?_
  refine F7 hs rfl rfl rfl rfl (qf_ 1 1) rfl ?_
  refine W7 hs rfl rfl rfl rfl ql_ rfl ?_
  refine U8 rfl rfl rfl rfl (aS rfl (aS rfl a0)) kR (Q9 at_ bt a.their b.their _ (ha.their.mono qS) (hb_.their.mono qS)) rfl ?_
  refine F7 hs rfl rfl rfl rfl (Y0 rfl) rfl ?_
  refine C2 hs rfl (E3 rfl rfl) rfl ?_
  refine fm_ hs ?_
  refine Y4 (t := 23) rfl (fun hb => ?_) (fun hb => ?_)
  ·
   have hne : a ≠ b := fun e => by rw [e] at hb; simp at hb
   refine K3 hs ?_
   refine X4 hs ?_
   refine K3 hs ?_
   refine X4 hs ?_
   refine W8 hs rfl rfl rfl rfl rfl rfl ?_
   refine K3 hs ?_
   refine C2 hs rfl (E2 rfl rfl) rfl ?_
   refine fm_ hs ?_
   refine K3 hs ?_
   refine K3 hs ?_
   refine X4 hs ?_
   refine K3 hs ?_
   refine X4 hs ?_
   refine W8 hs rfl rfl rfl rfl rfl rfl ?_
   refine K3 hs ?_
   refine C2 hs rfl (E2 rfl rfl) rfl ?_
   refine fm_ hs ?_
   refine K3 hs ?_
   refine K3 hs ?_
   refine X4 hs ?_
   refine K3 hs ?_
   refine X4 hs ?_
   refine W8 hs rfl rfl rfl rfl rfl rfl ?_
   refine K3 hs ?_
   refine C2 hs rfl (E2 rfl rfl) rfl ?_
   refine fm_ hs ?_
   refine K3 hs ?_
   refine X4 hs ?_
   refine K3 hs ?_
   refine X4 hs ?_
   refine K3 hs ?_
   refine C2 hs rfl (E2 rfl rfl) rfl ?_
   refine fm_ hs ?_
   refine K3 hs ?_
   refine X4 hs ?_
   refine K3 hs ?_
   refine X4 hs ?_
   refine W8 hs rfl rfl rfl rfl rfl rfl ?_
   refine W8 hs rfl rfl rfl rfl rfl rfl ?_
   refine K3 hs ?_
   refine C2 hs rfl (E2 rfl rfl) rfl ?_
   refine E9 (D8 2 3 64) ?_
   refine C8 rfl ?_
   refine A1 (as_ (A0 (D5 4) (B0 (tr ?_))))
   exact ⟨_, [], [], I4 rfl rfl, qZ, rfl, false, rfl, ⟨(fun h => by cases h), fun h => absurd h hne⟩⟩
  ·
   have e1 : a.their = b.their := by simpa using hb
   refine F7 hs rfl rfl rfl rfl (qf_ 2 2) rfl ?_
   refine W7 hs rfl rfl rfl rfl ql_ rfl ?_
   refine F7 hs rfl rfl rfl rfl (qf_ 2 2) rfl ?_
   refine W7 hs rfl rfl rfl rfl ql_ rfl ?_
   refine U8 rfl rfl rfl rfl (aS rfl (aS rfl a0)) kR (Q9 ar bw a.root b.root _ (ha.root.mono qS) (hb_.root.mono qS)) rfl ?_
   refine F7 hs rfl rfl rfl rfl (Y0 rfl) rfl ?_
   refine C2 hs rfl (E3 rfl rfl) rfl ?_
   refine fm_ hs ?_
   refine Y4 (t := 31) rfl (fun hb => ?_) (fun hb => ?_)
   ·
    have hne : a ≠ b := fun e => by rw [e] at hb; simp at hb
    refine K3 hs ?_
    refine K3 hs ?_
    refine X4 hs ?_
    refine K3 hs ?_
    refine X4 hs ?_
    refine W8 hs rfl rfl rfl rfl rfl rfl ?_
    refine K3 hs ?_
    refine C2 hs rfl (E2 rfl rfl) rfl ?_
    refine fm_ hs ?_
    refine K3 hs ?_
    refine K3 hs ?_
    refine X4 hs ?_
    refine K3 hs ?_
    refine X4 hs ?_
    refine W8 hs rfl rfl rfl rfl rfl rfl ?_
    refine K3 hs ?_
    refine C2 hs rfl (E2 rfl rfl) rfl ?_
    refine fm_ hs ?_
    refine K3 hs ?_
    refine X4 hs ?_
    refine K3 hs ?_
    refine X4 hs ?_
    refine K3 hs ?_
    refine C2 hs rfl (E2 rfl rfl) rfl ?_
    refine fm_ hs ?_
    refine K3 hs ?_
    refine X4 hs ?_
    refine K3 hs ?_
    refine X4 hs ?_
    refine W8 hs rfl rfl rfl rfl rfl rfl ?_
    refine W8 hs rfl rfl rfl rfl rfl rfl ?_
    refine K3 hs ?_
    refine C2 hs rfl (E2 rfl rfl) rfl ?_
    refine E9 (D8 2 3 64) ?_
    refine C8 rfl ?_
    refine A1 (as_ (A0 (D5 4) (B0 (tr ?_))))
    exact ⟨_, [], [], I4 rfl rfl, qZ, rfl, false, rfl, ⟨(fun h => by cases h), fun h => absurd h hne⟩⟩
   ·
    have e2 : a.root = b.root := by simpa using hb
    refine F7 hs rfl rfl rfl rfl qm_ rfl ?_
    refine F7 hs rfl rfl rfl rfl (qf_ 3 3) rfl ?_
    refine W7 hs rfl rfl rfl rfl (P4 (n := 2) rfl kR (by first | exact At.mem | exact mA (by assumption)) TakeC.take) rfl ?_
    refine F7 hs rfl rfl rfl rfl (qf_ 3 3) rfl ?_
    refine W7 hs rfl rfl rfl rfl (P4 (n := 2) rfl kR (by first | exact At.mem | exact mA (by assumption)) TakeC.take) rfl ?_
    refine B6f rfl rfl rfl rfl fun _ => (A5F (cs := []) rfl (aS rfl (aS rfl a0)) kR (B9F ak bk a.sk b.sk a.sn b.sn _ (ha.sk.mono qS) (hb_.sk.mono qS)) rfl ?_)
    refine F7 hs rfl rfl rfl rfl (Y0 rfl) rfl ?_
    refine C2 hs rfl (E3 rfl rfl) rfl ?_
    refine fm_ hs ?_
    refine Y4 (t := 40) rfl (fun hb => ?_) (fun hb => ?_)
    ·
     have hne : a ≠ b := fun e => by rw [e] at hb; simp at hb
     refine K3 hs ?_
     refine K3 hs ?_
     refine X4 hs ?_
     refine K3 hs ?_
     refine X4 hs ?_
     refine W8 hs rfl rfl rfl rfl rfl rfl ?_
     refine K3 hs ?_
     refine C2 hs rfl (E2 rfl rfl) rfl ?_
     refine fm_ hs ?_
     refine K3 hs ?_
     refine X4 hs ?_
     refine K3 hs ?_
     refine X4 hs ?_
     refine K3 hs ?_
     refine C2 hs rfl (E2 rfl rfl) rfl ?_
     refine fm_ hs ?_
     refine K3 hs ?_
     refine X4 hs ?_
     refine K3 hs ?_
     refine X4 hs ?_
     refine W8 hs rfl rfl rfl rfl rfl rfl ?_
     refine W8 hs rfl rfl rfl rfl rfl rfl ?_
     refine K3 hs ?_
     refine C2 hs rfl (E2 rfl rfl) rfl ?_
     refine E9 (D8 2 3 64) ?_
     refine C8 rfl ?_
     refine A1 (as_ (A0 (D5 4) (B0 (tr ?_))))
     exact ⟨_, [], [], I4 rfl rfl, qZ, rfl, false, rfl, ⟨(fun h => by cases h), fun h => absurd h hne⟩⟩
    ·
     have e3 : a.sn = b.sn ∧ a.sk = b.sk := by simpa using hb
     refine F7 hs rfl rfl rfl rfl qm_ rfl ?_
     refine F7 hs rfl rfl rfl rfl (qf_ 5 5) rfl ?_
     refine W7 hs rfl rfl rfl rfl (P4 (n := 2) rfl kR (by first | exact At.mem | exact mA (by assumption)) TakeC.take) rfl ?_
     refine F7 hs rfl rfl rfl rfl (qf_ 5 5) rfl ?_
     refine W7 hs rfl rfl rfl rfl (P4 (n := 2) rfl kR (by first | exact At.mem | exact mA (by assumption)) TakeC.take) rfl ?_
     refine B6f rfl rfl rfl rfl fun _ => (A5F (cs := []) rfl (aS rfl (aS rfl a0)) kR (B9F al bl a.tk b.tk a.tn b.tn _ (ha.tk.mono qS) (hb_.tk.mono qS)) rfl ?_)
     refine F7 hs rfl rfl rfl rfl (Y0 rfl) rfl ?_
     refine C2 hs rfl (E3 rfl rfl) rfl ?_
     refine fm_ hs ?_
     refine Y4 (t := 49) rfl (fun hb => ?_) (fun hb => ?_)
     ·
      have hne : a ≠ b := fun e => by rw [e] at hb; simp at hb
      refine K3 hs ?_
      refine X4 hs ?_
      refine K3 hs ?_
      refine X4 hs ?_
      refine K3 hs ?_
      refine C2 hs rfl (E2 rfl rfl) rfl ?_
      refine fm_ hs ?_
      refine K3 hs ?_
      refine X4 hs ?_
      refine K3 hs ?_
      refine X4 hs ?_
      refine W8 hs rfl rfl rfl rfl rfl rfl ?_
      refine W8 hs rfl rfl rfl rfl rfl rfl ?_
      refine K3 hs ?_
      refine C2 hs rfl (E2 rfl rfl) rfl ?_
      refine E9 (D8 2 3 64) ?_
      refine C8 rfl ?_
      refine A1 (as_ (A0 (D5 4) (B0 (tr ?_))))
      exact ⟨_, [], [], I4 rfl rfl, qZ, rfl, false, rfl, ⟨(fun h => by cases h), fun h => absurd h hne⟩⟩
     ·
      have e4 : a.tn = b.tn ∧ a.tk = b.tk := by simpa using hb
      refine F7 hs rfl rfl rfl rfl (qf_ 7 7) rfl ?_
      refine W7 hs rfl rfl rfl rfl ql_ rfl ?_
      refine F7 hs rfl rfl rfl rfl (qf_ 7 7) rfl ?_
      refine W7 hs rfl rfl rfl rfl ql_ rfl ?_
      refine F7 hs rfl rfl rfl rfl (F4 (!decide (a.prev = b.prev)) rfl rfl (C0W _ _)) rfl ?_
      refine C2 hs rfl (E3 rfl rfl) rfl ?_
      refine fm_ hs ?_
      refine Y4 (t := 56) rfl (fun hb => ?_) (fun hb => ?_)
      ·
       have hne : a ≠ b := fun e => by rw [e] at hb; simp at hb
       refine K3 hs ?_
       refine X4 hs ?_
       refine K3 hs ?_
       refine X4 hs ?_
       refine W8 hs rfl rfl rfl rfl rfl rfl ?_
       refine W8 hs rfl rfl rfl rfl rfl rfl ?_
       refine K3 hs ?_
       refine C2 hs rfl (E2 rfl rfl) rfl ?_
       refine E9 (D8 2 3 64) ?_
       refine C8 rfl ?_
       refine A1 (as_ (A0 (D5 4) (B0 (tr ?_))))
       exact ⟨_, [], [], I4 rfl rfl, qZ, rfl, false, rfl, ⟨(fun h => by cases h), fun h => absurd h hne⟩⟩
      ·
       have e5 : a.prev = b.prev := by simpa using hb
       refine F7 hs rfl rfl rfl rfl (qf_ 8 8) rfl ?_
       refine W7 hs rfl rfl rfl rfl ql_ rfl ?_
       refine F7 hs rfl rfl rfl rfl (qf_ 8 8) rfl ?_
       refine W7 hs rfl rfl rfl rfl ql_ rfl ?_
       refine U8 rfl rfl rfl rfl (aS rfl a0) kR (A30 sa a.sks.length ua rowsA.flatten _ (mA hsa) (hrdA.mono qS)) rfl ?_
       refine U8 rfl rfl rfl rfl (aS rfl a0) kR (A30 sb b.sks.length ub rowsB.flatten _ (mA hsb) (hrdB.mono qS)) rfl ?_
       refine F7 hs rfl rfl rfl rfl (F4 (!decide (a.sks.length = b.sks.length)) rfl rfl (C0W _ _)) rfl ?_
       refine C2 hs rfl (E3 rfl rfl) rfl ?_
       refine E9 (D8 2 3 64) ?_
       refine C0 rfl ?_ ?_ <;> intro hc
       ·
        have hne : a ≠ b := fun e => by rw [e] at hc; simp at hc
        refine A1 (as_ (A0 (D5 4) (B0 (tr ?_))))
        exact ⟨_, [], [], I4 rfl rfl, qZ, rfl, false, rfl, ⟨(fun h => by cases h), fun h => absurd h hne⟩⟩
       ·
        have e7 : a.sks.length = b.sks.length := by simpa using hc
        refine A7 (nx (D3 2 3) (A1 ?_))
        refine A2 (qf_ 8 8) rfl ?_
        refine A2 ql_ rfl ?_
        refine C7 (aS rfl a0) kR (A3c sb b.sks.length ub rowsB.flatten _ (mA hsb) (hrdB.mono qS) (hrwB.ones skT) (by have := hb_.sks; omega)) rfl ?_
        rintro v67 M67 J67 hs67
        haveI := hs67.cel
        refine A3E (B := M67) qP ?_
        have hr67 := hs67.rd (R := M67) fun _ h => h
        refine as_ (A0 (D3 2 6) (A3 (A1 ?_)))
        refine A2 (qf_ 8 8) rfl ?_
        refine A2 ql_ rfl ?_
        refine C7 (aS rfl a0) kR (A3c sa a.sks.length ua rowsA.flatten _ (mA hsa) (hrdA.mono qS) (hrwA.ones skT) (by have := ha.sks; omega)) rfl ?_
        rintro v70 M70 J70 hs70
        haveI := hs70.cel
        refine A3E (B := M70) qP ?_
        have hr70 := hs70.rd (R := M70) fun _ h => h
        refine A2 (F8 (sz := 3) rfl kR hr70) rfl ?_
        refine mv_ (A0 (D7 6 70 71 72) (A5 ?_))
        refine E1 (α := Nat) (fun i => [(6, v67), (70, v70), (71, (vI a.sks.length)), (72, (vI i))]) (fun _ => []) (fun _ => _) (fun i => i ≤ a.sks.length ∧ ∀ j, j < i → a.sks[j]? = b.sks[j]?) (fun i => a.sks.length - i) 0 ⟨Nat.zero_le _, fun j h => absurd h (Nat.not_lt_zero j)⟩ (D7 6 70 71 72) qZ qI ?_
        rintro i ⟨hi, hpi⟩
        refine A1 ?_
        refine A2 (D9 rfl rfl rfl) rfl ?_
        refine A0 (E6 6 70 71 72 73) (A3 ?_)
        refine C0 rfl ?_ ?_ <;> intro hc
        ·
         have hlt : i < a.sks.length := by simp at hc; omega
         obtain ⟨xa, hxa⟩ : ∃ z, a.sks[i]? = some z := ⟨_, List.getElem?_eq_getElem hlt⟩
         obtain ⟨xb, hxb⟩ : ∃ z, b.sks[i]? = some z := ⟨_, List.getElem?_eq_getElem qO⟩
         obtain ⟨ra, hra, va1, va2, rfl, hao, hak, -⟩ := hrwA.get i xa hxa
         obtain ⟨rb, hrb, vb1, vb2, rfl, hbo, hbk, -⟩ := hrwB.get i xb hxb
         haveI := hao.cel
         haveI := hak.cel
         haveI := hbo.cel
         haveI := hbk.cel
         refine A7 (nx (D7 6 70 71 72) (A3 (A5 (A1 (mv_ ?_)))))
         refine A2 (G8 (sz := 3) (a := i) rfl rfl kR rfl hr70 hlt) rfl ?_
         refine A2 (A58 (sz := 3) rfl kR (hr70.mono qS) (hrwA.lens skT) qD hra) rfl ?_
         refine A4 rfl (C3 (cs := [vS, .int .u32 0, vS]) kR rfl fun b8 => ?_)
         refine as_ ?_
         refine A4 rfl (A8 (vs := [va1, (vU xa.n), va2]) rfl rfl rfl kR qR (A6 hao.one (A6 rfl (A6 hak.one I6))) UpC.upd ?_)
         refine A0 (H5 6 7 8 70 71 72) ?_
         refine D2 (.range 30) (zp 0 [0, 1, 0, 0, 0, 0, 1, 2, 0, 0, 0, 1, 0, 0, 0, 0, 1, 0, 0, 0, 0, 1, 0, 0, 0, 0, 1, 2, 0, 0]) kR kR fun hs => ?_
         refine C2 hs rfl (qf_ 0 0) rfl ?_
         refine H2 hs rfl ql_ rfl ?_
         refine fm_ hs ?_
         refine fm_ hs ?_
         refine C2 hs rfl (G8 (sz := 3) (a := i) rfl rfl kR rfl hr67 qO) rfl ?_
         refine C2 hs rfl (A1x (off := 0) rfl hr67 qO kR) rfl ?_
         refine H2 hs rfl (A1y (u := vb1) rfl (hr67.mono qS) qO kR (by rw [A0H (hrwB.lens skT) hrb 0 qD]; rfl)) rfl ?_
         refine N3 rfl (aS rfl (aS rfl a0)) kR (Q9 va1 vb1 xa.of xb.of _ (hao.mono qS) (hbo.mono qS)) rfl ?_
         refine C2 hs rfl (Y0 rfl) rfl ?_
         refine fm_ hs ?_
         refine Y4 (t := 86) rfl (fun hb => ?_) (fun hb => ?_)
         ·
          have hne : a ≠ b := fun e => by rw [e, hxb] at hxa; obtain rfl := Option.some.inj hxa; simp at hb
          refine K3 hs ?_
          refine X4 hs ?_
          refine K3 hs ?_
          refine K3 hs ?_
          refine K3 hs ?_
          refine K3 hs ?_
          refine X4 hs ?_
          refine K3 hs ?_
          refine C2 hs rfl (E2 rfl rfl) rfl ?_
          refine fm_ hs ?_
          refine K3 hs ?_
          refine X4 hs ?_
          refine K3 hs ?_
          refine K3 hs ?_
          refine K3 hs ?_
          refine K3 hs ?_
          refine X4 hs ?_
          refine W8 hs rfl rfl rfl rfl rfl rfl ?_
          refine K3 hs ?_
          refine C2 hs rfl (E2 rfl rfl) rfl ?_
          refine E9 (E6 6 70 71 72 106) ?_
          refine C8 rfl ?_
          refine A1 (as_ (A0 (D5 4) (B0 (br (tr (rr (br ?_)))))))
          refine tr ?_
          exact ⟨_, [], [], I4 rfl rfl, qZ, rfl, false, rfl, ⟨(fun h => by cases h), fun h => absurd h hne⟩⟩
         ·
          have f1 : xa.of = xb.of := by simpa using hb
          refine F7 hs rfl rfl rfl rfl (qf_ 1 1) rfl ?_
          refine W7 hs rfl rfl rfl rfl ql_ rfl ?_
          refine F7 hs rfl rfl rfl rfl qm_ rfl ?_
          refine F7 hs rfl rfl rfl rfl qm_ rfl ?_
          refine F7 hs rfl rfl rfl rfl (G8 (sz := 3) (a := i) rfl rfl kR rfl hr67 qO) rfl ?_
          refine F7 hs rfl rfl rfl rfl (A1x (off := 1) rfl hr67 qO kR) rfl ?_
          refine W7 hs rfl rfl rfl rfl (A1y (u := (vU xb.n)) rfl (hr67.mono qS) qO kR (by rw [A0H (hrwB.lens skT) hrb 1 qD]; rfl)) rfl ?_
          refine F7 hs rfl rfl rfl rfl (F4 (!decide (xa.n = xb.n)) rfl rfl (C0W _ _)) rfl ?_
          refine C2 hs rfl (E3 rfl rfl) rfl ?_
          refine fm_ hs ?_
          refine Y4 (t := 96) rfl (fun hb => ?_) (fun hb => ?_)
          ·
           have hne : a ≠ b := fun e => by rw [e, hxb] at hxa; obtain rfl := Option.some.inj hxa; simp at hb
           refine K3 hs ?_
           refine X4 hs ?_
           refine K3 hs ?_
           refine K3 hs ?_
           refine K3 hs ?_
           refine K3 hs ?_
           refine X4 hs ?_
           refine W8 hs rfl rfl rfl rfl rfl rfl ?_
           refine K3 hs ?_
           refine C2 hs rfl (E2 rfl rfl) rfl ?_
           refine E9 (E6 6 70 71 72 106) ?_
           refine C8 rfl ?_
           refine A1 (as_ (A0 (D5 4) (B0 (br (tr (rr (br ?_)))))))
           refine tr ?_
           exact ⟨_, [], [], I4 rfl rfl, qZ, rfl, false, rfl, ⟨(fun h => by cases h), fun h => absurd h hne⟩⟩
          ·
           have f2 : xa.n = xb.n := by simpa using hb
           refine F7 hs rfl rfl rfl rfl (qf_ 2 2) rfl ?_
           refine W7 hs rfl rfl rfl rfl ql_ rfl ?_
           refine F7 hs rfl rfl rfl rfl qm_ rfl ?_
           refine F7 hs rfl rfl rfl rfl qm_ rfl ?_
           refine F7 hs rfl rfl rfl rfl (G8 (sz := 3) (a := i) rfl rfl kR rfl hr67 qO) rfl ?_
           refine F7 hs rfl rfl rfl rfl (A1x (off := 2) rfl hr67 qO kR) rfl ?_
           refine W7 hs rfl rfl rfl rfl (A1y (u := vb2) rfl (hr67.mono qS) qO kR (by rw [A0H (hrwB.lens skT) hrb 2 qD]; rfl)) rfl ?_
           refine U8 rfl rfl rfl rfl (aS rfl (aS rfl a0)) kR (Q9 va2 vb2 xa.key xb.key _ (hak.mono qS) (hbk.mono qS)) rfl ?_
           refine F7 hs rfl rfl rfl rfl (Y0 rfl) rfl ?_
           refine C2 hs rfl (E3 rfl rfl) rfl ?_
           refine E9 (E6 6 70 71 72 106) ?_
           refine C0 rfl ?_ ?_ <;> intro hc
           ·
            have hne : a ≠ b := fun e => by rw [e, hxb] at hxa; obtain rfl := Option.some.inj hxa; simp at hc
            refine A1 (as_ (A0 (D5 4) (B0 (br (tr (rr (br ?_)))))))
            refine tr ?_
            exact ⟨_, [], [], I4 rfl rfl, qZ, rfl, false, rfl, ⟨(fun h => by cases h), fun h => absurd h hne⟩⟩
           ·
            have f3 : xa.key = xb.key := by simpa using hc
            refine A7 (nb (nx (D7 6 70 71 72) (A9 ?_)))
            refine A2 (D1 ((i + 1 : Nat) : Int) rfl rfl (E5 qO qO qO)) rfl ?_
            refine mv_ (C1 ?_)
            refine rn (i + 1) ⟨hlt, fun j hj => ?_⟩ qO (D7 6 70 71 72) qZ qI
            rcases Nat.lt_succ_iff_lt_or_eq.1 hj with h | rfl
            · exact hpi j h
            · rw [hxa, hxb]; obtain ⟨x1, x2, x3⟩ := xa; obtain ⟨y1, y2, y3⟩ := xb; dsimp only at f1 f2 f3; rw [f1, f2, f3]
        ·
         obtain rfl : i = a.sks.length := by simp at hc; omega
         refine D4 (te (re (be rfl (nx kn (A1 (as_ (A0 (D5 4) ?_)))))))
         refine B0 ?_
         exact ⟨_, [], [], I4 rfl rfl, qZ, rfl, true, rfl, ⟨fun _ => B7X e0 e1 e2 e3 e4 e5 (List.ext_getElem? fun j => by by_cases h : j < a.sks.length; exact hpi j h; rw [List.getElem?_eq_none qO, List.getElem?_eq_none qO]), fun _ => rfl⟩⟩

structure ApI (i : Nat) (s : Ps) (a b : Rsd) : Prop where
  gs : GS s
  wa : WfR s a
  wb : WfR s b
  len : s.ts.length ≤ 12 + 300 * i
  n : s.n ≤ 3 + i
  prev : a.prev = 0
  sn : a.sn = i
  sk : a.sk ≠ []
  l0 : i = 0 → Lnk s a b ∧ b.tk = []
  th : 0 < i → b.their ≠ []
structure ApS (i : Nat) (s : Ps) (a b : Rsd) (t : LN) : Prop where
  snt : Snt (U5 s a F1 t) (I2 s a.own) a.prev a.sn (A0V s a F1 t)
  no : ∀ (h : 0 < i), ApI (i + 1) (U5 s a F1 t) (V7 s a) b
  o : OpnH (U5 s a F1 t) b (I2 s a.own) a.prev a.sn
  yes : ∀ z, N5 (U5 s a F1 t) b F1 (I2 s a.own) a.prev a.sn (A0V s a F1 t) = z → ApI (i + 1) z.1 (V7 s a) z.2.1
def wB (ws w : LN) : LN := ws ++ beN w.length 4 ++ w
def wN (ws : LN) (n k : Nat) : LN := ws ++ beN n k
def wX (ws : LN) (x : Skp) : LN := wB (wN (wB ws x.of) x.n 4) x.key
def B9Z (ws : LN) (sks : List Skp) : LN := sks.foldl wX (wN ws sks.length 2)
def A7z (ws key : LN) (n : Nat) : LN := wN (wB ws key) n 4
def A4k (ws : LN) (r : Rsd) : LN := B9Z (wN (A7z (A7z (wB (wB (wB ws r.own) r.their) r.root) r.sk r.sn) r.tk r.tn) r.prev 4) r.sks
def A06 (w x : LN) : LN := beN w.length 4 ++ w ++ x
def A0p (n k : Nat) (x : LN) : LN := beN n k ++ x
def A2m : List Skp → LN → LN
  | [], x => x
  | y :: l, x => A06 y.of (A0p y.n 4 (A06 y.key (A2m l x)))
theorem B7Y (ws w x : LN) : wB ws w ++ x = ws ++ A06 w x := by unfold wB A06; simp
theorem B9G (ws : LN) (n k : Nat) (x : LN) : wN ws n k ++ x = ws ++ A0p n k x := by unfold wN A0p; simp
theorem wX_e : ∀ (l : List Skp) (ws x : LN), l.foldl wX ws ++ x = ws ++ A2m l x
  | [], ws, x => rfl
  | y :: l, ws, x => by
    rw [List.foldl_cons, wX_e l]
    unfold wX
    rw [B7Y, B9G, B7Y]
    rfl
theorem B5Q (ws : LN) (r : Rsd) (x : LN) : A4k ws r ++ x = ws ++ A06 r.own (A06 r.their (A06 r.root (A06 r.sk (A0p r.sn 4 (A06 r.tk (A0p r.tn 4 (A0p r.prev 4 (A0p r.sks.length 2 (A2m r.sks x))))))))) := by
  unfold A4k B9Z A7z
  rw [wX_e, B9G, B9G, B9G, B7Y, B9G, B7Y, B7Y, B7Y, B7Y]
def rdX (st : Rst) : Skp × Rst := (⟨rbN st 65536, rnN (rbS st 65536) 4, rbN (rnS (rbS st 65536) 4) 65536⟩, rbS (rnS (rbS st 65536) 4) 65536)
def rdL : Nat → List Skp → Rst → Option (List Skp) × Rst
  | 0, l, st => (some l, st)
  | k + 1, l, st => if 0 ≤ A0e (tst (rdX st).1.of (rdX st).1.n) l then (none, (rdX st).2) else rdL k (l ++ [(rdX st).1]) (rdX st).2
def rd3 (st : Rst) : Rst := rbS (rbS (rbS st 65536) 65536) 65536
def rd5 (st : Rst) : Rst := rnS (rbS (rd3 st) 65536) 4
def rd7 (st : Rst) : Rst := rnS (rbS (rd5 st) 65536) 4
def rd8 (st : Rst) : Rst := rnS (rd7 st) 4
def rdK (st : Rst) : Option (List Skp) × Rst := rdL (ctN st 32) [] (ctS st 32)
def rdR (st : Rst) : Rsd := ⟨rbN st 65536, rbN (rbS st 65536) 65536, rbN (rbS (rbS st 65536) 65536) 65536, rbN (rd3 st) 65536, rnN (rbS (rd3 st) 65536) 4, rbN (rd5 st) 65536, rnN (rbS (rd5 st) 65536) 4, rnN (rd7 st) 4, (rdK (rd8 st)).1.getD []⟩
def B4A (st : Rst) : Bool := (rdK st).1.isSome && !(rdK st).2.2
def A9z (st : Rst) : Bool := B4A (rd8 st)
def rdE (st : Rst) : Rst := (rdK (rd8 st)).2
def UQ (l : List Skp) : Prop := l.Pairwise fun x y => ¬ (x.of = y.of ∧ x.n = y.n)
theorem A7A {w x : LN} (h : w.length ≤ 65536) : rbN (A06 w x, false) 65536 = w ∧ rbS (A06 w x, false) 65536 = (x, false) := B9h h qO
theorem B2u {n k : Nat} {x : LN} (h : n < 256 ^ k) : rnN (A0p n k x, false) k = n ∧ rnS (A0p n k x, false) k = (x, false) := B5v h
theorem B9H {of : LN} {n : Nat} {l : List Skp} (h : ∀ y ∈ l, ¬ (y.of = of ∧ y.n = n)) : A0e (tst of n) l = -1 := by
  obtain ⟨hf, -⟩ | ⟨i, y, -, hy, hq, -⟩ := Q8 (tst of n) l
  · exact hf
  · exact absurd (by simp [tst] at hq; exact ⟨hq.2, hq.1⟩) (h y (List.mem_of_getElem? hy))
theorem B2v : ∀ (sks l : List Skp) (x : LN), UQ (l ++ sks) → (∀ y ∈ sks, y.of.length ≤ 65536 ∧ y.n < 4294967296 ∧ y.key.length ≤ 65536) → rdL sks.length l (A2m sks x, false) = (some (l ++ sks), (x, false))
  | [], l, x, _, _ => by rw [List.append_nil]; rfl
  | y :: sks, l, x, hu, h => by
    obtain ⟨h1, h2, h3⟩ := h y qM
    obtain ⟨a1, a2⟩ := A7A (w := y.of) (x := A0p y.n 4 (A06 y.key (A2m sks x))) h1
    obtain ⟨b1, b2⟩ := B2u (n := y.n) (k := 4) (x := A06 y.key (A2m sks x)) h2
    obtain ⟨c1, c2⟩ := A7A (w := y.key) (x := A2m sks x) h3
    have e : rdX (A2m (y :: sks) x, false) = (y, (A2m sks x, false)) := by
      unfold rdX
      show ((⟨rbN (A06 y.of _, false) 65536, rnN (rbS (A06 y.of _, false) 65536) 4, _⟩ : Skp), _) = _
      rw [show A2m (y :: sks) x = A06 y.of (A0p y.n 4 (A06 y.key (A2m sks x))) from rfl, a1, a2, b1, b2, c1, c2]
    have hno : A0e (tst y.of y.n) l = -1 := B9H fun z hz => (List.pairwise_append.1 hu).2.2 z hz y qM
    rw [List.length_cons]
    show (if 0 ≤ A0e (tst (rdX (A2m (y :: sks) x, false)).1.of (rdX (A2m (y :: sks) x, false)).1.n) l then (none, (rdX (A2m (y :: sks) x, false)).2) else rdL sks.length (l ++ [(rdX (A2m (y :: sks) x, false)).1]) (rdX (A2m (y :: sks) x, false)).2) = _
    rw [e]
    dsimp only
    rw [hno, if_neg qD]
    have hu' : UQ ((l ++ [y]) ++ sks) := by rw [List.append_assoc]; exact hu
    rw [B2v sks (l ++ [y]) x hu' fun z hz => h z (by simp [hz]), List.append_assoc]
    rfl
structure LayOk (r : Rsd) : Prop where
  own : r.own.length ≤ 65536
  their : r.their.length ≤ 65536
  root : r.root.length ≤ 65536
  sk : r.sk.length ≤ 65536
  tk : r.tk.length ≤ 65536
  sn : r.sn < 4294967296
  tn : r.tn < 4294967296
  prev : r.prev < 4294967296
  len : r.sks.length ≤ 32
  uq : UQ r.sks
  sks : ∀ y ∈ r.sks, y.of.length ≤ 65536 ∧ y.n < 4294967296 ∧ y.key.length ≤ 65536
theorem B5R {r : Rsd} (h : LayOk r) : rdR (A4k [] r, false) = r ∧ A9z (A4k [] r, false) = true ∧ rdE (A4k [] r, false) = ([], false) := by
  have e : A4k [] r = A06 r.own (A06 r.their (A06 r.root (A06 r.sk (A0p r.sn 4 (A06 r.tk (A0p r.tn 4 (A0p r.prev 4 (A0p r.sks.length 2 (A2m r.sks []))))))))) := by
    have := B5Q [] r []
    rwa [List.append_nil, List.nil_append] at this
  rw [e]
  obtain ⟨a1, a2⟩ := A7A (w := r.own) (x := A06 r.their (A06 r.root (A06 r.sk (A0p r.sn 4 (A06 r.tk (A0p r.tn 4 (A0p r.prev 4 (A0p r.sks.length 2 (A2m r.sks [])))))))))  h.own
  obtain ⟨b1, b2⟩ := A7A (w := r.their) (x := A06 r.root (A06 r.sk (A0p r.sn 4 (A06 r.tk (A0p r.tn 4 (A0p r.prev 4 (A0p r.sks.length 2 (A2m r.sks [])))))))) h.their
  obtain ⟨c1, c2⟩ := A7A (w := r.root) (x := A06 r.sk (A0p r.sn 4 (A06 r.tk (A0p r.tn 4 (A0p r.prev 4 (A0p r.sks.length 2 (A2m r.sks []))))))) h.root
  obtain ⟨d1, d2⟩ := A7A (w := r.sk) (x := A0p r.sn 4 (A06 r.tk (A0p r.tn 4 (A0p r.prev 4 (A0p r.sks.length 2 (A2m r.sks [])))))) h.sk
  obtain ⟨f1, f2⟩ := B2u (n := r.sn) (k := 4) (x := A06 r.tk (A0p r.tn 4 (A0p r.prev 4 (A0p r.sks.length 2 (A2m r.sks []))))) h.sn
  obtain ⟨g1, g2⟩ := A7A (w := r.tk) (x := A0p r.tn 4 (A0p r.prev 4 (A0p r.sks.length 2 (A2m r.sks [])))) h.tk
  obtain ⟨i1, i2⟩ := B2u (n := r.tn) (k := 4) (x := A0p r.prev 4 (A0p r.sks.length 2 (A2m r.sks []))) h.tn
  obtain ⟨j1, j2⟩ := B2u (n := r.prev) (k := 4) (x := A0p r.sks.length 2 (A2m r.sks [])) h.prev
  obtain ⟨k1, k2⟩ := B2u (n := r.sks.length) (k := 2) (x := A2m r.sks []) (by have := h.len; show _ < 65536; omega)
  have hK : rdK (A0p r.sks.length 2 (A2m r.sks []), false) = (some r.sks, ([], false)) := by
    unfold rdK ctN ctS
    have := h.len
    rw [k1, k2, if_neg qO, if_neg qO, B2v r.sks [] [] h.uq h.sks, List.nil_append]
  unfold rdR A9z rdE B4A rd8 rd7 rd5 rd3
  rw [a1, a2, b1, b2, c1, c2, d1, d2, f1, f2, g1, g2, i1, i2, j1, j2, hK]
  exact ⟨rfl, rfl, rfl⟩
theorem B2w : ∀ {k : Nat} {a b : LN}, a.length = k → b.length = k → (∀ x ∈ a, x < 256) → (∀ x ∈ b, x < 256) → bev a = bev b → a = b
  | 0, a, b, ha, hb, _, _, _ => by rw [List.eq_nil_of_length_eq_zero ha, List.eq_nil_of_length_eq_zero hb]
  | k + 1, a, b, ha, hb, h1, h2, h => by
    obtain ⟨a', x, rfl⟩ : ∃ a' x, a = a' ++ [x] := ⟨a.dropLast, a.getLast (by intro e; rw [e] at ha; cases ha), (List.dropLast_concat_getLast _).symm⟩
    obtain ⟨b', y, rfl⟩ : ∃ b' y, b = b' ++ [y] := ⟨b.dropLast, b.getLast (by intro e; rw [e] at hb; cases hb), (List.dropLast_concat_getLast _).symm⟩
    rw [A3d, A3d] at h
    have hx := h1 x qM
    have hy := h2 y qM
    rw [List.length_append, List.length_singleton] at ha hb
    have e1 : bev a' = bev b' := by omega
    have e2 : x = y := by omega
    rw [B2w (k := k) qO qO (fun z hz => h1 z (by simp [hz])) (fun z hz => h2 z (by simp [hz])) e1, e2]
theorem B7Z {ws : LN} {k : Nat} (hl : ws.length = k) (h : ∀ x ∈ ws, x < 256) : beN (bev ws) k = ws :=
  B2w (L9 _ _) hl (A33 _ _) h (B1w (by rw [← hl]; exact B1u h))
def SB (st : Rst) : Prop := ∀ x ∈ st.1, x < 256
theorem A42 {st : Rst} {k : Nat} (hs : SB st) (h : (rnS st k).2 = false) : st.2 = false ∧ st.1 = A0p (rnN st k) k (rnS st k).1 ∧ SB (rnS st k) := by
  by_cases hb : st.2 = true ∨ st.1.length < k
  · rw [(A6M hb).2] at h; cases h
  · have h1 : st.2 = false := by cases hq : st.2 with | false => rfl | true => exact absurd (.inl hq) hb
    obtain ⟨e1, e2⟩ := B7j (k := k) h1 qO
    rw [e1, e2]
    refine ⟨h1, ?_, fun x hx => hs x (List.mem_of_mem_drop hx)⟩
    unfold A0p
    rw [B7Z (by rw [List.length_take]; omega) fun x hx => hs x (List.mem_of_mem_take hx)]
    exact (List.take_append_drop k st.1).symm
theorem A6U {st : Rst} {k : Nat} (hs : SB st) : SB (rnS st k) := by
  unfold rnS
  split
  · exact hs
  · exact fun x hx => hs x (List.mem_of_mem_drop hx)
theorem A4i {st : Rst} {m : Nat} (hs : SB st) (h : (rbS st m).2 = false) : st.2 = false ∧ st.1 = A06 (rbN st m) (rbS st m).1 ∧ SB (rbS st m) := by
  by_cases hb : (rnS st 4).2 = true ∨ rnN st 4 > m ∨ rnN st 4 > (rnS st 4).1.length
  · rw [(B5u hb).2] at h; cases h
  · have h1 : (rnS st 4).2 = false := by cases hq : (rnS st 4).2 with | false => rfl | true => exact absurd (.inl hq) hb
    obtain ⟨a1, a2, a3⟩ := A42 hs h1
    obtain ⟨e1, e2⟩ := B7k (st := st) (most := m) h1 qO qO
    rw [e1, e2]
    refine ⟨a1, ?_, fun x hx => a3 x (List.mem_of_mem_drop hx)⟩
    unfold A06
    rw [List.length_take, Nat.min_eq_left qO, List.append_assoc, List.take_append_drop]
    exact a2
theorem A2B {st : Rst} {m : Nat} (hs : SB st) : SB (rbS st m) := by
  unfold rbS
  split
  · exact A6U hs
  · exact fun x hx => A6U hs x (List.mem_of_mem_drop hx)
theorem B70 {st : Rst} (hs : SB st) (h : (rdX st).2.2 = false) : st.2 = false ∧ st.1 = A06 (rdX st).1.of (A0p (rdX st).1.n 4 (A06 (rdX st).1.key (rdX st).2.1)) ∧ SB (rdX st).2 := by
  have s1 : SB (rbS st 65536) := A2B hs
  have s2 : SB (rnS (rbS st 65536) 4) := A6U s1
  obtain ⟨c1, c2, c3⟩ := A4i s2 (show (rbS (rnS (rbS st 65536) 4) 65536).2 = false from h)
  obtain ⟨b1, b2, -⟩ := A42 s1 c1
  obtain ⟨a1, a2, -⟩ := A4i hs b1
  refine ⟨a1, ?_, c3⟩
  rw [b2, c2] at a2
  exact a2
theorem B2x : ∀ (k : Nat) (l : List Skp) (st : Rst) {l' : List Skp} {st' : Rst}, SB st → rdL k l st = (some l', st') → st'.2 = false → st.2 = false ∧ ∃ sks, l' = l ++ sks ∧ sks.length = k ∧ st.1 = A2m sks st'.1
  | 0, l, st, l', st', _, h, h2 => by
    obtain ⟨e1, e2⟩ := Prod.mk.inj (show (some l, st) = (some l', st') from h)
    obtain rfl := Option.some.inj e1
    obtain rfl := e2
    exact ⟨h2, [], by simp, rfl, rfl⟩
  | k + 1, l, st, l', st', hs, h, h2 => by
    unfold rdL at h
    split at h
    · cases h
    · have s2 : SB (rdX st).2 := A2B (A6U (A2B hs))
      obtain ⟨a1, sks, rfl, a3, a4⟩ := B2x k _ _ s2 h h2
      obtain ⟨b1, b2, -⟩ := B70 hs a1
      refine ⟨b1, (rdX st).1 :: sks, by simp, by simp [a3], ?_⟩
      rw [b2, a4]; rfl
theorem B9I {st : Rst} (hs : SB st) (h : A9z st = true) : st.2 = false ∧ st.1 = A4k [] (rdR st) ++ (rdE st).1 ∧ (rdE st).2 = false := by
  have s3 : SB (rd3 st) := A2B (A2B (A2B hs))
  have s5 : SB (rd5 st) := A6U (A2B s3)
  have s7 : SB (rd7 st) := A6U (A2B s5)
  have s8 : SB (rd8 st) := A6U s7
  unfold A9z B4A at h
  simp only [Bool.and_eq_true, Bool.not_eq_true'] at h
  obtain ⟨h1, h2⟩ := h
  obtain ⟨l, hl⟩ := Option.isSome_iff_exists.1 h1
  have hc2 : rnN (rd8 st) 2 ≤ 32 ∧ rdL (rnN (rd8 st) 2) [] (rnS (rd8 st) 2) = (some l, (rdK (rd8 st)).2) := by
    have e : rdK (rd8 st) = (some l, (rdK (rd8 st)).2) := by rw [← hl]
    by_cases hgt : rnN (rd8 st) 2 > 32
    · exfalso
      unfold rdK ctN ctS at h2
      rw [if_pos hgt, if_pos hgt] at h2
      cases h2
    · refine ⟨by omega, ?_⟩
      rw [← e]
      unfold rdK ctN ctS
      rw [if_neg hgt, if_neg hgt]
  obtain ⟨hc3, hL⟩ := hc2
  have s9 : SB (rnS (rd8 st) 2) := A6U s8
  obtain ⟨c1, sks, e1, e2, e3⟩ := B2x _ _ _ s9 hL h2
  rw [List.nil_append] at e1
  subst e1
  obtain ⟨d1, d2, -⟩ := A42 s8 c1
  obtain ⟨f1, f2, -⟩ := A42 s7 d1
  obtain ⟨g1, g2, -⟩ := A42 (A2B s5) f1
  obtain ⟨i1, i2, -⟩ := A4i s5 g1
  obtain ⟨j1, j2, -⟩ := A42 (A2B s3) i1
  obtain ⟨k1, k2, -⟩ := A4i s3 j1
  obtain ⟨m1, m2, -⟩ := A4i (A2B (A2B hs)) k1
  obtain ⟨n1, n2, -⟩ := A4i (A2B hs) m1
  obtain ⟨o1, o2, -⟩ := A4i hs n1
  refine ⟨o1, ?_, h2⟩
  rw [B5Q, List.nil_append]
  have hsk : (rdR st).sks = l := by show (rdK (rd8 st)).1.getD [] = l; rw [hl]; rfl
  rw [hsk, e2]
  exact o2.trans (congrArg _ (n2.trans (congrArg _ (m2.trans (congrArg _ (k2.trans (congrArg _ (j2.trans (congrArg _ (i2.trans (congrArg _ (g2.trans (congrArg _ (f2.trans (congrArg _ (d2.trans (congrArg _ e3)))))))))))))))))

theorem B9J {st : Rst} (h : ∀ x ∈ st.1, x < 256) (k : Nat) : rnN st k < 256 ^ k := B1B st k h
theorem Rdr.lt {rb : Nat} {st : Rst} {R M : Mem} (h : Rdr rb st R M) : SB st := by
  obtain ⟨v, _, hb⟩ := h.ex; exact hb.lt
theorem Rdr.lt4 {rb : Nat} {st : Rst} {R M : Mem} (h : Rdr rb st R M) : rnN st 4 < 4294967296 := B1B st 4 h.lt
theorem gtN {k : IntKind} (a b : Nat) : I0 .gtr k ((b : Nat) : Int) ((a : Nat) : Int) = some (.bool (decide (a < b))) := by
  by_cases h : a < b
  · rw [decide_eq_true h]; exact gtT qO
  · rw [decide_eq_false h]; exact gtF qO
def chR (R : Mem) (x : LN × Nat) (r : List Value) : Prop := ∃ v, r = [v, (vU x.2)] ∧ By R v x.1 ∧ x.2 < 4294967296
theorem chT : RowT 2 chR := ⟨fun R R' x r hR ⟨v, h1, h2, h3⟩ => ⟨v, h1, h2.mono hR, h3⟩, fun R x r ⟨v, h1, _⟩ => by rw [h1]; rfl, fun R x r ⟨v, h1, h2, _⟩ c hc => by
  rw [h1] at hc
  simp only [List.mem_cons, List.not_mem_nil, or_false] at hc
  rcases hc with rfl | rfl
  · exact h2.one
  · rfl⟩
def B9K (ws : LN) (x : LN × Nat) : LN := A7z ws x.1 x.2
theorem A8C {α β : Type} (f : β → α → β) (b : β) (l : List α) {i : Nat} {x : α} (h : l[i]? = some x) : (l.take (i + 1)).foldl f b = f ((l.take i).foldl f b) x := by
  rw [List.take_add_one, h]; simp
theorem B5S (ws : LN) (x : Skp) : (wX ws x).length = ws.length + x.of.length + x.key.length + 12 := by simp [wX, wB, wN, L9]; omega
theorem B2y : ∀ (l : List Skp) (ws : LN), (∀ y ∈ l, y.of.length ≤ 16777216 ∧ y.key.length ≤ 16777216) → (l.foldl wX ws).length ≤ ws.length + 40000000 * l.length
  | [], ws, _ => by simp
  | y :: l, ws, h => by
    have h1 := h y qM
    have h2 := B5S ws y
    have h3 := B2y l (wX ws y) fun z hz => h z (by simp [hz])
    rw [List.foldl_cons, List.length_cons]; omega
theorem StF.szs {R : Mem} {v : Value} {sks : List Skp} (h : StF R v sks) : ∀ y ∈ sks, y.of.length ≤ 16777216 ∧ y.key.length ≤ 16777216 := by
  obtain ⟨sb, u, rows, -, -, -, hw⟩ := h
  intro y hy
  obtain ⟨i, hi⟩ := List.getElem?_of_mem hy
  obtain ⟨r, -, vo, vk, -, ho, hk, -⟩ := hw.get i y hi
  exact ⟨ho.len, hk.len⟩
theorem A7B (rb most : Nat) (st : Rst) (R M A : Mem) (hR : Rdr rb st R M) (hs : ∀ x, x ∈ R → x ∈ A) (hm : most ≤ 65535) : FnX Tryz.prog 69 [(vP rb), (vI most)] M A fun q M J => q = .int .i64 ((ctN st most : Nat) : Int) ∧ Rdr rb (ctS st most) R M := by
 refine FnX.enterZ (N := 20) Tryz.func69 rfl rfl rfl fun w_ => ?_
 refine B4 (D3 0 1) (A1 (as_ (A0 (D3 0 1) (A1 (mv_ ?_)))))
 refine A4 rfl (C6 (Mc := M) (R := _) (aS rfl (aS rfl a0)) kR qP (A0E rb 2 st R M _ hR (fun x hx => qS x (hs x hx)) qD) rfl ?_)
 rintro v7 M7 J7 ⟨rfl, hR7⟩
 have hn2 : rnN st 2 < 65536 := B9J hR.lt 2
 refine as_ (A0 (D8 0 1 5) (A3 (A1 (mv_ ?_))))
 refine A2 (F4 false rfl rfl (ltF qO)) rfl ?_
 refine mv_ ?_
 refine D6 rfl rfl (OpQ.opL qm_ rfl ?_)
 refine D6 rfl rfl (OpQ.opL qm_ rfl ?_)
 refine D6 rfl rfl (OpQ.opL (K2 (k' := .u64) (most) rfl kR (A1P qO)) rfl ?_)
 refine D6 rfl rfl (OpQ.opL (F4 (decide (most < rnN st 2)) rfl rfl (gtN _ _)) rfl ?_)
 refine A2 (E3 rfl rfl) rfl ?_
 refine A0 (D8 0 5 15) ?_
 refine C0 rfl ?_ ?_ <;> intro hc
 ·
  have hc2 : rnN st 2 > most := of_decide_eq_true hc
  have e1 : ctN st most = 0 := if_pos hc2
  have e2 : ctS st most = ((rnS st 2).1, true) := if_pos hc2
  refine A1 (mv_ ?_)
  refine A4 rfl (C6 (Mc := M7) (R := _) (aS rfl a0) kR qP (Y8 rb _ R M7 _ hR7) rfl ?_)
  rintro v17 M17 J17 hR17
  refine A0 kn (A1 (as_ (A0 (D5 4) (B0 (tr ?_)))))
  exact ⟨_, M17, [], I4 rfl rfl, Fit.none (Fit.last qP), by rw [e1]; rfl, by rw [e2]; exact hR17⟩
 ·
  have hc2 : ¬ rnN st 2 > most := of_decide_eq_false hc
  have e1 : ctN st most = rnN st 2 := if_neg hc2
  have e2 : ctS st most = rnS st 2 := if_neg hc2
  refine A7 (nx (D5 5) (A1 (mv_ ?_)))
  refine A2 (Z5 (k' := .i64) rfl kR (by show _ < 9223372036854775808; omega)) rfl ?_
  refine as_ (A0 (D5 4) (B0 ?_))
  exact ⟨_, M7, [], I4 rfl rfl, Fit.none (Fit.last qP), by rw [e1], by rw [e2]; exact hR7⟩
theorem A9p (rb : Nat) (st : Rst) (R A : Mem) (hR : ∃ v, (rb, blk [v, .bool st.2] 97) ∈ A ∧ By R v st.1) (hgood : st.2 = false) : FnV Tryz.prog 23 [(vP rb)] A (vI st.1.length) := by
 obtain ⟨v, hrb, hby⟩ := hR
 haveI := hby.cel
 refine FnX.enter (N := 10) Tryz.func23 rfl rfl rfl fun w => ?_
 refine B4 (D5 0) (A1 (as_ (A0 (D5 0) (A3 (A1 (mv_ ?_))))))
 refine F0 (aS rfl a0) kR (A37 rb st R _ ⟨v, qS _ hrb, hby⟩) rfl ?_
 rw [hgood]
 refine A0 (D3 0 4) ?_
 refine C9 rfl ?_
 refine A7 (nx (D5 0) (A1 (mv_ ?_)))
 refine A2 (E4 rfl) rfl ?_
 refine A2 (qf_ 0 0) rfl ?_
 refine A2 (I7 rfl kR (mA hrb) qR) rfl ?_
 refine A2 (F8 (sz := 1) rfl kR hby.rd) rfl ?_
 refine as_ (A0 (D5 2) (B0 ?_))
 exact ⟨_, [], [], I4 rfl rfl, List.nil_sublist _, by simp, rfl, rfl, rfl⟩
theorem B9L (wb sb : Nat) (sks : List Skp) (ws : LN) (MW A : Mem) (hW : Wtr wb ws MW) (hS : StF A (vP sb) sks) (hl : sks.length ≤ 1000) (hwl_ : ws.length ≤ 200000000) : FnX Tryz.prog 42 [(vP sb), (vP wb)] MW A fun q M J => q = .tuple #[] ∧ Wtr wb (B9Z ws sks) M := by
 have hsz := hS.szs
 obtain ⟨sb_, u, rows, e, hsb, hrd, hrw⟩ := hS
 obtain rfl : sb = sb_ := by injection e with e; injection e with e; injection e with e _ _
 refine FnX.enterZ (N := 30) Tryz.func42 rfl rfl rfl fun w_ => ?_
 refine B4 (D3 0 1) (A1 (mv_ (mv_ ?_)))
 refine F0 (aS rfl a0) kR (A30 sb sks.length u rows.flatten _ (mA hsb) (hrd.mono qS)) rfl ?_
 refine A2 (A3l rfl kR) rfl ?_
 rw [Nat.mod_eq_of_lt (show sks.length < 18446744073709551616 by omega)]
 refine A4 rfl (C6 (Mc := MW) (R := _) (aS rfl (aS rfl (aS rfl (a0)))) kR qP (A0f wb sks.length 2 ws MW _ hW qO qD qO) rfl ?_)
 rintro v10 M10 J10 ⟨rfl, hW10⟩
 refine A0 (D3 0 1) (A1 (mv_ ?_))
 refine C7 (aS rfl a0) kR (A3c sb sks.length u rows.flatten _ (mA hsb) (hrd.mono qS) (hrw.ones skT) qO) rfl ?_
 rintro v12 M12 J12 hs12
 haveI := hs12.cel
 refine A3E (B := M12) qP ?_
 have hr12 := hs12.rd (R := M12) fun _ h => h
 refine A2 (F8 (sz := 3) rfl kR hr12) rfl ?_
 refine mv_ (A0 (D7 1 12 13 14) (A5 ?_))
 refine E1 (α := Nat × Mem) (fun y => [(1, (vP wb)), (12, v12), (13, (vI sks.length)), (14, (vI y.1))]) (fun y => y.2) (fun _ => _) (fun y => y.1 ≤ sks.length ∧ Wtr wb ((sks.take y.1).foldl wX (wN ws sks.length 2)) y.2) (fun y => sks.length - y.1) (0, M10) ⟨Nat.zero_le _, hW10⟩ (D7 1 12 13 14) (Fit.last qP) qI ?_
 rintro ⟨i, Mi⟩ ⟨hi, hWi⟩
 dsimp only at hi hWi ⊢
 refine A1 ?_
 refine A2 (D9 rfl rfl rfl) rfl ?_
 refine A0 (E6 1 12 13 14 15) (A3 ?_)
 refine C0 rfl ?_ ?_ <;> intro hc
 ·
  have hlt : i < sks.length := by simp at hc; omega
  obtain ⟨x, hx⟩ : ∃ z, sks[i]? = some z := ⟨_, List.getElem?_eq_getElem hlt⟩
  obtain ⟨r, hr, vo, vk, rfl, ho, hk, hxn⟩ := hrw.get i x hx
  haveI := ho.cel
  haveI := hk.cel
  have hft := A8C wX (wN ws sks.length 2) sks hx
  have hbn := B2y (sks.take i) (wN ws sks.length 2) (fun y hy => hsz y (List.mem_of_mem_take hy))
  have hwl : (wN ws sks.length 2).length = ws.length + 2 := by simp [wN, L9]
  have htl : (sks.take i).length = i := by rw [List.length_take]; omega
  have hol := ho.len
  have hkl := hk.len
  obtain ⟨cu, hcu⟩ : ∃ z, (sks.take i).foldl wX (wN ws sks.length 2) = z := ⟨_, rfl⟩
  rw [hcu] at hWi hft hbn
  refine A7 (nx (D7 1 12 13 14) (A3 (A5 (A1 ?_))))
  refine A2 (G8 (sz := 3) (a := i) rfl rfl kR rfl hr12 hlt) rfl ?_
  refine A2 (A58 (sz := 3) rfl kR (hr12.mono qS) (hrw.lens skT) qD hr) rfl ?_
  refine A4 rfl (C3 (cs := [vS, .int .u32 0, vS]) kR rfl fun b5 => ?_)
  refine A4 rfl (A8 (vs := [vo, (vU x.n), vk]) rfl rfl rfl kR qR (A6 ho.one (A6 rfl (A6 hk.one I6))) UpC.upd ?_)
  refine A0 (E6 1 5 12 13 14) ?_
  refine A0w (Mi) (_) true (.range 11) [(0, 0), (1, 0), (2, 1), (4, 0), (5, 1), (6, 0), (8, 0), (9, 1), (3, 2), (7, 2), (10, 2)] kR kR qP fun hs K n0 hKm hKs hKn => ?_
  refine km_ hs ?_
  refine K1 hs rfl (qf_ 0 0) rfl ?_
  refine V2 hs rfl hKs ql_ ?_
  refine K1 hs rfl (qf_ 1 1) rfl ?_
  refine V2 hs rfl hKs ql_ ?_
  refine K1 hs rfl (K2 (k' := .u64) (x.n) rfl kR (A1P qO)) rfl ?_
  refine K1 hs rfl (qf_ 2 2) rfl ?_
  refine V2 hs rfl hKs ql_ ?_
  refine N2 _ _ rfl rfl (List.Perm.refl _) hKm fun w0 => (C6 (Mc := Mi) (R := _) (aS rfl (aS rfl (a0))) kR qP (N4 wb vo x.of cu Mi _ hWi (ho.mono qS) qO) rfl ?_)
  rintro v21 M21 J21 ⟨rfl, hW21⟩ hKx21
  refine N2 M21 _ rfl rfl qP (fun x hx => hKx21 (hKn rfl) x (by simpa using hx)) fun w0 => (C6 (Mc := M21) (R := _) (aS rfl (aS rfl (aS rfl (a0)))) kR qP (A0f wb x.n 4 _ M21 _ hW21 qO qD (by simp [L9]; omega)) rfl ?_)
  rintro v25 M25 J25 ⟨rfl, hW25⟩ hKx25
  refine N2 M25 _ rfl rfl qP (fun x hx => hKx25 (hKn rfl) x (by simpa using hx)) fun w0 => (C6 (Mc := M25) (R := _) (aS rfl (aS rfl (a0))) kR qP (N4 wb vk x.key _ M25 _ hW25 (hk.mono qS) (by simp [L9]; omega)) rfl ?_)
  rintro v28 M28 J28 ⟨rfl, hW28⟩ hKx28
  refine A4H (nb (nx (D7 1 12 13 14) (A9 ?_)))
  refine A2 (D1 ((i + 1 : Nat) : Int) rfl rfl (E5 qO qO qO)) rfl ?_
  refine mv_ (C1 ?_)
  exact rn (i + 1, M28) ⟨hlt, by dsimp only; rw [hft]; exact hW28⟩ (by dsimp only; omega) (D7 1 12 13 14) (Fit.last qP) (fun x h => qS x h)
 ·
  obtain rfl : i = sks.length := by simp at hc; omega
  rw [List.take_length] at hWi
  refine D4 (te (re (be rfl ?_)))
  exact ⟨_, Mi, [], B2E rfl, Fit.none (Fit.last qP), rfl, hWi⟩
theorem B2z (wb : Nat) (r : Rsd) (vo vt vr vk vl vs : Value) (ws : LN) (MW A : Mem) (hW : Wtr wb ws MW) (hr : RsR A r vo vt vr vk vl vs) (hl : ws.length ≤ 1000000) : FnX Tryz.prog 18 [(vP wb), .agg (rsC vo vt vr vk vl vs r).toArray] MW A fun q M J => q = .tuple #[] ∧ Wtr wb (A4k ws r) M := by
 haveI := hr.own.cel
 haveI := hr.their.cel
 haveI := hr.root.cel
 haveI := hr.sk.cel
 haveI := hr.tk.cel
 have hst := hr.st
 obtain ⟨sb, u0, rows0, rfl, -, -, -⟩ := hst
 have z1 := hr.own.len
 have z2 := hr.their.len
 have z3 := hr.root.len
 have z4 := hr.sk.len
 have z5 := hr.tk.len
 have z6 := hr.prev
 unfold rsC
 refine FnX.enterZ (N := 44) Tryz.func18 rfl rfl rfl fun w_ => ?_
 refine B4 (D3 0 1) (A1 ?_)
 refine A4 rfl (bx_ fun b3 => ?_)
 refine A0 (D3 0 3) ?_
 refine K8 (MW) (_) true (.range 10) [(0, 0), (1, 0), (2, 1), (4, 0), (5, 1), (7, 0), (8, 1), (3, 2), (6, 2), (9, 2)] kR kR qP fun hs K n0 hKm hKs hKn => ?_
 refine km_ hs ?_
 refine K1 hs rfl (qf_ 0 0) rfl ?_
 refine V2 hs rfl hKs ql_ ?_
 refine K1 hs rfl (qf_ 1 1) rfl ?_
 refine V2 hs rfl hKs ql_ ?_
 refine K1 hs rfl (qf_ 2 2) rfl ?_
 refine V2 hs rfl hKs ql_ ?_
 refine N2 _ _ rfl rfl (List.Perm.refl _) hKm fun w0 => (C6 (Mc := MW) (R := _) (aS rfl (aS rfl (a0))) kR qP (N4 wb vo r.own ws MW _ hW (hr.own.mono qS) qO) rfl ?_)
 rintro v9 M9 J9 ⟨rfl, hW9⟩ hKx9
 refine N2 M9 _ rfl rfl qP (fun x hx => hKx9 (hKn rfl) x (by simpa using hx)) fun w0 => (C6 (Mc := M9) (R := _) (aS rfl (aS rfl (a0))) kR qP (N4 wb vt r.their _ M9 _ hW9 (hr.their.mono qS) (by simp [L9]; omega)) rfl ?_)
 rintro v12 M12 J12 ⟨rfl, hW12⟩ hKx12
 refine N2 M12 _ rfl rfl qP (fun x hx => hKx12 (hKn rfl) x (by simpa using hx)) fun w0 => (C6 (Mc := M12) (R := _) (aS rfl (aS rfl (a0))) kR qP (N4 wb vr r.root _ M12 _ hW12 (hr.root.mono qS) (by simp [L9]; omega)) rfl ?_)
 rintro v15 M15 J15 ⟨rfl, hW15⟩ hKx15
 change Wtr wb (wB (wB (wB ws r.own) r.their) r.root) M15 at hW15
 have hl3 : (wB (wB (wB ws r.own) r.their) r.root).length = ws.length + r.own.length + r.their.length + r.root.length + 12 := by simp [wB, L9]; omega
 obtain ⟨w3, hw3⟩ : ∃ z, (wB (wB (wB ws r.own) r.their) r.root) = z := ⟨_, rfl⟩
 rw [hw3] at hW15 hl3
 refine P8 (D3 0 3) (A3 (A1 ?_))
 refine A2 (qf_ 3 3) rfl ?_
 refine A2 (P4 (n := 2) rfl kR (by first | exact At.mem | exact mA (by assumption)) TakeC.take) rfl ?_
 refine A2 (qf_ 5 5) rfl ?_
 refine A2 (P4 (n := 2) rfl kR (by first | exact At.mem | exact mA (by assumption)) TakeC.take) rfl ?_
 refine A4 rfl (C4 (e := 38) (sz := 2) (z := [vS, .int .u32 0, vS, .int .u32 0]) kR (eS rfl (eS rfl e0)) (bdS 0 2 rfl qR (bdS 2 2 rfl qR bd0)) rfl fun b20 => ?_)
 refine A2 (A07 (e := 38) rfl kR) rfl ?_
 refine mv_ (A0 (E6 0 3 20 21 22) (A5 ?_))
 refine A0Z (B := [(b20, blk [vk, (vU r.sn), vl, (vU r.tn)] 38)]) qP ?_
 have hr20 : Rd [(b20, blk [vk, (vU r.sn), vl, (vU r.tn)] 38)] 2 (.slice (some ⟨b20, 0, none⟩) 2 2) 2 ([[vk, (vU r.sn)], [vl, (vU r.tn)]] : List (List Value)).flatten := Rd.whole (n := 2) qK qR
 have hrw : RwL chR A [[vk, (vU r.sn)], [vl, (vU r.tn)]] [(r.sk, r.sn), (r.tk, r.tn)] := RwL.cons ⟨vk, rfl, hr.sk, hr.sn⟩ (RwL.cons ⟨vl, rfl, hr.tk, hr.tn⟩ RwL.nil)
 refine E1 (α := Nat × Mem) (fun y => [(0, (vP wb)), (3, (vP b3)), (20, .slice (some ⟨b20, 0, none⟩) 2 2), (21, .int .i64 2), (22, (vI y.1))]) (fun y => y.2 ++ [(b3, blk [vo, vt, vr, vk, (vU r.sn), vl, (vU r.tn), (vU r.prev), (vP sb)] 41)]) (fun _ => _) (fun y => y.1 ≤ 2 ∧ Wtr wb (([(r.sk, r.sn), (r.tk, r.tn)].take y.1).foldl B9K w3) y.2) (fun y => 2 - y.1) (0, M15) ⟨Nat.zero_le _, hW15⟩ (E6 0 3 20 21 22) (Fit.pick qP (Fit.last qP)) qI ?_
 rintro ⟨i, Mi⟩ ⟨hi, hWi⟩
 dsimp only at hi hWi ⊢
 refine A1 ?_
 refine A2 (D9 rfl rfl rfl) rfl ?_
 refine A0 (H5 0 3 20 21 22 23) (A3 ?_)
 refine C0 rfl ?_ ?_ <;> intro hc
 ·
  have hlt : i < 2 := by simp at hc; omega
  obtain ⟨x, hx⟩ : ∃ z, [(r.sk, r.sn), (r.tk, r.tn)][i]? = some z := ⟨_, List.getElem?_eq_getElem hlt⟩
  obtain ⟨rw_, hrr, vx, rfl, hvx, hxn⟩ := hrw.get i x hx
  haveI := hvx.cel
  have hft := A8C B9K w3 [(r.sk, r.sn), (r.tk, r.tn)] hx
  have hvl := hvx.len
  have hcl : ([(r.sk, r.sn), (r.tk, r.tn)].take i |>.foldl B9K w3).length ≤ w3.length + 40000000 := by rcases (by omega : i = 0 ∨ i = 1) with rfl | rfl <;> simp [B9K, A7z, wN, wB, L9] <;> omega
  obtain ⟨cu, hcu⟩ : ∃ z, ([(r.sk, r.sn), (r.tk, r.tn)].take i).foldl B9K w3 = z := ⟨_, rfl⟩
  rw [hcu] at hWi hft hcl
  refine A7 (nx (E6 0 3 20 21 22) (A3 (A5 (A1 ?_))))
  refine A2 (G8 (sz := 2) (a := i) rfl rfl kR rfl hr20 hlt) rfl ?_
  refine A2 (A58 (sz := 2) rfl kR (hr20.mono qS) (hrw.lens chT) qD hrr) rfl ?_
  refine A4 rfl (C3 (cs := [vS, .int .u32 0]) kR rfl fun b5 => ?_)
  refine A4 rfl (A8 (vs := [vx, (vU x.2)]) rfl rfl rfl kR qR (A6 hvx.one (A6 rfl I6)) UpC.upd ?_)
  refine A0 (H5 0 3 5 20 21 22) ?_
  refine A0w (Mi) (_) true (.range 8) [(0, 0), (1, 0), (2, 1), (4, 0), (5, 1), (6, 0), (3, 2), (7, 2)] kR kR qP fun hs K n0 hKm hKs hKn => ?_
  refine km_ hs ?_
  refine K1 hs rfl (qf_ 0 0) rfl ?_
  refine V2 hs rfl hKs ql_ ?_
  refine K1 hs rfl (qf_ 1 1) rfl ?_
  refine V2 hs rfl hKs ql_ ?_
  refine K1 hs rfl (K2 (k' := .u64) (x.2) rfl kR (A1P qO)) rfl ?_
  refine N2 _ _ rfl rfl (List.Perm.refl _) hKm fun w0 => (C6 (Mc := Mi) (R := _) (aS rfl (aS rfl (a0))) kR qP (N4 wb vx x.1 cu Mi _ hWi (hvx.mono qS) qO) rfl ?_)
  rintro v29 M29 J29 ⟨rfl, hW29⟩ hKx29
  refine N2 M29 _ rfl rfl qP (fun x hx => hKx29 (hKn rfl) x (by simpa using hx)) fun w0 => (C6 (Mc := M29) (R := _) (aS rfl (aS rfl (aS rfl (a0)))) kR qP (A0f wb x.2 4 _ M29 _ hW29 qO qD (by simp [L9]; omega)) rfl ?_)
  rintro v33 M33 J33 ⟨rfl, hW33⟩ hKx33
  refine A4H (nb (nx (E6 0 3 20 21 22) (A9 ?_)))
  refine A2 (D1 ((i + 1 : Nat) : Int) rfl rfl (E5 qO qO qO)) rfl ?_
  refine mv_ (C1 ?_)
  exact rn (i + 1, M33) ⟨hlt, by dsimp only; rw [hft]; exact hW33⟩ (by dsimp only; omega) (E6 0 3 20 21 22) (Fit.pick qP (Fit.last qP)) (fun x h => qS x h)
 ·
  obtain rfl : i = 2 := by simp at hc; omega
  change Wtr wb (A7z (A7z w3 r.sk r.sn) r.tk r.tn) Mi at hWi
  have hcl : (A7z (A7z w3 r.sk r.sn) r.tk r.tn).length ≤ w3.length + 40000000 := by simp [A7z, wN, wB, L9]; omega
  obtain ⟨cu, hcu⟩ : ∃ z, A7z (A7z w3 r.sk r.sn) r.tk r.tn = z := ⟨_, rfl⟩
  rw [hcu] at hWi hcl
  refine D4 (te (re (be rfl (nx (D3 0 3) (A1 (mv_ ?_))))))
  refine A2 (qf_ 7 7) rfl ?_
  refine A2 ql_ rfl ?_
  refine A2 (K2 (k' := .u64) (r.prev) rfl kR (A1P qO)) rfl ?_
  refine A4 rfl (C6 (Mc := Mi) (R := _) (aS rfl (aS rfl (aS rfl (a0)))) kR qP (A0f wb r.prev 4 cu Mi _ hWi qO qD qO) rfl ?_)
  rintro v39 M39 J39 ⟨rfl, hW39⟩
  refine A0 (D3 0 3) (A9 ?_)
  refine A2 (qf_ 8 8) rfl ?_
  refine A2 ql_ rfl ?_
  refine mv_ ?_
  refine A4 rfl (C6 (Mc := M39) (R := _) (aS rfl (aS rfl (a0))) kR qP (B9L wb sb r.sks _ M39 _ hW39 (hr.st.mono qS) hr.sks (by simp [L9]; omega)) rfl ?_)
  rintro v43 M43 J43 ⟨rfl, hW43⟩
  refine C1 ?_
  exact ⟨_, M43, [], B2E rfl, Fit.none (Fit.last qP), rfl, by unfold A4k; rw [hw3, hcu]; exact hW43⟩
theorem geZ {k : IntKind} (a : Int) : I0 .geq k a 0 = some (.bool (decide (0 ≤ a))) := by
  by_cases h : 0 ≤ a
  · rw [decide_eq_true h]; exact geT h
  · rw [decide_eq_false h]; exact geF qO
theorem C0X (rb : Nat) (st : Rst) (R M A : Mem) (hR : Rdr rb st R M) (hs : ∀ x, x ∈ R → x ∈ A) : FnX Tryz.prog 45 [(vP rb)] M A fun q M' J => ∃ MR MS o, M' = MR ++ MS ∧ q = .tuple #[.pointer o, .bool (B4A st)] ∧ Rdr rb (rdK st).2 R MR ∧ (B4A st = true → ∃ sb, o = some ⟨sb, 0, none⟩ ∧ Sto (J ++ R) sb ((rdK st).1.getD []) MS) := by
 refine FnX.enterZ (N := 42) Tryz.func45 rfl rfl rfl fun w_ => ?_
 refine B4 (D5 0) (A1 (as_ (as_ (A0 (D5 0) (A1 ?_)))))
 refine A2 (F6 (place := fun x => #[(0, 1)][x]?) (z := [vS]) (fun _ => by kernel_rfl) e0 bd0) rfl ?_
 refine A4 rfl (bx_ fun b7 => ?_)
 refine as_ (A0 (D3 0 4) (A3 (A1 (mv_ ?_))))
 refine A4 rfl (C6 (Mc := M) (R := _) (aS rfl (aS rfl a0)) kR qP (A7B rb 32 st R M _ hR (fun x hx => qS x (hs x hx)) qD) rfl ?_)
 rintro v9 M9 J9 ⟨rfl, hR9⟩
 have hct := B5w st 32
 refine mv_ (A0 (D7 0 4 9 10) (A5 ?_))
 refine E1 (α := Nat × Mem × Value × List (List Value) × Mem × Mem × List Skp × Rst) (fun y => [(0, (vP rb)), (4, (vP b7)), (9, .int .i64 ((ctN st 32 : Nat) : Int)), (10, (vI y.1))]) (fun y => y.2.1 ++ ((b7, blk [y.2.2.1] 80) :: y.2.2.2.2.1)) (fun y => y.2.2.2.2.2.1) (fun y => y.1 ≤ ctN st 32 ∧ Rdr rb y.2.2.2.2.2.2.2 R y.2.1 ∧ Sl 3 y.2.2.1 y.2.2.2.2.2.2.1.length y.2.2.2.1.flatten y.2.2.2.2.1 ∧ RwL skR (y.2.2.2.2.2.1 ++ R) y.2.2.2.1 y.2.2.2.2.2.2.1 ∧ y.2.2.2.2.2.2.1.length = y.1 ∧ rdL (ctN st 32 - y.1) y.2.2.2.2.2.2.1 y.2.2.2.2.2.2.2 = rdK st) (fun y => ctN st 32 - y.1) (0, M9, vS, [], [], J9, [], ctS st 32) ⟨Nat.zero_le _, hR9, Sl.nil, RwL.nil, rfl, rfl⟩ (D7 0 4 9 10) (Fit.pick qP (Fit.last qP)) (fun _ h => by simpa using h) ?_
 rintro ⟨i, Mi, vi, rwi, Bi, Ji, l, s⟩ ⟨hi, hRi, hsl, hrw, hll, hdl⟩
 dsimp only at hi hRi hsl hrw hll hdl ⊢
 haveI := hsl.cel
 refine A1 ?_
 refine A2 (D9 rfl rfl rfl) rfl ?_
 refine A0 (E6 0 4 9 10 11) (A3 ?_)
 refine C0 rfl ?_ ?_ <;> intro hc
 ·
  have hlt : i < ctN st 32 := by simp at hc; omega
  obtain ⟨m, hm⟩ : ∃ m, ctN st 32 - i = m + 1 := ⟨ctN st 32 - i - 1, by omega⟩
  rw [hm] at hdl
  refine A7 (nx (D7 0 4 9 10) (A3 (A5 (A1 (mv_ ?_)))))
  refine A4 rfl (C6 (Mc := Mi) (R := _) (aS rfl (aS rfl a0)) kR qP (U3 rb 65536 s R Mi _ hRi (fun x hx => qS x (hs x hx)) qD) rfl ?_)
  rintro v13 M13 J13 ⟨h13, hR13⟩
  haveI := h13.cel
  refine mv_ ?_
  refine A4 rfl (C6 (Mc := M13) (R := _) (aS rfl (aS rfl a0)) kR qP (A0E rb 4 (rbS s 65536) R M13 _ hR13 (fun x hx => qS x (hs x hx)) qD) rfl ?_)
  rintro v15 M15 J15 ⟨rfl, hR15⟩
  have n15 := hR13.lt4
  refine A2 (K2 (k' := .u32) (rnN (rbS s 65536) 4) rfl kR (A5O qO)) rfl ?_
  refine mv_ ?_
  refine A4 rfl (C6 (Mc := M15) (R := _) (aS rfl (aS rfl a0)) kR qP (U3 rb 65536 (rnS (rbS s 65536) 4) R M15 _ hR15 (fun x hx => qS x (hs x hx)) qD) rfl ?_)
  rintro v18 M18 J18 ⟨h18, hR18⟩
  haveI := h18.cel
  change Rdr rb (rdX s).2 R M18 at hR18
  change By _ v13 (rdX s).1.of at h13
  change By _ v18 (rdX s).1.key at h18
  refine A2 (F6 (place := fun x => #[(0, 1), (1, 1), (2, 1)][x]?) (z := [vS, .int .u32 0, vS]) (fun _ => by kernel_rfl) (eS rfl (eS rfl (eS rfl e0))) (bdS 0 1 rfl qR (bdS 1 1 rfl qR (bdS 2 1 rfl qR bd0)))) rfl ?_
  refine A4 rfl (C3 (cs := [vS, .int .u32 0, vS]) kR rfl fun b5 => ?_)
  refine A4 rfl (A8 (vs := [v13, .int .u32 ((rnN (rbS s 65536) 4 : Nat) : Int), v18]) rfl rfl rfl kR qR (A6 h13.one (A6 rfl (A6 h18.one I6))) UpC.upd ?_)
  refine A0 (E6 0 4 5 9 10) (A3 (A1 (mv_ ?_)))
  refine A2 (qf_ 0 0) rfl ?_
  refine A2 ql_ rfl ?_
  refine A2 (qf_ 1 1) rfl ?_
  refine A2 ql_ rfl ?_
  refine F0 (aS rfl (aS rfl (aS rfl a0))) kR (A2g b7 vi v13 rwi l (rdX s).1.of (rdX s).1.n _ qM (hsl.rd qS) (hrw.mono skT (fun x hx => (List.mem_append.1 hx).elim (qS x) (fun h => qS x (hs x h)))) qO (h13.mono qS)) rfl ?_
  refine A2 (F4 (decide (0 ≤ (A0e (tst (rdX s).1.of (rdX s).1.n) l))) rfl rfl (geZ _)) rfl ?_
  refine A0 (H5 0 4 5 9 10 26) ?_
  refine C0 rfl ?_ ?_ <;> intro hc
  ·
   have hf : 0 ≤ (A0e (tst (rdX s).1.of (rdX s).1.n) l) := of_decide_eq_true hc
   unfold rdL at hdl
   rw [if_pos hf] at hdl
   have hko : B4A st = false := by unfold B4A; rw [← hdl]; rfl
   have hke : (rdK st).2 = (rdX s).2 := by rw [← hdl]
   refine A1 (as_ (as_ (A0 (D3 2 3) (B0 (tr (br (tr (rr ?_))))))))
   refine br (tr ?_)
   exact ⟨_, M18, [], A1U rfl rfl rfl, Fit.none (Fit.last qP), M18, [], none, by simp, by rw [hko],  by rw [hke]; exact hR18, fun h => by rw [hko] at h; cases h⟩
  ·
   have hf : ¬ 0 ≤ (A0e (tst (rdX s).1.of (rdX s).1.n) l) := of_decide_eq_false hc
   unfold rdL at hdl
   rw [if_neg hf] at hdl
   refine A7 (nx (E6 0 4 5 9 10) ?_)
   refine G3 [0, 1, 2, 3, 4, 5, 6, 8, 9] (zp 0 [0, 0, 0, 0, 1, 1, 2, 2, 0, 0, 2]) kR kR fun hs => ?_
   refine fm_ hs ?_
   refine fm_ hs ?_
   refine C2 hs rfl (E4 rfl) rfl ?_
   refine C2 hs rfl (qf_ 0 0) rfl ?_
   refine H2 hs rfl ql_ rfl ?_
   refine H2 hs rfl (qw_ 3) rfl ?_
   refine A91 rfl rfl fun _ => (C4 (e := 55) (sz := 3) (z := [vS, .int .u32 0, vS]) kR (eS rfl e0) (bdS 0 3 rfl qR bd0) rfl fun b33 => ?_)
   refine G2 rfl rfl rfl (G9 (e := 55) (sz := 3) (by_ := 56) rfl rfl kR rfl hsl (Rd.whole (n := 1) At.mem qR) (A6 h13.one (A6 rfl (A6 h18.one I6))) qP (by unfold maxLen; omega) qO rfl fun v34 B34 hs34 => ?_)
   haveI := hs34.cel
   refine C2 hs rfl (E4 rfl) rfl ?_
   refine C2 hs rfl (qf_ 0 0) rfl ?_
   refine G2 rfl rfl rfl (E0 rfl rfl hs34.one kR SetC.set UpC.upd ?_)
   refine P9 (nb (nx (D7 0 4 9 10) (A9 ?_)))
   refine A2 (D1 ((i + 1 : Nat) : Int) rfl rfl (E5 qO qO qO)) rfl ?_
   refine mv_ (C1 ?_)
   exact rn (i + 1, M18, v34, rwi ++ [[v13, .int .u32 ((rnN (rbS s 65536) 4 : Nat) : Int), v18]], B34, _, l ++ [(rdX s).1], (rdX s).2) ⟨hlt, hR18, Sl.cast hs34 (by dsimp only; rw [List.length_append, List.length_singleton]) (by dsimp only; simp), (hrw.mono skT qS).snoc ⟨v13, v18, rfl, h13.mono qS, h18.mono qS, n15⟩, by dsimp only; rw [List.length_append, List.length_singleton, hll], by dsimp only; rw [show ctN st 32 - (i + 1) = m by omega]; exact hdl⟩ (by dsimp only; omega) (D7 0 4 9 10) (Fit.pick qP (Fit.pick (B := [_]) qP (Fit.last qP))) qI
 ·
  obtain rfl : i = ctN st 32 := by simp at hc; omega
  rw [Nat.sub_self] at hdl
  change (some l, s) = rdK st at hdl
  refine D4 (te (re (be rfl (nx (D3 0 4) (A1 (mv_ (mv_ ?_)))))))
  refine F0 (aS rfl a0) kR (A37 rb s R _ (hRi.rd qS)) rfl ?_
  refine A2 (Y0 rfl) rfl ?_
  refine as_ (as_ (A0 (D3 2 3) (B0 ?_)))
  exact ⟨_, Mi ++ ((b7, blk [vi] 80) :: Bi), [], A1U rfl rfl rfl, Fit.none (Fit.pick qP (Fit.pick (B := [_]) qP (Fit.last qP))), Mi, (b7, blk [vi] 80) :: Bi, some ⟨b7, 0, none⟩, rfl, by rw [show B4A st = !s.2 by unfold B4A; rw [← hdl]; rfl], by rw [← hdl]; exact hRi, fun _ => ⟨b7, rfl, by rw [← hdl]; exact ⟨vi, rwi, Bi, rfl, hsl, hrw.mono skT qS⟩⟩⟩
theorem B2A : ∀ (k : Nat) (l : List Skp) (st : Rst) {l' : List Skp}, (rdL k l st).1 = some l' → l'.length = l.length + k
  | 0, l, st, l', h => by rw [← Option.some.inj (show some l = some l' from h)]; rfl
  | k + 1, l, st, l', h => by
    unfold rdL at h
    split at h
    · cases h
    · have := B2A k _ _ h
      rw [List.length_append, List.length_singleton] at this
      omega
theorem B71 (st : Rst) : ((rdK st).1.getD []).length ≤ 32 := by
  have h := B5w st 32
  cases hq : (rdK st).1 with
  | none => exact Nat.zero_le _
  | some l =>
    have := B2A (ctN st 32) [] (ctS st 32) hq
    rw [List.length_nil] at this
    show l.length ≤ 32
    omega
theorem B4B (rb : Nat) (st : Rst) (R M A : Mem) (hR : Rdr rb st R M) (hs : ∀ x, x ∈ R → x ∈ A) : FnX Tryz.prog 21 [(vP rb)] M A fun q M' J => ∃ q1, q = .tuple #[q1, .bool (A9z st)] ∧ Rdr rb (rdE st) R M' ∧ (A9z st = true → RsV (J ++ R) q1 (rdR st)) ∧ (A9z st = false → q1 = .agg #[vS, vS, vS, vS, .int .u32 0, vS, .int .u32 0, .int .u32 0, .pointer none]) := by
 refine FnX.enterZ (N := 43) Tryz.func21 rfl rfl rfl fun w_ => ?_
 refine B4 (D5 0) (A1 ?_)
 refine A4 rfl (C3 (cs := [vS, vS, vS, vS, F5, vS, F5, F5, .pointer none]) kR rfl fun b2 => ?_)
 refine as_ (A0 (D3 0 2) (A1 (mv_ ?_)))
 refine A4 rfl (C6 (Mc := M) (R := _) (aS rfl (aS rfl a0)) kR qP (U3 rb 65536 st R M _ hR (fun x hx => qS x (hs x hx)) qD) rfl ?_)
 rintro v8 M8 J8 ⟨h8, hR8⟩
 haveI := h8.cel
 refine mv_ ?_
 refine A4 rfl (C6 (Mc := M8) (R := _) (aS rfl (aS rfl a0)) kR qP (U3 rb 65536 (rbS st 65536) R M8 _ hR8 (fun x hx => qS x (hs x hx)) qD) rfl ?_)
 rintro v10 M10 J10 ⟨h10, hR10⟩
 haveI := h10.cel
 refine mv_ ?_
 refine A4 rfl (C6 (Mc := M10) (R := _) (aS rfl (aS rfl a0)) kR qP (U3 rb 65536 (rbS (rbS st 65536) 65536) R M10 _ hR10 (fun x hx => qS x (hs x hx)) qD) rfl ?_)
 rintro v12 M12 J12 ⟨h12, hR12⟩
 haveI := h12.cel
 change Rdr rb (rd3 st) R M12 at hR12
 refine A2 (F6 (place := fun x => #[(0, 1), (1, 1), (2, 1), (3, 2), (5, 2), (7, 1), (8, 1)][x]?) (z := [vS, vS, vS, vS, F5, vS, F5, F5, .pointer none]) (fun _ => by kernel_rfl) (eS rfl (eS rfl (eS rfl e0))) (bdS 0 1 rfl qR (bdS 1 1 rfl qR (bdS 2 1 rfl qR bd0)))) rfl ?_
 refine A4 rfl (C3 (cs := [vS, vS, vS, vS, F5, vS, F5, F5, .pointer none]) kR rfl fun b4 => ?_)
 refine A4 rfl (A8 (vs := [v8, v10, v12, vS, .int .u32 0, vS, .int .u32 0, .int .u32 0, .pointer none]) rfl rfl rfl kR qR (A6 h8.one (A6 h10.one (A6 h12.one al6))) UpC.upd ?_)
 refine A0 (D8 0 2 4) (A1 (mv_ ?_))
 refine A4 rfl (C6 (Mc := M12) (R := _) (aS rfl (aS rfl a0)) kR qP (U3 rb 65536 (rd3 st) R M12 _ hR12 (fun x hx => qS x (hs x hx)) qD) rfl ?_)
 rintro v15 M15 J15 ⟨h15, hR15⟩
 haveI := h15.cel
 refine mv_ ?_
 refine A4 rfl (C6 (Mc := M15) (R := _) (aS rfl (aS rfl a0)) kR qP (A0E rb 4 (rbS (rd3 st) 65536) R M15 _ hR15 (fun x hx => qS x (hs x hx)) qD) rfl ?_)
 rintro v17 M17 J17 ⟨rfl, hR17⟩
 have n17 := hR15.lt4
 change Rdr rb (rd5 st) R M17 at hR17
 refine A2 (K2 (k' := .u32) (rnN (rbS (rd3 st) 65536) 4) rfl kR (A5O qO)) rfl ?_
 refine A2 (F6 (place := fun x => #[(0, 1), (1, 1)][x]?) (z := [vS, .int .u32 0]) (fun _ => by kernel_rfl) (eS rfl (eS rfl e0)) (bdS 0 1 rfl qR (bdS 1 1 rfl qR bd0))) rfl ?_
 refine A2 (qf_ 3 3) rfl ?_
 refine A4 rfl (L3 (vs := [v15, .int .u32 ((rnN (rbS (rd3 st) 65536) 4 : Nat) : Int)]) (cs' := [v8, v10, v12, v15, .int .u32 ((rnN (rbS (rd3 st) 65536) 4 : Nat) : Int), vS, .int .u32 0, .int .u32 0, .pointer none]) rfl rfl rfl kR (by exact (show 3 + 2 ≤ 9 by decide)) (A6 h15.one (A6 rfl I6)) rfl UpC.upd ?_)
 refine A0 (D8 0 2 4) (A1 (mv_ ?_))
 refine A4 rfl (C6 (Mc := M17) (R := _) (aS rfl (aS rfl a0)) kR qP (U3 rb 65536 (rd5 st) R M17 _ hR17 (fun x hx => qS x (hs x hx)) qD) rfl ?_)
 rintro v22 M22 J22 ⟨h22, hR22⟩
 haveI := h22.cel
 refine mv_ ?_
 refine A4 rfl (C6 (Mc := M22) (R := _) (aS rfl (aS rfl a0)) kR qP (A0E rb 4 (rbS (rd5 st) 65536) R M22 _ hR22 (fun x hx => qS x (hs x hx)) qD) rfl ?_)
 rintro v24 M24 J24 ⟨rfl, hR24⟩
 have n24 := hR22.lt4
 change Rdr rb (rd7 st) R M24 at hR24
 refine A2 (K2 (k' := .u32) (rnN (rbS (rd5 st) 65536) 4) rfl kR (A5O qO)) rfl ?_
 refine A2 (F6 (place := fun x => #[(0, 1), (1, 1)][x]?) (z := [vS, .int .u32 0]) (fun _ => by kernel_rfl) (eS rfl (eS rfl e0)) (bdS 0 1 rfl qR (bdS 1 1 rfl qR bd0))) rfl ?_
 refine A2 (qf_ 5 5) rfl ?_
 refine A4 rfl (L3 (vs := [v22, .int .u32 ((rnN (rbS (rd5 st) 65536) 4 : Nat) : Int)]) (cs' := [v8, v10, v12, v15, .int .u32 ((rnN (rbS (rd3 st) 65536) 4 : Nat) : Int), v22, .int .u32 ((rnN (rbS (rd5 st) 65536) 4 : Nat) : Int), .int .u32 0, .pointer none]) rfl rfl rfl kR (by exact (show 5 + 2 ≤ 9 by decide)) (A6 h22.one (A6 rfl I6)) rfl UpC.upd ?_)
 refine A0 (D8 0 2 4) (A1 (mv_ ?_))
 refine A4 rfl (C6 (Mc := M24) (R := _) (aS rfl (aS rfl a0)) kR qP (A0E rb 4 (rd7 st) R M24 _ hR24 (fun x hx => qS x (hs x hx)) qD) rfl ?_)
 rintro v29 M29 J29 ⟨rfl, hR29⟩
 have n29 := hR24.lt4
 change Rdr rb (rd8 st) R M29 at hR29
 refine A2 (K2 (k' := .u32) (rnN (rd7 st) 4) rfl kR (A5O qO)) rfl ?_
 refine A2 (qf_ 7 7) rfl ?_
 refine A4 rfl (E0 rfl rfl rfl kR SetC.set UpC.upd ?_)
 refine A0 (D8 0 2 4) (A1 (mv_ ?_))
 refine A4 rfl (C6 (Mc := M29) (R := _) (aS rfl a0) kR qP (C0X rb (rd8 st) R M29 _ hR29 (fun x hx => qS x (hs x hx))) rfl ?_)
 rintro v34 M34 J34 ⟨MR, MS, o, rfl, rfl, hR34, hok⟩
 change A9z st = true → _ at hok
 change Rdr rb (rdE st) R MR at hR34
 change XL _ _ _ _ ((34, .tuple #[.pointer o, .bool (A9z st)]) :: _) _ _
 refine mv_ ?_
 refine A2 (A0G rfl) rfl ?_
 refine A2 (A0x rfl) rfl ?_
 refine as_ (as_ (A0 (D7 2 4 5 6) (A1 (mv_ ?_))))
 refine A2 (qf_ 8 8) rfl ?_
 refine A4 rfl (E0 rfl rfl rfl kR SetC.set UpC.upd ?_)
 refine A0 (D8 2 4 6) (A3 (A1 (mv_ ?_)))
 refine A2 (Y0 rfl) rfl ?_
 refine A0 (D8 2 4 40) ?_
 refine C0 rfl ?_ ?_ <;> intro hc
 ·
  have ho : A9z st = false := by simpa using hc
  refine A1 ?_
  refine A2 (F6 (place := fun x => #[(0, 1), (1, 1), (2, 1), (3, 2), (5, 2), (7, 1), (8, 1)][x]?) (z := [vS, vS, vS, vS, F5, vS, F5, F5, .pointer none]) (fun _ => by kernel_rfl) e0 bd0) rfl ?_
  refine A4 rfl (A8 (vs := [vS, vS, vS, vS, .int .u32 0, vS, .int .u32 0, .int .u32 0, .pointer none]) rfl rfl rfl kR qR (A6 rfl al8) UpC.upd ?_)
  refine as_ (A0 (D3 2 3) (B0 (tr ?_)))
  rw [ho]
  exact ⟨_, MR, [], A2R (n := 9) rfl rfl rfl kR At.mem qR, Fit.none (Fit.last qP), _, rfl, hR34, (fun h => by cases h), fun _ => rfl⟩
 ·
  have ho : A9z st = true := by simpa using hc
  obtain ⟨sb, rfl, hS⟩ := hok ho
  obtain ⟨u5, rows5, BS5, rfl, hs5, hw5⟩ := hS.ex
  have hrd5 := hs5.rd (R := BS5) fun _ h => h
  have hkl : ((rdK (rd8 st)).1.getD []).length ≤ 1000 := by have := B71 (rd8 st); omega
  refine A7 (nx (D3 2 4) ?_)
  refine A0Z (B := (sb, blk [u5] 80) :: BS5) qP ?_
  refine A1 ?_
  refine A2 (qw_ 9) rfl ?_
  refine A4 rfl (A8 (vs := [v8, v10, v12, v15, .int .u32 ((rnN (rbS (rd3 st) 65536) 4 : Nat) : Int), v22, .int .u32 ((rnN (rbS (rd5 st) 65536) 4 : Nat) : Int), .int .u32 ((rnN (rd7 st) 4 : Nat) : Int), (vP sb)]) rfl rfl rfl kR qR (A6 h8.one (A6 h10.one (A6 h12.one (A6 h15.one (A6 rfl (A6 h22.one al3)))))) UpC.upd ?_)
  refine as_ (A0 (D3 2 3) (B0 ?_))
  rw [ho]
  exact ⟨_, MR, [], A2R (n := 9) rfl rfl rfl kR At.mem qR, Fit.none (Fit.last qP), _, rfl, hR34, fun _ => ⟨v8, v10, v12, v15, v22, _, rfl, ⟨h8.mono qS, h10.mono qS, h12.mono qS, h15.mono qS, h22.mono qS, ⟨sb, u5, rows5, rfl, by simp, hrd5.mono qS, hw5.mono skT qS⟩, n17, n24, n29, hkl⟩⟩, fun h => by cases h⟩

structure SU (l : List Skp) : Prop where
  len : l.length ≤ 32
  uq : UQ l
theorem SU.nil : SU [] := ⟨Nat.zero_le _, List.Pairwise.nil⟩
theorem B4C (sks : List Skp) (of : LN) (n : Nat) : (A2S sks of n).Sublist sks := by
  unfold A2S
  split
  · exact List.Sublist.refl _
  · exact List.eraseIdx_sublist _ _
theorem SU.del {l : List Skp} (h : SU l) (of : LN) (n : Nat) : SU (A2S l of n) := ⟨Nat.le_trans (A3b _ _ _) h.len, h.uq.sublist (B4C _ _ _)⟩
theorem B9M {l : List Skp} (h : UQ l) (of : LN) (n : Nat) : ∀ y ∈ A2S l of n, ¬ (y.of = of ∧ y.n = n) := by
  intro y hy hc
  obtain ⟨hf, hz⟩ | ⟨i, x, hf, hx, hq, -⟩ := Q8 (tst of n) l
  · rw [A3Z hf] at hy
    have := hz y hy
    simp [tst, hc] at this
  · rw [A2f hf] at hy
    obtain ⟨j, hj, hne, e⟩ := List.mem_eraseIdx_iff_getElem.1 hy
    have hi := (List.getElem?_eq_some_iff.1 hx)
    obtain ⟨hi, hxe⟩ := hi
    simp [tst] at hq
    have hp := List.pairwise_iff_getElem.1 h
    rcases Nat.lt_or_gt_of_ne hne with h1 | h1
    · exact hp j i hj hi h1 ⟨by rw [e, hxe, hc.1, hq.2], by rw [e, hxe, hc.2, hq.1]⟩
    · exact hp i j hi hj h1 ⟨by rw [e, hxe, hc.1, hq.2], by rw [e, hxe, hc.2, hq.1]⟩
theorem SU.put {l : List Skp} (h : SU l) (x : Skp) : SU (B39 l x) := by
  refine ⟨A8h _ _, List.Pairwise.sublist (List.drop_sublist _ _) (l₂ := A2S l x.of x.n ++ [x]) ?_⟩
  refine List.pairwise_append.2 ⟨(h.del _ _).uq, by simp, fun y hy z hz => ?_⟩
  rw [List.mem_singleton.1 hz]
  exact B9M h.uq _ _ y hy
theorem SU.rep {of : LN} : ∀ (i : Nat) {x : Ast}, SU x.2.2.2 → SU (rep (aSt of) i x).2.2.2
  | 0, x, h => h
  | i + 1, x, h => (SU.rep i h).put _
theorem SU.ah {s : Ps} {key of : LN} {N n : Nat} {sks : List Skp} (h : SU sks) : SU (ahX s key N n of sks).2.2.2 := by
  by_cases hE : ahE N n = 0
  · rw [A2A hE]; exact SU.rep (n - N) (x := (s, key, N, sks)) h
  · rw [A8w hE]; exact h
theorem SU.opn {s : Ps} {r : Rsd} {w hk g : LN} {hp hn : Nat} (h : SU r.sks) : SU (N5 s r w hk hp hn g).2.1.sks := by
  have hA : SU (opA s r hp).2.2.2 := by
    unfold opA
    split
    · exact h
    · exact h.ah
  have hB : SU (opB s r hk hp).2.sks := by
    unfold opB
    split
    · exact hA
    · exact h
  have hC : SU (opC (opB s r hk hp) hn).2.2.2 := hB.ah
  unfold N5
  split
  · split
    · exact h
    · exact h.del _ _
  · split
    · exact h
    · split
      · exact h
      · split
        · exact h
        · unfold opZ
          split
          · exact hC
          · exact hC
structure ByI (i : Nat) (s : Ps) (a b : Rsd) : Prop where
  gs : GS s
  wa : WfR s a
  wb : WfR s b
  sa : SU a.sks
  sb : SU b.sks
  len : s.ts.length ≤ 12 + 300 * i
  n : s.n ≤ 3 + i
theorem ByI.swap {i : Nat} {s : Ps} {a b : Rsd} (h : ByI i s a b) : ByI i s b a := ⟨h.gs, h.wb, h.wa, h.sb, h.sa, h.len, h.n⟩
theorem ByI.up {i : Nat} {s : Ps} {a b : Rsd} (h : ByI i s a b) : ByI (i + 1) s a b := ⟨h.gs, h.wa, h.wb, h.sa, h.sb, by have := h.len; omega, by have := h.n; omega⟩
structure ByS (i : Nat) (s : Ps) (a b : Rsd) (t : LN) : Prop where
  snt : Snt (U5 s a F1 t) (I2 s a.own) a.prev a.sn (A0V s a F1 t)
  no : ByI (i + 1) (U5 s a F1 t) (V7 s a) b
  o : OpnH (U5 s a F1 t) b (I2 s a.own) a.prev a.sn
  yes : ∀ z, N5 (U5 s a F1 t) b F1 (I2 s a.own) a.prev a.sn (A0V s a F1 t) = z → ByI (i + 1) z.1 (V7 s a) z.2.1
  l1 : (U5 s a F1 t).ts.length ≤ 20 + 300 * i
  n1 : (U5 s a F1 t).n ≤ 3 + i
theorem B2B {i : Nat} {s : Ps} {a b : Rsd} {t : LN} (h : ByI i s a b) (hi : i ≤ 100) (hsk : a.sk ≠ []) (pv : a.prev < 4294967296) (sn : a.sn < 4294967296) (tn : b.tn < 4294967296) (ht : ∀ x ∈ t, x < 256) (htl : t.length ≤ 900) : ByS i s a b t := by
  have hl := h.len
  have hn := h.n
  obtain ⟨a1, a2, a3, a4, a5, a6, a7, a8⟩ := B9A (w := F1) (t := t) h.gs h.wa hsk pv sn A8B qD ht htl qO
  have l1 := A2l s a F1 t
  have hO := B9D (w := F1) (g := A0V s a F1 t) a1 (h.wb.ext a2.p) a5 tn qO (by have := h.sb.len; omega) qO
  obtain ⟨o1, o2, o3, o4, o5, o6, o7, o8⟩ := hO
  refine ⟨a5, ⟨a1, a3, h.wb.ext a2.p, h.sa, h.sb, by omega, by omega⟩, o1, fun z hz => ?_, by omega, by omega⟩
  have hsu := SU.opn (s := U5 s a F1 t) (w := F1) (hk := I2 s a.own) (hp := a.prev) (hn := a.sn) (g := A0V s a F1 t) h.sb
  rw [hz] at o2 o3 o4 o5 o6 hsu
  exact ⟨o2, a3.ext o3.p, o4, h.sa, hsu, by omega, by omega⟩
theorem KK.le {s : Ps} {w : LN} (h : w = [] ∨ KK s w) : w.length ≤ 65536 := by
  rcases h with rfl | h
  · exact Nat.zero_le _
  · rw [h.2.2]; decide
theorem B5T {s : Ps} {r : Rsd} (h : WfR s r) (hs : SU r.sks) (h1 : r.sn < 4294967296) (h2 : r.tn < 4294967296) (h3 : r.prev < 4294967296) : LayOk r := by
  refine ⟨KK.le (.inr h.own), ?_, KK.le (.inr h.root), KK.le h.sk, KK.le h.tk, h1, h2, h3, hs.len, hs.uq, fun y hy => ?_⟩
  · rcases h.th with e | ⟨b, -, hb⟩
    · rw [e]; exact Nat.zero_le _
    · rw [hb.k32.2]; decide
  · obtain ⟨k1, k2, k3⟩ := h.sks y hy
    exact ⟨by rw [k2]; decide, k3, KK.le (.inr k1)⟩
theorem by0 (m : Nat) : ByI 0 (A9w (rS m) (rK m) (rP m)) (A9v (rS m) (rK m) (rP m)) (B7i (rK m) (rO m)) := by
  obtain ⟨w1, w2, w3, w4, w5, -, -⟩ := wf0 m
  exact ⟨w1, w2, w3, SU.nil, SU.nil, by omega, by omega⟩

end Go.Proofs.YtlilcmjbaknafaaGreatDoor
