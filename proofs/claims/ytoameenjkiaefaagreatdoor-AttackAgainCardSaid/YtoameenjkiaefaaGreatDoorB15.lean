/- Part 15 of the texts of this claim, one behind the other. -/
import Derived.Test.YtoameenjkiaefaaGreatDoorB14
set_option linter.unusedVariables false
set_option linter.unusedSimpArgs false
set_option maxRecDepth 100000
namespace Go.Proofs.YtoameenjkiaefaaGreatDoor
open Go.Px
def evA (e : Ev) (fu fd tu td : Int) (n : Nat) : Ev := ⟨fu, fd, tu, td, e.ses, e.has, e.he, e.hk, e.hp, n, e.g⟩
theorem EvR.adr {R : Mem} {e : Ev} {vs p r u vk vg : Value} (h : EvR R e vs p r u vk vg) {fu fd tu td : Int} {n : Nat} (hn : n < 4294967296) : EvR R (evA e fu fd tu td n) vs p r u vk vg := ⟨h.ses, h.he, h.hil, h.hk, h.g, h.hp, hn⟩
theorem B3M (i : Int) : Int.tmod i 1 = 0 := Int.tmod_one i
theorem B0S (i : Int) (A : Mem) : FnV Tryz.prog 85 [.int .i64 i, .int .i64 1] A (.int .i64 0) := by
 refine FnX.enter (N := 13) Tryz.func85 rfl rfl rfl fun w_ => ?_
 refine A8 (D0 0 1) (A1 (as_ (A0 (D0 0 1) (A7 (A1 (mv_ ?_))))))
 refine A2 (F6 false rfl rfl (eqF qD)) rfl ?_
 refine A0 (E7 0 1 6) ?_
 refine B8 rfl ?_
 refine A5 (nx (D0 0 1) (A1 (mv_ ?_)))
 refine A2 (A5q (k' := .u64) rfl kR) rfl ?_
 refine mv_ ?_
 refine A2 (U4 (k' := .u64) 1 rfl kR qR) rfl ?_
 refine A2 (B01 rfl rfl qD) rfl ?_
 rw [B3M]
 refine A2 (U4 (k' := .i64) 0 rfl kR qR) rfl ?_
 refine as_ (A0 (C8 4) (A6 ?_))
 exact ⟨_, [], [], F4 rfl rfl, List.nil_sublist _, by simp, rfl, rfl, rfl⟩
set_option maxHeartbeats 1000000 in
theorem A8t (bz0 bz1 bz2 bz3 bz4 bz5 bz6 bz7 bz8 bz9 : Value) (vb kb : Nat) (pb : Nat × Nat) (u1 u2 : Value) (rows : List (List Value)) (e : Ev) (pick fu fd tu td : Int) (R A : Mem) (hv : (vb, blk [.pointer (some ⟨pb.1, 0, none⟩), (vP kb), u1, u2] 93) ∈ A) (hr : Rd A 16 u1 1 rows.flatten) (hrw : RwL evW R rows [e]) : FnX Tryz.prog 48 [(vP vb), .agg #[.int .u8 0, .int .i64 pick, .int .i64 0, .int .i64 fu, .int .i64 fd, .int .i64 tu, .int .i64 td, .int .u32 0, vS], .agg #[bz0, bz1, bz2, bz3, bz4, bz5, bz6, bz7, bz8, bz9]] [] A fun q M J => M = [] ∧ ∃ vs q0 q1 q2 vk vg, q = .tuple #[.agg (evC vs q0 q1 q2 vk vg (evA e fu fd tu td e.hn)).toArray, .int .i64 0] ∧ EvR R (evA e fu fd tu td e.hn) vs q0 q1 q2 vk vg := by
 obtain ⟨r0, hr0, xv, q0, q1, q2, vk, vg, rfl, he_⟩ := hrw.get 0 e rfl
 haveI := he_.ses.cel
 haveI := he_.he.ia.cel
 haveI := he_.he.ig.cel
 haveI := he_.he.key.cel
 haveI := he_.hk.cel
 haveI := he_.g.cel
 unfold evC at hr0
 haveI := hr.cel
 refine FnX.enterZ (N := 154) Tryz.func48 rfl rfl rfl fun w_ => ?_
 refine A8 (E7 0 1 2) (A1 ?_)
 refine A4 rfl (bx_ fun b4 => ?_)
 refine A4 rfl (bx_ fun b5 => ?_)
 refine A4 rfl (D3 (cs := [F9, F9, F9, F9, vS, .bool false, vS, vS, vS, E8, .bool false, E8, vS, E8, E8, vS]) kR rfl fun b6 => ?_)
 refine as_ (A0 (F8 0 4 5 6) (A7 (A1 ?_)))
 refine A2 (qf_ 0 0) rfl ?_
 refine A2 ql_ rfl ?_
 refine A2 (F6 false rfl rfl (eqF qD)) rfl ?_
 refine A0 (H9 0 4 5 6 17) ?_
 refine B8 rfl ?_
 refine A5 (nx (F8 0 4 5 6) ?_)
 refine F5 (.range 9) (zp 0 [0, 1, 0, 0, 0, 1, 0, 2, 0]) kR kR fun hs => ?_
 refine D9 hs rfl (qf_ 1 1) rfl ?_
 refine Q5 hs rfl ql_ rfl ?_
 refine fm_ hs ?_
 refine D9 hs rfl (D5 rfl) rfl ?_
 refine D9 hs rfl (qf_ 2 2) rfl ?_
 refine Q5 hs rfl (G7 rfl kR (mA hv) qR) rfl ?_
 refine D9 hs rfl (E1 (sz := 16) rfl kR hr) rfl ?_
 refine N2 rfl (aS rfl (aS rfl a0)) kR (B0S pick _) rfl ?_
 refine fa_ hs ?_
 refine H4 (H9 0 4 5 6 8) (A7 (A1 (mv_ ?_)))
 refine A2 (F6 false rfl rfl (ltF qD)) rfl ?_
 refine A0 (L1 0 4 5 6 8 33) ?_
 refine B8 rfl ?_
 refine A5 (nx (H9 0 4 5 6 8) (A1 (mv_ ?_)))
 refine A2 (D5 rfl) rfl ?_
 refine A2 (qf_ 2 2) rfl ?_
 refine A2 (G7 rfl kR (mA hv) qR) rfl ?_
 refine mv_ ?_
 refine A2 (E9 (sz := 16) (a := 0) rfl rfl kR rfl hr Nat.zero_lt_one) rfl ?_
 refine A2 (T7 rfl kR (hr.mono qS) (hrw.lens evT) qD hr0) rfl ?_
 refine A4 rfl (D3 (cs := [F9, F9, F9, F9, vS, .bool false, vS, vS, vS, E8, .bool false, E8, vS, E8, E8, vS]) kR rfl fun b9 => ?_)
 refine A4 rfl (C0 (vs := [.int .i64 e.fu, .int .i64 e.fd, .int .i64 e.tu, .int .i64 e.td, xv, .bool e.has, q0, q1, q2, (vU e.he.signed), .bool e.he.has, (vU e.he.once), vk, (vU e.hp), (vU e.hn), vg]) rfl rfl rfl kR qR (A3 rfl (A3 rfl (A3 rfl (A3 rfl (A3 he_.ses.one (A3 rfl (A3 he_.he.ia.one (A3 he_.he.ig.one (A3 he_.he.key.one (A3 rfl (A3 rfl (A3 rfl (A3 he_.hk.one (A3 rfl (A3 rfl (A3 he_.g.one I5)))))))))))))))) UpC.upd ?_)
 refine A0 (H9 0 4 5 6 9) (A7 (A1 ?_))
 refine A2 (qf_ 0 0) rfl ?_
 refine A2 ql_ rfl ?_
 refine A0 (L1 0 4 5 6 9 43) (C6 (A1 ?_))
 refine A2 (F6 true rfl rfl (eqT rfl)) rfl ?_
 refine as_ (A0 (V0 0 4 5 6 9 43 45) ?_)
 refine G3 rfl ?_
 refine Q0 ([(b9, blk [.int .i64 e.fu, .int .i64 e.fd, .int .i64 e.tu, .int .i64 e.td, xv, .bool e.has, q0, q1, q2, (vU e.he.signed), .bool e.he.has, (vU e.he.once), vk, (vU e.hp), (vU e.hn), vg] 37)]) (_) true (.range 7) (zp 0 [0, 1, 0, 1, 0, 2, 0, 2]) kR kR qP fun hs K n0 hKm hKs hKn => ?_
 refine E4 hs rfl (qf_ 3 3) rfl ?_
 refine I2 hs rfl hKs (E6 (n := 2) (vs := [.int .i64 fu, .int .i64 fd]) rfl kR At.mem rfl (D4 [.int .u8 0, .int .i64 pick, .int .i64 0] [.int .i64 fu, .int .i64 fd] [.int .i64 tu, .int .i64 td, .int .u32 0, vS])) ?_
 refine E4 hs rfl (qf_ 5 5) rfl ?_
 refine I2 hs rfl hKs (E6 (n := 2) (vs := [.int .i64 tu, .int .i64 td]) rfl kR At.mem rfl (D4 [.int .u8 0, .int .i64 pick, .int .i64 0, .int .i64 fu, .int .i64 fd] [.int .i64 tu, .int .i64 td] [.int .u32 0, vS])) ?_
 refine E4 hs rfl (qf_ 0 0) rfl ?_
 refine F7 [(b9, blk [.int .i64 e.fu, .int .i64 e.fd, .int .i64 e.tu, .int .i64 e.td, xv, .bool e.has, q0, q1, q2, (vU e.he.signed), .bool e.he.has, (vU e.he.once), vk, (vU e.hp), (vU e.hn), vg] 37)] _ rfl rfl qP (fun x hx => hKm x hx) fun w0 => (I4 (vs := [.int .i64 fu, .int .i64 fd]) (cs' := [.int .i64 fu, .int .i64 fd, .int .i64 e.tu, .int .i64 e.td, xv, .bool e.has, q0, q1, q2, (vU e.he.signed), .bool e.he.has, (vU e.he.once), vk, (vU e.hp), (vU e.hn), vg]) rfl rfl rfl kR (by exact (show 0 + 2 ≤ 16 by decide)) al2 rfl UpC.upd ?_)
 intro hKx5
 dsimp only [List.cons_append, List.nil_append, List.append_eq]
 refine E4 hs rfl (qf_ 2 2) rfl ?_
 refine I6 rfl rfl rfl (I4 (vs := [.int .i64 tu, .int .i64 td]) (cs' := [.int .i64 fu, .int .i64 fd, .int .i64 tu, .int .i64 td, xv, .bool e.has, q0, q1, q2, (vU e.he.signed), .bool e.he.has, (vU e.he.once), vk, (vU e.hp), (vU e.hn), vg]) rfl rfl rfl kR (by exact (show 2 + 2 ≤ 16 by decide)) al2 rfl UpC.upd ?_)
 refine Z6 (nb (nx (D0 6 9) (A1 ?_)))
 refine A2 (U3 (n := 16) (cs := [.int .i64 fu, .int .i64 fd, .int .i64 tu, .int .i64 td, xv, .bool e.has, q0, q1, q2, (vU e.he.signed), .bool e.he.has, (vU e.he.once), vk, (vU e.hp), (vU e.hn), vg]) rfl kR At.mem qR) rfl ?_
 refine A4 rfl (C0 (vs := [.int .i64 fu, .int .i64 fd, .int .i64 tu, .int .i64 td, xv, .bool e.has, q0, q1, q2, (vU e.he.signed), .bool e.he.has, (vU e.he.once), vk, (vU e.hp), (vU e.hn), vg]) rfl rfl rfl kR qR (A3 rfl (A3 rfl (A3 rfl (A3 rfl (A3 he_.ses.one (A3 rfl (A3 he_.he.ia.one (A3 he_.he.ig.one (A3 he_.he.key.one (A3 rfl (A3 rfl (A3 rfl (A3 he_.hk.one (A3 rfl (A3 rfl (A3 he_.g.one I5)))))))))))))))) UpC.upd ?_)
 refine as_ (A0 (D0 6 7) (A6 ?_))
 exact ⟨_, [], [], Z4 (n := 16) rfl rfl rfl kR At.mem qR, qZ, rfl, xv, q0, q1, q2, vk, vg, rfl, he_.adr (by first | assumption | exact he_.hn)⟩
set_option maxHeartbeats 1000000 in
theorem A8u (bz0 bz1 bz2 bz3 bz4 bz5 bz6 bz7 bz8 bz9 : Value) (vb kb : Nat) (pb : Nat × Nat) (u1 u2 : Value) (rows : List (List Value)) (e : Ev) (pick fu fd tu td : Int) (n : Nat) (hn : n < 4294967296) (R A : Mem) (hv : (vb, blk [.pointer (some ⟨pb.1, 0, none⟩), (vP kb), u1, u2] 93) ∈ A) (hr : Rd A 16 u1 1 rows.flatten) (hrw : RwL evW R rows [e]) : FnX Tryz.prog 48 [(vP vb), .agg #[.int .u8 1, .int .i64 pick, .int .i64 0, .int .i64 fu, .int .i64 fd, .int .i64 tu, .int .i64 td, (vU n), vS], .agg #[bz0, bz1, bz2, bz3, bz4, bz5, bz6, bz7, bz8, bz9]] [] A fun q M J => M = [] ∧ ∃ vs q0 q1 q2 vk vg, q = .tuple #[.agg (evC vs q0 q1 q2 vk vg (evA e fu fd tu td n)).toArray, .int .i64 0] ∧ EvR R (evA e fu fd tu td n) vs q0 q1 q2 vk vg := by
 obtain ⟨r0, hr0, xv, q0, q1, q2, vk, vg, rfl, he_⟩ := hrw.get 0 e rfl
 haveI := he_.ses.cel
 haveI := he_.he.ia.cel
 haveI := he_.he.ig.cel
 haveI := he_.he.key.cel
 haveI := he_.hk.cel
 haveI := he_.g.cel
 unfold evC at hr0
 haveI := hr.cel
 refine FnX.enterZ (N := 154) Tryz.func48 rfl rfl rfl fun w_ => ?_
 refine A8 (E7 0 1 2) (A1 ?_)
 refine A4 rfl (bx_ fun b4 => ?_)
 refine A4 rfl (bx_ fun b5 => ?_)
 refine A4 rfl (D3 (cs := [F9, F9, F9, F9, vS, .bool false, vS, vS, vS, E8, .bool false, E8, vS, E8, E8, vS]) kR rfl fun b6 => ?_)
 refine as_ (A0 (F8 0 4 5 6) (A7 (A1 ?_)))
 refine A2 (qf_ 0 0) rfl ?_
 refine A2 ql_ rfl ?_
 refine A2 (F6 false rfl rfl (eqF qD)) rfl ?_
 refine A0 (H9 0 4 5 6 17) ?_
 refine B8 rfl ?_
 refine A5 (nx (F8 0 4 5 6) ?_)
 refine F5 (.range 9) (zp 0 [0, 1, 0, 0, 0, 1, 0, 2, 0]) kR kR fun hs => ?_
 refine D9 hs rfl (qf_ 1 1) rfl ?_
 refine Q5 hs rfl ql_ rfl ?_
 refine fm_ hs ?_
 refine D9 hs rfl (D5 rfl) rfl ?_
 refine D9 hs rfl (qf_ 2 2) rfl ?_
 refine Q5 hs rfl (G7 rfl kR (mA hv) qR) rfl ?_
 refine D9 hs rfl (E1 (sz := 16) rfl kR hr) rfl ?_
 refine N2 rfl (aS rfl (aS rfl a0)) kR (B0S pick _) rfl ?_
 refine fa_ hs ?_
 refine H4 (H9 0 4 5 6 8) (A7 (A1 (mv_ ?_)))
 refine A2 (F6 false rfl rfl (ltF qD)) rfl ?_
 refine A0 (L1 0 4 5 6 8 33) ?_
 refine B8 rfl ?_
 refine A5 (nx (H9 0 4 5 6 8) (A1 (mv_ ?_)))
 refine A2 (D5 rfl) rfl ?_
 refine A2 (qf_ 2 2) rfl ?_
 refine A2 (G7 rfl kR (mA hv) qR) rfl ?_
 refine mv_ ?_
 refine A2 (E9 (sz := 16) (a := 0) rfl rfl kR rfl hr Nat.zero_lt_one) rfl ?_
 refine A2 (T7 rfl kR (hr.mono qS) (hrw.lens evT) qD hr0) rfl ?_
 refine A4 rfl (D3 (cs := [F9, F9, F9, F9, vS, .bool false, vS, vS, vS, E8, .bool false, E8, vS, E8, E8, vS]) kR rfl fun b9 => ?_)
 refine A4 rfl (C0 (vs := [.int .i64 e.fu, .int .i64 e.fd, .int .i64 e.tu, .int .i64 e.td, xv, .bool e.has, q0, q1, q2, (vU e.he.signed), .bool e.he.has, (vU e.he.once), vk, (vU e.hp), (vU e.hn), vg]) rfl rfl rfl kR qR (A3 rfl (A3 rfl (A3 rfl (A3 rfl (A3 he_.ses.one (A3 rfl (A3 he_.he.ia.one (A3 he_.he.ig.one (A3 he_.he.key.one (A3 rfl (A3 rfl (A3 rfl (A3 he_.hk.one (A3 rfl (A3 rfl (A3 he_.g.one I5)))))))))))))))) UpC.upd ?_)
 refine A0 (H9 0 4 5 6 9) (A7 (A1 ?_))
 refine A2 (qf_ 0 0) rfl ?_
 refine A2 ql_ rfl ?_
 refine A0 (L1 0 4 5 6 9 43) (C6 (A1 ?_))
 refine A2 (F6 false rfl rfl (eqF qD)) rfl ?_
 refine as_ (A0 (V0 0 4 5 6 9 43 45) ?_)
 refine B8 rfl ?_
 refine A1 ?_
 refine A2 (F6 true rfl rfl (eqT rfl)) rfl ?_
 refine as_ (A0 (V0 0 4 5 6 9 43 53) ?_)
 refine G3 rfl ?_
 refine A2m (M' := [(b9, blk [.int .i64 e.fu, .int .i64 e.fd, .int .i64 e.tu, .int .i64 e.td, xv, .bool e.has, q0, q1, q2, (vU e.he.signed), .bool e.he.has, (vU e.he.once), vk, (vU e.hp), (vU e.hn), vg] 37), (b6, blk [.int .i64 0, .int .i64 0, .int .i64 0, .int .i64 0, vS, .bool false, vS, vS, vS, .int .u32 0, .bool false, .int .u32 0, vS, .int .u32 0, .int .u32 0, vS] 37), (b4, blk [.int .u8 1, .int .i64 pick, .int .i64 0, .int .i64 fu, .int .i64 fd, .int .i64 tu, .int .i64 td, (vU n), vS] 57)]) (J' := []) (Fit.pick (B := [_]) qP (Fit.pick (B := [_]) qP (Fit.pick (B := [_]) qP qZ))) (fun _ h => by cases h) ?_
 refine E5 ([]) (_) true (.range 15) (zp 0 [0, 0, 0, 1, 0, 1, 0, 0, 0, 1, 0, 3, 3, 3, 4, 2]) kR kR qP fun hs K n0 hKm hKs hKn => ?_
 refine km_ hs ?_
 refine E4 hs rfl (D5 rfl) rfl ?_
 refine E4 hs rfl (qf_ 2 2) rfl ?_
 refine I2 hs rfl hKs (G7 rfl kR (mA hv) qR) ?_
 refine E4 hs rfl (qf_ 2 2) rfl ?_
 refine I2 hs rfl hKs ql_ ?_
 refine km_ hs ?_
 refine E4 hs rfl (D5 rfl) rfl ?_
 refine E4 hs rfl (qf_ 2 2) rfl ?_
 refine I2 hs rfl hKs (G7 rfl kR (mA hv) qR) ?_
 refine E4 hs rfl (E1 (sz := 16) rfl kR (by first | assumption | exact Sl.rd (by assumption) qI | exact By.rd (by assumption))) rfl ?_
 refine S2 [⟨11, 66, none, [], fun v B _ => B = [] ∧ v = .int .i64 0⟩, ⟨12, 67, none, [], fun v B _ => B = [] ∧ v = vAt 16 0 u1⟩, ⟨13, 68, none, [], fun v B _ => B = [] ∧ v = .agg #[.int .i64 e.fu, .int .i64 e.fd, .int .i64 e.tu, .int .i64 e.td, xv, .bool e.has, q0, q1, q2, (vU e.he.signed), .bool e.he.has, (vU e.he.once), vk, (vU e.hp), (vU e.hn), vg]⟩, ⟨14, 10, none, [], fun v B _ => ∃ b, v = (vP b) ∧ B = [(b, blk [.int .i64 0, .int .i64 0, .int .i64 0, .int .i64 0, vS, .bool false, vS, vS, vS, .int .u32 0, .bool false, .int .u32 0, vS, .int .u32 0, .int .u32 0, vS] 37)]⟩] ([(b9, blk [.int .i64 e.fu, .int .i64 e.fd, .int .i64 e.tu, .int .i64 e.td, xv, .bool e.has, q0, q1, q2, (vU e.he.signed), .bool e.he.has, (vU e.he.once), vk, (vU e.hp), (vU e.hn), vg] 37), (b6, blk [.int .i64 0, .int .i64 0, .int .i64 0, .int .i64 0, vS, .bool false, vS, vS, vS, .int .u32 0, .bool false, .int .u32 0, vS, .int .u32 0, .int .u32 0, vS] 37), (b4, blk [.int .u8 1, .int .i64 pick, .int .i64 0, .int .i64 fu, .int .i64 fd, .int .i64 tu, .int .i64 td, (vU n), vS] 57)]) (fun bs => [bs 11, bs 12, bs 13, bs 14]) (hKn rfl) (by simp [S1, V3]) (show ∀ m ∈ ([[], [], [], []] : List Mem), ∀ x ∈ m, K x.1 from A3 (fun _ h => by cases h) (A3 (fun _ h => by cases h) (A3 (fun _ h => by cases h) (A3 (fun _ h => by cases h) (I5))))) kR (fun _ => by first | rfl | kernel_rfl)
  (A3 (fun _ _ _ _ _ h => h) (A3 (fun _ _ _ _ _ h => h) (A3 (fun _ _ _ _ _ h => h) (A3 (fun _ _ _ _ _ h => h) (I5))))) (show List.Nodup [66, 67, 68, 10] by decide) (show List.Nodup [11, 12, 13, 14] by decide) (A3 (D6 rfl) (A3 (D6 rfl) (A3 (D6 rfl) (A3 (D6 rfl) (I5)))))
  (A3 ⟨_, rfl, fun vs bs R Rj wG hb hj hjr ha => ⟨.inl rfl, ?_⟩⟩ (A3 ⟨_, rfl, fun vs bs R Rj wG hb hj hjr ha => ⟨.inl rfl, ?_⟩⟩ (A3 ⟨_, rfl, fun vs bs R Rj wG hb hj hjr ha => ⟨.inl rfl, ?_⟩⟩ (A3 ⟨_, rfl, fun vs bs R Rj wG hb hj hjr ha => ⟨.inl rfl, ?_⟩⟩ (I5))))) ?_
 ·
  dsimp only [Gc.inp]
  exact Y1 (aS rfl (aS rfl a0)) kR (B0S 0 _) rfl ⟨_, rfl, rfl, rfl⟩
 ·
  dsimp only [Gc.inp]
  have g11 := ha _ (List.mem_of_getElem? (i := 0) rfl) kR
  replace g11 : (fun v B _ => B = [] ∧ v = .int .i64 0) (vs 11) (bs 11) Rj := g11
  dsimp only at g11
  obtain ⟨-, e11⟩ := g11
  exact OpQ.opL (E9 (sz := 16) (a := 0) (k := .i64) (i := 0) rfl (by rw [← e11]; rfl) kR rfl hr Nat.zero_lt_one) rfl ⟨_, rfl, rfl, rfl⟩
 ·
  dsimp only [Gc.inp]
  have g12 := ha _ (List.mem_of_getElem? (i := 1) rfl) kR
  replace g12 : (fun v B _ => B = [] ∧ v = vAt 16 0 u1) (vs 12) (bs 12) Rj := g12
  dsimp only at g12
  obtain ⟨-, e12⟩ := g12
  exact OpQ.opL (T7 (rows := rows) (by rw [← e12]; rfl) kR ((hr.mono (fun x hx => hj x (qS x hx))).mono (fun x hx => by have := hjr x hx; simp [this])) (hrw.lens evT) qD hr0) rfl ⟨_, rfl, rfl, rfl⟩
 ·
  dsimp only [Gc.inp]
  exact D3 (cs := [F9, F9, F9, F9, vS, .bool false, vS, vS, vS, E8, .bool false, E8, vS, E8, E8, vS]) kR rfl fun b => ⟨_, rfl, b, rfl, rfl⟩
 intro vs bs Jn0 hφ hKK
 have kk11 := hKK _ (List.mem_of_getElem? (i := 0) rfl)
 dsimp only at kk11
 have kk12 := hKK _ (List.mem_of_getElem? (i := 1) rfl)
 dsimp only at kk12
 have kk13 := hKK _ (List.mem_of_getElem? (i := 2) rfl)
 dsimp only at kk13
 have kk14 := hKK _ (List.mem_of_getElem? (i := 3) rfl)
 dsimp only at kk14
 clear hKK
 have g11 := ofH hφ
 dsimp only at g11
 replace hφ := ofT hφ
 have g12 := ofH hφ
 dsimp only at g12
 replace hφ := ofT hφ
 have g13 := ofH hφ
 dsimp only at g13
 replace hφ := ofT hφ
 have g14 := ofH hφ
 dsimp only at g14
 clear hφ
 dsimp only [L9, S1, List.foldr, List.map, List.cons_append, List.nil_append]
 generalize bs 11 = B66 at *
 generalize bs 12 = B67 at *
 generalize bs 13 = B68 at *
 generalize bs 14 = B10 at *
 generalize vs 11 = u66 at *
 generalize vs 12 = u67 at *
 generalize vs 13 = u68 at *
 generalize vs 14 = u10 at *
 obtain ⟨rfl, rfl⟩ := g11
 obtain ⟨rfl, rfl⟩ := g12
 obtain ⟨rfl, rfl⟩ := g13
 obtain ⟨b10, rfl, rfl⟩ := g14
 dsimp only [List.append_eq, List.nil_append, List.cons_append]
 refine I6 rfl rfl rfl (C0 (vs := [.int .i64 e.fu, .int .i64 e.fd, .int .i64 e.tu, .int .i64 e.td, xv, .bool e.has, q0, q1, q2, (vU e.he.signed), .bool e.he.has, (vU e.he.once), vk, (vU e.hp), (vU e.hn), vg]) rfl rfl rfl kR qR (A3 rfl (A3 rfl (A3 rfl (A3 rfl (A3 he_.ses.one (A3 rfl (A3 he_.he.ia.one (A3 he_.he.ig.one (A3 he_.he.key.one (A3 rfl (A3 rfl (A3 rfl (A3 he_.hk.one (A3 rfl (A3 rfl (A3 he_.g.one I5)))))))))))))))) UpC.upd ?_)
 refine H7 (F8 4 6 9 10) ?_
 refine E5 ([(b9, blk [.int .i64 e.fu, .int .i64 e.fd, .int .i64 e.tu, .int .i64 e.td, xv, .bool e.has, q0, q1, q2, (vU e.he.signed), .bool e.he.has, (vU e.he.once), vk, (vU e.hp), (vU e.hn), vg] 37)]) (_) true (.range 15) (zp 0 [0, 1, 0, 1, 0, 1, 0, 1, 0, 2, 0, 2, 0, 2, 0, 2]) kR kR qP fun hs K n0 hKm hKs hKn => ?_
 refine E4 hs rfl (qf_ 4 4) rfl ?_
 refine I2 hs rfl hKs ql_ ?_
 refine E4 hs rfl (qf_ 12 12) rfl ?_
 refine I2 hs rfl hKs (E6 (n := 3) (vs := [vk, (vU e.hp), (vU e.hn)]) rfl kR At.mem rfl (D4 [.int .i64 e.fu, .int .i64 e.fd, .int .i64 e.tu, .int .i64 e.td, xv, .bool e.has, q0, q1, q2, (vU e.he.signed), .bool e.he.has, (vU e.he.once)] [vk, (vU e.hp), (vU e.hn)] [vg])) ?_
 refine E4 hs rfl (qf_ 5 5) rfl ?_
 refine I2 hs rfl hKs ql_ ?_
 refine E4 hs rfl (qf_ 6 6) rfl ?_
 refine I2 hs rfl hKs (E6 (n := 6) (vs := [q0, q1, q2, (vU e.he.signed), .bool e.he.has, (vU e.he.once)]) rfl kR At.mem rfl (D4 [.int .i64 e.fu, .int .i64 e.fd, .int .i64 e.tu, .int .i64 e.td, xv, .bool e.has] [q0, q1, q2, (vU e.he.signed), .bool e.he.has, (vU e.he.once)] [vk, (vU e.hp), (vU e.hn), vg])) ?_
 refine E4 hs rfl (qf_ 4 4) rfl ?_
 refine F7 [(b9, blk [.int .i64 e.fu, .int .i64 e.fd, .int .i64 e.tu, .int .i64 e.td, xv, .bool e.has, q0, q1, q2, (vU e.he.signed), .bool e.he.has, (vU e.he.once), vk, (vU e.hp), (vU e.hn), vg] 37)] _ rfl rfl qP (fun x hx => hKm x hx) fun w0 => (F3 rfl rfl he_.ses.one kR SetC.set UpC.upd ?_)
 intro hKx9
 dsimp only [List.cons_append, List.nil_append, List.append_eq]
 refine E4 hs rfl (qf_ 12 12) rfl ?_
 refine F7 [(b9, blk [.int .i64 e.fu, .int .i64 e.fd, .int .i64 e.tu, .int .i64 e.td, xv, .bool e.has, q0, q1, q2, (vU e.he.signed), .bool e.he.has, (vU e.he.once), vk, (vU e.hp), (vU e.hn), vg] 37)] _ rfl rfl qP (fun x hx => hKx9 (hKn rfl) x (by simpa using hx)) fun w0 => (I4 (vs := [vk, (vU e.hp), (vU e.hn)]) (cs' := [.int .i64 e.fu, .int .i64 e.fd, .int .i64 e.tu, .int .i64 e.td, xv, .bool e.has, q0, q1, q2, (vU e.he.signed), .bool e.he.has, (vU e.he.once), vk, (vU e.hp), (vU e.hn), vg]) rfl rfl rfl kR (by exact (show 12 + 3 ≤ 16 by decide)) (A3 he_.hk.one al2) rfl UpC.upd ?_)
 intro hKx11
 dsimp only [List.cons_append, List.nil_append, List.append_eq]
 refine E4 hs rfl (qf_ 5 5) rfl ?_
 refine F7 [(b9, blk [.int .i64 e.fu, .int .i64 e.fd, .int .i64 e.tu, .int .i64 e.td, xv, .bool e.has, q0, q1, q2, (vU e.he.signed), .bool e.he.has, (vU e.he.once), vk, (vU e.hp), (vU e.hn), vg] 37)] _ rfl rfl qP (fun x hx => hKx11 (hKn rfl) x (by simpa using hx)) fun w0 => (F3 rfl rfl rfl kR SetC.set UpC.upd ?_)
 intro hKx13
 dsimp only [List.cons_append, List.nil_append, List.append_eq]
 refine E4 hs rfl (qf_ 6 6) rfl ?_
 refine I6 rfl rfl rfl (I4 (vs := [q0, q1, q2, (vU e.he.signed), .bool e.he.has, (vU e.he.once)]) (cs' := [.int .i64 e.fu, .int .i64 e.fd, .int .i64 e.tu, .int .i64 e.td, xv, .bool e.has, q0, q1, q2, (vU e.he.signed), .bool e.he.has, (vU e.he.once), vk, (vU e.hp), (vU e.hn), vg]) rfl rfl rfl kR (by exact (show 6 + 6 ≤ 16 by decide)) (A3 he_.he.ia.one (A3 he_.he.ig.one (A3 he_.he.key.one al3))) rfl UpC.upd ?_)
 refine H7 (E7 4 6 9) ?_
 refine Q0 ([(b9, blk [.int .i64 e.fu, .int .i64 e.fd, .int .i64 e.tu, .int .i64 e.td, xv, .bool e.has, q0, q1, q2, (vU e.he.signed), .bool e.he.has, (vU e.he.once), vk, (vU e.hp), (vU e.hn), vg] 37)]) (_) true (.range 12) (zp 0 [0, 1, 0, 1, 0, 1, 0, 2, 0, 2, 0, 0, 2]) kR kR qP fun hs K n0 hKm hKs hKn => ?_
 refine E4 hs rfl (qf_ 3 3) rfl ?_
 refine I2 hs rfl hKs (E6 (n := 2) (vs := [.int .i64 fu, .int .i64 fd]) rfl kR At.mem rfl (D4 [.int .u8 1, .int .i64 pick, .int .i64 0] [.int .i64 fu, .int .i64 fd] [.int .i64 tu, .int .i64 td, (vU n), vS])) ?_
 refine E4 hs rfl (qf_ 5 5) rfl ?_
 refine I2 hs rfl hKs (E6 (n := 2) (vs := [.int .i64 tu, .int .i64 td]) rfl kR At.mem rfl (D4 [.int .u8 1, .int .i64 pick, .int .i64 0, .int .i64 fu, .int .i64 fd] [.int .i64 tu, .int .i64 td] [(vU n), vS])) ?_
 refine E4 hs rfl (qf_ 7 7) rfl ?_
 refine I2 hs rfl hKs ql_ ?_
 refine E4 hs rfl (qf_ 0 0) rfl ?_
 refine F7 [(b9, blk [.int .i64 e.fu, .int .i64 e.fd, .int .i64 e.tu, .int .i64 e.td, xv, .bool e.has, q0, q1, q2, (vU e.he.signed), .bool e.he.has, (vU e.he.once), vk, (vU e.hp), (vU e.hn), vg] 37)] _ rfl rfl qP (fun x hx => hKm x hx) fun w0 => (I4 (vs := [.int .i64 fu, .int .i64 fd]) (cs' := [.int .i64 fu, .int .i64 fd, .int .i64 e.tu, .int .i64 e.td, xv, .bool e.has, q0, q1, q2, (vU e.he.signed), .bool e.he.has, (vU e.he.once), vk, (vU e.hp), (vU e.hn), vg]) rfl rfl rfl kR (by exact (show 0 + 2 ≤ 16 by decide)) al2 rfl UpC.upd ?_)
 intro hKx7
 dsimp only [List.cons_append, List.nil_append, List.append_eq]
 refine E4 hs rfl (qf_ 2 2) rfl ?_
 refine F7 [(b9, blk [.int .i64 fu, .int .i64 fd, .int .i64 e.tu, .int .i64 e.td, xv, .bool e.has, q0, q1, q2, (vU e.he.signed), .bool e.he.has, (vU e.he.once), vk, (vU e.hp), (vU e.hn), vg] 37)] _ rfl rfl qP (fun x hx => hKx7 (hKn rfl) x (by simpa using hx)) fun w0 => (I4 (vs := [.int .i64 tu, .int .i64 td]) (cs' := [.int .i64 fu, .int .i64 fd, .int .i64 tu, .int .i64 td, xv, .bool e.has, q0, q1, q2, (vU e.he.signed), .bool e.he.has, (vU e.he.once), vk, (vU e.hp), (vU e.hn), vg]) rfl rfl rfl kR (by exact (show 2 + 2 ≤ 16 by decide)) al2 rfl UpC.upd ?_)
 intro hKx9
 dsimp only [List.cons_append, List.nil_append, List.append_eq]
 refine E4 hs rfl (qf_ 12 12) rfl ?_
 refine E4 hs rfl (qf_ 14 2) rfl ?_
 refine I6 rfl rfl rfl (F3 rfl rfl rfl kR SetC.set UpC.upd ?_)
 refine Z6 (nb (nx (D0 6 9) (A1 ?_)))
 refine A2 (U3 (n := 16) (cs := [.int .i64 fu, .int .i64 fd, .int .i64 tu, .int .i64 td, xv, .bool e.has, q0, q1, q2, (vU e.he.signed), .bool e.he.has, (vU e.he.once), vk, (vU e.hp), (vU n), vg]) rfl kR At.mem qR) rfl ?_
 refine A4 rfl (C0 (vs := [.int .i64 fu, .int .i64 fd, .int .i64 tu, .int .i64 td, xv, .bool e.has, q0, q1, q2, (vU e.he.signed), .bool e.he.has, (vU e.he.once), vk, (vU e.hp), (vU n), vg]) rfl rfl rfl kR qR (A3 rfl (A3 rfl (A3 rfl (A3 rfl (A3 he_.ses.one (A3 rfl (A3 he_.he.ia.one (A3 he_.he.ig.one (A3 he_.he.key.one (A3 rfl (A3 rfl (A3 rfl (A3 he_.hk.one (A3 rfl (A3 rfl (A3 he_.g.one I5)))))))))))))))) UpC.upd ?_)
 refine as_ (A0 (D0 6 7) (A6 ?_))
 exact ⟨_, [], [], Z4 (n := 16) rfl rfl rfl kR At.mem qR, qZ, rfl, xv, q0, q1, q2, vk, vg, rfl, he_.adr (by first | assumption | exact he_.hn)⟩

theorem A9d {ts : List Tm} {h h' : List Bool} (hc : Clo ts h h') : Le h h' ∧ h'.length = ts.length := ⟨hc.sup, hc.len⟩
theorem B2s {e : Ev} (hh : e.has = true) : e.ses ∈ trN e ∧ e.hk ∈ trN e ∧ e.g ∈ trN e ∧ e.he.ia ∈ trN e ∧ e.he.ig ∈ trN e ∧ e.he.key ∈ trN e := by
  unfold trN; rw [hh]; simp
set_option maxHeartbeats 2000000 in
theorem A8v (bz0 bz1 bz2 bz3 bz4 bz5 bz6 bz7 bz8 bz9 : Value) (vb kb : Nat) (pb : Nat × Nat) (bm : Nat) (ts : List Tm) (h : List Bool) (e : Ev) (ow : LN) (pick fu fd tu td : Int) (MA R A : Mem) (hA : Adv R vb kb pb h [e] ow MA) (hRA : ∀ z, z ∈ R → z ∈ A) (hT0 : TbR pb.2 bm ts A) (hl : h.length ≤ ts.length) (hn_ : ts.length ≤ 1048576) (hh : e.has = true) (hk : ∀ h', Le h h' → h'.length = ts.length → ∀ w ∈ trN e, A88 ts h' w = true) (hel : e.ses.length + e.he.ia.length + e.he.ig.length + e.he.key.length + e.hk.length + e.g.length ≤ 10000000) (hG : Glb A) : FnX Tryz.prog 17 [(vP vb), .agg #[.int .u8 0, .int .i64 pick, .int .i64 0, .int .i64 fu, .int .i64 fd, .int .i64 tu, .int .i64 td, .int .u32 0, vS], .agg #[bz0, bz1, bz2, bz3, bz4, bz5, bz6, bz7, bz8, bz9]] MA A fun q M J => ∃ h' q1, q = .tuple #[q1, .int .i64 0] ∧ Le h h' ∧ h'.length = ts.length ∧ Adv R vb kb pb h' [e] ow M ∧ By J q1 (A48 (evA e fu fd tu td e.hn)) := by
 obtain ⟨u1, u2, rows, B1, B2, MK, rfl, hs1, hrw, hs2, hK⟩ := hA.ex
 obtain ⟨ge4, gf4, h4⟩ := hG.pow
 obtain ⟨vv0, BK0, rfl, hsk0⟩ := id hK.ex
 haveI := hs1.cel
 haveI := hs2.cel
 haveI := hsk0.cel
 refine FnX.enterZ (N := 42) Tryz.func17 rfl rfl rfl fun w_ => ?_
 refine A8 (E7 0 1 2) (A1 ?_)
 refine A4 rfl (bx_ fun b4 => ?_)
 refine A4 rfl (bx_ fun b5 => ?_)
 refine as_ (as_ (A0 (E7 0 4 5) (A7 (A1 (mv_ ?_)))))
 refine A2 (C9 (e := 93) rfl rfl kR) rfl ?_
 refine A0 (F8 0 4 5 11) ?_
 refine B8 rfl ?_
 refine A5 (nx (E7 0 4 5) (A7 (A1 ?_)))
 refine A2 (qf_ 0 0) rfl ?_
 refine A2 ql_ rfl ?_
 refine A2 (F6 false rfl rfl (eqF qD)) rfl ?_
 refine A0 (F8 0 4 5 14) ?_
 refine B8 rfl ?_
 refine A5 (nx (E7 0 4 5) (A1 (mv_ ?_)))
 refine A2 (qw_ 9) rfl ?_
 refine A2 (qw_ 10) rfl ?_
 refine F0 (aS rfl (aS rfl (aS rfl a0))) kR (A8t bz0 bz1 bz2 bz3 bz4 bz5 bz6 bz7 bz8 bz9 vb kb pb u1 u2 rows e pick fu fd tu td R _ qM (hs1.rd qS) hrw) rfl ?_
 rintro v22 M22 J22 ⟨rfl, xv, q0, q1, q2, vk, vg, rfl, he_⟩
 haveI := he_.ses.cel
 haveI := he_.he.ia.cel
 haveI := he_.he.ig.cel
 haveI := he_.he.key.cel
 haveI := he_.hk.cel
 haveI := he_.g.cel
 have he2 := he_.mono hRA
 have hig := he_.he.ig.by (Nat.le_trans he_.hil qD)
 unfold evC
 refine mv_ ?_
 refine A2 (Y3 rfl) rfl ?_
 refine A2 (X5 rfl) rfl ?_
 refine A4 rfl (D3 (cs := [F9, F9, F9, F9, vS, .bool false, vS, vS, vS, E8, .bool false, E8, vS, E8, E8, vS]) kR rfl fun b8 => ?_)
 refine A4 rfl (C0 (vs := [.int .i64 fu, .int .i64 fd, .int .i64 tu, .int .i64 td, xv, .bool e.has, q0, q1, q2, (vU e.he.signed), .bool e.he.has, (vU e.he.once), vk, (vU e.hp), (vU e.hn), vg]) rfl rfl rfl kR qR (A3 rfl (A3 rfl (A3 rfl (A3 rfl (A3 he_.ses.one (A3 rfl (A3 he_.he.ia.one (A3 he_.he.ig.one (A3 he_.he.key.one (A3 rfl (A3 rfl (A3 rfl (A3 he_.hk.one (A3 rfl (A3 rfl (A3 he_.g.one I5)))))))))))))))) UpC.upd ?_)
 refine as_ (A0 (E7 0 8 9) (A7 (A1 (mv_ ?_))))
 refine A2 (F6 false rfl rfl (neF rfl)) rfl ?_
 refine A0 (F8 0 8 9 26) ?_
 refine B8 rfl ?_
 refine A5 (nx (D0 0 8) (A1 (mv_ ?_)))
 refine A2 (D5 rfl) rfl ?_
 refine A2 (qf_ 1 1) rfl ?_
 refine A2 ql_ rfl ?_
 refine A4 rfl (A9 (Mc := (kb, blk [.pointer (some ⟨pb.2, 0, none⟩), vv0] 112) :: BK0) (R := _) (aS rfl (a0)) kR qP (A0w kb pb.2 bm ts h _ _ hK (hT0.mono qS) hl hn_ (qS _ h4)) rfl ?_)
 rintro v32 M32 J32 ⟨h', hclo, hK'⟩
 obtain ⟨hle, hhl⟩ := A9d hclo
 obtain ⟨t1, t2, t3, t4, t5, t6⟩ := B2s hh
 obtain ⟨vv, BK, rfl, hsk⟩ := id hK'.ex
 haveI := hsk.cel
 refine A0 (D0 0 8) (A7 ?_)
 refine F5 (.range 7) (zp 0 [0, 0, 0, 1, 1, 2, 0]) kR kR fun hs => ?_
 refine fm_ hs ?_
 refine D9 hs rfl (D5 rfl) rfl ?_
 refine D9 hs rfl (qf_ 1 1) rfl ?_
 refine Q5 hs rfl ql_ rfl ?_
 refine Q5 hs rfl (qw_ 16) rfl ?_
 refine N2 rfl (aS rfl (aS rfl a0)) kR (A4z (some ⟨kb, 0, none⟩) fu fd tu td xv e.has q0 q1 q2 e.he.signed e.he.has e.he.once vk e.hp e.hn vg he_.ses.one he_.he.ia.one he_.he.ig.one he_.he.key.one he_.hk.one he_.g.one true true true true true true _ (fun A' hA' => by have hz := N3 kb pb.2 bm ts h' xv e.ses A' ((hK'.rd qS).mono hA') ((hT0.mono qS).mono hA') hn_ ((he2.ses.mono qS).mono hA'); rw [hk h' hle hhl _ t1] at hz; exact hz) (fun A' hA' => by have hz := N3 kb pb.2 bm ts h' q0 e.he.ia A' ((hK'.rd qS).mono hA') ((hT0.mono qS).mono hA') hn_ ((he2.he.ia.mono qS).mono hA'); rw [hk h' hle hhl _ t4] at hz; exact hz) (fun A' hA' => by have hz := N3 kb pb.2 bm ts h' q1 e.he.ig A' ((hK'.rd qS).mono hA') ((hT0.mono qS).mono hA') hn_ (((hig.mono hRA).mono qS).mono hA'); rw [hk h' hle hhl _ t5] at hz; exact hz) (fun A' hA' => by have hz := N3 kb pb.2 bm ts h' q2 e.he.key A' ((hK'.rd qS).mono hA') ((hT0.mono qS).mono hA') hn_ ((he2.he.key.mono qS).mono hA'); rw [hk h' hle hhl _ t6] at hz; exact hz) (fun A' hA' => by have hz := N3 kb pb.2 bm ts h' vk e.hk A' ((hK'.rd qS).mono hA') ((hT0.mono qS).mono hA') hn_ ((he2.hk.mono qS).mono hA'); rw [hk h' hle hhl _ t2] at hz; exact hz) (fun A' hA' => by have hz := N3 kb pb.2 bm ts h' vg e.g A' ((hK'.rd qS).mono hA') ((hT0.mono qS).mono hA') hn_ ((he2.g.mono qS).mono hA'); rw [hk h' hle hhl _ t3] at hz; exact hz)) rfl ?_
 rw [show (true && true && true && (if e.has = true then true && true && true else true)) = true by rw [hh]; rfl]
 refine D9 hs rfl (T2 rfl) rfl ?_
 refine H4 (D0 8 39) ?_
 refine B8 rfl ?_
 refine A5 (nx (C8 8) (A1 ?_))
 refine A2 (qw_ 16) rfl ?_
 refine F0 (aS rfl a0) kR (A20 (evA e fu fd tu td e.hn) xv q0 q1 q2 vk vg _ (he2.mono qS) hel) rfl ?_
 rintro v41 M41 J41 ⟨rfl, hb41⟩
 haveI := hb41.cel
 refine as_ (as_ (A0 (D0 6 7) (A6 ?_)))
 exact ⟨_, (vb, blk [.pointer (some ⟨pb.1, 0, none⟩), (vP kb), u1, u2] 93) :: (B1 ++ (B2 ++ ((kb, blk [.pointer (some ⟨pb.2, 0, none⟩), vv] 112) :: BK))), [], A4F rfl rfl rfl, Fit.none (Fit.pick (B := [_]) qP (Fit.pick qP (Fit.pick qP (Fit.pick (B := [_]) qP (Fit.last qP))))), h', v41, rfl, hle, hhl, ⟨u1, u2, rows, B1, B2, _, rfl, hs1, hrw, hs2, hK'⟩, hb41.mono qS⟩
set_option maxHeartbeats 2000000 in
theorem A8w (bz0 bz1 bz2 bz3 bz4 bz5 bz6 bz7 bz8 bz9 : Value) (vb kb : Nat) (pb : Nat × Nat) (bm : Nat) (ts : List Tm) (h : List Bool) (e : Ev) (ow : LN) (pick fu fd tu td : Int) (n : Nat) (hn : n < 4294967296) (MA R A : Mem) (hA : Adv R vb kb pb h [e] ow MA) (hRA : ∀ z, z ∈ R → z ∈ A) (hT0 : TbR pb.2 bm ts A) (hl : h.length ≤ ts.length) (hn_ : ts.length ≤ 1048576) (hh : e.has = true) (hk : ∀ h', Le h h' → h'.length = ts.length → ∀ w ∈ trN e, A88 ts h' w = true) (hel : e.ses.length + e.he.ia.length + e.he.ig.length + e.he.key.length + e.hk.length + e.g.length ≤ 10000000) (hG : Glb A) : FnX Tryz.prog 17 [(vP vb), .agg #[.int .u8 1, .int .i64 pick, .int .i64 0, .int .i64 fu, .int .i64 fd, .int .i64 tu, .int .i64 td, (vU n), vS], .agg #[bz0, bz1, bz2, bz3, bz4, bz5, bz6, bz7, bz8, bz9]] MA A fun q M J => ∃ h' q1, q = .tuple #[q1, .int .i64 0] ∧ Le h h' ∧ h'.length = ts.length ∧ Adv R vb kb pb h' [e] ow M ∧ By J q1 (A48 (evA e fu fd tu td n)) := by
 obtain ⟨u1, u2, rows, B1, B2, MK, rfl, hs1, hrw, hs2, hK⟩ := hA.ex
 obtain ⟨ge4, gf4, h4⟩ := hG.pow
 obtain ⟨vv0, BK0, rfl, hsk0⟩ := id hK.ex
 haveI := hs1.cel
 haveI := hs2.cel
 haveI := hsk0.cel
 refine FnX.enterZ (N := 42) Tryz.func17 rfl rfl rfl fun w_ => ?_
 refine A8 (E7 0 1 2) (A1 ?_)
 refine A4 rfl (bx_ fun b4 => ?_)
 refine A4 rfl (bx_ fun b5 => ?_)
 refine as_ (as_ (A0 (E7 0 4 5) (A7 (A1 (mv_ ?_)))))
 refine A2 (C9 (e := 93) rfl rfl kR) rfl ?_
 refine A0 (F8 0 4 5 11) ?_
 refine B8 rfl ?_
 refine A5 (nx (E7 0 4 5) (A7 (A1 ?_)))
 refine A2 (qf_ 0 0) rfl ?_
 refine A2 ql_ rfl ?_
 refine A2 (F6 false rfl rfl (eqF qD)) rfl ?_
 refine A0 (F8 0 4 5 14) ?_
 refine B8 rfl ?_
 refine A5 (nx (E7 0 4 5) (A1 (mv_ ?_)))
 refine A2 (qw_ 9) rfl ?_
 refine A2 (qw_ 10) rfl ?_
 refine F0 (aS rfl (aS rfl (aS rfl a0))) kR (A8u bz0 bz1 bz2 bz3 bz4 bz5 bz6 bz7 bz8 bz9 vb kb pb u1 u2 rows e pick fu fd tu td n hn R _ qM (hs1.rd qS) hrw) rfl ?_
 rintro v22 M22 J22 ⟨rfl, xv, q0, q1, q2, vk, vg, rfl, he_⟩
 haveI := he_.ses.cel
 haveI := he_.he.ia.cel
 haveI := he_.he.ig.cel
 haveI := he_.he.key.cel
 haveI := he_.hk.cel
 haveI := he_.g.cel
 have he2 := he_.mono hRA
 have hig := he_.he.ig.by (Nat.le_trans he_.hil qD)
 unfold evC
 refine mv_ ?_
 refine A2 (Y3 rfl) rfl ?_
 refine A2 (X5 rfl) rfl ?_
 refine A4 rfl (D3 (cs := [F9, F9, F9, F9, vS, .bool false, vS, vS, vS, E8, .bool false, E8, vS, E8, E8, vS]) kR rfl fun b8 => ?_)
 refine A4 rfl (C0 (vs := [.int .i64 fu, .int .i64 fd, .int .i64 tu, .int .i64 td, xv, .bool e.has, q0, q1, q2, (vU e.he.signed), .bool e.he.has, (vU e.he.once), vk, (vU e.hp), (vU n), vg]) rfl rfl rfl kR qR (A3 rfl (A3 rfl (A3 rfl (A3 rfl (A3 he_.ses.one (A3 rfl (A3 he_.he.ia.one (A3 he_.he.ig.one (A3 he_.he.key.one (A3 rfl (A3 rfl (A3 rfl (A3 he_.hk.one (A3 rfl (A3 rfl (A3 he_.g.one I5)))))))))))))))) UpC.upd ?_)
 refine as_ (A0 (E7 0 8 9) (A7 (A1 (mv_ ?_))))
 refine A2 (F6 false rfl rfl (neF rfl)) rfl ?_
 refine A0 (F8 0 8 9 26) ?_
 refine B8 rfl ?_
 refine A5 (nx (D0 0 8) (A1 (mv_ ?_)))
 refine A2 (D5 rfl) rfl ?_
 refine A2 (qf_ 1 1) rfl ?_
 refine A2 ql_ rfl ?_
 refine A4 rfl (A9 (Mc := (kb, blk [.pointer (some ⟨pb.2, 0, none⟩), vv0] 112) :: BK0) (R := _) (aS rfl (a0)) kR qP (A0w kb pb.2 bm ts h _ _ hK (hT0.mono qS) hl hn_ (qS _ h4)) rfl ?_)
 rintro v32 M32 J32 ⟨h', hclo, hK'⟩
 obtain ⟨hle, hhl⟩ := A9d hclo
 obtain ⟨t1, t2, t3, t4, t5, t6⟩ := B2s hh
 obtain ⟨vv, BK, rfl, hsk⟩ := id hK'.ex
 haveI := hsk.cel
 refine A0 (D0 0 8) (A7 ?_)
 refine F5 (.range 7) (zp 0 [0, 0, 0, 1, 1, 2, 0]) kR kR fun hs => ?_
 refine fm_ hs ?_
 refine D9 hs rfl (D5 rfl) rfl ?_
 refine D9 hs rfl (qf_ 1 1) rfl ?_
 refine Q5 hs rfl ql_ rfl ?_
 refine Q5 hs rfl (qw_ 16) rfl ?_
 refine N2 rfl (aS rfl (aS rfl a0)) kR (A4z (some ⟨kb, 0, none⟩) fu fd tu td xv e.has q0 q1 q2 e.he.signed e.he.has e.he.once vk e.hp n vg he_.ses.one he_.he.ia.one he_.he.ig.one he_.he.key.one he_.hk.one he_.g.one true true true true true true _ (fun A' hA' => by have hz := N3 kb pb.2 bm ts h' xv e.ses A' ((hK'.rd qS).mono hA') ((hT0.mono qS).mono hA') hn_ ((he2.ses.mono qS).mono hA'); rw [hk h' hle hhl _ t1] at hz; exact hz) (fun A' hA' => by have hz := N3 kb pb.2 bm ts h' q0 e.he.ia A' ((hK'.rd qS).mono hA') ((hT0.mono qS).mono hA') hn_ ((he2.he.ia.mono qS).mono hA'); rw [hk h' hle hhl _ t4] at hz; exact hz) (fun A' hA' => by have hz := N3 kb pb.2 bm ts h' q1 e.he.ig A' ((hK'.rd qS).mono hA') ((hT0.mono qS).mono hA') hn_ (((hig.mono hRA).mono qS).mono hA'); rw [hk h' hle hhl _ t5] at hz; exact hz) (fun A' hA' => by have hz := N3 kb pb.2 bm ts h' q2 e.he.key A' ((hK'.rd qS).mono hA') ((hT0.mono qS).mono hA') hn_ ((he2.he.key.mono qS).mono hA'); rw [hk h' hle hhl _ t6] at hz; exact hz) (fun A' hA' => by have hz := N3 kb pb.2 bm ts h' vk e.hk A' ((hK'.rd qS).mono hA') ((hT0.mono qS).mono hA') hn_ ((he2.hk.mono qS).mono hA'); rw [hk h' hle hhl _ t2] at hz; exact hz) (fun A' hA' => by have hz := N3 kb pb.2 bm ts h' vg e.g A' ((hK'.rd qS).mono hA') ((hT0.mono qS).mono hA') hn_ ((he2.g.mono qS).mono hA'); rw [hk h' hle hhl _ t3] at hz; exact hz)) rfl ?_
 rw [show (true && true && true && (if e.has = true then true && true && true else true)) = true by rw [hh]; rfl]
 refine D9 hs rfl (T2 rfl) rfl ?_
 refine H4 (D0 8 39) ?_
 refine B8 rfl ?_
 refine A5 (nx (C8 8) (A1 ?_))
 refine A2 (qw_ 16) rfl ?_
 refine F0 (aS rfl a0) kR (A20 (evA e fu fd tu td n) xv q0 q1 q2 vk vg _ (he2.mono qS) hel) rfl ?_
 rintro v41 M41 J41 ⟨rfl, hb41⟩
 haveI := hb41.cel
 refine as_ (as_ (A0 (D0 6 7) (A6 ?_)))
 exact ⟨_, (vb, blk [.pointer (some ⟨pb.1, 0, none⟩), (vP kb), u1, u2] 93) :: (B1 ++ (B2 ++ ((kb, blk [.pointer (some ⟨pb.2, 0, none⟩), vv] 112) :: BK))), [], A4F rfl rfl rfl, Fit.none (Fit.pick (B := [_]) qP (Fit.pick qP (Fit.pick qP (Fit.pick (B := [_]) qP (Fit.last qP))))), h', v41, rfl, hle, hhl, ⟨u1, u2, rows, B1, B2, _, rfl, hs1, hrw, hs2, hK'⟩, hb41.mono qS⟩

end Go.Proofs.YtoameenjkiaefaaGreatDoor
namespace Go.Px
theorem St.frzInto {C : Cx} {w : World} : ∀ (M J : Mem), St C M J w → ∃ J2, (∀ x, x ∈ M ++ J → x ∈ J2) ∧ St C [] J2 w
  | [], J, h => ⟨J, fun x hx => hx, h⟩
  | y :: M, J, h => by
    obtain ⟨J2, h1, h2⟩ := St.frzInto M (y :: J) h.freeze
    refine ⟨J2, fun x hx => h1 x ?_, h2⟩
    simp only [List.cons_append, List.mem_cons, List.mem_append] at hx ⊢
    rcases hx with hx | hx | hx
    · exact .inr (.inl hx)
    · exact .inl hx
    · exact .inr (.inr hx)
theorem OpL.frzAll {C : Cx} {o : Oper} {l : Env} {M J : Mem} {K : Env → Mem → Mem → Prop} (h : OpL C o l M J fun l' M' J' => ∀ J2, (∀ x, x ∈ M' ++ J' → x ∈ J2) → K l' [] J2) : OpL C o l M J K := fun Qp a w ha hw =>
  Oper.wp_mono (fun a' w' ⟨l', M', J', h1, h2, h3⟩ => by
    obtain ⟨J2, g1, g2⟩ := St.frzInto M' J' h2
    exact ⟨l', [], J2, h1, g2, h3 J2 g1⟩) (h Qp a w ha hw)
end Go.Px

namespace Go.Proofs.YtoameenjkiaefaaGreatDoor
open Go.Px
theorem A69 {pb : Nat × Nat} {s : Ps} {ts : List Tm} {M : Mem} (h : Prm pb { s with ts := ts } M) (e : ts = s.ts) : Prm pb s M := by subst e; exact h
def A8x (R : Mem) (v : Value) (x : Ses) : Prop := ∃ vi vw p r u vo vt vr vk vl vst, v = .agg (seC vi vw p r u vo vt vr vk vl vst x).toArray ∧ SeR R x vi vw p r u vo vt vr vk vl vst
theorem A8x.mono {R R' : Mem} {v : Value} {x : Ses} (h : A8x R v x) (hR : ∀ z, z ∈ R → z ∈ R') : A8x R' v x := by
  obtain ⟨a, b, c, d, e, f, g, i, j, k, l, h1, h2⟩ := h
  exact ⟨a, b, c, d, e, f, g, i, j, k, l, h1, h2.mono hR⟩
def KyE (R : Mem) (kb : Nat) (k : Ks) : Prop := ∃ va vg vq vo vm rs ro rm, KyR R kb k va vg vq vo vm rs ro rm
theorem KyE.mono {R R' : Mem} {kb : Nat} {k : Ks} (h : KyE R kb k) (hR : ∀ z, z ∈ R → z ∈ R') : KyE R' kb k := by
  obtain ⟨a, b, c, d, e, f, g, i, h⟩ := h
  exact ⟨a, b, c, d, e, f, g, i, h.mono hR⟩
theorem B3N : aU.1[1]? = some aY := by
  have h := af.1.2.2.1
  unfold aY
  rw [List.getD_eq_getElem?_getD, List.getElem?_eq_getElem qO]; rfl
structure HS (i : Nat) (h : List Bool) : Prop where
  len : h.length ≤ 24
  up : Le h aH
  lo : ∀ b ∈ aU.1.take i, ∀ x ∈ lrI aU.2.ts (shN b), kat h x = true
theorem B0T {i : Nat} {b : Bn} {h h' : List Bool} (hb : aU.1[i]? = some b) (hh : HS i h) (hc : Clo (U1 aU.2.ts h (shN b)).1 (U1 aU.2.ts h (shN b)).2 h') : HS (i + 1) h' ∧ (U1 aU.2.ts h (shN b)).1 = aU.2.ts := by
  obtain ⟨⟨f1, f2, f3, f4, f5, f6, -⟩, -, -, -, -, hall, -, hcl, -⟩ := af
  have h1 := List.all_eq_true.1 hall b (List.mem_of_getElem? hb)
  rw [Bool.and_eq_true] at h1
  have hl : h.length ≤ aU.2.ts.length := by have := hh.len; omega
  obtain ⟨-, d2, d3, d4⟩ := A4B hl h1.1 hc
  refine ⟨⟨by omega, A4A hl h1.1 hc hh.up (by rw [hcl, Bool.true_and]; exact h1.2), fun c hcm x hx => ?_⟩, (A1j (shN b) aU.2.ts h hl h1.1).1⟩
  rw [List.take_add_one, hb] at hcm
  rcases List.mem_append.1 hcm with hm | hm
  · exact d2 x (hh.lo c hm x hx)
  · have e : c = b := by simpa using hm
    subst e
    exact d3 x hx
structure HQ (h : List Bool) : Prop where
  len : h.length = 43
  up : Le h aH
  lo : ∀ x ∈ lS ++ lT, kat h x = true
  tr : ∀ x ∈ lrI aE.ts (trN aV), kat h x = true
theorem HS.nil : HS 0 [] := ⟨Nat.zero_le _, fun i hi => by simp [kat] at hi, fun b hb => by simp at hb⟩
theorem B2t {h h' : List Bool} (hl : h.length ≤ aE.ts.length) (up : Le h aH) (lo : ∀ x ∈ lS, kat h x = true) (hc : Clo (U1 aE.ts h (trN aV)).1 (U1 aE.ts h (trN aV)).2 h') : HQ h' ∧ (U1 aE.ts h (trN aV)).1 = aE.ts := by
  obtain ⟨-, -, -, ⟨-, -, -, -, -, -, -, g8, -⟩, -, -, -, -, h1, h2, h3, -⟩ := af
  rw [Bool.and_eq_true] at h1
  obtain ⟨-, d2, d3, d4⟩ := A4B hl h1.1 hc
  refine ⟨⟨by omega, A4A hl h1.1 hc up (by rw [h3, Bool.true_and]; exact h1.2), fun x hx => ?_, d3⟩, (A1j (trN aV) aE.ts h hl h1.1).1⟩
  rcases List.mem_append.1 hx with hx | hx
  · exact d2 x (lo x hx)
  · exact d3 x (by simpa using List.all_eq_true.1 h2 x hx)
theorem HS.lS {h : List Bool} (hh : HS 5 h) : ∀ x ∈ lS, kat h x = true := by
  obtain ⟨⟨-, -, f3, -⟩, -, -, -, -, -, hs, -⟩ := af
  intro x hx
  obtain ⟨b, hb, hx2⟩ := List.any_eq_true.1 (List.all_eq_true.1 hs x hx)
  exact hh.lo b (by rw [List.take_of_length_le qO]; exact hb) x (by simpa using hx2)
theorem B3O : StH aA.1 aY aU.2 := by
  obtain ⟨-, -, ⟨h1, h2, h3, h4, h5, h6⟩, -⟩ := af
  exact ⟨h1, h2, h3, h4, h5, h6⟩
theorem B2u : dcO (A48 aV) = true ∧ dcE (A48 aV) = aV := by
  obtain ⟨-, -, -, -, h, -⟩ := af
  rw [Bool.and_eq_true] at h
  exact ⟨h.1, B3I h.2⟩
theorem A8y : aA.1.user = 0 ∧ aA.1.dev = 1 ∧ aB.1.user = 1 ∧ aB.1.dev = 1 := by decide +kernel
theorem B2v {P : Program} {fn : Func} {l : Env} {R : Mem} {a1 a2 a3 a4 t b n : Nat} {ty : TypeId} {cs : List Value} {e : TypeId} {fr : Nat × Nat} {v1 v2 v3 v4 : Value} (h : fn.results = #[.tmp a1, .tmp a2, .tmp a3, .tmp a4, .cell t ty]) (h1 : lk l a1 = some v1) (h2 : lk l a2 = some v2) (h3 : lk l a3 = some v3) (h4 : lk l a4 = some v4) (hv : lk l t = some (vP b)) (ht : A3a P ty = some n)
    (hb : (b, Obj.cells cs.toArray e fr) ∈ R) (hn : cs.length = n) : Res P fn l R (.tuple #[v1, v2, v3, v4, .agg cs.toArray]) := fun N a w ha hw => by
  obtain ⟨dsc, g1, g2, g3⟩ := L5 ht
  have hl := run_loadVar_row (P := P) w b e ty cs.toArray fr dsc (hw b _ hb) g1 (by cases dsc <;> simp_all [TypeDesc.isRow]) (by rw [g3, ← hn]; simp)
  simp [results, h, ha.slot a1 _ h1, ha.slot a2 _ h2, ha.slot a3 _ h3, ha.slot a4 _ h4, ha.slot t _ hv, asAddr, hl]
set_option maxHeartbeats 1000000 in
theorem A4E (A : Mem) (hG : Glb A) : FnX Tryz.prog 8 [] [] A fun q M J => ∃ vb kb k1 k2 pb h MA MP es ep er eu ek eg, q = .tuple #[.pointer (some ⟨pb.1, 0, none⟩), (vP vb), (vP k1), (vP k2), .agg (evC es ep er eu ek eg aV).toArray] ∧ M = MA ++ MP ∧ Adv (J ++ A) vb kb pb h [aV] [] MA ∧ Prm pb aE MP ∧ KyE (J ++ A) k1 aA.1 ∧ KyE (J ++ A) k2 aB.1 ∧ EvR (J ++ A) aV es ep er eu ek eg ∧ HQ h := by
 refine FnX.enterZ (N := 88) Tryz.func8 rfl rfl rfl fun w_ => ?_
 refine A8 kn (A1 (as_ (as_ (as_ (as_ ?_)))))
 refine A4 rfl (D3 (cs := [F9, F9, F9, F9, vS, .bool false, vS, vS, vS, E8, .bool false, E8, vS, E8, E8, vS]) kR rfl fun b4 => ?_)
 refine A0 (C8 4) (A1 ?_)
 refine F0 (aS rfl (aS rfl a0)) kR (A2J (vS) [] _ By.nil) rfl ?_
 rintro v18 MP J18 ⟨pb, rfl, hP⟩
 change Prm pb zP0 MP at hP
 have q1 := A99 0 1 zP0
 change aA.2.ts.length ≤ 11 ∧ aA.2.n ≤ 7 ∧ _ at q1
 refine mv_ ?_
 refine A2 (Y3 rfl) rfl ?_
 refine A2 (X5 rfl) rfl ?_
 refine as_ (as_ (A0 (E7 4 5 6) (A7 (A1 (mv_ ?_)))))
 refine A2 (F6 false rfl rfl (neF rfl)) rfl ?_
 refine A0 (E7 4 5 22) ?_
 refine B8 rfl ?_
 refine A5 (nx (D0 4 5) (A1 (mv_ ?_)))
 refine A2 (D2 (place := fun x => #[(0, 1), (1, 1)][x]?) (z := [.int .i64 0, .int .i64 0]) (fun _ => by kernel_rfl) (eS rfl (eS rfl e0)) (bdS 0 1 rfl qR (bdS 1 1 rfl qR bd0))) rfl ?_
 refine A4 rfl (A9 (Mc := MP) (R := _) (aS rfl (aS rfl (a0))) kR qP (FnX.amb qS (B1P 0 1 pb zP0 MP A hP (show 0 + 200 ≤ 1048576 by decide) (show 0 + 100 < 1000000000 by decide) hG)) rfl ?_)
 rintro v26 M26 J26 ⟨k1, MK1, MP2, rfl, rfl, hK1, hP2⟩
 change Kys _ k1 aA.1 MK1 at hK1
 change Prm pb aA.2 MP2 at hP2
 refine as_ (A0 (E7 4 5 7) (A1 (mv_ ?_)))
 refine A2 (D2 (place := fun x => #[(0, 1), (1, 1)][x]?) (z := [.int .i64 0, .int .i64 0]) (fun _ => by kernel_rfl) (eS rfl (eS rfl e0)) (bdS 0 1 rfl qR (bdS 1 1 rfl qR bd0))) rfl ?_
 refine A4 rfl (A9 (Mc := MP2) (R := _) (aS rfl (aS rfl (a0))) kR qP (FnX.amb qS (B1P 1 1 pb aA.2 MP2 (J26 ++ A) hP2 qO qO (hG.sub qS))) rfl ?_)
 rintro v29 M29 J29 ⟨k2, MK2, MP3, rfl, rfl, hK2, hP3⟩
 change Kys _ k2 aB.1 MK2 at hK2
 change Prm pb aB.2 MP3 at hP3
 refine as_ (A0 (F8 4 5 7 8) ?_)
 refine A07 (B := MK1) qP ?_
 refine A07 (B := MK2) qP ?_
 obtain ⟨va, vg, vq, vo, vm, rs, ro, rm, hra⟩ := hK1.r
 obtain ⟨ua, ug, uq, uo, um, ss, so, sm, hrb⟩ := hK2.r
 have haf := af
 obtain ⟨⟨f1, f2, f3, f4, f5, f6, fck⟩, far, -, ⟨g1_, g2_, g3_, g4_, g5_, g6_, g7_, g8_, g9_, ga_, gb_, gc_⟩, -⟩ := haf
 obtain ⟨x, hsg⟩ := List.length_eq_one_iff.1 f1
 refine A1 (mv_ ?_)
 refine F0 (aS rfl a0) kR (A9c pb aB.2 MP3 _ hP3 (fun z hz => by simp [hz])) rfl ?_
 rintro v31 M31 J31 ⟨vb, kb, rfl, hA31⟩
 refine as_ (A0 (H9 4 5 7 8 9) (A1 (mv_ (mv_ ?_))))
 refine A4 rfl (A9 (Mc := MP3) (R := _) (aS rfl (aS rfl (a0))) kR qP (FnX.amb qS (A2V pb aB.2 k2 aB.1 ua ug uq uo um ss so sm x [] MP3 (MK2 ++ (MK1 ++ (J29 ++ (J26 ++ A)))) (hrb _ qS qS) hsg hP3 qO qO (hG.sub qS))) rfl ?_)
 rintro v34 M34 J34 ⟨hP34, rows, hrd, hrw⟩
 haveI := hrd.cel
 change Prm pb aU.2 M34 at hP34
 change Rd _ 10 _ aU.1.length _ at hrd
 change RwL bnR _ rows aU.1 at hrw
 refine as_ (A0 (L1 4 5 7 8 9 10) (A7 (A1 (mv_ ?_))))
 refine A2 (E1 (sz := 10) rfl kR hrd) rfl ?_
 rw [f3]
 refine A2 (F6 false rfl rfl (neF qR)) rfl ?_
 refine mv_ ?_
 refine B0 rfl rfl (OpQ.opL qm_ rfl ?_)
 refine B0 rfl rfl (OpQ.opL (C9 (e := 93) rfl rfl kR) rfl ?_)
 refine A2 (C7 rfl rfl) rfl ?_
 refine A0 (V0 4 5 7 8 9 10 41) ?_
 refine B8 rfl ?_
 refine A5 (nx (L1 4 5 7 8 9 10) (A7 (A1 (as_ (A0 (V0 4 5 7 8 9 10 11) (C6 ?_))))))
 refine H0 (α := Nat × List Bool × Mem × Mem) (fun y => [(4, (vP b4)), (5, .pointer (some ⟨pb.1, 0, none⟩)), (7, (vP k1)), (8, (vP k2)), (9, (vP vb)), (10, v34), (11, (vI y.1))]) (fun y => (b4, blk [.int .i64 0, .int .i64 0, .int .i64 0, .int .i64 0, vS, .bool false, vS, vS, vS, .int .u32 0, .bool false, .int .u32 0, vS, .int .u32 0, .int .u32 0, vS] 37) :: (y.2.2.1 ++ y.2.2.2)) (fun _ => (J34 ++ (MK2 ++ (MK1 ++ (J29 ++ J26))))) (fun y => y.1 ≤ 5 ∧ HS y.1 y.2.1 ∧ Adv [] vb kb pb y.2.1 [] [] y.2.2.1 ∧ Prm pb aU.2 y.2.2.2) (fun y => 5 - y.1) (0, [], M31, M34) ⟨Nat.zero_le _, HS.nil, hA31 _, hP34⟩ (V0 4 5 7 8 9 10 11) (Fit.pick (B := [_]) qP (Fit.pick qP (Fit.last qP))) (fun z hz => by simp only [List.mem_append] at hz ⊢; rcases hz with h | h | h | h | h <;> simp [h]) ?_
 rintro ⟨i, h, MA, MQ⟩ ⟨hi, hS, hA, hQ⟩
 dsimp only at hi hS hA hQ ⊢
 refine A7 (A1 (mv_ (mv_ ?_)))
 refine A2 (E1 (sz := 10) rfl kR hrd) rfl ?_
 rw [f3]
 refine A2 (F1 rfl rfl rfl) rfl ?_
 refine A0 (A4H 4 5 7 8 9 10 11 46) ?_
 refine C4 rfl ?_ ?_ <;> intro hc
 ·
  have hlt : i < 5 := by have := of_decide_eq_true hc; omega
  obtain ⟨y, hy⟩ : ∃ y, aU.1[i]? = some y := ⟨_, List.getElem?_eq_getElem qO⟩
  obtain ⟨r0, hr0, w1, w2, w3, w4, w5, rfl, gw1, gw2, gw3, gw4, gw5, gws, gwo⟩ := hrw.get i y hy
  haveI := gw1.cel
  haveI := gw2.cel
  haveI := gw3.cel
  haveI := gw4.cel
  haveI := gw5.cel
  refine A5 (nx (V0 4 5 7 8 9 10 11) (A7 (C6 (D1 (mv_ (mv_ (mv_ ?_)))))))
  refine A2 (E9 (sz := 10) (a := i) rfl rfl kR rfl hrd qO) rfl ?_
  refine A2 (T7 rfl kR (hrd.mono qS) (hrw.lens bnT) qD hr0) rfl ?_
  refine A4 rfl (A9 (Mc := MA ++ MQ) (R := _) (aS rfl (aS rfl (a0))) kR qP (B0P vb kb pb aU.2 h [] [] y w1 w2 w3 w4 w5 MA MQ [] _ hA hQ (by have := hS.len; omega) qO (gw1.mono qS) (gw2.mono qS) (gw3.mono qS) (gw4.mono qS) (gw5.mono qS) hG.up) rfl ?_)
  rintro v54 M54 J54 ⟨MA2, MQ2, h2, rfl, hclo, hA2, hQ2⟩
  obtain ⟨hS2, hts⟩ := B0T hy hS hclo
  replace hQ2 := A69 hQ2 hts
  refine E3 (nb (nx (V0 4 5 7 8 9 10 11) (D1 (mv_ ?_))))
  refine A2 (Z5 ((i + 1 : Nat) : Int) rfl rfl (A1o qO qO qO)) rfl ?_
  refine as_ (E3 ?_)
  exact rn (i + 1, h2, MA2, MQ2) ⟨hlt, hS2, hA2, hQ2⟩ (by dsimp only; omega) (V0 4 5 7 8 9 10 11) (Fit.pick (B := [_]) qP (Fit.pick qP (Fit.last qP))) (fun z hz => List.mem_append_right _ hz)
 ·
  obtain rfl : i = 5 := by have := of_decide_eq_false hc; omega
  obtain ⟨r0, hr0, w1, w2, w3, w4, w5, rfl, gw1, gw2, gw3, gw4, gw5, gws, gwo⟩ := hrw.get 1 aY B3N
  haveI := gw1.cel
  haveI := gw2.cel
  haveI := gw3.cel
  haveI := gw4.cel
  haveI := gw5.cel
  refine G6 (te (re (be rfl (nx (L1 4 5 7 8 9 10) (A1 (mv_ (mv_ (mv_ ?_))))))))
  refine A2 (E9 (sz := 10) (a := 1) rfl rfl kR rfl hrd (by rw [f3]; decide)) rfl ?_
  refine A2 (T7 rfl kR (hrd.mono qS) (hrw.lens bnT) qD hr0) rfl ?_
  refine A4 rfl (A9 (Mc := MQ) (R := _) (aS rfl (aS rfl (aS rfl (a0)))) kR qP (FnX.amb qS (A8q pb aU.2 k1 aA.1 va vg vq vo vm rs ro rm aY w1 w2 w3 w4 w5 MQ (J34 ++ (MK2 ++ (MK1 ++ (J29 ++ (J26 ++ A))))) (hra _ qS qS) hQ far qO qO (gw1.mono qS) (gw2.mono qS) (gw3.mono qS) (gw4.mono qS) (gw5.mono qS) gws gwo fck B3O (hG.sub qS))) rfl ?_)
  rintro v61 M61 J61 ⟨vi, vw, p, r, u, xo, xt, xr, xk, xl, xq, rfl, hP61, hx⟩
  change SeR _ aX vi vw p r u xo xt xr xk xl xq at hx
  change Prm pb aD M61 at hP61
  rw [show sX aA.1 aY aU.2 = aX from rfl]
  haveI := hx.id.cel
  haveI := hx.wi.cel
  haveI := hx.he.ia.cel
  haveI := hx.he.ig.cel
  haveI := hx.he.key.cel
  haveI := hx.r.own.cel
  haveI := hx.r.their.cel
  haveI := hx.r.root.cel
  haveI := hx.r.sk.cel
  haveI := hx.r.tk.cel
  haveI := hx.r.st.cel
  unfold seC
  refine mv_ ?_
  refine A2 (Y3 rfl) rfl ?_
  refine A2 (X5 rfl) rfl ?_
  refine A4 rfl (D3 (cs := [vS, vS, vS, vS, vS, E8, .bool false, E8, .bool false, vS, vS, vS, vS, E8, vS, E8, E8, .pointer none]) kR rfl fun b12 => ?_)
  refine A4 rfl (C0 (vs := [vi, vw, p, r, u, (vU aX.he.signed), .bool aX.he.has, (vU aX.he.once), .bool aX.tell, xo, xt, xr, xk, (vU aX.r.sn), xl, (vU aX.r.tn), (vU aX.r.prev), xq]) rfl rfl rfl kR qR (A3 hx.id.one (A3 hx.wi.one (A3 hx.he.ia.one (A3 hx.he.ig.one (A3 hx.he.key.one (A3 rfl (A3 rfl (A3 rfl (A3 rfl (A3 hx.r.own.one (A3 hx.r.their.one (A3 hx.r.root.one (A3 hx.r.sk.one (A3 rfl (A3 hx.r.tk.one (A3 rfl (A3 rfl (A3 hx.r.st.one I5)))))))))))))))))) UpC.upd ?_)
  refine as_ (A0 (L1 4 5 7 8 9 12) ?_)
  refine A2m (M' := M61 ++ ([(b12, blk [vi, vw, p, r, u, (vU aX.he.signed), .bool aX.he.has, (vU aX.he.once), .bool aX.tell, xo, xt, xr, xk, (vU aX.r.sn), xl, (vU aX.r.tn), (vU aX.r.prev), xq] 74), (b4, blk [.int .i64 0, .int .i64 0, .int .i64 0, .int .i64 0, vS, .bool false, vS, vS, vS, .int .u32 0, .bool false, .int .u32 0, vS, .int .u32 0, .int .u32 0, vS] 37)] ++ MA)) (J' := J61 ++ (J34 ++ (MK2 ++ (MK1 ++ (J29 ++ J26))))) (Fit.pick qP (Fit.pick (B := [_]) qP (Fit.pick (B := [_]) qP (Fit.last qP)))) (fun z hz => hz) ?_
  refine E5 (M61) (_) true [0, 1, 2, 3, 4, 5, 6, 7, 8, 9, 10, 11, 12, 13, 14, 15, 16, 19] [(0, 0), (1, 1), (2, 0), (4, 0), (3, 8), (5, 8), (6, 8), (7, 8), (8, 8), (9, 8), (10, 8), (11, 8), (12, 8), (15, 8), (16, 8), (13, 9), (14, 10), (17, 2), (18, 2), (19, 0)] kR kR qP fun hs K n0 hKm hKs hKn => ?_
  refine km_ hs ?_
  refine I2 hs rfl hKs (E6 (n := 18) (vs := [vi, vw, p, r, u, (vU aX.he.signed), .bool aX.he.has, (vU aX.he.once), .bool aX.tell, xo, xt, xr, xk, (vU aX.r.sn), xl, (vU aX.r.tn), (vU aX.r.prev), xq]) rfl kR At.mem rfl (D4 [] [vi, vw, p, r, u, (vU aX.he.signed), .bool aX.he.has, (vU aX.he.once), .bool aX.tell, xo, xt, xr, xk, (vU aX.r.sn), xl, (vU aX.r.tn), (vU aX.r.prev), xq] [])) ?_
  refine km_ hs ?_
  refine km_ hs ?_
  refine A2Z [⟨3, 68, none, [], fun v B _ => B = [] ∧ v = .agg #[.int .i64 aA.1.user, .int .i64 aA.1.dev]⟩, ⟨5, 70, none, [], fun v B _ => B = [] ∧ v = .agg #[.int .i64 aB.1.user, .int .i64 aB.1.dev]⟩, ⟨6, 71, none, [], fun v B _ => ∃ b, v = .slice (some ⟨b, 0, none⟩) 6 6 ∧ B = [(b, blk (H6 .u8 [115, 101, 99, 114, 101, 116]) 5)]⟩, ⟨7, 72, some 6, [], fun v B R => B = [] ∧ By R v A9b⟩, ⟨8, 73, none, [], fun v B R => B = [] ∧ ∃ w0, v = .agg #[.int .i64 1, (vU 1), w0] ∧ By R w0 A9b⟩, ⟨9, 74, none, [], fun v B R => B = [] ∧ By R v aT⟩, ⟨10, 75, none, M61, fun v B R => ∃ q1 q2, v = .tuple #[q1, q2, .int .i64 0] ∧ Prm pb aE B ∧ A8x R q1 (A3b aX (Q8 aD aX.r)) ∧ EvV R q2 aV⟩, ⟨11, 64, none, [], fun v B R => B = [] ∧ ∃ q1 q2, v = .tuple #[q1, q2, .int .i64 0] ∧ A8x R q1 (A3b aX (Q8 aD aX.r)) ∧ EvV R q2 aV⟩, ⟨12, 76, none, [], fun v B R => B = [] ∧ A8x R v (A3b aX (Q8 aD aX.r))⟩, ⟨15, 14, none, [], fun v B _ => ∃ b, v = (vP b) ∧ B = [(b, blk [vS, vS, vS, vS, vS, .int .u32 0, .bool false, .int .u32 0, .bool false, vS, vS, vS, vS, .int .u32 0, vS, .int .u32 0, .int .u32 0, .pointer none] 74)]⟩, ⟨16, 15, none, [], fun v B _ => ∃ b, v = (vP b) ∧ B = [(b, blk [.int .i64 0, .int .i64 0, .int .i64 0, .int .i64 0, vS, .bool false, vS, vS, vS, .int .u32 0, .bool false, .int .u32 0, vS, .int .u32 0, .int .u32 0, vS] 37)]⟩] [⟨13, 77, none, [], fun v B R => B = [] ∧ EvV R v aV⟩, ⟨14, 78, none, [], fun v B R => B = [] ∧ v = .int .i64 0⟩] ([(b12, blk [vi, vw, p, r, u, (vU aX.he.signed), .bool aX.he.has, (vU aX.he.once), .bool aX.tell, xo, xt, xr, xk, (vU aX.r.sn), xl, (vU aX.r.tn), (vU aX.r.prev), xq] 74), (b4, blk [.int .i64 0, .int .i64 0, .int .i64 0, .int .i64 0, vS, .bool false, vS, vS, vS, .int .u32 0, .bool false, .int .u32 0, vS, .int .u32 0, .int .u32 0, vS] 37)] ++ MA) (fun bs => [bs 3, bs 5, bs 7, bs 8, bs 9, bs 10, bs 11, bs 12, bs 15, bs 16, bs 13, bs 14]) (hKn rfl) (by simp [S1, V3]) (show ∀ m ∈ ([[], [], [], [], [], M61, [], [], [], [], [], []] : List Mem), ∀ x ∈ m, K x.1 from A3 (fun _ h => by cases h) (A3 (fun _ h => by cases h) (A3 (fun _ h => by cases h) (A3 (fun _ h => by cases h) (A3 (fun _ h => by cases h) (A3 (hKm) (A3 (fun _ h => by cases h) (A3 (fun _ h => by cases h) (A3 (fun _ h => by cases h) (A3 (fun _ h => by cases h) (A3 (fun _ h => by cases h) (A3 (fun _ h => by cases h) (I5))))))))))))) kR (fun _ => by first | rfl | kernel_rfl)
   (A3 (fun _ _ _ _ _ h => h) (A3 (fun _ _ _ _ _ h => h) (A3 (fun _ _ _ _ _ h => h) (A3 (fun _ _ _ _ h hp => ⟨hp.1, hp.2.mono h⟩) (A3 (fun _ _ _ _ h hp => (let ⟨e0, w0, e1, e2⟩ := hp; ⟨e0, w0, e1, e2.mono h⟩)) (A3 (fun _ _ _ _ h hp => ⟨hp.1, hp.2.mono h⟩) (A3 (fun _ _ _ _ h ⟨q1, q2, e, p1, p2, p3⟩ => ⟨q1, q2, e, p1, p2.mono h, p3.mono h⟩) (A3 (fun _ _ _ _ h ⟨e0, q1, q2, e, p2, p3⟩ => ⟨e0, q1, q2, e, p2.mono h, p3.mono h⟩) (A3 (fun _ _ _ _ h hp => ⟨hp.1, hp.2.mono h⟩) (A3 (fun _ _ _ _ _ h => h) (A3 (fun _ _ _ _ _ h => h) (A3 (fun _ _ _ _ h hp => ⟨hp.1, hp.2.mono h⟩) (A3 (fun _ _ _ _ _ h => h) (I5)))))))))))))) (show List.Nodup [68, 70, 71, 72, 73, 74, 75, 64, 76, 14, 15, 77, 78] by decide) (show List.Nodup [3, 5, 6, 7, 8, 9, 10, 11, 12, 15, 16, 13, 14] by decide) (A3 (D6 rfl) (A3 (D6 rfl) (A3 (D6 rfl) (A3 (D6 rfl) (A3 (D6 rfl) (A3 (D6 rfl) (A3 (D6 rfl) (A3 (D6 rfl) (A3 (D6 rfl) (A3 (D6 rfl) (A3 (D6 rfl) (A3 (D6 rfl) (A3 (D6 rfl) (I5))))))))))))))
   hs (List.cons_ne_nil _ _) (A3 ⟨_, rfl, fun vs bs R Rj wG hb hj hjr ha => ⟨.inl rfl, ?_⟩⟩ (A3 ⟨_, rfl, fun vs bs R Rj wG hb hj hjr ha => ⟨.inl rfl, ?_⟩⟩ (A3 ⟨_, rfl, fun vs bs R Rj wG hb hj hjr ha => ⟨.inl rfl, ?_⟩⟩ (A3 ⟨_, rfl, fun vs bs R Rj wG hb hj hjr ha => ⟨.inl rfl, ?_⟩⟩ (A3 ⟨_, rfl, fun vs bs R Rj wG hb hj hjr ha => ⟨.inl rfl, ?_⟩⟩ (A3 ⟨_, rfl, fun vs bs R Rj wG hb hj hjr ha => ⟨.inl rfl, ?_⟩⟩ (A3 ⟨_, rfl, fun vs bs R Rj wG hb hj hjr ha => ⟨.inl rfl, ?_⟩⟩ (A3 ⟨_, rfl, fun vs bs R Rj wG hb hj hjr ha => ⟨.inl rfl, ?_⟩⟩ (A3 ⟨_, rfl, fun vs bs R Rj wG hb hj hjr ha => ⟨.inl rfl, ?_⟩⟩ (A3 ⟨_, rfl, fun vs bs R Rj wG hb hj hjr ha => ⟨.inl rfl, ?_⟩⟩ (A3 ⟨_, rfl, fun vs bs R Rj wG hb hj hjr ha => ⟨.inl rfl, ?_⟩⟩ (I5)))))))))))) (A3 ⟨rfl, rfl, _, _, _, _, rfl, fun vs bs Rj hj ha => ?_⟩ (A3 ⟨rfl, rfl, _, _, _, _, rfl, fun vs bs Rj hj ha => ?_⟩ (I5))) ?_
  ·
   dsimp only [Gc.inp]
   exact Y1 (aS rfl a0) kR (A2T (A97 k1 aA.1 va vg vq vo vm rs ro rm Rj (hra Rj (fun x hx => hj x (qS x hx)) (fun x hx => hj x (qS x hx)))) (fun x hx => by have := hjr x hx; simp [this])) rfl ⟨_, rfl, rfl, rfl⟩
  ·
   dsimp only [Gc.inp]
   exact Y1 (aS rfl a0) kR (A2T (A97 k2 aB.1 ua ug uq uo um ss so sm Rj (hrb Rj (fun x hx => hj x (qS x hx)) (fun x hx => hj x (qS x hx)))) (fun x hx => by have := hjr x hx; simp [this])) rfl ⟨_, rfl, rfl, rfl⟩
  ·
   dsimp only [Gc.inp]
   exact C3 (e := 5) (sz := 1) (z := [zu8, zu8, zu8, zu8, zu8, zu8]) kR (eS rfl (eS rfl (eS rfl (eS rfl (eS rfl (eS rfl e0)))))) (bdS 0 1 rfl qR (bdS 1 1 rfl qR (bdS 2 1 rfl qR (bdS 3 1 rfl qR (bdS 4 1 rfl qR (bdS 5 1 rfl qR bd0)))))) rfl fun b => ⟨_, rfl, b, rfl, rfl⟩
  ·
   dsimp only [Gc.inp]
   have g6 := ha _ (List.mem_of_getElem? (i := 2) rfl) kR
   replace g6 : (fun v B _ => ∃ b, v = .slice (some ⟨b, 0, none⟩) 6 6 ∧ B = [(b, blk (H6 .u8 [115, 101, 99, 114, 101, 116]) 5)]) (vs 6) (bs 6) Rj := g6
   dsimp only at g6
   obtain ⟨b, e, eB⟩ := g6
   dsimp only [L9, List.map, List.cons_append, List.nil_append]
   rw [e, eB]
   refine OpL.frzAll ?_
   exact A3T rfl kR UpC.upd rfl (fun J2 hJ => ⟨_, rfl, rfl, ⟨Rd.whole (n := 6) (List.mem_append_left _ (hJ _ (List.mem_append_left _ (List.mem_singleton.2 rfl)))) qR, by decide, by decide⟩⟩)
  ·
   dsimp only [Gc.inp]
   have g7 := ha _ (List.mem_of_getElem? (i := 3) rfl) kR
   replace g7 : (fun v B R => B = [] ∧ By R v A9b) (vs 7) (bs 7) Rj := g7
   dsimp only at g7
   obtain ⟨-, h7⟩ := g7
   haveI := h7.cel
   exact OpQ.opL (D2 (place := fun x => #[(0, 1), (1, 1), (2, 1)][x]?) (z := [.int .i64 0, .int .u32 0, vS]) (fun _ => by kernel_rfl) (eS rfl (eS rfl (eS rfl e0))) (bdS 0 1 rfl qR (bdS 1 1 rfl qR (bdS 2 1 rfl qR bd0)))) rfl ⟨_, rfl, rfl, _, rfl, h7⟩
  ·
   dsimp only [Gc.inp]
   have g8 := ha _ (List.mem_of_getElem? (i := 4) rfl) kR
   replace g8 : (fun v B R => B = [] ∧ ∃ w0, v = .agg #[.int .i64 1, (vU 1), w0] ∧ By R w0 A9b) (vs 8) (bs 8) Rj := g8
   dsimp only at g8
   obtain ⟨-, w0, e_, h8⟩ := g8
   have hsp := A3C 1 1 w0 A9b Rj qD h8 qD
   rw [← e_] at hsp
   refine K1 (aS rfl a0) kR (FnX.amb (A := Rj) (fun x hx => by have := hjr x hx; simp [this]) hsp) rfl ?_
   rintro r M1 J1 ⟨rfl, hh_⟩
   exact ⟨_, rfl, rfl, hh_.mono fun z hz => by simp [hz]⟩
  ·
   dsimp only [Gc.inp]
   have g3 := ha _ (List.mem_of_getElem? (i := 0) rfl) kR
   replace g3 : (fun v B _ => B = [] ∧ v = .agg #[.int .i64 aA.1.user, .int .i64 aA.1.dev]) (vs 3) (bs 3) Rj := g3
   dsimp only at g3
   have g5 := ha _ (List.mem_of_getElem? (i := 1) rfl) kR
   replace g5 : (fun v B _ => B = [] ∧ v = .agg #[.int .i64 aB.1.user, .int .i64 aB.1.dev]) (vs 5) (bs 5) Rj := g5
   dsimp only at g5
   have g9 := ha _ (List.mem_of_getElem? (i := 5) rfl) kR
   replace g9 : (fun v B R => B = [] ∧ By R v aT) (vs 9) (bs 9) Rj := g9
   dsimp only at g9
   obtain ⟨-, h9⟩ := g9
   obtain ⟨-, e3⟩ := g3
   obtain ⟨-, e5⟩ := g5
   rw [A8y.1, A8y.2.1] at e3
   rw [A8y.2.2.1, A8y.2.2.2] at e5
   haveI := h9.cel
   have hsp := (B0M pb aD aX vi vw p r u xo xt xr xk xl xq _ 0 1 1 1 aT M61 Rj hP61 qO (hx.mono (fun x hx => hj x (qS x hx))) g7_ g3_ g4_ g5_ g6_ h9 qD (hG.sub (fun x hx => hj x (qS x hx))))
   rw [← e3, ← e5] at hsp
   refine A9 (Mc := M61) (R := []) (aS rfl (aS rfl (aS rfl (aS rfl (aS rfl (a0)))))) kR qM (FnX.amb (A := Rj) (fun x hx => by have := hjr x hx; simp [this]) hsp) rfl ?_
   rintro v125 M125 J125 ⟨wo, wt, wr, wk, wl, wq, vid, q2, q3, rfl, hP25, p2, p3⟩
   exact ⟨_, rfl, _, _, rfl, (by have hz := (show Prm pb aE M125 from hP25); simpa using hz), ⟨_, _, _, _, _, _, _, _, _, _, _, rfl, p2.mono (fun x hx => by simpa using hx)⟩, ⟨_, _, _, _, _, _, rfl, p3.mono (fun x hx => by simpa using hx)⟩⟩
  ·
   dsimp only [Gc.inp]
   have g10 := ha _ (List.mem_of_getElem? (i := 6) rfl) kR
   replace g10 : (fun v B R => ∃ q1 q2, v = .tuple #[q1, q2, .int .i64 0] ∧ Prm pb aE B ∧ A8x R q1 (A3b aX (Q8 aD aX.r)) ∧ EvV R q2 aV) (vs 10) (bs 10) Rj := g10
   dsimp only at g10
   obtain ⟨q1, q2, e_, -, k⟩ := g10
   exact OpQ.opL qm_ rfl ⟨_, rfl, rfl, q1, q2, e_, k⟩
  ·
   dsimp only [Gc.inp]
   have g11 := ha _ (List.mem_of_getElem? (i := 7) rfl) kR
   replace g11 : (fun v B R => B = [] ∧ ∃ q1 q2, v = .tuple #[q1, q2, .int .i64 0] ∧ A8x R q1 (A3b aX (Q8 aD aX.r)) ∧ EvV R q2 aV) (vs 11) (bs 11) Rj := g11
   dsimp only at g11
   obtain ⟨-, q1, q2, e_, k, -⟩ := g11
   exact OpQ.opL (K0 (vs := #[q1, q2, .int .i64 0]) (by rw [← e_]; rfl) rfl) rfl ⟨_, rfl, rfl, k⟩
  ·
   dsimp only [Gc.inp]
   exact D3 (cs := [vS, vS, vS, vS, vS, E8, .bool false, E8, .bool false, vS, vS, vS, vS, E8, vS, E8, E8, .pointer none]) kR rfl fun b => ⟨_, rfl, b, rfl, rfl⟩
  ·
   dsimp only [Gc.inp]
   exact D3 (cs := [F9, F9, F9, F9, vS, .bool false, vS, vS, vS, E8, .bool false, E8, vS, E8, E8, vS]) kR rfl fun b => ⟨_, rfl, b, rfl, rfl⟩
  ·
   have g11 := ha _ (List.mem_of_getElem? (i := 7) rfl) kR
   replace g11 : (fun v B R => B = [] ∧ ∃ q1 q2, v = .tuple #[q1, q2, .int .i64 0] ∧ A8x R q1 (A3b aX (Q8 aD aX.r)) ∧ EvV R q2 aV) (vs 11) (bs 11) Rj := g11
   dsimp only at g11
   obtain ⟨-, q1, q2, e_, -, k⟩ := g11
   exact ⟨_, K0 (vs := #[q1, q2, .int .i64 0]) (by rw [← e_]; rfl) rfl, rfl, k⟩
  ·
   have g11 := ha _ (List.mem_of_getElem? (i := 7) rfl) kR
   replace g11 : (fun v B R => B = [] ∧ ∃ q1 q2, v = .tuple #[q1, q2, .int .i64 0] ∧ A8x R q1 (A3b aX (Q8 aD aX.r)) ∧ EvV R q2 aV) (vs 11) (bs 11) Rj := g11
   dsimp only at g11
   obtain ⟨-, q1, q2, e_, -⟩ := g11
   exact ⟨_, K0 (vs := #[q1, q2, .int .i64 0]) (by rw [← e_]; rfl) rfl, rfl, rfl⟩
  intro vs bs Jn0 hφ hKK
  have kk3 := hKK _ (List.mem_of_getElem? (i := 0) rfl)
  dsimp only at kk3
  have kk5 := hKK _ (List.mem_of_getElem? (i := 1) rfl)
  dsimp only at kk5
  have kk6 := hKK _ (List.mem_of_getElem? (i := 2) rfl)
  dsimp only at kk6
  have kk7 := hKK _ (List.mem_of_getElem? (i := 3) rfl)
  dsimp only at kk7
  have kk8 := hKK _ (List.mem_of_getElem? (i := 4) rfl)
  dsimp only at kk8
  have kk9 := hKK _ (List.mem_of_getElem? (i := 5) rfl)
  dsimp only at kk9
  have kk10 := hKK _ (List.mem_of_getElem? (i := 6) rfl)
  dsimp only at kk10
  have kk11 := hKK _ (List.mem_of_getElem? (i := 7) rfl)
  dsimp only at kk11
  have kk12 := hKK _ (List.mem_of_getElem? (i := 8) rfl)
  dsimp only at kk12
  have kk15 := hKK _ (List.mem_of_getElem? (i := 9) rfl)
  dsimp only at kk15
  have kk16 := hKK _ (List.mem_of_getElem? (i := 10) rfl)
  dsimp only at kk16
  have kk13 := hKK _ (List.mem_of_getElem? (i := 11) rfl)
  dsimp only at kk13
  have kk14 := hKK _ (List.mem_of_getElem? (i := 12) rfl)
  dsimp only at kk14
  clear hKK
  have g3 := ofH hφ
  dsimp only at g3
  replace hφ := ofT hφ
  have g5 := ofH hφ
  dsimp only at g5
  replace hφ := ofT hφ
  have g6 := ofH hφ
  dsimp only at g6
  replace hφ := ofT hφ
  have g7 := ofH hφ
  dsimp only at g7
  replace hφ := ofT hφ
  have g8 := ofH hφ
  dsimp only at g8
  replace hφ := ofT hφ
  have g9 := ofH hφ
  dsimp only at g9
  replace hφ := ofT hφ
  have g10 := ofH hφ
  dsimp only at g10
  replace hφ := ofT hφ
  have g11 := ofH hφ
  dsimp only at g11
  replace hφ := ofT hφ
  have g12 := ofH hφ
  dsimp only at g12
  replace hφ := ofT hφ
  have g15 := ofH hφ
  dsimp only at g15
  replace hφ := ofT hφ
  have g16 := ofH hφ
  dsimp only at g16
  replace hφ := ofT hφ
  have g13 := ofH hφ
  dsimp only at g13
  replace hφ := ofT hφ
  have g14 := ofH hφ
  dsimp only at g14
  clear hφ
  dsimp only [L9, S1, List.foldr, List.map, List.cons_append, List.nil_append]
  generalize bs 3 = B68 at *
  generalize bs 5 = B70 at *
  generalize bs 6 = B71 at *
  generalize bs 7 = B72 at *
  generalize bs 8 = B73 at *
  generalize bs 9 = B74 at *
  generalize bs 10 = B75 at *
  generalize bs 11 = B64 at *
  generalize bs 12 = B76 at *
  generalize bs 15 = B14 at *
  generalize bs 16 = B15 at *
  generalize bs 13 = B77 at *
  generalize bs 14 = B78 at *
  generalize vs 3 = u68 at *
  generalize vs 5 = u70 at *
  generalize vs 6 = u71 at *
  generalize vs 7 = u72 at *
  generalize vs 8 = u73 at *
  generalize vs 9 = u74 at *
  generalize vs 10 = u75 at *
  generalize vs 11 = u64 at *
  generalize vs 12 = u76 at *
  generalize vs 15 = u14 at *
  generalize vs 16 = u15 at *
  generalize vs 13 = u77 at *
  generalize vs 14 = u78 at *
  obtain ⟨-, -, -, hP75, -⟩ := g10
  clear g11
  clear g3 g5 g6 g7 g8 g9
  obtain ⟨rfl, ni, nw, np, nr, nu, no_, nt, nrr, nk, nl, nst, rfl, hn1⟩ := g12
  obtain ⟨rfl, es, ep, er, eu, ek, eg, rfl, hn2⟩ := g13
  obtain ⟨rfl, rfl⟩ := g14
  obtain ⟨b14, rfl, rfl⟩ := g15
  obtain ⟨b15, rfl, rfl⟩ := g16
  haveI := hn1.id.cel
  haveI := hn1.wi.cel
  haveI := hn1.he.ia.cel
  haveI := hn1.he.ig.cel
  haveI := hn1.he.key.cel
  haveI := hn1.r.own.cel
  haveI := hn1.r.their.cel
  haveI := hn1.r.root.cel
  haveI := hn1.r.sk.cel
  haveI := hn1.r.tk.cel
  haveI := hn1.r.st.cel
  haveI := hn2.ses.cel
  haveI := hn2.he.ia.cel
  haveI := hn2.he.ig.cel
  haveI := hn2.he.key.cel
  haveI := hn2.hk.cel
  haveI := hn2.g.cel
  unfold seC evC
  refine I6 rfl rfl rfl (C0 (vs := [ni, nw, np, nr, nu, .int .u32 (((A3b aX (Q8 aD aX.r)).he.signed : Nat) : Int), .bool (A3b aX (Q8 aD aX.r)).he.has, .int .u32 (((A3b aX (Q8 aD aX.r)).he.once : Nat) : Int), .bool (A3b aX (Q8 aD aX.r)).tell, no_, nt, nrr, nk, .int .u32 (((A3b aX (Q8 aD aX.r)).r.sn : Nat) : Int), nl, .int .u32 (((A3b aX (Q8 aD aX.r)).r.tn : Nat) : Int), .int .u32 (((A3b aX (Q8 aD aX.r)).r.prev : Nat) : Int), nst]) rfl rfl rfl kR qR (A3 hn1.id.one (A3 hn1.wi.one (A3 hn1.he.ia.one (A3 hn1.he.ig.one (A3 hn1.he.key.one (A3 rfl (A3 rfl (A3 rfl (A3 rfl (A3 hn1.r.own.one (A3 hn1.r.their.one (A3 hn1.r.root.one (A3 hn1.r.sk.one (A3 rfl (A3 hn1.r.tk.one (A3 rfl (A3 rfl (A3 hn1.r.st.one I5)))))))))))))))))) UpC.upd ?_)
  refine I6 rfl rfl rfl (C0 (vs := [.int .i64 aV.fu, .int .i64 aV.fd, .int .i64 aV.tu, .int .i64 aV.td, es, .bool aV.has, ep, er, eu, (vU aV.he.signed), .bool aV.he.has, (vU aV.he.once), ek, (vU aV.hp), (vU aV.hn), eg]) rfl rfl rfl kR qR (A3 rfl (A3 rfl (A3 rfl (A3 rfl (A3 hn2.ses.one (A3 rfl (A3 hn2.he.ia.one (A3 hn2.he.ig.one (A3 hn2.he.key.one (A3 rfl (A3 rfl (A3 rfl (A3 hn2.hk.one (A3 rfl (A3 rfl (A3 hn2.g.one I5)))))))))))))))) UpC.upd ?_)
  refine E4 hs rfl (G4 rfl) rfl ?_
  refine H7 (L1 4 5 7 8 9 15) (A1 (mv_ ?_))
  refine A2 (qw_ 16) rfl ?_
  refine F0 (aS rfl a0) kR (A20 aV es ep er eu ek eg _ (hn2.mono qS) gc_) rfl ?_
  rintro v81 M81 J81 ⟨rfl, hb81⟩
  haveI := hb81.cel
  refine A4 rfl (A9 (Mc := MA ++ B75) (R := _) (aS rfl (aS rfl (a0))) kR qP (B2r vb kb pb aE h [] [] v81 (A48 aV) MA B75 [] _ hA hP75 (by have := hS.len; omega) qO (Nat.zero_le _) (hb81.mono qS) B2u.1 hG.up) rfl ?_)
  rintro v82 M82 J82 ⟨MA2, MQ2, h2, rfl, hclo, hA2, hQ2⟩
  rw [B2u.2] at hclo hA2 hQ2
  obtain ⟨hH2, hts⟩ := B2t (by have := hS.len; omega) hS.up hS.lS hclo
  replace hQ2 := A69 hQ2 hts
  refine A0 (L1 4 5 7 8 9 15) ?_
  refine F5 (.range 9) (zp 0 [0, 0, 0, 0, 1, 0, 0, 0, 0, 2]) kR kR fun hs => ?_
  refine fm_ hs ?_
  refine fm_ hs ?_
  refine fm_ hs ?_
  refine fm_ hs ?_
  refine Q5 hs rfl (qw_ 16) rfl ?_
  refine fa_ hs ?_
  refine fa_ hs ?_
  refine fa_ hs ?_
  refine fa_ hs ?_
  refine L2 rfl rfl rfl (C0 (vs := [.int .i64 aV.fu, .int .i64 aV.fd, .int .i64 aV.tu, .int .i64 aV.td, es, .bool aV.has, ep, er, eu, (vU aV.he.signed), .bool aV.he.has, (vU aV.he.once), ek, (vU aV.hp), (vU aV.hn), eg]) rfl rfl rfl kR qR (A3 rfl (A3 rfl (A3 rfl (A3 rfl (A3 hn2.ses.one (A3 rfl (A3 hn2.he.ia.one (A3 hn2.he.ig.one (A3 hn2.he.key.one (A3 rfl (A3 rfl (A3 rfl (A3 hn2.hk.one (A3 rfl (A3 rfl (A3 hn2.g.one I5)))))))))))))))) UpC.upd ?_)
  refine H4 (H9 0 1 2 3 4) (A6 ?_)
  exact ⟨_, MA2 ++ MQ2, [], B2v (n := 16) rfl rfl rfl rfl rfl rfl kR At.mem qR, Fit.none (Fit.pick qP (Fit.last qP)), vb, kb, k1, k2, pb, h2, MA2, MQ2, es, ep, er, eu, ek, eg, rfl, rfl, hA2.mono qS, hQ2, ⟨va, vg, vq, vo, vm, rs, ro, rm, hra _ qS qS⟩, ⟨ua, ug, uq, uo, um, ss, so, sm, hrb _ qS qS⟩, hn2.mono qS, hH2⟩

theorem B2w {h : List Bool} (hQ : HQ h) : (Q2 aE.ts h (fun _ => aT) h.length).any (fun w => A3I w A9b) = false := by
  obtain ⟨-, -, -, ⟨-, -, -, -, -, -, -, g8, -⟩, -, -, -, -, -, -, -, h1, -⟩ := af
  exact B0x hQ.up (by have := hQ.len; omega) h1
theorem B3P : Sld aE.ts fun _ => aT := by
  obtain ⟨-, -, -, -, -, -, -, -, -, -, -, -, h1⟩ := af
  exact B2i _ _ h1 qD
theorem B0U : aE.ts.length = 43 := af.2.2.2.1.2.2.2.2.2.2.2.1
set_option maxHeartbeats 1000000 in
theorem A7a (A : Mem) (hG : Glb A) : FnV Tryz.prog 7 [] A (.bool true) := by
 refine FnX.enter (N := 42) Tryz.func7 rfl rfl rfl fun w_ => ?_
 refine A8 kn (A1 (as_ (A0 kn (A1 ?_))))
 refine F0 a0 kR (A4E _ hG.up) rfl ?_
 rintro v9 M9 J9 ⟨vb, kb, k1, k2, pb, h, MA, MP, es, ep, er, eu, ek, eg, rfl, rfl, hA, hP, hK1, hK2, hE, hQ⟩
 haveI := hE.ses.cel
 haveI := hE.he.ia.cel
 haveI := hE.he.ig.cel
 haveI := hE.he.key.cel
 haveI := hE.hk.cel
 haveI := hE.g.cel
 have hQl := hQ.len
 have hel := B0U
 unfold evC
 refine mv_ ?_
 refine A2 (Y3 rfl) rfl ?_
 refine A2 (X5 rfl) rfl ?_
 refine A2 (B3h rfl) rfl ?_
 refine A2 (q_x3 rfl) rfl ?_
 refine A2 (K0 rfl rfl) rfl ?_
 refine A4 rfl (D3 (cs := [F9, F9, F9, F9, vS, .bool false, vS, vS, vS, E8, .bool false, E8, vS, E8, E8, vS]) kR rfl fun b5 => ?_)
 refine as_ (as_ (as_ (as_ ?_)))
 refine A4 rfl (C0 (vs := [.int .i64 aV.fu, .int .i64 aV.fd, .int .i64 aV.tu, .int .i64 aV.td, es, .bool aV.has, ep, er, eu, (vU aV.he.signed), .bool aV.he.has, (vU aV.he.once), ek, (vU aV.hp), (vU aV.hn), eg]) rfl rfl rfl kR qR (A3 rfl (A3 rfl (A3 rfl (A3 rfl (A3 hE.ses.one (A3 rfl (A3 hE.he.ia.one (A3 hE.he.ig.one (A3 hE.he.key.one (A3 rfl (A3 rfl (A3 rfl (A3 hE.hk.one (A3 rfl (A3 rfl (A3 hE.g.one I5)))))))))))))))) UpC.upd ?_)
 refine A0 (D0 1 2) (A7 (A1 (mv_ ?_)))
 refine A2 (C9 (e := 118) rfl rfl kR) rfl ?_
 refine A0 (E7 1 2 16) ?_
 refine B8 rfl ?_
 refine A5 (nx (D0 1 2) ?_)
 obtain ⟨u1, u2, rows, B1, B2, MK, rfl, hs1, hrw, hs2, hKn⟩ := hA.ex
 obtain ⟨sv, bm, B, MT, rfl, hby, hT⟩ := hP.tb
 obtain ⟨ge4, gf4, h4⟩ := hG.pow
 haveI := hs1.cel
 haveI := hs2.cel
 haveI := hby.cel
 refine A1 (mv_ ?_)
 refine F0 (aS rfl a0) kR (A9c pb aE _ _ hP (fun z hz => by simp at hz ⊢; rcases hz with h | h | h <;> simp [h])) rfl ?_
 rintro v19 M19 J19 ⟨vb2, kb2, rfl, hA2⟩
 obtain ⟨w1, w2, rows2, C1, C2, MK2, rfl, ht1, -, ht2, hKn2⟩ := (hA2 []).ex
 have e2 : rows2.flatten = [] := List.eq_nil_of_length_eq_zero (by have := ht1.len; simpa using this)
 rw [e2] at ht1
 haveI := ht1.cel
 refine A2 (D2 (place := fun x => #[(0, 1), (1, 1), (2, 1), (3, 2), (5, 2), (7, 1), (8, 1)][x]?) (z := [zu8, F9, F9, F9, F9, F9, F9, E8, vS]) (fun _ => by kernel_rfl) e0 bd0) rfl ?_
 refine A2 (D2 (place := fun x => #[(0, 2), (2, 2), (4, 1), (5, 1), (6, 1), (7, 1), (8, 1), (9, 1)][x]?) (z := [F9, F9, vS, vS, E8, vS, vS, .bool false, E8, vS]) (fun _ => by kernel_rfl) e0 bd0) rfl ?_
 refine F0 (aS rfl (aS rfl (aS rfl a0))) kR (B0R vb2 kb2 pb w1 w2 _ qM (ht1.rd qS)) rfl ?_
 rintro v22 M22 J22 ⟨rfl, rfl⟩
 refine mv_ ?_
 refine A2 (Y3 rfl) rfl ?_
 refine A2 (X5 rfl) rfl ?_
 refine as_ (as_ (A0 (D0 2 7) (A1 (mv_ ?_))))
 refine A2 (F6 true rfl rfl (eqT rfl)) rfl ?_
 refine mv_ ?_
 refine B0 rfl rfl (OpQ.opL qm_ rfl ?_)
 refine I7 rfl rfl (aS rfl a0) kR (B0O vb kb 1 pb u1 u2 rows.flatten _ qM (hs1.rd qS)) rfl ?_
 refine B0 rfl rfl (OpQ.opL (F6 true rfl rfl (eqT rfl)) rfl ?_)
 refine A2 (D8 rfl rfl) rfl ?_
 refine mv_ ?_
 refine B0 rfl rfl (OpQ.opL qm_ rfl ?_)
 refine I7 rfl rfl (aS rfl a0) kR (A8s vb kb pb u1 u2 _ qM) rfl ?_
 refine B0 rfl rfl (C3 (e := 5) (sz := 1) (z := [zu8, zu8, zu8, zu8, zu8, zu8]) kR (eS rfl (eS rfl (eS rfl (eS rfl (eS rfl (eS rfl e0)))))) (bdS 0 1 rfl qR (bdS 1 1 rfl qR (bdS 2 1 rfl qR (bdS 3 1 rfl qR (bdS 4 1 rfl qR (bdS 5 1 rfl qR bd0)))))) rfl fun b35 => ?_)
 refine B0 rfl rfl (A3T rfl kR UpC.upd rfl ?_)
 refine I7 rfl rfl (aS rfl (aS rfl a0)) kR (A60 kb pb.2 bm aE.ts h (fun _ => aT) (.slice (some ⟨b35, 0, none⟩) 6 6) A9b _ (hKn.rd qS) (hT.tbr qS) B3P qO qO ⟨Rd.whole (n := 6) At.mem qR, by decide, by decide⟩ (qS _ h4)) rfl ?_
 rw [B2w hQ]
 refine B0 rfl rfl (OpQ.opL (T2 rfl) rfl ?_)
 refine A2 (D8 rfl rfl) rfl ?_
 refine mv_ ?_
 refine A2 (D8 rfl rfl) rfl ?_
 refine as_ (A0 (C8 0) (A6 ?_))
 exact ⟨_, [], [], F4 rfl rfl, List.nil_sublist _, by simp, rfl, rfl, rfl⟩

theorem A8z {w : LN} {n m i : Nat} (h : plc w n = some i) (hm : n ≤ m) : plc w m = some i := by
  unfold plc at h ⊢
  split at h
  · rename_i h1
    rw [if_pos ⟨h1.1, h1.2.1, h1.2.2.1, Nat.lt_of_lt_of_le h1.2.2.2 hm⟩]; exact h
  · cases h
structure Kn (ts : List Tm) (h : List Bool) : Prop where
  len : h.length ≤ ts.length
  n : ts.length ≤ 1000
  has : ∀ w ∈ trN aV, A88 ts h w = true
theorem B2x {ts : List Tm} {h h2 : List Bool} (hQ : HQ h) (hl : aE.ts.length ≤ ts.length) (hn : ts.length ≤ 1000) (h2l : h2.length ≤ ts.length) (hle : Le h h2) : Kn ts h2 := by
  obtain ⟨-, -, -, -, -, -, -, -, h1, -⟩ := af
  rw [Bool.and_eq_true] at h1
  refine ⟨h2l, hn, fun w hw => ?_⟩
  obtain ⟨j, hj⟩ := Option.isSome_iff_exists.1 (List.all_eq_true.1 h1.1 w hw)
  have hk := hle j (hQ.tr j (List.mem_map.2 ⟨w, hw, by rw [hj]; rfl⟩))
  unfold A88
  rw [A8z hj hl]
  show (false || isK h2 ((j : Nat) : Int)) = true
  rw [Bool.false_or, A2g]
  exact hk
end Go.Proofs.YtoameenjkiaefaaGreatDoor
