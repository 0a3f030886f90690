/- The card of the law AttackAgain: it returns true for every input; each argument reads behind the call as it read before; the listed package variables are tied to the program's text. No further condition. -/
import Derived.Test.YtoameenjkiaefaaGreatDoorB15
import Derived.Lib.LaidTab
import Derived.Stop.LaidErr
import Derived.MakeChecks
import Derived.Test.YtoameenjkiaefaaGreatDoorCards
import Derived.Test.YtoameenjkiaefaaGreatDoorTie
import Derived.Deep.DeepHandedRow
import Derived.Deep.DeepWitnessRowRef
import Derived.Lay
import Derived.LaidMore
set_option linter.unusedVariables false
set_option linter.unusedSimpArgs false
set_option maxRecDepth 100000
namespace Go.Proofs.YtoameenjkiaefaaGreatDoor
open Go.Px
theorem B2y {h h' : List Bool} (hQ : HQ h) (hle : Le h h') (hl : h'.length = aE.ts.length) : ∀ w ∈ trN aV, A88 aE.ts h' w = true := (B2x hQ (Nat.le_refl _) (by have := B0U; omega) (Nat.le_of_eq hl) hle).has
set_option maxHeartbeats 2000000 in
theorem A2j (fu fd tu td pick : Int) (n : Nat) (A : Mem) (hn : n < 4294967296) (hG : Glb A) : FnV Tryz.prog 4 [.agg #[.int .i64 fu, .int .i64 fd], .agg #[.int .i64 tu, .int .i64 td], .int .i64 pick, (vU n)] A (.bool true) := by
 refine FnX.enter (N := 95) Tryz.func4 rfl rfl rfl fun w_ => ?_
 refine A8 (F8 0 1 2 3) (A1 ?_)
 refine A4 rfl (bx_ fun b4 => ?_)
 refine A4 rfl (bx_ fun b5 => ?_)
 refine as_ (A0 (F8 2 3 4 5) (A7 (A1 ?_)))
 refine E2 a0 kR (A7a _ hG.up) rfl ?_
 refine A2 (T2 rfl) rfl ?_
 refine A0 (H9 2 3 4 5 23) ?_
 refine B8 rfl ?_
 refine A5 (nx (F8 2 3 4 5) (A1 ?_))
 refine F0 a0 kR (FnX.amb qS (A4E A hG)) rfl ?_
 rintro v9 M9 J9 ⟨vb, kb, k1, k2, pb, h, MA, MP, es, ep, er, eu, ek, eg, rfl, rfl, hA, hP, hK1, hK2, hE, hQ⟩
 haveI := hE.ses.cel
 haveI := hE.he.ia.cel
 haveI := hE.he.ig.cel
 haveI := hE.he.key.cel
 haveI := hE.hk.cel
 haveI := hE.g.cel
 have hQl := hQ.len
 have hel := B0U
 unfold evC
 refine mv_ ?_
 refine A2 (Y3 rfl) rfl ?_
 refine A2 (X5 rfl) rfl ?_
 refine A2 (B3h rfl) rfl ?_
 refine A2 (q_x3 rfl) rfl ?_
 refine A2 (K0 rfl rfl) rfl ?_
 refine A4 rfl (D3 (cs := [F9, F9, F9, F9, vS, .bool false, vS, vS, vS, E8, .bool false, E8, vS, E8, E8, vS]) kR rfl fun b13 => ?_)
 refine as_ (as_ (as_ (as_ ?_)))
 refine A4 rfl (C0 (vs := [.int .i64 aV.fu, .int .i64 aV.fd, .int .i64 aV.tu, .int .i64 aV.td, es, .bool aV.has, ep, er, eu, (vU aV.he.signed), .bool aV.he.has, (vU aV.he.once), ek, (vU aV.hp), (vU aV.hn), eg]) rfl rfl rfl kR qR (A3 rfl (A3 rfl (A3 rfl (A3 rfl (A3 hE.ses.one (A3 rfl (A3 hE.he.ia.one (A3 hE.he.ig.one (A3 hE.he.key.one (A3 rfl (A3 rfl (A3 rfl (A3 hE.hk.one (A3 rfl (A3 rfl (A3 hE.g.one I5)))))))))))))))) UpC.upd ?_)
 refine A0 (V0 2 3 4 5 10 12 13) ?_
 obtain ⟨sv, bm, B, MT, rfl, hby, hT⟩ := hP.tb
 obtain ⟨ka9, kg9, kq9, ko9, km9, kr1, kr2, kr3, hky⟩ := hK2
 obtain ⟨x, hsg⟩ := List.length_eq_one_iff.1 af.1.1
 have hon := af.1.2.1
 obtain ⟨hbl, -⟩ := A47 (s := (⟨[], 0, []⟩ : Ps)) hsg
 obtain ⟨y, hy⟩ : ∃ y, (A1f aB.1 (⟨[], 0, []⟩ : Ps)).1[0]? = some y := ⟨_, List.getElem?_eq_getElem qO⟩
 haveI := hby.cel
 refine A1 ?_
 refine F0 (aS rfl (aS rfl a0)) kR (A2J (vS) [] _ By.nil) rfl ?_
 rintro v32 MX J32 ⟨pb2, rfl, hPx⟩
 refine mv_ ?_
 refine A2 (Y3 rfl) rfl ?_
 refine A2 (X5 rfl) rfl ?_
 refine as_ (as_ (A0 (A4H 2 3 4 5 10 12 13 14) ?_))
 refine A2m (M' := MX ++ ([(b13, blk [.int .i64 aV.fu, .int .i64 aV.fd, .int .i64 aV.tu, .int .i64 aV.td, es, .bool aV.has, ep, er, eu, (vU aV.he.signed), .bool aV.he.has, (vU aV.he.once), ek, (vU aV.hp), (vU aV.hn), eg] 37), (b4, blk [.int .i64 fu, .int .i64 fd] 28), (b5, blk [.int .i64 tu, .int .i64 td] 28)] ++ (MA ++ ((pb.1, blk [.int .u8 1, sv, (vI aE.n), .pointer (some ⟨pb.2, 0, none⟩)] 118) :: (B ++ MT))))) (J' := J9) (Fit.pick qP (Fit.pick (B := [_]) qP (Fit.pick (B := [_]) qP (Fit.pick (B := [_]) qP (Fit.pick qP (Fit.pick (B := [_]) qP (Fit.pick qP (Fit.last qP)))))))) (fun z hz => by simp [hz]) ?_
 refine E5 (MX) (_) true [0, 1, 2, 3, 4, 5, 6, 7, 8, 9, 11, 12, 13, 14, 15] (zp 0 [0, 0, 1, 1, 0, 0, 0, 3, 3, 4, 2, 0, 0, 0, 0, 0]) kR kR qP fun hs K n0 hKm hKs hKn => ?_
 refine km_ hs ?_
 refine km_ hs ?_
 refine I2 hs rfl hKs (E6 (n := 2) (vs := [.int .i64 fu, .int .i64 fd]) rfl kR At.mem rfl (D4 [] [.int .i64 fu, .int .i64 fd] [])) ?_
 refine I2 hs rfl hKs (E6 (n := 2) (vs := [.int .i64 tu, .int .i64 td]) rfl kR At.mem rfl (D4 [] [.int .i64 tu, .int .i64 td] [])) ?_
 refine E4 hs rfl (D2 (place := fun x => #[(0, 1), (1, 1), (2, 1), (3, 2), (5, 2), (7, 1), (8, 1)][x]?) (z := [zu8, F9, F9, F9, F9, F9, F9, E8, vS]) (fun _ => by kernel_rfl) (eS rfl (eS rfl (eS rfl (eS rfl e0)))) (bdS 0 1 rfl qR (bdS 1 1 rfl qR (bdS 3 2 rfl qR (bdS 5 2 rfl qR bd0))))) rfl ?_
 refine km_ hs ?_
 refine km_ hs ?_
 refine S2 [⟨7, 43, none, MX, fun v B R => Prm pb2 (A1f aB.1 (⟨[], 0, []⟩ : Ps)).2 B ∧ ∃ rows, Rd R 10 v (A1f aB.1 (⟨[], 0, []⟩ : Ps)).1.length rows.flatten ∧ RwL bnR R rows (A1f aB.1 (⟨[], 0, []⟩ : Ps)).1⟩, ⟨8, 44, none, [], fun v B R => B = [] ∧ ∃ u rows, v = vAt 10 0 u ∧ Rd R 10 u (A1f aB.1 (⟨[], 0, []⟩ : Ps)).1.length rows.flatten ∧ RwL bnR R rows (A1f aB.1 (⟨[], 0, []⟩ : Ps)).1⟩, ⟨9, 45, none, [], fun v B R => B = [] ∧ ∃ r, v = .agg r.toArray ∧ bnR R y r⟩] ([(b13, blk [.int .i64 aV.fu, .int .i64 aV.fd, .int .i64 aV.tu, .int .i64 aV.td, es, .bool aV.has, ep, er, eu, (vU aV.he.signed), .bool aV.he.has, (vU aV.he.once), ek, (vU aV.hp), (vU aV.hn), eg] 37), (b4, blk [.int .i64 fu, .int .i64 fd] 28), (b5, blk [.int .i64 tu, .int .i64 td] 28)] ++ (MA ++ ((pb.1, blk [.int .u8 1, sv, (vI aE.n), .pointer (some ⟨pb.2, 0, none⟩)] 118) :: (B ++ MT)))) (fun bs => [bs 7, bs 8, bs 9]) (hKn rfl) (by simp [S1, V3]) (show ∀ m ∈ ([MX, [], []] : List Mem), ∀ x ∈ m, K x.1 from A3 (hKm) (A3 (fun _ h => by cases h) (A3 (fun _ h => by cases h) (I5)))) kR (fun _ => by first | rfl | kernel_rfl)
  (A3 (fun _ _ _ _ h hp => by obtain ⟨p1, rows, p2, p3⟩ := hp; exact ⟨p1, rows, p2.mono h, p3.mono bnT h⟩) (A3 (fun _ _ _ _ h hp => by obtain ⟨e, u, rows, e2, p2, p3⟩ := hp; exact ⟨e, u, rows, e2, p2.mono h, p3.mono bnT h⟩) (A3 (fun _ _ _ _ h hp => by obtain ⟨e, r, e2, p2⟩ := hp; exact ⟨e, r, e2, bnT.mono _ _ _ _ h p2⟩) (I5)))) (show List.Nodup [43, 44, 45] by decide) (show List.Nodup [7, 8, 9] by decide) (A3 (D6 rfl) (A3 (D6 rfl) (A3 (D6 rfl) (I5))))
  (A3 ⟨_, rfl, fun vs bs R Rj wG hb hj hjr ha => ⟨.inl rfl, ?_⟩⟩ (A3 ⟨_, rfl, fun vs bs R Rj wG hb hj hjr ha => ⟨.inl rfl, ?_⟩⟩ (A3 ⟨_, rfl, fun vs bs R Rj wG hb hj hjr ha => ⟨.inl rfl, ?_⟩⟩ (I5)))) ?_
 ·
  dsimp only [Gc.inp]
  refine A9 (Mc := MX) (R := []) (aS rfl (aS rfl (a0))) kR qM (FnX.amb (A := Rj) (fun x hx => by have := hjr x hx; simp [this]) (A2V pb2 (⟨[], 0, []⟩ : Ps) k2 aB.1 ka9 kg9 kq9 ko9 km9 kr1 kr2 kr3 x [] MX Rj (hky.mono (fun x hx => hj x (qS x hx))) hsg hPx qD qO (hG.sub (fun x hx => hj x (qS x hx))))) rfl ?_
  rintro v125 M125 J125 ⟨hP25, rows2, p1, p2⟩
  exact ⟨_, rfl, by simpa using hP25, rows2, p1.mono qS, p2.mono bnT qS⟩
 ·
  dsimp only [Gc.inp]
  have g7 := ha _ (List.mem_of_getElem? (i := 0) rfl) kR
  replace g7 : (fun v B R => Prm pb2 (A1f aB.1 (⟨[], 0, []⟩ : Ps)).2 B ∧ ∃ rows, Rd R 10 v (A1f aB.1 (⟨[], 0, []⟩ : Ps)).1.length rows.flatten ∧ RwL bnR R rows (A1f aB.1 (⟨[], 0, []⟩ : Ps)).1) (vs 7) (bs 7) Rj := g7
  dsimp only at g7
  obtain ⟨-, rows2, p1, p2⟩ := g7
  exact OpQ.opL (E9 (sz := 10) (a := 0) rfl rfl kR rfl p1 qO) rfl ⟨_, rfl, rfl, _, rows2, rfl, p1, p2⟩
 ·
  dsimp only [Gc.inp]
  have g8 := ha _ (List.mem_of_getElem? (i := 1) rfl) kR
  replace g8 : (fun v B R => B = [] ∧ ∃ u rows, v = vAt 10 0 u ∧ Rd R 10 u (A1f aB.1 (⟨[], 0, []⟩ : Ps)).1.length rows.flatten ∧ RwL bnR R rows (A1f aB.1 (⟨[], 0, []⟩ : Ps)).1) (vs 8) (bs 8) Rj := g8
  dsimp only at g8
  obtain ⟨-, u, rows2, e, p1, p2⟩ := g8
  obtain ⟨r, hr, hbn_⟩ := p2.get 0 y hy
  exact OpQ.opL (T7 (rows := rows2) (by rw [← e]; rfl) kR (p1.mono (fun x hx => by have := hjr x hx; simp [this])) (p2.lens bnT) qD hr) rfl ⟨_, rfl, rfl, r, rfl, hbn_⟩
 intro vs bs Jn0 hφ hKK
 have kk7 := hKK _ (List.mem_of_getElem? (i := 0) rfl)
 dsimp only at kk7
 have kk8 := hKK _ (List.mem_of_getElem? (i := 1) rfl)
 dsimp only at kk8
 have kk9 := hKK _ (List.mem_of_getElem? (i := 2) rfl)
 dsimp only at kk9
 clear hKK
 have g7 := ofH hφ
 dsimp only at g7
 replace hφ := ofT hφ
 have g8 := ofH hφ
 dsimp only at g8
 replace hφ := ofT hφ
 have g9 := ofH hφ
 dsimp only at g9
 clear hφ
 dsimp only [L9, S1, List.foldr, List.map, List.cons_append, List.nil_append]
 generalize bs 7 = B43 at *
 generalize bs 8 = B44 at *
 generalize bs 9 = B45 at *
 generalize vs 7 = u43 at *
 generalize vs 8 = u44 at *
 generalize vs 9 = u45 at *
 obtain ⟨hP43, -⟩ := g7
 obtain ⟨rfl, -⟩ := g8
 obtain ⟨rfl, r0, rfl, w1, w2, w3, w4, w5, rfl, gw1, gw2, gw3, gw4, gw5, gws, gwo⟩ := g9
 haveI := gw1.cel
 haveI := gw2.cel
 haveI := gw3.cel
 haveI := gw4.cel
 haveI := gw5.cel
 refine I6 rfl rfl rfl (A9 (Mc := MA) (R := _) (aS rfl (aS rfl (aS rfl (a0)))) kR qP (A8v (.int .i64 y.user) (.int .i64 y.dev) w1 w2 (vU y.signed) w3 w4 (.bool y.has) (vU y.once) w5 vb kb pb bm aE.ts h aV [] pick fu fd tu td MA (J9 ++ A) _ hA qS (hT.tbr qS) qO qO af.2.2.2.1.2.2.2.2.2.2.2.2.2.1 (fun h' a b => B2y hQ a b) af.2.2.2.1.2.2.2.2.2.2.2.2.2.2.2 hG.up) rfl ?_)
 rintro v46 M46 J46 ⟨h2, x1, rfl, hle2, hl2, hA2, hx1⟩
 haveI := hx1.cel
 refine km_ hs ?_
 refine E4 hs rfl (Y3 rfl) rfl ?_
 refine E4 hs rfl (X5 rfl) rfl ?_
 refine E4 hs rfl (G4 rfl) rfl ?_
 refine E4 hs rfl (G4 rfl) rfl ?_
 refine H7 (A4H 2 3 4 5 10 13 16 17) (A1 ?_)
 refine A2 (qw_ 16) rfl ?_
 refine A4 rfl (D3 (cs := [F9, F9, F9, F9, vS, .bool false, vS, vS, vS, E8, .bool false, E8, vS, E8, E8, vS]) kR rfl fun b18 => ?_)
 refine A4 rfl (C0 (vs := [.int .i64 aV.fu, .int .i64 aV.fd, .int .i64 aV.tu, .int .i64 aV.td, es, .bool aV.has, ep, er, eu, (vU aV.he.signed), .bool aV.he.has, (vU aV.he.once), ek, (vU aV.hp), (vU aV.hn), eg]) rfl rfl rfl kR qR (A3 rfl (A3 rfl (A3 rfl (A3 rfl (A3 hE.ses.one (A3 rfl (A3 hE.he.ia.one (A3 hE.he.ig.one (A3 hE.he.key.one (A3 rfl (A3 rfl (A3 rfl (A3 hE.hk.one (A3 rfl (A3 rfl (A3 hE.g.one I5)))))))))))))))) UpC.upd ?_)
 refine A0 (A5w 2 3 4 5 10 13 16 17 18) (A1 ?_)
 refine A2 (E6 (n := 2) (vs := [.int .i64 fu, .int .i64 fd]) rfl kR At.mem rfl (D4 [] [.int .i64 fu, .int .i64 fd] [])) rfl ?_
 refine A2 (qf_ 0 0) rfl ?_
 refine A4 rfl (I4 (vs := [.int .i64 fu, .int .i64 fd]) (cs' := [.int .i64 fu, .int .i64 fd, .int .i64 aV.tu, .int .i64 aV.td, es, .bool aV.has, ep, er, eu, (vU aV.he.signed), .bool aV.he.has, (vU aV.he.once), ek, (vU aV.hp), (vU aV.hn), eg]) rfl rfl rfl kR (by exact (show 0 + 2 ≤ 16 by decide)) al2 rfl UpC.upd ?_)
 refine A0 (A5w 2 3 4 5 10 13 16 17 18) (A1 ?_)
 refine A2 (E6 (n := 2) (vs := [.int .i64 tu, .int .i64 td]) rfl kR At.mem rfl (D4 [] [.int .i64 tu, .int .i64 td] [])) rfl ?_
 refine A2 (qf_ 2 2) rfl ?_
 refine A4 rfl (I4 (vs := [.int .i64 tu, .int .i64 td]) (cs' := [.int .i64 fu, .int .i64 fd, .int .i64 tu, .int .i64 td, es, .bool aV.has, ep, er, eu, (vU aV.he.signed), .bool aV.he.has, (vU aV.he.once), ek, (vU aV.hp), (vU aV.hn), eg]) rfl rfl rfl kR (by exact (show 2 + 2 ≤ 16 by decide)) al2 rfl UpC.upd ?_)
 refine A0 (A5w 2 3 4 5 10 13 16 17 18) (A1 ?_)
 refine A2 (qw_ 16) rfl ?_
 refine A4 rfl (D3 (cs := [F9, F9, F9, F9, vS, .bool false, vS, vS, vS, E8, .bool false, E8, vS, E8, E8, vS]) kR rfl fun b19 => ?_)
 refine A4 rfl (C0 (vs := [.int .i64 aV.fu, .int .i64 aV.fd, .int .i64 aV.tu, .int .i64 aV.td, es, .bool aV.has, ep, er, eu, (vU aV.he.signed), .bool aV.he.has, (vU aV.he.once), ek, (vU aV.hp), (vU aV.hn), eg]) rfl rfl rfl kR qR (A3 rfl (A3 rfl (A3 rfl (A3 rfl (A3 hE.ses.one (A3 rfl (A3 hE.he.ia.one (A3 hE.he.ig.one (A3 hE.he.key.one (A3 rfl (A3 rfl (A3 rfl (A3 hE.hk.one (A3 rfl (A3 rfl (A3 hE.g.one I5)))))))))))))))) UpC.upd ?_)
 refine A0 (A5w 2 3 4 5 10 16 17 18 19) (A1 ?_)
 refine A2 (E6 (n := 2) (vs := [.int .i64 fu, .int .i64 fd]) rfl kR At.mem rfl (D4 [] [.int .i64 fu, .int .i64 fd] [])) rfl ?_
 refine A2 (qf_ 0 0) rfl ?_
 refine A4 rfl (I4 (vs := [.int .i64 fu, .int .i64 fd]) (cs' := [.int .i64 fu, .int .i64 fd, .int .i64 aV.tu, .int .i64 aV.td, es, .bool aV.has, ep, er, eu, (vU aV.he.signed), .bool aV.he.has, (vU aV.he.once), ek, (vU aV.hp), (vU aV.hn), eg]) rfl rfl rfl kR (by exact (show 0 + 2 ≤ 16 by decide)) al2 rfl UpC.upd ?_)
 refine A0 (A5w 2 3 4 5 10 16 17 18 19) (A1 ?_)
 refine A2 (E6 (n := 2) (vs := [.int .i64 tu, .int .i64 td]) rfl kR At.mem rfl (D4 [] [.int .i64 tu, .int .i64 td] [])) rfl ?_
 refine A2 (qf_ 2 2) rfl ?_
 refine A4 rfl (I4 (vs := [.int .i64 tu, .int .i64 td]) (cs' := [.int .i64 fu, .int .i64 fd, .int .i64 tu, .int .i64 td, es, .bool aV.has, ep, er, eu, (vU aV.he.signed), .bool aV.he.has, (vU aV.he.once), ek, (vU aV.hp), (vU aV.hn), eg]) rfl rfl rfl kR (by exact (show 2 + 2 ≤ 16 by decide)) al2 rfl UpC.upd ?_)
 refine A0 (A5w 2 3 4 5 10 16 17 18 19) (A1 (mv_ ?_))
 refine A2 (qf_ 12 12) rfl ?_
 refine A2 (qf_ 14 2) rfl ?_
 refine A4 rfl (F3 rfl rfl rfl kR SetC.set UpC.upd ?_)
 refine A0 (A5w 2 3 4 5 10 16 17 18 19) (A1 (mv_ (mv_ ?_)))
 refine A2 (E6 (n := 2) (vs := [.int .i64 fu, .int .i64 fd]) rfl kR At.mem rfl (D4 [] [.int .i64 fu, .int .i64 fd] [])) rfl ?_
 refine A2 (E6 (n := 2) (vs := [.int .i64 tu, .int .i64 td]) rfl kR At.mem rfl (D4 [] [.int .i64 tu, .int .i64 td] [])) rfl ?_
 refine mv_ ?_
 refine A2 (D2 (place := fun x => #[(0, 1), (1, 1), (2, 1), (3, 2), (5, 2), (7, 1), (8, 1)][x]?) (z := [zu8, F9, F9, F9, F9, F9, F9, E8, vS]) (fun _ => by kernel_rfl) (eS rfl (eS rfl (eS rfl (eS rfl (eS rfl e0))))) (bdS 0 1 rfl qR (bdS 1 1 rfl qR (bdS 3 2 rfl qR (bdS 5 2 rfl qR (bdS 7 1 rfl qR bd0)))))) rfl ?_
 refine A2 (D2 (place := fun x => #[(0, 2), (2, 2), (4, 1), (5, 1), (6, 1), (7, 1), (8, 1), (9, 1)][x]?) (z := [F9, F9, vS, vS, E8, vS, vS, .bool false, E8, vS]) (fun _ => by kernel_rfl) e0 bd0) rfl ?_
 refine A4 rfl (A9 (Mc := M46) (R := _) (aS rfl (aS rfl (aS rfl (a0)))) kR qP (A8w (.int .i64 0) (.int .i64 0) (vS) (vS) (.int .u32 0) (vS) (vS) (.bool false) (.int .u32 0) (vS) vb kb pb bm aE.ts h2 aV [] pick fu fd tu td n hn M46 (J9 ++ A) _ hA2 qS (hT.tbr qS) qO qO af.2.2.2.1.2.2.2.2.2.2.2.2.2.1 (fun h' a b => B2y hQ (hle2.trans a) b) af.2.2.2.1.2.2.2.2.2.2.2.2.2.2.2 hG.up) rfl ?_)
 rintro v70 M70 J70 ⟨h3, x2, rfl, hle3, hl3, hA3, hx2⟩
 haveI := hx2.cel
 refine mv_ ?_
 refine A2 (Y3 rfl) rfl ?_
 refine A2 (X5 rfl) rfl ?_
 refine as_ (as_ (A0 (L1 16 17 18 19 20 21) ?_))
 refine F5 (.range 23) (zp 0 [0, 0, 0, 0, 1, 1, 2, 1, 0, 0, 0, 0, 0, 0, 0, 0, 1, 1, 2, 1, 0, 0, 0]) kR kR fun hs => ?_
 refine fm_ hs ?_
 refine D9 hs rfl (F6 true rfl rfl (eqT rfl)) rfl ?_
 refine fm_ hs ?_
 refine H8 hs rfl rfl rfl rfl qm_ rfl ?_
 refine T6 hs rfl rfl rfl rfl (P8 rfl kR (hx1.rd.mono qS)) rfl ?_
 refine T6 hs rfl rfl rfl rfl (qw_ 16) rfl ?_
 refine A0F rfl rfl rfl rfl (aS rfl a0) kR (A20 (evA aV fu fd tu td aV.hn) es ep er eu ek eg _ ((hE.adr hE.hn).mono qS) af.2.2.2.1.2.2.2.2.2.2.2.2.2.2.2) rfl ?_
 rintro v79 M79 J79 ⟨rfl, hb79⟩
 haveI := hb79.cel
 refine T6 hs rfl rfl rfl rfl (P8 rfl kR (hb79.rd.mono qS)) rfl ?_
 refine H8 hs rfl rfl rfl rfl ((show (decide (A48 (evA aV fu fd tu td aV.hn) = A48 (evA aV fu fd tu td aV.hn))) = true by simp) ▸ A7s rfl rfl rfl rfl hx1.lt hb79.lt) rfl ?_
 refine D9 hs rfl (D8 rfl rfl) rfl ?_
 refine fm_ hs ?_
 refine H8 hs rfl rfl rfl rfl qm_ rfl ?_
 refine H8 hs rfl rfl rfl rfl (F6 true rfl rfl (eqT rfl)) rfl ?_
 refine D9 hs rfl (D8 rfl rfl) rfl ?_
 refine fm_ hs ?_
 refine H8 hs rfl rfl rfl rfl qm_ rfl ?_
 refine T6 hs rfl rfl rfl rfl (P8 rfl kR (hx2.rd.mono qS)) rfl ?_
 refine T6 hs rfl rfl rfl rfl (qw_ 16) rfl ?_
 refine A0F rfl rfl rfl rfl (aS rfl a0) kR (A20 (evA aV fu fd tu td n) es ep er eu ek eg _ ((hE.adr hn).mono qS) af.2.2.2.1.2.2.2.2.2.2.2.2.2.2.2) rfl ?_
 rintro v91 M91 J91 ⟨rfl, hb91⟩
 haveI := hb91.cel
 refine T6 hs rfl rfl rfl rfl (P8 rfl kR (hb91.rd.mono qS)) rfl ?_
 refine H8 hs rfl rfl rfl rfl ((show (decide (A48 (evA aV fu fd tu td n) = A48 (evA aV fu fd tu td n))) = true by simp) ▸ A7s rfl rfl rfl rfl hx2.lt hb91.lt) rfl ?_
 refine D9 hs rfl (D8 rfl rfl) rfl ?_
 refine fa_ hs ?_
 refine H4 (C8 8) (A6 ?_)
 exact ⟨_, [], [], F4 rfl rfl, List.nil_sublist _, by simp, rfl, rfl, rfl⟩

section
variable {H : Type} {enc : TypeId × Value → H} {P : Program} {w : World} {spare : Nat → Bool} {held : Bool} {fuel : Nat} {t e : TypeId} {cs : List Value} {x : DataW H × List MemPlace} {v : Value} {d : DataW H} {p : List MemPlace} {r : Reach} {base : Nat} {k : IntKind}
end
theorem A8A {P : Program} {W : World} {name : String} {g : Nat} {cs : Array Value} (hg : P.globalNamed name = some g) (h : W.var? P name = some cs) : ∃ e fr, W.heap[g]? = some (.cells cs e fr) := by
  unfold World.var? at h
  rw [hg] at h
  simp only [Option.bind_some] at h
  split at h
  · rename_i c e fr hh
    cases h
    exact ⟨e, fr, hh⟩
  · cases h
def B0V (ws : LN) : List Int := ws.map fun n : Nat => (n : Int)
theorem A5m (k : IntKind) (ws : LN) : ((B0V ws).map fun z => Value.int k z).toArray = (H6 k ws).toArray := by simp [B0V, H6]
theorem B0W {W : World} {a b : String × DataW Unit} {rest : List (String × DataW Unit)} (h : laidMet Tryz.prog (a :: b :: ("internal/strconv.uint64pow10", Rows.laid_internal_strconv_uint64pow10) :: rest) W) : ∃ e fr, W.heap[4]? = some (Obj.cells (H6 .u64 L7).toArray e fr) := by
  have h' : laidMet Tryz.prog (("internal/strconv.uint64pow10", Lib.tabData .u64 (B0V L7)) :: rest) W := h.tail.tail
  have h1 := Lib.tabIs_of_head (g := 4) (t := 343) (e := 101) (n := 20) (by kernel_rfl) (by kernel_rfl) (by kernel_rfl) (by kernel_rfl) (by kernel_rfl) (by kernel_rfl) h'
  obtain ⟨ek, fk, h3⟩ := A8A (g := 4) (by kernel_rfl) h1
  rw [A5m] at h3
  exact ⟨ek, fk, h3⟩
end Go.Proofs.YtoameenjkiaefaaGreatDoor

namespace Go.Proofs.YtoameenjkiaefaaGreatDoor
open Go.Px Go.ChangeShapes Go.WideShapes Go.ChangeAt Go.RowKit
theorem A9e {H : Type} {enc : TypeId × Value → H} {w : World} {spare : Nat → Bool} {held : Bool} {r : Reach} {base : Nat} {v : Value} {d : DataW H} {p : List MemPlace} (hv : Value.okWide Tryz.prog w r base 28 v) (h : DataW.Trod enc Tryz.prog w 0 spare held 28 v d p) :
    ∃ (a0 : Int) (a1 : Int), v = .agg #[.int .i64 a0, .int .i64 a1] ∧ (Lit.int .i64 a0).wf = true ∧ (Lit.int .i64 a1).wf = true ∧ True := by
  obtain ⟨cs0, rfl, _⟩ := okWide_struct Tryz.underlying28 hv
  obtain ⟨fu, hm⟩ := h
  have hcs : (Value.agg cs0).cells.toList = cs0.toList := by simp [Value.cells]
  rw [hcs] at hm
  obtain ⟨l0, hl0⟩ : ∃ l, l = cs0.toList := ⟨_, rfl⟩
  rw [← hl0] at hm
  obtain ⟨_, _, _, _, h1, _, _⟩ := DataW.trod_struct Tryz.underlying28 hm
  rw [show Tryz.prog.cellsOf 28 = 2 from by kernel_rfl] at h1
  match l0, h1 with
  | [c0, c1], _ =>
    obtain ⟨me0, ye0, e0⟩ := Px.st_field Tryz.underlying28 hm 0 _ rfl (tf := 3) (o := 0) (c := 1) rfl rfl (by kernel_rfl)
    change DataW.trod enc Tryz.prog w 0 spare held _ 3 [c0] = _ at e0
    obtain ⟨a0, q0, _, wfa0⟩ := DataW.trod_int Tryz.underlying3 e0
    obtain rfl : c0 = _ := (List.cons.inj q0).1
    obtain ⟨me1, ye1, e1⟩ := Px.st_field Tryz.underlying28 hm 1 _ rfl (tf := 3) (o := 1) (c := 1) rfl rfl (by kernel_rfl)
    change DataW.trod enc Tryz.prog w 0 spare held _ 3 [c1] = _ at e1
    obtain ⟨a1, q1, _, wfa1⟩ := DataW.trod_int Tryz.underlying3 e1
    obtain rfl : c1 = _ := (List.cons.inj q1).1
    exact ⟨a0, a1, by rw [← Array.toArray_toList (xs := cs0), ← hl0], wfa0, wfa1, trivial⟩

theorem B2z {W : World} {a b : String × DataW Unit} {rest : List (String × DataW Unit)} (h : laidMet Tryz.prog (a :: b :: ("internal/strconv.uint64pow10", Rows.laid_internal_strconv_uint64pow10) :: rest) W) : Glb (A7H W) := by
  obtain ⟨e4, f4, h4⟩ := B0W h
  exact ⟨⟨e4, f4, A2I.2 h4⟩⟩
end Go.Proofs.YtoameenjkiaefaaGreatDoor

namespace Go.Proofs.YtoameenjkiaefaaGreatDoor.attackAgain
open Go.ChangeShapes Go.WideShapes Go.ChangeAt Go.RowKit
theorem own : ownKnob Tryz.prog.godebug = none := by kernel_rfl
theorem laidOut : laidOutB Tryz.prog = true := by kernel_rfl
noncomputable def laidWorld (os : Os) : World := World.laidAll Tryz.prog os Rows.attackAgainRow.laid
theorem laid_met (os : Os) : laidMetH Tryz.prog Rows.attackAgainRow.laid ((laidWorld os).forCall (fun _ _ => 0) ⟨#[], #[.agg #[.int .i64 0, .int .i64 0], .agg #[.int .i64 0, .int .i64 0], .int .i64 0, .int .u32 0], []⟩).memory := by
  rw [MakeChecks.laidMetH_plain _ _ _ (by kernel_rfl)]; exact laidMet_laidAll _ (by kernel_rfl) (by kernel_rfl)
theorem reads (os : Os) {H : Type} (enc : TypeId × Value → H) : ∃ places, DataW.whole enc Tryz.prog ((laidWorld os).forCall (fun _ _ => 0) ⟨#[], #[.agg #[.int .i64 0, .int .i64 0], .agg #[.int .i64 0, .int .i64 0], .int .i64 0, .int .u32 0], []⟩).memory Tryz.f4.params.toList Rows.attackAgainSpec.vars false (#[.agg #[.int .i64 0, .int .i64 0], .agg #[.int .i64 0, .int .i64 0], .int .i64 0, .int .u32 0] : Array Value).toList 8 = some ([.agg [.lit (.int .i64 0), .lit (.int .i64 0)], .agg [.lit (.int .i64 0), .lit (.int .i64 0)], .lit (.int .i64 0), .lit (.int .u32 0)], [], places) :=
  ⟨[], by kernel_rfl⟩
theorem lifted (os : Os) (started : os.Started) (H : Type) (enc : TypeId × Value → H) (F : Stop.Interp) :
    ReturnsInHanded {} Tryz.checked os 4 .any ((OpenSpec.ofChange Rows.attackAgainSpec).preRow enc Tryz.prog Tryz.f4 Rows.attackAgainRow.domain false Rows.attackAgainRow.laid) (((OpenSpec.ofChange Rows.attackAgainSpec).at F).post enc Tryz.prog Tryz.f4 false true false false) := by
  obtain ⟨places, hx⟩ := reads os enc
  refine returnsInHanded_of_row (C := Tryz.checked) (s := (OpenSpec.ofChange Rows.attackAgainSpec)) own started (by kernel_rfl) Tryz.func4
    (witness_row_at (enc := enc) (C := Tryz.checked) false (laidWorld os) #[.agg #[.int .i64 0, .int .i64 0], .agg #[.int .i64 0, .int .i64 0], .int .i64 0, .int .u32 0] (World.laidAll_os _ _ _) (by kernel_rfl) (by kernel_rfl) (by kernel_rfl)
      (OpenSpec.preRow_of_cond 8 hx (by kernel_rfl) (fun k hk => by cases hk) (by kernel_rfl) (laid_met os))) ?_
  intro W base args ds gs before hval0 hW _ _ _ hL _ _
  have hval : ∀ (j : Nat) t v, Tryz.f4.params[j]? = some t → args[j]? = some v → Value.okWide Tryz.prog W .any base t v := hval0
  have hW' := hW
  obtain ⟨p, q, hA0, hV, rfl, hfz, hnd⟩ := hW
  have hA : DataW.TrodAll enc Tryz.prog W 0 (fun _ => true) true Tryz.f4.params.toList args.toList ds p := hA0
  rw [Tryz.params4] at hA hval
  obtain ⟨v0, vs0, d0, ds0, p0, q0, hargs, rfl, rfl, k0, r0_⟩ := trodAll_cons hA
  obtain ⟨v1, vs1, d1, ds1, p1, q1, rfl, rfl, rfl, k1, r1_⟩ := trodAll_cons r0_
  obtain ⟨v2, vs2, d2, ds2, p2, q2, rfl, rfl, rfl, k2, r2_⟩ := trodAll_cons r1_
  obtain ⟨v3, vs3, d3, ds3, p3, q3, rfl, rfl, rfl, k3, r3_⟩ := trodAll_cons r2_
  obtain ⟨rfl, rfl, rfl⟩ := trodAll_nil r3_
  obtain rfl : args = #[v0, v1, v2, v3] := by cases args; simp_all
  obtain ⟨rfl, rfl⟩ := trodVars_none hV
  have lt0 : ∀ x ∈ p0, x.block < W.heap.size := by obtain ⟨m, hm⟩ := k0; exact DataW.trod_lt m _ _ _ hm
  have lt1 : ∀ x ∈ p1, x.block < W.heap.size := by obtain ⟨m, hm⟩ := k1; exact DataW.trod_lt m _ _ _ hm
  have lt2 : ∀ x ∈ p2, x.block < W.heap.size := by obtain ⟨m, hm⟩ := k2; exact DataW.trod_lt m _ _ _ hm
  have lt3 : ∀ x ∈ p3, x.block < W.heap.size := by obtain ⟨m, hm⟩ := k3; exact DataW.trod_lt m _ _ _ hm
  obtain ⟨x0_0, x0_1, rfl, hx0_0, hx0_1, _⟩ := A9e (hval 0 28 v0 rfl rfl) k0
  obtain ⟨x1_0, x1_1, rfl, hx1_0, hx1_1, _⟩ := A9e (hval 1 28 v1 rfl rfl) k1
  obtain ⟨x2, rfl, hx2⟩ := Px.inI Tryz.underlying3 (hval 2 3 v2 rfl rfl) k2
  obtain ⟨x3, rfl, hx3⟩ := Px.inU Tryz.underlying31 rfl (hval 3 31 v3 rfl rfl) k3
  clear hA0 hval0
  rw [MakeChecks.laidMetH_plain _ _ _ (by kernel_rfl)] at hL
  have hG := B2z hL
  refine Calls.mono ((A2j x0_0 x0_1 x1_0 x1_1 x2 x3 _ hx3 hG).calls (Px.heapA_fx W)) fun e W' ⟨he, bel⟩ => ?_
  subst he
  exact ⟨_, rfl, _, _, _, [], _, [], hW', trodAll_mk1 (shut_bool Tryz.underlying4 _), (trodAll_cons_mk (Below.trod laidOut (by kernel_rfl) (of_decide_eq_true (by kernel_rfl)) k0 bel lt0) (trodAll_cons_mk (Below.trod laidOut (by kernel_rfl) (of_decide_eq_true (by kernel_rfl)) k1 bel lt1) (trodAll_cons_mk (Below.trod laidOut (by kernel_rfl) (of_decide_eq_true (by kernel_rfl)) k2 bel lt2) (trodAll_cons_mk (Below.trod laidOut (by kernel_rfl) (of_decide_eq_true (by kernel_rfl)) k3 bel lt3) trodAll_mk0)))), rfl, bel.frame _, fun h => by cases h⟩
theorem said : Rows.AttackAgainSaid :=
  OpenClaim.holds_of_cond 4 Tryz.f4 rfl rfl rfl rfl rfl rfl rfl ⟨rfl, rfl, rfl, rfl, rfl⟩ rfl rfl rfl rfl rfl (by kernel_rfl) Tryz.func4 (by kernel_rfl)
    (of_decide_eq_true (by kernel_rfl)) (by unfold Func.isWrapper; first | (rw [if_pos (by decide +kernel)]; kernel_rfl) | (rw [if_neg (by decide +kernel)]; exact ⟨rfl, rfl⟩))
    (fun os started H enc _ F => by rw [OpenClaim.pre_eq_preRow]; exact lifted os started H enc F)
theorem plain (f : FuncId) (fn : Func) (hf : Tryz.pinned.checked.prog.funcNamed "pawl/pawllaw23.AttackAgain" = some f) (hfn : Tryz.pinned.checked.prog.funcs[f]? = some fn) :
    true = Tryz.pinned.checked.prog.looks [] ∧ ∀ (j : Nat) t, fn.params[j]? = some t → Tryz.pinned.checked.prog.wantsStandIn t = false := by
  obtain rfl : f = 4 := Option.some.inj ((show Tryz.prog.funcNamed "pawl/pawllaw23.AttackAgain" = some 4 by kernel_rfl).symm.trans hf) |>.symm
  obtain rfl : fn = Tryz.f4 := (Option.some.inj (Tryz.func4.symm.trans hfn)).symm
  refine ⟨by kernel_rfl, fun j t ht => ?_⟩
  rw [Tryz.params4] at ht
  have hm := Array.mem_of_getElem? ht
  simp only [List.mem_toArray, List.mem_cons, List.not_mem_nil, or_false] at hm
  rcases hm with rfl | rfl | rfl | rfl
  · exact (show Tryz.prog.wantsStandIn 28 = false by kernel_rfl)
  · exact (show Tryz.prog.wantsStandIn 28 = false by kernel_rfl)
  · exact (show Tryz.prog.wantsStandIn 3 = false by kernel_rfl)
  · exact (show Tryz.prog.wantsStandIn 31 = false by kernel_rfl)
theorem proved : Rows.AttackAgainCardSaid :=
  Claim7.holds_tied_plain_at .later [] _ _ _ _ said (fun _ h => by cases h) (by kernel_rfl) (fun _ h => by cases h) attackAgain_row_tie rfl ⟨rfl, rfl⟩ (by kernel_rfl) rfl plain (by kernel_rfl)
#print axioms proved
end Go.Proofs.YtoameenjkiaefaaGreatDoor.attackAgain

