/- Part 14 of the texts of this claim, one behind the other. -/
import Derived.Test.YtlilcmjbaknafaaGreatDoorB13
set_option linter.unusedVariables false
set_option linter.unusedSimpArgs false
set_option maxRecDepth 100000
namespace Go.Proofs.YtlilcmjbaknafaaGreatDoor
open Go.Px
abbrev Rst := LN × Bool
structure Rdr (rb : Nat) (st : Rst) (R M : Mem) : Prop where
  ex : ∃ (v : Value), M = [(rb, blk [v, .bool st.2] 97)] ∧ By R v st.1
def rnN (st : Rst) (k : Nat) : Nat := if st.2 || decide (st.1.length < k) then 0 else bev (st.1.take k)
def rnS (st : Rst) (k : Nat) : Rst := if st.2 || decide (st.1.length < k) then (st.1, true) else (st.1.drop k, false)
def rbN (st : Rst) (most : Nat) : LN :=
  if (rnS st 4).2 || decide (rnN st 4 > most) || decide (rnN st 4 > (rnS st 4).1.length) then [] else (rnS st 4).1.take (rnN st 4)
def rbS (st : Rst) (most : Nat) : Rst :=
  if (rnS st 4).2 || decide (rnN st 4 > most) || decide (rnN st 4 > (rnS st 4).1.length) then ((rnS st 4).1, true) else ((rnS st 4).1.drop (rnN st 4), false)
def rEnd (st : Rst) : Bool := !st.2 && decide (st.1.length = 0)
theorem Rdr.rd {rb : Nat} {st : Rst} {R M A : Mem} (h : Rdr rb st R M) (hs : ∀ x, x ∈ M → x ∈ A) : ∃ v, (rb, blk [v, .bool st.2] 97) ∈ A ∧ By R v st.1 := by
  obtain ⟨v, rfl, h2⟩ := h.ex
  exact ⟨v, hs _ qM, h2⟩

theorem A64 {n : Nat} (h : n < 18446744073709551616) : IntKind.u64.wrap (n : Int) = (n : Int) := B2e qO qO
def u32N (x : Int) : Nat := (x % 4294967296).toNat
def u64N (x : Int) : Nat := (x % 18446744073709551616).toNat
def ctN (st : Rst) (most : Nat) : Nat := if rnN st 2 > most then 0 else rnN st 2
def ctS (st : Rst) (most : Nat) : Rst := if rnN st 2 > most then ((rnS st 2).1, true) else rnS st 2
def A5l (k : LN) (p n : Nat) : LN := ((beN k.length 4 ++ k) ++ beN p 4) ++ beN n 4
theorem A1Y (k : LN) (p n : Nat) : (A5l k p n).length = k.length + 12 := by simp [A5l, A02]; omega
def A4w (w h : LN) : LN := ((beN w.length 4 ++ w) ++ beN h.length 4) ++ h
theorem A2f (w h : LN) : (A4w w h).length = w.length + h.length + 8 := by simp [A4w, A02]; omega
theorem B6y (pb : Nat) (s : Ps) (v1 v2 : Value) (sec their : LN) (MP A : Mem) (hP : Prm pb s MP) (hn : s.ts.length + 200 ≤ 1040000) (hk : s.n < 1000000000) (h1 : By A v1 sec) (h2 : By A v2 their) (hG : Glb A) : FnX Tryz.prog 26 [(vP pb), v1, v2] MP A fun q M J => Prm pb (B0Z s sec their) M ∧ RsV (J ++ A) q (B1W s sec their) := by
 haveI := h1.cel
 haveI := h2.cel
 have hfl := A0C s
 refine FnX.enterZ (N := 27) Tryz.func26 rfl rfl rfl fun w_ => ?_
 refine B0 (D6 0 1 2) (A1 ?_)
 refine A5 rfl (C4 (cs := [vS, vS, vS, vS, G3, vS, G3, G3, .pointer none]) kR rfl fun b6 => ?_)
 refine A0 (D8 0 1 2 6) (A1 (mv_ ?_))
 refine A5 rfl (E0 (Mc := MP) (R := _) (aS rfl (a0)) kR qP (A05 pb s MP _ hP qO qO hG.up) rfl ?_)
 rintro v9 M9 J9 ⟨hP9, h9⟩
 haveI := h9.cel
 refine mv_ ?_
 refine C5 (aS rfl a0) kR (Y9 v2 their _ (h2.mono qS)) rfl ?_
 rintro v11 M11 J11 ⟨rfl, h11⟩
 haveI := h11.cel
 refine A2 (G6 (place := fun x => #[(0, 1)][x]?) (z := [vS]) (fun _ => by kernel_rfl) e0 bd0) rfl ?_
 refine A5 rfl (bx_ fun b13 => ?_)
 refine A2 (G6 (place := fun x => #[(0, 1), (1, 1), (2, 1), (3, 2), (5, 2), (7, 1), (8, 1)][x]?) (z := [vS, vS, vS, vS, G3, vS, G3, G3, .pointer none]) (fun _ => by kernel_rfl) (eS rfl (eS rfl (eS rfl e0))) (bdS 0 1 rfl qR (bdS 1 1 rfl qR (bdS 8 1 rfl qR bd0)))) rfl ?_
 refine A5 rfl (C4 (cs := [vS, vS, vS, vS, G3, vS, G3, G3, .pointer none]) kR rfl fun b7 => ?_)
 refine A5 rfl (A9 (vs := [v9, v11, vS, vS, .int .u32 0, vS, .int .u32 0, .int .u32 0, (vP b13)]) rfl rfl rfl kR qR (A8 h9.one (A8 h11.one (A8 rfl al6))) UpC.upd ?_)
 refine A0 (E4 0 1 2 6 7) (A1 (mv_ (mv_ ?_)))
 refine A2 (qf_ 0 0) rfl ?_
 refine A2 ql_ rfl ?_
 refine mv_ ?_
 refine A5 rfl (E0 (Mc := M9) (R := _) (aS rfl (aS rfl (aS rfl (aS rfl (a0))))) kR qP (B00 pb (E2 s) v1 v9 v2 sec (G2 s) their M9 _ hP9 qO (h1.mono qS) (h9.mono qS) (h2.mono qS) hG.up) rfl ?_)
 rintro v21 M21 J21 ⟨u0, u1, rfl, hP21, g0, g1⟩
 haveI := g0.cel
 haveI := g1.cel
 refine mv_ ?_
 refine A2 (A0T rfl) rfl ?_
 refine A2 (A0L rfl) rfl ?_
 refine A2 (qf_ 2 2) rfl ?_
 refine A5 rfl (D9 rfl rfl g0.one kR SetC.set UpC.upd ?_)
 refine A2 (qf_ 3 3) rfl ?_
 refine A5 rfl (N8 (vs := [u1, .int .u32 0]) (cs' := [v9, v11, u0, u1, .int .u32 0, vS, .int .u32 0, .int .u32 0, (vP b13)]) rfl rfl rfl kR (by exact (show 3 + 2 ≤ 9 by decide)) (A8 g1.one (A8 rfl L6)) rfl UpC.upd ?_)
 refine A0 (D2 6 7) ?_
 refine A0m (B := [(b13, blk [vS] 80)]) qP ?_
 refine A1 ?_
 refine A2 (qw_ 9) rfl ?_
 refine A5 rfl (A9 (vs := [v9, v11, u0, u1, .int .u32 0, vS, .int .u32 0, .int .u32 0, (vP b13)]) rfl rfl rfl kR qR (A8 h9.one (A8 h11.one (A8 g0.one (A8 g1.one al5)))) UpC.upd ?_)
 refine A0 (D7 6) (B4 ?_)
 exact ⟨_, M21, [], A3Q (n := 9) rfl rfl kR At.mem qR, Fit.none (Fit.last qP), hP21, v9, v11, u0, u1, vS, _, rfl, ⟨h9.mono qS, h11.mono qS, g0.mono qS, g1.mono qS, By.nil, StF.new qM, (show 0 < 4294967296 by decide), (show 0 < 4294967296 by decide), (show 0 < 4294967296 by decide), (show 0 ≤ 1000 by decide)⟩⟩
theorem B6z (v1 v2 : Value) (sec own : LN) (A : Mem) (h1 : By A v1 sec) (h2 : By A v2 own) : FnX Tryz.prog 17 [v1, v2] [] A fun q M J => M = [] ∧ RsV (J ++ A) q (B8x sec own) := by
 haveI := h1.cel
 haveI := h2.cel
 refine FnX.enterZ (N := 12) Tryz.func17 rfl rfl rfl fun w_ => ?_
 refine B0 (D2 0 1) (A1 ?_)
 refine A5 rfl (C4 (cs := [vS, vS, vS, vS, G3, vS, G3, G3, .pointer none]) kR rfl fun b4 => ?_)
 refine A0 (D6 0 1 4) (A1 (mv_ ?_))
 refine C5 (aS rfl a0) kR (Y9 v2 own _ (h2.mono qS)) rfl ?_
 rintro v6 M6 J6 ⟨rfl, h6⟩
 haveI := h6.cel
 refine mv_ ?_
 refine C5 (aS rfl a0) kR (Y9 v1 sec _ (h1.mono qS)) rfl ?_
 rintro v8 M8 J8 ⟨rfl, h8⟩
 haveI := h8.cel
 refine A2 (G6 (place := fun x => #[(0, 1)][x]?) (z := [vS]) (fun _ => by kernel_rfl) e0 bd0) rfl ?_
 refine A5 rfl (bx_ fun b10 => ?_)
 refine A2 (G6 (place := fun x => #[(0, 1), (1, 1), (2, 1), (3, 2), (5, 2), (7, 1), (8, 1)][x]?) (z := [vS, vS, vS, vS, G3, vS, G3, G3, .pointer none]) (fun _ => by kernel_rfl) (eS rfl (eS rfl (eS rfl e0))) (bdS 0 1 rfl qR (bdS 2 1 rfl qR (bdS 8 1 rfl qR bd0)))) rfl ?_
 refine A5 rfl (A9 (vs := [v6, vS, v8, vS, .int .u32 0, vS, .int .u32 0, .int .u32 0, (vP b10)]) rfl rfl rfl kR qR (A8 h6.one (A8 rfl (A8 h8.one al6))) UpC.upd ?_)
 refine A0 (D7 4) (B4 ?_)
 exact ⟨_, [], [(b10, blk [vS] 80)], A3Q (n := 9) rfl rfl kR At.mem qR, Fit.pick (B := [_]) qP qZ, rfl, v6, vS, v8, vS, vS, _, rfl, ⟨h6.mono qS, By.nil, h8.mono qS, By.nil, By.nil, StF.new qM, (show 0 < 4294967296 by decide), (show 0 < 4294967296 by decide), (show 0 < 4294967296 by decide), (show 0 ≤ 1000 by decide)⟩⟩
theorem A65 (r : Rsd) (vo vt vr vk vl vs : Value) (A : Mem) (hr : RsR A r vo vt vr vk vl vs) : FnX Tryz.prog 13 [.agg (rsC vo vt vr vk vl vs r).toArray] [] A fun q M J => ∃ cb, q = .agg (rsC vo vt vr vk vl (vP cb) r).toArray ∧ Sto A cb r.sks M := by
 haveI := hr.own.cel
 haveI := hr.their.cel
 haveI := hr.root.cel
 haveI := hr.sk.cel
 haveI := hr.tk.cel
 obtain ⟨sb, u, rows, rfl, hsb, hrd, hrw⟩ := hr.st
 have hsl := hr.sks
 unfold rsC
 refine FnX.enterZ (N := 8) Tryz.func13 rfl rfl rfl fun w_ => ?_
 refine B0 (D7 0) (A1 ?_)
 refine A5 rfl (bx_ fun b1 => ?_)
 refine A5 rfl (C4 (cs := [vS, vS, vS, vS, G3, vS, G3, G3, .pointer none]) kR rfl fun b2 => ?_)
 refine A0 (D2 1 2) (A1 ?_)
 refine A2 (qf_ 8 8) rfl ?_
 refine A2 ql_ rfl ?_
 refine C5 (aS rfl a0) kR (B0S sb _ u rows.flatten _ (mA hsb) (hrd.mono qS) (hrw.ones skT) qO) rfl ?_
 rintro v5 M5 J5 ⟨cb, u5, B5, rfl, rfl, hs5⟩
 refine A2 (qf_ 8 8) rfl ?_
 refine A5 rfl (D9 rfl rfl rfl kR SetC.set UpC.upd ?_)
 refine A0 (D2 1 2) (A1 ?_)
 refine A2 (qw_ 9) rfl ?_
 refine A5 rfl (A9 (vs := [vo, vt, vr, vk, (vU r.sn), vl, (vU r.tn), (vU r.prev), (vP cb)]) rfl rfl rfl kR qR (A8 hr.own.one (A8 hr.their.one (A8 hr.root.one (A8 hr.sk.one (A8 rfl (A8 hr.tk.one al3)))))) UpC.upd ?_)
 refine A0 (D7 2) (B4 ?_)
 exact ⟨_, (cb, blk [u5] 80) :: B5, [], A3Q (n := 9) rfl rfl kR At.mem qR, Fit.none (Fit.pick (B := [_]) qP (Fit.last qP)), cb, rfl, ⟨u5, rows, B5, rfl, hs5, hrw⟩⟩
theorem B3J (vk : Value) (k : LN) (p n : Nat) (A : Mem) (hk : By A vk k) (hl : k.length ≤ 16000000) (hp : p < 4294967296) (hn : n < 4294967296) : FnX Tryz.prog 67 [.agg #[vk, (vU p), (vU n)]] [] A fun q M J => M = [] ∧ By J q (A5l k p n) := by
 haveI := hk.cel
 refine FnX.enterZ (N := 19) Tryz.func67 rfl rfl rfl fun w_ => ?_
 refine B0 (D7 0) (A1 ?_)
 refine A5 rfl (bx_ fun b1 => ?_)
 refine as_ (A0 (D7 1) (A1 ?_))
 refine A2 (G6 (place := fun x => #[(0, 1)][x]?) (z := [vS]) (fun _ => by kernel_rfl) e0 bd0) rfl ?_
 refine A5 rfl (bx_ fun b5 => ?_)
 refine as_ (A0 (D2 1 3) ?_)
 refine N1 ([(b5, blk [vS] 64)]) (_) true (.range 14) [(0, 0), (1, 0), (2, 1), (4, 0), (5, 1), (6, 0), (8, 0), (9, 1), (10, 0), (3, 2), (7, 2), (11, 2), (12, 2), (13, 0)] kR kR qP fun hs K n0 hKm hKs hKn => ?_
 refine km_ hs ?_
 refine L9 hs rfl (qf_ 0 0) rfl ?_
 refine Z0 hs rfl hKs ql_ ?_
 refine L9 hs rfl (qf_ 1 1) rfl ?_
 refine Z0 hs rfl hKs ql_ ?_
 refine L9 hs rfl (N6 (k' := .u64) p rfl kR (A64 qO)) rfl ?_
 refine L9 hs rfl (qf_ 2 2) rfl ?_
 refine Z0 hs rfl hKs ql_ ?_
 refine L9 hs rfl (N6 (k' := .u64) n rfl kR (A64 qO)) rfl ?_
 refine Q6 _ _ rfl rfl (List.Perm.refl _) hKm fun w0 => (E0 (Mc := [(b5, blk [vS] 64)]) (R := _) (aS rfl (aS rfl (a0))) kR qP (A1z b5 vk k [] _ _ Wtr.new (hk.mono qS) qD) rfl ?_)
 rintro v9 M9 J9 ⟨rfl, hW9⟩ hKx9
 refine Q6 M9 _ rfl rfl qP (fun x hx => hKx9 (hKn rfl) x (by simpa using hx)) fun w0 => (E0 (Mc := M9) (R := _) (aS rfl (aS rfl (aS rfl (a0)))) kR qP (A3B b5 p 4 _ _ _ hW9 qO qD (by simp [A02]; omega)) rfl ?_)
 rintro v13 M13 J13 ⟨rfl, hW13⟩ hKx13
 refine Q6 M13 _ rfl rfl qP (fun x hx => hKx13 (hKn rfl) x (by simpa using hx)) fun w0 => (E0 (Mc := M13) (R := _) (aS rfl (aS rfl (aS rfl (a0)))) kR qP (A3B b5 n 4 _ _ _ hW13 qO qD (by simp [A02]; omega)) rfl ?_)
 rintro v17 M17 J17 ⟨rfl, hW17⟩ hKx17
 refine Q6 M17 _ rfl rfl qP (fun x hx => hKx17 (hKn rfl) x (by simpa using hx)) fun w0 => (E0 (Mc := M17) (R := _) (aS rfl (a0)) kR qP (A4u b5 _ M17 _ hW17 (by simp [A02]; omega)) rfl ?_)
 rintro v18 M18 J18 ⟨hW18, h18⟩ hKx18
 haveI := h18.cel
 refine L9 hs rfl (H8 rfl) rfl ?_
 refine T3 (D7 2) (B4 ?_)
 exact ⟨_, [], [], K9 rfl rfl, qZ, rfl, h18.mono qS⟩
theorem B01 (vw vk : Value) (w k : LN) (p n : Nat) (A : Mem) (hw : By A vw w) (hk : By A vk k) (hl : w.length + k.length ≤ 16000000) (hp : p < 4294967296) (hn : n < 4294967296) : FnX Tryz.prog 39 [vw, .agg #[vk, (vU p), (vU n)]] [] A fun q M J => M = [] ∧ By J q (A4w w (A5l k p n)) := by
 haveI := hw.cel
 haveI := hk.cel
 refine FnX.enterZ (N := 15) Tryz.func39 rfl rfl rfl fun w_ => ?_
 refine B0 (D2 0 1) (A1 ?_)
 refine A5 rfl (bx_ fun b3 => ?_)
 refine as_ (A0 (D2 0 3) (A1 ?_))
 refine A2 (G6 (place := fun x => #[(0, 1)][x]?) (z := [vS]) (fun _ => by kernel_rfl) e0 bd0) rfl ?_
 refine A5 rfl (bx_ fun b7 => ?_)
 refine as_ (A0 (D6 0 3 5) ?_)
 refine N1 ([(b7, blk [vS] 64)]) (_) true (.range 8) [(0, 0), (1, 0), (3, 1), (2, 2), (4, 2), (5, 2), (6, 2), (7, 0)] kR kR qP fun hs K n0 hKm hKs hKn => ?_
 refine km_ hs ?_
 refine km_ hs ?_
 refine Z0 hs rfl hKs (qw_ 3) ?_
 refine Q6 _ _ rfl rfl (List.Perm.refl _) hKm fun w0 => (E0 (Mc := [(b7, blk [vS] 64)]) (R := _) (aS rfl (aS rfl (a0))) kR qP (A1z b7 vw w [] _ _ Wtr.new (hw.mono qS) qD) rfl ?_)
 rintro v10 M10 J10 ⟨rfl, hW10⟩ hKx10
 refine Q6 [] _ rfl rfl (List.Perm.refl _) (fun _ h => by cases h) fun w0 => (I2 (aS rfl a0) kR (B3J vk k p n _ (hk.mono qS) qO hp hn) rfl ?_)
 rintro v12 M12 J12 ⟨rfl, h12⟩ _
 haveI := h12.cel
 dsimp only [List.nil_append, List.append_eq]
 refine Q6 M10 _ rfl rfl qP (fun x hx => hKx10 (hKn rfl) x (by simpa using hx)) fun w0 => (E0 (Mc := M10) (R := _) (aS rfl (aS rfl (a0))) kR qP (A1z b7 v12 (A5l k p n) _ _ _ hW10 (h12.mono qS) (by simp [A02]; omega)) rfl ?_)
 rintro v13 M13 J13 ⟨rfl, hW13⟩ hKx13
 refine Q6 M13 _ rfl rfl qP (fun x hx => hKx13 (hKn rfl) x (by simpa using hx)) fun w0 => (E0 (Mc := M13) (R := _) (aS rfl (a0)) kR qP (A4u b7 _ M13 _ hW13 (by simp [A02, A1Y]; omega)) rfl ?_)
 rintro v14 M14 J14 ⟨hW14, h14⟩ hKx14
 haveI := h14.cel
 refine L9 hs rfl (H8 rfl) rfl ?_
 refine T3 (D7 4) (B4 ?_)
 exact ⟨_, [], [], K9 rfl rfl, qZ, rfl, h14.mono qS⟩

def rolN (x n : Nat) : Nat := (x <<< n) % 4294967296 ||| x >>> (32 - n)
theorem B6A {x n : Nat} (hx : x < 4294967296) : rolN x n < 4294967296 := B1T R8 (A9f hx)
def wrdN (p : LN) : Nat := ((p.getD 0 0 ||| (p.getD 1 0 <<< 8) % 4294967296) ||| (p.getD 2 0 <<< 16) % 4294967296) ||| (p.getD 3 0 <<< 24) % 4294967296
theorem A0K {p : LN} (h : ∀ x ∈ p, x < 256) (i : Nat) : p.getD i 0 < 256 := by
  rw [List.getD_eq_getElem?_getD]
  cases hq : p[i]? with
  | none => decide
  | some x => exact h x (List.mem_of_getElem? hq)
theorem B02 {p : LN} (h : ∀ x ∈ p, x < 256) : wrdN p < 4294967296 := B1T (B1T (B1T (by have := A0K h 0; omega) R8) R8) R8
theorem A2P (x n : Nat) (A : Mem) (hx : x < 4294967296) (h0 : 0 < n) (hn : n < 32) : FnV Tryz.prog 118 [(vU x), (vI n)] A (.int .u32 ((rolN x n : Nat) : Int)) := by
 refine FnX.enter (N := 17) Tryz.func118 rfl rfl rfl fun w => ?_
 refine B0 (D2 0 1) (A1 (as_ (A0 (D2 0 1) (A1 (mv_ ?_)))))
 refine A2 (N6 (k' := .u64) n rfl kR (A64 qO)) rfl ?_
 refine A2 (C7 ((n : Nat) : Int) rfl rfl ((B9t (k := .u64) (b := 31) rfl (by show _ < 2 ^ 64; omega) qD).trans (by rw [Nat.and_two_pow_sub_one_eq_mod _ 5, Nat.mod_eq_of_lt qO]))) rfl ?_
 refine as_ (A0 (D2 0 5) (A1 (mv_ (mv_ ?_))))
 refine A2 (A0P n rfl rfl rfl qO) rfl ?_
 refine mv_ (mv_ ?_)
 refine A2 (C7 ((32 - n : Nat) : Int) rfl rfl ((B9s (k := .u64) (a := 32) (b := n) rfl (32 - n) (by show _ ≤ 2 ^ 64; omega) (by show (32 + (18446744073709551616 - n)) % 18446744073709551616 = 32 - n; omega)))) rfl ?_
 refine A2 (Q5 (32 - n) rfl rfl rfl (by show 32 - n ≤ 32; omega)) rfl ?_
 refine A2 (A2k rfl rfl R8 (A9f hx)) rfl ?_
 refine as_ (A0 (D7 4) (B4 ?_))
 exact ⟨_, [], [], K9 rfl rfl, List.nil_sublist _, by simp, rfl, rfl, rfl⟩
theorem A2Q {n : Nat} (h : n < 256) : IntKind.u32.wrap (n : Int) = (n : Int) := by
  unfold IntKind.wrap
  simp [IntKind.signed, IntKind.bits]
  omega
theorem B4L (v : Value) (w : LN) (A : Mem) (hv : By A v w) (hl : 4 ≤ w.length) : FnV Tryz.prog 112 [v] A (.int .u32 ((wrdN w : Nat) : Int)) := by
 haveI := hv.cel
 refine FnX.enter (N := 25) Tryz.func112 rfl rfl rfl fun w_ => ?_
 refine B0 (D7 0) (A1 (as_ (A0 (D7 0) ?_)))
 refine C9 (.range 23) (zp 0 [0, 0, 1, 0, 0, 0, 1, 0, 0, 0, 0, 0, 1, 0, 0, 0, 0, 0, 1, 0, 0, 0, 0]) kR kR fun hs => ?_
 refine fm_ hs ?_
 refine C2 hs rfl (I5 (sz := 1) (a := 0) rfl rfl kR rfl hv.rd qO) rfl ?_
 refine G4 hs rfl (A0t (k := .u8) rfl kR (hv.rd.mono qS) qO) rfl ?_
 refine C2 hs rfl (N6 (k' := .u32) (w.getD 0 0) rfl kR (A2Q (A0K hv.lt 0))) rfl ?_
 refine fm_ hs ?_
 refine C2 hs rfl (I5 (sz := 1) (a := 1) rfl rfl kR rfl hv.rd qO) rfl ?_
 refine G4 hs rfl (A0t (k := .u8) rfl kR (hv.rd.mono qS) qO) rfl ?_
 refine C2 hs rfl (N6 (k' := .u32) (w.getD 1 0) rfl kR (A2Q (A0K hv.lt 1))) rfl ?_
 refine C2 hs rfl (A0P 8 rfl rfl rfl qD) rfl ?_
 refine C2 hs rfl (A2k rfl rfl (by have := A0K hv.lt 0; omega) R8) rfl ?_
 refine fm_ hs ?_
 refine C2 hs rfl (I5 (sz := 1) (a := 2) rfl rfl kR rfl hv.rd qO) rfl ?_
 refine G4 hs rfl (A0t (k := .u8) rfl kR (hv.rd.mono qS) qO) rfl ?_
 refine C2 hs rfl (N6 (k' := .u32) (w.getD 2 0) rfl kR (A2Q (A0K hv.lt 2))) rfl ?_
 refine C2 hs rfl (A0P 16 rfl rfl rfl qD) rfl ?_
 refine C2 hs rfl (A2k rfl rfl (B1T (by have := A0K hv.lt 0; omega) R8) R8) rfl ?_
 refine fm_ hs ?_
 refine C2 hs rfl (I5 (sz := 1) (a := 3) rfl rfl kR rfl hv.rd qO) rfl ?_
 refine G4 hs rfl (A0t (k := .u8) rfl kR (hv.rd.mono qS) qO) rfl ?_
 refine C2 hs rfl (N6 (k' := .u32) (w.getD 3 0) rfl kR (A2Q (A0K hv.lt 3))) rfl ?_
 refine C2 hs rfl (A0P 24 rfl rfl rfl qD) rfl ?_
 refine C2 hs rfl (A2k rfl rfl (B1T (B1T (by have := A0K hv.lt 0; omega) R8) R8) R8) rfl ?_
 refine fa_ hs ?_
 refine E7 (D7 2) (B4 ?_)
 exact ⟨_, [], [], K9 rfl rfl, List.nil_sublist _, by simp, rfl, rfl, rfl⟩
theorem A3G (v : Value) (w : LN) (n : Nat) (A : Mem) (hv : By A v w) (hn : n ≤ 16000000) : FnX Tryz.prog 96 [v, .int .i64 (n : Int)] [] A fun q M J => M = [] ∧ By J q (F7 w n) := by
 haveI := hv.cel
 have hvl := hv.len
 refine FnX.enterZ (N := 12) Tryz.func96 rfl rfl rfl fun w_ => ?_
 refine B0 (D2 0 1) (A1 (as_ (A0 (D2 0 1) (A1 (mv_ ?_)))))
 refine A5 rfl (A0r (by_ := 1) (k := .u8) (e := 5) n rfl rfl kR rfl rfl qO qO rfl fun b7 => ?_)
 refine as_ (A0 (D2 0 5) (A1 (mv_ (mv_ ?_))))
 refine A5 rfl (A3e (e := 5) (us := w) (ws := List.replicate n 0) (ws' := F7 w n) (by_ := 1) rfl rfl kR (hv.rd.mono qS) qM (by simp [F7]) UpC.upd rfl ?_)
 refine A0 (D7 5) (A1 (mv_ (as_ (A0 (D7 4) (B4 ?_)))))
 refine ⟨_, [], [(b7, blk (nums .u8 (F7 w n)) 5)], K9 rfl rfl, Fit.eq qM, ⟨rfl, ⟨?_, A00 hv.lt n, by rw [K0]; omega⟩⟩⟩
 rw [K0]
 exact Rd.whole (n := n) qK (by simp [K0])

def adW (S : LN) (a b : Nat) : LN := S.set a ((S.getD a 0 + S.getD b 0) % 4294967296)
def xrW (S : LN) (d a n : Nat) : LN := S.set d (rolN (S.getD d 0 ^^^ S.getD a 0) n)
def B8y (S : LN) (a b c d : Nat) : LN := xrW (adW (xrW (adW (xrW (adW (xrW (adW S a b) d a 16) c d) b c 12) a b) d a 8) c d) b c 7
structure W16 (S : LN) : Prop where
  len : S.length = 16
  lt : ∀ x ∈ S, x < 4294967296
theorem W16.get {S : LN} (h : W16 S) (i : Nat) : S.getD i 0 < 4294967296 := by
  rw [List.getD_eq_getElem?_getD]
  cases hq : S[i]? with
  | none => decide
  | some x => exact h.lt x (List.mem_of_getElem? hq)
theorem W16.set {S : LN} (h : W16 S) (i x : Nat) (hx : x < 4294967296) : W16 (S.set i x) := ⟨by rw [List.length_set]; exact h.len, fun y hy => by rcases List.mem_or_eq_of_mem_set hy with h1 | rfl; exact h.lt y h1; exact hx⟩
theorem xor32 {a b : Nat} (ha : a < 4294967296) (hb : b < 4294967296) : a ^^^ b < 4294967296 := Nat.xor_lt_two_pow (n := 32) ha hb
theorem W16.ad {S : LN} (h : W16 S) (a b : Nat) : W16 (adW S a b) := h.set _ _ (Nat.mod_lt _ qD)
theorem W16.xr {S : LN} (h : W16 S) (d a n : Nat) : W16 (xrW S d a n) := h.set _ _ (B6A (xor32 (h.get d) (h.get a)))
theorem W16.trn {S : LN} (h : W16 S) (a b c d : Nat) : W16 (B8y S a b c d) := (((((((h.ad a b).xr d a 16).ad c d).xr b c 12).ad a b).xr d a 8).ad c d).xr b c 7
theorem B03 (sb : Nat) (S0 : LN) (a b c d : Nat) (A : Mem) (hS0 : W16 S0) (ha_ : a < 16) (hb_ : b < 16) (hc_ : c < 16) (hd_ : d < 16) : FnX Tryz.prog 113 [(vP sb), (vI a), (vI b), (vI c), (vI d)] [(sb, blk (nums .u32 S0) 179)] A fun q M J => q = .tuple #[] ∧ M = [(sb, blk (nums .u32 (B8y S0 a b c d)) 179)] ∧ J = [] := by
 refine FnX.enterZ (N := 126) Tryz.func113 rfl rfl rfl fun w_ => ?_
 refine B0 (E4 0 1 2 3 4) ?_
 refine C9 (.range 13) (zp 0 [0, 0, 0, 0, 1, 0, 0, 0, 0, 1, 0, 0, 0, 2]) kR kR fun hs => ?_
 refine fm_ hs ?_
 refine fm_ hs ?_
 refine C2 hs rfl (E6 rfl) rfl ?_
 refine C2 hs rfl (D1 (e := 27) (n := 16) (sz := 1) (i := a) a rfl rfl kR kR rfl ha_ qO) rfl ?_
 refine G4 hs rfl (H9 a rfl kR At.mem rfl (by rw [hS0.len]; exact ha_)) rfl ?_
 refine fm_ hs ?_
 refine fm_ hs ?_
 refine C2 hs rfl (E6 rfl) rfl ?_
 refine C2 hs rfl (D1 (e := 27) (n := 16) (sz := 1) (i := b) b rfl rfl kR kR rfl hb_ qO) rfl ?_
 refine G4 hs rfl (H9 b rfl kR At.mem rfl (by rw [hS0.len]; exact hb_)) rfl ?_
 refine C2 hs rfl (F2 4294967296 rfl rfl rfl rfl rfl rfl) rfl ?_
 refine C2 hs rfl (E6 rfl) rfl ?_
 refine C2 hs rfl (D1 (e := 27) (n := 16) (sz := 1) (i := a) a rfl rfl kR kR rfl ha_ qO) rfl ?_
 refine F5 rfl rfl rfl (I7 a rfl rfl kR rfl (by rw [hS0.len]; exact ha_) UpC.upd ?_)
 refine E7 (E4 0 1 2 3 4) ?_
 have hS1 := hS0.ad a b
 change W16 (S0.set a ((S0.getD a 0 + S0.getD b 0) % 4294967296)) at hS1
 obtain ⟨S1, e1⟩ : ∃ z, S0.set a ((S0.getD a 0 + S0.getD b 0) % 4294967296) = z := ⟨_, rfl⟩
 rw [e1] at hS1 ⊢
 change adW S0 a b = S1 at e1
 refine C9 (.range 16) [(0, 0), (1, 0), (2, 0), (3, 0), (4, 0), (5, 0), (6, 1), (7, 0), (8, 0), (9, 0), (10, 0), (11, 1), (12, 0), (14, 0), (13, 2), (15, 0), (16, 2)] kR kR fun hs => ?_
 refine fm_ hs ?_
 refine fm_ hs ?_
 refine fm_ hs ?_
 refine fm_ hs ?_
 refine C2 hs rfl (E6 rfl) rfl ?_
 refine C2 hs rfl (D1 (e := 27) (n := 16) (sz := 1) (i := d) d rfl rfl kR kR rfl hd_ qO) rfl ?_
 refine G4 hs rfl (H9 d rfl kR At.mem rfl (by rw [hS1.len]; exact hd_)) rfl ?_
 refine fm_ hs ?_
 refine fm_ hs ?_
 refine C2 hs rfl (E6 rfl) rfl ?_
 refine C2 hs rfl (D1 (e := 27) (n := 16) (sz := 1) (i := a) a rfl rfl kR kR rfl ha_ qO) rfl ?_
 refine G4 hs rfl (H9 a rfl kR At.mem rfl (by rw [hS1.len]; exact ha_)) rfl ?_
 refine C2 hs rfl (R7 rfl rfl (hS1.get _) (hS1.get _)) rfl ?_
 refine C2 hs rfl (E6 rfl) rfl ?_
 refine Q0 rfl (aS rfl (aS rfl a0)) kR (A2P _ 16 _ (xor32 (hS1.get _) (hS1.get _)) qD qD) rfl ?_
 refine C2 hs rfl (D1 (e := 27) (n := 16) (sz := 1) (i := d) d rfl rfl kR kR rfl hd_ qO) rfl ?_
 refine F5 rfl rfl rfl (I7 d rfl rfl kR rfl (by rw [hS1.len]; exact hd_) UpC.upd ?_)
 refine E7 (E4 0 1 2 3 4) ?_
 have hS2 := hS1.xr d a 16
 change W16 (S1.set d (rolN (S1.getD d 0 ^^^ S1.getD a 0) 16)) at hS2
 obtain ⟨S2, e2⟩ : ∃ z, S1.set d (rolN (S1.getD d 0 ^^^ S1.getD a 0) 16) = z := ⟨_, rfl⟩
 rw [e2] at hS2 ⊢
 change xrW S1 d a 16 = S2 at e2
 refine C9 (.range 13) (zp 0 [0, 0, 0, 0, 1, 0, 0, 0, 0, 1, 0, 0, 0, 2]) kR kR fun hs => ?_
 refine fm_ hs ?_
 refine fm_ hs ?_
 refine C2 hs rfl (E6 rfl) rfl ?_
 refine C2 hs rfl (D1 (e := 27) (n := 16) (sz := 1) (i := c) c rfl rfl kR kR rfl hc_ qO) rfl ?_
 refine G4 hs rfl (H9 c rfl kR At.mem rfl (by rw [hS2.len]; exact hc_)) rfl ?_
 refine fm_ hs ?_
 refine fm_ hs ?_
 refine C2 hs rfl (E6 rfl) rfl ?_
 refine C2 hs rfl (D1 (e := 27) (n := 16) (sz := 1) (i := d) d rfl rfl kR kR rfl hd_ qO) rfl ?_
 refine G4 hs rfl (H9 d rfl kR At.mem rfl (by rw [hS2.len]; exact hd_)) rfl ?_
 refine C2 hs rfl (F2 4294967296 rfl rfl rfl rfl rfl rfl) rfl ?_
 refine C2 hs rfl (E6 rfl) rfl ?_
 refine C2 hs rfl (D1 (e := 27) (n := 16) (sz := 1) (i := c) c rfl rfl kR kR rfl hc_ qO) rfl ?_
 refine F5 rfl rfl rfl (I7 c rfl rfl kR rfl (by rw [hS2.len]; exact hc_) UpC.upd ?_)
 refine E7 (E4 0 1 2 3 4) ?_
 have hS3 := hS2.ad c d
 change W16 (S2.set c ((S2.getD c 0 + S2.getD d 0) % 4294967296)) at hS3
 obtain ⟨S3, e3⟩ : ∃ z, S2.set c ((S2.getD c 0 + S2.getD d 0) % 4294967296) = z := ⟨_, rfl⟩
 rw [e3] at hS3 ⊢
 change adW S2 c d = S3 at e3
 refine C9 (.range 16) [(0, 0), (1, 0), (2, 0), (3, 0), (4, 0), (5, 0), (6, 1), (7, 0), (8, 0), (9, 0), (10, 0), (11, 1), (12, 0), (14, 0), (13, 2), (15, 0), (16, 2)] kR kR fun hs => ?_
 refine fm_ hs ?_
 refine fm_ hs ?_
 refine fm_ hs ?_
 refine fm_ hs ?_
 refine C2 hs rfl (E6 rfl) rfl ?_
 refine C2 hs rfl (D1 (e := 27) (n := 16) (sz := 1) (i := b) b rfl rfl kR kR rfl hb_ qO) rfl ?_
 refine G4 hs rfl (H9 b rfl kR At.mem rfl (by rw [hS3.len]; exact hb_)) rfl ?_
 refine fm_ hs ?_
 refine fm_ hs ?_
 refine C2 hs rfl (E6 rfl) rfl ?_
 refine C2 hs rfl (D1 (e := 27) (n := 16) (sz := 1) (i := c) c rfl rfl kR kR rfl hc_ qO) rfl ?_
 refine G4 hs rfl (H9 c rfl kR At.mem rfl (by rw [hS3.len]; exact hc_)) rfl ?_
 refine C2 hs rfl (R7 rfl rfl (hS3.get _) (hS3.get _)) rfl ?_
 refine C2 hs rfl (E6 rfl) rfl ?_
 refine Q0 rfl (aS rfl (aS rfl a0)) kR (A2P _ 12 _ (xor32 (hS3.get _) (hS3.get _)) qD qD) rfl ?_
 refine C2 hs rfl (D1 (e := 27) (n := 16) (sz := 1) (i := b) b rfl rfl kR kR rfl hb_ qO) rfl ?_
 refine F5 rfl rfl rfl (I7 b rfl rfl kR rfl (by rw [hS3.len]; exact hb_) UpC.upd ?_)
 refine E7 (E4 0 1 2 3 4) ?_
 have hS4 := hS3.xr b c 12
 change W16 (S3.set b (rolN (S3.getD b 0 ^^^ S3.getD c 0) 12)) at hS4
 obtain ⟨S4, e4⟩ : ∃ z, S3.set b (rolN (S3.getD b 0 ^^^ S3.getD c 0) 12) = z := ⟨_, rfl⟩
 rw [e4] at hS4 ⊢
 change xrW S3 b c 12 = S4 at e4
 refine C9 (.range 13) (zp 0 [0, 0, 0, 0, 1, 0, 0, 0, 0, 1, 0, 0, 0, 2]) kR kR fun hs => ?_
 refine fm_ hs ?_
 refine fm_ hs ?_
 refine C2 hs rfl (E6 rfl) rfl ?_
 refine C2 hs rfl (D1 (e := 27) (n := 16) (sz := 1) (i := a) a rfl rfl kR kR rfl ha_ qO) rfl ?_
 refine G4 hs rfl (H9 a rfl kR At.mem rfl (by rw [hS4.len]; exact ha_)) rfl ?_
 refine fm_ hs ?_
 refine fm_ hs ?_
 refine C2 hs rfl (E6 rfl) rfl ?_
 refine C2 hs rfl (D1 (e := 27) (n := 16) (sz := 1) (i := b) b rfl rfl kR kR rfl hb_ qO) rfl ?_
 refine G4 hs rfl (H9 b rfl kR At.mem rfl (by rw [hS4.len]; exact hb_)) rfl ?_
 refine C2 hs rfl (F2 4294967296 rfl rfl rfl rfl rfl rfl) rfl ?_
 refine C2 hs rfl (E6 rfl) rfl ?_
 refine C2 hs rfl (D1 (e := 27) (n := 16) (sz := 1) (i := a) a rfl rfl kR kR rfl ha_ qO) rfl ?_
 refine F5 rfl rfl rfl (I7 a rfl rfl kR rfl (by rw [hS4.len]; exact ha_) UpC.upd ?_)
 refine E7 (E4 0 1 2 3 4) ?_
 have hS5 := hS4.ad a b
 change W16 (S4.set a ((S4.getD a 0 + S4.getD b 0) % 4294967296)) at hS5
 obtain ⟨S5, e5⟩ : ∃ z, S4.set a ((S4.getD a 0 + S4.getD b 0) % 4294967296) = z := ⟨_, rfl⟩
 rw [e5] at hS5 ⊢
 change adW S4 a b = S5 at e5
 refine C9 (.range 16) [(0, 0), (1, 0), (2, 0), (3, 0), (4, 0), (5, 0), (6, 1), (7, 0), (8, 0), (9, 0), (10, 0), (11, 1), (12, 0), (14, 0), (13, 2), (15, 0), (16, 2)] kR kR fun hs => ?_
 refine fm_ hs ?_
 refine fm_ hs ?_
 refine fm_ hs ?_
 refine fm_ hs ?_
 refine C2 hs rfl (E6 rfl) rfl ?_
 refine C2 hs rfl (D1 (e := 27) (n := 16) (sz := 1) (i := d) d rfl rfl kR kR rfl hd_ qO) rfl ?_
 refine G4 hs rfl (H9 d rfl kR At.mem rfl (by rw [hS5.len]; exact hd_)) rfl ?_
 refine fm_ hs ?_
 refine fm_ hs ?_
 refine C2 hs rfl (E6 rfl) rfl ?_
 refine C2 hs rfl (D1 (e := 27) (n := 16) (sz := 1) (i := a) a rfl rfl kR kR rfl ha_ qO) rfl ?_
 refine G4 hs rfl (H9 a rfl kR At.mem rfl (by rw [hS5.len]; exact ha_)) rfl ?_
 refine C2 hs rfl (R7 rfl rfl (hS5.get _) (hS5.get _)) rfl ?_
 refine C2 hs rfl (E6 rfl) rfl ?_
 refine Q0 rfl (aS rfl (aS rfl a0)) kR (A2P _ 8 _ (xor32 (hS5.get _) (hS5.get _)) qD qD) rfl ?_
 refine C2 hs rfl (D1 (e := 27) (n := 16) (sz := 1) (i := d) d rfl rfl kR kR rfl hd_ qO) rfl ?_
 refine F5 rfl rfl rfl (I7 d rfl rfl kR rfl (by rw [hS5.len]; exact hd_) UpC.upd ?_)
 refine E7 (D8 0 2 3 4) ?_
 have hS6 := hS5.xr d a 8
 change W16 (S5.set d (rolN (S5.getD d 0 ^^^ S5.getD a 0) 8)) at hS6
 obtain ⟨S6, e6⟩ : ∃ z, S5.set d (rolN (S5.getD d 0 ^^^ S5.getD a 0) 8) = z := ⟨_, rfl⟩
 rw [e6] at hS6 ⊢
 change xrW S5 d a 8 = S6 at e6
 refine C9 (.range 13) (zp 0 [0, 0, 0, 0, 1, 0, 0, 0, 0, 1, 0, 0, 0, 2]) kR kR fun hs => ?_
 refine fm_ hs ?_
 refine fm_ hs ?_
 refine C2 hs rfl (E6 rfl) rfl ?_
 refine C2 hs rfl (D1 (e := 27) (n := 16) (sz := 1) (i := c) c rfl rfl kR kR rfl hc_ qO) rfl ?_
 refine G4 hs rfl (H9 c rfl kR At.mem rfl (by rw [hS6.len]; exact hc_)) rfl ?_
 refine fm_ hs ?_
 refine fm_ hs ?_
 refine C2 hs rfl (E6 rfl) rfl ?_
 refine C2 hs rfl (D1 (e := 27) (n := 16) (sz := 1) (i := d) d rfl rfl kR kR rfl hd_ qO) rfl ?_
 refine G4 hs rfl (H9 d rfl kR At.mem rfl (by rw [hS6.len]; exact hd_)) rfl ?_
 refine C2 hs rfl (F2 4294967296 rfl rfl rfl rfl rfl rfl) rfl ?_
 refine C2 hs rfl (E6 rfl) rfl ?_
 refine C2 hs rfl (D1 (e := 27) (n := 16) (sz := 1) (i := c) c rfl rfl kR kR rfl hc_ qO) rfl ?_
 refine F5 rfl rfl rfl (I7 c rfl rfl kR rfl (by rw [hS6.len]; exact hc_) UpC.upd ?_)
 refine E7 (D6 0 2 3) ?_
 have hS7 := hS6.ad c d
 change W16 (S6.set c ((S6.getD c 0 + S6.getD d 0) % 4294967296)) at hS7
 obtain ⟨S7, e7⟩ : ∃ z, S6.set c ((S6.getD c 0 + S6.getD d 0) % 4294967296) = z := ⟨_, rfl⟩
 rw [e7] at hS7 ⊢
 change adW S6 c d = S7 at e7
 refine F8 (.range 16) [(0, 0), (1, 0), (2, 0), (3, 0), (4, 0), (5, 0), (6, 1), (7, 0), (8, 0), (9, 0), (10, 0), (11, 1), (12, 0), (14, 0), (13, 2), (15, 0), (16, 2)] kR kR fun hs => ?_
 refine fm_ hs ?_
 refine fm_ hs ?_
 refine fm_ hs ?_
 refine fm_ hs ?_
 refine C2 hs rfl (E6 rfl) rfl ?_
 refine C2 hs rfl (D1 (e := 27) (n := 16) (sz := 1) (i := b) b rfl rfl kR kR rfl hb_ qO) rfl ?_
 refine G4 hs rfl (H9 b rfl kR At.mem rfl (by rw [hS7.len]; exact hb_)) rfl ?_
 refine fm_ hs ?_
 refine fm_ hs ?_
 refine C2 hs rfl (E6 rfl) rfl ?_
 refine C2 hs rfl (D1 (e := 27) (n := 16) (sz := 1) (i := c) c rfl rfl kR kR rfl hc_ qO) rfl ?_
 refine G4 hs rfl (H9 c rfl kR At.mem rfl (by rw [hS7.len]; exact hc_)) rfl ?_
 refine C2 hs rfl (R7 rfl rfl (hS7.get _) (hS7.get _)) rfl ?_
 refine C2 hs rfl (E6 rfl) rfl ?_
 refine Q0 rfl (aS rfl (aS rfl a0)) kR (A2P _ 7 _ (xor32 (hS7.get _) (hS7.get _)) qD qD) rfl ?_
 refine C2 hs rfl (D1 (e := 27) (n := 16) (sz := 1) (i := b) b rfl rfl kR kR rfl hb_ qO) rfl ?_
 refine F5 rfl rfl rfl (I7 b rfl rfl kR rfl (by rw [hS7.len]; exact hb_) UpC.upd ?_)
 refine Q8 ?_
 exact ⟨_, [(sb, blk (nums .u32 (S7.set b (rolN (S7.getD b 0 ^^^ S7.getD c 0) 7))) 179)], [], B5h rfl, Fit.eq qM, rfl, by unfold B8y; rw [e1, e2, e3, e4, e5, e6, e7]; rfl, rfl⟩

def cstW : LN := [1634760805, 857760878, 2036477234, 1797285236, 0, 0, 0, 0, 0, 0, 0, 0, 0, 0, 0, 0]
def kyW (K : LN) : Nat → LN
  | 0 => cstW
  | i + 1 => (kyW K i).set (4 + i) (wrdN (K.drop (4 * i)))
def nnW (K : LN) (n : Nat) (N : LN) : Nat → LN
  | 0 => (kyW K 8).set 12 n
  | i + 1 => (nnW K n N i).set (13 + i) (wrdN (N.drop (4 * i)))
def rdA (S : LN) : Nat → LN
  | 0 => S
  | i + 1 => B8y (rdA S i) i (4 + i) (8 + i) (12 + i)
def rdB (S : LN) : Nat → LN
  | 0 => S
  | i + 1 => B8y (rdB S i) i (4 + (i + 1) % 4) (8 + (i + 2) % 4) (12 + (i + 3) % 4)
def rdW (S : LN) : Nat → LN
  | 0 => S
  | k + 1 => rdB (rdA (rdW S k) 4) 4
def le4 (x : Nat) : LN := [x % 256, x >>> 8 % 256, x >>> 16 % 256, x >>> 24 % 256]
def otW (W S : LN) : Nat → LN
  | 0 => []
  | i + 1 => otW W S i ++ le4 ((W.getD i 0 + S.getD i 0) % 4294967296)
def B7l (K : LN) (n : Nat) (N : LN) : LN := otW (rdW (nnW K n N 3) 10) (nnW K n N 3) 16
theorem B6B {p : LN} (h : ∀ x ∈ p, x < 256) (k : Nat) : ∀ x ∈ p.drop k, x < 256 := fun x hx => h x (List.mem_of_mem_drop hx)
theorem B04 {K : LN} (h : ∀ x ∈ K, x < 256) : ∀ i, W16 (kyW K i)
  | 0 => ⟨rfl, by show ∀ x ∈ cstW, x < 4294967296; decide⟩
  | i + 1 => (B04 h i).set _ _ (B02 (B6B h _))
theorem B4M {K N : LN} {n : Nat} (h : ∀ x ∈ K, x < 256) (hn : n < 4294967296) (h2 : ∀ x ∈ N, x < 256) : ∀ i, W16 (nnW K n N i)
  | 0 => (B04 h 8).set _ _ hn
  | i + 1 => (B4M h hn h2 i).set _ _ (B02 (B6B h2 _))
theorem A7Y {S : LN} (h : W16 S) : ∀ i, W16 (rdA S i)
  | 0 => h
  | i + 1 => (A7Y h i).trn _ _ _ _
theorem B05 {S : LN} (h : W16 S) : ∀ i, W16 (rdB S i)
  | 0 => h
  | i + 1 => (B05 h i).trn _ _ _ _
theorem B4N {S : LN} (h : W16 S) : ∀ i, W16 (rdW S i)
  | 0 => h
  | i + 1 => B05 (A7Y (B4N h i) 4) 4
theorem A3H (W S : LN) : ∀ i, (otW W S i).length = 4 * i
  | 0 => rfl
  | i + 1 => by show (otW W S i ++ le4 _).length = _; rw [List.length_append, A3H W S i]; simp [le4]; omega
theorem B8z (x : Nat) : ∀ y ∈ le4 x, y < 256 := by
  intro y hy
  simp only [le4, List.mem_cons, List.not_mem_nil, or_false] at hy
  rcases hy with rfl | rfl | rfl | rfl <;> exact Nat.mod_lt _ qD
theorem B06 (W S : LN) : ∀ i, ∀ x ∈ otW W S i, x < 256
  | 0 => fun x hx => by cases hx
  | i + 1 => fun x hx => (List.mem_append.1 hx).elim (B06 W S i x) (B8z _ x)
theorem _root_.Go.Px.By.lo {R : Mem} {v : Value} {w : LN} (h : By R v w) (k : Nat) (hk : k ≤ w.length) : By R (vLo k 1 v) (w.drop k) := by
  refine ⟨?_, B6B h.lt k, by rw [List.length_drop]; have := h.len; omega⟩
  have h1 := h.rd.loV k hk
  rw [List.length_drop]
  simpa [nums] using h1
theorem B07 (v vn : Value) (kw nw : LN) (n : Nat) (A : Mem) (hk : By A v kw) (hno : By A vn nw) (hn : n < 4294967296) : FnX Tryz.prog 94 [v, (vU n), vn] [] A fun q M J => M = [] ∧ By J q (B7l (F7 kw 32) n (F7 nw 12)) := by
 haveI := hk.cel
 haveI := hno.cel
 refine FnX.enterZ (N := 107) Tryz.func94 rfl rfl rfl fun w_ => ?_
 refine B0 (D6 0 1 2) (A1 (as_ (A0 (D6 0 1 2) (A1 (mv_ ?_)))))
 refine C5 (aS rfl (aS rfl a0)) kR (A3G v kw 32 _ (hk.mono qS) qD) rfl ?_
 rintro v17 M17 J17 ⟨rfl, h17⟩
 haveI := h17.cel
 have hkl := K0 kw 32
 generalize F7 kw 32 = K at *
 have hKl := h17.lt
 refine mv_ ?_
 refine C5 (aS rfl (aS rfl a0)) kR (A3G vn nw 12 _ (hno.mono qS) qD) rfl ?_
 rintro v19 M19 J19 ⟨rfl, h19⟩
 haveI := h19.cel
 have hnl := K0 nw 12
 generalize F7 nw 12 = N at *
 have hNl := h19.lt
 refine as_ (as_ (A0 (D6 0 1 2) (A1 ?_)))
 refine A2 (G6 (place := fun i => some (i * 1, 1)) (z := [G3, G3, G3, G3, G3, G3, G3, G3, G3, G3, G3, G3, G3, G3, G3, G3]) (fun _ => by kernel_rfl) (eS rfl (eS rfl (eS rfl (eS rfl e0)))) (bdS 0 1 rfl qR (bdS 1 1 rfl qR (bdS 2 1 rfl qR (bdS 3 1 rfl qR bd0))))) rfl ?_
 refine A5 rfl (C4 (cs := [G3, G3, G3, G3, G3, G3, G3, G3, G3, G3, G3, G3, G3, G3, G3, G3]) kR rfl fun b7 => ?_)
 refine A5 rfl (A9 (vs := nums .u32 (kyW K 0)) rfl rfl rfl kR qR E5 UpC.upd ?_)
 refine A0 (D8 0 1 2 7) (A3 (A1 (mv_ (A0 (E4 0 1 2 7 21) (A4 ?_)))))
 refine D3 (α := Nat) (fun i => [(0, v17), (1, (vU n)), (2, v19), (7, (vP b7)), (21, (vI i))]) (fun i => [(b7, blk (nums .u32 (kyW K i)) 179)]) (fun _ => _) (fun i => i ≤ 8) (fun i => 8 - i) 0 (Nat.zero_le _) (E4 0 1 2 7 21) (Fit.eq rfl) qI ?_
 rintro i hii
 try dsimp only at hii ⊢
 have hok := B04 hKl i
 refine A1 ?_
 refine A2 (D4 rfl rfl rfl) rfl ?_
 refine A0 (H3 0 1 2 7 21 22) (A3 ?_)
 refine C1 rfl ?_ ?_ <;> intro hc
 ·
  have hlt : i < 8 := by simp at hc; omega
  refine A6 (nx (E4 0 1 2 7 21) (A3 (A4 (A1 (mv_ (as_ (A0 (H3 0 1 2 7 8 21) (A7 ?_))))))))
  refine mv_ ?_
  refine A2 (C7 ((4 + i : Nat) : Int) rfl rfl (E1 qO qO qO)) rfl ?_
  refine mv_ (mv_ ?_)
  refine A2 (C7 ((4 * i : Nat) : Int) rfl rfl (A1F qO qO qO)) rfl ?_
  refine A2 (A28 (sz := 1) (a := 4 * i) rfl rfl kR rfl h17.rd qO) rfl ?_
  have h29 := h17.lo (4 * i) qO
  haveI := h29.cel
  refine F1 (aS rfl a0) kR (B4L (vLo (4 * i) 1 v17) (K.drop (4 * i)) _ (h29.mono qS) (by rw [List.length_drop]; omega)) rfl ?_
  refine A2 (D1 (e := 27) (n := 16) (sz := 1) (i := 4 + i) (4 + i) rfl rfl kR kR rfl qO qO) rfl ?_
  refine A5 rfl (I7 (4 + i) rfl rfl kR rfl (by rw [hok.len]; omega) UpC.upd ?_)
  refine C0 (nb (nx (E4 0 1 2 7 21) (A7 ?_)))
  refine A2 (C7 ((i + 1 : Nat) : Int) rfl rfl (E1 qO qO qO)) rfl ?_
  refine mv_ (C0 ?_)
  exact rn (i + 1) qO qO (E4 0 1 2 7 21) (Fit.eq rfl) qI
 ·
  obtain rfl : i = 8 := by simp at hc; omega
  refine D0 (te (re (be rfl (nx (D6 1 2 7) (A1 (mv_ ?_))))))
  refine A2 (D1 (e := 27) (n := 16) (sz := 1) (i := 12) (12) rfl rfl kR kR rfl qO qO) rfl ?_
  refine A5 rfl (I7 12 rfl rfl kR rfl (by rw [hok.len]; omega) UpC.upd ?_)
  refine A0 (D2 2 7) (A3 (A1 (mv_ (A0 (D6 2 7 35) (A4 ?_)))))
  refine D3 (α := Nat) (fun i => [(2, v19), (7, (vP b7)), (35, (vI i))]) (fun i => [(b7, blk (nums .u32 (nnW K n N i)) 179)]) (fun _ => _) (fun i => i ≤ 3) (fun i => 3 - i) 0 (Nat.zero_le _) (D6 2 7 35) (Fit.eq rfl) qI ?_
  rintro j hij
  try dsimp only at hij ⊢
  have hok2 := B4M hKl hn hNl j
  refine A1 ?_
  refine A2 (D4 rfl rfl rfl) rfl ?_
  refine A0 (D8 2 7 35 36) (A3 ?_)
  refine C1 rfl ?_ ?_ <;> intro hc
  ·
   have hlt : j < 3 := by simp at hc; omega
   refine A6 (nx (D6 2 7 35) (A3 (A4 (A1 (mv_ (as_ (A0 (D8 2 7 9 35) (A7 ?_))))))))
   refine mv_ ?_
   refine A2 (C7 ((13 + j : Nat) : Int) rfl rfl (E1 qO qO qO)) rfl ?_
   refine mv_ (mv_ ?_)
   refine A2 (C7 ((4 * j : Nat) : Int) rfl rfl (A1F qO qO qO)) rfl ?_
   refine A2 (A28 (sz := 1) (a := 4 * j) rfl rfl kR rfl h19.rd qO) rfl ?_
   have h43 := h19.lo (4 * j) qO
   haveI := h43.cel
   refine F1 (aS rfl a0) kR (B4L (vLo (4 * j) 1 v19) (N.drop (4 * j)) _ (h43.mono qS) (by rw [List.length_drop]; omega)) rfl ?_
   refine A2 (D1 (e := 27) (n := 16) (sz := 1) (i := 13 + j) (13 + j) rfl rfl kR kR rfl qO qO) rfl ?_
   refine A5 rfl (I7 (13 + j) rfl rfl kR rfl (by rw [hok2.len]; omega) UpC.upd ?_)
   refine C0 (nb (nx (D6 2 7 35) (A7 ?_)))
   refine A2 (C7 ((j + 1 : Nat) : Int) rfl rfl (E1 qO qO qO)) rfl ?_
   refine mv_ (C0 ?_)
   exact rn (j + 1) qO qO (D6 2 7 35) (Fit.eq rfl) qI
  ·
   obtain rfl : j = 3 := by simp at hc; omega
   unfold B7l
   obtain ⟨S, hSe⟩ : ∃ z, nnW K n N 3 = z := ⟨_, rfl⟩
   rw [hSe] at hok2 ⊢
   refine D0 (te (re (be rfl (nx (D7 7) (A1 ?_)))))
   refine A2 (L2 (n := 16) (cs := nums .u32 S) rfl kR At.mem (by rw [nums_len]; exact hok2.len)) rfl ?_
   refine A5 rfl (C4 (cs := [G3, G3, G3, G3, G3, G3, G3, G3, G3, G3, G3, G3, G3, G3, G3, G3]) kR rfl fun b10 => ?_)
   refine A5 rfl (A9 (vs := nums .u32 S) rfl rfl rfl (by rw [nums_len, hok2.len]; kernel_rfl) (by rw [nums_len, hok2.len]; rfl) E5 UpC.upd ?_)
   refine A0 (D2 7 10) (A3 (A1 (mv_ (A0 (D6 7 10 48) (A4 ?_)))))
   refine D3 (α := Nat) (fun i => [(7, (vP b7)), (10, (vP b10)), (48, (vI i))]) (fun i => [(b10, blk (nums .u32 (rdW S i)) 179), (b7, blk (nums .u32 S) 179)]) (fun _ => _) (fun i => i ≤ 10) (fun i => 10 - i) 0 (Nat.zero_le _) (D6 7 10 48) (Fit.eq rfl) qI ?_
   rintro k hik
   try dsimp only at hik ⊢
   have hok3 := B4N hok2 k
   refine A1 ?_
   refine A2 (D4 rfl rfl rfl) rfl ?_
   refine A0 (D8 7 10 48 49) (A3 ?_)
   refine C1 rfl ?_ ?_ <;> intro hc
   ·
    have hlt : k < 10 := by simp at hc; omega
    refine A6 (nx (D6 7 10 48) (A3 (A4 (A3 (A1 (mv_ (A0 (D8 7 10 48 50) ?_)))))))
    refine A4 ?_
    refine D3 (α := Nat) (fun i => [(7, (vP b7)), (10, (vP b10)), (48, (vI k)), (50, (vI i))]) (fun i => [(b10, blk (nums .u32 (rdA (rdW S k) i)) 179), (b7, blk (nums .u32 S) 179)]) (fun _ => _) (fun i => i ≤ 4) (fun i => 4 - i) 0 (Nat.zero_le _) (D8 7 10 48 50) (Fit.eq rfl) qI ?_
    rintro a hia
    try dsimp only at hia ⊢
    have hok := A7Y hok3 a
    refine A1 ?_
    refine A2 (D4 rfl rfl rfl) rfl ?_
    refine A0 (E4 7 10 48 50 51) (A3 ?_)
    refine C1 rfl ?_ ?_ <;> intro hc
    ·
     have hlt2 : a < 4 := by simp at hc; omega
     refine A6 (nx (D8 7 10 48 50) (A3 (A4 (A1 (mv_ (as_ (A0 (E4 7 10 11 48 50) (A7 ?_))))))))
     refine mv_ (mv_ ?_)
     refine A2 (C7 ((4 + a : Nat) : Int) rfl rfl (E1 qO qO qO)) rfl ?_
     refine mv_ ?_
     refine A2 (C7 ((8 + a : Nat) : Int) rfl rfl (E1 qO qO qO)) rfl ?_
     refine mv_ ?_
     refine A2 (C7 ((12 + a : Nat) : Int) rfl rfl (E1 qO qO qO)) rfl ?_
     refine A5 rfl (E0 (Mc := [(b10, blk (nums .u32 (rdA (rdW S k) a)) 179)]) (R := _) (aS rfl (aS rfl (aS rfl (aS rfl (aS rfl a0))))) kR qP (B03 b10 (rdA (rdW S k) a) (a) (4 + a) (8 + a) (12 + a) _ hok qO qO qO qO) rfl ?_)
     rintro vt Mt Jt ⟨rfl, rfl, rfl⟩
     refine C0 (nb (nx (D8 7 10 48 50) (A7 ?_)))
     refine A2 (C7 ((a + 1 : Nat) : Int) rfl rfl (E1 qO qO qO)) rfl ?_
     refine mv_ (C0 ?_)
     exact rn (a + 1) qO qO (D8 7 10 48 50) (Fit.eq rfl) qI
    ·
     obtain rfl : a = 4 := by simp at hc; omega
     refine D0 (te (re (be rfl (nx (D6 7 10 48) (A1 (mv_ (A0 (D8 7 10 48 62) ?_)))))))
     refine A4 ?_
     refine D3 (α := Nat) (fun i => [(7, (vP b7)), (10, (vP b10)), (48, (vI k)), (62, (vI i))]) (fun i => [(b10, blk (nums .u32 (rdB (rdA (rdW S k) 4) i)) 179), (b7, blk (nums .u32 S) 179)]) (fun _ => _) (fun i => i ≤ 4) (fun i => 4 - i) 0 (Nat.zero_le _) (D8 7 10 48 62) (Fit.eq rfl) qI ?_
     rintro b hib
     try dsimp only at hib ⊢
     have hok := B05 (A7Y hok3 4) b
     refine A1 ?_
     refine A2 (D4 rfl rfl rfl) rfl ?_
     refine A0 (E4 7 10 48 62 63) (A3 ?_)
     refine C1 rfl ?_ ?_ <;> intro hc
     ·
      have hlt2 : b < 4 := by simp at hc; omega
      refine A6 (nx (D8 7 10 48 62) (A3 (A4 (A1 (mv_ (as_ (A0 (E4 7 10 12 48 62) (A7 ?_))))))))
      refine mv_ (mv_ ?_)
      refine A2 (C7 ((b + 1 : Nat) : Int) rfl rfl (E1 qO qO qO)) rfl ?_
      refine A2 (T8 (a := b + 1) (b := 4) rfl rfl rfl rfl qD) rfl ?_
      refine A2 (C7 ((4 + (b + 1) % 4 : Nat) : Int) rfl rfl (E1 qO qO qO)) rfl ?_
      refine mv_ ?_
      refine A2 (C7 ((b + 2 : Nat) : Int) rfl rfl (E1 qO qO qO)) rfl ?_
      refine A2 (T8 (a := b + 2) (b := 4) rfl rfl rfl rfl qD) rfl ?_
      refine A2 (C7 ((8 + (b + 2) % 4 : Nat) : Int) rfl rfl (E1 qO qO qO)) rfl ?_
      refine mv_ ?_
      refine A2 (C7 ((b + 3 : Nat) : Int) rfl rfl (E1 qO qO qO)) rfl ?_
      refine A2 (T8 (a := b + 3) (b := 4) rfl rfl rfl rfl qD) rfl ?_
      refine A2 (C7 ((12 + (b + 3) % 4 : Nat) : Int) rfl rfl (E1 qO qO qO)) rfl ?_
      refine A5 rfl (E0 (Mc := [(b10, blk (nums .u32 (rdB (rdA (rdW S k) 4) b)) 179)]) (R := _) (aS rfl (aS rfl (aS rfl (aS rfl (aS rfl a0))))) kR qP (B03 b10 (rdB (rdA (rdW S k) 4) b) (b) (4 + (b + 1) % 4) (8 + (b + 2) % 4) (12 + (b + 3) % 4) _ hok qO qO qO qO) rfl ?_)
      rintro vt Mt Jt ⟨rfl, rfl, rfl⟩
      refine C0 (nb (nx (D8 7 10 48 62) (A7 ?_)))
      refine A2 (C7 ((b + 1 : Nat) : Int) rfl rfl (E1 qO qO qO)) rfl ?_
      refine mv_ (C0 ?_)
      exact rn (b + 1) qO qO (D8 7 10 48 62) (Fit.eq rfl) qI
     ·
      obtain rfl : b = 4 := by simp at hc; omega
      refine D0 (te (re (be rfl (nb (nx (D6 7 10 48) (A7 ?_))))))
      refine A2 (C7 ((k + 1 : Nat) : Int) rfl rfl (E1 qO qO qO)) rfl ?_
      refine mv_ (C0 ?_)
      exact rn (k + 1) qO qO (D6 7 10 48) (Fit.eq rfl) qI
   ·
    obtain rfl : k = 10 := by simp at hc; omega
    obtain ⟨W, hWe⟩ : ∃ z, rdW S 10 = z := ⟨_, rfl⟩
    rw [hWe] at hok3 ⊢
    refine D0 (te (re (be rfl (nx (D2 7 10) (A1 (as_ (A0 (D6 7 10 13) ?_)))))))
    refine A3 (A1 (mv_ (A0 (D8 7 10 13 81) (A4 ?_))))
    refine D3 (α := Nat × Value × Mem) (fun y => [(7, (vP b7)), (10, (vP b10)), (13, y.2.1), (81, (vI y.1))]) (fun y => y.2.2 ++ [(b10, blk (nums .u32 W) 179), (b7, blk (nums .u32 S) 179)]) (fun _ => _) (fun y => y.1 ≤ 16 ∧ Sl 1 y.2.1 (4 * y.1) (nums .u8 (otW W S y.1)) y.2.2) (fun y => 16 - y.1) (0, vS, []) ⟨Nat.zero_le _, Sl.nil⟩ (D8 7 10 13 81) (Fit.eq qM) qI ?_
    rintro ⟨i, u, B⟩ ⟨hi, hsl⟩
    dsimp only at hi hsl ⊢
    haveI := hsl.cel
    refine A1 ?_
    refine A2 (D4 rfl rfl rfl) rfl ?_
    refine A0 (E4 7 10 13 81 82) (A3 ?_)
    refine C1 rfl ?_ ?_ <;> intro hc
    ·
     have hlt : i < 16 := by simp at hc; omega
     refine A6 (nx (D8 7 10 13 81) (A3 (A4 (A1 (mv_ (as_ (A0 (E4 7 10 13 14 81) ?_)))))))
     refine C9 (.range 8) (zp 0 [0, 0, 1, 0, 0, 1, 0, 0]) kR kR fun hs => ?_
     refine fm_ hs ?_
     refine C2 hs rfl (D1 (e := 27) (n := 16) (sz := 1) (i := i) (i) rfl rfl kR kR rfl qO qO) rfl ?_
     refine G4 hs rfl (H9 i rfl kR At.mem rfl (by rw [hok3.len]; omega)) rfl ?_
     refine fm_ hs ?_
     refine C2 hs rfl (D1 (e := 27) (n := 16) (sz := 1) (i := i) (i) rfl rfl kR kR rfl qO qO) rfl ?_
     refine G4 hs rfl (H9 i rfl kR At.mem rfl (by rw [hok2.len]; omega)) rfl ?_
     refine C2 hs rfl (F2 4294967296 rfl rfl rfl rfl rfl rfl) rfl ?_
     obtain ⟨x, hx⟩ : ∃ x, (W.getD i 0 + S.getD i 0) % 4294967296 = x := ⟨_, rfl⟩
     rw [hx]
     refine fa_ hs ?_
     refine E7 (E4 7 10 13 15 81) (A7 (mv_ (mv_ ?_)))
     refine A2 (A1m rfl kR) rfl ?_
     refine mv_ ?_
     refine A2 (Q5 8 rfl rfl rfl qD) rfl ?_
     refine A2 (A1m rfl kR) rfl ?_
     refine mv_ ?_
     refine A2 (Q5 16 rfl rfl rfl qD) rfl ?_
     refine A2 (A1m rfl kR) rfl ?_
     refine mv_ ?_
     refine A2 (Q5 24 rfl rfl rfl qD) rfl ?_
     refine A2 (A1m rfl kR) rfl ?_
     refine A5 rfl (C3 (e := 5) (sz := 1) (z := [zu8, zu8, zu8, zu8]) kR (eS rfl (eS rfl (eS rfl (eS rfl e0)))) (bdS 0 1 rfl qR (bdS 1 1 rfl qR (bdS 2 1 rfl qR (bdS 3 1 rfl qR bd0)))) rfl fun b103 => ?_)
     refine A5 rfl (F9 (e := 5) (sz := 1) (by_ := 1) rfl rfl kR rfl hsl (Rd.whole (n := 4) (cs := nums .u8 (le4 x)) At.mem qR) E5 qP (by unfold maxLen; omega) qO rfl fun v104 B104 hs104 => ?_)
     haveI := hs104.cel
     refine as_ (C0 (nb (nx (D8 7 10 13 81) (A7 ?_))))
     refine A2 (C7 ((i + 1 : Nat) : Int) rfl rfl (E1 qO qO qO)) rfl ?_
     refine mv_ (C0 ?_)
     exact rn (i + 1, v104, B104) ⟨by dsimp only; omega, by dsimp only; show Sl 1 v104 (4 * (i + 1)) (nums .u8 (otW W S i ++ le4 ((W.getD i 0 + S.getD i 0) % 4294967296))) B104; rw [hx]; exact W6 hs104 qO (by simp [nums])⟩ (by dsimp only; omega) (D8 7 10 13 81) (Fit.pick qP (Fit.last qP)) qI
    ·
     obtain rfl : i = 16 := by simp at hc; omega
     refine D0 (te (re (be rfl (nx (D7 13) (A1 (mv_ (as_ (A0 (D7 6) ?_))))))))
     refine B4 ?_
     exact ⟨_, [], B, K9 rfl rfl, Fit.pick qP qZ, rfl, ⟨A0H (hsl.rd fun x hx => by simp [hx]) (by rw [A3H]) rfl, B06 W S 16, by rw [A3H]; decide⟩⟩

def bkN (K : LN) (n : Nat) (N : LN) (q : Nat) : LN := B7l K ((n + q) % 4294967296) N
def stW (K : LN) (n : Nat) (N p : LN) : Nat → LN
  | 0 => List.replicate p.length 0
  | i + 1 => (stW K n N p i).set i (p.getD i 0 ^^^ (bkN K n N (i / 64)).getD (i % 64) 0)
def A5m (K : LN) (n : Nat) (N p : LN) : LN := stW K n N p p.length
theorem A5n (K : LN) (n : Nat) (N p : LN) : ∀ i, (stW K n N p i).length = p.length
  | 0 => by simp [stW]
  | i + 1 => by show ((stW K n N p i).set _ _).length = _; rw [List.length_set, A5n K n N p i]
theorem X6 (K : LN) (n : Nat) (N p : LN) : (A5m K n N p).length = p.length := A5n _ _ _ _ _
theorem B6C (K : LN) (n : Nat) (N : LN) (q : Nat) : (bkN K n N q).length = 64 := A3H _ _ _
theorem B8A (K : LN) (n : Nat) (N : LN) (q : Nat) : ∀ x ∈ bkN K n N q, x < 256 := B06 _ _ _
theorem xor8 {a b : Nat} (ha : a < 256) (hb : b < 256) : a ^^^ b < 256 := Nat.xor_lt_two_pow (n := 8) ha hb
theorem B4O {K N p : LN} {n : Nat} (h : ∀ x ∈ p, x < 256) : ∀ i, ∀ x ∈ stW K n N p i, x < 256
  | 0 => fun x hx => by rw [show stW K n N p 0 = List.replicate p.length 0 from rfl] at hx; rw [(List.mem_replicate.1 hx).2]; decide
  | i + 1 => fun x hx => by
    rcases List.mem_or_eq_of_mem_set hx with h1 | rfl
    · exact B4O h i x h1
    · exact xor8 (A0K h i) (A0K (B8A _ _ _ _) _)
theorem B08 (K : LN) (n : Nat) (N p : LN) : ∀ i j, j < p.length → (stW K n N p i).getD j 0 = if j < i then p.getD j 0 ^^^ (bkN K n N (j / 64)).getD (j % 64) 0 else 0
  | 0, j, hj => by
    show (List.replicate p.length 0).getD j 0 = _
    rw [if_neg qO, List.getD_eq_getElem?_getD, List.getElem?_replicate, if_pos hj]; rfl
  | i + 1, j, hj => by
    show ((stW K n N p i).set i _).getD j 0 = _
    rw [List.getD_eq_getElem?_getD, List.getElem?_set, A5n]
    by_cases h : i = j
    · subst h; rw [if_pos rfl, if_pos hj, if_pos qO]; rfl
    · rw [if_neg h, ← List.getD_eq_getElem?_getD, B08 K n N p i j hj]
      by_cases h2 : j < i
      · rw [if_pos h2, if_pos qO]
      · rw [if_neg h2, if_neg qO]
theorem A7Z (K : LN) (n : Nat) (N p : LN) {j : Nat} (hj : j < p.length) : (A5m K n N p).getD j 0 = p.getD j 0 ^^^ (bkN K n N (j / 64)).getD (j % 64) 0 := by
  unfold A5m
  rw [B08 _ _ _ _ _ _ hj, if_pos hj]
theorem A8R (K : LN) (n : Nat) (N p : LN) : A5m K n N (A5m K n N p) = p := by
  refine List.ext_getElem (by rw [X6, X6]) fun j h1 h2 => ?_
  have e : ∀ (l : LN) (h : j < l.length), l[j] = l.getD j 0 := fun l h => by rw [List.getD_eq_getElem?_getD, List.getElem?_eq_getElem h]; rfl
  rw [e _ h1, e _ h2, A7Z _ _ _ _ (by rw [X6]; exact h2), A7Z _ _ _ _ h2, Nat.xor_assoc, Nat.xor_self, Nat.xor_zero]
theorem B8B {i : Nat} (h : i < 9223372036854775808) : IntKind.i64.wrap (((i : Nat) : Int).tdiv 64) = ((i / 64 : Nat) : Int) := by
  rw [show ((i : Nat) : Int).tdiv 64 = ((i / 64 : Nat) : Int) from rfl]
  unfold IntKind.wrap
  simp [IntKind.signed, IntKind.bits]
  omega
theorem B6D {n : Nat} (h : n < 4294967296) : IntKind.u32.wrap (n : Int) = (n : Int) := by
  unfold IntKind.wrap
  simp [IntKind.signed, IntKind.bits]
  omega
theorem A70 (v vn vp : Value) (kw nw p : LN) (n : Nat) (A : Mem) (hk : By A v kw) (hno : By A vn nw) (hp : By A vp p) (hn : n < 4294967296) : FnX Tryz.prog 80 [v, (vU n), vn, vp] [] A fun q M J => ∃ b, q = .slice (some ⟨b, 0, none⟩) p.length p.length ∧ M = [] ∧ By J q (A5m (F7 kw 32) n (F7 nw 12) p) := by
 haveI := hk.cel
 haveI := hno.cel
 haveI := hp.cel
 have hpl := hp.len
 refine FnX.enterZ (N := 46) Tryz.func80 rfl rfl rfl fun w_ => ?_
 refine B0 (D8 0 1 2 3) (A1 (as_ (A0 (D8 0 1 2 3) (A1 (mv_ ?_)))))
 refine A2 (G1 (sz := 1) rfl kR hp.rd) rfl ?_
 refine A5 rfl (A0r (by_ := 1) (k := .u8) (e := 5) p.length rfl rfl kR rfl rfl qO qO rfl fun b14 => ?_)
 refine as_ (A0 (E4 0 1 2 3 9) (A1 (as_ (A0 (H3 0 1 2 3 9 10) (A3 (A1 (mv_ ?_)))))))
 refine A2 (G1 (sz := 1) rfl kR hp.rd) rfl ?_
 refine mv_ (A0 (T6 0 1 2 3 9 10 16 17) (A4 ?_))
 refine D3 (α := Nat × Value × Mem) (fun y => [(0, v), (1, (vU n)), (2, vn), (3, vp), (9, .slice (some ⟨b14, 0, none⟩) p.length p.length), (10, y.2.1), (16, (vI p.length)), (17, (vI y.1))]) (fun y => [(b14, blk (nums .u8 (stW (F7 kw 32) n (F7 nw 12) p y.1)) 5)]) (fun y => y.2.2) (fun y => y.1 ≤ p.length ∧ ∃ w, By (y.2.2 ++ A) y.2.1 w ∧ (y.1 % 64 ≠ 0 → w = bkN (F7 kw 32) n (F7 nw 12) (y.1 / 64))) (fun y => p.length - y.1) (0, vS, []) ⟨Nat.zero_le _, [], By.nil, fun h => absurd rfl h⟩ (T6 0 1 2 3 9 10 16 17) (Fit.eq rfl) qS ?_
 rintro ⟨i, vb, Jb⟩ ⟨hi, wb, hvb, hwb⟩
 dsimp only at hi hvb hwb ⊢
 haveI := hvb.cel
 have hsl := A5n (F7 kw 32) n (F7 nw 12) p i
 refine A1 ?_
 refine A2 (D4 rfl rfl rfl) rfl ?_
 refine A0 (Z7 0 1 2 3 9 10 16 17 18) (A3 ?_)
 refine C1 rfl ?_ ?_ <;> intro hc
 ·
  have hlt : i < p.length := by simp at hc; omega
  refine A6 (nx (T6 0 1 2 3 9 10 16 17) (A3 (A4 (A1 (mv_ (as_ (A0 (Z7 0 1 2 3 9 10 11 16 17) ?_)))))))
  refine P4 (α := Value × Mem) (fun y => [(0, v), (1, (vU n)), (2, vn), (3, vp), (9, .slice (some ⟨b14, 0, none⟩) p.length p.length), (10, y.1), (11, (vI i)), (16, (vI p.length)), (17, (vI i))]) (fun y => [(b14, blk (nums .u8 (stW (F7 kw 32) n (F7 nw 12) p i)) 5)]) (fun y => y.2) (fun y => By (y.2 ++ A) y.1 (bkN (F7 kw 32) n (F7 nw 12) (i / 64))) ?_ ?_
  ·
   refine A1 (mv_ ?_)
   refine A2 (T8 (a := i) (b := 64) rfl rfl rfl rfl qD) rfl ?_
   refine A2 (D4 rfl rfl rfl) rfl ?_
   refine A0 (kq 0 (Z7 1 2 3 9 10 11 16 17 22)) ?_
   refine C1 rfl ?_ ?_ <;> intro hc
   ·
    have h0 : i % 64 = 0 := by simp at hc; omega
    refine A7 (mv_ (mv_ (mv_ ?_)))
    refine A2 (B7A ((i / 64 : Nat) : Int) rfl rfl qD (B8B qO)) rfl ?_
    refine A2 (A4F (k' := .u32) ((i / 64 : Nat) : Int) rfl kR (B6D qO)) rfl ?_
    refine A2 (F2 4294967296 rfl rfl rfl rfl rfl rfl) rfl ?_
    refine mv_ ?_
    refine C5 (aS rfl (aS rfl (aS rfl a0))) kR (B07 v vn kw nw ((n + i / 64) % 4294967296) _ (hk.mono qS) (hno.mono qS) (Nat.mod_lt _ qD)) rfl ?_
    rintro v30 M30 J30 ⟨rfl, h30⟩
    haveI := h30.cel
    refine as_ (C0 ?_)
    exact jn (v30, J30 ++ Jb) (h30.mono qS) (Z7 0 1 2 3 9 10 11 16 17) (Fit.eq rfl) (fun _ h => by simpa using h)
   ·
    have h0 : i % 64 ≠ 0 := by simp at hc; omega
    refine A6 ?_
    exact jn (vb, Jb) (hwb h0 ▸ hvb) (Z7 0 1 2 3 9 10 11 16 17) (Fit.eq rfl) qI
  ·
   rintro ⟨v2, J2⟩ hb2
   try dsimp only at hb2 ⊢
   haveI := hb2.cel
   have hbl := B6C (F7 kw 32) n (F7 nw 12) (i / 64)
   have hm := Nat.mod_lt i (by decide : 0 < 64)
   refine F8 (.range 13) (zp 0 [0, 0, 0, 0, 0, 1, 0, 0, 0, 0, 1, 0, 0, 2]) kR kR fun hs => ?_
   refine fm_ hs ?_
   refine fm_ hs ?_
   refine fm_ hs ?_
   refine fm_ hs ?_
   refine C2 hs rfl (I5 (sz := 1) (a := i) rfl rfl kR rfl hp.rd hlt) rfl ?_
   refine G4 hs rfl (A0t (k := .u8) rfl kR (hp.rd.mono qS) hlt) rfl ?_
   refine fm_ hs ?_
   refine fm_ hs ?_
   refine C2 hs rfl (T8 (a := i) (b := 64) rfl rfl rfl rfl qD) rfl ?_
   refine C2 hs rfl (I5 (sz := 1) (a := i % 64) rfl rfl kR rfl hb2.rd qO) rfl ?_
   refine G4 hs rfl (A0t (k := .u8) rfl kR (hb2.rd.mono qS) qO) rfl ?_
   refine C2 hs rfl (A9d rfl rfl (A0K hp.lt _) (A0K hb2.lt _)) rfl ?_
   refine C2 hs rfl (K4 (e := 5) (i := i) (sz := 1) rfl rfl kR kR rfl hlt) rfl ?_
   refine F5 rfl rfl rfl (I7 i rfl rfl kR qO qO UpC.upd ?_)
   refine Q8 (nb (nx (T6 0 1 2 3 9 10 16 17) (A7 ?_)))
   refine A2 (C7 ((i + 1 : Nat) : Int) rfl rfl (E1 qO qO qO)) rfl ?_
   refine mv_ (C0 ?_)
   exact rn (i + 1, v2, J2) ⟨hlt, _, hb2, fun h => by rw [show (i + 1) / 64 = i / 64 by omega]⟩ (by dsimp only; omega) (T6 0 1 2 3 9 10 16 17) (Fit.eq rfl) qI
 ·
  obtain rfl : i = p.length := by simp at hc; omega
  refine D0 (te (re (be rfl (nx (D7 9) (A1 (mv_ (as_ (A0 (D7 8) ?_))))))))
  refine B4 ?_
  refine ⟨_, [], [(b14, blk (nums .u8 (stW (F7 kw 32) n (F7 nw 12) p p.length)) 5)], K9 rfl rfl, Fit.eq qM, b14, rfl, rfl, ⟨?_, B4O hp.lt _, by rw [X6]; exact hp.len⟩⟩
  rw [X6]
  exact Rd.whole (n := p.length) qK (by simp [nums, X6])
theorem B3K (v vn vp : Value) (kw nw p : LN) (n : Nat) (A : Mem) (hk : By A v kw) (hno : By A vn nw) (hp : By A vp p) (hn : n < 4294967296) : FnX Tryz.prog 80 [v, (vU n), vn, vp] [] A fun q M J => M = [] ∧ By J q (A5m (F7 kw 32) n (F7 nw 12) p) :=
  (A70 v vn vp kw nw p n A hk hno hp hn).mono fun q M J ⟨_, _, h1, h2⟩ => ⟨h1, h2⟩

structure L5 (l : LN) : Prop where
  len : l.length = 5
  lt : ∀ x ∈ l, x < 18446744073709551616
theorem L5.get {l : LN} (h : L5 l) (i : Nat) : l.getD i 0 < 18446744073709551616 := by
  rw [List.getD_eq_getElem?_getD]
  cases hq : l[i]? with
  | none => decide
  | some x => exact h.lt x (List.mem_of_getElem? hq)
theorem L5.set {l : LN} (h : L5 l) (i x : Nat) (hx : x < 18446744073709551616) : L5 (l.set i x) := ⟨by rw [List.length_set]; exact h.len, fun y hy => by rcases List.mem_or_eq_of_mem_set hy with h1 | rfl; exact h.lt y h1; exact hx⟩
def cy1 (l : LN) (c i : Nat) : LN := l.set i ((l.getD i 0 + c) % 18446744073709551616)
def cyS (a : LN) : Nat → LN × Nat
  | 0 => (a, 0)
  | i + 1 => ((cy1 (cyS a i).1 (cyS a i).2 i).set i ((cy1 (cyS a i).1 (cyS a i).2 i).getD i 0 &&& 67108863), (cy1 (cyS a i).1 (cyS a i).2 i).getD i 0 >>> 26)
def cyN (a : LN) : LN := (cyS a 5).1.set 0 (((cyS a 5).1.getD 0 0 + 5 * (cyS a 5).2 % 18446744073709551616) % 18446744073709551616)
theorem L5.c1 {l : LN} (h : L5 l) (c i : Nat) : L5 (cy1 l c i) := h.set _ _ (Nat.mod_lt _ qD)
theorem B3L (x : Nat) : x &&& 67108863 < 18446744073709551616 := Nat.lt_of_le_of_lt Nat.and_le_right qD
theorem B3M {x : Nat} (h : x < 18446744073709551616) (k : Nat) : x >>> k < 18446744073709551616 := by rw [Nat.shiftRight_eq_div_pow]; exact Nat.lt_of_le_of_lt (Nat.div_le_self _ _) h
theorem A71 {a : LN} (h : L5 a) : ∀ i, L5 (cyS a i).1 ∧ (cyS a i).2 < 18446744073709551616
  | 0 => ⟨h, (show 0 < 18446744073709551616 by decide)⟩
  | i + 1 => ⟨((A71 h i).1.c1 _ _).set _ _ (B3L _), B3M (((A71 h i).1.c1 _ _).get _) _⟩
theorem U2 {a : LN} (h : L5 a) : L5 (cyN a) := (A71 h 5).1.set _ _ (Nat.mod_lt _ qD)
theorem A3I (a : LN) (A : Mem) (ha : L5 a) : FnV Tryz.prog 128 [.agg (nums .u64 a).toArray] A (.agg (nums .u64 (cyN a)).toArray) := by
 refine FnX.enter (N := 31) Tryz.func128 rfl rfl rfl fun w => ?_
 refine B0 (D7 0) (A1 ?_)
 refine A5 rfl (bx_ fun b1 => ?_)
 refine A5 rfl (C4 (cs := [E3, E3, E3, E3, E3]) kR rfl fun b2 => ?_)
 refine A0 (D2 1 2) (A1 (as_ (A0 (D6 1 2 3) (A3 (A1 (mv_ (A0 (D8 1 2 3 5) ?_)))))))
 refine A4 ?_
 refine D3 (α := Nat) (fun i => [(1, (vP b1)), (2, (vP b2)), (3, .int .u64 (((cyS a i).2 : Nat) : Int)), (5, (vI i))]) (fun i => [(b2, blk [.int .u64 0, .int .u64 0, .int .u64 0, .int .u64 0, .int .u64 0] 152), (b1, blk (nums .u64 (cyS a i).1) 152)]) (fun _ => _) (fun i => i ≤ 5) (fun i => 5 - i) 0 (Nat.zero_le _) (D8 1 2 3 5) (Fit.eq rfl) qI ?_
 rintro i hi
 try dsimp only at hi ⊢
 obtain ⟨hok, hcl⟩ := A71 ha i
 have hk1 := hok.c1 (cyS a i).2 i
 refine A1 ?_
 refine A2 (D4 rfl rfl rfl) rfl ?_
 refine A0 (E4 1 2 3 5 6) (A3 ?_)
 refine C1 rfl ?_ ?_ <;> intro hc
 ·
  have hlt : i < 5 := by simp at hc; omega
  refine A6 (nx (D8 1 2 3 5) (A3 (A4 (A1 (mv_ (as_ (A0 (E4 1 2 3 4 5) (A1 ?_))))))))
  refine mv_ ?_
  refine A2 (D1 (e := 94) (n := 5) (sz := 1) (i := i) (i) rfl rfl kR kR rfl qO qO) rfl ?_
  refine A2 (H9 (i) rfl kR At.mem rfl (by rw [hok.len]; omega)) rfl ?_
  refine mv_ ?_
  refine A2 (F2 18446744073709551616 rfl rfl rfl rfl rfl rfl) rfl ?_
  refine A2 (D1 (e := 94) (n := 5) (sz := 1) (i := i) (i) rfl rfl kR kR rfl qO qO) rfl ?_
  refine A5 rfl (I7 (i) rfl rfl kR rfl (by rw [hok.len]; omega) UpC.upd ?_)
  change XL _ _ _ _ _ [(b2, blk [.int .u64 0, .int .u64 0, .int .u64 0, .int .u64 0, .int .u64 0] 152), (b1, blk (nums .u64 (cy1 (cyS a i).1 (cyS a i).2 i)) 152)] _
  refine A0 (D8 1 2 4 5) (A1 (mv_ ?_))
  refine A2 (D1 (e := 94) (n := 5) (sz := 1) (i := i) (i) rfl rfl kR kR rfl qO qO) rfl ?_
  refine A2 (H9 (i) rfl kR At.mem rfl (by rw [hk1.len]; omega)) rfl ?_
  refine A2 (Q5 26 rfl rfl rfl qD) rfl ?_
  refine as_ (A0 (E4 1 2 3 4 5) (A7 (mv_ ?_)))
  refine A2 (D1 (e := 94) (n := 5) (sz := 1) (i := i) (i) rfl rfl kR kR rfl qO qO) rfl ?_
  refine A2 (H9 (i) rfl kR At.mem rfl (by rw [hk1.len]; omega)) rfl ?_
  refine A2 (A3U (b := 67108863) rfl rfl rfl (by show _ < 18446744073709551616; exact hk1.get _) qD) rfl ?_
  refine A2 (D1 (e := 94) (n := 5) (sz := 1) (i := i) (i) rfl rfl kR kR rfl qO qO) rfl ?_
  refine A5 rfl (I7 (i) rfl rfl kR rfl (by rw [hk1.len]; omega) UpC.upd ?_)
  refine C0 (nb (nx (D8 1 2 3 5) (A7 ?_)))
  refine A2 (C7 ((i + 1 : Nat) : Int) rfl rfl (E1 qO qO qO)) rfl ?_
  refine mv_ (C0 ?_)
  exact rn (i + 1) qO qO (D8 1 2 3 5) (Fit.eq rfl) qI
 ·
  obtain rfl : i = 5 := by simp at hc; omega
  refine D0 (te (re (be rfl (nx (D6 1 2 3) (A1 ?_)))))
  refine A2 (D1 (e := 94) (n := 5) (sz := 1) (i := 0) (0) rfl rfl kR kR rfl qO qO) rfl ?_
  refine A2 (H9 (0) rfl kR At.mem rfl (by rw [hok.len]; omega)) rfl ?_
  refine mv_ ?_
  refine A2 (N2 18446744073709551616 rfl rfl rfl rfl rfl rfl) rfl ?_
  refine A2 (F2 18446744073709551616 rfl rfl rfl rfl rfl rfl) rfl ?_
  refine A2 (D1 (e := 94) (n := 5) (sz := 1) (i := 0) (0) rfl rfl kR kR rfl qO qO) rfl ?_
  refine A5 rfl (I7 (0) rfl rfl kR rfl (by rw [hok.len]; omega) UpC.upd ?_)
  refine A0 (D2 1 2) ?_
  refine A1C (M' := [(b2, blk [.int .u64 0, .int .u64 0, .int .u64 0, .int .u64 0, .int .u64 0] 152), (b1, blk (nums .u64 (cyN a)) 152)]) (Fit.eq rfl) qI ?_
  refine A1 ?_
  refine A2 (L2 (n := 5) (cs := nums .u64 (cyN a)) rfl kR At.mem (by rw [nums_len]; exact (U2 ha).len)) rfl ?_
  refine A5 rfl (A9 (vs := nums .u64 (cyN a)) rfl rfl rfl (by rw [nums_len, (U2 ha).len]; kernel_rfl) (by rw [nums_len, (U2 ha).len]; rfl) E5 UpC.upd ?_)
  refine A0 (D7 2) (B4 ?_)
  exact ⟨_, [], [], A3Q (n := 5) rfl rfl kR At.mem (by rw [nums_len, (U2 ha).len]), List.nil_sublist _, by simp, rfl, rfl, rfl⟩

def xI (p : LN) (i : Nat) : Nat := p.getD i 0 <<< (8 * i % 26) % 18446744073709551616
def pt1 (S : LN) (x k : Nat) : LN := S.set k ((S.getD k 0 + (x &&& 67108863)) % 18446744073709551616)
def pt2 (S : LN) (x k : Nat) : LN := if k < 4 then S.set (k + 1) ((S.getD (k + 1) 0 + x >>> 26) % 18446744073709551616) else S
def ptS (p : LN) : Nat → LN
  | 0 => [0, 0, 0, 0, 0]
  | i + 1 => pt2 (pt1 (ptS p i) (xI p i) (8 * i / 26)) (xI p i) (8 * i / 26)
def ptN (p : LN) : LN := ptS p p.length
theorem B6E {p : LN} {i : Nat} (h : 8 * i / 26 < 4) : ptS p (i + 1) = (pt1 (ptS p i) (xI p i) (8 * i / 26)).set (8 * i / 26 + 1) (((pt1 (ptS p i) (xI p i) (8 * i / 26)).getD (8 * i / 26 + 1) 0 + xI p i >>> 26) % 18446744073709551616) := if_pos h
theorem B8C {p : LN} {i : Nat} (h : ¬ 8 * i / 26 < 4) : ptS p (i + 1) = pt1 (ptS p i) (xI p i) (8 * i / 26) := if_neg h
theorem L5.p1 {S : LN} (h : L5 S) (x k : Nat) : L5 (pt1 S x k) := h.set _ _ (Nat.mod_lt _ qD)
theorem L5.p2 {S : LN} (h : L5 S) (x k : Nat) : L5 (pt2 S x k) := by
  unfold pt2
  split
  · exact h.set _ _ (Nat.mod_lt _ qD)
  · exact h
theorem L5.z : L5 [0, 0, 0, 0, 0] := ⟨rfl, by decide⟩
theorem B09 (p : LN) : ∀ i, L5 (ptS p i)
  | 0 => L5.z
  | i + 1 => ((B09 p i).p1 _ _).p2 _ _
theorem A1Z (p : LN) : L5 (ptN p) := B09 p _
theorem B96 (p : LN) (i : Nat) : xI p i < 18446744073709551616 := Nat.mod_lt _ qD
theorem B1a (v : Value) (p : LN) (A : Mem) (hp : By A v p) (hl : p.length ≤ 17) : FnV Tryz.prog 114 [v] A (.agg (nums .u64 (ptN p)).toArray) := by
 haveI := hp.cel
 refine FnX.enter (N := 43) Tryz.func114 rfl rfl rfl fun w => ?_
 refine B0 (D7 0) (A1 ?_)
 refine A5 rfl (C4 (cs := [E3, E3, E3, E3, E3]) kR rfl fun b2 => ?_)
 refine A0 (D2 0 2) (A1 ?_)
 refine A5 rfl (C4 (cs := [E3, E3, E3, E3, E3]) kR rfl fun b3 => ?_)
 refine A0 (D6 0 2 3) (A3 (A1 (mv_ ?_)))
 refine A2 (G1 (sz := 1) rfl kR hp.rd) rfl ?_
 refine mv_ (A0 (E4 2 3 8 9 10) (A4 ?_))
 refine D3 (α := Nat) (fun i => [(2, (vP b2)), (3, (vP b3)), (8, v), (9, (vI p.length)), (10, (vI i))]) (fun i => [(b3, blk (nums .u64 (ptS p i)) 152), (b2, blk [.int .u64 0, .int .u64 0, .int .u64 0, .int .u64 0, .int .u64 0] 152)]) (fun _ => _) (fun i => i ≤ p.length) (fun i => p.length - i) 0 (Nat.zero_le _) (E4 2 3 8 9 10) (Fit.eq rfl) qI ?_
 rintro i hi
 try dsimp only at hi ⊢
 have hok := B09 p i
 have hk1 := hok.p1 (xI p i) (8 * i / 26)
 refine A1 ?_
 refine A2 (D4 rfl rfl rfl) rfl ?_
 refine A0 (H3 2 3 8 9 10 11) (A3 ?_)
 refine C1 rfl ?_ ?_ <;> intro hc
 ·
  have hlt : i < p.length := by simp at hc; omega
  have hk5 : 8 * i / 26 < 5 := by omega
  refine A6 (nx (E4 2 3 8 9 10) ?_)
  refine P4 (α := Unit) (fun _ => [(2, (vP b2)), (3, (vP b3)), (8, v), (9, (vI p.length)), (10, (vI i))]) (fun _ => [(b3, blk (nums .u64 (ptS p (i + 1))) 152), (b2, blk [.int .u64 0, .int .u64 0, .int .u64 0, .int .u64 0, .int .u64 0] 152)]) (fun _ => []) (fun _ => True) ?_ ?_
  ·
   refine A4 (A1 (mv_ ?_))
   refine A2 (I5 (sz := 1) (a := i) rfl rfl kR rfl hp.rd hlt) rfl ?_
   refine A2 (A0t (k := .u8) rfl kR (hp.rd.mono qS) hlt) rfl ?_
   refine as_ (as_ (A0 (N0 2 3 4 5 8 9 10) ?_))
   refine C9 (.range 11) (zp 0 [0, 0, 0, 0, 0, 0, 0, 0, 0, 0, 0]) kR kR fun hs => ?_
   refine fm_ hs ?_
   refine C2 hs rfl (C7 ((8 * i : Nat) : Int) rfl rfl (A1F qO qO qO)) rfl ?_
   refine C2 hs rfl (B4g (a := 8 * i) (b := 26) rfl rfl rfl rfl qD qO) rfl ?_
   refine fm_ hs ?_
   refine C2 hs rfl (A0Q (k' := .u64) rfl kR (by show _ < 9223372036854775808; have := A0K hp.lt i; omega)) rfl ?_
   refine fm_ hs ?_
   refine C2 hs rfl (C7 ((8 * i : Nat) : Int) rfl rfl (A1F qO qO qO)) rfl ?_
   refine C2 hs rfl (T8 (a := 8 * i) (b := 26) rfl rfl rfl rfl qD) rfl ?_
   refine C2 hs rfl (A2j rfl (8 * i % 26) rfl rfl rfl (by show _ ≤ 64; omega)) rfl ?_
   refine fa_ hs ?_
   refine fa_ hs ?_
   refine E7 (N0 2 3 6 7 8 9 10) (A1 (mv_ ?_))
   refine A2 (D1 (e := 94) (n := 5) (sz := 1) (i := 8 * i / 26) (8 * i / 26) rfl rfl kR kR rfl qO qO) rfl ?_
   refine A2 (H9 (8 * i / 26) rfl kR At.mem rfl (by rw [hok.len]; omega)) rfl ?_
   refine mv_ ?_
   refine A2 (A3U (a := xI p i) (b := 67108863) rfl rfl rfl (B96 p i) qD) rfl ?_
   refine A2 (F2 18446744073709551616 rfl rfl rfl rfl rfl rfl) rfl ?_
   refine A2 (D1 (e := 94) (n := 5) (sz := 1) (i := 8 * i / 26) (8 * i / 26) rfl rfl kR kR rfl qO qO) rfl ?_
   refine A5 rfl (I7 (8 * i / 26) rfl rfl kR rfl (by rw [hok.len]; omega) UpC.upd ?_)
   refine A0 (N0 2 3 6 7 8 9 10) (A1 (mv_ ?_))
   refine A2 (D4 rfl rfl rfl) rfl ?_
   refine A0 (T6 2 3 6 7 8 9 10 32) ?_
   refine C1 rfl ?_ ?_ <;> intro hc
   ·
    have h4 : 8 * i / 26 < 4 := by simp at hc; omega
    refine A7 (mv_ ?_)
    refine A2 (C7 ((8 * i / 26 + 1 : Nat) : Int) rfl rfl (E1 qO qO qO)) rfl ?_
    refine A2 (D1 (e := 94) (n := 5) (sz := 1) (i := 8 * i / 26 + 1) (8 * i / 26 + 1) rfl rfl kR kR rfl qO qO) rfl ?_
    refine A2 (H9 (8 * i / 26 + 1) rfl kR At.mem rfl (by have h := hk1.len; unfold pt1 at h; omega)) rfl ?_
    refine mv_ ?_
    refine A2 (Q5 (a := xI p i) 26 rfl rfl rfl qD) rfl ?_
    refine A2 (F2 18446744073709551616 rfl rfl rfl rfl rfl rfl) rfl ?_
    refine A2 (D1 (e := 94) (n := 5) (sz := 1) (i := 8 * i / 26 + 1) (8 * i / 26 + 1) rfl rfl kR kR rfl qO qO) rfl ?_
    refine A5 rfl (I7 (8 * i / 26 + 1) rfl rfl kR rfl (by have h := hk1.len; unfold pt1 at h; omega) UpC.upd ?_)
    refine C0 (nb ?_)
    exact jn () trivial (E4 2 3 8 9 10) (Fit.eq (by rw [B6E h4]; rfl)) qI
   ·
    have h4 : ¬ 8 * i / 26 < 4 := by simp at hc; omega
    refine A6 (nb ?_)
    exact jn () trivial (E4 2 3 8 9 10) (Fit.eq (by rw [B8C h4]; rfl)) qI
  ·
   rintro _ -
   refine A7 ?_
   refine A2 (C7 ((i + 1 : Nat) : Int) rfl rfl (E1 qO qO qO)) rfl ?_
   refine mv_ (C0 ?_)
   exact rn (i + 1) hlt qO (E4 2 3 8 9 10) (Fit.eq rfl) qI
 ·
  obtain rfl : i = p.length := by simp at hc; omega
  refine D0 (te (re (be rfl (nx (D2 2 3) (A1 ?_)))))
  refine A2 (L2 (n := 5) (cs := nums .u64 (ptS p p.length)) rfl kR At.mem (by rw [nums_len]; exact (A1Z p).len)) rfl ?_
  refine A5 rfl (A9 (vs := nums .u64 (ptN p)) rfl rfl rfl (by rw [nums_len, (A1Z p).len]; kernel_rfl) (by rw [nums_len, (A1Z p).len]; rfl) E5 UpC.upd ?_)
  refine A0 (D7 2) (B4 ?_)
  exact ⟨_, [], [], A3Q (n := 5) rfl rfl kR At.mem (by rw [nums_len, (A1Z p).len]), List.nil_sublist _, by simp, rfl, rfl, rfl⟩

def ml1 (S : LN) (x y i k : Nat) : LN :=
  if i + k < 5 then S.set (i + k) ((S.getD (i + k) 0 + x * y % 18446744073709551616) % 18446744073709551616)
  else S.set (i + k - 5) ((S.getD (i + k - 5) 0 + 5 * x % 18446744073709551616 * y % 18446744073709551616) % 18446744073709551616)
def mlK (a b : LN) (i : Nat) (S : LN) : Nat → LN
  | 0 => S
  | k + 1 => ml1 (mlK a b i S k) (a.getD i 0) (b.getD k 0) i k
def mlI (a b : LN) : Nat → LN
  | 0 => [0, 0, 0, 0, 0]
  | i + 1 => mlK a b i (mlI a b i) 5
def A31 (a b : LN) : LN := cyN (cyN (mlI a b 5))
theorem L5.m1 {S : LN} (h : L5 S) (x y i k : Nat) : L5 (ml1 S x y i k) := by
  unfold ml1
  split <;> exact h.set _ _ (Nat.mod_lt _ qD)
theorem B1b {a b S : LN} {i : Nat} (h : L5 S) : ∀ k, L5 (mlK a b i S k)
  | 0 => h
  | k + 1 => (B1b h k).m1 _ _ _ _
theorem A4x (a b : LN) : ∀ i, L5 (mlI a b i)
  | 0 => L5.z
  | i + 1 => B1b (A4x a b i) 5
theorem A1a (a b : LN) : L5 (A31 a b) := U2 (U2 (A4x a b 5))
theorem B6F {a b S : LN} {i k : Nat} (h : i + k < 5) : mlK a b i S (k + 1) = (mlK a b i S k).set (i + k) (((mlK a b i S k).getD (i + k) 0 + a.getD i 0 * b.getD k 0 % 18446744073709551616) % 18446744073709551616) := if_pos h
theorem B8D {a b S : LN} {i k : Nat} (h : ¬ i + k < 5) : mlK a b i S (k + 1) = (mlK a b i S k).set (i + k - 5) (((mlK a b i S k).getD (i + k - 5) 0 + 5 * a.getD i 0 % 18446744073709551616 * b.getD k 0 % 18446744073709551616) % 18446744073709551616) := if_neg h
theorem B6G (a b : LN) (A : Mem) (ha : L5 a) (hb : L5 b) : FnV Tryz.prog 115 [.agg (nums .u64 a).toArray, .agg (nums .u64 b).toArray] A (.agg (nums .u64 (A31 a b)).toArray) := by
 refine FnX.enter (N := 51) Tryz.func115 rfl rfl rfl fun w => ?_
 refine B0 (D2 0 1) (A1 ?_)
 refine A5 rfl (bx_ fun b2 => ?_)
 refine A5 rfl (bx_ fun b3 => ?_)
 refine A5 rfl (C4 (cs := [E3, E3, E3, E3, E3]) kR rfl fun b4 => ?_)
 refine A0 (D6 2 3 4) (A1 ?_)
 refine A5 rfl (C4 (cs := [E3, E3, E3, E3, E3]) kR rfl fun b5 => ?_)
 refine A0 (D8 2 3 4 5) (A3 (A1 ?_))
 refine A2 (L2 (n := 5) (cs := nums .u64 a) rfl kR At.mem (by rw [nums_len]; exact ha.len)) rfl ?_
 refine mv_ (A0 (E4 3 4 5 10 11) (A4 ?_))
 refine D3 (α := Nat) (fun i => [(3, (vP b3)), (4, (vP b4)), (5, (vP b5)), (10, .agg (nums .u64 a).toArray), (11, (vI i))]) (fun i => [(b5, blk (nums .u64 (mlI a b i)) 152), (b4, blk [.int .u64 0, .int .u64 0, .int .u64 0, .int .u64 0, .int .u64 0] 152), (b3, blk (nums .u64 b) 152), (b2, blk (nums .u64 a) 152)]) (fun _ => _) (fun i => i ≤ 5) (fun i => 5 - i) 0 (Nat.zero_le _) (E4 3 4 5 10 11) (Fit.eq rfl) qI ?_
 rintro i hi
 try dsimp only at hi ⊢
 have hok := A4x a b i
 refine A1 ?_
 refine A2 (D4 rfl rfl rfl) rfl ?_
 refine A0 (H3 3 4 5 10 11 12) (A3 ?_)
 refine C1 rfl ?_ ?_ <;> intro hc
 ·
  have hlt : i < 5 := by simp at hc; omega
  refine A6 (nx (E4 3 4 5 10 11) (A3 (A4 (A1 (mv_ ?_)))))
  refine A2 (A4M (m := 5) (e := 94) (j := i) (cs := nums .u64 a) (u := .int .u64 ((a.getD i 0 : Nat) : Int)) rfl rfl kR kR kR rfl qO (Z8 (by rw [ha.len]; omega))) rfl ?_
  refine as_ (as_ (A0 (N0 3 4 5 6 7 10 11) (A1 ?_)))
  refine A2 (L2 (n := 5) (cs := nums .u64 b) rfl kR At.mem (by rw [nums_len]; exact hb.len)) rfl ?_
  refine mv_ (A0 (Z7 3 4 5 6 7 10 11 15 16) (A4 ?_))
  refine D3 (α := Nat) (fun k => [(3, (vP b3)), (4, (vP b4)), (5, (vP b5)), (10, .agg (nums .u64 a).toArray), (11, (vI i)), (6, (vI i)), (7, .int .u64 ((a.getD i 0 : Nat) : Int)), (15, .agg (nums .u64 b).toArray), (16, (vI k))]) (fun k => [(b5, blk (nums .u64 (mlK a b i (mlI a b i) k)) 152), (b4, blk [.int .u64 0, .int .u64 0, .int .u64 0, .int .u64 0, .int .u64 0] 152), (b3, blk (nums .u64 b) 152), (b2, blk (nums .u64 a) 152)]) (fun _ => _) (fun k => k ≤ 5) (fun k => 5 - k) 0 (Nat.zero_le _) (Z7 3 4 5 10 11 6 7 15 16) (Fit.eq rfl) qI ?_
  rintro k hk
  try dsimp only at hk ⊢
  have hok2 := B1b (a := a) (b := b) (i := i) hok k
  refine A1 ?_
  refine A2 (D4 rfl rfl rfl) rfl ?_
  refine A0 (kq 3 (Z7 4 5 6 7 10 11 15 16 17)) (A3 ?_)
  refine C1 rfl ?_ ?_ <;> intro hc
  ·
   have hlt2 : k < 5 := by simp at hc; omega
   refine A6 (nx (Z7 3 4 5 6 7 10 11 15 16) ?_)
   refine P4 (α := Unit) (fun _ => [(3, (vP b3)), (4, (vP b4)), (5, (vP b5)), (10, .agg (nums .u64 a).toArray), (11, (vI i)), (6, (vI i)), (7, .int .u64 ((a.getD i 0 : Nat) : Int)), (15, .agg (nums .u64 b).toArray), (16, (vI k)), (8, (vI k)), (9, .int .u64 ((b.getD k 0 : Nat) : Int))]) (fun _ => [(b5, blk (nums .u64 (mlK a b i (mlI a b i) (k + 1))) 152), (b4, blk [.int .u64 0, .int .u64 0, .int .u64 0, .int .u64 0, .int .u64 0] 152), (b3, blk (nums .u64 b) 152), (b2, blk (nums .u64 a) 152)]) (fun _ => []) (fun _ => True) ?_ ?_
   ·
    refine A4 (A1 (mv_ ?_))
    refine A2 (A4M (m := 5) (e := 94) (j := k) (cs := nums .u64 b) (u := .int .u64 ((b.getD k 0 : Nat) : Int)) rfl rfl kR kR kR rfl qO (Z8 (by rw [hb.len]; omega))) rfl ?_
    refine as_ (as_ ?_)
    refine A0 (kq 3 (kq 4 (Z7 5 6 7 8 9 10 11 15 16))) ?_
    refine A1 (mv_ (mv_ ?_))
    refine A2 (C7 ((i + k : Nat) : Int) rfl rfl (E1 qO qO qO)) rfl ?_
    refine A2 (D4 rfl rfl rfl) rfl ?_
    refine A0 (kq 3 (kq 4 (kq 5 (Z7 6 7 8 9 10 11 15 16 23)))) ?_
    refine C1 rfl ?_ ?_ <;> intro hc
    ·
     have h5 : i + k < 5 := by simp at hc; omega
     refine A7 (mv_ (mv_ ?_))
     refine A2 (C7 ((i + k : Nat) : Int) rfl rfl (E1 qO qO qO)) rfl ?_
     refine A2 (D1 (e := 94) (n := 5) (sz := 1) (i := i + k) (i + k) rfl rfl kR kR rfl qO qO) rfl ?_
     refine A2 (H9 (i + k) rfl kR At.mem rfl (by rw [hok2.len]; omega)) rfl ?_
     refine mv_ (mv_ ?_)
     refine A2 (N2 18446744073709551616 rfl rfl rfl rfl rfl rfl) rfl ?_
     refine A2 (F2 18446744073709551616 rfl rfl rfl rfl rfl rfl) rfl ?_
     refine A2 (D1 (e := 94) (n := 5) (sz := 1) (i := i + k) (i + k) rfl rfl kR kR rfl qO qO) rfl ?_
     refine A5 rfl (I7 (i + k) rfl rfl kR rfl (by rw [hok2.len]; omega) UpC.upd ?_)
     refine C0 (nb ?_)
     exact jn () trivial (kq 3 (kq 4 (Z7 5 10 11 6 7 15 16 8 9))) (Fit.eq (by rw [B6F h5])) qI
    ·
     have h5 : ¬ i + k < 5 := by simp at hc; omega
     refine A7 (mv_ (mv_ ?_))
     refine A2 (C7 ((i + k : Nat) : Int) rfl rfl (E1 qO qO qO)) rfl ?_
     refine A2 (C7 ((i + k - 5 : Nat) : Int) rfl rfl (A0h qO qO qO)) rfl ?_
     refine A2 (D1 (e := 94) (n := 5) (sz := 1) (i := i + k - 5) (i + k - 5) rfl rfl kR kR rfl qO qO) rfl ?_
     refine A2 (H9 (i + k - 5) rfl kR At.mem rfl (by rw [hok2.len]; omega)) rfl ?_
     refine mv_ ?_
     refine A2 (N2 18446744073709551616 rfl rfl rfl rfl rfl rfl) rfl ?_
     refine mv_ ?_
     refine A2 (N2 18446744073709551616 rfl rfl rfl rfl rfl rfl) rfl ?_
     refine A2 (F2 18446744073709551616 rfl rfl rfl rfl rfl rfl) rfl ?_
     refine A2 (D1 (e := 94) (n := 5) (sz := 1) (i := i + k - 5) (i + k - 5) rfl rfl kR kR rfl qO qO) rfl ?_
     refine A5 rfl (I7 (i + k - 5) rfl rfl kR rfl (by rw [hok2.len]; omega) UpC.upd ?_)
     refine C0 (nb ?_)
     exact jn () trivial (kq 3 (kq 4 (Z7 5 10 11 6 7 15 16 8 9))) (Fit.eq (by rw [B8D h5])) qI
   ·
    rintro _ -
    refine A7 ?_
    refine A2 (C7 ((k + 1 : Nat) : Int) rfl rfl (E1 qO qO qO)) rfl ?_
    refine mv_ (C0 ?_)
    exact rn (k + 1) hlt2 qO (Z7 3 4 5 10 11 6 7 15 16) (Fit.eq rfl) qI
  ·
   obtain rfl : k = 5 := by simp at hc; omega
   refine D0 (te (re (be rfl (nb (nx (E4 3 4 5 10 11) (A7 ?_))))))
   refine A2 (C7 ((i + 1 : Nat) : Int) rfl rfl (E1 qO qO qO)) rfl ?_
   refine mv_ (C0 ?_)
   exact rn (i + 1) hlt qO (E4 3 4 5 10 11) (Fit.eq rfl) qI
 ·
  obtain rfl : i = 5 := by simp at hc; omega
  refine D0 (te (re (be rfl (nx (D2 4 5) (A1 ?_)))))
  refine A2 (L2 (n := 5) (cs := nums .u64 (mlI a b 5)) rfl kR At.mem (by rw [nums_len]; exact (A4x a b 5).len)) rfl ?_
  refine F1 (aS rfl a0) kR (A3I (mlI a b 5) _ (A4x a b 5)) rfl ?_
  refine F1 (aS rfl a0) kR (A3I (cyN (mlI a b 5)) _ (U2 (A4x a b 5))) rfl ?_
  refine A5 rfl (A9 (vs := nums .u64 (A31 a b)) rfl rfl rfl (by rw [nums_len, (A1a a b).len]; kernel_rfl) (by rw [nums_len, (A1a a b).len]; rfl) E5 UpC.upd ?_)
  refine A0 (D7 4) (B4 ?_)
  exact ⟨_, [], [], A3Q (n := 5) rfl rfl kR At.mem (by rw [nums_len, (A1a a b).len]), List.nil_sublist _, by simp, rfl, rfl, rfl⟩

end Go.Proofs.YtlilcmjbaknafaaGreatDoor
