/- Part 15 of the texts of this claim, one behind the other. -/
import Derived.Test.YthbhpfefdnffaaaGreatDoorB14
set_option linter.unusedVariables false
set_option linter.unusedSimpArgs false
set_option maxRecDepth 100000
namespace Go.Proofs.YthbhpfefdnffaaaGreatDoor
open Go.Px
abbrev Rst := List Nat × Bool
structure Rdr (rb : Nat) (st : Rst) (R M : Mem) : Prop where
  ex : ∃ (v : Value), M = [(rb, blk [v, .bool st.2] 165)] ∧ By R v st.1
def rnN (st : Rst) (k : Nat) : Nat := if st.2 || decide (st.1.length < k) then 0 else bev (st.1.take k)
def rnS (st : Rst) (k : Nat) : Rst := if st.2 || decide (st.1.length < k) then (st.1, true) else (st.1.drop k, false)
def rbN (st : Rst) (most : Nat) : List Nat :=
  if (rnS st 4).2 || decide (rnN st 4 > most) || decide (rnN st 4 > (rnS st 4).1.length) then [] else (rnS st 4).1.take (rnN st 4)
def rbS (st : Rst) (most : Nat) : Rst :=
  if (rnS st 4).2 || decide (rnN st 4 > most) || decide (rnN st 4 > (rnS st 4).1.length) then ((rnS st 4).1, true) else ((rnS st 4).1.drop (rnN st 4), false)
def rEnd (st : Rst) : Bool := !st.2 && decide (st.1.length = 0)
theorem Rdr.rd {rb : Nat} {st : Rst} {R M A : Mem} (h : Rdr rb st R M) (hs : ∀ x, x ∈ M → x ∈ A) : ∃ v, (rb, blk [v, .bool st.2] 165) ∈ A ∧ By R v st.1 := by
  obtain ⟨v, rfl, h2⟩ := h.ex
  exact ⟨v, hs _ (by simp), h2⟩

theorem A3u {n : Nat} (h : n < 18446744073709551616) : IntKind.u64.wrap (n : Int) = (n : Int) := A8I (by omega) (by omega)
def u32N (x : Int) : Nat := (x % 4294967296).toNat
def u64N (x : Int) : Nat := (x % 18446744073709551616).toNat
def ctN (st : Rst) (most : Nat) : Nat := if rnN st 2 > most then 0 else rnN st 2
def ctS (st : Rst) (most : Nat) : Rst := if rnN st 2 > most then ((rnS st 2).1, true) else rnS st 2
def R7 (k : List Nat) (p n : Nat) : List Nat := ((beN k.length 4 ++ k) ++ beN p 4) ++ beN n 4
theorem A4o (k : List Nat) (p n : Nat) : (R7 k p n).length = k.length + 12 := by simp [R7, R6]; omega
def U3 (w h : List Nat) : List Nat := ((beN w.length 4 ++ w) ++ beN h.length 4) ++ h
theorem B1U (pb : Nat) (s : Ps) (v1 v2 : Value) (sec their : List Nat) (MP A : Mem) (hP : Prm pb s MP) (hn : s.ts.length + 200 ≤ 1040000) (hk : s.n < 1000000000) (h1 : By A v1 sec) (h2 : By A v2 their) (hG : Glb A) : FnX Tryz.prog 81 [.pointer (some ⟨pb, 0, none⟩), v1, v2] MP A fun q M J => Prm pb (B5k s sec their) M ∧ RsV (J ++ A) q (B4g s sec their) := by
 haveI := h1.cel
 haveI := h2.cel
 have hfl := A3t s
 refine FnX.enterZ (N := 27) Tryz.func81 rfl rfl rfl fun w_ => ?_
 refine B0 (D3 0 1 2) (A1 ?_)
 refine A4 rfl (C4 (cs := [.slice none 0 0, .slice none 0 0, .slice none 0 0, .slice none 0 0, I0, .slice none 0 0, I0, I0, .pointer none]) kR rfl fun b6 => ?_)
 refine A0 (D8 0 1 2 6) (A1 (mv_ ?_))
 refine A4 rfl (D4 (Mc := MP) (R := _) (aS rfl (a0)) kR PickC.perm (A0f pb s MP _ hP (by omega) (by omega) hG.up) rfl ?_)
 rintro v9 M9 J9 ⟨hP9, h9⟩
 haveI := h9.cel
 refine mv_ ?_
 refine C7 (aS rfl a0) kR (X7 v2 their _ (h2.mono SubC.sub)) rfl ?_
 rintro v11 M11 J11 ⟨rfl, h11⟩
 haveI := h11.cel
 refine A2 (E7 (place := fun x => #[(0, 1)][x]?) (z := [.slice none 0 0]) (fun _ => by kernel_rfl) e0 bd0) rfl ?_
 refine A4 rfl (bx_ fun b13 => ?_)
 refine A2 (E7 (place := fun x => #[(0, 1), (1, 1), (2, 1), (3, 2), (5, 2), (7, 1), (8, 1)][x]?) (z := [.slice none 0 0, .slice none 0 0, .slice none 0 0, .slice none 0 0, I0, .slice none 0 0, I0, I0, .pointer none]) (fun _ => by kernel_rfl) (eS rfl (eS rfl (eS rfl e0))) (bdS 0 1 rfl (by rfl) (bdS 1 1 rfl (by rfl) (bdS 8 1 rfl (by rfl) bd0)))) rfl ?_
 refine A4 rfl (C4 (cs := [.slice none 0 0, .slice none 0 0, .slice none 0 0, .slice none 0 0, I0, .slice none 0 0, I0, I0, .pointer none]) kR rfl fun b7 => ?_)
 refine A4 rfl (A8 (vs := [v9, v11, .slice none 0 0, .slice none 0 0, .int .u32 0, .slice none 0 0, .int .u32 0, .int .u32 0, .pointer (some ⟨b13, 0, none⟩)]) rfl rfl rfl kR (by rfl) (A7 h9.one (A7 h11.one (A7 rfl al6))) UpC.upd ?_)
 refine A0 (E4 0 1 2 6 7) (A1 (mv_ (mv_ ?_)))
 refine A2 (qf_ 0 0) rfl ?_
 refine A2 ql_ rfl ?_
 refine mv_ ?_
 refine A4 rfl (D4 (Mc := M9) (R := _) (aS rfl (aS rfl (aS rfl (aS rfl (a0))))) kR PickC.perm (A8l pb (I3 s) v1 v9 v2 sec (U0 s) their M9 _ hP9 (by omega) (h1.mono SubC.sub) (h9.mono SubC.sub) (h2.mono SubC.sub) hG.up) rfl ?_)
 rintro v21 M21 J21 ⟨u0, u1, rfl, hP21, g0, g1⟩
 haveI := g0.cel
 haveI := g1.cel
 refine mv_ ?_
 refine A2 (A04 rfl) rfl ?_
 refine A2 (A0U rfl) rfl ?_
 refine A2 (qf_ 2 2) rfl ?_
 refine A4 rfl (C8 rfl rfl g0.one kR SetC.set UpC.upd ?_)
 refine A2 (qf_ 3 3) rfl ?_
 refine A4 rfl (L3 (vs := [u1, .int .u32 0]) (cs' := [v9, v11, u0, u1, .int .u32 0, .slice none 0 0, .int .u32 0, .int .u32 0, .pointer (some ⟨b13, 0, none⟩)]) rfl rfl rfl kR (by exact (show 3 + 2 ≤ 9 by decide)) (A7 g1.one (A7 rfl I5)) rfl UpC.upd ?_)
 refine A0 (C9 6 7) ?_
 refine A5B (B := [(b13, blk [.slice none 0 0] 153)]) PickC.perm ?_
 refine A1 ?_
 refine A2 (qw_ 9) rfl ?_
 refine A4 rfl (A8 (vs := [v9, v11, u0, u1, .int .u32 0, .slice none 0 0, .int .u32 0, .int .u32 0, .pointer (some ⟨b13, 0, none⟩)]) rfl rfl rfl kR (by rfl) (A7 h9.one (A7 h11.one (A7 g0.one (A7 g1.one al5)))) UpC.upd ?_)
 refine A0 (D2 6) (B4 ?_)
 exact ⟨_, M21, [], A3y (n := 9) rfl rfl kR At.mem (by rfl), Fit.none (Fit.last PickC.perm), hP21, v9, v11, u0, u1, .slice none 0 0, _, rfl, ⟨h9.mono SubC.sub, h11.mono SubC.sub, g0.mono SubC.sub, g1.mono SubC.sub, By.nil, StF.new (by simp), (show 0 < 4294967296 by decide), (show 0 < 4294967296 by decide), (show 0 < 4294967296 by decide), (show 0 ≤ 1000 by decide)⟩⟩
theorem B1V (v1 v2 : Value) (sec own : List Nat) (A : Mem) (h1 : By A v1 sec) (h2 : By A v2 own) : FnX Tryz.prog 44 [v1, v2] [] A fun q M J => M = [] ∧ RsV (J ++ A) q (B4h sec own) := by
 haveI := h1.cel
 haveI := h2.cel
 refine FnX.enterZ (N := 12) Tryz.func44 rfl rfl rfl fun w_ => ?_
 refine B0 (C9 0 1) (A1 ?_)
 refine A4 rfl (C4 (cs := [.slice none 0 0, .slice none 0 0, .slice none 0 0, .slice none 0 0, I0, .slice none 0 0, I0, I0, .pointer none]) kR rfl fun b4 => ?_)
 refine A0 (D3 0 1 4) (A1 (mv_ ?_))
 refine C7 (aS rfl a0) kR (X7 v2 own _ (h2.mono SubC.sub)) rfl ?_
 rintro v6 M6 J6 ⟨rfl, h6⟩
 haveI := h6.cel
 refine mv_ ?_
 refine C7 (aS rfl a0) kR (X7 v1 sec _ (h1.mono SubC.sub)) rfl ?_
 rintro v8 M8 J8 ⟨rfl, h8⟩
 haveI := h8.cel
 refine A2 (E7 (place := fun x => #[(0, 1)][x]?) (z := [.slice none 0 0]) (fun _ => by kernel_rfl) e0 bd0) rfl ?_
 refine A4 rfl (bx_ fun b10 => ?_)
 refine A2 (E7 (place := fun x => #[(0, 1), (1, 1), (2, 1), (3, 2), (5, 2), (7, 1), (8, 1)][x]?) (z := [.slice none 0 0, .slice none 0 0, .slice none 0 0, .slice none 0 0, I0, .slice none 0 0, I0, I0, .pointer none]) (fun _ => by kernel_rfl) (eS rfl (eS rfl (eS rfl e0))) (bdS 0 1 rfl (by rfl) (bdS 2 1 rfl (by rfl) (bdS 8 1 rfl (by rfl) bd0)))) rfl ?_
 refine A4 rfl (A8 (vs := [v6, .slice none 0 0, v8, .slice none 0 0, .int .u32 0, .slice none 0 0, .int .u32 0, .int .u32 0, .pointer (some ⟨b10, 0, none⟩)]) rfl rfl rfl kR (by rfl) (A7 h6.one (A7 rfl (A7 h8.one al6))) UpC.upd ?_)
 refine A0 (D2 4) (B4 ?_)
 exact ⟨_, [], [(b10, blk [.slice none 0 0] 153)], A3y (n := 9) rfl rfl kR At.mem (by rfl), Fit.pick (B := [_]) PickC.perm (Fit.sub (List.nil_sublist _)), rfl, v6, .slice none 0 0, v8, .slice none 0 0, .slice none 0 0, _, rfl, ⟨h6.mono SubC.sub, By.nil, h8.mono SubC.sub, By.nil, By.nil, StF.new (by simp), (show 0 < 4294967296 by decide), (show 0 < 4294967296 by decide), (show 0 < 4294967296 by decide), (show 0 ≤ 1000 by decide)⟩⟩
theorem A8m (r : Rsd) (vo vt vr vk vl vs : Value) (A : Mem) (hr : RsR A r vo vt vr vk vl vs) : FnX Tryz.prog 40 [.agg (rsC vo vt vr vk vl vs r).toArray] [] A fun q M J => ∃ cb, q = .agg (rsC vo vt vr vk vl (.pointer (some ⟨cb, 0, none⟩)) r).toArray ∧ Sto A cb r.sks M := by
 haveI := hr.own.cel
 haveI := hr.their.cel
 haveI := hr.root.cel
 haveI := hr.sk.cel
 haveI := hr.tk.cel
 obtain ⟨sb, u, rows, rfl, hsb, hrd, hrw⟩ := hr.st
 have hsl := hr.sks
 unfold rsC
 refine FnX.enterZ (N := 8) Tryz.func40 rfl rfl rfl fun w_ => ?_
 refine B0 (D2 0) (A1 ?_)
 refine A4 rfl (bx_ fun b1 => ?_)
 refine A4 rfl (C4 (cs := [.slice none 0 0, .slice none 0 0, .slice none 0 0, .slice none 0 0, I0, .slice none 0 0, I0, I0, .pointer none]) kR rfl fun b2 => ?_)
 refine A0 (C9 1 2) (A1 ?_)
 refine A2 (qf_ 8 8) rfl ?_
 refine A2 ql_ rfl ?_
 refine C7 (aS rfl a0) kR (A8h sb _ u rows.flatten _ (mA hsb) (hrd.mono SubC.sub) (hrw.ones skT) (by omega)) rfl ?_
 rintro v5 M5 J5 ⟨cb, u5, B5, rfl, rfl, hs5⟩
 refine A2 (qf_ 8 8) rfl ?_
 refine A4 rfl (C8 rfl rfl rfl kR SetC.set UpC.upd ?_)
 refine A0 (C9 1 2) (A1 ?_)
 refine A2 (qw_ 9) rfl ?_
 refine A4 rfl (A8 (vs := [vo, vt, vr, vk, .int .u32 ((r.sn : Nat) : Int), vl, .int .u32 ((r.tn : Nat) : Int), .int .u32 ((r.prev : Nat) : Int), .pointer (some ⟨cb, 0, none⟩)]) rfl rfl rfl kR (by rfl) (A7 hr.own.one (A7 hr.their.one (A7 hr.root.one (A7 hr.sk.one (A7 rfl (A7 hr.tk.one al3)))))) UpC.upd ?_)
 refine A0 (D2 2) (B4 ?_)
 exact ⟨_, (cb, blk [u5] 153) :: B5, [], A3y (n := 9) rfl rfl kR At.mem (by rfl), Fit.none (Fit.pick (B := [_]) PickC.perm (Fit.last PickC.perm)), cb, rfl, ⟨u5, rows, B5, rfl, hs5, hrw⟩⟩
theorem A5T (vk : Value) (k : List Nat) (p n : Nat) (A : Mem) (hk : By A vk k) (hl : k.length ≤ 16000000) (hp : p < 4294967296) (hn : n < 4294967296) : FnX Tryz.prog 32 [.agg #[vk, .int .u32 ((p : Nat) : Int), .int .u32 ((n : Nat) : Int)]] [] A fun q M J => M = [] ∧ By J q (R7 k p n) := by
 haveI := hk.cel
 refine FnX.enterZ (N := 19) Tryz.func32 rfl rfl rfl fun w_ => ?_
 refine B0 (D2 0) (A1 ?_)
 refine A4 rfl (bx_ fun b1 => ?_)
 refine as_ (A0 (D2 1) (A1 ?_))
 refine A2 (E7 (place := fun x => #[(0, 1)][x]?) (z := [.slice none 0 0]) (fun _ => by kernel_rfl) e0 bd0) rfl ?_
 refine A4 rfl (bx_ fun b5 => ?_)
 refine as_ (A0 (C9 1 3) ?_)
 refine I2 ([(b5, blk [.slice none 0 0] 100)]) (_) true (.range 14) [(0, 0), (1, 0), (2, 1), (4, 0), (5, 1), (6, 0), (8, 0), (9, 1), (10, 0), (3, 2), (7, 2), (11, 2), (12, 2), (13, 0)] kR kR PickC.perm fun hs K n0 hKm hKs hKn => ?_
 refine km_ hs ?_
 refine I6 hs rfl (qf_ 0 0) rfl ?_
 refine R5 hs rfl hKs ql_ ?_
 refine I6 hs rfl (qf_ 1 1) rfl ?_
 refine R5 hs rfl hKs ql_ ?_
 refine I6 hs rfl (N3 (k' := .u64) p rfl kR (A3u (by omega))) rfl ?_
 refine I6 hs rfl (qf_ 2 2) rfl ?_
 refine R5 hs rfl hKs ql_ ?_
 refine I6 hs rfl (N3 (k' := .u64) n rfl kR (A3u (by omega))) rfl ?_
 refine K8 _ _ rfl rfl (List.Perm.refl _) hKm fun w0 => (D4 (Mc := [(b5, blk [.slice none 0 0] 100)]) (R := _) (aS rfl (aS rfl (a0))) kR PickC.perm (A0D b5 vk k [] _ _ Wtr.new (hk.mono SubC.sub) (by decide)) rfl ?_)
 rintro v9 M9 J9 ⟨rfl, hW9⟩ hKx9
 refine K8 M9 _ rfl rfl PickC.perm (fun x hx => hKx9 (hKn rfl) x (by simpa using hx)) fun w0 => (D4 (Mc := M9) (R := _) (aS rfl (aS rfl (aS rfl (a0)))) kR PickC.perm (A2g b5 p 4 _ _ _ hW9 (by omega) (by decide) (by simp [R6]; omega)) rfl ?_)
 rintro v13 M13 J13 ⟨rfl, hW13⟩ hKx13
 refine K8 M13 _ rfl rfl PickC.perm (fun x hx => hKx13 (hKn rfl) x (by simpa using hx)) fun w0 => (D4 (Mc := M13) (R := _) (aS rfl (aS rfl (aS rfl (a0)))) kR PickC.perm (A2g b5 n 4 _ _ _ hW13 (by omega) (by decide) (by simp [R6]; omega)) rfl ?_)
 rintro v17 M17 J17 ⟨rfl, hW17⟩ hKx17
 refine K8 M17 _ rfl rfl PickC.perm (fun x hx => hKx17 (hKn rfl) x (by simpa using hx)) fun w0 => (D4 (Mc := M17) (R := _) (aS rfl (a0)) kR PickC.perm (A2P b5 _ M17 _ hW17 (by simp [R6]; omega)) rfl ?_)
 rintro v18 M18 J18 ⟨hW18, h18⟩ hKx18
 haveI := h18.cel
 refine I6 hs rfl (F3 rfl) rfl ?_
 refine N9 (D2 2) (B4 ?_)
 exact ⟨_, [], [], I9 rfl rfl, Fit.sub (List.nil_sublist _), rfl, h18.mono SubC.sub⟩
theorem A48 (vw vk : Value) (w k : List Nat) (p n : Nat) (A : Mem) (hw : By A vw w) (hk : By A vk k) (hl : w.length + k.length ≤ 16000000) (hp : p < 4294967296) (hn : n < 4294967296) : FnX Tryz.prog 33 [vw, .agg #[vk, .int .u32 ((p : Nat) : Int), .int .u32 ((n : Nat) : Int)]] [] A fun q M J => M = [] ∧ By J q (U3 w (R7 k p n)) := by
 haveI := hw.cel
 haveI := hk.cel
 refine FnX.enterZ (N := 15) Tryz.func33 rfl rfl rfl fun w_ => ?_
 refine B0 (C9 0 1) (A1 ?_)
 refine A4 rfl (bx_ fun b3 => ?_)
 refine as_ (A0 (C9 0 3) (A1 ?_))
 refine A2 (E7 (place := fun x => #[(0, 1)][x]?) (z := [.slice none 0 0]) (fun _ => by kernel_rfl) e0 bd0) rfl ?_
 refine A4 rfl (bx_ fun b7 => ?_)
 refine as_ (A0 (D3 0 3 5) ?_)
 refine I2 ([(b7, blk [.slice none 0 0] 100)]) (_) true (.range 8) [(0, 0), (1, 0), (3, 1), (2, 2), (4, 2), (5, 2), (6, 2), (7, 0)] kR kR PickC.perm fun hs K n0 hKm hKs hKn => ?_
 refine km_ hs ?_
 refine km_ hs ?_
 refine R5 hs rfl hKs (qw_ 3) ?_
 refine K8 _ _ rfl rfl (List.Perm.refl _) hKm fun w0 => (D4 (Mc := [(b7, blk [.slice none 0 0] 100)]) (R := _) (aS rfl (aS rfl (a0))) kR PickC.perm (A0D b7 vw w [] _ _ Wtr.new (hw.mono SubC.sub) (by decide)) rfl ?_)
 rintro v10 M10 J10 ⟨rfl, hW10⟩ hKx10
 refine K8 [] _ rfl rfl (List.Perm.refl _) (fun _ h => by cases h) fun w0 => (E3 (aS rfl a0) kR (A5T vk k p n _ (hk.mono SubC.sub) (by omega) hp hn) rfl ?_)
 rintro v12 M12 J12 ⟨rfl, h12⟩ _
 haveI := h12.cel
 dsimp only [List.nil_append, List.append_eq]
 refine K8 M10 _ rfl rfl PickC.perm (fun x hx => hKx10 (hKn rfl) x (by simpa using hx)) fun w0 => (D4 (Mc := M10) (R := _) (aS rfl (aS rfl (a0))) kR PickC.perm (A0D b7 v12 (R7 k p n) _ _ _ hW10 (h12.mono SubC.sub) (by simp [R6]; omega)) rfl ?_)
 rintro v13 M13 J13 ⟨rfl, hW13⟩ hKx13
 refine K8 M13 _ rfl rfl PickC.perm (fun x hx => hKx13 (hKn rfl) x (by simpa using hx)) fun w0 => (D4 (Mc := M13) (R := _) (aS rfl (a0)) kR PickC.perm (A2P b7 _ M13 _ hW13 (by simp [R6, A4o]; omega)) rfl ?_)
 rintro v14 M14 J14 ⟨hW14, h14⟩ hKx14
 haveI := h14.cel
 refine I6 hs rfl (F3 rfl) rfl ?_
 refine N9 (D2 4) (B4 ?_)
 exact ⟨_, [], [], I9 rfl rfl, Fit.sub (List.nil_sublist _), rfl, h14.mono SubC.sub⟩

end Go.Proofs.YthbhpfefdnffaaaGreatDoor
namespace Go.Px
theorem FnX.amb {P : Program} {f : FuncId} {args : List Value} {M A A' : Mem} {post : Value → Mem → Mem → Prop} (hA : ∀ x, x ∈ A → x ∈ A') (h : FnX P f args M A post) : FnX P f args M A' post := by
  intro w hw
  have h1 : St ⟨P, w, M.map Prod.fst, A, 0⟩ M [] w := ⟨hw.os, hw.tape, hw.output, hw.size, hw.frame, fun b o hb => hw.mem b o (by
    rcases List.mem_append.1 hb with hb | hb
    · exact List.mem_append_left _ hb
    · exact List.mem_append_right _ (hA _ hb)), hw.nodup, hw.own, hw.sepJ, fun b o hb => hw.sepA b o (hA _ hb), hw.old⟩
  refine Calls.mono (h w h1) ?_
  rintro e w' ⟨r, M', J', rfl, hp, hs⟩
  refine ⟨r, M', J', rfl, hp, ⟨hs.os, hs.tape, hs.output, hs.size, hs.frame, fun b o hb => ?_, hs.nodup, hs.own, hs.sepJ, hw.sepA, hs.old⟩⟩
  rcases List.mem_append.1 hb with hb | hb
  · exact hs.mem b o (List.mem_append_left _ hb)
  · rcases List.mem_append.1 hb with hb | hb
    · exact hs.mem b o (List.mem_append_right _ (List.mem_append_left _ hb))
    · have h2 := hw.sepA b o hb
      rw [hs.frame b h2.2 h2.1]
      exact hw.mem b o (List.mem_append_right _ hb)
end Go.Px

namespace Go.Proofs.YthbhpfefdnffaaaGreatDoor
open Go.Px
theorem B1W {P : Program} {fn : Func} {l : Env} {R : Mem} {t1 t2 u x b1 b2 n1 n2 : Nat} {y1 y2 : TypeId} {c1 c2 : List Value} {e1 e2 : TypeId} {f1 f2 : Nat × Nat} {v z : Value} (h : fn.results = #[.cell t1 y1, .cell t2 y2, .tmp u, .tmp x]) (h1 : lk l t1 = some (.pointer (some ⟨b1, 0, none⟩))) (h2 : lk l t2 = some (.pointer (some ⟨b2, 0, none⟩))) (hu : lk l u = some v) (hx : lk l x = some z) (ht1 : A4r P y1 = some n1) (ht2 : A4r P y2 = some n2)
    (hb1 : (b1, Obj.cells c1.toArray e1 f1) ∈ R) (hb2 : (b2, Obj.cells c2.toArray e2 f2) ∈ R) (hn1 : c1.length = n1) (hn2 : c2.length = n2) : Res P fn l R (.tuple #[.agg c1.toArray, .agg c2.toArray, v, z]) := fun N a w ha hw => by
  obtain ⟨d1, g1, g2, g3⟩ := Q5 ht1
  obtain ⟨d2, k1, k2, k3⟩ := Q5 ht2
  have l1 := run_loadVar_row (P := P) w b1 e1 y1 c1.toArray f1 d1 (hw b1 _ hb1) g1 (by cases d1 <;> simp_all [TypeDesc.isRow]) (by rw [g3, ← hn1]; simp)
  have l2 := run_loadVar_row (P := P) w b2 e2 y2 c2.toArray f2 d2 (hw b2 _ hb2) k1 (by cases d2 <;> simp_all [TypeDesc.isRow]) (by rw [k3, ← hn2]; simp)
  simp [results, h, ha.slot t1 _ h1, ha.slot t2 _ h2, ha.slot u _ hu, ha.slot x _ hx, asAddr, l1, l2]
def slS (s : Ps) (w wa wb : List Nat) : Ps := B4a s w fun x => A6z x wa wb
def slK (s : Ps) (w wa wb : List Nat) : List Nat := B4Q s w fun x => A6z x wa wb
theorem B1X (pb : Nat) (s : Ps) (hr : s.real = false) (v v2 v3 : Value) (w wa wb : List Nat) (MP A : Mem) (hP : Prm pb s MP) (hn : s.ts.length < 1048576) (hv : By A v w) (hya : By A v2 wa) (hyb : By A v3 wb) (hG : Glb A) : FnX Tryz.prog 91 [.pointer (some ⟨pb, 0, none⟩), v, v2, v3] MP A fun q M J => Prm pb (slS s w wa wb) M ∧ By J q (slK s w wa wb) := by
  obtain ⟨bt, bm, hT⟩ := hP.t
  exact (A7E pb bt bm s hr v v2 v3 w wa wb MP A hT hn hv hya hyb hG).mono fun q M J h => ⟨h.1.p, h.2⟩
noncomputable def U4 (s : Ps) (r : Rsd) : Rsd := { r with sk := A9W (Q9 s r.own) r.sk, sn := (r.sn + 1) % 4294967296 }
noncomputable def B5l (s : Ps) (r : Rsd) (w : List Nat) : List Nat := U3 w (R7 (L8 s r.own) r.prev r.sn)
noncomputable def A9Y (s : Ps) (r : Rsd) (w t : List Nat) : Ps := slS (A1e (Q9 s r.own) r.sk) (A44 (Q9 s r.own) r.sk) (B5l s r w) t
noncomputable def A2q (s : Ps) (r : Rsd) (w t : List Nat) : List Nat := slK (A1e (Q9 s r.own) r.sk) (A44 (Q9 s r.own) r.sk) (B5l s r w) t
theorem A4p (s : Ps) (key : List Nat) : (A1e s key).ts.length ≤ s.ts.length + 3 ∧ (A1e s key).n = s.n ∧ (A1e s key).real = s.real := by
  have h1 := A3i s key [] A43 2
  have h2 := A12 s key [] A43 2
  have e : ([] : List (List Nat)).length = 0 := rfl
  unfold A1e
  exact ⟨by omega, h2.2.1, h2.1⟩
theorem A8n (pb : Nat) (s : Ps) (hre0 : s.real = false) (r : Rsd) (vo vt vr vk vl vs vw vx : Value) (w tx : List Nat) (MP A : Mem) (hP : Prm pb s MP) (hn : s.ts.length + 200 ≤ 1040000) (hr : RsR A r vo vt vr vk vl vs) (hsk : 0 < r.sk.length) (hw : By A vw w) (hwl : w.length ≤ 1000000) (hx : By A vx tx) (hG : Glb A) : FnX Tryz.prog 43 [.pointer (some ⟨pb, 0, none⟩), .agg (rsC vo vt vr vk vl vs r).toArray, vw, vx] MP A fun q M J => ∃ q1 q2 q3, q = .tuple #[q1, .agg #[q2, .int .u32 ((r.prev : Nat) : Int), .int .u32 ((r.sn : Nat) : Int)], q3, .int .i64 0] ∧ Prm pb (A9Y s r w tx) M ∧ RsV (J ++ A) q1 (U4 s r) ∧ By (J ++ A) q2 (L8 s r.own) ∧ By (J ++ A) q3 (A2q s r w tx) := by
 haveI := hr.own.cel
 haveI := hr.their.cel
 haveI := hr.root.cel
 haveI := hr.sk.cel
 haveI := hr.tk.cel
 haveI := hw.cel
 haveI := hx.cel
 have hst := hr.st
 obtain ⟨sb, u0, rows0, rfl, hsb, hrd0, hrw0⟩ := hst
 have f1 := A8k s r.own
 have f2 := A4p (Q9 s r.own) r.sk
 have f3 := A47 s r.own
 have hre : (A1e (Q9 s r.own) r.sk).real = false := by rw [f2.2.2, (B3K _ _).p.real]; exact hre0
 unfold rsC
 refine FnX.enterZ (N := 52) Tryz.func43 rfl rfl rfl fun w_ => ?_
 refine B0 (D8 0 1 2 3) (A1 ?_)
 refine A4 rfl (bx_ fun b5 => ?_)
 refine A4 rfl (C4 (cs := [.slice none 0 0, .slice none 0 0, .slice none 0 0, .slice none 0 0, I0, .slice none 0 0, I0, I0, .pointer none]) kR rfl fun b8 => ?_)
 refine A4 rfl (C4 (cs := [.slice none 0 0, .int .u32 0, .int .u32 0]) kR rfl fun b9 => ?_)
 refine as_ (as_ (A0 (H9 0 2 3 5 8 9) (A3 (A1 ?_))))
 refine A2 (qf_ 3 3) rfl ?_
 refine A2 (qf_ 3 0) rfl ?_
 refine A2 ql_ rfl ?_
 refine A2 (H5 (sz := 1) rfl kR hr.sk.rd) rfl ?_
 refine A2 (E1 false rfl rfl (eqF (by omega))) rfl ?_
 refine A0 (V6 0 2 3 5 8 9 19) ?_
 refine C6 rfl ?_
 refine A5 (nx (H9 0 2 3 5 8 9) ?_)
 refine I2 (MP) (_) true (.range 11) [(0, 0), (1, 0), (2, 1), (4, 0), (5, 1), (6, 0), (7, 0), (8, 1), (3, 3), (9, 3), (10, 4), (11, 2)] kR kR PickC.perm fun hs K n0 hKm hKs hKn => ?_
 refine km_ hs ?_
 refine I6 hs rfl (qf_ 0 0) rfl ?_
 refine R5 hs rfl hKs ql_ ?_
 refine I6 hs rfl (qf_ 7 7) rfl ?_
 refine R5 hs rfl hKs ql_ ?_
 refine I6 hs rfl (qf_ 3 3) rfl ?_
 refine I6 hs rfl (qf_ 4 1) rfl ?_
 refine R5 hs rfl hKs ql_ ?_
 refine A74 [⟨3, 25, none, MP, fun v B R => Prm pb (Q9 s r.own) B ∧ By R v (L8 s r.own)⟩, ⟨9, 31, none, [], fun v B R => B = [] ∧ ∃ u, v = .agg #[u, .int .u32 ((r.prev : Nat) : Int), .int .u32 ((r.sn : Nat) : Int)] ∧ By R u (L8 s r.own)⟩, ⟨10, 12, none, [], fun v B _ => ∃ b, v = .pointer (some ⟨b, 0, none⟩) ∧ B = [(b, blk [.slice none 0 0, .int .u32 0, .int .u32 0] 62)]⟩] ([(b9, blk [.slice none 0 0, .int .u32 0, .int .u32 0] 62), (b8, blk [.slice none 0 0, .slice none 0 0, .slice none 0 0, .slice none 0 0, .int .u32 0, .slice none 0 0, .int .u32 0, .int .u32 0, .pointer none] 80), (b5, blk [vo, vt, vr, vk, .int .u32 ((r.sn : Nat) : Int), vl, .int .u32 ((r.tn : Nat) : Int), .int .u32 ((r.prev : Nat) : Int), .pointer (some ⟨sb, 0, none⟩)] 80)]) (fun bs => [bs 3, bs 9, bs 10]) (hKn rfl) (by simp [A0j, A0A]) (show ∀ m ∈ ([MP, [], []] : List Mem), ∀ x ∈ m, K x.1 from A7 (hKm) (A7 (fun _ h => by cases h) (A7 (fun _ h => by cases h) (I5)))) kR (fun _ => by first | rfl | kernel_rfl)
  (A7 (fun _ _ _ _ h ⟨p1, p2⟩ => ⟨p1, p2.mono h⟩) (A7 (fun _ _ _ _ h ⟨p1, u, e, p2⟩ => ⟨p1, u, e, p2.mono h⟩) (A7 (fun _ _ _ _ _ h => h) (I5)))) (show List.Nodup [25, 31, 12] by decide) (show List.Nodup [3, 9, 10] by decide) (A7 (C1 rfl) (A7 (C1 rfl) (A7 (C1 rfl) (I5))))
  (A7 ⟨_, rfl, fun vs bs R Rj wG hb hj hjr ha => ⟨.inl rfl, ?_⟩⟩ (A7 ⟨_, rfl, fun vs bs R Rj wG hb hj hjr ha => ⟨.inl rfl, ?_⟩⟩ (A7 ⟨_, rfl, fun vs bs R Rj wG hb hj hjr ha => ⟨.inl rfl, ?_⟩⟩ (I5)))) ?_
 ·
  dsimp only [Gc.inp]
  refine D4 (Mc := MP) (R := []) (aS rfl (aS rfl (a0))) kR (by simp) (A5O pb s vo r.own MP _ hP (by omega) (hr.own.mono (fun x hx => by have := hb x (by simp [hx]); simp [this])) (hG.sub (fun x hx => by have := hb x (by simp [hx]); simp [this]))) rfl ?_
  rintro v25 M25 J25 ⟨hP25, h25⟩
  exact ⟨_, rfl, by simpa using hP25, h25.mono fun x hx => by simp [hx]⟩
 ·
  dsimp only [Gc.inp]
  have g3 := ha _ (List.mem_of_getElem? (i := 0) rfl) kR
  replace g3 : (fun v B R => Prm pb (Q9 s r.own) B ∧ By R v (L8 s r.own)) (vs 3) (bs 3) Rj := g3
  dsimp only at g3
  obtain ⟨-, h25⟩ := g3
  haveI := h25.cel
  dsimp only [P5, List.map, List.cons_append, List.nil_append]
  exact OpQ.opL (E7 (place := fun x => #[(0, 1), (1, 1), (2, 1)][x]?) (z := [.slice none 0 0, .int .u32 0, .int .u32 0]) (fun _ => by kernel_rfl) (eS rfl (eS rfl (eS rfl e0))) (bdS 0 1 rfl (by rfl) (bdS 1 1 rfl (by rfl) (bdS 2 1 rfl (by rfl) bd0)))) rfl ⟨_, rfl, rfl, _, rfl, h25⟩
 ·
  dsimp only [Gc.inp]
  exact C4 (cs := [.slice none 0 0, .int .u32 0, .int .u32 0]) kR rfl fun b => ⟨_, rfl, b, rfl, rfl⟩
 intro vs bs Jn0 hφ hKK
 have kk3 := hKK _ (List.mem_of_getElem? (i := 0) rfl)
 dsimp only at kk3
 have kk9 := hKK _ (List.mem_of_getElem? (i := 1) rfl)
 dsimp only at kk9
 have kk10 := hKK _ (List.mem_of_getElem? (i := 2) rfl)
 dsimp only at kk10
 clear hKK
 have g3 := ofH hφ
 dsimp only at g3
 replace hφ := ofT hφ
 have g9 := ofH hφ
 dsimp only at g9
 replace hφ := ofT hφ
 have g10 := ofH hφ
 dsimp only at g10
 clear hφ
 dsimp only [P5, A0j, List.foldr, List.map, List.cons_append, List.nil_append]
 generalize bs 3 = B25 at *
 generalize bs 9 = B31 at *
 generalize bs 10 = B12 at *
 generalize vs 3 = u25 at *
 generalize vs 9 = u31 at *
 generalize vs 10 = u12 at *
 obtain ⟨hP25, -⟩ := g3
 obtain ⟨rfl, v25, rfl, h25⟩ := g9
 obtain ⟨b12, rfl, rfl⟩ := g10
 haveI := h25.cel
 refine P7 rfl rfl rfl (A8 (vs := [v25, .int .u32 ((r.prev : Nat) : Int), .int .u32 ((r.sn : Nat) : Int)]) rfl rfl rfl kR (by rfl) (A7 h25.one al2) UpC.upd ?_)
 refine N9 (V6 0 2 3 5 8 9 12) (A1 ?_)
 refine A2 (qw_ 9) rfl ?_
 refine C7 (aS rfl a0) kR (FnX.amb SubC.sub (A8m r vo vt vr vk vl _ A hr)) rfl ?_
 rintro v33 M33 J33 ⟨cb, rfl, hSt⟩
 obtain ⟨u5, rows5, BS, rfl, hs5, hw5⟩ := hSt.ex
 unfold rsC
 refine A4 rfl (A8 (vs := [vo, vt, vr, vk, .int .u32 ((r.sn : Nat) : Int), vl, .int .u32 ((r.tn : Nat) : Int), .int .u32 ((r.prev : Nat) : Int), .pointer (some ⟨cb, 0, none⟩)]) rfl rfl rfl kR (by rfl) (A7 hr.own.one (A7 hr.their.one (A7 hr.root.one (A7 hr.sk.one (A7 rfl (A7 hr.tk.one al3)))))) UpC.upd ?_)
 refine A0 (V6 0 2 3 5 8 9 12) ?_
 refine A5B (B := (cb, blk [u5] 153) :: BS) PickC.perm ?_
 have hrd5 := hs5.rd (R := BS) fun _ h => h
 refine A1 (mv_ ?_)
 refine A2 (qf_ 3 3) rfl ?_
 refine A2 (T8 (n := 2) rfl kR (by first | exact At.mem | exact mA (by assumption)) TakeC.take) rfl ?_
 refine A4 rfl (D4 (Mc := B25) (R := _) (aS rfl (aS rfl (a0))) kR PickC.perm (A2f pb (Q9 s r.own) vk r.sk r.sn B25 _ hP25 (hr.sk.mono SubC.sub) (by omega) hG.up) rfl ?_)
 rintro v38 M38 J38 ⟨k1, k2, rfl, hP38, hb1, hb2⟩
 haveI := hb1.cel
 haveI := hb2.cel
 refine mv_ ?_
 refine A2 (A04 rfl) rfl ?_
 refine A2 (A0U rfl) rfl ?_
 refine A4 rfl (C4 (cs := [.slice none 0 0, .int .u32 0]) kR rfl fun b14 => ?_)
 refine as_ ?_
 refine A4 rfl (A8 (vs := [k2, .int .u32 (((r.sn + 1) % 4294967296 : Nat) : Int)]) rfl rfl rfl kR (by rfl) (A7 hb2.one (A7 rfl I5)) UpC.upd ?_)
 refine A0 (A2j 0 2 3 5 8 9 12 13 14) (A1 ?_)
 refine A2 (qw_ 2) rfl ?_
 refine A2 (qf_ 3 3) rfl ?_
 refine A4 rfl (L3 (vs := [k2, .int .u32 (((r.sn + 1) % 4294967296 : Nat) : Int)]) (cs' := [vo, vt, vr, k2, .int .u32 (((r.sn + 1) % 4294967296 : Nat) : Int), vl, .int .u32 ((r.tn : Nat) : Int), .int .u32 ((r.prev : Nat) : Int), .pointer (some ⟨cb, 0, none⟩)]) rfl rfl rfl kR (by exact (show 3 + 2 ≤ 9 by decide)) (A7 hb2.one (A7 rfl I5)) rfl UpC.upd ?_)
 refine A0 (W4 0 2 3 5 8 9 12 13) ?_
 refine I2 (M38 ++ [(b8, blk [.slice none 0 0, .slice none 0 0, .slice none 0 0, .slice none 0 0, .int .u32 0, .slice none 0 0, .int .u32 0, .int .u32 0, .pointer none] 80)]) (_) true [0, 1, 2, 3, 4, 5, 6, 7, 8, 9, 11, 12] [(0, 1), (1, 1), (2, 0), (3, 0), (4, 0), (5, 1), (7, 0), (6, 2), (8, 2), (9, 2), (10, 2), (11, 0), (12, 0)] kR kR PickC.perm fun hs K n0 hKm hKs hKn => ?_
 refine R5 hs rfl hKs (qw_ 9) ?_
 refine R5 hs rfl hKs (qw_ 3) ?_
 refine km_ hs ?_
 refine km_ hs ?_
 refine km_ hs ?_
 refine R5 hs rfl hKs (qw_ 3) ?_
 refine km_ hs ?_
 refine K8 [] _ rfl rfl (List.Perm.refl _) (fun _ h => by cases h) fun w0 => (E3 (aS rfl (aS rfl a0)) kR (A48 vw v25 w (L8 s r.own) r.prev r.sn _ (hw.mono SubC.sub) (h25.mono SubC.sub) (by omega) hr.prev hr.sn) rfl ?_)
 rintro v49 M49 J49 ⟨rfl, h49⟩ _
 haveI := h49.cel
 dsimp only [List.nil_append, List.append_eq]
 refine K8 M38 _ rfl rfl PickC.perm (fun x hx => hKm x (List.mem_append_left _ hx)) fun w0 => (D4 (Mc := M38) (R := _) (aS rfl (aS rfl (aS rfl (aS rfl (a0))))) kR PickC.perm (B1X pb (A1e (Q9 s r.own) r.sk) hre k1 v49 vx (A44 (Q9 s r.own) r.sk) (B5l s r w) tx M38 _ hP38 (by omega) (hb1.mono SubC.sub) (h49.mono SubC.sub) (hx.mono SubC.sub) hG.up) rfl ?_)
 rintro v51 M51 J51 ⟨hP51, h51⟩ hKx51
 haveI := h51.cel
 refine K8 [(b8, blk [.slice none 0 0, .slice none 0 0, .slice none 0 0, .slice none 0 0, .int .u32 0, .slice none 0 0, .int .u32 0, .int .u32 0, .pointer none] 80)] _ rfl rfl PickC.perm (fun x hx => hKm x (List.mem_append_right _ hx)) fun w0 => (A8 (vs := [vo, vt, vr, k2, .int .u32 (((r.sn + 1) % 4294967296 : Nat) : Int), vl, .int .u32 ((r.tn : Nat) : Int), .int .u32 ((r.prev : Nat) : Int), .pointer (some ⟨cb, 0, none⟩)]) rfl rfl rfl kR (by rfl) (A7 hr.own.one (A7 hr.their.one (A7 hr.root.one (A7 hb2.one (A7 rfl (A7 hr.tk.one al3)))))) UpC.upd ?_)
 intro _
 dsimp only [List.cons_append, List.nil_append, List.append_eq]
 refine P7 rfl rfl rfl (A8 (vs := [v25, .int .u32 ((r.prev : Nat) : Int), .int .u32 ((r.sn : Nat) : Int)]) rfl rfl rfl kR (by rfl) (A7 h25.one al2) UpC.upd ?_)
 refine I6 hs rfl (F3 rfl) rfl ?_
 refine I6 hs rfl (F3 rfl) rfl ?_
 refine N9 (D8 8 9 10 11) (B4 ?_)
 exact ⟨_, M51, [], B1W (n1 := 9) (n2 := 3) rfl rfl rfl rfl rfl kR kR At.mem At.mem (by rfl) (by rfl), Fit.none (Fit.last PickC.perm), _, v25, v51, rfl, hP51, ⟨vo, vt, vr, k2, vl, _, rfl, ⟨hr.own.mono SubC.sub, hr.their.mono SubC.sub, hr.root.mono SubC.sub, hb2.mono SubC.sub, hr.tk.mono SubC.sub, ⟨cb, u5, rows5, rfl, by simp, hrd5.mono SubC.sub, hw5.mono skT SubC.sub⟩, Nat.mod_lt _ (by decide), hr.tn, hr.prev, hr.sks⟩⟩, h25.mono SubC.sub, h51.mono SubC.sub⟩

theorem B3V {P : Program} {fn : Func} {l : Env} {R : Mem} {t u x b n : Nat} {ty : TypeId} {cs : List Value} {e : TypeId} {fr : Nat × Nat} {v z : Value} (h : fn.results = #[.cell t ty, .tmp u, .tmp x]) (hv : lk l t = some (.pointer (some ⟨b, 0, none⟩))) (hu : lk l u = some v) (hx : lk l x = some z) (ht : A4r P ty = some n)
    (hb : (b, Obj.cells cs.toArray e fr) ∈ R) (hn : cs.length = n) : Res P fn l R (.tuple #[.agg cs.toArray, v, z]) := fun N a w ha hw => by
  obtain ⟨dsc, h1, h2, h3⟩ := Q5 ht
  have hl := run_loadVar_row (P := P) w b e ty cs.toArray fr dsc (hw b _ hb) h1 (by cases dsc <;> simp_all [TypeDesc.isRow]) (by rw [h3, ← hn]; simp)
  simp [results, h, ha.slot t _ hv, ha.slot u _ hu, ha.slot x _ hx, asAddr, hl]
noncomputable def op1 (s : Ps) (r : Rsd) (hk : List Nat) : Ps := B1S s r.root r.own hk
noncomputable def opC (s : Ps) (r : Rsd) (hk : List Nat) : List Nat := B4f s r.root r.own hk
noncomputable def op2 (s : Ps) (r : Rsd) (hk : List Nat) : Ps := A1e (op1 s r hk) (opC s r hk)
noncomputable def opK (s : Ps) (r : Rsd) (hk : List Nat) : List Nat := A44 (op1 s r hk) (opC s r hk)
noncomputable def B0z (s : Ps) (r : Rsd) (hk : List Nat) : Ps := B1S (I3 (op2 s r hk)) (B1T s r.root r.own hk) (U0 (op2 s r hk)) hk
noncomputable def V7 (s : Ps) (r : Rsd) (hk : List Nat) : Rsd :=
  ⟨U0 (op2 s r hk), hk, B1T (I3 (op2 s r hk)) (B1T s r.root r.own hk) (U0 (op2 s r hk)) hk, B4f (I3 (op2 s r hk)) (B1T s r.root r.own hk) (U0 (op2 s r hk)) hk, 0, A9W (op1 s r hk) (opC s r hk), 1, r.sn, r.sks⟩
structure Opn (s : Ps) (r : Rsd) (hk w : List Nat) (hp : Nat) (g t : List Nat) : Prop where
  none : B1M r.sks hk 0 = none
  ne : hk ≠ r.their
  tk : r.tk = []
  ex : ∃ i j, plc g (op2 s r hk).ts.length = some i ∧ plc (opK s r hk) (op2 s r hk).ts.length = some j ∧ (op2 s r hk).ts[i]? = some (A6z ((j : Nat) : Int) (U3 w (R7 hk hp 0)) t)
  g32 : g.length = 32
theorem A8o (pb : Nat) (s : Ps) (hre0 : s.real = false) (r : Rsd) (vo vt vr vk vl vs vw vh vg : Value) (w hk g t : List Nat) (hp : Nat) (MP A : Mem) (hP : Prm pb s MP) (hn : s.ts.length + 500 ≤ 1000000) (hsn : s.n < 1000000000) (hr : RsR A r vo vt vr vk vl vs) (hw : By A vw w) (hh : By A vh hk) (hl : w.length + hk.length ≤ 1000000) (hhp : hp < 4294967296) (hg : By A vg g) (hbt : B256 t) (ltt : t.length ≤ 16777216) (hO : Opn s r hk w hp g t) (hG : Glb A) : FnX Tryz.prog 82 [.pointer (some ⟨pb, 0, none⟩), .agg (rsC vo vt vr vk vl vs r).toArray, vw, .agg #[vh, .int .u32 ((hp : Nat) : Int), .int .u32 ((0 : Nat) : Int)], vg] MP A fun q M J => ∃ q1 u, q = .tuple #[q1, u, .int .i64 0] ∧ Prm pb (B0z s r hk) M ∧ RsV (J ++ A) q1 (V7 s r hk) ∧ By (J ++ A) u t := by
 haveI := hr.own.cel
 haveI := hr.their.cel
 haveI := hr.root.cel
 haveI := hr.sk.cel
 haveI := hr.tk.cel
 haveI := hw.cel
 haveI := hh.cel
 haveI := hg.cel
 have hst := hr.st
 obtain ⟨sb, u0, rows0, rfl, hsb, hrd0, hrw0⟩ := hst
 obtain ⟨i, j, hi, hj, hti⟩ := hO.ex
 have f1 : (op1 s r hk).ts.length ≤ s.ts.length + 7 ∧ (op1 s r hk).n = s.n := A9X s r.root r.own hk
 have f2 : (op2 s r hk).ts.length ≤ (op1 s r hk).ts.length + 3 ∧ (op2 s r hk).n = (op1 s r hk).n ∧ (op2 s r hk).real = (op1 s r hk).real := A4p _ _
 have f3 := A3t (op2 s r hk)
 have hre : (op2 s r hk).real = false := by rw [f2.2.2]; show (A6y _ _ _ _ _).real = _; rw [(A12 _ _ _ _ _).1, (B3U _ _ _).p.real]; exact hre0
 unfold rsC
 refine FnX.enterZ (N := 181) Tryz.func82 rfl rfl rfl fun w_ => ?_
 refine B0 (E4 0 1 2 3 4) (A1 ?_)
 refine A4 rfl (bx_ fun b6 => ?_)
 refine A4 rfl (bx_ fun b8 => ?_)
 refine A4 rfl (C4 (cs := [.slice none 0 0, .slice none 0 0, .slice none 0 0, .slice none 0 0, I0, .slice none 0 0, I0, I0, .pointer none]) kR rfl fun b10 => ?_)
 refine as_ (as_ (A0 (H9 0 2 4 6 8 10) (A1 (mv_ ?_))))
 refine A2 (qw_ 3) rfl ?_
 refine C7 (aS rfl (aS rfl a0)) kR (A48 vw vh w hk hp 0 _ (hw.mono SubC.sub) (hh.mono SubC.sub) (by omega) hhp (by decide)) rfl ?_
 rintro v31 M31 J31 ⟨rfl, h31⟩
 haveI := h31.cel
 refine as_ (A0 (H9 0 4 6 8 10 13) (A3 (A1 ?_)))
 refine A2 (qf_ 8 8) rfl ?_
 refine A2 ql_ rfl ?_
 refine A2 (qf_ 0 0) rfl ?_
 refine A2 ql_ rfl ?_
 refine A2 (qf_ 2 2) rfl ?_
 refine A2 ql_ rfl ?_
 refine C7 (aS rfl (aS rfl (aS rfl a0))) kR (A9U sb u0 vh rows0 r.sks hk 0 _ (mA hsb) (hrd0.mono SubC.sub) (hrw0.mono skT SubC.sub) (by have := hr.sks; omega) (hh.mono SubC.sub)) rfl ?_
 rintro v39 M39 J39 ⟨rfl, u39, rfl, h39⟩
 haveI := h39.cel
 rw [hO.none]
 refine mv_ ?_
 refine A2 (A04 rfl) rfl ?_
 refine A2 (A0U rfl) rfl ?_
 refine as_ (as_ (A0 (W4 0 4 6 8 10 13 14 15) (A1 (mv_ (A0 (W4 0 4 6 8 10 13 14 42) ?_)))))
 refine C6 rfl ?_
 refine A5 (nx (H9 0 4 6 8 10 13) (A1 ?_))
 refine A2 (qw_ 9) rfl ?_
 refine C7 (aS rfl a0) kR (FnX.amb SubC.sub (A8m r vo vt vr vk vl _ A hr)) rfl ?_
 rintro v66 M66 J66 ⟨cb, rfl, hSt⟩
 unfold rsC
 refine A4 rfl (C4 (cs := [.slice none 0 0, .slice none 0 0, .slice none 0 0, .slice none 0 0, I0, .slice none 0 0, I0, I0, .pointer none]) kR rfl fun b19 => ?_)
 refine A4 rfl (A8 (vs := [vo, vt, vr, vk, .int .u32 ((r.sn : Nat) : Int), vl, .int .u32 ((r.tn : Nat) : Int), .int .u32 ((r.prev : Nat) : Int), .pointer (some ⟨cb, 0, none⟩)]) rfl rfl rfl kR (by rfl) (A7 hr.own.one (A7 hr.their.one (A7 hr.root.one (A7 hr.sk.one (A7 rfl (A7 hr.tk.one al3)))))) UpC.upd ?_)
 refine A0 (V6 0 4 6 8 10 13 19) (A1 ?_)
 refine A2 (qf_ 0 0) rfl ?_
 refine A2 ql_ rfl ?_
 refine A2 (qf_ 1 1) rfl ?_
 refine A2 ql_ rfl ?_
 refine F7 (aS rfl (aS rfl a0)) kR (A2e vh vt hk r.their _ (hh.mono SubC.sub) (hr.their.mono SubC.sub)) rfl ?_
 rw [decide_eq_false hO.ne]
 refine A2 (A6C rfl) rfl ?_
 refine mv_ ?_
 refine H2 rfl rfl rfl rfl ?_
 refine H2 rfl rfl rfl rfl ?_
 refine H2 rfl rfl rfl rfl ?_
 refine H2 rfl rfl rfl rfl ?_
 refine H2 rfl rfl rfl rfl ?_
 refine A2 (H7 rfl rfl) rfl ?_
 refine as_ (A0 (W4 0 4 6 8 10 13 19 20) (A3 (A1 (mv_ (A0 (A2j 0 4 6 8 10 13 19 20 80) ?_)))))
 refine D0 rfl ?_
 refine A3 (A1 ?_)
 refine A2 (qf_ 5 5) rfl ?_
 refine A2 (qf_ 5 0) rfl ?_
 refine A2 ql_ rfl ?_
 refine A2 (H5 (sz := 1) rfl kR hr.tk.rd) rfl ?_
 rw [hO.tk]
 refine A2 (E1 false rfl rfl (gtF (by decide))) rfl ?_
 refine A0 (A2j 0 4 6 8 10 13 19 20 85) ?_
 refine C6 rfl ?_
 refine A5 (nx (W4 0 4 6 8 10 13 19 20) (A1 (mv_ ?_)))
 refine A2 (qf_ 2 2) rfl ?_
 refine A2 ql_ rfl ?_
 refine A2 (qf_ 0 0) rfl ?_
 refine A2 ql_ rfl ?_
 refine A2 (qf_ 0 0) rfl ?_
 refine A2 ql_ rfl ?_
 refine A4 rfl (D4 (Mc := MP) (R := _) (aS rfl (aS rfl (aS rfl (aS rfl (a0))))) kR PickC.perm (A8l pb s vr vo vh r.root r.own hk MP _ hP (by omega) (hr.root.mono SubC.sub) (hr.own.mono SubC.sub) (hh.mono SubC.sub) hG.up) rfl ?_)
 rintro v113 M113 J113 ⟨y0, y1, rfl, hP113, gy0, gy1⟩
 haveI := gy0.cel
 haveI := gy1.cel
 refine mv_ ?_
 refine A2 (A04 rfl) rfl ?_
 refine A2 (A0U rfl) rfl ?_
 refine A2 (qf_ 2 2) rfl ?_
 refine A4 rfl (C8 rfl rfl gy0.one kR SetC.set UpC.upd ?_)
 refine A2 (qf_ 5 5) rfl ?_
 refine A4 rfl (L3 (vs := [y1, .int .u32 ((0 : Nat) : Int)]) (cs' := [vo, vt, y0, vk, .int .u32 ((r.sn : Nat) : Int), y1, .int .u32 ((0 : Nat) : Int), .int .u32 ((r.prev : Nat) : Int), .pointer (some ⟨cb, 0, none⟩)]) rfl rfl rfl kR (by exact (show 5 + 2 ≤ 9 by decide)) (A7 gy1.one (A7 rfl I5)) rfl UpC.upd ?_)
 refine A0 (W4 0 4 6 8 10 13 19 20) (A9 ?_)
 refine A2 (qf_ 0 0) rfl ?_
 refine A2 ql_ rfl ?_
 refine C7 (aS rfl a0) kR (X7 vh hk _ (hh.mono SubC.sub)) rfl ?_
 rintro v120 M120 J120 ⟨rfl, h120⟩
 haveI := h120.cel
 refine A2 (qf_ 1 1) rfl ?_
 refine A4 rfl (C8 rfl rfl h120.one kR SetC.set UpC.upd ?_)
 refine A0 (W4 0 4 6 8 10 13 19 20) (A1 (mv_ ?_))
 refine A2 (qf_ 5 5) rfl ?_
 refine A2 (T8 (n := 2) rfl kR (by first | exact At.mem | exact mA (by assumption)) TakeC.take) rfl ?_
 refine A2 (qf_ 1 1) rfl ?_
 refine A2 ql_ rfl ?_
 refine A2 (qf_ 2 2) rfl ?_
 refine A2 ql_ rfl ?_
 refine A2 (qf_ 8 8) rfl ?_
 refine A2 ql_ rfl ?_
 refine A4 rfl (D4 (Mc := M113 ++ M66) (R := _) (aS rfl (aS rfl (aS rfl (aS rfl (aS rfl (a0)))))) kR PickC.perm (A6t pb cb (op1 s r hk) y1 v120 (opC s r hk) hk 0 0 r.sks (J120 ++ (J113 ++ A)) M113 M66 _ hP113 (hSt.mono SubC.sub) SubC.sub (gy1.mono SubC.sub) (h120.mono SubC.sub) hr.sks (by decide) (by decide) (by decide) (by omega) hG.up) rfl ?_)
 rintro v132 M132 J132 ⟨MP2, MS2, kv, rfl, rfl, hP132, hSt2, gkv⟩
 change Prm pb (op1 s r hk) MP2 at hP132
 change Sto _ cb r.sks MS2 at hSt2
 change By _ kv (opC s r hk) at gkv
 haveI := gkv.cel
 refine mv_ ?_
 refine A2 (A04 rfl) rfl ?_
 refine A2 (A0U rfl) rfl ?_
 refine A4 rfl (C4 (cs := [.slice none 0 0, .int .u32 0]) kR rfl fun b23 => ?_)
 refine A4 rfl (A8 (vs := [kv, .int .u32 ((0 : Nat) : Int)]) rfl rfl rfl kR (by rfl) (A7 gkv.one (A7 rfl I5)) UpC.upd ?_)
 refine as_ (A0 (A2j 0 4 6 10 13 19 20 23 24) (A3 (A1 (mv_ ?_))))
 refine A2 (E1 false rfl rfl (neF rfl)) rfl ?_
 refine A0 (kq 0 (A2j 4 6 10 13 19 20 23 24 136)) ?_
 refine C6 rfl ?_
 refine A5 (nx (W4 0 4 6 10 13 19 20 23) (A1 (mv_ ?_)))
 refine A2 (qw_ 2) rfl ?_
 refine A4 rfl (D4 (Mc := MP2) (R := _) (aS rfl (aS rfl (a0))) kR PickC.perm (A2f pb (op1 s r hk) kv (opC s r hk) 0 MP2 _ hP132 (gkv.mono SubC.sub) (by omega) hG.up) rfl ?_)
 rintro v142 M142 J142 ⟨k1, k2, rfl, hP142, gk1, gk2⟩
 haveI := gk1.cel
 haveI := gk2.cel
 change Prm pb (op2 s r hk) M142 at hP142
 change By _ k1 (opK s r hk) at gk1
 refine mv_ ?_
 refine A2 (A04 rfl) rfl ?_
 refine A2 (A0U rfl) rfl ?_
 refine A4 rfl (C4 (cs := [.slice none 0 0, .int .u32 0]) kR rfl fun b26 => ?_)
 refine as_ ?_
 refine A4 rfl (A8 (vs := [k2, .int .u32 ((1 : Nat) : Int)]) rfl rfl rfl kR (by rfl) (A7 gk2.one (A7 rfl I5)) UpC.upd ?_)
 refine A0 (A2j 0 4 6 10 13 19 20 25 26) ?_
 obtain ⟨bt, bm, hPT⟩ := hP142.t
 refine A1 (mv_ (mv_ (mv_ (mv_ ?_))))
 refine C7 (aS rfl (aS rfl (aS rfl (aS rfl a0)))) kR (A8d pb bt bm (op2 s r hk) hre k1 v31 vg (opK s r hk) (U3 w (R7 hk hp 0)) t g i j M142 _ hPT (by intro x hx; simp [hx]) (by omega) (gk1.mono SubC.sub) (h31.mono SubC.sub) (hg.mono SubC.sub) hbt ltt hO.g32 hi hj hti hG.up) rfl ?_
 rintro v150 M150 J150 ⟨rfl, u, rfl, h150⟩
 haveI := h150.cel
 refine mv_ ?_
 refine A2 (A04 rfl) rfl ?_
 refine A2 (A0U rfl) rfl ?_
 refine as_ (as_ (A0 (W4 0 6 10 19 20 26 27 28) (A3 (A1 (mv_ ?_)))))
 refine A2 (A6C rfl) rfl ?_
 refine A0 (W4 0 6 10 19 20 26 27 154) ?_
 refine C6 rfl ?_
 refine A5 (nx (H9 0 10 19 20 26 27) (A1 ?_))
 refine A2 (qw_ 2) rfl ?_
 refine A2 (qf_ 5 5) rfl ?_
 refine A4 rfl (L3 (vs := [k2, .int .u32 ((1 : Nat) : Int)]) (cs' := [vo, v120, y0, vk, .int .u32 ((r.sn : Nat) : Int), k2, .int .u32 ((1 : Nat) : Int), .int .u32 ((r.prev : Nat) : Int), .pointer (some ⟨cb, 0, none⟩)]) rfl rfl rfl kR (by exact (show 5 + 2 ≤ 9 by decide)) (A7 gk2.one (A7 rfl I5)) rfl UpC.upd ?_)
 refine A0 (E4 0 10 19 20 27) (A3 (A1 (mv_ (A0 (E4 0 10 19 27 158) ?_))))
 refine D0 rfl ?_
 refine I2 (M142) (_) true [0, 1, 2, 3, 4, 5, 7] [(0, 0), (1, 0), (2, 1), (3, 0), (5, 0), (4, 2), (6, 2), (7, 0), (8, 2)] kR kR PickC.perm fun hs K n0 hKm hKs hKn => ?_
 refine I6 hs rfl (qf_ 3 3) rfl ?_
 refine I6 hs rfl (qf_ 4 1) rfl ?_
 refine R5 hs rfl hKs ql_ ?_
 refine km_ hs ?_
 refine I6 hs rfl (qf_ 7 7) rfl ?_
 refine K8 _ _ rfl rfl (List.Perm.refl _) hKm fun w0 => (D4 (Mc := M142) (R := _) (aS rfl (a0)) kR PickC.perm (A0f pb (op2 s r hk) M142 _ hP142 (by omega) (by omega) hG.up) rfl ?_)
 rintro v163 M163 J163 ⟨hP163, h163⟩ hKx163
 haveI := h163.cel
 refine P7 rfl rfl rfl (C8 rfl rfl rfl kR SetC.set UpC.upd ?_)
 refine I6 hs rfl (qf_ 0 0) rfl ?_
 refine P7 rfl rfl rfl (C8 rfl rfl h163.one kR SetC.set UpC.upd ?_)
 refine N9 (D8 0 10 19 27) (A9 (mv_ ?_))
 refine A2 (qf_ 2 2) rfl ?_
 refine A2 ql_ rfl ?_
 refine A2 (qf_ 0 0) rfl ?_
 refine A2 ql_ rfl ?_
 refine A2 (qf_ 1 1) rfl ?_
 refine A2 ql_ rfl ?_
 refine A4 rfl (D4 (Mc := M163) (R := _) (aS rfl (aS rfl (aS rfl (aS rfl (a0))))) kR PickC.perm (A8l pb (I3 (op2 s r hk)) y0 v163 v120 (B1T s r.root r.own hk) (U0 (op2 s r hk)) hk M163 _ hP163 (by omega) (gy0.mono SubC.sub) (h163.mono SubC.sub) (h120.mono SubC.sub) hG.up) rfl ?_)
 rintro v174 M174 J174 ⟨c0, c1, rfl, hP174, gc0, gc1⟩
 haveI := gc0.cel
 haveI := gc1.cel
 obtain ⟨u5, rows5, BS, rfl, hs5, hw5⟩ := hSt2.ex
 have hrd5 := hs5.rd (R := BS) fun _ h => h
 refine mv_ ?_
 refine A2 (A04 rfl) rfl ?_
 refine A2 (A0U rfl) rfl ?_
 refine A2 (qf_ 2 2) rfl ?_
 refine A4 rfl (C8 rfl rfl gc0.one kR SetC.set UpC.upd ?_)
 refine A2 (qf_ 3 3) rfl ?_
 refine A4 rfl (L3 (vs := [c1, .int .u32 ((0 : Nat) : Int)]) (cs' := [v163, v120, c0, c1, .int .u32 ((0 : Nat) : Int), k2, .int .u32 ((1 : Nat) : Int), .int .u32 ((r.sn : Nat) : Int), .pointer (some ⟨cb, 0, none⟩)]) rfl rfl rfl kR (by exact (show 3 + 2 ≤ 9 by decide)) (A7 gc1.one (A7 rfl I5)) rfl UpC.upd ?_)
 refine A0 (D3 10 19 27) ?_
 refine A5B (B := (cb, blk [u5] 153) :: BS) PickC.perm ?_
 refine A1 ?_
 refine A2 (qw_ 9) rfl ?_
 refine mv_ ?_
 refine A4 rfl (A8 (vs := [v163, v120, c0, c1, .int .u32 ((0 : Nat) : Int), k2, .int .u32 ((1 : Nat) : Int), .int .u32 ((r.sn : Nat) : Int), .pointer (some ⟨cb, 0, none⟩)]) rfl rfl rfl kR (by rfl) (A7 h163.one (A7 h120.one (A7 gc0.one (A7 gc1.one (A7 rfl (A7 gk2.one al3)))))) UpC.upd ?_)
 refine as_ (as_ (A0 (D3 10 11 12) (B4 ?_)))
 exact ⟨_, M174, [], B3V (n := 9) rfl rfl rfl rfl kR At.mem (by rfl), Fit.none (Fit.last PickC.perm), _, u, rfl, hP174, ⟨v163, v120, c0, c1, k2, _, rfl, ⟨h163.mono SubC.sub, h120.mono SubC.sub, gc0.mono SubC.sub, gc1.mono SubC.sub, gk2.mono SubC.sub, ⟨cb, u5, rows5, rfl, by simp, hrd5.mono SubC.sub, hw5.mono skT SubC.sub⟩, (show 0 < 4294967296 by decide), (show 1 < 4294967296 by decide), hr.sn, hr.sks⟩⟩, h150.mono SubC.sub⟩

end Go.Proofs.YthbhpfefdnffaaaGreatDoor
namespace Go.Px
theorem St.frzInto {C : Cx} {w : World} : ∀ (M J : Mem), St C M J w → ∃ J2, (∀ x, x ∈ M ++ J → x ∈ J2) ∧ St C [] J2 w
  | [], J, h => ⟨J, fun x hx => hx, h⟩
  | y :: M, J, h => by
    obtain ⟨J2, h1, h2⟩ := St.frzInto M (y :: J) h.freeze
    refine ⟨J2, fun x hx => h1 x ?_, h2⟩
    simp only [List.cons_append, List.mem_cons, List.mem_append] at hx ⊢
    rcases hx with hx | hx | hx
    · exact .inr (.inl hx)
    · exact .inl hx
    · exact .inr (.inr hx)
theorem OpL.frzAll {C : Cx} {o : Oper} {l : Env} {M J : Mem} {K : Env → Mem → Mem → Prop} (h : OpL C o l M J fun l' M' J' => ∀ J2, (∀ x, x ∈ M' ++ J' → x ∈ J2) → K l' [] J2) : OpL C o l M J K := fun Qp a w ha hw =>
  Oper.wp_mono (fun a' w' ⟨l', M', J', h1, h2, h3⟩ => by
    obtain ⟨J2, g1, g2⟩ := St.frzInto M' J' h2
    exact ⟨l', [], J2, h1, g2, h3 J2 g1⟩) (h Qp a w ha hw)
end Go.Px

namespace Go.Proofs.YthbhpfefdnffaaaGreatDoor
open Go.Px
def K4 : List Nat := [119, 105, 116, 104]
def rg0 (m : Nat) : Ps := ⟨m % 2 == 0, [114, 97, 116, 99, 104, 101, 116], 0, []⟩
def Par (R : Mem) (tb pb : Nat) (s : Ps) (r0 r1 : Rsd) (M : Mem) : Prop := ∃ ao at_ ar ak al aq bo bt br bk bl bq MP, M = (tb, blk (.pointer (some ⟨pb, 0, none⟩) :: (rsC ao at_ ar ak al aq r0 ++ rsC bo bt br bk bl bq r1)) 83) :: MP ∧ RsR R r0 ao at_ ar ak al aq ∧ RsR R r1 bo bt br bk bl bq ∧ Prm pb s MP
noncomputable def rK (m : Nat) : List Nat := U0 (rg0 m)
noncomputable def rO (m : Nat) : List Nat := U0 (I3 (rg0 m))
noncomputable def rS (m : Nat) : Ps := Q9 (I3 (I3 (rg0 m))) (rO m)
noncomputable def rP (m : Nat) : List Nat := L8 (I3 (I3 (rg0 m))) (rO m)
theorem B1Y (m : Nat) : ((m % 2 : Nat) : Int) = md (m % 2 == 0) := by
  rcases Nat.mod_two_eq_zero_or_one m with h | h <;> rw [h] <;> rfl
theorem A9Z (m : Nat) (A : Mem) (hm : m < 256) (hG : Glb A) : FnX Tryz.prog 35 [.int .u8 ((m : Nat) : Int)] [] A fun q M J => ∃ tb pb, q = .pointer (some ⟨tb, 0, none⟩) ∧ Par (J ++ A) tb pb (B5k (rS m) (rK m) (rP m)) (B4g (rS m) (rK m) (rP m)) (B4h (rK m) (rO m)) M := by
 refine FnX.enterZ (N := 43) Tryz.func35 rfl rfl rfl fun w_ => ?_
 refine B0 (D2 0) (A1 (as_ (A0 (D2 0) (A1 (mv_ ?_)))))
 refine A2 (A1l (a := m) (b := 2) rfl rfl rfl rfl (by decide)) rfl ?_
 rw [B1Y m]
 refine A4 rfl (C0 (e := 5) (sz := 1) (z := [zu8, zu8, zu8, zu8, zu8, zu8, zu8]) kR (eS rfl (eS rfl (eS rfl (eS rfl (eS rfl (eS rfl (eS rfl e0))))))) (bdS 0 1 rfl (by rfl) (bdS 1 1 rfl (by rfl) (bdS 2 1 rfl (by rfl) (bdS 3 1 rfl (by rfl) (bdS 4 1 rfl (by rfl) (bdS 5 1 rfl (by rfl) (bdS 6 1 rfl (by rfl) bd0))))))) rfl fun b11 => ?_)
 refine A4 rfl (A2z rfl kR UpC.upd rfl ?_)
 refine A7t (B := [_]) (PickC.sing).perm ?_
 refine C7 (aS rfl (aS rfl a0)) kR (A7x (m % 2 == 0) _ [114, 97, 116, 99, 104, 101, 116] _ ⟨Rd.whole (n := 7) (At.mem) (by rfl), by decide, by decide⟩) rfl ?_
 rintro v13 MP J13 ⟨pb, rfl, hP⟩
 change Prm pb (rg0 m) MP at hP
 have f0 : (rg0 m).ts.length = 0 := rfl
 have f1 : (rg0 m).n = 0 := rfl
 have f2 := A3t (rg0 m)
 have f3 := A3t (I3 (rg0 m))
 have f4 := A8k (I3 (I3 (rg0 m))) (rO m)
 have f5 : (rS m).n = _ := B5j (I3 (I3 (rg0 m))) (rO m)
 change (rS m).ts.length ≤ _ at f4
 refine mv_ ?_
 refine A2 (A04 rfl) rfl ?_
 refine A2 (A0U rfl) rfl ?_
 refine as_ (as_ (A0 (C9 3 4) (A3 (A1 (mv_ ?_)))))
 refine A2 (E1 false rfl rfl (neF rfl)) rfl ?_
 refine A0 (C9 3 17) ?_
 refine C6 rfl ?_
 refine A5 (nx (D2 3) (A1 (mv_ ?_)))
 refine A4 rfl (D4 (Mc := MP) (R := _) (aS rfl (a0)) kR PickC.perm (A0f pb (rg0 m) MP _ hP (by omega) (by omega) hG.up) rfl ?_)
 rintro v19 M19 J19 ⟨hP19, h19⟩
 haveI := h19.cel
 change By _ v19 (rK m) at h19
 refine as_ (A0 (C9 3 5) (A1 (mv_ ?_)))
 refine A4 rfl (D4 (Mc := M19) (R := _) (aS rfl (a0)) kR PickC.perm (A0f pb (I3 (rg0 m)) M19 _ hP19 (by omega) (by omega) hG.up) rfl ?_)
 rintro v21 M21 J21 ⟨hP21, h21⟩
 haveI := h21.cel
 change By _ v21 (rO m) at h21
 refine as_ (A0 (D3 3 5 6) (A1 (mv_ ?_)))
 refine A2 (E7 (place := fun x => #[(0, 1), (1, 18)][x]?) (z := [.pointer none, .slice none 0 0, .slice none 0 0, .slice none 0 0, .slice none 0 0, I0, .slice none 0 0, I0, I0, .pointer none, .slice none 0 0, .slice none 0 0, .slice none 0 0, .slice none 0 0, I0, .slice none 0 0, I0, I0, .pointer none]) (fun _ => by kernel_rfl) (eS rfl e0) (bdS 0 1 rfl (by rfl) bd0)) rfl ?_
 refine A4 rfl (bx_ fun b24 => ?_)
 refine as_ (A0 (D8 3 5 6 7) ?_)
 refine D1 [0, 1, 2, 3, 4, 7, 8, 9] [(0, 0), (1, 0), (2, 0), (3, 0), (4, 0), (7, 0), (8, 0), (5, 2), (6, 2), (9, 0), (10, 2)] kR kR fun hs => ?_
 refine fm_ hs ?_
 refine fm_ hs ?_
 refine fm_ hs ?_
 refine fm_ hs ?_
 refine fm_ hs ?_
 refine C3 hs rfl (G1 rfl) rfl ?_
 refine C3 hs rfl (qf_ 1 1) rfl ?_
 refine E6 rfl rfl rfl (D4 (Mc := M21) (R := _) (aS rfl (aS rfl (a0))) kR PickC.perm (A5O pb (I3 (I3 (rg0 m))) v21 (rO m) M21 _ hP21 (by omega) (h21.mono SubC.sub) hG.up) rfl ?_)
 rintro v30 M30 J30 ⟨hP30, h30⟩
 haveI := h30.cel
 change By _ v30 (rP m) at h30
 change Prm pb (rS m) M30 at hP30
 refine E6 rfl rfl rfl (D4 (Mc := M30) (R := _) (aS rfl (aS rfl (aS rfl (a0)))) kR PickC.perm (FnX.amb SubC.sub (B1U pb (rS m) v19 v30 (rK m) (rP m) M30 (J30 ++ (J21 ++ (J19 ++ A))) hP30 (by omega) (by omega) (h19.mono SubC.sub) (h30.mono SubC.sub) (hG.sub SubC.sub))) rfl ?_)
 rintro v31 M31 J31 ⟨hP31, ao, at_, ar, ak, al, aq, rfl, hr0⟩
 haveI := hr0.own.cel
 haveI := hr0.their.cel
 haveI := hr0.root.cel
 haveI := hr0.sk.cel
 haveI := hr0.tk.cel
 obtain ⟨r0, hr0e⟩ : ∃ z, B4g (rS m) (rK m) (rP m) = z := ⟨_, rfl⟩
 rw [hr0e] at hr0 ⊢
 unfold rsC
 refine C3 hs rfl (qi_ 1 80 2 9 0) rfl ?_
 refine E6 rfl rfl rfl (L3 (vs := [ao, at_, ar, ak, .int .u32 ((r0.sn : Nat) : Int), al, .int .u32 ((r0.tn : Nat) : Int), .int .u32 ((r0.prev : Nat) : Int), aq]) (cs' := [.pointer (some ⟨pb, 0, none⟩), ao, at_, ar, ak, .int .u32 ((r0.sn : Nat) : Int), al, .int .u32 ((r0.tn : Nat) : Int), .int .u32 ((r0.prev : Nat) : Int), aq, .slice none 0 0, .slice none 0 0, .slice none 0 0, .slice none 0 0, .int .u32 0, .slice none 0 0, .int .u32 0, .int .u32 0, .pointer none]) rfl rfl rfl kR (by exact (show 1 + 9 ≤ 19 by decide)) (A7 hr0.own.one (A7 hr0.their.one (A7 hr0.root.one (A7 hr0.sk.one (A7 rfl (A7 hr0.tk.one (A7 rfl (A7 rfl (A7 hr0.st.one I5))))))))) rfl UpC.upd ?_)
 refine F5 (D3 5 6 7) ?_
 refine D1 (.range 7) [(0, 0), (1, 0), (2, 0), (4, 0), (5, 0), (3, 2), (6, 0), (7, 2)] kR kR fun hs => ?_
 refine fm_ hs ?_
 refine fm_ hs ?_
 refine fm_ hs ?_
 refine C3 hs rfl (G1 rfl) rfl ?_
 refine C3 hs rfl (qf_ 1 1) rfl ?_
 refine N4 rfl (aS rfl (aS rfl a0)) kR (FnX.amb SubC.sub (B1V v19 v21 (rK m) (rO m) (J30 ++ (J21 ++ (J19 ++ A))) (h19.mono SubC.sub) (h21.mono SubC.sub))) rfl ?_
 rintro v38 M38 J38 ⟨rfl, bo, bt, br, bk, bl, bq, rfl, hr1⟩
 haveI := hr1.own.cel
 haveI := hr1.their.cel
 haveI := hr1.root.cel
 haveI := hr1.sk.cel
 haveI := hr1.tk.cel
 obtain ⟨r1, hr1e⟩ : ∃ z, (B4h (rK m) (rO m)) = z := ⟨_, rfl⟩
 rw [hr1e] at hr1 ⊢
 unfold rsC
 refine C3 hs rfl (qi_ 10 80 2 9 1) rfl ?_
 refine E6 rfl rfl rfl (L3 (vs := [bo, bt, br, bk, .int .u32 ((r1.sn : Nat) : Int), bl, .int .u32 ((r1.tn : Nat) : Int), .int .u32 ((r1.prev : Nat) : Int), bq]) (cs' := [.pointer (some ⟨pb, 0, none⟩), ao, at_, ar, ak, .int .u32 ((r0.sn : Nat) : Int), al, .int .u32 ((r0.tn : Nat) : Int), .int .u32 ((r0.prev : Nat) : Int), aq, bo, bt, br, bk, .int .u32 ((r1.sn : Nat) : Int), bl, .int .u32 ((r1.tn : Nat) : Int), .int .u32 ((r1.prev : Nat) : Int), bq]) rfl rfl rfl kR (by exact (show 10 + 9 ≤ 19 by decide)) (A7 hr1.own.one (A7 hr1.their.one (A7 hr1.root.one (A7 hr1.sk.one (A7 rfl (A7 hr1.tk.one (A7 rfl (A7 rfl (A7 hr1.st.one I5))))))))) rfl UpC.upd ?_)
 refine F5 (D2 7) (A1 (mv_ (as_ (A0 (D2 2) (B4 ?_)))))
 exact ⟨_, (b24, blk [.pointer (some ⟨pb, 0, none⟩), ao, at_, ar, ak, .int .u32 ((r0.sn : Nat) : Int), al, .int .u32 ((r0.tn : Nat) : Int), .int .u32 ((r0.prev : Nat) : Int), aq, bo, bt, br, bk, .int .u32 ((r1.sn : Nat) : Int), bl, .int .u32 ((r1.tn : Nat) : Int), .int .u32 ((r1.prev : Nat) : Int), bq] 83) :: M31, [], I9 rfl rfl, Fit.none (Fit.pick (B := [_]) PickC.perm (Fit.last PickC.perm)), b24, pb, rfl, ao, at_, ar, ak, al, aq, bo, bt, br, bk, bl, bq, M31, rfl, (by first | exact hr0.mono SubC.sub | exact hr0e ▸ hr0.mono SubC.sub), (by first | exact hr1.mono SubC.sub | exact hr1e ▸ hr1.mono SubC.sub), hP31⟩

end Go.Proofs.YthbhpfefdnffaaaGreatDoor
