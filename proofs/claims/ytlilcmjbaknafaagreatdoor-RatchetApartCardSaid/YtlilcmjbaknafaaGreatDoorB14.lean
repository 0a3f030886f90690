/- Part 14 of the texts of this claim, one behind the other. -/
import Derived.Test.YtlilcmjbaknafaaGreatDoorB13
set_option linter.unusedVariables false
set_option linter.unusedSimpArgs false
set_option maxRecDepth 100000
namespace Go.Px
section
variable {C : Cx} {l : Env} {M J : Mem} {K : Env → Mem → Mem → Prop} {ty t : TypeId} {pos : String} {af : Array Edge} {g : Option (Nat × Bool)} {x y : Operand} {v : Value} {xs : List Value} {n j sz : Nat} {B M0 : Mem}
end
def kpt {β : Type} (p : Nat → Bool) (rows : List β) : Nat → List β
  | 0 => []
  | j + 1 => kpt p rows j ++ (if p j then [] else rows[j]?.toList)
structure Dfs (sz : Nat) (p : Nat → Bool) (rows cur : List (List Value)) (j i : Nat) : Prop where
  jn : j ≤ rows.length
  ki : i = (kpt p rows j).length
  ij : i < j
  cl : cur.length = rows.length
  ct : cur.take i = kpt p rows j
  cd : cur.drop j = rows.drop j
  cs : ∀ r ∈ cur, r.length = sz
  cr : ∀ r ∈ cur, r ∈ rows
section
variable {sz : Nat} {p : Nat → Bool} {rows cur : List (List Value)} {j i i0 : Nat} {r : List Value}
theorem Dfs.skip (h : Dfs sz p rows cur j i) (hjl : j < rows.length) (hp : p j = true) : Dfs sz p rows cur (j + 1) i := by
  obtain ⟨h1, h2, h3, h4, h5, h6, h7, h8⟩ := h
  have hk : kpt p rows (j + 1) = kpt p rows j := by rw [kpt, hp]; simp
  exact ⟨hjl, by rw [hk]; exact h2, by omega, h4, by rw [hk]; exact h5, by rw [← List.drop_drop, ← List.drop_drop, h6], h7, h8⟩
end
end Go.Px

namespace Go.Proofs.YtlilcmjbaknafaaGreatDoor
open Go.Px
theorem A0z (s : Ps) : (E6 s).ts.length ≤ s.ts.length + 1 ∧ (E6 s).n = s.n + 1 := by
  unfold E6
  split
  · exact ⟨by simp, rfl⟩
  · refine ⟨?_, rfl⟩
    show (add s.ts _).length ≤ _
    unfold add
    split <;> simp
theorem A2k (s : Ps) (w : List Nat) : (K5 s w).ts.length ≤ s.ts.length + 2 := by
  unfold K5
  split
  · omega
  · have h1 := U1 (ts := s.ts) (ws := w)
    have h2 := A1A (ts := rdT s.ts w) (t := B0a ((rdI s.ts w : Nat) : Int))
    show (add (rdT s.ts w) _).length ≤ _
    omega
theorem B6h (s : Ps) (w : List Nat) : (K5 s w).n = s.n := by unfold K5; split <;> rfl
theorem A3H (s : Ps) (w : List Nat) : (I0 s w).length = 32 := by
  unfold I0
  split
  · exact A2g _ _
  · exact A0t _ (by decide)
def A5n : List Nat := [114, 111, 111, 116]
noncomputable def A3T (s : Ps) (root sec pub : List Nat) : Ps := A31 (W7 s sec pub) root [A0K s sec pub] A5n 2
noncomputable def B9A (s : Ps) (root sec pub : List Nat) : List (List Nat) := A51 (W7 s sec pub) root [A0K s sec pub] A5n 2
noncomputable def B1R (s : Ps) (root sec pub : List Nat) : List Nat := (B9A s root sec pub).getD 0 []
noncomputable def A8X (s : Ps) (root sec pub : List Nat) : List Nat := (B9A s root sec pub).getD 1 []
theorem A1b (s : Ps) (root sec pub : List Nat) : (A3T s root sec pub).ts.length ≤ s.ts.length + 7 ∧ (A3T s root sec pub).n = s.n := by
  have h1 := A3G s sec pub
  have h2 := A2O (W7 s sec pub) root [A0K s sec pub] A5n 2
  have h3 := B6f s sec pub
  have h4 := (A1Z (W7 s sec pub) root [A0K s sec pub] A5n 2).2.1
  have e : [A0K s sec pub].length = 1 := rfl
  unfold A3T
  omega
structure Rsd where
  own : List Nat
  their : List Nat
  root : List Nat
  sk : List Nat
  sn : Nat
  tk : List Nat
  tn : Nat
  prev : Nat
  sks : List Skp
def StF (R : Mem) (v : Value) (sks : List Skp) : Prop := ∃ sb u rows, v = .pointer (some ⟨sb, 0, none⟩) ∧ (sb, blk [u] 80) ∈ R ∧ Rd R 3 u sks.length rows.flatten ∧ RwL skR R rows sks
theorem StF.mono {R R' : Mem} {v : Value} {sks : List Skp} (h : StF R v sks) (hR : ∀ x, x ∈ R → x ∈ R') : StF R' v sks := by
  obtain ⟨sb, u, rows, h1, h2, h3, h4⟩ := h
  exact ⟨sb, u, rows, h1, hR _ h2, h3.mono hR, h4.mono skT hR⟩
def rsC (vo vt vr vk vl vs : Value) (r : Rsd) : List Value := [vo, vt, vr, vk, .int .u32 ((r.sn : Nat) : Int), vl, .int .u32 ((r.tn : Nat) : Int), .int .u32 ((r.prev : Nat) : Int), vs]
structure RsR (R : Mem) (r : Rsd) (vo vt vr vk vl vs : Value) : Prop where
  own : By R vo r.own
  their : By R vt r.their
  root : By R vr r.root
  sk : By R vk r.sk
  tk : By R vl r.tk
  st : StF R vs r.sks
  sn : r.sn < 4294967296
  tn : r.tn < 4294967296
  prev : r.prev < 4294967296
  sks : r.sks.length ≤ 1000
theorem RsR.mono {R R' : Mem} {r : Rsd} {vo vt vr vk vl vs : Value} (h : RsR R r vo vt vr vk vl vs) (hR : ∀ x, x ∈ R → x ∈ R') : RsR R' r vo vt vr vk vl vs :=
  ⟨h.own.mono hR, h.their.mono hR, h.root.mono hR, h.sk.mono hR, h.tk.mono hR, h.st.mono hR, h.sn, h.tn, h.prev, h.sks⟩
theorem StF.one {R : Mem} {v : Value} {sks : List Skp} (h : StF R v sks) : v.oneCell' = true := by obtain ⟨sb, u, rows, rfl, _⟩ := h; rfl
theorem StF.new {b : Nat} {R : Mem} (h : (b, blk [.slice none 0 0] 80) ∈ R) : StF R (.pointer (some ⟨b, 0, none⟩)) [] := ⟨b, _, [], rfl, h, Rd.nil, RwL.nil⟩
def RsV (R : Mem) (v : Value) (r : Rsd) : Prop := ∃ vo vt vr vk vl vs, v = .agg (rsC vo vt vr vk vl vs r).toArray ∧ RsR R r vo vt vr vk vl vs
theorem RsV.mono {R R' : Mem} {v : Value} {r : Rsd} (h : RsV R v r) (hR : ∀ x, x ∈ R → x ∈ R') : RsV R' v r := by
  obtain ⟨vo, vt, vr, vk, vl, vs, e, g⟩ := h
  exact ⟨vo, vt, vr, vk, vl, vs, e, g.mono hR⟩
noncomputable def B1S (s : Ps) (sec their : List Nat) : Rsd := ⟨I5 s, their, B1R (E6 s) sec (I5 s) their, A8X (E6 s) sec (I5 s) their, 0, [], 0, 0, []⟩
noncomputable def B1T (s : Ps) (sec their : List Nat) : Ps := A3T (E6 s) sec (I5 s) their
def A1G (sec own : List Nat) : Rsd := ⟨own, [], sec, [], 0, [], 0, 0, []⟩
theorem A0A (v : Value) (w : List Nat) (A : Mem) (h : By A v w) : FnX Tryz.prog 29 [v] [] A fun r M J => M = [] ∧ By J r w := by
 haveI := h.cel
 have hwl := h.len
 refine FnX.enterZ (N := 8) Tryz.func29 rfl rfl rfl fun w_ => ?_
 refine B0 (D7 0) (A1 (as_ (A0 (D7 0) (A3 (A1 (mv_ ?_))))))
 refine A2 (A1X (e := 5) rfl kR (by first | assumption | exact Sl.rd (by assumption) (fun _ h => h) | exact By.rd (by assumption))) rfl ?_
 refine A0 (D3 0 4) ?_
 refine C0 rfl (fun hc => ?_) (fun hc => ?_)
 ·
  have h0 := h.rd.isNil hc
  obtain rfl : w = [] := List.eq_nil_of_length_eq_zero h0
  refine A1 (as_ (A0 (D7 2) (B4 (tr ?_))))
  exact ⟨_, [], [], I7 rfl rfl, Fit.sub (List.nil_sublist _), rfl, By.nil⟩
 ·
  refine A6 (nx (D7 0) (A1 ?_))
  refine A4 rfl (C3 (e := 5) (sz := 1) (z := []) kR e0 bd0 rfl fun b5 => ?_)
  refine mv_ ?_
  refine A4 rfl (H5 (e := 5) (sz := 1) (by_ := 1) rfl rfl kR rfl (Sl.fresh (n := 0) (cs := []) (e := 5) rfl (by decide)) (h.rd.mono SubC.sub) E7 PickC.perm (by unfold maxLen; omega) (by omega) rfl fun v7 B7 hs7 => ?_)
  refine as_ (A0 (D7 2) (B4 ?_))
  exact ⟨_, [], B7, I7 rfl rfl, Fit.pick PickC.perm (Fit.sub (List.nil_sublist _)), rfl, ⟨A0H (hs7.rd fun x hx => by simp [hx]) (by omega) (by simp), h.lt, h.len⟩⟩
theorem B02 (pb : Nat) (s : Ps) (v1 v2 v3 : Value) (root sec pub : List Nat) (MP A : Mem) (hP : Prm pb s MP) (hn : s.ts.length + 100 ≤ 1040000) (h1 : By A v1 root) (h2 : By A v2 sec) (h3 : By A v3 pub) (hG : Glb A) : FnX Tryz.prog 52 [.pointer (some ⟨pb, 0, none⟩), v1, v2, v3] MP A fun q M J => ∃ u0 u1, q = .tuple #[u0, .agg #[u1, .int .u32 ((0 : Nat) : Int)]] ∧ Prm pb (A3T s root sec pub) M ∧ By J u0 (B1R s root sec pub) ∧ By J u1 (A8X s root sec pub) := by
 haveI := h1.cel
 haveI := h2.cel
 haveI := h3.cel
 have hal := A3G s sec pub
 refine FnX.enterZ (N := 30) Tryz.func52 rfl rfl rfl fun w_ => ?_
 refine B0 (D6 0 1 2 3) (A1 (as_ ?_))
 refine A4 rfl (C4 (cs := [.slice none 0 0, .int .u32 0]) kR rfl fun b9 => ?_)
 refine A0 (E5 0 1 2 3 9) (A1 (mv_ (mv_ (mv_ (mv_ (mv_ ?_))))))
 refine A4 rfl (E0 (Mc := MP) (R := _) (aS rfl (aS rfl (aS rfl (a0)))) kR PickC.perm (B58 pb s v2 v3 sec pub MP _ hP (by omega) (h2.mono SubC.sub) (h3.mono SubC.sub) hG.up) rfl ?_)
 rintro v16 M16 J16 ⟨hP16, h16⟩
 haveI := h16.cel
 refine A4 rfl (C3 (e := 26) (sz := 1) (z := [.slice none 0 0]) kR (eS rfl e0) (bdS 0 1 rfl (by rfl) bd0) rfl fun b17 => ?_)
 refine A4 rfl (E0 (Mc := M16) (R := _) (aS rfl (aS rfl (aS rfl (aS rfl (aS rfl (a0)))))) kR PickC.perm (A3m pb (W7 s sec pub) v1 (.slice (some ⟨b17, 0, none⟩) 1 1) root A5n [A0K s sec pub] 2 M16 _ hP16 (h1.mono SubC.sub) ⟨[v16], Rd.whole (n := 1) At.mem (by rfl), Lst.cons (h16.mono SubC.sub) Lst.nil⟩ (show 1 ≤ 1000 by decide) ⟨by decide⟩ (by decide) (by decide) (by decide) (by omega) hG.up) rfl ?_)
 rintro v18 M18 J18 ⟨hP18, hL18⟩
 have hlen := A7Q (W7 s sec pub) root [A0K s sec pub] A5n 2
 obtain ⟨us, u0, u1, hr, hu0, hu1, hb0, hb1⟩ := B0W hL18 hlen
 haveI := hr.cel
 haveI := hb0.cel
 haveI := hb1.cel
 refine as_ (A0 (D3 9 10) (A3 (A1 (mv_ ?_))))
 refine A2 (G3 (sz := 1) rfl kR hr) rfl ?_
 refine A2 (F0 false rfl rfl (neF rfl)) rfl ?_
 refine A0 (D4 9 10 21) ?_
 refine D0 rfl ?_
 refine A6 (nx (D3 9 10) ?_)
 refine C7 (.range 8) (zp 0 [0, 0, 1, 0, 0, 1, 0, 0, 2]) kR kR fun hs => ?_
 refine fm_ hs ?_
 refine C2 hs rfl (I1 (sz := 1) (a := 0) rfl rfl kR rfl hr (by decide)) rfl ?_
 refine G4 hs rfl (A0Q (u := u0) (hr.mono SubC.sub) rfl kR hu0) rfl ?_
 refine fm_ hs ?_
 refine C2 hs rfl (I1 (sz := 1) (a := 1) rfl rfl kR rfl hr (by decide)) rfl ?_
 refine G4 hs rfl (A0Q (u := u1) (hr.mono SubC.sub) rfl kR hu1) rfl ?_
 refine C2 hs rfl (G1 (place := fun x => #[(0, 1), (1, 1)][x]?) (z := [.slice none 0 0, .int .u32 0]) (fun _ => by kernel_rfl) (eS rfl e0) (bdS 0 1 rfl (by rfl) bd0)) rfl ?_
 refine fa_ hs ?_
 refine F5 rfl rfl rfl (A9 rfl rfl Cel.cel kR (by rfl) (by intro c hc; simp only [List.mem_cons, List.not_mem_nil, or_false] at hc; rcases hc with rfl | rfl; exact hb1.one; rfl) UpC.upd ?_)
 refine E4 (D3 8 9) (B4 ?_)
 exact ⟨_, M18, [], B4s (n := 2) rfl rfl rfl kR At.mem (by rfl), Fit.none (Fit.last PickC.perm), u0, u1, rfl, hP18, hb0.mono (fun x hx => by simp [hx]), hb1.mono (fun x hx => by simp [hx])⟩

abbrev Rst := List Nat × Bool
structure Rdr (rb : Nat) (st : Rst) (R M : Mem) : Prop where
  ex : ∃ (v : Value), M = [(rb, blk [v, .bool st.2] 97)] ∧ By R v st.1
def rnN (st : Rst) (k : Nat) : Nat := if st.2 || decide (st.1.length < k) then 0 else bev (st.1.take k)
def rnS (st : Rst) (k : Nat) : Rst := if st.2 || decide (st.1.length < k) then (st.1, true) else (st.1.drop k, false)
def rbN (st : Rst) (most : Nat) : List Nat :=
  if (rnS st 4).2 || decide (rnN st 4 > most) || decide (rnN st 4 > (rnS st 4).1.length) then [] else (rnS st 4).1.take (rnN st 4)
def rbS (st : Rst) (most : Nat) : Rst :=
  if (rnS st 4).2 || decide (rnN st 4 > most) || decide (rnN st 4 > (rnS st 4).1.length) then ((rnS st 4).1, true) else ((rnS st 4).1.drop (rnN st 4), false)
def rEnd (st : Rst) : Bool := !st.2 && decide (st.1.length = 0)
theorem Rdr.rd {rb : Nat} {st : Rst} {R M A : Mem} (h : Rdr rb st R M) (hs : ∀ x, x ∈ M → x ∈ A) : ∃ v, (rb, blk [v, .bool st.2] 97) ∈ A ∧ By R v st.1 := by
  obtain ⟨v, rfl, h2⟩ := h.ex
  exact ⟨v, hs _ (by simp), h2⟩

theorem A6Y {n : Nat} (h : n < 18446744073709551616) : IntKind.u64.wrap (n : Int) = (n : Int) := B2c (by omega) (by omega)
def u32N (x : Int) : Nat := (x % 4294967296).toNat
def u64N (x : Int) : Nat := (x % 18446744073709551616).toNat
def ctN (st : Rst) (most : Nat) : Nat := if rnN st 2 > most then 0 else rnN st 2
def ctS (st : Rst) (most : Nat) : Rst := if rnN st 2 > most then ((rnS st 2).1, true) else rnS st 2
def A5o (k : List Nat) (p n : Nat) : List Nat := ((beN k.length 4 ++ k) ++ beN p 4) ++ beN n 4
theorem A14 (k : List Nat) (p n : Nat) : (A5o k p n).length = k.length + 12 := by simp [A5o, A03]; omega
def A4y (w h : List Nat) : List Nat := ((beN w.length 4 ++ w) ++ beN h.length 4) ++ h
theorem A2l (w h : List Nat) : (A4y w h).length = w.length + h.length + 8 := by simp [A4y, A03]; omega
theorem B6i (pb : Nat) (s : Ps) (v1 v2 : Value) (sec their : List Nat) (MP A : Mem) (hP : Prm pb s MP) (hn : s.ts.length + 200 ≤ 1040000) (hk : s.n < 1000000000) (h1 : By A v1 sec) (h2 : By A v2 their) (hG : Glb A) : FnX Tryz.prog 26 [.pointer (some ⟨pb, 0, none⟩), v1, v2] MP A fun q M J => Prm pb (B1T s sec their) M ∧ RsV (J ++ A) q (B1S s sec their) := by
 haveI := h1.cel
 haveI := h2.cel
 have hfl := A0z s
 refine FnX.enterZ (N := 27) Tryz.func26 rfl rfl rfl fun w_ => ?_
 refine B0 (D4 0 1 2) (A1 ?_)
 refine A4 rfl (C4 (cs := [.slice none 0 0, .slice none 0 0, .slice none 0 0, .slice none 0 0, F7, .slice none 0 0, F7, F7, .pointer none]) kR rfl fun b6 => ?_)
 refine A0 (D6 0 1 2 6) (A1 (mv_ ?_))
 refine A4 rfl (E0 (Mc := MP) (R := _) (aS rfl (a0)) kR PickC.perm (A07 pb s MP _ hP (by omega) (by omega) hG.up) rfl ?_)
 rintro v9 M9 J9 ⟨hP9, h9⟩
 haveI := h9.cel
 refine mv_ ?_
 refine C6 (aS rfl a0) kR (A0A v2 their _ (h2.mono SubC.sub)) rfl ?_
 rintro v11 M11 J11 ⟨rfl, h11⟩
 haveI := h11.cel
 refine A2 (G1 (place := fun x => #[(0, 1)][x]?) (z := [.slice none 0 0]) (fun _ => by kernel_rfl) e0 bd0) rfl ?_
 refine A4 rfl (bx_ fun b13 => ?_)
 refine A2 (G1 (place := fun x => #[(0, 1), (1, 1), (2, 1), (3, 2), (5, 2), (7, 1), (8, 1)][x]?) (z := [.slice none 0 0, .slice none 0 0, .slice none 0 0, .slice none 0 0, F7, .slice none 0 0, F7, F7, .pointer none]) (fun _ => by kernel_rfl) (eS rfl (eS rfl (eS rfl e0))) (bdS 0 1 rfl (by rfl) (bdS 1 1 rfl (by rfl) (bdS 8 1 rfl (by rfl) bd0)))) rfl ?_
 refine A4 rfl (C4 (cs := [.slice none 0 0, .slice none 0 0, .slice none 0 0, .slice none 0 0, F7, .slice none 0 0, F7, F7, .pointer none]) kR rfl fun b7 => ?_)
 refine A4 rfl (A9 (vs := [v9, v11, .slice none 0 0, .slice none 0 0, .int .u32 0, .slice none 0 0, .int .u32 0, .int .u32 0, .pointer (some ⟨b13, 0, none⟩)]) rfl rfl rfl kR (by rfl) (A7 h9.one (A7 h11.one (A7 rfl al6))) UpC.upd ?_)
 refine A0 (E5 0 1 2 6 7) (A1 (mv_ (mv_ ?_)))
 refine A2 (qf_ 0 0) rfl ?_
 refine A2 ql_ rfl ?_
 refine mv_ ?_
 refine A4 rfl (E0 (Mc := M9) (R := _) (aS rfl (aS rfl (aS rfl (aS rfl (a0))))) kR PickC.perm (B02 pb (E6 s) v1 v9 v2 sec (I5 s) their M9 _ hP9 (by omega) (h1.mono SubC.sub) (h9.mono SubC.sub) (h2.mono SubC.sub) hG.up) rfl ?_)
 rintro v21 M21 J21 ⟨u0, u1, rfl, hP21, g0, g1⟩
 haveI := g0.cel
 haveI := g1.cel
 refine mv_ ?_
 refine A2 (A1l rfl) rfl ?_
 refine A2 (A1g rfl) rfl ?_
 refine A2 (qf_ 2 2) rfl ?_
 refine A4 rfl (D5 rfl rfl g0.one kR SetC.set UpC.upd ?_)
 refine A2 (qf_ 3 3) rfl ?_
 refine A4 rfl (N7 (vs := [u1, .int .u32 0]) (cs' := [v9, v11, u0, u1, .int .u32 0, .slice none 0 0, .int .u32 0, .int .u32 0, .pointer (some ⟨b13, 0, none⟩)]) rfl rfl rfl kR (by exact (show 3 + 2 ≤ 9 by decide)) (A7 g1.one (A7 rfl K9)) rfl UpC.upd ?_)
 refine A0 (D3 6 7) ?_
 refine A0F (B := [(b13, blk [.slice none 0 0] 80)]) PickC.perm ?_
 refine A1 ?_
 refine A2 (qw_ 9) rfl ?_
 refine A4 rfl (A9 (vs := [v9, v11, u0, u1, .int .u32 0, .slice none 0 0, .int .u32 0, .int .u32 0, .pointer (some ⟨b13, 0, none⟩)]) rfl rfl rfl kR (by rfl) (A7 h9.one (A7 h11.one (A7 g0.one (A7 g1.one al5)))) UpC.upd ?_)
 refine A0 (D7 6) (B4 ?_)
 exact ⟨_, M21, [], A3U (n := 9) rfl rfl kR At.mem (by rfl), Fit.none (Fit.last PickC.perm), hP21, v9, v11, u0, u1, .slice none 0 0, _, rfl, ⟨h9.mono SubC.sub, h11.mono SubC.sub, g0.mono SubC.sub, g1.mono SubC.sub, By.nil, StF.new (by simp), (show 0 < 4294967296 by decide), (show 0 < 4294967296 by decide), (show 0 < 4294967296 by decide), (show 0 ≤ 1000 by decide)⟩⟩
theorem B03 (v1 v2 : Value) (sec own : List Nat) (A : Mem) (h1 : By A v1 sec) (h2 : By A v2 own) : FnX Tryz.prog 17 [v1, v2] [] A fun q M J => M = [] ∧ RsV (J ++ A) q (A1G sec own) := by
 haveI := h1.cel
 haveI := h2.cel
 refine FnX.enterZ (N := 12) Tryz.func17 rfl rfl rfl fun w_ => ?_
 refine B0 (D3 0 1) (A1 ?_)
 refine A4 rfl (C4 (cs := [.slice none 0 0, .slice none 0 0, .slice none 0 0, .slice none 0 0, F7, .slice none 0 0, F7, F7, .pointer none]) kR rfl fun b4 => ?_)
 refine A0 (D4 0 1 4) (A1 (mv_ ?_))
 refine C6 (aS rfl a0) kR (A0A v2 own _ (h2.mono SubC.sub)) rfl ?_
 rintro v6 M6 J6 ⟨rfl, h6⟩
 haveI := h6.cel
 refine mv_ ?_
 refine C6 (aS rfl a0) kR (A0A v1 sec _ (h1.mono SubC.sub)) rfl ?_
 rintro v8 M8 J8 ⟨rfl, h8⟩
 haveI := h8.cel
 refine A2 (G1 (place := fun x => #[(0, 1)][x]?) (z := [.slice none 0 0]) (fun _ => by kernel_rfl) e0 bd0) rfl ?_
 refine A4 rfl (bx_ fun b10 => ?_)
 refine A2 (G1 (place := fun x => #[(0, 1), (1, 1), (2, 1), (3, 2), (5, 2), (7, 1), (8, 1)][x]?) (z := [.slice none 0 0, .slice none 0 0, .slice none 0 0, .slice none 0 0, F7, .slice none 0 0, F7, F7, .pointer none]) (fun _ => by kernel_rfl) (eS rfl (eS rfl (eS rfl e0))) (bdS 0 1 rfl (by rfl) (bdS 2 1 rfl (by rfl) (bdS 8 1 rfl (by rfl) bd0)))) rfl ?_
 refine A4 rfl (A9 (vs := [v6, .slice none 0 0, v8, .slice none 0 0, .int .u32 0, .slice none 0 0, .int .u32 0, .int .u32 0, .pointer (some ⟨b10, 0, none⟩)]) rfl rfl rfl kR (by rfl) (A7 h6.one (A7 rfl (A7 h8.one al6))) UpC.upd ?_)
 refine A0 (D7 4) (B4 ?_)
 exact ⟨_, [], [(b10, blk [.slice none 0 0] 80)], A3U (n := 9) rfl rfl kR At.mem (by rfl), Fit.pick (B := [_]) PickC.perm (Fit.sub (List.nil_sublist _)), rfl, v6, .slice none 0 0, v8, .slice none 0 0, .slice none 0 0, _, rfl, ⟨h6.mono SubC.sub, By.nil, h8.mono SubC.sub, By.nil, By.nil, StF.new (by simp), (show 0 < 4294967296 by decide), (show 0 < 4294967296 by decide), (show 0 < 4294967296 by decide), (show 0 ≤ 1000 by decide)⟩⟩
theorem A3I (r : Rsd) (vo vt vr vk vl vs : Value) (A : Mem) (hr : RsR A r vo vt vr vk vl vs) : FnX Tryz.prog 13 [.agg (rsC vo vt vr vk vl vs r).toArray] [] A fun q M J => ∃ cb, q = .agg (rsC vo vt vr vk vl (.pointer (some ⟨cb, 0, none⟩)) r).toArray ∧ Sto A cb r.sks M := by
 haveI := hr.own.cel
 haveI := hr.their.cel
 haveI := hr.root.cel
 haveI := hr.sk.cel
 haveI := hr.tk.cel
 obtain ⟨sb, u, rows, rfl, hsb, hrd, hrw⟩ := hr.st
 have hsl := hr.sks
 unfold rsC
 refine FnX.enterZ (N := 8) Tryz.func13 rfl rfl rfl fun w_ => ?_
 refine B0 (D7 0) (A1 ?_)
 refine A4 rfl (bx_ fun b1 => ?_)
 refine A4 rfl (C4 (cs := [.slice none 0 0, .slice none 0 0, .slice none 0 0, .slice none 0 0, F7, .slice none 0 0, F7, F7, .pointer none]) kR rfl fun b2 => ?_)
 refine A0 (D3 1 2) (A1 ?_)
 refine A2 (qf_ 8 8) rfl ?_
 refine A2 ql_ rfl ?_
 refine C6 (aS rfl a0) kR (B0V sb _ u rows.flatten _ (mA hsb) (hrd.mono SubC.sub) (hrw.ones skT) (by omega)) rfl ?_
 rintro v5 M5 J5 ⟨cb, u5, B5, rfl, rfl, hs5⟩
 refine A2 (qf_ 8 8) rfl ?_
 refine A4 rfl (D5 rfl rfl rfl kR SetC.set UpC.upd ?_)
 refine A0 (D3 1 2) (A1 ?_)
 refine A2 (qw_ 9) rfl ?_
 refine A4 rfl (A9 (vs := [vo, vt, vr, vk, .int .u32 ((r.sn : Nat) : Int), vl, .int .u32 ((r.tn : Nat) : Int), .int .u32 ((r.prev : Nat) : Int), .pointer (some ⟨cb, 0, none⟩)]) rfl rfl rfl kR (by rfl) (A7 hr.own.one (A7 hr.their.one (A7 hr.root.one (A7 hr.sk.one (A7 rfl (A7 hr.tk.one al3)))))) UpC.upd ?_)
 refine A0 (D7 2) (B4 ?_)
 exact ⟨_, (cb, blk [u5] 80) :: B5, [], A3U (n := 9) rfl rfl kR At.mem (by rfl), Fit.none (Fit.pick (B := [_]) PickC.perm (Fit.last PickC.perm)), cb, rfl, ⟨u5, rows, B5, rfl, hs5, hrw⟩⟩
theorem B3A (vk : Value) (k : List Nat) (p n : Nat) (A : Mem) (hk : By A vk k) (hl : k.length ≤ 16000000) (hp : p < 4294967296) (hn : n < 4294967296) : FnX Tryz.prog 67 [.agg #[vk, .int .u32 ((p : Nat) : Int), .int .u32 ((n : Nat) : Int)]] [] A fun q M J => M = [] ∧ By J q (A5o k p n) := by
 haveI := hk.cel
 refine FnX.enterZ (N := 19) Tryz.func67 rfl rfl rfl fun w_ => ?_
 refine B0 (D7 0) (A1 ?_)
 refine A4 rfl (bx_ fun b1 => ?_)
 refine as_ (A0 (D7 1) (A1 ?_))
 refine A2 (G1 (place := fun x => #[(0, 1)][x]?) (z := [.slice none 0 0]) (fun _ => by kernel_rfl) e0 bd0) rfl ?_
 refine A4 rfl (bx_ fun b5 => ?_)
 refine as_ (A0 (D3 1 3) ?_)
 refine L7 ([(b5, blk [.slice none 0 0] 64)]) (_) true (.range 14) [(0, 0), (1, 0), (2, 1), (4, 0), (5, 1), (6, 0), (8, 0), (9, 1), (10, 0), (3, 2), (7, 2), (11, 2), (12, 2), (13, 0)] kR kR PickC.perm fun hs K n0 hKm hKs hKn => ?_
 refine km_ hs ?_
 refine L6 hs rfl (qf_ 0 0) rfl ?_
 refine Y8 hs rfl hKs ql_ ?_
 refine L6 hs rfl (qf_ 1 1) rfl ?_
 refine Y8 hs rfl hKs ql_ ?_
 refine L6 hs rfl (N4 (k' := .u64) p rfl kR (A6Y (by omega))) rfl ?_
 refine L6 hs rfl (qf_ 2 2) rfl ?_
 refine Y8 hs rfl hKs ql_ ?_
 refine L6 hs rfl (N4 (k' := .u64) n rfl kR (A6Y (by omega))) rfl ?_
 refine Q5 _ _ rfl rfl (List.Perm.refl _) hKm fun w0 => (E0 (Mc := [(b5, blk [.slice none 0 0] 64)]) (R := _) (aS rfl (aS rfl (a0))) kR PickC.perm (A1F b5 vk k [] _ _ Wtr.new (hk.mono SubC.sub) (by decide)) rfl ?_)
 rintro v9 M9 J9 ⟨rfl, hW9⟩ hKx9
 refine Q5 M9 _ rfl rfl PickC.perm (fun x hx => hKx9 (hKn rfl) x (by simpa using hx)) fun w0 => (E0 (Mc := M9) (R := _) (aS rfl (aS rfl (aS rfl (a0)))) kR PickC.perm (A3F b5 p 4 _ _ _ hW9 (by omega) (by decide) (by simp [A03]; omega)) rfl ?_)
 rintro v13 M13 J13 ⟨rfl, hW13⟩ hKx13
 refine Q5 M13 _ rfl rfl PickC.perm (fun x hx => hKx13 (hKn rfl) x (by simpa using hx)) fun w0 => (E0 (Mc := M13) (R := _) (aS rfl (aS rfl (aS rfl (a0)))) kR PickC.perm (A3F b5 n 4 _ _ _ hW13 (by omega) (by decide) (by simp [A03]; omega)) rfl ?_)
 rintro v17 M17 J17 ⟨rfl, hW17⟩ hKx17
 refine Q5 M17 _ rfl rfl PickC.perm (fun x hx => hKx17 (hKn rfl) x (by simpa using hx)) fun w0 => (E0 (Mc := M17) (R := _) (aS rfl (a0)) kR PickC.perm (A4w b5 _ M17 _ hW17 (by simp [A03]; omega)) rfl ?_)
 rintro v18 M18 J18 ⟨hW18, h18⟩ hKx18
 haveI := h18.cel
 refine L6 hs rfl (G9 rfl) rfl ?_
 refine Q8 (D7 2) (B4 ?_)
 exact ⟨_, [], [], I7 rfl rfl, Fit.sub (List.nil_sublist _), rfl, h18.mono SubC.sub⟩
theorem B04 (vw vk : Value) (w k : List Nat) (p n : Nat) (A : Mem) (hw : By A vw w) (hk : By A vk k) (hl : w.length + k.length ≤ 16000000) (hp : p < 4294967296) (hn : n < 4294967296) : FnX Tryz.prog 39 [vw, .agg #[vk, .int .u32 ((p : Nat) : Int), .int .u32 ((n : Nat) : Int)]] [] A fun q M J => M = [] ∧ By J q (A4y w (A5o k p n)) := by
 haveI := hw.cel
 haveI := hk.cel
 refine FnX.enterZ (N := 15) Tryz.func39 rfl rfl rfl fun w_ => ?_
 refine B0 (D3 0 1) (A1 ?_)
 refine A4 rfl (bx_ fun b3 => ?_)
 refine as_ (A0 (D3 0 3) (A1 ?_))
 refine A2 (G1 (place := fun x => #[(0, 1)][x]?) (z := [.slice none 0 0]) (fun _ => by kernel_rfl) e0 bd0) rfl ?_
 refine A4 rfl (bx_ fun b7 => ?_)
 refine as_ (A0 (D4 0 3 5) ?_)
 refine L7 ([(b7, blk [.slice none 0 0] 64)]) (_) true (.range 8) [(0, 0), (1, 0), (3, 1), (2, 2), (4, 2), (5, 2), (6, 2), (7, 0)] kR kR PickC.perm fun hs K n0 hKm hKs hKn => ?_
 refine km_ hs ?_
 refine km_ hs ?_
 refine Y8 hs rfl hKs (qw_ 3) ?_
 refine Q5 _ _ rfl rfl (List.Perm.refl _) hKm fun w0 => (E0 (Mc := [(b7, blk [.slice none 0 0] 64)]) (R := _) (aS rfl (aS rfl (a0))) kR PickC.perm (A1F b7 vw w [] _ _ Wtr.new (hw.mono SubC.sub) (by decide)) rfl ?_)
 rintro v10 M10 J10 ⟨rfl, hW10⟩ hKx10
 refine Q5 [] _ rfl rfl (List.Perm.refl _) (fun _ h => by cases h) fun w0 => (H7 (aS rfl a0) kR (B3A vk k p n _ (hk.mono SubC.sub) (by omega) hp hn) rfl ?_)
 rintro v12 M12 J12 ⟨rfl, h12⟩ _
 haveI := h12.cel
 dsimp only [List.nil_append, List.append_eq]
 refine Q5 M10 _ rfl rfl PickC.perm (fun x hx => hKx10 (hKn rfl) x (by simpa using hx)) fun w0 => (E0 (Mc := M10) (R := _) (aS rfl (aS rfl (a0))) kR PickC.perm (A1F b7 v12 (A5o k p n) _ _ _ hW10 (h12.mono SubC.sub) (by simp [A03]; omega)) rfl ?_)
 rintro v13 M13 J13 ⟨rfl, hW13⟩ hKx13
 refine Q5 M13 _ rfl rfl PickC.perm (fun x hx => hKx13 (hKn rfl) x (by simpa using hx)) fun w0 => (E0 (Mc := M13) (R := _) (aS rfl (a0)) kR PickC.perm (A4w b7 _ M13 _ hW13 (by simp [A03, A14]; omega)) rfl ?_)
 rintro v14 M14 J14 ⟨hW14, h14⟩ hKx14
 haveI := h14.cel
 refine L6 hs rfl (G9 rfl) rfl ?_
 refine Q8 (D7 4) (B4 ?_)
 exact ⟨_, [], [], I7 rfl rfl, Fit.sub (List.nil_sublist _), rfl, h14.mono SubC.sub⟩

def rolN (x n : Nat) : Nat := (x <<< n) % 4294967296 ||| x >>> (32 - n)
theorem B6j {x n : Nat} (hx : x < 4294967296) : rolN x n < 4294967296 := B1O T3 (A9e hx)
def wrdN (p : List Nat) : Nat := ((p.getD 0 0 ||| (p.getD 1 0 <<< 8) % 4294967296) ||| (p.getD 2 0 <<< 16) % 4294967296) ||| (p.getD 3 0 <<< 24) % 4294967296
theorem A0L {p : List Nat} (h : ∀ x ∈ p, x < 256) (i : Nat) : p.getD i 0 < 256 := by
  rw [List.getD_eq_getElem?_getD]
  cases hq : p[i]? with
  | none => decide
  | some x => exact h x (List.mem_of_getElem? hq)
theorem B05 {p : List Nat} (h : ∀ x ∈ p, x < 256) : wrdN p < 4294967296 := B1O (B1O (B1O (by have := A0L h 0; omega) T3) T3) T3
theorem A2U (x n : Nat) (A : Mem) (hx : x < 4294967296) (h0 : 0 < n) (hn : n < 32) : FnV Tryz.prog 118 [.int .u32 ((x : Nat) : Int), .int .i64 ((n : Nat) : Int)] A (.int .u32 ((rolN x n : Nat) : Int)) := by
 refine FnX.enter (N := 17) Tryz.func118 rfl rfl rfl fun w => ?_
 refine B0 (D3 0 1) (A1 (as_ (A0 (D3 0 1) (A1 (mv_ ?_)))))
 refine A2 (N4 (k' := .u64) n rfl kR (A6Y (by omega))) rfl ?_
 refine A2 (C8 ((n : Nat) : Int) rfl rfl ((B8W (k := .u64) (b := 31) rfl (by show _ < 2 ^ 64; omega) (by decide)).trans (by rw [Nat.and_two_pow_sub_one_eq_mod _ 5, Nat.mod_eq_of_lt (by omega)]))) rfl ?_
 refine as_ (A0 (D3 0 5) (A1 (mv_ (mv_ ?_))))
 refine A2 (A0O n rfl rfl rfl (by omega)) rfl ?_
 refine mv_ (mv_ ?_)
 refine A2 (C8 ((32 - n : Nat) : Int) rfl rfl ((B8V (k := .u64) (a := 32) (b := n) rfl (32 - n) (by show _ ≤ 2 ^ 64; omega) (by show (32 + (18446744073709551616 - n)) % 18446744073709551616 = 32 - n; omega)))) rfl ?_
 refine A2 (Q4 (32 - n) rfl rfl rfl (by show 32 - n ≤ 32; omega)) rfl ?_
 refine A2 (A2q rfl rfl T3 (A9e hx)) rfl ?_
 refine as_ (A0 (D7 4) (B4 ?_))
 exact ⟨_, [], [], I7 rfl rfl, List.nil_sublist _, by simp, rfl, rfl, rfl⟩
theorem A2V {n : Nat} (h : n < 256) : IntKind.u32.wrap (n : Int) = (n : Int) := by
  unfold IntKind.wrap
  simp [IntKind.signed, IntKind.bits]
  omega
theorem B4w (v : Value) (w : List Nat) (A : Mem) (hv : By A v w) (hl : 4 ≤ w.length) : FnV Tryz.prog 112 [v] A (.int .u32 ((wrdN w : Nat) : Int)) := by
 haveI := hv.cel
 refine FnX.enter (N := 25) Tryz.func112 rfl rfl rfl fun w_ => ?_
 refine B0 (D7 0) (A1 (as_ (A0 (D7 0) ?_)))
 refine C7 (.range 23) (zp 0 [0, 0, 1, 0, 0, 0, 1, 0, 0, 0, 0, 0, 1, 0, 0, 0, 0, 0, 1, 0, 0, 0, 0]) kR kR fun hs => ?_
 refine fm_ hs ?_
 refine C2 hs rfl (I1 (sz := 1) (a := 0) rfl rfl kR rfl hv.rd (by omega)) rfl ?_
 refine G4 hs rfl (A0q (k := .u8) rfl kR (hv.rd.mono SubC.sub) (by omega)) rfl ?_
 refine C2 hs rfl (N4 (k' := .u32) (w.getD 0 0) rfl kR (A2V (A0L hv.lt 0))) rfl ?_
 refine fm_ hs ?_
 refine C2 hs rfl (I1 (sz := 1) (a := 1) rfl rfl kR rfl hv.rd (by omega)) rfl ?_
 refine G4 hs rfl (A0q (k := .u8) rfl kR (hv.rd.mono SubC.sub) (by omega)) rfl ?_
 refine C2 hs rfl (N4 (k' := .u32) (w.getD 1 0) rfl kR (A2V (A0L hv.lt 1))) rfl ?_
 refine C2 hs rfl (A0O 8 rfl rfl rfl (by decide)) rfl ?_
 refine C2 hs rfl (A2q rfl rfl (by have := A0L hv.lt 0; omega) T3) rfl ?_
 refine fm_ hs ?_
 refine C2 hs rfl (I1 (sz := 1) (a := 2) rfl rfl kR rfl hv.rd (by omega)) rfl ?_
 refine G4 hs rfl (A0q (k := .u8) rfl kR (hv.rd.mono SubC.sub) (by omega)) rfl ?_
 refine C2 hs rfl (N4 (k' := .u32) (w.getD 2 0) rfl kR (A2V (A0L hv.lt 2))) rfl ?_
 refine C2 hs rfl (A0O 16 rfl rfl rfl (by decide)) rfl ?_
 refine C2 hs rfl (A2q rfl rfl (B1O (by have := A0L hv.lt 0; omega) T3) T3) rfl ?_
 refine fm_ hs ?_
 refine C2 hs rfl (I1 (sz := 1) (a := 3) rfl rfl kR rfl hv.rd (by omega)) rfl ?_
 refine G4 hs rfl (A0q (k := .u8) rfl kR (hv.rd.mono SubC.sub) (by omega)) rfl ?_
 refine C2 hs rfl (N4 (k' := .u32) (w.getD 3 0) rfl kR (A2V (A0L hv.lt 3))) rfl ?_
 refine C2 hs rfl (A0O 24 rfl rfl rfl (by decide)) rfl ?_
 refine C2 hs rfl (A2q rfl rfl (B1O (B1O (by have := A0L hv.lt 0; omega) T3) T3) T3) rfl ?_
 refine fa_ hs ?_
 refine E4 (D7 2) (B4 ?_)
 exact ⟨_, [], [], I7 rfl rfl, List.nil_sublist _, by simp, rfl, rfl, rfl⟩
theorem A3J (v : Value) (w : List Nat) (n : Nat) (A : Mem) (hv : By A v w) (hn : n ≤ 16000000) : FnX Tryz.prog 96 [v, .int .i64 (n : Int)] [] A fun q M J => M = [] ∧ By J q (G2 w n) := by
 haveI := hv.cel
 have hvl := hv.len
 refine FnX.enterZ (N := 12) Tryz.func96 rfl rfl rfl fun w_ => ?_
 refine B0 (D3 0 1) (A1 (as_ (A0 (D3 0 1) (A1 (mv_ ?_)))))
 refine A4 rfl (A0o (by_ := 1) (k := .u8) (e := 5) n rfl rfl kR rfl rfl (by omega) (by omega) rfl fun b7 => ?_)
 refine as_ (A0 (D3 0 5) (A1 (mv_ (mv_ ?_))))
 refine A4 rfl (A3j (e := 5) (us := w) (ws := List.replicate n 0) (ws' := G2 w n) (by_ := 1) rfl rfl kR (hv.rd.mono SubC.sub) (by simp) (by simp [G2]) UpC.upd rfl ?_)
 refine A0 (D7 5) (A1 (mv_ (as_ (A0 (D7 4) (B4 ?_)))))
 refine ⟨_, [], [(b7, blk (nums .u8 (G2 w n)) 5)], I7 rfl rfl, Fit.eq (by simp), ⟨rfl, ⟨?_, A0Z hv.lt n, by rw [K2]; omega⟩⟩⟩
 rw [K2]
 exact Rd.whole (n := n) List.mem_cons_self (by simp [K2])

def adW (S : List Nat) (a b : Nat) : List Nat := S.set a ((S.getD a 0 + S.getD b 0) % 4294967296)
def xrW (S : List Nat) (d a n : Nat) : List Nat := S.set d (rolN (S.getD d 0 ^^^ S.getD a 0) n)
def B8b (S : List Nat) (a b c d : Nat) : List Nat := xrW (adW (xrW (adW (xrW (adW (xrW (adW S a b) d a 16) c d) b c 12) a b) d a 8) c d) b c 7
structure W16 (S : List Nat) : Prop where
  len : S.length = 16
  lt : ∀ x ∈ S, x < 4294967296
theorem W16.get {S : List Nat} (h : W16 S) (i : Nat) : S.getD i 0 < 4294967296 := by
  rw [List.getD_eq_getElem?_getD]
  cases hq : S[i]? with
  | none => decide
  | some x => exact h.lt x (List.mem_of_getElem? hq)
theorem W16.set {S : List Nat} (h : W16 S) (i x : Nat) (hx : x < 4294967296) : W16 (S.set i x) := ⟨by rw [List.length_set]; exact h.len, fun y hy => by rcases List.mem_or_eq_of_mem_set hy with h1 | rfl; exact h.lt y h1; exact hx⟩
theorem xor32 {a b : Nat} (ha : a < 4294967296) (hb : b < 4294967296) : a ^^^ b < 4294967296 := Nat.xor_lt_two_pow (n := 32) ha hb
theorem W16.ad {S : List Nat} (h : W16 S) (a b : Nat) : W16 (adW S a b) := h.set _ _ (Nat.mod_lt _ (by decide))
theorem W16.xr {S : List Nat} (h : W16 S) (d a n : Nat) : W16 (xrW S d a n) := h.set _ _ (B6j (xor32 (h.get d) (h.get a)))
theorem W16.trn {S : List Nat} (h : W16 S) (a b c d : Nat) : W16 (B8b S a b c d) := (((((((h.ad a b).xr d a 16).ad c d).xr b c 12).ad a b).xr d a 8).ad c d).xr b c 7
theorem B06 (sb : Nat) (S0 : List Nat) (a b c d : Nat) (A : Mem) (hS0 : W16 S0) (ha_ : a < 16) (hb_ : b < 16) (hc_ : c < 16) (hd_ : d < 16) : FnX Tryz.prog 113 [.pointer (some ⟨sb, 0, none⟩), .int .i64 ((a : Nat) : Int), .int .i64 ((b : Nat) : Int), .int .i64 ((c : Nat) : Int), .int .i64 ((d : Nat) : Int)] [(sb, blk (nums .u32 S0) 179)] A fun q M J => q = .tuple #[] ∧ M = [(sb, blk (nums .u32 (B8b S0 a b c d)) 179)] ∧ J = [] := by
 refine FnX.enterZ (N := 126) Tryz.func113 rfl rfl rfl fun w_ => ?_
 refine B0 (E5 0 1 2 3 4) ?_
 refine C7 (.range 13) (zp 0 [0, 0, 0, 0, 1, 0, 0, 0, 0, 1, 0, 0, 0, 2]) kR kR fun hs => ?_
 refine fm_ hs ?_
 refine fm_ hs ?_
 refine C2 hs rfl (E8 rfl) rfl ?_
 refine C2 hs rfl (C9 (e := 27) (n := 16) (sz := 1) (i := a) a rfl rfl kR kR rfl ha_ (by omega)) rfl ?_
 refine G4 hs rfl (H8 a rfl kR At.mem rfl (by rw [hS0.len]; exact ha_)) rfl ?_
 refine fm_ hs ?_
 refine fm_ hs ?_
 refine C2 hs rfl (E8 rfl) rfl ?_
 refine C2 hs rfl (C9 (e := 27) (n := 16) (sz := 1) (i := b) b rfl rfl kR kR rfl hb_ (by omega)) rfl ?_
 refine G4 hs rfl (H8 b rfl kR At.mem rfl (by rw [hS0.len]; exact hb_)) rfl ?_
 refine C2 hs rfl (F1 4294967296 rfl rfl rfl rfl rfl rfl) rfl ?_
 refine C2 hs rfl (E8 rfl) rfl ?_
 refine C2 hs rfl (C9 (e := 27) (n := 16) (sz := 1) (i := a) a rfl rfl kR kR rfl ha_ (by omega)) rfl ?_
 refine F5 rfl rfl rfl (I4 a rfl rfl kR rfl (by rw [hS0.len]; exact ha_) UpC.upd ?_)
 refine E4 (E5 0 1 2 3 4) ?_
 have hS1 := hS0.ad a b
 change W16 (S0.set a ((S0.getD a 0 + S0.getD b 0) % 4294967296)) at hS1
 obtain ⟨S1, e1⟩ : ∃ z, S0.set a ((S0.getD a 0 + S0.getD b 0) % 4294967296) = z := ⟨_, rfl⟩
 rw [e1] at hS1 ⊢
 change adW S0 a b = S1 at e1
 refine C7 (.range 16) [(0, 0), (1, 0), (2, 0), (3, 0), (4, 0), (5, 0), (6, 1), (7, 0), (8, 0), (9, 0), (10, 0), (11, 1), (12, 0), (14, 0), (13, 2), (15, 0), (16, 2)] kR kR fun hs => ?_
 refine fm_ hs ?_
 refine fm_ hs ?_
 refine fm_ hs ?_
 refine fm_ hs ?_
 refine C2 hs rfl (E8 rfl) rfl ?_
 refine C2 hs rfl (C9 (e := 27) (n := 16) (sz := 1) (i := d) d rfl rfl kR kR rfl hd_ (by omega)) rfl ?_
 refine G4 hs rfl (H8 d rfl kR At.mem rfl (by rw [hS1.len]; exact hd_)) rfl ?_
 refine fm_ hs ?_
 refine fm_ hs ?_
 refine C2 hs rfl (E8 rfl) rfl ?_
 refine C2 hs rfl (C9 (e := 27) (n := 16) (sz := 1) (i := a) a rfl rfl kR kR rfl ha_ (by omega)) rfl ?_
 refine G4 hs rfl (H8 a rfl kR At.mem rfl (by rw [hS1.len]; exact ha_)) rfl ?_
 refine C2 hs rfl (T0 rfl rfl (hS1.get _) (hS1.get _)) rfl ?_
 refine C2 hs rfl (E8 rfl) rfl ?_
 refine L8 rfl (aS rfl (aS rfl a0)) kR (A2U _ 16 _ (xor32 (hS1.get _) (hS1.get _)) (by decide) (by decide)) rfl ?_
 refine C2 hs rfl (C9 (e := 27) (n := 16) (sz := 1) (i := d) d rfl rfl kR kR rfl hd_ (by omega)) rfl ?_
 refine F5 rfl rfl rfl (I4 d rfl rfl kR rfl (by rw [hS1.len]; exact hd_) UpC.upd ?_)
 refine E4 (E5 0 1 2 3 4) ?_
 have hS2 := hS1.xr d a 16
 change W16 (S1.set d (rolN (S1.getD d 0 ^^^ S1.getD a 0) 16)) at hS2
 obtain ⟨S2, e2⟩ : ∃ z, S1.set d (rolN (S1.getD d 0 ^^^ S1.getD a 0) 16) = z := ⟨_, rfl⟩
 rw [e2] at hS2 ⊢
 change xrW S1 d a 16 = S2 at e2
 refine C7 (.range 13) (zp 0 [0, 0, 0, 0, 1, 0, 0, 0, 0, 1, 0, 0, 0, 2]) kR kR fun hs => ?_
 refine fm_ hs ?_
 refine fm_ hs ?_
 refine C2 hs rfl (E8 rfl) rfl ?_
 refine C2 hs rfl (C9 (e := 27) (n := 16) (sz := 1) (i := c) c rfl rfl kR kR rfl hc_ (by omega)) rfl ?_
 refine G4 hs rfl (H8 c rfl kR At.mem rfl (by rw [hS2.len]; exact hc_)) rfl ?_
 refine fm_ hs ?_
 refine fm_ hs ?_
 refine C2 hs rfl (E8 rfl) rfl ?_
 refine C2 hs rfl (C9 (e := 27) (n := 16) (sz := 1) (i := d) d rfl rfl kR kR rfl hd_ (by omega)) rfl ?_
 refine G4 hs rfl (H8 d rfl kR At.mem rfl (by rw [hS2.len]; exact hd_)) rfl ?_
 refine C2 hs rfl (F1 4294967296 rfl rfl rfl rfl rfl rfl) rfl ?_
 refine C2 hs rfl (E8 rfl) rfl ?_
 refine C2 hs rfl (C9 (e := 27) (n := 16) (sz := 1) (i := c) c rfl rfl kR kR rfl hc_ (by omega)) rfl ?_
 refine F5 rfl rfl rfl (I4 c rfl rfl kR rfl (by rw [hS2.len]; exact hc_) UpC.upd ?_)
 refine E4 (E5 0 1 2 3 4) ?_
 have hS3 := hS2.ad c d
 change W16 (S2.set c ((S2.getD c 0 + S2.getD d 0) % 4294967296)) at hS3
 obtain ⟨S3, e3⟩ : ∃ z, S2.set c ((S2.getD c 0 + S2.getD d 0) % 4294967296) = z := ⟨_, rfl⟩
 rw [e3] at hS3 ⊢
 change adW S2 c d = S3 at e3
 refine C7 (.range 16) [(0, 0), (1, 0), (2, 0), (3, 0), (4, 0), (5, 0), (6, 1), (7, 0), (8, 0), (9, 0), (10, 0), (11, 1), (12, 0), (14, 0), (13, 2), (15, 0), (16, 2)] kR kR fun hs => ?_
 refine fm_ hs ?_
 refine fm_ hs ?_
 refine fm_ hs ?_
 refine fm_ hs ?_
 refine C2 hs rfl (E8 rfl) rfl ?_
 refine C2 hs rfl (C9 (e := 27) (n := 16) (sz := 1) (i := b) b rfl rfl kR kR rfl hb_ (by omega)) rfl ?_
 refine G4 hs rfl (H8 b rfl kR At.mem rfl (by rw [hS3.len]; exact hb_)) rfl ?_
 refine fm_ hs ?_
 refine fm_ hs ?_
 refine C2 hs rfl (E8 rfl) rfl ?_
 refine C2 hs rfl (C9 (e := 27) (n := 16) (sz := 1) (i := c) c rfl rfl kR kR rfl hc_ (by omega)) rfl ?_
 refine G4 hs rfl (H8 c rfl kR At.mem rfl (by rw [hS3.len]; exact hc_)) rfl ?_
 refine C2 hs rfl (T0 rfl rfl (hS3.get _) (hS3.get _)) rfl ?_
 refine C2 hs rfl (E8 rfl) rfl ?_
 refine L8 rfl (aS rfl (aS rfl a0)) kR (A2U _ 12 _ (xor32 (hS3.get _) (hS3.get _)) (by decide) (by decide)) rfl ?_
 refine C2 hs rfl (C9 (e := 27) (n := 16) (sz := 1) (i := b) b rfl rfl kR kR rfl hb_ (by omega)) rfl ?_
 refine F5 rfl rfl rfl (I4 b rfl rfl kR rfl (by rw [hS3.len]; exact hb_) UpC.upd ?_)
 refine E4 (E5 0 1 2 3 4) ?_
 have hS4 := hS3.xr b c 12
 change W16 (S3.set b (rolN (S3.getD b 0 ^^^ S3.getD c 0) 12)) at hS4
 obtain ⟨S4, e4⟩ : ∃ z, S3.set b (rolN (S3.getD b 0 ^^^ S3.getD c 0) 12) = z := ⟨_, rfl⟩
 rw [e4] at hS4 ⊢
 change xrW S3 b c 12 = S4 at e4
 refine C7 (.range 13) (zp 0 [0, 0, 0, 0, 1, 0, 0, 0, 0, 1, 0, 0, 0, 2]) kR kR fun hs => ?_
 refine fm_ hs ?_
 refine fm_ hs ?_
 refine C2 hs rfl (E8 rfl) rfl ?_
 refine C2 hs rfl (C9 (e := 27) (n := 16) (sz := 1) (i := a) a rfl rfl kR kR rfl ha_ (by omega)) rfl ?_
 refine G4 hs rfl (H8 a rfl kR At.mem rfl (by rw [hS4.len]; exact ha_)) rfl ?_
 refine fm_ hs ?_
 refine fm_ hs ?_
 refine C2 hs rfl (E8 rfl) rfl ?_
 refine C2 hs rfl (C9 (e := 27) (n := 16) (sz := 1) (i := b) b rfl rfl kR kR rfl hb_ (by omega)) rfl ?_
 refine G4 hs rfl (H8 b rfl kR At.mem rfl (by rw [hS4.len]; exact hb_)) rfl ?_
 refine C2 hs rfl (F1 4294967296 rfl rfl rfl rfl rfl rfl) rfl ?_
 refine C2 hs rfl (E8 rfl) rfl ?_
 refine C2 hs rfl (C9 (e := 27) (n := 16) (sz := 1) (i := a) a rfl rfl kR kR rfl ha_ (by omega)) rfl ?_
 refine F5 rfl rfl rfl (I4 a rfl rfl kR rfl (by rw [hS4.len]; exact ha_) UpC.upd ?_)
 refine E4 (E5 0 1 2 3 4) ?_
 have hS5 := hS4.ad a b
 change W16 (S4.set a ((S4.getD a 0 + S4.getD b 0) % 4294967296)) at hS5
 obtain ⟨S5, e5⟩ : ∃ z, S4.set a ((S4.getD a 0 + S4.getD b 0) % 4294967296) = z := ⟨_, rfl⟩
 rw [e5] at hS5 ⊢
 change adW S4 a b = S5 at e5
 refine C7 (.range 16) [(0, 0), (1, 0), (2, 0), (3, 0), (4, 0), (5, 0), (6, 1), (7, 0), (8, 0), (9, 0), (10, 0), (11, 1), (12, 0), (14, 0), (13, 2), (15, 0), (16, 2)] kR kR fun hs => ?_
 refine fm_ hs ?_
 refine fm_ hs ?_
 refine fm_ hs ?_
 refine fm_ hs ?_
 refine C2 hs rfl (E8 rfl) rfl ?_
 refine C2 hs rfl (C9 (e := 27) (n := 16) (sz := 1) (i := d) d rfl rfl kR kR rfl hd_ (by omega)) rfl ?_
 refine G4 hs rfl (H8 d rfl kR At.mem rfl (by rw [hS5.len]; exact hd_)) rfl ?_
 refine fm_ hs ?_
 refine fm_ hs ?_
 refine C2 hs rfl (E8 rfl) rfl ?_
 refine C2 hs rfl (C9 (e := 27) (n := 16) (sz := 1) (i := a) a rfl rfl kR kR rfl ha_ (by omega)) rfl ?_
 refine G4 hs rfl (H8 a rfl kR At.mem rfl (by rw [hS5.len]; exact ha_)) rfl ?_
 refine C2 hs rfl (T0 rfl rfl (hS5.get _) (hS5.get _)) rfl ?_
 refine C2 hs rfl (E8 rfl) rfl ?_
 refine L8 rfl (aS rfl (aS rfl a0)) kR (A2U _ 8 _ (xor32 (hS5.get _) (hS5.get _)) (by decide) (by decide)) rfl ?_
 refine C2 hs rfl (C9 (e := 27) (n := 16) (sz := 1) (i := d) d rfl rfl kR kR rfl hd_ (by omega)) rfl ?_
 refine F5 rfl rfl rfl (I4 d rfl rfl kR rfl (by rw [hS5.len]; exact hd_) UpC.upd ?_)
 refine E4 (D6 0 2 3 4) ?_
 have hS6 := hS5.xr d a 8
 change W16 (S5.set d (rolN (S5.getD d 0 ^^^ S5.getD a 0) 8)) at hS6
 obtain ⟨S6, e6⟩ : ∃ z, S5.set d (rolN (S5.getD d 0 ^^^ S5.getD a 0) 8) = z := ⟨_, rfl⟩
 rw [e6] at hS6 ⊢
 change xrW S5 d a 8 = S6 at e6
 refine C7 (.range 13) (zp 0 [0, 0, 0, 0, 1, 0, 0, 0, 0, 1, 0, 0, 0, 2]) kR kR fun hs => ?_
 refine fm_ hs ?_
 refine fm_ hs ?_
 refine C2 hs rfl (E8 rfl) rfl ?_
 refine C2 hs rfl (C9 (e := 27) (n := 16) (sz := 1) (i := c) c rfl rfl kR kR rfl hc_ (by omega)) rfl ?_
 refine G4 hs rfl (H8 c rfl kR At.mem rfl (by rw [hS6.len]; exact hc_)) rfl ?_
 refine fm_ hs ?_
 refine fm_ hs ?_
 refine C2 hs rfl (E8 rfl) rfl ?_
 refine C2 hs rfl (C9 (e := 27) (n := 16) (sz := 1) (i := d) d rfl rfl kR kR rfl hd_ (by omega)) rfl ?_
 refine G4 hs rfl (H8 d rfl kR At.mem rfl (by rw [hS6.len]; exact hd_)) rfl ?_
 refine C2 hs rfl (F1 4294967296 rfl rfl rfl rfl rfl rfl) rfl ?_
 refine C2 hs rfl (E8 rfl) rfl ?_
 refine C2 hs rfl (C9 (e := 27) (n := 16) (sz := 1) (i := c) c rfl rfl kR kR rfl hc_ (by omega)) rfl ?_
 refine F5 rfl rfl rfl (I4 c rfl rfl kR rfl (by rw [hS6.len]; exact hc_) UpC.upd ?_)
 refine E4 (D4 0 2 3) ?_
 have hS7 := hS6.ad c d
 change W16 (S6.set c ((S6.getD c 0 + S6.getD d 0) % 4294967296)) at hS7
 obtain ⟨S7, e7⟩ : ∃ z, S6.set c ((S6.getD c 0 + S6.getD d 0) % 4294967296) = z := ⟨_, rfl⟩
 rw [e7] at hS7 ⊢
 change adW S6 c d = S7 at e7
 refine F9 (.range 16) [(0, 0), (1, 0), (2, 0), (3, 0), (4, 0), (5, 0), (6, 1), (7, 0), (8, 0), (9, 0), (10, 0), (11, 1), (12, 0), (14, 0), (13, 2), (15, 0), (16, 2)] kR kR fun hs => ?_
 refine fm_ hs ?_
 refine fm_ hs ?_
 refine fm_ hs ?_
 refine fm_ hs ?_
 refine C2 hs rfl (E8 rfl) rfl ?_
 refine C2 hs rfl (C9 (e := 27) (n := 16) (sz := 1) (i := b) b rfl rfl kR kR rfl hb_ (by omega)) rfl ?_
 refine G4 hs rfl (H8 b rfl kR At.mem rfl (by rw [hS7.len]; exact hb_)) rfl ?_
 refine fm_ hs ?_
 refine fm_ hs ?_
 refine C2 hs rfl (E8 rfl) rfl ?_
 refine C2 hs rfl (C9 (e := 27) (n := 16) (sz := 1) (i := c) c rfl rfl kR kR rfl hc_ (by omega)) rfl ?_
 refine G4 hs rfl (H8 c rfl kR At.mem rfl (by rw [hS7.len]; exact hc_)) rfl ?_
 refine C2 hs rfl (T0 rfl rfl (hS7.get _) (hS7.get _)) rfl ?_
 refine C2 hs rfl (E8 rfl) rfl ?_
 refine L8 rfl (aS rfl (aS rfl a0)) kR (A2U _ 7 _ (xor32 (hS7.get _) (hS7.get _)) (by decide) (by decide)) rfl ?_
 refine C2 hs rfl (C9 (e := 27) (n := 16) (sz := 1) (i := b) b rfl rfl kR kR rfl hb_ (by omega)) rfl ?_
 refine F5 rfl rfl rfl (I4 b rfl rfl kR rfl (by rw [hS7.len]; exact hb_) UpC.upd ?_)
 refine Q9 ?_
 exact ⟨_, [(sb, blk (nums .u32 (S7.set b (rolN (S7.getD b 0 ^^^ S7.getD c 0) 7))) 179)], [], B4R rfl, Fit.eq (by simp), rfl, by unfold B8b; rw [e1, e2, e3, e4, e5, e6, e7]; rfl, rfl⟩

def cstW : List Nat := [1634760805, 857760878, 2036477234, 1797285236, 0, 0, 0, 0, 0, 0, 0, 0, 0, 0, 0, 0]
def kyW (K : List Nat) : Nat → List Nat
  | 0 => cstW
  | i + 1 => (kyW K i).set (4 + i) (wrdN (K.drop (4 * i)))
def nnW (K : List Nat) (n : Nat) (N : List Nat) : Nat → List Nat
  | 0 => (kyW K 8).set 12 n
  | i + 1 => (nnW K n N i).set (13 + i) (wrdN (N.drop (4 * i)))
def rdA (S : List Nat) : Nat → List Nat
  | 0 => S
  | i + 1 => B8b (rdA S i) i (4 + i) (8 + i) (12 + i)
def rdB (S : List Nat) : Nat → List Nat
  | 0 => S
  | i + 1 => B8b (rdB S i) i (4 + (i + 1) % 4) (8 + (i + 2) % 4) (12 + (i + 3) % 4)
def rdW (S : List Nat) : Nat → List Nat
  | 0 => S
  | k + 1 => rdB (rdA (rdW S k) 4) 4
def le4 (x : Nat) : List Nat := [x % 256, x >>> 8 % 256, x >>> 16 % 256, x >>> 24 % 256]
def otW (W S : List Nat) : Nat → List Nat
  | 0 => []
  | i + 1 => otW W S i ++ le4 ((W.getD i 0 + S.getD i 0) % 4294967296)
def B63 (K : List Nat) (n : Nat) (N : List Nat) : List Nat := otW (rdW (nnW K n N 3) 10) (nnW K n N 3) 16
theorem B6k {p : List Nat} (h : ∀ x ∈ p, x < 256) (k : Nat) : ∀ x ∈ p.drop k, x < 256 := fun x hx => h x (List.mem_of_mem_drop hx)
theorem B07 {K : List Nat} (h : ∀ x ∈ K, x < 256) : ∀ i, W16 (kyW K i)
  | 0 => ⟨rfl, by show ∀ x ∈ cstW, x < 4294967296; decide⟩
  | i + 1 => (B07 h i).set _ _ (B05 (B6k h _))
theorem B4x {K N : List Nat} {n : Nat} (h : ∀ x ∈ K, x < 256) (hn : n < 4294967296) (h2 : ∀ x ∈ N, x < 256) : ∀ i, W16 (nnW K n N i)
  | 0 => (B07 h 8).set _ _ hn
  | i + 1 => (B4x h hn h2 i).set _ _ (B05 (B6k h2 _))
theorem A7T {S : List Nat} (h : W16 S) : ∀ i, W16 (rdA S i)
  | 0 => h
  | i + 1 => (A7T h i).trn _ _ _ _
theorem B08 {S : List Nat} (h : W16 S) : ∀ i, W16 (rdB S i)
  | 0 => h
  | i + 1 => (B08 h i).trn _ _ _ _
theorem B4y {S : List Nat} (h : W16 S) : ∀ i, W16 (rdW S i)
  | 0 => h
  | i + 1 => B08 (A7T (B4y h i) 4) 4
theorem A3K (W S : List Nat) : ∀ i, (otW W S i).length = 4 * i
  | 0 => rfl
  | i + 1 => by show (otW W S i ++ le4 _).length = _; rw [List.length_append, A3K W S i]; simp [le4]; omega
theorem B8c (x : Nat) : ∀ y ∈ le4 x, y < 256 := by
  intro y hy
  simp only [le4, List.mem_cons, List.not_mem_nil, or_false] at hy
  rcases hy with rfl | rfl | rfl | rfl <;> exact Nat.mod_lt _ (by decide)
theorem B09 (W S : List Nat) : ∀ i, ∀ x ∈ otW W S i, x < 256
  | 0 => fun x hx => by cases hx
  | i + 1 => fun x hx => (List.mem_append.1 hx).elim (B09 W S i x) (B8c _ x)
theorem _root_.Go.Px.By.lo {R : Mem} {v : Value} {w : List Nat} (h : By R v w) (k : Nat) (hk : k ≤ w.length) : By R (vLo k 1 v) (w.drop k) := by
  refine ⟨?_, B6k h.lt k, by rw [List.length_drop]; have := h.len; omega⟩
  have h1 := h.rd.loV k hk
  rw [List.length_drop]
  simpa [nums] using h1
theorem B1a (v vn : Value) (kw nw : List Nat) (n : Nat) (A : Mem) (hk : By A v kw) (hno : By A vn nw) (hn : n < 4294967296) : FnX Tryz.prog 94 [v, .int .u32 ((n : Nat) : Int), vn] [] A fun q M J => M = [] ∧ By J q (B63 (G2 kw 32) n (G2 nw 12)) := by
 haveI := hk.cel
 haveI := hno.cel
 refine FnX.enterZ (N := 107) Tryz.func94 rfl rfl rfl fun w_ => ?_
 refine B0 (D4 0 1 2) (A1 (as_ (A0 (D4 0 1 2) (A1 (mv_ ?_)))))
 refine C6 (aS rfl (aS rfl a0)) kR (A3J v kw 32 _ (hk.mono SubC.sub) (by decide)) rfl ?_
 rintro v17 M17 J17 ⟨rfl, h17⟩
 haveI := h17.cel
 have hkl := K2 kw 32
 generalize G2 kw 32 = K at *
 have hKl := h17.lt
 refine mv_ ?_
 refine C6 (aS rfl (aS rfl a0)) kR (A3J vn nw 12 _ (hno.mono SubC.sub) (by decide)) rfl ?_
 rintro v19 M19 J19 ⟨rfl, h19⟩
 haveI := h19.cel
 have hnl := K2 nw 12
 generalize G2 nw 12 = N at *
 have hNl := h19.lt
 refine as_ (as_ (A0 (D4 0 1 2) (A1 ?_)))
 refine A2 (G1 (place := fun i => some (i * 1, 1)) (z := [F7, F7, F7, F7, F7, F7, F7, F7, F7, F7, F7, F7, F7, F7, F7, F7]) (fun _ => by kernel_rfl) (eS rfl (eS rfl (eS rfl (eS rfl e0)))) (bdS 0 1 rfl (by rfl) (bdS 1 1 rfl (by rfl) (bdS 2 1 rfl (by rfl) (bdS 3 1 rfl (by rfl) bd0))))) rfl ?_
 refine A4 rfl (C4 (cs := [F7, F7, F7, F7, F7, F7, F7, F7, F7, F7, F7, F7, F7, F7, F7, F7]) kR rfl fun b7 => ?_)
 refine A4 rfl (A9 (vs := nums .u32 (kyW K 0)) rfl rfl rfl kR (by rfl) E7 UpC.upd ?_)
 refine A0 (D6 0 1 2 7) (A3 (A1 (mv_ (A0 (E5 0 1 2 7 21) (A5 ?_)))))
 refine D9 (α := Nat) (fun i => [(0, v17), (1, .int .u32 ((n : Nat) : Int)), (2, v19), (7, .pointer (some ⟨b7, 0, none⟩)), (21, .int .i64 ((i : Nat) : Int))]) (fun i => [(b7, blk (nums .u32 (kyW K i)) 179)]) (fun _ => _) (fun i => i ≤ 8) (fun i => 8 - i) 0 (Nat.zero_le _) (E5 0 1 2 7 21) (Fit.eq rfl) (fun _ h => h) ?_
 rintro i hii
 try dsimp only at hii ⊢
 have hok := B07 hKl i
 refine A1 ?_
 refine A2 (D8 rfl rfl rfl) rfl ?_
 refine A0 (H9 0 1 2 7 21 22) (A3 ?_)
 refine C0 rfl (fun hc => ?_) (fun hc => ?_)
 ·
  have hlt : i < 8 := by simp at hc; omega
  refine A6 (nx (E5 0 1 2 7 21) (A3 (A5 (A1 (mv_ (as_ (A0 (H9 0 1 2 7 8 21) (A8 ?_))))))))
  refine mv_ ?_
  refine A2 (C8 ((4 + i : Nat) : Int) rfl rfl (E2 (by omega) (by omega) (by omega))) rfl ?_
  refine mv_ (mv_ ?_)
  refine A2 (C8 ((4 * i : Nat) : Int) rfl rfl (A1L (by omega) (by omega) (by omega))) rfl ?_
  refine A2 (A3d (sz := 1) (a := 4 * i) rfl rfl kR rfl h17.rd (by omega)) rfl ?_
  have h29 := h17.lo (4 * i) (by omega)
  haveI := h29.cel
  refine F3 (aS rfl a0) kR (B4w (vLo (4 * i) 1 v17) (K.drop (4 * i)) _ (h29.mono SubC.sub) (by rw [List.length_drop]; omega)) rfl ?_
  refine A2 (C9 (e := 27) (n := 16) (sz := 1) (i := 4 + i) (4 + i) rfl rfl kR kR rfl (by omega) (by omega)) rfl ?_
  refine A4 rfl (I4 (4 + i) rfl rfl kR rfl (by rw [hok.len]; omega) UpC.upd ?_)
  refine C1 (nb (nx (E5 0 1 2 7 21) (A8 ?_)))
  refine A2 (C8 ((i + 1 : Nat) : Int) rfl rfl (E2 (by omega) (by omega) (by omega))) rfl ?_
  refine mv_ (C1 ?_)
  exact rn (i + 1) (by omega) (by omega) (E5 0 1 2 7 21) (Fit.eq rfl) (fun _ h => h)
 ·
  obtain rfl : i = 8 := by simp at hc; omega
  refine D2 (te (re (be rfl (nx (D4 1 2 7) (A1 (mv_ ?_))))))
  refine A2 (C9 (e := 27) (n := 16) (sz := 1) (i := 12) (12) rfl rfl kR kR rfl (by omega) (by omega)) rfl ?_
  refine A4 rfl (I4 12 rfl rfl kR rfl (by rw [hok.len]; omega) UpC.upd ?_)
  refine A0 (D3 2 7) (A3 (A1 (mv_ (A0 (D4 2 7 35) (A5 ?_)))))
  refine D9 (α := Nat) (fun i => [(2, v19), (7, .pointer (some ⟨b7, 0, none⟩)), (35, .int .i64 ((i : Nat) : Int))]) (fun i => [(b7, blk (nums .u32 (nnW K n N i)) 179)]) (fun _ => _) (fun i => i ≤ 3) (fun i => 3 - i) 0 (Nat.zero_le _) (D4 2 7 35) (Fit.eq rfl) (fun _ h => h) ?_
  rintro j hij
  try dsimp only at hij ⊢
  have hok2 := B4x hKl hn hNl j
  refine A1 ?_
  refine A2 (D8 rfl rfl rfl) rfl ?_
  refine A0 (D6 2 7 35 36) (A3 ?_)
  refine C0 rfl (fun hc => ?_) (fun hc => ?_)
  ·
   have hlt : j < 3 := by simp at hc; omega
   refine A6 (nx (D4 2 7 35) (A3 (A5 (A1 (mv_ (as_ (A0 (D6 2 7 9 35) (A8 ?_))))))))
   refine mv_ ?_
   refine A2 (C8 ((13 + j : Nat) : Int) rfl rfl (E2 (by omega) (by omega) (by omega))) rfl ?_
   refine mv_ (mv_ ?_)
   refine A2 (C8 ((4 * j : Nat) : Int) rfl rfl (A1L (by omega) (by omega) (by omega))) rfl ?_
   refine A2 (A3d (sz := 1) (a := 4 * j) rfl rfl kR rfl h19.rd (by omega)) rfl ?_
   have h43 := h19.lo (4 * j) (by omega)
   haveI := h43.cel
   refine F3 (aS rfl a0) kR (B4w (vLo (4 * j) 1 v19) (N.drop (4 * j)) _ (h43.mono SubC.sub) (by rw [List.length_drop]; omega)) rfl ?_
   refine A2 (C9 (e := 27) (n := 16) (sz := 1) (i := 13 + j) (13 + j) rfl rfl kR kR rfl (by omega) (by omega)) rfl ?_
   refine A4 rfl (I4 (13 + j) rfl rfl kR rfl (by rw [hok2.len]; omega) UpC.upd ?_)
   refine C1 (nb (nx (D4 2 7 35) (A8 ?_)))
   refine A2 (C8 ((j + 1 : Nat) : Int) rfl rfl (E2 (by omega) (by omega) (by omega))) rfl ?_
   refine mv_ (C1 ?_)
   exact rn (j + 1) (by omega) (by omega) (D4 2 7 35) (Fit.eq rfl) (fun _ h => h)
  ·
   obtain rfl : j = 3 := by simp at hc; omega
   unfold B63
   obtain ⟨S, hSe⟩ : ∃ z, nnW K n N 3 = z := ⟨_, rfl⟩
   rw [hSe] at hok2 ⊢
   refine D2 (te (re (be rfl (nx (D7 7) (A1 ?_)))))
   refine A2 (L2 (n := 16) (cs := nums .u32 S) rfl kR At.mem (by rw [nums_len]; exact hok2.len)) rfl ?_
   refine A4 rfl (C4 (cs := [F7, F7, F7, F7, F7, F7, F7, F7, F7, F7, F7, F7, F7, F7, F7, F7]) kR rfl fun b10 => ?_)
   refine A4 rfl (A9 (vs := nums .u32 S) rfl rfl rfl (by rw [nums_len, hok2.len]; kernel_rfl) (by rw [nums_len, hok2.len]; rfl) E7 UpC.upd ?_)
   refine A0 (D3 7 10) (A3 (A1 (mv_ (A0 (D4 7 10 48) (A5 ?_)))))
   refine D9 (α := Nat) (fun i => [(7, .pointer (some ⟨b7, 0, none⟩)), (10, .pointer (some ⟨b10, 0, none⟩)), (48, .int .i64 ((i : Nat) : Int))]) (fun i => [(b10, blk (nums .u32 (rdW S i)) 179), (b7, blk (nums .u32 S) 179)]) (fun _ => _) (fun i => i ≤ 10) (fun i => 10 - i) 0 (Nat.zero_le _) (D4 7 10 48) (Fit.eq rfl) (fun _ h => h) ?_
   rintro k hik
   try dsimp only at hik ⊢
   have hok3 := B4y hok2 k
   refine A1 ?_
   refine A2 (D8 rfl rfl rfl) rfl ?_
   refine A0 (D6 7 10 48 49) (A3 ?_)
   refine C0 rfl (fun hc => ?_) (fun hc => ?_)
   ·
    have hlt : k < 10 := by simp at hc; omega
    refine A6 (nx (D4 7 10 48) (A3 (A5 (A3 (A1 (mv_ (A0 (D6 7 10 48 50) ?_)))))))
    refine A5 ?_
    refine D9 (α := Nat) (fun i => [(7, .pointer (some ⟨b7, 0, none⟩)), (10, .pointer (some ⟨b10, 0, none⟩)), (48, .int .i64 ((k : Nat) : Int)), (50, .int .i64 ((i : Nat) : Int))]) (fun i => [(b10, blk (nums .u32 (rdA (rdW S k) i)) 179), (b7, blk (nums .u32 S) 179)]) (fun _ => _) (fun i => i ≤ 4) (fun i => 4 - i) 0 (Nat.zero_le _) (D6 7 10 48 50) (Fit.eq rfl) (fun _ h => h) ?_
    rintro a hia
    try dsimp only at hia ⊢
    have hok := A7T hok3 a
    refine A1 ?_
    refine A2 (D8 rfl rfl rfl) rfl ?_
    refine A0 (E5 7 10 48 50 51) (A3 ?_)
    refine C0 rfl (fun hc => ?_) (fun hc => ?_)
    ·
     have hlt2 : a < 4 := by simp at hc; omega
     refine A6 (nx (D6 7 10 48 50) (A3 (A5 (A1 (mv_ (as_ (A0 (E5 7 10 11 48 50) (A8 ?_))))))))
     refine mv_ (mv_ ?_)
     refine A2 (C8 ((4 + a : Nat) : Int) rfl rfl (E2 (by omega) (by omega) (by omega))) rfl ?_
     refine mv_ ?_
     refine A2 (C8 ((8 + a : Nat) : Int) rfl rfl (E2 (by omega) (by omega) (by omega))) rfl ?_
     refine mv_ ?_
     refine A2 (C8 ((12 + a : Nat) : Int) rfl rfl (E2 (by omega) (by omega) (by omega))) rfl ?_
     refine A4 rfl (E0 (Mc := [(b10, blk (nums .u32 (rdA (rdW S k) a)) 179)]) (R := _) (aS rfl (aS rfl (aS rfl (aS rfl (aS rfl a0))))) kR PickC.perm (B06 b10 (rdA (rdW S k) a) (a) (4 + a) (8 + a) (12 + a) _ hok (by omega) (by omega) (by omega) (by omega)) rfl ?_)
     rintro vt Mt Jt ⟨rfl, rfl, rfl⟩
     refine C1 (nb (nx (D6 7 10 48 50) (A8 ?_)))
     refine A2 (C8 ((a + 1 : Nat) : Int) rfl rfl (E2 (by omega) (by omega) (by omega))) rfl ?_
     refine mv_ (C1 ?_)
     exact rn (a + 1) (by omega) (by omega) (D6 7 10 48 50) (Fit.eq rfl) (fun _ h => h)
    ·
     obtain rfl : a = 4 := by simp at hc; omega
     refine D2 (te (re (be rfl (nx (D4 7 10 48) (A1 (mv_ (A0 (D6 7 10 48 62) ?_)))))))
     refine A5 ?_
     refine D9 (α := Nat) (fun i => [(7, .pointer (some ⟨b7, 0, none⟩)), (10, .pointer (some ⟨b10, 0, none⟩)), (48, .int .i64 ((k : Nat) : Int)), (62, .int .i64 ((i : Nat) : Int))]) (fun i => [(b10, blk (nums .u32 (rdB (rdA (rdW S k) 4) i)) 179), (b7, blk (nums .u32 S) 179)]) (fun _ => _) (fun i => i ≤ 4) (fun i => 4 - i) 0 (Nat.zero_le _) (D6 7 10 48 62) (Fit.eq rfl) (fun _ h => h) ?_
     rintro b hib
     try dsimp only at hib ⊢
     have hok := B08 (A7T hok3 4) b
     refine A1 ?_
     refine A2 (D8 rfl rfl rfl) rfl ?_
     refine A0 (E5 7 10 48 62 63) (A3 ?_)
     refine C0 rfl (fun hc => ?_) (fun hc => ?_)
     ·
      have hlt2 : b < 4 := by simp at hc; omega
      refine A6 (nx (D6 7 10 48 62) (A3 (A5 (A1 (mv_ (as_ (A0 (E5 7 10 12 48 62) (A8 ?_))))))))
      refine mv_ (mv_ ?_)
      refine A2 (C8 ((b + 1 : Nat) : Int) rfl rfl (E2 (by omega) (by omega) (by omega))) rfl ?_
      refine A2 (R6 (a := b + 1) (b := 4) rfl rfl rfl rfl (by decide)) rfl ?_
      refine A2 (C8 ((4 + (b + 1) % 4 : Nat) : Int) rfl rfl (E2 (by omega) (by omega) (by omega))) rfl ?_
      refine mv_ ?_
      refine A2 (C8 ((b + 2 : Nat) : Int) rfl rfl (E2 (by omega) (by omega) (by omega))) rfl ?_
      refine A2 (R6 (a := b + 2) (b := 4) rfl rfl rfl rfl (by decide)) rfl ?_
      refine A2 (C8 ((8 + (b + 2) % 4 : Nat) : Int) rfl rfl (E2 (by omega) (by omega) (by omega))) rfl ?_
      refine mv_ ?_
      refine A2 (C8 ((b + 3 : Nat) : Int) rfl rfl (E2 (by omega) (by omega) (by omega))) rfl ?_
      refine A2 (R6 (a := b + 3) (b := 4) rfl rfl rfl rfl (by decide)) rfl ?_
      refine A2 (C8 ((12 + (b + 3) % 4 : Nat) : Int) rfl rfl (E2 (by omega) (by omega) (by omega))) rfl ?_
      refine A4 rfl (E0 (Mc := [(b10, blk (nums .u32 (rdB (rdA (rdW S k) 4) b)) 179)]) (R := _) (aS rfl (aS rfl (aS rfl (aS rfl (aS rfl a0))))) kR PickC.perm (B06 b10 (rdB (rdA (rdW S k) 4) b) (b) (4 + (b + 1) % 4) (8 + (b + 2) % 4) (12 + (b + 3) % 4) _ hok (by omega) (by omega) (by omega) (by omega)) rfl ?_)
      rintro vt Mt Jt ⟨rfl, rfl, rfl⟩
      refine C1 (nb (nx (D6 7 10 48 62) (A8 ?_)))
      refine A2 (C8 ((b + 1 : Nat) : Int) rfl rfl (E2 (by omega) (by omega) (by omega))) rfl ?_
      refine mv_ (C1 ?_)
      exact rn (b + 1) (by omega) (by omega) (D6 7 10 48 62) (Fit.eq rfl) (fun _ h => h)
     ·
      obtain rfl : b = 4 := by simp at hc; omega
      refine D2 (te (re (be rfl (nb (nx (D4 7 10 48) (A8 ?_))))))
      refine A2 (C8 ((k + 1 : Nat) : Int) rfl rfl (E2 (by omega) (by omega) (by omega))) rfl ?_
      refine mv_ (C1 ?_)
      exact rn (k + 1) (by omega) (by omega) (D4 7 10 48) (Fit.eq rfl) (fun _ h => h)
   ·
    obtain rfl : k = 10 := by simp at hc; omega
    obtain ⟨W, hWe⟩ : ∃ z, rdW S 10 = z := ⟨_, rfl⟩
    rw [hWe] at hok3 ⊢
    refine D2 (te (re (be rfl (nx (D3 7 10) (A1 (as_ (A0 (D4 7 10 13) ?_)))))))
    refine A3 (A1 (mv_ (A0 (D6 7 10 13 81) (A5 ?_))))
    refine D9 (α := Nat × Value × Mem) (fun y => [(7, .pointer (some ⟨b7, 0, none⟩)), (10, .pointer (some ⟨b10, 0, none⟩)), (13, y.2.1), (81, .int .i64 ((y.1 : Nat) : Int))]) (fun y => y.2.2 ++ [(b10, blk (nums .u32 W) 179), (b7, blk (nums .u32 S) 179)]) (fun _ => _) (fun y => y.1 ≤ 16 ∧ Sl 1 y.2.1 (4 * y.1) (nums .u8 (otW W S y.1)) y.2.2) (fun y => 16 - y.1) (0, .slice none 0 0, []) ⟨Nat.zero_le _, Sl.nil⟩ (D6 7 10 13 81) (Fit.eq (by simp)) (fun _ h => h) ?_
    rintro ⟨i, u, B⟩ ⟨hi, hsl⟩
    dsimp only at hi hsl ⊢
    haveI := hsl.cel
    refine A1 ?_
    refine A2 (D8 rfl rfl rfl) rfl ?_
    refine A0 (E5 7 10 13 81 82) (A3 ?_)
    refine C0 rfl (fun hc => ?_) (fun hc => ?_)
    ·
     have hlt : i < 16 := by simp at hc; omega
     refine A6 (nx (D6 7 10 13 81) (A3 (A5 (A1 (mv_ (as_ (A0 (E5 7 10 13 14 81) ?_)))))))
     refine C7 (.range 8) (zp 0 [0, 0, 1, 0, 0, 1, 0, 0]) kR kR fun hs => ?_
     refine fm_ hs ?_
     refine C2 hs rfl (C9 (e := 27) (n := 16) (sz := 1) (i := i) (i) rfl rfl kR kR rfl (by omega) (by omega)) rfl ?_
     refine G4 hs rfl (H8 i rfl kR At.mem rfl (by rw [hok3.len]; omega)) rfl ?_
     refine fm_ hs ?_
     refine C2 hs rfl (C9 (e := 27) (n := 16) (sz := 1) (i := i) (i) rfl rfl kR kR rfl (by omega) (by omega)) rfl ?_
     refine G4 hs rfl (H8 i rfl kR At.mem rfl (by rw [hok2.len]; omega)) rfl ?_
     refine C2 hs rfl (F1 4294967296 rfl rfl rfl rfl rfl rfl) rfl ?_
     obtain ⟨x, hx⟩ : ∃ x, (W.getD i 0 + S.getD i 0) % 4294967296 = x := ⟨_, rfl⟩
     rw [hx]
     refine fa_ hs ?_
     refine E4 (E5 7 10 13 15 81) (A8 (mv_ (mv_ ?_)))
     refine A2 (A1t rfl kR) rfl ?_
     refine mv_ ?_
     refine A2 (Q4 8 rfl rfl rfl (by decide)) rfl ?_
     refine A2 (A1t rfl kR) rfl ?_
     refine mv_ ?_
     refine A2 (Q4 16 rfl rfl rfl (by decide)) rfl ?_
     refine A2 (A1t rfl kR) rfl ?_
     refine mv_ ?_
     refine A2 (Q4 24 rfl rfl rfl (by decide)) rfl ?_
     refine A2 (A1t rfl kR) rfl ?_
     refine A4 rfl (C3 (e := 5) (sz := 1) (z := [zu8, zu8, zu8, zu8]) kR (eS rfl (eS rfl (eS rfl (eS rfl e0)))) (bdS 0 1 rfl (by rfl) (bdS 1 1 rfl (by rfl) (bdS 2 1 rfl (by rfl) (bdS 3 1 rfl (by rfl) bd0)))) rfl fun b103 => ?_)
     refine A4 rfl (H5 (e := 5) (sz := 1) (by_ := 1) rfl rfl kR rfl hsl (Rd.whole (n := 4) (cs := nums .u8 (le4 x)) At.mem (by rfl)) E7 PickC.perm (by unfold maxLen; omega) (by omega) rfl fun v104 B104 hs104 => ?_)
     haveI := hs104.cel
     refine as_ (C1 (nb (nx (D6 7 10 13 81) (A8 ?_))))
     refine A2 (C8 ((i + 1 : Nat) : Int) rfl rfl (E2 (by omega) (by omega) (by omega))) rfl ?_
     refine mv_ (C1 ?_)
     exact rn (i + 1, v104, B104) ⟨by dsimp only; omega, by dsimp only; show Sl 1 v104 (4 * (i + 1)) (nums .u8 (otW W S i ++ le4 ((W.getD i 0 + S.getD i 0) % 4294967296))) B104; rw [hx]; exact W6 hs104 (by omega) (by simp [nums])⟩ (by dsimp only; omega) (D6 7 10 13 81) (Fit.pick PickC.perm (Fit.last PickC.perm)) (fun _ h => h)
    ·
     obtain rfl : i = 16 := by simp at hc; omega
     refine D2 (te (re (be rfl (nx (D7 13) (A1 (mv_ (as_ (A0 (D7 6) ?_))))))))
     refine B4 ?_
     exact ⟨_, [], B, I7 rfl rfl, Fit.pick PickC.perm (Fit.sub (List.nil_sublist _)), rfl, ⟨A0H (hsl.rd fun x hx => by simp [hx]) (by rw [A3K]) rfl, B09 W S 16, by rw [A3K]; decide⟩⟩

def bkN (K : List Nat) (n : Nat) (N : List Nat) (q : Nat) : List Nat := B63 K ((n + q) % 4294967296) N
def stW (K : List Nat) (n : Nat) (N p : List Nat) : Nat → List Nat
  | 0 => List.replicate p.length 0
  | i + 1 => (stW K n N p i).set i (p.getD i 0 ^^^ (bkN K n N (i / 64)).getD (i % 64) 0)
def A5p (K : List Nat) (n : Nat) (N p : List Nat) : List Nat := stW K n N p p.length
theorem A5q (K : List Nat) (n : Nat) (N p : List Nat) : ∀ i, (stW K n N p i).length = p.length
  | 0 => by simp [stW]
  | i + 1 => by show ((stW K n N p i).set _ _).length = _; rw [List.length_set, A5q K n N p i]
theorem X8 (K : List Nat) (n : Nat) (N p : List Nat) : (A5p K n N p).length = p.length := A5q _ _ _ _ _
theorem B6l (K : List Nat) (n : Nat) (N : List Nat) (q : Nat) : (bkN K n N q).length = 64 := A3K _ _ _
theorem B8d (K : List Nat) (n : Nat) (N : List Nat) (q : Nat) : ∀ x ∈ bkN K n N q, x < 256 := B09 _ _ _
theorem xor8 {a b : Nat} (ha : a < 256) (hb : b < 256) : a ^^^ b < 256 := Nat.xor_lt_two_pow (n := 8) ha hb
theorem B4z {K N p : List Nat} {n : Nat} (h : ∀ x ∈ p, x < 256) : ∀ i, ∀ x ∈ stW K n N p i, x < 256
  | 0 => fun x hx => by rw [show stW K n N p 0 = List.replicate p.length 0 from rfl] at hx; rw [(List.mem_replicate.1 hx).2]; decide
  | i + 1 => fun x hx => by
    rcases List.mem_or_eq_of_mem_set hx with h1 | rfl
    · exact B4z h i x h1
    · exact xor8 (A0L h i) (A0L (B8d _ _ _ _) _)
theorem B1b (K : List Nat) (n : Nat) (N p : List Nat) : ∀ i j, j < p.length → (stW K n N p i).getD j 0 = if j < i then p.getD j 0 ^^^ (bkN K n N (j / 64)).getD (j % 64) 0 else 0
  | 0, j, hj => by
    show (List.replicate p.length 0).getD j 0 = _
    rw [if_neg (by omega), List.getD_eq_getElem?_getD, List.getElem?_replicate, if_pos hj]; rfl
  | i + 1, j, hj => by
    show ((stW K n N p i).set i _).getD j 0 = _
    rw [List.getD_eq_getElem?_getD, List.getElem?_set, A5q]
    by_cases h : i = j
    · subst h; rw [if_pos rfl, if_pos hj, if_pos (by omega)]; rfl
    · rw [if_neg h, ← List.getD_eq_getElem?_getD, B1b K n N p i j hj]
      by_cases h2 : j < i
      · rw [if_pos h2, if_pos (by omega)]
      · rw [if_neg h2, if_neg (by omega)]
theorem A7U (K : List Nat) (n : Nat) (N p : List Nat) {j : Nat} (hj : j < p.length) : (A5p K n N p).getD j 0 = p.getD j 0 ^^^ (bkN K n N (j / 64)).getD (j % 64) 0 := by
  unfold A5p
  rw [B1b _ _ _ _ _ _ hj, if_pos hj]
theorem A8N (K : List Nat) (n : Nat) (N p : List Nat) : A5p K n N (A5p K n N p) = p := by
  refine List.ext_getElem (by rw [X8, X8]) fun j h1 h2 => ?_
  have e : ∀ (l : List Nat) (h : j < l.length), l[j] = l.getD j 0 := fun l h => by rw [List.getD_eq_getElem?_getD, List.getElem?_eq_getElem h]; rfl
  rw [e _ h1, e _ h2, A7U _ _ _ _ (by rw [X8]; exact h2), A7U _ _ _ _ h2, Nat.xor_assoc, Nat.xor_self, Nat.xor_zero]
theorem B8e {i : Nat} (h : i < 9223372036854775808) : IntKind.i64.wrap (((i : Nat) : Int).tdiv 64) = ((i / 64 : Nat) : Int) := by
  rw [show ((i : Nat) : Int).tdiv 64 = ((i / 64 : Nat) : Int) from rfl]
  unfold IntKind.wrap
  simp [IntKind.signed, IntKind.bits]
  omega
theorem B6m {n : Nat} (h : n < 4294967296) : IntKind.u32.wrap (n : Int) = (n : Int) := by
  unfold IntKind.wrap
  simp [IntKind.signed, IntKind.bits]
  omega
theorem A7V (v vn vp : Value) (kw nw p : List Nat) (n : Nat) (A : Mem) (hk : By A v kw) (hno : By A vn nw) (hp : By A vp p) (hn : n < 4294967296) : FnX Tryz.prog 80 [v, .int .u32 ((n : Nat) : Int), vn, vp] [] A fun q M J => ∃ b, q = .slice (some ⟨b, 0, none⟩) p.length p.length ∧ M = [] ∧ By J q (A5p (G2 kw 32) n (G2 nw 12) p) := by
 haveI := hk.cel
 haveI := hno.cel
 haveI := hp.cel
 have hpl := hp.len
 refine FnX.enterZ (N := 46) Tryz.func80 rfl rfl rfl fun w_ => ?_
 refine B0 (D6 0 1 2 3) (A1 (as_ (A0 (D6 0 1 2 3) (A1 (mv_ ?_)))))
 refine A2 (G3 (sz := 1) rfl kR hp.rd) rfl ?_
 refine A4 rfl (A0o (by_ := 1) (k := .u8) (e := 5) p.length rfl rfl kR rfl rfl (by omega) (by omega) rfl fun b14 => ?_)
 refine as_ (A0 (E5 0 1 2 3 9) (A1 (as_ (A0 (H9 0 1 2 3 9 10) (A3 (A1 (mv_ ?_)))))))
 refine A2 (G3 (sz := 1) rfl kR hp.rd) rfl ?_
 refine mv_ (A0 (V7 0 1 2 3 9 10 16 17) (A5 ?_))
 refine D9 (α := Nat × Value × Mem) (fun y => [(0, v), (1, .int .u32 ((n : Nat) : Int)), (2, vn), (3, vp), (9, .slice (some ⟨b14, 0, none⟩) p.length p.length), (10, y.2.1), (16, .int .i64 ((p.length : Nat) : Int)), (17, .int .i64 ((y.1 : Nat) : Int))]) (fun y => [(b14, blk (nums .u8 (stW (G2 kw 32) n (G2 nw 12) p y.1)) 5)]) (fun y => y.2.2) (fun y => y.1 ≤ p.length ∧ ∃ w, By (y.2.2 ++ A) y.2.1 w ∧ (y.1 % 64 ≠ 0 → w = bkN (G2 kw 32) n (G2 nw 12) (y.1 / 64))) (fun y => p.length - y.1) (0, .slice none 0 0, []) ⟨Nat.zero_le _, [], By.nil, fun h => absurd rfl h⟩ (V7 0 1 2 3 9 10 16 17) (Fit.eq rfl) SubC.sub ?_
 rintro ⟨i, vb, Jb⟩ ⟨hi, wb, hvb, hwb⟩
 dsimp only at hi hvb hwb ⊢
 haveI := hvb.cel
 have hsl := A5q (G2 kw 32) n (G2 nw 12) p i
 refine A1 ?_
 refine A2 (D8 rfl rfl rfl) rfl ?_
 refine A0 (Z9 0 1 2 3 9 10 16 17 18) (A3 ?_)
 refine C0 rfl (fun hc => ?_) (fun hc => ?_)
 ·
  have hlt : i < p.length := by simp at hc; omega
  refine A6 (nx (V7 0 1 2 3 9 10 16 17) (A3 (A5 (A1 (mv_ (as_ (A0 (Z9 0 1 2 3 9 10 11 16 17) ?_)))))))
  refine N3 (α := Value × Mem) (fun y => [(0, v), (1, .int .u32 ((n : Nat) : Int)), (2, vn), (3, vp), (9, .slice (some ⟨b14, 0, none⟩) p.length p.length), (10, y.1), (11, .int .i64 ((i : Nat) : Int)), (16, .int .i64 ((p.length : Nat) : Int)), (17, .int .i64 ((i : Nat) : Int))]) (fun y => [(b14, blk (nums .u8 (stW (G2 kw 32) n (G2 nw 12) p i)) 5)]) (fun y => y.2) (fun y => By (y.2 ++ A) y.1 (bkN (G2 kw 32) n (G2 nw 12) (i / 64))) ?_ ?_
  ·
   refine A1 (mv_ ?_)
   refine A2 (R6 (a := i) (b := 64) rfl rfl rfl rfl (by decide)) rfl ?_
   refine A2 (D8 rfl rfl rfl) rfl ?_
   refine A0 (kq 0 (Z9 1 2 3 9 10 11 16 17 22)) ?_
   refine C0 rfl (fun hc => ?_) (fun hc => ?_)
   ·
    have h0 : i % 64 = 0 := by simp at hc; omega
    refine A8 (mv_ (mv_ (mv_ ?_)))
    refine A2 (B7j ((i / 64 : Nat) : Int) rfl rfl (by decide) (B8e (by omega))) rfl ?_
    refine A2 (A4F (k' := .u32) ((i / 64 : Nat) : Int) rfl kR (B6m (by omega))) rfl ?_
    refine A2 (F1 4294967296 rfl rfl rfl rfl rfl rfl) rfl ?_
    refine mv_ ?_
    refine C6 (aS rfl (aS rfl (aS rfl a0))) kR (B1a v vn kw nw ((n + i / 64) % 4294967296) _ (hk.mono SubC.sub) (hno.mono SubC.sub) (Nat.mod_lt _ (by decide))) rfl ?_
    rintro v30 M30 J30 ⟨rfl, h30⟩
    haveI := h30.cel
    refine as_ (C1 ?_)
    exact jn (v30, J30 ++ Jb) (h30.mono SubC.sub) (Z9 0 1 2 3 9 10 11 16 17) (Fit.eq rfl) (fun _ h => by simpa using h)
   ·
    have h0 : i % 64 ≠ 0 := by simp at hc; omega
    refine A6 ?_
    exact jn (vb, Jb) (hwb h0 ▸ hvb) (Z9 0 1 2 3 9 10 11 16 17) (Fit.eq rfl) (fun _ h => h)
  ·
   rintro ⟨v2, J2⟩ hb2
   try dsimp only at hb2 ⊢
   haveI := hb2.cel
   have hbl := B6l (G2 kw 32) n (G2 nw 12) (i / 64)
   have hm := Nat.mod_lt i (by decide : 0 < 64)
   refine F9 (.range 13) (zp 0 [0, 0, 0, 0, 0, 1, 0, 0, 0, 0, 1, 0, 0, 2]) kR kR fun hs => ?_
   refine fm_ hs ?_
   refine fm_ hs ?_
   refine fm_ hs ?_
   refine fm_ hs ?_
   refine C2 hs rfl (I1 (sz := 1) (a := i) rfl rfl kR rfl hp.rd hlt) rfl ?_
   refine G4 hs rfl (A0q (k := .u8) rfl kR (hp.rd.mono SubC.sub) hlt) rfl ?_
   refine fm_ hs ?_
   refine fm_ hs ?_
   refine C2 hs rfl (R6 (a := i) (b := 64) rfl rfl rfl rfl (by decide)) rfl ?_
   refine C2 hs rfl (I1 (sz := 1) (a := i % 64) rfl rfl kR rfl hb2.rd (by omega)) rfl ?_
   refine G4 hs rfl (A0q (k := .u8) rfl kR (hb2.rd.mono SubC.sub) (by omega)) rfl ?_
   refine C2 hs rfl (A9c rfl rfl (A0L hp.lt _) (A0L hb2.lt _)) rfl ?_
   refine C2 hs rfl (K6 (e := 5) (i := i) (sz := 1) rfl rfl kR kR rfl hlt) rfl ?_
   refine F5 rfl rfl rfl (I4 i rfl rfl kR (by omega) (by omega) UpC.upd ?_)
   refine Q9 (nb (nx (V7 0 1 2 3 9 10 16 17) (A8 ?_)))
   refine A2 (C8 ((i + 1 : Nat) : Int) rfl rfl (E2 (by omega) (by omega) (by omega))) rfl ?_
   refine mv_ (C1 ?_)
   exact rn (i + 1, v2, J2) ⟨hlt, _, hb2, fun h => by rw [show (i + 1) / 64 = i / 64 by omega]⟩ (by dsimp only; omega) (V7 0 1 2 3 9 10 16 17) (Fit.eq rfl) (fun _ h => h)
 ·
  obtain rfl : i = p.length := by simp at hc; omega
  refine D2 (te (re (be rfl (nx (D7 9) (A1 (mv_ (as_ (A0 (D7 8) ?_))))))))
  refine B4 ?_
  refine ⟨_, [], [(b14, blk (nums .u8 (stW (G2 kw 32) n (G2 nw 12) p p.length)) 5)], I7 rfl rfl, Fit.eq (by simp), b14, rfl, rfl, ⟨?_, B4z hp.lt _, by rw [X8]; exact hp.len⟩⟩
  rw [X8]
  exact Rd.whole (n := p.length) List.mem_cons_self (by simp [nums, X8])
theorem B3B (v vn vp : Value) (kw nw p : List Nat) (n : Nat) (A : Mem) (hk : By A v kw) (hno : By A vn nw) (hp : By A vp p) (hn : n < 4294967296) : FnX Tryz.prog 80 [v, .int .u32 ((n : Nat) : Int), vn, vp] [] A fun q M J => M = [] ∧ By J q (A5p (G2 kw 32) n (G2 nw 12) p) :=
  (A7V v vn vp kw nw p n A hk hno hp hn).mono fun q M J ⟨_, _, h1, h2⟩ => ⟨h1, h2⟩

structure L5 (l : List Nat) : Prop where
  len : l.length = 5
  lt : ∀ x ∈ l, x < 18446744073709551616
theorem L5.get {l : List Nat} (h : L5 l) (i : Nat) : l.getD i 0 < 18446744073709551616 := by
  rw [List.getD_eq_getElem?_getD]
  cases hq : l[i]? with
  | none => decide
  | some x => exact h.lt x (List.mem_of_getElem? hq)
theorem L5.set {l : List Nat} (h : L5 l) (i x : Nat) (hx : x < 18446744073709551616) : L5 (l.set i x) := ⟨by rw [List.length_set]; exact h.len, fun y hy => by rcases List.mem_or_eq_of_mem_set hy with h1 | rfl; exact h.lt y h1; exact hx⟩
def cy1 (l : List Nat) (c i : Nat) : List Nat := l.set i ((l.getD i 0 + c) % 18446744073709551616)
def cyS (a : List Nat) : Nat → List Nat × Nat
  | 0 => (a, 0)
  | i + 1 => ((cy1 (cyS a i).1 (cyS a i).2 i).set i ((cy1 (cyS a i).1 (cyS a i).2 i).getD i 0 &&& 67108863), (cy1 (cyS a i).1 (cyS a i).2 i).getD i 0 >>> 26)
def cyN (a : List Nat) : List Nat := (cyS a 5).1.set 0 (((cyS a 5).1.getD 0 0 + 5 * (cyS a 5).2 % 18446744073709551616) % 18446744073709551616)
theorem L5.c1 {l : List Nat} (h : L5 l) (c i : Nat) : L5 (cy1 l c i) := h.set _ _ (Nat.mod_lt _ (by decide))
theorem B3C (x : Nat) : x &&& 67108863 < 18446744073709551616 := Nat.lt_of_le_of_lt Nat.and_le_right (by decide)
theorem B3D {x : Nat} (h : x < 18446744073709551616) (k : Nat) : x >>> k < 18446744073709551616 := by rw [Nat.shiftRight_eq_div_pow]; exact Nat.lt_of_le_of_lt (Nat.div_le_self _ _) h
theorem A7W {a : List Nat} (h : L5 a) : ∀ i, L5 (cyS a i).1 ∧ (cyS a i).2 < 18446744073709551616
  | 0 => ⟨h, (show 0 < 18446744073709551616 by decide)⟩
  | i + 1 => ⟨((A7W h i).1.c1 _ _).set _ _ (B3C _), B3D (((A7W h i).1.c1 _ _).get _) _⟩
theorem U2 {a : List Nat} (h : L5 a) : L5 (cyN a) := (A7W h 5).1.set _ _ (Nat.mod_lt _ (by decide))
theorem A3L (a : List Nat) (A : Mem) (ha : L5 a) : FnV Tryz.prog 128 [.agg (nums .u64 a).toArray] A (.agg (nums .u64 (cyN a)).toArray) := by
 refine FnX.enter (N := 31) Tryz.func128 rfl rfl rfl fun w => ?_
 refine B0 (D7 0) (A1 ?_)
 refine A4 rfl (bx_ fun b1 => ?_)
 refine A4 rfl (C4 (cs := [E3, E3, E3, E3, E3]) kR rfl fun b2 => ?_)
 refine A0 (D3 1 2) (A1 (as_ (A0 (D4 1 2 3) (A3 (A1 (mv_ (A0 (D6 1 2 3 5) ?_)))))))
 refine A5 ?_
 refine D9 (α := Nat) (fun i => [(1, .pointer (some ⟨b1, 0, none⟩)), (2, .pointer (some ⟨b2, 0, none⟩)), (3, .int .u64 (((cyS a i).2 : Nat) : Int)), (5, .int .i64 ((i : Nat) : Int))]) (fun i => [(b2, blk [.int .u64 0, .int .u64 0, .int .u64 0, .int .u64 0, .int .u64 0] 152), (b1, blk (nums .u64 (cyS a i).1) 152)]) (fun _ => _) (fun i => i ≤ 5) (fun i => 5 - i) 0 (Nat.zero_le _) (D6 1 2 3 5) (Fit.eq rfl) (fun _ h => h) ?_
 rintro i hi
 try dsimp only at hi ⊢
 obtain ⟨hok, hcl⟩ := A7W ha i
 have hk1 := hok.c1 (cyS a i).2 i
 refine A1 ?_
 refine A2 (D8 rfl rfl rfl) rfl ?_
 refine A0 (E5 1 2 3 5 6) (A3 ?_)
 refine C0 rfl (fun hc => ?_) (fun hc => ?_)
 ·
  have hlt : i < 5 := by simp at hc; omega
  refine A6 (nx (D6 1 2 3 5) (A3 (A5 (A1 (mv_ (as_ (A0 (E5 1 2 3 4 5) (A1 ?_))))))))
  refine mv_ ?_
  refine A2 (C9 (e := 94) (n := 5) (sz := 1) (i := i) (i) rfl rfl kR kR rfl (by omega) (by omega)) rfl ?_
  refine A2 (H8 (i) rfl kR At.mem rfl (by rw [hok.len]; omega)) rfl ?_
  refine mv_ ?_
  refine A2 (F1 18446744073709551616 rfl rfl rfl rfl rfl rfl) rfl ?_
  refine A2 (C9 (e := 94) (n := 5) (sz := 1) (i := i) (i) rfl rfl kR kR rfl (by omega) (by omega)) rfl ?_
  refine A4 rfl (I4 (i) rfl rfl kR rfl (by rw [hok.len]; omega) UpC.upd ?_)
  change XL _ _ _ _ _ [(b2, blk [.int .u64 0, .int .u64 0, .int .u64 0, .int .u64 0, .int .u64 0] 152), (b1, blk (nums .u64 (cy1 (cyS a i).1 (cyS a i).2 i)) 152)] _
  refine A0 (D6 1 2 4 5) (A1 (mv_ ?_))
  refine A2 (C9 (e := 94) (n := 5) (sz := 1) (i := i) (i) rfl rfl kR kR rfl (by omega) (by omega)) rfl ?_
  refine A2 (H8 (i) rfl kR At.mem rfl (by rw [hk1.len]; omega)) rfl ?_
  refine A2 (Q4 26 rfl rfl rfl (by decide)) rfl ?_
  refine as_ (A0 (E5 1 2 3 4 5) (A8 (mv_ ?_)))
  refine A2 (C9 (e := 94) (n := 5) (sz := 1) (i := i) (i) rfl rfl kR kR rfl (by omega) (by omega)) rfl ?_
  refine A2 (H8 (i) rfl kR At.mem rfl (by rw [hk1.len]; omega)) rfl ?_
  refine A2 (A3Y (b := 67108863) rfl rfl rfl (by show _ < 18446744073709551616; exact hk1.get _) (by decide)) rfl ?_
  refine A2 (C9 (e := 94) (n := 5) (sz := 1) (i := i) (i) rfl rfl kR kR rfl (by omega) (by omega)) rfl ?_
  refine A4 rfl (I4 (i) rfl rfl kR rfl (by rw [hk1.len]; omega) UpC.upd ?_)
  refine C1 (nb (nx (D6 1 2 3 5) (A8 ?_)))
  refine A2 (C8 ((i + 1 : Nat) : Int) rfl rfl (E2 (by omega) (by omega) (by omega))) rfl ?_
  refine mv_ (C1 ?_)
  exact rn (i + 1) (by omega) (by omega) (D6 1 2 3 5) (Fit.eq rfl) (fun _ h => h)
 ·
  obtain rfl : i = 5 := by simp at hc; omega
  refine D2 (te (re (be rfl (nx (D4 1 2 3) (A1 ?_)))))
  refine A2 (C9 (e := 94) (n := 5) (sz := 1) (i := 0) (0) rfl rfl kR kR rfl (by omega) (by omega)) rfl ?_
  refine A2 (H8 (0) rfl kR At.mem rfl (by rw [hok.len]; omega)) rfl ?_
  refine mv_ ?_
  refine A2 (L9 18446744073709551616 rfl rfl rfl rfl rfl rfl) rfl ?_
  refine A2 (F1 18446744073709551616 rfl rfl rfl rfl rfl rfl) rfl ?_
  refine A2 (C9 (e := 94) (n := 5) (sz := 1) (i := 0) (0) rfl rfl kR kR rfl (by omega) (by omega)) rfl ?_
  refine A4 rfl (I4 (0) rfl rfl kR rfl (by rw [hok.len]; omega) UpC.upd ?_)
  refine A0 (D3 1 2) ?_
  refine A1I (M' := [(b2, blk [.int .u64 0, .int .u64 0, .int .u64 0, .int .u64 0, .int .u64 0] 152), (b1, blk (nums .u64 (cyN a)) 152)]) (Fit.eq rfl) (fun _ h => h) ?_
  refine A1 ?_
  refine A2 (L2 (n := 5) (cs := nums .u64 (cyN a)) rfl kR At.mem (by rw [nums_len]; exact (U2 ha).len)) rfl ?_
  refine A4 rfl (A9 (vs := nums .u64 (cyN a)) rfl rfl rfl (by rw [nums_len, (U2 ha).len]; kernel_rfl) (by rw [nums_len, (U2 ha).len]; rfl) E7 UpC.upd ?_)
  refine A0 (D7 2) (B4 ?_)
  exact ⟨_, [], [], A3U (n := 5) rfl rfl kR At.mem (by rw [nums_len, (U2 ha).len]), List.nil_sublist _, by simp, rfl, rfl, rfl⟩

end Go.Proofs.YtlilcmjbaknafaaGreatDoor
