/- Part 12 of the texts of this claim, one behind the other. -/
import Derived.Test.YtlilcmjbaknafaaGreatDoorB11
import Derived.SizedLaws
set_option linter.unusedVariables false
set_option linter.unusedSimpArgs false
set_option maxRecDepth 100000
namespace Go.Proofs.YtlilcmjbaknafaaGreatDoor
open Go.Px
def I6 (w : List Nat) : List Nat := (fun e : List Nat => (e.set 0 (e.getD 0 0 &&& 248)).set 31 ((e.set 0 (e.getD 0 0 &&& 248)).getD 31 0 % 128 ||| 64)) (G2 w 32)
theorem B0L (w : List Nat) : G2 w 32 = w.take 32 ++ (List.replicate 32 0).drop w.length := by unfold G2; rw [List.drop_replicate]
theorem A2f (w : List Nat) : (I6 w).length = 32 := by simp [I6, K2]
structure Lad where
  a : Nat
  b : Nat
  c : Nat
  d : Nat
def B0M (u : Nat) (s : Lad) : Lad :=
  let p := fA s.a s.b
  let q := fS s.a s.b
  let ss := fM p p
  let tt := fM q q
  let e := fS ss tt
  let da := fM (fS s.c s.d) p
  let cb := fM (fA s.c s.d) q
  ⟨fM ss tt, fM e (fA ss (fM 121665 e)), fM (fA da cb) (fA da cb), fM u (fM (fS da cb) (fS da cb))⟩
def swL (b : Bool) (s : Lad) : Lad := if b then ⟨s.c, s.d, s.a, s.b⟩ else s
def A13 (u n : Nat) : Nat → Lad
  | 0 => ⟨1, 0, u, 1⟩
  | k + 1 => (fun bt => swL bt (B0M u (swL bt (A13 u n k)))) (decide (n / 2 ^ (254 - k) % 2 = 1))
theorem B0N {u n i : Nat} (h : i < 255) : A13 u n (255 - i) = swL (decide (n / 2 ^ i % 2 = 1)) (B0M u (swL (decide (n / 2 ^ i % 2 = 1)) (A13 u n (255 - (i + 1))))) := by
  obtain ⟨k, hk⟩ : ∃ k, 255 - i = k + 1 := ⟨254 - i, by omega⟩
  have e1 : 255 - (i + 1) = k := by omega
  have e2 : i = 254 - k := by omega
  rw [hk, e1, e2]; rfl
noncomputable def x25 (s p : List Nat) : List Nat := A01 8 32 (fM (A13 (rdN p) (bv (I6 s)) 255).a (fI (A13 (rdN p) (bv (I6 s)) 255).b)) 255
def B3l : List Nat := 9 :: List.replicate 31 0
noncomputable def A0m (s : List Nat) : List Nat := x25 s B3l
theorem A2g (s p : List Nat) : (x25 s p).length = 32 := by simp [x25, N9]
theorem B0O (s p : List Nat) : ∀ x ∈ x25 s p, x < 256 := B0o _ _
theorem B4p {x : Nat} (h : x < 256) : (x &&& 248) < 256 := Nat.lt_of_le_of_lt Nat.and_le_left h
theorem or64 {x : Nat} (h : x < 128) : (x ||| 64) < 256 := Nat.lt_of_lt_of_le (Nat.or_lt_two_pow (n := 7) h (by decide)) (by decide)
theorem A6h {w : List Nat} (h : ∀ x ∈ w, x < 256) : ∀ x ∈ I6 w, x < 256 := by
  intro x hx
  have hf := A0Z h 32
  unfold I6 at hx
  rcases List.mem_or_eq_of_mem_set hx with h1 | rfl
  · rcases List.mem_or_eq_of_mem_set h1 with h1 | rfl
    · exact hf x h1
    · exact B4p (Go.Px.getD_lt hf (by decide))
  · exact or64 (Nat.mod_lt _ (by decide))
theorem B52 (v : Value) (wc : List Nat) (A : Mem) (hv : By A v wc) : FnV Tryz.prog 85 [v] A (.agg (nums .u8 (I6 wc)).toArray) := by
 haveI := hv.cel
 have hvl := hv.len
 refine FnX.enter (N := 17) Tryz.func85 rfl rfl rfl fun w => ?_
 refine B0 (D7 0) (A1 ?_)
 refine A4 rfl (C4 (cs := [zu8, zu8, zu8, zu8, zu8, zu8, zu8, zu8, zu8, zu8, zu8, zu8, zu8, zu8, zu8, zu8, zu8, zu8, zu8, zu8, zu8, zu8, zu8, zu8, zu8, zu8, zu8, zu8, zu8, zu8, zu8, zu8]) kR rfl fun b2 => ?_)
 refine A0 (D3 0 2) (A1 ?_)
 refine A4 rfl (C4 (cs := [zu8, zu8, zu8, zu8, zu8, zu8, zu8, zu8, zu8, zu8, zu8, zu8, zu8, zu8, zu8, zu8, zu8, zu8, zu8, zu8, zu8, zu8, zu8, zu8, zu8, zu8, zu8, zu8, zu8, zu8, zu8, zu8]) kR rfl fun b3 => ?_)
 refine A0 (D4 0 2 3) ?_
 refine A1I (M' := [(b3, blk (nums .u8 (List.replicate 32 0)) 150), (b2, blk [.int .u8 0, .int .u8 0, .int .u8 0, .int .u8 0, .int .u8 0, .int .u8 0, .int .u8 0, .int .u8 0, .int .u8 0, .int .u8 0, .int .u8 0, .int .u8 0, .int .u8 0, .int .u8 0, .int .u8 0, .int .u8 0, .int .u8 0, .int .u8 0, .int .u8 0, .int .u8 0, .int .u8 0, .int .u8 0, .int .u8 0, .int .u8 0, .int .u8 0, .int .u8 0, .int .u8 0, .int .u8 0, .int .u8 0, .int .u8 0, .int .u8 0, .int .u8 0] 150)]) (Fit.eq rfl) (fun _ h => h) ?_
 refine A1 ?_
 refine A2 (B5h (sz := 1) (e := 5) (n := 32) rfl kR kR) rfl ?_
 refine mv_ ?_
 refine A4 rfl (A3j (e := 5) (us := wc) (ws := List.replicate 32 0) (ws' := G2 wc 32) (by_ := 1) rfl rfl kR (hv.rd.mono SubC.sub) (by simp) (B0L wc) UpC.upd rfl ?_)
 have hfl := K2 wc 32
 have hflt := A0Z hv.lt 32
 have hcl : I6 wc = ((G2 wc 32).set 0 ((G2 wc 32).getD 0 0 &&& 248)).set 31 (((G2 wc 32).set 0 ((G2 wc 32).getD 0 0 &&& 248)).getD 31 0 % 128 ||| 64) := rfl
 generalize G2 wc 32 = e at *
 have he0 : e.getD 0 0 < 256 := Go.Px.getD_lt hflt (by decide)
 have he1 : (e.set 0 (e.getD 0 0 &&& 248)).getD 31 0 < 256 := Go.Px.getD_lt (fun x hx => by rcases List.mem_or_eq_of_mem_set hx with h | rfl; exact hflt x h; exact B4p he0) (by decide)
 refine A0 (D3 2 3) (A1 ?_)
 refine A2 (E9 (e := 5) (n := 32) (sz := 1) (i := 0) rfl rfl kR kR rfl (by omega)) rfl ?_
 refine A2 (H8 0 rfl kR At.mem rfl (by omega)) rfl ?_
 refine A2 (A3Y (b := 248) rfl rfl rfl (by show _ < 256; exact he0) (by decide)) rfl ?_
 refine A2 (E9 (e := 5) (n := 32) (sz := 1) (i := 0) rfl rfl kR kR rfl (by omega)) rfl ?_
 refine A4 rfl (I4 0 rfl rfl kR rfl (by omega) UpC.upd ?_)
 refine A0 (D3 2 3) (A1 ?_)
 refine A2 (E9 (e := 5) (n := 32) (sz := 1) (i := 31) rfl rfl kR kR rfl (by omega)) rfl ?_
 refine A2 (H8 31 rfl kR At.mem rfl (by rw [List.length_set]; omega)) rfl ?_
 refine A2 (N1 7 128 rfl rfl rfl rfl rfl (by show _ < 256; exact he1) (by decide)) rfl ?_
 refine A2 (B3T (b := 64) rfl rfl rfl (by show _ < 256; exact Nat.lt_trans (Nat.mod_lt _ (by decide)) (by decide)) (by decide)) rfl ?_
 refine A2 (E9 (e := 5) (n := 32) (sz := 1) (i := 31) rfl rfl kR kR rfl (by omega)) rfl ?_
 refine A4 rfl (I4 31 rfl rfl kR rfl (by rw [List.length_set]; omega) UpC.upd ?_)
 rw [← hcl]
 have hcn := A2f wc
 refine A0 (D3 2 3) (A1 ?_)
 refine A2 (L2 (n := 32) (cs := nums .u8 (I6 wc)) rfl kR At.mem (by rw [nums_len]; omega)) rfl ?_
 refine A4 rfl (A9 (vs := nums .u8 (I6 wc)) rfl rfl rfl (by rw [nums_len, hcn]; kernel_rfl) (by rw [nums_len, hcn]; rfl) E7 UpC.upd ?_)
 refine A0 (D7 2) (B4 ?_)
 exact ⟨_, [], [], A3U (n := 32) rfl rfl kR At.mem (by rw [nums_len, hcn]), List.nil_sublist _, by simp, rfl, rfl, rfl⟩
def LadR (r : Value) (s : Lad) : Prop := ∃ v0 v1 v2 v3, r = .tuple #[v0, v1, v2, v3] ∧ Fe v0 s.a ∧ Fe v1 s.b ∧ Fe v2 s.c ∧ Fe v3 s.d
theorem A5g {xs : List Nat} {n : Nat} (h : Fe (.agg (nums .u64 xs).toArray) n) : ∃ a b c d e, xs = [a, b, c, d, e] := by
  obtain ⟨a, b, c, d, e, h1, -⟩ := h
  refine ⟨a, b, c, d, e, ?_⟩
  have h2 := congrArg Array.toList (Value.agg.inj h1)
  exact B0F (k := .u64) (b := [a, b, c, d, e]) h2
theorem B4q (vu va vb vc vd : Value) (xu xa xb xc xd : Nat) (A : Mem) (hU : Fe vu xu) (hA : Fe va xa) (hB : Fe vb xb) (hC : Fe vc xc) (hD : Fe vd xd) : FnX Tryz.prog 88 [vu, va, vb, vc, vd] [] A fun r M J => M = [] ∧ J = [] ∧ LadR r (B0M xu ⟨xa, xb, xc, xd⟩) := by
 have hU0 := hU
 obtain ⟨pu0, pu1, pu2, pu3, pu4, rfl, -⟩ := hU
 have hA0 := hA
 obtain ⟨pa0, pa1, pa2, pa3, pa4, rfl, -⟩ := hA
 have hB0 := hB
 obtain ⟨pb0, pb1, pb2, pb3, pb4, rfl, -⟩ := hB
 have hC0 := hC
 obtain ⟨pc0, pc1, pc2, pc3, pc4, rfl, -⟩ := hC
 have hD0 := hD
 obtain ⟨pd0, pd1, pd2, pd3, pd4, rfl, -⟩ := hD
 refine FnX.enter (N := 68) Tryz.func88 rfl rfl rfl fun w => ?_
 refine B0 (E5 0 1 2 3 4) (A1 ?_)
 refine A4 rfl (bx_ fun b5 => ?_)
 refine A4 rfl (bx_ fun b6 => ?_)
 refine A4 rfl (bx_ fun b7 => ?_)
 refine A4 rfl (bx_ fun b8 => ?_)
 refine A4 rfl (bx_ fun b9 => ?_)
 refine A4 rfl (C4 (cs := [E3, E3, E3, E3, E3]) kR rfl fun b10 => ?_)
 refine A4 rfl (C4 (cs := [E3, E3, E3, E3, E3]) kR rfl fun b11 => ?_)
 refine A4 rfl (C4 (cs := [E3, E3, E3, E3, E3]) kR rfl fun b12 => ?_)
 refine A4 rfl (C4 (cs := [E3, E3, E3, E3, E3]) kR rfl fun b13 => ?_)
 refine A0 (Z9 5 6 7 8 9 10 11 12 13) ?_
 refine C7 (.range 8) [(0, 1), (1, 1), (3, 1), (4, 1), (2, 3), (5, 3), (6, 3), (7, 4), (8, 2), (9, 2)] kR kR fun hs => ?_
 refine G4 hs rfl (qw_ 5) rfl ?_
 refine G4 hs rfl (qw_ 5) rfl ?_
 refine G4 hs rfl (qw_ 5) rfl ?_
 refine G4 hs rfl (qw_ 5) rfl ?_
 refine A0X [⟨2, 25, fun v B _ => B = [] ∧ Fe v (fA xa xb)⟩, ⟨5, 28, fun v B _ => B = [] ∧ Fe v (fS xa xb)⟩, ⟨6, 14, fun v B _ => ∃ b, v = .pointer (some ⟨b, 0, none⟩) ∧ B = [(b, blk [.int .u64 0, .int .u64 0, .int .u64 0, .int .u64 0, .int .u64 0] 153)]⟩, ⟨7, 15, fun v B _ => ∃ b, v = .pointer (some ⟨b, 0, none⟩) ∧ B = [(b, blk [.int .u64 0, .int .u64 0, .int .u64 0, .int .u64 0, .int .u64 0] 153)]⟩]
  (A7 (fun _ _ _ _ _ h => h) (A7 (fun _ _ _ _ _ h => h) (A7 (fun _ _ _ _ _ h => h) (A7 (fun _ _ _ _ _ h => h) (K9))))) (show List.Nodup [25, 28, 14, 15] by decide) (show List.Nodup [2, 5, 6, 7] by decide) (A7 (C5 rfl) (A7 (C5 rfl) (A7 (C5 rfl) (A7 (C5 rfl) (K9)))))
  (A7 ⟨_, rfl, fun vs bs R w hb ha => ⟨.inl rfl, ?_⟩⟩ (A7 ⟨_, rfl, fun vs bs R w hb ha => ⟨.inl rfl, ?_⟩⟩ (A7 ⟨_, rfl, fun vs bs R w hb ha => ⟨.inl rfl, ?_⟩⟩ (A7 ⟨_, rfl, fun vs bs R w hb ha => ⟨.inl rfl, ?_⟩⟩ (K9))))) ?_
 ·
  refine H7 (aS rfl (aS rfl (a0))) kR (B2Z hA0 hB0 _) rfl ?_
  rintro r M1 J1 ⟨rfl, rfl, hh⟩
  exact ⟨_, rfl, rfl, hh⟩
 ·
  refine H7 (aS rfl (aS rfl (a0))) kR (B2Y hA0 hB0 _) rfl ?_
  rintro r M1 J1 ⟨rfl, rfl, hh⟩
  exact ⟨_, rfl, rfl, hh⟩
 ·
  exact C4 (cs := [E3, E3, E3, E3, E3]) kR rfl fun b => ⟨_, rfl, b, rfl, rfl⟩
 ·
  exact C4 (cs := [E3, E3, E3, E3, E3]) kR rfl fun b => ⟨_, rfl, b, rfl, rfl⟩
 intro vs bs Jn0 hφ
 have g2 := ofH hφ
 dsimp only at g2
 replace hφ := ofT hφ
 have g5 := ofH hφ
 dsimp only at g5
 replace hφ := ofT hφ
 have g6 := ofH hφ
 dsimp only at g6
 replace hφ := ofT hφ
 have g7 := ofH hφ
 dsimp only at g7
 clear hφ
 dsimp only [A0k, U3, List.map, List.flatten, List.cons_append, List.nil_append]
 generalize bs 2 = B25 at *
 generalize bs 5 = B28 at *
 generalize bs 6 = B14 at *
 generalize bs 7 = B15 at *
 generalize vs 2 = u25 at *
 generalize vs 5 = u28 at *
 generalize vs 6 = u14 at *
 generalize vs 7 = u15 at *
 obtain ⟨rfl, k2⟩ := g2
 have h2 := k2
 obtain ⟨a2, b2, c2, d2, e2, rfl, -⟩ := k2
 obtain ⟨rfl, k5⟩ := g5
 have h5 := k5
 obtain ⟨a5, b5, c5, d5, e5, rfl, -⟩ := k5
 obtain ⟨b6, rfl, rfl⟩ := g6
 obtain ⟨b7, rfl, rfl⟩ := g7
 dsimp only [List.append_eq, List.nil_append, List.cons_append]
 have hp := h2
 have hq := h5
 clear h2 h5
 refine F5 rfl rfl rfl (A9 rfl rfl Cel.cel kR ln5 al5 UpC.upd ?_)
 refine F5 rfl rfl rfl (A9 rfl rfl Cel.cel kR ln5 al5 UpC.upd ?_)
 refine E4 (Z9 5 8 9 10 11 12 13 14 15) ?_
 refine C7 [0, 1, 2, 3, 4, 5] [(0, 1), (2, 1), (1, 3), (3, 3), (4, 3), (5, 4), (6, 2), (7, 2)] kR kR fun hs => ?_
 refine G4 hs rfl (qw_ 5) rfl ?_
 refine G4 hs rfl (qw_ 5) rfl ?_
 refine A0X [⟨1, 30, fun v B _ => B = [] ∧ Fe v (fM (fA xa xb) (fA xa xb))⟩, ⟨3, 32, fun v B _ => B = [] ∧ Fe v (fM (fS xa xb) (fS xa xb))⟩, ⟨4, 16, fun v B _ => ∃ b, v = .pointer (some ⟨b, 0, none⟩) ∧ B = [(b, blk [.int .u64 0, .int .u64 0, .int .u64 0, .int .u64 0, .int .u64 0] 153)]⟩, ⟨5, 17, fun v B _ => ∃ b, v = .pointer (some ⟨b, 0, none⟩) ∧ B = [(b, blk [.int .u64 0, .int .u64 0, .int .u64 0, .int .u64 0, .int .u64 0] 153)]⟩]
  (A7 (fun _ _ _ _ _ h => h) (A7 (fun _ _ _ _ _ h => h) (A7 (fun _ _ _ _ _ h => h) (A7 (fun _ _ _ _ _ h => h) (K9))))) (show List.Nodup [30, 32, 16, 17] by decide) (show List.Nodup [1, 3, 4, 5] by decide) (A7 (C5 rfl) (A7 (C5 rfl) (A7 (C5 rfl) (A7 (C5 rfl) (K9)))))
  (A7 ⟨_, rfl, fun vs bs R w hb ha => ⟨.inl rfl, ?_⟩⟩ (A7 ⟨_, rfl, fun vs bs R w hb ha => ⟨.inl rfl, ?_⟩⟩ (A7 ⟨_, rfl, fun vs bs R w hb ha => ⟨.inl rfl, ?_⟩⟩ (A7 ⟨_, rfl, fun vs bs R w hb ha => ⟨.inl rfl, ?_⟩⟩ (K9))))) ?_
 ·
  refine H7 (aS rfl (a0)) kR (B8F hp _) rfl ?_
  rintro r M1 J1 ⟨rfl, rfl, hh⟩
  exact ⟨_, rfl, rfl, hh⟩
 ·
  refine H7 (aS rfl (a0)) kR (B8F hq _) rfl ?_
  rintro r M1 J1 ⟨rfl, rfl, hh⟩
  exact ⟨_, rfl, rfl, hh⟩
 ·
  exact C4 (cs := [E3, E3, E3, E3, E3]) kR rfl fun b => ⟨_, rfl, b, rfl, rfl⟩
 ·
  exact C4 (cs := [E3, E3, E3, E3, E3]) kR rfl fun b => ⟨_, rfl, b, rfl, rfl⟩
 intro vs bs Jn0 hφ
 have g1 := ofH hφ
 dsimp only at g1
 replace hφ := ofT hφ
 have g3 := ofH hφ
 dsimp only at g3
 replace hφ := ofT hφ
 have g4 := ofH hφ
 dsimp only at g4
 replace hφ := ofT hφ
 have g5 := ofH hφ
 dsimp only at g5
 clear hφ
 dsimp only [A0k, U3, List.map, List.flatten, List.cons_append, List.nil_append]
 generalize bs 1 = B30 at *
 generalize bs 3 = B32 at *
 generalize bs 4 = B16 at *
 generalize bs 5 = B17 at *
 generalize vs 1 = u30 at *
 generalize vs 3 = u32 at *
 generalize vs 4 = u16 at *
 generalize vs 5 = u17 at *
 obtain ⟨rfl, k1⟩ := g1
 have h1 := k1
 obtain ⟨a1, b1, c1, d1, e1, rfl, -⟩ := k1
 obtain ⟨rfl, k3⟩ := g3
 have h3 := k3
 obtain ⟨a3, b3, c3, d3, e3, rfl, -⟩ := k3
 obtain ⟨b4, rfl, rfl⟩ := g4
 obtain ⟨b5, rfl, rfl⟩ := g5
 dsimp only [List.append_eq, List.nil_append, List.cons_append]
 have hss := h1
 have htt := h3
 clear h1 h3
 refine F5 rfl rfl rfl (A9 rfl rfl Cel.cel kR ln5 al5 UpC.upd ?_)
 refine F5 rfl rfl rfl (A9 rfl rfl Cel.cel kR ln5 al5 UpC.upd ?_)
 refine E4 (kq 5 (kq 8 (Z9 9 10 11 12 13 14 15 16 17))) ?_
 refine A1 ?_
 refine A2 (qw_ 5) rfl ?_
 refine A2 (qw_ 5) rfl ?_
 refine C6 (aS rfl (aS rfl a0)) kR (B2Y hss htt _) rfl ?_
 rintro r35 M35 J35 ⟨rfl, rfl, k35⟩
 have h35 := k35
 obtain ⟨a35, b35, c35, d35, e35, rfl, -⟩ := k35
 refine A4 rfl (C4 (cs := [E3, E3, E3, E3, E3]) kR rfl fun b18 => ?_)
 refine A4 rfl (A9 rfl rfl Cel.cel kR ln5 al5 UpC.upd ?_)
 refine A0 (kq 5 (kq 8 (kq 9 (Z9 10 11 12 13 14 15 16 17 18)))) ?_
 refine C7 [0, 1, 2, 3, 4, 5] [(0, 1), (1, 1), (3, 1), (2, 3), (4, 3), (5, 4), (6, 2)] kR kR fun hs => ?_
 refine G4 hs rfl (qw_ 5) rfl ?_
 refine G4 hs rfl (qw_ 5) rfl ?_
 refine G4 hs rfl (qw_ 5) rfl ?_
 refine A0X [⟨2, 38, fun v B _ => B = [] ∧ Fe v (fS xc xd)⟩, ⟨4, 40, fun v B _ => B = [] ∧ Fe v (fM (fS xc xd) (fA xa xb))⟩, ⟨5, 19, fun v B _ => ∃ b, v = .pointer (some ⟨b, 0, none⟩) ∧ B = [(b, blk [.int .u64 0, .int .u64 0, .int .u64 0, .int .u64 0, .int .u64 0] 153)]⟩]
  (A7 (fun _ _ _ _ _ h => h) (A7 (fun _ _ _ _ _ h => h) (A7 (fun _ _ _ _ _ h => h) (K9)))) (show List.Nodup [38, 40, 19] by decide) (show List.Nodup [2, 4, 5] by decide) (A7 (C5 rfl) (A7 (C5 rfl) (A7 (C5 rfl) (K9))))
  (A7 ⟨_, rfl, fun vs bs R w hb ha => ⟨.inl rfl, ?_⟩⟩ (A7 ⟨_, rfl, fun vs bs R w hb ha => ⟨.inl rfl, ?_⟩⟩ (A7 ⟨_, rfl, fun vs bs R w hb ha => ⟨.inl rfl, ?_⟩⟩ (K9)))) ?_
 ·
  refine H7 (aS rfl (aS rfl (a0))) kR (B2Y hC0 hD0 _) rfl ?_
  rintro r M1 J1 ⟨rfl, rfl, hh⟩
  exact ⟨_, rfl, rfl, hh⟩
 ·
  have g2 := ha _ (List.mem_of_getElem? (i := 0) rfl) kR
  replace g2 : (fun v B _ => B = [] ∧ Fe v (fS xc xd)) (vs 2) (bs 2) R := g2
  dsimp only at g2
  obtain ⟨-, k2⟩ := g2
  refine H7 (aS rfl (aS rfl (a0))) kR (A6S k2 hp _) rfl ?_
  rintro r M1 J1 ⟨rfl, rfl, hh⟩
  exact ⟨_, rfl, rfl, hh⟩
 ·
  exact C4 (cs := [E3, E3, E3, E3, E3]) kR rfl fun b => ⟨_, rfl, b, rfl, rfl⟩
 intro vs bs Jn0 hφ
 have g2 := ofH hφ
 dsimp only at g2
 replace hφ := ofT hφ
 have g4 := ofH hφ
 dsimp only at g4
 replace hφ := ofT hφ
 have g5 := ofH hφ
 dsimp only at g5
 clear hφ
 dsimp only [A0k, U3, List.map, List.flatten, List.cons_append, List.nil_append]
 generalize bs 2 = B38 at *
 generalize bs 4 = B40 at *
 generalize bs 5 = B19 at *
 generalize vs 2 = u38 at *
 generalize vs 4 = u40 at *
 generalize vs 5 = u19 at *
 obtain ⟨rfl, k2⟩ := g2
 have h2 := k2
 obtain ⟨a2, b2, c2, d2, e2, rfl, -⟩ := k2
 obtain ⟨rfl, k4⟩ := g4
 have h4 := k4
 obtain ⟨a4, b4, c4, d4, e4, rfl, -⟩ := k4
 obtain ⟨b5, rfl, rfl⟩ := g5
 dsimp only [List.append_eq, List.nil_append, List.cons_append]
 have hda := h4
 clear h2 h4
 refine F5 rfl rfl rfl (A9 rfl rfl Cel.cel kR ln5 al5 UpC.upd ?_)
 refine E4 (kq 5 (kq 8 (kq 9 (Z9 10 11 12 13 15 16 17 18 19)))) ?_
 refine C7 [0, 1, 2, 3, 4, 5] [(0, 1), (1, 1), (3, 1), (2, 3), (4, 3), (5, 4), (6, 2)] kR kR fun hs => ?_
 refine G4 hs rfl (qw_ 5) rfl ?_
 refine G4 hs rfl (qw_ 5) rfl ?_
 refine G4 hs rfl (qw_ 5) rfl ?_
 refine A0X [⟨2, 43, fun v B _ => B = [] ∧ Fe v (fA xc xd)⟩, ⟨4, 45, fun v B _ => B = [] ∧ Fe v (fM (fA xc xd) (fS xa xb))⟩, ⟨5, 20, fun v B _ => ∃ b, v = .pointer (some ⟨b, 0, none⟩) ∧ B = [(b, blk [.int .u64 0, .int .u64 0, .int .u64 0, .int .u64 0, .int .u64 0] 153)]⟩]
  (A7 (fun _ _ _ _ _ h => h) (A7 (fun _ _ _ _ _ h => h) (A7 (fun _ _ _ _ _ h => h) (K9)))) (show List.Nodup [43, 45, 20] by decide) (show List.Nodup [2, 4, 5] by decide) (A7 (C5 rfl) (A7 (C5 rfl) (A7 (C5 rfl) (K9))))
  (A7 ⟨_, rfl, fun vs bs R w hb ha => ⟨.inl rfl, ?_⟩⟩ (A7 ⟨_, rfl, fun vs bs R w hb ha => ⟨.inl rfl, ?_⟩⟩ (A7 ⟨_, rfl, fun vs bs R w hb ha => ⟨.inl rfl, ?_⟩⟩ (K9)))) ?_
 ·
  refine H7 (aS rfl (aS rfl (a0))) kR (B2Z hC0 hD0 _) rfl ?_
  rintro r M1 J1 ⟨rfl, rfl, hh⟩
  exact ⟨_, rfl, rfl, hh⟩
 ·
  have g2 := ha _ (List.mem_of_getElem? (i := 0) rfl) kR
  replace g2 : (fun v B _ => B = [] ∧ Fe v (fA xc xd)) (vs 2) (bs 2) R := g2
  dsimp only at g2
  obtain ⟨-, k2⟩ := g2
  refine H7 (aS rfl (aS rfl (a0))) kR (A6S k2 hq _) rfl ?_
  rintro r M1 J1 ⟨rfl, rfl, hh⟩
  exact ⟨_, rfl, rfl, hh⟩
 ·
  exact C4 (cs := [E3, E3, E3, E3, E3]) kR rfl fun b => ⟨_, rfl, b, rfl, rfl⟩
 intro vs bs Jn0 hφ
 have g2 := ofH hφ
 dsimp only at g2
 replace hφ := ofT hφ
 have g4 := ofH hφ
 dsimp only at g4
 replace hφ := ofT hφ
 have g5 := ofH hφ
 dsimp only at g5
 clear hφ
 dsimp only [A0k, U3, List.map, List.flatten, List.cons_append, List.nil_append]
 generalize bs 2 = B43 at *
 generalize bs 4 = B45 at *
 generalize bs 5 = B20 at *
 generalize vs 2 = u43 at *
 generalize vs 4 = u45 at *
 generalize vs 5 = u20 at *
 obtain ⟨rfl, k2⟩ := g2
 have h2 := k2
 obtain ⟨a2, b2, c2, d2, e2, rfl, -⟩ := k2
 obtain ⟨rfl, k4⟩ := g4
 have h4 := k4
 obtain ⟨a4, b4, c4, d4, e4, rfl, -⟩ := k4
 obtain ⟨b5, rfl, rfl⟩ := g5
 dsimp only [List.append_eq, List.nil_append, List.cons_append]
 have hcb := h4
 clear h2 h4
 refine F5 rfl rfl rfl (A9 rfl rfl Cel.cel kR ln5 al5 UpC.upd ?_)
 refine E4 (kq 5 (Z9 10 11 12 13 16 17 18 19 20)) (A1 ?_)
 refine A2 (qw_ 5) rfl ?_
 refine A2 (qw_ 5) rfl ?_
 refine C6 (aS rfl (aS rfl a0)) kR (B2Z hda hcb _) rfl ?_
 rintro r48 M48 J48 ⟨rfl, rfl, k48⟩
 have h48 := k48
 obtain ⟨a48, b48, c48, d48, e48, rfl, -⟩ := k48
 refine C6 (aS rfl a0) kR (B8F h48 _) rfl ?_
 rintro r49 M49 J49 ⟨rfl, rfl, k49⟩
 have h49 := k49
 obtain ⟨a49, b49, c49, d49, e49, rfl, -⟩ := k49
 refine A4 rfl (C4 (cs := [E3, E3, E3, E3, E3]) kR rfl fun b21 => ?_)
 refine A4 rfl (A9 rfl rfl Cel.cel kR ln5 al5 UpC.upd ?_)
 refine A0 (kq 5 (kq 10 (Z9 11 12 13 16 17 18 19 20 21))) ?_
 refine C7 (.range 7) (zp 0 [1, 1, 1, 3, 3, 3, 4, 2]) kR kR fun hs => ?_
 refine G4 hs rfl (qw_ 5) rfl ?_
 refine G4 hs rfl (qw_ 5) rfl ?_
 refine G4 hs rfl (qw_ 5) rfl ?_
 refine A0X [⟨3, 53, fun v B _ => B = [] ∧ Fe v (fS (fM (fS xc xd) (fA xa xb)) (fM (fA xc xd) (fS xa xb)))⟩, ⟨4, 54, fun v B _ => B = [] ∧ Fe v (fM (fS (fM (fS xc xd) (fA xa xb)) (fM (fA xc xd) (fS xa xb))) (fS (fM (fS xc xd) (fA xa xb)) (fM (fA xc xd) (fS xa xb))))⟩, ⟨5, 55, fun v B _ => B = [] ∧ Fe v (fM xu (fM (fS (fM (fS xc xd) (fA xa xb)) (fM (fA xc xd) (fS xa xb))) (fS (fM (fS xc xd) (fA xa xb)) (fM (fA xc xd) (fS xa xb)))))⟩, ⟨6, 22, fun v B _ => ∃ b, v = .pointer (some ⟨b, 0, none⟩) ∧ B = [(b, blk [.int .u64 0, .int .u64 0, .int .u64 0, .int .u64 0, .int .u64 0] 153)]⟩]
  (A7 (fun _ _ _ _ _ h => h) (A7 (fun _ _ _ _ _ h => h) (A7 (fun _ _ _ _ _ h => h) (A7 (fun _ _ _ _ _ h => h) (K9))))) (show List.Nodup [53, 54, 55, 22] by decide) (show List.Nodup [3, 4, 5, 6] by decide) (A7 (C5 rfl) (A7 (C5 rfl) (A7 (C5 rfl) (A7 (C5 rfl) (K9)))))
  (A7 ⟨_, rfl, fun vs bs R w hb ha => ⟨.inl rfl, ?_⟩⟩ (A7 ⟨_, rfl, fun vs bs R w hb ha => ⟨.inl rfl, ?_⟩⟩ (A7 ⟨_, rfl, fun vs bs R w hb ha => ⟨.inl rfl, ?_⟩⟩ (A7 ⟨_, rfl, fun vs bs R w hb ha => ⟨.inl rfl, ?_⟩⟩ (K9))))) ?_
 ·
  refine H7 (aS rfl (aS rfl (a0))) kR (B2Y hda hcb _) rfl ?_
  rintro r M1 J1 ⟨rfl, rfl, hh⟩
  exact ⟨_, rfl, rfl, hh⟩
 ·
  have g3 := ha _ (List.mem_of_getElem? (i := 0) rfl) kR
  replace g3 : (fun v B _ => B = [] ∧ Fe v (fS (fM (fS xc xd) (fA xa xb)) (fM (fA xc xd) (fS xa xb)))) (vs 3) (bs 3) R := g3
  dsimp only at g3
  obtain ⟨-, k3⟩ := g3
  refine H7 (aS rfl (a0)) kR (B8F k3 _) rfl ?_
  rintro r M1 J1 ⟨rfl, rfl, hh⟩
  exact ⟨_, rfl, rfl, hh⟩
 ·
  have g4 := ha _ (List.mem_of_getElem? (i := 1) rfl) kR
  replace g4 : (fun v B _ => B = [] ∧ Fe v (fM (fS (fM (fS xc xd) (fA xa xb)) (fM (fA xc xd) (fS xa xb))) (fS (fM (fS xc xd) (fA xa xb)) (fM (fA xc xd) (fS xa xb))))) (vs 4) (bs 4) R := g4
  dsimp only at g4
  obtain ⟨-, k4⟩ := g4
  refine H7 (aS rfl (aS rfl (a0))) kR (A6S hU0 k4 _) rfl ?_
  rintro r M1 J1 ⟨rfl, rfl, hh⟩
  exact ⟨_, rfl, rfl, hh⟩
 ·
  exact C4 (cs := [E3, E3, E3, E3, E3]) kR rfl fun b => ⟨_, rfl, b, rfl, rfl⟩
 intro vs bs Jn0 hφ
 have g3 := ofH hφ
 dsimp only at g3
 replace hφ := ofT hφ
 have g4 := ofH hφ
 dsimp only at g4
 replace hφ := ofT hφ
 have g5 := ofH hφ
 dsimp only at g5
 replace hφ := ofT hφ
 have g6 := ofH hφ
 dsimp only at g6
 clear hφ
 dsimp only [A0k, U3, List.map, List.flatten, List.cons_append, List.nil_append]
 generalize bs 3 = B53 at *
 generalize bs 4 = B54 at *
 generalize bs 5 = B55 at *
 generalize bs 6 = B22 at *
 generalize vs 3 = u53 at *
 generalize vs 4 = u54 at *
 generalize vs 5 = u55 at *
 generalize vs 6 = u22 at *
 obtain ⟨rfl, k3⟩ := g3
 have h3 := k3
 obtain ⟨a3, b3, c3, d3, e3, rfl, -⟩ := k3
 obtain ⟨rfl, k4⟩ := g4
 have h4 := k4
 obtain ⟨a4, b4, c4, d4, e4, rfl, -⟩ := k4
 obtain ⟨rfl, k5⟩ := g5
 have h5 := k5
 obtain ⟨a5, b5, c5, d5, e5, rfl, -⟩ := k5
 obtain ⟨b6, rfl, rfl⟩ := g6
 dsimp only [List.append_eq, List.nil_append, List.cons_append]
 have hzz := h5
 clear h3 h4 h5
 refine F5 rfl rfl rfl (A9 rfl rfl Cel.cel kR ln5 al5 UpC.upd ?_)
 refine E4 (Z9 10 11 12 13 16 17 18 21 22) ?_
 refine L7 ([(b10, blk [.int .u64 0, .int .u64 0, .int .u64 0, .int .u64 0, .int .u64 0] 153), (b11, blk [.int .u64 0, .int .u64 0, .int .u64 0, .int .u64 0, .int .u64 0] 153), (b12, blk [.int .u64 0, .int .u64 0, .int .u64 0, .int .u64 0, .int .u64 0] 153), (b13, blk [.int .u64 0, .int .u64 0, .int .u64 0, .int .u64 0, .int .u64 0] 153)]) (_) true (.range 15) [(0, 1), (1, 1), (3, 1), (4, 1), (6, 1), (10, 1), (11, 1), (2, 2), (5, 2), (7, 2), (8, 2), (9, 2), (12, 2), (13, 2), (14, 2), (15, 2)] kR kR PickC.perm fun hs K n0 hKm hKs hKn => ?_
 refine Y8 hs rfl hKs (qw_ 5) ?_
 refine Y8 hs rfl hKs (qw_ 5) ?_
 refine Y8 hs rfl hKs (qw_ 5) ?_
 refine Y8 hs rfl hKs (qw_ 5) ?_
 refine Y8 hs rfl hKs (qw_ 5) ?_
 refine Y8 hs rfl hKs (qw_ 5) ?_
 refine Y8 hs rfl hKs (qw_ 5) ?_
 refine Q5 [] _ rfl rfl (List.Perm.refl _) (fun _ h => by cases h) fun w0 => (H7 (aS rfl (aS rfl a0)) kR (A6S hss htt _) rfl ?_)
 rintro r58 M58 J58 ⟨rfl, rfl, k58⟩ _
 have h58 := k58
 obtain ⟨a58, b58, c58, d58, e58, rfl, -⟩ := k58
 dsimp only [List.nil_append, List.append_eq]
 refine Q5 [] _ rfl rfl (List.Perm.refl _) (fun _ h => by cases h) fun w0 => (H7 (aS rfl a0) kR (B3a 121665 (by decide) _) rfl ?_)
 rintro r61 M61 J61 ⟨rfl, rfl, k61⟩ _
 have h61 := k61
 obtain ⟨a61, b61, c61, d61, e61, rfl, -⟩ := k61
 dsimp only [List.nil_append, List.append_eq]
 refine Q5 [] _ rfl rfl (List.Perm.refl _) (fun _ h => by cases h) fun w0 => (H7 (aS rfl (aS rfl a0)) kR (A6S h61 h35 _) rfl ?_)
 rintro r63 M63 J63 ⟨rfl, rfl, k63⟩ _
 have h63 := k63
 obtain ⟨a63, b63, c63, d63, e63, rfl, -⟩ := k63
 dsimp only [List.nil_append, List.append_eq]
 refine Q5 [] _ rfl rfl (List.Perm.refl _) (fun _ h => by cases h) fun w0 => (H7 (aS rfl (aS rfl a0)) kR (B2Z hss h63 _) rfl ?_)
 rintro r64 M64 J64 ⟨rfl, rfl, k64⟩ _
 have h64 := k64
 obtain ⟨a64, b64, c64, d64, e64, rfl, -⟩ := k64
 dsimp only [List.nil_append, List.append_eq]
 refine Q5 [] _ rfl rfl (List.Perm.refl _) (fun _ h => by cases h) fun w0 => (H7 (aS rfl (aS rfl a0)) kR (A6S h35 h64 _) rfl ?_)
 rintro r65 M65 J65 ⟨rfl, rfl, k65⟩ _
 have h65 := k65
 obtain ⟨a65, b65, c65, d65, e65, rfl, -⟩ := k65
 dsimp only [List.nil_append, List.append_eq]
 refine Q5 _ _ rfl rfl (List.Perm.refl _) hKm fun w0 => (A9 (vs := [.int .u64 (a58 : Int), .int .u64 (b58 : Int), .int .u64 (c58 : Int), .int .u64 (d58 : Int), .int .u64 (e58 : Int)]) rfl rfl rfl kR (by rfl) al5 UpC.upd ?_)
 intro hK12
 refine Q5 _ _ rfl rfl (List.Perm.refl _) (hK12 (hKn rfl)) fun w0 => (A9 (vs := [.int .u64 (a65 : Int), .int .u64 (b65 : Int), .int .u64 (c65 : Int), .int .u64 (d65 : Int), .int .u64 (e65 : Int)]) rfl rfl rfl kR (by rfl) al5 UpC.upd ?_)
 intro hK13
 refine Q5 _ _ rfl rfl (List.Perm.refl _) (hK13 (hKn rfl)) fun w0 => (A9 (vs := [.int .u64 (a49 : Int), .int .u64 (b49 : Int), .int .u64 (c49 : Int), .int .u64 (d49 : Int), .int .u64 (e49 : Int)]) rfl rfl rfl kR (by rfl) al5 UpC.upd ?_)
 intro hK14
 refine T7 rfl rfl rfl (A9 rfl rfl Cel.cel kR ln5 al5 UpC.upd ?_)
 refine Q8 (D6 10 11 12 13) (B4 ?_)
 exact ⟨_, [], [], B9g (n := 5) rfl rfl rfl rfl rfl kR At.mem At.mem At.mem At.mem rfl rfl rfl rfl, List.nil_sublist _, by simp, rfl, rfl, _, _, _, _, rfl, h58, h65, h49, hzz⟩
theorem B4r (v vp : Value) (wu wp : List Nat) (A : Mem) (hv : By A v wu) (hp : By A vp wp) : FnX Tryz.prog 74 [v, vp] [] A fun r M J => M = [] ∧ By J r (x25 wu wp) := by
 haveI := hv.cel
 haveI := hp.cel
 have hvl := hv.len
 have hpl := hp.len
 refine FnX.enter (N := 60) Tryz.func74 rfl rfl rfl fun w => ?_
 refine B0 (D3 0 1) (A1 (as_ (A0 (D3 0 1) (A1 (mv_ ?_)))))
 refine F3 (aS rfl a0) kR (B52 _ wu _ (hv.mono SubC.sub)) rfl ?_
 have hcn := A2f wu
 have hc256 := A6h hv.lt
 refine A4 rfl (C4 (cs := [zu8, zu8, zu8, zu8, zu8, zu8, zu8, zu8, zu8, zu8, zu8, zu8, zu8, zu8, zu8, zu8, zu8, zu8, zu8, zu8, zu8, zu8, zu8, zu8, zu8, zu8, zu8, zu8, zu8, zu8, zu8, zu8]) kR rfl fun b5 => ?_)
 refine A4 rfl (A9 (vs := nums .u8 (I6 wu)) rfl rfl rfl (by rw [nums_len, hcn]; kernel_rfl) (by rw [nums_len, hcn]; rfl) E7 UpC.upd ?_)
 refine A0 (D3 1 5) (A1 (mv_ ?_))
 refine C6 (aS rfl a0) kR (A8A vp wp _ (hp.rd.mono SubC.sub) hp.lt (by omega)) rfl ?_
 rintro r16 M16 J16 ⟨rfl, rfl, hU⟩
 have hUz := hU
 obtain ⟨ux0, ux1, ux2, ux3, ux4, rfl, -⟩ := hU
 refine A4 rfl (C4 (cs := [E3, E3, E3, E3, E3]) kR rfl fun b6 => ?_)
 refine A4 rfl (A9 (vs := [.int .u64 (ux0 : Int), .int .u64 (ux1 : Int), .int .u64 (ux2 : Int), .int .u64 (ux3 : Int), .int .u64 (ux4 : Int)]) rfl rfl rfl kR (by rfl) al5 UpC.upd ?_)
 refine A0 (D3 5 6) ?_
 refine L7 ([]) (_) true (.range 10) [(2, 1), (0, 3), (1, 3), (3, 3), (4, 3), (5, 3), (6, 3), (7, 4), (8, 2), (9, 2), (10, 2), (11, 2)] kR kR PickC.perm fun hs K n0 hKm hKs hKn => ?_
 refine Y8 hs rfl hKs (qw_ 5) ?_
 refine A5L [⟨0, 17, fun v B _ => B = [] ∧ Fe v (1)⟩, ⟨1, 18, fun v B _ => B = [] ∧ Fe v (0)⟩, ⟨3, 20, fun v B _ => B = [] ∧ Fe v (1)⟩, ⟨4, 7, fun v B _ => ∃ b, v = .pointer (some ⟨b, 0, none⟩) ∧ B = [(b, blk [.int .u64 0, .int .u64 0, .int .u64 0, .int .u64 0, .int .u64 0] 153)]⟩, ⟨5, 8, fun v B _ => ∃ b, v = .pointer (some ⟨b, 0, none⟩) ∧ B = [(b, blk [.int .u64 0, .int .u64 0, .int .u64 0, .int .u64 0, .int .u64 0] 153)]⟩, ⟨6, 9, fun v B _ => ∃ b, v = .pointer (some ⟨b, 0, none⟩) ∧ B = [(b, blk [.int .u64 0, .int .u64 0, .int .u64 0, .int .u64 0, .int .u64 0] 153)]⟩, ⟨7, 10, fun v B _ => ∃ b, v = .pointer (some ⟨b, 0, none⟩) ∧ B = [(b, blk [.int .u64 0, .int .u64 0, .int .u64 0, .int .u64 0, .int .u64 0] 153)]⟩]
  (A7 (fun _ _ _ _ _ h => h) (A7 (fun _ _ _ _ _ h => h) (A7 (fun _ _ _ _ _ h => h) (A7 (fun _ _ _ _ _ h => h) (A7 (fun _ _ _ _ _ h => h) (A7 (fun _ _ _ _ _ h => h) (A7 (fun _ _ _ _ _ h => h) (K9)))))))) (show List.Nodup [17, 18, 20, 7, 8, 9, 10] by decide) (show List.Nodup [0, 1, 3, 4, 5, 6, 7] by decide) (A7 (C5 rfl) (A7 (C5 rfl) (A7 (C5 rfl) (A7 (C5 rfl) (A7 (C5 rfl) (A7 (C5 rfl) (A7 (C5 rfl) (K9))))))))
  (A7 ⟨_, rfl, fun vs bs R w hb ha => ⟨.inl rfl, ?_⟩⟩ (A7 ⟨_, rfl, fun vs bs R w hb ha => ⟨.inl rfl, ?_⟩⟩ (A7 ⟨_, rfl, fun vs bs R w hb ha => ⟨.inl rfl, ?_⟩⟩ (A7 ⟨_, rfl, fun vs bs R w hb ha => ⟨.inl rfl, ?_⟩⟩ (A7 ⟨_, rfl, fun vs bs R w hb ha => ⟨.inl rfl, ?_⟩⟩ (A7 ⟨_, rfl, fun vs bs R w hb ha => ⟨.inl rfl, ?_⟩⟩ (A7 ⟨_, rfl, fun vs bs R w hb ha => ⟨.inl rfl, ?_⟩⟩ (K9)))))))) ?_
 ·
  refine H7 (aS rfl a0) kR (B3a 1 (by decide) _) rfl ?_
  rintro r M1 J1 ⟨rfl, rfl, hh⟩
  exact ⟨_, rfl, rfl, hh⟩
 ·
  refine H7 (aS rfl a0) kR (B3a 0 (by decide) _) rfl ?_
  rintro r M1 J1 ⟨rfl, rfl, hh⟩
  exact ⟨_, rfl, rfl, hh⟩
 ·
  refine H7 (aS rfl a0) kR (B3a 1 (by decide) _) rfl ?_
  rintro r M1 J1 ⟨rfl, rfl, hh⟩
  exact ⟨_, rfl, rfl, hh⟩
 ·
  exact C4 (cs := [E3, E3, E3, E3, E3]) kR rfl fun b => ⟨_, rfl, b, rfl, rfl⟩
 ·
  exact C4 (cs := [E3, E3, E3, E3, E3]) kR rfl fun b => ⟨_, rfl, b, rfl, rfl⟩
 ·
  exact C4 (cs := [E3, E3, E3, E3, E3]) kR rfl fun b => ⟨_, rfl, b, rfl, rfl⟩
 ·
  exact C4 (cs := [E3, E3, E3, E3, E3]) kR rfl fun b => ⟨_, rfl, b, rfl, rfl⟩
 intro vs bs Jn0 hφ hNN
 have n4 := hNN _ (List.mem_of_getElem? (i := 3) rfl)
 dsimp only at n4
 have n5 := hNN _ (List.mem_of_getElem? (i := 4) rfl)
 dsimp only at n5
 clear hNN
 have g0 := ofH hφ
 dsimp only at g0
 replace hφ := ofT hφ
 have g1 := ofH hφ
 dsimp only at g1
 replace hφ := ofT hφ
 have g3 := ofH hφ
 dsimp only at g3
 replace hφ := ofT hφ
 have g4 := ofH hφ
 dsimp only at g4
 replace hφ := ofT hφ
 have g5 := ofH hφ
 dsimp only at g5
 replace hφ := ofT hφ
 have g6 := ofH hφ
 dsimp only at g6
 replace hφ := ofT hφ
 have g7 := ofH hφ
 dsimp only at g7
 clear hφ
 dsimp only [A0k, U3, List.map, List.flatten, List.cons_append, List.nil_append]
 generalize bs 0 = B17 at *
 generalize bs 1 = B18 at *
 generalize bs 3 = B20 at *
 generalize bs 4 = B7 at *
 generalize bs 5 = B8 at *
 generalize bs 6 = B9 at *
 generalize bs 7 = B10 at *
 generalize vs 0 = u17 at *
 generalize vs 1 = u18 at *
 generalize vs 3 = u20 at *
 generalize vs 4 = u7 at *
 generalize vs 5 = u8 at *
 generalize vs 6 = u9 at *
 generalize vs 7 = u10 at *
 obtain ⟨rfl, k0⟩ := g0
 obtain ⟨rfl, k1⟩ := g1
 obtain ⟨rfl, k3⟩ := g3
 have k0z := k0
 obtain ⟨pw0, pw1, pw2, pw3, pw4, rfl, -⟩ := k0
 have k1z := k1
 obtain ⟨px0, px1, px2, px3, px4, rfl, -⟩ := k1
 have k3z := k3
 obtain ⟨pq0, pq1, pq2, pq3, pq4, rfl, -⟩ := k3
 obtain ⟨b7, rfl, rfl⟩ := g4
 obtain ⟨b8, rfl, rfl⟩ := g5
 obtain ⟨b9, rfl, rfl⟩ := g6
 obtain ⟨b10, rfl, rfl⟩ := g7
 dsimp only [List.append_eq, List.nil_append, List.cons_append]
 refine Q5 [(b7, blk [.int .u64 0, .int .u64 0, .int .u64 0, .int .u64 0, .int .u64 0] 153)] _ rfl rfl PickC.perm (fun x hx => by rw [List.mem_singleton.1 hx]; exact hKn rfl _ (n4 _ List.mem_cons_self)) fun w0 => (A9 (vs := [.int .u64 (pw0 : Int), .int .u64 (pw1 : Int), .int .u64 (pw2 : Int), .int .u64 (pw3 : Int), .int .u64 (pw4 : Int)]) rfl rfl rfl kR (by rfl) al5 UpC.upd ?_)
 intro hK8
 refine Q5 [(b8, blk [.int .u64 0, .int .u64 0, .int .u64 0, .int .u64 0, .int .u64 0] 153)] _ rfl rfl PickC.perm (fun x hx => by rw [List.mem_singleton.1 hx]; exact hKn rfl _ (n5 _ List.mem_cons_self)) fun w0 => (A9 (vs := [.int .u64 (px0 : Int), .int .u64 (px1 : Int), .int .u64 (px2 : Int), .int .u64 (px3 : Int), .int .u64 (px4 : Int)]) rfl rfl rfl kR (by rfl) al5 UpC.upd ?_)
 intro hK9
 refine T7 rfl rfl rfl (A9 (vs := [.int .u64 (ux0 : Int), .int .u64 (ux1 : Int), .int .u64 (ux2 : Int), .int .u64 (ux3 : Int), .int .u64 (ux4 : Int)]) rfl rfl rfl kR (by rfl) al5 UpC.upd ?_)
 refine T7 rfl rfl rfl (A9 (vs := [.int .u64 (pq0 : Int), .int .u64 (pq1 : Int), .int .u64 (pq2 : Int), .int .u64 (pq3 : Int), .int .u64 (pq4 : Int)]) rfl rfl rfl kR (by rfl) al5 UpC.upd ?_)
 refine Q8 (H9 5 6 7 8 9 10) (A3 (A1 (as_ (A0 (R9 5 6 7 8 9 10 11) (A5 ?_)))))
 refine A1I (M' := [(b10, blk [.int .u64 (pq0 : Int), .int .u64 (pq1 : Int), .int .u64 (pq2 : Int), .int .u64 (pq3 : Int), .int .u64 (pq4 : Int)] 153), (b9, blk [.int .u64 (ux0 : Int), .int .u64 (ux1 : Int), .int .u64 (ux2 : Int), .int .u64 (ux3 : Int), .int .u64 (ux4 : Int)] 153), (b8, blk [.int .u64 (px0 : Int), .int .u64 (px1 : Int), .int .u64 (px2 : Int), .int .u64 (px3 : Int), .int .u64 (px4 : Int)] 153), (b7, blk [.int .u64 (pw0 : Int), .int .u64 (pw1 : Int), .int .u64 (pw2 : Int), .int .u64 (pw3 : Int), .int .u64 (pw4 : Int)] 153), (b6, blk [.int .u64 (ux0 : Int), .int .u64 (ux1 : Int), .int .u64 (ux2 : Int), .int .u64 (ux3 : Int), .int .u64 (ux4 : Int)] 153), (b5, blk (nums .u8 (I6 wu)) 150)]) (Fit.pick (B := [_]) PickC.perm (Fit.pick (B := [_]) PickC.perm (Fit.pick (B := [_]) PickC.perm (Fit.pick (B := [_]) PickC.perm (Fit.pick (B := [_]) PickC.perm (Fit.eq rfl)))))) (fun _ h => h) ?_
 refine D9 (α := Nat × List Nat × List Nat × List Nat × List Nat) (fun y => [(5, .pointer (some ⟨b5, 0, none⟩)), (6, .pointer (some ⟨b6, 0, none⟩)), (7, .pointer (some ⟨b7, 0, none⟩)), (8, .pointer (some ⟨b8, 0, none⟩)), (9, .pointer (some ⟨b9, 0, none⟩)), (10, .pointer (some ⟨b10, 0, none⟩)), (11, .int .i64 ((y.1 : Int) - 1))]) (fun y => [(b10, blk (nums .u64 y.2.2.2.2) 153), (b9, blk (nums .u64 y.2.2.2.1) 153), (b8, blk (nums .u64 y.2.2.1) 153), (b7, blk (nums .u64 y.2.1) 153), (b6, blk (nums .u64 [ux0, ux1, ux2, ux3, ux4]) 153), (b5, blk (nums .u8 (I6 wu)) 150)]) (fun _ => []) (fun y => y.1 ≤ 255 ∧ Fe (.agg (nums .u64 y.2.1).toArray) (A13 (rdN wp) (bv (I6 wu)) (255 - y.1)).a ∧ Fe (.agg (nums .u64 y.2.2.1).toArray) (A13 (rdN wp) (bv (I6 wu)) (255 - y.1)).b ∧ Fe (.agg (nums .u64 y.2.2.2.1).toArray) (A13 (rdN wp) (bv (I6 wu)) (255 - y.1)).c ∧ Fe (.agg (nums .u64 y.2.2.2.2).toArray) (A13 (rdN wp) (bv (I6 wu)) (255 - y.1)).d) (fun y => y.1) (255, [pw0, pw1, pw2, pw3, pw4], [px0, px1, px2, px3, px4], [ux0, ux1, ux2, ux3, ux4], [pq0, pq1, pq2, pq3, pq4]) ⟨Nat.le_refl _, by dsimp only; rw [Nat.sub_self]; exact k0z, by dsimp only; rw [Nat.sub_self]; exact k1z, by dsimp only; rw [Nat.sub_self]; exact hUz, by dsimp only; rw [Nat.sub_self]; exact k3z⟩ (R9 5 6 7 8 9 10 11) (Fit.eq rfl) (fun _ h => by cases h) ?_
 clear k0z k1z k3z
 rintro ⟨j, la, lb, lc, ld⟩ ⟨hj, haz, hbz, hcz, hdz⟩
 dsimp only at hj haz hbz hcz hdz ⊢
 obtain ⟨za0, za1, za2, za3, za4, rfl⟩ := A5g haz
 obtain ⟨zb0, zb1, zb2, zb3, zb4, rfl⟩ := A5g hbz
 obtain ⟨zc0, zc1, zc2, zc3, zc4, rfl⟩ := A5g hcz
 obtain ⟨zd0, zd1, zd2, zd3, zd4, rfl⟩ := A5g hdz
 dsimp only [nums, List.map]
 refine A3 (A1 (mv_ ?_))
 refine A2 (D8 rfl rfl rfl) rfl ?_
 refine A0 (V7 5 6 7 8 9 10 11 22) ?_
 refine C0 rfl (fun hc => ?_) (fun hc => ?_)
 ·
  have hj0 : 0 < j := by simp at hc; omega
  obtain ⟨i, rfl⟩ : ∃ i, j = i + 1 := ⟨j - 1, by omega⟩
  rw [show (((i + 1 : Nat) : Int) - 1) = (i : Int) by omega]
  have hts := B0N (u := rdN wp) (n := bv (I6 wu)) (show i < 255 by omega)
  have hbit := B0m hc256 i
  have hpb : (I6 wu).getD (i / 8) 0 < 256 := Go.Px.getD_lt hc256 (by decide)
  have hz2 : bv (I6 wu) / 2 ^ i % 2 < 2 := Nat.mod_lt _ (by decide)
  generalize A13 (rdN wp) (bv (I6 wu)) (255 - (i + 1)) = S at *
  generalize bv (I6 wu) / 2 ^ i % 2 = zb at *
  obtain ⟨bt, hbt⟩ : ∃ bt, decide (zb = 1) = bt := ⟨_, rfl⟩
  rw [hbt] at hts
  refine A6 (nx (R9 5 6 7 8 9 10 11) (A3 (A5 (A1 (mv_ ?_)))))
  refine A2 (A3a 8 rfl rfl rfl (by decide) (A4G (by omega))) rfl ?_
  refine A2 (E9 (e := 5) (n := 32) (sz := 1) (i := i / 8) rfl rfl kR kR rfl (by omega)) rfl ?_
  refine A2 (H8 (i / 8) rfl kR At.mem (by omega) (by omega)) rfl ?_
  refine mv_ ?_
  refine A2 (A3b 8 rfl rfl rfl (by decide)) rfl ?_
  refine A2 (A9t (a := (I6 wu).getD (i / 8) 0) (b := i % 8) rfl rfl rfl rfl (by show _ ≤ 8; omega)) rfl ?_
  refine A2 (hbit ▸ N1 1 2 rfl rfl rfl rfl rfl (by show _ < 256; exact Nat.lt_of_le_of_lt (Nat.div_le_self _ _) hpb) (by decide)) rfl ?_
  refine A2 (hbt ▸ F0 (decide (zb = 1)) rfl rfl (by rcases (show zb = 0 ∨ zb = 1 by omega) with h | h <;> subst h <;> rfl)) rfl ?_
  refine as_ (A0 (V7 5 6 7 8 9 10 11 12) (A3 ?_))
  cases bt
  ·
   refine A1 (mv_ (A0 (Z9 5 6 7 8 9 10 11 12 34) ?_))
   refine D0 rfl ?_
   refine A6 (nx (V7 5 6 7 8 9 10 11 12) (A1 ?_))
   refine A2 (qw_ 5) rfl ?_
   refine A2 (qw_ 5) rfl ?_
   refine A2 (qw_ 5) rfl ?_
   refine A2 (qw_ 5) rfl ?_
   refine A2 (qw_ 5) rfl ?_
   refine C6 (aS rfl (aS rfl (aS rfl (aS rfl (aS rfl a0))))) kR (B4q _ _ _ _ _ (rdN wp) _ _ _ _ _ hUz haz hbz hcz hdz) rfl ?_
   rintro r45 M45 J45 ⟨rfl, rfl, v0, v1, v2, v3, rfl, k0, k1, k2, k3⟩
   have k0z := k0
   obtain ⟨pw0, pw1, pw2, pw3, pw4, rfl, -⟩ := k0
   have k1z := k1
   obtain ⟨px0, px1, px2, px3, px4, rfl, -⟩ := k1
   have k2z := k2
   obtain ⟨py0, py1, py2, py3, py4, rfl, -⟩ := k2
   have k3z := k3
   obtain ⟨pq0, pq1, pq2, pq3, pq4, rfl, -⟩ := k3
   refine mv_ ?_
   refine A2 (A1l rfl) rfl ?_
   refine A2 (A1g rfl) rfl ?_
   refine A2 (q_x2 rfl) rfl ?_
   refine A2 (q_x3 rfl) rfl ?_
   refine A4 rfl (A9 (vs := [.int .u64 (pw0 : Int), .int .u64 (pw1 : Int), .int .u64 (pw2 : Int), .int .u64 (pw3 : Int), .int .u64 (pw4 : Int)]) rfl rfl rfl kR (by rfl) al5 UpC.upd ?_)
   refine A4 rfl (A9 (vs := [.int .u64 (px0 : Int), .int .u64 (px1 : Int), .int .u64 (px2 : Int), .int .u64 (px3 : Int), .int .u64 (px4 : Int)]) rfl rfl rfl kR (by rfl) al5 UpC.upd ?_)
   refine A4 rfl (A9 (vs := [.int .u64 (py0 : Int), .int .u64 (py1 : Int), .int .u64 (py2 : Int), .int .u64 (py3 : Int), .int .u64 (py4 : Int)]) rfl rfl rfl kR (by rfl) al5 UpC.upd ?_)
   refine A4 rfl (A9 (vs := [.int .u64 (pq0 : Int), .int .u64 (pq1 : Int), .int .u64 (pq2 : Int), .int .u64 (pq3 : Int), .int .u64 (pq4 : Int)]) rfl rfl rfl kR (by rfl) al5 UpC.upd ?_)
   refine A0 (V7 5 6 7 8 9 10 11 12) (A1 (mv_ (A0 (V7 5 6 7 8 9 10 11 50) ?_)))
   refine D0 rfl ?_
   refine A6 (nb (nx (R9 5 6 7 8 9 10 11) (A8 (mv_ ?_))))
   refine A2 (C8 ((i : Int) - 1) rfl rfl (A0i rfl (by omega) (by omega))) rfl ?_
   refine as_ (C1 ?_)
   exact rn (i, [pw0, pw1, pw2, pw3, pw4], [px0, px1, px2, px3, px4], [py0, py1, py2, py3, py4], [pq0, pq1, pq2, pq3, pq4]) ⟨by dsimp only; omega, by dsimp only; rw [hts]; exact k0z, by dsimp only; rw [hts]; exact k1z, by dsimp only; rw [hts]; exact k2z, by dsimp only; rw [hts]; exact k3z⟩ (by dsimp only; omega) (R9 5 6 7 8 9 10 11) (show Fit _ ([(b10, blk [.int .u64 (pq0 : Int), .int .u64 (pq1 : Int), .int .u64 (pq2 : Int), .int .u64 (pq3 : Int), .int .u64 (pq4 : Int)] 153), (b9, blk [.int .u64 (py0 : Int), .int .u64 (py1 : Int), .int .u64 (py2 : Int), .int .u64 (py3 : Int), .int .u64 (py4 : Int)] 153), (b8, blk [.int .u64 (px0 : Int), .int .u64 (px1 : Int), .int .u64 (px2 : Int), .int .u64 (px3 : Int), .int .u64 (px4 : Int)] 153), (b7, blk [.int .u64 (pw0 : Int), .int .u64 (pw1 : Int), .int .u64 (pw2 : Int), .int .u64 (pw3 : Int), .int .u64 (pw4 : Int)] 153), (b6, blk [.int .u64 (ux0 : Int), .int .u64 (ux1 : Int), .int .u64 (ux2 : Int), .int .u64 (ux3 : Int), .int .u64 (ux4 : Int)] 153), (b5, blk (nums .u8 (I6 wu)) 150)]) from (Fit.pick (B := [_]) PickC.perm (Fit.pick (B := [_]) PickC.perm (Fit.pick (B := [_]) PickC.perm (Fit.pick (B := [_]) PickC.perm (Fit.pick (B := [_]) PickC.perm (Fit.eq rfl))))))) (fun _ h => by cases h)
  ·
   refine A1 (mv_ (A0 (Z9 5 6 7 8 9 10 11 12 34) ?_))
   refine D1 rfl ?_
   refine A1R ([(b7, blk [.int .u64 (za0 : Int), .int .u64 (za1 : Int), .int .u64 (za2 : Int), .int .u64 (za3 : Int), .int .u64 (za4 : Int)] 153)]) (_) true [0, 1, 2, 3, 4] [(0, 1), (1, 1), (3, 1), (2, 2), (4, 2), (5, 2), (6, 2), (7, 2)] kR kR PickC.perm fun hs K n0 hKm hKs hKn => ?_
   refine Y8 hs rfl hKs (qw_ 5) ?_
   refine Y8 hs rfl hKs (qw_ 5) ?_
   refine Y8 hs rfl hKs (qw_ 5) ?_
   refine Q5 _ _ rfl rfl (List.Perm.refl _) hKm fun w0 => (OpQ.opL (L2 (n := 5) rfl kR At.mem (by rfl)) rfl ?_)
   intro hK2
   refine Q5 _ _ rfl rfl (List.Perm.refl _) (hK2 (hKn rfl)) fun w0 => (A9 (vs := [.int .u64 (zc0 : Int), .int .u64 (zc1 : Int), .int .u64 (zc2 : Int), .int .u64 (zc3 : Int), .int .u64 (zc4 : Int)]) rfl rfl rfl kR (by rfl) al5 UpC.upd ?_)
   intro hK4
   refine T7 rfl rfl rfl (A9 (vs := [.int .u64 (zd0 : Int), .int .u64 (zd1 : Int), .int .u64 (zd2 : Int), .int .u64 (zd3 : Int), .int .u64 (zd4 : Int)]) rfl rfl rfl kR (by rfl) al5 UpC.upd ?_)
   refine T7 rfl rfl rfl (A9 (vs := [.int .u64 (za0 : Int), .int .u64 (za1 : Int), .int .u64 (za2 : Int), .int .u64 (za3 : Int), .int .u64 (za4 : Int)]) rfl rfl rfl kR (by rfl) al5 UpC.upd ?_)
   refine T7 rfl rfl rfl (A9 (vs := [.int .u64 (zb0 : Int), .int .u64 (zb1 : Int), .int .u64 (zb2 : Int), .int .u64 (zb3 : Int), .int .u64 (zb4 : Int)]) rfl rfl rfl kR (by rfl) al5 UpC.upd ?_)
   refine Q8 (V7 5 6 7 8 9 10 11 12) (A1 ?_)
   refine A2 (qw_ 5) rfl ?_
   refine A2 (qw_ 5) rfl ?_
   refine A2 (qw_ 5) rfl ?_
   refine A2 (qw_ 5) rfl ?_
   refine A2 (qw_ 5) rfl ?_
   refine C6 (aS rfl (aS rfl (aS rfl (aS rfl (aS rfl a0))))) kR (B4q _ _ _ _ _ (rdN wp) _ _ _ _ _ hUz hcz hdz haz hbz) rfl ?_
   rintro r45 M45 J45 ⟨rfl, rfl, v0, v1, v2, v3, rfl, k0, k1, k2, k3⟩
   have k0z := k0
   obtain ⟨pw0, pw1, pw2, pw3, pw4, rfl, -⟩ := k0
   have k1z := k1
   obtain ⟨px0, px1, px2, px3, px4, rfl, -⟩ := k1
   have k2z := k2
   obtain ⟨py0, py1, py2, py3, py4, rfl, -⟩ := k2
   have k3z := k3
   obtain ⟨pq0, pq1, pq2, pq3, pq4, rfl, -⟩ := k3
   refine mv_ ?_
   refine A2 (A1l rfl) rfl ?_
   refine A2 (A1g rfl) rfl ?_
   refine A2 (q_x2 rfl) rfl ?_
   refine A2 (q_x3 rfl) rfl ?_
   refine A4 rfl (A9 (vs := [.int .u64 (pw0 : Int), .int .u64 (pw1 : Int), .int .u64 (pw2 : Int), .int .u64 (pw3 : Int), .int .u64 (pw4 : Int)]) rfl rfl rfl kR (by rfl) al5 UpC.upd ?_)
   refine A4 rfl (A9 (vs := [.int .u64 (px0 : Int), .int .u64 (px1 : Int), .int .u64 (px2 : Int), .int .u64 (px3 : Int), .int .u64 (px4 : Int)]) rfl rfl rfl kR (by rfl) al5 UpC.upd ?_)
   refine A4 rfl (A9 (vs := [.int .u64 (py0 : Int), .int .u64 (py1 : Int), .int .u64 (py2 : Int), .int .u64 (py3 : Int), .int .u64 (py4 : Int)]) rfl rfl rfl kR (by rfl) al5 UpC.upd ?_)
   refine A4 rfl (A9 (vs := [.int .u64 (pq0 : Int), .int .u64 (pq1 : Int), .int .u64 (pq2 : Int), .int .u64 (pq3 : Int), .int .u64 (pq4 : Int)]) rfl rfl rfl kR (by rfl) al5 UpC.upd ?_)
   refine A0 (V7 5 6 7 8 9 10 11 12) (A1 (mv_ (A0 (V7 5 6 7 8 9 10 11 50) ?_)))
   refine D1 rfl ?_
   refine A1R ([(b7, blk [.int .u64 (pw0 : Int), .int .u64 (pw1 : Int), .int .u64 (pw2 : Int), .int .u64 (pw3 : Int), .int .u64 (pw4 : Int)] 153)]) (_) true [0, 1, 2, 3, 4] [(0, 1), (1, 1), (3, 1), (2, 2), (4, 2), (5, 2), (6, 2), (7, 2)] kR kR PickC.perm fun hs K n0 hKm hKs hKn => ?_
   refine Y8 hs rfl hKs (qw_ 5) ?_
   refine Y8 hs rfl hKs (qw_ 5) ?_
   refine Y8 hs rfl hKs (qw_ 5) ?_
   refine Q5 _ _ rfl rfl (List.Perm.refl _) hKm fun w0 => (OpQ.opL (L2 (n := 5) rfl kR At.mem (by rfl)) rfl ?_)
   intro hK2
   refine Q5 _ _ rfl rfl (List.Perm.refl _) (hK2 (hKn rfl)) fun w0 => (A9 (vs := [.int .u64 (py0 : Int), .int .u64 (py1 : Int), .int .u64 (py2 : Int), .int .u64 (py3 : Int), .int .u64 (py4 : Int)]) rfl rfl rfl kR (by rfl) al5 UpC.upd ?_)
   intro hK4
   refine T7 rfl rfl rfl (A9 (vs := [.int .u64 (pq0 : Int), .int .u64 (pq1 : Int), .int .u64 (pq2 : Int), .int .u64 (pq3 : Int), .int .u64 (pq4 : Int)]) rfl rfl rfl kR (by rfl) al5 UpC.upd ?_)
   refine T7 rfl rfl rfl (A9 (vs := [.int .u64 (pw0 : Int), .int .u64 (pw1 : Int), .int .u64 (pw2 : Int), .int .u64 (pw3 : Int), .int .u64 (pw4 : Int)]) rfl rfl rfl kR (by rfl) al5 UpC.upd ?_)
   refine T7 rfl rfl rfl (A9 (vs := [.int .u64 (px0 : Int), .int .u64 (px1 : Int), .int .u64 (px2 : Int), .int .u64 (px3 : Int), .int .u64 (px4 : Int)]) rfl rfl rfl kR (by rfl) al5 UpC.upd ?_)
   refine A7f (nb (nx (R9 5 6 7 8 9 10 11) (A8 (mv_ ?_))))
   refine A2 (C8 ((i : Int) - 1) rfl rfl (A0i rfl (by omega) (by omega))) rfl ?_
   refine as_ (C1 ?_)
   exact rn (i, [py0, py1, py2, py3, py4], [pq0, pq1, pq2, pq3, pq4], [pw0, pw1, pw2, pw3, pw4], [px0, px1, px2, px3, px4]) ⟨by dsimp only; omega, by dsimp only; rw [hts]; exact k2z, by dsimp only; rw [hts]; exact k3z, by dsimp only; rw [hts]; exact k0z, by dsimp only; rw [hts]; exact k1z⟩ (by dsimp only; omega) (R9 5 6 7 8 9 10 11) (show Fit _ ([(b10, blk [.int .u64 (px0 : Int), .int .u64 (px1 : Int), .int .u64 (px2 : Int), .int .u64 (px3 : Int), .int .u64 (px4 : Int)] 153), (b9, blk [.int .u64 (pw0 : Int), .int .u64 (pw1 : Int), .int .u64 (pw2 : Int), .int .u64 (pw3 : Int), .int .u64 (pw4 : Int)] 153), (b8, blk [.int .u64 (pq0 : Int), .int .u64 (pq1 : Int), .int .u64 (pq2 : Int), .int .u64 (pq3 : Int), .int .u64 (pq4 : Int)] 153), (b7, blk [.int .u64 (py0 : Int), .int .u64 (py1 : Int), .int .u64 (py2 : Int), .int .u64 (py3 : Int), .int .u64 (py4 : Int)] 153), (b6, blk [.int .u64 (ux0 : Int), .int .u64 (ux1 : Int), .int .u64 (ux2 : Int), .int .u64 (ux3 : Int), .int .u64 (ux4 : Int)] 153), (b5, blk (nums .u8 (I6 wu)) 150)]) from (Fit.pick (B := [_]) PickC.perm (Fit.pick (B := [_]) PickC.perm (Fit.pick (B := [_]) PickC.perm (Fit.pick (B := [_]) PickC.perm (Fit.pick (B := [_]) PickC.perm (Fit.eq rfl))))))) (fun _ h => by cases h)
 ·
  have hj0 : j = 0 := by simp at hc; omega
  subst hj0
  refine D2 (te (re (be rfl (nx (D3 7 8) ?_))))
  refine C7 [0, 1, 2, 3, 4, 5] (zp 0 [1, 1, 2, 2, 2, 0]) kR kR fun hs => ?_
  refine G4 hs rfl (qw_ 5) rfl ?_
  refine G4 hs rfl (qw_ 5) rfl ?_
  refine N6 rfl (aS rfl a0) kR (B9e hbz _) rfl ?_
  rintro r57 M57 J57 ⟨rfl, rfl, k57⟩
  have h57 := k57
  obtain ⟨a57, b57, c57, d57, e57, rfl, -⟩ := k57
  refine N6 rfl (aS rfl (aS rfl a0)) kR (A6S haz h57 _) rfl ?_
  rintro r58 M58 J58 ⟨rfl, rfl, k58⟩
  have h58 := k58
  obtain ⟨a58, b58, c58, d58, e58, rfl, -⟩ := k58
  refine N6 rfl (aS rfl a0) kR ((A6P _ _ h58 _).frz0) rfl ?_
  rintro r59 M59 J59 ⟨rfl, hs59⟩
  haveI := hs59.cel
  refine fa_ hs ?_
  refine E4 (D7 4) (B4 ?_)
  exact ⟨_, [], J59, I7 rfl rfl, List.nil_sublist _, fun x hx => by simp [hx], rfl, B9r hs59 (A2g _ _).symm (B0O _ _) (by rw [A2g]; decide) fun _ h => h⟩
theorem B75 (v : Value) (wu : List Nat) (A : Mem) (hv : By A v wu) : FnX Tryz.prog 53 [v] [] A fun r M J => M = [] ∧ By J r (A0m wu) := by
 haveI := hv.cel
 refine FnX.enterZ (N := 10) Tryz.func53 rfl rfl rfl fun w_ => ?_
 refine B0 (D7 0) (A1 (as_ (A0 (D7 0) (A1 ?_))))
 refine A4 rfl (A0o (by_ := 1) (k := .u8) (e := 5) 32 rfl rfl kR rfl rfl (by omega) (by omega) rfl fun b4 => ?_)
 refine as_ (A0 (D3 0 3) (A1 (mv_ ?_)))
 refine A2 (K6 (e := 5) (sz := 1) (i := 0) rfl rfl kR kR (by omega) (by omega)) rfl ?_
 refine A4 rfl (I4 0 (ws := List.replicate 32 0) rfl rfl kR rfl (by simp) UpC.upd ?_)
 refine A0 (D3 0 3) (A1 (mv_ (mv_ ?_)))
 refine C6 (aS rfl (aS rfl a0)) kR (B4r v _ wu B3l _ (hv.mono SubC.sub) ⟨Rd.whole (n := 32) (cs := nums .u8 B3l) At.mem (by rfl), by decide, by decide⟩) rfl ?_
 rintro r9 M9 J9 ⟨rfl, h9⟩
 haveI := h9.cel
 refine as_ (A0 (D7 2) (B4 ?_))
 exact ⟨_, [], [], I7 rfl rfl, Fit.sub (List.nil_sublist _), rfl, h9.mono SubC.sub⟩

end Go.Proofs.YtlilcmjbaknafaaGreatDoor
namespace Go.Px
open Go.ChangeShapes Go.WideShapes Go.ChangeAt Go.RowKit
structure Byi (R : Mem) (v : Value) (w : List Nat) : Prop where
  rd : Rd R 1 v w.length (nums .u8 w)
  lt : ∀ x ∈ w, x < 256
  len : w.length ≤ maxLen
theorem Byi.mono {R R' : Mem} {v : Value} {w : List Nat} (h : Byi R v w) (hR : ∀ x, x ∈ R → x ∈ R') : Byi R' v w := ⟨h.rd.mono hR, h.lt, h.len⟩
theorem By.i {R : Mem} {v : Value} {w : List Nat} (h : By R v w) : Byi R v w := ⟨h.rd, h.lt, h.max⟩
theorem Byi.cel {R : Mem} {v : Value} {w : List Nat} (h : Byi R v w) : Cel v [v] := h.rd.cel
structure Byz (R : Mem) (v : Value) (w : List Nat) : Prop extends Byi R v w where
  sz : w.length ≤ reachBytes
theorem Byz.mono {R R' : Mem} {v : Value} {w : List Nat} (h : Byz R v w) (hR : ∀ x, x ∈ R → x ∈ R') : Byz R' v w := ⟨h.toByi.mono hR, h.sz⟩
section
variable {H : Type} {enc : TypeId × Value → H} {P : Program} {w : World} {spare : Nat → Bool} {held : Bool} {fuel : Nat} {t e : TypeId} {cs : List Value} {x : DataW H × List MemPlace}
end
end Go.Px

namespace Go.Proofs.YtlilcmjbaknafaaGreatDoor
open Go.Px
theorem Glb.s {A : Mem} (h : Glb A) : GlS A := ⟨h.first, h.round⟩
def K5 (s : Ps) (w : List Nat) : Ps := if s.real then s else B2I s w
noncomputable def I0 (s : Ps) (w : List Nat) : List Nat := if s.real then A0m (G2 w 32) else B5C s w
noncomputable def skK2 (s : Ps) (w : List Nat) : List Nat := if s.real then B9q (G2 w 32) else B5C s w
def W7 (s : Ps) (w u : List Nat) : Ps := if s.real then s else B5D s w u
noncomputable def A0K (s : Ps) (w u : List Nat) : List Nat := if s.real then x25 (G2 w 32) (G2 u 32) else B60 s w u
def sgS2 (s : Ps) (w m : List Nat) : Ps := if s.real then s else B4i s w fun x => B8C x m
noncomputable def sgK2 (s : Ps) (w m : List Nat) : List Nat := if s.real then sigB (G2 w 32) m else G2 (B4j s w fun x => B8C x m) 64
theorem B3m (pb : Nat) (s : Ps) (hr : s.real = true) (v : Value) (w : List Nat) (MP A : Mem) (hP : Prm pb s MP) (hv : By A v w) : FnX Tryz.prog 27 [.pointer (some ⟨pb, 0, none⟩), v] MP A fun q M J => Prm pb s M ∧ By J q (A0m (G2 w 32)) := by
 obtain ⟨sv, bt, bm, B, MT, rfl, hby, hT⟩ := hP.ex
 haveI := hv.cel
 haveI := hby.cel
 have hvl := hv.len
 refine FnX.enterZ (N := 26) Tryz.func27 rfl rfl rfl fun w_ => ?_
 refine B0 (D3 0 1) (A1 (as_ (A0 (D3 0 1) (A3 (A1 (mv_ ?_))))))
 refine A2 (H2 (e := 105) rfl rfl kR) rfl ?_
 refine A0 (D4 0 1 6) ?_
 refine D0 rfl ?_
 refine A6 (nx (D3 0 1) (A3 (A1 (mv_ ?_))))
 refine A2 (E8 rfl) rfl ?_
 refine A2 (qf_ 0 0) rfl ?_
 refine A2 ql_ rfl ?_
 refine A2 (F0 true rfl rfl (eqT (by rw [hr]; rfl))) rfl ?_
 refine A0 (D4 0 1 11) ?_
 refine D1 rfl ?_
 refine A1 (mv_ ?_)
 refine C6 (aS rfl (aS rfl a0)) kR (A0u v w 32 _ (hv.mono SubC.sub) (by decide)) rfl ?_
 rintro r13 M13 J13 ⟨rfl, h13⟩
 haveI := h13.cel
 refine C6 (aS rfl a0) kR (B75 _ _ _ (h13.mono SubC.sub)) rfl ?_
 rintro r14 M14 J14 ⟨rfl, h14⟩
 haveI := h14.cel
 refine as_ (A0 (D7 4) (B4 (tr ?_)))
 exact ⟨_, (pb, blk [.int .u8 (md s.real), sv, .int .i64 (((s.n : Nat) : Int)), .pointer (some ⟨bt, 0, none⟩)] 105) :: (B ++ MT), [], I7 rfl rfl, (Fit.none (Fit.pick (B := [_]) PickC.perm (Fit.pick PickC.perm (Fit.last PickC.perm)))), ⟨sv, bt, bm, B, MT, rfl, hby, hT⟩, h14.mono SubC.sub⟩
theorem B56 (pb : Nat) (s : Ps) (hr : s.real = true) (v v2 : Value) (w u : List Nat) (MP A : Mem) (hP : Prm pb s MP) (hv : By A v w) (hu : By A v2 u) : FnX Tryz.prog 73 [.pointer (some ⟨pb, 0, none⟩), v, v2] MP A fun q M J => Prm pb s M ∧ By J q (x25 (G2 w 32) (G2 u 32)) := by
 obtain ⟨sv, bt, bm, B, MT, rfl, hby, hT⟩ := hP.ex
 haveI := hv.cel
 haveI := hby.cel
 have hvl := hv.len
 haveI := hu.cel
 refine FnX.enterZ (N := 31) Tryz.func73 rfl rfl rfl fun w_ => ?_
 refine B0 (D4 0 1 2) (A1 (as_ (A0 (D4 0 1 2) (A3 (A1 (mv_ ?_))))))
 refine A2 (H2 (e := 105) rfl rfl kR) rfl ?_
 refine A0 (D6 0 1 2 8) ?_
 refine D0 rfl ?_
 refine A6 (nx (D4 0 1 2) (A3 (A1 (mv_ ?_))))
 refine A2 (E8 rfl) rfl ?_
 refine A2 (qf_ 0 0) rfl ?_
 refine A2 ql_ rfl ?_
 refine A2 (F0 true rfl rfl (eqT (by rw [hr]; rfl))) rfl ?_
 refine A0 (D6 0 1 2 13) ?_
 refine D1 rfl ?_
 refine A1 (mv_ ?_)
 refine C6 (aS rfl (aS rfl a0)) kR (A0u v w 32 _ (hv.mono SubC.sub) (by decide)) rfl ?_
 rintro r15 M15 J15 ⟨rfl, h15⟩
 haveI := h15.cel
 refine mv_ ?_
 refine C6 (aS rfl (aS rfl a0)) kR (A0u v2 u 32 _ (hu.mono SubC.sub) (by decide)) rfl ?_
 rintro r17 M17 J17 ⟨rfl, h17⟩
 haveI := h17.cel
 refine C6 (aS rfl (aS rfl a0)) kR (B4r _ _ _ _ _ (h15.mono SubC.sub) (h17.mono SubC.sub)) rfl ?_
 rintro r18 M18 J18 ⟨rfl, h18⟩
 haveI := h18.cel
 refine as_ (A0 (D7 6) (B4 (tr ?_)))
 exact ⟨_, (pb, blk [.int .u8 (md s.real), sv, .int .i64 (((s.n : Nat) : Int)), .pointer (some ⟨bt, 0, none⟩)] 105) :: (B ++ MT), [], I7 rfl rfl, (Fit.none (Fit.pick (B := [_]) PickC.perm (Fit.pick PickC.perm (Fit.last PickC.perm)))), ⟨sv, bt, bm, B, MT, rfl, hby, hT⟩, h18.mono SubC.sub⟩
theorem A7K (pb : Nat) (s : Ps) (v : Value) (w : List Nat) (MP A : Mem) (hP : Prm pb s MP) (hn : s.ts.length < 1048576) (hv : By A v w) (hG : Glb A) : FnX Tryz.prog 27 [.pointer (some ⟨pb, 0, none⟩), v] MP A fun q M J => Prm pb (K5 s w) M ∧ By J q (I0 s w) := by
  cases hr : s.real with
  | true => unfold K5 I0; rw [hr]; exact B3m pb s hr v w MP A hP hv
  | false => unfold K5 I0; rw [hr]; exact B2J pb s hr v w MP A hP hn hv hG
theorem B58 (pb : Nat) (s : Ps) (v v2 : Value) (w u : List Nat) (MP A : Mem) (hP : Prm pb s MP) (hn : s.ts.length + 1 < 1048576) (hv : By A v w) (hu : By A v2 u) (hG : Glb A) : FnX Tryz.prog 73 [.pointer (some ⟨pb, 0, none⟩), v, v2] MP A fun q M J => Prm pb (W7 s w u) M ∧ By J q (A0K s w u) := by
  cases hr : s.real with
  | true => unfold W7 A0K; rw [hr]; exact B56 pb s hr v v2 w u MP A hP hv hu
  | false => unfold W7 A0K; rw [hr]; exact B2K pb s hr v v2 w u MP A hP hn hv hu hG

structure Ext (s s' : Ps) : Prop where
  p : Pext s s'
  seed : s'.seed = s.seed
  n : s.n ≤ s'.n
theorem Ext.refl (s : Ps) : Ext s s := ⟨Pext.refl s, rfl, Nat.le_refl _⟩
theorem Ext.trans {a b c : Ps} (h : Ext a b) (h' : Ext b c) : Ext a c := ⟨h.p.trans h'.p, h'.seed.trans h.seed, Nat.le_trans h.n h'.n⟩
theorem A5h (ts : List Tm) (t : Tm) : ∃ l, add ts t = ts ++ l := by
  unfold add
  split
  · exact ⟨[], by simp⟩
  · exact ⟨_, rfl⟩
theorem A1D (ts : List Tm) (w : List Nat) : ∃ l, rdT ts w = ts ++ l := by
  cases hp : plc w ts.length with
  | some j => exact ⟨[], by rw [(V4 hp).1]; simp⟩
  | none => rw [(X7 hp).1]; exact A5h _ _
theorem A7L (ts : List Tm) (w : List Nat) (t : Tm) : ∃ l, add (rdT ts w) t = ts ++ l := by
  obtain ⟨l1, e1⟩ := A1D ts w
  obtain ⟨l2, e2⟩ := A5h (rdT ts w) t
  exact ⟨l1 ++ l2, by rw [e2, e1, List.append_assoc]⟩
theorem A2S (s : Ps) : Ext s (E6 s) := ⟨A55 s, by unfold E6; split <;> rfl, by unfold E6; split <;> exact Nat.le_succ _⟩
theorem B0P (s : Ps) (w : List Nat) : Ext s (K5 s w) := by
  unfold K5
  split
  · exact Ext.refl s
  · exact ⟨⟨rfl, A7L _ _ _⟩, rfl, Nat.le_refl _⟩
theorem B9s {s : Ps} {i : Nat} (hi : i < s.ts.length) (hl : s.ts.length ≤ 1048576) : B2I s (bts ((i : Nat) : Int)) = { s with ts := add s.ts (B0a ((i : Nat) : Int)) } ∧ B5C s (bts ((i : Nat) : Int)) = bts ((at_ s.ts (B0a ((i : Nat) : Int)) : Nat) : Int) := by
  obtain ⟨h1, h2⟩ := A3o hi hl
  unfold B2I B5C
  rw [h1, h2]
  exact ⟨rfl, rfl⟩
theorem B9t {s : Ps} {i : Nat} (hi : i < s.ts.length) (hl : s.ts.length ≤ 1048576) (f : Int → Tm) : B4i s (bts ((i : Nat) : Int)) f = { s with ts := add s.ts (f ((i : Nat) : Int)) } ∧ B4j s (bts ((i : Nat) : Int)) f = bts ((at_ s.ts (f ((i : Nat) : Int)) : Nat) : Int) := by
  obtain ⟨h1, h2⟩ := A3o hi hl
  unfold B4i B4j
  rw [h1, h2]
  exact ⟨rfl, rfl⟩
theorem A5i {i : Nat} (h : i ≤ 1048576) : i64 ((i : Nat) : Int) := by unfold i64; omega
def B62 (s : Ps) (w p : List Nat) : Prop := ∃ i j : Nat, i < s.ts.length ∧ w = bts ((i : Nat) : Int) ∧ s.ts[j]? = some (B0a ((i : Nat) : Int)) ∧ p = bts ((j : Nat) : Int)
def U5 (s : Ps) (w p : List Nat) : Prop := if s.real then p = A0m (G2 w 32) else B62 s w p
def B76 (s : Ps) (w p : List Nat) : Prop := if s.real then p = B9q (G2 w 32) else B62 s w p
def B0Q (s : Ps) (w m g : List Nat) : Prop := if s.real then g = sigB (G2 w 32) m else ∃ i j : Nat, i < s.ts.length ∧ w = bts ((i : Nat) : Int) ∧ s.ts[j]? = some (B8C ((i : Nat) : Int) m) ∧ g = G2 (bts ((j : Nat) : Int)) 64
theorem B62.ext {s s' : Ps} {w p : List Nat} (h : B62 s w p) (he : Pext s s') : B62 s' w p := by
  obtain ⟨l, e⟩ := he.ts
  obtain ⟨i, j, h1, h2, h3, h4⟩ := h
  exact ⟨i, j, by rw [e, List.length_append]; omega, h2, by rw [e]; exact A3n h3, h4⟩
theorem U5.ext {s s' : Ps} {w p : List Nat} (h : U5 s w p) (he : Pext s s') : U5 s' w p := by
  unfold U5 at *
  rw [he.real]
  split
  · rename_i hr; rwa [if_pos hr] at h
  · rename_i hr; rw [if_neg hr] at h; exact h.ext he
theorem B76.ext {s s' : Ps} {w p : List Nat} (h : B76 s w p) (he : Pext s s') : B76 s' w p := by
  unfold B76 at *
  rw [he.real]
  split
  · rename_i hr; rwa [if_pos hr] at h
  · rename_i hr; rw [if_neg hr] at h; exact h.ext he
theorem B0Q.ext {s s' : Ps} {w m g : List Nat} (h : B0Q s w m g) (he : Pext s s') : B0Q s' w m g := by
  unfold B0Q at *
  rw [he.real]
  split
  · rename_i hr; rwa [if_pos hr] at h
  · rename_i hr
    rw [if_neg hr] at h
    obtain ⟨l, e⟩ := he.ts
    obtain ⟨i, j, h1, h2, h3, h4⟩ := h
    exact ⟨i, j, by rw [e, List.length_append]; omega, h2, by rw [e]; exact A3n h3, h4⟩
theorem B62.kok {s : Ps} {w p : List Nat} (h : B62 s w p) : B4g s.ts w ∧ B4g s.ts p := by
  obtain ⟨i, j, h1, h2, h3, h4⟩ := h
  exact ⟨⟨i, h1, h2⟩, ⟨j, (List.getElem?_eq_some_iff.1 h3).1, h4⟩⟩
theorem U5.kok {s : Ps} {w p : List Nat} (h : U5 s w p) : Kok s w ∧ Kok s p := by
  unfold U5 at h
  refine ⟨fun hr => ?_, fun hr => ?_⟩ <;> rw [if_neg (by rw [hr]; decide)] at h
  · exact h.kok.1
  · exact h.kok.2
theorem B59 {s : Ps} {w : List Nat} (h : B4g s.ts w) (ht : Tok s.ts) (hl : s.ts.length ≤ 1048576) : B62 (B2I s w) w (B5C s w) ∧ Tok (B2I s w).ts := by
  obtain ⟨i, hi, rfl⟩ := h
  obtain ⟨e1, e2⟩ := B9s hi hl
  obtain ⟨l, g1, g2, g3, g4⟩ := A32 (B4h (A5i (show i ≤ 1048576 by omega))) ht
  rw [e1, e2]
  exact ⟨⟨i, _, by show i < (add s.ts _).length; rw [g1, List.length_append]; omega, rfl, g3, rfl⟩, g4⟩
theorem B77 {s : Ps} {w : List Nat} (h : Kok s w) (ht : Tok s.ts) (hl : s.ts.length ≤ 1048576) : U5 (K5 s w) w (I0 s w) ∧ B76 (K5 s w) w (skK2 s w) ∧ Tok (K5 s w).ts := by
  unfold U5 B76 K5 I0 skK2
  cases hr : s.real with
  | true => simp [hr, ht]
  | false =>
    obtain ⟨h1, h2⟩ := B59 (h hr) ht hl
    have h3 : (B2I s w).real = false := hr
    simp only [Bool.false_eq_true, if_false, h3]
    exact ⟨h1, h1, h2⟩
theorem B0Q.f {s : Ps} (h : s.real = false) {w m g : List Nat} : B0Q s w m g ↔ ∃ i j : Nat, i < s.ts.length ∧ w = bts ((i : Nat) : Int) ∧ s.ts[j]? = some (B8C ((i : Nat) : Int) m) ∧ g = G2 (bts ((j : Nat) : Int)) 64 := by unfold B0Q; rw [if_neg (by rw [h]; decide)]
def chkT (ts : List Tm) (p m g : List Nat) : Bool := decide (g.length = 64) && match plc g ts.length, plc p ts.length with
  | some i, some k => decide (p.length = 32) && match ts[i]?, ts[k]? with
    | some t, some u => decide (t.kind = 7) && decide (t.text = m) && decide (u.kind = 3) && decide (u.of.getD 0 0 = t.of.getD 0 0)
    | _, _ => false
  | _, _ => false
noncomputable def chkK (s : Ps) (p m g : List Nat) : Bool := if s.real then chkB p m g else chkT s.ts p m g
def Ar (ts : List Tm) : Prop := ∀ t ∈ ts, (t.kind = 3 ∨ t.kind = 6 ∨ t.kind = 7) → 0 < t.of.length
theorem Ar.nil : Ar [] := fun t h => by cases h
theorem Ar.add {ts : List Tm} (h : Ar ts) {t : Tm} (ht : (t.kind = 3 ∨ t.kind = 6 ∨ t.kind = 7) → 0 < t.of.length) : Ar (add ts t) := by
  unfold Go.Proofs.YtlilcmjbaknafaaGreatDoor.add
  split
  · exact h
  · intro u hu
    rcases List.mem_append.1 hu with h1 | h1
    · exact h u h1
    · rw [List.mem_singleton.1 h1]; exact ht
theorem Ar.rd {ts : List Tm} (h : Ar ts) (w : List Nat) : Ar (rdT ts w) := by
  cases hp : plc w ts.length with
  | some j => rw [(V4 hp).1]; exact h
  | none => rw [(X7 hp).1]; exact h.add (by intro h; rcases h with h | h | h <;> cases h)
theorem B0R (a b : List Nat) : mark a ++ mark b = A0I [a, b] := by simp [A0I]
theorem B3n (bt bm : Nat) (ts : List Tm) (v : Value) (w : List Nat) (j : Nat) (MT A : Mem) (hT : Tab bt bm ts MT) (hsub : ∀ x, x ∈ MT → x ∈ A) (hn : ts.length ≤ 1048576) (hv : By A v w) (hj : plc w ts.length = some j) : FnV Tryz.prog 75 [.pointer (some ⟨bt, 0, none⟩), v] A (.int .i64 ((j : Nat) : Int)) := by
 haveI := hv.cel
 refine FnX.enter (N := 20) Tryz.func75 rfl rfl rfl fun w_ => ?_
 refine B0 (D3 0 1) (A1 (as_ (A0 (D3 0 1) (A3 (A1 (mv_ (mv_ ?_)))))))
 refine F3 (aS rfl (aS rfl a0)) kR (A2e bt bm ts v w MT _ hT (fun x hx => SubC.sub _ (hsub x hx)) hn (hv.rd.mono SubC.sub) hv.lt hv.max) rfl ?_
 rw [hj, Option.getD_some, Option.isSome_some]
 refine mv_ ?_
 refine A2 (A1l rfl) rfl ?_
 refine A2 (A1g rfl) rfl ?_
 refine as_ (as_ (A0 (D6 0 1 5 6) (A1 (mv_ (A0 (D6 0 1 5 13) ?_)))))
 refine D1 rfl ?_
 refine A1 (mv_ (as_ (A0 (D7 4) (B4 (tr ?_)))))
 exact ⟨_, [], [], I7 rfl rfl, List.nil_sublist _, by simp, rfl, rfl, rfl⟩
theorem B3o (pb bt bm : Nat) (m k : Int) (sv : Value) [hsv : Cel sv [sv]] (ts : List Tm) (v : Value) (w : List Nat) (j : Nat) (MT A : Mem) (hT : Tab bt bm ts MT) (hsub : ∀ x, x ∈ MT → x ∈ A) (hpb : (pb, blk [.int .u8 m, sv, .int .i64 k, .pointer (some ⟨bt, 0, none⟩)] 105) ∈ A) (hn : ts.length ≤ 1048576) (hv : By A v w) (hj : plc w ts.length = some j) : FnV Tryz.prog 55 [.pointer (some ⟨pb, 0, none⟩), v] A (.int .i64 ((j : Nat) : Int)) := by
 haveI := hv.cel
 refine FnX.enter (N := 11) Tryz.func55 rfl rfl rfl fun w_ => ?_
 refine B0 (D3 0 1) (A1 (as_ (A0 (D3 0 1) (A1 (mv_ ?_)))))
 refine A2 (E8 rfl) rfl ?_
 refine A2 (qf_ 3 3) rfl ?_
 refine A2 (I9 rfl kR (mA hpb) (by rfl)) rfl ?_
 refine mv_ ?_
 refine F3 (aS rfl (aS rfl a0)) kR (B3n bt bm ts v w j MT _ hT (fun x hx => SubC.sub _ (hsub x hx)) hn (hv.mono SubC.sub) hj) rfl ?_
 refine as_ (A0 (D7 4) (B4 ?_))
 exact ⟨_, [], [], I7 rfl rfl, List.nil_sublist _, by simp, rfl, rfl, rfl⟩

theorem A1E (v : Value) (w : List Nat) (A : Mem) (h : By A v w) : FnX Tryz.prog 36 [v] [] A fun r M J => M = [] ∧ By J r w := by
 haveI := h.cel
 have hwl := h.len
 refine FnX.enterZ (N := 8) Tryz.func36 rfl rfl rfl fun w_ => ?_
 refine B0 (D7 0) (A1 (as_ (A0 (D7 0) (A3 (A1 (mv_ ?_))))))
 refine A2 (A1X (e := 5) rfl kR (by first | assumption | exact Sl.rd (by assumption) (fun _ h => h) | exact By.rd (by assumption))) rfl ?_
 refine A0 (D3 0 4) ?_
 refine C0 rfl (fun hc => ?_) (fun hc => ?_)
 ·
  have h0 := h.rd.isNil hc
  obtain rfl : w = [] := List.eq_nil_of_length_eq_zero h0
  refine A1 (as_ (A0 (D7 2) (B4 (tr ?_))))
  exact ⟨_, [], [], I7 rfl rfl, Fit.sub (List.nil_sublist _), rfl, By.nil⟩
 ·
  refine A6 (nx (D7 0) (A1 ?_))
  refine A4 rfl (C3 (e := 5) (sz := 1) (z := []) kR e0 bd0 rfl fun b5 => ?_)
  refine mv_ ?_
  refine A4 rfl (H5 (e := 5) (sz := 1) (by_ := 1) rfl rfl kR rfl (Sl.fresh (n := 0) (cs := []) (e := 5) rfl (by decide)) (h.rd.mono SubC.sub) E7 PickC.perm (by unfold maxLen; omega) (by omega) rfl fun v7 B7 hs7 => ?_)
  refine as_ (A0 (D7 2) (B4 ?_))
  exact ⟨_, [], B7, I7 rfl rfl, Fit.pick PickC.perm (Fit.sub (List.nil_sublist _)), rfl, ⟨A0H (hs7.rd fun x hx => by simp [hx]) (by omega) (by simp), h.lt, h.len⟩⟩
theorem P5 (va vb : Value) (a b : List Nat) (A : Mem) (ha : By A va a) (hb : By A vb b) : FnV Tryz.prog 33 [va, vb] A (.bool (decide (a = b))) := by
 haveI := ha.cel
 haveI := hb.cel
 refine FnX.enter (N := 10) Tryz.func33 rfl rfl rfl fun w => ?_
 refine B0 (D3 0 1) (A1 (as_ (A0 (D3 0 1) (A1 (mv_ ?_)))))
 refine A2 (T9 rfl kR (ha.rd.mono SubC.sub)) rfl ?_
 refine mv_ ?_
 refine A2 (T9 rfl kR (hb.rd.mono SubC.sub)) rfl ?_
 refine A2 (B84 rfl rfl rfl rfl ha.lt hb.lt) rfl ?_
 refine as_ (A0 (D7 4) (B4 ?_))
 exact ⟨_, [], [], I7 rfl rfl, List.nil_sublist _, by simp, rfl, rfl, rfl⟩
theorem A8I (v : Value) (rows : List (List Value)) (f : FuncId) (cs : List Value) (p : Nat → Bool) (A : Mem) (hv : Rd A 3 v rows.length rows.flatten) (hl : ∀ r ∈ rows, r.length = 3) (hn : rows.length ≤ 1099511627776) (hc_ : K8 Tryz.prog f = true) (hf : ∀ (j : Nat) (r : List Value), rows[j]? = some r → FnV Tryz.prog f (.agg r.toArray :: cs) A (.bool (p j))) : FnV Tryz.prog 61 [v, .func (.func f) #[] cs.toArray] A (.int .i64 (B4l p rows.length)) := by
 haveI := hv.cel
 refine FnX.enter (N := 19) Tryz.func61 rfl rfl rfl fun w => ?_
 refine B0 (D3 0 1) (A1 (as_ (A0 (D3 0 1) (A3 (A1 (mv_ ?_))))))
 refine A2 (G3 (sz := 3) rfl kR hv) rfl ?_
 refine mv_ (A0 (D6 0 1 7 8) (A5 ?_))
 refine D9 (α := Nat) (fun i => [(0, v), (1, .func (.func f) #[] cs.toArray), (7, .int .i64 ((rows.length : Nat) : Int)), (8, .int .i64 (i : Int))]) (fun _ => []) (fun _ => []) (fun i => i ≤ rows.length ∧ ∀ j, j < i → p j = false) (fun i => rows.length - i) 0 ⟨Nat.zero_le _, fun j h => absurd h (Nat.not_lt_zero j)⟩ (D6 0 1 7 8) .rfl (fun _ h => h) ?_
 rintro i ⟨hi, hp⟩
 refine A1 ?_
 refine A2 (D8 rfl rfl rfl) rfl ?_
 refine A0 (E5 0 1 7 8 9) (A3 ?_)
 refine C0 rfl (fun hc => ?_) (fun hc => ?_)
 ·
  have hlt : i < rows.length := by simp at hc; omega
  obtain ⟨r, hr⟩ : ∃ r, rows[i]? = some r := ⟨_, List.getElem?_eq_getElem hlt⟩
  refine A6 (nx (D6 0 1 7 8) (A3 (A5 (A1 (mv_ (as_ (A0 (E5 0 1 5 7 8) (A1 ?_))))))))
  refine mv_ (mv_ (mv_ ?_))
  refine A2 (I1 (sz := 3) rfl rfl kR rfl hv hlt) rfl ?_
  refine A2 (A9v rfl kR (hv.mono SubC.sub) hl (by decide) hr) rfl ?_
  refine A4 rfl (A5c rfl (aS rfl a0) hc_ (hf i r hr) rfl ?_)
  refine A0 (H9 0 1 5 7 8 16) ?_
  refine C0 rfl (fun hc => ?_) (fun hc => ?_)
  ·
   refine A1 (mv_ (as_ (A0 (D7 4) (B4 (br (tr (rr (br ?_))))))))
   refine tr ?_
   exact ⟨_, [], [], I7 rfl rfl, List.nil_sublist _, by simp, by rw [A6f hlt hp hc], rfl, rfl⟩
  ·
   refine A6 (nb (nx (D6 0 1 7 8) (A8 ?_)))
   refine A2 (I3 (b := 1) rfl rfl rfl rfl (by omega)) rfl ?_
   refine mv_ (C1 ?_)
   exact rn (i + 1) ⟨hlt, fun j hj => by rcases Nat.lt_succ_iff_lt_or_eq.1 hj with h | h; exact hp j h; rw [h]; exact hc⟩ (by omega) (D6 0 1 7 8) .rfl (fun _ h => h)
 ·
  have hge : i = rows.length := by simp at hc; omega
  subst hge
  refine D2 (te (re (be rfl (nx kn (A1 (as_ (A0 (D7 4) ?_)))))))
  refine B4 ?_
  exact ⟨_, [], [], I7 rfl rfl, List.nil_sublist _, by simp, by rw [A6g hp], rfl, rfl⟩
theorem A3C (b o cap n i j : Nat) (cs xs : List Value) (e : TypeId) (A : Mem) (hn : n ≤ cap) (hcap : cap ≤ maxLen) (hfit : o + cap * 3 ≤ cs.length) (hl : xs.length = n * 3) (hx : ∀ j u, xs[j]? = some u → cs[o + j]? = some u)
    (h1 : ∀ c ∈ xs, c.oneCell' = true) (hij : i < j) (hjn : j ≤ n) :
    FnX Tryz.prog 35 [.slice (some ⟨b, o, none⟩) n cap, .int .i64 i, .int .i64 j] [(b, blk cs e)] A
      fun v M J => J = [] ∧ Sl 3 v (n - (j - i)) (xs.take (i * 3) ++ xs.drop (j * 3)) M := by
  refine FnX.enter (N := 33) Tryz.func35 rfl rfl rfl fun w => ?_
  refine B0 (D4 0 1 2) (A1 (as_ (A0 (D4 0 1 2) (A1 (mv_ (mv_ (mv_ (mv_ ?_))))))))
  refine A2 (A1j (e := 55) rfl kR) rfl ?_
  refine A2 (A2b (e := 55) (sz := 3) rfl kR kR (o1 i rfl rfl) (o1 j rfl rfl) (o1 n rfl rfl) (by simp) (by simp; omega) (by simp; omega) (by simp; omega)) rfl ?_
  refine A0 (D4 0 1 2) (A3 (A1 (mv_ (mv_ ?_))))
  refine A2 (D8 rfl rfl rfl) rfl ?_
  refine A0 (D6 0 1 2 16) ?_
  refine C0 rfl (fun hc => ?_) (fun hc => ?_)
  ·
    simp at hc; omega
  ·
    refine A6 (nx (D4 0 1 2) (A1 (mv_ ?_)))
    refine A2 (A1j (e := 55) rfl kR) rfl ?_
    refine as_ (A0 (D6 0 1 2 7) ?_)
    refine A1r ([]) [] [(0, 0), (1, 0), (2, 0), (3, 0), (4, 0), (5, 0), (6, 2), (7, 0)] kR kR (by simp) fun hs => ?_
    refine K7 hs rfl qm_ rfl ?_
    refine K7 hs rfl qm_ rfl ?_
    refine K7 hs rfl (B3P (h := i) (e := 55) (sz := 3) rfl rfl kR kR rfl (by omega)) rfl ?_
    refine K7 hs rfl qm_ rfl ?_
    refine K7 hs rfl qm_ rfl ?_
    refine K7 hs rfl (B3Q (h := j) (e := 55) (sz := 3) rfl rfl kR kR rfl (by omega) (by omega)) rfl ?_
    refine A1s rfl rfl rfl (A85 (e := 55) (sz := 3) (by_ := 56) (m := n - j) (cs := cs) rfl rfl kR ((Rd.lo ⟨_, cap, rfl, hl, hn, .inr ⟨b, o, cs, e, (0, 0), rfl, m0, hx⟩⟩ j hjn)) (fun c hc => h1 c (List.mem_of_mem_drop hc)) (by omega) hfit rfl UpC.upd rfl ?_)
    refine K7 hs rfl (G9 rfl) rfl ?_
    refine A2X (D3 0 7) ?_
    refine A1 (mv_ (mv_ ?_))
    refine A2 (A1j (e := 55) rfl kR) rfl ?_
    refine mv_ ?_
    refine A2 (B4T (lo := i + (n - j)) (hi := n) (e := 55) (sz := 3) rfl rfl rfl kR kR rfl rfl (by omega) (by omega) (by omega)) rfl ?_
    refine A4 rfl (B4S (e := 55) (sz := 3) (by_ := 56) (zs := (Builtin.zeroCells #[.slice none 0 0, .int .u32 0, .slice none 0 0] (n - (i + (n - j)))).toList) rfl kR kR (A4E (by simp [Value.oneCell']) (by simp) _) ?h1 rfl UpC.upd ?_)
    case h1 => simp [hl]; omega
    refine A0 (D7 0) (A1 (mv_ (as_ (A0 (D7 6) (B4 ?_)))))
    refine ⟨_, _, [], I7 rfl rfl, List.Sublist.refl _, by simp, rfl, ?_⟩
    show Sl 3 _ (n - (j - i)) _ _
    rw [show n - (j - i) = i + (n - j) from by omega]
    have hd : (xs.drop (j * 3)).length = (n - j) * 3 := by simp [hl]; omega
    refine .inr ⟨b, o, cap, _, e, rfl, rfl, by omega, hcap, ?_, ?_, ?_⟩
    · simp [hl, Builtin.zeroCells]; omega
    · simp [hl]; omega
    · intro q u hq
      have hlt : q < (i + (n - j)) * 3 := by have := (List.getElem?_eq_some_iff.1 hq).1; simp [hl] at this; omega
      rw [A5y (by simp [hl]; omega) (by omega)]
      by_cases hqi : q < i * 3
      · rw [A5y (by omega) (by omega)]
        rw [List.getElem?_append_left (by simp [hl]; omega), List.getElem?_take_of_lt hqi] at hq
        exact hx q u hq
      · rw [A79 (by omega) (by omega) (by omega)]
        rw [List.getElem?_append_right (by simp [hl]; omega)] at hq
        rw [← hq]
        congr 1
        simp [hl]; omega
theorem A8J (v : Value) (n : Nat) (xs : List Value) (A : Mem) (h : Rd A 3 v n xs) (h1 : ∀ c ∈ xs, c.oneCell' = true) (hn : n ≤ 1099511627776) : FnX Tryz.prog 60 [v] [] A fun r M J => Sl 3 r n xs M := by
 haveI := h.cel
 refine FnX.enterZ (N := 8) Tryz.func60 rfl rfl rfl fun w_ => ?_
 refine B0 (D7 0) (A1 (as_ (A0 (D7 0) (A3 (A1 (mv_ ?_))))))
 refine A2 (A1X (e := 55) rfl kR (by first | assumption | exact Sl.rd (by assumption) (fun _ h => h) | exact By.rd (by assumption))) rfl ?_
 refine A0 (D3 0 4) ?_
 refine C0 rfl (fun hc => ?_) (fun hc => ?_)
 ·
  have h0 := h.isNil hc
  subst h0
  obtain rfl : xs = [] := List.eq_nil_of_length_eq_zero (by have := h.len; omega)
  refine A1 (as_ (A0 (D7 2) (B4 (tr ?_))))
  exact ⟨_, [], [], I7 rfl rfl, Fit.sub (List.nil_sublist _), Sl.nil⟩
 ·
  refine A6 (nx (D7 0) (A1 ?_))
  refine A4 rfl (C3 (e := 55) (sz := 3) (z := []) kR e0 bd0 rfl fun b5 => ?_)
  refine mv_ ?_
  refine A4 rfl (H5 (e := 55) (sz := 3) (by_ := 56) rfl rfl kR rfl (Sl.fresh (n := 0) (cs := []) (e := 55) rfl (by decide)) (Rd.mono h SubC.sub) h1 PickC.perm (by unfold maxLen; omega) (by omega) rfl fun v7 B7 hs7 => ?_)
  refine as_ (A0 (D7 2) (B4 ?_))
  exact ⟨_, B7, [], I7 rfl rfl, Fit.none (Fit.last PickC.perm), by simpa using hs7⟩

end Go.Proofs.YtlilcmjbaknafaaGreatDoor
