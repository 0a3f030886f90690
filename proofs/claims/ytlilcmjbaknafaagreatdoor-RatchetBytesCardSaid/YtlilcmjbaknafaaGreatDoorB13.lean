/- Part 13 of the texts of this claim, one behind the other. -/
import Derived.Test.YtlilcmjbaknafaaGreatDoorB12
import Derived.SizedLaws
set_option linter.unusedVariables false
set_option linter.unusedSimpArgs false
set_option maxRecDepth 100000
namespace Go.Proofs.YtlilcmjbaknafaaGreatDoor
open Go.Px
def K0 (w : LN) : LN := (fun e : LN => (e.set 0 (e.getD 0 0 &&& 248)).set 31 ((e.set 0 (e.getD 0 0 &&& 248)).getD 31 0 % 128 ||| 64)) (G7 w 32)
theorem B1h (w : LN) : G7 w 32 = w.take 32 ++ (List.replicate 32 0).drop w.length := by unfold G7; rw [List.drop_replicate]
theorem A2s (w : LN) : (K0 w).length = 32 := by simp [K0, K6]
structure Lad where
  a : Nat
  b : Nat
  c : Nat
  d : Nat
def B1i (u : Nat) (s : Lad) : Lad :=
  let p := fA s.a s.b
  let q := fS s.a s.b
  let ss := fM p p
  let tt := fM q q
  let e := fS ss tt
  let da := fM (fS s.c s.d) p
  let cb := fM (fA s.c s.d) q
  ⟨fM ss tt, fM e (fA ss (fM 121665 e)), fM (fA da cb) (fA da cb), fM u (fM (fS da cb) (fS da cb))⟩
def swL (b : Bool) (s : Lad) : Lad := if b then ⟨s.c, s.d, s.a, s.b⟩ else s
def A2e (u n : Nat) : Nat → Lad
  | 0 => ⟨1, 0, u, 1⟩
  | k + 1 => (fun bt => swL bt (B1i u (swL bt (A2e u n k)))) (decide (n / 2 ^ (254 - k) % 2 = 1))
theorem B1j {u n i : Nat} (h : i < 255) : A2e u n (255 - i) = swL (decide (n / 2 ^ i % 2 = 1)) (B1i u (swL (decide (n / 2 ^ i % 2 = 1)) (A2e u n (255 - (i + 1))))) := by
  obtain ⟨k, hk⟩ : ∃ k, 255 - i = k + 1 := ⟨254 - i, by omega⟩
  have e1 : 255 - (i + 1) = k := by omega
  have e2 : i = 254 - k := by omega
  rw [hk, e1, e2]; rfl
noncomputable def x25 (s p : LN) : LN := A1l 8 32 (fM (A2e (rdN p) (bv (K0 s)) 255).a (fI (A2e (rdN p) (bv (K0 s)) 255).b)) 255
def B3Z : LN := 9 :: List.replicate 31 0
noncomputable def A0C (s : LN) : LN := x25 s B3Z
theorem A2t (s p : LN) : (x25 s p).length = 32 := by simp [x25, Q3]
theorem B1k (s p : LN) : ∀ x ∈ x25 s p, x < 256 := B0V _ _
theorem B5k {x : Nat} (h : x < 256) : (x &&& 248) < 256 := Nat.lt_of_le_of_lt Nat.and_le_left h
theorem or64 {x : Nat} (h : x < 128) : (x ||| 64) < 256 := Nat.lt_of_lt_of_le (Nat.or_lt_two_pow (n := 7) h qD) qD
theorem A6J {w : LN} (h : ∀ x ∈ w, x < 256) : ∀ x ∈ K0 w, x < 256 := by
  intro x hx
  have hf := A1j h 32
  unfold K0 at hx
  rcases List.mem_or_eq_of_mem_set hx with h1 | rfl
  · rcases List.mem_or_eq_of_mem_set h1 with h1 | rfl
    · exact hf x h1
    · exact B5k (Go.Px.getD_lt hf qD)
  · exact or64 (Nat.mod_lt _ qD)
theorem B63 (v : Value) (wc : LN) (A : Mem) (hv : By A v wc) : FnV Tryz.prog 85 [v] A (.agg (nums .u8 (K0 wc)).toArray) := by
 haveI := hv.cel
 have hvl := hv.len
 refine FnX.enter (N := 17) Tryz.func85 rfl rfl rfl fun w => ?_
 refine B4 (D5 0) (A1 ?_)
 refine A4 rfl (C3 (cs := [zu8, zu8, zu8, zu8, zu8, zu8, zu8, zu8, zu8, zu8, zu8, zu8, zu8, zu8, zu8, zu8, zu8, zu8, zu8, zu8, zu8, zu8, zu8, zu8, zu8, zu8, zu8, zu8, zu8, zu8, zu8, zu8]) kR rfl fun b2 => ?_)
 refine A0 (D3 0 2) (A1 ?_)
 refine A4 rfl (C3 (cs := [zu8, zu8, zu8, zu8, zu8, zu8, zu8, zu8, zu8, zu8, zu8, zu8, zu8, zu8, zu8, zu8, zu8, zu8, zu8, zu8, zu8, zu8, zu8, zu8, zu8, zu8, zu8, zu8, zu8, zu8, zu8, zu8]) kR rfl fun b3 => ?_)
 refine A0 (D8 0 2 3) ?_
 refine A1S (M' := [(b3, blk (nums .u8 (List.replicate 32 0)) 150), (b2, blk [.int .u8 0, .int .u8 0, .int .u8 0, .int .u8 0, .int .u8 0, .int .u8 0, .int .u8 0, .int .u8 0, .int .u8 0, .int .u8 0, .int .u8 0, .int .u8 0, .int .u8 0, .int .u8 0, .int .u8 0, .int .u8 0, .int .u8 0, .int .u8 0, .int .u8 0, .int .u8 0, .int .u8 0, .int .u8 0, .int .u8 0, .int .u8 0, .int .u8 0, .int .u8 0, .int .u8 0, .int .u8 0, .int .u8 0, .int .u8 0, .int .u8 0, .int .u8 0] 150)]) (Fit.eq rfl) qI ?_
 refine A1 ?_
 refine A2 (B6i (sz := 1) (e := 5) (n := 32) rfl kR kR) rfl ?_
 refine mv_ ?_
 refine A4 rfl (A3F (e := 5) (us := wc) (ws := List.replicate 32 0) (ws' := G7 wc 32) (by_ := 1) rfl rfl kR (hv.rd.mono qS) qM (B1h wc) UpC.upd rfl ?_)
 have hfl := K6 wc 32
 have hflt := A1j hv.lt 32
 have hcl : K0 wc = ((G7 wc 32).set 0 ((G7 wc 32).getD 0 0 &&& 248)).set 31 (((G7 wc 32).set 0 ((G7 wc 32).getD 0 0 &&& 248)).getD 31 0 % 128 ||| 64) := rfl
 generalize G7 wc 32 = e at *
 have he0 : e.getD 0 0 < 256 := Go.Px.getD_lt hflt qD
 have he1 : (e.set 0 (e.getD 0 0 &&& 248)).getD 31 0 < 256 := Go.Px.getD_lt (fun x hx => by rcases List.mem_or_eq_of_mem_set hx with h | rfl; exact hflt x h; exact B5k he0) qD
 refine A0 (D3 2 3) (A1 ?_)
 refine A2 (F9 (e := 5) (n := 32) (sz := 1) (i := 0) rfl rfl kR kR rfl qO) rfl ?_
 refine A2 (I3 0 rfl kR At.mem rfl qO) rfl ?_
 refine A2 (A4q (b := 248) rfl rfl rfl (by show _ < 256; exact he0) qD) rfl ?_
 refine A2 (F9 (e := 5) (n := 32) (sz := 1) (i := 0) rfl rfl kR kR rfl qO) rfl ?_
 refine A4 rfl (I8 0 rfl rfl kR rfl qO UpC.upd ?_)
 refine A0 (D3 2 3) (A1 ?_)
 refine A2 (F9 (e := 5) (n := 32) (sz := 1) (i := 31) rfl rfl kR kR rfl qO) rfl ?_
 refine A2 (I3 31 rfl kR At.mem rfl (by rw [List.length_set]; omega)) rfl ?_
 refine A2 (N8 7 128 rfl rfl rfl rfl rfl (by show _ < 256; exact he1) qD) rfl ?_
 refine A2 (B2S (b := 64) rfl rfl rfl (by show _ < 256; exact Nat.lt_trans (Nat.mod_lt _ qD) qD) qD) rfl ?_
 refine A2 (F9 (e := 5) (n := 32) (sz := 1) (i := 31) rfl rfl kR kR rfl qO) rfl ?_
 refine A4 rfl (I8 31 rfl rfl kR rfl (by rw [List.length_set]; omega) UpC.upd ?_)
 rw [← hcl]
 have hcn := A2s wc
 refine A0 (D3 2 3) (A1 ?_)
 refine A2 (L8 (n := 32) (cs := nums .u8 (K0 wc)) rfl kR At.mem (by rw [nums_len]; omega)) rfl ?_
 refine A4 rfl (A8 (vs := nums .u8 (K0 wc)) rfl rfl rfl (by rw [nums_len, hcn]; kernel_rfl) (by rw [nums_len, hcn]; rfl) F3 UpC.upd ?_)
 refine A0 (D5 2) (B0 ?_)
 exact ⟨_, [], [], A4l (n := 32) rfl rfl kR At.mem (by rw [nums_len, hcn]), List.nil_sublist _, by simp, rfl, rfl, rfl⟩
def LadR (r : Value) (s : Lad) : Prop := ∃ v0 v1 v2 v3, r = .tuple #[v0, v1, v2, v3] ∧ Fe v0 s.a ∧ Fe v1 s.b ∧ Fe v2 s.c ∧ Fe v3 s.d
theorem A5J {xs : LN} {n : Nat} (h : Fe (.agg (nums .u64 xs).toArray) n) : ∃ a b c d e, xs = [a, b, c, d, e] := by
  obtain ⟨a, b, c, d, e, h1, -⟩ := h
  refine ⟨a, b, c, d, e, ?_⟩
  have h2 := congrArg Array.toList (Value.agg.inj h1)
  exact B1b (k := .u64) (b := [a, b, c, d, e]) h2
theorem B5l (vu va vb vc vd : Value) (xu xa xb xc xd : Nat) (A : Mem) (hU : Fe vu xu) (hA : Fe va xa) (hB : Fe vb xb) (hC : Fe vc xc) (hD : Fe vd xd) : FnX Tryz.prog 88 [vu, va, vb, vc, vd] [] A fun r M J => M = [] ∧ J = [] ∧ LadR r (B1i xu ⟨xa, xb, xc, xd⟩) := by
 have hU0 := hU
 obtain ⟨pu0, pu1, pu2, pu3, pu4, rfl, -⟩ := hU
 have hA0 := hA
 obtain ⟨pa0, pa1, pa2, pa3, pa4, rfl, -⟩ := hA
 have hB0 := hB
 obtain ⟨pb0, pb1, pb2, pb3, pb4, rfl, -⟩ := hB
 have hC0 := hC
 obtain ⟨pc0, pc1, pc2, pc3, pc4, rfl, -⟩ := hC
 have hD0 := hD
 obtain ⟨pd0, pd1, pd2, pd3, pd4, rfl, -⟩ := hD
 refine FnX.enter (N := 68) Tryz.func88 rfl rfl rfl fun w => ?_
 refine B4 (E6 0 1 2 3 4) (A1 ?_)
 refine A4 rfl (bx_ fun b5 => ?_)
 refine A4 rfl (bx_ fun b6 => ?_)
 refine A4 rfl (bx_ fun b7 => ?_)
 refine A4 rfl (bx_ fun b8 => ?_)
 refine A4 rfl (bx_ fun b9 => ?_)
 refine A4 rfl (C3 (cs := [E8, E8, E8, E8, E8]) kR rfl fun b10 => ?_)
 refine A4 rfl (C3 (cs := [E8, E8, E8, E8, E8]) kR rfl fun b11 => ?_)
 refine A4 rfl (C3 (cs := [E8, E8, E8, E8, E8]) kR rfl fun b12 => ?_)
 refine A4 rfl (C3 (cs := [E8, E8, E8, E8, E8]) kR rfl fun b13 => ?_)
 refine A0 (A0j 5 6 7 8 9 10 11 12 13) ?_
 refine D2 (.range 8) [(0, 1), (1, 1), (3, 1), (4, 1), (2, 3), (5, 3), (6, 3), (7, 4), (8, 2), (9, 2)] kR kR fun hs => ?_
 refine H2 hs rfl (qw_ 5) rfl ?_
 refine H2 hs rfl (qw_ 5) rfl ?_
 refine H2 hs rfl (qw_ 5) rfl ?_
 refine H2 hs rfl (qw_ 5) rfl ?_
 refine A1g [⟨2, 25, fun v B _ => B = [] ∧ Fe v (fA xa xb)⟩, ⟨5, 28, fun v B _ => B = [] ∧ Fe v (fS xa xb)⟩, ⟨6, 14, fun v B _ => ∃ b, v = (vP b) ∧ B = [(b, blk [.int .u64 0, .int .u64 0, .int .u64 0, .int .u64 0, .int .u64 0] 153)]⟩, ⟨7, 15, fun v B _ => ∃ b, v = (vP b) ∧ B = [(b, blk [.int .u64 0, .int .u64 0, .int .u64 0, .int .u64 0, .int .u64 0] 153)]⟩]
  (A6 (fun _ _ _ _ _ h => h) (A6 (fun _ _ _ _ _ h => h) (A6 (fun _ _ _ _ _ h => h) (A6 (fun _ _ _ _ _ h => h) (I6))))) (show List.Nodup [25, 28, 14, 15] by decide) (show List.Nodup [2, 5, 6, 7] by decide) (A6 (C5 rfl) (A6 (C5 rfl) (A6 (C5 rfl) (A6 (C5 rfl) (I6)))))
  (A6 ⟨_, rfl, fun vs bs R w hb ha => ⟨.inl rfl, ?_⟩⟩ (A6 ⟨_, rfl, fun vs bs R w hb ha => ⟨.inl rfl, ?_⟩⟩ (A6 ⟨_, rfl, fun vs bs R w hb ha => ⟨.inl rfl, ?_⟩⟩ (A6 ⟨_, rfl, fun vs bs R w hb ha => ⟨.inl rfl, ?_⟩⟩ (I6))))) ?_
 ·
  refine I1 (aS rfl (aS rfl (a0))) kR (B3N hA0 hB0 _) rfl ?_
  rintro r M1 J1 ⟨rfl, rfl, hh⟩
  exact ⟨_, rfl, rfl, hh⟩
 ·
  refine I1 (aS rfl (aS rfl (a0))) kR (B3M hA0 hB0 _) rfl ?_
  rintro r M1 J1 ⟨rfl, rfl, hh⟩
  exact ⟨_, rfl, rfl, hh⟩
 ·
  exact C3 (cs := [E8, E8, E8, E8, E8]) kR rfl fun b => ⟨_, rfl, b, rfl, rfl⟩
 ·
  exact C3 (cs := [E8, E8, E8, E8, E8]) kR rfl fun b => ⟨_, rfl, b, rfl, rfl⟩
 intro vs bs Jn0 hφ
 have g2 := ofH hφ
 dsimp only at g2
 replace hφ := ofT hφ
 have g5 := ofH hφ
 dsimp only at g5
 replace hφ := ofT hφ
 have g6 := ofH hφ
 dsimp only at g6
 replace hφ := ofT hφ
 have g7 := ofH hφ
 dsimp only at g7
 clear hφ
 dsimp only [A0z, V4, List.map, List.flatten, List.cons_append, List.nil_append]
 generalize bs 2 = B25 at *
 generalize bs 5 = B28 at *
 generalize bs 6 = B14 at *
 generalize bs 7 = B15 at *
 generalize vs 2 = u25 at *
 generalize vs 5 = u28 at *
 generalize vs 6 = u14 at *
 generalize vs 7 = u15 at *
 obtain ⟨rfl, k2⟩ := g2
 have h2 := k2
 obtain ⟨a2, b2, c2, d2, e2, rfl, -⟩ := k2
 obtain ⟨rfl, k5⟩ := g5
 have h5 := k5
 obtain ⟨a5, b5, c5, d5, e5, rfl, -⟩ := k5
 obtain ⟨b6, rfl, rfl⟩ := g6
 obtain ⟨b7, rfl, rfl⟩ := g7
 dsimp only [List.append_eq, List.nil_append, List.cons_append]
 have hp := h2
 have hq := h5
 clear h2 h5
 refine G2 rfl rfl rfl (A8 rfl rfl Cel.cel kR ln5 al5 UpC.upd ?_)
 refine G2 rfl rfl rfl (A8 rfl rfl Cel.cel kR ln5 al5 UpC.upd ?_)
 refine E9 (A0j 5 8 9 10 11 12 13 14 15) ?_
 refine D2 [0, 1, 2, 3, 4, 5] [(0, 1), (2, 1), (1, 3), (3, 3), (4, 3), (5, 4), (6, 2), (7, 2)] kR kR fun hs => ?_
 refine H2 hs rfl (qw_ 5) rfl ?_
 refine H2 hs rfl (qw_ 5) rfl ?_
 refine A1g [⟨1, 30, fun v B _ => B = [] ∧ Fe v (fM (fA xa xb) (fA xa xb))⟩, ⟨3, 32, fun v B _ => B = [] ∧ Fe v (fM (fS xa xb) (fS xa xb))⟩, ⟨4, 16, fun v B _ => ∃ b, v = (vP b) ∧ B = [(b, blk [.int .u64 0, .int .u64 0, .int .u64 0, .int .u64 0, .int .u64 0] 153)]⟩, ⟨5, 17, fun v B _ => ∃ b, v = (vP b) ∧ B = [(b, blk [.int .u64 0, .int .u64 0, .int .u64 0, .int .u64 0, .int .u64 0] 153)]⟩]
  (A6 (fun _ _ _ _ _ h => h) (A6 (fun _ _ _ _ _ h => h) (A6 (fun _ _ _ _ _ h => h) (A6 (fun _ _ _ _ _ h => h) (I6))))) (show List.Nodup [30, 32, 16, 17] by decide) (show List.Nodup [1, 3, 4, 5] by decide) (A6 (C5 rfl) (A6 (C5 rfl) (A6 (C5 rfl) (A6 (C5 rfl) (I6)))))
  (A6 ⟨_, rfl, fun vs bs R w hb ha => ⟨.inl rfl, ?_⟩⟩ (A6 ⟨_, rfl, fun vs bs R w hb ha => ⟨.inl rfl, ?_⟩⟩ (A6 ⟨_, rfl, fun vs bs R w hb ha => ⟨.inl rfl, ?_⟩⟩ (A6 ⟨_, rfl, fun vs bs R w hb ha => ⟨.inl rfl, ?_⟩⟩ (I6))))) ?_
 ·
  refine I1 (aS rfl (a0)) kR (B9T hp _) rfl ?_
  rintro r M1 J1 ⟨rfl, rfl, hh⟩
  exact ⟨_, rfl, rfl, hh⟩
 ·
  refine I1 (aS rfl (a0)) kR (B9T hq _) rfl ?_
  rintro r M1 J1 ⟨rfl, rfl, hh⟩
  exact ⟨_, rfl, rfl, hh⟩
 ·
  exact C3 (cs := [E8, E8, E8, E8, E8]) kR rfl fun b => ⟨_, rfl, b, rfl, rfl⟩
 ·
  exact C3 (cs := [E8, E8, E8, E8, E8]) kR rfl fun b => ⟨_, rfl, b, rfl, rfl⟩
 intro vs bs Jn0 hφ
 have g1 := ofH hφ
 dsimp only at g1
 replace hφ := ofT hφ
 have g3 := ofH hφ
 dsimp only at g3
 replace hφ := ofT hφ
 have g4 := ofH hφ
 dsimp only at g4
 replace hφ := ofT hφ
 have g5 := ofH hφ
 dsimp only at g5
 clear hφ
 dsimp only [A0z, V4, List.map, List.flatten, List.cons_append, List.nil_append]
 generalize bs 1 = B30 at *
 generalize bs 3 = B32 at *
 generalize bs 4 = B16 at *
 generalize bs 5 = B17 at *
 generalize vs 1 = u30 at *
 generalize vs 3 = u32 at *
 generalize vs 4 = u16 at *
 generalize vs 5 = u17 at *
 obtain ⟨rfl, k1⟩ := g1
 have h1 := k1
 obtain ⟨a1, b1, c1, d1, e1, rfl, -⟩ := k1
 obtain ⟨rfl, k3⟩ := g3
 have h3 := k3
 obtain ⟨a3, b3, c3, d3, e3, rfl, -⟩ := k3
 obtain ⟨b4, rfl, rfl⟩ := g4
 obtain ⟨b5, rfl, rfl⟩ := g5
 dsimp only [List.append_eq, List.nil_append, List.cons_append]
 have hss := h1
 have htt := h3
 clear h1 h3
 refine G2 rfl rfl rfl (A8 rfl rfl Cel.cel kR ln5 al5 UpC.upd ?_)
 refine G2 rfl rfl rfl (A8 rfl rfl Cel.cel kR ln5 al5 UpC.upd ?_)
 refine E9 (kq 5 (kq 8 (A0j 9 10 11 12 13 14 15 16 17))) ?_
 refine A1 ?_
 refine A2 (qw_ 5) rfl ?_
 refine A2 (qw_ 5) rfl ?_
 refine C7 (aS rfl (aS rfl a0)) kR (B3M hss htt _) rfl ?_
 rintro r35 M35 J35 ⟨rfl, rfl, k35⟩
 have h35 := k35
 obtain ⟨a35, b35, c35, d35, e35, rfl, -⟩ := k35
 refine A4 rfl (C3 (cs := [E8, E8, E8, E8, E8]) kR rfl fun b18 => ?_)
 refine A4 rfl (A8 rfl rfl Cel.cel kR ln5 al5 UpC.upd ?_)
 refine A0 (kq 5 (kq 8 (kq 9 (A0j 10 11 12 13 14 15 16 17 18)))) ?_
 refine D2 [0, 1, 2, 3, 4, 5] [(0, 1), (1, 1), (3, 1), (2, 3), (4, 3), (5, 4), (6, 2)] kR kR fun hs => ?_
 refine H2 hs rfl (qw_ 5) rfl ?_
 refine H2 hs rfl (qw_ 5) rfl ?_
 refine H2 hs rfl (qw_ 5) rfl ?_
 refine A1g [⟨2, 38, fun v B _ => B = [] ∧ Fe v (fS xc xd)⟩, ⟨4, 40, fun v B _ => B = [] ∧ Fe v (fM (fS xc xd) (fA xa xb))⟩, ⟨5, 19, fun v B _ => ∃ b, v = (vP b) ∧ B = [(b, blk [.int .u64 0, .int .u64 0, .int .u64 0, .int .u64 0, .int .u64 0] 153)]⟩]
  (A6 (fun _ _ _ _ _ h => h) (A6 (fun _ _ _ _ _ h => h) (A6 (fun _ _ _ _ _ h => h) (I6)))) (show List.Nodup [38, 40, 19] by decide) (show List.Nodup [2, 4, 5] by decide) (A6 (C5 rfl) (A6 (C5 rfl) (A6 (C5 rfl) (I6))))
  (A6 ⟨_, rfl, fun vs bs R w hb ha => ⟨.inl rfl, ?_⟩⟩ (A6 ⟨_, rfl, fun vs bs R w hb ha => ⟨.inl rfl, ?_⟩⟩ (A6 ⟨_, rfl, fun vs bs R w hb ha => ⟨.inl rfl, ?_⟩⟩ (I6)))) ?_
 ·
  refine I1 (aS rfl (aS rfl (a0))) kR (B3M hC0 hD0 _) rfl ?_
  rintro r M1 J1 ⟨rfl, rfl, hh⟩
  exact ⟨_, rfl, rfl, hh⟩
 ·
  have g2 := ha _ (List.mem_of_getElem? (i := 0) rfl) kR
  replace g2 : (fun v B _ => B = [] ∧ Fe v (fS xc xd)) (vs 2) (bs 2) R := g2
  dsimp only at g2
  obtain ⟨-, k2⟩ := g2
  refine I1 (aS rfl (aS rfl (a0))) kR (A7m k2 hp _) rfl ?_
  rintro r M1 J1 ⟨rfl, rfl, hh⟩
  exact ⟨_, rfl, rfl, hh⟩
 ·
  exact C3 (cs := [E8, E8, E8, E8, E8]) kR rfl fun b => ⟨_, rfl, b, rfl, rfl⟩
 intro vs bs Jn0 hφ
 have g2 := ofH hφ
 dsimp only at g2
 replace hφ := ofT hφ
 have g4 := ofH hφ
 dsimp only at g4
 replace hφ := ofT hφ
 have g5 := ofH hφ
 dsimp only at g5
 clear hφ
 dsimp only [A0z, V4, List.map, List.flatten, List.cons_append, List.nil_append]
 generalize bs 2 = B38 at *
 generalize bs 4 = B40 at *
 generalize bs 5 = B19 at *
 generalize vs 2 = u38 at *
 generalize vs 4 = u40 at *
 generalize vs 5 = u19 at *
 obtain ⟨rfl, k2⟩ := g2
 have h2 := k2
 obtain ⟨a2, b2, c2, d2, e2, rfl, -⟩ := k2
 obtain ⟨rfl, k4⟩ := g4
 have h4 := k4
 obtain ⟨a4, b4, c4, d4, e4, rfl, -⟩ := k4
 obtain ⟨b5, rfl, rfl⟩ := g5
 dsimp only [List.append_eq, List.nil_append, List.cons_append]
 have hda := h4
 clear h2 h4
 refine G2 rfl rfl rfl (A8 rfl rfl Cel.cel kR ln5 al5 UpC.upd ?_)
 refine E9 (kq 5 (kq 8 (kq 9 (A0j 10 11 12 13 15 16 17 18 19)))) ?_
 refine D2 [0, 1, 2, 3, 4, 5] [(0, 1), (1, 1), (3, 1), (2, 3), (4, 3), (5, 4), (6, 2)] kR kR fun hs => ?_
 refine H2 hs rfl (qw_ 5) rfl ?_
 refine H2 hs rfl (qw_ 5) rfl ?_
 refine H2 hs rfl (qw_ 5) rfl ?_
 refine A1g [⟨2, 43, fun v B _ => B = [] ∧ Fe v (fA xc xd)⟩, ⟨4, 45, fun v B _ => B = [] ∧ Fe v (fM (fA xc xd) (fS xa xb))⟩, ⟨5, 20, fun v B _ => ∃ b, v = (vP b) ∧ B = [(b, blk [.int .u64 0, .int .u64 0, .int .u64 0, .int .u64 0, .int .u64 0] 153)]⟩]
  (A6 (fun _ _ _ _ _ h => h) (A6 (fun _ _ _ _ _ h => h) (A6 (fun _ _ _ _ _ h => h) (I6)))) (show List.Nodup [43, 45, 20] by decide) (show List.Nodup [2, 4, 5] by decide) (A6 (C5 rfl) (A6 (C5 rfl) (A6 (C5 rfl) (I6))))
  (A6 ⟨_, rfl, fun vs bs R w hb ha => ⟨.inl rfl, ?_⟩⟩ (A6 ⟨_, rfl, fun vs bs R w hb ha => ⟨.inl rfl, ?_⟩⟩ (A6 ⟨_, rfl, fun vs bs R w hb ha => ⟨.inl rfl, ?_⟩⟩ (I6)))) ?_
 ·
  refine I1 (aS rfl (aS rfl (a0))) kR (B3N hC0 hD0 _) rfl ?_
  rintro r M1 J1 ⟨rfl, rfl, hh⟩
  exact ⟨_, rfl, rfl, hh⟩
 ·
  have g2 := ha _ (List.mem_of_getElem? (i := 0) rfl) kR
  replace g2 : (fun v B _ => B = [] ∧ Fe v (fA xc xd)) (vs 2) (bs 2) R := g2
  dsimp only at g2
  obtain ⟨-, k2⟩ := g2
  refine I1 (aS rfl (aS rfl (a0))) kR (A7m k2 hq _) rfl ?_
  rintro r M1 J1 ⟨rfl, rfl, hh⟩
  exact ⟨_, rfl, rfl, hh⟩
 ·
  exact C3 (cs := [E8, E8, E8, E8, E8]) kR rfl fun b => ⟨_, rfl, b, rfl, rfl⟩
 intro vs bs Jn0 hφ
 have g2 := ofH hφ
 dsimp only at g2
 replace hφ := ofT hφ
 have g4 := ofH hφ
 dsimp only at g4
 replace hφ := ofT hφ
 have g5 := ofH hφ
 dsimp only at g5
 clear hφ
 dsimp only [A0z, V4, List.map, List.flatten, List.cons_append, List.nil_append]
 generalize bs 2 = B43 at *
 generalize bs 4 = B45 at *
 generalize bs 5 = B20 at *
 generalize vs 2 = u43 at *
 generalize vs 4 = u45 at *
 generalize vs 5 = u20 at *
 obtain ⟨rfl, k2⟩ := g2
 have h2 := k2
 obtain ⟨a2, b2, c2, d2, e2, rfl, -⟩ := k2
 obtain ⟨rfl, k4⟩ := g4
 have h4 := k4
 obtain ⟨a4, b4, c4, d4, e4, rfl, -⟩ := k4
 obtain ⟨b5, rfl, rfl⟩ := g5
 dsimp only [List.append_eq, List.nil_append, List.cons_append]
 have hcb := h4
 clear h2 h4
 refine G2 rfl rfl rfl (A8 rfl rfl Cel.cel kR ln5 al5 UpC.upd ?_)
 refine E9 (kq 5 (A0j 10 11 12 13 16 17 18 19 20)) (A1 ?_)
 refine A2 (qw_ 5) rfl ?_
 refine A2 (qw_ 5) rfl ?_
 refine C7 (aS rfl (aS rfl a0)) kR (B3N hda hcb _) rfl ?_
 rintro r48 M48 J48 ⟨rfl, rfl, k48⟩
 have h48 := k48
 obtain ⟨a48, b48, c48, d48, e48, rfl, -⟩ := k48
 refine C7 (aS rfl a0) kR (B9T h48 _) rfl ?_
 rintro r49 M49 J49 ⟨rfl, rfl, k49⟩
 have h49 := k49
 obtain ⟨a49, b49, c49, d49, e49, rfl, -⟩ := k49
 refine A4 rfl (C3 (cs := [E8, E8, E8, E8, E8]) kR rfl fun b21 => ?_)
 refine A4 rfl (A8 rfl rfl Cel.cel kR ln5 al5 UpC.upd ?_)
 refine A0 (kq 5 (kq 10 (A0j 11 12 13 16 17 18 19 20 21))) ?_
 refine D2 (.range 7) (zp 0 [1, 1, 1, 3, 3, 3, 4, 2]) kR kR fun hs => ?_
 refine H2 hs rfl (qw_ 5) rfl ?_
 refine H2 hs rfl (qw_ 5) rfl ?_
 refine H2 hs rfl (qw_ 5) rfl ?_
 refine A1g [⟨3, 53, fun v B _ => B = [] ∧ Fe v (fS (fM (fS xc xd) (fA xa xb)) (fM (fA xc xd) (fS xa xb)))⟩, ⟨4, 54, fun v B _ => B = [] ∧ Fe v (fM (fS (fM (fS xc xd) (fA xa xb)) (fM (fA xc xd) (fS xa xb))) (fS (fM (fS xc xd) (fA xa xb)) (fM (fA xc xd) (fS xa xb))))⟩, ⟨5, 55, fun v B _ => B = [] ∧ Fe v (fM xu (fM (fS (fM (fS xc xd) (fA xa xb)) (fM (fA xc xd) (fS xa xb))) (fS (fM (fS xc xd) (fA xa xb)) (fM (fA xc xd) (fS xa xb)))))⟩, ⟨6, 22, fun v B _ => ∃ b, v = (vP b) ∧ B = [(b, blk [.int .u64 0, .int .u64 0, .int .u64 0, .int .u64 0, .int .u64 0] 153)]⟩]
  (A6 (fun _ _ _ _ _ h => h) (A6 (fun _ _ _ _ _ h => h) (A6 (fun _ _ _ _ _ h => h) (A6 (fun _ _ _ _ _ h => h) (I6))))) (show List.Nodup [53, 54, 55, 22] by decide) (show List.Nodup [3, 4, 5, 6] by decide) (A6 (C5 rfl) (A6 (C5 rfl) (A6 (C5 rfl) (A6 (C5 rfl) (I6)))))
  (A6 ⟨_, rfl, fun vs bs R w hb ha => ⟨.inl rfl, ?_⟩⟩ (A6 ⟨_, rfl, fun vs bs R w hb ha => ⟨.inl rfl, ?_⟩⟩ (A6 ⟨_, rfl, fun vs bs R w hb ha => ⟨.inl rfl, ?_⟩⟩ (A6 ⟨_, rfl, fun vs bs R w hb ha => ⟨.inl rfl, ?_⟩⟩ (I6))))) ?_
 ·
  refine I1 (aS rfl (aS rfl (a0))) kR (B3M hda hcb _) rfl ?_
  rintro r M1 J1 ⟨rfl, rfl, hh⟩
  exact ⟨_, rfl, rfl, hh⟩
 ·
  have g3 := ha _ (List.mem_of_getElem? (i := 0) rfl) kR
  replace g3 : (fun v B _ => B = [] ∧ Fe v (fS (fM (fS xc xd) (fA xa xb)) (fM (fA xc xd) (fS xa xb)))) (vs 3) (bs 3) R := g3
  dsimp only at g3
  obtain ⟨-, k3⟩ := g3
  refine I1 (aS rfl (a0)) kR (B9T k3 _) rfl ?_
  rintro r M1 J1 ⟨rfl, rfl, hh⟩
  exact ⟨_, rfl, rfl, hh⟩
 ·
  have g4 := ha _ (List.mem_of_getElem? (i := 1) rfl) kR
  replace g4 : (fun v B _ => B = [] ∧ Fe v (fM (fS (fM (fS xc xd) (fA xa xb)) (fM (fA xc xd) (fS xa xb))) (fS (fM (fS xc xd) (fA xa xb)) (fM (fA xc xd) (fS xa xb))))) (vs 4) (bs 4) R := g4
  dsimp only at g4
  obtain ⟨-, k4⟩ := g4
  refine I1 (aS rfl (aS rfl (a0))) kR (A7m hU0 k4 _) rfl ?_
  rintro r M1 J1 ⟨rfl, rfl, hh⟩
  exact ⟨_, rfl, rfl, hh⟩
 ·
  exact C3 (cs := [E8, E8, E8, E8, E8]) kR rfl fun b => ⟨_, rfl, b, rfl, rfl⟩
 intro vs bs Jn0 hφ
 have g3 := ofH hφ
 dsimp only at g3
 replace hφ := ofT hφ
 have g4 := ofH hφ
 dsimp only at g4
 replace hφ := ofT hφ
 have g5 := ofH hφ
 dsimp only at g5
 replace hφ := ofT hφ
 have g6 := ofH hφ
 dsimp only at g6
 clear hφ
 dsimp only [A0z, V4, List.map, List.flatten, List.cons_append, List.nil_append]
 generalize bs 3 = B53 at *
 generalize bs 4 = B54 at *
 generalize bs 5 = B55 at *
 generalize bs 6 = B22 at *
 generalize vs 3 = u53 at *
 generalize vs 4 = u54 at *
 generalize vs 5 = u55 at *
 generalize vs 6 = u22 at *
 obtain ⟨rfl, k3⟩ := g3
 have h3 := k3
 obtain ⟨a3, b3, c3, d3, e3, rfl, -⟩ := k3
 obtain ⟨rfl, k4⟩ := g4
 have h4 := k4
 obtain ⟨a4, b4, c4, d4, e4, rfl, -⟩ := k4
 obtain ⟨rfl, k5⟩ := g5
 have h5 := k5
 obtain ⟨a5, b5, c5, d5, e5, rfl, -⟩ := k5
 obtain ⟨b6, rfl, rfl⟩ := g6
 dsimp only [List.append_eq, List.nil_append, List.cons_append]
 have hzz := h5
 clear h3 h4 h5
 refine G2 rfl rfl rfl (A8 rfl rfl Cel.cel kR ln5 al5 UpC.upd ?_)
 refine E9 (A0j 10 11 12 13 16 17 18 21 22) ?_
 refine K8 ([(b10, blk [.int .u64 0, .int .u64 0, .int .u64 0, .int .u64 0, .int .u64 0] 153), (b11, blk [.int .u64 0, .int .u64 0, .int .u64 0, .int .u64 0, .int .u64 0] 153), (b12, blk [.int .u64 0, .int .u64 0, .int .u64 0, .int .u64 0, .int .u64 0] 153), (b13, blk [.int .u64 0, .int .u64 0, .int .u64 0, .int .u64 0, .int .u64 0] 153)]) (_) true (.range 15) [(0, 1), (1, 1), (3, 1), (4, 1), (6, 1), (10, 1), (11, 1), (2, 2), (5, 2), (7, 2), (8, 2), (9, 2), (12, 2), (13, 2), (14, 2), (15, 2)] kR kR qP fun hs K n0 hKm hKs hKn => ?_
 refine V2 hs rfl hKs (qw_ 5) ?_
 refine V2 hs rfl hKs (qw_ 5) ?_
 refine V2 hs rfl hKs (qw_ 5) ?_
 refine V2 hs rfl hKs (qw_ 5) ?_
 refine V2 hs rfl hKs (qw_ 5) ?_
 refine V2 hs rfl hKs (qw_ 5) ?_
 refine V2 hs rfl hKs (qw_ 5) ?_
 refine N2 [] _ rfl rfl (List.Perm.refl _) (fun _ h => by cases h) fun w0 => (I1 (aS rfl (aS rfl a0)) kR (A7m hss htt _) rfl ?_)
 rintro r58 M58 J58 ⟨rfl, rfl, k58⟩ _
 have h58 := k58
 obtain ⟨a58, b58, c58, d58, e58, rfl, -⟩ := k58
 dsimp only [List.nil_append, List.append_eq]
 refine N2 [] _ rfl rfl (List.Perm.refl _) (fun _ h => by cases h) fun w0 => (I1 (aS rfl a0) kR (B3O 121665 qD _) rfl ?_)
 rintro r61 M61 J61 ⟨rfl, rfl, k61⟩ _
 have h61 := k61
 obtain ⟨a61, b61, c61, d61, e61, rfl, -⟩ := k61
 dsimp only [List.nil_append, List.append_eq]
 refine N2 [] _ rfl rfl (List.Perm.refl _) (fun _ h => by cases h) fun w0 => (I1 (aS rfl (aS rfl a0)) kR (A7m h61 h35 _) rfl ?_)
 rintro r63 M63 J63 ⟨rfl, rfl, k63⟩ _
 have h63 := k63
 obtain ⟨a63, b63, c63, d63, e63, rfl, -⟩ := k63
 dsimp only [List.nil_append, List.append_eq]
 refine N2 [] _ rfl rfl (List.Perm.refl _) (fun _ h => by cases h) fun w0 => (I1 (aS rfl (aS rfl a0)) kR (B3N hss h63 _) rfl ?_)
 rintro r64 M64 J64 ⟨rfl, rfl, k64⟩ _
 have h64 := k64
 obtain ⟨a64, b64, c64, d64, e64, rfl, -⟩ := k64
 dsimp only [List.nil_append, List.append_eq]
 refine N2 [] _ rfl rfl (List.Perm.refl _) (fun _ h => by cases h) fun w0 => (I1 (aS rfl (aS rfl a0)) kR (A7m h35 h64 _) rfl ?_)
 rintro r65 M65 J65 ⟨rfl, rfl, k65⟩ _
 have h65 := k65
 obtain ⟨a65, b65, c65, d65, e65, rfl, -⟩ := k65
 dsimp only [List.nil_append, List.append_eq]
 refine N2 _ _ rfl rfl (List.Perm.refl _) hKm fun w0 => (A8 (vs := [.int .u64 (a58 : Int), .int .u64 (b58 : Int), .int .u64 (c58 : Int), .int .u64 (d58 : Int), .int .u64 (e58 : Int)]) rfl rfl rfl kR qR al5 UpC.upd ?_)
 intro hK12
 refine N2 _ _ rfl rfl (List.Perm.refl _) (hK12 (hKn rfl)) fun w0 => (A8 (vs := [.int .u64 (a65 : Int), .int .u64 (b65 : Int), .int .u64 (c65 : Int), .int .u64 (d65 : Int), .int .u64 (e65 : Int)]) rfl rfl rfl kR qR al5 UpC.upd ?_)
 intro hK13
 refine N2 _ _ rfl rfl (List.Perm.refl _) (hK13 (hKn rfl)) fun w0 => (A8 (vs := [.int .u64 (a49 : Int), .int .u64 (b49 : Int), .int .u64 (c49 : Int), .int .u64 (d49 : Int), .int .u64 (e49 : Int)]) rfl rfl rfl kR qR al5 UpC.upd ?_)
 intro hK14
 refine T6 rfl rfl rfl (A8 rfl rfl Cel.cel kR ln5 al5 UpC.upd ?_)
 refine P8 (D7 10 11 12 13) (B0 ?_)
 exact ⟨_, [], [], C0u (n := 5) rfl rfl rfl rfl rfl kR At.mem At.mem At.mem At.mem rfl rfl rfl rfl, List.nil_sublist _, by simp, rfl, rfl, _, _, _, _, rfl, h58, h65, h49, hzz⟩
theorem B5m (v vp : Value) (wu wp : LN) (A : Mem) (hv : By A v wu) (hp : By A vp wp) : FnX Tryz.prog 74 [v, vp] [] A fun r M J => M = [] ∧ By J r (x25 wu wp) := by
 haveI := hv.cel
 haveI := hp.cel
 have hvl := hv.len
 have hpl := hp.len
 refine FnX.enter (N := 60) Tryz.func74 rfl rfl rfl fun w => ?_
 refine B4 (D3 0 1) (A1 (as_ (A0 (D3 0 1) (A1 (mv_ ?_)))))
 refine F0 (aS rfl a0) kR (B63 _ wu _ (hv.mono qS)) rfl ?_
 have hcn := A2s wu
 have hc256 := A6J hv.lt
 refine A4 rfl (C3 (cs := [zu8, zu8, zu8, zu8, zu8, zu8, zu8, zu8, zu8, zu8, zu8, zu8, zu8, zu8, zu8, zu8, zu8, zu8, zu8, zu8, zu8, zu8, zu8, zu8, zu8, zu8, zu8, zu8, zu8, zu8, zu8, zu8]) kR rfl fun b5 => ?_)
 refine A4 rfl (A8 (vs := nums .u8 (K0 wu)) rfl rfl rfl (by rw [nums_len, hcn]; kernel_rfl) (by rw [nums_len, hcn]; rfl) F3 UpC.upd ?_)
 refine A0 (D3 1 5) (A1 (mv_ ?_))
 refine C7 (aS rfl a0) kR (A87 vp wp _ (hp.rd.mono qS) hp.lt qO) rfl ?_
 rintro r16 M16 J16 ⟨rfl, rfl, hU⟩
 have hUz := hU
 obtain ⟨ux0, ux1, ux2, ux3, ux4, rfl, -⟩ := hU
 refine A4 rfl (C3 (cs := [E8, E8, E8, E8, E8]) kR rfl fun b6 => ?_)
 refine A4 rfl (A8 (vs := [.int .u64 (ux0 : Int), .int .u64 (ux1 : Int), .int .u64 (ux2 : Int), .int .u64 (ux3 : Int), .int .u64 (ux4 : Int)]) rfl rfl rfl kR qR al5 UpC.upd ?_)
 refine A0 (D3 5 6) ?_
 refine K8 ([]) (_) true (.range 10) [(2, 1), (0, 3), (1, 3), (3, 3), (4, 3), (5, 3), (6, 3), (7, 4), (8, 2), (9, 2), (10, 2), (11, 2)] kR kR qP fun hs K n0 hKm hKs hKn => ?_
 refine V2 hs rfl hKs (qw_ 5) ?_
 refine A6c [⟨0, 17, fun v B _ => B = [] ∧ Fe v (1)⟩, ⟨1, 18, fun v B _ => B = [] ∧ Fe v (0)⟩, ⟨3, 20, fun v B _ => B = [] ∧ Fe v (1)⟩, ⟨4, 7, fun v B _ => ∃ b, v = (vP b) ∧ B = [(b, blk [.int .u64 0, .int .u64 0, .int .u64 0, .int .u64 0, .int .u64 0] 153)]⟩, ⟨5, 8, fun v B _ => ∃ b, v = (vP b) ∧ B = [(b, blk [.int .u64 0, .int .u64 0, .int .u64 0, .int .u64 0, .int .u64 0] 153)]⟩, ⟨6, 9, fun v B _ => ∃ b, v = (vP b) ∧ B = [(b, blk [.int .u64 0, .int .u64 0, .int .u64 0, .int .u64 0, .int .u64 0] 153)]⟩, ⟨7, 10, fun v B _ => ∃ b, v = (vP b) ∧ B = [(b, blk [.int .u64 0, .int .u64 0, .int .u64 0, .int .u64 0, .int .u64 0] 153)]⟩]
  (A6 (fun _ _ _ _ _ h => h) (A6 (fun _ _ _ _ _ h => h) (A6 (fun _ _ _ _ _ h => h) (A6 (fun _ _ _ _ _ h => h) (A6 (fun _ _ _ _ _ h => h) (A6 (fun _ _ _ _ _ h => h) (A6 (fun _ _ _ _ _ h => h) (I6)))))))) (show List.Nodup [17, 18, 20, 7, 8, 9, 10] by decide) (show List.Nodup [0, 1, 3, 4, 5, 6, 7] by decide) (A6 (C5 rfl) (A6 (C5 rfl) (A6 (C5 rfl) (A6 (C5 rfl) (A6 (C5 rfl) (A6 (C5 rfl) (A6 (C5 rfl) (I6))))))))
  (A6 ⟨_, rfl, fun vs bs R w hb ha => ⟨.inl rfl, ?_⟩⟩ (A6 ⟨_, rfl, fun vs bs R w hb ha => ⟨.inl rfl, ?_⟩⟩ (A6 ⟨_, rfl, fun vs bs R w hb ha => ⟨.inl rfl, ?_⟩⟩ (A6 ⟨_, rfl, fun vs bs R w hb ha => ⟨.inl rfl, ?_⟩⟩ (A6 ⟨_, rfl, fun vs bs R w hb ha => ⟨.inl rfl, ?_⟩⟩ (A6 ⟨_, rfl, fun vs bs R w hb ha => ⟨.inl rfl, ?_⟩⟩ (A6 ⟨_, rfl, fun vs bs R w hb ha => ⟨.inl rfl, ?_⟩⟩ (I6)))))))) ?_
 ·
  refine I1 (aS rfl a0) kR (B3O 1 qD _) rfl ?_
  rintro r M1 J1 ⟨rfl, rfl, hh⟩
  exact ⟨_, rfl, rfl, hh⟩
 ·
  refine I1 (aS rfl a0) kR (B3O 0 qD _) rfl ?_
  rintro r M1 J1 ⟨rfl, rfl, hh⟩
  exact ⟨_, rfl, rfl, hh⟩
 ·
  refine I1 (aS rfl a0) kR (B3O 1 qD _) rfl ?_
  rintro r M1 J1 ⟨rfl, rfl, hh⟩
  exact ⟨_, rfl, rfl, hh⟩
 ·
  exact C3 (cs := [E8, E8, E8, E8, E8]) kR rfl fun b => ⟨_, rfl, b, rfl, rfl⟩
 ·
  exact C3 (cs := [E8, E8, E8, E8, E8]) kR rfl fun b => ⟨_, rfl, b, rfl, rfl⟩
 ·
  exact C3 (cs := [E8, E8, E8, E8, E8]) kR rfl fun b => ⟨_, rfl, b, rfl, rfl⟩
 ·
  exact C3 (cs := [E8, E8, E8, E8, E8]) kR rfl fun b => ⟨_, rfl, b, rfl, rfl⟩
 intro vs bs Jn0 hφ hNN
 have n4 := hNN _ (List.mem_of_getElem? (i := 3) rfl)
 dsimp only at n4
 have n5 := hNN _ (List.mem_of_getElem? (i := 4) rfl)
 dsimp only at n5
 clear hNN
 have g0 := ofH hφ
 dsimp only at g0
 replace hφ := ofT hφ
 have g1 := ofH hφ
 dsimp only at g1
 replace hφ := ofT hφ
 have g3 := ofH hφ
 dsimp only at g3
 replace hφ := ofT hφ
 have g4 := ofH hφ
 dsimp only at g4
 replace hφ := ofT hφ
 have g5 := ofH hφ
 dsimp only at g5
 replace hφ := ofT hφ
 have g6 := ofH hφ
 dsimp only at g6
 replace hφ := ofT hφ
 have g7 := ofH hφ
 dsimp only at g7
 clear hφ
 dsimp only [A0z, V4, List.map, List.flatten, List.cons_append, List.nil_append]
 generalize bs 0 = B17 at *
 generalize bs 1 = B18 at *
 generalize bs 3 = B20 at *
 generalize bs 4 = B7 at *
 generalize bs 5 = B8 at *
 generalize bs 6 = B9 at *
 generalize bs 7 = B10 at *
 generalize vs 0 = u17 at *
 generalize vs 1 = u18 at *
 generalize vs 3 = u20 at *
 generalize vs 4 = u7 at *
 generalize vs 5 = u8 at *
 generalize vs 6 = u9 at *
 generalize vs 7 = u10 at *
 obtain ⟨rfl, k0⟩ := g0
 obtain ⟨rfl, k1⟩ := g1
 obtain ⟨rfl, k3⟩ := g3
 have k0z := k0
 obtain ⟨pw0, pw1, pw2, pw3, pw4, rfl, -⟩ := k0
 have k1z := k1
 obtain ⟨px0, px1, px2, px3, px4, rfl, -⟩ := k1
 have k3z := k3
 obtain ⟨pq0, pq1, pq2, pq3, pq4, rfl, -⟩ := k3
 obtain ⟨b7, rfl, rfl⟩ := g4
 obtain ⟨b8, rfl, rfl⟩ := g5
 obtain ⟨b9, rfl, rfl⟩ := g6
 obtain ⟨b10, rfl, rfl⟩ := g7
 dsimp only [List.append_eq, List.nil_append, List.cons_append]
 refine N2 [(b7, blk [.int .u64 0, .int .u64 0, .int .u64 0, .int .u64 0, .int .u64 0] 153)] _ rfl rfl qP (fun x hx => by rw [List.mem_singleton.1 hx]; exact hKn rfl _ (n4 _ qK)) fun w0 => (A8 (vs := [.int .u64 (pw0 : Int), .int .u64 (pw1 : Int), .int .u64 (pw2 : Int), .int .u64 (pw3 : Int), .int .u64 (pw4 : Int)]) rfl rfl rfl kR qR al5 UpC.upd ?_)
 intro hK8
 refine N2 [(b8, blk [.int .u64 0, .int .u64 0, .int .u64 0, .int .u64 0, .int .u64 0] 153)] _ rfl rfl qP (fun x hx => by rw [List.mem_singleton.1 hx]; exact hKn rfl _ (n5 _ qK)) fun w0 => (A8 (vs := [.int .u64 (px0 : Int), .int .u64 (px1 : Int), .int .u64 (px2 : Int), .int .u64 (px3 : Int), .int .u64 (px4 : Int)]) rfl rfl rfl kR qR al5 UpC.upd ?_)
 intro hK9
 refine T6 rfl rfl rfl (A8 (vs := [.int .u64 (ux0 : Int), .int .u64 (ux1 : Int), .int .u64 (ux2 : Int), .int .u64 (ux3 : Int), .int .u64 (ux4 : Int)]) rfl rfl rfl kR qR al5 UpC.upd ?_)
 refine T6 rfl rfl rfl (A8 (vs := [.int .u64 (pq0 : Int), .int .u64 (pq1 : Int), .int .u64 (pq2 : Int), .int .u64 (pq3 : Int), .int .u64 (pq4 : Int)]) rfl rfl rfl kR qR al5 UpC.upd ?_)
 refine P8 (H5 5 6 7 8 9 10) (A3 (A1 (as_ (A0 (S9 5 6 7 8 9 10 11) (A5 ?_)))))
 refine A1S (M' := [(b10, blk [.int .u64 (pq0 : Int), .int .u64 (pq1 : Int), .int .u64 (pq2 : Int), .int .u64 (pq3 : Int), .int .u64 (pq4 : Int)] 153), (b9, blk [.int .u64 (ux0 : Int), .int .u64 (ux1 : Int), .int .u64 (ux2 : Int), .int .u64 (ux3 : Int), .int .u64 (ux4 : Int)] 153), (b8, blk [.int .u64 (px0 : Int), .int .u64 (px1 : Int), .int .u64 (px2 : Int), .int .u64 (px3 : Int), .int .u64 (px4 : Int)] 153), (b7, blk [.int .u64 (pw0 : Int), .int .u64 (pw1 : Int), .int .u64 (pw2 : Int), .int .u64 (pw3 : Int), .int .u64 (pw4 : Int)] 153), (b6, blk [.int .u64 (ux0 : Int), .int .u64 (ux1 : Int), .int .u64 (ux2 : Int), .int .u64 (ux3 : Int), .int .u64 (ux4 : Int)] 153), (b5, blk (nums .u8 (K0 wu)) 150)]) (Fit.pick (B := [_]) qP (Fit.pick (B := [_]) qP (Fit.pick (B := [_]) qP (Fit.pick (B := [_]) qP (Fit.pick (B := [_]) qP (Fit.eq rfl)))))) qI ?_
 refine E1 (α := Nat × LN × LN × LN × LN) (fun y => [(5, (vP b5)), (6, (vP b6)), (7, (vP b7)), (8, (vP b8)), (9, (vP b9)), (10, (vP b10)), (11, .int .i64 ((y.1 : Int) - 1))]) (fun y => [(b10, blk (nums .u64 y.2.2.2.2) 153), (b9, blk (nums .u64 y.2.2.2.1) 153), (b8, blk (nums .u64 y.2.2.1) 153), (b7, blk (nums .u64 y.2.1) 153), (b6, blk (nums .u64 [ux0, ux1, ux2, ux3, ux4]) 153), (b5, blk (nums .u8 (K0 wu)) 150)]) (fun _ => []) (fun y => y.1 ≤ 255 ∧ Fe (.agg (nums .u64 y.2.1).toArray) (A2e (rdN wp) (bv (K0 wu)) (255 - y.1)).a ∧ Fe (.agg (nums .u64 y.2.2.1).toArray) (A2e (rdN wp) (bv (K0 wu)) (255 - y.1)).b ∧ Fe (.agg (nums .u64 y.2.2.2.1).toArray) (A2e (rdN wp) (bv (K0 wu)) (255 - y.1)).c ∧ Fe (.agg (nums .u64 y.2.2.2.2).toArray) (A2e (rdN wp) (bv (K0 wu)) (255 - y.1)).d) (fun y => y.1) (255, [pw0, pw1, pw2, pw3, pw4], [px0, px1, px2, px3, px4], [ux0, ux1, ux2, ux3, ux4], [pq0, pq1, pq2, pq3, pq4]) ⟨Nat.le_refl _, by dsimp only; rw [Nat.sub_self]; exact k0z, by dsimp only; rw [Nat.sub_self]; exact k1z, by dsimp only; rw [Nat.sub_self]; exact hUz, by dsimp only; rw [Nat.sub_self]; exact k3z⟩ (S9 5 6 7 8 9 10 11) (Fit.eq rfl) (fun _ h => by cases h) ?_
 clear k0z k1z k3z
 rintro ⟨j, la, lb, lc, ld⟩ ⟨hj, haz, hbz, hcz, hdz⟩
 dsimp only at hj haz hbz hcz hdz ⊢
 obtain ⟨za0, za1, za2, za3, za4, rfl⟩ := A5J haz
 obtain ⟨zb0, zb1, zb2, zb3, zb4, rfl⟩ := A5J hbz
 obtain ⟨zc0, zc1, zc2, zc3, zc4, rfl⟩ := A5J hcz
 obtain ⟨zd0, zd1, zd2, zd3, zd4, rfl⟩ := A5J hdz
 dsimp only [nums, List.map]
 refine A3 (A1 (mv_ ?_))
 refine A2 (D9 rfl rfl rfl) rfl ?_
 refine A0 (V3 5 6 7 8 9 10 11 22) ?_
 refine C0 rfl ?_ ?_ <;> intro hc
 ·
  have hj0 : 0 < j := by simp at hc; omega
  obtain ⟨i, rfl⟩ : ∃ i, j = i + 1 := ⟨j - 1, by omega⟩
  rw [show (((i + 1 : Nat) : Int) - 1) = (i : Int) by omega]
  have hts := B1j (u := rdN wp) (n := bv (K0 wu)) (show i < 255 by omega)
  have hbit := B0T hc256 i
  have hpb : (K0 wu).getD (i / 8) 0 < 256 := Go.Px.getD_lt hc256 qD
  have hz2 : bv (K0 wu) / 2 ^ i % 2 < 2 := Nat.mod_lt _ qD
  generalize A2e (rdN wp) (bv (K0 wu)) (255 - (i + 1)) = S at *
  generalize bv (K0 wu) / 2 ^ i % 2 = zb at *
  obtain ⟨bt, hbt⟩ : ∃ bt, decide (zb = 1) = bt := ⟨_, rfl⟩
  rw [hbt] at hts
  refine A7 (nx (S9 5 6 7 8 9 10 11) (A3 (A5 (A1 (mv_ ?_)))))
  refine A2 (A3w 8 rfl rfl rfl qD (A5a qO)) rfl ?_
  refine A2 (F9 (e := 5) (n := 32) (sz := 1) (i := i / 8) rfl rfl kR kR rfl qO) rfl ?_
  refine A2 (I3 (i / 8) rfl kR At.mem qO qO) rfl ?_
  refine mv_ ?_
  refine A2 (A3x 8 rfl rfl rfl qD) rfl ?_
  refine A2 (A93 (a := (K0 wu).getD (i / 8) 0) (b := i % 8) rfl rfl rfl rfl (by show _ ≤ 8; omega)) rfl ?_
  refine A2 (hbit ▸ N8 1 2 rfl rfl rfl rfl rfl (by show _ < 256; exact Nat.lt_of_le_of_lt (Nat.div_le_self _ _) hpb) qD) rfl ?_
  refine A2 (hbt ▸ F4 (decide (zb = 1)) rfl rfl (by rcases (show zb = 0 ∨ zb = 1 by omega) with h | h <;> subst h <;> rfl)) rfl ?_
  refine as_ (A0 (V3 5 6 7 8 9 10 11 12) (A3 ?_))
  cases bt
  ·
   refine A1 (mv_ (A0 (A0j 5 6 7 8 9 10 11 12 34) ?_))
   refine C9 rfl ?_
   refine A7 (nx (V3 5 6 7 8 9 10 11 12) (A1 ?_))
   refine A2 (qw_ 5) rfl ?_
   refine A2 (qw_ 5) rfl ?_
   refine A2 (qw_ 5) rfl ?_
   refine A2 (qw_ 5) rfl ?_
   refine A2 (qw_ 5) rfl ?_
   refine C7 (aS rfl (aS rfl (aS rfl (aS rfl (aS rfl a0))))) kR (B5l _ _ _ _ _ (rdN wp) _ _ _ _ _ hUz haz hbz hcz hdz) rfl ?_
   rintro r45 M45 J45 ⟨rfl, rfl, v0, v1, v2, v3, rfl, k0, k1, k2, k3⟩
   have k0z := k0
   obtain ⟨pw0, pw1, pw2, pw3, pw4, rfl, -⟩ := k0
   have k1z := k1
   obtain ⟨px0, px1, px2, px3, px4, rfl, -⟩ := k1
   have k2z := k2
   obtain ⟨py0, py1, py2, py3, py4, rfl, -⟩ := k2
   have k3z := k3
   obtain ⟨pq0, pq1, pq2, pq3, pq4, rfl, -⟩ := k3
   refine mv_ ?_
   refine A2 (A0G rfl) rfl ?_
   refine A2 (A0x rfl) rfl ?_
   refine A2 (q_x2 rfl) rfl ?_
   refine A2 (q_x3 rfl) rfl ?_
   refine A4 rfl (A8 (vs := [.int .u64 (pw0 : Int), .int .u64 (pw1 : Int), .int .u64 (pw2 : Int), .int .u64 (pw3 : Int), .int .u64 (pw4 : Int)]) rfl rfl rfl kR qR al5 UpC.upd ?_)
   refine A4 rfl (A8 (vs := [.int .u64 (px0 : Int), .int .u64 (px1 : Int), .int .u64 (px2 : Int), .int .u64 (px3 : Int), .int .u64 (px4 : Int)]) rfl rfl rfl kR qR al5 UpC.upd ?_)
   refine A4 rfl (A8 (vs := [.int .u64 (py0 : Int), .int .u64 (py1 : Int), .int .u64 (py2 : Int), .int .u64 (py3 : Int), .int .u64 (py4 : Int)]) rfl rfl rfl kR qR al5 UpC.upd ?_)
   refine A4 rfl (A8 (vs := [.int .u64 (pq0 : Int), .int .u64 (pq1 : Int), .int .u64 (pq2 : Int), .int .u64 (pq3 : Int), .int .u64 (pq4 : Int)]) rfl rfl rfl kR qR al5 UpC.upd ?_)
   refine A0 (V3 5 6 7 8 9 10 11 12) (A1 (mv_ (A0 (V3 5 6 7 8 9 10 11 50) ?_)))
   refine C9 rfl ?_
   refine A7 (nb (nx (S9 5 6 7 8 9 10 11) (A9 (mv_ ?_))))
   refine A2 (D1 ((i : Int) - 1) rfl rfl (A0q rfl qO qO)) rfl ?_
   refine as_ (C1 ?_)
   exact rn (i, [pw0, pw1, pw2, pw3, pw4], [px0, px1, px2, px3, px4], [py0, py1, py2, py3, py4], [pq0, pq1, pq2, pq3, pq4]) ⟨by dsimp only; omega, by dsimp only; rw [hts]; exact k0z, by dsimp only; rw [hts]; exact k1z, by dsimp only; rw [hts]; exact k2z, by dsimp only; rw [hts]; exact k3z⟩ (by dsimp only; omega) (S9 5 6 7 8 9 10 11) (show Fit _ ([(b10, blk [.int .u64 (pq0 : Int), .int .u64 (pq1 : Int), .int .u64 (pq2 : Int), .int .u64 (pq3 : Int), .int .u64 (pq4 : Int)] 153), (b9, blk [.int .u64 (py0 : Int), .int .u64 (py1 : Int), .int .u64 (py2 : Int), .int .u64 (py3 : Int), .int .u64 (py4 : Int)] 153), (b8, blk [.int .u64 (px0 : Int), .int .u64 (px1 : Int), .int .u64 (px2 : Int), .int .u64 (px3 : Int), .int .u64 (px4 : Int)] 153), (b7, blk [.int .u64 (pw0 : Int), .int .u64 (pw1 : Int), .int .u64 (pw2 : Int), .int .u64 (pw3 : Int), .int .u64 (pw4 : Int)] 153), (b6, blk [.int .u64 (ux0 : Int), .int .u64 (ux1 : Int), .int .u64 (ux2 : Int), .int .u64 (ux3 : Int), .int .u64 (ux4 : Int)] 153), (b5, blk (nums .u8 (K0 wu)) 150)]) from (Fit.pick (B := [_]) qP (Fit.pick (B := [_]) qP (Fit.pick (B := [_]) qP (Fit.pick (B := [_]) qP (Fit.pick (B := [_]) qP (Fit.eq rfl))))))) (fun _ h => by cases h)
  ·
   refine A1 (mv_ (A0 (A0j 5 6 7 8 9 10 11 12 34) ?_))
   refine C8 rfl ?_
   refine A0w ([(b7, blk [.int .u64 (za0 : Int), .int .u64 (za1 : Int), .int .u64 (za2 : Int), .int .u64 (za3 : Int), .int .u64 (za4 : Int)] 153)]) (_) true [0, 1, 2, 3, 4] [(0, 1), (1, 1), (3, 1), (2, 2), (4, 2), (5, 2), (6, 2), (7, 2)] kR kR qP fun hs K n0 hKm hKs hKn => ?_
   refine V2 hs rfl hKs (qw_ 5) ?_
   refine V2 hs rfl hKs (qw_ 5) ?_
   refine V2 hs rfl hKs (qw_ 5) ?_
   refine N2 _ _ rfl rfl (List.Perm.refl _) hKm fun w0 => (OpQ.opL (L8 (n := 5) rfl kR At.mem qR) rfl ?_)
   intro hK2
   refine N2 _ _ rfl rfl (List.Perm.refl _) (hK2 (hKn rfl)) fun w0 => (A8 (vs := [.int .u64 (zc0 : Int), .int .u64 (zc1 : Int), .int .u64 (zc2 : Int), .int .u64 (zc3 : Int), .int .u64 (zc4 : Int)]) rfl rfl rfl kR qR al5 UpC.upd ?_)
   intro hK4
   refine T6 rfl rfl rfl (A8 (vs := [.int .u64 (zd0 : Int), .int .u64 (zd1 : Int), .int .u64 (zd2 : Int), .int .u64 (zd3 : Int), .int .u64 (zd4 : Int)]) rfl rfl rfl kR qR al5 UpC.upd ?_)
   refine T6 rfl rfl rfl (A8 (vs := [.int .u64 (za0 : Int), .int .u64 (za1 : Int), .int .u64 (za2 : Int), .int .u64 (za3 : Int), .int .u64 (za4 : Int)]) rfl rfl rfl kR qR al5 UpC.upd ?_)
   refine T6 rfl rfl rfl (A8 (vs := [.int .u64 (zb0 : Int), .int .u64 (zb1 : Int), .int .u64 (zb2 : Int), .int .u64 (zb3 : Int), .int .u64 (zb4 : Int)]) rfl rfl rfl kR qR al5 UpC.upd ?_)
   refine P8 (V3 5 6 7 8 9 10 11 12) (A1 ?_)
   refine A2 (qw_ 5) rfl ?_
   refine A2 (qw_ 5) rfl ?_
   refine A2 (qw_ 5) rfl ?_
   refine A2 (qw_ 5) rfl ?_
   refine A2 (qw_ 5) rfl ?_
   refine C7 (aS rfl (aS rfl (aS rfl (aS rfl (aS rfl a0))))) kR (B5l _ _ _ _ _ (rdN wp) _ _ _ _ _ hUz hcz hdz haz hbz) rfl ?_
   rintro r45 M45 J45 ⟨rfl, rfl, v0, v1, v2, v3, rfl, k0, k1, k2, k3⟩
   have k0z := k0
   obtain ⟨pw0, pw1, pw2, pw3, pw4, rfl, -⟩ := k0
   have k1z := k1
   obtain ⟨px0, px1, px2, px3, px4, rfl, -⟩ := k1
   have k2z := k2
   obtain ⟨py0, py1, py2, py3, py4, rfl, -⟩ := k2
   have k3z := k3
   obtain ⟨pq0, pq1, pq2, pq3, pq4, rfl, -⟩ := k3
   refine mv_ ?_
   refine A2 (A0G rfl) rfl ?_
   refine A2 (A0x rfl) rfl ?_
   refine A2 (q_x2 rfl) rfl ?_
   refine A2 (q_x3 rfl) rfl ?_
   refine A4 rfl (A8 (vs := [.int .u64 (pw0 : Int), .int .u64 (pw1 : Int), .int .u64 (pw2 : Int), .int .u64 (pw3 : Int), .int .u64 (pw4 : Int)]) rfl rfl rfl kR qR al5 UpC.upd ?_)
   refine A4 rfl (A8 (vs := [.int .u64 (px0 : Int), .int .u64 (px1 : Int), .int .u64 (px2 : Int), .int .u64 (px3 : Int), .int .u64 (px4 : Int)]) rfl rfl rfl kR qR al5 UpC.upd ?_)
   refine A4 rfl (A8 (vs := [.int .u64 (py0 : Int), .int .u64 (py1 : Int), .int .u64 (py2 : Int), .int .u64 (py3 : Int), .int .u64 (py4 : Int)]) rfl rfl rfl kR qR al5 UpC.upd ?_)
   refine A4 rfl (A8 (vs := [.int .u64 (pq0 : Int), .int .u64 (pq1 : Int), .int .u64 (pq2 : Int), .int .u64 (pq3 : Int), .int .u64 (pq4 : Int)]) rfl rfl rfl kR qR al5 UpC.upd ?_)
   refine A0 (V3 5 6 7 8 9 10 11 12) (A1 (mv_ (A0 (V3 5 6 7 8 9 10 11 50) ?_)))
   refine C8 rfl ?_
   refine A0w ([(b7, blk [.int .u64 (pw0 : Int), .int .u64 (pw1 : Int), .int .u64 (pw2 : Int), .int .u64 (pw3 : Int), .int .u64 (pw4 : Int)] 153)]) (_) true [0, 1, 2, 3, 4] [(0, 1), (1, 1), (3, 1), (2, 2), (4, 2), (5, 2), (6, 2), (7, 2)] kR kR qP fun hs K n0 hKm hKs hKn => ?_
   refine V2 hs rfl hKs (qw_ 5) ?_
   refine V2 hs rfl hKs (qw_ 5) ?_
   refine V2 hs rfl hKs (qw_ 5) ?_
   refine N2 _ _ rfl rfl (List.Perm.refl _) hKm fun w0 => (OpQ.opL (L8 (n := 5) rfl kR At.mem qR) rfl ?_)
   intro hK2
   refine N2 _ _ rfl rfl (List.Perm.refl _) (hK2 (hKn rfl)) fun w0 => (A8 (vs := [.int .u64 (py0 : Int), .int .u64 (py1 : Int), .int .u64 (py2 : Int), .int .u64 (py3 : Int), .int .u64 (py4 : Int)]) rfl rfl rfl kR qR al5 UpC.upd ?_)
   intro hK4
   refine T6 rfl rfl rfl (A8 (vs := [.int .u64 (pq0 : Int), .int .u64 (pq1 : Int), .int .u64 (pq2 : Int), .int .u64 (pq3 : Int), .int .u64 (pq4 : Int)]) rfl rfl rfl kR qR al5 UpC.upd ?_)
   refine T6 rfl rfl rfl (A8 (vs := [.int .u64 (pw0 : Int), .int .u64 (pw1 : Int), .int .u64 (pw2 : Int), .int .u64 (pw3 : Int), .int .u64 (pw4 : Int)]) rfl rfl rfl kR qR al5 UpC.upd ?_)
   refine T6 rfl rfl rfl (A8 (vs := [.int .u64 (px0 : Int), .int .u64 (px1 : Int), .int .u64 (px2 : Int), .int .u64 (px3 : Int), .int .u64 (px4 : Int)]) rfl rfl rfl kR qR al5 UpC.upd ?_)
   refine A4H (nb (nx (S9 5 6 7 8 9 10 11) (A9 (mv_ ?_))))
   refine A2 (D1 ((i : Int) - 1) rfl rfl (A0q rfl qO qO)) rfl ?_
   refine as_ (C1 ?_)
   exact rn (i, [py0, py1, py2, py3, py4], [pq0, pq1, pq2, pq3, pq4], [pw0, pw1, pw2, pw3, pw4], [px0, px1, px2, px3, px4]) ⟨by dsimp only; omega, by dsimp only; rw [hts]; exact k2z, by dsimp only; rw [hts]; exact k3z, by dsimp only; rw [hts]; exact k0z, by dsimp only; rw [hts]; exact k1z⟩ (by dsimp only; omega) (S9 5 6 7 8 9 10 11) (show Fit _ ([(b10, blk [.int .u64 (px0 : Int), .int .u64 (px1 : Int), .int .u64 (px2 : Int), .int .u64 (px3 : Int), .int .u64 (px4 : Int)] 153), (b9, blk [.int .u64 (pw0 : Int), .int .u64 (pw1 : Int), .int .u64 (pw2 : Int), .int .u64 (pw3 : Int), .int .u64 (pw4 : Int)] 153), (b8, blk [.int .u64 (pq0 : Int), .int .u64 (pq1 : Int), .int .u64 (pq2 : Int), .int .u64 (pq3 : Int), .int .u64 (pq4 : Int)] 153), (b7, blk [.int .u64 (py0 : Int), .int .u64 (py1 : Int), .int .u64 (py2 : Int), .int .u64 (py3 : Int), .int .u64 (py4 : Int)] 153), (b6, blk [.int .u64 (ux0 : Int), .int .u64 (ux1 : Int), .int .u64 (ux2 : Int), .int .u64 (ux3 : Int), .int .u64 (ux4 : Int)] 153), (b5, blk (nums .u8 (K0 wu)) 150)]) from (Fit.pick (B := [_]) qP (Fit.pick (B := [_]) qP (Fit.pick (B := [_]) qP (Fit.pick (B := [_]) qP (Fit.pick (B := [_]) qP (Fit.eq rfl))))))) (fun _ h => by cases h)
 ·
  have hj0 : j = 0 := by simp at hc; omega
  subst hj0
  refine D4 (te (re (be rfl (nx (D3 7 8) ?_))))
  refine D2 [0, 1, 2, 3, 4, 5] (zp 0 [1, 1, 2, 2, 2, 0]) kR kR fun hs => ?_
  refine H2 hs rfl (qw_ 5) rfl ?_
  refine H2 hs rfl (qw_ 5) rfl ?_
  refine T4 rfl (aS rfl a0) kR (C0s hbz _) rfl ?_
  rintro r57 M57 J57 ⟨rfl, rfl, k57⟩
  have h57 := k57
  obtain ⟨a57, b57, c57, d57, e57, rfl, -⟩ := k57
  refine T4 rfl (aS rfl (aS rfl a0)) kR (A7m haz h57 _) rfl ?_
  rintro r58 M58 J58 ⟨rfl, rfl, k58⟩
  have h58 := k58
  obtain ⟨a58, b58, c58, d58, e58, rfl, -⟩ := k58
  refine T4 rfl (aS rfl a0) kR ((A7j _ _ h58 _).frz0) rfl ?_
  rintro r59 M59 J59 ⟨rfl, hs59⟩
  haveI := hs59.cel
  refine fa_ hs ?_
  refine E9 (D5 4) (B0 ?_)
  exact ⟨_, [], J59, I4 rfl rfl, List.nil_sublist _, fun x hx => by simp [hx], rfl, C0F hs59 (A2t _ _).symm (B1k _ _) (by rw [A2t]; decide) fun _ h => h⟩
theorem B9a (v : Value) (wu : LN) (A : Mem) (hv : By A v wu) : FnX Tryz.prog 53 [v] [] A fun r M J => M = [] ∧ By J r (A0C wu) := by
 haveI := hv.cel
 refine FnX.enterZ (N := 10) Tryz.func53 rfl rfl rfl fun w_ => ?_
 refine B4 (D5 0) (A1 (as_ (A0 (D5 0) (A1 ?_))))
 refine A4 rfl (A0I (by_ := 1) (k := .u8) (e := 5) 32 rfl rfl kR rfl rfl qO qO rfl fun b4 => ?_)
 refine as_ (A0 (D3 0 3) (A1 (mv_ ?_)))
 refine A2 (K9 (e := 5) (sz := 1) (i := 0) rfl rfl kR kR qO qO) rfl ?_
 refine A4 rfl (I8 0 (ws := List.replicate 32 0) rfl rfl kR rfl qM UpC.upd ?_)
 refine A0 (D3 0 3) (A1 (mv_ (mv_ ?_)))
 refine C7 (aS rfl (aS rfl a0)) kR (B5m v _ wu B3Z _ (hv.mono qS) ⟨Rd.whole (n := 32) (cs := nums .u8 B3Z) At.mem qR, by decide, by decide⟩) rfl ?_
 rintro r9 M9 J9 ⟨rfl, h9⟩
 haveI := h9.cel
 refine as_ (A0 (D5 2) (B0 ?_))
 exact ⟨_, [], [], I4 rfl rfl, qZ, rfl, h9.mono qS⟩

end Go.Proofs.YtlilcmjbaknafaaGreatDoor
namespace Go.Px
open Go.ChangeShapes Go.WideShapes Go.ChangeAt Go.RowKit
structure Byi (R : Mem) (v : Value) (w : List Nat) : Prop where
  rd : Rd R 1 v w.length (nums .u8 w)
  lt : ∀ x ∈ w, x < 256
  len : w.length ≤ maxLen
theorem Byi.mono {R R' : Mem} {v : Value} {w : List Nat} (h : Byi R v w) (hR : ∀ x, x ∈ R → x ∈ R') : Byi R' v w := ⟨h.rd.mono hR, h.lt, h.len⟩
theorem By.i {R : Mem} {v : Value} {w : List Nat} (h : By R v w) : Byi R v w := ⟨h.rd, h.lt, h.max⟩
theorem Byi.by {R : Mem} {v : Value} {w : List Nat} (h : Byi R v w) (hl : w.length ≤ 16777216) : By R v w := ⟨h.rd, h.lt, hl⟩
theorem Byi.cel {R : Mem} {v : Value} {w : List Nat} (h : Byi R v w) : Cel v [v] := h.rd.cel
structure Byz (R : Mem) (v : Value) (w : List Nat) : Prop extends Byi R v w where
  sz : w.length ≤ reachBytes
theorem Byz.mono {R R' : Mem} {v : Value} {w : List Nat} (h : Byz R v w) (hR : ∀ x, x ∈ R → x ∈ R') : Byz R' v w := ⟨h.toByi.mono hR, h.sz⟩
section
variable {H : Type} {enc : TypeId × Value → H} {P : Program} {w : World} {spare : Nat → Bool} {held : Bool} {fuel : Nat} {t e : TypeId} {cs : List Value} {x : DataW H × List MemPlace}
theorem A8e {fs : Array Field} {tf : TypeId} {o c : Nat} (ht : P.underlying t = some (.struct fs)) (h : DataW.trod enc P w 0 spare held fuel t cs = some x) (i : Nat) (f : Field) (hf : fs[i]? = some f) (hty : f.type = tf) (ho : f.offset = o) (hc : P.cellsOf tf = c) :
    ∃ m y, DataW.trod enc P w 0 spare held m tf ((cs.drop o).take c) = some y := by
  obtain ⟨xs, m, _, _, h1, h2, h3⟩ := DataW.trod_struct ht h
  have e0 := h3 i f hf
  have hi : i < fs.size := (Array.getElem?_eq_some_iff.1 hf).1
  rw [hty, ho, hc, List.getElem?_eq_getElem (by omega)] at e0
  exact ⟨m, _, e0⟩
end
end Go.Px

namespace Go.Proofs.YtlilcmjbaknafaaGreatDoor
open Go.Px
theorem Glb.s {A : Mem} (h : Glb A) : GlS A := ⟨h.first, h.round⟩
def L2 (s : Ps) (w : LN) : Ps := if s.real then s else B3w s w
noncomputable def I2 (s : Ps) (w : LN) : LN := if s.real then A0C (G7 w 32) else B6D s w
noncomputable def skK2 (s : Ps) (w : LN) : LN := if s.real then C0E (G7 w 32) else B6D s w
def X7 (s : Ps) (w u : LN) : Ps := if s.real then s else B6E s w u
noncomputable def A04 (s : Ps) (w u : LN) : LN := if s.real then x25 (G7 w 32) (G7 u 32) else B76 s w u
def sgS2 (s : Ps) (w m : LN) : Ps := if s.real then s else B5d s w fun x => B9Q x m
noncomputable def sgK2 (s : Ps) (w m : LN) : LN := if s.real then sigB (G7 w 32) m else G7 (B5e s w fun x => B9Q x m) 64
theorem B35 (pb : Nat) (s : Ps) (hr : s.real = true) (v : Value) (w : LN) (MP A : Mem) (hP : Prm pb s MP) (hv : By A v w) : FnX Tryz.prog 27 [(vP pb), v] MP A fun q M J => Prm pb s M ∧ By J q (A0C (G7 w 32)) := by
 obtain ⟨sv, bt, bm, B, MT, rfl, hby, hT⟩ := hP.ex
 haveI := hv.cel
 haveI := hby.cel
 have hvl := hv.len
 refine FnX.enterZ (N := 26) Tryz.func27 rfl rfl rfl fun w_ => ?_
 refine B4 (D3 0 1) (A1 (as_ (A0 (D3 0 1) (A3 (A1 (mv_ ?_))))))
 refine A2 (G5 (e := 105) rfl rfl kR) rfl ?_
 refine A0 (D8 0 1 6) ?_
 refine C9 rfl ?_
 refine A7 (nx (D3 0 1) (A3 (A1 (mv_ ?_))))
 refine A2 (E4 rfl) rfl ?_
 refine A2 (qf_ 0 0) rfl ?_
 refine A2 ql_ rfl ?_
 refine A2 (F4 true rfl rfl (eqT (by rw [hr]; rfl))) rfl ?_
 refine A0 (D8 0 1 11) ?_
 refine C8 rfl ?_
 refine A1 (mv_ ?_)
 refine C7 (aS rfl (aS rfl a0)) kR (A0O v w 32 _ (hv.mono qS) qD) rfl ?_
 rintro r13 M13 J13 ⟨rfl, h13⟩
 haveI := h13.cel
 refine C7 (aS rfl a0) kR (B9a _ _ _ (h13.mono qS)) rfl ?_
 rintro r14 M14 J14 ⟨rfl, h14⟩
 haveI := h14.cel
 refine as_ (A0 (D5 4) (B0 (tr ?_)))
 exact ⟨_, (pb, blk [.int .u8 (md s.real), sv, .int .i64 (((s.n : Nat) : Int)), (vP bt)] 105) :: (B ++ MT), [], I4 rfl rfl, (Fit.none (Fit.pick (B := [_]) qP (Fit.pick qP (Fit.last qP)))), ⟨sv, bt, bm, B, MT, rfl, hby, hT⟩, h14.mono qS⟩
theorem B64 (pb : Nat) (s : Ps) (hr : s.real = true) (v v2 : Value) (w u : LN) (MP A : Mem) (hP : Prm pb s MP) (hv : By A v w) (hu : By A v2 u) : FnX Tryz.prog 73 [(vP pb), v, v2] MP A fun q M J => Prm pb s M ∧ By J q (x25 (G7 w 32) (G7 u 32)) := by
 obtain ⟨sv, bt, bm, B, MT, rfl, hby, hT⟩ := hP.ex
 haveI := hv.cel
 haveI := hby.cel
 have hvl := hv.len
 haveI := hu.cel
 refine FnX.enterZ (N := 31) Tryz.func73 rfl rfl rfl fun w_ => ?_
 refine B4 (D8 0 1 2) (A1 (as_ (A0 (D8 0 1 2) (A3 (A1 (mv_ ?_))))))
 refine A2 (G5 (e := 105) rfl rfl kR) rfl ?_
 refine A0 (D7 0 1 2 8) ?_
 refine C9 rfl ?_
 refine A7 (nx (D8 0 1 2) (A3 (A1 (mv_ ?_))))
 refine A2 (E4 rfl) rfl ?_
 refine A2 (qf_ 0 0) rfl ?_
 refine A2 ql_ rfl ?_
 refine A2 (F4 true rfl rfl (eqT (by rw [hr]; rfl))) rfl ?_
 refine A0 (D7 0 1 2 13) ?_
 refine C8 rfl ?_
 refine A1 (mv_ ?_)
 refine C7 (aS rfl (aS rfl a0)) kR (A0O v w 32 _ (hv.mono qS) qD) rfl ?_
 rintro r15 M15 J15 ⟨rfl, h15⟩
 haveI := h15.cel
 refine mv_ ?_
 refine C7 (aS rfl (aS rfl a0)) kR (A0O v2 u 32 _ (hu.mono qS) qD) rfl ?_
 rintro r17 M17 J17 ⟨rfl, h17⟩
 haveI := h17.cel
 refine C7 (aS rfl (aS rfl a0)) kR (B5m _ _ _ _ _ (h15.mono qS) (h17.mono qS)) rfl ?_
 rintro r18 M18 J18 ⟨rfl, h18⟩
 haveI := h18.cel
 refine as_ (A0 (D5 6) (B0 (tr ?_)))
 exact ⟨_, (pb, blk [.int .u8 (md s.real), sv, .int .i64 (((s.n : Nat) : Int)), (vP bt)] 105) :: (B ++ MT), [], I4 rfl rfl, (Fit.none (Fit.pick (B := [_]) qP (Fit.pick qP (Fit.last qP)))), ⟨sv, bt, bm, B, MT, rfl, hby, hT⟩, h18.mono qS⟩
theorem A8f (pb : Nat) (s : Ps) (v : Value) (w : LN) (MP A : Mem) (hP : Prm pb s MP) (hn : s.ts.length < 1048576) (hv : By A v w) (hG : Glb A) : FnX Tryz.prog 27 [(vP pb), v] MP A fun q M J => Prm pb (L2 s w) M ∧ By J q (I2 s w) := by
  cases hr : s.real with
  | true => unfold L2 I2; rw [hr]; exact B35 pb s hr v w MP A hP hv
  | false => unfold L2 I2; rw [hr]; exact B3x pb s hr v w MP A hP hn hv hG
theorem B65 (pb : Nat) (s : Ps) (v v2 : Value) (w u : LN) (MP A : Mem) (hP : Prm pb s MP) (hn : s.ts.length + 1 < 1048576) (hv : By A v w) (hu : By A v2 u) (hG : Glb A) : FnX Tryz.prog 73 [(vP pb), v, v2] MP A fun q M J => Prm pb (X7 s w u) M ∧ By J q (A04 s w u) := by
  cases hr : s.real with
  | true => unfold X7 A04; rw [hr]; exact B64 pb s hr v v2 w u MP A hP hv hu
  | false => unfold X7 A04; rw [hr]; exact B3y pb s hr v v2 w u MP A hP hn hv hu hG

structure Ext (s s' : Ps) : Prop where
  p : Pext s s'
  seed : s'.seed = s.seed
  n : s.n ≤ s'.n
theorem Ext.refl (s : Ps) : Ext s s := ⟨Pext.refl s, rfl, Nat.le_refl _⟩
theorem Ext.trans {a b c : Ps} (h : Ext a b) (h' : Ext b c) : Ext a c := ⟨h.p.trans h'.p, h'.seed.trans h.seed, Nat.le_trans h.n h'.n⟩
theorem A5K (ts : List Tm) (t : Tm) : ∃ l, add ts t = ts ++ l := by
  unfold add
  split
  · exact ⟨[], by simp⟩
  · exact ⟨_, rfl⟩
theorem A1N (ts : List Tm) (w : LN) : ∃ l, rdT ts w = ts ++ l := by
  cases hp : plc w ts.length with
  | some j => exact ⟨[], by rw [(W4 hp).1]; simp⟩
  | none => rw [(Y6 hp).1]; exact A5K _ _
theorem A8g (ts : List Tm) (w : LN) (t : Tm) : ∃ l, add (rdT ts w) t = ts ++ l := by
  obtain ⟨l1, e1⟩ := A1N ts w
  obtain ⟨l2, e2⟩ := A5K (rdT ts w) t
  exact ⟨l1 ++ l2, by rw [e2, e1, List.append_assoc]⟩
theorem A3a (s : Ps) : Ext s (F2 s) := ⟨A6w s, by unfold F2; split <;> rfl, by unfold F2; split <;> exact Nat.le_succ _⟩
theorem B5n (s : Ps) (w : LN) : Ext s (L2 s w) := by
  unfold L2
  split
  · exact Ext.refl s
  · exact ⟨⟨rfl, A8g _ _ _⟩, rfl, Nat.le_refl _⟩
theorem C0G {s : Ps} {i : Nat} (hi : i < s.ts.length) (hl : s.ts.length ≤ 1048576) : B3w s (bts ((i : Nat) : Int)) = { s with ts := add s.ts (B0H ((i : Nat) : Int)) } ∧ B6D s (bts ((i : Nat) : Int)) = bts ((at_ s.ts (B0H ((i : Nat) : Int)) : Nat) : Int) := by
  obtain ⟨h1, h2⟩ := A3K hi hl
  unfold B3w B6D
  rw [h1, h2]
  exact ⟨rfl, rfl⟩
theorem C0H {s : Ps} {i : Nat} (hi : i < s.ts.length) (hl : s.ts.length ≤ 1048576) (f : Int → Tm) : B5d s (bts ((i : Nat) : Int)) f = { s with ts := add s.ts (f ((i : Nat) : Int)) } ∧ B5e s (bts ((i : Nat) : Int)) f = bts ((at_ s.ts (f ((i : Nat) : Int)) : Nat) : Int) := by
  obtain ⟨h1, h2⟩ := A3K hi hl
  unfold B5d B5e
  rw [h1, h2]
  exact ⟨rfl, rfl⟩
theorem A5L {i : Nat} (h : i ≤ 1048576) : i64 ((i : Nat) : Int) := by unfold i64; omega
def B78 (s : Ps) (w p : LN) : Prop := ∃ i j : Nat, i < s.ts.length ∧ w = bts ((i : Nat) : Int) ∧ s.ts[j]? = some (B0H ((i : Nat) : Int)) ∧ p = bts ((j : Nat) : Int)
def V6 (s : Ps) (w p : LN) : Prop := if s.real then p = A0C (G7 w 32) else B78 s w p
def B9b (s : Ps) (w p : LN) : Prop := if s.real then p = C0E (G7 w 32) else B78 s w p
def B1l (s : Ps) (w m g : LN) : Prop := if s.real then g = sigB (G7 w 32) m else ∃ i j : Nat, i < s.ts.length ∧ w = bts ((i : Nat) : Int) ∧ s.ts[j]? = some (B9Q ((i : Nat) : Int) m) ∧ g = G7 (bts ((j : Nat) : Int)) 64
theorem B78.ext {s s' : Ps} {w p : LN} (h : B78 s w p) (he : Pext s s') : B78 s' w p := by
  obtain ⟨l, e⟩ := he.ts
  obtain ⟨i, j, h1, h2, h3, h4⟩ := h
  exact ⟨i, j, by rw [e, List.length_append]; omega, h2, by rw [e]; exact A3J h3, h4⟩
theorem V6.ext {s s' : Ps} {w p : LN} (h : V6 s w p) (he : Pext s s') : V6 s' w p := by
  unfold V6 at *
  rw [he.real]
  split
  · rename_i hr; rwa [if_pos hr] at h
  · rename_i hr; rw [if_neg hr] at h; exact h.ext he
theorem B9b.ext {s s' : Ps} {w p : LN} (h : B9b s w p) (he : Pext s s') : B9b s' w p := by
  unfold B9b at *
  rw [he.real]
  split
  · rename_i hr; rwa [if_pos hr] at h
  · rename_i hr; rw [if_neg hr] at h; exact h.ext he
theorem B1l.ext {s s' : Ps} {w m g : LN} (h : B1l s w m g) (he : Pext s s') : B1l s' w m g := by
  unfold B1l at *
  rw [he.real]
  split
  · rename_i hr; rwa [if_pos hr] at h
  · rename_i hr
    rw [if_neg hr] at h
    obtain ⟨l, e⟩ := he.ts
    obtain ⟨i, j, h1, h2, h3, h4⟩ := h
    exact ⟨i, j, by rw [e, List.length_append]; omega, h2, by rw [e]; exact A3J h3, h4⟩
theorem B78.kok {s : Ps} {w p : LN} (h : B78 s w p) : B5a s.ts w ∧ B5a s.ts p := by
  obtain ⟨i, j, h1, h2, h3, h4⟩ := h
  exact ⟨⟨i, h1, h2⟩, ⟨j, (List.getElem?_eq_some_iff.1 h3).1, h4⟩⟩
theorem V6.kok {s : Ps} {w p : LN} (h : V6 s w p) : Kok s w ∧ Kok s p := by
  unfold V6 at h
  refine ⟨fun hr => ?_, fun hr => ?_⟩ <;> rw [if_neg (by rw [hr]; decide)] at h
  · exact h.kok.1
  · exact h.kok.2
theorem B66 {s : Ps} {w : LN} (h : B5a s.ts w) (ht : Tok s.ts) (hl : s.ts.length ≤ 1048576) : B78 (B3w s w) w (B6D s w) ∧ Tok (B3w s w).ts := by
  obtain ⟨i, hi, rfl⟩ := h
  obtain ⟨e1, e2⟩ := C0G hi hl
  obtain ⟨l, g1, g2, g3, g4⟩ := A4u (B5c (A5L (show i ≤ 1048576 by omega))) ht
  rw [e1, e2]
  exact ⟨⟨i, _, by show i < (add s.ts _).length; rw [g1, List.length_append]; omega, rfl, g3, rfl⟩, g4⟩
theorem B9c {s : Ps} {w : LN} (h : Kok s w) (ht : Tok s.ts) (hl : s.ts.length ≤ 1048576) : V6 (L2 s w) w (I2 s w) ∧ B9b (L2 s w) w (skK2 s w) ∧ Tok (L2 s w).ts := by
  unfold V6 B9b L2 I2 skK2
  cases hr : s.real with
  | true => simp [hr, ht]
  | false =>
    obtain ⟨h1, h2⟩ := B66 (h hr) ht hl
    have h3 : (B3w s w).real = false := hr
    simp only [Bool.false_eq_true, if_false, h3]
    exact ⟨h1, h1, h2⟩
theorem B1l.f {s : Ps} (h : s.real = false) {w m g : LN} : B1l s w m g ↔ ∃ i j : Nat, i < s.ts.length ∧ w = bts ((i : Nat) : Int) ∧ s.ts[j]? = some (B9Q ((i : Nat) : Int) m) ∧ g = G7 (bts ((j : Nat) : Int)) 64 := by unfold B1l; rw [if_neg (by rw [h]; decide)]
def chkT (ts : List Tm) (p m g : LN) : Bool := decide (g.length = 64) && match plc g ts.length, plc p ts.length with
  | some i, some k => decide (p.length = 32) && match ts[i]?, ts[k]? with
    | some t, some u => decide (t.kind = 7) && decide (t.text = m) && decide (u.kind = 3) && decide (u.of.getD 0 0 = t.of.getD 0 0)
    | _, _ => false
  | _, _ => false
noncomputable def chkK (s : Ps) (p m g : LN) : Bool := if s.real then chkB p m g else chkT s.ts p m g
def Ar (ts : List Tm) : Prop := ∀ t ∈ ts, (t.kind = 3 ∨ t.kind = 6 ∨ t.kind = 7) → 0 < t.of.length
theorem Ar.nil : Ar [] := fun t h => by cases h
theorem Ar.add {ts : List Tm} (h : Ar ts) {t : Tm} (ht : (t.kind = 3 ∨ t.kind = 6 ∨ t.kind = 7) → 0 < t.of.length) : Ar (add ts t) := by
  unfold Go.Proofs.YtlilcmjbaknafaaGreatDoor.add
  split
  · exact h
  · intro u hu
    rcases List.mem_append.1 hu with h1 | h1
    · exact h u h1
    · rw [List.mem_singleton.1 h1]; exact ht
theorem Ar.rd {ts : List Tm} (h : Ar ts) (w : LN) : Ar (rdT ts w) := by
  cases hp : plc w ts.length with
  | some j => rw [(W4 hp).1]; exact h
  | none => rw [(Y6 hp).1]; exact h.add (by intro h; rcases h with h | h | h <;> cases h)
theorem B1m (a b : LN) : mark a ++ mark b = A03 [a, b] := by simp [A03]
theorem B36 (bt bm : Nat) (ts : List Tm) (v : Value) (w : LN) (j : Nat) (MT A : Mem) (hT : Tab bt bm ts MT) (hsub : ∀ x, x ∈ MT → x ∈ A) (hn : ts.length ≤ 1048576) (hv : By A v w) (hj : plc w ts.length = some j) : FnV Tryz.prog 75 [(vP bt), v] A (vI j) := by
 haveI := hv.cel
 refine FnX.enter (N := 20) Tryz.func75 rfl rfl rfl fun w_ => ?_
 refine B4 (D3 0 1) (A1 (as_ (A0 (D3 0 1) (A3 (A1 (mv_ (mv_ ?_)))))))
 refine F0 (aS rfl (aS rfl a0)) kR (A2r bt bm ts v w MT _ hT (fun x hx => qS _ (hsub x hx)) hn (hv.rd.mono qS) hv.lt hv.max) rfl ?_
 rw [hj, Option.getD_some, Option.isSome_some]
 refine mv_ ?_
 refine A2 (A0G rfl) rfl ?_
 refine A2 (A0x rfl) rfl ?_
 refine as_ (as_ (A0 (D7 0 1 5 6) (A1 (mv_ (A0 (D7 0 1 5 13) ?_)))))
 refine C8 rfl ?_
 refine A1 (mv_ (as_ (A0 (D5 4) (B0 (tr ?_)))))
 exact ⟨_, [], [], I4 rfl rfl, List.nil_sublist _, by simp, rfl, rfl, rfl⟩
theorem B37 (pb bt bm : Nat) (m k : Int) (sv : Value) [hsv : Cel sv [sv]] (ts : List Tm) (v : Value) (w : LN) (j : Nat) (MT A : Mem) (hT : Tab bt bm ts MT) (hsub : ∀ x, x ∈ MT → x ∈ A) (hpb : (pb, blk [.int .u8 m, sv, .int .i64 k, (vP bt)] 105) ∈ A) (hn : ts.length ≤ 1048576) (hv : By A v w) (hj : plc w ts.length = some j) : FnV Tryz.prog 55 [(vP pb), v] A (vI j) := by
 haveI := hv.cel
 refine FnX.enter (N := 11) Tryz.func55 rfl rfl rfl fun w_ => ?_
 refine B4 (D3 0 1) (A1 (as_ (A0 (D3 0 1) (A1 (mv_ ?_)))))
 refine A2 (E4 rfl) rfl ?_
 refine A2 (qf_ 3 3) rfl ?_
 refine A2 (I7 rfl kR (mA hpb) qR) rfl ?_
 refine mv_ ?_
 refine F0 (aS rfl (aS rfl a0)) kR (B36 bt bm ts v w j MT _ hT (fun x hx => qS _ (hsub x hx)) hn (hv.mono qS) hj) rfl ?_
 refine as_ (A0 (D5 4) (B0 ?_))
 exact ⟨_, [], [], I4 rfl rfl, List.nil_sublist _, by simp, rfl, rfl, rfl⟩

theorem A1O (v : Value) (w : LN) (A : Mem) (h : By A v w) : FnX Tryz.prog 36 [v] [] A fun r M J => M = [] ∧ By J r w := by
 haveI := h.cel
 have hwl := h.len
 refine FnX.enterZ (N := 8) Tryz.func36 rfl rfl rfl fun w_ => ?_
 refine B4 (D5 0) (A1 (as_ (A0 (D5 0) (A3 (A1 (mv_ ?_))))))
 refine A2 (A17 (e := 5) rfl kR (by first | assumption | exact Sl.rd (by assumption) qI | exact By.rd (by assumption))) rfl ?_
 refine A0 (D3 0 4) ?_
 refine C0 rfl ?_ ?_ <;> intro hc
 ·
  have h0 := h.rd.isNil hc
  obtain rfl : w = [] := List.eq_nil_of_length_eq_zero h0
  refine A1 (as_ (A0 (D5 2) (B0 (tr ?_))))
  exact ⟨_, [], [], I4 rfl rfl, qZ, rfl, By.nil⟩
 ·
  refine A7 (nx (D5 0) (A1 ?_))
  refine A4 rfl (C4 (e := 5) (sz := 1) (z := []) kR e0 bd0 rfl fun b5 => ?_)
  refine mv_ ?_
  refine A4 rfl (G9 (e := 5) (sz := 1) (by_ := 1) rfl rfl kR rfl (Sl.fresh (n := 0) (cs := []) (e := 5) rfl qD) (h.rd.mono qS) F3 qP (by unfold maxLen; omega) qO rfl fun v7 B7 hs7 => ?_)
  refine as_ (A0 (D5 2) (B0 ?_))
  exact ⟨_, [], B7, I4 rfl rfl, Fit.pick qP qZ, rfl, ⟨A02 (hs7.rd fun x hx => by simp [hx]) qO qM, h.lt, h.len⟩⟩
theorem Q9 (va vb : Value) (a b : LN) (A : Mem) (ha : By A va a) (hb : By A vb b) : FnV Tryz.prog 33 [va, vb] A (.bool (decide (a = b))) := by
 haveI := ha.cel
 haveI := hb.cel
 refine FnX.enter (N := 10) Tryz.func33 rfl rfl rfl fun w => ?_
 refine B4 (D3 0 1) (A1 (as_ (A0 (D3 0 1) (A1 (mv_ ?_)))))
 refine A2 (R8 rfl kR (ha.rd.mono qS)) rfl ?_
 refine mv_ ?_
 refine A2 (R8 rfl kR (hb.rd.mono qS)) rfl ?_
 refine A2 (B8q rfl rfl rfl rfl ha.lt hb.lt) rfl ?_
 refine as_ (A0 (D5 4) (B0 ?_))
 exact ⟨_, [], [], I4 rfl rfl, List.nil_sublist _, by simp, rfl, rfl, rfl⟩
theorem A9f (v : Value) (rows : List (List Value)) (f : FuncId) (cs : List Value) (p : Nat → Bool) (A : Mem) (hv : Rd A 3 v rows.length rows.flatten) (hl : ∀ r ∈ rows, r.length = 3) (hn : rows.length ≤ 1099511627776) (hc_ : L4 Tryz.prog f = true) (hf : ∀ (j : Nat) (r : List Value), rows[j]? = some r → FnV Tryz.prog f (.agg r.toArray :: cs) A (.bool (p j))) : FnV Tryz.prog 61 [v, .func (.func f) #[] cs.toArray] A (.int .i64 (B5g p rows.length)) := by
 haveI := hv.cel
 refine FnX.enter (N := 19) Tryz.func61 rfl rfl rfl fun w => ?_
 refine B4 (D3 0 1) (A1 (as_ (A0 (D3 0 1) (A3 (A1 (mv_ ?_))))))
 refine A2 (F8 (sz := 3) rfl kR hv) rfl ?_
 refine mv_ (A0 (D7 0 1 7 8) (A5 ?_))
 refine E1 (α := Nat) (fun i => [(0, v), (1, .func (.func f) #[] cs.toArray), (7, (vI rows.length)), (8, .int .i64 (i : Int))]) (fun _ => []) (fun _ => []) (fun i => i ≤ rows.length ∧ ∀ j, j < i → p j = false) (fun i => rows.length - i) 0 ⟨Nat.zero_le _, fun j h => absurd h (Nat.not_lt_zero j)⟩ (D7 0 1 7 8) .rfl qI ?_
 rintro i ⟨hi, hp⟩
 refine A1 ?_
 refine A2 (D9 rfl rfl rfl) rfl ?_
 refine A0 (E6 0 1 7 8 9) (A3 ?_)
 refine C0 rfl ?_ ?_ <;> intro hc
 ·
  have hlt : i < rows.length := by simp at hc; omega
  obtain ⟨r, hr⟩ : ∃ r, rows[i]? = some r := ⟨_, List.getElem?_eq_getElem hlt⟩
  refine A7 (nx (D7 0 1 7 8) (A3 (A5 (A1 (mv_ (as_ (A0 (E6 0 1 5 7 8) (A1 ?_))))))))
  refine mv_ (mv_ (mv_ ?_))
  refine A2 (G8 (sz := 3) rfl rfl kR rfl hv hlt) rfl ?_
  refine A2 (A58 rfl kR (hv.mono qS) hl qD hr) rfl ?_
  refine A4 rfl (A5F rfl (aS rfl a0) hc_ (hf i r hr) rfl ?_)
  refine A0 (H5 0 1 5 7 8 16) ?_
  refine C0 rfl ?_ ?_ <;> intro hc
  ·
   refine A1 (mv_ (as_ (A0 (D5 4) (B0 (br (tr (rr (br ?_))))))))
   refine tr ?_
   exact ⟨_, [], [], I4 rfl rfl, List.nil_sublist _, by simp, by rw [A6H hlt hp hc], rfl, rfl⟩
  ·
   refine A7 (nb (nx (D7 0 1 7 8) (A9 ?_)))
   refine A2 (I5 (b := 1) rfl rfl rfl rfl qO) rfl ?_
   refine mv_ (C1 ?_)
   exact rn (i + 1) ⟨hlt, fun j hj => by rcases Nat.lt_succ_iff_lt_or_eq.1 hj with h | h; exact hp j h; rw [h]; exact hc⟩ qO (D7 0 1 7 8) .rfl qI
 ·
  have hge : i = rows.length := by simp at hc; omega
  subst hge
  refine D4 (te (re (be rfl (nx kn (A1 (as_ (A0 (D5 4) ?_)))))))
  refine B0 ?_
  exact ⟨_, [], [], I4 rfl rfl, List.nil_sublist _, by simp, by rw [A6I hp], rfl, rfl⟩
theorem A3Y (b o cap n i j : Nat) (cs xs : List Value) (e : TypeId) (A : Mem) (hn : n ≤ cap) (hcap : cap ≤ maxLen) (hfit : o + cap * 3 ≤ cs.length) (hl : xs.length = n * 3) (hx : ∀ j u, xs[j]? = some u → cs[o + j]? = some u)
    (h1 : ∀ c ∈ xs, c.oneCell' = true) (hij : i < j) (hjn : j ≤ n) :
    FnX Tryz.prog 35 [.slice (some ⟨b, o, none⟩) n cap, .int .i64 i, .int .i64 j] [(b, blk cs e)] A
      fun v M J => J = [] ∧ Sl 3 v (n - (j - i)) (xs.take (i * 3) ++ xs.drop (j * 3)) M := by
  refine FnX.enter (N := 33) Tryz.func35 rfl rfl rfl fun w => ?_
  refine B4 (D8 0 1 2) (A1 (as_ (A0 (D8 0 1 2) (A1 (mv_ (mv_ (mv_ (mv_ ?_))))))))
  refine A2 (A07 (e := 55) rfl kR) rfl ?_
  refine A2 (A2o (e := 55) (sz := 3) rfl kR kR (o1 i rfl rfl) (o1 j rfl rfl) (o1 n rfl rfl) qM (by simp; omega) (by simp; omega) (by simp; omega)) rfl ?_
  refine A0 (D8 0 1 2) (A3 (A1 (mv_ (mv_ ?_))))
  refine A2 (D9 rfl rfl rfl) rfl ?_
  refine A0 (D7 0 1 2 16) ?_
  refine C0 rfl ?_ ?_ <;> intro hc
  ·
    simp at hc; omega
  ·
    refine A7 (nx (D8 0 1 2) (A1 (mv_ ?_)))
    refine A2 (A07 (e := 55) rfl kR) rfl ?_
    refine as_ (A0 (D7 0 1 2 7) ?_)
    refine A1B ([]) [] [(0, 0), (1, 0), (2, 0), (3, 0), (4, 0), (5, 0), (6, 2), (7, 0)] kR kR qM fun hs => ?_
    refine L1 hs rfl qm_ rfl ?_
    refine L1 hs rfl qm_ rfl ?_
    refine L1 hs rfl (B4I (h := i) (e := 55) (sz := 3) rfl rfl kR kR rfl qO) rfl ?_
    refine L1 hs rfl qm_ rfl ?_
    refine L1 hs rfl qm_ rfl ?_
    refine L1 hs rfl (B4J (h := j) (e := 55) (sz := 3) rfl rfl kR kR rfl qO qO) rfl ?_
    refine A1C rfl rfl rfl (A9F (e := 55) (sz := 3) (by_ := 56) (m := n - j) (cs := cs) rfl rfl kR ((Rd.lo ⟨_, cap, rfl, hl, hn, .inr ⟨b, o, cs, e, (0, 0), rfl, m0, hx⟩⟩ j hjn)) (fun c hc => h1 c (List.mem_of_mem_drop hc)) qO hfit rfl UpC.upd rfl ?_)
    refine L1 hs rfl (G6 rfl) rfl ?_
    refine A3i (D3 0 7) ?_
    refine A1 (mv_ (mv_ ?_))
    refine A2 (A07 (e := 55) rfl kR) rfl ?_
    refine mv_ ?_
    refine A2 (B5Y (lo := i + (n - j)) (hi := n) (e := 55) (sz := 3) rfl rfl rfl kR kR rfl rfl qO qO qO) rfl ?_
    refine A4 rfl (B5X (e := 55) (sz := 3) (by_ := 56) (zs := (Builtin.zeroCells #[vS, .int .u32 0, vS] (n - (i + (n - j)))).toList) rfl kR kR (A47 (by simp [Value.oneCell']) qM _) ?h1 rfl UpC.upd ?_)
    case h1 => simp [hl]; omega
    refine A0 (D5 0) (A1 (mv_ (as_ (A0 (D5 6) (B0 ?_)))))
    refine ⟨_, _, [], I4 rfl rfl, List.Sublist.refl _, by simp, rfl, ?_⟩
    show Sl 3 _ (n - (j - i)) _ _
    rw [show n - (j - i) = i + (n - j) from by omega]
    have hd : (xs.drop (j * 3)).length = (n - j) * 3 := by simp [hl]; omega
    refine .inr ⟨b, o, cap, _, e, rfl, rfl, by omega, hcap, ?_, ?_, ?_⟩
    · simp [hl, Builtin.zeroCells]; omega
    · simp [hl]; omega
    · intro q u hq
      have hlt : q < (i + (n - j)) * 3 := by have := (List.getElem?_eq_some_iff.1 hq).1; simp [hl] at this; omega
      rw [A5Y (by simp [hl]; omega) qO]
      by_cases hqi : q < i * 3
      · rw [A5Y qO qO]
        rw [List.getElem?_append_left (by simp [hl]; omega), List.getElem?_take_of_lt hqi] at hq
        exact hx q u hq
      · rw [A8G qO qO qO]
        rw [List.getElem?_append_right (by simp [hl]; omega)] at hq
        rw [← hq]
        congr 1
        simp [hl]; omega
theorem A9g (v : Value) (n : Nat) (xs : List Value) (A : Mem) (h : Rd A 3 v n xs) (h1 : ∀ c ∈ xs, c.oneCell' = true) (hn : n ≤ 1099511627776) : FnX Tryz.prog 60 [v] [] A fun r M J => Sl 3 r n xs M := by
 haveI := h.cel
 refine FnX.enterZ (N := 8) Tryz.func60 rfl rfl rfl fun w_ => ?_
 refine B4 (D5 0) (A1 (as_ (A0 (D5 0) (A3 (A1 (mv_ ?_))))))
 refine A2 (A17 (e := 55) rfl kR (by first | assumption | exact Sl.rd (by assumption) qI | exact By.rd (by assumption))) rfl ?_
 refine A0 (D3 0 4) ?_
 refine C0 rfl ?_ ?_ <;> intro hc
 ·
  have h0 := h.isNil hc
  subst h0
  obtain rfl : xs = [] := List.eq_nil_of_length_eq_zero (by have := h.len; omega)
  refine A1 (as_ (A0 (D5 2) (B0 (tr ?_))))
  exact ⟨_, [], [], I4 rfl rfl, qZ, Sl.nil⟩
 ·
  refine A7 (nx (D5 0) (A1 ?_))
  refine A4 rfl (C4 (e := 55) (sz := 3) (z := []) kR e0 bd0 rfl fun b5 => ?_)
  refine mv_ ?_
  refine A4 rfl (G9 (e := 55) (sz := 3) (by_ := 56) rfl rfl kR rfl (Sl.fresh (n := 0) (cs := []) (e := 55) rfl qD) (Rd.mono h qS) h1 qP (by unfold maxLen; omega) qO rfl fun v7 B7 hs7 => ?_)
  refine as_ (A0 (D5 2) (B0 ?_))
  exact ⟨_, B7, [], I4 rfl rfl, Fit.none (Fit.last qP), by simpa using hs7⟩

structure Skp where
  of : LN
  n : Nat
  key : LN
deriving DecidableEq
def skR (R : Mem) (s : Skp) (r : List Value) : Prop := ∃ vo vk, r = [vo, (vU s.n), vk] ∧ By R vo s.of ∧ By R vk s.key ∧ s.n < 4294967296
theorem skT : RowT 3 skR := ⟨fun R R' x r hR ⟨vo, vk, h1, h2, h3, h4⟩ => ⟨vo, vk, h1, h2.mono hR, h3.mono hR, h4⟩, fun R x r ⟨vo, vk, h1, _⟩ => by rw [h1]; rfl, fun R x r ⟨vo, vk, h1, h2, h3, _⟩ c hc => by
  rw [h1] at hc
  simp only [List.mem_cons, List.not_mem_nil, or_false] at hc
  rcases hc with rfl | rfl | rfl
  · exact h2.one
  · rfl
  · exact h3.one⟩
structure Sto (R : Mem) (sb : Nat) (sks : List Skp) (M : Mem) : Prop where
  ex : ∃ v rows B, M = (sb, blk [v] 80) :: B ∧ Sl 3 v sks.length rows.flatten B ∧ RwL skR R rows sks
theorem Sto.mono {R R' : Mem} {sb : Nat} {sks : List Skp} {M : Mem} (h : Sto R sb sks M) (hR : ∀ x, x ∈ R → x ∈ R') : Sto R' sb sks M := by
  obtain ⟨v, rows, B, h1, h2, h3⟩ := h.ex
  exact ⟨v, rows, B, h1, h2, h3.mono skT hR⟩
def tst (of : LN) (n : Nat) (s : Skp) : Bool := decide (s.n = n) && decide (s.of = of)
def A2S (sks : List Skp) (of : LN) (n : Nat) : List Skp := if A0e (tst of n) sks < 0 then sks else sks.eraseIdx (A0e (tst of n) sks).toNat
def B39 (sks : List Skp) (x : Skp) : List Skp := (A2S sks x.of x.n ++ [x]).drop ((A2S sks x.of x.n ++ [x]).length - 32)
theorem A3Z {sks : List Skp} {of : LN} {n : Nat} (h : A0e (tst of n) sks = -1) : A2S sks of n = sks := if_pos (by rw [h]; decide)
theorem A2f {sks : List Skp} {of : LN} {n i : Nat} (h : A0e (tst of n) sks = (i : Int)) : A2S sks of n = sks.eraseIdx i := by
  unfold A2S; rw [h, if_neg qO, Int.toNat_natCast]
theorem A3b (sks : List Skp) (of : LN) (n : Nat) : (A2S sks of n).length ≤ sks.length := by
  unfold A2S; split
  · exact Nat.le_refl _
  · exact List.length_eraseIdx_le _ _
theorem A8h (sks : List Skp) (x : Skp) : (B39 sks x).length ≤ 32 := by
  unfold B39; rw [List.length_drop]; omega
theorem B4a (vo vk vof : Value) (s : Skp) (of : LN) (n : Nat) (b4 b5 : Nat) (A : Mem) (ho : By A vo s.of) (hk : By A vk s.key) (hof : By A vof of) (hb5 : (b5, blk [(vU n)] 27) ∈ A) (hb4 : (b4, blk [vof] 26) ∈ A) : FnV Tryz.prog 62 [.agg #[vo, (vU s.n), vk], (vP b5), (vP b4)] A (.bool (tst of n s)) := by
 haveI := ho.cel
 haveI := hk.cel
 haveI := hof.cel
 refine FnX.enter (N := 15) Tryz.func62 rfl rfl rfl fun w => ?_
 refine B4 (D8 0 1 2) (A1 ?_)
 refine A4 rfl (bx_ fun b3 => ?_)
 refine as_ (A0 (D8 1 2 3) (A1 ?_))
 refine A2 (qf_ 1 1) rfl ?_
 refine A2 ql_ rfl ?_
 refine A2 (I7 rfl kR (mA hb5) qR) rfl ?_
 refine A2 (D9 rfl rfl rfl) rfl ?_
 refine mv_ ?_
 refine P6 (t := 9) rfl (fun hb => ?_) (fun hb => ?_)
 ·
  have hnn : s.n = n := by simp at hb; omega
  refine D6 rfl rfl (OpQ.opL (qf_ 0 0) rfl ?_)
  refine D6 rfl rfl (OpQ.opL ql_ rfl ?_)
  refine D6 rfl rfl (OpQ.opL (I7 rfl kR (mA hb4) qR) rfl ?_)
  refine A56 rfl rfl (aS rfl (aS rfl a0)) kR (Q9 vo vof s.of of _ (ho.mono qS) (hof.mono qS)) rfl ?_
  refine A2 (E2 rfl rfl) rfl ?_
  refine as_ (A0 (D5 4) (B0 ?_))
  exact ⟨_, [], [], I4 rfl rfl, List.nil_sublist _, by simp, by unfold tst; rw [hnn]; simp, rfl, rfl⟩
 ·
  have hnn : s.n ≠ n := by simp at hb; omega
  refine E7 rfl rfl rfl rfl ?_
  refine E7 rfl rfl rfl rfl ?_
  refine E7 rfl rfl rfl rfl ?_
  refine E7 rfl rfl rfl rfl ?_
  refine A2 (E3 rfl rfl) rfl ?_
  refine as_ (A0 (D5 4) (B0 ?_))
  exact ⟨_, [], [], I4 rfl rfl, List.nil_sublist _, by simp, by unfold tst; simp [hnn], rfl, rfl⟩
theorem B4b {vof : Value} {sks : List Skp} {rows : List (List Value)} {of : LN} {n b4 b5 : Nat} {A : Mem} (hR : RwL skR A rows sks) (hof : By A vof of) (hb5 : (b5, blk [(vU n)] 27) ∈ A) (hb4 : (b4, blk [vof] 26) ∈ A) :
    ∀ (j : Nat) (r : List Value), rows[j]? = some r → FnV Tryz.prog 62 (.agg r.toArray :: [(vP b5), (vP b4)]) A (.bool ((fun j => (sks[j]?.map (tst of n)).getD false) j)) := fun j r hr => by
  obtain ⟨s, hs, vo, vk, rfl, ho, hk, _⟩ := hR.of hr
  dsimp only
  rw [hs]
  exact B4a vo vk vof s of n b4 b5 _ ho hk hof hb5 hb4
theorem A2g (sb : Nat) (v vof : Value) (rows : List (List Value)) (sks : List Skp) (of : LN) (n : Nat) (A : Mem) (hsb : (sb, blk [v] 80) ∈ A) (hv : Rd A 3 v sks.length rows.flatten) (hR : RwL skR A rows sks) (hl : sks.length ≤ 1000000) (hof : By A vof of) : FnV Tryz.prog 34 [(vP sb), vof, (vU n)] A (.int .i64 (A0e (tst of n) sks)) := by
 haveI := hof.cel
 haveI := hv.cel
 refine FnX.enter (N := 15) Tryz.func34 rfl rfl rfl fun w => ?_
 refine B4 (D8 0 1 2) (A1 ?_)
 refine A4 rfl (bx_ fun b4 => ?_)
 refine A4 rfl (bx_ fun b5 => ?_)
 refine as_ (A0 (D8 0 4 5) (A3 (A1 (mv_ ?_))))
 refine A2 (G5 (e := 80) rfl rfl kR) rfl ?_
 refine A0 (D7 0 4 5 8) ?_
 refine C9 rfl ?_
 refine A7 (nx (D8 0 4 5) (A1 (mv_ ?_)))
 refine A2 (E4 rfl) rfl ?_
 refine A2 (qf_ 0 0) rfl ?_
 refine A2 (I7 rfl kR (mA hsb) qR) rfl ?_
 refine A2 (B3Q (aS rfl (aS rfl a0))) rfl ?_
 refine F0 (aS rfl (aS rfl a0)) kR (A9f v rows 62 [(vP b5), (vP b4)] (fun j => (sks[j]?.map (tst of n)).getD false) _ (by rw [hR.len]; exact hv.mono qS) (hR.lens skT) (by rw [hR.len]; omega) kR (B4b (hR.mono skT qS) (hof.mono qS) qM qM)) rfl ?_
 refine as_ (A0 (D5 6) (B0 ?_))
 exact ⟨_, [], [], I4 rfl rfl, List.nil_sublist _, by simp, by rw [hR.len]; rfl, rfl, rfl⟩

end Go.Proofs.YtlilcmjbaknafaaGreatDoor
