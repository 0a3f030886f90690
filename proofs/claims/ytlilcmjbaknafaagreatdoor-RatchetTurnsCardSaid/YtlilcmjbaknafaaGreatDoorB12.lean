/- Part 12 of the texts of this claim, one behind the other. -/
import Derived.Test.YtlilcmjbaknafaaGreatDoorB11
import Derived.SizedLaws
set_option linter.unusedVariables false
set_option linter.unusedSimpArgs false
set_option maxRecDepth 100000
namespace Go.Proofs.YtlilcmjbaknafaaGreatDoor
open Go.Px
def G8 (w : LN) : LN := (fun e : LN => (e.set 0 (e.getD 0 0 &&& 248)).set 31 ((e.set 0 (e.getD 0 0 &&& 248)).getD 31 0 % 128 ||| 64)) (F7 w 32)
theorem B0L (w : LN) : F7 w 32 = w.take 32 ++ (List.replicate 32 0).drop w.length := by unfold F7; rw [List.drop_replicate]
theorem A19 (w : LN) : (G8 w).length = 32 := by simp [G8, K0]
structure Lad where
  a : Nat
  b : Nat
  c : Nat
  d : Nat
def A30 (u : Nat) (s : Lad) : Lad :=
  let p := fA s.a s.b
  let q := fS s.a s.b
  let ss := fM p p
  let tt := fM q q
  let e := fS ss tt
  let da := fM (fS s.c s.d) p
  let cb := fM (fA s.c s.d) q
  ⟨fM ss tt, fM e (fA ss (fM 121665 e)), fM (fA da cb) (fA da cb), fM u (fM (fS da cb) (fS da cb))⟩
def swL (b : Bool) (s : Lad) : Lad := if b then ⟨s.c, s.d, s.a, s.b⟩ else s
def A0e (u n : Nat) : Nat → Lad
  | 0 => ⟨1, 0, u, 1⟩
  | k + 1 => (fun bt => swL bt (A30 u (swL bt (A0e u n k)))) (decide (n / 2 ^ (254 - k) % 2 = 1))
theorem A6j {u n i : Nat} (h : i < 255) : A0e u n (255 - i) = swL (decide (n / 2 ^ i % 2 = 1)) (A30 u (swL (decide (n / 2 ^ i % 2 = 1)) (A0e u n (255 - (i + 1))))) := by
  obtain ⟨k, hk⟩ : ∃ k, 255 - i = k + 1 := ⟨254 - i, by omega⟩
  have e1 : 255 - (i + 1) = k := by omega
  have e2 : i = 254 - k := by omega
  rw [hk, e1, e2]; rfl
noncomputable def x25 (s p : LN) : LN := A0J 8 32 (fM (A0e (rdN p) (bv (G8 s)) 255).a (fI (A0e (rdN p) (bv (G8 s)) 255).b)) 255
def A8L : LN := 9 :: List.replicate 31 0
noncomputable def A0o (s : LN) : LN := x25 s A8L
theorem A2a (s p : LN) : (x25 s p).length = 32 := by simp [x25, P0]
theorem B0M (s p : LN) : ∀ x ∈ x25 s p, x < 256 := B0p _ _
theorem B4C {x : Nat} (h : x < 256) : (x &&& 248) < 256 := Nat.lt_of_le_of_lt Nat.and_le_left h
theorem or64 {x : Nat} (h : x < 128) : (x ||| 64) < 256 := Nat.lt_of_lt_of_le (Nat.or_lt_two_pow (n := 7) h qD) qD
theorem A6k {w : LN} (h : ∀ x ∈ w, x < 256) : ∀ x ∈ G8 w, x < 256 := by
  intro x hx
  have hf := A00 h 32
  unfold G8 at hx
  rcases List.mem_or_eq_of_mem_set hx with h1 | rfl
  · rcases List.mem_or_eq_of_mem_set h1 with h1 | rfl
    · exact hf x h1
    · exact B4C (Go.Px.getD_lt hf qD)
  · exact or64 (Nat.mod_lt _ qD)
theorem B6n (v : Value) (wc : LN) (A : Mem) (hv : By A v wc) : FnV Tryz.prog 85 [v] A (.agg (nums .u8 (G8 wc)).toArray) := by
 haveI := hv.cel
 have hvl := hv.len
 refine FnX.enter (N := 17) Tryz.func85 rfl rfl rfl fun w => ?_
 refine B0 (D7 0) (A1 ?_)
 refine A5 rfl (C4 (cs := [zu8, zu8, zu8, zu8, zu8, zu8, zu8, zu8, zu8, zu8, zu8, zu8, zu8, zu8, zu8, zu8, zu8, zu8, zu8, zu8, zu8, zu8, zu8, zu8, zu8, zu8, zu8, zu8, zu8, zu8, zu8, zu8]) kR rfl fun b2 => ?_)
 refine A0 (D2 0 2) (A1 ?_)
 refine A5 rfl (C4 (cs := [zu8, zu8, zu8, zu8, zu8, zu8, zu8, zu8, zu8, zu8, zu8, zu8, zu8, zu8, zu8, zu8, zu8, zu8, zu8, zu8, zu8, zu8, zu8, zu8, zu8, zu8, zu8, zu8, zu8, zu8, zu8, zu8]) kR rfl fun b3 => ?_)
 refine A0 (D6 0 2 3) ?_
 refine A1C (M' := [(b3, blk (nums .u8 (List.replicate 32 0)) 150), (b2, blk [.int .u8 0, .int .u8 0, .int .u8 0, .int .u8 0, .int .u8 0, .int .u8 0, .int .u8 0, .int .u8 0, .int .u8 0, .int .u8 0, .int .u8 0, .int .u8 0, .int .u8 0, .int .u8 0, .int .u8 0, .int .u8 0, .int .u8 0, .int .u8 0, .int .u8 0, .int .u8 0, .int .u8 0, .int .u8 0, .int .u8 0, .int .u8 0, .int .u8 0, .int .u8 0, .int .u8 0, .int .u8 0, .int .u8 0, .int .u8 0, .int .u8 0, .int .u8 0] 150)]) (Fit.eq rfl) qI ?_
 refine A1 ?_
 refine A2 (B5y (sz := 1) (e := 5) (n := 32) rfl kR kR) rfl ?_
 refine mv_ ?_
 refine A5 rfl (A3e (e := 5) (us := wc) (ws := List.replicate 32 0) (ws' := F7 wc 32) (by_ := 1) rfl rfl kR (hv.rd.mono qS) qM (B0L wc) UpC.upd rfl ?_)
 have hfl := K0 wc 32
 have hflt := A00 hv.lt 32
 have hcl : G8 wc = ((F7 wc 32).set 0 ((F7 wc 32).getD 0 0 &&& 248)).set 31 (((F7 wc 32).set 0 ((F7 wc 32).getD 0 0 &&& 248)).getD 31 0 % 128 ||| 64) := rfl
 generalize F7 wc 32 = e at *
 have he0 : e.getD 0 0 < 256 := Go.Px.getD_lt hflt qD
 have he1 : (e.set 0 (e.getD 0 0 &&& 248)).getD 31 0 < 256 := Go.Px.getD_lt (fun x hx => by rcases List.mem_or_eq_of_mem_set hx with h | rfl; exact hflt x h; exact B4C he0) qD
 refine A0 (D2 2 3) (A1 ?_)
 refine A2 (E8 (e := 5) (n := 32) (sz := 1) (i := 0) rfl rfl kR kR rfl qO) rfl ?_
 refine A2 (H9 0 rfl kR At.mem rfl qO) rfl ?_
 refine A2 (A3U (b := 248) rfl rfl rfl (by show _ < 256; exact he0) qD) rfl ?_
 refine A2 (E8 (e := 5) (n := 32) (sz := 1) (i := 0) rfl rfl kR kR rfl qO) rfl ?_
 refine A5 rfl (I7 0 rfl rfl kR rfl qO UpC.upd ?_)
 refine A0 (D2 2 3) (A1 ?_)
 refine A2 (E8 (e := 5) (n := 32) (sz := 1) (i := 31) rfl rfl kR kR rfl qO) rfl ?_
 refine A2 (H9 31 rfl kR At.mem rfl (by rw [List.length_set]; omega)) rfl ?_
 refine A2 (N4 7 128 rfl rfl rfl rfl rfl (by show _ < 256; exact he1) qD) rfl ?_
 refine A2 (B4b (b := 64) rfl rfl rfl (by show _ < 256; exact Nat.lt_trans (Nat.mod_lt _ qD) qD) qD) rfl ?_
 refine A2 (E8 (e := 5) (n := 32) (sz := 1) (i := 31) rfl rfl kR kR rfl qO) rfl ?_
 refine A5 rfl (I7 31 rfl rfl kR rfl (by rw [List.length_set]; omega) UpC.upd ?_)
 rw [← hcl]
 have hcn := A19 wc
 refine A0 (D2 2 3) (A1 ?_)
 refine A2 (L2 (n := 32) (cs := nums .u8 (G8 wc)) rfl kR At.mem (by rw [nums_len]; omega)) rfl ?_
 refine A5 rfl (A9 (vs := nums .u8 (G8 wc)) rfl rfl rfl (by rw [nums_len, hcn]; kernel_rfl) (by rw [nums_len, hcn]; rfl) E5 UpC.upd ?_)
 refine A0 (D7 2) (B4 ?_)
 exact ⟨_, [], [], A3Q (n := 32) rfl rfl kR At.mem (by rw [nums_len, hcn]), List.nil_sublist _, by simp, rfl, rfl, rfl⟩
def LadR (r : Value) (s : Lad) : Prop := ∃ v0 v1 v2 v3, r = .tuple #[v0, v1, v2, v3] ∧ Fe v0 s.a ∧ Fe v1 s.b ∧ Fe v2 s.c ∧ Fe v3 s.d
theorem A5e {xs : LN} {n : Nat} (h : Fe (.agg (nums .u64 xs).toArray) n) : ∃ a b c d e, xs = [a, b, c, d, e] := by
  obtain ⟨a, b, c, d, e, h1, -⟩ := h
  refine ⟨a, b, c, d, e, ?_⟩
  have h2 := congrArg Array.toList (Value.agg.inj h1)
  exact B0G (k := .u64) (b := [a, b, c, d, e]) h2
theorem B4D (vu va vb vc vd : Value) (xu xa xb xc xd : Nat) (A : Mem) (hU : Fe vu xu) (hA : Fe va xa) (hB : Fe vb xb) (hC : Fe vc xc) (hD : Fe vd xd) : FnX Tryz.prog 88 [vu, va, vb, vc, vd] [] A fun r M J => M = [] ∧ J = [] ∧ LadR r (A30 xu ⟨xa, xb, xc, xd⟩) := by
 have hU0 := hU
 obtain ⟨pu0, pu1, pu2, pu3, pu4, rfl, -⟩ := hU
 have hA0 := hA
 obtain ⟨pa0, pa1, pa2, pa3, pa4, rfl, -⟩ := hA
 have hB0 := hB
 obtain ⟨pb0, pb1, pb2, pb3, pb4, rfl, -⟩ := hB
 have hC0 := hC
 obtain ⟨pc0, pc1, pc2, pc3, pc4, rfl, -⟩ := hC
 have hD0 := hD
 obtain ⟨pd0, pd1, pd2, pd3, pd4, rfl, -⟩ := hD
 refine FnX.enter (N := 68) Tryz.func88 rfl rfl rfl fun w => ?_
 refine B0 (E4 0 1 2 3 4) (A1 ?_)
 refine A5 rfl (bx_ fun b5 => ?_)
 refine A5 rfl (bx_ fun b6 => ?_)
 refine A5 rfl (bx_ fun b7 => ?_)
 refine A5 rfl (bx_ fun b8 => ?_)
 refine A5 rfl (bx_ fun b9 => ?_)
 refine A5 rfl (C4 (cs := [E3, E3, E3, E3, E3]) kR rfl fun b10 => ?_)
 refine A5 rfl (C4 (cs := [E3, E3, E3, E3, E3]) kR rfl fun b11 => ?_)
 refine A5 rfl (C4 (cs := [E3, E3, E3, E3, E3]) kR rfl fun b12 => ?_)
 refine A5 rfl (C4 (cs := [E3, E3, E3, E3, E3]) kR rfl fun b13 => ?_)
 refine A0 (Z7 5 6 7 8 9 10 11 12 13) ?_
 refine C9 (.range 8) [(0, 1), (1, 1), (3, 1), (4, 1), (2, 3), (5, 3), (6, 3), (7, 4), (8, 2), (9, 2)] kR kR fun hs => ?_
 refine G4 hs rfl (qw_ 5) rfl ?_
 refine G4 hs rfl (qw_ 5) rfl ?_
 refine G4 hs rfl (qw_ 5) rfl ?_
 refine G4 hs rfl (qw_ 5) rfl ?_
 refine A0Y [⟨2, 25, fun v B _ => B = [] ∧ Fe v (fA xa xb)⟩, ⟨5, 28, fun v B _ => B = [] ∧ Fe v (fS xa xb)⟩, ⟨6, 14, fun v B _ => ∃ b, v = (vP b) ∧ B = [(b, blk [.int .u64 0, .int .u64 0, .int .u64 0, .int .u64 0, .int .u64 0] 153)]⟩, ⟨7, 15, fun v B _ => ∃ b, v = (vP b) ∧ B = [(b, blk [.int .u64 0, .int .u64 0, .int .u64 0, .int .u64 0, .int .u64 0] 153)]⟩]
  (A8 (fun _ _ _ _ _ h => h) (A8 (fun _ _ _ _ _ h => h) (A8 (fun _ _ _ _ _ h => h) (A8 (fun _ _ _ _ _ h => h) (L6))))) (show List.Nodup [25, 28, 14, 15] by decide) (show List.Nodup [2, 5, 6, 7] by decide) (A8 (C8 rfl) (A8 (C8 rfl) (A8 (C8 rfl) (A8 (C8 rfl) (L6)))))
  (A8 ⟨_, rfl, fun vs bs R w hb ha => ⟨.inl rfl, ?_⟩⟩ (A8 ⟨_, rfl, fun vs bs R w hb ha => ⟨.inl rfl, ?_⟩⟩ (A8 ⟨_, rfl, fun vs bs R w hb ha => ⟨.inl rfl, ?_⟩⟩ (A8 ⟨_, rfl, fun vs bs R w hb ha => ⟨.inl rfl, ?_⟩⟩ (L6))))) ?_
 ·
  refine I2 (aS rfl (aS rfl (a0))) kR (B3d hA0 hB0 _) rfl ?_
  rintro r M1 J1 ⟨rfl, rfl, hh⟩
  exact ⟨_, rfl, rfl, hh⟩
 ·
  refine I2 (aS rfl (aS rfl (a0))) kR (B3c hA0 hB0 _) rfl ?_
  rintro r M1 J1 ⟨rfl, rfl, hh⟩
  exact ⟨_, rfl, rfl, hh⟩
 ·
  exact C4 (cs := [E3, E3, E3, E3, E3]) kR rfl fun b => ⟨_, rfl, b, rfl, rfl⟩
 ·
  exact C4 (cs := [E3, E3, E3, E3, E3]) kR rfl fun b => ⟨_, rfl, b, rfl, rfl⟩
 intro vs bs Jn0 hφ
 have g2 := ofH hφ
 dsimp only at g2
 replace hφ := ofT hφ
 have g5 := ofH hφ
 dsimp only at g5
 replace hφ := ofT hφ
 have g6 := ofH hφ
 dsimp only at g6
 replace hφ := ofT hφ
 have g7 := ofH hφ
 dsimp only at g7
 clear hφ
 dsimp only [A0l, U3, List.map, List.flatten, List.cons_append, List.nil_append]
 generalize bs 2 = B25 at *
 generalize bs 5 = B28 at *
 generalize bs 6 = B14 at *
 generalize bs 7 = B15 at *
 generalize vs 2 = u25 at *
 generalize vs 5 = u28 at *
 generalize vs 6 = u14 at *
 generalize vs 7 = u15 at *
 obtain ⟨rfl, k2⟩ := g2
 have h2 := k2
 obtain ⟨a2, b2, c2, d2, e2, rfl, -⟩ := k2
 obtain ⟨rfl, k5⟩ := g5
 have h5 := k5
 obtain ⟨a5, b5, c5, d5, e5, rfl, -⟩ := k5
 obtain ⟨b6, rfl, rfl⟩ := g6
 obtain ⟨b7, rfl, rfl⟩ := g7
 dsimp only [List.append_eq, List.nil_append, List.cons_append]
 have hp := h2
 have hq := h5
 clear h2 h5
 refine F5 rfl rfl rfl (A9 rfl rfl Cel.cel kR ln5 al5 UpC.upd ?_)
 refine F5 rfl rfl rfl (A9 rfl rfl Cel.cel kR ln5 al5 UpC.upd ?_)
 refine E7 (Z7 5 8 9 10 11 12 13 14 15) ?_
 refine C9 [0, 1, 2, 3, 4, 5] [(0, 1), (2, 1), (1, 3), (3, 3), (4, 3), (5, 4), (6, 2), (7, 2)] kR kR fun hs => ?_
 refine G4 hs rfl (qw_ 5) rfl ?_
 refine G4 hs rfl (qw_ 5) rfl ?_
 refine A0Y [⟨1, 30, fun v B _ => B = [] ∧ Fe v (fM (fA xa xb) (fA xa xb))⟩, ⟨3, 32, fun v B _ => B = [] ∧ Fe v (fM (fS xa xb) (fS xa xb))⟩, ⟨4, 16, fun v B _ => ∃ b, v = (vP b) ∧ B = [(b, blk [.int .u64 0, .int .u64 0, .int .u64 0, .int .u64 0, .int .u64 0] 153)]⟩, ⟨5, 17, fun v B _ => ∃ b, v = (vP b) ∧ B = [(b, blk [.int .u64 0, .int .u64 0, .int .u64 0, .int .u64 0, .int .u64 0] 153)]⟩]
  (A8 (fun _ _ _ _ _ h => h) (A8 (fun _ _ _ _ _ h => h) (A8 (fun _ _ _ _ _ h => h) (A8 (fun _ _ _ _ _ h => h) (L6))))) (show List.Nodup [30, 32, 16, 17] by decide) (show List.Nodup [1, 3, 4, 5] by decide) (A8 (C8 rfl) (A8 (C8 rfl) (A8 (C8 rfl) (A8 (C8 rfl) (L6)))))
  (A8 ⟨_, rfl, fun vs bs R w hb ha => ⟨.inl rfl, ?_⟩⟩ (A8 ⟨_, rfl, fun vs bs R w hb ha => ⟨.inl rfl, ?_⟩⟩ (A8 ⟨_, rfl, fun vs bs R w hb ha => ⟨.inl rfl, ?_⟩⟩ (A8 ⟨_, rfl, fun vs bs R w hb ha => ⟨.inl rfl, ?_⟩⟩ (L6))))) ?_
 ·
  refine I2 (aS rfl (a0)) kR (B9a hp _) rfl ?_
  rintro r M1 J1 ⟨rfl, rfl, hh⟩
  exact ⟨_, rfl, rfl, hh⟩
 ·
  refine I2 (aS rfl (a0)) kR (B9a hq _) rfl ?_
  rintro r M1 J1 ⟨rfl, rfl, hh⟩
  exact ⟨_, rfl, rfl, hh⟩
 ·
  exact C4 (cs := [E3, E3, E3, E3, E3]) kR rfl fun b => ⟨_, rfl, b, rfl, rfl⟩
 ·
  exact C4 (cs := [E3, E3, E3, E3, E3]) kR rfl fun b => ⟨_, rfl, b, rfl, rfl⟩
 intro vs bs Jn0 hφ
 have g1 := ofH hφ
 dsimp only at g1
 replace hφ := ofT hφ
 have g3 := ofH hφ
 dsimp only at g3
 replace hφ := ofT hφ
 have g4 := ofH hφ
 dsimp only at g4
 replace hφ := ofT hφ
 have g5 := ofH hφ
 dsimp only at g5
 clear hφ
 dsimp only [A0l, U3, List.map, List.flatten, List.cons_append, List.nil_append]
 generalize bs 1 = B30 at *
 generalize bs 3 = B32 at *
 generalize bs 4 = B16 at *
 generalize bs 5 = B17 at *
 generalize vs 1 = u30 at *
 generalize vs 3 = u32 at *
 generalize vs 4 = u16 at *
 generalize vs 5 = u17 at *
 obtain ⟨rfl, k1⟩ := g1
 have h1 := k1
 obtain ⟨a1, b1, c1, d1, e1, rfl, -⟩ := k1
 obtain ⟨rfl, k3⟩ := g3
 have h3 := k3
 obtain ⟨a3, b3, c3, d3, e3, rfl, -⟩ := k3
 obtain ⟨b4, rfl, rfl⟩ := g4
 obtain ⟨b5, rfl, rfl⟩ := g5
 dsimp only [List.append_eq, List.nil_append, List.cons_append]
 have hss := h1
 have htt := h3
 clear h1 h3
 refine F5 rfl rfl rfl (A9 rfl rfl Cel.cel kR ln5 al5 UpC.upd ?_)
 refine F5 rfl rfl rfl (A9 rfl rfl Cel.cel kR ln5 al5 UpC.upd ?_)
 refine E7 (kq 5 (kq 8 (Z7 9 10 11 12 13 14 15 16 17))) ?_
 refine A1 ?_
 refine A2 (qw_ 5) rfl ?_
 refine A2 (qw_ 5) rfl ?_
 refine C5 (aS rfl (aS rfl a0)) kR (B3c hss htt _) rfl ?_
 rintro r35 M35 J35 ⟨rfl, rfl, k35⟩
 have h35 := k35
 obtain ⟨a35, b35, c35, d35, e35, rfl, -⟩ := k35
 refine A5 rfl (C4 (cs := [E3, E3, E3, E3, E3]) kR rfl fun b18 => ?_)
 refine A5 rfl (A9 rfl rfl Cel.cel kR ln5 al5 UpC.upd ?_)
 refine A0 (kq 5 (kq 8 (kq 9 (Z7 10 11 12 13 14 15 16 17 18)))) ?_
 refine C9 [0, 1, 2, 3, 4, 5] [(0, 1), (1, 1), (3, 1), (2, 3), (4, 3), (5, 4), (6, 2)] kR kR fun hs => ?_
 refine G4 hs rfl (qw_ 5) rfl ?_
 refine G4 hs rfl (qw_ 5) rfl ?_
 refine G4 hs rfl (qw_ 5) rfl ?_
 refine A0Y [⟨2, 38, fun v B _ => B = [] ∧ Fe v (fS xc xd)⟩, ⟨4, 40, fun v B _ => B = [] ∧ Fe v (fM (fS xc xd) (fA xa xb))⟩, ⟨5, 19, fun v B _ => ∃ b, v = (vP b) ∧ B = [(b, blk [.int .u64 0, .int .u64 0, .int .u64 0, .int .u64 0, .int .u64 0] 153)]⟩]
  (A8 (fun _ _ _ _ _ h => h) (A8 (fun _ _ _ _ _ h => h) (A8 (fun _ _ _ _ _ h => h) (L6)))) (show List.Nodup [38, 40, 19] by decide) (show List.Nodup [2, 4, 5] by decide) (A8 (C8 rfl) (A8 (C8 rfl) (A8 (C8 rfl) (L6))))
  (A8 ⟨_, rfl, fun vs bs R w hb ha => ⟨.inl rfl, ?_⟩⟩ (A8 ⟨_, rfl, fun vs bs R w hb ha => ⟨.inl rfl, ?_⟩⟩ (A8 ⟨_, rfl, fun vs bs R w hb ha => ⟨.inl rfl, ?_⟩⟩ (L6)))) ?_
 ·
  refine I2 (aS rfl (aS rfl (a0))) kR (B3c hC0 hD0 _) rfl ?_
  rintro r M1 J1 ⟨rfl, rfl, hh⟩
  exact ⟨_, rfl, rfl, hh⟩
 ·
  have g2 := ha _ (List.mem_of_getElem? (i := 0) rfl) kR
  replace g2 : (fun v B _ => B = [] ∧ Fe v (fS xc xd)) (vs 2) (bs 2) R := g2
  dsimp only at g2
  obtain ⟨-, k2⟩ := g2
  refine I2 (aS rfl (aS rfl (a0))) kR (A6Y k2 hp _) rfl ?_
  rintro r M1 J1 ⟨rfl, rfl, hh⟩
  exact ⟨_, rfl, rfl, hh⟩
 ·
  exact C4 (cs := [E3, E3, E3, E3, E3]) kR rfl fun b => ⟨_, rfl, b, rfl, rfl⟩
 intro vs bs Jn0 hφ
 have g2 := ofH hφ
 dsimp only at g2
 replace hφ := ofT hφ
 have g4 := ofH hφ
 dsimp only at g4
 replace hφ := ofT hφ
 have g5 := ofH hφ
 dsimp only at g5
 clear hφ
 dsimp only [A0l, U3, List.map, List.flatten, List.cons_append, List.nil_append]
 generalize bs 2 = B38 at *
 generalize bs 4 = B40 at *
 generalize bs 5 = B19 at *
 generalize vs 2 = u38 at *
 generalize vs 4 = u40 at *
 generalize vs 5 = u19 at *
 obtain ⟨rfl, k2⟩ := g2
 have h2 := k2
 obtain ⟨a2, b2, c2, d2, e2, rfl, -⟩ := k2
 obtain ⟨rfl, k4⟩ := g4
 have h4 := k4
 obtain ⟨a4, b4, c4, d4, e4, rfl, -⟩ := k4
 obtain ⟨b5, rfl, rfl⟩ := g5
 dsimp only [List.append_eq, List.nil_append, List.cons_append]
 have hda := h4
 clear h2 h4
 refine F5 rfl rfl rfl (A9 rfl rfl Cel.cel kR ln5 al5 UpC.upd ?_)
 refine E7 (kq 5 (kq 8 (kq 9 (Z7 10 11 12 13 15 16 17 18 19)))) ?_
 refine C9 [0, 1, 2, 3, 4, 5] [(0, 1), (1, 1), (3, 1), (2, 3), (4, 3), (5, 4), (6, 2)] kR kR fun hs => ?_
 refine G4 hs rfl (qw_ 5) rfl ?_
 refine G4 hs rfl (qw_ 5) rfl ?_
 refine G4 hs rfl (qw_ 5) rfl ?_
 refine A0Y [⟨2, 43, fun v B _ => B = [] ∧ Fe v (fA xc xd)⟩, ⟨4, 45, fun v B _ => B = [] ∧ Fe v (fM (fA xc xd) (fS xa xb))⟩, ⟨5, 20, fun v B _ => ∃ b, v = (vP b) ∧ B = [(b, blk [.int .u64 0, .int .u64 0, .int .u64 0, .int .u64 0, .int .u64 0] 153)]⟩]
  (A8 (fun _ _ _ _ _ h => h) (A8 (fun _ _ _ _ _ h => h) (A8 (fun _ _ _ _ _ h => h) (L6)))) (show List.Nodup [43, 45, 20] by decide) (show List.Nodup [2, 4, 5] by decide) (A8 (C8 rfl) (A8 (C8 rfl) (A8 (C8 rfl) (L6))))
  (A8 ⟨_, rfl, fun vs bs R w hb ha => ⟨.inl rfl, ?_⟩⟩ (A8 ⟨_, rfl, fun vs bs R w hb ha => ⟨.inl rfl, ?_⟩⟩ (A8 ⟨_, rfl, fun vs bs R w hb ha => ⟨.inl rfl, ?_⟩⟩ (L6)))) ?_
 ·
  refine I2 (aS rfl (aS rfl (a0))) kR (B3d hC0 hD0 _) rfl ?_
  rintro r M1 J1 ⟨rfl, rfl, hh⟩
  exact ⟨_, rfl, rfl, hh⟩
 ·
  have g2 := ha _ (List.mem_of_getElem? (i := 0) rfl) kR
  replace g2 : (fun v B _ => B = [] ∧ Fe v (fA xc xd)) (vs 2) (bs 2) R := g2
  dsimp only at g2
  obtain ⟨-, k2⟩ := g2
  refine I2 (aS rfl (aS rfl (a0))) kR (A6Y k2 hq _) rfl ?_
  rintro r M1 J1 ⟨rfl, rfl, hh⟩
  exact ⟨_, rfl, rfl, hh⟩
 ·
  exact C4 (cs := [E3, E3, E3, E3, E3]) kR rfl fun b => ⟨_, rfl, b, rfl, rfl⟩
 intro vs bs Jn0 hφ
 have g2 := ofH hφ
 dsimp only at g2
 replace hφ := ofT hφ
 have g4 := ofH hφ
 dsimp only at g4
 replace hφ := ofT hφ
 have g5 := ofH hφ
 dsimp only at g5
 clear hφ
 dsimp only [A0l, U3, List.map, List.flatten, List.cons_append, List.nil_append]
 generalize bs 2 = B43 at *
 generalize bs 4 = B45 at *
 generalize bs 5 = B20 at *
 generalize vs 2 = u43 at *
 generalize vs 4 = u45 at *
 generalize vs 5 = u20 at *
 obtain ⟨rfl, k2⟩ := g2
 have h2 := k2
 obtain ⟨a2, b2, c2, d2, e2, rfl, -⟩ := k2
 obtain ⟨rfl, k4⟩ := g4
 have h4 := k4
 obtain ⟨a4, b4, c4, d4, e4, rfl, -⟩ := k4
 obtain ⟨b5, rfl, rfl⟩ := g5
 dsimp only [List.append_eq, List.nil_append, List.cons_append]
 have hcb := h4
 clear h2 h4
 refine F5 rfl rfl rfl (A9 rfl rfl Cel.cel kR ln5 al5 UpC.upd ?_)
 refine E7 (kq 5 (Z7 10 11 12 13 16 17 18 19 20)) (A1 ?_)
 refine A2 (qw_ 5) rfl ?_
 refine A2 (qw_ 5) rfl ?_
 refine C5 (aS rfl (aS rfl a0)) kR (B3d hda hcb _) rfl ?_
 rintro r48 M48 J48 ⟨rfl, rfl, k48⟩
 have h48 := k48
 obtain ⟨a48, b48, c48, d48, e48, rfl, -⟩ := k48
 refine C5 (aS rfl a0) kR (B9a h48 _) rfl ?_
 rintro r49 M49 J49 ⟨rfl, rfl, k49⟩
 have h49 := k49
 obtain ⟨a49, b49, c49, d49, e49, rfl, -⟩ := k49
 refine A5 rfl (C4 (cs := [E3, E3, E3, E3, E3]) kR rfl fun b21 => ?_)
 refine A5 rfl (A9 rfl rfl Cel.cel kR ln5 al5 UpC.upd ?_)
 refine A0 (kq 5 (kq 10 (Z7 11 12 13 16 17 18 19 20 21))) ?_
 refine C9 (.range 7) (zp 0 [1, 1, 1, 3, 3, 3, 4, 2]) kR kR fun hs => ?_
 refine G4 hs rfl (qw_ 5) rfl ?_
 refine G4 hs rfl (qw_ 5) rfl ?_
 refine G4 hs rfl (qw_ 5) rfl ?_
 refine A0Y [⟨3, 53, fun v B _ => B = [] ∧ Fe v (fS (fM (fS xc xd) (fA xa xb)) (fM (fA xc xd) (fS xa xb)))⟩, ⟨4, 54, fun v B _ => B = [] ∧ Fe v (fM (fS (fM (fS xc xd) (fA xa xb)) (fM (fA xc xd) (fS xa xb))) (fS (fM (fS xc xd) (fA xa xb)) (fM (fA xc xd) (fS xa xb))))⟩, ⟨5, 55, fun v B _ => B = [] ∧ Fe v (fM xu (fM (fS (fM (fS xc xd) (fA xa xb)) (fM (fA xc xd) (fS xa xb))) (fS (fM (fS xc xd) (fA xa xb)) (fM (fA xc xd) (fS xa xb)))))⟩, ⟨6, 22, fun v B _ => ∃ b, v = (vP b) ∧ B = [(b, blk [.int .u64 0, .int .u64 0, .int .u64 0, .int .u64 0, .int .u64 0] 153)]⟩]
  (A8 (fun _ _ _ _ _ h => h) (A8 (fun _ _ _ _ _ h => h) (A8 (fun _ _ _ _ _ h => h) (A8 (fun _ _ _ _ _ h => h) (L6))))) (show List.Nodup [53, 54, 55, 22] by decide) (show List.Nodup [3, 4, 5, 6] by decide) (A8 (C8 rfl) (A8 (C8 rfl) (A8 (C8 rfl) (A8 (C8 rfl) (L6)))))
  (A8 ⟨_, rfl, fun vs bs R w hb ha => ⟨.inl rfl, ?_⟩⟩ (A8 ⟨_, rfl, fun vs bs R w hb ha => ⟨.inl rfl, ?_⟩⟩ (A8 ⟨_, rfl, fun vs bs R w hb ha => ⟨.inl rfl, ?_⟩⟩ (A8 ⟨_, rfl, fun vs bs R w hb ha => ⟨.inl rfl, ?_⟩⟩ (L6))))) ?_
 ·
  refine I2 (aS rfl (aS rfl (a0))) kR (B3c hda hcb _) rfl ?_
  rintro r M1 J1 ⟨rfl, rfl, hh⟩
  exact ⟨_, rfl, rfl, hh⟩
 ·
  have g3 := ha _ (List.mem_of_getElem? (i := 0) rfl) kR
  replace g3 : (fun v B _ => B = [] ∧ Fe v (fS (fM (fS xc xd) (fA xa xb)) (fM (fA xc xd) (fS xa xb)))) (vs 3) (bs 3) R := g3
  dsimp only at g3
  obtain ⟨-, k3⟩ := g3
  refine I2 (aS rfl (a0)) kR (B9a k3 _) rfl ?_
  rintro r M1 J1 ⟨rfl, rfl, hh⟩
  exact ⟨_, rfl, rfl, hh⟩
 ·
  have g4 := ha _ (List.mem_of_getElem? (i := 1) rfl) kR
  replace g4 : (fun v B _ => B = [] ∧ Fe v (fM (fS (fM (fS xc xd) (fA xa xb)) (fM (fA xc xd) (fS xa xb))) (fS (fM (fS xc xd) (fA xa xb)) (fM (fA xc xd) (fS xa xb))))) (vs 4) (bs 4) R := g4
  dsimp only at g4
  obtain ⟨-, k4⟩ := g4
  refine I2 (aS rfl (aS rfl (a0))) kR (A6Y hU0 k4 _) rfl ?_
  rintro r M1 J1 ⟨rfl, rfl, hh⟩
  exact ⟨_, rfl, rfl, hh⟩
 ·
  exact C4 (cs := [E3, E3, E3, E3, E3]) kR rfl fun b => ⟨_, rfl, b, rfl, rfl⟩
 intro vs bs Jn0 hφ
 have g3 := ofH hφ
 dsimp only at g3
 replace hφ := ofT hφ
 have g4 := ofH hφ
 dsimp only at g4
 replace hφ := ofT hφ
 have g5 := ofH hφ
 dsimp only at g5
 replace hφ := ofT hφ
 have g6 := ofH hφ
 dsimp only at g6
 clear hφ
 dsimp only [A0l, U3, List.map, List.flatten, List.cons_append, List.nil_append]
 generalize bs 3 = B53 at *
 generalize bs 4 = B54 at *
 generalize bs 5 = B55 at *
 generalize bs 6 = B22 at *
 generalize vs 3 = u53 at *
 generalize vs 4 = u54 at *
 generalize vs 5 = u55 at *
 generalize vs 6 = u22 at *
 obtain ⟨rfl, k3⟩ := g3
 have h3 := k3
 obtain ⟨a3, b3, c3, d3, e3, rfl, -⟩ := k3
 obtain ⟨rfl, k4⟩ := g4
 have h4 := k4
 obtain ⟨a4, b4, c4, d4, e4, rfl, -⟩ := k4
 obtain ⟨rfl, k5⟩ := g5
 have h5 := k5
 obtain ⟨a5, b5, c5, d5, e5, rfl, -⟩ := k5
 obtain ⟨b6, rfl, rfl⟩ := g6
 dsimp only [List.append_eq, List.nil_append, List.cons_append]
 have hzz := h5
 clear h3 h4 h5
 refine F5 rfl rfl rfl (A9 rfl rfl Cel.cel kR ln5 al5 UpC.upd ?_)
 refine E7 (Z7 10 11 12 13 16 17 18 21 22) ?_
 refine N1 ([(b10, blk [.int .u64 0, .int .u64 0, .int .u64 0, .int .u64 0, .int .u64 0] 153), (b11, blk [.int .u64 0, .int .u64 0, .int .u64 0, .int .u64 0, .int .u64 0] 153), (b12, blk [.int .u64 0, .int .u64 0, .int .u64 0, .int .u64 0, .int .u64 0] 153), (b13, blk [.int .u64 0, .int .u64 0, .int .u64 0, .int .u64 0, .int .u64 0] 153)]) (_) true (.range 15) [(0, 1), (1, 1), (3, 1), (4, 1), (6, 1), (10, 1), (11, 1), (2, 2), (5, 2), (7, 2), (8, 2), (9, 2), (12, 2), (13, 2), (14, 2), (15, 2)] kR kR qP fun hs K n0 hKm hKs hKn => ?_
 refine Z0 hs rfl hKs (qw_ 5) ?_
 refine Z0 hs rfl hKs (qw_ 5) ?_
 refine Z0 hs rfl hKs (qw_ 5) ?_
 refine Z0 hs rfl hKs (qw_ 5) ?_
 refine Z0 hs rfl hKs (qw_ 5) ?_
 refine Z0 hs rfl hKs (qw_ 5) ?_
 refine Z0 hs rfl hKs (qw_ 5) ?_
 refine Q6 [] _ rfl rfl (List.Perm.refl _) (fun _ h => by cases h) fun w0 => (I2 (aS rfl (aS rfl a0)) kR (A6Y hss htt _) rfl ?_)
 rintro r58 M58 J58 ⟨rfl, rfl, k58⟩ _
 have h58 := k58
 obtain ⟨a58, b58, c58, d58, e58, rfl, -⟩ := k58
 dsimp only [List.nil_append, List.append_eq]
 refine Q6 [] _ rfl rfl (List.Perm.refl _) (fun _ h => by cases h) fun w0 => (I2 (aS rfl a0) kR (B3e 121665 qD _) rfl ?_)
 rintro r61 M61 J61 ⟨rfl, rfl, k61⟩ _
 have h61 := k61
 obtain ⟨a61, b61, c61, d61, e61, rfl, -⟩ := k61
 dsimp only [List.nil_append, List.append_eq]
 refine Q6 [] _ rfl rfl (List.Perm.refl _) (fun _ h => by cases h) fun w0 => (I2 (aS rfl (aS rfl a0)) kR (A6Y h61 h35 _) rfl ?_)
 rintro r63 M63 J63 ⟨rfl, rfl, k63⟩ _
 have h63 := k63
 obtain ⟨a63, b63, c63, d63, e63, rfl, -⟩ := k63
 dsimp only [List.nil_append, List.append_eq]
 refine Q6 [] _ rfl rfl (List.Perm.refl _) (fun _ h => by cases h) fun w0 => (I2 (aS rfl (aS rfl a0)) kR (B3d hss h63 _) rfl ?_)
 rintro r64 M64 J64 ⟨rfl, rfl, k64⟩ _
 have h64 := k64
 obtain ⟨a64, b64, c64, d64, e64, rfl, -⟩ := k64
 dsimp only [List.nil_append, List.append_eq]
 refine Q6 [] _ rfl rfl (List.Perm.refl _) (fun _ h => by cases h) fun w0 => (I2 (aS rfl (aS rfl a0)) kR (A6Y h35 h64 _) rfl ?_)
 rintro r65 M65 J65 ⟨rfl, rfl, k65⟩ _
 have h65 := k65
 obtain ⟨a65, b65, c65, d65, e65, rfl, -⟩ := k65
 dsimp only [List.nil_append, List.append_eq]
 refine Q6 _ _ rfl rfl (List.Perm.refl _) hKm fun w0 => (A9 (vs := [.int .u64 (a58 : Int), .int .u64 (b58 : Int), .int .u64 (c58 : Int), .int .u64 (d58 : Int), .int .u64 (e58 : Int)]) rfl rfl rfl kR qR al5 UpC.upd ?_)
 intro hK12
 refine Q6 _ _ rfl rfl (List.Perm.refl _) (hK12 (hKn rfl)) fun w0 => (A9 (vs := [.int .u64 (a65 : Int), .int .u64 (b65 : Int), .int .u64 (c65 : Int), .int .u64 (d65 : Int), .int .u64 (e65 : Int)]) rfl rfl rfl kR qR al5 UpC.upd ?_)
 intro hK13
 refine Q6 _ _ rfl rfl (List.Perm.refl _) (hK13 (hKn rfl)) fun w0 => (A9 (vs := [.int .u64 (a49 : Int), .int .u64 (b49 : Int), .int .u64 (c49 : Int), .int .u64 (d49 : Int), .int .u64 (e49 : Int)]) rfl rfl rfl kR qR al5 UpC.upd ?_)
 intro hK14
 refine U4 rfl rfl rfl (A9 rfl rfl Cel.cel kR ln5 al5 UpC.upd ?_)
 refine T3 (D8 10 11 12 13) (B4 ?_)
 exact ⟨_, [], [], B9M (n := 5) rfl rfl rfl rfl rfl kR At.mem At.mem At.mem At.mem rfl rfl rfl rfl, List.nil_sublist _, by simp, rfl, rfl, _, _, _, _, rfl, h58, h65, h49, hzz⟩
theorem B4E (v vp : Value) (wu wp : LN) (A : Mem) (hv : By A v wu) (hp : By A vp wp) : FnX Tryz.prog 74 [v, vp] [] A fun r M J => M = [] ∧ By J r (x25 wu wp) := by
 haveI := hv.cel
 haveI := hp.cel
 have hvl := hv.len
 have hpl := hp.len
 refine FnX.enter (N := 60) Tryz.func74 rfl rfl rfl fun w => ?_
 refine B0 (D2 0 1) (A1 (as_ (A0 (D2 0 1) (A1 (mv_ ?_)))))
 refine F1 (aS rfl a0) kR (B6n _ wu _ (hv.mono qS)) rfl ?_
 have hcn := A19 wu
 have hc256 := A6k hv.lt
 refine A5 rfl (C4 (cs := [zu8, zu8, zu8, zu8, zu8, zu8, zu8, zu8, zu8, zu8, zu8, zu8, zu8, zu8, zu8, zu8, zu8, zu8, zu8, zu8, zu8, zu8, zu8, zu8, zu8, zu8, zu8, zu8, zu8, zu8, zu8, zu8]) kR rfl fun b5 => ?_)
 refine A5 rfl (A9 (vs := nums .u8 (G8 wu)) rfl rfl rfl (by rw [nums_len, hcn]; kernel_rfl) (by rw [nums_len, hcn]; rfl) E5 UpC.upd ?_)
 refine A0 (D2 1 5) (A1 (mv_ ?_))
 refine C5 (aS rfl a0) kR (A8D vp wp _ (hp.rd.mono qS) hp.lt qO) rfl ?_
 rintro r16 M16 J16 ⟨rfl, rfl, hU⟩
 have hUz := hU
 obtain ⟨ux0, ux1, ux2, ux3, ux4, rfl, -⟩ := hU
 refine A5 rfl (C4 (cs := [E3, E3, E3, E3, E3]) kR rfl fun b6 => ?_)
 refine A5 rfl (A9 (vs := [.int .u64 (ux0 : Int), .int .u64 (ux1 : Int), .int .u64 (ux2 : Int), .int .u64 (ux3 : Int), .int .u64 (ux4 : Int)]) rfl rfl rfl kR qR al5 UpC.upd ?_)
 refine A0 (D2 5 6) ?_
 refine N1 ([]) (_) true (.range 10) [(2, 1), (0, 3), (1, 3), (3, 3), (4, 3), (5, 3), (6, 3), (7, 4), (8, 2), (9, 2), (10, 2), (11, 2)] kR kR qP fun hs K n0 hKm hKs hKn => ?_
 refine Z0 hs rfl hKs (qw_ 5) ?_
 refine A5O [⟨0, 17, fun v B _ => B = [] ∧ Fe v (1)⟩, ⟨1, 18, fun v B _ => B = [] ∧ Fe v (0)⟩, ⟨3, 20, fun v B _ => B = [] ∧ Fe v (1)⟩, ⟨4, 7, fun v B _ => ∃ b, v = (vP b) ∧ B = [(b, blk [.int .u64 0, .int .u64 0, .int .u64 0, .int .u64 0, .int .u64 0] 153)]⟩, ⟨5, 8, fun v B _ => ∃ b, v = (vP b) ∧ B = [(b, blk [.int .u64 0, .int .u64 0, .int .u64 0, .int .u64 0, .int .u64 0] 153)]⟩, ⟨6, 9, fun v B _ => ∃ b, v = (vP b) ∧ B = [(b, blk [.int .u64 0, .int .u64 0, .int .u64 0, .int .u64 0, .int .u64 0] 153)]⟩, ⟨7, 10, fun v B _ => ∃ b, v = (vP b) ∧ B = [(b, blk [.int .u64 0, .int .u64 0, .int .u64 0, .int .u64 0, .int .u64 0] 153)]⟩]
  (A8 (fun _ _ _ _ _ h => h) (A8 (fun _ _ _ _ _ h => h) (A8 (fun _ _ _ _ _ h => h) (A8 (fun _ _ _ _ _ h => h) (A8 (fun _ _ _ _ _ h => h) (A8 (fun _ _ _ _ _ h => h) (A8 (fun _ _ _ _ _ h => h) (L6)))))))) (show List.Nodup [17, 18, 20, 7, 8, 9, 10] by decide) (show List.Nodup [0, 1, 3, 4, 5, 6, 7] by decide) (A8 (C8 rfl) (A8 (C8 rfl) (A8 (C8 rfl) (A8 (C8 rfl) (A8 (C8 rfl) (A8 (C8 rfl) (A8 (C8 rfl) (L6))))))))
  (A8 ⟨_, rfl, fun vs bs R w hb ha => ⟨.inl rfl, ?_⟩⟩ (A8 ⟨_, rfl, fun vs bs R w hb ha => ⟨.inl rfl, ?_⟩⟩ (A8 ⟨_, rfl, fun vs bs R w hb ha => ⟨.inl rfl, ?_⟩⟩ (A8 ⟨_, rfl, fun vs bs R w hb ha => ⟨.inl rfl, ?_⟩⟩ (A8 ⟨_, rfl, fun vs bs R w hb ha => ⟨.inl rfl, ?_⟩⟩ (A8 ⟨_, rfl, fun vs bs R w hb ha => ⟨.inl rfl, ?_⟩⟩ (A8 ⟨_, rfl, fun vs bs R w hb ha => ⟨.inl rfl, ?_⟩⟩ (L6)))))))) ?_
 ·
  refine I2 (aS rfl a0) kR (B3e 1 qD _) rfl ?_
  rintro r M1 J1 ⟨rfl, rfl, hh⟩
  exact ⟨_, rfl, rfl, hh⟩
 ·
  refine I2 (aS rfl a0) kR (B3e 0 qD _) rfl ?_
  rintro r M1 J1 ⟨rfl, rfl, hh⟩
  exact ⟨_, rfl, rfl, hh⟩
 ·
  refine I2 (aS rfl a0) kR (B3e 1 qD _) rfl ?_
  rintro r M1 J1 ⟨rfl, rfl, hh⟩
  exact ⟨_, rfl, rfl, hh⟩
 ·
  exact C4 (cs := [E3, E3, E3, E3, E3]) kR rfl fun b => ⟨_, rfl, b, rfl, rfl⟩
 ·
  exact C4 (cs := [E3, E3, E3, E3, E3]) kR rfl fun b => ⟨_, rfl, b, rfl, rfl⟩
 ·
  exact C4 (cs := [E3, E3, E3, E3, E3]) kR rfl fun b => ⟨_, rfl, b, rfl, rfl⟩
 ·
  exact C4 (cs := [E3, E3, E3, E3, E3]) kR rfl fun b => ⟨_, rfl, b, rfl, rfl⟩
 intro vs bs Jn0 hφ hNN
 have n4 := hNN _ (List.mem_of_getElem? (i := 3) rfl)
 dsimp only at n4
 have n5 := hNN _ (List.mem_of_getElem? (i := 4) rfl)
 dsimp only at n5
 clear hNN
 have g0 := ofH hφ
 dsimp only at g0
 replace hφ := ofT hφ
 have g1 := ofH hφ
 dsimp only at g1
 replace hφ := ofT hφ
 have g3 := ofH hφ
 dsimp only at g3
 replace hφ := ofT hφ
 have g4 := ofH hφ
 dsimp only at g4
 replace hφ := ofT hφ
 have g5 := ofH hφ
 dsimp only at g5
 replace hφ := ofT hφ
 have g6 := ofH hφ
 dsimp only at g6
 replace hφ := ofT hφ
 have g7 := ofH hφ
 dsimp only at g7
 clear hφ
 dsimp only [A0l, U3, List.map, List.flatten, List.cons_append, List.nil_append]
 generalize bs 0 = B17 at *
 generalize bs 1 = B18 at *
 generalize bs 3 = B20 at *
 generalize bs 4 = B7 at *
 generalize bs 5 = B8 at *
 generalize bs 6 = B9 at *
 generalize bs 7 = B10 at *
 generalize vs 0 = u17 at *
 generalize vs 1 = u18 at *
 generalize vs 3 = u20 at *
 generalize vs 4 = u7 at *
 generalize vs 5 = u8 at *
 generalize vs 6 = u9 at *
 generalize vs 7 = u10 at *
 obtain ⟨rfl, k0⟩ := g0
 obtain ⟨rfl, k1⟩ := g1
 obtain ⟨rfl, k3⟩ := g3
 have k0z := k0
 obtain ⟨pw0, pw1, pw2, pw3, pw4, rfl, -⟩ := k0
 have k1z := k1
 obtain ⟨px0, px1, px2, px3, px4, rfl, -⟩ := k1
 have k3z := k3
 obtain ⟨pq0, pq1, pq2, pq3, pq4, rfl, -⟩ := k3
 obtain ⟨b7, rfl, rfl⟩ := g4
 obtain ⟨b8, rfl, rfl⟩ := g5
 obtain ⟨b9, rfl, rfl⟩ := g6
 obtain ⟨b10, rfl, rfl⟩ := g7
 dsimp only [List.append_eq, List.nil_append, List.cons_append]
 refine Q6 [(b7, blk [.int .u64 0, .int .u64 0, .int .u64 0, .int .u64 0, .int .u64 0] 153)] _ rfl rfl qP (fun x hx => by rw [List.mem_singleton.1 hx]; exact hKn rfl _ (n4 _ qK)) fun w0 => (A9 (vs := [.int .u64 (pw0 : Int), .int .u64 (pw1 : Int), .int .u64 (pw2 : Int), .int .u64 (pw3 : Int), .int .u64 (pw4 : Int)]) rfl rfl rfl kR qR al5 UpC.upd ?_)
 intro hK8
 refine Q6 [(b8, blk [.int .u64 0, .int .u64 0, .int .u64 0, .int .u64 0, .int .u64 0] 153)] _ rfl rfl qP (fun x hx => by rw [List.mem_singleton.1 hx]; exact hKn rfl _ (n5 _ qK)) fun w0 => (A9 (vs := [.int .u64 (px0 : Int), .int .u64 (px1 : Int), .int .u64 (px2 : Int), .int .u64 (px3 : Int), .int .u64 (px4 : Int)]) rfl rfl rfl kR qR al5 UpC.upd ?_)
 intro hK9
 refine U4 rfl rfl rfl (A9 (vs := [.int .u64 (ux0 : Int), .int .u64 (ux1 : Int), .int .u64 (ux2 : Int), .int .u64 (ux3 : Int), .int .u64 (ux4 : Int)]) rfl rfl rfl kR qR al5 UpC.upd ?_)
 refine U4 rfl rfl rfl (A9 (vs := [.int .u64 (pq0 : Int), .int .u64 (pq1 : Int), .int .u64 (pq2 : Int), .int .u64 (pq3 : Int), .int .u64 (pq4 : Int)]) rfl rfl rfl kR qR al5 UpC.upd ?_)
 refine T3 (H3 5 6 7 8 9 10) (A3 (A1 (as_ (A0 (N0 5 6 7 8 9 10 11) (A4 ?_)))))
 refine A1C (M' := [(b10, blk [.int .u64 (pq0 : Int), .int .u64 (pq1 : Int), .int .u64 (pq2 : Int), .int .u64 (pq3 : Int), .int .u64 (pq4 : Int)] 153), (b9, blk [.int .u64 (ux0 : Int), .int .u64 (ux1 : Int), .int .u64 (ux2 : Int), .int .u64 (ux3 : Int), .int .u64 (ux4 : Int)] 153), (b8, blk [.int .u64 (px0 : Int), .int .u64 (px1 : Int), .int .u64 (px2 : Int), .int .u64 (px3 : Int), .int .u64 (px4 : Int)] 153), (b7, blk [.int .u64 (pw0 : Int), .int .u64 (pw1 : Int), .int .u64 (pw2 : Int), .int .u64 (pw3 : Int), .int .u64 (pw4 : Int)] 153), (b6, blk [.int .u64 (ux0 : Int), .int .u64 (ux1 : Int), .int .u64 (ux2 : Int), .int .u64 (ux3 : Int), .int .u64 (ux4 : Int)] 153), (b5, blk (nums .u8 (G8 wu)) 150)]) (Fit.pick (B := [_]) qP (Fit.pick (B := [_]) qP (Fit.pick (B := [_]) qP (Fit.pick (B := [_]) qP (Fit.pick (B := [_]) qP (Fit.eq rfl)))))) qI ?_
 refine D3 (α := Nat × LN × LN × LN × LN) (fun y => [(5, (vP b5)), (6, (vP b6)), (7, (vP b7)), (8, (vP b8)), (9, (vP b9)), (10, (vP b10)), (11, .int .i64 ((y.1 : Int) - 1))]) (fun y => [(b10, blk (nums .u64 y.2.2.2.2) 153), (b9, blk (nums .u64 y.2.2.2.1) 153), (b8, blk (nums .u64 y.2.2.1) 153), (b7, blk (nums .u64 y.2.1) 153), (b6, blk (nums .u64 [ux0, ux1, ux2, ux3, ux4]) 153), (b5, blk (nums .u8 (G8 wu)) 150)]) (fun _ => []) (fun y => y.1 ≤ 255 ∧ Fe (.agg (nums .u64 y.2.1).toArray) (A0e (rdN wp) (bv (G8 wu)) (255 - y.1)).a ∧ Fe (.agg (nums .u64 y.2.2.1).toArray) (A0e (rdN wp) (bv (G8 wu)) (255 - y.1)).b ∧ Fe (.agg (nums .u64 y.2.2.2.1).toArray) (A0e (rdN wp) (bv (G8 wu)) (255 - y.1)).c ∧ Fe (.agg (nums .u64 y.2.2.2.2).toArray) (A0e (rdN wp) (bv (G8 wu)) (255 - y.1)).d) (fun y => y.1) (255, [pw0, pw1, pw2, pw3, pw4], [px0, px1, px2, px3, px4], [ux0, ux1, ux2, ux3, ux4], [pq0, pq1, pq2, pq3, pq4]) ⟨Nat.le_refl _, by dsimp only; rw [Nat.sub_self]; exact k0z, by dsimp only; rw [Nat.sub_self]; exact k1z, by dsimp only; rw [Nat.sub_self]; exact hUz, by dsimp only; rw [Nat.sub_self]; exact k3z⟩ (N0 5 6 7 8 9 10 11) (Fit.eq rfl) (fun _ h => by cases h) ?_
 clear k0z k1z k3z
 rintro ⟨j, la, lb, lc, ld⟩ ⟨hj, haz, hbz, hcz, hdz⟩
 dsimp only at hj haz hbz hcz hdz ⊢
 obtain ⟨za0, za1, za2, za3, za4, rfl⟩ := A5e haz
 obtain ⟨zb0, zb1, zb2, zb3, zb4, rfl⟩ := A5e hbz
 obtain ⟨zc0, zc1, zc2, zc3, zc4, rfl⟩ := A5e hcz
 obtain ⟨zd0, zd1, zd2, zd3, zd4, rfl⟩ := A5e hdz
 dsimp only [nums, List.map]
 refine A3 (A1 (mv_ ?_))
 refine A2 (D4 rfl rfl rfl) rfl ?_
 refine A0 (T6 5 6 7 8 9 10 11 22) ?_
 refine C1 rfl ?_ ?_ <;> intro hc
 ·
  have hj0 : 0 < j := by simp at hc; omega
  obtain ⟨i, rfl⟩ : ∃ i, j = i + 1 := ⟨j - 1, by omega⟩
  rw [show (((i + 1 : Nat) : Int) - 1) = (i : Int) by omega]
  have hts := A6j (u := rdN wp) (n := bv (G8 wu)) (show i < 255 by omega)
  have hbit := B0n hc256 i
  have hpb : (G8 wu).getD (i / 8) 0 < 256 := Go.Px.getD_lt hc256 qD
  have hz2 : bv (G8 wu) / 2 ^ i % 2 < 2 := Nat.mod_lt _ qD
  generalize A0e (rdN wp) (bv (G8 wu)) (255 - (i + 1)) = S at *
  generalize bv (G8 wu) / 2 ^ i % 2 = zb at *
  obtain ⟨bt, hbt⟩ : ∃ bt, decide (zb = 1) = bt := ⟨_, rfl⟩
  rw [hbt] at hts
  refine A6 (nx (N0 5 6 7 8 9 10 11) (A3 (A4 (A1 (mv_ ?_)))))
  refine A2 (A25 8 rfl rfl rfl qD (A4H qO)) rfl ?_
  refine A2 (E8 (e := 5) (n := 32) (sz := 1) (i := i / 8) rfl rfl kR kR rfl qO) rfl ?_
  refine A2 (H9 (i / 8) rfl kR At.mem qO qO) rfl ?_
  refine mv_ ?_
  refine A2 (A26 8 rfl rfl rfl qD) rfl ?_
  refine A2 (A9v (a := (G8 wu).getD (i / 8) 0) (b := i % 8) rfl rfl rfl rfl (by show _ ≤ 8; omega)) rfl ?_
  refine A2 (hbit ▸ N4 1 2 rfl rfl rfl rfl rfl (by show _ < 256; exact Nat.lt_of_le_of_lt (Nat.div_le_self _ _) hpb) qD) rfl ?_
  refine A2 (hbt ▸ E9 (decide (zb = 1)) rfl rfl (by rcases (show zb = 0 ∨ zb = 1 by omega) with h | h <;> subst h <;> rfl)) rfl ?_
  refine as_ (A0 (T6 5 6 7 8 9 10 11 12) (A3 ?_))
  cases bt
  ·
   refine A1 (mv_ (A0 (Z7 5 6 7 8 9 10 11 12 34) ?_))
   refine C6 rfl ?_
   refine A6 (nx (T6 5 6 7 8 9 10 11 12) (A1 ?_))
   refine A2 (qw_ 5) rfl ?_
   refine A2 (qw_ 5) rfl ?_
   refine A2 (qw_ 5) rfl ?_
   refine A2 (qw_ 5) rfl ?_
   refine A2 (qw_ 5) rfl ?_
   refine C5 (aS rfl (aS rfl (aS rfl (aS rfl (aS rfl a0))))) kR (B4D _ _ _ _ _ (rdN wp) _ _ _ _ _ hUz haz hbz hcz hdz) rfl ?_
   rintro r45 M45 J45 ⟨rfl, rfl, v0, v1, v2, v3, rfl, k0, k1, k2, k3⟩
   have k0z := k0
   obtain ⟨pw0, pw1, pw2, pw3, pw4, rfl, -⟩ := k0
   have k1z := k1
   obtain ⟨px0, px1, px2, px3, px4, rfl, -⟩ := k1
   have k2z := k2
   obtain ⟨py0, py1, py2, py3, py4, rfl, -⟩ := k2
   have k3z := k3
   obtain ⟨pq0, pq1, pq2, pq3, pq4, rfl, -⟩ := k3
   refine mv_ ?_
   refine A2 (A0T rfl) rfl ?_
   refine A2 (A0L rfl) rfl ?_
   refine A2 (q_x2 rfl) rfl ?_
   refine A2 (q_x3 rfl) rfl ?_
   refine A5 rfl (A9 (vs := [.int .u64 (pw0 : Int), .int .u64 (pw1 : Int), .int .u64 (pw2 : Int), .int .u64 (pw3 : Int), .int .u64 (pw4 : Int)]) rfl rfl rfl kR qR al5 UpC.upd ?_)
   refine A5 rfl (A9 (vs := [.int .u64 (px0 : Int), .int .u64 (px1 : Int), .int .u64 (px2 : Int), .int .u64 (px3 : Int), .int .u64 (px4 : Int)]) rfl rfl rfl kR qR al5 UpC.upd ?_)
   refine A5 rfl (A9 (vs := [.int .u64 (py0 : Int), .int .u64 (py1 : Int), .int .u64 (py2 : Int), .int .u64 (py3 : Int), .int .u64 (py4 : Int)]) rfl rfl rfl kR qR al5 UpC.upd ?_)
   refine A5 rfl (A9 (vs := [.int .u64 (pq0 : Int), .int .u64 (pq1 : Int), .int .u64 (pq2 : Int), .int .u64 (pq3 : Int), .int .u64 (pq4 : Int)]) rfl rfl rfl kR qR al5 UpC.upd ?_)
   refine A0 (T6 5 6 7 8 9 10 11 12) (A1 (mv_ (A0 (T6 5 6 7 8 9 10 11 50) ?_)))
   refine C6 rfl ?_
   refine A6 (nb (nx (N0 5 6 7 8 9 10 11) (A7 (mv_ ?_))))
   refine A2 (C7 ((i : Int) - 1) rfl rfl (A0h rfl qO qO)) rfl ?_
   refine as_ (C0 ?_)
   exact rn (i, [pw0, pw1, pw2, pw3, pw4], [px0, px1, px2, px3, px4], [py0, py1, py2, py3, py4], [pq0, pq1, pq2, pq3, pq4]) ⟨by dsimp only; omega, by dsimp only; rw [hts]; exact k0z, by dsimp only; rw [hts]; exact k1z, by dsimp only; rw [hts]; exact k2z, by dsimp only; rw [hts]; exact k3z⟩ (by dsimp only; omega) (N0 5 6 7 8 9 10 11) (show Fit _ ([(b10, blk [.int .u64 (pq0 : Int), .int .u64 (pq1 : Int), .int .u64 (pq2 : Int), .int .u64 (pq3 : Int), .int .u64 (pq4 : Int)] 153), (b9, blk [.int .u64 (py0 : Int), .int .u64 (py1 : Int), .int .u64 (py2 : Int), .int .u64 (py3 : Int), .int .u64 (py4 : Int)] 153), (b8, blk [.int .u64 (px0 : Int), .int .u64 (px1 : Int), .int .u64 (px2 : Int), .int .u64 (px3 : Int), .int .u64 (px4 : Int)] 153), (b7, blk [.int .u64 (pw0 : Int), .int .u64 (pw1 : Int), .int .u64 (pw2 : Int), .int .u64 (pw3 : Int), .int .u64 (pw4 : Int)] 153), (b6, blk [.int .u64 (ux0 : Int), .int .u64 (ux1 : Int), .int .u64 (ux2 : Int), .int .u64 (ux3 : Int), .int .u64 (ux4 : Int)] 153), (b5, blk (nums .u8 (G8 wu)) 150)]) from (Fit.pick (B := [_]) qP (Fit.pick (B := [_]) qP (Fit.pick (B := [_]) qP (Fit.pick (B := [_]) qP (Fit.pick (B := [_]) qP (Fit.eq rfl))))))) (fun _ h => by cases h)
  ·
   refine A1 (mv_ (A0 (Z7 5 6 7 8 9 10 11 12 34) ?_))
   refine D5 rfl ?_
   refine A1L ([(b7, blk [.int .u64 (za0 : Int), .int .u64 (za1 : Int), .int .u64 (za2 : Int), .int .u64 (za3 : Int), .int .u64 (za4 : Int)] 153)]) (_) true [0, 1, 2, 3, 4] [(0, 1), (1, 1), (3, 1), (2, 2), (4, 2), (5, 2), (6, 2), (7, 2)] kR kR qP fun hs K n0 hKm hKs hKn => ?_
   refine Z0 hs rfl hKs (qw_ 5) ?_
   refine Z0 hs rfl hKs (qw_ 5) ?_
   refine Z0 hs rfl hKs (qw_ 5) ?_
   refine Q6 _ _ rfl rfl (List.Perm.refl _) hKm fun w0 => (OpQ.opL (L2 (n := 5) rfl kR At.mem qR) rfl ?_)
   intro hK2
   refine Q6 _ _ rfl rfl (List.Perm.refl _) (hK2 (hKn rfl)) fun w0 => (A9 (vs := [.int .u64 (zc0 : Int), .int .u64 (zc1 : Int), .int .u64 (zc2 : Int), .int .u64 (zc3 : Int), .int .u64 (zc4 : Int)]) rfl rfl rfl kR qR al5 UpC.upd ?_)
   intro hK4
   refine U4 rfl rfl rfl (A9 (vs := [.int .u64 (zd0 : Int), .int .u64 (zd1 : Int), .int .u64 (zd2 : Int), .int .u64 (zd3 : Int), .int .u64 (zd4 : Int)]) rfl rfl rfl kR qR al5 UpC.upd ?_)
   refine U4 rfl rfl rfl (A9 (vs := [.int .u64 (za0 : Int), .int .u64 (za1 : Int), .int .u64 (za2 : Int), .int .u64 (za3 : Int), .int .u64 (za4 : Int)]) rfl rfl rfl kR qR al5 UpC.upd ?_)
   refine U4 rfl rfl rfl (A9 (vs := [.int .u64 (zb0 : Int), .int .u64 (zb1 : Int), .int .u64 (zb2 : Int), .int .u64 (zb3 : Int), .int .u64 (zb4 : Int)]) rfl rfl rfl kR qR al5 UpC.upd ?_)
   refine T3 (T6 5 6 7 8 9 10 11 12) (A1 ?_)
   refine A2 (qw_ 5) rfl ?_
   refine A2 (qw_ 5) rfl ?_
   refine A2 (qw_ 5) rfl ?_
   refine A2 (qw_ 5) rfl ?_
   refine A2 (qw_ 5) rfl ?_
   refine C5 (aS rfl (aS rfl (aS rfl (aS rfl (aS rfl a0))))) kR (B4D _ _ _ _ _ (rdN wp) _ _ _ _ _ hUz hcz hdz haz hbz) rfl ?_
   rintro r45 M45 J45 ⟨rfl, rfl, v0, v1, v2, v3, rfl, k0, k1, k2, k3⟩
   have k0z := k0
   obtain ⟨pw0, pw1, pw2, pw3, pw4, rfl, -⟩ := k0
   have k1z := k1
   obtain ⟨px0, px1, px2, px3, px4, rfl, -⟩ := k1
   have k2z := k2
   obtain ⟨py0, py1, py2, py3, py4, rfl, -⟩ := k2
   have k3z := k3
   obtain ⟨pq0, pq1, pq2, pq3, pq4, rfl, -⟩ := k3
   refine mv_ ?_
   refine A2 (A0T rfl) rfl ?_
   refine A2 (A0L rfl) rfl ?_
   refine A2 (q_x2 rfl) rfl ?_
   refine A2 (q_x3 rfl) rfl ?_
   refine A5 rfl (A9 (vs := [.int .u64 (pw0 : Int), .int .u64 (pw1 : Int), .int .u64 (pw2 : Int), .int .u64 (pw3 : Int), .int .u64 (pw4 : Int)]) rfl rfl rfl kR qR al5 UpC.upd ?_)
   refine A5 rfl (A9 (vs := [.int .u64 (px0 : Int), .int .u64 (px1 : Int), .int .u64 (px2 : Int), .int .u64 (px3 : Int), .int .u64 (px4 : Int)]) rfl rfl rfl kR qR al5 UpC.upd ?_)
   refine A5 rfl (A9 (vs := [.int .u64 (py0 : Int), .int .u64 (py1 : Int), .int .u64 (py2 : Int), .int .u64 (py3 : Int), .int .u64 (py4 : Int)]) rfl rfl rfl kR qR al5 UpC.upd ?_)
   refine A5 rfl (A9 (vs := [.int .u64 (pq0 : Int), .int .u64 (pq1 : Int), .int .u64 (pq2 : Int), .int .u64 (pq3 : Int), .int .u64 (pq4 : Int)]) rfl rfl rfl kR qR al5 UpC.upd ?_)
   refine A0 (T6 5 6 7 8 9 10 11 12) (A1 (mv_ (A0 (T6 5 6 7 8 9 10 11 50) ?_)))
   refine D5 rfl ?_
   refine A1L ([(b7, blk [.int .u64 (pw0 : Int), .int .u64 (pw1 : Int), .int .u64 (pw2 : Int), .int .u64 (pw3 : Int), .int .u64 (pw4 : Int)] 153)]) (_) true [0, 1, 2, 3, 4] [(0, 1), (1, 1), (3, 1), (2, 2), (4, 2), (5, 2), (6, 2), (7, 2)] kR kR qP fun hs K n0 hKm hKs hKn => ?_
   refine Z0 hs rfl hKs (qw_ 5) ?_
   refine Z0 hs rfl hKs (qw_ 5) ?_
   refine Z0 hs rfl hKs (qw_ 5) ?_
   refine Q6 _ _ rfl rfl (List.Perm.refl _) hKm fun w0 => (OpQ.opL (L2 (n := 5) rfl kR At.mem qR) rfl ?_)
   intro hK2
   refine Q6 _ _ rfl rfl (List.Perm.refl _) (hK2 (hKn rfl)) fun w0 => (A9 (vs := [.int .u64 (py0 : Int), .int .u64 (py1 : Int), .int .u64 (py2 : Int), .int .u64 (py3 : Int), .int .u64 (py4 : Int)]) rfl rfl rfl kR qR al5 UpC.upd ?_)
   intro hK4
   refine U4 rfl rfl rfl (A9 (vs := [.int .u64 (pq0 : Int), .int .u64 (pq1 : Int), .int .u64 (pq2 : Int), .int .u64 (pq3 : Int), .int .u64 (pq4 : Int)]) rfl rfl rfl kR qR al5 UpC.upd ?_)
   refine U4 rfl rfl rfl (A9 (vs := [.int .u64 (pw0 : Int), .int .u64 (pw1 : Int), .int .u64 (pw2 : Int), .int .u64 (pw3 : Int), .int .u64 (pw4 : Int)]) rfl rfl rfl kR qR al5 UpC.upd ?_)
   refine U4 rfl rfl rfl (A9 (vs := [.int .u64 (px0 : Int), .int .u64 (px1 : Int), .int .u64 (px2 : Int), .int .u64 (px3 : Int), .int .u64 (px4 : Int)]) rfl rfl rfl kR qR al5 UpC.upd ?_)
   refine A7m (nb (nx (N0 5 6 7 8 9 10 11) (A7 (mv_ ?_))))
   refine A2 (C7 ((i : Int) - 1) rfl rfl (A0h rfl qO qO)) rfl ?_
   refine as_ (C0 ?_)
   exact rn (i, [py0, py1, py2, py3, py4], [pq0, pq1, pq2, pq3, pq4], [pw0, pw1, pw2, pw3, pw4], [px0, px1, px2, px3, px4]) ⟨by dsimp only; omega, by dsimp only; rw [hts]; exact k2z, by dsimp only; rw [hts]; exact k3z, by dsimp only; rw [hts]; exact k0z, by dsimp only; rw [hts]; exact k1z⟩ (by dsimp only; omega) (N0 5 6 7 8 9 10 11) (show Fit _ ([(b10, blk [.int .u64 (px0 : Int), .int .u64 (px1 : Int), .int .u64 (px2 : Int), .int .u64 (px3 : Int), .int .u64 (px4 : Int)] 153), (b9, blk [.int .u64 (pw0 : Int), .int .u64 (pw1 : Int), .int .u64 (pw2 : Int), .int .u64 (pw3 : Int), .int .u64 (pw4 : Int)] 153), (b8, blk [.int .u64 (pq0 : Int), .int .u64 (pq1 : Int), .int .u64 (pq2 : Int), .int .u64 (pq3 : Int), .int .u64 (pq4 : Int)] 153), (b7, blk [.int .u64 (py0 : Int), .int .u64 (py1 : Int), .int .u64 (py2 : Int), .int .u64 (py3 : Int), .int .u64 (py4 : Int)] 153), (b6, blk [.int .u64 (ux0 : Int), .int .u64 (ux1 : Int), .int .u64 (ux2 : Int), .int .u64 (ux3 : Int), .int .u64 (ux4 : Int)] 153), (b5, blk (nums .u8 (G8 wu)) 150)]) from (Fit.pick (B := [_]) qP (Fit.pick (B := [_]) qP (Fit.pick (B := [_]) qP (Fit.pick (B := [_]) qP (Fit.pick (B := [_]) qP (Fit.eq rfl))))))) (fun _ h => by cases h)
 ·
  have hj0 : j = 0 := by simp at hc; omega
  subst hj0
  refine D0 (te (re (be rfl (nx (D2 7 8) ?_))))
  refine C9 [0, 1, 2, 3, 4, 5] (zp 0 [1, 1, 2, 2, 2, 0]) kR kR fun hs => ?_
  refine G4 hs rfl (qw_ 5) rfl ?_
  refine G4 hs rfl (qw_ 5) rfl ?_
  refine L8 rfl (aS rfl a0) kR (B9K hbz _) rfl ?_
  rintro r57 M57 J57 ⟨rfl, rfl, k57⟩
  have h57 := k57
  obtain ⟨a57, b57, c57, d57, e57, rfl, -⟩ := k57
  refine L8 rfl (aS rfl (aS rfl a0)) kR (A6Y haz h57 _) rfl ?_
  rintro r58 M58 J58 ⟨rfl, rfl, k58⟩
  have h58 := k58
  obtain ⟨a58, b58, c58, d58, e58, rfl, -⟩ := k58
  refine L8 rfl (aS rfl a0) kR ((A6V _ _ h58 _).frz0) rfl ?_
  rintro r59 M59 J59 ⟨rfl, hs59⟩
  haveI := hs59.cel
  refine fa_ hs ?_
  refine E7 (D7 4) (B4 ?_)
  exact ⟨_, [], J59, K9 rfl rfl, List.nil_sublist _, fun x hx => by simp [hx], rfl, B9X hs59 (A2a _ _).symm (B0M _ _) (by rw [A2a]; decide) fun _ h => h⟩
theorem B8q (v : Value) (wu : LN) (A : Mem) (hv : By A v wu) : FnX Tryz.prog 53 [v] [] A fun r M J => M = [] ∧ By J r (A0o wu) := by
 haveI := hv.cel
 refine FnX.enterZ (N := 10) Tryz.func53 rfl rfl rfl fun w_ => ?_
 refine B0 (D7 0) (A1 (as_ (A0 (D7 0) (A1 ?_))))
 refine A5 rfl (A0r (by_ := 1) (k := .u8) (e := 5) 32 rfl rfl kR rfl rfl qO qO rfl fun b4 => ?_)
 refine as_ (A0 (D2 0 3) (A1 (mv_ ?_)))
 refine A2 (K4 (e := 5) (sz := 1) (i := 0) rfl rfl kR kR qO qO) rfl ?_
 refine A5 rfl (I7 0 (ws := List.replicate 32 0) rfl rfl kR rfl qM UpC.upd ?_)
 refine A0 (D2 0 3) (A1 (mv_ (mv_ ?_)))
 refine C5 (aS rfl (aS rfl a0)) kR (B4E v _ wu A8L _ (hv.mono qS) ⟨Rd.whole (n := 32) (cs := nums .u8 A8L) At.mem qR, by decide, by decide⟩) rfl ?_
 rintro r9 M9 J9 ⟨rfl, h9⟩
 haveI := h9.cel
 refine as_ (A0 (D7 2) (B4 ?_))
 exact ⟨_, [], [], K9 rfl rfl, qZ, rfl, h9.mono qS⟩

end Go.Proofs.YtlilcmjbaknafaaGreatDoor
namespace Go.Px
open Go.ChangeShapes Go.WideShapes Go.ChangeAt Go.RowKit
structure Byi (R : Mem) (v : Value) (w : List Nat) : Prop where
  rd : Rd R 1 v w.length (nums .u8 w)
  lt : ∀ x ∈ w, x < 256
  len : w.length ≤ maxLen
theorem Byi.mono {R R' : Mem} {v : Value} {w : List Nat} (h : Byi R v w) (hR : ∀ x, x ∈ R → x ∈ R') : Byi R' v w := ⟨h.rd.mono hR, h.lt, h.len⟩
theorem By.i {R : Mem} {v : Value} {w : List Nat} (h : By R v w) : Byi R v w := ⟨h.rd, h.lt, h.max⟩
theorem Byi.cel {R : Mem} {v : Value} {w : List Nat} (h : Byi R v w) : Cel v [v] := h.rd.cel
structure Byz (R : Mem) (v : Value) (w : List Nat) : Prop extends Byi R v w where
  sz : w.length ≤ reachBytes
theorem Byz.mono {R R' : Mem} {v : Value} {w : List Nat} (h : Byz R v w) (hR : ∀ x, x ∈ R → x ∈ R') : Byz R' v w := ⟨h.toByi.mono hR, h.sz⟩
section
variable {H : Type} {enc : TypeId × Value → H} {P : Program} {w : World} {spare : Nat → Bool} {held : Bool} {fuel : Nat} {t e : TypeId} {cs : List Value} {x : DataW H × List MemPlace}
end
end Go.Px

namespace Go.Proofs.YtlilcmjbaknafaaGreatDoor
open Go.Px
theorem Glb.s {A : Mem} (h : Glb A) : GlS A := ⟨h.first, h.round⟩
def K1 (s : Ps) (w : LN) : Ps := if s.real then s else B2M s w
noncomputable def H5 (s : Ps) (w : LN) : LN := if s.real then A0o (F7 w 32) else B5T s w
noncomputable def skK2 (s : Ps) (w : LN) : LN := if s.real then B9W (F7 w 32) else B5T s w
def W9 (s : Ps) (w u : LN) : Ps := if s.real then s else B5U s w u
noncomputable def A0p (s : Ps) (w u : LN) : LN := if s.real then x25 (F7 w 32) (F7 u 32) else B7i s w u
def sgS2 (s : Ps) (w m : LN) : Ps := if s.real then s else B4u s w fun x => B87 x m
noncomputable def sgK2 (s : Ps) (w m : LN) : LN := if s.real then sigB (F7 w 32) m else F7 (B4v s w fun x => B87 x m) 64
theorem B3t (pb : Nat) (s : Ps) (hr : s.real = true) (v : Value) (w : LN) (MP A : Mem) (hP : Prm pb s MP) (hv : By A v w) : FnX Tryz.prog 27 [(vP pb), v] MP A fun q M J => Prm pb s M ∧ By J q (A0o (F7 w 32)) := by
 obtain ⟨sv, bt, bm, B, MT, rfl, hby, hT⟩ := hP.ex
 haveI := hv.cel
 haveI := hby.cel
 have hvl := hv.len
 refine FnX.enterZ (N := 26) Tryz.func27 rfl rfl rfl fun w_ => ?_
 refine B0 (D2 0 1) (A1 (as_ (A0 (D2 0 1) (A3 (A1 (mv_ ?_))))))
 refine A2 (H7 (e := 105) rfl rfl kR) rfl ?_
 refine A0 (D6 0 1 6) ?_
 refine C6 rfl ?_
 refine A6 (nx (D2 0 1) (A3 (A1 (mv_ ?_))))
 refine A2 (E6 rfl) rfl ?_
 refine A2 (qf_ 0 0) rfl ?_
 refine A2 ql_ rfl ?_
 refine A2 (E9 true rfl rfl (eqT (by rw [hr]; rfl))) rfl ?_
 refine A0 (D6 0 1 11) ?_
 refine D5 rfl ?_
 refine A1 (mv_ ?_)
 refine C5 (aS rfl (aS rfl a0)) kR (A0x v w 32 _ (hv.mono qS) qD) rfl ?_
 rintro r13 M13 J13 ⟨rfl, h13⟩
 haveI := h13.cel
 refine C5 (aS rfl a0) kR (B8q _ _ _ (h13.mono qS)) rfl ?_
 rintro r14 M14 J14 ⟨rfl, h14⟩
 haveI := h14.cel
 refine as_ (A0 (D7 4) (B4 (tr ?_)))
 exact ⟨_, (pb, blk [.int .u8 (md s.real), sv, .int .i64 (((s.n : Nat) : Int)), (vP bt)] 105) :: (B ++ MT), [], K9 rfl rfl, (Fit.none (Fit.pick (B := [_]) qP (Fit.pick qP (Fit.last qP)))), ⟨sv, bt, bm, B, MT, rfl, hby, hT⟩, h14.mono qS⟩
theorem B6o (pb : Nat) (s : Ps) (hr : s.real = true) (v v2 : Value) (w u : LN) (MP A : Mem) (hP : Prm pb s MP) (hv : By A v w) (hu : By A v2 u) : FnX Tryz.prog 73 [(vP pb), v, v2] MP A fun q M J => Prm pb s M ∧ By J q (x25 (F7 w 32) (F7 u 32)) := by
 obtain ⟨sv, bt, bm, B, MT, rfl, hby, hT⟩ := hP.ex
 haveI := hv.cel
 haveI := hby.cel
 have hvl := hv.len
 haveI := hu.cel
 refine FnX.enterZ (N := 31) Tryz.func73 rfl rfl rfl fun w_ => ?_
 refine B0 (D6 0 1 2) (A1 (as_ (A0 (D6 0 1 2) (A3 (A1 (mv_ ?_))))))
 refine A2 (H7 (e := 105) rfl rfl kR) rfl ?_
 refine A0 (D8 0 1 2 8) ?_
 refine C6 rfl ?_
 refine A6 (nx (D6 0 1 2) (A3 (A1 (mv_ ?_))))
 refine A2 (E6 rfl) rfl ?_
 refine A2 (qf_ 0 0) rfl ?_
 refine A2 ql_ rfl ?_
 refine A2 (E9 true rfl rfl (eqT (by rw [hr]; rfl))) rfl ?_
 refine A0 (D8 0 1 2 13) ?_
 refine D5 rfl ?_
 refine A1 (mv_ ?_)
 refine C5 (aS rfl (aS rfl a0)) kR (A0x v w 32 _ (hv.mono qS) qD) rfl ?_
 rintro r15 M15 J15 ⟨rfl, h15⟩
 haveI := h15.cel
 refine mv_ ?_
 refine C5 (aS rfl (aS rfl a0)) kR (A0x v2 u 32 _ (hu.mono qS) qD) rfl ?_
 rintro r17 M17 J17 ⟨rfl, h17⟩
 haveI := h17.cel
 refine C5 (aS rfl (aS rfl a0)) kR (B4E _ _ _ _ _ (h15.mono qS) (h17.mono qS)) rfl ?_
 rintro r18 M18 J18 ⟨rfl, h18⟩
 haveI := h18.cel
 refine as_ (A0 (D7 6) (B4 (tr ?_)))
 exact ⟨_, (pb, blk [.int .u8 (md s.real), sv, .int .i64 (((s.n : Nat) : Int)), (vP bt)] 105) :: (B ++ MT), [], K9 rfl rfl, (Fit.none (Fit.pick (B := [_]) qP (Fit.pick qP (Fit.last qP)))), ⟨sv, bt, bm, B, MT, rfl, hby, hT⟩, h18.mono qS⟩
theorem A7Q (pb : Nat) (s : Ps) (v : Value) (w : LN) (MP A : Mem) (hP : Prm pb s MP) (hn : s.ts.length < 1048576) (hv : By A v w) (hG : Glb A) : FnX Tryz.prog 27 [(vP pb), v] MP A fun q M J => Prm pb (K1 s w) M ∧ By J q (H5 s w) := by
  cases hr : s.real with
  | true => unfold K1 H5; rw [hr]; exact B3t pb s hr v w MP A hP hv
  | false => unfold K1 H5; rw [hr]; exact B2N pb s hr v w MP A hP hn hv hG
theorem B6p (pb : Nat) (s : Ps) (v v2 : Value) (w u : LN) (MP A : Mem) (hP : Prm pb s MP) (hn : s.ts.length + 1 < 1048576) (hv : By A v w) (hu : By A v2 u) (hG : Glb A) : FnX Tryz.prog 73 [(vP pb), v, v2] MP A fun q M J => Prm pb (W9 s w u) M ∧ By J q (A0p s w u) := by
  cases hr : s.real with
  | true => unfold W9 A0p; rw [hr]; exact B6o pb s hr v v2 w u MP A hP hv hu
  | false => unfold W9 A0p; rw [hr]; exact B2O pb s hr v v2 w u MP A hP hn hv hu hG

structure Ext (s s' : Ps) : Prop where
  p : Pext s s'
  seed : s'.seed = s.seed
  n : s.n ≤ s'.n
theorem Ext.refl (s : Ps) : Ext s s := ⟨Pext.refl s, rfl, Nat.le_refl _⟩
theorem Ext.trans {a b c : Ps} (h : Ext a b) (h' : Ext b c) : Ext a c := ⟨h.p.trans h'.p, h'.seed.trans h.seed, Nat.le_trans h.n h'.n⟩
theorem A5f (ts : List Tm) (t : Tm) : ∃ l, add ts t = ts ++ l := by
  unfold add
  split
  · exact ⟨[], by simp⟩
  · exact ⟨_, rfl⟩
theorem A1x (ts : List Tm) (w : LN) : ∃ l, rdT ts w = ts ++ l := by
  cases hp : plc w ts.length with
  | some j => exact ⟨[], by rw [(V7 hp).1]; simp⟩
  | none => rw [(X5 hp).1]; exact A5f _ _
theorem A7R (ts : List Tm) (w : LN) (t : Tm) : ∃ l, add (rdT ts w) t = ts ++ l := by
  obtain ⟨l1, e1⟩ := A1x ts w
  obtain ⟨l2, e2⟩ := A5f (rdT ts w) t
  exact ⟨l1 ++ l2, by rw [e2, e1, List.append_assoc]⟩
theorem A2M (s : Ps) : Ext s (E2 s) := ⟨A57 s, by unfold E2; split <;> rfl, by unfold E2; split <;> exact Nat.le_succ _⟩
theorem B4F (s : Ps) (w : LN) : Ext s (K1 s w) := by
  unfold K1
  split
  · exact Ext.refl s
  · exact ⟨⟨rfl, A7R _ _ _⟩, rfl, Nat.le_refl _⟩
theorem B9Y {s : Ps} {i : Nat} (hi : i < s.ts.length) (hl : s.ts.length ≤ 1048576) : B2M s (bts ((i : Nat) : Int)) = { s with ts := add s.ts (B0b ((i : Nat) : Int)) } ∧ B5T s (bts ((i : Nat) : Int)) = bts ((at_ s.ts (B0b ((i : Nat) : Int)) : Nat) : Int) := by
  obtain ⟨h1, h2⟩ := A3j hi hl
  unfold B2M B5T
  rw [h1, h2]
  exact ⟨rfl, rfl⟩
theorem B9Z {s : Ps} {i : Nat} (hi : i < s.ts.length) (hl : s.ts.length ≤ 1048576) (f : Int → Tm) : B4u s (bts ((i : Nat) : Int)) f = { s with ts := add s.ts (f ((i : Nat) : Int)) } ∧ B4v s (bts ((i : Nat) : Int)) f = bts ((at_ s.ts (f ((i : Nat) : Int)) : Nat) : Int) := by
  obtain ⟨h1, h2⟩ := A3j hi hl
  unfold B4u B4v
  rw [h1, h2]
  exact ⟨rfl, rfl⟩
theorem A5g {i : Nat} (h : i ≤ 1048576) : i64 ((i : Nat) : Int) := by unfold i64; omega
def B7k (s : Ps) (w p : LN) : Prop := ∃ i j : Nat, i < s.ts.length ∧ w = bts ((i : Nat) : Int) ∧ s.ts[j]? = some (B0b ((i : Nat) : Int)) ∧ p = bts ((j : Nat) : Int)
def U6 (s : Ps) (w p : LN) : Prop := if s.real then p = A0o (F7 w 32) else B7k s w p
def B8r (s : Ps) (w p : LN) : Prop := if s.real then p = B9W (F7 w 32) else B7k s w p
def B0N (s : Ps) (w m g : LN) : Prop := if s.real then g = sigB (F7 w 32) m else ∃ i j : Nat, i < s.ts.length ∧ w = bts ((i : Nat) : Int) ∧ s.ts[j]? = some (B87 ((i : Nat) : Int) m) ∧ g = F7 (bts ((j : Nat) : Int)) 64
theorem B7k.ext {s s' : Ps} {w p : LN} (h : B7k s w p) (he : Pext s s') : B7k s' w p := by
  obtain ⟨l, e⟩ := he.ts
  obtain ⟨i, j, h1, h2, h3, h4⟩ := h
  exact ⟨i, j, by rw [e, List.length_append]; omega, h2, by rw [e]; exact A3i h3, h4⟩
theorem U6.ext {s s' : Ps} {w p : LN} (h : U6 s w p) (he : Pext s s') : U6 s' w p := by
  unfold U6 at *
  rw [he.real]
  split
  · rename_i hr; rwa [if_pos hr] at h
  · rename_i hr; rw [if_neg hr] at h; exact h.ext he
theorem B8r.ext {s s' : Ps} {w p : LN} (h : B8r s w p) (he : Pext s s') : B8r s' w p := by
  unfold B8r at *
  rw [he.real]
  split
  · rename_i hr; rwa [if_pos hr] at h
  · rename_i hr; rw [if_neg hr] at h; exact h.ext he
theorem B0N.ext {s s' : Ps} {w m g : LN} (h : B0N s w m g) (he : Pext s s') : B0N s' w m g := by
  unfold B0N at *
  rw [he.real]
  split
  · rename_i hr; rwa [if_pos hr] at h
  · rename_i hr
    rw [if_neg hr] at h
    obtain ⟨l, e⟩ := he.ts
    obtain ⟨i, j, h1, h2, h3, h4⟩ := h
    exact ⟨i, j, by rw [e, List.length_append]; omega, h2, by rw [e]; exact A3i h3, h4⟩
theorem B7k.kok {s : Ps} {w p : LN} (h : B7k s w p) : B4s s.ts w ∧ B4s s.ts p := by
  obtain ⟨i, j, h1, h2, h3, h4⟩ := h
  exact ⟨⟨i, h1, h2⟩, ⟨j, (List.getElem?_eq_some_iff.1 h3).1, h4⟩⟩
theorem U6.kok {s : Ps} {w p : LN} (h : U6 s w p) : Kok s w ∧ Kok s p := by
  unfold U6 at h
  refine ⟨fun hr => ?_, fun hr => ?_⟩ <;> rw [if_neg (by rw [hr]; decide)] at h
  · exact h.kok.1
  · exact h.kok.2
theorem B6q {s : Ps} {w : LN} (h : B4s s.ts w) (ht : Tok s.ts) (hl : s.ts.length ≤ 1048576) : B7k (B2M s w) w (B5T s w) ∧ Tok (B2M s w).ts := by
  obtain ⟨i, hi, rfl⟩ := h
  obtain ⟨e1, e2⟩ := B9Y hi hl
  obtain ⟨l, g1, g2, g3, g4⟩ := A3Y (B4t (A5g (show i ≤ 1048576 by omega))) ht
  rw [e1, e2]
  exact ⟨⟨i, _, by show i < (add s.ts _).length; rw [g1, List.length_append]; omega, rfl, g3, rfl⟩, g4⟩
theorem B8s {s : Ps} {w : LN} (h : Kok s w) (ht : Tok s.ts) (hl : s.ts.length ≤ 1048576) : U6 (K1 s w) w (H5 s w) ∧ B8r (K1 s w) w (skK2 s w) ∧ Tok (K1 s w).ts := by
  unfold U6 B8r K1 H5 skK2
  cases hr : s.real with
  | true => simp [hr, ht]
  | false =>
    obtain ⟨h1, h2⟩ := B6q (h hr) ht hl
    have h3 : (B2M s w).real = false := hr
    simp only [Bool.false_eq_true, if_false, h3]
    exact ⟨h1, h1, h2⟩
theorem B0N.f {s : Ps} (h : s.real = false) {w m g : LN} : B0N s w m g ↔ ∃ i j : Nat, i < s.ts.length ∧ w = bts ((i : Nat) : Int) ∧ s.ts[j]? = some (B87 ((i : Nat) : Int) m) ∧ g = F7 (bts ((j : Nat) : Int)) 64 := by unfold B0N; rw [if_neg (by rw [h]; decide)]
def chkT (ts : List Tm) (p m g : LN) : Bool := decide (g.length = 64) && match plc g ts.length, plc p ts.length with
  | some i, some k => decide (p.length = 32) && match ts[i]?, ts[k]? with
    | some t, some u => decide (t.kind = 7) && decide (t.text = m) && decide (u.kind = 3) && decide (u.of.getD 0 0 = t.of.getD 0 0)
    | _, _ => false
  | _, _ => false
noncomputable def chkK (s : Ps) (p m g : LN) : Bool := if s.real then chkB p m g else chkT s.ts p m g
def Ar (ts : List Tm) : Prop := ∀ t ∈ ts, (t.kind = 3 ∨ t.kind = 6 ∨ t.kind = 7) → 0 < t.of.length
theorem Ar.nil : Ar [] := fun t h => by cases h
theorem Ar.add {ts : List Tm} (h : Ar ts) {t : Tm} (ht : (t.kind = 3 ∨ t.kind = 6 ∨ t.kind = 7) → 0 < t.of.length) : Ar (add ts t) := by
  unfold Go.Proofs.YtlilcmjbaknafaaGreatDoor.add
  split
  · exact h
  · intro u hu
    rcases List.mem_append.1 hu with h1 | h1
    · exact h u h1
    · rw [List.mem_singleton.1 h1]; exact ht
theorem Ar.rd {ts : List Tm} (h : Ar ts) (w : LN) : Ar (rdT ts w) := by
  cases hp : plc w ts.length with
  | some j => rw [(V7 hp).1]; exact h
  | none => rw [(X5 hp).1]; exact h.add (by intro h; rcases h with h | h | h <;> cases h)
theorem B0O (a b : LN) : mark a ++ mark b = A0I [a, b] := by simp [A0I]
theorem B3u (bt bm : Nat) (ts : List Tm) (v : Value) (w : LN) (j : Nat) (MT A : Mem) (hT : Tab bt bm ts MT) (hsub : ∀ x, x ∈ MT → x ∈ A) (hn : ts.length ≤ 1048576) (hv : By A v w) (hj : plc w ts.length = some j) : FnV Tryz.prog 75 [(vP bt), v] A (vI j) := by
 haveI := hv.cel
 refine FnX.enter (N := 20) Tryz.func75 rfl rfl rfl fun w_ => ?_
 refine B0 (D2 0 1) (A1 (as_ (A0 (D2 0 1) (A3 (A1 (mv_ (mv_ ?_)))))))
 refine F1 (aS rfl (aS rfl a0)) kR (A18 bt bm ts v w MT _ hT (fun x hx => qS _ (hsub x hx)) hn (hv.rd.mono qS) hv.lt hv.max) rfl ?_
 rw [hj, Option.getD_some, Option.isSome_some]
 refine mv_ ?_
 refine A2 (A0T rfl) rfl ?_
 refine A2 (A0L rfl) rfl ?_
 refine as_ (as_ (A0 (D8 0 1 5 6) (A1 (mv_ (A0 (D8 0 1 5 13) ?_)))))
 refine D5 rfl ?_
 refine A1 (mv_ (as_ (A0 (D7 4) (B4 (tr ?_)))))
 exact ⟨_, [], [], K9 rfl rfl, List.nil_sublist _, by simp, rfl, rfl, rfl⟩
theorem B3v (pb bt bm : Nat) (m k : Int) (sv : Value) [hsv : Cel sv [sv]] (ts : List Tm) (v : Value) (w : LN) (j : Nat) (MT A : Mem) (hT : Tab bt bm ts MT) (hsub : ∀ x, x ∈ MT → x ∈ A) (hpb : (pb, blk [.int .u8 m, sv, .int .i64 k, (vP bt)] 105) ∈ A) (hn : ts.length ≤ 1048576) (hv : By A v w) (hj : plc w ts.length = some j) : FnV Tryz.prog 55 [(vP pb), v] A (vI j) := by
 haveI := hv.cel
 refine FnX.enter (N := 11) Tryz.func55 rfl rfl rfl fun w_ => ?_
 refine B0 (D2 0 1) (A1 (as_ (A0 (D2 0 1) (A1 (mv_ ?_)))))
 refine A2 (E6 rfl) rfl ?_
 refine A2 (qf_ 3 3) rfl ?_
 refine A2 (K2 rfl kR (mA hpb) qR) rfl ?_
 refine mv_ ?_
 refine F1 (aS rfl (aS rfl a0)) kR (B3u bt bm ts v w j MT _ hT (fun x hx => qS _ (hsub x hx)) hn (hv.mono qS) hj) rfl ?_
 refine as_ (A0 (D7 4) (B4 ?_))
 exact ⟨_, [], [], K9 rfl rfl, List.nil_sublist _, by simp, rfl, rfl, rfl⟩

theorem A1y (v : Value) (w : LN) (A : Mem) (h : By A v w) : FnX Tryz.prog 36 [v] [] A fun r M J => M = [] ∧ By J r w := by
 haveI := h.cel
 have hwl := h.len
 refine FnX.enterZ (N := 8) Tryz.func36 rfl rfl rfl fun w_ => ?_
 refine B0 (D7 0) (A1 (as_ (A0 (D7 0) (A3 (A1 (mv_ ?_))))))
 refine A2 (A1R (e := 5) rfl kR (by first | assumption | exact Sl.rd (by assumption) qI | exact By.rd (by assumption))) rfl ?_
 refine A0 (D2 0 4) ?_
 refine C1 rfl ?_ ?_ <;> intro hc
 ·
  have h0 := h.rd.isNil hc
  obtain rfl : w = [] := List.eq_nil_of_length_eq_zero h0
  refine A1 (as_ (A0 (D7 2) (B4 (tr ?_))))
  exact ⟨_, [], [], K9 rfl rfl, qZ, rfl, By.nil⟩
 ·
  refine A6 (nx (D7 0) (A1 ?_))
  refine A5 rfl (C3 (e := 5) (sz := 1) (z := []) kR e0 bd0 rfl fun b5 => ?_)
  refine mv_ ?_
  refine A5 rfl (F9 (e := 5) (sz := 1) (by_ := 1) rfl rfl kR rfl (Sl.fresh (n := 0) (cs := []) (e := 5) rfl qD) (h.rd.mono qS) E5 qP (by unfold maxLen; omega) qO rfl fun v7 B7 hs7 => ?_)
  refine as_ (A0 (D7 2) (B4 ?_))
  exact ⟨_, [], B7, K9 rfl rfl, Fit.pick qP qZ, rfl, ⟨A0H (hs7.rd fun x hx => by simp [hx]) qO qM, h.lt, h.len⟩⟩
theorem A3x (va vb : Value) (a b : LN) (A : Mem) (ha : By A va a) (hb : By A vb b) : FnV Tryz.prog 33 [va, vb] A (.bool (decide (a = b))) := by
 haveI := ha.cel
 haveI := hb.cel
 refine FnX.enter (N := 10) Tryz.func33 rfl rfl rfl fun w => ?_
 refine B0 (D2 0 1) (A1 (as_ (A0 (D2 0 1) (A1 (mv_ ?_)))))
 refine A2 (Q3 rfl kR (ha.rd.mono qS)) rfl ?_
 refine mv_ ?_
 refine A2 (Q3 rfl kR (hb.rd.mono qS)) rfl ?_
 refine A2 (B7E rfl rfl rfl rfl ha.lt hb.lt) rfl ?_
 refine as_ (A0 (D7 4) (B4 ?_))
 exact ⟨_, [], [], K9 rfl rfl, List.nil_sublist _, by simp, rfl, rfl, rfl⟩
theorem A8M (v : Value) (rows : List (List Value)) (f : FuncId) (cs : List Value) (p : Nat → Bool) (A : Mem) (hv : Rd A 3 v rows.length rows.flatten) (hl : ∀ r ∈ rows, r.length = 3) (hn : rows.length ≤ 1099511627776) (hc_ : K7 Tryz.prog f = true) (hf : ∀ (j : Nat) (r : List Value), rows[j]? = some r → FnV Tryz.prog f (.agg r.toArray :: cs) A (.bool (p j))) : FnV Tryz.prog 61 [v, .func (.func f) #[] cs.toArray] A (.int .i64 (B4x p rows.length)) := by
 haveI := hv.cel
 refine FnX.enter (N := 19) Tryz.func61 rfl rfl rfl fun w => ?_
 refine B0 (D2 0 1) (A1 (as_ (A0 (D2 0 1) (A3 (A1 (mv_ ?_))))))
 refine A2 (G1 (sz := 3) rfl kR hv) rfl ?_
 refine mv_ (A0 (D8 0 1 7 8) (A4 ?_))
 refine D3 (α := Nat) (fun i => [(0, v), (1, .func (.func f) #[] cs.toArray), (7, (vI rows.length)), (8, .int .i64 (i : Int))]) (fun _ => []) (fun _ => []) (fun i => i ≤ rows.length ∧ ∀ j, j < i → p j = false) (fun i => rows.length - i) 0 ⟨Nat.zero_le _, fun j h => absurd h (Nat.not_lt_zero j)⟩ (D8 0 1 7 8) .rfl qI ?_
 rintro i ⟨hi, hp⟩
 refine A1 ?_
 refine A2 (D4 rfl rfl rfl) rfl ?_
 refine A0 (E4 0 1 7 8 9) (A3 ?_)
 refine C1 rfl ?_ ?_ <;> intro hc
 ·
  have hlt : i < rows.length := by simp at hc; omega
  obtain ⟨r, hr⟩ : ∃ r, rows[i]? = some r := ⟨_, List.getElem?_eq_getElem hlt⟩
  refine A6 (nx (D8 0 1 7 8) (A3 (A4 (A1 (mv_ (as_ (A0 (E4 0 1 5 7 8) (A1 ?_))))))))
  refine mv_ (mv_ (mv_ ?_))
  refine A2 (I5 (sz := 3) rfl rfl kR rfl hv hlt) rfl ?_
  refine A2 (B4h rfl kR (hv.mono qS) hl qD hr) rfl ?_
  refine A5 rfl (B3h rfl (aS rfl a0) hc_ (hf i r hr) rfl ?_)
  refine A0 (H3 0 1 5 7 8 16) ?_
  refine C1 rfl ?_ ?_ <;> intro hc
  ·
   refine A1 (mv_ (as_ (A0 (D7 4) (B4 (br (tr (rr (br ?_))))))))
   refine tr ?_
   exact ⟨_, [], [], K9 rfl rfl, List.nil_sublist _, by simp, by rw [A6h hlt hp hc], rfl, rfl⟩
  ·
   refine A6 (nb (nx (D8 0 1 7 8) (A7 ?_)))
   refine A2 (I4 (b := 1) rfl rfl rfl rfl qO) rfl ?_
   refine mv_ (C0 ?_)
   exact rn (i + 1) ⟨hlt, fun j hj => by rcases Nat.lt_succ_iff_lt_or_eq.1 hj with h | h; exact hp j h; rw [h]; exact hc⟩ qO (D8 0 1 7 8) .rfl qI
 ·
  have hge : i = rows.length := by simp at hc; omega
  subst hge
  refine D0 (te (re (be rfl (nx kn (A1 (as_ (A0 (D7 4) ?_)))))))
  refine B4 ?_
  exact ⟨_, [], [], K9 rfl rfl, List.nil_sublist _, by simp, by rw [A6i hp], rfl, rfl⟩
theorem A3y (b o cap n i j : Nat) (cs xs : List Value) (e : TypeId) (A : Mem) (hn : n ≤ cap) (hcap : cap ≤ maxLen) (hfit : o + cap * 3 ≤ cs.length) (hl : xs.length = n * 3) (hx : ∀ j u, xs[j]? = some u → cs[o + j]? = some u)
    (h1 : ∀ c ∈ xs, c.oneCell' = true) (hij : i < j) (hjn : j ≤ n) :
    FnX Tryz.prog 35 [.slice (some ⟨b, o, none⟩) n cap, .int .i64 i, .int .i64 j] [(b, blk cs e)] A
      fun v M J => J = [] ∧ Sl 3 v (n - (j - i)) (xs.take (i * 3) ++ xs.drop (j * 3)) M := by
  refine FnX.enter (N := 33) Tryz.func35 rfl rfl rfl fun w => ?_
  refine B0 (D6 0 1 2) (A1 (as_ (A0 (D6 0 1 2) (A1 (mv_ (mv_ (mv_ (mv_ ?_))))))))
  refine A2 (A0M (e := 55) rfl kR) rfl ?_
  refine A2 (A15 (e := 55) (sz := 3) rfl kR kR (o1 i rfl rfl) (o1 j rfl rfl) (o1 n rfl rfl) qM (by simp; omega) (by simp; omega) (by simp; omega)) rfl ?_
  refine A0 (D6 0 1 2) (A3 (A1 (mv_ (mv_ ?_))))
  refine A2 (D4 rfl rfl rfl) rfl ?_
  refine A0 (D8 0 1 2 16) ?_
  refine C1 rfl ?_ ?_ <;> intro hc
  ·
    simp at hc; omega
  ·
    refine A6 (nx (D6 0 1 2) (A1 (mv_ ?_)))
    refine A2 (A0M (e := 55) rfl kR) rfl ?_
    refine as_ (A0 (D8 0 1 2 7) ?_)
    refine A1k ([]) [] [(0, 0), (1, 0), (2, 0), (3, 0), (4, 0), (5, 0), (6, 2), (7, 0)] kR kR qM fun hs => ?_
    refine K5 hs rfl qm_ rfl ?_
    refine K5 hs rfl qm_ rfl ?_
    refine K5 hs rfl (B36 (h := i) (e := 55) (sz := 3) rfl rfl kR kR rfl qO) rfl ?_
    refine K5 hs rfl qm_ rfl ?_
    refine K5 hs rfl qm_ rfl ?_
    refine K5 hs rfl (B37 (h := j) (e := 55) (sz := 3) rfl rfl kR kR rfl qO qO) rfl ?_
    refine A1l rfl rfl rfl (A86 (e := 55) (sz := 3) (by_ := 56) (m := n - j) (cs := cs) rfl rfl kR ((Rd.lo ⟨_, cap, rfl, hl, hn, .inr ⟨b, o, cs, e, (0, 0), rfl, m0, hx⟩⟩ j hjn)) (fun c hc => h1 c (List.mem_of_mem_drop hc)) qO hfit rfl UpC.upd rfl ?_)
    refine K5 hs rfl (H8 rfl) rfl ?_
    refine A2S (D2 0 7) ?_
    refine A1 (mv_ (mv_ ?_))
    refine A2 (A0M (e := 55) rfl kR) rfl ?_
    refine mv_ ?_
    refine A2 (B5j (lo := i + (n - j)) (hi := n) (e := 55) (sz := 3) rfl rfl rfl kR kR rfl rfl qO qO qO) rfl ?_
    refine A5 rfl (B5i (e := 55) (sz := 3) (by_ := 56) (zs := (Builtin.zeroCells #[vS, .int .u32 0, vS] (n - (i + (n - j)))).toList) rfl kR kR (A4E (by simp [Value.oneCell']) qM _) ?h1 rfl UpC.upd ?_)
    case h1 => simp [hl]; omega
    refine A0 (D7 0) (A1 (mv_ (as_ (A0 (D7 6) (B4 ?_)))))
    refine ⟨_, _, [], K9 rfl rfl, List.Sublist.refl _, by simp, rfl, ?_⟩
    show Sl 3 _ (n - (j - i)) _ _
    rw [show n - (j - i) = i + (n - j) from by omega]
    have hd : (xs.drop (j * 3)).length = (n - j) * 3 := by simp [hl]; omega
    refine .inr ⟨b, o, cap, _, e, rfl, rfl, by omega, hcap, ?_, ?_, ?_⟩
    · simp [hl, Builtin.zeroCells]; omega
    · simp [hl]; omega
    · intro q u hq
      have hlt : q < (i + (n - j)) * 3 := by have := (List.getElem?_eq_some_iff.1 hq).1; simp [hl] at this; omega
      rw [A5A (by simp [hl]; omega) qO]
      by_cases hqi : q < i * 3
      · rw [A5A qO qO]
        rw [List.getElem?_append_left (by simp [hl]; omega), List.getElem?_take_of_lt hqi] at hq
        exact hx q u hq
      · rw [A8c qO qO qO]
        rw [List.getElem?_append_right (by simp [hl]; omega)] at hq
        rw [← hq]
        congr 1
        simp [hl]; omega
theorem A8N (v : Value) (n : Nat) (xs : List Value) (A : Mem) (h : Rd A 3 v n xs) (h1 : ∀ c ∈ xs, c.oneCell' = true) (hn : n ≤ 1099511627776) : FnX Tryz.prog 60 [v] [] A fun r M J => Sl 3 r n xs M := by
 haveI := h.cel
 refine FnX.enterZ (N := 8) Tryz.func60 rfl rfl rfl fun w_ => ?_
 refine B0 (D7 0) (A1 (as_ (A0 (D7 0) (A3 (A1 (mv_ ?_))))))
 refine A2 (A1R (e := 55) rfl kR (by first | assumption | exact Sl.rd (by assumption) qI | exact By.rd (by assumption))) rfl ?_
 refine A0 (D2 0 4) ?_
 refine C1 rfl ?_ ?_ <;> intro hc
 ·
  have h0 := h.isNil hc
  subst h0
  obtain rfl : xs = [] := List.eq_nil_of_length_eq_zero (by have := h.len; omega)
  refine A1 (as_ (A0 (D7 2) (B4 (tr ?_))))
  exact ⟨_, [], [], K9 rfl rfl, qZ, Sl.nil⟩
 ·
  refine A6 (nx (D7 0) (A1 ?_))
  refine A5 rfl (C3 (e := 55) (sz := 3) (z := []) kR e0 bd0 rfl fun b5 => ?_)
  refine mv_ ?_
  refine A5 rfl (F9 (e := 55) (sz := 3) (by_ := 56) rfl rfl kR rfl (Sl.fresh (n := 0) (cs := []) (e := 55) rfl qD) (Rd.mono h qS) h1 qP (by unfold maxLen; omega) qO rfl fun v7 B7 hs7 => ?_)
  refine as_ (A0 (D7 2) (B4 ?_))
  exact ⟨_, B7, [], K9 rfl rfl, Fit.none (Fit.last qP), by simpa using hs7⟩

structure Skp where
  of : LN
  n : Nat
  key : LN
deriving DecidableEq
def skR (R : Mem) (s : Skp) (r : List Value) : Prop := ∃ vo vk, r = [vo, (vU s.n), vk] ∧ By R vo s.of ∧ By R vk s.key ∧ s.n < 4294967296
theorem skT : RowT 3 skR := ⟨fun R R' x r hR ⟨vo, vk, h1, h2, h3, h4⟩ => ⟨vo, vk, h1, h2.mono hR, h3.mono hR, h4⟩, fun R x r ⟨vo, vk, h1, _⟩ => by rw [h1]; rfl, fun R x r ⟨vo, vk, h1, h2, h3, _⟩ c hc => by
  rw [h1] at hc
  simp only [List.mem_cons, List.not_mem_nil, or_false] at hc
  rcases hc with rfl | rfl | rfl
  · exact h2.one
  · rfl
  · exact h3.one⟩
structure Sto (R : Mem) (sb : Nat) (sks : List Skp) (M : Mem) : Prop where
  ex : ∃ v rows B, M = (sb, blk [v] 80) :: B ∧ Sl 3 v sks.length rows.flatten B ∧ RwL skR R rows sks
theorem Sto.mono {R R' : Mem} {sb : Nat} {sks : List Skp} {M : Mem} (h : Sto R sb sks M) (hR : ∀ x, x ∈ R → x ∈ R') : Sto R' sb sks M := by
  obtain ⟨v, rows, B, h1, h2, h3⟩ := h.ex
  exact ⟨v, rows, B, h1, h2, h3.mono skT hR⟩
def tst (of : LN) (n : Nat) (s : Skp) : Bool := decide (s.n = n) && decide (s.of = of)
def A4s (sks : List Skp) (of : LN) (n : Nat) : List Skp := if A1d (tst of n) sks < 0 then sks else sks.eraseIdx (A1d (tst of n) sks).toNat
def B4G (sks : List Skp) (x : Skp) : List Skp := (A4s sks x.of x.n ++ [x]).drop ((A4s sks x.of x.n ++ [x]).length - 32)
theorem A5h {sks : List Skp} {of : LN} {n : Nat} (h : A1d (tst of n) sks = -1) : A4s sks of n = sks := if_pos (by rw [h]; decide)
theorem A2N {sks : List Skp} {of : LN} {n i : Nat} (h : A1d (tst of n) sks = (i : Int)) : A4s sks of n = sks.eraseIdx i := by
  unfold A4s; rw [h, if_neg qO, Int.toNat_natCast]
theorem A5i (sks : List Skp) (of : LN) (n : Nat) : (A4s sks of n).length ≤ sks.length := by
  unfold A4s; split
  · exact Nat.le_refl _
  · exact List.length_eraseIdx_le _ _
theorem B3w (sks : List Skp) (x : Skp) : (B4G sks x).length ≤ 32 := by
  unfold B4G; rw [List.length_drop]; omega
theorem B3x (vo vk vof : Value) (s : Skp) (of : LN) (n : Nat) (b4 b5 : Nat) (A : Mem) (ho : By A vo s.of) (hk : By A vk s.key) (hof : By A vof of) (hb5 : (b5, blk [(vU n)] 27) ∈ A) (hb4 : (b4, blk [vof] 26) ∈ A) : FnV Tryz.prog 62 [.agg #[vo, (vU s.n), vk], (vP b5), (vP b4)] A (.bool (tst of n s)) := by
 haveI := ho.cel
 haveI := hk.cel
 haveI := hof.cel
 refine FnX.enter (N := 15) Tryz.func62 rfl rfl rfl fun w => ?_
 refine B0 (D6 0 1 2) (A1 ?_)
 refine A5 rfl (bx_ fun b3 => ?_)
 refine as_ (A0 (D6 1 2 3) (A1 ?_))
 refine A2 (qf_ 1 1) rfl ?_
 refine A2 ql_ rfl ?_
 refine A2 (K2 rfl kR (mA hb5) qR) rfl ?_
 refine A2 (D4 rfl rfl rfl) rfl ?_
 refine mv_ ?_
 refine Z6 (t := 9) rfl (fun hb => ?_) (fun hb => ?_)
 ·
  have hnn : s.n = n := by simp at hb; omega
  refine G5 rfl rfl (OpQ.opL (qf_ 0 0) rfl ?_)
  refine G5 rfl rfl (OpQ.opL ql_ rfl ?_)
  refine G5 rfl rfl (OpQ.opL (K2 rfl kR (mA hb4) qR) rfl ?_)
  refine A9u rfl rfl (aS rfl (aS rfl a0)) kR (A3x vo vof s.of of _ (ho.mono qS) (hof.mono qS)) rfl ?_
  refine A2 (I6 rfl rfl) rfl ?_
  refine as_ (A0 (D7 4) (B4 ?_))
  exact ⟨_, [], [], K9 rfl rfl, List.nil_sublist _, by simp, by unfold tst; rw [hnn]; simp, rfl, rfl⟩
 ·
  have hnn : s.n ≠ n := by simp at hb; omega
  refine K8 rfl rfl rfl rfl ?_
  refine K8 rfl rfl rfl rfl ?_
  refine K8 rfl rfl rfl rfl ?_
  refine K8 rfl rfl rfl rfl ?_
  refine A2 (I0 rfl rfl) rfl ?_
  refine as_ (A0 (D7 4) (B4 ?_))
  exact ⟨_, [], [], K9 rfl rfl, List.nil_sublist _, by simp, by unfold tst; simp [hnn], rfl, rfl⟩
theorem B3y {vof : Value} {sks : List Skp} {rows : List (List Value)} {of : LN} {n b4 b5 : Nat} {A : Mem} (hR : RwL skR A rows sks) (hof : By A vof of) (hb5 : (b5, blk [(vU n)] 27) ∈ A) (hb4 : (b4, blk [vof] 26) ∈ A) :
    ∀ (j : Nat) (r : List Value), rows[j]? = some r → FnV Tryz.prog 62 (.agg r.toArray :: [(vP b5), (vP b4)]) A (.bool ((fun j => (sks[j]?.map (tst of n)).getD false) j)) := fun j r hr => by
  obtain ⟨s, hs, vo, vk, rfl, ho, hk, _⟩ := hR.of hr
  dsimp only
  rw [hs]
  exact B3x vo vk vof s of n b4 b5 _ ho hk hof hb5 hb4
theorem A3z (sb : Nat) (v vof : Value) (rows : List (List Value)) (sks : List Skp) (of : LN) (n : Nat) (A : Mem) (hsb : (sb, blk [v] 80) ∈ A) (hv : Rd A 3 v sks.length rows.flatten) (hR : RwL skR A rows sks) (hl : sks.length ≤ 1000000) (hof : By A vof of) : FnV Tryz.prog 34 [(vP sb), vof, (vU n)] A (.int .i64 (A1d (tst of n) sks)) := by
 haveI := hof.cel
 haveI := hv.cel
 refine FnX.enter (N := 15) Tryz.func34 rfl rfl rfl fun w => ?_
 refine B0 (D6 0 1 2) (A1 ?_)
 refine A5 rfl (bx_ fun b4 => ?_)
 refine A5 rfl (bx_ fun b5 => ?_)
 refine as_ (A0 (D6 0 4 5) (A3 (A1 (mv_ ?_))))
 refine A2 (H7 (e := 80) rfl rfl kR) rfl ?_
 refine A0 (D8 0 4 5 8) ?_
 refine C6 rfl ?_
 refine A6 (nx (D6 0 4 5) (A1 (mv_ ?_)))
 refine A2 (E6 rfl) rfl ?_
 refine A2 (qf_ 0 0) rfl ?_
 refine A2 (K2 rfl kR (mA hsb) qR) rfl ?_
 refine A2 (B3g (aS rfl (aS rfl a0))) rfl ?_
 refine F1 (aS rfl (aS rfl a0)) kR (A8M v rows 62 [(vP b5), (vP b4)] (fun j => (sks[j]?.map (tst of n)).getD false) _ (by rw [hR.len]; exact hv.mono qS) (hR.lens skT) (by rw [hR.len]; omega) kR (B3y (hR.mono skT qS) (hof.mono qS) qM qM)) rfl ?_
 refine as_ (A0 (D7 6) (B4 ?_))
 exact ⟨_, [], [], K9 rfl rfl, List.nil_sublist _, by simp, by rw [hR.len]; rfl, rfl, rfl⟩

end Go.Proofs.YtlilcmjbaknafaaGreatDoor
