/- Part 13 of the texts of this claim, one behind the other. -/
import Derived.Test.YthbhpfefdnffaaaGreatDoorB12
import Derived.SizedLaws
set_option linter.unusedVariables false
set_option linter.unusedSimpArgs false
set_option maxRecDepth 100000
namespace Go.Proofs.YthbhpfefdnffaaaGreatDoor
open Go.Px
def K3 (w : List Nat) : List Nat := (fun e : List Nat => (e.set 0 (e.getD 0 0 &&& 248)).set 31 ((e.set 0 (e.getD 0 0 &&& 248)).getD 31 0 % 128 ||| 64)) (U5 w 32)
theorem A79 (w : List Nat) : U5 w 32 = w.take 32 ++ (List.replicate 32 0).drop w.length := by unfold U5; rw [List.drop_replicate]
theorem A2O (w : List Nat) : (K3 w).length = 32 := by simp [K3, S6]
structure Lad where
  a : Nat
  b : Nat
  c : Nat
  d : Nat
def A9K (u : Nat) (s : Lad) : Lad :=
  let p := fA s.a s.b
  let q := fS s.a s.b
  let ss := fM p p
  let tt := fM q q
  let e := fS ss tt
  let da := fM (fS s.c s.d) p
  let cb := fM (fA s.c s.d) q
  ⟨fM ss tt, fM e (fA ss (fM 121665 e)), fM (fA da cb) (fA da cb), fM u (fM (fS da cb) (fS da cb))⟩
def swL (b : Bool) (s : Lad) : Lad := if b then ⟨s.c, s.d, s.a, s.b⟩ else s
def A8z (u n : Nat) : Nat → Lad
  | 0 => ⟨1, 0, u, 1⟩
  | k + 1 => (fun bt => swL bt (A9K u (swL bt (A8z u n k)))) (decide (n / 2 ^ (254 - k) % 2 = 1))
theorem A8a {u n i : Nat} (h : i < 255) : A8z u n (255 - i) = swL (decide (n / 2 ^ i % 2 = 1)) (A9K u (swL (decide (n / 2 ^ i % 2 = 1)) (A8z u n (255 - (i + 1))))) := by
  obtain ⟨k, hk⟩ : ∃ k, 255 - i = k + 1 := ⟨254 - i, by omega⟩
  have e1 : 255 - (i + 1) = k := by omega
  have e2 : i = 254 - k := by omega
  rw [hk, e1, e2]; rfl
noncomputable def x25 (s p : List Nat) : List Nat := A0n 8 32 (fM (A8z (rdN p) (bv (K3 s)) 255).a (fI (A8z (rdN p) (bv (K3 s)) 255).b)) 255
def B1I : List Nat := 9 :: List.replicate 31 0
noncomputable def A2d (s : List Nat) : List Nat := x25 s B1I
theorem A3p (s p : List Nat) : (x25 s p).length = 32 := by simp [x25, L6]
theorem B3I (s p : List Nat) : ∀ x ∈ x25 s p, x < 256 := A7Q _ _
theorem B0v {x : Nat} (h : x < 256) : (x &&& 248) < 256 := Nat.lt_of_le_of_lt Nat.and_le_left h
theorem or64 {x : Nat} (h : x < 128) : (x ||| 64) < 256 := Nat.lt_of_lt_of_le (Nat.or_lt_two_pow (n := 7) h (by decide)) (by decide)
theorem A8b {w : List Nat} (h : ∀ x ∈ w, x < 256) : ∀ x ∈ K3 w, x < 256 := by
  intro x hx
  have hf := A3h h 32
  unfold K3 at hx
  rcases List.mem_or_eq_of_mem_set hx with h1 | rfl
  · rcases List.mem_or_eq_of_mem_set h1 with h1 | rfl
    · exact hf x h1
    · exact B0v (Go.Px.getD_lt hf (by decide))
  · exact or64 (Nat.mod_lt _ (by decide))
theorem B1J (v : Value) (wc : List Nat) (A : Mem) (hv : By A v wc) : FnV Tryz.prog 130 [v] A (.agg (nums .u8 (K3 wc)).toArray) := by
 haveI := hv.cel
 have hvl := hv.len
 refine FnX.enter (N := 17) Tryz.func130 rfl rfl rfl fun w => ?_
 refine B0 (D2 0) (A1 ?_)
 refine A4 rfl (C4 (cs := [zu8, zu8, zu8, zu8, zu8, zu8, zu8, zu8, zu8, zu8, zu8, zu8, zu8, zu8, zu8, zu8, zu8, zu8, zu8, zu8, zu8, zu8, zu8, zu8, zu8, zu8, zu8, zu8, zu8, zu8, zu8, zu8]) kR rfl fun b2 => ?_)
 refine A0 (C9 0 2) (A1 ?_)
 refine A4 rfl (C4 (cs := [zu8, zu8, zu8, zu8, zu8, zu8, zu8, zu8, zu8, zu8, zu8, zu8, zu8, zu8, zu8, zu8, zu8, zu8, zu8, zu8, zu8, zu8, zu8, zu8, zu8, zu8, zu8, zu8, zu8, zu8, zu8, zu8]) kR rfl fun b3 => ?_)
 refine A0 (D3 0 2 3) ?_
 refine A1f (M' := [(b3, blk (nums .u8 (List.replicate 32 0)) 202), (b2, blk [.int .u8 0, .int .u8 0, .int .u8 0, .int .u8 0, .int .u8 0, .int .u8 0, .int .u8 0, .int .u8 0, .int .u8 0, .int .u8 0, .int .u8 0, .int .u8 0, .int .u8 0, .int .u8 0, .int .u8 0, .int .u8 0, .int .u8 0, .int .u8 0, .int .u8 0, .int .u8 0, .int .u8 0, .int .u8 0, .int .u8 0, .int .u8 0, .int .u8 0, .int .u8 0, .int .u8 0, .int .u8 0, .int .u8 0, .int .u8 0, .int .u8 0, .int .u8 0] 202)]) (Fit.eq rfl) (fun _ h => h) ?_
 refine A1 ?_
 refine A2 (B0X (sz := 1) (e := 5) (n := 32) rfl kR kR) rfl ?_
 refine mv_ ?_
 refine A4 rfl (A7u (e := 5) (us := wc) (ws := List.replicate 32 0) (ws' := U5 wc 32) (by_ := 1) rfl rfl kR (hv.rd.mono SubC.sub) (by simp) (A79 wc) UpC.upd rfl ?_)
 have hfl := S6 wc 32
 have hflt := A3h hv.lt 32
 have hcl : K3 wc = ((U5 wc 32).set 0 ((U5 wc 32).getD 0 0 &&& 248)).set 31 (((U5 wc 32).set 0 ((U5 wc 32).getD 0 0 &&& 248)).getD 31 0 % 128 ||| 64) := rfl
 generalize U5 wc 32 = e at *
 have he0 : e.getD 0 0 < 256 := Go.Px.getD_lt hflt (by decide)
 have he1 : (e.set 0 (e.getD 0 0 &&& 248)).getD 31 0 < 256 := Go.Px.getD_lt (fun x hx => by rcases List.mem_or_eq_of_mem_set hx with h | rfl; exact hflt x h; exact B0v he0) (by decide)
 refine A0 (C9 2 3) (A1 ?_)
 refine A2 (D7 (e := 5) (n := 32) (sz := 1) (i := 0) rfl rfl kR kR rfl (by omega)) rfl ?_
 refine A2 (R9 0 rfl kR At.mem rfl (by omega)) rfl ?_
 refine A2 (B0F (b := 248) rfl rfl rfl (by show _ < 256; exact he0) (by decide)) rfl ?_
 refine A2 (D7 (e := 5) (n := 32) (sz := 1) (i := 0) rfl rfl kR kR rfl (by omega)) rfl ?_
 refine A4 rfl (P6 0 rfl rfl kR rfl (by omega) UpC.upd ?_)
 refine A0 (C9 2 3) (A1 ?_)
 refine A2 (D7 (e := 5) (n := 32) (sz := 1) (i := 31) rfl rfl kR kR rfl (by omega)) rfl ?_
 refine A2 (R9 31 rfl kR At.mem rfl (by rw [List.length_set]; omega)) rfl ?_
 refine A2 (K2 7 128 rfl rfl rfl rfl rfl (by show _ < 256; exact he1) (by decide)) rfl ?_
 refine A2 (B0G (b := 64) rfl rfl rfl (by show _ < 256; exact Nat.lt_trans (Nat.mod_lt _ (by decide)) (by decide)) (by decide)) rfl ?_
 refine A2 (D7 (e := 5) (n := 32) (sz := 1) (i := 31) rfl rfl kR kR rfl (by omega)) rfl ?_
 refine A4 rfl (P6 31 rfl rfl kR rfl (by rw [List.length_set]; omega) UpC.upd ?_)
 rw [← hcl]
 have hcn := A2O wc
 refine A0 (C9 2 3) (A1 ?_)
 refine A2 (V4 (n := 32) (cs := nums .u8 (K3 wc)) rfl kR At.mem (by rw [nums_len]; omega)) rfl ?_
 refine A4 rfl (A8 (vs := nums .u8 (K3 wc)) rfl rfl rfl (by rw [nums_len, hcn]; kernel_rfl) (by rw [nums_len, hcn]; rfl) F4 UpC.upd ?_)
 refine A0 (D2 2) (B4 ?_)
 exact ⟨_, [], [], A3y (n := 32) rfl rfl kR At.mem (by rw [nums_len, hcn]), List.nil_sublist _, by simp, rfl, rfl, rfl⟩
def LadR (r : Value) (s : Lad) : Prop := ∃ v0 v1 v2 v3, r = .tuple #[v0, v1, v2, v3] ∧ Fe v0 s.a ∧ Fe v1 s.b ∧ Fe v2 s.c ∧ Fe v3 s.d
theorem A3q {xs : List Nat} {n : Nat} (h : Fe (.agg (nums .u64 xs).toArray) n) : ∃ a b c d e, xs = [a, b, c, d, e] := by
  obtain ⟨a, b, c, d, e, h1, -⟩ := h
  refine ⟨a, b, c, d, e, ?_⟩
  have h2 := congrArg Array.toList (Value.agg.inj h1)
  exact A77 (k := .u64) (b := [a, b, c, d, e]) h2
theorem B0w (vu va vb vc vd : Value) (xu xa xb xc xd : Nat) (A : Mem) (hU : Fe vu xu) (hA : Fe va xa) (hB : Fe vb xb) (hC : Fe vc xc) (hD : Fe vd xd) : FnX Tryz.prog 133 [vu, va, vb, vc, vd] [] A fun r M J => M = [] ∧ J = [] ∧ LadR r (A9K xu ⟨xa, xb, xc, xd⟩) := by
 have hU0 := hU
 obtain ⟨pu0, pu1, pu2, pu3, pu4, rfl, -⟩ := hU
 have hA0 := hA
 obtain ⟨pa0, pa1, pa2, pa3, pa4, rfl, -⟩ := hA
 have hB0 := hB
 obtain ⟨pb0, pb1, pb2, pb3, pb4, rfl, -⟩ := hB
 have hC0 := hC
 obtain ⟨pc0, pc1, pc2, pc3, pc4, rfl, -⟩ := hC
 have hD0 := hD
 obtain ⟨pd0, pd1, pd2, pd3, pd4, rfl, -⟩ := hD
 refine FnX.enter (N := 68) Tryz.func133 rfl rfl rfl fun w => ?_
 refine B0 (E4 0 1 2 3 4) (A1 ?_)
 refine A4 rfl (bx_ fun b5 => ?_)
 refine A4 rfl (bx_ fun b6 => ?_)
 refine A4 rfl (bx_ fun b7 => ?_)
 refine A4 rfl (bx_ fun b8 => ?_)
 refine A4 rfl (bx_ fun b9 => ?_)
 refine A4 rfl (C4 (cs := [D9, D9, D9, D9, D9]) kR rfl fun b10 => ?_)
 refine A4 rfl (C4 (cs := [D9, D9, D9, D9, D9]) kR rfl fun b11 => ?_)
 refine A4 rfl (C4 (cs := [D9, D9, D9, D9, D9]) kR rfl fun b12 => ?_)
 refine A4 rfl (C4 (cs := [D9, D9, D9, D9, D9]) kR rfl fun b13 => ?_)
 refine A0 (A2j 5 6 7 8 9 10 11 12 13) ?_
 refine D1 (.range 8) [(0, 1), (1, 1), (3, 1), (4, 1), (2, 3), (5, 3), (6, 3), (7, 4), (8, 2), (9, 2)] kR kR fun hs => ?_
 refine G6 hs rfl (qw_ 5) rfl ?_
 refine G6 hs rfl (qw_ 5) rfl ?_
 refine G6 hs rfl (qw_ 5) rfl ?_
 refine G6 hs rfl (qw_ 5) rfl ?_
 refine Z8 [⟨2, 25, fun v B _ => B = [] ∧ Fe v (fA xa xb)⟩, ⟨5, 28, fun v B _ => B = [] ∧ Fe v (fS xa xb)⟩, ⟨6, 14, fun v B _ => ∃ b, v = .pointer (some ⟨b, 0, none⟩) ∧ B = [(b, blk [.int .u64 0, .int .u64 0, .int .u64 0, .int .u64 0, .int .u64 0] 205)]⟩, ⟨7, 15, fun v B _ => ∃ b, v = .pointer (some ⟨b, 0, none⟩) ∧ B = [(b, blk [.int .u64 0, .int .u64 0, .int .u64 0, .int .u64 0, .int .u64 0] 205)]⟩]
  (A7 (fun _ _ _ _ _ h => h) (A7 (fun _ _ _ _ _ h => h) (A7 (fun _ _ _ _ _ h => h) (A7 (fun _ _ _ _ _ h => h) (I5))))) (show List.Nodup [25, 28, 14, 15] by decide) (show List.Nodup [2, 5, 6, 7] by decide) (A7 (C1 rfl) (A7 (C1 rfl) (A7 (C1 rfl) (A7 (C1 rfl) (I5)))))
  (A7 ⟨_, rfl, fun vs bs R w hb ha => ⟨.inl rfl, ?_⟩⟩ (A7 ⟨_, rfl, fun vs bs R w hb ha => ⟨.inl rfl, ?_⟩⟩ (A7 ⟨_, rfl, fun vs bs R w hb ha => ⟨.inl rfl, ?_⟩⟩ (A7 ⟨_, rfl, fun vs bs R w hb ha => ⟨.inl rfl, ?_⟩⟩ (I5))))) ?_
 ·
  refine E3 (aS rfl (aS rfl (a0))) kR (A9D hA0 hB0 _) rfl ?_
  rintro r M1 J1 ⟨rfl, rfl, hh⟩
  exact ⟨_, rfl, rfl, hh⟩
 ·
  refine E3 (aS rfl (aS rfl (a0))) kR (A9C hA0 hB0 _) rfl ?_
  rintro r M1 J1 ⟨rfl, rfl, hh⟩
  exact ⟨_, rfl, rfl, hh⟩
 ·
  exact C4 (cs := [D9, D9, D9, D9, D9]) kR rfl fun b => ⟨_, rfl, b, rfl, rfl⟩
 ·
  exact C4 (cs := [D9, D9, D9, D9, D9]) kR rfl fun b => ⟨_, rfl, b, rfl, rfl⟩
 intro vs bs Jn0 hφ
 have g2 := ofH hφ
 dsimp only at g2
 replace hφ := ofT hφ
 have g5 := ofH hφ
 dsimp only at g5
 replace hφ := ofT hφ
 have g6 := ofH hφ
 dsimp only at g6
 replace hφ := ofT hφ
 have g7 := ofH hφ
 dsimp only at g7
 clear hφ
 dsimp only [T9, N7, List.map, List.flatten, List.cons_append, List.nil_append]
 generalize bs 2 = B25 at *
 generalize bs 5 = B28 at *
 generalize bs 6 = B14 at *
 generalize bs 7 = B15 at *
 generalize vs 2 = u25 at *
 generalize vs 5 = u28 at *
 generalize vs 6 = u14 at *
 generalize vs 7 = u15 at *
 obtain ⟨rfl, k2⟩ := g2
 have h2 := k2
 obtain ⟨a2, b2, c2, d2, e2, rfl, -⟩ := k2
 obtain ⟨rfl, k5⟩ := g5
 have h5 := k5
 obtain ⟨a5, b5, c5, d5, e5, rfl, -⟩ := k5
 obtain ⟨b6, rfl, rfl⟩ := g6
 obtain ⟨b7, rfl, rfl⟩ := g7
 dsimp only [List.append_eq, List.nil_append, List.cons_append]
 have hp := h2
 have hq := h5
 clear h2 h5
 refine E6 rfl rfl rfl (A8 rfl rfl Cel.cel kR ln5 al5 UpC.upd ?_)
 refine E6 rfl rfl rfl (A8 rfl rfl Cel.cel kR ln5 al5 UpC.upd ?_)
 refine F5 (A2j 5 8 9 10 11 12 13 14 15) ?_
 refine D1 [0, 1, 2, 3, 4, 5] [(0, 1), (2, 1), (1, 3), (3, 3), (4, 3), (5, 4), (6, 2), (7, 2)] kR kR fun hs => ?_
 refine G6 hs rfl (qw_ 5) rfl ?_
 refine G6 hs rfl (qw_ 5) rfl ?_
 refine Z8 [⟨1, 30, fun v B _ => B = [] ∧ Fe v (fM (fA xa xb) (fA xa xb))⟩, ⟨3, 32, fun v B _ => B = [] ∧ Fe v (fM (fS xa xb) (fS xa xb))⟩, ⟨4, 16, fun v B _ => ∃ b, v = .pointer (some ⟨b, 0, none⟩) ∧ B = [(b, blk [.int .u64 0, .int .u64 0, .int .u64 0, .int .u64 0, .int .u64 0] 205)]⟩, ⟨5, 17, fun v B _ => ∃ b, v = .pointer (some ⟨b, 0, none⟩) ∧ B = [(b, blk [.int .u64 0, .int .u64 0, .int .u64 0, .int .u64 0, .int .u64 0] 205)]⟩]
  (A7 (fun _ _ _ _ _ h => h) (A7 (fun _ _ _ _ _ h => h) (A7 (fun _ _ _ _ _ h => h) (A7 (fun _ _ _ _ _ h => h) (I5))))) (show List.Nodup [30, 32, 16, 17] by decide) (show List.Nodup [1, 3, 4, 5] by decide) (A7 (C1 rfl) (A7 (C1 rfl) (A7 (C1 rfl) (A7 (C1 rfl) (I5)))))
  (A7 ⟨_, rfl, fun vs bs R w hb ha => ⟨.inl rfl, ?_⟩⟩ (A7 ⟨_, rfl, fun vs bs R w hb ha => ⟨.inl rfl, ?_⟩⟩ (A7 ⟨_, rfl, fun vs bs R w hb ha => ⟨.inl rfl, ?_⟩⟩ (A7 ⟨_, rfl, fun vs bs R w hb ha => ⟨.inl rfl, ?_⟩⟩ (I5))))) ?_
 ·
  refine E3 (aS rfl (a0)) kR (B4d hp _) rfl ?_
  rintro r M1 J1 ⟨rfl, rfl, hh⟩
  exact ⟨_, rfl, rfl, hh⟩
 ·
  refine E3 (aS rfl (a0)) kR (B4d hq _) rfl ?_
  rintro r M1 J1 ⟨rfl, rfl, hh⟩
  exact ⟨_, rfl, rfl, hh⟩
 ·
  exact C4 (cs := [D9, D9, D9, D9, D9]) kR rfl fun b => ⟨_, rfl, b, rfl, rfl⟩
 ·
  exact C4 (cs := [D9, D9, D9, D9, D9]) kR rfl fun b => ⟨_, rfl, b, rfl, rfl⟩
 intro vs bs Jn0 hφ
 have g1 := ofH hφ
 dsimp only at g1
 replace hφ := ofT hφ
 have g3 := ofH hφ
 dsimp only at g3
 replace hφ := ofT hφ
 have g4 := ofH hφ
 dsimp only at g4
 replace hφ := ofT hφ
 have g5 := ofH hφ
 dsimp only at g5
 clear hφ
 dsimp only [T9, N7, List.map, List.flatten, List.cons_append, List.nil_append]
 generalize bs 1 = B30 at *
 generalize bs 3 = B32 at *
 generalize bs 4 = B16 at *
 generalize bs 5 = B17 at *
 generalize vs 1 = u30 at *
 generalize vs 3 = u32 at *
 generalize vs 4 = u16 at *
 generalize vs 5 = u17 at *
 obtain ⟨rfl, k1⟩ := g1
 have h1 := k1
 obtain ⟨a1, b1, c1, d1, e1, rfl, -⟩ := k1
 obtain ⟨rfl, k3⟩ := g3
 have h3 := k3
 obtain ⟨a3, b3, c3, d3, e3, rfl, -⟩ := k3
 obtain ⟨b4, rfl, rfl⟩ := g4
 obtain ⟨b5, rfl, rfl⟩ := g5
 dsimp only [List.append_eq, List.nil_append, List.cons_append]
 have hss := h1
 have htt := h3
 clear h1 h3
 refine E6 rfl rfl rfl (A8 rfl rfl Cel.cel kR ln5 al5 UpC.upd ?_)
 refine E6 rfl rfl rfl (A8 rfl rfl Cel.cel kR ln5 al5 UpC.upd ?_)
 refine F5 (kq 5 (kq 8 (A2j 9 10 11 12 13 14 15 16 17))) ?_
 refine A1 ?_
 refine A2 (qw_ 5) rfl ?_
 refine A2 (qw_ 5) rfl ?_
 refine C7 (aS rfl (aS rfl a0)) kR (A9C hss htt _) rfl ?_
 rintro r35 M35 J35 ⟨rfl, rfl, k35⟩
 have h35 := k35
 obtain ⟨a35, b35, c35, d35, e35, rfl, -⟩ := k35
 refine A4 rfl (C4 (cs := [D9, D9, D9, D9, D9]) kR rfl fun b18 => ?_)
 refine A4 rfl (A8 rfl rfl Cel.cel kR ln5 al5 UpC.upd ?_)
 refine A0 (kq 5 (kq 8 (kq 9 (A2j 10 11 12 13 14 15 16 17 18)))) ?_
 refine D1 [0, 1, 2, 3, 4, 5] [(0, 1), (1, 1), (3, 1), (2, 3), (4, 3), (5, 4), (6, 2)] kR kR fun hs => ?_
 refine G6 hs rfl (qw_ 5) rfl ?_
 refine G6 hs rfl (qw_ 5) rfl ?_
 refine G6 hs rfl (qw_ 5) rfl ?_
 refine Z8 [⟨2, 38, fun v B _ => B = [] ∧ Fe v (fS xc xd)⟩, ⟨4, 40, fun v B _ => B = [] ∧ Fe v (fM (fS xc xd) (fA xa xb))⟩, ⟨5, 19, fun v B _ => ∃ b, v = .pointer (some ⟨b, 0, none⟩) ∧ B = [(b, blk [.int .u64 0, .int .u64 0, .int .u64 0, .int .u64 0, .int .u64 0] 205)]⟩]
  (A7 (fun _ _ _ _ _ h => h) (A7 (fun _ _ _ _ _ h => h) (A7 (fun _ _ _ _ _ h => h) (I5)))) (show List.Nodup [38, 40, 19] by decide) (show List.Nodup [2, 4, 5] by decide) (A7 (C1 rfl) (A7 (C1 rfl) (A7 (C1 rfl) (I5))))
  (A7 ⟨_, rfl, fun vs bs R w hb ha => ⟨.inl rfl, ?_⟩⟩ (A7 ⟨_, rfl, fun vs bs R w hb ha => ⟨.inl rfl, ?_⟩⟩ (A7 ⟨_, rfl, fun vs bs R w hb ha => ⟨.inl rfl, ?_⟩⟩ (I5)))) ?_
 ·
  refine E3 (aS rfl (aS rfl (a0))) kR (A9C hC0 hD0 _) rfl ?_
  rintro r M1 J1 ⟨rfl, rfl, hh⟩
  exact ⟨_, rfl, rfl, hh⟩
 ·
  have g2 := ha _ (List.mem_of_getElem? (i := 0) rfl) kR
  replace g2 : (fun v B _ => B = [] ∧ Fe v (fS xc xd)) (vs 2) (bs 2) R := g2
  dsimp only at g2
  obtain ⟨-, k2⟩ := g2
  refine E3 (aS rfl (aS rfl (a0))) kR (A4U k2 hp _) rfl ?_
  rintro r M1 J1 ⟨rfl, rfl, hh⟩
  exact ⟨_, rfl, rfl, hh⟩
 ·
  exact C4 (cs := [D9, D9, D9, D9, D9]) kR rfl fun b => ⟨_, rfl, b, rfl, rfl⟩
 intro vs bs Jn0 hφ
 have g2 := ofH hφ
 dsimp only at g2
 replace hφ := ofT hφ
 have g4 := ofH hφ
 dsimp only at g4
 replace hφ := ofT hφ
 have g5 := ofH hφ
 dsimp only at g5
 clear hφ
 dsimp only [T9, N7, List.map, List.flatten, List.cons_append, List.nil_append]
 generalize bs 2 = B38 at *
 generalize bs 4 = B40 at *
 generalize bs 5 = B19 at *
 generalize vs 2 = u38 at *
 generalize vs 4 = u40 at *
 generalize vs 5 = u19 at *
 obtain ⟨rfl, k2⟩ := g2
 have h2 := k2
 obtain ⟨a2, b2, c2, d2, e2, rfl, -⟩ := k2
 obtain ⟨rfl, k4⟩ := g4
 have h4 := k4
 obtain ⟨a4, b4, c4, d4, e4, rfl, -⟩ := k4
 obtain ⟨b5, rfl, rfl⟩ := g5
 dsimp only [List.append_eq, List.nil_append, List.cons_append]
 have hda := h4
 clear h2 h4
 refine E6 rfl rfl rfl (A8 rfl rfl Cel.cel kR ln5 al5 UpC.upd ?_)
 refine F5 (kq 5 (kq 8 (kq 9 (A2j 10 11 12 13 15 16 17 18 19)))) ?_
 refine D1 [0, 1, 2, 3, 4, 5] [(0, 1), (1, 1), (3, 1), (2, 3), (4, 3), (5, 4), (6, 2)] kR kR fun hs => ?_
 refine G6 hs rfl (qw_ 5) rfl ?_
 refine G6 hs rfl (qw_ 5) rfl ?_
 refine G6 hs rfl (qw_ 5) rfl ?_
 refine Z8 [⟨2, 43, fun v B _ => B = [] ∧ Fe v (fA xc xd)⟩, ⟨4, 45, fun v B _ => B = [] ∧ Fe v (fM (fA xc xd) (fS xa xb))⟩, ⟨5, 20, fun v B _ => ∃ b, v = .pointer (some ⟨b, 0, none⟩) ∧ B = [(b, blk [.int .u64 0, .int .u64 0, .int .u64 0, .int .u64 0, .int .u64 0] 205)]⟩]
  (A7 (fun _ _ _ _ _ h => h) (A7 (fun _ _ _ _ _ h => h) (A7 (fun _ _ _ _ _ h => h) (I5)))) (show List.Nodup [43, 45, 20] by decide) (show List.Nodup [2, 4, 5] by decide) (A7 (C1 rfl) (A7 (C1 rfl) (A7 (C1 rfl) (I5))))
  (A7 ⟨_, rfl, fun vs bs R w hb ha => ⟨.inl rfl, ?_⟩⟩ (A7 ⟨_, rfl, fun vs bs R w hb ha => ⟨.inl rfl, ?_⟩⟩ (A7 ⟨_, rfl, fun vs bs R w hb ha => ⟨.inl rfl, ?_⟩⟩ (I5)))) ?_
 ·
  refine E3 (aS rfl (aS rfl (a0))) kR (A9D hC0 hD0 _) rfl ?_
  rintro r M1 J1 ⟨rfl, rfl, hh⟩
  exact ⟨_, rfl, rfl, hh⟩
 ·
  have g2 := ha _ (List.mem_of_getElem? (i := 0) rfl) kR
  replace g2 : (fun v B _ => B = [] ∧ Fe v (fA xc xd)) (vs 2) (bs 2) R := g2
  dsimp only at g2
  obtain ⟨-, k2⟩ := g2
  refine E3 (aS rfl (aS rfl (a0))) kR (A4U k2 hq _) rfl ?_
  rintro r M1 J1 ⟨rfl, rfl, hh⟩
  exact ⟨_, rfl, rfl, hh⟩
 ·
  exact C4 (cs := [D9, D9, D9, D9, D9]) kR rfl fun b => ⟨_, rfl, b, rfl, rfl⟩
 intro vs bs Jn0 hφ
 have g2 := ofH hφ
 dsimp only at g2
 replace hφ := ofT hφ
 have g4 := ofH hφ
 dsimp only at g4
 replace hφ := ofT hφ
 have g5 := ofH hφ
 dsimp only at g5
 clear hφ
 dsimp only [T9, N7, List.map, List.flatten, List.cons_append, List.nil_append]
 generalize bs 2 = B43 at *
 generalize bs 4 = B45 at *
 generalize bs 5 = B20 at *
 generalize vs 2 = u43 at *
 generalize vs 4 = u45 at *
 generalize vs 5 = u20 at *
 obtain ⟨rfl, k2⟩ := g2
 have h2 := k2
 obtain ⟨a2, b2, c2, d2, e2, rfl, -⟩ := k2
 obtain ⟨rfl, k4⟩ := g4
 have h4 := k4
 obtain ⟨a4, b4, c4, d4, e4, rfl, -⟩ := k4
 obtain ⟨b5, rfl, rfl⟩ := g5
 dsimp only [List.append_eq, List.nil_append, List.cons_append]
 have hcb := h4
 clear h2 h4
 refine E6 rfl rfl rfl (A8 rfl rfl Cel.cel kR ln5 al5 UpC.upd ?_)
 refine F5 (kq 5 (A2j 10 11 12 13 16 17 18 19 20)) (A1 ?_)
 refine A2 (qw_ 5) rfl ?_
 refine A2 (qw_ 5) rfl ?_
 refine C7 (aS rfl (aS rfl a0)) kR (A9D hda hcb _) rfl ?_
 rintro r48 M48 J48 ⟨rfl, rfl, k48⟩
 have h48 := k48
 obtain ⟨a48, b48, c48, d48, e48, rfl, -⟩ := k48
 refine C7 (aS rfl a0) kR (B4d h48 _) rfl ?_
 rintro r49 M49 J49 ⟨rfl, rfl, k49⟩
 have h49 := k49
 obtain ⟨a49, b49, c49, d49, e49, rfl, -⟩ := k49
 refine A4 rfl (C4 (cs := [D9, D9, D9, D9, D9]) kR rfl fun b21 => ?_)
 refine A4 rfl (A8 rfl rfl Cel.cel kR ln5 al5 UpC.upd ?_)
 refine A0 (kq 5 (kq 10 (A2j 11 12 13 16 17 18 19 20 21))) ?_
 refine D1 (.range 7) (zp 0 [1, 1, 1, 3, 3, 3, 4, 2]) kR kR fun hs => ?_
 refine G6 hs rfl (qw_ 5) rfl ?_
 refine G6 hs rfl (qw_ 5) rfl ?_
 refine G6 hs rfl (qw_ 5) rfl ?_
 refine Z8 [⟨3, 53, fun v B _ => B = [] ∧ Fe v (fS (fM (fS xc xd) (fA xa xb)) (fM (fA xc xd) (fS xa xb)))⟩, ⟨4, 54, fun v B _ => B = [] ∧ Fe v (fM (fS (fM (fS xc xd) (fA xa xb)) (fM (fA xc xd) (fS xa xb))) (fS (fM (fS xc xd) (fA xa xb)) (fM (fA xc xd) (fS xa xb))))⟩, ⟨5, 55, fun v B _ => B = [] ∧ Fe v (fM xu (fM (fS (fM (fS xc xd) (fA xa xb)) (fM (fA xc xd) (fS xa xb))) (fS (fM (fS xc xd) (fA xa xb)) (fM (fA xc xd) (fS xa xb)))))⟩, ⟨6, 22, fun v B _ => ∃ b, v = .pointer (some ⟨b, 0, none⟩) ∧ B = [(b, blk [.int .u64 0, .int .u64 0, .int .u64 0, .int .u64 0, .int .u64 0] 205)]⟩]
  (A7 (fun _ _ _ _ _ h => h) (A7 (fun _ _ _ _ _ h => h) (A7 (fun _ _ _ _ _ h => h) (A7 (fun _ _ _ _ _ h => h) (I5))))) (show List.Nodup [53, 54, 55, 22] by decide) (show List.Nodup [3, 4, 5, 6] by decide) (A7 (C1 rfl) (A7 (C1 rfl) (A7 (C1 rfl) (A7 (C1 rfl) (I5)))))
  (A7 ⟨_, rfl, fun vs bs R w hb ha => ⟨.inl rfl, ?_⟩⟩ (A7 ⟨_, rfl, fun vs bs R w hb ha => ⟨.inl rfl, ?_⟩⟩ (A7 ⟨_, rfl, fun vs bs R w hb ha => ⟨.inl rfl, ?_⟩⟩ (A7 ⟨_, rfl, fun vs bs R w hb ha => ⟨.inl rfl, ?_⟩⟩ (I5))))) ?_
 ·
  refine E3 (aS rfl (aS rfl (a0))) kR (A9C hda hcb _) rfl ?_
  rintro r M1 J1 ⟨rfl, rfl, hh⟩
  exact ⟨_, rfl, rfl, hh⟩
 ·
  have g3 := ha _ (List.mem_of_getElem? (i := 0) rfl) kR
  replace g3 : (fun v B _ => B = [] ∧ Fe v (fS (fM (fS xc xd) (fA xa xb)) (fM (fA xc xd) (fS xa xb)))) (vs 3) (bs 3) R := g3
  dsimp only at g3
  obtain ⟨-, k3⟩ := g3
  refine E3 (aS rfl (a0)) kR (B4d k3 _) rfl ?_
  rintro r M1 J1 ⟨rfl, rfl, hh⟩
  exact ⟨_, rfl, rfl, hh⟩
 ·
  have g4 := ha _ (List.mem_of_getElem? (i := 1) rfl) kR
  replace g4 : (fun v B _ => B = [] ∧ Fe v (fM (fS (fM (fS xc xd) (fA xa xb)) (fM (fA xc xd) (fS xa xb))) (fS (fM (fS xc xd) (fA xa xb)) (fM (fA xc xd) (fS xa xb))))) (vs 4) (bs 4) R := g4
  dsimp only at g4
  obtain ⟨-, k4⟩ := g4
  refine E3 (aS rfl (aS rfl (a0))) kR (A4U hU0 k4 _) rfl ?_
  rintro r M1 J1 ⟨rfl, rfl, hh⟩
  exact ⟨_, rfl, rfl, hh⟩
 ·
  exact C4 (cs := [D9, D9, D9, D9, D9]) kR rfl fun b => ⟨_, rfl, b, rfl, rfl⟩
 intro vs bs Jn0 hφ
 have g3 := ofH hφ
 dsimp only at g3
 replace hφ := ofT hφ
 have g4 := ofH hφ
 dsimp only at g4
 replace hφ := ofT hφ
 have g5 := ofH hφ
 dsimp only at g5
 replace hφ := ofT hφ
 have g6 := ofH hφ
 dsimp only at g6
 clear hφ
 dsimp only [T9, N7, List.map, List.flatten, List.cons_append, List.nil_append]
 generalize bs 3 = B53 at *
 generalize bs 4 = B54 at *
 generalize bs 5 = B55 at *
 generalize bs 6 = B22 at *
 generalize vs 3 = u53 at *
 generalize vs 4 = u54 at *
 generalize vs 5 = u55 at *
 generalize vs 6 = u22 at *
 obtain ⟨rfl, k3⟩ := g3
 have h3 := k3
 obtain ⟨a3, b3, c3, d3, e3, rfl, -⟩ := k3
 obtain ⟨rfl, k4⟩ := g4
 have h4 := k4
 obtain ⟨a4, b4, c4, d4, e4, rfl, -⟩ := k4
 obtain ⟨rfl, k5⟩ := g5
 have h5 := k5
 obtain ⟨a5, b5, c5, d5, e5, rfl, -⟩ := k5
 obtain ⟨b6, rfl, rfl⟩ := g6
 dsimp only [List.append_eq, List.nil_append, List.cons_append]
 have hzz := h5
 clear h3 h4 h5
 refine E6 rfl rfl rfl (A8 rfl rfl Cel.cel kR ln5 al5 UpC.upd ?_)
 refine F5 (A2j 10 11 12 13 16 17 18 21 22) ?_
 refine I2 ([(b10, blk [.int .u64 0, .int .u64 0, .int .u64 0, .int .u64 0, .int .u64 0] 205), (b11, blk [.int .u64 0, .int .u64 0, .int .u64 0, .int .u64 0, .int .u64 0] 205), (b12, blk [.int .u64 0, .int .u64 0, .int .u64 0, .int .u64 0, .int .u64 0] 205), (b13, blk [.int .u64 0, .int .u64 0, .int .u64 0, .int .u64 0, .int .u64 0] 205)]) (_) true (.range 15) [(0, 1), (1, 1), (3, 1), (4, 1), (6, 1), (10, 1), (11, 1), (2, 2), (5, 2), (7, 2), (8, 2), (9, 2), (12, 2), (13, 2), (14, 2), (15, 2)] kR kR PickC.perm fun hs K n0 hKm hKs hKn => ?_
 refine R5 hs rfl hKs (qw_ 5) ?_
 refine R5 hs rfl hKs (qw_ 5) ?_
 refine R5 hs rfl hKs (qw_ 5) ?_
 refine R5 hs rfl hKs (qw_ 5) ?_
 refine R5 hs rfl hKs (qw_ 5) ?_
 refine R5 hs rfl hKs (qw_ 5) ?_
 refine R5 hs rfl hKs (qw_ 5) ?_
 refine K8 [] _ rfl rfl (List.Perm.refl _) (fun _ h => by cases h) fun w0 => (E3 (aS rfl (aS rfl a0)) kR (A4U hss htt _) rfl ?_)
 rintro r58 M58 J58 ⟨rfl, rfl, k58⟩ _
 have h58 := k58
 obtain ⟨a58, b58, c58, d58, e58, rfl, -⟩ := k58
 dsimp only [List.nil_append, List.append_eq]
 refine K8 [] _ rfl rfl (List.Perm.refl _) (fun _ h => by cases h) fun w0 => (E3 (aS rfl a0) kR (A9E 121665 (by decide) _) rfl ?_)
 rintro r61 M61 J61 ⟨rfl, rfl, k61⟩ _
 have h61 := k61
 obtain ⟨a61, b61, c61, d61, e61, rfl, -⟩ := k61
 dsimp only [List.nil_append, List.append_eq]
 refine K8 [] _ rfl rfl (List.Perm.refl _) (fun _ h => by cases h) fun w0 => (E3 (aS rfl (aS rfl a0)) kR (A4U h61 h35 _) rfl ?_)
 rintro r63 M63 J63 ⟨rfl, rfl, k63⟩ _
 have h63 := k63
 obtain ⟨a63, b63, c63, d63, e63, rfl, -⟩ := k63
 dsimp only [List.nil_append, List.append_eq]
 refine K8 [] _ rfl rfl (List.Perm.refl _) (fun _ h => by cases h) fun w0 => (E3 (aS rfl (aS rfl a0)) kR (A9D hss h63 _) rfl ?_)
 rintro r64 M64 J64 ⟨rfl, rfl, k64⟩ _
 have h64 := k64
 obtain ⟨a64, b64, c64, d64, e64, rfl, -⟩ := k64
 dsimp only [List.nil_append, List.append_eq]
 refine K8 [] _ rfl rfl (List.Perm.refl _) (fun _ h => by cases h) fun w0 => (E3 (aS rfl (aS rfl a0)) kR (A4U h35 h64 _) rfl ?_)
 rintro r65 M65 J65 ⟨rfl, rfl, k65⟩ _
 have h65 := k65
 obtain ⟨a65, b65, c65, d65, e65, rfl, -⟩ := k65
 dsimp only [List.nil_append, List.append_eq]
 refine K8 _ _ rfl rfl (List.Perm.refl _) hKm fun w0 => (A8 (vs := [.int .u64 (a58 : Int), .int .u64 (b58 : Int), .int .u64 (c58 : Int), .int .u64 (d58 : Int), .int .u64 (e58 : Int)]) rfl rfl rfl kR (by rfl) al5 UpC.upd ?_)
 intro hK12
 refine K8 _ _ rfl rfl (List.Perm.refl _) (hK12 (hKn rfl)) fun w0 => (A8 (vs := [.int .u64 (a65 : Int), .int .u64 (b65 : Int), .int .u64 (c65 : Int), .int .u64 (d65 : Int), .int .u64 (e65 : Int)]) rfl rfl rfl kR (by rfl) al5 UpC.upd ?_)
 intro hK13
 refine K8 _ _ rfl rfl (List.Perm.refl _) (hK13 (hKn rfl)) fun w0 => (A8 (vs := [.int .u64 (a49 : Int), .int .u64 (b49 : Int), .int .u64 (c49 : Int), .int .u64 (d49 : Int), .int .u64 (e49 : Int)]) rfl rfl rfl kR (by rfl) al5 UpC.upd ?_)
 intro hK14
 refine P7 rfl rfl rfl (A8 rfl rfl Cel.cel kR ln5 al5 UpC.upd ?_)
 refine N9 (D8 10 11 12 13) (B4 ?_)
 exact ⟨_, [], [], B4W (n := 5) rfl rfl rfl rfl rfl kR At.mem At.mem At.mem At.mem rfl rfl rfl rfl, List.nil_sublist _, by simp, rfl, rfl, _, _, _, _, rfl, h58, h65, h49, hzz⟩
theorem B0x (v vp : Value) (wu wp : List Nat) (A : Mem) (hv : By A v wu) (hp : By A vp wp) : FnX Tryz.prog 98 [v, vp] [] A fun r M J => M = [] ∧ By J r (x25 wu wp) := by
 haveI := hv.cel
 haveI := hp.cel
 have hvl := hv.len
 have hpl := hp.len
 refine FnX.enter (N := 60) Tryz.func98 rfl rfl rfl fun w => ?_
 refine B0 (C9 0 1) (A1 (as_ (A0 (C9 0 1) (A1 (mv_ ?_)))))
 refine F7 (aS rfl a0) kR (B1J _ wu _ (hv.mono SubC.sub)) rfl ?_
 have hcn := A2O wu
 have hc256 := A8b hv.lt
 refine A4 rfl (C4 (cs := [zu8, zu8, zu8, zu8, zu8, zu8, zu8, zu8, zu8, zu8, zu8, zu8, zu8, zu8, zu8, zu8, zu8, zu8, zu8, zu8, zu8, zu8, zu8, zu8, zu8, zu8, zu8, zu8, zu8, zu8, zu8, zu8]) kR rfl fun b5 => ?_)
 refine A4 rfl (A8 (vs := nums .u8 (K3 wu)) rfl rfl rfl (by rw [nums_len, hcn]; kernel_rfl) (by rw [nums_len, hcn]; rfl) F4 UpC.upd ?_)
 refine A0 (C9 1 5) (A1 (mv_ ?_))
 refine C7 (aS rfl a0) kR (A6n vp wp _ (hp.rd.mono SubC.sub) hp.lt (by omega)) rfl ?_
 rintro r16 M16 J16 ⟨rfl, rfl, hU⟩
 have hUz := hU
 obtain ⟨ux0, ux1, ux2, ux3, ux4, rfl, -⟩ := hU
 refine A4 rfl (C4 (cs := [D9, D9, D9, D9, D9]) kR rfl fun b6 => ?_)
 refine A4 rfl (A8 (vs := [.int .u64 (ux0 : Int), .int .u64 (ux1 : Int), .int .u64 (ux2 : Int), .int .u64 (ux3 : Int), .int .u64 (ux4 : Int)]) rfl rfl rfl kR (by rfl) al5 UpC.upd ?_)
 refine A0 (C9 5 6) ?_
 refine I2 ([]) (_) true (.range 10) [(2, 1), (0, 3), (1, 3), (3, 3), (4, 3), (5, 3), (6, 3), (7, 4), (8, 2), (9, 2), (10, 2), (11, 2)] kR kR PickC.perm fun hs K n0 hKm hKs hKn => ?_
 refine R5 hs rfl hKs (qw_ 5) ?_
 refine A3Q [⟨0, 17, fun v B _ => B = [] ∧ Fe v (1)⟩, ⟨1, 18, fun v B _ => B = [] ∧ Fe v (0)⟩, ⟨3, 20, fun v B _ => B = [] ∧ Fe v (1)⟩, ⟨4, 7, fun v B _ => ∃ b, v = .pointer (some ⟨b, 0, none⟩) ∧ B = [(b, blk [.int .u64 0, .int .u64 0, .int .u64 0, .int .u64 0, .int .u64 0] 205)]⟩, ⟨5, 8, fun v B _ => ∃ b, v = .pointer (some ⟨b, 0, none⟩) ∧ B = [(b, blk [.int .u64 0, .int .u64 0, .int .u64 0, .int .u64 0, .int .u64 0] 205)]⟩, ⟨6, 9, fun v B _ => ∃ b, v = .pointer (some ⟨b, 0, none⟩) ∧ B = [(b, blk [.int .u64 0, .int .u64 0, .int .u64 0, .int .u64 0, .int .u64 0] 205)]⟩, ⟨7, 10, fun v B _ => ∃ b, v = .pointer (some ⟨b, 0, none⟩) ∧ B = [(b, blk [.int .u64 0, .int .u64 0, .int .u64 0, .int .u64 0, .int .u64 0] 205)]⟩]
  (A7 (fun _ _ _ _ _ h => h) (A7 (fun _ _ _ _ _ h => h) (A7 (fun _ _ _ _ _ h => h) (A7 (fun _ _ _ _ _ h => h) (A7 (fun _ _ _ _ _ h => h) (A7 (fun _ _ _ _ _ h => h) (A7 (fun _ _ _ _ _ h => h) (I5)))))))) (show List.Nodup [17, 18, 20, 7, 8, 9, 10] by decide) (show List.Nodup [0, 1, 3, 4, 5, 6, 7] by decide) (A7 (C1 rfl) (A7 (C1 rfl) (A7 (C1 rfl) (A7 (C1 rfl) (A7 (C1 rfl) (A7 (C1 rfl) (A7 (C1 rfl) (I5))))))))
  (A7 ⟨_, rfl, fun vs bs R w hb ha => ⟨.inl rfl, ?_⟩⟩ (A7 ⟨_, rfl, fun vs bs R w hb ha => ⟨.inl rfl, ?_⟩⟩ (A7 ⟨_, rfl, fun vs bs R w hb ha => ⟨.inl rfl, ?_⟩⟩ (A7 ⟨_, rfl, fun vs bs R w hb ha => ⟨.inl rfl, ?_⟩⟩ (A7 ⟨_, rfl, fun vs bs R w hb ha => ⟨.inl rfl, ?_⟩⟩ (A7 ⟨_, rfl, fun vs bs R w hb ha => ⟨.inl rfl, ?_⟩⟩ (A7 ⟨_, rfl, fun vs bs R w hb ha => ⟨.inl rfl, ?_⟩⟩ (I5)))))))) ?_
 ·
  refine E3 (aS rfl a0) kR (A9E 1 (by decide) _) rfl ?_
  rintro r M1 J1 ⟨rfl, rfl, hh⟩
  exact ⟨_, rfl, rfl, hh⟩
 ·
  refine E3 (aS rfl a0) kR (A9E 0 (by decide) _) rfl ?_
  rintro r M1 J1 ⟨rfl, rfl, hh⟩
  exact ⟨_, rfl, rfl, hh⟩
 ·
  refine E3 (aS rfl a0) kR (A9E 1 (by decide) _) rfl ?_
  rintro r M1 J1 ⟨rfl, rfl, hh⟩
  exact ⟨_, rfl, rfl, hh⟩
 ·
  exact C4 (cs := [D9, D9, D9, D9, D9]) kR rfl fun b => ⟨_, rfl, b, rfl, rfl⟩
 ·
  exact C4 (cs := [D9, D9, D9, D9, D9]) kR rfl fun b => ⟨_, rfl, b, rfl, rfl⟩
 ·
  exact C4 (cs := [D9, D9, D9, D9, D9]) kR rfl fun b => ⟨_, rfl, b, rfl, rfl⟩
 ·
  exact C4 (cs := [D9, D9, D9, D9, D9]) kR rfl fun b => ⟨_, rfl, b, rfl, rfl⟩
 intro vs bs Jn0 hφ hNN
 have n4 := hNN _ (List.mem_of_getElem? (i := 3) rfl)
 dsimp only at n4
 have n5 := hNN _ (List.mem_of_getElem? (i := 4) rfl)
 dsimp only at n5
 clear hNN
 have g0 := ofH hφ
 dsimp only at g0
 replace hφ := ofT hφ
 have g1 := ofH hφ
 dsimp only at g1
 replace hφ := ofT hφ
 have g3 := ofH hφ
 dsimp only at g3
 replace hφ := ofT hφ
 have g4 := ofH hφ
 dsimp only at g4
 replace hφ := ofT hφ
 have g5 := ofH hφ
 dsimp only at g5
 replace hφ := ofT hφ
 have g6 := ofH hφ
 dsimp only at g6
 replace hφ := ofT hφ
 have g7 := ofH hφ
 dsimp only at g7
 clear hφ
 dsimp only [T9, N7, List.map, List.flatten, List.cons_append, List.nil_append]
 generalize bs 0 = B17 at *
 generalize bs 1 = B18 at *
 generalize bs 3 = B20 at *
 generalize bs 4 = B7 at *
 generalize bs 5 = B8 at *
 generalize bs 6 = B9 at *
 generalize bs 7 = B10 at *
 generalize vs 0 = u17 at *
 generalize vs 1 = u18 at *
 generalize vs 3 = u20 at *
 generalize vs 4 = u7 at *
 generalize vs 5 = u8 at *
 generalize vs 6 = u9 at *
 generalize vs 7 = u10 at *
 obtain ⟨rfl, k0⟩ := g0
 obtain ⟨rfl, k1⟩ := g1
 obtain ⟨rfl, k3⟩ := g3
 have k0z := k0
 obtain ⟨pw0, pw1, pw2, pw3, pw4, rfl, -⟩ := k0
 have k1z := k1
 obtain ⟨px0, px1, px2, px3, px4, rfl, -⟩ := k1
 have k3z := k3
 obtain ⟨pq0, pq1, pq2, pq3, pq4, rfl, -⟩ := k3
 obtain ⟨b7, rfl, rfl⟩ := g4
 obtain ⟨b8, rfl, rfl⟩ := g5
 obtain ⟨b9, rfl, rfl⟩ := g6
 obtain ⟨b10, rfl, rfl⟩ := g7
 dsimp only [List.append_eq, List.nil_append, List.cons_append]
 refine K8 [(b7, blk [.int .u64 0, .int .u64 0, .int .u64 0, .int .u64 0, .int .u64 0] 205)] _ rfl rfl PickC.perm (fun x hx => by rw [List.mem_singleton.1 hx]; exact hKn rfl _ (n4 _ List.mem_cons_self)) fun w0 => (A8 (vs := [.int .u64 (pw0 : Int), .int .u64 (pw1 : Int), .int .u64 (pw2 : Int), .int .u64 (pw3 : Int), .int .u64 (pw4 : Int)]) rfl rfl rfl kR (by rfl) al5 UpC.upd ?_)
 intro hK8
 refine K8 [(b8, blk [.int .u64 0, .int .u64 0, .int .u64 0, .int .u64 0, .int .u64 0] 205)] _ rfl rfl PickC.perm (fun x hx => by rw [List.mem_singleton.1 hx]; exact hKn rfl _ (n5 _ List.mem_cons_self)) fun w0 => (A8 (vs := [.int .u64 (px0 : Int), .int .u64 (px1 : Int), .int .u64 (px2 : Int), .int .u64 (px3 : Int), .int .u64 (px4 : Int)]) rfl rfl rfl kR (by rfl) al5 UpC.upd ?_)
 intro hK9
 refine P7 rfl rfl rfl (A8 (vs := [.int .u64 (ux0 : Int), .int .u64 (ux1 : Int), .int .u64 (ux2 : Int), .int .u64 (ux3 : Int), .int .u64 (ux4 : Int)]) rfl rfl rfl kR (by rfl) al5 UpC.upd ?_)
 refine P7 rfl rfl rfl (A8 (vs := [.int .u64 (pq0 : Int), .int .u64 (pq1 : Int), .int .u64 (pq2 : Int), .int .u64 (pq3 : Int), .int .u64 (pq4 : Int)]) rfl rfl rfl kR (by rfl) al5 UpC.upd ?_)
 refine N9 (H9 5 6 7 8 9 10) (A3 (A1 (as_ (A0 (V6 5 6 7 8 9 10 11) (A6 ?_)))))
 refine A1f (M' := [(b10, blk [.int .u64 (pq0 : Int), .int .u64 (pq1 : Int), .int .u64 (pq2 : Int), .int .u64 (pq3 : Int), .int .u64 (pq4 : Int)] 205), (b9, blk [.int .u64 (ux0 : Int), .int .u64 (ux1 : Int), .int .u64 (ux2 : Int), .int .u64 (ux3 : Int), .int .u64 (ux4 : Int)] 205), (b8, blk [.int .u64 (px0 : Int), .int .u64 (px1 : Int), .int .u64 (px2 : Int), .int .u64 (px3 : Int), .int .u64 (px4 : Int)] 205), (b7, blk [.int .u64 (pw0 : Int), .int .u64 (pw1 : Int), .int .u64 (pw2 : Int), .int .u64 (pw3 : Int), .int .u64 (pw4 : Int)] 205), (b6, blk [.int .u64 (ux0 : Int), .int .u64 (ux1 : Int), .int .u64 (ux2 : Int), .int .u64 (ux3 : Int), .int .u64 (ux4 : Int)] 205), (b5, blk (nums .u8 (K3 wu)) 202)]) (Fit.pick (B := [_]) PickC.perm (Fit.pick (B := [_]) PickC.perm (Fit.pick (B := [_]) PickC.perm (Fit.pick (B := [_]) PickC.perm (Fit.pick (B := [_]) PickC.perm (Fit.eq rfl)))))) (fun _ h => h) ?_
 refine E2 (α := Nat × List Nat × List Nat × List Nat × List Nat) (fun y => [(5, .pointer (some ⟨b5, 0, none⟩)), (6, .pointer (some ⟨b6, 0, none⟩)), (7, .pointer (some ⟨b7, 0, none⟩)), (8, .pointer (some ⟨b8, 0, none⟩)), (9, .pointer (some ⟨b9, 0, none⟩)), (10, .pointer (some ⟨b10, 0, none⟩)), (11, .int .i64 ((y.1 : Int) - 1))]) (fun y => [(b10, blk (nums .u64 y.2.2.2.2) 205), (b9, blk (nums .u64 y.2.2.2.1) 205), (b8, blk (nums .u64 y.2.2.1) 205), (b7, blk (nums .u64 y.2.1) 205), (b6, blk (nums .u64 [ux0, ux1, ux2, ux3, ux4]) 205), (b5, blk (nums .u8 (K3 wu)) 202)]) (fun _ => []) (fun y => y.1 ≤ 255 ∧ Fe (.agg (nums .u64 y.2.1).toArray) (A8z (rdN wp) (bv (K3 wu)) (255 - y.1)).a ∧ Fe (.agg (nums .u64 y.2.2.1).toArray) (A8z (rdN wp) (bv (K3 wu)) (255 - y.1)).b ∧ Fe (.agg (nums .u64 y.2.2.2.1).toArray) (A8z (rdN wp) (bv (K3 wu)) (255 - y.1)).c ∧ Fe (.agg (nums .u64 y.2.2.2.2).toArray) (A8z (rdN wp) (bv (K3 wu)) (255 - y.1)).d) (fun y => y.1) (255, [pw0, pw1, pw2, pw3, pw4], [px0, px1, px2, px3, px4], [ux0, ux1, ux2, ux3, ux4], [pq0, pq1, pq2, pq3, pq4]) ⟨Nat.le_refl _, by dsimp only; rw [Nat.sub_self]; exact k0z, by dsimp only; rw [Nat.sub_self]; exact k1z, by dsimp only; rw [Nat.sub_self]; exact hUz, by dsimp only; rw [Nat.sub_self]; exact k3z⟩ (V6 5 6 7 8 9 10 11) (Fit.eq rfl) (fun _ h => by cases h) ?_
 clear k0z k1z k3z
 rintro ⟨j, la, lb, lc, ld⟩ ⟨hj, haz, hbz, hcz, hdz⟩
 dsimp only at hj haz hbz hcz hdz ⊢
 obtain ⟨za0, za1, za2, za3, za4, rfl⟩ := A3q haz
 obtain ⟨zb0, zb1, zb2, zb3, zb4, rfl⟩ := A3q hbz
 obtain ⟨zc0, zc1, zc2, zc3, zc4, rfl⟩ := A3q hcz
 obtain ⟨zd0, zd1, zd2, zd3, zd4, rfl⟩ := A3q hdz
 dsimp only [nums, List.map]
 refine A3 (A1 (mv_ ?_))
 refine A2 (E0 rfl rfl rfl) rfl ?_
 refine A0 (W4 5 6 7 8 9 10 11 22) ?_
 refine C5 rfl (fun hc => ?_) (fun hc => ?_)
 ·
  have hj0 : 0 < j := by simp at hc; omega
  obtain ⟨i, rfl⟩ : ∃ i, j = i + 1 := ⟨j - 1, by omega⟩
  rw [show (((i + 1 : Nat) : Int) - 1) = (i : Int) by omega]
  have hts := A8a (u := rdN wp) (n := bv (K3 wu)) (show i < 255 by omega)
  have hbit := A7O hc256 i
  have hpb : (K3 wu).getD (i / 8) 0 < 256 := Go.Px.getD_lt hc256 (by decide)
  have hz2 : bv (K3 wu) / 2 ^ i % 2 < 2 := Nat.mod_lt _ (by decide)
  generalize A8z (rdN wp) (bv (K3 wu)) (255 - (i + 1)) = S at *
  generalize bv (K3 wu) / 2 ^ i % 2 = zb at *
  obtain ⟨bt, hbt⟩ : ∃ bt, decide (zb = 1) = bt := ⟨_, rfl⟩
  rw [hbt] at hts
  refine A5 (nx (V6 5 6 7 8 9 10 11) (A3 (A6 (A1 (mv_ ?_)))))
  refine A2 (A1S 8 rfl rfl rfl (by decide) (A3E (by omega))) rfl ?_
  refine A2 (D7 (e := 5) (n := 32) (sz := 1) (i := i / 8) rfl rfl kR kR rfl (by omega)) rfl ?_
  refine A2 (R9 (i / 8) rfl kR At.mem (by omega) (by omega)) rfl ?_
  refine mv_ ?_
  refine A2 (A1T 8 rfl rfl rfl (by decide)) rfl ?_
  refine A2 (A5m (a := (K3 wu).getD (i / 8) 0) (b := i % 8) rfl rfl rfl rfl (by show _ ≤ 8; omega)) rfl ?_
  refine A2 (hbit ▸ K2 1 2 rfl rfl rfl rfl rfl (by show _ < 256; exact Nat.lt_of_le_of_lt (Nat.div_le_self _ _) hpb) (by decide)) rfl ?_
  refine A2 (hbt ▸ E1 (decide (zb = 1)) rfl rfl (by rcases (show zb = 0 ∨ zb = 1 by omega) with h | h <;> subst h <;> rfl)) rfl ?_
  refine as_ (A0 (W4 5 6 7 8 9 10 11 12) (A3 ?_))
  cases bt
  ·
   refine A1 (mv_ (A0 (A2j 5 6 7 8 9 10 11 12 34) ?_))
   refine C6 rfl ?_
   refine A5 (nx (W4 5 6 7 8 9 10 11 12) (A1 ?_))
   refine A2 (qw_ 5) rfl ?_
   refine A2 (qw_ 5) rfl ?_
   refine A2 (qw_ 5) rfl ?_
   refine A2 (qw_ 5) rfl ?_
   refine A2 (qw_ 5) rfl ?_
   refine C7 (aS rfl (aS rfl (aS rfl (aS rfl (aS rfl a0))))) kR (B0w _ _ _ _ _ (rdN wp) _ _ _ _ _ hUz haz hbz hcz hdz) rfl ?_
   rintro r45 M45 J45 ⟨rfl, rfl, v0, v1, v2, v3, rfl, k0, k1, k2, k3⟩
   have k0z := k0
   obtain ⟨pw0, pw1, pw2, pw3, pw4, rfl, -⟩ := k0
   have k1z := k1
   obtain ⟨px0, px1, px2, px3, px4, rfl, -⟩ := k1
   have k2z := k2
   obtain ⟨py0, py1, py2, py3, py4, rfl, -⟩ := k2
   have k3z := k3
   obtain ⟨pq0, pq1, pq2, pq3, pq4, rfl, -⟩ := k3
   refine mv_ ?_
   refine A2 (A04 rfl) rfl ?_
   refine A2 (A0U rfl) rfl ?_
   refine A2 (q_x2 rfl) rfl ?_
   refine A2 (q_x3 rfl) rfl ?_
   refine A4 rfl (A8 (vs := [.int .u64 (pw0 : Int), .int .u64 (pw1 : Int), .int .u64 (pw2 : Int), .int .u64 (pw3 : Int), .int .u64 (pw4 : Int)]) rfl rfl rfl kR (by rfl) al5 UpC.upd ?_)
   refine A4 rfl (A8 (vs := [.int .u64 (px0 : Int), .int .u64 (px1 : Int), .int .u64 (px2 : Int), .int .u64 (px3 : Int), .int .u64 (px4 : Int)]) rfl rfl rfl kR (by rfl) al5 UpC.upd ?_)
   refine A4 rfl (A8 (vs := [.int .u64 (py0 : Int), .int .u64 (py1 : Int), .int .u64 (py2 : Int), .int .u64 (py3 : Int), .int .u64 (py4 : Int)]) rfl rfl rfl kR (by rfl) al5 UpC.upd ?_)
   refine A4 rfl (A8 (vs := [.int .u64 (pq0 : Int), .int .u64 (pq1 : Int), .int .u64 (pq2 : Int), .int .u64 (pq3 : Int), .int .u64 (pq4 : Int)]) rfl rfl rfl kR (by rfl) al5 UpC.upd ?_)
   refine A0 (W4 5 6 7 8 9 10 11 12) (A1 (mv_ (A0 (W4 5 6 7 8 9 10 11 50) ?_)))
   refine C6 rfl ?_
   refine A5 (nb (nx (V6 5 6 7 8 9 10 11) (A9 (mv_ ?_))))
   refine A2 (D5 ((i : Int) - 1) rfl rfl (Y6 rfl (by omega) (by omega))) rfl ?_
   refine as_ (C2 ?_)
   exact rn (i, [pw0, pw1, pw2, pw3, pw4], [px0, px1, px2, px3, px4], [py0, py1, py2, py3, py4], [pq0, pq1, pq2, pq3, pq4]) ⟨by dsimp only; omega, by dsimp only; rw [hts]; exact k0z, by dsimp only; rw [hts]; exact k1z, by dsimp only; rw [hts]; exact k2z, by dsimp only; rw [hts]; exact k3z⟩ (by dsimp only; omega) (V6 5 6 7 8 9 10 11) (show Fit _ ([(b10, blk [.int .u64 (pq0 : Int), .int .u64 (pq1 : Int), .int .u64 (pq2 : Int), .int .u64 (pq3 : Int), .int .u64 (pq4 : Int)] 205), (b9, blk [.int .u64 (py0 : Int), .int .u64 (py1 : Int), .int .u64 (py2 : Int), .int .u64 (py3 : Int), .int .u64 (py4 : Int)] 205), (b8, blk [.int .u64 (px0 : Int), .int .u64 (px1 : Int), .int .u64 (px2 : Int), .int .u64 (px3 : Int), .int .u64 (px4 : Int)] 205), (b7, blk [.int .u64 (pw0 : Int), .int .u64 (pw1 : Int), .int .u64 (pw2 : Int), .int .u64 (pw3 : Int), .int .u64 (pw4 : Int)] 205), (b6, blk [.int .u64 (ux0 : Int), .int .u64 (ux1 : Int), .int .u64 (ux2 : Int), .int .u64 (ux3 : Int), .int .u64 (ux4 : Int)] 205), (b5, blk (nums .u8 (K3 wu)) 202)]) from (Fit.pick (B := [_]) PickC.perm (Fit.pick (B := [_]) PickC.perm (Fit.pick (B := [_]) PickC.perm (Fit.pick (B := [_]) PickC.perm (Fit.pick (B := [_]) PickC.perm (Fit.eq rfl))))))) (fun _ h => by cases h)
  ·
   refine A1 (mv_ (A0 (A2j 5 6 7 8 9 10 11 12 34) ?_))
   refine D0 rfl ?_
   refine A0O ([(b7, blk [.int .u64 (za0 : Int), .int .u64 (za1 : Int), .int .u64 (za2 : Int), .int .u64 (za3 : Int), .int .u64 (za4 : Int)] 205)]) (_) true [0, 1, 2, 3, 4] [(0, 1), (1, 1), (3, 1), (2, 2), (4, 2), (5, 2), (6, 2), (7, 2)] kR kR PickC.perm fun hs K n0 hKm hKs hKn => ?_
   refine R5 hs rfl hKs (qw_ 5) ?_
   refine R5 hs rfl hKs (qw_ 5) ?_
   refine R5 hs rfl hKs (qw_ 5) ?_
   refine K8 _ _ rfl rfl (List.Perm.refl _) hKm fun w0 => (OpQ.opL (V4 (n := 5) rfl kR At.mem (by rfl)) rfl ?_)
   intro hK2
   refine K8 _ _ rfl rfl (List.Perm.refl _) (hK2 (hKn rfl)) fun w0 => (A8 (vs := [.int .u64 (zc0 : Int), .int .u64 (zc1 : Int), .int .u64 (zc2 : Int), .int .u64 (zc3 : Int), .int .u64 (zc4 : Int)]) rfl rfl rfl kR (by rfl) al5 UpC.upd ?_)
   intro hK4
   refine P7 rfl rfl rfl (A8 (vs := [.int .u64 (zd0 : Int), .int .u64 (zd1 : Int), .int .u64 (zd2 : Int), .int .u64 (zd3 : Int), .int .u64 (zd4 : Int)]) rfl rfl rfl kR (by rfl) al5 UpC.upd ?_)
   refine P7 rfl rfl rfl (A8 (vs := [.int .u64 (za0 : Int), .int .u64 (za1 : Int), .int .u64 (za2 : Int), .int .u64 (za3 : Int), .int .u64 (za4 : Int)]) rfl rfl rfl kR (by rfl) al5 UpC.upd ?_)
   refine P7 rfl rfl rfl (A8 (vs := [.int .u64 (zb0 : Int), .int .u64 (zb1 : Int), .int .u64 (zb2 : Int), .int .u64 (zb3 : Int), .int .u64 (zb4 : Int)]) rfl rfl rfl kR (by rfl) al5 UpC.upd ?_)
   refine N9 (W4 5 6 7 8 9 10 11 12) (A1 ?_)
   refine A2 (qw_ 5) rfl ?_
   refine A2 (qw_ 5) rfl ?_
   refine A2 (qw_ 5) rfl ?_
   refine A2 (qw_ 5) rfl ?_
   refine A2 (qw_ 5) rfl ?_
   refine C7 (aS rfl (aS rfl (aS rfl (aS rfl (aS rfl a0))))) kR (B0w _ _ _ _ _ (rdN wp) _ _ _ _ _ hUz hcz hdz haz hbz) rfl ?_
   rintro r45 M45 J45 ⟨rfl, rfl, v0, v1, v2, v3, rfl, k0, k1, k2, k3⟩
   have k0z := k0
   obtain ⟨pw0, pw1, pw2, pw3, pw4, rfl, -⟩ := k0
   have k1z := k1
   obtain ⟨px0, px1, px2, px3, px4, rfl, -⟩ := k1
   have k2z := k2
   obtain ⟨py0, py1, py2, py3, py4, rfl, -⟩ := k2
   have k3z := k3
   obtain ⟨pq0, pq1, pq2, pq3, pq4, rfl, -⟩ := k3
   refine mv_ ?_
   refine A2 (A04 rfl) rfl ?_
   refine A2 (A0U rfl) rfl ?_
   refine A2 (q_x2 rfl) rfl ?_
   refine A2 (q_x3 rfl) rfl ?_
   refine A4 rfl (A8 (vs := [.int .u64 (pw0 : Int), .int .u64 (pw1 : Int), .int .u64 (pw2 : Int), .int .u64 (pw3 : Int), .int .u64 (pw4 : Int)]) rfl rfl rfl kR (by rfl) al5 UpC.upd ?_)
   refine A4 rfl (A8 (vs := [.int .u64 (px0 : Int), .int .u64 (px1 : Int), .int .u64 (px2 : Int), .int .u64 (px3 : Int), .int .u64 (px4 : Int)]) rfl rfl rfl kR (by rfl) al5 UpC.upd ?_)
   refine A4 rfl (A8 (vs := [.int .u64 (py0 : Int), .int .u64 (py1 : Int), .int .u64 (py2 : Int), .int .u64 (py3 : Int), .int .u64 (py4 : Int)]) rfl rfl rfl kR (by rfl) al5 UpC.upd ?_)
   refine A4 rfl (A8 (vs := [.int .u64 (pq0 : Int), .int .u64 (pq1 : Int), .int .u64 (pq2 : Int), .int .u64 (pq3 : Int), .int .u64 (pq4 : Int)]) rfl rfl rfl kR (by rfl) al5 UpC.upd ?_)
   refine A0 (W4 5 6 7 8 9 10 11 12) (A1 (mv_ (A0 (W4 5 6 7 8 9 10 11 50) ?_)))
   refine D0 rfl ?_
   refine A0O ([(b7, blk [.int .u64 (pw0 : Int), .int .u64 (pw1 : Int), .int .u64 (pw2 : Int), .int .u64 (pw3 : Int), .int .u64 (pw4 : Int)] 205)]) (_) true [0, 1, 2, 3, 4] [(0, 1), (1, 1), (3, 1), (2, 2), (4, 2), (5, 2), (6, 2), (7, 2)] kR kR PickC.perm fun hs K n0 hKm hKs hKn => ?_
   refine R5 hs rfl hKs (qw_ 5) ?_
   refine R5 hs rfl hKs (qw_ 5) ?_
   refine R5 hs rfl hKs (qw_ 5) ?_
   refine K8 _ _ rfl rfl (List.Perm.refl _) hKm fun w0 => (OpQ.opL (V4 (n := 5) rfl kR At.mem (by rfl)) rfl ?_)
   intro hK2
   refine K8 _ _ rfl rfl (List.Perm.refl _) (hK2 (hKn rfl)) fun w0 => (A8 (vs := [.int .u64 (py0 : Int), .int .u64 (py1 : Int), .int .u64 (py2 : Int), .int .u64 (py3 : Int), .int .u64 (py4 : Int)]) rfl rfl rfl kR (by rfl) al5 UpC.upd ?_)
   intro hK4
   refine P7 rfl rfl rfl (A8 (vs := [.int .u64 (pq0 : Int), .int .u64 (pq1 : Int), .int .u64 (pq2 : Int), .int .u64 (pq3 : Int), .int .u64 (pq4 : Int)]) rfl rfl rfl kR (by rfl) al5 UpC.upd ?_)
   refine P7 rfl rfl rfl (A8 (vs := [.int .u64 (pw0 : Int), .int .u64 (pw1 : Int), .int .u64 (pw2 : Int), .int .u64 (pw3 : Int), .int .u64 (pw4 : Int)]) rfl rfl rfl kR (by rfl) al5 UpC.upd ?_)
   refine P7 rfl rfl rfl (A8 (vs := [.int .u64 (px0 : Int), .int .u64 (px1 : Int), .int .u64 (px2 : Int), .int .u64 (px3 : Int), .int .u64 (px4 : Int)]) rfl rfl rfl kR (by rfl) al5 UpC.upd ?_)
   refine A5k (nb (nx (V6 5 6 7 8 9 10 11) (A9 (mv_ ?_))))
   refine A2 (D5 ((i : Int) - 1) rfl rfl (Y6 rfl (by omega) (by omega))) rfl ?_
   refine as_ (C2 ?_)
   exact rn (i, [py0, py1, py2, py3, py4], [pq0, pq1, pq2, pq3, pq4], [pw0, pw1, pw2, pw3, pw4], [px0, px1, px2, px3, px4]) ⟨by dsimp only; omega, by dsimp only; rw [hts]; exact k2z, by dsimp only; rw [hts]; exact k3z, by dsimp only; rw [hts]; exact k0z, by dsimp only; rw [hts]; exact k1z⟩ (by dsimp only; omega) (V6 5 6 7 8 9 10 11) (show Fit _ ([(b10, blk [.int .u64 (px0 : Int), .int .u64 (px1 : Int), .int .u64 (px2 : Int), .int .u64 (px3 : Int), .int .u64 (px4 : Int)] 205), (b9, blk [.int .u64 (pw0 : Int), .int .u64 (pw1 : Int), .int .u64 (pw2 : Int), .int .u64 (pw3 : Int), .int .u64 (pw4 : Int)] 205), (b8, blk [.int .u64 (pq0 : Int), .int .u64 (pq1 : Int), .int .u64 (pq2 : Int), .int .u64 (pq3 : Int), .int .u64 (pq4 : Int)] 205), (b7, blk [.int .u64 (py0 : Int), .int .u64 (py1 : Int), .int .u64 (py2 : Int), .int .u64 (py3 : Int), .int .u64 (py4 : Int)] 205), (b6, blk [.int .u64 (ux0 : Int), .int .u64 (ux1 : Int), .int .u64 (ux2 : Int), .int .u64 (ux3 : Int), .int .u64 (ux4 : Int)] 205), (b5, blk (nums .u8 (K3 wu)) 202)]) from (Fit.pick (B := [_]) PickC.perm (Fit.pick (B := [_]) PickC.perm (Fit.pick (B := [_]) PickC.perm (Fit.pick (B := [_]) PickC.perm (Fit.pick (B := [_]) PickC.perm (Fit.eq rfl))))))) (fun _ h => by cases h)
 ·
  have hj0 : j = 0 := by simp at hc; omega
  subst hj0
  refine D6 (te (re (be rfl (nx (C9 7 8) ?_))))
  refine D1 [0, 1, 2, 3, 4, 5] (zp 0 [1, 1, 2, 2, 2, 0]) kR kR fun hs => ?_
  refine G6 hs rfl (qw_ 5) rfl ?_
  refine G6 hs rfl (qw_ 5) rfl ?_
  refine N4 rfl (aS rfl a0) kR (B4U hbz _) rfl ?_
  rintro r57 M57 J57 ⟨rfl, rfl, k57⟩
  have h57 := k57
  obtain ⟨a57, b57, c57, d57, e57, rfl, -⟩ := k57
  refine N4 rfl (aS rfl (aS rfl a0)) kR (A4U haz h57 _) rfl ?_
  rintro r58 M58 J58 ⟨rfl, rfl, k58⟩
  have h58 := k58
  obtain ⟨a58, b58, c58, d58, e58, rfl, -⟩ := k58
  refine N4 rfl (aS rfl a0) kR ((A4S _ _ h58 _).frz0) rfl ?_
  rintro r59 M59 J59 ⟨rfl, hs59⟩
  haveI := hs59.cel
  refine fa_ hs ?_
  refine F5 (D2 4) (B4 ?_)
  exact ⟨_, [], J59, I9 rfl rfl, List.nil_sublist _, fun x hx => by simp [hx], rfl, B5e hs59 (A3p _ _).symm (B3I _ _) (by rw [A3p]; decide) fun _ h => h⟩
theorem B3J (v : Value) (wu : List Nat) (A : Mem) (hv : By A v wu) : FnX Tryz.prog 52 [v] [] A fun r M J => M = [] ∧ By J r (A2d wu) := by
 haveI := hv.cel
 refine FnX.enterZ (N := 10) Tryz.func52 rfl rfl rfl fun w_ => ?_
 refine B0 (D2 0) (A1 (as_ (A0 (D2 0) (A1 ?_))))
 refine A4 rfl (A21 (by_ := 1) (k := .u8) (e := 5) 32 rfl rfl kR rfl rfl (by omega) (by omega) rfl fun b4 => ?_)
 refine as_ (A0 (C9 0 3) (A1 (mv_ ?_)))
 refine A2 (K9 (e := 5) (sz := 1) (i := 0) rfl rfl kR kR (by omega) (by omega)) rfl ?_
 refine A4 rfl (P6 0 (ws := List.replicate 32 0) rfl rfl kR rfl (by simp) UpC.upd ?_)
 refine A0 (C9 0 3) (A1 (mv_ (mv_ ?_)))
 refine C7 (aS rfl (aS rfl a0)) kR (B0x v _ wu B1I _ (hv.mono SubC.sub) ⟨Rd.whole (n := 32) (cs := nums .u8 B1I) At.mem (by rfl), by decide, by decide⟩) rfl ?_
 rintro r9 M9 J9 ⟨rfl, h9⟩
 haveI := h9.cel
 refine as_ (A0 (D2 2) (B4 ?_))
 exact ⟨_, [], [], I9 rfl rfl, Fit.sub (List.nil_sublist _), rfl, h9.mono SubC.sub⟩

end Go.Proofs.YthbhpfefdnffaaaGreatDoor
namespace Go.Px
open Go.ChangeShapes Go.WideShapes Go.ChangeAt Go.RowKit
structure Byi (R : Mem) (v : Value) (w : List Nat) : Prop where
  rd : Rd R 1 v w.length (nums .u8 w)
  lt : ∀ x ∈ w, x < 256
  len : w.length ≤ maxLen
theorem Byi.mono {R R' : Mem} {v : Value} {w : List Nat} (h : Byi R v w) (hR : ∀ x, x ∈ R → x ∈ R') : Byi R' v w := ⟨h.rd.mono hR, h.lt, h.len⟩
theorem By.i {R : Mem} {v : Value} {w : List Nat} (h : By R v w) : Byi R v w := ⟨h.rd, h.lt, h.max⟩
theorem Byi.by {R : Mem} {v : Value} {w : List Nat} (h : Byi R v w) (hl : w.length ≤ 16777216) : By R v w := ⟨h.rd, h.lt, hl⟩
theorem Byi.cel {R : Mem} {v : Value} {w : List Nat} (h : Byi R v w) : Cel v [v] := h.rd.cel
theorem Byi.one {R : Mem} {v : Value} {w : List Nat} (h : Byi R v w) : v.oneCell' = true := h.rd.one
structure Byz (R : Mem) (v : Value) (w : List Nat) : Prop extends Byi R v w where
  sz : w.length ≤ reachBytes
theorem Byz.mono {R R' : Mem} {v : Value} {w : List Nat} (h : Byz R v w) (hR : ∀ x, x ∈ R → x ∈ R') : Byz R' v w := ⟨h.toByi.mono hR, h.sz⟩
section
variable {H : Type} {enc : TypeId × Value → H} {P : Program} {w : World} {spare : Nat → Bool} {held : Bool} {fuel : Nat} {t e : TypeId} {cs : List Value} {x : DataW H × List MemPlace}
end
end Go.Px

namespace Go.Proofs.YthbhpfefdnffaaaGreatDoor
open Go.Px
theorem Glb.s {A : Mem} (h : Glb A) : GlS A := ⟨h.first, h.round⟩
def Q9 (s : Ps) (w : List Nat) : Ps := if s.real then s else B1m s w
noncomputable def L8 (s : Ps) (w : List Nat) : List Nat := if s.real then A2d (U5 w 32) else B1n s w
noncomputable def skK2 (s : Ps) (w : List Nat) : List Nat := if s.real then B5c (U5 w 32) else B1n s w
def Y3 (s : Ps) (w u : List Nat) : Ps := if s.real then s else B1o s w u
noncomputable def A0B (s : Ps) (w u : List Nat) : List Nat := if s.real then x25 (U5 w 32) (U5 u 32) else B2g s w u
def sgS2 (s : Ps) (w m : List Nat) : Ps := if s.real then s else B4a s w fun x => B37 x m
noncomputable def sgK2 (s : Ps) (w m : List Nat) : List Nat := if s.real then B5d (U5 w 32) m else U5 (B4Q s w fun x => B37 x m) 64
theorem A9L (pb : Nat) (s : Ps) (hr : s.real = true) (v : Value) (w : List Nat) (MP A : Mem) (hP : Prm pb s MP) (hv : By A v w) : FnX Tryz.prog 17 [.pointer (some ⟨pb, 0, none⟩), v] MP A fun q M J => Prm pb s M ∧ By J q (A2d (U5 w 32)) := by
 obtain ⟨sv, bt, bm, B, MT, rfl, hby, hT⟩ := hP.ex
 haveI := hv.cel
 haveI := hby.cel
 have hvl := hv.len
 refine FnX.enterZ (N := 26) Tryz.func17 rfl rfl rfl fun w_ => ?_
 refine B0 (C9 0 1) (A1 (as_ (A0 (C9 0 1) (A3 (A1 (mv_ ?_))))))
 refine A2 (G4 (e := 117) rfl rfl kR) rfl ?_
 refine A0 (D3 0 1 6) ?_
 refine C6 rfl ?_
 refine A5 (nx (C9 0 1) (A3 (A1 (mv_ ?_))))
 refine A2 (G1 rfl) rfl ?_
 refine A2 (qf_ 0 0) rfl ?_
 refine A2 ql_ rfl ?_
 refine A2 (E1 true rfl rfl (eqT (by rw [hr]; rfl))) rfl ?_
 refine A0 (D3 0 1 11) ?_
 refine D0 rfl ?_
 refine A1 (mv_ ?_)
 refine C7 (aS rfl (aS rfl a0)) kR (A00 v w 32 _ (hv.mono SubC.sub) (by decide)) rfl ?_
 rintro r13 M13 J13 ⟨rfl, h13⟩
 haveI := h13.cel
 refine C7 (aS rfl a0) kR (B3J _ _ _ (h13.mono SubC.sub)) rfl ?_
 rintro r14 M14 J14 ⟨rfl, h14⟩
 haveI := h14.cel
 refine as_ (A0 (D2 4) (B4 (tr ?_)))
 exact ⟨_, (pb, blk [.int .u8 (md s.real), sv, .int .i64 (((s.n : Nat) : Int)), .pointer (some ⟨bt, 0, none⟩)] 117) :: (B ++ MT), [], I9 rfl rfl, (Fit.none (Fit.pick (B := [_]) PickC.perm (Fit.pick PickC.perm (Fit.last PickC.perm)))), ⟨sv, bt, bm, B, MT, rfl, hby, hT⟩, h14.mono SubC.sub⟩
theorem B1K (pb : Nat) (s : Ps) (hr : s.real = true) (v v2 : Value) (w u : List Nat) (MP A : Mem) (hP : Prm pb s MP) (hv : By A v w) (hu : By A v2 u) : FnX Tryz.prog 60 [.pointer (some ⟨pb, 0, none⟩), v, v2] MP A fun q M J => Prm pb s M ∧ By J q (x25 (U5 w 32) (U5 u 32)) := by
 obtain ⟨sv, bt, bm, B, MT, rfl, hby, hT⟩ := hP.ex
 haveI := hv.cel
 haveI := hby.cel
 have hvl := hv.len
 haveI := hu.cel
 refine FnX.enterZ (N := 31) Tryz.func60 rfl rfl rfl fun w_ => ?_
 refine B0 (D3 0 1 2) (A1 (as_ (A0 (D3 0 1 2) (A3 (A1 (mv_ ?_))))))
 refine A2 (G4 (e := 117) rfl rfl kR) rfl ?_
 refine A0 (D8 0 1 2 8) ?_
 refine C6 rfl ?_
 refine A5 (nx (D3 0 1 2) (A3 (A1 (mv_ ?_))))
 refine A2 (G1 rfl) rfl ?_
 refine A2 (qf_ 0 0) rfl ?_
 refine A2 ql_ rfl ?_
 refine A2 (E1 true rfl rfl (eqT (by rw [hr]; rfl))) rfl ?_
 refine A0 (D8 0 1 2 13) ?_
 refine D0 rfl ?_
 refine A1 (mv_ ?_)
 refine C7 (aS rfl (aS rfl a0)) kR (A00 v w 32 _ (hv.mono SubC.sub) (by decide)) rfl ?_
 rintro r15 M15 J15 ⟨rfl, h15⟩
 haveI := h15.cel
 refine mv_ ?_
 refine C7 (aS rfl (aS rfl a0)) kR (A00 v2 u 32 _ (hu.mono SubC.sub) (by decide)) rfl ?_
 rintro r17 M17 J17 ⟨rfl, h17⟩
 haveI := h17.cel
 refine C7 (aS rfl (aS rfl a0)) kR (B0x _ _ _ _ _ (h15.mono SubC.sub) (h17.mono SubC.sub)) rfl ?_
 rintro r18 M18 J18 ⟨rfl, h18⟩
 haveI := h18.cel
 refine as_ (A0 (D2 6) (B4 (tr ?_)))
 exact ⟨_, (pb, blk [.int .u8 (md s.real), sv, .int .i64 (((s.n : Nat) : Int)), .pointer (some ⟨bt, 0, none⟩)] 117) :: (B ++ MT), [], I9 rfl rfl, (Fit.none (Fit.pick (B := [_]) PickC.perm (Fit.pick PickC.perm (Fit.last PickC.perm)))), ⟨sv, bt, bm, B, MT, rfl, hby, hT⟩, h18.mono SubC.sub⟩
theorem A5O (pb : Nat) (s : Ps) (v : Value) (w : List Nat) (MP A : Mem) (hP : Prm pb s MP) (hn : s.ts.length < 1048576) (hv : By A v w) (hG : Glb A) : FnX Tryz.prog 17 [.pointer (some ⟨pb, 0, none⟩), v] MP A fun q M J => Prm pb (Q9 s w) M ∧ By J q (L8 s w) := by
  cases hr : s.real with
  | true => unfold Q9 L8; rw [hr]; exact A9L pb s hr v w MP A hP hv
  | false => unfold Q9 L8; rw [hr]; exact A9n pb s hr v w MP A hP hn hv hG
theorem B1L (pb : Nat) (s : Ps) (v v2 : Value) (w u : List Nat) (MP A : Mem) (hP : Prm pb s MP) (hn : s.ts.length + 1 < 1048576) (hv : By A v w) (hu : By A v2 u) (hG : Glb A) : FnX Tryz.prog 60 [.pointer (some ⟨pb, 0, none⟩), v, v2] MP A fun q M J => Prm pb (Y3 s w u) M ∧ By J q (A0B s w u) := by
  cases hr : s.real with
  | true => unfold Y3 A0B; rw [hr]; exact B1K pb s hr v v2 w u MP A hP hv hu
  | false => unfold Y3 A0B; rw [hr]; exact A9o pb s hr v v2 w u MP A hP hn hv hu hG
structure Ext (s s' : Ps) : Prop where
  p : Pext s s'
  seed : s'.seed = s.seed
  n : s.n ≤ s'.n
theorem Ext.refl (s : Ps) : Ext s s := ⟨Pext.refl s, rfl, Nat.le_refl _⟩
theorem Ext.trans {a b c : Ps} (h : Ext a b) (h' : Ext b c) : Ext a c := ⟨h.p.trans h'.p, h'.seed.trans h.seed, Nat.le_trans h.n h'.n⟩
theorem A4Z (ts : List Tm) (t : Tm) : ∃ l, add ts t = ts ++ l := by
  unfold add
  split
  · exact ⟨[], by simp⟩
  · exact ⟨_, rfl⟩
theorem A40 (ts : List Tm) (w : List Nat) : ∃ l, rdT ts w = ts ++ l := by
  cases hp : plc w ts.length with
  | some j => exact ⟨[], by rw [(W8 hp).1]; simp⟩
  | none => rw [(A0e hp).1]; exact A4Z _ _
theorem A9M (ts : List Tm) (w : List Nat) (t : Tm) : ∃ l, add (rdT ts w) t = ts ++ l := by
  obtain ⟨l1, e1⟩ := A40 ts w
  obtain ⟨l2, e2⟩ := A4Z (rdT ts w) t
  exact ⟨l1 ++ l2, by rw [e2, e1, List.append_assoc]⟩
theorem B3K (s : Ps) (w : List Nat) : Ext s (Q9 s w) := by
  unfold Q9
  split
  · exact Ext.refl s
  · exact ⟨⟨rfl, A9M _ _ _⟩, rfl, Nat.le_refl _⟩
theorem B5f {s : Ps} {i : Nat} (hi : i < s.ts.length) (hl : s.ts.length ≤ 1048576) : B1m s (bts ((i : Nat) : Int)) = { s with ts := add s.ts (A7D ((i : Nat) : Int)) } ∧ B1n s (bts ((i : Nat) : Int)) = bts ((at_ s.ts (A7D ((i : Nat) : Int)) : Nat) : Int) := by
  obtain ⟨h1, h2⟩ := A4P hi hl
  unfold B1m B1n
  rw [h1, h2]
  exact ⟨rfl, rfl⟩
def B3L (s : Ps) (w p : List Nat) : Prop := ∃ i j : Nat, i < s.ts.length ∧ w = bts ((i : Nat) : Int) ∧ s.ts[j]? = some (A7D ((i : Nat) : Int)) ∧ p = bts ((j : Nat) : Int)
def A4j (s : Ps) (w p : List Nat) : Prop := if s.real then p = A2d (U5 w 32) else B3L s w p
def B3M (s : Ps) (w p : List Nat) : Prop := if s.real then p = B5c (U5 w 32) else B3L s w p
def A41 (s : Ps) (w m g : List Nat) : Prop := if s.real then g = B5d (U5 w 32) m else ∃ i j : Nat, i < s.ts.length ∧ w = bts ((i : Nat) : Int) ∧ s.ts[j]? = some (B37 ((i : Nat) : Int) m) ∧ g = U5 (bts ((j : Nat) : Int)) 64
theorem B3L.ext {s s' : Ps} {w p : List Nat} (h : B3L s w p) (he : Pext s s') : B3L s' w p := by
  obtain ⟨l, e⟩ := he.ts
  obtain ⟨i, j, h1, h2, h3, h4⟩ := h
  exact ⟨i, j, by rw [e, List.length_append]; omega, h2, by rw [e]; exact A7B h3, h4⟩
theorem A4j.ext {s s' : Ps} {w p : List Nat} (h : A4j s w p) (he : Pext s s') : A4j s' w p := by
  unfold A4j at *
  rw [he.real]
  split
  · rename_i hr; rwa [if_pos hr] at h
  · rename_i hr; rw [if_neg hr] at h; exact h.ext he
theorem B3M.ext {s s' : Ps} {w p : List Nat} (h : B3M s w p) (he : Pext s s') : B3M s' w p := by
  unfold B3M at *
  rw [he.real]
  split
  · rename_i hr; rwa [if_pos hr] at h
  · rename_i hr; rw [if_neg hr] at h; exact h.ext he
theorem A41.ext {s s' : Ps} {w m g : List Nat} (h : A41 s w m g) (he : Pext s s') : A41 s' w m g := by
  unfold A41 at *
  rw [he.real]
  split
  · rename_i hr; rwa [if_pos hr] at h
  · rename_i hr
    rw [if_neg hr] at h
    obtain ⟨l, e⟩ := he.ts
    obtain ⟨i, j, h1, h2, h3, h4⟩ := h
    exact ⟨i, j, by rw [e, List.length_append]; omega, h2, by rw [e]; exact A7B h3, h4⟩
theorem B3L.eq {s : Ps} {w p : List Nat} (h : B3L s w p) (ht : Tok s.ts) (hl : s.ts.length ≤ 1048576) : B1m s w = s ∧ B1n s w = p := by
  obtain ⟨i, j, h1, rfl, h3, rfl⟩ := h
  obtain ⟨e1, e2⟩ := B5f h1 hl
  obtain ⟨e3, e4⟩ := B3c ht h3
  rw [e1, e2, e3, e4]
  exact ⟨rfl, rfl⟩
theorem A4j.eq {s : Ps} {w p : List Nat} (h : A4j s w p) (ht : Tok s.ts) (hl : s.ts.length ≤ 1048576) : Q9 s w = s ∧ L8 s w = p := by
  unfold A4j at h
  unfold Q9 L8
  cases hr : s.real with
  | true => rw [hr] at h; exact ⟨rfl, h.symm⟩
  | false => rw [hr] at h; exact B3L.eq h ht hl
theorem B3M.eq {s : Ps} {w p : List Nat} (h : B3M s w p) (ht : Tok s.ts) (hl : s.ts.length ≤ 1048576) : Q9 s w = s ∧ skK2 s w = p := by
  unfold B3M at h
  unfold Q9 skK2
  cases hr : s.real with
  | true => rw [hr] at h; exact ⟨rfl, h.symm⟩
  | false => rw [hr] at h; exact B3L.eq h ht hl
theorem A41.t {s : Ps} (h : s.real = true) {w m g : List Nat} : A41 s w m g ↔ g = B5d (U5 w 32) m := by unfold A41; rw [if_pos h]
theorem A41.f {s : Ps} (h : s.real = false) {w m g : List Nat} : A41 s w m g ↔ ∃ i j : Nat, i < s.ts.length ∧ w = bts ((i : Nat) : Int) ∧ s.ts[j]? = some (B37 ((i : Nat) : Int) m) ∧ g = U5 (bts ((j : Nat) : Int)) 64 := by unfold A41; rw [if_neg (by rw [h]; decide)]
def chkT (ts : List Tm) (p m g : List Nat) : Bool := decide (g.length = 64) && match plc g ts.length, plc p ts.length with
  | some i, some k => decide (p.length = 32) && match ts[i]?, ts[k]? with
    | some t, some u => decide (t.kind = 7) && decide (t.text = m) && decide (u.kind = 3) && decide (u.of.getD 0 0 = t.of.getD 0 0)
    | _, _ => false
  | _, _ => false
noncomputable def chkK (s : Ps) (p m g : List Nat) : Bool := if s.real then chkB p m g else chkT s.ts p m g
def Ar (ts : List Tm) : Prop := ∀ t ∈ ts, (t.kind = 3 ∨ t.kind = 6 ∨ t.kind = 7) → 0 < t.of.length
theorem Ar.nil : Ar [] := fun t h => by cases h
theorem Ar.add {ts : List Tm} (h : Ar ts) {t : Tm} (ht : (t.kind = 3 ∨ t.kind = 6 ∨ t.kind = 7) → 0 < t.of.length) : Ar (add ts t) := by
  unfold Go.Proofs.YthbhpfefdnffaaaGreatDoor.add
  split
  · exact h
  · intro u hu
    rcases List.mem_append.1 hu with h1 | h1
    · exact h u h1
    · rw [List.mem_singleton.1 h1]; exact ht
theorem Ar.rd {ts : List Tm} (h : Ar ts) (w : List Nat) : Ar (rdT ts w) := by
  cases hp : plc w ts.length with
  | some j => rw [(W8 hp).1]; exact h
  | none => rw [(A0e hp).1]; exact h.add (by intro h; rcases h with h | h | h <;> cases h)
theorem B3N (a b : List Nat) : mark a ++ mark b = Y0 [a, b] := by simp [Y0]
theorem A8c (x : Int) (a b : List Nat) : A6z x a b = ⟨6, [x], Y0 [a, b], 0⟩ := by unfold A6z; rw [B3N]
theorem A9N (bt bm : Nat) (ts : List Tm) (v : Value) (w : List Nat) (j : Nat) (MT A : Mem) (hT : Tab bt bm ts MT) (hsub : ∀ x, x ∈ MT → x ∈ A) (hn : ts.length ≤ 1048576) (hv : By A v w) (hj : plc w ts.length = some j) : FnV Tryz.prog 101 [.pointer (some ⟨bt, 0, none⟩), v] A (.int .i64 ((j : Nat) : Int)) := by
 haveI := hv.cel
 refine FnX.enter (N := 20) Tryz.func101 rfl rfl rfl fun w_ => ?_
 refine B0 (C9 0 1) (A1 (as_ (A0 (C9 0 1) (A3 (A1 (mv_ (mv_ ?_)))))))
 refine F7 (aS rfl (aS rfl a0)) kR (A1a bt bm ts v w MT _ hT (fun x hx => SubC.sub _ (hsub x hx)) hn (hv.rd.mono SubC.sub) hv.lt hv.max) rfl ?_
 rw [hj, Option.getD_some, Option.isSome_some]
 refine mv_ ?_
 refine A2 (A04 rfl) rfl ?_
 refine A2 (A0U rfl) rfl ?_
 refine as_ (as_ (A0 (D8 0 1 5 6) (A1 (mv_ (A0 (D8 0 1 5 13) ?_)))))
 refine D0 rfl ?_
 refine A1 (mv_ (as_ (A0 (D2 4) (B4 (tr ?_)))))
 exact ⟨_, [], [], I9 rfl rfl, List.nil_sublist _, by simp, rfl, rfl, rfl⟩
theorem A9O (pb bt bm : Nat) (m k : Int) (sv : Value) [hsv : Cel sv [sv]] (ts : List Tm) (v : Value) (w : List Nat) (j : Nat) (MT A : Mem) (hT : Tab bt bm ts MT) (hsub : ∀ x, x ∈ MT → x ∈ A) (hpb : (pb, blk [.int .u8 m, sv, .int .i64 k, .pointer (some ⟨bt, 0, none⟩)] 117) ∈ A) (hn : ts.length ≤ 1048576) (hv : By A v w) (hj : plc w ts.length = some j) : FnV Tryz.prog 56 [.pointer (some ⟨pb, 0, none⟩), v] A (.int .i64 ((j : Nat) : Int)) := by
 haveI := hv.cel
 refine FnX.enter (N := 11) Tryz.func56 rfl rfl rfl fun w_ => ?_
 refine B0 (C9 0 1) (A1 (as_ (A0 (C9 0 1) (A1 (mv_ ?_)))))
 refine A2 (G1 rfl) rfl ?_
 refine A2 (qf_ 3 3) rfl ?_
 refine A2 (H8 rfl kR (mA hpb) (by rfl)) rfl ?_
 refine mv_ ?_
 refine F7 (aS rfl (aS rfl a0)) kR (A9N bt bm ts v w j MT _ hT (fun x hx => SubC.sub _ (hsub x hx)) hn (hv.mono SubC.sub) hj) rfl ?_
 refine as_ (A0 (D2 4) (B4 ?_))
 exact ⟨_, [], [], I9 rfl rfl, List.nil_sublist _, by simp, rfl, rfl, rfl⟩
theorem A8d (pb bt bm : Nat) (s : Ps) (hr : s.real = false) (v v2 v3 : Value) (w wa wb wg : List Nat) (i j : Nat) (MP A : Mem) (hP : PrmT pb bt bm s MP) (hMP : ∀ x, x ∈ MP → x ∈ A) (hn : s.ts.length ≤ 1048576) (hv : By A v w) (h2 : By A v2 wa) (h3 : By A v3 wg) (hwb : B256 wb) (lb : wb.length ≤ 16777216) (h32 : wg.length = 32) (hi : plc wg s.ts.length = some i) (hj : plc w s.ts.length = some j) (ht : s.ts[i]? = some (A6z ((j : Nat) : Int) wa wb)) (hG : Glb A) : FnX Tryz.prog 119 [.pointer (some ⟨pb, 0, none⟩), v, v2, v3] [] A fun q M J => M = [] ∧ ∃ u, q = .tuple #[u, .bool true] ∧ By J u wb := by
 obtain ⟨sv, B, MT, rfl, hby, hT⟩ := hP.ex
 have hmd : md s.real = 1 := by rw [hr]; rfl
 have hpb := hMP _ List.mem_cons_self
 rw [hmd] at hpb
 have hsub : ∀ x, x ∈ MT → x ∈ A := fun x hx => hMP x (by simp [hx])
 obtain ⟨⟨ge0, gf0, h0⟩, ⟨ge1, gf1, h1⟩, ⟨ge4, gf4, h4⟩⟩ := hG
 haveI := hv.cel
 haveI := h2.cel
 haveI := h3.cel
 haveI := hby.cel
 have h2l := h2.len
 have hmt := hT.tok.tmo _ (List.mem_of_getElem? ht)
 rw [A8c] at hmt
 have hmb : B256 (Y0 [wa, wb]) := hmt.text
 have hml : (Y0 [wa, wb]).length ≤ 1099511627776 := hmt.tl
 refine FnX.enterZ (N := 96) Tryz.func119 rfl rfl rfl fun w_ => ?_
 refine B0 (D8 0 1 2 3) (A1 (as_ (as_ (A0 (D8 0 1 2 3) (A3 (A1 (mv_ ?_)))))))
 refine A2 (G4 (e := 117) rfl rfl kR) rfl ?_
 refine A0 (E4 0 1 2 3 17) ?_
 refine C6 rfl ?_
 refine A5 (nx (D8 0 1 2 3) (A3 (A1 (mv_ ?_))))
 refine A2 (G1 rfl) rfl ?_
 refine A2 (qf_ 0 0) rfl ?_
 refine A2 (H8 rfl kR (mA hpb) (by rfl)) rfl ?_
 refine A2 (E1 false rfl rfl (eqF (by decide))) rfl ?_
 refine A0 (E4 0 1 2 3 22) ?_
 refine C6 rfl ?_
 refine A5 (nx (D8 0 1 2 3) (A1 (mv_ ?_)))
 refine A2 (G1 rfl) rfl ?_
 refine A2 (qf_ 3 3) rfl ?_
 refine A2 (H8 rfl kR (mA hpb) (by rfl)) rfl ?_
 refine mv_ ?_
 refine F7 (aS rfl (aS rfl a0)) kR (A1a bt bm s.ts v3 wg MT _ hT (fun x hx => SubC.sub _ (hsub x hx)) hn (h3.rd.mono SubC.sub) h3.lt h3.max) rfl ?_
 rw [hi, Option.getD_some, Option.isSome_some]
 refine mv_ ?_
 refine A2 (A04 rfl) rfl ?_
 refine A2 (A0U rfl) rfl ?_
 refine as_ (as_ (A0 (H9 0 1 2 3 10 11) (A1 (mv_ ?_))))
 refine A2 (G1 rfl) rfl ?_
 refine A2 (qf_ 3 3) rfl ?_
 refine A2 (H8 rfl kR (mA hpb) (by rfl)) rfl ?_
 refine mv_ ?_
 refine C7 (aS rfl (aS rfl a0)) kR (A31 bt bm s.ts _ MT _ hT (fun x hx => SubC.sub _ (hsub x hx))) rfl ?_
 rintro v46 M46 J46 ⟨rfl, rfl, c46, ok46, rfl, hg1, hg2⟩
 obtain ⟨vo, t, rfl, hvo, hz, htk, hok, hno⟩ := A33 hT.tok.tmo hg1 hg2
 haveI := hvo.cel
 have hil := (B0o hi).1
 have hok2 : ok46 = true := (hg1 ⟨by omega, by omega⟩).1
 obtain ⟨-, ht2⟩ := hok hok2
 rw [Int.toNat_natCast, ht, A8c] at ht2
 obtain rfl := Option.some.inj ht2
 subst hok2
 dsimp only at hvo ⊢
 refine mv_ ?_
 refine A2 (A04 rfl) rfl ?_
 refine A2 (A0U rfl) rfl ?_
 refine A4 rfl (C4 (cs := [.int .u8 0, .slice none 0 0, .string ByteArray.empty, .int .i64 0]) kR rfl fun b12 => ?_)
 refine A4 rfl (A8 (vs := tmc 6 vo (Y0 [wa, wb]) 0) rfl rfl rfl kR (by rfl) (by intro c hc; simp only [tmc, List.mem_cons, List.not_mem_nil, or_false] at hc; rcases hc with rfl | rfl | rfl | rfl <;> first | rfl | exact hvo.one) UpC.upd ?_)
 dsimp only [tmc]
 refine as_ (A0 (H9 0 1 2 3 11 12) (A3 ?_))
 refine I2 ([]) (_) true (.range 22) (zp 0 [0, 0, 0, 0, 0, 0, 0, 0, 0, 1, 0, 0, 0, 0, 1, 0, 1, 0, 0, 2, 0, 0]) kR kR PickC.perm fun hs K n0 hKm hKs hKn => ?_
 refine km_ hs ?_
 refine I6 hs rfl (A6C rfl) rfl ?_
 refine km_ hs ?_
 refine A0P hs rfl rfl rfl rfl qm_ rfl ?_
 refine A0P hs rfl rfl rfl rfl (H5 (sz := 1) rfl kR h3.rd) rfl ?_
 rw [h32]
 refine A0P hs rfl rfl rfl rfl (E1 false rfl rfl (neF rfl)) rfl ?_
 refine I6 hs rfl (G2 rfl rfl) rfl ?_
 refine km_ hs ?_
 refine A0P hs rfl rfl rfl rfl (qf_ 0 0) rfl ?_
 refine A61 hs rfl rfl rfl rfl (by first | exact fun x hx => by rw [List.append_assoc]; exact List.mem_append_right _ hx | exact SubC.sub) hKs ql_ rfl ?_
 refine A0P hs rfl rfl rfl rfl (E1 false rfl rfl (neF rfl)) rfl ?_
 refine I6 hs rfl (G2 rfl rfl) rfl ?_
 refine km_ hs ?_
 refine A0P hs rfl rfl rfl rfl (qf_ 1 1) rfl ?_
 refine A61 hs rfl rfl rfl rfl (by first | exact fun x hx => by rw [List.append_assoc]; exact List.mem_append_right _ hx | exact SubC.sub) hKs ql_ rfl ?_
 refine A0P hs rfl rfl rfl rfl (K0 (sz := 1) (a := 0) rfl rfl kR rfl hvo (show 0 < 1 by decide)) rfl ?_
 refine A61 hs rfl rfl rfl rfl (by first | exact fun x hx => by rw [List.append_assoc]; exact List.mem_append_right _ hx | exact SubC.sub) hKs (Y9 (j := 0) (u := .int .i64 ((j : Nat) : Int)) (hvo.mono SubC.sub) rfl kR (by rfl)) rfl ?_
 refine A0P hs rfl rfl rfl rfl qm_ rfl ?_
 refine A0P hs rfl rfl rfl rfl qm_ rfl ?_
 refine B2x [] _ rfl rfl rfl rfl (List.Perm.refl _) (fun _ h => by cases h) fun w0 => (Q0 (aS rfl (aS rfl a0)) kR (A9O pb bt bm 1 _ sv s.ts v w j MT _ hT (fun x hx => SubC.sub _ (hsub x hx)) (SubC.sub _ hpb) hn (hv.mono SubC.sub) hj) rfl fun _ => ?_)
 dsimp only [List.nil_append, List.append_eq]
 refine A0P hs rfl rfl rfl rfl (E1 false rfl rfl (neF rfl)) rfl ?_
 refine I6 hs rfl (G2 rfl rfl) rfl ?_
 refine N9 (D3 2 12 70) ?_
 refine C6 rfl ?_
 refine A5 (nx (C9 2 12) (A1 ?_))
 refine A2 (qf_ 2 2) rfl ?_
 refine A2 ql_ rfl ?_
 refine C7 (aS rfl a0) kR (A6e [wa, wb] hmb hml _ (SubC.sub _ h4)) rfl ?_
 rintro r74 M74 J74 ⟨rfl, v74, rfl, hsl⟩
 haveI := hsl.cel
 refine mv_ ?_
 refine A2 (A04 rfl) rfl ?_
 refine A2 (A0U rfl) rfl ?_
 refine as_ (as_ (A0 (D3 2 14 15) (A3 ?_)))
 refine A5B (B := M74) PickC.perm ?_
 have hrd := hsl.rd (R := M74) fun _ h => h
 refine D1 (.range 15) (zp 0 [0, 0, 0, 0, 0, 0, 0, 0, 0, 0, 1, 0, 1, 0, 0]) kR kR fun hs => ?_
 refine fm_ hs ?_
 refine C3 hs rfl (E1 false rfl rfl (neF rfl)) rfl ?_
 refine fm_ hs ?_
 refine L9 hs rfl rfl rfl rfl qm_ rfl ?_
 refine L9 hs rfl rfl rfl rfl (H5 (sz := 1) rfl kR hrd) rfl ?_
 refine L9 hs rfl rfl rfl rfl (E1 false rfl rfl (neF rfl)) rfl ?_
 refine C3 hs rfl (G2 rfl rfl) rfl ?_
 refine fm_ hs ?_
 refine L9 hs rfl rfl rfl rfl qm_ rfl ?_
 refine L9 hs rfl rfl rfl rfl (K0 (sz := 1) (a := 0) rfl rfl kR rfl hrd (show _ < 2 by decide)) rfl ?_
 refine A8S hs rfl rfl rfl rfl (Y9 (j := 0) (u := .string (txt wa)) (hrd.mono SubC.sub) rfl kR (by rfl)) rfl ?_
 refine L9 hs rfl rfl rfl rfl qm_ rfl ?_
 refine A8S hs rfl rfl rfl rfl (P3 rfl kR (h2.rd.mono SubC.sub)) rfl ?_
 refine L9 hs rfl rfl rfl rfl ((show (!decide (wa = wa)) = false by simp) ▸ B2D rfl rfl rfl rfl h2.lt h2.lt) rfl ?_
 refine C3 hs rfl (G2 rfl rfl) rfl ?_
 refine F5 (C9 14 91) ?_
 refine C6 rfl ?_
 refine A5 (nx (D2 14) (A1 (mv_ ?_)))
 refine A2 (K0 (sz := 1) (a := 1) rfl rfl kR rfl hrd (show _ < 2 by decide)) rfl ?_
 refine A2 (Y9 (j := 1) (u := .string (txt wb)) (hrd.mono SubC.sub) rfl kR (by rfl)) rfl ?_
 refine A4 rfl (Z5 (e := 5) rfl rfl hwb.lt kR kR kR rfl fun v95 B95 hs95 => ?_)
 refine A7t (B := B95) PickC.perm ?_
 refine as_ (as_ (A0 (C9 8 9) (B4 ?_)))
 exact ⟨_, [], [], A4s rfl rfl rfl, Fit.sub (List.nil_sublist _), rfl, _, rfl, ⟨hs95.mono SubC.sub, hwb.lt, lb⟩⟩

end Go.Proofs.YthbhpfefdnffaaaGreatDoor
