/- Part 14 of the texts of this claim, one behind the other. -/
import Derived.Test.YthbhpfefdnffaaaGreatDoorB13
import Derived.SizedLaws
set_option linter.unusedVariables false
set_option linter.unusedSimpArgs false
set_option maxRecDepth 100000
namespace Go.Proofs.YthbhpfefdnffaaaGreatDoor
open Go.Px
def I8 (w : List Nat) : List Nat := (fun e : List Nat => (e.set 0 (e.getD 0 0 &&& 248)).set 31 ((e.set 0 (e.getD 0 0 &&& 248)).getD 31 0 % 128 ||| 64)) (T8 w 32)
theorem B1c (w : List Nat) : T8 w 32 = w.take 32 ++ (List.replicate 32 0).drop w.length := by unfold T8; rw [List.drop_replicate]
theorem A2e (w : List Nat) : (I8 w).length = 32 := by simp [I8, T6]
structure Lad where
  a : Nat
  b : Nat
  c : Nat
  d : Nat
def B1d (u : Nat) (s : Lad) : Lad :=
  let p := fA s.a s.b
  let q := fS s.a s.b
  let ss := fM p p
  let tt := fM q q
  let e := fS ss tt
  let da := fM (fS s.c s.d) p
  let cb := fM (fA s.c s.d) q
  ⟨fM ss tt, fM e (fA ss (fM 121665 e)), fM (fA da cb) (fA da cb), fM u (fM (fS da cb) (fS da cb))⟩
def swL (b : Bool) (s : Lad) : Lad := if b then ⟨s.c, s.d, s.a, s.b⟩ else s
def A1U (u n : Nat) : Nat → Lad
  | 0 => ⟨1, 0, u, 1⟩
  | k + 1 => (fun bt => swL bt (B1d u (swL bt (A1U u n k)))) (decide (n / 2 ^ (254 - k) % 2 = 1))
theorem B1e {u n i : Nat} (h : i < 255) : A1U u n (255 - i) = swL (decide (n / 2 ^ i % 2 = 1)) (B1d u (swL (decide (n / 2 ^ i % 2 = 1)) (A1U u n (255 - (i + 1))))) := by
  obtain ⟨k, hk⟩ : ∃ k, 255 - i = k + 1 := ⟨254 - i, by omega⟩
  have e1 : 255 - (i + 1) = k := by omega
  have e2 : i = 254 - k := by omega
  rw [hk, e1, e2]; rfl
noncomputable def x25 (s p : List Nat) : List Nat := W8 8 32 (fM (A1U (rdN p) (bv (I8 s)) 255).a (fI (A1U (rdN p) (bv (I8 s)) 255).b)) 255
def B3F : List Nat := 9 :: List.replicate 31 0
noncomputable def A0e (s : List Nat) : List Nat := x25 s B3F
theorem A5f (s p : List Nat) : (x25 s p).length = 32 := by simp [x25, L0]
theorem B5g (s p : List Nat) : ∀ x ∈ x25 s p, x < 256 := A0o _ _
theorem B5h {x : Nat} (h : x < 256) : (x &&& 248) < 256 := Nat.lt_of_le_of_lt Nat.and_le_left h
theorem or64 {x : Nat} (h : x < 128) : (x ||| 64) < 256 := Nat.lt_of_lt_of_le (Nat.or_lt_two_pow (n := 7) h (by decide)) (by decide)
theorem A6m {w : List Nat} (h : ∀ x ∈ w, x < 256) : ∀ x ∈ I8 w, x < 256 := by
  intro x hx
  have hf := A2c h 32
  unfold I8 at hx
  rcases List.mem_or_eq_of_mem_set hx with h1 | rfl
  · rcases List.mem_or_eq_of_mem_set h1 with h1 | rfl
    · exact hf x h1
    · exact B5h (Go.Px.getD_lt hf (by decide))
  · exact or64 (Nat.mod_lt _ (by decide))
theorem B6V (v : Value) (wc : List Nat) (A : Mem) (hv : By A v wc) : FnV Tryz.prog 130 [v] A (.agg (nums .u8 (I8 wc)).toArray) := by
 haveI := hv.cel
 have hvl := hv.len
 refine FnX.enter (N := 17) Tryz.func130 rfl rfl rfl fun w => ?_
 refine C4 (D8 0) (A3 ?_)
 refine A6 rfl (C5 (cs := [zu8, zu8, zu8, zu8, zu8, zu8, zu8, zu8, zu8, zu8, zu8, zu8, zu8, zu8, zu8, zu8, zu8, zu8, zu8, zu8, zu8, zu8, zu8, zu8, zu8, zu8, zu8, zu8, zu8, zu8, zu8, zu8]) kR rfl fun b2 => ?_)
 refine A0 (D4 0 2) (A3 ?_)
 refine A6 rfl (C5 (cs := [zu8, zu8, zu8, zu8, zu8, zu8, zu8, zu8, zu8, zu8, zu8, zu8, zu8, zu8, zu8, zu8, zu8, zu8, zu8, zu8, zu8, zu8, zu8, zu8, zu8, zu8, zu8, zu8, zu8, zu8, zu8, zu8]) kR rfl fun b3 => ?_)
 refine A0 (E1 0 2 3) ?_
 refine A0r (M' := [(b3, blk (nums .u8 (List.replicate 32 0)) 202), (b2, blk [.int .u8 0, .int .u8 0, .int .u8 0, .int .u8 0, .int .u8 0, .int .u8 0, .int .u8 0, .int .u8 0, .int .u8 0, .int .u8 0, .int .u8 0, .int .u8 0, .int .u8 0, .int .u8 0, .int .u8 0, .int .u8 0, .int .u8 0, .int .u8 0, .int .u8 0, .int .u8 0, .int .u8 0, .int .u8 0, .int .u8 0, .int .u8 0, .int .u8 0, .int .u8 0, .int .u8 0, .int .u8 0, .int .u8 0, .int .u8 0, .int .u8 0, .int .u8 0] 202)]) (Fit.eq rfl) (fun _ h => h) ?_
 refine A3 ?_
 refine A4 (A9X (sz := 1) (e := 5) (n := 32) rfl kR kR) rfl ?_
 refine mv_ ?_
 refine A6 rfl (B0n (e := 5) (us := wc) (ws := List.replicate 32 0) (ws' := T8 wc 32) (by_ := 1) rfl rfl kR (hv.rd.mono SubC.sub) (by simp) (B1c wc) UpC.upd rfl ?_)
 have hfl := T6 wc 32
 have hflt := A2c hv.lt 32
 have hcl : I8 wc = ((T8 wc 32).set 0 ((T8 wc 32).getD 0 0 &&& 248)).set 31 (((T8 wc 32).set 0 ((T8 wc 32).getD 0 0 &&& 248)).getD 31 0 % 128 ||| 64) := rfl
 generalize T8 wc 32 = e at *
 have he0 : e.getD 0 0 < 256 := Go.Px.getD_lt hflt (by decide)
 have he1 : (e.set 0 (e.getD 0 0 &&& 248)).getD 31 0 < 256 := Go.Px.getD_lt (fun x hx => by rcases List.mem_or_eq_of_mem_set hx with h | rfl; exact hflt x h; exact B5h he0) (by decide)
 refine A0 (D4 2 3) (A3 ?_)
 refine A4 (E8 (e := 5) (n := 32) (sz := 1) (i := 0) rfl rfl kR kR rfl (by omega)) rfl ?_
 refine A4 (Q0 0 rfl kR At.mem rfl (by omega)) rfl ?_
 refine A4 (B5z (b := 248) rfl rfl rfl (by show _ < 256; exact he0) (by decide)) rfl ?_
 refine A4 (E8 (e := 5) (n := 32) (sz := 1) (i := 0) rfl rfl kR kR rfl (by omega)) rfl ?_
 refine A6 rfl (R8 0 rfl rfl kR rfl (by omega) UpC.upd ?_)
 refine A0 (D4 2 3) (A3 ?_)
 refine A4 (E8 (e := 5) (n := 32) (sz := 1) (i := 31) rfl rfl kR kR rfl (by omega)) rfl ?_
 refine A4 (Q0 31 rfl kR At.mem rfl (by rw [List.length_set]; omega)) rfl ?_
 refine A4 (N1 7 128 rfl rfl rfl rfl rfl (by show _ < 256; exact he1) (by decide)) rfl ?_
 refine A4 (B4s (b := 64) rfl rfl rfl (by show _ < 256; exact Nat.lt_trans (Nat.mod_lt _ (by decide)) (by decide)) (by decide)) rfl ?_
 refine A4 (E8 (e := 5) (n := 32) (sz := 1) (i := 31) rfl rfl kR kR rfl (by omega)) rfl ?_
 refine A6 rfl (R8 31 rfl rfl kR rfl (by rw [List.length_set]; omega) UpC.upd ?_)
 rw [← hcl]
 have hcn := A2e wc
 refine A0 (D4 2 3) (A3 ?_)
 refine A4 (H8 (n := 32) (cs := nums .u8 (I8 wc)) rfl kR At.mem (by rw [nums_len]; omega)) rfl ?_
 refine A6 rfl (A8 (vs := nums .u8 (I8 wc)) rfl rfl rfl (by rw [nums_len, hcn]; kernel_rfl) (by rw [nums_len, hcn]; rfl) F4 UpC.upd ?_)
 refine A0 (D8 2) (C1 ?_)
 exact ⟨_, [], [], A1g (n := 32) rfl rfl kR At.mem (by rw [nums_len, hcn]), List.nil_sublist _, by simp, rfl, rfl, rfl⟩
def LadR (r : Value) (s : Lad) : Prop := ∃ v0 v1 v2 v3, r = .tuple #[v0, v1, v2, v3] ∧ Fe v0 s.a ∧ Fe v1 s.b ∧ Fe v2 s.c ∧ Fe v3 s.d
theorem A5g {xs : List Nat} {n : Nat} (h : Fe (.agg (nums .u64 xs).toArray) n) : ∃ a b c d e, xs = [a, b, c, d, e] := by
  obtain ⟨a, b, c, d, e, h1, -⟩ := h
  refine ⟨a, b, c, d, e, ?_⟩
  have h2 := congrArg Array.toList (Value.agg.inj h1)
  exact A6h (k := .u64) (b := [a, b, c, d, e]) h2
theorem B5i (vu va vb vc vd : Value) (xu xa xb xc xd : Nat) (A : Mem) (hU : Fe vu xu) (hA : Fe va xa) (hB : Fe vb xb) (hC : Fe vc xc) (hD : Fe vd xd) : FnX Tryz.prog 133 [vu, va, vb, vc, vd] [] A fun r M J => M = [] ∧ J = [] ∧ LadR r (B1d xu ⟨xa, xb, xc, xd⟩) := by
 have hU0 := hU
 obtain ⟨pu0, pu1, pu2, pu3, pu4, rfl, -⟩ := hU
 have hA0 := hA
 obtain ⟨pa0, pa1, pa2, pa3, pa4, rfl, -⟩ := hA
 have hB0 := hB
 obtain ⟨pb0, pb1, pb2, pb3, pb4, rfl, -⟩ := hB
 have hC0 := hC
 obtain ⟨pc0, pc1, pc2, pc3, pc4, rfl, -⟩ := hC
 have hD0 := hD
 obtain ⟨pd0, pd1, pd2, pd3, pd4, rfl, -⟩ := hD
 refine FnX.enter (N := 68) Tryz.func133 rfl rfl rfl fun w => ?_
 refine C4 (F9 0 1 2 3 4) (A3 ?_)
 refine A6 rfl (bx_ fun b5 => ?_)
 refine A6 rfl (bx_ fun b6 => ?_)
 refine A6 rfl (bx_ fun b7 => ?_)
 refine A6 rfl (bx_ fun b8 => ?_)
 refine A6 rfl (bx_ fun b9 => ?_)
 refine A6 rfl (C5 (cs := [A7, A7, A7, A7, A7]) kR rfl fun b10 => ?_)
 refine A6 rfl (C5 (cs := [A7, A7, A7, A7, A7]) kR rfl fun b11 => ?_)
 refine A6 rfl (C5 (cs := [A7, A7, A7, A7, A7]) kR rfl fun b12 => ?_)
 refine A6 rfl (C5 (cs := [A7, A7, A7, A7, A7]) kR rfl fun b13 => ?_)
 refine A0 (A6J 5 6 7 8 9 10 11 12 13) ?_
 refine D3 (.range 8) [(0, 1), (1, 1), (3, 1), (4, 1), (2, 3), (5, 3), (6, 3), (7, 4), (8, 2), (9, 2)] kR kR fun hs => ?_
 refine F8 hs rfl (qw_ 5) rfl ?_
 refine F8 hs rfl (qw_ 5) rfl ?_
 refine F8 hs rfl (qw_ 5) rfl ?_
 refine F8 hs rfl (qw_ 5) rfl ?_
 refine N2 [⟨2, 25, fun v B _ => B = [] ∧ Fe v (fA xa xb)⟩, ⟨5, 28, fun v B _ => B = [] ∧ Fe v (fS xa xb)⟩, ⟨6, 14, fun v B _ => ∃ b, v = .pointer (some ⟨b, 0, none⟩) ∧ B = [(b, blk [.int .u64 0, .int .u64 0, .int .u64 0, .int .u64 0, .int .u64 0] 205)]⟩, ⟨7, 15, fun v B _ => ∃ b, v = .pointer (some ⟨b, 0, none⟩) ∧ B = [(b, blk [.int .u64 0, .int .u64 0, .int .u64 0, .int .u64 0, .int .u64 0] 205)]⟩]
  (C3 (fun _ _ _ _ _ h => h) (C3 (fun _ _ _ _ _ h => h) (C3 (fun _ _ _ _ _ h => h) (C3 (fun _ _ _ _ _ h => h) (L1))))) (show List.Nodup [25, 28, 14, 15] by decide) (show List.Nodup [2, 5, 6, 7] by decide) (C3 (C9 rfl) (C3 (C9 rfl) (C3 (C9 rfl) (C3 (C9 rfl) (L1)))))
  (C3 ⟨_, rfl, fun vs bs R w hb ha => ⟨.inl rfl, ?_⟩⟩ (C3 ⟨_, rfl, fun vs bs R w hb ha => ⟨.inl rfl, ?_⟩⟩ (C3 ⟨_, rfl, fun vs bs R w hb ha => ⟨.inl rfl, ?_⟩⟩ (C3 ⟨_, rfl, fun vs bs R w hb ha => ⟨.inl rfl, ?_⟩⟩ (L1))))) ?_
 ·
  refine D5 (aS rfl (aS rfl (a0))) kR (A3Q hA0 hB0 _) rfl ?_
  rintro r M1 J1 ⟨rfl, rfl, hh⟩
  exact ⟨_, rfl, rfl, hh⟩
 ·
  refine D5 (aS rfl (aS rfl (a0))) kR (A44 hA0 hB0 _) rfl ?_
  rintro r M1 J1 ⟨rfl, rfl, hh⟩
  exact ⟨_, rfl, rfl, hh⟩
 ·
  exact C5 (cs := [A7, A7, A7, A7, A7]) kR rfl fun b => ⟨_, rfl, b, rfl, rfl⟩
 ·
  exact C5 (cs := [A7, A7, A7, A7, A7]) kR rfl fun b => ⟨_, rfl, b, rfl, rfl⟩
 intro vs bs Jn0 hφ
 have g2 := ofH hφ
 dsimp only at g2
 replace hφ := ofT hφ
 have g5 := ofH hφ
 dsimp only at g5
 replace hφ := ofT hφ
 have g6 := ofH hφ
 dsimp only at g6
 replace hφ := ofT hφ
 have g7 := ofH hφ
 dsimp only at g7
 clear hφ
 dsimp only [P3, H9, List.map, List.flatten, List.cons_append, List.nil_append]
 generalize bs 2 = B25 at *
 generalize bs 5 = B28 at *
 generalize bs 6 = B14 at *
 generalize bs 7 = B15 at *
 generalize vs 2 = u25 at *
 generalize vs 5 = u28 at *
 generalize vs 6 = u14 at *
 generalize vs 7 = u15 at *
 obtain ⟨rfl, k2⟩ := g2
 have h2 := k2
 obtain ⟨a2, b2, c2, d2, e2, rfl, -⟩ := k2
 obtain ⟨rfl, k5⟩ := g5
 have h5 := k5
 obtain ⟨a5, b5, c5, d5, e5, rfl, -⟩ := k5
 obtain ⟨b6, rfl, rfl⟩ := g6
 obtain ⟨b7, rfl, rfl⟩ := g7
 dsimp only [List.append_eq, List.nil_append, List.cons_append]
 have hp := h2
 have hq := h5
 clear h2 h5
 refine G5 rfl rfl rfl (A8 rfl rfl Cel.cel kR ln5 al5 UpC.upd ?_)
 refine G5 rfl rfl rfl (A8 rfl rfl Cel.cel kR ln5 al5 UpC.upd ?_)
 refine E4 (A6J 5 8 9 10 11 12 13 14 15) ?_
 refine D3 [0, 1, 2, 3, 4, 5] [(0, 1), (2, 1), (1, 3), (3, 3), (4, 3), (5, 4), (6, 2), (7, 2)] kR kR fun hs => ?_
 refine F8 hs rfl (qw_ 5) rfl ?_
 refine F8 hs rfl (qw_ 5) rfl ?_
 refine N2 [⟨1, 30, fun v B _ => B = [] ∧ Fe v (fM (fA xa xb) (fA xa xb))⟩, ⟨3, 32, fun v B _ => B = [] ∧ Fe v (fM (fS xa xb) (fS xa xb))⟩, ⟨4, 16, fun v B _ => ∃ b, v = .pointer (some ⟨b, 0, none⟩) ∧ B = [(b, blk [.int .u64 0, .int .u64 0, .int .u64 0, .int .u64 0, .int .u64 0] 205)]⟩, ⟨5, 17, fun v B _ => ∃ b, v = .pointer (some ⟨b, 0, none⟩) ∧ B = [(b, blk [.int .u64 0, .int .u64 0, .int .u64 0, .int .u64 0, .int .u64 0] 205)]⟩]
  (C3 (fun _ _ _ _ _ h => h) (C3 (fun _ _ _ _ _ h => h) (C3 (fun _ _ _ _ _ h => h) (C3 (fun _ _ _ _ _ h => h) (L1))))) (show List.Nodup [30, 32, 16, 17] by decide) (show List.Nodup [1, 3, 4, 5] by decide) (C3 (C9 rfl) (C3 (C9 rfl) (C3 (C9 rfl) (C3 (C9 rfl) (L1)))))
  (C3 ⟨_, rfl, fun vs bs R w hb ha => ⟨.inl rfl, ?_⟩⟩ (C3 ⟨_, rfl, fun vs bs R w hb ha => ⟨.inl rfl, ?_⟩⟩ (C3 ⟨_, rfl, fun vs bs R w hb ha => ⟨.inl rfl, ?_⟩⟩ (C3 ⟨_, rfl, fun vs bs R w hb ha => ⟨.inl rfl, ?_⟩⟩ (L1))))) ?_
 ·
  refine D5 (aS rfl (a0)) kR (B8B hp _) rfl ?_
  rintro r M1 J1 ⟨rfl, rfl, hh⟩
  exact ⟨_, rfl, rfl, hh⟩
 ·
  refine D5 (aS rfl (a0)) kR (B8B hq _) rfl ?_
  rintro r M1 J1 ⟨rfl, rfl, hh⟩
  exact ⟨_, rfl, rfl, hh⟩
 ·
  exact C5 (cs := [A7, A7, A7, A7, A7]) kR rfl fun b => ⟨_, rfl, b, rfl, rfl⟩
 ·
  exact C5 (cs := [A7, A7, A7, A7, A7]) kR rfl fun b => ⟨_, rfl, b, rfl, rfl⟩
 intro vs bs Jn0 hφ
 have g1 := ofH hφ
 dsimp only at g1
 replace hφ := ofT hφ
 have g3 := ofH hφ
 dsimp only at g3
 replace hφ := ofT hφ
 have g4 := ofH hφ
 dsimp only at g4
 replace hφ := ofT hφ
 have g5 := ofH hφ
 dsimp only at g5
 clear hφ
 dsimp only [P3, H9, List.map, List.flatten, List.cons_append, List.nil_append]
 generalize bs 1 = B30 at *
 generalize bs 3 = B32 at *
 generalize bs 4 = B16 at *
 generalize bs 5 = B17 at *
 generalize vs 1 = u30 at *
 generalize vs 3 = u32 at *
 generalize vs 4 = u16 at *
 generalize vs 5 = u17 at *
 obtain ⟨rfl, k1⟩ := g1
 have h1 := k1
 obtain ⟨a1, b1, c1, d1, e1, rfl, -⟩ := k1
 obtain ⟨rfl, k3⟩ := g3
 have h3 := k3
 obtain ⟨a3, b3, c3, d3, e3, rfl, -⟩ := k3
 obtain ⟨b4, rfl, rfl⟩ := g4
 obtain ⟨b5, rfl, rfl⟩ := g5
 dsimp only [List.append_eq, List.nil_append, List.cons_append]
 have hss := h1
 have htt := h3
 clear h1 h3
 refine G5 rfl rfl rfl (A8 rfl rfl Cel.cel kR ln5 al5 UpC.upd ?_)
 refine G5 rfl rfl rfl (A8 rfl rfl Cel.cel kR ln5 al5 UpC.upd ?_)
 refine E4 (kq 5 (kq 8 (A6J 9 10 11 12 13 14 15 16 17))) ?_
 refine A3 ?_
 refine A4 (qw_ 5) rfl ?_
 refine A4 (qw_ 5) rfl ?_
 refine D0 (aS rfl (aS rfl a0)) kR (A44 hss htt _) rfl ?_
 rintro r35 M35 J35 ⟨rfl, rfl, k35⟩
 have h35 := k35
 obtain ⟨a35, b35, c35, d35, e35, rfl, -⟩ := k35
 refine A6 rfl (C5 (cs := [A7, A7, A7, A7, A7]) kR rfl fun b18 => ?_)
 refine A6 rfl (A8 rfl rfl Cel.cel kR ln5 al5 UpC.upd ?_)
 refine A0 (kq 5 (kq 8 (kq 9 (A6J 10 11 12 13 14 15 16 17 18)))) ?_
 refine D3 [0, 1, 2, 3, 4, 5] [(0, 1), (1, 1), (3, 1), (2, 3), (4, 3), (5, 4), (6, 2)] kR kR fun hs => ?_
 refine F8 hs rfl (qw_ 5) rfl ?_
 refine F8 hs rfl (qw_ 5) rfl ?_
 refine F8 hs rfl (qw_ 5) rfl ?_
 refine N2 [⟨2, 38, fun v B _ => B = [] ∧ Fe v (fS xc xd)⟩, ⟨4, 40, fun v B _ => B = [] ∧ Fe v (fM (fS xc xd) (fA xa xb))⟩, ⟨5, 19, fun v B _ => ∃ b, v = .pointer (some ⟨b, 0, none⟩) ∧ B = [(b, blk [.int .u64 0, .int .u64 0, .int .u64 0, .int .u64 0, .int .u64 0] 205)]⟩]
  (C3 (fun _ _ _ _ _ h => h) (C3 (fun _ _ _ _ _ h => h) (C3 (fun _ _ _ _ _ h => h) (L1)))) (show List.Nodup [38, 40, 19] by decide) (show List.Nodup [2, 4, 5] by decide) (C3 (C9 rfl) (C3 (C9 rfl) (C3 (C9 rfl) (L1))))
  (C3 ⟨_, rfl, fun vs bs R w hb ha => ⟨.inl rfl, ?_⟩⟩ (C3 ⟨_, rfl, fun vs bs R w hb ha => ⟨.inl rfl, ?_⟩⟩ (C3 ⟨_, rfl, fun vs bs R w hb ha => ⟨.inl rfl, ?_⟩⟩ (L1)))) ?_
 ·
  refine D5 (aS rfl (aS rfl (a0))) kR (A44 hC0 hD0 _) rfl ?_
  rintro r M1 J1 ⟨rfl, rfl, hh⟩
  exact ⟨_, rfl, rfl, hh⟩
 ·
  have g2 := ha _ (List.mem_of_getElem? (i := 0) rfl) kR
  replace g2 : (fun v B _ => B = [] ∧ Fe v (fS xc xd)) (vs 2) (bs 2) R := g2
  dsimp only at g2
  obtain ⟨-, k2⟩ := g2
  refine D5 (aS rfl (aS rfl (a0))) kR (R7 k2 hp _) rfl ?_
  rintro r M1 J1 ⟨rfl, rfl, hh⟩
  exact ⟨_, rfl, rfl, hh⟩
 ·
  exact C5 (cs := [A7, A7, A7, A7, A7]) kR rfl fun b => ⟨_, rfl, b, rfl, rfl⟩
 intro vs bs Jn0 hφ
 have g2 := ofH hφ
 dsimp only at g2
 replace hφ := ofT hφ
 have g4 := ofH hφ
 dsimp only at g4
 replace hφ := ofT hφ
 have g5 := ofH hφ
 dsimp only at g5
 clear hφ
 dsimp only [P3, H9, List.map, List.flatten, List.cons_append, List.nil_append]
 generalize bs 2 = B38 at *
 generalize bs 4 = B40 at *
 generalize bs 5 = B19 at *
 generalize vs 2 = u38 at *
 generalize vs 4 = u40 at *
 generalize vs 5 = u19 at *
 obtain ⟨rfl, k2⟩ := g2
 have h2 := k2
 obtain ⟨a2, b2, c2, d2, e2, rfl, -⟩ := k2
 obtain ⟨rfl, k4⟩ := g4
 have h4 := k4
 obtain ⟨a4, b4, c4, d4, e4, rfl, -⟩ := k4
 obtain ⟨b5, rfl, rfl⟩ := g5
 dsimp only [List.append_eq, List.nil_append, List.cons_append]
 have hda := h4
 clear h2 h4
 refine G5 rfl rfl rfl (A8 rfl rfl Cel.cel kR ln5 al5 UpC.upd ?_)
 refine E4 (kq 5 (kq 8 (kq 9 (A6J 10 11 12 13 15 16 17 18 19)))) ?_
 refine D3 [0, 1, 2, 3, 4, 5] [(0, 1), (1, 1), (3, 1), (2, 3), (4, 3), (5, 4), (6, 2)] kR kR fun hs => ?_
 refine F8 hs rfl (qw_ 5) rfl ?_
 refine F8 hs rfl (qw_ 5) rfl ?_
 refine F8 hs rfl (qw_ 5) rfl ?_
 refine N2 [⟨2, 43, fun v B _ => B = [] ∧ Fe v (fA xc xd)⟩, ⟨4, 45, fun v B _ => B = [] ∧ Fe v (fM (fA xc xd) (fS xa xb))⟩, ⟨5, 20, fun v B _ => ∃ b, v = .pointer (some ⟨b, 0, none⟩) ∧ B = [(b, blk [.int .u64 0, .int .u64 0, .int .u64 0, .int .u64 0, .int .u64 0] 205)]⟩]
  (C3 (fun _ _ _ _ _ h => h) (C3 (fun _ _ _ _ _ h => h) (C3 (fun _ _ _ _ _ h => h) (L1)))) (show List.Nodup [43, 45, 20] by decide) (show List.Nodup [2, 4, 5] by decide) (C3 (C9 rfl) (C3 (C9 rfl) (C3 (C9 rfl) (L1))))
  (C3 ⟨_, rfl, fun vs bs R w hb ha => ⟨.inl rfl, ?_⟩⟩ (C3 ⟨_, rfl, fun vs bs R w hb ha => ⟨.inl rfl, ?_⟩⟩ (C3 ⟨_, rfl, fun vs bs R w hb ha => ⟨.inl rfl, ?_⟩⟩ (L1)))) ?_
 ·
  refine D5 (aS rfl (aS rfl (a0))) kR (A3Q hC0 hD0 _) rfl ?_
  rintro r M1 J1 ⟨rfl, rfl, hh⟩
  exact ⟨_, rfl, rfl, hh⟩
 ·
  have g2 := ha _ (List.mem_of_getElem? (i := 0) rfl) kR
  replace g2 : (fun v B _ => B = [] ∧ Fe v (fA xc xd)) (vs 2) (bs 2) R := g2
  dsimp only at g2
  obtain ⟨-, k2⟩ := g2
  refine D5 (aS rfl (aS rfl (a0))) kR (R7 k2 hq _) rfl ?_
  rintro r M1 J1 ⟨rfl, rfl, hh⟩
  exact ⟨_, rfl, rfl, hh⟩
 ·
  exact C5 (cs := [A7, A7, A7, A7, A7]) kR rfl fun b => ⟨_, rfl, b, rfl, rfl⟩
 intro vs bs Jn0 hφ
 have g2 := ofH hφ
 dsimp only at g2
 replace hφ := ofT hφ
 have g4 := ofH hφ
 dsimp only at g4
 replace hφ := ofT hφ
 have g5 := ofH hφ
 dsimp only at g5
 clear hφ
 dsimp only [P3, H9, List.map, List.flatten, List.cons_append, List.nil_append]
 generalize bs 2 = B43 at *
 generalize bs 4 = B45 at *
 generalize bs 5 = B20 at *
 generalize vs 2 = u43 at *
 generalize vs 4 = u45 at *
 generalize vs 5 = u20 at *
 obtain ⟨rfl, k2⟩ := g2
 have h2 := k2
 obtain ⟨a2, b2, c2, d2, e2, rfl, -⟩ := k2
 obtain ⟨rfl, k4⟩ := g4
 have h4 := k4
 obtain ⟨a4, b4, c4, d4, e4, rfl, -⟩ := k4
 obtain ⟨b5, rfl, rfl⟩ := g5
 dsimp only [List.append_eq, List.nil_append, List.cons_append]
 have hcb := h4
 clear h2 h4
 refine G5 rfl rfl rfl (A8 rfl rfl Cel.cel kR ln5 al5 UpC.upd ?_)
 refine E4 (kq 5 (A6J 10 11 12 13 16 17 18 19 20)) (A3 ?_)
 refine A4 (qw_ 5) rfl ?_
 refine A4 (qw_ 5) rfl ?_
 refine D0 (aS rfl (aS rfl a0)) kR (A3Q hda hcb _) rfl ?_
 rintro r48 M48 J48 ⟨rfl, rfl, k48⟩
 have h48 := k48
 obtain ⟨a48, b48, c48, d48, e48, rfl, -⟩ := k48
 refine D0 (aS rfl a0) kR (B8B h48 _) rfl ?_
 rintro r49 M49 J49 ⟨rfl, rfl, k49⟩
 have h49 := k49
 obtain ⟨a49, b49, c49, d49, e49, rfl, -⟩ := k49
 refine A6 rfl (C5 (cs := [A7, A7, A7, A7, A7]) kR rfl fun b21 => ?_)
 refine A6 rfl (A8 rfl rfl Cel.cel kR ln5 al5 UpC.upd ?_)
 refine A0 (kq 5 (kq 10 (A6J 11 12 13 16 17 18 19 20 21))) ?_
 refine D3 (.range 7) (zp 0 [1, 1, 1, 3, 3, 3, 4, 2]) kR kR fun hs => ?_
 refine F8 hs rfl (qw_ 5) rfl ?_
 refine F8 hs rfl (qw_ 5) rfl ?_
 refine F8 hs rfl (qw_ 5) rfl ?_
 refine N2 [⟨3, 53, fun v B _ => B = [] ∧ Fe v (fS (fM (fS xc xd) (fA xa xb)) (fM (fA xc xd) (fS xa xb)))⟩, ⟨4, 54, fun v B _ => B = [] ∧ Fe v (fM (fS (fM (fS xc xd) (fA xa xb)) (fM (fA xc xd) (fS xa xb))) (fS (fM (fS xc xd) (fA xa xb)) (fM (fA xc xd) (fS xa xb))))⟩, ⟨5, 55, fun v B _ => B = [] ∧ Fe v (fM xu (fM (fS (fM (fS xc xd) (fA xa xb)) (fM (fA xc xd) (fS xa xb))) (fS (fM (fS xc xd) (fA xa xb)) (fM (fA xc xd) (fS xa xb)))))⟩, ⟨6, 22, fun v B _ => ∃ b, v = .pointer (some ⟨b, 0, none⟩) ∧ B = [(b, blk [.int .u64 0, .int .u64 0, .int .u64 0, .int .u64 0, .int .u64 0] 205)]⟩]
  (C3 (fun _ _ _ _ _ h => h) (C3 (fun _ _ _ _ _ h => h) (C3 (fun _ _ _ _ _ h => h) (C3 (fun _ _ _ _ _ h => h) (L1))))) (show List.Nodup [53, 54, 55, 22] by decide) (show List.Nodup [3, 4, 5, 6] by decide) (C3 (C9 rfl) (C3 (C9 rfl) (C3 (C9 rfl) (C3 (C9 rfl) (L1)))))
  (C3 ⟨_, rfl, fun vs bs R w hb ha => ⟨.inl rfl, ?_⟩⟩ (C3 ⟨_, rfl, fun vs bs R w hb ha => ⟨.inl rfl, ?_⟩⟩ (C3 ⟨_, rfl, fun vs bs R w hb ha => ⟨.inl rfl, ?_⟩⟩ (C3 ⟨_, rfl, fun vs bs R w hb ha => ⟨.inl rfl, ?_⟩⟩ (L1))))) ?_
 ·
  refine D5 (aS rfl (aS rfl (a0))) kR (A44 hda hcb _) rfl ?_
  rintro r M1 J1 ⟨rfl, rfl, hh⟩
  exact ⟨_, rfl, rfl, hh⟩
 ·
  have g3 := ha _ (List.mem_of_getElem? (i := 0) rfl) kR
  replace g3 : (fun v B _ => B = [] ∧ Fe v (fS (fM (fS xc xd) (fA xa xb)) (fM (fA xc xd) (fS xa xb)))) (vs 3) (bs 3) R := g3
  dsimp only at g3
  obtain ⟨-, k3⟩ := g3
  refine D5 (aS rfl (a0)) kR (B8B k3 _) rfl ?_
  rintro r M1 J1 ⟨rfl, rfl, hh⟩
  exact ⟨_, rfl, rfl, hh⟩
 ·
  have g4 := ha _ (List.mem_of_getElem? (i := 1) rfl) kR
  replace g4 : (fun v B _ => B = [] ∧ Fe v (fM (fS (fM (fS xc xd) (fA xa xb)) (fM (fA xc xd) (fS xa xb))) (fS (fM (fS xc xd) (fA xa xb)) (fM (fA xc xd) (fS xa xb))))) (vs 4) (bs 4) R := g4
  dsimp only at g4
  obtain ⟨-, k4⟩ := g4
  refine D5 (aS rfl (aS rfl (a0))) kR (R7 hU0 k4 _) rfl ?_
  rintro r M1 J1 ⟨rfl, rfl, hh⟩
  exact ⟨_, rfl, rfl, hh⟩
 ·
  exact C5 (cs := [A7, A7, A7, A7, A7]) kR rfl fun b => ⟨_, rfl, b, rfl, rfl⟩
 intro vs bs Jn0 hφ
 have g3 := ofH hφ
 dsimp only at g3
 replace hφ := ofT hφ
 have g4 := ofH hφ
 dsimp only at g4
 replace hφ := ofT hφ
 have g5 := ofH hφ
 dsimp only at g5
 replace hφ := ofT hφ
 have g6 := ofH hφ
 dsimp only at g6
 clear hφ
 dsimp only [P3, H9, List.map, List.flatten, List.cons_append, List.nil_append]
 generalize bs 3 = B53 at *
 generalize bs 4 = B54 at *
 generalize bs 5 = B55 at *
 generalize bs 6 = B22 at *
 generalize vs 3 = u53 at *
 generalize vs 4 = u54 at *
 generalize vs 5 = u55 at *
 generalize vs 6 = u22 at *
 obtain ⟨rfl, k3⟩ := g3
 have h3 := k3
 obtain ⟨a3, b3, c3, d3, e3, rfl, -⟩ := k3
 obtain ⟨rfl, k4⟩ := g4
 have h4 := k4
 obtain ⟨a4, b4, c4, d4, e4, rfl, -⟩ := k4
 obtain ⟨rfl, k5⟩ := g5
 have h5 := k5
 obtain ⟨a5, b5, c5, d5, e5, rfl, -⟩ := k5
 obtain ⟨b6, rfl, rfl⟩ := g6
 dsimp only [List.append_eq, List.nil_append, List.cons_append]
 have hzz := h5
 clear h3 h4 h5
 refine G5 rfl rfl rfl (A8 rfl rfl Cel.cel kR ln5 al5 UpC.upd ?_)
 refine E4 (A6J 10 11 12 13 16 17 18 21 22) ?_
 refine K0 ([(b10, blk [.int .u64 0, .int .u64 0, .int .u64 0, .int .u64 0, .int .u64 0] 205), (b11, blk [.int .u64 0, .int .u64 0, .int .u64 0, .int .u64 0, .int .u64 0] 205), (b12, blk [.int .u64 0, .int .u64 0, .int .u64 0, .int .u64 0, .int .u64 0] 205), (b13, blk [.int .u64 0, .int .u64 0, .int .u64 0, .int .u64 0, .int .u64 0] 205)]) (_) true (.range 15) [(0, 1), (1, 1), (3, 1), (4, 1), (6, 1), (10, 1), (11, 1), (2, 2), (5, 2), (7, 2), (8, 2), (9, 2), (12, 2), (13, 2), (14, 2), (15, 2)] kR kR PickC.perm fun hs K n0 hKm hKs hKn => ?_
 refine R9 hs rfl hKs (qw_ 5) ?_
 refine R9 hs rfl hKs (qw_ 5) ?_
 refine R9 hs rfl hKs (qw_ 5) ?_
 refine R9 hs rfl hKs (qw_ 5) ?_
 refine R9 hs rfl hKs (qw_ 5) ?_
 refine R9 hs rfl hKs (qw_ 5) ?_
 refine R9 hs rfl hKs (qw_ 5) ?_
 refine K9 [] _ rfl rfl (List.Perm.refl _) (fun _ h => by cases h) fun w0 => (D5 (aS rfl (aS rfl a0)) kR (R7 hss htt _) rfl ?_)
 rintro r58 M58 J58 ⟨rfl, rfl, k58⟩ _
 have h58 := k58
 obtain ⟨a58, b58, c58, d58, e58, rfl, -⟩ := k58
 dsimp only [List.nil_append, List.append_eq]
 refine K9 [] _ rfl rfl (List.Perm.refl _) (fun _ h => by cases h) fun w0 => (D5 (aS rfl a0) kR (A0w 121665 (by decide) _) rfl ?_)
 rintro r61 M61 J61 ⟨rfl, rfl, k61⟩ _
 have h61 := k61
 obtain ⟨a61, b61, c61, d61, e61, rfl, -⟩ := k61
 dsimp only [List.nil_append, List.append_eq]
 refine K9 [] _ rfl rfl (List.Perm.refl _) (fun _ h => by cases h) fun w0 => (D5 (aS rfl (aS rfl a0)) kR (R7 h61 h35 _) rfl ?_)
 rintro r63 M63 J63 ⟨rfl, rfl, k63⟩ _
 have h63 := k63
 obtain ⟨a63, b63, c63, d63, e63, rfl, -⟩ := k63
 dsimp only [List.nil_append, List.append_eq]
 refine K9 [] _ rfl rfl (List.Perm.refl _) (fun _ h => by cases h) fun w0 => (D5 (aS rfl (aS rfl a0)) kR (A3Q hss h63 _) rfl ?_)
 rintro r64 M64 J64 ⟨rfl, rfl, k64⟩ _
 have h64 := k64
 obtain ⟨a64, b64, c64, d64, e64, rfl, -⟩ := k64
 dsimp only [List.nil_append, List.append_eq]
 refine K9 [] _ rfl rfl (List.Perm.refl _) (fun _ h => by cases h) fun w0 => (D5 (aS rfl (aS rfl a0)) kR (R7 h35 h64 _) rfl ?_)
 rintro r65 M65 J65 ⟨rfl, rfl, k65⟩ _
 have h65 := k65
 obtain ⟨a65, b65, c65, d65, e65, rfl, -⟩ := k65
 dsimp only [List.nil_append, List.append_eq]
 refine K9 _ _ rfl rfl (List.Perm.refl _) hKm fun w0 => (A8 (vs := [.int .u64 (a58 : Int), .int .u64 (b58 : Int), .int .u64 (c58 : Int), .int .u64 (d58 : Int), .int .u64 (e58 : Int)]) rfl rfl rfl kR (by rfl) al5 UpC.upd ?_)
 intro hK12
 refine K9 _ _ rfl rfl (List.Perm.refl _) (hK12 (hKn rfl)) fun w0 => (A8 (vs := [.int .u64 (a65 : Int), .int .u64 (b65 : Int), .int .u64 (c65 : Int), .int .u64 (d65 : Int), .int .u64 (e65 : Int)]) rfl rfl rfl kR (by rfl) al5 UpC.upd ?_)
 intro hK13
 refine K9 _ _ rfl rfl (List.Perm.refl _) (hK13 (hKn rfl)) fun w0 => (A8 (vs := [.int .u64 (a49 : Int), .int .u64 (b49 : Int), .int .u64 (c49 : Int), .int .u64 (d49 : Int), .int .u64 (e49 : Int)]) rfl rfl rfl kR (by rfl) al5 UpC.upd ?_)
 intro hK14
 refine XK.tl rfl rfl rfl (A8 rfl rfl Cel.cel kR ln5 al5 UpC.upd ?_)
 refine Q3 (E9 10 11 12 13) (C1 ?_)
 exact ⟨_, [], [], C0g (n := 5) rfl rfl rfl rfl rfl kR At.mem At.mem At.mem At.mem rfl rfl rfl rfl, List.nil_sublist _, by simp, rfl, rfl, _, _, _, _, rfl, h58, h65, h49, hzz⟩
theorem B5j (v vp : Value) (wu wp : List Nat) (A : Mem) (hv : By A v wu) (hp : By A vp wp) : FnX Tryz.prog 98 [v, vp] [] A fun r M J => M = [] ∧ By J r (x25 wu wp) := by
 haveI := hv.cel
 haveI := hp.cel
 have hvl := hv.len
 have hpl := hp.len
 refine FnX.enter (N := 60) Tryz.func98 rfl rfl rfl fun w => ?_
 refine C4 (D4 0 1) (A3 (as_ (A0 (D4 0 1) (A3 (mv_ ?_)))))
 refine G1 (aS rfl a0) kR (B6V _ wu _ (hv.mono SubC.sub)) rfl ?_
 have hcn := A2e wu
 have hc256 := A6m hv.lt
 refine A6 rfl (C5 (cs := [zu8, zu8, zu8, zu8, zu8, zu8, zu8, zu8, zu8, zu8, zu8, zu8, zu8, zu8, zu8, zu8, zu8, zu8, zu8, zu8, zu8, zu8, zu8, zu8, zu8, zu8, zu8, zu8, zu8, zu8, zu8, zu8]) kR rfl fun b5 => ?_)
 refine A6 rfl (A8 (vs := nums .u8 (I8 wu)) rfl rfl rfl (by rw [nums_len, hcn]; kernel_rfl) (by rw [nums_len, hcn]; rfl) F4 UpC.upd ?_)
 refine A0 (D4 1 5) (A3 (mv_ ?_))
 refine D0 (aS rfl a0) kR (A4f vp wp _ (hp.rd.mono SubC.sub) hp.lt (by omega)) rfl ?_
 rintro r16 M16 J16 ⟨rfl, rfl, hU⟩
 have hUz := hU
 obtain ⟨ux0, ux1, ux2, ux3, ux4, rfl, -⟩ := hU
 refine A6 rfl (C5 (cs := [A7, A7, A7, A7, A7]) kR rfl fun b6 => ?_)
 refine A6 rfl (A8 (vs := [.int .u64 (ux0 : Int), .int .u64 (ux1 : Int), .int .u64 (ux2 : Int), .int .u64 (ux3 : Int), .int .u64 (ux4 : Int)]) rfl rfl rfl kR (by rfl) al5 UpC.upd ?_)
 refine A0 (D4 5 6) ?_
 refine K0 ([]) (_) true (.range 10) [(2, 1), (0, 3), (1, 3), (3, 3), (4, 3), (5, 3), (6, 3), (7, 4), (8, 2), (9, 2), (10, 2), (11, 2)] kR kR PickC.perm fun hs K n0 hKm hKs hKn => ?_
 refine R9 hs rfl hKs (qw_ 5) ?_
 refine A5N [⟨0, 17, fun v B _ => B = [] ∧ Fe v (1)⟩, ⟨1, 18, fun v B _ => B = [] ∧ Fe v (0)⟩, ⟨3, 20, fun v B _ => B = [] ∧ Fe v (1)⟩, ⟨4, 7, fun v B _ => ∃ b, v = .pointer (some ⟨b, 0, none⟩) ∧ B = [(b, blk [.int .u64 0, .int .u64 0, .int .u64 0, .int .u64 0, .int .u64 0] 205)]⟩, ⟨5, 8, fun v B _ => ∃ b, v = .pointer (some ⟨b, 0, none⟩) ∧ B = [(b, blk [.int .u64 0, .int .u64 0, .int .u64 0, .int .u64 0, .int .u64 0] 205)]⟩, ⟨6, 9, fun v B _ => ∃ b, v = .pointer (some ⟨b, 0, none⟩) ∧ B = [(b, blk [.int .u64 0, .int .u64 0, .int .u64 0, .int .u64 0, .int .u64 0] 205)]⟩, ⟨7, 10, fun v B _ => ∃ b, v = .pointer (some ⟨b, 0, none⟩) ∧ B = [(b, blk [.int .u64 0, .int .u64 0, .int .u64 0, .int .u64 0, .int .u64 0] 205)]⟩]
  (C3 (fun _ _ _ _ _ h => h) (C3 (fun _ _ _ _ _ h => h) (C3 (fun _ _ _ _ _ h => h) (C3 (fun _ _ _ _ _ h => h) (C3 (fun _ _ _ _ _ h => h) (C3 (fun _ _ _ _ _ h => h) (C3 (fun _ _ _ _ _ h => h) (L1)))))))) (show List.Nodup [17, 18, 20, 7, 8, 9, 10] by decide) (show List.Nodup [0, 1, 3, 4, 5, 6, 7] by decide) (C3 (C9 rfl) (C3 (C9 rfl) (C3 (C9 rfl) (C3 (C9 rfl) (C3 (C9 rfl) (C3 (C9 rfl) (C3 (C9 rfl) (L1))))))))
  (C3 ⟨_, rfl, fun vs bs R w hb ha => ⟨.inl rfl, ?_⟩⟩ (C3 ⟨_, rfl, fun vs bs R w hb ha => ⟨.inl rfl, ?_⟩⟩ (C3 ⟨_, rfl, fun vs bs R w hb ha => ⟨.inl rfl, ?_⟩⟩ (C3 ⟨_, rfl, fun vs bs R w hb ha => ⟨.inl rfl, ?_⟩⟩ (C3 ⟨_, rfl, fun vs bs R w hb ha => ⟨.inl rfl, ?_⟩⟩ (C3 ⟨_, rfl, fun vs bs R w hb ha => ⟨.inl rfl, ?_⟩⟩ (C3 ⟨_, rfl, fun vs bs R w hb ha => ⟨.inl rfl, ?_⟩⟩ (L1)))))))) ?_
 ·
  refine D5 (aS rfl a0) kR (A0w 1 (by decide) _) rfl ?_
  rintro r M1 J1 ⟨rfl, rfl, hh⟩
  exact ⟨_, rfl, rfl, hh⟩
 ·
  refine D5 (aS rfl a0) kR (A0w 0 (by decide) _) rfl ?_
  rintro r M1 J1 ⟨rfl, rfl, hh⟩
  exact ⟨_, rfl, rfl, hh⟩
 ·
  refine D5 (aS rfl a0) kR (A0w 1 (by decide) _) rfl ?_
  rintro r M1 J1 ⟨rfl, rfl, hh⟩
  exact ⟨_, rfl, rfl, hh⟩
 ·
  exact C5 (cs := [A7, A7, A7, A7, A7]) kR rfl fun b => ⟨_, rfl, b, rfl, rfl⟩
 ·
  exact C5 (cs := [A7, A7, A7, A7, A7]) kR rfl fun b => ⟨_, rfl, b, rfl, rfl⟩
 ·
  exact C5 (cs := [A7, A7, A7, A7, A7]) kR rfl fun b => ⟨_, rfl, b, rfl, rfl⟩
 ·
  exact C5 (cs := [A7, A7, A7, A7, A7]) kR rfl fun b => ⟨_, rfl, b, rfl, rfl⟩
 intro vs bs Jn0 hφ hNN
 have n4 := hNN _ (List.mem_of_getElem? (i := 3) rfl)
 dsimp only at n4
 have n5 := hNN _ (List.mem_of_getElem? (i := 4) rfl)
 dsimp only at n5
 clear hNN
 have g0 := ofH hφ
 dsimp only at g0
 replace hφ := ofT hφ
 have g1 := ofH hφ
 dsimp only at g1
 replace hφ := ofT hφ
 have g3 := ofH hφ
 dsimp only at g3
 replace hφ := ofT hφ
 have g4 := ofH hφ
 dsimp only at g4
 replace hφ := ofT hφ
 have g5 := ofH hφ
 dsimp only at g5
 replace hφ := ofT hφ
 have g6 := ofH hφ
 dsimp only at g6
 replace hφ := ofT hφ
 have g7 := ofH hφ
 dsimp only at g7
 clear hφ
 dsimp only [P3, H9, List.map, List.flatten, List.cons_append, List.nil_append]
 generalize bs 0 = B17 at *
 generalize bs 1 = B18 at *
 generalize bs 3 = B20 at *
 generalize bs 4 = B7 at *
 generalize bs 5 = B8 at *
 generalize bs 6 = B9 at *
 generalize bs 7 = B10 at *
 generalize vs 0 = u17 at *
 generalize vs 1 = u18 at *
 generalize vs 3 = u20 at *
 generalize vs 4 = u7 at *
 generalize vs 5 = u8 at *
 generalize vs 6 = u9 at *
 generalize vs 7 = u10 at *
 obtain ⟨rfl, k0⟩ := g0
 obtain ⟨rfl, k1⟩ := g1
 obtain ⟨rfl, k3⟩ := g3
 have k0z := k0
 obtain ⟨pw0, pw1, pw2, pw3, pw4, rfl, -⟩ := k0
 have k1z := k1
 obtain ⟨px0, px1, px2, px3, px4, rfl, -⟩ := k1
 have k3z := k3
 obtain ⟨pq0, pq1, pq2, pq3, pq4, rfl, -⟩ := k3
 obtain ⟨b7, rfl, rfl⟩ := g4
 obtain ⟨b8, rfl, rfl⟩ := g5
 obtain ⟨b9, rfl, rfl⟩ := g6
 obtain ⟨b10, rfl, rfl⟩ := g7
 dsimp only [List.append_eq, List.nil_append, List.cons_append]
 refine K9 [(b7, blk [.int .u64 0, .int .u64 0, .int .u64 0, .int .u64 0, .int .u64 0] 205)] _ rfl rfl PickC.perm (fun x hx => by rw [List.mem_singleton.1 hx]; exact hKn rfl _ (n4 _ List.mem_cons_self)) fun w0 => (A8 (vs := [.int .u64 (pw0 : Int), .int .u64 (pw1 : Int), .int .u64 (pw2 : Int), .int .u64 (pw3 : Int), .int .u64 (pw4 : Int)]) rfl rfl rfl kR (by rfl) al5 UpC.upd ?_)
 intro hK8
 refine K9 [(b8, blk [.int .u64 0, .int .u64 0, .int .u64 0, .int .u64 0, .int .u64 0] 205)] _ rfl rfl PickC.perm (fun x hx => by rw [List.mem_singleton.1 hx]; exact hKn rfl _ (n5 _ List.mem_cons_self)) fun w0 => (A8 (vs := [.int .u64 (px0 : Int), .int .u64 (px1 : Int), .int .u64 (px2 : Int), .int .u64 (px3 : Int), .int .u64 (px4 : Int)]) rfl rfl rfl kR (by rfl) al5 UpC.upd ?_)
 intro hK9
 refine XK.tl rfl rfl rfl (A8 (vs := [.int .u64 (ux0 : Int), .int .u64 (ux1 : Int), .int .u64 (ux2 : Int), .int .u64 (ux3 : Int), .int .u64 (ux4 : Int)]) rfl rfl rfl kR (by rfl) al5 UpC.upd ?_)
 refine XK.tl rfl rfl rfl (A8 (vs := [.int .u64 (pq0 : Int), .int .u64 (pq1 : Int), .int .u64 (pq2 : Int), .int .u64 (pq3 : Int), .int .u64 (pq4 : Int)]) rfl rfl rfl kR (by rfl) al5 UpC.upd ?_)
 refine Q3 (I4 5 6 7 8 9 10) (A5 (A3 (as_ (A0 (X9 5 6 7 8 9 10 11) (C0 ?_)))))
 refine A0r (M' := [(b10, blk [.int .u64 (pq0 : Int), .int .u64 (pq1 : Int), .int .u64 (pq2 : Int), .int .u64 (pq3 : Int), .int .u64 (pq4 : Int)] 205), (b9, blk [.int .u64 (ux0 : Int), .int .u64 (ux1 : Int), .int .u64 (ux2 : Int), .int .u64 (ux3 : Int), .int .u64 (ux4 : Int)] 205), (b8, blk [.int .u64 (px0 : Int), .int .u64 (px1 : Int), .int .u64 (px2 : Int), .int .u64 (px3 : Int), .int .u64 (px4 : Int)] 205), (b7, blk [.int .u64 (pw0 : Int), .int .u64 (pw1 : Int), .int .u64 (pw2 : Int), .int .u64 (pw3 : Int), .int .u64 (pw4 : Int)] 205), (b6, blk [.int .u64 (ux0 : Int), .int .u64 (ux1 : Int), .int .u64 (ux2 : Int), .int .u64 (ux3 : Int), .int .u64 (ux4 : Int)] 205), (b5, blk (nums .u8 (I8 wu)) 202)]) (Fit.pick (B := [_]) PickC.perm (Fit.pick (B := [_]) PickC.perm (Fit.pick (B := [_]) PickC.perm (Fit.pick (B := [_]) PickC.perm (Fit.pick (B := [_]) PickC.perm (Fit.eq rfl)))))) (fun _ h => h) ?_
 refine F7 (α := Nat × List Nat × List Nat × List Nat × List Nat) (fun y => [(5, .pointer (some ⟨b5, 0, none⟩)), (6, .pointer (some ⟨b6, 0, none⟩)), (7, .pointer (some ⟨b7, 0, none⟩)), (8, .pointer (some ⟨b8, 0, none⟩)), (9, .pointer (some ⟨b9, 0, none⟩)), (10, .pointer (some ⟨b10, 0, none⟩)), (11, .int .i64 ((y.1 : Int) - 1))]) (fun y => [(b10, blk (nums .u64 y.2.2.2.2) 205), (b9, blk (nums .u64 y.2.2.2.1) 205), (b8, blk (nums .u64 y.2.2.1) 205), (b7, blk (nums .u64 y.2.1) 205), (b6, blk (nums .u64 [ux0, ux1, ux2, ux3, ux4]) 205), (b5, blk (nums .u8 (I8 wu)) 202)]) (fun _ => []) (fun y => y.1 ≤ 255 ∧ Fe (.agg (nums .u64 y.2.1).toArray) (A1U (rdN wp) (bv (I8 wu)) (255 - y.1)).a ∧ Fe (.agg (nums .u64 y.2.2.1).toArray) (A1U (rdN wp) (bv (I8 wu)) (255 - y.1)).b ∧ Fe (.agg (nums .u64 y.2.2.2.1).toArray) (A1U (rdN wp) (bv (I8 wu)) (255 - y.1)).c ∧ Fe (.agg (nums .u64 y.2.2.2.2).toArray) (A1U (rdN wp) (bv (I8 wu)) (255 - y.1)).d) (fun y => y.1) (255, [pw0, pw1, pw2, pw3, pw4], [px0, px1, px2, px3, px4], [ux0, ux1, ux2, ux3, ux4], [pq0, pq1, pq2, pq3, pq4]) ⟨Nat.le_refl _, by dsimp only; rw [Nat.sub_self]; exact k0z, by dsimp only; rw [Nat.sub_self]; exact k1z, by dsimp only; rw [Nat.sub_self]; exact hUz, by dsimp only; rw [Nat.sub_self]; exact k3z⟩ (X9 5 6 7 8 9 10 11) (Fit.eq rfl) (fun _ h => by cases h) ?_
 clear k0z k1z k3z
 rintro ⟨j, la, lb, lc, ld⟩ ⟨hj, haz, hbz, hcz, hdz⟩
 dsimp only at hj haz hbz hcz hdz ⊢
 obtain ⟨za0, za1, za2, za3, za4, rfl⟩ := A5g haz
 obtain ⟨zb0, zb1, zb2, zb3, zb4, rfl⟩ := A5g hbz
 obtain ⟨zc0, zc1, zc2, zc3, zc4, rfl⟩ := A5g hcz
 obtain ⟨zd0, zd1, zd2, zd3, zd4, rfl⟩ := A5g hdz
 dsimp only [nums, List.map]
 refine A5 (A3 (mv_ ?_))
 refine A4 (F5 rfl rfl rfl) rfl ?_
 refine A0 (A12 5 6 7 8 9 10 11 22) ?_
 refine C7 rfl (fun hc => ?_) (fun hc => ?_)
 ·
  have hj0 : 0 < j := by simp at hc; omega
  obtain ⟨i, rfl⟩ : ∃ i, j = i + 1 := ⟨j - 1, by omega⟩
  rw [show (((i + 1 : Nat) : Int) - 1) = (i : Int) by omega]
  have hts := B1e (u := rdN wp) (n := bv (I8 wu)) (show i < 255 by omega)
  have hbit := A58 hc256 i
  have hpb : (I8 wu).getD (i / 8) 0 < 256 := Go.Px.getD_lt hc256 (by decide)
  have hz2 : bv (I8 wu) / 2 ^ i % 2 < 2 := Nat.mod_lt _ (by decide)
  generalize A1U (rdN wp) (bv (I8 wu)) (255 - (i + 1)) = S at *
  generalize bv (I8 wu) / 2 ^ i % 2 = zb at *
  obtain ⟨bt, hbt⟩ : ∃ bt, decide (zb = 1) = bt := ⟨_, rfl⟩
  rw [hbt] at hts
  refine A9 (nx (X9 5 6 7 8 9 10 11) (A5 (C0 (A3 (mv_ ?_)))))
  refine A4 (A0H 8 rfl rfl rfl (by decide) (A13 (by omega))) rfl ?_
  refine A4 (E8 (e := 5) (n := 32) (sz := 1) (i := i / 8) rfl rfl kR kR rfl (by omega)) rfl ?_
  refine A4 (Q0 (i / 8) rfl kR At.mem (by omega) (by omega)) rfl ?_
  refine mv_ ?_
  refine A4 (A0I 8 rfl rfl rfl (by decide)) rfl ?_
  refine A4 (A2p (a := (I8 wu).getD (i / 8) 0) (b := i % 8) rfl rfl rfl rfl (by show _ ≤ 8; omega)) rfl ?_
  refine A4 (hbit ▸ N1 1 2 rfl rfl rfl rfl rfl (by show _ < 256; exact Nat.lt_of_le_of_lt (Nat.div_le_self _ _) hpb) (by decide)) rfl ?_
  refine A4 (hbt ▸ E7 (decide (zb = 1)) rfl rfl (by rcases (show zb = 0 ∨ zb = 1 by omega) with h | h <;> subst h <;> rfl)) rfl ?_
  refine as_ (A0 (A12 5 6 7 8 9 10 11 12) (A5 ?_))
  cases bt
  ·
   refine A3 (mv_ (A0 (A6J 5 6 7 8 9 10 11 12 34) ?_))
   refine D6 rfl ?_
   refine A9 (nx (A12 5 6 7 8 9 10 11 12) (A3 ?_))
   refine A4 (qw_ 5) rfl ?_
   refine A4 (qw_ 5) rfl ?_
   refine A4 (qw_ 5) rfl ?_
   refine A4 (qw_ 5) rfl ?_
   refine A4 (qw_ 5) rfl ?_
   refine D0 (aS rfl (aS rfl (aS rfl (aS rfl (aS rfl a0))))) kR (B5i _ _ _ _ _ (rdN wp) _ _ _ _ _ hUz haz hbz hcz hdz) rfl ?_
   rintro r45 M45 J45 ⟨rfl, rfl, v0, v1, v2, v3, rfl, k0, k1, k2, k3⟩
   have k0z := k0
   obtain ⟨pw0, pw1, pw2, pw3, pw4, rfl, -⟩ := k0
   have k1z := k1
   obtain ⟨px0, px1, px2, px3, px4, rfl, -⟩ := k1
   have k2z := k2
   obtain ⟨py0, py1, py2, py3, py4, rfl, -⟩ := k2
   have k3z := k3
   obtain ⟨pq0, pq1, pq2, pq3, pq4, rfl, -⟩ := k3
   refine mv_ ?_
   refine A4 (A2I rfl) rfl ?_
   refine A4 (A2v rfl) rfl ?_
   refine A4 (B7F rfl) rfl ?_
   refine A4 (q_x3 rfl) rfl ?_
   refine A6 rfl (A8 (vs := [.int .u64 (pw0 : Int), .int .u64 (pw1 : Int), .int .u64 (pw2 : Int), .int .u64 (pw3 : Int), .int .u64 (pw4 : Int)]) rfl rfl rfl kR (by rfl) al5 UpC.upd ?_)
   refine A6 rfl (A8 (vs := [.int .u64 (px0 : Int), .int .u64 (px1 : Int), .int .u64 (px2 : Int), .int .u64 (px3 : Int), .int .u64 (px4 : Int)]) rfl rfl rfl kR (by rfl) al5 UpC.upd ?_)
   refine A6 rfl (A8 (vs := [.int .u64 (py0 : Int), .int .u64 (py1 : Int), .int .u64 (py2 : Int), .int .u64 (py3 : Int), .int .u64 (py4 : Int)]) rfl rfl rfl kR (by rfl) al5 UpC.upd ?_)
   refine A6 rfl (A8 (vs := [.int .u64 (pq0 : Int), .int .u64 (pq1 : Int), .int .u64 (pq2 : Int), .int .u64 (pq3 : Int), .int .u64 (pq4 : Int)]) rfl rfl rfl kR (by rfl) al5 UpC.upd ?_)
   refine A0 (A12 5 6 7 8 9 10 11 12) (A3 (mv_ (A0 (A12 5 6 7 8 9 10 11 50) ?_)))
   refine D6 rfl ?_
   refine A9 (nb (nx (X9 5 6 7 8 9 10 11) (C2 (mv_ ?_))))
   refine A4 (E5 ((i : Int) - 1) rfl rfl (X6 rfl (by omega) (by omega))) rfl ?_
   refine as_ (D1 ?_)
   exact rn (i, [pw0, pw1, pw2, pw3, pw4], [px0, px1, px2, px3, px4], [py0, py1, py2, py3, py4], [pq0, pq1, pq2, pq3, pq4]) ⟨by dsimp only; omega, by dsimp only; rw [hts]; exact k0z, by dsimp only; rw [hts]; exact k1z, by dsimp only; rw [hts]; exact k2z, by dsimp only; rw [hts]; exact k3z⟩ (by dsimp only; omega) (X9 5 6 7 8 9 10 11) (show Fit _ ([(b10, blk [.int .u64 (pq0 : Int), .int .u64 (pq1 : Int), .int .u64 (pq2 : Int), .int .u64 (pq3 : Int), .int .u64 (pq4 : Int)] 205), (b9, blk [.int .u64 (py0 : Int), .int .u64 (py1 : Int), .int .u64 (py2 : Int), .int .u64 (py3 : Int), .int .u64 (py4 : Int)] 205), (b8, blk [.int .u64 (px0 : Int), .int .u64 (px1 : Int), .int .u64 (px2 : Int), .int .u64 (px3 : Int), .int .u64 (px4 : Int)] 205), (b7, blk [.int .u64 (pw0 : Int), .int .u64 (pw1 : Int), .int .u64 (pw2 : Int), .int .u64 (pw3 : Int), .int .u64 (pw4 : Int)] 205), (b6, blk [.int .u64 (ux0 : Int), .int .u64 (ux1 : Int), .int .u64 (ux2 : Int), .int .u64 (ux3 : Int), .int .u64 (ux4 : Int)] 205), (b5, blk (nums .u8 (I8 wu)) 202)]) from (Fit.pick (B := [_]) PickC.perm (Fit.pick (B := [_]) PickC.perm (Fit.pick (B := [_]) PickC.perm (Fit.pick (B := [_]) PickC.perm (Fit.pick (B := [_]) PickC.perm (Fit.eq rfl))))))) (fun _ h => by cases h)
  ·
   refine A3 (mv_ (A0 (A6J 5 6 7 8 9 10 11 12 34) ?_))
   refine E0 rfl ?_
   refine A0F ([(b7, blk [.int .u64 (za0 : Int), .int .u64 (za1 : Int), .int .u64 (za2 : Int), .int .u64 (za3 : Int), .int .u64 (za4 : Int)] 205)]) (_) true [0, 1, 2, 3, 4] [(0, 1), (1, 1), (3, 1), (2, 2), (4, 2), (5, 2), (6, 2), (7, 2)] kR kR PickC.perm fun hs K n0 hKm hKs hKn => ?_
   refine R9 hs rfl hKs (qw_ 5) ?_
   refine R9 hs rfl hKs (qw_ 5) ?_
   refine R9 hs rfl hKs (qw_ 5) ?_
   refine K9 _ _ rfl rfl (List.Perm.refl _) hKm fun w0 => (OpQ.opL (H8 (n := 5) rfl kR At.mem (by rfl)) rfl ?_)
   intro hK2
   refine K9 _ _ rfl rfl (List.Perm.refl _) (hK2 (hKn rfl)) fun w0 => (A8 (vs := [.int .u64 (zc0 : Int), .int .u64 (zc1 : Int), .int .u64 (zc2 : Int), .int .u64 (zc3 : Int), .int .u64 (zc4 : Int)]) rfl rfl rfl kR (by rfl) al5 UpC.upd ?_)
   intro hK4
   refine XK.tl rfl rfl rfl (A8 (vs := [.int .u64 (zd0 : Int), .int .u64 (zd1 : Int), .int .u64 (zd2 : Int), .int .u64 (zd3 : Int), .int .u64 (zd4 : Int)]) rfl rfl rfl kR (by rfl) al5 UpC.upd ?_)
   refine XK.tl rfl rfl rfl (A8 (vs := [.int .u64 (za0 : Int), .int .u64 (za1 : Int), .int .u64 (za2 : Int), .int .u64 (za3 : Int), .int .u64 (za4 : Int)]) rfl rfl rfl kR (by rfl) al5 UpC.upd ?_)
   refine XK.tl rfl rfl rfl (A8 (vs := [.int .u64 (zb0 : Int), .int .u64 (zb1 : Int), .int .u64 (zb2 : Int), .int .u64 (zb3 : Int), .int .u64 (zb4 : Int)]) rfl rfl rfl kR (by rfl) al5 UpC.upd ?_)
   refine Q3 (A12 5 6 7 8 9 10 11 12) (A3 ?_)
   refine A4 (qw_ 5) rfl ?_
   refine A4 (qw_ 5) rfl ?_
   refine A4 (qw_ 5) rfl ?_
   refine A4 (qw_ 5) rfl ?_
   refine A4 (qw_ 5) rfl ?_
   refine D0 (aS rfl (aS rfl (aS rfl (aS rfl (aS rfl a0))))) kR (B5i _ _ _ _ _ (rdN wp) _ _ _ _ _ hUz hcz hdz haz hbz) rfl ?_
   rintro r45 M45 J45 ⟨rfl, rfl, v0, v1, v2, v3, rfl, k0, k1, k2, k3⟩
   have k0z := k0
   obtain ⟨pw0, pw1, pw2, pw3, pw4, rfl, -⟩ := k0
   have k1z := k1
   obtain ⟨px0, px1, px2, px3, px4, rfl, -⟩ := k1
   have k2z := k2
   obtain ⟨py0, py1, py2, py3, py4, rfl, -⟩ := k2
   have k3z := k3
   obtain ⟨pq0, pq1, pq2, pq3, pq4, rfl, -⟩ := k3
   refine mv_ ?_
   refine A4 (A2I rfl) rfl ?_
   refine A4 (A2v rfl) rfl ?_
   refine A4 (B7F rfl) rfl ?_
   refine A4 (q_x3 rfl) rfl ?_
   refine A6 rfl (A8 (vs := [.int .u64 (pw0 : Int), .int .u64 (pw1 : Int), .int .u64 (pw2 : Int), .int .u64 (pw3 : Int), .int .u64 (pw4 : Int)]) rfl rfl rfl kR (by rfl) al5 UpC.upd ?_)
   refine A6 rfl (A8 (vs := [.int .u64 (px0 : Int), .int .u64 (px1 : Int), .int .u64 (px2 : Int), .int .u64 (px3 : Int), .int .u64 (px4 : Int)]) rfl rfl rfl kR (by rfl) al5 UpC.upd ?_)
   refine A6 rfl (A8 (vs := [.int .u64 (py0 : Int), .int .u64 (py1 : Int), .int .u64 (py2 : Int), .int .u64 (py3 : Int), .int .u64 (py4 : Int)]) rfl rfl rfl kR (by rfl) al5 UpC.upd ?_)
   refine A6 rfl (A8 (vs := [.int .u64 (pq0 : Int), .int .u64 (pq1 : Int), .int .u64 (pq2 : Int), .int .u64 (pq3 : Int), .int .u64 (pq4 : Int)]) rfl rfl rfl kR (by rfl) al5 UpC.upd ?_)
   refine A0 (A12 5 6 7 8 9 10 11 12) (A3 (mv_ (A0 (A12 5 6 7 8 9 10 11 50) ?_)))
   refine E0 rfl ?_
   refine A0F ([(b7, blk [.int .u64 (pw0 : Int), .int .u64 (pw1 : Int), .int .u64 (pw2 : Int), .int .u64 (pw3 : Int), .int .u64 (pw4 : Int)] 205)]) (_) true [0, 1, 2, 3, 4] [(0, 1), (1, 1), (3, 1), (2, 2), (4, 2), (5, 2), (6, 2), (7, 2)] kR kR PickC.perm fun hs K n0 hKm hKs hKn => ?_
   refine R9 hs rfl hKs (qw_ 5) ?_
   refine R9 hs rfl hKs (qw_ 5) ?_
   refine R9 hs rfl hKs (qw_ 5) ?_
   refine K9 _ _ rfl rfl (List.Perm.refl _) hKm fun w0 => (OpQ.opL (H8 (n := 5) rfl kR At.mem (by rfl)) rfl ?_)
   intro hK2
   refine K9 _ _ rfl rfl (List.Perm.refl _) (hK2 (hKn rfl)) fun w0 => (A8 (vs := [.int .u64 (py0 : Int), .int .u64 (py1 : Int), .int .u64 (py2 : Int), .int .u64 (py3 : Int), .int .u64 (py4 : Int)]) rfl rfl rfl kR (by rfl) al5 UpC.upd ?_)
   intro hK4
   refine XK.tl rfl rfl rfl (A8 (vs := [.int .u64 (pq0 : Int), .int .u64 (pq1 : Int), .int .u64 (pq2 : Int), .int .u64 (pq3 : Int), .int .u64 (pq4 : Int)]) rfl rfl rfl kR (by rfl) al5 UpC.upd ?_)
   refine XK.tl rfl rfl rfl (A8 (vs := [.int .u64 (pw0 : Int), .int .u64 (pw1 : Int), .int .u64 (pw2 : Int), .int .u64 (pw3 : Int), .int .u64 (pw4 : Int)]) rfl rfl rfl kR (by rfl) al5 UpC.upd ?_)
   refine XK.tl rfl rfl rfl (A8 (vs := [.int .u64 (px0 : Int), .int .u64 (px1 : Int), .int .u64 (px2 : Int), .int .u64 (px3 : Int), .int .u64 (px4 : Int)]) rfl rfl rfl kR (by rfl) al5 UpC.upd ?_)
   refine A5F (nb (nx (X9 5 6 7 8 9 10 11) (C2 (mv_ ?_))))
   refine A4 (E5 ((i : Int) - 1) rfl rfl (X6 rfl (by omega) (by omega))) rfl ?_
   refine as_ (D1 ?_)
   exact rn (i, [py0, py1, py2, py3, py4], [pq0, pq1, pq2, pq3, pq4], [pw0, pw1, pw2, pw3, pw4], [px0, px1, px2, px3, px4]) ⟨by dsimp only; omega, by dsimp only; rw [hts]; exact k2z, by dsimp only; rw [hts]; exact k3z, by dsimp only; rw [hts]; exact k0z, by dsimp only; rw [hts]; exact k1z⟩ (by dsimp only; omega) (X9 5 6 7 8 9 10 11) (show Fit _ ([(b10, blk [.int .u64 (px0 : Int), .int .u64 (px1 : Int), .int .u64 (px2 : Int), .int .u64 (px3 : Int), .int .u64 (px4 : Int)] 205), (b9, blk [.int .u64 (pw0 : Int), .int .u64 (pw1 : Int), .int .u64 (pw2 : Int), .int .u64 (pw3 : Int), .int .u64 (pw4 : Int)] 205), (b8, blk [.int .u64 (pq0 : Int), .int .u64 (pq1 : Int), .int .u64 (pq2 : Int), .int .u64 (pq3 : Int), .int .u64 (pq4 : Int)] 205), (b7, blk [.int .u64 (py0 : Int), .int .u64 (py1 : Int), .int .u64 (py2 : Int), .int .u64 (py3 : Int), .int .u64 (py4 : Int)] 205), (b6, blk [.int .u64 (ux0 : Int), .int .u64 (ux1 : Int), .int .u64 (ux2 : Int), .int .u64 (ux3 : Int), .int .u64 (ux4 : Int)] 205), (b5, blk (nums .u8 (I8 wu)) 202)]) from (Fit.pick (B := [_]) PickC.perm (Fit.pick (B := [_]) PickC.perm (Fit.pick (B := [_]) PickC.perm (Fit.pick (B := [_]) PickC.perm (Fit.pick (B := [_]) PickC.perm (Fit.eq rfl))))))) (fun _ h => by cases h)
 ·
  have hj0 : j = 0 := by simp at hc; omega
  subst hj0
  refine F1 (te (re (be rfl (nx (D4 7 8) ?_))))
  refine D3 [0, 1, 2, 3, 4, 5] (zp 0 [1, 1, 2, 2, 2, 0]) kR kR fun hs => ?_
  refine F8 hs rfl (qw_ 5) rfl ?_
  refine F8 hs rfl (qw_ 5) rfl ?_
  refine G4 rfl (aS rfl a0) kR (B0M hbz _) rfl ?_
  rintro r57 M57 J57 ⟨rfl, rfl, k57⟩
  have h57 := k57
  obtain ⟨a57, b57, c57, d57, e57, rfl, -⟩ := k57
  refine G4 rfl (aS rfl (aS rfl a0)) kR (R7 haz h57 _) rfl ?_
  rintro r58 M58 J58 ⟨rfl, rfl, k58⟩
  have h58 := k58
  obtain ⟨a58, b58, c58, d58, e58, rfl, -⟩ := k58
  refine G4 rfl (aS rfl a0) kR ((W9 _ _ h58 _).frz0) rfl ?_
  rintro r59 M59 J59 ⟨rfl, hs59⟩
  haveI := hs59.cel
  refine fa_ hs ?_
  refine E4 (D8 4) (C1 ?_)
  exact ⟨_, [], J59, I2 rfl rfl, List.nil_sublist _, fun x hx => by simp [hx], rfl, B3C hs59 (A5f _ _).symm (B5g _ _) (by rw [A5f]; decide) fun _ h => h⟩
theorem B8W (v : Value) (wu : List Nat) (A : Mem) (hv : By A v wu) : FnX Tryz.prog 52 [v] [] A fun r M J => M = [] ∧ By J r (A0e wu) := by
 haveI := hv.cel
 refine FnX.enterZ (N := 10) Tryz.func52 rfl rfl rfl fun w_ => ?_
 refine C4 (D8 0) (A3 (as_ (A0 (D8 0) (A3 ?_))))
 refine A6 rfl (A26 (by_ := 1) (k := .u8) (e := 5) 32 rfl rfl kR rfl rfl (by omega) (by omega) rfl fun b4 => ?_)
 refine as_ (A0 (D4 0 3) (A3 (mv_ ?_)))
 refine A4 (P9 (e := 5) (sz := 1) (i := 0) rfl rfl kR kR (by omega) (by omega)) rfl ?_
 refine A6 rfl (R8 0 (ws := List.replicate 32 0) rfl rfl kR rfl (by simp) UpC.upd ?_)
 refine A0 (D4 0 3) (A3 (mv_ (mv_ ?_)))
 refine D0 (aS rfl (aS rfl a0)) kR (B5j v _ wu B3F _ (hv.mono SubC.sub) ⟨Rd.whole (n := 32) (cs := nums .u8 B3F) At.mem (by rfl), by decide, by decide⟩) rfl ?_
 rintro r9 M9 J9 ⟨rfl, h9⟩
 haveI := h9.cel
 refine as_ (A0 (D8 2) (C1 ?_))
 exact ⟨_, [], [], I2 rfl rfl, Fit.sub (List.nil_sublist _), rfl, h9.mono SubC.sub⟩

theorem A7g {r : Value} {a b : List Nat} (h : Sc r (bv (B2v a) % lN)) (e : a = b) : Sc r (bv (B2v b) % lN) := e ▸ h
theorem A8i (v : Value) (ws : List Nat) (A : Mem) (hv : By A v ws) (hl : ws.length ≤ 100000000) (hG : GlS A) : FnX Tryz.prog 143 [v] [] A fun r M J => M = [] ∧ J = [] ∧ Sc r (A9c ws) := by
 haveI := hv.cel
 have hvl := hv.len
 obtain ⟨⟨ge0, gf0, h0⟩, ⟨ge1, gf1, h1⟩⟩ := hG
 refine FnX.enter (N := 9) Tryz.func143 rfl rfl rfl fun w => ?_
 refine C4 (D8 0) (A3 ?_)
 refine A6 rfl (C5 (cs := [G8, G8, G8, G8, G8, G8, G8, G8]) kR rfl fun b2 => ?_)
 refine A0 (D4 0 2) (A3 ?_)
 refine A6 rfl (C8 (e := 5) (sz := 1) (z := [zu8, zu8, zu8, zu8, zu8, zu8]) kR (eS rfl (eS rfl (eS rfl (eS rfl (eS rfl (eS rfl e0)))))) (bdS 0 1 rfl (by rfl) (bdS 1 1 rfl (by rfl) (bdS 2 1 rfl (by rfl) (bdS 3 1 rfl (by rfl) (bdS 4 1 rfl (by rfl) (bdS 5 1 rfl (by rfl) bd0)))))) rfl fun b3 => ?_)
 refine A6 rfl (A31 rfl kR UpC.upd rfl ?_)
 refine mv_ ?_
 refine A6 rfl (C8 (e := 27) (sz := 1) (z := [.slice none 0 0, .slice none 0 0]) kR (eS rfl (eS rfl e0)) (bdS 0 1 rfl (by rfl) (bdS 1 1 rfl (by rfl) bd0)) rfl fun b6 => ?_)
 refine D0 (aS rfl a0) kR (A28 _ [[115, 101, 99, 114, 101, 116], ws] _ (A6P.of (Rd.whole (n := 2) m0 (by rfl)) rfl (.cons (by decide) (Rd.whole (n := 6) (cs := nums .u8 [115, 101, 99, 114, 101, 116]) At.mem (by rfl)) (.cons hv.lt (hv.rd.mono SubC.sub) .nil))) (by simp; omega) (by simp) (mA h0) (mA h1)) rfl ?_
 rintro r7 M7 J7 ⟨rfl, h7⟩
 refine D0 (aS rfl a0) kR (A1R _ _ _ (A06 (h7.rd SubC.sub) (A00 _).symm rfl) (A7f _) (by rw [A00]; decide)) rfl ?_
 rintro r8 M8 J8 ⟨rfl, rfl, hq8⟩
 have hs8 : Sc r8 (A9c ws) := A7g hq8 (by simp)
 have hz8 := hs8
 obtain ⟨s, rfl, s8, s32, sv⟩ := hs8
 refine A6 rfl (A8 (vs := nums .u32 s) rfl rfl rfl (by rw [nums_len, s8]; kernel_rfl) (by rw [nums_len, s8]; rfl) F4 UpC.upd ?_)
 refine A0 (D8 2) (C1 ?_)
 exact ⟨_, [], [], A1g (n := 8) rfl rfl kR At.mem (by rw [nums_len]; omega), List.nil_sublist _, by simp, rfl, rfl, hz8⟩
theorem A3z (vr vp vm : Value) (wr wp wm : List Nat) (A : Mem) (hr : By A vr wr) (hp : By A vp wp) (hm : By A vm wm) (hG : GlS A) : FnX Tryz.prog 148 [vr, vp, vm] [] A fun r M J => M = [] ∧ J = [] ∧ Sc r (A3R wr wp wm) := by
 haveI := hr.cel
 haveI := hp.cel
 haveI := hm.cel
 have hrl := hr.len
 have hpl := hp.len
 have hml := hm.len
 obtain ⟨⟨ge0, gf0, h0⟩, ⟨ge1, gf1, h1⟩⟩ := hG
 refine FnX.enter (N := 15) Tryz.func148 rfl rfl rfl fun w => ?_
 refine C4 (E1 0 1 2) (A3 ?_)
 refine A6 rfl (C5 (cs := [G8, G8, G8, G8, G8, G8, G8, G8]) kR rfl fun b6 => ?_)
 refine A0 (E9 0 1 2 6) (A3 ?_)
 refine A6 rfl (C8 (e := 5) (sz := 1) (z := [zu8, zu8, zu8, zu8, zu8, zu8, zu8, zu8, zu8]) kR (eS rfl (eS rfl (eS rfl (eS rfl (eS rfl (eS rfl (eS rfl (eS rfl (eS rfl e0))))))))) (bdS 0 1 rfl (by rfl) (bdS 1 1 rfl (by rfl) (bdS 2 1 rfl (by rfl) (bdS 3 1 rfl (by rfl) (bdS 4 1 rfl (by rfl) (bdS 5 1 rfl (by rfl) (bdS 6 1 rfl (by rfl) (bdS 7 1 rfl (by rfl) (bdS 8 1 rfl (by rfl) bd0))))))))) rfl fun b7 => ?_)
 refine A6 rfl (A31 rfl kR UpC.upd rfl ?_)
 refine mv_ (mv_ (mv_ ?_))
 refine A6 rfl (C8 (e := 27) (sz := 1) (z := [.slice none 0 0, .slice none 0 0, .slice none 0 0, .slice none 0 0]) kR (eS rfl (eS rfl (eS rfl (eS rfl e0)))) (bdS 0 1 rfl (by rfl) (bdS 1 1 rfl (by rfl) (bdS 2 1 rfl (by rfl) (bdS 3 1 rfl (by rfl) bd0)))) rfl fun b12 => ?_)
 refine D0 (aS rfl a0) kR (A28 _ [[99, 104, 97, 108, 108, 101, 110, 103, 101], wr, wp, wm] _ (A6P.of (Rd.whole (n := 4) m0 (by rfl)) rfl (.cons (by decide) (Rd.whole (n := 9) (cs := nums .u8 [99, 104, 97, 108, 108, 101, 110, 103, 101]) At.mem (by rfl)) (.cons hr.lt (hr.rd.mono SubC.sub) (.cons hp.lt (hp.rd.mono SubC.sub) (.cons hm.lt (hm.rd.mono SubC.sub) .nil))))) (by simp; omega) (by simp) (mA h0) (mA h1)) rfl ?_
 rintro r13 M13 J13 ⟨rfl, h13⟩
 refine D0 (aS rfl a0) kR (A1R _ _ _ (A06 (h13.rd SubC.sub) (A00 _).symm rfl) (A7f _) (by rw [A00]; decide)) rfl ?_
 rintro r14 M14 J14 ⟨rfl, rfl, hq14⟩
 have hs14 : Sc r14 (A3R wr wp wm) := A7g hq14 (by simp)
 have hz14 := hs14
 obtain ⟨s, rfl, s8, s32, sv⟩ := hs14
 refine A6 rfl (A8 (vs := nums .u32 s) rfl rfl rfl (by rw [nums_len, s8]; kernel_rfl) (by rw [nums_len, s8]; rfl) F4 UpC.upd ?_)
 refine A0 (D8 6) (C1 ?_)
 exact ⟨_, [], [], A1g (n := 8) rfl rfl kR At.mem (by rw [nums_len]; omega), List.nil_sublist _, by simp, rfl, rfl, hz14⟩
theorem A8j (v : Value) (ws : List Nat) (A : Mem) (hv : By A v ws) (hG : GlS A) : FnX Tryz.prog 103 [v] [] A fun r M J => M = [] ∧ By J r (A5q ws) := by
 haveI := hv.cel
 have hvl := hv.len
 refine FnX.enterZ (N := 9) Tryz.func103 rfl rfl rfl fun w_ => ?_
 refine C4 (D8 0) (A3 (as_ (A0 (D8 0) (A3 ?_))))
 refine D0 a0 kR (A66 _) rfl ?_
 rintro r3 M3 J3 ⟨rfl, rfl, h3⟩
 refine mv_ ?_
 refine D0 (aS rfl a0) kR (A8i v ws _ (hv.mono SubC.sub) (by omega) hG.up) rfl ?_
 rintro r5 M5 J5 ⟨rfl, rfl, h5⟩
 refine G1 (aS rfl a0) kR (A1S _ _ h5 _) rfl ?_
 refine D0 (aS rfl (aS rfl a0)) kR (A47 _ pS (A0x (A9c ws) 32) h3 (N6 _ _) (A49 _ _) _) rfl ?_
 rintro r7 M7 J7 ⟨rfl, rfl, h7⟩
 rw [B6S (A7d _)] at h7
 refine D0 (aS rfl a0) kR ((A48 _ _ h7 _).frz0) rfl ?_
 rintro r8 M8 J8 ⟨rfl, h8⟩
 haveI := h8.cel
 refine as_ (A0 (D8 2) (C1 ?_))
 exact ⟨_, [], [], I2 rfl rfl, Fit.nil, rfl, B3C h8 (A8h _).symm (B3q _) (by rw [A8h]; decide) SubC.sub⟩
theorem B8X (v vm : Value) (ws wm : List Nat) (A : Mem) (hv : By A v ws) (hm : By A vm wm) (hG : GlS A) : FnX Tryz.prog 114 [v, vm] [] A fun r M J => J = [] ∧ Sl 1 r 64 (nums .u8 (A7b ws wm)) M := by
 haveI := hv.cel
 haveI := hm.cel
 have hvl := hv.len
 have hml := hm.len
 have hG0 := hG
 obtain ⟨⟨ge0, gf0, h0⟩, ⟨ge1, gf1, h1⟩⟩ := hG
 have hG := hG0
 refine FnX.enter (N := 34) Tryz.func114 rfl rfl rfl fun w => ?_
 refine C4 (D4 0 1) (A3 (as_ (A0 (D4 0 1) (A3 ?_))))
 refine A6 rfl (C8 (e := 5) (sz := 1) (z := [zu8, zu8, zu8, zu8, zu8]) kR (eS rfl (eS rfl (eS rfl (eS rfl (eS rfl e0))))) (bdS 0 1 rfl (by rfl) (bdS 1 1 rfl (by rfl) (bdS 2 1 rfl (by rfl) (bdS 3 1 rfl (by rfl) (bdS 4 1 rfl (by rfl) bd0))))) rfl fun b8 => ?_)
 refine A6 rfl (A31 rfl kR UpC.upd rfl ?_)
 refine mv_ (mv_ ?_)
 refine A6 rfl (C8 (e := 27) (sz := 1) (z := [.slice none 0 0, .slice none 0 0, .slice none 0 0]) kR (eS rfl (eS rfl (eS rfl e0))) (bdS 0 1 rfl (by rfl) (bdS 1 1 rfl (by rfl) (bdS 2 1 rfl (by rfl) bd0))) rfl fun b12 => ?_)
 refine D0 (aS rfl a0) kR (A28 _ [[110, 111, 110, 99, 101], ws, wm] _ (A6P.of (Rd.whole (n := 3) m0 (by rfl)) rfl (.cons (by decide) (Rd.whole (n := 5) (cs := nums .u8 [110, 111, 110, 99, 101]) At.mem (by rfl)) (.cons hv.lt (hv.rd.mono SubC.sub) (.cons hm.lt (hm.rd.mono SubC.sub) .nil)))) (by simp; omega) (by simp) (mA h0) (mA h1)) rfl ?_
 rintro r13 M13 J13 ⟨rfl, h13⟩
 refine D0 (aS rfl a0) kR (A1R _ _ _ (A06 (h13.rd SubC.sub) (A00 _).symm rfl) (A7f _) (by rw [A00]; decide)) rfl ?_
 rintro r14 M14 J14 ⟨rfl, rfl, hq14⟩
 have hs14 : Sc r14 (B5e ws wm) := A7g hq14 (by simp)
 have hz14 := hs14
 obtain ⟨s, rfl, s8, s32, sv⟩ := hs14
 refine A6 rfl (C5 (cs := [G8, G8, G8, G8, G8, G8, G8, G8]) kR rfl fun b5 => ?_)
 refine A6 rfl (A8 (vs := nums .u32 s) rfl rfl rfl (by rw [nums_len, s8]; kernel_rfl) (by rw [nums_len, s8]; rfl) F4 UpC.upd ?_)
 refine A0 (E1 0 1 5) ?_
 refine D3 [0, 1, 2, 3, 4, 5] [(1, 1), (0, 2), (2, 2), (3, 2), (4, 2), (5, 0)] kR kR fun hs => ?_
 refine F8 hs rfl (H8 (n := 8) (cs := nums .u32 s) rfl kR At.mem (by rw [nums_len]; omega)) rfl ?_
 refine G4 rfl a0 kR (A66 _) rfl ?_
 rintro r15 M15 J15 ⟨rfl, rfl, h15⟩
 refine P8 rfl (aS rfl a0) kR (A1S _ _ hz14 _) rfl ?_
 refine G4 rfl (aS rfl (aS rfl a0)) kR (A47 _ pS (A0x (B5e ws wm) 32) h15 (N6 _ _) (A49 _ _) _) rfl ?_
 rintro r18 M18 J18 ⟨rfl, rfl, h18⟩
 rw [B6S (A7e _ _)] at h18
 refine G4 rfl (aS rfl a0) kR (A48 _ _ h18 _) rfl ?_
 rintro r19 M19 J19 ⟨rfl, h19⟩
 haveI := h19.cel
 replace h19 : Sl 1 r19 32 (nums .u8 (rB ws wm)) M19 := h19
 refine fa_ hs ?_
 refine E4 (E9 0 1 5 6) ?_
 refine D3 (.range 12) [(0, 0), (1, 0), (3, 0), (5, 0), (8, 1), (2, 3), (4, 3), (6, 3), (7, 3), (9, 3), (10, 3), (11, 4), (12, 2)] kR kR fun hs => ?_
 refine fm_ hs ?_
 refine fm_ hs ?_
 refine fm_ hs ?_
 refine fm_ hs ?_
 refine F8 hs rfl (H8 (n := 8) (cs := nums .u32 s) rfl kR At.mem (by rw [nums_len]; omega)) rfl ?_
 refine N2 [⟨2, 22, fun v B R => B = [] ∧ By R v (A5q ws)⟩, ⟨4, 24, fun v B _ => B = [] ∧ Sc v (A3R (rB ws wm) (A5q ws) wm)⟩, ⟨6, 26, fun v B _ => B = [] ∧ Sc v (A9c ws)⟩, ⟨7, 27, fun v B _ => B = [] ∧ Sc v (A3R (rB ws wm) (A5q ws) wm * A9c ws % lN)⟩, ⟨9, 29, fun v B _ => B = [] ∧ Sc v (sN ws wm)⟩, ⟨10, 30, fun v B _ => B = [] ∧ v = .agg (nums .u8 (A0x (sN ws wm) 32)).toArray⟩, ⟨11, 7, fun v B _ => ∃ b, v = .pointer (some ⟨b, 0, none⟩) ∧ B = [(b, blk [.int .u8 0, .int .u8 0, .int .u8 0, .int .u8 0, .int .u8 0, .int .u8 0, .int .u8 0, .int .u8 0, .int .u8 0, .int .u8 0, .int .u8 0, .int .u8 0, .int .u8 0, .int .u8 0, .int .u8 0, .int .u8 0, .int .u8 0, .int .u8 0, .int .u8 0, .int .u8 0, .int .u8 0, .int .u8 0, .int .u8 0, .int .u8 0, .int .u8 0, .int .u8 0, .int .u8 0, .int .u8 0, .int .u8 0, .int .u8 0, .int .u8 0, .int .u8 0] 202)]⟩]
  (C3 (fun _ _ _ _ hR h => ⟨h.1, h.2.mono hR⟩) (C3 (fun _ _ _ _ _ h => h) (C3 (fun _ _ _ _ _ h => h) (C3 (fun _ _ _ _ _ h => h) (C3 (fun _ _ _ _ _ h => h) (C3 (fun _ _ _ _ _ h => h) (C3 (fun _ _ _ _ _ h => h) (L1)))))))) (show List.Nodup [22, 24, 26, 27, 29, 30, 7] by decide) (show List.Nodup [2, 4, 6, 7, 9, 10, 11] by decide) (C3 (C9 rfl) (C3 (C9 rfl) (C3 (C9 rfl) (C3 (C9 rfl) (C3 (C9 rfl) (C3 (C9 rfl) (C3 (C9 rfl) (L1))))))))
  (C3 ⟨_, rfl, fun vs bs R w hb ha => ⟨.inl rfl, ?_⟩⟩ (C3 ⟨_, rfl, fun vs bs R w hb ha => ⟨.inl rfl, ?_⟩⟩ (C3 ⟨_, rfl, fun vs bs R w hb ha => ⟨.inl rfl, ?_⟩⟩ (C3 ⟨_, rfl, fun vs bs R w hb ha => ⟨.inl rfl, ?_⟩⟩ (C3 ⟨_, rfl, fun vs bs R w hb ha => ⟨.inl rfl, ?_⟩⟩ (C3 ⟨_, rfl, fun vs bs R w hb ha => ⟨.inl rfl, ?_⟩⟩ (C3 ⟨_, rfl, fun vs bs R w hb ha => ⟨.inl rfl, ?_⟩⟩ (L1)))))))) ?_
 ·
  refine D5 (aS rfl a0) kR (A8j v ws _ (hv.mono fun x hx => hb _ (SubC.sub x hx)) (hG.sub fun x hx => hb _ (mA hx))) rfl ?_
  rintro r M1 J1 ⟨rfl, hh⟩
  exact ⟨_, rfl, rfl, hh.mono fun x hx => by simp [hx]⟩
 ·
  have g2 := ha _ (List.mem_of_getElem? (i := 0) rfl) kR
  replace g2 : (fun v B R => B = [] ∧ By R v (A5q ws)) (vs 2) (bs 2) R := g2
  dsimp only at g2
  obtain ⟨-, k2⟩ := g2
  refine D5 (aS rfl (aS rfl (aS rfl (a0)))) kR (A3z _ _ _ (rB ws wm) (A5q ws) wm _ (B3C h19 (A3y _ _).symm (B3q _) (by rw [A3y]; decide) (fun x hx => hb _ (SubC.sub x hx))) k2 (hm.mono fun x hx => hb _ (SubC.sub x hx)) (hG.sub fun x hx => hb _ (mA hx))) rfl ?_
  rintro r M1 J1 ⟨rfl, rfl, hh⟩
  exact ⟨_, rfl, rfl, hh⟩
 ·
  refine D5 (aS rfl (a0)) kR (A8i v ws _ (hv.mono fun x hx => hb _ (SubC.sub x hx)) (by omega) (hG.sub fun x hx => hb _ (mA hx))) rfl ?_
  rintro r M1 J1 ⟨rfl, rfl, hh⟩
  exact ⟨_, rfl, rfl, hh⟩
 ·
  have g4 := ha _ (List.mem_of_getElem? (i := 1) rfl) kR
  replace g4 : (fun v B _ => B = [] ∧ Sc v (A3R (rB ws wm) (A5q ws) wm)) (vs 4) (bs 4) R := g4
  dsimp only at g4
  have g6 := ha _ (List.mem_of_getElem? (i := 2) rfl) kR
  replace g6 : (fun v B _ => B = [] ∧ Sc v (A9c ws)) (vs 6) (bs 6) R := g6
  dsimp only at g6
  obtain ⟨-, k4⟩ := g4
  obtain ⟨-, k6⟩ := g6
  refine D5 (aS rfl (aS rfl (a0))) kR (B3t _ _ _ _ k4 k6 (A7d _) _) rfl ?_
  rintro r M1 J1 ⟨rfl, rfl, hh⟩
  exact ⟨_, rfl, rfl, hh⟩
 ·
  have g7 := ha _ (List.mem_of_getElem? (i := 3) rfl) kR
  replace g7 : (fun v B _ => B = [] ∧ Sc v (A3R (rB ws wm) (A5q ws) wm * A9c ws % lN)) (vs 7) (bs 7) R := g7
  dsimp only at g7
  obtain ⟨-, k7⟩ := g7
  refine D5 (aS rfl (aS rfl (a0))) kR (A6i _ _ _ _ k7 hz14 (Nat.mod_lt _ A4i) (A7e _ _) _) rfl ?_
  rintro r M1 J1 ⟨rfl, rfl, hh⟩
  exact ⟨_, rfl, rfl, hh⟩
 ·
  have g9 := ha _ (List.mem_of_getElem? (i := 4) rfl) kR
  replace g9 : (fun v B _ => B = [] ∧ Sc v (sN ws wm)) (vs 9) (bs 9) R := g9
  dsimp only at g9
  obtain ⟨-, k9⟩ := g9
  exact T3 (aS rfl a0) kR (A1S _ _ k9 _) rfl ⟨_, rfl, rfl, rfl⟩
 ·
  exact C5 (cs := [zu8, zu8, zu8, zu8, zu8, zu8, zu8, zu8, zu8, zu8, zu8, zu8, zu8, zu8, zu8, zu8, zu8, zu8, zu8, zu8, zu8, zu8, zu8, zu8, zu8, zu8, zu8, zu8, zu8, zu8, zu8, zu8]) kR rfl fun b => ⟨_, rfl, b, rfl, rfl⟩
 intro vs bs Jn0 hφ
 have g2 := ofH hφ
 dsimp only at g2
 replace hφ := ofT hφ
 have g4 := ofH hφ
 dsimp only at g4
 replace hφ := ofT hφ
 have g6 := ofH hφ
 dsimp only at g6
 replace hφ := ofT hφ
 have g7 := ofH hφ
 dsimp only at g7
 replace hφ := ofT hφ
 have g9 := ofH hφ
 dsimp only at g9
 replace hφ := ofT hφ
 have g10 := ofH hφ
 dsimp only at g10
 replace hφ := ofT hφ
 have g11 := ofH hφ
 dsimp only at g11
 clear hφ
 dsimp only [P3, H9, List.map, List.flatten, List.cons_append, List.nil_append]
 generalize bs 2 = B22 at *
 generalize bs 4 = B24 at *
 generalize bs 6 = B26 at *
 generalize bs 7 = B27 at *
 generalize bs 9 = B29 at *
 generalize bs 10 = B30 at *
 generalize bs 11 = B7 at *
 generalize vs 2 = u22 at *
 generalize vs 4 = u24 at *
 generalize vs 6 = u26 at *
 generalize vs 7 = u27 at *
 generalize vs 9 = u29 at *
 generalize vs 10 = u30 at *
 generalize vs 11 = u7 at *
 obtain ⟨rfl, -⟩ := g2
 obtain ⟨rfl, -⟩ := g4
 obtain ⟨rfl, -⟩ := g6
 obtain ⟨rfl, -⟩ := g7
 obtain ⟨rfl, -⟩ := g9
 obtain ⟨rfl, rfl⟩ := g10
 obtain ⟨b7, rfl, rfl⟩ := g11
 dsimp only [List.append_eq, List.nil_append, List.cons_append]
 refine G5 rfl rfl rfl (A8 (vs := nums .u8 (A0x (sN ws wm) 32)) rfl rfl rfl (by rw [nums_len, N6]; kernel_rfl) (by rw [nums_len, N6]; rfl) F4 UpC.upd ?_)
 refine E4 (D4 6 7) (A3 (mv_ ?_))
 refine A4 (A9X (sz := 1) (e := 5) (n := 32) rfl kR kR) rfl ?_
 refine A6 rfl (K3 (e := 5) (sz := 1) (by_ := 1) (n := 32) (m := 32) rfl rfl kR rfl h19 (Rd.whole (n := 32) (cs := nums .u8 (A0x (sN ws wm) 32)) At.mem (by rw [nums_len, N6])) F4 PickC.perm (by unfold maxLen; omega) (by omega) rfl fun v33 B33 hs33 => ?_)
 haveI := hs33.cel
 rw [← I6] at hs33
 refine as_ (A0 (D8 4) (C1 ?_))
 exact ⟨_, B33, [], I2 rfl rfl, List.sublist_append_left _ _, by simp, rfl, hs33⟩

end Go.Proofs.YthbhpfefdnffaaaGreatDoor
namespace Go.Px
open Go.ChangeShapes Go.WideShapes Go.ChangeAt Go.RowKit
structure Byi (R : Mem) (v : Value) (w : List Nat) : Prop where
  rd : Rd R 1 v w.length (nums .u8 w)
  lt : ∀ x ∈ w, x < 256
  len : w.length ≤ maxLen
theorem Byi.mono {R R' : Mem} {v : Value} {w : List Nat} (h : Byi R v w) (hR : ∀ x, x ∈ R → x ∈ R') : Byi R' v w := ⟨h.rd.mono hR, h.lt, h.len⟩
theorem By.i {R : Mem} {v : Value} {w : List Nat} (h : By R v w) : Byi R v w := ⟨h.rd, h.lt, h.max⟩
theorem Byi.by {R : Mem} {v : Value} {w : List Nat} (h : Byi R v w) (hl : w.length ≤ 16777216) : By R v w := ⟨h.rd, h.lt, hl⟩
theorem Byi.cel {R : Mem} {v : Value} {w : List Nat} (h : Byi R v w) : Cel v [v] := h.rd.cel
theorem Byi.one {R : Mem} {v : Value} {w : List Nat} (h : Byi R v w) : v.oneCell' = true := h.rd.one
structure Byz (R : Mem) (v : Value) (w : List Nat) : Prop extends Byi R v w where
  sz : w.length ≤ reachBytes
theorem Byz.mono {R R' : Mem} {v : Value} {w : List Nat} (h : Byz R v w) (hR : ∀ x, x ∈ R → x ∈ R') : Byz R' v w := ⟨h.toByi.mono hR, h.sz⟩
section
variable {H : Type} {enc : TypeId × Value → H} {P : Program} {w : World} {spare : Nat → Bool} {held : Bool} {fuel : Nat} {t e : TypeId} {cs : List Value} {x : DataW H × List MemPlace}
theorem B3G (ht : P.underlying t = some (.slice e)) (he : P.underlying e = some (.int .u8)) (hc : P.cellsOf e = 1) (h : DataW.trod enc P w 0 spare held fuel t cs = some x) :
    ∃ v ws, cs = [v] ∧ Byi (heapA w) v ws := by
  obtain ⟨v, xss, h1, h2, h3, h4⟩ := B2Q ht hc (by decide) h
  obtain ⟨ws, h5, h6, h7⟩ := B2R (k := .u8) rfl he h4
  exact ⟨v, ws, h1, by rw [h6, ← h5]; exact h3, h7, by omega⟩
theorem st_fieldZ {fs : Array Field} {tf : TypeId} {o c : Nat} (ht : P.underlying t = some (.struct fs)) (h : DataW.trod enc P w 0 spare held fuel t cs = some x) (hz : ∀ n ∈ x.1.weights P t, n ≤ reachBytes) (i : Nat) (f : Field) (hf : fs[i]? = some f) (hty : f.type = tf) (ho : f.offset = o) (hc : P.cellsOf tf = c) :
    ∃ m y, DataW.trod enc P w 0 spare held m tf ((cs.drop o).take c) = some y ∧ ∀ n ∈ y.1.weights P tf, n ≤ reachBytes := by
  obtain ⟨xs, m, _, hx, h1, h2, h3⟩ := DataW.trod_struct ht h
  have e0 := h3 i f hf
  have hi : i < fs.size := (Array.getElem?_eq_some_iff.1 hf).1
  rw [hty, ho, hc, List.getElem?_eq_getElem (by omega)] at e0
  refine ⟨m, _, e0, fun n hn => hz n ?_⟩
  rw [hx]
  simp only [DataW.weights, ht]
  refine DataW.weights_mem_each (j := i) (t := tf) (d := xs[i].1) ?_ ?_ n hn
  · rw [List.getElem?_map, Array.getElem?_toList, hf, Option.map_some, hty]
  · rw [List.getElem?_map, List.getElem?_eq_getElem (by omega), Option.map_some]
theorem in_bytesZ (ht : P.underlying t = some (.slice e)) (he : P.underlying e = some (.int .u8)) (hc : P.cellsOf e = 1) (hb : P.bytesOf e = 1) (h : DataW.trod enc P w 0 spare held fuel t cs = some x) (hz : ∀ n ∈ x.1.weights P t, n ≤ reachBytes) :
    ∃ v ws, cs = [v] ∧ Byz (heapA w) v ws := by
  obtain ⟨v, ws, h1, h2⟩ := B3G ht he hc h
  refine ⟨v, ws, h1, h2, ?_⟩
  rcases DataW.trod_slice ht h with ⟨h3, _⟩ | ⟨a, len, cap, elems, rest, n, _, h3, h4, _, _, _, hm, _⟩
  · obtain rfl : Value.slice none 0 0 = v := (List.cons.inj (h3.symm.trans h1)).1
    obtain ⟨_, _, h6, _⟩ := h2.rd
    have := (Value.slice.inj h6).2.1
    omega
  · obtain rfl : Value.slice (some a) len cap = v := (List.cons.inj (h3.symm.trans h1)).1
    obtain ⟨_, _, h6, _⟩ := h2.rd
    have := (Value.slice.inj h6).2.1
    have h5 := hz ((elems.length + rest.length) * P.bytesOf e) (by rw [h4]; simp [DataW.weights, ht])
    rw [hb] at h5
    omega
end
end Go.Px

