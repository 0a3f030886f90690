/- Part 10 of the texts of this claim, one behind the other. -/
import Derived.Test.YthbhpfefdnffaaaGreatDoorB9
set_option linter.unusedVariables false
set_option linter.unusedSimpArgs false
set_option maxRecDepth 100000
namespace Go.Proofs.YthbhpfefdnffaaaGreatDoor
open Go.Px
theorem B3p {n i : Nat} (h : i < n) : (2 ^ n - 1) / 2 ^ i % 2 = 1 := by
  have := Nat.testBit_two_pow_sub_one n i
  rw [Nat.testBit_eq_decide_div_mod_eq] at this
  simpa [h] using this
theorem B0O {n : Nat} (h : 8 ≤ n) : (W3 8 32 (2 ^ n - 1) n).getD 0 0 = 255 := by
  rw [A04 (by decide), prt, Nat.mul_zero, Nat.pow_zero, Nat.div_one]
  obtain ⟨m, rfl⟩ : ∃ m, n = m + 8 := ⟨n - 8, by omega⟩
  have h1 := Nat.two_pow_pos m
  have e : (2 ^ (m + 8) - 1) % 2 ^ (m + 8) = 2 ^ (m + 8) - 1 := Nat.mod_eq_of_lt (Nat.sub_lt (Nat.two_pow_pos _) (by decide))
  rw [e, Nat.pow_add]
  simp only [Nat.reducePow]
  omega
theorem B6y {p : List Nat} (x : Nat) (h : 0 < p.length) : bv (p.set 0 x) + p.getD 0 0 = bv p + x := by
  cases p with
  | nil => simp at h
  | cons b r => simp [bv]; omega
theorem B0P (N n : Nat) (h : n ≤ 256) : bv (W3 8 32 N n) = N % 2 ^ n := by
  unfold W3 prt
  rw [A1T, Nat.mod_eq_of_lt]
  exact Nat.lt_of_lt_of_le (Nat.mod_lt _ (Nat.two_pow_pos _)) (Nat.pow_le_pow_right (by decide) (by omega))
theorem A3B (n d : Nat) (hn : 8 ≤ n) (hn2 : n ≤ 256) (hd : 1 < d) (hd2 : d ≤ 256) (A : Mem) : FnX Tryz.prog 168 [.int .i64 (n : Int), .int .u16 (d : Int)] [] A fun r M J => M = [] ∧ J = [] ∧ ∃ es : List Nat, r = .agg (nums .u8 es).toArray ∧ es.length = 32 ∧ (∀ y ∈ es, y < 256) ∧ bv es = 2 ^ n - d := by
  refine FnX.enter (N := 47) Tryz.func168 rfl rfl rfl fun w => ?_
  refine C4 (D5 0 1) (A3 ?_)
  refine A6 rfl (C5 (cs := [zu8, zu8, zu8, zu8, zu8, zu8, zu8, zu8, zu8, zu8, zu8, zu8, zu8, zu8, zu8, zu8, zu8, zu8, zu8, zu8, zu8, zu8, zu8, zu8, zu8, zu8, zu8, zu8, zu8, zu8, zu8, zu8]) kR rfl fun b4 => ?_)
  refine A0 (E1 0 1 4) (A3 ?_)
  refine A6 rfl (C5 (cs := [zu8, zu8, zu8, zu8, zu8, zu8, zu8, zu8, zu8, zu8, zu8, zu8, zu8, zu8, zu8, zu8, zu8, zu8, zu8, zu8, zu8, zu8, zu8, zu8, zu8, zu8, zu8, zu8, zu8, zu8, zu8, zu8]) kR rfl fun b5 => ?_)
  refine A0 (E7 0 1 4 5) (A5 (A3 (mv_ (mv_ (A0 (F7 1 4 5 9 10) (C0 ?_))))))
  refine A0B (M' := [(b5, blk (nums .u8 (W3 8 32 (2 ^ n - 1) 0)) 202), (b4, blk [.int .u8 0, .int .u8 0, .int .u8 0, .int .u8 0, .int .u8 0, .int .u8 0, .int .u8 0, .int .u8 0, .int .u8 0, .int .u8 0, .int .u8 0, .int .u8 0, .int .u8 0, .int .u8 0, .int .u8 0, .int .u8 0, .int .u8 0, .int .u8 0, .int .u8 0, .int .u8 0, .int .u8 0, .int .u8 0, .int .u8 0, .int .u8 0, .int .u8 0, .int .u8 0, .int .u8 0, .int .u8 0, .int .u8 0, .int .u8 0, .int .u8 0, .int .u8 0] 202)]) (Fit.eq (by rw [A3x]; rfl)) (fun _ h => h) ?_
  refine F2 (α := Nat) (fun i => [(1, .int .u16 (d : Int)), (4, .pointer (some ⟨b4, 0, none⟩)), (5, .pointer (some ⟨b5, 0, none⟩)), (9, .int .i64 (n : Int)), (10, .int .i64 (i : Int))]) (fun i => [(b5, blk (nums .u8 (W3 8 32 (2 ^ n - 1) i)) 202), (b4, blk [.int .u8 0, .int .u8 0, .int .u8 0, .int .u8 0, .int .u8 0, .int .u8 0, .int .u8 0, .int .u8 0, .int .u8 0, .int .u8 0, .int .u8 0, .int .u8 0, .int .u8 0, .int .u8 0, .int .u8 0, .int .u8 0, .int .u8 0, .int .u8 0, .int .u8 0, .int .u8 0, .int .u8 0, .int .u8 0, .int .u8 0, .int .u8 0, .int .u8 0, .int .u8 0, .int .u8 0, .int .u8 0, .int .u8 0, .int .u8 0, .int .u8 0, .int .u8 0] 202)]) (fun _ => []) (fun i => i ≤ n) (fun i => n - i) 0 (Nat.zero_le _) (F7 1 4 5 9 10) .rfl (fun _ h => h) ?_
  rintro i hi
  refine A3 ?_
  refine A4 (F1 rfl rfl rfl) rfl ?_
  refine A0 (I5 1 4 5 9 10 11) (A5 ?_)
  refine C8 rfl (fun hc => ?_) (fun hc => ?_)
  ·
    have hlt : i < n := by simp at hc; omega
    have hps := A3y (w := 8) (n := 32) (N := 2 ^ n - 1) (i := i) (by decide) (by omega)
    have hpg := A04 (w := 8) (n := 32) (N := 2 ^ n - 1) (i := i) (j := i / 8) (by omega)
    have hpl := A8i 8 (2 ^ n - 1) i (i / 8)
    rw [B3p hlt] at hps
    rw [← hpg] at hps hpl
    have hsm := A3z (b := 1) (w := 8) (by decide) (Nat.mod_lt i (by decide : 0 < 8))
    have hmo : 1 <<< (i % 8) % 2 ^ IntKind.u8.bits = 1 <<< (i % 8) := Nat.mod_eq_of_lt hsm
    refine A9 (nx (F7 1 4 5 9 10) (A5 (C0 (A3 (mv_ (as_ (A0 (I5 1 4 5 6 9 10) ?_)))))))
    refine I6 (.range 9) (zp 0 [0, 0, 0, 1, 0, 0, 0, 0, 0, 2]) kR kR fun hs => ?_
    refine fm_ hs ?_
    refine D1 hs rfl (A0P 8 rfl rfl rfl (by decide) (A19 (by omega))) rfl ?_
    refine D1 hs rfl (E5 (e := 5) (n := 32) (sz := 1) (i := i / 8) rfl rfl kR kR rfl (by omega)) rfl ?_
    refine F6 hs rfl (Q0 (i / 8) rfl kR At.mem (by omega) (by rw [L1]; omega)) rfl ?_
    refine fm_ hs ?_
    refine D1 hs rfl (A0Q 8 rfl rfl rfl (by decide)) rfl ?_
    refine D1 hs rfl (hmo ▸ A35 (a := 1) rfl (i % 8) rfl rfl rfl (by show _ ≤ 8; omega)) rfl ?_
    refine D1 hs rfl (B4y rfl rfl rfl hpl hsm) rfl ?_
    refine D1 hs rfl (E5 (e := 5) (n := 32) (sz := 1) (i := i / 8) rfl rfl kR kR rfl (by omega)) rfl ?_
    refine G2 rfl rfl rfl (S0 (i / 8) rfl rfl kR (by omega) (by rw [L1]; omega) UpC.upd ?_)
    refine V0 (nb (nx (F7 1 4 5 9 10) (C3 ?_)))
    refine A4 (E4 ((i + 1 : Nat) : Int) rfl rfl (G3 (by omega) (by omega) (by omega))) rfl ?_
    refine mv_ (D0 ?_)
    exact rn (i + 1) (by omega) (by omega) (F7 1 4 5 9 10) (Fit.eq (by rw [hps])) (fun _ h => h)
  ·
    have hlt : i = n := by simp at hc; omega
    subst hlt
    refine E6 (te (re (be rfl (nx (E1 1 4 5) ?_))))
    have hhd := B0O (n := i) (by omega)
    have hbn := B0P (2 ^ i - 1) i (by omega)
    have hpl := L1 8 32 (2 ^ i - 1) i
    have hpw : 256 ≤ 2 ^ i := (show 256 = 2 ^ 8 from rfl) ▸ Nat.pow_le_pow_right (by decide) (by omega)
    refine A3 (mv_ ?_)
    refine A4 (B4D 65536 (b := 1) rfl rfl rfl rfl rfl rfl (by omega) (by omega)) rfl ?_
    refine as_ (A0 (E1 1 4 5) (A5 (A3 (as_ (A0 (E7 1 4 5 7) (C0 ?_))))))
    refine X7 3 ?_
    refine G6 ?_
    refine A5 (A3 (mv_ ?_))
    refine A4 (F9 true rfl rfl (gtT (by omega))) rfl ?_
    refine A0 (F7 1 4 5 7 26) ?_
    refine E2 rfl ?_
    refine A9 (nx (E7 1 4 5 7) (A5 (C0 (A3 (mv_ ?_)))))
    refine A4 (qi_ 0 5 32 1 0) rfl ?_
    refine A4 (hhd ▸ Q0 0 rfl kR At.mem rfl (by omega)) rfl ?_
    refine A4 (P3 (k' := .u16) 255 rfl kR (by decide)) rfl ?_
    refine mv_ ?_
    refine A4 (L9 8 256 rfl rfl rfl rfl rfl (by show _ < 65536; first | assumption | exact Nat.mod_lt _ (by decide) | omega) (by decide)) rfl ?_
    refine A4 (B4D 65536 (a := 255) rfl rfl rfl rfl rfl rfl (by decide) (by omega)) rfl ?_
    refine as_ (A0 (F7 1 4 5 7 8) (A3 (mv_ (mv_ ?_))))
    refine A4 (A25 rfl kR) rfl ?_
    refine A4 (qi_ 0 5 32 1 0) rfl ?_
    refine A6 rfl (S0 0 rfl rfl kR rfl (by omega) UpC.upd ?_)
    refine A0 (F7 1 4 5 7 8) (A3 (mv_ ?_))
    refine A4 (N7 8 256 rfl rfl rfl rfl (by decide)) rfl ?_
    refine as_ (A0 (F7 1 4 5 7 8) (A3 (mv_ ?_)))
    refine A4 (F9 false rfl rfl (gtF (by omega))) rfl ?_
    refine A0 (F7 1 4 5 7 43) ?_
    refine D4 rfl ?_
    refine A9 (nb (nx (E7 1 4 5 7) (C3 (mv_ ?_))))
    refine A4 (E4 (1 : Int) rfl rfl (G3 (by decide) (by decide) (by decide))) rfl ?_
    refine as_ (D0 ?_)
    refine un (E7 1 4 5 7) ?_
    refine G6 ?_
    refine A5 (A3 (mv_ ?_))
    refine A4 (F9 false rfl rfl (gtF (by omega))) rfl ?_
    refine A0 (F7 1 4 5 7 26) ?_
    refine D4 rfl ?_
    refine E6 (te (ue (be rfl (nx (D5 4 5) (A3 ?_)))))
    refine A4 (H7 (n := 32) (cs := nums .u8 ((W3 8 32 (2 ^ i - 1) i).set 0 ((255 - (d - 1) % 256) % 256))) rfl kR At.mem (by rw [nums_len, List.length_set, hpl])) rfl ?_
    refine A6 rfl (A8 (vs := nums .u8 ((W3 8 32 (2 ^ i - 1) i).set 0 ((255 - (d - 1) % 256) % 256))) rfl rfl rfl (by rw [nums_len, List.length_set, hpl]; kernel_rfl) (by rw [nums_len, List.length_set, hpl]; rfl) E8 UpC.upd ?_)
    refine A0 (D8 4) (C2 ?_)
    refine ⟨_, [], [], A1k rfl rfl kR At.mem (by rw [nums_len, List.length_set, hpl]), List.nil_sublist _, by simp, rfl, rfl, _, rfl, by rw [List.length_set, hpl], ?_, ?_⟩
    · intro y hy
      rcases List.mem_or_eq_of_mem_set hy with h | rfl
      · exact A0w _ _ y h
      · exact Nat.mod_lt _ (by decide)
    · have h0 := B6y (p := W3 8 32 (2 ^ i - 1) i) ((255 - (d - 1) % 256) % 256) (by omega)
      rw [hhd, hbn, Nat.mod_eq_of_lt (a := 2 ^ i - 1) (by omega)] at h0
      omega
theorem B0Q (v : Value) (x : Nat) (hx : Fe v x) (A : Mem) : FnX Tryz.prog 136 [v] [] A fun r M J => M = [] ∧ J = [] ∧ ∃ n, n + 1 = p25 - 1 ∧ Fe r (x ^ n % p25) := by
 have hx0 := hx
 obtain ⟨a, b, c, d, e, rfl, -⟩ := hx
 refine FnX.enter (N := 6) Tryz.func136 rfl rfl rfl fun w => ?_
 refine C4 (D8 0) (A3 ?_)
 refine A6 rfl (bx_ fun b1 => ?_)
 refine A6 rfl (C5 (cs := [A7, A7, A7, A7, A7]) kR rfl fun b2 => ?_)
 refine A0 (D5 1 2) ?_
 refine D2 [0, 1, 2] [(0, 1), (1, 2), (2, 2), (3, 2)] kR kR fun hs => ?_
 refine F6 hs rfl (qw_ 5) rfl ?_
 refine G1 rfl (aS rfl (aS rfl a0)) kR (A3B 255 21 (by decide) (by decide) (by decide) (by decide) _) rfl ?_
 rintro rn1 Mn Jn ⟨rfl, rfl, es, rfl, hel, he256, hbv⟩
 refine G1 rfl (aS rfl (aS rfl a0)) kR (A1t _ _ hx0 es hel he256 _) rfl ?_
 rintro r1 M1 J1 ⟨rfl, rfl, hr⟩
 have hbv1 : bv es + 1 = p25 - 1 := by rw [hbv]; decide
 have hr0 := hr
 obtain ⟨a1, b1, c1, d1, e1, rfl, -⟩ := hr
 refine G2 rfl rfl rfl (A8 rfl rfl Cel.cel kR ln5 al5 UpC.upd ?_)
 refine E3 (D8 2) (C2 ?_)
 exact ⟨_, [], [], A1k rfl rfl kR At.mem (by rfl), List.nil_sublist _, by simp, rfl, rfl, _, hbv1, hr0⟩
def rtp (x n : Nat) : Nat := x ^ n % p25
def rt1 (x : Nat) : Nat := rtp x (2 ^ 252 - 2)
def rt2 (x : Nat) : Nat := rt1 x * rtp 2 (2 ^ 253 - 5) % p25
theorem B0R {x n m : Nat} (h : n = m) : x ^ n % p25 = rtp x m := by subst h; rfl
theorem B4V {x n : Nat} (h : n = 2 ^ 252 - 2) : x ^ n % p25 = rt1 x := by unfold rt1; exact B0R h
def Rt (r : Value) (x : Nat) : Prop := ∃ u b, r = .tuple #[u, .bool b] ∧ ((rt1 x * rt1 x % p25 = x ∧ b = true ∧ Fe u (rt1 x)) ∨ (rt1 x * rt1 x % p25 ≠ x ∧ rt2 x * rt2 x % p25 = x ∧ b = true ∧ Fe u (rt2 x)) ∨ (rt1 x * rt1 x % p25 ≠ x ∧ rt2 x * rt2 x % p25 ≠ x ∧ b = false ∧ Fe u 0))
theorem A9h (v : Value) (x : Nat) (hx : Fe v x) (A : Mem) : FnX Tryz.prog 191 [v] [] A fun r M J => M = [] ∧ J = [] ∧ Rt r x := by
 have hx0 := hx
 obtain ⟨a, b, c, d, e, rfl, -⟩ := hx
 refine FnX.enter (N := 24) Tryz.func191 rfl rfl rfl fun w => ?_
 refine C4 (D8 0) (A3 ?_)
 refine A6 rfl (bx_ fun b1 => ?_)
 refine A6 rfl (C5 (cs := [A7, A7, A7, A7, A7]) kR rfl fun b2 => ?_)
 refine as_ (A0 (D5 1 2) ?_)
 refine D2 [0, 1, 2, 3] (zp 0 [1, 3, 3, 4, 2]) kR kR fun hs => ?_
 refine F6 hs rfl (qw_ 5) rfl ?_
 refine N0 [⟨1, 6, fun v B _ => B = [] ∧ ∃ es : List Nat, v = .agg (nums .u8 es).toArray ∧ es.length = 32 ∧ (∀ y ∈ es, y < 256) ∧ bv es = 2 ^ 252 - 2⟩, ⟨2, 7, fun v B _ => B = [] ∧ Fe v (rt1 x)⟩, ⟨3, 4, fun v B _ => ∃ b, v = .pointer (some ⟨b, 0, none⟩) ∧ B = [(b, blk [.int .u64 0, .int .u64 0, .int .u64 0, .int .u64 0, .int .u64 0] 205)]⟩]
  (C1 (fun _ _ _ _ _ h => h) (C1 (fun _ _ _ _ _ h => h) (C1 (fun _ _ _ _ _ h => h) (K3)))) (show List.Nodup [6, 7, 4] by decide) (show List.Nodup [1, 2, 3] by decide) (C1 (C7 rfl) (C1 (C7 rfl) (C1 (C7 rfl) (K3))))
  (C1 ⟨_, rfl, fun vs bs R w hb ha => ⟨.inl rfl, ?_⟩⟩ (C1 ⟨_, rfl, fun vs bs R w hb ha => ⟨.inl rfl, ?_⟩⟩ (C1 ⟨_, rfl, fun vs bs R w hb ha => ⟨.inl rfl, ?_⟩⟩ (K3)))) ?_
 ·
  refine D7 (aS rfl (aS rfl a0)) kR (A3B 252 2 (by decide) (by decide) (by decide) (by decide) _) rfl ?_
  rintro r M1 J1 ⟨rfl, rfl, hh⟩
  exact ⟨_, rfl, rfl, hh⟩
 ·
  have g1 := ha _ (List.mem_of_getElem? (i := 0) rfl) kR
  replace g1 : (fun v B _ => B = [] ∧ ∃ es : List Nat, v = .agg (nums .u8 es).toArray ∧ es.length = 32 ∧ (∀ y ∈ es, y < 256) ∧ bv es = 2 ^ 252 - 2) (vs 1) (bs 1) R := g1
  dsimp only at g1
  obtain ⟨-, es, hes, hel, he256, hbv⟩ := g1
  refine D7 (aS rfl (aS (by rw [← hes]; rfl) a0)) kR (A1t _ _ hx0 es hel he256 _) rfl ?_
  rintro r M1 J1 ⟨rfl, rfl, hh⟩
  rw [B4V hbv] at hh
  exact ⟨_, rfl, rfl, hh⟩
 ·
  exact C5 (cs := [A7, A7, A7, A7, A7]) kR rfl fun b => ⟨_, rfl, b, rfl, rfl⟩
 intro vs bs Jn0 hφ
 have g1 := ofH hφ
 dsimp only at g1
 replace hφ := ofT hφ
 have g2 := ofH hφ
 dsimp only at g2
 replace hφ := ofT hφ
 have g3 := ofH hφ
 dsimp only at g3
 clear hφ
 dsimp only [U0, P5, List.map, List.flatten, List.cons_append, List.nil_append]
 generalize bs 1 = B6 at *
 generalize bs 2 = B7 at *
 generalize bs 3 = B4 at *
 generalize vs 1 = u6 at *
 generalize vs 2 = u7 at *
 generalize vs 3 = u4 at *
 obtain ⟨rfl, -⟩ := g1
 obtain ⟨rfl, hr0⟩ := g2
 obtain ⟨b4, rfl, rfl⟩ := g3
 have hr := hr0
 obtain ⟨a1, b1, c1, d1, e1, rfl, -⟩ := hr
 dsimp only [List.append_eq, List.nil_append, List.cons_append]
 refine G2 rfl rfl rfl (A8 rfl rfl Cel.cel kR ln5 al5 UpC.upd ?_)
 refine E3 (E1 1 2 4) (A5 ?_)
 refine D2 [0, 1, 2, 3] [(0, 1), (2, 1), (1, 2), (3, 2)] kR kR fun hs => ?_
 refine F6 hs rfl (qw_ 5) rfl ?_
 refine F6 hs rfl (qw_ 5) rfl ?_
 refine G1 rfl (aS rfl a0) kR (Z8 _ _ hr0 _) rfl ?_
 rintro r2 M2 J2 ⟨rfl, rfl, hr2⟩
 have hr20 := hr2
 obtain ⟨a2, b2, c2, d2, e2, rfl, -⟩ := hr2
 refine R9 rfl (aS rfl (aS rfl a0)) kR (A0l _ _ _ _ hr20 hx0 _) rfl ?_
 refine E3 (E7 1 2 4 11) ?_
 refine C8 rfl (fun hc => ?_) (fun hc => ?_)
 ·
  have h1 : rt1 x * rt1 x % p25 = x := by simpa using hc
  refine A3 ?_
  refine A4 (qw_ 5) rfl ?_
  refine A6 rfl (A8 rfl rfl Cel.cel kR ln5 al5 UpC.upd ?_)
  refine as_ (A0 (D5 2 3) (C2 (tr ?_)))
  exact ⟨_, [], [], A1a rfl rfl rfl kR At.mem (by rfl), List.nil_sublist _, by simp, rfl, rfl, _, _, rfl, .inl ⟨h1, rfl, hr0⟩⟩
 ·
  have h1 : rt1 x * rt1 x % p25 ≠ x := by simpa using hc
  refine A9 (nx (E1 1 2 4) ?_)
  refine D2 [0, 1, 2, 3, 4] (zp 0 [1, 2, 2, 2, 2, 2]) kR kR fun hs => ?_
  refine F6 hs rfl (qw_ 5) rfl ?_
  refine G1 rfl (aS rfl a0) kR (A3w 2 (by decide) _) rfl ?_
  rintro r3 M3 J3 ⟨rfl, rfl, hr3⟩
  refine G1 rfl (aS rfl (aS rfl a0)) kR (A3B 253 5 (by decide) (by decide) (by decide) (by decide) _) rfl ?_
  rintro rn2 Mn Jn ⟨rfl, rfl, es, rfl, hel, he256, hbv⟩
  refine G1 rfl (aS rfl (aS rfl a0)) kR (A1t _ _ hr3 es hel he256 _) rfl ?_
  rintro r4 M4 J4 ⟨rfl, rfl, hr4⟩
  rw [B0R hbv] at hr4
  refine G1 rfl (aS rfl (aS rfl a0)) kR (A1S _ _ _ _ hr0 hr4 _) rfl ?_
  rintro r5 M5 J5 ⟨rfl, rfl, hr5⟩
  rw [← rt2.eq_1] at hr5
  have hr50 := hr5
  obtain ⟨a5, b5, c5, d5, e5, rfl, -⟩ := hr5
  refine G2 rfl rfl rfl (A8 rfl rfl Cel.cel kR ln5 al5 UpC.upd ?_)
  refine E3 (E1 1 2 4) (A5 ?_)
  refine D2 [0, 1, 2, 3] [(0, 1), (2, 1), (1, 2), (3, 2)] kR kR fun hs => ?_
  refine F6 hs rfl (qw_ 5) rfl ?_
  refine F6 hs rfl (qw_ 5) rfl ?_
  refine G1 rfl (aS rfl a0) kR (Z8 _ _ hr50 _) rfl ?_
  rintro r6 M6 J6 ⟨rfl, rfl, hr6⟩
  have hr60 := hr6
  obtain ⟨a6, b6, c6, d6, e6, rfl, -⟩ := hr6
  refine R9 rfl (aS rfl (aS rfl a0)) kR (A0l _ _ _ _ hr60 hx0 _) rfl ?_
  refine E3 (E1 2 4 21) ?_
  refine C8 rfl (fun hc => ?_) (fun hc => ?_)
  ·
   have h2 : rt2 x * rt2 x % p25 = x := by simpa using hc
   refine A3 ?_
   refine A4 (qw_ 5) rfl ?_
   refine A6 rfl (A8 rfl rfl Cel.cel kR ln5 al5 UpC.upd ?_)
   refine as_ (A0 (D5 2 3) (C2 (tr ?_)))
   exact ⟨_, [], [], A1a rfl rfl rfl kR At.mem (by rfl), List.nil_sublist _, by simp, rfl, rfl, _, _, rfl, .inr (.inl ⟨h1, h2, rfl, hr50⟩)⟩
  ·
   have h2 : rt2 x * rt2 x % p25 ≠ x := by simpa using hc
   refine A9 (nx (D8 2) (A3 ?_))
   refine A4 (F3 (place := fun i => some (i * 1, 1)) (z := [A7, A7, A7, A7, A7]) (fun _ => by kernel_rfl) e0 bd0) rfl ?_
   refine A6 rfl (A8 rfl rfl Cel.cel kR ln5 al5 UpC.upd ?_)
   refine as_ (A0 (D5 2 3) (C2 ?_))
   exact ⟨_, [], [], A1a rfl rfl rfl kR At.mem (by rfl), List.nil_sublist _, by simp, rfl, rfl, _, _, rfl, .inr (.inr ⟨h1, h2, rfl, K4⟩)⟩

end Go.Proofs.YthbhpfefdnffaaaGreatDoor
namespace Go.Px
def IsPr (p : Nat) : Prop := 2 ≤ p ∧ ∀ d, d ∣ p → d = 1 ∨ d = p
theorem IsPr.cop {p a : Nat} (h : IsPr p) (ha : ¬ p ∣ a) : Nat.Coprime p a := by
  rcases h.2 _ (Nat.gcd_dvd_left p a) with h1 | h1
  · exact h1
  · exact absurd (h1 ▸ Nat.gcd_dvd_right p a) ha
theorem IsPr.mul {p a b : Nat} (h : IsPr p) (hd : p ∣ a * b) : p ∣ a ∨ p ∣ b := by
  by_cases ha : p ∣ a
  · exact .inl ha
  · exact .inr ((h.cop ha).dvd_of_dvd_mul_left hd)
theorem exPr (n : Nat) (h : 2 ≤ n) : ∃ r, IsPr r ∧ r ∣ n := by
  induction n using Nat.strongRecOn with
  | _ n ih =>
    by_cases hp : IsPr n
    · exact ⟨n, hp, Nat.dvd_refl n⟩
    · have : ∃ d, d ∣ n ∧ d ≠ 1 ∧ d ≠ n := by
        false_or_by_contra
        rename_i hc
        refine hp ⟨h, fun d hd => ?_⟩
        by_cases h1 : d = 1
        · exact .inl h1
        · by_cases h2 : d = n
          · exact .inr h2
          · exact absurd ⟨d, hd, h1, h2⟩ hc
      obtain ⟨d, hd, h1, h2⟩ := this
      have hle := Nat.le_of_dvd (by omega) hd
      have h0 : d ≠ 0 := by rintro rfl; rw [Nat.zero_dvd] at hd; omega
      obtain ⟨r, hr, hrd⟩ := ih d (by omega) (by omega)
      exact ⟨r, hr, Nat.dvd_trans hrd hd⟩
theorem IsPr.of {n : Nat} (h2 : 2 ≤ n) (h : ∀ r, IsPr r → r ∣ n → r * r ≤ n → False) : IsPr n := by
  refine ⟨h2, fun d hd => ?_⟩
  by_cases h1 : d = 1
  · exact .inl h1
  by_cases hn : d = n
  · exact .inr hn
  exfalso
  obtain ⟨e, he⟩ := hd
  have he1 : e ≠ 1 := by rintro rfl; rw [Nat.mul_one] at he; exact hn he.symm
  have hd0 : d ≠ 0 := by rintro rfl; rw [Nat.zero_mul] at he; omega
  have he0 : e ≠ 0 := by rintro rfl; rw [Nat.mul_zero] at he; omega
  rcases Nat.le_total d e with hle | hle
  · obtain ⟨r, hr, hrd⟩ := exPr d (by omega)
    have := Nat.le_of_dvd (by omega) hrd
    refine h r hr (he ▸ Nat.dvd_trans hrd (Nat.dvd_mul_right d e)) ?_
    rw [he]; exact Nat.mul_le_mul this (Nat.le_trans this hle)
  · obtain ⟨r, hr, hrd⟩ := exPr e (by omega)
    have := Nat.le_of_dvd (by omega) hrd
    refine h r hr (he ▸ Nat.dvd_trans hrd (Nat.dvd_mul_left e d)) ?_
    rw [he]; exact Nat.mul_le_mul (Nat.le_trans this hle) this
def cho : Nat → Nat → Nat
  | _, 0 => 1
  | 0, _ + 1 => 0
  | n + 1, k + 1 => cho n k + cho n (k + 1)
theorem A8j : ∀ n k, n < k → cho n k = 0
  | 0, k + 1, _ => by rw [cho]
  | n + 1, k + 1, h => by rw [cho, A8j n k (by omega), A8j n (k + 1) (by omega)]
theorem A8k : ∀ n, cho n n = 1
  | 0 => by rw [cho]
  | n + 1 => by rw [cho, A8k n, A8j n (n + 1) (by omega)]
theorem A49 : ∀ n k, (k + 1) * cho (n + 1) (k + 1) = (n + 1) * cho n k
  | 0, 0 => by simp [cho]
  | 0, k + 1 => by simp [cho]
  | n + 1, 0 => by
    have := A49 n 0
    rw [cho]
    simp only [cho, Nat.mul_one, Nat.one_mul, Nat.zero_add] at *
    omega
  | n + 1, k + 1 => by
    have h1 := A49 n k
    have h2 := A49 n (k + 1)
    rw [cho.eq_3 (n + 1) (k + 1)]
    rw [cho.eq_3 n k] at *
    generalize cho n (k + 1 + 1) = x at *
    generalize cho (n + 1) (k + 1 + 1) = z at *
    generalize cho n (k + 1) = y at *
    generalize cho n k = u at *
    grind
def Q8 (f : Nat → Nat) : Nat → Nat
  | 0 => 0
  | n + 1 => Q8 f n + f n
theorem A3C {f g : Nat → Nat} : ∀ n, (∀ i, i < n → f i = g i) → Q8 f n = Q8 g n
  | 0, _ => rfl
  | n + 1, h => by rw [Q8, Q8, A3C n fun i hi => h i (by omega), h n (by omega)]
theorem A6k (f g : Nat → Nat) : ∀ n, Q8 (fun i => f i + g i) n = Q8 f n + Q8 g n
  | 0 => rfl
  | n + 1 => by rw [Q8, Q8, Q8, A6k f g n]; omega
theorem A6l (c : Nat) (f : Nat → Nat) : ∀ n, Q8 (fun i => c * f i) n = c * Q8 f n
  | 0 => rfl
  | n + 1 => by rw [Q8, Q8, A6l c f n, Nat.mul_add]
theorem A0x (f : Nat → Nat) : ∀ n, Q8 f (n + 1) = f 0 + Q8 (fun i => f (i + 1)) n
  | 0 => by simp [Q8]
  | n + 1 => by rw [Q8, A0x f n, Q8]; omega
theorem A6m {p : Nat} {f : Nat → Nat} : ∀ n, (∀ i, i < n → p ∣ f i) → p ∣ Q8 f n
  | 0, _ => Nat.dvd_zero p
  | n + 1, h => by rw [Q8]; exact Nat.dvd_add (A6m n fun i hi => h i (by omega)) (h n (by omega))
theorem B8F (a : Nat) : ∀ n, (a + 1) ^ n = Q8 (fun k => cho n k * a ^ k) (n + 1)
  | 0 => by simp [Q8, cho]
  | n + 1 => by
    rw [Nat.pow_succ, B8F a n, A0x (fun k => cho (n + 1) k * a ^ k)]
    try dsimp only
    have e : Q8 (fun i => cho (n + 1) (i + 1) * a ^ (i + 1)) (n + 1) = a * Q8 (fun k => cho n k * a ^ k) (n + 1) + Q8 (fun i => cho n (i + 1) * a ^ (i + 1)) (n + 1) := by
      rw [← A6l, ← A6k]
      refine A3C _ fun i _ => ?_
      rw [cho, Nat.add_mul, Nat.pow_succ]
      grind
    rw [e]
    have e2 : Q8 (fun i => cho n (i + 1) * a ^ (i + 1)) (n + 1) = Q8 (fun i => cho n (i + 1) * a ^ (i + 1)) n := by
      rw [Q8, A8j n (n + 1) (by omega), Nat.zero_mul, Nat.add_zero]
    rw [e2]
    have e3 := A0x (fun k => cho n k * a ^ k) n
    have c0 : cho n 0 = 1 := by cases n <;> rfl
    have c1 : cho (n + 1) 0 = 1 := rfl
    rw [c0] at e3
    rw [c1]
    generalize Q8 (fun k => cho n k * a ^ k) (n + 1) = S at *
    generalize Q8 (fun i => cho n (i + 1) * a ^ (i + 1)) n = T at *
    simp only [Nat.pow_zero, Nat.mul_one] at *
    grind
theorem B8G {p k : Nat} (h : IsPr p) (h0 : 0 < k) (hk : k < p) : p ∣ cho p k := by
  have h2 := h.1
  obtain ⟨n, rfl⟩ : ∃ n, p = n + 1 := ⟨p - 1, by omega⟩
  obtain ⟨j, rfl⟩ : ∃ j, k = j + 1 := ⟨k - 1, by omega⟩
  have e := A49 n j
  have hd : (n + 1) ∣ (j + 1) * cho (n + 1) (j + 1) := by rw [e]; exact Nat.dvd_mul_right _ _
  rcases h.mul hd with h1 | h1
  · have := Nat.le_of_dvd (by omega) h1; omega
  · exact h1
theorem B8H {p : Nat} (h : IsPr p) (a : Nat) : a ^ p % p = a % p := by
  have h2 := h.1
  induction a with
  | zero => rw [Nat.zero_pow (by omega)]
  | succ a ih =>
    obtain ⟨n, rfl⟩ : ∃ n, p = n + 1 := ⟨p - 1, by omega⟩
    rw [B8F, Q8, A8k, Nat.one_mul, A0x]
    obtain ⟨c, hc⟩ : (n + 1) ∣ Q8 (fun i => cho (n + 1) (i + 1) * a ^ (i + 1)) n := A6m n fun i hi => Nat.dvd_trans (B8G h (by omega) (by omega)) (Nat.dvd_mul_right _ _)
    rw [hc, show cho (n + 1) 0 * a ^ 0 = 1 from rfl]
    have e : (1 + (n + 1) * c + a ^ (n + 1)) % (n + 1) = (1 + a ^ (n + 1)) % (n + 1) := by
      rw [Nat.add_right_comm, Nat.add_mul_mod_self_left]
    rw [e, Nat.add_mod, ih, ← Nat.add_mod, Nat.add_comm]
theorem A3D {p a : Nat} (h : IsPr p) (ha : ¬ p ∣ a) : a ^ (p - 1) % p = 1 := by
  have h2 := h.1
  have hf := B8H h a
  obtain ⟨n, rfl⟩ : ∃ n, p = n + 1 := ⟨p - 1, by omega⟩
  rw [Nat.add_sub_cancel]
  have h1 : 1 ≤ a ^ n := Nat.pow_pos (Nat.pos_of_ne_zero (by rintro rfl; exact ha (Nat.dvd_zero _)))
  have hd : (n + 1) ∣ a * (a ^ n - 1) := by
    rw [Nat.mul_sub, Nat.mul_one, ← Nat.pow_succ']
    have hle : a ≤ a ^ (n + 1) := Nat.le_self_pow (by omega) a
    exact Nat.dvd_of_mod_eq_zero (Nat.sub_mod_eq_zero_of_mod_eq hf)
  rcases h.mul hd with h3 | h3
  · exact absurd h3 ha
  · obtain ⟨c, hc⟩ := h3
    rw [show a ^ n = 1 + (n + 1) * c by omega, Nat.add_mul_mod_self_left]
    exact Nat.mod_eq_of_lt (by omega)
theorem B6z {r b : Nat} (m n : Nat) (hm : b ^ m % r = 1 % r) (hn : b ^ n % r = 1 % r) : b ^ (Nat.gcd m n) % r = 1 % r := by
  induction m, n using Nat.gcd.induction with
  | H0 n => rw [Nat.gcd_zero_left]; exact hn
  | H1 m n h0 ih =>
    rw [Nat.gcd_rec]
    refine ih ?_ hm
    have e : b ^ n = (b ^ m) ^ (n / m) * b ^ (n % m) := by
      rw [← Nat.pow_mul, ← Nat.pow_add, Nat.div_add_mod]
    rw [e, Nat.mul_mod, Nat.pow_mod, hm, ← Nat.pow_mod, Nat.one_pow, ← Nat.mul_mod, Nat.one_mul] at hn
    exact hn
theorem C0i {N q a r : Nat} (hN : 2 ≤ N) (hq : IsPr q) (hqd : q * ((N - 1) / q) = N - 1) (h1 : a ^ (N - 1) % N = 1) (h2 : Nat.gcd (a ^ ((N - 1) / q) % N + (N - 1)) N = 1) (hr : IsPr r) (hrN : r ∣ N) : q ∣ r - 1 := by
  have hr2 := hr.1
  generalize hb : a ^ ((N - 1) / q) = b at *
  have hbq : b ^ q % r = 1 % r := by
    rw [← hb, ← Nat.pow_mul, Nat.mul_comm, hqd, ← Nat.mod_mod_of_dvd _ hrN, h1]
  have hnb : ¬ b % r = 1 % r := by
    intro hc
    have : r ∣ b % N + (N - 1) := by
      have e : (b % N + (N - 1)) % r = 0 := by
        obtain ⟨c, rfl⟩ := hrN
        rw [Nat.add_mod, Nat.mod_mul_right_mod, hc, ← Nat.add_mod, show 1 + (r * c - 1) = r * c by omega, Nat.mul_mod_right]
      exact Nat.dvd_of_mod_eq_zero e
    have := Nat.dvd_gcd this hrN
    rw [h2, Nat.dvd_one] at this
    omega
  have hrb : ¬ r ∣ b := by
    intro hc
    have hq1 := hq.1
    have : b ^ q % r = 0 := Nat.mod_eq_zero_of_dvd (Nat.dvd_trans hc (show b ∣ b ^ q from ⟨b ^ (q - 1), by rw [← Nat.pow_succ']; congr 1; omega⟩))
    rw [this, Nat.mod_eq_of_lt (by omega)] at hbq
    omega
  have hf := A3D hr hrb
  have hg := B6z q (r - 1) hbq (by rw [hf, Nat.mod_eq_of_lt (by omega)])
  rcases hq.2 _ (Nat.gcd_dvd_left q (r - 1)) with h3 | h3
  · rw [h3, Nat.pow_one] at hg; exact absurd hg hnb
  · exact h3 ▸ Nat.gcd_dvd_right q (r - 1)
theorem Y5 {p q m : Nat} (hp : IsPr p) (hq : IsPr q) (hne : p ≠ q) (h1 : p ∣ m) (h2 : q ∣ m) : p * q ∣ m := by
  obtain ⟨c, rfl⟩ := h1
  rcases hq.mul h2 with h | h
  · rcases hp.2 _ h with h3 | h3
    · have := hq.1; omega
    · exact absurd h3.symm hne
  · exact Nat.mul_dvd_mul_left p h
theorem A9i {N F : Nat} (hN : 2 ≤ N) (hF : N < (F + 1) * (F + 1)) (h : ∀ r, IsPr r → r ∣ N → F ∣ r - 1) : IsPr N := by
  refine IsPr.of hN fun r hr hd hle => ?_
  have h1 := hr.1
  have := Nat.le_of_dvd (by omega) (h r hr hd)
  have := Nat.mul_le_mul (show F + 1 ≤ r by omega) (show F + 1 ≤ r by omega)
  omega
def B3q (n : Nat) : Nat → Bool
  | 0 => true
  | k + 1 => (k < 2 || n % k != 0) && B3q n k
theorem A4n {n : Nat} : ∀ k, B3q n k = true → ∀ d, 2 ≤ d → d < k → ¬ d ∣ n
  | 0, _, d, _, h => by omega
  | k + 1, h, d, h2, hd => by
    rw [B3q, Bool.and_eq_true] at h
    by_cases e : d = k
    · subst e
      intro hc
      have := Nat.mod_eq_zero_of_dvd hc
      simp [this] at h
      omega
    · exact A4n k h.2 d h2 (by omega)
theorem A7f {n : Nat} (k : Nat) (h2 : 2 ≤ n) (hk : n < k * k) (h : B3q n k = true) : IsPr n := by
  refine IsPr.of h2 fun r hr hd hle => A4n k h r hr.1 ?_ hd
  rcases Nat.lt_or_ge r k with h1 | h1
  · exact h1
  · have := Nat.mul_le_mul h1 h1; omega
def pm (N : Nat) : Nat → Nat → Nat → Nat → Nat
  | 0, _, _, acc => acc
  | f + 1, b, e, acc => pm N f (b * b % N) (e / 2) (if e % 2 = 1 then acc * b % N else acc)
theorem B0S (N : Nat) : ∀ f b e acc, e < 2 ^ f → acc % N = acc → pm N f b e acc = acc * b ^ e % N
  | 0, b, e, acc, h, ha => by
    obtain rfl : e = 0 := by simpa using h
    rw [pm, Nat.pow_zero, Nat.mul_one, ha]
  | f + 1, b, e, acc, h, ha => by
    rw [pm, B0S N f _ _ _ (by rw [Nat.pow_succ] at h; omega) (by split <;> simp [ha])]
    have e2 : b ^ e = (b * b) ^ (e / 2) * b ^ (e % 2) := by
      rw [← Nat.pow_two, ← Nat.pow_mul, ← Nat.pow_add, Nat.div_add_mod]
    rw [e2]
    rcases Nat.mod_two_eq_zero_or_one e with h0 | h0
    · rw [h0, if_neg (by decide), Nat.mul_mod, ← Nat.pow_mod, ← Nat.mul_mod, Nat.pow_zero, Nat.mul_one]
    · rw [h0, if_pos rfl, Nat.mul_mod, ← Nat.pow_mod, Nat.mod_mod, ← Nat.mul_mod, Nat.pow_one, Nat.mul_assoc, Nat.mul_comm b]
theorem A6n {N : Nat} (hN : 2 ≤ N) (f a e : Nat) (h : e < 2 ^ f) : a ^ e % N = pm N f a e 1 := by
  rw [B0S N f a e 1 h (Nat.mod_eq_of_lt (by omega)), Nat.one_mul]
def B8I (N q a : Nat) : Bool := q * ((N - 1) / q) == N - 1 && pm N 256 a (N - 1) 1 == 1 && Nat.gcd (pm N 256 a ((N - 1) / q) 1 + (N - 1)) N == 1
theorem H3 {N q a : Nat} (hN : 2 ≤ N) (hN2 : N < 2 ^ 256) (hq : IsPr q) (h : B8I N q a = true) : ∀ r, IsPr r → r ∣ N → q ∣ r - 1 := by
  simp only [B8I, Bool.and_eq_true, beq_iff_eq] at h
  obtain ⟨⟨h1, h2⟩, h3⟩ := h
  intro r hr hd
  refine C0i (a := a) hN hq h1 ?_ ?_ hr hd
  · rw [A6n hN 256 _ _ (by omega)]; exact h2
  · rw [A6n hN 256 _ _ (Nat.lt_of_le_of_lt (Nat.div_le_self _ _) (by omega))]; exact h3
theorem B4W : IsPr 4153 := A7f 65 (by decide) (by decide) (by decide +kernel)
theorem A8l : IsPr 430751 := A7f 657 (by decide) (by decide) (by decide +kernel)
theorem A6o : IsPr 8574133 := A7f 2929 (by decide) (by decide) (by decide +kernel)
theorem B8J : IsPr 127 := A7f 12 (by decide) (by decide) (by decide +kernel)
theorem B3r : IsPr 569003 := A7f 755 (by decide) (by decide) (by decide +kernel)
theorem A6p : IsPr 2773320623 := A9i (F := 569003) (by decide) (by decide) (H3 (a := 2) (by decide) (by decide) B3r (by decide +kernel))
theorem A1U : IsPr 72106336199 := A9i (F := 2773320623) (by decide) (by decide) (H3 (a := 2) (by decide) (by decide) A6p (by decide +kernel))
theorem Z9 : IsPr 1919519569386763 := A9i (F := 8574133 * 127) (by decide) (by decide) fun s hs hd => Y5 A6o B8J (by decide) (H3 (a := 2) (by decide) (by decide) A6o (by decide +kernel) s hs hd) (H3 (a := 2) (by decide) (by decide) B8J (by decide +kernel) s hs hd)
theorem Y6 : IsPr 31757755568855353 := A9i (F := 430751 * 4153) (by decide) (by decide) fun s hs hd => Y5 A8l B4W (by decide) (H3 (a := 2) (by decide) (by decide) A8l (by decide +kernel) s hs hd) (H3 (a := 2) (by decide) (by decide) B4W (by decide +kernel) s hs hd)
theorem L0 : IsPr 75445702479781427272750846543864801 := A9i (F := 72106336199 * 1919519569386763) (by decide) (by decide) fun s hs hd => Y5 A1U Z9 (by decide) (H3 (a := 2) (by decide) (by decide) A1U (by decide +kernel) s hs hd) (H3 (a := 2) (by decide) (by decide) Z9 (by decide +kernel) s hs hd)
theorem G7 : IsPr 74058212732561358302231226437062788676166966415465897661863160754340907 := A9i (F := 31757755568855353 * 75445702479781427272750846543864801) (by decide) (by decide) fun s hs hd => Y5 Y6 L0 (by decide) (H3 (a := 2) (by decide) (by decide) Y6 (by decide +kernel) s hs hd) (H3 (a := 2) (by decide) (by decide) L0 (by decide +kernel) s hs hd)
theorem B9I : IsPr p25 := A9i (F := 74058212732561358302231226437062788676166966415465897661863160754340907) (by decide) (by decide) (H3 (a := 2) (by decide) (by decide) G7 (by decide +kernel))
end Go.Px

namespace Go.Proofs.YthbhpfefdnffaaaGreatDoor
open Go.Px
def fS (x y : Nat) : Nat := (x + p25 - y) % p25
def fA (x y : Nat) : Nat := (x + y) % p25
def fM (x y : Nat) : Nat := x * y % p25
def fN (x : Nat) : Nat := (p25 - x) % p25
theorem B8K (x : Nat) : ∃ y, y = rtp x (p25 - 2) := ⟨_, rfl⟩
noncomputable def fI (x : Nat) : Nat := Classical.choose (B8K x)
theorem A9j (x : Nat) : fI x = rtp x (p25 - 2) := Classical.choose_spec (B8K x)
theorem A5a {v u : Value} {x y : Nat} (hx : Fe v x) (hy : Fe u y) (A : Mem) : FnX Tryz.prog 161 [v, u] [] A fun r M J => M = [] ∧ J = [] ∧ Fe r (fS x y) := A6g v u x y hx hy A
theorem A3Z {v u : Value} {x y : Nat} (hx : Fe v x) (hy : Fe u y) (A : Mem) : FnX Tryz.prog 160 [v, u] [] A fun r M J => M = [] ∧ J = [] ∧ Fe r (fA x y) := B0J v u x y hx hy A
theorem R7 {v u : Value} {x y : Nat} (hx : Fe v x) (hy : Fe u y) (A : Mem) : FnX Tryz.prog 135 [v, u] [] A fun r M J => M = [] ∧ J = [] ∧ Fe r (fM x y) := A1S v u x y hx hy A
theorem B8L {v : Value} {x : Nat} (hx : Fe v x) (A : Mem) : FnX Tryz.prog 162 [v] [] A fun r M J => M = [] ∧ J = [] ∧ Fe r (fM x x) := Z8 v x hx A
theorem B6A {v : Value} {x : Nat} (hx : Fe v x) (A : Mem) : FnX Tryz.prog 190 [v] [] A fun r M J => M = [] ∧ J = [] ∧ Fe r (fN x) := B0L v x hx A
theorem A0I (n : Nat) (hn : n < 4294967296) (A : Mem) : FnX Tryz.prog 132 [.int .u32 (n : Int)] [] A fun r M J => M = [] ∧ J = [] ∧ Fe r n := A3w n hn A
theorem B0T {v : Value} {x : Nat} (hx : Fe v x) (A : Mem) : FnX Tryz.prog 136 [v] [] A fun r M J => M = [] ∧ J = [] ∧ Fe r (fI x) :=
  (B0Q v x hx A).mono fun r M J ⟨h1, h2, n, h3, h4⟩ => ⟨h1, h2, by rw [A9j, ← B0R (show n = p25 - 2 by omega)]; exact h4⟩
structure Pt where
  X : Nat
  Y : Nat
  Z : Nat
  T : Nat
def FeL (xs : List Nat) (P : Pt) : Prop := ∃ x0 x1 x2 x3 x4 x5 x6 x7 x8 x9 x10 x11 x12 x13 x14 x15 x16 x17 x18 x19 : Nat, xs = [x0, x1, x2, x3, x4, x5, x6, x7, x8, x9, x10, x11, x12, x13, x14, x15, x16, x17, x18, x19] ∧ Fe (el x0 x1 x2 x3 x4) P.X ∧ Fe (el x5 x6 x7 x8 x9) P.Y ∧ Fe (el x10 x11 x12 x13 x14) P.Z ∧ Fe (el x15 x16 x17 x18 x19) P.T
def FeP (V : Value) (P : Pt) : Prop := ∃ xs, V = .agg (nums .u64 xs).toArray ∧ FeL xs P
def pO : Pt := ⟨0, 1, 1, 0⟩
def dN : Nat := 37095705934669439343138083508754565189542113879843219016388785533085940283555
def d2N : Nat := 16295367250680780974490674513165176452449235426866156013048779062215315747161
theorem A4o {x n : Nat} (h : n < 2 ^ 256) : rtp x n = pm p25 256 x n 1 := A6n (by decide) 256 x n h
theorem C0j : fN (fM 121665 (fI 121666)) = dN := by
  rw [A9j, A4o (by decide)]
  decide +kernel
theorem B6B : fM 2 dN = d2N := by decide +kernel
def A6q (d2 : Nat) (P Q : Pt) : Pt :=
  let a := fM (fS P.Y P.X) (fS Q.Y Q.X)
  let b := fM (fA P.Y P.X) (fA Q.Y Q.X)
  let c := fM (fM P.T d2) Q.T
  let z := fA (fM P.Z Q.Z) (fM P.Z Q.Z)
  let e := fS b a
  let f := fS z c
  let g := fA z c
  let h := fA b a
  ⟨fM e f, fM g h, fM f g, fM e h⟩

theorem B3s (A : Mem) : FnX Tryz.prog 172 [] [] A fun r M J => M = [] ∧ J = [] ∧ FeP r pO := by
 refine FnX.enter (N := 4) Tryz.func172 rfl rfl rfl fun w => ?_
 refine C4 kn (A3 ?_)
 refine A6 rfl (C5 (cs := [A7, A7, A7, A7, A7, A7, A7, A7, A7, A7, A7, A7, A7, A7, A7, A7, A7, A7, A7, A7]) kR rfl fun b0 => ?_)
 refine A0 (D8 0) (A3 ?_)
 refine C9 (aS rfl a0) kR (A0I 1 (by decide) _) rfl ?_
 rintro r1 M1 J1 ⟨rfl, rfl, k1⟩
 have h1 := k1
 obtain ⟨a1, b1, c1, d1, e1, rfl, -⟩ := k1
 refine C9 (aS rfl a0) kR (A0I 1 (by decide) _) rfl ?_
 rintro r2 M2 J2 ⟨rfl, rfl, k2⟩
 have h2 := k2
 obtain ⟨a2, b2, c2, d2, e2, rfl, -⟩ := k2
 refine A4 (F3 (place := fun x => #[(0, 5), (5, 5), (10, 5), (15, 5)][x]?) (z := [A7, A7, A7, A7, A7, A7, A7, A7, A7, A7, A7, A7, A7, A7, A7, A7, A7, A7, A7, A7]) (fun _ => by kernel_rfl) (eS rfl (eS rfl e0)) (bdS 5 5 rfl (by rfl) (bdS 10 5 rfl (by rfl) bd0))) rfl ?_
 refine A6 rfl (A8 rfl rfl Cel.cel kR A2L A2M UpC.upd ?_)
 refine A0 (D8 0) (C2 ?_)
 exact ⟨_, [], [], A1k rfl rfl kR At.mem (by rfl), List.nil_sublist _, by simp, rfl, rfl, ⟨_, rfl, _, _, _, _, _, _, _, _, _, _, _, _, _, _, _, _, _, _, _, _, rfl, K4, h1, h2, K4⟩⟩
theorem A7g (A : Mem) : FnX Tryz.prog 173 [] [] A fun r M J => M = [] ∧ J = [] ∧ Fe r dN := by
 refine FnX.enter (N := 6) Tryz.func173 rfl rfl rfl fun w => ?_
 refine C4 kn (A3 ?_)
 refine A6 rfl (C5 (cs := [A7, A7, A7, A7, A7]) kR rfl fun b0 => ?_)
 refine A0 (D8 0) (A3 ?_)
 refine C9 (aS rfl a0) kR (A0I 121665 (by decide) _) rfl ?_
 rintro r1 M1 J1 ⟨rfl, rfl, k1⟩
 have h1 := k1
 obtain ⟨a1, b1, c1, d1, e1, rfl, -⟩ := k1
 refine C9 (aS rfl a0) kR (A0I 121666 (by decide) _) rfl ?_
 rintro r2 M2 J2 ⟨rfl, rfl, k2⟩
 have h2 := k2
 obtain ⟨a2, b2, c2, d2, e2, rfl, -⟩ := k2
 refine C9 (aS rfl a0) kR (B0T h2 _) rfl ?_
 rintro r3 M3 J3 ⟨rfl, rfl, k3⟩
 have h3 := k3
 obtain ⟨a3, b3, c3, d3, e3, rfl, -⟩ := k3
 refine C9 (aS rfl (aS rfl a0)) kR (R7 h1 h3 _) rfl ?_
 rintro r4 M4 J4 ⟨rfl, rfl, k4⟩
 have h4 := k4
 obtain ⟨a4, b4, c4, d4, e4, rfl, -⟩ := k4
 refine C9 (aS rfl a0) kR (B6A h4 _) rfl ?_
 rintro r5 M5 J5 ⟨rfl, rfl, k5⟩
 rw [C0j] at k5
 have h5 := k5
 obtain ⟨a5, b5, c5, d5, e5, rfl, -⟩ := k5
 refine A6 rfl (A8 rfl rfl Cel.cel kR ln5 al5 UpC.upd ?_)
 refine A0 (D8 0) (C2 ?_)
 exact ⟨_, [], [], A1k rfl rfl kR At.mem (by rfl), List.nil_sublist _, by simp, rfl, rfl, h5⟩
theorem B0U (V W u : Value) (P Q : Pt) (dd : Nat) (hV : FeP V P) (hW : FeP W Q) (hu : Fe u dd) (A : Mem) : FnX Tryz.prog 174 [V, W, u] [] A fun r M J => M = [] ∧ J = [] ∧ FeP r (A6q dd P Q) := by
 obtain ⟨xsp, rfl, p0, p1, p2, p3, p4, p5, p6, p7, p8, p9, p10, p11, p12, p13, p14, p15, p16, p17, p18, p19, rfl, hPX, hPY, hPZ, hPT⟩ := hV
 dsimp only [nums, List.map]
 obtain ⟨xsq, rfl, q0, q1, q2, q3, q4, q5, q6, q7, q8, q9, q10, q11, q12, q13, q14, q15, q16, q17, q18, q19, rfl, hQX, hQY, hQZ, hQT⟩ := hW
 dsimp only [nums, List.map]
 have hd := hu
 obtain ⟨ud0, ud1, ud2, ud3, ud4, rfl, -⟩ := hu
 refine FnX.enter (N := 77) Tryz.func174 rfl rfl rfl fun w => ?_
 refine C4 (E1 0 1 2) (A3 ?_)
 refine A6 rfl (bx_ fun b3 => ?_)
 refine A6 rfl (bx_ fun b4 => ?_)
 refine A6 rfl (bx_ fun b5 => ?_)
 refine A6 rfl (C5 (cs := [A7, A7, A7, A7, A7, A7, A7, A7, A7, A7, A7, A7, A7, A7, A7, A7, A7, A7, A7, A7]) kR rfl fun b6 => ?_)
 refine A0 (E7 3 4 5 6) ?_
 refine D2 (.range 12) [(0, 0), (1, 1), (2, 0), (3, 1), (5, 0), (6, 1), (7, 0), (8, 1), (4, 3), (9, 3), (10, 3), (11, 4), (12, 2)] kR kR fun hs => ?_
 refine D1 hs rfl (qf_ 5 5) rfl ?_
 refine F6 hs rfl (G5 (n := 5) rfl kR (by first | exact At.mem | exact mA (by assumption)) TakeC.take) rfl ?_
 refine D1 hs rfl (qf_ 0 0) rfl ?_
 refine F6 hs rfl (G5 (n := 5) rfl kR (by first | exact At.mem | exact mA (by assumption)) TakeC.take) rfl ?_
 refine D1 hs rfl (qf_ 5 5) rfl ?_
 refine F6 hs rfl (G5 (n := 5) rfl kR (by first | exact At.mem | exact mA (by assumption)) TakeC.take) rfl ?_
 refine D1 hs rfl (qf_ 0 0) rfl ?_
 refine F6 hs rfl (G5 (n := 5) rfl kR (by first | exact At.mem | exact mA (by assumption)) TakeC.take) rfl ?_
 refine N0 [⟨4, 19, fun v B _ => B = [] ∧ Fe v (fS P.Y P.X)⟩, ⟨9, 24, fun v B _ => B = [] ∧ Fe v (fS Q.Y Q.X)⟩, ⟨10, 25, fun v B _ => B = [] ∧ Fe v (fM (fS P.Y P.X) (fS Q.Y Q.X))⟩, ⟨11, 7, fun v B _ => ∃ b, v = .pointer (some ⟨b, 0, none⟩) ∧ B = [(b, blk [.int .u64 0, .int .u64 0, .int .u64 0, .int .u64 0, .int .u64 0] 205)]⟩]
  (C1 (fun _ _ _ _ _ h => h) (C1 (fun _ _ _ _ _ h => h) (C1 (fun _ _ _ _ _ h => h) (C1 (fun _ _ _ _ _ h => h) (K3))))) (show List.Nodup [19, 24, 25, 7] by decide) (show List.Nodup [4, 9, 10, 11] by decide) (C1 (C7 rfl) (C1 (C7 rfl) (C1 (C7 rfl) (C1 (C7 rfl) (K3)))))
  (C1 ⟨_, rfl, fun vs bs R w hb ha => ⟨.inl rfl, ?_⟩⟩ (C1 ⟨_, rfl, fun vs bs R w hb ha => ⟨.inl rfl, ?_⟩⟩ (C1 ⟨_, rfl, fun vs bs R w hb ha => ⟨.inl rfl, ?_⟩⟩ (C1 ⟨_, rfl, fun vs bs R w hb ha => ⟨.inl rfl, ?_⟩⟩ (K3))))) ?_
 ·
  refine D7 (aS rfl (aS rfl (a0))) kR (A5a hPY hPX _) rfl ?_
  rintro r M1 J1 ⟨rfl, rfl, hh⟩
  exact ⟨_, rfl, rfl, hh⟩
 ·
  refine D7 (aS rfl (aS rfl (a0))) kR (A5a hQY hQX _) rfl ?_
  rintro r M1 J1 ⟨rfl, rfl, hh⟩
  exact ⟨_, rfl, rfl, hh⟩
 ·
  have g4 := ha _ (List.mem_of_getElem? (i := 0) rfl) kR
  replace g4 : (fun v B _ => B = [] ∧ Fe v (fS P.Y P.X)) (vs 4) (bs 4) R := g4
  dsimp only at g4
  have g9 := ha _ (List.mem_of_getElem? (i := 1) rfl) kR
  replace g9 : (fun v B _ => B = [] ∧ Fe v (fS Q.Y Q.X)) (vs 9) (bs 9) R := g9
  dsimp only at g9
  obtain ⟨-, k4⟩ := g4
  obtain ⟨-, k9⟩ := g9
  refine D7 (aS rfl (aS rfl (a0))) kR (R7 k4 k9 _) rfl ?_
  rintro r M1 J1 ⟨rfl, rfl, hh⟩
  exact ⟨_, rfl, rfl, hh⟩
 ·
  exact C5 (cs := [A7, A7, A7, A7, A7]) kR rfl fun b => ⟨_, rfl, b, rfl, rfl⟩
 intro vs bs Jn0 hφ
 have g4 := ofH hφ
 dsimp only at g4
 replace hφ := ofT hφ
 have g9 := ofH hφ
 dsimp only at g9
 replace hφ := ofT hφ
 have g10 := ofH hφ
 dsimp only at g10
 replace hφ := ofT hφ
 have g11 := ofH hφ
 dsimp only at g11
 clear hφ
 dsimp only [U0, P5, List.map, List.flatten, List.cons_append, List.nil_append]
 generalize bs 4 = B19 at *
 generalize bs 9 = B24 at *
 generalize bs 10 = B25 at *
 generalize bs 11 = B7 at *
 generalize vs 4 = u19 at *
 generalize vs 9 = u24 at *
 generalize vs 10 = u25 at *
 generalize vs 11 = u7 at *
 obtain ⟨rfl, k4⟩ := g4
 have h4 := k4
 obtain ⟨a4, b4, c4, d4, e4, rfl, -⟩ := k4
 obtain ⟨rfl, k9⟩ := g9
 have h9 := k9
 obtain ⟨a9, b9, c9, d9, e9, rfl, -⟩ := k9
 obtain ⟨rfl, k10⟩ := g10
 have h10 := k10
 obtain ⟨a10, b10, c10, d10, e10, rfl, -⟩ := k10
 obtain ⟨b11, rfl, rfl⟩ := g11
 dsimp only [List.append_eq, List.nil_append, List.cons_append]
 have hfa := h10
 clear h4 h9 h10
 refine G2 rfl rfl rfl (A8 rfl rfl Cel.cel kR ln5 al5 UpC.upd ?_)
 refine E3 (F7 3 4 5 6 7) ?_
 refine D2 (.range 12) [(0, 0), (1, 1), (2, 0), (3, 1), (5, 0), (6, 1), (7, 0), (8, 1), (4, 3), (9, 3), (10, 3), (11, 4), (12, 2)] kR kR fun hs => ?_
 refine D1 hs rfl (qf_ 5 5) rfl ?_
 refine F6 hs rfl (G5 (n := 5) rfl kR (by first | exact At.mem | exact mA (by assumption)) TakeC.take) rfl ?_
 refine D1 hs rfl (qf_ 0 0) rfl ?_
 refine F6 hs rfl (G5 (n := 5) rfl kR (by first | exact At.mem | exact mA (by assumption)) TakeC.take) rfl ?_
 refine D1 hs rfl (qf_ 5 5) rfl ?_
 refine F6 hs rfl (G5 (n := 5) rfl kR (by first | exact At.mem | exact mA (by assumption)) TakeC.take) rfl ?_
 refine D1 hs rfl (qf_ 0 0) rfl ?_
 refine F6 hs rfl (G5 (n := 5) rfl kR (by first | exact At.mem | exact mA (by assumption)) TakeC.take) rfl ?_
 refine N0 [⟨4, 30, fun v B _ => B = [] ∧ Fe v (fA P.Y P.X)⟩, ⟨9, 35, fun v B _ => B = [] ∧ Fe v (fA Q.Y Q.X)⟩, ⟨10, 36, fun v B _ => B = [] ∧ Fe v (fM (fA P.Y P.X) (fA Q.Y Q.X))⟩, ⟨11, 8, fun v B _ => ∃ b, v = .pointer (some ⟨b, 0, none⟩) ∧ B = [(b, blk [.int .u64 0, .int .u64 0, .int .u64 0, .int .u64 0, .int .u64 0] 205)]⟩]
  (C1 (fun _ _ _ _ _ h => h) (C1 (fun _ _ _ _ _ h => h) (C1 (fun _ _ _ _ _ h => h) (C1 (fun _ _ _ _ _ h => h) (K3))))) (show List.Nodup [30, 35, 36, 8] by decide) (show List.Nodup [4, 9, 10, 11] by decide) (C1 (C7 rfl) (C1 (C7 rfl) (C1 (C7 rfl) (C1 (C7 rfl) (K3)))))
  (C1 ⟨_, rfl, fun vs bs R w hb ha => ⟨.inl rfl, ?_⟩⟩ (C1 ⟨_, rfl, fun vs bs R w hb ha => ⟨.inl rfl, ?_⟩⟩ (C1 ⟨_, rfl, fun vs bs R w hb ha => ⟨.inl rfl, ?_⟩⟩ (C1 ⟨_, rfl, fun vs bs R w hb ha => ⟨.inl rfl, ?_⟩⟩ (K3))))) ?_
 ·
  refine D7 (aS rfl (aS rfl (a0))) kR (A3Z hPY hPX _) rfl ?_
  rintro r M1 J1 ⟨rfl, rfl, hh⟩
  exact ⟨_, rfl, rfl, hh⟩
 ·
  refine D7 (aS rfl (aS rfl (a0))) kR (A3Z hQY hQX _) rfl ?_
  rintro r M1 J1 ⟨rfl, rfl, hh⟩
  exact ⟨_, rfl, rfl, hh⟩
 ·
  have g4 := ha _ (List.mem_of_getElem? (i := 0) rfl) kR
  replace g4 : (fun v B _ => B = [] ∧ Fe v (fA P.Y P.X)) (vs 4) (bs 4) R := g4
  dsimp only at g4
  have g9 := ha _ (List.mem_of_getElem? (i := 1) rfl) kR
  replace g9 : (fun v B _ => B = [] ∧ Fe v (fA Q.Y Q.X)) (vs 9) (bs 9) R := g9
  dsimp only at g9
  obtain ⟨-, k4⟩ := g4
  obtain ⟨-, k9⟩ := g9
  refine D7 (aS rfl (aS rfl (a0))) kR (R7 k4 k9 _) rfl ?_
  rintro r M1 J1 ⟨rfl, rfl, hh⟩
  exact ⟨_, rfl, rfl, hh⟩
 ·
  exact C5 (cs := [A7, A7, A7, A7, A7]) kR rfl fun b => ⟨_, rfl, b, rfl, rfl⟩
 intro vs bs Jn0 hφ
 have g4 := ofH hφ
 dsimp only at g4
 replace hφ := ofT hφ
 have g9 := ofH hφ
 dsimp only at g9
 replace hφ := ofT hφ
 have g10 := ofH hφ
 dsimp only at g10
 replace hφ := ofT hφ
 have g11 := ofH hφ
 dsimp only at g11
 clear hφ
 dsimp only [U0, P5, List.map, List.flatten, List.cons_append, List.nil_append]
 generalize bs 4 = B30 at *
 generalize bs 9 = B35 at *
 generalize bs 10 = B36 at *
 generalize bs 11 = B8 at *
 generalize vs 4 = u30 at *
 generalize vs 9 = u35 at *
 generalize vs 10 = u36 at *
 generalize vs 11 = u8 at *
 obtain ⟨rfl, k4⟩ := g4
 have h4 := k4
 obtain ⟨a4, b4, c4, d4, e4, rfl, -⟩ := k4
 obtain ⟨rfl, k9⟩ := g9
 have h9 := k9
 obtain ⟨a9, b9, c9, d9, e9, rfl, -⟩ := k9
 obtain ⟨rfl, k10⟩ := g10
 have h10 := k10
 obtain ⟨a10, b10, c10, d10, e10, rfl, -⟩ := k10
 obtain ⟨b11, rfl, rfl⟩ := g11
 dsimp only [List.append_eq, List.nil_append, List.cons_append]
 have hfb := h10
 clear h4 h9 h10
 refine G2 rfl rfl rfl (A8 rfl rfl Cel.cel kR ln5 al5 UpC.upd ?_)
 refine E3 (I5 3 4 5 6 7 8) ?_
 refine D2 (.range 8) [(0, 0), (1, 1), (2, 1), (4, 0), (5, 1), (3, 3), (6, 3), (7, 4), (8, 2)] kR kR fun hs => ?_
 refine D1 hs rfl (qf_ 15 15) rfl ?_
 refine F6 hs rfl (G5 (n := 5) rfl kR (by first | exact At.mem | exact mA (by assumption)) TakeC.take) rfl ?_
 refine F6 hs rfl (qw_ 5) rfl ?_
 refine D1 hs rfl (qf_ 15 15) rfl ?_
 refine F6 hs rfl (G5 (n := 5) rfl kR (by first | exact At.mem | exact mA (by assumption)) TakeC.take) rfl ?_
 refine N0 [⟨3, 40, fun v B _ => B = [] ∧ Fe v (fM P.T dd)⟩, ⟨6, 43, fun v B _ => B = [] ∧ Fe v (fM (fM P.T dd) Q.T)⟩, ⟨7, 9, fun v B _ => ∃ b, v = .pointer (some ⟨b, 0, none⟩) ∧ B = [(b, blk [.int .u64 0, .int .u64 0, .int .u64 0, .int .u64 0, .int .u64 0] 205)]⟩]
  (C1 (fun _ _ _ _ _ h => h) (C1 (fun _ _ _ _ _ h => h) (C1 (fun _ _ _ _ _ h => h) (K3)))) (show List.Nodup [40, 43, 9] by decide) (show List.Nodup [3, 6, 7] by decide) (C1 (C7 rfl) (C1 (C7 rfl) (C1 (C7 rfl) (K3))))
  (C1 ⟨_, rfl, fun vs bs R w hb ha => ⟨.inl rfl, ?_⟩⟩ (C1 ⟨_, rfl, fun vs bs R w hb ha => ⟨.inl rfl, ?_⟩⟩ (C1 ⟨_, rfl, fun vs bs R w hb ha => ⟨.inl rfl, ?_⟩⟩ (K3)))) ?_
 ·
  refine D7 (aS rfl (aS rfl (a0))) kR (R7 hPT hd _) rfl ?_
  rintro r M1 J1 ⟨rfl, rfl, hh⟩
  exact ⟨_, rfl, rfl, hh⟩
 ·
  have g3 := ha _ (List.mem_of_getElem? (i := 0) rfl) kR
  replace g3 : (fun v B _ => B = [] ∧ Fe v (fM P.T dd)) (vs 3) (bs 3) R := g3
  dsimp only at g3
  obtain ⟨-, k3⟩ := g3
  refine D7 (aS rfl (aS rfl (a0))) kR (R7 k3 hQT _) rfl ?_
  rintro r M1 J1 ⟨rfl, rfl, hh⟩
  exact ⟨_, rfl, rfl, hh⟩
 ·
  exact C5 (cs := [A7, A7, A7, A7, A7]) kR rfl fun b => ⟨_, rfl, b, rfl, rfl⟩
 intro vs bs Jn0 hφ
 have g3 := ofH hφ
 dsimp only at g3
 replace hφ := ofT hφ
 have g6 := ofH hφ
 dsimp only at g6
 replace hφ := ofT hφ
 have g7 := ofH hφ
 dsimp only at g7
 clear hφ
 dsimp only [U0, P5, List.map, List.flatten, List.cons_append, List.nil_append]
 generalize bs 3 = B40 at *
 generalize bs 6 = B43 at *
 generalize bs 7 = B9 at *
 generalize vs 3 = u40 at *
 generalize vs 6 = u43 at *
 generalize vs 7 = u9 at *
 obtain ⟨rfl, k3⟩ := g3
 have h3 := k3
 obtain ⟨a3, b3, c3, d3, e3, rfl, -⟩ := k3
 obtain ⟨rfl, k6⟩ := g6
 have h6 := k6
 obtain ⟨a6, b6, c6, d6, e6, rfl, -⟩ := k6
 obtain ⟨b7, rfl, rfl⟩ := g7
 dsimp only [List.append_eq, List.nil_append, List.cons_append]
 have hc := h6
 clear h3 h6
 refine G2 rfl rfl rfl (A8 rfl rfl Cel.cel kR ln5 al5 UpC.upd ?_)
 refine E3 (I5 3 4 6 7 8 9) (A3 ?_)
 refine A4 (qf_ 10 10) rfl ?_
 refine A4 (G5 (n := 5) rfl kR (by first | exact At.mem | exact mA (by assumption)) TakeC.take) rfl ?_
 refine A4 (qf_ 10 10) rfl ?_
 refine A4 (G5 (n := 5) rfl kR (by first | exact At.mem | exact mA (by assumption)) TakeC.take) rfl ?_
 refine C9 (aS rfl (aS rfl a0)) kR (R7 hPZ hQZ _) rfl ?_
 rintro r48 M48 J48 ⟨rfl, rfl, k48⟩
 have h48 := k48
 obtain ⟨a48, b48, c48, d48, e48, rfl, -⟩ := k48
 refine A6 rfl (C5 (cs := [A7, A7, A7, A7, A7]) kR rfl fun b10 => ?_)
 refine A6 rfl (A8 rfl rfl Cel.cel kR ln5 al5 UpC.upd ?_)
 refine A0 (F7 6 7 8 9 10) (A3 ?_)
 refine A4 (qw_ 5) rfl ?_
 refine A4 (qw_ 5) rfl ?_
 refine C9 (aS rfl (aS rfl a0)) kR (A3Z h48 h48 _) rfl ?_
 rintro r51 M51 J51 ⟨rfl, rfl, k51⟩
 have h51 := k51
 obtain ⟨a51, b51, c51, d51, e51, rfl, -⟩ := k51
 refine A6 rfl (A8 rfl rfl Cel.cel kR ln5 al5 UpC.upd ?_)
 refine A0 (F7 6 7 8 9 10) ?_
 refine D2 (.range 16) [(0, 1), (1, 1), (3, 1), (4, 1), (6, 1), (7, 1), (9, 1), (10, 1), (2, 3), (5, 3), (8, 3), (11, 3), (12, 3), (13, 3), (14, 3), (15, 4), (16, 2), (17, 2), (18, 2), (19, 2)] kR kR fun hs => ?_
 refine F6 hs rfl (qw_ 5) rfl ?_
 refine F6 hs rfl (qw_ 5) rfl ?_
 refine F6 hs rfl (qw_ 5) rfl ?_
 refine F6 hs rfl (qw_ 5) rfl ?_
 refine F6 hs rfl (qw_ 5) rfl ?_
 refine F6 hs rfl (qw_ 5) rfl ?_
 refine F6 hs rfl (qw_ 5) rfl ?_
 refine F6 hs rfl (qw_ 5) rfl ?_
 refine N0 [⟨2, 54, fun v B _ => B = [] ∧ Fe v (fS (fM (fA P.Y P.X) (fA Q.Y Q.X)) (fM (fS P.Y P.X) (fS Q.Y Q.X)))⟩, ⟨5, 57, fun v B _ => B = [] ∧ Fe v (fS (fA (fM P.Z Q.Z) (fM P.Z Q.Z)) (fM (fM P.T dd) Q.T))⟩, ⟨8, 60, fun v B _ => B = [] ∧ Fe v (fA (fA (fM P.Z Q.Z) (fM P.Z Q.Z)) (fM (fM P.T dd) Q.T))⟩, ⟨11, 63, fun v B _ => B = [] ∧ Fe v (fA (fM (fA P.Y P.X) (fA Q.Y Q.X)) (fM (fS P.Y P.X) (fS Q.Y Q.X)))⟩, ⟨12, 11, fun v B _ => ∃ b, v = .pointer (some ⟨b, 0, none⟩) ∧ B = [(b, blk [.int .u64 0, .int .u64 0, .int .u64 0, .int .u64 0, .int .u64 0] 205)]⟩, ⟨13, 12, fun v B _ => ∃ b, v = .pointer (some ⟨b, 0, none⟩) ∧ B = [(b, blk [.int .u64 0, .int .u64 0, .int .u64 0, .int .u64 0, .int .u64 0] 205)]⟩, ⟨14, 13, fun v B _ => ∃ b, v = .pointer (some ⟨b, 0, none⟩) ∧ B = [(b, blk [.int .u64 0, .int .u64 0, .int .u64 0, .int .u64 0, .int .u64 0] 205)]⟩, ⟨15, 14, fun v B _ => ∃ b, v = .pointer (some ⟨b, 0, none⟩) ∧ B = [(b, blk [.int .u64 0, .int .u64 0, .int .u64 0, .int .u64 0, .int .u64 0] 205)]⟩]
  (C1 (fun _ _ _ _ _ h => h) (C1 (fun _ _ _ _ _ h => h) (C1 (fun _ _ _ _ _ h => h) (C1 (fun _ _ _ _ _ h => h) (C1 (fun _ _ _ _ _ h => h) (C1 (fun _ _ _ _ _ h => h) (C1 (fun _ _ _ _ _ h => h) (C1 (fun _ _ _ _ _ h => h) (K3))))))))) (show List.Nodup [54, 57, 60, 63, 11, 12, 13, 14] by decide) (show List.Nodup [2, 5, 8, 11, 12, 13, 14, 15] by decide) (C1 (C7 rfl) (C1 (C7 rfl) (C1 (C7 rfl) (C1 (C7 rfl) (C1 (C7 rfl) (C1 (C7 rfl) (C1 (C7 rfl) (C1 (C7 rfl) (K3)))))))))
  (C1 ⟨_, rfl, fun vs bs R w hb ha => ⟨.inl rfl, ?_⟩⟩ (C1 ⟨_, rfl, fun vs bs R w hb ha => ⟨.inl rfl, ?_⟩⟩ (C1 ⟨_, rfl, fun vs bs R w hb ha => ⟨.inl rfl, ?_⟩⟩ (C1 ⟨_, rfl, fun vs bs R w hb ha => ⟨.inl rfl, ?_⟩⟩ (C1 ⟨_, rfl, fun vs bs R w hb ha => ⟨.inl rfl, ?_⟩⟩ (C1 ⟨_, rfl, fun vs bs R w hb ha => ⟨.inl rfl, ?_⟩⟩ (C1 ⟨_, rfl, fun vs bs R w hb ha => ⟨.inl rfl, ?_⟩⟩ (C1 ⟨_, rfl, fun vs bs R w hb ha => ⟨.inl rfl, ?_⟩⟩ (K3))))))))) ?_
 ·
  refine D7 (aS rfl (aS rfl (a0))) kR (A5a hfb hfa _) rfl ?_
  rintro r M1 J1 ⟨rfl, rfl, hh⟩
  exact ⟨_, rfl, rfl, hh⟩
 ·
  refine D7 (aS rfl (aS rfl (a0))) kR (A5a h51 hc _) rfl ?_
  rintro r M1 J1 ⟨rfl, rfl, hh⟩
  exact ⟨_, rfl, rfl, hh⟩
 ·
  refine D7 (aS rfl (aS rfl (a0))) kR (A3Z h51 hc _) rfl ?_
  rintro r M1 J1 ⟨rfl, rfl, hh⟩
  exact ⟨_, rfl, rfl, hh⟩
 ·
  refine D7 (aS rfl (aS rfl (a0))) kR (A3Z hfb hfa _) rfl ?_
  rintro r M1 J1 ⟨rfl, rfl, hh⟩
  exact ⟨_, rfl, rfl, hh⟩
 ·
  exact C5 (cs := [A7, A7, A7, A7, A7]) kR rfl fun b => ⟨_, rfl, b, rfl, rfl⟩
 ·
  exact C5 (cs := [A7, A7, A7, A7, A7]) kR rfl fun b => ⟨_, rfl, b, rfl, rfl⟩
 ·
  exact C5 (cs := [A7, A7, A7, A7, A7]) kR rfl fun b => ⟨_, rfl, b, rfl, rfl⟩
 ·
  exact C5 (cs := [A7, A7, A7, A7, A7]) kR rfl fun b => ⟨_, rfl, b, rfl, rfl⟩
 intro vs bs Jn0 hφ
 have g2 := ofH hφ
 dsimp only at g2
 replace hφ := ofT hφ
 have g5 := ofH hφ
 dsimp only at g5
 replace hφ := ofT hφ
 have g8 := ofH hφ
 dsimp only at g8
 replace hφ := ofT hφ
 have g11 := ofH hφ
 dsimp only at g11
 replace hφ := ofT hφ
 have g12 := ofH hφ
 dsimp only at g12
 replace hφ := ofT hφ
 have g13 := ofH hφ
 dsimp only at g13
 replace hφ := ofT hφ
 have g14 := ofH hφ
 dsimp only at g14
 replace hφ := ofT hφ
 have g15 := ofH hφ
 dsimp only at g15
 clear hφ
 dsimp only [U0, P5, List.map, List.flatten, List.cons_append, List.nil_append]
 generalize bs 2 = B54 at *
 generalize bs 5 = B57 at *
 generalize bs 8 = B60 at *
 generalize bs 11 = B63 at *
 generalize bs 12 = B11 at *
 generalize bs 13 = B12 at *
 generalize bs 14 = B13 at *
 generalize bs 15 = B14 at *
 generalize vs 2 = u54 at *
 generalize vs 5 = u57 at *
 generalize vs 8 = u60 at *
 generalize vs 11 = u63 at *
 generalize vs 12 = u11 at *
 generalize vs 13 = u12 at *
 generalize vs 14 = u13 at *
 generalize vs 15 = u14 at *
 obtain ⟨rfl, k2⟩ := g2
 have h2 := k2
 obtain ⟨a2, b2, c2, d2, e2, rfl, -⟩ := k2
 obtain ⟨rfl, k5⟩ := g5
 have h5 := k5
 obtain ⟨a5, b5, c5, d5, e5, rfl, -⟩ := k5
 obtain ⟨rfl, k8⟩ := g8
 have h8 := k8
 obtain ⟨a8, b8, c8, d8, e8, rfl, -⟩ := k8
 obtain ⟨rfl, k11⟩ := g11
 have h11 := k11
 obtain ⟨a11, b11, c11, d11, e11, rfl, -⟩ := k11
 obtain ⟨b12, rfl, rfl⟩ := g12
 obtain ⟨b13, rfl, rfl⟩ := g13
 obtain ⟨b14, rfl, rfl⟩ := g14
 obtain ⟨b15, rfl, rfl⟩ := g15
 dsimp only [List.append_eq, List.nil_append, List.cons_append]
 refine G2 rfl rfl rfl (A8 rfl rfl Cel.cel kR ln5 al5 UpC.upd ?_)
 refine G2 rfl rfl rfl (A8 rfl rfl Cel.cel kR ln5 al5 UpC.upd ?_)
 refine G2 rfl rfl rfl (A8 rfl rfl Cel.cel kR ln5 al5 UpC.upd ?_)
 refine G2 rfl rfl rfl (A8 rfl rfl Cel.cel kR ln5 al5 UpC.upd ?_)
 refine E3 (F7 6 11 12 13 14) ?_
 refine D2 (.range 13) [(0, 1), (1, 1), (3, 1), (4, 1), (6, 1), (7, 1), (9, 1), (10, 1), (2, 2), (5, 2), (8, 2), (11, 2), (12, 0), (13, 2)] kR kR fun hs => ?_
 refine F6 hs rfl (qw_ 5) rfl ?_
 refine F6 hs rfl (qw_ 5) rfl ?_
 refine F6 hs rfl (qw_ 5) rfl ?_
 refine F6 hs rfl (qw_ 5) rfl ?_
 refine F6 hs rfl (qw_ 5) rfl ?_
 refine F6 hs rfl (qw_ 5) rfl ?_
 refine F6 hs rfl (qw_ 5) rfl ?_
 refine F6 hs rfl (qw_ 5) rfl ?_
 refine G1 rfl (aS rfl (aS rfl a0)) kR (R7 h2 h5 _) rfl ?_
 rintro r66 M66 J66 ⟨rfl, rfl, k66⟩
 have h66 := k66
 obtain ⟨a66, b66, c66, d66, e66, rfl, -⟩ := k66
 refine G1 rfl (aS rfl (aS rfl a0)) kR (R7 h8 h11 _) rfl ?_
 rintro r69 M69 J69 ⟨rfl, rfl, k69⟩
 have h69 := k69
 obtain ⟨a69, b69, c69, d69, e69, rfl, -⟩ := k69
 refine G1 rfl (aS rfl (aS rfl a0)) kR (R7 h5 h8 _) rfl ?_
 rintro r72 M72 J72 ⟨rfl, rfl, k72⟩
 have h72 := k72
 obtain ⟨a72, b72, c72, d72, e72, rfl, -⟩ := k72
 refine G1 rfl (aS rfl (aS rfl a0)) kR (R7 h2 h11 _) rfl ?_
 rintro r75 M75 J75 ⟨rfl, rfl, k75⟩
 have h75 := k75
 obtain ⟨a75, b75, c75, d75, e75, rfl, -⟩ := k75
 refine D1 hs rfl (F3 (place := fun x => #[(0, 5), (5, 5), (10, 5), (15, 5)][x]?) (z := [A7, A7, A7, A7, A7, A7, A7, A7, A7, A7, A7, A7, A7, A7, A7, A7, A7, A7, A7, A7]) (fun _ => by kernel_rfl) (eS rfl (eS rfl (eS rfl (eS rfl e0)))) (bdS 0 5 rfl (by rfl) (bdS 5 5 rfl (by rfl) (bdS 10 5 rfl (by rfl) (bdS 15 5 rfl (by rfl) bd0))))) rfl ?_
 refine G2 rfl rfl rfl (A8 rfl rfl Cel.cel kR A2L A2M UpC.upd ?_)
 refine E3 (D8 6) (C2 ?_)
 exact ⟨_, [], [], A1k rfl rfl kR At.mem (by rfl), List.nil_sublist _, by simp, rfl, rfl, ⟨_, rfl, _, _, _, _, _, _, _, _, _, _, _, _, _, _, _, _, _, _, _, _, rfl, h66, h69, h72, h75⟩⟩

end Go.Proofs.YthbhpfefdnffaaaGreatDoor
namespace Go.Px
structure Gv where
  i : Nat
  d : Nat
  m : Mem
  φ : Value → Mem → Mem → Prop
def B6C (G : List Gv) (vs : Nat → Value) : Env := G.map fun g => (g.d, vs g.i)
def toGM (G : List Gv) : List Gm := G.map fun g => ⟨g.i, g.d, fun _ _ => True⟩
def curM (X : List Nat) (bs : Nat → Mem) (G : List Gv) : Mem := (G.map fun g => if g.i ∈ X then bs g.i else g.m).flatten
def doneM (X : List Nat) (bs : Nat → Mem) (G : List Gv) : Mem := (G.map fun g => if g.i ∈ X then bs g.i else []).flatten
def allM (bs : Nat → Mem) (G : List Gv) : Mem := (G.map fun g => bs g.i).flatten
theorem St.widen {P : Program} {w w' : World} {F : List Nat} {A A' Mc M' J' : Mem} {n : Nat} (h : St ⟨P, w, F, A', n⟩ Mc [] w) (hs : St ⟨P, w, F, A, n⟩ M' J' w') : St ⟨P, w, F, A', n⟩ M' J' w' := by
  refine ⟨hs.os, hs.tape, hs.output, hs.size, hs.frame, fun b o hb => ?_, hs.nodup, hs.own, hs.sepJ, h.sepA, hs.old⟩
  simp only [List.mem_append] at hb
  rcases hb with hb | hb | hb
  · exact hs.mem b o (by simp [hb])
  · exact hs.mem b o (by simp [hb])
  · have h1 := h.sepA b o hb
    have h2 := hs.frame b h1.2 h1.1
    rw [h2]
    exact h.mem b o (by simp; exact .inr hb)
theorem St.less {P : Program} {w : World} {F : List Nat} {A A' Mc : Mem} {n : Nat} (h : St ⟨P, w, F, A', n⟩ Mc [] w) (hA : ∀ x ∈ A, x ∈ A') : St ⟨P, w, F, A, n⟩ Mc [] w :=
  ⟨h.os, h.tape, h.output, h.size, h.frame, fun b o hb => h.mem b o (by simp at hb ⊢; exact hb.imp id (hA _)), h.nodup, h.own, h.sepJ, fun b o hb => h.sepA b o (hA _ hb), h.old⟩
section group
variable {C : Cx} {Q : XQ} {l : Env} {M M0 J : Mem} {os : List Oper} {K : Nat → Prop} {n0 : Nat} {nd : List Nat} {plan : List (Nat × Nat)}
def OwesM (C : Cx) (os : List Oper) (l : Env) (M0 J : Mem) (G : List Gv) (g : Gv) : Prop :=
  ∃ o, nth os g.i = some o ∧ ∀ (vs : Nat → Value) (bs : Nat → Mem) (R Rj : Mem) (w : World), (∀ x ∈ M0 ++ (J ++ C.A), x ∈ R) → (∀ x ∈ J ++ C.A, x ∈ Rj) → (∀ x ∈ Rj, x ∈ R) → (∀ g' ∈ G, anc os.toArray os.toArray.size g.i g'.i = true → g'.φ (vs g'.i) (bs g'.i) Rj) →
    A83 os (B6C G vs ++ l) o ∧ OpL ⟨C.P, w, g.m.map Prod.fst, R, C.N⟩ o (B6C G vs ++ l) g.m [] (fun l' M' J' => ∃ v, l' = (g.d, v) :: (B6C G vs ++ l) ∧ g.φ v M' (J' ++ Rj))
end group
end Go.Px

