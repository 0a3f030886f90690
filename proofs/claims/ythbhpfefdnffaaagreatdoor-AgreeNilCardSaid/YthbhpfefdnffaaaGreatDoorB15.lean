/- Part 15 of the texts of this claim, one behind the other. -/
import Derived.Test.YthbhpfefdnffaaaGreatDoorB14
set_option linter.unusedVariables false
set_option linter.unusedSimpArgs false
set_option maxRecDepth 100000
namespace Go.Proofs.YthbhpfefdnffaaaGreatDoor
open Go.Px
theorem C0s {R : Mem} {v : Value} {w : List Nat} (h : By R v w) {k : Nat} (hk : k ≤ w.length) : By R (vHi k v) (w.take k) := ⟨by
  have h1 := h.rd.hiV k hk
  rw [Nat.mul_one, ← A0C] at h1
  rw [List.length_take, Nat.min_eq_left hk]
  exact h1, fun x hx => h.lt x (List.mem_of_mem_take hx), by rw [List.length_take]; have := h.len; omega⟩
theorem C0t {R : Mem} {v : Value} {w : List Nat} (h : By R v w) {k : Nat} (hk : k ≤ w.length) : By R (vLo k 1 v) (w.drop k) := ⟨by
  have h1 := h.rd.loV k hk
  rw [Nat.mul_one, ← Z4] at h1
  rw [List.length_drop]
  exact h1, fun x hx => h.lt x (List.mem_of_mem_drop hx), by rw [List.length_drop]; have := h.len; omega⟩
theorem B1f {p m s : List Nat} (h : ¬ s.length = 64) : A7c p m s = false := by
  unfold A7c; rw [decide_eq_false h, Bool.false_and]
theorem B6W {p m s : List Nat} (h : S6 p = none) : A7c p m s = false := by
  unfold A7c; rw [h, B3x, Bool.and_false]
theorem B6X {p m s : List Nat} (h : S6 (s.take 32) = none) : A7c p m s = false := by
  unfold A7c; rw [h, B3y, Bool.and_false]
theorem B8Y {p m s : List Nat} {a r : Pt} (h1 : S6 p = some a) (h2 : S6 (s.take 32) = some r) (h : ¬ A0x (bv (s.drop 32) % lN) 32 = s.drop 32) : A7c p m s = false := by
  unfold A7c; rw [h1, h2, A3x, decide_eq_false h, Bool.false_and, Bool.and_false]
theorem B8Z {p m s : List Nat} {a r : Pt} (h0 : s.length = 64) (h1 : S6 p = some a) (h2 : S6 (s.take 32) = some r) (h : A0x (bv (s.drop 32) % lN) 32 = s.drop 32) : A7c p m s = A69 (V1 pS (bv (s.drop 32) % lN)) (A6f d2N r (V1 a (A3R (s.take 32) p m))) := by
  unfold A7c; rw [decide_eq_true h0, h1, h2, A3x, decide_eq_true h, Bool.true_and, Bool.true_and]
theorem A8k {V : Value} {b : Bool} {w : List Nat} (h : (∃ P, S6 w = some P ∧ b = true ∧ FeP V P) ∨ (S6 w = none ∧ b = false ∧ FeP V pZ)) : ∃ P, FeP V P ∧ ((S6 w = some P ∧ b = true) ∨ (S6 w = none ∧ b = false)) := by
  rcases h with ⟨P, h1, h2, h3⟩ | ⟨h1, h2, h3⟩
  · exact ⟨P, h3, .inl ⟨h1, h2⟩⟩
  · exact ⟨_, h3, .inr ⟨h1, h2⟩⟩
theorem A8l (V : Value) (P : Pt) (n : Nat) (hP : FeP V P) (hn : n < lN) (A : Mem) : FnX Tryz.prog 140 [V, .agg (nums .u8 (A0x n 32)).toArray] [] A fun r M J => M = [] ∧ J = [] ∧ FeP r (V1 P n) := by
  have h := A47 V P (A0x n 32) hP (N6 _ _) (A49 _ _) A
  rwa [B6S hn] at h
theorem B1g {R : Mem} {v : Value} {w : List Nat} (h : By R v w) (hp : 0 < w.length) : ∃ (b o cap : Nat) (cs : List Value) (e : TypeId) (fr : Nat × Nat), v = .slice (some ⟨b, o, none⟩) w.length cap ∧ (b, Obj.cells cs.toArray e fr) ∈ R ∧ ∀ j u, (nums .u8 w)[j]? = some u → cs[o + j]? = some u := by
  obtain ⟨p, cap, hv, h1, h2, h3 | ⟨b, o, cs, e, fr, hb, hm, hg⟩⟩ := h.rd
  · omega
  · subst hb; exact ⟨b, o, cap, cs, e, fr, hv, hm, hg⟩
theorem B6Y (vp vm vs : Value) (wp wm ws : List Nat) (A : Mem) (hp : By A vp wp) (hm : By A vm wm) (hsg : By A vs ws) (hG : GlS A) : FnV Tryz.prog 107 [vp, vm, vs] A (.bool (A7c wp wm ws)) := by
  haveI := hp.cel
  haveI := hm.cel
  haveI := hsg.cel
  have hpl := hp.len
  have hml := hm.len
  have hsl := hsg.len
  refine FnX.enter (N := 64) Tryz.func107 rfl rfl rfl fun w => ?_
  refine C4 (E1 0 1 2) (A3 (as_ (A0 (E1 0 1 2) (A5 (A3 (mv_ ?_))))))
  refine A4 (H6 (sz := 1) rfl kR hsg.rd) rfl ?_
  refine A4 (F5 rfl rfl rfl) rfl ?_
  refine A0 (E9 0 1 2 17) ?_
  refine C7 rfl (fun hc => ?_) (fun hc => ?_)
  ·
    have h64 : ¬ ws.length = 64 := by simp at hc; omega
    refine A3 (as_ (A0 (D8 6) (C1 (tr ?_))))
    exact ⟨_, [], [], I2 rfl rfl, List.nil_sublist _, by simp, by rw [B1f h64], rfl, rfl⟩
  ·
    have h64 : ws.length = 64 := by simp at hc; omega
    have hr := C0s hsg (show 32 ≤ ws.length by omega)
    obtain ⟨vr, hvr⟩ : ∃ vr, vHi 32 vs = vr := ⟨_, rfl⟩
    rw [hvr] at hr
    haveI := hr.cel
    have hl := C0t hsg (show 32 ≤ ws.length by omega)
    obtain ⟨vl, hvl⟩ : ∃ vl, vLo 32 1 vs = vl := ⟨_, rfl⟩
    rw [hvl] at hl
    have hll : (ws.drop 32).length = 32 := by rw [List.length_drop]; omega
    obtain ⟨lb, lo, lcap, lcs, le_, lfr, rfl, hlm, hlg⟩ := B1g hl (by omega)
    haveI := hl.cel
    refine A9 (nx (E1 0 1 2) (A3 (mv_ ?_)))
    refine D0 (aS rfl a0) kR (B1b vp wp _ (hp.mono SubC.sub)) rfl ?_
    rintro r20 M20 J20 ⟨rfl, rfl, VA, bA, rfl, hA⟩
    obtain ⟨PA, hPA, hAb⟩ := A8k hA
    have hPA0 := hPA
    obtain ⟨xspa, rfl, pa0, pa1, pa2, pa3, pa4, pa5, pa6, pa7, pa8, pa9, pa10, pa11, pa12, pa13, pa14, pa15, pa16, pa17, pa18, pa19, rfl, hPAX, hPAY, hPAZ, hPAT⟩ := hPA
    dsimp only [nums, List.map]
    refine mv_ ?_
    refine A4 (A2I rfl) rfl ?_
    refine A4 (A2v rfl) rfl ?_
    refine A6 rfl (C5 (cs := [A7, A7, A7, A7, A7, A7, A7, A7, A7, A7, A7, A7, A7, A7, A7, A7, A7, A7, A7, A7]) kR rfl fun b7 => ?_)
    refine A6 rfl (A8 rfl rfl Cel.cel kR A2F A2G UpC.upd ?_)
    refine as_ (A0 (F9 0 1 2 7 8) (A3 (mv_ ?_)))
    refine A4 (hvr ▸ A7K (sz := 1) (a := 32) rfl rfl kR rfl hsg.rd (by omega)) rfl ?_
    refine D0 (aS rfl a0) kR (B1b vr (ws.take 32) _ (hr.mono SubC.sub)) rfl ?_
    rintro r26 M26 J26 ⟨rfl, rfl, VR, bR, rfl, hR⟩
    obtain ⟨PR, hPR, hRb⟩ := A8k hR
    have hPR0 := hPR
    obtain ⟨xspr, rfl, pr0, pr1, pr2, pr3, pr4, pr5, pr6, pr7, pr8, pr9, pr10, pr11, pr12, pr13, pr14, pr15, pr16, pr17, pr18, pr19, rfl, hPRX, hPRY, hPRZ, hPRT⟩ := hPR
    dsimp only [nums, List.map]
    refine mv_ ?_
    refine A4 (A2I rfl) rfl ?_
    refine A4 (A2v rfl) rfl ?_
    refine A6 rfl (C5 (cs := [A7, A7, A7, A7, A7, A7, A7, A7, A7, A7, A7, A7, A7, A7, A7, A7, A7, A7, A7, A7]) kR rfl fun b9 => ?_)
    refine A6 rfl (A8 rfl rfl Cel.cel kR A2F A2G UpC.upd ?_)
    refine as_ (A0 (X9 0 1 2 7 8 9 10) (A3 (mv_ ?_)))
    refine A4 (hvl ▸ A7L (sz := 1) (a := 32) rfl rfl kR rfl hsg.rd (by omega)) rfl ?_
    refine D0 (aS rfl a0) kR (A1R _ (ws.drop 32) _ (hl.rd.mono SubC.sub) hl.lt (by omega)) rfl ?_
    rintro r31 M31 J31 ⟨rfl, rfl, hq⟩
    have hz := hq
    obtain ⟨s, rfl, s8, s32, sv⟩ := hq
    refine A6 rfl (C5 (cs := [G8, G8, G8, G8, G8, G8, G8, G8]) kR rfl fun b11 => ?_)
    refine A6 rfl (A8 (vs := nums .u32 s) rfl rfl rfl (by rw [nums_len, s8]; kernel_rfl) (by rw [nums_len, s8]; rfl) F4 UpC.upd ?_)
    refine A0 (A12 0 1 2 7 8 9 10 11) (A3 ?_)
    refine A4 (H8 (n := 8) (cs := nums .u32 s) rfl kR At.mem (by rw [nums_len]; omega)) rfl ?_
    refine G1 (aS rfl a0) kR (A1S _ _ hz _) rfl ?_
    refine A6 rfl (C5 (cs := [zu8, zu8, zu8, zu8, zu8, zu8, zu8, zu8, zu8, zu8, zu8, zu8, zu8, zu8, zu8, zu8, zu8, zu8, zu8, zu8, zu8, zu8, zu8, zu8, zu8, zu8, zu8, zu8, zu8, zu8, zu8, zu8]) kR rfl fun b12 => ?_)
    refine A6 rfl (A8 (vs := nums .u8 (A0x (bv (ws.drop 32) % lN) 32)) rfl rfl rfl (by rw [nums_len, N6]; kernel_rfl) (by rw [nums_len, N6]; rfl) F4 UpC.upd ?_)
    refine A0 (A12 0 1 2 7 8 9 10 12) (A5 ?_)
    have h3 : (S6 wp = none ∧ bA = false) ∨ ((S6 wp = some PA ∧ bA = true) ∧ (S6 (ws.take 32) = none ∧ bR = false)) ∨ ((S6 wp = some PA ∧ bA = true) ∧ (S6 (ws.take 32) = some PR ∧ bR = true)) := by
      rcases hAb with h | h
      · rcases hRb with h2 | h2
        · exact .inr (.inr ⟨h, h2⟩)
        · exact .inr (.inl ⟨h, h2⟩)
      · exact .inl h
    clear hAb hRb
    rcases h3 with ⟨hA1, rfl⟩ | ⟨⟨hA1, rfl⟩, hR1, rfl⟩ | ⟨⟨hA1, rfl⟩, hR1, rfl⟩
    ·
      refine D3 (.range 14) (zp 0 [0, 0, 0, 0, 0, 0, 0, 1, 0, 0, 0, 1, 0, 0]) kR kR fun hs => ?_
      refine fm_ hs ?_
      refine D2 hs rfl (V3 rfl) rfl ?_
      refine fm_ hs ?_
      refine L5 hs ?_
      refine L5 hs ?_
      refine D2 hs rfl (D7 rfl rfl) rfl ?_
      refine fm_ hs ?_
      refine T9 hs ?_
      refine L5 hs ?_
      refine L5 hs ?_
      refine L5 hs ?_
      refine T9 hs ?_
      refine L5 hs ?_
      refine D2 hs rfl (D7 rfl rfl) rfl ?_
      refine E4 (X9 0 1 2 7 9 12 47) ?_
      refine E0 rfl ?_
      refine A3 (as_ (A0 (D8 6) (C1 (tr ?_))))
      exact ⟨_, [], [], I2 rfl rfl, List.nil_sublist _, by simp, by rw [B6W hA1], rfl, rfl⟩
    ·
      refine D3 (.range 14) (zp 0 [0, 0, 0, 0, 0, 0, 0, 1, 0, 0, 0, 1, 0, 0]) kR kR fun hs => ?_
      refine fm_ hs ?_
      refine D2 hs rfl (V3 rfl) rfl ?_
      refine fm_ hs ?_
      refine N4 hs rfl rfl rfl rfl qm_ rfl ?_
      refine N4 hs rfl rfl rfl rfl (V3 rfl) rfl ?_
      refine D2 hs rfl (E2 rfl rfl) rfl ?_
      refine fm_ hs ?_
      refine T9 hs ?_
      refine L5 hs ?_
      refine L5 hs ?_
      refine L5 hs ?_
      refine T9 hs ?_
      refine L5 hs ?_
      refine D2 hs rfl (D7 rfl rfl) rfl ?_
      refine E4 (X9 0 1 2 7 9 12 47) ?_
      refine E0 rfl ?_
      refine A3 (as_ (A0 (D8 6) (C1 (tr ?_))))
      exact ⟨_, [], [], I2 rfl rfl, List.nil_sublist _, by simp, by rw [B6X hR1], rfl, rfl⟩
    ·
      refine D3 (.range 14) (zp 0 [0, 0, 0, 0, 0, 0, 0, 1, 0, 0, 0, 1, 0, 0]) kR kR fun hs => ?_
      refine fm_ hs ?_
      refine D2 hs rfl (V3 rfl) rfl ?_
      refine fm_ hs ?_
      refine N4 hs rfl rfl rfl rfl qm_ rfl ?_
      refine N4 hs rfl rfl rfl rfl (V3 rfl) rfl ?_
      refine D2 hs rfl (E2 rfl rfl) rfl ?_
      refine fm_ hs ?_
      refine Z0 hs rfl rfl rfl rfl (H8 (n := 32) (cs := nums .u8 (A0x (bv (ws.drop 32) % lN) 32)) rfl kR At.mem (by rw [nums_len, N6])) rfl ?_
      refine N4 hs rfl rfl rfl rfl qm_ rfl ?_
      refine N4 hs rfl rfl rfl rfl (hvl ▸ A7L (sz := 1) (a := 32) rfl rfl kR rfl hsg.rd (by omega)) rfl ?_
      refine N4 hs rfl rfl rfl rfl (B3B (k := .u8) (n := 32) rfl kR (by omega)) rfl ?_
      refine Z0 hs rfl rfl rfl rfl (H2 (n := 32) (vs := nums .u8 (ws.drop 32)) rfl kR (mA hlm) ⟨by rw [nums_len]; omega, hlg⟩) rfl ?_
      refine N4 hs rfl rfl rfl rfl (B6P (n := 32) (k := .u8) rfl rfl kR kR (N6 _ _) (by omega)) rfl ?_
      refine D2 hs rfl (E2 rfl rfl) rfl ?_
      refine E4 (X9 0 1 2 7 9 12 47) ?_
      refine C7 rfl (fun hc => ?_) (fun hc => ?_)
      ·
        have hne : ¬ A0x (bv (ws.drop 32) % lN) 32 = ws.drop 32 := by simpa using hc
        refine A3 (as_ (A0 (D8 6) (C1 (tr ?_))))
        exact ⟨_, [], [], I2 rfl rfl, List.nil_sublist _, by simp, by rw [B8Y hA1 hR1 hne], rfl, rfl⟩
      ·
        have hne : A0x (bv (ws.drop 32) % lN) 32 = ws.drop 32 := by simpa using hc
        refine A9 (nx (I4 0 1 2 7 9 12) ?_)
        refine D3 [0, 1, 2, 3] [(1, 1), (0, 3), (2, 3), (3, 4), (4, 2)] kR kR fun hs => ?_
        refine F8 hs rfl (H8 (n := 32) (cs := nums .u8 (A0x (bv (ws.drop 32) % lN) 32)) rfl kR At.mem (by rw [nums_len, N6])) rfl ?_
        refine N2 [⟨0, 48, fun v B _ => B = [] ∧ FeP v pS⟩, ⟨2, 50, fun v B _ => B = [] ∧ FeP v (V1 pS (bv (ws.drop 32) % lN))⟩, ⟨3, 13, fun v B _ => ∃ b, v = .pointer (some ⟨b, 0, none⟩) ∧ B = [(b, blk [.int .u64 0, .int .u64 0, .int .u64 0, .int .u64 0, .int .u64 0, .int .u64 0, .int .u64 0, .int .u64 0, .int .u64 0, .int .u64 0, .int .u64 0, .int .u64 0, .int .u64 0, .int .u64 0, .int .u64 0, .int .u64 0, .int .u64 0, .int .u64 0, .int .u64 0, .int .u64 0] 218)]⟩]
          (C3 (fun _ _ _ _ _ h => h) (C3 (fun _ _ _ _ _ h => h) (C3 (fun _ _ _ _ _ h => h) (L1)))) (show List.Nodup [48, 50, 13] by decide) (show List.Nodup [0, 2, 3] by decide) (C3 (C9 rfl) (C3 (C9 rfl) (C3 (C9 rfl) (L1))))
          (C3 ⟨_, rfl, fun vs bs R w hb ha => ⟨.inl rfl, ?_⟩⟩ (C3 ⟨_, rfl, fun vs bs R w hb ha => ⟨.inl rfl, ?_⟩⟩ (C3 ⟨_, rfl, fun vs bs R w hb ha => ⟨.inl rfl, ?_⟩⟩ (L1)))) ?_
        ·
          refine D5 (a0) kR (A66 _) rfl ?_
          rintro r M1 J1 ⟨rfl, rfl, hh⟩
          exact ⟨_, rfl, rfl, hh⟩
        ·
          have g0 := ha _ (List.mem_of_getElem? (i := 0) rfl) kR
          replace g0 : (fun v B _ => B = [] ∧ FeP v pS) (vs 0) (bs 0) R := g0
          dsimp only at g0
          obtain ⟨-, k0⟩ := g0
          refine D5 (aS rfl (aS rfl (a0))) kR (A8l _ pS (bv (ws.drop 32) % lN) k0 (Nat.mod_lt _ A4i) _) rfl ?_
          rintro r M1 J1 ⟨rfl, rfl, hh⟩
          exact ⟨_, rfl, rfl, hh⟩
        ·
          exact C5 (cs := [A7, A7, A7, A7, A7, A7, A7, A7, A7, A7, A7, A7, A7, A7, A7, A7, A7, A7, A7, A7]) kR rfl fun b => ⟨_, rfl, b, rfl, rfl⟩
        intro vs bs Jn0 hφ
        have g0 := ofH hφ
        dsimp only at g0
        replace hφ := ofT hφ
        have g2 := ofH hφ
        dsimp only at g2
        replace hφ := ofT hφ
        have g3 := ofH hφ
        dsimp only at g3
        clear hφ
        dsimp only [P3, H9, List.map, List.flatten, List.cons_append, List.nil_append]
        generalize bs 0 = B48 at *
        generalize bs 2 = B50 at *
        generalize bs 3 = B13 at *
        generalize vs 0 = u48 at *
        generalize vs 2 = u50 at *
        generalize vs 3 = u13 at *
        obtain ⟨rfl, -⟩ := g0
        obtain ⟨rfl, hL⟩ := g2
        obtain ⟨b13, rfl, rfl⟩ := g3
        have hL0 := hL
        obtain ⟨xspl, rfl, pl0, pl1, pl2, pl3, pl4, pl5, pl6, pl7, pl8, pl9, pl10, pl11, pl12, pl13, pl14, pl15, pl16, pl17, pl18, pl19, rfl, hLX, hLY, hLZ, hLT⟩ := hL
        dsimp only [nums, List.map]
        dsimp only [List.append_eq, List.nil_append, List.cons_append]
        refine G5 rfl rfl rfl (A8 rfl rfl Cel.cel kR A2F A2G UpC.upd ?_)
        refine E4 (I4 0 1 2 7 9 13) ?_
        refine D3 (.range 11) (zp 0 [1, 1, 0, 0, 0, 0, 3, 3, 3, 3, 4, 2]) kR kR fun hs => ?_
        refine F8 hs rfl (qw_ 20) rfl ?_
        refine F8 hs rfl (qw_ 20) rfl ?_
        refine fm_ hs ?_
        refine D2 hs rfl (hvr ▸ A7K (sz := 1) (a := 32) rfl rfl kR rfl hsg.rd (by omega)) rfl ?_
        refine fm_ hs ?_
        refine fm_ hs ?_
        refine N2 [⟨6, 57, fun v B _ => B = [] ∧ Sc v (A3R (ws.take 32) wp wm)⟩, ⟨7, 58, fun v B _ => B = [] ∧ v = .agg (nums .u8 (A0x (A3R (ws.take 32) wp wm) 32)).toArray⟩, ⟨8, 59, fun v B _ => B = [] ∧ FeP v (V1 PA (A3R (ws.take 32) wp wm))⟩, ⟨9, 60, fun v B _ => B = [] ∧ FeP v (A6f d2N PR (V1 PA (A3R (ws.take 32) wp wm)))⟩, ⟨10, 14, fun v B _ => ∃ b, v = .pointer (some ⟨b, 0, none⟩) ∧ B = [(b, blk [.int .u64 0, .int .u64 0, .int .u64 0, .int .u64 0, .int .u64 0, .int .u64 0, .int .u64 0, .int .u64 0, .int .u64 0, .int .u64 0, .int .u64 0, .int .u64 0, .int .u64 0, .int .u64 0, .int .u64 0, .int .u64 0, .int .u64 0, .int .u64 0, .int .u64 0, .int .u64 0] 218)]⟩]
          (C3 (fun _ _ _ _ _ h => h) (C3 (fun _ _ _ _ _ h => h) (C3 (fun _ _ _ _ _ h => h) (C3 (fun _ _ _ _ _ h => h) (C3 (fun _ _ _ _ _ h => h) (L1)))))) (show List.Nodup [57, 58, 59, 60, 14] by decide) (show List.Nodup [6, 7, 8, 9, 10] by decide) (C3 (C9 rfl) (C3 (C9 rfl) (C3 (C9 rfl) (C3 (C9 rfl) (C3 (C9 rfl) (L1))))))
          (C3 ⟨_, rfl, fun vs bs R w hb ha => ⟨.inl rfl, ?_⟩⟩ (C3 ⟨_, rfl, fun vs bs R w hb ha => ⟨.inl rfl, ?_⟩⟩ (C3 ⟨_, rfl, fun vs bs R w hb ha => ⟨.inl rfl, ?_⟩⟩ (C3 ⟨_, rfl, fun vs bs R w hb ha => ⟨.inl rfl, ?_⟩⟩ (C3 ⟨_, rfl, fun vs bs R w hb ha => ⟨.inl rfl, ?_⟩⟩ (L1)))))) ?_
        ·
          refine D5 (aS rfl (aS rfl (aS rfl (a0)))) kR (A3z _ _ _ (ws.take 32) wp wm _ (hr.mono fun x hx => hb _ (SubC.sub x hx)) (hp.mono fun x hx => hb _ (SubC.sub x hx)) (hm.mono fun x hx => hb _ (SubC.sub x hx)) (hG.sub fun x hx => hb _ (mA hx))) rfl ?_
          rintro r M1 J1 ⟨rfl, rfl, hh⟩
          exact ⟨_, rfl, rfl, hh⟩
        ·
          have g6 := ha _ (List.mem_of_getElem? (i := 0) rfl) kR
          replace g6 : (fun v B _ => B = [] ∧ Sc v (A3R (ws.take 32) wp wm)) (vs 6) (bs 6) R := g6
          dsimp only at g6
          obtain ⟨-, k6⟩ := g6
          exact T3 (aS rfl a0) kR (A1S _ _ k6 _) rfl ⟨_, rfl, rfl, rfl⟩
        ·
          have g7 := ha _ (List.mem_of_getElem? (i := 1) rfl) kR
          replace g7 : (fun v B _ => B = [] ∧ v = .agg (nums .u8 (A0x (A3R (ws.take 32) wp wm) 32)).toArray) (vs 7) (bs 7) R := g7
          dsimp only at g7
          obtain ⟨-, k7⟩ := g7
          refine D5 (vs := [_, .agg (nums .u8 (A0x (A3R (ws.take 32) wp wm) 32)).toArray]) (aS rfl (aS (by rw [← k7]; rfl) a0)) kR (A8l _ PA (A3R (ws.take 32) wp wm) hPA0 (B07 _ _ _) _) rfl ?_
          rintro r M1 J1 ⟨rfl, rfl, hh⟩
          exact ⟨_, rfl, rfl, hh⟩
        ·
          have g8 := ha _ (List.mem_of_getElem? (i := 2) rfl) kR
          replace g8 : (fun v B _ => B = [] ∧ FeP v (V1 PA (A3R (ws.take 32) wp wm))) (vs 8) (bs 8) R := g8
          dsimp only at g8
          obtain ⟨-, k8⟩ := g8
          refine D5 (aS rfl (aS rfl (a0))) kR (B6T _ _ PR _ hPR0 k8 _) rfl ?_
          rintro r M1 J1 ⟨rfl, rfl, hh⟩
          exact ⟨_, rfl, rfl, hh⟩
        ·
          exact C5 (cs := [A7, A7, A7, A7, A7, A7, A7, A7, A7, A7, A7, A7, A7, A7, A7, A7, A7, A7, A7, A7]) kR rfl fun b => ⟨_, rfl, b, rfl, rfl⟩
        intro vs bs Jn0 hφ
        have g6 := ofH hφ
        dsimp only at g6
        replace hφ := ofT hφ
        have g7 := ofH hφ
        dsimp only at g7
        replace hφ := ofT hφ
        have g8 := ofH hφ
        dsimp only at g8
        replace hφ := ofT hφ
        have g9 := ofH hφ
        dsimp only at g9
        replace hφ := ofT hφ
        have g10 := ofH hφ
        dsimp only at g10
        clear hφ
        dsimp only [P3, H9, List.map, List.flatten, List.cons_append, List.nil_append]
        generalize bs 6 = B57 at *
        generalize bs 7 = B58 at *
        generalize bs 8 = B59 at *
        generalize bs 9 = B60 at *
        generalize bs 10 = B14 at *
        generalize vs 6 = u57 at *
        generalize vs 7 = u58 at *
        generalize vs 8 = u59 at *
        generalize vs 9 = u60 at *
        generalize vs 10 = u14 at *
        obtain ⟨rfl, -⟩ := g6
        obtain ⟨rfl, -⟩ := g7
        obtain ⟨rfl, -⟩ := g8
        obtain ⟨rfl, hU⟩ := g9
        obtain ⟨b14, rfl, rfl⟩ := g10
        have hU0 := hU
        obtain ⟨xspu, rfl, pu0, pu1, pu2, pu3, pu4, pu5, pu6, pu7, pu8, pu9, pu10, pu11, pu12, pu13, pu14, pu15, pu16, pu17, pu18, pu19, rfl, hUX, hUY, hUZ, hUT⟩ := hU
        dsimp only [nums, List.map]
        dsimp only [List.append_eq, List.nil_append, List.cons_append]
        refine G5 rfl rfl rfl (A8 rfl rfl Cel.cel kR A2F A2G UpC.upd ?_)
        refine E4 (D4 13 14) (A3 ?_)
        refine A4 (qw_ 20) rfl ?_
        refine A4 (qw_ 20) rfl ?_
        refine G1 (aS rfl (aS rfl a0)) kR (B6U _ _ _ _ hL0 hU0 _) rfl ?_
        refine as_ (A0 (D8 6) (C1 ?_))
        exact ⟨_, [], [], I2 rfl rfl, List.nil_sublist _, by simp, by rw [B8Z h64 hA1 hR1 hne], rfl, rfl⟩

theorem Glb.s {A : Mem} (h : Glb A) : GlS A := ⟨h.first, h.round⟩
def K5 (s : Ps) (w : List Nat) : Ps := if s.real then s else B0u s w
noncomputable def P0 (s : Ps) (w : List Nat) : List Nat := if s.real then A0e (T8 w 32) else B2V s w
noncomputable def B7K (s : Ps) (w : List Nat) : List Nat := if s.real then A5q (T8 w 32) else B2V s w
def L7 (s : Ps) (w u : List Nat) : Ps := if s.real then s else B6j s w u
noncomputable def A3A (s : Ps) (w u : List Nat) : List Nat := if s.real then x25 (T8 w 32) (T8 u 32) else B7G s w u
def A5h (s : Ps) (w m : List Nat) : Ps := if s.real then s else B2c s w fun x => A3L x m
noncomputable def B2g (s : Ps) (w m : List Nat) : List Nat := if s.real then A7b (T8 w 32) m else T8 (B7H s w fun x => A3L x m) 64
theorem B83 (s m : List Nat) : ∀ x ∈ A7b s m, x < 256 := by
  intro x hx
  rcases List.mem_append.1 hx with h | h
  · exact B3q _ x h
  · exact A49 _ _ x h
theorem B84 (v vm : Value) (ws wm : List Nat) (A : Mem) (hv : By A v ws) (hm : By A vm wm) (hG : GlS A) : FnX Tryz.prog 114 [v, vm] [] A fun r M J => M = [] ∧ By J r (A7b ws wm) :=
  ((B8X v vm ws wm A hv hm hG).frz0).mono fun r M J ⟨h1, h2⟩ => ⟨h1, B3C h2 (A5e _ _).symm (B83 _ _) (by rw [A5e]; decide) fun _ h => h⟩
theorem B3H (pb : Nat) (s : Ps) (hr : s.real = true) (v : Value) (w : List Nat) (MP A : Mem) (hP : Prm pb s MP) (hv : By A v w) : FnX Tryz.prog 17 [.pointer (some ⟨pb, 0, none⟩), v] MP A fun q M J => Prm pb s M ∧ By J q (A0e (T8 w 32)) := by
 obtain ⟨sv, bt, bm, B, MT, rfl, hby, hT⟩ := hP.ex
 haveI := hv.cel
 haveI := hby.cel
 have hvl := hv.len
 refine FnX.enterZ (N := 26) Tryz.func17 rfl rfl rfl fun w_ => ?_
 refine C4 (D4 0 1) (A3 (as_ (A0 (D4 0 1) (A5 (A3 (mv_ ?_))))))
 refine A4 (E6 (e := 117) rfl rfl kR) rfl ?_
 refine A0 (E1 0 1 6) ?_
 refine D6 rfl ?_
 refine A9 (nx (D4 0 1) (A5 (A3 (mv_ ?_))))
 refine A4 (G6 rfl) rfl ?_
 refine A4 (qf_ 0 0) rfl ?_
 refine A4 ql_ rfl ?_
 refine A4 (E7 true rfl rfl (eqT (by rw [hr]; rfl))) rfl ?_
 refine A0 (E1 0 1 11) ?_
 refine E0 rfl ?_
 refine A3 (mv_ ?_)
 refine D0 (aS rfl (aS rfl a0)) kR (Y5 v w 32 _ (hv.mono SubC.sub) (by decide)) rfl ?_
 rintro r13 M13 J13 ⟨rfl, h13⟩
 haveI := h13.cel
 refine D0 (aS rfl a0) kR (B8W _ _ _ (h13.mono SubC.sub)) rfl ?_
 rintro r14 M14 J14 ⟨rfl, h14⟩
 haveI := h14.cel
 refine as_ (A0 (D8 4) (C1 (tr ?_)))
 exact ⟨_, (pb, blk [.int .u8 (md s.real), sv, .int .i64 (((s.n : Nat) : Int)), .pointer (some ⟨bt, 0, none⟩)] 117) :: (B ++ MT), [], I2 rfl rfl, (Fit.none (Fit.pick (B := [_]) PickC.perm (Fit.pick PickC.perm (Fit.last PickC.perm)))), ⟨sv, bt, bm, B, MT, rfl, hby, hT⟩, h14.mono SubC.sub⟩
theorem B1h (pb : Nat) (s : Ps) (hr : s.real = true) (v : Value) (w : List Nat) (MP A : Mem) (hP : Prm pb s MP) (hv : By A v w) (hG : Glb A) : FnX Tryz.prog 59 [.pointer (some ⟨pb, 0, none⟩), v] MP A fun q M J => Prm pb s M ∧ By J q (A5q (T8 w 32)) := by
 obtain ⟨sv, bt, bm, B, MT, rfl, hby, hT⟩ := hP.ex
 haveI := hv.cel
 haveI := hby.cel
 have hvl := hv.len
 refine FnX.enterZ (N := 18) Tryz.func59 rfl rfl rfl fun w_ => ?_
 refine C4 (D4 0 1) (A3 (as_ (A0 (D4 0 1) (A5 (A3 (mv_ ?_))))))
 refine A4 (E6 (e := 117) rfl rfl kR) rfl ?_
 refine A0 (E1 0 1 6) ?_
 refine D6 rfl ?_
 refine A9 (nx (D4 0 1) (A5 (A3 (mv_ ?_))))
 refine A4 (G6 rfl) rfl ?_
 refine A4 (qf_ 0 0) rfl ?_
 refine A4 ql_ rfl ?_
 refine A4 (E7 true rfl rfl (eqT (by rw [hr]; rfl))) rfl ?_
 refine A0 (E1 0 1 11) ?_
 refine E0 rfl ?_
 refine A3 (mv_ ?_)
 refine D0 (aS rfl (aS rfl a0)) kR (Y5 v w 32 _ (hv.mono SubC.sub) (by decide)) rfl ?_
 rintro r13 M13 J13 ⟨rfl, h13⟩
 haveI := h13.cel
 refine D0 (aS rfl a0) kR (A8j _ _ _ (h13.mono SubC.sub) hG.s.up) rfl ?_
 rintro r14 M14 J14 ⟨rfl, h14⟩
 haveI := h14.cel
 refine as_ (A0 (D8 4) (C1 (tr ?_)))
 exact ⟨_, (pb, blk [.int .u8 (md s.real), sv, .int .i64 (((s.n : Nat) : Int)), .pointer (some ⟨bt, 0, none⟩)] 117) :: (B ++ MT), [], I2 rfl rfl, (Fit.none (Fit.pick (B := [_]) PickC.perm (Fit.pick PickC.perm (Fit.last PickC.perm)))), ⟨sv, bt, bm, B, MT, rfl, hby, hT⟩, h14.mono SubC.sub⟩
theorem B6Z (pb : Nat) (s : Ps) (hr : s.real = true) (v v2 : Value) (w u : List Nat) (MP A : Mem) (hP : Prm pb s MP) (hv : By A v w) (hu : By A v2 u) : FnX Tryz.prog 60 [.pointer (some ⟨pb, 0, none⟩), v, v2] MP A fun q M J => Prm pb s M ∧ By J q (x25 (T8 w 32) (T8 u 32)) := by
 obtain ⟨sv, bt, bm, B, MT, rfl, hby, hT⟩ := hP.ex
 haveI := hv.cel
 haveI := hby.cel
 have hvl := hv.len
 haveI := hu.cel
 refine FnX.enterZ (N := 31) Tryz.func60 rfl rfl rfl fun w_ => ?_
 refine C4 (E1 0 1 2) (A3 (as_ (A0 (E1 0 1 2) (A5 (A3 (mv_ ?_))))))
 refine A4 (E6 (e := 117) rfl rfl kR) rfl ?_
 refine A0 (E9 0 1 2 8) ?_
 refine D6 rfl ?_
 refine A9 (nx (E1 0 1 2) (A5 (A3 (mv_ ?_))))
 refine A4 (G6 rfl) rfl ?_
 refine A4 (qf_ 0 0) rfl ?_
 refine A4 ql_ rfl ?_
 refine A4 (E7 true rfl rfl (eqT (by rw [hr]; rfl))) rfl ?_
 refine A0 (E9 0 1 2 13) ?_
 refine E0 rfl ?_
 refine A3 (mv_ ?_)
 refine D0 (aS rfl (aS rfl a0)) kR (Y5 v w 32 _ (hv.mono SubC.sub) (by decide)) rfl ?_
 rintro r15 M15 J15 ⟨rfl, h15⟩
 haveI := h15.cel
 refine mv_ ?_
 refine D0 (aS rfl (aS rfl a0)) kR (Y5 v2 u 32 _ (hu.mono SubC.sub) (by decide)) rfl ?_
 rintro r17 M17 J17 ⟨rfl, h17⟩
 haveI := h17.cel
 refine D0 (aS rfl (aS rfl a0)) kR (B5j _ _ _ _ _ (h15.mono SubC.sub) (h17.mono SubC.sub)) rfl ?_
 rintro r18 M18 J18 ⟨rfl, h18⟩
 haveI := h18.cel
 refine as_ (A0 (D8 6) (C1 (tr ?_)))
 exact ⟨_, (pb, blk [.int .u8 (md s.real), sv, .int .i64 (((s.n : Nat) : Int)), .pointer (some ⟨bt, 0, none⟩)] 117) :: (B ++ MT), [], I2 rfl rfl, (Fit.none (Fit.pick (B := [_]) PickC.perm (Fit.pick PickC.perm (Fit.last PickC.perm)))), ⟨sv, bt, bm, B, MT, rfl, hby, hT⟩, h18.mono SubC.sub⟩
theorem B66 (pb : Nat) (s : Ps) (hr : s.real = true) (v v2 : Value) (w u : List Nat) (MP A : Mem) (hP : Prm pb s MP) (hv : By A v w) (hu : By A v2 u) (hG : Glb A) : FnX Tryz.prog 68 [.pointer (some ⟨pb, 0, none⟩), v, v2] MP A fun q M J => Prm pb s M ∧ By J q (A7b (T8 w 32) u) := by
 obtain ⟨sv, bt, bm, B, MT, rfl, hby, hT⟩ := hP.ex
 haveI := hv.cel
 haveI := hby.cel
 have hvl := hv.len
 haveI := hu.cel
 refine FnX.enterZ (N := 32) Tryz.func68 rfl rfl rfl fun w_ => ?_
 refine C4 (E1 0 1 2) (A3 (as_ (A0 (E1 0 1 2) (A5 (A3 (mv_ ?_))))))
 refine A4 (E6 (e := 117) rfl rfl kR) rfl ?_
 refine A0 (E9 0 1 2 8) ?_
 refine D6 rfl ?_
 refine A9 (nx (E1 0 1 2) (A5 (A3 (mv_ ?_))))
 refine A4 (G6 rfl) rfl ?_
 refine A4 (qf_ 0 0) rfl ?_
 refine A4 ql_ rfl ?_
 refine A4 (E7 true rfl rfl (eqT (by rw [hr]; rfl))) rfl ?_
 refine A0 (E9 0 1 2 13) ?_
 refine E0 rfl ?_
 refine A3 (mv_ ?_)
 refine D0 (aS rfl (aS rfl a0)) kR (Y5 v w 32 _ (hv.mono SubC.sub) (by decide)) rfl ?_
 rintro r15 M15 J15 ⟨rfl, h15⟩
 haveI := h15.cel
 refine mv_ ?_
 refine D0 (aS rfl (aS rfl a0)) kR (B84 _ _ _ _ _ (h15.mono SubC.sub) (hu.mono SubC.sub) hG.s.up) rfl ?_
 rintro r17 M17 J17 ⟨rfl, h17⟩
 haveI := h17.cel
 refine as_ (A0 (D8 6) (C1 (tr ?_)))
 exact ⟨_, (pb, blk [.int .u8 (md s.real), sv, .int .i64 (((s.n : Nat) : Int)), .pointer (some ⟨bt, 0, none⟩)] 117) :: (B ++ MT), [], I2 rfl rfl, (Fit.none (Fit.pick (B := [_]) PickC.perm (Fit.pick PickC.perm (Fit.last PickC.perm)))), ⟨sv, bt, bm, B, MT, rfl, hby, hT⟩, h17.mono SubC.sub⟩
theorem B1i (pb : Nat) (s : Ps) (hr : s.real = false) (v : Value) (w : List Nat) (MP A : Mem) (hP : Prm pb s MP) (hv : By A v w) (hn : s.ts.length < 1048576) (hG : Glb A) : FnX Tryz.prog 59 [.pointer (some ⟨pb, 0, none⟩), v] MP A fun q M J => Prm pb (B0u s w) M ∧ By J q (B2V s w) := by
 obtain ⟨sv, bt, bm, B, MT, rfl, hby, hT⟩ := hP.ex
 haveI := hv.cel
 haveI := hby.cel
 have hvl := hv.len
 refine FnX.enterZ (N := 18) Tryz.func59 rfl rfl rfl fun w_ => ?_
 refine C4 (D4 0 1) (A3 (as_ (A0 (D4 0 1) (A5 (A3 (mv_ ?_))))))
 refine A4 (E6 (e := 117) rfl rfl kR) rfl ?_
 refine A0 (E1 0 1 6) ?_
 refine D6 rfl ?_
 refine A9 (nx (D4 0 1) (A5 (A3 (mv_ ?_))))
 refine A4 (G6 rfl) rfl ?_
 refine A4 (qf_ 0 0) rfl ?_
 refine A4 ql_ rfl ?_
 refine A4 (E7 false rfl rfl (eqF (by rw [hr]; decide))) rfl ?_
 refine A0 (E1 0 1 11) ?_
 refine D6 rfl ?_
 refine A9 (nx (D4 0 1) (A3 (mv_ (mv_ ?_))))
 refine A6 rfl (F2 (Mc := (pb, blk [.int .u8 (md s.real), sv, .int .i64 (((s.n : Nat) : Int)), .pointer (some ⟨bt, 0, none⟩)] 117) :: (B ++ MT)) (R := _) (aS rfl (aS rfl a0)) kR PickC.perm (A71 pb s hr v w _ _ ⟨sv, bt, bm, B, MT, rfl, hby, hT⟩ hn (hv.mono SubC.sub) hG.up) rfl ?_)
 rintro v17 M17 J17 ⟨hP17, h17⟩
 haveI := h17.cel
 refine as_ (A0 (D8 4) (C1 ?_))
 exact ⟨_, M17, [], I2 rfl rfl, Fit.none (Fit.last PickC.perm), hP17, h17.mono SubC.sub⟩
theorem A1V (pb : Nat) (s : Ps) (v : Value) (w : List Nat) (MP A : Mem) (hP : Prm pb s MP) (hn : s.ts.length < 1048576) (hv : By A v w) (hG : Glb A) : FnX Tryz.prog 17 [.pointer (some ⟨pb, 0, none⟩), v] MP A fun q M J => Prm pb (K5 s w) M ∧ By J q (P0 s w) := by
  cases hr : s.real with
  | true => unfold K5 P0; rw [hr]; exact B3H pb s hr v w MP A hP hv
  | false => unfold K5 P0; rw [hr]; exact A71 pb s hr v w MP A hP hn hv hG
theorem B1j (pb : Nat) (s : Ps) (v : Value) (w : List Nat) (MP A : Mem) (hP : Prm pb s MP) (hn : s.ts.length < 1048576) (hv : By A v w) (hG : Glb A) : FnX Tryz.prog 59 [.pointer (some ⟨pb, 0, none⟩), v] MP A fun q M J => Prm pb (K5 s w) M ∧ By J q (B7K s w) := by
  cases hr : s.real with
  | true => unfold K5 B7K; rw [hr]; exact B1h pb s hr v w MP A hP hv hG
  | false => unfold K5 B7K; rw [hr]; exact B1i pb s hr v w MP A hP hv hn hG
theorem A0M (pb : Nat) (s : Ps) (v v2 : Value) (w u : List Nat) (MP A : Mem) (hP : Prm pb s MP) (hn : s.ts.length + 1 < 1048576) (hv : By A v w) (hu : By A v2 u) (hG : Glb A) : FnX Tryz.prog 60 [.pointer (some ⟨pb, 0, none⟩), v, v2] MP A fun q M J => Prm pb (L7 s w u) M ∧ By J q (A3A s w u) := by
  cases hr : s.real with
  | true => unfold L7 A3A; rw [hr]; exact B6Z pb s hr v v2 w u MP A hP hv hu
  | false => unfold L7 A3A; rw [hr]; exact B2W pb s hr v v2 w u MP A hP hn hv hu hG
theorem B67 (pb : Nat) (s : Ps) (v v2 : Value) (w m : List Nat) (MP A : Mem) (hP : Prm pb s MP) (hn : s.ts.length < 1048576) (hv : By A v w) (hm : By A v2 m) (hG : Glb A) : FnX Tryz.prog 68 [.pointer (some ⟨pb, 0, none⟩), v, v2] MP A fun q M J => Prm pb (A5h s w m) M ∧ By J q (B2g s w m) := by
  cases hr : s.real with
  | true => unfold A5h B2g; rw [hr]; exact B66 pb s hr v v2 w m MP A hP hv hm hG
  | false =>
    unfold A5h B2g; rw [hr]
    obtain ⟨bt, bm, h⟩ := hP.t
    exact (B0v pb bt bm s hr v v2 w m MP A h hn hv hm hG).mono fun q M J ⟨h1, h2⟩ => ⟨h1.p, h2⟩

structure Ext (s s' : Ps) : Prop where
  p : Pext s s'
  seed : s'.seed = s.seed
  n : s.n ≤ s'.n
theorem Ext.refl (s : Ps) : Ext s s := ⟨Pext.refl s, rfl, Nat.le_refl _⟩
theorem Ext.trans {a b c : Ps} (h : Ext a b) (h' : Ext b c) : Ext a c := ⟨h.p.trans h'.p, h'.seed.trans h.seed, Nat.le_trans h.n h'.n⟩
theorem A7h (ts : List Tm) (t : Tm) : ∃ l, add ts t = ts ++ l := by
  unfold add
  split
  · exact ⟨[], by simp⟩
  · exact ⟨_, rfl⟩
theorem A1r (ts : List Tm) (w : List Nat) : ∃ l, rdT ts w = ts ++ l := by
  cases hp : plc w ts.length with
  | some j => exact ⟨[], by rw [(U6 hp).1]; simp⟩
  | none => rw [(V7 hp).1]; exact A7h _ _
theorem A8m (ts : List Tm) (w : List Nat) (t : Tm) : ∃ l, add (rdT ts w) t = ts ++ l := by
  obtain ⟨l1, e1⟩ := A1r ts w
  obtain ⟨l2, e2⟩ := A7h (rdT ts w) t
  exact ⟨l1 ++ l2, by rw [e2, e1, List.append_assoc]⟩
theorem Y8 (s : Ps) : Ext s (D9 s) := ⟨A53 s, by unfold D9; split <;> rfl, by unfold D9; split <;> exact Nat.le_succ _⟩
theorem A1d (s : Ps) (w : List Nat) : Ext s (K5 s w) := by
  unfold K5
  split
  · exact Ext.refl s
  · exact ⟨⟨rfl, A8m _ _ _⟩, rfl, Nat.le_refl _⟩
theorem B5k (s : Ps) (w m : List Nat) : Ext s (A5h s w m) := by
  unfold A5h
  split
  · exact Ext.refl s
  · exact ⟨⟨rfl, A8m _ _ _⟩, rfl, Nat.le_refl _⟩
theorem B85 {s : Ps} {i : Nat} (hi : i < s.ts.length) (hl : s.ts.length ≤ 1048576) : B0u s (bts ((i : Nat) : Int)) = { s with ts := add s.ts (A9w ((i : Nat) : Int)) } ∧ B2V s (bts ((i : Nat) : Int)) = bts ((at_ s.ts (A9w ((i : Nat) : Int)) : Nat) : Int) := by
  obtain ⟨h1, h2⟩ := A4Y hi hl
  unfold B0u B2V
  rw [h1, h2]
  exact ⟨rfl, rfl⟩
theorem C0u {s : Ps} {i : Nat} (hi : i < s.ts.length) (hl : s.ts.length ≤ 1048576) (f : Int → Tm) : B2c s (bts ((i : Nat) : Int)) f = { s with ts := add s.ts (f ((i : Nat) : Int)) } ∧ B7H s (bts ((i : Nat) : Int)) f = bts ((at_ s.ts (f ((i : Nat) : Int)) : Nat) : Int) := by
  obtain ⟨h1, h2⟩ := A4Y hi hl
  unfold B2c B7H
  rw [h1, h2]
  exact ⟨rfl, rfl⟩
theorem A5i {i : Nat} (h : i ≤ 1048576) : i64 ((i : Nat) : Int) := by unfold i64; omega
def B7L (s : Ps) (w p : List Nat) : Prop := ∃ i j : Nat, i < s.ts.length ∧ w = bts ((i : Nat) : Int) ∧ s.ts[j]? = some (A9w ((i : Nat) : Int)) ∧ p = bts ((j : Nat) : Int)
def U1 (s : Ps) (w p : List Nat) : Prop := if s.real then p = A0e (T8 w 32) else B7L s w p
def B1k (s : Ps) (w p : List Nat) : Prop := if s.real then p = A5q (T8 w 32) else B7L s w p
def A2x (s : Ps) (w m g : List Nat) : Prop := if s.real then g = A7b (T8 w 32) m else ∃ i j : Nat, i < s.ts.length ∧ w = bts ((i : Nat) : Int) ∧ s.ts[j]? = some (A3L ((i : Nat) : Int) m) ∧ g = T8 (bts ((j : Nat) : Int)) 64
theorem B7L.ext {s s' : Ps} {w p : List Nat} (h : B7L s w p) (he : Pext s s') : B7L s' w p := by
  obtain ⟨l, e⟩ := he.ts
  obtain ⟨i, j, h1, h2, h3, h4⟩ := h
  exact ⟨i, j, by rw [e, List.length_append]; omega, h2, by rw [e]; exact A4d h3, h4⟩
theorem U1.ext {s s' : Ps} {w p : List Nat} (h : U1 s w p) (he : Pext s s') : U1 s' w p := by
  unfold U1 at *
  rw [he.real]
  split
  · rename_i hr; rwa [if_pos hr] at h
  · rename_i hr; rw [if_neg hr] at h; exact h.ext he
theorem B1k.ext {s s' : Ps} {w p : List Nat} (h : B1k s w p) (he : Pext s s') : B1k s' w p := by
  unfold B1k at *
  rw [he.real]
  split
  · rename_i hr; rwa [if_pos hr] at h
  · rename_i hr; rw [if_neg hr] at h; exact h.ext he
theorem A2x.ext {s s' : Ps} {w m g : List Nat} (h : A2x s w m g) (he : Pext s s') : A2x s' w m g := by
  unfold A2x at *
  rw [he.real]
  split
  · rename_i hr; rwa [if_pos hr] at h
  · rename_i hr
    rw [if_neg hr] at h
    obtain ⟨l, e⟩ := he.ts
    obtain ⟨i, j, h1, h2, h3, h4⟩ := h
    exact ⟨i, j, by rw [e, List.length_append]; omega, h2, by rw [e]; exact A4d h3, h4⟩
theorem B69 {s : Ps} {w : List Nat} (h : B6i s.ts w) (ht : Tok s.ts) (hl : s.ts.length ≤ 1048576) : B7L (B0u s w) w (B2V s w) ∧ Tok (B0u s w).ts := by
  obtain ⟨i, hi, rfl⟩ := h
  obtain ⟨e1, e2⟩ := B85 hi hl
  obtain ⟨l, g1, g2, g3, g4⟩ := A50 (B4O (A5i (show i ≤ 1048576 by omega))) ht
  rw [e1, e2]
  exact ⟨⟨i, _, by show i < (add s.ts _).length; rw [g1, List.length_append]; omega, rfl, g3, rfl⟩, g4⟩
theorem A4j {s : Ps} {w : List Nat} (h : Kok s w) (ht : Tok s.ts) (hl : s.ts.length ≤ 1048576) : U1 (K5 s w) w (P0 s w) ∧ B1k (K5 s w) w (B7K s w) ∧ Tok (K5 s w).ts := by
  unfold U1 B1k K5 P0 B7K
  cases hr : s.real with
  | true => simp [hr, ht]
  | false =>
    obtain ⟨h1, h2⟩ := B69 (h hr) ht hl
    have h3 : (B0u s w).real = false := hr
    simp only [Bool.false_eq_true, if_false, h3]
    exact ⟨h1, h1, h2⟩
theorem B7L.eq {s : Ps} {w p : List Nat} (h : B7L s w p) (ht : Tok s.ts) (hl : s.ts.length ≤ 1048576) : B0u s w = s ∧ B2V s w = p := by
  obtain ⟨i, j, h1, rfl, h3, rfl⟩ := h
  obtain ⟨e1, e2⟩ := B85 h1 hl
  obtain ⟨e3, e4⟩ := B2T ht h3
  rw [e1, e2, e3, e4]
  exact ⟨rfl, rfl⟩
theorem U1.eq {s : Ps} {w p : List Nat} (h : U1 s w p) (ht : Tok s.ts) (hl : s.ts.length ≤ 1048576) : K5 s w = s ∧ P0 s w = p := by
  unfold U1 at h
  unfold K5 P0
  cases hr : s.real with
  | true => rw [hr] at h; exact ⟨rfl, h.symm⟩
  | false => rw [hr] at h; exact B7L.eq h ht hl
theorem B7a {s : Ps} {i : Nat} {m : List Nat} (hi : i < s.ts.length) (ht : Tok s.ts) (hl : s.ts.length ≤ 1048576) (hm : ∀ y ∈ m, y < 256) (lm : m.length ≤ 16777216) : ∃ j, i < (B2c s (bts ((i : Nat) : Int)) fun x => A3L x m).ts.length ∧ (B2c s (bts ((i : Nat) : Int)) fun x => A3L x m).ts[j]? = some (A3L ((i : Nat) : Int) m) ∧ (B7H s (bts ((i : Nat) : Int)) fun x => A3L x m) = bts ((j : Nat) : Int) ∧ Tok (B2c s (bts ((i : Nat) : Int)) fun x => A3L x m).ts := by
  obtain ⟨e1, e2⟩ := C0u hi hl fun x => A3L x m
  have hT : Tmo (A3L ((i : Nat) : Int) m) := B4P (A5i (show i ≤ 1048576 by omega)) hm lm
  rw [e1, e2]
  generalize A3L ((i : Nat) : Int) m = t at *
  obtain ⟨l, g1, g2, g3, g4⟩ := A50 hT ht
  refine ⟨at_ s.ts t, ?_, g3, rfl, g4⟩
  show i < (add s.ts t).length
  rw [g1, List.length_append]; omega
theorem B1l (s : Ps) (w : List Nat) (f : Int → Tm) : (B2c s w f).real = s.real := rfl
theorem A2x.t {s : Ps} (h : s.real = true) {w m g : List Nat} : A2x s w m g ↔ g = A7b (T8 w 32) m := by unfold A2x; rw [if_pos h]
theorem A2x.f {s : Ps} (h : s.real = false) {w m g : List Nat} : A2x s w m g ↔ ∃ i j : Nat, i < s.ts.length ∧ w = bts ((i : Nat) : Int) ∧ s.ts[j]? = some (A3L ((i : Nat) : Int) m) ∧ g = T8 (bts ((j : Nat) : Int)) 64 := by unfold A2x; rw [if_neg (by rw [h]; decide)]
theorem B87 {s : Ps} (h : s.real = true) (w m : List Nat) : A5h s w m = s := by unfold A5h; rw [if_pos h]
theorem B88 {s : Ps} (h : s.real = false) (w m : List Nat) : A5h s w m = B2c s w fun x => A3L x m := by unfold A5h; rw [if_neg (by rw [h]; decide)]
theorem B89 {s : Ps} (h : s.real = true) (w m : List Nat) : B2g s w m = A7b (T8 w 32) m := by unfold B2g; rw [if_pos h]
theorem B9a {s : Ps} (h : s.real = false) (w m : List Nat) : B2g s w m = T8 (B7H s w fun x => A3L x m) 64 := by unfold B2g; rw [if_neg (by rw [h]; decide)]
theorem B9b {s : Ps} {w m : List Nat} (h : Kok s w) (ht : Tok s.ts) (hl : s.ts.length ≤ 1048576) (hm : ∀ y ∈ m, y < 256) (lm : m.length ≤ 16777216) : A2x (A5h s w m) w m (B2g s w m) ∧ Tok (A5h s w m).ts := by
  cases hr : s.real with
  | true =>
    rw [B87 hr, B89 hr, A2x.t hr]
    exact ⟨rfl, ht⟩
  | false =>
    obtain ⟨i, hi, e⟩ := h hr
    rw [B88 hr, B9a hr, e]
    obtain ⟨j, g1, g2, g3, g4⟩ := B7a hi ht hl hm lm
    rw [A2x.f ((B1l _ _ _).trans hr), g3]
    exact ⟨⟨i, j, g1, rfl, g2, rfl⟩, g4⟩
def B1m (ts : List Tm) (p m g : List Nat) : Bool := decide (g.length = 64) && match plc g ts.length, plc p ts.length with
  | some i, some k => decide (p.length = 32) && match ts[i]?, ts[k]? with
    | some t, some u => decide (t.kind = 7) && decide (t.text = m) && decide (u.kind = 3) && decide (u.of.getD 0 0 = t.of.getD 0 0)
    | _, _ => false
  | _, _ => false
noncomputable def B2h (s : Ps) (p m g : List Nat) : Bool := if s.real then A7c p m g else B1m s.ts p m g
def Ar (ts : List Tm) : Prop := ∀ t ∈ ts, (t.kind = 3 ∨ t.kind = 6 ∨ t.kind = 7) → 0 < t.of.length
theorem B7b {i n : Nat} (h : i < n) (hn : n ≤ 1048576) : plc (T8 (bts ((i : Nat) : Int)) 64) n = some i := by
  have h1 := A2a ((i : Nat) : Int) n
  have e : u64 ((i : Nat) : Int) = i := by unfold u64; omega
  rw [e, if_pos h] at h1
  have hl : (bts ((i : Nat) : Int)).length = 32 := A0l _ (by decide)
  have ef : T8 (bts ((i : Nat) : Int)) 64 = bts ((i : Nat) : Int) ++ List.replicate 32 0 := by unfold T8; rw [List.take_of_length_le (by omega), hl]
  rw [ef]
  unfold plc at h1 ⊢
  have hle : ∀ k, k ≤ 8 → le8 (bts ((i : Nat) : Int) ++ List.replicate 32 0) k = le8 (bts ((i : Nat) : Int)) k := by
    intro k
    induction k with
    | zero => intro _; rfl
    | succ k ih =>
      intro hk
      unfold le8
      rw [ih (by omega)]
      congr 2
      rw [List.getD_eq_getElem?_getD, List.getD_eq_getElem?_getD, List.getElem?_append_left (by omega)]
  rw [hle 8 (Nat.le_refl _)]
  split at h1
  · rename_i hc
    obtain ⟨c1, c2, c3, c4⟩ := hc
    have c0 : ∀ c ∈ (bts ((i : Nat) : Int) ++ List.replicate 32 0).drop 9, c = 0 := fun c hc => by
      rw [List.drop_append_of_le_length (by omega)] at hc
      rcases List.mem_append.1 hc with hc | hc
      · exact c3 c hc
      · exact (List.mem_replicate.1 hc).2
    rw [if_pos ⟨by rw [List.length_append]; omega, by rw [List.getD_eq_getElem?_getD, List.getElem?_append_left (by omega), ← List.getD_eq_getElem?_getD]; exact c2, c0, c4⟩]
    exact h1
  · cases h1
theorem B9c {s : Ps} {w p m g : List Nat} (hl : s.ts.length ≤ 1048576) (hp : B1k s w p) (hg : A2x s w m g) : B2h s p m g = true := by
  unfold B1k at hp
  unfold A2x at hg
  unfold B2h
  cases hr : s.real with
  | true =>
    rw [hr] at hp hg
    simp only [if_true] at hp hg ⊢
    rw [hp, hg]; exact B6O _ _
  | false =>
    rw [hr] at hp hg
    simp only [Bool.false_eq_true, if_false] at hp hg ⊢
    obtain ⟨i, j, h1, h2, h3, rfl⟩ := hp
    obtain ⟨i', j', h1', h2', h3', rfl⟩ := hg
    have e := A4X (by omega) (by omega) (h2.symm.trans h2')
    subst e
    have b1 := (List.getElem?_eq_some_iff.1 h3).1
    have b2 := (List.getElem?_eq_some_iff.1 h3').1
    have p1 := B7b b2 hl
    have p2 := A2a ((j : Nat) : Int) s.ts.length
    have e : u64 ((j : Nat) : Int) = j := by unfold u64; omega
    rw [e, if_pos b1] at p2
    have hbl : (bts ((j : Nat) : Int)).length = 32 := A0l _ (by decide)
    unfold B1m
    rw [p1, p2, T6]
    simp only [h3, h3', hbl]
    simp [A3L, A9w]
theorem Ar.nil : Ar [] := fun t h => by cases h
theorem Ar.add {ts : List Tm} (h : Ar ts) {t : Tm} (ht : (t.kind = 3 ∨ t.kind = 6 ∨ t.kind = 7) → 0 < t.of.length) : Ar (add ts t) := by
  unfold Go.Proofs.YthbhpfefdnffaaaGreatDoor.add
  split
  · exact h
  · intro u hu
    rcases List.mem_append.1 hu with h1 | h1
    · exact h u h1
    · rw [List.mem_singleton.1 h1]; exact ht
theorem Ar.rd {ts : List Tm} (h : Ar ts) (w : List Nat) : Ar (rdT ts w) := by
  cases hp : plc w ts.length with
  | some j => rw [(U6 hp).1]; exact h
  | none => rw [(V7 hp).1]; exact h.add (by intro h; rcases h with h | h | h <;> cases h)
theorem Ar.fresh {s : Ps} (h : Ar s.ts) : Ar (D9 s).ts := by
  cases hr : s.real with
  | true => rw [A4V hr]; exact h
  | false => rw [A2M hr]; exact h.add (by intro h; rcases h with h | h | h <;> cases h)
theorem Ar.pub {s : Ps} (h : Ar s.ts) (w : List Nat) : Ar (K5 s w).ts := by
  unfold K5
  split
  · exact h
  · exact (h.rd w).add fun _ => Nat.one_pos
theorem Ar.sgn {s : Ps} (h : Ar s.ts) (w m : List Nat) : Ar (A5h s w m).ts := by
  unfold A5h
  split
  · exact h
  · exact (h.rd w).add fun _ => Nat.one_pos

structure Rok (ts : List Tm) (w : List Nat) : Prop where
  lt : ∀ x ∈ w, x < 256
  len : w.length ≤ 1000000000
  st : (∀ n, plc w n = none) ∨ B6i ts w
theorem Rok.ext {ts l : List Tm} {w : List Nat} (h : Rok ts w) : Rok (ts ++ l) w := ⟨h.lt, h.len, h.st.imp id B6i.ext⟩
theorem B6i.rok {ts : List Tm} {w : List Nat} (h : B6i ts w) : Rok ts w := by
  obtain ⟨i, hi, rfl⟩ := h
  exact ⟨B0e _, by rw [show (bts ((i : Nat) : Int)).length = 32 from A0l _ (by decide)]; decide, .inr ⟨i, hi, rfl⟩⟩
theorem B5l {ts : List Tm} {w : List Nat} (ht : Tok ts) (hw : ∀ x ∈ w, x < 256) (hl : w.length ≤ 1000000000) : Tok (rdT ts w) := by
  cases hp : plc w ts.length with
  | some j => rw [(U6 hp).1]; exact ht
  | none =>
    rw [(V7 hp).1]
    obtain ⟨l, h1, h2, h3, h4⟩ := A50 (A3h hw (by omega)) ht
    exact h4
theorem B3I {ts l : List Tm} {w : List Nat} (h : Rok ts w) (ht : Tok ts) (ht' : Tok (rdT ts w ++ l)) (hl : (rdT ts w ++ l).length ≤ 1048576) : rdT (rdT ts w ++ l) w = rdT ts w ++ l ∧ rdI (rdT ts w ++ l) w = rdI ts w := by
  have hge := B4N (ts := ts) (w := w)
  rw [List.length_append] at hl
  cases hp : plc w ts.length with
  | some j =>
    obtain ⟨e1, e2⟩ := U6 hp
    obtain ⟨a1, a2⟩ := A7V hp
    rw [e1, e2]
    exact U6 (a2 _ (by rw [List.length_append]; omega))
  | none =>
    have hn : ∀ n, plc w n = none := by
      rcases h.st with h | ⟨i, hi, rfl⟩
      · exact h
      · rw [A2a, show u64 ((i : Nat) : Int) = i by unfold u64; omega, if_pos hi] at hp; cases hp
    obtain ⟨e1, e2⟩ := V7 hp
    obtain ⟨l0, g1, g2, g3, g4⟩ := A50 (A3h h.lt (by have := h.len; omega)) ht
    rw [e1] at ht' ⊢
    rw [e2]
    obtain ⟨b1, b2⟩ := V7 (hn (add ts (B4G w) ++ l).length)
    rw [b1, b2]
    exact B2T ht' (A4d g3)
theorem A7i : ∀ (ws : List (List Nat)) (st : List Tm × List Int), ∃ l, (ws.foldl X5 st).1 = st.1 ++ l
  | [], st => ⟨[], by simp⟩
  | w :: ws, st => by
    obtain ⟨l1, e1⟩ := A7i ws (X5 st w)
    obtain ⟨l2, e2⟩ := A1r st.1 w
    exact ⟨l2 ++ l1, by rw [List.foldl_cons, e1, show (X5 st w).1 = rdT st.1 w from rfl, e2, List.append_assoc]⟩
theorem B1n : ∀ (ws : List (List Nat)) (st : List Tm × List Int), (∀ w ∈ ws, Rok st.1 w) → Tok st.1 → Tok (ws.foldl X5 st).1
  | [], st, _, ht => ht
  | w :: ws, st, h, ht => by
    obtain ⟨l2, e2⟩ := A1r st.1 w
    have hw := h w (by simp)
    exact B1n ws (X5 st w) (fun v hv => by show Rok (rdT st.1 w) v; rw [e2]; exact (h v (by simp [hv])).ext) (B5l ht hw.lt hw.len)
theorem A6n : ∀ (ws : List (List Nat)) (st : List Tm × List Int) (l : List Tm), (∀ w ∈ ws, Rok st.1 w) → Tok st.1 → Tok ((ws.foldl X5 st).1 ++ l) → ((ws.foldl X5 st).1 ++ l).length ≤ 1048576 → ws.foldl X5 ((ws.foldl X5 st).1 ++ l, st.2) = ((ws.foldl X5 st).1 ++ l, (ws.foldl X5 st).2)
  | [], st, l, _, _, _, _ => rfl
  | w :: ws, st, l, h, ht, ht', hl => by
    have hw := h w (by simp)
    obtain ⟨l1, e1⟩ := A7i ws (X5 st w)
    have e2 : (X5 st w).1 = rdT st.1 w := rfl
    rw [List.foldl_cons] at ht' hl ⊢
    have hrest : ∀ v ∈ ws, Rok (X5 st w).1 v := fun v hv => by
      obtain ⟨l2, e3⟩ := A1r st.1 w
      rw [e2, e3]; exact (h v (by simp [hv])).ext
    have ih := A6n ws (X5 st w) l hrest (B5l ht hw.lt hw.len) ht' hl
    have e4 : (ws.foldl X5 (X5 st w)).1 ++ l = rdT st.1 w ++ (l1 ++ l) := by rw [e1, e2, List.append_assoc]
    obtain ⟨a1, a2⟩ := B3I hw ht (l := l1 ++ l) (by rw [← e4]; exact ht') (by rw [← e4]; exact hl)
    rw [List.foldl_cons]
    have e5 : X5 ((ws.foldl X5 (X5 st w)).1 ++ l, st.2) w = ((ws.foldl X5 (X5 st w)).1 ++ l, (X5 st w).2) := by
      show (rdT _ w, st.2 ++ [((rdI _ w : Nat) : Int)]) = (_, st.2 ++ [((rdI st.1 w : Nat) : Int)])
      rw [e4, a1, a2]
    rw [e5]; exact ih
theorem B5m : ∀ (ws : List (List Nat)) {n0 k : Nat} {st : List Tm × List Int}, RdOk n0 k st → (∀ w ∈ ws, Rok st.1 w) → RdOk n0 (k + ws.length) (ws.foldl X5 st)
  | [], _, _, _, h, _ => h
  | w :: ws, n0, k, st, h, hw => by
    have h1 := hw w (by simp)
    have h2 := h.step h1.lt (by have := h1.len; omega)
    have h3 := B5m ws h2 (fun v hv => by
      obtain ⟨l2, e3⟩ := A1r st.1 w
      show Rok (rdT st.1 w) v
      rw [e3]; exact (hw v (by simp [hv])).ext)
    rw [List.length_cons, show k + (ws.length + 1) = k + 1 + ws.length by omega]
    exact h3
theorem A3B (ts : List Tm) (ofs : List Int) (lb : List Nat) : ∀ n, ∃ l, (P4 ts ofs lb n).1 = ts ++ l
  | 0 => ⟨[], by show ts = _; simp⟩
  | n + 1 => by
    obtain ⟨l1, e1⟩ := A3B ts ofs lb n
    obtain ⟨l2, e2⟩ := A51 ts ofs lb n
    exact ⟨l1 ++ l2, by rw [e2, e1, List.append_assoc]⟩
theorem A6o {ts : List Tm} {key lb : List Nat} {ws : List (List Nat)} (ht : Tok ts) (h : ∀ w ∈ key :: ws, Rok ts w) (hb : B256 lb) (hbl : lb.length ≤ 1000) (hl : ts.length + ws.length + 1 ≤ 1048576) :
    Tok (U0 ts key ws).1 ∧ (∀ k, k < 100 → Tmo (drv (U0 ts key ws).2 lb k)) := by
  have h0 : RdOk ts.length 0 (ts, []) := ⟨Nat.le_refl _, rfl, (fun x hx => by cases hx), ht.tmo⟩
  have h1 := B5m (key :: ws) h0 h
  have e : U0 ts key ws = (key :: ws).foldl X5 (ts, []) := rfl
  rw [← e, List.length_cons] at h1
  refine ⟨B1n (key :: ws) (ts, []) h ht, fun k hk => B4M (fun x hx => ?_) (by rw [h1.ofl]; omega) hb (by omega) (by omega)⟩
  have h2 := h1.of x hx
  have h3 := h1.len
  unfold i64; omega
theorem B9d (s : Ps) (key : List Nat) (ws : List (List Nat)) (lb : List Nat) (n : Nat) : Ext s (A6Y s key ws lb n) := by
  cases hr : s.real with
  | true => rw [A5X hr]; exact Ext.refl s
  | false =>
    rw [A4c hr]
    obtain ⟨l1, e1⟩ := A7i (key :: ws) (s.ts, [])
    obtain ⟨l2, e2⟩ := A3B (U0 s.ts key ws).1 (U0 s.ts key ws).2 lb n
    refine ⟨⟨rfl, l1 ++ l2, ?_⟩, rfl, Nat.le_refl _⟩
    show (P4 _ _ _ _).1 = _
    rw [e2, show (U0 s.ts key ws).1 = _ from e1, List.append_assoc]
theorem B7c {s : Ps} {key lb : List Nat} {ws : List (List Nat)} {n : Nat} (ht : Tok s.ts) (h : s.real = false → ∀ w ∈ key :: ws, Rok s.ts w) (hb : B256 lb) (hbl : lb.length ≤ 1000) (hn : n ≤ 100) (hl : s.ts.length + ws.length + 1 ≤ 1048576) : Tok (A6Y s key ws lb n).ts := by
  cases hr : s.real with
  | true => rw [A5X hr]; exact ht
  | false =>
    obtain ⟨t1, hd⟩ := A6o ht (h hr) hb hbl hl
    rw [A4c hr]
    exact A52 t1 hd hn
theorem B1o {s s' : Ps} {key lb : List Nat} {ws : List (List Nat)} {n : Nat} (ht : Tok s.ts) (h : s.real = false → ∀ w ∈ key :: ws, Rok s.ts w) (hb : B256 lb) (hbl : lb.length ≤ 1000) (hn : n ≤ 100) (hl0 : s.ts.length + ws.length + 1 ≤ 1048576) (he : Pext (A6Y s key ws lb n) s') (ht' : Tok s'.ts) (hl : s'.ts.length ≤ 1048576) :
    A6Y s' key ws lb n = s' ∧ A8Y s' key ws lb n = A8Y s key ws lb n := by
  have hrr : s'.real = s.real := by rw [he.real, (A3l s key ws lb n).1]
  cases hr : s.real with
  | true => exact ⟨A5X (hrr.trans hr), by rw [A5Y hr, A5Y (hrr.trans hr)]⟩
  | false =>
    have hr' : s'.real = false := hrr.trans hr
    have h := h hr
    obtain ⟨l, e⟩ := he.ts
    rw [A4c hr] at e
    change s'.ts = (P4 (U0 s.ts key ws).1 (U0 s.ts key ws).2 lb n).1 ++ l at e
    obtain ⟨l2, e2⟩ := A3B (U0 s.ts key ws).1 (U0 s.ts key ws).2 lb n
    have e3 : s'.ts = (U0 s.ts key ws).1 ++ (l2 ++ l) := by rw [e, e2, List.append_assoc]
    obtain ⟨t1, hd⟩ := A6o ht h hb hbl hl0
    have a := A6n (key :: ws) (s.ts, []) (l2 ++ l) h ht (by show Tok ((U0 s.ts key ws).1 ++ (l2 ++ l)); rw [← e3]; exact ht') (by show ((U0 s.ts key ws).1 ++ (l2 ++ l)).length ≤ _; rw [← e3]; exact hl)
    change U0 ((U0 s.ts key ws).1 ++ (l2 ++ l)) key ws = ((U0 s.ts key ws).1 ++ (l2 ++ l), (U0 s.ts key ws).2) at a
    rw [← e3] at a
    have b := A60 t1 hd hn (l := l) e ht'
    have c : A8X s'.ts key ws lb n = (s'.ts, (A8X s.ts key ws lb n).2) := by unfold A8X; rw [a]; exact b
    rw [A4c hr', A5Z hr', A5Z hr, c]
    exact ⟨rfl, rfl⟩
theorem B1p (s : Ps) (key : List Nat) (ws : List (List Nat)) (lb : List Nat) (n : Nat) : (A8Y s key ws lb n).length = n := by
  cases hr : s.real with
  | true => rw [A5Y hr]; exact A7Z _ _
  | false => rw [A5Z hr]; exact (A3k _ _ _ _).1
theorem A6p {ts : List Tm} {ofs : List Int} {lb : List Nat} : ∀ {n : Nat}, ∀ w ∈ (P4 ts ofs lb n).2, ∃ j : Nat, w = bts ((j : Nat) : Int)
  | 0, w, h => by cases h
  | n + 1, w, h => by
    rw [show P4 ts ofs lb (n + 1) = B0q ofs lb (P4 ts ofs lb n) n from Q7 n] at h
    rcases List.mem_append.1 (show w ∈ _ ++ [_] from h) with h | h
    · exact A6p w h
    · exact ⟨_, List.mem_singleton.1 h⟩
theorem B7d {s : Ps} {key lb : List Nat} {ws : List (List Nat)} {n : Nat} (hn : n ≤ 8) : ∀ w ∈ A8Y s key ws lb n, (∀ x ∈ w, x < 256) ∧ w.length = 32 := by
  intro w hw
  cases hr : s.real with
  | true =>
    rw [A5Y hr] at hw
    obtain ⟨i, hi, rfl⟩ := List.mem_map.1 hw
    have h1 := List.mem_range.1 hi
    have h2 := A70 key ws lb hn
    refine ⟨fun x hx => A1J _ _ _ x (List.mem_of_mem_take (List.mem_of_mem_drop hx)), ?_⟩
    rw [List.length_drop, List.length_take, h2]; omega
  | false =>
    rw [A5Z hr] at hw
    obtain ⟨j, rfl⟩ := A6p w hw
    exact ⟨B0e _, A0l _ (by decide)⟩
theorem B7e {s : Ps} {key lb : List Nat} {ws : List (List Nat)} {n i : Nat} (hn : n ≤ 8) (hi : i < n) : (∀ x ∈ (A8Y s key ws lb n).getD i [], x < 256) ∧ ((A8Y s key ws lb n).getD i []).length = 32 := by
  have hl := B1p s key ws lb n
  rw [List.getD_eq_getElem?_getD, List.getElem?_eq_getElem (by omega)]
  exact B7d hn _ (List.getElem_mem _)
theorem Ar.der {s : Ps} (h : Ar s.ts) (key : List Nat) (ws : List (List Nat)) (lb : List Nat) (n : Nat) : Ar (A6Y s key ws lb n).ts := by
  cases hr : s.real with
  | true => rw [A5X hr]; exact h
  | false =>
    rw [A4c hr]
    have h1 : ∀ (ws : List (List Nat)) (st : List Tm × List Int), Ar st.1 → Ar (ws.foldl X5 st).1 := by
      intro ws
      induction ws with
      | nil => intro st h; exact h
      | cons w ws ih => intro st h; exact ih _ (h.rd w)
    have h2 : ∀ (ts : List Tm) (ofs : List Int) (n : Nat), Ar ts → Ar (P4 ts ofs lb n).1 := by
      intro ts ofs n
      induction n with
      | zero => exact id
      | succ n ih =>
        intro h
        rw [show P4 ts ofs lb (n + 1) = B0q ofs lb (P4 ts ofs lb n) n from Q7 n]
        exact (ih h).add fun hk => by simp [drv] at hk
    exact h2 _ _ n (h1 (key :: ws) (s.ts, []) h)

theorem B9G {k : IntKind} (a b : Nat) : I1 .eql k ((a : Nat) : Int) ((b : Nat) : Int) = some (.bool (decide (a = b))) := by
  by_cases h : a = b
  · rw [decide_eq_true h]; exact eqT (by omega)
  · rw [decide_eq_false h]; exact eqF (by omega)
theorem A8n {l : List Int} (h : 0 < l.length) : (A1b l)[0]? = some (.int .i64 (l.getD 0 0)) := by
  rw [List.getD_eq_getElem?_getD, A1b, List.getElem?_map, List.getElem?_eq_getElem h]; rfl
theorem B3J {ts : List Tm} {p m g : List Nat} (h : ¬ g.length = 64) : B1m ts p m g = false := by
  unfold B1m; rw [decide_eq_false h, Bool.false_and]
theorem B7f {ts : List Tm} {p m g : List Nat} (h : plc g ts.length = none) : B1m ts p m g = false := by
  unfold B1m; rw [h]; simp
theorem B7g {ts : List Tm} {p m g : List Nat} (h : plc p ts.length = none) : B1m ts p m g = false := by
  unfold B1m; rw [h]; split <;> simp_all
theorem B3K {ts : List Tm} {p m g : List Nat} {t u : Tm} {i k : Nat} (h64 : g.length = 64) (hi : plc g ts.length = some i) (hk : plc p ts.length = some k) (ht : ts[i]? = some t) (hu : ts[k]? = some u) :
    B1m ts p m g = (decide (p.length = 32) && (decide (t.kind = 7) && (decide (t.text = m) && (decide (u.kind = 3) && (u.of.getD 0 0 == t.of.getD 0 0))))) := by
  unfold B1m
  rw [hi, hk, decide_eq_true h64]
  simp only [ht, hu, Bool.true_and, Bool.and_assoc]
  congr 4
theorem B5n {s : Ps} (h : s.real = true) (p m g : List Nat) : B2h s p m g = A7c p m g := by unfold B2h; rw [if_pos h]
theorem A2q {s : Ps} (h : s.real = false) (p m g : List Nat) : B2h s p m g = B1m s.ts p m g := by unfold B2h; rw [if_neg (by rw [h]; decide)]
theorem B3L {s : Ps} {p m g : List Nat} (h : ¬ g.length = 64) : B2h s p m g = false := by
  cases hr : s.real with
  | true => rw [B5n hr]; exact B1f h
  | false => rw [A2q hr]; exact B3J h
theorem neN8 {k : IntKind} (a b : Nat) : I1 .neq k ((a : Nat) : Int) ((b : Nat) : Int) = some (.bool (!decide (a = b))) := by
  by_cases h : a = b
  · rw [decide_eq_true h]; exact neF (by omega)
  · rw [decide_eq_false h]; exact neT (by omega)
theorem B3M (pb : Nat) (s : Ps) (v1 v2 v3 : Value) (wp wm wg : List Nat) (MP A : Mem) (hP : Prm pb s MP) (hsub : ∀ x, x ∈ MP → x ∈ A) (har : Ar s.ts) (hn : s.ts.length ≤ 1048576) (hp : By A v1 wp) (hm : By A v2 wm) (hg : By A v3 wg) (hG : Glb A) : FnV Tryz.prog 63 [.pointer (some ⟨pb, 0, none⟩), v1, v2, v3] A (.bool (B2h s wp wm wg)) := by
 obtain ⟨sv, bt, bm, B, MT, rfl, hby, hT⟩ := hP.ex
 have hpb := hsub _ List.mem_cons_self
 have hMT : ∀ x, x ∈ MT → x ∈ A := fun x hx => hsub x (by simp [hx])
 haveI := hp.cel
 haveI := hm.cel
 haveI := hg.cel
 haveI := hby.cel
 have hpl := hp.len
 have hml := hm.len
 have hgl := hg.len
 refine FnX.enter (N := 106) Tryz.func63 rfl rfl rfl fun w_ => ?_
 refine C4 (E9 0 1 2 3) (A3 (as_ (A0 (E9 0 1 2 3) (A5 (A3 (mv_ ?_))))))
 refine A4 (E6 (e := 117) rfl rfl kR) rfl ?_
 refine mv_ ?_
 refine C6 rfl rfl (OpQ.opL qm_ rfl ?_)
 refine C6 rfl rfl (OpQ.opL (H6 (sz := 1) rfl kR (by first | assumption | exact Sl.rd (by assumption) (fun _ h => h) | exact By.rd (by assumption))) rfl ?_)
 refine C6 rfl rfl (OpQ.opL (E7 (!decide (wg.length = 64)) rfl rfl (neN8 _ 64)) rfl ?_)
 refine A4 (E2 rfl rfl) rfl ?_
 refine A0 (F9 0 1 2 3 23) ?_
 refine C7 rfl (fun hc => ?_) (fun hc => ?_)
 ·
  have h64 : ¬ wg.length = 64 := by simpa using hc
  refine A3 (as_ (A0 (D8 8) (C1 (tr ?_))))
  exact ⟨_, [], [], I2 rfl rfl, List.nil_sublist _, by simp, by rw [B3L h64], rfl, rfl⟩
 ·
  have h64 : wg.length = 64 := by simpa using hc
  refine A9 (nx (E9 0 1 2 3) (A5 (A3 (mv_ ?_))))
  refine A4 (G6 rfl) rfl ?_
  refine A4 (qf_ 0 0) rfl ?_
  refine A4 (I7 rfl kR (mA hpb) (by rfl)) rfl ?_
  refine A4 (F5 rfl rfl rfl) rfl ?_
  refine A0 (F9 0 1 2 3 28) ?_
  refine C7 rfl (fun hc => ?_) (fun hc => ?_)
  ·
   have hr : s.real = true := by cases hq : s.real with | true => rfl | false => rw [hq] at hc; exact absurd hc (by decide)
   refine A3 (mv_ (mv_ (mv_ ?_)))
   refine G1 (aS rfl (aS rfl (aS rfl a0))) kR (B6Y v1 v2 v3 wp wm wg _ (hp.mono SubC.sub) (hm.mono SubC.sub) (hg.mono SubC.sub) hG.s.up) rfl ?_
   refine as_ (A0 (D8 8) (C1 (tr ?_)))
   exact ⟨_, [], [], I2 rfl rfl, List.nil_sublist _, by simp, by rw [B5n hr], rfl, rfl⟩
  ·
   have hr : s.real = false := by cases hq : s.real with | false => rfl | true => rw [hq] at hc; exact absurd hc (by decide)
   refine A9 (nx (E9 0 1 2 3) (A3 (mv_ ?_)))
   refine A4 (G6 rfl) rfl ?_
   refine A4 (qf_ 3 3) rfl ?_
   refine A4 (I7 rfl kR (mA hpb) (by rfl)) rfl ?_
   refine mv_ ?_
   refine G1 (aS rfl (aS rfl a0)) kR (A2b bt bm s.ts v3 wg MT _ hT (fun x hx => SubC.sub _ (hMT x hx)) hn (hg.rd.mono SubC.sub) hg.lt hg.max) rfl ?_
   refine mv_ ?_
   refine A4 (A2I rfl) rfl ?_
   refine A4 (A2v rfl) rfl ?_
   refine as_ (as_ (A0 (F9 0 1 2 9 10) (A3 (mv_ ?_))))
   refine A4 (G6 rfl) rfl ?_
   refine A4 (qf_ 3 3) rfl ?_
   refine A4 (I7 rfl kR (mA hpb) (by rfl)) rfl ?_
   refine mv_ ?_
   refine D0 (aS rfl (aS rfl a0)) kR (A3g bt bm s.ts _ MT _ hT (fun x hx => SubC.sub _ (hMT x hx))) rfl ?_
   rintro v48 M48 J48 ⟨rfl, rfl, c48, ok48, rfl, hg1a, hg2a⟩
   obtain ⟨voa, ta, rfl, hvoa, hza, htka, hoka, hnoa⟩ := A3i hT.tok.tmo hg1a hg2a
   haveI := hvoa.cel
   refine mv_ ?_
   refine A4 (A2I rfl) rfl ?_
   refine A4 (A2v rfl) rfl ?_
   refine A6 rfl (C5 (cs := [.int .u8 0, .slice none 0 0, .string ByteArray.empty, .int .i64 0]) kR rfl fun b11 => ?_)
   refine A6 rfl (A8 (vs := tmc ta.kind voa ta.text ta.n) rfl rfl rfl kR (by rfl) (by intro c hc; simp only [tmc, List.mem_cons, List.not_mem_nil, or_false] at hc; rcases hc with rfl | rfl | rfl | rfl <;> first | rfl | exact hvoa.one) UpC.upd ?_)
   dsimp only [tmc]
   refine as_ (A0 (F9 0 1 2 10 11) (A3 (mv_ ?_)))
   refine A4 (G6 rfl) rfl ?_
   refine A4 (qf_ 3 3) rfl ?_
   refine A4 (I7 rfl kR (mA hpb) (by rfl)) rfl ?_
   refine mv_ ?_
   refine G1 (aS rfl (aS rfl a0)) kR (A2b bt bm s.ts v1 wp MT _ hT (fun x hx => SubC.sub _ (hMT x hx)) hn (hp.rd.mono SubC.sub) hp.lt hp.max) rfl ?_
   refine mv_ ?_
   refine A4 (A2I rfl) rfl ?_
   refine A4 (A2v rfl) rfl ?_
   refine as_ (as_ (A0 (X9 0 1 2 10 11 13 14) (A3 (mv_ ?_))))
   refine A4 (G6 rfl) rfl ?_
   refine A4 (qf_ 3 3) rfl ?_
   refine A4 (I7 rfl kR (mA hpb) (by rfl)) rfl ?_
   refine mv_ ?_
   refine D0 (aS rfl (aS rfl a0)) kR (A3g bt bm s.ts _ MT _ hT (fun x hx => SubC.sub _ (hMT x hx))) rfl ?_
   rintro v66 M66 J66 ⟨rfl, rfl, c66, ok66, rfl, hg1b, hg2b⟩
   obtain ⟨vob, tb, rfl, hvob, hzb, htkb, hokb, hnob⟩ := A3i hT.tok.tmo hg1b hg2b
   haveI := hvob.cel
   refine mv_ ?_
   refine A4 (A2I rfl) rfl ?_
   refine A4 (A2v rfl) rfl ?_
   refine A6 rfl (C5 (cs := [.int .u8 0, .slice none 0 0, .string ByteArray.empty, .int .i64 0]) kR rfl fun b15 => ?_)
   refine A6 rfl (A8 (vs := tmc tb.kind vob tb.text tb.n) rfl rfl rfl kR (by rfl) (by intro c hc; simp only [tmc, List.mem_cons, List.not_mem_nil, or_false] at hc; rcases hc with rfl | rfl | rfl | rfl <;> first | rfl | exact hvob.one) UpC.upd ?_)
   dsimp only [tmc]
   refine as_ (A0 (I4 1 2 10 11 14 15) ?_)
   refine D3 (.range 38) (zp 0 [0, 0, 0, 0, 0, 0, 0, 0, 0, 0, 0, 1, 0, 0, 0, 0, 1, 0, 1, 0, 0, 0, 0, 1, 0, 0, 0, 0, 1, 0, 1, 0, 1, 0, 1, 0, 0, 0]) kR kR fun hs => ?_
   refine fm_ hs ?_
   refine fm_ hs ?_
   refine V5 (t := 70) rfl (fun hb => ?_) (fun hb => ?_)
   ·
    obtain ⟨i, hi⟩ := Option.isSome_iff_exists.1 hb
    refine N4 hs rfl rfl rfl rfl qm_ rfl ?_
    refine D2 hs rfl (D7 rfl rfl) rfl ?_
    refine fm_ hs ?_
    refine V5 (t := 73) rfl (fun hb => ?_) (fun hb => ?_)
    ·
     obtain ⟨k, hk⟩ := Option.isSome_iff_exists.1 hb
     have hta : s.ts[i]? = some ta := by
      have hl := (A7V hi).1
      rw [hi] at hoka hnoa
      cases ok48 with
      | true => have := (hoka rfl).2; rwa [Option.getD_some, Int.toNat_natCast] at this
      | false => exact absurd ⟨by rw [Option.getD_some]; omega, by rw [Option.getD_some]; omega⟩ (hnoa rfl)
     have htb : s.ts[k]? = some tb := by
      have hl := (A7V hk).1
      rw [hk] at hokb hnob
      cases ok66 with
      | true => have := (hokb rfl).2; rwa [Option.getD_some, Int.toNat_natCast] at this
      | false => exact absurd ⟨by rw [Option.getD_some]; omega, by rw [Option.getD_some]; omega⟩ (hnob rfl)
     have hcv := B3K (m := wm) h64 hi hk hta htb
     refine N4 hs rfl rfl rfl rfl qm_ rfl ?_
     refine N4 hs rfl rfl rfl rfl (H6 (sz := 1) rfl kR (by first | assumption | exact Sl.rd (by assumption) (fun _ h => h) | exact By.rd (by assumption))) rfl ?_
     refine N4 hs rfl rfl rfl rfl (E7 (decide (wp.length = 32)) rfl rfl (B9G _ 32)) rfl ?_
     refine D2 hs rfl (D7 rfl rfl) rfl ?_
     refine fm_ hs ?_
     refine V5 (t := 78) rfl (fun hb => ?_) (fun hb => ?_)
     ·
      rw [hb, Bool.true_and] at hcv
      refine N4 hs rfl rfl rfl rfl (qf_ 0 0) rfl ?_
      refine Z0 hs rfl rfl rfl rfl ql_ rfl ?_
      refine N4 hs rfl rfl rfl rfl (E7 (decide (ta.kind = 7)) rfl rfl (B9G _ 7)) rfl ?_
      refine D2 hs rfl (D7 rfl rfl) rfl ?_
      refine fm_ hs ?_
      refine V5 (t := 83) rfl (fun hb => ?_) (fun hb => ?_)
      ·
       rw [hb, Bool.true_and] at hcv
       have ha0 : 0 < ta.of.length := har ta (List.mem_of_getElem? hta) (.inr (.inr (of_decide_eq_true hb)))
       refine N4 hs rfl rfl rfl rfl (qf_ 2 2) rfl ?_
       refine Z0 hs rfl rfl rfl rfl ql_ rfl ?_
       refine N4 hs rfl rfl rfl rfl qm_ rfl ?_
       refine Z0 hs rfl rfl rfl rfl (A0i rfl kR (hm.rd.mono SubC.sub)) rfl ?_
       refine N4 hs rfl rfl rfl rfl (B76 rfl rfl rfl rfl (hT.tok.tmo ta (List.mem_of_getElem? hta)).text.lt hm.lt) rfl ?_
       refine D2 hs rfl (D7 rfl rfl) rfl ?_
       refine fm_ hs ?_
       refine V5 (t := 90) rfl (fun hb => ?_) (fun hb => ?_)
       ·
        rw [hb, Bool.true_and] at hcv
        refine N4 hs rfl rfl rfl rfl (qf_ 0 0) rfl ?_
        refine Z0 hs rfl rfl rfl rfl ql_ rfl ?_
        refine N4 hs rfl rfl rfl rfl (E7 (decide (tb.kind = 3)) rfl rfl (B9G _ 3)) rfl ?_
        refine D2 hs rfl (D7 rfl rfl) rfl ?_
        refine fm_ hs ?_
        refine V5 (t := 95) rfl (fun hb => ?_) (fun hb => ?_)
        ·
         rw [hb, Bool.true_and] at hcv
         have hb0 : 0 < tb.of.length := har tb (List.mem_of_getElem? htb) (.inl (of_decide_eq_true hb))
         refine N4 hs rfl rfl rfl rfl (qf_ 1 1) rfl ?_
         refine Z0 hs rfl rfl rfl rfl ql_ rfl ?_
         refine N4 hs rfl rfl rfl rfl (K6 (sz := 1) (a := 0) rfl rfl kR rfl hvob hb0) rfl ?_
         refine Z0 hs rfl rfl rfl rfl (A05 (j := 0) (u := .int .i64 (tb.of.getD 0 0)) (hvob.mono SubC.sub) rfl kR (A8n hb0)) rfl ?_
         refine N4 hs rfl rfl rfl rfl (qf_ 1 1) rfl ?_
         refine Z0 hs rfl rfl rfl rfl ql_ rfl ?_
         refine N4 hs rfl rfl rfl rfl (K6 (sz := 1) (a := 0) rfl rfl kR rfl hvoa ha0) rfl ?_
         refine Z0 hs rfl rfl rfl rfl (A05 (j := 0) (u := .int .i64 (ta.of.getD 0 0)) (hvoa.mono SubC.sub) rfl kR (A8n ha0)) rfl ?_
         refine N4 hs rfl rfl rfl rfl (F5 rfl rfl rfl) rfl ?_
         refine D2 hs rfl (D7 rfl rfl) rfl ?_
         refine fa_ hs ?_
         refine E4 (D8 8) (C1 ?_)
         exact ⟨_, [], [], I2 rfl rfl, List.nil_sublist _, by simp, by rw [A2q hr, hcv], rfl, rfl⟩
        ·
         rw [hb, Bool.false_and] at hcv
         refine L5 hs ?_
         refine T9 hs ?_
         refine L5 hs ?_
         refine T9 hs ?_
         refine L5 hs ?_
         refine T9 hs ?_
         refine L5 hs ?_
         refine T9 hs ?_
         refine L5 hs ?_
         refine D2 hs rfl (E2 rfl rfl) rfl ?_
         refine fa_ hs ?_
         refine E4 (D8 8) (C1 ?_)
         exact ⟨_, [], [], I2 rfl rfl, List.nil_sublist _, by simp, by rw [A2q hr, hcv], rfl, rfl⟩
       ·
        rw [hb, Bool.false_and] at hcv
        refine L5 hs ?_
        refine T9 hs ?_
        refine L5 hs ?_
        refine D2 hs rfl (E2 rfl rfl) rfl ?_
        refine fm_ hs ?_
        refine L5 hs ?_
        refine T9 hs ?_
        refine L5 hs ?_
        refine T9 hs ?_
        refine L5 hs ?_
        refine T9 hs ?_
        refine L5 hs ?_
        refine T9 hs ?_
        refine L5 hs ?_
        refine D2 hs rfl (E2 rfl rfl) rfl ?_
        refine fa_ hs ?_
        refine E4 (D8 8) (C1 ?_)
        exact ⟨_, [], [], I2 rfl rfl, List.nil_sublist _, by simp, by rw [A2q hr, hcv], rfl, rfl⟩
      ·
       rw [hb, Bool.false_and] at hcv
       refine L5 hs ?_
       refine T9 hs ?_
       refine L5 hs ?_
       refine T9 hs ?_
       refine L5 hs ?_
       refine D2 hs rfl (E2 rfl rfl) rfl ?_
       refine fm_ hs ?_
       refine L5 hs ?_
       refine T9 hs ?_
       refine L5 hs ?_
       refine D2 hs rfl (E2 rfl rfl) rfl ?_
       refine fm_ hs ?_
       refine L5 hs ?_
       refine T9 hs ?_
       refine L5 hs ?_
       refine T9 hs ?_
       refine L5 hs ?_
       refine T9 hs ?_
       refine L5 hs ?_
       refine T9 hs ?_
       refine L5 hs ?_
       refine D2 hs rfl (E2 rfl rfl) rfl ?_
       refine fa_ hs ?_
       refine E4 (D8 8) (C1 ?_)
       exact ⟨_, [], [], I2 rfl rfl, List.nil_sublist _, by simp, by rw [A2q hr, hcv], rfl, rfl⟩
     ·
      rw [hb, Bool.false_and] at hcv
      refine L5 hs ?_
      refine T9 hs ?_
      refine L5 hs ?_
      refine D2 hs rfl (E2 rfl rfl) rfl ?_
      refine fm_ hs ?_
      refine L5 hs ?_
      refine T9 hs ?_
      refine L5 hs ?_
      refine T9 hs ?_
      refine L5 hs ?_
      refine D2 hs rfl (E2 rfl rfl) rfl ?_
      refine fm_ hs ?_
      refine L5 hs ?_
      refine T9 hs ?_
      refine L5 hs ?_
      refine D2 hs rfl (E2 rfl rfl) rfl ?_
      refine fm_ hs ?_
      refine L5 hs ?_
      refine T9 hs ?_
      refine L5 hs ?_
      refine T9 hs ?_
      refine L5 hs ?_
      refine T9 hs ?_
      refine L5 hs ?_
      refine T9 hs ?_
      refine L5 hs ?_
      refine D2 hs rfl (E2 rfl rfl) rfl ?_
      refine fa_ hs ?_
      refine E4 (D8 8) (C1 ?_)
      exact ⟨_, [], [], I2 rfl rfl, List.nil_sublist _, by simp, by rw [A2q hr, hcv], rfl, rfl⟩
    ·
     have hcv := B7g (g := wg) (m := wm) (Option.not_isSome_iff_eq_none.1 (by rw [hb]; decide))
     refine L5 hs ?_
     refine L5 hs ?_
     refine L5 hs ?_
     refine D2 hs rfl (E2 rfl rfl) rfl ?_
     refine fm_ hs ?_
     refine L5 hs ?_
     refine T9 hs ?_
     refine L5 hs ?_
     refine D2 hs rfl (E2 rfl rfl) rfl ?_
     refine fm_ hs ?_
     refine L5 hs ?_
     refine T9 hs ?_
     refine L5 hs ?_
     refine T9 hs ?_
     refine L5 hs ?_
     refine D2 hs rfl (E2 rfl rfl) rfl ?_
     refine fm_ hs ?_
     refine L5 hs ?_
     refine T9 hs ?_
     refine L5 hs ?_
     refine D2 hs rfl (E2 rfl rfl) rfl ?_
     refine fm_ hs ?_
     refine L5 hs ?_
     refine T9 hs ?_
     refine L5 hs ?_
     refine T9 hs ?_
     refine L5 hs ?_
     refine T9 hs ?_
     refine L5 hs ?_
     refine T9 hs ?_
     refine L5 hs ?_
     refine D2 hs rfl (E2 rfl rfl) rfl ?_
     refine fa_ hs ?_
     refine E4 (D8 8) (C1 ?_)
     exact ⟨_, [], [], I2 rfl rfl, List.nil_sublist _, by simp, by rw [A2q hr, hcv], rfl, rfl⟩
   ·
    have hcv := B7f (p := wp) (m := wm) (Option.not_isSome_iff_eq_none.1 (by rw [hb]; decide))
    refine L5 hs ?_
    refine D2 hs rfl (E2 rfl rfl) rfl ?_
    refine fm_ hs ?_
    refine L5 hs ?_
    refine L5 hs ?_
    refine L5 hs ?_
    refine D2 hs rfl (E2 rfl rfl) rfl ?_
    refine fm_ hs ?_
    refine L5 hs ?_
    refine T9 hs ?_
    refine L5 hs ?_
    refine D2 hs rfl (E2 rfl rfl) rfl ?_
    refine fm_ hs ?_
    refine L5 hs ?_
    refine T9 hs ?_
    refine L5 hs ?_
    refine T9 hs ?_
    refine L5 hs ?_
    refine D2 hs rfl (E2 rfl rfl) rfl ?_
    refine fm_ hs ?_
    refine L5 hs ?_
    refine T9 hs ?_
    refine L5 hs ?_
    refine D2 hs rfl (E2 rfl rfl) rfl ?_
    refine fm_ hs ?_
    refine L5 hs ?_
    refine T9 hs ?_
    refine L5 hs ?_
    refine T9 hs ?_
    refine L5 hs ?_
    refine T9 hs ?_
    refine L5 hs ?_
    refine T9 hs ?_
    refine L5 hs ?_
    refine D2 hs rfl (E2 rfl rfl) rfl ?_
    refine fa_ hs ?_
    refine E4 (D8 8) (C1 ?_)
    exact ⟨_, [], [], I2 rfl rfl, List.nil_sublist _, by simp, by rw [A2q hr, hcv], rfl, rfl⟩

end Go.Proofs.YthbhpfefdnffaaaGreatDoor
set_option maxRecDepth 10000
namespace Go.Ed
variable {n : Nat} [NeZero n]
theorem A4k {x y d : Fin n} (h : y*y - x*x = 1 + d*x*x*y*y) : x*x*(1 + d*(y*y)) = y*y - 1 := by grind
theorem C0v (x2 y2 x3 y3 d : Fin n) (h2 : y2*y2 - x2*x2 = 1 + d*x2*x2*y2*y2) (h3 : y3*y3 - x3*x3 = 1 + d*x3*x3*y3*y3) :
    (1 + d*(y2*y2))*(1 + d*(y3*y3))*((1 - y2*y3 - (d*x2*x3*y2*y3 + x2*x3))*(1 - y2*y3 + (d*x2*x3*y2*y3 + x2*x3))) = (y2 - y3)*(y2 - y3)*((1 + d)*(1 + d*(y2*y3)*(y2*y3))) := by
  have e2 := A4k h2
  have e3 := A4k h3
  have e : (1 + d*(y2*y2))*(1 + d*(y3*y3))*((1 - y2*y3 - (d*x2*x3*y2*y3 + x2*x3))*(1 - y2*y3 + (d*x2*x3*y2*y3 + x2*x3))) = (1 + d*(y2*y2))*(1 + d*(y3*y3))*((1 - y2*y3)*(1 - y2*y3)) - (x2*x2*(1 + d*(y2*y2)))*(x3*x3*(1 + d*(y3*y3)))*((1 + d*(y2*y3))*(1 + d*(y2*y3))) := by clear h2 h3 e2 e3; grind
  rw [e, e2, e3]
  clear h2 h3 e2 e3 e
  grind
theorem C0w (x2 y2 x3 y3 d : Fin n) (h2 : y2*y2 - x2*x2 = 1 + d*x2*x2*y2*y2) (h3 : y3*y3 - x3*x3 = 1 + d*x3*x3*y3*y3) :
    (1 + d*(y2*y2))*(1 + d*(y3*y3))*((1 + y2*y3 + (x2*x3 - d*x2*x3*y2*y3))*(1 + y2*y3 - (x2*x3 - d*x2*x3*y2*y3))) = (y2 + y3)*(y2 + y3)*((1 + d)*(1 + d*(y2*y3)*(y2*y3))) := by
  have e2 := A4k h2
  have e3 := A4k h3
  have e : (1 + d*(y2*y2))*(1 + d*(y3*y3))*((1 + y2*y3 + (x2*x3 - d*x2*x3*y2*y3))*(1 + y2*y3 - (x2*x3 - d*x2*x3*y2*y3))) = (1 + d*(y2*y2))*(1 + d*(y3*y3))*((1 + y2*y3)*(1 + y2*y3)) - (x2*x2*(1 + d*(y2*y2)))*(x3*x3*(1 + d*(y3*y3)))*((1 - d*(y2*y3))*(1 - d*(y2*y3))) := by clear h2 h3 e2 e3; grind
  rw [e, e2, e3]
  clear h2 h3 e2 e3 e
  grind
theorem pf1 {m k t S t2 : Fin n} (h : 1 - t = t2) (s : S*t2 = m + k) : 1 - m - (t + k) = (1 - S)*t2 := by grind
theorem pf2 {m k t y t1 : Fin n} (h : 1 + t = t1) (s : y*t1 = m - k) : 1 - m + (t + k) = (1 - y)*t1 := by grind
theorem pf3 {m k t S t2 : Fin n} (h : 1 - t = t2) (s : S*t2 = m + k) : 1 + m + (k - t) = (1 + S)*t2 := by grind
theorem pf4 {m k t y t1 : Fin n} (h : 1 + t = t1) (s : y*t1 = m - k) : 1 + m - (k - t) = (1 + y)*t1 := by grind
theorem pf5 {a b y z : Fin n} : (b*(1 + z) - b*(1 - z))*(a*(1 + y) + a*(1 - y)) + (b*(1 + z) + b*(1 - z))*(a*(1 + y) - a*(1 - y)) = 4*(a*b)*(y + z) := by grind
theorem pf6 {a b y z : Fin n} : (b*(1 + z) - b*(1 - z))*(a*(1 + y) + a*(1 - y)) - (b*(1 + z) + b*(1 - z))*(a*(1 + y) - a*(1 - y)) = 4*(a*b)*(z - y) := by grind
theorem pf7 {Y L M I : Fin n} (h : L = Y*M) (hi : M*I = 1) : Y = L*I := by grind
theorem pf8 {c y a2 a3 S t2 t1 v I : Fin n} (h : y*y = a2*a3*((1 + S)*t2*((1 + v)*t1))*I) : 4*c*y*(4*c*y) = 16*(c*c)*(t1*t2)*(a2*a3)*I*(1 + v)*(1 + S) := by
  have : 4*c*y*(4*c*y) = 16*(c*c)*(y*y) := by grind
  rw [this, h]; clear this h; grind
theorem pf9 {c y a2 a3 S t2 t1 v I u : Fin n} (h : y*y = a2*a3*((1 - S)*t2*((1 - v)*t1))*I) (hu : u*(1 - v) = 1 + v) : u*(4*c*y*(4*c*y)) = 16*(c*c)*(t1*t2)*(a2*a3)*I*(1 + v)*(1 - S) := by
  have e : u*(4*c*y*(4*c*y)) = u*(16*(c*c)*(y*y)) := by clear h hu; grind
  have e2 : u*(16*(c*c)*(a2*a3*((1 - S)*t2*((1 - v)*t1))*I)) = (u*(1 - v))*(16*(c*c)*(a2*a3*((1 - S)*t2*t1)*I)) := by clear h hu e; grind
  rw [e, h, e2, hu]; clear h hu e e2; grind
theorem pg1 {a y : Fin n} : (a*(1 + y) + a*(1 - y))*(a*(1 + y) + a*(1 - y)) = 4*(a*a) := by grind
theorem pg2 {a y : Fin n} : (a*(1 + y) - a*(1 - y))*(a*(1 + y) - a*(1 - y)) = 4*(a*a)*(y*y) := by grind
theorem pg3 {d k y : Fin n} (h : d*(k + 1) = -k) : (1 + d)*(1 + k*(1 - y*y)) = 1 + d*(y*y) := by grind
theorem pg4 {d w x y : Fin n} (h : (1 + d)*w = 1 + d*(y*y)) (hx : x*x*(1 + d*(y*y)) = y*y - 1) : (1 + d)*((1 + x*x)*w) = (1 + d)*(y*y) := by
  have : (1 + d)*((1 + x*x)*w) = (1 + x*x)*((1 + d)*w) := by clear h hx; grind
  rw [this, h]; clear this h; grind
theorem pg5 {d x y D S : Fin n} (he : y*y - x*x = 1 + d*x*x*y*y) (hD : 1 - d*x*x*y*y = D) (s : S*D = y*y + x*x) : D*(1 + S) = 2 + 2*(x*x) ∧ D*(1 - S) = 2 - 2*(y*y) := by
  have : D = 2 - y*y + x*x := by grind
  constructor
  · have : D*(1 + S) = D + S*D := by clear s he hD this; grind
    rw [this, s]; clear this s; grind
  · have : D*(1 - S) = D - S*D := by clear s he hD this; grind
    rw [this, s]; clear this s; grind
theorem pg6 {a w D S x y : Fin n} (g : D*(1 + S) = 2 + 2*(x*x)) (h : (1 + x*x)*w = y*y) : 4*(a*a)*(4*(a*a)*(y*y)) = 8*(a*a*(a*a))*w*D*(1 + S) := by
  have e : 8*(a*a*(a*a))*w*D*(1 + S) = 8*(a*a*(a*a))*w*(D*(1 + S)) := by clear g h; grind
  have e2 : 8*(a*a*(a*a))*w*(2 + 2*(x*x)) = 16*(a*a*(a*a))*((1 + x*x)*w) := by clear g h e; grind
  rw [e, g, e2, h]; clear g h e e2; grind
theorem pg7 {a k D S y : Fin n} (g : D*(1 - S) = 2 - 2*(y*y)) : (4*(a*a) - 4*(a*a)*(y*y))*(4*(a*a) + k*(4*(a*a) - 4*(a*a)*(y*y))) = 8*(a*a*(a*a))*(1 + k*(1 - y*y))*D*(1 - S) := by
  have e : 8*(a*a*(a*a))*(1 + k*(1 - y*y))*D*(1 - S) = 8*(a*a*(a*a))*(1 + k*(1 - y*y))*(D*(1 - S)) := by clear g; grind
  rw [e, g]; clear g e; grind
variable {d : Fin n} (F : Fld n d)
structure RepU (X Z : Fin n) (P : Fin n × Fin n) : Prop where
  ex : ∃ c, c ≠ 0 ∧ X = c * (1 + P.2) ∧ Z = c * (1 - P.2)
include F
theorem Fld.four : (4 : Fin n) ≠ 0 := fun h => F.two ((F.mul0 2 2 (by grind)).elim id id)
theorem Fld.a_ne (y : Fin n) : 1 + d*(y*y) ≠ 0 := fun h => F.dy_ne (y := y) (by grind)
theorem Fld.rep_dif {A B C D u yD : Fin n} {P Q : Fin n × Fin n} (hP : On d P) (hQ : On d Q) (h1 : RepU A B P) (h2 : RepU C D Q) (hD : yD*(1 + d*P.1*Q.1*P.2*Q.2) = P.2*Q.2 - P.1*Q.1) (hu : u*(1 - yD) = 1 + yD) (hy : 1 + yD ≠ 0) {p q da cb : Fin n} (hp : p = A + B) (hq : q = A - B) (hda : da = (C - D)*p) (hcb : cb = (C + D)*q) :
    RepU ((da + cb)*(da + cb)) (u*((da - cb)*(da - cb))) (F.add P Q) := by
  obtain ⟨a, ha, rfl, rfl⟩ := h1
  obtain ⟨b, hb, rfl, rfl⟩ := h2
  obtain ⟨k1, k2⟩ := F.complete hP hQ
  obtain ⟨-, s2⟩ := F.add_spec hP hQ
  have hL := C0v P.1 P.2 Q.1 Q.2 d hP.eq hQ.eq
  have hR := C0w P.1 P.2 Q.1 Q.2 d hP.eq hQ.eq
  have n2 := F.a_ne P.2
  have n3 := F.a_ne Q.2
  have n4 : (1 + d) ≠ 0 := by have := F.a_ne 1; rwa [show d * ((1 : Fin n) * 1) = d by grind] at this
  have n5 : 1 + d*(P.2*Q.2)*(P.2*Q.2) ≠ 0 := by have := F.a_ne (P.2*Q.2); rwa [← show d*(P.2*Q.2)*(P.2*Q.2) = d*((P.2*Q.2)*(P.2*Q.2)) by grind] at this
  have n6 := F.mul_ne n4 n5
  have hi := F.hinv _ n6
  generalize F.add P Q = S at *
  have hI : F.inv ((1 + d)*(1 + d*(P.2*Q.2)*(P.2*Q.2))) ≠ 0 := fun h => by rw [h] at hi; exact F.one (by rw [← hi]; grind)
  rw [pf1 (S := S.2) rfl s2, pf2 rfl hD] at hL
  rw [pf3 (S := S.2) rfl s2, pf4 rfl hD] at hR
  have g : (16 : Fin n) ≠ 0 := fun h => F.four ((F.mul0 4 4 (by grind)).elim id id)
  refine ⟨16*(a*b*(a*b))*((1 + d*P.1*Q.1*P.2*Q.2)*(1 - d*P.1*Q.1*P.2*Q.2))*((1 + d*(P.2*P.2))*(1 + d*(Q.2*Q.2)))*F.inv ((1 + d)*(1 + d*(P.2*Q.2)*(P.2*Q.2)))*(1 + yD), ?_, ?_, ?_⟩
  · exact F.mul_ne (F.mul_ne (F.mul_ne (F.mul_ne (F.mul_ne g (F.mul_ne (F.mul_ne ha hb) (F.mul_ne ha hb))) (F.mul_ne k1 k2)) (F.mul_ne n2 n3)) hI) hy
  · subst hp hq hda hcb
    rw [pf5]
    exact pf8 (pf7 hR hi)
  · subst hp hq hda hcb
    rw [pf6]
    have e : (Q.2 - P.2)*(Q.2 - P.2) = (P.2 - Q.2)*(P.2 - Q.2) := by clear hL hR hi s2 hD hu; grind
    exact pf9 (e.trans (pf7 hL hi)) hu
theorem Fld.rep_dbl {A B k : Fin n} {P : Fin n × Fin n} (hP : On d P) (h1 : RepU A B P) (hk : d*(k + 1) = -k) {ss tt : Fin n} (hs : ss = (A + B)*(A + B)) (ht : tt = (A - B)*(A - B)) :
    RepU (ss*tt) ((ss - tt)*(ss + k*(ss - tt))) (F.add P P) := by
  obtain ⟨a, ha, rfl, rfl⟩ := h1
  obtain ⟨k1, k2⟩ := F.complete hP hP
  obtain ⟨-, s2⟩ := F.add_spec hP hP
  have n2 := F.a_ne P.2
  have n4 : (1 + d) ≠ 0 := by have := F.a_ne 1; rwa [show d * ((1 : Fin n) * 1) = d by grind] at this
  have hk1 := pg3 (y := P.2) hk
  have hw : 1 + k*(1 - P.2*P.2) ≠ 0 := fun h => by rw [h] at hk1; exact n2 (by rw [← hk1]; grind)
  have hx1 := F.cancel n4 (pg4 hk1 (A4k hP.eq))
  obtain ⟨g1, g2⟩ := pg5 hP.eq rfl s2
  rw [pg1] at hs
  rw [pg2] at ht
  subst hs ht
  have g : (8 : Fin n) ≠ 0 := fun h => F.two ((F.mul0 2 4 (by grind)).elim id fun h => absurd h F.four)
  exact ⟨8*(a*a*(a*a))*(1 + k*(1 - P.2*P.2))*(1 - d*P.1*P.1*P.2*P.2), F.mul_ne (F.mul_ne (F.mul_ne g (F.mul_ne (F.mul_ne ha ha) (F.mul_ne ha ha))) hw) k2, pg6 g1 hx1, pg7 g2⟩
theorem Fld.add_neg {P : Fin n × Fin n} (hP : On d P) : On d (-P.1, P.2) ∧ F.add P (-P.1, P.2) = ((0 : Fin n), (1 : Fin n)) := by
  have he := hP.eq
  have ho : On d (-P.1, P.2) := ⟨by show P.2*P.2 - -P.1 * -P.1 = 1 + d * -P.1 * -P.1 * P.2 * P.2; grind⟩
  refine ⟨ho, F.add_eq hP ho ?_ ?_⟩
  · show 0 * (1 + d*P.1* -P.1*P.2*P.2) = P.1*P.2 + -P.1*P.2; grind
  · show 1 * (1 - d*P.1* -P.1*P.2*P.2) = P.2*P.2 + P.1* -P.1; grind
theorem Fld.dif {P Q : Fin n × Fin n} (hP : On d P) (hQ : On d Q) : Q.2*(1 + d*P.1*(F.add P Q).1*P.2*(F.add P Q).2) = P.2*(F.add P Q).2 - P.1*(F.add P Q).1 := by
  obtain ⟨o, e⟩ := F.add_neg hP
  have hS := F.add_on hP hQ
  have e2 : F.add (F.add P Q) (-P.1, P.2) = Q := by
    rw [F.add_comm P Q, F.add_assoc hQ hP o, e, F.add_o]
  have h := (F.add_spec hS o).2
  rw [e2] at h
  dsimp only at h
  generalize F.add P Q = S at *
  clear e2 e hS
  grind
end Go.Ed

