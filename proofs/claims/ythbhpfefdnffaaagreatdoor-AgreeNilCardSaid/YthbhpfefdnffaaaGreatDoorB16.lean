/- Part 16 of the texts of this claim, one behind the other. -/
import Derived.Test.YthbhpfefdnffaaaGreatDoorB15
import Derived.Test.YthbhpfefdnffaaaGreatDoorRows
set_option linter.unusedVariables false
set_option linter.unusedSimpArgs false
set_option maxRecDepth 100000
namespace Go.Proofs.YthbhpfefdnffaaaGreatDoor
open Go.Px Go.Ed
theorem A8o : Go.Px.IsPr 531581 := A64 730 (by decide) (by decide) (by decide +kernel)
theorem A6q : Go.Px.IsPr 1224481 := A64 1107 (by decide) (by decide) (by decide +kernel)
theorem prL1 : Go.Px.IsPr 1257559732178653 := A84 (F := 531581 * 1224481) (by decide) (by decide) fun s hs hd => X0 A8o A6q (by decide) (H5 (a := 2) (by decide) (by decide) A8o (by decide +kernel) s hs hd) (H5 (a := 2) (by decide) (by decide) A6q (by decide +kernel) s hs hd)
theorem prL2 : Go.Px.IsPr 4434155615661930479 := A84 (F := 1257559732178653) (by decide) (by decide) (H5 (a := 2) (by decide) (by decide) prL1 (by decide +kernel))
theorem prL3 : Go.Px.IsPr 172054593956031949258510691 := A84 (F := 4434155615661930479) (by decide) (by decide) (H5 (a := 2) (by decide) (by decide) prL2 (by decide +kernel))
theorem prL4 : Go.Px.IsPr 19757330305831588566944191468367130476339 := A84 (F := 172054593956031949258510691) (by decide) (by decide) (H5 (a := 2) (by decide) (by decide) prL3 (by decide +kernel))
theorem prL5 : Go.Px.IsPr 276602624281642239937218680557139826668747 := A84 (F := 19757330305831588566944191468367130476339) (by decide) (by decide) (H5 (a := 2) (by decide) (by decide) prL4 (by decide +kernel))
theorem prL : Go.Px.IsPr lN := A84 (F := 276602624281642239937218680557139826668747) (by decide) (by decide) (H5 (a := 2) (by decide) (by decide) prL5 (by decide +kernel))
structure LR (P : Fin p25 × Fin p25) (s : Lad) (m1 m2 : Nat) : Prop where
  r1 : RepU (fF s.a) (fF s.b) (FF.nsm m1 P)
  r2 : RepU (fF s.c) (fF s.d) (FF.nsm m2 P)
  la : s.a < p25
  lb : s.b < p25
  lc : s.c < p25
  ld : s.d < p25
theorem LR.sw {P : Fin p25 × Fin p25} {s : Lad} {m1 m2 : Nat} (h : LR P s m1 m2) : LR P ⟨s.c, s.d, s.a, s.b⟩ m2 m1 := ⟨h.r2, h.r1, h.lc, h.ld, h.la, h.lb⟩
theorem C0x : fF dN * (fF 121665 + 1) = -fF 121665 := by decide +kernel
theorem LR.step {P : Fin p25 × Fin p25} {u : Nat} {s : Lad} {m1 m2 : Nat} (hP : On (fF dN) P) (hU : fF u * (1 - P.2) = 1 + P.2) (h2 : 1 + P.2 ≠ 0) (h : LR P s m1 m2) (hm : m2 = m1 + 1 ∨ m1 = m2 + 1) : LR P (B1d u s) (m1 + m1) (m1 + m2) := by
  have o1 := FF.nsm_on hP m1
  have o2 := FF.nsm_on hP m2
  have hD : P.2*(1 + fF dN*(FF.nsm m1 P).1*(FF.nsm m2 P).1*(FF.nsm m1 P).2*(FF.nsm m2 P).2) = (FF.nsm m1 P).2*(FF.nsm m2 P).2 - (FF.nsm m1 P).1*(FF.nsm m2 P).1 := by
    rcases hm with rfl | rfl
    · exact FF.dif o1 hP
    · have h1 := FF.dif o2 hP
      rw [← FF.nsm_succ] at h1
      generalize FF.nsm m2 P = Q at *
      generalize FF.nsm (m2 + 1) P = R at *
      have e1 : fF dN*R.1*Q.1*R.2*Q.2 = fF dN*Q.1*R.1*Q.2*R.2 := by clear h1 h hU; grind
      have e2 : R.2*Q.2 - R.1*Q.1 = Q.2*R.2 - Q.1*R.1 := by clear h1 h hU; grind
      rw [e1, e2]; exact h1
  refine ⟨?_, ?_, X7 _ _, X7 _ _, X7 _ _, X7 _ _⟩
  · rw [FF.nsm_add hP]
    show RepU (fF (fM (fM (fA s.a s.b) (fA s.a s.b)) (fM (fS s.a s.b) (fS s.a s.b)))) (fF (fM (fS (fM (fA s.a s.b) (fA s.a s.b)) (fM (fS s.a s.b) (fS s.a s.b))) (fA (fM (fA s.a s.b) (fA s.a s.b)) (fM 121665 (fS (fM (fA s.a s.b) (fA s.a s.b)) (fM (fS s.a s.b) (fS s.a s.b))))))) _
    rw [A0Z, A0Z (fS _ _) (fA _ _), B02, A0Z 121665, B2d (X7 _ _)]
    exact FF.rep_dbl o1 h.r1 C0x (by rw [A0Z, B02]) (by rw [A0Z, B2d h.lb])
  · rw [FF.nsm_add hP]
    show RepU (fF (fM (fA (fM (fS s.c s.d) (fA s.a s.b)) (fM (fA s.c s.d) (fS s.a s.b))) (fA (fM (fS s.c s.d) (fA s.a s.b)) (fM (fA s.c s.d) (fS s.a s.b))))) (fF (fM u (fM (fS (fM (fS s.c s.d) (fA s.a s.b)) (fM (fA s.c s.d) (fS s.a s.b))) (fS (fM (fS s.c s.d) (fA s.a s.b)) (fM (fA s.c s.d) (fS s.a s.b)))))) _
    rw [A0Z (fA _ _), A0Z u, A0Z (fS _ _) (fS _ _), B02 (fM _ _), B2d (X7 _ _)]
    exact FF.rep_dif o1 o2 h.r1 h.r2 hD hU h2 (p := fF s.a + fF s.b) (q := fF s.a - fF s.b) rfl rfl (by rw [A0Z, B2d h.ld, B02]) (by rw [A0Z, B02, B2d h.lb])
theorem B1q {P : Fin p25 × Fin p25} {u : Nat} (hP : On (fF dN) P) (hu : u < p25) (hU : fF u * (1 - P.2) = 1 + P.2) (h1 : 1 - P.2 ≠ 0) (h2 : 1 + P.2 ≠ 0) {n : Nat} (hn : n < 2 ^ 255) : ∀ k, k ≤ 255 → LR P (A1U u n k) (n / 2 ^ (255 - k)) (n / 2 ^ (255 - k) + 1)
  | 0, _ => by
    rw [Nat.div_eq_of_lt hn]
    have i2 := FF.hinv _ FF.two
    have i1 := FF.hinv _ h1
    have ne : ∀ {a : Fin p25}, a ≠ 0 → FF.inv a ≠ 0 := fun {a} ha h => by
      have := FF.hinv _ ha
      rw [h] at this
      exact FF.one (by rw [← this]; grind)
    refine ⟨⟨FF.inv 2, ne FF.two, ?_, ?_⟩, ⟨FF.inv (1 - P.2), ne h1, ?_, ?_⟩, by show 1 < p25; decide, by show 0 < p25; decide, hu, by show 1 < p25; decide⟩
    · show fF 1 = FF.inv 2 * (1 + 1)
      rw [show (1 : Fin p25) + 1 = 2 from rfl, ← show (2 : Fin p25) * FF.inv 2 = FF.inv 2 * 2 by grind, i2]; rfl
    · show fF 0 = FF.inv 2 * (1 - 1)
      rw [show (1 : Fin p25) - 1 = 0 from rfl, show FF.inv 2 * (0 : Fin p25) = 0 by grind]; rfl
    · show fF u = FF.inv (1 - P.2) * (1 + (FF.add ((0 : Fin p25), (1 : Fin p25)) P).2)
      rw [FF.add_comm, FF.add_o, ← hU]
      have : FF.inv (1 - P.2) * (fF u * (1 - P.2)) = fF u * ((1 - P.2) * FF.inv (1 - P.2)) := by clear i1 i2 hU; grind
      rw [this, i1]; grind
    · show fF 1 = FF.inv (1 - P.2) * (1 - (FF.add ((0 : Fin p25), (1 : Fin p25)) P).2)
      rw [FF.add_comm, FF.add_o]
      have : FF.inv (1 - P.2) * (1 - P.2) = (1 - P.2) * FF.inv (1 - P.2) := by clear i1 i2 hU; grind
      rw [this, i1]; rfl
  | k + 1, hk => by
    have ih := B1q hP hu hU h1 h2 hn k (by omega)
    have e1 : 255 - (k + 1) = 254 - k := by omega
    have e2 : n / 2 ^ (254 - k) = 2 * (n / 2 ^ (255 - k)) + n / 2 ^ (254 - k) % 2 := by
      have e3 : n / 2 ^ (255 - k) = n / 2 ^ (254 - k) / 2 := by rw [Nat.div_div_eq_div_mul, ← Nat.pow_succ]; congr 2; omega
      rw [e3]; omega
    rw [e1, e2]
    generalize n / 2 ^ (255 - k) = m at *
    show LR P (swL (decide (n / 2 ^ (254 - k) % 2 = 1)) (B1d u (swL (decide (n / 2 ^ (254 - k) % 2 = 1)) (A1U u n k)))) _ _
    by_cases hb : n / 2 ^ (254 - k) % 2 = 1
    · rw [hb]
      have h3 := (ih.sw.step hP hU h2 (.inr rfl)).sw
      rw [show m + 1 + m = 2 * m + 1 by omega, show m + 1 + (m + 1) = 2 * m + 1 + 1 by omega] at h3
      exact h3
    · rw [show n / 2 ^ (254 - k) % 2 = 0 by omega]
      have h3 := ih.step hP hU h2 (.inl rfl)
      rw [show m + m = 2 * m + 0 by omega, show m + (m + 1) = 2 * m + 0 + 1 by omega] at h3
      exact h3
noncomputable def uOf (P : Fin p25 × Fin p25) : Fin p25 := (1 + P.2) * FF.inv (1 - P.2)
theorem B3N : FF.inv 0 = 0 := by
  show fF (fI (0 : Fin p25).val) = 0
  rw [A85, A4h (by decide)]
  decide +kernel
theorem B9e {P : Fin p25 × Fin p25} {u : Nat} (hP : On (fF dN) P) (hu : u < p25) (hU : fF u * (1 - P.2) = 1 + P.2) (h1 : 1 - P.2 ≠ 0) (h2 : 1 + P.2 ≠ 0) {n : Nat} (hn : n < 2 ^ 255) : fM (A1U u n 255).a (fI (A1U u n 255).b) = (uOf (FF.nsm n P)).val := by
  have h := B1q hP hu hU h1 h2 hn 255 (Nat.le_refl _)
  rw [show 255 - 255 = 0 from rfl, Nat.pow_zero, Nat.div_one] at h
  obtain ⟨c, hc, e1, e2⟩ := h.r1
  have hb := h.lb
  generalize A1U u n 255 = s at *
  have e3 : fF (fM s.a (fI s.b)) = uOf (FF.nsm n P) := by
    rw [A0Z, e1]
    have e4 : fF (fI s.b) = FF.inv (fF s.b) := by
      show _ = fF (fI (fF s.b).val)
      rw [A0v, Nat.mod_eq_of_lt hb]
    rw [e4, e2]
    unfold uOf
    generalize (FF.nsm n P).2 = y
    by_cases hy : 1 - y = 0
    · rw [hy, show c * (0 : Fin p25) = 0 by grind, B3N]; grind
    · have i1 := FF.hinv _ hy
      have i2 := FF.hinv _ (FF.mul_ne hc hy)
      have i3 : c * FF.inv (c * (1 - y)) = FF.inv (1 - y) := by
        refine FF.cancel hy ?_
        have e : (1 - y) * (c * FF.inv (c * (1 - y))) = c * (1 - y) * FF.inv (c * (1 - y)) := by
          generalize FF.inv (c * (1 - y)) = z
          clear i1 i2 e1 e2 e4
          grind
        rw [e, i2, i1]
      have : c * (1 + y) * FF.inv (c * (1 - y)) = (1 + y) * (c * FF.inv (c * (1 - y))) := by clear i1 i2 i3 e1 e2 e4; grind
      rw [this, i3]
  have := congrArg Fin.val e3
  rw [A0v, Nat.mod_eq_of_lt (X7 _ _)] at this
  exact this
theorem B7h {B : Fin p25 × Fin p25} (hB : On (fF dN) B) (hne : B ≠ ((0 : Fin p25), (1 : Fin p25))) (hL : FF.nsm lN B = ((0 : Fin p25), (1 : Fin p25))) {j : Nat} (h : FF.nsm j B = ((0 : Fin p25), (1 : Fin p25))) : lN ∣ j := by
  apply Decidable.byContradiction
  intro hd
  have hc := prL.cop hd
  -- gcd: some a * j = 1 + b * lN
  have key : ∀ a b : Nat, FF.nsm a B = ((0 : Fin p25), (1 : Fin p25)) → FF.nsm b B = ((0 : Fin p25), (1 : Fin p25)) → FF.nsm (Nat.gcd a b) B = ((0 : Fin p25), (1 : Fin p25)) := by
    intro a b
    induction a, b using Nat.gcd.induction with
    | H0 b => intro _ h; rwa [Nat.gcd_zero_left]
    | H1 a b ha ih =>
      intro h1 h2
      rw [Nat.gcd_rec]
      refine ih ?_ h1
      rw [FF.nsm_mod hB h1]; exact h2
  have h1 := key lN j hL h
  rw [hc] at h1
  apply hne
  have : FF.nsm 1 B = FF.add ((0 : Fin p25), (1 : Fin p25)) B := rfl
  rw [this, FF.add_comm, FF.add_o] at h1
  exact h1
theorem C0y {P : Fin p25 × Fin p25} (hP : On (fF dN) P) (h : P.2 * P.2 = 1) : FF.add P P = ((0 : Fin p25), (1 : Fin p25)) := by
  have hx := A4k hP.eq
  rw [h] at hx
  have hx0 : P.1 * P.1 * (1 + fF dN * 1) = 0 := by rw [hx]; grind
  have hn := FF.a_ne 1
  rw [show (1 : Fin p25) * 1 = 1 from rfl] at hn
  have h1 : P.1 * P.1 = 0 := (FF.mul0 _ _ hx0).resolve_right hn
  have h2 : P.1 = 0 := (FF.mul0 _ _ h1).elim id id
  obtain ⟨x, y⟩ := P
  dsimp only at h h2
  subst h2
  refine FF.add_eq hP hP ?_ ?_
  · show 0 * _ = 0 * y + 0 * y; grind
  · show 1 * (1 - fF dN * 0 * 0 * y * y) = y * y + 0 * 0
    rw [h]; grind
theorem y_ok {B : Fin p25 × Fin p25} (hB : On (fF dN) B) (hne : B ≠ ((0 : Fin p25), (1 : Fin p25))) (hL : FF.nsm lN B = ((0 : Fin p25), (1 : Fin p25))) {j : Nat} (hj : ¬ lN ∣ j + j) : 1 - (FF.nsm j B).2 ≠ 0 ∧ 1 + (FF.nsm j B).2 ≠ 0 := by
  have key : (FF.nsm j B).2 * (FF.nsm j B).2 ≠ 1 := fun h => hj (B7h hB hne hL (by rw [FF.nsm_add hB]; exact C0y (FF.nsm_on hB j) h))
  exact ⟨fun h => key (by grind), fun h => key (by grind)⟩
theorem B3O {B : Fin p25 × Fin p25} {b : Nat} (hB : On (fF dN) B) (hne : B ≠ ((0 : Fin p25), (1 : Fin p25))) (hL : FF.nsm lN B = ((0 : Fin p25), (1 : Fin p25))) (hb : b < p25) (hU : fF b * (1 - B.2) = 1 + B.2) (h1 : 1 - B.2 ≠ 0) (h2 : 1 + B.2 ≠ 0) {m k : Nat} (hm : m < 2 ^ 255) (hk : k < 2 ^ 255) (jm : ¬ lN ∣ m + m) (jk : ¬ lN ∣ k + k) {um uk : Nat} (em : um = fM (A1U b m 255).a (fI (A1U b m 255).b)) (ek : uk = fM (A1U b k 255).a (fI (A1U b k 255).b)) :
    fM (A1U um k 255).a (fI (A1U um k 255).b) = fM (A1U uk m 255).a (fI (A1U uk m 255).b) := by
  have go : ∀ {m k um : Nat}, m < 2 ^ 255 → k < 2 ^ 255 → ¬ lN ∣ m + m → um = fM (A1U b m 255).a (fI (A1U b m 255).b) → fM (A1U um k 255).a (fI (A1U um k 255).b) = (uOf (FF.nsm (k * m) B)).val := by
    intro m k um hm hk jm em
    rw [B9e hB hb hU h1 h2 hm] at em
    obtain ⟨y1, y2⟩ := y_ok hB hne hL jm
    rw [FF.nsm_mul hB]
    refine B9e (FF.nsm_on hB m) (by rw [em]; exact (uOf _).isLt) ?_ y1 y2 hk
    rw [em, A2w]
    unfold uOf
    have i1 := FF.hinv _ y1
    generalize (FF.nsm m B).2 = y at *
    have : (1 + y) * FF.inv (1 - y) * (1 - y) = (1 + y) * ((1 - y) * FF.inv (1 - y)) := by clear i1 hU; grind
    rw [this, i1]; grind
  rw [go hm hk jm em, go hk hm jk ek, Nat.mul_comm]
theorem rd32 {v : Nat} (h : v < p25) : rdN (W8 8 32 v 255) = v := by
  unfold rdN
  rw [if_pos (L0 _ _ _ _), A42, show (57896044618658097711785492504343953926634992332820282019728792003956564819968 : Nat) = 2 ^ 255 from rfl, Nat.mod_mod, Nat.mod_eq_of_lt (a := v) (b := 2 ^ 255) (Nat.lt_trans h (by decide)), Nat.mod_eq_of_lt h]
theorem B3P (x : Nat) : (x &&& 248) % 8 = 0 := by
  have := Nat.and_mod_two_pow (a := x) (b := 248) (n := 3)
  rw [show (2 : Nat) ^ 3 = 8 from rfl] at this
  rw [this]; simp
theorem B3Q {w : List Nat} (h : ∀ x ∈ w, x < 256) : ∃ m, bv (I8 w) = 8 * m ∧ 2 ^ 251 ≤ m ∧ m < 2 ^ 252 := by
  have hl := A2e w
  have hlt := A6m h
  have hb := B6p hlt
  rw [hl] at hb
  have b0 := A63 hlt 0
  have b31 := A63 hlt 31
  have hf := T6 w 32
  have e0 : (I8 w).getD 0 0 = (T8 w 32).getD 0 0 &&& 248 := by
    unfold I8
    dsimp only
    rw [List.getD_eq_getElem?_getD, List.getElem?_set_ne (by decide), List.getElem?_set_self (by omega)]
    rfl
  have e31 : ∃ z, (I8 w).getD 31 0 = z % 128 ||| 64 := by
    refine ⟨((T8 w 32).set 0 ((T8 w 32).getD 0 0 &&& 248)).getD 31 0, ?_⟩
    unfold I8
    dsimp only
    rw [List.getD_eq_getElem?_getD, List.getElem?_set_self (by rw [List.length_set]; omega)]
    rfl
  obtain ⟨z, e31⟩ := e31
  rw [e0] at b0
  rw [e31] at b31
  have z1 : 64 ≤ z % 128 ||| 64 := Nat.right_le_or
  have z2 : z % 128 ||| 64 < 2 ^ 7 := Nat.or_lt_two_pow (Nat.mod_lt _ (by decide)) (by decide)
  have c8 := B3P ((T8 w 32).getD 0 0)
  generalize (T8 w 32).getD 0 0 &&& 248 = c at *
  generalize z % 128 ||| 64 = y at *
  generalize bv (I8 w) = b at *
  clear e0 e31 hl hlt hf
  rw [Nat.pow_zero, Nat.div_one] at b0
  have d31 : b / 256 ^ 31 < 256 := Nat.div_lt_of_lt_mul (by rw [← Nat.pow_succ]; exact hb)
  rw [Nat.mod_eq_of_lt d31] at b31
  have l1 : 64 * 256 ^ 31 ≤ b := by have := (Nat.le_div_iff_mul_le (show 0 < 256 ^ 31 by decide)).1 (show 64 ≤ b / 256 ^ 31 by omega); exact this
  have l2 : b < 128 * 256 ^ 31 := by have := (Nat.div_lt_iff_lt_mul (show 0 < 256 ^ 31 by decide)).1 (show b / 256 ^ 31 < 128 by omega); exact this
  have h8 : b % 8 = 0 := by omega
  refine ⟨b / 8, by omega, ?_, ?_⟩
  · have : (64 : Nat) * 256 ^ 31 = 8 * 2 ^ 251 := by decide
    omega
  · have : (128 : Nat) * 256 ^ 31 = 8 * 2 ^ 252 := by decide
    omega
theorem A8p {w : List Nat} (h : ∀ x ∈ w, x < 256) : bv (I8 w) < 2 ^ 255 ∧ ¬ lN ∣ bv (I8 w) + bv (I8 w) := by
  obtain ⟨m, e, h1, h2⟩ := B3Q h
  rw [e]
  refine ⟨by have : (2 : Nat) ^ 255 = 8 * 2 ^ 252 := by decide
             omega, fun hd => ?_⟩
  rw [show 8 * m + 8 * m = 16 * m by omega] at hd
  rcases prL.mul hd with h3 | h3
  · exact absurd (Nat.le_of_dvd (by decide) h3) (by decide)
  · have := Nat.le_of_dvd (by have : (0 : Nat) < 2 ^ 251 := by decide
                              omega) h3
    have : (2 : Nat) ^ 252 < lN := by decide
    omega
theorem b_u : fF 9 * (1 - bPt.2) = 1 + bPt.2 := by decide +kernel
theorem C0z : 1 - bPt.2 ≠ 0 ∧ 1 + bPt.2 ≠ 0 := by decide +kernel
theorem b_no : bPt ≠ ((0 : Fin p25), (1 : Fin p25)) := fun h => C0z.1 (by rw [h]; rfl)
theorem B7i : rdN B3F = 9 := by decide +kernel
theorem A6r {t : List Nat} : rdN (A0e t) = fM (A1U 9 (bv (I8 t)) 255).a (fI (A1U 9 (bv (I8 t)) 255).b) := by
  unfold A0e x25
  rw [B7i]
  exact rd32 (X7 _ _)
theorem B3R {s t : List Nat} (hs : ∀ x ∈ s, x < 256) (ht : ∀ x ∈ t, x < 256) : x25 s (A0e t) = x25 t (A0e s) := by
  obtain ⟨s1, s2⟩ := A8p hs
  obtain ⟨t1, t2⟩ := A8p ht
  unfold x25
  rw [B3O B5a b_no A7a (b := 9) (by decide) b_u C0z.1 C0z.2 t1 s1 t2 s2 (um := rdN (A0e t)) (uk := rdN (A0e s)) A6r A6r]

theorem B1r {w : List Nat} {n : Nat} (h : w.length = n) : T8 w n = w := by
  unfold T8; rw [List.take_of_length_le (by omega), h, Nat.sub_self]; simp
theorem B1s (w : List Nat) : (A0e w).length = 32 := A5f _ _
theorem B3S (x y : Int) : srt x y = srt y x := by
  unfold srt
  rcases Int.lt_trichotomy x y with h | h | h
  · rw [if_neg (by omega), if_pos h]
  · subst h; rfl
  · rw [if_pos h, if_neg (by omega)]
def B5o (i j : Nat) : Tm := ⟨4, srt ((i : Nat) : Int) ((j : Nat) : Int), [], 0⟩
theorem B7j {i j : Nat} (hi : i ≤ 1048576) (hj : j ≤ 1048576) : Tmo (B5o i j) := B0m (s := 0) (o := 0) (A1n _ _) (fun z hz => (B0l hz).elim (fun e => e ▸ A5i hi) (fun e => e ▸ A5i hj)) (.inl rfl)
def B7k (s : Ps) (a b k : List Nat) : Prop := ∃ i j m : Nat, i < s.ts.length ∧ j < s.ts.length ∧ a = bts ((i : Nat) : Int) ∧ b = bts ((j : Nat) : Int) ∧ s.ts[m]? = some (B5o i j) ∧ k = bts ((m : Nat) : Int)
def A3C (s : Ps) (a b k : List Nat) : Prop := if s.real then k = x25 (T8 a 32) (A0e (T8 b 32)) ∧ (∀ x ∈ a, x < 256) ∧ ∀ x ∈ b, x < 256 else B7k s a b k
theorem A3C.t {s : Ps} (h : s.real = true) {a b k : List Nat} : A3C s a b k ↔ k = x25 (T8 a 32) (A0e (T8 b 32)) ∧ (∀ x ∈ a, x < 256) ∧ ∀ x ∈ b, x < 256 := by unfold A3C; rw [if_pos h]
theorem A3C.f {s : Ps} (h : s.real = false) {a b k : List Nat} : A3C s a b k ↔ B7k s a b k := by unfold A3C; rw [if_neg (by rw [h]; decide)]
theorem B7k.ext {s s' : Ps} {a b k : List Nat} (h : B7k s a b k) (he : Pext s s') : B7k s' a b k := by
  obtain ⟨l, e⟩ := he.ts
  obtain ⟨i, j, m, h1, h2, h3, h4, h5, h6⟩ := h
  exact ⟨i, j, m, by rw [e, List.length_append]; omega, by rw [e, List.length_append]; omega, h3, h4, by rw [e]; exact A4d h5, h6⟩
theorem A3C.ext {s s' : Ps} {a b k : List Nat} (h : A3C s a b k) (he : Pext s s') : A3C s' a b k := by
  cases hr : s.real with
  | true => rw [A3C.t hr] at h; rw [A3C.t (he.real.trans hr)]; exact h
  | false => rw [A3C.f hr] at h; rw [A3C.f (he.real.trans hr)]; exact h.ext he
theorem A3C.comm {s : Ps} {a b k : List Nat} (h : A3C s a b k) : A3C s b a k := by
  cases hr : s.real with
  | true =>
    rw [A3C.t hr] at h ⊢
    refine ⟨?_, h.2.2, h.2.1⟩
    rw [h.1]
    exact B3R (A2c h.2.1 32) (A2c h.2.2 32)
  | false =>
    rw [A3C.f hr] at h ⊢
    obtain ⟨i, j, m, h1, h2, h3, h4, h5, h6⟩ := h
    exact ⟨j, i, m, h2, h1, h4, h3, by rw [h5]; unfold B5o; rw [B3S], h6⟩
theorem B7l {ts : List Tm} {i j p : Nat} (hp : ts[p]? = some (A9w ((j : Nat) : Int))) : agT ts ((i : Nat) : Int) ((p : Nat) : Int) = B5o i j := by
  rw [B0k (t := A9w ((j : Nat) : Int)) (by omega) (by rw [Int.toNat_natCast]; exact hp) ⟨rfl, rfl⟩]
  rfl
theorem B1t {s : Ps} {i j p : Nat} (hi : i < s.ts.length) (hp : s.ts[p]? = some (A9w ((j : Nat) : Int))) (hl : s.ts.length ≤ 1048576) :
    B6j s (bts ((i : Nat) : Int)) (bts ((p : Nat) : Int)) = { s with ts := add s.ts (B5o i j) } ∧ B7G s (bts ((i : Nat) : Int)) (bts ((p : Nat) : Int)) = bts ((at_ s.ts (B5o i j) : Nat) : Int) := by
  have hpl := (List.getElem?_eq_some_iff.1 hp).1
  obtain ⟨a1, a2⟩ := A4Y hi hl
  obtain ⟨b1, b2⟩ := A4Y hpl hl
  unfold B6j B7G
  rw [a1, a2, b1, b2, B7l hp]
  exact ⟨rfl, rfl⟩
theorem A2f {s : Ps} (h : s.real = true) (a B : List Nat) : L7 s a B = s ∧ A3A s a B = x25 (T8 a 32) (T8 B 32) := by unfold L7 A3A; rw [if_pos h, if_pos h]; exact ⟨rfl, rfl⟩
theorem A2g {s : Ps} (h : s.real = false) (a B : List Nat) : L7 s a B = B6j s a B ∧ A3A s a B = B7G s a B := by unfold L7 A3A; rw [if_neg (by rw [h]; decide), if_neg (by rw [h]; decide)]; exact ⟨rfl, rfl⟩
theorem B5p (s : Ps) (a B : List Nat) : Ext s (L7 s a B) := by
  cases hr : s.real with
  | true => rw [(A2f hr a B).1]; exact Ext.refl s
  | false =>
    rw [(A2g hr a B).1]
    obtain ⟨l1, e1⟩ := A1r s.ts a
    obtain ⟨l2, e2⟩ := A1r (rdT s.ts a) B
    obtain ⟨l3, e3⟩ := A7h (rdT (rdT s.ts a) B) (agT (rdT (rdT s.ts a) B) ((rdI s.ts a : Nat) : Int) ((rdI (rdT s.ts a) B : Nat) : Int))
    refine ⟨⟨rfl, l1 ++ (l2 ++ l3), ?_⟩, rfl, Nat.le_refl _⟩
    show add _ _ = _
    rw [e3, e2, e1]; simp
theorem T7 (s : Ps) (a B : List Nat) : (L7 s a B).ts.length ≤ s.ts.length + 3 := by
  cases hr : s.real with
  | true => rw [(A2f hr a B).1]; omega
  | false =>
    rw [(A2g hr a B).1]
    have h1 := T5 (ts := s.ts) (ws := a)
    have h2 := T5 (ts := rdT s.ts a) (ws := B)
    have h3 := A1m (ts := rdT (rdT s.ts a) B) (t := agT (rdT (rdT s.ts a) B) ((rdI s.ts a : Nat) : Int) ((rdI (rdT s.ts a) B : Nat) : Int))
    show (add _ _).length ≤ _
    omega
theorem B7m (s : Ps) (a B : List Nat) : (L7 s a B).n = s.n := by unfold L7; split <;> rfl
theorem Ar.agr {s : Ps} (h : Ar s.ts) (a B : List Nat) : Ar (L7 s a B).ts := by
  unfold L7
  split
  · exact h
  · refine ((h.rd a).rd B).add fun hk => ?_
    unfold agT at hk ⊢
    split <;> (try split) <;> (try split) <;> simp_all
theorem B9f {s : Ps} {a b B : List Nat} (ha : Kok s a) (hB : U1 s b B) (ht : Tok s.ts) (hl : s.ts.length ≤ 1048576) (h1 : ∀ x ∈ a, x < 256) (h2 : ∀ x ∈ b, x < 256) : A3C (L7 s a B) a b (A3A s a B) ∧ Tok (L7 s a B).ts := by
  cases hr : s.real with
  | true =>
    rw [(A2f hr a B).1, (A2f hr a B).2, A3C.t hr]
    unfold U1 at hB
    rw [if_pos hr] at hB
    rw [hB, B1r (B1s _)]
    exact ⟨⟨rfl, h1, h2⟩, ht⟩
  | false =>
    unfold U1 at hB
    rw [if_neg (by rw [hr]; decide)] at hB
    obtain ⟨i, hi, rfl⟩ := ha hr
    obtain ⟨j, p, hj, rfl, hp, rfl⟩ := hB
    obtain ⟨e1, e2⟩ := B1t hi hp hl
    rw [(A2g hr _ _).1, (A2g hr _ _).2, e1, e2]
    obtain ⟨l, g1, g2, g3, g4⟩ := A50 (B7j (show i ≤ 1048576 by omega) (show j ≤ 1048576 by omega)) ht
    exact ⟨(A3C.f (s := { s with ts := add s.ts (B5o i j) }) hr).2 ⟨i, j, _, by show i < (add s.ts _).length; rw [g1, List.length_append]; omega, by show j < (add s.ts _).length; rw [g1, List.length_append]; omega, rfl, rfl, g3, rfl⟩, g4⟩
theorem A3C.eq {s : Ps} {a b B k : List Nat} (h : A3C s a b k) (hB : U1 s b B) (ht : Tok s.ts) (hl : s.ts.length ≤ 1048576) : L7 s a B = s ∧ A3A s a B = k := by
  cases hr : s.real with
  | true =>
    rw [A3C.t hr] at h
    unfold U1 at hB
    rw [if_pos hr] at hB
    rw [(A2f hr a B).1, (A2f hr a B).2, hB, B1r (B1s _), h.1]
    exact ⟨rfl, rfl⟩
  | false =>
    rw [A3C.f hr] at h
    unfold U1 at hB
    rw [if_neg (by rw [hr]; decide)] at hB
    obtain ⟨i, j, m, g1, g2, rfl, rfl, g3, rfl⟩ := h
    obtain ⟨j', p, hj, e, hp, rfl⟩ := hB
    have := A4X (by omega) (by omega) e
    subst this
    obtain ⟨e1, e2⟩ := B1t g1 hp hl
    obtain ⟨e3, e4⟩ := B2T ht g3
    rw [(A2g hr _ _).1, (A2g hr _ _).2, e1, e2, e3, e4]
    exact ⟨rfl, rfl⟩
theorem B7k.inj {s : Ps} {a b a' b' k : List Nat} (h : B7k s a b k) (h' : B7k s a' b' k) (hl : s.ts.length ≤ 1048576) : (a = a' ∧ b = b') ∨ (a = b' ∧ b = a') := by
  obtain ⟨i, j, m, g1, g2, rfl, rfl, g3, rfl⟩ := h
  obtain ⟨i', j', m', f1, f2, rfl, rfl, f3, e⟩ := h'
  have b1 := (List.getElem?_eq_some_iff.1 g3).1
  have b2 := (List.getElem?_eq_some_iff.1 f3).1
  have := A4X (by omega) (by omega) e
  subst this
  rw [g3] at f3
  have e2 := Option.some.inj f3
  unfold B5o at e2
  injection e2 with _ e3 _ _
  unfold srt at e3
  have e4 : (i = i' ∧ j = j') ∨ (i = j' ∧ j = i') := by split at e3 <;> split at e3 <;> simp at e3 <;> omega
  rcases e4 with ⟨rfl, rfl⟩ | ⟨rfl, rfl⟩
  · exact .inl ⟨rfl, rfl⟩
  · exact .inr ⟨rfl, rfl⟩
def aw0 (r : Bool) : Ps := ⟨r, [115], 0, []⟩
noncomputable def aw2 (r : Bool) : Ps := D9 (D9 (aw0 r))
def bes (n k x : Nat) : List Nat := (List.range x).map fun j => n / 2 ^ (8 * (k - 1 - j)) % 256
def beN (n k : Nat) : List Nat := bes n k k
theorem B1u (n k x : Nat) : (bes n k x).length = x := by simp [bes]
theorem A3D (n k : Nat) : (beN n k).length = k := B1u n k k
theorem B3T (n k x : Nat) : bes n k (x + 1) = bes n k x ++ [n / 2 ^ (8 * (k - 1 - x)) % 256] := by simp [bes, List.range_succ]
theorem B9g (n k x : Nat) : ∀ y ∈ bes n k x, y < 256 := by
  intro y hy
  simp only [bes, List.mem_map] at hy
  obtain ⟨j, _, rfl⟩ := hy
  exact Nat.mod_lt _ (by decide)
theorem A8q (n k : Nat) : ∀ y ∈ beN n k, y < 256 := B9g n k k
theorem B5q {a b : List Nat} (ha : ∀ x ∈ a, x < 256) (hb : ∀ x ∈ b, x < 256) : ∀ x ∈ a ++ b, x < 256 := fun x hx => (List.mem_append.1 hx).elim (ha x) (hb x)
def bev (ws : List Nat) : Nat := ws.foldl (fun n b => n * 256 + b) 0
structure Wtr (wb : Nat) (ws : List Nat) (M : Mem) : Prop where
  ex : ∃ (v : Value) (B : Mem), M = (wb, blk [v] 100) :: B ∧ Sl 1 v ws.length (nums .u8 ws) B
  lt : ∀ x ∈ ws, x < 256
theorem Wtr.new {b : Nat} : Wtr b [] [(b, blk [.slice none 0 0] 100)] := ⟨⟨_, [], rfl, Sl.nil⟩, fun x h => by cases h⟩
theorem A6s (wb n k : Nat) (ws : List Nat) (M A : Mem) (hW : Wtr wb ws M) (hn : n < 18446744073709551616) (hk : k ≤ 8) (hl : ws.length ≤ 1099511627776) : FnX Tryz.prog 76 [.pointer (some ⟨wb, 0, none⟩), .int .u64 ((n : Nat) : Int), .int .i64 ((k : Nat) : Int)] M A fun q M J => q = .pointer (some ⟨wb, 0, none⟩) ∧ Wtr wb (ws ++ beN n k) M := by
 obtain ⟨⟨v, B, rfl, hsl⟩, hlt⟩ := hW
 haveI := hsl.cel
 refine FnX.enterZ (N := 33) Tryz.func76 rfl rfl rfl fun w_ => ?_
 refine C4 (E1 0 1 2) (A3 (as_ (A0 (E1 0 1 2) (A5 (A3 (mv_ ?_))))))
 refine A4 (E5 ((k : Int) - 1) rfl rfl (X6 rfl (by omega) (by omega))) rfl ?_
 refine as_ (A0 (E1 0 1 7) (C0 ?_))
 refine F7 (α := Nat × Value × Mem) (fun x => [(0, .pointer (some ⟨wb, 0, none⟩)), (1, .int .u64 ((n : Nat) : Int)), (7, .int .i64 ((k : Int) - 1 - (x.1 : Int)))]) (fun x => (wb, blk [x.2.1] 100) :: x.2.2) (fun _ => []) (fun x => x.1 ≤ k ∧ Sl 1 x.2.1 (ws ++ bes n k x.1).length (nums .u8 (ws ++ bes n k x.1)) x.2.2) (fun x => k - x.1) ⟨0, v, B⟩ ⟨Nat.zero_le _, by simpa [bes] using hsl⟩ (kq 0 (kq 1 (kp 7 (by simp; rfl) kn))) .rfl (fun _ h => h) ?_
 clear hsl
 rintro ⟨x, v, B⟩ ⟨hx, hsl⟩
 dsimp only at hx hsl ⊢
 haveI := hsl.cel
 have hbl := B1u n k x
 have hll : (ws ++ bes n k x).length = ws.length + x := by rw [List.length_append, hbl]
 refine A5 (A3 (mv_ ?_))
 refine A4 (F5 rfl rfl rfl) rfl ?_
 refine mv_ ?_
 refine X8 (t := 12) rfl (fun hb => ?_) (fun hb => ?_)
 ·
  have hltx : x < k := by simp at hb; omega
  obtain ⟨m, hm, hm2⟩ : ∃ m : Nat, ((k : Int) - 1 - (x : Int)) = (m : Int) ∧ m = k - 1 - x := ⟨k - 1 - x, by omega, rfl⟩
  rw [hm]
  refine C6 rfl rfl (OpQ.opL qm_ rfl ?_)
  refine C6 rfl rfl (OpQ.opL (E7 true rfl rfl (ltT (by omega))) rfl ?_)
  refine A4 (D7 rfl rfl) rfl ?_
  refine A0 (E9 0 1 7 15) ?_
  refine E0 rfl ?_
  refine A9 (nx (E1 0 1 7) (A5 (C0 ?_)))
  refine I5 [0, 1, 2, 3, 4, 5, 6, 7, 8, 9, 10, 12, 13] (zp 0 [0, 0, 0, 0, 1, 0, 0, 0, 0, 0, 2, 2, 0, 0, 2]) kR kR fun hs => ?_
  refine fm_ hs ?_
  refine fm_ hs ?_
  refine D2 hs rfl (G6 rfl) rfl ?_
  refine D2 hs rfl (qf_ 0 0) rfl ?_
  refine F8 hs rfl ql_ rfl ?_
  refine fm_ hs ?_
  refine fm_ hs ?_
  refine D2 hs rfl (A09 (a := 8) rfl rfl rfl rfl (by omega)) rfl ?_
  refine D2 hs rfl (A2p (a := n) (b := 8 * m) rfl rfl rfl rfl (by show _ ≤ 64; omega)) rfl ?_
  refine D2 hs rfl (A2W rfl kR) rfl ?_
  refine B70 rfl rfl fun _ => (C8 (e := 5) (sz := 1) (z := [.int .u8 0]) kR (eS rfl e0) (bdS 0 1 rfl (by rfl) bd0) rfl fun b28 => ?_)
  refine G5 rfl rfl rfl (K3 (e := 5) (sz := 1) (by_ := 1) rfl rfl kR rfl (by first | assumption | exact Sl.nil) (Rd.whole (n := 1) At.mem (by rfl)) (by first | (simp [Value.oneCell']; done) | (intro c hc; simp only [List.mem_singleton] at hc; subst hc; first | exact Rd.one (by assumption) | exact Sl.one (by assumption))) PickC.perm (by unfold maxLen; omega) (by omega) rfl fun v29 B29 hs29 => ?_)
  refine D2 hs rfl (G6 rfl) rfl ?_
  refine D2 hs rfl (qf_ 0 0) rfl ?_
  refine G5 rfl rfl rfl (E3 rfl rfl hs29.one kR SetC.set UpC.upd ?_)
  refine U8 (nb (nx (E1 0 1 7) (C2 (mv_ ?_))))
  refine A4 (E5 ((m : Int) - 1) rfl rfl (X6 rfl (by omega) (by omega))) rfl ?_
  refine as_ (D1 ?_)
  exact rn ⟨x + 1, v29, B29⟩ ⟨by dsimp only; omega, by dsimp only; rw [B3T, ← List.append_assoc, ← hm2]; exact Z7 hs29 (by simp only [List.length_append, List.length_singleton]) (by simp [nums])⟩ (by dsimp only; omega) (kq 0 (kq 1 (kp 7 (by dsimp only; rw [show ((k : Int) - 1 - ((x + 1 : Nat) : Int)) = (m : Int) - 1 by omega]; rfl) kn))) (Fit.pick (B := [_]) PickC.perm (Fit.last PickC.perm)) (fun _ h => by first | exact h | cases h)
 ·
  have hge : x = k := by simp at hb; omega
  subst hge
  refine H4 rfl rfl rfl rfl ?_
  refine H4 rfl rfl rfl rfl ?_
  refine A4 (E2 rfl rfl) rfl ?_
  refine A0 (E9 0 1 7 15) ?_
  refine D6 rfl ?_
  refine F1 (te (re (be rfl (nx (D8 0) (A3 (mv_ (as_ (A0 (D8 6) ?_))))))))
  refine C1 ?_
  exact ⟨_, (wb, blk [v] 100) :: B, [], I2 rfl rfl, Fit.none (Fit.last PickC.perm), rfl, ⟨⟨v, B, rfl, hsl⟩, B5q hlt (A8q n x)⟩⟩
theorem A3E (wb : Nat) (p : Value) (w ws : List Nat) (M A : Mem) (hW : Wtr wb ws M) (hp : By A p w) (hl : ws.length ≤ 1099511620000) : FnX Tryz.prog 77 [.pointer (some ⟨wb, 0, none⟩), p] M A fun q M J => q = .pointer (some ⟨wb, 0, none⟩) ∧ Wtr wb (ws ++ beN w.length 4 ++ w) M := by
 haveI := hp.cel
 have hpl := hp.len
 refine FnX.enterZ (N := 20) Tryz.func77 rfl rfl rfl fun w_ => ?_
 refine C4 (D4 0 1) (A3 (as_ (A0 (D4 0 1) (A3 (mv_ (mv_ ?_))))))
 refine A4 (H6 (sz := 1) rfl kR hp.rd) rfl ?_
 refine A4 (A9I rfl kR) rfl ?_
 rw [Nat.mod_eq_of_lt (show w.length < 18446744073709551616 by omega)]
 refine A6 rfl (F2 (Mc := _) (R := _) (aS rfl (aS rfl (aS rfl (a0)))) kR PickC.perm (A6s wb w.length 4 ws _ _ hW (by omega) (by decide) (by omega)) rfl ?_)
 rintro v9 M9 J9 ⟨rfl, hW9⟩
 obtain ⟨⟨v, B, rfl, hsl⟩, hlt⟩ := hW9
 haveI := hsl.cel
 have hbl := A3D w.length 4
 have hll : (ws ++ beN w.length 4).length = ws.length + 4 := by rw [List.length_append, hbl]
 refine A0 (D4 0 1) (A3 (mv_ (mv_ ?_)))
 refine A4 (G6 rfl) rfl ?_
 refine A4 (qf_ 0 0) rfl ?_
 refine A4 ql_ rfl ?_
 refine mv_ ?_
 refine A6 rfl (K3 (e := 5) (sz := 1) (by_ := 1) rfl rfl kR rfl hsl (hp.rd.mono SubC.sub) F4 PickC.perm (by unfold maxLen; omega) (by omega) rfl fun v16 B16 hs16 => ?_)
 refine A4 (G6 rfl) rfl ?_
 refine A4 (qf_ 0 0) rfl ?_
 refine A6 rfl (E3 rfl rfl hs16.one kR SetC.set UpC.upd ?_)
 refine A0 (D8 0) (A3 (mv_ (as_ (A0 (D8 4) (C1 ?_)))))
 exact ⟨_, (wb, blk [v16] 100) :: B16, [], I2 rfl rfl, Fit.none (Fit.pick (B := [_]) PickC.perm (Fit.last PickC.perm)), rfl, ⟨⟨v16, B16, rfl, Z7 hs16 (by simp only [List.length_append]) (by simp [nums])⟩, B5q hlt hp.lt⟩⟩
theorem A9e (wb : Nat) (ws : List Nat) (M A : Mem) (hW : Wtr wb ws M) (hl : ws.length ≤ 16777216) : FnX Tryz.prog 47 [.pointer (some ⟨wb, 0, none⟩)] M A fun q M J => Wtr wb ws M ∧ By J q ws := by
 obtain ⟨⟨v, B, rfl, hsl⟩, hlt⟩ := hW
 haveI := hsl.cel
 refine FnX.enterZ (N := 8) Tryz.func47 rfl rfl rfl fun w_ => ?_
 refine C4 (D8 0) (A3 (as_ (A0 (D8 0) (A3 (mv_ ?_)))))
 refine A4 (G6 rfl) rfl ?_
 refine A4 (qf_ 0 0) rfl ?_
 refine A4 ql_ rfl ?_
 refine A6 rfl (K3 (e := 5) (sz := 1) (by_ := 1) rfl rfl kR rfl Sl.nil (hsl.rd SubC.sub) F4 PickC.perm (by unfold maxLen; omega) (by omega) rfl fun v7 B7 hs7 => ?_)
 refine as_ (A0 (D8 2) (C1 ?_))
 exact ⟨_, (wb, blk [v] 100) :: B, B7, I2 rfl rfl, Fit.pick PickC.perm (Fit.last PickC.perm), ⟨⟨v, B, rfl, hsl⟩, hlt⟩, ⟨by simpa using hs7.rd (R := B7) SubC.sub, hlt, hl⟩⟩

def A5r (n : Nat) (w : List Nat) : List Nat := beN 6 4 ++ [112, 114, 101, 107, 101, 121] ++ beN n 4 ++ (beN w.length 4 ++ w)
theorem B3U (n : Nat) (w : List Nat) : (A5r n w).length = w.length + 18 := by simp [A5r, A3D]; omega
theorem B7n {n : Nat} (h : n < 4294967296) : IntKind.u64.wrap (n : Int) = (n : Int) := A4x (by omega) (by omega)
theorem B7o {R : Mem} {b n : Nat} {w : List Nat} {e : TypeId} {fr : Nat × Nat} (hm : (b, Obj.cells (nums .u8 w).toArray e fr) ∈ R) (hn : w.length = n) (hlt : ∀ x ∈ w, x < 256) (hl : w.length ≤ 16777216) : By R (.slice (some ⟨b, 0, none⟩) n n) w := by
  subst hn
  exact ⟨Rd.whole (n := w.length) hm (by simp), hlt, hl⟩
theorem A6t (n : Nat) (v : Value) (w : List Nat) (A : Mem) (hn : n < 4294967296) (hv : By A v w) (hl : w.length ≤ 1000000) : FnX Tryz.prog 64 [.int .u32 ((n : Nat) : Int), v] [] A fun q M J => M = [] ∧ By J q (A5r n w) := by
 haveI := hv.cel
 refine FnX.enterZ (N := 18) Tryz.func64 rfl rfl rfl fun w_ => ?_
 refine C4 (D4 0 1) (A3 (as_ (A0 (D4 0 1) (A3 ?_))))
 refine A4 (F6 (place := fun x => #[(0, 1)][x]?) (z := [.slice none 0 0]) (fun _ => by kernel_rfl) e0 bd0) rfl ?_
 refine A6 rfl (bx_ fun b7 => ?_)
 refine as_ (A0 (E1 0 1 5) (A3 (mv_ ?_)))
 refine A6 rfl (C8 (e := 5) (sz := 1) (z := [zu8, zu8, zu8, zu8, zu8, zu8]) kR (eS rfl (eS rfl (eS rfl (eS rfl (eS rfl (eS rfl e0)))))) (bdS 0 1 rfl (by rfl) (bdS 1 1 rfl (by rfl) (bdS 2 1 rfl (by rfl) (bdS 3 1 rfl (by rfl) (bdS 4 1 rfl (by rfl) (bdS 5 1 rfl (by rfl) bd0)))))) rfl fun b9 => ?_)
 refine A6 rfl (A31 rfl kR UpC.upd rfl ?_)
 refine A6 rfl (F2 (Mc := [(b7, blk [.slice none 0 0] 100)]) (R := _) (aS rfl (aS rfl (a0))) kR PickC.perm (A3E b7 _ [112, 114, 101, 107, 101, 121] [] _ _ Wtr.new (B7o At.mem (by rfl) (by decide) (by decide)) (by decide)) rfl ?_)
 rintro v11 M11 J11 ⟨rfl, hW11⟩
 refine mv_ ?_
 refine A4 (P6 (k' := .u64) n rfl kR (B7n (by omega))) rfl ?_
 refine A6 rfl (F2 (Mc := M11) (R := _) (aS rfl (aS rfl (aS rfl (a0)))) kR PickC.perm (A6s b7 n 4 _ _ _ hW11 (by omega) (by decide) (by simp [A3D])) rfl ?_)
 rintro v14 M14 J14 ⟨rfl, hW14⟩
 refine mv_ ?_
 refine A6 rfl (F2 (Mc := M14) (R := _) (aS rfl (aS rfl (a0))) kR PickC.perm (A3E b7 v w _ _ _ hW14 (hv.mono SubC.sub) (by simp [A3D])) rfl ?_)
 rintro v16 M16 J16 ⟨rfl, hW16⟩
 refine A6 rfl (F2 (Mc := M16) (R := _) (aS rfl (a0)) kR PickC.perm (A9e b7 _ _ _ hW16 (by simp [A3D]; omega)) rfl ?_)
 rintro v17 M17 J17 ⟨hW17, hb17⟩
 haveI := hb17.cel
 refine as_ (A0 (D8 4) (C1 ?_))
 exact ⟨_, [], [], I2 rfl rfl, Fit.sub (List.nil_sublist _), rfl, by simpa [A5r, List.append_assoc] using hb17.mono SubC.sub⟩

theorem B1v {P : Program} {f : FuncId} {args : List Value} {A A' : Mem} {v : Value} (h : FnV P f args A v) (hs : ∀ x, x ∈ A → x ∈ A') : FnV P f args A' v := by
  intro w hw
  refine Calls.mono (h w ⟨hw.os, hw.tape, hw.output, hw.size, hw.frame, fun b o hb => hw.mem b o (by simpa using hs _ (by simpa using hb)), hw.nodup, hw.own, hw.sepJ, fun b o hb => hw.sepA b o (hs _ hb), hw.old⟩) ?_
  rintro e w' ⟨r, M', J', rfl, ⟨rfl, rfl, rfl⟩, h2⟩
  refine ⟨_, [], [], rfl, ⟨rfl, rfl, rfl⟩, ⟨h2.os, h2.tape, h2.output, h2.size, h2.frame, fun b o hb => ?_, h2.nodup, h2.own, h2.sepJ, fun b o hb => hw.sepA b o hb, h2.old⟩⟩
  have hb' : (b, o) ∈ A' := by simpa using hb
  have h3 := h2.frame b (hw.sepA b o hb').2 (by simp)
  rw [h3]
  exact hw.mem b o (by simpa using hb')
structure Pr where
  n : Nat
  sec : List Nat
  sig : List Nat
structure Nm where
  n : Nat
  id : List Nat
def prR (R : Mem) (x : Pr) (r : List Value) : Prop := ∃ vs vg, r = [.int .u32 ((x.n : Nat) : Int), vs, vg] ∧ By R vs x.sec ∧ By R vg x.sig ∧ x.n < 4294967296
theorem prT : RowT 3 prR := ⟨fun R R' x r hR ⟨vo, vk, h1, h2, h3, h4⟩ => ⟨vo, vk, h1, h2.mono hR, h3.mono hR, h4⟩, fun R x r ⟨vo, vk, h1, _⟩ => by rw [h1]; rfl, fun R x r ⟨vo, vk, h1, h2, h3, _⟩ c hc => by
  rw [h1] at hc
  simp only [List.mem_cons, List.not_mem_nil, or_false] at hc
  rcases hc with rfl | rfl | rfl
  · rfl
  · exact h2.one
  · exact h3.one⟩
def nmR (R : Mem) (x : Nm) (r : List Value) : Prop := ∃ vi, r = [.int .u32 ((x.n : Nat) : Int), vi] ∧ By R vi x.id ∧ x.n < 4294967296
theorem nmT : RowT 2 nmR := ⟨fun R R' x r hR ⟨vi, h1, h2, h4⟩ => ⟨vi, h1, h2.mono hR, h4⟩, fun R x r ⟨vi, h1, _⟩ => by rw [h1]; rfl, fun R x r ⟨vi, h1, h2, _⟩ c hc => by
  rw [h1] at hc
  simp only [List.mem_cons, List.not_mem_nil, or_false] at hc
  rcases hc with rfl | rfl
  · rfl
  · exact h2.one⟩
theorem eq32 (a b : Nat) : I1 .eql .u32 ((a : Nat) : Int) ((b : Nat) : Int) = some (.bool (decide (a = b))) := by
  by_cases h : a = b
  · rw [decide_eq_true h]; exact eqT (by omega)
  · rw [decide_eq_false h]; exact eqF (by omega)
theorem A4l (v : Value) (rows : List (List Value)) (f : FuncId) (cs : List Value) (p : Nat → Bool) (A : Mem) (hv : Rd A 3 v rows.length rows.flatten) (hl : ∀ r ∈ rows, r.length = 3) (hn : rows.length ≤ 1099511627776) (hc_ : I9 Tryz.prog f = true) (hf : ∀ (j : Nat) (r : List Value), rows[j]? = some r → FnV Tryz.prog f (.agg r.toArray :: cs) A (.bool (p j))) : FnV Tryz.prog 116 [v, .func (.func f) #[] cs.toArray] A (.int .i64 (A6C p rows.length)) := by
 haveI := hv.cel
 refine FnX.enter (N := 19) Tryz.func116 rfl rfl rfl fun w => ?_
 refine C4 (D4 0 1) (A3 (as_ (A0 (D4 0 1) (A5 (A3 (mv_ ?_))))))
 refine A4 (H6 (sz := 3) rfl kR hv) rfl ?_
 refine mv_ (A0 (E9 0 1 7 8) (C0 ?_))
 refine F7 (α := Nat) (fun i => [(0, v), (1, .func (.func f) #[] cs.toArray), (7, .int .i64 ((rows.length : Nat) : Int)), (8, .int .i64 (i : Int))]) (fun _ => []) (fun _ => []) (fun i => i ≤ rows.length ∧ ∀ j, j < i → p j = false) (fun i => rows.length - i) 0 ⟨Nat.zero_le _, fun j h => absurd h (Nat.not_lt_zero j)⟩ (E9 0 1 7 8) .rfl (fun _ h => h) ?_
 rintro i ⟨hi, hp⟩
 refine A3 ?_
 refine A4 (F5 rfl rfl rfl) rfl ?_
 refine A0 (F9 0 1 7 8 9) (A5 ?_)
 refine C7 rfl (fun hc => ?_) (fun hc => ?_)
 ·
  have hlt : i < rows.length := by simp at hc; omega
  obtain ⟨r, hr⟩ : ∃ r, rows[i]? = some r := ⟨_, List.getElem?_eq_getElem hlt⟩
  refine A9 (nx (E9 0 1 7 8) (A5 (C0 (A3 (mv_ (as_ (A0 (F9 0 1 5 7 8) (A3 ?_))))))))
  refine mv_ (mv_ (mv_ ?_))
  refine A4 (K6 (sz := 3) rfl rfl kR rfl hv hlt) rfl ?_
  refine A4 (A1G rfl kR (hv.mono SubC.sub) hl (by decide) hr) rfl ?_
  refine A6 rfl (A1O rfl (aS rfl a0) hc_ (hf i r hr) rfl ?_)
  refine A0 (I4 0 1 5 7 8 16) ?_
  refine C7 rfl (fun hc => ?_) (fun hc => ?_)
  ·
   refine A3 (mv_ (as_ (A0 (D8 4) (C1 (br (tr (rr (br ?_))))))))
   refine tr ?_
   exact ⟨_, [], [], I2 rfl rfl, List.nil_sublist _, by simp, by rw [A1P hlt hp hc], rfl, rfl⟩
  ·
   refine A9 (nb (nx (E9 0 1 7 8) (C2 ?_)))
   refine A4 (N5 (b := 1) rfl rfl rfl rfl (by omega)) rfl ?_
   refine mv_ (D1 ?_)
   exact rn (i + 1) ⟨hlt, fun j hj => by rcases Nat.lt_succ_iff_lt_or_eq.1 hj with h | h; exact hp j h; rw [h]; exact hc⟩ (by omega) (E9 0 1 7 8) .rfl (fun _ h => h)
 ·
  have hge : i = rows.length := by simp at hc; omega
  subst hge
  refine F1 (te (re (be rfl (nx kn (A3 (as_ (A0 (D8 4) ?_)))))))
  refine C1 ?_
  exact ⟨_, [], [], I2 rfl rfl, List.nil_sublist _, by simp, by rw [A1Q hp], rfl, rfl⟩
theorem A9f (v : Value) (rows : List (List Value)) (f : FuncId) (cs : List Value) (p : Nat → Bool) (A : Mem) (hv : Rd A 2 v rows.length rows.flatten) (hl : ∀ r ∈ rows, r.length = 2) (hn : rows.length ≤ 1099511627776) (hc_ : I9 Tryz.prog f = true) (hf : ∀ (j : Nat) (r : List Value), rows[j]? = some r → FnV Tryz.prog f (.agg r.toArray :: cs) A (.bool (p j))) : FnV Tryz.prog 115 [v, .func (.func f) #[] cs.toArray] A (.int .i64 (A6C p rows.length)) := by
 haveI := hv.cel
 refine FnX.enter (N := 19) Tryz.func115 rfl rfl rfl fun w => ?_
 refine C4 (D4 0 1) (A3 (as_ (A0 (D4 0 1) (A5 (A3 (mv_ ?_))))))
 refine A4 (H6 (sz := 2) rfl kR hv) rfl ?_
 refine mv_ (A0 (E9 0 1 7 8) (C0 ?_))
 refine F7 (α := Nat) (fun i => [(0, v), (1, .func (.func f) #[] cs.toArray), (7, .int .i64 ((rows.length : Nat) : Int)), (8, .int .i64 (i : Int))]) (fun _ => []) (fun _ => []) (fun i => i ≤ rows.length ∧ ∀ j, j < i → p j = false) (fun i => rows.length - i) 0 ⟨Nat.zero_le _, fun j h => absurd h (Nat.not_lt_zero j)⟩ (E9 0 1 7 8) .rfl (fun _ h => h) ?_
 rintro i ⟨hi, hp⟩
 refine A3 ?_
 refine A4 (F5 rfl rfl rfl) rfl ?_
 refine A0 (F9 0 1 7 8 9) (A5 ?_)
 refine C7 rfl (fun hc => ?_) (fun hc => ?_)
 ·
  have hlt : i < rows.length := by simp at hc; omega
  obtain ⟨r, hr⟩ : ∃ r, rows[i]? = some r := ⟨_, List.getElem?_eq_getElem hlt⟩
  refine A9 (nx (E9 0 1 7 8) (A5 (C0 (A3 (mv_ (as_ (A0 (F9 0 1 5 7 8) (A3 ?_))))))))
  refine mv_ (mv_ (mv_ ?_))
  refine A4 (K6 (sz := 2) rfl rfl kR rfl hv hlt) rfl ?_
  refine A4 (A1G rfl kR (hv.mono SubC.sub) hl (by decide) hr) rfl ?_
  refine A6 rfl (A1O rfl (aS rfl a0) hc_ (hf i r hr) rfl ?_)
  refine A0 (I4 0 1 5 7 8 16) ?_
  refine C7 rfl (fun hc => ?_) (fun hc => ?_)
  ·
   refine A3 (mv_ (as_ (A0 (D8 4) (C1 (br (tr (rr (br ?_))))))))
   refine tr ?_
   exact ⟨_, [], [], I2 rfl rfl, List.nil_sublist _, by simp, by rw [A1P hlt hp hc], rfl, rfl⟩
  ·
   refine A9 (nb (nx (E9 0 1 7 8) (C2 ?_)))
   refine A4 (N5 (b := 1) rfl rfl rfl rfl (by omega)) rfl ?_
   refine mv_ (D1 ?_)
   exact rn (i + 1) ⟨hlt, fun j hj => by rcases Nat.lt_succ_iff_lt_or_eq.1 hj with h | h; exact hp j h; rw [h]; exact hc⟩ (by omega) (E9 0 1 7 8) .rfl (fun _ h => h)
 ·
  have hge : i = rows.length := by simp at hc; omega
  subst hge
  refine F1 (te (re (be rfl (nx kn (A3 (as_ (A0 (D8 4) ?_)))))))
  refine C1 ?_
  exact ⟨_, [], [], I2 rfl rfl, List.nil_sublist _, by simp, by rw [A1Q hp], rfl, rfl⟩
theorem A1s (v : Value) (w : List Nat) (A : Mem) (h : By A v w) : FnX Tryz.prog 83 [v] [] A fun r M J => M = [] ∧ By J r w := by
 haveI := h.cel
 have hwl := h.len
 refine FnX.enterZ (N := 8) Tryz.func83 rfl rfl rfl fun w_ => ?_
 refine C4 (D8 0) (A3 (as_ (A0 (D8 0) (A5 (A3 (mv_ ?_))))))
 refine A4 (A5I (e := 5) rfl kR (by first | assumption | exact Sl.rd (by assumption) (fun _ h => h) | exact By.rd (by assumption))) rfl ?_
 refine A0 (D4 0 4) ?_
 refine C7 rfl (fun hc => ?_) (fun hc => ?_)
 ·
  have h0 := h.rd.isNil hc
  obtain rfl : w = [] := List.eq_nil_of_length_eq_zero h0
  refine A3 (as_ (A0 (D8 2) (C1 (tr ?_))))
  exact ⟨_, [], [], I2 rfl rfl, Fit.sub (List.nil_sublist _), rfl, By.nil⟩
 ·
  refine A9 (nx (D8 0) (A3 ?_))
  refine A6 rfl (C8 (e := 5) (sz := 1) (z := []) kR e0 bd0 rfl fun b5 => ?_)
  refine mv_ ?_
  refine A6 rfl (K3 (e := 5) (sz := 1) (by_ := 1) rfl rfl kR rfl (Sl.fresh (n := 0) (cs := []) (e := 5) rfl (by decide)) (h.rd.mono SubC.sub) F4 PickC.perm (by unfold maxLen; omega) (by omega) rfl fun v7 B7 hs7 => ?_)
  refine as_ (A0 (D8 2) (C1 ?_))
  exact ⟨_, [], B7, I2 rfl rfl, Fit.pick PickC.perm (Fit.sub (List.nil_sublist _)), rfl, ⟨A06 (hs7.rd fun x hx => by simp [hx]) (by omega) (by simp), h.lt, h.len⟩⟩
theorem B3V {k : IntKind} (c : Int) : I1 .geq k c 0 = some (.bool (decide (0 ≤ c))) := by
  by_cases h : 0 ≤ c
  · rw [decide_eq_true h]; exact geT h
  · rw [decide_eq_false h]; exact geF (by omega)
theorem A5j (v : Value) (rows : List (List Value)) (f : FuncId) (cs : List Value) (p : Nat → Bool) (A : Mem) (hv : Rd A 3 v rows.length rows.flatten) (hl : ∀ r ∈ rows, r.length = 3) (hn : rows.length ≤ 1099511627776) (hc_ : I9 Tryz.prog f = true) (hf : ∀ (j : Nat) (r : List Value), rows[j]? = some r → FnV Tryz.prog f (.agg r.toArray :: cs) A (.bool (p j))) : FnV Tryz.prog 71 [v, .func (.func f) #[] cs.toArray] A (.bool (decide (0 ≤ A6C p rows.length))) := by
 haveI := hv.cel
 refine FnX.enter (N := 9) Tryz.func71 rfl rfl rfl fun w => ?_
 refine C4 (D4 0 1) (A3 (as_ (A0 (D4 0 1) (A3 (mv_ (mv_ ?_))))))
 refine G1 (aS rfl (aS rfl a0)) kR (A4l v rows f cs p _ (hv.mono SubC.sub) hl hn hc_ (fun j r hr => B1v (hf j r hr) SubC.sub)) rfl ?_
 refine A4 (E7 (decide (0 ≤ A6C p rows.length)) rfl rfl (B3V _)) rfl ?_
 refine as_ (A0 (D8 4) (C1 ?_))
 exact ⟨_, [], [], I2 rfl rfl, List.nil_sublist _, by simp, rfl, rfl, rfl⟩
theorem A9g (vs vg : Value) (x : Pr) (n b : Nat) (A : Mem) (hs : By A vs x.sec) (hg : By A vg x.sig) (hb : (b, blk [.int .u32 ((n : Nat) : Int)] 30) ∈ A) : FnV Tryz.prog 151 [.agg #[.int .u32 ((x.n : Nat) : Int), vs, vg], .pointer (some ⟨b, 0, none⟩)] A (.bool (decide (x.n = n))) := by
 haveI := hs.cel
 haveI := hg.cel
 refine FnX.enter (N := 8) Tryz.func151 rfl rfl rfl fun w => ?_
 refine C4 (D4 0 1) (A3 ?_)
 refine A6 rfl (bx_ fun b2 => ?_)
 refine as_ (A0 (D4 1 2) (A3 ?_))
 refine A4 (qf_ 0 0) rfl ?_
 refine A4 ql_ rfl ?_
 refine A4 (I7 rfl kR (mA hb) (by rfl)) rfl ?_
 refine A4 (E7 (decide (x.n = n)) rfl rfl (eq32 _ _)) rfl ?_
 refine as_ (A0 (D8 3) (C1 ?_))
 exact ⟨_, [], [], I2 rfl rfl, List.nil_sublist _, by simp, rfl, rfl, rfl⟩
theorem A7j (vs vg vi : Value) (x : Pr) (n b : Nat) (A : Mem) (hs : By A vs x.sec) (hg : By A vg x.sig) (hvi : Cel vi [vi]) (hb : (b, blk [.int .u32 ((n : Nat) : Int), vi] 134) ∈ A) : FnV Tryz.prog 72 [.agg #[.int .u32 ((x.n : Nat) : Int), vs, vg], .pointer (some ⟨b, 0, none⟩)] A (.bool (decide (x.n = n))) := by
 haveI := hs.cel
 haveI := hg.cel
 refine FnX.enter (N := 9) Tryz.func72 rfl rfl rfl fun w => ?_
 refine C4 (D4 0 1) (A3 ?_)
 refine A6 rfl (bx_ fun b2 => ?_)
 refine as_ (A0 (D4 1 2) (A3 ?_))
 refine A4 (qf_ 0 0) rfl ?_
 refine A4 ql_ rfl ?_
 refine A4 (qf_ 0 0) rfl ?_
 refine A4 (I7 rfl kR (mA hb) (by rfl)) rfl ?_
 refine A4 (E7 (decide (x.n = n)) rfl rfl (eq32 _ _)) rfl ?_
 refine as_ (A0 (D8 3) (C1 ?_))
 exact ⟨_, [], [], I2 rfl rfl, List.nil_sublist _, by simp, rfl, rfl, rfl⟩

structure Ks where
  user : Int
  dev : Int
  agree : List Nat
  sign : List Nat
  signed : List Pr
  once : List Pr
  next : Nat
  met : List Nm
def A1e (n : Nat) (x : Pr) : Bool := decide (x.n = n)
def tstN (n : Nat) (w : List Nat) (x : Nm) : Bool := decide (x.n = n) && decide (x.id = w)
def A1u (l : List Pr) (n : Nat) : Option (List Nat) := if A1p (A1e n) l < 0 then none else (l[(A1p (A1e n) l).toNat]?).map (·.sec)
theorem A3F {l : List Pr} {n : Nat} (h : A1p (A1e n) l = -1) : A1u l n = none := if_pos (by rw [h]; decide)
theorem A0q {l : List Pr} {n i : Nat} {x : Pr} (h : A1p (A1e n) l = (i : Int)) (hx : l[i]? = some x) : A1u l n = some x.sec := by
  unfold A1u; rw [h, if_neg (by omega), Int.toNat_natCast, hx]; rfl
def kyC (k : Ks) (va vg vs vo vm : Value) : List Value := [.int .i64 k.user, .int .i64 k.dev, va, vg, vs, vo, .int .u32 ((k.next : Nat) : Int), vm]
structure KyR (R : Mem) (kb : Nat) (k : Ks) (va vg vs vo vm : Value) (rs ro rm : List (List Value)) : Prop where
  blk_ : (kb, blk [.int .i64 k.user, .int .i64 k.dev, va, vg, vs, vo, .int .u32 ((k.next : Nat) : Int), vm] 114) ∈ R
  agree : By R va k.agree
  sign : By R vg k.sign
  signed : Rd R 3 vs k.signed.length rs.flatten
  signedR : RwL prR R rs k.signed
  once : Rd R 3 vo k.once.length ro.flatten
  onceR : RwL prR R ro k.once
  met : Rd R 2 vm k.met.length rm.flatten
  metR : RwL nmR R rm k.met
  next : k.next < 4294967296
  l1 : k.signed.length ≤ 1000000
  l2 : k.once.length ≤ 1000000
  l3 : k.met.length ≤ 1000000
theorem KyR.mono {R R' : Mem} {kb : Nat} {k : Ks} {va vg vs vo vm : Value} {rs ro rm : List (List Value)} (h : KyR R kb k va vg vs vo vm rs ro rm) (hR : ∀ x, x ∈ R → x ∈ R') : KyR R' kb k va vg vs vo vm rs ro rm :=
  ⟨hR _ h.blk_, h.agree.mono hR, h.sign.mono hR, h.signed.mono hR, h.signedR.mono prT hR, h.once.mono hR, h.onceR.mono prT hR, h.met.mono hR, h.metR.mono nmT hR, h.next, h.l1, h.l2, h.l3⟩
theorem B1w {l : List Pr} {rows : List (List Value)} {n b : Nat} {A : Mem} (hR : RwL prR A rows l) (hb : (b, blk [.int .u32 ((n : Nat) : Int)] 30) ∈ A) :
    ∀ (j : Nat) (r : List Value), rows[j]? = some r → FnV Tryz.prog 151 (.agg r.toArray :: [.pointer (some ⟨b, 0, none⟩)]) A (.bool ((fun j => (l[j]?.map (A1e n)).getD false) j)) := fun j r hr => by
  obtain ⟨x, hx, vs, vg, rfl, hs, hg, _⟩ := hR.of hr
  dsimp only
  rw [hx]
  exact A9g vs vg x n b _ hs hg hb
theorem B9h (v : Value) (rows : List (List Value)) (l : List Pr) (n : Nat) (A : Mem) (hv : Rd A 3 v l.length rows.flatten) (hR : RwL prR A rows l) (hl : l.length ≤ 1000000) : FnX Tryz.prog 110 [v, .int .u32 ((n : Nat) : Int)] [] A fun r M J => M = [] ∧ ∃ q, r = .tuple #[q, .bool (A1u l n).isSome] ∧ By J q ((A1u l n).getD []) := by
 haveI := hv.cel
 refine FnX.enterZ (N := 18) Tryz.func110 rfl rfl rfl fun w_ => ?_
 refine C4 (D4 0 1) (A3 ?_)
 refine A6 rfl (bx_ fun b3 => ?_)
 refine as_ (as_ (A0 (D4 0 3) (A3 (mv_ ?_))))
 refine A4 (A46 (aS rfl a0)) rfl ?_
 refine G1 (aS rfl (aS rfl a0)) kR (A4l v rows 151 [.pointer (some ⟨b3, 0, none⟩)] (fun j => (l[j]?.map (A1e n)).getD false) _ (by rw [hR.len]; exact hv.mono SubC.sub) (hR.lens prT) (by rw [hR.len]; omega) kR (B1w (hR.mono prT SubC.sub) At.mem)) rfl ?_
 rw [hR.len, show A6C (fun j => (l[j]?.map (A1e n)).getD false) l.length = A1p (A1e n) l from rfl]
 refine as_ (A0 (D4 0 6) (A5 (A3 (mv_ ?_))))
 refine A4 (F5 rfl rfl rfl) rfl ?_
 refine A0 (E1 0 6 11) ?_
 refine C7 rfl (fun hc => ?_) (fun hc => ?_)
 ·
  have hf : A1p (A1e n) l = -1 := by
   obtain ⟨hf, hz⟩ | ⟨i, x, hf, hxi, hq, hmin⟩ := X4 (A1e n) l
   · exact hf
   · rw [hf] at hc; (simp at hc) <;> omega
  refine A3 (as_ (as_ (A0 (D4 4 5) (C1 (tr ?_)))))
  exact ⟨_, [], [], A6F rfl rfl rfl, Fit.sub (List.nil_sublist _), rfl, _, by rw [A3F hf]; rfl, by rw [A3F hf]; exact By.nil⟩
 ·
  obtain ⟨hf, hz⟩ | ⟨i, x, hf, hxi, hq, hmin⟩ := X4 (A1e n) l
  · rw [hf] at hc; simp at hc
  have hil := (List.getElem?_eq_some_iff.1 hxi).1
  rw [hf]
  obtain ⟨r, hr, vs, vg, rfl, hs, hg, hxn⟩ := hR.get i x hxi
  haveI := hs.cel
  refine A9 (nx (D4 0 6) (A3 (mv_ (mv_ ?_))))
  refine A4 (K6 (sz := 3) rfl rfl kR rfl hv hil) rfl ?_
  refine A4 (B4B (off := 1) rfl hv hil kR) rfl ?_
  refine A4 (B4C (u := vs) rfl (hv.mono SubC.sub) (by omega) kR (by rw [A1y (hR.lens prT) hr 1 (by decide)]; rfl)) rfl ?_
  refine D0 (aS rfl a0) kR (A1s vs x.sec _ (hs.mono SubC.sub)) rfl ?_
  rintro v17 M17 J17 ⟨rfl, h17⟩
  haveI := h17.cel
  refine as_ (as_ (A0 (D4 4 5) (C1 ?_)))
  exact ⟨_, [], [], A6F rfl rfl rfl, Fit.sub (List.nil_sublist _), rfl, _, by rw [A0q hf hxi]; rfl, by rw [A0q hf hxi]; exact h17.mono SubC.sub⟩
theorem B3W (kb : Nat) (k : Ks) (va vg vs vo vm : Value) (rs ro rm : List (List Value)) (n : Nat) (A : Mem) (hK : KyR A kb k va vg vs vo vm rs ro rm) : FnX Tryz.prog 66 [.pointer (some ⟨kb, 0, none⟩), .int .u32 ((n : Nat) : Int)] [] A fun r M J => M = [] ∧ ∃ q, r = .tuple #[q, .bool (A1u k.signed n).isSome] ∧ By J q ((A1u k.signed n).getD []) := by
 have hkb := hK.blk_
 haveI := hK.agree.cel
 haveI := hK.sign.cel
 haveI := hK.signed.cel
 haveI := hK.once.cel
 haveI := hK.met.cel
 refine FnX.enterZ (N := 16) Tryz.func66 rfl rfl rfl fun w_ => ?_
 refine C4 (D4 0 1) (A3 (as_ (as_ (A0 (D4 0 1) (A5 (A3 (mv_ ?_)))))))
 refine A4 (E6 (e := 114) rfl rfl kR) rfl ?_
 refine A0 (E1 0 1 7) ?_
 refine D6 rfl ?_
 refine A9 (nx (D4 0 1) (A3 (mv_ ?_)))
 refine A4 (G6 rfl) rfl ?_
 refine A4 (qf_ 4 4) rfl ?_
 refine A4 (I7 rfl kR (mA hkb) (by rfl)) rfl ?_
 refine mv_ ?_
 refine D0 (aS rfl (aS rfl a0)) kR (B9h vs rs k.signed n _ (hK.signed.mono SubC.sub) (hK.signedR.mono prT SubC.sub) hK.l1) rfl ?_
 rintro r13 M13 J13 ⟨rfl, q, rfl, hq⟩
 haveI := hq.cel
 refine A4 (A2I rfl) rfl ?_
 refine A4 (A2v rfl) rfl ?_
 refine as_ (as_ (A0 (D4 4 5) (C1 ?_)))
 exact ⟨_, [], [], A6F rfl rfl rfl, Fit.sub (List.nil_sublist _), rfl, _, rfl, hq.mono SubC.sub⟩
theorem A8r (kb : Nat) (k : Ks) (va vg vs vo vm : Value) (rs ro rm : List (List Value)) (A : Mem) (hK : KyR A kb k va vg vs vo vm rs ro rm) : FnX Tryz.prog 61 [.pointer (some ⟨kb, 0, none⟩)] [] A fun r M J => M = [] ∧ By J r k.agree := by
 have hkb := hK.blk_
 haveI := hK.agree.cel
 haveI := hK.sign.cel
 haveI := hK.signed.cel
 haveI := hK.once.cel
 haveI := hK.met.cel
 refine FnX.enterZ (N := 10) Tryz.func61 rfl rfl rfl fun w_ => ?_
 refine C4 (D8 0) (A3 (as_ (A0 (D8 0) (A5 (A3 (mv_ ?_))))))
 refine A4 (E6 (e := 114) rfl rfl kR) rfl ?_
 refine A0 (D4 0 4) ?_
 refine D6 rfl ?_
 refine A9 (nx (D8 0) (A3 (mv_ ?_)))
 refine A4 (G6 rfl) rfl ?_
 refine A4 (qf_ 2 2) rfl ?_
 refine A4 (I7 rfl kR (mA hkb) (by rfl)) rfl ?_
 refine D0 (aS rfl a0) kR (A1s va k.agree _ (hK.agree.mono SubC.sub)) rfl ?_
 rintro r9 M9 J9 ⟨rfl, h9⟩
 haveI := h9.cel
 refine as_ (A0 (D8 2) (C1 ?_))
 exact ⟨_, [], [], I2 rfl rfl, Fit.sub (List.nil_sublist _), rfl, h9.mono SubC.sub⟩

def B3X (a b : Nat) : Int := if a < b then -1 else if b < a then 1 else 0
theorem A7k {a b : Nat} (h : a < b) : B3X a b = -1 := if_pos h
theorem A7l {a b : Nat} (h : b < a) : B3X a b = 1 := by unfold B3X; rw [if_neg (by omega), if_pos h]
theorem A7m {a b : Nat} (h : a = b) : B3X a b = 0 := by unfold B3X; rw [if_neg (by omega), if_neg (by omega)]
theorem B3Y (a b : Nat) : I1 .lss .i64 (B3X a b) 0 = some (.bool (decide (a < b))) := by
  rcases Nat.lt_trichotomy a b with h | h | h
  · rw [A7k h, decide_eq_true h]; rfl
  · rw [A7m h, decide_eq_false (by omega)]; rfl
  · rw [A7l h, decide_eq_false (by omega)]; rfl
theorem B3Z (a b : Nat) : I1 .eql .i64 (B3X a b) 0 = some (.bool (decide (a = b))) := by
  rcases Nat.lt_trichotomy a b with h | h | h
  · rw [A7k h, decide_eq_false (by omega)]; rfl
  · rw [A7m h, decide_eq_true h]; rfl
  · rw [A7l h, decide_eq_false (by omega)]; rfl
theorem lt32 (a b : Nat) : I1 .lss .u32 ((a : Nat) : Int) ((b : Nat) : Int) = some (.bool (decide (a < b))) := by
  by_cases h : a < b
  · rw [decide_eq_true h]; exact ltT (by omega)
  · rw [decide_eq_false h]; exact ltF (by omega)
theorem gt32 (a b : Nat) : I1 .gtr .u32 ((a : Nat) : Int) ((b : Nat) : Int) = some (.bool (decide (b < a))) := by
  by_cases h : b < a
  · rw [decide_eq_true h]; exact gtT (by omega)
  · rw [decide_eq_false h]; exact gtF (by omega)
def B5r (l : List Pr) : Prop := ∀ (i j : Nat) (x y : Pr), i < j → l[i]? = some x → l[j]? = some y → x.n < y.n
theorem B37 {l : List Pr} {n i : Nat} {x : Pr} (hx : l[i]? = some x) (hn : x.n = n) (h : ∀ (j : Nat) (y : Pr), j < i → l[j]? = some y → y.n < n) : A1p (A1e n) l = (i : Int) := by
  have hil := (List.getElem?_eq_some_iff.1 hx).1
  refine A1P hil (fun j hj => ?_) (by rw [hx]; simp [A1e, hn])
  have hjl : j < l.length := by omega
  rw [List.getElem?_eq_getElem hjl]
  have := h j _ hj (List.getElem?_eq_getElem hjl)
  simp [A1e]; omega
theorem A9h {l : List Pr} {n : Nat} (h : ∀ (j : Nat) (y : Pr), l[j]? = some y → y.n ≠ n) : A1p (A1e n) l = -1 := by
  refine A1Q fun j hj => ?_
  rw [List.getElem?_eq_getElem hj]
  have := h j _ (List.getElem?_eq_getElem hj)
  simp [A1e, this]
structure BsR (l : List Pr) (n i : Nat) (b : Bool) : Prop where
  le : i ≤ l.length
  lt : ∀ (j : Nat) (y : Pr), j < i → l[j]? = some y → y.n < n
  ge : ∀ (j : Nat) (y : Pr), i ≤ j → l[j]? = some y → n ≤ y.n
  at_ : b = true ↔ ∃ x, l[i]? = some x ∧ x.n = n
theorem BsR.yes {l : List Pr} {n i : Nat} (h : BsR l n i true) : ∃ x, l[i]? = some x ∧ A1p (A1e n) l = (i : Int) := by
  obtain ⟨x, hx, hn⟩ := h.at_.1 rfl
  exact ⟨x, hx, B37 hx hn h.lt⟩
theorem BsR.no {l : List Pr} {n i : Nat} (hr : B5r l) (h : BsR l n i false) : A1p (A1e n) l = -1 := by
  refine A9h fun j y hy hn => ?_
  rcases Nat.lt_trichotomy j i with hj | hj | hj
  · have := h.lt j y hj hy; omega
  · subst hj
    have := h.at_.2 ⟨y, hy, hn⟩
    cases this
  · have hjl := (List.getElem?_eq_some_iff.1 hy).1
    have hil : i < l.length := by omega
    have h1 := h.ge i _ (Nat.le_refl _) (List.getElem?_eq_getElem hil)
    have h2 := hr i j _ y hj (List.getElem?_eq_getElem hil) hy
    omega
theorem A6u (x : Int) (A : Mem) : FnV Tryz.prog 152 [.int .u32 x] A (.bool false) := by
 refine FnX.enter (N := 6) Tryz.func152 rfl rfl rfl fun w => ?_
 refine C4 (D8 0) (A3 (as_ (A0 (D8 0) (A3 (mv_ (mv_ ?_))))))
 refine A4 (E7 false rfl rfl (neF rfl)) rfl ?_
 refine as_ (A0 (D8 2) (C1 ?_))
 exact ⟨_, [], [], I2 rfl rfl, List.nil_sublist _, by simp, rfl, rfl, rfl⟩
theorem A7n (a b : Nat) (A : Mem) : FnV Tryz.prog 113 [.int .u32 ((a : Nat) : Int), .int .u32 ((b : Nat) : Int)] A (.int .i64 (B3X a b)) := by
 refine FnX.enter (N := 20) Tryz.func113 rfl rfl rfl fun w => ?_
 refine C4 (D4 0 1) (A3 (as_ (A0 (D4 0 1) (A3 (mv_ ?_)))))
 refine G1 (aS rfl a0) kR (A6u _ _) rfl ?_
 refine as_ (A0 (E1 0 1 5) (A3 (mv_ ?_)))
 refine G1 (aS rfl a0) kR (A6u _ _) rfl ?_
 refine as_ (A0 (E9 0 1 5 6) (A5 (A3 (mv_ (A0 (E9 0 1 6 11) ?_)))))
 refine D6 rfl ?_
 refine A9 (nx (E1 0 1 6) (A5 (A3 (mv_ (A0 (E1 0 1 13) ?_)))))
 refine D6 rfl ?_
 refine A9 (nx (D4 0 1) (A5 (A3 (mv_ (mv_ ?_)))))
 refine A4 (E7 (decide (a < b)) rfl rfl (lt32 _ _)) rfl ?_
 refine A0 (E1 0 1 16) ?_
 refine C7 rfl (fun hc => ?_) (fun hc => ?_)
 ·
  have hab : a < b := of_decide_eq_true hc
  refine A3 (as_ (A0 (D8 4) (C1 (tr ?_))))
  exact ⟨_, [], [], I2 rfl rfl, List.nil_sublist _, by simp, by rw [A7k hab], rfl, rfl⟩
 ·
  have hab : ¬ a < b := of_decide_eq_false hc
  refine A9 (nx (D4 0 1) (A5 (A3 (mv_ (mv_ ?_)))))
  refine A4 (E7 (decide (b < a)) rfl rfl (gt32 _ _)) rfl ?_
  refine A0 (D8 19) ?_
  refine C7 rfl (fun hc => ?_) (fun hc => ?_)
  ·
   have hba : b < a := of_decide_eq_true hc
   refine A3 (as_ (A0 (D8 4) (C1 (tr ?_))))
   exact ⟨_, [], [], I2 rfl rfl, List.nil_sublist _, by simp, by rw [A7l hba], rfl, rfl⟩
  ·
   have hba : ¬ b < a := of_decide_eq_false hc
   refine A9 (nx kn (A3 (as_ (A0 (D8 4) (C1 ?_)))))
   exact ⟨_, [], [], I2 rfl rfl, List.nil_sublist _, by simp, by rw [A7m (by omega)], rfl, rfl⟩
theorem A4m (vs vg : Value) (x : Pr) (n : Nat) (A : Mem) (hs : By A vs x.sec) (hg : By A vg x.sig) : FnV Tryz.prog 112 [.agg #[.int .u32 ((x.n : Nat) : Int), vs, vg], .int .u32 ((n : Nat) : Int)] A (.int .i64 (B3X x.n n)) := by
 haveI := hs.cel
 haveI := hg.cel
 refine FnX.enter (N := 9) Tryz.func112 rfl rfl rfl fun w => ?_
 refine C4 (D4 0 1) (A3 ?_)
 refine A6 rfl (bx_ fun b2 => ?_)
 refine as_ (A0 (D4 1 2) (A3 ?_))
 refine A4 (qf_ 0 0) rfl ?_
 refine A4 ql_ rfl ?_
 refine mv_ ?_
 refine G1 (aS rfl (aS rfl a0)) kR (A7n x.n n _) rfl ?_
 refine as_ (A0 (D8 4) (C1 ?_))
 exact ⟨_, [], [], I2 rfl rfl, List.nil_sublist _, by simp, rfl, rfl, rfl⟩
theorem B1x (v : Value) (rows : List (List Value)) (l : List Pr) (n : Nat) (A : Mem) (hv : Rd A 3 v l.length rows.flatten) (hR : RwL prR A rows l) (hrise : B5r l) (hl : l.length ≤ 1000000) : FnX Tryz.prog 111 [v, .int .u32 ((n : Nat) : Int), .func (.func 112) #[] #[]] [] A fun r M J => M = [] ∧ J = [] ∧ ∃ i b, r = .tuple #[.int .i64 ((i : Nat) : Int), .bool b] ∧ BsR l n i b := by
  haveI := hv.cel
  refine FnX.enter (N := 49) Tryz.func111 rfl rfl rfl fun w => ?_
  refine C4 (E1 0 1 2) (A3 (as_ (as_ (A0 (E1 0 1 2) (A3 (mv_ ?_))))))
  refine A4 (H6 (sz := 3) rfl kR hv) rfl ?_
  refine as_ (A0 (E9 0 1 2 8) (A3 (mv_ (as_ (as_ (A0 (I4 0 1 2 8 9 10) (A5 (C0 ?_))))))))
  refine F7 (α := Nat × Nat) (fun y => [(0, v), (1, .int .u32 ((n : Nat) : Int)), (2, .func (.func 112) #[] #[]), (8, .int .i64 ((l.length : Nat) : Int)), (9, .int .i64 ((y.1 : Nat) : Int)), (10, .int .i64 ((y.2 : Nat) : Int))]) (fun _ => []) (fun _ => []) (fun y => y.1 ≤ y.2 ∧ y.2 ≤ l.length ∧ (∀ (j : Nat) (z : Pr), j < y.1 → l[j]? = some z → z.n < n) ∧ (∀ (j : Nat) (z : Pr), y.2 ≤ j → l[j]? = some z → n ≤ z.n)) (fun y => y.2 - y.1) (0, l.length) ⟨Nat.zero_le _, Nat.le_refl _, fun j z h => by omega, fun j z h1 h2 => by have := (List.getElem?_eq_some_iff.1 h2).1; omega⟩ (I4 0 1 2 8 9 10) .rfl (fun _ h => h) ?_
  rintro ⟨lo, hi⟩ ⟨h1, h2, h3, h4⟩
  dsimp only at h1 h2 h3 h4 ⊢
  refine A5 (A3 (mv_ (mv_ ?_)))
  refine A4 (F5 rfl rfl rfl) rfl ?_
  refine A0 (X9 0 1 2 8 9 10 17) ?_
  refine C7 rfl (fun hc => ?_) (fun hc => ?_)
  ·
    have hlt : lo < hi := by simp at hc; omega
    obtain ⟨h, hh⟩ : ∃ h, (lo + hi) / 2 ^ 1 = h := ⟨_, rfl⟩
    have hh1 : lo ≤ h ∧ h < hi := by omega
    obtain ⟨x, hx⟩ : ∃ x, l[h]? = some x := ⟨_, List.getElem?_eq_getElem (by omega)⟩
    obtain ⟨r, hr, vs, vg, rfl, hs_, hg_, hxn⟩ := hR.get h x hx
    haveI := hs_.cel
    haveI := hg_.cel
    refine A9 (nx (I4 0 1 2 8 9 10) (C0 (A3 (mv_ (mv_ ?_)))))
    refine A4 (E5 ((lo + hi : Nat) : Int) rfl rfl (G3 (by omega) (by omega) (by omega))) rfl ?_
    refine A4 (P6 (k' := .u64) (lo + hi) rfl kR (A4x (by omega) (by omega))) rfl ?_
    refine A4 (hh ▸ A2p (a := lo + hi) (b := 1) rfl rfl rfl rfl (by decide)) rfl ?_
    refine A4 (P6 (k' := .i64) h rfl kR (A13 (by omega))) rfl ?_
    refine as_ (A0 (X9 0 1 2 8 9 10 11) (A3 (mv_ (mv_ (mv_ ?_)))))
    refine A4 (K6 (sz := 3) rfl rfl kR rfl hv (show h < l.length by omega)) rfl ?_
    refine A4 (A1G rfl kR (hv.mono SubC.sub) (hR.lens prT) (by decide) hr) rfl ?_
    refine mv_ ?_
    refine A6 rfl (A1O rfl (aS rfl (aS rfl a0)) kR (A4m vs vg x n _ (hs_.mono SubC.sub) (hg_.mono SubC.sub)) rfl ?_)
    refine A4 (E7 (decide (x.n < n)) rfl rfl (B3Y _ _)) rfl ?_
    refine A0 (A12 0 1 2 8 9 10 11 31) ?_
    refine C7 rfl (fun hc => ?_) (fun hc => ?_)
    ·
      have hxl : x.n < n := of_decide_eq_true hc
      refine C2 (mv_ ?_)
      refine A4 (E5 ((h + 1 : Nat) : Int) rfl rfl (G3 (by omega) (by omega) (by omega))) rfl ?_
      refine as_ (D1 (nb ?_))
      exact rn (h + 1, hi) ⟨by dsimp only; omega, h2, fun j z hj hz => by
        dsimp only at hj
        rcases Nat.lt_or_ge j h with hjh | hjh
        · have := hrise j h z x hjh hz hx; omega
        · obtain rfl : j = h := by omega
          rw [hx] at hz; cases hz; exact hxl, h4⟩ (by dsimp only; omega) (I4 0 1 2 8 9 10) .rfl (fun _ h => h)
    ·
      have hxl : ¬ x.n < n := of_decide_eq_false hc
      refine C2 (mv_ (as_ (D1 (nb ?_))))
      exact rn (lo, h) ⟨by dsimp only; omega, by dsimp only; omega, h3, fun j z hj hz => by
        dsimp only at hj
        rcases Nat.lt_or_ge h j with hjh | hjh
        · have := hrise h j x z hjh hx hz; omega
        · obtain rfl : j = h := by omega
          rw [hx] at hz; cases hz; omega⟩ (by dsimp only; omega) (I4 0 1 2 8 9 10) .rfl (fun _ h => h)
  ·
    have hlt : lo = hi := by simp at hc; omega
    subst hlt
    refine F1 (te (re (be rfl (nx (F9 0 1 2 8 9) (A3 (mv_ (mv_ (mv_ ?_))))))))
    refine A4 (F5 rfl rfl rfl) rfl ?_
    refine mv_ ?_
    refine X8 (t := 39) rfl (fun hb => ?_) (fun hb => ?_)
    ·
      have hlo : lo < l.length := by simp at hb; omega
      obtain ⟨x, hx⟩ : ∃ x, l[lo]? = some x := ⟨_, List.getElem?_eq_getElem hlo⟩
      obtain ⟨r, hr, vs, vg, rfl, hs_, hg_, hxn⟩ := hR.get lo x hx
      haveI := hs_.cel
      haveI := hg_.cel
      refine C6 rfl rfl (OpQ.opL qm_ rfl ?_)
      refine C6 rfl rfl (OpQ.opL qm_ rfl ?_)
      refine C6 rfl rfl (OpQ.opL qm_ rfl ?_)
      refine C6 rfl rfl (OpQ.opL (K6 (sz := 3) rfl rfl kR rfl hv hlo) rfl ?_)
      refine C6 rfl rfl (OpQ.opL (A1G rfl kR (hv.mono SubC.sub) (hR.lens prT) (by decide) hr) rfl ?_)
      refine C6 rfl rfl (OpQ.opL qm_ rfl ?_)
      refine C6 rfl rfl (A1O rfl (aS rfl (aS rfl a0)) kR (A4m vs vg x n _ (hs_.mono SubC.sub) (hg_.mono SubC.sub)) rfl ?_)
      refine C6 rfl rfl (OpQ.opL (E7 (decide (x.n = n)) rfl rfl (B3Z _ _)) rfl ?_)
      refine A4 (D7 rfl rfl) rfl ?_
      refine as_ (as_ (A0 (D4 6 7) (C1 ?_)))
      exact ⟨_, [], [], A6F rfl rfl rfl, List.nil_sublist _, by simp, rfl, rfl, lo, _, rfl, h2, h3, h4, by rw [hx]; simp⟩
    ·
      have hlo : ¬ lo < l.length := by simp at hb; omega
      refine H4 rfl rfl rfl rfl ?_
      refine H4 rfl rfl rfl rfl ?_
      refine H4 rfl rfl rfl rfl ?_
      refine H4 rfl rfl rfl rfl ?_
      refine H4 rfl rfl rfl rfl ?_
      refine H4 rfl rfl rfl rfl ?_
      refine H4 rfl rfl rfl rfl ?_
      refine H4 rfl rfl rfl rfl ?_
      refine A4 (E2 rfl rfl) rfl ?_
      refine as_ (as_ (A0 (D4 6 7) (C1 ?_)))
      exact ⟨_, [], [], A6F rfl rfl rfl, List.nil_sublist _, by simp, rfl, rfl, lo, _, rfl, h2, h3, h4, by rw [List.getElem?_eq_none (by omega)]; simp⟩
theorem B9i (kb : Nat) (k : Ks) (va vg vs vo vm : Value) (rs ro rm : List (List Value)) (n : Nat) (A : Mem) (hK : KyR A kb k va vg vs vo vm rs ro rm) (hrise : B5r k.once) : FnX Tryz.prog 67 [.pointer (some ⟨kb, 0, none⟩), .int .u32 ((n : Nat) : Int)] [] A fun r M J => M = [] ∧ ∃ q, r = .tuple #[q, .bool (A1u k.once n).isSome] ∧ By J q ((A1u k.once n).getD []) := by
 have hkb := hK.blk_
 haveI := hK.agree.cel
 haveI := hK.sign.cel
 haveI := hK.signed.cel
 haveI := hK.once.cel
 haveI := hK.met.cel
 refine FnX.enterZ (N := 30) Tryz.func67 rfl rfl rfl fun w_ => ?_
 refine C4 (D4 0 1) (A3 (as_ (as_ (A0 (D4 0 1) (A5 (A3 (mv_ ?_)))))))
 refine A4 (E6 (e := 114) rfl rfl kR) rfl ?_
 refine A0 (E1 0 1 9) ?_
 refine D6 rfl ?_
 refine A9 (nx (D4 0 1) (A3 (mv_ ?_)))
 refine A4 (G6 rfl) rfl ?_
 refine A4 (qf_ 5 5) rfl ?_
 refine A4 (I7 rfl kR (mA hkb) (by rfl)) rfl ?_
 refine mv_ ?_
 refine D0 (aS rfl (aS rfl (aS rfl a0))) kR (B1x vo ro k.once n _ (hK.once.mono SubC.sub) (hK.onceR.mono prT SubC.sub) hrise hK.l2) rfl ?_
 rintro r16 M16 J16 ⟨rfl, rfl, i, b, rfl, hb⟩
 refine mv_ ?_
 refine A4 (A2I rfl) rfl ?_
 refine A4 (A2v rfl) rfl ?_
 refine as_ (as_ (A0 (E1 0 6 7) (A5 ?_)))
 cases b
 ·
  have hf := hb.no hrise
  refine A3 (mv_ ?_)
  refine A4 (V3 rfl) rfl ?_
  refine A0 (E1 0 6 20) ?_
  refine E0 rfl ?_
  refine A3 (as_ (as_ (A0 (D4 4 5) (C1 (tr ?_)))))
  exact ⟨_, [], [], A6F rfl rfl rfl, Fit.sub (List.nil_sublist _), rfl, _, by rw [A3F hf]; rfl, by rw [A3F hf]; exact By.nil⟩
 ·
  obtain ⟨x, hx, hf⟩ := hb.yes
  have hil := (List.getElem?_eq_some_iff.1 hx).1
  obtain ⟨r, hr, vs_, vg_, rfl, hs_, hg_, hxn⟩ := hK.onceR.get i x hx
  haveI := hs_.cel
  refine A3 (mv_ ?_)
  refine A4 (V3 rfl) rfl ?_
  refine A0 (E1 0 6 20) ?_
  refine D6 rfl ?_
  refine A9 (nx (D4 0 6) (A3 (mv_ ?_)))
  refine A4 (G6 rfl) rfl ?_
  refine A4 (qf_ 5 5) rfl ?_
  refine A4 (I7 rfl kR (mA hkb) (by rfl)) rfl ?_
  refine mv_ ?_
  refine A4 (K6 (sz := 3) rfl rfl kR rfl hK.once hil) rfl ?_
  refine A4 (B4B (off := 1) rfl hK.once hil kR) rfl ?_
  refine A4 (B4C (u := vs_) rfl (hK.once.mono SubC.sub) (by omega) kR (by rw [A1y (hK.onceR.lens prT) hr 1 (by decide)]; rfl)) rfl ?_
  refine D0 (aS rfl a0) kR (A1s vs_ x.sec _ (hs_.mono SubC.sub)) rfl ?_
  rintro r29 M29 J29 ⟨rfl, h29⟩
  haveI := h29.cel
  refine as_ (as_ (A0 (D4 4 5) (C1 ?_)))
  exact ⟨_, [], [], A6F rfl rfl rfl, Fit.sub (List.nil_sublist _), rfl, _, by rw [A0q hf hx]; rfl, by rw [A0q hf hx]; exact h29.mono SubC.sub⟩

structure Kys (R : Mem) (kb : Nat) (k : Ks) (M : Mem) : Prop where
  ex : ∃ (va vg vs vo vm : Value) (rs ro rm : List (List Value)) (Bs Bo Bm : Mem), M = (kb, blk [.int .i64 k.user, .int .i64 k.dev, va, vg, vs, vo, .int .u32 ((k.next : Nat) : Int), vm] 114) :: (Bs ++ (Bo ++ Bm)) ∧
    By R va k.agree ∧ By R vg k.sign ∧ Sl 3 vs k.signed.length rs.flatten Bs ∧ RwL prR R rs k.signed ∧ Sl 3 vo k.once.length ro.flatten Bo ∧ RwL prR R ro k.once ∧ Sl 2 vm k.met.length rm.flatten Bm ∧ RwL nmR R rm k.met ∧ k.next < 4294967296 ∧ k.signed.length ≤ 2 ∧ k.once.length ≤ 100 ∧ k.met.length ≤ 100000
theorem Kys.mono {R R' : Mem} {kb : Nat} {k : Ks} {M : Mem} (h : Kys R kb k M) (hR : ∀ x, x ∈ R → x ∈ R') : Kys R' kb k M := by
  obtain ⟨va, vg, vs, vo, vm, rs, ro, rm, Bs, Bo, Bm, h1, h2, h3, h4, h5, h6, h7, h8, h9, h10⟩ := h.ex
  exact ⟨va, vg, vs, vo, vm, rs, ro, rm, Bs, Bo, Bm, h1, h2.mono hR, h3.mono hR, h4, h5.mono prT hR, h6, h7.mono prT hR, h8, h9.mono nmT hR, h10⟩
theorem Kys.r {R : Mem} {kb : Nat} {k : Ks} {M : Mem} (h : Kys R kb k M) : ∃ va vg vs vo vm rs ro rm, ∀ R', (∀ x, x ∈ R → x ∈ R') → (∀ x, x ∈ M → x ∈ R') → KyR R' kb k va vg vs vo vm rs ro rm := by
  obtain ⟨va, vg, vs, vo, vm, rs, ro, rm, Bs, Bo, Bm, rfl, h2, h3, h4, h5, h6, h7, h8, h9, h10, h11, h12, h13⟩ := h.ex
  refine ⟨va, vg, vs, vo, vm, rs, ro, rm, fun R' hR hM => ⟨hM _ List.mem_cons_self, h2.mono hR, h3.mono hR, h4.rd fun x hx => hM x (by simp [hx]), h5.mono prT hR, h6.rd fun x hx => hM x (by simp [hx]), h7.mono prT hR, h8.rd fun x hx => hM x (by simp [hx]), h9.mono nmT hR, by omega, by omega, by omega, by omega⟩⟩
noncomputable def fillI (k : Ks) (s : Ps) : Nat → Ks × Ps
  | 0 => (k, s)
  | i + 1 => ({ (fillI k s i).1 with once := (fillI k s i).1.once ++ [⟨(fillI k s i).1.next, F0 (fillI k s i).2, []⟩], next := (fillI k s i).1.next + 1 }, D9 (fillI k s i).2)
theorem A4n (k : Ks) (s : Ps) : ∀ i, (fillI k s i).1.once.length = k.once.length + i
  | 0 => rfl
  | i + 1 => by simp [fillI, A4n k s i]; omega
theorem A0f (k : Ks) (s : Ps) : ∀ i, (fillI k s i).1.next = k.next + i
  | 0 => rfl
  | i + 1 => by simp [fillI, A0f k s i]; omega
theorem A5k (k : Ks) (s : Ps) : ∀ i, (fillI k s i).1 = { k with once := (fillI k s i).1.once, next := k.next + i }
  | 0 => rfl
  | i + 1 => by
    have h := A5k k s i
    have hn := A0f k s i
    simp only [fillI, hn]
    rw [h]
    simp [Nat.add_assoc]
theorem L2 (s : Ps) : (D9 s).ts.length ≤ s.ts.length + 1 ∧ (D9 s).n = s.n + 1 := by
  unfold D9
  split
  · exact ⟨by simp, rfl⟩
  · refine ⟨?_, rfl⟩
    show (add s.ts _).length ≤ _
    unfold add
    split <;> simp
theorem A2O (k : Ks) (s : Ps) : ∀ i, (fillI k s i).2.ts.length ≤ s.ts.length + i ∧ (fillI k s i).2.n = s.n + i
  | 0 => ⟨Nat.le_refl _, rfl⟩
  | i + 1 => by
    have h := A2O k s i
    have h2 := L2 (fillI k s i).2
    simp only [fillI]
    omega
noncomputable def A1W (k : Ks) (s : Ps) : Ks × Ps := fillI k s (4 - k.once.length)
theorem B9j (kb pb : Nat) (k : Ks) (s : Ps) (MK MP A : Mem) (hK : Kys A kb k MK) (hP : Prm pb s MP) (hn : s.ts.length + 100 ≤ 1048576) (hk : s.n < 1000000000) (hnx : k.next + 100 < 4000000000) (hG : Glb A) : FnX Tryz.prog 65 [.pointer (some ⟨kb, 0, none⟩), .pointer (some ⟨pb, 0, none⟩)] (MK ++ MP) A fun q M J => q = .int .i64 ((4 - k.once.length : Nat) : Int) ∧ ∃ MK2 MP2, M = MK2 ++ MP2 ∧ Kys (J ++ A) kb (A1W k s).1 MK2 ∧ Prm pb (A1W k s).2 MP2 := by
 obtain ⟨va, vg, vs, vo, vm, rs, ro, rm, Bs, Bo, Bm, rfl, hva, hvg, hss, hrs, hso, hro, hsm, hrm, hn1, hn2, hn3, hn4⟩ := hK.ex
 haveI := hva.cel
 haveI := hvg.cel
 haveI := hss.cel
 haveI := hso.cel
 haveI := hsm.cel
 refine FnX.enterZ (N := 42) Tryz.func65 rfl rfl rfl fun w_ => ?_
 refine C4 (D4 0 1) (A3 (as_ (A0 (D4 0 1) (A3 (as_ (A0 (E1 0 1 5) (A5 ?_)))))))
 refine C0 ?_
 refine F7 (α := Nat × (Value × List (List Value) × Mem) × Mem × Mem) (fun y => [(0, .pointer (some ⟨kb, 0, none⟩)), (1, .pointer (some ⟨pb, 0, none⟩)), (5, .int .i64 ((y.1 : Nat) : Int))]) (fun y => (kb, blk [.int .i64 k.user, .int .i64 k.dev, va, vg, vs, y.2.1.1, .int .u32 ((k.next + y.1 : Nat) : Int), vm] 114) :: (Bs ++ (y.2.1.2.2 ++ (Bm ++ y.2.2.1)))) (fun y => y.2.2.2) (fun y => y.1 + k.once.length ≤ max 4 k.once.length ∧ Sl 3 y.2.1.1 (k.once.length + y.1) y.2.1.2.1.flatten y.2.1.2.2 ∧ RwL prR (y.2.2.2 ++ A) y.2.1.2.1 (fillI k s y.1).1.once ∧ Prm pb (fillI k s y.1).2 y.2.2.1) (fun y => 4 - (k.once.length + y.1)) (0, (vo, ro, Bo), MP, []) ⟨by dsimp only; omega, hso, hro, hP⟩ (E1 0 1 5) (Fit.pick (B := [_]) PickC.perm (Fit.pick PickC.perm (Fit.pick PickC.perm (Fit.pick PickC.perm (Fit.last PickC.perm))))) (fun _ h => h) ?_
 rintro ⟨i, ⟨voi, roi, Boi⟩, MPi, Ji⟩ ⟨hi, hsi, hri, hPi⟩
 dsimp only at hi hsi hri hPi ⊢
 haveI := hsi.cel
 have hps := A2O k s i
 have hnx := A0f k s i
 have hol := A4n k s i
 refine A5 (A3 (mv_ ?_))
 refine A4 (A8F (e := 114) rfl rfl kR) rfl ?_
 refine mv_ ?_
 refine C6 rfl rfl (OpQ.opL qm_ rfl ?_)
 refine C6 rfl rfl (OpQ.opL (G6 rfl) rfl ?_)
 refine C6 rfl rfl (OpQ.opL (qf_ 5 5) rfl ?_)
 refine C6 rfl rfl (OpQ.opL ql_ rfl ?_)
 refine C6 rfl rfl (OpQ.opL (H6 (sz := 3) rfl kR (hsi.rd (R := Boi) fun _ h => h)) rfl ?_)
 refine C6 rfl rfl (OpQ.opL (F5 rfl rfl rfl) rfl ?_)
 refine A4 (D7 rfl rfl) rfl ?_
 refine A0 (E9 0 1 5 15) ?_
 refine C7 rfl (fun hc => ?_) (fun hc => ?_)
 ·
  have hlt : k.once.length + i < 4 := by simp at hc; omega
  refine A9 (nx (E1 0 1 5) (A5 (C0 ?_)))
  refine K0 (MPi) (_) true [0, 1, 2, 3, 4, 5, 6, 7, 8, 9, 10, 11, 12, 14, 15] (zp 0 [0, 0, 0, 0, 1, 0, 0, 0, 1, 0, 2, 0, 2, 2, 0, 0, 2]) kR kR PickC.perm fun hs K n0 hKm hKs hKn => ?_
  refine km_ hs ?_
  refine km_ hs ?_
  refine L6 hs rfl (G6 rfl) rfl ?_
  refine L6 hs rfl (qf_ 5 5) rfl ?_
  refine R9 hs rfl hKs ql_ ?_
  refine km_ hs ?_
  refine L6 hs rfl (G6 rfl) rfl ?_
  refine L6 hs rfl (qf_ 6 6) rfl ?_
  refine R9 hs rfl hKs ql_ ?_
  refine km_ hs ?_
  refine K9 _ _ rfl rfl (List.Perm.refl _) hKm fun w0 => (F2 (Mc := MPi) (R := _) (aS rfl a0) kR PickC.perm (A0a pb (fillI k s i).2 MPi _ hPi (by omega) (by omega) hG.up) rfl ?_)
  rintro v28 M28 J28 ⟨hP28, h28⟩ hKx
  haveI := h28.cel
  refine L6 hs rfl (F6 (place := fun x => #[(0, 1), (1, 1), (2, 1)][x]?) (z := [.int .u32 0, .slice none 0 0, .slice none 0 0]) (fun _ => by kernel_rfl) (eS rfl (eS rfl e0)) (bdS 0 1 rfl (by rfl) (bdS 1 1 rfl (by rfl) bd0))) rfl ?_
  refine K9 [] _ rfl rfl (List.Perm.refl _) (fun _ h => by cases h) fun w0 => (C8 (e := 110) (sz := 3) (z := [.int .u32 0, .slice none 0 0, .slice none 0 0]) kR (eS rfl e0) (bdS 0 3 rfl (by rfl) bd0) rfl fun b30 => fun _ => ?_)
  refine A0G (M' := (b30, blk [.int .u32 ((k.next + i : Nat) : Int), v28, .slice none 0 0] 110) :: (M28 ++ ((kb, blk [.int .i64 k.user, .int .i64 k.dev, va, vg, vs, voi, .int .u32 ((k.next + i : Nat) : Int), vm] 114) :: (Bs ++ (Boi ++ (Bm ++ [])))))) (by simp) ?_
  refine XK.tl rfl rfl rfl (K3 (e := 110) (sz := 3) (by_ := 56) rfl rfl kR rfl hsi (Rd.whole (n := 1) At.mem (by rfl)) (by intro c hc; simp only [List.mem_cons, List.not_mem_nil, or_false] at hc; rcases hc with rfl | rfl | rfl; rfl; exact h28.one; rfl) PickC.perm (by unfold maxLen; omega) (by omega) rfl fun v31 B31 hs31 => ?_)
  haveI := hs31.cel
  refine L6 hs rfl (G6 rfl) rfl ?_
  refine L6 hs rfl (qf_ 5 5) rfl ?_
  refine XK.tl rfl rfl rfl (E3 rfl rfl hs31.one kR SetC.set UpC.upd ?_)
  refine Q3 (E1 0 1 5) (C2 (mv_ ?_))
  refine A4 (G6 rfl) rfl ?_
  refine A4 (qf_ 6 6) rfl ?_
  refine A4 ql_ rfl ?_
  refine A4 (A7J 4294967296 (a := k.next + i) (b := 1) rfl rfl rfl rfl rfl rfl (by omega)) rfl ?_
  refine A4 (G6 rfl) rfl ?_
  refine A4 (qf_ 6 6) rfl ?_
  refine A6 rfl (E3 rfl rfl rfl kR SetC.set UpC.upd ?_)
  refine D1 (nb (nx (E1 0 1 5) (C2 (mv_ ?_))))
  refine A4 (E5 ((i + 1 : Nat) : Int) rfl rfl (G3 (by omega) (by omega) (by omega))) rfl ?_
  refine as_ (D1 ?_)
  exact rn (i + 1, (v31, roi ++ [[.int .u32 ((k.next + i : Nat) : Int), v28, .slice none 0 0]], B31), _, _) ⟨by dsimp only; omega, by simpa [Nat.add_assoc] using hs31, (hri.mono prT SubC.sub).snoc ⟨v28, .slice none 0 0, by rw [hnx], h28.mono SubC.sub, By.nil, by dsimp only; omega⟩, hP28⟩ (by dsimp only; omega) (E1 0 1 5) (Fit.pick (B := [_]) PickC.perm (Fit.pick PickC.perm (Fit.pick PickC.perm (Fit.pick PickC.perm (Fit.last PickC.perm))))) (fun _ h => h)
 ·
  have hge : 4 ≤ k.once.length + i := by simp at hc; omega
  obtain rfl : i = 4 - k.once.length := by omega
  refine F1 (te (re (be rfl (nx (D8 5) (A3 (mv_ (as_ (A0 (D8 4) ?_))))))))
  refine C1 ?_
  have hfe := A5k k s (4 - k.once.length)
  refine ⟨_, (kb, blk [.int .i64 k.user, .int .i64 k.dev, va, vg, vs, voi, .int .u32 ((k.next + (4 - k.once.length) : Nat) : Int), vm] 114) :: (Bs ++ (Boi ++ (Bm ++ MPi))), [], I2 rfl rfl, Fit.none (Fit.eq (by simp)), rfl, (kb, blk [.int .i64 k.user, .int .i64 k.dev, va, vg, vs, voi, .int .u32 ((k.next + (4 - k.once.length) : Nat) : Int), vm] 114) :: (Bs ++ (Boi ++ Bm)), MPi, by simp, ⟨⟨va, vg, vs, voi, vm, rs, roi, rm, Bs, Boi, Bm, ?_⟩⟩, hPi⟩
  unfold A1W
  rw [hfe]
  exact ⟨rfl, hva.mono SubC.sub, hvg.mono SubC.sub, hss, hrs.mono prT SubC.sub, by show Sl 3 voi (fillI k s (4 - k.once.length)).1.once.length _ _; rw [hol]; exact hsi, hri, hsm, hrm.mono nmT SubC.sub, by dsimp only; omega, hn2, by show (fillI k s (4 - k.once.length)).1.once.length ≤ 100; rw [hol]; omega, hn4⟩

end Go.Proofs.YthbhpfefdnffaaaGreatDoor
