/- Part 13 of the texts of this claim, one behind the other. -/
import Derived.Test.YtphcaiplgpmnnaaGreatDoorB12
set_option linter.unusedVariables false
set_option linter.unusedSimpArgs false
set_option maxRecDepth 100000
set_option maxRecDepth 10000
namespace Go.Ed
variable {n : Nat} [NeZero n]
theorem xx_law {x y d : Fin n} (h : y*y - x*x = 1 + d*x*x*y*y) : x*x*(1 + d*(y*y)) = y*y - 1 := by grind
theorem lad_l (x2 y2 x3 y3 d : Fin n) (h2 : y2*y2 - x2*x2 = 1 + d*x2*x2*y2*y2) (h3 : y3*y3 - x3*x3 = 1 + d*x3*x3*y3*y3) :
    (1 + d*(y2*y2))*(1 + d*(y3*y3))*((1 - y2*y3 - (d*x2*x3*y2*y3 + x2*x3))*(1 - y2*y3 + (d*x2*x3*y2*y3 + x2*x3))) = (y2 - y3)*(y2 - y3)*((1 + d)*(1 + d*(y2*y3)*(y2*y3))) := by
  have e2 := xx_law h2
  have e3 := xx_law h3
  have e : (1 + d*(y2*y2))*(1 + d*(y3*y3))*((1 - y2*y3 - (d*x2*x3*y2*y3 + x2*x3))*(1 - y2*y3 + (d*x2*x3*y2*y3 + x2*x3))) = (1 + d*(y2*y2))*(1 + d*(y3*y3))*((1 - y2*y3)*(1 - y2*y3)) - (x2*x2*(1 + d*(y2*y2)))*(x3*x3*(1 + d*(y3*y3)))*((1 + d*(y2*y3))*(1 + d*(y2*y3))) := by clear h2 h3 e2 e3; grind
  rw [e, e2, e3]
  clear h2 h3 e2 e3 e
  grind
theorem lad_r (x2 y2 x3 y3 d : Fin n) (h2 : y2*y2 - x2*x2 = 1 + d*x2*x2*y2*y2) (h3 : y3*y3 - x3*x3 = 1 + d*x3*x3*y3*y3) :
    (1 + d*(y2*y2))*(1 + d*(y3*y3))*((1 + y2*y3 + (x2*x3 - d*x2*x3*y2*y3))*(1 + y2*y3 - (x2*x3 - d*x2*x3*y2*y3))) = (y2 + y3)*(y2 + y3)*((1 + d)*(1 + d*(y2*y3)*(y2*y3))) := by
  have e2 := xx_law h2
  have e3 := xx_law h3
  have e : (1 + d*(y2*y2))*(1 + d*(y3*y3))*((1 + y2*y3 + (x2*x3 - d*x2*x3*y2*y3))*(1 + y2*y3 - (x2*x3 - d*x2*x3*y2*y3))) = (1 + d*(y2*y2))*(1 + d*(y3*y3))*((1 + y2*y3)*(1 + y2*y3)) - (x2*x2*(1 + d*(y2*y2)))*(x3*x3*(1 + d*(y3*y3)))*((1 - d*(y2*y3))*(1 - d*(y2*y3))) := by clear h2 h3 e2 e3; grind
  rw [e, e2, e3]
  clear h2 h3 e2 e3 e
  grind
theorem pf1 {m k t S t2 : Fin n} (h : 1 - t = t2) (s : S*t2 = m + k) : 1 - m - (t + k) = (1 - S)*t2 := by grind
theorem pf2 {m k t y t1 : Fin n} (h : 1 + t = t1) (s : y*t1 = m - k) : 1 - m + (t + k) = (1 - y)*t1 := by grind
theorem pf3 {m k t S t2 : Fin n} (h : 1 - t = t2) (s : S*t2 = m + k) : 1 + m + (k - t) = (1 + S)*t2 := by grind
theorem pf4 {m k t y t1 : Fin n} (h : 1 + t = t1) (s : y*t1 = m - k) : 1 + m - (k - t) = (1 + y)*t1 := by grind
theorem pf5 {a b y z : Fin n} : (b*(1 + z) - b*(1 - z))*(a*(1 + y) + a*(1 - y)) + (b*(1 + z) + b*(1 - z))*(a*(1 + y) - a*(1 - y)) = 4*(a*b)*(y + z) := by grind
theorem pf6 {a b y z : Fin n} : (b*(1 + z) - b*(1 - z))*(a*(1 + y) + a*(1 - y)) - (b*(1 + z) + b*(1 - z))*(a*(1 + y) - a*(1 - y)) = 4*(a*b)*(z - y) := by grind
theorem pf7 {Y L M I : Fin n} (h : L = Y*M) (hi : M*I = 1) : Y = L*I := by grind
theorem pf8 {c y a2 a3 S t2 t1 v I : Fin n} (h : y*y = a2*a3*((1 + S)*t2*((1 + v)*t1))*I) : 4*c*y*(4*c*y) = 16*(c*c)*(t1*t2)*(a2*a3)*I*(1 + v)*(1 + S) := by
  have : 4*c*y*(4*c*y) = 16*(c*c)*(y*y) := by grind
  rw [this, h]; clear this h; grind
theorem pf9 {c y a2 a3 S t2 t1 v I u : Fin n} (h : y*y = a2*a3*((1 - S)*t2*((1 - v)*t1))*I) (hu : u*(1 - v) = 1 + v) : u*(4*c*y*(4*c*y)) = 16*(c*c)*(t1*t2)*(a2*a3)*I*(1 + v)*(1 - S) := by
  have e : u*(4*c*y*(4*c*y)) = u*(16*(c*c)*(y*y)) := by clear h hu; grind
  have e2 : u*(16*(c*c)*(a2*a3*((1 - S)*t2*((1 - v)*t1))*I)) = (u*(1 - v))*(16*(c*c)*(a2*a3*((1 - S)*t2*t1)*I)) := by clear h hu e; grind
  rw [e, h, e2, hu]; clear h hu e e2; grind
theorem pg1 {a y : Fin n} : (a*(1 + y) + a*(1 - y))*(a*(1 + y) + a*(1 - y)) = 4*(a*a) := by grind
theorem pg2 {a y : Fin n} : (a*(1 + y) - a*(1 - y))*(a*(1 + y) - a*(1 - y)) = 4*(a*a)*(y*y) := by grind
theorem pg3 {d k y : Fin n} (h : d*(k + 1) = -k) : (1 + d)*(1 + k*(1 - y*y)) = 1 + d*(y*y) := by grind
theorem pg4 {d w x y : Fin n} (h : (1 + d)*w = 1 + d*(y*y)) (hx : x*x*(1 + d*(y*y)) = y*y - 1) : (1 + d)*((1 + x*x)*w) = (1 + d)*(y*y) := by
  have : (1 + d)*((1 + x*x)*w) = (1 + x*x)*((1 + d)*w) := by clear h hx; grind
  rw [this, h]; clear this h; grind
theorem pg5 {d x y D S : Fin n} (he : y*y - x*x = 1 + d*x*x*y*y) (hD : 1 - d*x*x*y*y = D) (s : S*D = y*y + x*x) : D*(1 + S) = 2 + 2*(x*x) ∧ D*(1 - S) = 2 - 2*(y*y) := by
  have : D = 2 - y*y + x*x := by grind
  constructor
  · have : D*(1 + S) = D + S*D := by clear s he hD this; grind
    rw [this, s]; clear this s; grind
  · have : D*(1 - S) = D - S*D := by clear s he hD this; grind
    rw [this, s]; clear this s; grind
theorem pg6 {a w D S x y : Fin n} (g : D*(1 + S) = 2 + 2*(x*x)) (h : (1 + x*x)*w = y*y) : 4*(a*a)*(4*(a*a)*(y*y)) = 8*(a*a*(a*a))*w*D*(1 + S) := by
  have e : 8*(a*a*(a*a))*w*D*(1 + S) = 8*(a*a*(a*a))*w*(D*(1 + S)) := by clear g h; grind
  have e2 : 8*(a*a*(a*a))*w*(2 + 2*(x*x)) = 16*(a*a*(a*a))*((1 + x*x)*w) := by clear g h e; grind
  rw [e, g, e2, h]; clear g h e e2; grind
theorem pg7 {a k D S y : Fin n} (g : D*(1 - S) = 2 - 2*(y*y)) : (4*(a*a) - 4*(a*a)*(y*y))*(4*(a*a) + k*(4*(a*a) - 4*(a*a)*(y*y))) = 8*(a*a*(a*a))*(1 + k*(1 - y*y))*D*(1 - S) := by
  have e : 8*(a*a*(a*a))*(1 + k*(1 - y*y))*D*(1 - S) = 8*(a*a*(a*a))*(1 + k*(1 - y*y))*(D*(1 - S)) := by clear g; grind
  rw [e, g]; clear g e; grind
variable {d : Fin n} (F : Fld n d)
/-- The first coordinate of a point on the other curve, as a fraction. -/
structure RepU (X Z : Fin n) (P : Fin n × Fin n) : Prop where
  ex : ∃ c, c ≠ 0 ∧ X = c * (1 + P.2) ∧ Z = c * (1 - P.2)
include F
theorem Fld.four : (4 : Fin n) ≠ 0 := fun h => F.two ((F.mul0 2 2 (by grind)).elim id id)
theorem Fld.a_ne (y : Fin n) : 1 + d*(y*y) ≠ 0 := fun h => F.dy_ne (y := y) (by grind)
theorem Fld.rep_dif {A B C D u yD : Fin n} {P Q : Fin n × Fin n} (hP : On d P) (hQ : On d Q) (h1 : RepU A B P) (h2 : RepU C D Q) (hD : yD*(1 + d*P.1*Q.1*P.2*Q.2) = P.2*Q.2 - P.1*Q.1) (hu : u*(1 - yD) = 1 + yD) (hy : 1 + yD ≠ 0) {p q da cb : Fin n} (hp : p = A + B) (hq : q = A - B) (hda : da = (C - D)*p) (hcb : cb = (C + D)*q) :
    RepU ((da + cb)*(da + cb)) (u*((da - cb)*(da - cb))) (F.add P Q) := by
  obtain ⟨a, ha, rfl, rfl⟩ := h1
  obtain ⟨b, hb, rfl, rfl⟩ := h2
  obtain ⟨k1, k2⟩ := F.complete hP hQ
  obtain ⟨-, s2⟩ := F.add_spec hP hQ
  have hL := lad_l P.1 P.2 Q.1 Q.2 d hP.eq hQ.eq
  have hR := lad_r P.1 P.2 Q.1 Q.2 d hP.eq hQ.eq
  have n2 := F.a_ne P.2
  have n3 := F.a_ne Q.2
  have n4 : (1 + d) ≠ 0 := by have := F.a_ne 1; rwa [show d * ((1 : Fin n) * 1) = d by grind] at this
  have n5 : 1 + d*(P.2*Q.2)*(P.2*Q.2) ≠ 0 := by have := F.a_ne (P.2*Q.2); rwa [← show d*(P.2*Q.2)*(P.2*Q.2) = d*((P.2*Q.2)*(P.2*Q.2)) by grind] at this
  have n6 := F.mul_ne n4 n5
  have hi := F.hinv _ n6
  generalize F.add P Q = S at *
  have hI : F.inv ((1 + d)*(1 + d*(P.2*Q.2)*(P.2*Q.2))) ≠ 0 := fun h => by rw [h] at hi; exact F.one (by rw [← hi]; grind)
  rw [pf1 (S := S.2) rfl s2, pf2 rfl hD] at hL
  rw [pf3 (S := S.2) rfl s2, pf4 rfl hD] at hR
  have g : (16 : Fin n) ≠ 0 := fun h => F.four ((F.mul0 4 4 (by grind)).elim id id)
  refine ⟨16*(a*b*(a*b))*((1 + d*P.1*Q.1*P.2*Q.2)*(1 - d*P.1*Q.1*P.2*Q.2))*((1 + d*(P.2*P.2))*(1 + d*(Q.2*Q.2)))*F.inv ((1 + d)*(1 + d*(P.2*Q.2)*(P.2*Q.2)))*(1 + yD), ?_, ?_, ?_⟩
  · exact F.mul_ne (F.mul_ne (F.mul_ne (F.mul_ne (F.mul_ne g (F.mul_ne (F.mul_ne ha hb) (F.mul_ne ha hb))) (F.mul_ne k1 k2)) (F.mul_ne n2 n3)) hI) hy
  · subst hp hq hda hcb
    rw [pf5]
    exact pf8 (pf7 hR hi)
  · subst hp hq hda hcb
    rw [pf6]
    have e : (Q.2 - P.2)*(Q.2 - P.2) = (P.2 - Q.2)*(P.2 - Q.2) := by clear hL hR hi s2 hD hu; grind
    exact pf9 (e.trans (pf7 hL hi)) hu
theorem Fld.rep_dbl {A B k : Fin n} {P : Fin n × Fin n} (hP : On d P) (h1 : RepU A B P) (hk : d*(k + 1) = -k) {ss tt : Fin n} (hs : ss = (A + B)*(A + B)) (ht : tt = (A - B)*(A - B)) :
    RepU (ss*tt) ((ss - tt)*(ss + k*(ss - tt))) (F.add P P) := by
  obtain ⟨a, ha, rfl, rfl⟩ := h1
  obtain ⟨k1, k2⟩ := F.complete hP hP
  obtain ⟨-, s2⟩ := F.add_spec hP hP
  have n2 := F.a_ne P.2
  have n4 : (1 + d) ≠ 0 := by have := F.a_ne 1; rwa [show d * ((1 : Fin n) * 1) = d by grind] at this
  have hk1 := pg3 (y := P.2) hk
  have hw : 1 + k*(1 - P.2*P.2) ≠ 0 := fun h => by rw [h] at hk1; exact n2 (by rw [← hk1]; grind)
  have hx1 := F.cancel n4 (pg4 hk1 (xx_law hP.eq))
  obtain ⟨g1, g2⟩ := pg5 hP.eq rfl s2
  rw [pg1] at hs
  rw [pg2] at ht
  subst hs ht
  have g : (8 : Fin n) ≠ 0 := fun h => F.two ((F.mul0 2 4 (by grind)).elim id fun h => absurd h F.four)
  exact ⟨8*(a*a*(a*a))*(1 + k*(1 - P.2*P.2))*(1 - d*P.1*P.1*P.2*P.2), F.mul_ne (F.mul_ne (F.mul_ne g (F.mul_ne (F.mul_ne ha ha) (F.mul_ne ha ha))) hw) k2, pg6 g1 hx1, pg7 g2⟩
/-- A point's own other one. -/
theorem Fld.add_neg {P : Fin n × Fin n} (hP : On d P) : On d (-P.1, P.2) ∧ F.add P (-P.1, P.2) = ((0 : Fin n), (1 : Fin n)) := by
  have he := hP.eq
  have ho : On d (-P.1, P.2) := ⟨by show P.2*P.2 - -P.1 * -P.1 = 1 + d * -P.1 * -P.1 * P.2 * P.2; grind⟩
  refine ⟨ho, F.add_eq hP ho ?_ ?_⟩
  · show 0 * (1 + d*P.1* -P.1*P.2*P.2) = P.1*P.2 + -P.1*P.2; grind
  · show 1 * (1 - d*P.1* -P.1*P.2*P.2) = P.2*P.2 + P.1* -P.1; grind
/-- The difference of a sum and the first of its two is the second. -/
theorem Fld.dif {P Q : Fin n × Fin n} (hP : On d P) (hQ : On d Q) : Q.2*(1 + d*P.1*(F.add P Q).1*P.2*(F.add P Q).2) = P.2*(F.add P Q).2 - P.1*(F.add P Q).1 := by
  obtain ⟨o, e⟩ := F.add_neg hP
  have hS := F.add_on hP hQ
  have e2 : F.add (F.add P Q) (-P.1, P.2) = Q := by
    rw [F.add_comm P Q, F.add_assoc hQ hP o, e, F.add_o]
  have h := (F.add_spec hS o).2
  rw [e2] at h
  dsimp only at h
  generalize F.add P Q = S at *
  clear e2 e hS
  grind
end Go.Ed

/- Both ways round a third one's secret is the same: X25519 commutes. -/
namespace Go.Proofs.YtphcaiplgpmnnaaGreatDoor
open Go.Px Go.Ed
theorem pr531581 : Go.Px.IsPr 531581 := small 730 (by decide) (by decide) (by decide +kernel)
theorem pr1224481 : Go.Px.IsPr 1224481 := small 1107 (by decide) (by decide) (by decide +kernel)
theorem prL1 : Go.Px.IsPr 1257559732178653 := pock (F := 531581 * 1224481) (by decide) (by decide) fun s hs hd => cop_mul_dvd pr531581 pr1224481 (by decide) (ptest_spec (a := 2) (by decide) (by decide) pr531581 (by decide +kernel) s hs hd) (ptest_spec (a := 2) (by decide) (by decide) pr1224481 (by decide +kernel) s hs hd)
theorem prL2 : Go.Px.IsPr 4434155615661930479 := pock (F := 1257559732178653) (by decide) (by decide) (ptest_spec (a := 2) (by decide) (by decide) prL1 (by decide +kernel))
theorem prL3 : Go.Px.IsPr 172054593956031949258510691 := pock (F := 4434155615661930479) (by decide) (by decide) (ptest_spec (a := 2) (by decide) (by decide) prL2 (by decide +kernel))
theorem prL4 : Go.Px.IsPr 19757330305831588566944191468367130476339 := pock (F := 172054593956031949258510691) (by decide) (by decide) (ptest_spec (a := 2) (by decide) (by decide) prL3 (by decide +kernel))
theorem prL5 : Go.Px.IsPr 276602624281642239937218680557139826668747 := pock (F := 19757330305831588566944191468367130476339) (by decide) (by decide) (ptest_spec (a := 2) (by decide) (by decide) prL4 (by decide +kernel))
theorem prL : Go.Px.IsPr lN := pock (F := 276602624281642239937218680557139826668747) (by decide) (by decide) (ptest_spec (a := 2) (by decide) (by decide) prL5 (by decide +kernel))
/-- Two points' fractions, of two multiples of one point. -/
structure LR (P : Fin p25 × Fin p25) (s : Lad) (m1 m2 : Nat) : Prop where
  r1 : RepU (fF s.a) (fF s.b) (FF.nsm m1 P)
  r2 : RepU (fF s.c) (fF s.d) (FF.nsm m2 P)
  la : s.a < p25
  lb : s.b < p25
  lc : s.c < p25
  ld : s.d < p25
theorem LR.sw {P : Fin p25 × Fin p25} {s : Lad} {m1 m2 : Nat} (h : LR P s m1 m2) : LR P ⟨s.c, s.d, s.a, s.b⟩ m2 m1 := ⟨h.r2, h.r1, h.lc, h.ld, h.la, h.lb⟩
theorem k_law : fF dN * (fF 121665 + 1) = -fF 121665 := by decide +kernel
theorem LR.step {P : Fin p25 × Fin p25} {u : Nat} {s : Lad} {m1 m2 : Nat} (hP : On (fF dN) P) (hU : fF u * (1 - P.2) = 1 + P.2) (h2 : 1 + P.2 ≠ 0) (h : LR P s m1 m2) (hm : m2 = m1 + 1 ∨ m1 = m2 + 1) : LR P (stepL u s) (m1 + m1) (m1 + m2) := by
  have o1 := FF.nsm_on hP m1
  have o2 := FF.nsm_on hP m2
  have hD : P.2*(1 + fF dN*(FF.nsm m1 P).1*(FF.nsm m2 P).1*(FF.nsm m1 P).2*(FF.nsm m2 P).2) = (FF.nsm m1 P).2*(FF.nsm m2 P).2 - (FF.nsm m1 P).1*(FF.nsm m2 P).1 := by
    rcases hm with rfl | rfl
    · exact FF.dif o1 hP
    · have h1 := FF.dif o2 hP
      rw [← FF.nsm_succ] at h1
      generalize FF.nsm m2 P = Q at *
      generalize FF.nsm (m2 + 1) P = R at *
      have e1 : fF dN*R.1*Q.1*R.2*Q.2 = fF dN*Q.1*R.1*Q.2*R.2 := by clear h1 h hU; grind
      have e2 : R.2*Q.2 - R.1*Q.1 = Q.2*R.2 - Q.1*R.1 := by clear h1 h hU; grind
      rw [e1, e2]; exact h1
  refine ⟨?_, ?_, fM_lt _ _, fM_lt _ _, fM_lt _ _, fM_lt _ _⟩
  · rw [FF.nsm_add hP]
    show RepU (fF (fM (fM (fA s.a s.b) (fA s.a s.b)) (fM (fS s.a s.b) (fS s.a s.b)))) (fF (fM (fS (fM (fA s.a s.b) (fA s.a s.b)) (fM (fS s.a s.b) (fS s.a s.b))) (fA (fM (fA s.a s.b) (fA s.a s.b)) (fM 121665 (fS (fM (fA s.a s.b) (fA s.a s.b)) (fM (fS s.a s.b) (fS s.a s.b))))))) _
    rw [fF_M, fF_M (fS _ _) (fA _ _), fF_A, fF_M 121665, fF_S (fM_lt _ _)]
    exact FF.rep_dbl o1 h.r1 k_law (by rw [fF_M, fF_A]) (by rw [fF_M, fF_S h.lb])
  · rw [FF.nsm_add hP]
    show RepU (fF (fM (fA (fM (fS s.c s.d) (fA s.a s.b)) (fM (fA s.c s.d) (fS s.a s.b))) (fA (fM (fS s.c s.d) (fA s.a s.b)) (fM (fA s.c s.d) (fS s.a s.b))))) (fF (fM u (fM (fS (fM (fS s.c s.d) (fA s.a s.b)) (fM (fA s.c s.d) (fS s.a s.b))) (fS (fM (fS s.c s.d) (fA s.a s.b)) (fM (fA s.c s.d) (fS s.a s.b)))))) _
    rw [fF_M (fA _ _), fF_M u, fF_M (fS _ _) (fS _ _), fF_A (fM _ _), fF_S (fM_lt _ _)]
    exact FF.rep_dif o1 o2 h.r1 h.r2 hD hU h2 (p := fF s.a + fF s.b) (q := fF s.a - fF s.b) rfl rfl (by rw [fF_M, fF_S h.ld, fF_A]) (by rw [fF_M, fF_A, fF_S h.lb])
theorem lad_rep {P : Fin p25 × Fin p25} {u : Nat} (hP : On (fF dN) P) (hu : u < p25) (hU : fF u * (1 - P.2) = 1 + P.2) (h1 : 1 - P.2 ≠ 0) (h2 : 1 + P.2 ≠ 0) {n : Nat} (hn : n < 2 ^ 255) : ∀ k, k ≤ 255 → LR P (ladN u n k) (n / 2 ^ (255 - k)) (n / 2 ^ (255 - k) + 1)
  | 0, _ => by
    rw [Nat.div_eq_of_lt hn]
    have i2 := FF.hinv _ FF.two
    have i1 := FF.hinv _ h1
    have ne : ∀ {a : Fin p25}, a ≠ 0 → FF.inv a ≠ 0 := fun {a} ha h => by
      have := FF.hinv _ ha
      rw [h] at this
      exact FF.one (by rw [← this]; grind)
    refine ⟨⟨FF.inv 2, ne FF.two, ?_, ?_⟩, ⟨FF.inv (1 - P.2), ne h1, ?_, ?_⟩, by show 1 < p25; decide, by show 0 < p25; decide, hu, by show 1 < p25; decide⟩
    · show fF 1 = FF.inv 2 * (1 + 1)
      rw [show (1 : Fin p25) + 1 = 2 from rfl, ← show (2 : Fin p25) * FF.inv 2 = FF.inv 2 * 2 by grind, i2]; rfl
    · show fF 0 = FF.inv 2 * (1 - 1)
      rw [show (1 : Fin p25) - 1 = 0 from rfl, show FF.inv 2 * (0 : Fin p25) = 0 by grind]; rfl
    · show fF u = FF.inv (1 - P.2) * (1 + (FF.add ((0 : Fin p25), (1 : Fin p25)) P).2)
      rw [FF.add_comm, FF.add_o, ← hU]
      have : FF.inv (1 - P.2) * (fF u * (1 - P.2)) = fF u * ((1 - P.2) * FF.inv (1 - P.2)) := by clear i1 i2 hU; grind
      rw [this, i1]; grind
    · show fF 1 = FF.inv (1 - P.2) * (1 - (FF.add ((0 : Fin p25), (1 : Fin p25)) P).2)
      rw [FF.add_comm, FF.add_o]
      have : FF.inv (1 - P.2) * (1 - P.2) = (1 - P.2) * FF.inv (1 - P.2) := by clear i1 i2 hU; grind
      rw [this, i1]; rfl
  | k + 1, hk => by
    have ih := lad_rep hP hu hU h1 h2 hn k (by omega)
    have e1 : 255 - (k + 1) = 254 - k := by omega
    have e2 : n / 2 ^ (254 - k) = 2 * (n / 2 ^ (255 - k)) + n / 2 ^ (254 - k) % 2 := by
      have e3 : n / 2 ^ (255 - k) = n / 2 ^ (254 - k) / 2 := by rw [Nat.div_div_eq_div_mul, ← Nat.pow_succ]; congr 2; omega
      rw [e3]; omega
    rw [e1, e2]
    generalize n / 2 ^ (255 - k) = m at *
    show LR P (swL (decide (n / 2 ^ (254 - k) % 2 = 1)) (stepL u (swL (decide (n / 2 ^ (254 - k) % 2 = 1)) (ladN u n k)))) _ _
    by_cases hb : n / 2 ^ (254 - k) % 2 = 1
    · rw [hb]
      have h3 := (ih.sw.step hP hU h2 (.inr rfl)).sw
      rw [show m + 1 + m = 2 * m + 1 by omega, show m + 1 + (m + 1) = 2 * m + 1 + 1 by omega] at h3
      exact h3
    · rw [show n / 2 ^ (254 - k) % 2 = 0 by omega]
      have h3 := ih.step hP hU h2 (.inl rfl)
      rw [show m + m = 2 * m + 0 by omega, show m + (m + 1) = 2 * m + 0 + 1 by omega] at h3
      exact h3
/-- A point's coordinate on the other curve. -/
noncomputable def uOf (P : Fin p25 × Fin p25) : Fin p25 := (1 + P.2) * FF.inv (1 - P.2)
theorem inv_zero : FF.inv 0 = 0 := by
  show fF (fI (0 : Fin p25).val) = 0
  rw [fI_eq, rtp_pm (by decide)]
  decide +kernel
theorem lad_u {P : Fin p25 × Fin p25} {u : Nat} (hP : On (fF dN) P) (hu : u < p25) (hU : fF u * (1 - P.2) = 1 + P.2) (h1 : 1 - P.2 ≠ 0) (h2 : 1 + P.2 ≠ 0) {n : Nat} (hn : n < 2 ^ 255) : fM (ladN u n 255).a (fI (ladN u n 255).b) = (uOf (FF.nsm n P)).val := by
  have h := lad_rep hP hu hU h1 h2 hn 255 (Nat.le_refl _)
  rw [show 255 - 255 = 0 from rfl, Nat.pow_zero, Nat.div_one] at h
  obtain ⟨c, hc, e1, e2⟩ := h.r1
  have hb := h.lb
  generalize ladN u n 255 = s at *
  have e3 : fF (fM s.a (fI s.b)) = uOf (FF.nsm n P) := by
    rw [fF_M, e1]
    have e4 : fF (fI s.b) = FF.inv (fF s.b) := by
      show _ = fF (fI (fF s.b).val)
      rw [fF_val, Nat.mod_eq_of_lt hb]
    rw [e4, e2]
    unfold uOf
    generalize (FF.nsm n P).2 = y
    by_cases hy : 1 - y = 0
    · rw [hy, show c * (0 : Fin p25) = 0 by grind, inv_zero]; grind
    · have i1 := FF.hinv _ hy
      have i2 := FF.hinv _ (FF.mul_ne hc hy)
      have i3 : c * FF.inv (c * (1 - y)) = FF.inv (1 - y) := by
        refine FF.cancel hy ?_
        have e : (1 - y) * (c * FF.inv (c * (1 - y))) = c * (1 - y) * FF.inv (c * (1 - y)) := by
          generalize FF.inv (c * (1 - y)) = z
          clear i1 i2 e1 e2 e4
          grind
        rw [e, i2, i1]
      have : c * (1 + y) * FF.inv (c * (1 - y)) = (1 + y) * (c * FF.inv (c * (1 - y))) := by clear i1 i2 i3 e1 e2 e4; grind
      rw [this, i3]
  have := congrArg Fin.val e3
  rw [fF_val, Nat.mod_eq_of_lt (fM_lt _ _)] at this
  exact this
/-- A multiple that is nothing is one of the order's. -/
theorem nsm_dvd {B : Fin p25 × Fin p25} (hB : On (fF dN) B) (hne : B ≠ ((0 : Fin p25), (1 : Fin p25))) (hL : FF.nsm lN B = ((0 : Fin p25), (1 : Fin p25))) {j : Nat} (h : FF.nsm j B = ((0 : Fin p25), (1 : Fin p25))) : lN ∣ j := by
  apply Decidable.byContradiction
  intro hd
  have hc := prL.cop hd
  -- gcd: some a * j = 1 + b * lN
  have key : ∀ a b : Nat, FF.nsm a B = ((0 : Fin p25), (1 : Fin p25)) → FF.nsm b B = ((0 : Fin p25), (1 : Fin p25)) → FF.nsm (Nat.gcd a b) B = ((0 : Fin p25), (1 : Fin p25)) := by
    intro a b
    induction a, b using Nat.gcd.induction with
    | H0 b => intro _ h; rwa [Nat.gcd_zero_left]
    | H1 a b ha ih =>
      intro h1 h2
      rw [Nat.gcd_rec]
      refine ih ?_ h1
      rw [FF.nsm_mod hB h1]; exact h2
  have h1 := key lN j hL h
  rw [hc] at h1
  apply hne
  have : FF.nsm 1 B = FF.add ((0 : Fin p25), (1 : Fin p25)) B := rfl
  rw [this, FF.add_comm, FF.add_o] at h1
  exact h1
/-- A point whose second coordinate is 1 or -1 is of order one or two. -/
theorem y_one {P : Fin p25 × Fin p25} (hP : On (fF dN) P) (h : P.2 * P.2 = 1) : FF.add P P = ((0 : Fin p25), (1 : Fin p25)) := by
  have hx := xx_law hP.eq
  rw [h] at hx
  have hx0 : P.1 * P.1 * (1 + fF dN * 1) = 0 := by rw [hx]; grind
  have hn := FF.a_ne 1
  rw [show (1 : Fin p25) * 1 = 1 from rfl] at hn
  have h1 : P.1 * P.1 = 0 := (FF.mul0 _ _ hx0).resolve_right hn
  have h2 : P.1 = 0 := (FF.mul0 _ _ h1).elim id id
  obtain ⟨x, y⟩ := P
  dsimp only at h h2
  subst h2
  refine FF.add_eq hP hP ?_ ?_
  · show 0 * _ = 0 * y + 0 * y; grind
  · show 1 * (1 - fF dN * 0 * 0 * y * y) = y * y + 0 * 0
    rw [h]; grind
theorem y_ok {B : Fin p25 × Fin p25} (hB : On (fF dN) B) (hne : B ≠ ((0 : Fin p25), (1 : Fin p25))) (hL : FF.nsm lN B = ((0 : Fin p25), (1 : Fin p25))) {j : Nat} (hj : ¬ lN ∣ j + j) : 1 - (FF.nsm j B).2 ≠ 0 ∧ 1 + (FF.nsm j B).2 ≠ 0 := by
  have key : (FF.nsm j B).2 * (FF.nsm j B).2 ≠ 1 := fun h => hj (nsm_dvd hB hne hL (by rw [FF.nsm_add hB]; exact y_one (FF.nsm_on hB j) h))
  exact ⟨fun h => key (by grind), fun h => key (by grind)⟩
/-- The two ways round to a third one's secret. -/
theorem lad_comm {B : Fin p25 × Fin p25} {b : Nat} (hB : On (fF dN) B) (hne : B ≠ ((0 : Fin p25), (1 : Fin p25))) (hL : FF.nsm lN B = ((0 : Fin p25), (1 : Fin p25))) (hb : b < p25) (hU : fF b * (1 - B.2) = 1 + B.2) (h1 : 1 - B.2 ≠ 0) (h2 : 1 + B.2 ≠ 0) {m k : Nat} (hm : m < 2 ^ 255) (hk : k < 2 ^ 255) (jm : ¬ lN ∣ m + m) (jk : ¬ lN ∣ k + k) {um uk : Nat} (em : um = fM (ladN b m 255).a (fI (ladN b m 255).b)) (ek : uk = fM (ladN b k 255).a (fI (ladN b k 255).b)) :
    fM (ladN um k 255).a (fI (ladN um k 255).b) = fM (ladN uk m 255).a (fI (ladN uk m 255).b) := by
  have go : ∀ {m k um : Nat}, m < 2 ^ 255 → k < 2 ^ 255 → ¬ lN ∣ m + m → um = fM (ladN b m 255).a (fI (ladN b m 255).b) → fM (ladN um k 255).a (fI (ladN um k 255).b) = (uOf (FF.nsm (k * m) B)).val := by
    intro m k um hm hk jm em
    rw [lad_u hB hb hU h1 h2 hm] at em
    obtain ⟨y1, y2⟩ := y_ok hB hne hL jm
    rw [FF.nsm_mul hB]
    refine lad_u (FF.nsm_on hB m) (by rw [em]; exact (uOf _).isLt) ?_ y1 y2 hk
    rw [em, fF_of]
    unfold uOf
    have i1 := FF.hinv _ y1
    generalize (FF.nsm m B).2 = y at *
    have : (1 + y) * FF.inv (1 - y) * (1 - y) = (1 + y) * ((1 - y) * FF.inv (1 - y)) := by clear i1 hU; grind
    rw [this, i1]; grind
  rw [go hm hk jm em, go hk hm jk ek, Nat.mul_comm]
theorem rd32 {v : Nat} (h : v < p25) : rdN (prts 8 32 v 255) = v := by
  unfold rdN
  rw [if_pos (prts_len _ _ _ _), bv_prts, show (57896044618658097711785492504343953926634992332820282019728792003956564819968 : Nat) = 2 ^ 255 from rfl, Nat.mod_mod, Nat.mod_eq_of_lt (a := v) (b := 2 ^ 255) (Nat.lt_trans h (by decide)), Nat.mod_eq_of_lt h]
theorem and248_8 (x : Nat) : (x &&& 248) % 8 = 0 := by
  have := Nat.and_mod_two_pow (a := x) (b := 248) (n := 3)
  rw [show (2 : Nat) ^ 3 = 8 from rfl] at this
  rw [this]; simp
/-- What a secret's bytes stand for. -/
theorem clamp_bv {w : List Nat} (h : ∀ x ∈ w, x < 256) : ∃ m, bv (clampN w) = 8 * m ∧ 2 ^ 251 ≤ m ∧ m < 2 ^ 252 := by
  have hl := clampN_len w
  have hlt := clampN_lt h
  have hb := bv_lt hlt
  rw [hl] at hb
  have b0 := bv_byte hlt 0
  have b31 := bv_byte hlt 31
  have hf := fitN_len w 32
  have e0 : (clampN w).getD 0 0 = (fitN w 32).getD 0 0 &&& 248 := by
    unfold clampN
    dsimp only
    rw [List.getD_eq_getElem?_getD, List.getElem?_set_ne (by decide), List.getElem?_set_self (by omega)]
    rfl
  have e31 : ∃ z, (clampN w).getD 31 0 = z % 128 ||| 64 := by
    refine ⟨((fitN w 32).set 0 ((fitN w 32).getD 0 0 &&& 248)).getD 31 0, ?_⟩
    unfold clampN
    dsimp only
    rw [List.getD_eq_getElem?_getD, List.getElem?_set_self (by rw [List.length_set]; omega)]
    rfl
  obtain ⟨z, e31⟩ := e31
  rw [e0] at b0
  rw [e31] at b31
  have z1 : 64 ≤ z % 128 ||| 64 := Nat.right_le_or
  have z2 : z % 128 ||| 64 < 2 ^ 7 := Nat.or_lt_two_pow (Nat.mod_lt _ (by decide)) (by decide)
  have c8 := and248_8 ((fitN w 32).getD 0 0)
  generalize (fitN w 32).getD 0 0 &&& 248 = c at *
  generalize z % 128 ||| 64 = y at *
  generalize bv (clampN w) = b at *
  clear e0 e31 hl hlt hf
  rw [Nat.pow_zero, Nat.div_one] at b0
  have d31 : b / 256 ^ 31 < 256 := Nat.div_lt_of_lt_mul (by rw [← Nat.pow_succ]; exact hb)
  rw [Nat.mod_eq_of_lt d31] at b31
  have l1 : 64 * 256 ^ 31 ≤ b := by have := (Nat.le_div_iff_mul_le (show 0 < 256 ^ 31 by decide)).1 (show 64 ≤ b / 256 ^ 31 by omega); exact this
  have l2 : b < 128 * 256 ^ 31 := by have := (Nat.div_lt_iff_lt_mul (show 0 < 256 ^ 31 by decide)).1 (show b / 256 ^ 31 < 128 by omega); exact this
  have h8 : b % 8 = 0 := by omega
  refine ⟨b / 8, by omega, ?_, ?_⟩
  · have : (64 : Nat) * 256 ^ 31 = 8 * 2 ^ 251 := by decide
    omega
  · have : (128 : Nat) * 256 ^ 31 = 8 * 2 ^ 252 := by decide
    omega
theorem lN_clamp {w : List Nat} (h : ∀ x ∈ w, x < 256) : bv (clampN w) < 2 ^ 255 ∧ ¬ lN ∣ bv (clampN w) + bv (clampN w) := by
  obtain ⟨m, e, h1, h2⟩ := clamp_bv h
  rw [e]
  refine ⟨by have : (2 : Nat) ^ 255 = 8 * 2 ^ 252 := by decide
             omega, fun hd => ?_⟩
  rw [show 8 * m + 8 * m = 16 * m by omega] at hd
  rcases prL.mul hd with h3 | h3
  · exact absurd (Nat.le_of_dvd (by decide) h3) (by decide)
  · have := Nat.le_of_dvd (by have : (0 : Nat) < 2 ^ 251 := by decide
                              omega) h3
    have : (2 : Nat) ^ 252 < lN := by decide
    omega
theorem b_u : fF 9 * (1 - bPt.2) = 1 + bPt.2 := by decide +kernel
theorem b_ne : 1 - bPt.2 ≠ 0 ∧ 1 + bPt.2 ≠ 0 := by decide +kernel
theorem b_no : bPt ≠ ((0 : Fin p25), (1 : Fin p25)) := fun h => b_ne.1 (by rw [h]; rfl)
theorem nine_rd : rdN nineW = 9 := by decide +kernel
theorem base25_rd {t : List Nat} : rdN (base25 t) = fM (ladN 9 (bv (clampN t)) 255).a (fI (ladN 9 (bv (clampN t)) 255).b) := by
  unfold base25 x25
  rw [nine_rd]
  exact rd32 (fM_lt _ _)
/-- Two secrets, two ways: one value. -/
theorem x25_comm {s t : List Nat} (hs : ∀ x ∈ s, x < 256) (ht : ∀ x ∈ t, x < 256) : x25 s (base25 t) = x25 t (base25 s) := by
  obtain ⟨s1, s2⟩ := lN_clamp hs
  obtain ⟨t1, t2⟩ := lN_clamp ht
  unfold x25
  rw [lad_comm b_on b_no order_o (b := 9) (by decide) b_u b_ne.1 b_ne.2 t1 s1 t2 s2 (um := rdN (base25 t)) (uk := rdN (base25 s)) base25_rd base25_rd]

end Go.Proofs.YtphcaiplgpmnnaaGreatDoor
/- What two agree on, in both modes: the same for both; the law's example. -/
namespace Go.Proofs.YtphcaiplgpmnnaaGreatDoor
open Go.Px
theorem fitN_id {w : List Nat} {n : Nat} (h : w.length = n) : fitN w n = w := by
  unfold fitN; rw [List.take_of_length_le (by omega), h, Nat.sub_self]; simp
theorem b25_len (w : List Nat) : (base25 w).length = 32 := x25_len _ _
theorem srt_comm (x y : Int) : srt x y = srt y x := by
  unfold srt
  rcases Int.lt_trichotomy x y with h | h | h
  · rw [if_neg (by omega), if_pos h]
  · subst h; rfl
  · rw [if_pos h, if_neg (by omega)]
def agOf (i j : Nat) : Tm := ⟨4, srt ((i : Nat) : Int) ((j : Nat) : Int), [], 0⟩
theorem agOf_ok {i j : Nat} (hi : i ≤ 1048576) (hj : j ≤ 1048576) : Tmo (agOf i j) := ag_ok (s := 0) (o := 0) (srt_len _ _) (fun z hz => (srt_mem hz).elim (fun e => e ▸ i64_nat hi) (fun e => e ▸ i64_nat hj)) (.inl rfl)
/-- What a secret key and another one's are agreed on. -/
def AgrT (s : Ps) (a b k : List Nat) : Prop := ∃ i j m : Nat, i < s.ts.length ∧ j < s.ts.length ∧ a = bts ((i : Nat) : Int) ∧ b = bts ((j : Nat) : Int) ∧ s.ts[m]? = some (agOf i j) ∧ k = bts ((m : Nat) : Int)
def AgrAt (s : Ps) (a b k : List Nat) : Prop := if s.real then k = x25 (fitN a 32) (base25 (fitN b 32)) ∧ (∀ x ∈ a, x < 256) ∧ ∀ x ∈ b, x < 256 else AgrT s a b k
theorem AgrAt.t {s : Ps} (h : s.real = true) {a b k : List Nat} : AgrAt s a b k ↔ k = x25 (fitN a 32) (base25 (fitN b 32)) ∧ (∀ x ∈ a, x < 256) ∧ ∀ x ∈ b, x < 256 := by unfold AgrAt; rw [if_pos h]
theorem AgrAt.f {s : Ps} (h : s.real = false) {a b k : List Nat} : AgrAt s a b k ↔ AgrT s a b k := by unfold AgrAt; rw [if_neg (by rw [h]; decide)]
theorem AgrT.ext {s s' : Ps} {a b k : List Nat} (h : AgrT s a b k) (he : Pext s s') : AgrT s' a b k := by
  obtain ⟨l, e⟩ := he.ts
  obtain ⟨i, j, m, h1, h2, h3, h4, h5, h6⟩ := h
  exact ⟨i, j, m, by rw [e, List.length_append]; omega, by rw [e, List.length_append]; omega, h3, h4, by rw [e]; exact ext_at h5, h6⟩
theorem AgrAt.ext {s s' : Ps} {a b k : List Nat} (h : AgrAt s a b k) (he : Pext s s') : AgrAt s' a b k := by
  cases hr : s.real with
  | true => rw [AgrAt.t hr] at h; rw [AgrAt.t (he.real.trans hr)]; exact h
  | false => rw [AgrAt.f hr] at h; rw [AgrAt.f (he.real.trans hr)]; exact h.ext he
theorem AgrAt.comm {s : Ps} {a b k : List Nat} (h : AgrAt s a b k) : AgrAt s b a k := by
  cases hr : s.real with
  | true =>
    rw [AgrAt.t hr] at h ⊢
    refine ⟨?_, h.2.2, h.2.1⟩
    rw [h.1]
    exact x25_comm (fitN_lt h.2.1 32) (fitN_lt h.2.2 32)
  | false =>
    rw [AgrAt.f hr] at h ⊢
    obtain ⟨i, j, m, h1, h2, h3, h4, h5, h6⟩ := h
    exact ⟨j, i, m, h2, h1, h4, h3, by rw [h5]; unfold agOf; rw [srt_comm], h6⟩
theorem agT_pub {ts : List Tm} {i j p : Nat} (hp : ts[p]? = some (pubT ((j : Nat) : Int))) : agT ts ((i : Nat) : Int) ((p : Nat) : Int) = agOf i j := by
  rw [agT_yes (t := pubT ((j : Nat) : Int)) (by omega) (by rw [Int.toNat_natCast]; exact hp) ⟨rfl, rfl⟩]
  rfl
theorem agrT_eq {s : Ps} {i j p : Nat} (hi : i < s.ts.length) (hp : s.ts[p]? = some (pubT ((j : Nat) : Int))) (hl : s.ts.length ≤ 1048576) :
    agrS s (bts ((i : Nat) : Int)) (bts ((p : Nat) : Int)) = { s with ts := add s.ts (agOf i j) } ∧ agrK s (bts ((i : Nat) : Int)) (bts ((p : Nat) : Int)) = bts ((at_ s.ts (agOf i j) : Nat) : Int) := by
  have hpl := (List.getElem?_eq_some_iff.1 hp).1
  obtain ⟨a1, a2⟩ := good_rd hi hl
  obtain ⟨b1, b2⟩ := good_rd hpl hl
  unfold agrS agrK
  rw [a1, a2, b1, b2, agT_pub hp]
  exact ⟨rfl, rfl⟩
theorem agrS2_t {s : Ps} (h : s.real = true) (a B : List Nat) : agrS2 s a B = s ∧ agrK2 s a B = x25 (fitN a 32) (fitN B 32) := by unfold agrS2 agrK2; rw [if_pos h, if_pos h]; exact ⟨rfl, rfl⟩
theorem agrS2_f {s : Ps} (h : s.real = false) (a B : List Nat) : agrS2 s a B = agrS s a B ∧ agrK2 s a B = agrK s a B := by unfold agrS2 agrK2; rw [if_neg (by rw [h]; decide), if_neg (by rw [h]; decide)]; exact ⟨rfl, rfl⟩
theorem agr_ex (s : Ps) (a B : List Nat) : Ext s (agrS2 s a B) := by
  cases hr : s.real with
  | true => rw [(agrS2_t hr a B).1]; exact Ext.refl s
  | false =>
    rw [(agrS2_f hr a B).1]
    obtain ⟨l1, e1⟩ := rdT_pre s.ts a
    obtain ⟨l2, e2⟩ := rdT_pre (rdT s.ts a) B
    obtain ⟨l3, e3⟩ := add_pre (rdT (rdT s.ts a) B) (agT (rdT (rdT s.ts a) B) ((rdI s.ts a : Nat) : Int) ((rdI (rdT s.ts a) B : Nat) : Int))
    refine ⟨⟨rfl, l1 ++ (l2 ++ l3), ?_⟩, rfl, Nat.le_refl _⟩
    show add _ _ = _
    rw [e3, e2, e1]; simp
theorem agrS2_len (s : Ps) (a B : List Nat) : (agrS2 s a B).ts.length ≤ s.ts.length + 3 := by
  cases hr : s.real with
  | true => rw [(agrS2_t hr a B).1]; omega
  | false =>
    rw [(agrS2_f hr a B).1]
    have h1 := rdT_len (ts := s.ts) (ws := a)
    have h2 := rdT_len (ts := rdT s.ts a) (ws := B)
    have h3 := add_len (ts := rdT (rdT s.ts a) B) (t := agT (rdT (rdT s.ts a) B) ((rdI s.ts a : Nat) : Int) ((rdI (rdT s.ts a) B : Nat) : Int))
    show (add _ _).length ≤ _
    omega
theorem agrS2_n (s : Ps) (a B : List Nat) : (agrS2 s a B).n = s.n := by unfold agrS2; split <;> rfl
theorem agr_at {s : Ps} {a b B : List Nat} (ha : Kok s a) (hB : PubAt s b B) (ht : Tok s.ts) (hl : s.ts.length ≤ 1048576) (h1 : ∀ x ∈ a, x < 256) (h2 : ∀ x ∈ b, x < 256) : AgrAt (agrS2 s a B) a b (agrK2 s a B) ∧ Tok (agrS2 s a B).ts := by
  cases hr : s.real with
  | true =>
    rw [(agrS2_t hr a B).1, (agrS2_t hr a B).2, AgrAt.t hr]
    unfold PubAt at hB
    rw [if_pos hr] at hB
    rw [hB, fitN_id (b25_len _)]
    exact ⟨⟨rfl, h1, h2⟩, ht⟩
  | false =>
    unfold PubAt at hB
    rw [if_neg (by rw [hr]; decide)] at hB
    obtain ⟨i, hi, rfl⟩ := ha hr
    obtain ⟨j, p, hj, rfl, hp, rfl⟩ := hB
    obtain ⟨e1, e2⟩ := agrT_eq hi hp hl
    rw [(agrS2_f hr _ _).1, (agrS2_f hr _ _).2, e1, e2]
    obtain ⟨l, g1, g2, g3, g4⟩ := pfact (agOf_ok (show i ≤ 1048576 by omega) (show j ≤ 1048576 by omega)) ht
    exact ⟨(AgrAt.f (s := { s with ts := add s.ts (agOf i j) }) hr).2 ⟨i, j, _, by show i < (add s.ts _).length; rw [g1, List.length_append]; omega, by show j < (add s.ts _).length; rw [g1, List.length_append]; omega, rfl, rfl, g3, rfl⟩, g4⟩
theorem AgrAt.eq {s : Ps} {a b B k : List Nat} (h : AgrAt s a b k) (hB : PubAt s b B) (ht : Tok s.ts) (hl : s.ts.length ≤ 1048576) : agrS2 s a B = s ∧ agrK2 s a B = k := by
  cases hr : s.real with
  | true =>
    rw [AgrAt.t hr] at h
    unfold PubAt at hB
    rw [if_pos hr] at hB
    rw [(agrS2_t hr a B).1, (agrS2_t hr a B).2, hB, fitN_id (b25_len _), h.1]
    exact ⟨rfl, rfl⟩
  | false =>
    rw [AgrAt.f hr] at h
    unfold PubAt at hB
    rw [if_neg (by rw [hr]; decide)] at hB
    obtain ⟨i, j, m, g1, g2, rfl, rfl, g3, rfl⟩ := h
    obtain ⟨j', p, hj, e, hp, rfl⟩ := hB
    have := bts_inj (by omega) (by omega) e
    subst this
    obtain ⟨e1, e2⟩ := agrT_eq g1 hp hl
    obtain ⟨e3, e4⟩ := again ht g3
    rw [(agrS2_f hr _ _).1, (agrS2_f hr _ _).2, e1, e2, e3, e4]
    exact ⟨rfl, rfl⟩
theorem keyR_F8 (seed : List Nat) (i : Nat) : keyR seed i = hmacF (hmacF [] seed) (([107, 101, 121] ++ le8n i) ++ [1]) := by
  unfold keyR
  rw [← hmacF_eq]
  exact expand32 _ _
theorem awL : (hmacF (hmacF [] [115]) (([107, 101, 121] ++ le8n 1) ++ [1])).length = 32 := by decide +kernel
theorem awN : hmacF (hmacF [] [115]) (([107, 101, 121] ++ le8n 1) ++ [1]) ≠ hmacF (hmacF [] [115]) (([107, 101, 121] ++ le8n 2) ++ [1]) := by decide +kernel
def aw0 (r : Bool) : Ps := ⟨r, [115], 0, []⟩
noncomputable def aw2 (r : Bool) : Ps := freshS (freshS (aw0 r))
theorem aw_len (r : Bool) : (freshK (aw0 r)).length = 32 := by
  cases r with
  | false => rw [freshK_f rfl]; exact btk_len _ (by decide)
  | true =>
    rw [freshK_t rfl, keyR_F8]
    exact awL
theorem aw_ne (r : Bool) : freshK (aw0 r) ≠ freshK (freshS (aw0 r)) := by
  cases r with
  | false => decide +kernel
  | true =>
    rw [freshK_t rfl, freshK_t (s := freshS (aw0 true)) rfl, keyR_F8, keyR_F8]
    exact awN

end Go.Proofs.YtphcaiplgpmnnaaGreatDoor
/-
  Groups of operations of a drawn region that come up in any order; each works on blocks of its own (m), which it may change, and makes new ones.
-/
namespace Go.Px
structure Gv where
  i : Nat
  d : Nat
  m : Mem
  φ : Value → Mem → Mem → Prop
def gEnvM (G : List Gv) (vs : Nat → Value) : Env := G.map fun g => (g.d, vs g.i)
def toGM (G : List Gv) : List Gm := G.map fun g => ⟨g.i, g.d, fun _ _ => True⟩
/-- The blocks of a group, of which X have come up. -/
def curM (X : List Nat) (bs : Nat → Mem) (G : List Gv) : Mem := (G.map fun g => if g.i ∈ X then bs g.i else g.m).flatten
def doneM (X : List Nat) (bs : Nat → Mem) (G : List Gv) : Mem := (G.map fun g => if g.i ∈ X then bs g.i else []).flatten
def allM (bs : Nat → Mem) (G : List Gv) : Mem := (G.map fun g => bs g.i).flatten
/-- Facts of more blocks may be added to what a call came to. -/
theorem St.widen {P : Program} {w w' : World} {F : List Nat} {A A' Mc M' J' : Mem} {n : Nat} (h : St ⟨P, w, F, A', n⟩ Mc [] w) (hs : St ⟨P, w, F, A, n⟩ M' J' w') : St ⟨P, w, F, A', n⟩ M' J' w' := by
  refine ⟨hs.os, hs.tape, hs.output, hs.size, hs.frame, fun b o hb => ?_, hs.nodup, hs.own, hs.sepJ, h.sepA, hs.old⟩
  simp only [List.mem_append] at hb
  rcases hb with hb | hb | hb
  · exact hs.mem b o (by simp [hb])
  · exact hs.mem b o (by simp [hb])
  · have h1 := h.sepA b o hb
    have h2 := hs.frame b h1.2 h1.1
    rw [h2]
    exact h.mem b o (by simp; exact .inr hb)
theorem St.less {P : Program} {w : World} {F : List Nat} {A A' Mc : Mem} {n : Nat} (h : St ⟨P, w, F, A', n⟩ Mc [] w) (hA : ∀ x ∈ A, x ∈ A') : St ⟨P, w, F, A, n⟩ Mc [] w :=
  ⟨h.os, h.tape, h.output, h.size, h.frame, fun b o hb => h.mem b o (by simp at hb ⊢; exact hb.imp id (hA _)), h.nodup, h.own, h.sepJ, fun b o hb => h.sepA b o (hA _ hb), h.old⟩
section group
variable {C : Cx} {Q : XQ} {l : Env} {M M0 J : Mem} {os : List Oper} {K : Nat → Prop} {n0 : Nat} {nd : List Nat} {plan : List (Nat × Nat)}
def OwesM (C : Cx) (os : List Oper) (l : Env) (M0 J : Mem) (G : List Gv) (g : Gv) : Prop :=
  ∃ o, nth os g.i = some o ∧ ∀ (vs : Nat → Value) (bs : Nat → Mem) (R Rj : Mem) (w : World), (∀ x ∈ M0 ++ (J ++ C.A), x ∈ R) → (∀ x ∈ J ++ C.A, x ∈ Rj) → (∀ x ∈ Rj, x ∈ R) → (∀ g' ∈ G, anc os.toArray os.toArray.size g.i g'.i = true → g'.φ (vs g'.i) (bs g'.i) Rj) →
    Asked os (gEnvM G vs ++ l) o ∧ OpL ⟨C.P, w, g.m.map Prod.fst, R, C.N⟩ o (gEnvM G vs ++ l) g.m [] (fun l' M' J' => ∃ v, l' = (g.d, v) :: (gEnvM G vs ++ l) ∧ g.φ v M' (J' ++ Rj))
end group
end Go.Px

/-
  Groups of operations of a drawn region that come up in any order, with chains: a member may work on the blocks that another one, which is ahead of it in every order, left.
-/
namespace Go.Px
structure Gc where
  i : Nat
  d : Nat
  s : Option Nat
  m : Mem
  φ : Value → Mem → Mem → Prop
def Gc.inp (g : Gc) (bs : Nat → Mem) : Mem := match g.s with
  | none => g.m
  | some s => bs s
theorem Gc.inp_none {g : Gc} {bs : Nat → Mem} (h : g.s = none) : g.inp bs = g.m := by unfold Gc.inp; rw [h]
theorem Gc.inp_some {g : Gc} {bs : Nat → Mem} {s : Nat} (h : g.s = some s) : g.inp bs = bs s := by unfold Gc.inp; rw [h]
def gEnvC (G : List Gc) (vs : Nat → Value) : Env := G.map fun g => (g.d, vs g.i)
def toGC (G : List Gc) : List Gm := G.map fun g => ⟨g.i, g.d, fun _ _ => True⟩
theorem toGC_i (G : List Gc) : (toGC G).map (·.i) = G.map (·.i) := by simp [toGC]
theorem toGC_d (G : List Gc) : (toGC G).map (·.d) = G.map (·.d) := by simp [toGC]
theorem toGC_env (G : List Gc) (vs : Nat → Value) : gEnv (toGC G) vs = gEnvC G vs := by simp [gEnv, gEnvC, toGC]
theorem gc_inj {G : List Gc} (h : (G.map (·.i)).Nodup) {g g' : Gc} (hg : g ∈ G) (hg' : g' ∈ G) (e : g.i = g'.i) : g = g' := by
  induction G with
  | nil => cases hg
  | cons x G ih =>
    simp only [List.map_cons, List.nodup_cons] at h
    rcases List.mem_cons.1 hg with h1 | h1 <;> rcases List.mem_cons.1 hg' with h2 | h2
    · rw [h1, h2]
    · exact absurd (by rw [← h1, e]; exact List.mem_map_of_mem (f := Gc.i) h2) h.1
    · exact absurd (by rw [← h2, ← e]; exact List.mem_map_of_mem (f := Gc.i) h1) h.1
    · exact ih h.2 h1 h2
/-- What a member's entry owns, when X have come up. -/
def entC (G : List Gc) (X : List Nat) (bs : Nat → Mem) (g : Gc) : Mem :=
  if g.i ∈ X then (if ∃ g' ∈ G, g'.s = some g.i ∧ g'.i ∈ X then [] else bs g.i) else (if g.s = none then g.m else [])
def curC (X : List Nat) (bs : Nat → Mem) (G : List Gc) : Mem := (G.map (entC G X bs)).flatten
def usedC (l : List (Nat × Option Nat)) (i : Nat) : Bool := l.any fun p => p.2 == some i
def lastC (G : List Gc) (bs : Nat → Mem) : List Mem := (G.filter fun g => !usedC (G.map fun g => (g.i, g.s)) g.i).map fun g => bs g.i
def joinC (l : List Mem) (M : Mem) : Mem := l.foldr (· ++ ·) M
def rootC (G : List Gc) : List Mem := (G.filter fun g => g.s.isNone).map (·.m)
def chainOk (ops : Array Oper) (l : List (Nat × Option Nat)) : Bool :=
  l.all fun p => match p.2 with
    | none => true
    | some s => (l.map Prod.fst).contains s && anc ops ops.size p.1 s && l.all fun q => q.2 != some s || q.1 == p.1
structure ChainOk (ops : Array Oper) (G : List Gc) : Prop where
  anc : ∀ g ∈ G, ∀ s, g.s = some s → anc ops ops.size g.i s = true
  mem : ∀ g ∈ G, ∀ s, g.s = some s → s ∈ G.map (·.i)
  one : ∀ g ∈ G, ∀ g' ∈ G, ∀ s, g.s = some s → g'.s = some s → g'.i = g.i
theorem chain_ok {ops : Array Oper} {G : List Gc} (h : chainOk ops (G.map fun g => (g.i, g.s)) = true) : ChainOk ops G := by
  have key : ∀ g ∈ G, ∀ s, g.s = some s → s ∈ G.map (·.i) ∧ Px.anc ops ops.size g.i s = true ∧ ∀ g' ∈ G, g'.s = some s → g'.i = g.i := by
    intro g hg s hs
    have h1 := List.all_eq_true.1 h (g.i, g.s) (List.mem_map_of_mem (f := fun g : Gc => (g.i, g.s)) hg)
    simp only [hs, Bool.and_eq_true, List.contains_iff_mem, List.map_map] at h1
    obtain ⟨⟨h2, h3⟩, h4⟩ := h1
    refine ⟨by simpa [Function.comp_def] using h2, h3, fun g' hg' hs' => ?_⟩
    have h5 := List.all_eq_true.1 h4 (g'.i, g'.s) (List.mem_map_of_mem (f := fun g : Gc => (g.i, g.s)) hg')
    simp [hs'] at h5
    exact h5
  exact ⟨fun g hg s hs => (key g hg s hs).2.1, fun g hg s hs => (key g hg s hs).1, fun g hg g' hg' s hs hs' => (key g hg s hs).2.2 g' hg' hs'⟩
theorem flat_at {G : List Gc} (hi : (G.map (·.i)).Nodup) {g : Gc} (hg : g ∈ G) (f : Gc → Mem) :
    ∃ R, ∀ f' : Gc → Mem, (∀ x ∈ G, x.i ≠ g.i → f' x = f x) → (G.map f').flatten.Perm (f' g ++ R) := by
  obtain ⟨s, t, rfl⟩ := List.append_of_mem hg
  have hne : ∀ x ∈ s ++ t, x.i ≠ g.i := by
    intro x hx e
    simp only [List.map_append, List.map_cons, List.nodup_append, List.nodup_cons] at hi
    rcases List.mem_append.1 hx with h | h
    · exact hi.2.2 _ (List.mem_map_of_mem (f := Gc.i) h) _ List.mem_cons_self e
    · exact hi.2.1.1 (e ▸ List.mem_map_of_mem (f := Gc.i) h)
  refine ⟨(s.map f).flatten ++ (t.map f).flatten, fun f' h => ?_⟩
  have es : s.map f' = s.map f := List.map_congr_left fun x hx => h x (by simp [hx]) (hne x (List.mem_append_left _ hx))
  have et : t.map f' = t.map f := List.map_congr_left fun x hx => h x (by simp [hx]) (hne x (List.mem_append_right _ hx))
  simp only [List.map_append, List.map_cons, List.flatten_append, List.flatten_cons, es, et]
  exact List.perm_append_comm_assoc _ _ _
theorem curC_step {ops : Array Oper} {X : List Nat} {bs : Nat → Mem} {G : List Gc} {g : Gc} (hi : (G.map (·.i)).Nodup) (hc : ChainOk ops G) (hg : g ∈ G) (hX : g.i ∉ X) (hcl : ∀ g' ∈ G, g'.i ∈ X → ∀ s, g'.s = some s → s ∈ X) (hsx : ∀ s, g.s = some s → s ∈ X) :
    ∃ R, (curC X bs G).Perm (g.inp bs ++ R) ∧ ∀ M', (M' ++ R).Perm (curC (X ++ [g.i]) (fun k => if k = g.i then M' else bs k) G) := by
  have hmem : ∀ x : Gc, x.i ≠ g.i → (x.i ∈ X ++ [g.i] ↔ x.i ∈ X) := fun x h => by simp [h]
  have hself : ∀ M' : Mem, entC G (X ++ [g.i]) (fun k => if k = g.i then M' else bs k) g = M' := by
    intro M'
    have hno : ¬ ∃ g' ∈ G, g'.s = some g.i ∧ g'.i ∈ X ++ [g.i] := by
      rintro ⟨g', hg', hs', hx'⟩
      rcases List.mem_append.1 hx' with h | h
      · exact hX (hcl g' hg' h _ hs')
      · have h2 : g' = g := gc_inj hi hg' hg (by simpa using h)
        subst h2
        exact hX (hsx _ hs')
    unfold entC
    rw [if_pos (by simp), if_neg hno]
    exact if_pos rfl
  cases hs : g.s with
  | none =>
    obtain ⟨R, hR⟩ := flat_at hi hg (entC G X bs)
    refine ⟨R, ?_, fun M' => ?_⟩
    · have h1 := hR (entC G X bs) fun _ _ _ => rfl
      have h2 : entC G X bs g = g.inp bs := by unfold entC; rw [if_neg hX, if_pos hs, Gc.inp_none hs]
      rw [h2] at h1
      exact h1
    · have h1 := hR (entC G (X ++ [g.i]) fun k => if k = g.i then M' else bs k) fun x hx hne => by
        unfold entC
        by_cases hxX : x.i ∈ X
        · rw [if_pos ((hmem x hne).2 hxX), if_pos hxX]
          have hiff : (∃ g' ∈ G, g'.s = some x.i ∧ g'.i ∈ X ++ [g.i]) ↔ (∃ g' ∈ G, g'.s = some x.i ∧ g'.i ∈ X) := by
            constructor
            · rintro ⟨g', h1, h2, h3⟩
              rcases List.mem_append.1 h3 with h4 | h4
              · exact ⟨g', h1, h2, h4⟩
              · have h5 : g' = g := gc_inj hi h1 hg (by simpa using h4)
                subst h5; rw [hs] at h2; cases h2
            · rintro ⟨g', h1, h2, h3⟩; exact ⟨g', h1, h2, List.mem_append_left _ h3⟩
          simp only [hiff, if_neg hne]
        · rw [if_neg (fun h => hxX ((hmem x hne).1 h)), if_neg hxX]
      rw [hself M'] at h1
      exact h1.symm
  | some s =>
    have hsX := hsx s hs
    obtain ⟨gs, hgs, rfl⟩ := List.mem_map.1 (hc.mem g hg s hs)
    have hne0 : gs.i ≠ g.i := fun h => hX (h ▸ hsX)
    obtain ⟨R1, hR1⟩ := flat_at hi hgs (entC G X bs)
    have h1 := hR1 (entC G X bs) fun _ _ _ => rfl
    have e1 : entC G X bs gs = bs gs.i := by
      unfold entC
      rw [if_pos hsX, if_neg]
      rintro ⟨g', hg', hs', hx'⟩
      exact hX (hc.one g hg g' hg' _ hs hs' ▸ hx')
    rw [e1] at h1
    have h2 := hR1 (fun x => if x.i = gs.i then [] else entC G X bs x) fun x _ hne => if_neg hne
    simp only [if_true, List.nil_append] at h2
    obtain ⟨R2, hR2⟩ := flat_at hi hg (fun x => if x.i = gs.i then [] else entC G X bs x)
    have h3 := hR2 (fun x => if x.i = gs.i then [] else entC G X bs x) fun _ _ _ => rfl
    have e3 : (if g.i = gs.i then [] else entC G X bs g) = ([] : Mem) := by
      rw [if_neg (Ne.symm hne0)]
      unfold entC
      rw [if_neg hX, if_neg (by rw [hs]; exact fun h => by cases h)]
    simp only [e3, List.nil_append] at h3
    refine ⟨R2, ?_, fun M' => ?_⟩
    · rw [Gc.inp_some hs]
      exact h1.trans (List.Perm.append_left _ (h2.symm.trans h3))
    · have h4 := hR2 (entC G (X ++ [g.i]) fun k => if k = g.i then M' else bs k) fun x hx hne => by
        by_cases hxs : x.i = gs.i
        · rw [if_pos hxs]
          unfold entC
          rw [if_pos ((hmem x hne).2 (hxs ▸ hsX)), if_pos ⟨g, hg, by rw [hs, hxs], by simp⟩]
        · rw [if_neg hxs]
          unfold entC
          by_cases hxX : x.i ∈ X
          · rw [if_pos ((hmem x hne).2 hxX), if_pos hxX]
            have hiff : (∃ g' ∈ G, g'.s = some x.i ∧ g'.i ∈ X ++ [g.i]) ↔ (∃ g' ∈ G, g'.s = some x.i ∧ g'.i ∈ X) := by
              constructor
              · rintro ⟨g', h1, h2, h3⟩
                rcases List.mem_append.1 h3 with h4 | h4
                · exact ⟨g', h1, h2, h4⟩
                · have h5 : g' = g := gc_inj hi h1 hg (by simpa using h4)
                  subst h5; rw [hs] at h2; exact absurd (Option.some.inj h2).symm hxs
              · rintro ⟨g', h1, h2, h3⟩; exact ⟨g', h1, h2, List.mem_append_left _ h3⟩
            simp only [hiff, if_neg hne]
          · rw [if_neg (fun h => hxX ((hmem x hne).1 h)), if_neg hxX]
      rw [hself M'] at h4
      exact h4.symm
theorem curC_nil {bs : Nat → Mem} {G : List Gc} : curC [] bs G = (rootC G).flatten := by
  have : ∀ G' : List Gc, (G'.map (entC G [] bs)).flatten = (rootC G').flatten := by
    intro G'
    induction G' with
    | nil => rfl
    | cons g G' ih =>
      rw [List.map_cons, List.flatten_cons, ih]
      have e : entC G [] bs g = if g.s = none then g.m else [] := by unfold entC; rw [if_neg (by simp)]
      rw [e]
      cases hs : g.s with
      | none => simp [rootC, hs]
      | some s => simp [rootC, hs]
  exact this G
theorem curC_all {X : List Nat} {bs : Nat → Mem} {G : List Gc} (h : ∀ g ∈ G, g.i ∈ X) : curC X bs G = (lastC G bs).flatten := by
  have he : ∀ g ∈ G, entC G X bs g = if usedC (G.map fun g => (g.i, g.s)) g.i = true then [] else bs g.i := by
    intro g hg
    unfold entC
    rw [if_pos (h g hg)]
    have : (∃ g' ∈ G, g'.s = some g.i ∧ g'.i ∈ X) ↔ usedC (G.map fun g => (g.i, g.s)) g.i = true := by
      unfold usedC
      simp only [List.any_eq_true, List.mem_map]
      constructor
      · rintro ⟨g', h1, h2, _⟩; exact ⟨_, ⟨g', h1, rfl⟩, by simp [h2]⟩
      · rintro ⟨_, ⟨g', h1, rfl⟩, h2⟩; exact ⟨g', h1, by simpa using h2, h g' h1⟩
    simp only [this]
  unfold curC lastC
  rw [List.map_congr_left he]
  have : ∀ (G' : List Gc) (p : Gc → Bool), (G'.map fun g => if p g = true then ([] : Mem) else bs g.i).flatten = ((G'.filter fun g => !p g).map fun g => bs g.i).flatten := by
    intro G' p
    induction G' with
    | nil => rfl
    | cons g G' ih =>
      rw [List.map_cons, List.flatten_cons, ih]
      cases hp : p g <;> simp [hp]
  exact this G fun g => usedC (G.map fun g => (g.i, g.s)) g.i
theorem joinC_eq (l : List Mem) (M : Mem) : joinC l M = l.flatten ++ M := by
  induction l with
  | nil => rfl
  | cons a l ih => show a ++ joinC l M = _; rw [ih, List.flatten_cons, List.append_assoc]
section group
variable {C : Cx} {Q : XQ} {l : Env} {M M0 J : Mem} {os : List Oper} {K : Nat → Prop} {n0 : Nat} {nd : List Nat} {plan : List (Nat × Nat)}
def OwesC (C : Cx) (os : List Oper) (l : Env) (M0 J : Mem) (G : List Gc) (g : Gc) : Prop :=
  ∃ o, nth os g.i = some o ∧ ∀ (vs : Nat → Value) (bs : Nat → Mem) (R Rj : Mem) (w : World), (∀ x ∈ M0 ++ (J ++ C.A), x ∈ R) → (∀ x ∈ J ++ C.A, x ∈ Rj) → (∀ x ∈ Rj, x ∈ R) → (∀ g' ∈ G, anc os.toArray os.toArray.size g.i g'.i = true → g'.φ (vs g'.i) (bs g'.i) Rj) →
    Asked os (gEnvC G vs ++ l) o ∧ OpL ⟨C.P, w, (g.inp bs).map Prod.fst, R, C.N⟩ o (gEnvC G vs ++ l) (g.inp bs) [] (fun l' M' J' => ∃ v, l' = (g.d, v) :: (gEnvC G vs ++ l) ∧ g.φ v M' (J' ++ Rj))
theorem groupC_go {G : List Gc} (hmono : ∀ g ∈ G, GrowsO g.φ) (hd : (G.map (·.d)).Nodup) (hi : (G.map (·.i)).Nodup) (hc : ChainOk os.toArray G) (hKn : ∀ b, n0 ≤ b → K b) (hK : ∀ m ∈ rootC G, ∀ x ∈ m, K x.1) (hob : ∀ g ∈ G, OwesC C os l M0 J G g) {A B : Array Bool} (hok : GOk os.toArray A (G.map (·.i)) B)
    (hfin : ∀ (vs : Nat → Value) (bs : Nat → Mem) Jn a w, (∀ g ∈ G, g.φ (vs g.i) (bs g.i) ((Jn ++ J) ++ C.A)) → (∀ g ∈ G, ∀ x ∈ bs g.i, K x.1) → Ag C.N (gEnvC G vs ++ l) a → St C ((lastC G bs).flatten ++ M0) (Jn ++ J) w → n0 ≤ w.heap.size → wpAnyS C.P os.toArray (noPanicX (lift C Q)) (Sk K) nd.contains plan.length B a w) :
    ∀ (n : Nat) (X : List Nat) (vs : Nat → Value) (bs : Nat → Mem) (Jn : Mem) (a : Act) (w : World), X.Nodup → (∀ i ∈ X, i ∈ G.map (·.i)) → n + X.length = G.length → Closed os.toArray (mark A X) → (∀ g ∈ G, g.i ∈ X → ∀ s, g.s = some s → s ∈ X) →
      (∀ g ∈ G, g.i ∈ X → g.φ (vs g.i) (bs g.i) ((Jn ++ J) ++ C.A)) → (∀ g ∈ G, g.i ∈ X → ∀ x ∈ bs g.i, K x.1) → Ag C.N (gEnvC G vs ++ l) a → St C (curC X bs G ++ M0) (Jn ++ J) w → n0 ≤ w.heap.size →
      wpAnyS C.P os.toArray (noPanicX (lift C Q)) (Sk K) nd.contains (n + plan.length) (mark A X) a w := by
  intro n
  induction n with
  | zero =>
    intro X vs bs Jn a w hnd hX hlen hcl hXs hφ hN ha hw hn
    have hall : ∀ i, i ∈ X ↔ i ∈ G.map (·.i) := fun i => ⟨hX i, nodup_all hnd hX (by simp; omega) i⟩
    have hin : ∀ g ∈ G, g.i ∈ X := fun g hg => (hall _).2 (List.mem_map_of_mem (f := Gc.i) hg)
    have hcur := curC_all (bs := bs) hin
    rw [hcur] at hw
    rw [Nat.zero_add, mark_eq hall, ← hok.mark]
    exact hfin vs bs Jn a w (fun g hg => hφ g hg (hin g hg)) (fun g hg => hN g hg (hin g hg)) ha hw hn
  | succ n ih =>
    intro X vs bs Jn a w hnd hX hlen hcl hXs hφ hN ha hw hn
    have hmiss : ∃ k ∈ G.map (·.i), k ∉ X := by
      apply Classical.byContradiction
      intro hno
      have hs : ∀ k ∈ G.map (·.i), k ∈ X := fun k hk => Classical.byContradiction fun h => hno ⟨k, hk, h⟩
      have := nodup_le hi hs
      simp at this; omega
    obtain ⟨k, hkG, hkX⟩ := hmiss
    have hun : ∀ i ∈ G.map (·.i), A.getD i true = false := by
      have : ∀ {is A B}, GOk os.toArray A is B → ∀ i ∈ is, A.getD i true = false := by
        intro is A B h
        induction h with
        | nil => intro i hi; cases hi
        | @cons A B i r hr ho h ih =>
          intro k hk
          rcases List.mem_cons.1 hk with rfl | hk
          · exact ready_un hr
          · have h2 := ih k hk
            by_cases e : i = k
            · subst e; exact ready_un hr
            · rwa [getD_set_ne true e] at h2
      exact this hok
    have hkun : (mark A X).getD k true = false := mark_getD_f.2 ⟨hun k hkG, fun h => hkX h.1⟩
    rw [show n + 1 + plan.length = (n + plan.length) + 1 by omega]
    refine ⟨fun h0 => ?_, fun i hir => ?_⟩
    · obtain ⟨i, hir⟩ := hok.first (mark_size A X) (fun j hj => mark_mono hj) hkG hkun
      rw [h0] at hir; cases hir
    · have hiG : i ∈ G.map (·.i) := by
        apply Classical.byContradiction
        intro hno
        have h1 := mark_getD_f.1 (ready_un hir)
        have h2 := hok.outer k hkG i (ready_lt hir) h1.1 hno
        exact not_both hkun (anc_ready hcl h2 hir)
      obtain ⟨g, hg, rfl⟩ := List.mem_map.1 hiG
      have hiX : g.i ∉ X := fun h => (mark_getD_f.1 (ready_un hir)).2 ⟨h, getD_f_lt (hun _ hiG)⟩
      have hin : ∀ j ∈ G.map (·.i), anc os.toArray os.toArray.size g.i j = true → j ∈ X := fun j hj hanc => by
        have h3 := anc_ready hcl hanc hir
        rcases mark_getD_t h3 with h4 | h4
        · exact (not_both (hun _ hj) h4).elim
        · exact h4
      have hsx : ∀ s, g.s = some s → s ∈ X := fun s hs => hin s (hc.mem g hg s hs) (hc.anc g hg s hs)
      have hKi : ∀ x ∈ g.inp bs, K x.1 := by
        intro x hx
        cases hs : g.s with
        | none =>
          rw [Gc.inp_none hs] at hx
          exact hK g.m (List.mem_map.2 ⟨g, List.mem_filter.2 ⟨hg, by simp [hs]⟩, rfl⟩) x hx
        | some s =>
          rw [Gc.inp_some hs] at hx
          obtain ⟨gs, hgs, rfl⟩ := List.mem_map.1 (hc.mem g hg s hs)
          exact hN gs hgs (hsx _ hs) x hx
      obtain ⟨o, hget, howe⟩ := hob g hg
      have hi' : os.toArray[g.i]? = some o := by rw [nth_eq] at hget; simpa using hget
      obtain ⟨hask, hop⟩ := howe vs bs (M0 ++ ((Jn ++ J) ++ C.A)) ((Jn ++ J) ++ C.A) w (fun x hx => by simp only [List.mem_append] at hx ⊢; rcases hx with h | h | h <;> simp [h]) (fun x hx => by simp only [List.mem_append] at hx ⊢; rcases hx with h | h <;> simp [h]) (fun x hx => List.mem_append_right _ hx) (fun g' hg' hanc => hφ g' hg' (hin _ (List.mem_map_of_mem (f := Gc.i) hg') hanc))
      unfold wpOp
      simp only [hi']
      rw [if_pos (hask.wanted ha)]
      obtain ⟨R0, hp0, hq0⟩ := curC_step (bs := bs) hi hc hg hiX hXs hsx
      have hpc : (curC X bs G ++ M0).Perm (g.inp bs ++ (R0 ++ M0)) := by
        rw [← List.append_assoc]; exact List.Perm.append_right _ hp0
      have hcal := hw.callee hpc
      have hcal2 := St.less (A := M0 ++ ((Jn ++ J) ++ C.A)) hcal fun x hx => by
        simp only [List.mem_append] at hx ⊢
        rcases hx with h | h
        · exact .inl (.inr h)
        · exact .inr h
      refine .inl (Oper.wp_mono ?_ (hop _ a w ha hcal2.cx))
      rintro a' w' ⟨l', M', J', ha', hs', v, rfl, hφv⟩
      have hsz : w.heap.size ≤ w'.heap.size := hs'.size
      have hs2 := St.widen hcal.cx hs'
      have hb := hw.back hpc hs2.cx
      let bs' : Nat → Mem := fun k => if k = g.i then M' else bs k
      have hperm : (M' ++ (R0 ++ M0)).Perm (curC (X ++ [g.i]) bs' G ++ M0) := by
        rw [← List.append_assoc]
        exact List.Perm.append_right _ (hq0 M')
      have hfr2 : St C (curC (X ++ [g.i]) bs' G ++ M0) ((J' ++ Jn) ++ J) w' := (hb.perm hperm).drop (List.Sublist.refl _) fun x hx => by
        simp only [List.mem_append] at hx ⊢
        rcases hx with (h | h) | h <;> simp [h]
      refine ⟨fun _ b hb' hnk => hs'.frame b hb' fun hm => ?_, ?_⟩
      · obtain ⟨x, hx, e⟩ := List.mem_map.1 hm
        exact hnk (e ▸ hKi x hx)
      rw [← mark_snoc]
      have henv := gEnv_set (N := C.N) (G := toGC G) (l := l) (vs := vs) (g := ⟨g.i, g.d, fun _ _ => True⟩) (a := a') (v := v) (List.mem_map_of_mem (f := fun g : Gc => (⟨g.i, g.d, fun _ _ => True⟩ : Gm)) hg) (by rw [toGC_d]; exact hd) (by rw [toGC_i]; exact hi) (by rw [toGC_env]; exact ha')
      rw [toGC_env] at henv
      refine ih (X ++ [g.i]) (fun k => if k = g.i then v else vs k) bs' (J' ++ Jn) a' w' ?_ ?_ (by simp; omega) ?_ ?_ ?_ ?_ henv hfr2 (Nat.le_trans hn hsz)
      · rw [List.nodup_append]; exact ⟨hnd, by simp, fun x hx y hy e => hiX (by simp at hy; subst hy; exact e ▸ hx)⟩
      · intro j hj
        rcases List.mem_append.1 hj with hj | hj
        · exact hX j hj
        · simp at hj; subst hj; exact hiG
      · rw [mark_snoc]; exact closed_set hcl hir
      · intro g' hg' hm s hs
        rcases List.mem_append.1 hm with h | h
        · exact List.mem_append_left _ (hXs g' hg' h s hs)
        · have h2 : g' = g := gc_inj hi hg' hg (by simpa using h)
          subst h2
          exact List.mem_append_left _ (hsx s hs)
      · intro g' hg' hm
        by_cases e : g'.i = g.i
        · have : g' = g := gc_inj hi hg' hg e
          subst this
          simp only [if_true, bs']
          exact hmono g' hg' _ _ _ _ (fun x hx => by simp only [List.mem_append] at hx ⊢; rcases hx with h | (h | h) | h <;> simp [h]) hφv
        · simp only [e, if_false, bs']
          have hm' : g'.i ∈ X := by simpa [e] using hm
          exact hmono g' hg' _ _ _ _ (fun x hx => by simp only [List.mem_append] at hx ⊢; rcases hx with (h | h) | h <;> simp [h]) (hφ g' hg' hm')
      · intro g' hg' hk x hx
        by_cases e : g'.i = g.i
        · have : g' = g := gc_inj hi hg' hg e
          subst this
          simp only [if_true, bs'] at hx
          rcases hs'.own x.1 x.2 (by simp [hx]) with h6 | h6
          · obtain ⟨y, hy, e6⟩ := List.mem_map.1 h6
            exact e6 ▸ hKi y hy
          · exact hKn _ (Nat.le_trans hn h6)
        · simp only [e, if_false, bs'] at hx
          have hk' : g'.i ∈ X := by simpa [e] using hk
          exact hN g' hg' hk' x hx
theorem XK.groupC (G : List Gc) (M0 : Mem) (Lf : (Nat → Mem) → List Mem) (hKn : ∀ b, n0 ≤ b → K b) (hM : M.Perm (joinC (rootC G) M0)) (hK : ∀ m ∈ rootC G, ∀ x ∈ m, K x.1) (hck : chainOk os.toArray (G.map fun g => (g.i, g.s)) = true) (hLf : ∀ bs, lastC G bs = Lf bs)
    (hmono : ∀ g ∈ G, GrowsO g.φ) (hd : (G.map (·.d)).Nodup) (hi : (G.map (·.i)).Nodup) (hdN : ∀ g ∈ G, g.d < C.N) (hob : ∀ g ∈ G, OwesC C os l M0 J G g)
    (h : ∀ (vs : Nat → Value) (bs : Nat → Mem) Jn, (∀ g ∈ G, g.φ (vs g.i) (bs g.i) ((Jn ++ J) ++ C.A)) → (∀ g ∈ G, ∀ x ∈ bs g.i, K x.1) → XK C os Q K n0 nd plan (gEnvC G vs ++ l) (joinC (Lf bs) M0) (Jn ++ J)) : XK C os Q K n0 nd (enc (G.map (·.i)) ++ plan) l M J := by
  refine XK.perm hM ?_
  rw [joinC_eq]
  intro listed hcl hp a w ha hw hn
  obtain ⟨B, hok, hp2⟩ := enc_ok hp
  have hBcl : Closed os.toArray B := by
    have : ∀ {A is B}, GOk os.toArray A is B → Closed os.toArray A → Closed os.toArray B := by
      intro A is B h
      induction h with
      | nil => exact id
      | cons hr _ _ ih => exact fun hc => ih (closed_set hc hr)
    exact this hok hcl
  have hlen : (enc (G.map (·.i)) ++ plan).length = G.length + plan.length := by
    have : ∀ is : List Nat, (enc is).length = is.length := by
      intro is
      induction is with
      | nil => rfl
      | cons i r ih => cases r with
        | nil => rfl
        | cons j r => simp only [enc, List.length_cons] at ih ⊢; rw [ih]
    simp [this]
  rw [hlen]
  let vs : Nat → Value := fun k => match G.find? (fun g => g.i == k) with
    | some g => (a.tmps[g.d]?).getD undef
    | none => undef
  have hag : Ag C.N (gEnvC G vs ++ l) a := by
    refine ⟨ha.defers, ha.size, ?_⟩
    intro k u hk
    have key : ∀ G' : List Gc, (∀ g ∈ G', g ∈ G) → lk (gEnvC G' vs ++ l) k = some u → a.tmps[k]? = some u := by
      intro G'
      induction G' with
      | nil => intro _ h; exact ha.slot k u h
      | cons g G' ih =>
        intro hs h
        simp only [gEnvC, List.map_cons, List.cons_append, lk] at h
        by_cases e : g.d = k
        · subst e
          simp at h
          have hf : G.find? (fun x => x.i == g.i) = some g := by
            have hgG := hs g List.mem_cons_self
            cases hq : G.find? (fun x => x.i == g.i) with
            | none => have := List.find?_eq_none.1 hq g hgG; simp at this
            | some x =>
              have h1 := List.find?_some hq
              have h2 := List.mem_of_find?_eq_some hq
              rw [gc_inj hi h2 hgG (by simpa using h1)]
          have hlt : g.d < a.tmps.size := by rw [ha.size]; exact hdN g (hs g List.mem_cons_self)
          rw [← h]
          show a.tmps[g.d]? = some (vs g.i)
          simp only [vs, hf, Array.getElem?_eq_getElem hlt, Option.getD_some]
        · simp only [beq_ne e, cond_false] at h
          exact ih (fun x hx => hs x (List.mem_cons_of_mem _ hx)) h
    exact key G (fun _ h => h) hk
  refine groupC_go (n0 := n0) (K := K) hmono hd hi (chain_ok hck) hKn hK hob hok (fun vs bs Jn a w hφ hN ha hw hn => h vs bs Jn hφ hN B hBcl hp2 a w ha (by rw [joinC_eq, ← hLf]; exact hw) hn) G.length [] vs (fun _ => []) [] a w .nil (fun _ h => by cases h) (by simp) hcl (fun _ _ h => by cases h) (fun _ _ h => by cases h) (fun _ _ h => by cases h) hag (by rw [curC_nil]; exact hw) hn
end group
end Go.Px

