/- The card of the law AgreeSigned: it returns true for every input; each argument reads behind the call as it read before; the listed package variables are tied to the program's text. No further condition. -/
import Derived.Test.YtoigcbkclcbmpaaGreatDoorB23
import Derived.Lib.LaidTab
import Derived.Stop.LaidErr
import Derived.MakeChecks
import Derived.Test.YtoigcbkclcbmpaaGreatDoorCards
import Derived.Test.YtoigcbkclcbmpaaGreatDoorTie
import Derived.Deep.DeepHandedRow
import Derived.Deep.DeepWitnessRowRef
import Derived.Lay
import Derived.LaidMore
set_option linter.unusedVariables false
set_option linter.unusedSimpArgs false
set_option maxRecDepth 100000
namespace Go.Proofs.YtoigcbkclcbmpaaGreatDoor
open Go.Px
noncomputable def sgS (m : Nat) : Ps := (L5 (oB m).1 (oB m).2).2
noncomputable def sgA (m : Nat) : Ps := I7 (D4 (sgS m)) (D9 (sgS m))
structure SgNo (m : Nat) (x : Pr) (g k : LN) : Prop where
  len : x.sig.length = 64
  key : A4k (sgA m) g (A0U x.n (K9 (D4 (sgS m)) (D9 (sgS m)))) x.sig = false
  num : ∀ t, 1 ≤ t → t < 256 → A4k (sgS m) g (A0U (x.n + t) k) x.sig = false
  sig : ∀ j, j < 32 → ∀ t, 1 ≤ t → t < 256 → A4k (sgS m) g (A0U x.n k) (x.sig.set j (x.sig.getD j 0 ^^^ t)) = false
  who : A4k (idS (oA m).1 (sgS m)) (idG (oA m).1 (sgS m)) (A0U x.n k) x.sig = false
noncomputable def trmF (x : Pr) (g k : LN) : Bool := decide (x.sig.length = 64) && (!A4k (sgA 1) g (A0U x.n (K9 (D4 (sgS 1)) (D9 (sgS 1)))) x.sig && ((List.range' 1 255).all (fun t => !A4k (sgS 1) g (A0U (x.n + t) k) x.sig) && ((List.range 32).all (fun j => (List.range' 1 255).all fun t => !A4k (sgS 1) g (A0U x.n k) (x.sig.set j (x.sig.getD j 0 ^^^ t))) && !A4k (idS (oA 1).1 (sgS 1)) (idG (oA 1).1 (sgS 1)) (A0U x.n k) x.sig)))
theorem C0V : ((oB 1).1.signed.all fun x => trmF x (idG (oB 1).1 (oB 1).2) (K9 (idS (oB 1).1 (oB 1).2) x.sec)) = true := by decide +kernel
theorem ntT {b : Bool} (h : (!b) = true) : b = false := by cases b <;> simp_all
theorem B8J {x : Pr} (hs : (oB 1).1.signed = [x]) : SgNo 1 x (idG (oB 1).1 (oB 1).2) (K9 (idS (oB 1).1 (oB 1).2) x.sec) := by
  have h := List.all_eq_true.1 C0V x (by rw [hs]; exact List.mem_singleton.2 rfl)
  unfold trmF at h
  rw [Bool.and_eq_true, Bool.and_eq_true, Bool.and_eq_true, Bool.and_eq_true] at h
  obtain ⟨h0, h1, h2, h3, h4⟩ := h
  exact ⟨of_decide_eq_true h0, ntT h1, fun t a b => ntT (List.all_eq_true.1 h2 t (by rw [List.mem_range'_1]; omega)), fun j hj t a b => ntT (List.all_eq_true.1 (List.all_eq_true.1 h3 j (List.mem_range.2 hj)) t (by rw [List.mem_range'_1]; omega)), ntT h4⟩

def RA (n : Nat) : Ps := ⟨true, sdA, n, []⟩
theorem rFS (n : Nat) : D4 (RA n) = RA (n + 1) := rfl
theorem rFK (n : Nat) : D9 (RA n) = A2R sdA (n + 1) := A3d rfl
theorem rPS (n : Nat) (w : LN) : I7 (RA n) w = RA n := rfl
theorem rPK (n : Nat) (w : LN) : K9 (RA n) w = V4 (R5 w 32) := if_pos rfl
theorem rSK (n : Nat) (w : LN) : B75 (RA n) w = A2T (R5 w 32) := if_pos rfl
theorem rGK (n : Nat) (a b : LN) : B2a (RA n) a b = A4a (R5 a 32) b := if_pos rfl
structure NwS (n : Nat) (k : Ks) : Prop where
  sign : k.sign = A2R sdA (n + 2)
  sg : k.signed = [⟨1, A2R sdA (n + 3), A4a (R5 (A2R sdA (n + 2)) 32) (A0U 1 (V4 (R5 (A2R sdA (n + 3)) 32)))⟩]
theorem A9n (k : Ks) (n : Nat) : ∀ i, (fillI k (RA n) i).2 = RA (n + i) ∧ (fillI k (RA n) i).1.sign = k.sign ∧ (fillI k (RA n) i).1.signed = k.signed
  | 0 => ⟨rfl, rfl, rfl⟩
  | i + 1 => by
    obtain ⟨h1, h2, h3⟩ := A9n k n i
    refine ⟨?_, h2, h3⟩
    show D4 (fillI k (RA n) i).2 = _
    rw [h1]; rfl
theorem B5u (k : Ks) (n : Nat) (hs : k.sign = A2R sdA n) (hn : k.next = 1) : turnP k (RA n) = ⟨1, A2R sdA (n + 1), A4a (R5 (A2R sdA n) 32) (A0U 1 (V4 (R5 (A2R sdA (n + 1)) 32)))⟩ := by
  unfold turnP
  rw [rFK, rFS, rPS, rPK, rGK, hs, hn]
theorem newS (u d : Int) (n : Nat) : NwS n (A4Q u d (RA n)).1 ∧ (A4Q u d (RA n)).2 = RA (n + 7) := by
  have e0 : (k0N u d (RA n)).sign = A2R sdA (n + 2) := by
    show D9 (D4 (RA n)) = _
    rw [rFS, rFK]
  have e1 := B5u (k0N u d (RA n)) (n + 2) e0 rfl
  have e2 : (Z6 (k0N u d (RA n)) (RA (n + 2))).2 = RA (n + 3) := rfl
  have e3 : (Z6 (k0N u d (RA n)) (RA (n + 2))).1.sign = (k0N u d (RA n)).sign := rfl
  have e4 : (Z6 (k0N u d (RA n)) (RA (n + 2))).1.signed = [turnP (k0N u d (RA n)) (RA (n + 2))] := rfl
  have e5 : (Z6 (k0N u d (RA n)) (RA (n + 2))).1.once = [] := rfl
  unfold A4Q A1M
  rw [rFS, rFS, e2, e5]
  rw [e0] at e3
  rw [e1] at e4
  generalize (Z6 (k0N u d (RA n)) (RA (n + 2))).1 = k at *
  obtain ⟨f1, f2, f3⟩ := A9n k (n + 3) 4
  exact ⟨⟨f2.trans e3, f3.trans e4⟩, f1⟩
theorem A8e (b : Bn) (l : List Pr) (n : Nat) : ∀ i, (A0J b l (RA n) i).2 = RA n
  | 0 => rfl
  | i + 1 => by
    cases h : l[i]? with
    | none => simp only [A0J, h]; exact A8e b l n i
    | some o => rw [Z7 h]; show I7 (A0J b l (RA n) i).2 _ = _; rw [A8e b l n i]; rfl
theorem B8K (k : Ks) (n : Nat) : (L5 k (RA n)).2 = RA n := by
  unfold L5
  split
  · rfl
  · exact A8e _ _ n _
theorem C0W : NwS 0 (oA 0).1 ∧ (oA 0).2 = RA 7 := newS 0 1 0
theorem C0X : NwS 7 (oB 0).1 ∧ (oB 0).2 = RA 14 := by
  unfold oB
  rw [C0W.2]
  exact newS 1 1 7
theorem A4R : sgS 0 = RA 14 := by unfold sgS; rw [C0X.2]; exact B8K _ _
theorem A9o (n : Nat) (p m g : LN) : A4k (RA n) p m g = A2U p m g := B2k rfl p m g
theorem B8L : ∀ j, j < 32 → ∀ i, 1 ≤ i → i < 256 → A2U p9L m9L ((r9L ++ N9 s9L 32).set j ((r9L ++ N9 s9L 32).getD j 0 ^^^ i)) = false := fun j hj => by
  rcases (by omega : j < 8 ∨ (8 ≤ j ∧ j < 16) ∨ (16 ≤ j ∧ j < 24) ∨ 24 ≤ j) with h | h | h | h
  · exact A53 C2n j (by rw [List.mem_range'_1]; omega) hj
  · exact A53 C2o j (by rw [List.mem_range'_1]; omega) hj
  · exact A53 C2p j (by rw [List.mem_range'_1]; omega) hj
  · exact A53 C2q j (by rw [List.mem_range'_1]; omega) hj
theorem B8M {x : Pr} (hs : (oB 0).1.signed = [x]) : SgNo 0 x (idG (oB 0).1 (oB 0).2) (K9 (idS (oB 0).1 (oB 0).2) x.sec) := by
  obtain ⟨b1, b2⟩ := C0X
  have hx : x = ⟨1, A2R sdA 10, A4a (N9 k9L 32) m9L⟩ := by
    have := b1.sg
    rw [hs, ky9, pb10, B5p] at this
    exact List.head_eq_of_cons_eq this
  have e1 : idG (oB 0).1 (oB 0).2 = p9L := by
    unfold idG
    rw [b2, rPS, rSK, b1.sign, ky9, C2k]
  have e2 : idS (oB 0).1 (oB 0).2 = RA 14 := by
    unfold idS
    rw [b2, rPS, rPS]
  have e3 : sgA 0 = RA 15 := by unfold sgA; rw [A4R]; rfl
  have e4 : K9 (D4 (sgS 0)) (D9 (sgS 0)) = N9 pfL 32 := by rw [A4R, rFS, rFK, rPK, pb15]
  have e5 : idS (oA 0).1 (sgS 0) = RA 14 := by unfold idS; rw [A4R, rPS, rPS]
  have e6 : idG (oA 0).1 (sgS 0) = p2L := by unfold idG; rw [A4R, rPS, rSK, C0W.1.sign, ky2, pub2]
  rw [e1, e2, hx, rPK, pb10, sig9]
  refine ⟨by rw [List.length_append, L8]; rfl, ?_, fun t a b => ?_, fun j hj t a b => ?_, ?_⟩
  · rw [e3, e4, A9o]; exact B5r
  · rw [A4R, A9o]; exact B5t a b
  · rw [A4R, A9o, B5p]; exact B8L j hj t a b
  · rw [e5, e6, A9o, B5p]; exact B5s
theorem sgM (m : Nat) : oA m = oA (m % 2) ∧ oB m = oB (m % 2) ∧ sgS m = sgS (m % 2) ∧ sgA m = sgA (m % 2) := by
  have e1 : oA m = oA (m % 2) := by unfold oA ag0; rw [Nat.mod_mod]
  have e2 : oB m = oB (m % 2) := by unfold oB; rw [e1]
  have e3 : sgS m = sgS (m % 2) := by unfold sgS; rw [e2]
  exact ⟨e1, e2, e3, by unfold sgA; rw [e3]⟩
theorem C2r (m : Nat) {x : Pr} (hs : (oB m).1.signed = [x]) : SgNo m x (idG (oB m).1 (oB m).2) (K9 (idS (oB m).1 (oB m).2) x.sec) := by
  obtain ⟨e1, e2, e3, e4⟩ := sgM m
  rw [e2] at hs ⊢
  have h : SgNo (m % 2) x (idG (oB (m % 2)).1 (oB (m % 2)).2) (K9 (idS (oB (m % 2)).1 (oB (m % 2)).2) x.sec) := by
    rcases (by omega : m % 2 = 0 ∨ m % 2 = 1) with h | h
    · rw [h] at hs ⊢; exact B8M hs
    · rw [h] at hs ⊢; exact B8J hs
  refine ⟨h.len, ?_, ?_, ?_, ?_⟩
  · rw [e3, e4]; exact h.key
  · rw [e3]; exact h.num
  · rw [e3]; exact h.sig
  · rw [e3, e1]; exact h.who

theorem _root_.Go.Px.XC.to {C : Cx} {Q : XQ} {c : Code} {l l' : Env} {M M' J J' : Mem} (h : XC C c Q l' M' J') (hk : Keep l l') (hM : Fit M M') (hJ : ∀ q, q ∈ J' → q ∈ J) : XC C c Q l M J := fun a w ha hw => h a w (ha.sub hk.lk) (hw.fit hM hJ)
theorem _root_.Go.Px.XC.late1 {C : Cx} {Q : XQ} {c1 d : Code} {l : Env} {M J : Mem} {α : Type} (L : α → Env) (MM JJ : α → Mem) (p : α → Prop) (h2 : ∀ x, p x → XC C d Q (L x) (MM x) (JJ x)) (h1 : (∀ x, p x → XC C d Q (L x) (MM x) (JJ x)) → XC C (.seq c1 d) Q l M J) : XC C (.seq c1 d) Q l M J := h1 h2
def bnC (y : Bn) (g k s : LN) (n : Nat) : Bn := ⟨y.user, y.dev, y.ia, g, n, k, s, y.has, y.once, y.oncek⟩
theorem B5v {s : Ps} {y : Bn} {g k d : LN} {n : Nat} (h : A4k s g (A0U n k) d = false) : ckB s (bnC y g k d n) = false := by
  unfold ckB bnC
  dsimp only
  rw [h, Bool.and_false]
theorem C0Y {s : Ps} {y : Bn} {g k d : LN} {n : Nat} (h : k.length < 32) : ckB s (bnC y g k d n) = false := by
  unfold ckB bnC
  dsimp only
  rw [decide_eq_false qO, Bool.false_and]
theorem A54 (m w a t : Nat) (A : Mem) (hm : m < 256) (hw : w < 256) (ha : a < 256) (ht : t < 256) (hG : Glb A) : FnV Tryz.prog 3 [.int .u8 ((m : Nat) : Int), .int .u8 ((w : Nat) : Int), .int .u8 ((a : Nat) : Int), .int .u8 ((t : Nat) : Int)] A (.bool true) := by
 refine FnX.enter (N := 128) Tryz.func3 rfl rfl rfl fun w_ => ?_
 refine C4 (E7 0 1 2 3) (A3 (as_ (A0 (E7 0 1 2 3) (A5 (A3 ?_)))))
 refine F6 a0 kR (A7c _ hG.up) rfl ?_
 refine A4 (A0o rfl) rfl ?_
 refine mv_ ?_
 refine G2 rfl rfl (OpQ.opL qm_ rfl ?_)
 refine G2 rfl rfl (OpQ.opL (F4 (decide (t = 0)) rfl rfl (C0o _ 0)) rfl ?_)
 refine A4 (E9 rfl rfl) rfl ?_
 refine A0 (F5 0 1 2 3 19) ?_
 refine C7 rfl ?_ ?_ <;> intro hc
 ·
  have ht0 : t = 0 := by simpa using hc
  refine A3 ?_
  refine F6 a0 kR (A7c _ hG.up) rfl ?_
  refine as_ (A0 (D8 8) (C3 (tr ?_)))
  exact ⟨_, [], [], K2 rfl rfl, List.nil_sublist _, by simp, rfl, rfl, rfl⟩
 ·
  have ht0 : ¬ t = 0 := by simpa using hc
  refine A9 (nx (E7 0 1 2 3) (A3 (mv_ ?_)))
  refine C9 (aS rfl a0) kR (A9j m _ hm hG.up) rfl ?_
  rintro v22 M22 J22 ⟨tb, pb, ka, kb, MA, MB, MP, rfl, rfl, hKa, hKb, hP⟩
  obtain ⟨x0, hsg0, -⟩ := (A51 m).sg
  obtain ⟨n0, n1, n2, n3, n4⟩ := C2r m hsg0
  unfold sgA sgS at n1
  unfold sgS at n2 n3 n4
  have hF := A51 (m)
  generalize (oA (m)).1 = ak at *
  generalize (oB (m)).1 = bk at *
  generalize (oB (m)).2 = s at *
  obtain ⟨x, hsg, hxn, hxl⟩ := hF.sg
  have hol := B6r bk
  rw [hF.on] at hol
  change 4 = _ at hol
  have hts := hF.ts
  have hsn := hF.n
  have hrise : B6q bk.once := B2y (by rw [show bk.once.map (·.n) = onN bk from rfl, hF.on]; decide)
  obtain rfl : x = x0 := by rw [hsg0] at hsg; exact (List.head_eq_of_cons_eq hsg).symm
  refine as_ (A0 (E7 1 2 3 9) ?_)
  refine S9 (B := [(tb, blk [(vP pb), (vP ka), (vP kb)] 37)]) qP ?_
  refine S9 (B := MA) qP ?_
  obtain ⟨va, vg, vq, vo, vm, rs, ro, rm, hra⟩ := hKa.r
  obtain ⟨ua, ug, uq, uo, um, ss, so, sm, hrb⟩ := hKb.r
  have hla := (hra _ (fun _ h => List.mem_append_left MA h) (fun _ h => List.mem_append_right _ h)).lt
  have hlb := (hrb _ (fun _ h => List.mem_append_left MB h) (fun _ h => List.mem_append_right _ h)).lt
  obtain ⟨hbl, -, -, hbt⟩ := A2D (s := s) hsg
  rw [← hol] at hbl
  obtain ⟨y, xo, hy, -, -, y3, y4, y5, y6, y7, y8, y9, y10⟩ := B2I (s := s) hsg (j := 1) (by rw [← hol]; decide)
  obtain ⟨hb1, hb2, -⟩ := hF.bb.bundles hsg qO qO
  have hbn : (L5 bk s).2.n = s.n := B6t
  have hk32 : y.key.length = 32 := by rw [y6]; exact A2l _ _
  have hyn : y.signed = 1 := y5.trans hxn
  rw [← y7] at n0
  rw [← y4, ← y5, ← y7] at n1
  rw [← y4, ← y6, ← y5, ← y7] at n2 n3
  rw [← y6, ← y5, ← y7] at n4
  refine I0 (MB ++ MP) (_) true (.range 12) (zp 0 [0, 0, 0, 1, 0, 0, 0, 1, 3, 3, 3, 4, 2]) kR kR qP fun hs K n0 hKm hKs hKn => ?_
  refine km_ hs ?_
  refine I8 hs rfl (F9 rfl) rfl ?_
  refine I8 hs rfl (qf_ 2 2) rfl ?_
  refine Q0 hs rfl hKs ql_ ?_
  refine km_ hs ?_
  refine I8 hs rfl (F9 rfl) rfl ?_
  refine I8 hs rfl (qf_ 0 0) rfl ?_
  refine Q0 hs rfl hKs ql_ ?_
  refine A07 [⟨8, 31, none, MB ++ MP, fun v B R => ∃ MP2, B = MB ++ MP2 ∧ Prm pb (L5 bk s).2 MP2 ∧ ∃ rows, Rd R 10 v (L5 bk s).1.length rows.flatten ∧ RwL bnR R rows (L5 bk s).1⟩, ⟨9, 32, none, [], fun v B R => B = [] ∧ ∃ u rows, v = vAt 10 (1) u ∧ Rd R 10 u (L5 bk s).1.length rows.flatten ∧ RwL bnR R rows (L5 bk s).1⟩, ⟨10, 33, none, [], fun v B R => B = [] ∧ ∃ r, v = .agg r.toArray ∧ bnR R y r⟩, ⟨11, 10, none, [], fun v B _ => ∃ b, v = (vP b) ∧ B = [(b, blk [.int .i64 0, .int .i64 0, vS, vS, .int .u32 0, vS, vS, .bool false, .int .u32 0, vS] 32)]⟩] (_) (fun bs => [bs 8, bs 9, bs 10, bs 11]) (hKn rfl) (List.Perm.refl _) (show ∀ m ∈ ([MB ++ MP, [], [], []] : List Mem), ∀ x ∈ m, K x.1 from C1 (hKm) (C1 (fun _ h => by cases h) (C1 (fun _ h => by cases h) (C1 (fun _ h => by cases h) (K7))))) kR (fun _ => by first | rfl | kernel_rfl)
   (C1 (fun _ _ _ _ h hp => by obtain ⟨MP2, e, p1, rows, p2, p3⟩ := hp; exact ⟨MP2, e, p1, rows, p2.mono h, p3.mono bnT h⟩) (C1 (fun _ _ _ _ h hp => by obtain ⟨e, u, rows, e2, p2, p3⟩ := hp; exact ⟨e, u, rows, e2, p2.mono h, p3.mono bnT h⟩) (C1 (fun _ _ _ _ h hp => by obtain ⟨e, r, e2, p2⟩ := hp; exact ⟨e, r, e2, bnT.mono _ _ _ _ h p2⟩) (C1 (fun _ _ _ _ _ h => h) (K7))))) (show List.Nodup [31, 32, 33, 10] by decide) (show List.Nodup [8, 9, 10, 11] by decide) (C1 (C8 rfl) (C1 (C8 rfl) (C1 (C8 rfl) (C1 (C8 rfl) (K7)))))
   (C1 ⟨_, rfl, fun vs bs R Rj wG hb hj hjr ha => ⟨.inl rfl, ?_⟩⟩ (C1 ⟨_, rfl, fun vs bs R Rj wG hb hj hjr ha => ⟨.inl rfl, ?_⟩⟩ (C1 ⟨_, rfl, fun vs bs R Rj wG hb hj hjr ha => ⟨.inl rfl, ?_⟩⟩ (C1 ⟨_, rfl, fun vs bs R Rj wG hb hj hjr ha => ⟨.inl rfl, ?_⟩⟩ (K7))))) ?_
  ·
   dsimp only [Gc.inp]
   refine E1 (Mc := MB ++ MP) (R := []) (aS rfl (aS rfl (a0))) kR qM (FnX.amb (A := Rj) (fun x hx => by have := hjr x hx; simp [this]) (B2J pb kb s bk x [] MB MP Rj (hKb.mono (fun x hx => hj x (qS x hx))) hsg hP qO qO (hG.sub (fun x hx => hj x (qS x hx))))) rfl ?_
   rintro v25 M25 J25 ⟨MP2, rfl, hP2, rows, k1, k2⟩
   exact ⟨_, rfl, MP2, by simp, hP2, rows, k1.mono qS, k2.mono bnT qS⟩
  ·
   dsimp only [Gc.inp]
   have g8 := ha _ (List.mem_of_getElem? (i := 0) rfl) kR
   replace g8 : (fun v B R => ∃ MP2, B = MB ++ MP2 ∧ Prm pb (L5 bk s).2 MP2 ∧ ∃ rows, Rd R 10 v (L5 bk s).1.length rows.flatten ∧ RwL bnR R rows (L5 bk s).1) (vs 8) (bs 8) Rj := g8
   dsimp only at g8
   obtain ⟨-, -, -, rows, k1, k2⟩ := g8
   exact OpQ.opL (K0 (sz := 10) (a := 1) rfl rfl kR rfl k1 (by rw [hbl]; decide)) rfl ⟨_, rfl, rfl, _, rows, rfl, k1, k2⟩
  ·
   dsimp only [Gc.inp]
   have g9 := ha _ (List.mem_of_getElem? (i := 1) rfl) kR
   replace g9 : (fun v B R => B = [] ∧ ∃ u rows, v = vAt 10 (1) u ∧ Rd R 10 u (L5 bk s).1.length rows.flatten ∧ RwL bnR R rows (L5 bk s).1) (vs 9) (bs 9) Rj := g9
   dsimp only at g9
   obtain ⟨-, u, rows, e, k1, k2⟩ := g9
   obtain ⟨r, hr, hbn_⟩ := k2.get (1) y hy
   exact OpQ.opL (A0Q (rows := rows) (by rw [← e]; rfl) kR (k1.mono (fun x hx => by have := hjr x hx; simp [this])) (k2.lens bnT) qD hr) rfl ⟨_, rfl, rfl, r, rfl, hbn_⟩
  ·
   dsimp only [Gc.inp]
   exact C5 (cs := [A2Z, A2Z, vS, vS, G4, vS, vS, .bool false, G4, vS]) kR rfl fun b => ⟨_, rfl, b, rfl, rfl⟩
  intro vs bs Jn0 hφ hKK
  have kk8 := hKK _ (List.mem_of_getElem? (i := 0) rfl)
  dsimp only at kk8
  have kk9 := hKK _ (List.mem_of_getElem? (i := 1) rfl)
  dsimp only at kk9
  have kk10 := hKK _ (List.mem_of_getElem? (i := 2) rfl)
  dsimp only at kk10
  have kk11 := hKK _ (List.mem_of_getElem? (i := 3) rfl)
  dsimp only at kk11
  clear hKK
  have g8 := ofH hφ
  dsimp only at g8
  replace hφ := ofT hφ
  have g9 := ofH hφ
  dsimp only at g9
  replace hφ := ofT hφ
  have g10 := ofH hφ
  dsimp only at g10
  replace hφ := ofT hφ
  have g11 := ofH hφ
  dsimp only at g11
  clear hφ
  dsimp only [U0, A0H, List.foldr, List.map, List.cons_append, List.nil_append]
  generalize bs 8 = B31 at *
  generalize bs 9 = B32 at *
  generalize bs 10 = B33 at *
  generalize bs 11 = B10 at *
  generalize vs 8 = u31 at *
  generalize vs 9 = u32 at *
  generalize vs 10 = u33 at *
  generalize vs 11 = u10 at *
  obtain ⟨MP2, rfl, hP27, -⟩ := g8
  obtain ⟨rfl, -⟩ := g9
  obtain ⟨rfl, r0, rfl, w1, w2, w3, w4, w5, rfl, gw1, gw2, gw3, gw4, gw5, gws, gwo⟩ := g10
  obtain ⟨b10, rfl, rfl⟩ := g11
  haveI := gw1.cel
  haveI := gw2.cel
  haveI := gw3.cel
  haveI := gw4.cel
  haveI := gw5.cel
  refine P0 rfl rfl rfl (A8 (vs := [.int .i64 y.user, .int .i64 y.dev, w1, w2, (vU y.signed), w3, w4, .bool y.has, (vU y.once), w5]) rfl rfl rfl kR qR (C1 rfl (C1 rfl (C1 gw1.one (C1 gw2.one (C1 rfl (C1 gw3.one (C1 gw4.one (C1 rfl (C1 rfl (C1 gw5.one K7)))))))))) UpC.upd ?_)
  refine P4 (F5 1 2 3 9 10) ?_
  refine S9 (B := MB) qP ?_
  refine A0p (M' := (b10, blk [.int .i64 y.user, .int .i64 y.dev, w1, w2, (vU y.signed), w3, w4, .bool y.has, (vU y.once), w5] 32) :: MP2) (Fit.pick (B := [_]) qP (Fit.last qP)) qI ?_
  have hk3 := gw3.len
  have hk4 := gw4.len
  refine A3 ?_
  refine A4 (qf_ 5 5) rfl ?_
  refine A4 ql_ rfl ?_
  refine A6 rfl (I3 (e := 5) (sz := 1) (by_ := 1) (n := 0) (m := y.key.length) (B := []) rfl rfl kR rfl Sl.nil (gw3.rd.mono qS) E8 (.refl _) (by unfold maxLen; omega) qO rfl fun v36 B36 hs36 => ?_)
  rw [Nat.zero_add, List.nil_append] at hs36
  haveI := hs36.cel
  refine A4 (qf_ 5 5) rfl ?_
  refine A6 rfl (D6 rfl rfl hs36.one kR SetC.set UpC.upd ?_)
  refine A0 (F5 1 2 3 9 10) ?_
  refine S9 (B := B36) qP ?_
  refine A3 ?_
  refine A4 (qf_ 6 6) rfl ?_
  refine A4 ql_ rfl ?_
  refine A6 rfl (I3 (e := 5) (sz := 1) (by_ := 1) (n := 0) (m := y.sig.length) (B := []) rfl rfl kR rfl Sl.nil (gw4.rd.mono qS) E8 (.refl _) (by unfold maxLen; omega) qO rfl fun v40 B40 hs40 => ?_)
  rw [Nat.zero_add, List.nil_append] at hs40
  haveI := hs40.cel
  refine A4 (qf_ 6 6) rfl ?_
  refine A6 rfl (D6 rfl rfl hs40.one kR SetC.set UpC.upd ?_)
  refine A0 (F5 1 2 3 9 10) ?_
  refine XC.late1 (α := Bn × (Value × Value × Value × Value × Value) × Ps × Mem × Mem) (fun _ => [(9, (vP tb)), (10, (vP b10))]) (fun z => z.2.2.2.1) (fun z => z.2.2.2.2) (fun z => (KyR (z.2.2.2.2 ++ A) ka ak va vg vq vo vm rs ro rm ∧ (tb, blk [(vP pb), (vP ka), (vP kb)] 37) ∈ (z.2.2.2.2 ++ A) ∧ (b10, blk [.int .i64 z.1.user, .int .i64 z.1.dev, z.2.1.1, z.2.1.2.1, (vU z.1.signed), z.2.1.2.2.1, z.2.1.2.2.2.1, .bool z.1.has, (vU z.1.once), z.2.1.2.2.2.2] 32) ∈ (z.2.2.2.2 ++ A) ∧ Prm pb z.2.2.1 z.2.2.2.1) ∧ (By (z.2.2.2.2 ++ A) z.2.1.1 z.1.ia ∧ By (z.2.2.2.2 ++ A) z.2.1.2.1 z.1.ig ∧ By (z.2.2.2.2 ++ A) z.2.1.2.2.1 z.1.key ∧ By (z.2.2.2.2 ++ A) z.2.1.2.2.2.1 z.1.sig ∧ By (z.2.2.2.2 ++ A) z.2.1.2.2.2.2 z.1.oncek) ∧ Ar z.2.2.1.ts ∧ z.2.2.1.ts.length + 1000 ≤ 1040000 ∧ z.2.2.1.n < 1000000000 ∧ z.1.signed < 4294967296 ∧ z.1.once < 4294967296 ∧ ckB z.2.2.1 z.1 = false) ?_ ?_
  ·
   rintro ⟨c, ⟨wa, wg, wk, ws, wo⟩, s, MP, Jj⟩ ⟨⟨hK, hTW, hRow, hP⟩, ⟨ga, gg, gk, gs, go⟩, har, hts, hsn2, hsn, hon, hck⟩
   dsimp only at hK hTW hRow hP ga gg gk gs go har hts hsn2 hsn hon hck ⊢
   haveI := ga.cel
   haveI := gg.cel
   haveI := gk.cel
   haveI := gs.cel
   haveI := go.cel
   refine I0 (MP) (_) true [0, 1, 2, 3, 4, 5, 6, 7, 8, 9, 10, 11, 12, 13, 14, 15, 17] [(0, 0), (1, 0), (2, 0), (3, 1), (4, 0), (5, 0), (6, 0), (7, 1), (8, 1), (9, 8), (10, 8), (11, 8), (14, 8), (12, 9), (13, 10), (15, 0), (16, 2), (17, 0)] kR kR qP fun hs K n0 hKm hKs hKn => ?_
   refine km_ hs ?_
   refine I8 hs rfl (F9 rfl) rfl ?_
   refine I8 hs rfl (qf_ 0 0) rfl ?_
   refine Q0 hs rfl hKs (I2 rfl kR (qS _ hTW) qR) ?_
   refine km_ hs ?_
   refine I8 hs rfl (F9 rfl) rfl ?_
   refine I8 hs rfl (qf_ 1 1) rfl ?_
   refine Q0 hs rfl hKs (I2 rfl kR (qS _ hTW) qR) ?_
   refine Q0 hs rfl hKs (H6 (n := 10) (cs := [.int .i64 c.user, .int .i64 c.dev, wa, wg, (vU c.signed), wk, ws, .bool c.has, (vU c.once), wo]) rfl kR (qS _ hRow) qR) ?_
   refine A2c [⟨9, 113, none, MP, fun v B R => Prm pb s B ∧ v = (.tuple #[vS, .agg #[vS, vS, vS, .int .u32 0, .bool false, .int .u32 0], .int .i64 10] : Value)⟩, ⟨10, 103, none, [], fun v B R => B = [] ∧ v = (.tuple #[vS, .agg #[vS, vS, vS, .int .u32 0, .bool false, .int .u32 0], .int .i64 10] : Value)⟩, ⟨11, 114, none, [], fun v B R => B = [] ∧ v = vS⟩, ⟨14, 12, none, [], fun v B _ => ∃ b, v = (vP b) ∧ B = [(b, blk [vS, vS, vS, .int .u32 0, .bool false, .int .u32 0] 43)]⟩] [⟨12, 115, none, [], fun v B R => B = [] ∧ v = .agg #[vS, vS, vS, .int .u32 0, .bool false, .int .u32 0]⟩, ⟨13, 116, none, [], fun v B R => B = [] ∧ v = .int .i64 10⟩] ([]) (fun bs => [bs 9, bs 10, bs 11, bs 14, bs 12, bs 13]) (hKn rfl) (by simp [A0H, A2b]) (show ∀ m ∈ ([MP, [], [], [], [], []] : List Mem), ∀ x ∈ m, K x.1 from C1 (hKm) (C1 (fun _ h => by cases h) (C1 (fun _ h => by cases h) (C1 (fun _ h => by cases h) (C1 (fun _ h => by cases h) (C1 (fun _ h => by cases h) (K7))))))) kR (fun _ => by first | rfl | kernel_rfl)
    (C1 (fun _ _ _ _ _ h => h) (C1 (fun _ _ _ _ _ h => h) (C1 (fun _ _ _ _ _ h => h) (C1 (fun _ _ _ _ _ h => h) (C1 (fun _ _ _ _ _ h => h) (C1 (fun _ _ _ _ _ h => h) (K7))))))) (show List.Nodup [113, 103, 114, 12, 115, 116] by decide) (show List.Nodup [9, 10, 11, 14, 12, 13] by decide) (C1 (C8 rfl) (C1 (C8 rfl) (C1 (C8 rfl) (C1 (C8 rfl) (C1 (C8 rfl) (C1 (C8 rfl) (K7)))))))
    hs (List.cons_ne_nil _ _) (C1 ⟨_, rfl, fun vs bs R Rj wG hb hj hjr ha => ⟨.inl rfl, ?_⟩⟩ (C1 ⟨_, rfl, fun vs bs R Rj wG hb hj hjr ha => ⟨.inl rfl, ?_⟩⟩ (C1 ⟨_, rfl, fun vs bs R Rj wG hb hj hjr ha => ⟨.inl rfl, ?_⟩⟩ (C1 ⟨_, rfl, fun vs bs R Rj wG hb hj hjr ha => ⟨.inl rfl, ?_⟩⟩ (K7))))) (C1 ⟨rfl, rfl, _, _, _, _, rfl, fun vs bs Rj hj ha => ?_⟩ (C1 ⟨rfl, rfl, _, _, _, _, rfl, fun vs bs Rj hj ha => ?_⟩ (K7))) ?_
   ·
    dsimp only [Gc.inp]
    refine E1 (Mc := MP) (R := []) (aS rfl (aS rfl (aS rfl (a0)))) kR qM (FnX.amb (A := Rj) (fun x hx => by have := hjr x hx; simp [this]) (B2G pb s ka ak va vg vq vo vm rs ro rm c wa wg wk ws wo MP Rj (hK.mono (fun x hx => hj x (qS x hx))) hP har qO qO (ga.mono (fun x hx => hj x (qS x hx))) (gg.mono (fun x hx => hj x (qS x hx))) (gk.mono (fun x hx => hj x (qS x hx))) (gs.mono (fun x hx => hj x (qS x hx))) (go.mono (fun x hx => hj x (qS x hx))) hsn hon (hG.sub (fun x hx => hj x (qS x hx))))) rfl ?_
    rintro v25 M25 J25 ⟨-, hh⟩
    obtain ⟨rfl, hP25⟩ := hh hck
    exact ⟨_, rfl, by simpa using hP25, rfl⟩
   ·
    dsimp only [Gc.inp]
    have g9 := ha _ (List.mem_of_getElem? (i := 0) rfl) kR
    replace g9 : (fun v B R => Prm pb s B ∧ v = (.tuple #[vS, .agg #[vS, vS, vS, .int .u32 0, .bool false, .int .u32 0], .int .i64 10] : Value)) (vs 9) (bs 9) Rj := g9
    dsimp only at g9
    obtain ⟨-, k⟩ := g9
    exact OpQ.opL qm_ rfl ⟨_, rfl, rfl, k⟩
   ·
    dsimp only [Gc.inp]
    have g10 := ha _ (List.mem_of_getElem? (i := 1) rfl) kR
    replace g10 : (fun v B R => B = [] ∧ v = (.tuple #[vS, .agg #[vS, vS, vS, .int .u32 0, .bool false, .int .u32 0], .int .i64 10] : Value)) (vs 10) (bs 10) Rj := g10
    dsimp only at g10
    obtain ⟨-, e⟩ := g10
    exact OpQ.opL (N2 (vs := #[vS, .agg #[vS, vS, vS, .int .u32 0, .bool false, .int .u32 0], .int .i64 10]) (by rw [← e]; rfl) rfl) rfl ⟨_, rfl, rfl, rfl⟩
   ·
    dsimp only [Gc.inp]
    exact C5 (cs := [vS, vS, vS, .int .u32 0, .bool false, .int .u32 0]) kR rfl fun b => ⟨_, rfl, b, rfl, rfl⟩
   ·
    have g10 := ha _ (List.mem_of_getElem? (i := 1) rfl) kR
    replace g10 : (fun v B R => B = [] ∧ v = (.tuple #[vS, .agg #[vS, vS, vS, .int .u32 0, .bool false, .int .u32 0], .int .i64 10] : Value)) (vs 10) (bs 10) Rj := g10
    dsimp only at g10
    obtain ⟨-, e⟩ := g10
    exact ⟨_, N2 (vs := #[vS, .agg #[vS, vS, vS, .int .u32 0, .bool false, .int .u32 0], .int .i64 10]) (by rw [← e]; rfl) rfl, rfl, rfl⟩
   ·
    have g10 := ha _ (List.mem_of_getElem? (i := 1) rfl) kR
    replace g10 : (fun v B R => B = [] ∧ v = (.tuple #[vS, .agg #[vS, vS, vS, .int .u32 0, .bool false, .int .u32 0], .int .i64 10] : Value)) (vs 10) (bs 10) Rj := g10
    dsimp only at g10
    obtain ⟨-, e⟩ := g10
    exact ⟨_, N2 (vs := #[vS, .agg #[vS, vS, vS, .int .u32 0, .bool false, .int .u32 0], .int .i64 10]) (by rw [← e]; rfl) rfl, rfl, rfl⟩
   intro vs bs Jn0 hφ hKK
   have kk9 := hKK _ (List.mem_of_getElem? (i := 0) rfl)
   dsimp only at kk9
   have kk10 := hKK _ (List.mem_of_getElem? (i := 1) rfl)
   dsimp only at kk10
   have kk11 := hKK _ (List.mem_of_getElem? (i := 2) rfl)
   dsimp only at kk11
   have kk14 := hKK _ (List.mem_of_getElem? (i := 3) rfl)
   dsimp only at kk14
   have kk12 := hKK _ (List.mem_of_getElem? (i := 4) rfl)
   dsimp only at kk12
   have kk13 := hKK _ (List.mem_of_getElem? (i := 5) rfl)
   dsimp only at kk13
   clear hKK
   have g9 := ofH hφ
   dsimp only at g9
   replace hφ := ofT hφ
   have g10 := ofH hφ
   dsimp only at g10
   replace hφ := ofT hφ
   have g11 := ofH hφ
   dsimp only at g11
   replace hφ := ofT hφ
   have g14 := ofH hφ
   dsimp only at g14
   replace hφ := ofT hφ
   have g12 := ofH hφ
   dsimp only at g12
   replace hφ := ofT hφ
   have g13 := ofH hφ
   dsimp only at g13
   clear hφ
   dsimp only [U0, A0H, List.foldr, List.map, List.cons_append, List.nil_append]
   generalize bs 9 = B113 at *
   generalize bs 10 = B103 at *
   generalize bs 11 = B114 at *
   generalize bs 14 = B12 at *
   generalize bs 12 = B115 at *
   generalize bs 13 = B116 at *
   generalize vs 9 = u113 at *
   generalize vs 10 = u103 at *
   generalize vs 11 = u114 at *
   generalize vs 14 = u12 at *
   generalize vs 12 = u115 at *
   generalize vs 13 = u116 at *
   obtain ⟨hP43, -⟩ := g9
   obtain ⟨rfl, -⟩ := g10
   obtain ⟨rfl, rfl⟩ := g11
   obtain ⟨rfl, rfl⟩ := g12
   obtain ⟨rfl, rfl⟩ := g13
   obtain ⟨b12, rfl, rfl⟩ := g14
   refine I8 hs rfl (I4 rfl) rfl ?_
   refine P0 rfl rfl rfl (A8 (vs := [vS, vS, vS, .int .u32 0, .bool false, .int .u32 0]) rfl rfl rfl kR qR al6 UpC.upd ?_)
   refine I8 hs rfl (I4 rfl) rfl ?_
   refine P4 (E2 9 10 13) ?_
   refine D2 (.range 12) (zp 0 [0, 0, 0, 0, 0, 0, 1, 1, 2, 0, 0, 0]) kR kR fun hs => ?_
   refine fm_ hs ?_
   refine D1 hs rfl (F4 true rfl rfl (eqT rfl)) rfl ?_
   refine fm_ hs ?_
   refine L6 hs rfl rfl rfl rfl qm_ rfl ?_
   refine L6 hs rfl rfl rfl rfl (F9 rfl) rfl ?_
   refine L6 hs rfl rfl rfl rfl (qf_ 0 0) rfl ?_
   refine Y6 hs rfl rfl rfl rfl (I2 rfl kR (qS _ hTW) qR) rfl ?_
   refine Y6 hs rfl rfl rfl rfl (H6 (n := 10) (cs := [.int .i64 c.user, .int .i64 c.dev, wa, wg, (vU c.signed), wk, ws, .bool c.has, (vU c.once), wo]) rfl kR (qS _ hRow) qR) rfl ?_
   refine A1Z rfl rfl rfl rfl (aS rfl (aS rfl a0)) kR (A7b pb s c wa wg wk ws wo _ _ hP43 qS har qO (ga.mono qS) (gg.mono qS) (gk.mono qS) (gs.mono qS) (go.mono qS) hsn hG.up) rfl ?_
   rw [show (decide (c.key.length = 32) && A4k s c.ig (A0U c.signed c.key) c.sig) = false from hck]
   refine L6 hs rfl rfl rfl rfl (A0o rfl) rfl ?_
   refine D1 hs rfl (I5 rfl rfl) rfl ?_
   refine fa_ hs ?_
   refine E4 (D8 8) (C3 ?_)
   exact ⟨_, [], [], K2 rfl rfl, List.nil_sublist _, by simp, rfl, rfl, rfl⟩
  ·
   intro hLT
   refine A5 (A3 (mv_ ?_))
   refine A4 (A0P (a := w) (b := 5) rfl rfl rfl rfl qD) rfl ?_
   refine A0 (F5 2 3 9 10 43) (C0 ?_)
   rcases (by omega : w % 5 = 0 ∨ w % 5 = 1 ∨ w % 5 = 2 ∨ w % 5 = 3 ∨ w % 5 = 4) with c | c | c | c | c
   ·
    refine A3 ?_
    refine A4 (F4 true rfl rfl (eqT qO)) rfl ?_
    refine as_ (A0 (I1 2 3 9 10 43 51) ?_)
    refine E0 rfl ?_
    refine Y5 (MP2) (_) true (.range 11) (zp 0 [0, 0, 0, 1, 0, 0, 0, 1, 2, 2, 0, 2]) kR kR qP fun hs K n0 hKm hKs hKn => ?_
    refine km_ hs ?_
    refine I8 hs rfl (F9 rfl) rfl ?_
    refine I8 hs rfl (qf_ 0 0) rfl ?_
    refine Q0 hs rfl hKs ql_ ?_
    refine km_ hs ?_
    refine I8 hs rfl (F9 rfl) rfl ?_
    refine I8 hs rfl (qf_ 0 0) rfl ?_
    refine Q0 hs rfl hKs ql_ ?_
    refine K6 _ _ rfl rfl (List.Perm.refl _) hKm fun w0 => (E1 (Mc := MP2) (R := _) (aS rfl (a0)) kR qP (X6 pb (L5 bk s).2 MP2 _ hP27 qO qO hG.up) rfl ?_)
    rintro v61 M61 J61 ⟨hP61, h61⟩ hKx61
    haveI := h61.cel
    have f1 := L2 (L5 bk s).2
    refine K6 M61 _ rfl rfl qP (fun x hx => hKx61 (hKn rfl) x (by simpa using hx)) fun w0 => (E1 (Mc := M61) (R := _) (aS rfl (aS rfl (a0))) kR qP (A0m pb (D4 (L5 bk s).2) v61 (D9 (L5 bk s).2) M61 _ hP61 qO (h61.mono qS) hG.up) rfl ?_)
    rintro v62 M62 J62 ⟨hP62, h62⟩ hKx62
    haveI := h62.cel
    refine I8 hs rfl (qf_ 5 5) rfl ?_
    refine P0 rfl rfl rfl (D6 rfl rfl h62.one kR SetC.set UpC.upd ?_)
    refine A3x (nb (nx (D5 9 10) ?_))
    have f2 := N7 (D4 (L5 bk s).2) (D9 (L5 bk s).2)
    have f3 := Z5 (D4 (L5 bk s).2) (D9 (L5 bk s).2)
    refine S9 (B := B40) qP ?_
    refine S9 (B := [(b10, blk [.int .i64 y.user, .int .i64 y.dev, w1, w2, (vU y.signed), v62, v40, .bool y.has, (vU y.once), w5] 32)]) qP ?_
    refine XC.to (hLT (⟨y.user, y.dev, y.ia, y.ig, y.signed, (K9 (D4 (L5 bk s).2) (D9 (L5 bk s).2)), y.sig, y.has, y.once, y.oncek⟩, (w1, w2, v62, v40, w5), (I7 (D4 (L5 bk s).2) (D9 (L5 bk s).2)), M62, _) ?_) (D5 9 10) (Fit.last qP) qI
    dsimp only
    exact ⟨⟨hra _ qS qS, At.mem, At.mem, hP62⟩, ⟨gw1.mono qS, gw2.mono qS, h62.mono qS, ⟨hs40.rd qS, gw4.lt, gw4.len⟩, gw5.mono qS⟩, hb1.ar.fresh.pub _, by omega, by omega, gws, gwo, B5v n1⟩
   ·
    refine A3 ?_
    refine A4 (F4 false rfl rfl (eqF qO)) rfl ?_
    refine as_ (A0 (I1 2 3 9 10 43 51) ?_)
    refine D3 rfl ?_
    refine A3 ?_
    refine A4 (F4 true rfl rfl (eqT qO)) rfl ?_
    refine as_ (A0 (I1 2 3 9 10 43 64) ?_)
    refine E0 rfl ?_
    refine C2 ?_
    refine A4 (qf_ 4 4) rfl ?_
    refine A4 ql_ rfl ?_
    refine mv_ ?_
    refine A4 (A41 (k' := .u32) ((t : Nat) : Int) rfl kR (B3n qO qO)) rfl ?_
    refine A4 (A6k 4294967296 (a := y.signed) (b := t) rfl rfl rfl rfl rfl rfl qO) rfl ?_
    refine A4 (qf_ 4 4) rfl ?_
    refine A6 rfl (D6 rfl rfl rfl kR SetC.set UpC.upd ?_)
    refine D0 (nb (nx (D5 9 10) ?_))
    refine S9 (B := B40) qP ?_
    refine S9 (B := [(b10, blk [.int .i64 y.user, .int .i64 y.dev, w1, w2, .int .u32 ((y.signed + t : Nat) : Int), v36, v40, .bool y.has, (vU y.once), w5] 32)]) qP ?_
    refine XC.to (hLT (⟨y.user, y.dev, y.ia, y.ig, y.signed + t, y.key, y.sig, y.has, y.once, y.oncek⟩, (w1, w2, v36, v40, w5), (L5 bk s).2, MP2, _) ?_) (D5 9 10) (Fit.last qP) qI
    dsimp only
    exact ⟨⟨hra _ qS qS, At.mem, At.mem, hP27⟩, ⟨gw1.mono qS, gw2.mono qS, ⟨hs36.rd qS, gw3.lt, gw3.len⟩, ⟨hs40.rd qS, gw4.lt, gw4.len⟩, gw5.mono qS⟩, hb1.ar, by omega, by omega, by omega, gwo, B5v (n2 t qO ht)⟩
   ·
    refine A3 ?_
    refine A4 (F4 false rfl rfl (eqF qO)) rfl ?_
    refine as_ (A0 (I1 2 3 9 10 43 51) ?_)
    refine D3 rfl ?_
    refine A3 ?_
    refine A4 (F4 false rfl rfl (eqF qO)) rfl ?_
    refine as_ (A0 (I1 2 3 9 10 43 64) ?_)
    refine D3 rfl ?_
    refine A3 ?_
    refine A4 (F4 true rfl rfl (eqT qO)) rfl ?_
    refine as_ (A0 (I1 2 3 9 10 43 72) ?_)
    refine E0 rfl ?_
    refine I9 (.range 15) (zp 0 [0, 1, 0, 0, 0, 0, 1, 0, 0, 0, 0, 1, 0, 0, 0, 2]) kR kR fun hs => ?_
    refine D1 hs rfl (qf_ 6 6) rfl ?_
    refine F7 hs rfl ql_ rfl ?_
    refine fm_ hs ?_
    refine D1 hs rfl (A1o (k' := .i64) rfl kR (by show _ < 9223372036854775808; omega)) rfl ?_
    refine D1 hs rfl (A0P (a := a) (b := 32) rfl rfl rfl rfl qD) rfl ?_
    refine D1 hs rfl (qf_ 6 6) rfl ?_
    refine F7 hs rfl ql_ rfl ?_
    refine fm_ hs ?_
    refine D1 hs rfl (A1o (k' := .i64) rfl kR (by show _ < 9223372036854775808; omega)) rfl ?_
    refine D1 hs rfl (A0P (a := a) (b := 32) rfl rfl rfl rfl qD) rfl ?_
    refine D1 hs rfl (K0 (sz := 1) (a := a % 32) rfl rfl kR rfl (hs40.rd (R := B40) fun _ h => h) qO) rfl ?_
    refine F7 hs rfl (A00 (j := a % 32) (u := .int .u8 ((y.sig.getD (a % 32) 0 : Nat) : Int)) (hs40.rd qS) rfl kR (W6 qO)) rfl ?_
    refine fm_ hs ?_
    refine D1 hs rfl (B0p rfl rfl (getD_lt gw4.lt qD) ht) rfl ?_
    refine D1 hs rfl (K0 (sz := 1) (a := a % 32) rfl rfl kR rfl (hs40.rd (R := B40) fun _ h => h) qO) rfl ?_
    refine G5 rfl rfl rfl (B0F (a := a % 32) (u := y.sig.getD (a % 32) 0 ^^^ t) rfl rfl rfl kR hs40 qO qP fun B88 hs88 => ?_)
    refine V3 (nb (nx (D5 9 10) ?_))
    refine S9 (B := B88) qP ?_
    refine S9 (B := [(b10, blk [.int .i64 y.user, .int .i64 y.dev, w1, w2, (vU y.signed), v36, v40, .bool y.has, (vU y.once), w5] 32)]) qP ?_
    refine XC.to (hLT (⟨y.user, y.dev, y.ia, y.ig, y.signed, y.key, (y.sig.set (a % 32) (y.sig.getD (a % 32) 0 ^^^ t)), y.has, y.once, y.oncek⟩, (w1, w2, v36, v40, w5), (L5 bk s).2, MP2, _) ?_) (D5 9 10) (Fit.last qP) qI
    dsimp only
    exact ⟨⟨hra _ qS qS, At.mem, At.mem, hP27⟩, ⟨gw1.mono qS, gw2.mono qS, ⟨hs36.rd qS, gw3.lt, gw3.len⟩, ⟨by rw [List.length_set]; exact hs88.rd qS, fun z hz => by rcases List.mem_or_eq_of_mem_set hz with h | h; exact gw4.lt z h; rw [h]; exact Nat.xor_lt_two_pow (n := 8) (getD_lt gw4.lt qD) ht, by rw [List.length_set]; exact gw4.len⟩, gw5.mono qS⟩, hb1.ar, by omega, by omega, gws, gwo, B5v (n3 (a % 32) qO t qO ht)⟩
   ·
    refine A3 ?_
    refine A4 (F4 false rfl rfl (eqF qO)) rfl ?_
    refine as_ (A0 (I1 2 3 9 10 43 51) ?_)
    refine D3 rfl ?_
    refine A3 ?_
    refine A4 (F4 false rfl rfl (eqF qO)) rfl ?_
    refine as_ (A0 (I1 2 3 9 10 43 64) ?_)
    refine D3 rfl ?_
    refine A3 ?_
    refine A4 (F4 false rfl rfl (eqF qO)) rfl ?_
    refine as_ (A0 (I1 2 3 9 10 43 72) ?_)
    refine D3 rfl ?_
    refine A3 ?_
    refine A4 (F4 true rfl rfl (eqT qO)) rfl ?_
    refine as_ (A0 (E7 2 9 10 89) ?_)
    refine E0 rfl ?_
    refine Y5 (MP2) (_) true (.range 12) (zp 0 [0, 0, 0, 1, 0, 0, 0, 1, 2, 0, 0, 0, 2]) kR kR qP fun hs K n0 hKm hKs hKn => ?_
    refine km_ hs ?_
    refine I8 hs rfl (F9 rfl) rfl ?_
    refine I8 hs rfl (qf_ 1 1) rfl ?_
    refine Q0 hs rfl hKs ql_ ?_
    refine km_ hs ?_
    refine I8 hs rfl (F9 rfl) rfl ?_
    refine I8 hs rfl (qf_ 0 0) rfl ?_
    refine Q0 hs rfl hKs ql_ ?_
    refine K6 _ _ rfl rfl (List.Perm.refl _) hKm fun w0 => (E1 (Mc := MP2) (R := _) (aS rfl (aS rfl (a0))) kR qP (A5Y pb (L5 bk s).2 ka ak va vg vq vo vm rs ro rm MP2 _ (hra _ qS qS) hP27 qO hG.up) rfl ?_)
    rintro v99 M99 J99 ⟨hP99, p99, q99, rfl, hp99, hq99⟩ hKx99
    haveI := hp99.cel
    haveI := hq99.cel
    refine I8 hs rfl (B8t (off := 1) (v := q99) rfl kR rfl) rfl ?_
    refine I8 hs rfl (qf_ 2 2) rfl ?_
    refine I8 hs rfl (qf_ 3 1) rfl ?_
    refine P0 rfl rfl rfl (D6 rfl rfl hq99.one kR SetC.set UpC.upd ?_)
    refine A3x (nb (nx (D5 9 10) ?_))
    have f1 := A09 ak (L5 bk s).2
    have f2 : (idS ak (L5 bk s).2).n = (L5 bk s).2.n := by unfold idS; rw [Z5, Z5]
    refine S9 (B := B40) qP ?_
    refine S9 (B := [(b10, blk [.int .i64 y.user, .int .i64 y.dev, w1, q99, (vU y.signed), v36, v40, .bool y.has, (vU y.once), w5] 32)]) qP ?_
    refine XC.to (hLT (⟨y.user, y.dev, y.ia, (idG ak (L5 bk s).2), y.signed, y.key, y.sig, y.has, y.once, y.oncek⟩, (w1, q99, v36, v40, w5), (idS ak (L5 bk s).2), M99, _) ?_) (D5 9 10) (Fit.last qP) qI
    dsimp only
    exact ⟨⟨hra _ qS qS, At.mem, At.mem, hP99⟩, ⟨gw1.mono qS, hq99.mono qS, ⟨hs36.rd qS, gw3.lt, gw3.len⟩, ⟨hs40.rd qS, gw4.lt, gw4.len⟩, gw5.mono qS⟩, (hb1.ar.pub _).pub _, by omega, by omega, gws, gwo, B5v n4⟩
   ·
    refine A3 ?_
    refine A4 (F4 false rfl rfl (eqF qO)) rfl ?_
    refine as_ (A0 (I1 2 3 9 10 43 51) ?_)
    refine D3 rfl ?_
    refine A3 ?_
    refine A4 (F4 false rfl rfl (eqF qO)) rfl ?_
    refine as_ (A0 (I1 2 3 9 10 43 64) ?_)
    refine D3 rfl ?_
    refine A3 ?_
    refine A4 (F4 false rfl rfl (eqF qO)) rfl ?_
    refine as_ (A0 (I1 2 3 9 10 43 72) ?_)
    refine D3 rfl ?_
    refine A3 ?_
    refine A4 (F4 false rfl rfl (eqF qO)) rfl ?_
    refine as_ (A0 (E7 2 9 10 89) ?_)
    refine D3 rfl ?_
    refine C2 ?_
    refine A4 (qf_ 5 5) rfl ?_
    refine A4 ql_ rfl ?_
    refine mv_ ?_
    refine A4 (A1o (k' := .i64) rfl kR (by show _ < 9223372036854775808; omega)) rfl ?_
    refine A4 (A0P (a := a) (b := 32) rfl rfl rfl rfl qD) rfl ?_
    refine A4 (A6m (sz := 1) (a := a % 32) rfl rfl kR rfl (hs36.rd (R := B36) fun _ h => h) qO) rfl ?_
    refine A4 (qf_ 5 5) rfl ?_
    refine A6 rfl (D6 rfl rfl ((hs36.rd (R := B36) fun _ h => h).hiV (a % 32) qO).one kR SetC.set UpC.upd ?_)
    refine D0 (nb (nx (D5 9 10) ?_))
    refine S9 (B := B40) qP ?_
    refine S9 (B := [(b10, blk [.int .i64 y.user, .int .i64 y.dev, w1, w2, (vU y.signed), (vHi (a % 32) v36), v40, .bool y.has, (vU y.once), w5] 32)]) qP ?_
    refine XC.to (hLT (⟨y.user, y.dev, y.ia, y.ig, y.signed, (y.key.take (a % 32)), y.sig, y.has, y.once, y.oncek⟩, (w1, w2, (vHi (a % 32) v36), v40, w5), (L5 bk s).2, MP2, _) ?_) (D5 9 10) (Fit.last qP) qI
    dsimp only
    exact ⟨⟨hra _ qS qS, At.mem, At.mem, hP27⟩, ⟨gw1.mono qS, gw2.mono qS, (C0b ⟨hs36.rd qS, gw3.lt, gw3.len⟩ qO), ⟨hs40.rd qS, gw4.lt, gw4.len⟩, gw5.mono qS⟩, hb1.ar, by omega, by omega, gws, gwo, C0Y (by rw [List.length_take]; omega)⟩

open Go.Px Go.ChangeShapes Go.WideShapes Go.ChangeAt Go.RowKit
section
variable {H : Type} {enc : TypeId × Value → H} {P : Program} {w : World} {spare : Nat → Bool} {held : Bool} {fuel : Nat} {t e : TypeId} {cs : List Value} {x : DataW H × List MemPlace} {v : Value} {d : DataW H} {p : List MemPlace} {r : Reach} {base : Nat} {k : IntKind}
end
theorem A55 {P : Program} {W : World} {name : String} {g : Nat} {cs : Array Value} (hg : P.globalNamed name = some g) (h : W.var? P name = some cs) : ∃ e fr, W.heap[g]? = some (.cells cs e fr) := by
  unfold World.var? at h
  rw [hg] at h
  simp only [Option.bind_some] at h
  split at h
  · rename_i c e fr hh
    cases h
    exact ⟨e, fr, hh⟩
  · cases h
def B3b (ws : LN) : List Int := ws.map fun n : Nat => (n : Int)
theorem A4S (k : IntKind) (ws : LN) : ((B3b ws).map fun z => Value.int k z).toArray = (nums k ws).toArray := by simp [B3b, nums]
theorem B8N {W : World} {a b : String × DataW Unit} {rest : List (String × DataW Unit)} (h : laidMet Tryz.prog (a :: b :: ("internal/strconv.uint64pow10", Rows.laid_internal_strconv_uint64pow10) :: rest) W) : ∃ e fr, W.heap[2]? = some (Obj.cells (nums .u64 A0R).toArray e fr) := by
  have h' : laidMet Tryz.prog (("internal/strconv.uint64pow10", Lib.tabData .u64 (B3b A0R)) :: rest) W := h.tail.tail
  have h1 := Lib.tabIs_of_head (g := 2) (t := 194) (e := 99) (n := 20) (by kernel_rfl) (by kernel_rfl) (by kernel_rfl) (by kernel_rfl) (by kernel_rfl) (by kernel_rfl) h'
  obtain ⟨ek, fk, h3⟩ := A55 (g := 2) (by kernel_rfl) h1
  rw [A4S] at h3
  exact ⟨ek, fk, h3⟩
end Go.Proofs.YtoigcbkclcbmpaaGreatDoor

namespace Go.Proofs.YtoigcbkclcbmpaaGreatDoor
open Go.Px
theorem C0Z {W : World} {a b : String × DataW Unit} {rest : List (String × DataW Unit)} (h : laidMet Tryz.prog (a :: b :: ("internal/strconv.uint64pow10", Rows.laid_internal_strconv_uint64pow10) :: ("pawl/sha.round", Rows.laid_pawl_sha_round) :: ("pawl/sha.first", Rows.laid_pawl_sha_first) :: rest) W) : Glb (B3P W) := by
  obtain ⟨e4, f4, h4⟩ := B8N h
  have h' : laidMet Tryz.prog (("pawl/sha.round", Lib.tabData .u32 (B3b A0V)) :: ("pawl/sha.first", Lib.tabData .u32 (B3b A0M.list)) :: rest) W := h.tail.tail.tail
  have h1 := Lib.tabIs_of_head (g := 1) (t := 166) (e := 30) (n := 64) (by kernel_rfl) (by kernel_rfl) (by kernel_rfl) (by kernel_rfl) (by kernel_rfl) (by kernel_rfl) h'
  have h2 := Lib.tabIs_of_head (g := 0) (t := 130) (e := 30) (n := 8) (by kernel_rfl) (by kernel_rfl) (by kernel_rfl) (by kernel_rfl) (by kernel_rfl) (by kernel_rfl) h'.tail
  obtain ⟨ek, fk, h3⟩ := A55 (g := 1) (by kernel_rfl) h1
  obtain ⟨ef, ff, h5⟩ := A55 (g := 0) (by kernel_rfl) h2
  rw [A4S] at h3 h5
  exact ⟨⟨ef, ff, A14.2 h5⟩, ⟨ek, fk, A14.2 h3⟩, ⟨e4, f4, A14.2 h4⟩⟩
end Go.Proofs.YtoigcbkclcbmpaaGreatDoor

namespace Go.Proofs.YtoigcbkclcbmpaaGreatDoor.agreeSigned
open Go.ChangeShapes Go.WideShapes Go.ChangeAt Go.RowKit
theorem own : ownKnob Tryz.prog.godebug = none := by kernel_rfl
theorem laidOut : laidOutB Tryz.prog = true := by kernel_rfl
noncomputable def laidWorld (os : Os) : World := World.laidAll Tryz.prog os Rows.agreeSignedRow.laid
theorem laid_met (os : Os) : laidMetH Tryz.prog Rows.agreeSignedRow.laid ((laidWorld os).forCall (fun _ _ => 0) ⟨#[], #[.int .u8 0, .int .u8 0, .int .u8 0, .int .u8 0], []⟩).memory := by
  rw [MakeChecks.laidMetH_plain _ _ _ (by kernel_rfl)]; exact laidMet_laidAll _ (by kernel_rfl) (by kernel_rfl)
theorem reads (os : Os) {H : Type} (enc : TypeId × Value → H) : ∃ places, DataW.whole enc Tryz.prog ((laidWorld os).forCall (fun _ _ => 0) ⟨#[], #[.int .u8 0, .int .u8 0, .int .u8 0, .int .u8 0], []⟩).memory Tryz.f3.params.toList Rows.agreeSignedSpec.vars false (#[.int .u8 0, .int .u8 0, .int .u8 0, .int .u8 0] : Array Value).toList 8 = some ([.lit (.int .u8 0), .lit (.int .u8 0), .lit (.int .u8 0), .lit (.int .u8 0)], [], places) :=
  ⟨[], by kernel_rfl⟩
theorem lifted (os : Os) (started : os.Started) (H : Type) (enc : TypeId × Value → H) (F : Stop.Interp) :
    ReturnsInHanded {} Tryz.checked os 3 .any ((OpenSpec.ofChange Rows.agreeSignedSpec).preRow enc Tryz.prog Tryz.f3 Rows.agreeSignedRow.domain false Rows.agreeSignedRow.laid) (((OpenSpec.ofChange Rows.agreeSignedSpec).at F).post enc Tryz.prog Tryz.f3 false true false false) := by
  obtain ⟨places, hx⟩ := reads os enc
  refine returnsInHanded_of_row (C := Tryz.checked) (s := (OpenSpec.ofChange Rows.agreeSignedSpec)) own started (by kernel_rfl) Tryz.func3
    (witness_row_at (enc := enc) (C := Tryz.checked) false (laidWorld os) #[.int .u8 0, .int .u8 0, .int .u8 0, .int .u8 0] (World.laidAll_os _ _ _) (by kernel_rfl) (by kernel_rfl) (by kernel_rfl)
      (OpenSpec.preRow_of_cond 8 hx (by kernel_rfl) (fun k hk => by cases hk) (by kernel_rfl) (laid_met os))) ?_
  intro W base args ds gs before hval0 hW _ _ _ hL _ _
  have hval : ∀ (j : Nat) t v, Tryz.f3.params[j]? = some t → args[j]? = some v → Value.okWide Tryz.prog W .any base t v := hval0
  have hW' := hW
  obtain ⟨p, q, hA0, hV, rfl, hfz, hnd⟩ := hW
  have hA : DataW.TrodAll enc Tryz.prog W 0 (fun _ => true) true Tryz.f3.params.toList args.toList ds p := hA0
  rw [Tryz.params3] at hA hval
  obtain ⟨v0, vs0, d0, ds0, p0, q0, hargs, rfl, rfl, k0, r0_⟩ := trodAll_cons hA
  obtain ⟨v1, vs1, d1, ds1, p1, q1, rfl, rfl, rfl, k1, r1_⟩ := trodAll_cons r0_
  obtain ⟨v2, vs2, d2, ds2, p2, q2, rfl, rfl, rfl, k2, r2_⟩ := trodAll_cons r1_
  obtain ⟨v3, vs3, d3, ds3, p3, q3, rfl, rfl, rfl, k3, r3_⟩ := trodAll_cons r2_
  obtain ⟨rfl, rfl, rfl⟩ := trodAll_nil r3_
  obtain rfl : args = #[v0, v1, v2, v3] := by cases args; simp_all
  obtain ⟨rfl, rfl⟩ := trodVars_none hV
  have lt0 : ∀ x ∈ p0, x.block < W.heap.size := by obtain ⟨m, hm⟩ := k0; exact DataW.trod_lt m _ _ _ hm
  have lt1 : ∀ x ∈ p1, x.block < W.heap.size := by obtain ⟨m, hm⟩ := k1; exact DataW.trod_lt m _ _ _ hm
  have lt2 : ∀ x ∈ p2, x.block < W.heap.size := by obtain ⟨m, hm⟩ := k2; exact DataW.trod_lt m _ _ _ hm
  have lt3 : ∀ x ∈ p3, x.block < W.heap.size := by obtain ⟨m, hm⟩ := k3; exact DataW.trod_lt m _ _ _ hm
  obtain ⟨x0, rfl, hx0⟩ := Px.inU Tryz.underlying5 rfl (hval 0 5 v0 rfl rfl) k0
  obtain ⟨x1, rfl, hx1⟩ := Px.inU Tryz.underlying5 rfl (hval 1 5 v1 rfl rfl) k1
  obtain ⟨x2, rfl, hx2⟩ := Px.inU Tryz.underlying5 rfl (hval 2 5 v2 rfl rfl) k2
  obtain ⟨x3, rfl, hx3⟩ := Px.inU Tryz.underlying5 rfl (hval 3 5 v3 rfl rfl) k3
  clear hA0 hval0
  rw [MakeChecks.laidMetH_plain _ _ _ (by kernel_rfl)] at hL
  have hG := C0Z hL
  refine Calls.mono ((A54 x0 x1 x2 x3 _ hx0 hx1 hx2 hx3 hG).calls (Px.heapA_fx W)) fun e W' ⟨he, bel⟩ => ?_
  subst he
  exact ⟨_, rfl, _, _, _, [], _, [], hW', trodAll_mk1 (shut_bool Tryz.underlying4 _), (trodAll_cons_mk (Below.trod laidOut (by kernel_rfl) (of_decide_eq_true (by kernel_rfl)) k0 bel lt0) (trodAll_cons_mk (Below.trod laidOut (by kernel_rfl) (of_decide_eq_true (by kernel_rfl)) k1 bel lt1) (trodAll_cons_mk (Below.trod laidOut (by kernel_rfl) (of_decide_eq_true (by kernel_rfl)) k2 bel lt2) (trodAll_cons_mk (Below.trod laidOut (by kernel_rfl) (of_decide_eq_true (by kernel_rfl)) k3 bel lt3) trodAll_mk0)))), rfl, bel.frame _, fun h => by cases h⟩
theorem said : Rows.AgreeSignedSaid :=
  OpenClaim.holds_of_cond 3 Tryz.f3 rfl rfl rfl rfl rfl rfl rfl ⟨rfl, rfl, rfl, rfl, rfl⟩ rfl rfl rfl rfl rfl (by kernel_rfl) Tryz.func3 (by kernel_rfl)
    (of_decide_eq_true (by kernel_rfl)) (by unfold Func.isWrapper; first | (rw [if_pos (by decide +kernel)]; kernel_rfl) | (rw [if_neg (by decide +kernel)]; exact ⟨rfl, rfl⟩))
    (fun os started H enc _ F => by rw [OpenClaim.pre_eq_preRow]; exact lifted os started H enc F)
theorem plain (f : FuncId) (fn : Func) (hf : Tryz.pinned.checked.prog.funcNamed "pawl/pawllaw13.AgreeSigned" = some f) (hfn : Tryz.pinned.checked.prog.funcs[f]? = some fn) :
    false = Tryz.pinned.checked.prog.looks [] ∧ ∀ (j : Nat) t, fn.params[j]? = some t → Tryz.pinned.checked.prog.wantsStandIn t = false := by
  obtain rfl : f = 3 := Option.some.inj ((show Tryz.prog.funcNamed "pawl/pawllaw13.AgreeSigned" = some 3 by kernel_rfl).symm.trans hf) |>.symm
  obtain rfl : fn = Tryz.f3 := (Option.some.inj (Tryz.func3.symm.trans hfn)).symm
  refine ⟨by kernel_rfl, fun j t ht => ?_⟩
  rw [Tryz.params3] at ht
  have hm := Array.mem_of_getElem? ht
  simp only [List.mem_toArray, List.mem_cons, List.not_mem_nil, or_false] at hm
  rcases hm with rfl | rfl | rfl | rfl
  · exact (show Tryz.prog.wantsStandIn 5 = false by kernel_rfl)
  · exact (show Tryz.prog.wantsStandIn 5 = false by kernel_rfl)
  · exact (show Tryz.prog.wantsStandIn 5 = false by kernel_rfl)
  · exact (show Tryz.prog.wantsStandIn 5 = false by kernel_rfl)
theorem proved : Rows.AgreeSignedCardSaid :=
  Claim7.holds_tied_plain_at .later [] _ _ _ _ said (fun _ h => by cases h) (by kernel_rfl) (fun _ h => by cases h) agreeSigned_row_tie rfl ⟨rfl, rfl⟩ (by kernel_rfl) rfl plain (by kernel_rfl)
#print axioms proved
end Go.Proofs.YtoigcbkclcbmpaaGreatDoor.agreeSigned

