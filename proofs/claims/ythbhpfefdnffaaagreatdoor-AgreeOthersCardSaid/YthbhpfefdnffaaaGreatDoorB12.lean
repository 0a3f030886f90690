/- Part 12 of the texts of this claim, one behind the other. -/
import Derived.Test.YthbhpfefdnffaaaGreatDoorB11
import Derived.Test.YthbhpfefdnffaaaGreatDoorRows
set_option linter.unusedVariables false
set_option linter.unusedSimpArgs false
set_option maxRecDepth 100000
namespace Go.Px
theorem A5c {P : Program} {R : Mem} {l : Env} {d : Option Nat} {ty : TypeId} {pos : String} {af : Array Edge} {g : Option (Nat × Bool)} {fn : Fn} {xs : List Operand} {vs : List Value} (hx : Evs l xs vs) :
    OpQ P R ⟨d, .makeFunc fn #[] xs.toArray, ty, pos, af, g⟩ l (.func fn #[] vs.toArray) := fun N a w ha hw => by
  have e : xs.toArray.map a.eval = vs.toArray := by simp [hx.map ha]
  simp only [execOp, e]
  simp [Instr.makeFunc]
section call
variable {C : Cx} {l : Env} {M J : Mem} {K : Env → Mem → Mem → Prop} {d : Nat} {ty : TypeId} {pos : String} {af : Array Edge} {g : Option (Nat × Bool)} {x : Operand} {f : FuncId} {xs : List Operand} {vs cs : List Value} {ts : Array TypeId}
theorem B6J {Mc R : Mem} {post : Value → Mem → Mem → Prop} (h0 : ev l x = some (.func (.func f) #[] cs.toArray)) (hx : Evs l xs vs) (hc : K2 C.P f = true)
    (hM : M.Perm (Mc ++ R)) (hf : FnX C.P f (vs ++ cs) Mc (R ++ (J ++ C.A)) post) (hd : Nat.blt d C.N = true) (k : ∀ v M' J', post v M' J' → K ((d, v) :: l) (M' ++ R) (J' ++ J)) :
    OpL C ⟨some d, .call { callee := .value x, args := xs.toArray, argTypes := ts }, ty, pos, af, g⟩ l M J K := by
  intro Qp a w ha hw
  have hrun : (execOp a.eval ⟨some d, .call { callee := .value x, args := xs.toArray, argTypes := ts }, ty, pos, af, g⟩).run C.P w = .ok (.enter f (vs ++ cs).toArray) w := by
    have e : xs.toArray.map a.eval = vs.toArray := by simp [hx.map ha]
    simp only [execOp, resolve, e, Sem.run_bind, ha.ev h0]
    simp [Deferred.ofValue, invoke, A7N hc]
  unfold Oper.wp
  rw [hrun]
  refine Calls.mono (hf w (hw.callee hM)) ?_
  rintro e w' ⟨v, M', J', rfl, hp, hs⟩
  exact ⟨_, _, _, ha.put (C7 hd) v, hw.back hM hs, k v M' J' hp⟩
theorem A1X {v : Value} (h0 : ev l x = some (.func (.func f) #[] cs.toArray)) (hx : Evs l xs vs) (hc : K2 C.P f = true) (hf : FnV C.P f (vs ++ cs) (M ++ (J ++ C.A)) v) (hd : Nat.blt d C.N = true) (k : K ((d, v) :: l) M J) :
    OpL C ⟨some d, .call { callee := .value x, args := xs.toArray, argTypes := ts }, ty, pos, af, g⟩ l M J K :=
  B6J (Mc := []) (R := M) h0 hx hc (.refl _) hf hd fun r M' J' ⟨e, h1, h2⟩ => by subst e; subst h1; subst h2; exact k
end call
def A6M (p : Nat → Bool) (n : Nat) : Int := match (List.range n).find? p with
  | some i => (i : Int)
  | none => -1
theorem A1Y {p : Nat → Bool} {n i : Nat} (hi : i < n) (h0 : ∀ j, j < i → p j = false) (h : p i = true) : A6M p n = (i : Int) := by
  unfold A6M
  have : (List.range n).find? p = some i := by
    rw [List.find?_range_eq_some]
    exact ⟨h, List.mem_range.2 hi, fun j hj => by rw [h0 j hj]; rfl⟩
  rw [this]
theorem A1Z {p : Nat → Bool} {n : Nat} (h0 : ∀ j, j < n → p j = false) : A6M p n = -1 := by
  unfold A6M
  have : (List.range n).find? p = none := by
    rw [List.find?_eq_none]
    intro j hj
    rw [h0 j (List.mem_range.1 hj)]; decide
  rw [this]
theorem A2g (p : Nat → Bool) (n : Nat) : (A6M p n = -1 ∧ ∀ j, j < n → p j = false) ∨ ∃ i, i < n ∧ A6M p n = (i : Int) ∧ p i = true ∧ ∀ j, j < i → p j = false := by
  cases h : (List.range n).find? p with
  | none =>
    have h1 : ∀ j, j < n → p j = false := fun j hj => by
      have := List.find?_eq_none.1 h j (List.mem_range.2 hj)
      simpa using this
    exact .inl ⟨A1Z h1, h1⟩
  | some i =>
    obtain ⟨h1, h2, h3⟩ := List.find?_range_eq_some.1 h
    have h4 : ∀ j, j < i → p j = false := fun j hj => by simpa using h3 j hj
    exact .inr ⟨i, List.mem_range.1 h2, A1Y (List.mem_range.1 h2) h4 h1, h1, h4⟩
structure RowT {α : Type} (sz : Nat) (φ : Mem → α → List Value → Prop) : Prop where
  mono : ∀ R R' x r, (∀ q, q ∈ R → q ∈ R') → φ R x r → φ R' x r
  len : ∀ R x r, φ R x r → r.length = sz
  one : ∀ R x r, φ R x r → ∀ c ∈ r, c.oneCell' = true
structure RwL {α : Type} (φ : Mem → α → List Value → Prop) (R : Mem) (rows : List (List Value)) (xs : List α) : Prop where
  len : rows.length = xs.length
  get : ∀ (j : Nat) (x : α), xs[j]? = some x → ∃ r, rows[j]? = some r ∧ φ R x r
section rows
variable {α : Type} {sz : Nat} {φ : Mem → α → List Value → Prop} {R R' : Mem} {rows : List (List Value)} {xs : List α} {x : α} {r : List Value}
theorem RwL.mono (hφ : RowT sz φ) (h : RwL φ R rows xs) (hR : ∀ q, q ∈ R → q ∈ R') : RwL φ R' rows xs := ⟨h.len, fun j x hj => by
  obtain ⟨r, h1, h2⟩ := h.get j x hj
  exact ⟨r, h1, hφ.mono _ _ _ _ hR h2⟩⟩
theorem RwL.nil : RwL φ R [] [] := ⟨rfl, fun j x h => by simp at h⟩
theorem RwL.of (h : RwL φ R rows xs) {j : Nat} (hr : rows[j]? = some r) : ∃ x, xs[j]? = some x ∧ φ R x r := by
  have hj : j < xs.length := by rw [← h.len]; exact (List.getElem?_eq_some_iff.1 hr).1
  obtain ⟨r', h1, h2⟩ := h.get j xs[j] (List.getElem?_eq_getElem hj)
  rw [hr] at h1
  cases h1
  exact ⟨_, List.getElem?_eq_getElem hj, h2⟩
theorem RwL.lens (hφ : RowT sz φ) (h : RwL φ R rows xs) : ∀ r ∈ rows, r.length = sz := by
  intro r hr
  obtain ⟨j, hj⟩ := List.getElem?_of_mem hr
  obtain ⟨x, _, h2⟩ := h.of hj
  exact hφ.len _ _ _ h2
theorem RwL.ones (hφ : RowT sz φ) (h : RwL φ R rows xs) : ∀ c ∈ rows.flatten, c.oneCell' = true := by
  intro c hc
  obtain ⟨r, hr, hc⟩ := List.mem_flatten.1 hc
  obtain ⟨j, hj⟩ := List.getElem?_of_mem hr
  obtain ⟨x, _, h2⟩ := h.of hj
  exact hφ.one _ _ _ h2 c hc
theorem RwL.snoc (h : RwL φ R rows xs) (hx : φ R x r) : RwL φ R (rows ++ [r]) (xs ++ [x]) := ⟨by simp [h.len], fun j y hj => by
  by_cases hlt : j < xs.length
  · rw [List.getElem?_append_left hlt] at hj
    obtain ⟨r', h1, h2⟩ := h.get j y hj
    exact ⟨r', by rw [List.getElem?_append_left (List.getElem?_eq_some_iff.1 h1).1]; exact h1, h2⟩
  · rw [List.getElem?_append_right (by omega)] at hj
    have hj0 : j = xs.length := by
      have := (List.getElem?_eq_some_iff.1 hj).1
      simp at this; omega
    subst hj0
    simp at hj
    subst hj
    exact ⟨r, by rw [List.getElem?_append_right (by rw [h.len]; omega), h.len]; simp, hx⟩⟩
theorem RwL.app {rows' : List (List Value)} {xs' : List α} (h : RwL φ R rows xs) (h' : RwL φ R rows' xs') : RwL φ R (rows ++ rows') (xs ++ xs') := ⟨by simp [h.len, h'.len], fun j y hj => by
  by_cases hlt : j < xs.length
  · rw [List.getElem?_append_left hlt] at hj
    obtain ⟨r', h1, h2⟩ := h.get j y hj
    exact ⟨r', by rw [List.getElem?_append_left (List.getElem?_eq_some_iff.1 h1).1]; exact h1, h2⟩
  · rw [List.getElem?_append_right (by omega)] at hj
    obtain ⟨r', h1, h2⟩ := h'.get _ y hj
    exact ⟨r', by rw [List.getElem?_append_right (by rw [h.len]; omega), h.len]; exact h1, h2⟩⟩
theorem RwL.cons (hx : φ R x r) (h : RwL φ R rows xs) : RwL φ R (r :: rows) (x :: xs) := ⟨by simp [h.len], fun j y hj => by
  cases j with
  | zero => simp at hj; subst hj; exact ⟨r, rfl, hx⟩
  | succ j => exact h.get j y hj⟩
theorem RwL.take (h : RwL φ R rows xs) (k : Nat) : RwL φ R (rows.take k) (xs.take k) := ⟨by simp [h.len], fun j y hj => by
  have hk : j < k := by
    rcases Nat.lt_or_ge j k with h | h
    · exact h
    · rw [List.getElem?_eq_none (by simp; omega)] at hj; cases hj
  rw [List.getElem?_take_of_lt hk] at hj ⊢
  exact h.get j y hj⟩
theorem RwL.drop (h : RwL φ R rows xs) (k : Nat) : RwL φ R (rows.drop k) (xs.drop k) := ⟨by simp [h.len], fun j y hj => by
  rw [List.getElem?_drop] at hj ⊢
  exact h.get _ y hj⟩
end rows
def A1u {α : Type} (q : α → Bool) (xs : List α) : Int := A6M (fun j => (xs[j]?.map q).getD false) xs.length
theorem A0z {α : Type} (q : α → Bool) (xs : List α) : (A1u q xs = -1 ∧ ∀ x ∈ xs, q x = false) ∨ ∃ (i : Nat) (x : α), A1u q xs = (i : Int) ∧ xs[i]? = some x ∧ q x = true ∧ ∀ (j : Nat) (y : α), j < i → xs[j]? = some y → q y = false := by
  rcases A2g (fun j => (xs[j]?.map q).getD false) xs.length with ⟨h1, h2⟩ | ⟨i, h1, h2, h3, h4⟩
  · refine .inl ⟨h1, fun x hx => ?_⟩
    obtain ⟨j, hj⟩ := List.getElem?_of_mem hx
    have := h2 j (List.getElem?_eq_some_iff.1 hj).1
    rw [hj] at this
    exact this
  · refine .inr ⟨i, xs[i], h2, List.getElem?_eq_getElem h1, ?_, fun j y hj hy => ?_⟩
    · rw [List.getElem?_eq_getElem h1] at h3
      exact h3
    · have := h4 j hj
      rw [hy] at this
      exact this
end Go.Px

namespace Go.Px
def mkB (P : Program) (t : TypeId) : Option (TypeId × Nat) :=
  match P.underlying t with
  | some (.slice e) => match P.info? e with
    | some i => match i.zero with
      | some (.bool false) => if i.size = 1 then some (e, i.bytes) else none
      | _ => none
    | none => none
  | _ => none
def B8O (h : List Bool) : List Value := h.map .bool
@[simp] theorem bools_len (h : List Bool) : (B8O h).length = h.length := by simp [B8O]
def appB (P : Program) (t tn : TypeId) : Option (TypeId × Nat) :=
  match P.underlying tn with
  | some (.int _) => mkB P t
  | _ => none
section zb
variable {C : Cx} {l : Env} {M J : Mem} {K : Env → Mem → Mem → Prop} {d : Nat} {ty t tn e : TypeId} {pos : String} {af : Array Edge} {g : Option (Nat × Bool)} {x y : Operand}
end zb
theorem C0l {C : Cx} {l : Env} {M J : Mem} {K : Env → Mem → Mem → Prop} {ty t : TypeId} {pos : String} {af : Array Edge} {g : Option (Nat × Bool)} {x y : Operand} {v u : Value} {xs : List Value} {n j : Nat} {B M0 : Mem} (h : Sl 1 v n xs B) (hx : ev l x = some (vAt 1 j v)) (hy : ev l y = some u) (h1 : u.oneCell' = true)
    (ht : N8 C.P t = some 1) (hj : j < n) (hM : M.Perm (B ++ M0)) (h2 : ∀ B', Sl 1 v n (xs.set j u) B' → K l (B' ++ M0) J) :
    OpL C ⟨none, .store t x y, ty, pos, af, g⟩ l M J K := by
  suffices hh : OpL C ⟨none, .store t x y, ty, pos, af, g⟩ l (B ++ M0) J K from fun Qp a w ha hw => hh Qp a w ha (hw.fit (Fit.perm hM) fun _ h => h)
  clear hM
  rcases h with ⟨p, rfl, rfl, hx2, rfl⟩ | ⟨b, o, cap, cs, e, rfl, rfl, h3, h4, h5, h6, h7⟩
  · omega
  · simp only [vAt, Addr.add_mid, Nat.mul_one] at hx
    refine D9 hx hy h1 ht (A2F (by omega)) .hd (h2 [_] (.inr ⟨b, o, cap, _, e, rfl, rfl, h3, h4, by simpa using h5, by simpa using h6, ?_⟩))
    intro i w hi
    rw [List.getElem?_set] at hi ⊢
    by_cases hij : j = i
    · subst hij
      simp only [if_true] at hi ⊢
      simp at hi h6
      rw [if_pos (by omega)]
      rw [← hi.2]
    · rw [if_neg hij] at hi
      rw [if_neg (by omega)]
      exact h7 i w hi
section call
variable {C : Cx} {l : Env} {M J : Mem} {K : Env → Mem → Mem → Prop} {d : Nat} {ty : TypeId} {pos : String} {af : Array Edge} {g : Option (Nat × Bool)} {x : Operand} {f : FuncId} {xs : List Operand} {us vs cs : List Value} {ts : Array TypeId}
end call
end Go.Px

namespace Go.Proofs.YthbhpfefdnffaaaGreatDoor
open Go.Px
def pSt (P : Pt) (n i : Nat) (Q : Pt) : Pt := if n / 2 ^ i % 2 = 1 then A6q d2N (A6q d2N Q Q) P else A6q d2N Q Q
def itr (f : Nat → Pt → Pt) (z : Pt) : Nat → Pt
  | 0 => z
  | k + 1 => f k (itr f z k)
theorem B3v (f : Nat → Pt → Pt) (z : Pt) (k : Nat) : itr f z (k + 1) = f k (itr f z k) := rfl
def pTk (P : Pt) (n : Nat) (k : Nat) : Pt := itr (fun k Q => pSt P n (255 - k) Q) pO k
theorem B3w (P : Pt) (n : Nat) : pTk P n 0 = pO := rfl
theorem A8s (P : Pt) (n k : Nat) : pTk P n (k + 1) = pSt P n (255 - k) (pTk P n k) := B3v _ _ _
def V2 (P : Pt) (n : Nat) : Pt := pTk P n 256
theorem A7m {P Q : Pt} {n i : Nat} (h : n / 2 ^ i % 2 = 1) : pSt P n i Q = A6q d2N (A6q d2N Q Q) P := if_pos h
theorem A7n {P Q : Pt} {n i : Nat} (h : ¬ n / 2 ^ i % 2 = 1) : pSt P n i Q = A6q d2N Q Q := if_neg h
theorem tk1 {i : Nat} (h : i < 256) : 256 - i = (256 - (i + 1)) + 1 := by omega
theorem tk2 {i : Nat} (h : i < 256) : 255 - (256 - (i + 1)) = i := by omega
theorem tk3 {P : Pt} {n i : Nat} (h : i < 256) : pTk P n (256 - i) = pTk P n ((256 - (i + 1)) + 1) := congrArg (pTk P n) (tk1 h)
theorem tk4 {P : Pt} {n i : Nat} : pTk P n ((256 - (i + 1)) + 1) = pSt P n (255 - (256 - (i + 1))) (pTk P n (256 - (i + 1))) := A8s P n _
theorem tk5 {P : Pt} {n i : Nat} (h : i < 256) : pSt P n (255 - (256 - (i + 1))) (pTk P n (256 - (i + 1))) = pSt P n i (pTk P n (256 - (i + 1))) := congrArg (fun j => pSt P n j (pTk P n (256 - (i + 1)))) (tk2 h)
theorem A8t {P : Pt} {n i : Nat} (h : i < 256) : pTk P n (256 - i) = pSt P n i (pTk P n (256 - (i + 1))) := (tk3 h).trans (tk4.trans (tk5 h))
noncomputable def pB (P : Pt) : List Nat :=
  if fM P.X (fI P.Z) % 2 = 1 then (W3 8 32 (fM P.Y (fI P.Z)) 255).set 31 ((W3 8 32 (fM P.Y (fI P.Z)) 255).getD 31 0 ||| 128) else W3 8 32 (fM P.Y (fI P.Z)) 255
theorem B4Z (P : Pt) : (pB P).length = 32 := by unfold pB; split <;> simp [L1]
theorem C0m {x : Nat} (h : x < 256) : (x ||| 128) < 256 := Nat.or_lt_two_pow (n := 8) h (by decide)
theorem B3x (P : Pt) : ∀ x ∈ pB P, x < 256 := by
  intro x hx
  unfold pB at hx
  split at hx
  · rcases List.mem_or_eq_of_mem_set hx with h | rfl
    · exact A0w _ _ x h
    · exact C0m (getD_lt (A0w _ _) (by decide))
  · exact A0w _ _ x hx
theorem A6r {k : IntKind} {a b : List Nat} (h : nums k a = nums k b) : a = b := by
  unfold nums at h
  induction a generalizing b with
  | nil => cases b with
    | nil => rfl
    | cons y b => simp at h
  | cons x a ih => cases b with
    | nil => simp at h
    | cons y b =>
      simp only [List.map_cons, List.cons.injEq, Value.int.injEq, true_and] at h
      rw [ih h.2, Int.ofNat.inj h.1]
theorem A9l {a b : List Nat} (h : Value.agg (nums .u64 a).toArray = .agg (nums .u64 b).toArray) : b = a := by
  have h1 : nums .u64 a = nums .u64 b := by simpa using h
  exact (A6r h1).symm
theorem A5d (V : Value) (P : Pt) (es : List Nat) (hP : FeP V P) (hes : es.length = 32) (he256 : ∀ y ∈ es, y < 256) (A : Mem) : FnX Tryz.prog 140 [V, .agg (nums .u8 es).toArray] [] A fun r M J => M = [] ∧ J = [] ∧ FeP r (V2 P (bv es)) := by
 have hP0 := hP
 obtain ⟨xsp, rfl, p0, p1, p2, p3, p4, p5, p6, p7, p8, p9, p10, p11, p12, p13, p14, p15, p16, p17, p18, p19, rfl, hpX, hpY, hpZ, hpT⟩ := hP
 dsimp only [nums, List.map]
 refine FnX.enter (N := 34) Tryz.func140 rfl rfl rfl fun w => ?_
 refine C4 (D5 0 1) (A3 ?_)
 refine A6 rfl (bx_ fun b2 => ?_)
 refine A6 rfl (bx_ fun b3 => ?_)
 refine A6 rfl (C5 (cs := [A7, A7, A7, A7, A7, A7, A7, A7, A7, A7, A7, A7, A7, A7, A7, A7, A7, A7, A7, A7]) kR rfl fun b4 => ?_)
 refine A0 (E1 2 3 4) (A3 ?_)
 refine C9 a0 kR (B3s _) rfl ?_
 rintro r1 M1 J1 ⟨rfl, rfl, hO⟩
 have hO0 := hO
 obtain ⟨xso, rfl, o0, o1, o2, o3, o4, o5, o6, o7, o8, o9, o10, o11, o12, o13, o14, o15, o16, o17, o18, o19, rfl, hoX, hoY, hoZ, hoT⟩ := hO
 dsimp only [nums, List.map]
 refine C9 (aS rfl a0) kR (A0I 2 (by decide) _) rfl ?_
 rintro rw2 Mw2 Jw2 ⟨rfl, rfl, kw2⟩
 have hw2 := kw2
 obtain ⟨aw2, bw2, cw2, dw2, ew2, rfl, -⟩ := kw2
 refine C9 a0 kR (A7g _) rfl ?_
 rintro rw3 Mw3 Jw3 ⟨rfl, rfl, kw3⟩
 have hw3 := kw3
 obtain ⟨aw3, bw3, cw3, dw3, ew3, rfl, -⟩ := kw3
 refine C9 (aS rfl (aS rfl a0)) kR (R7 hw2 hw3 _) rfl ?_
 rintro rd Md Jd ⟨rfl, rfl, kd⟩
 rw [B6B] at kd
 have hd := kd
 obtain ⟨ad, bd, cd, dd, ed, rfl, -⟩ := kd
 refine A6 rfl (C5 (cs := [A7, A7, A7, A7, A7, A7, A7, A7, A7, A7, A7, A7, A7, A7, A7, A7, A7, A7, A7, A7]) kR rfl fun b5 => ?_)
 refine A6 rfl (C5 (cs := [A7, A7, A7, A7, A7]) kR rfl fun b6 => ?_)
 refine A6 rfl (A8 rfl rfl Cel.cel kR A2L A2M UpC.upd ?_)
 refine A6 rfl (A8 rfl rfl Cel.cel kR ln5 al5 UpC.upd ?_)
 refine A0 (F7 2 3 4 5 6) (A5 (A3 (as_ (A0 (I5 2 3 4 5 6 7) (C0 ?_)))))
 refine A0B (M' := [(b6, blk [.int .u64 (ad : Int), .int .u64 (bd : Int), .int .u64 (cd : Int), .int .u64 (dd : Int), .int .u64 (ed : Int)] 205), (b5, blk (nums .u64 [o0, o1, o2, o3, o4, o5, o6, o7, o8, o9, o10, o11, o12, o13, o14, o15, o16, o17, o18, o19]) 218), (b4, blk [.int .u64 0, .int .u64 0, .int .u64 0, .int .u64 0, .int .u64 0, .int .u64 0, .int .u64 0, .int .u64 0, .int .u64 0, .int .u64 0, .int .u64 0, .int .u64 0, .int .u64 0, .int .u64 0, .int .u64 0, .int .u64 0, .int .u64 0, .int .u64 0, .int .u64 0, .int .u64 0] 218), (b3, blk (nums .u8 es) 202), (b2, blk [.int .u64 (p0 : Int), .int .u64 (p1 : Int), .int .u64 (p2 : Int), .int .u64 (p3 : Int), .int .u64 (p4 : Int), .int .u64 (p5 : Int), .int .u64 (p6 : Int), .int .u64 (p7 : Int), .int .u64 (p8 : Int), .int .u64 (p9 : Int), .int .u64 (p10 : Int), .int .u64 (p11 : Int), .int .u64 (p12 : Int), .int .u64 (p13 : Int), .int .u64 (p14 : Int), .int .u64 (p15 : Int), .int .u64 (p16 : Int), .int .u64 (p17 : Int), .int .u64 (p18 : Int), .int .u64 (p19 : Int)] 218)]) (Fit.eq rfl) (fun _ h => h) ?_
 refine F2 (α := Nat × List Nat) (fun y => [(2, .pointer (some ⟨b2, 0, none⟩)), (3, .pointer (some ⟨b3, 0, none⟩)), (4, .pointer (some ⟨b4, 0, none⟩)), (5, .pointer (some ⟨b5, 0, none⟩)), (6, .pointer (some ⟨b6, 0, none⟩)), (7, .int .i64 ((y.1 : Int) - 1))]) (fun y => [(b6, blk [.int .u64 (ad : Int), .int .u64 (bd : Int), .int .u64 (cd : Int), .int .u64 (dd : Int), .int .u64 (ed : Int)] 205), (b5, blk (nums .u64 y.2) 218), (b4, blk [.int .u64 0, .int .u64 0, .int .u64 0, .int .u64 0, .int .u64 0, .int .u64 0, .int .u64 0, .int .u64 0, .int .u64 0, .int .u64 0, .int .u64 0, .int .u64 0, .int .u64 0, .int .u64 0, .int .u64 0, .int .u64 0, .int .u64 0, .int .u64 0, .int .u64 0, .int .u64 0] 218), (b3, blk (nums .u8 es) 202), (b2, blk [.int .u64 (p0 : Int), .int .u64 (p1 : Int), .int .u64 (p2 : Int), .int .u64 (p3 : Int), .int .u64 (p4 : Int), .int .u64 (p5 : Int), .int .u64 (p6 : Int), .int .u64 (p7 : Int), .int .u64 (p8 : Int), .int .u64 (p9 : Int), .int .u64 (p10 : Int), .int .u64 (p11 : Int), .int .u64 (p12 : Int), .int .u64 (p13 : Int), .int .u64 (p14 : Int), .int .u64 (p15 : Int), .int .u64 (p16 : Int), .int .u64 (p17 : Int), .int .u64 (p18 : Int), .int .u64 (p19 : Int)] 218)]) (fun _ => []) (fun y => y.1 ≤ 256 ∧ FeP (.agg (nums .u64 y.2).toArray) (pTk P (bv es) (256 - y.1))) (fun y => y.1) (256, [o0, o1, o2, o3, o4, o5, o6, o7, o8, o9, o10, o11, o12, o13, o14, o15, o16, o17, o18, o19]) ⟨Nat.le_refl _, by show FeP _ (pTk P (bv es) (256 - 256)); rw [Nat.sub_self, B3w]; exact hO0⟩ (I5 2 3 4 5 6 7) .rfl (fun _ h => h) ?_
 clear hO0 hoX hoY hoZ hoT
 rintro ⟨j, zs⟩ ⟨hj, ho⟩
 dsimp only at hj ho ⊢
 have ho0 := ho
 obtain ⟨zs_, e_, z0, z1, z2, z3, z4, z5, z6, z7, z8, z9, z10, z11, z12, z13, z14, z15, z16, z17, z18, z19, rfl, hzX, hzY, hzZ, hzT⟩ := ho
 obtain rfl := A9l e_
 refine A5 (A3 (mv_ ?_))
 refine A4 (F1 rfl rfl rfl) rfl ?_
 refine A0 (X3 2 3 4 5 6 7 13) ?_
 refine C8 rfl (fun hc => ?_) (fun hc => ?_)
 ·
  have hj0 : 0 < j := by simp at hc; omega
  obtain ⟨i, rfl⟩ : ∃ i, j = i + 1 := ⟨j - 1, by omega⟩
  rw [show (((i + 1 : Nat) : Int) - 1) = (i : Int) by omega]
  have hts := A8t (P := P) (n := bv es) (show i < 256 by omega)
  have hbit := A6j he256 i
  have hpb : es.getD (i / 8) 0 < 256 := getD_lt he256 (by decide)
  refine A9 (nx (I5 2 3 4 5 6 7) (A5 (C0 (A3 ?_))))
  refine A4 (qw_ 20) rfl ?_
  refine A4 (qw_ 20) rfl ?_
  refine A4 (qw_ 5) rfl ?_
  refine C9 (aS rfl (aS rfl (aS rfl a0))) kR (B0U _ _ _ _ _ d2N ho0 ho0 hd _) rfl ?_
  rintro r5 M5 J5 ⟨rfl, rfl, k5⟩
  have h5 := k5
  obtain ⟨xss, rfl, s0, s1, s2, s3, s4, s5, s6, s7, s8, s9, s10, s11, s12, s13, s14, s15, s16, s17, s18, s19, rfl, hsX, hsY, hsZ, hsT⟩ := k5
  dsimp only [nums, List.map]
  refine A6 rfl (A8 rfl rfl Cel.cel kR A2L A2M UpC.upd ?_)
  refine A0 (I5 2 3 4 5 6 7) (A3 (mv_ ?_))
  refine A4 (A0P 8 rfl rfl rfl (by decide) (A19 (by omega))) rfl ?_
  refine A4 (E5 (e := 5) (n := 32) (sz := 1) (i := i / 8) rfl rfl kR kR rfl (by omega)) rfl ?_
  refine A4 (Q0 (i / 8) rfl kR At.mem (by omega) (by omega)) rfl ?_
  refine mv_ ?_
  refine A4 (A0Q 8 rfl rfl rfl (by decide)) rfl ?_
  refine A4 (A2t (a := es.getD (i / 8) 0) (b := i % 8) rfl rfl rfl rfl (by show _ ≤ 8; omega)) rfl ?_
  refine A4 (hbit ▸ L9 1 2 rfl rfl rfl rfl rfl (by show _ < 256; exact Nat.lt_of_le_of_lt (Nat.div_le_self _ _) hpb) (by decide)) rfl ?_
  refine A4 (F1 rfl rfl rfl) rfl ?_
  refine A0 (X3 2 3 4 5 6 7 28) ?_
  refine C8 rfl (fun hc => ?_) (fun hc => ?_)
  ·
   have hb1 : bv es / 2 ^ i % 2 = 1 := by revert hc; generalize bv es / 2 ^ i % 2 = z; intro hc; simp at hc; omega
   rw [A7m hb1] at hts
   refine C3 ?_
   refine A4 (qw_ 20) rfl ?_
   refine A4 (qw_ 20) rfl ?_
   refine A4 (qw_ 5) rfl ?_
   refine C9 (aS rfl (aS rfl (aS rfl a0))) kR (B0U _ _ _ _ _ d2N h5 hP0 hd _) rfl ?_
   rintro r7 M7 J7 ⟨rfl, rfl, k7⟩
   rw [← hts] at k7
   have h7 := k7
   obtain ⟨xst, rfl, t0, t1, t2, t3, t4, t5, t6, t7, t8, t9, t10, t11, t12, t13, t14, t15, t16, t17, t18, t19, rfl, htX, htY, htZ, htT⟩ := k7
   dsimp only [nums, List.map]
   refine A6 rfl (A8 rfl rfl Cel.cel kR A2L A2M UpC.upd ?_)
   refine D0 (nb (nx (I5 2 3 4 5 6 7) (C3 (mv_ ?_))))
   refine A4 (E4 ((i : Int) - 1) rfl rfl (Y8 rfl (by omega) (by omega))) rfl ?_
   refine as_ (D0 ?_)
   exact rn (i, [t0, t1, t2, t3, t4, t5, t6, t7, t8, t9, t10, t11, t12, t13, t14, t15, t16, t17, t18, t19]) ⟨by dsimp only; omega, h7⟩ (by dsimp only; omega) (I5 2 3 4 5 6 7) (Fit.eq rfl) (fun _ h => h)
  ·
   have hb1 : ¬ bv es / 2 ^ i % 2 = 1 := by revert hc; generalize bv es / 2 ^ i % 2 = z; intro hc; simp at hc; omega
   rw [A7n hb1] at hts
   refine A9 (nb (nx (I5 2 3 4 5 6 7) (C3 (mv_ ?_))))
   refine A4 (E4 ((i : Int) - 1) rfl rfl (Y8 rfl (by omega) (by omega))) rfl ?_
   refine as_ (D0 ?_)
   exact rn (i, [s0, s1, s2, s3, s4, s5, s6, s7, s8, s9, s10, s11, s12, s13, s14, s15, s16, s17, s18, s19]) ⟨by dsimp only; omega, by dsimp only; rw [hts]; exact h5⟩ (by dsimp only; omega) (I5 2 3 4 5 6 7) (Fit.eq rfl) (fun _ h => h)
 ·
  have hj0 : j = 0 := by simp at hc; omega
  subst hj0
  refine E6 (te (re (be rfl (nx (D5 4 5) (A3 ?_)))))
  refine A4 (qw_ 20) rfl ?_
  refine A6 rfl (A8 rfl rfl Cel.cel kR A2L A2M UpC.upd ?_)
  refine A0 (D8 4) (C2 ?_)
  exact ⟨_, [], [], A1k rfl rfl kR At.mem (by rfl), List.nil_sublist _, by simp, rfl, rfl, ho0⟩
theorem A5e (V : Value) (P : Pt) (hP : FeP V P) (A : Mem) : FnX Tryz.prog 139 [V] [] A fun r M J => J = [] ∧ Sl 1 r 32 (nums .u8 (pB P)) M := by
 obtain ⟨xsp, rfl, p0, p1, p2, p3, p4, p5, p6, p7, p8, p9, p10, p11, p12, p13, p14, p15, p16, p17, p18, p19, rfl, hpX, hpY, hpZ, hpT⟩ := hP
 dsimp only [nums, List.map]
 refine FnX.enter (N := 24) Tryz.func139 rfl rfl rfl fun w => ?_
 refine C4 (D8 0) (A3 ?_)
 refine A6 rfl (bx_ fun b1 => ?_)
 refine as_ (A0 (D8 1) (A3 ?_))
 refine A4 (qf_ 10 10) rfl ?_
 refine A4 (G5 (n := 5) rfl kR (by first | exact At.mem | exact mA (by assumption)) TakeC.take) rfl ?_
 refine C9 (aS rfl a0) kR (B0T hpZ _) rfl ?_
 rintro r3 M3 J3 ⟨rfl, rfl, k3⟩
 have h3 := k3
 obtain ⟨a3, b3, c3, d3, e3, rfl, -⟩ := k3
 refine A6 rfl (C5 (cs := [A7, A7, A7, A7, A7]) kR rfl fun b3 => ?_)
 refine A6 rfl (A8 rfl rfl Cel.cel kR ln5 al5 UpC.upd ?_)
 refine A0 (D5 1 3) (A3 ?_)
 refine A4 (qf_ 5 5) rfl ?_
 refine A4 (G5 (n := 5) rfl kR (by first | exact At.mem | exact mA (by assumption)) TakeC.take) rfl ?_
 refine A4 (qw_ 5) rfl ?_
 refine C9 (aS rfl (aS rfl a0)) kR (R7 hpY h3 _) rfl ?_
 rintro r4 M4 J4 ⟨rfl, rfl, k4⟩
 have h4 := k4
 obtain ⟨a4, b4, c4, d4, e4, rfl, -⟩ := k4
 refine C9 (aS rfl a0) kR (Y4 _ _ h4 _) rfl ?_
 rintro v12 M12 J12 ⟨rfl, hs12⟩
 haveI := hs12.cel
 have hpl := L1 8 32 (fM P.Y (fI P.Z)) 255
 have hpt := A0w (fM P.Y (fI P.Z)) 255
 refine as_ (A0 (E1 1 3 4) (A5 (A3 ?_)))
 refine A4 (qf_ 0 0) rfl ?_
 refine A4 (G5 (n := 5) rfl kR (by first | exact At.mem | exact mA (by assumption)) TakeC.take) rfl ?_
 refine A4 (qw_ 5) rfl ?_
 refine C9 (aS rfl (aS rfl a0)) kR (R7 hpX h3 _) rfl ?_
 rintro r5 M5 J5 ⟨rfl, rfl, k5⟩
 have h5 := k5
 obtain ⟨a5, b5, c5, d5, e5, rfl, -⟩ := k5
 refine F8 (aS rfl a0) kR (A3A _ _ h5 _) rfl ?_
 refine A0 (D5 4 17) ?_
 refine C8 rfl (fun hc => ?_) (fun hc => ?_)
 ·
  have ho : fM P.X (fI P.Z) % 2 = 1 := by simpa using hc
  refine C3 (mv_ ?_)
  refine A4 (I7 (sz := 1) (a := 31) rfl rfl kR rfl (hs12.rd (R := M12) fun _ h => h) (by decide)) rfl ?_
  refine A4 (A1b (j := 31) (u := .int .u8 (((W3 8 32 (fM P.Y (fI P.Z)) 255).getD 31 0 : Nat) : Int)) (hs12.rd SubC.sub) rfl kR (Z4 (by rw [hpl]; decide))) rfl ?_
  refine A4 (B4y (b := 128) rfl rfl rfl (by show _ < 256; exact getD_lt hpt (by decide)) (by decide)) rfl ?_
  refine A4 (I7 (sz := 1) (a := 31) rfl rfl kR rfl (hs12.rd (R := M12) fun _ h => h) (by decide)) rfl ?_
  refine A6 rfl (C0l hs12 rfl rfl rfl kR (by decide) PickC.perm fun B9 hs9 => ?_)
  refine A0 (D8 4) (A3 (mv_ (as_ (A0 (D8 2) (C2 ?_)))))
  exact ⟨_, B9, [], I4 rfl rfl, List.sublist_append_left _ _, by simp, rfl, by unfold pB; rw [if_pos ho]; show Sl 1 v12 32 (nums .u8 _) B9; rw [A4G]; exact hs9⟩
 ·
  have ho : ¬ fM P.X (fI P.Z) % 2 = 1 := by simpa using hc
  refine A9 (nx (D8 4) (A3 (mv_ (as_ (A0 (D8 2) (C2 ?_))))))
  exact ⟨_, M12, [], I4 rfl rfl, List.sublist_append_left _ _, by simp, rfl, by unfold pB; rw [if_neg ho]; exact hs12⟩

end Go.Proofs.YthbhpfefdnffaaaGreatDoor
namespace Go.Px
open Go Go.ChangeShapes Go.WideShapes Go.RowKit
section results
variable {P : Program} {fn : Func} {l : Env} {R : Mem}
theorem C0n {t0 t1 t2 t3 b0 b1 b2 b3 n : Nat} {ty : TypeId} {c0 c1 c2 c3 : List Value} {e0 e1 e2 e3 : TypeId} {f0 f1 f2 f3 : Nat × Nat} (h : fn.results = #[.cell t0 ty, .cell t1 ty, .cell t2 ty, .cell t3 ty])
    (h0 : lk l t0 = some (.pointer (some ⟨b0, 0, none⟩))) (h1 : lk l t1 = some (.pointer (some ⟨b1, 0, none⟩))) (h2 : lk l t2 = some (.pointer (some ⟨b2, 0, none⟩))) (h3 : lk l t3 = some (.pointer (some ⟨b3, 0, none⟩))) (ht : A8U P ty = some n)
    (m0 : (b0, Obj.cells c0.toArray e0 f0) ∈ R) (m1 : (b1, Obj.cells c1.toArray e1 f1) ∈ R) (m2 : (b2, Obj.cells c2.toArray e2 f2) ∈ R) (m3 : (b3, Obj.cells c3.toArray e3 f3) ∈ R) (n0 : c0.length = n) (n1 : c1.length = n) (n2 : c2.length = n) (n3 : c3.length = n) : Res P fn l R (.tuple #[.agg c0.toArray, .agg c1.toArray, .agg c2.toArray, .agg c3.toArray]) := fun N a w ha hw => by
  obtain ⟨dsc, g1, g2, g3⟩ := A0J ht
  have hk : ∀ (b : Nat) (cs : List Value) (e : TypeId) (fr : Nat × Nat), (b, Obj.cells cs.toArray e fr) ∈ R → cs.length = n → _ := fun b cs e fr hb hn => run_loadVar_row (P := P) w b e ty cs.toArray fr dsc (hw b _ hb) g1 (by cases dsc <;> simp_all [TypeDesc.isRow]) (by rw [g3, ← hn]; simp)
  have k0 := hk _ _ _ _ m0 n0
  have k1 := hk _ _ _ _ m1 n1
  have k2 := hk _ _ _ _ m2 n2
  have k3 := hk _ _ _ _ m3 n3
  simp [results, h, ha.slot t0 _ h0, ha.slot t1 _ h1, ha.slot t2 _ h2, ha.slot t3 _ h3, asAddr, k0, k1, k2, k3]
end results
end Go.Px

namespace Go.Px
theorem B41 (n : Nat) : xp n = 2 ^ (32 * n) := by rw [xp, Nat.pow_mul]
theorem B02 {ws : List Nat} (h : w32 ws) (i : Nat) : nv ws / xp i % 4294967296 = ws.getD i 0 := by
  induction ws generalizing i with
  | nil => simp [nv]
  | cons b r ih =>
    have h1 := h b (by simp)
    cases i with
    | zero => simp only [nv, xp0, Nat.div_one, List.getD_cons_zero]; omega
    | succ i =>
      rw [List.getD_cons_succ, ← ih (fun x hx => h x (by simp [hx])) i, xpS, Nat.mul_comm, ← Nat.div_div_eq_div_mul]
      congr 2
      simp only [nv]; omega
def T0 (x n : Nat) : List Nat := (List.range n).map fun i => x / 256 ^ i % 256
theorem K7 (x n : Nat) : (T0 x n).length = n := by simp [T0]
theorem A5f (x n : Nat) : ∀ y ∈ T0 x n, y < 256 := fun y hy => by
  simp only [T0, List.mem_map] at hy
  obtain ⟨i, _, rfl⟩ := hy
  exact Nat.mod_lt _ (by decide)
theorem B03 (x n : Nat) : T0 x (n + 1) = T0 x n ++ [x / 256 ^ n % 256] := by simp [T0, List.range_succ]
theorem B04 (x n : Nat) : bv (T0 x n) = x % 256 ^ n := by
  have := A1T x n
  rw [show (256 : Nat) ^ n = 2 ^ (8 * n) by rw [Nat.pow_mul], ← this]
  congr 1
  unfold T0
  apply List.map_congr_left
  intro j _
  rw [Nat.pow_mul]
theorem B05 {ws : List Nat} (h : w32 ws) (i : Nat) : ws.getD (i / 4) 0 / 2 ^ (8 * (i % 4)) % 256 = nv ws / 256 ^ i % 256 := by
  rw [← B02 h, show (256 : Nat) ^ i = 2 ^ (8 * i) by rw [Nat.pow_mul], B41, show (4294967296 : Nat) = 2 ^ (8 * (i % 4)) * 2 ^ (32 - 8 * (i % 4)) by rw [← Nat.pow_add, show 8 * (i % 4) + (32 - 8 * (i % 4)) = 32 by omega], Nat.mod_mul_right_div_self,
    show (2 : Nat) ^ (32 - 8 * (i % 4)) = 256 * 2 ^ (24 - 8 * (i % 4)) by rw [show (256 : Nat) = 2 ^ 8 from rfl, ← Nat.pow_add]; congr 1; omega, Nat.mod_mul_right_mod, Nat.div_div_eq_div_mul, ← Nat.pow_add]
  congr 3; omega
theorem B3y {ws : List Nat} (h : w32 ws) (i : Nat) : ws.getD (i / 32) 0 / 2 ^ (i % 32) % 2 = nv ws / 2 ^ i % 2 := by
  rw [← B02 h, B41, show (4294967296 : Nat) = 2 ^ (i % 32) * 2 ^ (32 - i % 32) by rw [← Nat.pow_add, show i % 32 + (32 - i % 32) = 32 by omega], Nat.mod_mul_right_div_self,
    show (2 : Nat) ^ (32 - i % 32) = 2 * 2 ^ (31 - i % 32) by rw [← Nat.pow_succ']; congr 1; omega, Nat.mod_mul_right_mod, Nat.div_div_eq_div_mul, ← Nat.pow_add]
  congr 3; omega
theorem B06 {ws : List Nat} {i : Nat} (h : ws.length ≤ i) : ws.getD i 0 = 0 := by simp [List.getD, List.getElem?_eq_none h]
theorem W4 (ws : List Nat) (j : Nat) : nv (ws.take (j + 1)) = nv (ws.take j) + xp j * ws.getD j 0 := by
  by_cases h : j < ws.length
  · exact A0M h
  · rw [B06 (by omega), List.take_of_length_le (by omega), List.take_of_length_le (by omega), Nat.mul_zero, Nat.add_zero]
theorem B07 {o a b : List Nat} {i c x : Nat} (hl : o.length = i) (h : nv o + xp i * c = nv (a.take i) + nv (b.take i)) (hx : x = c + a.getD i 0 + b.getD i 0) :
    nv (o ++ [x % 4294967296]) + xp (i + 1) * (x / 4294967296) = nv (a.take (i + 1)) + nv (b.take (i + 1)) := by
  rw [A1J, hl, W4, W4, xpS]
  have e : xp i * (x % 4294967296) + xp i * 4294967296 * (x / 4294967296) = xp i * x := by
    rw [Nat.mul_assoc, ← Nat.mul_add, Nat.mod_add_div]
  have e2 : xp i * x = xp i * c + xp i * a.getD i 0 + xp i * b.getD i 0 := by rw [hx, Nat.mul_add, Nat.mul_add]
  simp only [nv, Nat.mul_zero, Nat.add_zero]
  omega
theorem A9m (ws : List Nat) (n : Nat) : nv (ws.take n) ≤ nv ws := by
  by_cases h : n ≤ ws.length
  · rw [A2I ws n h]; omega
  · rw [List.take_of_length_le (by omega)]; exact Nat.le_refl _
theorem B08 {o a b : List Nat} {i c c' d : Nat} (hl : o.length = i) (h : nv o + nv (b.take i) = nv (a.take i) + xp i * c) (hd : d + b.getD i 0 + c = a.getD i 0 + 4294967296 * c') :
    nv (o ++ [d]) + nv (b.take (i + 1)) = nv (a.take (i + 1)) + xp (i + 1) * c' := by
  rw [A1J, hl, W4, W4, xpS]
  have e : xp i * d + xp i * b.getD i 0 + xp i * c = xp i * a.getD i 0 + xp i * 4294967296 * c' := by
    rw [← Nat.mul_add, ← Nat.mul_add, hd, Nat.mul_add, Nat.mul_assoc]
  simp only [nv, Nat.mul_zero, Nat.add_zero]
  omega
theorem B3z {o a b : List Nat} {c : Nat} (hl : o.length = a.length) (ho : w32 o) (ha : w32 a) (h : nv o + nv (b.take a.length) = nv (a.take a.length) + xp a.length * c) (hle : nv b ≤ nv a) : nv o = nv a - nv b := by
  have h1 := B2A ho
  have h2 := B2A ha
  have h3 := A9m b a.length
  rw [List.take_length] at h
  rw [hl] at h1
  have hc : c = 0 := by
    rcases Nat.eq_zero_or_pos c with h0 | h0
    · exact h0
    · have := Nat.le_mul_of_pos_right (xp a.length) h0
      omega
  subst hc
  have h4 : nv (b.take a.length) = nv b := by
    by_cases hb : a.length ≤ b.length
    · have h5 := A2I b a.length hb
      have h6 : nv (b.drop a.length) = 0 := by
        rcases Nat.eq_zero_or_pos (nv (b.drop a.length)) with h0 | h0
        · exact h0
        · have := Nat.le_mul_of_pos_right (xp a.length) h0
          omega
      rw [h6] at h5; omega
    · rw [List.take_of_length_le (by omega)]
  omega
def wrds (x n : Nat) : List Nat := (List.range n).map fun i => x / xp i % 4294967296
end Go.Px

namespace Go.Proofs.YthbhpfefdnffaaaGreatDoor
open Go.Px
def B5a : List Nat := [1559614445, 1477600026, 2734136534, 350157278, 0, 0, 0, 268435456]
def lN : Nat := 7237005577332262213973186563042994240857116359379907606001950938285454250989
theorem B09 : nv B5a = lN := by decide +kernel
theorem B8P : w32 B5a := by unfold w32 B5a; decide
def Sc (v : Value) (n : Nat) : Prop := ∃ ws, v = .agg (nums .u32 ws).toArray ∧ ws.length = 8 ∧ w32 ws ∧ nv ws = n
theorem xp8 : xp 8 = 115792089237316195423570985008687907853269984665640564039457584007913129639936 := by decide +kernel
theorem B8Q {a b : List Nat} {i : Nat} (h1 : a.drop (i + 1) = b.drop (i + 1)) (hi : i < a.length) (hj : i < b.length) (h2 : a.getD i 0 = b.getD i 0) : a.drop i = b.drop i := by
  rw [List.getD_eq_getElem?_getD, List.getElem?_eq_getElem hi, List.getD_eq_getElem?_getD, List.getElem?_eq_getElem hj] at h2
  rw [List.drop_eq_getElem_cons hi, List.drop_eq_getElem_cons hj, h1]
  exact congrArg (· :: _) h2
theorem A8u {o a : List Nat} {i : Nat} (hl : o.length = i) : (o ++ a.drop i).getD i 0 = a.getD i 0 := by
  rw [List.getD_eq_getElem?_getD, List.getElem?_append_right (by omega), List.getElem?_drop, List.getD_eq_getElem?_getD]
  congr 2; omega
theorem A5g {o a : List Nat} {i x : Nat} (hl : o.length = i) (hi : i < a.length) : (o ++ a.drop i).set i x = (o ++ [x]) ++ a.drop (i + 1) := by
  rw [List.set_append_right _ _ (by omega), hl, Nat.sub_self, List.drop_eq_getElem_cons hi, List.set_cons_zero, List.append_assoc]; rfl
theorem A5h {o a : List Nat} {i n : Nat} (hl : o.length = i) (ha : a.length = n) (hi : i ≤ n) : (o ++ a.drop i).length = n := by
  rw [List.length_append, List.length_drop]; omega
theorem B6K {a b c : Nat} (ha : a < lN) (hb : b < lN) (h : c * xp 8 ≤ a + b) : c = 0 := by
  rcases Nat.eq_zero_or_pos c with h0 | h0
  · exact h0
  · have h1 := Nat.le_mul_of_pos_left (xp 8) h0
    rw [xp8] at h1 h
    unfold lN at ha hb
    omega
theorem A9n {x y c d e : Nat} (hx : x < 4294967296) (hy : y < 4294967296) (hc : c ≤ 1) (hd : d = (x + (18446744073709551616 - y)) % 18446744073709551616) (he : e = (d + (18446744073709551616 - c)) % 18446744073709551616) :
    e % 4294967296 + y + c = x + 4294967296 * (e / 9223372036854775808) ∧ e / 9223372036854775808 ≤ 1 := by
  by_cases h : y + c ≤ x
  · have e1 : e = x - y - c := by omega
    have e2 : e < 4294967296 := by omega
    rw [Nat.mod_eq_of_lt e2, Nat.div_eq_of_lt (by omega)]
    omega
  · have e1 : e = 18446744073709551616 - (y + c - x) := by omega
    omega
theorem B6L {k : IntKind} (x y : Nat) : K1 .lss k (x : Int) (y : Int) = some (.bool (decide (x < y))) := by
  by_cases h : x < y
  · rw [decide_eq_true h]; exact ltT (by omega)
  · rw [decide_eq_false h]; exact ltF (by omega)
theorem B6M {a b : List Nat} (ha : w32 a) (hb : w32 b) {i : Nat} (hi : i < a.length) (hl : a.length = b.length) (hd : a.drop (i + 1) = b.drop (i + 1)) (hne : a.getD i 0 ≠ b.getD i 0) : nv a < nv b ↔ a.getD i 0 < b.getD i 0 := by
  constructor
  · intro h
    rcases Nat.lt_or_gt_of_ne hne with h1 | h1
    · exact h1
    · have := A7V hb (by omega) hl.symm h1 hd.symm; omega
  · intro h; exact A7V ha hi hl h hd
theorem A5i {n : Nat} (h : n < 18446744073709551616) : IntKind.u64.wrap (n : Int) = (n : Int) := A4E (by omega) (by omega)
theorem B6N (A : Mem) : FnV Tryz.prog 179 [] A (.agg (nums .u32 B5a).toArray) := by
 refine FnX.enter (N := 2) Tryz.func179 rfl rfl rfl fun w => ?_
 refine C4 kn (A3 ?_)
 refine A6 rfl (C5 (cs := [G4, G4, G4, G4, G4, G4, G4, G4]) kR rfl fun b0 => ?_)
 refine A0 (D8 0) (A3 ?_)
 refine A4 (F3 (place := fun i => some (i * 1, 1)) (z := [G4, G4, G4, G4, G4, G4, G4, G4]) (fun _ => by kernel_rfl) (eS rfl (eS rfl (eS rfl (eS rfl (eS rfl (eS rfl (eS rfl (eS rfl e0)))))))) (bdS 0 1 rfl (by rfl) (bdS 1 1 rfl (by rfl) (bdS 2 1 rfl (by rfl) (bdS 3 1 rfl (by rfl) (bdS 4 1 rfl (by rfl) (bdS 5 1 rfl (by rfl) (bdS 6 1 rfl (by rfl) (bdS 7 1 rfl (by rfl) bd0))))))))) rfl ?_
 refine A6 rfl (A8 rfl rfl Cel.cel kR ln8 al8 UpC.upd ?_)
 refine A0 (D8 0) (C2 ?_)
 exact ⟨_, [], [], A1k rfl rfl kR At.mem (by rfl), List.nil_sublist _, by simp, rfl, rfl, rfl⟩
theorem B8R (v u : Value) (x y : Nat) (hv : Sc v x) (hu : Sc u y) (A : Mem) : FnV Tryz.prog 180 [v, u] A (.bool (decide (x < y))) := by
 obtain ⟨a, rfl, a8, a32, rfl⟩ := hv
 obtain ⟨b, rfl, b8, b32, rfl⟩ := hu
 refine FnX.enter (N := 24) Tryz.func180 rfl rfl rfl fun w => ?_
 refine C4 (D5 0 1) (A3 ?_)
 refine A6 rfl (bx_ fun b2 => ?_)
 refine A6 rfl (bx_ fun b3 => ?_)
 refine as_ (A0 (D5 2 3) (A5 (A3 (as_ (A0 (E1 2 3 5) (C0 ?_))))))
 refine F2 (α := Nat) (fun j => [(2, .pointer (some ⟨b2, 0, none⟩)), (3, .pointer (some ⟨b3, 0, none⟩)), (5, .int .i64 ((j : Int) - 1))]) (fun _ => [(b3, blk (nums .u32 b) 223), (b2, blk (nums .u32 a) 223)]) (fun _ => []) (fun j => j ≤ 8 ∧ a.drop j = b.drop j) (fun j => j) 8 ⟨Nat.le_refl _, by rw [List.drop_of_length_le (by omega), List.drop_of_length_le (by omega)]⟩ (E1 2 3 5) .rfl (fun _ h => h) ?_
 rintro j ⟨hj, hd⟩
 refine A5 (A3 (mv_ ?_))
 refine A4 (F1 rfl rfl rfl) rfl ?_
 refine A0 (E7 2 3 5 7) ?_
 refine C8 rfl (fun hc => ?_) (fun hc => ?_)
 ·
  have hj0 : 0 < j := by simp at hc; omega
  obtain ⟨i, rfl⟩ : ∃ i, j = i + 1 := ⟨j - 1, by omega⟩
  rw [show (((i + 1 : Nat) : Int) - 1) = (i : Int) by omega]
  refine A9 (nx (E1 2 3 5) (A5 (C0 ?_)))
  refine D2 (.range 7) (zp 0 [0, 0, 1, 0, 0, 1, 0]) kR kR fun hs => ?_
  refine fm_ hs ?_
  refine D1 hs rfl (E5 (e := 30) (n := 8) (sz := 1) (i := i) rfl rfl kR kR rfl (by omega)) rfl ?_
  refine F6 hs rfl (Q0 (i) rfl kR At.mem (by omega) (by first | omega | (rw [a8]; omega))) rfl ?_
  refine fm_ hs ?_
  refine D1 hs rfl (E5 (e := 30) (n := 8) (sz := 1) (i := i) rfl rfl kR kR rfl (by omega)) rfl ?_
  refine F6 hs rfl (Q0 (i) rfl kR At.mem (by omega) (by first | omega | (rw [b8]; omega))) rfl ?_
  refine D1 hs rfl (F1 rfl rfl rfl) rfl ?_
  refine E3 (E7 2 3 5 16) ?_
  refine C8 rfl (fun hc => ?_) (fun hc => ?_)
  ·
   have hne : a.getD i 0 ≠ b.getD i 0 := by simp at hc ⊢; omega
   refine D2 (.range 8) (zp 0 [0, 0, 1, 0, 0, 1, 0, 0]) kR kR fun hs => ?_
   refine fm_ hs ?_
   refine D1 hs rfl (E5 (e := 30) (n := 8) (sz := 1) (i := i) rfl rfl kR kR rfl (by omega)) rfl ?_
   refine F6 hs rfl (Q0 (i) rfl kR At.mem (by omega) (by first | omega | (rw [a8]; omega))) rfl ?_
   refine fm_ hs ?_
   refine D1 hs rfl (E5 (e := 30) (n := 8) (sz := 1) (i := i) rfl rfl kR kR rfl (by omega)) rfl ?_
   refine F6 hs rfl (Q0 (i) rfl kR At.mem (by omega) (by first | omega | (rw [b8]; omega))) rfl ?_
   refine D1 hs rfl (F9 (decide (a.getD i 0 < b.getD i 0)) rfl rfl (B6L _ _)) rfl ?_
   refine fa_ hs ?_
   refine E3 (D8 4) (C2 (br (tr (rr (br (tr ?_))))))
   exact ⟨_, [], [], I4 rfl rfl, List.nil_sublist _, by simp, by rw [show decide (nv a < nv b) = decide (a.getD i 0 < b.getD i 0) from decide_eq_decide.2 (B6M a32 b32 (by omega) (by omega) hd hne)], rfl, rfl⟩
  ·
   have hne : a.getD i 0 = b.getD i 0 := by simp at hc ⊢; omega
   refine A9 (nb (nx (E1 2 3 5) (C3 (mv_ ?_))))
   refine A4 (E4 ((i : Int) - 1) rfl rfl (Y8 rfl (by omega) (by omega))) rfl ?_
   refine as_ (D0 ?_)
   exact rn i ⟨by omega, B8Q hd (by omega) (by omega) hne⟩ (by omega) (E1 2 3 5) .rfl (fun _ h => h)
 ·
  have hj0 : j = 0 := by simp at hc; omega
  subst hj0
  rw [List.drop_zero, List.drop_zero] at hd
  refine E6 (te (re (be rfl (nx kn (A3 (as_ (A0 (D8 4) ?_)))))))
  refine C2 ?_
  exact ⟨_, [], [], I4 rfl rfl, List.nil_sublist _, by simp, by rw [hd, decide_eq_false (Nat.lt_irrefl _)], rfl, rfl⟩
theorem A6s (v u : Value) (x y : Nat) (hv : Sc v x) (hu : Sc u y) (hx : x < lN) (hy : y < lN) (A : Mem) : FnX Tryz.prog 155 [v, u] [] A fun r M J => M = [] ∧ J = [] ∧ Sc r ((x + y) % lN) := by
 obtain ⟨a, rfl, a8, a32, rfl⟩ := hv
 obtain ⟨b, rfl, b8, b32, rfl⟩ := hu
 refine FnX.enter (N := 58) Tryz.func155 rfl rfl rfl fun w => ?_
 refine C4 (D5 0 1) (A3 ?_)
 refine A6 rfl (bx_ fun b2 => ?_)
 refine A6 rfl (bx_ fun b3 => ?_)
 refine A6 rfl (C5 (cs := [G4, G4, G4, G4, G4, G4, G4, G4]) kR rfl fun b4 => ?_)
 refine A0 (E1 2 3 4) (A3 (as_ (A0 (E7 2 3 4 5) (A5 (A3 (mv_ (A0 (F7 2 3 4 5 10) ?_)))))))
 refine C0 ?_
 refine F2 (α := Nat × List Nat × Nat) (fun x => [(2, .pointer (some ⟨b2, 0, none⟩)), (3, .pointer (some ⟨b3, 0, none⟩)), (4, .pointer (some ⟨b4, 0, none⟩)), (5, .int .u64 (x.2.2 : Int)), (10, .int .i64 (x.1 : Int))]) (fun x => [(b4, blk [.int .u32 0, .int .u32 0, .int .u32 0, .int .u32 0, .int .u32 0, .int .u32 0, .int .u32 0, .int .u32 0] 223), (b3, blk (nums .u32 b) 223), (b2, blk (nums .u32 (x.2.1 ++ a.drop x.1)) 223)]) (fun _ => []) (fun x => x.1 ≤ 8 ∧ x.2.1.length = x.1 ∧ w32 x.2.1 ∧ x.2.2 ≤ 1 ∧ nv x.2.1 + xp x.1 * x.2.2 = nv (a.take x.1) + nv (b.take x.1)) (fun x => 8 - x.1) ⟨0, [], 0⟩ ⟨Nat.zero_le _, rfl, (fun x hx => by cases hx), by decide, rfl⟩ (F7 2 3 4 5 10) .rfl (fun _ h => h) ?_
 rintro ⟨i, o, c⟩ ⟨hi, hol, ho32, hc1, hnv⟩
 dsimp only at hi hol ho32 hc1 hnv ⊢
 refine A3 ?_
 refine A4 (F1 rfl rfl rfl) rfl ?_
 refine A0 (I5 2 3 4 5 10 11) (A5 ?_)
 refine C8 rfl (fun hc => ?_) (fun hc => ?_)
 ·
  have hlt : i < 8 := by simp at hc; omega
  have hpl := A5h (o := o) (a := a) hol a8 hi
  have hpg := A8u (a := a) hol
  have hps := fun x => A5g (x := x) hol (show i < a.length by omega)
  have hst := B07 (x := c + (a.getD i 0 + b.getD i 0)) hol hnv (by omega)
  have ha0 := a32.get i
  have hb0 := b32.get i
  refine A9 (nx (F7 2 3 4 5 10) (A5 (C0 (A3 (mv_ (as_ (A0 (I5 2 3 4 5 6 10) ?_)))))))
  refine D2 (.range 12) (zp 0 [0, 0, 0, 1, 0, 0, 0, 1, 0, 0, 0, 0]) kR kR fun hs => ?_
  refine fm_ hs ?_
  refine fm_ hs ?_
  refine D1 hs rfl (E5 (e := 30) (n := 8) (sz := 1) (i := i) rfl rfl kR kR rfl (by omega)) rfl ?_
  refine F6 hs rfl (hpg ▸ Q0 i rfl kR At.mem (by omega) (by omega)) rfl ?_
  refine D1 hs rfl (P3 (k' := .u64) (a.getD i 0) rfl kR (A5i (by omega))) rfl ?_
  refine fm_ hs ?_
  refine D1 hs rfl (E5 (e := 30) (n := 8) (sz := 1) (i := i) rfl rfl kR kR rfl (by omega)) rfl ?_
  refine F6 hs rfl (Q0 (i) rfl kR At.mem (by omega) (by first | omega | (rw [b8]; omega))) rfl ?_
  refine D1 hs rfl (P3 (k' := .u64) (b.getD i 0) rfl kR (A5i (by omega))) rfl ?_
  refine D1 hs rfl (A7X 18446744073709551616 (a := a.getD i 0) (b := b.getD i 0) rfl rfl rfl rfl rfl rfl (by omega)) rfl ?_
  refine D1 hs rfl (A7X 18446744073709551616 (a := c) (b := a.getD i 0 + b.getD i 0) rfl rfl rfl rfl rfl rfl (by omega)) rfl ?_
  refine fa_ hs ?_
  refine E3 (I5 2 3 4 5 6 10) (A3 (mv_ (mv_ ?_)))
  refine A4 (A7S rfl kR) rfl ?_
  refine A4 (E5 (e := 30) (n := 8) (sz := 1) (i := i) rfl rfl kR kR rfl (by omega)) rfl ?_
  refine A6 rfl (S0 i rfl rfl kR (by omega) (by omega) UpC.upd ?_)
  refine A0 (F7 2 3 4 5 10) (C3 (mv_ ?_))
  refine A4 (N7 32 4294967296 rfl rfl rfl rfl (by decide)) rfl ?_
  refine as_ (D0 (nb (nx (F7 2 3 4 5 10) (C3 ?_))))
  refine A4 (E4 ((i + 1 : Nat) : Int) rfl rfl (G3 (by omega) (by omega) (by omega))) rfl ?_
  refine mv_ (D0 ?_)
  exact rn ⟨i + 1, o ++ [(c + (a.getD i 0 + b.getD i 0)) % 4294967296], (c + (a.getD i 0 + b.getD i 0)) / 4294967296⟩ ⟨by dsimp only; omega, by simp [hol], ho32.app (fun x hx => by rw [List.mem_singleton.1 hx]; exact Nat.mod_lt _ (by decide)), by dsimp only; omega, hst⟩ (by dsimp only; omega) (F7 2 3 4 5 10) (Fit.eq (by rw [hps])) (fun _ h => h)
 ·
  have hge : i = 8 := by simp at hc; omega
  subst hge
  rw [List.take_of_length_le (by omega), List.take_of_length_le (by omega)] at hnv
  have hc0 := B6K hx hy (c := c) (by rw [Nat.mul_comm]; omega)
  subst hc0
  rw [Nat.mul_zero, Nat.add_zero] at hnv
  rw [List.drop_of_length_le (by omega), List.append_nil]
  refine E6 (te (re (be rfl (nx (D5 2 4) (A3 ?_)))))
  refine F8 a0 kR (B6N _) rfl ?_
  refine A6 rfl (C5 (cs := [G4, G4, G4, G4, G4, G4, G4, G4]) kR rfl fun b7 => ?_)
  refine A6 rfl (A8 rfl rfl Cel.cel kR ln8 al8 UpC.upd ?_)
  refine A0 (E1 2 4 7) (A5 (A3 ?_))
  refine A4 (H7 (n := 8) (cs := nums .u32 o) rfl kR At.mem (by rw [nums_len]; omega)) rfl ?_
  refine A4 (H7 (n := 8) (cs := nums .u32 B5a) rfl kR At.mem (by rfl)) rfl ?_
  refine F8 (aS rfl (aS rfl a0)) kR (B8R _ _ (nv o) lN ⟨o, rfl, hol, ho32, rfl⟩ ⟨B5a, rfl, rfl, B8P, B09⟩ _) rfl ?_
  refine A0 (E7 2 4 7 34) ?_
  refine C8 rfl (fun hc => ?_) (fun hc => ?_)
  ·
   have hlt : nv o < lN := by simpa using hc
   refine A3 ?_
   refine A4 (H7 (n := 8) (cs := nums .u32 o) rfl kR At.mem (by rw [nums_len]; omega)) rfl ?_
   refine A6 rfl (A8 (vs := nums .u32 o) rfl rfl rfl (by rw [nums_len, hol]; kernel_rfl) (by rw [nums_len, hol]; rfl) E8 UpC.upd ?_)
   refine A0 (D8 4) (C2 (tr ?_))
   exact ⟨_, [], [], A1k (n := 8) rfl rfl kR At.mem (by rw [nums_len]; omega), List.nil_sublist _, by simp, rfl, rfl, o, rfl, hol, ho32, by rw [hnv, Nat.mod_eq_of_lt (by omega)]⟩
  ·
   have hge : lN ≤ nv o := by simpa using hc
   refine A9 (nx (E1 2 4 7) (A3 (as_ (A0 (E7 2 4 5 7) (A5 (A3 (mv_ ?_)))))))
   refine A0 (F7 2 4 5 7 36) (C0 ?_)
   refine F2 (α := Nat × List Nat × Nat) (fun x => [(2, .pointer (some ⟨b2, 0, none⟩)), (4, .pointer (some ⟨b4, 0, none⟩)), (5, .int .u64 (x.2.2 : Int)), (7, .pointer (some ⟨b7, 0, none⟩)), (36, .int .i64 (x.1 : Int))]) (fun x => (b7, blk (nums .u32 B5a) 223) :: [(b4, blk [.int .u32 0, .int .u32 0, .int .u32 0, .int .u32 0, .int .u32 0, .int .u32 0, .int .u32 0, .int .u32 0] 223), (b3, blk (nums .u32 b) 223), (b2, blk (nums .u32 (x.2.1 ++ o.drop x.1)) 223)]) (fun _ => []) (fun x => x.1 ≤ 8 ∧ x.2.1.length = x.1 ∧ w32 x.2.1 ∧ x.2.2 ≤ 1 ∧ nv x.2.1 + nv (B5a.take x.1) = nv (o.take x.1) + xp x.1 * x.2.2) (fun x => 8 - x.1) ⟨0, [], 0⟩ ⟨Nat.zero_le _, rfl, (fun x hx => by cases hx), by decide, rfl⟩ (F7 2 4 5 7 36) .rfl (fun _ h => h) ?_
   rintro ⟨i, q, c⟩ ⟨hi, hql, hq32, hc1, hnw⟩
   dsimp only at hi hql hq32 hc1 hnw ⊢
   refine A3 ?_
   refine A4 (F1 rfl rfl rfl) rfl ?_
   refine A0 (I5 2 4 5 7 36 37) (A5 ?_)
   refine C8 rfl (fun hc => ?_) (fun hc => ?_)
   ·
    have hlt : i < 8 := by simp at hc; omega
    have hpl := A5h (o := q) (a := o) hql hol hi
    have hpg := A8u (a := o) hql
    have hps := fun x => A5g (x := x) hql (show i < o.length by omega)
    have ha0 := ho32.get i
    have hb0 := B8P.get i
    have ho8 : B5a.length = 8 := rfl
    have hsb := A9n (c := c) ha0 hb0 hc1 rfl rfl
    generalize hdd : (o.getD i 0 + (18446744073709551616 - B5a.getD i 0)) % 18446744073709551616 = dd at *
    generalize hee : (dd + (18446744073709551616 - c)) % 18446744073709551616 = ee at *
    have hst := B08 hql hnw hsb.1
    refine A9 (nx (F7 2 4 5 7 36) (A5 (C0 (A3 (mv_ (as_ (A0 (I5 2 4 5 7 8 36) ?_)))))))
    refine D2 (.range 12) (zp 0 [0, 0, 1, 0, 0, 0, 1, 0, 0, 0, 0, 0]) kR kR fun hs => ?_
    refine fm_ hs ?_
    refine D1 hs rfl (E5 (e := 30) (n := 8) (sz := 1) (i := i) rfl rfl kR kR rfl (by omega)) rfl ?_
    refine F6 hs rfl (hpg ▸ Q0 i rfl kR At.mem (by omega) (by omega)) rfl ?_
    refine D1 hs rfl (P3 (k' := .u64) (o.getD i 0) rfl kR (A5i (by omega))) rfl ?_
    refine fm_ hs ?_
    refine D1 hs rfl (E5 (e := 30) (n := 8) (sz := 1) (i := i) rfl rfl kR kR rfl (by omega)) rfl ?_
    refine F6 hs rfl (Q0 i rfl kR At.mem (by omega) (by omega)) rfl ?_
    refine D1 hs rfl (P3 (k' := .u64) (B5a.getD i 0) rfl kR (A5i (by omega))) rfl ?_
    refine D1 hs rfl (hdd ▸ A2s 18446744073709551616 (a := o.getD i 0) (b := B5a.getD i 0) rfl rfl rfl rfl rfl rfl (by omega)) rfl ?_
    refine fm_ hs ?_
    refine D1 hs rfl (hee ▸ A2s 18446744073709551616 (a := dd) (b := c) rfl rfl rfl rfl rfl rfl (by omega)) rfl ?_
    refine fa_ hs ?_
    refine E3 (I5 2 4 7 8 9 36) (A3 (mv_ (mv_ ?_)))
    refine A4 (A7S rfl kR) rfl ?_
    refine A4 (E5 (e := 30) (n := 8) (sz := 1) (i := i) rfl rfl kR kR rfl (by omega)) rfl ?_
    refine A6 rfl (S0 i rfl rfl kR (by omega) (by omega) UpC.upd ?_)
    refine A0 (F7 2 4 7 9 36) (C3 (mv_ ?_))
    refine A4 (N7 63 9223372036854775808 rfl rfl rfl rfl (by decide)) rfl ?_
    refine as_ (D0 (nb (nx (F7 2 4 5 7 36) (C3 ?_))))
    refine A4 (E4 ((i + 1 : Nat) : Int) rfl rfl (G3 (by omega) (by omega) (by omega))) rfl ?_
    refine mv_ (D0 ?_)
    exact rn ⟨i + 1, q ++ [ee % 4294967296], ee / 9223372036854775808⟩ ⟨by dsimp only; omega, by simp [hql], hq32.app (fun x hx => by rw [List.mem_singleton.1 hx]; exact Nat.mod_lt _ (by decide)), hsb.2, hst⟩ (by dsimp only; omega) (F7 2 4 5 7 36) (Fit.eq (by rw [hps])) (fun _ h => h)
   ·
    have hge8 : i = 8 := by simp at hc; omega
    subst hge8
    have hfin := B3z (o := q) (a := o) (b := B5a) (c := c) (by omega) hq32 ho32 (by rw [hol]; exact hnw) (by rw [B09]; exact hge)
    rw [List.drop_of_length_le (by omega), List.append_nil]
    refine E6 (te (re (be rfl (nx (D5 2 4) (A3 ?_)))))
    refine A4 (H7 (n := 8) (cs := nums .u32 q) rfl kR At.mem (by rw [nums_len]; omega)) rfl ?_
    refine A6 rfl (A8 (vs := nums .u32 q) rfl rfl rfl (by rw [nums_len, hql]; kernel_rfl) (by rw [nums_len, hql]; rfl) E8 UpC.upd ?_)
    refine A0 (D8 4) (C2 ?_)
    exact ⟨_, [], [], A1k (n := 8) rfl rfl kR At.mem (by rw [nums_len]; omega), List.nil_sublist _, by simp, rfl, rfl, q, rfl, hql, hq32, by rw [hfin, hnv, B09, Nat.mod_eq_sub_mod (by omega), Nat.mod_eq_of_lt (by omega)]⟩

def tmN (X Y i : Nat) : Nat := X / 2 ^ i * Y % lN
theorem B1a (X Y i : Nat) : tmN X Y i = (if X / 2 ^ i % 2 = 1 then ((tmN X Y (i + 1) + tmN X Y (i + 1)) % lN + Y) % lN else (tmN X Y (i + 1) + tmN X Y (i + 1)) % lN) := by
  have h : X / 2 ^ i = 2 * (X / 2 ^ (i + 1)) + X / 2 ^ i % 2 := by
    rw [Nat.pow_succ, ← Nat.div_div_eq_div_mul]; omega
  unfold tmN
  generalize lN = L
  have hb : X / 2 ^ i % 2 = 0 ∨ X / 2 ^ i % 2 = 1 := by omega
  rcases hb with hb | hb
  · rw [if_neg (by omega)]
    conv => lhs; rw [h, hb, Nat.add_zero, Nat.two_mul, Nat.add_mul, Nat.add_mod]
  · rw [if_pos hb]
    conv => lhs; rw [h, hb, Nat.add_mul, Nat.one_mul, Nat.two_mul, Nat.add_mul]
    rw [← Nat.add_mod, Nat.mod_add_mod]
theorem B8S : w32 [0, 0, 0, 0, 0, 0, 0, 0] := by unfold w32; decide
theorem C0o : w32 [1, 0, 0, 0, 0, 0, 0, 0] := by unfold w32; decide
theorem B5c (X Y i : Nat) : tmN X Y i < lN := Nat.mod_lt _ (by decide)
theorem A8v {k : IntKind} {a b : List Nat} (h : nums k a = nums k b) : a = b := by
  unfold nums at h
  induction a generalizing b with
  | nil => cases b with
    | nil => rfl
    | cons y b => simp at h
  | cons x a ih => cases b with
    | nil => simp at h
    | cons y b =>
      simp only [List.map_cons, List.cons.injEq, Value.int.injEq, true_and] at h
      rw [ih h.2, Int.ofNat.inj h.1]
theorem B3A (v u : Value) (x y0 : Nat) (hv : Sc v x) (hu : Sc u y0) (hy : y0 < lN) (A : Mem) : FnX Tryz.prog 154 [v, u] [] A fun r M J => M = [] ∧ J = [] ∧ Sc r (x * y0 % lN) := by
 obtain ⟨a, rfl, a8, a32, av⟩ := hv
 obtain ⟨b, rfl, b8, b32, bv_⟩ := hu
 refine FnX.enter (N := 27) Tryz.func154 rfl rfl rfl fun w => ?_
 refine C4 (D5 0 1) (A3 ?_)
 refine A6 rfl (bx_ fun b2 => ?_)
 refine A6 rfl (bx_ fun b3 => ?_)
 refine A6 rfl (C5 (cs := [G4, G4, G4, G4, G4, G4, G4, G4]) kR rfl fun b4 => ?_)
 refine A0 (E1 2 3 4) (A3 ?_)
 refine A6 rfl (C5 (cs := [G4, G4, G4, G4, G4, G4, G4, G4]) kR rfl fun b5 => ?_)
 refine A0 (E7 2 3 4 5) (A5 (A3 (as_ (A0 (F7 2 3 4 5 6) (C0 ?_)))))
 refine A0B (M' := [(b5, blk (nums .u32 [0, 0, 0, 0, 0, 0, 0, 0]) 223), (b4, blk [.int .u32 0, .int .u32 0, .int .u32 0, .int .u32 0, .int .u32 0, .int .u32 0, .int .u32 0, .int .u32 0] 223), (b3, blk (nums .u32 b) 223), (b2, blk (nums .u32 a) 223)]) (Fit.eq rfl) (fun _ h => h) ?_
 refine F2 (α := Nat × List Nat) (fun y => [(2, .pointer (some ⟨b2, 0, none⟩)), (3, .pointer (some ⟨b3, 0, none⟩)), (4, .pointer (some ⟨b4, 0, none⟩)), (5, .pointer (some ⟨b5, 0, none⟩)), (6, .int .i64 ((y.1 : Int) - 1))]) (fun y => [(b5, blk (nums .u32 y.2) 223), (b4, blk [.int .u32 0, .int .u32 0, .int .u32 0, .int .u32 0, .int .u32 0, .int .u32 0, .int .u32 0, .int .u32 0] 223), (b3, blk (nums .u32 b) 223), (b2, blk (nums .u32 a) 223)]) (fun _ => []) (fun y => y.1 ≤ 256 ∧ Sc (.agg (nums .u32 y.2).toArray) (tmN x y0 y.1)) (fun y => y.1) (256, [0, 0, 0, 0, 0, 0, 0, 0]) ⟨Nat.le_refl _, _, rfl, rfl, B8S, by unfold tmN; rw [Nat.div_eq_of_lt (by have := B2A a32; rw [a8, xp8] at this; rw [← av]; exact this), Nat.zero_mul, Nat.zero_mod]; rfl⟩ (F7 2 3 4 5 6) .rfl (fun _ h => h) ?_
 rintro ⟨j, o⟩ ⟨hj, ho⟩
 dsimp only at hj ho ⊢
 have ho0 := ho
 obtain ⟨o_, e_, o8, o32, ov⟩ := ho
 obtain rfl : o = o_ := A8v (by simpa using e_)
 refine A5 (A3 (mv_ ?_))
 refine A4 (F1 rfl rfl rfl) rfl ?_
 refine A0 (I5 2 3 4 5 6 8) ?_
 refine C8 rfl (fun hc => ?_) (fun hc => ?_)
 ·
  have hj0 : 0 < j := by simp at hc; omega
  obtain ⟨i, rfl⟩ : ∃ i, j = i + 1 := ⟨j - 1, by omega⟩
  rw [show (((i + 1 : Nat) : Int) - 1) = (i : Int) by omega]
  have hts := B1a x y0 i
  have hwb := B3y a32 i
  rw [av] at hwb
  have htl := B5c x y0 (i + 1)
  refine A9 (nx (F7 2 3 4 5 6) (A5 (C0 (A3 ?_))))
  refine A4 (H7 (n := 8) (cs := nums .u32 o) rfl kR At.mem (by rw [nums_len]; omega)) rfl ?_
  refine A4 (H7 (n := 8) (cs := nums .u32 o) rfl kR At.mem (by rw [nums_len]; omega)) rfl ?_
  refine C9 (aS rfl (aS rfl a0)) kR (A6s _ _ _ _ ho0 ho0 htl htl _) rfl ?_
  rintro r1 M1 J1 ⟨rfl, rfl, k1⟩
  have h1 := k1
  obtain ⟨s, rfl, s8, s32, sv⟩ := k1
  refine A6 rfl (A8 (vs := nums .u32 s) rfl rfl rfl (by rw [nums_len, s8]; kernel_rfl) (by rw [nums_len, nums_len, o8, s8]) E8 UpC.upd ?_)
  refine A0 (F7 2 3 4 5 6) (A3 (mv_ ?_))
  refine A4 (A0P 32 rfl rfl rfl (by decide) (A19 (by omega))) rfl ?_
  refine A4 (E5 (e := 30) (n := 8) (sz := 1) (i := i / 32) rfl rfl kR kR rfl (by omega)) rfl ?_
  refine A4 (Q0 (i / 32) rfl kR At.mem (by omega) (by omega)) rfl ?_
  refine mv_ ?_
  refine A4 (A0Q 32 rfl rfl rfl (by decide)) rfl ?_
  refine A4 (A2t (a := a.getD (i / 32) 0) (b := i % 32) rfl rfl rfl rfl (by show _ ≤ 32; omega)) rfl ?_
  refine A4 (hwb ▸ L9 1 2 rfl rfl rfl rfl rfl (by show _ < 4294967296; exact Nat.lt_of_le_of_lt (Nat.div_le_self _ _) (a32.get _)) (by decide)) rfl ?_
  refine A4 (F1 rfl rfl rfl) rfl ?_
  refine A0 (I5 2 3 4 5 6 22) ?_
  refine C8 rfl (fun hc => ?_) (fun hc => ?_)
  ·
   have hb1 : x / 2 ^ i % 2 = 1 := by revert hc; generalize x / 2 ^ i % 2 = z; intro hc; simp at hc; omega
   rw [if_pos hb1] at hts
   refine C3 ?_
   refine A4 (H7 (n := 8) (cs := nums .u32 s) rfl kR At.mem (by rw [nums_len]; omega)) rfl ?_
   refine A4 (H7 (n := 8) (cs := nums .u32 b) rfl kR At.mem (by rw [nums_len]; omega)) rfl ?_
   refine C9 (aS rfl (aS rfl a0)) kR (A6s _ _ _ _ h1 ⟨b, rfl, b8, b32, bv_⟩ (Nat.mod_lt _ (by decide)) hy _) rfl ?_
   rintro r2 M2 J2 ⟨rfl, rfl, k2⟩
   rw [← hts] at k2
   have h2 := k2
   obtain ⟨t, rfl, t8, t32, tv⟩ := k2
   refine A6 rfl (A8 (vs := nums .u32 t) rfl rfl rfl (by rw [nums_len, t8]; kernel_rfl) (by rw [nums_len, nums_len, s8, t8]) E8 UpC.upd ?_)
   refine D0 (nb (nx (F7 2 3 4 5 6) (C3 (mv_ ?_))))
   refine A4 (E4 ((i : Int) - 1) rfl rfl (Y8 rfl (by omega) (by omega))) rfl ?_
   refine as_ (D0 ?_)
   exact rn (i, t) ⟨by dsimp only; omega, h2⟩ (by dsimp only; omega) (F7 2 3 4 5 6) .rfl (fun _ h => h)
  ·
   have hb1 : ¬ x / 2 ^ i % 2 = 1 := by revert hc; generalize x / 2 ^ i % 2 = z; intro hc; simp at hc; omega
   rw [if_neg hb1] at hts
   refine A9 (nb (nx (F7 2 3 4 5 6) (C3 (mv_ ?_))))
   refine A4 (E4 ((i : Int) - 1) rfl rfl (Y8 rfl (by omega) (by omega))) rfl ?_
   refine as_ (D0 ?_)
   exact rn (i, s) ⟨by dsimp only; omega, by dsimp only; rw [hts]; exact h1⟩ (by dsimp only; omega) (F7 2 3 4 5 6) .rfl (fun _ h => h)
 ·
  have hj0 : j = 0 := by simp at hc; omega
  subst hj0
  refine E6 (te (re (be rfl (nx (D5 4 5) (A3 ?_)))))
  refine A4 (H7 (n := 8) (cs := nums .u32 o) rfl kR At.mem (by rw [nums_len]; omega)) rfl ?_
  refine A6 rfl (A8 (vs := nums .u32 o) rfl rfl rfl (by rw [nums_len, o8]; kernel_rfl) (by rw [nums_len, o8]; rfl) E8 UpC.upd ?_)
  refine A0 (D8 4) (C2 ?_)
  exact ⟨_, [], [], A1k (n := 8) rfl rfl kR At.mem (by rw [nums_len]; omega), List.nil_sublist _, by simp, rfl, rfl, by rw [show x * y0 % lN = tmN x y0 0 by unfold tmN; rw [Nat.pow_zero, Nat.div_one]]; exact ho0⟩
theorem A10 (pv : Value) (p : List Nat) (A : Mem) (hp : Rd A 1 pv p.length (nums .u8 p)) (hp256 : ∀ x ∈ p, x < 256) (hpl : p.length ≤ 1000000) : FnX Tryz.prog 146 [pv] [] A fun r M J => M = [] ∧ J = [] ∧ Sc r (bv p % lN) := by
 haveI := hp.cel
 refine FnX.enter (N := 30) Tryz.func146 rfl rfl rfl fun w => ?_
 refine C4 (D8 0) (A3 ?_)
 refine A6 rfl (C5 (cs := [G4, G4, G4, G4, G4, G4, G4, G4]) kR rfl fun b2 => ?_)
 refine A0 (D5 0 2) (A3 ?_)
 refine A6 rfl (C5 (cs := [G4, G4, G4, G4, G4, G4, G4, G4]) kR rfl fun b3 => ?_)
 refine A0 (E1 0 2 3) (A5 (A3 (mv_ ?_)))
 refine A4 (I3 (sz := 1) rfl kR hp) rfl ?_
 refine A4 (E4 ((8 * p.length : Nat) : Int) rfl rfl (A4F (by omega) (by omega) (by omega))) rfl ?_
 refine A4 (E4 (((8 * p.length : Nat) : Int) - 1) rfl rfl (Y8 rfl (by omega) (by omega))) rfl ?_
 refine as_ (A0 (E7 0 2 3 4) (C0 ?_))
 refine A0B (M' := [(b3, blk (nums .u32 [0, 0, 0, 0, 0, 0, 0, 0]) 223), (b2, blk [.int .u32 0, .int .u32 0, .int .u32 0, .int .u32 0, .int .u32 0, .int .u32 0, .int .u32 0, .int .u32 0] 223)]) (Fit.eq rfl) (fun _ h => h) ?_
 refine F2 (α := Nat × List Nat) (fun y => [(0, pv), (2, .pointer (some ⟨b2, 0, none⟩)), (3, .pointer (some ⟨b3, 0, none⟩)), (4, .int .i64 ((y.1 : Int) - 1))]) (fun y => [(b3, blk (nums .u32 y.2) 223), (b2, blk [.int .u32 0, .int .u32 0, .int .u32 0, .int .u32 0, .int .u32 0, .int .u32 0, .int .u32 0, .int .u32 0] 223)]) (fun _ => []) (fun y => y.1 ≤ 8 * p.length ∧ Sc (.agg (nums .u32 y.2).toArray) (tmN (bv p) 1 y.1)) (fun y => y.1) (8 * p.length, [0, 0, 0, 0, 0, 0, 0, 0]) ⟨Nat.le_refl _, _, rfl, rfl, B8S, by unfold tmN; rw [Nat.div_eq_of_lt (by have := B6w hp256; rwa [show 256 ^ p.length = 2 ^ (8 * p.length) by rw [Nat.pow_mul]] at this), Nat.zero_mul, Nat.zero_mod]; rfl⟩ (E7 0 2 3 4) .rfl (fun _ h => h) ?_
 rintro ⟨j, o⟩ ⟨hj, ho⟩
 dsimp only at hj ho ⊢
 have ho0 := ho
 obtain ⟨o_, e_, o8, o32, ov⟩ := ho
 obtain rfl : o = o_ := A8v (by simpa using e_)
 refine A5 (A3 (mv_ ?_))
 refine A4 (F1 rfl rfl rfl) rfl ?_
 refine A0 (F7 0 2 3 4 10) ?_
 refine C8 rfl (fun hc => ?_) (fun hc => ?_)
 ·
  have hj0 : 0 < j := by simp at hc; omega
  obtain ⟨i, rfl⟩ : ∃ i, j = i + 1 := ⟨j - 1, by omega⟩
  rw [show (((i + 1 : Nat) : Int) - 1) = (i : Int) by omega]
  have hts := B1a (bv p) 1 i
  have hwb := A6j hp256 i
  have htl := B5c (bv p) 1 (i + 1)
  have hpb : p.getD (i / 8) 0 < 256 := getD_lt hp256 (by decide)
  refine A9 (nx (E7 0 2 3 4) (A5 (C0 (A3 ?_))))
  refine A4 (H7 (n := 8) (cs := nums .u32 o) rfl kR At.mem (by rw [nums_len]; omega)) rfl ?_
  refine A4 (H7 (n := 8) (cs := nums .u32 o) rfl kR At.mem (by rw [nums_len]; omega)) rfl ?_
  refine C9 (aS rfl (aS rfl a0)) kR (A6s _ _ _ _ ho0 ho0 htl htl _) rfl ?_
  rintro r1 M1 J1 ⟨rfl, rfl, k1⟩
  have h1 := k1
  obtain ⟨s, rfl, s8, s32, sv⟩ := k1
  refine A6 rfl (A8 (vs := nums .u32 s) rfl rfl rfl (by rw [nums_len, s8]; kernel_rfl) (by rw [nums_len, nums_len, o8, s8]) E8 UpC.upd ?_)
  refine A0 (E7 0 2 3 4) (A3 (mv_ (mv_ ?_)))
  refine A4 (A0P 8 rfl rfl rfl (by decide) (A19 (by omega))) rfl ?_
  refine A4 (I7 (sz := 1) (a := i / 8) rfl rfl kR rfl hp (by omega)) rfl ?_
  refine A4 (A1b (j := i / 8) (u := .int .u8 ((p.getD (i / 8) 0 : Nat) : Int)) (hp.mono SubC.sub) rfl kR (Z4 (by omega))) rfl ?_
  refine mv_ ?_
  refine A4 (A0Q 8 rfl rfl rfl (by decide)) rfl ?_
  refine A4 (A2t (a := p.getD (i / 8) 0) (b := i % 8) rfl rfl rfl rfl (by show _ ≤ 8; omega)) rfl ?_
  refine A4 (hwb ▸ L9 1 2 rfl rfl rfl rfl rfl (by show _ < 256; exact Nat.lt_of_le_of_lt (Nat.div_le_self _ _) hpb) (by decide)) rfl ?_
  refine A4 (F1 rfl rfl rfl) rfl ?_
  refine A0 (F7 0 2 3 4 25) ?_
  refine C8 rfl (fun hc => ?_) (fun hc => ?_)
  ·
   have hb1 : bv p / 2 ^ i % 2 = 1 := by revert hc; generalize bv p / 2 ^ i % 2 = z; intro hc; simp at hc; omega
   rw [if_pos hb1] at hts
   refine C3 ?_
   refine A4 (H7 (n := 8) (cs := nums .u32 s) rfl kR At.mem (by rw [nums_len]; omega)) rfl ?_
   refine A4 (F3 (place := fun i => some (i * 1, 1)) (z := [G4, G4, G4, G4, G4, G4, G4, G4]) (fun _ => by kernel_rfl) (eS rfl e0) (bdS 0 1 rfl (by rfl) bd0)) rfl ?_
   refine C9 (aS rfl (aS rfl a0)) kR (A6s _ _ _ 1 h1 ⟨[1, 0, 0, 0, 0, 0, 0, 0], rfl, rfl, C0o, by decide⟩ (Nat.mod_lt _ (by decide)) (by decide) _) rfl ?_
   rintro r2 M2 J2 ⟨rfl, rfl, k2⟩
   rw [← hts] at k2
   have h2 := k2
   obtain ⟨t, rfl, t8, t32, tv⟩ := k2
   refine A6 rfl (A8 (vs := nums .u32 t) rfl rfl rfl (by rw [nums_len, t8]; kernel_rfl) (by rw [nums_len, nums_len, s8, t8]) E8 UpC.upd ?_)
   refine D0 (nb (nx (E7 0 2 3 4) (C3 (mv_ ?_))))
   refine A4 (E4 ((i : Int) - 1) rfl rfl (Y8 rfl (by omega) (by omega))) rfl ?_
   refine as_ (D0 ?_)
   exact rn (i, t) ⟨by dsimp only; omega, h2⟩ (by dsimp only; omega) (E7 0 2 3 4) .rfl (fun _ h => h)
  ·
   have hb1 : ¬ bv p / 2 ^ i % 2 = 1 := by revert hc; generalize bv p / 2 ^ i % 2 = z; intro hc; simp at hc; omega
   rw [if_neg hb1] at hts
   refine A9 (nb (nx (E7 0 2 3 4) (C3 (mv_ ?_))))
   refine A4 (E4 ((i : Int) - 1) rfl rfl (Y8 rfl (by omega) (by omega))) rfl ?_
   refine as_ (D0 ?_)
   exact rn (i, s) ⟨by dsimp only; omega, by dsimp only; rw [hts]; exact h1⟩ (by dsimp only; omega) (E7 0 2 3 4) .rfl (fun _ h => h)
 ·
  have hj0 : j = 0 := by simp at hc; omega
  subst hj0
  refine E6 (te (re (be rfl (nx (D5 2 3) (A3 ?_)))))
  refine A4 (H7 (n := 8) (cs := nums .u32 o) rfl kR At.mem (by rw [nums_len]; omega)) rfl ?_
  refine A6 rfl (A8 (vs := nums .u32 o) rfl rfl rfl (by rw [nums_len, o8]; kernel_rfl) (by rw [nums_len, o8]; rfl) E8 UpC.upd ?_)
  refine A0 (D8 2) (C2 ?_)
  exact ⟨_, [], [], A1k (n := 8) rfl rfl kR At.mem (by rw [nums_len]; omega), List.nil_sublist _, by simp, rfl, rfl, by rw [show bv p % lN = tmN (bv p) 1 0 by unfold tmN; rw [Nat.pow_zero, Nat.div_one, Nat.mul_one]]; exact ho0⟩
theorem A11 (v : Value) (n : Nat) (hv : Sc v n) (A : Mem) : FnV Tryz.prog 142 [v] A (.agg (nums .u8 (T0 n 32)).toArray) := by
 obtain ⟨a, rfl, a8, a32, av⟩ := hv
 refine FnX.enter (N := 21) Tryz.func142 rfl rfl rfl fun w => ?_
 refine C4 (D8 0) (A3 ?_)
 refine A6 rfl (bx_ fun b1 => ?_)
 refine A6 rfl (C5 (cs := [zu8, zu8, zu8, zu8, zu8, zu8, zu8, zu8, zu8, zu8, zu8, zu8, zu8, zu8, zu8, zu8, zu8, zu8, zu8, zu8, zu8, zu8, zu8, zu8, zu8, zu8, zu8, zu8, zu8, zu8, zu8, zu8]) kR rfl fun b2 => ?_)
 refine A0 (D5 1 2) (A3 ?_)
 refine A6 rfl (C5 (cs := [zu8, zu8, zu8, zu8, zu8, zu8, zu8, zu8, zu8, zu8, zu8, zu8, zu8, zu8, zu8, zu8, zu8, zu8, zu8, zu8, zu8, zu8, zu8, zu8, zu8, zu8, zu8, zu8, zu8, zu8, zu8, zu8]) kR rfl fun b3 => ?_)
 refine A0 (E1 1 2 3) (A5 (A3 (mv_ (A0 (E7 1 2 3 5) (C0 ?_)))))
 refine A0B (M' := [(b3, blk (nums .u8 (T0 n 0 ++ (List.replicate 32 0).drop 0)) 202), (b2, blk [.int .u8 0, .int .u8 0, .int .u8 0, .int .u8 0, .int .u8 0, .int .u8 0, .int .u8 0, .int .u8 0, .int .u8 0, .int .u8 0, .int .u8 0, .int .u8 0, .int .u8 0, .int .u8 0, .int .u8 0, .int .u8 0, .int .u8 0, .int .u8 0, .int .u8 0, .int .u8 0, .int .u8 0, .int .u8 0, .int .u8 0, .int .u8 0, .int .u8 0, .int .u8 0, .int .u8 0, .int .u8 0, .int .u8 0, .int .u8 0, .int .u8 0, .int .u8 0] 202), (b1, blk (nums .u32 a) 223)]) (Fit.eq rfl) (fun _ h => h) ?_
 refine F2 (α := Nat) (fun i => [(1, .pointer (some ⟨b1, 0, none⟩)), (2, .pointer (some ⟨b2, 0, none⟩)), (3, .pointer (some ⟨b3, 0, none⟩)), (5, .int .i64 (i : Int))]) (fun i => [(b3, blk (nums .u8 (T0 n i ++ (List.replicate 32 0).drop i)) 202), (b2, blk [.int .u8 0, .int .u8 0, .int .u8 0, .int .u8 0, .int .u8 0, .int .u8 0, .int .u8 0, .int .u8 0, .int .u8 0, .int .u8 0, .int .u8 0, .int .u8 0, .int .u8 0, .int .u8 0, .int .u8 0, .int .u8 0, .int .u8 0, .int .u8 0, .int .u8 0, .int .u8 0, .int .u8 0, .int .u8 0, .int .u8 0, .int .u8 0, .int .u8 0, .int .u8 0, .int .u8 0, .int .u8 0, .int .u8 0, .int .u8 0, .int .u8 0, .int .u8 0] 202), (b1, blk (nums .u32 a) 223)]) (fun _ => []) (fun i => i ≤ 32) (fun i => 32 - i) 0 (Nat.zero_le _) (E7 1 2 3 5) .rfl (fun _ h => h) ?_
 rintro i hi
 have hdl := K7 n i
 have hpl : (T0 n i ++ (List.replicate 32 0).drop i).length = 32 := A5h hdl (by simp) hi
 refine A3 ?_
 refine A4 (F1 rfl rfl rfl) rfl ?_
 refine A0 (F7 1 2 3 5 6) (A5 ?_)
 refine C8 rfl (fun hc => ?_) (fun hc => ?_)
 ·
  have hlt : i < 32 := by simp at hc; omega
  have hwb := B05 a32 i
  rw [av] at hwb
  refine A9 (nx (E7 1 2 3 5) (A5 (C0 (A3 (mv_ (as_ (A0 (F7 1 2 3 4 5) (C3 ?_))))))))
  refine mv_ (mv_ ?_)
  refine A4 (A0P 4 rfl rfl rfl (by decide) (A19 (by omega))) rfl ?_
  refine A4 (E5 (e := 30) (n := 8) (sz := 1) (i := i / 4) rfl rfl kR kR rfl (by omega)) rfl ?_
  refine A4 (Q0 (i / 4) rfl kR At.mem (by omega) (by omega)) rfl ?_
  refine mv_ ?_
  refine A4 (A0Q 4 rfl rfl rfl (by decide)) rfl ?_
  refine A4 (E4 ((8 * (i % 4) : Nat) : Int) rfl rfl (A4F (by omega) (by omega) (by omega))) rfl ?_
  refine A4 (A2t (a := a.getD (i / 4) 0) (b := 8 * (i % 4)) rfl rfl rfl rfl (by show _ ≤ 32; omega)) rfl ?_
  refine A4 (hwb ▸ A25 rfl kR) rfl ?_
  refine A4 (E5 (e := 5) (n := 32) (sz := 1) (i := i) rfl rfl kR kR rfl (by omega)) rfl ?_
  refine A6 rfl (S0 i rfl rfl kR (by omega) (by omega) UpC.upd ?_)
  refine D0 (nb (nx (E7 1 2 3 5) (C3 ?_)))
  refine A4 (E4 ((i + 1 : Nat) : Int) rfl rfl (G3 (by omega) (by omega) (by omega))) rfl ?_
  refine mv_ (D0 ?_)
  exact rn (i + 1) (by omega) (by omega) (E7 1 2 3 5) (Fit.eq (by rw [A5g hdl (by simpa using hlt), B03])) (fun _ h => h)
 ·
  have hge : i = 32 := by simp at hc; omega
  subst hge
  rw [show (List.replicate 32 0).drop 32 = ([] : List Nat) from rfl, List.append_nil] at *
  refine E6 (te (re (be rfl (nx (D5 2 3) (A3 ?_)))))
  refine A4 (H7 (n := 32) (cs := nums .u8 (T0 n 32)) rfl kR At.mem (by rw [nums_len]; omega)) rfl ?_
  refine A6 rfl (A8 (vs := nums .u8 (T0 n 32)) rfl rfl rfl (by rw [nums_len, K7]; kernel_rfl) (by rw [nums_len, K7]; rfl) E8 UpC.upd ?_)
  refine A0 (D8 2) (C2 ?_)
  exact ⟨_, [], [], A1k (n := 32) rfl rfl kR At.mem (by rw [nums_len, K7]), List.nil_sublist _, by simp, rfl, rfl, rfl⟩

end Go.Proofs.YthbhpfefdnffaaaGreatDoor
