/- Part 5 of the texts of this claim, one behind the other. -/
import Derived.Test.YthbhpfefdnffaaaGreatDoorB4
import Derived.Lib.ConvBytes
import Derived.Test.YthbhpfefdnffaaaGreatDoorRows
set_option linter.unusedVariables false
set_option linter.unusedSimpArgs false
set_option maxRecDepth 100000
namespace Go.Px
class PickC (M : Mem) (B : Mem) (R : outParam Mem) : Prop where
  perm : M.Perm (B ++ R)
instance (priority := low) PickC.nil {M : Mem} : PickC M [] M := ⟨.refl _⟩
instance (priority := high) PickC.here {B M : Mem} : PickC (B ++ M) B M := ⟨.refl _⟩
instance PickC.sing {x : Nat × Obj} {M : Mem} : PickC (x :: M) [x] M := ⟨.refl _⟩
instance (priority := low) PickC.cons {x : Nat × Obj} {M B R : Mem} [h : PickC M B R] : PickC (x :: M) B (x :: R) := ⟨(List.Perm.cons x h.perm).trans List.perm_middle.symm⟩
instance (priority := low) PickC.app {D M B R : Mem} [h : PickC M B R] : PickC (D ++ M) B (D ++ R) := ⟨(List.Perm.append_left D h.perm).trans (List.perm_append_comm_assoc D B R)⟩
instance PickC.whole {B : Mem} : PickC B B [] := ⟨by simp⟩
class SubC (X Y : Mem) : Prop where
  sub : ∀ x, x ∈ X → x ∈ Y
instance (priority := high) SubC.same {X : Mem} : SubC X X := ⟨fun _ h => h⟩
instance (priority := high) SubC.here {X Y : Mem} : SubC X (X ++ Y) := ⟨fun _ h => List.mem_append_left _ h⟩
instance SubC.left {X Y Z : Mem} [h : SubC X Y] : SubC X (Y ++ Z) := ⟨fun _ hx => List.mem_append_left _ (h.sub _ hx)⟩
instance (priority := low) SubC.right {X Y Z : Mem} [h : SubC X Z] : SubC X (Y ++ Z) := ⟨fun _ hx => List.mem_append_right _ (h.sub _ hx)⟩
instance (priority := low) SubC.tail {X Y : Mem} {y : Nat × Obj} [h : SubC X Y] : SubC X (y :: Y) := ⟨fun _ hx => List.mem_cons_of_mem _ (h.sub _ hx)⟩
instance SubC.nil {Y : Mem} : SubC [] Y := ⟨fun _ h => by simp at h⟩
instance SubC.sing {x : Nat × Obj} {Y : Mem} : SubC [x] (x :: Y) := ⟨fun _ h => by simp at h; simp [h]⟩
theorem Fit.pick {M B R M' : Mem} (h : M.Perm (B ++ R)) (hr : Fit R M') : Fit M (B ++ M') := by
  obtain ⟨M1, h1, h2⟩ := hr
  exact ⟨B ++ M1, h.trans (h1.append_left B), List.Sublist.append (List.Sublist.refl _) h2⟩
theorem Fit.last {M B R : Mem} (h : M.Perm (B ++ R)) : Fit M B := ⟨_, h, List.sublist_append_left _ _⟩
section rules
variable {P : Program} {R R' : Mem} {l : Env} {d : Option Nat} {ty t t' : TypeId} {pos : String} {af : Array Edge} {g : Option (Nat × Bool)} {x y z : Operand} {k k' : IntKind} {i j i' : Int} {a b : Nat} {v : Value} {sz n : Nat} {xs : List Value}
theorem N4 (hx : ev l x = some (.int .i64 i)) (hy : ev l y = some (.int .i64 j)) (hi : i = (a : Int)) (hj : j = (b : Int)) (h : a + b < 9223372036854775808) : OpQ P R ⟨d, .binOp .add t x y t', ty, pos, af, g⟩ l (.int .i64 ((a + b : Nat) : Int)) := by
  subst hi; subst hj; exact E4 _ hx hy (G3 (by omega) (by omega) (by omega))
theorem Q9 (hx : ev l x = some (.int .i64 i)) (hy : ev l y = some (.int .i64 j)) (hi : i = (a : Int)) (hj : j = (b : Int)) (h : b ≤ a) (h2 : a < 9223372036854775808) : OpQ P R ⟨d, .binOp .sub t x y t', ty, pos, af, g⟩ l (.int .i64 ((a - b : Nat) : Int)) := by
  subst hi; subst hj; exact E4 _ hx hy (Y8 (by omega) (by omega) (by omega))
theorem A1e (hx : ev l x = some (.int .i64 i)) (hy : ev l y = some (.int .i64 j)) (hi : i = (a : Int)) (hj : j = (b : Int)) (h : a * b < 9223372036854775808) : OpQ P R ⟨d, .binOp .mul t x y t', ty, pos, af, g⟩ l (.int .i64 ((a * b : Nat) : Int)) := by
  subst hi; subst hj; exact E4 _ hx hy (A4F (by simp) (by omega) (by omega))
theorem A1f (hx : ev l x = some (.int k i)) (hy : ev l y = some (.int k j)) (hi : i = (a : Int)) (hj : j = (b : Int)) (hb : 0 < b) : OpQ P R ⟨d, .binOp .rem t x y t', ty, pos, af, g⟩ l (.int k ((a % b : Nat) : Int)) := by
  subst hi; subst hj; exact A9M hx hy (by omega)
theorem A3i {m : Nat} (hk : k.signed = false) (hm : 2 ^ k.bits = m) (hx : ev l x = some (.int k i)) (hy : ev l y = some (.int k j)) (hi : i = (a : Int)) (hj : j = (b : Int)) (hb : 0 < b) (h : a < m) : OpQ P R ⟨d, .binOp .quo t x y t', ty, pos, af, g⟩ l (.int k ((a / b : Nat) : Int)) := by
  subst hi; subst hj; exact B4z hx hy (by omega) (by rw [Q5 hk, hm, Nat.mod_eq_of_lt (Nat.lt_of_le_of_lt (Nat.div_le_self a b) h)])
theorem A2t (hx : ev l x = some (.int k i)) (hy : ev l y = some (.int k' j)) (hi : i = (a : Int)) (hj : j = (b : Int)) (hs : b ≤ k.bits) : OpQ P R ⟨d, .binOp .shr t x y t', ty, pos, af, g⟩ l (.int k ((a / 2 ^ b : Nat) : Int)) := by
  subst hi; subst hj; rw [← Nat.shiftRight_eq_div_pow]; exact A0C b hx hy rfl hs
theorem B8e (m : Nat) (hk : k.signed = false) (hm : 2 ^ k.bits = m) (hx : ev l x = some (.int k i)) (hy : ev l y = some (.int k' j)) (hi : i = (a : Int)) (hj : j = (b : Int)) (hs : b ≤ k.bits) : OpQ P R ⟨d, .binOp .shl t x y t', ty, pos, af, g⟩ l (.int k ((a * 2 ^ b % m : Nat) : Int)) := by
  subst hi; subst hj; subst hm; rw [← Nat.shiftLeft_eq]; exact A35 hk b hx hy rfl hs
theorem I3 (hx : ev l x = some v) (hu : slE P t = some sz) (h : Rd R' sz v n xs) :
    OpQ P R ⟨d, .call { callee := .builtin .len, args := #[x], argTypes := #[t] }, ty, pos, af, g⟩ l (.int .i64 n) := A0E h hx hu
theorem A7Y (hx : ev l x = some v) (hy : ev l y = some (.int k i)) (hu : slE P t = some sz) (hi : i = (a : Int)) (h : Rd R' sz v n xs) (hj : a ≤ n) :
    OpQ P R ⟨d, .slice t x none (some y) none, ty, pos, af, g⟩ l (vHi a v) := B5R h hx hy hu a hi hj
theorem A7Z (hx : ev l x = some v) (hy : ev l y = some (.int k i)) (hu : slE P t = some sz) (hi : i = (a : Int)) (h : Rd R' sz v n xs) (hj : a ≤ n) :
    OpQ P R ⟨d, .slice t x (some y) none none, ty, pos, af, g⟩ l (vLo a sz v) := B5S h hx hy hu a hi hj
theorem B8f (hx : ev l x = some v) (hy : ev l y = some (.int k i)) (hz : ev l z = some (.int k' i')) (hu : slE P t = some sz) (hi : i = (a : Int)) (hi' : i' = (b : Int)) (h : Rd R' sz v n xs) (hab : a ≤ b) (hb : b ≤ n) :
    OpQ P R ⟨d, .slice t x (some y) (some z) none, ty, pos, af, g⟩ l (vLo a sz (vHi b v)) := B9Y h hx hy hz hu a b hi hi' hab hb
theorem A4Q {e : TypeId} {b o n sz : Nat} {lo hi mx : Option Operand} {nl nh nm : Option Nat} (hx : ev l x = some (.pointer (some ⟨b, o, none⟩))) (hu : P.underlying t = some (.array n e)) (hs : N8 P e = some sz)
    (h1 : EvO l lo nl) (h2 : EvO l hi nh) (h3 : EvO l mx nm) (hmh : nm.isSome = true → nh.isSome = true) (hm : nm.getD n ≤ n) (hh : nh.getD n ≤ nm.getD n) (hl : nl.getD 0 ≤ nh.getD n) :
    OpQ P R ⟨d, .slice t x lo hi mx, ty, pos, af, g⟩ l (.slice (some (if nm.getD n = nl.getD 0 then ⟨b, o, none⟩ else ⟨b, o + nl.getD 0 * sz, none⟩)) (nh.getD n - nl.getD 0) (nm.getD n - nl.getD 0)) := fun N a w ha hw => by
  unfold N8 at hs
  cases hq : P.info? e with
  | none => simp [hq] at hs
  | some inf =>
    simp only [hq, Option.map_some, Option.some.injEq] at hs
    subst hs
    simp only [execOp, ha.ev hx, Instr.sliceAt, Sem.run_bind, run_underlying hu, Result.andThen_ok, Instr.sureAddr, Sem.run_pure, T4 ha h1 h2 h3 false n n w hm hh hl hmh]
    simp [sizeOf, typeInfo, hq, Addr.add]
    by_cases h0 : nl.getD 0 * inf.size = 0 <;> simp [h0]
theorem A92 {e : TypeId} {b o n sz : Nat} (hx : ev l x = some (.pointer (some ⟨b, o, none⟩))) (hu : P.underlying t = some (.array n e)) (hs : N8 P e = some sz) :
    OpQ P R ⟨d, .slice t x none none none, ty, pos, af, g⟩ l (.slice (some ⟨b, o, none⟩) n n) := by
  have := A4Q (R := R) (d := d) (ty := ty) (pos := pos) (af := af) (g := g) hx hu hs o0 o0 o0 (by simp) (by simp) (by simp) (by simp)
  simpa using this
theorem A64 (lo hi : Nat) {e : TypeId} {b o n sz : Nat} (hx : ev l x = some (.pointer (some ⟨b, o, none⟩))) (hu : P.underlying t = some (.array n e)) (hs : N8 P e = some sz) (hy : ev l y = some (.int k i)) (hz : ev l z = some (.int k' i')) (hi1 : i = (lo : Int)) (hi2 : i' = (hi : Int)) (h0 : lo < n) (h1 : lo ≤ hi) (h2 : hi ≤ n) :
    OpQ P R ⟨d, .slice t x (some y) (some z) none, ty, pos, af, g⟩ l (.slice (some ⟨b, o + lo * sz, none⟩) (hi - lo) (n - lo)) := by
  have := A4Q (R := R) (d := d) (ty := ty) (pos := pos) (af := af) (g := g) hx hu hs (o1 lo hy hi1) (o1 hi hz hi2) o0 (by simp) (by simp) (by simpa using h2) (by simpa using h1)
  rw [if_neg (by simp; omega)] at this
  simpa using this
theorem B51 (hi : Nat) {e : TypeId} {b o n sz : Nat} (hx : ev l x = some (.pointer (some ⟨b, o, none⟩))) (hu : P.underlying t = some (.array n e)) (hs : N8 P e = some sz) (hz : ev l z = some (.int k' i')) (hi2 : i' = (hi : Int)) (h2 : hi ≤ n) :
    OpQ P R ⟨d, .slice t x none (some z) none, ty, pos, af, g⟩ l (.slice (some ⟨b, o, none⟩) hi n) := by
  have := A4Q (R := R) (d := d) (ty := ty) (pos := pos) (af := af) (g := g) hx hu hs o0 (o1 hi hz hi2) o0 (by simp) (by simp) (by simpa using h2) (by simp)
  simpa using this
theorem Rd.mid {R : Mem} {b o n cap : Nat} {cs : List Value} {e : TypeId} {fr : Nat × Nat} (hb : (b, Obj.cells cs.toArray e fr) ∈ R) (h : o + n ≤ cs.length) (hc : n ≤ cap) : Rd R 1 (.slice (some ⟨b, o, none⟩) n cap) n ((cs.drop o).take n) := by
  refine ⟨_, cap, rfl, by simp; omega, hc, .inr ⟨b, o, cs, e, fr, rfl, hb, fun j u hj => ?_⟩⟩
  have hjn : j < n := by have := (List.getElem?_eq_some_iff.1 hj).1; simp at this; omega
  rw [List.getElem?_take_of_lt hjn, List.getElem?_drop] at hj
  exact hj
theorem I7 (hx : ev l x = some v) (hy : ev l y = some (.int k i)) (hu : slE P t = some sz) (hi : i = (a : Int)) (h : Rd R' sz v n xs) (hj : a < n) :
    OpQ P R ⟨d, .indexAddr t x y, ty, pos, af, g⟩ l (vAt sz a v) := B2w h hx hy hu a hi hj
theorem Rd.one {R : Mem} {v : Value} {n sz : Nat} {xs : List Value} (h : Rd R sz v n xs) : v.oneCell' = true := by
  obtain ⟨p, c, rfl, _⟩ := h; rfl
theorem Sl.one {B : Mem} {v : Value} {n sz : Nat} {xs : List Value} (h : Sl sz v n xs B) : v.oneCell' = true := by
  obtain ⟨p, c, rfl, _⟩ := h.val; rfl
theorem A0F {rows : List (List Value)} {r : List Value} (hx : ev l x = some (vAt sz a v)) (ht : A8U P t = some sz) (h : Rd R sz v n rows.flatten) (hl : ∀ r ∈ rows, r.length = sz) (hs : 0 < sz) (hr : rows[a]? = some r) : OpQ P R ⟨d, .load t x, ty, pos, af, g⟩ l (.agg r.toArray) := by
  obtain ⟨p, c, rfl, h2, h3, h4⟩ := h
  have hal := (List.getElem?_eq_some_iff.1 hr).1
  have hfl := A7P hl
  rcases h4 with rfl | ⟨b, o, cs, e', fr, rfl, hb, hx'⟩
  · rw [h2, Nat.zero_mul] at hfl
    have := Nat.mul_pos (show 0 < rows.length by omega) hs
    omega
  · simp only [vAt, Addr.add_mid] at hx
    refine A4z hx ht hb (hl r (List.mem_of_getElem? hr)) fun j u hj => ?_
    have hjl : j < sz := by have := (List.getElem?_eq_some_iff.1 hj).1; rwa [hl r (List.mem_of_getElem? hr)] at this
    rw [Nat.add_assoc]
    exact hx' _ _ (by rw [A2D hl hr j hjl]; exact hj)
theorem Q6 {s : TypeId} {ws : List Nat} (hx : ev l x = some v) (hc : A9Q P s t = true) (h : Rd R 1 v n (nums .u8 ws)) : OpQ P R ⟨d, .convert s t x, ty, pos, af, g⟩ l (.string (txt ws)) := A3a h hx hc
end rules
section loud
variable {C : Cx} {l : Env} {M J : Mem} {K : Env → Mem → Mem → Prop} {d : Nat} {ty t e : TypeId} {pos : String} {af : Array Edge} {g : Option (Nat × Bool)} {x y : Operand} {k : IntKind}
theorem B4E {v : Value} {ws : List Nat} {n a u : Nat} {B M0 : Mem} {i : Int} (hx : ev l x = some (vAt 1 a v)) (hy : ev l y = some (.int k i)) (hi : i = (u : Int)) (ht : N8 C.P t = some 1) (h : Sl 1 v n (nums k ws) B) (hj : a < n) (hM : M.Perm (B ++ M0)) (h2 : ∀ B', Sl 1 v n (nums k (ws.set a u)) B' → K l (B' ++ M0) J) :
    OpL C ⟨none, .store t x y, ty, pos, af, g⟩ l M J K := B9Z h hx (hi ▸ hy) ht hj hM h2
theorem I8 {sz by_ n m : Nat} {v u : Value} {xs ys : List Value} {B M0 : Mem} (hx : ev l x = some v) (hy : ev l y = some u) (ht : A20 C.P t = some (e, sz, by_)) (hsz : Nat.blt 0 sz = true)
    (hs : Sl sz v n xs B) (hr : Rd (M ++ (J ++ C.A)) sz u m ys) (h1c : ∀ c ∈ ys, c.oneCell' = true) (hM : M.Perm (B ++ M0)) (hmax : n + m ≤ maxLen) (hbytes : (n + m) * by_ ≤ 140737488355328) (hd : Nat.blt d C.N = true)
    (k : ∀ v' B', Sl sz v' (n + m) (xs ++ ys) B' → K ((d, v') :: l) (B' ++ M0) J) :
    OpL C ⟨some d, .call { callee := .builtin .append, args := #[x, y], argTypes := #[t, t] }, ty, pos, af, g⟩ l M J K := T3 hx hy ht hsz hs hr h1c hM hmax hbytes hd k
theorem B52 {by_ : Nat} {kl kc : IntKind} {i j : Int} {a : Nat} (hx : ev l x = some (.int kl i)) (hy : ev l y = some (.int kc j)) (ht : mkT C.P t = some (e, k, by_)) (hi : i = (a : Int)) (hj : j = (a : Int))
    (hb : by_ * a ≤ 281474976710656) (hn : a ≤ 140737488355328) (hd : Nat.blt d C.N = true) (h : ∀ v B, Sl 1 v a (nums k (List.replicate a 0)) B → K ((d, v) :: l) (B ++ M) J) :
    OpL C ⟨some d, .makeSlice t x y, ty, pos, af, g⟩ l M J K := A3b a hx hy ht hi hj hb (by omega) hd fun b => h _ _ (Sl.fresh (by simp) (by unfold maxLen; omega))
theorem A93 {f : FuncId} {xs : List Operand} {vs : List Value} {ts : Array TypeId} {Mc R : Mem} {post : Value → Mem → Mem → Prop} (hx : Evs l xs vs) (hc : K2 C.P f = true) (hf : FnX C.P f vs Mc (R ++ (J ++ C.A)) post) (hM : M.Perm (Mc ++ R)) (hd : Nat.blt d C.N = true)
    (k : ∀ r M' J', post r M' J' → K ((d, r) :: l) (M' ++ R) (J' ++ J)) : OpL C ⟨some d, .call { callee := .value (.func f), args := xs.toArray, argTypes := ts }, ty, pos, af, g⟩ l M J K := E0 hx hc hM hf hd k
end loud
end Go.Px

namespace Go.Px
theorem A0R (p : List Nat) : (txt p).size = p.length := by simp [txt, ByteArray.size]
theorem B6a {ws : List Nat} (h : ∀ x ∈ ws, x < 256) {j : Nat} (hj : j < ws.length) : (txt ws)[j]? = some (UInt8.ofNat (ws.getD j 0)) := by
  have h2 : j < (txt ws).size := by rw [A0R]; exact hj
  rw [getElem?_pos (txt ws) j h2]
  congr 1
  show ((ws.map UInt8.ofNat).toArray)[j]'_ = _
  simp only [List.getD, List.getElem?_eq_getElem hj, Option.getD_some]
  have : ∀ (l : List Nat) (h : j < l.length) (h' : j < (l.map UInt8.ofNat).toArray.size), (l.map UInt8.ofNat).toArray[j] = UInt8.ofNat l[j] := fun l h h' => by simp
  exact this ws hj _
theorem A94 {a b : List Nat} (ha : ∀ x ∈ a, x < 256) (hb : ∀ x ∈ b, x < 256) : ((txt a).toList == (txt b).toList) = decide (a = b) := by
  have e : ∀ w : List Nat, (txt w).toList = w.map UInt8.ofNat := fun w => by
    rw [ByteArray.toList_eq] <;> simp [txt]
  by_cases h : a = b
  · subst h; simp
  · rw [decide_eq_false h]
    rw [e, e, beq_eq_false_iff_ne]
    intro hc
    exact h (A6Z ha hb (by unfold txt; rw [hc]))
theorem A65 (ws : List Nat) (lo hi : Nat) : (txt ws).extract lo hi = txt ((ws.take hi).drop lo) := by
  apply ByteArray.ext
  simp [txt, ByteArray.data_extract, List.map_take, List.map_drop, List.extract_eq_take_drop, List.drop_take]
section
variable {P : Program} {R : Mem} {l : Env} {d : Option Nat} {ty s t t' e : TypeId} {pos : String} {af : Array Edge} {g : Option (Nat × Bool)} {x y z : Operand} {v : Value} {n a b : Nat} {k k' : IntKind} {i i' : Int} {S S' : ByteArray} {ws ws' : List Nat}
theorem B6b (hx : ev l x = some (.string S)) (hS : S = txt ws) (h256 : ∀ x ∈ ws, x < 256) (hy : ev l y = some (.int k i)) (hu : P.underlying t = some .string) (hi : i = (a : Int)) (ha : a < ws.length) :
    OpQ P R ⟨d, .index t x y, ty, pos, af, g⟩ l (.int .u8 ((ws.getD a 0 : Nat) : Int)) := fun N A w hA hw => by
  subst hi; subst hS
  have h1 := getD_lt (i := a) h256 (by decide)
  simp only [execOp, hA.ev hx, hA.ev hy, Instr.index, asIntOf, Sem.run_bind, Sem.run_pure, run_underlying hu, Result.andThen_ok, Int.toNat_natCast, B6a h256 ha, if_pos (Int.natCast_nonneg a)]
  have : (UInt8.ofNat (ws.getD a 0)).toNat = ws.getD a 0 := by
    generalize ws.getD a 0 = c at h1
    simp; omega
  simp only [this, Sem.run_pure]
theorem C0c {lo hi : Option Operand} {nl nh : Option Nat} (hx : ev l x = some (.string S)) (hS : S = txt ws) (hu : P.underlying t = some .string) (h1 : EvO l lo nl) (h2 : EvO l hi nh) (hh : nh.getD ws.length ≤ ws.length) (hl : nl.getD 0 ≤ nh.getD ws.length) :
    OpQ P R ⟨d, .slice t x lo hi none, ty, pos, af, g⟩ l (.string (txt ((ws.take (nh.getD ws.length)).drop (nl.getD 0)))) := fun N A w hA hw => by
  subst hS
  have hb := T4 (P := P) (lo := lo) (hi := hi) (mx := none) hA h1 h2 o0 false ws.length ws.length w (by simp) (by simpa using hh) (by simpa using hl) (by simp)
  simp only [Option.map_none] at hb
  simp only [execOp, hA.ev hx, Instr.sliceAt, Sem.run_bind, run_underlying hu, Result.andThen_ok, Instr.slice, Option.map_none, Option.isSome_none, Bool.false_eq_true, if_false, A0R, hb]
  simp [A65]
theorem B8g (hx : ev l x = some (.string S)) (hS : S = txt ws) (hy : ev l y = some (.int k i)) (hz : ev l z = some (.int k' i')) (hu : P.underlying t = some .string) (hi : i = (a : Int)) (hi' : i' = (b : Int)) (hab : a ≤ b) (h : b ≤ ws.length) : OpQ P R ⟨d, .slice t x (some y) (some z) none, ty, pos, af, g⟩ l (.string (txt ((ws.take b).drop a))) := by
  have := C0c (P := P) (R := R) (d := d) (ty := ty) (pos := pos) (af := af) (g := g) hx hS hu (o1 a hy hi) (o1 b hz hi') (by simpa using h) (by simpa using hab)
  simpa using this
theorem A4b (hx : ev l x = some (.string S)) (hy : ev l y = some (.string S')) (hS : S = txt ws) (hS' : S' = txt ws') (h : ws.length + ws'.length ≤ 9223372036854775807) : OpQ P R ⟨d, .binOp .add t x y t', ty, pos, af, g⟩ l (.string (txt (ws ++ ws'))) := by
  subst hS; subst hS'
  have := B2m (P := P) (R := R) (d := d) (ty := ty) (pos := pos) (af := af) (g := g) (t := t) (t' := t') hx hy (by rw [A0R, A0R]; exact h)
  rwa [A8Y] at this
theorem B8h (hx : ev l x = some (.string S)) (hy : ev l y = some (.string S')) (hS : S = txt ws) (hS' : S' = txt ws') (h : ∀ x ∈ ws, x < 256) (h' : ∀ x ∈ ws', x < 256) : OpQ P R ⟨d, .binOp .eql t x y t', ty, pos, af, g⟩ l (.bool (decide (ws = ws'))) := by
  subst hS; subst hS'
  have := A9F (P := P) (R := R) (d := d) (ty := ty) (pos := pos) (af := af) (g := g) (t := t) (t' := t') hx hy
  rwa [A94 h h'] at this
theorem B2I (hx : ev l x = some (.string S)) (hy : ev l y = some (.string S')) (hS : S = txt ws) (hS' : S' = txt ws') (h : ∀ x ∈ ws, x < 256) (h' : ∀ x ∈ ws', x < 256) : OpQ P R ⟨d, .binOp .neq t x y t', ty, pos, af, g⟩ l (.bool !(decide (ws = ws'))) := by
  subst hS; subst hS'
  have := B5G (P := P) (R := R) (d := d) (ty := ty) (pos := pos) (af := af) (g := g) (t := t) (t' := t') hx hy
  rwa [A94 h h'] at this
end
class B256 (ws : List Nat) : Prop where
  lt : ∀ x ∈ ws, x < 256
instance B256.nil : B256 [] := ⟨fun _ h => by cases h⟩
instance B256.app {a b : List Nat} [ha : B256 a] [hb : B256 b] : B256 (a ++ b) := ⟨fun x h => (List.mem_append.1 h).elim (ha.lt x) (hb.lt x)⟩
instance B256.take {a : List Nat} {n : Nat} [ha : B256 a] : B256 (a.take n) := ⟨fun x h => ha.lt x (List.mem_of_mem_take h)⟩
instance B256.drop {a : List Nat} {n : Nat} [ha : B256 a] : B256 (a.drop n) := ⟨fun x h => ha.lt x (List.mem_of_mem_drop h)⟩
theorem B256.cons {x : Nat} {a : List Nat} (hx : x < 256) (ha : B256 a) : B256 (x :: a) := ⟨fun y h => (List.mem_cons.1 h).elim (fun h => h ▸ hx) (ha.lt y)⟩
def isNil : Value → Bool
  | .slice none _ _ => true
  | _ => false
section
variable {P : Program} {R R' : Mem} {l : Env} {d : Option Nat} {ty t t' e : TypeId} {pos : String} {af : Array Edge} {g : Option (Nat × Bool)} {x y : Operand} {v : Value} {n sz : Nat} {xs : List Value} {ms : Array (String × TypeId)}
def isIf (P : Program) (t : TypeId) : Bool :=
  match P.underlying t with
  | some (.interface _) => true
  | _ => false
theorem Rd.isNil {R : Mem} (h : Rd R sz v n xs) (hn : Px.isNil v = true) : n = 0 := by
  obtain ⟨p, c, rfl, _, _, h4⟩ := h
  rcases h4 with h4 | ⟨b, o, cs, e', fr, rfl, _⟩
  · exact h4
  · cases hn
theorem A5V (hx : ev l x = some v) (hu : P.underlying t = some (.slice e)) (h : Rd R' sz v n xs) : OpQ P R ⟨d, .binOp .eql t x (.const (.slice none 0 0)) t', ty, pos, af, g⟩ l (.bool (isNil v)) := fun N a w ha hw => by
  have hy : a.eval (.const (.slice none 0 0)) = .slice none 0 0 := rfl
  obtain ⟨p, c, rfl, _⟩ := h
  simp only [execOp, ha.ev hx, hy, Sem.run_bind]
  have : (Op.equal t (.slice p n c) (.slice none 0 0)).run P w = .ok p.isNone w := by
    show (Op.equalIn (9999 + 1) t (.slice p n c) (.slice none 0 0)).run P w = .ok p.isNone w
    rw [Op.equalIn]
    cases p <;> simp [run_underlying hu]
  simp [eqGuard, binOp, this]
  cases p <;> rfl
end
section
variable {C : Cx} {l : Env} {M J : Mem} {K : Env → Mem → Mem → Prop} {d : Nat} {s t e ty : TypeId} {pos : String} {af : Array Edge} {g : Option (Nat × Bool)} {x y : Operand} {ws : List Nat} {S : ByteArray}
theorem A95 (hx : ev l x = some (.string S)) (hS : S = txt ws) (h256 : ∀ x ∈ ws, x < 256) (hs : C.P.underlying s = some .string) (ht : C.P.underlying t = some (.slice e)) (he : C.P.underlying e = some (.int .u8)) (hd : Nat.blt d C.N = true)
    (k : ∀ v B, Rd B 1 v ws.length (nums .u8 ws) → K ((d, v) :: l) (B ++ M) J) : OpL C ⟨some d, .convert s t x, ty, pos, af, g⟩ l M J K := by
  subst hS
  intro Qp a w ha hw
  unfold Oper.wp
  simp only [execOp, ha.ev hx, Sem.run_bind, Lib.run_convert_string_bytes w s t e (txt ws) hs ht he, Result.andThen_ok, Sem.run_pure]
  have hsz : (txt ws).size = ws.length := A0R ws
  have e1 : Lib.bytesWorld w e (txt ws) = w.drew.alloc (.cells (Lib.bytesCells w e (txt ws)) e ((Lib.bytesCells w e (txt ws)).size, (Lib.bytesCells w e (txt ws)).size + 1)) := by
    have hh : (Lib.bytesWorld w e (txt ws)).heap = (w.drew.alloc (.cells (Lib.bytesCells w e (txt ws)) e ((Lib.bytesCells w e (txt ws)).size, (Lib.bytesCells w e (txt ws)).size + 1))).heap := by
      apply Array.ext_getElem?
      intro i
      rcases Nat.lt_trichotomy i w.heap.size with h | h | h
      · rw [Lib.bytesWorld_at_old w e _ i h]; simp [World.alloc, World.drew, Array.getElem?_push, -World.alloc_eq, -World.drew_eq]; omega
      · subst h; rw [Lib.bytesWorld_at_new]; simp [World.alloc, World.drew, -World.alloc_eq, -World.drew_eq]
      · rw [Array.getElem?_eq_none (by rw [Lib.bytesWorld_size]; omega), Array.getElem?_eq_none (by simp [World.alloc, World.drew, -World.alloc_eq, -World.drew_eq]; omega)]
    have : Lib.bytesWorld w e (txt ws) = { w.drew with heap := (Lib.bytesWorld w e (txt ws)).heap } := rfl
    rw [this, hh]; rfl
  rw [e1]
  have hg : ws.length ≤ grownCap w (txt ws).size 0 e := hsz ▸ grownCap_ge w (txt ws).size 0 e
  refine ⟨_, _, J, ha.put (C7 hd) _, hw.drew.alloc _, k _ [(_, _)] ⟨some ⟨w.heap.size, 0, none⟩, grownCap w (txt ws).size 0 e, by rw [hsz], by simp, hg, .inr ⟨w.heap.size, 0, (Lib.bytesCells w e (txt ws)).toList, e, _, rfl, List.mem_singleton.2 rfl, fun j u hj => ?_⟩⟩⟩
  have hjl : j < ws.length := by have := (List.getElem?_eq_some_iff.1 hj).1; simpa using this
  rw [Z4 hjl] at hj
  cases hj
  have h1 := getD_lt (i := j) h256 (by decide)
  rw [Nat.zero_add, Array.getElem?_toList]
  unfold Lib.bytesCells
  rw [Array.getElem?_append_left (by simpa [txt] using hjl)]
  simp [txt, hjl, List.getD]
  have : ws[j]?.getD 0 < 256 := h1
  rw [List.getElem?_eq_getElem hjl] at this
  simp at this
  omega
end
end Go.Px

namespace Go.Px
def ndF : Nat → Nat → Nat
  | 0, _ => 1
  | f + 1, u => if u < 10 then 1 else ndF f (u / 10) + 1
def nd10 (u : Nat) : Nat := ndF 64 u
def dgs (n u : Nat) : List Nat := (List.range n).map fun j => 48 + u / 10 ^ (n - 1 - j) % 10
def dec (u : Nat) : List Nat := dgs (nd10 u) u
def dv (l : List Nat) : Nat := l.foldl (fun a c => a * 10 + (c - 48)) 0
theorem A4R : ∀ f u, 1 ≤ ndF f u
  | 0, _ => Nat.le_refl _
  | f + 1, u => by unfold ndF; split <;> omega
theorem A5W : ∀ f u, u < 10 ^ (f + 1) → u < 10 ^ ndF f u
  | 0, u, h => by simpa [ndF] using h
  | f + 1, u, h => by
    unfold ndF
    split
    · simpa using by assumption
    · have h1 : u / 10 < 10 ^ (f + 1) := Nat.div_lt_of_lt_mul (by rw [← Nat.pow_succ']; exact h)
      have := A5W f (u / 10) h1
      rw [Nat.pow_succ]
      omega
theorem A96 : ∀ f u, 10 ≤ u → 10 ^ (ndF f u - 1) ≤ u
  | 0, u, h => by simp [ndF]; omega
  | f + 1, u, h => by
    unfold ndF
    rw [if_neg (by omega), Nat.add_sub_cancel]
    by_cases h2 : 10 ≤ u / 10
    · have h3 := A96 f (u / 10) h2
      have h4 := A4R f (u / 10)
      rw [show ndF f (u / 10) = (ndF f (u / 10) - 1) + 1 by omega, Nat.pow_succ]
      omega
    · have : ndF f (u / 10) = 1 := by
        cases f with
        | zero => rfl
        | succ f => unfold ndF; rw [if_pos (by omega)]
      rw [this]; simpa using h
theorem A5X {u n : Nat} (hn : 0 < n) (h : u < 10 ^ n) (h2 : n = 1 ∨ 10 ^ (n - 1) ≤ u) (hu : u < 18446744073709551616) : nd10 u = n := by
  have h1 : u < 10 ^ nd10 u := A5W 64 u (Nat.lt_trans hu (by decide))
  have h0 : 1 ≤ nd10 u := A4R 64 u
  by_cases h10 : 10 ≤ u
  · have h3 : 10 ^ (nd10 u - 1) ≤ u := A96 64 u h10
    have h4 : 10 ^ (n - 1) ≤ u := by
      rcases h2 with rfl | h2
      · simp; omega
      · exact h2
    have a : nd10 u - 1 < n := (Nat.pow_lt_pow_iff_right (by decide : 1 < 10)).1 (Nat.lt_of_le_of_lt h3 h)
    have b : n - 1 < nd10 u := (Nat.pow_lt_pow_iff_right (by decide : 1 < 10)).1 (Nat.lt_of_le_of_lt h4 h1)
    omega
  · have hd : nd10 u = 1 := by unfold nd10 ndF; rw [if_pos (by omega)]
    rcases h2 with rfl | h2
    · exact hd
    · have : 10 ^ (n - 1) < 10 ^ 1 := by omega
      have := (Nat.pow_lt_pow_iff_right (by decide : 1 < 10)).1 this
      omega
theorem A2a {u : Nat} (hu : u < 18446744073709551616) : nd10 u ≤ 20 := by
  by_cases h10 : 10 ≤ u
  · have h3 : 10 ^ (nd10 u - 1) ≤ u := A96 64 u h10
    have : 10 ^ (nd10 u - 1) < 10 ^ 20 := Nat.lt_of_le_of_lt h3 (Nat.lt_trans hu (by decide))
    have := (Nat.pow_lt_pow_iff_right (by decide : 1 < 10)).1 this
    omega
  · have hd : nd10 u = 1 := by unfold nd10 ndF; rw [if_pos (by omega)]
    omega
theorem A1n (n u : Nat) : (dgs n u).length = n := by simp [dgs]
theorem B6c {n u c : Nat} (h : c ∈ dgs n u) : 48 ≤ c ∧ c < 58 := by
  simp only [dgs, List.mem_map] at h
  obtain ⟨j, _, rfl⟩ := h
  omega
theorem B2J (n u : Nat) : dgs (n + 1) u = dgs n (u / 10) ++ [48 + u % 10] := by
  unfold dgs
  rw [List.range_succ, List.map_append]
  congr 1
  · apply List.map_congr_left
    intro j hj
    have := List.mem_range.1 hj
    rw [Nat.div_div_eq_div_mul, ← Nat.pow_succ']
    congr 4; omega
  · simp
theorem B8i (l : List Nat) (c : Nat) : dv (l ++ [c]) = dv l * 10 + (c - 48) := by simp [dv]
theorem B4F : ∀ n u, dv (dgs n u) = u % 10 ^ n
  | 0, u => by simp [dgs, dv, Nat.mod_one]
  | n + 1, u => by
    rw [B2J, B8i, B4F n, Nat.pow_succ', Nat.mod_mul]
    omega
theorem A4c {u : Nat} (hu : u < 18446744073709551616) : dv (dec u) = u := by
  unfold dec nd10
  rw [B4F, Nat.mod_eq_of_lt (A5W 64 u (Nat.lt_trans hu (by decide)))]
theorem A2b {u c : Nat} (h : c ∈ dec u) : 48 ≤ c ∧ c < 58 := B6c h
theorem A4S (u : Nat) : (dec u).length = nd10 u := A1n _ _
def decI (i : Int) : List Nat := if i < 0 then 45 :: dec i.natAbs else dec i.natAbs
theorem A2P {i : Int} {c : Nat} (h : c ∈ decI i) : c = 45 ∨ (48 ≤ c ∧ c < 58) := by
  unfold decI at h
  split at h
  · rcases List.mem_cons.1 h with h | h
    · exact .inl h
    · exact .inr (A2b h)
  · exact .inr (A2b h)
theorem A70 {i j : Int} (hi : i.natAbs < 18446744073709551616) (hj : j.natAbs < 18446744073709551616) (h : decI i = decI j) : i = j := by
  have head : ∀ (u : Nat) (l : List Nat), dec u ≠ 45 :: l := by
    intro u l e
    have : 45 ∈ dec u := by rw [e]; exact List.mem_cons_self
    have := A2b this; omega
  unfold decI at h
  split at h <;> split at h
  · have := congrArg dv (List.cons.inj h).2
    rw [A4c hi, A4c hj] at this; omega
  · exact absurd h.symm (head _ _)
  · exact absurd h (head _ _)
  · have := congrArg dv h
    rw [A4c hi, A4c hj] at this; omega
theorem A2Q {i : Int} (h : i.natAbs < 18446744073709551616) : (decI i).length ≤ 21 := by
  have := A2a h
  unfold decI
  split <;> simp [A4S] <;> omega
def A9C (f : List Nat) (fs : List (List Nat)) : List Nat := f ++ fs.flatMap (fun x => 32 :: x)
theorem A66 {c : Nat} : ∀ {a b x y : List Nat}, c ∉ a → c ∉ b → a ++ c :: x = b ++ c :: y → a = b ∧ x = y
  | [], [], x, y, _, _, h => ⟨rfl, (List.cons.inj h).2⟩
  | [], b :: bs, x, y, _, hb, h => by
    have := (List.cons.inj h).1
    exact absurd (this ▸ List.mem_cons_self) hb
  | a :: as_, [], x, y, ha, _, h => by
    have := (List.cons.inj h).1
    exact absurd (this ▸ List.mem_cons_self) ha
  | a :: as_, b :: bs, x, y, ha, hb, h => by
    obtain ⟨h1, h2⟩ := List.cons.inj h
    obtain ⟨h3, h4⟩ := A66 (fun h => ha (List.mem_cons_of_mem _ h)) (fun h => hb (List.mem_cons_of_mem _ h)) h2
    exact ⟨by rw [h1, h3], h4⟩
theorem A71 : ∀ {fs gs : List (List Nat)} {f g : List Nat}, 32 ∉ f → 32 ∉ g → (∀ x ∈ fs, 32 ∉ x) → (∀ x ∈ gs, 32 ∉ x) → A9C f fs = A9C g gs → f = g ∧ fs = gs
  | [], [], f, g, _, _, _, _, h => ⟨by simpa [A9C] using h, rfl⟩
  | [], y :: gs, f, g, hf, hg, _, _, h => by
    have : 32 ∈ f := by
      have e : f = g ++ 32 :: (y ++ gs.flatMap fun x => 32 :: x) := by simpa [A9C] using h
      rw [e]; simp
    exact absurd this hf
  | y :: fs, [], f, g, hf, hg, _, _, h => by
    have : 32 ∈ g := by
      have e : f ++ 32 :: (y ++ fs.flatMap fun x => 32 :: x) = g := by simpa [A9C] using h
      rw [← e]; simp
    exact absurd this hg
  | y :: fs, z :: gs, f, g, hf, hg, h1, h2, h => by
    have e : f ++ 32 :: A9C y fs = g ++ 32 :: A9C z gs := by simpa [A9C] using h
    obtain ⟨a, b⟩ := A66 hf hg e
    obtain ⟨c, d⟩ := A71 (h1 y (by simp)) (h2 z (by simp)) (fun x hx => h1 x (by simp [hx])) (fun x hx => h2 x (by simp [hx])) b
    exact ⟨a, by rw [c, d]⟩
structure Tm where
  kind : Nat
  of : List Int
  text : List Nat
  n : Int
def Tm.nm (t : Tm) : List Nat := A9C (dec t.kind) (decI t.n :: t.of.map decI) ++ 58 :: t.text
structure Tm.ok (t : Tm) : Prop where
  kind : t.kind < 256
  n : t.n.natAbs < 18446744073709551616
  of : ∀ i ∈ t.of, i.natAbs < 18446744073709551616
  text : ∀ c ∈ t.text, c < 256
theorem Z6 {i : Int} {c : Nat} (h : c = 32 ∨ c = 58) : c ∉ decI i := fun hc => by have := A2P hc; omega
theorem A1o {u c : Nat} (h : c = 32 ∨ c = 58) : c ∉ dec u := fun hc => by have := A2b hc; omega
theorem Tm.nm_inj {s t : Tm} (hs : s.ok) (ht : t.ok) (h : s.nm = t.nm) : s = t := by
  have no58 : ∀ (u : Tm), 58 ∉ A9C (dec u.kind) (decI u.n :: u.of.map decI) := by
    intro u hc
    simp only [A9C, List.mem_append, List.mem_flatMap, List.mem_cons, List.mem_map] at hc
    rcases hc with hc | ⟨x, hx, hc⟩
    · exact A1o (.inr rfl) hc
    · rcases hc with hc | hc
      · omega
      · rcases hx with rfl | ⟨i, _, rfl⟩
        · exact Z6 (.inr rfl) hc
        · exact Z6 (.inr rfl) hc
  have no32 : ∀ (u : Tm), ∀ x ∈ decI u.n :: u.of.map decI, 32 ∉ x := by
    intro u x hx
    rcases List.mem_cons.1 hx with rfl | hx
    · exact Z6 (.inl rfl)
    · obtain ⟨i, _, rfl⟩ := List.mem_map.1 hx
      exact Z6 (.inl rfl)
  obtain ⟨h1, h2⟩ := A66 (no58 s) (no58 t) h
  obtain ⟨h3, h4⟩ := A71 (A1o (.inl rfl)) (A1o (.inl rfl)) (no32 s) (no32 t) h1
  obtain ⟨h5, h6⟩ := List.cons.inj h4
  have e1 : s.kind = t.kind := by
    have := congrArg dv h3
    have a := hs.kind
    have b := ht.kind
    rwa [A4c (by omega), A4c (by omega)] at this
  have e2 := A70 hs.n ht.n h5
  have e3 : s.of = t.of := by
    have a := hs.of
    have b := ht.of
    generalize s.of = l at h6 a
    generalize t.of = m at h6 b
    clear h4 h1 h h3 h5 h2
    induction l generalizing m with
    | nil => cases m with
      | nil => rfl
      | cons y m => simp at h6
    | cons x l ih =>
      cases m with
      | nil => simp at h6
      | cons y m =>
        simp only [List.map_cons, List.cons.injEq] at h6
        rw [A70 (a x (by simp)) (b y (by simp)) h6.1, ih (fun i hi => a i (by simp [hi])) m h6.2 (fun i hi => b i (by simp [hi]))]
  cases s; cases t
  simp_all
end Go.Px

namespace Go.Px
structure Gw where
  i : Nat
  d : Nat
  φ : Value → Mem → Mem → Prop
def U0 (G : List Gw) (vs : Nat → Value) : Env := G.map fun g => (g.d, vs g.i)
def A2u (φ : Value → Mem → Mem → Prop) : Prop := ∀ v B R R', (∀ x ∈ R, x ∈ R') → φ v B R → φ v B R'
def toG (G : List Gw) : List Gm := G.map fun g => ⟨g.i, g.d, fun _ _ => True⟩
theorem C0d (G : List Gw) : (toG G).map (·.i) = G.map (·.i) := by simp [toG]
theorem C0e (G : List Gw) : (toG G).map (·.d) = G.map (·.d) := by simp [toG]
theorem A97 (G : List Gw) (vs : Nat → Value) : A3h (toG G) vs = U0 G vs := by simp [A3h, U0, toG]
theorem B4G {G : List Gw} (h : (G.map (·.i)).Nodup) {g g' : Gw} (hg : g ∈ G) (hg' : g' ∈ G) (e : g.i = g'.i) : g = g' := by
  induction G with
  | nil => cases hg
  | cons x G ih =>
    simp only [List.map_cons, List.nodup_cons] at h
    rcases List.mem_cons.1 hg with h1 | h1 <;> rcases List.mem_cons.1 hg' with h2 | h2
    · rw [h1, h2]
    · exact absurd (by rw [← h1, e]; exact List.mem_map_of_mem (f := Gw.i) h2) h.1
    · exact absurd (by rw [← h2, ← e]; exact List.mem_map_of_mem (f := Gw.i) h1) h.1
    · exact ih h.2 h1 h2
theorem A4T {X : List Nat} : ∀ {Y : List Nat}, X.Nodup → Y.Nodup → (∀ x, x ∈ X ↔ x ∈ Y) → X.Perm Y := by
  induction X with
  | nil =>
    intro Y _ _ h
    cases Y with
    | nil => exact .refl _
    | cons y Y => exact absurd ((h y).2 List.mem_cons_self) (by simp)
  | cons x X ih =>
    intro Y hX hY h
    simp only [List.nodup_cons] at hX
    have hx : x ∈ Y := (h x).1 List.mem_cons_self
    refine List.Perm.trans (List.Perm.cons x (ih hX.2 (hY.erase x) fun z => ?_)) (List.perm_cons_erase hx).symm
    constructor
    · intro hz
      exact (List.mem_erase_of_ne (fun e : z = x => hX.1 (by rw [← e]; exact hz))).2 ((h z).1 (List.mem_cons_of_mem _ hz))
    · intro hz
      have hne : z ≠ x := fun e => by rw [e] at hz; exact (List.Nodup.not_mem_erase hY) hz
      rcases List.mem_cons.1 ((h z).2 (List.mem_of_mem_erase hz)) with e | hm
      · exact absurd e hne
      · exact hm
section group
variable {C : Cx} {Q : XQ} {l : Env} {M J : Mem} {os : List Oper} {K : Nat → Prop} {n0 : Nat} {nd : List Nat} {plan : List (Nat × Nat)}
def P5 (X : List Nat) (bs : Nat → Mem) : Mem := (X.map bs).flatten
def B2K (C : Cx) (os : List Oper) (l : Env) (M J : Mem) (G : List Gw) (g : Gw) : Prop :=
  ∃ o, nth os g.i = some o ∧ ∀ (vs : Nat → Value) (bs : Nat → Mem) (R : Mem) (w : World), (∀ x ∈ M ++ (J ++ C.A), x ∈ R) → (∀ g' ∈ G, anc os.toArray os.toArray.size g.i g'.i = true → g'.φ (vs g'.i) (bs g'.i) R) →
    A83 os (U0 G vs ++ l) o ∧ OpL ⟨C.P, w, [], R, C.N⟩ o (U0 G vs ++ l) [] [] (fun l' M' J' => ∃ v, l' = (g.d, v) :: (U0 G vs ++ l) ∧ g.φ v M' (M' ++ (J' ++ R)))
theorem A98 {G : List Gw} (hmono : ∀ g ∈ G, A2u g.φ) (hd : (G.map (·.d)).Nodup) (hi : (G.map (·.i)).Nodup) (hob : ∀ g ∈ G, B2K C os l M J G g) {A B : Array Bool} (hok : GOk os.toArray A (G.map (·.i)) B)
    (hfin : ∀ (vs : Nat → Value) (bs : Nat → Mem) Jn a w, (∀ g ∈ G, g.φ (vs g.i) (bs g.i) ((P5 (G.map (·.i)) bs ++ M) ++ ((Jn ++ J) ++ C.A))) → (∀ g ∈ G, ∀ x ∈ bs g.i, n0 ≤ x.1) → Ag C.N (U0 G vs ++ l) a → St C (P5 (G.map (·.i)) bs ++ M) (Jn ++ J) w → n0 ≤ w.heap.size → Z0 C.P os.toArray (Q4 (A6J C Q)) (Sk K) nd.contains plan.length B a w) :
    ∀ (n : Nat) (X : List Nat) (vs : Nat → Value) (bs : Nat → Mem) (Jn : Mem) (a : Act) (w : World), X.Nodup → (∀ i ∈ X, i ∈ G.map (·.i)) → n + X.length = G.length → P8 os.toArray (mark A X) →
      (∀ g ∈ G, g.i ∈ X → g.φ (vs g.i) (bs g.i) ((P5 X bs ++ M) ++ ((Jn ++ J) ++ C.A))) → (∀ i ∈ X, ∀ x ∈ bs i, n0 ≤ x.1) → Ag C.N (U0 G vs ++ l) a → St C (P5 X bs ++ M) (Jn ++ J) w → n0 ≤ w.heap.size →
      Z0 C.P os.toArray (Q4 (A6J C Q)) (Sk K) nd.contains (n + plan.length) (mark A X) a w := by
  intro n
  induction n with
  | zero =>
    intro X vs bs Jn a w hnd hX hlen hcl hφ hN ha hw hn
    have hall : ∀ i, i ∈ X ↔ i ∈ G.map (·.i) := fun i => ⟨hX i, A1M hnd hX (by simp; omega) i⟩
    have hperm : (P5 X bs ++ M).Perm (P5 (G.map (·.i)) bs ++ M) := List.Perm.append_right _ (List.Perm.flatten ((A4T hnd hi hall).map bs))
    rw [Nat.zero_add, A4P hall, ← hok.mark]
    refine hfin vs bs Jn a w (fun g hg => hmono g hg _ _ _ _ (fun x hx => ?_) (hφ g hg ((hall _).2 (List.mem_map_of_mem (f := Gw.i) hg)))) (fun g hg => hN g.i ((hall _).2 (List.mem_map_of_mem (f := Gw.i) hg))) ha (hw.perm hperm) hn
    rcases List.mem_append.1 hx with h | h
    · exact List.mem_append_left _ (hperm.mem_iff.1 h)
    · exact List.mem_append_right _ h
  | succ n ih =>
    intro X vs bs Jn a w hnd hX hlen hcl hφ hN ha hw hn
    have hmiss : ∃ k ∈ G.map (·.i), k ∉ X := by
      apply Classical.byContradiction
      intro hno
      have hs : ∀ k ∈ G.map (·.i), k ∈ X := fun k hk => Classical.byContradiction fun h => hno ⟨k, hk, h⟩
      have := A1L hi hs
      simp at this; omega
    obtain ⟨k, hkG, hkX⟩ := hmiss
    have hun : ∀ i ∈ G.map (·.i), A.getD i true = false := by
      have : ∀ {is A B}, GOk os.toArray A is B → ∀ i ∈ is, A.getD i true = false := by
        intro is A B h
        induction h with
        | nil => intro i hi; cases hi
        | @cons A B i r hr ho h ih =>
          intro k hk
          rcases List.mem_cons.1 hk with rfl | hk
          · exact K6 hr
          · have h2 := ih k hk
            by_cases e : i = k
            · subst e; exact K6 hr
            · rwa [getD_set_ne true e] at h2
      exact this hok
    have hkun : (mark A X).getD k true = false := G9.2 ⟨hun k hkG, fun h => hkX h.1⟩
    rw [show n + 1 + plan.length = (n + plan.length) + 1 by omega]
    refine ⟨fun h0 => ?_, fun i hir => ?_⟩
    · obtain ⟨i, hir⟩ := hok.first (A0N A X) (fun j hj => A0O hj) hkG hkun
      rw [h0] at hir; cases hir
    · have hiG : i ∈ G.map (·.i) := by
        apply Classical.byContradiction
        intro hno
        have h1 := G9.1 (K6 hir)
        have h2 := hok.outer k hkG i (A2K hir) h1.1 hno
        exact R8 hkun (P9 hcl h2 hir)
      obtain ⟨g, hg, rfl⟩ := List.mem_map.1 hiG
      have hiX : g.i ∉ X := fun h => (G9.1 (K6 hir)).2 ⟨h, V1 (hun _ hiG)⟩
      obtain ⟨o, hget, howe⟩ := hob g hg
      have hi' : os.toArray[g.i]? = some o := by rw [U3] at hget; simpa using hget
      obtain ⟨hask, hop⟩ := howe vs bs ((P5 X bs ++ M) ++ ((Jn ++ J) ++ C.A)) w (fun x hx => by simp only [List.mem_append] at hx ⊢; rcases hx with h | h | h <;> simp [h]) (fun g' hg' hanc => hφ g' hg' (by
        have h3 := P9 hcl hanc hir
        rcases X8 h3 with h4 | h4
        · exact (R8 (hun _ (List.mem_map_of_mem (f := Gw.i) hg')) h4).elim
        · exact h4))
      unfold wpOp
      simp only [hi']
      rw [if_pos (hask.wanted ha)]
      have hcal := hw.callee (Mc := []) (R := P5 X bs ++ M) (.refl _)
      refine .inl (Oper.wp_mono ?_ (hop _ a w ha hcal.cx))
      rintro a' w' ⟨l', M', J', ha', hs', v, rfl, hφv⟩
      have hsz : w.heap.size ≤ w'.heap.size := hs'.size
      have hb := hw.back (Mc := []) (R := P5 X bs ++ M) (.refl _) hs'.cx
      let bs' : Nat → Mem := fun k => if k = g.i then M' else bs k
      have hown : P5 (X ++ [g.i]) bs' = P5 X bs ++ M' := by
        have e1 : X.map bs' = X.map bs := List.map_congr_left fun x hx => by
          have : x ≠ g.i := fun e => hiX (e ▸ hx)
          simp [bs', this]
        simp [P5, List.map_append, e1, bs']
      have hperm : (M' ++ (P5 X bs ++ M)).Perm (P5 (X ++ [g.i]) bs' ++ M) := by
        rw [hown, ← List.append_assoc]
        exact List.Perm.append_right _ List.perm_append_comm
      have hfr2 : St C (P5 (X ++ [g.i]) bs' ++ M) ((J' ++ Jn) ++ J) w' := (hb.perm hperm).drop (List.Sublist.refl _) fun x hx => by
        simp only [List.mem_append] at hx ⊢
        rcases hx with (h | h) | h <;> simp [h]
      refine ⟨fun _ b hb' hnk => hs'.frame b hb' (by simp), ?_⟩
      rw [← R5]
      have henv := A1N (N := C.N) (G := toG G) (l := l) (vs := vs) (g := ⟨g.i, g.d, fun _ _ => True⟩) (a := a') (v := v) (List.mem_map_of_mem (f := fun g : Gw => (⟨g.i, g.d, fun _ _ => True⟩ : Gm)) hg) (by rw [C0e]; exact hd) (by rw [C0d]; exact hi) (by rw [A97]; exact ha')
      rw [A97] at henv
      refine ih (X ++ [g.i]) (fun k => if k = g.i then v else vs k) bs' (J' ++ Jn) a' w' ?_ ?_ (by simp; omega) ?_ ?_ ?_ henv hfr2 (Nat.le_trans hn hsz)
      · rw [List.nodup_append]; exact ⟨hnd, by simp, fun x hx y hy e => hiX (by simp at hy; subst hy; exact e ▸ hx)⟩
      · intro j hj
        rcases List.mem_append.1 hj with hj | hj
        · exact hX j hj
        · simp at hj; subst hj; exact hiG
      · rw [R5]; exact H2 hcl hir
      · intro g' hg' hm
        rw [hown]
        by_cases e : g'.i = g.i
        · have : g' = g := B4G hi hg' hg e
          subst this
          simp only [if_true, bs']
          exact hmono g' hg' _ _ _ _ (fun x hx => by simp only [List.mem_append] at hx ⊢; rcases hx with h | h | (h | h) | (h | h) | h <;> simp [h]) hφv
        · simp only [e, if_false, bs']
          have hm' : g'.i ∈ X := by simpa [e] using hm
          exact hmono g' hg' _ _ _ _ (fun x hx => by simp only [List.mem_append] at hx ⊢; rcases hx with (h | h) | (h | h) | h <;> simp [h]) (hφ g' hg' hm')
      · intro k hk x hx
        by_cases e : k = g.i
        · subst e
          simp only [if_true, bs'] at hx
          rcases hs'.own x.1 x.2 (by simp [hx]) with h6 | h6
          · cases h6
          · exact Nat.le_trans hn h6
        · simp only [e, if_false, bs'] at hx
          have hk' : k ∈ X := by simpa [e] using hk
          exact hN k hk' x hx
theorem A5Y (G : List Gw) (hmono : ∀ g ∈ G, A2u g.φ) (hd : (G.map (·.d)).Nodup) (hi : (G.map (·.i)).Nodup) (hdN : ∀ g ∈ G, g.d < C.N) (hob : ∀ g ∈ G, B2K C os l M J G g)
    (h : ∀ (vs : Nat → Value) (bs : Nat → Mem) Jn, (∀ g ∈ G, g.φ (vs g.i) (bs g.i) ((P5 (G.map (·.i)) bs ++ M) ++ ((Jn ++ J) ++ C.A))) → (∀ g ∈ G, ∀ x ∈ bs g.i, n0 ≤ x.1) → XK C os Q K n0 nd plan (U0 G vs ++ l) (P5 (G.map (·.i)) bs ++ M) (Jn ++ J)) : XK C os Q K n0 nd (enc (G.map (·.i)) ++ plan) l M J := by
  intro listed hcl hp a w ha hw hn
  obtain ⟨B, hok, hp2⟩ := A7W hp
  have hBcl : P8 os.toArray B := by
    have : ∀ {A is B}, GOk os.toArray A is B → P8 os.toArray A → P8 os.toArray B := by
      intro A is B h
      induction h with
      | nil => exact id
      | cons hr _ _ ih => exact fun hc => ih (H2 hc hr)
    exact this hok hcl
  have hlen : (enc (G.map (·.i)) ++ plan).length = G.length + plan.length := by
    have : ∀ is : List Nat, (enc is).length = is.length := by
      intro is
      induction is with
      | nil => rfl
      | cons i r ih => cases r with
        | nil => rfl
        | cons j r => simp only [enc, List.length_cons] at ih ⊢; rw [ih]
    simp [this]
  rw [hlen]
  let vs : Nat → Value := fun k => match G.find? (fun g => g.i == k) with
    | some g => (a.tmps[g.d]?).getD undef
    | none => undef
  have hag : Ag C.N (U0 G vs ++ l) a := by
    refine ⟨ha.defers, ha.size, ?_⟩
    intro k u hk
    have key : ∀ G' : List Gw, (∀ g ∈ G', g ∈ G) → lk (U0 G' vs ++ l) k = some u → a.tmps[k]? = some u := by
      intro G'
      induction G' with
      | nil => intro _ h; exact ha.slot k u h
      | cons g G' ih =>
        intro hs h
        simp only [U0, List.map_cons, List.cons_append, lk] at h
        by_cases e : g.d = k
        · subst e
          simp at h
          have hf : G.find? (fun x => x.i == g.i) = some g := by
            have hgG := hs g List.mem_cons_self
            cases hq : G.find? (fun x => x.i == g.i) with
            | none => have := List.find?_eq_none.1 hq g hgG; simp at this
            | some x =>
              have h1 := List.find?_some hq
              have h2 := List.mem_of_find?_eq_some hq
              rw [B4G hi h2 hgG (by simpa using h1)]
          have hlt : g.d < a.tmps.size := by rw [ha.size]; exact hdN g (hs g List.mem_cons_self)
          rw [← h]
          show a.tmps[g.d]? = some (vs g.i)
          simp only [vs, hf, Array.getElem?_eq_getElem hlt, Option.getD_some]
        · simp only [W8 e, cond_false] at h
          exact ih (fun x hx => hs x (List.mem_cons_of_mem _ hx)) h
    exact key G (fun _ h => h) hk
  exact A98 (n0 := n0) (K := K) hmono hd hi hob hok (fun vs bs Jn a w hφ hN ha hw hn => h vs bs Jn hφ hN B hBcl hp2 a w ha hw hn) G.length [] vs (fun _ => []) [] a w .nil (fun _ h => by cases h) (by simp) hcl (fun _ _ h => by cases h) (fun _ h => by cases h) hag hw hn
theorem A99 (G : List Gw) (hmono : ∀ g ∈ G, A2u g.φ) (hd : (G.map (·.d)).Nodup) (hi : (G.map (·.i)).Nodup) (hdN : ∀ g ∈ G, g.d < C.N) (hob : ∀ g ∈ G, B2K C os l M J G g)
    (h : ∀ (vs : Nat → Value) (bs : Nat → Mem) Jn, (∀ g ∈ G, g.φ (vs g.i) (bs g.i) ((P5 (G.map (·.i)) bs ++ M) ++ ((Jn ++ J) ++ C.A))) → XK C os Q K n0 nd plan (U0 G vs ++ l) (P5 (G.map (·.i)) bs ++ M) (Jn ++ J)) : XK C os Q K n0 nd (enc (G.map (·.i)) ++ plan) l M J := A5Y G hmono hd hi hdN hob fun vs bs Jn hφ _ => h vs bs Jn hφ
theorem N0 (G : List Gw) (hmono : ∀ g ∈ G, A2u g.φ) (hd : (G.map (·.d)).Nodup) (hi : (G.map (·.i)).Nodup) (hdN : ∀ g ∈ G, g.d < C.N) (hob : ∀ g ∈ G, B2K C os l M J G g)
    (h : ∀ (vs : Nat → Value) (bs : Nat → Mem) Jn, (∀ g ∈ G, g.φ (vs g.i) (bs g.i) ((P5 (G.map (·.i)) bs ++ M) ++ ((Jn ++ J) ++ C.A))) → XF C os Q nd plan (U0 G vs ++ l) (P5 (G.map (·.i)) bs ++ M) (Jn ++ J)) : XF C os Q nd (enc (G.map (·.i)) ++ plan) l M J := A99 G hmono hd hi hdN hob h
end group
end Go.Px

namespace Go.Proofs.YthbhpfefdnffaaaGreatDoor
open Go.Px
def B8j : List Nat := (List.range 256).map fun c => if c = 0 then 0 else c.log2 + 1
theorem B2L : ∀ x ∈ B8j, x < 256 := by decide +kernel
set_option maxRecDepth 10000 in
theorem B2M : ∀ c : Fin 256, c.val < 2 ^ (B8j.getD c 0) ∧ B8j.getD c 0 ≤ 8 ∧ (0 < c.val → 2 ^ (B8j.getD c 0 - 1) ≤ c.val) := by decide +kernel
theorem B2N {x y n T : Nat} (h : x / 2 ^ n = y) (h1 : y < 2 ^ T) : x < 2 ^ (n + T) := by
  rw [Nat.pow_add]
  have := (Nat.div_lt_iff_lt_mul (Nat.two_pow_pos n)).1 (h ▸ h1)
  rwa [Nat.mul_comm] at this
theorem B0a {x y n T : Nat} (h : x / 2 ^ n = y) (hy : 0 < y) (hT : 2 ^ (T - 1) ≤ y) (h1 : y < 2 ^ T) : 2 ^ (n + T - 1) ≤ x := by
  have h0 : T ≠ 0 := by rintro rfl; simp at h1; omega
  rw [show n + T - 1 = n + (T - 1) by omega, Nat.pow_add]
  have := Nat.div_mul_le_self x (2 ^ n)
  rw [h] at this
  exact Nat.le_trans (by rw [Nat.mul_comm]; exact Nat.mul_le_mul_right _ hT) this
def A4U : List Nat := (List.range 100).flatMap fun p => [48 + p / 10, 48 + p % 10]
theorem A4d : ∀ x ∈ A4U, x < 256 := by decide +kernel
theorem A4e : ∀ p : Fin 100, A4U.getD (2 * p.val) 0 = 48 + p.val / 10 ∧ A4U.getD (2 * p.val + 1) 0 = 48 + p.val % 10 := by decide +kernel
theorem A2c : A4U.length = 200 := by decide +kernel
def A0G : List Nat := (List.range 20).map fun i => 10 ^ i
theorem A5Z : ∀ n : Fin 65, 2 ^ n.val ≤ 10 ^ (n.val * 78913 / 262144 + 1) ∧ n.val * 78913 / 262144 ≤ 19 ∧ (n.val * 78913 / 262144 = 0 ∨ 10 ^ (n.val * 78913 / 262144 - 1) ≤ 2 ^ (n.val - 1)) := by decide +kernel
theorem B0b : ∀ t : Fin 20, A0G.getD t 0 = 10 ^ t.val := by decide +kernel
theorem B8k {x n : Nat} (h0 : 0 < x) (hn : n ≤ 64) (h1 : x < 2 ^ n) (h2 : 2 ^ (n - 1) ≤ x) : n * 78913 / 262144 + (if 10 ^ (n * 78913 / 262144) ≤ x then 1 else 0) = nd10 x := by
  obtain ⟨a, b, c⟩ := A5Z ⟨n, by omega⟩
  simp only at a b c
  have hx : x < 18446744073709551616 := Nat.lt_of_lt_of_le h1 (Nat.pow_le_pow_right (by decide) hn : 2 ^ n ≤ 2 ^ 64)
  generalize n * 78913 / 262144 = t at *
  split
  · rename_i h
    exact (A5X (by omega) (Nat.lt_of_lt_of_le h1 a) (.inr (by simpa using h)) hx).symm
  · rename_i h
    have ht : t ≠ 0 := by rintro rfl; simp at h; omega
    rw [Nat.add_zero]
    refine (A5X (by omega) (by omega) (.inr ?_) hx).symm
    rcases c with c | c
    · exact absurd c ht
    · exact Nat.le_trans c h2
theorem B2O (k u : Nat) : dgs (k + 1) u = (48 + u / 10 ^ k % 10) :: dgs k u := by
  unfold dgs
  rw [show List.range (k + 1) = 0 :: (List.range k).map (· + 1) from List.range_succ_eq_map, List.map_cons, List.map_map]
  congr 1
  apply List.map_congr_left
  intro j hj
  have := List.mem_range.1 hj
  simp only [Function.comp]
  congr 4; omega
theorem A3j {xs r : List Nat} {o m k u : Nat} (hm : 0 < m) (hl : o + m ≤ xs.length) : (xs.take (o + m) ++ (dgs k u ++ r)).set (o + (m - 1)) (48 + u / 10 ^ k % 10) = xs.take (o + (m - 1)) ++ (dgs (k + 1) u ++ r) := by
  have e : xs.take (o + m) = xs.take (o + (m - 1)) ++ [xs[o + (m - 1)]'(by omega)] := by
    rw [show o + m = (o + (m - 1)) + 1 by omega, List.take_add_one, List.getElem?_eq_getElem (by omega)]; rfl
  rw [e, B2O, List.append_assoc, List.set_append_right _ _ (by rw [List.length_take]; omega), List.length_take, Nat.min_eq_left (by omega), Nat.sub_self]
  simp
theorem A1p {xs r : List Nat} {o m k u p : Nat} (hm : 2 ≤ m) (hl : o + m ≤ xs.length) (hp : p = u / 10 ^ k % 100) : ((xs.take (o + m) ++ (dgs k u ++ r)).set (o + (m - 1)) (48 + p % 10)).set (o + (m - 2)) (48 + p / 10) = xs.take (o + (m - 2)) ++ (dgs (k + 2) u ++ r) := by
  have h1 := A3j (xs := xs) (r := r) (o := o) (m := m) (k := k) (u := u) (by omega) hl
  have h2 := A3j (xs := xs) (r := r) (o := o) (m := m - 1) (k := k + 1) (u := u) (by omega) (by omega)
  rw [show 48 + p % 10 = 48 + u / 10 ^ k % 10 by omega, h1]
  rw [show m - 1 - 1 = m - 2 by omega] at h2
  rw [show 48 + p / 10 = 48 + u / 10 ^ (k + 1) % 10 by rw [Nat.pow_succ, ← Nat.div_div_eq_div_mul]; omega, h2]
theorem S5 {xs r : List Nat} {o m k u : Nat} (hl : o + m ≤ xs.length) : (xs.take (o + m) ++ (dgs k u ++ r)).length = o + m + (k + r.length) := by simp [A1n]; omega
theorem A4f (x : Nat) (hx : x < 18446744073709551616) (A : Mem) : FnX Tryz.prog 203 [.int .u64 (x : Int)] [] A fun r M J => M = [] ∧ J = [] ∧ ∃ n : Nat, r = .int .i64 (n : Int) ∧ n ≤ 64 ∧ x < 2 ^ n ∧ (0 < x → 2 ^ (n - 1) ≤ x) := by
 refine FnX.enter (N := 25) Tryz.func203 rfl rfl rfl fun w => ?_
 refine C4 (D8 0) (A3 (as_ (A0 (D5 0 2) ?_)))
 refine A0q (α := Nat × Nat) (fun s => [(0, .int .u64 (s.1 : Int)), (2, .int .i64 (s.2 : Int))]) (fun _ => []) (fun _ => []) (fun s => x / 2 ^ s.2 = s.1 ∧ s.1 < 4294967296 ∧ s.2 ≤ 32 ∧ (s.2 = 0 ∨ 0 < s.1)) ?_ ?_
 ·
  refine A3 (mv_ ?_)
  refine A4 (F1 rfl rfl rfl) rfl ?_
  refine A0 (E1 0 2 4) ?_
  refine C8 rfl (fun hc => ?_) (fun hc => ?_)
  ·
   have hge : 4294967296 ≤ x := by simp at hc; omega
   refine A3 (mv_ ?_)
   refine A4 (N7 32 4294967296 rfl rfl rfl rfl (by decide)) rfl ?_
   refine as_ (A0 (D8 0) (C3 (as_ (D0 ?_))))
   exact jn (x / 4294967296, 32) ⟨rfl, by dsimp only; omega, by dsimp only; omega, .inr (by dsimp only; omega)⟩ (D5 0 2) .rfl (fun _ h => h)
  ·
   have hlt : x < 4294967296 := by simp at hc; omega
   refine A9 ?_
   exact jn (x, 0) ⟨by simp, hlt, by dsimp only; omega, .inl rfl⟩ (D5 0 2) .rfl (fun _ h => h)
 ·
  rintro ⟨y, n⟩ ⟨hy, hyb, hn, h0⟩
  dsimp only at hy hyb hn h0 ⊢
  refine A0q (α := Nat × Nat) (fun s => [(0, .int .u64 (s.1 : Int)), (2, .int .i64 (s.2 : Int))]) (fun _ => []) (fun _ => []) (fun s => x / 2 ^ s.2 = s.1 ∧ s.1 < 65536 ∧ s.2 ≤ 48 ∧ (s.2 = 0 ∨ 0 < s.1)) ?_ ?_
  ·
   refine A3 (mv_ ?_)
   refine A4 (F1 rfl rfl rfl) rfl ?_
   refine A0 (E1 0 2 8) ?_
   refine C8 rfl (fun hc => ?_) (fun hc => ?_)
   ·
    have hge : 65536 ≤ y := by simp at hc; omega
    refine A3 (mv_ ?_)
    refine A4 (N7 16 65536 rfl rfl rfl rfl (by decide)) rfl ?_
    refine as_ (A0 (D5 0 2) (C3 (mv_ ?_)))
    refine A4 (N4 (b := 16) rfl rfl rfl rfl (by omega)) rfl ?_
    refine as_ (D0 ?_)
    exact jn (y / 65536, n + 16) ⟨by dsimp only; rw [Nat.pow_add, ← Nat.div_div_eq_div_mul, hy], by dsimp only; omega, by dsimp only; omega, .inr (by dsimp only; omega)⟩ (D5 0 2) .rfl (fun _ h => h)
   ·
    have hlt : y < 65536 := by simp at hc; omega
    refine A9 ?_
    exact jn (y, n) ⟨hy, hlt, by dsimp only; omega, h0⟩ (D5 0 2) .rfl (fun _ h => h)
  ·
   clear hy hyb hn h0
   rintro ⟨y, n⟩ ⟨hy, hyb, hn, h0⟩
   dsimp only at hy hyb hn h0 ⊢
   refine A0q (α := Nat × Nat) (fun s => [(0, .int .u64 (s.1 : Int)), (2, .int .i64 (s.2 : Int))]) (fun _ => []) (fun _ => []) (fun s => x / 2 ^ s.2 = s.1 ∧ s.1 < 256 ∧ s.2 ≤ 56 ∧ (s.2 = 0 ∨ 0 < s.1)) ?_ ?_
   ·
    refine A3 (mv_ ?_)
    refine A4 (F1 rfl rfl rfl) rfl ?_
    refine A0 (E1 0 2 14) ?_
    refine C8 rfl (fun hc => ?_) (fun hc => ?_)
    ·
     have hge : 256 ≤ y := by simp at hc; omega
     refine A3 (mv_ ?_)
     refine A4 (N7 8 256 rfl rfl rfl rfl (by decide)) rfl ?_
     refine as_ (A0 (D5 0 2) (C3 (mv_ ?_)))
     refine A4 (N4 (b := 8) rfl rfl rfl rfl (by omega)) rfl ?_
     refine as_ (D0 ?_)
     exact jn (y / 256, n + 8) ⟨by dsimp only; rw [Nat.pow_add, ← Nat.div_div_eq_div_mul, hy], by dsimp only; omega, by dsimp only; omega, .inr (by dsimp only; omega)⟩ (D5 0 2) .rfl (fun _ h => h)
    ·
     have hlt : y < 256 := by simp at hc; omega
     refine A9 ?_
     exact jn (y, n) ⟨hy, hlt, by dsimp only; omega, h0⟩ (D5 0 2) .rfl (fun _ h => h)
   ·
    clear hy hyb hn h0
    rintro ⟨y, n⟩ ⟨hy, hyb, hn, h0⟩
    dsimp only at hy hyb hn h0 ⊢
    obtain ⟨k1, k2, k3⟩ := B2M ⟨y, hyb⟩
    simp only at k1 k2 k3
    refine A3 (mv_ (mv_ ?_))
    refine A4 ((Nat.mod_eq_of_lt hyb : y % 256 = y) ▸ A25 rfl kR) rfl ?_
    refine A4 (B6b (ws := B8j) (a := y) rfl kR B2L rfl kR rfl (by show _ < 256; omega)) rfl ?_
    refine A4 (A2o (k' := .i64) rfl kR (by show _ < 9223372036854775808; omega)) rfl ?_
    refine A4 (N4 rfl rfl rfl rfl (by omega)) rfl ?_
    refine as_ (A0 (D8 2) (C2 ?_))
    refine ⟨_, [], [], I4 rfl rfl, List.nil_sublist _, by simp, rfl, rfl, n + B8j.getD y 0, rfl, by omega, B2N hy k1, fun hx => ?_⟩
    have hy0 : 0 < y := by
     rcases h0 with rfl | h0
     · rw [← hy]; simpa using hx
     · exact h0
    exact B0a hy hy0 (k3 hy0) k1
theorem A84 (n : Nat) (hn : n ≤ 64) (A : Mem) : FnV Tryz.prog 227 [.int .i64 (n : Int)] A (.int .i64 ((n * 78913 / 2 ^ 18 : Nat) : Int)) := by
 refine FnX.enter (N := 6) Tryz.func227 rfl rfl rfl fun w => ?_
 refine C4 (D8 0) (A3 (as_ (A0 (D8 0) (A3 (mv_ ?_)))))
 refine A4 (A1e (b := 78913) rfl rfl rfl rfl (by omega)) rfl ?_
 refine A4 (A2t (b := 18) rfl rfl rfl rfl (by show _ ≤ 64; omega)) rfl ?_
 refine as_ (A0 (D8 2) (C2 ?_))
 exact ⟨_, [], [], I4 rfl rfl, List.nil_sublist _, by simp, rfl, rfl, rfl⟩
theorem A85 (b : Bool) (A : Mem) : FnV Tryz.prog 228 [.bool b] A (.int .i64 ((if b = true then 1 else 0 : Nat) : Int)) := by
 refine FnX.enter (N := 4) Tryz.func228 rfl rfl rfl fun w => ?_
 refine C4 (D8 0) (A3 (as_ (A0 (D8 0) (A5 (A3 (mv_ (A0 (D8 3) ?_)))))))
 refine C8 rfl (fun hc => ?_) (fun hc => ?_)
 ·
  subst hc
  refine A3 (as_ (A0 (D8 2) (C2 (tr ?_))))
  exact ⟨_, [], [], I4 rfl rfl, List.nil_sublist _, by simp, rfl, rfl, rfl⟩
 ·
  subst hc
  refine A9 (nx kn (A3 (as_ (A0 (D8 2) (C2 ?_)))))
  exact ⟨_, [], [], I4 rfl rfl, List.nil_sublist _, by simp, rfl, rfl, rfl⟩
theorem A1g (x : Nat) (h0 : 0 < x) (hx : x < 18446744073709551616) (A : Mem) {e4 : TypeId} {f4 : Nat × Nat} (h4 : (2, Obj.cells (nums .u64 A0G).toArray e4 f4) ∈ A) : FnV Tryz.prog 212 [.int .u64 (x : Int)] A (.int .i64 ((nd10 x : Nat) : Int)) := by
 refine FnX.enter (N := 15) Tryz.func212 rfl rfl rfl fun w => ?_
 refine C4 (D8 0) (A3 (as_ (A0 (D8 0) (A3 (mv_ ?_)))))
 refine C9 (aS rfl a0) kR (A4f x hx _) rfl ?_
 rintro r5 M5 J5 ⟨rfl, rfl, n, rfl, hn, h1, h2⟩
 replace h2 := h2 h0
 have hnd := B8k h0 hn h1 h2
 obtain ⟨-, k2, -⟩ := A5Z ⟨n, by omega⟩
 simp only at k2
 refine F8 (aS rfl a0) kR (A84 n hn _) rfl ?_
 rw [show (2 : Nat) ^ 18 = 262144 from rfl]
 have k4 := B0b ⟨n * 78913 / 262144, by omega⟩
 simp only at k4
 generalize n * 78913 / 262144 = t at *
 refine as_ (A0 (D5 0 3) (A3 (mv_ (mv_ (mv_ ?_)))))
 refine A4 (E5 (e := 143) (n := 20) (sz := 1) (i := t) rfl rfl kR kR rfl (by omega)) rfl ?_
 refine A4 (Q0 t rfl kR (mA h4) (by omega) (by show _ < 20; omega)) rfl ?_
 refine A4 (F9 (decide (10 ^ t ≤ x)) rfl rfl (by rw [k4, ← decide_eq_decide.2 (show (((10 ^ t : Nat) : Int) ≤ (x : Int)) ↔ 10 ^ t ≤ x from Int.ofNat_le)]; rfl)) rfl ?_
 refine F8 (aS rfl a0) kR (A85 _ _) rfl ?_
 refine A4 (N4 rfl rfl rfl rfl (by split <;> omega)) rfl ?_
 refine as_ (A0 (D8 2) (C2 ?_))
 refine ⟨_, [], [], I4 rfl rfl, List.nil_sublist _, by simp, ?_, rfl, rfl⟩
 rw [← hnd]; simp only [decide_eq_true_eq]
section
variable {P : Program} {R : Mem} {l : Env} {d : Option Nat} {ty t : TypeId} {pos : String} {af : Array Edge} {g : Option (Nat × Bool)} {x y : Operand} {S : ByteArray} {k : IntKind} {i : Int} {p : Nat}
theorem A0r (hx : ev l x = some (.string S)) (hS : S = txt A4U) (hy : ev l y = some (.int k i)) (hu : P.underlying t = some .string) (hi : i = ((2 * p : Nat) : Int)) (hp : p < 100) : OpQ P R ⟨d, .index t x y, ty, pos, af, g⟩ l (.int .u8 ((48 + p / 10 : Nat) : Int)) :=
  (A4e ⟨p, hp⟩).1 ▸ B6b hx hS A4d hy hu hi (by rw [A2c]; omega)
theorem A0s (hx : ev l x = some (.string S)) (hS : S = txt A4U) (hy : ev l y = some (.int k i)) (hu : P.underlying t = some .string) (hi : i = ((2 * p + 1 : Nat) : Int)) (hp : p < 100) : OpQ P R ⟨d, .index t x y, ty, pos, af, g⟩ l (.int .u8 ((48 + p % 10 : Nat) : Int)) :=
  (A4e ⟨p, hp⟩).2 ▸ B6b hx hS A4d hy hu hi (by rw [A2c]; omega)
end
theorem A1q (u a b : Nat) : u / 10 ^ (a + b) = u / 10 ^ a / 10 ^ b := by rw [Nat.pow_add, Nat.div_div_eq_div_mul]
theorem A4V {u n m : Nat} (hu : u < 10 ^ n) (hm : m ≤ n) : u / 10 ^ (n - m) < 10 ^ m := by
  rw [Nat.div_lt_iff_lt_mul (Nat.pow_pos (by decide)), ← Nat.pow_add]
  rwa [show m + (n - m) = n by omega]
theorem A50 (b o n cap u : Nat) (xs : List Nat) (e : TypeId) (hn : 0 < n) (hn20 : n ≤ 20) (hxs : o + n ≤ xs.length) (hu : u < 10 ^ n) (hu64 : u < 18446744073709551616) (A : Mem) : FnX Tryz.prog 213 [.slice (some ⟨b, o, none⟩) n cap, .int .u64 (u : Int)] [(b, blk (nums .u8 xs) e)] A fun r M J => J = [] ∧ M = [(b, blk (nums .u8 (xs.take o ++ (dgs n u ++ xs.drop (o + n)))) e)] := by
 refine FnX.enter (N := 167) Tryz.func213 rfl rfl rfl fun w => ?_
 refine C4 (D5 0 1) (A3 (mv_ ?_))
 refine A4 (A9G (e := 5) rfl kR) rfl ?_
 refine as_ (A0 (E1 0 1 4) (A5 (C0 ?_)))
 refine F2 (α := Nat) (fun m => [(0, .slice (some ⟨b, o, none⟩) n cap), (1, .int .u64 ((u / 10 ^ (n - m) : Nat) : Int)), (4, .int .i64 (m : Int))]) (fun m => [(b, blk (nums .u8 (xs.take (o + m) ++ (dgs (n - m) u ++ xs.drop (o + n)))) e)]) (fun _ => []) (fun m => m ≤ n) (fun m => m) n (Nat.le_refl _) (kq 0 (kp 1 (by rw [Nat.sub_self, Nat.pow_zero, Nat.div_one]; rfl) (D8 4))) (Fit.eq (by simp [dgs])) (fun _ h => h) ?_
 rintro m hm
 have hb := A4V hu hm
 refine A5 (A3 (mv_ ?_))
 refine A4 (F1 rfl rfl rfl) rfl ?_
 refine A0 (E7 0 1 4 20) ?_
 refine C8 rfl (fun hc => ?_) (fun hc => ?_)
 ·
  have hm8 : 8 ≤ m := by simp at hc; omega
  obtain ⟨k, hk⟩ : ∃ k, k = n - m := ⟨_, rfl⟩
  rw [← hk]
  have hkm : k + m = n := by omega
  obtain ⟨v, hv⟩ : ∃ v, v = u / 10 ^ k := ⟨_, rfl⟩
  rw [← hv]
  have hv64 : v < 18446744073709551616 := by rw [hv]; exact Nat.lt_of_le_of_lt (Nat.div_le_self _ _) hu64
  refine A9 (nx (E1 0 1 4) (C0 (A3 (mv_ ?_))))
  refine A4 (A1f (b := 100000000) rfl rfl rfl rfl (by omega)) rfl ?_
  refine A4 (A7S rfl kR) rfl ?_
  rw [show v % 100000000 % 4294967296 = v % 100000000 by omega]
  obtain ⟨y, hy⟩ : ∃ y, y = v % 100000000 := ⟨_, rfl⟩
  rw [← hy]
  have hy8 : y < 100000000 := by omega
  refine as_ (A0 (E7 0 1 4 5) (A3 (mv_ ?_)))
  refine A4 (A3i (b := 100000000) (m := 18446744073709551616) rfl rfl rfl rfl rfl rfl (by omega) (by omega)) rfl ?_
  refine as_ (A0 (E7 0 1 4 5) (A3 (mv_ ?_)))
  refine A4 (A3i (b := 10000) (m := 4294967296) rfl rfl rfl rfl rfl rfl (by omega) (by omega)) rfl ?_
  refine mv_ ?_
  refine A4 (A1f (b := 10000) rfl rfl rfl rfl (by omega)) rfl ?_
  refine as_ (as_ (A0 (F7 0 1 4 6 7) (A3 (mv_ ?_))))
  refine A4 (A3i (b := 100) (m := 4294967296) rfl rfl rfl rfl rfl rfl (by omega) (by omega)) rfl ?_
  refine A4 (R6 4294967296 (b := 2) rfl rfl rfl rfl rfl rfl) rfl ?_
  refine mv_ ?_
  refine A4 (A1f (b := 100) rfl rfl rfl rfl (by omega)) rfl ?_
  refine A4 (R6 4294967296 (b := 2) rfl rfl rfl rfl rfl rfl) rfl ?_
  refine as_ (as_ (A0 (I5 0 1 4 6 8 9) (A3 (mv_ ?_))))
  refine A4 (A3i (b := 100) (m := 4294967296) rfl rfl rfl rfl rfl rfl (by omega) (by omega)) rfl ?_
  refine A4 (R6 4294967296 (b := 2) rfl rfl rfl rfl rfl rfl) rfl ?_
  refine mv_ ?_
  refine A4 (A1f (b := 100) rfl rfl rfl rfl (by omega)) rfl ?_
  refine A4 (R6 4294967296 (b := 2) rfl rfl rfl rfl rfl rfl) rfl ?_
  refine as_ (as_ (A0 (X3 0 1 4 8 9 10 11) ?_))
  refine D2 [0, 1, 2, 3, 4, 5, 6, 7, 8, 9, 10, 11, 13] (zp 0 [0, 0, 0, 0, 0, 0, 0, 0, 0, 0, 0, 0, 2, 0, 2]) kR kR fun hs => ?_
  refine fm_ hs ?_
  refine fm_ hs ?_
  refine D1 hs rfl (Q9 (b := 1) rfl rfl rfl rfl (by omega) (by omega)) rfl ?_
  refine fm_ hs ?_
  refine fm_ hs ?_
  refine D1 hs rfl (Q9 (b := 2) rfl rfl rfl rfl (by omega) (by omega)) rfl ?_
  refine fm_ hs ?_
  refine D1 hs rfl (H9 4294967296 (b := 1) rfl rfl rfl rfl rfl rfl) rfl ?_
  refine D1 hs rfl (A0s (p := (y % 10000 % 100)) rfl kR rfl kR (by omega) (by omega)) rfl ?_
  refine fm_ hs ?_
  refine D1 hs rfl (A0r (p := (y % 10000 % 100)) rfl kR rfl kR (by omega) (by omega)) rfl ?_
  refine D1 hs rfl (P7 (e := 5) (sz := 1) (i := m - 1) rfl rfl kR kR (by omega) (by omega)) rfl ?_
  refine G2 rfl rfl rfl (S0 (o + (m - 1)) rfl rfl kR (by omega) (by rw [S5 (by omega)]; omega) UpC.upd ?_)
  refine D1 hs rfl (P7 (e := 5) (sz := 1) (i := m - 2) rfl rfl kR kR (by omega) (by omega)) rfl ?_
  refine G2 rfl rfl rfl (S0 (o + (m - 2)) rfl rfl kR (by omega) (by rw [List.length_set, S5 (by omega)]; omega) UpC.upd ?_)
  rw [A1p (by omega) (by omega) (by rw [← hv]; omega)]
  refine E3 (I5 0 1 4 8 10 11) ?_
  refine D2 [0, 1, 2, 3, 4, 5, 6, 7, 8, 9, 10, 11, 13] (zp 0 [0, 0, 0, 0, 0, 0, 0, 0, 0, 0, 0, 0, 2, 0, 2]) kR kR fun hs => ?_
  refine fm_ hs ?_
  refine fm_ hs ?_
  refine D1 hs rfl (Q9 (b := 3) rfl rfl rfl rfl (by omega) (by omega)) rfl ?_
  refine fm_ hs ?_
  refine fm_ hs ?_
  refine D1 hs rfl (Q9 (b := 4) rfl rfl rfl rfl (by omega) (by omega)) rfl ?_
  refine fm_ hs ?_
  refine D1 hs rfl (H9 4294967296 (b := 1) rfl rfl rfl rfl rfl rfl) rfl ?_
  refine D1 hs rfl (A0s (p := (y % 10000 / 100)) rfl kR rfl kR (by omega) (by omega)) rfl ?_
  refine fm_ hs ?_
  refine D1 hs rfl (A0r (p := (y % 10000 / 100)) rfl kR rfl kR (by omega) (by omega)) rfl ?_
  refine D1 hs rfl (P7 (e := 5) (sz := 1) (i := (m - 2) - 1) rfl rfl kR kR (by omega) (by omega)) rfl ?_
  refine G2 rfl rfl rfl (S0 (o + ((m - 2) - 1)) rfl rfl kR (by omega) (by rw [S5 (by omega)]; omega) UpC.upd ?_)
  refine D1 hs rfl (P7 (e := 5) (sz := 1) (i := (m - 2) - 2) rfl rfl kR kR (by omega) (by omega)) rfl ?_
  refine G2 rfl rfl rfl (S0 (o + ((m - 2) - 2)) rfl rfl kR (by omega) (by rw [List.length_set, S5 (by omega)]; omega) UpC.upd ?_)
  rw [A1p (by omega) (by omega) (by rw [A1q, ← hv]; omega)]
  refine E3 (F7 0 1 4 10 11) ?_
  refine D2 [0, 1, 2, 3, 4, 5, 6, 7, 8, 9, 10, 11, 13] (zp 0 [0, 0, 0, 0, 0, 0, 0, 0, 0, 0, 0, 0, 2, 0, 2]) kR kR fun hs => ?_
  refine fm_ hs ?_
  refine fm_ hs ?_
  refine D1 hs rfl (Q9 (b := 5) rfl rfl rfl rfl (by omega) (by omega)) rfl ?_
  refine fm_ hs ?_
  refine fm_ hs ?_
  refine D1 hs rfl (Q9 (b := 6) rfl rfl rfl rfl (by omega) (by omega)) rfl ?_
  refine fm_ hs ?_
  refine D1 hs rfl (H9 4294967296 (b := 1) rfl rfl rfl rfl rfl rfl) rfl ?_
  refine D1 hs rfl (A0s (p := (y / 10000 % 100)) rfl kR rfl kR (by omega) (by omega)) rfl ?_
  refine fm_ hs ?_
  refine D1 hs rfl (A0r (p := (y / 10000 % 100)) rfl kR rfl kR (by omega) (by omega)) rfl ?_
  refine D1 hs rfl (P7 (e := 5) (sz := 1) (i := (m - 2 - 2) - 1) rfl rfl kR kR (by omega) (by omega)) rfl ?_
  refine G2 rfl rfl rfl (S0 (o + ((m - 2 - 2) - 1)) rfl rfl kR (by omega) (by rw [S5 (by omega)]; omega) UpC.upd ?_)
  refine D1 hs rfl (P7 (e := 5) (sz := 1) (i := (m - 2 - 2) - 2) rfl rfl kR kR (by omega) (by omega)) rfl ?_
  refine G2 rfl rfl rfl (S0 (o + ((m - 2 - 2) - 2)) rfl rfl kR (by omega) (by rw [List.length_set, S5 (by omega)]; omega) UpC.upd ?_)
  rw [A1p (by omega) (by omega) (by rw [show k + 2 + 2 = k + 4 by omega, A1q, ← hv]; omega)]
  refine E3 (E7 0 1 4 10) ?_
  refine D2 [0, 1, 2, 3, 4, 5, 6, 7, 8, 9, 10, 11, 13] (zp 0 [0, 0, 0, 0, 0, 0, 0, 0, 0, 0, 0, 0, 2, 0, 2]) kR kR fun hs => ?_
  refine fm_ hs ?_
  refine fm_ hs ?_
  refine D1 hs rfl (Q9 (b := 7) rfl rfl rfl rfl (by omega) (by omega)) rfl ?_
  refine fm_ hs ?_
  refine fm_ hs ?_
  refine D1 hs rfl (Q9 (b := 8) rfl rfl rfl rfl (by omega) (by omega)) rfl ?_
  refine fm_ hs ?_
  refine D1 hs rfl (H9 4294967296 (b := 1) rfl rfl rfl rfl rfl rfl) rfl ?_
  refine D1 hs rfl (A0s (p := (y / 10000 / 100)) rfl kR rfl kR (by omega) (by omega)) rfl ?_
  refine fm_ hs ?_
  refine D1 hs rfl (A0r (p := (y / 10000 / 100)) rfl kR rfl kR (by omega) (by omega)) rfl ?_
  refine D1 hs rfl (P7 (e := 5) (sz := 1) (i := (m - 2 - 2 - 2) - 1) rfl rfl kR kR (by omega) (by omega)) rfl ?_
  refine G2 rfl rfl rfl (S0 (o + ((m - 2 - 2 - 2) - 1)) rfl rfl kR (by omega) (by rw [S5 (by omega)]; omega) UpC.upd ?_)
  refine D1 hs rfl (P7 (e := 5) (sz := 1) (i := (m - 2 - 2 - 2) - 2) rfl rfl kR kR (by omega) (by omega)) rfl ?_
  refine G2 rfl rfl rfl (S0 (o + ((m - 2 - 2 - 2) - 2)) rfl rfl kR (by omega) (by rw [List.length_set, S5 (by omega)]; omega) UpC.upd ?_)
  rw [A1p (by omega) (by omega) (by rw [show k + 2 + 2 + 2 = k + 6 by omega, A1q, ← hv]; omega)]
  refine E3 (E1 0 1 4) (C3 (mv_ ?_))
  refine A4 (Q9 (b := 8) rfl rfl rfl rfl (by omega) (by omega)) rfl ?_
  refine as_ (D0 (nb ?_))
  exact rn (m - 8) (by omega) (by omega) (kq 0 (kp 1 (by rw [show n - (m - 8) = k + 8 by omega, A1q, ← hv]; rfl) (D8 4))) (Fit.eq (by rw [show n - (m - 8) = k + 8 by omega, show m - 2 - 2 - 2 - 2 = m - 8 by omega, show k + 2 + 2 + 2 + 2 = k + 8 by omega])) (fun _ h => h)
 ·
  have hm8 : m < 8 := by simp at hc; omega
  refine E6 (te (re (be rfl (nx (E1 0 1 4) ?_))))
  obtain ⟨k, hk⟩ : ∃ k, k = n - m := ⟨_, rfl⟩
  rw [← hk]
  have hkm : k + m = n := by omega
  obtain ⟨v, hv⟩ : ∃ v, v = u / 10 ^ k := ⟨_, rfl⟩
  rw [← hv]
  rw [← hk, ← hv] at hb
  have hb7 : v < 10000000 := Nat.lt_of_lt_of_le hb (Nat.pow_le_pow_right (by decide) (by omega) : 10 ^ m ≤ 10 ^ 7)
  refine A3 (mv_ ?_)
  refine A4 (A7S rfl kR) rfl ?_
  refine as_ ?_
  rw [show v % 4294967296 = v by omega]
  refine A0 (E1 0 4 12) ?_
  refine A0q (α := Nat) (fun m => [(0, .slice (some ⟨b, o, none⟩) n cap), (4, .int .i64 (m : Int)), (12, .int .u32 ((u / 10 ^ (n - m) : Nat) : Int))]) (fun m => [(b, blk (nums .u8 (xs.take (o + m) ++ (dgs (n - m) u ++ xs.drop (o + n)))) e)]) (fun _ => []) (fun m => m ≤ n ∧ m < 4) ?_ ?_
  ·
   refine A3 (mv_ ?_)
   refine A4 (F1 rfl rfl rfl) rfl ?_
   refine A0 (E7 0 4 12 99) ?_
   refine C8 rfl (fun hc => ?_) (fun hc => ?_)
   ·
    have hm4 : 4 ≤ m := by simp at hc; omega
    refine A3 (mv_ ?_)
    refine A4 (A1f (b := 10000) rfl rfl rfl rfl (by omega)) rfl ?_
    refine as_ (A0 (E7 0 4 12 13) (A3 (mv_ ?_)))
    refine A4 (A3i (b := 10000) (m := 4294967296) rfl rfl rfl rfl rfl rfl (by omega) (by omega)) rfl ?_
    refine as_ (A0 (E7 0 4 12 13) (A3 (mv_ ?_)))
    refine A4 (A3i (b := 100) (m := 4294967296) rfl rfl rfl rfl rfl rfl (by omega) (by omega)) rfl ?_
    refine A4 (R6 4294967296 (b := 2) rfl rfl rfl rfl rfl rfl) rfl ?_
    refine mv_ ?_
    refine A4 (A1f (b := 100) rfl rfl rfl rfl (by omega)) rfl ?_
    refine A4 (R6 4294967296 (b := 2) rfl rfl rfl rfl rfl rfl) rfl ?_
    refine as_ (as_ (A0 (F7 0 4 12 14 15) ?_))
    refine D2 [0, 1, 2, 3, 4, 5, 6, 7, 8, 9, 10, 11, 13] (zp 0 [0, 0, 0, 0, 0, 0, 0, 0, 0, 0, 0, 0, 2, 0, 2]) kR kR fun hs => ?_
    refine fm_ hs ?_
    refine fm_ hs ?_
    refine D1 hs rfl (Q9 (b := 1) rfl rfl rfl rfl (by omega) (by omega)) rfl ?_
    refine fm_ hs ?_
    refine fm_ hs ?_
    refine D1 hs rfl (Q9 (b := 2) rfl rfl rfl rfl (by omega) (by omega)) rfl ?_
    refine fm_ hs ?_
    refine D1 hs rfl (H9 4294967296 (b := 1) rfl rfl rfl rfl rfl rfl) rfl ?_
    refine D1 hs rfl (A0s (p := (v % 10000 % 100)) rfl kR rfl kR (by omega) (by omega)) rfl ?_
    refine fm_ hs ?_
    refine D1 hs rfl (A0r (p := (v % 10000 % 100)) rfl kR rfl kR (by omega) (by omega)) rfl ?_
    refine D1 hs rfl (P7 (e := 5) (sz := 1) (i := m - 1) rfl rfl kR kR (by omega) (by omega)) rfl ?_
    refine G2 rfl rfl rfl (S0 (o + (m - 1)) rfl rfl kR (by omega) (by rw [S5 (by omega)]; omega) UpC.upd ?_)
    refine D1 hs rfl (P7 (e := 5) (sz := 1) (i := m - 2) rfl rfl kR kR (by omega) (by omega)) rfl ?_
    refine G2 rfl rfl rfl (S0 (o + (m - 2)) rfl rfl kR (by omega) (by rw [List.length_set, S5 (by omega)]; omega) UpC.upd ?_)
    rw [A1p (by omega) (by omega) (by rw [← hv]; omega)]
    refine E3 (E7 0 4 12 14) ?_
    refine D2 [0, 1, 2, 3, 4, 5, 6, 7, 8, 9, 10, 11, 13] (zp 0 [0, 0, 0, 0, 0, 0, 0, 0, 0, 0, 0, 0, 2, 0, 2]) kR kR fun hs => ?_
    refine fm_ hs ?_
    refine fm_ hs ?_
    refine D1 hs rfl (Q9 (b := 3) rfl rfl rfl rfl (by omega) (by omega)) rfl ?_
    refine fm_ hs ?_
    refine fm_ hs ?_
    refine D1 hs rfl (Q9 (b := 4) rfl rfl rfl rfl (by omega) (by omega)) rfl ?_
    refine fm_ hs ?_
    refine D1 hs rfl (H9 4294967296 (b := 1) rfl rfl rfl rfl rfl rfl) rfl ?_
    refine D1 hs rfl (A0s (p := (v % 10000 / 100)) rfl kR rfl kR (by omega) (by omega)) rfl ?_
    refine fm_ hs ?_
    refine D1 hs rfl (A0r (p := (v % 10000 / 100)) rfl kR rfl kR (by omega) (by omega)) rfl ?_
    refine D1 hs rfl (P7 (e := 5) (sz := 1) (i := (m - 2) - 1) rfl rfl kR kR (by omega) (by omega)) rfl ?_
    refine G2 rfl rfl rfl (S0 (o + ((m - 2) - 1)) rfl rfl kR (by omega) (by rw [S5 (by omega)]; omega) UpC.upd ?_)
    refine D1 hs rfl (P7 (e := 5) (sz := 1) (i := (m - 2) - 2) rfl rfl kR kR (by omega) (by omega)) rfl ?_
    refine G2 rfl rfl rfl (S0 (o + ((m - 2) - 2)) rfl rfl kR (by omega) (by rw [List.length_set, S5 (by omega)]; omega) UpC.upd ?_)
    rw [A1p (by omega) (by omega) (by rw [A1q, ← hv]; omega)]
    refine E3 (E1 0 4 12) (C3 (mv_ ?_))
    refine A4 (Q9 (b := 4) rfl rfl rfl rfl (by omega) (by omega)) rfl ?_
    refine as_ (D0 ?_)
    exact jn (m - 4) ⟨by omega, by omega⟩ (kq 0 (kq 4 (kp 12 (by rw [show n - (m - 4) = k + 4 by omega, A1q, ← hv]; rfl) kn))) (Fit.eq (by rw [show n - (m - 4) = k + 4 by omega, show m - 2 - 2 = m - 4 by omega, show k + 2 + 2 = k + 4 by omega])) (fun _ h => h)
   ·
    have hm4 : m < 4 := by simp at hc; omega
    refine A9 ?_
    exact jn m ⟨hm, hm4⟩ (kq 0 (kq 4 (kp 12 (by rw [← hk, ← hv]; rfl) kn))) (Fit.eq (by rw [← hk])) (fun _ h => h)
  ·
   rintro m2 ⟨hm2, hm24⟩
   have hb2 := A4V hu hm2
   obtain ⟨k2, hk2⟩ : ∃ k, k = n - m2 := ⟨_, rfl⟩
   rw [← hk2]
   have hkm2 : k2 + m2 = n := by omega
   obtain ⟨v2, hv2⟩ : ∃ v, v = u / 10 ^ k2 := ⟨_, rfl⟩
   rw [← hv2]
   rw [← hk2, ← hv2] at hb2
   have hb27 : v2 < 1000 := Nat.lt_of_lt_of_le hb2 (Nat.pow_le_pow_right (by decide) (by omega) : 10 ^ m2 ≤ 10 ^ 3)
   refine A0q (α := Nat) (fun m => [(0, .slice (some ⟨b, o, none⟩) n cap), (4, .int .i64 (m : Int)), (12, .int .u32 ((u / 10 ^ (n - m) : Nat) : Int))]) (fun m => [(b, blk (nums .u8 (xs.take (o + m) ++ (dgs (n - m) u ++ xs.drop (o + n)))) e)]) (fun _ => []) (fun m => m ≤ n ∧ m < 2) ?_ ?_
   ·
    refine A3 (mv_ ?_)
    refine A4 (F1 rfl rfl rfl) rfl ?_
    refine A0 (E7 0 4 12 139) ?_
    refine C8 rfl (fun hc => ?_) (fun hc => ?_)
    ·
     have hm22 : 2 ≤ m2 := by simp at hc; omega
     refine A3 (mv_ ?_)
     refine A4 (A1f (b := 100) rfl rfl rfl rfl (by omega)) rfl ?_
     refine A4 (R6 4294967296 (b := 2) rfl rfl rfl rfl rfl rfl) rfl ?_
     refine as_ (A0 (E7 0 4 12 16) (A3 (mv_ ?_)))
     refine A4 (A3i (b := 100) (m := 4294967296) rfl rfl rfl rfl rfl rfl (by omega) (by omega)) rfl ?_
     refine as_ (A0 (E7 0 4 12 16) ?_)
     refine D2 [0, 1, 2, 3, 4, 5, 6, 7, 8, 9, 10, 11, 13] (zp 0 [0, 0, 0, 0, 0, 0, 0, 0, 0, 0, 0, 0, 2, 0, 2]) kR kR fun hs => ?_
     refine fm_ hs ?_
     refine fm_ hs ?_
     refine D1 hs rfl (Q9 (b := 1) rfl rfl rfl rfl (by omega) (by omega)) rfl ?_
     refine fm_ hs ?_
     refine fm_ hs ?_
     refine D1 hs rfl (Q9 (b := 2) rfl rfl rfl rfl (by omega) (by omega)) rfl ?_
     refine fm_ hs ?_
     refine D1 hs rfl (H9 4294967296 (b := 1) rfl rfl rfl rfl rfl rfl) rfl ?_
     refine D1 hs rfl (A0s (p := (v2 % 100)) rfl kR rfl kR (by omega) (by omega)) rfl ?_
     refine fm_ hs ?_
     refine D1 hs rfl (A0r (p := (v2 % 100)) rfl kR rfl kR (by omega) (by omega)) rfl ?_
     refine D1 hs rfl (P7 (e := 5) (sz := 1) (i := m2 - 1) rfl rfl kR kR (by omega) (by omega)) rfl ?_
     refine G2 rfl rfl rfl (S0 (o + (m2 - 1)) rfl rfl kR (by omega) (by rw [S5 (by omega)]; omega) UpC.upd ?_)
     refine D1 hs rfl (P7 (e := 5) (sz := 1) (i := m2 - 2) rfl rfl kR kR (by omega) (by omega)) rfl ?_
     refine G2 rfl rfl rfl (S0 (o + (m2 - 2)) rfl rfl kR (by omega) (by rw [List.length_set, S5 (by omega)]; omega) UpC.upd ?_)
     rw [A1p (by omega) (by omega) (by rw [← hv2])]
     refine E3 (E1 0 4 12) (C3 (mv_ ?_))
     refine A4 (Q9 (b := 2) rfl rfl rfl rfl (by omega) (by omega)) rfl ?_
     refine as_ (D0 ?_)
     exact jn (m2 - 2) ⟨by omega, by omega⟩ (kq 0 (kq 4 (kp 12 (by rw [show n - (m2 - 2) = k2 + 2 by omega, A1q, ← hv2]; rfl) kn))) (Fit.eq (by rw [show n - (m2 - 2) = k2 + 2 by omega])) (fun _ h => h)
    ·
     have hm22 : m2 < 2 := by simp at hc; omega
     refine A9 ?_
     exact jn m2 ⟨hm2, hm22⟩ (kq 0 (kq 4 (kp 12 (by rw [← hk2, ← hv2]; rfl) kn))) (Fit.eq (by rw [← hk2])) (fun _ h => h)
   ·
    rintro m3 ⟨hm3, hm32⟩
    have hb3 := A4V hu hm3
    refine A3 (mv_ ?_)
    refine A4 (F1 rfl rfl rfl) rfl ?_
    refine A0 (E1 0 12 161) ?_
    refine C8 rfl (fun hc => ?_) (fun hc => ?_)
    ·
     obtain rfl : m3 = 1 := by simp at hc; omega
     obtain ⟨k3, hk3⟩ : ∃ k, k = n - 1 := ⟨_, rfl⟩
     rw [← hk3]
     have hkm3 : k3 + 1 = n := by omega
     obtain ⟨v3, hv3⟩ : ∃ v, v = u / 10 ^ k3 := ⟨_, rfl⟩
     rw [← hv3]
     rw [← hk3, ← hv3] at hb3
     have hb37 : v3 < 10 := by simpa using hb3
     refine C3 (mv_ (mv_ ?_))
     refine A4 (H9 4294967296 (a := 48) rfl rfl rfl rfl rfl rfl) rfl ?_
     refine A4 (A25 rfl kR) rfl ?_
     rw [show (48 + v3) % 4294967296 % 256 = 48 + u / 10 ^ k3 % 10 by rw [← hv3]; omega]
     refine A4 (P7 (e := 5) (sz := 1) (i := 0) rfl rfl kR kR rfl (by omega)) rfl ?_
     refine A6 rfl (S0 (o + (1 - 1)) rfl rfl kR (by omega) (by rw [S5 (by omega)]; omega) UpC.upd ?_)
     rw [A3j (by omega) (by omega)]
     refine D0 ?_
     exact ⟨_, [(b, _)], [], B7P rfl, List.Sublist.refl _, by simp, rfl, by rw [hkm3]; rfl⟩
    ·
     obtain rfl : m3 = 0 := by simp at hc; omega
     refine A9 ?_
     exact ⟨_, [(b, _)], [], B7P rfl, List.Sublist.refl _, by simp, rfl, rfl⟩

end Go.Proofs.YthbhpfefdnffaaaGreatDoor
