/-
  Rules whose facts are found by their values: slices that read or are owned, blocks picked out of the owned ones.
-/
import Derived.Test.YthmnlkpikgglbaaGreatDoorAri
set_option linter.unusedVariables false
set_option linter.unusedSimpArgs false
namespace Go.Px
/-- The blocks B are among the owned ones M; R are the others. -/
class PickC (M : Mem) (B : Mem) (R : outParam Mem) : Prop where
  perm : M.Perm (B ++ R)
instance (priority := low) PickC.nil {M : Mem} : PickC M [] M := ⟨.refl _⟩
instance (priority := high) PickC.here {B M : Mem} : PickC (B ++ M) B M := ⟨.refl _⟩
instance PickC.sing {x : Nat × Obj} {M : Mem} : PickC (x :: M) [x] M := ⟨.refl _⟩
instance (priority := low) PickC.cons {x : Nat × Obj} {M B R : Mem} [h : PickC M B R] : PickC (x :: M) B (x :: R) := ⟨(List.Perm.cons x h.perm).trans List.perm_middle.symm⟩
instance (priority := low) PickC.app {D M B R : Mem} [h : PickC M B R] : PickC (D ++ M) B (D ++ R) := ⟨(List.Perm.append_left D h.perm).trans (List.perm_append_comm_assoc D B R)⟩
instance PickC.whole {B : Mem} : PickC B B [] := ⟨by simp⟩
/-- The facts X are among Y. -/
class SubC (X Y : Mem) : Prop where
  sub : ∀ x, x ∈ X → x ∈ Y
instance (priority := high) SubC.same {X : Mem} : SubC X X := ⟨fun _ h => h⟩
instance (priority := high) SubC.here {X Y : Mem} : SubC X (X ++ Y) := ⟨fun _ h => List.mem_append_left _ h⟩
instance SubC.left {X Y Z : Mem} [h : SubC X Y] : SubC X (Y ++ Z) := ⟨fun _ hx => List.mem_append_left _ (h.sub _ hx)⟩
instance (priority := low) SubC.right {X Y Z : Mem} [h : SubC X Z] : SubC X (Y ++ Z) := ⟨fun _ hx => List.mem_append_right _ (h.sub _ hx)⟩
instance (priority := low) SubC.tail {X Y : Mem} {y : Nat × Obj} [h : SubC X Y] : SubC X (y :: Y) := ⟨fun _ hx => List.mem_cons_of_mem _ (h.sub _ hx)⟩
instance SubC.nil {Y : Mem} : SubC [] Y := ⟨fun _ h => by simp at h⟩
instance SubC.sing {x : Nat × Obj} {Y : Mem} : SubC [x] (x :: Y) := ⟨fun _ h => by simp at h; simp [h]⟩
theorem Fit.pick {M B R M' : Mem} (h : M.Perm (B ++ R)) (hr : Fit R M') : Fit M (B ++ M') := by
  obtain ⟨M1, h1, h2⟩ := hr
  exact ⟨B ++ M1, h.trans (h1.append_left B), List.Sublist.append (List.Sublist.refl _) h2⟩
theorem Fit.last {M B R : Mem} (h : M.Perm (B ++ R)) : Fit M B := ⟨_, h, List.sublist_append_left _ _⟩
section rules
variable {P : Program} {R R' : Mem} {l : Env} {d : Option Nat} {ty t t' : TypeId} {pos : String} {af : Array Edge} {g : Option (Nat × Bool)} {x y z : Operand} {k k' : IntKind} {i j i' : Int} {a b : Nat} {v : Value} {sz n : Nat} {xs : List Value}
theorem q_addI (hx : ev l x = some (.int .i64 i)) (hy : ev l y = some (.int .i64 j)) (hi : i = (a : Int)) (hj : j = (b : Int)) (h : a + b < 9223372036854775808) : OpQ P R ⟨d, .binOp .add t x y t', ty, pos, af, g⟩ l (.int .i64 ((a + b : Nat) : Int)) := by
  subst hi; subst hj; exact q_num _ hx hy (add64 (by omega) (by omega) (by omega))
theorem q_subI (hx : ev l x = some (.int .i64 i)) (hy : ev l y = some (.int .i64 j)) (hi : i = (a : Int)) (hj : j = (b : Int)) (h : b ≤ a) (h2 : a < 9223372036854775808) : OpQ P R ⟨d, .binOp .sub t x y t', ty, pos, af, g⟩ l (.int .i64 ((a - b : Nat) : Int)) := by
  subst hi; subst hj; exact q_num _ hx hy (sub64 (by omega) (by omega) (by omega))
theorem q_mulI (hx : ev l x = some (.int .i64 i)) (hy : ev l y = some (.int .i64 j)) (hi : i = (a : Int)) (hj : j = (b : Int)) (h : a * b < 9223372036854775808) : OpQ P R ⟨d, .binOp .mul t x y t', ty, pos, af, g⟩ l (.int .i64 ((a * b : Nat) : Int)) := by
  subst hi; subst hj; exact q_num _ hx hy (mul64 (by simp) (by omega) (by omega))
theorem q_remI (hx : ev l x = some (.int k i)) (hy : ev l y = some (.int k j)) (hi : i = (a : Int)) (hj : j = (b : Int)) (hb : 0 < b) : OpQ P R ⟨d, .binOp .rem t x y t', ty, pos, af, g⟩ l (.int k ((a % b : Nat) : Int)) := by
  subst hi; subst hj; exact q_remN hx hy (by omega)
theorem q_quoI (hx : ev l x = some (.int .i64 i)) (hy : ev l y = some (.int .i64 j)) (hi : i = (a : Int)) (hj : j = (b : Int)) (hb : 0 < b) (h : a < 9223372036854775808) : OpQ P R ⟨d, .binOp .quo t x y t', ty, pos, af, g⟩ l (.int .i64 ((a / b : Nat) : Int)) := by
  subst hi; subst hj; exact q_quoN hx hy (by omega) (wrapI (Nat.lt_of_le_of_lt (Nat.div_le_self a b) h))
theorem q_quoU {m : Nat} (hk : k.signed = false) (hm : 2 ^ k.bits = m) (hx : ev l x = some (.int k i)) (hy : ev l y = some (.int k j)) (hi : i = (a : Int)) (hj : j = (b : Int)) (hb : 0 < b) (h : a < m) : OpQ P R ⟨d, .binOp .quo t x y t', ty, pos, af, g⟩ l (.int k ((a / b : Nat) : Int)) := by
  subst hi; subst hj; exact q_quoN hx hy (by omega) (by rw [wrap_nat hk, hm, Nat.mod_eq_of_lt (Nat.lt_of_le_of_lt (Nat.div_le_self a b) h)])
/-- Shifts by a number that is known. -/
theorem q_shrI (hx : ev l x = some (.int k i)) (hy : ev l y = some (.int k' j)) (hi : i = (a : Int)) (hj : j = (b : Int)) (hs : b ≤ k.bits) : OpQ P R ⟨d, .binOp .shr t x y t', ty, pos, af, g⟩ l (.int k ((a / 2 ^ b : Nat) : Int)) := by
  subst hi; subst hj; rw [← Nat.shiftRight_eq_div_pow]; exact q_shrN b hx hy rfl hs
theorem q_shlI (m : Nat) (hk : k.signed = false) (hm : 2 ^ k.bits = m) (hx : ev l x = some (.int k i)) (hy : ev l y = some (.int k' j)) (hi : i = (a : Int)) (hj : j = (b : Int)) (hs : b ≤ k.bits) : OpQ P R ⟨d, .binOp .shl t x y t', ty, pos, af, g⟩ l (.int k ((a * 2 ^ b % m : Nat) : Int)) := by
  subst hi; subst hj; subst hm; rw [← Nat.shiftLeft_eq]; exact q_shlN hk b hx hy rfl hs
theorem q_lenV2 (hx : ev l x = some v) (hu : slE P t = some sz) (h : Rd R' sz v n xs) :
    OpQ P R ⟨d, .call { callee := .builtin .len, args := #[x], argTypes := #[t] }, ty, pos, af, g⟩ l (.int .i64 n) := q_lenV h hx hu
theorem q_hiV2 (hx : ev l x = some v) (hy : ev l y = some (.int k i)) (hu : slE P t = some sz) (hi : i = (a : Int)) (h : Rd R' sz v n xs) (hj : a ≤ n) :
    OpQ P R ⟨d, .slice t x none (some y) none, ty, pos, af, g⟩ l (vHi a v) := q_hiV h hx hy hu a hi hj
theorem q_loV2 (hx : ev l x = some v) (hy : ev l y = some (.int k i)) (hu : slE P t = some sz) (hi : i = (a : Int)) (h : Rd R' sz v n xs) (hj : a ≤ n) :
    OpQ P R ⟨d, .slice t x (some y) none none, ty, pos, af, g⟩ l (vLo a sz v) := q_loV h hx hy hu a hi hj
theorem q_lhV2 (hx : ev l x = some v) (hy : ev l y = some (.int k i)) (hz : ev l z = some (.int k' i')) (hu : slE P t = some sz) (hi : i = (a : Int)) (hi' : i' = (b : Int)) (h : Rd R' sz v n xs) (hab : a ≤ b) (hb : b ≤ n) :
    OpQ P R ⟨d, .slice t x (some y) (some z) none, ty, pos, af, g⟩ l (vLo a sz (vHi b v)) := q_lhV h hx hy hz hu a b hi hi' hab hb
/-- An array is sliced. -/
theorem q_sliceA {e : TypeId} {b o n sz : Nat} {lo hi mx : Option Operand} {nl nh nm : Option Nat} (hx : ev l x = some (.pointer (some ⟨b, o, none⟩))) (hu : P.underlying t = some (.array n e)) (hs : sizeT P e = some sz)
    (h1 : EvO l lo nl) (h2 : EvO l hi nh) (h3 : EvO l mx nm) (hmh : nm.isSome = true → nh.isSome = true) (hm : nm.getD n ≤ n) (hh : nh.getD n ≤ nm.getD n) (hl : nl.getD 0 ≤ nh.getD n) :
    OpQ P R ⟨d, .slice t x lo hi mx, ty, pos, af, g⟩ l (.slice (some (if nm.getD n = nl.getD 0 then ⟨b, o, none⟩ else ⟨b, o + nl.getD 0 * sz, none⟩)) (nh.getD n - nl.getD 0) (nm.getD n - nl.getD 0)) := fun N a w ha hw => by
  unfold sizeT at hs
  cases hq : P.info? e with
  | none => simp [hq] at hs
  | some inf =>
    simp only [hq, Option.map_some, Option.some.injEq] at hs
    subst hs
    simp only [execOp, ha.ev hx, Instr.sliceAt, Sem.run_bind, run_underlying hu, Result.andThen_ok, Instr.sureAddr, Sem.run_pure, sliceBounds_run ha h1 h2 h3 false n n w hm hh hl hmh]
    simp [sizeOf, typeInfo, hq, Addr.add]
    by_cases h0 : nl.getD 0 * inf.size = 0 <;> simp [h0]
theorem q_slArr {e : TypeId} {b o n sz : Nat} (hx : ev l x = some (.pointer (some ⟨b, o, none⟩))) (hu : P.underlying t = some (.array n e)) (hs : sizeT P e = some sz) :
    OpQ P R ⟨d, .slice t x none none none, ty, pos, af, g⟩ l (.slice (some ⟨b, o, none⟩) n n) := by
  have := q_sliceA (R := R) (d := d) (ty := ty) (pos := pos) (af := af) (g := g) hx hu hs o0 o0 o0 (by simp) (by simp) (by simp) (by simp)
  simpa using this
theorem q_slALH (lo hi : Nat) {e : TypeId} {b o n sz : Nat} (hx : ev l x = some (.pointer (some ⟨b, o, none⟩))) (hu : P.underlying t = some (.array n e)) (hs : sizeT P e = some sz) (hy : ev l y = some (.int k i)) (hz : ev l z = some (.int k' i')) (hi1 : i = (lo : Int)) (hi2 : i' = (hi : Int)) (h0 : lo < n) (h1 : lo ≤ hi) (h2 : hi ≤ n) :
    OpQ P R ⟨d, .slice t x (some y) (some z) none, ty, pos, af, g⟩ l (.slice (some ⟨b, o + lo * sz, none⟩) (hi - lo) (n - lo)) := by
  have := q_sliceA (R := R) (d := d) (ty := ty) (pos := pos) (af := af) (g := g) hx hu hs (o1 lo hy hi1) (o1 hi hz hi2) o0 (by simp) (by simp) (by simpa using h2) (by simpa using h1)
  rw [if_neg (by simp; omega)] at this
  simpa using this
theorem q_slAHi (hi : Nat) {e : TypeId} {b o n sz : Nat} (hx : ev l x = some (.pointer (some ⟨b, o, none⟩))) (hu : P.underlying t = some (.array n e)) (hs : sizeT P e = some sz) (hz : ev l z = some (.int k' i')) (hi2 : i' = (hi : Int)) (h2 : hi ≤ n) :
    OpQ P R ⟨d, .slice t x none (some z) none, ty, pos, af, g⟩ l (.slice (some ⟨b, o, none⟩) hi n) := by
  have := q_sliceA (R := R) (d := d) (ty := ty) (pos := pos) (af := af) (g := g) hx hu hs o0 (o1 hi hz hi2) o0 (by simp) (by simp) (by simpa using h2) (by simp)
  simpa using this
theorem q_slALo (lo : Nat) {e : TypeId} {b o n sz : Nat} (hx : ev l x = some (.pointer (some ⟨b, o, none⟩))) (hu : P.underlying t = some (.array n e)) (hs : sizeT P e = some sz) (hy : ev l y = some (.int k i)) (hi1 : i = (lo : Int)) (h0 : lo < n) :
    OpQ P R ⟨d, .slice t x (some y) none none, ty, pos, af, g⟩ l (.slice (some ⟨b, o + lo * sz, none⟩) (n - lo) (n - lo)) := by
  have := q_sliceA (R := R) (d := d) (ty := ty) (pos := pos) (af := af) (g := g) hx hu hs (o1 lo hy hi1) o0 o0 (by simp) (by simp) (by simp) (by simp; omega)
  rw [if_neg (by simp; omega)] at this
  simpa using this
/-- Some elements out of the middle of a block. -/
theorem Rd.mid {R : Mem} {b o n cap : Nat} {cs : List Value} {e : TypeId} {fr : Nat × Nat} (hb : (b, Obj.cells cs.toArray e fr) ∈ R) (h : o + n ≤ cs.length) (hc : n ≤ cap) : Rd R 1 (.slice (some ⟨b, o, none⟩) n cap) n ((cs.drop o).take n) := by
  refine ⟨_, cap, rfl, by simp; omega, hc, .inr ⟨b, o, cs, e, fr, rfl, hb, fun j u hj => ?_⟩⟩
  have hjn : j < n := by have := (List.getElem?_eq_some_iff.1 hj).1; simp at this; omega
  rw [List.getElem?_take_of_lt hjn, List.getElem?_drop] at hj
  exact hj
theorem q_atV2 (hx : ev l x = some v) (hy : ev l y = some (.int k i)) (hu : slE P t = some sz) (hi : i = (a : Int)) (h : Rd R' sz v n xs) (hj : a < n) :
    OpQ P R ⟨d, .indexAddr t x y, ty, pos, af, g⟩ l (vAt sz a v) := q_atV h hx hy hu a hi hj
theorem q_ldVN2 {ws : List Nat} (hx : ev l x = some (vAt 1 a v)) (ht : scalarT P t = true) (h : Rd R 1 v n (nums k ws)) (hj : a < n) : OpQ P R ⟨d, .load t x, ty, pos, af, g⟩ l (.int k ((ws.getD a 0 : Nat) : Int)) := q_ldVN h hx ht hj
theorem Rd.one {R : Mem} {v : Value} {n sz : Nat} {xs : List Value} (h : Rd R sz v n xs) : v.oneCell' = true := by
  obtain ⟨p, c, rfl, _⟩ := h; rfl
theorem Sl.one {B : Mem} {v : Value} {n sz : Nat} {xs : List Value} (h : Sl sz v n xs B) : v.oneCell' = true := by
  obtain ⟨p, c, rfl, _⟩ := h.val; rfl
/-- An element of several cells. -/
theorem q_ldVR {rows : List (List Value)} {r : List Value} (hx : ev l x = some (vAt sz a v)) (ht : rowT P t = some sz) (h : Rd R sz v n rows.flatten) (hl : ∀ r ∈ rows, r.length = sz) (hs : 0 < sz) (hr : rows[a]? = some r) : OpQ P R ⟨d, .load t x, ty, pos, af, g⟩ l (.agg r.toArray) := by
  obtain ⟨p, c, rfl, h2, h3, h4⟩ := h
  have hal := (List.getElem?_eq_some_iff.1 hr).1
  have hfl := flat_len hl
  rcases h4 with rfl | ⟨b, o, cs, e', fr, rfl, hb, hx'⟩
  · rw [h2, Nat.zero_mul] at hfl
    have := Nat.mul_pos (show 0 < rows.length by omega) hs
    omega
  · simp only [vAt, Addr.add_mid] at hx
    refine q_loadR hx ht hb (hl r (List.mem_of_getElem? hr)) fun j u hj => ?_
    have hjl : j < sz := by have := (List.getElem?_eq_some_iff.1 hj).1; rwa [hl r (List.mem_of_getElem? hr)] at this
    rw [Nat.add_assoc]
    exact hx' _ _ (by rw [flat_get hl hr j hjl]; exact hj)
theorem q_toStr2 {s : TypeId} {ws : List Nat} (hx : ev l x = some v) (hc : bytesT P s t = true) (h : Rd R 1 v n (nums .u8 ws)) : OpQ P R ⟨d, .convert s t x, ty, pos, af, g⟩ l (.string (txt ws)) := q_toStr h hx hc
end rules
section loud
variable {C : Cx} {l : Env} {M J : Mem} {K : Env → Mem → Mem → Prop} {d : Nat} {ty t e : TypeId} {pos : String} {af : Array Edge} {g : Option (Nat × Bool)} {x y : Operand} {k : IntKind}
theorem l_stV2 {v : Value} {ws : List Nat} {n a u : Nat} {B M0 : Mem} {i : Int} (hx : ev l x = some (vAt 1 a v)) (hy : ev l y = some (.int k i)) (hi : i = (u : Int)) (ht : sizeT C.P t = some 1) (h : Sl 1 v n (nums k ws) B) (hj : a < n) (hM : M.Perm (B ++ M0)) (h2 : ∀ B', Sl 1 v n (nums k (ws.set a u)) B' → K l (B' ++ M0) J) :
    OpL C ⟨none, .store t x y, ty, pos, af, g⟩ l M J K := l_stV h hx (hi ▸ hy) ht hj hM h2
theorem l_append2 {sz by_ n m : Nat} {v u : Value} {xs ys : List Value} {B M0 : Mem} (hx : ev l x = some v) (hy : ev l y = some u) (ht : elemT C.P t = some (e, sz, by_)) (hsz : Nat.blt 0 sz = true)
    (hs : Sl sz v n xs B) (hr : Rd (M ++ (J ++ C.A)) sz u m ys) (h1c : ∀ c ∈ ys, c.oneCell' = true) (hM : M.Perm (B ++ M0)) (hmax : n + m ≤ maxLen) (hbytes : (n + m) * by_ ≤ 140737488355328) (hd : Nat.blt d C.N = true)
    (k : ∀ v' B', Sl sz v' (n + m) (xs ++ ys) B' → K ((d, v') :: l) (B' ++ M0) J) :
    OpL C ⟨some d, .call { callee := .builtin .append, args := #[x, y], argTypes := #[t, t] }, ty, pos, af, g⟩ l M J K := l_append hx hy ht hsz hs hr h1c hM hmax hbytes hd k
theorem l_makeV {by_ : Nat} {kl kc : IntKind} {i j : Int} {a : Nat} (hx : ev l x = some (.int kl i)) (hy : ev l y = some (.int kc j)) (ht : mkT C.P t = some (e, k, by_)) (hi : i = (a : Int)) (hj : j = (a : Int))
    (hb : by_ * a ≤ 281474976710656) (hn : a ≤ 140737488355328) (hd : Nat.blt d C.N = true) (h : ∀ v B, Sl 1 v a (nums k (List.replicate a 0)) B → K ((d, v) :: l) (B ++ M) J) :
    OpL C ⟨some d, .makeSlice t x y, ty, pos, af, g⟩ l M J K := l_makeN a hx hy ht hi hj hb (by omega) hd fun b => h _ _ (Sl.fresh (by simp) (by unfold maxLen; omega))
/-- A call that gets blocks. -/
theorem l_callB {f : FuncId} {xs : List Operand} {vs : List Value} {ts : Array TypeId} {Mc R : Mem} {post : Value → Mem → Mem → Prop} (hx : Evs l xs vs) (hc : callable C.P f = true) (hf : FnX C.P f vs Mc (R ++ (J ++ C.A)) post) (hM : M.Perm (Mc ++ R)) (hd : Nat.blt d C.N = true)
    (k : ∀ r M' J', post r M' J' → K ((d, r) :: l) (M' ++ R) (J' ++ J)) : OpL C ⟨some d, .call { callee := .value (.func f), args := xs.toArray, argTypes := ts }, ty, pos, af, g⟩ l M J K := l_call hx hc hM hf hd k
end loud
end Go.Px
