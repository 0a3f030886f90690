/-
  Texts as rows of bytes: lengths, bytes, parts, sums, sameness; a text as bytes.
-/
import Derived.Test.YthmnlkpikgglbaaGreatDoorAut
import Derived.Lib.ConvBytes
set_option linter.unusedVariables false
set_option linter.unusedSimpArgs false
namespace Go.Px
theorem txt_size' (p : List Nat) : (txt p).size = p.length := by simp [txt, ByteArray.size]
theorem txt_get {ws : List Nat} (h : ∀ x ∈ ws, x < 256) {j : Nat} (hj : j < ws.length) : (txt ws)[j]? = some (UInt8.ofNat (ws.getD j 0)) := by
  have h2 : j < (txt ws).size := by rw [txt_size']; exact hj
  rw [getElem?_pos (txt ws) j h2]
  congr 1
  show ((ws.map UInt8.ofNat).toArray)[j]'_ = _
  simp only [List.getD, List.getElem?_eq_getElem hj, Option.getD_some]
  have : ∀ (l : List Nat) (h : j < l.length) (h' : j < (l.map UInt8.ofNat).toArray.size), (l.map UInt8.ofNat).toArray[j] = UInt8.ofNat l[j] := fun l h h' => by simp
  exact this ws hj _
theorem txt_beq {a b : List Nat} (ha : ∀ x ∈ a, x < 256) (hb : ∀ x ∈ b, x < 256) : ((txt a).toList == (txt b).toList) = decide (a = b) := by
  have e : ∀ w : List Nat, (txt w).toList = w.map UInt8.ofNat := fun w => by
    rw [ByteArray.toList_eq] <;> simp [txt]
  by_cases h : a = b
  · subst h; simp
  · rw [decide_eq_false h]
    rw [e, e, beq_eq_false_iff_ne]
    intro hc
    exact h (txt_inj ha hb (by unfold txt; rw [hc]))
theorem txt_extract (ws : List Nat) (lo hi : Nat) : (txt ws).extract lo hi = txt ((ws.take hi).drop lo) := by
  apply ByteArray.ext
  simp [txt, ByteArray.data_extract, List.map_take, List.map_drop, List.extract_eq_take_drop, List.drop_take]
section
variable {P : Program} {R : Mem} {l : Env} {d : Option Nat} {ty s t t' e : TypeId} {pos : String} {af : Array Edge} {g : Option (Nat × Bool)} {x y z : Operand} {v : Value} {n a b : Nat} {k k' : IntKind} {i i' : Int} {S S' : ByteArray} {ws ws' : List Nat}
theorem q_sLen (hx : ev l x = some (.string S)) (hS : S = txt ws) (hu : P.underlying t = some .string) : OpQ P R ⟨d, .call { callee := .builtin .len, args := #[x], argTypes := #[t] }, ty, pos, af, g⟩ l (.int .i64 ((ws.length : Nat) : Int)) := by
  have := q_lenStr (P := P) (R := R) (d := d) (ty := ty) (pos := pos) (af := af) (g := g) hx hu
  rwa [hS, txt_size'] at this
theorem q_sAt (hx : ev l x = some (.string S)) (hS : S = txt ws) (h256 : ∀ x ∈ ws, x < 256) (hy : ev l y = some (.int k i)) (hu : P.underlying t = some .string) (hi : i = (a : Int)) (ha : a < ws.length) :
    OpQ P R ⟨d, .index t x y, ty, pos, af, g⟩ l (.int .u8 ((ws.getD a 0 : Nat) : Int)) := fun N A w hA hw => by
  subst hi; subst hS
  have h1 := getD_lt (i := a) h256 (by decide)
  simp only [execOp, hA.ev hx, hA.ev hy, Instr.index, asIntOf, Sem.run_bind, Sem.run_pure, run_underlying hu, Result.andThen_ok, Int.toNat_natCast, txt_get h256 ha, if_pos (Int.natCast_nonneg a)]
  have : (UInt8.ofNat (ws.getD a 0)).toNat = ws.getD a 0 := by
    generalize ws.getD a 0 = c at h1
    simp; omega
  simp only [this, Sem.run_pure]
theorem q_sSl {lo hi : Option Operand} {nl nh : Option Nat} (hx : ev l x = some (.string S)) (hS : S = txt ws) (hu : P.underlying t = some .string) (h1 : EvO l lo nl) (h2 : EvO l hi nh) (hh : nh.getD ws.length ≤ ws.length) (hl : nl.getD 0 ≤ nh.getD ws.length) :
    OpQ P R ⟨d, .slice t x lo hi none, ty, pos, af, g⟩ l (.string (txt ((ws.take (nh.getD ws.length)).drop (nl.getD 0)))) := fun N A w hA hw => by
  subst hS
  have hb := sliceBounds_run (P := P) (lo := lo) (hi := hi) (mx := none) hA h1 h2 o0 false ws.length ws.length w (by simp) (by simpa using hh) (by simpa using hl) (by simp)
  simp only [Option.map_none] at hb
  simp only [execOp, hA.ev hx, Instr.sliceAt, Sem.run_bind, run_underlying hu, Result.andThen_ok, Instr.slice, Option.map_none, Option.isSome_none, Bool.false_eq_true, if_false, txt_size', hb]
  simp [txt_extract]
theorem q_sHi (hx : ev l x = some (.string S)) (hS : S = txt ws) (hy : ev l y = some (.int k i)) (hu : P.underlying t = some .string) (hi : i = (a : Int)) (h : a ≤ ws.length) : OpQ P R ⟨d, .slice t x none (some y) none, ty, pos, af, g⟩ l (.string (txt (ws.take a))) := by
  have := q_sSl (P := P) (R := R) (d := d) (ty := ty) (pos := pos) (af := af) (g := g) hx hS hu o0 (o1 a hy hi) (by simpa using h) (by simp)
  simpa using this
theorem q_sLo (hx : ev l x = some (.string S)) (hS : S = txt ws) (hy : ev l y = some (.int k i)) (hu : P.underlying t = some .string) (hi : i = (a : Int)) (h : a ≤ ws.length) : OpQ P R ⟨d, .slice t x (some y) none none, ty, pos, af, g⟩ l (.string (txt (ws.drop a))) := by
  have := q_sSl (P := P) (R := R) (d := d) (ty := ty) (pos := pos) (af := af) (g := g) hx hS hu (o1 a hy hi) o0 (by simp) (by simpa using h)
  simpa using this
theorem q_sLH (hx : ev l x = some (.string S)) (hS : S = txt ws) (hy : ev l y = some (.int k i)) (hz : ev l z = some (.int k' i')) (hu : P.underlying t = some .string) (hi : i = (a : Int)) (hi' : i' = (b : Int)) (hab : a ≤ b) (h : b ≤ ws.length) : OpQ P R ⟨d, .slice t x (some y) (some z) none, ty, pos, af, g⟩ l (.string (txt ((ws.take b).drop a))) := by
  have := q_sSl (P := P) (R := R) (d := d) (ty := ty) (pos := pos) (af := af) (g := g) hx hS hu (o1 a hy hi) (o1 b hz hi') (by simpa using h) (by simpa using hab)
  simpa using this
theorem q_sAdd (hx : ev l x = some (.string S)) (hy : ev l y = some (.string S')) (hS : S = txt ws) (hS' : S' = txt ws') (h : ws.length + ws'.length ≤ 9223372036854775807) : OpQ P R ⟨d, .binOp .add t x y t', ty, pos, af, g⟩ l (.string (txt (ws ++ ws'))) := by
  subst hS; subst hS'
  have := q_strAdd (P := P) (R := R) (d := d) (ty := ty) (pos := pos) (af := af) (g := g) (t := t) (t' := t') hx hy (by rw [txt_size', txt_size']; exact h)
  rwa [txt_append] at this
theorem q_sEq (hx : ev l x = some (.string S)) (hy : ev l y = some (.string S')) (hS : S = txt ws) (hS' : S' = txt ws') (h : ∀ x ∈ ws, x < 256) (h' : ∀ x ∈ ws', x < 256) : OpQ P R ⟨d, .binOp .eql t x y t', ty, pos, af, g⟩ l (.bool (decide (ws = ws'))) := by
  subst hS; subst hS'
  have := q_strEq (P := P) (R := R) (d := d) (ty := ty) (pos := pos) (af := af) (g := g) (t := t) (t' := t') hx hy
  rwa [txt_beq h h'] at this
theorem q_sNe (hx : ev l x = some (.string S)) (hy : ev l y = some (.string S')) (hS : S = txt ws) (hS' : S' = txt ws') (h : ∀ x ∈ ws, x < 256) (h' : ∀ x ∈ ws', x < 256) : OpQ P R ⟨d, .binOp .neq t x y t', ty, pos, af, g⟩ l (.bool !(decide (ws = ws'))) := by
  subst hS; subst hS'
  have := q_strNe (P := P) (R := R) (d := d) (ty := ty) (pos := pos) (af := af) (g := g) (t := t) (t' := t') hx hy
  rwa [txt_beq h h'] at this
end
/-! ### Bytes that are below 256, found by themselves -/
class B256 (ws : List Nat) : Prop where
  lt : ∀ x ∈ ws, x < 256
instance B256.nil : B256 [] := ⟨fun _ h => by cases h⟩
instance B256.app {a b : List Nat} [ha : B256 a] [hb : B256 b] : B256 (a ++ b) := ⟨fun x h => (List.mem_append.1 h).elim (ha.lt x) (hb.lt x)⟩
instance B256.take {a : List Nat} {n : Nat} [ha : B256 a] : B256 (a.take n) := ⟨fun x h => ha.lt x (List.mem_of_mem_take h)⟩
instance B256.drop {a : List Nat} {n : Nat} [ha : B256 a] : B256 (a.drop n) := ⟨fun x h => ha.lt x (List.mem_of_mem_drop h)⟩
theorem B256.cons {x : Nat} {a : List Nat} (hx : x < 256) (ha : B256 a) : B256 (x :: a) := ⟨fun y h => (List.mem_cons.1 h).elim (fun h => h ▸ hx) (ha.lt y)⟩
/-! ### Interfaces and slices against nil -/
def isNil : Value → Bool
  | .slice none _ _ => true
  | _ => false
section
variable {P : Program} {R R' : Mem} {l : Env} {d : Option Nat} {ty t t' e : TypeId} {pos : String} {af : Array Edge} {g : Option (Nat × Bool)} {x y : Operand} {v : Value} {n sz : Nat} {xs : List Value} {ms : Array (String × TypeId)}
def isIf (P : Program) (t : TypeId) : Bool :=
  match P.underlying t with
  | some (.interface _) => true
  | _ => false
theorem isIf_spec (h : isIf P t = true) : ∃ ms, P.underlying t = some (.interface ms) := by
  unfold isIf at h
  split at h
  · exact ⟨_, by assumption⟩
  · cases h
theorem run_ifNil (w : World) (h : P.underlying t = some (.interface ms)) : (Op.equal t .nilIface .nilIface).run P w = .ok true w := by
  show (Op.equalIn (9999 + 1) t .nilIface .nilIface).run P w = .ok true w
  rw [Op.equalIn]; simp [run_underlying h]
theorem run_ifSome (w : World) {u : TypeId} {z : Value} (h : P.underlying t = some (.interface ms)) : (Op.equal t (.iface u z) .nilIface).run P w = .ok false w := by
  show (Op.equalIn (9999 + 1) t (.iface u z) .nilIface).run P w = .ok false w
  rw [Op.equalIn]; simp [run_underlying h]
theorem q_ifNe0 (hx : ev l x = some .nilIface) (hi : isIf P t = true) : OpQ P R ⟨d, .binOp .neq t x (.const .nilIface) t', ty, pos, af, g⟩ l (.bool false) := fun N a w ha hw => by
  obtain ⟨ms, hu⟩ := isIf_spec hi
  have hy : a.eval (.const .nilIface) = .nilIface := rfl
  simp only [execOp, ha.ev hx, hy, Sem.run_bind]
  simp [eqGuard, binOp, run_ifNil w hu]
theorem q_ifNe1 {u : TypeId} {z : Value} (hx : ev l x = some (.iface u z)) (hi : isIf P t = true) : OpQ P R ⟨d, .binOp .neq t x (.const .nilIface) t', ty, pos, af, g⟩ l (.bool true) := fun N a w ha hw => by
  obtain ⟨ms, hu⟩ := isIf_spec hi
  have hy : a.eval (.const .nilIface) = .nilIface := rfl
  simp only [execOp, ha.ev hx, hy, Sem.run_bind]
  simp [eqGuard, binOp, run_ifSome w hu]
theorem Rd.isNil {R : Mem} (h : Rd R sz v n xs) (hn : Px.isNil v = true) : n = 0 := by
  obtain ⟨p, c, rfl, _, _, h4⟩ := h
  rcases h4 with h4 | ⟨b, o, cs, e', fr, rfl, _⟩
  · exact h4
  · cases hn
theorem q_slEqNil (hx : ev l x = some v) (hu : P.underlying t = some (.slice e)) (h : Rd R' sz v n xs) : OpQ P R ⟨d, .binOp .eql t x (.const (.slice none 0 0)) t', ty, pos, af, g⟩ l (.bool (isNil v)) := fun N a w ha hw => by
  have hy : a.eval (.const (.slice none 0 0)) = .slice none 0 0 := rfl
  obtain ⟨p, c, rfl, _⟩ := h
  simp only [execOp, ha.ev hx, hy, Sem.run_bind]
  have : (Op.equal t (.slice p n c) (.slice none 0 0)).run P w = .ok p.isNone w := by
    show (Op.equalIn (9999 + 1) t (.slice p n c) (.slice none 0 0)).run P w = .ok p.isNone w
    rw [Op.equalIn]
    cases p <;> simp [run_underlying hu]
  simp [eqGuard, binOp, this]
  cases p <;> rfl
end
section
variable {C : Cx} {l : Env} {M J : Mem} {K : Env → Mem → Mem → Prop} {d : Nat} {s t e ty : TypeId} {pos : String} {af : Array Edge} {g : Option (Nat × Bool)} {x y : Operand} {ws : List Nat} {S : ByteArray}
/-- '[]byte(s)', to be read alone. -/
theorem l_toBytes (hx : ev l x = some (.string S)) (hS : S = txt ws) (h256 : ∀ x ∈ ws, x < 256) (hs : C.P.underlying s = some .string) (ht : C.P.underlying t = some (.slice e)) (he : C.P.underlying e = some (.int .u8)) (hd : Nat.blt d C.N = true)
    (k : ∀ v B, Rd B 1 v ws.length (nums .u8 ws) → K ((d, v) :: l) (B ++ M) J) : OpL C ⟨some d, .convert s t x, ty, pos, af, g⟩ l M J K := by
  subst hS
  intro Qp a w ha hw
  unfold Oper.wp
  simp only [execOp, ha.ev hx, Sem.run_bind, Lib.run_convert_string_bytes w s t e (txt ws) hs ht he, Result.andThen_ok, Sem.run_pure]
  have hsz : (txt ws).size = ws.length := txt_size' ws
  have e1 : Lib.bytesWorld w e (txt ws) = w.drew.alloc (.cells (Lib.bytesCells w e (txt ws)) e ((Lib.bytesCells w e (txt ws)).size, (Lib.bytesCells w e (txt ws)).size + 1)) := by
    have hh : (Lib.bytesWorld w e (txt ws)).heap = (w.drew.alloc (.cells (Lib.bytesCells w e (txt ws)) e ((Lib.bytesCells w e (txt ws)).size, (Lib.bytesCells w e (txt ws)).size + 1))).heap := by
      apply Array.ext_getElem?
      intro i
      rcases Nat.lt_trichotomy i w.heap.size with h | h | h
      · rw [Lib.bytesWorld_at_old w e _ i h]; simp [World.alloc, World.drew, Array.getElem?_push, -World.alloc_eq, -World.drew_eq]; omega
      · subst h; rw [Lib.bytesWorld_at_new]; simp [World.alloc, World.drew, -World.alloc_eq, -World.drew_eq]
      · rw [Array.getElem?_eq_none (by rw [Lib.bytesWorld_size]; omega), Array.getElem?_eq_none (by simp [World.alloc, World.drew, -World.alloc_eq, -World.drew_eq]; omega)]
    have : Lib.bytesWorld w e (txt ws) = { w.drew with heap := (Lib.bytesWorld w e (txt ws)).heap } := rfl
    rw [this, hh]; rfl
  rw [e1]
  have hg : ws.length ≤ grownCap w (txt ws).size 0 e := hsz ▸ grownCap_ge w (txt ws).size 0 e
  refine ⟨_, _, J, ha.put (blt_lt hd) _, hw.drew.alloc _, k _ [(_, _)] ⟨some ⟨w.heap.size, 0, none⟩, grownCap w (txt ws).size 0 e, by rw [hsz], by simp, hg, .inr ⟨w.heap.size, 0, (Lib.bytesCells w e (txt ws)).toList, e, _, rfl, List.mem_singleton.2 rfl, fun j u hj => ?_⟩⟩⟩
  have hjl : j < ws.length := by have := (List.getElem?_eq_some_iff.1 hj).1; simpa using this
  rw [nums_get hjl] at hj
  cases hj
  have h1 := getD_lt (i := j) h256 (by decide)
  rw [Nat.zero_add, Array.getElem?_toList]
  unfold Lib.bytesCells
  rw [Array.getElem?_append_left (by simpa [txt] using hjl)]
  simp [txt, hjl, List.getD]
  have : ws[j]?.getD 0 < 256 := h1
  rw [List.getElem?_eq_getElem hjl] at this
  simp at this
  omega
end
end Go.Px
