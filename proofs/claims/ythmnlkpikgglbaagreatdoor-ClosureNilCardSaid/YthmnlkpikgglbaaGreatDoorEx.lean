/-
  More rules of the engine: slices as opaque values (vHi, vLo, vAt), texts and bytes, arrays, copy, make. No program in sight.
-/
import Derived.Test.YthmnlkpikgglbaaGreatDoorNum
import Derived.Laws.BytesString
import Derived.Laws.MakeOwn
set_option linter.unusedVariables false
set_option linter.unusedSimpArgs false
namespace Go.Px
theorem Fit.head1' {M D : Mem} {x : Nat × Obj} {E : Mem} (h : E.Sublist D) : Fit (M ++ (x :: D)) (M ++ E) := Fit.sub (List.Sublist.append (List.Sublist.refl _) (.cons _ h))
theorem pkB0 {B : Mem} {x : Nat × Obj} : (x :: B).Perm (B ++ [x]) := (List.perm_append_comm (l₁ := [x]))

def vHi (h : Nat) : Value → Value
  | .slice p _ c => .slice p h c
  | v => v
def vLo (k sz : Nat) : Value → Value
  | .slice p n c => .slice (if c = k then p else p.map (·.add (k * sz))) (n - k) (c - k)
  | v => v
def vAt (sz : Nat) (i : Nat) : Value → Value
  | .slice (some a) _ _ => .pointer (some (a.add (i * sz)))
  | v => v

theorem Rd.hiV {R : Mem} {sz n : Nat} {v : Value} {xs : List Value} (h : Rd R sz v n xs) (k : Nat) (hk : k ≤ n) : Rd R sz (vHi k v) k (xs.take (k * sz)) := by
  obtain ⟨p, c, rfl, h2, h3, h4⟩ := h
  exact Rd.hi ⟨p, c, rfl, h2, h3, h4⟩ k hk
theorem Rd.loV {R : Mem} {sz n : Nat} {v : Value} {xs : List Value} (h : Rd R sz v n xs) (k : Nat) (hk : k ≤ n) : Rd R sz (vLo k sz v) (n - k) (xs.drop (k * sz)) := by
  obtain ⟨p, c, rfl, h2, h3, h4⟩ := h
  exact Rd.lo ⟨p, c, rfl, h2, h3, h4⟩ k hk
theorem Sl.hiV {sz n : Nat} {v : Value} {xs : List Value} {B : Mem} (h : Sl sz v n xs B) (k : Nat) (hk : k ≤ n) : Sl sz (vHi k v) k (xs.take (k * sz)) B := by
  obtain ⟨p, c, rfl, _⟩ := h.val
  exact h.hi k hk
theorem Sl.loV {sz n : Nat} {v : Value} {xs : List Value} {B : Mem} (h : Sl sz v n xs B) (k : Nat) (hk : k ≤ n) : ∃ B', B'.Sublist B ∧ Sl sz (vLo k sz v) (n - k) (xs.drop (k * sz)) B' := by
  obtain ⟨p, c, rfl, _⟩ := h.val
  exact h.lo k hk
theorem Rd.len {R : Mem} {sz n : Nat} {v : Value} {xs : List Value} (h : Rd R sz v n xs) : xs.length = n * sz := by
  obtain ⟨p, c, rfl, h2, h3, h4⟩ := h; exact h2

/-- A slice type's elements' size, in cells. -/
def slE (P : Program) (t : TypeId) : Option Nat :=
  match P.underlying t with
  | some (.slice e) => sizeT P e
  | _ => none
theorem slE_spec {P : Program} {t : TypeId} {sz : Nat} (h : slE P t = some sz) : ∃ e, P.underlying t = some (.slice e) ∧ sizeT P e = some sz := by
  unfold slE at h
  split at h
  · rename_i e hu; exact ⟨e, hu, h⟩
  · cases h
section rules
variable {P : Program} {R : Mem} {l : Env} {d : Option Nat} {ty t t' e : TypeId} {pos : String} {af : Array Edge} {g : Option (Nat × Bool)} {x y z : Operand} {v : Value} {sz n : Nat} {xs : List Value} {R' : Mem}
theorem q_lenV (h : Rd R' sz v n xs) (hx : ev l x = some v) (hu : slE P t = some sz) :
    OpQ P R ⟨d, .call { callee := .builtin .len, args := #[x], argTypes := #[t] }, ty, pos, af, g⟩ l (.int .i64 n) := by
  obtain ⟨p, c, rfl, _⟩ := h
  obtain ⟨e, hu, hs⟩ := slE_spec hu
  exact q_lenS hx hu
theorem q_hiV (h : Rd R' sz v n xs) (hx : ev l x = some v) {k : IntKind} {i : Int} (hy : ev l y = some (.int k i)) (hu : slE P t = some sz) (j : Nat) (hi : i = j) (hj : j ≤ n) :
    OpQ P R ⟨d, .slice t x none (some y) none, ty, pos, af, g⟩ l (vHi j v) := by
  obtain ⟨p, c, rfl, h2, h3, h4⟩ := h
  obtain ⟨e, hu, hs⟩ := slE_spec hu
  exact q_slHi hx hy hu hs hi (by omega)
theorem q_loV (h : Rd R' sz v n xs) (hx : ev l x = some v) {k : IntKind} {i : Int} (hy : ev l y = some (.int k i)) (hu : slE P t = some sz) (j : Nat) (hi : i = j) (hj : j ≤ n) :
    OpQ P R ⟨d, .slice t x (some y) none none, ty, pos, af, g⟩ l (vLo j sz v) := by
  obtain ⟨p, c, rfl, h2, h3, h4⟩ := h
  obtain ⟨e, hu, hs⟩ := slE_spec hu
  exact q_slLo hx hy hu hs hi (by omega) (by omega)
theorem vLoHi {p : Option Addr} {n c a b : Nat} : vLo a sz (vHi b (.slice p n c)) = .slice (if c = a then p else p.map (·.add (a * sz))) (b - a) (c - a) := rfl
theorem q_lhV (h : Rd R' sz v n xs) (hx : ev l x = some v) {k k' : IntKind} {i i' : Int} (hy : ev l y = some (.int k i)) (hz : ev l z = some (.int k' i')) (hu : slE P t = some sz) (a b : Nat) (hi : i = a) (hi' : i' = b) (hab : a ≤ b) (hb : b ≤ n) :
    OpQ P R ⟨d, .slice t x (some y) (some z) none, ty, pos, af, g⟩ l (vLo a sz (vHi b v)) := by
  obtain ⟨p, c, rfl, h2, h3, h4⟩ := h
  obtain ⟨e, hu, hs⟩ := slE_spec hu
  exact q_slLH hx hy hz hu hs hi hi' (by omega) (by omega)
theorem q_atV (h : Rd R' sz v n xs) (hx : ev l x = some v) {k : IntKind} {i : Int} (hy : ev l y = some (.int k i)) (hu : slE P t = some sz) (j : Nat) (hi : i = j) (hj : j < n) :
    OpQ P R ⟨d, .indexAddr t x y, ty, pos, af, g⟩ l (vAt sz j v) := by
  obtain ⟨p, c, rfl, h2, h3, h4⟩ := h
  rcases h4 with h4 | ⟨b, o, cs, e', fr, rfl, hb, hx'⟩
  · omega
  · obtain ⟨e, hu, hs⟩ := slE_spec hu
    simp only [vAt, Addr.add_mid]; exact q_idxS hx hy hu hs hi hj
theorem q_ldV (h : Rd R 1 v n xs) {j : Nat} {u : Value} (hx : ev l x = some (vAt 1 j v)) (ht : scalarT P t = true) (hj : xs[j]? = some u) : OpQ P R ⟨d, .load t x, ty, pos, af, g⟩ l u := by
  obtain ⟨p, c, rfl, h2, h3, h4⟩ := h
  have := (List.getElem?_eq_some_iff.1 hj).1
  rcases h4 with h4 | ⟨b, o, cs, e', fr, rfl, hb, hx'⟩
  · omega
  · simp only [vAt, Addr.add_mid] at hx
    refine q_load (b := b) (o := o + j * 1) hx ht hb ?_
    rw [Nat.mul_one]; exact hx' j u hj
theorem q_ldVN {k : IntKind} {ws : List Nat} (h : Rd R 1 v n (nums k ws)) {j : Nat} (hx : ev l x = some (vAt 1 j v)) (ht : scalarT P t = true) (hj : j < n) : OpQ P R ⟨d, .load t x, ty, pos, af, g⟩ l (.int k ((ws.getD j 0 : Nat) : Int)) :=
  q_ldV h hx ht (nums_get (by have := h.len; simp at this; omega))
/-- An element of an array that is a value. -/
theorem q_index {m j : Nat} {k : IntKind} {i : Int} {cs : List Value} {u : Value} (hx : ev l x = some (.agg cs.toArray)) (hy : ev l y = some (.int k i)) (hu : P.underlying t = some (.array m e)) (hs : sizeT P e = some 1) (he : scalarT P e = true) (hi : i = j) (hj : j < m) (hu' : cs[j]? = some u) :
    OpQ P R ⟨d, .index t x y, ty, pos, af, g⟩ l u := fun N a w ha hw => by
  subst hi
  unfold sizeT at hs
  cases hq : P.info? e with
  | none => simp [hq] at hs
  | some inf =>
    simp only [hq, Option.map_some, Option.some.injEq] at hs
    have h1 : (0 : Int) ≤ (j : Int) ∧ (j : Int) < (m : Int) := ⟨by omega, by omega⟩
    simp only [execOp, ha.ev hx, ha.ev hy, Instr.index, asIntOf, Sem.run_bind, Sem.run_pure, Result.andThen_ok, run_underlying hu]
    simp [h1, sizeOf, typeInfo, hq, hs, part, isAgg_scalar he, hu']
/-- A slice of a whole array. -/
theorem q_all {m b : Nat} (hx : ev l x = some (.pointer (some ⟨b, 0, none⟩))) (hu : P.underlying t = some (.array m e)) (hs : sizeT P e = some sz) :
    OpQ P R ⟨d, .slice t x none none none, ty, pos, af, g⟩ l (.slice (some ⟨b, 0, none⟩) m m) := fun N a w ha hw => by
  unfold sizeT at hs
  cases hq : P.info? e with
  | none => simp [hq] at hs
  | some inf =>
    simp only [execOp, ha.ev hx, Instr.sliceAt, Instr.sureAddr, Sem.run_bind, Sem.run_pure, run_underlying hu, Result.andThen_ok]
    have := sliceBounds_run (P := P) (lo := none) (hi := none) (mx := none) ha o0 o0 o0 false m m w (by simp) (by simp) (by simp) (by simp)
    simp only [Option.map_none] at this ⊢
    simp only [this, Result.andThen_ok]
    simp [sizeOf, typeInfo, hq, Addr.add]
end rules

/-! ### Texts and bytes -/
def txt (ws : List Nat) : ByteArray := ⟨(ws.map UInt8.ofNat).toArray⟩
theorem fold_txt (ns : List Nat) : ∀ s : ByteArray, (ns.map fun n : Nat => (n : Int)).foldl (fun r n => r.push (UInt8.ofNat n.toNat)) s = s ++ txt ns := by
  induction ns with
  | nil => intro s; apply ByteArray.ext; simp [txt, ByteArray.data_append]
  | cons n ns ih =>
    intro s
    simp only [List.map_cons, List.foldl_cons, ih]
    apply ByteArray.ext
    simp [txt, ByteArray.data_append]
section texts
variable {P : Program} {R : Mem} {l : Env} {d : Option Nat} {ty s t e : TypeId} {pos : String} {af : Array Edge} {g : Option (Nat × Bool)} {x y : Operand} {v : Value} {n : Nat}
def bytesT (P : Program) (s t : TypeId) : Bool :=
  match P.underlying s, P.underlying t with
  | some (.slice e), some .string => match P.underlying e with
    | some (.int .u8) => true
    | _ => false
  | _, _ => false
theorem q_toStr {ws : List Nat} (h : Rd R 1 v n (nums .u8 ws)) (hx : ev l x = some v) (hc : bytesT P s t = true) : OpQ P R ⟨d, .convert s t x, ty, pos, af, g⟩ l (.string (txt ws)) := fun N a w ha hw => by
  unfold bytesT at hc
  split at hc <;> try cases hc
  rename_i e h1 h2
  split at hc <;> try cases hc
  rename_i h3
  obtain ⟨p, c, rfl, hl, hcc, hb⟩ := h
  have hn : ws.length = n := by simpa using hl
  have he : nums .u8 ws = (ws.map fun n : Nat => (n : Int)).map (Value.int .u8) := by simp [nums]
  simp only [execOp, ha.ev hx, Sem.run_bind, run_convert_bytes_string w s t e _ _ _ h1 h3 h2]
  cases p with
  | none =>
    rcases hb with hb | ⟨b, o, cs, e', fr, hp, hb, hx'⟩
    · have : ws = [] := List.eq_nil_of_length_eq_zero (by omega)
      subst this
      simp [Conv.bytesToString, Sem.run_pure, txt]; rfl
    · cases hp
  | some ad =>
    have hload : (loadCells ad n).run P w = .ok (nums .u8 ws).toArray w := by
      rcases hb with hb | ⟨b, o, cs, e', fr, hp, hb, hx'⟩
      · have : ws = [] := List.eq_nil_of_length_eq_zero (by omega)
        subst this; subst hb
        simp [loadCells, loadCellsFrom, nums]
      · cases hp
        have := run_loadCells_list (P := P) w ⟨b, o, none⟩ (nums .u8 ws) (fun j v hv => by rw [Addr.add_mid, cell_fx hw hb]; simpa using hx' j v hv)
        rw [nums_len, hn] at this
        exact this
    rw [he] at hload
    rw [run_bytesToString w ad n c _ hload, fold_txt]
    simp [Sem.run_pure]
theorem q_strEqT {t' : TypeId} {a b : ByteArray} (hx : ev l x = some (.string a)) (hy : ev l y = some (.string b)) (h : a = b) : OpQ P R ⟨d, .binOp .eql t x y t', ty, pos, af, g⟩ l (.bool true) := by
  have := q_strEq (P := P) (R := R) (d := d) (ty := ty) (pos := pos) (af := af) (g := g) (t := t) (t' := t') hx hy
  rw [h] at this
  simpa using this
theorem txt_inj {a b : List Nat} (ha : ∀ x ∈ a, x < 256) (hb : ∀ x ∈ b, x < 256) (h : txt a = txt b) : a = b := by
  have h1 : a.map UInt8.ofNat = b.map UInt8.ofNat := by
    have := congrArg ByteArray.data h
    simpa [txt] using this
  have h2 := congrArg (List.map UInt8.toNat) h1
  simp only [List.map_map] at h2
  have key : ∀ l : List Nat, (∀ x ∈ l, x < 256) → List.map (UInt8.toNat ∘ UInt8.ofNat) l = l := by
    intro l hl
    conv => rhs; rw [← List.map_id l]
    refine List.map_congr_left fun x hx => ?_
    have := hl x hx
    simp; omega
  rwa [key a ha, key b hb] at h2
theorem txt_append (a b : List Nat) : txt a ++ txt b = txt (a ++ b) := by
  apply ByteArray.ext
  simp [txt, ByteArray.data_append]
end texts

section loud
variable {C : Cx} {l : Env} {M J : Mem} {K : Env → Mem → Mem → Prop} {ty t e : TypeId} {pos : String} {af : Array Edge} {g : Option (Nat × Bool)} {x y : Operand} {d : Nat}
/-- A text's bytes: the row is marked, and only read from there on. -/
def markT (P : Program) (t : TypeId) : Bool :=
  match P.underlying t with
  | some (.slice e) => match P.underlying e with
    | some (.int .u8) => true
    | _ => false
  | _ => false
theorem l_mark {b n c : Nat} {cs : List Value} {e' : TypeId} {M' : Mem} (hx : ev l x = some (.slice (some ⟨b, 0, none⟩) n c)) (hc : markT C.P t = true) (hu : Upd M b (blk cs e') (.cells cs.toArray e' (cs.length, cs.length + 1)) M')
    (hd : Nat.blt d C.N = true) (k : K ((d, .slice (some ⟨b, 0, none⟩) n c) :: l) M' J) : OpL C ⟨some d, .convert t t x, ty, pos, af, g⟩ l M J K := by
  intro Qp a w ha hw
  unfold markT at hc
  split at hc <;> try cases hc
  rename_i e h1
  split at hc <;> try cases hc
  rename_i h2
  have hb := hw.mem _ _ (List.mem_append_left _ hu.mem)
  have hsh : w.shape? b = some (e', cs.length) := by unfold World.shape?; rw [hb]; simp [blk]
  have hlt := lt_of_heap hb
  have hrun : (execOp a.eval ⟨some d, .convert t t x, ty, pos, af, g⟩).run C.P w = .ok (.value (.slice (some ⟨b, 0, none⟩) n c)) (w.freeze ⟨b, cs.length, none⟩ 1) := by
    simp [execOp, ha.ev hx, convert, run_underlying h1, run_underlying h2, markStringish, hsh]
  unfold Oper.wp
  rw [hrun]
  refine ⟨_, M', J, ha.put (blt_lt hd) _, hw.upd hu ?_ ?_ ?_ rfl rfl rfl, k⟩
  · simp only [World.freeze]
    rw [if_neg (by decide)]
    simp [Array.getElem?_modify, hb, blk]
  · intro j hj
    simp only [World.freeze]
    rw [if_neg (by decide)]
    simp [Array.getElem?_modify, Ne.symm hj]
  · simp [World.freeze]
/-- copy into the whole of an owned array of numbers. -/
theorem l_copy {b m n : Nat} {u : Value} {k : IntKind} {ws us ws' : List Nat} {e' : TypeId} {by_ : Nat} {M' : Mem} (hx : ev l x = some (.slice (some ⟨b, 0, none⟩) m m)) (hy : ev l y = some u) (ht : elemT C.P t = some (e, 1, by_))
    (hr : Rd (M ++ (J ++ C.A)) 1 u n (nums k us)) (hn : n ≤ m) (hm : ws.length = m) (hw' : ws' = us ++ ws.drop n) (hu : Upd M b (blk (nums k ws) e') (blk (nums k ws') e') M') (hd : Nat.blt d C.N = true) (h : K ((d, .int .i64 n) :: l) M' J) :
    OpL C ⟨some d, .call { callee := .builtin .copy, args := #[x, y], argTypes := #[t, t] }, ty, pos, af, g⟩ l M J K := by
  intro Qp a w ha hw
  obtain ⟨i, z, hut, hi, hz, hzs, his, hib⟩ := elemT_spec ht
  obtain ⟨pu, cu, rfl, hul, huc, hub⟩ := hr
  have hru : Rd (M ++ (J ++ C.A)) 1 (.slice pu n cu) n (nums k us) := ⟨pu, cu, rfl, hul, huc, hub⟩
  have hb := hw.mem _ _ (List.mem_append_left _ hu.mem)
  have hf := first_rd (P := C.P) (m := n) (c2 := cu) hru hw.fx
  have hus : us.length = n := by simpa using hul
  have hst := run_storeCells_at (P := C.P) b 0 e' (nums k us) 0 (nums k ws).toArray w hb (by simp [hus, hm]; exact hn) nums_one
  simp only [Nat.add_zero, Nat.zero_add, List.take_zero, List.nil_append, nums_len, hus] at hst
  rw [← nums_drop, ← nums_append, ← hw'] at hst
  have hrun : (execOp a.eval ⟨some d, .call { callee := .builtin .copy, args := #[x, y], argTypes := #[t, t] }, ty, pos, af, g⟩).run C.P w = .ok (.value (.int .i64 n)) (w.setRow b (nums k ws').toArray) := by
    simp [execOp, resolve, invoke, builtin, ha.ev hx, ha.ev hy, Builtin.copy_, run_underlying hut, sizeOf, typeInfo, hi, his, Builtin.lenOf, Nat.min_eq_left hn, hf, hst, goInt]
  unfold Oper.wp
  rw [hrun]
  exact ⟨_, M', J, ha.put (blt_lt hd) _, hw.setRow hu, h⟩
end loud
theorem Sl.fresh {b n sz : Nat} {cs : List Value} {e : TypeId} (h : cs.length = n * sz) (hn : n ≤ maxLen) : Sl sz (.slice (some ⟨b, 0, none⟩) n n) n cs [(b, blk cs e)] :=
  .inr ⟨b, 0, n, cs, e, rfl, rfl, Nat.le_refl _, hn, by omega, h, fun j u hj => by rwa [Nat.zero_add]⟩
theorem Rd.cel {R : Mem} {v : Value} {n sz : Nat} {xs : List Value} (h : Rd R sz v n xs) : Cel v [v] := by
  obtain ⟨p, c, rfl, _⟩ := h; exact ⟨rfl⟩
theorem Sl.cel {B : Mem} {v : Value} {n sz : Nat} {xs : List Value} (h : Sl sz v n xs B) : Cel v [v] := by
  obtain ⟨p, c, rfl, _⟩ := h.val; exact ⟨rfl⟩

/-- What make of a row of numbers asks of the type. -/
def mkT (P : Program) (t : TypeId) : Option (TypeId × IntKind × Nat) :=
  match P.underlying t with
  | some (.slice e) => match P.info? e with
    | some i => match i.zero with
      | some (.int k 0) => if i.size = 1 then some (e, k, i.bytes) else none
      | _ => none
    | none => none
  | _ => none
theorem made_nums (k : IntKind) (n : Nat) : madeCells #[.int k 0] n = (nums k (List.replicate n 0)).toArray := by
  apply Array.ext
  · simp [madeCells]
  · intro i h1 h2
    simp [madeCells, nums, Nat.mod_one]
theorem l_makeN {C : Cx} {l : Env} {M J : Mem} {K : Env → Mem → Mem → Prop} {ty t e : TypeId} {pos : String} {af : Array Edge} {g : Option (Nat × Bool)} {x y : Operand} {d by_ : Nat} {k kl kc : IntKind} {i j : Int} (n : Nat) (hx : ev l x = some (.int kl i)) (hy : ev l y = some (.int kc j)) (ht : mkT C.P t = some (e, k, by_)) (hi : i = n) (hj : j = n)
    (hb : by_ * n ≤ 281474976710656) (hn : n ≤ 9223372036854775807) (hd : Nat.blt d C.N = true) (h : ∀ b, K ((d, .slice (some ⟨b, 0, none⟩) n n) :: l) ((b, blk (nums k (List.replicate n 0)) e) :: M) J) :
    OpL C ⟨some d, .makeSlice t x y, ty, pos, af, g⟩ l M J K := by
  intro Qp a w ha hw
  subst hi; subst hj
  unfold mkT at ht
  split at ht <;> try cases ht
  rename_i e' hu
  split at ht <;> try cases ht
  rename_i inf hi
  split at ht <;> try cases ht
  rename_i k' hz
  split at ht <;> simp only [Option.some.injEq, Prod.mk.injEq, reduceCtorEq] at ht
  rename_i hs
  obtain ⟨rfl, rfl, rfl⟩ := ht
  have hb' : (inf.bytes : Int) * (n : Int) ≤ 281474976710656 := by rw [← Int.natCast_mul]; omega
  have hr := run_make (P := C.P) w t e' inf _ hu hi hz kl kc n n (by omega) (by omega) hb' (by omega)
  simp only [Int.toNat_natCast, hs, Nat.mul_one] at hr
  rw [show (Value.int k' 0).cells = #[.int k' 0] from rfl, made_nums] at hr
  unfold Oper.wp
  simp only [execOp, ha.ev hx, ha.ev hy, Sem.run_bind, hr, Result.andThen_ok, Sem.run_pure]
  exact ⟨_, _, J, ha.put (blt_lt hd) _, hw.alloc _, h _⟩
/-- A store into an owned slice of numbers. -/
theorem l_stV {C : Cx} {l : Env} {M J : Mem} {K : Env → Mem → Mem → Prop} {ty t : TypeId} {pos : String} {af : Array Edge} {g : Option (Nat × Bool)} {x y : Operand} {v : Value} {k : IntKind} {ws : List Nat} {n j u : Nat} {B M0 : Mem} (h : Sl 1 v n (nums k ws) B) (hx : ev l x = some (vAt 1 j v)) (hy : ev l y = some (.int k (u : Int)))
    (ht : sizeT C.P t = some 1) (hj : j < n) (hM : M.Perm (B ++ M0)) (h2 : ∀ B', Sl 1 v n (nums k (ws.set j u)) B' → K l (B' ++ M0) J) :
    OpL C ⟨none, .store t x y, ty, pos, af, g⟩ l M J K := by
  suffices hh : OpL C ⟨none, .store t x y, ty, pos, af, g⟩ l (B ++ M0) J K from fun Qp a w ha hw => hh Qp a w ha (hw.fit (Fit.perm hM) fun _ h => h)
  clear hM
  rcases h with ⟨p, rfl, rfl, hx2, rfl⟩ | ⟨b, o, cap, cs, e, rfl, rfl, h3, h4, h5, h6, h7⟩
  · omega
  · simp only [vAt, Addr.add_mid, Nat.mul_one] at hx
    refine l_store hx hy rfl ht (setL_set (by omega)) .hd (h2 [_] (.inr ⟨b, o, cap, _, e, rfl, rfl, h3, h4, by simpa using h5, by simpa using h6, ?_⟩))
    intro i w hi
    rw [nums_set] at hi
    rw [List.getElem?_set] at hi ⊢
    by_cases hij : j = i
    · subst hij
      simp only [if_true] at hi ⊢
      simp at hi h6
      rw [if_pos (by omega)]
      rw [← hi.2]
    · rw [if_neg hij] at hi
      rw [if_neg (by omega)]
      exact h7 i w hi
theorem rd_eq {R : Mem} {v : Value} {n n' : Nat} {xs xs' : List Value} (h : Rd R 1 v n xs) (h1 : n = n') (h2 : xs = xs') : Rd R 1 v n' xs' := by subst h1; subst h2; exact h
theorem sl_eq {v : Value} {n n' : Nat} {xs xs' : List Value} {B : Mem} (h : Sl 1 v n xs B) (h1 : n = n') (h2 : xs = xs') : Sl 1 v n' xs' B := by subst h1; subst h2; exact h
end Go.Px
