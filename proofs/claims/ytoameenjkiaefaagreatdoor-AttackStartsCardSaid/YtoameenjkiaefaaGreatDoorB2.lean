/- Part 2 of the texts of this claim, one behind the other. -/
import Derived.Test.YtoameenjkiaefaaGreatDoorB1
import Derived.Laws.BytesString
import Derived.Laws.MakeOwn
import Derived.LoopN
set_option linter.unusedVariables false
set_option linter.unusedSimpArgs false
set_option maxRecDepth 100000
namespace Go.Px
theorem S1 {k : IntKind} (hk : k.signed = false) (n : Nat) : k.wrap (n : Int) = ((n % 2 ^ k.bits : Nat) : Int) := by
  unfold IntKind.wrap
  simp only [hk, Bool.false_and, Bool.false_eq_true, if_false]
  rw [Int.natCast_emod]; simp
theorem B7T (n : Nat) : IntKind.u8.wrap (n : Int) = ((n % 256 : Nat) : Int) := S1 rfl n
theorem B5I (n : Nat) : IntKind.u32.wrap (n : Int) = ((n % 4294967296 : Nat) : Int) := S1 rfl n
theorem A7W (n : Nat) : IntKind.u64.wrap (n : Int) = ((n % 18446744073709551616 : Nat) : Int) := S1 rfl n
theorem A7X {n : Nat} (h : n < 9223372036854775808) : IntKind.i64.wrap (n : Int) = (n : Int) := wrap_i64 (by omega) (by omega)
section ops
variable {k : IntKind} {a b : Nat}
theorem addU (hk : k.signed = false) (r : Nat) (h : (a + b) % 2 ^ k.bits = r) : H8 .add k (a : Int) (b : Int) = some (.int k (r : Int)) := by
  simp only [H8]
  rw [show (a : Int) + b = ((a + b : Nat) : Int) from by omega, S1 hk, h]
theorem mulU (hk : k.signed = false) (r : Nat) (h : (a * b) % 2 ^ k.bits = r) : H8 .mul k (a : Int) (b : Int) = some (.int k (r : Int)) := by
  simp only [H8]
  rw [show (a : Int) * b = ((a * b : Nat) : Int) from by simp, S1 hk, h]
theorem subU (hk : k.signed = false) (r : Nat) (hb : b ≤ 2 ^ k.bits) (h : (a + (2 ^ k.bits - b)) % 2 ^ k.bits = r) : H8 .sub k (a : Int) (b : Int) = some (.int k (r : Int)) := by
  simp only [H8]
  have e : (a : Int) - b = ((a + (2 ^ k.bits - b) : Nat) : Int) - (2 ^ k.bits : Nat) := by omega
  have e2 : k.wrap ((a : Int) - b) = k.wrap ((a + (2 ^ k.bits - b) : Nat) : Int) := by
    unfold IntKind.wrap
    simp only [hk, Bool.false_and, Bool.false_eq_true, if_false]
    rw [e]
    simp
  rw [e2, S1 hk, h]
theorem B5J (n m : Nat) : BitVec.ofInt n (m : Int) = BitVec.ofNat n m := by
  apply BitVec.eq_of_toNat_eq; simp
theorem orU (hk : k.signed = false) (ha : a < 2 ^ k.bits) (hb : b < 2 ^ k.bits) : H8 .or k (a : Int) (b : Int) = some (.int k ((a ||| b : Nat) : Int)) := by
  simp only [H8, B5J]
  rw [BitVec.toNat_or, BitVec.toNat_ofNat, BitVec.toNat_ofNat, Nat.mod_eq_of_lt ha, Nat.mod_eq_of_lt hb, S1 hk, Nat.mod_eq_of_lt (Nat.or_lt_two_pow ha hb)]
end ops
section rules
variable {P : Program} {R : Mem} {l : Env} {d : Option Nat} {ty t t' : TypeId} {pos : String} {af : Array Edge} {g : Option (Nat × Bool)} {x y : Operand} {k k' : IntKind} {a b : Nat}
theorem q_or (hk : k.signed = false) (hx : ev l x = some (.int k (a : Int))) (hy : ev l y = some (.int k (b : Int))) (ha : a < 2 ^ k.bits) (hb : b < 2 ^ k.bits) : OpQ P R ⟨d, .binOp .or t x y t', ty, pos, af, g⟩ l (.int k ((a ||| b : Nat) : Int)) := F3 hx hy (orU hk ha hb)
theorem B2l (s : Nat) (hx : ev l x = some (.int k (a : Int))) {i : Int} (hy : ev l y = some (.int k' i)) (hi : i = s) (hs : s ≤ k.bits) : OpQ P R ⟨d, .binOp .shr t x y t', ty, pos, af, g⟩ l (.int k ((a >>> s : Nat) : Int)) := by
  subst hi
  have := B5B (P := P) (R := R) (d := d) (ty := ty) (pos := pos) (af := af) (g := g) (t := t) (t' := t') hx hy (by omega)
  rw [Int.toNat_natCast, Nat.min_eq_left hs] at this
  have e : (a : Int).fdiv (2 ^ s) = ((a >>> s : Nat) : Int) := by
    rw [Int.fdiv_eq_ediv_of_nonneg _ (Int.pow_nonneg (by decide)), Nat.shiftRight_eq_div_pow, Int.natCast_ediv]; simp
  rwa [e] at this
theorem B2m (hk : k.signed = false) (s : Nat) (hx : ev l x = some (.int k (a : Int))) {i : Int} (hy : ev l y = some (.int k' i)) (hi : i = s) (hs : s ≤ k.bits) : OpQ P R ⟨d, .binOp .shl t x y t', ty, pos, af, g⟩ l (.int k (((a <<< s) % 2 ^ k.bits : Nat) : Int)) := by
  subst hi
  have := B7K (P := P) (R := R) (d := d) (ty := ty) (pos := pos) (af := af) (g := g) (t := t) (t' := t') hx hy (by omega)
  rw [Int.toNat_natCast, Nat.min_eq_left hs, show (a : Int) * 2 ^ s = ((a <<< s : Nat) : Int) from by rw [Nat.shiftLeft_eq]; simp, S1 hk] at this
  exact this
theorem H7 {s : TypeId} (r : Nat) (hx : ev l x = some (.int k (a : Int))) (hc : A3s P s t = some k') (h : k'.wrap (a : Int) = (r : Int)) : OpQ P R ⟨d, .convert s t x, ty, pos, af, g⟩ l (.int k' (r : Int)) := X4 _ hx hc h
theorem B5K (hx : ev l x = some (.int k (a : Int))) (hy : ev l y = some (.int k (b : Int))) (hb : b ≠ 0) : OpQ P R ⟨d, .binOp .rem t x y t', ty, pos, af, g⟩ l (.int k ((a % b : Nat) : Int)) := by
  have := B5A (P := P) (R := R) (d := d) (ty := ty) (pos := pos) (af := af) (g := g) (t := t) (t' := t') hx hy (by omega)
  rw [Int.tmod_eq_emod_of_nonneg (by omega), ← Int.natCast_emod] at this
  exact this
theorem B5L (hx : ev l x = some (.int k (a : Int))) (hy : ev l y = some (.int k (b : Int))) (hb : b ≠ 0) (h : k.wrap ((a / b : Nat) : Int) = ((a / b : Nat) : Int)) : OpQ P R ⟨d, .binOp .quo t x y t', ty, pos, af, g⟩ l (.int k ((a / b : Nat) : Int)) := by
  have := B7J (P := P) (R := R) (d := d) (ty := ty) (pos := pos) (af := af) (g := g) (t := t) (t' := t') hx hy (by omega)
  rw [Int.tdiv_eq_ediv_of_nonneg (by omega), ← Int.natCast_ediv, h] at this
  exact this
end rules
def I3 (k : IntKind) (ws : List Nat) : List Value := ws.map fun n : Nat => Value.int k (n : Int)
section I3
variable {k : IntKind} {ws us : List Nat}
@[simp] theorem nums_len : (I3 k ws).length = ws.length := by simp [I3]
theorem A1W : I3 k (ws ++ us) = I3 k ws ++ I3 k us := by simp [I3]
theorem A4t (n : Nat) : I3 k (ws.take n) = (I3 k ws).take n := by simp [I3, List.map_take]
theorem A1X (n : Nat) : I3 k (ws.drop n) = (I3 k ws).drop n := by simp [I3, List.map_drop]
theorem A51 (i n : Nat) : I3 k (ws.set i n) = (I3 k ws).set i (.int k (n : Int)) := by simp [I3, List.map_set]
theorem T1 : ∀ c ∈ I3 k ws, c.oneCell' = true := by
  intro c hc
  obtain ⟨n, _, rfl⟩ := List.mem_map.1 hc
  rfl
theorem A3B {i : Nat} (h : i < ws.length) : (I3 k ws)[i]? = some (.int k ((ws.getD i 0 : Nat) : Int)) := by
  simp [I3, List.getElem?_eq_getElem h, List.getD]
theorem A7Y {ws : List Nat} {b i : Nat} (h : ∀ n ∈ ws, n < b) (hb : 0 < b) : ws.getD i 0 < b := by
  rw [List.getD]
  cases hi : ws[i]? with
  | none => exact hb
  | some n => exact h n (List.mem_of_getElem? hi)
end I3
theorem Fit.eq {M M' : Mem} (h : M = M') : Fit M M' := h ▸ .rfl
theorem A1C {v : Value} : ∀ {cs : List Value} {o : Nat}, o < cs.length → SetL cs o v (cs.set o v)
  | [], _, h => by simp at h
  | x :: r, 0, _ => .hd
  | x :: r, o + 1, h => .tl (A1C (by simpa using h))
section rules2
variable {P : Program} {R : Mem} {l : Env} {d : Option Nat} {ty t t' : TypeId} {pos : String} {af : Array Edge} {g : Option (Nat × Bool)} {x y : Operand} {k k' : IntKind} {a b : Nat}
theorem B3j {s : TypeId} (hx : ev l x = some (.int k (a : Int))) (hc : A3s P s t = some .u8) : OpQ P R ⟨d, .convert s t x, ty, pos, af, g⟩ l (.int .u8 ((a % 256 : Nat) : Int)) := H7 _ hx hc (B7T a)
theorem B2n {s : TypeId} (hx : ev l x = some (.int k (a : Int))) (hc : A3s P s t = some .u32) : OpQ P R ⟨d, .convert s t x, ty, pos, af, g⟩ l (.int .u32 ((a % 4294967296 : Nat) : Int)) := H7 _ hx hc (B5I a)
theorem A4u {s : TypeId} (hx : ev l x = some (.int k (a : Int))) (hc : A3s P s t = some .u64) : OpQ P R ⟨d, .convert s t x, ty, pos, af, g⟩ l (.int .u64 ((a % 18446744073709551616 : Nat) : Int)) := H7 _ hx hc (A7W a)
theorem A7Z {s : TypeId} (hx : ev l x = some (.int k (a : Int))) (hc : A3s P s t = some k') (h : a < 2 ^ (k'.bits - 1)) : OpQ P R ⟨d, .convert s t x, ty, pos, af, g⟩ l (.int k' (a : Int)) := by
  refine H7 _ hx hc ?_
  have h2 : 2 ^ k'.bits = 2 * 2 ^ (k'.bits - 1) := by cases k' <;> rfl
  cases hs : k'.signed with
  | false => rw [S1 hs, Nat.mod_eq_of_lt (by omega)]
  | true =>
    have h3 : (2 : Int) ^ k'.bits = 2 * ((2 ^ (k'.bits - 1) : Nat) : Int) := by
      have e0 : (2 : Int) ^ k'.bits = ((2 ^ k'.bits : Nat) : Int) := by simp
      rw [e0, h2]; omega
    unfold IntKind.wrap
    have e1 : (a : Int) % 2 ^ k'.bits = a := Int.emod_eq_of_lt (by omega) (by rw [h3]; omega)
    simp only [e1, hs, Bool.true_and]
    have e2 : ¬ ((2 : Int) ^ (k'.bits - 1) ≤ (a : Int)) := by
      have : ((2 ^ (k'.bits - 1) : Nat) : Int) = 2 ^ (k'.bits - 1) := by simp
      omega
    simp [e2]
theorem B7U {k : IntKind} {ws : List Nat} {e : TypeId} {fr : Nat × Nat} {b o : Nat} (i : Nat) (hx : ev l x = some (.pointer (some ⟨b, o, none⟩))) (ht : V9 P t = true) (hb : (b, Obj.cells (I3 k ws).toArray e fr) ∈ R) (ho : o = i) (hi : i < ws.length) :
    OpQ P R ⟨d, .load t x, ty, pos, af, g⟩ l (.int k ((ws.getD i 0 : Nat) : Int)) := G3 hx ht hb (by rw [ho]; exact A3B hi)
end rules2
theorem A0q {C : Cx} {l : Env} {M J : Mem} {K : Env → Mem → Mem → Prop} {ty t : TypeId} {pos : String} {af : Array Edge} {g : Option (Nat × Bool)} {x y : Operand} {k : IntKind} {ws : List Nat} {e : TypeId} {b o n : Nat} {M' : Mem} (i : Nat)
    (hx : ev l x = some (.pointer (some ⟨b, o, none⟩))) (hy : ev l y = some (.int k (n : Int))) (ht : P9 C.P t = some 1) (ho : o = i) (hi : i < ws.length) (hu : Upd M b (blk (I3 k ws) e) (blk (I3 k (ws.set i n)) e) M') (h : K l M' J) :
    OpL C ⟨none, .store t x y, ty, pos, af, g⟩ l M J K :=
  F8 hx hy rfl ht (cs' := I3 k (ws.set i n)) (by rw [A51, ho]; exact A1C (by simpa using hi)) hu h
end Go.Px

namespace Go.Px
def vHi (h : Nat) : Value → Value
  | .slice p _ c => .slice p h c
  | v => v
def vLo (k sz : Nat) : Value → Value
  | .slice p n c => .slice (if c = k then p else p.map (·.add (k * sz))) (n - k) (c - k)
  | v => v
def vAt (sz : Nat) (i : Nat) : Value → Value
  | .slice (some a) _ _ => .pointer (some (a.add (i * sz)))
  | v => v
theorem Rd.hiV {R : Mem} {sz n : Nat} {v : Value} {xs : List Value} (h : Rd R sz v n xs) (k : Nat) (hk : k ≤ n) : Rd R sz (vHi k v) k (xs.take (k * sz)) := by
  obtain ⟨p, c, rfl, h2, h3, h4⟩ := h
  exact Rd.hi ⟨p, c, rfl, h2, h3, h4⟩ k hk
theorem Rd.loV {R : Mem} {sz n : Nat} {v : Value} {xs : List Value} (h : Rd R sz v n xs) (k : Nat) (hk : k ≤ n) : Rd R sz (vLo k sz v) (n - k) (xs.drop (k * sz)) := by
  obtain ⟨p, c, rfl, h2, h3, h4⟩ := h
  exact Rd.lo ⟨p, c, rfl, h2, h3, h4⟩ k hk
theorem Sl.hiV {sz n : Nat} {v : Value} {xs : List Value} {B : Mem} (h : Sl sz v n xs B) (k : Nat) (hk : k ≤ n) : Sl sz (vHi k v) k (xs.take (k * sz)) B := by
  obtain ⟨p, c, rfl, _⟩ := h.val
  exact h.hi k hk
theorem Sl.loV {sz n : Nat} {v : Value} {xs : List Value} {B : Mem} (h : Sl sz v n xs B) (k : Nat) (hk : k ≤ n) : ∃ B', B'.Sublist B ∧ Sl sz (vLo k sz v) (n - k) (xs.drop (k * sz)) B' := by
  obtain ⟨p, c, rfl, _⟩ := h.val
  exact h.lo k hk
theorem Rd.len {R : Mem} {sz n : Nat} {v : Value} {xs : List Value} (h : Rd R sz v n xs) : xs.length = n * sz := by
  obtain ⟨p, c, rfl, h2, h3, h4⟩ := h; exact h2
def slE (P : Program) (t : TypeId) : Option Nat :=
  match P.underlying t with
  | some (.slice e) => P9 P e
  | _ => none
theorem A1D {P : Program} {t : TypeId} {sz : Nat} (h : slE P t = some sz) : ∃ e, P.underlying t = some (.slice e) ∧ P9 P e = some sz := by
  unfold slE at h
  split at h
  · rename_i e hu; exact ⟨e, hu, h⟩
  · cases h
section rules
variable {P : Program} {R : Mem} {l : Env} {d : Option Nat} {ty t t' e : TypeId} {pos : String} {af : Array Edge} {g : Option (Nat × Bool)} {x y z : Operand} {v : Value} {sz n : Nat} {xs : List Value} {R' : Mem}
theorem B5M (h : Rd R' sz v n xs) (hx : ev l x = some v) (hu : slE P t = some sz) :
    OpQ P R ⟨d, .call { callee := .builtin .len, args := #[x], argTypes := #[t] }, ty, pos, af, g⟩ l (.int .i64 n) := by
  obtain ⟨p, c, rfl, _⟩ := h
  obtain ⟨e, hu, hs⟩ := A1D hu
  exact A0s hx hu
theorem B7V (h : Rd R' sz v n xs) (hx : ev l x = some v) {k : IntKind} {i : Int} (hy : ev l y = some (.int k i)) (hu : slE P t = some sz) (j : Nat) (hi : i = j) (hj : j ≤ n) :
    OpQ P R ⟨d, .slice t x none (some y) none, ty, pos, af, g⟩ l (vHi j v) := by
  obtain ⟨p, c, rfl, h2, h3, h4⟩ := h
  obtain ⟨e, hu, hs⟩ := A1D hu
  exact B2h hx hy hu hs hi (by omega)
theorem B7W (h : Rd R' sz v n xs) (hx : ev l x = some v) {k : IntKind} {i : Int} (hy : ev l y = some (.int k i)) (hu : slE P t = some sz) (j : Nat) (hi : i = j) (hj : j ≤ n) :
    OpQ P R ⟨d, .slice t x (some y) none none, ty, pos, af, g⟩ l (vLo j sz v) := by
  obtain ⟨p, c, rfl, h2, h3, h4⟩ := h
  obtain ⟨e, hu, hs⟩ := A1D hu
  exact B2i hx hy hu hs hi (by omega) (by omega)
theorem B7X (h : Rd R' sz v n xs) (hx : ev l x = some v) {k : IntKind} {i : Int} (hy : ev l y = some (.int k i)) (hu : slE P t = some sz) (j : Nat) (hi : i = j) (hj : j < n) :
    OpQ P R ⟨d, .indexAddr t x y, ty, pos, af, g⟩ l (vAt sz j v) := by
  obtain ⟨p, c, rfl, h2, h3, h4⟩ := h
  rcases h4 with h4 | ⟨b, o, cs, e', fr, rfl, hb, hx'⟩
  · omega
  · obtain ⟨e, hu, hs⟩ := A1D hu
    simp only [vAt, Addr.add_mid]; exact S8 hx hy hu hs hi hj
theorem L0 (h : Rd R 1 v n xs) {j : Nat} {u : Value} (hx : ev l x = some (vAt 1 j v)) (ht : V9 P t = true) (hj : xs[j]? = some u) : OpQ P R ⟨d, .load t x, ty, pos, af, g⟩ l u := by
  obtain ⟨p, c, rfl, h2, h3, h4⟩ := h
  have := (List.getElem?_eq_some_iff.1 hj).1
  rcases h4 with h4 | ⟨b, o, cs, e', fr, rfl, hb, hx'⟩
  · omega
  · simp only [vAt, Addr.add_mid] at hx
    refine G3 (b := b) (o := o + j * 1) hx ht hb ?_
    rw [Nat.mul_one]; exact hx' j u hj
theorem A52 {k : IntKind} {ws : List Nat} (h : Rd R 1 v n (I3 k ws)) {j : Nat} (hx : ev l x = some (vAt 1 j v)) (ht : V9 P t = true) (hj : j < n) : OpQ P R ⟨d, .load t x, ty, pos, af, g⟩ l (.int k ((ws.getD j 0 : Nat) : Int)) :=
  L0 h hx ht (A3B (by have := h.len; simp at this; omega))
end rules
def txt (ws : List Nat) : ByteArray := ⟨(ws.map UInt8.ofNat).toArray⟩
theorem B0q (ns : List Nat) : ∀ s : ByteArray, (ns.map fun n : Nat => (n : Int)).foldl (fun r n => r.push (UInt8.ofNat n.toNat)) s = s ++ txt ns := by
  induction ns with
  | nil => intro s; apply ByteArray.ext; simp [txt, ByteArray.data_append]
  | cons n ns ih =>
    intro s
    simp only [List.map_cons, List.foldl_cons, ih]
    apply ByteArray.ext
    simp [txt, ByteArray.data_append]
section texts
variable {P : Program} {R : Mem} {l : Env} {d : Option Nat} {ty s t e : TypeId} {pos : String} {af : Array Edge} {g : Option (Nat × Bool)} {x y : Operand} {v : Value} {n : Nat}
def A70 (P : Program) (s t : TypeId) : Bool :=
  match P.underlying s, P.underlying t with
  | some (.slice e), some .string => match P.underlying e with
    | some (.int .u8) => true
    | _ => false
  | _, _ => false
theorem A5p {ws : List Nat} (h : Rd R 1 v n (I3 .u8 ws)) (hx : ev l x = some v) (hc : A70 P s t = true) : OpQ P R ⟨d, .convert s t x, ty, pos, af, g⟩ l (.string (txt ws)) := fun N a w ha hw => by
  unfold A70 at hc
  split at hc <;> try cases hc
  rename_i e h1 h2
  split at hc <;> try cases hc
  rename_i h3
  obtain ⟨p, c, rfl, hl, hcc, hb⟩ := h
  have hn : ws.length = n := by simpa using hl
  have he : I3 .u8 ws = (ws.map fun n : Nat => (n : Int)).map (Value.int .u8) := by simp [I3]
  simp only [execOp, ha.ev hx, Sem.run_bind, run_convert_bytes_string w s t e _ _ _ h1 h3 h2]
  cases p with
  | none =>
    rcases hb with hb | ⟨b, o, cs, e', fr, hp, hb, hx'⟩
    · have : ws = [] := List.eq_nil_of_length_eq_zero (by omega)
      subst this
      simp [Conv.bytesToString, Sem.run_pure, txt]; rfl
    · cases hp
  | some ad =>
    have hload : (loadCells ad n).run P w = .ok (I3 .u8 ws).toArray w := by
      rcases hb with hb | ⟨b, o, cs, e', fr, hp, hb, hx'⟩
      · have : ws = [] := List.eq_nil_of_length_eq_zero (by omega)
        subst this; subst hb
        simp [loadCells, loadCellsFrom, I3]
      · cases hp
        have := run_loadCells_list (P := P) w ⟨b, o, none⟩ (I3 .u8 ws) (fun j v hv => by rw [Addr.add_mid, A0y hw hb]; simpa using hx' j v hv)
        rw [nums_len, hn] at this
        exact this
    rw [he] at hload
    rw [run_bytesToString w ad n c _ hload, B0q]
    simp [Sem.run_pure]
theorem A71 {a b : List Nat} (ha : ∀ x ∈ a, x < 256) (hb : ∀ x ∈ b, x < 256) (h : txt a = txt b) : a = b := by
  have h1 : a.map UInt8.ofNat = b.map UInt8.ofNat := by
    have := congrArg ByteArray.data h
    simpa [txt] using this
  have h2 := congrArg (List.map UInt8.toNat) h1
  simp only [List.map_map] at h2
  have key : ∀ l : List Nat, (∀ x ∈ l, x < 256) → List.map (UInt8.toNat ∘ UInt8.ofNat) l = l := by
    intro l hl
    conv => rhs; rw [← List.map_id l]
    refine List.map_congr_left fun x hx => ?_
    have := hl x hx
    simp; omega
  rwa [key a ha, key b hb] at h2
theorem A6Z (a b : List Nat) : txt a ++ txt b = txt (a ++ b) := by
  apply ByteArray.ext
  simp [txt, ByteArray.data_append]
end texts
section loud
variable {C : Cx} {l : Env} {M J : Mem} {K : Env → Mem → Mem → Prop} {ty t e : TypeId} {pos : String} {af : Array Edge} {g : Option (Nat × Bool)} {x y : Operand} {d : Nat}
def B5N (P : Program) (t : TypeId) : Bool :=
  match P.underlying t with
  | some (.slice e) => match P.underlying e with
    | some (.int .u8) => true
    | _ => false
  | _ => false
theorem A53 {b n c : Nat} {cs : List Value} {e' : TypeId} {M' : Mem} (hx : ev l x = some (.slice (some ⟨b, 0, none⟩) n c)) (hc : B5N C.P t = true) (hu : Upd M b (blk cs e') (.cells cs.toArray e' (cs.length, cs.length + 1)) M')
    (hd : Nat.blt d C.N = true) (k : K ((d, .slice (some ⟨b, 0, none⟩) n c) :: l) M' J) : OpL C ⟨some d, .convert t t x, ty, pos, af, g⟩ l M J K := by
  intro Qp a w ha hw
  unfold B5N at hc
  split at hc <;> try cases hc
  rename_i e h1
  split at hc <;> try cases hc
  rename_i h2
  have hb := hw.mem _ _ (List.mem_append_left _ hu.mem)
  have hsh : w.shape? b = some (e', cs.length) := by unfold World.shape?; rw [hb]; simp [blk]
  have hlt := N5 hb
  have hrun : (execOp a.eval ⟨some d, .convert t t x, ty, pos, af, g⟩).run C.P w = .ok (.value (.slice (some ⟨b, 0, none⟩) n c)) (w.freeze ⟨b, cs.length, none⟩ 1) := by
    simp [execOp, ha.ev hx, convert, run_underlying h1, run_underlying h2, markStringish, hsh]
  unfold Oper.wp
  rw [hrun]
  refine ⟨_, M', J, ha.put (D5 hd) _, hw.upd hu ?_ ?_ ?_ rfl rfl rfl, k⟩
  · simp only [World.freeze]
    rw [if_neg (by decide)]
    simp [Array.getElem?_modify, hb, blk]
  · intro j hj
    simp only [World.freeze]
    rw [if_neg (by decide)]
    simp [Array.getElem?_modify, Ne.symm hj]
  · simp [World.freeze]
end loud
theorem Sl.fresh {b n sz : Nat} {cs : List Value} {e : TypeId} (h : cs.length = n * sz) (hn : n ≤ maxLen) : Sl sz (.slice (some ⟨b, 0, none⟩) n n) n cs [(b, blk cs e)] :=
  .inr ⟨b, 0, n, cs, e, rfl, rfl, Nat.le_refl _, hn, by omega, h, fun j u hj => by rwa [Nat.zero_add]⟩
theorem Rd.cel {R : Mem} {v : Value} {n sz : Nat} {xs : List Value} (h : Rd R sz v n xs) : Cel v [v] := by
  obtain ⟨p, c, rfl, _⟩ := h; exact ⟨rfl⟩
theorem Sl.cel {B : Mem} {v : Value} {n sz : Nat} {xs : List Value} (h : Sl sz v n xs B) : Cel v [v] := by
  obtain ⟨p, c, rfl, _⟩ := h.val; exact ⟨rfl⟩
def mkT (P : Program) (t : TypeId) : Option (TypeId × IntKind × Nat) :=
  match P.underlying t with
  | some (.slice e) => match P.info? e with
    | some i => match i.zero with
      | some (.int k 0) => if i.size = 1 then some (e, k, i.bytes) else none
      | _ => none
    | none => none
  | _ => none
theorem A72 (k : IntKind) (n : Nat) : madeCells #[.int k 0] n = (I3 k (List.replicate n 0)).toArray := by
  apply Array.ext
  · simp [madeCells]
  · intro i h1 h2
    simp [madeCells, I3, Nat.mod_one]
theorem A5q {C : Cx} {l : Env} {M J : Mem} {K : Env → Mem → Mem → Prop} {ty t e : TypeId} {pos : String} {af : Array Edge} {g : Option (Nat × Bool)} {x y : Operand} {d by_ : Nat} {k kl kc : IntKind} {i j : Int} (n : Nat) (hx : ev l x = some (.int kl i)) (hy : ev l y = some (.int kc j)) (ht : mkT C.P t = some (e, k, by_)) (hi : i = n) (hj : j = n)
    (hb : by_ * n ≤ 281474976710656) (hn : n ≤ 9223372036854775807) (hd : Nat.blt d C.N = true) (h : ∀ b, K ((d, .slice (some ⟨b, 0, none⟩) n n) :: l) ((b, blk (I3 k (List.replicate n 0)) e) :: M) J) :
    OpL C ⟨some d, .makeSlice t x y, ty, pos, af, g⟩ l M J K := by
  intro Qp a w ha hw
  subst hi; subst hj
  unfold mkT at ht
  split at ht <;> try cases ht
  rename_i e' hu
  split at ht <;> try cases ht
  rename_i inf hi
  split at ht <;> try cases ht
  rename_i k' hz
  split at ht <;> simp only [Option.some.injEq, Prod.mk.injEq, reduceCtorEq] at ht
  rename_i hs
  obtain ⟨rfl, rfl, rfl⟩ := ht
  have hb' : (inf.bytes : Int) * (n : Int) ≤ 281474976710656 := by rw [← Int.natCast_mul]; omega
  have hr := run_make (P := C.P) w t e' inf _ hu hi hz kl kc n n (by omega) (by omega) hb' (by omega)
  simp only [Int.toNat_natCast, hs, Nat.mul_one] at hr
  rw [show (Value.int k' 0).cells = #[.int k' 0] from rfl, A72] at hr
  unfold Oper.wp
  simp only [execOp, ha.ev hx, ha.ev hy, Sem.run_bind, hr, Result.andThen_ok, Sem.run_pure]
  exact ⟨_, _, J, ha.put (D5 hd) _, hw.alloc _, h _⟩
theorem B7Y {C : Cx} {l : Env} {M J : Mem} {K : Env → Mem → Mem → Prop} {ty t : TypeId} {pos : String} {af : Array Edge} {g : Option (Nat × Bool)} {x y : Operand} {v : Value} {k : IntKind} {ws : List Nat} {n j u : Nat} {B M0 : Mem} (h : Sl 1 v n (I3 k ws) B) (hx : ev l x = some (vAt 1 j v)) (hy : ev l y = some (.int k (u : Int)))
    (ht : P9 C.P t = some 1) (hj : j < n) (hM : M.Perm (B ++ M0)) (h2 : ∀ B', Sl 1 v n (I3 k (ws.set j u)) B' → K l (B' ++ M0) J) :
    OpL C ⟨none, .store t x y, ty, pos, af, g⟩ l M J K := by
  suffices hh : OpL C ⟨none, .store t x y, ty, pos, af, g⟩ l (B ++ M0) J K from fun Qp a w ha hw => hh Qp a w ha (hw.fit (Fit.perm hM) fun _ h => h)
  clear hM
  rcases h with ⟨p, rfl, rfl, hx2, rfl⟩ | ⟨b, o, cap, cs, e, rfl, rfl, h3, h4, h5, h6, h7⟩
  · omega
  · simp only [vAt, Addr.add_mid, Nat.mul_one] at hx
    refine F8 hx hy rfl ht (A1C (by omega)) .hd (h2 [_] (.inr ⟨b, o, cap, _, e, rfl, rfl, h3, h4, by simpa using h5, by simpa using h6, ?_⟩))
    intro i w hi
    rw [A51] at hi
    rw [List.getElem?_set] at hi ⊢
    by_cases hij : j = i
    · subst hij
      simp only [if_true] at hi ⊢
      simp at hi h6
      rw [if_pos (by omega)]
      rw [← hi.2]
    · rw [if_neg hij] at hi
      rw [if_neg (by omega)]
      exact h7 i w hi
theorem A5r {R : Mem} {v : Value} {n n' : Nat} {xs xs' : List Value} (h : Rd R 1 v n xs) (h1 : n = n') (h2 : xs = xs') : Rd R 1 v n' xs' := by subst h1; subst h2; exact h
theorem A73 {v : Value} {n n' : Nat} {xs xs' : List Value} {B : Mem} (h : Sl 1 v n xs B) (h1 : n = n') (h2 : xs = xs') : Sl 1 v n' xs' B := by subst h1; subst h2; exact h
end Go.Px

namespace Go.Px
def Sk (K : Nat → Prop) (w w' : World) : Prop := ∀ b, b < w.heap.size → ¬ K b → w'.heap[b]? = w.heap[b]?
theorem Sk.fx {K : Nat → Prop} {w w' : World} (h : Sk K w w') {R : Mem} (hR : ∀ x ∈ R, ¬ K x.1) (hw : Fx R w) : Fx R w' := fun b o hb => by
  have h1 := hw b o hb
  rw [h b (N5 h1) (hR _ hb)]; exact h1
def XK (C : Cx) (os : List Oper) (Q : XQ) (K : Nat → Prop) (n0 : Nat) (nd : List Nat) (plan : List (Nat × Nat)) (l : Env) (M J : Mem) : Prop :=
  ∀ listed, M3 os.toArray listed → I8 os.toArray nd plan listed = true → ∀ a w, Ag C.N l a → St C M J w → n0 ≤ w.heap.size →
    V4 C.P os.toArray (N6 (A5h C Q)) (Sk K) nd.contains plan.length listed a w
section plan
variable {C : Cx} {Q : XQ} {l : Env} {M J : Mem} {os : List Oper} {K : Nat → Prop} {n0 : Nat} {nd : List Nat} {plan : List (Nat × Nat)}
theorem A60 {T : World → Prop} {S : World → World → Prop} {ops : Array Oper} {nd : List Nat} {listed : Array Bool} {i : Nat} (h : A7R ops nd listed i = true) (hT : ∀ w w', T w → S w w' → T w') (j : Nat) (hlt : j < ops.size) (hji : j ≠ i) (hun : listed.getD j true = false) : anc ops ops.size j i = true ∨ ∀ w w', T w → (nd.contains j = true → S w w') → T w' := by
  have h1 := List.all_eq_true.1 h j (List.mem_range.2 hlt)
  simp only [Bool.or_eq_true, beq_iff_eq, hji, hun, false_or, Bool.false_eq_true] at h1
  rcases h1 with h1 | h1
  · exact .inr fun w w' hS hw => hT w w' hS (hw h1)
  · exact .inl h1
theorem W7 {id : Nat} (Mv Ms : Mem) (nv : Bool) (nd : List Nat) (plan : List (Nat × Nat)) (hm : C.P.follows .mixedOrders = true) (hp : T0 os nd plan = true) (hM : M.Perm (Mv ++ Ms))
    (h : Region.noSelect os.toArray = true → ∀ (K : Nat → Prop) n0, (∀ x ∈ Mv, K x.1) → (∀ x ∈ Ms ++ (J ++ C.A), ¬ K x.1) → (nv = true → ∀ b, n0 ≤ b → K b) → XK C os Q K n0 nd plan l (Mv ++ Ms) J) : XC C (.region id os.toArray true) Q l M J := by
  intro a w ha hw0
  have hw := hw0.perm hM
  simp only [T0, Bool.and_eq_true, beq_iff_eq] at hp
  obtain ⟨⟨h1, h3⟩, h4⟩ := hp
  refine Code.wp_mono (Q := N6 (A5h C Q)) (fun e a w h => by cases e <;> first | exact h | exact h.elim) ?_
  let K : Nat → Prop := fun b => b ∈ Mv.map Prod.fst ∨ (nv = true ∧ w.heap.size ≤ b)
  refine wp_region_any hm (A0g (S := Sk K) (need := nd.contains) _ _ _ _ ?_)
  have hK1 : ∀ x ∈ Mv, K x.1 := fun x hx => .inl (List.mem_map_of_mem (f := Prod.fst) hx)
  have hcal := hw.callee (.refl _)
  have hK2 : ∀ x ∈ Ms ++ (J ++ C.A), ¬ K x.1 := by
    rintro ⟨b, o⟩ hx hk
    have h5 := hcal.sepA b o hx
    rcases hk with hk | ⟨_, hk⟩
    · exact h5.1 hk
    · exact absurd h5.2 (Nat.not_lt.2 hk)
  have := h h1 K w.heap.size hK1 hK2 (fun hn b hb => .inr ⟨hn, hb⟩) (Array.replicate os.length false) (fun j oj _ hl => by simp [Array.getElem?_replicate] at hl; split at hl <;> simp at hl) h4 a _ ha hw.drew (Nat.le_refl _)
  rw [h3] at this
  simpa using this
theorem E6 {id : Nat} {c2 : Code} (Mv Ms : Mem) (nv : Bool) (nd : List Nat) (plan : List (Nat × Nat)) (hm : C.P.follows .mixedOrders = true) (hp : T0 os nd plan = true) (hM : M.Perm (Mv ++ Ms))
    (h : Region.noSelect os.toArray = true → ∀ (K : Nat → Prop) n0, (∀ x ∈ Mv, K x.1) → (∀ x ∈ Ms ++ (J ++ C.A), ¬ K x.1) → (nv = true → ∀ b, n0 ≤ b → K b) → XK C os (A1w C c2 Q) K n0 nd plan l (Mv ++ Ms) J) : XC C (.seq (.region id os.toArray true) c2) Q l M J :=
  A6 (W7 Mv Ms nv nd plan hm hp hM h)
theorem A1Y (h : Q .normal l M J) : XK C os Q K n0 nd [] l M J := by
  intro listed hcl hp a w ha hw hf
  simp only [I8, List.isEmpty_iff] at hp
  exact ⟨hp, l, M, J, ha, hw, h⟩
theorem G7 {c : Code} {l' : Env} (hk : Keep l l') (h : XC C c Q l' M J) : XK C os (A1w C c Q) K n0 nd [] l M J := A1Y (A8 hk h)
theorem A0B {M' : Mem} (hM : M.Perm M') (h : XK C os Q K n0 nd plan l M' J) : XK C os Q K n0 nd plan l M J := fun listed hcl hp a w ha hw hn => h listed hcl hp a w ha (hw.perm hM) hn
theorem B7Z {M' : Mem} (hM : M'.Sublist M) (h : XK C os Q K n0 nd plan l M' J) : XK C os Q K n0 nd plan l M J := fun listed hcl hp a w ha hw hn => h listed hcl hp a w ha (hw.drop hM (fun _ h => h)) hn
theorem A3C {i d : Nat} {op : Op} {ty : TypeId} {pos : String} {af : Array Edge} {g : Option (Nat × Bool)} {v : Value} {R : Mem} (hs : Region.noSelect os.toArray = true)
    (hget : nth os i = some ⟨some d, op, ty, pos, af, g⟩) (hR : ∀ x ∈ R, x ∈ M ++ (J ++ C.A)) (hn : ∀ x ∈ R, ¬ K x.1)
    (hy : ∀ a, Ag C.N l a → YieldsIf C.P os.toArray (Fx R) ⟨some d, op, ty, pos, af, g⟩ v a) (hd : Nat.blt d C.N = true)
    (h : XK C os Q K n0 nd plan ((d, v) :: l) M J) : XK C os Q K n0 nd ((i, 1) :: plan) l M J := by
  intro listed hcl hp a w ha hw hf
  simp only [I8, Bool.and_eq_true] at hp
  obtain ⟨⟨⟨h1, h2⟩, h5⟩, h4⟩ := hp
  have hi : os.toArray[i]? = some ⟨some d, op, ty, pos, af, g⟩ := by rw [R3] at hget; simpa using hget
  have hr : i ∈ Region.ready .any os.toArray listed := by simpa using h1
  exact S2 (S := Sk K) (T := Fx R) (N := os.toArray.size) hi (Region.noSelect_spec hs) (fun _ _ _ h => h) (fun _ _ _ _ => rfl) _ listed a w hcl (Region.free_spec hi h2) (A60 h5 fun w w' hT hS => hS.fx hn hT) hr (hy a ha) (fun b o hb => hw.fx b o (hR _ hb))
    (h _ (H5 hcl hr) h4 _ w (ha.put (D5 hd) v) hw hf)
theorem A3D {i d : Nat} {op : Op} {ty : TypeId} {pos : String} {af : Array Edge} {g : Option (Nat × Bool)} {v : Value} (hs : Region.noSelect os.toArray = true)
    (hget : nth os i = some ⟨some d, op, ty, pos, af, g⟩)
    (hy : ∀ a, Ag C.N l a → YieldsIf C.P os.toArray (fun _ => True) ⟨some d, op, ty, pos, af, g⟩ v a) (hd : Nat.blt d C.N = true)
    (h : XK C os Q K n0 nd plan ((d, v) :: l) M J) : XK C os Q K n0 nd ((i, 0) :: plan) l M J := by
  intro listed hcl hp a w ha hw hf
  simp only [I8, Bool.and_eq_true] at hp
  obtain ⟨⟨h1, h2⟩, h4⟩ := hp
  have hi : os.toArray[i]? = some ⟨some d, op, ty, pos, af, g⟩ := by rw [R3] at hget; simpa using hget
  have hr : i ∈ Region.ready .any os.toArray listed := by simpa using h1
  exact S2 (S := Sk K) (T := fun _ => True) (N := 0) hi (Region.noSelect_spec hs) (fun _ _ _ h => h) (fun _ _ _ _ => rfl) _ listed a w hcl (Region.free_spec hi h2) (fun _ _ _ _ => .inr fun _ _ _ _ => trivial) hr (hy a ha) trivial
    (h _ (H5 hcl hr) h4 _ w (ha.put (D5 hd) v) hw hf)
section ops
variable {i d j t : Nat} {op : Op} {ty : TypeId} {pos : String} {af : Array Edge} {b b' : Bool} {v : Value} {oj : Oper} {R : Mem}
theorem F1 (hs : Region.noSelect os.toArray = true) (hget : nth os i = some ⟨some d, op, ty, pos, af, none⟩) (hq : OpQ C.P [] ⟨some d, op, ty, pos, af, none⟩ l v) (hd : Nat.blt d C.N = true)
    (h : XK C os Q K n0 nd plan ((d, v) :: l) M J) : XK C os Q K n0 nd ((i, 0) :: plan) l M J :=
  A3D hs hget (fun a ha => .inl ⟨rfl, fun w hw => hq C.N a w ha (fun _ _ hb => by cases hb)⟩) hd h
theorem XK.r (hs : Region.noSelect os.toArray = true) (hget : nth os i = some ⟨some d, op, ty, pos, af, none⟩) (hR : ∀ x ∈ R, x ∈ M ++ (J ++ C.A)) (hn : ∀ x ∈ R, ¬ K x.1) (hq : OpQ C.P R ⟨some d, op, ty, pos, af, none⟩ l v) (hd : Nat.blt d C.N = true)
    (h : XK C os Q K n0 nd plan ((d, v) :: l) M J) : XK C os Q K n0 nd ((i, 1) :: plan) l M J :=
  A3C hs hget hR hn (fun a ha => .inl ⟨rfl, fun w hw => hq C.N a w ha hw⟩) hd h
theorem A1Z (hs : Region.noSelect os.toArray = true) (hget : nth os i = some ⟨some d, op, ty, pos, af, some (j, b)⟩) (hj : nth os j = some oj) (ht : oj.dst = some t) (hl : lk l t = some (.bool b)) (hq : OpQ C.P [] ⟨some d, op, ty, pos, af, some (j, b)⟩ l v) (hd : Nat.blt d C.N = true)
    (h : XK C os Q K n0 nd plan ((d, v) :: l) M J) : XK C os Q K n0 nd ((i, 0) :: plan) l M J :=
  A3D hs hget (fun a ha => .inl ⟨A7V (i := i) ha hj ht hl, fun w hw => hq C.N a w ha (fun _ _ hb => by cases hb)⟩) hd h
theorem B0r (hs : Region.noSelect os.toArray = true) (hget : nth os i = some ⟨some d, op, ty, pos, af, some (j, b)⟩) (hj : nth os j = some oj) (ht : oj.dst = some t) (hl : lk l t = some (.bool b)) (hR : ∀ x ∈ R, x ∈ M ++ (J ++ C.A)) (hn : ∀ x ∈ R, ¬ K x.1) (hq : OpQ C.P R ⟨some d, op, ty, pos, af, some (j, b)⟩ l v) (hd : Nat.blt d C.N = true)
    (h : XK C os Q K n0 nd plan ((d, v) :: l) M J) : XK C os Q K n0 nd ((i, 1) :: plan) l M J :=
  A3C hs hget hR hn (fun a ha => .inl ⟨A7V (i := i) ha hj ht hl, fun w hw => hq C.N a w ha hw⟩) hd h
theorem U2 (hs : Region.noSelect os.toArray = true) (hget : nth os i = some ⟨some d, op, ty, pos, af, some (j, b)⟩) (hj : nth os j = some oj) (ht : oj.dst = some t) (hl : lk l t = some (.bool b')) (hb : (b' == b) = false) (hd : Nat.blt d C.N = true)
    (h : XK C os Q K n0 nd plan ((d, undef) :: l) M J) : XK C os Q K n0 nd ((i, 0) :: plan) l M J :=
  A3D hs hget (fun a ha => .inr ⟨A5o (i := i) ha hj ht hl hb, rfl⟩) hd h
theorem A3E (hs : Region.noSelect os.toArray = true) (hget : nth os i = some ⟨some d, op, ty, pos, af, some (j, b)⟩) (hj : nth os j = some oj) (ht : oj.dst = some t) (hl : lk l t = some (.bool b')) (hb : (b' == b) = false) (hd : Nat.blt d C.N = true)
    (h : XK C os Q K n0 nd plan ((d, undef) :: l) M J) : XK C os Q K n0 nd ((i, 1) :: plan) l M J :=
  A3C (R := []) hs hget (fun _ h => by cases h) (fun _ h => by cases h) (fun a ha => .inr ⟨A5o (i := i) ha hj ht hl hb, rfl⟩) hd h
end ops
theorem A74 {i : Nat} {o : Oper} {Mc R : Mem} (hget : nth os i = some o) (hw' : ∀ a, Ag C.N l a → Region.wanted o (yielded os.toArray a.tmps) = true) (hM : M.Perm (Mc ++ R)) (hK : ∀ x ∈ Mc, K x.1)
    (h : ∀ w, OpL ⟨C.P, w, Mc.map Prod.fst, R ++ (J ++ C.A), C.N⟩ o l Mc [] (fun l' M' J' => ((∀ b, n0 ≤ b → K b) → ∀ x ∈ M', K x.1) → XK C os Q K n0 nd plan l' (M' ++ R) (J' ++ J))) :
    XK C os Q K n0 nd ((i, 2) :: plan) l M J := by
  intro listed hcl hp a w ha hw hf
  simp only [I8, Bool.and_eq_true, beq_iff_eq] at hp
  obtain ⟨h1, h2⟩ := hp
  have hi : os.toArray[i]? = some o := by rw [R3] at hget; simpa using hget
  refine ⟨fun h0 => (by rw [h1] at h0; cases h0), fun j hj => ?_⟩
  have hr := hj
  rw [h1] at hj
  simp only [List.mem_singleton] at hj
  subst hj
  unfold wpOp
  simp only [hi]
  rw [if_pos (hw' a ha)]
  refine .inl (Oper.wp_mono ?_ (h w _ a w ha (hw.callee hM).cx))
  rintro a' w' ⟨l', M', J', ha', hs', hk⟩
  have hsz : w.heap.size ≤ w'.heap.size := hs'.size
  refine ⟨fun _ b hb hnk => hs'.frame b hb fun hm => ?_, hk ?_ _ (H5 hcl hr) h2 a' w' ha' (hw.back hM hs'.cx) (Nat.le_trans hf hsz)⟩
  · obtain ⟨x, hx, e⟩ := List.mem_map.1 hm
    exact hnk (e ▸ hK x hx)
  · rintro hup ⟨b, o'⟩ hx
    rcases hs'.own b o' (by simp [hx]) with h6 | h6
    · obtain ⟨x, hx, e⟩ := List.mem_map.1 h6
      exact e ▸ hK x hx
    · exact hup b (Nat.le_trans hf h6)
theorem F9 {i : Nat} {o : Oper} (Mc R : Mem) (hget : nth os i = some o) (hg : o.guard = none) (hM : M.Perm (Mc ++ R)) (hK : ∀ x ∈ Mc, K x.1)
    (h : ∀ w, OpL ⟨C.P, w, Mc.map Prod.fst, R ++ (J ++ C.A), C.N⟩ o l Mc [] (fun l' M' J' => ((∀ b, n0 ≤ b → K b) → ∀ x ∈ M', K x.1) → XK C os Q K n0 nd plan l' (M' ++ R) (J' ++ J))) :
    XK C os Q K n0 nd ((i, 2) :: plan) l M J := A74 hget (fun a ha => by simp [Region.wanted, hg]) hM hK h
theorem B5O {i j t : Nat} {d : Option Nat} {op : Op} {ty : TypeId} {pos : String} {af : Array Edge} {b : Bool} {oj : Oper} (Mc R : Mem) (hget : nth os i = some ⟨d, op, ty, pos, af, some (j, b)⟩) (hj : nth os j = some oj) (ht : oj.dst = some t) (hl : lk l t = some (.bool b)) (hM : M.Perm (Mc ++ R)) (hK : ∀ x ∈ Mc, K x.1)
    (h : ∀ w, OpL ⟨C.P, w, Mc.map Prod.fst, R ++ (J ++ C.A), C.N⟩ ⟨d, op, ty, pos, af, some (j, b)⟩ l Mc [] (fun l' M' J' => ((∀ b, n0 ≤ b → K b) → ∀ x ∈ M', K x.1) → XK C os Q K n0 nd plan l' (M' ++ R) (J' ++ J))) :
    XK C os Q K n0 nd ((i, 2) :: plan) l M J := A74 hget (fun a ha => by
      have hj' : os.toArray[j]? = some oj := by rw [R3] at hj; simpa using hj
      simp only [Region.wanted, yielded, hj', Option.bind_some, ht, ha.slot _ _ hl]; simp) hM hK h
theorem B3k {i d : Nat} {op : Op} {ty : TypeId} {pos : String} {af : Array Edge} {g : Option (Nat × Bool)} (hget : nth os i = some ⟨some d, op, ty, pos, af, g⟩) (hw' : ∀ a, Ag C.N l a → Region.wanted ⟨some d, op, ty, pos, af, g⟩ (yielded os.toArray a.tmps) = false) (hd : Nat.blt d C.N = true)
    (h : XK C os Q K n0 nd plan ((d, undef) :: l) M J) : XK C os Q K n0 nd ((i, 2) :: plan) l M J := by
  intro listed hcl hp a w ha hw hf
  simp only [I8, Bool.and_eq_true, beq_iff_eq] at hp
  obtain ⟨h1, h2⟩ := hp
  have hi : os.toArray[i]? = some ⟨some d, op, ty, pos, af, g⟩ := by rw [R3] at hget; simpa using hget
  refine ⟨fun h0 => (by rw [h1] at h0; cases h0), fun j hj => ?_⟩
  have hr := hj
  rw [h1] at hj
  simp only [List.mem_singleton] at hj
  subst hj
  unfold wpOp
  simp only [hi]
  rw [if_neg (by rw [hw' a ha]; simp)]
  exact ⟨fun _ _ _ _ => rfl, h _ (H5 hcl hr) h2 _ w (ha.put (D5 hd) undef) hw hf⟩
theorem B0s {i d j t : Nat} {op : Op} {ty : TypeId} {pos : String} {af : Array Edge} {b b' : Bool} {oj : Oper} (hget : nth os i = some ⟨some d, op, ty, pos, af, some (j, b)⟩) (hj : nth os j = some oj) (ht : oj.dst = some t) (hl : lk l t = some (.bool b')) (hb : (b' == b) = false) (hd : Nat.blt d C.N = true)
    (h : XK C os Q K n0 nd plan ((d, undef) :: l) M J) : XK C os Q K n0 nd ((i, 2) :: plan) l M J :=
  B3k hget (fun a ha => A5o (i := i) ha hj ht hl hb) hd h
theorem A1E {t : Nat} {b : Bool} (hl : lk l t = some (.bool b)) (h1 : b = true → XK C os Q K n0 nd plan ((t, .bool true) :: l) M J) (h2 : b = false → XK C os Q K n0 nd plan ((t, .bool false) :: l) M J) :
    XK C os Q K n0 nd plan l M J := by
  intro listed hcl hp a w ha hw hf
  have key : ∀ b', b = b' → Ag C.N ((t, .bool b') :: l) a := by
    rintro b' rfl
    refine ha.sub ?_
    intro i v hi
    simp only [lk] at hi
    by_cases e : t = i
    · subst e; simp at hi; subst hi; exact hl
    · simpa only [T9 e, cond_false] using hi
  cases b
  · exact h2 rfl listed hcl hp a w (key _ rfl) hw hf
  · exact h1 rfl listed hcl hp a w (key _ rfl) hw hf
end plan
def XF (C : Cx) (os : List Oper) (Q : XQ) (nd : List Nat) (plan : List (Nat × Nat)) (l : Env) (M J : Mem) : Prop := XK C os Q (fun _ => False) 0 nd plan l M J
section free
variable {C : Cx} {Q : XQ} {l : Env} {M J : Mem} {os : List Oper} {nd : List Nat} {plan : List (Nat × Nat)}
theorem S3 {id : Nat} (nd : List Nat) (plan : List (Nat × Nat)) (hm : C.P.follows .mixedOrders = true) (hp : T0 os nd plan = true) (h : Region.noSelect os.toArray = true → XF C os Q nd plan l M J) : XC C (.region id os.toArray true) Q l M J := by
  intro a w ha hw
  simp only [T0, Bool.and_eq_true, beq_iff_eq] at hp
  obtain ⟨⟨h1, h3⟩, h4⟩ := hp
  refine Code.wp_mono (Q := N6 (A5h C Q)) (fun e a w h => by cases e <;> first | exact h | exact h.elim) ?_
  refine wp_region_any hm (A0g (S := Sk fun _ => False) (need := nd.contains) _ _ _ _ ?_)
  have := h h1 (Array.replicate os.length false) (fun j oj _ hl => by simp [Array.getElem?_replicate] at hl; split at hl <;> simp at hl) h4 a _ ha hw.drew (Nat.zero_le _)
  rw [h3] at this
  simpa using this
theorem G5 {id : Nat} {c2 : Code} (nd : List Nat) (plan : List (Nat × Nat)) (hm : C.P.follows .mixedOrders = true) (hp : T0 os nd plan = true) (h : Region.noSelect os.toArray = true → XF C os (A1w C c2 Q) nd plan l M J) : XC C (.seq (.region id os.toArray true) c2) Q l M J :=
  A6 (S3 nd plan hm hp h)
theorem A10 (h : Q .normal l M J) : XF C os Q nd [] l M J := A1Y h
theorem I2 {c : Code} {l' : Env} (hk : Keep l l') (h : XC C c Q l' M J) : XF C os (A1w C c Q) nd [] l M J := G7 hk h
theorem V5 {t : Nat} {b : Bool} (hl : lk l t = some (.bool b)) (h1 : b = true → XF C os Q nd plan ((t, .bool true) :: l) M J) (h2 : b = false → XF C os Q nd plan ((t, .bool false) :: l) M J) : XF C os Q nd plan l M J := A1E hl h1 h2
section ops
variable {i d j t : Nat} {op : Op} {ty : TypeId} {pos : String} {af : Array Edge} {b b' : Bool} {v : Value} {oj : Oper}
theorem E8 (hs : Region.noSelect os.toArray = true) (hget : nth os i = some ⟨some d, op, ty, pos, af, none⟩) (hq : OpQ C.P [] ⟨some d, op, ty, pos, af, none⟩ l v) (hd : Nat.blt d C.N = true)
    (h : XF C os Q nd plan ((d, v) :: l) M J) : XF C os Q nd ((i, 0) :: plan) l M J := F1 hs hget hq hd h
theorem R5 (hs : Region.noSelect os.toArray = true) (hget : nth os i = some ⟨some d, op, ty, pos, af, none⟩) (hq : OpQ C.P (M ++ (J ++ C.A)) ⟨some d, op, ty, pos, af, none⟩ l v) (hd : Nat.blt d C.N = true)
    (h : XF C os Q nd plan ((d, v) :: l) M J) : XF C os Q nd ((i, 1) :: plan) l M J := XK.r hs hget (fun _ h => h) (fun _ _ h => h) hq hd h
theorem I4 (hs : Region.noSelect os.toArray = true) (hget : nth os i = some ⟨some d, op, ty, pos, af, some (j, b)⟩) (hj : nth os j = some oj) (ht : oj.dst = some t) (hl : lk l t = some (.bool b)) (hq : OpQ C.P [] ⟨some d, op, ty, pos, af, some (j, b)⟩ l v) (hd : Nat.blt d C.N = true)
    (h : XF C os Q nd plan ((d, v) :: l) M J) : XF C os Q nd ((i, 0) :: plan) l M J := A1Z hs hget hj ht hl hq hd h
theorem A0r (hs : Region.noSelect os.toArray = true) (hget : nth os i = some ⟨some d, op, ty, pos, af, some (j, b)⟩) (hj : nth os j = some oj) (ht : oj.dst = some t) (hl : lk l t = some (.bool b)) (hq : OpQ C.P (M ++ (J ++ C.A)) ⟨some d, op, ty, pos, af, some (j, b)⟩ l v) (hd : Nat.blt d C.N = true)
    (h : XF C os Q nd plan ((d, v) :: l) M J) : XF C os Q nd ((i, 1) :: plan) l M J := B0r hs hget hj ht hl (fun _ h => h) (fun _ _ h => h) hq hd h
theorem B8a (hs : Region.noSelect os.toArray = true) (hget : nth os i = some ⟨some d, op, ty, pos, af, some (j, b)⟩) (hj : nth os j = some oj) (ht : oj.dst = some t) (hl : lk l t = some (.bool b')) (hb : (b' == b) = false) (hd : Nat.blt d C.N = true)
    (h : XF C os Q nd plan ((d, undef) :: l) M J) : XF C os Q nd ((i, 0) :: plan) l M J := U2 hs hget hj ht hl hb hd h
theorem B8b (hs : Region.noSelect os.toArray = true) (hget : nth os i = some ⟨some d, op, ty, pos, af, some (j, b)⟩) (hj : nth os j = some oj) (ht : oj.dst = some t) (hl : lk l t = some (.bool b')) (hb : (b' == b) = false) (hd : Nat.blt d C.N = true)
    (h : XF C os Q nd plan ((d, undef) :: l) M J) : XF C os Q nd ((i, 1) :: plan) l M J := A3E hs hget hj ht hl hb hd h
theorem B3l (hs : Region.noSelect os.toArray = true) (hget : nth os i = some ⟨some d, op, ty, pos, af, some (j, b)⟩) (hj : nth os j = some oj) (ht : oj.dst = some t) (hl : lk l t = some (.bool b')) (hb : (b' == b) = false) (hd : Nat.blt d C.N = true)
    (h : XF C os Q nd plan ((d, undef) :: l) M J) : XF C os Q nd ((i, 2) :: plan) l M J := B0s hget hj ht hl hb hd h
end ops
theorem A5s {i : Nat} {o : Oper} (hget : nth os i = some o) (hg : o.guard = none)
    (h : ∀ w, OpL ⟨C.P, w, [], M ++ (J ++ C.A), C.N⟩ o l [] [] (fun l' M' J' => XF C os Q nd plan l' (M' ++ M) (J' ++ J))) : XF C os Q nd ((i, 2) :: plan) l M J :=
  F9 [] M hget hg (.refl _) (fun _ h => by cases h) fun w => (h w).mono fun _ _ _ hh _ => hh
theorem B8c {i j t : Nat} {d : Option Nat} {op : Op} {ty : TypeId} {pos : String} {af : Array Edge} {b : Bool} {oj : Oper} (hget : nth os i = some ⟨d, op, ty, pos, af, some (j, b)⟩) (hj : nth os j = some oj) (ht : oj.dst = some t) (hl : lk l t = some (.bool b))
    (h : ∀ w, OpL ⟨C.P, w, [], M ++ (J ++ C.A), C.N⟩ ⟨d, op, ty, pos, af, some (j, b)⟩ l [] [] (fun l' M' J' => XF C os Q nd plan l' (M' ++ M) (J' ++ J))) : XF C os Q nd ((i, 2) :: plan) l M J :=
  B5O [] M hget hj ht hl (.refl _) (fun _ h => by cases h) fun w => (h w).mono fun _ _ _ hh _ => hh
end free
section tails
variable {C : Cx} {Q : XQ} {l : Env} {M J : Mem} {os : List Oper} {K : Nat → Prop} {n0 : Nat} {nd : List Nat} {plan : List (Nat × Nat)}
theorem A75 {i : Nat} {o : Oper} (hget : nth os i = some o) (hw' : ∀ a, Ag C.N l a → Region.wanted o (yielded os.toArray a.tmps) = true) (hnd : nd.contains i = false)
    (h : OpL C o l M J (fun l' M' J' => XK C os Q K 0 nd plan l' M' J')) : XK C os Q K 0 nd ((i, 2) :: plan) l M J := by
  intro listed hcl hp a w ha hw hf
  simp only [I8, Bool.and_eq_true, beq_iff_eq] at hp
  obtain ⟨h1, h2⟩ := hp
  have hi : os.toArray[i]? = some o := by rw [R3] at hget; simpa using hget
  refine ⟨fun h0 => (by rw [h1] at h0; cases h0), fun j hj => ?_⟩
  have hr := hj
  rw [h1] at hj
  simp only [List.mem_singleton] at hj
  subst hj
  unfold wpOp
  simp only [hi]
  rw [if_pos (hw' a ha)]
  refine .inl (Oper.wp_mono ?_ (h _ a w ha hw))
  rintro a' w' ⟨l', M', J', ha', hs', hk⟩
  exact ⟨fun hn => absurd hn (by rw [hnd]; decide), hk _ (H5 hcl hr) h2 a' w' ha' hs' (Nat.zero_le _)⟩
theorem L7 {i : Nat} {o : Oper} (hget : nth os i = some o) (hg : o.guard = none) (hnd : nd.contains i = false) (h : OpL C o l M J (fun l' M' J' => XF C os Q nd plan l' M' J')) : XF C os Q nd ((i, 2) :: plan) l M J :=
  A75 hget (fun a ha => by simp [Region.wanted, hg]) hnd h
end tails
def XR (C : Cx) (c : Code) (Q : XQ) (n : Nat) (l : Env) (M J : Mem) : Prop := ∀ a w, Ag C.N l a → St C M J w → Code.rounds C.P c (A5h C Q) n a w
def unX (C : Cx) (c : Code) (Q : XQ) (n : Nat) : XQ
  | .normal, l, M, J => XR C c Q n l M J
  | e, l, M, J => Q e l M J
section unroll
variable {C : Cx} {Q : XQ} {l l' : Env} {M J : Mem} {c : Code} {n : Nat}
theorem A11 (n : Nat) (h : XR C c Q n l M J) : XC C (.loop c) Q l M J := fun a w ha hw => wp_loop_rounds n (h a w ha hw)
theorem A0C (h : XC C c (unX C c Q n) l M J) : XR C c Q (n + 1) l M J := by
  intro a w ha hw
  refine Code.wp_mono ?_ (h a w ha hw)
  rintro e a' w' ⟨l', M', J', ha', hw', hq⟩
  cases e with
  | normal => exact hq a' w' ha' hw'
  | _ => exact ⟨l', M', J', ha', hw', hq⟩
theorem un (hk : Keep l l') (h : XR C c Q n l' M J) : unX C c Q n .normal l M J := fun a w ha hw => h a w (ha.sub hk.lk) hw
theorem ue {i : Nat} (h : Q (.exit i) l M J) : unX C c Q n (.exit i) l M J := h
end unroll
section call
variable {C : Cx} {Q : XQ} {l : Env} {M J : Mem} {d i j t : Nat} {ty : TypeId} {pos : String} {af : Array Edge} {b : Bool} {f : FuncId} {xs : List Operand} {vs : List Value} {ts : Array TypeId} {post : Value → Mem → Mem → Prop} {K : Env → Mem → Mem → Prop} {g : Option (Nat × Bool)}
theorem K0 (hx : Evs l xs vs) (hc : H2 C.P f = true)
    (hf : FnX C.P f vs [] (M ++ (J ++ C.A)) post) (hd : Nat.blt d C.N = true) (k : ∀ v M' J', post v M' J' → K ((d, v) :: l) (M' ++ M) (J' ++ J)) :
    OpL C ⟨some d, .call { callee := .value (.func f), args := xs.toArray, argTypes := ts }, ty, pos, af, g⟩ l M J K := A9 (Mc := []) (R := M) hx hc (.refl _) hf hd k
theorem E0 {ops : Array Oper} {rest : List Oper} (hx : Evs l xs vs) (hc : H2 C.P f = true) (hf : FnX C.P f vs [] (M ++ (J ++ C.A)) post) (hd : Nat.blt d C.N = true)
    (k : ∀ v M' J', post v M' J' → XL C ops rest Q ((d, v) :: l) (M' ++ M) (J' ++ J)) :
    XL C ops (⟨some d, .call { callee := .value (.func f), args := xs.toArray, argTypes := ts }, ty, pos, af, none⟩ :: rest) Q l M J := A4 rfl (K0 hx hc hf hd k)
theorem B0t {ops : Array Oper} {rest : List Oper} (ht : (ops[j]?).bind (·.dst) = some t) (hl : lk l t = some (.bool b)) (hx : Evs l xs vs) (hc : H2 C.P f = true) (hf : FnX C.P f vs [] (M ++ (J ++ C.A)) post) (hd : Nat.blt d C.N = true)
    (k : ∀ v M' J', post v M' J' → XL C ops rest Q ((d, v) :: l) (M' ++ M) (J' ++ J)) :
    XL C ops (⟨some d, .call { callee := .value (.func f), args := xs.toArray, argTypes := ts }, ty, pos, af, some (j, b)⟩ :: rest) Q l M J := C0 ht hl (K0 hx hc hf hd k)
variable {os : List Oper} {nd : List Nat} {plan : List (Nat × Nat)} {oj : Oper}
theorem Y9 (hget : nth os i = some ⟨some d, .call { callee := .value (.func f), args := xs.toArray, argTypes := ts }, ty, pos, af, none⟩) (hx : Evs l xs vs) (hc : H2 C.P f = true) (hf : FnX C.P f vs [] (M ++ (J ++ C.A)) post) (hd : Nat.blt d C.N = true)
    (k : ∀ v M' J', post v M' J' → XF C os Q nd plan ((d, v) :: l) (M' ++ M) (J' ++ J)) : XF C os Q nd ((i, 2) :: plan) l M J :=
  A5s hget rfl fun w => K0 hx hc hf hd fun v M' J' hp => by simpa using k v M' J' hp
theorem A54 (hget : nth os i = some ⟨some d, .call { callee := .value (.func f), args := xs.toArray, argTypes := ts }, ty, pos, af, some (j, b)⟩) (hj : nth os j = some oj) (ht : oj.dst = some t) (hl : lk l t = some (.bool b)) (hx : Evs l xs vs) (hc : H2 C.P f = true) (hf : FnX C.P f vs [] (M ++ (J ++ C.A)) post) (hd : Nat.blt d C.N = true)
    (k : ∀ v M' J', post v M' J' → XF C os Q nd plan ((d, v) :: l) (M' ++ M) (J' ++ J)) : XF C os Q nd ((i, 2) :: plan) l M J :=
  B8c hget hj ht hl fun w => K0 hx hc hf hd fun v M' J' hp => by simpa using k v M' J' hp
theorem D7 {ops : Array Oper} {rest : List Oper} {v : Value} (hx : Evs l xs vs) (hc : H2 C.P f = true) (hf : FnV C.P f vs (M ++ (J ++ C.A)) v) (hd : Nat.blt d C.N = true) (k : XL C ops rest Q ((d, v) :: l) M J) :
    XL C ops (⟨some d, .call { callee := .value (.func f), args := xs.toArray, argTypes := ts }, ty, pos, af, none⟩ :: rest) Q l M J := E0 hx hc hf hd fun r M' J' h => by obtain ⟨rfl, rfl, rfl⟩ := h; exact k
theorem K4 {ops : Array Oper} {rest : List Oper} {v : Value} (ht : (ops[j]?).bind (·.dst) = some t) (hl : lk l t = some (.bool b)) (hx : Evs l xs vs) (hc : H2 C.P f = true) (hf : FnV C.P f vs (M ++ (J ++ C.A)) v) (hd : Nat.blt d C.N = true) (k : XL C ops rest Q ((d, v) :: l) M J) :
    XL C ops (⟨some d, .call { callee := .value (.func f), args := xs.toArray, argTypes := ts }, ty, pos, af, some (j, b)⟩ :: rest) Q l M J := B0t ht hl hx hc hf hd fun r M' J' h => by obtain ⟨rfl, rfl, rfl⟩ := h; exact k
theorem Q2 {v : Value} (hget : nth os i = some ⟨some d, .call { callee := .value (.func f), args := xs.toArray, argTypes := ts }, ty, pos, af, none⟩) (hx : Evs l xs vs) (hc : H2 C.P f = true) (hf : FnV C.P f vs (M ++ (J ++ C.A)) v) (hd : Nat.blt d C.N = true)
    (k : XF C os Q nd plan ((d, v) :: l) M J) : XF C os Q nd ((i, 2) :: plan) l M J := Y9 hget hx hc hf hd fun r M' J' h => by obtain ⟨rfl, rfl, rfl⟩ := h; exact k
theorem A12 {v : Value} (hget : nth os i = some ⟨some d, .call { callee := .value (.func f), args := xs.toArray, argTypes := ts }, ty, pos, af, some (j, b)⟩) (hj : nth os j = some oj) (ht : oj.dst = some t) (hl : lk l t = some (.bool b)) (hx : Evs l xs vs) (hc : H2 C.P f = true) (hf : FnV C.P f vs (M ++ (J ++ C.A)) v) (hd : Nat.blt d C.N = true)
    (k : XF C os Q nd plan ((d, v) :: l) M J) : XF C os Q nd ((i, 2) :: plan) l M J := A54 hget hj ht hl hx hc hf hd fun r M' J' h => by obtain ⟨rfl, rfl, rfl⟩ := h; exact k
end call
end Go.Px

namespace Go.Px
theorem kr_ {X Z Y : Mem} : ∀ x ∈ Z ++ Y, x ∈ (X ++ Z) ++ Y := fun x hx => by rw [List.append_assoc]; exact List.mem_append_right _ hx
def zp : Nat → List Nat → List (Nat × Nat)
  | _, [] => []
  | i, c :: r => (i, c) :: zp (i + 1) r
section
variable {C : Cx} {Q : XQ} {l : Env} {M J : Mem} {os : List Oper} {K : Nat → Prop} {n0 : Nat} {nd : List Nat} {plan : List (Nat × Nat)} {i d j t : Nat} {op : Op} {ty : TypeId} {pos : String} {af : Array Edge} {b b' : Bool} {v : Value} {oj : Oper} {x : Operand}
theorem fm_ (hs : Region.noSelect os.toArray = true) (h : XF C os Q nd plan ((d, v) :: l) M J) (hget : nth os i = some ⟨some d, .move x, ty, pos, af, none⟩ := by exact rfl) (hx : ev l x = some v := by exact rfl) (hd : Nat.blt d C.N = true := by exact rfl) : XF C os Q nd ((i, 0) :: plan) l M J := E8 hs hget (A50 hx) hd h
theorem fa_ (hs : Region.noSelect os.toArray = true) (h : XF C os Q nd plan ((d, v) :: l) M J) (hget : nth os i = some ⟨some d, .assign x, ty, pos, af, none⟩ := by exact rfl) (hx : ev l x = some v := by exact rfl) (hd : Nat.blt d C.N = true := by exact rfl) : XF C os Q nd ((i, 0) :: plan) l M J := E8 hs hget (F5 hx) hd h
theorem km_ (hs : Region.noSelect os.toArray = true) (h : XK C os Q K n0 nd plan ((d, v) :: l) M J) (hget : nth os i = some ⟨some d, .move x, ty, pos, af, none⟩ := by exact rfl) (hx : ev l x = some v := by exact rfl) (hd : Nat.blt d C.N = true := by exact rfl) : XK C os Q K n0 nd ((i, 0) :: plan) l M J := F1 hs hget (A50 hx) hd h
theorem L2 (hs : Region.noSelect os.toArray = true) (h : XF C os Q nd plan ((d, undef) :: l) M J) (hget : nth os i = some ⟨some d, op, ty, pos, af, some (j, b)⟩ := by exact rfl) (hj : nth os j = some oj := by exact rfl) (ht : oj.dst = some t := by exact rfl) (hl : lk l t = some (.bool b') := by exact rfl) (hb : (b' == b) = false := by exact rfl) (hd : Nat.blt d C.N = true := by exact rfl) : XF C os Q nd ((i, 0) :: plan) l M J := B8a hs hget hj ht hl hb hd h
theorem V3 (hs : Region.noSelect os.toArray = true) (h : XF C os Q nd plan ((d, undef) :: l) M J) (hget : nth os i = some ⟨some d, op, ty, pos, af, some (j, b)⟩ := by exact rfl) (hj : nth os j = some oj := by exact rfl) (ht : oj.dst = some t := by exact rfl) (hl : lk l t = some (.bool b') := by exact rfl) (hb : (b' == b) = false := by exact rfl) (hd : Nat.blt d C.N = true := by exact rfl) : XF C os Q nd ((i, 1) :: plan) l M J := B8b hs hget hj ht hl hb hd h
theorem I1 {R : Mem} (hs : Region.noSelect os.toArray = true) (hget : nth os i = some ⟨some d, op, ty, pos, af, none⟩) (hn : ∀ x ∈ R, ¬ K x.1) (hq : OpQ C.P R ⟨some d, op, ty, pos, af, none⟩ l v) (h : XK C os Q K n0 nd plan ((d, v) :: l) M J) (hR : ∀ x ∈ R, x ∈ M ++ (J ++ C.A) := by first | exact fun x hx => by rw [List.append_assoc]; exact List.mem_append_right _ hx | exact SubC.sub) (hd : Nat.blt d C.N = true := by exact rfl) : XK C os Q K n0 nd ((i, 1) :: plan) l M J := XK.r hs hget hR hn hq hd h
end
end Go.Px

