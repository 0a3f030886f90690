/-
  Maps from texts to places: each text once, the place of each the number of those ahead of it.
-/
import Derived.Test.YthmnlkpikgglbaaGreatDoorAut
import Derived.MapKept
set_option linter.unusedVariables false
set_option linter.unusedSimpArgs false
namespace Go.Px
/-- The entries of such a map. -/
def ents : List ByteArray → Nat → List MapEntry
  | [], _ => []
  | k :: ks, i => ⟨.string k, .int .i64 (i : Int), i⟩ :: ents ks (i + 1)
theorem ents_len : ∀ (ks : List ByteArray) (i : Nat), (ents ks i).length = ks.length
  | [], _ => rfl
  | k :: ks, i => by simp [ents, ents_len ks]
theorem ents_app : ∀ (ks : List ByteArray) (s : ByteArray) (i : Nat), ents (ks ++ [s]) i = ents ks i ++ [⟨.string s, .int .i64 ((i + ks.length : Nat) : Int), i + ks.length⟩]
  | [], s, i => by simp [ents]
  | k :: ks, s, i => by
    simp only [List.cons_append, ents, ents_app ks s (i + 1), List.length_cons]
    rw [show i + 1 + ks.length = i + (ks.length + 1) by omega]
/-- The place of a text. -/
def lookK (s : ByteArray) : List ByteArray → Nat → Option Nat
  | [], _ => none
  | k :: ks, i => if s == k then some i else lookK s ks (i + 1)
theorem find_ents (s : ByteArray) : ∀ (ks : List ByteArray) (i j : Nat), Instr.findNow .string (.string s) (ents ks i) j = some ((lookK s ks i).map fun q => (q - i + j, .int .i64 (q : Int)))
  | [], i, j => rfl
  | k :: ks, i, j => by
    unfold ents Instr.findNow lookK
    simp only [Instr.sameNow]
    by_cases h : s == k
    · simp [h]
    · simp only [Bool.not_eq_true] at h
      simp only [h, Bool.false_eq_true, if_false]
      rw [find_ents s ks (i + 1) (j + 1)]
      have hge : ∀ (ks : List ByteArray) (i q : Nat), lookK s ks i = some q → i ≤ q := by
        intro ks
        induction ks with
        | nil => intro i q h; cases h
        | cons k ks ih =>
          intro i q h
          unfold lookK at h
          split at h
          · cases h; exact Nat.le_refl _
          · have := ih _ _ h; omega
      cases hl : lookK s ks (i + 1) with
      | none => rfl
      | some q =>
        have := hge _ _ _ hl
        simp only [Option.map_some]
        congr 3; omega
theorem ba_eq {a b : ByteArray} : (a == b) = true ↔ a = b := by
  rcases a with ⟨a⟩; rcases b with ⟨b⟩
  show (a == b) = true ↔ _
  simp
theorem lookK_none {s : ByteArray} : ∀ {ks : List ByteArray} {i : Nat}, lookK s ks i = none ↔ s ∉ ks
  | [], i => by simp [lookK]
  | k :: ks, i => by
    unfold lookK
    by_cases h : s = k
    · rw [if_pos (ba_eq.2 h)]
      simp [h]
    · rw [if_neg (fun e => h (ba_eq.1 e)), lookK_none (ks := ks) (i := i + 1)]
      simp [h]
theorem lookK_some {s : ByteArray} : ∀ {ks : List ByteArray} {i q : Nat}, lookK s ks i = some q → i ≤ q ∧ ks[q - i]? = some s
  | [], i, q, h => by cases h
  | k :: ks, i, q, h => by
    unfold lookK at h
    split at h
    · rename_i he
      cases h
      have := ba_eq.1 he
      simp [this]
    · obtain ⟨h1, h2⟩ := lookK_some h
      refine ⟨by omega, ?_⟩
      rw [show q - i = (q - (i + 1)) + 1 by omega]
      simpa using h2
section
variable {P : Program} {R : Mem} {l : Env} {d : Option Nat} {ty t kt et : TypeId} {pos : String} {af : Array Edge} {g : Option (Nat × Bool)} {x y z : Operand} {b c : Nat} {s : ByteArray} {ks : List ByteArray}
theorem checkStr {em : Bool} {w : World} (hk : P.underlying kt = some .string) : (Instr.checkKey em 10000 kt (.string s)).run P w = .ok () w := by
  unfold Instr.checkKey
  simp only [Sem.run_bind, run_underlying hk, Result.andThen_ok]
  rfl
theorem findStr {w : World} (hk : P.underlying kt = some .string) : (Instr.findKey kt (.string s) (ents ks 0)).run P w = .ok ((lookK s ks 0).map fun q => (q, .int .i64 (q : Int))) w := by
  unfold Instr.findKey
  simp only [Sem.run_bind, run_underlying hk, Result.andThen_ok, find_ents]
  cases lookK s ks 0 <;> simp
/-- 'v, ok := m[k]'. -/
theorem q_lookT (hx : ev l x = some (.map (some b))) (hy : ev l y = some (.string s)) (hu : P.underlying t = some (.map kt et)) (hk : P.underlying kt = some .string) (hz : ∀ w, (zeroValue et).run P w = .ok (.int .i64 0) w)
    (hb : (b, Obj.map (ents ks 0).toArray c) ∈ R) : OpQ P R ⟨d, .lookup t x y true, ty, pos, af, g⟩ l (.tuple #[.int .i64 (((lookK s ks 0).getD 0 : Nat) : Int), .bool (lookK s ks 0).isSome]) := fun N a w ha hw => by
  have hm : (getObj b).run P w = .ok (.map (ents ks 0).toArray c) w := by simp [getObj, Sem.run, hw _ _ hb]
  simp only [execOp, ha.ev hx, ha.ev hy, Instr.lookup, Sem.run_bind, run_underlying hu, Result.andThen_ok, hm, Sem.run_pure, checkStr hk]
  rw [findStr hk]
  cases lookK s ks 0 <;> simp [hz]
end
section
variable {C : Cx} {l : Env} {M J : Mem} {K : Env → Mem → Mem → Prop} {d : Nat} {ty t kt et : TypeId} {pos : String} {af : Array Edge} {g : Option (Nat × Bool)} {x y z : Operand} {b : Nat} {s : ByteArray} {ks : List ByteArray}
theorem l_makeMap (hd : Nat.blt d C.N = true) (k : ∀ b, K ((d, .map (some b)) :: l) ((b, .map (ents [] 0).toArray 0) :: M) J) : OpL C ⟨some d, .makeMap t none, ty, pos, af, g⟩ l M J K := by
  intro Qp a w ha hw
  unfold Oper.wp
  simp only [execOp, Option.map_none, RowKit.run_makeMap]
  exact ⟨_, _, J, ha.put (blt_lt hd) _, hw.alloc _, k _⟩
/-- 'm[k] = n' of a text that isn't there: the next place. -/
theorem l_mapPush {M' : Mem} (hx : ev l x = some (.map (some b))) (hy : ev l y = some (.string s)) (hz : ev l z = some (.int .i64 (ks.length : Int))) (hu : C.P.underlying t = some (.map kt et)) (hk : C.P.underlying kt = some .string) (hn : lookK s ks 0 = none)
    (hM : Upd M b (.map (ents ks 0).toArray ks.length) (.map (ents (ks ++ [s]) 0).toArray (ks.length + 1)) M') (k : K l M' J) : OpL C ⟨none, .mapUpdate t x y z, ty, pos, af, g⟩ l M J K := by
  intro Qp a w ha hw
  have hm := hw.mem _ _ (List.mem_append_left _ hM.mem)
  have hst : (Instr.mapUpdate t (.map (some b)) (.string s) (.int .i64 (ks.length : Int))).run C.P w = .ok () { w with heap := w.heap.setIfInBounds b (.map (ents (ks ++ [s]) 0).toArray (ks.length + 1)) } := by
    have hg : (getObj b).run C.P w = .ok (.map (ents ks 0).toArray ks.length) w := by simp [getObj, Sem.run, hm]
    have hs : ∀ o, (setObj b o).run C.P w = .ok () { w with heap := w.heap.setIfInBounds b o } := fun o => by simp [setObj, Sem.run, hm]
    simp only [Instr.mapUpdate, Sem.run_bind, run_underlying hu, Result.andThen_ok, hg, checkStr hk]
    rw [findStr hk, hn]
    simp only [Option.map_none, Result.andThen_ok, hs, ents_app, Nat.zero_add]
    simp
  unfold Oper.wp
  simp only [execOp, ha.ev hx, ha.ev hy, ha.ev hz, hst, Sem.run_bind, Result.andThen_ok]
  refine ⟨_, _, J, ha, hw.upd hM (by simp [lt_of_heap hm]) (fun k hk => by simp [Array.getElem?_setIfInBounds, Ne.symm hk]) (by simp) rfl rfl rfl, k⟩
/-- The entries while a new one is still open. -/
def openE (ks : List ByteArray) (s : ByteArray) : List MapEntry := ents ks 0 ++ [{ key := .string s, val := .int .i64 0, born := ks.length }]
/-- 'm[k] = n' in two: a place for a text that isn't there; what stands there. -/
theorem l_mapEntry {M' : Mem} (hx : ev l x = some (.map (some b))) (hy : ev l y = some (.string s)) (hu : C.P.underlying t = some (.map kt et)) (hk : C.P.underlying kt = some .string) (hz : ∀ w, (zeroValue et).run C.P w = .ok (.int .i64 0) w) (hn : lookK s ks 0 = none) (hd : Nat.blt d C.N = true)
    (hM : Upd M b (.map (ents ks 0).toArray ks.length) (.map (openE ks s).toArray (ks.length + 1)) M') (k : K ((d, .tuple #[.int .i64 0, .int .i64 (ks.length : Int)]) :: l) M' J) : OpL C ⟨some d, .mapEntry t x y, ty, pos, af, g⟩ l M J K := by
  intro Qp a w ha hw
  have hm := hw.mem _ _ (List.mem_append_left _ hM.mem)
  have hst : (Instr.mapEntry t (.map (some b)) (.string s)).run C.P w = .ok (.tuple #[.int .i64 0, .int .i64 (ks.length : Int)]) { w with heap := w.heap.setIfInBounds b (.map (openE ks s).toArray (ks.length + 1)) } := by
    have hg : (getObj b).run C.P w = .ok (.map (ents ks 0).toArray ks.length) w := by simp [getObj, Sem.run, hm]
    have hs : ∀ o, (setObj b o).run C.P w = .ok () { w with heap := w.heap.setIfInBounds b o } := fun o => by simp [setObj, Sem.run, hm]
    simp only [Instr.mapEntry, Sem.run_bind, run_underlying hu, Result.andThen_ok, hg, checkStr hk]
    rw [findStr hk, hn]
    simp only [Option.map_none, Result.andThen_ok, Sem.run_bind, hz, hs, Sem.run_pure]
    simp [goInt, openE]
  unfold Oper.wp
  simp only [execOp, ha.ev hx, ha.ev hy, hst, Sem.run_bind, Result.andThen_ok, Sem.run_pure]
  refine ⟨_, _, J, ha.put (blt_lt hd) _, hw.upd hM (by simp [lt_of_heap hm]) (fun k hk => by simp [Array.getElem?_setIfInBounds, Ne.symm hk]) (by simp) rfl rfl rfl, k⟩
theorem born_idx (e : MapEntry) : ∀ (ks : List ByteArray) (i n : Nat), n = i + ks.length → e.born = n → (ents ks i ++ [e]).findIdx? (fun e => (e.born : Int) == (n : Int)) = some ks.length
  | [], i, n, hn, he => by simp [ents, List.findIdx?_cons, he]
  | k :: ks, i, n, hn, he => by
    simp only [List.length_cons] at hn
    rw [ents, List.cons_append, List.findIdx?_cons, if_neg (by simp; omega), born_idx e ks (i + 1) n (by omega) he]
    rfl
theorem l_entryStore {M' : Mem} (hx : ev l x = some (.map (some b))) (hy : ev l y = some (.int .i64 (ks.length : Int))) (hz : ev l z = some (.int .i64 (ks.length : Int)))
    (hM : Upd M b (.map (openE ks s).toArray (ks.length + 1)) (.map (ents (ks ++ [s]) 0).toArray (ks.length + 1)) M') (k : K l M' J) : OpL C ⟨none, .entryStore t x y z, ty, pos, af, g⟩ l M J K := by
  intro Qp a w ha hw
  have hm := hw.mem _ _ (List.mem_append_left _ hM.mem)
  have hst : (Instr.entryStore t (.map (some b)) (.int .i64 (ks.length : Int)) (.int .i64 (ks.length : Int))).run C.P w = .ok () { w with heap := w.heap.setIfInBounds b (.map (ents (ks ++ [s]) 0).toArray (ks.length + 1)) } := by
    have hg : (getObj b).run C.P w = .ok (.map (openE ks s).toArray (ks.length + 1)) w := by simp [getObj, Sem.run, hm]
    have hs : ∀ o, (setObj b o).run C.P w = .ok () { w with heap := w.heap.setIfInBounds b o } := fun o => by simp [setObj, Sem.run, hm]
    have hi : (openE ks s).toArray.findIdx? (fun e => (e.born : Int) == (ks.length : Int)) = some ks.length := by
      rw [List.findIdx?_toArray]; unfold openE; exact born_idx _ ks 0 ks.length (by omega) rfl
    have hmod : (openE ks s).toArray.modify ks.length (fun e => { e with val := .int .i64 (ks.length : Int) }) = (ents (ks ++ [s]) 0).toArray := by
      unfold openE
      rw [ents_app, Nat.zero_add, List.modify_toArray]
      congr 1
      rw [List.modify_eq_take_cons_drop (by simp [ents_len])]
      simp [ents_len, List.getElem_append_right]
    simp only [Instr.entryStore, Sem.run_bind, Result.andThen_ok, hg, asInt, asIntOf, Sem.run_pure, hi, hs, hmod]
  unfold Oper.wp
  simp only [execOp, ha.ev hx, ha.ev hy, ha.ev hz, hst, Sem.run_bind, Result.andThen_ok]
  refine ⟨_, _, J, ha, hw.upd hM (by simp [lt_of_heap hm]) (fun k hk => by simp [Array.getElem?_setIfInBounds, Ne.symm hk]) (by simp) rfl rfl rfl, k⟩
end
end Go.Px
