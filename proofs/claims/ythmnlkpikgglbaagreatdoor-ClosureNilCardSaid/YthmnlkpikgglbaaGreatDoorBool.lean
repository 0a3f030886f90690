/-
  Slices of one-cell values, as bools: make, a store into an element; a call with values ahead; the index of a predicate over one-cell elements.
-/
import Derived.Test.YthmnlkpikgglbaaGreatDoorClo
set_option linter.unusedVariables false
set_option linter.unusedSimpArgs false
namespace Go.Px
/-- What make of a row of bools asks of the type. -/
def mkB (P : Program) (t : TypeId) : Option (TypeId × Nat) :=
  match P.underlying t with
  | some (.slice e) => match P.info? e with
    | some i => match i.zero with
      | some (.bool false) => if i.size = 1 then some (e, i.bytes) else none
      | _ => none
    | none => none
  | _ => none
def bools (h : List Bool) : List Value := h.map .bool
@[simp] theorem bools_len (h : List Bool) : (bools h).length = h.length := by simp [bools]
theorem bools_app (a b : List Bool) : bools (a ++ b) = bools a ++ bools b := by simp [bools]
theorem bools_one (h : List Bool) : ∀ c ∈ bools h, c.oneCell' = true := by
  intro c hc
  obtain ⟨b, _, rfl⟩ := List.mem_map.1 hc
  rfl
theorem bools_get {h : List Bool} {i : Nat} (hi : i < h.length) : (bools h)[i]? = some (.bool (h.getD i false)) := by
  simp [bools, List.getD_eq_getElem?_getD, hi]
theorem bools_set (h : List Bool) (i : Nat) (b : Bool) : (bools h).set i (.bool b) = bools (h.set i b) := by simp [bools, List.map_set]
theorem made_bools (n : Nat) : madeCells #[.bool false] n = (bools (List.replicate n false)).toArray := by
  apply Array.ext
  · simp [madeCells]
  · intro i h1 h2
    simp [madeCells, bools, Nat.mod_one]
theorem l_makeB {C : Cx} {l : Env} {M J : Mem} {K : Env → Mem → Mem → Prop} {ty t e : TypeId} {pos : String} {af : Array Edge} {g : Option (Nat × Bool)} {x y : Operand} {d by_ : Nat} {kl kc : IntKind} {i j : Int} (n : Nat) (hx : ev l x = some (.int kl i)) (hy : ev l y = some (.int kc j)) (ht : mkB C.P t = some (e, by_)) (hi : i = n) (hj : j = n)
    (hb : by_ * n ≤ 281474976710656) (hn : n ≤ 9223372036854775807) (hd : Nat.blt d C.N = true) (h : ∀ b, K ((d, .slice (some ⟨b, 0, none⟩) n n) :: l) ((b, blk (bools (List.replicate n false)) e) :: M) J) :
    OpL C ⟨some d, .makeSlice t x y, ty, pos, af, g⟩ l M J K := by
  intro Qp a w ha hw
  subst hi; subst hj
  unfold mkB at ht
  split at ht <;> try cases ht
  rename_i e' hu
  split at ht <;> try cases ht
  rename_i inf hi
  split at ht <;> try cases ht
  rename_i hz
  split at ht <;> simp only [Option.some.injEq, Prod.mk.injEq, reduceCtorEq] at ht
  rename_i hs
  obtain ⟨rfl, rfl⟩ := ht
  have hb' : (inf.bytes : Int) * (n : Int) ≤ 281474976710656 := by rw [← Int.natCast_mul]; omega
  have hr := run_make (P := C.P) w t e' inf _ hu hi hz kl kc n n (by omega) (by omega) hb' (by omega)
  simp only [Int.toNat_natCast, hs, Nat.mul_one] at hr
  rw [show (Value.bool false).cells = #[.bool false] from rfl, made_bools] at hr
  unfold Oper.wp
  simp only [execOp, ha.ev hx, ha.ev hy, Sem.run_bind, hr, Result.andThen_ok, Sem.run_pure]
  exact ⟨_, _, J, ha.put (blt_lt hd) _, hw.alloc _, h _⟩
/-- What an append of a row of noughts, of which the translation hands over the number alone, asks of the types. -/
def appB (P : Program) (t tn : TypeId) : Option (TypeId × Nat) :=
  match P.underlying tn with
  | some (.int _) => mkB P t
  | _ => none
theorem zeros_bools (n : Nat) : Builtin.zeroCells #[.bool false] n = (bools (List.replicate n false)).toArray := by
  apply Array.ext
  · simp [Builtin.zeroCells]
  · intro i h1 h2
    simp [Builtin.zeroCells, bools, Nat.mod_one]
theorem run_append_zB {P : Program} {t tn e ty : TypeId} {by_ n m : Nat} {v : Value} {xs : List Value} {B R : Mem} {w : World} (ht : appB P t tn = some (e, by_))
    (hs : Sl 1 v n xs B) (hB : ∀ q, q ∈ B → q ∈ R) (hw : Fx R w) (hmax : n + m ≤ maxLen) (hbytes : (n + m) * by_ ≤ 140737488355328) :
    ∃ v' w' B', (Builtin.append_ #[t, tn] ty #[v, .int .i64 (m : Int)]).run P w = .ok v' w' ∧ Sl 1 v' (n + m) (xs ++ bools (List.replicate m false)) B' ∧
      ((w' = w ∧ B' = B) ∨
       (∃ (b : Nat) (cs cs' : List Value) (e' : TypeId), B = [(b, blk cs e')] ∧ B' = [(b, blk cs' e')] ∧ w' = w.setRow b cs'.toArray) ∨
       (∃ o', B' = [(w.heap.size, o')] ∧ w' = w.drew.alloc o')) := by
  unfold appB at ht
  split at ht <;> try cases ht
  rename_i kn htn
  unfold mkB at ht
  split at ht <;> try cases ht
  rename_i e' hu
  split at ht <;> try cases ht
  rename_i i hi
  split at ht <;> try cases ht
  rename_i hz
  split at ht <;> simp only [Option.some.injEq, Prod.mk.injEq, reduceCtorEq] at ht
  rename_i his
  obtain ⟨rfl, rfl⟩ := ht
  have hzc : (Value.bool false).cells = #[.bool false] := rfl
  have hsmall : n + m ≤ 9223372036854775807 := by simp only [maxLen] at hmax; omega
  have hwm : IntKind.i64.wrap (m : Int) = m := by rw [IntKind.wrap_i64]; omega
  have hneg : ¬ ((m : Int) < 0) := by omega
  have h48i : ¬ (281474976710656 < (m : Int) * (i.bytes : Int)) := by
    rw [← Int.natCast_mul]
    have : m * i.bytes ≤ (n + m) * i.bytes := Nat.mul_le_mul_right _ (by omega)
    omega
  by_cases hm : m = 0
  · subst hm
    have hw0 : IntKind.i64.wrap 0 = 0 := by rw [IntKind.wrap_i64]; omega
    refine ⟨v, w, B, ?_, by simpa [bools] using hs, .inl ⟨rfl, rfl⟩⟩
    rcases hs with ⟨p, rfl, rfl, rfl, rfl⟩ | ⟨b, o, cap, cs, e', rfl, rfl, h1, h2, h3, h4, h5⟩
    · cases p <;> simp [Builtin.append_, run_underlying hu, run_underlying htn, sizeOf, typeInfo, hi, asInt, asIntOf, hw0, storeCells, his]
    · simp [Builtin.append_, run_underlying hu, run_underlying htn, sizeOf, typeInfo, hi, asInt, asIntOf, hw0, storeCells, his, h1]
  · have made : ∀ (r : Value) (cap' : Nat), r = .slice (some ⟨w.heap.size, 0, none⟩) (n + m) cap' → n + m ≤ cap' → cap' ≤ maxLen → xs.length = n →
        Sl 1 r (n + m) (xs ++ bools (List.replicate m false)) [(w.heap.size, .cells (xs.toArray ++ (bools (List.replicate m false)).toArray ++ (bools (List.replicate (cap' - (n + m)) false)).toArray) e' (0, 0))] := by
      intro r cap' hr' hc1 hc2 hxl
      refine .inr ⟨w.heap.size, 0, cap', (xs.toArray ++ (bools (List.replicate m false)).toArray ++ (bools (List.replicate (cap' - (n + m)) false)).toArray).toList, e', hr', by simp [blk], hc1, hc2, ?_, ?_, ?_⟩
      · simp [hxl]; omega
      · simp [hxl]
      · intro j u hj
        have hlt : j < (xs ++ bools (List.replicate m false)).length := (List.getElem?_eq_some_iff.1 hj).1
        rw [Nat.zero_add]
        simp only [Array.toList_append, List.append_assoc]
        rw [← List.append_assoc, List.getElem?_append_left (by simpa using hlt)]
        exact hj
    have h63' : ¬ (9223372036854775807 < ((n : Int) + (m : Int))) := by omega
    rcases hs with ⟨p, rfl, rfl, rfl, rfl⟩ | ⟨b, o, cap, cs, e2, rfl, rfl, h1, h2, h3, h4, h5⟩
    · have hge := grownCap_ge w (0 + m) 0 e'
      have hcm : grownCap w (0 + m) 0 e' ≤ maxLen := grownCap_le_maxLen w (0 + m) 0 e' hmax
      have hfit : Builtin.nextslicecap (0 + m) 0 * i.bytes ≤ 281474976710656 := growslice_fits (by omega) hbytes
      have h48' : ¬ (281474976710656 < Builtin.nextslicecap (0 + m) 0 * i.bytes) := by omega
      refine ⟨.slice (some ⟨w.heap.size, 0, none⟩) (0 + m) (grownCap w (0 + m) 0 e'), _, _, ?_, made _ _ rfl hge hcm (by simp), .inr (.inr ⟨_, rfl, rfl⟩)⟩
      simp only [Nat.zero_add] at *
      have h63'' : ¬ (9223372036854775807 < (m : Int)) := by omega
      cases p <;> simp [Builtin.append_, run_underlying hu, run_underlying htn, sizeOf, typeInfo, zeroValue, hi, hz, hzc, asInt, asIntOf, hwm, hm, hneg, his, h63'', h48', h48i, Question.forced, newRow, grownCap, Builtin.firstCells, loadCells, loadCellsFrom, zeros_bools]
    · have hb := hw b _ (hB _ (List.mem_singleton.2 rfl))
      by_cases hroom : n + m ≤ cap
      · have hfit : o + n + (bools (List.replicate m false)).length ≤ cs.length := by simp; omega
        have hst := run_storeCells_at (P := P) b (o + n) e2 (bools (List.replicate m false)) 0 cs.toArray w hb (by simpa using hfit) (bools_one _)
        simp only [Nat.add_zero] at hst
        refine ⟨.slice (some ⟨b, o, none⟩) (n + m) cap, w.setRow b (cs.take (o + n) ++ bools (List.replicate m false) ++ cs.drop (o + n + (bools (List.replicate m false)).length)).toArray, _, ?_, ?_, .inr (.inl ⟨b, cs, _, e2, rfl, rfl, rfl⟩)⟩
        · simp [Builtin.append_, run_underlying hu, run_underlying htn, sizeOf, typeInfo, zeroValue, hi, hz, hzc, asInt, asIntOf, hwm, hm, hneg, his, h48i, hroom, Addr.add_mid, hst, zeros_bools]
        · refine .inr ⟨b, o, cap, _, e2, rfl, rfl, hroom, h2, ?_, ?_, ?_⟩
          · simp only [List.length_append, List.length_take, List.length_drop]
            omega
          · simp [h4]
          · intro j q hj
            by_cases hjx : j < xs.length
            · rw [List.getElem?_append_left hjx] at hj
              rw [List.append_assoc, List.getElem?_append_left (by simp; omega), List.getElem?_take_of_lt (by omega)]
              exact h5 j q hj
            · rw [List.getElem?_append_right (by omega)] at hj
              have hlt := (List.getElem?_eq_some_iff.1 hj).1
              have hln : (cs.take (o + n)).length = o + n := by simp; omega
              rw [List.append_assoc, List.getElem?_append_right (by omega), List.getElem?_append_left (by omega), hln, ← hj]
              congr 1
              omega
      · have hge := grownCap_ge w (n + m) cap e'
        have hcm : grownCap w (n + m) cap e' ≤ maxLen := grownCap_le_maxLen w (n + m) cap e' hmax
        have hfit : Builtin.nextslicecap (n + m) cap * i.bytes ≤ 281474976710656 := growslice_fits (by omega) hbytes
        have h48' : ¬ (281474976710656 < Builtin.nextslicecap (n + m) cap * i.bytes) := by omega
        have hfo := run_firstCells_some (P := P) w.drew 1 n ⟨b, o, none⟩ n cap xs h4 (fun j q hj => by rw [Addr.add_mid]; simpa using (by rw [cell_of_row w b _ cs.toArray e2 (0, 0) hb]; simpa using h5 j q hj))
        refine ⟨.slice (some ⟨w.heap.size, 0, none⟩) (n + m) (grownCap w (n + m) cap e'), _, _, ?_, made _ _ rfl hge hcm (by omega), .inr (.inr ⟨_, rfl, rfl⟩)⟩
        simp [Builtin.append_, run_underlying hu, run_underlying htn, sizeOf, typeInfo, zeroValue, hi, hz, hzc, asInt, asIntOf, hwm, hm, hneg, his, hroom, h63', h48', h48i, Question.forced, newRow, grownCap, hfo, zeros_bools]
section zb
variable {C : Cx} {l : Env} {M J : Mem} {K : Env → Mem → Mem → Prop} {d : Nat} {ty t tn e : TypeId} {pos : String} {af : Array Edge} {g : Option (Nat × Bool)} {x y : Operand}
/-- append(s, make([]bool, m)...) in place. -/
theorem l_appendZB {by_ n m : Nat} {v : Value} {j : Int} {xs : List Value} {B M0 : Mem} (hx : ev l x = some v) (hy : ev l y = some (.int .i64 j)) (hj : j = (m : Int)) (ht : appB C.P t tn = some (e, by_))
    (hs : Sl 1 v n xs B) (hM : M.Perm (B ++ M0)) (hmax : n + m ≤ maxLen) (hbytes : (n + m) * by_ ≤ 140737488355328) (hd : Nat.blt d C.N = true)
    (k : ∀ v' B', Sl 1 v' (n + m) (xs ++ bools (List.replicate m false)) B' → K ((d, v') :: l) (B' ++ M0) J) :
    OpL C ⟨some d, .call { callee := .builtin .append, args := #[x, y], argTypes := #[t, tn] }, ty, pos, af, g⟩ l M J K := by
  intro Qp a w ha hw
  subst hj
  obtain ⟨v', w', B', hrun, hsl, hcase⟩ := run_append_zB (P := C.P) (ty := ty) (R := M ++ (J ++ C.A)) ht hs (fun q hq => by have := hM.mem_iff.2 (List.mem_append_left M0 hq); simp [this]) hw.fx hmax hbytes
  have hexec : (execOp a.eval ⟨some d, .call { callee := .builtin .append, args := #[x, y], argTypes := #[t, tn] }, ty, pos, af, g⟩).run C.P w = .ok (.value v') w' := by
    simp [execOp, resolve, invoke, builtin, ha.ev hx, ha.ev hy, hrun]
  unfold Oper.wp
  rw [hexec]
  refine ⟨_, B' ++ M0, J, ha.put (blt_lt hd) v', ?_, k v' B' hsl⟩
  rcases hcase with ⟨rfl, rfl⟩ | ⟨b, cs, cs', e', rfl, rfl, rfl⟩ | ⟨o', rfl, rfl⟩
  · exact hw.perm hM
  · exact (hw.perm hM).setRow (M' := [(b, blk cs' e')] ++ M0) Upd.hd
  · have h2 : St C ((w.heap.size, o') :: M) J (w.drew.alloc o') := St.alloc (w := w.drew) hw.drew o'
    have h3 := h2.perm (M' := (w.heap.size, o') :: (B ++ M0)) (List.Perm.cons _ hM)
    exact h3.drop (List.Sublist.cons_cons _ (List.sublist_append_right B M0)) (fun _ h => h)
end zb
/-- A store into an element of an owned slice of one-cell values. -/
theorem l_stE {C : Cx} {l : Env} {M J : Mem} {K : Env → Mem → Mem → Prop} {ty t : TypeId} {pos : String} {af : Array Edge} {g : Option (Nat × Bool)} {x y : Operand} {v u : Value} {xs : List Value} {n j : Nat} {B M0 : Mem} (h : Sl 1 v n xs B) (hx : ev l x = some (vAt 1 j v)) (hy : ev l y = some u) (h1 : u.oneCell' = true)
    (ht : sizeT C.P t = some 1) (hj : j < n) (hM : M.Perm (B ++ M0)) (h2 : ∀ B', Sl 1 v n (xs.set j u) B' → K l (B' ++ M0) J) :
    OpL C ⟨none, .store t x y, ty, pos, af, g⟩ l M J K := by
  suffices hh : OpL C ⟨none, .store t x y, ty, pos, af, g⟩ l (B ++ M0) J K from fun Qp a w ha hw => hh Qp a w ha (hw.fit (Fit.perm hM) fun _ h => h)
  clear hM
  rcases h with ⟨p, rfl, rfl, hx2, rfl⟩ | ⟨b, o, cap, cs, e, rfl, rfl, h3, h4, h5, h6, h7⟩
  · omega
  · simp only [vAt, Addr.add_mid, Nat.mul_one] at hx
    refine l_store hx hy h1 ht (setL_set (by omega)) .hd (h2 [_] (.inr ⟨b, o, cap, _, e, rfl, rfl, h3, h4, by simpa using h5, by simpa using h6, ?_⟩))
    intro i w hi
    rw [List.getElem?_set] at hi ⊢
    by_cases hij : j = i
    · subst hij
      simp only [if_true] at hi ⊢
      simp at hi h6
      rw [if_pos (by omega)]
      rw [← hi.2]
    · rw [if_neg hij] at hi
      rw [if_neg (by omega)]
      exact h7 i w hi
/-- A function value with values ahead of its arguments. -/
theorem q_mkFuncF {P : Program} {R : Mem} {l : Env} {d : Option Nat} {ty : TypeId} {pos : String} {af : Array Edge} {g : Option (Nat × Bool)} {fn : Fn} {ys xs : List Operand} {us vs : List Value} (hy : Evs l ys us) (hx : Evs l xs vs) :
    OpQ P R ⟨d, .makeFunc fn ys.toArray xs.toArray, ty, pos, af, g⟩ l (.func fn us.toArray vs.toArray) := fun N a w ha hw => by
  have e : xs.toArray.map a.eval = vs.toArray := by simp [hx.map ha]
  have e2 : ys.toArray.map a.eval = us.toArray := by simp [hy.map ha]
  simp only [execOp, e, e2]
  simp [Instr.makeFunc]
section call
variable {C : Cx} {l : Env} {M J : Mem} {K : Env → Mem → Mem → Prop} {d : Nat} {ty : TypeId} {pos : String} {af : Array Edge} {g : Option (Nat × Bool)} {x : Operand} {f : FuncId} {xs : List Operand} {us vs cs : List Value} {ts : Array TypeId}
theorem l_callFF {Mc R : Mem} {post : Value → Mem → Mem → Prop} (h0 : ev l x = some (.func (.func f) us.toArray cs.toArray)) (hx : Evs l xs vs) (hc : callable C.P f = true)
    (hM : M.Perm (Mc ++ R)) (hf : FnX C.P f (us ++ vs ++ cs) Mc (R ++ (J ++ C.A)) post) (hd : Nat.blt d C.N = true) (k : ∀ v M' J', post v M' J' → K ((d, v) :: l) (M' ++ R) (J' ++ J)) :
    OpL C ⟨some d, .call { callee := .value x, args := xs.toArray, argTypes := ts }, ty, pos, af, g⟩ l M J K := by
  intro Qp a w ha hw
  have hrun : (execOp a.eval ⟨some d, .call { callee := .value x, args := xs.toArray, argTypes := ts }, ty, pos, af, g⟩).run C.P w = .ok (.enter f (us ++ vs ++ cs).toArray) w := by
    have e : xs.toArray.map a.eval = vs.toArray := by simp [hx.map ha]
    simp only [execOp, resolve, e, Sem.run_bind, ha.ev h0]
    simp [Deferred.ofValue, invoke, run_call hc]
  unfold Oper.wp
  rw [hrun]
  refine Calls.mono (hf w (hw.callee hM)) ?_
  rintro e w' ⟨v, M', J', rfl, hp, hs⟩
  exact ⟨_, _, _, ha.put (blt_lt hd) v, hw.back hM hs, k v M' J' hp⟩
theorem l_callFFV {v : Value} (h0 : ev l x = some (.func (.func f) us.toArray cs.toArray)) (hx : Evs l xs vs) (hc : callable C.P f = true) (hf : FnV C.P f (us ++ vs ++ cs) (M ++ (J ++ C.A)) v) (hd : Nat.blt d C.N = true) (k : K ((d, v) :: l) M J) :
    OpL C ⟨some d, .call { callee := .value x, args := xs.toArray, argTypes := ts }, ty, pos, af, g⟩ l M J K :=
  l_callFF (Mc := []) (R := M) h0 hx hc (.refl _) hf hd fun r M' J' ⟨e, h1, h2⟩ => by subst e; subst h1; subst h2; exact k
end call
/-- Has an element of a list a property? (as the index of the first one, at least 0) -/
theorem fidx_ge {p : Nat → Bool} {n : Nat} : decide (fidx p n ≥ 0) = (List.range n).any p := by
  rcases fidx_cases p n with ⟨h1, h2⟩ | ⟨i, h1, h2, h3, _⟩
  · rw [h1]
    symm
    rw [show decide ((-1 : Int) ≥ 0) = false from rfl, List.any_eq_false]
    intro j hj
    rw [h2 j (List.mem_range.1 hj)]; decide
  · rw [h2]
    symm
    rw [decide_eq_true (by omega), List.any_eq_true]
    exact ⟨i, List.mem_range.2 h1, h3⟩
theorem range_any {α : Type} (q : α → Bool) (l : List α) : (List.range l.length).any (fun j => (l[j]?.map q).getD false) = l.any q := by
  rw [Bool.eq_iff_iff, List.any_eq_true, List.any_eq_true]
  constructor
  · rintro ⟨j, hj, h⟩
    have hj := List.mem_range.1 hj
    rw [List.getElem?_eq_getElem hj] at h
    exact ⟨l[j], List.getElem_mem hj, h⟩
  · rintro ⟨x, hx, h⟩
    obtain ⟨j, hj⟩ := List.getElem?_of_mem hx
    exact ⟨j, List.mem_range.2 (List.getElem?_eq_some_iff.1 hj).1, by rw [hj]; exact h⟩
end Go.Px
