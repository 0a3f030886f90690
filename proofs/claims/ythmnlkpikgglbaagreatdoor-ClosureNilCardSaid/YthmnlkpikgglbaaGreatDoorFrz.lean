/-
  Owned blocks that are read alone from now on; byte slices to be read; copy of a part.
-/
import Derived.Test.YthmnlkpikgglbaaGreatDoorBy
import Derived.Test.YthmnlkpikgglbaaGreatDoorAut
import Derived.Test.YthmnlkpikgglbaaGreatDoorDraw
set_option linter.unusedVariables false
set_option linter.unusedSimpArgs false
namespace Go.Px
section
variable {C : Cx} {Q : XQ} {l : Env} {M J B R M' : Mem} {w : World}
theorem St.freezes (h : St C (B ++ M) J w) : St C M (B ++ J) w := by
  induction B generalizing J with
  | nil => exact h
  | cons x B ih =>
    have h1 := ih (J := x :: J) (St.freeze (by simpa using h))
    refine h1.drop (List.Sublist.refl _) fun y hy => ?_
    simp only [List.cons_append, List.mem_cons, List.mem_append] at hy ⊢
    rcases hy with h | h | h <;> simp [h]
theorem St.frz (hp : M.Perm (B ++ M')) (h : St C M J w) : St C M' (B ++ J) w := (h.perm hp).freezes
theorem XC.frz {c : Code} (hp : M.Perm (B ++ M')) (h : XC C c Q l M' (B ++ J)) : XC C c Q l M J := fun a w ha hw => h a w ha (hw.frz hp)
theorem XL.frz {ops : Array Oper} {rest : List Oper} (hp : M.Perm (B ++ M')) (h : XL C ops rest Q l M' (B ++ J)) : XL C ops rest Q l M J := fun a w ha hw => h a w ha (hw.frz hp)
theorem XK.frz {os : List Oper} {K : Nat → Prop} {n0 : Nat} {nd : List Nat} {plan : List (Nat × Nat)} (hp : M.Perm (B ++ M')) (h : XK C os Q K n0 nd plan l M' (B ++ J)) : XK C os Q K n0 nd plan l M J :=
  fun listed hcl hpl a w ha hw hn => h listed hcl hpl a w ha (hw.frz hp) hn
theorem XF.frz {os : List Oper} {nd : List Nat} {plan : List (Nat × Nat)} (hp : M.Perm (B ++ M')) (h : XF C os Q nd plan l M' (B ++ J)) : XF C os Q nd plan l M J := XK.frz hp h
end
/-- What was made is read alone from the return on. -/
theorem FnX.frz {P : Program} {f : FuncId} {args : List Value} {M A : Mem} {post : Value → Mem → Mem → Mem → Prop} (h : FnX P f args M A fun r M' J => ∃ B M1, M'.Perm (B ++ M1) ∧ post r B M1 J) : FnX P f args M A fun r M1 J1 => ∃ B J, J1 = B ++ J ∧ post r B M1 J := by
  intro w hw
  refine Calls.mono (h w hw) ?_
  rintro e w' ⟨v, M', J, rfl, ⟨B, M1, hp, hq⟩, hs⟩
  exact ⟨v, M1, B ++ J, rfl, ⟨B, J, rfl, hq⟩, hs.frz hp⟩
theorem FnX.frz0 {P : Program} {f : FuncId} {args : List Value} {A : Mem} {φ : Value → Mem → Prop} (h : FnX P f args [] A fun r M J => J = [] ∧ φ r M) : FnX P f args [] A fun r M J => M = [] ∧ φ r J := by
  intro w hw
  refine Calls.mono (h w hw) ?_
  rintro e w' ⟨v, M', J, rfl, ⟨rfl, hq⟩, hs⟩
  exact ⟨v, [], M', rfl, ⟨rfl, hq⟩, by have := St.frz (B := M') (M' := []) (by simp) hs; simpa using this⟩
/-- A slice of bytes, to be read. -/
structure By (R : Mem) (v : Value) (w : List Nat) : Prop where
  rd : Rd R 1 v w.length (nums .u8 w)
  lt : ∀ x ∈ w, x < 256
  len : w.length ≤ 16777216
theorem By.mono {R R' : Mem} {v : Value} {w : List Nat} (h : By R v w) (hR : ∀ x, x ∈ R → x ∈ R') : By R' v w := ⟨h.rd.mono hR, h.lt, h.len⟩
theorem By.b256 {R : Mem} {v : Value} {w : List Nat} (h : By R v w) : B256 w := ⟨h.lt⟩
theorem By.one {R : Mem} {v : Value} {w : List Nat} (h : By R v w) : v.oneCell' = true := h.rd.one
theorem By.cel {R : Mem} {v : Value} {w : List Nat} (h : By R v w) : Cel v [v] := h.rd.cel
theorem By.nil {R : Mem} : By R (.slice none 0 0) [] := ⟨Rd.nil, (fun x h => by cases h), by decide⟩
theorem By.max {R : Mem} {v : Value} {w : List Nat} (h : By R v w) : w.length ≤ maxLen := Nat.le_trans h.len (by unfold maxLen; omega)
/-- Slices of bytes, to be read. -/
structure Lst (R : Mem) (vs : List Value) (ls : List (List Nat)) : Prop where
  len : vs.length = ls.length
  get : ∀ (j : Nat) (w : List Nat), ls[j]? = some w → ∃ v, vs[j]? = some v ∧ By R v w
theorem Lst.mono {R R' : Mem} {vs : List Value} {ls : List (List Nat)} (h : Lst R vs ls) (hR : ∀ x, x ∈ R → x ∈ R') : Lst R' vs ls := ⟨h.len, fun j w hj => by
  obtain ⟨v, h1, h2⟩ := h.get j w hj
  exact ⟨v, h1, h2.mono hR⟩⟩
theorem Lst.at {R : Mem} {vs : List Value} {ls : List (List Nat)} (h : Lst R vs ls) {j : Nat} (hj : j < ls.length) : ∃ v, vs[j]? = some v ∧ By R v ls[j] := h.get j ls[j] (List.getElem?_eq_getElem hj)
theorem Lst.nil {R : Mem} : Lst R [] [] := ⟨rfl, fun j w h => by simp at h⟩
theorem Lst.cons {R : Mem} {vs : List Value} {ls : List (List Nat)} {v : Value} {w : List Nat} (hv : By R v w) (h : Lst R vs ls) : Lst R (v :: vs) (w :: ls) := ⟨by simp [h.len], fun j u hj => by
  cases j with
  | zero => simp at hj; subst hj; exact ⟨v, rfl, hv⟩
  | succ j => exact h.get j u hj⟩
theorem Lst.snoc {R : Mem} {vs : List Value} {ls : List (List Nat)} (h : Lst R vs ls) {v : Value} {w : List Nat} (hv : By R v w) : Lst R (vs ++ [v]) (ls ++ [w]) := ⟨by simp [h.len], fun j u hj => by
  by_cases hlt : j < ls.length
  · rw [List.getElem?_append_left hlt] at hj
    obtain ⟨v', h1, h2⟩ := h.get j u hj
    exact ⟨v', by rw [List.getElem?_append_left (List.getElem?_eq_some_iff.1 h1).1]; exact h1, h2⟩
  · rw [List.getElem?_append_right (by omega)] at hj
    have hj0 : j = ls.length := by
      have := (List.getElem?_eq_some_iff.1 hj).1
      simp at this; omega
    subst hj0
    simp at hj
    subst hj
    exact ⟨v, by rw [List.getElem?_append_right (by rw [h.len]; omega), h.len]; simp, hv⟩⟩
theorem Lst.one {R : Mem} {vs : List Value} {ls : List (List Nat)} (h : Lst R vs ls) : ∀ c ∈ vs, c.oneCell' = true := by
  intro c hc
  obtain ⟨j, hj⟩ := List.getElem?_of_mem hc
  have hlt := (List.getElem?_eq_some_iff.1 hj).1
  rw [h.len] at hlt
  obtain ⟨v, h1, h2⟩ := h.at hlt
  rw [hj] at h1
  cases h1
  exact h2.one
/-- A slice of slices of bytes, to be read. -/
structure LsV (R : Mem) (v : Value) (ls : List (List Nat)) : Prop where
  ex : ∃ vs, Rd R 1 v ls.length vs ∧ Lst R vs ls
theorem LsV.mono {R R' : Mem} {v : Value} {ls : List (List Nat)} (h : LsV R v ls) (hR : ∀ x, x ∈ R → x ∈ R') : LsV R' v ls := by
  obtain ⟨vs, h1, h2⟩ := h.ex
  exact ⟨vs, h1.mono hR, h2.mono hR⟩
theorem LsV.nil {R : Mem} : LsV R (.slice none 0 0) [] := ⟨[], Rd.nil, Lst.nil⟩
theorem LsV.cel {R : Mem} {v : Value} {ls : List (List Nat)} (h : LsV R v ls) : Cel v [v] := by
  obtain ⟨vs, h1, _⟩ := h.ex
  exact h1.cel
section loud
variable {C : Cx} {l : Env} {M J : Mem} {K : Env → Mem → Mem → Prop} {d : Nat} {ty t e : TypeId} {pos : String} {af : Array Edge} {g : Option (Nat × Bool)} {x y : Operand}
/-- copy of a part, into the whole of an owned array of numbers. -/
theorem l_copyP {b m n : Nat} {u : Value} {k : IntKind} {ws us ws' : List Nat} {e' : TypeId} {by_ : Nat} {M' : Mem} (hx : ev l x = some (.slice (some ⟨b, 0, none⟩) m m)) (hy : ev l y = some u) (ht : elemT C.P t = some (e, 1, by_))
    (hr : Rd (M ++ (J ++ C.A)) 1 u n (nums k us)) (hm : ws.length = m) (hw' : ws' = us.take m ++ ws.drop n) (hu : Upd M b (blk (nums k ws) e') (blk (nums k ws') e') M') (hd : Nat.blt d C.N = true) (h : K ((d, .int .i64 ((min n m : Nat) : Int)) :: l) M' J) :
    OpL C ⟨some d, .call { callee := .builtin .copy, args := #[x, y], argTypes := #[t, t] }, ty, pos, af, g⟩ l M J K := by
  intro Qp a w ha hw
  obtain ⟨i, z, hut, hi, hz, hzs, his, hib⟩ := elemT_spec ht
  obtain ⟨pu, cu, rfl, hul, huc, hub⟩ := hr
  have hru : Rd (M ++ (J ++ C.A)) 1 (.slice pu n cu) n (nums k us) := ⟨pu, cu, rfl, hul, huc, hub⟩
  have hb := hw.mem _ _ (List.mem_append_left _ hu.mem)
  have hf := first_rd (P := C.P) (m := n) (c2 := cu) (hru.hi (min n m) (Nat.min_le_left _ _)) hw.fx
  have hus : us.length = n := by simpa using hul
  rw [Nat.mul_one, show (nums k us).take (min n m) = nums k (us.take (min n m)) by simp [nums]] at hf
  have hst := run_storeCells_at (P := C.P) b 0 e' (nums k (us.take (min n m))) 0 (nums k ws).toArray w hb (by simp [hus, hm]; omega) nums_one
  simp only [Nat.add_zero, Nat.zero_add, List.take_zero, List.nil_append, nums_len, List.length_take, hus] at hst
  rw [← nums_drop, ← nums_append] at hst
  have e1 : us.take (min n m) ++ ws.drop (min (min n m) n) = ws' := by
    rw [hw']
    rcases Nat.le_total m n with h | h
    · rw [Nat.min_eq_right h, Nat.min_eq_left h, List.drop_of_length_le (l := ws) (i := m) (by omega), List.drop_of_length_le (l := ws) (i := n) (by omega)]
    · rw [Nat.min_eq_left h, Nat.min_self, List.take_of_length_le (l := us) (i := n) (by omega), List.take_of_length_le (l := us) (i := m) (by omega)]
  rw [e1] at hst
  have hrun : (execOp a.eval ⟨some d, .call { callee := .builtin .copy, args := #[x, y], argTypes := #[t, t] }, ty, pos, af, g⟩).run C.P w = .ok (.value (.int .i64 ((min n m : Nat) : Int))) (w.setRow b (nums k ws').toArray) := by
    simp [execOp, resolve, invoke, builtin, ha.ev hx, ha.ev hy, Builtin.copy_, run_underlying hut, sizeOf, typeInfo, hi, his, Builtin.lenOf, hf, hst, goInt]
  unfold Oper.wp
  rw [hrun]
  exact ⟨_, M', J, ha.put (blt_lt hd) _, hw.setRow hu, h⟩
/-- An append behind a slice without room, of what is read alone: a new array. -/
theorem l_appendC {sz by_ n m b o : Nat} {u : Value} {xs ys : List Value} (hx : ev l x = some (.slice (some ⟨b, o, none⟩) n n)) (hy : ev l y = some u) (ht : elemT C.P t = some (e, sz, by_)) (hsz : Nat.blt 0 sz = true)
    (hs : Rd (M ++ (J ++ C.A)) sz (.slice (some ⟨b, o, none⟩) n n) n xs) (hr : Rd (M ++ (J ++ C.A)) sz u m ys) (hm : 0 < m) (hmax : n + m ≤ maxLen) (hbytes : (n + m) * by_ ≤ 140737488355328) (hd : Nat.blt d C.N = true)
    (k : ∀ v' B', Sl sz v' (n + m) (xs ++ ys) B' → K ((d, v') :: l) (B' ++ M) J) :
    OpL C ⟨some d, .call { callee := .builtin .append, args := #[x, y], argTypes := #[t, t] }, ty, pos, af, g⟩ l M J K := by
  intro Qp a w ha hw
  obtain ⟨i, z, hu, hi, hz, hzs, his, hib⟩ := elemT_spec ht
  obtain ⟨pu, cu, rfl, hul, huc, hub⟩ := hr
  obtain ⟨p', c', e', hxl, hcc, hxb⟩ := hs
  cases e'
  subst his; subst hib
  obtain ⟨bu, ou, csu, eu, fru, rfl, hbu, hxu⟩ : ∃ (b o : Nat) (cs : List Value) (e : TypeId) (fr : Nat × Nat), pu = some ⟨b, o, none⟩ ∧ (b, Obj.cells cs.toArray e fr) ∈ M ++ (J ++ C.A) ∧ ∀ j u, ys[j]? = some u → cs[o + j]? = some u := by
    rcases hub with h | h
    · omega
    · exact h
  have hnews : ∀ j u, ys[j]? = some u → w.cell? ((⟨bu, ou, none⟩ : Addr).add j) = some u := fun j u hj => by rw [Addr.add_mid, cell_fx hw.fx hbu]; simpa using hxu j u hj
  have holds : ∀ j u, xs[j]? = some u → w.cell? ((⟨b, o, none⟩ : Addr).add j) = some u := fun j u hj => by
    rcases hxb with h | ⟨b2, o2, cs2, e2, f2, h1, h2, h3⟩
    · subst h
      have : xs = [] := List.eq_nil_of_length_eq_zero (by simpa using hxl)
      subst this; simp at hj
    · cases h1
      rw [Addr.add_mid, cell_fx hw.fx h2]; simpa using h3 j u hj
  have hsmall : n + m ≤ 9223372036854775807 := by simp only [maxLen] at hmax; omega
  have hge := grownCap_ge w (n + m) n e
  have hcm : grownCap w (n + m) n e ≤ maxLen := grownCap_le_maxLen w (n + m) n e hmax
  have hrg := run_append_grow (P := C.P) w t ty e i z hu hi hz ⟨b, o, none⟩ n n xs hxl holds ⟨bu, ou, none⟩ m cu ys hul hnews (by omega) (by omega) (growslice_fits (by omega) hbytes)
  have hexec : (execOp a.eval ⟨some d, .call { callee := .builtin .append, args := #[x, y], argTypes := #[t, t] }, ty, pos, af, g⟩).run C.P w = .ok (.value (.slice (some ⟨w.heap.size, 0, none⟩) (n + m) (grownCap w (n + m) n e))) (w.drew.alloc (.cells (xs.toArray ++ ys.toArray ++ Builtin.zeroCells z.cells (grownCap w (n + m) n e - (n + m))) e (0, 0))) := by
    simp [execOp, resolve, invoke, builtin, ha.ev hx, ha.ev hy, hrg]
  unfold Oper.wp
  rw [hexec]
  have hsl : Sl i.size (.slice (some ⟨w.heap.size, 0, none⟩) (n + m) (grownCap w (n + m) n e)) (n + m) (xs ++ ys) [(w.heap.size, .cells (xs.toArray ++ ys.toArray ++ Builtin.zeroCells z.cells (grownCap w (n + m) n e - (n + m))) e (0, 0))] := by
    refine .inr ⟨w.heap.size, 0, _, (xs.toArray ++ ys.toArray ++ Builtin.zeroCells z.cells (grownCap w (n + m) n e - (n + m))).toList, e, rfl, by simp [blk], hge, hcm, ?_, ?_, ?_⟩
    · simp only [Array.length_toList, Array.size_append, List.size_toArray, size_zeroCells, hzs, hxl, hul, ← Nat.add_mul, Nat.zero_add]
      refine Nat.mul_le_mul_right _ ?_
      omega
    · simp [hxl, hul, Nat.add_mul]
    · intro j u hj
      have hlt : j < (xs ++ ys).length := (List.getElem?_eq_some_iff.1 hj).1
      rw [Nat.zero_add]
      simp only [Array.toList_append, List.append_assoc]
      rw [← List.append_assoc, List.getElem?_append_left (by simpa using hlt)]
      exact hj
  exact ⟨_, _, J, ha.put (blt_lt hd) _, St.alloc (w := w.drew) hw.drew _, k _ _ hsl⟩
end loud
/-- The return, in a free form: what is owned still, what is read alone from now on. -/
def retZ (P : Program) (fn : Func) (A : Mem) (post : Value → Mem → Mem → Prop) : XQ
  | .ret, l, M, J => ∃ v M' B, Res P fn l (M ++ (J ++ A)) v ∧ Fit M (B ++ M') ∧ post v M' (B ++ J)
  | .normal, l, M, J => ∃ v M' B, Res P fn l (M ++ (J ++ A)) v ∧ Fit M (B ++ M') ∧ post v M' (B ++ J)
  | _, _, _, _ => False
theorem FnX.enterZ {P : Program} {f : FuncId} {fn : Func} {c : Code} {N : Nat} {args : List Value} {M A : Mem} {post : Value → Mem → Mem → Prop}
    (hf : P.funcs[f]? = some fn) (hb : fn.body = some c) (hn : fn.ntmps = N) (hN : Nat.ble args.length N = true)
    (h : ∀ w, XC ⟨P, w, M.map Prod.fst, A, N⟩ c (retZ P fn A post) (argE args 0) M []) : FnX P f args M A post := by
  intro w hw
  refine calls_of_wp hf hb ?_
  have hle : args.length ≤ N := by simpa using hN
  refine Code.wp_mono ?_ (h w _ w ?_ hw.cx)
  · rintro e a' w' ⟨l, M', J, ha, hw', hq⟩
    cases e <;> first | exact hq.elim | skip
    all_goals
      obtain ⟨v, M2, B, hv, hM2, hp⟩ := hq
      exact ⟨ha.defers, v, hv N a' w' ha hw'.fx, v, M2, B ++ J, rfl, hp, (hw'.fit hM2 (fun _ h => h)).freezes.cx⟩
  · refine ⟨rfl, by simp [hn]; omega, ?_⟩
    intro i v hi
    obtain ⟨_, h2⟩ := argE_lk args 0 i v hi
    simp only [Nat.sub_zero] at h2
    have hlt : i < args.length := (List.getElem?_eq_some_iff.1 h2).1
    rw [Array.getElem?_append_left (by simpa using hlt)]
    simpa using h2
theorem Fit.nil {M : Mem} : Fit M ([] ++ []) := Fit.sub (List.nil_sublist _)
theorem Fit.none {M M' : Mem} (h : Fit M M') : Fit M ([] ++ M') := h
/-- A call that gets blocks, of which only what it gives back is known. -/
theorem FnX.weak {P : Program} {f : FuncId} {args : List Value} {M A : Mem} {post post' : Value → Mem → Mem → Prop} (h : FnX P f args M A post) (hp : ∀ v M J, post v M J → post' v M J) : FnX P f args M A post' := h.mono hp
instance PickC.two {M X Y R1 R : Mem} [h1 : PickC M X R1] [h2 : PickC R1 Y R] : PickC M (X ++ Y) R := ⟨h1.perm.trans (by rw [List.append_assoc]; exact h2.perm.append_left X)⟩
instance (priority := 50) PickC.left {D M B R : Mem} [h : PickC D B R] : PickC (D ++ M) B (R ++ M) := ⟨(List.Perm.append_right M h.perm).trans (by rw [List.append_assoc])⟩
instance (priority := 60) PickC.consB {M B R1 R : Mem} {x : Nat × Obj} [h1 : PickC M [x] R1] [h2 : PickC R1 B R] : PickC M (x :: B) R := ⟨h1.perm.trans (List.Perm.cons x h2.perm)⟩
theorem uL {B B' r : Mem} {b : Nat} {o o' : Obj} (h : Upd B b o o' B') : Upd (B ++ r) b o o' (B' ++ r) := by
  induction h with
  | hd => exact .hd
  | tl _ ih => exact .tl ih
instance (priority := 50) UpC.lft {b : Nat} {o o' : Obj} {B B' r : Mem} [h : UpC B b o o' B'] : UpC (B ++ r) b o o' (B' ++ r) := ⟨uL h.upd⟩
end Go.Px
