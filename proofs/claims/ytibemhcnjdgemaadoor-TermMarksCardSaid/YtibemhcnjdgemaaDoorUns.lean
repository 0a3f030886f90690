/-
  unsafe.String of a whole row of bytes.
-/
import Derived.Test.YtibemhcnjdgemaaDoorStr
import Derived.Lib.UnsafeStr
set_option linter.unusedVariables false
set_option linter.unusedSimpArgs false
namespace Go.Px
section
variable {C : Cx} {l : Env} {M J : Mem} {K : Env → Mem → Mem → Prop} {d : Nat} {ty pt it e : TypeId} {pos : String} {af : Array Edge} {g : Option (Nat × Bool)} {x y : Operand} {b : Nat} {ws : List Nat}
theorem l_unsafeStr {M' : Mem} (hx : ev l x = some (.pointer (some ⟨b, 0, none⟩))) (hy : ev l y = some (.int .i64 ((ws.length : Nat) : Int))) (hp : C.P.underlying pt = some (.pointer e)) (hc : C.P.cellsOf e = 1) (h0 : 0 < ws.length) (h256 : ∀ x ∈ ws, x < 256) (hl : ws.length ≤ 9223372036854775807) (hd : Nat.blt d C.N = true)
    (hM : Upd M b (.cells (nums .u8 ws).toArray e (0, 0)) (.cells (nums .u8 ws).toArray e (0, ws.length)) M') (k : K ((d, .string (txt ws)) :: l) M' J) :
    OpL C ⟨some d, .call { callee := .builtin .unsafeString, args := #[x, y], argTypes := #[pt, it] }, ty, pos, af, g⟩ l M J K := by
  intro Qp a w ha hw
  have hm := hw.mem _ _ (List.mem_append_left _ hM.mem)
  have hsz := lt_of_heap hm
  have hll : (ws.map UInt8.ofNat).length = ws.length := by simp
  have hsh : w.shape? b = some (e, (nums .u8 ws).toArray.size) := by simp [World.shape?, hm]
  have hcell : ∀ j x, (ws.map UInt8.ofNat)[j]? = some x → w.cell? ((⟨b, 0, none⟩ : Addr).add j) = some (.int .u8 x.toNat) := by
    intro j x hj
    have hjl : j < ws.length := by have := (List.getElem?_eq_some_iff.1 hj).1; simpa using this
    rw [Addr.add_mid, Nat.zero_add]
    simp only [World.cell?, hm]
    simp only [List.getElem?_map, List.getElem?_eq_getElem hjl, Option.map_some, Option.some.injEq] at hj
    subst hj
    have h2 := h256 _ (List.getElem_mem hjl)
    simp [nums, hjl, Nat.mod_eq_of_lt h2]
  have hrun := Lib.run_unsafeString_row (P := C.P) w pt it ty e hp hc b _ hsh (ws.map UInt8.ofNat) (by intro h; have := congrArg List.length h; simp at this; rw [this] at h0; exact absurd h0 (by decide)) (by simp) (by simpa using hl) hcell
  rw [hll] at hrun
  have htx : (⟨(ws.map UInt8.ofNat).toArray⟩ : ByteArray) = txt ws := rfl
  rw [htx] at hrun
  have hfr : w.freeze ⟨b, 0, none⟩ ws.length = { w with heap := w.heap.setIfInBounds b (.cells (nums .u8 ws).toArray e (0, ws.length)) } := by
    unfold World.freeze
    rw [if_neg (by omega)]
    congr 1
    apply Array.ext_getElem?
    intro i
    rw [Array.getElem?_modify, Array.getElem?_setIfInBounds]
    by_cases hi : b = i
    · subst hi
      rw [hm, if_pos rfl, if_pos rfl, if_pos hsz]
      simp
    · simp [hi]
  rw [hfr] at hrun
  unfold Oper.wp
  simp only [execOp, resolve, invoke, builtin, ha.ev hx, ha.ev hy, Sem.run_bind, Sem.run_pure, Result.andThen_ok, List.map_toArray, List.map_cons, List.map_nil]
  simp only [hrun, Result.andThen_ok, Sem.run_pure]
  refine ⟨_, _, J, ha.put (blt_lt hd) _, hw.upd hM (by simp [hsz]) (fun k hk => by simp [Array.getElem?_setIfInBounds, Ne.symm hk]) (by simp) rfl rfl rfl, k⟩
theorem txt_cells {us : List Nat} (h : ∀ x ∈ us, x < 256) : List.take us.length (List.map (fun b => Value.int .u8 (b.toNat : Int)) (txt us).data.toList) = nums .u8 us := by
  have h1 : (txt us).data.toList = us.map UInt8.ofNat := by simp [txt]
  rw [h1, List.map_map, List.take_of_length_le (by simp)]
  refine List.map_congr_left fun x hx => ?_
  have := h x hx
  simp [Nat.mod_eq_of_lt this]
/-- copy of a text into the whole of an owned row of bytes. -/
theorem l_copyStr {t s' : TypeId} {m by_ : Nat} {us vs : List Nat} {e' : TypeId} {M' : Mem} (hx : ev l x = some (.slice (some ⟨b, 0, none⟩) m m)) (hy : ev l y = some (.string (txt us))) (ht : elemT C.P t = some (e, 1, by_)) (h256 : ∀ x ∈ us, x < 256)
    (hn : us.length = m) (hm : vs.length = m) (hu : Upd M b (blk (nums .u8 vs) e') (blk (nums .u8 us) e') M') (hd : Nat.blt d C.N = true) (h : K ((d, .int .i64 m) :: l) M' J) :
    OpL C ⟨some d, .call { callee := .builtin .copy, args := #[x, y], argTypes := #[t, s'] }, ty, pos, af, g⟩ l M J K := by
  intro Qp a w ha hw
  obtain ⟨i, z, hut, hi, hz, hzs, his, hib⟩ := elemT_spec ht
  have hb := hw.mem _ _ (List.mem_append_left _ hu.mem)
  have hst := run_storeCells_at (P := C.P) b 0 e' (nums .u8 us) 0 (nums .u8 vs).toArray w hb (by simp [hn, hm]) nums_one
  simp only [Nat.add_zero, Nat.zero_add, List.take_zero, List.nil_append, nums_len, hn] at hst
  rw [← nums_drop, ← nums_append, List.drop_of_length_le (by omega), List.append_nil] at hst
  have hsz : (txt us).size = m := (txt_size' us).trans hn
  have hce := txt_cells h256
  rw [hn] at hce
  have hrun : (execOp a.eval ⟨some d, .call { callee := .builtin .copy, args := #[x, y], argTypes := #[t, s'] }, ty, pos, af, g⟩).run C.P w = .ok (.value (.int .i64 m)) (w.setRow b (nums .u8 us).toArray) := by
    simp [execOp, resolve, invoke, builtin, ha.ev hx, ha.ev hy, Builtin.copy_, run_underlying hut, sizeOf, typeInfo, hi, his, Builtin.lenOf, Builtin.firstCells, hsz, hce, hst, goInt]
  unfold Oper.wp
  rw [hrun]
  exact ⟨_, M', J, ha.put (blt_lt hd) _, hw.setRow hu, h⟩
end
end Go.Px
