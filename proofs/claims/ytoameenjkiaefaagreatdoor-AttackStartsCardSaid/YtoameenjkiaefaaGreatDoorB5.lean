/- Part 5 of the texts of this claim, one behind the other. -/
import Derived.Test.YtoameenjkiaefaaGreatDoorB4
import Derived.MapKept
set_option linter.unusedVariables false
set_option linter.unusedSimpArgs false
set_option maxRecDepth 100000
namespace Go.Px
def A1I : List ByteArray → Nat → List MapEntry
  | [], _ => []
  | k :: ks, i => ⟨.string k, .int .i64 (i : Int), i⟩ :: A1I ks (i + 1)
theorem A3K : ∀ (ks : List ByteArray) (i : Nat), (A1I ks i).length = ks.length
  | [], _ => rfl
  | k :: ks, i => by simp [A1I, A3K ks]
theorem A6b : ∀ (ks : List ByteArray) (s : ByteArray) (i : Nat), A1I (ks ++ [s]) i = A1I ks i ++ [⟨.string s, .int .i64 ((i + ks.length : Nat) : Int), i + ks.length⟩]
  | [], s, i => by simp [A1I]
  | k :: ks, s, i => by
    simp only [List.cons_append, A1I, A6b ks s (i + 1), List.length_cons]
    rw [show i + 1 + ks.length = i + (ks.length + 1) by omega]
def T2 (s : ByteArray) : List ByteArray → Nat → Option Nat
  | [], _ => none
  | k :: ks, i => if s == k then some i else T2 s ks (i + 1)
theorem A4E (s : ByteArray) : ∀ (ks : List ByteArray) (i j : Nat), Instr.findNow .string (.string s) (A1I ks i) j = some ((T2 s ks i).map fun q => (q - i + j, .int .i64 (q : Int)))
  | [], i, j => rfl
  | k :: ks, i, j => by
    unfold A1I Instr.findNow T2
    simp only [Instr.sameNow]
    by_cases h : s == k
    · simp [h]
    · simp only [Bool.not_eq_true] at h
      simp only [h, Bool.false_eq_true, if_false]
      rw [A4E s ks (i + 1) (j + 1)]
      have hge : ∀ (ks : List ByteArray) (i q : Nat), T2 s ks i = some q → i ≤ q := by
        intro ks
        induction ks with
        | nil => intro i q h; cases h
        | cons k ks ih =>
          intro i q h
          unfold T2 at h
          split at h
          · cases h; exact Nat.le_refl _
          · have := ih _ _ h; omega
      cases hl : T2 s ks (i + 1) with
      | none => rfl
      | some q =>
        have := hge _ _ _ hl
        simp only [Option.map_some]
        congr 3; omega
theorem B3C {a b : ByteArray} : (a == b) = true ↔ a = b := by
  rcases a with ⟨a⟩; rcases b with ⟨b⟩
  show (a == b) = true ↔ _
  simp
theorem A26 {s : ByteArray} : ∀ {ks : List ByteArray} {i : Nat}, T2 s ks i = none ↔ s ∉ ks
  | [], i => by simp [T2]
  | k :: ks, i => by
    unfold T2
    by_cases h : s = k
    · rw [if_pos (B3C.2 h)]
      simp [h]
    · rw [if_neg (fun e => h (B3C.1 e)), A26 (ks := ks) (i := i + 1)]
      simp [h]
theorem A27 {s : ByteArray} : ∀ {ks : List ByteArray} {i q : Nat}, T2 s ks i = some q → i ≤ q ∧ ks[q - i]? = some s
  | [], i, q, h => by cases h
  | k :: ks, i, q, h => by
    unfold T2 at h
    split at h
    · rename_i he
      cases h
      have := B3C.1 he
      simp [this]
    · obtain ⟨h1, h2⟩ := A27 h
      refine ⟨by omega, ?_⟩
      rw [show q - i = (q - (i + 1)) + 1 by omega]
      simpa using h2
section
variable {P : Program} {R : Mem} {l : Env} {d : Option Nat} {ty t kt et : TypeId} {pos : String} {af : Array Edge} {g : Option (Nat × Bool)} {x y z : Operand} {b c : Nat} {s : ByteArray} {ks : List ByteArray}
theorem A6c {em : Bool} {w : World} (hk : P.underlying kt = some .string) : (Instr.checkKey em 10000 kt (.string s)).run P w = .ok () w := by
  unfold Instr.checkKey
  simp only [Sem.run_bind, run_underlying hk, Result.andThen_ok]
  rfl
theorem A8m {w : World} (hk : P.underlying kt = some .string) : (Instr.findKey kt (.string s) (A1I ks 0)).run P w = .ok ((T2 s ks 0).map fun q => (q, .int .i64 (q : Int))) w := by
  unfold Instr.findKey
  simp only [Sem.run_bind, run_underlying hk, Result.andThen_ok, A4E]
  cases T2 s ks 0 <;> simp
theorem A8n (hx : ev l x = some (.map (some b))) (hy : ev l y = some (.string s)) (hu : P.underlying t = some (.map kt et)) (hk : P.underlying kt = some .string) (hz : ∀ w, (zeroValue et).run P w = .ok (.int .i64 0) w)
    (hb : (b, Obj.map (A1I ks 0).toArray c) ∈ R) : OpQ P R ⟨d, .lookup t x y true, ty, pos, af, g⟩ l (.tuple #[.int .i64 (((T2 s ks 0).getD 0 : Nat) : Int), .bool (T2 s ks 0).isSome]) := fun N a w ha hw => by
  have hm : (getObj b).run P w = .ok (.map (A1I ks 0).toArray c) w := by simp [getObj, Sem.run, hw _ _ hb]
  simp only [execOp, ha.ev hx, ha.ev hy, Instr.lookup, Sem.run_bind, run_underlying hu, Result.andThen_ok, hm, Sem.run_pure, A6c hk]
  rw [A8m hk]
  cases T2 s ks 0 <;> simp [hz]
end
section
variable {C : Cx} {l : Env} {M J : Mem} {K : Env → Mem → Mem → Prop} {d : Nat} {ty t kt et : TypeId} {pos : String} {af : Array Edge} {g : Option (Nat × Bool)} {x y z : Operand} {b : Nat} {s : ByteArray} {ks : List ByteArray}
theorem A8o (hd : Nat.blt d C.N = true) (k : ∀ b, K ((d, .map (some b)) :: l) ((b, .map (A1I [] 0).toArray 0) :: M) J) : OpL C ⟨some d, .makeMap t none, ty, pos, af, g⟩ l M J K := by
  intro Qp a w ha hw
  unfold Oper.wp
  simp only [execOp, Option.map_none, RowKit.run_makeMap]
  exact ⟨_, _, J, ha.put (D5 hd) _, hw.alloc _, k _⟩
def A3L (ks : List ByteArray) (s : ByteArray) : List MapEntry := A1I ks 0 ++ [{ key := .string s, val := .int .i64 0, born := ks.length }]
theorem A68 {M' : Mem} (hx : ev l x = some (.map (some b))) (hy : ev l y = some (.string s)) (hu : C.P.underlying t = some (.map kt et)) (hk : C.P.underlying kt = some .string) (hz : ∀ w, (zeroValue et).run C.P w = .ok (.int .i64 0) w) (hn : T2 s ks 0 = none) (hd : Nat.blt d C.N = true)
    (hM : Upd M b (.map (A1I ks 0).toArray ks.length) (.map (A3L ks s).toArray (ks.length + 1)) M') (k : K ((d, .tuple #[.int .i64 0, .int .i64 (ks.length : Int)]) :: l) M' J) : OpL C ⟨some d, .mapEntry t x y, ty, pos, af, g⟩ l M J K := by
  intro Qp a w ha hw
  have hm := hw.mem _ _ (List.mem_append_left _ hM.mem)
  have hst : (Instr.mapEntry t (.map (some b)) (.string s)).run C.P w = .ok (.tuple #[.int .i64 0, .int .i64 (ks.length : Int)]) { w with heap := w.heap.setIfInBounds b (.map (A3L ks s).toArray (ks.length + 1)) } := by
    have hg : (getObj b).run C.P w = .ok (.map (A1I ks 0).toArray ks.length) w := by simp [getObj, Sem.run, hm]
    have hs : ∀ o, (setObj b o).run C.P w = .ok () { w with heap := w.heap.setIfInBounds b o } := fun o => by simp [setObj, Sem.run, hm]
    simp only [Instr.mapEntry, Sem.run_bind, run_underlying hu, Result.andThen_ok, hg, A6c hk]
    rw [A8m hk, hn]
    simp only [Option.map_none, Result.andThen_ok, Sem.run_bind, hz, hs, Sem.run_pure]
    simp [goInt, A3L]
  unfold Oper.wp
  simp only [execOp, ha.ev hx, ha.ev hy, hst, Sem.run_bind, Result.andThen_ok, Sem.run_pure]
  refine ⟨_, _, J, ha.put (D5 hd) _, hw.upd hM (by simp [N5 hm]) (fun k hk => by simp [Array.getElem?_setIfInBounds, Ne.symm hk]) (by simp) rfl rfl rfl, k⟩
theorem A6d (e : MapEntry) : ∀ (ks : List ByteArray) (i n : Nat), n = i + ks.length → e.born = n → (A1I ks i ++ [e]).findIdx? (fun e => (e.born : Int) == (n : Int)) = some ks.length
  | [], i, n, hn, he => by simp [A1I, List.findIdx?_cons, he]
  | k :: ks, i, n, hn, he => by
    simp only [List.length_cons] at hn
    rw [A1I, List.cons_append, List.findIdx?_cons, if_neg (by simp; omega), A6d e ks (i + 1) n (by omega) he]
    rfl
theorem A4F {M' : Mem} (hx : ev l x = some (.map (some b))) (hy : ev l y = some (.int .i64 (ks.length : Int))) (hz : ev l z = some (.int .i64 (ks.length : Int)))
    (hM : Upd M b (.map (A3L ks s).toArray (ks.length + 1)) (.map (A1I (ks ++ [s]) 0).toArray (ks.length + 1)) M') (k : K l M' J) : OpL C ⟨none, .entryStore t x y z, ty, pos, af, g⟩ l M J K := by
  intro Qp a w ha hw
  have hm := hw.mem _ _ (List.mem_append_left _ hM.mem)
  have hst : (Instr.entryStore t (.map (some b)) (.int .i64 (ks.length : Int)) (.int .i64 (ks.length : Int))).run C.P w = .ok () { w with heap := w.heap.setIfInBounds b (.map (A1I (ks ++ [s]) 0).toArray (ks.length + 1)) } := by
    have hg : (getObj b).run C.P w = .ok (.map (A3L ks s).toArray (ks.length + 1)) w := by simp [getObj, Sem.run, hm]
    have hs : ∀ o, (setObj b o).run C.P w = .ok () { w with heap := w.heap.setIfInBounds b o } := fun o => by simp [setObj, Sem.run, hm]
    have hi : (A3L ks s).toArray.findIdx? (fun e => (e.born : Int) == (ks.length : Int)) = some ks.length := by
      rw [List.findIdx?_toArray]; unfold A3L; exact A6d _ ks 0 ks.length (by omega) rfl
    have hmod : (A3L ks s).toArray.modify ks.length (fun e => { e with val := .int .i64 (ks.length : Int) }) = (A1I (ks ++ [s]) 0).toArray := by
      unfold A3L
      rw [A6b, Nat.zero_add, List.modify_toArray]
      congr 1
      rw [List.modify_eq_take_cons_drop (by simp [A3K])]
      simp [A3K, List.getElem_append_right]
    simp only [Instr.entryStore, Sem.run_bind, Result.andThen_ok, hg, asInt, asIntOf, Sem.run_pure, hi, hs, hmod]
  unfold Oper.wp
  simp only [execOp, ha.ev hx, ha.ev hy, ha.ev hz, hst, Sem.run_bind, Result.andThen_ok]
  refine ⟨_, _, J, ha, hw.upd hM (by simp [N5 hm]) (fun k hk => by simp [Array.getElem?_setIfInBounds, Ne.symm hk]) (by simp) rfl rfl rfl, k⟩
end
end Go.Px

namespace Go.Proofs.YtoameenjkiaefaaGreatDoor
open Go.Px
def Y3 (l : List Int) : List Value := l.map (.int .i64)
abbrev tmc (k : Nat) (vo : Value) (t : LN) (n : Int) : List Value := [.int .u8 (k : Int), vo, .string (txt t), .int .i64 n]

def i64 (i : Int) : Prop := -9223372036854775808 ≤ i ∧ i ≤ 9223372036854775807
structure Tmo (t : Tm) : Prop where
  kind : t.kind < 256
  n : i64 t.n
  of : ∀ i ∈ t.of, i64 i
  ofl : t.of.length ≤ 1048576
  text : B256 t.text
  tl : t.text.length ≤ 1099511627776
theorem Tmo.ok {t : Tm} (h : Tmo t) : t.ok := ⟨h.kind, by have := h.n; unfold i64 at this; omega, fun i hi => by have := h.of i hi; unfold i64 at this; omega, h.text.lt⟩
theorem A1J (l : List Int) : (Y3 l).length = l.length := by simp [Y3]
theorem A8p (l : List Int) : ∀ c ∈ Y3 l, c.oneCell' = true := fun c hc => by
  obtain ⟨i, _, rfl⟩ := List.mem_map.1 hc; rfl
def TmC (R : Mem) (c : List Value) (t : Tm) : Prop := ∃ vo, c = tmc t.kind vo t.text t.n ∧ Rd R 1 vo t.of.length (Y3 t.of)
theorem TmC.mono {R R' : Mem} {c : List Value} {t : Tm} (h : TmC R c t) (hR : ∀ x, x ∈ R → x ∈ R') : TmC R' c t := by
  obtain ⟨vo, h1, h2⟩ := h; exact ⟨vo, h1, h2.mono hR⟩
def pre (t : Tm) (i : Nat) : LN := dec t.kind ++ 32 :: decI t.n ++ (t.of.take i).flatMap (fun j => 32 :: decI j)
theorem A6e {t : Tm} {i : Nat} (h : i < t.of.length) : pre t (i + 1) = pre t i ++ (32 :: decI t.of[i]) := by
  unfold pre
  rw [List.take_add_one, List.getElem?_eq_getElem h, List.flatMap_append]
  simp
theorem B2u (t : Tm) : t.nm = pre t t.of.length ++ 58 :: t.text := by
  unfold Tm.nm pre A7L
  rw [List.take_length]
  simp [List.flatMap_map]
theorem B5X (t : Tm) (i : Nat) : B256 (pre t i) := ⟨fun x hx => by
  unfold pre at hx
  simp only [List.mem_append, List.mem_cons, List.mem_flatMap] at hx
  rcases hx with (hx | hx | hx) | ⟨j, _, hx | hx⟩
  · have := Z5 hx; omega
  · omega
  · have := A1G hx; omega
  · omega
  · have := A1G hx; omega⟩
theorem A8q {t : Tm} (h : Tmo t) : ∀ i, i ≤ t.of.length → (pre t i).length ≤ 43 + 22 * i
  | 0, _ => by
    have a := Z3 (u := t.kind) (by have := h.kind; omega)
    have b := A1H (i := t.n) (h.ok.n)
    simp only [pre, List.take_zero, List.flatMap_nil, List.append_nil, List.length_append, List.length_cons, A0E]
    omega
  | i + 1, hi => by
    have a := A8q h i qO
    have b := A1H (i := t.of[i]) (h.ok.of _ (List.getElem_mem _))
    rw [A6e qO, List.length_append, List.length_cons]
    omega
theorem nm_b {t : Tm} (h : Tmo t) : B256 t.nm := by
  rw [B2u]
  exact @B256.app _ _ (B5X _ _) (B256.cons qD h.text)
def key (t : Tm) : ByteArray := txt t.nm
theorem A8r {s t : Tm} (hs : Tmo s) (ht : Tmo t) (h : key s = key t) : s = t := Tm.nm_inj hs.ok ht.ok (A71 (nm_b hs).lt (nm_b ht).lt h)
theorem A6f {t : Tm} {ts : List Tm} (ht : Tmo t) (hts : ∀ t ∈ ts, Tmo t) : (T2 (key t) (ts.map key) 0 = none ↔ t ∉ ts) ∧ ∀ i, T2 (key t) (ts.map key) 0 = some i → ts[i]? = some t := by
  constructor
  · rw [A26, List.mem_map]
    constructor
    · exact fun h hm => h ⟨t, hm, rfl⟩
    · rintro h ⟨s, hs, e⟩
      exact h (A8r (hts s hs) ht e ▸ hs)
  · intro i h
    obtain ⟨_, h2⟩ := A27 h
    rw [Nat.sub_zero, List.getElem?_map] at h2
    cases h3 : ts[i]? with
    | none => rw [h3] at h2; cases h2
    | some s =>
      rw [h3] at h2
      have := A8r (hts s (List.mem_of_getElem? h3)) ht (by simpa using h2)
      rw [this]
def Tab (bt bm : Nat) (ts : List Tm) (M : Mem) : Prop := ∃ (v : Value) (rows : List (List Value)) (ks : List ByteArray) (Bl BX : Mem), M = (bt, blk [v, .map (some bm)] 160) :: (bm, .map (A1I ks 0).toArray ks.length) :: (Bl ++ BX) ∧ ks = ts.map key ∧ Sl 4 v ks.length rows.flatten Bl ∧ rows.length = ks.length ∧ (∀ r ∈ rows, r.length = 4) ∧ (∀ (j : Nat) (t : Tm), ts[j]? = some t → ∃ r, rows[j]? = some r ∧ TmC BX r t) ∧ (∀ t ∈ ts, Tmo t) ∧ ts.Nodup
theorem B0E (k : Nat) : decI ((k : Nat) : Int) = dec k := by simp [decI]
theorem A5w (v : Value) (n : Nat) (xs : List Value) (A : Mem) (h : Rd A 1 v n xs) (h1 : ∀ c ∈ xs, c.oneCell' = true) (hn : n ≤ 1099511627776) : FnX Tryz.prog 137 [v] [] A fun r M J => J = [] ∧ Rd M 1 r n xs := by
 haveI := h.cel
 refine FnX.enter (N := 8) Tryz.func137 rfl rfl rfl fun w => ?_
 refine A8 (C7 0) (A1 (as_ (A0 (C7 0) (A6 (A1 (mv_ ?_))))))
 refine A2 (Z2 (e := 3) rfl kR (by first | assumption | exact Sl.rd (by assumption) qI | exact By.rd (by assumption))) rfl ?_
 refine A0 (D0 0 4) ?_
 refine C3 rfl ?_ ?_ <;> intro hc
 ·
  have h0 := h.isNil hc
  subst h0
  obtain rfl : xs = [] := List.eq_nil_of_length_eq_zero (by have := h.len; omega)
  refine A1 (as_ (A0 (C7 2) (A7 (tr ?_))))
  exact ⟨_, [], [], F7 rfl rfl, List.nil_sublist _, by simp, rfl, Rd.nil⟩
 ·
  refine A5 (nx (C7 0) (A1 ?_))
  refine A4 rfl (C4 (e := 3) (sz := 1) (z := []) kR e0 bd0 rfl fun b5 => ?_)
  refine mv_ ?_
  refine A4 rfl (F6 (e := 3) (sz := 1) (by_ := 8) rfl rfl kR rfl (Sl.fresh (n := 0) (cs := []) (e := 3) rfl qD) (Rd.mono h qS) h1 qP (by unfold maxLen; omega) qO rfl fun v7 B7 hs7 => ?_)
  refine as_ (A0 (C7 2) (A7 ?_))
  exact ⟨_, B7, [], F7 rfl rfl, List.sublist_append_left _ _, by simp, rfl, A5r (hs7.rd fun _ h => h) qO qM⟩
theorem A2g (vo : Value) (t : Tm) (A : Mem) (hvo : Rd A 1 vo t.of.length (Y3 t.of)) (ht : Tmo t) {e4 : TypeId} {f4 : Nat × Nat} (h4 : (4, Obj.cells (I3 .u64 N8).toArray e4 f4) ∈ A) : FnV Tryz.prog 136 [.agg (tmc t.kind vo t.text t.n).toArray] A (.string (key t)) := by
 haveI := hvo.cel
 have hkind := ht.kind
 refine FnX.enter (N := 33) Tryz.func136 rfl rfl rfl fun w => ?_
 refine A8 (C7 0) (A1 ?_)
 refine A4 rfl (bx_ fun b1 => ?_)
 refine as_ (A0 (C7 1) ?_)
 refine G5 (.range 10) [(0, 0), (1, 1), (2, 0), (5, 0), (6, 1), (3, 2), (4, 0), (7, 2), (8, 0), (9, 0)] kR kR fun hs => ?_
 refine E8 hs rfl (qf_ 0 0) rfl ?_
 refine R5 hs rfl ql_ rfl ?_
 refine E8 hs rfl (A7Z (k' := .i64) rfl kR (by show _ < 9223372036854775808; have := ht.kind; omega)) rfl ?_
 refine E8 hs rfl (qf_ 3 3) rfl ?_
 refine R5 hs rfl ql_ rfl ?_
 refine Q2 rfl (aS rfl a0) kR (Z6 (t.kind : Int) (by have := ht.kind; omega) (by have := ht.kind; omega) _ (mA h4)) rfl ?_
 rw [B0E]
 refine E8 hs rfl (A0u (ws' := [32]) rfl rfl rfl kR (by simp only [A0E, List.length_cons, List.length_nil]; have := Z3 (u := t.kind) (by have := ht.kind; omega); omega)) rfl ?_
 refine Q2 rfl (aS rfl a0) kR (Z6 t.n ht.n.1 ht.n.2 _ (mA h4)) rfl ?_
 refine E8 hs rfl (A0u rfl rfl rfl rfl (by simp only [List.length_append, A0E, List.length_cons, List.length_nil]; have := Z3 (u := t.kind) (by have := ht.kind; omega); have := A1H (i := t.n) ht.ok.n; omega)) rfl ?_
 refine fa_ hs ?_
 rw [show dec t.kind ++ [32] ++ decI t.n = pre t 0 by simp [pre]]
 refine I2 (D0 1 3) (A6 (A1 ?_))
 refine A2 (qf_ 1 1) rfl ?_
 refine A2 ql_ rfl ?_
 refine A2 (E2 (sz := 1) rfl kR hvo) rfl ?_
 refine mv_ (A0 (G6 1 3 16 17 18) (C5 ?_))
 refine H0 (α := Nat) (fun i => [(1, (vP b1)), (3, .string (txt (pre t i))), (16, vo), (17, (vI t.of.length)), (18, .int .i64 (i : Int))]) (fun _ => [(b1, blk (tmc t.kind vo t.text t.n) 168)]) (fun _ => []) (fun i => i ≤ t.of.length) (fun i => t.of.length - i) 0 (Nat.zero_le _) (G6 1 3 16 17 18) .rfl qI ?_
 rintro i hi
 have hpl := A8q ht i hi
 have hofl := ht.ofl
 haveI := B5X t i
 refine A1 ?_
 refine A2 (F3 rfl rfl rfl) rfl ?_
 refine A0 (I7 1 3 16 17 18 19) (A6 ?_)
 refine C3 rfl ?_ ?_ <;> intro hc
 ·
  have hlt : i < t.of.length := by simp at hc; omega
  have hi64 := ht.of _ (List.getElem_mem hlt)
  have hdl := A1H (i := t.of[i]) (ht.ok.of _ (List.getElem_mem hlt))
  refine A5 (nx (G6 1 3 16 17 18) (A6 (C5 (A1 ?_))))
  refine A2 (F2 (sz := 1) rfl rfl kR rfl hvo hlt) rfl ?_
  refine A2 (L0 (u := .int .i64 t.of[i]) (Rd.mono hvo qS) rfl kR (by simp [Y3, hlt])) rfl ?_
  refine as_ (A0 (I7 1 3 5 16 17 18) (C6 (mv_ (mv_ ?_))))
  refine D7 (aS rfl a0) kR (Z6 t.of[i] hi64.1 hi64.2 _ (mA h4)) rfl ?_
  refine A2 (A0u (ws := [32]) rfl rfl kR rfl (by simp only [List.length_cons, List.length_nil]; omega)) rfl ?_
  refine A2 (A0u rfl rfl rfl rfl (by simp only [List.length_cons, List.length_append, List.length_nil]; omega)) rfl ?_
  refine as_ ?_
  rw [show pre t i ++ ([32] ++ decI t.of[i]) = pre t (i + 1) by rw [A6e hlt]; rfl]
  refine E1 (nb (nx (G6 1 3 16 17 18) (C6 ?_)))
  refine A2 (G9 (b := 1) rfl rfl rfl rfl qO) rfl ?_
  refine mv_ (E1 ?_)
  exact rn (i + 1) qO qO (G6 1 3 16 17 18) .rfl qI
 ·
  have hge : i = t.of.length := by simp at hc; omega
  subst hge
  refine G4 (te (re (be rfl (nx (D0 1 3) (A1 (mv_ ?_))))))
  refine A2 (A0u (ws' := [58]) rfl rfl rfl kR (by simp only [List.length_cons, List.length_nil]; omega)) rfl ?_
  refine A2 (qf_ 2 2) rfl ?_
  refine A2 ql_ rfl ?_
  refine A2 (A0u rfl rfl rfl rfl (by simp only [List.length_append, List.length_cons, List.length_nil]; have := ht.tl; omega)) rfl ?_
  refine as_ (A0 (C7 2) (A7 ?_))
  refine ⟨_, [], [], F7 rfl rfl, List.nil_sublist _, by simp, ?_, rfl, rfl⟩
  rw [key, B2u]; simp
theorem A8s (A : Mem) : FnX Tryz.prog 46 [] [] A fun r M J => J = [] ∧ ∃ bt bm, r = (vP bt) ∧ Tab bt bm [] M := by
 refine FnX.enter (N := 4) Tryz.func46 rfl rfl rfl fun w => ?_
 refine A8 kn (A1 (as_ (A0 kn (A1 ?_))))
 refine A4 rfl (A8o rfl fun b1 => ?_)
 refine A2 (D6 (place := fun x => #[(0, 1), (1, 1)][x]?) (z := [vS, .map none]) (fun _ => by kernel_rfl) (eS rfl e0) (bdS 1 1 rfl qR bd0)) rfl ?_
 refine A4 rfl (bx_ fun b3 => ?_)
 refine as_ (A0 (C7 0) (A7 ?_))
 exact ⟨_, [_, _], [], F7 rfl rfl, List.Sublist.refl _, by simp, rfl, b3, b1, rfl, vS, [], [], [], [], rfl, rfl, Sl.nil, rfl, (fun r h => by cases h), (fun j t h => by simp at h), (fun t h => by cases h), List.nodup_nil⟩
theorem A4G (bt bm : Nat) (ts : List Tm) (MT A : Mem) (hT : Tab bt bm ts MT) (hsub : ∀ x, x ∈ MT → x ∈ A) : FnV Tryz.prog 83 [(vP bt)] A (vI ts.length) := by
 obtain ⟨v, rows, ks, Bl, BX, rfl, hks, hsl, hrl, hr4, hat, hto, hnd⟩ := hT
 have hbt : (bt, blk [v, .map (some bm)] 160) ∈ A := hsub _ qM
 have hrd := hsl.rd (R := A) (fun x hx => hsub x (by simp [hx]))
 refine FnX.enter (N := 10) Tryz.func83 rfl rfl rfl fun w => ?_
 refine A8 (C7 0) (A1 (as_ (A0 (C7 0) (A6 (A1 (mv_ ?_))))))
 refine A2 (C9 (e := 160) rfl rfl kR) rfl ?_
 refine A0 (D0 0 4) ?_
 refine B0 rfl ?_
 refine A5 (nx (C7 0) (A1 (mv_ ?_)))
 refine A2 (D8 rfl) rfl ?_
 refine A2 (qf_ 0 0) rfl ?_
 refine A2 (G3 rfl kR (mA hbt) qR) rfl ?_
 refine A2 (E2 (sz := 4) rfl kR hrd) rfl ?_
 refine as_ (A0 (C7 2) (A7 ?_))
 refine ⟨_, [], [], F7 rfl rfl, List.nil_sublist _, by simp, ?_, rfl, rfl⟩
 rw [hks, List.length_map]
theorem X0 (bt bm : Nat) (ts : List Tm) (i : Int) (MT A : Mem) (hT : Tab bt bm ts MT) (hsub : ∀ x, x ∈ MT → x ∈ A) : FnX Tryz.prog 108 [(vP bt), .int .i64 i] [] A fun r M J => M = [] ∧ J = [] ∧ ∃ c ok, r = .tuple #[.agg (List.toArray c), .bool ok] ∧ ((0 ≤ i ∧ i < (ts.length : Int)) → ok = true ∧ ∃ t, ts[i.toNat]? = some t ∧ TmC A c t) ∧ (¬ (0 ≤ i ∧ i < (ts.length : Int)) → ok = false ∧ c = tmc 0 (vS) [] 0) := by
 obtain ⟨v, rows, ks, Bl, BX, rfl, hks, hsl, hrl, hr4, hat, hto, hnd⟩ := hT
 have hbt : (bt, blk [v, .map (some bm)] 160) ∈ A := hsub _ qM
 have hrd := hsl.rd (R := A) (fun x hx => hsub x (by simp [hx]))
 have hkl : ks.length = ts.length := by rw [hks, List.length_map]
 refine FnX.enter (N := 29) Tryz.func108 rfl rfl rfl fun w => ?_
 refine A8 (D0 0 1) (A1 ?_)
 refine A4 rfl (D2 (cs := [.int .u8 0, vS, .string ByteArray.empty, .int .i64 0]) kR rfl fun b4 => ?_)
 refine as_ (A0 (E5 0 1 4) (A6 (A1 (mv_ ?_))))
 refine A2 (C9 (e := 160) rfl rfl kR) rfl ?_
 refine mv_ ?_
 refine C0 rfl rfl (OpQ.opL qm_ rfl ?_)
 refine C0 rfl rfl (OpQ.opL (F3 rfl rfl rfl) rfl ?_)
 refine A2 (C8 rfl rfl) rfl ?_
 refine mv_ ?_
 refine H4 (t := 12) rfl (fun hb => ?_) (fun hb => ?_)
 ·
  have hlt0 : i < 0 := by simpa using hb
  refine D1 rfl rfl rfl rfl ?_
  refine D1 rfl rfl rfl rfl ?_
  refine D1 rfl rfl rfl rfl ?_
  refine D1 rfl rfl rfl rfl ?_
  refine D1 rfl rfl rfl rfl ?_
  refine D1 rfl rfl rfl rfl ?_
  refine D1 rfl rfl rfl rfl ?_
  refine A2 (E3 rfl rfl) rfl ?_
  refine A0 (F4 0 1 4 20) ?_
  refine E9 rfl ?_
  refine A1 ?_
  refine A2 (D6 (place := fun x => #[(0, 1), (1, 1), (2, 1), (3, 1)][x]?) (z := [.int .u8 0, vS, .string ByteArray.empty, .int .i64 0]) (fun _ => by kernel_rfl) e0 bd0) rfl ?_
  refine A4 rfl (B8 rfl rfl Cel.cel kR ln4 al4 UpC.upd ?_)
  refine as_ (A0 (D0 4 5) (A7 (tr ?_)))
  refine ⟨_, [], [], W0 rfl rfl rfl kR At.mem qR, List.nil_sublist _, by simp, rfl, rfl, _, _, rfl, (fun h => absurd h.1 qO), fun _ => ⟨rfl, rfl⟩⟩
 ·
  have hge0 : 0 ≤ i := by simpa using hb
  obtain ⟨n, rfl⟩ := Int.eq_ofNat_of_zero_le hge0
  refine C0 rfl rfl (OpQ.opL qm_ rfl ?_)
  refine C0 rfl rfl (OpQ.opL qm_ rfl ?_)
  refine C0 rfl rfl (OpQ.opL (D8 rfl) rfl ?_)
  refine C0 rfl rfl (OpQ.opL (qf_ 0 0) rfl ?_)
  refine C0 rfl rfl (OpQ.opL (G3 rfl kR (mA hbt) qR) rfl ?_)
  refine C0 rfl rfl (OpQ.opL (E2 (sz := 4) rfl kR hrd) rfl ?_)
  refine C0 rfl rfl (OpQ.opL (F3 rfl rfl rfl) rfl ?_)
  refine A2 (C8 rfl rfl) rfl ?_
  refine A0 (F4 0 1 4 20) ?_
  refine C3 rfl ?_ ?_ <;> intro hc
  ·
   have hge : ts.length ≤ n := by simp at hc; omega
   refine A1 ?_
   refine A2 (D6 (place := fun x => #[(0, 1), (1, 1), (2, 1), (3, 1)][x]?) (z := [.int .u8 0, vS, .string ByteArray.empty, .int .i64 0]) (fun _ => by kernel_rfl) e0 bd0) rfl ?_
   refine A4 rfl (B8 rfl rfl Cel.cel kR ln4 al4 UpC.upd ?_)
   refine as_ (A0 (D0 4 5) (A7 (tr ?_)))
   refine ⟨_, [], [], W0 rfl rfl rfl kR At.mem qR, List.nil_sublist _, by simp, rfl, rfl, _, _, rfl, (fun h => absurd h.2 qO), fun _ => ⟨rfl, rfl⟩⟩
  ·
   have hlt : n < ts.length := by simp at hc; omega
   obtain ⟨r, hr, hcr⟩ := hat n ts[n] (List.getElem?_eq_getElem hlt)
   obtain ⟨vo, rfl, hvo⟩ := hcr
   refine A5 (nx (E5 0 1 4) (A1 (mv_ ?_)))
   refine A2 (D8 rfl) rfl ?_
   refine A2 (qf_ 0 0) rfl ?_
   refine A2 (G3 rfl kR (mA hbt) qR) rfl ?_
   refine mv_ ?_
   refine A2 (F2 (sz := 4) rfl rfl kR rfl hrd qO) rfl ?_
   refine A2 (U4 rfl kR (hrd.mono fun _ h => mA h) hr4 qD hr) rfl ?_
   refine A4 rfl (B8 rfl rfl rfl kR qR (by intro c hc; simp only [List.mem_cons, List.not_mem_nil, or_false] at hc; rcases hc with rfl | rfl | rfl | rfl <;> first | rfl | exact Rd.one hvo) UpC.upd ?_)
   refine as_ (A0 (D0 4 5) (A7 ?_))
   refine ⟨_, [], [], W0 rfl rfl rfl kR At.mem qR, List.nil_sublist _, by simp, rfl, rfl, _, _, rfl, (fun _ => ⟨rfl, ts[n], by simp [hlt], vo, rfl, hvo.mono fun x hx => hsub x (by simp [hx])⟩), fun h => absurd ⟨Int.natCast_nonneg n, by omega⟩ h⟩

end Go.Proofs.YtoameenjkiaefaaGreatDoor
namespace Go.Px
theorem K2 {C : Cx} {Q : XQ} {l : Env} {M J : Mem} {os : List Oper} {K : Nat → Prop} {n0 : Nat} {nd : List Nat} {plan : List (Nat × Nat)} {i : Nat} {o : Oper} (hget : nth os i = some o) (hg : o.guard = none) (hnd : nd.contains i = false) (h : OpL C o l M J (fun l' M' J' => XK C os Q K 0 nd plan l' M' J')) : XK C os Q K n0 nd ((i, 2) :: plan) l M J := by
  have h1 := A75 hget (fun a ha => by simp [Region.wanted, hg]) hnd h
  exact fun listed hcl hp a w ha hw _ => h1 listed hcl hp a w ha hw (Nat.zero_le _)
end Go.Px

namespace Go.Proofs.YtoameenjkiaefaaGreatDoor
open Go.Px
instance (priority := low) SubC.union {X Y Z : Mem} [h1 : SubC X Z] [h2 : SubC Y Z] : SubC (X ++ Y) Z := ⟨fun x h => (List.mem_append.1 h).elim (h1.sub x) (h2.sub x)⟩
instance (priority := low) SubC.consC {b : Nat} {o : Obj} {X Z : Mem} [h1 : At Z b o] [h2 : SubC X Z] : SubC ((b, o) :: X) Z := ⟨fun x h => (List.mem_cons.1 h).elim (fun h => h ▸ h1.mem) (h2.sub x)⟩
theorem B3D {B M X : Mem} {x y z : Nat × Obj} : Fit ((B ++ []) ++ (M ++ (x :: y :: z :: X))) (y :: z :: (B ++ (M ++ X))) := ⟨x :: (y :: z :: (B ++ (M ++ X))), by
  rw [List.append_nil, ← List.append_assoc]
  exact (List.perm_append_comm_assoc (B ++ M) [x, y, z] X).trans qM, .cons _ (List.Sublist.refl _)⟩
def pos (ts : List Tm) (t : Tm) : Option Nat := T2 (key t) (ts.map key) 0
def at_ (ts : List Tm) (t : Tm) : Nat := (pos ts t).getD ts.length
def add (ts : List Tm) (t : Tm) : List Tm := if (pos ts t).isSome then ts else ts ++ [t]
theorem A8t {n : Nat} {cs : List Value} {e : TypeId} : B0u fun v R => ∃ b, v = .slice (some ⟨b, 0, none⟩) n n ∧ (b, Obj.cells cs.toArray e (0, 0)) ∈ R := fun _ _ _ h ⟨b, e, hb⟩ => ⟨b, e, h _ hb⟩
theorem A3M {ts : List Tm} {t : Tm} (ht : Tmo t) (hts : ∀ t ∈ ts, Tmo t) {i : Nat} (h : pos ts t = some i) : ts[i]? = some t := (A6f ht hts).2 i h
theorem A1K {ts : List Tm} {t : Tm} (ht : Tmo t) (hts : ∀ t ∈ ts, Tmo t) : pos ts t = none ↔ t ∉ ts := (A6f ht hts).1
theorem B2v {ts : List Tm} (hts : ∀ t ∈ ts, Tmo t) (hnd : ts.Nodup) {t : Tm} {i : Nat} (h : ts[i]? = some t) : pos ts t = some i := by
  have hm : t ∈ ts := List.mem_of_getElem? h
  cases hp : pos ts t with
  | none => exact absurd hm ((A1K (hts t hm) hts).1 hp)
  | some j =>
    have hj := A3M (hts t hm) hts hp
    have a := List.getElem?_eq_some_iff.1 h
    have b := List.getElem?_eq_some_iff.1 hj
    obtain ⟨a1, a2⟩ := a
    obtain ⟨b1, b2⟩ := b
    have hpw := List.pairwise_iff_getElem.1 hnd
    rcases Nat.lt_trichotomy i j with h1 | h1 | h1
    · exact absurd (a2.trans b2.symm) (hpw i j a1 b1 h1)
    · rw [h1]
    · exact absurd (b2.trans a2.symm) (hpw j i b1 a1 h1)
theorem A69 (bt bm : Nat) (ts : List Tm) (vo : Value) (t : Tm) (MT A : Mem) (hT : Tab bt bm ts MT) (hsub : ∀ x, x ∈ MT → x ∈ A) (hvo : Rd A 1 vo t.of.length (Y3 t.of)) (ht : Tmo t) {e4 : TypeId} {f4 : Nat × Nat} (h4 : (4, Obj.cells (I3 .u64 N8).toArray e4 f4) ∈ A) : FnV Tryz.prog 163 [(vP bt), .agg (tmc t.kind vo t.text t.n).toArray] A (.tuple #[.int .i64 (((pos ts t).getD 0 : Nat) : Int), .bool (pos ts t).isSome]) := by
 obtain ⟨v, rows, ks, Bl, BX, rfl, hks, hsl, hrl, hr4, hat, hto, hnd⟩ := hT
 have hbt : (bt, blk [v, .map (some bm)] 160) ∈ A := hsub _ qM
 have hbm : (bm, Obj.map (A1I ks 0).toArray ks.length) ∈ A := hsub _ qM
 have hkind := ht.kind
 refine FnX.enter (N := 22) Tryz.func163 rfl rfl rfl fun w => ?_
 refine A8 (D0 0 1) (A1 ?_)
 refine A4 rfl (bx_ fun b3 => ?_)
 refine as_ (as_ (A0 (D0 0 3) (A6 (A1 (mv_ ?_)))))
 refine A2 (C9 (e := 160) rfl rfl kR) rfl ?_
 refine A0 (E5 0 3 9) ?_
 refine B0 rfl ?_
 refine A5 (nx (D0 0 3) ?_)
 refine G5 [0, 1, 2, 3, 4, 5, 7, 8, 9, 10, 11] (zp 0 [0, 0, 0, 1, 1, 2, 2, 0, 0, 0, 0, 0]) kR kR fun hs => ?_
 refine fm_ hs ?_
 refine E8 hs rfl (D8 rfl) rfl ?_
 refine E8 hs rfl (qf_ 1 1) rfl ?_
 refine R5 hs rfl (G3 rfl kR (mA hbt) qR) rfl ?_
 refine R5 hs rfl (qw_ 4) rfl ?_
 refine Q2 rfl (aS rfl a0) kR (A2g vo t _ (hvo.mono fun _ h => mA h) ht (mA h4)) rfl ?_
 refine L7 rfl rfl rfl (OpQ.opL (A8n (kt := 9) (et := 3) rfl rfl kR kR (fun _ => by rfl) (mA hbm)) rfl ?_)
 refine fm_ hs ?_
 refine E8 hs rfl (R6 rfl) rfl ?_
 refine E8 hs rfl (R4 rfl) rfl ?_
 refine fa_ hs ?_
 refine fa_ hs ?_
 refine I2 (D0 6 7) (A1 (mv_ (mv_ (as_ (as_ (A0 (D0 4 5) (A7 ?_)))))))
 refine ⟨_, [], [], A1g rfl rfl rfl, List.nil_sublist _, by simp, ?_, rfl, rfl⟩
 rw [hks]; rfl
theorem N1 (bt bm : Nat) (ts : List Tm) (vo : Value) (t : Tm) (MT A : Mem) (hT : Tab bt bm ts MT) (hlen : ts.length ≤ 1048576) (hvo : Rd A 1 vo t.of.length (Y3 t.of)) (ht : Tmo t) {e4 : TypeId} {f4 : Nat × Nat} (h4 : (4, Obj.cells (I3 .u64 N8).toArray e4 f4) ∈ A) : FnX Tryz.prog 96 [(vP bt), .agg (tmc t.kind vo t.text t.n).toArray] MT A fun r M J => J = [] ∧ r = .int .i64 ((at_ ts t : Nat) : Int) ∧ Tab bt bm (add ts t) M := by
  obtain ⟨v, rows, ks, Bl, BX, rfl, hks, hsl, hrl, hr4, hat, hto, hnd⟩ := hT
  have hkind := ht.kind
  haveI := hvo.cel
  refine FnX.enter (N := 50) Tryz.func96 rfl rfl rfl fun w => ?_
  refine A8 (D0 0 1) (A1 ?_)
  refine A4 rfl (bx_ fun b3 => ?_)
  refine as_ (A0 (D0 0 3) (A6 (A1 (mv_ ?_))))
  refine A2 (C9 (e := 160) rfl rfl kR) rfl ?_
  refine A0 (E5 0 3 8) ?_
  refine B0 rfl ?_
  refine A5 (nx (D0 0 3) ?_)
  refine G5 [0, 1, 2, 3, 4, 5, 7, 8, 9, 10, 11] (zp 0 [0, 0, 0, 1, 1, 2, 2, 0, 0, 0, 0, 0]) kR kR fun hs => ?_
  refine fm_ hs ?_
  refine E8 hs rfl (D8 rfl) rfl ?_
  refine E8 hs rfl (qf_ 1 1) rfl ?_
  refine R5 hs rfl ql_ rfl ?_
  refine R5 hs rfl (qw_ 4) rfl ?_
  refine Q2 rfl (aS rfl a0) kR (A2g vo t _ (hvo.mono fun _ h => mA h) ht (mA h4)) rfl ?_
  refine L7 rfl rfl rfl (OpQ.opL (A8n (kt := 9) (et := 3) rfl rfl kR kR (fun _ => by rfl) At.mem) rfl ?_)
  refine fm_ hs ?_
  refine E8 hs rfl (R6 rfl) rfl ?_
  refine E8 hs rfl (R4 rfl) rfl ?_
  refine fa_ hs ?_
  refine fa_ hs ?_
  refine I2 (F4 0 3 5 6) ?_
  refine P2 (α := Mem) (fun _ => [(5, .int .i64 ((at_ ts t : Nat) : Int))]) (fun M => M) (fun _ => []) (fun M => Tab bt bm (add ts t) M) ?_ ?_
  ·
    refine A1 (mv_ ?_)
    refine A2 (L6 rfl) rfl ?_
    refine A0 (F4 0 3 5 20) ?_
    refine C3 rfl ?_ ?_ <;> intro hc
    ·
      have hnm : pos ts t = none := by
        cases hp : pos ts t with
        | none => rfl
        | some j => rw [hks] at hc; rw [show T2 (key t) (ts.map key) 0 = some j from hp] at hc; cases hc
      have hnk : T2 (key t) ks 0 = none := by rw [hks]; exact hnm
      have hkl : ks.length = ts.length := by rw [hks, List.length_map]
      refine A1 (mv_ ?_)
      refine A2 (D8 rfl) rfl ?_
      refine A2 (qf_ 0 0) rfl ?_
      refine A2 ql_ rfl ?_
      refine A2 (E2 (sz := 4) rfl kR (hsl.rd (R := Bl) fun _ h => h)) rfl ?_
      refine as_ (A0 (E5 0 3 5) (A1 ?_))
      refine A2 (qf_ 1 1) rfl ?_
      refine A2 ql_ rfl ?_
      refine E0 (aS rfl a0) kR (A5w vo t.of.length (Y3 t.of) _ (hvo.mono fun _ h => mA h) (A8p _) (by have := ht.ofl; omega)) rfl ?_
      rintro v28 M28 J28 ⟨rfl, hv28⟩
      haveI := hv28.cel
      refine A2 (qf_ 1 1) rfl ?_
      refine A4 rfl (F8 rfl rfl hv28.one kR SetC.set UpC.upd ?_)
      refine A0 (E5 0 3 5) ?_
      refine W7 (Bl) (_) true [0, 1, 2, 3, 4, 5, 6, 7, 8, 9, 10, 11, 12, 13, 14, 15, 16, 19] [(0, 0), (1, 0), (2, 0), (3, 0), (4, 1), (5, 1), (7, 0), (8, 0), (9, 0), (10, 1), (11, 1), (14, 0), (6, 3), (12, 4), (13, 2), (15, 0), (16, 0), (17, 2), (18, 2), (19, 0), (20, 2)] kR kR qP fun hs K n0 hKm hKs hKn => ?_
      refine km_ hs ?_
      refine km_ hs ?_
      refine F1 hs rfl (D8 rfl) rfl ?_
      refine F1 hs rfl (qf_ 1 1) rfl ?_
      refine I1 hs rfl hKs ql_ ?_
      refine I1 hs rfl hKs (qw_ 4) ?_
      refine km_ hs ?_
      refine F1 hs rfl (D8 rfl) rfl ?_
      refine F1 hs rfl (qf_ 0 0) rfl ?_
      refine I1 hs rfl hKs ql_ ?_
      refine I1 hs rfl hKs (qw_ 4) ?_
      refine km_ hs ?_
      refine B0w [⟨6, 36, fun v _ => v = .string (key t)⟩, ⟨12, 42, fun v R => ∃ b, v = .slice (some ⟨b, 0, none⟩) 1 1 ∧ (b, Obj.cells (tmc t.kind v28 t.text t.n).toArray 168 (0, 0)) ∈ R⟩]
        (A3 B3n (A3 A8t (H9))) (show List.Nodup [36, 42] by decide) (show List.Nodup [6, 12] by decide) (A3 (D5 rfl) (A3 (D5 rfl) (H9)))
        (A3 ⟨_, rfl, fun vs R w hb ha => ⟨.inl rfl, ?_⟩⟩ (A3 ⟨_, rfl, fun vs R w hb ha => ⟨.inl rfl, ?_⟩⟩ (H9))) ?_
      ·
        exact X3 (aS rfl a0) kR (A2g v28 t _ (hv28.mono fun _ h => hb _ (by simp [h])) ht (hb _ (mA h4))) rfl ⟨_, rfl, rfl⟩
      ·
        exact C4 (e := 168) (sz := 4) (z := [.int .u8 0, vS, .string ByteArray.empty, .int .i64 0]) kR (eS rfl e0) (.cons rfl rfl qR (SetR.all qR) .nil) rfl fun b => ⟨_, rfl, b, rfl, List.mem_append_left _ qK⟩
      intro vs Jn0 hφ
      have g6 := ofH hφ
      dsimp only at g6
      replace hφ := ofT hφ
      have g12 := ofH hφ
      dsimp only at g12
      clear hφ
      dsimp only [A13, List.map, List.cons_append, List.nil_append]
      generalize vs 6 = u36 at *
      generalize vs 12 = u42 at *
      subst g6
      obtain ⟨b42, rfl, hb42⟩ := g12
      have hl42 := Rd.whole (sz := 4) (n := 1) hb42 qR
      refine F9 _ _ rfl rfl (List.Perm.refl _) hKm fun w0 => (F6 (e := 168) (sz := 4) (by_ := 56) rfl rfl kR rfl hsl (hl42.mono fun x hx => by simpa only [List.append_assoc, List.nil_append, List.append_nil] using hx) (by intro c hc; simp only [List.mem_cons, List.not_mem_nil, or_false] at hc; rcases hc with rfl | rfl | rfl | rfl <;> first | rfl | exact hv28.one) (by rw [List.append_nil]) (by unfold maxLen; omega) qO rfl fun v43 B43 hs43 => fun _ => ?_)
      refine F1 hs rfl (D8 rfl) rfl ?_
      refine F1 hs rfl (qf_ 0 0) rfl ?_
      refine K2 rfl rfl rfl (F8 rfl rfl hs43.one kR SetC.set UpC.upd ?_)
      refine K2 rfl rfl rfl (A68 (kt := 9) (et := 3) rfl rfl kR kR (fun _ => by rfl) hnk rfl UpC.upd ?_)
      refine F1 hs rfl (R4 rfl) rfl ?_
      refine K2 rfl rfl rfl (A4F (ks := ks) (s := key t) rfl qR qR UpC.upd ?_)
      refine A1Y ?_
      have hat_ : at_ ts t = ks.length := by unfold at_; rw [hnm, hkl]; rfl
      have hadd : add ts t = ts ++ [t] := by unfold add; rw [hnm]; rfl
      refine jn (_ :: _ :: (B43 ++ (M28 ++ BX))) ⟨v43, rows ++ [tmc t.kind v28 t.text t.n], ks ++ [key t], B43, M28 ++ BX, rfl, by rw [hadd, hks]; simp, (by rw [show (rows ++ [tmc t.kind v28 t.text t.n]).flatten = rows.flatten ++ tmc t.kind v28 t.text t.n by simp, List.length_append]; exact hs43), by simp [hrl], ?_, ?_, ?_, ?_⟩ (kp 5 (by rw [hat_]; rfl) kn) ?_ (fun _ h => by cases h)
      · intro r hr
        rcases List.mem_append.1 hr with hr | hr
        · exact hr4 r hr
        · rw [List.mem_singleton.1 hr]; rfl
      · intro j u hj
        rw [hadd] at hj
        by_cases hlt : j < ts.length
        · rw [List.getElem?_append_left hlt] at hj
          obtain ⟨r, hr, hcr⟩ := hat j u hj
          exact ⟨r, by rw [List.getElem?_append_left qO]; exact hr, hcr.mono fun x hx => List.mem_append_right _ hx⟩
        · rw [List.getElem?_append_right qO] at hj
          have hj0 : j = ts.length := by
            have := (List.getElem?_eq_some_iff.1 hj).1
            simp at this; omega
          subst hj0
          simp at hj
          subst hj
          exact ⟨_, by rw [List.getElem?_append_right qO, show ts.length - rows.length = 0 by omega]; rfl, v28, rfl, hv28.mono fun x hx => List.mem_append_left _ hx⟩
      · intro u hu
        rw [hadd] at hu
        rcases List.mem_append.1 hu with hu | hu
        · exact hto u hu
        · rw [List.mem_singleton.1 hu]; exact ht
      · rw [hadd, List.nodup_append]
        refine ⟨hnd, by simp, fun x hx y hy e => (A1K ht hto).1 hnm ?_⟩
        rw [List.mem_singleton.1 hy] at e
        exact e ▸ hx
      · rw [List.length_append]; exact B3D
    ·
      have hsm : (pos ts t).isSome = true := by
        cases hp : pos ts t with
        | some j => rfl
        | none => rw [hks] at hc; rw [show T2 (key t) (ts.map key) 0 = none from hp] at hc; cases hc
      refine A5 ?_
      have hpl : T2 (key t) ks 0 = pos ts t := by rw [hks]; rfl
      have hadd : add ts t = ts := by unfold add; rw [hsm]; rfl
      refine jn _ ⟨v, rows, ks, Bl, BX, rfl, by rw [hadd, hks], hsl, hrl, hr4, by rw [hadd]; exact hat, by rw [hadd]; exact hto, by rw [hadd]; exact hnd⟩ (kp 5 (by rw [hpl]; unfold at_; cases hq : pos ts t with | none => rw [hq] at hsm; cases hsm | some j => rfl) kn) (Fit.sub (.cons _ (List.Sublist.refl _))) qI
  ·
    rintro M hM
    refine A1 (mv_ (as_ (A0 (C7 4) (A7 ?_))))
    exact ⟨_, _, _, F7 rfl rfl, List.Sublist.refl _, fun _ h => h, rfl, rfl, hM⟩

def tmEq (a b : Tm) : Bool := a.kind == b.kind && a.n == b.n && a.text == b.text && a.of == b.of
end Go.Proofs.YtoameenjkiaefaaGreatDoor
namespace Go.Px
section
variable {P : Program} {R R' : Mem} {l : Env} {d : Option Nat} {ty t : TypeId} {pos : String} {af : Array Edge} {g : Option (Nat × Bool)} {x y : Operand} {v u : Value} {sz n a off j : Nat} {xs : List Value}
theorem A8u {f : Nat} {s : TypeId} (hx : ev l x = some (vAt sz a v)) (h : Rd R' sz v n xs) (ha : a < n) (hf : A0Q P s f = some off) : OpQ P R ⟨d, .fieldAddr s x f, ty, pos, af, g⟩ l (vAt 1 (a * sz + off) v) := by
  obtain ⟨p, c, rfl, h2, h3, h4⟩ := h
  rcases h4 with h4 | ⟨b, o, cs, e', fr, rfl, hb, hx'⟩
  · omega
  · simp only [vAt, Addr.add_mid, Nat.mul_one] at hx ⊢
    exact A1q _ hx hf qO
theorem A8v (hx : ev l x = some (vAt 1 j v)) (h : Rd R sz v n xs) (hn : 0 < n) (ht : V9 P t = true) (hj : xs[j]? = some u) : OpQ P R ⟨d, .load t x, ty, pos, af, g⟩ l u := by
  obtain ⟨p, c, rfl, h2, h3, h4⟩ := h
  rcases h4 with h4 | ⟨b, o, cs, e', fr, rfl, hb, hx'⟩
  · omega
  · simp only [vAt, Addr.add_mid] at hx
    refine G3 (b := b) (o := o + j * 1) hx ht hb ?_
    rw [Nat.mul_one]; exact hx' j u hj
end
end Go.Px
namespace Go.Proofs.YtoameenjkiaefaaGreatDoor
open Go.Px
structure TmI (t : Tm) : Prop where
  kind : t.kind < 256
  n : i64 t.n
  of : ∀ i ∈ t.of, i64 i
  ofl : t.of.length ≤ maxLen
  text : B256 t.text
  tl : t.text.length ≤ maxLen
def Rws (R : Mem) (rows : List (List Value)) (ts : List Tm) : Prop := rows.length = ts.length ∧ (∀ r ∈ rows, r.length = 4) ∧ ∀ (j : Nat) (t : Tm), ts[j]? = some t → ∃ r, rows[j]? = some r ∧ TmC R r t
theorem Rws.get {R : Mem} {rows : List (List Value)} {ts : List Tm} (h : Rws R rows ts) {j : Nat} {r : List Value} (hr : rows[j]? = some r) {k : Nat} (hk : k < 4) : rows.flatten[j * 4 + k]? = r[k]? := A0j h.2.1 hr k hk
def fnd (ts : List Tm) (t : Tm) (k : Nat) : Int := match pos ts t with
  | some j => if j < k then (j : Int) else -1
  | none => -1
theorem W2 {ts : List Tm} {t : Tm} : (add ts t).length ≤ ts.length + 1 := by unfold add; split <;> simp
structure Pst where
  i : Nat
  ts : List Tm
  v : Value
  rows : List (List Value)
  B : Mem
  MT : Mem
structure Pok (A : Mem) (bt bm n : Nat) (s : Pst) : Prop where
  hi : s.i ≤ n
  hl : s.ts.length ≤ s.i
  tab : Tab bt bm s.ts s.MT
  sl : Sl 4 s.v s.ts.length s.rows.flatten s.B
  rw_ : Rws A s.rows s.ts

def u64 (i : Int) : Nat := (i % 18446744073709551616).toNat
def byt (i : Int) (k : Nat) : Nat := (i / ((256 ^ k : Nat) : Int) % 256).toNat
theorem B8h (i : Int) {k : Nat} (hk : k < 8) : byt i k = u64 i / 256 ^ k % 256 := by
  unfold byt u64
  rcases (show k = 0 ∨ k = 1 ∨ k = 2 ∨ k = 3 ∨ k = 4 ∨ k = 5 ∨ k = 6 ∨ k = 7 by omega) with rfl | rfl | rfl | rfl | rfl | rfl | rfl | rfl <;> simp only [Nat.reducePow] <;> omega
theorem B5Y (i : Int) (k : Nat) : byt i k < 256 := by unfold byt; omega
theorem B5Z (i : Int) : u64 i < 18446744073709551616 := by unfold u64; omega
def btk (i : Int) (k : Nat) : LN := 84 :: ((List.range k).map (byt i) ++ List.replicate (31 - k) 0)
def bts (i : Int) : LN := btk i 8
theorem W3 (i : Int) {k : Nat} (h : k ≤ 31) : (btk i k).length = 32 := by simp [btk]; omega
theorem B0F (i : Int) {k : Nat} (h : k < 31) : (btk i k).set (1 + k) (byt i k) = btk i (k + 1) := by
  unfold btk
  rw [show 1 + k = k + 1 by omega, List.set_cons_succ, List.set_append_right _ _ qM, List.range_succ, List.map_append]
  simp only [List.length_map, List.length_range, Nat.sub_self]
  rw [show 31 - k = (31 - (k + 1)) + 1 by omega, List.replicate_succ, List.set_cons_zero]
  simp
theorem B3E (i : Int) {k : Nat} (h : k < 8) : (bts i).getD (1 + k) 0 = byt i k := by
  unfold bts btk
  rw [show 1 + k = k + 1 by omega, List.getD_cons_succ, List.getD_eq_getElem?_getD, List.getElem?_append_left (by simpa using h)]
  simp [h]
theorem A7a (i : Int) : ∀ x ∈ bts i, x < 256 := by
  intro x hx
  simp only [bts, btk, List.mem_cons, List.mem_append, List.mem_map, List.mem_replicate] at hx
  rcases hx with rfl | ⟨k, _, rfl⟩ | ⟨_, rfl⟩
  · decide
  · exact B5Y i k
  · decide
def le8 (ws : LN) : Nat → Nat
  | 0 => 0
  | k + 1 => le8 ws k + ws.getD (1 + k) 0 * 256 ^ k
theorem A3N {ws : LN} (h : ∀ x ∈ ws, x < 256) (j : Nat) : ws.getD j 0 < 256 := by
  rw [List.getD_eq_getElem?_getD]
  cases hj : ws[j]? with
  | none => decide
  | some x => exact h x (List.mem_of_getElem? hj)
theorem A8w {ws : LN} (h : ∀ x ∈ ws, x < 256) : ∀ k, le8 ws k < 256 ^ k
  | 0 => by show 0 < 1; decide
  | k + 1 => by
    have h1 := A8w h k
    have h2 := A3N h (1 + k)
    have h3 : ws.getD (1 + k) 0 * 256 ^ k ≤ 255 * 256 ^ k := Nat.mul_le_mul_right _ qO
    unfold le8
    rw [Nat.pow_succ]; omega
theorem A8x (i : Int) : ∀ k, k ≤ 8 → le8 (bts i) k = u64 i % 256 ^ k
  | 0, _ => by simp [le8, Nat.mod_one]
  | k + 1, h => by
    rw [le8, A8x i k qO, B3E i qO, B8h i qO, Nat.pow_succ, Nat.mod_mul, Nat.mul_comm (256 ^ k)]
def plc (ws : LN) (n : Nat) : Option Nat := if 32 ≤ ws.length ∧ ws.getD 0 0 = 84 ∧ (∀ c ∈ ws.drop 9, c = 0) ∧ le8 ws 8 < n then some (le8 ws 8) else none
theorem A4H {ws : LN} {n : Nat} (h : ¬ (32 ≤ ws.length ∧ ws.getD 0 0 = 84 ∧ (∀ c ∈ ws.drop 9, c = 0) ∧ le8 ws 8 < n)) : plc ws n = none := if_neg h
theorem A8y {ws : LN} {n : Nat} (h : 32 ≤ ws.length ∧ ws.getD 0 0 = 84 ∧ (∀ c ∈ ws.drop 9, c = 0) ∧ le8 ws 8 < n) : plc ws n = some (le8 ws 8) := if_pos h
theorem A6g {ws : LN} {n : Nat} (h : plc ws n = none) : Value.tuple #[.int .i64 0, .bool false] = .tuple #[.int .i64 (((plc ws n).getD 0 : Nat) : Int), .bool (plc ws n).isSome] := by rw [h]; rfl
theorem B50 {ws : LN} {n m : Nat} (h : plc ws n = some m) : Value.tuple #[.int .i64 (m : Int), .bool true] = .tuple #[.int .i64 (((plc ws n).getD 0 : Nat) : Int), .bool (plc ws n).isSome] := by rw [h]; rfl
theorem B3F {ws : LN} {n : Nat} (h : ws.length < 32) : plc ws n = none := A4H fun h' => absurd h'.1 qO
theorem B51 {ws : LN} {n : Nat} (h : ws.getD 0 0 ≠ 84) : plc ws n = none := A4H fun h' => h h'.2.1
theorem B52 {ws : LN} {n j : Nat} (hj : j < (ws.drop 9).length) (h : (ws.drop 9).getD j 0 ≠ 0) : plc ws n = none := A4H fun h' => h (h'.2.2.1 _ (by rw [List.getD_eq_getElem?_getD, List.getElem?_eq_getElem hj]; exact List.getElem_mem hj))
theorem B54 {ws : LN} {n m : Nat} (h8 : le8 ws 8 = m) (h : n ≤ m) : plc ws n = none := A4H fun h' => by
  have := h'.2.2.2
  rw [h8] at this
  exact absurd this (Nat.not_lt.2 h)
theorem B0G {ws : LN} {n m : Nat} (h8 : le8 ws 8 = m) (h1 : 32 ≤ ws.length) (h2 : ws.getD 0 0 = 84) (h3 : ∀ c ∈ ws.drop 9, c = 0) (h : m < n) : plc ws n = some m := by
  rw [A8y ⟨h1, h2, h3, by rw [h8]; exact h⟩, h8]
theorem Z7 (i : Int) (n : Nat) : plc (bts i) n = if u64 i < n then some (u64 i) else none := by
  have e : le8 (bts i) 8 = u64 i := by rw [A8x i 8 qO]; exact Nat.mod_eq_of_lt (B5Z i)
  have hd : ∀ c ∈ (bts i).drop 9, c = 0 := by
    intro c hc
    unfold bts btk at hc
    rw [List.drop_succ_cons, List.drop_append_of_le_length qM] at hc
    simp only [List.mem_append] at hc
    rcases hc with hc | hc
    · rw [List.drop_of_length_le qM] at hc; cases hc
    · exact (List.mem_replicate.1 hc).2
  unfold plc
  rw [e, W3 i (k := 8) qO |> (fun h => (h : (bts i).length = 32))]
  by_cases h : u64 i < n
  · rw [if_pos h, if_pos ⟨by omega, rfl, hd, h⟩]
  · rw [if_neg h, if_neg (fun h' => h h'.2.2.2)]
theorem B3G {n w k : Nat} (h : n < 2 ^ k) : n ||| w * 2 ^ k = n + w * 2 ^ k := by
  have := Nat.two_pow_add_eq_or_of_lt h w
  rw [Nat.mul_comm w, Nat.or_comm, Nat.add_comm n]; exact this.symm
theorem B8i {ws : LN} (h : ∀ x ∈ ws, x < 256) {k : Nat} (hk : k < 8) : ws.getD (1 + k) 0 * 2 ^ (8 * k) < 18446744073709551616 := by
  have h2 := A3N h (1 + k)
  have hpk : (256 : Nat) ^ k ≤ 256 ^ 7 := Nat.pow_le_pow_right qD qO
  have hmk : ws.getD (1 + k) 0 * 256 ^ k ≤ 255 * 256 ^ 7 := Nat.mul_le_mul qO hpk
  rw [Nat.pow_mul]
  exact Nat.lt_of_le_of_lt hmk qD
theorem B8j {ws : LN} (h : ∀ x ∈ ws, x < 256) {k : Nat} (hk : k < 8) : le8 ws k < 18446744073709551616 :=
  Nat.lt_of_lt_of_le (A8w h k) (Nat.le_trans (Nat.pow_le_pow_right qD (show k ≤ 7 by omega)) qD)
theorem B55 {ws : LN} (h : ∀ x ∈ ws, x < 256) (k : Nat) : le8 ws k ||| ws.getD (1 + k) 0 * 2 ^ (8 * k) = le8 ws (k + 1) := by
  rw [B3G (by rw [Nat.pow_mul]; exact A8w h k), Nat.pow_mul]; rfl
end Go.Proofs.YtoameenjkiaefaaGreatDoor
namespace Go.Px
theorem B57 {P : Program} {R : Mem} {l : Env} {d : Option Nat} {ty t t' : TypeId} {pos : String} {af : Array Edge} {g : Option (Nat × Bool)} {x y : Operand} {a b : Nat} (hx : ev l x = some (.int .u64 (a : Int))) (hy : ev l y = some (.int .u64 (b : Int))) (ha : a < 18446744073709551616) (hb : b < 18446744073709551616) : OpQ P R ⟨d, .binOp .or t x y t', ty, pos, af, g⟩ l (.int .u64 ((a ||| b : Nat) : Int)) := q_or rfl hx hy ha hb
section
variable {P : Program} {R R' : Mem} {l : Env} {d : Option Nat} {ty t t' : TypeId} {pos : String} {af : Array Edge} {g : Option (Nat × Bool)} {x y : Operand} {i j : Int} {k : Nat}
theorem B58 (hx : ev l x = some (.int .i64 i)) (hy : ev l y = some (.int .i64 j)) (hj : j = ((8 * k : Nat) : Int)) (hk : k < 8) : OpQ P R ⟨d, .binOp .shr t x y t', ty, pos, af, g⟩ l (.int .i64 (i / ((256 ^ k : Nat) : Int))) := by
  subst hj
  have h := B5B (P := P) (R := R) (d := d) (ty := ty) (pos := pos) (af := af) (g := g) (t := t) (t' := t') hx hy qO
  rw [Int.toNat_natCast, Nat.min_eq_left (show 8 * k ≤ IntKind.i64.bits by show 8 * k ≤ 64; omega)] at h
  rw [show (256 ^ k : Nat) = 2 ^ (8 * k) by rw [Nat.pow_mul], Int.natCast_pow, ← Int.fdiv_eq_ediv_of_nonneg _ (Int.pow_nonneg qD)]
  exact h
theorem B6a {s : TypeId} (hx : ev l x = some (.int .i64 i)) (hc : A3s P s t = some .u8) : OpQ P R ⟨d, .convert s t x, ty, pos, af, g⟩ l (.int .u8 (((i % 256).toNat : Nat) : Int)) := by
  refine X4 _ hx hc ?_
  unfold IntKind.wrap
  simp only [IntKind.signed, IntKind.bits, Bool.false_and, Bool.false_eq_true, if_false]
  omega
end
end Go.Px
namespace Go.Proofs.YtoameenjkiaefaaGreatDoor
open Go.Px
theorem A7b (i : Int) (A : Mem) : FnX Tryz.prog 95 [.int .i64 i] [] A fun r M J => J = [] ∧ Sl 1 r 32 (I3 .u8 (bts i)) M := by
 skip
 refine FnX.enter (N := 22) Tryz.func95 rfl rfl rfl fun w => ?_
 refine A8 (C7 0) (A1 (as_ (A0 (C7 0) (A1 ?_))))
 refine A4 rfl (B3s (a := 32) (e := 5) (k := .u8) (by_ := 1) rfl rfl kR rfl rfl qO qO rfl fun v5 B5 hs5 => ?_)
 refine as_ (A0 (D0 0 3) (A1 (mv_ ?_)))
 refine A2 (F2 (sz := 1) (a := 0) rfl rfl kR rfl (by first | assumption | exact Sl.rd (by assumption) qI | exact By.rd (by assumption)) qO) rfl ?_
 refine A4 rfl (B2q (u := 84) rfl rfl rfl kR hs5 qD qP fun B5b hs5b => ?_)
 refine A0 (D0 0 3) (A6 (A1 (mv_ (A0 (E5 0 3 8) (C5 ?_)))))
 refine H0 (α := Nat × Mem) (fun s => [(0, .int .i64 i), (3, v5), (8, .int .i64 (s.1 : Int))]) (fun s => s.2) (fun _ => []) (fun s => s.1 ≤ 8 ∧ Sl 1 v5 32 (I3 .u8 (btk i s.1)) s.2) (fun s => 8 - s.1) ⟨0, B5b⟩ ⟨Nat.zero_le _, hs5b⟩ (E5 0 3 8) (Fit.eq qM) qI ?_
 rintro ⟨k, B⟩ ⟨hk, hs⟩
 dsimp only at hk hs ⊢
 haveI := hs.cel
 refine A1 ?_
 refine A2 (F3 rfl rfl rfl) rfl ?_
 refine A0 (F4 0 3 8 9) (A6 ?_)
 refine C3 rfl ?_ ?_ <;> intro hc
 ·
  have hlt : k < 8 := by simp at hc; omega
  refine A5 (nx (E5 0 3 8) (A6 (C5 (A1 (mv_ (as_ (A0 (F4 0 3 4 8) (C6 ?_))))))))
  refine mv_ (mv_ ?_)
  refine A2 (G9 (a := 1) rfl rfl rfl rfl qO) rfl ?_
  refine mv_ (mv_ ?_)
  refine A2 (A16 (a := 8) rfl rfl rfl rfl qO) rfl ?_
  refine A2 (B58 (k := k) rfl rfl rfl hlt) rfl ?_
  refine A2 (B6a rfl kR) rfl ?_
  refine A2 (F2 (sz := 1) rfl rfl kR rfl (by first | assumption | exact Sl.rd (by assumption) qI | exact By.rd (by assumption)) qO) rfl ?_
  refine A4 rfl (B2q (u := byt i k) rfl rfl rfl kR hs qO qP fun B6 hs6 => ?_)
  rw [B0F i qO] at hs6
  refine E1 (nb (nx (E5 0 3 8) (C6 ?_)))
  refine A2 (G9 (b := 1) rfl rfl rfl rfl qO) rfl ?_
  refine mv_ (E1 ?_)
  exact rn ⟨k + 1, B6⟩ ⟨by dsimp only; omega, hs6⟩ (by dsimp only; omega) (E5 0 3 8) (Fit.eq qM) qI
 ·
  have hge : k = 8 := by simp at hc; omega
  subst hge
  refine G4 (te (re (be rfl (nx (C7 3) (A1 (mv_ (as_ (A0 (C7 2) ?_))))))))
  refine A7 ?_
  exact ⟨_, B, [], F7 rfl rfl, by first | exact List.Sublist.refl _ | simp, by simp, rfl, hs⟩
theorem T6 (bt bm : Nat) (ts : List Tm) (vp : Value) (ws : LN) (MT A : Mem) (hT : Tab bt bm ts MT) (hsub : ∀ x, x ∈ MT → x ∈ A) (hn : ts.length ≤ 1048576) (hp : Rd A 1 vp ws.length (I3 .u8 ws)) (hw : ∀ x ∈ ws, x < 256) (hl : ws.length ≤ maxLen) : FnV Tryz.prog 44 [(vP bt), vp] A (.tuple #[.int .i64 (((plc ws ts.length).getD 0 : Nat) : Int), .bool (plc ws ts.length).isSome]) := by
 haveI := hp.cel
 have hmx : maxLen < 9223372036854775808 := by unfold maxLen; omega
 refine FnX.enter (N := 51) Tryz.func44 rfl rfl rfl fun w => ?_
 refine A8 (D0 0 1) (A1 (as_ (as_ (A0 (D0 0 1) (A6 (A1 (mv_ ?_)))))))
 refine A2 (E2 (sz := 1) rfl kR hp) rfl ?_
 refine A2 (F3 rfl rfl rfl) rfl ?_
 refine mv_ ?_
 refine H4 (t := 13) rfl (fun hb => ?_) (fun hb => ?_)
 ·
  refine D1 rfl rfl rfl rfl ?_
  refine D1 rfl rfl rfl rfl ?_
  refine D1 rfl rfl rfl rfl ?_
  refine D1 rfl rfl rfl rfl ?_
  refine A2 (E3 rfl rfl) rfl ?_
  refine A0 (E5 0 1 18) ?_
  refine E9 rfl ?_
  refine A1 (as_ (as_ (A0 (D0 4 5) (A7 (tr ?_)))))
  refine ⟨_, [], [], A1g rfl rfl rfl, List.nil_sublist _, by simp, A6g (B3F (by simp at hb; omega)), rfl, rfl⟩
 ·
  have h32 : 32 ≤ ws.length := by simp at hb; omega
  have h0 : ws.getD 0 0 = (ws.getD 0 0) := rfl
  refine C0 rfl rfl (OpQ.opL qm_ rfl ?_)
  refine C0 rfl rfl (OpQ.opL (F2 (sz := 1) (a := 0) rfl rfl kR rfl hp qO) rfl ?_)
  refine C0 rfl rfl (OpQ.opL (A52 (j := 0) (Rd.mono hp qS) rfl kR qO) rfl ?_)
  refine C0 rfl rfl (OpQ.opL (F3 rfl rfl rfl) rfl ?_)
  refine A2 (C8 rfl rfl) rfl ?_
  refine A0 (E5 0 1 18) ?_
  refine C3 rfl ?_ ?_ <;> intro hc
  ·
   have h84 : ws.getD 0 0 ≠ 84 := by have := bne_iff_ne.1 hc; omega
   refine A1 (as_ (as_ (A0 (D0 4 5) (A7 (tr ?_)))))
   refine ⟨_, [], [], A1g rfl rfl rfl, List.nil_sublist _, by simp, A6g (B51 h84), rfl, rfl⟩
  ·
   have h84 : ws.getD 0 0 = 84 := by have h := hc; rw [bne_eq_false_iff_eq] at h; omega
   refine A5 (nx (D0 0 1) (A1 (as_ (A0 (E5 0 1 6) (A6 (A1 (mv_ ?_)))))))
   refine A0 (F4 0 1 6 19) (C5 ?_)
   refine H0 (α := Nat) (fun k => [(0, (vP bt)), (1, vp), (6, .int .u64 ((le8 ws k : Nat) : Int)), (19, .int .i64 (k : Int))]) (fun _ => []) (fun _ => []) (fun k => k ≤ 8) (fun k => 8 - k) 0 qD (F4 0 1 6 19) (Fit.eq qM) qI ?_
   rintro k hk
   refine A1 ?_
   refine A2 (F3 rfl rfl rfl) rfl ?_
   refine A0 (G6 0 1 6 19 20) (A6 ?_)
   refine C3 rfl ?_ ?_ <;> intro hc
   ·
    have hlt : k < 8 := by simp at hc; omega
    have hwk := A3N hw (1 + k)
    have h8w := B8i hw hlt
    have h8n := B8j hw hlt
    refine A5 (nx (F4 0 1 6 19) (A6 (C5 (A1 (mv_ (as_ (A0 (G6 0 1 6 7 19) (C6 ?_))))))))
    refine mv_ (mv_ (mv_ ?_))
    refine A2 (G9 (a := 1) rfl rfl rfl rfl qO) rfl ?_
    refine A2 (F2 (sz := 1) rfl rfl kR rfl hp qO) rfl ?_
    refine A2 (A52 (Rd.mono hp qS) rfl kR qO) rfl ?_
    refine A2 (H7 (ws.getD (1 + k) 0) rfl kR (by rw [A7W, Nat.mod_eq_of_lt qO])) rfl ?_
    refine mv_ ?_
    refine A2 (A16 (a := 8) rfl rfl rfl rfl qO) rfl ?_
    refine A2 (B5R 18446744073709551616 rfl qD rfl rfl rfl rfl (by show 8 * k ≤ 64; omega)) rfl ?_
    rw [Nat.mod_eq_of_lt h8w]
    refine A2 (B57 rfl rfl h8n h8w) rfl ?_
    rw [B55 hw k]
    refine as_ (E1 (nb (nx (F4 0 1 6 19) (C6 ?_))))
    refine A2 (G9 (b := 1) rfl rfl rfl rfl qO) rfl ?_
    refine mv_ (E1 ?_)
    exact rn (k + 1) qO qO (F4 0 1 6 19) (Fit.eq qM) qI
   ·
    have hge : k = 8 := by simp at hc; omega
    subst hge
    generalize h8 : le8 ws 8 = n8
    refine G4 (te (re (be rfl (nx (E5 0 1 6) (A6 (A1 (mv_ ?_)))))))
    refine A2 (A4v (sz := 1) (a := 9) rfl rfl kR rfl hp qO) rfl ?_
    have hq := hp.loV 9 qO
    rw [Nat.mul_one, ← A1X] at hq
    generalize vLo 9 1 vp = vq at *
    haveI := hq.cel
    refine A2 (E2 (sz := 1) rfl kR hq) rfl ?_
    refine mv_ (A0 (G6 0 6 35 36 37) (C5 ?_))
    refine H0 (α := Nat) (fun j => [(0, (vP bt)), (6, .int .u64 ((n8 : Nat) : Int)), (35, vq), (36, .int .i64 ((ws.length - 9 : Nat) : Int)), (37, .int .i64 (j : Int))]) (fun _ => []) (fun _ => []) (fun j => j ≤ ws.length - 9 ∧ ∀ c ∈ (ws.drop 9).take j, c = 0) (fun j => ws.length - 9 - j) 0 ⟨Nat.zero_le _, fun c h => by simp at h⟩ (G6 0 6 35 36 37) (Fit.eq qM) qI ?_
    rintro j ⟨hj, hz⟩
    refine A1 ?_
    refine A2 (F3 rfl rfl rfl) rfl ?_
    refine A0 (I7 0 6 35 36 37 38) (A6 ?_)
    refine C3 rfl ?_ ?_ <;> intro hc
    ·
     have hlt : j < ws.length - 9 := by simp at hc; omega
     have hjw : j < (ws.drop 9).length := by rw [List.length_drop]; exact hlt
     have hwj := A3N (ws := ws.drop 9) (fun x hx => hw x (List.mem_of_mem_drop hx)) j
     refine A5 (nx (G6 0 6 35 36 37) (A6 (C5 (A1 ?_))))
     refine A2 (F2 (sz := 1) rfl rfl kR rfl hq hlt) rfl ?_
     refine A2 (A52 (Rd.mono hq qS) rfl kR hlt) rfl ?_
     refine as_ (A0 (I7 0 6 9 35 36 37) (A1 (mv_ ?_)))
     refine A2 (F3 rfl rfl rfl) rfl ?_
     refine A0 (I7 0 6 35 36 37 42) ?_
     refine C3 rfl ?_ ?_ <;> intro hc
     ·
      have hne : (ws.drop 9).getD j 0 ≠ 0 := by have := bne_iff_ne.1 hc; omega
      refine A1 (as_ (as_ (A0 (D0 4 5) (A7 (br (tr (rr (br ?_))))))))
      refine tr ?_
      refine ⟨_, [], [], A1g rfl rfl rfl, List.nil_sublist _, by simp, A6g (B52 hjw hne), rfl, rfl⟩
     ·
      have he0 : (ws.drop 9).getD j 0 = 0 := by have h := hc; rw [bne_eq_false_iff_eq] at h; omega
      refine A5 (nb (nx (G6 0 6 35 36 37) (C6 ?_)))
      refine A2 (G9 (b := 1) rfl rfl rfl rfl qO) rfl ?_
      refine mv_ (E1 ?_)
      exact rn (j + 1) ⟨by omega, fun c h => by rw [List.take_add_one, List.getElem?_eq_getElem hjw] at h; rcases List.mem_append.1 h with h | h; exact hz c h; simp at h; rw [List.getD_eq_getElem?_getD, List.getElem?_eq_getElem hjw] at he0; simp at he0; omega⟩ qO (G6 0 6 35 36 37) (Fit.eq qM) qI
    ·
     have hge : j = ws.length - 9 := by simp at hc; omega
     subst hge
     have hzz : ∀ c ∈ ws.drop 9, c = 0 := by rwa [List.take_of_length_le (by rw [List.length_drop]; exact Nat.le_refl _)] at hz
     refine G4 (te (re (be rfl (nx (D0 0 6) (A6 (A1 (mv_ (mv_ ?_))))))))
     refine D7 (aS rfl a0) kR (A4G bt bm ts MT _ hT (fun x hx => mA (hsub x hx))) rfl ?_
     refine A2 (H7 ts.length rfl kR (by rw [A7W, Nat.mod_eq_of_lt qO])) rfl ?_
     refine A2 (F3 rfl rfl rfl) rfl ?_
     refine A0 (D0 6 48) ?_
     refine C3 rfl ?_ ?_ <;> intro hc
     ·
      have hge : ts.length ≤ n8 := by simp at hc; omega
      refine A1 (as_ (as_ (A0 (D0 4 5) (A7 (tr ?_)))))
      refine ⟨_, [], [], A1g rfl rfl rfl, List.nil_sublist _, by simp, A6g (B54 h8 hge), rfl, rfl⟩
     ·
      have hltn : n8 < ts.length := by simp at hc; omega
      refine A5 (nx (C7 6) (A1 (mv_ ?_)))
      refine A2 (H7 n8 rfl kR (A7X qO)) rfl ?_
      refine as_ (as_ (A0 (D0 4 5) (A7 ?_)))
      refine ⟨_, [], [], A1g rfl rfl rfl, List.nil_sublist _, by simp, B50 (B0G h8 h32 h84 hzz hltn), rfl, rfl⟩

def B0H (ws : LN) : Tm := ⟨2, [], ws, 0⟩
def rdT (ts : List Tm) (ws : LN) : List Tm := match plc ws ts.length with
  | some _ => ts
  | none => add ts (B0H ws)
def rdI (ts : List Tm) (ws : LN) : Nat := match plc ws ts.length with
  | some j => j
  | none => at_ ts (B0H ws)
theorem A1k {ws : LN} (h : ∀ x ∈ ws, x < 256) (hl : ws.length ≤ 1099511627776) : Tmo (B0H ws) := ⟨show 2 < 256 by decide, show i64 0 by unfold i64; omega, fun i hi => (List.not_mem_nil hi).elim, show 0 ≤ 1048576 by decide, ⟨h⟩, hl⟩
theorem Q4 {ts : List Tm} {ws : LN} {j : Nat} (h : plc ws ts.length = some j) : rdT ts ws = ts ∧ rdI ts ws = j := by unfold rdT rdI; rw [h]; exact ⟨rfl, rfl⟩
theorem T3 {ts : List Tm} {ws : LN} (h : plc ws ts.length = none) : rdT ts ws = add ts (B0H ws) ∧ rdI ts ws = at_ ts (B0H ws) := by unfold rdT rdI; rw [h]; exact ⟨rfl, rfl⟩
theorem A4I {ws : LN} {n j : Nat} (h : plc ws n = some j) : j < n ∧ ∀ m, j < m → plc ws m = some j := by
  unfold plc at h
  split at h
  · rename_i hc
    have e := Option.some.inj h
    subst e
    exact ⟨hc.2.2.2, fun m hm => A8y ⟨hc.1, hc.2.1, hc.2.2.1, hm⟩⟩
  · cases h
theorem A3O {ts : List Tm} {t : Tm} (h : pos ts t = none) : add ts t = ts ++ [t] ∧ at_ ts t = ts.length := by unfold add at_; rw [h]; exact ⟨rfl, rfl⟩
theorem A3P {ts : List Tm} {t : Tm} {j : Nat} (h : pos ts t = some j) : add ts t = ts ∧ at_ ts t = j := by unfold add at_; rw [h]; exact ⟨rfl, rfl⟩
def atoms (k : Nat) : List Tm := (List.range k).map fun (j : Nat) => (⟨1, [], [], (j : Int)⟩ : Tm)
theorem A2h (bt bm : Nat) (ts : List Tm) (vp : Value) (ws : LN) (MT A : Mem) (hT : Tab bt bm ts MT) (hn : ts.length ≤ 1048576) (hp : Rd A 1 vp ws.length (I3 .u8 ws)) (hw : ∀ x ∈ ws, x < 256) (hl : ws.length ≤ 1099511627776) {e4 : TypeId} {f4 : Nat × Nat} (h4 : (4, Obj.cells (I3 .u64 N8).toArray e4 f4) ∈ A) : FnX Tryz.prog 75 [(vP bt), vp] MT A fun r M J => J = [] ∧ r = .int .i64 ((rdI ts ws : Nat) : Int) ∧ Tab bt bm (rdT ts ws) M := by
 haveI := hp.cel
 haveI : B256 ws := ⟨hw⟩
 refine FnX.enter (N := 20) Tryz.func75 rfl rfl rfl fun w => ?_
 refine A8 (D0 0 1) (A1 (as_ (A0 (D0 0 1) (A6 (A1 (mv_ (mv_ ?_)))))))
 refine D7 (aS rfl (aS rfl a0)) kR (T6 bt bm ts vp ws MT _ hT qS hn (hp.mono qS) hw (Nat.le_trans hl (by unfold maxLen; omega))) rfl ?_
 refine mv_ ?_
 refine A2 (R6 rfl) rfl ?_
 refine A2 (R4 rfl) rfl ?_
 refine as_ (as_ (A0 (F4 0 1 5 6) (A1 (mv_ (A0 (F4 0 1 5 13) ?_)))))
 refine C3 rfl ?_ ?_ <;> intro hc
 ·
  obtain ⟨j, hj⟩ := Option.isSome_iff_exists.1 hc
  obtain ⟨h1, h2⟩ := Q4 hj
  refine A1 (mv_ (as_ (A0 (C7 4) (A7 (tr ?_)))))
  exact ⟨_, MT, [], F7 rfl rfl, List.Sublist.refl _, by simp, rfl, by rw [h2, hj]; rfl, by rw [h1]; exact hT⟩
 ·
  have hj : plc ws ts.length = none := by simpa using hc
  obtain ⟨h1, h2⟩ := T3 hj
  refine A5 (nx (D0 0 1) (A1 (mv_ (mv_ ?_))))
  refine A2 (Q3 rfl kR (hp.mono qS)) rfl ?_
  refine A2 (D6 (place := fun x => #[(0, 1), (1, 1), (2, 1), (3, 1)][x]?) (z := [.int .u8 0, vS, .string ByteArray.empty, .int .i64 0]) (fun _ => by kernel_rfl) (eS rfl (eS rfl e0)) (bdS 0 1 rfl qR (bdS 2 1 rfl qR bd0))) rfl ?_
  refine A4 rfl (A9 (Mc := MT) (R := _) (aS rfl (aS rfl a0)) kR qP (N1 bt bm ts (vS) (B0H ws) MT _ hT hn Rd.nil (A1k hw hl) (qS _ h4)) rfl ?_)
  rintro v19 M19 J19 ⟨rfl, rfl, hT19⟩
  refine as_ (A0 (C7 4) (A7 ?_))
  exact ⟨_, M19, [], F7 rfl rfl, by first | exact List.Sublist.refl _ | simp, by simp, rfl, by rw [h2], by rw [h1]; exact hT19⟩
theorem L8 {ts : List Tm} {ws : LN} : (rdT ts ws).length ≤ ts.length + 1 := by
  unfold rdT
  split
  · omega
  · exact W2
end Go.Proofs.YtoameenjkiaefaaGreatDoor
