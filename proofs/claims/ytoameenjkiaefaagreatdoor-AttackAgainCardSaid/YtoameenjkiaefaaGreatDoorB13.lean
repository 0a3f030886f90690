/- Part 13 of the texts of this claim, one behind the other. -/
import Derived.Test.YtoameenjkiaefaaGreatDoorB12
set_option linter.unusedVariables false
set_option linter.unusedSimpArgs false
set_option maxRecDepth 100000
namespace Go.Proofs.YtoameenjkiaefaaGreatDoor
open Go.Px
def W5 (ws : List (LN)) : LN := (ws.map mark).flatten
theorem A25 {ws : List (LN)} {i : Nat} {w : LN} (h : ws[i]? = some w) : W5 (ws.take (i + 1)) = W5 (ws.take i) ++ mark w := by
  unfold W5; rw [List.take_add_one, h]; simp
theorem A5f {ws : List (LN)} (h : ∀ w ∈ ws, ∀ x ∈ w, x < 256) : ∀ x ∈ W5 ws, x < 256 := by
  intro x hx
  obtain ⟨l, hl, hx⟩ := List.mem_flatten.1 hx
  obtain ⟨w, hw, rfl⟩ := List.mem_map.1 hl
  haveI : B256 w := ⟨h w hw⟩
  have hb : B256 (mark w) := inferInstance
  exact hb.lt x hx
def B0y (ws : List (LN)) : Tm := A7C (W5 ws)
def A61 (s : Ps) (ws : List (LN)) : Ps := { s with ts := add s.ts (B0y ws) }
def B0z (s : Ps) (ws : List (LN)) : LN := bts ((at_ s.ts (B0y ws) : Nat) : Int)
theorem B2j (pb : Nat × Nat) (bt : TBk pb) (bm : Nat) (s : Ps) (hr : s.real = false) (u : Value) (ws : List (LN)) (MP A : Mem) (hP : PrmT pb bt bm s MP) (hn : s.ts.length ≤ 1048576) (hu : LsV A u ws) (hwl0 : ws.length ≤ 1000) (hlt0 : ∀ w ∈ ws, ∀ x ∈ w, x < 256) (hG : Glb A) : FnX Tryz.prog 114 [.pointer (some ⟨pb.1, 0, none⟩), u] MP A fun q M J => PrmT pb bt bm (A61 s ws) M ∧ By J q (B0z s ws) := by
 obtain ⟨sv, B, MT, rfl, hby, hT⟩ := hP.ex
 haveI := hby.cel
 obtain ⟨ge4, gf4, h4⟩ := hG.pow
 obtain ⟨us, hus, hls⟩ := hu.ex
 haveI := hus.cel
 refine FnX.enterZ (N := 51) Tryz.func114 rfl rfl rfl fun w_ => ?_
 refine A8 (D0 0 1) (A1 (as_ (A0 (D0 0 1) (A7 (A1 (mv_ ?_))))))
 refine A2 (C9 (e := 118) rfl rfl kR) rfl ?_
 refine A0 (E7 0 1 12) ?_
 refine B8 rfl ?_
 refine A5 (nx (D0 0 1) (A7 (A1 (mv_ ?_))))
 refine A2 (D5 rfl) rfl ?_
 refine A2 (qf_ 0 0) rfl ?_
 refine A2 ql_ rfl ?_
 refine A2 (F1 rfl rfl rfl) rfl ?_
 refine A0 (E7 0 1 17) ?_
 refine B8 rfl ?_
 refine A5 (nx (D0 0 1) (A1 (as_ (A0 (E7 0 1 8) (A7 (A1 (mv_ ?_)))))))
 refine A2 (E1 (sz := 1) rfl kR hus) rfl ?_
 refine mv_ (A0 (H9 0 8 32 33 34) (C6 ?_))
 refine H0 (α := Nat) (fun i => [(0, .pointer (some ⟨pb.1, 0, none⟩)), (8, .string (txt (W5 (ws.take i)))), (32, u), (33, (vI ws.length)), (34, (vI i))]) (fun _ => (pb.1, blk [.int .u8 1, sv, .int .i64 (((s.n : Nat) : Int)), (vP bt)] 118) :: (B ++ MT)) (fun _ => []) (fun i => i ≤ ws.length ∧ (W5 (ws.take i)).length ≤ i * 16777300) (fun i => ws.length - i) 0 ⟨Nat.zero_le _, Nat.zero_le _⟩ (H9 0 8 32 33 34) .rfl qI ?_
 rintro i ⟨hi, hml⟩
 refine A1 ?_
 refine A2 (F1 rfl rfl rfl) rfl ?_
 refine A0 (L1 0 8 32 33 34 35) (A7 ?_)
 refine C4 rfl ?_ ?_ <;> intro hc
 ·
  have hlt : i < ws.length := by simp at hc; omega
  obtain ⟨w, hw⟩ : ∃ w, ws[i]? = some w := ⟨_, List.getElem?_eq_getElem hlt⟩
  obtain ⟨vi, hvi, hwi⟩ := hls.get i w hw
  haveI := hwi.cel
  have hst := A25 hw
  have hmk := A0c w (by have := hwi.len; omega)
  have hwl := hwi.len
  refine A5 (nx (H9 0 8 32 33 34) (A7 (C6 (A1 ?_))))
  refine A2 (E9 (sz := 1) rfl rfl kR rfl hus hlt) rfl ?_
  refine A2 (N4 (j := i) (u := vi) (hus.mono qS) rfl kR hvi) rfl ?_
  refine as_ (A0 (L1 0 8 10 32 33 34) (D1 (mv_ (mv_ ?_))))
  refine E2 (aS rfl a0) kR (A03 vi w _ (hwi.rd.mono qS) (hb := hwi.b256) qO (mA h4)) rfl ?_
  refine A2 (X6 (ws := W5 (ws.take i)) (ws' := mark w) rfl rfl rfl rfl (by have : i * 16777300 ≤ 1000 * 16777300 := Nat.mul_le_mul_right _ qO; omega)) rfl ?_
  rw [← hst]
  refine as_ (E3 (nb (nx (H9 0 8 32 33 34) (D1 ?_))))
  refine A2 (Z5 ((i + 1 : Nat) : Int) rfl rfl (A1o qO qO qO)) rfl ?_
  refine mv_ (E3 ?_)
  exact rn (i + 1) ⟨hlt, by rw [hst, List.length_append, Nat.add_mul]; omega⟩ qO (H9 0 8 32 33 34) .rfl qI
 ·
  have hge : i = ws.length := by simp at hc; omega
  subst hge
  rw [List.take_length] at hml ⊢
  refine G6 (te (re (be rfl (nx (D0 0 8) (A1 (mv_ ?_))))))
  refine A2 (D5 rfl) rfl ?_
  refine A2 (qf_ 3 3) rfl ?_
  refine A2 ql_ rfl ?_
  refine mv_ ?_
  refine A2 (D2 (place := fun x => #[(0, 1), (1, 1), (2, 1), (3, 1)][x]?) (z := [.int .u8 0, vS, .string ByteArray.empty, .int .i64 0]) (fun _ => by kernel_rfl) (eS rfl (eS rfl e0)) (bdS 0 1 rfl qR (bdS 2 1 rfl qR bd0))) rfl ?_
  refine A4 rfl (A9 (Mc := MT) (R := _) (aS rfl (aS rfl a0)) kR qP (K8 bt bm s.ts (vS) (B0y ws) MT _ hT hn Rd.nil (A0t (A5f hlt0) (by have : ws.length * 16777300 ≤ 1000 * 16777300 := Nat.mul_le_mul_right _ hwl0; omega)) (mA h4)) rfl ?_)
  rintro v49 M49 J49 ⟨rfl, rfl, hT49⟩
  refine A4 rfl (K1 (aS rfl a0) kR (N6 _ _) rfl ?_)
  rintro v50 M50 J50 ⟨rfl, h50⟩
  refine as_ (A0 (C8 4) (A6 ?_))
  exact ⟨_, (pb.1, blk [.int .u8 1, sv, .int .i64 (((s.n : Nat) : Int)), (vP bt)] 118) :: (B ++ M49), [], F4 rfl rfl, (Fit.none (Fit.pick (B := [_]) qP (Fit.pick qP (Fit.last qP)))), ⟨sv, B, M49, rfl, hby, hT49⟩, h50.mono qS⟩

theorem A5g (v : Value) (n : Nat) (xs : List Value) (A : Mem) (h : Rd A 3 v n xs) (h1 : ∀ c ∈ xs, c.oneCell' = true) (hn : n ≤ 1099511627776) : FnX Tryz.prog 221 [v] [] A fun r M J => Sl 3 r n xs M := by
 haveI := h.cel
 refine FnX.enterZ (N := 8) Tryz.func221 rfl rfl rfl fun w_ => ?_
 refine A8 (C8 0) (A1 (as_ (A0 (C8 0) (A7 (A1 (mv_ ?_))))))
 refine A2 (A0b (e := 229) rfl kR (by first | assumption | exact Sl.rd (by assumption) qI | exact By.rd (by assumption))) rfl ?_
 refine A0 (D0 0 4) ?_
 refine C4 rfl ?_ ?_ <;> intro hc
 ·
  have h0 := h.isNil hc
  subst h0
  obtain rfl : xs = [] := List.eq_nil_of_length_eq_zero (by have := h.len; omega)
  refine A1 (as_ (A0 (C8 2) (A6 (tr ?_))))
  exact ⟨_, [], [], F4 rfl rfl, qZ, Sl.nil⟩
 ·
  refine A5 (nx (C8 0) (A1 ?_))
  refine A4 rfl (C3 (e := 229) (sz := 3) (z := []) kR e0 bd0 rfl fun b5 => ?_)
  refine mv_ ?_
  refine A4 rfl (G1 (e := 229) (sz := 3) (by_ := 56) rfl rfl kR rfl (Sl.fresh (n := 0) (cs := []) (e := 229) rfl qD) (Rd.mono h qS) h1 qP (by unfold maxLen; omega) qO rfl fun v7 B7 hs7 => ?_)
  refine as_ (A0 (C8 2) (A6 ?_))
  exact ⟨_, B7, [], F4 rfl rfl, Fit.none (Fit.last qP), by simpa using hs7⟩

structure Skp where
  of : LN
  n : Nat
  key : LN
deriving DecidableEq
def skR (R : Mem) (s : Skp) (r : List Value) : Prop := ∃ vo vk, r = [vo, (vU s.n), vk] ∧ By R vo s.of ∧ By R vk s.key ∧ s.n < 4294967296
theorem skT : RowT 3 skR := ⟨fun R R' x r hR ⟨vo, vk, h1, h2, h3, h4⟩ => ⟨vo, vk, h1, h2.mono hR, h3.mono hR, h4⟩, fun R x r ⟨vo, vk, h1, _⟩ => by rw [h1]; rfl, fun R x r ⟨vo, vk, h1, h2, h3, _⟩ c hc => by
  rw [h1] at hc
  simp only [List.mem_cons, List.not_mem_nil, or_false] at hc
  rcases hc with rfl | rfl | rfl
  · exact h2.one
  · rfl
  · exact h3.one⟩
structure Sto (R : Mem) (sb : Nat) (sks : List Skp) (M : Mem) : Prop where
  ex : ∃ v rows B, M = (sb, blk [v] 195) :: B ∧ Sl 3 v sks.length rows.flatten B ∧ RwL skR R rows sks
theorem Sto.mono {R R' : Mem} {sb : Nat} {sks : List Skp} {M : Mem} (h : Sto R sb sks M) (hR : ∀ x, x ∈ R → x ∈ R') : Sto R' sb sks M := by
  obtain ⟨v, rows, B, h1, h2, h3⟩ := h.ex
  exact ⟨v, rows, B, h1, h2, h3.mono skT hR⟩
def tst (of : LN) (n : Nat) (s : Skp) : Bool := decide (s.n = n) && decide (s.of = of)
def B3E (sks : List Skp) (of : LN) (n : Nat) : List Skp := if A19 (tst of n) sks < 0 then sks else sks.eraseIdx (A19 (tst of n) sks).toNat
def putS (sks : List Skp) (x : Skp) : List Skp := (B3E sks x.of x.n ++ [x]).drop ((B3E sks x.of x.n ++ [x]).length - 32)
def getS (sks : List Skp) (of : LN) (n : Nat) : Option (LN) := if A19 (tst of n) sks < 0 then none else (sks[(A19 (tst of n) sks).toNat]?).map (·.key)
theorem A8j (sb k : Nat) (v : Value) (xs : List Value) (A : Mem) (hsb : (sb, blk [v] 195) ∈ A) (hv : Rd A 3 v k xs) (h1 : ∀ c ∈ xs, c.oneCell' = true) (hk : k ≤ 1099511627776) : FnX Tryz.prog 190 [(vP sb)] [] A fun q M J => Sl 3 q k xs M := by
 haveI := hv.cel
 refine FnX.enterZ (N := 10) Tryz.func190 rfl rfl rfl fun w_ => ?_
 refine A8 (C8 0) (A1 (as_ (A0 (C8 0) (A7 (A1 (mv_ ?_))))))
 refine A2 (C9 (e := 195) rfl rfl kR) rfl ?_
 refine A0 (D0 0 4) ?_
 refine B8 rfl ?_
 refine A5 (nx (C8 0) (A1 (mv_ ?_)))
 refine A2 (D5 rfl) rfl ?_
 refine A2 (qf_ 0 0) rfl ?_
 refine A2 (G7 rfl kR (mA hsb) qR) rfl ?_
 refine F0 (aS rfl a0) kR (A5g v k xs _ (hv.mono qS) h1 hk) rfl ?_
 rintro v9 M9 J9 hs9
 haveI := hs9.cel
 refine as_ (A0 (C8 2) (A6 ?_))
 exact ⟨_, M9, [], F4 rfl rfl, Fit.none (Fit.last qP), hs9⟩
theorem A62 (sb k : Nat) (v : Value) (xs : List Value) (A : Mem) (hsb : (sb, blk [v] 195) ∈ A) (hv : Rd A 3 v k xs) (h1 : ∀ c ∈ xs, c.oneCell' = true) (hk : k ≤ 1099511627776) : FnX Tryz.prog 155 [(vP sb)] [] A fun q M J => ∃ cb u B, q = (vP cb) ∧ M = (cb, blk [u] 195) :: B ∧ Sl 3 u k xs B := by
 refine FnX.enterZ (N := 7) Tryz.func155 rfl rfl rfl fun w_ => ?_
 refine A8 (C8 0) (A1 (as_ (A0 (C8 0) (A1 (mv_ ?_)))))
 refine F0 (aS rfl a0) kR (A8j sb k v xs _ (mA hsb) (hv.mono qS) h1 hk) rfl ?_
 rintro v4 M4 J4 hs4
 haveI := hs4.cel
 refine A2 (D2 (place := fun x => #[(0, 1)][x]?) (z := [vS]) (fun _ => by kernel_rfl) (eS rfl e0) (bdS 0 1 rfl qR bd0)) rfl ?_
 refine A4 rfl (bx_ fun b6 => ?_)
 refine as_ (A0 (C8 2) (A6 ?_))
 exact ⟨_, (b6, _) :: M4, [], F4 rfl rfl, Fit.none (Fit.pick (B := [_]) qP (Fit.last qP)), b6, v4, M4, rfl, rfl, hs4⟩

def A26 : LN := [115, 116, 101, 112]
def A1s (s : Ps) (key : LN) : Ps := A3p s key [] A26 2
def cstL (s : Ps) (key : LN) : List (LN) := A4b s key [] A26 2
def A5h (s : Ps) (key : LN) : LN := (cstL s key).getD 0 []
def A8k (s : Ps) (key : LN) : LN := (cstL s key).getD 1 []
theorem A4C (s : Ps) (key : LN) (ws : List (LN)) (lb : LN) (n : Nat) : (A4b s key ws lb n).length = n := by
  unfold A4b
  split
  · exact A4e _ _
  · exact (A0d _ _ _ _).1
theorem A63 {R : Mem} {v : Value} {ls : List (LN)} (h : LsV R v ls) (hl : ls.length = 2) : ∃ vs u0 u1, Rd R 1 v 2 vs ∧ vs[0]? = some u0 ∧ vs[1]? = some u1 ∧ By R u0 (ls.getD 0 []) ∧ By R u1 (ls.getD 1 []) := by
  obtain ⟨vs, h1, h2⟩ := h.ex
  obtain ⟨u0, a0, b0⟩ := h2.at (j := 0) qO
  obtain ⟨u1, a1, b1⟩ := h2.at (j := 1) qO
  rw [hl] at h1
  refine ⟨vs, u0, u1, h1, a0, a1, ?_, ?_⟩
  · rw [List.getD_eq_getElem?_getD, List.getElem?_eq_getElem qO]; exact b0
  · rw [List.getD_eq_getElem?_getD, List.getElem?_eq_getElem qO]; exact b1
theorem A89 {P : Program} {fn : Func} {l : Env} {R : Mem} {t u b n : Nat} {ty : TypeId} {cs : List Value} {e : TypeId} {fr : Nat × Nat} {v : Value} (h : fn.results = #[.tmp u, .cell t ty]) (hv : lk l t = some (vP b)) (hu : lk l u = some v) (ht : A3a P ty = some n)
    (hb : (b, Obj.cells cs.toArray e fr) ∈ R) (hn : cs.length = n) : Res P fn l R (.tuple #[v, .agg cs.toArray]) := fun N a w ha hw => by
  obtain ⟨dsc, h1, h2, h3⟩ := L5 ht
  have hl := run_loadVar_row (P := P) w b e ty cs.toArray fr dsc (hw b _ hb) h1 (by cases dsc <;> simp_all [TypeDesc.isRow]) (by rw [h3, ← hn]; simp)
  simp [results, h, ha.slot t _ hv, ha.slot u _ hu, asAddr, hl]
theorem A64 (pb : Nat × Nat) (s : Ps) (kv : Value) (key : LN) (n : Nat) (MP A : Mem) (hP : Prm pb s MP) (hk : By A kv key) (hn : s.ts.length ≤ 1040000) (hG : Glb A) : FnX Tryz.prog 122 [.pointer (some ⟨pb.1, 0, none⟩), .agg #[kv, (vU n)]] MP A fun q M J => ∃ v1 v2, q = .tuple #[v1, .agg #[v2, .int .u32 (((n + 1) % 4294967296 : Nat) : Int)]] ∧ Prm pb (A1s s key) M ∧ By J v1 (A5h s key) ∧ By J v2 (A8k s key) := by
 haveI := hk.cel
 refine FnX.enterZ (N := 25) Tryz.func122 rfl rfl rfl fun w_ => ?_
 refine A8 (D0 0 1) (A1 ?_)
 refine A4 rfl (A9h rfl Cel.cel rfl fun b3 => ?_)
 refine as_ ?_
 refine A4 rfl (D3 (cs := [vS, .int .u32 0]) kR rfl fun b5 => ?_)
 refine A0 (E7 0 3 5) (A1 (mv_ ?_))
 refine A2 (qf_ 0 0) rfl ?_
 refine A2 (G7 (v := kv) rfl kR At.mem qR) rfl ?_
 refine A4 rfl (A9 (Mc := MP) (R := _) (aS rfl (aS rfl (aS rfl (aS rfl (aS rfl a0))))) kR qP (Y8 pb s kv (vS) key A26 [] 2 MP _ hP (hk.mono qS) LsV.nil qD ⟨by decide⟩ qD qD qD hn hG.up) rfl ?_)
 rintro v10 M10 J10 ⟨hP10, hL10⟩
 have hlen := A4C s key [] A26 2
 obtain ⟨us, u0, u1, hr, hu0, hu1, hb0, hb1⟩ := A63 hL10 hlen
 haveI := hr.cel
 haveI := hb0.cel
 haveI := hb1.cel
 refine as_ (A0 (E7 3 5 6) (A7 (A1 (mv_ ?_))))
 refine A2 (E1 (sz := 1) rfl kR hr) rfl ?_
 refine A2 (F6 false rfl rfl (neF rfl)) rfl ?_
 refine A0 (F8 3 5 6 13) ?_
 refine B8 rfl ?_
 refine A5 (nx (E7 3 5 6) ?_)
 refine F5 (.range 11) (zp 0 [0, 0, 1, 0, 0, 1, 0, 1, 0, 0, 0, 2]) kR kR fun hs => ?_
 refine fm_ hs ?_
 refine D9 hs rfl (E9 (sz := 1) (a := 0) rfl rfl kR rfl hr qD) rfl ?_
 refine Q5 hs rfl (N4 (u := u0) (hr.mono qS) rfl kR hu0) rfl ?_
 refine fm_ hs ?_
 refine D9 hs rfl (E9 (sz := 1) (a := 1) rfl rfl kR rfl hr qD) rfl ?_
 refine Q5 hs rfl (N4 (u := u1) (hr.mono qS) rfl kR hu1) rfl ?_
 refine D9 hs rfl (qf_ 1 1) rfl ?_
 refine Q5 hs rfl ql_ rfl ?_
 refine D9 hs rfl (X4 4294967296 (b := 1) rfl rfl rfl rfl rfl rfl) rfl ?_
 refine D9 hs rfl (D2 (place := fun x => #[(0, 1), (1, 1)][x]?) (z := [vS, .int .u32 0]) (fun _ => by kernel_rfl) (eS rfl (eS rfl e0)) (bdS 0 1 rfl qR (bdS 1 1 rfl qR bd0))) rfl ?_
 refine fa_ hs ?_
 refine L2 rfl rfl rfl (C0 rfl rfl Cel.cel kR qR (by intro c hc; simp only [List.mem_cons, List.not_mem_nil, or_false] at hc; rcases hc with rfl | rfl; exact hb1.one; rfl) UpC.upd ?_)
 refine H4 (D0 4 5) (A6 ?_)
 refine ⟨_, M10, [], A89 (n := 2) rfl rfl rfl kR At.mem qR, Fit.none (Fit.last qP), u0, u1, rfl, hP10, hb0.mono (fun x hx => by simp [hx]), hb1.mono (fun x hx => by simp [hx])⟩

def rep {α : Type} (f : α → α) : Nat → α → α
  | 0, x => x
  | k + 1, x => f (rep f k x)
abbrev Ast := Ps × LN × Nat × List Skp
def aSt (of : LN) (x : Ast) : Ast := (A1s x.1 x.2.1, A8k x.1 x.2.1, x.2.2.1 + 1, putS x.2.2.2 ⟨of, x.2.2.1, A5h x.1 x.2.1⟩)
theorem B0A (s : Ps) : (D7 s).ts.length ≤ s.ts.length + 1 ∧ (D7 s).n = s.n + 1 := by
  unfold D7
  split
  · exact ⟨by simp, rfl⟩
  · refine ⟨?_, rfl⟩
    show (add s.ts _).length ≤ _
    unfold add
    split <;> simp
theorem B0B (s : Ps) (w : LN) : (H5 s w).ts.length ≤ s.ts.length + 2 := by
  unfold H5
  split
  · omega
  · have h1 := K9 (ts := s.ts) (ws := w)
    have h2 := U7 (ts := rdT s.ts w) (t := A4g ((rdI s.ts w : Nat) : Int))
    show (add (rdT s.ts w) _).length ≤ _
    omega
theorem B0C (s : Ps) (w : LN) : (I9 s w).length = 32 := by
  unfold I9
  split
  · exact A6c _ _
  · exact A0s _ qD
def A5i : LN := [114, 111, 111, 116]
noncomputable def B2J (s : Ps) (root sec pub : LN) : Ps := A3p (L4 s sec pub) root [A1q s sec pub] A5i 2
noncomputable def trnL (s : Ps) (root sec pub : LN) : List (LN) := A4b (L4 s sec pub) root [A1q s sec pub] A5i 2
noncomputable def B2K (s : Ps) (root sec pub : LN) : LN := (trnL s root sec pub).getD 0 []
noncomputable def B2L (s : Ps) (root sec pub : LN) : LN := (trnL s root sec pub).getD 1 []
structure Rsd where
  own : LN
  their : LN
  root : LN
  sk : LN
  sn : Nat
  tk : LN
  tn : Nat
  prev : Nat
  sks : List Skp
def StF (R : Mem) (v : Value) (sks : List Skp) : Prop := ∃ sb u rows, v = (vP sb) ∧ (sb, blk [u] 195) ∈ R ∧ Rd R 3 u sks.length rows.flatten ∧ RwL skR R rows sks
theorem StF.mono {R R' : Mem} {v : Value} {sks : List Skp} (h : StF R v sks) (hR : ∀ x, x ∈ R → x ∈ R') : StF R' v sks := by
  obtain ⟨sb, u, rows, h1, h2, h3, h4⟩ := h
  exact ⟨sb, u, rows, h1, hR _ h2, h3.mono hR, h4.mono skT hR⟩
def rsC (vo vt vr vk vl vs : Value) (r : Rsd) : List Value := [vo, vt, vr, vk, (vU r.sn), vl, (vU r.tn), (vU r.prev), vs]
structure RsR (R : Mem) (r : Rsd) (vo vt vr vk vl vs : Value) : Prop where
  own : By R vo r.own
  their : By R vt r.their
  root : By R vr r.root
  sk : By R vk r.sk
  tk : By R vl r.tk
  st : StF R vs r.sks
  sn : r.sn < 4294967296
  tn : r.tn < 4294967296
  prev : r.prev < 4294967296
  sks : r.sks.length ≤ 1000
theorem RsR.mono {R R' : Mem} {r : Rsd} {vo vt vr vk vl vs : Value} (h : RsR R r vo vt vr vk vl vs) (hR : ∀ x, x ∈ R → x ∈ R') : RsR R' r vo vt vr vk vl vs :=
  ⟨h.own.mono hR, h.their.mono hR, h.root.mono hR, h.sk.mono hR, h.tk.mono hR, h.st.mono hR, h.sn, h.tn, h.prev, h.sks⟩
theorem StF.one {R : Mem} {v : Value} {sks : List Skp} (h : StF R v sks) : v.oneCell' = true := by obtain ⟨sb, u, rows, rfl, _⟩ := h; rfl
theorem StF.new {b : Nat} {R : Mem} (h : (b, blk [vS] 195) ∈ R) : StF R (vP b) [] := ⟨b, _, [], rfl, h, Rd.nil, RwL.nil⟩
def RsV (R : Mem) (v : Value) (r : Rsd) : Prop := ∃ vo vt vr vk vl vs, v = .agg (rsC vo vt vr vk vl vs r).toArray ∧ RsR R r vo vt vr vk vl vs
theorem RsV.mono {R R' : Mem} {v : Value} {r : Rsd} (h : RsV R v r) (hR : ∀ x, x ∈ R → x ∈ R') : RsV R' v r := by
  obtain ⟨vo, vt, vr, vk, vl, vs, e, g⟩ := h
  exact ⟨vo, vt, vr, vk, vl, vs, e, g.mono hR⟩
noncomputable def B2k (s : Ps) (sec their : LN) : Rsd := ⟨E0 s, their, B2K (D7 s) sec (E0 s) their, B2L (D7 s) sec (E0 s) their, 0, [], 0, 0, []⟩
noncomputable def begS (s : Ps) (sec their : LN) : Ps := B2J (D7 s) sec (E0 s) their
def awtR (sec own : LN) : Rsd := ⟨own, [], sec, [], 0, [], 0, 0, []⟩
theorem B2l (pb : Nat × Nat) (s : Ps) (v1 v2 v3 : Value) (root sec pub : LN) (MP A : Mem) (hP : Prm pb s MP) (hn : s.ts.length + 100 ≤ 1040000) (h1 : By A v1 root) (h2 : By A v2 sec) (h3 : By A v3 pub) (hG : Glb A) : FnX Tryz.prog 121 [.pointer (some ⟨pb.1, 0, none⟩), v1, v2, v3] MP A fun q M J => ∃ u0 u1, q = .tuple #[u0, .agg #[u1, (vU 0)]] ∧ Prm pb (B2J s root sec pub) M ∧ By J u0 (B2K s root sec pub) ∧ By J u1 (B2L s root sec pub) := by
 haveI := h1.cel
 haveI := h2.cel
 haveI := h3.cel
 have hal := U0 s sec pub
 refine FnX.enterZ (N := 30) Tryz.func121 rfl rfl rfl fun w_ => ?_
 refine A8 (F8 0 1 2 3) (A1 (as_ ?_))
 refine A4 rfl (D3 (cs := [vS, .int .u32 0]) kR rfl fun b9 => ?_)
 refine A0 (H9 0 1 2 3 9) (A1 (mv_ (mv_ (mv_ (mv_ (mv_ ?_))))))
 refine A4 rfl (A9 (Mc := MP) (R := _) (aS rfl (aS rfl (aS rfl (a0)))) kR qP (A1b pb s v2 v3 sec pub MP _ hP qO (h2.mono qS) (h3.mono qS) hG.up) rfl ?_)
 rintro v16 M16 J16 ⟨hP16, h16⟩
 haveI := h16.cel
 refine A4 rfl (C3 (e := 22) (sz := 1) (z := [vS]) kR (eS rfl e0) (bdS 0 1 rfl qR bd0) rfl fun b17 => ?_)
 refine A4 rfl (A9 (Mc := M16) (R := _) (aS rfl (aS rfl (aS rfl (aS rfl (aS rfl (a0)))))) kR qP (Y8 pb (L4 s sec pub) v1 (.slice (some ⟨b17, 0, none⟩) 1 1) root A5i [A1q s sec pub] 2 M16 _ hP16 (h1.mono qS) ⟨[v16], Rd.whole (n := 1) At.mem qR, Lst.cons (h16.mono qS) Lst.nil⟩ (show 1 ≤ 1000 by decide) ⟨by decide⟩ qD qD qD qO hG.up) rfl ?_)
 rintro v18 M18 J18 ⟨hP18, hL18⟩
 have hlen := A4C (L4 s sec pub) root [A1q s sec pub] A5i 2
 obtain ⟨us, u0, u1, hr, hu0, hu1, hb0, hb1⟩ := A63 hL18 hlen
 haveI := hr.cel
 haveI := hb0.cel
 haveI := hb1.cel
 refine as_ (A0 (D0 9 10) (A7 (A1 (mv_ ?_))))
 refine A2 (E1 (sz := 1) rfl kR hr) rfl ?_
 refine A2 (F6 false rfl rfl (neF rfl)) rfl ?_
 refine A0 (E7 9 10 21) ?_
 refine B8 rfl ?_
 refine A5 (nx (D0 9 10) ?_)
 refine F5 (.range 8) (zp 0 [0, 0, 1, 0, 0, 1, 0, 0, 2]) kR kR fun hs => ?_
 refine fm_ hs ?_
 refine D9 hs rfl (E9 (sz := 1) (a := 0) rfl rfl kR rfl hr qD) rfl ?_
 refine Q5 hs rfl (N4 (u := u0) (hr.mono qS) rfl kR hu0) rfl ?_
 refine fm_ hs ?_
 refine D9 hs rfl (E9 (sz := 1) (a := 1) rfl rfl kR rfl hr qD) rfl ?_
 refine Q5 hs rfl (N4 (u := u1) (hr.mono qS) rfl kR hu1) rfl ?_
 refine D9 hs rfl (D2 (place := fun x => #[(0, 1), (1, 1)][x]?) (z := [vS, .int .u32 0]) (fun _ => by kernel_rfl) (eS rfl e0) (bdS 0 1 rfl qR bd0)) rfl ?_
 refine fa_ hs ?_
 refine L2 rfl rfl rfl (C0 rfl rfl Cel.cel kR qR (by intro c hc; simp only [List.mem_cons, List.not_mem_nil, or_false] at hc; rcases hc with rfl | rfl; exact hb1.one; rfl) UpC.upd ?_)
 refine H4 (D0 8 9) (A6 ?_)
 exact ⟨_, M18, [], A89 (n := 2) rfl rfl rfl kR At.mem qR, Fit.none (Fit.last qP), u0, u1, rfl, hP18, hb0.mono (fun x hx => by simp [hx]), hb1.mono (fun x hx => by simp [hx])⟩

def A3J (k : LN) (p n : Nat) : LN := ((beN k.length 4 ++ k) ++ beN p 4) ++ beN n 4
theorem A27 (k : LN) (p n : Nat) : (A3J k p n).length = k.length + 12 := by simp [A3J, F2]; omega
def A28 (w h : LN) : LN := ((beN w.length 4 ++ w) ++ beN h.length 4) ++ h
theorem A5j (w h : LN) : (A28 w h).length = w.length + h.length + 8 := by simp [A28, F2]; omega
theorem B0D (pb : Nat × Nat) (s : Ps) (v1 v2 : Value) (sec their : LN) (MP A : Mem) (hP : Prm pb s MP) (hn : s.ts.length + 200 ≤ 1040000) (hk : s.n < 1000000000) (h1 : By A v1 sec) (h2 : By A v2 their) (hG : Glb A) : FnX Tryz.prog 73 [.pointer (some ⟨pb.1, 0, none⟩), v1, v2] MP A fun q M J => Prm pb (begS s sec their) M ∧ RsV (J ++ A) q (B2k s sec their) := by
 haveI := h1.cel
 haveI := h2.cel
 have hfl := B0A s
 refine FnX.enterZ (N := 27) Tryz.func73 rfl rfl rfl fun w_ => ?_
 refine A8 (E7 0 1 2) (A1 ?_)
 refine A4 rfl (D3 (cs := [vS, vS, vS, vS, E8, vS, E8, E8, .pointer none]) kR rfl fun b6 => ?_)
 refine A0 (F8 0 1 2 6) (A1 (mv_ ?_))
 refine A4 rfl (A9 (Mc := MP) (R := _) (aS rfl (a0)) kR qP (Q9 pb s MP _ hP qO qO hG.up) rfl ?_)
 rintro v9 M9 J9 ⟨hP9, h9⟩
 haveI := h9.cel
 refine mv_ ?_
 refine F0 (aS rfl a0) kR (Z0 v2 their _ (h2.mono qS)) rfl ?_
 rintro v11 M11 J11 ⟨rfl, h11⟩
 haveI := h11.cel
 refine A2 (D2 (place := fun x => #[(0, 1)][x]?) (z := [vS]) (fun _ => by kernel_rfl) e0 bd0) rfl ?_
 refine A4 rfl (bx_ fun b13 => ?_)
 refine A2 (D2 (place := fun x => #[(0, 1), (1, 1), (2, 1), (3, 2), (5, 2), (7, 1), (8, 1)][x]?) (z := [vS, vS, vS, vS, E8, vS, E8, E8, .pointer none]) (fun _ => by kernel_rfl) (eS rfl (eS rfl (eS rfl e0))) (bdS 0 1 rfl qR (bdS 1 1 rfl qR (bdS 8 1 rfl qR bd0)))) rfl ?_
 refine A4 rfl (D3 (cs := [vS, vS, vS, vS, E8, vS, E8, E8, .pointer none]) kR rfl fun b7 => ?_)
 refine A4 rfl (C0 (vs := [v9, v11, vS, vS, .int .u32 0, vS, .int .u32 0, .int .u32 0, (vP b13)]) rfl rfl rfl kR qR (A3 h9.one (A3 h11.one (A3 rfl al6))) UpC.upd ?_)
 refine A0 (H9 0 1 2 6 7) (A1 (mv_ (mv_ ?_)))
 refine A2 (qf_ 0 0) rfl ?_
 refine A2 ql_ rfl ?_
 refine mv_ ?_
 refine A4 rfl (A9 (Mc := M9) (R := _) (aS rfl (aS rfl (aS rfl (aS rfl (a0))))) kR qP (B2l pb (D7 s) v1 v9 v2 sec (E0 s) their M9 _ hP9 qO (h1.mono qS) (h9.mono qS) (h2.mono qS) hG.up) rfl ?_)
 rintro v21 M21 J21 ⟨u0, u1, rfl, hP21, g0, g1⟩
 haveI := g0.cel
 haveI := g1.cel
 refine mv_ ?_
 refine A2 (Y3 rfl) rfl ?_
 refine A2 (X5 rfl) rfl ?_
 refine A2 (qf_ 2 2) rfl ?_
 refine A4 rfl (F3 rfl rfl g0.one kR SetC.set UpC.upd ?_)
 refine A2 (qf_ 3 3) rfl ?_
 refine A4 rfl (I4 (vs := [u1, .int .u32 0]) (cs' := [v9, v11, u0, u1, .int .u32 0, vS, .int .u32 0, .int .u32 0, (vP b13)]) rfl rfl rfl kR (by exact (show 3 + 2 ≤ 9 by decide)) (A3 g1.one (A3 rfl I5)) rfl UpC.upd ?_)
 refine A0 (D0 6 7) ?_
 refine A07 (B := [(b13, blk [vS] 195)]) qP ?_
 refine A1 ?_
 refine A2 (qw_ 9) rfl ?_
 refine A4 rfl (C0 (vs := [v9, v11, u0, u1, .int .u32 0, vS, .int .u32 0, .int .u32 0, (vP b13)]) rfl rfl rfl kR qR (A3 h9.one (A3 h11.one (A3 g0.one (A3 g1.one al5)))) UpC.upd ?_)
 refine A0 (C8 6) (A6 ?_)
 exact ⟨_, M21, [], A8C (n := 9) rfl rfl kR At.mem qR, Fit.none (Fit.last qP), hP21, v9, v11, u0, u1, vS, _, rfl, ⟨h9.mono qS, h11.mono qS, g0.mono qS, g1.mono qS, By.nil, StF.new qM, (show 0 < 4294967296 by decide), (show 0 < 4294967296 by decide), (show 0 < 4294967296 by decide), (show 0 ≤ 1000 by decide)⟩⟩
theorem B0E (r : Rsd) (vo vt vr vk vl vs : Value) (A : Mem) (hr : RsR A r vo vt vr vk vl vs) : FnX Tryz.prog 118 [.agg (rsC vo vt vr vk vl vs r).toArray] [] A fun q M J => ∃ cb, q = .agg (rsC vo vt vr vk vl (vP cb) r).toArray ∧ Sto A cb r.sks M := by
 haveI := hr.own.cel
 haveI := hr.their.cel
 haveI := hr.root.cel
 haveI := hr.sk.cel
 haveI := hr.tk.cel
 obtain ⟨sb, u, rows, rfl, hsb, hrd, hrw⟩ := hr.st
 have hsl := hr.sks
 unfold rsC
 refine FnX.enterZ (N := 8) Tryz.func118 rfl rfl rfl fun w_ => ?_
 refine A8 (C8 0) (A1 ?_)
 refine A4 rfl (bx_ fun b1 => ?_)
 refine A4 rfl (D3 (cs := [vS, vS, vS, vS, E8, vS, E8, E8, .pointer none]) kR rfl fun b2 => ?_)
 refine A0 (D0 1 2) (A1 ?_)
 refine A2 (qf_ 8 8) rfl ?_
 refine A2 ql_ rfl ?_
 refine F0 (aS rfl a0) kR (A62 sb _ u rows.flatten _ (mA hsb) (hrd.mono qS) (hrw.ones skT) qO) rfl ?_
 rintro v5 M5 J5 ⟨cb, u5, B5, rfl, rfl, hs5⟩
 refine A2 (qf_ 8 8) rfl ?_
 refine A4 rfl (F3 rfl rfl rfl kR SetC.set UpC.upd ?_)
 refine A0 (D0 1 2) (A1 ?_)
 refine A2 (qw_ 9) rfl ?_
 refine A4 rfl (C0 (vs := [vo, vt, vr, vk, (vU r.sn), vl, (vU r.tn), (vU r.prev), (vP cb)]) rfl rfl rfl kR qR (A3 hr.own.one (A3 hr.their.one (A3 hr.root.one (A3 hr.sk.one (A3 rfl (A3 hr.tk.one al3)))))) UpC.upd ?_)
 refine A0 (C8 2) (A6 ?_)
 exact ⟨_, (cb, blk [u5] 195) :: B5, [], A8C (n := 9) rfl rfl kR At.mem qR, Fit.none (Fit.pick (B := [_]) qP (Fit.last qP)), cb, rfl, ⟨u5, rows, B5, rfl, hs5, hrw⟩⟩
theorem A8l (vk : Value) (k : LN) (p n : Nat) (A : Mem) (hk : By A vk k) (hl : k.length ≤ 16000000) (hp : p < 4294967296) (hn : n < 4294967296) : FnX Tryz.prog 130 [.agg #[vk, (vU p), (vU n)]] [] A fun q M J => M = [] ∧ By J q (A3J k p n) := by
 haveI := hk.cel
 refine FnX.enterZ (N := 19) Tryz.func130 rfl rfl rfl fun w_ => ?_
 refine A8 (C8 0) (A1 ?_)
 refine A4 rfl (bx_ fun b1 => ?_)
 refine as_ (A0 (C8 1) (A1 ?_))
 refine A2 (D2 (place := fun x => #[(0, 1)][x]?) (z := [vS]) (fun _ => by kernel_rfl) e0 bd0) rfl ?_
 refine A4 rfl (bx_ fun b5 => ?_)
 refine as_ (A0 (D0 1 3) ?_)
 refine E5 ([(b5, blk [vS] 97)]) (_) true (.range 14) [(0, 0), (1, 0), (2, 1), (4, 0), (5, 1), (6, 0), (8, 0), (9, 1), (10, 0), (3, 2), (7, 2), (11, 2), (12, 2), (13, 0)] kR kR qP fun hs K n0 hKm hKs hKn => ?_
 refine km_ hs ?_
 refine E4 hs rfl (qf_ 0 0) rfl ?_
 refine I2 hs rfl hKs ql_ ?_
 refine E4 hs rfl (qf_ 1 1) rfl ?_
 refine I2 hs rfl hKs ql_ ?_
 refine E4 hs rfl (H2 (k' := .u64) p rfl kR (T3 qO)) rfl ?_
 refine E4 hs rfl (qf_ 2 2) rfl ?_
 refine I2 hs rfl hKs ql_ ?_
 refine E4 hs rfl (H2 (k' := .u64) n rfl kR (T3 qO)) rfl ?_
 refine F7 _ _ rfl rfl (List.Perm.refl _) hKm fun w0 => (A9 (Mc := [(b5, blk [vS] 97)]) (R := _) (aS rfl (aS rfl (a0))) kR qP (H3 b5 vk k [] _ _ Wtr.new (hk.mono qS) qD) rfl ?_)
 rintro v9 M9 J9 ⟨rfl, hW9⟩ hKx9
 refine F7 M9 _ rfl rfl qP (fun x hx => hKx9 (hKn rfl) x (by simpa using hx)) fun w0 => (A9 (Mc := M9) (R := _) (aS rfl (aS rfl (aS rfl (a0)))) kR qP (I3 b5 p 4 _ _ _ hW9 qO qD (by simp [F2]; omega)) rfl ?_)
 rintro v13 M13 J13 ⟨rfl, hW13⟩ hKx13
 refine F7 M13 _ rfl rfl qP (fun x hx => hKx13 (hKn rfl) x (by simpa using hx)) fun w0 => (A9 (Mc := M13) (R := _) (aS rfl (aS rfl (aS rfl (a0)))) kR qP (I3 b5 n 4 _ _ _ hW13 qO qD (by simp [F2]; omega)) rfl ?_)
 rintro v17 M17 J17 ⟨rfl, hW17⟩ hKx17
 refine F7 M17 _ rfl rfl qP (fun x hx => hKx17 (hKn rfl) x (by simpa using hx)) fun w0 => (A9 (Mc := M17) (R := _) (aS rfl (a0)) kR qP (P1 b5 _ M17 _ hW17 (by simp [F2]; omega)) rfl ?_)
 rintro v18 M18 J18 ⟨hW18, h18⟩ hKx18
 haveI := h18.cel
 refine E4 hs rfl (G4 rfl) rfl ?_
 refine H7 (C8 2) (A6 ?_)
 exact ⟨_, [], [], F4 rfl rfl, qZ, rfl, h18.mono qS⟩
theorem B0F (vw vk : Value) (w k : LN) (p n : Nat) (A : Mem) (hw : By A vw w) (hk : By A vk k) (hl : w.length + k.length ≤ 16000000) (hp : p < 4294967296) (hn : n < 4294967296) : FnX Tryz.prog 89 [vw, .agg #[vk, (vU p), (vU n)]] [] A fun q M J => M = [] ∧ By J q (A28 w (A3J k p n)) := by
 haveI := hw.cel
 haveI := hk.cel
 refine FnX.enterZ (N := 15) Tryz.func89 rfl rfl rfl fun w_ => ?_
 refine A8 (D0 0 1) (A1 ?_)
 refine A4 rfl (bx_ fun b3 => ?_)
 refine as_ (A0 (D0 0 3) (A1 ?_))
 refine A2 (D2 (place := fun x => #[(0, 1)][x]?) (z := [vS]) (fun _ => by kernel_rfl) e0 bd0) rfl ?_
 refine A4 rfl (bx_ fun b7 => ?_)
 refine as_ (A0 (E7 0 3 5) ?_)
 refine E5 ([(b7, blk [vS] 97)]) (_) true (.range 8) [(0, 0), (1, 0), (3, 1), (2, 2), (4, 2), (5, 2), (6, 2), (7, 0)] kR kR qP fun hs K n0 hKm hKs hKn => ?_
 refine km_ hs ?_
 refine km_ hs ?_
 refine I2 hs rfl hKs (qw_ 3) ?_
 refine F7 _ _ rfl rfl (List.Perm.refl _) hKm fun w0 => (A9 (Mc := [(b7, blk [vS] 97)]) (R := _) (aS rfl (aS rfl (a0))) kR qP (H3 b7 vw w [] _ _ Wtr.new (hw.mono qS) qD) rfl ?_)
 rintro v10 M10 J10 ⟨rfl, hW10⟩ hKx10
 refine F7 [] _ rfl rfl (List.Perm.refl _) (fun _ h => by cases h) fun w0 => (K1 (aS rfl a0) kR (A8l vk k p n _ (hk.mono qS) qO hp hn) rfl ?_)
 rintro v12 M12 J12 ⟨rfl, h12⟩ _
 haveI := h12.cel
 dsimp only [List.nil_append, List.append_eq]
 refine F7 M10 _ rfl rfl qP (fun x hx => hKx10 (hKn rfl) x (by simpa using hx)) fun w0 => (A9 (Mc := M10) (R := _) (aS rfl (aS rfl (a0))) kR qP (H3 b7 v12 (A3J k p n) _ _ _ hW10 (h12.mono qS) (by simp [F2]; omega)) rfl ?_)
 rintro v13 M13 J13 ⟨rfl, hW13⟩ hKx13
 refine F7 M13 _ rfl rfl qP (fun x hx => hKx13 (hKn rfl) x (by simpa using hx)) fun w0 => (A9 (Mc := M13) (R := _) (aS rfl (a0)) kR qP (P1 b7 _ M13 _ hW13 (by simp [F2, A27]; omega)) rfl ?_)
 rintro v14 M14 J14 ⟨hW14, h14⟩ hKx14
 haveI := h14.cel
 refine E4 hs rfl (G4 rfl) rfl ?_
 refine H7 (C8 4) (A6 ?_)
 exact ⟨_, [], [], F4 rfl rfl, qZ, rfl, h14.mono qS⟩

def n12 : LN := List.replicate 12 0
theorem A4D {a b x y : LN} (ha : a.length < 18446744073709551616) (hb : b.length < 18446744073709551616) (h : mark a ++ x = mark b ++ y) : a = b ∧ x = y := by
  unfold mark at h
  rw [List.append_assoc, List.append_assoc] at h
  obtain ⟨h1, h2⟩ := A1X (R9 (.inr rfl)) (R9 (.inr rfl)) (show dec a.length ++ 58 :: (a ++ x) = dec b.length ++ 58 :: (b ++ y) from h)
  have h3 : a.length = b.length := by
    have := congrArg dv h1
    rwa [V7 ha, V7 hb] at this
  exact List.append_inj h2 h3
theorem A65 {x : Int} {a b : LN} (h : Tmo (A3u x a b)) : a.length < 18446744073709551616 ∧ b.length < 18446744073709551616 := by
  have h1 : (mark a ++ mark b).length ≤ 1099511627776 := h.tl
  rw [List.length_append] at h1
  have h2 : a.length ≤ (mark a).length := by simp [mark]; omega
  have h3 : b.length ≤ (mark b).length := by simp [mark]; omega
  omega
theorem A8m {x y : Int} {a b c d : LN} (h1 : Tmo (A3u x a b)) (h2 : Tmo (A3u y c d)) (h : A3u x a b = A3u y c d) : x = y ∧ a = c ∧ b = d := by
  obtain ⟨l1, l2⟩ := A65 h1
  obtain ⟨l3, l4⟩ := A65 h2
  unfold A3u at h
  injection h with h1 h2 h3 h4
  obtain ⟨h5, h6⟩ := A4D l1 l3 h3
  obtain ⟨h7, -⟩ := A4D (x := []) (y := []) l2 l4 (by rw [List.append_nil, List.append_nil]; exact h6)
  exact ⟨(List.cons.inj h2).1, h5, h7⟩
def B0G (ts : List Tm) (w wa wg t : LN) : Prop := wg.length = 32 ∧ ∃ i j : Nat, plc wg ts.length = some i ∧ plc w ts.length = some j ∧ ts[i]? = some (A3u ((j : Nat) : Int) wa t)
theorem B0G.inj {ts : List Tm} (ht : Tok ts) {w wa wg t t' : LN} (h : B0G ts w wa wg t) (h' : B0G ts w wa wg t') : t = t' := by
  obtain ⟨-, i, j, h1, h2, h3⟩ := h
  obtain ⟨-, i', j', g1, g2, g3⟩ := h'
  rw [h1] at g1
  obtain rfl := Option.some.inj g1
  rw [h3] at g3
  have m1 := ht.tmo _ (List.mem_of_getElem? h3)
  have e := Option.some.inj g3
  exact (A8m m1 (e ▸ m1) e).2.2
open Classical in
noncomputable def B3F (ts : List Tm) (w wa wg : LN) : Option (LN) := if h : ∃ t, B0G ts w wa wg t then some (Classical.choose h) else none
noncomputable def opnO (s : Ps) (w wa wg : LN) : Option (LN) := if s.real then B1B (Z3 w 32) n12 wa wg else B3F s.ts w wa wg
def selS (s : Ps) (w wa wb : LN) : Ps := if s.real then s else B2E s w fun x => A3u x wa wb
def selK (s : Ps) (w wa wb : LN) : LN := if s.real then B1A (Z3 w 32) n12 wa wb else B2F s w fun x => A3u x wa wb
def A0m (ts : List Tm) : Prop := ∀ t ∈ ts, t.kind = 6 → ∃ x a b, t = A3u x a b ∧ (∀ y ∈ b, y < 256) ∧ b.length ≤ 16777216
theorem A0m.nil : A0m [] := fun t h => by cases h
theorem A0m.add {ts : List Tm} (h : A0m ts) {t : Tm} (ht : t.kind = 6 → ∃ x a b, t = A3u x a b ∧ (∀ y ∈ b, y < 256) ∧ b.length ≤ 16777216) : A0m (add ts t) := by
  unfold Go.Proofs.YtoameenjkiaefaaGreatDoor.add
  split
  · exact h
  · intro u hu hk
    rcases List.mem_append.1 hu with hu | hu
    · exact h u hu hk
    · rw [List.mem_singleton.1 hu] at hk ⊢; exact ht hk
theorem A0m.not {ts : List Tm} (h : A0m ts) {t : Tm} (ht : t.kind ≠ 6) : A0m (Go.Proofs.YtoameenjkiaefaaGreatDoor.add ts t) := h.add fun hk => absurd hk ht
theorem A0m.rd {ts : List Tm} (h : A0m ts) (w : LN) : A0m (rdT ts w) := by
  unfold rdT
  split
  · exact h
  · exact h.not (show (2 : Nat) ≠ 6 by decide)
theorem B0H (pb : Nat × Nat) (s : Ps) (v v2 v3 : Value) (w wa wb : LN) (MP A : Mem) (hP : Prm pb s MP) (hn : s.ts.length < 1048576) (hv : By A v w) (hya : By A v2 wa) (hyb : By A v3 wb) (hl : wa.length + wb.length ≤ 16000000) (hG : Glb A) : FnX Tryz.prog 88 [.pointer (some ⟨pb.1, 0, none⟩), v, v2, v3] MP A fun q M J => Prm pb (selS s w wa wb) M ∧ By J q (selK s w wa wb) := by
  obtain ⟨bt, bm, hT⟩ := hP.t
  exact (A6l pb bt bm s rfl v v2 v3 w wa wb MP A hT hn hv hya hyb hG).mono fun q M J h => ⟨h.1.p, h.2⟩
end Go.Proofs.YtoameenjkiaefaaGreatDoor
namespace Go.Px
theorem FnX.amb {P : Program} {f : FuncId} {args : List Value} {M A A' : Mem} {post : Value → Mem → Mem → Prop} (hA : ∀ x, x ∈ A → x ∈ A') (h : FnX P f args M A post) : FnX P f args M A' post := by
  intro w hw
  have h1 : St ⟨P, w, M.map Prod.fst, A, 0⟩ M [] w := ⟨hw.os, hw.tape, hw.output, hw.size, hw.frame, fun b o hb => hw.mem b o (by
    rcases List.mem_append.1 hb with hb | hb
    · exact List.mem_append_left _ hb
    · exact List.mem_append_right _ (hA _ hb)), hw.nodup, hw.own, hw.sepJ, fun b o hb => hw.sepA b o (hA _ hb), hw.old⟩
  refine Calls.mono (h w h1) ?_
  rintro e w' ⟨r, M', J', rfl, hp, hs⟩
  refine ⟨r, M', J', rfl, hp, ⟨hs.os, hs.tape, hs.output, hs.size, hs.frame, fun b o hb => ?_, hs.nodup, hs.own, hs.sepJ, hw.sepA, hs.old⟩⟩
  rcases List.mem_append.1 hb with hb | hb
  · exact hs.mem b o (List.mem_append_left _ hb)
  · rcases List.mem_append.1 hb with hb | hb
    · exact hs.mem b o (List.mem_append_right _ (List.mem_append_left _ hb))
    · have h2 := hw.sepA b o hb
      rw [hs.frame b h2.2 h2.1]
      exact hw.mem b o (List.mem_append_right _ hb)
end Go.Px

namespace Go.Proofs.YtoameenjkiaefaaGreatDoor
open Go.Px
theorem B0I {P : Program} {fn : Func} {l : Env} {R : Mem} {t1 t2 u x b1 b2 n1 n2 : Nat} {y1 y2 : TypeId} {c1 c2 : List Value} {e1 e2 : TypeId} {f1 f2 : Nat × Nat} {v z : Value} (h : fn.results = #[.cell t1 y1, .cell t2 y2, .tmp u, .tmp x]) (h1 : lk l t1 = some (vP b1)) (h2 : lk l t2 = some (vP b2)) (hu : lk l u = some v) (hx : lk l x = some z) (ht1 : A3a P y1 = some n1) (ht2 : A3a P y2 = some n2)
    (hb1 : (b1, Obj.cells c1.toArray e1 f1) ∈ R) (hb2 : (b2, Obj.cells c2.toArray e2 f2) ∈ R) (hn1 : c1.length = n1) (hn2 : c2.length = n2) : Res P fn l R (.tuple #[.agg c1.toArray, .agg c2.toArray, v, z]) := fun N a w ha hw => by
  obtain ⟨d1, g1, g2, g3⟩ := L5 ht1
  obtain ⟨d2, k1, k2, k3⟩ := L5 ht2
  have l1 := run_loadVar_row (P := P) w b1 e1 y1 c1.toArray f1 d1 (hw b1 _ hb1) g1 (by cases d1 <;> simp_all [TypeDesc.isRow]) (by rw [g3, ← hn1]; simp)
  have l2 := run_loadVar_row (P := P) w b2 e2 y2 c2.toArray f2 d2 (hw b2 _ hb2) k1 (by cases d2 <;> simp_all [TypeDesc.isRow]) (by rw [k3, ← hn2]; simp)
  simp [results, h, ha.slot t1 _ h1, ha.slot t2 _ h2, ha.slot u _ hu, ha.slot x _ hx, asAddr, l1, l2]
noncomputable def Q8 (s : Ps) (r : Rsd) : Rsd := { r with sk := A8k (H5 s r.own) r.sk, sn := (r.sn + 1) % 4294967296 }
noncomputable def B2M (s : Ps) (r : Rsd) (w : LN) : LN := A28 w (A3J (I9 s r.own) r.prev r.sn)
noncomputable def B2m (s : Ps) (r : Rsd) (w t : LN) : Ps := selS (A1s (H5 s r.own) r.sk) (A5h (H5 s r.own) r.sk) (B2M s r w) t
noncomputable def A5p (s : Ps) (r : Rsd) (w t : LN) : LN := selK (A1s (H5 s r.own) r.sk) (A5h (H5 s r.own) r.sk) (B2M s r w) t
theorem A66 (s : Ps) (key : LN) : (A1s s key).ts.length ≤ s.ts.length + 3 ∧ (A1s s key).n = s.n ∧ (A1s s key).real = s.real := by
  have h1 := A4f s key [] A26 2
  have h2 := A08 s key [] A26 2
  have e : ([] : List (LN)).length = 0 := rfl
  unfold A1s
  exact ⟨by omega, h2.2.1, h2.1⟩
theorem B0J (pb : Nat × Nat) (s : Ps) (r : Rsd) (vo vt vr vk vl vs vw vx : Value) (w tx : LN) (MP A : Mem) (hP : Prm pb s MP) (hn : s.ts.length + 200 ≤ 1040000) (hr : RsR A r vo vt vr vk vl vs) (hsk : 0 < r.sk.length) (hw : By A vw w) (hwl : w.length ≤ 1000000) (hx : By A vx tx) (hxl : tx.length ≤ 1000000) (hG : Glb A) : FnX Tryz.prog 74 [.pointer (some ⟨pb.1, 0, none⟩), .agg (rsC vo vt vr vk vl vs r).toArray, vw, vx] MP A fun q M J => ∃ q1 q2 q3, q = .tuple #[q1, .agg #[q2, (vU r.prev), (vU r.sn)], q3, .int .i64 0] ∧ Prm pb (B2m s r w tx) M ∧ RsV (J ++ A) q1 (Q8 s r) ∧ By (J ++ A) q2 (I9 s r.own) ∧ By (J ++ A) q3 (A5p s r w tx) := by
 haveI := hr.own.cel
 haveI := hr.their.cel
 haveI := hr.root.cel
 haveI := hr.sk.cel
 haveI := hr.tk.cel
 haveI := hw.cel
 haveI := hx.cel
 have hst := hr.st
 obtain ⟨sb, u0, rows0, rfl, hsb, hrd0, hrw0⟩ := hst
 have f1 := B0B s r.own
 have f2 := A66 (H5 s r.own) r.sk
 have f3 := B0C s r.own
 unfold rsC
 refine FnX.enterZ (N := 52) Tryz.func74 rfl rfl rfl fun w_ => ?_
 refine A8 (F8 0 1 2 3) (A1 ?_)
 refine A4 rfl (bx_ fun b5 => ?_)
 refine A4 rfl (D3 (cs := [vS, vS, vS, vS, E8, vS, E8, E8, .pointer none]) kR rfl fun b8 => ?_)
 refine A4 rfl (D3 (cs := [vS, .int .u32 0, .int .u32 0]) kR rfl fun b9 => ?_)
 refine as_ (as_ (A0 (L1 0 2 3 5 8 9) (A7 (A1 ?_))))
 refine A2 (qf_ 3 3) rfl ?_
 refine A2 (qf_ 3 0) rfl ?_
 refine A2 ql_ rfl ?_
 refine A2 (E1 (sz := 1) rfl kR hr.sk.rd) rfl ?_
 refine A2 (F6 false rfl rfl (eqF qO)) rfl ?_
 refine A0 (V0 0 2 3 5 8 9 19) ?_
 refine B8 rfl ?_
 refine A5 (nx (L1 0 2 3 5 8 9) ?_)
 refine E5 (MP) (_) true (.range 11) [(0, 0), (1, 0), (2, 1), (4, 0), (5, 1), (6, 0), (7, 0), (8, 1), (3, 3), (9, 3), (10, 4), (11, 2)] kR kR qP fun hs K n0 hKm hKs hKn => ?_
 refine km_ hs ?_
 refine E4 hs rfl (qf_ 0 0) rfl ?_
 refine I2 hs rfl hKs ql_ ?_
 refine E4 hs rfl (qf_ 7 7) rfl ?_
 refine I2 hs rfl hKs ql_ ?_
 refine E4 hs rfl (qf_ 3 3) rfl ?_
 refine E4 hs rfl (qf_ 4 1) rfl ?_
 refine I2 hs rfl hKs ql_ ?_
 refine S2 [⟨3, 25, none, MP, fun v B R => Prm pb (H5 s r.own) B ∧ By R v (I9 s r.own)⟩, ⟨9, 31, none, [], fun v B R => B = [] ∧ ∃ u, v = .agg #[u, (vU r.prev), (vU r.sn)] ∧ By R u (I9 s r.own)⟩, ⟨10, 12, none, [], fun v B _ => ∃ b, v = (vP b) ∧ B = [(b, blk [vS, .int .u32 0, .int .u32 0] 35)]⟩] ([(b9, blk [vS, .int .u32 0, .int .u32 0] 35), (b8, blk [vS, vS, vS, vS, .int .u32 0, vS, .int .u32 0, .int .u32 0, .pointer none] 72), (b5, blk [vo, vt, vr, vk, (vU r.sn), vl, (vU r.tn), (vU r.prev), (vP sb)] 72)]) (fun bs => [bs 3, bs 9, bs 10]) (hKn rfl) (by simp [S1, V3]) (show ∀ m ∈ ([MP, [], []] : List Mem), ∀ x ∈ m, K x.1 from A3 (hKm) (A3 (fun _ h => by cases h) (A3 (fun _ h => by cases h) (I5)))) kR (fun _ => by first | rfl | kernel_rfl)
  (A3 (fun _ _ _ _ h ⟨p1, p2⟩ => ⟨p1, p2.mono h⟩) (A3 (fun _ _ _ _ h ⟨p1, u, e, p2⟩ => ⟨p1, u, e, p2.mono h⟩) (A3 (fun _ _ _ _ _ h => h) (I5)))) (show List.Nodup [25, 31, 12] by decide) (show List.Nodup [3, 9, 10] by decide) (A3 (D6 rfl) (A3 (D6 rfl) (A3 (D6 rfl) (I5))))
  (A3 ⟨_, rfl, fun vs bs R Rj wG hb hj hjr ha => ⟨.inl rfl, ?_⟩⟩ (A3 ⟨_, rfl, fun vs bs R Rj wG hb hj hjr ha => ⟨.inl rfl, ?_⟩⟩ (A3 ⟨_, rfl, fun vs bs R Rj wG hb hj hjr ha => ⟨.inl rfl, ?_⟩⟩ (I5)))) ?_
 ·
  dsimp only [Gc.inp]
  refine A9 (Mc := MP) (R := []) (aS rfl (aS rfl (a0))) kR qM (X1 pb s vo r.own MP _ hP qO (hr.own.mono (fun x hx => by have := hb x (by simp [hx]); simp [this])) (hG.sub (fun x hx => by have := hb x (by simp [hx]); simp [this]))) rfl ?_
  rintro v25 M25 J25 ⟨hP25, h25⟩
  exact ⟨_, rfl, by simpa using hP25, h25.mono fun x hx => by simp [hx]⟩
 ·
  dsimp only [Gc.inp]
  have g3 := ha _ (List.mem_of_getElem? (i := 0) rfl) kR
  replace g3 : (fun v B R => Prm pb (H5 s r.own) B ∧ By R v (I9 s r.own)) (vs 3) (bs 3) Rj := g3
  dsimp only at g3
  obtain ⟨-, h25⟩ := g3
  haveI := h25.cel
  dsimp only [L9, List.map, List.cons_append, List.nil_append]
  exact OpQ.opL (D2 (place := fun x => #[(0, 1), (1, 1), (2, 1)][x]?) (z := [vS, .int .u32 0, .int .u32 0]) (fun _ => by kernel_rfl) (eS rfl (eS rfl (eS rfl e0))) (bdS 0 1 rfl qR (bdS 1 1 rfl qR (bdS 2 1 rfl qR bd0)))) rfl ⟨_, rfl, rfl, _, rfl, h25⟩
 ·
  dsimp only [Gc.inp]
  exact D3 (cs := [vS, .int .u32 0, .int .u32 0]) kR rfl fun b => ⟨_, rfl, b, rfl, rfl⟩
 intro vs bs Jn0 hφ hKK
 have kk3 := hKK _ (List.mem_of_getElem? (i := 0) rfl)
 dsimp only at kk3
 have kk9 := hKK _ (List.mem_of_getElem? (i := 1) rfl)
 dsimp only at kk9
 have kk10 := hKK _ (List.mem_of_getElem? (i := 2) rfl)
 dsimp only at kk10
 clear hKK
 have g3 := ofH hφ
 dsimp only at g3
 replace hφ := ofT hφ
 have g9 := ofH hφ
 dsimp only at g9
 replace hφ := ofT hφ
 have g10 := ofH hφ
 dsimp only at g10
 clear hφ
 dsimp only [L9, S1, List.foldr, List.map, List.cons_append, List.nil_append]
 generalize bs 3 = B25 at *
 generalize bs 9 = B31 at *
 generalize bs 10 = B12 at *
 generalize vs 3 = u25 at *
 generalize vs 9 = u31 at *
 generalize vs 10 = u12 at *
 obtain ⟨hP25, -⟩ := g3
 obtain ⟨rfl, v25, rfl, h25⟩ := g9
 obtain ⟨b12, rfl, rfl⟩ := g10
 haveI := h25.cel
 refine I6 rfl rfl rfl (C0 (vs := [v25, (vU r.prev), (vU r.sn)]) rfl rfl rfl kR qR (A3 h25.one al2) UpC.upd ?_)
 refine H7 (V0 0 2 3 5 8 9 12) (A1 ?_)
 refine A2 (qw_ 9) rfl ?_
 refine F0 (aS rfl a0) kR (FnX.amb qS (B0E r vo vt vr vk vl _ A hr)) rfl ?_
 rintro v33 M33 J33 ⟨cb, rfl, hSt⟩
 obtain ⟨u5, rows5, BS, rfl, hs5, hw5⟩ := hSt.ex
 unfold rsC
 refine A4 rfl (C0 (vs := [vo, vt, vr, vk, (vU r.sn), vl, (vU r.tn), (vU r.prev), (vP cb)]) rfl rfl rfl kR qR (A3 hr.own.one (A3 hr.their.one (A3 hr.root.one (A3 hr.sk.one (A3 rfl (A3 hr.tk.one al3)))))) UpC.upd ?_)
 refine A0 (V0 0 2 3 5 8 9 12) ?_
 refine A07 (B := (cb, blk [u5] 195) :: BS) qP ?_
 have hrd5 := hs5.rd (R := BS) fun _ h => h
 refine A1 (mv_ ?_)
 refine A2 (qf_ 3 3) rfl ?_
 refine A2 (A3k (n := 2) rfl kR (by first | exact At.mem | exact mA (by assumption)) TakeC.take) rfl ?_
 refine A4 rfl (A9 (Mc := B25) (R := _) (aS rfl (aS rfl (a0))) kR qP (A64 pb (H5 s r.own) vk r.sk r.sn B25 _ hP25 (hr.sk.mono qS) qO hG.up) rfl ?_)
 rintro v38 M38 J38 ⟨k1, k2, rfl, hP38, hb1, hb2⟩
 haveI := hb1.cel
 haveI := hb2.cel
 refine mv_ ?_
 refine A2 (Y3 rfl) rfl ?_
 refine A2 (X5 rfl) rfl ?_
 refine A4 rfl (D3 (cs := [vS, .int .u32 0]) kR rfl fun b14 => ?_)
 refine as_ ?_
 refine A4 rfl (C0 (vs := [k2, .int .u32 (((r.sn + 1) % 4294967296 : Nat) : Int)]) rfl rfl rfl kR qR (A3 hb2.one (A3 rfl I5)) UpC.upd ?_)
 refine A0 (A5w 0 2 3 5 8 9 12 13 14) (A1 ?_)
 refine A2 (qw_ 2) rfl ?_
 refine A2 (qf_ 3 3) rfl ?_
 refine A4 rfl (I4 (vs := [k2, .int .u32 (((r.sn + 1) % 4294967296 : Nat) : Int)]) (cs' := [vo, vt, vr, k2, .int .u32 (((r.sn + 1) % 4294967296 : Nat) : Int), vl, (vU r.tn), (vU r.prev), (vP cb)]) rfl rfl rfl kR (by exact (show 3 + 2 ≤ 9 by decide)) (A3 hb2.one (A3 rfl I5)) rfl UpC.upd ?_)
 refine A0 (A4H 0 2 3 5 8 9 12 13) ?_
 refine E5 (M38 ++ [(b8, blk [vS, vS, vS, vS, .int .u32 0, vS, .int .u32 0, .int .u32 0, .pointer none] 72)]) (_) true [0, 1, 2, 3, 4, 5, 6, 7, 8, 9, 11, 12] [(0, 1), (1, 1), (2, 0), (3, 0), (4, 0), (5, 1), (7, 0), (6, 2), (8, 2), (9, 2), (10, 2), (11, 0), (12, 0)] kR kR qP fun hs K n0 hKm hKs hKn => ?_
 refine I2 hs rfl hKs (qw_ 9) ?_
 refine I2 hs rfl hKs (qw_ 3) ?_
 refine km_ hs ?_
 refine km_ hs ?_
 refine km_ hs ?_
 refine I2 hs rfl hKs (qw_ 3) ?_
 refine km_ hs ?_
 refine F7 [] _ rfl rfl (List.Perm.refl _) (fun _ h => by cases h) fun w0 => (K1 (aS rfl (aS rfl a0)) kR (B0F vw v25 w (I9 s r.own) r.prev r.sn _ (hw.mono qS) (h25.mono qS) qO hr.prev hr.sn) rfl ?_)
 rintro v49 M49 J49 ⟨rfl, h49⟩ _
 haveI := h49.cel
 dsimp only [List.nil_append, List.append_eq]
 refine F7 M38 _ rfl rfl qP (fun x hx => hKm x (List.mem_append_left _ hx)) fun w0 => (A9 (Mc := M38) (R := _) (aS rfl (aS rfl (aS rfl (aS rfl (a0))))) kR qP (B0H pb (A1s (H5 s r.own) r.sk) k1 v49 vx (A5h (H5 s r.own) r.sk) (B2M s r w) tx M38 _ hP38 qO (hb1.mono qS) (h49.mono qS) (hx.mono qS) (by unfold B2M; rw [A5j, A27]; omega) hG.up) rfl ?_)
 rintro v51 M51 J51 ⟨hP51, h51⟩ hKx51
 haveI := h51.cel
 refine F7 [(b8, blk [vS, vS, vS, vS, .int .u32 0, vS, .int .u32 0, .int .u32 0, .pointer none] 72)] _ rfl rfl qP (fun x hx => hKm x (List.mem_append_right _ hx)) fun w0 => (C0 (vs := [vo, vt, vr, k2, .int .u32 (((r.sn + 1) % 4294967296 : Nat) : Int), vl, (vU r.tn), (vU r.prev), (vP cb)]) rfl rfl rfl kR qR (A3 hr.own.one (A3 hr.their.one (A3 hr.root.one (A3 hb2.one (A3 rfl (A3 hr.tk.one al3)))))) UpC.upd ?_)
 intro _
 dsimp only [List.cons_append, List.nil_append, List.append_eq]
 refine I6 rfl rfl rfl (C0 (vs := [v25, (vU r.prev), (vU r.sn)]) rfl rfl rfl kR qR (A3 h25.one al2) UpC.upd ?_)
 refine E4 hs rfl (G4 rfl) rfl ?_
 refine E4 hs rfl (G4 rfl) rfl ?_
 refine H7 (F8 8 9 10 11) (A6 ?_)
 exact ⟨_, M51, [], B0I (n1 := 9) (n2 := 3) rfl rfl rfl rfl rfl kR kR At.mem At.mem qR qR, Fit.none (Fit.last qP), _, v25, v51, rfl, hP51, ⟨vo, vt, vr, k2, vl, _, rfl, ⟨hr.own.mono qS, hr.their.mono qS, hr.root.mono qS, hb2.mono qS, hr.tk.mono qS, ⟨cb, u5, rows5, rfl, by simp, hrd5.mono qS, hw5.mono skT qS⟩, Nat.mod_lt _ qD, hr.tn, hr.prev, hr.sks⟩⟩, h25.mono qS, h51.mono qS⟩

def ahE (N n : Nat) : Int := if n < N then 8 else if 16 < n - N then 7 else 0
def ahX (s : Ps) (key : LN) (N n : Nat) (of : LN) (sks : List Skp) : Ast := if ahE N n = 0 then rep (aSt of) (n - N) (s, key, N, sks) else (s, key, N, sks)
def alW (w hk : LN) (hp hn : Nat) : LN := A28 w (A3J hk hp hn)
def B2N (r : Rsd) (hk : LN) : Bool := !(decide (hk = r.their)) || decide (r.tk = [])
def opA (s : Ps) (r : Rsd) (hp : Nat) : Ast := if r.tk = [] then (s, r.tk, r.tn, r.sks) else ahX s r.tk r.tn hp r.their r.sks
def opAE (r : Rsd) (hp : Nat) : Int := if r.tk = [] then 0 else ahE r.tn hp
noncomputable def opBf (x : Ast) (r : Rsd) (hk : LN) : Ps × Rsd := (B2J x.1 r.root r.own hk, ⟨r.own, hk, B2K x.1 r.root r.own hk, r.sk, r.sn, B2L x.1 r.root r.own hk, 0, r.prev, x.2.2.2⟩)
noncomputable def opB (s : Ps) (r : Rsd) (hk : LN) (hp : Nat) : Ps × Rsd := if B2N r hk = true then opBf (opA s r hp) r hk else (s, r)
def opC (x : Ps × Rsd) (hn : Nat) : Ast := ahX x.1 x.2.tk x.2.tn hn x.2.their x.2.sks
def opD (x : Ps × Rsd) (hn : Nat) : Ps := A1s (opC x hn).1 (opC x hn).2.1
def opDK (x : Ps × Rsd) (hn : Nat) : LN := A5h (opC x hn).1 (opC x hn).2.1
def opG (r : Rsd) (x : Ps × Rsd) (hn : Nat) : Rsd := ⟨r.own, x.2.their, x.2.root, r.sk, r.sn, A8k (opC x hn).1 (opC x hn).2.1, ((opC x hn).2.2.1 + 1) % 4294967296, r.prev, (opC x hn).2.2.2⟩
noncomputable def opF (s : Ps) (r : Rsd) : Ps × Rsd := (B2J (D7 s) r.root (E0 s) r.their, ⟨E0 s, r.their, B2K (D7 s) r.root (E0 s) r.their, B2L (D7 s) r.root (E0 s) r.their, 0, r.tk, r.tn, r.sn, r.sks⟩)
noncomputable def opZ (b : Bool) (s : Ps) (r : Rsd) : Ps × Rsd := if b = true then opF s r else (s, r)
noncomputable def openR (s : Ps) (r : Rsd) (w hk : LN) (hp hn : Nat) (g : LN) : Ps × Rsd × Int × LN :=
  match getS r.sks hk hn with
  | some k => match opnO s k (alW w hk hp hn) g with
    | none => (s, r, 6, [])
    | some t => (s, ⟨r.own, r.their, r.root, r.sk, r.sn, r.tk, r.tn, r.prev, B3E r.sks hk hn⟩, 0, t)
  | none => if B2N r hk = true ∧ opAE r hp ≠ 0 then ((opA s r hp).1, r, opAE r hp, []) else
    if ahE (opB s r hk hp).2.tn hn ≠ 0 then ((opC (opB s r hk hp) hn).1, r, ahE (opB s r hk hp).2.tn hn, []) else
    match opnO (opD (opB s r hk hp) hn) (opDK (opB s r hk hp) hn) (alW w hk hp hn) g with
    | none => (opD (opB s r hk hp) hn, r, 6, [])
    | some t => ((opZ (B2N r hk) (opD (opB s r hk hp) hn) (opG r (opB s r hk hp) hn)).1, (opZ (B2N r hk) (opD (opB s r hk hp) hn) (opG r (opB s r hk hp) hn)).2, 0, t)
section
variable {s : Ps} {r : Rsd} {w hk : LN} {hp hn : Nat} {g t k : LN}
end
theorem StF.cel {R : Mem} {v : Value} {sks : List Skp} (h : StF R v sks) : Cel v [v] := by obtain ⟨sb, u, rows, rfl, _⟩ := h; infer_instance
def B2n : LN := [115, 101, 115, 115, 105, 111, 110]
structure Ses where
  id : LN
  wi : LN
  he : He
  tell : Bool
  r : Rsd
def seC (vi vw p r u vo vt vr vk vl vs : Value) (x : Ses) : List Value := [vi, vw, p, r, u, (vU x.he.signed), .bool x.he.has, (vU x.he.once), .bool x.tell, vo, vt, vr, vk, (vU x.r.sn), vl, (vU x.r.tn), (vU x.r.prev), vs]
structure SeR (R : Mem) (x : Ses) (vi vw p r u vo vt vr vk vl vs : Value) : Prop where
  id : By R vi x.id
  wi : By R vw x.wi
  he : HeR R x.he p r u
  hil : x.he.ig.length ≤ 1000000
  r : RsR R x.r vo vt vr vk vl vs
theorem SeR.mono {R R' : Mem} {x : Ses} {vi vw p r u vo vt vr vk vl vs : Value} (h : SeR R x vi vw p r u vo vt vr vk vl vs) (hR : ∀ z, z ∈ R → z ∈ R') : SeR R' x vi vw p r u vo vt vr vk vl vs := ⟨h.id.mono hR, h.wi.mono hR, h.he.mono hR, h.hil, h.r.mono hR⟩
theorem A8n (v : Value) (w : LN) (A : Mem) (h : By A v w) : FnX Tryz.prog 47 [v] [] A fun r M J => Sl 1 r w.length (H6 .u8 w) M := by
 haveI := h.cel
 have hwl := h.len
 refine FnX.enterZ (N := 8) Tryz.func47 rfl rfl rfl fun w_ => ?_
 refine A8 (C8 0) (A1 (as_ (A0 (C8 0) (A7 (A1 (mv_ ?_))))))
 refine A2 (A0b (e := 5) rfl kR (by first | assumption | exact Sl.rd (by assumption) qI | exact By.rd (by assumption))) rfl ?_
 refine A0 (D0 0 4) ?_
 refine C4 rfl ?_ ?_ <;> intro hc
 ·
  have h0 := h.rd.isNil hc
  obtain rfl : w = [] := List.eq_nil_of_length_eq_zero h0
  refine A1 (as_ (A0 (C8 2) (A6 (tr ?_))))
  exact ⟨_, [], [], F4 rfl rfl, qZ, Sl.nil⟩
 ·
  refine A5 (nx (C8 0) (A1 ?_))
  refine A4 rfl (C3 (e := 5) (sz := 1) (z := []) kR e0 bd0 rfl fun b5 => ?_)
  refine mv_ ?_
  refine A4 rfl (G1 (e := 5) (sz := 1) (by_ := 1) rfl rfl kR rfl (Sl.fresh (n := 0) (cs := []) (e := 5) rfl qD) (h.rd.mono qS) S8 qP (by unfold maxLen; omega) qO rfl fun v7 B7 hs7 => ?_)
  refine as_ (A0 (C8 2) (A6 ?_))
  exact ⟨_, B7, [], F4 rfl rfl, Fit.none (Fit.last qP), A5D hs7 qO qM⟩
theorem B2o (pb : Nat × Nat) (s : Ps) (vw : Value) (w : LN) (h : He) (p r u : Value) (MP A : Mem) (hP : Prm pb s MP) (hn : s.ts.length ≤ 1040000) (hw : By A vw w) (gh : HeR A h p r u) (hil : h.ig.length ≤ 1000000) (hl : h.ia.length + h.ig.length + h.key.length ≤ 1000000) (hG : Glb A) : FnX Tryz.prog 64 [.pointer (some ⟨pb.1, 0, none⟩), vw, .agg (heC p r u h).toArray] MP A fun q M J => Prm pb (A61 s [B2n, w, heW [] h]) M ∧ By J q (B0z s [B2n, w, heW [] h]) := by
 obtain ⟨bt, bm, hPT⟩ := hP.t
 haveI := hw.cel
 haveI := gh.ia.cel
 haveI := gh.ig.cel
 haveI := gh.key.cel
 unfold heC
 refine FnX.enterZ (N := 15) Tryz.func64 rfl rfl rfl fun w_ => ?_
 refine A8 (E7 0 1 2) (A1 ?_)
 refine A4 rfl (bx_ fun b5 => ?_)
 refine as_ (A0 (E7 0 1 5) (A1 (mv_ ?_)))
 refine A4 rfl (C3 (e := 5) (sz := 1) (z := [zu8, zu8, zu8, zu8, zu8, zu8, zu8]) kR (eS rfl (eS rfl (eS rfl (eS rfl (eS rfl (eS rfl (eS rfl e0))))))) (bdS 0 1 rfl qR (bdS 1 1 rfl qR (bdS 2 1 rfl qR (bdS 3 1 rfl qR (bdS 4 1 rfl qR (bdS 5 1 rfl qR (bdS 6 1 rfl qR bd0))))))) rfl fun b8 => ?_)
 refine A4 rfl (A3T rfl kR UpC.upd rfl ?_)
 refine A6a (B := [_]) (PickC.sing).perm ?_
 refine mv_ ?_
 refine A2 (E6 (n := 6) (vs := [p, r, u, (vU h.signed), .bool h.has, (vU h.once)]) rfl kR At.mem rfl (D4 [] [p, r, u, (vU h.signed), .bool h.has, (vU h.once)] [])) rfl ?_
 refine F0 (aS rfl a0) kR (B0g h p r u _ (gh.mono qS) qO) rfl ?_
 rintro v12 M12 J12 ⟨rfl, h12⟩
 haveI := h12.cel
 refine A4 rfl (C3 (e := 22) (sz := 1) (z := [vS, vS, vS]) kR (eS rfl (eS rfl (eS rfl e0))) (bdS 0 1 rfl qR (bdS 1 1 rfl qR (bdS 2 1 rfl qR bd0))) rfl fun b13 => ?_)
 refine A4 rfl (A9 (Mc := MP) (R := _) (aS rfl (aS rfl (a0))) kR qP (B2j pb bt bm s rfl _ [B2n, w, heW [] h] MP _ hPT qO ⟨_, Rd.whole (n := 3) At.mem qR, Lst.cons ⟨Rd.whole (n := 7) (cs := H6 .u8 B2n) At.mem qR, by decide, by decide⟩ (Lst.cons (hw.mono qS) (Lst.cons (h12.mono qS) Lst.nil))⟩ (show 3 ≤ 1000 by decide) (fun z hz => by simp only [List.mem_cons, List.not_mem_nil, or_false] at hz; rcases hz with rfl | rfl | rfl; decide; exact hw.lt; exact h12.lt) hG.up) rfl ?_)
 rintro v14 M14 J14 ⟨hP14, h14⟩
 haveI := h14.cel
 refine as_ (A0 (C8 6) (A6 ?_))
 exact ⟨_, M14, [], F4 rfl rfl, Fit.none (Fit.last qP), hP14.p, h14.mono qS⟩
theorem A8o (x : Ses) (vi vw p0 r0 u0 vo vt vr vk0 vl vst : Value) (e : Ev) (vs p r u vk vg : Value) (A : Mem) (hx : SeR A x vi vw p0 r0 u0 vo vt vr vk0 vl vst) (he_ : EvR A e vs p r u vk vg) (hwi : x.wi.length ≤ 1000000) (hl : e.ses.length + e.he.ia.length + e.he.ig.length + e.he.key.length ≤ 1000000) : FnX Tryz.prog 68 [.agg (seC vi vw p0 r0 u0 vo vt vr vk0 vl vst x).toArray, .agg (evC vs p r u vk vg e).toArray] [] A fun q M J => M = [] ∧ By J q (x.wi ++ frW [] e) := by
 haveI := he_.ses.cel
 haveI := he_.he.ia.cel
 haveI := he_.he.ig.cel
 haveI := he_.he.key.cel
 haveI := he_.hk.cel
 haveI := he_.g.cel
 haveI := hx.id.cel
 haveI := hx.wi.cel
 haveI := hx.he.ia.cel
 haveI := hx.he.ig.cel
 haveI := hx.he.key.cel
 haveI := hx.r.own.cel
 haveI := hx.r.their.cel
 haveI := hx.r.root.cel
 haveI := hx.r.sk.cel
 haveI := hx.r.tk.cel
 haveI := hx.r.st.cel
 unfold seC evC
 refine FnX.enterZ (N := 11) Tryz.func68 rfl rfl rfl fun w_ => ?_
 refine A8 (D0 0 1) (A1 ?_)
 refine A4 rfl (bx_ fun b2 => ?_)
 refine A4 rfl (bx_ fun b3 => ?_)
 refine as_ (A0 (D0 2 3) ?_)
 refine F5 [0, 1, 2, 3, 4, 6] [(0, 0), (1, 1), (3, 1), (2, 2), (4, 2), (5, 2), (6, 0)] kR kR fun hs => ?_
 refine D9 hs rfl (qf_ 1 1) rfl ?_
 refine Q5 hs rfl ql_ rfl ?_
 refine Q5 hs rfl (E6 (n := 16) (vs := [.int .i64 e.fu, .int .i64 e.fd, .int .i64 e.tu, .int .i64 e.td, vs, .bool e.has, p, r, u, (vU e.he.signed), .bool e.he.has, (vU e.he.once), vk, (vU e.hp), (vU e.hn), vg]) rfl kR At.mem rfl (D4 [] [.int .i64 e.fu, .int .i64 e.fd, .int .i64 e.tu, .int .i64 e.td, vs, .bool e.has, p, r, u, (vU e.he.signed), .bool e.he.has, (vU e.he.once), vk, (vU e.hp), (vU e.hn), vg] [])) rfl ?_
 refine A0S rfl (aS rfl a0) kR (A8n vw x.wi _ (hx.wi.mono qS)) rfl ?_
 rintro v7 M7 J7 hs7
 haveI := hs7.cel
 refine A0S rfl (aS rfl a0) kR (B0h e vs p r u vk vg _ (he_.mono qS) qO) rfl ?_
 rintro v9 M9 J9 ⟨rfl, h9⟩
 haveI := h9.cel
 have h9l := A3B [] e
 have hwl := hx.wi.len
 refine L2 rfl rfl rfl (G1 (e := 5) (sz := 1) (by_ := 1) rfl rfl kR rfl hs7 (h9.rd.mono qS) S8 qP (by unfold maxLen; simp at h9l; omega) (by simp at h9l; omega) rfl fun v10 B10 hs10 => ?_)
 haveI := hs10.cel
 refine fa_ hs ?_
 refine H4 (C8 4) (A6 ?_)
 exact ⟨_, [], B10, F4 rfl rfl, Fit.pick qP qZ, rfl, ⟨A4J (hs10.rd fun z hz => by simp [hz]) (by rw [List.length_append]) (by rw [A0Q]), (fun z hz => (List.mem_append.1 hz).elim (hx.wi.lt z) (h9.lt z)), by rw [List.length_append]; simp at h9l; omega⟩⟩

structure OpnH (s : Ps) (r : Rsd) (hk : LN) (hp hn : Nat) : Prop where
  sel : A0m s.ts
  k1 : ∀ k, getS r.sks hk hn = some k → Kok s k
  s2 : A0m (opD (opB s r hk hp) hn).ts
  k2 : Kok (opD (opB s r hk hp) hn) (opDK (opB s r hk hp) hn)
def K32 (w : LN) : Prop := (∀ x ∈ w, x < 256) ∧ w.length = 32
def KK (s : Ps) (w : LN) : Prop := Kok s w ∧ K32 w
structure GS (s : Ps) : Prop where
  tok : Tok s.ts
  sel : A0m s.ts
theorem KK.ext {s s' : Ps} {w : LN} (h : KK s w) (he : Pext s s') : KK s' w := ⟨h.1.ext he, h.2⟩
theorem KK.rok {s : Ps} {w : LN} (h : KK s w) : s.real = false → Rok s.ts w := h.1.rok
theorem A0m.pub {s : Ps} (h : A0m s.ts) (w : LN) : A0m (H5 s w).ts := by
  unfold H5
  split
  · exact h
  · exact (h.rd w).not (show (3 : Nat) ≠ 6 by decide)
theorem B3G (ts : List Tm) (s o : Int) : (agT ts s o).kind = 4 := by
  unfold agT
  split <;> (try split) <;> (try split) <;> rfl
theorem A0m.agr {s : Ps} (h : A0m s.ts) (a B : LN) : A0m (L4 s a B).ts := by
  unfold L4
  split
  · exact h
  · exact ((h.rd a).rd B).not (by rw [B3G]; decide)
def A8p (s : Ps) (key : LN) (ws : List (LN)) (lb : LN) (n : Nat) (L : List (LN)) : Prop := A3p s key ws lb n = s ∧ A4b s key ws lb n = L ∧ ∀ w ∈ key :: ws, KK s w
theorem A8p.ext {s s' : Ps} {key lb : LN} {ws : List (LN)} {n : Nat} {L : List (LN)} (h : A8p s key ws lb n L) (he : Pext s s') (hg : GS s) (hg' : GS s') (hb : B256 lb) (hbl : lb.length ≤ 1000) (hn : n ≤ 8) (hl : s'.ts.length + ws.length ≤ 1040000) : A8p s' key ws lb n L := by
  obtain ⟨l, e⟩ := he.ts
  have hle : s.ts.length ≤ s'.ts.length := by rw [e, List.length_append]; omega
  have hr : s.real = false → ∀ w ∈ key :: ws, Rok s.ts w := fun hr w hw => (h.2.2 w hw).rok hr
  obtain ⟨a, b⟩ := A6x hg.tok hr hb hbl (show n ≤ 100 by omega) qO (by rw [h.1]; exact he) hg'.tok qO
  exact ⟨a, b.trans h.2.1, fun w hw => (h.2.2 w hw).ext he⟩
theorem B0K : B256 A5i := ⟨by decide⟩
theorem B0L : B256 A26 := ⟨by decide⟩
structure TrnAt (s : Ps) (root a b R C : LN) : Prop where
  ex : ∃ k L, A2P s a b k ∧ A8p s root [k] A5i 2 L ∧ L.getD 0 [] = R ∧ L.getD 1 [] = C
theorem TrnAt.ext {s s' : Ps} {root a b R C : LN} (h : TrnAt s root a b R C) (he : Pext s s') (hg : GS s) (hg' : GS s') (hl : s'.ts.length ≤ 1030000) : TrnAt s' root a b R C := by
  obtain ⟨k, L, h1, h2, h3, h4⟩ := h.ex
  exact ⟨k, L, h1.ext he, h2.ext he hg hg' B0K qD qD (by show _ + 1 ≤ _; omega), h3, h4⟩
def A9a (s : Ps) (c k c' : LN) : Prop := ∃ L, A8p s c [] A26 2 L ∧ L.getD 0 [] = k ∧ L.getD 1 [] = c'
theorem A9a.ext {s s' : Ps} {c k c' : LN} (h : A9a s c k c') (he : Pext s s') (hg : GS s) (hg' : GS s') (hl : s'.ts.length ≤ 1030000) : A9a s' c k c' := by
  obtain ⟨L, h1, h2, h3⟩ := h
  exact ⟨L, h1.ext he hg hg' B0L qD qD (by show _ + 0 ≤ _; omega), h2, h3⟩
def he0 : He := ⟨[], [], [], 0, false, 0⟩
def opnX (x : Ses) (r2 : Rsd) : Ses := ⟨x.id, x.wi, he0, false, r2⟩
end Go.Proofs.YtoameenjkiaefaaGreatDoor
