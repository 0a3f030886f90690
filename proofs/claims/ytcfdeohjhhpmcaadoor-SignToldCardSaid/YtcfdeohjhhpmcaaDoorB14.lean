/- Part 14 of the texts of this claim, one behind the other. -/
import Derived.Test.YtcfdeohjhhpmcaaDoorB13
import Derived.Laws.StructEq
import Derived.Laws.Cover3
set_option linter.unusedVariables false
set_option linter.unusedSimpArgs false
set_option linter.unusedVariables false
set_option linter.unusedSimpArgs false
namespace Go.Proofs.YtcfdeohjhhpmcaaDoor
open Go.Px Go.Ed
def secN (seed : List Nat) : Nat := bv (wide ([115, 101, 99, 114, 101, 116] ++ seed)) % lN
def nonN (seed msg : List Nat) : Nat := bv (wide ([110, 111, 110, 99, 101] ++ seed ++ msg)) % lN
def chlN (r p msg : List Nat) : Nat := bv (wide ([99, 104, 97, 108, 108, 101, 110, 103, 101] ++ r ++ p ++ msg)) % lN
noncomputable def pubB (seed : List Nat) : List Nat := pB (pTimes pS (secN seed))
noncomputable def rB (seed msg : List Nat) : List Nat := pB (pTimes pS (nonN seed msg))
noncomputable def sN (seed msg : List Nat) : Nat := (chlN (rB seed msg) (pubB seed) msg * secN seed % lN + nonN seed msg) % lN
noncomputable def sigB (seed msg : List Nat) : List Nat := rB seed msg ++ digs (sN seed msg) 32
def chkO (oa ob : Option Pt) (f : Pt → Pt → Bool) : Bool := match oa, ob with
  | some a, some r => f a r
  | _, _ => false
theorem chkO_some (a r : Pt) (f : Pt → Pt → Bool) : chkO (some a) (some r) f = f a r := rfl
theorem chkO_noA (o : Option Pt) (f : Pt → Pt → Bool) : chkO none o f = false := by cases o <;> rfl
theorem chkO_noR (o : Option Pt) (f : Pt → Pt → Bool) : chkO o none f = false := by cases o <;> rfl
noncomputable def chkB (p msg sig : List Nat) : Bool := decide (sig.length = 64) && chkO (pRead p) (pRead (sig.take 32)) fun a r => decide (digs (bv (sig.drop 32) % lN) 32 = sig.drop 32) && pSame (pTimes pS (bv (sig.drop 32) % lN)) (pAdd d2N r (pTimes a (chlN (sig.take 32) p msg)))
theorem lN_pos : 0 < lN := by decide
theorem lN_256 : lN < 2 ^ 256 := by decide
theorem secN_lt (s : List Nat) : secN s < lN := Nat.mod_lt _ lN_pos
theorem nonN_lt (s m : List Nat) : nonN s m < lN := Nat.mod_lt _ lN_pos
theorem chlN_lt (r p m : List Nat) : chlN r p m < lN := Nat.mod_lt _ lN_pos
theorem sN_lt (s m : List Nat) : sN s m < lN := Nat.mod_lt _ lN_pos
theorem pubB_len (s : List Nat) : (pubB s).length = 32 := pB_len _
theorem rB_len (s m : List Nat) : (rB s m).length = 32 := pB_len _
theorem sigB_len (s m : List Nat) : (sigB s m).length = 64 := by simp [sigB, rB_len, digs_len]
theorem sig_take (s m : List Nat) : (sigB s m).take 32 = rB s m := by unfold sigB; rw [List.take_append_of_le_length (by rw [rB_len]; decide), List.take_of_length_le (by rw [rB_len]; decide)]
theorem sig_drop (s m : List Nat) : (sigB s m).drop 32 = digs (sN s m) 32 := by
  unfold sigB
  rw [List.drop_append, List.drop_of_length_le (by rw [rB_len]; decide), rB_len, Nat.sub_self, List.drop_zero, List.nil_append]
theorem own_pt {n : Nat} (h : n < lN) : PR (pTimes pS n) (FF.nsm n bPt) ∧ On (fF dN) (FF.nsm n bPt) := ⟨PR.s.times b_on (Nat.lt_trans h lN_256), FF.nsm_on b_on n⟩
/-- What is signed is. -/
theorem chk_sig (seed msg : List Nat) : chkB (pubB seed) msg (sigB seed msg) = true := by
  have ha := secN_lt seed
  have hk := nonN_lt seed msg
  have hs := sN_lt seed msg
  have hh := chlN_lt (rB seed msg) (pubB seed) msg
  have hd : bv (digs (sN seed msg) 32) % lN = sN seed msg := by
    rw [bv_digs, Nat.mod_eq_of_lt (Nat.lt_trans hs (by decide)), Nat.mod_eq_of_lt hs]
  unfold chkB
  rw [sig_take, sig_drop, hd, decide_eq_true (sigB_len _ _)]
  obtain ⟨A1, A2⟩ := own_pt ha
  obtain ⟨R1, R2⟩ := own_pt hk
  obtain ⟨S1, S2⟩ := own_pt hs
  have eA : pRead (pubB seed) = _ := read_own A1 A2
  have eR : pRead (rB seed msg) = _ := read_own R1 R2
  rw [eA, eR, chkO_some, decide_eq_true rfl, Bool.true_and, Bool.true_and]
  have T := (PR.at (Q := FF.nsm (secN seed) bPt)).times A2 (Nat.lt_trans hh lN_256)
  have U := (PR.at (Q := FF.nsm (nonN seed msg) bPt)).add T R2 (FF.nsm_on A2 _)
  refine S1.same ?_
  have e : FF.nsm (sN seed msg) bPt = FF.add (FF.nsm (nonN seed msg) bPt) (FF.nsm (chlN (rB seed msg) (pubB seed) msg) (FF.nsm (secN seed) bPt)) := by
    show FF.nsm ((chlN (rB seed msg) (pubB seed) msg * secN seed % lN + nonN seed msg) % lN) bPt = _
    rw [FF.nsm_mod b_on order_o, FF.nsm_add b_on, FF.nsm_mod b_on order_o, FF.nsm_mul b_on, FF.add_comm]
  rw [e]; exact U
/-! ### The example whose bit is turned -/
def kLit : Nat := 4928719331454755403606303759647346995543222500395151019611105437466400029446
def rLit : List Nat := [158, 126, 43, 192, 36, 223, 93, 133, 238, 222, 103, 118, 108, 52, 17, 7, 171, 37, 142, 21, 42, 169, 185, 35, 17, 77, 225, 83, 3, 28, 151, 170]
theorem k_val : nonN [115, 101, 101, 100] [109, 101, 115, 115, 97, 103, 101] = kLit := by
  unfold nonN wide
  rw [← sha256F_eq, ← sha256F_eq]
  decide +kernel
theorem r_val : rB [115, 101, 101, 100] [109, 101, 115, 115, 97, 103, 101] = rLit := by
  unfold rB
  rw [k_val, pS_val, times_F]
  unfold pB
  rw [fI_eq, rtp_pm (by decide)]
  decide +kernel
theorem turned_none : pRead (rLit.set 3 196) = none := by
  have h : atN (rdN (rLit.set 3 196)) (decide (128 ≤ (rLit.set 3 196).getD 31 0)) = none := by
    refine at_none ?_
    rw [rt_K, xx_pm]
    decide +kernel
  unfold pRead
  rw [h]
  rfl
theorem chk_turned (p msg : List Nat) : chkB p msg ((sigB [115, 101, 101, 100] [109, 101, 115, 115, 97, 103, 101]).set 3 ((sigB [115, 101, 101, 100] [109, 101, 115, 115, 97, 103, 101]).getD 3 0 ^^^ 4)) = false := by
  have e1 : (sigB [115, 101, 101, 100] [109, 101, 115, 115, 97, 103, 101]).getD 3 0 ^^^ 4 = 196 := by
    unfold sigB
    rw [r_val]; rfl
  rw [e1]
  unfold chkB
  rw [List.take_set, sig_take, r_val, turned_none, chkO_noR, Bool.and_false]

end Go.Proofs.YtcfdeohjhhpmcaaDoor
/-
  Rows of numbers that are arrays: are two one? A slice as an array.
-/
set_option linter.unusedVariables false
set_option linter.unusedSimpArgs false
namespace Go.Px
open Go
theorem all_range_nat : ∀ (xs ys : List Nat), xs.length = ys.length → ((List.range xs.length).all fun i => xs.getD i 0 == ys.getD i 0) = decide (xs = ys)
  | [], [], _ => rfl
  | x :: xs, y :: ys, h => by
    have ih := all_range_nat xs ys (by simpa using h)
    rw [List.length_cons, List.range_succ_eq_map, List.all_cons, List.all_map]
    simp only [List.getD_cons_zero, Function.comp_def, List.getD_cons_succ, ih]
    by_cases hxy : x = y <;> simp [hxy]
  | [], _ :: _, h => by simp at h
  | _ :: _, [], h => by simp at h
def arrT (P : Program) (t : TypeId) : Option (Nat × IntKind) := match P.underlying t with
  | some (.array n e) => match P.underlying e with
    | some (.int k) => if sizeT P e = some 1 then some (n, k) else none
    | _ => none
  | _ => none
theorem run_sizeT {P : Program} {e : TypeId} {n : Nat} (h : sizeT P e = some n) (w : World) : (sizeOf e).run P w = .ok n w := by
  unfold sizeT at h
  cases hi : P.info? e with
  | none => rw [hi] at h; cases h
  | some i => rw [hi] at h; simp at h; simp [sizeOf, typeInfo, hi, h]
section
variable {P : Program} {R : Mem} {l : Env} {d : Option Nat} {ty t : TypeId} {pos : String} {af : Array Edge} {g : Option (Nat × Bool)} {x y : Operand} {k : IntKind}
theorem arrT_spec {n : Nat} (h : arrT P t = some (n, k)) : ∃ e, P.underlying t = some (.array n e) ∧ P.underlying e = some (.int k) ∧ sizeT P e = some 1 := by
  unfold arrT at h
  split at h
  · rename_i m e h1
    split at h
    · rename_i k' h2
      split at h
      · rename_i h3
        cases h
        exact ⟨e, h1, h2, h3⟩
      · cases h
    · cases h
  · cases h
theorem equalIn_nums (dp : Nat) {e : TypeId} {n : Nat} (w : World) (ht : P.underlying t = some (.array n e)) (he : P.underlying e = some (.int k)) (hsz : ∀ w, (sizeOf e).run P w = .ok 1 w)
    (xs ys : List Nat) (hx : xs.length = n) (hy : ys.length = n) : (Op.equalIn (dp + 2) t (.agg (nums k xs).toArray) (.agg (nums k ys).toArray)).run P w = .ok (decide (xs = ys)) w := by
  rw [← all_range_nat xs ys (hx.trans hy.symm), hx, List.range_eq_range', Op.equalIn]
  simp only [Sem.run_bind, run_underlying ht, Result.andThen_ok, hsz, Std.Legacy.Range.forIn_eq_forIn_range', Std.Legacy.Range.size, Nat.sub_zero, Nat.add_sub_cancel, Nat.div_one]
  have hl : ∀ i ∈ List.range' 0 n 1, i < n := fun i hi => by simpa using (List.mem_range'_1.1 hi).2
  generalize List.range' 0 n 1 = r at hl ⊢
  induction r with
  | nil => simp
  | cons i r ih =>
    have hi : i < n := hl i (by simp)
    have gx : xs.getD i 0 = xs[i]'(by omega) := by simp [List.getD, List.getElem?_eq_getElem (show i < xs.length by omega)]
    have gy : ys.getD i 0 = ys[i]'(by omega) := by simp [List.getD, List.getElem?_eq_getElem (show i < ys.length by omega)]
    have px : (part e (nums k xs).toArray (i * 1)).run P w = .ok (.int k ((xs.getD i 0 : Nat) : Int)) w := by
      rw [gx]; simp [nums, part, isAgg, run_underlying he, List.getElem?_eq_getElem (show i < xs.length by omega)]
    have py : (part e (nums k ys).toArray (i * 1)).run P w = .ok (.int k ((ys.getD i 0 : Nat) : Int)) w := by
      rw [gy]; simp [nums, part, isAgg, run_underlying he, List.getElem?_eq_getElem (show i < ys.length by omega)]
    have pe : (Op.equalIn (dp + 1) e (.int k ((xs.getD i 0 : Nat) : Int)) (.int k ((ys.getD i 0 : Nat) : Int))).run P w = .ok (xs.getD i 0 == ys.getD i 0) w := by
      rw [run_equalIn_int w dp e k k _ _ he]
      congr 1
      rw [Bool.eq_iff_iff]
      simp only [beq_iff_eq]
      omega
    simp only [List.forIn_cons, Sem.run_bind, px, py, pe, Result.andThen_ok, List.all_cons]
    cases hb : (xs.getD i 0 == ys.getD i 0)
    · simp
    · simp only [Bool.not_true, Bool.false_eq_true, if_false, Sem.run_pure, Result.andThen_ok, Bool.true_and]
      exact ih fun j hj => hl j (by simp [hj])
theorem q_arrNe {t' : TypeId} {n : Nat} {xs ys : List Nat} (hx : ev l x = some (.agg (nums k xs).toArray)) (hy : ev l y = some (.agg (nums k ys).toArray)) (ht : arrT P t = some (n, k)) (hg : P.eqGuardType P.depth t = false) (hxl : xs.length = n) (hyl : ys.length = n) :
    OpQ P R ⟨d, .binOp .neq t x y t', ty, pos, af, g⟩ l (.bool !(decide (xs = ys))) := fun N A w ha hw => by
  obtain ⟨e, h1, h2, h3⟩ := arrT_spec ht
  simp only [execOp, ha.ev hx, ha.ev hy, Sem.run_bind, run_eqGuard_agg w _ _ _ _ _ _ hg, Result.andThen_ok, run_neq_struct]
  have hq : (Op.equalIn 10000 t (.agg (nums k xs).toArray) (.agg (nums k ys).toArray)).run P w = _ := equalIn_nums 9998 w h1 h2 (fun w => run_sizeT h3 w) xs ys hxl hyl
  simp only [hq, Result.andThen_ok, Sem.run_pure]
theorem q_arrEq {t' : TypeId} {n : Nat} {xs ys : List Nat} (hx : ev l x = some (.agg (nums k xs).toArray)) (hy : ev l y = some (.agg (nums k ys).toArray)) (ht : arrT P t = some (n, k)) (hg : P.eqGuardType P.depth t = false) (hxl : xs.length = n) (hyl : ys.length = n) :
    OpQ P R ⟨d, .binOp .eql t x y t', ty, pos, af, g⟩ l (.bool (decide (xs = ys))) := fun N A w ha hw => by
  obtain ⟨e, h1, h2, h3⟩ := arrT_spec ht
  simp only [execOp, ha.ev hx, ha.ev hy, Sem.run_bind, run_eqGuard_agg w _ _ _ _ _ _ hg, Result.andThen_ok, run_eql_struct]
  have hq : (Op.equalIn 10000 t (.agg (nums k xs).toArray) (.agg (nums k ys).toArray)).run P w = _ := equalIn_nums 9998 w h1 h2 (fun w => run_sizeT h3 w) xs ys hxl hyl
  simp only [hq, Result.andThen_ok, Sem.run_pure]
theorem q_arrPtr {n m c : Nat} {p : Option Addr} (hx : ev l x = some (.slice p m c)) (ht : arrT P t = some (n, k)) (hn : n ≤ m) : OpQ P R ⟨d, .sliceToArrayPointer t x, ty, pos, af, g⟩ l (.pointer p) := fun N A w ha hw => by
  obtain ⟨e, h1, -, -⟩ := arrT_spec ht
  simp [execOp, ha.ev hx, run_arrayAt w t e n p m c h1 hn]
end
end Go.Px

/-
  The same, where what is said of a value may name the values of operations for which it waits.
-/
set_option linter.unusedVariables false
set_option linter.unusedSimpArgs false
namespace Go.Px
structure Gx where
  i : Nat
  d : Nat
  us : List Nat
  φ : List Value → Value → Mem → Mem → Prop
def gEnvX (G : List Gx) (vs : Nat → Value) : Env := G.map fun g => (g.d, vs g.i)
def GrowsX (φ : List Value → Value → Mem → Mem → Prop) : Prop := ∀ us v B R R', (∀ x ∈ R, x ∈ R') → φ us v B R → φ us v B R'
def toGx (G : List Gx) : List Gm := G.map fun g => ⟨g.i, g.d, fun _ _ => True⟩
theorem toGx_i (G : List Gx) : (toGx G).map (·.i) = G.map (·.i) := by simp [toGx]
theorem toGx_d (G : List Gx) : (toGx G).map (·.d) = G.map (·.d) := by simp [toGx]
theorem toGx_env (G : List Gx) (vs : Nat → Value) : gEnv (toGx G) vs = gEnvX G vs := by simp [gEnv, gEnvX, toGx]
theorem gx_inj {G : List Gx} (h : (G.map (·.i)).Nodup) {g g' : Gx} (hg : g ∈ G) (hg' : g' ∈ G) (e : g.i = g'.i) : g = g' := by
  induction G with
  | nil => cases hg
  | cons x G ih =>
    simp only [List.map_cons, List.nodup_cons] at h
    rcases List.mem_cons.1 hg with h1 | h1 <;> rcases List.mem_cons.1 hg' with h2 | h2
    · rw [h1, h2]
    · exact absurd (by rw [← h1, e]; exact List.mem_map_of_mem (f := Gx.i) h2) h.1
    · exact absurd (by rw [← h2, ← e]; exact List.mem_map_of_mem (f := Gx.i) h1) h.1
    · exact ih h.2 h1 h2
theorem mark_mem_t {A : Array Bool} {X : List Nat} {j : Nat} (h : j ∈ X) (hl : j < A.size) : (mark A X).getD j false = true := by
  rw [Array.getD_eq_getD_getElem?, mark_get, if_pos ⟨h, hl⟩]; rfl
section group
variable {C : Cx} {Q : XQ} {l : Env} {M J : Mem} {os : List Oper} {K : Nat → Prop} {n0 : Nat} {nd : List Nat} {plan : List (Nat × Nat)}
def OwesX (C : Cx) (os : List Oper) (l : Env) (M J : Mem) (G : List Gx) (g : Gx) : Prop :=
  ∃ o, nth os g.i = some o ∧ ∀ (vs : Nat → Value) (bs : Nat → Mem) (R : Mem) (w : World), (∀ x ∈ M ++ (J ++ C.A), x ∈ R) → (∀ g' ∈ G, anc os.toArray os.toArray.size g.i g'.i = true → g'.φ (g'.us.map vs) (vs g'.i) (bs g'.i) R) →
    Asked os (gEnvX G vs ++ l) o ∧ OpL ⟨C.P, w, [], R, C.N⟩ o (gEnvX G vs ++ l) [] [] (fun l' M' J' => ∃ v, l' = (g.d, v) :: (gEnvX G vs ++ l) ∧ g.φ (g.us.map vs) v M' (M' ++ (J' ++ R)))
theorem groupX_go {G : List Gx} (hmono : ∀ g ∈ G, GrowsX g.φ) (hd : (G.map (·.d)).Nodup) (hi : (G.map (·.i)).Nodup) (hu : ∀ g ∈ G, ∀ k ∈ g.us, k ≠ g.i ∧ anc os.toArray os.toArray.size g.i k = true) (hob : ∀ g ∈ G, OwesX C os l M J G g) {A B : Array Bool} (hok : GOk os.toArray A (G.map (·.i)) B)
    (hfin : ∀ (vs : Nat → Value) (bs : Nat → Mem) Jn a w, (∀ g ∈ G, g.φ (g.us.map vs) (vs g.i) (bs g.i) ((ownOf (G.map (·.i)) bs ++ M) ++ ((Jn ++ J) ++ C.A))) → Ag C.N (gEnvX G vs ++ l) a → St C (ownOf (G.map (·.i)) bs ++ M) (Jn ++ J) w → n0 ≤ w.heap.size → wpAnyS C.P os.toArray (noPanicX (lift C Q)) (Sk K) nd.contains plan.length B a w) :
    ∀ (n : Nat) (X : List Nat) (vs : Nat → Value) (bs : Nat → Mem) (Jn : Mem) (a : Act) (w : World), X.Nodup → (∀ i ∈ X, i ∈ G.map (·.i)) → n + X.length = G.length → Closed os.toArray (mark A X) →
      (∀ g ∈ G, g.i ∈ X → g.φ (g.us.map vs) (vs g.i) (bs g.i) ((ownOf X bs ++ M) ++ ((Jn ++ J) ++ C.A))) → Ag C.N (gEnvX G vs ++ l) a → St C (ownOf X bs ++ M) (Jn ++ J) w → n0 ≤ w.heap.size →
      wpAnyS C.P os.toArray (noPanicX (lift C Q)) (Sk K) nd.contains (n + plan.length) (mark A X) a w := by
  intro n
  induction n with
  | zero =>
    intro X vs bs Jn a w hnd hX hlen hcl hφ ha hw hn
    have hall : ∀ i, i ∈ X ↔ i ∈ G.map (·.i) := fun i => ⟨hX i, nodup_all hnd hX (by simp; omega) i⟩
    have hperm : (ownOf X bs ++ M).Perm (ownOf (G.map (·.i)) bs ++ M) := List.Perm.append_right _ (List.Perm.flatten ((perm_of_nodup hnd hi hall).map bs))
    rw [Nat.zero_add, mark_eq hall, ← hok.mark]
    refine hfin vs bs Jn a w (fun g hg => hmono g hg _ _ _ _ _ (fun x hx => ?_) (hφ g hg ((hall _).2 (List.mem_map_of_mem (f := Gx.i) hg)))) ha (hw.perm hperm) hn
    rcases List.mem_append.1 hx with h | h
    · exact List.mem_append_left _ (hperm.mem_iff.1 h)
    · exact List.mem_append_right _ h
  | succ n ih =>
    intro X vs bs Jn a w hnd hX hlen hcl hφ ha hw hn
    have hmiss : ∃ k ∈ G.map (·.i), k ∉ X := by
      apply Classical.byContradiction
      intro hno
      have hs : ∀ k ∈ G.map (·.i), k ∈ X := fun k hk => Classical.byContradiction fun h => hno ⟨k, hk, h⟩
      have := nodup_le hi hs
      simp at this; omega
    obtain ⟨k, hkG, hkX⟩ := hmiss
    have hun : ∀ i ∈ G.map (·.i), A.getD i true = false := by
      have : ∀ {is A B}, GOk os.toArray A is B → ∀ i ∈ is, A.getD i true = false := by
        intro is A B h
        induction h with
        | nil => intro i hi; cases hi
        | @cons A B i r hr ho h ih =>
          intro k hk
          rcases List.mem_cons.1 hk with rfl | hk
          · exact ready_un hr
          · have h2 := ih k hk
            by_cases e : i = k
            · subst e; exact ready_un hr
            · rwa [getD_set_ne true e] at h2
      exact this hok
    have hkun : (mark A X).getD k true = false := mark_getD_f.2 ⟨hun k hkG, fun h => hkX h.1⟩
    rw [show n + 1 + plan.length = (n + plan.length) + 1 by omega]
    refine ⟨fun h0 => ?_, fun i hir => ?_⟩
    · obtain ⟨i, hir⟩ := hok.first (mark_size A X) (fun j hj => mark_mono hj) hkG hkun
      rw [h0] at hir; cases hir
    · have hiG : i ∈ G.map (·.i) := by
        apply Classical.byContradiction
        intro hno
        have h1 := mark_getD_f.1 (ready_un hir)
        have h2 := hok.outer k hkG i (ready_lt hir) h1.1 hno
        exact not_both hkun (anc_ready hcl h2 hir)
      obtain ⟨g, hg, rfl⟩ := List.mem_map.1 hiG
      have hiX : g.i ∉ X := fun h => (mark_getD_f.1 (ready_un hir)).2 ⟨h, getD_f_lt (hun _ hiG)⟩
      obtain ⟨o, hget, howe⟩ := hob g hg
      have hi' : os.toArray[g.i]? = some o := by rw [nth_eq] at hget; simpa using hget
      obtain ⟨hask, hop⟩ := howe vs bs ((ownOf X bs ++ M) ++ ((Jn ++ J) ++ C.A)) w (fun x hx => by simp only [List.mem_append] at hx ⊢; rcases hx with h | h | h <;> simp [h]) (fun g' hg' hanc => hφ g' hg' (by
        have h3 := anc_ready hcl hanc hir
        rcases mark_getD_t h3 with h4 | h4
        · exact (not_both (hun _ (List.mem_map_of_mem (f := Gx.i) hg')) h4).elim
        · exact h4))
      unfold wpOp
      simp only [hi']
      rw [if_pos (hask.wanted ha)]
      have hcal := hw.callee (Mc := []) (R := ownOf X bs ++ M) (.refl _)
      refine .inl (Oper.wp_mono ?_ (hop _ a w ha hcal.cx))
      rintro a' w' ⟨l', M', J', ha', hs', v, rfl, hφv⟩
      have hsz : w.heap.size ≤ w'.heap.size := hs'.size
      have hb := hw.back (Mc := []) (R := ownOf X bs ++ M) (.refl _) hs'.cx
      let bs' : Nat → Mem := fun k => if k = g.i then M' else bs k
      have hown : ownOf (X ++ [g.i]) bs' = ownOf X bs ++ M' := by
        have e1 : X.map bs' = X.map bs := List.map_congr_left fun x hx => by
          have : x ≠ g.i := fun e => hiX (e ▸ hx)
          simp [bs', this]
        simp [ownOf, List.map_append, e1, bs']
      have hperm : (M' ++ (ownOf X bs ++ M)).Perm (ownOf (X ++ [g.i]) bs' ++ M) := by
        rw [hown, ← List.append_assoc]
        exact List.Perm.append_right _ List.perm_append_comm
      have hfr2 : St C (ownOf (X ++ [g.i]) bs' ++ M) ((J' ++ Jn) ++ J) w' := (hb.perm hperm).drop (List.Sublist.refl _) fun x hx => by
        simp only [List.mem_append] at hx ⊢
        rcases hx with (h | h) | h <;> simp [h]
      refine ⟨fun _ b hb' hnk => hs'.frame b hb' (by simp), ?_⟩
      rw [← mark_snoc]
      have henv := gEnv_set (N := C.N) (G := toGx G) (l := l) (vs := vs) (g := ⟨g.i, g.d, fun _ _ => True⟩) (a := a') (v := v) (List.mem_map_of_mem (f := fun g : Gx => (⟨g.i, g.d, fun _ _ => True⟩ : Gm)) hg) (by rw [toGx_d]; exact hd) (by rw [toGx_i]; exact hi) (by rw [toGx_env]; exact ha')
      rw [toGx_env] at henv
      refine ih (X ++ [g.i]) (fun k => if k = g.i then v else vs k) bs' (J' ++ Jn) a' w' ?_ ?_ (by simp; omega) ?_ ?_ henv hfr2 (Nat.le_trans hn hsz)
      · rw [List.nodup_append]; exact ⟨hnd, by simp, fun x hx y hy e => hiX (by simp at hy; subst hy; exact e ▸ hx)⟩
      · intro j hj
        rcases List.mem_append.1 hj with hj | hj
        · exact hX j hj
        · simp at hj; subst hj; exact hiG
      · rw [mark_snoc]; exact closed_set hcl hir
      · intro g' hg' hm
        rw [hown]
        have husame : g'.us.map (fun k => if k = g.i then v else vs k) = g'.us.map vs := by
          refine List.map_congr_left fun k hk => ?_
          have hne : k ≠ g.i := by
            intro e
            subst e
            obtain ⟨h1, h2⟩ := hu g' hg' _ hk
            rcases List.mem_append.1 hm with h3 | h3
            · have h4 : (mark A X).getD g'.i false = true := mark_mem_t h3 (getD_f_lt (hun _ (List.mem_map_of_mem (f := Gx.i) hg')))
              exact not_both (ready_un hir) (anc_listed hcl _ _ _ h2 h4)
            · exact h1 (List.mem_singleton.1 h3).symm
          simp [hne]
        rw [husame]
        by_cases e : g'.i = g.i
        · have : g' = g := gx_inj hi hg' hg e
          subst this
          simp only [if_true, bs']
          exact hmono g' hg' _ _ _ _ _ (fun x hx => by simp only [List.mem_append] at hx ⊢; rcases hx with h | h | (h | h) | (h | h) | h <;> simp [h]) hφv
        · simp only [e, if_false, bs']
          have hm' : g'.i ∈ X := by simpa [e] using hm
          exact hmono g' hg' _ _ _ _ _ (fun x hx => by simp only [List.mem_append] at hx ⊢; rcases hx with (h | h) | (h | h) | h <;> simp [h]) (hφ g' hg' hm')
theorem XK.groupX (G : List Gx) (hmono : ∀ g ∈ G, GrowsX g.φ) (hd : (G.map (·.d)).Nodup) (hi : (G.map (·.i)).Nodup) (hu : ∀ g ∈ G, ∀ k ∈ g.us, k ≠ g.i ∧ anc os.toArray os.toArray.size g.i k = true) (hdN : ∀ g ∈ G, g.d < C.N) (hob : ∀ g ∈ G, OwesX C os l M J G g)
    (h : ∀ (vs : Nat → Value) (bs : Nat → Mem) Jn, (∀ g ∈ G, g.φ (g.us.map vs) (vs g.i) (bs g.i) ((ownOf (G.map (·.i)) bs ++ M) ++ ((Jn ++ J) ++ C.A))) → XK C os Q K n0 nd plan (gEnvX G vs ++ l) (ownOf (G.map (·.i)) bs ++ M) (Jn ++ J)) : XK C os Q K n0 nd (enc (G.map (·.i)) ++ plan) l M J := by
  intro listed hcl hp a w ha hw hn
  obtain ⟨B, hok, hp2⟩ := enc_ok hp
  have hBcl : Closed os.toArray B := by
    have : ∀ {A is B}, GOk os.toArray A is B → Closed os.toArray A → Closed os.toArray B := by
      intro A is B h
      induction h with
      | nil => exact id
      | cons hr _ _ ih => exact fun hc => ih (closed_set hc hr)
    exact this hok hcl
  have hlen : (enc (G.map (·.i)) ++ plan).length = G.length + plan.length := by
    have : ∀ is : List Nat, (enc is).length = is.length := by
      intro is
      induction is with
      | nil => rfl
      | cons i r ih => cases r with
        | nil => rfl
        | cons j r => simp only [enc, List.length_cons] at ih ⊢; rw [ih]
    simp [this]
  rw [hlen]
  let vs : Nat → Value := fun k => match G.find? (fun g => g.i == k) with
    | some g => (a.tmps[g.d]?).getD undef
    | none => undef
  have hag : Ag C.N (gEnvX G vs ++ l) a := by
    refine ⟨ha.defers, ha.size, ?_⟩
    intro k u hk
    have key : ∀ G' : List Gx, (∀ g ∈ G', g ∈ G) → lk (gEnvX G' vs ++ l) k = some u → a.tmps[k]? = some u := by
      intro G'
      induction G' with
      | nil => intro _ h; exact ha.slot k u h
      | cons g G' ih =>
        intro hs h
        simp only [gEnvX, List.map_cons, List.cons_append, lk] at h
        by_cases e : g.d = k
        · subst e
          simp at h
          have hf : G.find? (fun x => x.i == g.i) = some g := by
            have hgG := hs g List.mem_cons_self
            cases hq : G.find? (fun x => x.i == g.i) with
            | none => have := List.find?_eq_none.1 hq g hgG; simp at this
            | some x =>
              have h1 := List.find?_some hq
              have h2 := List.mem_of_find?_eq_some hq
              rw [gx_inj hi h2 hgG (by simpa using h1)]
          have hlt : g.d < a.tmps.size := by rw [ha.size]; exact hdN g (hs g List.mem_cons_self)
          rw [← h]
          show a.tmps[g.d]? = some (vs g.i)
          simp only [vs, hf, Array.getElem?_eq_getElem hlt, Option.getD_some]
        · simp only [beq_ne e, cond_false] at h
          exact ih (fun x hx => hs x (List.mem_cons_of_mem _ hx)) h
    exact key G (fun _ h => h) hk
  exact groupX_go (n0 := n0) (K := K) hmono hd hi hu hob hok (fun vs bs Jn a w hφ ha hw hn => h vs bs Jn hφ B hBcl hp2 a w ha hw hn) G.length [] vs (fun _ => []) [] a w .nil (fun _ h => by cases h) (by simp) hcl (fun _ _ h => by cases h) hag hw hn
theorem XF.groupX (G : List Gx) (hmono : ∀ g ∈ G, GrowsX g.φ) (hd : (G.map (·.d)).Nodup) (hi : (G.map (·.i)).Nodup) (hu : ∀ g ∈ G, ∀ k ∈ g.us, k ≠ g.i ∧ anc os.toArray os.toArray.size g.i k = true) (hdN : ∀ g ∈ G, g.d < C.N) (hob : ∀ g ∈ G, OwesX C os l M J G g)
    (h : ∀ (vs : Nat → Value) (bs : Nat → Mem) Jn, (∀ g ∈ G, g.φ (g.us.map vs) (vs g.i) (bs g.i) ((ownOf (G.map (·.i)) bs ++ M) ++ ((Jn ++ J) ++ C.A))) → XF C os Q nd plan (gEnvX G vs ++ l) (ownOf (G.map (·.i)) bs ++ M) (Jn ++ J)) : XF C os Q nd (enc (G.map (·.i)) ++ plan) l M J := XK.groupX G hmono hd hi hu hdN hob h
end group
end Go.Px

/- The walks of package curve: Add, Same, Read; of package sign: secret, challenge, Public, Sign. -/
set_option linter.unusedVariables false
set_option linter.unusedSimpArgs false
namespace Go.Proofs.YtcfdeohjhhpmcaaDoor
open Go.Px
/-- What the package variables of sha hold. -/
structure GlS (A : Mem) : Prop where
  first : ∃ e f, (0, Obj.cells (nums .u32 hFirst.list).toArray e f) ∈ A
  round : ∃ e f, (1, Obj.cells (nums .u32 kTab).toArray e f) ∈ A
theorem GlS.sub {A A' : Mem} (h : GlS A) (hs : ∀ x, x ∈ A → x ∈ A') : GlS A' := by
  obtain ⟨⟨a, b, c⟩, ⟨d, e, f⟩⟩ := h
  exact ⟨⟨a, b, hs _ c⟩, ⟨d, e, hs _ f⟩⟩
theorem GlS.up {M J A : Mem} (h : GlS A) : GlS (M ++ (J ++ A)) := h.sub fun _ h => mA h
theorem wide_len (p : List Nat) : (wide p).length = 64 := by simp [wide, sha256_len]
theorem wide_lt (p : List Nat) : ∀ x ∈ wide p, x < 256 := by
  intro x hx
  rcases List.mem_append.1 hx with h | h <;> exact sha_lt _ x h
theorem sl_by {R B : Mem} {v : Value} {w : List Nat} {n : Nat} (h : Sl 1 v n (nums .u8 w) B) (hn : n = w.length) (hlt : ∀ x ∈ w, x < 256) (hl : w.length ≤ 16777216) (hR : ∀ x, x ∈ B → x ∈ R) : By R v w := ⟨hn ▸ h.rd hR, hlt, hl⟩
theorem cmp_geq {k : IntKind} (x y : Nat) : arith .geq k (x : Int) (y : Int) = some (.bool (decide (y ≤ x))) := by
  by_cases h : y ≤ x
  · rw [decide_eq_true h]; exact geT (by omega)
  · rw [decide_eq_false h]; exact geF (by omega)
theorem dg_bv {n : Nat} (h : n < lN) : bv (digs n 32) = n := by rw [bv_digs, Nat.mod_eq_of_lt (Nat.lt_trans h (by decide))]
/-- What Read answers. -/
def RdR (r : Value) (w : List Nat) : Prop := ∃ V b, r = .tuple #[V, .bool b] ∧ ((∃ P, pRead w = some P ∧ b = true ∧ FeP V P) ∨ (pRead w = none ∧ b = false ∧ FeP V pZ))
theorem pRead_len {w : List Nat} (h : ¬ w.length = 32) : pRead w = none := if_neg h
theorem pRead_none {w : List Nat} (h : atN (rdN w) (decide (128 ≤ w.getD 31 0)) = none) : pRead w = none := by
  unfold pRead
  split
  · rw [h]
  · rfl
theorem pRead_ne {w : List Nat} {x : Nat} (hl : w.length = 32) (h : atN (rdN w) (decide (128 ≤ w.getD 31 0)) = some x) (hb : ¬ pB (pAt x (rdN w)) = w) : pRead w = none := by
  unfold pRead
  rw [if_pos hl, h]
  exact if_neg hb
theorem pRead_eq {w : List Nat} {x : Nat} (hl : w.length = 32) (h : atN (rdN w) (decide (128 ≤ w.getD 31 0)) = some x) (hb : pB (pAt x (rdN w)) = w) : pRead w = some (pAt x (rdN w)) := by
  unfold pRead
  rw [if_pos hl, h]
  exact if_pos hb

set_option maxRecDepth 100000 in
theorem padd2_f (V W : Value) (P Q : Pt) (hV : FeP V P) (hW : FeP W Q) (A : Mem) : FnX Tryd.prog 29 [V, W] [] A fun r M J => M = [] ∧ J = [] ∧ FeP r (pAdd d2N P Q) := by
  have hP0 := hV
  have hQ0 := hW
  obtain ⟨xsp, rfl, p0, p1, p2, p3, p4, p5, p6, p7, p8, p9, p10, p11, p12, p13, p14, p15, p16, p17, p18, p19, rfl, hPX, hPY, hPZ, hPT⟩ := hV
  dsimp only [nums, List.map]
  obtain ⟨xsq, rfl, q0, q1, q2, q3, q4, q5, q6, q7, q8, q9, q10, q11, q12, q13, q14, q15, q16, q17, q18, q19, rfl, hQX, hQY, hQZ, hQT⟩ := hW
  dsimp only [nums, List.map]
  refine FnX.enter (N := 11) Tryd.func29 rfl rfl rfl fun w => ?_
  refine XC.keep (kp 0 rfl (kp 1 rfl kn)) ?_
  refine XC.reg ?_
  refine XL.lo rfl (l_box rfl (by first | exact Cel.cel | rfl) rfl fun b2 => ?_)
  refine XL.lo rfl (l_box rfl (by first | exact Cel.cel | rfl) rfl fun b3 => ?_)
  refine XL.lo rfl (l_alloc (cs := [.int .u64 0, .int .u64 0, .int .u64 0, .int .u64 0, .int .u64 0, .int .u64 0, .int .u64 0, .int .u64 0, .int .u64 0, .int .u64 0, .int .u64 0, .int .u64 0, .int .u64 0, .int .u64 0, .int .u64 0, .int .u64 0, .int .u64 0, .int .u64 0, .int .u64 0, .int .u64 0]) (by kernel_rfl) rfl fun b4 => ?_)
  refine XL.fin (kp 2 rfl (kp 3 rfl (kp 4 rfl kn))) ?_
  refine XC.drawF [0, 1, 2, 3, 4, 5] [(0, 1), (1, 1), (2, 2), (3, 2), (4, 2), (5, 2), (6, 2)] (by kernel_rfl) (by kernel_rfl) fun hs => ?_
  refine XF.r hs rfl (q_loadW (n := 20) rfl (by kernel_rfl) (by first | exact At.mem | exact mA (by assumption)) (by rfl)) rfl ?_
  refine XF.r hs rfl (q_loadW (n := 20) rfl (by kernel_rfl) (by first | exact At.mem | exact mA (by assumption)) (by rfl)) rfl ?_
  refine XF.call rfl (aS rfl a0) (by kernel_rfl) (num_f 2 (by decide) _) rfl ?_
  rintro rn2 Mn2 Jn2 ⟨rfl, rfl, kn2⟩
  have hn2 := kn2
  obtain ⟨an2, bn2, cn2, dn2, en2, rfl, -⟩ := kn2
  refine XF.call rfl a0 (by kernel_rfl) (curve_f _) rfl ?_
  rintro rn3 Mn3 Jn3 ⟨rfl, rfl, kn3⟩
  have hn3 := kn3
  obtain ⟨an3, bn3, cn3, dn3, en3, rfl, -⟩ := kn3
  refine XF.call rfl (aS rfl (aS rfl a0)) (by kernel_rfl) (mul_f hn2 hn3 _) rfl ?_
  rintro rn4 Mn4 Jn4 ⟨rfl, rfl, kn4⟩
  rw [d2_eq] at kn4
  have hn4 := kn4
  obtain ⟨an4, bn4, cn4, dn4, en4, rfl, -⟩ := kn4
  refine XF.call rfl (aS rfl (aS rfl (aS rfl a0))) (by kernel_rfl) (padd_f _ _ _ P Q d2N hP0 hQ0 hn4 _) rfl ?_
  rintro r5 M5 J5 ⟨rfl, rfl, h5⟩
  have h50 := h5
  obtain ⟨xsz, rfl, z0, z1, z2, z3, z4, z5, z6, z7, z8, z9, z10, z11, z12, z13, z14, z15, z16, z17, z18, z19, rfl, h5X, h5Y, h5Z, h5T⟩ := h5
  dsimp only [nums, List.map]
  refine XF.tl rfl rfl rfl (l_storeW rfl rfl Cel.cel (by kernel_rfl) (lnS (lnS (lnS (lnS (lnS (lnS (lnS (lnS (lnS (lnS (lnS (lnS (lnS (lnS (lnS (lnS (lnS (lnS (lnS (lnS (ln0))))))))))))))))))))) (allS rfl (allS rfl (allS rfl (allS rfl (allS rfl (allS rfl (allS rfl (allS rfl (allS rfl (allS rfl (allS rfl (allS rfl (allS rfl (allS rfl (allS rfl (allS rfl (allS rfl (allS rfl (allS rfl (allS rfl (all0))))))))))))))))))))) UpC.upd ?_)
  refine XF.fin (kp 4 rfl kn) ?_
  refine XC.ret ?_
  exact ⟨_, [], [], resC rfl rfl (by kernel_rfl) At.mem (by rfl), List.nil_sublist _, by simp, rfl, rfl, h50⟩

set_option maxRecDepth 100000 in
theorem csame_f (V W : Value) (P Q : Pt) (hV : FeP V P) (hW : FeP W Q) (A : Mem) : FnV Tryd.prog 30 [V, W] A (.bool (pSame P Q)) := by
  obtain ⟨xsp, rfl, p0, p1, p2, p3, p4, p5, p6, p7, p8, p9, p10, p11, p12, p13, p14, p15, p16, p17, p18, p19, rfl, hPX, hPY, hPZ, hPT⟩ := hV
  dsimp only [nums, List.map]
  obtain ⟨xsq, rfl, q0, q1, q2, q3, q4, q5, q6, q7, q8, q9, q10, q11, q12, q13, q14, q15, q16, q17, q18, q19, rfl, hQX, hQY, hQZ, hQT⟩ := hW
  dsimp only [nums, List.map]
  refine FnX.enter (N := 29) Tryd.func30 rfl rfl rfl fun w => ?_
  refine XC.keep (kp 0 rfl (kp 1 rfl kn)) ?_
  refine XC.reg ?_
  refine XL.lo rfl (l_box rfl (by first | exact Cel.cel | rfl) rfl fun b2 => ?_)
  refine XL.lo rfl (l_box rfl (by first | exact Cel.cel | rfl) rfl fun b3 => ?_)
  refine XL.q (q_assign rfl) rfl ?_
  refine XL.fin (kp 2 rfl (kp 3 rfl kn)) ?_
  refine XC.drawF [0, 1, 2, 3, 4, 5, 6, 7, 8, 9, 10, 11, 12, 13, 14, 15, 16, 17, 18, 19, 20, 21, 22, 23, 24] [(0, 0), (1, 1), (2, 0), (3, 1), (5, 0), (6, 1), (7, 0), (8, 1), (4, 2), (9, 2), (10, 2), (11, 0), (12, 0), (13, 1), (14, 0), (15, 1), (17, 0), (18, 1), (19, 0), (20, 1), (16, 2), (21, 2), (22, 2), (23, 0), (24, 0)] (by kernel_rfl) (by kernel_rfl) fun hs => ?_
  refine XF.q hs rfl (q_fieldAddrN 0 (off := 0) rfl (by kernel_rfl) rfl) rfl ?_
  refine XF.r hs rfl (q_loadT (n := 5) rfl (by kernel_rfl) (by first | exact At.mem | exact mA (by assumption)) TakeC.take) rfl ?_
  refine XF.q hs rfl (q_fieldAddrN 10 (off := 10) rfl (by kernel_rfl) rfl) rfl ?_
  refine XF.r hs rfl (q_loadT (n := 5) rfl (by kernel_rfl) (by first | exact At.mem | exact mA (by assumption)) TakeC.take) rfl ?_
  refine XF.q hs rfl (q_fieldAddrN 0 (off := 0) rfl (by kernel_rfl) rfl) rfl ?_
  refine XF.r hs rfl (q_loadT (n := 5) rfl (by kernel_rfl) (by first | exact At.mem | exact mA (by assumption)) TakeC.take) rfl ?_
  refine XF.q hs rfl (q_fieldAddrN 10 (off := 10) rfl (by kernel_rfl) rfl) rfl ?_
  refine XF.r hs rfl (q_loadT (n := 5) rfl (by kernel_rfl) (by first | exact At.mem | exact mA (by assumption)) TakeC.take) rfl ?_
  refine XF.call rfl (aS rfl (aS rfl a0)) (by kernel_rfl) (mul_f hPX hQZ _) rfl ?_
  rintro rn4 Mn4 Jn4 ⟨rfl, rfl, kn4⟩
  have hn4 := kn4
  obtain ⟨an4, bn4, cn4, dn4, en4, rfl, -⟩ := kn4
  refine XF.call rfl (aS rfl (aS rfl a0)) (by kernel_rfl) (mul_f hQX hPZ _) rfl ?_
  rintro rn9 Mn9 Jn9 ⟨rfl, rfl, kn9⟩
  have hn9 := kn9
  obtain ⟨an9, bn9, cn9, dn9, en9, rfl, -⟩ := kn9
  refine XF.callV rfl (aS rfl (aS rfl a0)) (by kernel_rfl) (fsame_spec _ _ _ _ hn4 hn9 _) rfl ?_
  refine XF.q hs rfl (q_move rfl) rfl ?_
  refine XF.split (t := 16) rfl (fun hb => ?_) (fun hb => ?_)
  ·
    have hx : fM P.X Q.Z = fM Q.X P.Z := of_decide_eq_true hb
    refine XF.qg hs rfl rfl rfl rfl (q_fieldAddrN 5 (off := 5) rfl (by kernel_rfl) rfl) rfl ?_
    refine XF.rg hs rfl rfl rfl rfl (q_loadT (n := 5) rfl (by kernel_rfl) (by first | exact At.mem | exact mA (by assumption)) TakeC.take) rfl ?_
    refine XF.qg hs rfl rfl rfl rfl (q_fieldAddrN 10 (off := 10) rfl (by kernel_rfl) rfl) rfl ?_
    refine XF.rg hs rfl rfl rfl rfl (q_loadT (n := 5) rfl (by kernel_rfl) (by first | exact At.mem | exact mA (by assumption)) TakeC.take) rfl ?_
    refine XF.qg hs rfl rfl rfl rfl (q_fieldAddrN 5 (off := 5) rfl (by kernel_rfl) rfl) rfl ?_
    refine XF.rg hs rfl rfl rfl rfl (q_loadT (n := 5) rfl (by kernel_rfl) (by first | exact At.mem | exact mA (by assumption)) TakeC.take) rfl ?_
    refine XF.qg hs rfl rfl rfl rfl (q_fieldAddrN 10 (off := 10) rfl (by kernel_rfl) rfl) rfl ?_
    refine XF.rg hs rfl rfl rfl rfl (q_loadT (n := 5) rfl (by kernel_rfl) (by first | exact At.mem | exact mA (by assumption)) TakeC.take) rfl ?_
    refine XF.callg rfl rfl rfl rfl (aS rfl (aS rfl a0)) (by kernel_rfl) (mul_f hPY hQZ _) rfl ?_
    rintro rn16 Mn16 Jn16 ⟨rfl, rfl, kn16⟩
    have hn16 := kn16
    obtain ⟨an16, bn16, cn16, dn16, en16, rfl, -⟩ := kn16
    refine XF.callg rfl rfl rfl rfl (aS rfl (aS rfl a0)) (by kernel_rfl) (mul_f hQY hPZ _) rfl ?_
    rintro rn21 Mn21 Jn21 ⟨rfl, rfl, kn21⟩
    have hn21 := kn21
    obtain ⟨an21, bn21, cn21, dn21, en21, rfl, -⟩ := kn21
    refine XF.callVg rfl rfl rfl rfl (aS rfl (aS rfl a0)) (by kernel_rfl) (fsame_spec _ _ _ _ hn16 hn21 _) rfl ?_
    refine XF.q hs rfl (q_pickT rfl rfl) rfl ?_
    refine XF.q hs rfl (q_assign rfl) rfl ?_
    refine XF.fin (kp 4 rfl kn) ?_
    refine XC.ret ?_
    exact ⟨_, [], [], res1 rfl rfl, List.nil_sublist _, by simp, by unfold pSame; rw [decide_eq_true hx]; rfl, rfl, rfl⟩
  ·
    have hx : ¬ fM P.X Q.Z = fM Q.X P.Z := of_decide_eq_false hb
    refine XF.qn hs rfl rfl rfl rfl rfl rfl ?_
    refine XF.rn hs rfl rfl rfl rfl rfl rfl ?_
    refine XF.qn hs rfl rfl rfl rfl rfl rfl ?_
    refine XF.rn hs rfl rfl rfl rfl rfl rfl ?_
    refine XF.qn hs rfl rfl rfl rfl rfl rfl ?_
    refine XF.rn hs rfl rfl rfl rfl rfl rfl ?_
    refine XF.qn hs rfl rfl rfl rfl rfl rfl ?_
    refine XF.rn hs rfl rfl rfl rfl rfl rfl ?_
    refine XF.ln hs rfl rfl rfl rfl rfl rfl ?_
    refine XF.ln hs rfl rfl rfl rfl rfl rfl ?_
    refine XF.ln hs rfl rfl rfl rfl rfl rfl ?_
    refine XF.q hs rfl (q_pickF rfl rfl) rfl ?_
    refine XF.q hs rfl (q_assign rfl) rfl ?_
    refine XF.fin (kp 4 rfl kn) ?_
    refine XC.ret ?_
    exact ⟨_, [], [], res1 rfl rfl, List.nil_sublist _, by simp, by unfold pSame; rw [decide_eq_false hx]; rfl, rfl, rfl⟩

set_option maxRecDepth 100000 in
theorem cread_f (v : Value) (ws : List Nat) (A : Mem) (hv : By A v ws) : FnX Tryd.prog 28 [v] [] A fun r M J => M = [] ∧ J = [] ∧ RdR r ws := by
  haveI := hv.cel
  have hvl := hv.len
  refine FnX.enter (N := 32) Tryd.func28 rfl rfl rfl fun w => ?_
  refine XC.keep (kp 0 rfl kn) ?_
  refine XC.reg ?_
  refine XL.lo rfl (l_alloc (cs := [.int .u64 0, .int .u64 0, .int .u64 0, .int .u64 0, .int .u64 0, .int .u64 0, .int .u64 0, .int .u64 0, .int .u64 0, .int .u64 0, .int .u64 0, .int .u64 0, .int .u64 0, .int .u64 0, .int .u64 0, .int .u64 0, .int .u64 0, .int .u64 0, .int .u64 0, .int .u64 0]) (by kernel_rfl) rfl fun b2 => ?_)
  refine XL.q (q_assign rfl) rfl ?_
  refine XL.fin (kp 0 rfl (kp 2 rfl kn)) ?_
  refine XC.seq ?_
  refine XC.reg ?_
  refine XL.q (q_move rfl) rfl ?_
  refine XL.q (q_lenV2 (sz := 1) rfl (by kernel_rfl) hv.rd) rfl ?_
  refine XL.q (q_bin rfl rfl rfl) rfl ?_
  refine XL.fin (kp 0 rfl (kp 2 rfl (kp 8 rfl kn))) ?_
  refine XC.cond rfl (fun hc => ?_) (fun hc => ?_)
  ·
    have h32 : ¬ ws.length = 32 := by simp at hc; omega
    refine XC.reg ?_
    refine XL.q (q_build (place := fun x => #[(0, 5), (5, 5), (10, 5), (15, 5)][x]?) (z := [.int .u64 0, .int .u64 0, .int .u64 0, .int .u64 0, .int .u64 0, .int .u64 0, .int .u64 0, .int .u64 0, .int .u64 0, .int .u64 0, .int .u64 0, .int .u64 0, .int .u64 0, .int .u64 0, .int .u64 0, .int .u64 0, .int .u64 0, .int .u64 0, .int .u64 0, .int .u64 0]) (fun _ => by kernel_rfl) e0 bd0) rfl ?_
    refine XL.lo rfl (l_storeW rfl rfl Cel.cel (by kernel_rfl) (lnS (lnS (lnS (lnS (lnS (lnS (lnS (lnS (lnS (lnS (lnS (lnS (lnS (lnS (lnS (lnS (lnS (lnS (lnS (lnS (ln0))))))))))))))))))))) (allS rfl (allS rfl (allS rfl (allS rfl (allS rfl (allS rfl (allS rfl (allS rfl (allS rfl (allS rfl (allS rfl (allS rfl (allS rfl (allS rfl (allS rfl (allS rfl (allS rfl (allS rfl (allS rfl (allS rfl (all0))))))))))))))))))))) UpC.upd ?_)
    refine XL.q (q_assign rfl) rfl ?_
    refine XL.fin (kp 2 rfl (kp 3 rfl kn)) ?_
    refine XC.ret ?_
    refine tr ?_
    exact ⟨_, [], [], resC1 rfl rfl rfl (by kernel_rfl) At.mem (by rfl), List.nil_sublist _, by simp, rfl, rfl, ⟨_, _, rfl, .inr ⟨pRead_len h32, rfl, ⟨_, rfl, _, _, _, _, _, _, _, _, _, _, _, _, _, _, _, _, _, _, _, _, rfl, fe_zero, fe_zero, fe_zero, fe_zero⟩⟩⟩⟩
  ·
    have h32 : ws.length = 32 := by simp at hc; omega
    refine XC.skip ?_
    refine nx (kp 0 rfl (kp 2 rfl kn)) ?_
    refine XC.drawF [0, 1, 2, 3, 4, 5, 6, 7, 8, 9, 10, 12] [(0, 0), (2, 0), (3, 0), (4, 1), (5, 0), (1, 6), (6, 6), (7, 6), (8, 6), (10, 6), (9, 7), (11, 2), (12, 0)] (by kernel_rfl) (by kernel_rfl) fun hs => ?_
    refine XF.q hs rfl (q_move rfl) rfl ?_
    refine XF.q hs rfl (q_move rfl) rfl ?_
    refine XF.q hs rfl (q_atV2 (sz := 1) (a := 31) rfl rfl (by kernel_rfl) rfl hv.rd (by omega)) rfl ?_
    refine XF.r hs rfl (q_ldV (j := 31) (u := .int .u8 ((ws.getD 31 0 : Nat) : Int)) (hv.rd.mono SubC.sub) rfl (by kernel_rfl) (nums_get (by omega))) rfl ?_
    refine XF.q hs rfl (q_cmp (decide (128 ≤ ws.getD 31 0)) rfl rfl (cmp_geq _ 128)) rfl ?_
    refine XF.groupQ [⟨1, 12, fun v B _ => B = [] ∧ Fe v (rdN ws)⟩, ⟨6, 17, fun v B _ => B = [] ∧ AtR v (rdN ws) (decide (128 ≤ ws.getD 31 0))⟩, ⟨7, 10, fun v B _ => B = [] ∧ AtR v (rdN ws) (decide (128 ≤ ws.getD 31 0))⟩, ⟨8, 18, fun v B _ => B = [] ∧ ∃ P, FeP v P ∧ ∀ x, atN (rdN ws) (decide (128 ≤ ws.getD 31 0)) = some x → P = pAt x (rdN ws)⟩, ⟨10, 4, fun v B _ => ∃ b, v = .pointer (some ⟨b, 0, none⟩) ∧ B = [(b, blk [.int .u64 0, .int .u64 0, .int .u64 0, .int .u64 0, .int .u64 0, .int .u64 0, .int .u64 0, .int .u64 0, .int .u64 0, .int .u64 0, .int .u64 0, .int .u64 0, .int .u64 0, .int .u64 0, .int .u64 0, .int .u64 0, .int .u64 0, .int .u64 0, .int .u64 0, .int .u64 0] 44)]⟩] ⟨9, 19, fun v B _ => B = [] ∧ v = .bool (atN (rdN ws) (decide (128 ≤ ws.getD 31 0))).isSome⟩ hs
      (allS (fun _ _ _ _ _ h => h) (allS (fun _ _ _ _ _ h => h) (allS (fun _ _ _ _ _ h => h) (allS (fun _ _ _ _ _ h => h) (allS (fun _ _ _ _ _ h => h) (allS (fun _ _ _ _ _ h => h) (all0))))))) (show List.Nodup [12, 17, 10, 18, 4, 19] by decide) (show List.Nodup [1, 6, 7, 8, 10, 9] by decide) (allS (blt_lt rfl) (allS (blt_lt rfl) (allS (blt_lt rfl) (allS (blt_lt rfl) (allS (blt_lt rfl) (allS (blt_lt rfl) (all0)))))))
      (allS ⟨_, rfl, fun vs bs R w hb ha => ⟨.inl rfl, ?_⟩⟩ (allS ⟨_, rfl, fun vs bs R w hb ha => ⟨.inl rfl, ?_⟩⟩ (allS ⟨_, rfl, fun vs bs R w hb ha => ⟨.inl rfl, ?_⟩⟩ (allS ⟨_, rfl, fun vs bs R w hb ha => ⟨.inl rfl, ?_⟩⟩ (allS ⟨_, rfl, fun vs bs R w hb ha => ⟨.inl rfl, ?_⟩⟩ (all0)))))) ⟨_, _, _, _, rfl, fun vs bs R hb ha => ?_⟩ ?_
    ·
      refine l_call0 (aS rfl a0) (by kernel_rfl) (fread_spec v ws _ (hv.rd.mono fun x hx => hb _ (SubC.sub x hx)) hv.lt (by omega)) rfl ?_
      rintro r M1 J1 ⟨rfl, rfl, hh⟩
      exact ⟨_, rfl, rfl, hh⟩
    ·
      have g1 := ha _ (List.mem_of_getElem? (i := 0) rfl) (by kernel_rfl)
      replace g1 : (fun v B _ => B = [] ∧ Fe v (rdN ws)) (vs 1) (bs 1) R := g1
      dsimp only at g1
      obtain ⟨-, k1⟩ := g1
      refine l_call0 (aS rfl (aS rfl a0)) (by kernel_rfl) (at_f _ _ _ k1 _) rfl ?_
      rintro r M1 J1 ⟨rfl, rfl, hh⟩
      exact ⟨_, rfl, rfl, hh⟩
    ·
      have g1 := ha _ (List.mem_of_getElem? (i := 0) rfl) (by kernel_rfl)
      replace g1 : (fun v B _ => B = [] ∧ Fe v (rdN ws)) (vs 1) (bs 1) R := g1
      dsimp only at g1
      have g6 := ha _ (List.mem_of_getElem? (i := 1) rfl) (by kernel_rfl)
      replace g6 : (fun v B _ => B = [] ∧ AtR v (rdN ws) (decide (128 ≤ ws.getD 31 0))) (vs 6) (bs 6) R := g6
      dsimp only at g6
      obtain ⟨-, k6⟩ := g6
      exact OpQ.opL (q_move rfl) rfl ⟨_, rfl, rfl, k6⟩
    ·
      have g1 := ha _ (List.mem_of_getElem? (i := 0) rfl) (by kernel_rfl)
      replace g1 : (fun v B _ => B = [] ∧ Fe v (rdN ws)) (vs 1) (bs 1) R := g1
      dsimp only at g1
      have g6 := ha _ (List.mem_of_getElem? (i := 1) rfl) (by kernel_rfl)
      replace g6 : (fun v B _ => B = [] ∧ AtR v (rdN ws) (decide (128 ≤ ws.getD 31 0))) (vs 6) (bs 6) R := g6
      dsimp only at g6
      have g7 := ha _ (List.mem_of_getElem? (i := 2) rfl) (by kernel_rfl)
      replace g7 : (fun v B _ => B = [] ∧ AtR v (rdN ws) (decide (128 ≤ ws.getD 31 0))) (vs 7) (bs 7) R := g7
      dsimp only at g7
      obtain ⟨-, k7⟩ := g7
      obtain ⟨V, b, hw, hr⟩ := k7
      refine OpQ.opL (q_extract (vs := #[V, .bool b]) (by rw [← hw]; rfl) rfl) rfl ⟨_, rfl, rfl, ?_⟩
      rcases hr with ⟨x, h1, -, h2⟩ | ⟨h1, -, h2⟩
      · exact ⟨_, h2, fun y hy => by rw [h1] at hy; cases hy; rfl⟩
      · exact ⟨_, h2, fun y hy => by rw [h1] at hy; cases hy⟩
    ·
      exact l_alloc (cs := [.int .u64 0, .int .u64 0, .int .u64 0, .int .u64 0, .int .u64 0, .int .u64 0, .int .u64 0, .int .u64 0, .int .u64 0, .int .u64 0, .int .u64 0, .int .u64 0, .int .u64 0, .int .u64 0, .int .u64 0, .int .u64 0, .int .u64 0, .int .u64 0, .int .u64 0, .int .u64 0]) (by kernel_rfl) rfl fun b => ⟨_, rfl, b, rfl, rfl⟩
    ·
      have g1 := ha _ (List.mem_of_getElem? (i := 0) rfl) (by kernel_rfl)
      replace g1 : (fun v B _ => B = [] ∧ Fe v (rdN ws)) (vs 1) (bs 1) R := g1
      dsimp only at g1
      have g6 := ha _ (List.mem_of_getElem? (i := 1) rfl) (by kernel_rfl)
      replace g6 : (fun v B _ => B = [] ∧ AtR v (rdN ws) (decide (128 ≤ ws.getD 31 0))) (vs 6) (bs 6) R := g6
      dsimp only at g6
      have g7 := ha _ (List.mem_of_getElem? (i := 2) rfl) (by kernel_rfl)
      replace g7 : (fun v B _ => B = [] ∧ AtR v (rdN ws) (decide (128 ≤ ws.getD 31 0))) (vs 7) (bs 7) R := g7
      dsimp only at g7
      obtain ⟨-, k7⟩ := g7
      obtain ⟨V, b, hw, hr⟩ := k7
      refine ⟨.bool b, q_extract (vs := #[V, .bool b]) (by rw [← hw]; rfl) rfl, rfl, ?_⟩
      rcases hr with ⟨x, h1, rfl, -⟩ | ⟨h1, rfl, -⟩ <;> rw [h1] <;> rfl
    intro vs bs Jn0 hφ
    have g1 := ofH hφ
    dsimp only at g1
    replace hφ := ofT hφ
    have g6 := ofH hφ
    dsimp only at g6
    replace hφ := ofT hφ
    have g7 := ofH hφ
    dsimp only at g7
    replace hφ := ofT hφ
    have g8 := ofH hφ
    dsimp only at g8
    replace hφ := ofT hφ
    have g10 := ofH hφ
    dsimp only at g10
    replace hφ := ofT hφ
    have g9 := ofH hφ
    dsimp only at g9
    clear hφ
    dsimp only [gEnvO, ownOf, List.map, List.flatten, List.cons_append, List.nil_append]
    generalize bs 1 = B12 at *
    generalize bs 6 = B17 at *
    generalize bs 7 = B10 at *
    generalize bs 8 = B18 at *
    generalize bs 10 = B4 at *
    generalize bs 9 = B19 at *
    generalize vs 1 = u12 at *
    generalize vs 6 = u17 at *
    generalize vs 7 = u10 at *
    generalize vs 8 = u18 at *
    generalize vs 10 = u4 at *
    generalize vs 9 = u19 at *
    obtain ⟨rfl, -⟩ := g1
    obtain ⟨rfl, -⟩ := g6
    obtain ⟨rfl, -⟩ := g7
    obtain ⟨rfl, P, hP, hPx⟩ := g8
    obtain ⟨rfl, h9⟩ := g9
    obtain ⟨b10, rfl, rfl⟩ := g10
    obtain ⟨o, ho⟩ : ∃ o, atN (rdN ws) (decide (128 ≤ ws.getD 31 0)) = o := ⟨_, rfl⟩
    rw [ho] at hPx h9
    subst h9
    have hP0 := hP
    obtain ⟨xsp, rfl, p0, p1, p2, p3, p4, p5, p6, p7, p8, p9, p10, p11, p12, p13, p14, p15, p16, p17, p18, p19, rfl, hpX, hpY, hpZ, hpT⟩ := hP
    dsimp only [nums, List.map]
    dsimp only [List.append_eq, List.nil_append, List.cons_append]
    refine XF.tl rfl rfl rfl (l_storeW rfl rfl Cel.cel (by kernel_rfl) (lnS (lnS (lnS (lnS (lnS (lnS (lnS (lnS (lnS (lnS (lnS (lnS (lnS (lnS (lnS (lnS (lnS (lnS (lnS (lnS (ln0))))))))))))))))))))) (allS rfl (allS rfl (allS rfl (allS rfl (allS rfl (allS rfl (allS rfl (allS rfl (allS rfl (allS rfl (allS rfl (allS rfl (allS rfl (allS rfl (allS rfl (allS rfl (allS rfl (allS rfl (allS rfl (allS rfl (all0))))))))))))))))))))) UpC.upd ?_)
    refine XF.q hs rfl (q_assign rfl) rfl ?_
    refine XF.fin (kp 0 rfl (kp 2 rfl (kp 4 rfl (kp 5 rfl kn)))) ?_
    refine XC.seq ?_
    rcases o with _ | xo
    ·
      refine XC.drawF [0, 1, 2, 3, 4, 5, 6, 7, 8, 9] [(0, 0), (1, 0), (2, 0), (3, 1), (6, 0), (7, 1), (4, 2), (5, 1), (8, 0), (9, 0)] (by kernel_rfl) (by kernel_rfl) fun hs => ?_
      refine XF.q hs rfl (q_move rfl) rfl ?_
      refine XF.q hs rfl (q_not rfl) rfl ?_
      refine XF.q hs rfl (q_move rfl) rfl ?_
      refine XF.rn hs rfl rfl rfl rfl rfl rfl ?_
      refine XF.qn hs rfl rfl rfl rfl rfl rfl ?_
      refine XF.rn hs rfl rfl rfl rfl rfl rfl ?_
      refine XF.ln hs rfl rfl rfl rfl rfl rfl ?_
      refine XF.rn hs rfl rfl rfl rfl rfl rfl ?_
      refine XF.qn hs rfl rfl rfl rfl rfl rfl ?_
      refine XF.q hs rfl (q_pickT rfl rfl) rfl ?_
      refine XF.fin (kp 2 rfl (kp 4 rfl (kp 29 rfl kn))) ?_
      refine XC.condT rfl ?_
      refine XC.reg ?_
      refine XL.q (q_build (place := fun x => #[(0, 5), (5, 5), (10, 5), (15, 5)][x]?) (z := [.int .u64 0, .int .u64 0, .int .u64 0, .int .u64 0, .int .u64 0, .int .u64 0, .int .u64 0, .int .u64 0, .int .u64 0, .int .u64 0, .int .u64 0, .int .u64 0, .int .u64 0, .int .u64 0, .int .u64 0, .int .u64 0, .int .u64 0, .int .u64 0, .int .u64 0, .int .u64 0]) (fun _ => by kernel_rfl) e0 bd0) rfl ?_
      refine XL.lo rfl (l_storeW rfl rfl Cel.cel (by kernel_rfl) (lnS (lnS (lnS (lnS (lnS (lnS (lnS (lnS (lnS (lnS (lnS (lnS (lnS (lnS (lnS (lnS (lnS (lnS (lnS (lnS (ln0))))))))))))))))))))) (allS rfl (allS rfl (allS rfl (allS rfl (allS rfl (allS rfl (allS rfl (allS rfl (allS rfl (allS rfl (allS rfl (allS rfl (allS rfl (allS rfl (allS rfl (allS rfl (allS rfl (allS rfl (allS rfl (allS rfl (all0))))))))))))))))))))) UpC.upd ?_)
      refine XL.q (q_assign rfl) rfl ?_
      refine XL.fin (kp 2 rfl (kp 3 rfl kn)) ?_
      refine XC.ret ?_
      refine tr ?_
      exact ⟨_, [], [], resC1 rfl rfl rfl (by kernel_rfl) At.mem (by rfl), List.nil_sublist _, by simp, rfl, rfl, ⟨_, _, rfl, .inr ⟨pRead_none ho, rfl, ⟨_, rfl, _, _, _, _, _, _, _, _, _, _, _, _, _, _, _, _, _, _, _, _, rfl, fe_zero, fe_zero, fe_zero, fe_zero⟩⟩⟩⟩
    ·
      refine XC.drawF [0, 1, 2, 3, 4, 5, 6, 7, 8, 9] [(0, 0), (1, 0), (2, 0), (3, 1), (6, 0), (4, 3), (5, 3), (7, 4), (8, 0), (9, 0)] (by kernel_rfl) (by kernel_rfl) fun hs => ?_
      refine XF.q hs rfl (q_move rfl) rfl ?_
      refine XF.q hs rfl (q_not rfl) rfl ?_
      refine XF.q hs rfl (q_move rfl) rfl ?_
      refine XF.rg hs rfl rfl rfl rfl (q_loadW (n := 20) rfl (by kernel_rfl) (by first | exact At.mem | exact mA (by assumption)) (by rfl)) rfl ?_
      refine XF.qg hs rfl rfl rfl rfl (q_move rfl) rfl ?_
      refine XF.groupO [⟨4, 24, fun v B R => Sl 1 v 32 (nums .u8 (pB P)) B ∧ ∀ x ∈ B, x ∈ R⟩, ⟨5, 25, fun v B _ => B = [] ∧ v = .string (txt (pB P))⟩, ⟨7, 27, fun v B _ => B = [] ∧ v = .string (txt ws)⟩]
        (allS (fun _ _ _ _ hR h => ⟨h.1, fun x hx => hR x (h.2 x hx)⟩) (allS (fun _ _ _ _ _ h => h) (allS (fun _ _ _ _ _ h => h) (all0)))) (show List.Nodup [24, 25, 27] by decide) (show List.Nodup [4, 5, 7] by decide) (allS (blt_lt rfl) (allS (blt_lt rfl) (allS (blt_lt rfl) (all0))))
        (allS ⟨_, rfl, fun vs bs R w hb ha => ⟨.inr ⟨_, _, _, _, rfl, rfl, rfl, rfl⟩, ?_⟩⟩ (allS ⟨_, rfl, fun vs bs R w hb ha => ⟨.inr ⟨_, _, _, _, rfl, rfl, rfl, rfl⟩, ?_⟩⟩ (allS ⟨_, rfl, fun vs bs R w hb ha => ⟨.inr ⟨_, _, _, _, rfl, rfl, rfl, rfl⟩, ?_⟩⟩ (all0)))) ?_
      ·
        refine l_call0 (aS rfl a0) (by kernel_rfl) (pbytes_f _ P hP0 _) rfl ?_
        rintro r M1 J1 ⟨rfl, hh⟩
        exact ⟨_, rfl, by simpa using hh, fun x hx => List.mem_append_left _ hx⟩
      ·
        have g4 := ha _ (List.mem_of_getElem? (i := 0) rfl) (by kernel_rfl)
        replace g4 : (fun v B R => Sl 1 v 32 (nums .u8 (pB P)) B ∧ ∀ x ∈ B, x ∈ R) (vs 4) (bs 4) R := g4
        dsimp only at g4
        obtain ⟨k4, k4s⟩ := g4
        exact OpQ.opL (q_toStr2 rfl (by kernel_rfl) (k4.rd fun x hx => k4s x hx)) rfl ⟨_, rfl, rfl, rfl⟩
      ·
        exact OpQ.opL (q_toStr2 rfl (by kernel_rfl) (hv.rd.mono fun x hx => hb _ (SubC.sub x hx))) rfl ⟨_, rfl, rfl, rfl⟩
      intro vs bs Jn0 hφ
      have g4 := ofH hφ
      dsimp only at g4
      replace hφ := ofT hφ
      have g5 := ofH hφ
      dsimp only at g5
      replace hφ := ofT hφ
      have g7 := ofH hφ
      dsimp only at g7
      clear hφ
      dsimp only [gEnvO, ownOf, List.map, List.flatten, List.cons_append, List.nil_append]
      generalize bs 4 = B24 at *
      generalize bs 5 = B25 at *
      generalize bs 7 = B27 at *
      generalize vs 4 = u24 at *
      generalize vs 5 = u25 at *
      generalize vs 7 = u27 at *
      obtain ⟨k4, -⟩ := g4
      obtain ⟨rfl, rfl⟩ := g5
      obtain ⟨rfl, rfl⟩ := g7
      obtain rfl := hPx _ rfl
      dsimp only [List.append_eq, List.nil_append, List.cons_append]
      refine XF.qg hs rfl rfl rfl rfl (q_sNe rfl rfl rfl rfl (pB_lt _) hv.lt) rfl ?_
      refine XF.q hs rfl (q_pickF rfl rfl) rfl ?_
      refine XF.fin (kp 2 rfl (kp 4 rfl (kp 29 rfl kn))) ?_
      refine XC.cond rfl (fun hc => ?_) (fun hc => ?_)
      ·
        have hne : ¬ pB (pAt xo (rdN ws)) = ws := by simpa using hc
        refine XC.reg ?_
        refine XL.q (q_build (place := fun x => #[(0, 5), (5, 5), (10, 5), (15, 5)][x]?) (z := [.int .u64 0, .int .u64 0, .int .u64 0, .int .u64 0, .int .u64 0, .int .u64 0, .int .u64 0, .int .u64 0, .int .u64 0, .int .u64 0, .int .u64 0, .int .u64 0, .int .u64 0, .int .u64 0, .int .u64 0, .int .u64 0, .int .u64 0, .int .u64 0, .int .u64 0, .int .u64 0]) (fun _ => by kernel_rfl) e0 bd0) rfl ?_
        refine XL.lo rfl (l_storeW rfl rfl Cel.cel (by kernel_rfl) (lnS (lnS (lnS (lnS (lnS (lnS (lnS (lnS (lnS (lnS (lnS (lnS (lnS (lnS (lnS (lnS (lnS (lnS (lnS (lnS (ln0))))))))))))))))))))) (allS rfl (allS rfl (allS rfl (allS rfl (allS rfl (allS rfl (allS rfl (allS rfl (allS rfl (allS rfl (allS rfl (allS rfl (allS rfl (allS rfl (allS rfl (allS rfl (allS rfl (allS rfl (allS rfl (allS rfl (all0))))))))))))))))))))) UpC.upd ?_)
        refine XL.q (q_assign rfl) rfl ?_
        refine XL.fin (kp 2 rfl (kp 3 rfl kn)) ?_
        refine XC.ret ?_
        refine tr ?_
        exact ⟨_, [], [], resC1 rfl rfl rfl (by kernel_rfl) At.mem (by rfl), List.nil_sublist _, by simp, rfl, rfl, ⟨_, _, rfl, .inr ⟨pRead_ne h32 ho hne, rfl, ⟨_, rfl, _, _, _, _, _, _, _, _, _, _, _, _, _, _, _, _, _, _, _, _, rfl, fe_zero, fe_zero, fe_zero, fe_zero⟩⟩⟩⟩
      ·
        have hne : pB (pAt xo (rdN ws)) = ws := by simpa using hc
        refine XC.skip ?_
        refine nx (kp 2 rfl (kp 4 rfl kn)) ?_
        refine XC.reg ?_
        refine XL.q (q_loadW (n := 20) rfl (by kernel_rfl) (by first | exact At.mem | exact mA (by assumption)) (by rfl)) rfl ?_
        refine XL.lo rfl (l_storeW rfl rfl Cel.cel (by kernel_rfl) (lnS (lnS (lnS (lnS (lnS (lnS (lnS (lnS (lnS (lnS (lnS (lnS (lnS (lnS (lnS (lnS (lnS (lnS (lnS (lnS (ln0))))))))))))))))))))) (allS rfl (allS rfl (allS rfl (allS rfl (allS rfl (allS rfl (allS rfl (allS rfl (allS rfl (allS rfl (allS rfl (allS rfl (allS rfl (allS rfl (allS rfl (allS rfl (allS rfl (allS rfl (allS rfl (allS rfl (all0))))))))))))))))))))) UpC.upd ?_)
        refine XL.q (q_assign rfl) rfl ?_
        refine XL.fin (kp 2 rfl (kp 3 rfl kn)) ?_
        refine XC.ret ?_
        exact ⟨_, [], [], resC1 rfl rfl rfl (by kernel_rfl) At.mem (by rfl), List.nil_sublist _, by simp, rfl, rfl, ⟨_, _, rfl, .inl ⟨_, pRead_eq h32 ho hne, rfl, hP0⟩⟩⟩

end Go.Proofs.YtcfdeohjhhpmcaaDoor
/- The walks of package sign: secret, challenge, Public, Sign. -/
set_option linter.unusedVariables false
set_option linter.unusedSimpArgs false
namespace Go.Proofs.YtcfdeohjhhpmcaaDoor
open Go.Px
theorem sc_cast {r : Value} {a b : List Nat} (h : Sc r (bv (wide a) % lN)) (e : a = b) : Sc r (bv (wide b) % lN) := e ▸ h

set_option maxRecDepth 100000 in
theorem secret_f (v : Value) (ws : List Nat) (A : Mem) (hv : By A v ws) (hl : ws.length ≤ 100000000) (hG : GlS A) : FnX Tryd.prog 22 [v] [] A fun r M J => M = [] ∧ J = [] ∧ Sc r (secN ws) := by
  haveI := hv.cel
  have hvl := hv.len
  obtain ⟨⟨ge0, gf0, h0⟩, ⟨ge1, gf1, h1⟩⟩ := hG
  refine FnX.enter (N := 9) Tryd.func22 rfl rfl rfl fun w => ?_
  refine XC.keep (kp 0 rfl kn) ?_
  refine XC.reg ?_
  refine XL.lo rfl (l_alloc (cs := [.int .u32 0, .int .u32 0, .int .u32 0, .int .u32 0, .int .u32 0, .int .u32 0, .int .u32 0, .int .u32 0]) (by kernel_rfl) rfl fun b2 => ?_)
  refine XL.fin (kp 0 rfl (kp 2 rfl kn)) ?_
  refine XC.reg ?_
  refine XL.lo rfl (l_buildSlice (e := 5) (sz := 1) (z := [.int .u8 0, .int .u8 0, .int .u8 0, .int .u8 0, .int .u8 0, .int .u8 0]) (by kernel_rfl) (eS rfl (eS rfl (eS rfl (eS rfl (eS rfl (eS rfl e0)))))) (bdS 0 1 rfl (by rfl) (bdS 1 1 rfl (by rfl) (bdS 2 1 rfl (by rfl) (bdS 3 1 rfl (by rfl) (bdS 4 1 rfl (by rfl) (bdS 5 1 rfl (by rfl) bd0)))))) rfl fun b3 => ?_)
  refine XL.lo rfl (l_mark rfl (by kernel_rfl) UpC.upd rfl ?_)
  refine XL.q (q_move rfl) rfl ?_
  refine XL.lo rfl (l_buildSlice (e := 22) (sz := 1) (z := [.slice none 0 0, .slice none 0 0]) (by kernel_rfl) (eS rfl (eS rfl e0)) (bdS 0 1 rfl (by rfl) (bdS 1 1 rfl (by rfl) bd0)) rfl fun b6 => ?_)
  refine XL.call (aS rfl a0) (by kernel_rfl) (wide_spec _ [[115, 101, 99, 114, 101, 116], ws] _ (Parts.of (Rd.whole (n := 2) m0 (by rfl)) rfl (.cons (by decide) (Rd.whole (n := 6) (cs := nums .u8 [115, 101, 99, 114, 101, 116]) At.mem (by rfl)) (.cons hv.lt (hv.rd.mono SubC.sub) .nil))) (by simp; omega) (by simp) (mA h0) (mA h1)) rfl ?_
  rintro r7 M7 J7 ⟨rfl, h7⟩
  refine XL.call (aS rfl a0) (by kernel_rfl) (snumber_f _ _ _ (rd_eq (h7.rd SubC.sub) (wide_len _).symm rfl) (wide_lt _) (by rw [wide_len]; decide)) rfl ?_
  rintro r8 M8 J8 ⟨rfl, rfl, hq8⟩
  have hs8 : Sc r8 (secN ws) := sc_cast hq8 (by simp)
  have hz8 := hs8
  obtain ⟨s, rfl, s8, s32, sv⟩ := hs8
  refine XL.lo rfl (l_storeW (vs := nums .u32 s) rfl rfl rfl (by rw [nums_len, s8]; kernel_rfl) (by rw [nums_len, s8]; rfl) nums_one UpC.upd ?_)
  refine XL.fin (kp 2 rfl kn) ?_
  refine XC.ret ?_
  exact ⟨_, [], [], resC (n := 8) rfl rfl (by kernel_rfl) At.mem (by rw [nums_len]; omega), List.nil_sublist _, by simp, rfl, rfl, hz8⟩

set_option maxRecDepth 100000 in
theorem challenge_f (vr vp vm : Value) (wr wp wm : List Nat) (A : Mem) (hr : By A vr wr) (hp : By A vp wp) (hm : By A vm wm) (hG : GlS A) : FnX Tryd.prog 25 [vr, vp, vm] [] A fun r M J => M = [] ∧ J = [] ∧ Sc r (chlN wr wp wm) := by
  haveI := hr.cel
  haveI := hp.cel
  haveI := hm.cel
  have hrl := hr.len
  have hpl := hp.len
  have hml := hm.len
  obtain ⟨⟨ge0, gf0, h0⟩, ⟨ge1, gf1, h1⟩⟩ := hG
  refine FnX.enter (N := 15) Tryd.func25 rfl rfl rfl fun w => ?_
  refine XC.keep (kp 0 rfl (kp 1 rfl (kp 2 rfl kn))) ?_
  refine XC.reg ?_
  refine XL.lo rfl (l_alloc (cs := [.int .u32 0, .int .u32 0, .int .u32 0, .int .u32 0, .int .u32 0, .int .u32 0, .int .u32 0, .int .u32 0]) (by kernel_rfl) rfl fun b6 => ?_)
  refine XL.fin (kp 0 rfl (kp 1 rfl (kp 2 rfl (kp 6 rfl kn)))) ?_
  refine XC.reg ?_
  refine XL.lo rfl (l_buildSlice (e := 5) (sz := 1) (z := [.int .u8 0, .int .u8 0, .int .u8 0, .int .u8 0, .int .u8 0, .int .u8 0, .int .u8 0, .int .u8 0, .int .u8 0]) (by kernel_rfl) (eS rfl (eS rfl (eS rfl (eS rfl (eS rfl (eS rfl (eS rfl (eS rfl (eS rfl e0))))))))) (bdS 0 1 rfl (by rfl) (bdS 1 1 rfl (by rfl) (bdS 2 1 rfl (by rfl) (bdS 3 1 rfl (by rfl) (bdS 4 1 rfl (by rfl) (bdS 5 1 rfl (by rfl) (bdS 6 1 rfl (by rfl) (bdS 7 1 rfl (by rfl) (bdS 8 1 rfl (by rfl) bd0))))))))) rfl fun b7 => ?_)
  refine XL.lo rfl (l_mark rfl (by kernel_rfl) UpC.upd rfl ?_)
  refine XL.q (q_move rfl) rfl ?_
  refine XL.q (q_move rfl) rfl ?_
  refine XL.q (q_move rfl) rfl ?_
  refine XL.lo rfl (l_buildSlice (e := 22) (sz := 1) (z := [.slice none 0 0, .slice none 0 0, .slice none 0 0, .slice none 0 0]) (by kernel_rfl) (eS rfl (eS rfl (eS rfl (eS rfl e0)))) (bdS 0 1 rfl (by rfl) (bdS 1 1 rfl (by rfl) (bdS 2 1 rfl (by rfl) (bdS 3 1 rfl (by rfl) bd0)))) rfl fun b12 => ?_)
  refine XL.call (aS rfl a0) (by kernel_rfl) (wide_spec _ [[99, 104, 97, 108, 108, 101, 110, 103, 101], wr, wp, wm] _ (Parts.of (Rd.whole (n := 4) m0 (by rfl)) rfl (.cons (by decide) (Rd.whole (n := 9) (cs := nums .u8 [99, 104, 97, 108, 108, 101, 110, 103, 101]) At.mem (by rfl)) (.cons hr.lt (hr.rd.mono SubC.sub) (.cons hp.lt (hp.rd.mono SubC.sub) (.cons hm.lt (hm.rd.mono SubC.sub) .nil))))) (by simp; omega) (by simp) (mA h0) (mA h1)) rfl ?_
  rintro r13 M13 J13 ⟨rfl, h13⟩
  refine XL.call (aS rfl a0) (by kernel_rfl) (snumber_f _ _ _ (rd_eq (h13.rd SubC.sub) (wide_len _).symm rfl) (wide_lt _) (by rw [wide_len]; decide)) rfl ?_
  rintro r14 M14 J14 ⟨rfl, rfl, hq14⟩
  have hs14 : Sc r14 (chlN wr wp wm) := sc_cast hq14 (by simp)
  have hz14 := hs14
  obtain ⟨s, rfl, s8, s32, sv⟩ := hs14
  refine XL.lo rfl (l_storeW (vs := nums .u32 s) rfl rfl rfl (by rw [nums_len, s8]; kernel_rfl) (by rw [nums_len, s8]; rfl) nums_one UpC.upd ?_)
  refine XL.fin (kp 6 rfl kn) ?_
  refine XC.ret ?_
  exact ⟨_, [], [], resC (n := 8) rfl rfl (by kernel_rfl) At.mem (by rw [nums_len]; omega), List.nil_sublist _, by simp, rfl, rfl, hz14⟩

set_option maxRecDepth 100000 in
theorem public_f (v : Value) (ws : List Nat) (A : Mem) (hv : By A v ws) (hG : GlS A) : FnX Tryd.prog 6 [v] [] A fun r M J => M = [] ∧ By J r (pubB ws) := by
  haveI := hv.cel
  have hvl := hv.len
  refine FnX.enterZ (N := 9) Tryd.func6 rfl rfl rfl fun w_ => ?_
  refine XC.keep (kp 0 rfl kn) ?_
  refine XC.reg ?_
  refine XL.q (q_assign rfl) rfl ?_
  refine XL.fin (kp 0 rfl kn) ?_
  refine XC.reg ?_
  refine XL.call a0 (by kernel_rfl) (start_f _) rfl ?_
  rintro r3 M3 J3 ⟨rfl, rfl, h3⟩
  refine XL.q (q_move rfl) rfl ?_
  refine XL.call (aS rfl a0) (by kernel_rfl) (secret_f v ws _ (hv.mono SubC.sub) (by omega) hG.up) rfl ?_
  rintro r5 M5 J5 ⟨rfl, rfl, h5⟩
  refine XL.callV (aS rfl a0) (by kernel_rfl) (sbytes_f _ _ h5 _) rfl ?_
  refine XL.call (aS rfl (aS rfl a0)) (by kernel_rfl) (ptimes_f _ pS (digs (secN ws) 32) h3 (digs_len _ _) (digs_lt _ _) _) rfl ?_
  rintro r7 M7 J7 ⟨rfl, rfl, h7⟩
  rw [dg_bv (secN_lt _)] at h7
  refine XL.call (aS rfl a0) (by kernel_rfl) ((pbytes_f _ _ h7 _).frz0) rfl ?_
  rintro r8 M8 J8 ⟨rfl, h8⟩
  haveI := h8.cel
  refine XL.q (q_assign rfl) rfl ?_
  refine XL.fin (kp 2 rfl kn) ?_
  refine XC.ret ?_
  exact ⟨_, [], [], res1 rfl rfl, Fit.nil, rfl, sl_by h8 (pubB_len _).symm (pB_lt _) (by rw [pubB_len]; decide) SubC.sub⟩

set_option maxRecDepth 100000 in
theorem sign_f (v vm : Value) (ws wm : List Nat) (A : Mem) (hv : By A v ws) (hm : By A vm wm) (hG : GlS A) : FnX Tryd.prog 7 [v, vm] [] A fun r M J => J = [] ∧ Sl 1 r 64 (nums .u8 (sigB ws wm)) M := by
  haveI := hv.cel
  haveI := hm.cel
  have hvl := hv.len
  have hml := hm.len
  have hG0 := hG
  obtain ⟨⟨ge0, gf0, h0⟩, ⟨ge1, gf1, h1⟩⟩ := hG
  have hG := hG0
  refine FnX.enter (N := 34) Tryd.func7 rfl rfl rfl fun w => ?_
  refine XC.keep (kp 0 rfl (kp 1 rfl kn)) ?_
  refine XC.reg ?_
  refine XL.q (q_assign rfl) rfl ?_
  refine XL.fin (kp 0 rfl (kp 1 rfl kn)) ?_
  refine XC.reg ?_
  refine XL.lo rfl (l_buildSlice (e := 5) (sz := 1) (z := [.int .u8 0, .int .u8 0, .int .u8 0, .int .u8 0, .int .u8 0]) (by kernel_rfl) (eS rfl (eS rfl (eS rfl (eS rfl (eS rfl e0))))) (bdS 0 1 rfl (by rfl) (bdS 1 1 rfl (by rfl) (bdS 2 1 rfl (by rfl) (bdS 3 1 rfl (by rfl) (bdS 4 1 rfl (by rfl) bd0))))) rfl fun b8 => ?_)
  refine XL.lo rfl (l_mark rfl (by kernel_rfl) UpC.upd rfl ?_)
  refine XL.q (q_move rfl) rfl ?_
  refine XL.q (q_move rfl) rfl ?_
  refine XL.lo rfl (l_buildSlice (e := 22) (sz := 1) (z := [.slice none 0 0, .slice none 0 0, .slice none 0 0]) (by kernel_rfl) (eS rfl (eS rfl (eS rfl e0))) (bdS 0 1 rfl (by rfl) (bdS 1 1 rfl (by rfl) (bdS 2 1 rfl (by rfl) bd0))) rfl fun b12 => ?_)
  refine XL.call (aS rfl a0) (by kernel_rfl) (wide_spec _ [[110, 111, 110, 99, 101], ws, wm] _ (Parts.of (Rd.whole (n := 3) m0 (by rfl)) rfl (.cons (by decide) (Rd.whole (n := 5) (cs := nums .u8 [110, 111, 110, 99, 101]) At.mem (by rfl)) (.cons hv.lt (hv.rd.mono SubC.sub) (.cons hm.lt (hm.rd.mono SubC.sub) .nil)))) (by simp; omega) (by simp) (mA h0) (mA h1)) rfl ?_
  rintro r13 M13 J13 ⟨rfl, h13⟩
  refine XL.call (aS rfl a0) (by kernel_rfl) (snumber_f _ _ _ (rd_eq (h13.rd SubC.sub) (wide_len _).symm rfl) (wide_lt _) (by rw [wide_len]; decide)) rfl ?_
  rintro r14 M14 J14 ⟨rfl, rfl, hq14⟩
  have hs14 : Sc r14 (nonN ws wm) := sc_cast hq14 (by simp)
  have hz14 := hs14
  obtain ⟨s, rfl, s8, s32, sv⟩ := hs14
  refine XL.lo rfl (l_alloc (cs := [.int .u32 0, .int .u32 0, .int .u32 0, .int .u32 0, .int .u32 0, .int .u32 0, .int .u32 0, .int .u32 0]) (by kernel_rfl) rfl fun b5 => ?_)
  refine XL.lo rfl (l_storeW (vs := nums .u32 s) rfl rfl rfl (by rw [nums_len, s8]; kernel_rfl) (by rw [nums_len, s8]; rfl) nums_one UpC.upd ?_)
  refine XL.fin (kp 0 rfl (kp 1 rfl (kp 5 rfl kn))) ?_
  refine XC.drawF [0, 1, 2, 3, 4, 5] [(1, 1), (0, 2), (2, 2), (3, 2), (4, 2), (5, 0)] (by kernel_rfl) (by kernel_rfl) fun hs => ?_
  refine XF.r hs rfl (q_loadW (n := 8) (cs := nums .u32 s) rfl (by kernel_rfl) At.mem (by rw [nums_len]; omega)) rfl ?_
  refine XF.call rfl a0 (by kernel_rfl) (start_f _) rfl ?_
  rintro r15 M15 J15 ⟨rfl, rfl, h15⟩
  refine XF.callV rfl (aS rfl a0) (by kernel_rfl) (sbytes_f _ _ hz14 _) rfl ?_
  refine XF.call rfl (aS rfl (aS rfl a0)) (by kernel_rfl) (ptimes_f _ pS (digs (nonN ws wm) 32) h15 (digs_len _ _) (digs_lt _ _) _) rfl ?_
  rintro r18 M18 J18 ⟨rfl, rfl, h18⟩
  rw [dg_bv (nonN_lt _ _)] at h18
  refine XF.call rfl (aS rfl a0) (by kernel_rfl) (pbytes_f _ _ h18 _) rfl ?_
  rintro r19 M19 J19 ⟨rfl, h19⟩
  haveI := h19.cel
  replace h19 : Sl 1 r19 32 (nums .u8 (rB ws wm)) M19 := h19
  refine XF.q hs rfl (q_assign rfl) rfl ?_
  refine XF.fin (kp 0 rfl (kp 1 rfl (kp 5 rfl (kp 6 rfl kn)))) ?_
  refine XC.drawF [0, 1, 2, 3, 4, 5, 6, 7, 8, 9, 10, 11] [(0, 0), (1, 0), (3, 0), (5, 0), (8, 1), (2, 3), (4, 3), (6, 3), (7, 3), (9, 3), (10, 3), (11, 4), (12, 2)] (by kernel_rfl) (by kernel_rfl) fun hs => ?_
  refine XF.q hs rfl (q_move rfl) rfl ?_
  refine XF.q hs rfl (q_move rfl) rfl ?_
  refine XF.q hs rfl (q_move rfl) rfl ?_
  refine XF.q hs rfl (q_move rfl) rfl ?_
  refine XF.r hs rfl (q_loadW (n := 8) (cs := nums .u32 s) rfl (by kernel_rfl) At.mem (by rw [nums_len]; omega)) rfl ?_
  refine XF.groupO [⟨2, 22, fun v B R => B = [] ∧ By R v (pubB ws)⟩, ⟨4, 24, fun v B _ => B = [] ∧ Sc v (chlN (rB ws wm) (pubB ws) wm)⟩, ⟨6, 26, fun v B _ => B = [] ∧ Sc v (secN ws)⟩, ⟨7, 27, fun v B _ => B = [] ∧ Sc v (chlN (rB ws wm) (pubB ws) wm * secN ws % lN)⟩, ⟨9, 29, fun v B _ => B = [] ∧ Sc v (sN ws wm)⟩, ⟨10, 30, fun v B _ => B = [] ∧ v = .agg (nums .u8 (digs (sN ws wm) 32)).toArray⟩, ⟨11, 7, fun v B _ => ∃ b, v = .pointer (some ⟨b, 0, none⟩) ∧ B = [(b, blk [.int .u8 0, .int .u8 0, .int .u8 0, .int .u8 0, .int .u8 0, .int .u8 0, .int .u8 0, .int .u8 0, .int .u8 0, .int .u8 0, .int .u8 0, .int .u8 0, .int .u8 0, .int .u8 0, .int .u8 0, .int .u8 0, .int .u8 0, .int .u8 0, .int .u8 0, .int .u8 0, .int .u8 0, .int .u8 0, .int .u8 0, .int .u8 0, .int .u8 0, .int .u8 0, .int .u8 0, .int .u8 0, .int .u8 0, .int .u8 0, .int .u8 0, .int .u8 0] 47)]⟩]
    (allS (fun _ _ _ _ hR h => ⟨h.1, h.2.mono hR⟩) (allS (fun _ _ _ _ _ h => h) (allS (fun _ _ _ _ _ h => h) (allS (fun _ _ _ _ _ h => h) (allS (fun _ _ _ _ _ h => h) (allS (fun _ _ _ _ _ h => h) (allS (fun _ _ _ _ _ h => h) (all0)))))))) (show List.Nodup [22, 24, 26, 27, 29, 30, 7] by decide) (show List.Nodup [2, 4, 6, 7, 9, 10, 11] by decide) (allS (blt_lt rfl) (allS (blt_lt rfl) (allS (blt_lt rfl) (allS (blt_lt rfl) (allS (blt_lt rfl) (allS (blt_lt rfl) (allS (blt_lt rfl) (all0))))))))
    (allS ⟨_, rfl, fun vs bs R w hb ha => ⟨.inl rfl, ?_⟩⟩ (allS ⟨_, rfl, fun vs bs R w hb ha => ⟨.inl rfl, ?_⟩⟩ (allS ⟨_, rfl, fun vs bs R w hb ha => ⟨.inl rfl, ?_⟩⟩ (allS ⟨_, rfl, fun vs bs R w hb ha => ⟨.inl rfl, ?_⟩⟩ (allS ⟨_, rfl, fun vs bs R w hb ha => ⟨.inl rfl, ?_⟩⟩ (allS ⟨_, rfl, fun vs bs R w hb ha => ⟨.inl rfl, ?_⟩⟩ (allS ⟨_, rfl, fun vs bs R w hb ha => ⟨.inl rfl, ?_⟩⟩ (all0)))))))) ?_
  ·
    refine l_call0 (aS rfl a0) (by kernel_rfl) (public_f v ws _ (hv.mono fun x hx => hb _ (SubC.sub x hx)) (hG.sub fun x hx => hb _ (mA hx))) rfl ?_
    rintro r M1 J1 ⟨rfl, hh⟩
    exact ⟨_, rfl, rfl, hh.mono fun x hx => by simp [hx]⟩
  ·
    have g2 := ha _ (List.mem_of_getElem? (i := 0) rfl) (by kernel_rfl)
    replace g2 : (fun v B R => B = [] ∧ By R v (pubB ws)) (vs 2) (bs 2) R := g2
    dsimp only at g2
    obtain ⟨-, k2⟩ := g2
    refine l_call0 (aS rfl (aS rfl (aS rfl (a0)))) (by kernel_rfl) (challenge_f _ _ _ (rB ws wm) (pubB ws) wm _ (sl_by h19 (rB_len _ _).symm (pB_lt _) (by rw [rB_len]; decide) (fun x hx => hb _ (SubC.sub x hx))) k2 (hm.mono fun x hx => hb _ (SubC.sub x hx)) (hG.sub fun x hx => hb _ (mA hx))) rfl ?_
    rintro r M1 J1 ⟨rfl, rfl, hh⟩
    exact ⟨_, rfl, rfl, hh⟩
  ·
    have g2 := ha _ (List.mem_of_getElem? (i := 0) rfl) (by kernel_rfl)
    replace g2 : (fun v B R => B = [] ∧ By R v (pubB ws)) (vs 2) (bs 2) R := g2
    dsimp only at g2
    have g4 := ha _ (List.mem_of_getElem? (i := 1) rfl) (by kernel_rfl)
    replace g4 : (fun v B _ => B = [] ∧ Sc v (chlN (rB ws wm) (pubB ws) wm)) (vs 4) (bs 4) R := g4
    dsimp only at g4
    refine l_call0 (aS rfl (a0)) (by kernel_rfl) (secret_f v ws _ (hv.mono fun x hx => hb _ (SubC.sub x hx)) (by omega) (hG.sub fun x hx => hb _ (mA hx))) rfl ?_
    rintro r M1 J1 ⟨rfl, rfl, hh⟩
    exact ⟨_, rfl, rfl, hh⟩
  ·
    have g2 := ha _ (List.mem_of_getElem? (i := 0) rfl) (by kernel_rfl)
    replace g2 : (fun v B R => B = [] ∧ By R v (pubB ws)) (vs 2) (bs 2) R := g2
    dsimp only at g2
    have g4 := ha _ (List.mem_of_getElem? (i := 1) rfl) (by kernel_rfl)
    replace g4 : (fun v B _ => B = [] ∧ Sc v (chlN (rB ws wm) (pubB ws) wm)) (vs 4) (bs 4) R := g4
    dsimp only at g4
    have g6 := ha _ (List.mem_of_getElem? (i := 2) rfl) (by kernel_rfl)
    replace g6 : (fun v B _ => B = [] ∧ Sc v (secN ws)) (vs 6) (bs 6) R := g6
    dsimp only at g6
    obtain ⟨-, k4⟩ := g4
    obtain ⟨-, k6⟩ := g6
    refine l_call0 (aS rfl (aS rfl (a0))) (by kernel_rfl) (stimes_f _ _ _ _ k4 k6 (secN_lt _) _) rfl ?_
    rintro r M1 J1 ⟨rfl, rfl, hh⟩
    exact ⟨_, rfl, rfl, hh⟩
  ·
    have g2 := ha _ (List.mem_of_getElem? (i := 0) rfl) (by kernel_rfl)
    replace g2 : (fun v B R => B = [] ∧ By R v (pubB ws)) (vs 2) (bs 2) R := g2
    dsimp only at g2
    have g4 := ha _ (List.mem_of_getElem? (i := 1) rfl) (by kernel_rfl)
    replace g4 : (fun v B _ => B = [] ∧ Sc v (chlN (rB ws wm) (pubB ws) wm)) (vs 4) (bs 4) R := g4
    dsimp only at g4
    have g6 := ha _ (List.mem_of_getElem? (i := 2) rfl) (by kernel_rfl)
    replace g6 : (fun v B _ => B = [] ∧ Sc v (secN ws)) (vs 6) (bs 6) R := g6
    dsimp only at g6
    have g7 := ha _ (List.mem_of_getElem? (i := 3) rfl) (by kernel_rfl)
    replace g7 : (fun v B _ => B = [] ∧ Sc v (chlN (rB ws wm) (pubB ws) wm * secN ws % lN)) (vs 7) (bs 7) R := g7
    dsimp only at g7
    obtain ⟨-, k7⟩ := g7
    refine l_call0 (aS rfl (aS rfl (a0))) (by kernel_rfl) (sadd_f _ _ _ _ k7 hz14 (Nat.mod_lt _ lN_pos) (nonN_lt _ _) _) rfl ?_
    rintro r M1 J1 ⟨rfl, rfl, hh⟩
    exact ⟨_, rfl, rfl, hh⟩
  ·
    have g2 := ha _ (List.mem_of_getElem? (i := 0) rfl) (by kernel_rfl)
    replace g2 : (fun v B R => B = [] ∧ By R v (pubB ws)) (vs 2) (bs 2) R := g2
    dsimp only at g2
    have g4 := ha _ (List.mem_of_getElem? (i := 1) rfl) (by kernel_rfl)
    replace g4 : (fun v B _ => B = [] ∧ Sc v (chlN (rB ws wm) (pubB ws) wm)) (vs 4) (bs 4) R := g4
    dsimp only at g4
    have g6 := ha _ (List.mem_of_getElem? (i := 2) rfl) (by kernel_rfl)
    replace g6 : (fun v B _ => B = [] ∧ Sc v (secN ws)) (vs 6) (bs 6) R := g6
    dsimp only at g6
    have g7 := ha _ (List.mem_of_getElem? (i := 3) rfl) (by kernel_rfl)
    replace g7 : (fun v B _ => B = [] ∧ Sc v (chlN (rB ws wm) (pubB ws) wm * secN ws % lN)) (vs 7) (bs 7) R := g7
    dsimp only at g7
    have g9 := ha _ (List.mem_of_getElem? (i := 4) rfl) (by kernel_rfl)
    replace g9 : (fun v B _ => B = [] ∧ Sc v (sN ws wm)) (vs 9) (bs 9) R := g9
    dsimp only at g9
    obtain ⟨-, k9⟩ := g9
    exact l_callV (aS rfl a0) (by kernel_rfl) (sbytes_f _ _ k9 _) rfl ⟨_, rfl, rfl, rfl⟩
  ·
    exact l_alloc (cs := [.int .u8 0, .int .u8 0, .int .u8 0, .int .u8 0, .int .u8 0, .int .u8 0, .int .u8 0, .int .u8 0, .int .u8 0, .int .u8 0, .int .u8 0, .int .u8 0, .int .u8 0, .int .u8 0, .int .u8 0, .int .u8 0, .int .u8 0, .int .u8 0, .int .u8 0, .int .u8 0, .int .u8 0, .int .u8 0, .int .u8 0, .int .u8 0, .int .u8 0, .int .u8 0, .int .u8 0, .int .u8 0, .int .u8 0, .int .u8 0, .int .u8 0, .int .u8 0]) (by kernel_rfl) rfl fun b => ⟨_, rfl, b, rfl, rfl⟩
  intro vs bs Jn0 hφ
  have g2 := ofH hφ
  dsimp only at g2
  replace hφ := ofT hφ
  have g4 := ofH hφ
  dsimp only at g4
  replace hφ := ofT hφ
  have g6 := ofH hφ
  dsimp only at g6
  replace hφ := ofT hφ
  have g7 := ofH hφ
  dsimp only at g7
  replace hφ := ofT hφ
  have g9 := ofH hφ
  dsimp only at g9
  replace hφ := ofT hφ
  have g10 := ofH hφ
  dsimp only at g10
  replace hφ := ofT hφ
  have g11 := ofH hφ
  dsimp only at g11
  clear hφ
  dsimp only [gEnvO, ownOf, List.map, List.flatten, List.cons_append, List.nil_append]
  generalize bs 2 = B22 at *
  generalize bs 4 = B24 at *
  generalize bs 6 = B26 at *
  generalize bs 7 = B27 at *
  generalize bs 9 = B29 at *
  generalize bs 10 = B30 at *
  generalize bs 11 = B7 at *
  generalize vs 2 = u22 at *
  generalize vs 4 = u24 at *
  generalize vs 6 = u26 at *
  generalize vs 7 = u27 at *
  generalize vs 9 = u29 at *
  generalize vs 10 = u30 at *
  generalize vs 11 = u7 at *
  obtain ⟨rfl, -⟩ := g2
  obtain ⟨rfl, -⟩ := g4
  obtain ⟨rfl, -⟩ := g6
  obtain ⟨rfl, -⟩ := g7
  obtain ⟨rfl, -⟩ := g9
  obtain ⟨rfl, rfl⟩ := g10
  obtain ⟨b7, rfl, rfl⟩ := g11
  dsimp only [List.append_eq, List.nil_append, List.cons_append]
  refine XF.tl rfl rfl rfl (l_storeW (vs := nums .u8 (digs (sN ws wm) 32)) rfl rfl rfl (by rw [nums_len, digs_len]; kernel_rfl) (by rw [nums_len, digs_len]; rfl) nums_one UpC.upd ?_)
  refine XF.fin (kp 6 rfl (kp 7 rfl kn)) ?_
  refine XC.reg ?_
  refine XL.q (q_move rfl) rfl ?_
  refine XL.q (q_slArr (sz := 1) (e := 5) (n := 32) rfl (by kernel_rfl) (by kernel_rfl)) rfl ?_
  refine XL.lo rfl (l_append2 (e := 5) (sz := 1) (by_ := 1) (n := 32) (m := 32) rfl rfl (by kernel_rfl) rfl h19 (Rd.whole (n := 32) (cs := nums .u8 (digs (sN ws wm) 32)) At.mem (by rw [nums_len, digs_len])) nums_one PickC.perm (by unfold maxLen; omega) (by omega) rfl fun v33 B33 hs33 => ?_)
  haveI := hs33.cel
  rw [← nums_append] at hs33
  refine XL.q (q_assign rfl) rfl ?_
  refine XL.fin (kp 4 rfl kn) ?_
  refine XC.ret ?_
  exact ⟨_, B33, [], res1 rfl rfl, List.sublist_append_left _ _, by simp, rfl, hs33⟩

end Go.Proofs.YtcfdeohjhhpmcaaDoor
/-
  Structs that came in, opened to their leaves; slices of bytes of any length.
-/
set_option linter.unusedVariables false
namespace Go.Px
open Go.ChangeShapes Go.WideShapes Go.ChangeAt Go.RowKit
/-- A slice of bytes of any length that a slice bears. -/
structure Byi (R : Mem) (v : Value) (w : List Nat) : Prop where
  rd : Rd R 1 v w.length (nums .u8 w)
  lt : ∀ x ∈ w, x < 256
  len : w.length ≤ maxLen
theorem Byi.mono {R R' : Mem} {v : Value} {w : List Nat} (h : Byi R v w) (hR : ∀ x, x ∈ R → x ∈ R') : Byi R' v w := ⟨h.rd.mono hR, h.lt, h.len⟩
theorem By.i {R : Mem} {v : Value} {w : List Nat} (h : By R v w) : Byi R v w := ⟨h.rd, h.lt, h.max⟩
theorem Byi.by {R : Mem} {v : Value} {w : List Nat} (h : Byi R v w) (hl : w.length ≤ 16777216) : By R v w := ⟨h.rd, h.lt, hl⟩
theorem Byi.cel {R : Mem} {v : Value} {w : List Nat} (h : Byi R v w) : Cel v [v] := h.rd.cel
theorem Byi.one {R : Mem} {v : Value} {w : List Nat} (h : Byi R v w) : v.oneCell' = true := h.rd.one
section
variable {H : Type} {enc : TypeId × Value → H} {P : Program} {w : World} {spare : Nat → Bool} {held : Bool} {fuel : Nat} {t e : TypeId} {cs : List Value} {x : DataW H × List MemPlace}
theorem st_field {fs : Array Field} {tf : TypeId} {o c : Nat} (ht : P.underlying t = some (.struct fs)) (h : DataW.trod enc P w 0 spare held fuel t cs = some x) (i : Nat) (f : Field) (hf : fs[i]? = some f) (hty : f.type = tf) (ho : f.offset = o) (hc : P.cellsOf tf = c) :
    ∃ m y, DataW.trod enc P w 0 spare held m tf ((cs.drop o).take c) = some y := by
  obtain ⟨xs, m, _, _, h1, h2, h3⟩ := DataW.trod_struct ht h
  have e0 := h3 i f hf
  have hi : i < fs.size := (Array.getElem?_eq_some_iff.1 hf).1
  rw [hty, ho, hc, List.getElem?_eq_getElem (by omega)] at e0
  exact ⟨m, _, e0⟩
theorem in_bytes (ht : P.underlying t = some (.slice e)) (he : P.underlying e = some (.int .u8)) (hc : P.cellsOf e = 1) (h : DataW.trod enc P w 0 spare held fuel t cs = some x) :
    ∃ v ws, cs = [v] ∧ Byi (heapA w) v ws := by
  obtain ⟨v, xss, h1, h2, h3, h4⟩ := in_slice ht hc (by decide) h
  obtain ⟨ws, h5, h6, h7⟩ := uints_of (k := .u8) rfl he h4
  exact ⟨v, ws, h1, by rw [h6, ← h5]; exact h3, h7, by omega⟩
end
end Go.Px

