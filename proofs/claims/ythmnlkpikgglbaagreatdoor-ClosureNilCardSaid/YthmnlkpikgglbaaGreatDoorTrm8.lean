/- Read; the walk of TermBytes. -/
import Derived.Test.YthmnlkpikgglbaaGreatDoorTrm7
set_option linter.unusedVariables false
set_option linter.unusedSimpArgs false
namespace Go.Proofs.YthmnlkpikgglbaaGreatDoor
open Go.Px
def rawT (ws : List Nat) : Tm := ⟨2, [], ws, 0⟩
def rdT (ts : List Tm) (ws : List Nat) : List Tm := match plc ws ts.length with
  | some _ => ts
  | none => add ts (rawT ws)
def rdI (ts : List Tm) (ws : List Nat) : Nat := match plc ws ts.length with
  | some j => j
  | none => at_ ts (rawT ws)
theorem rawT_ok {ws : List Nat} (h : ∀ x ∈ ws, x < 256) (hl : ws.length ≤ 1099511627776) : Tmo (rawT ws) := ⟨show 2 < 256 by decide, show i64 0 by unfold i64; omega, fun i hi => (List.not_mem_nil hi).elim, show 0 ≤ 1048576 by decide, ⟨h⟩, hl⟩
theorem rdT_some {ts : List Tm} {ws : List Nat} {j : Nat} (h : plc ws ts.length = some j) : rdT ts ws = ts ∧ rdI ts ws = j := by unfold rdT rdI; rw [h]; exact ⟨rfl, rfl⟩
theorem rdT_none {ts : List Tm} {ws : List Nat} (h : plc ws ts.length = none) : rdT ts ws = add ts (rawT ws) ∧ rdI ts ws = at_ ts (rawT ws) := by unfold rdT rdI; rw [h]; exact ⟨rfl, rfl⟩
theorem plc_lt {ws : List Nat} {n j : Nat} (h : plc ws n = some j) : j < n ∧ ∀ m, j < m → plc ws m = some j := by
  unfold plc at h
  split at h
  · rename_i hc
    have e := Option.some.inj h
    subst e
    exact ⟨hc.2.2.2, fun m hm => plc_yes ⟨hc.1, hc.2.1, hc.2.2.1, hm⟩⟩
  · cases h
theorem add_none {ts : List Tm} {t : Tm} (h : pos ts t = none) : add ts t = ts ++ [t] ∧ at_ ts t = ts.length := by unfold add at_; rw [h]; exact ⟨rfl, rfl⟩
theorem add_some {ts : List Tm} {t : Tm} {j : Nat} (h : pos ts t = some j) : add ts t = ts ∧ at_ ts t = j := by unfold add at_; rw [h]; exact ⟨rfl, rfl⟩
theorem read_end {ts : List Tm} {ws : List Nat} (hw : Tmo (rawT ws)) (hts : ∀ t ∈ ts, Tmo t) : rdI ts ws < (rdT ts ws).length ∧ (∀ d, plc ws (rdT ts ws).length = some d → rdI ts ws = d) ∧ (plc ws (rdT ts ws).length = none → (rdT ts ws)[rdI ts ws]? = some (rawT ws)) := by
  cases hp : plc ws ts.length with
  | some j =>
    obtain ⟨h1, h2⟩ := rdT_some hp
    rw [h1, h2]
    exact ⟨(plc_lt hp).1, (fun d hd => by rw [hp] at hd; exact Option.some.inj hd), fun h => by rw [hp] at h; cases h⟩
  | none =>
    obtain ⟨h1, h2⟩ := rdT_none hp
    rw [h1, h2]
    cases hq : pos ts (rawT ws) with
    | some j =>
      obtain ⟨h3, h4⟩ := add_some hq
      rw [h3, h4]
      exact ⟨pos_lt hq, (fun d hd => by rw [hp] at hd; cases hd), fun _ => pos_some hw hts hq⟩
    | none =>
      obtain ⟨h3, h4⟩ := add_none hq
      rw [h3, h4]
      refine ⟨by simp, fun d hd => ?_, fun _ => by simp⟩
      obtain ⟨h5, h6⟩ := plc_lt hd
      rw [List.length_append, List.length_singleton] at h5
      by_cases h7 : d < ts.length
      · have := h6 _ h7; rw [hp] at this; cases this
      · omega
def atoms (k : Nat) : List Tm := (List.range k).map fun (j : Nat) => (⟨1, [], [], (j : Int)⟩ : Tm)
theorem atoms_no {k : Nat} {t : Tm} (h : t.kind = 1 → t.n < 0 ∨ (k : Int) ≤ t.n) : t ∉ atoms k := by
  intro hm
  obtain ⟨j, hj, rfl⟩ := List.mem_map.1 hm
  have := List.mem_range.1 hj
  have := h rfl
  simp only at this
  omega
theorem atoms_succ (k : Nat) : atoms k ++ [⟨1, [], [], (k : Int)⟩] = atoms (k + 1) := by simp [atoms, List.range_succ]
theorem atoms_len (k : Nat) : (atoms k).length = k := by simp [atoms]
theorem u64_in {i : Int} {k : Nat} (hi : i64 i) (hk : k ≤ 20) : (plc (bts i) k).isSome = decide (0 ≤ i ∧ i < (k : Int)) ∧ ((plc (bts i) k).isSome = true → (((plc (bts i) k).getD 0 : Nat) : Int) = i) := by
  rw [plc_bts]
  unfold i64 at hi
  by_cases h : 0 ≤ i ∧ i < (k : Int)
  · have h1 : u64 i < k := by unfold u64; omega
    rw [if_pos h1]
    refine ⟨by simp [h], fun _ => ?_⟩
    show ((u64 i : Nat) : Int) = i
    unfold u64; omega
  · have h1 : ¬ u64 i < k := by unfold u64; omega
    rw [if_neg h1]
    exact ⟨by simp [h], fun h2 => by cases h2⟩
theorem u64_pos {i : Int} (hi : i64 i) (h : 0 ≤ i) : ((u64 i : Nat) : Int) = i := by unfold i64 at hi; unfold u64; omega

set_option maxRecDepth 100000 in
theorem read_spec (bt bm : Nat) (ts : List Tm) (vp : Value) (ws : List Nat) (MT A : Mem) (hT : Tab bt bm ts MT) (hn : ts.length ≤ 1048576) (hp : Rd A 1 vp ws.length (nums .u8 ws)) (hw : ∀ x ∈ ws, x < 256) (hl : ws.length ≤ 1099511627776) {e4 : TypeId} {f4 : Nat × Nat} (h4 : (4, Obj.cells (nums .u64 pow10T).toArray e4 f4) ∈ A) : FnX Tryz.prog 32 [.pointer (some ⟨bt, 0, none⟩), vp] MT A fun r M J => J = [] ∧ r = .int .i64 ((rdI ts ws : Nat) : Int) ∧ Tab bt bm (rdT ts ws) M := by
  haveI := hp.cel
  haveI : B256 ws := ⟨hw⟩
  refine FnX.enter (N := 20) Tryz.func32 rfl rfl rfl fun w => ?_
  refine XC.keep (kp 0 rfl (kp 1 rfl kn)) ?_
  refine XC.reg ?_
  refine XL.q (q_assign rfl) rfl ?_
  refine XL.fin (kp 0 rfl (kp 1 rfl kn)) ?_
  refine XC.seq ?_
  refine XC.reg ?_
  refine XL.q (q_move rfl) rfl ?_
  refine XL.q (q_move rfl) rfl ?_
  refine XL.callV (aS rfl (aS rfl a0)) (by kernel_rfl) (place_spec bt bm ts vp ws MT _ hT SubC.sub hn (hp.mono SubC.sub) hw (Nat.le_trans hl (by unfold maxLen; omega))) rfl ?_
  refine XL.q (q_move rfl) rfl ?_
  refine XL.q (q_x0 rfl) rfl ?_
  refine XL.q (q_x1 rfl) rfl ?_
  refine XL.q (q_assign rfl) rfl ?_
  refine XL.q (q_assign rfl) rfl ?_
  refine XL.fin (kp 0 rfl (kp 1 rfl (kp 5 rfl (kp 6 rfl kn)))) ?_
  refine XC.reg ?_
  refine XL.q (q_move rfl) rfl ?_
  refine XL.fin (kp 0 rfl (kp 1 rfl (kp 5 rfl (kp 13 rfl kn)))) ?_
  refine XC.cond rfl (fun hc => ?_) (fun hc => ?_)
  ·
    obtain ⟨j, hj⟩ := Option.isSome_iff_exists.1 hc
    obtain ⟨h1, h2⟩ := rdT_some hj
    refine XC.reg ?_
    refine XL.q (q_move rfl) rfl ?_
    refine XL.q (q_assign rfl) rfl ?_
    refine XL.fin (kp 4 rfl kn) ?_
    refine XC.ret ?_
    refine tr ?_
    exact ⟨_, MT, [], res1 rfl rfl, List.Sublist.refl _, by simp, rfl, by rw [h2, hj]; rfl, by rw [h1]; exact hT⟩
  ·
    have hj : plc ws ts.length = none := by simpa using hc
    obtain ⟨h1, h2⟩ := rdT_none hj
    refine XC.skip ?_
    refine nx (kp 0 rfl (kp 1 rfl kn)) ?_
    refine XC.reg ?_
    refine XL.q (q_move rfl) rfl ?_
    refine XL.q (q_move rfl) rfl ?_
    refine XL.q (q_toStr2 rfl (by kernel_rfl) (hp.mono SubC.sub)) rfl ?_
    refine XL.q (q_build (place := fun x => #[(0, 1), (1, 1), (2, 1), (3, 1)][x]?) (z := [.int .u8 0, .slice none 0 0, .string ByteArray.empty, .int .i64 0]) (fun _ => by kernel_rfl) (eS rfl (eS rfl e0)) (bdS 0 1 rfl (by rfl) (bdS 2 1 rfl (by rfl) bd0))) rfl ?_
    refine XL.lo rfl (l_call (Mc := MT) (R := _) (aS rfl (aS rfl a0)) (by kernel_rfl) PickC.perm (putT_spec bt bm ts (.slice none 0 0) (rawT ws) MT _ hT hn Rd.nil (rawT_ok hw hl) (SubC.sub _ h4)) rfl ?_)
    rintro v19 M19 J19 ⟨rfl, rfl, hT19⟩
    refine XL.q (q_assign rfl) rfl ?_
    refine XL.fin (kp 4 rfl kn) ?_
    refine XC.ret ?_
    exact ⟨_, M19, [], res1 rfl rfl, by first | exact List.Sublist.refl _ | simp, by simp, rfl, by rw [h2], by rw [h1]; exact hT19⟩

theorem rdT_len {ts : List Tm} {ws : List Nat} : (rdT ts ws).length ≤ ts.length + 1 := by
  unfold rdT
  split
  · omega
  · exact add_len
theorem atom_ok (k : Nat) (h : k ≤ 20) : Tmo ⟨1, [], [], (k : Int)⟩ := ⟨show 1 < 256 by decide, show i64 (k : Int) by unfold i64; omega, fun i hi => (List.not_mem_nil hi).elim, show 0 ≤ 1048576 by decide, ⟨fun x hx => (List.not_mem_nil hx).elim⟩, show 0 ≤ 1099511627776 by decide⟩
theorem atoms_ok {k : Nat} (h : k ≤ 20) : ∀ t ∈ atoms k, Tmo t := by
  intro t ht
  obtain ⟨j, hj, rfl⟩ := List.mem_map.1 ht
  have := List.mem_range.1 hj
  exact atom_ok j (by omega)
theorem lt_u (i : Int) {j : Nat} (hj : j < 8) : u64 i / 256 ^ (j + 1) * 256 + (bts i).getD (1 + j) 0 = u64 i / 256 ^ j := by
  rw [bts_get i hj, byt_u i hj, Nat.pow_succ, ← Nat.div_div_eq_div_mul]
  omega
