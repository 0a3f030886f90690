/- Read; the walk of TermBytes. -/
import Derived.Test.YtibemhcnjdgemaaDoorTrm7
set_option linter.unusedVariables false
set_option linter.unusedSimpArgs false
namespace Go.Proofs.YtibemhcnjdgemaaDoor
open Go.Px
def rawT (ws : List Nat) : Tm := ⟨2, [], ws, 0⟩
def rdT (ts : List Tm) (ws : List Nat) : List Tm := match plc ws ts.length with
  | some _ => ts
  | none => add ts (rawT ws)
def rdI (ts : List Tm) (ws : List Nat) : Nat := match plc ws ts.length with
  | some j => j
  | none => at_ ts (rawT ws)
theorem rawT_ok {ws : List Nat} (h : ∀ x ∈ ws, x < 256) (hl : ws.length ≤ 1099511627776) : Tmo (rawT ws) := ⟨show 2 < 256 by decide, show i64 0 by unfold i64; omega, fun i hi => (List.not_mem_nil hi).elim, show 0 ≤ 1048576 by decide, ⟨h⟩, hl⟩
theorem rdT_some {ts : List Tm} {ws : List Nat} {j : Nat} (h : plc ws ts.length = some j) : rdT ts ws = ts ∧ rdI ts ws = j := by unfold rdT rdI; rw [h]; exact ⟨rfl, rfl⟩
theorem rdT_none {ts : List Tm} {ws : List Nat} (h : plc ws ts.length = none) : rdT ts ws = add ts (rawT ws) ∧ rdI ts ws = at_ ts (rawT ws) := by unfold rdT rdI; rw [h]; exact ⟨rfl, rfl⟩
theorem plc_lt {ws : List Nat} {n j : Nat} (h : plc ws n = some j) : j < n ∧ ∀ m, j < m → plc ws m = some j := by
  unfold plc at h
  split at h
  · rename_i hc
    have e := Option.some.inj h
    subst e
    exact ⟨hc.2.2.2, fun m hm => plc_yes ⟨hc.1, hc.2.1, hc.2.2.1, hm⟩⟩
  · cases h
theorem add_none {ts : List Tm} {t : Tm} (h : pos ts t = none) : add ts t = ts ++ [t] ∧ at_ ts t = ts.length := by unfold add at_; rw [h]; exact ⟨rfl, rfl⟩
theorem add_some {ts : List Tm} {t : Tm} {j : Nat} (h : pos ts t = some j) : add ts t = ts ∧ at_ ts t = j := by unfold add at_; rw [h]; exact ⟨rfl, rfl⟩
theorem read_end {ts : List Tm} {ws : List Nat} (hw : Tmo (rawT ws)) (hts : ∀ t ∈ ts, Tmo t) : rdI ts ws < (rdT ts ws).length ∧ (∀ d, plc ws (rdT ts ws).length = some d → rdI ts ws = d) ∧ (plc ws (rdT ts ws).length = none → (rdT ts ws)[rdI ts ws]? = some (rawT ws)) := by
  cases hp : plc ws ts.length with
  | some j =>
    obtain ⟨h1, h2⟩ := rdT_some hp
    rw [h1, h2]
    exact ⟨(plc_lt hp).1, (fun d hd => by rw [hp] at hd; exact Option.some.inj hd), fun h => by rw [hp] at h; cases h⟩
  | none =>
    obtain ⟨h1, h2⟩ := rdT_none hp
    rw [h1, h2]
    cases hq : pos ts (rawT ws) with
    | some j =>
      obtain ⟨h3, h4⟩ := add_some hq
      rw [h3, h4]
      exact ⟨pos_lt hq, (fun d hd => by rw [hp] at hd; cases hd), fun _ => pos_some hw hts hq⟩
    | none =>
      obtain ⟨h3, h4⟩ := add_none hq
      rw [h3, h4]
      refine ⟨by simp, fun d hd => ?_, fun _ => by simp⟩
      obtain ⟨h5, h6⟩ := plc_lt hd
      rw [List.length_append, List.length_singleton] at h5
      by_cases h7 : d < ts.length
      · have := h6 _ h7; rw [hp] at this; cases this
      · omega
def atoms (k : Nat) : List Tm := (List.range k).map fun (j : Nat) => (⟨1, [], [], (j : Int)⟩ : Tm)
theorem atoms_no {k : Nat} {t : Tm} (h : t.kind = 1 → t.n < 0 ∨ (k : Int) ≤ t.n) : t ∉ atoms k := by
  intro hm
  obtain ⟨j, hj, rfl⟩ := List.mem_map.1 hm
  have := List.mem_range.1 hj
  have := h rfl
  simp only at this
  omega
theorem atoms_succ (k : Nat) : atoms k ++ [⟨1, [], [], (k : Int)⟩] = atoms (k + 1) := by simp [atoms, List.range_succ]
theorem atoms_len (k : Nat) : (atoms k).length = k := by simp [atoms]
theorem u64_in {i : Int} {k : Nat} (hi : i64 i) (hk : k ≤ 20) : (plc (bts i) k).isSome = decide (0 ≤ i ∧ i < (k : Int)) ∧ ((plc (bts i) k).isSome = true → (((plc (bts i) k).getD 0 : Nat) : Int) = i) := by
  rw [plc_bts]
  unfold i64 at hi
  by_cases h : 0 ≤ i ∧ i < (k : Int)
  · have h1 : u64 i < k := by unfold u64; omega
    rw [if_pos h1]
    refine ⟨by simp [h], fun _ => ?_⟩
    show ((u64 i : Nat) : Int) = i
    unfold u64; omega
  · have h1 : ¬ u64 i < k := by unfold u64; omega
    rw [if_neg h1]
    exact ⟨by simp [h], fun h2 => by cases h2⟩
theorem u64_pos {i : Int} (hi : i64 i) (h : 0 ≤ i) : ((u64 i : Nat) : Int) = i := by unfold i64 at hi; unfold u64; omega

set_option maxRecDepth 100000 in
theorem read_spec (bt bm : Nat) (ts : List Tm) (vp : Value) (ws : List Nat) (MT A : Mem) (hT : Tab bt bm ts MT) (hn : ts.length ≤ 1048576) (hp : Rd A 1 vp ws.length (nums .u8 ws)) (hw : ∀ x ∈ ws, x < 256) (hl : ws.length ≤ 1099511627776) {e4 : TypeId} {f4 : Nat × Nat} (h4 : (4, Obj.cells (nums .u64 pow10T).toArray e4 f4) ∈ A) : FnX Tryd.prog 35 [.pointer (some ⟨bt, 0, none⟩), vp] MT A fun r M J => J = [] ∧ r = .int .i64 ((rdI ts ws : Nat) : Int) ∧ Tab bt bm (rdT ts ws) M := by
  haveI := hp.cel
  haveI : B256 ws := ⟨hw⟩
  refine FnX.enter (N := 20) Tryd.func35 rfl rfl rfl fun w => ?_
  refine XC.keep (kp 0 rfl (kp 1 rfl kn)) ?_
  refine XC.reg ?_
  refine XL.q (q_assign rfl) rfl ?_
  refine XL.fin (kp 0 rfl (kp 1 rfl kn)) ?_
  refine XC.seq ?_
  refine XC.reg ?_
  refine XL.q (q_move rfl) rfl ?_
  refine XL.q (q_move rfl) rfl ?_
  refine XL.callV (aS rfl (aS rfl a0)) (by kernel_rfl) (place_spec bt bm ts vp ws MT _ hT SubC.sub hn (hp.mono SubC.sub) hw (Nat.le_trans hl (by unfold maxLen; omega))) rfl ?_
  refine XL.q (q_move rfl) rfl ?_
  refine XL.q (q_x0 rfl) rfl ?_
  refine XL.q (q_x1 rfl) rfl ?_
  refine XL.q (q_assign rfl) rfl ?_
  refine XL.q (q_assign rfl) rfl ?_
  refine XL.fin (kp 0 rfl (kp 1 rfl (kp 5 rfl (kp 6 rfl kn)))) ?_
  refine XC.reg ?_
  refine XL.q (q_move rfl) rfl ?_
  refine XL.fin (kp 0 rfl (kp 1 rfl (kp 5 rfl (kp 13 rfl kn)))) ?_
  refine XC.cond rfl (fun hc => ?_) (fun hc => ?_)
  ·
    obtain ⟨j, hj⟩ := Option.isSome_iff_exists.1 hc
    obtain ⟨h1, h2⟩ := rdT_some hj
    refine XC.reg ?_
    refine XL.q (q_move rfl) rfl ?_
    refine XL.q (q_assign rfl) rfl ?_
    refine XL.fin (kp 4 rfl kn) ?_
    refine XC.ret ?_
    refine tr ?_
    exact ⟨_, MT, [], res1 rfl rfl, List.Sublist.refl _, by simp, rfl, by rw [h2, hj]; rfl, by rw [h1]; exact hT⟩
  ·
    have hj : plc ws ts.length = none := by simpa using hc
    obtain ⟨h1, h2⟩ := rdT_none hj
    refine XC.skip ?_
    refine nx (kp 0 rfl (kp 1 rfl kn)) ?_
    refine XC.reg ?_
    refine XL.q (q_move rfl) rfl ?_
    refine XL.q (q_move rfl) rfl ?_
    refine XL.q (q_toStr2 rfl (by kernel_rfl) (hp.mono SubC.sub)) rfl ?_
    refine XL.q (q_build (place := fun x => #[(0, 1), (1, 1), (2, 1), (3, 1)][x]?) (z := [.int .u8 0, .slice none 0 0, .string ByteArray.empty, .int .i64 0]) (fun _ => by kernel_rfl) (eS rfl (eS rfl e0)) (bdS 0 1 rfl (by rfl) (bdS 2 1 rfl (by rfl) bd0))) rfl ?_
    refine XL.lo rfl (l_call (Mc := MT) (R := _) (aS rfl (aS rfl a0)) (by kernel_rfl) PickC.perm (putT_spec bt bm ts (.slice none 0 0) (rawT ws) MT _ hT hn Rd.nil (rawT_ok hw hl) (SubC.sub _ h4)) rfl ?_)
    rintro v19 M19 J19 ⟨rfl, rfl, hT19⟩
    refine XL.q (q_assign rfl) rfl ?_
    refine XL.fin (kp 4 rfl kn) ?_
    refine XC.ret ?_
    exact ⟨_, M19, [], res1 rfl rfl, by first | exact List.Sublist.refl _ | simp, by simp, rfl, by rw [h2], by rw [h1]; exact hT19⟩

theorem rdT_len {ts : List Tm} {ws : List Nat} : (rdT ts ws).length ≤ ts.length + 1 := by
  unfold rdT
  split
  · omega
  · exact add_len
theorem atom_ok (k : Nat) (h : k ≤ 20) : Tmo ⟨1, [], [], (k : Int)⟩ := ⟨show 1 < 256 by decide, show i64 (k : Int) by unfold i64; omega, fun i hi => (List.not_mem_nil hi).elim, show 0 ≤ 1048576 by decide, ⟨fun x hx => (List.not_mem_nil hx).elim⟩, show 0 ≤ 1099511627776 by decide⟩
theorem atoms_ok {k : Nat} (h : k ≤ 20) : ∀ t ∈ atoms k, Tmo t := by
  intro t ht
  obtain ⟨j, hj, rfl⟩ := List.mem_map.1 ht
  have := List.mem_range.1 hj
  exact atom_ok j (by omega)
theorem lt_u (i : Int) {j : Nat} (hj : j < 8) : u64 i / 256 ^ (j + 1) * 256 + (bts i).getD (1 + j) 0 = u64 i / 256 ^ j := by
  rw [bts_get i hj, byt_u i hj, Nat.pow_succ, ← Nat.div_div_eq_div_mul]
  omega

set_option maxRecDepth 100000 in
theorem termBytes_spec (nn : Nat) (i : Int) (vp : Value) (ps qs : List Nat) (A : Mem) (hnn : nn < 256) (hi : i64 i) (hp : Rd A 1 vp ps.length (nums .u8 ps)) (hpw : ∀ x ∈ ps, x < 256) (hpl : ps.length ≤ maxLen) (hql : qs.length = 32) (hqw : ∀ x ∈ qs, x < 256) {e4 : TypeId} {f4 : Nat × Nat} (h4 : (4, Obj.cells (nums .u64 pow10T).toArray e4 f4) ∈ A) : FnV Tryd.prog 10 [.int .u8 (nn : Int), .int .i64 i, vp, .agg (nums .u8 qs).toArray] A (.bool true) := by
  haveI := hp.cel
  have hmx : maxLen < 9223372036854775808 := by unfold maxLen; omega
  obtain ⟨q0, qt, rfl⟩ : ∃ a l, qs = a :: l := by cases qs with | nil => simp at hql | cons a l => exact ⟨a, l, rfl⟩
  refine FnX.enter (N := 191) Tryd.func10 rfl rfl rfl fun w => ?_
  refine XC.keep (kp 0 rfl (kp 1 rfl (kp 2 rfl (kp 3 rfl kn)))) ?_
  refine XC.reg ?_
  refine XL.lo rfl (l_box rfl rfl rfl fun b7 => ?_)
  refine XL.q (q_assign rfl) rfl ?_
  refine XL.fin (kp 0 rfl (kp 1 rfl (kp 2 rfl (kp 7 rfl kn)))) ?_
  refine XC.seq ?_
  refine XC.reg ?_
  refine XL.callV a0 (by kernel_rfl) (tawake_spec _ (mA h4)) rfl ?_
  refine XL.q (q_not rfl) rfl ?_
  refine XL.q (q_move rfl) rfl ?_
  refine XL.gy rfl rfl (OpQ.opL (q_move rfl) rfl ?_)
  refine XL.gy rfl rfl (OpQ.opL (q_lenV2 (sz := 1) rfl (by kernel_rfl) hp) rfl ?_)
  refine XL.gy rfl rfl (OpQ.opL (q_bin rfl rfl rfl) rfl ?_)
  refine XL.q (q_pickF rfl rfl) rfl ?_
  refine XL.fin (kp 0 rfl (kp 1 rfl (kp 2 rfl (kp 7 rfl (kp 35 rfl kn))))) ?_
  refine XC.cond rfl (fun hc => ?_) (fun hc => ?_)
  ·
    refine XC.reg ?_
    refine XL.callV a0 (by kernel_rfl) (tawake_spec _ (mA h4)) rfl ?_
    refine XL.q (q_assign rfl) rfl ?_
    refine XL.fin (kp 8 rfl kn) ?_
    refine XC.ret ?_
    refine tr ?_
    exact ⟨_, [], [], res1 rfl rfl, List.nil_sublist _, by simp, rfl, rfl, rfl⟩
  ·
    have hp100 : ps.length ≤ 100 := by simp at hc; omega
    refine XC.skip ?_
    refine nx (kp 0 rfl (kp 1 rfl (kp 2 rfl (kp 7 rfl kn)))) ?_
    refine XC.reg ?_
    refine XL.call a0 (by kernel_rfl) (newT_spec _) rfl ?_
    rintro v37 M37 J37 ⟨rfl, bt, bm, rfl, hT0⟩
    refine XL.q (q_assign rfl) rfl ?_
    refine XL.fin (kp 0 rfl (kp 1 rfl (kp 2 rfl (kp 7 rfl (kp 9 rfl kn))))) ?_
    refine XC.reg ?_
    refine XL.q (q_move rfl) rfl ?_
    refine XL.q (q_convN nn rfl (by kernel_rfl) (wrapI (by omega))) rfl ?_
    refine XL.q (q_remI rfl rfl rfl rfl (by decide)) rfl ?_
    have hk20 : nn % 20 < 20 := Nat.mod_lt _ (by decide)
    refine XL.q (q_assign rfl) rfl ?_
    refine XL.fin (kp 1 rfl (kp 2 rfl (kp 7 rfl (kp 9 rfl (kp 10 rfl kn))))) ?_
    refine XC.seq ?_
    refine XC.reg ?_
    refine XL.q (q_assign rfl) rfl ?_
    refine XL.fin (kp 1 rfl (kp 2 rfl (kp 7 rfl (kp 9 rfl (kp 10 rfl (kp 11 rfl kn)))))) ?_
    refine XC.block ?_
    refine XC.loop (α := Nat × Mem) (fun s => [(1, .int .i64 i), (2, vp), (7, .pointer (some ⟨b7, 0, none⟩)), (9, .pointer (some ⟨bt, 0, none⟩)), (10, .int .i64 ((nn % 20 : Nat) : Int)), (11, .int .i64 (s.1 : Int))]) (fun s => s.2 ++ [(b7, blk (nums .u8 (q0 :: qt)) 74)]) (fun _ => []) (fun s => s.1 ≤ nn % 20 ∧ Tab bt bm (atoms s.1) s.2) (fun s => nn % 20 - s.1) ⟨0, M37⟩ ⟨Nat.zero_le _, hT0⟩ (kp 1 rfl (kp 2 rfl (kp 7 rfl (kp 9 rfl (kp 10 rfl (kp 11 rfl kn)))))) .rfl (fun _ h => h) ?_
    rintro ⟨j, MT⟩ ⟨hj, hT⟩
    dsimp only at hj hT ⊢
    generalize nn % 20 = kk at *
    refine XC.seq ?_
    refine XC.reg ?_
    refine XL.q (q_move rfl) rfl ?_
    refine XL.q (q_move rfl) rfl ?_
    refine XL.q (q_bin rfl rfl rfl) rfl ?_
    refine XL.fin (kp 1 rfl (kp 2 rfl (kp 7 rfl (kp 9 rfl (kp 10 rfl (kp 11 rfl (kp 43 rfl kn))))))) ?_
    refine XC.cond rfl (fun hc => ?_) (fun hc => ?_)
    ·
      have hlt : j < kk := by simp at hc; omega
      have hpn : pos (atoms j) ⟨1, [], [], (j : Int)⟩ = none := (pos_none (atom_ok j (by omega)) (atoms_ok (by omega))).2 (atoms_no fun _ => .inr (Int.le_refl _))
      refine XC.skip ?_
      refine nx (kp 1 rfl (kp 2 rfl (kp 7 rfl (kp 9 rfl (kp 10 rfl (kp 11 rfl kn)))))) ?_
      refine XC.seq ?_
      refine XC.block ?_
      refine XC.reg1 ?_
      refine XL.q (q_move rfl) rfl ?_
      refine XL.q (q_move rfl) rfl ?_
      refine XL.q (q_build (place := fun x => #[(0, 1), (1, 1), (2, 1), (3, 1)][x]?) (z := [.int .u8 0, .slice none 0 0, .string ByteArray.empty, .int .i64 0]) (fun _ => by kernel_rfl) (eS rfl (eS rfl e0)) (bdS 0 1 rfl (by rfl) (bdS 3 1 rfl (by rfl) bd0))) rfl ?_
      refine XL.lo rfl (l_call (Mc := MT) (R := _) (aS rfl (aS rfl a0)) (by kernel_rfl) PickC.perm (putT_spec bt bm (atoms j) (.slice none 0 0) ⟨1, [], [], (j : Int)⟩ MT _ hT (by rw [atoms_len]; omega) Rd.nil (atom_ok j (by omega)) (SubC.sub _ h4)) rfl ?_)
      rintro v49 M49 J49 ⟨rfl, rfl, hT49⟩
      rw [(add_none hpn).1, atoms_succ] at hT49
      refine XL.nil ?_
      refine nb ?_
      refine nx (kp 1 rfl (kp 2 rfl (kp 7 rfl (kp 9 rfl (kp 10 rfl (kp 11 rfl kn)))))) ?_
      refine XC.reg1 ?_
      refine XL.q (q_move rfl) rfl ?_
      refine XL.q (q_addI (b := 1) rfl rfl rfl rfl (by omega)) rfl ?_
      refine XL.q (q_assign rfl) rfl ?_
      refine XL.nil ?_
      exact rn ⟨j + 1, M49⟩ ⟨by dsimp only; omega, hT49⟩ (by dsimp only; omega) (kp 1 rfl (kp 2 rfl (kp 7 rfl (kp 9 rfl (kp 10 rfl (kp 11 rfl kn)))))) (Fit.pick PickC.perm (Fit.last PickC.perm)) (fun _ h => by cases h)
    ·
      have hge : j = kk := by simp at hc; omega
      subst hge
      refine XC.exit ?_
      refine te ?_
      refine re ?_
      refine be rfl ?_
      refine nx (kp 1 rfl (kp 2 rfl (kp 7 rfl (kp 9 rfl (kp 10 rfl kn))))) ?_
      refine XC.reg ?_
      refine XL.q (q_move rfl) rfl ?_
      refine XL.q (q_move rfl) rfl ?_
      refine XL.call (aS rfl a0) (by kernel_rfl) (bytes_spec i _) rfl ?_
      rintro v53 B53 J53 ⟨rfl, hs53⟩
      haveI := hs53.cel
      refine XL.callV (aS rfl (aS rfl a0)) (by kernel_rfl) (place_spec bt bm (atoms j) v53 (bts i) MT _ hT SubC.sub (by rw [atoms_len]; omega) (by rw [show (bts i).length = 32 from btk_len i (by omega)]; exact hs53.rd SubC.sub) (bts_b i) (by rw [show (bts i).length = 32 from btk_len i (by omega)]; unfold maxLen; omega)) rfl ?_
      rw [atoms_len]
      obtain ⟨hin1, hin2⟩ := u64_in hi (show j ≤ 20 by omega)
      generalize plc (bts i) j = pl at *
      refine XL.q (q_move rfl) rfl ?_
      refine XL.q (q_x0 rfl) rfl ?_
      refine XL.q (q_x1 rfl) rfl ?_
      refine XL.q (q_assign rfl) rfl ?_
      refine XL.q (q_assign rfl) rfl ?_
      refine XL.fin (kp 1 rfl (kp 2 rfl (kp 7 rfl (kp 9 rfl (kp 10 rfl (kp 12 rfl (kp 13 rfl kn))))))) ?_
      refine XC.join (α := Unit) (fun _ => [(1, .int .i64 i), (2, vp), (7, .pointer (some ⟨b7, 0, none⟩)), (9, .pointer (some ⟨bt, 0, none⟩)), (10, .int .i64 (j : Int)), (12, .int .i64 ((pl.getD 0 : Nat) : Int)), (13, .bool pl.isSome), (14, .bool pl.isSome)]) (fun _ => MT ++ [(b7, blk (nums .u8 (q0 :: qt)) 74)]) (fun _ => []) (fun _ => True) ?_ ?_
      ·
        refine XC.reg1 ?_
        refine XL.q (q_move rfl) rfl ?_
        refine XL.q (q_bin rfl rfl rfl) rfl ?_
        refine XL.q (q_move rfl) rfl ?_
        refine XL.split (t := 59) rfl (fun hb => ?_) (fun hb => ?_)
        ·
          refine XL.gy rfl rfl (OpQ.opL (q_move rfl) rfl ?_)
          refine XL.gy rfl rfl (OpQ.opL (q_move rfl) rfl ?_)
          refine XL.gy rfl rfl (OpQ.opL (q_bin rfl rfl rfl) rfl ?_)
          refine XL.q (q_pickT rfl rfl) rfl ?_
          refine XL.q (q_assign rfl) rfl ?_
          refine XL.nil ?_
          exact jn () trivial (kp 1 rfl (kp 2 rfl (kp 7 rfl (kp 9 rfl (kp 10 rfl (kp 12 rfl (kp 13 rfl (kp 14 (congrArg (fun b => some (Value.bool b)) (by rw [hin1]; have h0 : i ≥ 0 := of_decide_eq_true hb; exact decide_eq_decide.2 ⟨fun h => ⟨h0, h⟩, fun h => h.2⟩)) kn)))))))) (Fit.pick PickC.perm (Fit.last PickC.perm)) (fun _ h => by cases h)
        ·
          refine XL.gn rfl rfl rfl rfl ?_
          refine XL.gn rfl rfl rfl rfl ?_
          refine XL.gn rfl rfl rfl rfl ?_
          refine XL.q (q_pickF rfl rfl) rfl ?_
          refine XL.q (q_assign rfl) rfl ?_
          refine XL.nil ?_
          exact jn () trivial (kp 1 rfl (kp 2 rfl (kp 7 rfl (kp 9 rfl (kp 10 rfl (kp 12 rfl (kp 13 rfl (kp 14 (congrArg (fun b => some (Value.bool b)) (by rw [hin1]; have h0 : ¬ i ≥ 0 := of_decide_eq_false hb; exact (decide_eq_false fun h => h0 h.1).symm)) kn)))))))) (Fit.pick PickC.perm (Fit.last PickC.perm)) (fun _ h => by cases h)
      ·
        rintro _ _
        refine XC.join (α := Unit) (fun _ => [(1, .int .i64 i), (2, vp), (7, .pointer (some ⟨b7, 0, none⟩)), (9, .pointer (some ⟨bt, 0, none⟩)), (10, .int .i64 (j : Int))]) (fun _ => MT ++ [(b7, blk (nums .u8 (q0 :: qt)) 74)]) (fun _ => []) (fun _ => True) ?_ ?_
        ·
          refine XC.reg ?_
          refine XL.q (q_move rfl) rfl ?_
          refine XL.q (q_move rfl) rfl ?_
          refine XL.q (q_boolNe rfl rfl (by kernel_rfl)) rfl ?_
          rw [show (!(pl.isSome == pl.isSome)) = false by simp]
          refine XL.q (q_move rfl) rfl ?_
          refine XL.gy rfl rfl (OpQ.opL (q_move rfl) rfl ?_)
          refine XL.gy rfl rfl (OpQ.opL (q_move rfl) rfl ?_)
          refine XL.split (t := 69) rfl (fun hb => ?_) (fun hb => ?_)
          ·
            have hgi : ((pl.getD 0 : Nat) : Int) = i := hin2 hb
            refine XL.gy rfl rfl (OpQ.opL (q_move rfl) rfl ?_)
            refine XL.gy rfl rfl (OpQ.opL (q_move rfl) rfl ?_)
            refine XL.gy rfl rfl (OpQ.opL (q_bin (v := .bool false) rfl rfl (by simp only [arith]; rw [hgi]; simp)) rfl ?_)
            refine XL.gy rfl rfl (OpQ.opL (q_pickT rfl rfl) rfl ?_)
            refine XL.q (q_pickF rfl rfl) rfl ?_
            refine XL.q (q_move rfl) rfl ?_
            refine XL.gy rfl rfl (OpQ.opL (q_move rfl) rfl ?_)
            refine XL.callg rfl rfl (aS rfl a0) (by kernel_rfl) (bytes_spec i _) rfl ?_
            rintro v77 B77 J77 ⟨rfl, hs77⟩
            haveI := hs77.cel
            refine XL.gy rfl rfl (OpQ.opL (q_lenV2 (sz := 1) rfl (by kernel_rfl) (hs77.rd (R := B77) fun _ h => h)) rfl ?_)
            refine XL.gy rfl rfl (OpQ.opL (q_bin (v := .bool false) rfl rfl (by rfl)) rfl ?_)
            refine XL.q (q_pickF rfl rfl) rfl ?_
            refine XL.fin (kp 1 rfl (kp 2 rfl (kp 7 rfl (kp 9 rfl (kp 10 rfl (kp 80 rfl kn)))))) ?_
            refine XC.condF rfl ?_
            refine XC.skip ?_
            exact jn () trivial (kp 1 rfl (kp 2 rfl (kp 7 rfl (kp 9 rfl (kp 10 rfl kn))))) (Fit.pick PickC.perm (Fit.last PickC.perm)) (fun _ h => by cases h)
          ·
            refine XL.gn rfl rfl rfl rfl ?_
            refine XL.gn rfl rfl rfl rfl ?_
            refine XL.gn rfl rfl rfl rfl ?_
            refine XL.gy rfl rfl (OpQ.opL (q_pickF rfl rfl) rfl ?_)
            refine XL.q (q_pickF rfl rfl) rfl ?_
            refine XL.q (q_move rfl) rfl ?_
            refine XL.gy rfl rfl (OpQ.opL (q_move rfl) rfl ?_)
            refine XL.callg rfl rfl (aS rfl a0) (by kernel_rfl) (bytes_spec i _) rfl ?_
            rintro v77 B77 J77 ⟨rfl, hs77⟩
            haveI := hs77.cel
            refine XL.gy rfl rfl (OpQ.opL (q_lenV2 (sz := 1) rfl (by kernel_rfl) (hs77.rd (R := B77) fun _ h => h)) rfl ?_)
            refine XL.gy rfl rfl (OpQ.opL (q_bin (v := .bool false) rfl rfl (by rfl)) rfl ?_)
            refine XL.q (q_pickF rfl rfl) rfl ?_
            refine XL.fin (kp 1 rfl (kp 2 rfl (kp 7 rfl (kp 9 rfl (kp 10 rfl (kp 80 rfl kn)))))) ?_
            refine XC.condF rfl ?_
            refine XC.skip ?_
            exact jn () trivial (kp 1 rfl (kp 2 rfl (kp 7 rfl (kp 9 rfl (kp 10 rfl kn))))) (Fit.pick PickC.perm (Fit.last PickC.perm)) (fun _ h => by cases h)
        ·
          rintro _ _
          refine XC.join (α := Unit) (fun _ => [(2, vp), (7, .pointer (some ⟨b7, 0, none⟩)), (9, .pointer (some ⟨bt, 0, none⟩)), (10, .int .i64 (j : Int))]) (fun _ => MT ++ [(b7, blk (nums .u8 (q0 :: qt)) 74)]) (fun _ => []) (fun _ => True) ?_ ?_
          ·
            refine XC.reg ?_
            refine XL.q (q_move rfl) rfl ?_
            refine XL.q (q_bin rfl rfl rfl) rfl ?_
            refine XL.fin (kp 1 rfl (kp 2 rfl (kp 7 rfl (kp 9 rfl (kp 10 rfl (kp 82 rfl kn)))))) ?_
            refine XC.cond rfl (fun hc => ?_) (fun hc => ?_)
            ·
              have hi0 : 0 ≤ i := by simpa using hc
              refine XC.reg ?_
              refine XL.q (q_move rfl) rfl ?_
              refine XL.call (aS rfl a0) (by kernel_rfl) (bytes_spec i _) rfl ?_
              rintro v84 B84 J84 ⟨rfl, hs84⟩
              haveI := hs84.cel
              refine XL.q (q_assign rfl) rfl ?_
              refine XL.fin (kp 1 rfl (kp 2 rfl (kp 7 rfl (kp 9 rfl (kp 10 rfl (kp 15 rfl kn)))))) ?_
              refine XC.reg ?_
              refine XL.q (q_assign rfl) rfl ?_
              refine XL.fin (kp 1 rfl (kp 2 rfl (kp 7 rfl (kp 9 rfl (kp 10 rfl (kp 15 rfl (kp 16 rfl kn))))))) ?_
              refine XC.seq ?_
              refine XC.reg ?_
              refine XL.q (q_assign rfl) rfl ?_
              refine XL.fin (kp 1 rfl (kp 2 rfl (kp 7 rfl (kp 9 rfl (kp 10 rfl (kp 15 rfl (kp 16 rfl (kp 17 rfl kn)))))))) ?_
              refine XC.block ?_
              refine XC.loop (α := Nat) (fun r => [(1, .int .i64 i), (2, vp), (7, .pointer (some ⟨b7, 0, none⟩)), (9, .pointer (some ⟨bt, 0, none⟩)), (10, .int .i64 (j : Int)), (15, v84), (16, .int .i64 ((u64 i / 256 ^ r : Nat) : Int)), (17, .int .i64 (r : Int))]) (fun _ => B84 ++ (MT ++ [(b7, blk (nums .u8 (q0 :: qt)) 74)])) (fun _ => []) (fun r => r ≤ 8) (fun r => r) 8 (Nat.le_refl _) (kp 1 rfl (kp 2 rfl (kp 7 rfl (kp 9 rfl (kp 10 rfl (kp 15 rfl (kp 16 (by rw [Nat.div_eq_of_lt (show u64 i < 256 ^ 8 from u64_lt i)]; rfl) (kp 17 rfl kn)))))))) .rfl (fun _ h => h) ?_
              rintro r hr
              refine XC.seq ?_
              refine XC.reg ?_
              refine XL.q (q_move rfl) rfl ?_
              refine XL.q (q_bin rfl rfl rfl) rfl ?_
              refine XL.fin (kp 1 rfl (kp 2 rfl (kp 7 rfl (kp 9 rfl (kp 10 rfl (kp 15 rfl (kp 16 rfl (kp 17 rfl (kp 86 rfl kn))))))))) ?_
              refine XC.cond rfl (fun hc => ?_) (fun hc => ?_)
              ·
                have hr1 : 1 ≤ r := by simp at hc; omega
                obtain ⟨r, rfl⟩ : ∃ q, r = q + 1 := ⟨r - 1, by omega⟩
                have hlt9 := lt_u i (show r < 8 by omega)
                have hum : u64 i / 256 ^ r ≤ u64 i := Nat.div_le_self _ _
                have hup := u64_pos hi hi0
                have hi9 : u64 i < 9223372036854775808 := by have := hi.2; omega
                refine XC.skip ?_
                refine nx (kp 1 rfl (kp 2 rfl (kp 7 rfl (kp 9 rfl (kp 10 rfl (kp 15 rfl (kp 16 rfl (kp 17 rfl kn)))))))) ?_
                refine XC.seq ?_
                refine XC.block ?_
                refine XC.reg1 ?_
                refine XL.q (q_move rfl) rfl ?_
                refine XL.q (q_mulI (b := 256) rfl rfl rfl rfl (by omega)) rfl ?_
                refine XL.q (q_move rfl) rfl ?_
                refine XL.q (q_move rfl) rfl ?_
                refine XL.q (q_atV2 (sz := 1) (a := 1 + r) rfl rfl (by kernel_rfl) (by omega) (hs84.rd (R := B84) fun _ h => h) (by omega)) rfl ?_
                refine XL.q (q_ldVN (hs84.rd SubC.sub) rfl (by kernel_rfl) (by omega)) rfl ?_
                refine XL.q (q_convN ((bts i).getD (1 + r) 0) rfl (by kernel_rfl) (wrapI (by omega))) rfl ?_
                refine XL.q (q_addI rfl rfl rfl rfl (by omega)) rfl ?_
                rw [hlt9]
                refine XL.q (q_assign rfl) rfl ?_
                refine XL.nil ?_
                refine nb ?_
                refine nx (kp 1 rfl (kp 2 rfl (kp 7 rfl (kp 9 rfl (kp 10 rfl (kp 15 rfl (kp 16 rfl (kp 17 rfl kn)))))))) ?_
                refine XC.reg1 ?_
                refine XL.q (q_move rfl) rfl ?_
                refine XL.q (q_subI (a := r + 1) (b := 1) rfl rfl rfl rfl (by omega) (by omega)) rfl ?_
                rw [Nat.add_sub_cancel]
                refine XL.q (q_assign rfl) rfl ?_
                refine XL.nil ?_
                exact rn r (by omega) (by omega) (kp 1 rfl (kp 2 rfl (kp 7 rfl (kp 9 rfl (kp 10 rfl (kp 15 rfl (kp 16 rfl (kp 17 rfl kn)))))))) .rfl (fun _ h => h)
              ·
                have hr0 : r = 0 := by simp at hc; omega
                subst hr0
                have hup := u64_pos hi hi0
                refine XC.exit ?_
                refine te ?_
                refine re ?_
                refine be rfl ?_
                refine nx (kp 1 rfl (kp 2 rfl (kp 7 rfl (kp 9 rfl (kp 10 rfl (kp 15 rfl (kp 16 rfl kn))))))) ?_
                refine XC.reg ?_
                refine XL.q (q_move rfl) rfl ?_
                refine XL.q (q_atV2 (sz := 1) (a := 0) rfl rfl (by kernel_rfl) rfl (hs84.rd (R := B84) fun _ h => h) (by decide)) rfl ?_
                refine XL.q (q_ldVN (j := 0) (hs84.rd SubC.sub) rfl (by kernel_rfl) (by decide)) rfl ?_
                refine XL.q (q_bin (v := .bool false) rfl rfl (by rfl)) rfl ?_
                refine XL.q (q_move rfl) rfl ?_
                refine XL.gy rfl rfl (OpQ.opL (q_move rfl) rfl ?_)
                refine XL.gy rfl rfl (OpQ.opL (q_move rfl) rfl ?_)
                refine XL.gy rfl rfl (OpQ.opL (q_bin (v := .bool false) rfl rfl (by simp only [arith]; rw [Nat.pow_zero, Nat.div_one, hup]; simp)) rfl ?_)
                refine XL.q (q_pickF rfl rfl) rfl ?_
                refine XL.fin (kp 2 rfl (kp 7 rfl (kp 9 rfl (kp 10 rfl (kp 105 rfl kn))))) ?_
                refine XC.condF rfl ?_
                refine XC.skip ?_
                exact jn () trivial (kp 2 rfl (kp 7 rfl (kp 9 rfl (kp 10 rfl kn)))) (Fit.pick PickC.perm (Fit.last PickC.perm)) (fun _ h => by cases h)
            ·
              refine XC.skip ?_
              exact jn () trivial (kp 2 rfl (kp 7 rfl (kp 9 rfl (kp 10 rfl kn)))) .rfl (fun _ h => by cases h)
          ·
            rintro _ _
            refine XC.join (α := List Nat) (fun _ => [(2, vp), (7, .pointer (some ⟨b7, 0, none⟩)), (9, .pointer (some ⟨bt, 0, none⟩)), (10, .int .i64 (j : Int))]) (fun q => MT ++ [(b7, blk (nums .u8 q) 74)]) (fun _ => []) (fun q => q.length = 32 ∧ (∀ x ∈ q, x < 256) ∧ q.getD 0 0 ≠ 84) ?_ ?_
            ·
              refine XC.reg ?_
              refine XL.q (q_idxAN 0 (e := 5) (n := 32) (sz := 1) (i := 0) rfl rfl (by kernel_rfl) (by kernel_rfl) rfl (by decide) rfl) rfl ?_
              refine XL.q (q_load (v := .int .u8 ((q0 : Nat) : Int)) rfl (by kernel_rfl) At.mem (by rfl)) rfl ?_
              refine XL.q (q_bin rfl rfl rfl) rfl ?_
              refine XL.fin (kp 2 rfl (kp 7 rfl (kp 9 rfl (kp 10 rfl (kp 108 rfl kn))))) ?_
              refine XC.cond rfl (fun hc => ?_) (fun hc => ?_)
              ·
                refine XC.reg1 ?_
                refine XL.q (q_idxAN 0 (e := 5) (n := 32) (sz := 1) (i := 0) rfl rfl (by kernel_rfl) (by kernel_rfl) rfl (by decide) rfl) rfl ?_
                refine XL.lo rfl (l_store rfl rfl rfl (by kernel_rfl) (show SetL (.int .u8 (q0 : Int) :: nums .u8 qt) 0 (.int .u8 116) (.int .u8 116 :: nums .u8 qt) from SetC.set) UpC.upd ?_)
                refine XL.nil ?_
                exact jn (116 :: qt) ⟨by simpa using hql, (fun x hx => by rcases List.mem_cons.1 hx with rfl | hx; decide; exact hqw x (List.mem_cons_of_mem _ hx)), (by show 116 ≠ 84; decide)⟩ (kp 2 rfl (kp 7 rfl (kp 9 rfl (kp 10 rfl kn)))) .rfl (fun _ h => by cases h)
              ·
                have hq084 : q0 ≠ 84 := by have h := hc; rw [beq_eq_false_iff_ne] at h; omega
                refine XC.skip ?_
                exact jn (q0 :: qt) ⟨hql, hqw, hq084⟩ (kp 2 rfl (kp 7 rfl (kp 9 rfl (kp 10 rfl kn)))) .rfl (fun _ h => by cases h)
            ·
              rintro qs2 ⟨hq2l, hq2, hq84⟩
              have hplc : ∀ n, plc qs2 n = none := fun n => plc_84 hq84
              have hrok : Tmo (rawT qs2) := rawT_ok hq2 (by omega)
              haveI : B256 qs2 := ⟨hq2⟩
              haveI : B256 ps := ⟨hpw⟩
              have hraw1 : pos (atoms j) (rawT qs2) = none := (pos_none hrok (atoms_ok (by omega))).2 (atoms_no fun h => absurd h (show ¬ (2 = 1) by decide))
              have hI1 : rdI (atoms j) qs2 = j := by rw [(rdT_none (hplc _)).2, (add_none hraw1).2, atoms_len]
              have hT1 : rdT (atoms j) qs2 = atoms j ++ [rawT qs2] := by rw [(rdT_none (hplc _)).1, (add_none hraw1).1]
              have h1len : (atoms j ++ [rawT qs2]).length = j + 1 := by rw [List.length_append, atoms_len]; rfl
              have h1get : (atoms j ++ [rawT qs2])[j]? = some (rawT qs2) := by rw [List.getElem?_append_right (by rw [atoms_len]; omega), atoms_len, Nat.sub_self]; rfl
              refine XC.reg ?_
              refine XL.q (q_move rfl) rfl ?_
              refine XL.q (q_slArr (sz := 1) (e := 5) (n := 32) rfl (by kernel_rfl) (by kernel_rfl)) rfl ?_
              refine XL.lo rfl (l_call (Mc := MT) (R := _) (aS rfl (aS rfl a0)) (by kernel_rfl) PickC.perm (read_spec bt bm (atoms j) _ qs2 MT _ hT (by rw [atoms_len]; omega) (by rw [hq2l]; exact Rd.whole (n := 32) At.mem (by simp [hq2l])) hq2 (by omega) (SubC.sub _ h4)) rfl ?_)
              rintro v112 M112 J112 ⟨rfl, rfl, hT112⟩
              rw [hT1] at hT112
              rw [hI1]
              generalize atoms j ++ [rawT qs2] = ts1 at *
              have hnT := hT112
              obtain ⟨_, _, _, _, _, _, _, _, _, _, _, hts1, hnd1⟩ := hnT
              have hI2 : rdI ts1 qs2 = j := by rw [(rdT_none (hplc _)).2, (add_some (pos_of hts1 hnd1 h1get)).2]
              have hT2 : rdT ts1 qs2 = ts1 := by rw [(rdT_none (hplc _)).1, (add_some (pos_of hts1 hnd1 h1get)).1]
              refine XL.q (q_assign rfl) rfl ?_
              refine XL.fin (kp 2 rfl (kp 7 rfl (kp 9 rfl (kp 10 rfl (kp 18 rfl kn))))) ?_
              refine XC.reg ?_
              refine XL.q (q_move rfl) rfl ?_
              refine XL.q (q_move rfl) rfl ?_
              refine XL.call (aS rfl (aS rfl a0)) (by kernel_rfl) (getT_spec bt bm ts1 (j : Int) M112 _ hT112 SubC.sub) rfl ?_
              rintro v116 M116 J116 ⟨rfl, rfl, c116, ok116, rfl, hg, -⟩
              obtain ⟨rfl, t116, ht116, vy, rfl, hvy⟩ := hg ⟨by omega, by omega⟩
              obtain rfl : rawT qs2 = t116 := by rw [Int.toNat_natCast, h1get] at ht116; exact Option.some.inj ht116
              haveI := hvy.cel
              refine XL.q (q_move rfl) rfl ?_
              refine XL.q (q_x0 rfl) rfl ?_
              refine XL.q (q_x1 rfl) rfl ?_
              refine XL.lo rfl (l_alloc (cs := [.int .u8 0, .slice none 0 0, .string ByteArray.empty, .int .i64 0]) (by kernel_rfl) rfl fun b19 => ?_)
              refine XL.lo rfl (l_storeW rfl rfl rfl (by kernel_rfl) (by rfl) (by intro c hc; simp only [List.mem_cons, List.not_mem_nil, or_false] at hc; rcases hc with rfl | rfl | rfl | rfl <;> first | rfl | exact hvy.one) UpC.upd ?_)
              refine XL.q (q_assign rfl) rfl ?_
              refine XL.fin (kp 2 rfl (kp 7 rfl (kp 9 rfl (kp 10 rfl (kp 18 rfl (kp 19 rfl kn)))))) ?_
              refine XC.reg ?_
              refine XL.q (q_move rfl) rfl ?_
              refine XL.q (q_slArr (sz := 1) (e := 5) (n := 32) rfl (by kernel_rfl) (by kernel_rfl)) rfl ?_
              refine XL.lo rfl (l_call (Mc := M112) (R := _) (aS rfl (aS rfl a0)) (by kernel_rfl) PickC.perm (read_spec bt bm ts1 _ qs2 M112 _ hT112 (by omega) (by rw [hq2l]; exact Rd.whole (n := 32) At.mem (by simp [hq2l])) hq2 (by omega) (SubC.sub _ h4)) rfl ?_)
              rintro v121 M121 J121 ⟨rfl, rfl, hT121⟩
              rw [hT2] at hT121
              rw [hI2]
              refine XL.q (q_assign rfl) rfl ?_
              refine XL.fin (kp 2 rfl (kp 7 rfl (kp 9 rfl (kp 10 rfl (kp 18 rfl (kp 19 rfl (kp 21 rfl kn))))))) ?_
              refine XC.reg ?_
              refine XL.q (q_move rfl) rfl ?_
              refine XL.q (q_move rfl) rfl ?_
              refine XL.lo rfl (l_call (Mc := M121) (R := _) (aS rfl (aS rfl a0)) (by kernel_rfl) PickC.perm (read_spec bt bm ts1 vp ps M121 _ hT121 (by omega) (hp.mono SubC.sub) hpw (by omega) (SubC.sub _ h4)) rfl ?_)
              rintro v124 M124 J124 ⟨rfl, rfl, hT124⟩
              obtain ⟨e1, e2, e3⟩ := read_end (ts := ts1) (ws := ps) (rawT_ok hpw (by omega)) hts1
              have h2len := rdT_len (ts := ts1) (ws := ps)
              generalize rdI ts1 ps = cc at *
              generalize rdT ts1 ps = ts2 at *
              refine XL.q (q_assign rfl) rfl ?_
              refine XL.fin (kp 2 rfl (kp 7 rfl (kp 9 rfl (kp 10 rfl (kp 18 rfl (kp 19 rfl (kp 21 rfl (kp 22 rfl kn)))))))) ?_
              refine XC.reg ?_
              refine XL.q (q_move rfl) rfl ?_
              refine XL.q (q_move rfl) rfl ?_
              refine XL.call (aS rfl (aS rfl a0)) (by kernel_rfl) (getT_spec bt bm ts2 (cc : Int) M124 _ hT124 SubC.sub) rfl ?_
              rintro v128 M128 J128 ⟨rfl, rfl, c128, ok128, rfl, hg, -⟩
              obtain ⟨rfl, t128, ht128, vz, rfl, hvz⟩ := hg ⟨by omega, by omega⟩
              rw [Int.toNat_natCast] at ht128
              haveI := hvz.cel
              refine XL.q (q_move rfl) rfl ?_
              refine XL.q (q_x0 rfl) rfl ?_
              refine XL.q (q_x1 rfl) rfl ?_
              refine XL.lo rfl (l_alloc (cs := [.int .u8 0, .slice none 0 0, .string ByteArray.empty, .int .i64 0]) (by kernel_rfl) rfl fun b23 => ?_)
              refine XL.lo rfl (l_storeW rfl rfl rfl (by kernel_rfl) (by rfl) (by intro c hc; simp only [List.mem_cons, List.not_mem_nil, or_false] at hc; rcases hc with rfl | rfl | rfl | rfl <;> first | rfl | exact hvz.one) UpC.upd ?_)
              refine XL.q (q_assign rfl) rfl ?_
              refine XL.fin (kp 2 rfl (kp 7 rfl (kp 9 rfl (kp 10 rfl (kp 18 rfl (kp 19 rfl (kp 21 rfl (kp 22 rfl (kp 23 rfl kn))))))))) ?_
              refine XC.reg ?_
              refine XL.q (q_move rfl) rfl ?_
              refine XL.q (q_move rfl) rfl ?_
              refine XL.callV (aS rfl (aS rfl a0)) (by kernel_rfl) (place_spec bt bm ts2 vp ps M124 _ hT124 SubC.sub (by omega) (hp.mono SubC.sub) hpw hpl) rfl ?_
              generalize plc ps ts2.length = pl2 at *
              refine XL.q (q_move rfl) rfl ?_
              refine XL.q (q_x0 rfl) rfl ?_
              refine XL.q (q_x1 rfl) rfl ?_
              refine XL.q (q_assign rfl) rfl ?_
              refine XL.q (q_assign rfl) rfl ?_
              refine XL.fin (kp 2 rfl (kp 7 rfl (kp 9 rfl (kp 10 rfl (kp 18 rfl (kp 19 rfl (kp 21 rfl (kp 22 rfl (kp 23 rfl (kp 25 rfl (kp 26 rfl kn))))))))))) ?_
              refine XC.reg ?_
              refine XL.q (q_move rfl) rfl ?_
              refine XL.q (q_slArr (sz := 1) (e := 5) (n := 32) rfl (by kernel_rfl) (by kernel_rfl)) rfl ?_
              refine XL.callV (aS rfl (aS rfl a0)) (by kernel_rfl) (place_spec bt bm ts2 _ qs2 M124 _ hT124 SubC.sub (by omega) (by rw [hq2l]; exact Rd.whole (n := 32) At.mem (by simp [hq2l])) hq2 (by unfold maxLen; omega)) rfl ?_
              rw [hplc]
              refine XL.q (q_move rfl) rfl ?_
              refine XL.q (q_x0 rfl) rfl ?_
              refine XL.q (q_x1 rfl) rfl ?_
              refine XL.q (q_assign rfl) rfl ?_
              refine XL.q (q_assign rfl) rfl ?_
              refine XL.fin (kp 2 rfl (kp 7 rfl (kp 10 rfl (kp 18 rfl (kp 19 rfl (kp 21 rfl (kp 22 rfl (kp 23 rfl (kp 25 rfl (kp 26 rfl (kp 28 rfl kn))))))))))) ?_
              refine XC.drawF [0, 1, 2, 3, 4, 5, 6, 7, 8, 9, 10, 11, 12, 13, 14, 15, 16, 17, 18, 19, 20, 21, 22, 23, 24, 25, 26, 27, 28, 29, 30, 31, 32, 33, 34, 35, 36, 37, 38, 39, 40, 41, 42, 43, 44, 45, 46, 47, 48] [(0, 0), (1, 0), (2, 0), (3, 0), (4, 0), (5, 0), (6, 0), (7, 0), (8, 0), (9, 0), (10, 1), (11, 0), (12, 0), (13, 0), (14, 0), (15, 1), (16, 0), (17, 1), (18, 0), (19, 0), (20, 0), (21, 0), (22, 0), (23, 0), (24, 0), (25, 0), (26, 0), (27, 0), (28, 0), (29, 0), (30, 0), (31, 0), (32, 0), (33, 0), (34, 0), (35, 0), (36, 1), (37, 0), (38, 0), (39, 0), (40, 0), (41, 1), (42, 0), (43, 1), (44, 0), (45, 0), (46, 0), (47, 0), (48, 0)] (by kernel_rfl) (by kernel_rfl) fun hs => ?_
              refine XF.q hs rfl (q_move rfl) rfl ?_
              refine XF.q hs rfl (q_move rfl) rfl ?_
              refine XF.q hs rfl (q_bin (v := .bool true) rfl rfl (by simp [arith])) rfl ?_
              refine XF.q hs rfl (q_move rfl) rfl ?_
              refine XF.qg hs rfl rfl rfl rfl (q_move rfl) rfl ?_
              refine XF.qg hs rfl rfl rfl rfl (q_move rfl) rfl ?_
              refine XF.qg hs rfl rfl rfl rfl (q_bin (v := .bool true) rfl rfl (by simp [arith])) rfl ?_
              refine XF.q hs rfl (q_pickT rfl rfl) rfl ?_
              refine XF.q hs rfl (q_move rfl) rfl ?_
              refine XF.qg hs rfl rfl rfl rfl (q_fieldAddrN 0 (off := 0) rfl (by kernel_rfl) rfl) rfl ?_
              refine XF.rg hs rfl rfl rfl rfl (q_load rfl (by kernel_rfl) (by first | exact At.mem | exact mA (by assumption)) (by rfl)) rfl ?_
              refine XF.qg hs rfl rfl rfl rfl (q_bin (v := .bool true) rfl rfl (by rfl)) rfl ?_
              refine XF.q hs rfl (q_pickT rfl rfl) rfl ?_
              refine XF.q hs rfl (q_move rfl) rfl ?_
              refine XF.qg hs rfl rfl rfl rfl (q_fieldAddrN 2 (off := 2) rfl (by kernel_rfl) rfl) rfl ?_
              refine XF.rg hs rfl rfl rfl rfl (q_load rfl (by kernel_rfl) (by first | exact At.mem | exact mA (by assumption)) (by rfl)) rfl ?_
              refine XF.qg hs rfl rfl rfl rfl (q_slArr (sz := 1) (e := 5) (n := 32) rfl (by kernel_rfl) (by kernel_rfl)) rfl ?_
              refine XF.rg hs rfl rfl rfl rfl (q_toStr2 rfl (by kernel_rfl) (show Rd _ 1 _ 32 (nums .u8 qs2) from Rd.whole (n := 32) At.mem (by simp [hq2l]))) rfl ?_
              refine XF.qg hs rfl rfl rfl rfl (q_strEqT rfl rfl rfl) rfl ?_
              refine XF.q hs rfl (q_pickT rfl rfl) rfl ?_
              refine XF.q hs rfl (q_move rfl) rfl ?_
              refine XF.qg hs rfl rfl rfl rfl (q_move rfl) rfl ?_
              refine XF.qg hs rfl rfl rfl rfl (q_not rfl) rfl ?_
              refine XF.q hs rfl (q_pickT rfl rfl) rfl ?_
              refine XF.q hs rfl (q_move rfl) rfl ?_
              refine XF.qg hs rfl rfl rfl rfl (q_move rfl) rfl ?_
              refine XF.qg hs rfl rfl rfl rfl (q_move rfl) rfl ?_
              refine XF.split (t := 169) rfl (fun hb => ?_) (fun hb => ?_)
              ·
                obtain ⟨d2, hd2⟩ := Option.isSome_iff_exists.1 hb
                have ecc := e2 d2 hd2
                refine XF.qg hs rfl rfl rfl rfl (q_move rfl) rfl ?_
                refine XF.qg hs rfl rfl rfl rfl (q_move rfl) rfl ?_
                refine XF.qg hs rfl rfl rfl rfl (q_bin (v := .bool true) rfl rfl (by rw [hd2, ecc]; simp [arith])) rfl ?_
                refine XF.qg hs rfl rfl rfl rfl (q_pickT rfl rfl) rfl ?_
                refine XF.qg hs rfl rfl rfl rfl (q_move rfl) rfl ?_
                refine XF.qn hs rfl rfl rfl rfl rfl rfl ?_
                refine XF.qn hs rfl rfl rfl rfl rfl rfl ?_
                refine XF.qn hs rfl rfl rfl rfl rfl rfl ?_
                refine XF.qu hs rfl rfl rfl rfl rfl ?_
                refine XF.ru hs rfl rfl rfl rfl rfl ?_
                refine XF.qu hs rfl rfl rfl rfl rfl ?_
                refine XF.qn hs rfl rfl rfl rfl rfl rfl ?_
                refine XF.qn hs rfl rfl rfl rfl rfl rfl ?_
                refine XF.qu hs rfl rfl rfl rfl rfl ?_
                refine XF.ru hs rfl rfl rfl rfl rfl ?_
                refine XF.qu hs rfl rfl rfl rfl rfl ?_
                refine XF.ru hs rfl rfl rfl rfl rfl ?_
                refine XF.qu hs rfl rfl rfl rfl rfl ?_
                refine XF.qn hs rfl rfl rfl rfl rfl rfl ?_
                refine XF.qg hs rfl rfl rfl rfl (q_pickT rfl rfl) rfl ?_
                refine XF.q hs rfl (q_pickT rfl rfl) rfl ?_
                refine XF.q hs rfl (q_assign rfl) rfl ?_
                refine XF.fin (kp 8 rfl kn) ?_
                refine XC.ret ?_
                exact ⟨_, [], [], res1 rfl rfl, List.nil_sublist _, by simp, rfl, rfl, rfl⟩
              ·
                obtain rfl : pl2 = none := by cases pl2 with | none => rfl | some d => cases hb
                have e128 : t128 = rawT ps := by have h := e3 rfl; rw [h] at ht128; exact (Option.some.inj ht128).symm
                subst e128
                refine XF.qn hs rfl rfl rfl rfl rfl rfl ?_
                refine XF.qn hs rfl rfl rfl rfl rfl rfl ?_
                refine XF.qn hs rfl rfl rfl rfl rfl rfl ?_
                refine XF.qg hs rfl rfl rfl rfl (q_pickF rfl rfl) rfl ?_
                refine XF.qg hs rfl rfl rfl rfl (q_move rfl) rfl ?_
                refine XF.qg hs rfl rfl rfl rfl (q_move rfl) rfl ?_
                refine XF.qg hs rfl rfl rfl rfl (q_not rfl) rfl ?_
                refine XF.qg hs rfl rfl rfl rfl (q_move rfl) rfl ?_
                refine XF.qg hs rfl rfl rfl rfl (q_fieldAddrN 0 (off := 0) rfl (by kernel_rfl) rfl) rfl ?_
                refine XF.rg hs rfl rfl rfl rfl (q_load rfl (by kernel_rfl) (by first | exact At.mem | exact mA (by assumption)) (by rfl)) rfl ?_
                refine XF.qg hs rfl rfl rfl rfl (q_bin (v := .bool true) rfl rfl (by rfl)) rfl ?_
                refine XF.qg hs rfl rfl rfl rfl (q_pickT rfl rfl) rfl ?_
                refine XF.qg hs rfl rfl rfl rfl (q_move rfl) rfl ?_
                refine XF.qg hs rfl rfl rfl rfl (q_fieldAddrN 2 (off := 2) rfl (by kernel_rfl) rfl) rfl ?_
                refine XF.rg hs rfl rfl rfl rfl (q_load rfl (by kernel_rfl) (by first | exact At.mem | exact mA (by assumption)) (by rfl)) rfl ?_
                refine XF.qg hs rfl rfl rfl rfl (q_move rfl) rfl ?_
                refine XF.rg hs rfl rfl rfl rfl (q_toStr2 rfl (by kernel_rfl) (hp.mono SubC.sub)) rfl ?_
                refine XF.qg hs rfl rfl rfl rfl (q_strEqT rfl rfl rfl) rfl ?_
                refine XF.qg hs rfl rfl rfl rfl (q_pickT rfl rfl) rfl ?_
                refine XF.qg hs rfl rfl rfl rfl (q_pickF rfl rfl) rfl ?_
                refine XF.q hs rfl (q_pickT rfl rfl) rfl ?_
                refine XF.q hs rfl (q_assign rfl) rfl ?_
                refine XF.fin (kp 8 rfl kn) ?_
                refine XC.ret ?_
                exact ⟨_, [], [], res1 rfl rfl, List.nil_sublist _, by simp, rfl, rfl, rfl⟩
