/- The walks of package chain: the store of skipped keys. -/
import Derived.Test.YtibemhcnjdgemaaDoorPrm2
import Derived.Test.YtibemhcnjdgemaaDoorClo
set_option linter.unusedVariables false
set_option linter.unusedSimpArgs false
namespace Go.Proofs.YtibemhcnjdgemaaDoor
open Go.Px

set_option maxRecDepth 100000 in
theorem cloneB_spec (v : Value) (w : List Nat) (A : Mem) (h : By A v w) : FnX Tryd.prog 44 [v] [] A fun r M J => M = [] ∧ By J r w := by
  haveI := h.cel
  have hwl := h.len
  refine FnX.enterZ (N := 8) Tryd.func44 rfl rfl rfl fun w_ => ?_
  refine XC.keep (kp 0 rfl kn) ?_
  refine XC.reg ?_
  refine XL.q (q_assign rfl) rfl ?_
  refine XL.fin (kp 0 rfl kn) ?_
  refine XC.seq ?_
  refine XC.reg ?_
  refine XL.q (q_move rfl) rfl ?_
  refine XL.q (q_slEqNil (e := 5) rfl (by kernel_rfl) (by first | assumption | exact Sl.rd (by assumption) (fun _ h => h) | exact By.rd (by assumption))) rfl ?_
  refine XL.fin (kp 0 rfl (kp 4 rfl kn)) ?_
  refine XC.cond rfl (fun hc => ?_) (fun hc => ?_)
  ·
    have h0 := h.rd.isNil hc
    obtain rfl : w = [] := List.eq_nil_of_length_eq_zero h0
    refine XC.reg ?_
    refine XL.q (q_assign rfl) rfl ?_
    refine XL.fin (kp 2 rfl kn) ?_
    refine XC.ret ?_
    refine tr ?_
    exact ⟨_, [], [], res1 rfl rfl, Fit.sub (List.nil_sublist _), rfl, By.nil⟩
  ·
    refine XC.skip ?_
    refine nx (kp 0 rfl kn) ?_
    refine XC.reg ?_
    refine XL.lo rfl (l_buildSlice (e := 5) (sz := 1) (z := []) (by kernel_rfl) e0 bd0 rfl fun b5 => ?_)
    refine XL.q (q_move rfl) rfl ?_
    refine XL.lo rfl (l_append2 (e := 5) (sz := 1) (by_ := 1) rfl rfl (by kernel_rfl) rfl (Sl.fresh (n := 0) (cs := []) (e := 5) rfl (by decide)) (h.rd.mono SubC.sub) nums_one PickC.perm (by unfold maxLen; omega) (by omega) rfl fun v7 B7 hs7 => ?_)
    refine XL.q (q_assign rfl) rfl ?_
    refine XL.fin (kp 2 rfl kn) ?_
    refine XC.ret ?_
    exact ⟨_, [], B7, res1 rfl rfl, Fit.pick PickC.perm (Fit.sub (List.nil_sublist _)), rfl, ⟨rd_eq (hs7.rd fun x hx => by simp [hx]) (by omega) (by simp), h.lt, h.len⟩⟩

set_option maxRecDepth 100000 in
theorem bEqual_spec (va vb : Value) (a b : List Nat) (A : Mem) (ha : By A va a) (hb : By A vb b) : FnV Tryd.prog 55 [va, vb] A (.bool (decide (a = b))) := by
  haveI := ha.cel
  haveI := hb.cel
  refine FnX.enter (N := 10) Tryd.func55 rfl rfl rfl fun w => ?_
  refine XC.keep (kp 0 rfl (kp 1 rfl kn)) ?_
  refine XC.reg ?_
  refine XL.q (q_assign rfl) rfl ?_
  refine XL.fin (kp 0 rfl (kp 1 rfl kn)) ?_
  refine XC.reg ?_
  refine XL.q (q_move rfl) rfl ?_
  refine XL.q (q_toStr2 rfl (by kernel_rfl) (ha.rd.mono SubC.sub)) rfl ?_
  refine XL.q (q_move rfl) rfl ?_
  refine XL.q (q_toStr2 rfl (by kernel_rfl) (hb.rd.mono SubC.sub)) rfl ?_
  refine XL.q (q_sEq rfl rfl rfl rfl ha.lt hb.lt) rfl ?_
  refine XL.q (q_assign rfl) rfl ?_
  refine XL.fin (kp 4 rfl kn) ?_
  refine XC.ret ?_
  exact ⟨_, [], [], res1 rfl rfl, List.nil_sublist _, by simp, rfl, rfl, rfl⟩

set_option maxRecDepth 100000 in
theorem index_Skip (v : Value) (rows : List (List Value)) (f : FuncId) (cs : List Value) (p : Nat → Bool) (A : Mem) (hv : Rd A 3 v rows.length rows.flatten) (hl : ∀ r ∈ rows, r.length = 3) (hn : rows.length ≤ 1099511627776) (hc_ : callable Tryd.prog f = true) (hf : ∀ (j : Nat) (r : List Value), rows[j]? = some r → FnV Tryd.prog f (.agg r.toArray :: cs) A (.bool (p j))) : FnV Tryd.prog 53 [v, .func (.func f) #[] cs.toArray] A (.int .i64 (fidx p rows.length)) := by
  haveI := hv.cel
  refine FnX.enter (N := 19) Tryd.func53 rfl rfl rfl fun w => ?_
  refine XC.keep (kp 0 rfl (kp 1 rfl kn)) ?_
  refine XC.reg ?_
  refine XL.q (q_assign rfl) rfl ?_
  refine XL.fin (kp 0 rfl (kp 1 rfl kn)) ?_
  refine XC.seq ?_
  refine XC.reg ?_
  refine XL.q (q_move rfl) rfl ?_
  refine XL.q (q_lenV2 (sz := 3) rfl (by kernel_rfl) hv) rfl ?_
  refine XL.q (q_move rfl) rfl ?_
  refine XL.fin (kp 0 rfl (kp 1 rfl (kp 7 rfl (kp 8 rfl kn)))) ?_
  refine XC.block ?_
  refine XC.loop (α := Nat) (fun i => [(0, v), (1, .func (.func f) #[] cs.toArray), (7, .int .i64 ((rows.length : Nat) : Int)), (8, .int .i64 (i : Int))]) (fun _ => []) (fun _ => []) (fun i => i ≤ rows.length ∧ ∀ j, j < i → p j = false) (fun i => rows.length - i) 0 ⟨Nat.zero_le _, fun j h => absurd h (Nat.not_lt_zero j)⟩ (kp 0 rfl (kp 1 rfl (kp 7 rfl (kp 8 rfl kn)))) .rfl (fun _ h => h) ?_
  rintro i ⟨hi, hp⟩
  refine XC.reg ?_
  refine XL.q (q_bin rfl rfl rfl) rfl ?_
  refine XL.fin (kp 0 rfl (kp 1 rfl (kp 7 rfl (kp 8 rfl (kp 9 rfl kn))))) ?_
  refine XC.seq ?_
  refine XC.cond rfl (fun hc => ?_) (fun hc => ?_)
  ·
    have hlt : i < rows.length := by simp at hc; omega
    obtain ⟨r, hr⟩ : ∃ r, rows[i]? = some r := ⟨_, List.getElem?_eq_getElem hlt⟩
    refine XC.skip ?_
    refine nx (kp 0 rfl (kp 1 rfl (kp 7 rfl (kp 8 rfl kn)))) ?_
    refine XC.seq ?_
    refine XC.block ?_
    refine XC.reg ?_
    refine XL.q (q_move rfl) rfl ?_
    refine XL.q (q_assign rfl) rfl ?_
    refine XL.fin (kp 0 rfl (kp 1 rfl (kp 5 rfl (kp 7 rfl (kp 8 rfl kn))))) ?_
    refine XC.reg ?_
    refine XL.q (q_move rfl) rfl ?_
    refine XL.q (q_move rfl) rfl ?_
    refine XL.q (q_move rfl) rfl ?_
    refine XL.q (q_atV2 (sz := 3) rfl rfl (by kernel_rfl) rfl hv hlt) rfl ?_
    refine XL.q (q_ldVR rfl (by kernel_rfl) (hv.mono SubC.sub) hl (by decide) hr) rfl ?_
    refine XL.lo rfl (l_callFV rfl (aS rfl a0) hc_ (hf i r hr) rfl ?_)
    refine XL.fin (kp 0 rfl (kp 1 rfl (kp 5 rfl (kp 7 rfl (kp 8 rfl (kp 16 rfl kn)))))) ?_
    refine XC.cond rfl (fun hc => ?_) (fun hc => ?_)
    ·
      refine XC.reg ?_
      refine XL.q (q_move rfl) rfl ?_
      refine XL.q (q_assign rfl) rfl ?_
      refine XL.fin (kp 4 rfl kn) ?_
      refine XC.ret ?_
      refine br ?_
      refine tr ?_
      refine rr ?_
      refine br ?_
      refine tr ?_
      exact ⟨_, [], [], res1 rfl rfl, List.nil_sublist _, by simp, by rw [fidx_some hlt hp hc], rfl, rfl⟩
    ·
      refine XC.skip ?_
      refine nb ?_
      refine nx (kp 0 rfl (kp 1 rfl (kp 7 rfl (kp 8 rfl kn)))) ?_
      refine XC.reg1 ?_
      refine XL.q (q_addI (b := 1) rfl rfl rfl rfl (by omega)) rfl ?_
      refine XL.q (q_move rfl) rfl ?_
      refine XL.nil ?_
      exact rn (i + 1) ⟨hlt, fun j hj => by rcases Nat.lt_succ_iff_lt_or_eq.1 hj with h | h; exact hp j h; rw [h]; exact hc⟩ (by omega) (kp 0 rfl (kp 1 rfl (kp 7 rfl (kp 8 rfl kn)))) .rfl (fun _ h => h)
  ·
    have hge : i = rows.length := by simp at hc; omega
    subst hge
    refine XC.exit ?_
    refine te ?_
    refine re ?_
    refine be rfl ?_
    refine nx kn ?_
    refine XC.reg ?_
    refine XL.q (q_assign rfl) rfl ?_
    refine XL.fin (kp 4 rfl kn) ?_
    refine XC.ret ?_
    exact ⟨_, [], [], res1 rfl rfl, List.nil_sublist _, by simp, by rw [fidx_none hp], rfl, rfl⟩

set_option maxRecDepth 100000 in
theorem delete_Skip (b o cap n i j : Nat) (cs xs : List Value) (e : TypeId) (A : Mem) (hn : n ≤ cap) (hcap : cap ≤ maxLen) (hfit : o + cap * 3 ≤ cs.length) (hl : xs.length = n * 3) (hx : ∀ j u, xs[j]? = some u → cs[o + j]? = some u)
    (h1 : ∀ c ∈ xs, c.oneCell' = true) (hij : i < j) (hjn : j ≤ n) :
    FnX Tryd.prog 47 [.slice (some ⟨b, o, none⟩) n cap, .int .i64 i, .int .i64 j] [(b, blk cs e)] A
      fun v M J => J = [] ∧ Sl 3 v (n - (j - i)) (xs.take (i * 3) ++ xs.drop (j * 3)) M := by
  refine FnX.enter (N := 33) Tryd.func47 rfl rfl rfl fun w => ?_
  refine XC.keep (kp 0 rfl (kp 1 rfl (kp 2 rfl kn))) ?_
  refine XC.reg ?_
  refine XL.q (q_assign rfl) rfl ?_
  refine XL.fin (kp 0 rfl (kp 1 rfl (kp 2 rfl kn))) ?_
  refine XC.reg ?_
  refine XL.q (q_move rfl) rfl ?_
  refine XL.q (q_move rfl) rfl ?_
  refine XL.q (q_move rfl) rfl ?_
  refine XL.q (q_move rfl) rfl ?_
  refine XL.q (q_lenS (e := 53) rfl (by kernel_rfl)) rfl ?_
  refine XL.q (q_slice (e := 53) (sz := 3) rfl (by kernel_rfl) (by kernel_rfl) (o1 i rfl rfl) (o1 j rfl rfl) (o1 n rfl rfl) (by simp) (by simp; omega) (by simp; omega) (by simp; omega)) rfl ?_
  refine XL.fin (kp 0 rfl (kp 1 rfl (kp 2 rfl kn))) ?_
  refine XC.seq ?_
  refine XC.reg ?_
  refine XL.q (q_move rfl) rfl ?_
  refine XL.q (q_move rfl) rfl ?_
  refine XL.q (q_bin rfl rfl rfl) rfl ?_
  refine XL.fin (kp 0 rfl (kp 1 rfl (kp 2 rfl (kp 16 rfl kn)))) ?_
  refine XC.cond rfl (fun hc => ?_) (fun hc => ?_)
  ·
    simp at hc; omega
  ·
    refine XC.skip ?_
    refine nx (kp 0 rfl (kp 1 rfl (kp 2 rfl kn))) ?_
    refine XC.reg ?_
    refine XL.q (q_move rfl) rfl ?_
    refine XL.q (q_lenS (e := 53) rfl (by kernel_rfl)) rfl ?_
    refine XL.q (q_assign rfl) rfl ?_
    refine XL.fin (kp 0 rfl (kp 1 rfl (kp 2 rfl (kp 7 rfl kn)))) ?_
    refine XC.draw ([]) [] [(0, 0), (1, 0), (2, 0), (3, 0), (4, 0), (5, 0), (6, 2), (7, 0)] (by kernel_rfl) (by kernel_rfl) (by simp) fun hs => ?_
    refine XP.q hs rfl (q_move rfl) rfl ?_
    refine XP.q hs rfl (q_move rfl) rfl ?_
    refine XP.q hs rfl (q_slHi (h := i) (e := 53) (sz := 3) rfl rfl (by kernel_rfl) (by kernel_rfl) rfl (by omega)) rfl ?_
    refine XP.q hs rfl (q_move rfl) rfl ?_
    refine XP.q hs rfl (q_move rfl) rfl ?_
    refine XP.q hs rfl (q_slLo (h := j) (e := 53) (sz := 3) rfl rfl (by kernel_rfl) (by kernel_rfl) rfl (by omega) (by omega)) rfl ?_
    refine XP.tl rfl rfl rfl (l_appendR (e := 53) (sz := 3) (by_ := 56) (m := n - j) (cs := cs) rfl rfl (by kernel_rfl) ((Rd.lo ⟨_, cap, rfl, hl, hn, .inr ⟨b, o, cs, e, (0, 0), rfl, m0, hx⟩⟩ j hjn)) (fun c hc => h1 c (List.mem_of_mem_drop hc)) (by omega) hfit rfl UpC.upd rfl ?_)
    refine XP.q hs rfl (q_assign rfl) rfl ?_
    refine XP.fin (kp 0 rfl (kp 7 rfl kn)) ?_
    refine XC.reg ?_
    refine XL.q (q_move rfl) rfl ?_
    refine XL.q (q_move rfl) rfl ?_
    refine XL.q (q_lenS (e := 53) rfl (by kernel_rfl)) rfl ?_
    refine XL.q (q_move rfl) rfl ?_
    refine XL.q (q_slLHb (lo := i + (n - j)) (hi := n) (e := 53) (sz := 3) rfl rfl rfl (by kernel_rfl) (by kernel_rfl) rfl rfl (by omega) (by omega) (by omega)) rfl ?_
    refine XL.lo rfl (l_clear (e := 53) (sz := 3) (by_ := 56) (zs := (Builtin.zeroCells #[.slice none 0 0, .int .u32 0, .slice none 0 0] (n - (i + (n - j)))).toList) rfl (by kernel_rfl) (by kernel_rfl) (zeroCells_one (by simp [Value.oneCell']) (by simp) _) ?h1 rfl UpC.upd ?_)
    case h1 => simp [hl]; omega
    refine XL.fin (kp 0 rfl kn) ?_
    refine XC.reg ?_
    refine XL.q (q_move rfl) rfl ?_
    refine XL.q (q_assign rfl) rfl ?_
    refine XL.fin (kp 6 rfl kn) ?_
    refine XC.ret ?_
    refine ⟨_, _, [], res1 rfl rfl, List.Sublist.refl _, by simp, rfl, ?_⟩
    show Sl 3 _ (n - (j - i)) _ _
    rw [show n - (j - i) = i + (n - j) from by omega]
    have hd : (xs.drop (j * 3)).length = (n - j) * 3 := by simp [hl]; omega
    refine .inr ⟨b, o, cap, _, e, rfl, rfl, by omega, hcap, ?_, ?_, ?_⟩
    · simp [hl, Builtin.zeroCells]; omega
    · simp [hl]; omega
    · intro q u hq
      have hlt : q < (i + (n - j)) * 3 := by have := (List.getElem?_eq_some_iff.1 hq).1; simp [hl] at this; omega
      rw [splice_lt (by simp [hl]; omega) (by omega)]
      by_cases hqi : q < i * 3
      · rw [splice_lt (by omega) (by omega)]
        rw [List.getElem?_append_left (by simp [hl]; omega), List.getElem?_take_of_lt hqi] at hq
        exact hx q u hq
      · rw [splice_mid (by omega) (by omega) (by omega)]
        rw [List.getElem?_append_right (by simp [hl]; omega)] at hq
        rw [← hq]
        congr 1
        simp [hl]; omega

set_option maxRecDepth 100000 in
theorem clone_Skip (v : Value) (n : Nat) (xs : List Value) (A : Mem) (h : Rd A 3 v n xs) (h1 : ∀ c ∈ xs, c.oneCell' = true) (hn : n ≤ 1099511627776) : FnX Tryd.prog 48 [v] [] A fun r M J => Sl 3 r n xs M := by
  haveI := h.cel
  refine FnX.enterZ (N := 8) Tryd.func48 rfl rfl rfl fun w_ => ?_
  refine XC.keep (kp 0 rfl kn) ?_
  refine XC.reg ?_
  refine XL.q (q_assign rfl) rfl ?_
  refine XL.fin (kp 0 rfl kn) ?_
  refine XC.seq ?_
  refine XC.reg ?_
  refine XL.q (q_move rfl) rfl ?_
  refine XL.q (q_slEqNil (e := 53) rfl (by kernel_rfl) (by first | assumption | exact Sl.rd (by assumption) (fun _ h => h) | exact By.rd (by assumption))) rfl ?_
  refine XL.fin (kp 0 rfl (kp 4 rfl kn)) ?_
  refine XC.cond rfl (fun hc => ?_) (fun hc => ?_)
  ·
    have h0 := h.isNil hc
    subst h0
    obtain rfl : xs = [] := List.eq_nil_of_length_eq_zero (by have := h.len; omega)
    refine XC.reg ?_
    refine XL.q (q_assign rfl) rfl ?_
    refine XL.fin (kp 2 rfl kn) ?_
    refine XC.ret ?_
    refine tr ?_
    exact ⟨_, [], [], res1 rfl rfl, Fit.sub (List.nil_sublist _), Sl.nil⟩
  ·
    refine XC.skip ?_
    refine nx (kp 0 rfl kn) ?_
    refine XC.reg ?_
    refine XL.lo rfl (l_buildSlice (e := 53) (sz := 3) (z := []) (by kernel_rfl) e0 bd0 rfl fun b5 => ?_)
    refine XL.q (q_move rfl) rfl ?_
    refine XL.lo rfl (l_append2 (e := 53) (sz := 3) (by_ := 56) rfl rfl (by kernel_rfl) rfl (Sl.fresh (n := 0) (cs := []) (e := 53) rfl (by decide)) (Rd.mono h SubC.sub) h1 PickC.perm (by unfold maxLen; omega) (by omega) rfl fun v7 B7 hs7 => ?_)
    refine XL.q (q_assign rfl) rfl ?_
    refine XL.fin (kp 2 rfl kn) ?_
    refine XC.ret ?_
    exact ⟨_, B7, [], res1 rfl rfl, Fit.none (Fit.last PickC.perm), by simpa using hs7⟩
