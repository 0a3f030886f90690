/- The walk of ChainAhead. -/
import Derived.Test.YtibemhcnjdgemaaDoorChn7
set_option linter.unusedVariables false
set_option linter.unusedSimpArgs false
namespace Go.Proofs.YtibemhcnjdgemaaDoor
open Go.Px
theorem putS_new {l : List Skp} {x : Skp} (h : ∀ y ∈ l, y.n ≠ x.n) (hl : l.length < 32) : putS l x = l ++ [x] := by
  have h1 : delS l x.of x.n = l := by
    refine delS_no ?_
    rcases fidxL_cases (tst x.of x.n) l with ⟨h1, _⟩ | ⟨i, y, _, h2, h3, _⟩
    · exact h1
    · exfalso
      have := h y (List.mem_of_getElem? h2)
      simp [tst] at h3
      exact this h3.1
  unfold putS
  rw [h1, List.length_append, List.length_singleton, show l.length + 1 - 32 = 0 by omega, List.drop_zero]
section
variable (of : List Nat) (s : Ps) (key : List Nat) (N : Nat)
def yk (i : Nat) : Ast := rep (aSt of) i (s, key, N, [])
def skOf (j : Nat) : Skp := ⟨of, N + j, stepK (yk of s key N j).1 (yk of s key N j).2.1⟩
theorem yk_n (i : Nat) : (yk of s key N i).2.2.1 = N + i := rep_n _ _ _
theorem yk_sks {i : Nat} (hi : i ≤ 16) : (yk of s key N i).2.2.2 = (List.range i).map (skOf of s key N) := by
  induction i with
  | zero => rfl
  | succ i ih =>
    show putS (yk of s key N i).2.2.2 ⟨of, (yk of s key N i).2.2.1, _⟩ = _
    rw [yk_n, ih (by omega), putS_new (fun y hy => ?_) (by simp; omega), List.range_succ, List.map_append]
    · rfl
    · obtain ⟨j, hj, rfl⟩ := List.mem_map.1 hy
      have := List.mem_range.1 hj
      show N + j ≠ N + i
      omega
theorem yk_get {i j : Nat} (hi : i ≤ 16) (hj : j < i) : getS (yk of s key N i).2.2.2 of (N + j) = some (stepK (yk of s key N j).1 (yk of s key N j).2.1) := by
  rw [yk_sks of s key N hi]
  have hat : ∀ k, k < i → ((List.range i).map (skOf of s key N))[k]? = some (skOf of s key N k) := fun k hk => by simp [hk]
  rcases fidxL_cases (tst of (N + j)) ((List.range i).map (skOf of s key N)) with ⟨_, h2⟩ | ⟨k, y, h1, h2, h3, _⟩
  · have := h2 _ (List.mem_of_getElem? (hat j hj))
    simp [tst, skOf] at this
  · have hk : k < i := by have := (List.getElem?_eq_some_iff.1 h2).1; simpa using this
    rw [hat k hk] at h2
    cases h2
    have e : k = j := by simp [tst, skOf] at h3; omega
    subst e
    exact getS_yes h1 (hat k hk)
structure YkOk (i : Nat) : Prop where
  kok : Kok (yk of s key N i).1 (yk of s key N i).2.1
  tok : Tok (yk of s key N i).1.ts
  len : (yk of s key N i).1.ts.length ≤ s.ts.length + 3 * i
theorem yk_ok (hk : Kok s key) (ht : Tok s.ts) (hl : s.ts.length ≤ 1000) (i : Nat) (hi : i ≤ 100) : YkOk of s key N i := by
  induction i with
  | zero => exact ⟨hk, ht, Nat.le_refl _⟩
  | succ i ih =>
    have ih := ih (by omega)
    have h1 := ih.len
    exact ⟨step_kok ih.kok ih.tok (show (yk of s key N i).1.ts.length ≤ 1048576 by omega), step_tok ih.kok ih.tok (show (yk of s key N i).1.ts.length ≤ 1048576 by omega), rep_ts _ _ _⟩
theorem yk_ext (hk : Kok s key) (ht : Tok s.ts) (hl : s.ts.length ≤ 1000) (i d : Nat) (hi : i + d ≤ 100) : Pext (yk of s key N i).1 (yk of s key N (i + d)).1 := by
  induction d with
  | zero => exact Pext.refl _
  | succ d ih =>
    have h1 := yk_ok of s key N hk ht hl (i + d) (by omega)
    have h2 := h1.len
    exact (ih (by omega)).trans (step_ext h1.kok (by omega))
end

set_option maxRecDepth 100000 in
theorem chainAhead_spec (m fr to : Nat) (near : Bool) (A : Mem) (hm : m < 256) (hfr : fr < 256) (hto : to < 4294967296) (hG : Glb A) : FnV Tryd.prog 4 [.int .u8 ((m : Nat) : Int), .int .u8 ((fr : Nat) : Int), .int .u32 ((to : Nat) : Int), .bool near] A (.bool true) := by
  refine FnX.enter (N := 147) Tryd.func4 rfl rfl rfl fun w => ?_
  refine XC.keep (kp 0 rfl (kp 1 rfl (kp 2 rfl (kp 3 rfl kn)))) ?_
  refine XC.reg ?_
  refine XL.q (q_assign rfl) rfl ?_
  refine XL.fin (kp 0 rfl (kp 1 rfl (kp 2 rfl (kp 3 rfl kn)))) ?_
  refine XC.seq ?_
  refine XC.reg ?_
  refine XL.call a0 (by kernel_rfl) (cawake_spec _ hG.up) rfl ?_
  rintro v21 M21 J21 ⟨rfl, rfl⟩
  refine XL.q (q_not rfl) rfl ?_
  refine XL.fin (kp 0 rfl (kp 1 rfl (kp 2 rfl (kp 3 rfl (kp 22 rfl kn))))) ?_
  refine XC.condF rfl ?_
  refine XC.skip ?_
  refine nx (kp 0 rfl (kp 1 rfl (kp 2 rfl (kp 3 rfl kn)))) ?_
  refine XC.reg ?_
  refine XL.q (q_move rfl) rfl ?_
  refine XL.call (aS rfl a0) (by kernel_rfl) (open_spec m _ hm hG.up) rfl ?_
  rintro v25 MP0 J25 ⟨pb, kv0, rfl, hP0, hk0⟩
  haveI := hk0.cel
  generalize hrr : (m % 2 == 0) = r at *
  refine XL.q (q_move rfl) rfl ?_
  refine XL.q (q_x0 rfl) rfl ?_
  refine XL.q (q_x1 rfl) rfl ?_
  refine XL.lo rfl (l_alloc (cs := [.slice none 0 0, .int .u32 0]) (by kernel_rfl) rfl fun b10 => ?_)
  refine XL.q (q_assign rfl) rfl ?_
  refine XL.lo rfl (l_storeW rfl rfl Cel.cel (by kernel_rfl) (by rfl) (by intro c hc; simp only [List.mem_cons, List.not_mem_nil, or_false] at hc; rcases hc with rfl | rfl; exact hk0.one; rfl) UpC.upd ?_)
  refine XL.fin (kp 1 rfl (kp 2 rfl (kp 3 rfl (kp 9 rfl (kp 10 rfl kn))))) ?_
  refine XC.seq ?_
  refine XC.reg ?_
  refine XL.q (q_assign rfl) rfl ?_
  refine XL.fin (kp 1 rfl (kp 2 rfl (kp 3 rfl (kp 9 rfl (kp 10 rfl (kp 11 rfl kn)))))) ?_
  refine XC.block ?_
  refine XC.loop (α := Nat × Mem × Value × Mem) (fun x => [(1, .int .u8 ((fr : Nat) : Int)), (2, .int .u32 ((to : Nat) : Int)), (3, .bool near), (9, .pointer (some ⟨pb, 0, none⟩)), (10, .pointer (some ⟨b10, 0, none⟩)), (11, .int .i64 ((x.1 : Nat) : Int))]) (fun x => x.2.1 ++ [(b10, blk [x.2.2.1, .int .u32 ((x.1 : Nat) : Int)] 27)]) (fun x => x.2.2.2) (fun x => x.1 ≤ fr % 6 ∧ Prm pb (yk [] (freshS (opn r)) (freshK (opn r)) 0 x.1).1 x.2.1 ∧ By x.2.2.2 x.2.2.1 (yk [] (freshS (opn r)) (freshK (opn r)) 0 x.1).2.1) (fun x => fr % 6 - x.1) ⟨0, MP0, kv0, J25 ++ (J21 ++ [])⟩ ⟨Nat.zero_le _, hP0, hk0.mono SubC.sub⟩ (kp 1 rfl (kp 2 rfl (kp 3 rfl (kp 9 rfl (kp 10 rfl (kp 11 rfl kn)))))) (Fit.pick PickC.perm (Fit.last PickC.perm)) (fun _ h => h) ?_
  rintro ⟨N, MPi, kvi, Ji⟩ ⟨hi, hPi, hki⟩
  dsimp only at hi hPi hki ⊢
  haveI := hki.cel
  have hf6 : fr % 6 < 6 := Nat.mod_lt _ (by decide)
  have hol := opn_len r
  have hso := yk_ok [] (freshS (opn r)) (freshK (opn r)) 0 (opn_kok r) (opn_tok2 r) (by omega) N (by omega)
  have hsl := hso.len
  refine XC.seq ?_
  refine XC.reg ?_
  refine XL.q (q_move rfl) rfl ?_
  refine XL.q (q_move rfl) rfl ?_
  refine XL.q (q_same (k' := .i64) rfl (by kernel_rfl) (by show _ < 9223372036854775808; omega)) rfl ?_
  refine XL.q (q_remI (b := 6) rfl rfl rfl rfl (by omega)) rfl ?_
  refine XL.q (q_bin rfl rfl rfl) rfl ?_
  refine XL.fin (kp 1 rfl (kp 2 rfl (kp 3 rfl (kp 9 rfl (kp 10 rfl (kp 11 rfl (kp 32 rfl kn))))))) ?_
  refine XC.cond rfl (fun hc => ?_) (fun hc => ?_)
  ·
    have hlt : N < fr % 6 := by simp at hc; omega
    refine XC.skip ?_
    refine nx (kp 1 rfl (kp 2 rfl (kp 3 rfl (kp 9 rfl (kp 10 rfl (kp 11 rfl kn)))))) ?_
    refine XC.seq ?_
    refine XC.block ?_
    refine XC.reg1 ?_
    refine XL.q (q_move rfl) rfl ?_
    refine XL.q (q_loadW (n := 2) rfl (by kernel_rfl) (by first | exact At.mem | exact mA (by assumption)) (by rfl)) rfl ?_
    refine XL.lo rfl (l_call (Mc := MPi) (R := _) (aS rfl (aS rfl a0)) (by kernel_rfl) PickC.perm (step_spec pb _ kvi _ N MPi _ hPi (hki.mono SubC.sub) (by omega) hG.up) rfl ?_)
    rintro v38 M38 J38 ⟨w1, w2, rfl, hP38, hw1, hw2⟩
    haveI := hw1.cel
    haveI := hw2.cel
    rw [Nat.mod_eq_of_lt (show N + 1 < 4294967296 by omega)]
    refine XL.q (q_move rfl) rfl ?_
    refine XL.q (q_x0 rfl) rfl ?_
    refine XL.q (q_x1 rfl) rfl ?_
    refine XL.lo rfl (l_storeW rfl rfl Cel.cel (by kernel_rfl) (by rfl) (by intro c hc; simp only [List.mem_cons, List.not_mem_nil, or_false] at hc; rcases hc with rfl | rfl; exact hw2.one; rfl) UpC.upd ?_)
    refine XL.nil ?_
    refine nb ?_
    refine nx (kp 1 rfl (kp 2 rfl (kp 3 rfl (kp 9 rfl (kp 10 rfl (kp 11 rfl kn)))))) ?_
    refine XC.reg1 ?_
    refine XL.q (q_move rfl) rfl ?_
    refine XL.q (q_addI (b := 1) rfl rfl rfl rfl (by omega)) rfl ?_
    refine XL.q (q_assign rfl) rfl ?_
    refine XL.nil ?_
    exact rn ⟨N + 1, M38, w2, J38 ++ Ji⟩ ⟨hlt, hP38, hw2.mono SubC.sub⟩ (by dsimp only; omega) (kp 1 rfl (kp 2 rfl (kp 3 rfl (kp 9 rfl (kp 10 rfl (kp 11 rfl kn)))))) (Fit.pick PickC.perm (Fit.last PickC.perm)) (fun _ h => h)
  ·
    have hge : N = fr % 6 := by simp at hc; omega
    have hKok := hso.kok
    have hTok := hso.tok
    clear hso
    generalize (yk [] (freshS (opn r)) (freshK (opn r)) 0 N).2.1 = key at *
    generalize (yk [] (freshS (opn r)) (freshK (opn r)) 0 N).1 = s at *
    refine XC.exit ?_
    refine te ?_
    refine re ?_
    refine be rfl ?_
    refine nx (kp 2 rfl (kp 3 rfl (kp 9 rfl (kp 10 rfl kn)))) ?_
    refine XC.join (α := Nat) (fun t => [(2, .int .u32 ((t : Nat) : Int)), (9, .pointer (some ⟨pb, 0, none⟩)), (10, .pointer (some ⟨b10, 0, none⟩))]) (fun _ => MPi ++ [(b10, blk [kvi, .int .u32 ((N : Nat) : Int)] 27)]) (fun _ => Ji) (fun t => t < 4294967296) ?_ ?_
    ·
      refine XC.reg ?_
      refine XL.q (q_move rfl) rfl ?_
      refine XL.fin (kp 2 rfl (kp 9 rfl (kp 10 rfl (kp 41 rfl kn)))) ?_
      refine XC.cond rfl (fun hc => ?_) (fun hc => ?_)
      ·
        refine XC.reg1 ?_
        refine XL.q (q_move rfl) rfl ?_
        refine XL.q (q_remI (b := 30) rfl rfl rfl rfl (by omega)) rfl ?_
        refine XL.q (q_assign rfl) rfl ?_
        refine XL.nil ?_
        exact jn (to % 30) (by omega) (kp 2 rfl (kp 9 rfl (kp 10 rfl kn))) .rfl (fun _ h => h)
      ·
        refine XC.skip ?_
        exact jn to hto (kp 2 rfl (kp 9 rfl (kp 10 rfl kn))) .rfl (fun _ h => h)
    ·
      rintro t ht32
      refine XC.reg ?_
      refine XL.q (q_build (place := fun x => #[(0, 1)][x]?) (z := [.slice none 0 0]) (fun _ => by kernel_rfl) e0 bd0) rfl ?_
      refine XL.lo rfl (l_box rfl (by first | exact Cel.cel | rfl) rfl fun b45 => ?_)
      refine XL.q (q_assign rfl) rfl ?_
      refine XL.fin (kp 2 rfl (kp 9 rfl (kp 10 rfl (kp 12 rfl kn)))) ?_
      have h3 : t < N ∨ N ≤ t ∧ (16 < t - N ∨ t - N ≤ 16) := by omega
      rcases h3 with h1 | ⟨h1, h2 | h2⟩
      ·
        refine XC.reg ?_
        refine XL.q (q_move rfl) rfl ?_
        refine XL.q (q_loadW (n := 2) rfl (by kernel_rfl) (by first | exact At.mem | exact mA (by assumption)) (by rfl)) rfl ?_
        refine XL.lo rfl (l_buildSlice (e := 5) (sz := 1) (z := [.int .u8 0, .int .u8 0]) (by kernel_rfl) (eS rfl (eS rfl e0)) (bdS 0 1 rfl (by rfl) (bdS 1 1 rfl (by rfl) bd0)) rfl fun b49 => ?_)
        refine XL.lo rfl (l_mark rfl (by kernel_rfl) UpC.upd rfl ?_)
        refine XL.frz (B := [_]) (PickC.sing).perm ?_
        refine XL.q (q_move rfl) rfl ?_
        refine XL.q (q_move rfl) rfl ?_
        refine XL.callV (aS rfl (aS rfl (aS rfl (aS rfl (aS rfl a0))))) (by kernel_rfl) (ahead_used _ _ kvi _ key [111, 102] N t _ (hki.mono SubC.sub) ⟨Rd.whole (n := 2) At.mem (by rfl), by decide, by decide⟩ h1) rfl ?_
        refine XL.q (q_move rfl) rfl ?_
        refine XL.q (q_x0 rfl) rfl ?_
        refine XL.q (q_x1 rfl) rfl ?_
        refine XL.lo rfl (l_alloc (cs := [.slice none 0 0, .int .u32 0]) (by kernel_rfl) rfl fun b13 => ?_)
        refine XL.lo rfl (l_storeW rfl rfl Cel.cel (by kernel_rfl) (by rfl) (by intro c hc; simp only [List.mem_cons, List.not_mem_nil, or_false] at hc; rcases hc with rfl | rfl; exact hki.one; rfl) UpC.upd ?_)
        refine XL.q (q_assign rfl) rfl ?_
        refine XL.fin (kp 2 rfl (kp 9 rfl (kp 10 rfl (kp 12 rfl (kp 13 rfl (kp 14 rfl kn)))))) ?_
        refine XC.reg ?_
        refine XL.q (q_assign rfl) rfl ?_
        refine XL.fin (kp 2 rfl (kp 9 rfl (kp 10 rfl (kp 12 rfl (kp 13 rfl (kp 14 rfl (kp 15 rfl kn))))))) ?_
        refine XC.seq ?_
        refine XC.reg ?_
        refine XL.q (q_move rfl) rfl ?_
        refine XL.q (q_fieldAddrN 1 (off := 1) rfl (by kernel_rfl) rfl) rfl ?_
        refine XL.q (q_load rfl (by kernel_rfl) (by first | exact At.mem | exact mA (by assumption)) (by rfl)) rfl ?_
        refine XL.q (q_cmp true rfl rfl (ltT (by omega))) rfl ?_
        refine XL.fin (kp 2 rfl (kp 9 rfl (kp 10 rfl (kp 12 rfl (kp 13 rfl (kp 14 rfl (kp 15 rfl (kp 59 rfl kn)))))))) ?_
        refine XC.condT rfl ?_
        refine XC.reg1 ?_
        refine XL.q (q_assign rfl) rfl ?_
        refine XL.fin (kp 2 rfl (kp 9 rfl (kp 10 rfl (kp 12 rfl (kp 13 rfl (kp 14 rfl (kp 15 rfl kn))))))) ?_
        refine XC.seq ?_
        refine XC.reg ?_
        refine XL.q (q_move rfl) rfl ?_
        refine XL.q (q_move rfl) rfl ?_
        refine XL.q (q_cmp false rfl rfl (neF rfl)) rfl ?_
        refine XL.fin (kp 2 rfl (kp 9 rfl (kp 10 rfl (kp 12 rfl (kp 13 rfl (kp 14 rfl (kp 67 rfl kn))))))) ?_
        refine XC.condF rfl ?_
        refine XC.skip ?_
        refine nx (kp 2 rfl (kp 9 rfl (kp 10 rfl (kp 12 rfl (kp 13 rfl (kp 14 rfl kn)))))) ?_
        refine XC.seq ?_
        refine XC.reg ?_
        refine XL.q (q_move rfl) rfl ?_
        refine XL.q (q_cmp true rfl rfl (neT (by decide))) rfl ?_
        refine XL.fin (kp 2 rfl (kp 9 rfl (kp 10 rfl (kp 12 rfl (kp 13 rfl (kp 69 rfl kn)))))) ?_
        refine XC.condT rfl ?_
        refine XC.reg ?_
        refine XL.q (q_move rfl) rfl ?_
        refine XL.callV (aS rfl a0) (by kernel_rfl) (slen_spec b45 0 (.slice none 0 0) [] _ At.mem Rd.nil) rfl ?_
        refine XL.q (q_cmp true rfl rfl (eqT rfl)) rfl ?_
        refine XL.q (q_move rfl) rfl ?_
        refine XL.gy rfl rfl (OpQ.opL (q_fieldAddrN 1 (off := 1) rfl (by kernel_rfl) rfl) rfl ?_)
        refine XL.gy rfl rfl (OpQ.opL (q_load rfl (by kernel_rfl) (by first | exact At.mem | exact mA (by assumption)) (by rfl)) rfl ?_)
        refine XL.gy rfl rfl (OpQ.opL (q_fieldAddrN 1 (off := 1) rfl (by kernel_rfl) rfl) rfl ?_)
        refine XL.gy rfl rfl (OpQ.opL (q_load rfl (by kernel_rfl) (by first | exact At.mem | exact mA (by assumption)) (by rfl)) rfl ?_)
        refine XL.gy rfl rfl (OpQ.opL (q_cmp true rfl rfl (eqT rfl)) rfl ?_)
        refine XL.q (q_pickT rfl rfl) rfl ?_
        refine XL.q (q_move rfl) rfl ?_
        refine XL.gy rfl rfl (OpQ.opL (q_fieldAddrN 0 (off := 0) rfl (by kernel_rfl) rfl) rfl ?_)
        refine XL.gy rfl rfl (OpQ.opL (q_load (v := kvi) rfl (by kernel_rfl) At.mem (by rfl)) rfl ?_)
        refine XL.gy rfl rfl (OpQ.opL (q_toStr2 rfl (by kernel_rfl) (hki.rd.mono SubC.sub)) rfl ?_)
        refine XL.gy rfl rfl (OpQ.opL (q_fieldAddrN 0 (off := 0) rfl (by kernel_rfl) rfl) rfl ?_)
        refine XL.gy rfl rfl (OpQ.opL (q_load (v := kvi) rfl (by kernel_rfl) At.mem (by rfl)) rfl ?_)
        refine XL.gy rfl rfl (OpQ.opL (q_toStr2 rfl (by kernel_rfl) (hki.rd.mono SubC.sub)) rfl ?_)
        refine XL.gy rfl rfl (OpQ.opL ((show (decide (key = key)) = true by simp) ▸ q_sEq rfl rfl rfl rfl hki.lt hki.lt) rfl ?_)
        refine XL.q (q_pickT rfl rfl) rfl ?_
        refine XL.q (q_assign rfl) rfl ?_
        refine XL.fin (kp 8 rfl kn) ?_
        refine XC.ret ?_
        refine tr ?_
        exact ⟨_, [], [], res1 rfl rfl, List.nil_sublist _, by simp, rfl, rfl, rfl⟩
      ·
        refine XC.reg ?_
        refine XL.q (q_move rfl) rfl ?_
        refine XL.q (q_loadW (n := 2) rfl (by kernel_rfl) (by first | exact At.mem | exact mA (by assumption)) (by rfl)) rfl ?_
        refine XL.lo rfl (l_buildSlice (e := 5) (sz := 1) (z := [.int .u8 0, .int .u8 0]) (by kernel_rfl) (eS rfl (eS rfl e0)) (bdS 0 1 rfl (by rfl) (bdS 1 1 rfl (by rfl) bd0)) rfl fun b49 => ?_)
        refine XL.lo rfl (l_mark rfl (by kernel_rfl) UpC.upd rfl ?_)
        refine XL.frz (B := [_]) (PickC.sing).perm ?_
        refine XL.q (q_move rfl) rfl ?_
        refine XL.q (q_move rfl) rfl ?_
        refine XL.callV (aS rfl (aS rfl (aS rfl (aS rfl (aS rfl a0))))) (by kernel_rfl) (ahead_skip _ _ kvi _ key [111, 102] N t _ (hki.mono SubC.sub) ⟨Rd.whole (n := 2) At.mem (by rfl), by decide, by decide⟩ h1 ht32 h2) rfl ?_
        refine XL.q (q_move rfl) rfl ?_
        refine XL.q (q_x0 rfl) rfl ?_
        refine XL.q (q_x1 rfl) rfl ?_
        refine XL.lo rfl (l_alloc (cs := [.slice none 0 0, .int .u32 0]) (by kernel_rfl) rfl fun b13 => ?_)
        refine XL.lo rfl (l_storeW rfl rfl Cel.cel (by kernel_rfl) (by rfl) (by intro c hc; simp only [List.mem_cons, List.not_mem_nil, or_false] at hc; rcases hc with rfl | rfl; exact hki.one; rfl) UpC.upd ?_)
        refine XL.q (q_assign rfl) rfl ?_
        refine XL.fin (kp 2 rfl (kp 9 rfl (kp 10 rfl (kp 12 rfl (kp 13 rfl (kp 14 rfl kn)))))) ?_
        refine XC.reg ?_
        refine XL.q (q_assign rfl) rfl ?_
        refine XL.fin (kp 2 rfl (kp 9 rfl (kp 10 rfl (kp 12 rfl (kp 13 rfl (kp 14 rfl (kp 15 rfl kn))))))) ?_
        refine XC.seq ?_
        refine XC.reg ?_
        refine XL.q (q_move rfl) rfl ?_
        refine XL.q (q_fieldAddrN 1 (off := 1) rfl (by kernel_rfl) rfl) rfl ?_
        refine XL.q (q_load rfl (by kernel_rfl) (by first | exact At.mem | exact mA (by assumption)) (by rfl)) rfl ?_
        refine XL.q (q_cmp false rfl rfl (ltF (by omega))) rfl ?_
        refine XL.fin (kp 2 rfl (kp 9 rfl (kp 10 rfl (kp 12 rfl (kp 13 rfl (kp 14 rfl (kp 15 rfl (kp 59 rfl kn)))))))) ?_
        refine XC.condF rfl ?_
        refine XC.reg ?_
        refine XL.q (q_move rfl) rfl ?_
        refine XL.q (q_fieldAddrN 1 (off := 1) rfl (by kernel_rfl) rfl) rfl ?_
        refine XL.q (q_load rfl (by kernel_rfl) (by first | exact At.mem | exact mA (by assumption)) (by rfl)) rfl ?_
        refine XL.q (q_num (((t - N : Nat)) : Int) rfl rfl (by simp only [arith]; rw [wrap_u32 (by omega) (by omega)]; congr 2; omega)) rfl ?_
        refine XL.q (q_cmp true rfl rfl (gtT (by omega))) rfl ?_
        refine XL.fin (kp 2 rfl (kp 9 rfl (kp 10 rfl (kp 12 rfl (kp 13 rfl (kp 14 rfl (kp 15 rfl (kp 64 rfl kn)))))))) ?_
        refine XC.condT rfl ?_
        refine XC.reg1 ?_
        refine XL.q (q_assign rfl) rfl ?_
        refine XL.fin (kp 2 rfl (kp 9 rfl (kp 10 rfl (kp 12 rfl (kp 13 rfl (kp 14 rfl (kp 15 rfl kn))))))) ?_
        refine XC.seq ?_
        refine XC.reg ?_
        refine XL.q (q_move rfl) rfl ?_
        refine XL.q (q_move rfl) rfl ?_
        refine XL.q (q_cmp false rfl rfl (neF rfl)) rfl ?_
        refine XL.fin (kp 2 rfl (kp 9 rfl (kp 10 rfl (kp 12 rfl (kp 13 rfl (kp 14 rfl (kp 67 rfl kn))))))) ?_
        refine XC.condF rfl ?_
        refine XC.skip ?_
        refine nx (kp 2 rfl (kp 9 rfl (kp 10 rfl (kp 12 rfl (kp 13 rfl (kp 14 rfl kn)))))) ?_
        refine XC.seq ?_
        refine XC.reg ?_
        refine XL.q (q_move rfl) rfl ?_
        refine XL.q (q_cmp true rfl rfl (neT (by decide))) rfl ?_
        refine XL.fin (kp 2 rfl (kp 9 rfl (kp 10 rfl (kp 12 rfl (kp 13 rfl (kp 69 rfl kn)))))) ?_
        refine XC.condT rfl ?_
        refine XC.reg ?_
        refine XL.q (q_move rfl) rfl ?_
        refine XL.callV (aS rfl a0) (by kernel_rfl) (slen_spec b45 0 (.slice none 0 0) [] _ At.mem Rd.nil) rfl ?_
        refine XL.q (q_cmp true rfl rfl (eqT rfl)) rfl ?_
        refine XL.q (q_move rfl) rfl ?_
        refine XL.gy rfl rfl (OpQ.opL (q_fieldAddrN 1 (off := 1) rfl (by kernel_rfl) rfl) rfl ?_)
        refine XL.gy rfl rfl (OpQ.opL (q_load rfl (by kernel_rfl) (by first | exact At.mem | exact mA (by assumption)) (by rfl)) rfl ?_)
        refine XL.gy rfl rfl (OpQ.opL (q_fieldAddrN 1 (off := 1) rfl (by kernel_rfl) rfl) rfl ?_)
        refine XL.gy rfl rfl (OpQ.opL (q_load rfl (by kernel_rfl) (by first | exact At.mem | exact mA (by assumption)) (by rfl)) rfl ?_)
        refine XL.gy rfl rfl (OpQ.opL (q_cmp true rfl rfl (eqT rfl)) rfl ?_)
        refine XL.q (q_pickT rfl rfl) rfl ?_
        refine XL.q (q_move rfl) rfl ?_
        refine XL.gy rfl rfl (OpQ.opL (q_fieldAddrN 0 (off := 0) rfl (by kernel_rfl) rfl) rfl ?_)
        refine XL.gy rfl rfl (OpQ.opL (q_load (v := kvi) rfl (by kernel_rfl) At.mem (by rfl)) rfl ?_)
        refine XL.gy rfl rfl (OpQ.opL (q_toStr2 rfl (by kernel_rfl) (hki.rd.mono SubC.sub)) rfl ?_)
        refine XL.gy rfl rfl (OpQ.opL (q_fieldAddrN 0 (off := 0) rfl (by kernel_rfl) rfl) rfl ?_)
        refine XL.gy rfl rfl (OpQ.opL (q_load (v := kvi) rfl (by kernel_rfl) At.mem (by rfl)) rfl ?_)
        refine XL.gy rfl rfl (OpQ.opL (q_toStr2 rfl (by kernel_rfl) (hki.rd.mono SubC.sub)) rfl ?_)
        refine XL.gy rfl rfl (OpQ.opL ((show (decide (key = key)) = true by simp) ▸ q_sEq rfl rfl rfl rfl hki.lt hki.lt) rfl ?_)
        refine XL.q (q_pickT rfl rfl) rfl ?_
        refine XL.q (q_assign rfl) rfl ?_
        refine XL.fin (kp 8 rfl kn) ?_
        refine XC.ret ?_
        refine tr ?_
        exact ⟨_, [], [], res1 rfl rfl, List.nil_sublist _, by simp, rfl, rfl, rfl⟩
      ·
        refine XC.reg ?_
        refine XL.q (q_move rfl) rfl ?_
        refine XL.q (q_loadW (n := 2) rfl (by kernel_rfl) (by first | exact At.mem | exact mA (by assumption)) (by rfl)) rfl ?_
        refine XL.lo rfl (l_buildSlice (e := 5) (sz := 1) (z := [.int .u8 0, .int .u8 0]) (by kernel_rfl) (eS rfl (eS rfl e0)) (bdS 0 1 rfl (by rfl) (bdS 1 1 rfl (by rfl) bd0)) rfl fun b49 => ?_)
        refine XL.lo rfl (l_mark rfl (by kernel_rfl) UpC.upd rfl ?_)
        refine XL.frz (B := [_]) (PickC.sing).perm ?_
        refine XL.q (q_move rfl) rfl ?_
        refine XL.q (q_move rfl) rfl ?_
        refine XL.lo rfl (l_call (Mc := MPi ++ [(b45, blk [.slice none 0 0] 38)]) (R := _) (aS rfl (aS rfl (aS rfl (aS rfl (aS rfl a0))))) (by kernel_rfl) PickC.perm (ahead_spec pb b45 s kvi _ key [111, 102] N t [] _ MPi _ _ hPi ⟨_, [], [], rfl, Sl.nil, RwL.nil⟩ upR (hki.mono SubC.sub) ⟨Rd.whole (n := 2) At.mem (by rfl), by decide, by decide⟩ (by decide) h1 h2 ht32 (by omega) hG.up) rfl ?_)
        rintro v53 M53 J53 ⟨MP1, MS1, kvd, rfl, rfl, hP1, hS1, hkd⟩
        haveI := hkd.cel
        change Prm pb (yk [111, 102] s key N (t - N)).1 MP1 at hP1
        obtain ⟨vS, rowsS, BS, rfl, hslS, hrwS⟩ := hS1.ex
        change Sl 3 vS (yk [111, 102] s key N (t - N)).2.2.2.length rowsS.flatten BS at hslS
        change RwL skR _ rowsS (yk [111, 102] s key N (t - N)).2.2.2 at hrwS
        change By _ kvd (yk [111, 102] s key N (t - N)).2.1 at hkd
        rw [show (rep (aSt [111, 102]) (t - N) (s, key, N, [])).2.2.1 = t by rw [rep_n]; dsimp only; omega]
        have hskl : (yk [111, 102] s key N (t - N)).2.2.2.length = t - N := by rw [yk_sks _ _ _ _ h2]; simp
        haveI := hslS.cel
        refine XL.q (q_move rfl) rfl ?_
        refine XL.q (q_x0 rfl) rfl ?_
        refine XL.q (q_x1 rfl) rfl ?_
        refine XL.lo rfl (l_alloc (cs := [.slice none 0 0, .int .u32 0]) (by kernel_rfl) rfl fun b13 => ?_)
        refine XL.lo rfl (l_storeW rfl rfl Cel.cel (by kernel_rfl) (by rfl) (by intro c hc; simp only [List.mem_cons, List.not_mem_nil, or_false] at hc; rcases hc with rfl | rfl; exact hkd.one; rfl) UpC.upd ?_)
        refine XL.q (q_assign rfl) rfl ?_
        refine XL.fin (kp 2 rfl (kp 9 rfl (kp 10 rfl (kp 12 rfl (kp 13 rfl (kp 14 rfl kn)))))) ?_
        refine XC.reg ?_
        refine XL.q (q_assign rfl) rfl ?_
        refine XL.fin (kp 2 rfl (kp 9 rfl (kp 10 rfl (kp 12 rfl (kp 13 rfl (kp 14 rfl (kp 15 rfl kn))))))) ?_
        refine XC.seq ?_
        refine XC.reg ?_
        refine XL.q (q_move rfl) rfl ?_
        refine XL.q (q_fieldAddrN 1 (off := 1) rfl (by kernel_rfl) rfl) rfl ?_
        refine XL.q (q_load rfl (by kernel_rfl) (by first | exact At.mem | exact mA (by assumption)) (by rfl)) rfl ?_
        refine XL.q (q_cmp false rfl rfl (ltF (by omega))) rfl ?_
        refine XL.fin (kp 2 rfl (kp 9 rfl (kp 10 rfl (kp 12 rfl (kp 13 rfl (kp 14 rfl (kp 15 rfl (kp 59 rfl kn)))))))) ?_
        refine XC.condF rfl ?_
        refine XC.reg ?_
        refine XL.q (q_move rfl) rfl ?_
        refine XL.q (q_fieldAddrN 1 (off := 1) rfl (by kernel_rfl) rfl) rfl ?_
        refine XL.q (q_load rfl (by kernel_rfl) (by first | exact At.mem | exact mA (by assumption)) (by rfl)) rfl ?_
        refine XL.q (q_num (((t - N : Nat)) : Int) rfl rfl (by simp only [arith]; rw [wrap_u32 (by omega) (by omega)]; congr 2; omega)) rfl ?_
        refine XL.q (q_cmp false rfl rfl (gtF (by omega))) rfl ?_
        refine XL.fin (kp 2 rfl (kp 9 rfl (kp 10 rfl (kp 12 rfl (kp 13 rfl (kp 14 rfl (kp 15 rfl (kp 64 rfl kn)))))))) ?_
        refine XC.condF rfl ?_
        refine XC.skip ?_
        refine nx (kp 2 rfl (kp 9 rfl (kp 10 rfl (kp 12 rfl (kp 13 rfl (kp 14 rfl (kp 15 rfl kn))))))) ?_
        refine XC.seq ?_
        refine XC.reg ?_
        refine XL.q (q_move rfl) rfl ?_
        refine XL.q (q_move rfl) rfl ?_
        refine XL.q (q_cmp false rfl rfl (neF rfl)) rfl ?_
        refine XL.fin (kp 2 rfl (kp 9 rfl (kp 10 rfl (kp 12 rfl (kp 13 rfl (kp 14 rfl (kp 67 rfl kn))))))) ?_
        refine XC.condF rfl ?_
        refine XC.skip ?_
        refine nx (kp 2 rfl (kp 9 rfl (kp 10 rfl (kp 12 rfl (kp 13 rfl (kp 14 rfl kn)))))) ?_
        refine XC.seq ?_
        refine XC.reg ?_
        refine XL.q (q_move rfl) rfl ?_
        refine XL.q (q_cmp false rfl rfl (neF rfl)) rfl ?_
        refine XL.fin (kp 2 rfl (kp 9 rfl (kp 10 rfl (kp 12 rfl (kp 13 rfl (kp 69 rfl kn)))))) ?_
        refine XC.condF rfl ?_
        refine XC.skip ?_
        refine nx (kp 2 rfl (kp 9 rfl (kp 10 rfl (kp 12 rfl (kp 13 rfl kn))))) ?_
        refine XC.seq ?_
        refine XC.drawF [0, 1, 2, 3, 4, 5, 6, 7, 8, 9, 10, 11, 12, 13] [(0, 0), (2, 0), (3, 0), (4, 1), (5, 0), (6, 0), (1, 2), (7, 0), (8, 0), (9, 0), (10, 1), (11, 0), (12, 0), (13, 0)] (by kernel_rfl) (by kernel_rfl) fun hs => ?_
        refine XF.q hs rfl (q_move rfl) rfl ?_
        refine XF.q hs rfl (q_move rfl) rfl ?_
        refine XF.q hs rfl (q_fieldAddrN 1 (off := 1) rfl (by kernel_rfl) rfl) rfl ?_
        refine XF.r hs rfl (q_load rfl (by kernel_rfl) (by first | exact At.mem | exact mA (by assumption)) (by rfl)) rfl ?_
        refine XF.q hs rfl (q_num (((t - N : Nat)) : Int) rfl rfl (by simp only [arith]; rw [wrap_u32 (by omega) (by omega)]; congr 2; omega)) rfl ?_
        refine XF.q hs rfl (q_same (k' := .i64) rfl (by kernel_rfl) (by show _ < 9223372036854775808; omega)) rfl ?_
        refine XF.callV rfl (aS rfl a0) (by kernel_rfl) (slen_spec b45 (yk [111, 102] s key N (t - N)).2.2.2.length vS rowsS.flatten _ At.mem (hslS.rd SubC.sub)) rfl ?_
        refine XF.q hs rfl (q_cmp false rfl rfl (neF (by omega))) rfl ?_
        refine XF.q hs rfl (q_move rfl) rfl ?_
        refine XF.qg hs rfl rfl rfl rfl (q_fieldAddrN 1 (off := 1) rfl (by kernel_rfl) rfl) rfl ?_
        refine XF.rg hs rfl rfl rfl rfl (q_load rfl (by kernel_rfl) (by first | exact At.mem | exact mA (by assumption)) (by rfl)) rfl ?_
        refine XF.qg hs rfl rfl rfl rfl (q_move rfl) rfl ?_
        refine XF.qg hs rfl rfl rfl rfl (q_cmp false rfl rfl (neF rfl)) rfl ?_
        refine XF.q hs rfl (q_pickF rfl rfl) rfl ?_
        refine XF.fin (kp 2 rfl (kp 9 rfl (kp 10 rfl (kp 12 rfl (kp 13 rfl (kp 102 rfl kn)))))) ?_
        refine XC.condF rfl ?_
        refine XC.skip ?_
        refine nx (kp 2 rfl (kp 9 rfl (kp 10 rfl (kp 12 rfl (kp 13 rfl kn))))) ?_
        refine XC.seq ?_
        refine XC.block ?_
        have hok0 := yk_ok [111, 102] s key N hKok hTok (by omega)
        have hext0 := yk_ext [111, 102] s key N hKok hTok (by omega)
        refine XC.loop (α := Nat × Mem × Value × Mem) (fun x => [(2, .int .u32 ((t : Nat) : Int)), (9, .pointer (some ⟨pb, 0, none⟩)), (10, .pointer (some ⟨b10, 0, none⟩)), (12, .pointer (some ⟨b45, 0, none⟩)), (13, .pointer (some ⟨b13, 0, none⟩))]) (fun x => x.2.1 ++ ((b45, blk [vS] 38) :: (BS ++ [(b10, blk [x.2.2.1, .int .u32 ((N + x.1 : Nat) : Int)] 27), (b13, blk [kvd, .int .u32 ((t : Nat) : Int)] 27)]))) (fun x => x.2.2.2 ++ (J53 ++ ([_] ++ Ji))) (fun x => x.1 ≤ t - N ∧ Prm pb (yk [111, 102] s key N (t - N)).1 x.2.1 ∧ By (x.2.2.2 ++ Ji) x.2.2.1 (yk [111, 102] s key N x.1).2.1) (fun x => t - N - x.1) ⟨0, MP1, kvi, []⟩ ⟨Nat.zero_le _, hP1, hki⟩ (kp 2 rfl (kp 9 rfl (kp 10 rfl (kp 12 rfl (kp 13 rfl kn))))) (Fit.pick (B := MP1) PickC.perm (Fit.pick (B := [_]) PickC.perm (Fit.pick (B := BS) PickC.perm (Fit.pick (B := [_]) PickC.perm (Fit.last PickC.perm))))) (fun _ h => h) ?_
        rintro ⟨j, MPj, kvj, Jj⟩ ⟨hj, hPj, hkj⟩
        dsimp only at hj hPj hkj ⊢
        haveI := hkj.cel
        refine XC.seq ?_
        refine XC.reg ?_
        refine XL.q (q_fieldAddrN 1 (off := 1) rfl (by kernel_rfl) rfl) rfl ?_
        refine XL.q (q_load rfl (by kernel_rfl) (by first | exact At.mem | exact mA (by assumption)) (by rfl)) rfl ?_
        refine XL.q (q_move rfl) rfl ?_
        refine XL.q (q_bin rfl rfl rfl) rfl ?_
        refine XL.fin (kp 2 rfl (kp 9 rfl (kp 10 rfl (kp 12 rfl (kp 13 rfl (kp 106 rfl kn)))))) ?_
        refine XC.cond rfl (fun hc => ?_) (fun hc => ?_)
        ·
          have hlt : j < t - N := by simp at hc; omega
          have hoj := hok0 j (by omega)
          have hod := hok0 (t - N) (by omega)
          have hodl := hod.len
          have hag := step_again hoj.kok hoj.tok (s' := (yk [111, 102] s key N (t - N)).1) (by omega) (by have := hext0 (j + 1) (t - N - (j + 1)) (by omega); rwa [show j + 1 + (t - N - (j + 1)) = t - N by omega] at this) hod.tok
          have hgt := yk_get [111, 102] s key N h2 hlt
          have hsucc : (yk [111, 102] s key N (j + 1)).2.1 = stepC (yk [111, 102] s key N j).1 (yk [111, 102] s key N j).2.1 := rfl
          obtain ⟨hag1, hag2⟩ := hag
          have hagK : stepK (yk [111, 102] s key N (t - N)).1 (yk [111, 102] s key N j).2.1 = stepK (yk [111, 102] s key N j).1 (yk [111, 102] s key N j).2.1 := by unfold stepK; rw [hag2]
          have hagC : stepC (yk [111, 102] s key N (t - N)).1 (yk [111, 102] s key N j).2.1 = stepC (yk [111, 102] s key N j).1 (yk [111, 102] s key N j).2.1 := by unfold stepC; rw [hag2]
          refine XC.skip ?_
          refine nx (kp 2 rfl (kp 9 rfl (kp 10 rfl (kp 12 rfl (kp 13 rfl kn))))) ?_
          refine XC.block ?_
          refine XC.reg ?_
          refine XL.q (q_fieldAddrN 1 (off := 1) rfl (by kernel_rfl) rfl) rfl ?_
          refine XL.q (q_load rfl (by kernel_rfl) (by first | exact At.mem | exact mA (by assumption)) (by rfl)) rfl ?_
          refine XL.q (q_assign rfl) rfl ?_
          refine XL.fin (kp 2 rfl (kp 9 rfl (kp 10 rfl (kp 12 rfl (kp 13 rfl (kp 16 rfl kn)))))) ?_
          refine XC.reg ?_
          refine XL.q (q_move rfl) rfl ?_
          refine XL.q (q_loadW (n := 2) rfl (by kernel_rfl) (by first | exact At.mem | exact mA (by assumption)) (by rfl)) rfl ?_
          refine XL.lo rfl (l_call (Mc := MPj) (R := _) (aS rfl (aS rfl a0)) (by kernel_rfl) PickC.perm (step_spec pb _ kvj _ (N + j) MPj _ hPj (hkj.mono SubC.sub) (by omega) hG.up) rfl ?_)
          rintro v112 M112 J112 ⟨w1, w2, rfl, hP112, hw1, hw2⟩
          rw [hagK] at hw1
          rw [hagC, ← hsucc] at hw2
          rw [hag1] at hP112
          haveI := hw1.cel
          haveI := hw2.cel
          rw [Nat.mod_eq_of_lt (show N + j + 1 < 4294967296 by omega), show N + j + 1 = N + (j + 1) from rfl]
          refine XL.q (q_move rfl) rfl ?_
          refine XL.q (q_x0 rfl) rfl ?_
          refine XL.q (q_x1 rfl) rfl ?_
          refine XL.lo rfl (l_alloc (cs := [.slice none 0 0, .int .u32 0]) (by kernel_rfl) rfl fun b18 => ?_)
          refine XL.q (q_assign rfl) rfl ?_
          refine XL.lo rfl (l_storeW rfl rfl Cel.cel (by kernel_rfl) (by rfl) (by intro c hc; simp only [List.mem_cons, List.not_mem_nil, or_false] at hc; rcases hc with rfl | rfl; exact hw2.one; rfl) UpC.upd ?_)
          refine XL.fin (kp 2 rfl (kp 9 rfl (kp 10 rfl (kp 12 rfl (kp 13 rfl (kp 16 rfl (kp 17 rfl (kp 18 rfl kn)))))))) ?_
          refine XC.reg ?_
          refine XL.q (q_loadW (n := 2) rfl (by kernel_rfl) (by first | exact At.mem | exact mA (by assumption)) (by rfl)) rfl ?_
          refine XL.lo rfl (l_storeW rfl rfl Cel.cel (by kernel_rfl) (by rfl) (by intro c hc; simp only [List.mem_cons, List.not_mem_nil, or_false] at hc; rcases hc with rfl | rfl; exact hw2.one; rfl) UpC.upd ?_)
          refine XL.fin (kp 2 rfl (kp 9 rfl (kp 10 rfl (kp 12 rfl (kp 13 rfl (kp 16 rfl (kp 17 rfl kn))))))) ?_
          refine XC.reg ?_
          refine XL.q (q_move rfl) rfl ?_
          refine XL.lo rfl (l_buildSlice (e := 5) (sz := 1) (z := [.int .u8 0, .int .u8 0]) (by kernel_rfl) (eS rfl (eS rfl e0)) (bdS 0 1 rfl (by rfl) (bdS 1 1 rfl (by rfl) bd0)) rfl fun b118 => ?_)
          refine XL.lo rfl (l_mark rfl (by kernel_rfl) UpC.upd rfl ?_)
          refine XL.frz (B := [_]) (PickC.sing).perm ?_
          refine XL.q (q_move rfl) rfl ?_
          refine XL.call (aS rfl (aS rfl (aS rfl a0))) (by kernel_rfl) (get_spec b45 vS _ rowsS (yk [111, 102] s key N (t - N)).2.2.2 [111, 102] (N + j) _ At.mem (hslS.rd SubC.sub) (hrwS.mono skT SubC.sub) (by omega) ⟨Rd.whole (n := 2) At.mem (by rfl), by decide, by decide⟩) rfl ?_
          rintro v121 M121 J121 ⟨rfl, u121, rfl, hb121⟩
          rw [hgt] at hb121 ⊢
          haveI := hb121.cel
          refine XL.q (q_move rfl) rfl ?_
          refine XL.q (q_x0 rfl) rfl ?_
          refine XL.q (q_x1 rfl) rfl ?_
          refine XL.q (q_assign rfl) rfl ?_
          refine XL.q (q_assign rfl) rfl ?_
          refine XL.fin (kp 2 rfl (kp 9 rfl (kp 10 rfl (kp 12 rfl (kp 13 rfl (kp 16 rfl (kp 17 rfl (kp 19 rfl (kp 20 rfl kn))))))))) ?_
          refine XC.reg ?_
          refine XL.q (q_move rfl) rfl ?_
          refine XL.q (q_not rfl) rfl ?_
          refine XL.q (q_move rfl) rfl ?_
          refine XL.gy rfl rfl (OpQ.opL (q_move rfl) rfl ?_)
          refine XL.gy rfl rfl (OpQ.opL (q_toStr2 rfl (by kernel_rfl) (hb121.rd.mono SubC.sub)) rfl ?_)
          refine XL.gy rfl rfl (OpQ.opL (q_move rfl) rfl ?_)
          refine XL.gy rfl rfl (OpQ.opL (q_toStr2 rfl (by kernel_rfl) (hw1.rd.mono SubC.sub)) rfl ?_)
          refine XL.gy rfl rfl (OpQ.opL ((show (!decide ((some (stepK (yk [111, 102] s key N j).1 (yk [111, 102] s key N j).2.1)).getD [] = stepK (yk [111, 102] s key N j).1 (yk [111, 102] s key N j).2.1)) = false by simp) ▸ q_sNe rfl rfl rfl rfl hb121.lt hw1.lt) rfl ?_)
          refine XL.q (q_pickF rfl rfl) rfl ?_
          refine XL.q (q_move rfl) rfl ?_
          refine XL.gy rfl rfl (OpQ.opL (q_fieldAddrN 1 (off := 1) rfl (by kernel_rfl) rfl) rfl ?_)
          refine XL.gy rfl rfl (OpQ.opL (q_load rfl (by kernel_rfl) (by first | exact At.mem | exact mA (by assumption)) (by rfl)) rfl ?_)
          refine XL.gy rfl rfl (OpQ.opL (q_move rfl) rfl ?_)
          refine XL.gy rfl rfl (OpQ.opL (q_addM 4294967296 (b := 1) rfl rfl rfl rfl rfl rfl) rfl ?_)
          refine XL.gy rfl rfl (OpQ.opL (q_cmp false rfl rfl (neF (by omega))) rfl ?_)
          refine XL.q (q_pickF rfl rfl) rfl ?_
          refine XL.fin (kp 2 rfl (kp 9 rfl (kp 10 rfl (kp 12 rfl (kp 13 rfl (kp 139 rfl kn)))))) ?_
          refine XC.condF rfl ?_
          refine XC.skip ?_
          refine nb ?_
          exact rn ⟨j + 1, M112, w2, J121 ++ ([_] ++ (J112 ++ Jj))⟩ ⟨hlt, hP112, hw2.mono SubC.sub⟩ (by dsimp only; omega) (kp 2 rfl (kp 9 rfl (kp 10 rfl (kp 12 rfl (kp 13 rfl kn))))) (Fit.pick PickC.perm (Fit.pick (B := [_]) PickC.perm (Fit.pick PickC.perm (Fit.pick (B := [_]) PickC.perm (Fit.last PickC.perm))))) (fun x h => by simpa using h)
        ·
          have hge : j = t - N := by simp at hc; omega
          subst hge
          refine XC.exit ?_
          refine te ?_
          refine re ?_
          refine be rfl ?_
          refine nx (kp 10 rfl (kp 13 rfl kn)) ?_
          refine XC.reg ?_
          refine XL.q (q_fieldAddrN 0 (off := 0) rfl (by kernel_rfl) rfl) rfl ?_
          refine XL.q (q_load (v := kvj) rfl (by kernel_rfl) At.mem (by rfl)) rfl ?_
          refine XL.q (q_toStr2 rfl (by kernel_rfl) (hkj.rd.mono SubC.sub)) rfl ?_
          refine XL.q (q_fieldAddrN 0 (off := 0) rfl (by kernel_rfl) rfl) rfl ?_
          refine XL.q (q_load (v := kvd) rfl (by kernel_rfl) At.mem (by rfl)) rfl ?_
          refine XL.q (q_toStr2 rfl (by kernel_rfl) (hkd.rd.mono SubC.sub)) rfl ?_
          refine XL.q ((show (decide ((yk [111, 102] s key N (t - N)).2.1 = (yk [111, 102] s key N (t - N)).2.1)) = true by simp) ▸ q_sEq rfl rfl rfl rfl hkj.lt hkd.lt) rfl ?_
          refine XL.q (q_assign rfl) rfl ?_
          refine XL.fin (kp 8 rfl kn) ?_
          refine XC.ret ?_
          exact ⟨_, [], [], res1 rfl rfl, List.nil_sublist _, by simp, rfl, rfl, rfl⟩
