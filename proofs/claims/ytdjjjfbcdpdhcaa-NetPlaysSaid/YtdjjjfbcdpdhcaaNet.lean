/- The walks of package net and of the laws' helpers. -/
import Derived.Test.YtdjjjfbcdpdhcaaRows
import Derived.Test.YtdjjjfbcdpdhcaaEng
set_option linter.unusedVariables false
namespace Go.Proofs.Ytdjjjfbcdpdhcaa
open Go.Px

/-- A packet by its number: 19 cells. -/
def pk (n : Int) : List Value := [.int .u8 1, .int .i64 0, .int .i64 0, .int .u32 (IntKind.u32.wrap n), .int .u32 0, .int .i64 0, .slice none 0 0, .int .u64 0, .slice none 0 0, .int .u8 0, .int .i64 0, .int .i64 0, .int .u32 0, .int .u32 0, .int .i64 0, .slice none 0 0, .slice none 0 0, .slice none 0 0, .bool (n.tmod 2 == 1)]

theorem len_spec (b n c : Nat) (p : Option Addr) (e : TypeId) (A : Mem) (hb : (b, blk [.slice p n c] e) ∈ A) :
    FnV Try.prog 12 [.pointer (some ⟨b, 0, none⟩)] A (.int .i64 n) := by
  refine FnX.enter (N := 10) Try.func12 rfl rfl rfl fun w => ?_
  refine XC.keep (kp 0 rfl kn) ?_
  refine XC.reg ?_
  refine XL.q (q_assign rfl) rfl ?_
  refine XL.fin (kp 0 rfl kn) ?_
  refine XC.seq ?_
  refine XC.reg ?_
  refine XL.q (q_move rfl) rfl ?_
  refine XL.q (q_ptrEqNil (e := 27) rfl rfl (by kernel_rfl)) rfl ?_
  refine XL.fin (kp 0 rfl (kp 4 rfl kn)) ?_
  refine XC.condF rfl ?_
  refine XC.skip ?_
  refine nx (kp 0 rfl kn) ?_
  refine XC.reg ?_
  refine XL.q (q_move rfl) rfl ?_
  refine XL.q (q_nil rfl) rfl ?_
  refine XL.q (q_fieldAddrN 0 (off := 0) rfl (by kernel_rfl) rfl) rfl ?_
  first | refine XL.ld rfl (by kernel_rfl) (by rfl) rfl ?_ | refine XL.q (q_load rfl (by kernel_rfl) (mA (by assumption)) (by rfl)) rfl ?_
  refine XL.q (q_lenS (e := 43) rfl (by kernel_rfl)) rfl ?_
  refine XL.q (q_assign rfl) rfl ?_
  refine XL.fin (kp 2 rfl kn) ?_
  refine XC.ret ?_
  exact ⟨_, [], [], res1 rfl rfl, List.nil_sublist _, by simp, rfl, rfl, rfl⟩

theorem len_nil (A : Mem) : FnV Try.prog 12 [.pointer none] A (.int .i64 0) := by
  refine FnX.enter (N := 10) Try.func12 rfl rfl rfl fun w => ?_
  refine XC.keep (kp 0 rfl kn) ?_
  refine XC.reg ?_
  refine XL.q (q_assign rfl) rfl ?_
  refine XL.fin (kp 0 rfl kn) ?_
  refine XC.seq ?_
  refine XC.reg ?_
  refine XL.q (q_move rfl) rfl ?_
  refine XL.q (q_ptrEqNil (e := 27) rfl rfl (by kernel_rfl)) rfl ?_
  refine XL.fin (kp 0 rfl (kp 4 rfl kn)) ?_
  refine XC.condT rfl ?_
  refine XC.reg ?_
  refine XL.q (q_assign rfl) rfl ?_
  refine XL.fin (kp 2 rfl kn) ?_
  refine XC.ret ?_
  refine tr ?_
  exact ⟨_, [], [], res1 rfl rfl, List.nil_sublist _, by simp, rfl, rfl, rfl⟩

theorem packet_spec (n : Int) (A : Mem) : FnV Try.prog 8 [.int .i64 n] A (.agg (pk n).toArray) := by
  refine FnX.enter (N := 10) Try.func8 rfl rfl rfl fun w => ?_
  refine XC.keep (kp 0 rfl kn) ?_
  refine XC.reg ?_
  refine XL.lo rfl (l_alloc (cs := [.int .u8 0, .int .i64 0, .int .i64 0, .int .u32 0, .int .u32 0, .int .i64 0, .slice none 0 0, .int .u64 0, .slice none 0 0, .int .u8 0, .int .i64 0, .int .i64 0, .int .u32 0, .int .u32 0, .int .i64 0, .slice none 0 0, .slice none 0 0, .slice none 0 0, .bool false]) (by kernel_rfl) rfl fun b2 => ?_)
  refine XL.fin (kp 0 rfl (kp 2 rfl kn)) ?_
  refine XC.reg ?_
  refine XL.q (q_move rfl) rfl ?_
  refine XL.q (q_conv (k' := .u32) rfl (by kernel_rfl)) rfl ?_
  refine XL.q (q_build (place := fun x => #[(0, 1), (1, 2), (3, 1), (4, 1), (5, 1), (6, 1), (7, 1), (8, 1)][x]?) (z := [.int .u8 0, .int .i64 0, .int .i64 0, .int .u32 0, .int .u32 0, .int .i64 0, .slice none 0 0, .int .u64 0, .slice none 0 0]) (fun _ => by kernel_rfl) (eS rfl (eS rfl e0)) (bdS 0 1 rfl (by rfl) (bdS 3 1 rfl (by rfl) bd0))) rfl ?_
  refine XL.q (q_move rfl) rfl ?_
  refine XL.q (q_rem rfl rfl (by decide)) rfl ?_
  refine XL.q (q_bin rfl rfl rfl) rfl ?_
  refine XL.q (q_build (place := fun x => #[(0, 9), (9, 9), (18, 1)][x]?) (z := [.int .u8 0, .int .i64 0, .int .i64 0, .int .u32 0, .int .u32 0, .int .i64 0, .slice none 0 0, .int .u64 0, .slice none 0 0, .int .u8 0, .int .i64 0, .int .i64 0, .int .u32 0, .int .u32 0, .int .i64 0, .slice none 0 0, .slice none 0 0, .slice none 0 0, .bool false]) (fun _ => by kernel_rfl) (eS rfl (eS rfl e0)) (bdS 0 9 rfl (by rfl) (bdS 18 1 rfl (by rfl) bd0))) rfl ?_
  refine XL.stW rfl rfl (by kernel_rfl) (by rfl) (by simp [Value.oneCell']) ?_
  refine XL.fin (kp 2 rfl kn) ?_
  refine XC.ret ?_
  exact ⟨_, [], [], resC (n := 19) rfl rfl (by kernel_rfl) m0 rfl, List.nil_sublist _, by simp, rfl, rfl, rfl⟩

theorem rows_one {xs : List Value} (h : ∀ c ∈ xs, c.oneCell' = true) (k : Nat) : ∀ c ∈ xs.drop k, c.oneCell' = true := fun c hc => h c (List.mem_of_mem_drop hc)

theorem delete_spec (b o cap n i j : Nat) (cs xs : List Value) (e : TypeId) (A : Mem) (hn : n ≤ cap) (hcap : cap ≤ maxLen) (hfit : o + cap * 19 ≤ cs.length) (hl : xs.length = n * 19) (hx : ∀ j u, xs[j]? = some u → cs[o + j]? = some u)
    (h1 : ∀ c ∈ xs, c.oneCell' = true) (hij : i < j) (hjn : j ≤ n) :
    FnX Try.prog 14 [.slice (some ⟨b, o, none⟩) n cap, .int .i64 i, .int .i64 j] [(b, blk cs e)] A
      fun v M J => J = [] ∧ Sl 19 v (n - (j - i)) (xs.take (i * 19) ++ xs.drop (j * 19)) M := by
  refine FnX.enter (N := 33) Try.func14 rfl rfl rfl fun w => ?_
  refine XC.keep (kp 0 rfl (kp 1 rfl (kp 2 rfl kn))) ?_
  refine XC.reg ?_
  refine XL.q (q_assign rfl) rfl ?_
  refine XL.fin (kp 0 rfl (kp 1 rfl (kp 2 rfl kn))) ?_
  refine XC.reg ?_
  refine XL.q (q_move rfl) rfl ?_
  refine XL.q (q_move rfl) rfl ?_
  refine XL.q (q_move rfl) rfl ?_
  refine XL.q (q_move rfl) rfl ?_
  refine XL.q (q_lenS (e := 43) rfl (by kernel_rfl)) rfl ?_
  refine XL.q (q_slice (e := 43) (sz := 19) rfl (by kernel_rfl) (by kernel_rfl) (o1 i rfl rfl) (o1 j rfl rfl) (o1 n rfl rfl) (by simp) (by simp; omega) (by simp; omega) (by simp; omega)) rfl ?_
  refine XL.fin (kp 0 rfl (kp 1 rfl (kp 2 rfl kn))) ?_
  refine XC.seq ?_
  refine XC.reg ?_
  refine XL.q (q_move rfl) rfl ?_
  refine XL.q (q_move rfl) rfl ?_
  refine XL.q (q_bin rfl rfl rfl) rfl ?_
  refine XL.fin (kp 0 rfl (kp 1 rfl (kp 2 rfl (kp 16 rfl kn)))) ?_
  refine XC.cond rfl (fun hc => ?_) (fun hc => ?_)
  ·
    simp at hc; omega
  ·
    refine XC.skip ?_
    refine nx (kp 0 rfl (kp 1 rfl (kp 2 rfl kn))) ?_
    refine XC.reg ?_
    refine XL.q (q_move rfl) rfl ?_
    refine XL.q (q_lenS (e := 43) rfl (by kernel_rfl)) rfl ?_
    refine XL.q (q_assign rfl) rfl ?_
    refine XL.fin (kp 0 rfl (kp 1 rfl (kp 2 rfl (kp 7 rfl kn)))) ?_
    refine XC.draw ([]) [] [(0, 0), (1, 0), (2, 0), (3, 0), (4, 0), (5, 0), (6, 2), (7, 0)] (by kernel_rfl) (by kernel_rfl) (by simp) fun hs => ?_
    refine XP.q hs rfl (q_move rfl) rfl ?_
    refine XP.q hs rfl (q_move rfl) rfl ?_
    refine XP.q hs rfl (q_slHi (h := i) (e := 43) (sz := 19) rfl rfl (by kernel_rfl) (by kernel_rfl) rfl (by omega)) rfl ?_
    refine XP.q hs rfl (q_move rfl) rfl ?_
    refine XP.q hs rfl (q_move rfl) rfl ?_
    refine XP.q hs rfl (q_slLo (h := j) (e := 43) (sz := 19) rfl rfl (by kernel_rfl) (by kernel_rfl) rfl (by omega) (by omega)) rfl ?_
    refine XP.tl rfl rfl rfl (l_appendR (e := 43) (sz := 19) (by_ := 216) (m := n - j) (cs := cs) rfl rfl (by kernel_rfl) ((Rd.lo ⟨_, cap, rfl, hl, hn, .inr ⟨b, o, cs, e, (0, 0), rfl, m0, hx⟩⟩ j hjn)) (rows_one h1 _) (by omega) hfit rfl UpC.upd rfl ?_)
    refine XP.q hs rfl (q_assign rfl) rfl ?_
    refine XP.fin (kp 0 rfl (kp 7 rfl kn)) ?_
    refine XC.reg ?_
    refine XL.q (q_move rfl) rfl ?_
    refine XL.q (q_move rfl) rfl ?_
    refine XL.q (q_lenS (e := 43) rfl (by kernel_rfl)) rfl ?_
    refine XL.q (q_move rfl) rfl ?_
    refine XL.q (q_slLHb (lo := i + (n - j)) (hi := n) (e := 43) (sz := 19) rfl rfl rfl (by kernel_rfl) (by kernel_rfl) rfl rfl (by omega) (by omega) (by omega)) rfl ?_
    refine XL.lo rfl (l_clear (e := 43) (sz := 19) (by_ := 216) (zs := (Builtin.zeroCells #[.int .u8 0, .int .i64 0, .int .i64 0, .int .u32 0, .int .u32 0, .int .i64 0, .slice none 0 0, .int .u64 0, .slice none 0 0, .int .u8 0, .int .i64 0, .int .i64 0, .int .u32 0, .int .u32 0, .int .i64 0, .slice none 0 0, .slice none 0 0, .slice none 0 0, .bool false] (n - (i + (n - j)))).toList) rfl (by kernel_rfl) (by kernel_rfl) (zeroCells_one (by simp [Value.oneCell']) (by simp) _) ?h1 rfl UpC.upd ?_)
    case h1 => simp [hl]; omega
    refine XL.fin (kp 0 rfl kn) ?_
    refine XC.reg ?_
    refine XL.q (q_move rfl) rfl ?_
    refine XL.q (q_assign rfl) rfl ?_
    refine XL.fin (kp 6 rfl kn) ?_
    refine XC.ret ?_
    refine ⟨_, _, [], res1 rfl rfl, List.Sublist.refl _, by simp, rfl, ?_⟩
    show Sl 19 _ (n - (j - i)) _ _
    rw [show n - (j - i) = i + (n - j) from by omega]
    have hd : (xs.drop (j * 19)).length = (n - j) * 19 := by simp [hl]; omega
    refine .inr ⟨b, o, cap, _, e, rfl, rfl, by omega, hcap, ?_, ?_, ?_⟩
    · simp [hl, Builtin.zeroCells]; omega
    · simp [hl]; omega
    · intro q u hq
      have hlt : q < (i + (n - j)) * 19 := by have := (List.getElem?_eq_some_iff.1 hq).1; simp [hl] at this; omega
      rw [splice_lt (by simp [hl]; omega) (by omega)]
      by_cases hqi : q < i * 19
      · rw [splice_lt (by omega) (by omega)]
        rw [List.getElem?_append_left (by simp [hl]; omega), List.getElem?_take_of_lt hqi] at hq
        exact hx q u hq
      · rw [splice_mid (by omega) (by omega) (by omega)]
        rw [List.getElem?_append_right (by simp [hl]; omega)] at hq
        rw [← hq]
        congr 1
        simp [hl]; omega

/-- The place that a number names, going round. -/
def plc (i : Int) (n : Nat) : Nat := (i % 18446744073709551616).toNat % n
theorem plc_lt (i : Int) {n : Nat} (h : 0 < n) : plc i n < n := Nat.mod_lt _ h
theorem plc_eq (i : Int) {n : Nat} (h : 0 < n) (hn : n ≤ 1000) : IntKind.i64.wrap ((IntKind.u64.wrap i).tmod (IntKind.u64.wrap (n : Int))) = (plc i n : Int) := by
  have e1 : IntKind.u64.wrap (n : Int) = n := wrap_u64 (by omega) (by omega)
  have e2 : IntKind.u64.wrap i = i % 18446744073709551616 := by
    unfold IntKind.wrap; simp [IntKind.signed, IntKind.bits]
  have h0 : 0 ≤ i % 18446744073709551616 := Int.emod_nonneg _ (by decide)
  rw [e1, e2]
  have e3 : (i % 18446744073709551616) = ((i % 18446744073709551616).toNat : Int) := (Int.toNat_of_nonneg h0).symm
  rw [e3, Int.tmod_eq_emod_of_nonneg (by omega), ← Int.natCast_emod]
  have := plc_lt i h
  unfold plc at this ⊢
  exact wrap_i64 (by omega) (by omega)

/-- The net at block b holds these rows. -/
def NetM (b : Nat) (rows : List (List Value)) (M : Mem) : Prop :=
  ∃ sv B e, M.Perm ((b, blk [sv] e) :: B) ∧ Sl 19 sv rows.length rows.flatten B
def Rows (rows : List (List Value)) : Prop := ∀ r ∈ rows, r.length = 19 ∧ ∀ u ∈ r, u.oneCell' = true
theorem Rows.len {rows : List (List Value)} (h : Rows rows) : ∀ r ∈ rows, r.length = 19 := fun r hr => (h r hr).1
theorem Rows.one {rows : List (List Value)} (h : Rows rows) : ∀ u ∈ rows.flatten, u.oneCell' = true := fun u hu => by
  obtain ⟨r, hr, hu⟩ := List.mem_flatten.1 hu
  exact (h r hr).2 u hu
def last (rows : List (List Value)) : List (List Value) := rows.drop (rows.length - 256)

theorem place_spec (b n c : Nat) (p : Option Addr) (e : TypeId) (i : Int) (A : Mem) (hb : (b, blk [.slice p n c] e) ∈ A) (hn0 : 0 < n) (hn : n ≤ 1000) :
    FnV Try.prog 13 [.pointer (some ⟨b, 0, none⟩), .int .i64 i] A (.int .i64 (plc i n)) := by
  refine FnX.enter (N := 18) Try.func13 rfl rfl rfl fun w => ?_
  refine XC.keep (kp 0 rfl (kp 1 rfl kn)) ?_
  refine XC.reg ?_
  refine XL.q (q_assign rfl) rfl ?_
  refine XL.fin (kp 0 rfl (kp 1 rfl kn)) ?_
  refine XC.seq ?_
  refine XC.reg ?_
  refine XL.q (q_move rfl) rfl ?_
  refine XL.cv (aS rfl a0) (by kernel_rfl) (len_spec b n c p e _ (mA hb)) rfl ?_
  refine XL.q (q_cmp false rfl rfl (by simp [arith]; omega)) rfl ?_
  refine XL.fin (kp 0 rfl (kp 1 rfl (kp 7 rfl kn))) ?_
  refine XC.condF rfl ?_
  refine XC.skip ?_
  refine nx (kp 0 rfl (kp 1 rfl kn)) ?_
  refine XC.reg ?_
  refine XL.q (q_move rfl) rfl ?_
  refine XL.q (q_conv (k' := .u64) rfl (by kernel_rfl)) rfl ?_
  refine XL.q (q_move rfl) rfl ?_
  refine XL.q (q_nil rfl) rfl ?_
  refine XL.q (q_fieldAddrN 0 (off := 0) rfl (by kernel_rfl) rfl) rfl ?_
  first | refine XL.ld rfl (by kernel_rfl) (by rfl) rfl ?_ | refine XL.q (q_load rfl (by kernel_rfl) (mA (by assumption)) (by rfl)) rfl ?_
  refine XL.q (q_lenS (e := 43) rfl (by kernel_rfl)) rfl ?_
  refine XL.q (q_conv (k' := .u64) rfl (by kernel_rfl)) rfl ?_
  refine XL.q (q_rem rfl rfl (by rw [wrap_u64 (by omega) (by omega)]; omega)) rfl ?_
  refine XL.q (q_convR (k' := .i64) _ rfl (by kernel_rfl) (plc_eq i hn0 hn)) rfl ?_
  refine XL.q (q_assign rfl) rfl ?_
  refine XL.fin (kp 4 rfl kn) ?_
  refine XC.ret ?_
  exact ⟨_, [], [], res1 rfl rfl, List.nil_sublist _, by simp, rfl, rfl, rfl⟩

theorem place_none (b c : Nat) (p : Option Addr) (e : TypeId) (i : Int) (A : Mem) (hb : (b, blk [.slice p 0 c] e) ∈ A) :
    FnV Try.prog 13 [.pointer (some ⟨b, 0, none⟩), .int .i64 i] A (.int .i64 (-1)) := by
  refine FnX.enter (N := 18) Try.func13 rfl rfl rfl fun w => ?_
  refine XC.keep (kp 0 rfl (kp 1 rfl kn)) ?_
  refine XC.reg ?_
  refine XL.q (q_assign rfl) rfl ?_
  refine XL.fin (kp 0 rfl (kp 1 rfl kn)) ?_
  refine XC.seq ?_
  refine XC.reg ?_
  refine XL.q (q_move rfl) rfl ?_
  refine XL.cv (aS rfl a0) (by kernel_rfl) (len_spec b 0 c p e _ (mA hb)) rfl ?_
  refine XL.q (q_cmp true rfl rfl (by simp [arith])) rfl ?_
  refine XL.fin (kp 0 rfl (kp 1 rfl (kp 7 rfl kn))) ?_
  refine XC.condT rfl ?_
  refine XC.reg ?_
  refine XL.q (q_assign rfl) rfl ?_
  refine XL.fin (kp 4 rfl kn) ?_
  refine XC.ret ?_
  refine tr ?_
  exact ⟨_, [], [], res1 rfl rfl, List.nil_sublist _, by simp, rfl, rfl, rfl⟩

theorem place_nil (i : Int) (A : Mem) : FnV Try.prog 13 [.pointer none, .int .i64 i] A (.int .i64 (-1)) := by
  refine FnX.enter (N := 18) Try.func13 rfl rfl rfl fun w => ?_
  refine XC.keep (kp 0 rfl (kp 1 rfl kn)) ?_
  refine XC.reg ?_
  refine XL.q (q_assign rfl) rfl ?_
  refine XL.fin (kp 0 rfl (kp 1 rfl kn)) ?_
  refine XC.seq ?_
  refine XC.reg ?_
  refine XL.q (q_move rfl) rfl ?_
  refine XL.cv (aS rfl a0) (by kernel_rfl) (len_nil _) rfl ?_
  refine XL.q (q_cmp true rfl rfl (by simp [arith])) rfl ?_
  refine XL.fin (kp 0 rfl (kp 1 rfl (kp 7 rfl kn))) ?_
  refine XC.condT rfl ?_
  refine XC.reg ?_
  refine XL.q (q_assign rfl) rfl ?_
  refine XL.fin (kp 4 rfl kn) ?_
  refine XC.ret ?_
  refine tr ?_
  exact ⟨_, [], [], res1 rfl rfl, List.nil_sublist _, by simp, rfl, rfl, rfl⟩

theorem take_none (b c : Nat) (p : Option Addr) (e : TypeId) (i : Int) (A : Mem) (hb : (b, blk [.slice p 0 c] e) ∈ A) :
    FnV Try.prog 10 [.pointer (some ⟨b, 0, none⟩), .int .i64 i] A (.tuple #[.agg (List.toArray [.int .u8 0, .int .i64 0, .int .i64 0, .int .u32 0, .int .u32 0, .int .i64 0, .slice none 0 0, .int .u64 0, .slice none 0 0, .int .u8 0, .int .i64 0, .int .i64 0, .int .u32 0, .int .u32 0, .int .i64 0, .slice none 0 0, .slice none 0 0, .slice none 0 0, .bool false]), .bool false]) := by
  refine FnX.enter (N := 33) Try.func10 rfl rfl rfl fun w => ?_
  refine XC.keep (kp 0 rfl (kp 1 rfl kn)) ?_
  refine XC.reg ?_
  refine XL.lo rfl (l_alloc (cs := [.int .u8 0, .int .i64 0, .int .i64 0, .int .u32 0, .int .u32 0, .int .i64 0, .slice none 0 0, .int .u64 0, .slice none 0 0, .int .u8 0, .int .i64 0, .int .i64 0, .int .u32 0, .int .u32 0, .int .i64 0, .slice none 0 0, .slice none 0 0, .slice none 0 0, .bool false]) (by kernel_rfl) rfl fun b4 => ?_)
  refine XL.q (q_assign rfl) rfl ?_
  refine XL.fin (kp 0 rfl (kp 1 rfl (kp 4 rfl kn))) ?_
  refine XC.reg ?_
  refine XL.q (q_move rfl) rfl ?_
  refine XL.q (q_move rfl) rfl ?_
  refine XL.cv (aS rfl (aS rfl a0)) (by kernel_rfl) (place_none b c p e i _ (mA hb)) rfl ?_
  refine XL.q (q_assign rfl) rfl ?_
  refine XL.fin (kp 0 rfl (kp 4 rfl (kp 6 rfl kn))) ?_
  refine XC.seq ?_
  refine XC.reg ?_
  refine XL.q (q_move rfl) rfl ?_
  refine XL.q (q_cmp true rfl rfl (by simp [arith])) rfl ?_
  refine XL.fin (kp 0 rfl (kp 4 rfl (kp 6 rfl (kp 12 rfl kn)))) ?_
  refine XC.condT rfl ?_
  refine XC.reg ?_
  refine XL.q (q_build (place := fun x => #[(0, 9), (9, 9), (18, 1)][x]?) (z := [.int .u8 0, .int .i64 0, .int .i64 0, .int .u32 0, .int .u32 0, .int .i64 0, .slice none 0 0, .int .u64 0, .slice none 0 0, .int .u8 0, .int .i64 0, .int .i64 0, .int .u32 0, .int .u32 0, .int .i64 0, .slice none 0 0, .slice none 0 0, .slice none 0 0, .bool false]) (fun _ => by kernel_rfl) e0 bd0) rfl ?_
  refine XL.stW rfl rfl (by kernel_rfl) (by rfl) (by simp [Value.oneCell']) ?_
  refine XL.q (q_assign rfl) rfl ?_
  refine XL.fin (kp 4 rfl (kp 5 rfl kn)) ?_
  refine XC.ret ?_
  refine tr ?_
  exact ⟨_, [], [], resC1 (n := 19) rfl rfl rfl (by kernel_rfl) m0 rfl, List.nil_sublist _, by simp, rfl, rfl, rfl⟩

theorem take_nil (i : Int) (A : Mem) : FnV Try.prog 10 [.pointer none, .int .i64 i] A (.tuple #[.agg (List.toArray [.int .u8 0, .int .i64 0, .int .i64 0, .int .u32 0, .int .u32 0, .int .i64 0, .slice none 0 0, .int .u64 0, .slice none 0 0, .int .u8 0, .int .i64 0, .int .i64 0, .int .u32 0, .int .u32 0, .int .i64 0, .slice none 0 0, .slice none 0 0, .slice none 0 0, .bool false]), .bool false]) := by
  refine FnX.enter (N := 33) Try.func10 rfl rfl rfl fun w => ?_
  refine XC.keep (kp 0 rfl (kp 1 rfl kn)) ?_
  refine XC.reg ?_
  refine XL.lo rfl (l_alloc (cs := [.int .u8 0, .int .i64 0, .int .i64 0, .int .u32 0, .int .u32 0, .int .i64 0, .slice none 0 0, .int .u64 0, .slice none 0 0, .int .u8 0, .int .i64 0, .int .i64 0, .int .u32 0, .int .u32 0, .int .i64 0, .slice none 0 0, .slice none 0 0, .slice none 0 0, .bool false]) (by kernel_rfl) rfl fun b4 => ?_)
  refine XL.q (q_assign rfl) rfl ?_
  refine XL.fin (kp 0 rfl (kp 1 rfl (kp 4 rfl kn))) ?_
  refine XC.reg ?_
  refine XL.q (q_move rfl) rfl ?_
  refine XL.q (q_move rfl) rfl ?_
  refine XL.cv (aS rfl (aS rfl a0)) (by kernel_rfl) (place_nil i _) rfl ?_
  refine XL.q (q_assign rfl) rfl ?_
  refine XL.fin (kp 0 rfl (kp 4 rfl (kp 6 rfl kn))) ?_
  refine XC.seq ?_
  refine XC.reg ?_
  refine XL.q (q_move rfl) rfl ?_
  refine XL.q (q_cmp true rfl rfl (by simp [arith])) rfl ?_
  refine XL.fin (kp 0 rfl (kp 4 rfl (kp 6 rfl (kp 12 rfl kn)))) ?_
  refine XC.condT rfl ?_
  refine XC.reg ?_
  refine XL.q (q_build (place := fun x => #[(0, 9), (9, 9), (18, 1)][x]?) (z := [.int .u8 0, .int .i64 0, .int .i64 0, .int .u32 0, .int .u32 0, .int .i64 0, .slice none 0 0, .int .u64 0, .slice none 0 0, .int .u8 0, .int .i64 0, .int .i64 0, .int .u32 0, .int .u32 0, .int .i64 0, .slice none 0 0, .slice none 0 0, .slice none 0 0, .bool false]) (fun _ => by kernel_rfl) e0 bd0) rfl ?_
  refine XL.stW rfl rfl (by kernel_rfl) (by rfl) (by simp [Value.oneCell']) ?_
  refine XL.q (q_assign rfl) rfl ?_
  refine XL.fin (kp 4 rfl (kp 5 rfl kn)) ?_
  refine XC.ret ?_
  refine tr ?_
  exact ⟨_, [], [], resC1 (n := 19) rfl rfl rfl (by kernel_rfl) m0 rfl, List.nil_sublist _, by simp, rfl, rfl, rfl⟩

theorem take_blk (b g o cap k : Nat) (cs : List Value) (e e' : TypeId) (i : Int) (A : Mem) (rows : List (List Value)) (row : List Value) (hR : Rows rows) (hn : rows.length ≤ cap) (hcap : cap ≤ maxLen) (hfit : o + cap * 19 ≤ cs.length)
    (hx : ∀ j u, rows.flatten[j]? = some u → cs[o + j]? = some u) (h256 : rows.length ≤ 256) (hk : plc i rows.length = k) (hrow : rows[k]? = some row) :
    FnX Try.prog 10 [.pointer (some ⟨b, 0, none⟩), .int .i64 i] [(b, blk [.slice (some ⟨g, o, none⟩) rows.length cap] e), (g, blk cs e')] A
      fun v M J => J = [] ∧ v = .tuple #[.agg row.toArray, .bool true] ∧ NetM b (rows.eraseIdx k) M := by
  obtain ⟨hlt, hre⟩ := List.getElem?_eq_some_iff.1 hrow
  have hpos : 0 < rows.length := by omega
  have hrl : row.length = 19 := (hR row (List.mem_of_getElem? hrow)).1
  have hr1 : ∀ u ∈ row, u.oneCell' = true := (hR row (List.mem_of_getElem? hrow)).2
  have hrv : ∀ j v, row[j]? = some v → cs[o + k * 19 + j]? = some v := fun j v hj => by
    have hj19 : j < 19 := by have := (List.getElem?_eq_some_iff.1 hj).1; omega
    rw [Nat.add_assoc]
    exact hx _ v (by rw [flat_get hR.len hrow j hj19]; exact hj)
  refine FnX.enter (N := 33) Try.func10 rfl rfl rfl fun w => ?_
  refine XC.keep (kp 0 rfl (kp 1 rfl kn)) ?_
  refine XC.reg ?_
  refine XL.lo rfl (l_alloc (cs := [.int .u8 0, .int .i64 0, .int .i64 0, .int .u32 0, .int .u32 0, .int .i64 0, .slice none 0 0, .int .u64 0, .slice none 0 0, .int .u8 0, .int .i64 0, .int .i64 0, .int .u32 0, .int .u32 0, .int .i64 0, .slice none 0 0, .slice none 0 0, .slice none 0 0, .bool false]) (by kernel_rfl) rfl fun b4 => ?_)
  refine XL.q (q_assign rfl) rfl ?_
  refine XL.fin (kp 0 rfl (kp 1 rfl (kp 4 rfl kn))) ?_
  refine XC.reg ?_
  refine XL.q (q_move rfl) rfl ?_
  refine XL.q (q_move rfl) rfl ?_
  refine XL.cv (aS rfl (aS rfl a0)) (by kernel_rfl) (place_spec b _ cap _ e i _ m1 hpos (by omega)) rfl ?_
  refine XL.q (q_assign rfl) rfl ?_
  refine XL.fin (kp 0 rfl (kp 4 rfl (kp 6 rfl kn))) ?_
  refine XC.seq ?_
  refine XC.reg ?_
  refine XL.q (q_move rfl) rfl ?_
  refine XL.q (q_cmp false rfl rfl (by simp [arith])) rfl ?_
  refine XL.fin (kp 0 rfl (kp 4 rfl (kp 6 rfl (kp 12 rfl kn)))) ?_
  refine XC.condF rfl ?_
  refine XC.skip ?_
  refine nx (kp 0 rfl (kp 4 rfl (kp 6 rfl kn))) ?_
  refine XC.reg ?_
  refine XL.q (q_move rfl) rfl ?_
  refine XL.q (q_nil rfl) rfl ?_
  refine XL.q (q_fieldAddrN 0 (off := 0) rfl (by kernel_rfl) rfl) rfl ?_
  first | refine XL.ld rfl (by kernel_rfl) (by rfl) rfl ?_ | refine XL.q (q_load rfl (by kernel_rfl) (mA (by assumption)) (by rfl)) rfl ?_
  refine XL.q (q_move rfl) rfl ?_
  refine XL.q (q_idxS (e := 43) (sz := 19) (i := k) rfl rfl (by kernel_rfl) (by kernel_rfl) (by rw [hk]) hlt) rfl ?_
  refine XL.q (q_loadR (n := 19) (cs := cs) (vs := row) rfl (by kernel_rfl) At.mem hrl hrv) rfl ?_
  refine XL.lo rfl (l_alloc (cs := [.int .u8 0, .int .i64 0, .int .i64 0, .int .u32 0, .int .u32 0, .int .i64 0, .slice none 0 0, .int .u64 0, .slice none 0 0, .int .u8 0, .int .i64 0, .int .i64 0, .int .u32 0, .int .u32 0, .int .i64 0, .slice none 0 0, .slice none 0 0, .slice none 0 0, .bool false]) (by kernel_rfl) rfl fun b7 => ?_)
  refine XL.stW rfl rfl (by rw [hrl]; kernel_rfl) (by rw [hrl]; rfl) hr1 ?_
  refine XL.fin (kp 0 rfl (kp 4 rfl (kp 6 rfl (kp 7 rfl kn)))) ?_
  refine XC.reg ?_
  refine XL.q (q_move rfl) rfl ?_
  refine XL.q (q_move rfl) rfl ?_
  refine XL.q (q_nil rfl) rfl ?_
  refine XL.q (q_fieldAddrN 0 (off := 0) rfl (by kernel_rfl) rfl) rfl ?_
  first | refine XL.ld rfl (by kernel_rfl) (by rfl) rfl ?_ | refine XL.q (q_load rfl (by kernel_rfl) (mA (by assumption)) (by rfl)) rfl ?_
  refine XL.q (q_move rfl) rfl ?_
  refine XL.q (q_move rfl) rfl ?_
  refine XL.q (q_num ((k + 1 : Nat) : Int) rfl rfl (add64 (by rw [hk]; omega) (by omega) (by omega))) rfl ?_
  refine XL.lo rfl (l_call (aS rfl (aS (v := .int .i64 k) (by rw [hk]; rfl) (aS rfl a0))) (by kernel_rfl) pk3 (delete_spec g o cap rows.length k (k + 1) cs rows.flatten e' _ hn hcap hfit (flat_len hR.len) hx hR.one (by omega) (by omega)) rfl ?_)
  rintro v M' J' ⟨rfl, hsl⟩
  obtain ⟨p', c', rfl, hc'⟩ := hsl.val
  refine XL.q (q_nil rfl) rfl ?_
  refine XL.q (q_fieldAddrN 0 (off := 0) rfl (by kernel_rfl) rfl) rfl ?_
  refine XL.st rfl rfl rfl (by kernel_rfl) ?_
  refine XL.fin (kp 4 rfl (kp 7 rfl kn)) ?_
  refine XC.reg ?_
  refine XL.q (q_loadW (n := 19) (cs := row) rfl (by kernel_rfl) At.mem hrl) rfl ?_
  refine XL.stW rfl rfl (by rw [hrl]; kernel_rfl) (by rw [hrl]; rfl) hr1 ?_
  refine XL.q (q_assign rfl) rfl ?_
  refine XL.fin (kp 4 rfl (kp 5 rfl kn)) ?_
  refine XC.ret ?_
  refine ⟨_, M' ++ [(b, blk [_] e)], [], resC1 (n := 19) (cs := row) rfl rfl rfl (by kernel_rfl) At.mem hrl, List.Sublist.append (List.Sublist.refl _) (.cons _ (.cons _ (List.Sublist.refl _))), by simp, rfl, rfl, _, M', e, List.perm_append_comm, ?_⟩
  have e1 : rows.eraseIdx k = rows.take k ++ rows.drop (k + 1) := List.eraseIdx_eq_take_drop_succ rows k
  have e2 : (rows.eraseIdx k).length = rows.length - (k + 1 - k) := by rw [List.length_eraseIdx, if_pos hlt]; omega
  rw [e2, e1, List.flatten_append, ← flat_take hR.len, ← flat_drop hR.len]
  exact hsl

theorem take_spec (b : Nat) (i : Int) (M A : Mem) (rows : List (List Value)) (row : List Value) (hM : NetM b rows M) (hR : Rows rows) (h256 : rows.length ≤ 256) (hrow : rows[plc i rows.length]? = some row) :
    FnX Try.prog 10 [.pointer (some ⟨b, 0, none⟩), .int .i64 i] M A fun v M J => J = [] ∧ v = .tuple #[.agg row.toArray, .bool true] ∧ NetM b (rows.eraseIdx (plc i rows.length)) M := by
  obtain ⟨sv, B, e, hp, hsl⟩ := hM
  have hlt := (List.getElem?_eq_some_iff.1 hrow).1
  rcases hsl with ⟨p, rfl, hn, _, rfl⟩ | ⟨g, o, cap, cs, e', rfl, rfl, h1, h2, h3, h4, h5⟩
  · omega
  · exact FnX.perm hp (take_blk b g o cap _ cs e e' i A rows row hR h1 h2 h3 h5 h256 rfl hrow)
theorem last_rows {rows : List (List Value)} (h : Rows rows) : Rows (last rows) := fun r hr => h r (List.mem_of_mem_drop hr)
theorem last_len (rows : List (List Value)) : (last rows).length ≤ 256 := by unfold last; simp; omega

theorem put_blk (b n c : Nat) (p : Option Addr) (B A : Mem) (e : TypeId) (rows : List (List Value)) (x : List Value) (hR : Rows rows) (hsl : Sl 19 (.slice p rows.length c) rows.length rows.flatten B) (hx : x.length = 19) (hx1 : ∀ u ∈ x, u.oneCell' = true) (h256 : rows.length ≤ 256) :
    FnX Try.prog 7 [.pointer (some ⟨b, 0, none⟩), .agg x.toArray] ((b, blk [.slice p rows.length c] e) :: B) A
      fun v M J => J = [] ∧ v = .tuple #[] ∧ NetM b (last (rows ++ [x])) M := by
  refine FnX.enter (N := 31) Try.func7 rfl rfl rfl fun w => ?_
  refine XC.keep (kp 0 rfl (kp 1 rfl kn)) ?_
  refine XC.reg ?_
  refine XL.lo rfl (l_box rfl rfl rfl fun b3 => ?_)
  refine XL.fin (kp 0 rfl (kp 3 rfl kn)) ?_
  refine XC.reg ?_
  refine XL.q (q_move rfl) rfl ?_
  refine XL.q (q_ptrNeNil (e := 27) rfl rfl (by kernel_rfl)) rfl ?_
  refine XL.fin (kp 0 rfl (kp 3 rfl (kp 5 rfl kn))) ?_
  refine XC.condT rfl ?_
  refine XC.draw (_) [0, 1, 2, 3, 4, 5, 6, 8, 9] [(0, 0), (1, 0), (2, 0), (3, 0), (4, 1), (5, 1), (6, 2), (7, 2), (8, 0), (9, 0), (10, 2)] (by kernel_rfl) (by kernel_rfl) (fun _ h => h) fun hs => ?_
  refine XP.q hs rfl (q_move rfl) rfl ?_
  refine XP.q hs rfl (q_move rfl) rfl ?_
  refine XP.q hs rfl (q_nil rfl) rfl ?_
  refine XP.q hs rfl (q_fieldAddrN 0 (off := 0) rfl (by kernel_rfl) rfl) rfl ?_
  refine XP.r hs rfl (q_load rfl (by kernel_rfl) At.mem (by rfl)) rfl ?_
  refine XP.r hs rfl (q_loadW (n := 19) rfl (by kernel_rfl) At.mem hx) rfl ?_
  refine XP.lo rfl rfl (l_buildSlice (e := 43) (sz := 19) (z := [.int .u8 0, .int .i64 0, .int .i64 0, .int .u32 0, .int .u32 0, .int .i64 0, .slice none 0 0, .int .u64 0, .slice none 0 0, .int .u8 0, .int .i64 0, .int .i64 0, .int .u32 0, .int .u32 0, .int .i64 0, .slice none 0 0, .slice none 0 0, .slice none 0 0, .bool false]) (by kernel_rfl) (eS rfl e0) (.cons rfl rfl hx (SetR.all hx) .nil) rfl fun b12 => ⟨(fun q hq => List.mem_cons_of_mem _ hq), ?_⟩)
  refine XP.tl rfl rfl rfl (l_append (e := 43) (sz := 19) (by_ := 216) (m := 1) (B := B) (M0 := [(b12, blk x 43), (b3, blk x 43), (b, blk [.slice p rows.length c] e)]) rfl rfl (by kernel_rfl) rfl hsl (Rd.whole (n := 1) m0 (by omega)) hx1 (List.perm_append_comm (l₁ := [_, _, _])) (by unfold maxLen; omega) (by omega) rfl fun v' B' hsl' => ?_)
  obtain ⟨p', c', rfl, hc'⟩ := hsl'.val
  refine XP.q hs rfl (q_nil rfl) rfl ?_
  refine XP.q hs rfl (q_fieldAddrN 0 (off := 0) rfl (by kernel_rfl) rfl) rfl ?_
  refine XP.tl rfl rfl rfl (l_store rfl rfl rfl (by kernel_rfl) SetC.set UpC.upd ?_)
  refine XP.fin (kp 0 rfl kn) ?_
  refine XC.draw1 (_) [0, 1, 2, 3, 4, 5, 6, 7, 8, 9, 10, 11, 12, 13, 14] [(0, 0), (1, 0), (2, 0), (3, 0), (4, 1), (5, 0), (6, 0), (7, 0), (8, 1), (9, 0), (10, 0), (11, 0), (12, 0), (13, 0), (14, 0), (15, 2)] (by kernel_rfl) (by kernel_rfl) (fun _ h => h) fun hs => ?_
  refine XP.q hs rfl (q_move rfl) rfl ?_
  refine XP.q hs rfl (q_move rfl) rfl ?_
  refine XP.q hs rfl (q_nil rfl) rfl ?_
  refine XP.q hs rfl (q_fieldAddrN 0 (off := 0) rfl (by kernel_rfl) rfl) rfl ?_
  refine XP.r hs rfl (q_load rfl (by kernel_rfl) At.mem (by rfl)) rfl ?_
  refine XP.q hs rfl (q_move rfl) rfl ?_
  refine XP.q hs rfl (q_nil rfl) rfl ?_
  refine XP.q hs rfl (q_fieldAddrN 0 (off := 0) rfl (by kernel_rfl) rfl) rfl ?_
  refine XP.r hs rfl (q_load rfl (by kernel_rfl) At.mem (by rfl)) rfl ?_
  refine XP.q hs rfl (q_lenS (e := 43) rfl (by kernel_rfl)) rfl ?_
  refine XP.q hs rfl (q_num (((rows.length + 1 : Nat) : Int) - 256) rfl rfl (sub64 rfl (by omega) (by omega))) rfl ?_
  refine XP.q hs rfl (q_maxR ((rows.length + 1 - 256 : Nat) : Int) rfl rfl (by split <;> omega)) rfl ?_
  refine XP.q hs rfl (q_slLo (h := rows.length + 1 - 256) (e := 43) (sz := 19) rfl rfl (by kernel_rfl) (by kernel_rfl) rfl (by omega) (by omega)) rfl ?_
  refine XP.q hs rfl (q_nil rfl) rfl ?_
  refine XP.q hs rfl (q_fieldAddrN 0 (off := 0) rfl (by kernel_rfl) rfl) rfl ?_
  refine XP.tl rfl rfl rfl (l_store rfl rfl rfl (by kernel_rfl) SetC.set UpC.upd ?_)
  refine XP.nil ?_
  obtain ⟨B2, hB2, hs2⟩ := hsl'.lo (rows.length + 1 - 256) (by omega)
  refine ⟨_, B2 ++ [(b, blk [_] e)], [], res0 rfl, List.Sublist.append hB2 (.cons _ (.cons _ (List.Sublist.refl _))), by simp, rfl, rfl, _, B2, e, List.perm_append_comm, ?_⟩
  have hR2 : ∀ r ∈ rows ++ [x], r.length = 19 := by intro r hr; simp at hr; rcases hr with hr | rfl; exact (hR r hr).1; exact hx
  have e1 : (last (rows ++ [x])).length = rows.length + 1 - (rows.length + 1 - 256) := by simp [last]
  rw [e1]
  have e2 : (last (rows ++ [x])).flatten = (rows.flatten ++ x).drop ((rows.length + 1 - 256) * 19) := by
    have := flat_drop hR2 (rows.length + 1 - 256)
    simp only [List.flatten_append, List.flatten_cons, List.flatten_nil, List.append_nil] at this
    rw [this]; simp [last]
  rw [e2]
  exact hs2

theorem put_spec (b : Nat) (M A : Mem) (rows : List (List Value)) (x : List Value) (hM : NetM b rows M) (hR : Rows rows) (hx : x.length = 19) (hx1 : ∀ u ∈ x, u.oneCell' = true) (h256 : rows.length ≤ 256) :
    FnX Try.prog 7 [.pointer (some ⟨b, 0, none⟩), .agg x.toArray] M A fun v M J => J = [] ∧ v = .tuple #[] ∧ NetM b (last (rows ++ [x])) M := by
  obtain ⟨sv, B, e, hp, hsl⟩ := hM
  obtain ⟨p, c, rfl, hc⟩ := hsl.val
  exact FnX.perm hp (put_blk b rows.length c p B A e rows x hR hsl hx hx1 h256)

theorem put_nil (x : List Value) (A : Mem) : FnV Try.prog 7 [.pointer none, .agg x.toArray] A (.tuple #[]) := by
  refine FnX.enter (N := 31) Try.func7 rfl rfl rfl fun w => ?_
  refine XC.keep (kp 0 rfl (kp 1 rfl kn)) ?_
  refine XC.reg ?_
  refine XL.lo rfl (l_box rfl rfl rfl fun b3 => ?_)
  refine XL.fin (kp 0 rfl (kp 3 rfl kn)) ?_
  refine XC.reg ?_
  refine XL.q (q_move rfl) rfl ?_
  refine XL.q (q_ptrNeNil (e := 27) rfl rfl (by kernel_rfl)) rfl ?_
  refine XL.fin (kp 0 rfl (kp 3 rfl (kp 5 rfl kn))) ?_
  refine XC.condF rfl ?_
  refine XC.skip ?_
  exact ⟨_, [], [], res0 rfl, List.nil_sublist _, by simp, rfl, rfl, rfl⟩

theorem double_none (b c : Nat) (p : Option Addr) (e : TypeId) (i : Int) (A : Mem) (hb : (b, blk [.slice p 0 c] e) ∈ A) :
    FnV Try.prog 9 [.pointer (some ⟨b, 0, none⟩), .int .i64 i] A (.bool false) := by
  refine FnX.enter (N := 32) Try.func9 rfl rfl rfl fun w => ?_
  refine XC.keep (kp 0 rfl (kp 1 rfl kn)) ?_
  refine XC.reg ?_
  refine XL.q (q_assign rfl) rfl ?_
  refine XL.fin (kp 0 rfl (kp 1 rfl kn)) ?_
  refine XC.reg ?_
  refine XL.q (q_move rfl) rfl ?_
  refine XL.q (q_move rfl) rfl ?_
  refine XL.cv (aS rfl (aS rfl a0)) (by kernel_rfl) (place_none b c p e i _ (mA hb)) rfl ?_
  refine XL.q (q_assign rfl) rfl ?_
  refine XL.fin (kp 0 rfl (kp 5 rfl kn)) ?_
  refine XC.seq ?_
  refine XC.reg ?_
  refine XL.q (q_move rfl) rfl ?_
  refine XL.q (q_cmp true rfl rfl (by simp [arith])) rfl ?_
  refine XL.q (q_move rfl) rfl ?_
  refine XL.gn rfl rfl rfl rfl ?_
  refine XL.gn rfl rfl rfl rfl ?_
  refine XL.gn rfl rfl rfl rfl ?_
  refine XL.q (q_pickT rfl rfl) rfl ?_
  refine XL.fin (kp 0 rfl (kp 5 rfl (kp 15 rfl kn))) ?_
  refine XC.condT rfl ?_
  refine XC.reg ?_
  refine XL.q (q_assign rfl) rfl ?_
  refine XL.fin (kp 4 rfl kn) ?_
  refine XC.ret ?_
  refine tr ?_
  exact ⟨_, [], [], res1 rfl rfl, List.nil_sublist _, by simp, rfl, rfl, rfl⟩

theorem double_nil (i : Int) (A : Mem) : FnV Try.prog 9 [.pointer none, .int .i64 i] A (.bool false) := by
  refine FnX.enter (N := 32) Try.func9 rfl rfl rfl fun w => ?_
  refine XC.keep (kp 0 rfl (kp 1 rfl kn)) ?_
  refine XC.reg ?_
  refine XL.q (q_assign rfl) rfl ?_
  refine XL.fin (kp 0 rfl (kp 1 rfl kn)) ?_
  refine XC.reg ?_
  refine XL.q (q_move rfl) rfl ?_
  refine XL.q (q_move rfl) rfl ?_
  refine XL.cv (aS rfl (aS rfl a0)) (by kernel_rfl) (place_nil i _) rfl ?_
  refine XL.q (q_assign rfl) rfl ?_
  refine XL.fin (kp 0 rfl (kp 5 rfl kn)) ?_
  refine XC.seq ?_
  refine XC.reg ?_
  refine XL.q (q_move rfl) rfl ?_
  refine XL.q (q_cmp true rfl rfl (by simp [arith])) rfl ?_
  refine XL.q (q_move rfl) rfl ?_
  refine XL.gn rfl rfl rfl rfl ?_
  refine XL.gn rfl rfl rfl rfl ?_
  refine XL.gn rfl rfl rfl rfl ?_
  refine XL.q (q_pickT rfl rfl) rfl ?_
  refine XL.fin (kp 0 rfl (kp 5 rfl (kp 15 rfl kn))) ?_
  refine XC.condT rfl ?_
  refine XC.reg ?_
  refine XL.q (q_assign rfl) rfl ?_
  refine XL.fin (kp 4 rfl kn) ?_
  refine XC.ret ?_
  refine tr ?_
  exact ⟨_, [], [], res1 rfl rfl, List.nil_sublist _, by simp, rfl, rfl, rfl⟩

theorem double_full (b n c : Nat) (p : Option Addr) (e : TypeId) (i : Int) (A : Mem) (hb : (b, blk [.slice p n c] e) ∈ A) (hn : 256 ≤ n) (hn2 : n ≤ 1000) :
    FnV Try.prog 9 [.pointer (some ⟨b, 0, none⟩), .int .i64 i] A (.bool false) := by
  refine FnX.enter (N := 32) Try.func9 rfl rfl rfl fun w => ?_
  refine XC.keep (kp 0 rfl (kp 1 rfl kn)) ?_
  refine XC.reg ?_
  refine XL.q (q_assign rfl) rfl ?_
  refine XL.fin (kp 0 rfl (kp 1 rfl kn)) ?_
  refine XC.reg ?_
  refine XL.q (q_move rfl) rfl ?_
  refine XL.q (q_move rfl) rfl ?_
  refine XL.cv (aS rfl (aS rfl a0)) (by kernel_rfl) (place_spec b n c p e i _ (mA hb) (by omega) hn2) rfl ?_
  refine XL.q (q_assign rfl) rfl ?_
  refine XL.fin (kp 0 rfl (kp 5 rfl kn)) ?_
  refine XC.seq ?_
  refine XC.reg ?_
  refine XL.q (q_move rfl) rfl ?_
  refine XL.q (q_cmp false rfl rfl (by simp [arith])) rfl ?_
  refine XL.q (q_move rfl) rfl ?_
  refine XL.gy rfl rfl (OpQ.opL (q_move rfl) rfl ?_)
  refine XL.gy rfl rfl (l_callV (aS rfl a0) (by kernel_rfl) (len_spec b n c p e _ (mA hb)) rfl ?_)
  refine XL.gy rfl rfl (OpQ.opL (q_cmp true rfl rfl (by simp [arith]; omega)) rfl ?_)
  refine XL.q (q_pickF rfl rfl) rfl ?_
  refine XL.fin (kp 0 rfl (kp 5 rfl (kp 15 rfl kn))) ?_
  refine XC.condT rfl ?_
  refine XC.reg ?_
  refine XL.q (q_assign rfl) rfl ?_
  refine XL.fin (kp 4 rfl kn) ?_
  refine XC.ret ?_
  refine tr ?_
  exact ⟨_, [], [], res1 rfl rfl, List.nil_sublist _, by simp, rfl, rfl, rfl⟩

theorem double_blk (b g o cap k : Nat) (cs : List Value) (e e' : TypeId) (i : Int) (A : Mem) (rows : List (List Value)) (row : List Value) (hR : Rows rows) (hn : rows.length ≤ cap) (hcap : cap ≤ maxLen) (hfit : o + cap * 19 ≤ cs.length)
    (hx : ∀ j u, rows.flatten[j]? = some u → cs[o + j]? = some u) (h256 : rows.length < 256) (hk : plc i rows.length = k) (hrow : rows[k]? = some row) :
    FnX Try.prog 9 [.pointer (some ⟨b, 0, none⟩), .int .i64 i] [(b, blk [.slice (some ⟨g, o, none⟩) rows.length cap] e), (g, blk cs e')] A
      fun v M J => J = [] ∧ v = .bool true ∧ NetM b (rows ++ [row]) M := by
  obtain ⟨hlt, hre⟩ := List.getElem?_eq_some_iff.1 hrow
  have hpos : 0 < rows.length := by omega
  have hrl : row.length = 19 := (hR row (List.mem_of_getElem? hrow)).1
  have hr1 : ∀ u ∈ row, u.oneCell' = true := (hR row (List.mem_of_getElem? hrow)).2
  have hrv : ∀ j v, row[j]? = some v → cs[o + k * 19 + j]? = some v := fun j v hj => by
    have hj19 : j < 19 := by have := (List.getElem?_eq_some_iff.1 hj).1; omega
    rw [Nat.add_assoc]
    exact hx _ v (by rw [flat_get hR.len hrow j hj19]; exact hj)
  refine FnX.enter (N := 32) Try.func9 rfl rfl rfl fun w => ?_
  refine XC.keep (kp 0 rfl (kp 1 rfl kn)) ?_
  refine XC.reg ?_
  refine XL.q (q_assign rfl) rfl ?_
  refine XL.fin (kp 0 rfl (kp 1 rfl kn)) ?_
  refine XC.reg ?_
  refine XL.q (q_move rfl) rfl ?_
  refine XL.q (q_move rfl) rfl ?_
  refine XL.cv (aS rfl (aS rfl a0)) (by kernel_rfl) (place_spec b _ cap _ e i _ m0 hpos (by omega)) rfl ?_
  refine XL.q (q_assign rfl) rfl ?_
  refine XL.fin (kp 0 rfl (kp 5 rfl kn)) ?_
  refine XC.seq ?_
  refine XC.reg ?_
  refine XL.q (q_move rfl) rfl ?_
  refine XL.q (q_cmp false rfl rfl (by simp [arith])) rfl ?_
  refine XL.q (q_move rfl) rfl ?_
  refine XL.gy rfl rfl (OpQ.opL (q_move rfl) rfl ?_)
  refine XL.gy rfl rfl (l_callV (aS rfl a0) (by kernel_rfl) (len_spec b _ cap _ e _ m0) rfl ?_)
  refine XL.gy rfl rfl (OpQ.opL (q_cmp false rfl rfl (by simp [arith]; omega)) rfl ?_)
  refine XL.q (q_pickF rfl rfl) rfl ?_
  refine XL.fin (kp 0 rfl (kp 5 rfl (kp 15 rfl kn))) ?_
  refine XC.condF rfl ?_
  refine XC.skip ?_
  refine nx (kp 0 rfl (kp 5 rfl kn)) ?_
  refine XC.draw (_) [0, 1, 2, 3, 4, 5, 6, 7, 8, 9, 10, 11, 12, 14, 15] [(0, 0), (1, 0), (2, 0), (3, 0), (4, 1), (5, 0), (6, 0), (7, 0), (8, 1), (9, 0), (10, 0), (11, 1), (12, 2), (13, 2), (14, 0), (15, 0), (16, 2)] (by kernel_rfl) (by kernel_rfl) (fun _ h => h) fun hs => ?_
  refine XP.q hs rfl (q_move rfl) rfl ?_
  refine XP.q hs rfl (q_move rfl) rfl ?_
  refine XP.q hs rfl (q_nil rfl) rfl ?_
  refine XP.q hs rfl (q_fieldAddrN 0 (off := 0) rfl (by kernel_rfl) rfl) rfl ?_
  refine XP.r hs rfl (q_load rfl (by kernel_rfl) At.mem (by rfl)) rfl ?_
  refine XP.q hs rfl (q_move rfl) rfl ?_
  refine XP.q hs rfl (q_nil rfl) rfl ?_
  refine XP.q hs rfl (q_fieldAddrN 0 (off := 0) rfl (by kernel_rfl) rfl) rfl ?_
  refine XP.r hs rfl (q_load rfl (by kernel_rfl) At.mem (by rfl)) rfl ?_
  refine XP.q hs rfl (q_move rfl) rfl ?_
  refine XP.q hs rfl (q_idxS (e := 43) (sz := 19) (i := k) rfl rfl (by kernel_rfl) (by kernel_rfl) (by rw [hk]) hlt) rfl ?_
  refine XP.r hs rfl (q_loadR (n := 19) (cs := cs) (vs := row) rfl (by kernel_rfl) At.mem hrl hrv) rfl ?_
  refine XP.lo rfl rfl (l_buildSlice (e := 43) (sz := 19) (z := [.int .u8 0, .int .i64 0, .int .i64 0, .int .u32 0, .int .u32 0, .int .i64 0, .slice none 0 0, .int .u64 0, .slice none 0 0, .int .u8 0, .int .i64 0, .int .i64 0, .int .u32 0, .int .u32 0, .int .i64 0, .slice none 0 0, .slice none 0 0, .slice none 0 0, .bool false]) (by kernel_rfl) (eS rfl e0) (.cons rfl rfl hrl (SetR.all hrl) .nil) rfl fun b28 => ⟨(fun q hq => List.mem_cons_of_mem _ hq), ?_⟩)
  refine XP.tl rfl rfl rfl (l_append (e := 43) (sz := 19) (by_ := 216) (m := 1) (n := rows.length) (xs := rows.flatten) (B := [(g, blk cs e')]) (M0 := [(b28, blk row 43), (b, blk [.slice (some ⟨g, o, none⟩) rows.length cap] e)]) rfl rfl (by kernel_rfl) rfl (.inr ⟨g, o, cap, cs, e', rfl, rfl, hn, hcap, hfit, flat_len hR.len, hx⟩) (Rd.whole (n := 1) m0 (by omega)) hr1 (List.perm_append_comm (l₁ := [_, _])) (by unfold maxLen; omega) (by omega) rfl fun v' B' hsl' => ?_)
  obtain ⟨p', c', rfl, hc'⟩ := hsl'.val
  refine XP.q hs rfl (q_nil rfl) rfl ?_
  refine XP.q hs rfl (q_fieldAddrN 0 (off := 0) rfl (by kernel_rfl) rfl) rfl ?_
  refine XP.tl rfl rfl rfl (l_store rfl rfl rfl (by kernel_rfl) SetC.set UpC.upd ?_)
  refine XP.fin kn ?_
  refine XC.reg ?_
  refine XL.q (q_assign rfl) rfl ?_
  refine XL.fin (kp 4 rfl kn) ?_
  refine XC.ret ?_
  refine ⟨_, B' ++ [(b, blk [_] e)], [], res1 rfl rfl, List.Sublist.append (List.Sublist.refl _) (.cons _ (List.Sublist.refl _)), by simp, rfl, rfl, _, B', e, List.perm_append_comm, ?_⟩
  have e2 : (rows ++ [row]).flatten = rows.flatten ++ row := by simp
  rw [List.length_append, e2]
  exact hsl' 

theorem double_spec (b : Nat) (i : Int) (M A : Mem) (rows : List (List Value)) (row : List Value) (hM : NetM b rows M) (hR : Rows rows) (h256 : rows.length < 256) (hrow : rows[plc i rows.length]? = some row) :
    FnX Try.prog 9 [.pointer (some ⟨b, 0, none⟩), .int .i64 i] M A fun v M J => J = [] ∧ v = .bool true ∧ NetM b (rows ++ [row]) M := by
  obtain ⟨sv, B, e, hp, hsl⟩ := hM
  have hlt := (List.getElem?_eq_some_iff.1 hrow).1
  rcases hsl with ⟨p, rfl, hn, _, rfl⟩ | ⟨g, o, cap, cs, e', rfl, rfl, h1, h2, h3, h4, h5⟩
  · omega
  · exact FnX.perm hp (double_blk b g o cap _ cs e e' i A rows row hR h1 h2 h3 h5 h256 rfl hrow)
/-- What a net's block reads, for those that only read it. -/
theorem NetM.blk {b : Nat} {rows : List (List Value)} {M : Mem} (h : NetM b rows M) : ∃ p c e, (b, blk [.slice p rows.length c] e) ∈ M := by
  obtain ⟨sv, B, e, hp, hsl⟩ := h
  obtain ⟨p, c, rfl, hc⟩ := hsl.val
  exact ⟨p, c, e, hp.mem_iff.2 (by simp)⟩

theorem drop_none (b c : Nat) (p : Option Addr) (e : TypeId) (i : Int) (A : Mem) (hb : (b, blk [.slice p 0 c] e) ∈ A) :
    FnV Try.prog 11 [.pointer (some ⟨b, 0, none⟩), .int .i64 i] A (.bool false) := by
  refine FnX.enter (N := 14) Try.func11 rfl rfl rfl fun w => ?_
  refine XC.keep (kp 0 rfl (kp 1 rfl kn)) ?_
  refine XC.reg ?_
  refine XL.q (q_assign rfl) rfl ?_
  refine XL.fin (kp 0 rfl (kp 1 rfl kn)) ?_
  refine XC.reg ?_
  refine XL.q (q_move rfl) rfl ?_
  refine XL.q (q_move rfl) rfl ?_
  refine XL.cv (aS rfl (aS rfl a0)) (by kernel_rfl) (take_none b c p e i _ (mA hb)) rfl ?_
  refine XL.q (q_move rfl) rfl ?_
  refine XL.q (q_extract rfl rfl) rfl ?_
  refine XL.q (q_extract rfl rfl) rfl ?_
  refine XL.lo rfl (l_alloc (cs := [.int .u8 0, .int .i64 0, .int .i64 0, .int .u32 0, .int .u32 0, .int .i64 0, .slice none 0 0, .int .u64 0, .slice none 0 0, .int .u8 0, .int .i64 0, .int .i64 0, .int .u32 0, .int .u32 0, .int .i64 0, .slice none 0 0, .slice none 0 0, .slice none 0 0, .bool false]) (by kernel_rfl) rfl fun b5 => ?_)
  refine XL.stW rfl rfl (by kernel_rfl) (by rfl) (by simp [Value.oneCell']) ?_
  refine XL.q (q_assign rfl) rfl ?_
  refine XL.fin (kp 6 rfl kn) ?_
  refine XC.reg ?_
  refine XL.q (q_move rfl) rfl ?_
  refine XL.q (q_assign rfl) rfl ?_
  refine XL.fin (kp 4 rfl kn) ?_
  refine XC.ret ?_
  exact ⟨_, [], [], res1 rfl rfl, List.nil_sublist _, by simp, rfl, rfl, rfl⟩

theorem drop_nil (i : Int) (A : Mem) : FnV Try.prog 11 [.pointer none, .int .i64 i] A (.bool false) := by
  refine FnX.enter (N := 14) Try.func11 rfl rfl rfl fun w => ?_
  refine XC.keep (kp 0 rfl (kp 1 rfl kn)) ?_
  refine XC.reg ?_
  refine XL.q (q_assign rfl) rfl ?_
  refine XL.fin (kp 0 rfl (kp 1 rfl kn)) ?_
  refine XC.reg ?_
  refine XL.q (q_move rfl) rfl ?_
  refine XL.q (q_move rfl) rfl ?_
  refine XL.cv (aS rfl (aS rfl a0)) (by kernel_rfl) (take_nil i _) rfl ?_
  refine XL.q (q_move rfl) rfl ?_
  refine XL.q (q_extract rfl rfl) rfl ?_
  refine XL.q (q_extract rfl rfl) rfl ?_
  refine XL.lo rfl (l_alloc (cs := [.int .u8 0, .int .i64 0, .int .i64 0, .int .u32 0, .int .u32 0, .int .i64 0, .slice none 0 0, .int .u64 0, .slice none 0 0, .int .u8 0, .int .i64 0, .int .i64 0, .int .u32 0, .int .u32 0, .int .i64 0, .slice none 0 0, .slice none 0 0, .slice none 0 0, .bool false]) (by kernel_rfl) rfl fun b5 => ?_)
  refine XL.stW rfl rfl (by kernel_rfl) (by rfl) (by simp [Value.oneCell']) ?_
  refine XL.q (q_assign rfl) rfl ?_
  refine XL.fin (kp 6 rfl kn) ?_
  refine XC.reg ?_
  refine XL.q (q_move rfl) rfl ?_
  refine XL.q (q_assign rfl) rfl ?_
  refine XL.fin (kp 4 rfl kn) ?_
  refine XC.ret ?_
  exact ⟨_, [], [], res1 rfl rfl, List.nil_sublist _, by simp, rfl, rfl, rfl⟩

theorem drop_spec (b : Nat) (i : Int) (M A : Mem) (rows : List (List Value)) (row : List Value) (hM : NetM b rows M) (hR : Rows rows) (h256 : rows.length ≤ 256) (hrow : rows[plc i rows.length]? = some row) :
    FnX Try.prog 11 [.pointer (some ⟨b, 0, none⟩), .int .i64 i] M A fun v M J => J = [] ∧ v = .bool true ∧ NetM b (rows.eraseIdx (plc i rows.length)) M := by
  have hrl : row.length = 19 := (hR row (List.mem_of_getElem? hrow)).1
  have hr1 : ∀ u ∈ row, u.oneCell' = true := (hR row (List.mem_of_getElem? hrow)).2
  refine FnX.enter (N := 14) Try.func11 rfl rfl rfl fun w => ?_
  refine XC.keep (kp 0 rfl (kp 1 rfl kn)) ?_
  refine XC.reg ?_
  refine XL.q (q_assign rfl) rfl ?_
  refine XL.fin (kp 0 rfl (kp 1 rfl kn)) ?_
  refine XC.reg ?_
  refine XL.q (q_move rfl) rfl ?_
  refine XL.q (q_move rfl) rfl ?_
  refine XL.lo rfl (l_call (R := []) (aS rfl (aS rfl a0)) (by kernel_rfl) (by rw [List.append_nil]) (take_spec b i M _ rows row hM hR h256 hrow) rfl ?_)
  rintro v M' J' ⟨rfl, rfl, hM'⟩
  refine XL.q (q_move rfl) rfl ?_
  refine XL.q (q_extract rfl rfl) rfl ?_
  refine XL.q (q_extract rfl rfl) rfl ?_
  refine XL.lo rfl (l_alloc (cs := [.int .u8 0, .int .i64 0, .int .i64 0, .int .u32 0, .int .u32 0, .int .i64 0, .slice none 0 0, .int .u64 0, .slice none 0 0, .int .u8 0, .int .i64 0, .int .i64 0, .int .u32 0, .int .u32 0, .int .i64 0, .slice none 0 0, .slice none 0 0, .slice none 0 0, .bool false]) (by kernel_rfl) rfl fun b5 => ?_)
  refine XL.stW rfl rfl (by rw [hrl]; kernel_rfl) (by rw [hrl]; rfl) hr1 ?_
  refine XL.q (q_assign rfl) rfl ?_
  refine XL.fin (kp 6 rfl kn) ?_
  refine XC.reg ?_
  refine XL.q (q_move rfl) rfl ?_
  refine XL.q (q_assign rfl) rfl ?_
  refine XL.fin (kp 4 rfl kn) ?_
  refine XC.ret ?_
  exact ⟨_, M', [], res1 rfl rfl, by simp, by simp, rfl, rfl, hM'⟩

theorem pk_len (n : Int) : (pk n).length = 19 := rfl
theorem pk_one (n : Int) : ∀ u ∈ pk n, u.oneCell' = true := by simp [pk, Value.oneCell']
theorem pk_rows (l : List Int) : Rows (l.map pk) := fun r hr => by
  obtain ⟨n, _, rfl⟩ := List.mem_map.1 hr
  exact ⟨pk_len n, pk_one n⟩
theorem net_new (b : Nat) (e : TypeId) : NetM b [] [(b, blk [.slice none 0 0] e)] := ⟨_, [], e, .refl _, Sl.nil⟩

theorem awake_spec (A : Mem) : FnV Try.prog 6 [] A (.bool true) := by
  refine FnX.enter (N := 29) Try.func6 rfl rfl rfl fun w => ?_
  refine XC.keep kn ?_
  refine XC.reg ?_
  refine XL.q (q_assign rfl) rfl ?_
  refine XL.fin kn ?_
  refine XC.reg ?_
  refine XL.q (q_build (place := fun x => #[(0, 1)][x]?) (z := [.slice none 0 0]) (fun _ => by kernel_rfl) e0 bd0) rfl ?_
  refine XL.lo rfl (l_box rfl rfl rfl fun b5 => ?_)
  refine XL.q (q_assign rfl) rfl ?_
  refine XL.fin (kp 1 rfl kn) ?_
  refine XC.reg ?_
  refine XL.q (q_move rfl) rfl ?_
  refine XL.cv (aS rfl a0) (by kernel_rfl) (packet_spec 1 _) rfl ?_
  refine XL.lo rfl (l_call (R := []) (aS rfl (aS rfl a0)) (by kernel_rfl) (by rw [List.append_nil]) (put_spec b5 _ _ (List.map pk []) (pk 1) (net_new b5 _) (pk_rows []) (pk_len _) (pk_one _) (by decide)) rfl ?_)
  rintro _ M1 _ ⟨rfl, rfl, h1⟩
  rw [List.append_nil]
  refine XL.fin (kp 1 rfl kn) ?_
  refine XC.reg ?_
  refine XL.q (q_move rfl) rfl ?_
  refine XL.cv (aS rfl a0) (by kernel_rfl) (packet_spec 2 _) rfl ?_
  refine XL.lo rfl (l_call (R := []) (aS rfl (aS rfl a0)) (by kernel_rfl) (by rw [List.append_nil]) (put_spec b5 _ _ (List.map pk [1]) (pk 2) h1 (pk_rows [1]) (pk_len _) (pk_one _) (by decide)) rfl ?_)
  rintro _ M2 _ ⟨rfl, rfl, h2⟩
  rw [List.append_nil]
  refine XL.fin (kp 1 rfl kn) ?_
  refine XC.reg ?_
  refine XL.q (q_move rfl) rfl ?_
  refine XL.lo rfl (l_call (R := []) (aS rfl (aS rfl a0)) (by kernel_rfl) (by rw [List.append_nil]) (take_spec b5 3 _ _ (List.map pk [1, 2]) (pk 2) h2 (pk_rows [1, 2]) (by decide) rfl) rfl ?_)
  rintro _ M3 _ ⟨rfl, rfl, h3⟩
  rw [List.append_nil]
  obtain ⟨p3, c3, e3, hb3⟩ := h3.blk
  refine XL.q (q_move rfl) rfl ?_
  refine XL.q (q_extract rfl rfl) rfl ?_
  refine XL.q (q_extract rfl rfl) rfl ?_
  refine XL.lo rfl (l_alloc (cs := [.int .u8 0, .int .i64 0, .int .i64 0, .int .u32 0, .int .u32 0, .int .i64 0, .slice none 0 0, .int .u64 0, .slice none 0 0, .int .u8 0, .int .i64 0, .int .i64 0, .int .u32 0, .int .u32 0, .int .i64 0, .slice none 0 0, .slice none 0 0, .slice none 0 0, .bool false]) (by kernel_rfl) rfl fun b2 => ?_)
  refine XL.stW rfl rfl (by kernel_rfl) (by rfl) (pk_one _) ?_
  refine XL.q (q_assign rfl) rfl ?_
  refine XL.fin (kp 1 rfl (kp 2 rfl (kp 3 rfl kn))) ?_
  refine XC.reg ?_
  refine XL.q (q_move rfl) rfl ?_
  refine XL.q (q_move rfl) rfl ?_
  refine XL.gy rfl rfl (OpQ.opL (q_fieldAddrN 0 (off := 0) rfl (by kernel_rfl) rfl) rfl ?_)
  refine XL.gy rfl rfl (OpQ.opL (q_fieldAddrN 3 (off := 3) rfl (by kernel_rfl) rfl) rfl ?_)
  refine XL.gy rfl rfl (OpQ.opL (q_load rfl (by kernel_rfl) At.mem (by rfl)) rfl ?_)
  refine XL.gy rfl rfl (OpQ.opL (q_cmp true rfl rfl rfl) rfl ?_)
  refine XL.q (q_pickT rfl rfl) rfl ?_
  refine XL.q (q_move rfl) rfl ?_
  refine XL.gy rfl rfl (OpQ.opL (q_move rfl) rfl ?_)
  refine XL.gy rfl rfl (l_callV (aS rfl a0) (by kernel_rfl) (len_spec b5 1 c3 p3 e3 _ (by simp [show (b5, blk [.slice p3 1 c3] e3) ∈ M3 from hb3])) rfl ?_)
  refine XL.gy rfl rfl (OpQ.opL (q_cmp true rfl rfl rfl) rfl ?_)
  refine XL.q (q_pickT rfl rfl) rfl ?_
  refine XL.q (q_assign rfl) rfl ?_
  refine XL.fin (kp 0 rfl kn) ?_
  refine XC.ret ?_
  exact ⟨_, [], [], res1 rfl rfl, List.nil_sublist _, by simp, rfl, rfl, rfl⟩

theorem netNil_spec (i : Int) (A : Mem) : FnV Try.prog 5 [.int .i64 i] A (.bool true) := by
  refine FnX.enter (N := 50) Try.func5 rfl rfl rfl fun w => ?_
  refine XC.keep (kp 0 rfl kn) ?_
  refine XC.reg ?_
  refine XL.q (q_assign rfl) rfl ?_
  refine XL.fin (kp 0 rfl kn) ?_
  refine XC.reg ?_
  refine XL.q (q_assign rfl) rfl ?_
  refine XL.fin (kp 0 rfl (kp 3 rfl kn)) ?_
  refine XC.reg ?_
  refine XL.q (q_move rfl) rfl ?_
  refine XL.cv (aS rfl a0) (by kernel_rfl) (packet_spec 1 _) rfl ?_
  refine XL.cv (aS rfl (aS rfl a0)) (by kernel_rfl) (put_nil (pk 1) _) rfl ?_
  refine XL.fin (kp 0 rfl (kp 3 rfl kn)) ?_
  refine XC.reg ?_
  refine XL.q (q_move rfl) rfl ?_
  refine XL.q (q_move rfl) rfl ?_
  refine XL.cv (aS rfl (aS rfl a0)) (by kernel_rfl) (take_nil i _) rfl ?_
  refine XL.q (q_move rfl) rfl ?_
  refine XL.q (q_extract rfl rfl) rfl ?_
  refine XL.q (q_extract rfl rfl) rfl ?_
  refine XL.lo rfl (l_alloc (cs := [.int .u8 0, .int .i64 0, .int .i64 0, .int .u32 0, .int .u32 0, .int .i64 0, .slice none 0 0, .int .u64 0, .slice none 0 0, .int .u8 0, .int .i64 0, .int .i64 0, .int .u32 0, .int .u32 0, .int .i64 0, .slice none 0 0, .slice none 0 0, .slice none 0 0, .bool false]) (by kernel_rfl) rfl fun b4 => ?_)
  refine XL.stW rfl rfl (by kernel_rfl) (by rfl) (by simp [Value.oneCell']) ?_
  refine XL.q (q_assign rfl) rfl ?_
  refine XL.fin (kp 0 rfl (kp 3 rfl (kp 5 rfl kn))) ?_
  refine XC.reg ?_
  refine XL.q (q_build (place := fun x => #[(0, 1)][x]?) (z := [.slice none 0 0]) (fun _ => by kernel_rfl) e0 bd0) rfl ?_
  refine XL.lo rfl (l_box rfl rfl rfl fun b19 => ?_)
  refine XL.q (q_move rfl) rfl ?_
  refine XL.cv (aS rfl (aS rfl a0)) (by kernel_rfl) (take_none b19 0 none _ i _ m0) rfl ?_
  refine XL.q (q_move rfl) rfl ?_
  refine XL.q (q_extract rfl rfl) rfl ?_
  refine XL.q (q_extract rfl rfl) rfl ?_
  refine XL.lo rfl (l_alloc (cs := [.int .u8 0, .int .i64 0, .int .i64 0, .int .u32 0, .int .u32 0, .int .i64 0, .slice none 0 0, .int .u64 0, .slice none 0 0, .int .u8 0, .int .i64 0, .int .i64 0, .int .u32 0, .int .u32 0, .int .i64 0, .slice none 0 0, .slice none 0 0, .slice none 0 0, .bool false]) (by kernel_rfl) rfl fun b6 => ?_)
  refine XL.stW rfl rfl (by kernel_rfl) (by rfl) (by simp [Value.oneCell']) ?_
  refine XL.q (q_assign rfl) rfl ?_
  refine XL.fin (kp 0 rfl (kp 3 rfl (kp 5 rfl (kp 7 rfl kn)))) ?_
  refine XC.reg ?_
  refine XL.cv a0 (by kernel_rfl) (awake_spec _) rfl ?_
  refine XL.q (q_move rfl) rfl ?_
  refine XL.gy rfl rfl (OpQ.opL (q_move rfl) rfl ?_)
  refine XL.gy rfl rfl (OpQ.opL (q_not rfl) rfl ?_)
  refine XL.q (q_pickT rfl rfl) rfl ?_
  refine XL.q (q_move rfl) rfl ?_
  refine XL.gy rfl rfl (OpQ.opL (q_move rfl) rfl ?_)
  refine XL.gy rfl rfl (OpQ.opL (q_not rfl) rfl ?_)
  refine XL.q (q_pickT rfl rfl) rfl ?_
  refine XL.q (q_move rfl) rfl ?_
  refine XL.gy rfl rfl (OpQ.opL (q_move rfl) rfl ?_)
  refine XL.gy rfl rfl (OpQ.opL (q_move rfl) rfl ?_)
  refine XL.gy rfl rfl (l_callV (aS rfl (aS rfl a0)) (by kernel_rfl) (drop_nil i _) rfl ?_)
  refine XL.gy rfl rfl (OpQ.opL (q_not rfl) rfl ?_)
  refine XL.q (q_pickT rfl rfl) rfl ?_
  refine XL.q (q_move rfl) rfl ?_
  refine XL.gy rfl rfl (OpQ.opL (q_move rfl) rfl ?_)
  refine XL.gy rfl rfl (OpQ.opL (q_move rfl) rfl ?_)
  refine XL.gy rfl rfl (l_callV (aS rfl (aS rfl a0)) (by kernel_rfl) (double_nil i _) rfl ?_)
  refine XL.gy rfl rfl (OpQ.opL (q_not rfl) rfl ?_)
  refine XL.q (q_pickT rfl rfl) rfl ?_
  refine XL.q (q_move rfl) rfl ?_
  refine XL.gy rfl rfl (OpQ.opL (q_move rfl) rfl ?_)
  refine XL.gy rfl rfl (l_callV (aS rfl a0) (by kernel_rfl) (len_nil _) rfl ?_)
  refine XL.gy rfl rfl (OpQ.opL (q_bin rfl rfl rfl) rfl ?_)
  refine XL.q (q_pickT rfl rfl) rfl ?_
  refine XL.q (q_assign rfl) rfl ?_
  refine XL.fin (kp 2 rfl kn) ?_
  refine XC.ret ?_
  exact ⟨_, [], [], res1 rfl rfl, List.nil_sublist _, by simp, rfl, rfl, rfl⟩

end Go.Proofs.Ytdjjjfbcdpdhcaa
