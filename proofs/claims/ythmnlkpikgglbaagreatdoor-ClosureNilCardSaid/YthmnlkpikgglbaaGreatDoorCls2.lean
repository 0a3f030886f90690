/- The walks of package closure: what is known of one term. -/
import Derived.Test.YthmnlkpikgglbaaGreatDoorCls1
import Derived.Test.YthmnlkpikgglbaaGreatDoorBool
set_option linter.unusedVariables false
set_option linter.unusedSimpArgs false
namespace Go.Proofs.YthmnlkpikgglbaaGreatDoor
open Go.Px
/-- What an adversary knows: its block, and which terms are known; owned, and read. -/
structure Knw (kb bt : Nat) (h : List Bool) (M : Mem) : Prop where
  ex : ∃ (v : Value) (B : Mem), M = (kb, blk [.pointer (some ⟨bt, 0, none⟩), v] 79) :: B ∧ Sl 1 v h.length (bools h) B
structure KnR (kb bt : Nat) (h : List Bool) (A : Mem) : Prop where
  ex : ∃ (v : Value), (kb, blk [.pointer (some ⟨bt, 0, none⟩), v] 79) ∈ A ∧ Rd A 1 v h.length (bools h)
structure TbR (bt bm : Nat) (ts : List Tm) (A : Mem) : Prop where
  ex : ∃ MT, Tab bt bm ts MT ∧ ∀ x, x ∈ MT → x ∈ A
theorem KnR.mono {kb bt : Nat} {h : List Bool} {A A' : Mem} (hk : KnR kb bt h A) (hs : ∀ x, x ∈ A → x ∈ A') : KnR kb bt h A' := by
  obtain ⟨v, h1, h2⟩ := hk.ex
  exact ⟨v, hs _ h1, h2.mono hs⟩
theorem Knw.rd {kb bt : Nat} {h : List Bool} {M A : Mem} (hk : Knw kb bt h M) (hs : ∀ x, x ∈ M → x ∈ A) : KnR kb bt h A := by
  obtain ⟨v, B, rfl, h2⟩ := hk.ex
  exact ⟨v, hs _ (by simp), h2.rd fun x hx => hs x (by simp [hx])⟩
theorem TbR.mono {bt bm : Nat} {ts : List Tm} {A A' : Mem} (hk : TbR bt bm ts A) (hs : ∀ x, x ∈ A → x ∈ A') : TbR bt bm ts A' := by
  obtain ⟨v, h1, h2⟩ := hk.ex
  exact ⟨v, h1, fun x hx => hs x (h2 x hx)⟩
theorem Tab.tbr {bt bm : Nat} {ts : List Tm} {MT A : Mem} (hT : Tab bt bm ts MT) (hs : ∀ x, x ∈ MT → x ∈ A) : TbR bt bm ts A := ⟨_, hT, hs⟩
theorem isK_nat {h : List Bool} {n : Nat} : isK h ((n : Nat) : Int) = h.getD n false := by
  unfold isK kat
  rw [decide_eq_true (Int.natCast_nonneg n), Bool.true_and]; rfl
theorem isK_neg {h : List Bool} {i : Int} (hi : ¬ 0 ≤ i) : isK h i = false := by
  unfold isK
  rw [decide_eq_false hi]; rfl
theorem isK_far {h : List Bool} {n : Nat} (hn : ¬ n < h.length) : isK h ((n : Nat) : Int) = false := by
  rw [isK_nat, List.getD_eq_getElem?_getD, List.getElem?_eq_none (by omega)]; rfl
theorem madeT_mk {ts : List Tm} {h : List Bool} {t : Tm} (hk : mkK t.kind = true) : madeT ts h t = t.of.all (isK h) := if_pos hk
theorem madeT_4a {ts : List Tm} {h : List Bool} {t : Tm} (hk : t.kind = 4) (hn : t.n = 0) (hl : t.of.length = 2) : madeT ts h t = ((isK h (t.of.getD 0 0) && pubF ts h (t.of.getD 1 0)) || (isK h (t.of.getD 1 0) && pubF ts h (t.of.getD 0 0))) := by
  unfold madeT
  rw [if_neg (by rw [hk]; decide), if_pos hk, if_pos ⟨hn, hl⟩]
theorem madeT_4b {ts : List Tm} {h : List Bool} {t : Tm} (hk : t.kind = 4) (hn : ¬ (t.n = 0 ∧ t.of.length = 2)) : madeT ts h t = t.of.all (isK h) := by
  unfold madeT
  rw [if_neg (by rw [hk]; decide), if_pos hk, if_neg hn]
theorem madeT_no {ts : List Tm} {h : List Bool} {t : Tm} (hk : mkK t.kind = false) (h4 : ¬ t.kind = 4) : madeT ts h t = false := by
  unfold madeT
  rw [if_neg (by rw [hk]; decide), if_neg h4]
theorem all_any {h : List Bool} {l : List Int} : (!(l.any fun x => !isK h x)) = l.all (isK h) := by
  rw [List.all_eq_not_any_not]

set_option maxRecDepth 100000 in
theorem is_spec (kb bt : Nat) (h : List Bool) (i : Int) (A : Mem) (hK : KnR kb bt h A) : FnV Tryz.prog 36 [.pointer (some ⟨kb, 0, none⟩), .int .i64 i] A (.bool (isK h i)) := by
  obtain ⟨v, hkb, hrd⟩ := hK.ex
  haveI := hrd.cel
  refine FnX.enter (N := 25) Tryz.func36 rfl rfl rfl fun w => ?_
  refine XC.keep (kp 0 rfl (kp 1 rfl kn)) ?_
  refine XC.reg ?_
  refine XL.q (q_assign rfl) rfl ?_
  refine XL.fin (kp 0 rfl (kp 1 rfl kn)) ?_
  refine XC.reg ?_
  refine XL.q (q_move rfl) rfl ?_
  refine XL.q (q_bin rfl rfl rfl) rfl ?_
  refine XL.q (q_move rfl) rfl ?_
  refine XL.split (t := 7) rfl (fun hb => ?_) (fun hb => ?_)
  ·
    have h0 : 0 ≤ i := by simpa using hb
    obtain ⟨n, rfl⟩ := Int.eq_ofNat_of_zero_le h0
    refine XL.gy rfl rfl (OpQ.opL (q_move rfl) rfl ?_)
    refine XL.gy rfl rfl (OpQ.opL (q_move rfl) rfl ?_)
    refine XL.gy rfl rfl (OpQ.opL (q_nil rfl) rfl ?_)
    refine XL.gy rfl rfl (OpQ.opL (q_fieldAddrN 1 (off := 1) rfl (by kernel_rfl) rfl) rfl ?_)
    refine XL.gy rfl rfl (OpQ.opL (q_load rfl (by kernel_rfl) (by first | exact At.mem | exact mA (by assumption)) (by rfl)) rfl ?_)
    refine XL.gy rfl rfl (OpQ.opL (q_lenV2 (sz := 1) rfl (by kernel_rfl) hrd) rfl ?_)
    refine XL.gy rfl rfl (OpQ.opL (q_bin rfl rfl rfl) rfl ?_)
    refine XL.q (q_pickT rfl rfl) rfl ?_
    refine XL.q (q_move rfl) rfl ?_
    refine XL.split (t := 16) rfl (fun hb => ?_) (fun hb => ?_)
    ·
      have hlt : n < h.length := by simpa using hb
      refine XL.gy rfl rfl (OpQ.opL (q_move rfl) rfl ?_)
      refine XL.gy rfl rfl (OpQ.opL (q_nil rfl) rfl ?_)
      refine XL.gy rfl rfl (OpQ.opL (q_fieldAddrN 1 (off := 1) rfl (by kernel_rfl) rfl) rfl ?_)
      refine XL.gy rfl rfl (OpQ.opL (q_load rfl (by kernel_rfl) (by first | exact At.mem | exact mA (by assumption)) (by rfl)) rfl ?_)
      refine XL.gy rfl rfl (OpQ.opL (q_move rfl) rfl ?_)
      refine XL.gy rfl rfl (OpQ.opL (q_atV2 (sz := 1) rfl rfl (by kernel_rfl) rfl hrd hlt) rfl ?_)
      refine XL.gy rfl rfl (OpQ.opL (q_ldV (j := n) (u := .bool (h.getD n false)) (hrd.mono SubC.sub) rfl (by kernel_rfl) (bools_get hlt)) rfl ?_)
      refine XL.q (q_pickT rfl rfl) rfl ?_
      refine XL.q (q_assign rfl) rfl ?_
      refine XL.fin (kp 4 rfl kn) ?_
      refine XC.ret ?_
      exact ⟨_, [], [], res1 rfl rfl, List.nil_sublist _, by simp, by rw [isK_nat], rfl, rfl⟩
    ·
      have hlt : ¬ n < h.length := by simpa using hb
      refine XL.gn rfl rfl rfl rfl ?_
      refine XL.gn rfl rfl rfl rfl ?_
      refine XL.gn rfl rfl rfl rfl ?_
      refine XL.gn rfl rfl rfl rfl ?_
      refine XL.gn rfl rfl rfl rfl ?_
      refine XL.gn rfl rfl rfl rfl ?_
      refine XL.gn rfl rfl rfl rfl ?_
      refine XL.q (q_pickF rfl rfl) rfl ?_
      refine XL.q (q_assign rfl) rfl ?_
      refine XL.fin (kp 4 rfl kn) ?_
      refine XC.ret ?_
      exact ⟨_, [], [], res1 rfl rfl, List.nil_sublist _, by simp, by rw [isK_far hlt], rfl, rfl⟩
  ·
    have h0 : ¬ 0 ≤ i := by simpa using hb
    refine XL.gn rfl rfl rfl rfl ?_
    refine XL.gn rfl rfl rfl rfl ?_
    refine XL.gn rfl rfl rfl rfl ?_
    refine XL.gn rfl rfl rfl rfl ?_
    refine XL.gn rfl rfl rfl rfl ?_
    refine XL.gn rfl rfl rfl rfl ?_
    refine XL.gn rfl rfl rfl rfl ?_
    refine XL.q (q_pickF rfl rfl) rfl ?_
    refine XL.q (q_move rfl) rfl ?_
    refine XL.gn rfl rfl rfl rfl ?_
    refine XL.gn rfl rfl rfl rfl ?_
    refine XL.gn rfl rfl rfl rfl ?_
    refine XL.gn rfl rfl rfl rfl ?_
    refine XL.gn rfl rfl rfl rfl ?_
    refine XL.gn rfl rfl rfl rfl ?_
    refine XL.gn rfl rfl rfl rfl ?_
    refine XL.q (q_pickF rfl rfl) rfl ?_
    refine XL.q (q_assign rfl) rfl ?_
    refine XL.fin (kp 4 rfl kn) ?_
    refine XC.ret ?_
    exact ⟨_, [], [], res1 rfl rfl, List.nil_sublist _, by simp, by rw [isK_neg h0], rfl, rfl⟩

set_option maxRecDepth 100000 in
theorem lacks_spec (kb bt : Nat) (h : List Bool) (i : Int) (A : Mem) (hK : KnR kb bt h A) : FnV Tryz.prog 59 [.pointer (some ⟨kb, 0, none⟩), .int .i64 i] A (.bool (!isK h i)) := by
  skip
  refine FnX.enter (N := 9) Tryz.func59 rfl rfl rfl fun w => ?_
  refine XC.keep (kp 0 rfl (kp 1 rfl kn)) ?_
  refine XC.reg ?_
  refine XL.q (q_assign rfl) rfl ?_
  refine XL.fin (kp 0 rfl (kp 1 rfl kn)) ?_
  refine XC.reg ?_
  refine XL.q (q_move rfl) rfl ?_
  refine XL.q (q_move rfl) rfl ?_
  refine XL.callV (aS rfl (aS rfl a0)) (by kernel_rfl) (is_spec kb bt h i _ (hK.mono SubC.sub)) rfl ?_
  refine XL.q (q_not rfl) rfl ?_
  refine XL.q (q_assign rfl) rfl ?_
  refine XL.fin (kp 4 rfl kn) ?_
  refine XC.ret ?_
  exact ⟨_, [], [], res1 rfl rfl, List.nil_sublist _, by simp, rfl, rfl, rfl⟩

theorem pos_or {h : List Bool} {o : Option Nat} {b : Bool} : ((o.isSome && isK h ((o.getD 0 : Nat) : Int)) || b) = ((match o with
  | some j => kat h j
  | none => false) || b) := by
  cases o with
  | none => rfl
  | some j =>
    show ((true && isK h ((j : Nat) : Int)) || b) = _
    rw [isK_nat, Bool.true_and]; rfl
theorem pub_val {ts : List Tm} {h : List Bool} {i : Int} {po : Option Nat} (hpo : pos ts (pubT i) = po) : pubF ts h i = ((po.isSome && isK h ((po.getD 0 : Nat) : Int)) || isK h i) := by
  subst hpo
  rw [pos_or]; rfl

set_option maxRecDepth 100000 in
theorem public_k (kb bt bm : Nat) (ts : List Tm) (h : List Bool) (i : Int) (A : Mem) (hK : KnR kb bt h A) (hT0 : TbR bt bm ts A) (hi : i64 i) {e4 : TypeId} {f4 : Nat × Nat} (h4 : (4, Obj.cells (nums .u64 pow10T).toArray e4 f4) ∈ A) : FnV Tryz.prog 60 [.pointer (some ⟨kb, 0, none⟩), .int .i64 i] A (.bool (pubF ts h i)) := by
  obtain ⟨v, hkb, hrd⟩ := hK.ex
  haveI := hrd.cel
  obtain ⟨MT, hT, hsub⟩ := hT0.ex
  refine FnX.enter (N := 29) Tryz.func60 rfl rfl rfl fun w => ?_
  refine XC.keep (kp 0 rfl (kp 1 rfl kn)) ?_
  refine XC.reg ?_
  refine XL.q (q_assign rfl) rfl ?_
  refine XL.fin (kp 0 rfl (kp 1 rfl kn)) ?_
  refine XC.reg ?_
  refine XL.q (q_move rfl) rfl ?_
  refine XL.q (q_nil rfl) rfl ?_
  refine XL.q (q_fieldAddrN 0 (off := 0) rfl (by kernel_rfl) rfl) rfl ?_
  refine XL.q (q_load rfl (by kernel_rfl) (by first | exact At.mem | exact mA (by assumption)) (by rfl)) rfl ?_
  refine XL.q (q_move rfl) rfl ?_
  refine XL.lo rfl (l_buildSlice (e := 3) (sz := 1) (z := [.int .i64 0]) (by kernel_rfl) (eS rfl e0) (bdS 0 1 rfl (by rfl) bd0) rfl fun b13 => ?_)
  refine XL.q (q_build (place := fun x => #[(0, 1), (1, 1), (2, 1), (3, 1)][x]?) (z := [.int .u8 0, .slice none 0 0, .string ByteArray.empty, .int .i64 0]) (fun _ => by kernel_rfl) (eS rfl (eS rfl e0)) (bdS 0 1 rfl (by rfl) (bdS 1 1 rfl (by rfl) bd0))) rfl ?_
  refine XL.callV (aS rfl (aS rfl a0)) (by kernel_rfl) (findT_spec bt bm ts _ (pubT i) MT _ hT (fun x hx => mA (hsub x hx)) (Rd.whole (n := 1) At.mem (by rfl)) (pub_ok hi) (mA h4)) rfl ?_
  generalize hpo : pos ts (pubT i) = po
  refine XL.q (q_move rfl) rfl ?_
  refine XL.q (q_x0 rfl) rfl ?_
  refine XL.q (q_x1 rfl) rfl ?_
  refine XL.q (q_assign rfl) rfl ?_
  refine XL.q (q_assign rfl) rfl ?_
  refine XL.fin (kp 0 rfl (kp 1 rfl (kp 5 rfl (kp 6 rfl kn)))) ?_
  refine XC.reg ?_
  refine XL.q (q_move rfl) rfl ?_
  refine XL.q (q_move rfl) rfl ?_
  refine XL.split (t := 19) rfl (fun hb => ?_) (fun hb => ?_)
  ·
    have hA := hb
    refine XL.gy rfl rfl (OpQ.opL (q_move rfl) rfl ?_)
    refine XL.gy rfl rfl (OpQ.opL (q_move rfl) rfl ?_)
    refine XL.callVg rfl rfl (aS rfl (aS rfl a0)) (by kernel_rfl) (is_spec kb bt h _ _ (hK.mono SubC.sub)) rfl ?_
    refine XL.q (q_pickT rfl rfl) rfl ?_
    refine XL.q (q_move rfl) rfl ?_
    refine XL.split (t := 24) rfl (fun hb => ?_) (fun hb => ?_)
    ·
      have hB := hb
      refine XL.gn rfl rfl rfl rfl ?_
      refine XL.gn rfl rfl rfl rfl ?_
      refine XL.gn rfl rfl rfl rfl ?_
      refine XL.q (q_pickT rfl rfl) rfl ?_
      refine XL.q (q_assign rfl) rfl ?_
      refine XL.fin (kp 4 rfl kn) ?_
      refine XC.ret ?_
      exact ⟨_, [], [], res1 rfl rfl, List.nil_sublist _, by simp, by rw [pub_val hpo, hA, hB]; rfl, rfl, rfl⟩
    ·
      have hB := hb
      refine XL.gy rfl rfl (OpQ.opL (q_move rfl) rfl ?_)
      refine XL.gy rfl rfl (OpQ.opL (q_move rfl) rfl ?_)
      refine XL.callVg rfl rfl (aS rfl (aS rfl a0)) (by kernel_rfl) (is_spec kb bt h _ _ (hK.mono SubC.sub)) rfl ?_
      refine XL.q (q_pickF rfl rfl) rfl ?_
      refine XL.q (q_assign rfl) rfl ?_
      refine XL.fin (kp 4 rfl kn) ?_
      refine XC.ret ?_
      exact ⟨_, [], [], res1 rfl rfl, List.nil_sublist _, by simp, by rw [pub_val hpo, hA, hB]; rfl, rfl, rfl⟩
  ·
    have hA := hb
    refine XL.gn rfl rfl rfl rfl ?_
    refine XL.gn rfl rfl rfl rfl ?_
    refine XL.gn rfl rfl rfl rfl ?_
    refine XL.q (q_pickF rfl rfl) rfl ?_
    refine XL.q (q_move rfl) rfl ?_
    refine XL.gy rfl rfl (OpQ.opL (q_move rfl) rfl ?_)
    refine XL.gy rfl rfl (OpQ.opL (q_move rfl) rfl ?_)
    refine XL.callVg rfl rfl (aS rfl (aS rfl a0)) (by kernel_rfl) (is_spec kb bt h _ _ (hK.mono SubC.sub)) rfl ?_
    refine XL.q (q_pickF rfl rfl) rfl ?_
    refine XL.q (q_assign rfl) rfl ?_
    refine XL.fin (kp 4 rfl kn) ?_
    refine XC.ret ?_
    exact ⟨_, [], [], res1 rfl rfl, List.nil_sublist _, by simp, by rw [pub_val hpo, hA]; rfl, rfl, rfl⟩

theorem ints_at {xs : List Int} {i : Nat} (hi : i < xs.length) : (ints xs)[i]? = some (.int .i64 (xs.getD i 0)) := by
  unfold ints
  rw [List.getElem?_map, List.getD_eq_getElem?_getD, List.getElem?_eq_getElem hi]; rfl

set_option maxRecDepth 100000 in
theorem index_i (v : Value) (xs : List Int) (f : FuncId) (us : List Value) (q : Int → Bool) (A : Mem) (hv : Rd A 1 v xs.length (ints xs)) (hn : xs.length ≤ 1099511627776) (hc_ : callable Tryz.prog f = true) (hf : ∀ (x : Int), FnV Tryz.prog f (us ++ [.int .i64 x] ++ []) A (.bool (q x))) : FnV Tryz.prog 92 [v, .func (.func f) us.toArray #[]] A (.int .i64 (fidx (fun j => q (xs.getD j 0)) xs.length)) := by
  haveI := hv.cel
  refine FnX.enter (N := 19) Tryz.func92 rfl rfl rfl fun w => ?_
  refine XC.keep (kp 0 rfl (kp 1 rfl kn)) ?_
  refine XC.reg ?_
  refine XL.q (q_assign rfl) rfl ?_
  refine XL.fin (kp 0 rfl (kp 1 rfl kn)) ?_
  refine XC.seq ?_
  refine XC.reg ?_
  refine XL.q (q_move rfl) rfl ?_
  refine XL.q (q_lenV2 (sz := 1) rfl (by kernel_rfl) hv) rfl ?_
  refine XL.q (q_move rfl) rfl ?_
  refine XL.fin (kp 0 rfl (kp 1 rfl (kp 7 rfl (kp 8 rfl kn)))) ?_
  refine XC.block ?_
  refine XC.loop (α := Nat) (fun i => [(0, v), (1, .func (.func f) us.toArray #[]), (7, .int .i64 ((xs.length : Nat) : Int)), (8, .int .i64 (i : Int))]) (fun _ => []) (fun _ => []) (fun i => i ≤ xs.length ∧ ∀ j, j < i → q (xs.getD j 0) = false) (fun i => xs.length - i) 0 ⟨Nat.zero_le _, fun j h => absurd h (Nat.not_lt_zero j)⟩ (kp 0 rfl (kp 1 rfl (kp 7 rfl (kp 8 rfl kn)))) .rfl (fun _ h => h) ?_
  rintro i ⟨hi, hp⟩
  refine XC.reg ?_
  refine XL.q (q_bin rfl rfl rfl) rfl ?_
  refine XL.fin (kp 0 rfl (kp 1 rfl (kp 7 rfl (kp 8 rfl (kp 9 rfl kn))))) ?_
  refine XC.seq ?_
  refine XC.cond rfl (fun hc => ?_) (fun hc => ?_)
  ·
    have hlt : i < xs.length := by simp at hc; omega
    refine XC.skip ?_
    refine nx (kp 0 rfl (kp 1 rfl (kp 7 rfl (kp 8 rfl kn)))) ?_
    refine XC.seq ?_
    refine XC.block ?_
    refine XC.reg ?_
    refine XL.q (q_move rfl) rfl ?_
    refine XL.q (q_assign rfl) rfl ?_
    refine XL.fin (kp 0 rfl (kp 1 rfl (kp 5 rfl (kp 7 rfl (kp 8 rfl kn))))) ?_
    refine XC.reg ?_
    refine XL.q (q_move rfl) rfl ?_
    refine XL.q (q_move rfl) rfl ?_
    refine XL.q (q_move rfl) rfl ?_
    refine XL.q (q_atV2 (sz := 1) rfl rfl (by kernel_rfl) rfl hv hlt) rfl ?_
    refine XL.q (q_ldV (j := i) (u := .int .i64 (xs.getD i 0)) (hv.mono SubC.sub) rfl (by kernel_rfl) (ints_at hlt)) rfl ?_
    refine XL.lo rfl (l_callFFV rfl (aS rfl a0) hc_ (hf (xs.getD i 0)) rfl ?_)
    refine XL.fin (kp 0 rfl (kp 1 rfl (kp 5 rfl (kp 7 rfl (kp 8 rfl (kp 16 rfl kn)))))) ?_
    refine XC.cond rfl (fun hc => ?_) (fun hc => ?_)
    ·
      refine XC.reg ?_
      refine XL.q (q_move rfl) rfl ?_
      refine XL.q (q_assign rfl) rfl ?_
      refine XL.fin (kp 4 rfl kn) ?_
      refine XC.ret ?_
      refine br ?_
      refine tr ?_
      refine rr ?_
      refine br ?_
      refine tr ?_
      exact ⟨_, [], [], res1 rfl rfl, List.nil_sublist _, by simp, by rw [fidx_some hlt hp hc], rfl, rfl⟩
    ·
      refine XC.skip ?_
      refine nb ?_
      refine nx (kp 0 rfl (kp 1 rfl (kp 7 rfl (kp 8 rfl kn)))) ?_
      refine XC.reg1 ?_
      refine XL.q (q_addI (b := 1) rfl rfl rfl rfl (by omega)) rfl ?_
      refine XL.q (q_move rfl) rfl ?_
      refine XL.nil ?_
      exact rn (i + 1) ⟨hlt, fun j hj => by rcases Nat.lt_succ_iff_lt_or_eq.1 hj with h | h; exact hp j h; rw [h]; exact hc⟩ (by omega) (kp 0 rfl (kp 1 rfl (kp 7 rfl (kp 8 rfl kn)))) .rfl (fun _ h => h)
  ·
    have hge : i = xs.length := by simp at hc; omega
    subst hge
    refine XC.exit ?_
    refine te ?_
    refine re ?_
    refine be rfl ?_
    refine nx kn ?_
    refine XC.reg ?_
    refine XL.q (q_assign rfl) rfl ?_
    refine XL.fin (kp 4 rfl kn) ?_
    refine XC.ret ?_
    exact ⟨_, [], [], res1 rfl rfl, List.nil_sublist _, by simp, by rw [fidx_none hp], rfl, rfl⟩

theorem any_range {xs : List Int} {q : Int → Bool} : (List.range xs.length).any (fun j => q (xs.getD j 0)) = xs.any q := by
  rw [← range_any q xs, Bool.eq_iff_iff, List.any_eq_true, List.any_eq_true]
  constructor
  · rintro ⟨j, hj, h⟩
    refine ⟨j, hj, ?_⟩
    rw [List.getD_eq_getElem?_getD, List.getElem?_eq_getElem (List.mem_range.1 hj)] at h
    rw [List.getElem?_eq_getElem (List.mem_range.1 hj)]; exact h
  · rintro ⟨j, hj, h⟩
    refine ⟨j, hj, ?_⟩
    rw [List.getElem?_eq_getElem (List.mem_range.1 hj)] at h
    rw [List.getD_eq_getElem?_getD, List.getElem?_eq_getElem (List.mem_range.1 hj)]; exact h

set_option maxRecDepth 100000 in
theorem contains_i (v : Value) (xs : List Int) (f : FuncId) (us : List Value) (q : Int → Bool) (A : Mem) (hv : Rd A 1 v xs.length (ints xs)) (hn : xs.length ≤ 1099511627776) (hc_ : callable Tryz.prog f = true) (hf : ∀ (x : Int), FnV Tryz.prog f (us ++ [.int .i64 x] ++ []) A (.bool (q x))) : FnV Tryz.prog 58 [v, .func (.func f) us.toArray #[]] A (.bool (xs.any q)) := by
  haveI := hv.cel
  refine FnX.enter (N := 9) Tryz.func58 rfl rfl rfl fun w => ?_
  refine XC.keep (kp 0 rfl (kp 1 rfl kn)) ?_
  refine XC.reg ?_
  refine XL.q (q_assign rfl) rfl ?_
  refine XL.fin (kp 0 rfl (kp 1 rfl kn)) ?_
  refine XC.reg ?_
  refine XL.q (q_move rfl) rfl ?_
  refine XL.q (q_move rfl) rfl ?_
  refine XL.callV (aS rfl (aS rfl a0)) (by kernel_rfl) (index_i v xs f us q _ (hv.mono SubC.sub) hn hc_ hf) rfl ?_
  refine XL.q (q_cmp (decide (fidx (fun j => q (xs.getD j 0)) xs.length ≥ 0)) rfl rfl rfl) rfl ?_
  refine XL.q (q_assign rfl) rfl ?_
  refine XL.fin (kp 4 rfl kn) ?_
  refine XC.ret ?_
  exact ⟨_, [], [], res1 rfl rfl, List.nil_sublist _, by simp, by rw [fidx_ge, any_range], rfl, rfl⟩

theorem mk_no {k : Nat} (h2 : ¬ k = 2) (h3 : ¬ k = 3) (h5 : ¬ k = 5) (h6 : ¬ k = 6) (h7 : ¬ k = 7) : mkK k = false := by simp [mkK, h2, h3, h5, h6, h7]

set_option maxRecDepth 100000 in
theorem made_k (kb bt bm : Nat) (ts : List Tm) (h : List Bool) (n : Nat) (A : Mem) (hK : KnR kb bt h A) (hT0 : TbR bt bm ts A) (hn : n < ts.length) {e4 : TypeId} {f4 : Nat × Nat} (h4 : (4, Obj.cells (nums .u64 pow10T).toArray e4 f4) ∈ A) : FnV Tryz.prog 34 [.pointer (some ⟨kb, 0, none⟩), .int .i64 ((n : Nat) : Int)] A (.bool (madeF ts h n)) := by
  obtain ⟨v, hkb, hrd⟩ := hK.ex
  haveI := hrd.cel
  obtain ⟨MT, hT, hsub⟩ := hT0.ex
  refine FnX.enter (N := 74) Tryz.func34 rfl rfl rfl fun w => ?_
  refine XC.keep (kp 0 rfl (kp 1 rfl kn)) ?_
  refine XC.reg ?_
  refine XL.q (q_assign rfl) rfl ?_
  refine XL.fin (kp 0 rfl (kp 1 rfl kn)) ?_
  refine XC.reg ?_
  refine XL.q (q_move rfl) rfl ?_
  refine XL.q (q_nil rfl) rfl ?_
  refine XL.q (q_fieldAddrN 0 (off := 0) rfl (by kernel_rfl) rfl) rfl ?_
  refine XL.q (q_load rfl (by kernel_rfl) (by first | exact At.mem | exact mA (by assumption)) (by rfl)) rfl ?_
  refine XL.q (q_move rfl) rfl ?_
  refine XL.call (aS rfl (aS rfl a0)) (by kernel_rfl) (getT_spec bt bm ts ((n : Nat) : Int) MT _ hT (fun x hx => mA (hsub x hx))) rfl ?_
  rintro v14 M14 J14 ⟨rfl, rfl, c14, ok14, rfl, hg1, hg2⟩
  obtain ⟨rfl, t, ht, vo, rfl, hvo⟩ := hg1 ⟨by omega, by omega⟩
  rw [Int.toNat_natCast] at ht
  have hto := hT.tok.tmo t (List.mem_of_getElem? ht)
  haveI := hvo.cel
  have hmF : madeF ts h n = madeT ts h t := by unfold madeF; rw [ht]
  have hofl := hto.ofl
  have hofi : ∀ a, a < t.of.length → i64 (t.of.getD a 0) := fun a ha => hto.of _ (by rw [List.getD_eq_getElem?_getD, List.getElem?_eq_getElem ha]; exact List.getElem_mem _)
  refine XL.q (q_move rfl) rfl ?_
  refine XL.q (q_x0 rfl) rfl ?_
  refine XL.q (q_x1 rfl) rfl ?_
  refine XL.lo rfl (l_alloc (cs := [.int .u8 0, .slice none 0 0, .string ByteArray.empty, .int .i64 0]) (by kernel_rfl) rfl fun b5 => ?_)
  refine XL.lo rfl (l_storeW rfl rfl rfl (by kernel_rfl) (by rfl) (by intro c hc; simp only [List.mem_cons, List.not_mem_nil, or_false] at hc; rcases hc with rfl | rfl | rfl | rfl <;> first | rfl | exact hvo.one) UpC.upd ?_)
  refine XL.q (q_assign rfl) rfl ?_
  refine XL.fin (kp 0 rfl (kp 5 rfl kn)) ?_
  refine XC.reg ?_
  refine XL.q (q_fieldAddrN 1 (off := 1) rfl (by kernel_rfl) rfl) rfl ?_
  refine XL.q (q_load rfl (by kernel_rfl) (by first | exact At.mem | exact mA (by assumption)) (by rfl)) rfl ?_
  refine XL.q (q_move rfl) rfl ?_
  refine XL.q (q_mkFuncF (aS rfl a0) a0) rfl ?_
  refine XL.callV (aS rfl (aS rfl a0)) (by kernel_rfl) (contains_i vo t.of 59 [.pointer (some ⟨kb, 0, none⟩)] (fun x => !isK h x) _ (hvo.mono SubC.sub) (by omega) (by kernel_rfl) (fun x => lacks_spec kb bt h x _ (hK.mono SubC.sub))) rfl ?_
  refine XL.q (q_not rfl) rfl ?_
  rw [all_any]
  refine XL.q (q_assign rfl) rfl ?_
  refine XL.fin (kp 0 rfl (kp 5 rfl (kp 7 rfl kn))) ?_
  refine XC.seq ?_
  refine XC.reg ?_
  refine XL.q (q_fieldAddrN 0 (off := 0) rfl (by kernel_rfl) rfl) rfl ?_
  refine XL.q (q_load rfl (by kernel_rfl) (by first | exact At.mem | exact mA (by assumption)) (by rfl)) rfl ?_
  refine XL.fin (kp 0 rfl (kp 5 rfl (kp 7 rfl (kp 24 rfl kn)))) ?_
  refine XC.block ?_
  refine XC.seq ?_
  refine XC.reg ?_
  refine XL.q (q_bin rfl rfl rfl) rfl ?_
  refine XL.q (q_assign rfl) rfl ?_
  refine XL.fin (kp 0 rfl (kp 5 rfl (kp 7 rfl (kp 24 rfl (kp 25 rfl kn))))) ?_
  refine XC.cond rfl (fun hc => ?_) (fun hc => ?_)
  ·
    rw [hc]
    have hk2 : t.kind = 2 := by simp at hc; omega
    refine XC.skip ?_
    refine nx (kp 0 rfl (kp 5 rfl (kp 7 rfl (kp 24 rfl (kp 25 rfl kn))))) ?_
    refine XC.condT rfl ?_
    refine XC.reg ?_
    refine XL.q (q_move rfl) rfl ?_
    refine XL.q (q_assign rfl) rfl ?_
    refine XL.fin (kp 4 rfl kn) ?_
    refine XC.ret ?_
    refine br ?_
    refine tr ?_
    exact ⟨_, [], [], res1 rfl rfl, List.nil_sublist _, by simp, by rw [hmF, madeT_mk (by rw [hk2]; rfl)], rfl, rfl⟩
  ·
    rw [hc]
    have hk2 : ¬ t.kind = 2 := by simp at hc; omega
    refine XC.reg ?_
    refine XL.q (q_bin rfl rfl rfl) rfl ?_
    refine XL.q (q_assign rfl) rfl ?_
    refine XL.fin (kp 0 rfl (kp 5 rfl (kp 7 rfl (kp 24 rfl (kp 25 rfl kn))))) ?_
    refine XC.cond rfl (fun hc => ?_) (fun hc => ?_)
    ·
      rw [hc]
      have hk3 : t.kind = 3 := by simp at hc; omega
      refine XC.skip ?_
      refine nx (kp 0 rfl (kp 5 rfl (kp 7 rfl (kp 24 rfl (kp 25 rfl kn))))) ?_
      refine XC.condT rfl ?_
      refine XC.reg ?_
      refine XL.q (q_move rfl) rfl ?_
      refine XL.q (q_assign rfl) rfl ?_
      refine XL.fin (kp 4 rfl kn) ?_
      refine XC.ret ?_
      refine br ?_
      refine tr ?_
      exact ⟨_, [], [], res1 rfl rfl, List.nil_sublist _, by simp, by rw [hmF, madeT_mk (by rw [hk3]; rfl)], rfl, rfl⟩
    ·
      rw [hc]
      have hk3 : ¬ t.kind = 3 := by simp at hc; omega
      refine XC.reg ?_
      refine XL.q (q_bin rfl rfl rfl) rfl ?_
      refine XL.q (q_assign rfl) rfl ?_
      refine XL.fin (kp 0 rfl (kp 5 rfl (kp 7 rfl (kp 24 rfl (kp 25 rfl kn))))) ?_
      refine XC.cond rfl (fun hc => ?_) (fun hc => ?_)
      ·
        rw [hc]
        have hk5 : t.kind = 5 := by simp at hc; omega
        refine XC.skip ?_
        refine nx (kp 0 rfl (kp 5 rfl (kp 7 rfl (kp 24 rfl (kp 25 rfl kn))))) ?_
        refine XC.condT rfl ?_
        refine XC.reg ?_
        refine XL.q (q_move rfl) rfl ?_
        refine XL.q (q_assign rfl) rfl ?_
        refine XL.fin (kp 4 rfl kn) ?_
        refine XC.ret ?_
        refine br ?_
        refine tr ?_
        exact ⟨_, [], [], res1 rfl rfl, List.nil_sublist _, by simp, by rw [hmF, madeT_mk (by rw [hk5]; rfl)], rfl, rfl⟩
      ·
        rw [hc]
        have hk5 : ¬ t.kind = 5 := by simp at hc; omega
        refine XC.reg ?_
        refine XL.q (q_bin rfl rfl rfl) rfl ?_
        refine XL.q (q_assign rfl) rfl ?_
        refine XL.fin (kp 0 rfl (kp 5 rfl (kp 7 rfl (kp 24 rfl (kp 25 rfl kn))))) ?_
        refine XC.cond rfl (fun hc => ?_) (fun hc => ?_)
        ·
          rw [hc]
          have hk6 : t.kind = 6 := by simp at hc; omega
          refine XC.skip ?_
          refine nx (kp 0 rfl (kp 5 rfl (kp 7 rfl (kp 24 rfl (kp 25 rfl kn))))) ?_
          refine XC.condT rfl ?_
          refine XC.reg ?_
          refine XL.q (q_move rfl) rfl ?_
          refine XL.q (q_assign rfl) rfl ?_
          refine XL.fin (kp 4 rfl kn) ?_
          refine XC.ret ?_
          refine br ?_
          refine tr ?_
          exact ⟨_, [], [], res1 rfl rfl, List.nil_sublist _, by simp, by rw [hmF, madeT_mk (by rw [hk6]; rfl)], rfl, rfl⟩
        ·
          rw [hc]
          have hk6 : ¬ t.kind = 6 := by simp at hc; omega
          refine XC.reg1 ?_
          refine XL.q (q_bin rfl rfl rfl) rfl ?_
          refine XL.q (q_assign rfl) rfl ?_
          refine XL.fin (kp 0 rfl (kp 5 rfl (kp 7 rfl (kp 24 rfl (kp 25 rfl kn))))) ?_
          refine XC.cond rfl (fun hc => ?_) (fun hc => ?_)
          ·
            rw [hc]
            have hk7 : t.kind = 7 := by simp at hc; omega
            refine XC.reg ?_
            refine XL.q (q_move rfl) rfl ?_
            refine XL.q (q_assign rfl) rfl ?_
            refine XL.fin (kp 4 rfl kn) ?_
            refine XC.ret ?_
            refine br ?_
            refine tr ?_
            exact ⟨_, [], [], res1 rfl rfl, List.nil_sublist _, by simp, by rw [hmF, madeT_mk (by rw [hk7]; rfl)], rfl, rfl⟩
          ·
            rw [hc]
            have hk7 : ¬ t.kind = 7 := by simp at hc; omega
            refine XC.reg ?_
            refine XL.q (q_bin rfl rfl rfl) rfl ?_
            refine XL.q (q_assign rfl) rfl ?_
            refine XL.fin (kp 0 rfl (kp 5 rfl (kp 7 rfl (kp 32 rfl kn)))) ?_
            refine XC.cond rfl (fun hc => ?_) (fun hc => ?_)
            ·
              have hk4 : t.kind = 4 := by simp at hc; omega
              refine XC.seq ?_
              refine XC.reg ?_
              refine XL.q (q_fieldAddrN 3 (off := 3) rfl (by kernel_rfl) rfl) rfl ?_
              refine XL.q (q_load rfl (by kernel_rfl) (by first | exact At.mem | exact mA (by assumption)) (by rfl)) rfl ?_
              refine XL.q (q_bin rfl rfl rfl) rfl ?_
              refine XL.q (q_move rfl) rfl ?_
              refine XL.split (t := 37) rfl (fun hb => ?_) (fun hb => ?_)
              ·
                have hn0 : t.n = 0 := by simpa using hb
                refine XL.gy rfl rfl (OpQ.opL (q_fieldAddrN 1 (off := 1) rfl (by kernel_rfl) rfl) rfl ?_)
                refine XL.gy rfl rfl (OpQ.opL (q_load rfl (by kernel_rfl) (by first | exact At.mem | exact mA (by assumption)) (by rfl)) rfl ?_)
                refine XL.gy rfl rfl (OpQ.opL (q_lenV2 (sz := 1) rfl (by kernel_rfl) hvo) rfl ?_)
                refine XL.gy rfl rfl (OpQ.opL (q_bin rfl rfl rfl) rfl ?_)
                refine XL.q (q_pickT rfl rfl) rfl ?_
                refine XL.fin (kp 0 rfl (kp 5 rfl (kp 7 rfl (kp 42 rfl kn)))) ?_
                refine XC.cond rfl (fun hc => ?_) (fun hc => ?_)
                ·
                  have hl2 : t.of.length = 2 := by simp at hc; omega
                  refine XC.reg ?_
                  refine XL.q (q_move rfl) rfl ?_
                  refine XL.q (q_fieldAddrN 1 (off := 1) rfl (by kernel_rfl) rfl) rfl ?_
                  refine XL.q (q_load rfl (by kernel_rfl) (by first | exact At.mem | exact mA (by assumption)) (by rfl)) rfl ?_
                  refine XL.q (q_atV2 (sz := 1) (a := 0) rfl rfl (by kernel_rfl) rfl hvo (by omega)) rfl ?_
                  refine XL.q (q_ldV (j := 0) (u := .int .i64 (t.of.getD 0 0)) (hvo.mono SubC.sub) rfl (by kernel_rfl) (ints_at (by omega))) rfl ?_
                  refine XL.callV (aS rfl (aS rfl a0)) (by kernel_rfl) (is_spec kb bt h _ _ (hK.mono SubC.sub)) rfl ?_
                  refine XL.q (q_move rfl) rfl ?_
                  refine XL.split (t := 49) rfl (fun hb => ?_) (fun hb => ?_)
                  ·
                    have hA := hb
                    refine XL.gy rfl rfl (OpQ.opL (q_move rfl) rfl ?_)
                    refine XL.gy rfl rfl (OpQ.opL (q_fieldAddrN 1 (off := 1) rfl (by kernel_rfl) rfl) rfl ?_)
                    refine XL.gy rfl rfl (OpQ.opL (q_load rfl (by kernel_rfl) (by first | exact At.mem | exact mA (by assumption)) (by rfl)) rfl ?_)
                    refine XL.gy rfl rfl (OpQ.opL (q_atV2 (sz := 1) (a := 1) rfl rfl (by kernel_rfl) rfl hvo (by omega)) rfl ?_)
                    refine XL.gy rfl rfl (OpQ.opL (q_ldV (j := 1) (u := .int .i64 (t.of.getD 1 0)) (hvo.mono SubC.sub) rfl (by kernel_rfl) (ints_at (by omega))) rfl ?_)
                    refine XL.callVg rfl rfl (aS rfl (aS rfl a0)) (by kernel_rfl) (public_k kb bt bm ts h _ _ (hK.mono SubC.sub) (hT0.mono SubC.sub) (hofi 1 (by omega)) (mA h4)) rfl ?_
                    refine XL.q (q_pickT rfl rfl) rfl ?_
                    refine XL.q (q_move rfl) rfl ?_
                    refine XL.split (t := 57) rfl (fun hb => ?_) (fun hb => ?_)
                    ·
                      have hB := hb
                      refine XL.gn rfl rfl rfl rfl ?_
                      refine XL.gn rfl rfl rfl rfl ?_
                      refine XL.gn rfl rfl rfl rfl ?_
                      refine XL.gn rfl rfl rfl rfl ?_
                      refine XL.gn rfl rfl rfl rfl ?_
                      refine XL.gn rfl rfl rfl rfl ?_
                      refine XL.gn rfl rfl rfl rfl ?_
                      refine XL.gu rfl rfl rfl ?_
                      refine XL.gu rfl rfl rfl ?_
                      refine XL.gu rfl rfl rfl ?_
                      refine XL.gu rfl rfl rfl ?_
                      refine XL.gu rfl rfl rfl ?_
                      refine XL.gu rfl rfl rfl ?_
                      refine XL.gn rfl rfl rfl rfl ?_
                      refine XL.q (q_pickT rfl rfl) rfl ?_
                      refine XL.q (q_assign rfl) rfl ?_
                      refine XL.fin (kp 4 rfl kn) ?_
                      refine XC.ret ?_
                      refine tr ?_
                      refine br ?_
                      refine tr ?_
                      exact ⟨_, [], [], res1 rfl rfl, List.nil_sublist _, by simp, by rw [hmF, madeT_4a hk4 hn0 hl2, hA, hB]; rfl, rfl, rfl⟩
                    ·
                      have hB := hb
                      refine XL.gy rfl rfl (OpQ.opL (q_move rfl) rfl ?_)
                      refine XL.gy rfl rfl (OpQ.opL (q_fieldAddrN 1 (off := 1) rfl (by kernel_rfl) rfl) rfl ?_)
                      refine XL.gy rfl rfl (OpQ.opL (q_load rfl (by kernel_rfl) (by first | exact At.mem | exact mA (by assumption)) (by rfl)) rfl ?_)
                      refine XL.gy rfl rfl (OpQ.opL (q_atV2 (sz := 1) (a := 1) rfl rfl (by kernel_rfl) rfl hvo (by omega)) rfl ?_)
                      refine XL.gy rfl rfl (OpQ.opL (q_ldV (j := 1) (u := .int .i64 (t.of.getD 1 0)) (hvo.mono SubC.sub) rfl (by kernel_rfl) (ints_at (by omega))) rfl ?_)
                      refine XL.callVg rfl rfl (aS rfl (aS rfl a0)) (by kernel_rfl) (is_spec kb bt h _ _ (hK.mono SubC.sub)) rfl ?_
                      refine XL.gy rfl rfl (OpQ.opL (q_move rfl) rfl ?_)
                      refine XL.split (t := 64) rfl (fun hb => ?_) (fun hb => ?_)
                      ·
                        have hC := hb
                        refine XL.gy rfl rfl (OpQ.opL (q_move rfl) rfl ?_)
                        refine XL.gy rfl rfl (OpQ.opL (q_fieldAddrN 1 (off := 1) rfl (by kernel_rfl) rfl) rfl ?_)
                        refine XL.gy rfl rfl (OpQ.opL (q_load rfl (by kernel_rfl) (by first | exact At.mem | exact mA (by assumption)) (by rfl)) rfl ?_)
                        refine XL.gy rfl rfl (OpQ.opL (q_atV2 (sz := 1) (a := 0) rfl rfl (by kernel_rfl) rfl hvo (by omega)) rfl ?_)
                        refine XL.gy rfl rfl (OpQ.opL (q_ldV (j := 0) (u := .int .i64 (t.of.getD 0 0)) (hvo.mono SubC.sub) rfl (by kernel_rfl) (ints_at (by omega))) rfl ?_)
                        refine XL.callVg rfl rfl (aS rfl (aS rfl a0)) (by kernel_rfl) (public_k kb bt bm ts h _ _ (hK.mono SubC.sub) (hT0.mono SubC.sub) (hofi 0 (by omega)) (mA h4)) rfl ?_
                        refine XL.gy rfl rfl (OpQ.opL (q_pickT rfl rfl) rfl ?_)
                        refine XL.q (q_pickF rfl rfl) rfl ?_
                        refine XL.q (q_assign rfl) rfl ?_
                        refine XL.fin (kp 4 rfl kn) ?_
                        refine XC.ret ?_
                        refine tr ?_
                        refine br ?_
                        refine tr ?_
                        exact ⟨_, [], [], res1 rfl rfl, List.nil_sublist _, by simp, by rw [hmF, madeT_4a hk4 hn0 hl2, hA, hB, hC]; rfl, rfl, rfl⟩
                      ·
                        have hC := hb
                        refine XL.gn rfl rfl rfl rfl ?_
                        refine XL.gn rfl rfl rfl rfl ?_
                        refine XL.gn rfl rfl rfl rfl ?_
                        refine XL.gn rfl rfl rfl rfl ?_
                        refine XL.gn rfl rfl rfl rfl ?_
                        refine XL.gn rfl rfl rfl rfl ?_
                        refine XL.gy rfl rfl (OpQ.opL (q_pickF rfl rfl) rfl ?_)
                        refine XL.q (q_pickF rfl rfl) rfl ?_
                        refine XL.q (q_assign rfl) rfl ?_
                        refine XL.fin (kp 4 rfl kn) ?_
                        refine XC.ret ?_
                        refine tr ?_
                        refine br ?_
                        refine tr ?_
                        exact ⟨_, [], [], res1 rfl rfl, List.nil_sublist _, by simp, by rw [hmF, madeT_4a hk4 hn0 hl2, hA, hB, hC]; rfl, rfl, rfl⟩
                  ·
                    have hA := hb
                    refine XL.gn rfl rfl rfl rfl ?_
                    refine XL.gn rfl rfl rfl rfl ?_
                    refine XL.gn rfl rfl rfl rfl ?_
                    refine XL.gn rfl rfl rfl rfl ?_
                    refine XL.gn rfl rfl rfl rfl ?_
                    refine XL.gn rfl rfl rfl rfl ?_
                    refine XL.q (q_pickF rfl rfl) rfl ?_
                    refine XL.q (q_move rfl) rfl ?_
                    refine XL.gy rfl rfl (OpQ.opL (q_move rfl) rfl ?_)
                    refine XL.gy rfl rfl (OpQ.opL (q_fieldAddrN 1 (off := 1) rfl (by kernel_rfl) rfl) rfl ?_)
                    refine XL.gy rfl rfl (OpQ.opL (q_load rfl (by kernel_rfl) (by first | exact At.mem | exact mA (by assumption)) (by rfl)) rfl ?_)
                    refine XL.gy rfl rfl (OpQ.opL (q_atV2 (sz := 1) (a := 1) rfl rfl (by kernel_rfl) rfl hvo (by omega)) rfl ?_)
                    refine XL.gy rfl rfl (OpQ.opL (q_ldV (j := 1) (u := .int .i64 (t.of.getD 1 0)) (hvo.mono SubC.sub) rfl (by kernel_rfl) (ints_at (by omega))) rfl ?_)
                    refine XL.callVg rfl rfl (aS rfl (aS rfl a0)) (by kernel_rfl) (is_spec kb bt h _ _ (hK.mono SubC.sub)) rfl ?_
                    refine XL.gy rfl rfl (OpQ.opL (q_move rfl) rfl ?_)
                    refine XL.split (t := 64) rfl (fun hb => ?_) (fun hb => ?_)
                    ·
                      have hC := hb
                      refine XL.gy rfl rfl (OpQ.opL (q_move rfl) rfl ?_)
                      refine XL.gy rfl rfl (OpQ.opL (q_fieldAddrN 1 (off := 1) rfl (by kernel_rfl) rfl) rfl ?_)
                      refine XL.gy rfl rfl (OpQ.opL (q_load rfl (by kernel_rfl) (by first | exact At.mem | exact mA (by assumption)) (by rfl)) rfl ?_)
                      refine XL.gy rfl rfl (OpQ.opL (q_atV2 (sz := 1) (a := 0) rfl rfl (by kernel_rfl) rfl hvo (by omega)) rfl ?_)
                      refine XL.gy rfl rfl (OpQ.opL (q_ldV (j := 0) (u := .int .i64 (t.of.getD 0 0)) (hvo.mono SubC.sub) rfl (by kernel_rfl) (ints_at (by omega))) rfl ?_)
                      refine XL.callVg rfl rfl (aS rfl (aS rfl a0)) (by kernel_rfl) (public_k kb bt bm ts h _ _ (hK.mono SubC.sub) (hT0.mono SubC.sub) (hofi 0 (by omega)) (mA h4)) rfl ?_
                      refine XL.gy rfl rfl (OpQ.opL (q_pickT rfl rfl) rfl ?_)
                      refine XL.q (q_pickF rfl rfl) rfl ?_
                      refine XL.q (q_assign rfl) rfl ?_
                      refine XL.fin (kp 4 rfl kn) ?_
                      refine XC.ret ?_
                      refine tr ?_
                      refine br ?_
                      refine tr ?_
                      exact ⟨_, [], [], res1 rfl rfl, List.nil_sublist _, by simp, by rw [hmF, madeT_4a hk4 hn0 hl2, hA, hC]; rfl, rfl, rfl⟩
                    ·
                      have hC := hb
                      refine XL.gn rfl rfl rfl rfl ?_
                      refine XL.gn rfl rfl rfl rfl ?_
                      refine XL.gn rfl rfl rfl rfl ?_
                      refine XL.gn rfl rfl rfl rfl ?_
                      refine XL.gn rfl rfl rfl rfl ?_
                      refine XL.gn rfl rfl rfl rfl ?_
                      refine XL.gy rfl rfl (OpQ.opL (q_pickF rfl rfl) rfl ?_)
                      refine XL.q (q_pickF rfl rfl) rfl ?_
                      refine XL.q (q_assign rfl) rfl ?_
                      refine XL.fin (kp 4 rfl kn) ?_
                      refine XC.ret ?_
                      refine tr ?_
                      refine br ?_
                      refine tr ?_
                      exact ⟨_, [], [], res1 rfl rfl, List.nil_sublist _, by simp, by rw [hmF, madeT_4a hk4 hn0 hl2, hA, hC]; rfl, rfl, rfl⟩
                ·
                  have hl2 : ¬ t.of.length = 2 := by simp at hc; omega
                  refine XC.skip ?_
                  refine nx (kp 7 rfl kn) ?_
                  refine XC.reg ?_
                  refine XL.q (q_move rfl) rfl ?_
                  refine XL.q (q_assign rfl) rfl ?_
                  refine XL.fin (kp 4 rfl kn) ?_
                  refine XC.ret ?_
                  refine br ?_
                  refine tr ?_
                  exact ⟨_, [], [], res1 rfl rfl, List.nil_sublist _, by simp, by rw [hmF, madeT_4b hk4 (fun h => hl2 h.2)], rfl, rfl⟩
              ·
                have hn0 : ¬ t.n = 0 := by simpa using hb
                refine XL.gn rfl rfl rfl rfl ?_
                refine XL.gn rfl rfl rfl rfl ?_
                refine XL.gn rfl rfl rfl rfl ?_
                refine XL.gn rfl rfl rfl rfl ?_
                refine XL.q (q_pickF rfl rfl) rfl ?_
                refine XL.fin (kp 0 rfl (kp 5 rfl (kp 7 rfl (kp 42 rfl kn)))) ?_
                refine XC.condF rfl ?_
                refine XC.skip ?_
                refine nx (kp 7 rfl kn) ?_
                refine XC.reg ?_
                refine XL.q (q_move rfl) rfl ?_
                refine XL.q (q_assign rfl) rfl ?_
                refine XL.fin (kp 4 rfl kn) ?_
                refine XC.ret ?_
                refine br ?_
                refine tr ?_
                exact ⟨_, [], [], res1 rfl rfl, List.nil_sublist _, by simp, by rw [hmF, madeT_4b hk4 (fun h => hn0 h.1)], rfl, rfl⟩
            ·
              have hk4 : ¬ t.kind = 4 := by simp at hc; omega
              refine XC.skip ?_
              refine nb ?_
              refine nx kn ?_
              refine XC.reg ?_
              refine XL.q (q_assign rfl) rfl ?_
              refine XL.fin (kp 4 rfl kn) ?_
              refine XC.ret ?_
              exact ⟨_, [], [], res1 rfl rfl, List.nil_sublist _, by simp, by rw [hmF, madeT_no (mk_no hk2 hk3 hk5 hk6 hk7) hk4], rfl, rfl⟩
