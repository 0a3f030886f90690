/- The walks of pawllaw10: open, awake, same; plain laws of a step; ChainNil. -/
import Derived.Test.YtibemhcnjdgemaaDoorChn5
import Derived.Test.YtibemhcnjdgemaaDoorPrm3
set_option linter.unusedVariables false
set_option linter.unusedSimpArgs false
namespace Go.Px
instance PickC.two {M X Y R1 R : Mem} [h1 : PickC M X R1] [h2 : PickC R1 Y R] : PickC M (X ++ Y) R := ⟨h1.perm.trans (by rw [List.append_assoc]; exact h2.perm.append_left X)⟩
instance (priority := 50) PickC.left {D M B R : Mem} [h : PickC D B R] : PickC (D ++ M) B (R ++ M) := ⟨(List.Perm.append_right M h.perm).trans (by rw [List.append_assoc])⟩
instance (priority := 60) PickC.consB {M B R1 R : Mem} {x : Nat × Obj} [h1 : PickC M [x] R1] [h2 : PickC R1 B R] : PickC M (x :: B) R := ⟨h1.perm.trans (List.Perm.cons x h2.perm)⟩
theorem upA {X J' J A : Mem} : ∀ x, x ∈ J' ++ (J ++ A) → x ∈ X ++ ((J' ++ J) ++ A) := by
  intro x hx
  simp only [List.mem_append] at hx ⊢
  rcases hx with h | h | h <;> simp [h]
theorem upR {X Y : Mem} : ∀ x, x ∈ Y → x ∈ X ++ Y := fun x hx => List.mem_append_right _ hx
end Go.Px
namespace Go.Proofs.YtibemhcnjdgemaaDoor
open Go.Px
theorem stepW_b : B256 stepW := ⟨by decide⟩
theorem step_ext {s : Ps} {key : List Nat} (hk : Kok s key) (hl : s.ts.length ≤ 1048576) : Pext s (stepS s key) := by
  cases hr : s.real with
  | true => unfold stepS; rw [derS_t hr]; exact Pext.refl s
  | false =>
    obtain ⟨i, hi, rfl⟩ := hk hr
    unfold stepS
    rw [derS_f hr, derT_good hi hl]
    obtain ⟨l1, e1⟩ := ptAll_ext s.ts [((i : Nat) : Int)] stepW 0
    obtain ⟨l2, e2⟩ := ptAll_ext s.ts [((i : Nat) : Int)] stepW 1
    exact ⟨rfl, l1 ++ l2, by show (ptAll _ _ _ 2).1 = _; rw [e2, e1, List.append_assoc]; rfl⟩
theorem step_tok {s : Ps} {key : List Nat} (hk : Kok s key) (ht : Tok s.ts) (hl : s.ts.length ≤ 1048576) : Tok (stepS s key).ts := by
  cases hr : s.real with
  | true => unfold stepS; rw [derS_t hr]; exact ht
  | false =>
    obtain ⟨i, hi, rfl⟩ := hk hr
    unfold stepS
    rw [derS_f hr, derT_good hi hl]
    exact ptAll_tok ht (drv_one (by omega) stepW_b (by decide)) (by decide)
theorem step_kok {s : Ps} {key : List Nat} (hk : Kok s key) (ht : Tok s.ts) (hl : s.ts.length ≤ 1048576) : Kok (stepS s key) (stepC s key) := by
  cases hr : s.real with
  | true => intro h; rw [(step_ext hk hl).real, hr] at h; cases h
  | false =>
    intro _
    obtain ⟨i, hi, rfl⟩ := hk hr
    unfold stepS stepC stepL
    rw [derS_f hr, derK_f hr, derT_good hi hl]
    obtain ⟨j, h1, h2⟩ := ptAll_get ht (drv_one (show i ≤ 1048576 by omega) stepW_b (by decide)) (show 2 ≤ 100 by decide) (show 1 < 2 by decide)
    refine ⟨j, (List.getElem?_eq_some_iff.1 h1).1, ?_⟩
    rw [List.getD_eq_getElem?_getD, h2]; rfl
theorem step_again {s s' : Ps} {key : List Nat} (hk : Kok s key) (ht : Tok s.ts) (hl : s'.ts.length ≤ 1048576) (he : Pext (stepS s key) s') (ht' : Tok s'.ts) : stepS s' key = s' ∧ stepL s' key = stepL s key := by
  cases hr : s.real with
  | true =>
    have hl0 : stepS s key = s := by unfold stepS; exact derS_t hr
    have hr' : s'.real = true := by rw [he.real, hl0]; exact hr
    exact ⟨by unfold stepS; exact derS_t hr', by unfold stepL; rw [derK_t hr, derK_t hr']⟩
  | false =>
    obtain ⟨i, hi, rfl⟩ := hk hr
    obtain ⟨l, hl2⟩ := he.ts
    have hr' : s'.real = false := by
      rw [he.real]; unfold stepS; rw [derS_f hr]; exact hr
    have hle : s.ts.length ≤ s'.ts.length := by
      rw [hl2, List.length_append]
      have : s.ts.length ≤ (stepS s (bts ((i : Nat) : Int))).ts.length := by
        unfold stepS
        rw [derS_f hr]
        show _ ≤ (derT s.ts _ [] stepW 2).1.length
        unfold derT
        obtain ⟨l1, e1⟩ := ptAll_ext (rdAll s.ts (bts ((i : Nat) : Int)) []).1 (rdAll s.ts (bts ((i : Nat) : Int)) []).2 stepW 0
        obtain ⟨l2, e2⟩ := ptAll_ext (rdAll s.ts (bts ((i : Nat) : Int)) []).1 (rdAll s.ts (bts ((i : Nat) : Int)) []).2 stepW 1
        rw [e2, e1]
        have h3 : (ptAll (rdAll s.ts (bts ((i : Nat) : Int)) []).1 (rdAll s.ts (bts ((i : Nat) : Int)) []).2 stepW 0).1 = rdT s.ts (bts ((i : Nat) : Int)) := rfl
        rw [h3]
        have := rdT_ge (ts := s.ts) (w := bts ((i : Nat) : Int))
        simp only [List.length_append]; omega
      omega
    have hl3 : s.ts.length ≤ 1048576 := by omega
    have e0 : (stepS s (bts ((i : Nat) : Int))).ts = (ptAll s.ts [((i : Nat) : Int)] stepW 2).1 := by
      unfold stepS; rw [derS_f hr, derT_good hi hl3]
    rw [e0] at hl2
    have ha := ptAll_again ht (drv_one (show i ≤ 1048576 by omega) stepW_b (by decide)) (show 2 ≤ 100 by decide) hl2 ht'
    constructor
    · unfold stepS
      rw [derS_f hr', derT_good (by omega) hl, ha]
    · unfold stepL
      rw [derK_f hr, derK_f hr', derT_good (by omega) hl, derT_good hi hl3, ha]
theorem step_ne {s : Ps} {key : List Nat} (hk : Kok s key) (ht : Tok s.ts) (hl : s.ts.length ≤ 1000000) (hr : s.real = false) : stepK s key ≠ stepC s key := by
  obtain ⟨i, hi, rfl⟩ := hk hr
  unfold stepK stepC stepL
  rw [derK_f hr, derT_good hi (by omega)]
  have hd := drv_one (show i ≤ 1048576 by omega) stepW_b (by decide)
  obtain ⟨j, h1, h2⟩ := ptAll_get ht hd (show 2 ≤ 100 by decide) (show 0 < 2 by decide)
  obtain ⟨k, h3, h4⟩ := ptAll_get ht hd (show 2 ≤ 100 by decide) (show 1 < 2 by decide)
  have hlen := (ptAll_len s.ts [((i : Nat) : Int)] stepW 2).2
  have hj := (List.getElem?_eq_some_iff.1 h1).1
  have hk := (List.getElem?_eq_some_iff.1 h3).1
  rw [List.getD_eq_getElem?_getD, List.getD_eq_getElem?_getD, h2, h4]
  intro e
  have := bts_inj (by omega) (by omega) e
  subst this
  rw [h1] at h3
  have := (drv_inj (Option.some.inj h3)).2.2
  cases this
def chainW : List Nat := [99, 104, 97, 105, 110]
def opn (r : Bool) : Ps := ⟨r, chainW, 0, []⟩
theorem md_mod (m : Nat) : ((m % 2 : Nat) : Int) = md (m % 2 == 0) := by
  rcases (by omega : m % 2 = 0 ∨ m % 2 = 1) with h | h <;> rw [h] <;> rfl
theorem opn_tok (r : Bool) : Tok (opn r).ts := Tok.nil
theorem opn_kok (r : Bool) : Kok (freshS (opn r)) (freshK (opn r)) := (fresh_kok (opn_tok r) (show 0 < 1099511627776 by decide)).1
theorem opn_tok2 (r : Bool) : Tok (freshS (opn r)).ts := by
  cases r with
  | true => exact Tok.nil
  | false => exact (fresh_kok (opn_tok false) (by decide)).2 rfl
theorem opn_len (r : Bool) : (freshS (opn r)).ts.length ≤ 1 := by
  cases r <;> decide +kernel

set_option maxRecDepth 100000 in
theorem open_spec (m : Nat) (A : Mem) (hm : m < 256) (hG : Glb A) : FnX Tryd.prog 13 [.int .u8 ((m : Nat) : Int)] [] A fun q M J => ∃ pb kv, q = .tuple #[.pointer (some ⟨pb, 0, none⟩), .agg #[kv, .int .u32 ((0 : Nat) : Int)]] ∧ Prm pb (freshS (opn (m % 2 == 0))) M ∧ By J kv (freshK (opn (m % 2 == 0))) := by
  refine FnX.enterZ (N := 21) Tryd.func13 rfl rfl rfl fun w_ => ?_
  refine XC.keep (kp 0 rfl kn) ?_
  refine XC.reg ?_
  refine XL.q (q_assign rfl) rfl ?_
  refine XL.lo rfl (l_alloc (cs := [.slice none 0 0, .int .u32 0]) (by kernel_rfl) rfl fun b3 => ?_)
  refine XL.fin (kp 0 rfl (kp 3 rfl kn)) ?_
  refine XC.reg ?_
  refine XL.q (q_move rfl) rfl ?_
  refine XL.q (q_remI (a := m) (b := 2) rfl rfl rfl rfl (by decide)) rfl ?_
  rw [md_mod m]
  refine XL.lo rfl (l_buildSlice (e := 5) (sz := 1) (z := [.int .u8 0, .int .u8 0, .int .u8 0, .int .u8 0, .int .u8 0]) (by kernel_rfl) (eS rfl (eS rfl (eS rfl (eS rfl (eS rfl e0))))) (bdS 0 1 rfl (by rfl) (bdS 1 1 rfl (by rfl) (bdS 2 1 rfl (by rfl) (bdS 3 1 rfl (by rfl) (bdS 4 1 rfl (by rfl) bd0))))) rfl fun b9 => ?_)
  refine XL.lo rfl (l_mark rfl (by kernel_rfl) UpC.upd rfl ?_)
  refine XL.frz (B := [_]) (PickC.sing).perm ?_
  refine XL.call (aS rfl (aS rfl a0)) (by kernel_rfl) (pnew_spec (m % 2 == 0) _ chainW _ ⟨Rd.whole (n := 5) (At.mem) (by rfl), by decide, by decide⟩) rfl ?_
  rintro v11 MP J11 ⟨pb, rfl, hP⟩
  refine XL.q (q_move rfl) rfl ?_
  refine XL.q (q_x0 rfl) rfl ?_
  refine XL.q (q_x1 rfl) rfl ?_
  refine XL.q (q_assign rfl) rfl ?_
  refine XL.q (q_assign rfl) rfl ?_
  refine XL.fin (kp 3 rfl (kp 4 rfl (kp 5 rfl kn))) ?_
  refine XC.seq ?_
  refine XC.reg ?_
  refine XL.q (q_move rfl) rfl ?_
  refine XL.q (q_cmp false rfl rfl (neF rfl)) rfl ?_
  refine XL.fin (kp 3 rfl (kp 4 rfl (kp 15 rfl kn))) ?_
  refine XC.condF rfl ?_
  refine XC.skip ?_
  refine nx (kp 3 rfl (kp 4 rfl kn)) ?_
  refine XC.reg ?_
  refine XL.q (q_move rfl) rfl ?_
  refine XL.q (q_move rfl) rfl ?_
  refine XL.lo rfl (l_call (Mc := MP) (R := _) (aS rfl a0) (by kernel_rfl) PickC.perm (fresh_spec pb _ MP _ hP (Nat.zero_le _) (show 0 < 1099511627776 by decide) hG.up) rfl ?_)
  rintro v19 M19 J19 ⟨hP19, hb19⟩
  haveI := hb19.cel
  refine XL.q (q_build (place := fun x => #[(0, 1), (1, 1)][x]?) (z := [.slice none 0 0, .int .u32 0]) (fun _ => by kernel_rfl) (eS rfl e0) (bdS 0 1 rfl (by rfl) bd0)) rfl ?_
  refine XL.q (q_assign rfl) rfl ?_
  refine XL.lo rfl (l_storeW rfl rfl Cel.cel (by kernel_rfl) (by rfl) (by intro c hc; simp only [List.mem_cons, List.not_mem_nil, or_false] at hc; rcases hc with rfl | rfl; exact hb19.one; rfl) UpC.upd ?_)
  refine XL.fin (kp 2 rfl (kp 3 rfl kn)) ?_
  refine XC.ret ?_
  exact ⟨_, M19, [], resT1C (n := 2) rfl rfl rfl (by kernel_rfl) At.mem (by rfl), Fit.none (Fit.last PickC.perm), pb, v19, rfl, hP19, hb19.mono (fun x hx => by simp [hx])⟩
