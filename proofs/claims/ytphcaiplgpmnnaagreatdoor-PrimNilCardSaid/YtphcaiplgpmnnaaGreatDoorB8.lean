/- Part 8 of the texts of this claim, one behind the other. -/
import Derived.Test.YtphcaiplgpmnnaaGreatDoorB7
set_option linter.unusedVariables false
set_option linter.unusedSimpArgs false
set_option maxRecDepth 100000
namespace Go.Proofs.YtphcaiplgpmnnaaGreatDoor
open Go.Px
/-- What the package variables hold. -/
structure Glb (A : Mem) : Prop where
  first : ∃ e f, (0, Obj.cells (nums .u32 hFirst.list).toArray e f) ∈ A
  round : ∃ e f, (1, Obj.cells (nums .u32 kTab).toArray e f) ∈ A
  pow : ∃ e f, (2, Obj.cells (nums .u64 pow10T).toArray e f) ∈ A
theorem Glb.sub {A A' : Mem} (h : Glb A) (hs : ∀ x, x ∈ A → x ∈ A') : Glb A' := by
  obtain ⟨⟨a, b, c⟩, ⟨d, e, f⟩, ⟨g, h, i⟩⟩ := h
  exact ⟨⟨a, b, hs _ c⟩, ⟨d, e, hs _ f⟩, ⟨g, h, hs _ i⟩⟩
theorem Glb.up {M J A : Mem} (h : Glb A) : Glb (M ++ (J ++ A)) := h.sub fun _ h => mA h
/-- What a Prim is: its mode, its seed, how many keys it made, its terms. -/
structure Ps where
  real : Bool
  seed : List Nat
  n : Nat
  ts : List Tm
def md (b : Bool) : Int := if b then 0 else 1
structure Prm (pb : Nat) (s : Ps) (M : Mem) : Prop where
  ex : ∃ (sv : Value) (bt bm : Nat) (B MT : Mem), M = (pb, blk [.int .u8 (md s.real), sv, .int .i64 ((s.n : Nat) : Int), .pointer (some ⟨bt, 0, none⟩)] 124) :: (B ++ MT) ∧ By B sv s.seed ∧ Tab bt bm s.ts MT
/-! ### The plain functions -/
def fitN (w : List Nat) (n : Nat) : List Nat := w.take n ++ List.replicate (n - w.length) 0
theorem fitN_len (w : List Nat) (n : Nat) : (fitN w n).length = n := by simp [fitN]; omega
theorem fitN_lt {w : List Nat} (h : ∀ x ∈ w, x < 256) (n : Nat) : ∀ x ∈ fitN w n, x < 256 := by
  intro x hx
  rcases List.mem_append.1 hx with h1 | h1
  · exact h x (List.mem_of_mem_take h1)
  · rw [(List.mem_replicate.1 h1).2]; decide
def le8n (n : Nat) : List Nat := (List.range 8).map (byt ((n : Nat) : Int))
def keyR (seed : List Nat) (n : Nat) : List Nat := expand (hmac [] seed) ([107, 101, 121] ++ le8n n) 32
def atom (n : Nat) : Tm := ⟨1, [], [], (n : Int)⟩
def freshS (s : Ps) : Ps := if s.real then { s with n := s.n + 1 } else { s with n := s.n + 1, ts := add s.ts (atom (s.n + 1)) }
def freshK (s : Ps) : List Nat := if s.real then keyR s.seed (s.n + 1) else bts ((at_ s.ts (atom (s.n + 1)) : Nat) : Int)
theorem freshS_t {s : Ps} (h : s.real = true) : freshS s = { s with n := s.n + 1 } := if_pos h
theorem freshS_f {s : Ps} (h : s.real = false) : freshS s = { s with n := s.n + 1, ts := add s.ts (atom (s.n + 1)) } := if_neg (by rw [h]; decide)
theorem freshK_t {s : Ps} (h : s.real = true) : freshK s = keyR s.seed (s.n + 1) := if_pos h
theorem freshK_f {s : Ps} (h : s.real = false) : freshK s = bts ((at_ s.ts (atom (s.n + 1)) : Nat) : Int) := if_neg (by rw [h]; decide)
theorem le8n_lt (n : Nat) : ∀ x ∈ le8n n, x < 256 := by
  intro x hx
  obtain ⟨k, _, rfl⟩ := List.mem_map.1 hx
  exact byt_lt _ _
theorem expand_lt (key info : List Nat) (n : Int) : ∀ x ∈ expand key info n, x < 256 := fun x hx => exp1_lt _ _ _ x (List.mem_of_mem_take hx)
theorem expand_le (key info : List Nat) (n : Int) : (expand key info n).length ≤ n.toNat := by unfold expand; exact List.length_take_le _ _
theorem atom_ok' {n : Nat} (h : n ≤ 1099511627776) : Tmo (atom n) := ⟨show 1 < 256 by decide, show i64 (n : Int) by unfold i64; omega, fun i hi => (List.not_mem_nil hi).elim, show 0 ≤ 1048576 by decide, ⟨fun x hx => (List.not_mem_nil hx).elim⟩, show 0 ≤ 1099511627776 by decide⟩
theorem bts_by {R : Mem} {v : Value} {i : Int} (h : Rd R 1 v 32 (nums .u8 (bts i))) : By R v (bts i) := ⟨by rw [show (bts i).length = 32 from btk_len i (by omega)]; exact h, bts_b i, by rw [show (bts i).length = 32 from btk_len i (by omega)]; decide⟩
theorem bytesJ_spec (i : Int) (A : Mem) : FnX Tryz.prog 44 [.int .i64 i] [] A fun r M J => M = [] ∧ By J r (bts i) :=
  ((bytes_spec i A).mono (post' := fun r M J => J = [] ∧ By M r (bts i)) fun v M J ⟨h1, h2⟩ => ⟨h1, bts_by (h2.rd fun _ h => h)⟩).frz0

theorem pnew_spec (r : Bool) (v : Value) (seed : List Nat) (A : Mem) (hv : By A v seed) : FnX Tryz.prog 48 [.int .u8 (md r), v] [] A fun q M J => ∃ pb, q = .tuple #[.pointer (some ⟨pb, 0, none⟩), .int .i64 0] ∧ Prm pb ⟨r, seed, 0, []⟩ M := by
 haveI := hv.cel
 have hvl := hv.len
 refine FnX.enterZ (N := 18) Tryz.func48 rfl rfl rfl fun w_ => ?_
 refine XC.keep (kq 0 (kq 1 kn)) ?_
 refine XC.reg ?_
 refine as_ (as_ ?_)
 refine XL.fin (kq 0 (kq 1 kn)) ?_
 refine XC.seq ?_
 cases r
 ·
  refine XC.reg ?_
  refine mv_ ?_
  refine XL.q (q_cmp true rfl rfl (neT (by decide))) rfl ?_
  refine mv_ ?_
  refine XL.gy rfl rfl (OpQ.opL qm_ rfl ?_)
  refine XL.gy rfl rfl (OpQ.opL (q_cmp false rfl rfl (neF (by rfl))) rfl ?_)
  refine XL.q (q_pickT rfl rfl) rfl ?_
  refine XL.fin (kq 0 (kq 1 (kq 11 kn))) ?_
  refine XC.condF rfl ?_
  refine XC.skip ?_
  refine nx (kq 0 (kq 1 kn)) ?_
  refine XC.reg ?_
  refine mv_ (mv_ ?_)
  refine XL.lo rfl (l_append2 (e := 5) (sz := 1) (by_ := 1) rfl rfl (by kernel_rfl) rfl Sl.nil (hv.rd.mono SubC.sub) nums_one PickC.perm (by unfold maxLen; omega) (by omega) rfl fun v14 B14 hs14 => ?_)
  haveI := hs14.cel
  refine XL.call a0 (by kernel_rfl) (newT_spec _) rfl ?_
  rintro v15 M15 J15 ⟨rfl, bt, bm, rfl, hT0⟩
  refine XL.q (q_build (place := fun x => #[(0, 1), (1, 1), (2, 1), (3, 1)][x]?) (z := [.int .u8 0, .slice none 0 0, .int .i64 0, .pointer none]) (fun _ => by kernel_rfl) (eS rfl (eS rfl (eS rfl e0))) (bdS 0 1 rfl (by rfl) (bdS 1 1 rfl (by rfl) (bdS 3 1 rfl (by rfl) bd0)))) rfl ?_
  refine XL.lo rfl (bx_ fun b17 => ?_)
  refine as_ (as_ ?_)
  refine XL.fin (kq 4 (kq 5 kn)) ?_
  refine XC.ret ?_
  refine ⟨_, (b17, _) :: (B14 ++ M15), [], res2 rfl rfl rfl, Fit.none (Fit.pick (B := [_]) PickC.perm (Fit.pick PickC.perm (Fit.last PickC.perm))), _, rfl, ⟨v14, bt, bm, B14, M15, rfl, ⟨?_, hv.lt, hv.len⟩, hT0⟩⟩
  have h := hs14.rd (R := B14) fun _ h => h
  simpa using h
 ·
  refine XC.reg ?_
  refine mv_ ?_
  refine XL.q (q_cmp false rfl rfl (neF (by rfl))) rfl ?_
  refine mv_ ?_
  refine XL.gn rfl rfl rfl rfl ?_
  refine XL.gn rfl rfl rfl rfl ?_
  refine XL.q (q_pickF rfl rfl) rfl ?_
  refine XL.fin (kq 0 (kq 1 (kq 11 kn))) ?_
  refine XC.condF rfl ?_
  refine XC.skip ?_
  refine nx (kq 0 (kq 1 kn)) ?_
  refine XC.reg ?_
  refine mv_ (mv_ ?_)
  refine XL.lo rfl (l_append2 (e := 5) (sz := 1) (by_ := 1) rfl rfl (by kernel_rfl) rfl Sl.nil (hv.rd.mono SubC.sub) nums_one PickC.perm (by unfold maxLen; omega) (by omega) rfl fun v14 B14 hs14 => ?_)
  haveI := hs14.cel
  refine XL.call a0 (by kernel_rfl) (newT_spec _) rfl ?_
  rintro v15 M15 J15 ⟨rfl, bt, bm, rfl, hT0⟩
  refine XL.q (q_build (place := fun x => #[(0, 1), (1, 1), (2, 1), (3, 1)][x]?) (z := [.int .u8 0, .slice none 0 0, .int .i64 0, .pointer none]) (fun _ => by kernel_rfl) (eS rfl (eS rfl (eS rfl e0))) (bdS 0 1 rfl (by rfl) (bdS 1 1 rfl (by rfl) (bdS 3 1 rfl (by rfl) bd0)))) rfl ?_
  refine XL.lo rfl (bx_ fun b17 => ?_)
  refine as_ (as_ ?_)
  refine XL.fin (kq 4 (kq 5 kn)) ?_
  refine XC.ret ?_
  refine ⟨_, (b17, _) :: (B14 ++ M15), [], res2 rfl rfl rfl, Fit.none (Fit.pick (B := [_]) PickC.perm (Fit.pick PickC.perm (Fit.last PickC.perm))), _, rfl, ⟨v14, bt, bm, B14, M15, rfl, ⟨?_, hv.lt, hv.len⟩, hT0⟩⟩
  have h := hs14.rd (R := B14) fun _ h => h
  simpa using h

theorem fit_spec (v : Value) (w : List Nat) (n : Nat) (A : Mem) (hv : By A v w) (hn : n ≤ 1000) : FnX Tryz.prog 81 [v, .int .i64 (n : Int)] [] A fun q M J => M = [] ∧ By J q (fitN w n) := by
 haveI := hv.cel
 have hvl := hv.len
 refine FnX.enterZ (N := 12) Tryz.func81 rfl rfl rfl fun w_ => ?_
 refine XC.keep (kq 0 (kq 1 kn)) ?_
 refine XC.reg ?_
 refine as_ ?_
 refine XL.fin (kq 0 (kq 1 kn)) ?_
 refine XC.reg ?_
 refine mv_ ?_
 refine XL.lo rfl (l_makeN (by_ := 1) (k := .u8) (e := 5) n rfl rfl (by kernel_rfl) rfl rfl (by omega) (by omega) rfl fun b7 => ?_)
 refine as_ ?_
 refine XL.fin (kq 0 (kq 5 kn)) ?_
 refine XC.reg ?_
 refine mv_ (mv_ ?_)
 refine XL.lo rfl (l_copyP (e := 5) (us := w) (ws := List.replicate n 0) (ws' := fitN w n) (by_ := 1) rfl rfl (by kernel_rfl) (hv.rd.mono SubC.sub) (by simp) (by simp [fitN]) UpC.upd rfl ?_)
 refine XL.fin (kq 5 kn) ?_
 refine XC.reg ?_
 refine mv_ (as_ ?_)
 refine XL.fin (kq 4 kn) ?_
 refine XC.ret ?_
 refine ⟨_, [], [(b7, blk (nums .u8 (fitN w n)) 5)], res1 rfl rfl, Fit.eq (by simp), ⟨rfl, ⟨?_, fitN_lt hv.lt n, by rw [fitN_len]; omega⟩⟩⟩
 rw [fitN_len]
 exact Rd.whole (n := n) List.mem_cons_self (by simp [fitN_len])

theorem fresh_spec (pb : Nat) (s : Ps) (MP A : Mem) (hP : Prm pb s MP) (hn : s.ts.length ≤ 1048576) (hk : s.n < 1099511627776) (hG : Glb A) : FnX Tryz.prog 40 [.pointer (some ⟨pb, 0, none⟩)] MP A fun q M J => Prm pb (freshS s) M ∧ By J q (freshK s) := by
 obtain ⟨sv, bt, bm, B, MT, rfl, hby, hT⟩ := hP.ex
 obtain ⟨⟨ge0, gf0, h0⟩, ⟨ge1, gf1, h1⟩, ⟨ge4, gf4, h4⟩⟩ := hG
 haveI := hby.cel
 refine FnX.enterZ (N := 55) Tryz.func40 rfl rfl rfl fun w_ => ?_
 refine XC.keep (kq 0 kn) ?_
 refine XC.reg ?_
 refine as_ ?_
 refine XL.fin (kq 0 kn) ?_
 refine XC.seq ?_
 refine XC.reg ?_
 refine mv_ ?_
 refine XL.q (q_ptrEqNil (e := 124) rfl rfl (by kernel_rfl)) rfl ?_
 refine XL.fin (kq 0 (kq 6 kn)) ?_
 refine XC.condF rfl ?_
 refine XC.skip ?_
 refine nx (kq 0 kn) ?_
 refine XC.reg ?_
 refine mv_ ?_
 refine XL.q (q_nil rfl) rfl ?_
 refine XL.q (qf_ 2 2) rfl ?_
 refine XL.q ql_ rfl ?_
 refine XL.q (q_addI (b := 1) rfl rfl rfl rfl (by omega)) rfl ?_
 refine XL.q (q_nil rfl) rfl ?_
 refine XL.q (qf_ 2 2) rfl ?_
 refine XL.lo rfl (l_store rfl rfl rfl (by kernel_rfl) SetC.set UpC.upd ?_)
 refine XL.fin (kq 0 kn) ?_
 refine XC.seq ?_
 refine XC.reg ?_
 refine mv_ ?_
 refine XL.q (q_nil rfl) rfl ?_
 refine XL.q (qf_ 0 0) rfl ?_
 refine XL.q ql_ rfl ?_
 refine XL.q (q_bin rfl rfl rfl) rfl ?_
 refine XL.fin (kq 0 (kq 18 kn)) ?_
 refine XC.cond rfl (fun hc => ?_) (fun hc => ?_)
 ·
  have hr : s.real = true := by cases hq : s.real with | true => rfl | false => rw [hq] at hc; exact absurd hc (by decide)
  refine XC.reg ?_
  refine as_ ?_
  refine XL.fin (kq 0 (kq 3 kn)) ?_
  refine XC.seq ?_
  refine XC.reg ?_
  refine mv_ ?_
  refine XL.fin (kq 0 (kq 3 (kq 19 kn))) ?_
  refine XC.block ?_
  refine XC.loop (α := Nat × Value × Mem) (fun x => [(0, .pointer (some ⟨pb, 0, none⟩)), (3, x.2.1), (19, .int .i64 ((x.1 : Nat) : Int))]) (fun x => x.2.2 ++ ((pb, blk [.int .u8 (md s.real), sv, .int .i64 (((s.n + 1 : Nat) : Int)), .pointer (some ⟨bt, 0, none⟩)] 124) :: (B ++ MT))) (fun _ => []) (fun x => x.1 ≤ 8 ∧ Sl 1 x.2.1 x.1 (nums .u8 ((List.range x.1).map (byt ((s.n + 1 : Nat) : Int)))) x.2.2) (fun x => 8 - x.1) ⟨0, .slice none 0 0, []⟩ ⟨Nat.zero_le _, Sl.nil⟩ (kq 0 (kq 3 (kq 19 kn))) .rfl (fun _ h => h) ?_
  rintro ⟨i, v3, B3⟩ ⟨hi, hs3⟩
  dsimp only at hi hs3 ⊢
  haveI := hs3.cel
  refine XC.reg ?_
  refine XL.q (q_bin rfl rfl rfl) rfl ?_
  refine XL.fin (kq 0 (kq 3 (kq 19 (kq 20 kn)))) ?_
  refine XC.seq ?_
  refine XC.cond rfl (fun hc => ?_) (fun hc => ?_)
  ·
   have hlt : i < 8 := by simp at hc; omega
   refine XC.skip ?_
   refine nx (kq 0 (kq 3 (kq 19 kn))) ?_
   refine XC.seq ?_
   refine XC.block ?_
   refine XC.reg ?_
   refine mv_ (as_ ?_)
   refine XL.fin (kq 0 (kq 3 (kq 4 (kq 19 kn)))) ?_
   refine XC.reg1 ?_
   refine mv_ (mv_ ?_)
   refine XL.q (q_nil rfl) rfl ?_
   refine XL.q (qf_ 2 2) rfl ?_
   refine XL.q ql_ rfl ?_
   refine mv_ ?_
   refine XL.q (q_mulI (a := 8) rfl rfl rfl rfl (by omega)) rfl ?_
   refine XL.q (q_shr8 (k := i) rfl rfl rfl hlt) rfl ?_
   refine XL.q (q_to8i rfl (by kernel_rfl)) rfl ?_
   refine XL.lo rfl (l_buildSlice (e := 5) (sz := 1) (z := [.int .u8 0]) (by kernel_rfl) (eS rfl e0) (bdS 0 1 rfl (by rfl) bd0) rfl fun b31 => ?_)
   refine XL.lo rfl (l_append2 (e := 5) (sz := 1) (by_ := 1) rfl rfl (by kernel_rfl) rfl (by first | assumption | exact Sl.nil) (Rd.whole (n := 1) At.mem (by rfl)) (by first | (simp [Value.oneCell']; done) | (intro c hc; simp only [List.mem_singleton] at hc; subst hc; first | exact Rd.one (by assumption) | exact Sl.one (by assumption))) PickC.perm (by unfold maxLen; omega) (by omega) rfl fun v32 B32 hs32 => ?_)
   refine as_ ?_
   refine XL.nil ?_
   refine nb ?_
   refine nx (kq 0 (kq 3 (kq 19 kn))) ?_
   refine XC.reg1 ?_
   refine XL.q (q_addI (b := 1) rfl rfl rfl rfl (by omega)) rfl ?_
   refine mv_ ?_
   refine XL.nil ?_
   exact rn ⟨i + 1, v32, B32⟩ ⟨by dsimp only; omega, by dsimp only; rw [List.range_succ, List.map_append, nums_append]; exact hs32⟩ (by dsimp only; omega) (kq 0 (kq 3 (kq 19 kn))) (Fit.pick PickC.perm (Fit.pick (B := [_]) PickC.perm (Fit.last PickC.perm))) (fun _ h => by cases h)
  ·
   have hge : i = 8 := by simp at hc; omega
   subst hge
   refine XC.exit ?_
   refine te ?_
   refine re ?_
   refine be rfl ?_
   refine nx (kq 0 (kq 3 kn)) ?_
   refine XC.reg ?_
   refine mv_ ?_
   refine XL.q (q_nil rfl) rfl ?_
   refine XL.q (qf_ 1 1) rfl ?_
   refine XL.q ql_ rfl ?_
   refine XL.call (aS rfl (aS rfl a0)) (by kernel_rfl) ((extract_spec (.slice none 0 0) sv [] s.seed _ Rd.nil (fun x h => by cases h) (by simp) (hby.rd.mono SubC.sub) hby.lt (by have := hby.len; omega) (mA h0) (mA h1)).frz0) rfl ?_
   rintro v38 M38 J38 ⟨rfl, h38⟩
   refine XL.lo rfl (l_buildSlice (e := 5) (sz := 1) (z := [.int .u8 0, .int .u8 0, .int .u8 0]) (by kernel_rfl) (eS rfl (eS rfl (eS rfl e0))) (bdS 0 1 rfl (by rfl) (bdS 1 1 rfl (by rfl) (bdS 2 1 rfl (by rfl) bd0))) rfl fun b39 => ?_)
   refine XL.lo rfl (l_mark rfl (by kernel_rfl) UpC.upd rfl ?_)
   refine mv_ ?_
   refine XL.lo rfl (l_appendC (e := 5) (sz := 1) (by_ := 1) (xs := nums .u8 [107, 101, 121]) rfl rfl (by kernel_rfl) rfl (Rd.whole (n := 3) At.mem (by rfl)) (hs3.rd SubC.sub) (by decide) (by decide) (by decide) rfl fun v42 B42 hs42 => ?_)
   have hs42 : Sl 1 v42 ([107, 101, 121] ++ le8n (s.n + 1)).length (nums .u8 ([107, 101, 121] ++ le8n (s.n + 1))) B42 := sl_eq hs42 (by simp [le8n]) (by rw [nums_append]; rfl)
   refine XL.call (aS rfl (aS rfl (aS rfl a0))) (by kernel_rfl) ((expand_spec v38 v42 (hmac [] s.seed) ([107, 101, 121] ++ le8n (s.n + 1)) 32 _ (by rw [hmac_len]; exact (h38.rd SubC.sub)) (hmac_lt _ _) (by rw [hmac_len]; decide) (hs42.rd SubC.sub) (fun x hx => by rcases List.mem_append.1 hx with h | h; (simp at h; omega); exact le8n_lt _ x h) (by simp [le8n]) (by decide) (by decide) (mA h0) (mA h1)).frz0) rfl ?_
   rintro v43 M43 J43 ⟨rfl, h43⟩
   refine as_ ?_
   refine XL.fin (kq 2 kn) ?_
   refine XC.ret ?_
   refine tr ?_
   exact ⟨_, (pb, blk [.int .u8 (md s.real), sv, .int .i64 (((s.n + 1 : Nat) : Int)), .pointer (some ⟨bt, 0, none⟩)] 124) :: (B ++ MT), [], res1 rfl rfl, (Fit.none (Fit.pick (B := [_]) PickC.perm (Fit.pick PickC.perm (Fit.last PickC.perm)))), by rw [freshS_t hr]; exact ⟨sv, bt, bm, B, MT, rfl, hby, hT⟩, by rw [freshK_t hr]; exact ⟨h43.mono SubC.sub, expand_lt _ _ _, Nat.le_trans (expand_le _ _ _) (by decide)⟩⟩
 ·
  have hr : s.real = false := by cases hq : s.real with | false => rfl | true => rw [hq] at hc; exact absurd hc (by decide)
  refine XC.skip ?_
  refine nx (kq 0 kn) ?_
  refine XC.drawF [0, 1, 2, 3, 4, 5, 6, 7, 8, 11] [(0, 0), (1, 0), (2, 0), (3, 1), (4, 0), (5, 0), (6, 0), (7, 1), (8, 0), (9, 2), (10, 2), (11, 0)] (by kernel_rfl) (by kernel_rfl) fun hs => ?_
  refine XF.q hs rfl qm_ rfl ?_
  refine XF.q hs rfl (q_nil rfl) rfl ?_
  refine XF.q hs rfl (qf_ 3 3) rfl ?_
  refine XF.r hs rfl ql_ rfl ?_
  refine XF.q hs rfl qm_ rfl ?_
  refine XF.q hs rfl (q_nil rfl) rfl ?_
  refine XF.q hs rfl (qf_ 2 2) rfl ?_
  refine XF.r hs rfl ql_ rfl ?_
  refine XF.q hs rfl (q_build (place := fun x => #[(0, 1), (1, 1), (2, 1), (3, 1)][x]?) (z := [.int .u8 0, .slice none 0 0, .string ByteArray.empty, .int .i64 0]) (fun _ => by kernel_rfl) (eS rfl (eS rfl e0)) (bdS 0 1 rfl (by rfl) (bdS 3 1 rfl (by rfl) bd0))) rfl ?_
  refine XF.tl rfl rfl rfl (l_call (Mc := MT) (R := _) (aS rfl (aS rfl a0)) (by kernel_rfl) PickC.perm (putT_spec bt bm s.ts (.slice none 0 0) (atom (s.n + 1)) MT _ hT hn Rd.nil (atom_ok' (by omega)) (mA h4)) rfl ?_)
  rintro v53 M53 J53 ⟨rfl, rfl, hT53⟩
  refine XF.tl rfl rfl rfl (l_call0 (aS rfl a0) (by kernel_rfl) (bytesJ_spec _ _) rfl ?_)
  rintro v54 M54 J54 ⟨rfl, h54⟩
  refine XF.q hs rfl (q_assign rfl) rfl ?_
  refine XF.fin (kq 2 kn) ?_
  refine XC.ret ?_
  exact ⟨_, (pb, blk [.int .u8 (md s.real), sv, .int .i64 (((s.n + 1 : Nat) : Int)), .pointer (some ⟨bt, 0, none⟩)] 124) :: (B ++ M53), [], res1 rfl rfl, (Fit.none (Fit.pick (B := [_]) PickC.perm (Fit.pick PickC.perm (Fit.last PickC.perm)))), by rw [freshS_f hr]; exact ⟨sv, bt, bm, B, M53, rfl, hby, hT53⟩, by rw [freshK_f hr]; exact h54.mono SubC.sub⟩

end Go.Proofs.YtphcaiplgpmnnaaGreatDoor
/- The walk of prim's Derive in both modes. -/
namespace Go.Proofs.YtphcaiplgpmnnaaGreatDoor
open Go.Px
def fits (ws : List (List Nat)) : List Nat := ws.flatMap fun w => fitN w 32
def bigR (key : List Nat) (ws : List (List Nat)) (lb : List Nat) (n : Nat) : List Nat := expand (hmac (fitN key 32) (fits ws)) lb ((32 * n : Nat) : Int)
def cutR (b : List Nat) (n : Nat) : List (List Nat) := (List.range n).map fun i => (b.take (32 * i + 32)).drop (32 * i)
def drv (ofs : List Int) (lb : List Nat) (i : Nat) : Tm := ⟨5, ofs, lb, (i : Int)⟩
def rdSt (st : List Tm × List Int) (w : List Nat) : List Tm × List Int := (rdT st.1 w, st.2 ++ [((rdI st.1 w : Nat) : Int)])
def rdAll (ts : List Tm) (key : List Nat) (ws : List (List Nat)) : List Tm × List Int := ws.foldl rdSt (rdSt (ts, []) key)
def ptSt (ofs : List Int) (lb : List Nat) (st : List Tm × List (List Nat)) (i : Nat) : List Tm × List (List Nat) := (add st.1 (drv ofs lb i), st.2 ++ [bts ((at_ st.1 (drv ofs lb i) : Nat) : Int)])
def ptAll (ts : List Tm) (ofs : List Int) (lb : List Nat) (n : Nat) : List Tm × List (List Nat) := (List.range n).foldl (ptSt ofs lb) (ts, [])
def derT (ts : List Tm) (key : List Nat) (ws : List (List Nat)) (lb : List Nat) (n : Nat) : List Tm × List (List Nat) := ptAll (rdAll ts key ws).1 (rdAll ts key ws).2 lb n
def derS (s : Ps) (key : List Nat) (ws : List (List Nat)) (lb : List Nat) (n : Nat) : Ps := if s.real then s else { s with ts := (derT s.ts key ws lb n).1 }
def derK (s : Ps) (key : List Nat) (ws : List (List Nat)) (lb : List Nat) (n : Nat) : List (List Nat) := if s.real then cutR (bigR key ws lb n) n else (derT s.ts key ws lb n).2
theorem rdI_lt {ts : List Tm} {w : List Nat} (hw : ∀ x ∈ w, x < 256) (hl : w.length ≤ 1099511627776) (hts : ∀ t ∈ ts, Tmo t) : rdI ts w < (rdT ts w).length := by
  cases hp : plc w ts.length with
  | some j =>
    obtain ⟨h1, h2⟩ := rdT_some hp
    rw [h1, h2]; exact (plc_lt hp).1
  | none =>
    obtain ⟨h1, h2⟩ := rdT_none hp
    rw [h1, h2]
    cases hq : pos ts (rawT w) with
    | some j =>
      obtain ⟨h3, h4⟩ := add_some hq
      rw [h3, h4]
      exact (List.getElem?_eq_some_iff.1 (pos_some (rawT_ok hw hl) hts hq)).1
    | none =>
      obtain ⟨h3, h4⟩ := add_none hq
      rw [h3, h4]; simp
theorem rdT_tmo {ts : List Tm} {w : List Nat} (hw : ∀ x ∈ w, x < 256) (hl : w.length ≤ 1099511627776) (hts : ∀ t ∈ ts, Tmo t) : ∀ t ∈ rdT ts w, Tmo t := by
  cases hp : plc w ts.length with
  | some j => rw [(rdT_some hp).1]; exact hts
  | none =>
    rw [(rdT_none hp).1]
    unfold add
    split
    · exact hts
    · intro t ht
      rcases List.mem_append.1 ht with h | h
      · exact hts t h
      · rw [List.mem_singleton.1 h]; exact rawT_ok hw hl
/-- What is known of the terms that were read. -/
structure RdOk (n0 k : Nat) (st : List Tm × List Int) : Prop where
  len : st.1.length ≤ n0 + k
  ofl : st.2.length = k
  of : ∀ x ∈ st.2, 0 ≤ x ∧ x < (st.1.length : Int)
  tmo : ∀ t ∈ st.1, Tmo t
theorem rdT_ge {ts : List Tm} {w : List Nat} : ts.length ≤ (rdT ts w).length := by
  cases hp : plc w ts.length with
  | some j => rw [(rdT_some hp).1]; exact Nat.le_refl _
  | none =>
    rw [(rdT_none hp).1]
    unfold add
    split <;> simp
theorem RdOk.step {n0 k : Nat} {st : List Tm × List Int} (h : RdOk n0 k st) {w : List Nat} (hw : ∀ x ∈ w, x < 256) (hl : w.length ≤ 1099511627776) : RdOk n0 (k + 1) (rdSt st w) := by
  refine ⟨?_, by simp [rdSt, h.ofl], ?_, rdT_tmo hw hl h.tmo⟩
  · have := rdT_len (ts := st.1) (ws := w)
    have := h.len
    show (rdT st.1 w).length ≤ _
    omega
  · intro x hx
    have hge := rdT_ge (ts := st.1) (w := w)
    have hlt := rdI_lt (ts := st.1) hw hl h.tmo
    show 0 ≤ x ∧ x < (((rdT st.1 w).length : Nat) : Int)
    rcases List.mem_append.1 hx with h1 | h1
    · have := h.of x h1; omega
    · rw [List.mem_singleton.1 h1]; omega
end Go.Proofs.YtphcaiplgpmnnaaGreatDoor
/- Plain laws of prim's keys of terms: what was derived is derived again; unlike keys. -/
namespace Go.Proofs.YtphcaiplgpmnnaaGreatDoor
open Go.Px
/-- A table's terms are whole, each once. -/
structure Tok (ts : List Tm) : Prop where
  tmo : ∀ t ∈ ts, Tmo t
  nd : ts.Nodup
theorem Tab.tok {bt bm : Nat} {ts : List Tm} {M : Mem} (h : Tab bt bm ts M) : Tok ts := by
  obtain ⟨_, _, _, _, _, _, _, _, _, _, _, h1, h2⟩ := h
  exact ⟨h1, h2⟩
theorem Tok.nil : Tok [] := ⟨(fun t h => by cases h), List.nodup_nil⟩
theorem pfact {ts : List Tm} {t : Tm} (ht : Tmo t) (h : Tok ts) : ∃ l, add ts t = ts ++ l ∧ (add ts t).length ≤ ts.length + 1 ∧ (add ts t)[at_ ts t]? = some t ∧ Tok (add ts t) := by
  cases hp : pos ts t with
  | some j =>
    obtain ⟨h1, h2⟩ := add_some hp
    exact ⟨[], by rw [h1, List.append_nil], add_len, by rw [h1, h2]; exact pos_some ht h.tmo hp, by rw [h1]; exact h⟩
  | none =>
    obtain ⟨h1, h2⟩ := add_none hp
    refine ⟨[t], h1, add_len, by rw [h1, h2]; simp, ?_⟩
    rw [h1]
    refine ⟨fun u hu => ?_, ?_⟩
    · rcases List.mem_append.1 hu with hu | hu
      · exact h.tmo u hu
      · rw [List.mem_singleton.1 hu]; exact ht
    · rw [List.nodup_append]
      refine ⟨h.nd, by simp, fun x hx y hy e => (pos_none ht h.tmo).1 hp ?_⟩
      rw [List.mem_singleton.1 hy] at e
      exact e ▸ hx
theorem ext_at {ts l : List Tm} {i : Nat} {t : Tm} (h : ts[i]? = some t) : (ts ++ l)[i]? = some t := by
  rw [List.getElem?_append_left (List.getElem?_eq_some_iff.1 h).1]; exact h
/-- A term that is there is put again: nothing changes. -/
theorem again {ts : List Tm} {t : Tm} {i : Nat} (h : Tok ts) (ht : ts[i]? = some t) : add ts t = ts ∧ at_ ts t = i := add_some (pos_of h.tmo h.nd ht)
theorem bts_inj {i j : Nat} (hi : i < 18446744073709551616) (hj : j < 18446744073709551616) (h : bts ((i : Nat) : Int) = bts ((j : Nat) : Int)) : i = j := by
  have h1 := plc_bts ((i : Nat) : Int) 18446744073709551616
  have h2 := plc_bts ((j : Nat) : Int) 18446744073709551616
  have ui : u64 ((i : Nat) : Int) = i := by unfold u64; omega
  have uj : u64 ((j : Nat) : Int) = j := by unfold u64; omega
  rw [ui, if_pos hi] at h1
  rw [uj, if_pos hj] at h2
  rw [h, h2] at h1
  exact (Option.some.inj h1).symm
/-- Bytes that stand for a place of a table. -/
def Good (ts : List Tm) (w : List Nat) : Prop := ∃ i, i < ts.length ∧ w = bts ((i : Nat) : Int)
theorem Good.ext {ts l : List Tm} {w : List Nat} (h : Good ts w) : Good (ts ++ l) w := by
  obtain ⟨i, hi, e⟩ := h
  exact ⟨i, by rw [List.length_append]; omega, e⟩
theorem good_rd {ts : List Tm} {i : Nat} (hi : i < ts.length) (hl : ts.length ≤ 1048576) : rdT ts (bts ((i : Nat) : Int)) = ts ∧ rdI ts (bts ((i : Nat) : Int)) = i := by
  refine rdT_some ?_
  rw [plc_bts, show u64 ((i : Nat) : Int) = i by unfold u64; omega, if_pos hi]
/-- The keys of terms by which a state goes on: good ones, or any of numbers. -/
def Kok (s : Ps) (w : List Nat) : Prop := s.real = false → Good s.ts w
/-- A state behind another one: the same seed, more terms. -/
structure Pext (s s' : Ps) : Prop where
  real : s'.real = s.real
  ts : ∃ l, s'.ts = s.ts ++ l
theorem Pext.refl (s : Ps) : Pext s s := ⟨rfl, [], by simp⟩
theorem Pext.trans {a b c : Ps} (h1 : Pext a b) (h2 : Pext b c) : Pext a c := by
  obtain ⟨l1, e1⟩ := h1.ts
  obtain ⟨l2, e2⟩ := h2.ts
  exact ⟨h2.real.trans h1.real, l1 ++ l2, by rw [e2, e1, List.append_assoc]⟩
theorem Kok.ext {s s' : Ps} {w : List Nat} (h : Kok s w) (he : Pext s s') : Kok s' w := fun hr => by
  obtain ⟨l, e⟩ := he.ts
  rw [e]
  exact (h (by rw [← he.real]; exact hr)).ext
theorem fresh_ext (s : Ps) : Pext s (freshS s) := by
  unfold freshS
  split
  · exact ⟨rfl, [], by simp⟩
  · refine ⟨rfl, ?_⟩
    show ∃ l, add _ _ = _ ++ l
    unfold add
    split
    · exact ⟨[], by simp⟩
    · exact ⟨_, rfl⟩
theorem fresh_kok {s : Ps} (h : Tok s.ts) (hn : s.n < 1099511627776) : Kok (freshS s) (freshK s) ∧ (s.real = false → Tok (freshS s).ts) := by
  cases hr : s.real with
  | true => exact ⟨(fun h1 => by rw [(fresh_ext s).real, hr] at h1; cases h1), (fun h => by cases h)⟩
  | false =>
    obtain ⟨l, g1, g2, g3, g4⟩ := pfact (atom_ok' (n := s.n + 1) (by omega)) h
    refine ⟨fun _ => ?_, fun _ => by rw [freshS_f hr]; exact g4⟩
    rw [freshS_f hr, freshK_f hr]
    exact ⟨_, (List.getElem?_eq_some_iff.1 g3).1, rfl⟩
end Go.Proofs.YtphcaiplgpmnnaaGreatDoor
/- The walks of prim's Public, Agree, Table of terms. -/
namespace Go.Proofs.YtphcaiplgpmnnaaGreatDoor
open Go.Px
/-- A Prim of which the table is named. -/
structure PrmT (pb bt bm : Nat) (s : Ps) (M : Mem) : Prop where
  ex : ∃ (sv : Value) (B MT : Mem), M = (pb, blk [.int .u8 (md s.real), sv, .int .i64 ((s.n : Nat) : Int), .pointer (some ⟨bt, 0, none⟩)] 124) :: (B ++ MT) ∧ By B sv s.seed ∧ Tab bt bm s.ts MT
theorem PrmT.p {pb bt bm : Nat} {s : Ps} {M : Mem} (h : PrmT pb bt bm s M) : Prm pb s M := by
  obtain ⟨sv, B, MT, h1, h2, h3⟩ := h.ex
  exact ⟨sv, bt, bm, B, MT, h1, h2, h3⟩
theorem Prm.t {pb : Nat} {s : Ps} {M : Mem} (h : Prm pb s M) : ∃ bt bm, PrmT pb bt bm s M := by
  obtain ⟨sv, bt, bm, B, MT, h1, h2, h3⟩ := h.ex
  exact ⟨bt, bm, sv, B, MT, h1, h2, h3⟩
def pubT (x : Int) : Tm := ⟨3, [x], [], 0⟩
def pubS (s : Ps) (w : List Nat) : Ps := { s with ts := add (rdT s.ts w) (pubT ((rdI s.ts w : Nat) : Int)) }
def pubK (s : Ps) (w : List Nat) : List Nat := bts ((at_ (rdT s.ts w) (pubT ((rdI s.ts w : Nat) : Int)) : Nat) : Int)
def agrS (s : Ps) (w u : List Nat) : Ps := { s with ts := add (rdT (rdT s.ts w) u) (agT (rdT (rdT s.ts w) u) ((rdI s.ts w : Nat) : Int) ((rdI (rdT s.ts w) u : Nat) : Int)) }
def agrK (s : Ps) (w u : List Nat) : List Nat := bts ((at_ (rdT (rdT s.ts w) u) (agT (rdT (rdT s.ts w) u) ((rdI s.ts w : Nat) : Int) ((rdI (rdT s.ts w) u : Nat) : Int)) : Nat) : Int)
theorem pub_ok {x : Int} (h : i64 x) : Tmo (pubT x) := ⟨show 3 < 256 by decide, show i64 (0 : Int) by unfold i64; omega, fun i hi => by rw [List.mem_singleton.1 hi]; exact h, show 1 ≤ 1048576 by decide, ⟨fun x hx => (List.not_mem_nil hx).elim⟩, show 0 ≤ 1099511627776 by decide⟩
theorem rdI_i64 {ts : List Tm} {w : List Nat} (hw : ∀ x ∈ w, x < 256) (hl : w.length ≤ 1099511627776) (hts : ∀ t ∈ ts, Tmo t) (hn : ts.length ≤ 1048576) : i64 ((rdI ts w : Nat) : Int) := by
  have h1 := rdI_lt hw hl hts
  have h2 : (rdT ts w).length ≤ ts.length + 1 := rdT_len
  unfold i64; omega

theorem pread2_spec (pb bt bm : Nat) (m k : Int) (sv : Value) [hsv : Cel sv [sv]] (ts : List Tm) (v : Value) (w : List Nat) (MT A : Mem) (hT : Tab bt bm ts MT) (hpb : (pb, blk [.int .u8 m, sv, .int .i64 k, .pointer (some ⟨bt, 0, none⟩)] 124) ∈ A) (hn : ts.length ≤ 1048576) (hv : By A v w) {e4 : TypeId} {f4 : Nat × Nat} (h4 : (2, Obj.cells (nums .u64 pow10T).toArray e4 f4) ∈ A) : FnX Tryz.prog 82 [.pointer (some ⟨pb, 0, none⟩), v] MT A fun q M J => q = .int .i64 ((rdI ts w : Nat) : Int) ∧ Tab bt bm (rdT ts w) M := by
 haveI := hv.cel
 have hvl := hv.len
 refine FnX.enterZ (N := 11) Tryz.func82 rfl rfl rfl fun w_ => ?_
 refine XC.keep (kq 0 (kq 1 kn)) ?_
 refine XC.reg ?_
 refine as_ ?_
 refine XL.fin (kq 0 (kq 1 kn)) ?_
 refine XC.reg ?_
 refine mv_ ?_
 refine XL.q (q_nil rfl) rfl ?_
 refine XL.q (qf_ 3 3) rfl ?_
 refine XL.q ql_ rfl ?_
 refine mv_ ?_
 refine XL.lo rfl (l_call (Mc := MT) (R := _) (aS rfl (aS rfl a0)) (by kernel_rfl) PickC.perm (read_spec bt bm ts v w MT _ hT hn (hv.rd.mono SubC.sub) hv.lt (by have := hv.len; omega) (SubC.sub _ h4)) rfl ?_)
 rintro v10 M10 J10 ⟨rfl, rfl, hT10⟩
 refine as_ ?_
 refine XL.fin (kq 4 kn) ?_
 refine XC.ret ?_
 exact ⟨_, M10, [], res1 rfl rfl, Fit.none (Fit.last PickC.perm), rfl, hT10⟩

theorem public_spec (pb bt bm : Nat) (s : Ps) (hr : s.real = false) (v : Value) (w : List Nat) (MP A : Mem) (hP : PrmT pb bt bm s MP) (hn : s.ts.length < 1048576) (hv : By A v w) (hG : Glb A) : FnX Tryz.prog 34 [.pointer (some ⟨pb, 0, none⟩), v] MP A fun q M J => PrmT pb bt bm (pubS s w) M ∧ By J q (pubK s w) := by
 obtain ⟨sv, B, MT, rfl, hby, hT⟩ := hP.ex
 have hmd : md s.real = 1 := by rw [hr]; rfl
 rw [hmd] at *
 obtain ⟨⟨ge0, gf0, h0⟩, ⟨ge1, gf1, h1⟩, ⟨ge4, gf4, h4⟩⟩ := hG
 haveI := hv.cel
 haveI := hby.cel
 have hvl := hv.len
 refine FnX.enterZ (N := 26) Tryz.func34 rfl rfl rfl fun w_ => ?_
 refine XC.keep (kq 0 (kq 1 kn)) ?_
 refine XC.reg ?_
 refine as_ ?_
 refine XL.fin (kq 0 (kq 1 kn)) ?_
 refine XC.seq ?_
 refine XC.reg ?_
 refine mv_ ?_
 refine XL.q (q_ptrEqNil (e := 124) rfl rfl (by kernel_rfl)) rfl ?_
 refine XL.fin (kq 0 (kq 1 (kq 6 kn))) ?_
 refine XC.condF rfl ?_
 refine XC.skip ?_
 refine nx (kq 0 (kq 1 kn)) ?_
 refine XC.seq ?_
 refine XC.reg ?_
 refine mv_ ?_
 refine XL.q (q_nil rfl) rfl ?_
 refine XL.q (qf_ 0 0) rfl ?_
 refine XL.q ql_ rfl ?_
 refine XL.q (q_cmp false rfl rfl (eqF (by decide))) rfl ?_
 refine XL.fin (kq 0 (kq 1 (kq 11 kn))) ?_
 refine XC.condF rfl ?_
 refine XC.skip ?_
 refine nx (kq 0 (kq 1 kn)) ?_
 refine XC.drawK (MT) (_) true [0, 1, 2, 3, 4, 5, 6, 7, 8, 11] [(0, 0), (1, 0), (2, 0), (3, 1), (4, 0), (5, 0), (6, 2), (7, 2), (8, 0), (9, 2), (10, 2), (11, 0)] (by kernel_rfl) (by kernel_rfl) PickC.perm fun hs K n0 hKm hKs hKn => ?_
 refine XK.q hs rfl qm_ rfl ?_
 refine XK.q hs rfl (q_nil rfl) rfl ?_
 refine XK.q hs rfl (qf_ 3 3) rfl ?_
 refine XK.r hs rfl kr_ hKs ql_ rfl ?_
 refine XK.q hs rfl qm_ rfl ?_
 refine XK.q hs rfl qm_ rfl ?_
 refine XK.lo _ _ rfl rfl (List.Perm.refl _) hKm fun w0 => (l_call (Mc := MT) (R := _) (aS rfl (aS rfl a0)) (by kernel_rfl) PickC.perm (pread2_spec pb bt bm 1 _ sv s.ts v w MT _ hT At.mem (by omega) (hv.mono SubC.sub) (SubC.sub _ h4)) rfl ?_)
 rintro v21 M21 J21 ⟨rfl, hT21⟩ hKx
 refine XK.lo [] _ rfl rfl (List.Perm.refl _) (fun _ h => by cases h) fun w0 => (l_buildSlice (e := 3) (sz := 1) (z := [.int .i64 0]) (by kernel_rfl) (eS rfl e0) (bdS 0 1 rfl (by rfl) bd0) rfl fun b22 => fun _ => ?_)
 refine XK.perm (M' := (b22, blk [.int .i64 ((rdI s.ts w : Nat) : Int)] 3) :: (M21 ++ ((pb, blk [.int .u8 1, sv, .int .i64 (((s.n : Nat) : Int)), .pointer (some ⟨bt, 0, none⟩)] 124) :: (B ++ [])))) (by simp) ?_
 refine XK.q hs rfl (q_build (place := fun x => #[(0, 1), (1, 1), (2, 1), (3, 1)][x]?) (z := [.int .u8 0, .slice none 0 0, .string ByteArray.empty, .int .i64 0]) (fun _ => by kernel_rfl) (eS rfl (eS rfl e0)) (bdS 0 1 rfl (by rfl) (bdS 1 1 rfl (by rfl) bd0))) rfl ?_
 refine XK.tl rfl rfl rfl (l_call (Mc := M21) (R := _) (aS rfl (aS rfl a0)) (by kernel_rfl) PickC.perm (putT_spec bt bm (rdT s.ts w) _ (pubT ((rdI s.ts w : Nat) : Int)) M21 _ hT21 (by have := rdT_len (ts := s.ts) (ws := w); omega) (Rd.whole (n := 1) At.mem (by rfl)) (pub_ok (rdI_i64 hv.lt (by omega) hT.tok.tmo (by omega))) (SubC.sub _ h4)) rfl ?_)
 rintro v24 M24 J24 ⟨rfl, rfl, hT24⟩
 refine XK.tl rfl rfl rfl (l_call0 (aS rfl a0) (by kernel_rfl) (bytesJ_spec _ _) rfl ?_)
 rintro v25 M25 J25 ⟨rfl, h25⟩
 refine XK.q hs rfl (q_assign rfl) rfl ?_
 refine XK.fin (kq 4 kn) ?_
 refine XC.ret ?_
 exact ⟨_, (pb, blk [.int .u8 1, sv, .int .i64 (((s.n : Nat) : Int)), .pointer (some ⟨bt, 0, none⟩)] 124) :: (B ++ M24), [], res1 rfl rfl, (Fit.none (Fit.pick (B := [_]) PickC.perm (Fit.pick PickC.perm (Fit.last PickC.perm)))), ⟨sv, B, M24, by rw [show md (pubS s w).real = 1 by show md s.real = 1; rw [hr]; rfl]; rfl, hby, hT24⟩, h25.mono SubC.sub⟩

theorem pagree_spec (pb bt bm : Nat) (s : Ps) (hr : s.real = false) (v v2 : Value) (w u : List Nat) (MP A : Mem) (hP : PrmT pb bt bm s MP) (hn : s.ts.length + 1 < 1048576) (hv : By A v w) (hu : By A v2 u) (hG : Glb A) : FnX Tryz.prog 52 [.pointer (some ⟨pb, 0, none⟩), v, v2] MP A fun q M J => PrmT pb bt bm (agrS s w u) M ∧ By J q (agrK s w u) := by
 obtain ⟨sv, B, MT, rfl, hby, hT⟩ := hP.ex
 have hmd : md s.real = 1 := by rw [hr]; rfl
 rw [hmd] at *
 obtain ⟨⟨ge0, gf0, h0⟩, ⟨ge1, gf1, h1⟩, ⟨ge4, gf4, h4⟩⟩ := hG
 haveI := hv.cel
 haveI := hu.cel
 haveI := hby.cel
 have hvl := hv.len
 have hul := hu.len
 refine FnX.enterZ (N := 31) Tryz.func52 rfl rfl rfl fun w_ => ?_
 refine XC.keep (kq 0 (kq 1 (kq 2 kn))) ?_
 refine XC.reg ?_
 refine as_ ?_
 refine XL.fin (kq 0 (kq 1 (kq 2 kn))) ?_
 refine XC.seq ?_
 refine XC.reg ?_
 refine mv_ ?_
 refine XL.q (q_ptrEqNil (e := 124) rfl rfl (by kernel_rfl)) rfl ?_
 refine XL.fin (kq 0 (kq 1 (kq 2 (kq 8 kn)))) ?_
 refine XC.condF rfl ?_
 refine XC.skip ?_
 refine nx (kq 0 (kq 1 (kq 2 kn))) ?_
 refine XC.seq ?_
 refine XC.reg ?_
 refine mv_ ?_
 refine XL.q (q_nil rfl) rfl ?_
 refine XL.q (qf_ 0 0) rfl ?_
 refine XL.q ql_ rfl ?_
 refine XL.q (q_cmp false rfl rfl (eqF (by decide))) rfl ?_
 refine XL.fin (kq 0 (kq 1 (kq 2 (kq 13 kn)))) ?_
 refine XC.condF rfl ?_
 refine XC.skip ?_
 refine nx (kq 0 (kq 1 (kq 2 kn))) ?_
 refine XC.drawK (MT) (_) true [0, 1, 2, 3, 4, 5, 6, 7, 8, 9, 12] [(0, 0), (1, 0), (2, 0), (3, 1), (4, 0), (5, 0), (7, 0), (8, 0), (6, 2), (9, 2), (10, 2), (11, 2), (12, 0)] (by kernel_rfl) (by kernel_rfl) PickC.perm fun hs K n0 hKm hKs hKn => ?_
 refine XK.q hs rfl qm_ rfl ?_
 refine XK.q hs rfl (q_nil rfl) rfl ?_
 refine XK.q hs rfl (qf_ 3 3) rfl ?_
 refine XK.r hs rfl kr_ hKs ql_ rfl ?_
 refine XK.q hs rfl qm_ rfl ?_
 refine XK.q hs rfl qm_ rfl ?_
 refine XK.q hs rfl qm_ rfl ?_
 refine XK.q hs rfl qm_ rfl ?_
 refine XK.lo _ _ rfl rfl (List.Perm.refl _) hKm fun w0 => (l_call (Mc := MT) (R := _) (aS rfl (aS rfl a0)) (by kernel_rfl) PickC.perm (pread2_spec pb bt bm 1 _ sv s.ts v w MT _ hT At.mem (by omega) (hv.mono SubC.sub) (SubC.sub _ h4)) rfl ?_)
 rintro v25 M25 J25 ⟨rfl, hT25⟩ hKx
 refine XK.lo (M25 ++ []) _ rfl rfl PickC.perm (hKx (hKn rfl)) fun w0 => (l_call (Mc := M25) (R := _) (aS rfl (aS rfl a0)) (by kernel_rfl) PickC.perm (pread2_spec pb bt bm 1 _ sv (rdT s.ts w) v2 u M25 _ hT25 At.mem (by have := rdT_len (ts := s.ts) (ws := w); omega) (hu.mono SubC.sub) (SubC.sub _ h4)) rfl ?_)
 rintro v28 M28 J28 ⟨rfl, hT28⟩ hKy
 refine XK.tl rfl rfl rfl (l_call (Mc := M28) (R := _) (aS rfl (aS rfl (aS rfl a0))) (by kernel_rfl) PickC.perm (agree_spec bt bm (rdT (rdT s.ts w) u) _ _ M28 _ hT28 (by have := rdT_len (ts := s.ts) (ws := w); have := rdT_len (ts := rdT s.ts w) (ws := u); omega) (rdI_i64 hv.lt (by omega) hT.tok.tmo (by omega)) (rdI_i64 hu.lt (by omega) hT25.tok.tmo (by have := rdT_len (ts := s.ts) (ws := w); omega)) (SubC.sub _ h4)) rfl ?_)
 rintro v29 M29 J29 ⟨rfl, rfl, hT29⟩
 refine XK.tl rfl rfl rfl (l_call0 (aS rfl a0) (by kernel_rfl) (bytesJ_spec _ _) rfl ?_)
 rintro v30 M30 J30 ⟨rfl, h30⟩
 refine XK.q hs rfl (q_assign rfl) rfl ?_
 refine XK.fin (kq 6 kn) ?_
 refine XC.ret ?_
 exact ⟨_, (pb, blk [.int .u8 1, sv, .int .i64 (((s.n : Nat) : Int)), .pointer (some ⟨bt, 0, none⟩)] 124) :: (B ++ M29), [], res1 rfl rfl, (Fit.none (Fit.pick (B := [_]) PickC.perm (Fit.pick PickC.perm (Fit.last PickC.perm)))), ⟨sv, B, M29, by rw [show md (agrS s w u).real = 1 by show md s.real = 1; rw [hr]; rfl]; rfl, hby, hT29⟩, h30.mono SubC.sub⟩

theorem public_p (pb : Nat) (s : Ps) (hr : s.real = false) (v : Value) (w : List Nat) (MP A : Mem) (hP : Prm pb s MP) (hn : s.ts.length < 1048576) (hv : By A v w) (hG : Glb A) : FnX Tryz.prog 34 [.pointer (some ⟨pb, 0, none⟩), v] MP A fun q M J => Prm pb (pubS s w) M ∧ By J q (pubK s w) := by
  obtain ⟨bt, bm, h⟩ := hP.t
  exact (public_spec pb bt bm s hr v w MP A h hn hv hG).mono fun q M J ⟨h1, h2⟩ => ⟨h1.p, h2⟩
theorem pagree_p (pb : Nat) (s : Ps) (hr : s.real = false) (v v2 : Value) (w u : List Nat) (MP A : Mem) (hP : Prm pb s MP) (hn : s.ts.length + 1 < 1048576) (hv : By A v w) (hu : By A v2 u) (hG : Glb A) : FnX Tryz.prog 52 [.pointer (some ⟨pb, 0, none⟩), v, v2] MP A fun q M J => Prm pb (agrS s w u) M ∧ By J q (agrK s w u) := by
  obtain ⟨bt, bm, h⟩ := hP.t
  exact (pagree_spec pb bt bm s hr v v2 w u MP A h hn hv hu hG).mono fun q M J ⟨h1, h2⟩ => ⟨h1.p, h2⟩

end Go.Proofs.YtphcaiplgpmnnaaGreatDoor
/- The walks of prim's Seal, Sign of terms. -/
namespace Go.Proofs.YtphcaiplgpmnnaaGreatDoor
open Go.Px
def selT (x : Int) (a b : List Nat) : Tm := ⟨6, [x], mark a ++ mark b, 0⟩
def sigT (x : Int) (m : List Nat) : Tm := ⟨7, [x], m, 0⟩
/-- One term of one other, put. -/
def one1 (s : Ps) (w : List Nat) (f : Int → Tm) : Ps := { s with ts := add (rdT s.ts w) (f ((rdI s.ts w : Nat) : Int)) }
def oneK (s : Ps) (w : List Nat) (f : Int → Tm) : List Nat := bts ((at_ (rdT s.ts w) (f ((rdI s.ts w : Nat) : Int)) : Nat) : Int)
end Go.Proofs.YtphcaiplgpmnnaaGreatDoor
/-
  Numbers modulo 2^255 - 19 in five parts of 51 bits. No program in sight.
-/
namespace Go.Px
abbrev p25 : Nat := 57896044618658097711785492504343953926634992332820282019728792003956564819949
/-- The number of five parts. -/
def fv (a b c d e : Nat) : Nat := a + 2251799813685248 * b + 5070602400912917605986812821504 * c + 11417981541647679048466287755595961091061972992 * d + 25711008708143844408671393477458601640355247900524685364822016 * e
/-- What settle does. -/
theorem settle_law {a b c d e a1 b1 c1 d1 e1 : Nat} (ha : a < 9223372036854775808) (hb : b < 9223372036854775808) (hc : c < 9223372036854775808) (hd : d < 9223372036854775808) (he : e < 9223372036854775808)
    (h1 : a1 = (a + 19 * (e / 2251799813685248) % 18446744073709551616) % 18446744073709551616) (h2 : b1 = (b + a1 / 2251799813685248) % 18446744073709551616) (h3 : c1 = (c + b1 / 2251799813685248) % 18446744073709551616)
    (h4 : d1 = (d + c1 / 2251799813685248) % 18446744073709551616) (h5 : e1 = (e % 2251799813685248 + d1 / 2251799813685248) % 18446744073709551616) :
    fv (a1 % 2251799813685248) (b1 % 2251799813685248) (c1 % 2251799813685248) (d1 % 2251799813685248) e1 + p25 * (e / 2251799813685248) = fv a b c d e ∧ e1 < 2251799813685248 + 8192 := by
  unfold fv p25
  omega
theorem mod_of_settle {v q V : Nat} (h : v + p25 * q = V) : v % p25 = V % p25 := by rw [← h, Nat.add_mul_mod_self_left]
theorem fv_add {a b c d e a2 b2 c2 d2 e2 : Nat} (ha : a < 4503599627370496) (hb : b < 4503599627370496) (hc : c < 4503599627370496) (hd : d < 4503599627370496) (he : e < 4503599627370496) (ha2 : a2 < 4503599627370496) (hb2 : b2 < 4503599627370496) (hc2 : c2 < 4503599627370496) (hd2 : d2 < 4503599627370496) (he2 : e2 < 4503599627370496) :
    fv ((a + a2) % 18446744073709551616) ((b + b2) % 18446744073709551616) ((c + c2) % 18446744073709551616) ((d + d2) % 18446744073709551616) ((e + e2) % 18446744073709551616) = fv a b c d e + fv a2 b2 c2 d2 e2 := by
  rw [Nat.mod_eq_of_lt (a := a + a2) (by omega), Nat.mod_eq_of_lt (a := b + b2) (by omega), Nat.mod_eq_of_lt (a := c + c2) (by omega), Nat.mod_eq_of_lt (a := d + d2) (by omega), Nat.mod_eq_of_lt (a := e + e2) (by omega)]
  unfold fv; omega
theorem lim_sub {a t b : Nat} (ha : a < 4503599627370496) (ht : t < 9007199254740992) (hb : b ≤ t) : (a + (t + (18446744073709551616 - b)) % 18446744073709551616) % 18446744073709551616 = a + t - b := by omega
theorem lim_sub' {a t b : Nat} (ha : a < 4503599627370496) (ht : t < 9007199254740992) (hb : b ≤ t) : a + t - b < 9223372036854775808 := by omega
theorem fv_sub {a b c d e a2 b2 c2 d2 e2 : Nat} (ha : a2 ≤ 9007199254740916) (hb : b2 ≤ 9007199254740988) (hc : c2 ≤ 9007199254740988) (hd : d2 ≤ 9007199254740988) (he : e2 ≤ 9007199254740988) :
    fv (a + 9007199254740916 - a2) (b + 9007199254740988 - b2) (c + 9007199254740988 - c2) (d + 9007199254740988 - d2) (e + 9007199254740988 - e2) + fv a2 b2 c2 d2 e2 = fv a b c d e + 4 * p25 := by
  unfold fv p25; omega
theorem sub_mod {A B V : Nat} (h : V + B = A + 4 * p25) : V % p25 = (A % p25 + p25 - B % p25) % p25 := by
  unfold p25 at *; omega
/-! ### Products -/
theorem mul64_law {x y x0 x1 y0 y1 w0 t w1 : Nat} (hx : x < 18446744073709551616) (hy : y < 18446744073709551616) (h1 : x0 = x % 4294967296) (h2 : x1 = x / 4294967296) (h3 : y0 = y % 4294967296) (h4 : y1 = y / 4294967296)
    (h5 : w0 = x0 * y0 % 18446744073709551616) (h6 : t = (x1 * y0 % 18446744073709551616 + w0 / 4294967296) % 18446744073709551616) (h7 : w1 = (t % 4294967296 + x0 * y1 % 18446744073709551616) % 18446744073709551616) :
    ((x1 * y1 % 18446744073709551616 + t / 4294967296) % 18446744073709551616 + w1 / 4294967296) % 18446744073709551616 = x * y / 18446744073709551616 := by
  have b0 : x0 ≤ 4294967295 := by omega
  have b1 : x1 ≤ 4294967295 := by omega
  have b2 : y0 ≤ 4294967295 := by omega
  have b3 : y1 ≤ 4294967295 := by omega
  have q0 := Nat.mul_le_mul b0 b2
  have q1 := Nat.mul_le_mul b1 b2
  have q2 := Nat.mul_le_mul b0 b3
  have q3 := Nat.mul_le_mul b1 b3
  have ex : x = x0 + 4294967296 * x1 := by omega
  have ey : y = y0 + 4294967296 * y1 := by omega
  have e : x * y = x0 * y0 + 4294967296 * (x1 * y0) + 4294967296 * (x0 * y1) + 18446744073709551616 * (x1 * y1) := by rw [ex, ey]; grind
  rw [e]
  clear e ex ey h1 h2 h3 h4 b0 b1 b2 b3 hx hy
  generalize x0 * y0 = A at *
  generalize x1 * y0 = B at *
  generalize x0 * y1 = C at *
  generalize x1 * y1 = E at *
  omega
theorem or13 {hi lo : Nat} (hh : hi < 18446744073709551616) (hl : lo < 18446744073709551616) : (hi * 8192 % 18446744073709551616 ||| lo / 2251799813685248) = (hi * 18446744073709551616 + lo) / 2251799813685248 % 18446744073709551616 := by
  have e : hi * 8192 % 18446744073709551616 = (hi % 2251799813685248) <<< 13 := by rw [Nat.shiftLeft_eq]; omega
  rw [e, ← Nat.shiftLeft_add_eq_or_of_lt (by show _ < 8192; omega), Nat.shiftLeft_eq]
  omega
theorem carry_step {R S T : Nat} (h0 : R < 2596148429267413814265248164610048) (h1 : S < 5192296858534827628530496329220096) (e : T = (R + S / 2251799813685248 % 18446744073709551616) % 340282366920938463463374607431768211456) : T = R + S / 2251799813685248 ∧ T < 5192296858534827628530496329220096 := by
  have a : S / 2251799813685248 < 18446744073709551616 := by omega
  rw [Nat.mod_eq_of_lt a, Nat.mod_eq_of_lt (by omega)] at e
  omega
theorem mul_tail {R0 R1 R2 R3 R4 S1 S2 S3 S4 l0 l1 l2 l3 l4 o0 o1 : Nat} (h0 : R0 < 2596148429267413814265248164610048) (h1 : R1 < 2596148429267413814265248164610048) (h2 : R2 < 2596148429267413814265248164610048) (h3 : R3 < 2596148429267413814265248164610048) (h4 : R4 < 162259276829213363391578010288128)
    (e1 : S1 = (R1 + R0 / 2251799813685248 % 18446744073709551616) % 340282366920938463463374607431768211456) (e2 : S2 = (R2 + S1 / 2251799813685248 % 18446744073709551616) % 340282366920938463463374607431768211456) (e3 : S3 = (R3 + S2 / 2251799813685248 % 18446744073709551616) % 340282366920938463463374607431768211456) (e4 : S4 = (R4 + S3 / 2251799813685248 % 18446744073709551616) % 340282366920938463463374607431768211456)
    (f0 : l0 % 2251799813685248 = R0 % 2251799813685248) (f1 : l1 % 2251799813685248 = S1 % 2251799813685248) (f2 : l2 % 2251799813685248 = S2 % 2251799813685248) (f3 : l3 % 2251799813685248 = S3 % 2251799813685248) (f4 : l4 % 2251799813685248 = S4 % 2251799813685248)
    (g0 : o0 = (l0 % 2251799813685248 + 19 * (S4 / 2251799813685248 % 18446744073709551616) % 18446744073709551616) % 18446744073709551616) (g1 : o1 = (l1 % 2251799813685248 + o0 / 2251799813685248) % 18446744073709551616) :
    o1 < 4503599627370496 ∧ fv (o0 % 2251799813685248) o1 (l2 % 2251799813685248) (l3 % 2251799813685248) (l4 % 2251799813685248) + p25 * (S4 / 2251799813685248) = R0 + 2251799813685248 * R1 + 5070602400912917605986812821504 * R2 + 11417981541647679048466287755595961091061972992 * R3 + 25711008708143844408671393477458601640355247900524685364822016 * R4 := by
  rw [f2, f3, f4]
  rw [f0] at g0
  rw [f1] at g1
  clear f0 f1 f2 f3 f4
  obtain ⟨k1, j1⟩ := carry_step h1 (by omega) e1
  obtain ⟨k2, j2⟩ := carry_step h2 j1 e2
  obtain ⟨k3, j3⟩ := carry_step h3 j2 e3
  obtain ⟨k4, j4⟩ := carry_step (by omega) j3 e4
  have j5 : S3 / 2251799813685248 < 2305843009213693952 := by clear e1 e2 e3 e4 k1 k2 k3 k4 g0 g1; omega
  clear e1 e2 e3 e4 j1 j2 j3
  have k5 : S4 < 324518553658426726783156020576256 := by clear g0 g1 k1 k2 k3; omega
  have j6 : S4 / 2251799813685248 < 288230376151711744 := by clear g0 g1 k1 k2 k3 k4; omega
  have k6 : o0 = R0 % 2251799813685248 + 19 * (S4 / 2251799813685248) := by clear g1 k1 k2 k3 k4 h0 h1 h2 h3 h4 k5 j5; omega
  have k7 : o1 = S1 % 2251799813685248 + o0 / 2251799813685248 := by clear g0 k1 k2 k3 k4 h0 h1 h2 h3 h4 k5 j5; omega
  clear g0 g1
  refine ⟨by clear k1 k2 k3 k4 h0 h1 h2 h3 h4 k5 j5; omega, ?_⟩
  clear h0 h1 h2 h3 h4 k5 j5 j6 j4
  unfold fv p25
  omega
theorem chain5 {x1 x2 x3 x4 x5 z1 z2 z3 z4 z5 : Nat} (h1 : z1 ≤ 385365782469381738054997774434304) (h2 : z2 ≤ 385365782469381738054997774434304) (h3 : z3 ≤ 385365782469381738054997774434304) (h4 : z4 ≤ 385365782469381738054997774434304) (h5 : z5 ≤ 385365782469381738054997774434304) (e1 : x1 = (0 * 18446744073709551616 + 0 + z1) % 340282366920938463463374607431768211456) (e2 : x2 = (x1 + z2) % 340282366920938463463374607431768211456) (e3 : x3 = (x2 + z3) % 340282366920938463463374607431768211456) (e4 : x4 = (x3 + z4) % 340282366920938463463374607431768211456) (e5 : x5 = (x4 + z5) % 340282366920938463463374607431768211456) :
    x5 = z1 + z2 + z3 + z4 + z5 := by omega
theorem lim19 {a : Nat} (h : a < 4503599627370496) : 19 * a % 18446744073709551616 = 19 * a := by omega
theorem zb {a b : Nat} (ha : a < 4503599627370496) (hb : b < 4503599627370496) : a * b ≤ 20282409603651670423947251286016 := Nat.le_trans (Nat.mul_le_mul (Nat.le_of_lt ha) (Nat.le_of_lt hb)) (by decide)
theorem zb19 {a b : Nat} (ha : a < 4503599627370496) (hb : b < 4503599627370496) : 19 * a * b ≤ 385365782469381738054997774434304 := Nat.le_trans (Nat.mul_le_mul (Nat.mul_le_mul_left 19 (Nat.le_of_lt ha)) (Nat.le_of_lt hb)) (by decide)
theorem mul_ring (a b c d e a2 b2 c2 d2 e2 : Nat) : fv a b c d e * fv a2 b2 c2 d2 e2 =
    (a * a2 + 19 * b * e2 + 19 * c * d2 + 19 * d * c2 + 19 * e * b2) + 2251799813685248 * (a * b2 + b * a2 + 19 * c * e2 + 19 * d * d2 + 19 * e * c2) + 5070602400912917605986812821504 * (a * c2 + b * b2 + c * a2 + 19 * d * e2 + 19 * e * d2) + 11417981541647679048466287755595961091061972992 * (a * d2 + b * c2 + c * b2 + d * a2 + 19 * e * e2) + 25711008708143844408671393477458601640355247900524685364822016 * (a * e2 + b * d2 + c * c2 + d * b2 + e * a2)
    + p25 * ((b * e2 + c * d2 + d * c2 + e * b2) + 2251799813685248 * (c * e2 + d * d2 + e * c2) + 5070602400912917605986812821504 * (d * e2 + e * d2) + 11417981541647679048466287755595961091061972992 * (e * e2)) := by
  unfold fv p25; grind
/-! ### The rounds of a product -/
def facX (as_ : List Nat) (i k : Nat) : Nat := if i + k < 5 then as_.getD i 0 else 19 * as_.getD i 0 % 18446744073709551616
def posX (i k : Nat) : Nat := if i + k < 5 then i + k else i + k - 5
def stepX (as_ bs : List Nat) (i k : Nat) (Xs : List Nat) : List Nat := Xs.set (posX i k) ((Xs.getD (posX i k) 0 + facX as_ i k * bs.getD k 0) % 340282366920938463463374607431768211456)
def rowX (as_ bs : List Nat) (i : Nat) : Nat → List Nat → List Nat
  | 0, Xs => Xs
  | k + 1, Xs => stepX as_ bs i k (rowX as_ bs i k Xs)
def allX (as_ bs : List Nat) : Nat → List Nat
  | 0 => [0, 0, 0, 0, 0]
  | i + 1 => rowX as_ bs i 5 (allX as_ bs i)
theorem rowX_len (as_ bs : List Nat) (i k : Nat) (Xs : List Nat) : (rowX as_ bs i k Xs).length = Xs.length := by
  induction k with
  | zero => rfl
  | succ k ih => simp [rowX, stepX, ih]
theorem allX_len (as_ bs : List Nat) (i : Nat) : (allX as_ bs i).length = 5 := by
  induction i with
  | zero => rfl
  | succ i ih => rw [allX, rowX_len, ih]
def lt128 (Xs : List Nat) : Prop := ∀ x ∈ Xs, x < 340282366920938463463374607431768211456
theorem rowX_lt (as_ bs : List Nat) (i k : Nat) {Xs : List Nat} (h : lt128 Xs) : lt128 (rowX as_ bs i k Xs) := by
  induction k with
  | zero => exact h
  | succ k ih =>
    intro x hx
    rcases List.mem_or_eq_of_mem_set hx with h1 | rfl
    · exact ih x h1
    · exact Nat.mod_lt _ (by decide)
theorem allX_lt (as_ bs : List Nat) (i : Nat) : lt128 (allX as_ bs i) := by
  induction i with
  | zero => intro x hx; simp [allX] at hx; subst hx; decide
  | succ i ih => exact rowX_lt _ _ _ _ ih
theorem allX_all (a b c d e a2 b2 c2 d2 e2 : Nat) (ha : a < 4503599627370496) (hb : b < 4503599627370496) (hc : c < 4503599627370496) (hd : d < 4503599627370496) (he : e < 4503599627370496) (ha2 : a2 < 4503599627370496) (hb2 : b2 < 4503599627370496) (hc2 : c2 < 4503599627370496) (hd2 : d2 < 4503599627370496) (he2 : e2 < 4503599627370496) :
    allX [a, b, c, d, e] [a2, b2, c2, d2, e2] 5 = [a * a2 + 19 * b * e2 + 19 * c * d2 + 19 * d * c2 + 19 * e * b2, a * b2 + b * a2 + 19 * c * e2 + 19 * d * d2 + 19 * e * c2, a * c2 + b * b2 + c * a2 + 19 * d * e2 + 19 * e * d2, a * d2 + b * c2 + c * b2 + d * a2 + 19 * e * e2, a * e2 + b * d2 + c * c2 + d * b2 + e * a2] := by
  have z {x y : Nat} (hx : x < 4503599627370496) (hy : y < 4503599627370496) : x * y ≤ 385365782469381738054997774434304 := Nat.le_trans (zb hx hy) (by decide)
  simp only [allX, rowX, stepX, facX, posX, List.set, List.getD_cons_zero, List.getD_cons_succ, Nat.reduceAdd, Nat.reduceLT, Nat.reduceSub, if_true, if_false, Nat.zero_add, Nat.add_zero, lim19 hb, lim19 hc, lim19 hd, lim19 he, reduceIte]
  rw [chain5 (z ha ha2) (zb19 hb he2) (zb19 hc hd2) (zb19 hd hc2) (zb19 he hb2) (by simp) rfl rfl rfl rfl, chain5 (z ha hb2) (z hb ha2) (zb19 hc he2) (zb19 hd hd2) (zb19 he hc2) (by simp) rfl rfl rfl rfl, chain5 (z ha hc2) (z hb hb2) (z hc ha2) (zb19 hd he2) (zb19 he hd2) (by simp) rfl rfl rfl rfl, chain5 (z ha hd2) (z hb hc2) (z hc hb2) (z hd ha2) (zb19 he he2) (by simp) rfl rfl rfl rfl, chain5 (z ha he2) (z hb hd2) (z hc hc2) (z hd hb2) (z he ha2) (by simp) rfl rfl rfl rfl]
/-! ### The least way -/
theorem settled_top {a b c d e a1 b1 c1 d1 e1 : Nat} (ha : a < 2251799813685248) (hb : b < 2251799813685248) (hc : c < 2251799813685248) (hd : d < 2251799813685248) (he : e < 2251799813685248 + 8192) (ha1 : a1 < 2251799813685248) (hb1 : b1 < 2251799813685248) (hc1 : c1 < 2251799813685248) (hd1 : d1 < 2251799813685248) (h : fv a1 b1 c1 d1 e1 + p25 * (e / 2251799813685248) = fv a b c d e) : e1 < 2251799813685248 := by
  have hq : e / 2251799813685248 = 0 ∨ e / 2251799813685248 = 1 := by omega
  unfold fv p25 at h
  rcases hq with hq | hq
  · rw [hq] at h; omega
  · rw [hq] at h; omega
theorem carry_in {a b c d e c0 c1 c2 c3 c4 : Nat} (ha : a < 2251799813685248) (hb : b < 2251799813685248) (hc : c < 2251799813685248) (hd : d < 2251799813685248) (he : e < 2251799813685248) (h0 : c0 = (a + 19) % 18446744073709551616 / 2251799813685248) (h1 : c1 = (b + c0) % 18446744073709551616 / 2251799813685248) (h2 : c2 = (c + c1) % 18446744073709551616 / 2251799813685248) (h3 : c3 = (d + c2) % 18446744073709551616 / 2251799813685248) (h4 : c4 = (e + c3) % 18446744073709551616 / 2251799813685248) :
    (c4 = 0 ∧ fv a b c d e < p25) ∨ (c4 = 1 ∧ p25 ≤ fv a b c d e) := by
  have k0 : c0 ≤ 1 := by omega
  have k1 : c1 ≤ 1 := by omega
  have k2 : c2 ≤ 1 := by omega
  have k3 : c3 ≤ 1 := by omega
  have k4 : c4 ≤ 1 := by omega
  unfold fv p25
  omega
theorem carry_out {a b c d e q a1 b1 c1 d1 e1 : Nat} (ha : a < 2251799813685248) (hb : b < 2251799813685248) (hc : c < 2251799813685248) (hd : d < 2251799813685248) (he : e < 2251799813685248) (hq : q ≤ 1) (h1 : a1 = (a + 19 * q % 18446744073709551616) % 18446744073709551616) (h2 : b1 = (b + a1 / 2251799813685248) % 18446744073709551616) (h3 : c1 = (c + b1 / 2251799813685248) % 18446744073709551616) (h4 : d1 = (d + c1 / 2251799813685248) % 18446744073709551616) (h5 : e1 = (e + d1 / 2251799813685248) % 18446744073709551616) :
    fv (a1 % 2251799813685248) (b1 % 2251799813685248) (c1 % 2251799813685248) (d1 % 2251799813685248) (e1 % 2251799813685248) + 57896044618658097711785492504343953926634992332820282019728792003956564819968 * (e1 / 2251799813685248) = fv a b c d e + 19 * q ∧ fv (a1 % 2251799813685248) (b1 % 2251799813685248) (c1 % 2251799813685248) (d1 % 2251799813685248) (e1 % 2251799813685248) < 57896044618658097711785492504343953926634992332820282019728792003956564819968 := by
  have k1 : a1 = a + 19 * q := by omega
  have k2 : b1 = b + a1 / 2251799813685248 := by omega
  have k3 : c1 = c + b1 / 2251799813685248 := by omega
  have k4 : d1 = d + c1 / 2251799813685248 := by omega
  have k5 : e1 = e + d1 / 2251799813685248 := by omega
  clear h1 h2 h3 h4 h5
  unfold fv
  omega
theorem bytes_law {V F k q : Nat} (h : (q = 0 ∧ V < p25) ∨ (q = 1 ∧ p25 ≤ V)) (hV : V < 57896044618658097711785492504343953926634992332820282019728792003956564819968) (h2 : F + 57896044618658097711785492504343953926634992332820282019728792003956564819968 * k = V + 19 * q ∧ F < 57896044618658097711785492504343953926634992332820282019728792003956564819968) : F = V % p25 := by
  unfold p25 at *
  rcases h with ⟨rfl, h⟩ | ⟨rfl, h⟩
  · rw [Nat.mod_eq_of_lt h]; omega
  · omega
theorem fv_lt {a b c d e : Nat} (ha : a < 2251799813685248) (hb : b < 2251799813685248) (hc : c < 2251799813685248) (hd : d < 2251799813685248) (he : e < 2251799813685248) : fv a b c d e < 57896044618658097711785492504343953926634992332820282019728792003956564819968 := by unfold fv; omega
theorem fv_digit {a b c d e : Nat} (ha : a < 2251799813685248) (hb : b < 2251799813685248) (hc : c < 2251799813685248) (hd : d < 2251799813685248) (he : e < 2251799813685248) (j : Nat) (hj : j < 5) : fv a b c d e / 2 ^ (51 * j) % 2 ^ 51 = [a, b, c, d, e].getD j 0 := by
  have : j = 0 ∨ j = 1 ∨ j = 2 ∨ j = 3 ∨ j = 4 := by omega
  unfold fv
  rcases this with rfl | rfl | rfl | rfl | rfl <;> simp only [Nat.reducePow, Nat.reduceMul, List.getD_cons_zero, List.getD_cons_succ] <;> omega
theorem fv_bit {a b c d e : Nat} (ha : a < 2251799813685248) (hb : b < 2251799813685248) (hc : c < 2251799813685248) (hd : d < 2251799813685248) (he : e < 2251799813685248) (i : Nat) (hi : i < 255) : [a, b, c, d, e].getD (i / 51) 0 / 2 ^ (i % 51) % 2 = fv a b c d e / 2 ^ i % 2 := by
  rw [← fv_digit ha hb hc hd he (i / 51) (by omega)]
  have h1 : i % 51 < 51 := Nat.mod_lt _ (by decide)
  have e : 2 ^ 51 = 2 ^ (i % 51) * (2 * 2 ^ (50 - i % 51)) := by rw [← Nat.pow_succ', ← Nat.pow_add]; congr 1; omega
  rw [e, Nat.mod_mul_right_div_self, Nat.mod_mul_right_mod, Nat.div_div_eq_div_mul, ← Nat.pow_add]
  congr 3; omega
theorem carry_q {a b c d e : Nat} (ha : a < 2251799813685248) (hb : b < 2251799813685248) (hc : c < 2251799813685248) (hd : d < 2251799813685248) (he : e < 2251799813685248) : ∃ q, q = (e + (d + (c + (b + (a + 19) % 18446744073709551616 / 2251799813685248) % 18446744073709551616 / 2251799813685248) % 18446744073709551616 / 2251799813685248) % 18446744073709551616 / 2251799813685248) % 18446744073709551616 / 2251799813685248 ∧ ((q = 0 ∧ fv a b c d e < p25) ∨ (q = 1 ∧ p25 ≤ fv a b c d e)) :=
  ⟨_, rfl, carry_in ha hb hc hd he rfl rfl rfl rfl rfl⟩
theorem bytes_all {a b c d e q : Nat} (ha : a < 2251799813685248) (hb : b < 2251799813685248) (hc : c < 2251799813685248) (hd : d < 2251799813685248) (he : e < 2251799813685248) (hq : (q = 0 ∧ fv a b c d e < p25) ∨ (q = 1 ∧ p25 ≤ fv a b c d e)) : ∃ f0 f1 f2 f3 f4, f0 = (a + 19 * q % 18446744073709551616) % 18446744073709551616 % 2251799813685248 ∧ f1 = (b + (a + 19 * q % 18446744073709551616) % 18446744073709551616 / 2251799813685248) % 18446744073709551616 % 2251799813685248 ∧ f2 = (c + (b + (a + 19 * q % 18446744073709551616) % 18446744073709551616 / 2251799813685248) % 18446744073709551616 / 2251799813685248) % 18446744073709551616 % 2251799813685248 ∧ f3 = (d + (c + (b + (a + 19 * q % 18446744073709551616) % 18446744073709551616 / 2251799813685248) % 18446744073709551616 / 2251799813685248) % 18446744073709551616 / 2251799813685248) % 18446744073709551616 % 2251799813685248 ∧ f4 = (e + (d + (c + (b + (a + 19 * q % 18446744073709551616) % 18446744073709551616 / 2251799813685248) % 18446744073709551616 / 2251799813685248) % 18446744073709551616 / 2251799813685248) % 18446744073709551616 / 2251799813685248) % 18446744073709551616 % 2251799813685248 ∧ f0 < 2251799813685248 ∧ f1 < 2251799813685248 ∧ f2 < 2251799813685248 ∧ f3 < 2251799813685248 ∧ f4 < 2251799813685248 ∧ fv f0 f1 f2 f3 f4 = fv a b c d e % p25 := by
  have hco := carry_out ha hb hc hd he (q := q) (by rcases hq with h | h <;> omega) rfl rfl rfl rfl rfl
  exact ⟨_, _, _, _, _, rfl, rfl, rfl, rfl, rfl, Nat.mod_lt _ (by decide), Nat.mod_lt _ (by decide), Nat.mod_lt _ (by decide), Nat.mod_lt _ (by decide), Nat.mod_lt _ (by decide), bytes_law hq (fv_lt ha hb hc hd he) hco⟩
end Go.Px

