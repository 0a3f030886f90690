/- Part 8 of the texts of this claim, one behind the other. -/
import Derived.Test.YtphcaiplgpmnnaaGreatDoorB7
set_option linter.unusedVariables false
set_option linter.unusedSimpArgs false
set_option maxRecDepth 100000
namespace Go.Proofs.YtphcaiplgpmnnaaGreatDoor
open Go.Px
/-- What the package variables hold. -/
structure Glb (A : Mem) : Prop where
  first : ∃ e f, (0, Obj.cells (nums .u32 hFirst.list).toArray e f) ∈ A
  round : ∃ e f, (1, Obj.cells (nums .u32 kTab).toArray e f) ∈ A
  pow : ∃ e f, (2, Obj.cells (nums .u64 pow10T).toArray e f) ∈ A
theorem Glb.sub {A A' : Mem} (h : Glb A) (hs : ∀ x, x ∈ A → x ∈ A') : Glb A' := by
  obtain ⟨⟨a, b, c⟩, ⟨d, e, f⟩, ⟨g, h, i⟩⟩ := h
  exact ⟨⟨a, b, hs _ c⟩, ⟨d, e, hs _ f⟩, ⟨g, h, hs _ i⟩⟩
theorem Glb.up {M J A : Mem} (h : Glb A) : Glb (M ++ (J ++ A)) := h.sub fun _ h => mA h
/-- What a Prim is: its mode, its seed, how many keys it made, its terms. -/
structure Ps where
  real : Bool
  seed : List Nat
  n : Nat
  ts : List Tm
def md (b : Bool) : Int := if b then 0 else 1
structure Prm (pb : Nat) (s : Ps) (M : Mem) : Prop where
  ex : ∃ (sv : Value) (bt bm : Nat) (B MT : Mem), M = (pb, blk [.int .u8 (md s.real), sv, .int .i64 ((s.n : Nat) : Int), .pointer (some ⟨bt, 0, none⟩)] 124) :: (B ++ MT) ∧ By B sv s.seed ∧ Tab bt bm s.ts MT
/-! ### The plain functions -/
def fitN (w : List Nat) (n : Nat) : List Nat := w.take n ++ List.replicate (n - w.length) 0
theorem fitN_len (w : List Nat) (n : Nat) : (fitN w n).length = n := by simp [fitN]; omega
theorem fitN_lt {w : List Nat} (h : ∀ x ∈ w, x < 256) (n : Nat) : ∀ x ∈ fitN w n, x < 256 := by
  intro x hx
  rcases List.mem_append.1 hx with h1 | h1
  · exact h x (List.mem_of_mem_take h1)
  · rw [(List.mem_replicate.1 h1).2]; decide
def le8n (n : Nat) : List Nat := (List.range 8).map (byt ((n : Nat) : Int))
def keyR (seed : List Nat) (n : Nat) : List Nat := expand (hmac [] seed) ([107, 101, 121] ++ le8n n) 32
def atom (n : Nat) : Tm := ⟨1, [], [], (n : Int)⟩
def freshS (s : Ps) : Ps := if s.real then { s with n := s.n + 1 } else { s with n := s.n + 1, ts := add s.ts (atom (s.n + 1)) }
def freshK (s : Ps) : List Nat := if s.real then keyR s.seed (s.n + 1) else bts ((at_ s.ts (atom (s.n + 1)) : Nat) : Int)
theorem freshS_t {s : Ps} (h : s.real = true) : freshS s = { s with n := s.n + 1 } := if_pos h
theorem freshS_f {s : Ps} (h : s.real = false) : freshS s = { s with n := s.n + 1, ts := add s.ts (atom (s.n + 1)) } := if_neg (by rw [h]; decide)
theorem freshK_t {s : Ps} (h : s.real = true) : freshK s = keyR s.seed (s.n + 1) := if_pos h
theorem freshK_f {s : Ps} (h : s.real = false) : freshK s = bts ((at_ s.ts (atom (s.n + 1)) : Nat) : Int) := if_neg (by rw [h]; decide)
theorem le8n_lt (n : Nat) : ∀ x ∈ le8n n, x < 256 := by
  intro x hx
  obtain ⟨k, _, rfl⟩ := List.mem_map.1 hx
  exact byt_lt _ _
theorem expand_lt (key info : List Nat) (n : Int) : ∀ x ∈ expand key info n, x < 256 := fun x hx => exp1_lt _ _ _ x (List.mem_of_mem_take hx)
theorem expand_le (key info : List Nat) (n : Int) : (expand key info n).length ≤ n.toNat := by unfold expand; exact List.length_take_le _ _
theorem atom_ok' {n : Nat} (h : n ≤ 1099511627776) : Tmo (atom n) := ⟨show 1 < 256 by decide, show i64 (n : Int) by unfold i64; omega, fun i hi => (List.not_mem_nil hi).elim, show 0 ≤ 1048576 by decide, ⟨fun x hx => (List.not_mem_nil hx).elim⟩, show 0 ≤ 1099511627776 by decide⟩
theorem bts_by {R : Mem} {v : Value} {i : Int} (h : Rd R 1 v 32 (nums .u8 (bts i))) : By R v (bts i) := ⟨by rw [show (bts i).length = 32 from btk_len i (by omega)]; exact h, bts_b i, by rw [show (bts i).length = 32 from btk_len i (by omega)]; decide⟩
theorem bytesJ_spec (i : Int) (A : Mem) : FnX Tryz.prog 44 [.int .i64 i] [] A fun r M J => M = [] ∧ By J r (bts i) :=
  ((bytes_spec i A).mono (post' := fun r M J => J = [] ∧ By M r (bts i)) fun v M J ⟨h1, h2⟩ => ⟨h1, bts_by (h2.rd fun _ h => h)⟩).frz0

theorem pnew_spec (r : Bool) (v : Value) (seed : List Nat) (A : Mem) (hv : By A v seed) : FnX Tryz.prog 48 [.int .u8 (md r), v] [] A fun q M J => ∃ pb, q = .tuple #[.pointer (some ⟨pb, 0, none⟩), .int .i64 0] ∧ Prm pb ⟨r, seed, 0, []⟩ M := by
 haveI := hv.cel
 have hvl := hv.len
 refine FnX.enterZ (N := 18) Tryz.func48 rfl rfl rfl fun w_ => ?_
 refine XC.keep (kq 0 (kq 1 kn)) ?_
 refine XC.reg ?_
 refine as_ (as_ ?_)
 refine XL.fin (kq 0 (kq 1 kn)) ?_
 refine XC.seq ?_
 cases r
 ·
  refine XC.reg ?_
  refine mv_ ?_
  refine XL.q (q_cmp true rfl rfl (neT (by decide))) rfl ?_
  refine mv_ ?_
  refine XL.gy rfl rfl (OpQ.opL qm_ rfl ?_)
  refine XL.gy rfl rfl (OpQ.opL (q_cmp false rfl rfl (neF (by rfl))) rfl ?_)
  refine XL.q (q_pickT rfl rfl) rfl ?_
  refine XL.fin (kq 0 (kq 1 (kq 11 kn))) ?_
  refine XC.condF rfl ?_
  refine XC.skip ?_
  refine nx (kq 0 (kq 1 kn)) ?_
  refine XC.reg ?_
  refine mv_ (mv_ ?_)
  refine XL.lo rfl (l_append2 (e := 5) (sz := 1) (by_ := 1) rfl rfl (by kernel_rfl) rfl Sl.nil (hv.rd.mono SubC.sub) nums_one PickC.perm (by unfold maxLen; omega) (by omega) rfl fun v14 B14 hs14 => ?_)
  haveI := hs14.cel
  refine XL.call a0 (by kernel_rfl) (newT_spec _) rfl ?_
  rintro v15 M15 J15 ⟨rfl, bt, bm, rfl, hT0⟩
  refine XL.q (q_build (place := fun x => #[(0, 1), (1, 1), (2, 1), (3, 1)][x]?) (z := [.int .u8 0, .slice none 0 0, .int .i64 0, .pointer none]) (fun _ => by kernel_rfl) (eS rfl (eS rfl (eS rfl e0))) (bdS 0 1 rfl (by rfl) (bdS 1 1 rfl (by rfl) (bdS 3 1 rfl (by rfl) bd0)))) rfl ?_
  refine XL.lo rfl (bx_ fun b17 => ?_)
  refine as_ (as_ ?_)
  refine XL.fin (kq 4 (kq 5 kn)) ?_
  refine XC.ret ?_
  refine ⟨_, (b17, _) :: (B14 ++ M15), [], res2 rfl rfl rfl, Fit.none (Fit.pick (B := [_]) PickC.perm (Fit.pick PickC.perm (Fit.last PickC.perm))), _, rfl, ⟨v14, bt, bm, B14, M15, rfl, ⟨?_, hv.lt, hv.len⟩, hT0⟩⟩
  have h := hs14.rd (R := B14) fun _ h => h
  simpa using h
 ·
  refine XC.reg ?_
  refine mv_ ?_
  refine XL.q (q_cmp false rfl rfl (neF (by rfl))) rfl ?_
  refine mv_ ?_
  refine XL.gn rfl rfl rfl rfl ?_
  refine XL.gn rfl rfl rfl rfl ?_
  refine XL.q (q_pickF rfl rfl) rfl ?_
  refine XL.fin (kq 0 (kq 1 (kq 11 kn))) ?_
  refine XC.condF rfl ?_
  refine XC.skip ?_
  refine nx (kq 0 (kq 1 kn)) ?_
  refine XC.reg ?_
  refine mv_ (mv_ ?_)
  refine XL.lo rfl (l_append2 (e := 5) (sz := 1) (by_ := 1) rfl rfl (by kernel_rfl) rfl Sl.nil (hv.rd.mono SubC.sub) nums_one PickC.perm (by unfold maxLen; omega) (by omega) rfl fun v14 B14 hs14 => ?_)
  haveI := hs14.cel
  refine XL.call a0 (by kernel_rfl) (newT_spec _) rfl ?_
  rintro v15 M15 J15 ⟨rfl, bt, bm, rfl, hT0⟩
  refine XL.q (q_build (place := fun x => #[(0, 1), (1, 1), (2, 1), (3, 1)][x]?) (z := [.int .u8 0, .slice none 0 0, .int .i64 0, .pointer none]) (fun _ => by kernel_rfl) (eS rfl (eS rfl (eS rfl e0))) (bdS 0 1 rfl (by rfl) (bdS 1 1 rfl (by rfl) (bdS 3 1 rfl (by rfl) bd0)))) rfl ?_
  refine XL.lo rfl (bx_ fun b17 => ?_)
  refine as_ (as_ ?_)
  refine XL.fin (kq 4 (kq 5 kn)) ?_
  refine XC.ret ?_
  refine ⟨_, (b17, _) :: (B14 ++ M15), [], res2 rfl rfl rfl, Fit.none (Fit.pick (B := [_]) PickC.perm (Fit.pick PickC.perm (Fit.last PickC.perm))), _, rfl, ⟨v14, bt, bm, B14, M15, rfl, ⟨?_, hv.lt, hv.len⟩, hT0⟩⟩
  have h := hs14.rd (R := B14) fun _ h => h
  simpa using h

theorem fit_spec (v : Value) (w : List Nat) (n : Nat) (A : Mem) (hv : By A v w) (hn : n ≤ 1000) : FnX Tryz.prog 81 [v, .int .i64 (n : Int)] [] A fun q M J => M = [] ∧ By J q (fitN w n) := by
 haveI := hv.cel
 have hvl := hv.len
 refine FnX.enterZ (N := 12) Tryz.func81 rfl rfl rfl fun w_ => ?_
 refine XC.keep (kq 0 (kq 1 kn)) ?_
 refine XC.reg ?_
 refine as_ ?_
 refine XL.fin (kq 0 (kq 1 kn)) ?_
 refine XC.reg ?_
 refine mv_ ?_
 refine XL.lo rfl (l_makeN (by_ := 1) (k := .u8) (e := 5) n rfl rfl (by kernel_rfl) rfl rfl (by omega) (by omega) rfl fun b7 => ?_)
 refine as_ ?_
 refine XL.fin (kq 0 (kq 5 kn)) ?_
 refine XC.reg ?_
 refine mv_ (mv_ ?_)
 refine XL.lo rfl (l_copyP (e := 5) (us := w) (ws := List.replicate n 0) (ws' := fitN w n) (by_ := 1) rfl rfl (by kernel_rfl) (hv.rd.mono SubC.sub) (by simp) (by simp [fitN]) UpC.upd rfl ?_)
 refine XL.fin (kq 5 kn) ?_
 refine XC.reg ?_
 refine mv_ (as_ ?_)
 refine XL.fin (kq 4 kn) ?_
 refine XC.ret ?_
 refine ⟨_, [], [(b7, blk (nums .u8 (fitN w n)) 5)], res1 rfl rfl, Fit.eq (by simp), ⟨rfl, ⟨?_, fitN_lt hv.lt n, by rw [fitN_len]; omega⟩⟩⟩
 rw [fitN_len]
 exact Rd.whole (n := n) List.mem_cons_self (by simp [fitN_len])

theorem pread_spec (pb : Nat) (s : Ps) (v : Value) (w : List Nat) (MP A : Mem) (hP : Prm pb s MP) (hn : s.ts.length ≤ 1048576) (hv : By A v w) (hG : Glb A) : FnX Tryz.prog 82 [.pointer (some ⟨pb, 0, none⟩), v] MP A fun q M J => q = .int .i64 ((rdI s.ts w : Nat) : Int) ∧ Prm pb { s with ts := rdT s.ts w } M := by
 obtain ⟨sv, bt, bm, B, MT, rfl, hby, hT⟩ := hP.ex
 obtain ⟨⟨ge0, gf0, h0⟩, ⟨ge1, gf1, h1⟩, ⟨ge4, gf4, h4⟩⟩ := hG
 haveI := hv.cel
 have hvl := hv.len
 refine FnX.enterZ (N := 11) Tryz.func82 rfl rfl rfl fun w_ => ?_
 refine XC.keep (kq 0 (kq 1 kn)) ?_
 refine XC.reg ?_
 refine as_ ?_
 refine XL.fin (kq 0 (kq 1 kn)) ?_
 refine XC.reg ?_
 refine mv_ ?_
 refine XL.q (q_nil rfl) rfl ?_
 refine XL.q (qf_ 3 3) rfl ?_
 refine XL.q ql_ rfl ?_
 refine mv_ ?_
 refine XL.lo rfl (l_call (Mc := MT) (R := _) (aS rfl (aS rfl a0)) (by kernel_rfl) PickC.perm (read_spec bt bm s.ts v w MT _ hT hn (hv.rd.mono SubC.sub) hv.lt (by omega) (mA h4)) rfl ?_)
 rintro v10 M10 J10 ⟨rfl, rfl, hT10⟩
 refine as_ ?_
 refine XL.fin (kq 4 kn) ?_
 refine XC.ret ?_
 exact ⟨_, (pb, blk [.int .u8 (md s.real), sv, .int .i64 (((s.n : Nat) : Int)), .pointer (some ⟨bt, 0, none⟩)] 124) :: (B ++ M10), [], res1 rfl rfl, (Fit.none (Fit.pick (B := [_]) PickC.perm (Fit.pick PickC.perm (Fit.last PickC.perm)))), rfl, ⟨sv, bt, bm, B, M10, rfl, hby, hT10⟩⟩

theorem fresh_spec (pb : Nat) (s : Ps) (MP A : Mem) (hP : Prm pb s MP) (hn : s.ts.length ≤ 1048576) (hk : s.n < 1099511627776) (hG : Glb A) : FnX Tryz.prog 40 [.pointer (some ⟨pb, 0, none⟩)] MP A fun q M J => Prm pb (freshS s) M ∧ By J q (freshK s) := by
 obtain ⟨sv, bt, bm, B, MT, rfl, hby, hT⟩ := hP.ex
 obtain ⟨⟨ge0, gf0, h0⟩, ⟨ge1, gf1, h1⟩, ⟨ge4, gf4, h4⟩⟩ := hG
 haveI := hby.cel
 refine FnX.enterZ (N := 55) Tryz.func40 rfl rfl rfl fun w_ => ?_
 refine XC.keep (kq 0 kn) ?_
 refine XC.reg ?_
 refine as_ ?_
 refine XL.fin (kq 0 kn) ?_
 refine XC.seq ?_
 refine XC.reg ?_
 refine mv_ ?_
 refine XL.q (q_ptrEqNil (e := 124) rfl rfl (by kernel_rfl)) rfl ?_
 refine XL.fin (kq 0 (kq 6 kn)) ?_
 refine XC.condF rfl ?_
 refine XC.skip ?_
 refine nx (kq 0 kn) ?_
 refine XC.reg ?_
 refine mv_ ?_
 refine XL.q (q_nil rfl) rfl ?_
 refine XL.q (qf_ 2 2) rfl ?_
 refine XL.q ql_ rfl ?_
 refine XL.q (q_addI (b := 1) rfl rfl rfl rfl (by omega)) rfl ?_
 refine XL.q (q_nil rfl) rfl ?_
 refine XL.q (qf_ 2 2) rfl ?_
 refine XL.lo rfl (l_store rfl rfl rfl (by kernel_rfl) SetC.set UpC.upd ?_)
 refine XL.fin (kq 0 kn) ?_
 refine XC.seq ?_
 refine XC.reg ?_
 refine mv_ ?_
 refine XL.q (q_nil rfl) rfl ?_
 refine XL.q (qf_ 0 0) rfl ?_
 refine XL.q ql_ rfl ?_
 refine XL.q (q_bin rfl rfl rfl) rfl ?_
 refine XL.fin (kq 0 (kq 18 kn)) ?_
 refine XC.cond rfl (fun hc => ?_) (fun hc => ?_)
 ·
  have hr : s.real = true := by cases hq : s.real with | true => rfl | false => rw [hq] at hc; exact absurd hc (by decide)
  refine XC.reg ?_
  refine as_ ?_
  refine XL.fin (kq 0 (kq 3 kn)) ?_
  refine XC.seq ?_
  refine XC.reg ?_
  refine mv_ ?_
  refine XL.fin (kq 0 (kq 3 (kq 19 kn))) ?_
  refine XC.block ?_
  refine XC.loop (α := Nat × Value × Mem) (fun x => [(0, .pointer (some ⟨pb, 0, none⟩)), (3, x.2.1), (19, .int .i64 ((x.1 : Nat) : Int))]) (fun x => x.2.2 ++ ((pb, blk [.int .u8 (md s.real), sv, .int .i64 (((s.n + 1 : Nat) : Int)), .pointer (some ⟨bt, 0, none⟩)] 124) :: (B ++ MT))) (fun _ => []) (fun x => x.1 ≤ 8 ∧ Sl 1 x.2.1 x.1 (nums .u8 ((List.range x.1).map (byt ((s.n + 1 : Nat) : Int)))) x.2.2) (fun x => 8 - x.1) ⟨0, .slice none 0 0, []⟩ ⟨Nat.zero_le _, Sl.nil⟩ (kq 0 (kq 3 (kq 19 kn))) .rfl (fun _ h => h) ?_
  rintro ⟨i, v3, B3⟩ ⟨hi, hs3⟩
  dsimp only at hi hs3 ⊢
  haveI := hs3.cel
  refine XC.reg ?_
  refine XL.q (q_bin rfl rfl rfl) rfl ?_
  refine XL.fin (kq 0 (kq 3 (kq 19 (kq 20 kn)))) ?_
  refine XC.seq ?_
  refine XC.cond rfl (fun hc => ?_) (fun hc => ?_)
  ·
   have hlt : i < 8 := by simp at hc; omega
   refine XC.skip ?_
   refine nx (kq 0 (kq 3 (kq 19 kn))) ?_
   refine XC.seq ?_
   refine XC.block ?_
   refine XC.reg ?_
   refine mv_ (as_ ?_)
   refine XL.fin (kq 0 (kq 3 (kq 4 (kq 19 kn)))) ?_
   refine XC.reg1 ?_
   refine mv_ (mv_ ?_)
   refine XL.q (q_nil rfl) rfl ?_
   refine XL.q (qf_ 2 2) rfl ?_
   refine XL.q ql_ rfl ?_
   refine mv_ ?_
   refine XL.q (q_mulI (a := 8) rfl rfl rfl rfl (by omega)) rfl ?_
   refine XL.q (q_shr8 (k := i) rfl rfl rfl hlt) rfl ?_
   refine XL.q (q_to8i rfl (by kernel_rfl)) rfl ?_
   refine XL.lo rfl (l_buildSlice (e := 5) (sz := 1) (z := [.int .u8 0]) (by kernel_rfl) (eS rfl e0) (bdS 0 1 rfl (by rfl) bd0) rfl fun b31 => ?_)
   refine XL.lo rfl (l_append2 (e := 5) (sz := 1) (by_ := 1) rfl rfl (by kernel_rfl) rfl (by first | assumption | exact Sl.nil) (Rd.whole (n := 1) At.mem (by rfl)) (by first | (simp [Value.oneCell']; done) | (intro c hc; simp only [List.mem_singleton] at hc; subst hc; first | exact Rd.one (by assumption) | exact Sl.one (by assumption))) PickC.perm (by unfold maxLen; omega) (by omega) rfl fun v32 B32 hs32 => ?_)
   refine as_ ?_
   refine XL.nil ?_
   refine nb ?_
   refine nx (kq 0 (kq 3 (kq 19 kn))) ?_
   refine XC.reg1 ?_
   refine XL.q (q_addI (b := 1) rfl rfl rfl rfl (by omega)) rfl ?_
   refine mv_ ?_
   refine XL.nil ?_
   exact rn ⟨i + 1, v32, B32⟩ ⟨by dsimp only; omega, by dsimp only; rw [List.range_succ, List.map_append, nums_append]; exact hs32⟩ (by dsimp only; omega) (kq 0 (kq 3 (kq 19 kn))) (Fit.pick PickC.perm (Fit.pick (B := [_]) PickC.perm (Fit.last PickC.perm))) (fun _ h => by cases h)
  ·
   have hge : i = 8 := by simp at hc; omega
   subst hge
   refine XC.exit ?_
   refine te ?_
   refine re ?_
   refine be rfl ?_
   refine nx (kq 0 (kq 3 kn)) ?_
   refine XC.reg ?_
   refine mv_ ?_
   refine XL.q (q_nil rfl) rfl ?_
   refine XL.q (qf_ 1 1) rfl ?_
   refine XL.q ql_ rfl ?_
   refine XL.call (aS rfl (aS rfl a0)) (by kernel_rfl) ((extract_spec (.slice none 0 0) sv [] s.seed _ Rd.nil (fun x h => by cases h) (by simp) (hby.rd.mono SubC.sub) hby.lt (by have := hby.len; omega) (mA h0) (mA h1)).frz0) rfl ?_
   rintro v38 M38 J38 ⟨rfl, h38⟩
   refine XL.lo rfl (l_buildSlice (e := 5) (sz := 1) (z := [.int .u8 0, .int .u8 0, .int .u8 0]) (by kernel_rfl) (eS rfl (eS rfl (eS rfl e0))) (bdS 0 1 rfl (by rfl) (bdS 1 1 rfl (by rfl) (bdS 2 1 rfl (by rfl) bd0))) rfl fun b39 => ?_)
   refine XL.lo rfl (l_mark rfl (by kernel_rfl) UpC.upd rfl ?_)
   refine mv_ ?_
   refine XL.lo rfl (l_appendC (e := 5) (sz := 1) (by_ := 1) (xs := nums .u8 [107, 101, 121]) rfl rfl (by kernel_rfl) rfl (Rd.whole (n := 3) At.mem (by rfl)) (hs3.rd SubC.sub) (by decide) (by decide) (by decide) rfl fun v42 B42 hs42 => ?_)
   have hs42 : Sl 1 v42 ([107, 101, 121] ++ le8n (s.n + 1)).length (nums .u8 ([107, 101, 121] ++ le8n (s.n + 1))) B42 := sl_eq hs42 (by simp [le8n]) (by rw [nums_append]; rfl)
   refine XL.call (aS rfl (aS rfl (aS rfl a0))) (by kernel_rfl) ((expand_spec v38 v42 (hmac [] s.seed) ([107, 101, 121] ++ le8n (s.n + 1)) 32 _ (by rw [hmac_len]; exact (h38.rd SubC.sub)) (hmac_lt _ _) (by rw [hmac_len]; decide) (hs42.rd SubC.sub) (fun x hx => by rcases List.mem_append.1 hx with h | h; (simp at h; omega); exact le8n_lt _ x h) (by simp [le8n]) (by decide) (by decide) (mA h0) (mA h1)).frz0) rfl ?_
   rintro v43 M43 J43 ⟨rfl, h43⟩
   refine as_ ?_
   refine XL.fin (kq 2 kn) ?_
   refine XC.ret ?_
   refine tr ?_
   exact ⟨_, (pb, blk [.int .u8 (md s.real), sv, .int .i64 (((s.n + 1 : Nat) : Int)), .pointer (some ⟨bt, 0, none⟩)] 124) :: (B ++ MT), [], res1 rfl rfl, (Fit.none (Fit.pick (B := [_]) PickC.perm (Fit.pick PickC.perm (Fit.last PickC.perm)))), by rw [freshS_t hr]; exact ⟨sv, bt, bm, B, MT, rfl, hby, hT⟩, by rw [freshK_t hr]; exact ⟨h43.mono SubC.sub, expand_lt _ _ _, Nat.le_trans (expand_le _ _ _) (by decide)⟩⟩
 ·
  have hr : s.real = false := by cases hq : s.real with | false => rfl | true => rw [hq] at hc; exact absurd hc (by decide)
  refine XC.skip ?_
  refine nx (kq 0 kn) ?_
  refine XC.drawF [0, 1, 2, 3, 4, 5, 6, 7, 8, 11] [(0, 0), (1, 0), (2, 0), (3, 1), (4, 0), (5, 0), (6, 0), (7, 1), (8, 0), (9, 2), (10, 2), (11, 0)] (by kernel_rfl) (by kernel_rfl) fun hs => ?_
  refine XF.q hs rfl qm_ rfl ?_
  refine XF.q hs rfl (q_nil rfl) rfl ?_
  refine XF.q hs rfl (qf_ 3 3) rfl ?_
  refine XF.r hs rfl ql_ rfl ?_
  refine XF.q hs rfl qm_ rfl ?_
  refine XF.q hs rfl (q_nil rfl) rfl ?_
  refine XF.q hs rfl (qf_ 2 2) rfl ?_
  refine XF.r hs rfl ql_ rfl ?_
  refine XF.q hs rfl (q_build (place := fun x => #[(0, 1), (1, 1), (2, 1), (3, 1)][x]?) (z := [.int .u8 0, .slice none 0 0, .string ByteArray.empty, .int .i64 0]) (fun _ => by kernel_rfl) (eS rfl (eS rfl e0)) (bdS 0 1 rfl (by rfl) (bdS 3 1 rfl (by rfl) bd0))) rfl ?_
  refine XF.tl rfl rfl rfl (l_call (Mc := MT) (R := _) (aS rfl (aS rfl a0)) (by kernel_rfl) PickC.perm (putT_spec bt bm s.ts (.slice none 0 0) (atom (s.n + 1)) MT _ hT hn Rd.nil (atom_ok' (by omega)) (mA h4)) rfl ?_)
  rintro v53 M53 J53 ⟨rfl, rfl, hT53⟩
  refine XF.tl rfl rfl rfl (l_call0 (aS rfl a0) (by kernel_rfl) (bytesJ_spec _ _) rfl ?_)
  rintro v54 M54 J54 ⟨rfl, h54⟩
  refine XF.q hs rfl (q_assign rfl) rfl ?_
  refine XF.fin (kq 2 kn) ?_
  refine XC.ret ?_
  exact ⟨_, (pb, blk [.int .u8 (md s.real), sv, .int .i64 (((s.n + 1 : Nat) : Int)), .pointer (some ⟨bt, 0, none⟩)] 124) :: (B ++ M53), [], res1 rfl rfl, (Fit.none (Fit.pick (B := [_]) PickC.perm (Fit.pick PickC.perm (Fit.last PickC.perm)))), by rw [freshS_f hr]; exact ⟨sv, bt, bm, B, M53, rfl, hby, hT53⟩, by rw [freshK_f hr]; exact h54.mono SubC.sub⟩

end Go.Proofs.YtphcaiplgpmnnaaGreatDoor
/- The walk of prim's Derive in both modes. -/
namespace Go.Proofs.YtphcaiplgpmnnaaGreatDoor
open Go.Px
def fits (ws : List (List Nat)) : List Nat := ws.flatMap fun w => fitN w 32
def bigR (key : List Nat) (ws : List (List Nat)) (lb : List Nat) (n : Nat) : List Nat := expand (hmac (fitN key 32) (fits ws)) lb ((32 * n : Nat) : Int)
def cutR (b : List Nat) (n : Nat) : List (List Nat) := (List.range n).map fun i => (b.take (32 * i + 32)).drop (32 * i)
def drv (ofs : List Int) (lb : List Nat) (i : Nat) : Tm := ⟨5, ofs, lb, (i : Int)⟩
def rdSt (st : List Tm × List Int) (w : List Nat) : List Tm × List Int := (rdT st.1 w, st.2 ++ [((rdI st.1 w : Nat) : Int)])
def rdAll (ts : List Tm) (key : List Nat) (ws : List (List Nat)) : List Tm × List Int := ws.foldl rdSt (rdSt (ts, []) key)
def ptSt (ofs : List Int) (lb : List Nat) (st : List Tm × List (List Nat)) (i : Nat) : List Tm × List (List Nat) := (add st.1 (drv ofs lb i), st.2 ++ [bts ((at_ st.1 (drv ofs lb i) : Nat) : Int)])
def ptAll (ts : List Tm) (ofs : List Int) (lb : List Nat) (n : Nat) : List Tm × List (List Nat) := (List.range n).foldl (ptSt ofs lb) (ts, [])
def derT (ts : List Tm) (key : List Nat) (ws : List (List Nat)) (lb : List Nat) (n : Nat) : List Tm × List (List Nat) := ptAll (rdAll ts key ws).1 (rdAll ts key ws).2 lb n
def derS (s : Ps) (key : List Nat) (ws : List (List Nat)) (lb : List Nat) (n : Nat) : Ps := if s.real then s else { s with ts := (derT s.ts key ws lb n).1 }
def derK (s : Ps) (key : List Nat) (ws : List (List Nat)) (lb : List Nat) (n : Nat) : List (List Nat) := if s.real then cutR (bigR key ws lb n) n else (derT s.ts key ws lb n).2
theorem derS_t {s : Ps} {key lb : List Nat} {ws : List (List Nat)} {n : Nat} (h : s.real = true) : derS s key ws lb n = s := if_pos h
theorem derS_f {s : Ps} {key lb : List Nat} {ws : List (List Nat)} {n : Nat} (h : s.real = false) : derS s key ws lb n = { s with ts := (derT s.ts key ws lb n).1 } := if_neg (by rw [h]; decide)
theorem derK_t {s : Ps} {key lb : List Nat} {ws : List (List Nat)} {n : Nat} (h : s.real = true) : derK s key ws lb n = cutR (bigR key ws lb n) n := if_pos h
theorem derK_f {s : Ps} {key lb : List Nat} {ws : List (List Nat)} {n : Nat} (h : s.real = false) : derK s key ws lb n = (derT s.ts key ws lb n).2 := if_neg (by rw [h]; decide)
theorem fits_lt {ws : List (List Nat)} (h : ∀ w ∈ ws, ∀ x ∈ w, x < 256) : ∀ x ∈ fits ws, x < 256 := by
  intro x hx
  obtain ⟨w, hw, hx⟩ := List.mem_flatMap.1 hx
  exact fitN_lt (h w hw) 32 x hx
theorem fits_len (ws : List (List Nat)) : (fits ws).length = 32 * ws.length := by
  induction ws with
  | nil => rfl
  | cons w ws ih =>
    have : fits (w :: ws) = fitN w 32 ++ fits ws := rfl
    rw [this, List.length_append, ih, fitN_len, List.length_cons]; omega
theorem fits_take {ws : List (List Nat)} {i : Nat} (h : i < ws.length) : fits (ws.take (i + 1)) = fits (ws.take i) ++ fitN ws[i] 32 := by
  unfold fits
  rw [List.take_add_one, List.getElem?_eq_getElem h, List.flatMap_append]; simp
theorem fold_take {α β : Type} {f : β → α → β} {b : β} {l : List α} {i : Nat} (h : i < l.length) : (l.take (i + 1)).foldl f b = f ((l.take i).foldl f b) l[i] := by
  rw [List.take_add_one, List.getElem?_eq_getElem h, List.foldl_append]; rfl
theorem fold_range {β : Type} {f : β → Nat → β} {b : β} (i : Nat) : (List.range (i + 1)).foldl f b = f ((List.range i).foldl f b) i := by
  rw [List.range_succ, List.foldl_append]; rfl
theorem rdI_lt {ts : List Tm} {w : List Nat} (hw : ∀ x ∈ w, x < 256) (hl : w.length ≤ 1099511627776) (hts : ∀ t ∈ ts, Tmo t) : rdI ts w < (rdT ts w).length := by
  cases hp : plc w ts.length with
  | some j =>
    obtain ⟨h1, h2⟩ := rdT_some hp
    rw [h1, h2]; exact (plc_lt hp).1
  | none =>
    obtain ⟨h1, h2⟩ := rdT_none hp
    rw [h1, h2]
    cases hq : pos ts (rawT w) with
    | some j =>
      obtain ⟨h3, h4⟩ := add_some hq
      rw [h3, h4]
      exact (List.getElem?_eq_some_iff.1 (pos_some (rawT_ok hw hl) hts hq)).1
    | none =>
      obtain ⟨h3, h4⟩ := add_none hq
      rw [h3, h4]; simp
theorem rdT_tmo {ts : List Tm} {w : List Nat} (hw : ∀ x ∈ w, x < 256) (hl : w.length ≤ 1099511627776) (hts : ∀ t ∈ ts, Tmo t) : ∀ t ∈ rdT ts w, Tmo t := by
  cases hp : plc w ts.length with
  | some j => rw [(rdT_some hp).1]; exact hts
  | none =>
    rw [(rdT_none hp).1]
    unfold add
    split
    · exact hts
    · intro t ht
      rcases List.mem_append.1 ht with h | h
      · exact hts t h
      · rw [List.mem_singleton.1 h]; exact rawT_ok hw hl
theorem drv_ok {ofs : List Int} {lb : List Nat} {i : Nat} (ho : ∀ x ∈ ofs, i64 x) (hl : ofs.length ≤ 1048576) (hb : B256 lb) (hbl : lb.length ≤ 1099511627776) (hi : i ≤ 100) : Tmo (drv ofs lb i) := ⟨show 5 < 256 by decide, show i64 (i : Int) by unfold i64; omega, ho, hl, hb, hbl⟩
/-- What is known of the terms that were read. -/
structure RdOk (n0 k : Nat) (st : List Tm × List Int) : Prop where
  len : st.1.length ≤ n0 + k
  ofl : st.2.length = k
  of : ∀ x ∈ st.2, 0 ≤ x ∧ x < (st.1.length : Int)
  tmo : ∀ t ∈ st.1, Tmo t
theorem rdT_ge {ts : List Tm} {w : List Nat} : ts.length ≤ (rdT ts w).length := by
  cases hp : plc w ts.length with
  | some j => rw [(rdT_some hp).1]; exact Nat.le_refl _
  | none =>
    rw [(rdT_none hp).1]
    unfold add
    split <;> simp
theorem RdOk.step {n0 k : Nat} {st : List Tm × List Int} (h : RdOk n0 k st) {w : List Nat} (hw : ∀ x ∈ w, x < 256) (hl : w.length ≤ 1099511627776) : RdOk n0 (k + 1) (rdSt st w) := by
  refine ⟨?_, by simp [rdSt, h.ofl], ?_, rdT_tmo hw hl h.tmo⟩
  · have := rdT_len (ts := st.1) (ws := w)
    have := h.len
    show (rdT st.1 w).length ≤ _
    omega
  · intro x hx
    have hge := rdT_ge (ts := st.1) (w := w)
    have hlt := rdI_lt (ts := st.1) hw hl h.tmo
    show 0 ≤ x ∧ x < (((rdT st.1 w).length : Nat) : Int)
    rcases List.mem_append.1 hx with h1 | h1
    · have := h.of x h1; omega
    · rw [List.mem_singleton.1 h1]; omega
theorem cutR_len (b : List Nat) (n : Nat) : (cutR b n).length = n := by simp [cutR]
theorem ptAll_len (ts : List Tm) (ofs : List Int) (lb : List Nat) (n : Nat) : (ptAll ts ofs lb n).2.length = n ∧ (ptAll ts ofs lb n).1.length ≤ ts.length + n := by
  induction n with
  | zero => exact ⟨rfl, Nat.le_refl _⟩
  | succ n ih =>
    have e : ptAll ts ofs lb (n + 1) = ptSt ofs lb (ptAll ts ofs lb n) n := fold_range n
    rw [e]
    refine ⟨by simp [ptSt, ih.1], ?_⟩
    have := add_len (ts := (ptAll ts ofs lb n).1) (t := drv ofs lb n)
    show (add _ _).length ≤ _
    omega
theorem bigR_len (key : List Nat) (ws : List (List Nat)) (lb : List Nat) {n : Nat} (hn : n ≤ 8) : (bigR key ws lb n).length = 32 * n := by
  unfold bigR
  rw [expand_len]
  omega
theorem ints_snoc (l : List Int) (x : Int) : ints (l ++ [x]) = ints l ++ [.int .i64 x] := by simp [ints]

theorem derive_spec (pb : Nat) (s : Ps) (kv wv : Value) (key lb : List Nat) (ws : List (List Nat)) (n : Nat) (MP A : Mem) (hP : Prm pb s MP) (hk : By A kv key) (hw : LsV A wv ws) (hwn : ws.length ≤ 1000) (hlb : B256 lb) (hll : lb.length ≤ 1000) (hn0 : 1 ≤ n) (hn8 : n ≤ 8) (hn : s.ts.length ≤ 1040000) (hG : Glb A) : FnX Tryz.prog 43 [.pointer (some ⟨pb, 0, none⟩), kv, wv, .string (txt lb), .int .i64 (n : Int)] MP A fun q M J => Prm pb (derS s key ws lb n) M ∧ LsV J q (derK s key ws lb n) := by
 obtain ⟨sv, bt, bm, B, MT, rfl, hby, hT⟩ := hP.ex
 have hGG := hG
 obtain ⟨⟨ge0, gf0, h0⟩, ⟨ge1, gf1, h1⟩, ⟨ge4, gf4, h4⟩⟩ := hGG
 haveI := hby.cel
 haveI := hk.cel
 obtain ⟨wvs, hwr, hwl⟩ := hw.ex
 haveI := hwr.cel
 have hw256 : ∀ w ∈ ws, ∀ x ∈ w, x < 256 := fun w hw => by
  obtain ⟨j, hj⟩ := List.getElem?_of_mem hw
  obtain ⟨v, _, h⟩ := hwl.get j w hj
  exact h.lt
 have hTmo : ∀ t ∈ s.ts, Tmo t := by
  obtain ⟨_, _, _, _, _, _, _, _, _, _, _, h, _⟩ := hT
  exact h
 refine FnX.enterZ (N := 108) Tryz.func43 rfl rfl rfl fun w_ => ?_
 refine XC.keep (kq 0 (kq 1 (kq 2 (kq 3 (kq 4 kn))))) ?_
 refine XC.reg ?_
 refine as_ ?_
 refine XL.fin (kq 0 (kq 1 (kq 2 (kq 3 (kq 4 kn))))) ?_
 refine XC.reg ?_
 refine as_ ?_
 refine XL.fin (kq 0 (kq 1 (kq 2 (kq 3 (kq 4 (kq 11 kn)))))) ?_
 refine XC.seq ?_
 refine XC.reg ?_
 refine mv_ ?_
 refine XL.q (q_ptrEqNil (e := 124) rfl rfl (by kernel_rfl)) rfl ?_
 refine mv_ ?_
 refine XL.gy rfl rfl (OpQ.opL qm_ rfl ?_)
 refine XL.gy rfl rfl (OpQ.opL (q_cmp false rfl rfl (ltF (by omega))) rfl ?_)
 refine XL.q (q_pickF rfl rfl) rfl ?_
 refine XL.fin (kq 0 (kq 1 (kq 2 (kq 3 (kq 4 (kq 11 (kq 26 kn))))))) ?_
 refine XC.condF rfl ?_
 refine XC.skip ?_
 refine nx (kq 0 (kq 1 (kq 2 (kq 3 (kq 4 (kq 11 kn)))))) ?_
 refine XC.seq ?_
 refine XC.reg ?_
 refine mv_ ?_
 refine XL.q (q_nil rfl) rfl ?_
 refine XL.q (qf_ 0 0) rfl ?_
 refine XL.q ql_ rfl ?_
 refine XL.q (q_bin rfl rfl rfl) rfl ?_
 refine XL.fin (kq 0 (kq 1 (kq 2 (kq 3 (kq 4 (kq 11 (kq 32 kn))))))) ?_
 refine XC.cond rfl (fun hc => ?_) (fun hc => ?_)
 ·
  have hr : s.real = true := by cases hq : s.real with | true => rfl | false => rw [hq] at hc; exact absurd hc (by decide)
  refine XC.reg ?_
  refine as_ ?_
  refine XL.fin (kq 1 (kq 2 (kq 3 (kq 4 (kq 11 (kq 12 kn)))))) ?_
  refine XC.seq ?_
  refine XC.reg ?_
  refine mv_ ?_
  refine XL.q (q_lenV2 (sz := 1) rfl (by kernel_rfl) hwr) rfl ?_
  refine mv_ ?_
  refine XL.fin (kq 1 (kq 3 (kq 4 (kq 11 (kq 12 (kq 33 (kq 34 (kq 35 kn)))))))) ?_
  refine XC.block ?_
  refine XC.loop (α := Nat × Value × Mem × Mem) (fun x => [(1, kv), (3, .string (txt lb)), (4, .int .i64 (n : Int)), (11, .slice none 0 0), (12, x.2.1), (33, wv), (34, .int .i64 ((ws.length : Nat) : Int)), (35, .int .i64 ((x.1 : Nat) : Int))]) (fun x => x.2.2.1 ++ ((pb, blk [.int .u8 (md s.real), sv, .int .i64 (((s.n : Nat) : Int)), .pointer (some ⟨bt, 0, none⟩)] 124) :: (B ++ MT))) (fun x => x.2.2.2) (fun x => x.1 ≤ ws.length ∧ Sl 1 x.2.1 (fits (ws.take x.1)).length (nums .u8 (fits (ws.take x.1))) x.2.2.1) (fun x => ws.length - x.1) ⟨0, .slice none 0 0, [], []⟩ ⟨Nat.zero_le _, Sl.nil⟩ (kq 1 (kq 3 (kq 4 (kq 11 (kq 12 (kq 33 (kq 34 (kq 35 kn)))))))) .rfl (fun _ h => h) ?_
  rintro ⟨i, v12, B12, J12⟩ ⟨hi, hs12⟩
  dsimp only at hi hs12 ⊢
  haveI := hs12.cel
  have hfl := fits_len (ws.take i)
  rw [List.length_take] at hfl
  refine XC.reg ?_
  refine XL.q (q_bin rfl rfl rfl) rfl ?_
  refine XL.fin (kq 1 (kq 3 (kq 4 (kq 11 (kq 12 (kq 33 (kq 34 (kq 35 (kq 36 kn))))))))) ?_
  refine XC.seq ?_
  refine XC.cond rfl (fun hc => ?_) (fun hc => ?_)
  ·
   have hlt : i < ws.length := by simp at hc; omega
   obtain ⟨v, hvi, hvb⟩ := hwl.at hlt
   haveI := hvb.cel
   have hft := fits_take hlt
   refine XC.skip ?_
   refine nx (kq 1 (kq 3 (kq 4 (kq 11 (kq 12 (kq 33 (kq 34 (kq 35 kn)))))))) ?_
   refine XC.seq ?_
   refine XC.block ?_
   refine XC.reg ?_
   refine XL.q (q_atV2 (sz := 1) rfl rfl (by kernel_rfl) rfl hwr hlt) rfl ?_
   refine XL.q (q_ldV (u := v) (hwr.mono SubC.sub) rfl (by kernel_rfl) hvi) rfl ?_
   refine as_ ?_
   refine XL.fin (kq 1 (kq 3 (kq 4 (kq 11 (kq 12 (kq 14 (kq 33 (kq 34 (kq 35 kn))))))))) ?_
   refine XC.reg1 ?_
   refine mv_ (mv_ ?_)
   refine XL.call (aS rfl (aS rfl a0)) (by kernel_rfl) (fit_spec v ws[i] 32 _ (hvb.mono SubC.sub) (by decide)) rfl ?_
   rintro v41 M41 J41 ⟨rfl, hb41⟩
   have hb41r := hb41.rd
   rw [fitN_len] at hb41r
   refine XL.lo rfl (l_append2 (e := 5) (sz := 1) (by_ := 1) rfl rfl (by kernel_rfl) rfl hs12 (hb41r.mono SubC.sub) nums_one PickC.perm (by unfold maxLen; omega) (by omega) rfl fun v42 B42 hs42 => ?_)
   refine as_ ?_
   refine XL.nil ?_
   refine nb ?_
   refine nx (kq 1 (kq 3 (kq 4 (kq 11 (kq 12 (kq 33 (kq 34 (kq 35 kn)))))))) ?_
   refine XC.reg1 ?_
   refine XL.q (q_addI (b := 1) rfl rfl rfl rfl (by omega)) rfl ?_
   refine mv_ ?_
   refine XL.nil ?_
   exact rn ⟨i + 1, v42, B42, _⟩ ⟨by dsimp only; omega, sl_eq hs42 (by dsimp only; rw [hft, List.length_append, fitN_len]) (by dsimp only; rw [hft, nums_append])⟩ (by dsimp only; omega) (kq 1 (kq 3 (kq 4 (kq 11 (kq 12 (kq 33 (kq 34 (kq 35 kn)))))))) (Fit.pick PickC.perm (Fit.pick (B := [_]) PickC.perm (Fit.pick PickC.perm (Fit.last PickC.perm)))) (fun _ h => h)
  ·
   have hge : i = ws.length := by simp at hc; omega
   subst hge
   rw [List.take_length] at hs12 hfl
   refine XC.exit ?_
   refine te ?_
   refine re ?_
   refine be rfl ?_
   refine nx (kq 1 (kq 3 (kq 4 (kq 11 (kq 12 kn))))) ?_
   refine XC.reg ?_
   refine mv_ ?_
   refine XL.call (aS rfl (aS rfl a0)) (by kernel_rfl) (fit_spec kv key 32 _ (hk.mono SubC.sub) (by decide)) rfl ?_
   rintro v45 M45 J45 ⟨rfl, hb45⟩
   refine mv_ ?_
   refine XL.call (aS rfl (aS rfl a0)) (by kernel_rfl) ((extract_spec v45 v12 (fitN key 32) (fits ws) _ (hb45.rd.mono SubC.sub) hb45.lt (by rw [fitN_len]; decide) (hs12.rd SubC.sub) (fits_lt hw256) (by omega) (mA h0) (mA h1)).frz0) rfl ?_
   rintro v47 M47 J47 ⟨rfl, h47⟩
   refine mv_ ?_
   refine XL.lo rfl (l_toBytes (e := 5) rfl rfl hlb.lt (by kernel_rfl) (by kernel_rfl) (by kernel_rfl) rfl fun v49 B49 hs49 => ?_)
   refine XL.frz (B := B49) PickC.perm ?_
   refine mv_ ?_
   refine XL.q (q_minR (n : Int) rfl rfl (by split <;> omega)) rfl ?_
   refine XL.q (q_mulI (a := 32) rfl rfl rfl rfl (by omega)) rfl ?_
   refine XL.call (aS rfl (aS rfl (aS rfl a0))) (by kernel_rfl) ((expand_spec v47 v49 (hmac (fitN key 32) (fits ws)) lb ((32 * n : Nat) : Int) _ (by rw [hmac_len]; exact (h47.rd SubC.sub)) (hmac_lt _ _) (by rw [hmac_len]; decide) (hs49.mono SubC.sub) hlb.lt (by omega) (by omega) (by omega) (mA h0) (mA h1)).frz0) rfl ?_
   rintro v53 M53 J53 ⟨rfl, h53⟩
   have hbl := bigR_len key ws lb hn8
   change Rd J53 1 v53 (bigR key ws lb n).length (nums .u8 (bigR key ws lb n)) at h53
   rw [hbl] at h53
   haveI := h53.cel
   have hb256 : ∀ x ∈ bigR key ws lb n, x < 256 := expand_lt _ _ _
   generalize hbigE : bigR key ws lb n = big at *
   refine as_ ?_
   refine XL.fin (kq 4 (kq 11 (kq 15 kn))) ?_
   refine XC.seq ?_
   refine XC.reg ?_
   refine mv_ ?_
   refine XL.q (q_minR (n : Int) rfl rfl (by split <;> omega)) rfl ?_
   refine mv_ ?_
   refine XL.fin (kq 11 (kq 15 (kq 55 (kq 56 kn)))) ?_
   refine XC.block ?_
   refine XC.loop (α := Nat × Value × List Value × Mem) (fun x => [(11, x.2.1), (15, v53), (55, .int .i64 (n : Int)), (56, .int .i64 ((x.1 : Nat) : Int))]) (fun x => x.2.2.2 ++ ((pb, blk [.int .u8 (md s.real), sv, .int .i64 (((s.n : Nat) : Int)), .pointer (some ⟨bt, 0, none⟩)] 124) :: (B ++ MT))) (fun _ => J53) (fun x => x.1 ≤ n ∧ Sl 1 x.2.1 x.1 x.2.2.1 x.2.2.2 ∧ Lst J53 x.2.2.1 ((List.range x.1).map fun i => (big.take (32 * i + 32)).drop (32 * i))) (fun x => n - x.1) ⟨0, .slice none 0 0, [], []⟩ ⟨Nat.zero_le _, Sl.nil, Lst.nil⟩ (kq 11 (kq 15 (kq 55 (kq 56 kn)))) (Fit.none (Fit.pick (B := [_]) PickC.perm (Fit.pick PickC.perm (Fit.last PickC.perm)))) (fun x hx => SubC.sub x hx) ?_
   rintro ⟨i, v11, vs11, B11⟩ ⟨hi, hs11, hl11⟩
   dsimp only at hi hs11 hl11 ⊢
   haveI := hs11.cel
   refine XC.reg ?_
   refine XL.q (q_bin rfl rfl rfl) rfl ?_
   refine XL.fin (kq 11 (kq 15 (kq 55 (kq 56 (kq 57 kn))))) ?_
   refine XC.seq ?_
   refine XC.cond rfl (fun hc => ?_) (fun hc => ?_)
   ·
    have hlt : i < n := by simp at hc; omega
    refine XC.skip ?_
    refine nx (kq 11 (kq 15 (kq 55 (kq 56 kn)))) ?_
    refine XC.seq ?_
    refine XC.block ?_
    refine XC.reg ?_
    refine mv_ (as_ ?_)
    refine XL.fin (kq 11 (kq 15 (kq 16 (kq 55 (kq 56 kn))))) ?_
    refine XC.reg1 ?_
    refine mv_ (mv_ (mv_ ?_))
    refine XL.q (q_mulI (a := 32) rfl rfl rfl rfl (by omega)) rfl ?_
    refine mv_ ?_
    refine XL.q (q_mulI (a := 32) rfl rfl rfl rfl (by omega)) rfl ?_
    refine XL.q (q_addI (b := 32) rfl rfl rfl rfl (by omega)) rfl ?_
    refine XL.q (q_lhV2 (sz := 1) (a := 32 * i) (b := 32 * i + 32) rfl rfl rfl (by kernel_rfl) rfl rfl h53 (by omega) (by omega)) rfl ?_
    have hpt := (h53.hiV (32 * i + 32) (by omega)).loV (32 * i) (by omega)
    rw [Nat.mul_one, Nat.mul_one, ← nums_take, ← nums_drop] at hpt
    generalize vLo (32 * i) 1 (vHi (32 * i + 32) v53) = vp at *
    haveI := hpt.cel
    have hpb : By J53 vp ((big.take (32 * i + 32)).drop (32 * i)) := ⟨by rw [List.length_drop, List.length_take, hbl, Nat.min_eq_left (by omega)]; exact hpt, fun x hx => hb256 x (List.mem_of_mem_take (List.mem_of_mem_drop hx)), by rw [List.length_drop, List.length_take, hbl]; omega⟩
    refine XL.lo rfl (l_buildSlice (e := 23) (sz := 1) (z := [.slice none 0 0]) (by kernel_rfl) (eS rfl e0) (bdS 0 1 rfl (by rfl) bd0) rfl fun b67 => ?_)
    refine XL.lo rfl (l_append2 (e := 23) (sz := 1) (by_ := 24) rfl rfl (by kernel_rfl) rfl hs11 (Rd.whole (n := 1) At.mem (by rfl)) (by intro c hc; rw [List.mem_singleton.1 hc]; exact hpt.one) PickC.perm (by unfold maxLen; omega) (by omega) rfl fun v68 B68 hs68 => ?_)
    refine as_ ?_
    refine XL.nil ?_
    refine nb ?_
    refine nx (kq 11 (kq 15 (kq 55 (kq 56 kn)))) ?_
    refine XC.reg1 ?_
    refine XL.q (q_addI (b := 1) rfl rfl rfl rfl (by omega)) rfl ?_
    refine mv_ ?_
    refine XL.nil ?_
    exact rn ⟨i + 1, v68, vs11 ++ [vp], B68⟩ ⟨by dsimp only; omega, hs68, by dsimp only; rw [List.range_succ, List.map_append]; exact hl11.snoc hpb⟩ (by dsimp only; omega) (kq 11 (kq 15 (kq 55 (kq 56 kn)))) (Fit.pick PickC.perm (Fit.pick (B := [_]) PickC.perm (Fit.pick PickC.perm (Fit.last PickC.perm)))) (fun x hx => SubC.sub x hx)
   ·
    have hge : i = n := by simp at hc; omega
    subst hge
    refine XC.exit ?_
    refine te ?_
    refine re ?_
    refine be rfl ?_
    refine nx (kq 11 kn) ?_
    refine XC.reg ?_
    refine mv_ (as_ ?_)
    refine XL.fin (kq 10 kn) ?_
    refine XC.ret ?_
    refine tr ?_
    exact ⟨_, (pb, blk [.int .u8 (md s.real), sv, .int .i64 (((s.n : Nat) : Int)), .pointer (some ⟨bt, 0, none⟩)] 124) :: (B ++ MT), B11, res1 rfl rfl, (Fit.pick PickC.perm (Fit.pick (B := [_]) PickC.perm (Fit.pick PickC.perm (Fit.last PickC.perm)))), by rw [derS_t hr]; exact ⟨sv, bt, bm, B, MT, rfl, hby, hT⟩, by rw [derK_t hr, hbigE]; exact ⟨vs11, by rw [cutR_len]; exact hs11.rd SubC.sub, hl11.mono SubC.sub⟩⟩
 ·
  have hr : s.real = false := by cases hq : s.real with | false => rfl | true => rw [hq] at hc; exact absurd hc (by decide)
  refine XC.skip ?_
  refine nx (kq 0 (kq 1 (kq 2 (kq 3 (kq 4 (kq 11 kn)))))) ?_
  refine XC.reg ?_
  refine mv_ (mv_ ?_)
  refine XL.lo rfl (l_call (Mc := (pb, blk [.int .u8 (md s.real), sv, .int .i64 (((s.n : Nat) : Int)), .pointer (some ⟨bt, 0, none⟩)] 124) :: (B ++ MT)) (R := _) (aS rfl (aS rfl a0)) (by kernel_rfl) PickC.perm (pread_spec pb s kv key _ _ hP (by omega) (hk.mono SubC.sub) hG.up) rfl ?_)
  rintro v73 M73 J73 ⟨rfl, hP73⟩
  have hst0 : RdOk s.ts.length 0 (s.ts, []) := ⟨Nat.le_refl _, rfl, (fun x hx => by cases hx), hTmo⟩
  have hst := hst0.step hk.lt (by have := hk.len; omega)
  refine XL.lo rfl (l_buildSlice (e := 3) (sz := 1) (z := [.int .i64 0]) (by kernel_rfl) (eS rfl e0) (bdS 0 1 rfl (by rfl) bd0) rfl fun b74 => ?_)
  refine as_ ?_
  refine XL.fin (kq 0 (kq 2 (kq 3 (kq 4 (kq 11 (kq 17 kn)))))) ?_
  refine XC.seq ?_
  refine XC.reg ?_
  refine mv_ ?_
  refine XL.q (q_lenV2 (sz := 1) rfl (by kernel_rfl) hwr) rfl ?_
  refine mv_ ?_
  refine XL.fin (kq 0 (kq 3 (kq 4 (kq 11 (kq 17 (kq 75 (kq 76 (kq 77 kn)))))))) ?_
  refine XC.block ?_
  refine XC.loop (α := Nat × Value × Mem × Mem) (fun x => [(0, .pointer (some ⟨pb, 0, none⟩)), (3, .string (txt lb)), (4, .int .i64 (n : Int)), (11, .slice none 0 0), (17, x.2.1), (75, wv), (76, .int .i64 ((ws.length : Nat) : Int)), (77, .int .i64 ((x.1 : Nat) : Int))]) (fun x => x.2.2.1 ++ x.2.2.2) (fun x => []) (fun x => x.1 ≤ ws.length ∧ RdOk s.ts.length (1 + x.1) ((ws.take x.1).foldl rdSt (rdSt (s.ts, []) key)) ∧ Sl 1 x.2.1 (1 + x.1) (ints ((ws.take x.1).foldl rdSt (rdSt (s.ts, []) key)).2) x.2.2.1 ∧ Prm pb { s with ts := ((ws.take x.1).foldl rdSt (rdSt (s.ts, []) key)).1 } x.2.2.2) (fun x => ws.length - x.1) ⟨0, .slice (some ⟨b74, 0, none⟩) 1 1, [(b74, _)], M73⟩ ⟨Nat.zero_le _, hst, Sl.fresh (n := 1) (sz := 1) (cs := ints [((rdI s.ts key : Nat) : Int)]) (e := 3) (by rfl) (by decide), hP73⟩ (kq 0 (kq 3 (kq 4 (kq 11 (kq 17 (kq 75 (kq 76 (kq 77 kn)))))))) (Fit.pick (B := [(b74, blk [.int .i64 ((rdI s.ts key : Nat) : Int)] 3)]) PickC.perm (Fit.last (B := M73) PickC.perm)) (fun _ h => by cases h) ?_
  rintro ⟨i, v17, B17, MR⟩ ⟨hi, hok, hs17, hPR⟩
  dsimp only at hi hok hs17 hPR ⊢
  haveI := hs17.cel
  refine XC.reg ?_
  refine XL.q (q_bin rfl rfl rfl) rfl ?_
  refine XL.fin (kq 0 (kq 3 (kq 4 (kq 11 (kq 17 (kq 75 (kq 76 (kq 77 (kq 78 kn))))))))) ?_
  refine XC.seq ?_
  refine XC.cond rfl (fun hc => ?_) (fun hc => ?_)
  ·
   have hlt : i < ws.length := by simp at hc; omega
   obtain ⟨v, hvi, hvb⟩ := hwl.at hlt
   haveI := hvb.cel
   have hft := fold_take (f := rdSt) (b := rdSt (s.ts, []) key) hlt
   have hok2 := hok.step hvb.lt (by have := hvb.len; omega)
   rw [← hft] at hok2
   have hokl := hok.len
   refine XC.skip ?_
   refine nx (kq 0 (kq 3 (kq 4 (kq 11 (kq 17 (kq 75 (kq 76 (kq 77 kn)))))))) ?_
   refine XC.seq ?_
   refine XC.block ?_
   refine XC.reg ?_
   refine XL.q (q_atV2 (sz := 1) rfl rfl (by kernel_rfl) rfl hwr hlt) rfl ?_
   refine XL.q (q_ldV (u := v) (hwr.mono SubC.sub) rfl (by kernel_rfl) hvi) rfl ?_
   refine as_ ?_
   refine XL.fin (kq 0 (kq 3 (kq 4 (kq 11 (kq 17 (kq 19 (kq 75 (kq 76 (kq 77 kn))))))))) ?_
   refine XC.reg1 ?_
   refine mv_ (mv_ (mv_ ?_))
   refine XL.lo rfl (l_call (Mc := MR) (R := _) (aS rfl (aS rfl a0)) (by kernel_rfl) PickC.perm (pread_spec pb _ v ws[i] _ _ hPR (by dsimp only; omega) (hvb.mono SubC.sub) hG.up) rfl ?_)
   rintro v84 M84 J84 ⟨rfl, hP84⟩
   refine XL.lo rfl (l_buildSlice (e := 3) (sz := 1) (z := [.int .i64 0]) (by kernel_rfl) (eS rfl e0) (bdS 0 1 rfl (by rfl) bd0) rfl fun b85 => ?_)
   refine XL.lo rfl (l_append2 (e := 3) (sz := 1) (by_ := 8) rfl rfl (by kernel_rfl) rfl hs17 (Rd.whole (n := 1) At.mem (by rfl)) (by simp [Value.oneCell']) PickC.perm (by unfold maxLen; omega) (by omega) rfl fun v86 B86 hs86 => ?_)
   refine as_ ?_
   refine XL.nil ?_
   refine nb ?_
   refine nx (kq 0 (kq 3 (kq 4 (kq 11 (kq 17 (kq 75 (kq 76 (kq 77 kn)))))))) ?_
   refine XC.reg1 ?_
   refine XL.q (q_addI (b := 1) rfl rfl rfl rfl (by omega)) rfl ?_
   refine mv_ ?_
   refine XL.nil ?_
   exact rn ⟨i + 1, v86, B86, M84⟩ ⟨by dsimp only; omega, hok2, (by dsimp only; rw [hft, show rdSt _ ws[i] = (_, _ ++ [_]) from rfl]; dsimp only; rw [ints_snoc]; exact hs86), (by dsimp only; rw [hft]; exact hP84)⟩ (by dsimp only; omega) (kq 0 (kq 3 (kq 4 (kq 11 (kq 17 (kq 75 (kq 76 (kq 77 kn)))))))) (Fit.pick PickC.perm (Fit.last PickC.perm)) (fun _ h => by cases h)
  ·
   have hge : i = ws.length := by simp at hc; omega
   subst hge
   rw [List.take_length] at hok hs17 hPR
   change RdOk _ _ (rdAll s.ts key ws) at hok
   change Sl _ _ _ (ints (rdAll s.ts key ws).2) _ at hs17
   change Prm _ { s with ts := (rdAll s.ts key ws).1 } _ at hPR
   refine XC.exit ?_
   refine te ?_
   refine re ?_
   refine be rfl ?_
   refine nx (kq 0 (kq 3 (kq 4 (kq 11 (kq 17 kn))))) ?_
   refine XC.seq ?_
   refine XC.reg ?_
   refine mv_ ?_
   refine XL.q (q_minR (n : Int) rfl rfl (by split <;> omega)) rfl ?_
   refine mv_ ?_
   refine XL.fin (kq 0 (kq 3 (kq 11 (kq 17 (kq 89 (kq 90 kn)))))) ?_
   refine XC.block ?_
   have hokl := hok.len
   have hokf := hok.ofl
   have hoki : ∀ x ∈ (rdAll s.ts key ws).2, i64 x := fun x hx => by have := hok.of x hx; unfold i64; omega
   generalize hra : (rdAll s.ts key ws).1 = tr at *
   generalize hof : (rdAll s.ts key ws).2 = ofs at *
   refine XC.loop (α := Nat × Value × List Value × Mem × Mem × Mem) (fun x => [(0, .pointer (some ⟨pb, 0, none⟩)), (3, .string (txt lb)), (11, x.2.1), (17, v17), (89, .int .i64 (n : Int)), (90, .int .i64 ((x.1 : Nat) : Int))]) (fun x => x.2.2.2.1 ++ (B17 ++ x.2.2.2.2.1)) (fun x => x.2.2.2.2.2) (fun x => x.1 ≤ n ∧ Sl 1 x.2.1 x.1 x.2.2.1 x.2.2.2.1 ∧ Lst x.2.2.2.2.2 x.2.2.1 (ptAll tr ofs lb x.1).2 ∧ Prm pb { s with ts := (ptAll tr ofs lb x.1).1 } x.2.2.2.2.1) (fun x => n - x.1) ⟨0, .slice none 0 0, [], [], MR, []⟩ ⟨Nat.zero_le _, Sl.nil, Lst.nil, hPR⟩ (kq 0 (kq 3 (kq 11 (kq 17 (kq 89 (kq 90 kn)))))) .rfl (fun _ h => by cases h) ?_
   rintro ⟨i, v11, vs11, B11, MQ, JQ⟩ ⟨hi, hs11, hl11, hPQ⟩
   dsimp only at hi hs11 hl11 hPQ ⊢
   haveI := hs11.cel
   obtain ⟨hpl2, hpl1⟩ := ptAll_len tr ofs lb i
   refine XC.reg ?_
   refine XL.q (q_bin rfl rfl rfl) rfl ?_
   refine XL.fin (kq 0 (kq 3 (kq 11 (kq 17 (kq 89 (kq 90 (kq 91 kn))))))) ?_
   refine XC.seq ?_
   refine XC.cond rfl (fun hc => ?_) (fun hc => ?_)
   ·
    have hlt : i < n := by simp at hc; omega
    obtain ⟨sv2, bt2, bm2, B2, MT2, rfl, hby2, hT2⟩ := hPQ.ex
    dsimp only at hpl1 hT2 hby2 ⊢
    have hor := hs17.rd (R := B17) fun _ h => h
    rw [hokf.symm] at hor
    have hor : Rd B17 1 v17 ofs.length (ints ofs) := rd_eq hor (by omega) rfl
    refine XC.skip ?_
    refine nx (kq 0 (kq 3 (kq 11 (kq 17 (kq 89 (kq 90 kn)))))) ?_
    refine XC.seq ?_
    refine XC.block ?_
    refine XC.reg ?_
    refine mv_ (as_ ?_)
    refine XL.fin (kq 0 (kq 3 (kq 11 (kq 17 (kq 20 (kq 89 (kq 90 kn))))))) ?_
    refine XC.reg1 ?_
    refine mv_ (mv_ ?_)
    refine XL.q (q_nil rfl) rfl ?_
    refine XL.q (qf_ 3 3) rfl ?_
    refine XL.q ql_ rfl ?_
    refine mv_ (mv_ (mv_ ?_))
    refine XL.q (q_build (place := fun x => #[(0, 1), (1, 1), (2, 1), (3, 1)][x]?) (z := [.int .u8 0, .slice none 0 0, .string ByteArray.empty, .int .i64 0]) (fun _ => by kernel_rfl) (eS rfl (eS rfl (eS rfl (eS rfl e0)))) (bdS 0 1 rfl (by rfl) (bdS 1 1 rfl (by rfl) (bdS 2 1 rfl (by rfl) (bdS 3 1 rfl (by rfl) bd0))))) rfl ?_
    refine XL.lo rfl (l_call (Mc := MT2) (R := _) (aS rfl (aS rfl a0)) (by kernel_rfl) PickC.perm (putT_spec bt2 bm2 (ptAll tr ofs lb i).1 v17 (drv ofs lb i) MT2 _ hT2 (by omega) (hor.mono SubC.sub) (drv_ok hoki (by omega) hlb (by omega) (by omega)) (mA h4)) rfl ?_)
    rintro v102 M102 J102 ⟨rfl, rfl, hT102⟩
    refine XL.call (aS rfl a0) (by kernel_rfl) (bytesJ_spec _ _) rfl ?_
    rintro v103 M103 J103 ⟨rfl, hb103⟩
    haveI := hb103.cel
    refine XL.lo rfl (l_buildSlice (e := 23) (sz := 1) (z := [.slice none 0 0]) (by kernel_rfl) (eS rfl e0) (bdS 0 1 rfl (by rfl) bd0) rfl fun b104 => ?_)
    refine XL.lo rfl (l_append2 (e := 23) (sz := 1) (by_ := 24) rfl rfl (by kernel_rfl) rfl hs11 (Rd.whole (n := 1) At.mem (by rfl)) (by intro c hc; rw [List.mem_singleton.1 hc]; exact hb103.one) PickC.perm (by unfold maxLen; omega) (by omega) rfl fun v105 B105 hs105 => ?_)
    refine as_ ?_
    refine XL.nil ?_
    refine nb ?_
    refine nx (kq 0 (kq 3 (kq 11 (kq 17 (kq 89 (kq 90 kn)))))) ?_
    refine XC.reg1 ?_
    refine XL.q (q_addI (b := 1) rfl rfl rfl rfl (by omega)) rfl ?_
    refine mv_ ?_
    refine XL.nil ?_
    exact rn ⟨i + 1, v105, vs11 ++ [v103], B105, (pb, blk [.int .u8 (md s.real), sv2, .int .i64 (((s.n : Nat) : Int)), .pointer (some ⟨bt2, 0, none⟩)] 124) :: (B2 ++ M102), J103 ++ JQ⟩ ⟨by dsimp only; omega, hs105, (by dsimp only; rw [show ptAll tr ofs lb (i + 1) = ptSt ofs lb (ptAll tr ofs lb i) i from fold_range i]; exact (hl11.mono SubC.sub).snoc (hb103.mono SubC.sub)), (by dsimp only; rw [show ptAll tr ofs lb (i + 1) = ptSt ofs lb (ptAll tr ofs lb i) i from fold_range i]; exact ⟨sv2, bt2, bm2, B2, M102, rfl, hby2, hT102⟩)⟩ (by dsimp only; omega) (kq 0 (kq 3 (kq 11 (kq 17 (kq 89 (kq 90 kn)))))) (Fit.pick PickC.perm (Fit.pick PickC.perm (Fit.pick (B := [_]) PickC.perm (Fit.pick PickC.perm (Fit.last PickC.perm))))) (fun _ h => h)
   ·
    have hge : i = n := by simp at hc; omega
    subst hge
    refine XC.exit ?_
    refine te ?_
    refine re ?_
    refine be rfl ?_
    refine nx (kq 11 kn) ?_
    refine XC.reg ?_
    refine mv_ (as_ ?_)
    refine XL.fin (kq 10 kn) ?_
    refine XC.ret ?_
    exact ⟨_, MQ, B11, res1 rfl rfl, (Fit.pick PickC.perm (Fit.last PickC.perm)), by rw [derS_f hr, show derT s.ts key ws lb i = ptAll tr ofs lb i by unfold derT; rw [hra, hof]]; exact hPQ, by rw [derK_f hr, show derT s.ts key ws lb i = ptAll tr ofs lb i by unfold derT; rw [hra, hof]]; exact ⟨vs11, by rw [hpl2]; exact hs11.rd SubC.sub, hl11.mono SubC.sub⟩⟩

end Go.Proofs.YtphcaiplgpmnnaaGreatDoor
/- Plain laws of prim's keys of terms: what was derived is derived again; unlike keys. -/
namespace Go.Proofs.YtphcaiplgpmnnaaGreatDoor
open Go.Px
/-- A table's terms are whole, each once. -/
structure Tok (ts : List Tm) : Prop where
  tmo : ∀ t ∈ ts, Tmo t
  nd : ts.Nodup
theorem Tab.tok {bt bm : Nat} {ts : List Tm} {M : Mem} (h : Tab bt bm ts M) : Tok ts := by
  obtain ⟨_, _, _, _, _, _, _, _, _, _, _, h1, h2⟩ := h
  exact ⟨h1, h2⟩
theorem Tok.nil : Tok [] := ⟨(fun t h => by cases h), List.nodup_nil⟩
theorem pfact {ts : List Tm} {t : Tm} (ht : Tmo t) (h : Tok ts) : ∃ l, add ts t = ts ++ l ∧ (add ts t).length ≤ ts.length + 1 ∧ (add ts t)[at_ ts t]? = some t ∧ Tok (add ts t) := by
  cases hp : pos ts t with
  | some j =>
    obtain ⟨h1, h2⟩ := add_some hp
    exact ⟨[], by rw [h1, List.append_nil], add_len, by rw [h1, h2]; exact pos_some ht h.tmo hp, by rw [h1]; exact h⟩
  | none =>
    obtain ⟨h1, h2⟩ := add_none hp
    refine ⟨[t], h1, add_len, by rw [h1, h2]; simp, ?_⟩
    rw [h1]
    refine ⟨fun u hu => ?_, ?_⟩
    · rcases List.mem_append.1 hu with hu | hu
      · exact h.tmo u hu
      · rw [List.mem_singleton.1 hu]; exact ht
    · rw [List.nodup_append]
      refine ⟨h.nd, by simp, fun x hx y hy e => (pos_none ht h.tmo).1 hp ?_⟩
      rw [List.mem_singleton.1 hy] at e
      exact e ▸ hx
theorem ext_at {ts l : List Tm} {i : Nat} {t : Tm} (h : ts[i]? = some t) : (ts ++ l)[i]? = some t := by
  rw [List.getElem?_append_left (List.getElem?_eq_some_iff.1 h).1]; exact h
/-- A term that is there is put again: nothing changes. -/
theorem again {ts : List Tm} {t : Tm} {i : Nat} (h : Tok ts) (ht : ts[i]? = some t) : add ts t = ts ∧ at_ ts t = i := add_some (pos_of h.tmo h.nd ht)
theorem bts_inj {i j : Nat} (hi : i < 18446744073709551616) (hj : j < 18446744073709551616) (h : bts ((i : Nat) : Int) = bts ((j : Nat) : Int)) : i = j := by
  have h1 := plc_bts ((i : Nat) : Int) 18446744073709551616
  have h2 := plc_bts ((j : Nat) : Int) 18446744073709551616
  have ui : u64 ((i : Nat) : Int) = i := by unfold u64; omega
  have uj : u64 ((j : Nat) : Int) = j := by unfold u64; omega
  rw [ui, if_pos hi] at h1
  rw [uj, if_pos hj] at h2
  rw [h, h2] at h1
  exact (Option.some.inj h1).symm
/-- Bytes that stand for a place of a table. -/
def Good (ts : List Tm) (w : List Nat) : Prop := ∃ i, i < ts.length ∧ w = bts ((i : Nat) : Int)
theorem Good.ext {ts l : List Tm} {w : List Nat} (h : Good ts w) : Good (ts ++ l) w := by
  obtain ⟨i, hi, e⟩ := h
  exact ⟨i, by rw [List.length_append]; omega, e⟩
theorem good_rd {ts : List Tm} {i : Nat} (hi : i < ts.length) (hl : ts.length ≤ 1048576) : rdT ts (bts ((i : Nat) : Int)) = ts ∧ rdI ts (bts ((i : Nat) : Int)) = i := by
  refine rdT_some ?_
  rw [plc_bts, show u64 ((i : Nat) : Int) = i by unfold u64; omega, if_pos hi]
/-- The keys of terms by which a state goes on: good ones, or any of numbers. -/
def Kok (s : Ps) (w : List Nat) : Prop := s.real = false → Good s.ts w
/-- A state behind another one: the same seed, more terms. -/
structure Pext (s s' : Ps) : Prop where
  real : s'.real = s.real
  ts : ∃ l, s'.ts = s.ts ++ l
theorem Pext.refl (s : Ps) : Pext s s := ⟨rfl, [], by simp⟩
theorem Pext.trans {a b c : Ps} (h1 : Pext a b) (h2 : Pext b c) : Pext a c := by
  obtain ⟨l1, e1⟩ := h1.ts
  obtain ⟨l2, e2⟩ := h2.ts
  exact ⟨h2.real.trans h1.real, l1 ++ l2, by rw [e2, e1, List.append_assoc]⟩
theorem Kok.ext {s s' : Ps} {w : List Nat} (h : Kok s w) (he : Pext s s') : Kok s' w := fun hr => by
  obtain ⟨l, e⟩ := he.ts
  rw [e]
  exact (h (by rw [← he.real]; exact hr)).ext
theorem fresh_ext (s : Ps) : Pext s (freshS s) := by
  unfold freshS
  split
  · exact ⟨rfl, [], by simp⟩
  · refine ⟨rfl, ?_⟩
    show ∃ l, add _ _ = _ ++ l
    unfold add
    split
    · exact ⟨[], by simp⟩
    · exact ⟨_, rfl⟩
theorem fresh_kok {s : Ps} (h : Tok s.ts) (hn : s.n < 1099511627776) : Kok (freshS s) (freshK s) ∧ (s.real = false → Tok (freshS s).ts) := by
  cases hr : s.real with
  | true => exact ⟨(fun h1 => by rw [(fresh_ext s).real, hr] at h1; cases h1), (fun h => by cases h)⟩
  | false =>
    obtain ⟨l, g1, g2, g3, g4⟩ := pfact (atom_ok' (n := s.n + 1) (by omega)) h
    refine ⟨fun _ => ?_, fun _ => by rw [freshS_f hr]; exact g4⟩
    rw [freshS_f hr, freshK_f hr]
    exact ⟨_, (List.getElem?_eq_some_iff.1 g3).1, rfl⟩
end Go.Proofs.YtphcaiplgpmnnaaGreatDoor
/- The walks of prim's Public, Agree, Table of terms. -/
namespace Go.Proofs.YtphcaiplgpmnnaaGreatDoor
open Go.Px
/-- A Prim of which the table is named. -/
structure PrmT (pb bt bm : Nat) (s : Ps) (M : Mem) : Prop where
  ex : ∃ (sv : Value) (B MT : Mem), M = (pb, blk [.int .u8 (md s.real), sv, .int .i64 ((s.n : Nat) : Int), .pointer (some ⟨bt, 0, none⟩)] 124) :: (B ++ MT) ∧ By B sv s.seed ∧ Tab bt bm s.ts MT
theorem PrmT.p {pb bt bm : Nat} {s : Ps} {M : Mem} (h : PrmT pb bt bm s M) : Prm pb s M := by
  obtain ⟨sv, B, MT, h1, h2, h3⟩ := h.ex
  exact ⟨sv, bt, bm, B, MT, h1, h2, h3⟩
theorem Prm.t {pb : Nat} {s : Ps} {M : Mem} (h : Prm pb s M) : ∃ bt bm, PrmT pb bt bm s M := by
  obtain ⟨sv, bt, bm, B, MT, h1, h2, h3⟩ := h.ex
  exact ⟨bt, bm, sv, B, MT, h1, h2, h3⟩
def pubT (x : Int) : Tm := ⟨3, [x], [], 0⟩
def pubS (s : Ps) (w : List Nat) : Ps := { s with ts := add (rdT s.ts w) (pubT ((rdI s.ts w : Nat) : Int)) }
def pubK (s : Ps) (w : List Nat) : List Nat := bts ((at_ (rdT s.ts w) (pubT ((rdI s.ts w : Nat) : Int)) : Nat) : Int)
def agrS (s : Ps) (w u : List Nat) : Ps := { s with ts := add (rdT (rdT s.ts w) u) (agT (rdT (rdT s.ts w) u) ((rdI s.ts w : Nat) : Int) ((rdI (rdT s.ts w) u : Nat) : Int)) }
def agrK (s : Ps) (w u : List Nat) : List Nat := bts ((at_ (rdT (rdT s.ts w) u) (agT (rdT (rdT s.ts w) u) ((rdI s.ts w : Nat) : Int) ((rdI (rdT s.ts w) u : Nat) : Int)) : Nat) : Int)
theorem pub_ok {x : Int} (h : i64 x) : Tmo (pubT x) := ⟨show 3 < 256 by decide, show i64 (0 : Int) by unfold i64; omega, fun i hi => by rw [List.mem_singleton.1 hi]; exact h, show 1 ≤ 1048576 by decide, ⟨fun x hx => (List.not_mem_nil hx).elim⟩, show 0 ≤ 1099511627776 by decide⟩
theorem rdI_i64 {ts : List Tm} {w : List Nat} (hw : ∀ x ∈ w, x < 256) (hl : w.length ≤ 1099511627776) (hts : ∀ t ∈ ts, Tmo t) (hn : ts.length ≤ 1048576) : i64 ((rdI ts w : Nat) : Int) := by
  have h1 := rdI_lt hw hl hts
  have h2 : (rdT ts w).length ≤ ts.length + 1 := rdT_len
  unfold i64; omega

theorem pread2_spec (pb bt bm : Nat) (m k : Int) (sv : Value) [hsv : Cel sv [sv]] (ts : List Tm) (v : Value) (w : List Nat) (MT A : Mem) (hT : Tab bt bm ts MT) (hpb : (pb, blk [.int .u8 m, sv, .int .i64 k, .pointer (some ⟨bt, 0, none⟩)] 124) ∈ A) (hn : ts.length ≤ 1048576) (hv : By A v w) {e4 : TypeId} {f4 : Nat × Nat} (h4 : (2, Obj.cells (nums .u64 pow10T).toArray e4 f4) ∈ A) : FnX Tryz.prog 82 [.pointer (some ⟨pb, 0, none⟩), v] MT A fun q M J => q = .int .i64 ((rdI ts w : Nat) : Int) ∧ Tab bt bm (rdT ts w) M := by
 haveI := hv.cel
 have hvl := hv.len
 refine FnX.enterZ (N := 11) Tryz.func82 rfl rfl rfl fun w_ => ?_
 refine XC.keep (kq 0 (kq 1 kn)) ?_
 refine XC.reg ?_
 refine as_ ?_
 refine XL.fin (kq 0 (kq 1 kn)) ?_
 refine XC.reg ?_
 refine mv_ ?_
 refine XL.q (q_nil rfl) rfl ?_
 refine XL.q (qf_ 3 3) rfl ?_
 refine XL.q ql_ rfl ?_
 refine mv_ ?_
 refine XL.lo rfl (l_call (Mc := MT) (R := _) (aS rfl (aS rfl a0)) (by kernel_rfl) PickC.perm (read_spec bt bm ts v w MT _ hT hn (hv.rd.mono SubC.sub) hv.lt (by have := hv.len; omega) (SubC.sub _ h4)) rfl ?_)
 rintro v10 M10 J10 ⟨rfl, rfl, hT10⟩
 refine as_ ?_
 refine XL.fin (kq 4 kn) ?_
 refine XC.ret ?_
 exact ⟨_, M10, [], res1 rfl rfl, Fit.none (Fit.last PickC.perm), rfl, hT10⟩

theorem public_spec (pb bt bm : Nat) (s : Ps) (hr : s.real = false) (v : Value) (w : List Nat) (MP A : Mem) (hP : PrmT pb bt bm s MP) (hn : s.ts.length < 1048576) (hv : By A v w) (hG : Glb A) : FnX Tryz.prog 34 [.pointer (some ⟨pb, 0, none⟩), v] MP A fun q M J => PrmT pb bt bm (pubS s w) M ∧ By J q (pubK s w) := by
 obtain ⟨sv, B, MT, rfl, hby, hT⟩ := hP.ex
 have hmd : md s.real = 1 := by rw [hr]; rfl
 rw [hmd] at *
 obtain ⟨⟨ge0, gf0, h0⟩, ⟨ge1, gf1, h1⟩, ⟨ge4, gf4, h4⟩⟩ := hG
 haveI := hv.cel
 haveI := hby.cel
 have hvl := hv.len
 refine FnX.enterZ (N := 26) Tryz.func34 rfl rfl rfl fun w_ => ?_
 refine XC.keep (kq 0 (kq 1 kn)) ?_
 refine XC.reg ?_
 refine as_ ?_
 refine XL.fin (kq 0 (kq 1 kn)) ?_
 refine XC.seq ?_
 refine XC.reg ?_
 refine mv_ ?_
 refine XL.q (q_ptrEqNil (e := 124) rfl rfl (by kernel_rfl)) rfl ?_
 refine XL.fin (kq 0 (kq 1 (kq 6 kn))) ?_
 refine XC.condF rfl ?_
 refine XC.skip ?_
 refine nx (kq 0 (kq 1 kn)) ?_
 refine XC.seq ?_
 refine XC.reg ?_
 refine mv_ ?_
 refine XL.q (q_nil rfl) rfl ?_
 refine XL.q (qf_ 0 0) rfl ?_
 refine XL.q ql_ rfl ?_
 refine XL.q (q_cmp false rfl rfl (eqF (by decide))) rfl ?_
 refine XL.fin (kq 0 (kq 1 (kq 11 kn))) ?_
 refine XC.condF rfl ?_
 refine XC.skip ?_
 refine nx (kq 0 (kq 1 kn)) ?_
 refine XC.drawK (MT) (_) true [0, 1, 2, 3, 4, 5, 6, 7, 8, 11] [(0, 0), (1, 0), (2, 0), (3, 1), (4, 0), (5, 0), (6, 2), (7, 2), (8, 0), (9, 2), (10, 2), (11, 0)] (by kernel_rfl) (by kernel_rfl) PickC.perm fun hs K n0 hKm hKs hKn => ?_
 refine XK.q hs rfl qm_ rfl ?_
 refine XK.q hs rfl (q_nil rfl) rfl ?_
 refine XK.q hs rfl (qf_ 3 3) rfl ?_
 refine XK.r hs rfl kr_ hKs ql_ rfl ?_
 refine XK.q hs rfl qm_ rfl ?_
 refine XK.q hs rfl qm_ rfl ?_
 refine XK.lo _ _ rfl rfl (List.Perm.refl _) hKm fun w0 => (l_call (Mc := MT) (R := _) (aS rfl (aS rfl a0)) (by kernel_rfl) PickC.perm (pread2_spec pb bt bm 1 _ sv s.ts v w MT _ hT At.mem (by omega) (hv.mono SubC.sub) (SubC.sub _ h4)) rfl ?_)
 rintro v21 M21 J21 ⟨rfl, hT21⟩ hKx
 refine XK.lo [] _ rfl rfl (List.Perm.refl _) (fun _ h => by cases h) fun w0 => (l_buildSlice (e := 3) (sz := 1) (z := [.int .i64 0]) (by kernel_rfl) (eS rfl e0) (bdS 0 1 rfl (by rfl) bd0) rfl fun b22 => fun _ => ?_)
 refine XK.perm (M' := (b22, blk [.int .i64 ((rdI s.ts w : Nat) : Int)] 3) :: (M21 ++ ((pb, blk [.int .u8 1, sv, .int .i64 (((s.n : Nat) : Int)), .pointer (some ⟨bt, 0, none⟩)] 124) :: (B ++ [])))) (by simp) ?_
 refine XK.q hs rfl (q_build (place := fun x => #[(0, 1), (1, 1), (2, 1), (3, 1)][x]?) (z := [.int .u8 0, .slice none 0 0, .string ByteArray.empty, .int .i64 0]) (fun _ => by kernel_rfl) (eS rfl (eS rfl e0)) (bdS 0 1 rfl (by rfl) (bdS 1 1 rfl (by rfl) bd0))) rfl ?_
 refine XK.tl rfl rfl rfl (l_call (Mc := M21) (R := _) (aS rfl (aS rfl a0)) (by kernel_rfl) PickC.perm (putT_spec bt bm (rdT s.ts w) _ (pubT ((rdI s.ts w : Nat) : Int)) M21 _ hT21 (by have := rdT_len (ts := s.ts) (ws := w); omega) (Rd.whole (n := 1) At.mem (by rfl)) (pub_ok (rdI_i64 hv.lt (by omega) hT.tok.tmo (by omega))) (SubC.sub _ h4)) rfl ?_)
 rintro v24 M24 J24 ⟨rfl, rfl, hT24⟩
 refine XK.tl rfl rfl rfl (l_call0 (aS rfl a0) (by kernel_rfl) (bytesJ_spec _ _) rfl ?_)
 rintro v25 M25 J25 ⟨rfl, h25⟩
 refine XK.q hs rfl (q_assign rfl) rfl ?_
 refine XK.fin (kq 4 kn) ?_
 refine XC.ret ?_
 exact ⟨_, (pb, blk [.int .u8 1, sv, .int .i64 (((s.n : Nat) : Int)), .pointer (some ⟨bt, 0, none⟩)] 124) :: (B ++ M24), [], res1 rfl rfl, (Fit.none (Fit.pick (B := [_]) PickC.perm (Fit.pick PickC.perm (Fit.last PickC.perm)))), ⟨sv, B, M24, by rw [show md (pubS s w).real = 1 by show md s.real = 1; rw [hr]; rfl]; rfl, hby, hT24⟩, h25.mono SubC.sub⟩

theorem pagree_spec (pb bt bm : Nat) (s : Ps) (hr : s.real = false) (v v2 : Value) (w u : List Nat) (MP A : Mem) (hP : PrmT pb bt bm s MP) (hn : s.ts.length + 1 < 1048576) (hv : By A v w) (hu : By A v2 u) (hG : Glb A) : FnX Tryz.prog 52 [.pointer (some ⟨pb, 0, none⟩), v, v2] MP A fun q M J => PrmT pb bt bm (agrS s w u) M ∧ By J q (agrK s w u) := by
 obtain ⟨sv, B, MT, rfl, hby, hT⟩ := hP.ex
 have hmd : md s.real = 1 := by rw [hr]; rfl
 rw [hmd] at *
 obtain ⟨⟨ge0, gf0, h0⟩, ⟨ge1, gf1, h1⟩, ⟨ge4, gf4, h4⟩⟩ := hG
 haveI := hv.cel
 haveI := hu.cel
 haveI := hby.cel
 have hvl := hv.len
 have hul := hu.len
 refine FnX.enterZ (N := 31) Tryz.func52 rfl rfl rfl fun w_ => ?_
 refine XC.keep (kq 0 (kq 1 (kq 2 kn))) ?_
 refine XC.reg ?_
 refine as_ ?_
 refine XL.fin (kq 0 (kq 1 (kq 2 kn))) ?_
 refine XC.seq ?_
 refine XC.reg ?_
 refine mv_ ?_
 refine XL.q (q_ptrEqNil (e := 124) rfl rfl (by kernel_rfl)) rfl ?_
 refine XL.fin (kq 0 (kq 1 (kq 2 (kq 8 kn)))) ?_
 refine XC.condF rfl ?_
 refine XC.skip ?_
 refine nx (kq 0 (kq 1 (kq 2 kn))) ?_
 refine XC.seq ?_
 refine XC.reg ?_
 refine mv_ ?_
 refine XL.q (q_nil rfl) rfl ?_
 refine XL.q (qf_ 0 0) rfl ?_
 refine XL.q ql_ rfl ?_
 refine XL.q (q_cmp false rfl rfl (eqF (by decide))) rfl ?_
 refine XL.fin (kq 0 (kq 1 (kq 2 (kq 13 kn)))) ?_
 refine XC.condF rfl ?_
 refine XC.skip ?_
 refine nx (kq 0 (kq 1 (kq 2 kn))) ?_
 refine XC.drawK (MT) (_) true [0, 1, 2, 3, 4, 5, 6, 7, 8, 9, 12] [(0, 0), (1, 0), (2, 0), (3, 1), (4, 0), (5, 0), (7, 0), (8, 0), (6, 2), (9, 2), (10, 2), (11, 2), (12, 0)] (by kernel_rfl) (by kernel_rfl) PickC.perm fun hs K n0 hKm hKs hKn => ?_
 refine XK.q hs rfl qm_ rfl ?_
 refine XK.q hs rfl (q_nil rfl) rfl ?_
 refine XK.q hs rfl (qf_ 3 3) rfl ?_
 refine XK.r hs rfl kr_ hKs ql_ rfl ?_
 refine XK.q hs rfl qm_ rfl ?_
 refine XK.q hs rfl qm_ rfl ?_
 refine XK.q hs rfl qm_ rfl ?_
 refine XK.q hs rfl qm_ rfl ?_
 refine XK.lo _ _ rfl rfl (List.Perm.refl _) hKm fun w0 => (l_call (Mc := MT) (R := _) (aS rfl (aS rfl a0)) (by kernel_rfl) PickC.perm (pread2_spec pb bt bm 1 _ sv s.ts v w MT _ hT At.mem (by omega) (hv.mono SubC.sub) (SubC.sub _ h4)) rfl ?_)
 rintro v25 M25 J25 ⟨rfl, hT25⟩ hKx
 refine XK.lo (M25 ++ []) _ rfl rfl PickC.perm (hKx (hKn rfl)) fun w0 => (l_call (Mc := M25) (R := _) (aS rfl (aS rfl a0)) (by kernel_rfl) PickC.perm (pread2_spec pb bt bm 1 _ sv (rdT s.ts w) v2 u M25 _ hT25 At.mem (by have := rdT_len (ts := s.ts) (ws := w); omega) (hu.mono SubC.sub) (SubC.sub _ h4)) rfl ?_)
 rintro v28 M28 J28 ⟨rfl, hT28⟩ hKy
 refine XK.tl rfl rfl rfl (l_call (Mc := M28) (R := _) (aS rfl (aS rfl (aS rfl a0))) (by kernel_rfl) PickC.perm (agree_spec bt bm (rdT (rdT s.ts w) u) _ _ M28 _ hT28 (by have := rdT_len (ts := s.ts) (ws := w); have := rdT_len (ts := rdT s.ts w) (ws := u); omega) (rdI_i64 hv.lt (by omega) hT.tok.tmo (by omega)) (rdI_i64 hu.lt (by omega) hT25.tok.tmo (by have := rdT_len (ts := s.ts) (ws := w); omega)) (SubC.sub _ h4)) rfl ?_)
 rintro v29 M29 J29 ⟨rfl, rfl, hT29⟩
 refine XK.tl rfl rfl rfl (l_call0 (aS rfl a0) (by kernel_rfl) (bytesJ_spec _ _) rfl ?_)
 rintro v30 M30 J30 ⟨rfl, h30⟩
 refine XK.q hs rfl (q_assign rfl) rfl ?_
 refine XK.fin (kq 6 kn) ?_
 refine XC.ret ?_
 exact ⟨_, (pb, blk [.int .u8 1, sv, .int .i64 (((s.n : Nat) : Int)), .pointer (some ⟨bt, 0, none⟩)] 124) :: (B ++ M29), [], res1 rfl rfl, (Fit.none (Fit.pick (B := [_]) PickC.perm (Fit.pick PickC.perm (Fit.last PickC.perm)))), ⟨sv, B, M29, by rw [show md (agrS s w u).real = 1 by show md s.real = 1; rw [hr]; rfl]; rfl, hby, hT29⟩, h30.mono SubC.sub⟩

theorem public_p (pb : Nat) (s : Ps) (hr : s.real = false) (v : Value) (w : List Nat) (MP A : Mem) (hP : Prm pb s MP) (hn : s.ts.length < 1048576) (hv : By A v w) (hG : Glb A) : FnX Tryz.prog 34 [.pointer (some ⟨pb, 0, none⟩), v] MP A fun q M J => Prm pb (pubS s w) M ∧ By J q (pubK s w) := by
  obtain ⟨bt, bm, h⟩ := hP.t
  exact (public_spec pb bt bm s hr v w MP A h hn hv hG).mono fun q M J ⟨h1, h2⟩ => ⟨h1.p, h2⟩
theorem pagree_p (pb : Nat) (s : Ps) (hr : s.real = false) (v v2 : Value) (w u : List Nat) (MP A : Mem) (hP : Prm pb s MP) (hn : s.ts.length + 1 < 1048576) (hv : By A v w) (hu : By A v2 u) (hG : Glb A) : FnX Tryz.prog 52 [.pointer (some ⟨pb, 0, none⟩), v, v2] MP A fun q M J => Prm pb (agrS s w u) M ∧ By J q (agrK s w u) := by
  obtain ⟨bt, bm, h⟩ := hP.t
  exact (pagree_spec pb bt bm s hr v v2 w u MP A h hn hv hu hG).mono fun q M J ⟨h1, h2⟩ => ⟨h1.p, h2⟩

theorem ptable_spec (pb bt : Nat) (k : Int) (sv : Value) (A : Mem) (hpb : (pb, blk [.int .u8 1, sv, .int .i64 k, .pointer (some ⟨bt, 0, none⟩)] 124) ∈ A) : FnV Tryz.prog 39 [.pointer (some ⟨pb, 0, none⟩)] A (.pointer (some ⟨bt, 0, none⟩)) := by
 refine FnX.enter (N := 16) Tryz.func39 rfl rfl rfl fun w => ?_
 refine XC.keep (kq 0 kn) ?_
 refine XC.reg ?_
 refine as_ ?_
 refine XL.fin (kq 0 kn) ?_
 refine XC.seq ?_
 refine XC.reg ?_
 refine mv_ ?_
 refine XL.q (q_ptrEqNil (e := 124) rfl rfl (by kernel_rfl)) rfl ?_
 refine mv_ ?_
 refine XL.gy rfl rfl (OpQ.opL qm_ rfl ?_)
 refine XL.gy rfl rfl (OpQ.opL (q_nil rfl) rfl ?_)
 refine XL.gy rfl rfl (OpQ.opL (qf_ 0 0) rfl ?_)
 refine XL.gy rfl rfl (OpQ.opL (q_load rfl (by kernel_rfl) (mA hpb) (by rfl)) rfl ?_)
 refine XL.gy rfl rfl (OpQ.opL (q_cmp false rfl rfl (eqF (by decide))) rfl ?_)
 refine XL.q (q_pickF rfl rfl) rfl ?_
 refine XL.fin (kq 0 (kq 11 kn)) ?_
 refine XC.condF rfl ?_
 refine XC.skip ?_
 refine nx (kq 0 kn) ?_
 refine XC.reg ?_
 refine mv_ ?_
 refine XL.q (q_nil rfl) rfl ?_
 refine XL.q (qf_ 3 3) rfl ?_
 refine XL.q (q_load rfl (by kernel_rfl) (mA hpb) (by rfl)) rfl ?_
 refine as_ ?_
 refine XL.fin (kq 2 kn) ?_
 refine XC.ret ?_
 exact ⟨_, [], [], res1 rfl rfl, List.nil_sublist _, by simp, rfl, rfl, rfl⟩

end Go.Proofs.YtphcaiplgpmnnaaGreatDoor
/- The walks of prim's Seal, Sign of terms. -/
namespace Go.Proofs.YtphcaiplgpmnnaaGreatDoor
open Go.Px
def selT (x : Int) (a b : List Nat) : Tm := ⟨6, [x], mark a ++ mark b, 0⟩
def sigT (x : Int) (m : List Nat) : Tm := ⟨7, [x], m, 0⟩
/-- One term of one other, put. -/
def one1 (s : Ps) (w : List Nat) (f : Int → Tm) : Ps := { s with ts := add (rdT s.ts w) (f ((rdI s.ts w : Nat) : Int)) }
def oneK (s : Ps) (w : List Nat) (f : Int → Tm) : List Nat := bts ((at_ (rdT s.ts w) (f ((rdI s.ts w : Nat) : Int)) : Nat) : Int)
theorem sel_ok {x : Int} (h : i64 x) {a b : List Nat} (ha : ∀ y ∈ a, y < 256) (hb : ∀ y ∈ b, y < 256) (la : a.length ≤ 16777216) (lb : b.length ≤ 16777216) : Tmo (selT x a b) := by
  haveI : B256 a := ⟨ha⟩
  haveI : B256 b := ⟨hb⟩
  have h1 := mark_len a (by omega)
  have h2 := mark_len b (by omega)
  exact ⟨show 6 < 256 by decide, show i64 (0 : Int) by unfold i64; omega, fun i hi => by rw [List.mem_singleton.1 hi]; exact h, show 1 ≤ 1048576 by decide, inferInstanceAs (B256 (mark a ++ mark b)), by show (mark a ++ mark b).length ≤ _; rw [List.length_append]; omega⟩
theorem sig_ok {x : Int} (h : i64 x) {m : List Nat} (hm : ∀ y ∈ m, y < 256) (lm : m.length ≤ 16777216) : Tmo (sigT x m) :=
  ⟨show 7 < 256 by decide, show i64 (0 : Int) by unfold i64; omega, fun i hi => by rw [List.mem_singleton.1 hi]; exact h, show 1 ≤ 1048576 by decide, ⟨hm⟩, show m.length ≤ 1099511627776 by omega⟩

theorem seal_spec (pb bt bm : Nat) (s : Ps) (hr : s.real = false) (v v2 v3 : Value) (w wa wb : List Nat) (MP A : Mem) (hP : PrmT pb bt bm s MP) (hn : s.ts.length < 1048576) (hv : By A v w) (hya : By A v2 wa) (hyb : By A v3 wb) (hG : Glb A) : FnX Tryz.prog 45 [.pointer (some ⟨pb, 0, none⟩), v, v2, v3] MP A fun q M J => PrmT pb bt bm (one1 s w fun x => selT x wa wb) M ∧ By J q (oneK s w fun x => selT x wa wb) := by
 obtain ⟨sv, B, MT, rfl, hby, hT⟩ := hP.ex
 have hmd : md s.real = 1 := by rw [hr]; rfl
 rw [hmd] at *
 obtain ⟨⟨ge0, gf0, h0⟩, ⟨ge1, gf1, h1⟩, ⟨ge4, gf4, h4⟩⟩ := hG
 haveI := hv.cel
 haveI := hya.cel
 haveI := hyb.cel
 haveI := hby.cel
 have hvl := hv.len
 have hal := hya.len
 have hbl := hyb.len
 refine FnX.enterZ (N := 38) Tryz.func45 rfl rfl rfl fun w_ => ?_
 refine XC.keep (kq 0 (kq 1 (kq 2 (kq 3 kn)))) ?_
 refine XC.reg ?_
 refine as_ ?_
 refine XL.fin (kq 0 (kq 1 (kq 2 (kq 3 kn)))) ?_
 refine XC.seq ?_
 refine XC.reg ?_
 refine mv_ ?_
 refine XL.q (q_ptrEqNil (e := 124) rfl rfl (by kernel_rfl)) rfl ?_
 refine XL.fin (kq 0 (kq 1 (kq 2 (kq 3 (kq 10 kn))))) ?_
 refine XC.condF rfl ?_
 refine XC.skip ?_
 refine nx (kq 0 (kq 1 (kq 2 (kq 3 kn)))) ?_
 refine XC.seq ?_
 refine XC.reg ?_
 refine mv_ ?_
 refine XL.q (q_nil rfl) rfl ?_
 refine XL.q (qf_ 0 0) rfl ?_
 refine XL.q ql_ rfl ?_
 refine XL.q (q_cmp false rfl rfl (eqF (by decide))) rfl ?_
 refine XL.fin (kq 0 (kq 1 (kq 2 (kq 3 (kq 15 kn))))) ?_
 refine XC.condF rfl ?_
 refine XC.skip ?_
 refine nx (kq 0 (kq 1 (kq 2 (kq 3 kn)))) ?_
 refine XC.drawK (MT) (_) true [0, 1, 2, 3, 4, 5, 6, 7, 8, 9, 10, 11, 12, 13, 16] [(0, 0), (1, 0), (2, 0), (3, 1), (4, 0), (5, 0), (8, 0), (10, 0), (6, 2), (7, 3), (9, 3), (11, 3), (12, 4), (13, 0), (14, 2), (15, 2), (16, 0)] (by kernel_rfl) (by kernel_rfl) PickC.perm fun hs K n0 hKm hKs hKn => ?_
 refine XK.q hs rfl qm_ rfl ?_
 refine XK.q hs rfl (q_nil rfl) rfl ?_
 refine XK.q hs rfl (qf_ 3 3) rfl ?_
 refine XK.r hs rfl kr_ hKs ql_ rfl ?_
 refine XK.q hs rfl qm_ rfl ?_
 refine XK.q hs rfl qm_ rfl ?_
 refine XK.q hs rfl qm_ rfl ?_
 refine XK.q hs rfl qm_ rfl ?_
 refine XK.lo _ _ rfl rfl (List.Perm.refl _) hKm fun w0 => (l_call (Mc := MT) (R := _) (aS rfl (aS rfl a0)) (by kernel_rfl) PickC.perm (pread2_spec pb bt bm 1 _ sv s.ts v w MT _ hT At.mem (by omega) (hv.mono SubC.sub) (SubC.sub _ h4)) rfl ?_)
 rintro v28 M28 J28 ⟨rfl, hT28⟩ hKx
 refine XK.groupO [⟨7, 29, fun v B _ => ∃ b, v = .slice (some ⟨b, 0, none⟩) 1 1 ∧ B = [(b, blk [.int .i64 ((rdI s.ts w : Nat) : Int)] 3)]⟩, ⟨9, 31, fun v B _ => B = [] ∧ v = .string (txt (mark wa))⟩, ⟨11, 33, fun v B _ => B = [] ∧ v = .string (txt (mark wb))⟩, ⟨12, 34, fun v B _ => B = [] ∧ v = .string (txt (mark wa ++ mark wb))⟩]
  (allS (fun _ _ _ _ _ h => h) (allS (fun _ _ _ _ _ h => h) (allS (fun _ _ _ _ _ h => h) (allS (fun _ _ _ _ _ h => h) (all0))))) (show List.Nodup [29, 31, 33, 34] by decide) (show List.Nodup [7, 9, 11, 12] by decide) (allS (blt_lt rfl) (allS (blt_lt rfl) (allS (blt_lt rfl) (allS (blt_lt rfl) (all0)))))
  (allS ⟨_, rfl, fun vs bs R w hb ha => ⟨.inl rfl, ?_⟩⟩ (allS ⟨_, rfl, fun vs bs R w hb ha => ⟨.inl rfl, ?_⟩⟩ (allS ⟨_, rfl, fun vs bs R w hb ha => ⟨.inl rfl, ?_⟩⟩ (allS ⟨_, rfl, fun vs bs R w hb ha => ⟨.inl rfl, ?_⟩⟩ (all0))))) ?_
 ·
  exact l_buildSlice (e := 3) (sz := 1) (z := [.int .i64 0]) (by kernel_rfl) (eS rfl e0) (bdS 0 1 rfl (by rfl) bd0) rfl fun b => ⟨_, rfl, b, rfl, rfl⟩
 ·
  exact l_callV (aS rfl a0) (by kernel_rfl) (mark_spec v2 wa _ (hya.rd.mono fun x hx => hb _ (SubC.sub x hx)) (hb := hya.b256) (by have := hya.len; omega) (hb _ (SubC.sub _ h4))) rfl ⟨_, rfl, rfl, rfl⟩
 ·
  have g9 := ha _ (List.mem_of_getElem? (i := 1) rfl) (by kernel_rfl)
  replace g9 : (fun v B _ => B = [] ∧ v = .string (txt (mark wa))) (vs 9) (bs 9) R := g9
  dsimp only at g9
  exact l_callV (aS rfl a0) (by kernel_rfl) (mark_spec v3 wb _ (hyb.rd.mono fun x hx => hb _ (SubC.sub x hx)) (hb := hyb.b256) (by have := hyb.len; omega) (hb _ (SubC.sub _ h4))) rfl ⟨_, rfl, rfl, rfl⟩
 ·
  have g9 := ha _ (List.mem_of_getElem? (i := 1) rfl) (by kernel_rfl)
  replace g9 : (fun v B _ => B = [] ∧ v = .string (txt (mark wa))) (vs 9) (bs 9) R := g9
  dsimp only at g9
  have g11 := ha _ (List.mem_of_getElem? (i := 2) rfl) (by kernel_rfl)
  replace g11 : (fun v B _ => B = [] ∧ v = .string (txt (mark wb))) (vs 11) (bs 11) R := g11
  dsimp only at g11
  obtain ⟨-, h9⟩ := g9
  obtain ⟨-, h11⟩ := g11
  exact OpQ.opL (q_sAdd (ws := mark wa) (ws' := mark wb) (by rw [← h9]; rfl) (by rw [← h11]; rfl) rfl rfl (by have h1 := mark_len wa (by omega); have h2 := mark_len wb (by omega); omega)) rfl ⟨_, rfl, rfl, rfl⟩
 intro vs bs Jn0 hφ
 have g7 := ofH hφ
 dsimp only at g7
 replace hφ := ofT hφ
 have g9 := ofH hφ
 dsimp only at g9
 replace hφ := ofT hφ
 have g11 := ofH hφ
 dsimp only at g11
 replace hφ := ofT hφ
 have g12 := ofH hφ
 dsimp only at g12
 clear hφ
 dsimp only [gEnvO, ownOf, List.map, List.flatten, List.cons_append, List.nil_append]
 generalize bs 7 = B29 at *
 generalize bs 9 = B31 at *
 generalize bs 11 = B33 at *
 generalize bs 12 = B34 at *
 generalize vs 7 = u29 at *
 generalize vs 9 = u31 at *
 generalize vs 11 = u33 at *
 generalize vs 12 = u34 at *
 obtain ⟨b29, rfl, rfl⟩ := g7
 obtain ⟨rfl, rfl⟩ := g9
 obtain ⟨rfl, rfl⟩ := g11
 obtain ⟨rfl, rfl⟩ := g12
 dsimp only [List.append_eq, List.nil_append, List.cons_append]
 refine XK.q hs rfl (q_build (place := fun x => #[(0, 1), (1, 1), (2, 1), (3, 1)][x]?) (z := [.int .u8 0, .slice none 0 0, .string ByteArray.empty, .int .i64 0]) (fun _ => by kernel_rfl) (eS rfl (eS rfl (eS rfl e0))) (bdS 0 1 rfl (by rfl) (bdS 1 1 rfl (by rfl) (bdS 2 1 rfl (by rfl) bd0)))) rfl ?_
 refine XK.tl rfl rfl rfl (l_call (Mc := M28) (R := _) (aS rfl (aS rfl a0)) (by kernel_rfl) PickC.perm (putT_spec bt bm (rdT s.ts w) _ (selT ((rdI s.ts w : Nat) : Int) wa wb) M28 _ hT28 (by have := rdT_len (ts := s.ts) (ws := w); omega) (Rd.whole (n := 1) At.mem (by rfl)) (sel_ok (rdI_i64 hv.lt (by omega) hT.tok.tmo (by omega)) hya.lt hyb.lt hya.len hyb.len) (SubC.sub _ h4)) rfl ?_)
 rintro v36 M36 J36 ⟨rfl, rfl, hT36⟩
 refine XK.tl rfl rfl rfl (l_call0 (aS rfl a0) (by kernel_rfl) (bytesJ_spec _ _) rfl ?_)
 rintro v37 M37 J37 ⟨rfl, h37⟩
 refine XK.q hs rfl (q_assign rfl) rfl ?_
 refine XK.fin (kq 8 kn) ?_
 refine XC.ret ?_
 exact ⟨_, (pb, blk [.int .u8 1, sv, .int .i64 (((s.n : Nat) : Int)), .pointer (some ⟨bt, 0, none⟩)] 124) :: (B ++ M36), [], res1 rfl rfl, (Fit.none (Fit.pick (B := [_]) PickC.perm (Fit.pick PickC.perm (Fit.last PickC.perm)))), ⟨sv, B, M36, by rw [show md (one1 s w (fun x => selT x wa wb)).real = 1 by show md s.real = 1; rw [hr]; rfl]; rfl, hby, hT36⟩, h37.mono SubC.sub⟩

theorem sign_spec (pb bt bm : Nat) (s : Ps) (hr : s.real = false) (v v2 : Value) (w wm : List Nat) (MP A : Mem) (hP : PrmT pb bt bm s MP) (hn : s.ts.length < 1048576) (hv : By A v w) (hm : By A v2 wm) (hG : Glb A) : FnX Tryz.prog 46 [.pointer (some ⟨pb, 0, none⟩), v, v2] MP A fun q M J => PrmT pb bt bm (one1 s w fun x => sigT x wm) M ∧ By J q (fitN (oneK s w fun x => sigT x wm) 64) := by
 obtain ⟨sv, B, MT, rfl, hby, hT⟩ := hP.ex
 have hmd : md s.real = 1 := by rw [hr]; rfl
 rw [hmd] at *
 obtain ⟨⟨ge0, gf0, h0⟩, ⟨ge1, gf1, h1⟩, ⟨ge4, gf4, h4⟩⟩ := hG
 haveI := hv.cel
 haveI := hm.cel
 haveI := hby.cel
 have hvl := hv.len
 have hml := hm.len
 refine FnX.enterZ (N := 32) Tryz.func46 rfl rfl rfl fun w_ => ?_
 refine XC.keep (kq 0 (kq 1 (kq 2 kn))) ?_
 refine XC.reg ?_
 refine as_ ?_
 refine XL.fin (kq 0 (kq 1 (kq 2 kn))) ?_
 refine XC.seq ?_
 refine XC.reg ?_
 refine mv_ ?_
 refine XL.q (q_ptrEqNil (e := 124) rfl rfl (by kernel_rfl)) rfl ?_
 refine XL.fin (kq 0 (kq 1 (kq 2 (kq 8 kn)))) ?_
 refine XC.condF rfl ?_
 refine XC.skip ?_
 refine nx (kq 0 (kq 1 (kq 2 kn))) ?_
 refine XC.seq ?_
 refine XC.reg ?_
 refine mv_ ?_
 refine XL.q (q_nil rfl) rfl ?_
 refine XL.q (qf_ 0 0) rfl ?_
 refine XL.q ql_ rfl ?_
 refine XL.q (q_cmp false rfl rfl (eqF (by decide))) rfl ?_
 refine XL.fin (kq 0 (kq 1 (kq 2 (kq 13 kn)))) ?_
 refine XC.condF rfl ?_
 refine XC.skip ?_
 refine nx (kq 0 (kq 1 (kq 2 kn))) ?_
 refine XC.drawK (MT) (_) true [0, 1, 2, 3, 4, 5, 6, 7, 8, 9, 10, 14] [(0, 0), (1, 0), (2, 0), (3, 1), (4, 0), (5, 0), (8, 0), (9, 1), (6, 2), (7, 2), (10, 0), (11, 2), (12, 2), (13, 2), (14, 0)] (by kernel_rfl) (by kernel_rfl) PickC.perm fun hs K n0 hKm hKs hKn => ?_
 refine XK.q hs rfl qm_ rfl ?_
 refine XK.q hs rfl (q_nil rfl) rfl ?_
 refine XK.q hs rfl (qf_ 3 3) rfl ?_
 refine XK.r hs rfl kr_ hKs ql_ rfl ?_
 refine XK.q hs rfl qm_ rfl ?_
 refine XK.q hs rfl qm_ rfl ?_
 refine XK.q hs rfl qm_ rfl ?_
 refine XK.r hs rfl kr_ hKs (q_toStr2 rfl (by kernel_rfl) (hm.rd.mono SubC.sub)) rfl ?_
 refine XK.lo _ _ rfl rfl (List.Perm.refl _) hKm fun w0 => (l_call (Mc := MT) (R := _) (aS rfl (aS rfl a0)) (by kernel_rfl) PickC.perm (pread2_spec pb bt bm 1 _ sv s.ts v w MT _ hT At.mem (by omega) (hv.mono SubC.sub) (SubC.sub _ h4)) rfl ?_)
 rintro v24 M24 J24 ⟨rfl, hT24⟩ hKx
 refine XK.lo [] _ rfl rfl (List.Perm.refl _) (fun _ h => by cases h) fun w0 => (l_buildSlice (e := 3) (sz := 1) (z := [.int .i64 0]) (by kernel_rfl) (eS rfl e0) (bdS 0 1 rfl (by rfl) bd0) rfl fun b25 => fun _ => ?_)
 refine XK.perm (M' := (b25, blk [.int .i64 ((rdI s.ts w : Nat) : Int)] 3) :: (M24 ++ ((pb, blk [.int .u8 1, sv, .int .i64 (((s.n : Nat) : Int)), .pointer (some ⟨bt, 0, none⟩)] 124) :: (B ++ [])))) (by simp) ?_
 refine XK.q hs rfl (q_build (place := fun x => #[(0, 1), (1, 1), (2, 1), (3, 1)][x]?) (z := [.int .u8 0, .slice none 0 0, .string ByteArray.empty, .int .i64 0]) (fun _ => by kernel_rfl) (eS rfl (eS rfl (eS rfl e0))) (bdS 0 1 rfl (by rfl) (bdS 1 1 rfl (by rfl) (bdS 2 1 rfl (by rfl) bd0)))) rfl ?_
 refine XK.tl rfl rfl rfl (l_call (Mc := M24) (R := _) (aS rfl (aS rfl a0)) (by kernel_rfl) PickC.perm (putT_spec bt bm (rdT s.ts w) _ (sigT ((rdI s.ts w : Nat) : Int) wm) M24 _ hT24 (by have := rdT_len (ts := s.ts) (ws := w); omega) (Rd.whole (n := 1) At.mem (by rfl)) (sig_ok (rdI_i64 hv.lt (by omega) hT.tok.tmo (by omega)) hm.lt hm.len) (SubC.sub _ h4)) rfl ?_)
 rintro v29 M29 J29 ⟨rfl, rfl, hT29⟩
 refine XK.tl rfl rfl rfl (l_call0 (aS rfl a0) (by kernel_rfl) (bytesJ_spec _ _) rfl ?_)
 rintro v30 M30 J30 ⟨rfl, h30⟩
 haveI := h30.cel
 refine XK.tl rfl rfl rfl (l_call0 (aS rfl (aS rfl a0)) (by kernel_rfl) (fit_spec v30 _ 64 _ (h30.mono SubC.sub) (by decide)) rfl ?_)
 rintro v31 M31 J31 ⟨rfl, h31⟩
 refine XK.q hs rfl (q_assign rfl) rfl ?_
 refine XK.fin (kq 6 kn) ?_
 refine XC.ret ?_
 exact ⟨_, (pb, blk [.int .u8 1, sv, .int .i64 (((s.n : Nat) : Int)), .pointer (some ⟨bt, 0, none⟩)] 124) :: (B ++ M29), [], res1 rfl rfl, (Fit.none (Fit.pick (B := [_]) PickC.perm (Fit.pick PickC.perm (Fit.last PickC.perm)))), ⟨sv, B, M29, by rw [show md (one1 s w (fun x => sigT x wm)).real = 1 by show md s.real = 1; rw [hr]; rfl]; rfl, hby, hT29⟩, h31.mono SubC.sub⟩

end Go.Proofs.YtphcaiplgpmnnaaGreatDoor
