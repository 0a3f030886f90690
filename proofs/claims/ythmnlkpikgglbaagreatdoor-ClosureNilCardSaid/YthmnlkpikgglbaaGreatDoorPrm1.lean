/- The walks of package prim in both modes: New, fit, read, Fresh. -/
import Derived.Test.YthmnlkpikgglbaaGreatDoorSha7
import Derived.Test.YthmnlkpikgglbaaGreatDoorTrm9
import Derived.Test.YthmnlkpikgglbaaGreatDoorFrz
set_option linter.unusedVariables false
set_option linter.unusedSimpArgs false
namespace Go.Proofs.YthmnlkpikgglbaaGreatDoor
open Go.Px
/-- What the package variables hold. -/
structure Glb (A : Mem) : Prop where
  first : ∃ e f, (0, Obj.cells (nums .u32 hFirst.list).toArray e f) ∈ A
  round : ∃ e f, (3, Obj.cells (nums .u32 kTab).toArray e f) ∈ A
  pow : ∃ e f, (4, Obj.cells (nums .u64 pow10T).toArray e f) ∈ A
theorem Glb.sub {A A' : Mem} (h : Glb A) (hs : ∀ x, x ∈ A → x ∈ A') : Glb A' := by
  obtain ⟨⟨a, b, c⟩, ⟨d, e, f⟩, ⟨g, h, i⟩⟩ := h
  exact ⟨⟨a, b, hs _ c⟩, ⟨d, e, hs _ f⟩, ⟨g, h, hs _ i⟩⟩
theorem Glb.up {M J A : Mem} (h : Glb A) : Glb (M ++ (J ++ A)) := h.sub fun _ h => mA h
/-- What a Prim is: its mode, its seed, how many keys it made, its terms. -/
structure Ps where
  real : Bool
  seed : List Nat
  n : Nat
  ts : List Tm
def md (b : Bool) : Int := if b then 0 else 1
structure Prm (pb : Nat) (s : Ps) (M : Mem) : Prop where
  ex : ∃ (sv : Value) (bt bm : Nat) (B MT : Mem), M = (pb, blk [.int .u8 (md s.real), sv, .int .i64 ((s.n : Nat) : Int), .pointer (some ⟨bt, 0, none⟩)] 77) :: (B ++ MT) ∧ By B sv s.seed ∧ Tab bt bm s.ts MT
/-! ### The plain functions -/
def fitN (w : List Nat) (n : Nat) : List Nat := w.take n ++ List.replicate (n - w.length) 0
theorem fitN_len (w : List Nat) (n : Nat) : (fitN w n).length = n := by simp [fitN]; omega
theorem fitN_lt {w : List Nat} (h : ∀ x ∈ w, x < 256) (n : Nat) : ∀ x ∈ fitN w n, x < 256 := by
  intro x hx
  rcases List.mem_append.1 hx with h1 | h1
  · exact h x (List.mem_of_mem_take h1)
  · rw [(List.mem_replicate.1 h1).2]; decide
def le8n (n : Nat) : List Nat := (List.range 8).map (byt ((n : Nat) : Int))
def keyR (seed : List Nat) (n : Nat) : List Nat := expand (hmac [] seed) ([107, 101, 121] ++ le8n n) 32
def atom (n : Nat) : Tm := ⟨1, [], [], (n : Int)⟩
def freshS (s : Ps) : Ps := if s.real then { s with n := s.n + 1 } else { s with n := s.n + 1, ts := add s.ts (atom (s.n + 1)) }
def freshK (s : Ps) : List Nat := if s.real then keyR s.seed (s.n + 1) else bts ((at_ s.ts (atom (s.n + 1)) : Nat) : Int)
theorem freshS_t {s : Ps} (h : s.real = true) : freshS s = { s with n := s.n + 1 } := if_pos h
theorem freshS_f {s : Ps} (h : s.real = false) : freshS s = { s with n := s.n + 1, ts := add s.ts (atom (s.n + 1)) } := if_neg (by rw [h]; decide)
theorem freshK_t {s : Ps} (h : s.real = true) : freshK s = keyR s.seed (s.n + 1) := if_pos h
theorem freshK_f {s : Ps} (h : s.real = false) : freshK s = bts ((at_ s.ts (atom (s.n + 1)) : Nat) : Int) := if_neg (by rw [h]; decide)
theorem le8n_lt (n : Nat) : ∀ x ∈ le8n n, x < 256 := by
  intro x hx
  obtain ⟨k, _, rfl⟩ := List.mem_map.1 hx
  exact byt_lt _ _
theorem expand_lt (key info : List Nat) (n : Int) : ∀ x ∈ expand key info n, x < 256 := fun x hx => exp1_lt _ _ _ x (List.mem_of_mem_take hx)
theorem expand_le (key info : List Nat) (n : Int) : (expand key info n).length ≤ n.toNat := by unfold expand; exact List.length_take_le _ _
theorem atom_ok' {n : Nat} (h : n ≤ 1099511627776) : Tmo (atom n) := ⟨show 1 < 256 by decide, show i64 (n : Int) by unfold i64; omega, fun i hi => (List.not_mem_nil hi).elim, show 0 ≤ 1048576 by decide, ⟨fun x hx => (List.not_mem_nil hx).elim⟩, show 0 ≤ 1099511627776 by decide⟩
theorem bts_by {R : Mem} {v : Value} {i : Int} (h : Rd R 1 v 32 (nums .u8 (bts i))) : By R v (bts i) := ⟨by rw [show (bts i).length = 32 from btk_len i (by omega)]; exact h, bts_b i, by rw [show (bts i).length = 32 from btk_len i (by omega)]; decide⟩
theorem bytesJ_spec (i : Int) (A : Mem) : FnX Tryz.prog 19 [.int .i64 i] [] A fun r M J => M = [] ∧ By J r (bts i) :=
  ((bytes_spec i A).mono (post' := fun r M J => J = [] ∧ By M r (bts i)) fun v M J ⟨h1, h2⟩ => ⟨h1, bts_by (h2.rd fun _ h => h)⟩).frz0

set_option maxRecDepth 100000 in
theorem pnew_spec (r : Bool) (v : Value) (seed : List Nat) (A : Mem) (hv : By A v seed) : FnX Tryz.prog 29 [.int .u8 (md r), v] [] A fun q M J => ∃ pb, q = .tuple #[.pointer (some ⟨pb, 0, none⟩), .int .i64 0] ∧ Prm pb ⟨r, seed, 0, []⟩ M := by
  haveI := hv.cel
  have hvl := hv.len
  refine FnX.enterZ (N := 18) Tryz.func29 rfl rfl rfl fun w_ => ?_
  refine XC.keep (kp 0 rfl (kp 1 rfl kn)) ?_
  refine XC.reg ?_
  refine XL.q (q_assign rfl) rfl ?_
  refine XL.q (q_assign rfl) rfl ?_
  refine XL.fin (kp 0 rfl (kp 1 rfl kn)) ?_
  refine XC.seq ?_
  cases r
  ·
    refine XC.reg ?_
    refine XL.q (q_move rfl) rfl ?_
    refine XL.q (q_cmp true rfl rfl (neT (by decide))) rfl ?_
    refine XL.q (q_move rfl) rfl ?_
    refine XL.gy rfl rfl (OpQ.opL (q_move rfl) rfl ?_)
    refine XL.gy rfl rfl (OpQ.opL (q_cmp false rfl rfl (neF (by rfl))) rfl ?_)
    refine XL.q (q_pickT rfl rfl) rfl ?_
    refine XL.fin (kp 0 rfl (kp 1 rfl (kp 11 rfl kn))) ?_
    refine XC.condF rfl ?_
    refine XC.skip ?_
    refine nx (kp 0 rfl (kp 1 rfl kn)) ?_
    refine XC.reg ?_
    refine XL.q (q_move rfl) rfl ?_
    refine XL.q (q_move rfl) rfl ?_
    refine XL.lo rfl (l_append2 (e := 5) (sz := 1) (by_ := 1) rfl rfl (by kernel_rfl) rfl Sl.nil (hv.rd.mono SubC.sub) nums_one PickC.perm (by unfold maxLen; omega) (by omega) rfl fun v14 B14 hs14 => ?_)
    haveI := hs14.cel
    refine XL.call a0 (by kernel_rfl) (newT_spec _) rfl ?_
    rintro v15 M15 J15 ⟨rfl, bt, bm, rfl, hT0⟩
    refine XL.q (q_build (place := fun x => #[(0, 1), (1, 1), (2, 1), (3, 1)][x]?) (z := [.int .u8 0, .slice none 0 0, .int .i64 0, .pointer none]) (fun _ => by kernel_rfl) (eS rfl (eS rfl (eS rfl e0))) (bdS 0 1 rfl (by rfl) (bdS 1 1 rfl (by rfl) (bdS 3 1 rfl (by rfl) bd0)))) rfl ?_
    refine XL.lo rfl (l_box rfl (by first | exact Cel.cel | rfl) rfl fun b17 => ?_)
    refine XL.q (q_assign rfl) rfl ?_
    refine XL.q (q_assign rfl) rfl ?_
    refine XL.fin (kp 4 rfl (kp 5 rfl kn)) ?_
    refine XC.ret ?_
    refine ⟨_, (b17, _) :: (B14 ++ M15), [], res2 rfl rfl rfl, Fit.none (Fit.pick (B := [_]) PickC.perm (Fit.pick PickC.perm (Fit.last PickC.perm))), _, rfl, ⟨v14, bt, bm, B14, M15, rfl, ⟨?_, hv.lt, hv.len⟩, hT0⟩⟩
    have h := hs14.rd (R := B14) fun _ h => h
    simpa using h
  ·
    refine XC.reg ?_
    refine XL.q (q_move rfl) rfl ?_
    refine XL.q (q_cmp false rfl rfl (neF (by rfl))) rfl ?_
    refine XL.q (q_move rfl) rfl ?_
    refine XL.gn rfl rfl rfl rfl ?_
    refine XL.gn rfl rfl rfl rfl ?_
    refine XL.q (q_pickF rfl rfl) rfl ?_
    refine XL.fin (kp 0 rfl (kp 1 rfl (kp 11 rfl kn))) ?_
    refine XC.condF rfl ?_
    refine XC.skip ?_
    refine nx (kp 0 rfl (kp 1 rfl kn)) ?_
    refine XC.reg ?_
    refine XL.q (q_move rfl) rfl ?_
    refine XL.q (q_move rfl) rfl ?_
    refine XL.lo rfl (l_append2 (e := 5) (sz := 1) (by_ := 1) rfl rfl (by kernel_rfl) rfl Sl.nil (hv.rd.mono SubC.sub) nums_one PickC.perm (by unfold maxLen; omega) (by omega) rfl fun v14 B14 hs14 => ?_)
    haveI := hs14.cel
    refine XL.call a0 (by kernel_rfl) (newT_spec _) rfl ?_
    rintro v15 M15 J15 ⟨rfl, bt, bm, rfl, hT0⟩
    refine XL.q (q_build (place := fun x => #[(0, 1), (1, 1), (2, 1), (3, 1)][x]?) (z := [.int .u8 0, .slice none 0 0, .int .i64 0, .pointer none]) (fun _ => by kernel_rfl) (eS rfl (eS rfl (eS rfl e0))) (bdS 0 1 rfl (by rfl) (bdS 1 1 rfl (by rfl) (bdS 3 1 rfl (by rfl) bd0)))) rfl ?_
    refine XL.lo rfl (l_box rfl (by first | exact Cel.cel | rfl) rfl fun b17 => ?_)
    refine XL.q (q_assign rfl) rfl ?_
    refine XL.q (q_assign rfl) rfl ?_
    refine XL.fin (kp 4 rfl (kp 5 rfl kn)) ?_
    refine XC.ret ?_
    refine ⟨_, (b17, _) :: (B14 ++ M15), [], res2 rfl rfl rfl, Fit.none (Fit.pick (B := [_]) PickC.perm (Fit.pick PickC.perm (Fit.last PickC.perm))), _, rfl, ⟨v14, bt, bm, B14, M15, rfl, ⟨?_, hv.lt, hv.len⟩, hT0⟩⟩
    have h := hs14.rd (R := B14) fun _ h => h
    simpa using h

set_option maxRecDepth 100000 in
theorem fit_spec (v : Value) (w : List Nat) (n : Nat) (A : Mem) (hv : By A v w) (hn : n ≤ 1000) : FnX Tryz.prog 46 [v, .int .i64 (n : Int)] [] A fun q M J => M = [] ∧ By J q (fitN w n) := by
  haveI := hv.cel
  have hvl := hv.len
  refine FnX.enterZ (N := 12) Tryz.func46 rfl rfl rfl fun w_ => ?_
  refine XC.keep (kp 0 rfl (kp 1 rfl kn)) ?_
  refine XC.reg ?_
  refine XL.q (q_assign rfl) rfl ?_
  refine XL.fin (kp 0 rfl (kp 1 rfl kn)) ?_
  refine XC.reg ?_
  refine XL.q (q_move rfl) rfl ?_
  refine XL.lo rfl (l_makeN (by_ := 1) (k := .u8) (e := 5) n rfl rfl (by kernel_rfl) rfl rfl (by omega) (by omega) rfl fun b7 => ?_)
  refine XL.q (q_assign rfl) rfl ?_
  refine XL.fin (kp 0 rfl (kp 5 rfl kn)) ?_
  refine XC.reg ?_
  refine XL.q (q_move rfl) rfl ?_
  refine XL.q (q_move rfl) rfl ?_
  refine XL.lo rfl (l_copyP (e := 5) (us := w) (ws := List.replicate n 0) (ws' := fitN w n) (by_ := 1) rfl rfl (by kernel_rfl) (hv.rd.mono SubC.sub) (by simp) (by simp [fitN]) UpC.upd rfl ?_)
  refine XL.fin (kp 5 rfl kn) ?_
  refine XC.reg ?_
  refine XL.q (q_move rfl) rfl ?_
  refine XL.q (q_assign rfl) rfl ?_
  refine XL.fin (kp 4 rfl kn) ?_
  refine XC.ret ?_
  refine ⟨_, [], [(b7, blk (nums .u8 (fitN w n)) 5)], res1 rfl rfl, Fit.eq (by simp), ⟨rfl, ⟨?_, fitN_lt hv.lt n, by rw [fitN_len]; omega⟩⟩⟩
  rw [fitN_len]
  exact Rd.whole (n := n) List.mem_cons_self (by simp [fitN_len])

set_option maxRecDepth 100000 in
theorem pread_spec (pb : Nat) (s : Ps) (v : Value) (w : List Nat) (MP A : Mem) (hP : Prm pb s MP) (hn : s.ts.length ≤ 1048576) (hv : By A v w) (hG : Glb A) : FnX Tryz.prog 48 [.pointer (some ⟨pb, 0, none⟩), v] MP A fun q M J => q = .int .i64 ((rdI s.ts w : Nat) : Int) ∧ Prm pb { s with ts := rdT s.ts w } M := by
  obtain ⟨sv, bt, bm, B, MT, rfl, hby, hT⟩ := hP.ex
  obtain ⟨⟨ge0, gf0, h0⟩, ⟨ge1, gf1, h1⟩, ⟨ge4, gf4, h4⟩⟩ := hG
  haveI := hv.cel
  have hvl := hv.len
  refine FnX.enterZ (N := 11) Tryz.func48 rfl rfl rfl fun w_ => ?_
  refine XC.keep (kp 0 rfl (kp 1 rfl kn)) ?_
  refine XC.reg ?_
  refine XL.q (q_assign rfl) rfl ?_
  refine XL.fin (kp 0 rfl (kp 1 rfl kn)) ?_
  refine XC.reg ?_
  refine XL.q (q_move rfl) rfl ?_
  refine XL.q (q_nil rfl) rfl ?_
  refine XL.q (q_fieldAddrN 3 (off := 3) rfl (by kernel_rfl) rfl) rfl ?_
  refine XL.q (q_load rfl (by kernel_rfl) (by first | exact At.mem | exact mA (by assumption)) (by rfl)) rfl ?_
  refine XL.q (q_move rfl) rfl ?_
  refine XL.lo rfl (l_call (Mc := MT) (R := _) (aS rfl (aS rfl a0)) (by kernel_rfl) PickC.perm (read_spec bt bm s.ts v w MT _ hT hn (hv.rd.mono SubC.sub) hv.lt (by omega) (mA h4)) rfl ?_)
  rintro v10 M10 J10 ⟨rfl, rfl, hT10⟩
  refine XL.q (q_assign rfl) rfl ?_
  refine XL.fin (kp 4 rfl kn) ?_
  refine XC.ret ?_
  exact ⟨_, (pb, blk [.int .u8 (md s.real), sv, .int .i64 (((s.n : Nat) : Int)), .pointer (some ⟨bt, 0, none⟩)] 77) :: (B ++ M10), [], res1 rfl rfl, (Fit.none (Fit.pick (B := [_]) PickC.perm (Fit.pick PickC.perm (Fit.last PickC.perm)))), rfl, ⟨sv, bt, bm, B, M10, rfl, hby, hT10⟩⟩

set_option maxRecDepth 100000 in
theorem fresh_spec (pb : Nat) (s : Ps) (MP A : Mem) (hP : Prm pb s MP) (hn : s.ts.length ≤ 1048576) (hk : s.n < 1099511627776) (hG : Glb A) : FnX Tryz.prog 24 [.pointer (some ⟨pb, 0, none⟩)] MP A fun q M J => Prm pb (freshS s) M ∧ By J q (freshK s) := by
  obtain ⟨sv, bt, bm, B, MT, rfl, hby, hT⟩ := hP.ex
  obtain ⟨⟨ge0, gf0, h0⟩, ⟨ge1, gf1, h1⟩, ⟨ge4, gf4, h4⟩⟩ := hG
  haveI := hby.cel
  refine FnX.enterZ (N := 55) Tryz.func24 rfl rfl rfl fun w_ => ?_
  refine XC.keep (kp 0 rfl kn) ?_
  refine XC.reg ?_
  refine XL.q (q_assign rfl) rfl ?_
  refine XL.fin (kp 0 rfl kn) ?_
  refine XC.seq ?_
  refine XC.reg ?_
  refine XL.q (q_move rfl) rfl ?_
  refine XL.q (q_ptrEqNil (e := 77) rfl rfl (by kernel_rfl)) rfl ?_
  refine XL.fin (kp 0 rfl (kp 6 rfl kn)) ?_
  refine XC.condF rfl ?_
  refine XC.skip ?_
  refine nx (kp 0 rfl kn) ?_
  refine XC.reg ?_
  refine XL.q (q_move rfl) rfl ?_
  refine XL.q (q_nil rfl) rfl ?_
  refine XL.q (q_fieldAddrN 2 (off := 2) rfl (by kernel_rfl) rfl) rfl ?_
  refine XL.q (q_load rfl (by kernel_rfl) (by first | exact At.mem | exact mA (by assumption)) (by rfl)) rfl ?_
  refine XL.q (q_addI (b := 1) rfl rfl rfl rfl (by omega)) rfl ?_
  refine XL.q (q_nil rfl) rfl ?_
  refine XL.q (q_fieldAddrN 2 (off := 2) rfl (by kernel_rfl) rfl) rfl ?_
  refine XL.lo rfl (l_store rfl rfl rfl (by kernel_rfl) SetC.set UpC.upd ?_)
  refine XL.fin (kp 0 rfl kn) ?_
  refine XC.seq ?_
  refine XC.reg ?_
  refine XL.q (q_move rfl) rfl ?_
  refine XL.q (q_nil rfl) rfl ?_
  refine XL.q (q_fieldAddrN 0 (off := 0) rfl (by kernel_rfl) rfl) rfl ?_
  refine XL.q (q_load rfl (by kernel_rfl) (by first | exact At.mem | exact mA (by assumption)) (by rfl)) rfl ?_
  refine XL.q (q_bin rfl rfl rfl) rfl ?_
  refine XL.fin (kp 0 rfl (kp 18 rfl kn)) ?_
  refine XC.cond rfl (fun hc => ?_) (fun hc => ?_)
  ·
    have hr : s.real = true := by cases hq : s.real with | true => rfl | false => rw [hq] at hc; exact absurd hc (by decide)
    refine XC.reg ?_
    refine XL.q (q_assign rfl) rfl ?_
    refine XL.fin (kp 0 rfl (kp 3 rfl kn)) ?_
    refine XC.seq ?_
    refine XC.reg ?_
    refine XL.q (q_move rfl) rfl ?_
    refine XL.fin (kp 0 rfl (kp 3 rfl (kp 19 rfl kn))) ?_
    refine XC.block ?_
    refine XC.loop (α := Nat × Value × Mem) (fun x => [(0, .pointer (some ⟨pb, 0, none⟩)), (3, x.2.1), (19, .int .i64 ((x.1 : Nat) : Int))]) (fun x => x.2.2 ++ ((pb, blk [.int .u8 (md s.real), sv, .int .i64 (((s.n + 1 : Nat) : Int)), .pointer (some ⟨bt, 0, none⟩)] 77) :: (B ++ MT))) (fun _ => []) (fun x => x.1 ≤ 8 ∧ Sl 1 x.2.1 x.1 (nums .u8 ((List.range x.1).map (byt ((s.n + 1 : Nat) : Int)))) x.2.2) (fun x => 8 - x.1) ⟨0, .slice none 0 0, []⟩ ⟨Nat.zero_le _, Sl.nil⟩ (kp 0 rfl (kp 3 rfl (kp 19 rfl kn))) .rfl (fun _ h => h) ?_
    rintro ⟨i, v3, B3⟩ ⟨hi, hs3⟩
    dsimp only at hi hs3 ⊢
    haveI := hs3.cel
    refine XC.reg ?_
    refine XL.q (q_bin rfl rfl rfl) rfl ?_
    refine XL.fin (kp 0 rfl (kp 3 rfl (kp 19 rfl (kp 20 rfl kn)))) ?_
    refine XC.seq ?_
    refine XC.cond rfl (fun hc => ?_) (fun hc => ?_)
    ·
      have hlt : i < 8 := by simp at hc; omega
      refine XC.skip ?_
      refine nx (kp 0 rfl (kp 3 rfl (kp 19 rfl kn))) ?_
      refine XC.seq ?_
      refine XC.block ?_
      refine XC.reg ?_
      refine XL.q (q_move rfl) rfl ?_
      refine XL.q (q_assign rfl) rfl ?_
      refine XL.fin (kp 0 rfl (kp 3 rfl (kp 4 rfl (kp 19 rfl kn)))) ?_
      refine XC.reg1 ?_
      refine XL.q (q_move rfl) rfl ?_
      refine XL.q (q_move rfl) rfl ?_
      refine XL.q (q_nil rfl) rfl ?_
      refine XL.q (q_fieldAddrN 2 (off := 2) rfl (by kernel_rfl) rfl) rfl ?_
      refine XL.q (q_load rfl (by kernel_rfl) (by first | exact At.mem | exact mA (by assumption)) (by rfl)) rfl ?_
      refine XL.q (q_move rfl) rfl ?_
      refine XL.q (q_mulI (a := 8) rfl rfl rfl rfl (by omega)) rfl ?_
      refine XL.q (q_shr8 (k := i) rfl rfl rfl hlt) rfl ?_
      refine XL.q (q_to8i rfl (by kernel_rfl)) rfl ?_
      refine XL.lo rfl (l_buildSlice (e := 5) (sz := 1) (z := [.int .u8 0]) (by kernel_rfl) (eS rfl e0) (bdS 0 1 rfl (by rfl) bd0) rfl fun b31 => ?_)
      refine XL.lo rfl (l_append2 (e := 5) (sz := 1) (by_ := 1) rfl rfl (by kernel_rfl) rfl (by first | assumption | exact Sl.nil) (Rd.whole (n := 1) At.mem (by rfl)) (by first | (simp [Value.oneCell']; done) | (intro c hc; simp only [List.mem_singleton] at hc; subst hc; first | exact Rd.one (by assumption) | exact Sl.one (by assumption))) PickC.perm (by unfold maxLen; omega) (by omega) rfl fun v32 B32 hs32 => ?_)
      refine XL.q (q_assign rfl) rfl ?_
      refine XL.nil ?_
      refine nb ?_
      refine nx (kp 0 rfl (kp 3 rfl (kp 19 rfl kn))) ?_
      refine XC.reg1 ?_
      refine XL.q (q_addI (b := 1) rfl rfl rfl rfl (by omega)) rfl ?_
      refine XL.q (q_move rfl) rfl ?_
      refine XL.nil ?_
      exact rn ⟨i + 1, v32, B32⟩ ⟨by dsimp only; omega, by dsimp only; rw [List.range_succ, List.map_append, nums_append]; exact hs32⟩ (by dsimp only; omega) (kp 0 rfl (kp 3 rfl (kp 19 rfl kn))) (Fit.pick PickC.perm (Fit.pick (B := [_]) PickC.perm (Fit.last PickC.perm))) (fun _ h => by cases h)
    ·
      have hge : i = 8 := by simp at hc; omega
      subst hge
      refine XC.exit ?_
      refine te ?_
      refine re ?_
      refine be rfl ?_
      refine nx (kp 0 rfl (kp 3 rfl kn)) ?_
      refine XC.reg ?_
      refine XL.q (q_move rfl) rfl ?_
      refine XL.q (q_nil rfl) rfl ?_
      refine XL.q (q_fieldAddrN 1 (off := 1) rfl (by kernel_rfl) rfl) rfl ?_
      refine XL.q (q_load rfl (by kernel_rfl) (by first | exact At.mem | exact mA (by assumption)) (by rfl)) rfl ?_
      refine XL.call (aS rfl (aS rfl a0)) (by kernel_rfl) ((extract_spec (.slice none 0 0) sv [] s.seed _ Rd.nil (fun x h => by cases h) (by simp) (hby.rd.mono SubC.sub) hby.lt (by have := hby.len; omega) (mA h0) (mA h1)).frz0) rfl ?_
      rintro v38 M38 J38 ⟨rfl, h38⟩
      refine XL.lo rfl (l_buildSlice (e := 5) (sz := 1) (z := [.int .u8 0, .int .u8 0, .int .u8 0]) (by kernel_rfl) (eS rfl (eS rfl (eS rfl e0))) (bdS 0 1 rfl (by rfl) (bdS 1 1 rfl (by rfl) (bdS 2 1 rfl (by rfl) bd0))) rfl fun b39 => ?_)
      refine XL.lo rfl (l_mark rfl (by kernel_rfl) UpC.upd rfl ?_)
      refine XL.q (q_move rfl) rfl ?_
      refine XL.lo rfl (l_appendC (e := 5) (sz := 1) (by_ := 1) (xs := nums .u8 [107, 101, 121]) rfl rfl (by kernel_rfl) rfl (Rd.whole (n := 3) At.mem (by rfl)) (hs3.rd SubC.sub) (by decide) (by decide) (by decide) rfl fun v42 B42 hs42 => ?_)
      have hs42 : Sl 1 v42 ([107, 101, 121] ++ le8n (s.n + 1)).length (nums .u8 ([107, 101, 121] ++ le8n (s.n + 1))) B42 := sl_eq hs42 (by simp [le8n]) (by rw [nums_append]; rfl)
      refine XL.call (aS rfl (aS rfl (aS rfl a0))) (by kernel_rfl) ((expand_spec v38 v42 (hmac [] s.seed) ([107, 101, 121] ++ le8n (s.n + 1)) 32 _ (by rw [hmac_len]; exact (h38.rd SubC.sub)) (hmac_lt _ _) (by rw [hmac_len]; decide) (hs42.rd SubC.sub) (fun x hx => by rcases List.mem_append.1 hx with h | h; (simp at h; omega); exact le8n_lt _ x h) (by simp [le8n]) (by decide) (by decide) (mA h0) (mA h1)).frz0) rfl ?_
      rintro v43 M43 J43 ⟨rfl, h43⟩
      refine XL.q (q_assign rfl) rfl ?_
      refine XL.fin (kp 2 rfl kn) ?_
      refine XC.ret ?_
      refine tr ?_
      exact ⟨_, (pb, blk [.int .u8 (md s.real), sv, .int .i64 (((s.n + 1 : Nat) : Int)), .pointer (some ⟨bt, 0, none⟩)] 77) :: (B ++ MT), [], res1 rfl rfl, (Fit.none (Fit.pick (B := [_]) PickC.perm (Fit.pick PickC.perm (Fit.last PickC.perm)))), by rw [freshS_t hr]; exact ⟨sv, bt, bm, B, MT, rfl, hby, hT⟩, by rw [freshK_t hr]; exact ⟨h43.mono SubC.sub, expand_lt _ _ _, Nat.le_trans (expand_le _ _ _) (by decide)⟩⟩
  ·
    have hr : s.real = false := by cases hq : s.real with | false => rfl | true => rw [hq] at hc; exact absurd hc (by decide)
    refine XC.skip ?_
    refine nx (kp 0 rfl kn) ?_
    refine XC.drawF [0, 1, 2, 3, 4, 5, 6, 7, 8, 11] [(0, 0), (1, 0), (2, 0), (3, 1), (4, 0), (5, 0), (6, 0), (7, 1), (8, 0), (9, 2), (10, 2), (11, 0)] (by kernel_rfl) (by kernel_rfl) fun hs => ?_
    refine XF.q hs rfl (q_move rfl) rfl ?_
    refine XF.q hs rfl (q_nil rfl) rfl ?_
    refine XF.q hs rfl (q_fieldAddrN 3 (off := 3) rfl (by kernel_rfl) rfl) rfl ?_
    refine XF.r hs rfl (q_load rfl (by kernel_rfl) (by first | exact At.mem | exact mA (by assumption)) (by rfl)) rfl ?_
    refine XF.q hs rfl (q_move rfl) rfl ?_
    refine XF.q hs rfl (q_nil rfl) rfl ?_
    refine XF.q hs rfl (q_fieldAddrN 2 (off := 2) rfl (by kernel_rfl) rfl) rfl ?_
    refine XF.r hs rfl (q_load rfl (by kernel_rfl) (by first | exact At.mem | exact mA (by assumption)) (by rfl)) rfl ?_
    refine XF.q hs rfl (q_build (place := fun x => #[(0, 1), (1, 1), (2, 1), (3, 1)][x]?) (z := [.int .u8 0, .slice none 0 0, .string ByteArray.empty, .int .i64 0]) (fun _ => by kernel_rfl) (eS rfl (eS rfl e0)) (bdS 0 1 rfl (by rfl) (bdS 3 1 rfl (by rfl) bd0))) rfl ?_
    refine XF.tl rfl rfl rfl (l_call (Mc := MT) (R := _) (aS rfl (aS rfl a0)) (by kernel_rfl) PickC.perm (putT_spec bt bm s.ts (.slice none 0 0) (atom (s.n + 1)) MT _ hT hn Rd.nil (atom_ok' (by omega)) (mA h4)) rfl ?_)
    rintro v53 M53 J53 ⟨rfl, rfl, hT53⟩
    refine XF.tl rfl rfl rfl (l_call0 (aS rfl a0) (by kernel_rfl) (bytesJ_spec _ _) rfl ?_)
    rintro v54 M54 J54 ⟨rfl, h54⟩
    refine XF.q hs rfl (q_assign rfl) rfl ?_
    refine XF.fin (kp 2 rfl kn) ?_
    refine XC.ret ?_
    exact ⟨_, (pb, blk [.int .u8 (md s.real), sv, .int .i64 (((s.n + 1 : Nat) : Int)), .pointer (some ⟨bt, 0, none⟩)] 77) :: (B ++ M53), [], res1 rfl rfl, (Fit.none (Fit.pick (B := [_]) PickC.perm (Fit.pick PickC.perm (Fit.last PickC.perm)))), by rw [freshS_f hr]; exact ⟨sv, bt, bm, B, M53, rfl, hby, hT53⟩, by rw [freshK_f hr]; exact h54.mono SubC.sub⟩
