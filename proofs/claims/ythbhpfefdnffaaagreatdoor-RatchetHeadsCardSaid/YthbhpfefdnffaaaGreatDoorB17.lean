/- The card of the law RatchetHeads: it returns true for every input; each argument reads behind the call as it read before; the listed package variables are tied to the program's text. No further condition. -/
import Derived.Test.YthbhpfefdnffaaaGreatDoorB16
import Derived.Lib.LaidTab
import Derived.Stop.LaidErr
import Derived.MakeChecks
import Derived.Test.YthbhpfefdnffaaaGreatDoorCards
import Derived.Test.YthbhpfefdnffaaaGreatDoorTie
import Derived.Deep.DeepHandedRow
import Derived.Deep.DeepWitnessRowRef
import Derived.Lay
import Derived.LaidMore
set_option linter.unusedVariables false
set_option linter.unusedSimpArgs false
set_option maxRecDepth 100000
namespace Go.Proofs.YthbhpfefdnffaaaGreatDoor
open Go.Px
def A49 (p : List Nat) (n k : Nat) : List Nat := p ++ beN n k
def A3v (p q : List Nat) : List Nat := p ++ beN q.length 4 ++ q
theorem B3X {p : List Nat} (hp : ∀ x ∈ p, x < 256) (n k : Nat) : ∀ x ∈ A49 p n k, x < 256 := A4l hp (A8j n k)
theorem B3Y {p q : List Nat} (hp : ∀ x ∈ p, x < 256) (hq : ∀ x ∈ q, x < 256) : ∀ x ∈ A3v p q, x < 256 := A4l (A4l hp (A8j _ _)) hq
theorem B0A {v : Value} {w : List Nat} {B : Mem} (h : Sl 1 v w.length (nums .u8 w) B) (hw : ∀ x ∈ w, x < 256) (hl : w.length ≤ 16777216) : By B v w := ⟨h.rd fun _ h => h, hw, hl⟩
theorem A8q (v : Value) (w : List Nat) (n k : Nat) (A : Mem) (hv : By A v w) (hn : n < 18446744073709551616) (hk : k ≤ 8) : FnX Tryz.prog 80 [v, .int .u64 ((n : Nat) : Int), .int .i64 ((k : Nat) : Int)] [] A fun q M J => J = [] ∧ Sl 1 q (A49 w n k).length (nums .u8 (A49 w n k)) M := by
 haveI := hv.cel
 have hvl := hv.len
 refine FnX.enterZ (N := 27) Tryz.func80 rfl rfl rfl fun w_ => ?_
 refine B0 (D3 0 1 2) (A1 (as_ (A0 (D3 0 1 2) (A1 (as_ (A0 (D8 0 1 2 7) (A1 ?_)))))))
 refine mv_ (mv_ ?_)
 refine A4 rfl (F8 (e := 5) (sz := 1) (by_ := 1) rfl rfl kR rfl Sl.nil (hv.rd.mono SubC.sub) F4 PickC.perm (by unfold maxLen; omega) (by omega) rfl fun v11 B11 hs11 => ?_)
 haveI := hs11.cel
 refine as_ (A0 (D3 1 2 7) (A3 (A1 (mv_ ?_))))
 refine A2 (D5 ((k : Int) - 1) rfl rfl (Y6 rfl (by omega) (by omega))) rfl ?_
 refine as_ (A0 (D3 1 7 8) (A6 ?_))
 refine E2 (α := Nat × Value × Mem) (fun x => [(1, .int .u64 ((n : Nat) : Int)), (7, x.2.1), (8, .int .i64 ((k : Int) - 1 - (x.1 : Int)))]) (fun x => x.2.2) (fun _ => []) (fun x => x.1 ≤ k ∧ Sl 1 x.2.1 (w ++ bes n k x.1).length (nums .u8 (w ++ bes n k x.1)) x.2.2) (fun x => k - x.1) ⟨0, v11, B11⟩ ⟨Nat.zero_le _, by simpa [bes] using hs11⟩ (kq 1 (kq 7 (kp 8 (by simp; rfl) kn))) (Fit.last PickC.perm) (fun _ h => by cases h) ?_
 rintro ⟨x, v7, B7⟩ ⟨hx, hsl⟩
 dsimp only at hx hsl ⊢
 haveI := hsl.cel
 have hbl := A45 n k x
 have hll : (w ++ bes n k x).length = w.length + x := by rw [List.length_append, hbl]
 refine A3 (A1 (mv_ ?_))
 refine A2 (E0 rfl rfl rfl) rfl ?_
 refine A0 (D8 1 7 8 15) ?_
 refine C5 rfl (fun hc => ?_) (fun hc => ?_)
 ·
  have hltx : x < k := by simp at hc; omega
  obtain ⟨m, hm, hm2⟩ : ∃ m : Nat, ((k : Int) - 1 - (x : Int)) = (m : Int) ∧ m = k - 1 - x := ⟨k - 1 - x, by omega, rfl⟩
  rw [hm]
  refine A5 (nx (D3 1 7 8) (A3 (A6 (A9 (mv_ (mv_ (mv_ ?_)))))))
  refine A2 (D5 ((8 * m : Nat) : Int) rfl rfl (A3C (by omega) (by omega) (by omega))) rfl ?_
  refine A2 (A5m (a := n) (b := 8 * m) rfl rfl rfl rfl (by show _ ≤ 64; omega)) rfl ?_
  refine A2 (A1H rfl kR) rfl ?_
  refine A4 rfl (C0 (e := 5) (sz := 1) (z := [.int .u8 0]) kR (eS rfl e0) (bdS 0 1 rfl (by rfl) bd0) rfl fun b24 => ?_)
  refine A4 rfl (F8 (e := 5) (sz := 1) (by_ := 1) rfl rfl kR rfl (by first | assumption | exact Sl.nil) (Rd.whole (n := 1) At.mem (by rfl)) (by first | (simp [Value.oneCell']; done) | (intro c hc; simp only [List.mem_singleton] at hc; subst hc; first | exact Rd.one (by assumption) | exact Sl.one (by assumption))) PickC.perm (by unfold maxLen; omega) (by omega) rfl fun v25 B25 hs25 => ?_)
  refine as_ (C2 (nb (nx (D3 1 7 8) (A9 (mv_ ?_)))))
  refine A2 (D5 ((m : Int) - 1) rfl rfl (Y6 rfl (by omega) (by omega))) rfl ?_
  refine as_ (C2 ?_)
  exact rn ⟨x + 1, v25, B25⟩ ⟨by dsimp only; omega, by dsimp only; rw [A5S, ← List.append_assoc, ← hm2]; exact V5 hs25 (by simp only [List.length_append, List.length_singleton]) (by simp [nums])⟩ (by dsimp only; omega) (kq 1 (kq 7 (kp 8 (by dsimp only; rw [show ((k : Int) - 1 - ((x + 1 : Nat) : Int)) = (m : Int) - 1 by omega]; rfl) kn))) (Fit.last PickC.perm) (fun _ h => by first | exact h | cases h)
 ·
  have hge : x = k := by simp at hc; omega
  subst hge
  refine D6 (te (re (be rfl (nx (D2 7) (A1 (mv_ (as_ (A0 (D2 6) ?_))))))))
  refine B4 ?_
  exact ⟨_, B7, [], I9 rfl rfl, Fit.none (Fit.last PickC.perm), rfl, hsl⟩
theorem A8r (v q : Value) (w u : List Nat) (A : Mem) (hv : By A v w) (hq : By A q u) : FnX Tryz.prog 34 [v, q] [] A fun r M J => J = [] ∧ Sl 1 r (A3v w u).length (nums .u8 (A3v w u)) M := by
 haveI := hv.cel
 haveI := hq.cel
 have hvl := hv.len
 have hql := hq.len
 refine FnX.enterZ (N := 12) Tryz.func34 rfl rfl rfl fun w_ => ?_
 refine B0 (C9 0 1) (A1 (as_ (A0 (C9 0 1) (A1 (mv_ (mv_ ?_))))))
 refine A2 (H5 (sz := 1) rfl kR hq.rd) rfl ?_
 refine A2 (A5i rfl kR) rfl ?_
 rw [Nat.mod_eq_of_lt (show u.length < 18446744073709551616 by omega)]
 refine C7 (aS rfl (aS rfl (aS rfl a0))) kR (A8q v w u.length 4 _ (hv.mono SubC.sub) (by omega) (by decide)) rfl ?_
 rintro v9 M9 J9 ⟨rfl, hs9⟩
 haveI := hs9.cel
 have hl9 : (A49 w u.length 4).length = w.length + 4 := by unfold A49; rw [List.length_append, R6]
 refine mv_ ?_
 refine A4 rfl (F8 (e := 5) (sz := 1) (by_ := 1) rfl rfl kR rfl hs9 (hq.rd.mono SubC.sub) F4 PickC.perm (by unfold maxLen; omega) (by omega) rfl fun v11 B11 hs11 => ?_)
 haveI := hs11.cel
 refine as_ (A0 (D2 4) (B4 ?_))
 exact ⟨_, B11, [], I9 rfl rfl, Fit.none (Fit.last PickC.perm), rfl, V5 hs11 (by unfold A3v A49; simp only [List.length_append]) (by unfold A3v A49; simp [nums])⟩
theorem A8s (v : Value) (w : List Nat) (n k : Nat) (A : Mem) (hv : By A v w) (hn : n < 18446744073709551616) (hk : k ≤ 8) (hl : w.length ≤ 1000000) : FnX Tryz.prog 80 [v, .int .u64 ((n : Nat) : Int), .int .i64 ((k : Nat) : Int)] [] A fun r M J => M = [] ∧ By J r (A49 w n k) :=
  ((A8q v w n k A hv hn hk).frz0).mono fun r M J ⟨h1, h2⟩ => ⟨h1, B0A h2 (B3X hv.lt n k) (by unfold A49; rw [List.length_append, R6]; omega)⟩
theorem A2i (v q : Value) (w u : List Nat) (A : Mem) (hv : By A v w) (hq : By A q u) (hl : w.length ≤ 1000000) (hlu : u.length ≤ 1000000) : FnX Tryz.prog 34 [v, q] [] A fun r M J => M = [] ∧ By J r (A3v w u) :=
  ((A8r v q w u A hv hq).frz0).mono fun r M J ⟨h1, h2⟩ => ⟨h1, B0A h2 (B3Y hv.lt hq.lt) (by unfold A3v; rw [List.length_append, List.length_append, R6]; omega)⟩

def A8t (w k : List Nat) (p n : Nat) : List Nat := A49 (A49 (A3v w k) p 4) n 4
theorem A90 (k : List Nat) (p n : Nat) : A8t [] k p n = R7 k p n := by
  unfold A8t A49 A3v R7
  simp [List.append_assoc]
theorem A8u (w h : List Nat) : A3v (A3v [] w) h = U3 w h := by
  unfold A3v U3
  simp [List.append_assoc]
theorem A3w (w k : List Nat) : (A3v w k).length = w.length + k.length + 4 := by simp [A3v, R6]; omega
theorem A91 (w : List Nat) (n k : Nat) : (A49 w n k).length = w.length + k := by simp [A49, R6]
theorem A92 (v vk : Value) (w k : List Nat) (p n : Nat) (A : Mem) (hv : By A v w) (hk : By A vk k) (hl : w.length + k.length ≤ 900000) (hp : p < 4294967296) (hn : n < 4294967296) : FnX Tryz.prog 31 [v, .agg #[vk, .int .u32 ((p : Nat) : Int), .int .u32 ((n : Nat) : Int)]] [] A fun q M J => M = [] ∧ By J q (A8t w k p n) := by
 haveI := hv.cel
 haveI := hk.cel
 refine FnX.enterZ (N := 17) Tryz.func31 rfl rfl rfl fun w_ => ?_
 refine B0 (C9 0 1) (A1 ?_)
 refine A4 rfl (bx_ fun b3 => ?_)
 refine as_ (A0 (C9 0 3) ?_)
 refine I2 ([]) (_) true (.range 13) [(0, 0), (1, 0), (2, 1), (4, 0), (5, 1), (6, 0), (8, 0), (9, 1), (10, 0), (3, 2), (7, 2), (11, 2), (12, 0)] kR kR PickC.perm fun hs K n0 hKm hKs hKn => ?_
 refine km_ hs ?_
 refine I6 hs rfl (qf_ 0 0) rfl ?_
 refine R5 hs rfl hKs ql_ ?_
 refine I6 hs rfl (qf_ 1 1) rfl ?_
 refine R5 hs rfl hKs ql_ ?_
 refine I6 hs rfl (N3 (k' := .u64) p rfl kR (A3u (by omega))) rfl ?_
 refine I6 hs rfl (qf_ 2 2) rfl ?_
 refine R5 hs rfl hKs ql_ ?_
 refine I6 hs rfl (N3 (k' := .u64) n rfl kR (A3u (by omega))) rfl ?_
 refine K8 [] _ rfl rfl (List.Perm.refl _) (fun _ h => by cases h) fun w0 => (E3 (aS rfl (aS rfl a0)) kR (A2i v vk w k _ (hv.mono SubC.sub) (hk.mono SubC.sub) (by omega) (by omega)) rfl ?_)
 rintro r8 M8 J8 ⟨rfl, h8⟩ _
 haveI := h8.cel
 dsimp only [List.nil_append, List.append_eq]
 refine K8 [] _ rfl rfl (List.Perm.refl _) (fun _ h => by cases h) fun w0 => (E3 (aS rfl (aS rfl (aS rfl a0))) kR (A8s r8 (A3v w k) p 4 _ (h8.mono SubC.sub) (by omega) (by decide) (by rw [A3w]; omega)) rfl ?_)
 rintro r12 M12 J12 ⟨rfl, h12⟩ _
 haveI := h12.cel
 dsimp only [List.nil_append, List.append_eq]
 refine K8 [] _ rfl rfl (List.Perm.refl _) (fun _ h => by cases h) fun w0 => (E3 (aS rfl (aS rfl (aS rfl a0))) kR (A8s r12 (A49 (A3v w k) p 4) n 4 _ (h12.mono SubC.sub) (by omega) (by decide) (by rw [A91, A3w]; omega)) rfl ?_)
 rintro r16 M16 J16 ⟨rfl, h16⟩ _
 haveI := h16.cel
 dsimp only [List.nil_append, List.append_eq]
 refine I6 hs rfl (F3 rfl) rfl ?_
 refine N9 (D2 4) (B4 ?_)
 exact ⟨_, [], [], I9 rfl rfl, Fit.sub (List.nil_sublist _), rfl, h16.mono SubC.sub⟩
theorem A2r (v0 v1 : Value) (wd k : List Nat) (p n : Nat) (A : Mem) (i0 : Byi A v0 wd) (i1 : Byi A v1 k) (hp : p < 4294967296) (hn : n < 4294967296) (hG : Glb A) : FnV Tryz.prog 9 [v0, v1, .int .u32 ((p : Nat) : Int), .int .u32 ((n : Nat) : Int)] A (.bool true) := by
 haveI := i0.cel
 haveI := i1.cel
 have q0 := i0.len
 have q1 := i1.len
 unfold maxLen at q0 q1
 refine FnX.enter (N := 48) Tryz.func9 rfl rfl rfl fun w_ => ?_
 refine B0 (D8 0 1 2 3) (A1 (as_ (A0 (D8 0 1 2 3) (A3 (A1 ?_)))))
 refine F7 a0 kR (A2h _ hG.up) rfl ?_
 refine A2 (A6C rfl) rfl ?_
 refine mv_ ?_
 refine E5 rfl rfl (OpQ.opL qm_ rfl ?_)
 refine E5 rfl rfl (OpQ.opL (H5 (sz := 1) rfl kR i0.rd) rfl ?_)
 refine E5 rfl rfl (OpQ.opL (E0 rfl rfl rfl) rfl ?_)
 refine A2 (G2 rfl rfl) rfl ?_
 refine mv_ ?_
 refine U8 (t := 18) rfl (fun hb => ?_) (fun hb => ?_)
 ·
  refine H2 rfl rfl rfl rfl ?_
  refine H2 rfl rfl rfl rfl ?_
  refine H2 rfl rfl rfl rfl ?_
  refine A2 (H7 rfl rfl) rfl ?_
  refine A0 (E4 0 1 2 3 22) ?_
  refine D0 rfl ?_
  refine A1 ?_
  refine F7 a0 kR (A2h _ hG.up) rfl ?_
  refine as_ (A0 (D2 8) (B4 (tr ?_)))
  exact ⟨_, [], [], I9 rfl rfl, List.nil_sublist _, by simp, rfl, rfl, rfl⟩
 ·
  have hw3 : wd.length ≤ 300 := by simp at hb; omega
  have h0 := i0.by (by omega)
  refine E5 rfl rfl (OpQ.opL qm_ rfl ?_)
  refine E5 rfl rfl (OpQ.opL (H5 (sz := 1) rfl kR i1.rd) rfl ?_)
  refine E5 rfl rfl (OpQ.opL (E0 rfl rfl rfl) rfl ?_)
  refine A2 (G2 rfl rfl) rfl ?_
  refine A0 (E4 0 1 2 3 22) ?_
  refine C5 rfl (fun hc => ?_) (fun hc => ?_)
  ·
   refine A1 ?_
   refine F7 a0 kR (A2h _ hG.up) rfl ?_
   refine as_ (A0 (D2 8) (B4 (tr ?_)))
   exact ⟨_, [], [], I9 rfl rfl, List.nil_sublist _, by simp, rfl, rfl, rfl⟩
  ·
   have hk3 : k.length ≤ 300 := by simp at hc; omega
   have h1 := i1.by (by omega)
   refine A5 (nx (D8 0 1 2 3) (A1 (mv_ (mv_ (mv_ ?_)))))
   refine A2 (E7 (place := fun x => #[(0, 1), (1, 1), (2, 1)][x]?) (z := [.slice none 0 0, .int .u32 0, .int .u32 0]) (fun _ => by kernel_rfl) (eS rfl (eS rfl (eS rfl e0))) (bdS 0 1 rfl (by rfl) (bdS 1 1 rfl (by rfl) (bdS 2 1 rfl (by rfl) bd0)))) rfl ?_
   refine A4 rfl (C4 (cs := [.slice none 0 0, .int .u32 0, .int .u32 0]) kR rfl fun b9 => ?_)
   refine A4 rfl (A8 (vs := [v1, .int .u32 ((p : Nat) : Int), .int .u32 ((n : Nat) : Int)]) rfl rfl rfl kR (by rfl) (A7 h1.one al2) UpC.upd ?_)
   refine A0 (C9 0 9) (A1 ?_)
   refine A2 (qw_ 3) rfl ?_
   refine C7 (aS rfl (aS rfl a0)) kR (A92 (.slice none 0 0) v1 [] k p n _ By.nil (h1.mono SubC.sub) (by simp; omega) hp hn) rfl ?_
   rintro r29 M29 J29 ⟨rfl, h29⟩
   haveI := h29.cel
   rw [A90] at h29
   refine as_ (A0 (D3 0 9 10) ?_)
   refine I2 ([]) (_) true (.range 19) [(0, 1), (3, 0), (4, 1), (1, 3), (2, 4), (5, 0), (6, 0), (7, 0), (8, 1), (11, 0), (13, 0), (9, 3), (10, 3), (12, 3), (14, 3), (15, 3), (16, 4), (17, 0), (18, 0)] kR kR PickC.perm fun hs K n0 hKm hKs hKn => ?_
   refine R5 hs rfl hKs (qw_ 3) ?_
   refine km_ hs ?_
   refine R5 hs rfl hKs (P3 rfl kR (h29.rd.mono SubC.sub)) ?_
   refine A0Y [⟨1, 31, fun v B R => B = [] ∧ By R v (R7 k p n)⟩, ⟨2, 32, fun v B _ => B = [] ∧ v = (.string (txt (R7 k p n)))⟩]
    (A7 (fun _ _ _ _ hR h => ⟨h.1, h.2.mono hR⟩) (A7 (fun _ _ _ _ _ h => h) (I5))) (show List.Nodup [31, 32] by decide) (show List.Nodup [1, 2] by decide) (A7 (C1 rfl) (A7 (C1 rfl) (I5)))
    (A7 ⟨_, rfl, fun vs bs R w hb ha => ⟨.inl rfl, ?_⟩⟩ (A7 ⟨_, rfl, fun vs bs R w hb ha => ⟨.inl rfl, ?_⟩⟩ (I5))) ?_
   ·
    refine E3 (aS rfl (a0)) kR (A5T v1 k p n _ (h1.mono (fun x hx => by have := hb x (by simp [hx]); simp [this])) (by omega) hp hn) rfl ?_
    rintro r M1 J1 ⟨rfl, hh⟩
    exact ⟨_, rfl, rfl, hh.mono fun x hx => by simp [hx]⟩
   ·
    have g1 := ha _ (List.mem_of_getElem? (i := 0) rfl) kR
    replace g1 : (fun v B R => B = [] ∧ By R v (R7 k p n)) (vs 1) (bs 1) R := g1
    dsimp only at g1
    obtain ⟨-, h2⟩ := g1
    exact OpQ.opL (P3 rfl kR (h2.rd.mono (fun x hx => by simp [hx]))) rfl ⟨_, rfl, rfl, rfl⟩
   intro vs bs Jn0 hφ
   have g1 := ofH hφ
   dsimp only at g1
   replace hφ := ofT hφ
   have g2 := ofH hφ
   dsimp only at g2
   clear hφ
   dsimp only [T9, N7, List.map, List.flatten, List.cons_append, List.nil_append]
   generalize bs 1 = B31 at *
   generalize bs 2 = B32 at *
   generalize vs 1 = u31 at *
   generalize vs 2 = u32 at *
   obtain ⟨rfl, h31⟩ := g1
   obtain ⟨rfl, rfl⟩ := g2
   refine I6 hs rfl ((show (decide (R7 k p n = R7 k p n)) = true by simp) ▸ B2C rfl rfl rfl rfl h29.lt h29.lt) rfl ?_
   refine km_ hs ?_
   refine A0P hs rfl rfl rfl rfl qm_ rfl ?_
   refine A61 hs rfl rfl rfl rfl (by first | exact fun x hx => by rw [List.append_assoc]; exact List.mem_append_right _ hx | exact SubC.sub) hKs (qw_ 3) rfl ?_
   refine A0P hs rfl rfl rfl rfl qm_ rfl ?_
   refine A0P hs rfl rfl rfl rfl qm_ rfl ?_
   refine A0Y [⟨9, 39, fun v B R => B = [] ∧ By R v (U3 wd (R7 k p n))⟩, ⟨10, 40, fun v B _ => B = [] ∧ v = (.string (txt (U3 wd (R7 k p n))))⟩, ⟨12, 42, fun v B R => B = [] ∧ By R v (A3v [] wd)⟩, ⟨14, 44, fun v B R => B = [] ∧ By R v (U3 wd (R7 k p n))⟩, ⟨15, 45, fun v B _ => B = [] ∧ v = (.string (txt (U3 wd (R7 k p n))))⟩, ⟨16, 46, fun v B _ => B = [] ∧ v = (.bool true)⟩]
    (A7 (fun _ _ _ _ hR h => ⟨h.1, h.2.mono hR⟩) (A7 (fun _ _ _ _ _ h => h) (A7 (fun _ _ _ _ hR h => ⟨h.1, h.2.mono hR⟩) (A7 (fun _ _ _ _ hR h => ⟨h.1, h.2.mono hR⟩) (A7 (fun _ _ _ _ _ h => h) (A7 (fun _ _ _ _ _ h => h) (I5))))))) (show List.Nodup [39, 40, 42, 44, 45, 46] by decide) (show List.Nodup [9, 10, 12, 14, 15, 16] by decide) (A7 (C1 rfl) (A7 (C1 rfl) (A7 (C1 rfl) (A7 (C1 rfl) (A7 (C1 rfl) (A7 (C1 rfl) (I5)))))))
    (A7 ⟨_, rfl, fun vs bs R w hb ha => ⟨.inr ⟨_, _, _, _, rfl, rfl, rfl, rfl⟩, ?_⟩⟩ (A7 ⟨_, rfl, fun vs bs R w hb ha => ⟨.inr ⟨_, _, _, _, rfl, rfl, rfl, rfl⟩, ?_⟩⟩ (A7 ⟨_, rfl, fun vs bs R w hb ha => ⟨.inr ⟨_, _, _, _, rfl, rfl, rfl, rfl⟩, ?_⟩⟩ (A7 ⟨_, rfl, fun vs bs R w hb ha => ⟨.inr ⟨_, _, _, _, rfl, rfl, rfl, rfl⟩, ?_⟩⟩ (A7 ⟨_, rfl, fun vs bs R w hb ha => ⟨.inr ⟨_, _, _, _, rfl, rfl, rfl, rfl⟩, ?_⟩⟩ (A7 ⟨_, rfl, fun vs bs R w hb ha => ⟨.inr ⟨_, _, _, _, rfl, rfl, rfl, rfl⟩, ?_⟩⟩ (I5))))))) ?_
   ·
    refine E3 (aS rfl (aS rfl (a0))) kR (A48 v0 v1 wd k p n _ (h0.mono (fun x hx => by have := hb x (by simp [hx]); simp [this])) (h1.mono (fun x hx => by have := hb x (by simp [hx]); simp [this])) (by omega) hp hn) rfl ?_
    rintro r M1 J1 ⟨rfl, hh⟩
    exact ⟨_, rfl, rfl, hh.mono fun x hx => by simp [hx]⟩
   ·
    have g9 := ha _ (List.mem_of_getElem? (i := 0) rfl) kR
    replace g9 : (fun v B R => B = [] ∧ By R v (U3 wd (R7 k p n))) (vs 9) (bs 9) R := g9
    dsimp only at g9
    obtain ⟨-, h2⟩ := g9
    exact OpQ.opL (P3 rfl kR (h2.rd.mono (fun x hx => by simp [hx]))) rfl ⟨_, rfl, rfl, rfl⟩
   ·
    refine E3 (aS rfl (aS rfl (a0))) kR (A2i _ v0 [] wd _ By.nil (h0.mono (fun x hx => by have := hb x (by simp [hx]); simp [this])) (by decide) (by omega)) rfl ?_
    rintro r M1 J1 ⟨rfl, hh⟩
    exact ⟨_, rfl, rfl, hh.mono fun x hx => by simp [hx]⟩
   ·
    have g12 := ha _ (List.mem_of_getElem? (i := 2) rfl) kR
    replace g12 : (fun v B R => B = [] ∧ By R v (A3v [] wd)) (vs 12) (bs 12) R := g12
    dsimp only at g12
    have hh := g12.2
    rw [← A8u]
    refine E3 (aS rfl (aS rfl (a0))) kR (A2i _ _ (A3v [] wd) (R7 k p n) _ (hh.mono (fun x hx => by simp [hx])) (h29.mono (fun x hx => by have := hb x (by simp [hx]); simp [this])) (by rw [A3w]; simp; omega) (by rw [A4o]; omega)) rfl ?_
    rintro r M1 J1 ⟨rfl, hh⟩
    exact ⟨_, rfl, rfl, hh.mono fun x hx => by simp [hx]⟩
   ·
    have g14 := ha _ (List.mem_of_getElem? (i := 3) rfl) kR
    replace g14 : (fun v B R => B = [] ∧ By R v (U3 wd (R7 k p n))) (vs 14) (bs 14) R := g14
    dsimp only at g14
    obtain ⟨-, h2⟩ := g14
    exact OpQ.opL (P3 rfl kR (h2.rd.mono (fun x hx => by simp [hx]))) rfl ⟨_, rfl, rfl, rfl⟩
   ·
    have g10 := ha _ (List.mem_of_getElem? (i := 1) rfl) kR
    replace g10 : (fun v B _ => B = [] ∧ v = (.string (txt (U3 wd (R7 k p n))))) (vs 10) (bs 10) R := g10
    dsimp only at g10
    have g15 := ha _ (List.mem_of_getElem? (i := 4) rfl) kR
    replace g15 : (fun v B _ => B = [] ∧ v = (.string (txt (U3 wd (R7 k p n))))) (vs 15) (bs 15) R := g15
    dsimp only at g15
    obtain ⟨-, e3⟩ := g10
    obtain ⟨-, e12⟩ := g15
    dsimp only [T9, List.map, List.cons_append, List.nil_append]
    rw [e3, e12]
    exact OpQ.opL (A20 rfl rfl rfl) rfl ⟨_, rfl, rfl, rfl⟩
   intro vs bs Jn1 hφ
   have g9 := ofH hφ
   dsimp only at g9
   replace hφ := ofT hφ
   have g10 := ofH hφ
   dsimp only at g10
   replace hφ := ofT hφ
   have g12 := ofH hφ
   dsimp only at g12
   replace hφ := ofT hφ
   have g14 := ofH hφ
   dsimp only at g14
   replace hφ := ofT hφ
   have g15 := ofH hφ
   dsimp only at g15
   replace hφ := ofT hφ
   have g16 := ofH hφ
   dsimp only at g16
   clear hφ
   dsimp only [T9, N7, List.map, List.flatten, List.cons_append, List.nil_append]
   generalize bs 9 = B39 at *
   generalize bs 10 = B40 at *
   generalize bs 12 = B42 at *
   generalize bs 14 = B44 at *
   generalize bs 15 = B45 at *
   generalize bs 16 = B46 at *
   generalize vs 9 = u39 at *
   generalize vs 10 = u40 at *
   generalize vs 12 = u42 at *
   generalize vs 14 = u44 at *
   generalize vs 15 = u45 at *
   generalize vs 16 = u46 at *
   obtain ⟨rfl, rfl⟩ := g16
   refine I6 hs rfl (H7 rfl rfl) rfl ?_
   refine I6 hs rfl (F3 rfl) rfl ?_
   refine N9 (D2 8) (B4 ?_)
   exact ⟨_, [], [], I9 rfl rfl, List.nil_sublist _, by simp, rfl, rfl, rfl⟩

section
variable {H : Type} {enc : TypeId × Value → H} {P : Program} {w : World} {spare : Nat → Bool} {held : Bool} {fuel : Nat} {t e : TypeId} {cs : List Value} {x : DataW H × List MemPlace} {v : Value} {d : DataW H} {p : List MemPlace} {r : Reach} {base : Nat} {k : IntKind}
end
theorem A3x {P : Program} {W : World} {name : String} {g : Nat} {cs : Array Value} (hg : P.globalNamed name = some g) (h : W.var? P name = some cs) : ∃ e fr, W.heap[g]? = some (.cells cs e fr) := by
  unfold World.var? at h
  rw [hg] at h
  simp only [Option.bind_some] at h
  split at h
  · rename_i c e fr hh
    cases h
    exact ⟨e, fr, hh⟩
  · cases h
def A8v (ws : List Nat) : List Int := ws.map fun n : Nat => (n : Int)
theorem A2Q (k : IntKind) (ws : List Nat) : ((A8v ws).map fun z => Value.int k z).toArray = (nums k ws).toArray := by simp [A8v, nums]
theorem B2c {W : World} {a b : String × DataW Unit} {rest : List (String × DataW Unit)} (h : laidMet Tryz.prog (a :: b :: ("internal/strconv.uint64pow10", Rows.laid_internal_strconv_uint64pow10) :: rest) W) : ∃ e fr, W.heap[2]? = some (Obj.cells (nums .u64 V0).toArray e fr) := by
  have h' : laidMet Tryz.prog (("internal/strconv.uint64pow10", Lib.tabData .u64 (A8v V0)) :: rest) W := h.tail.tail
  have h1 := Lib.tabIs_of_head (g := 2) (t := 305) (e := 143) (n := 20) (by kernel_rfl) (by kernel_rfl) (by kernel_rfl) (by kernel_rfl) (by kernel_rfl) (by kernel_rfl) h'
  obtain ⟨ek, fk, h3⟩ := A3x (g := 2) (by kernel_rfl) h1
  rw [A2Q] at h3
  exact ⟨ek, fk, h3⟩
end Go.Proofs.YthbhpfefdnffaaaGreatDoor

namespace Go.Proofs.YthbhpfefdnffaaaGreatDoor
open Go.Px
theorem B3Z {W : World} {a b : String × DataW Unit} {rest : List (String × DataW Unit)} (h : laidMet Tryz.prog (a :: b :: ("internal/strconv.uint64pow10", Rows.laid_internal_strconv_uint64pow10) :: ("pawl/sha.round", Rows.laid_pawl_sha_round) :: ("pawl/sha.first", Rows.laid_pawl_sha_first) :: rest) W) : Glb (A6j W) := by
  obtain ⟨e4, f4, h4⟩ := B2c h
  have h' : laidMet Tryz.prog (("pawl/sha.round", Lib.tabData .u32 (A8v A2k)) :: ("pawl/sha.first", Lib.tabData .u32 (A8v A1K.list)) :: rest) W := h.tail.tail.tail
  have h1 := Lib.tabIs_of_head (g := 1) (t := 265) (e := 30) (n := 64) (by kernel_rfl) (by kernel_rfl) (by kernel_rfl) (by kernel_rfl) (by kernel_rfl) (by kernel_rfl) h'
  have h2 := Lib.tabIs_of_head (g := 0) (t := 222) (e := 30) (n := 8) (by kernel_rfl) (by kernel_rfl) (by kernel_rfl) (by kernel_rfl) (by kernel_rfl) (by kernel_rfl) h'.tail
  obtain ⟨ek, fk, h3⟩ := A3x (g := 1) (by kernel_rfl) h1
  obtain ⟨ef, ff, h5⟩ := A3x (g := 0) (by kernel_rfl) h2
  rw [A2Q] at h3 h5
  exact ⟨⟨ef, ff, A0a.2 h5⟩, ⟨ek, fk, A0a.2 h3⟩, ⟨e4, f4, A0a.2 h4⟩⟩
end Go.Proofs.YthbhpfefdnffaaaGreatDoor

namespace Go.Proofs.YthbhpfefdnffaaaGreatDoor.ratchetHeads
open Go.ChangeShapes Go.WideShapes Go.ChangeAt Go.RowKit
theorem own : ownKnob Tryz.prog.godebug = none := by kernel_rfl
theorem laidOut : laidOutB Tryz.prog = true := by kernel_rfl
noncomputable def laidWorld (os : Os) : World := World.laidAll Tryz.prog os Rows.ratchetHeadsRow.laid
theorem laid_met (os : Os) : laidMetH Tryz.prog Rows.ratchetHeadsRow.laid ((laidWorld os).forCall (fun _ _ => 0) ⟨#[], #[.slice none 0 0, .slice none 0 0, .int .u32 0, .int .u32 0], []⟩).memory := by
  rw [MakeChecks.laidMetH_plain _ _ _ (by kernel_rfl)]; exact laidMet_laidAll _ (by kernel_rfl) (by kernel_rfl)
theorem reads (os : Os) {H : Type} (enc : TypeId × Value → H) : ∃ places, DataW.whole enc Tryz.prog ((laidWorld os).forCall (fun _ _ => 0) ⟨#[], #[.slice none 0 0, .slice none 0 0, .int .u32 0, .int .u32 0], []⟩).memory Tryz.f9.params.toList Rows.ratchetHeadsSpec.vars false (#[.slice none 0 0, .slice none 0 0, .int .u32 0, .int .u32 0] : Array Value).toList 8 = some ([.nil, .nil, .lit (.int .u32 0), .lit (.int .u32 0)], [], places) :=
  ⟨[], by kernel_rfl⟩
theorem lifted (os : Os) (started : os.Started) (H : Type) (enc : TypeId × Value → H) (F : Stop.Interp) :
    ReturnsInHanded {} Tryz.checked os 9 .any ((OpenSpec.ofChange Rows.ratchetHeadsSpec).preRow enc Tryz.prog Tryz.f9 Rows.ratchetHeadsRow.domain false Rows.ratchetHeadsRow.laid) (((OpenSpec.ofChange Rows.ratchetHeadsSpec).at F).post enc Tryz.prog Tryz.f9 false true false false) := by
  obtain ⟨places, hx⟩ := reads os enc
  refine returnsInHanded_of_row (C := Tryz.checked) (s := (OpenSpec.ofChange Rows.ratchetHeadsSpec)) own started (by kernel_rfl) Tryz.func9
    (witness_row_at (enc := enc) (C := Tryz.checked) false (laidWorld os) #[.slice none 0 0, .slice none 0 0, .int .u32 0, .int .u32 0] (World.laidAll_os _ _ _) (by kernel_rfl) (by kernel_rfl) (by kernel_rfl)
      (OpenSpec.preRow_of_cond 8 hx (by kernel_rfl) (fun k hk => by cases hk) (by kernel_rfl) (laid_met os))) ?_
  intro W base args ds gs before hval0 hW _ _ _ hL _ _
  have hval : ∀ (j : Nat) t v, Tryz.f9.params[j]? = some t → args[j]? = some v → Value.okWide Tryz.prog W .any base t v := hval0
  have hW' := hW
  obtain ⟨p, q, hA0, hV, rfl, hfz, hnd⟩ := hW
  have hA : DataW.TrodAll enc Tryz.prog W 0 (fun _ => true) true Tryz.f9.params.toList args.toList ds p := hA0
  rw [Tryz.params9] at hA hval
  obtain ⟨v0, vs0, d0, ds0, p0, q0, hargs, rfl, rfl, k0, r0_⟩ := trodAll_cons hA
  obtain ⟨v1, vs1, d1, ds1, p1, q1, rfl, rfl, rfl, k1, r1_⟩ := trodAll_cons r0_
  obtain ⟨v2, vs2, d2, ds2, p2, q2, rfl, rfl, rfl, k2, r2_⟩ := trodAll_cons r1_
  obtain ⟨v3, vs3, d3, ds3, p3, q3, rfl, rfl, rfl, k3, r3_⟩ := trodAll_cons r2_
  obtain ⟨rfl, rfl, rfl⟩ := trodAll_nil r3_
  obtain rfl : args = #[v0, v1, v2, v3] := by cases args; simp_all
  obtain ⟨rfl, rfl⟩ := trodVars_none hV
  have lt0 : ∀ x ∈ p0, x.block < W.heap.size := by obtain ⟨m, hm⟩ := k0; exact DataW.trod_lt m _ _ _ hm
  have lt1 : ∀ x ∈ p1, x.block < W.heap.size := by obtain ⟨m, hm⟩ := k1; exact DataW.trod_lt m _ _ _ hm
  have lt2 : ∀ x ∈ p2, x.block < W.heap.size := by obtain ⟨m, hm⟩ := k2; exact DataW.trod_lt m _ _ _ hm
  have lt3 : ∀ x ∈ p3, x.block < W.heap.size := by obtain ⟨m, hm⟩ := k3; exact DataW.trod_lt m _ _ _ hm
  obtain ⟨x0, r0, hx0, l0⟩ := Px.inSlU Tryz.underlying27 Tryz.underlying5 (by kernel_rfl) rfl (hval 0 27 v0 rfl rfl) k0
  obtain ⟨x1, r1, hx1, l1⟩ := Px.inSlU Tryz.underlying27 Tryz.underlying5 (by kernel_rfl) rfl (hval 1 27 v1 rfl rfl) k1
  obtain ⟨x2, rfl, hx2⟩ := Px.inU Tryz.underlying30 rfl (hval 2 30 v2 rfl rfl) k2
  obtain ⟨x3, rfl, hx3⟩ := Px.inU Tryz.underlying30 rfl (hval 3 30 v3 rfl rfl) k3
  clear hA0 hval0
  rw [MakeChecks.laidMetH_plain _ _ _ (by kernel_rfl)] at hL
  have hG := B3Z hL
  refine Calls.mono ((A2r _ _ x0 x1 x2 x3 _ ⟨r0, hx0, l0⟩ ⟨r1, hx1, l1⟩ hx2 hx3 hG).calls (Px.heapA_fx W)) fun e W' ⟨he, bel⟩ => ?_
  subst he
  exact ⟨_, rfl, _, _, _, [], _, [], hW', trodAll_mk1 (shut_bool Tryz.underlying4 _), (trodAll_cons_mk (Below.trod laidOut (by kernel_rfl) (of_decide_eq_true (by kernel_rfl)) k0 bel lt0) (trodAll_cons_mk (Below.trod laidOut (by kernel_rfl) (of_decide_eq_true (by kernel_rfl)) k1 bel lt1) (trodAll_cons_mk (Below.trod laidOut (by kernel_rfl) (of_decide_eq_true (by kernel_rfl)) k2 bel lt2) (trodAll_cons_mk (Below.trod laidOut (by kernel_rfl) (of_decide_eq_true (by kernel_rfl)) k3 bel lt3) trodAll_mk0)))), rfl, bel.frame _, fun h => by cases h⟩
theorem said : Rows.RatchetHeadsSaid :=
  OpenClaim.holds_of_cond 9 Tryz.f9 rfl rfl rfl rfl rfl rfl rfl ⟨rfl, rfl, rfl, rfl, rfl⟩ rfl rfl rfl rfl rfl (by kernel_rfl) Tryz.func9 (by kernel_rfl)
    (of_decide_eq_true (by kernel_rfl)) (by unfold Func.isWrapper; first | (rw [if_pos (by decide +kernel)]; kernel_rfl) | (rw [if_neg (by decide +kernel)]; exact ⟨rfl, rfl⟩))
    (fun os started H enc _ F => by rw [OpenClaim.pre_eq_preRow]; exact lifted os started H enc F)
theorem plain (f : FuncId) (fn : Func) (hf : Tryz.pinned.checked.prog.funcNamed "pawl/pawllaw11.RatchetHeads" = some f) (hfn : Tryz.pinned.checked.prog.funcs[f]? = some fn) :
    true = Tryz.pinned.checked.prog.looks [] ∧ ∀ (j : Nat) t, fn.params[j]? = some t → Tryz.pinned.checked.prog.wantsStandIn t = false := by
  obtain rfl : f = 9 := Option.some.inj ((show Tryz.prog.funcNamed "pawl/pawllaw11.RatchetHeads" = some 9 by kernel_rfl).symm.trans hf) |>.symm
  obtain rfl : fn = Tryz.f9 := (Option.some.inj (Tryz.func9.symm.trans hfn)).symm
  refine ⟨by kernel_rfl, fun j t ht => ?_⟩
  rw [Tryz.params9] at ht
  have hm := Array.mem_of_getElem? ht
  simp only [List.mem_toArray, List.mem_cons, List.not_mem_nil, or_false] at hm
  rcases hm with rfl | rfl | rfl | rfl
  · exact (show Tryz.prog.wantsStandIn 27 = false by kernel_rfl)
  · exact (show Tryz.prog.wantsStandIn 27 = false by kernel_rfl)
  · exact (show Tryz.prog.wantsStandIn 30 = false by kernel_rfl)
  · exact (show Tryz.prog.wantsStandIn 30 = false by kernel_rfl)
theorem proved : Rows.RatchetHeadsCardSaid :=
  Claim7.holds_tied_plain_at .later [] _ _ _ _ said (fun _ h => by cases h) (by kernel_rfl) (fun _ h => by cases h) ratchetHeads_row_tie rfl ⟨rfl, rfl⟩ (by kernel_rfl) rfl plain (by kernel_rfl)
#print axioms proved
end Go.Proofs.YthbhpfefdnffaaaGreatDoor.ratchetHeads

