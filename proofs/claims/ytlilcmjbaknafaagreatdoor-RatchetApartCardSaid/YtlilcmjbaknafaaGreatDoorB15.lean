/- Part 15 of the texts of this claim, one behind the other. -/
import Derived.Test.YtlilcmjbaknafaaGreatDoorB14
set_option linter.unusedVariables false
set_option linter.unusedSimpArgs false
set_option maxRecDepth 100000
namespace Go.Proofs.YtlilcmjbaknafaaGreatDoor
open Go.Px
def xI (p : List Nat) (i : Nat) : Nat := p.getD i 0 <<< (8 * i % 26) % 18446744073709551616
def pt1 (S : List Nat) (x k : Nat) : List Nat := S.set k ((S.getD k 0 + (x &&& 67108863)) % 18446744073709551616)
def pt2 (S : List Nat) (x k : Nat) : List Nat := if k < 4 then S.set (k + 1) ((S.getD (k + 1) 0 + x >>> 26) % 18446744073709551616) else S
def ptS (p : List Nat) : Nat → List Nat
  | 0 => [0, 0, 0, 0, 0]
  | i + 1 => pt2 (pt1 (ptS p i) (xI p i) (8 * i / 26)) (xI p i) (8 * i / 26)
def ptN (p : List Nat) : List Nat := ptS p p.length
theorem B6n {p : List Nat} {i : Nat} (h : 8 * i / 26 < 4) : ptS p (i + 1) = (pt1 (ptS p i) (xI p i) (8 * i / 26)).set (8 * i / 26 + 1) (((pt1 (ptS p i) (xI p i) (8 * i / 26)).getD (8 * i / 26 + 1) 0 + xI p i >>> 26) % 18446744073709551616) := if_pos h
theorem B8f {p : List Nat} {i : Nat} (h : ¬ 8 * i / 26 < 4) : ptS p (i + 1) = pt1 (ptS p i) (xI p i) (8 * i / 26) := if_neg h
theorem L5.p1 {S : List Nat} (h : L5 S) (x k : Nat) : L5 (pt1 S x k) := h.set _ _ (Nat.mod_lt _ (by decide))
theorem L5.p2 {S : List Nat} (h : L5 S) (x k : Nat) : L5 (pt2 S x k) := by
  unfold pt2
  split
  · exact h.set _ _ (Nat.mod_lt _ (by decide))
  · exact h
theorem L5.z : L5 [0, 0, 0, 0, 0] := ⟨rfl, by decide⟩
theorem B1c (p : List Nat) : ∀ i, L5 (ptS p i)
  | 0 => L5.z
  | i + 1 => ((B1c p i).p1 _ _).p2 _ _
theorem A15 (p : List Nat) : L5 (ptN p) := B1c p _
theorem B9B (p : List Nat) (i : Nat) : xI p i < 18446744073709551616 := Nat.mod_lt _ (by decide)
theorem B1d (v : Value) (p : List Nat) (A : Mem) (hp : By A v p) (hl : p.length ≤ 17) : FnV Tryz.prog 114 [v] A (.agg (nums .u64 (ptN p)).toArray) := by
 haveI := hp.cel
 refine FnX.enter (N := 43) Tryz.func114 rfl rfl rfl fun w => ?_
 refine B0 (D7 0) (A1 ?_)
 refine A4 rfl (C4 (cs := [E3, E3, E3, E3, E3]) kR rfl fun b2 => ?_)
 refine A0 (D3 0 2) (A1 ?_)
 refine A4 rfl (C4 (cs := [E3, E3, E3, E3, E3]) kR rfl fun b3 => ?_)
 refine A0 (D4 0 2 3) (A3 (A1 (mv_ ?_)))
 refine A2 (G3 (sz := 1) rfl kR hp.rd) rfl ?_
 refine mv_ (A0 (E5 2 3 8 9 10) (A5 ?_))
 refine D9 (α := Nat) (fun i => [(2, .pointer (some ⟨b2, 0, none⟩)), (3, .pointer (some ⟨b3, 0, none⟩)), (8, v), (9, .int .i64 ((p.length : Nat) : Int)), (10, .int .i64 ((i : Nat) : Int))]) (fun i => [(b3, blk (nums .u64 (ptS p i)) 152), (b2, blk [.int .u64 0, .int .u64 0, .int .u64 0, .int .u64 0, .int .u64 0] 152)]) (fun _ => _) (fun i => i ≤ p.length) (fun i => p.length - i) 0 (Nat.zero_le _) (E5 2 3 8 9 10) (Fit.eq rfl) (fun _ h => h) ?_
 rintro i hi
 try dsimp only at hi ⊢
 have hok := B1c p i
 have hk1 := hok.p1 (xI p i) (8 * i / 26)
 refine A1 ?_
 refine A2 (D8 rfl rfl rfl) rfl ?_
 refine A0 (H9 2 3 8 9 10 11) (A3 ?_)
 refine C0 rfl (fun hc => ?_) (fun hc => ?_)
 ·
  have hlt : i < p.length := by simp at hc; omega
  have hk5 : 8 * i / 26 < 5 := by omega
  refine A6 (nx (E5 2 3 8 9 10) ?_)
  refine N3 (α := Unit) (fun _ => [(2, .pointer (some ⟨b2, 0, none⟩)), (3, .pointer (some ⟨b3, 0, none⟩)), (8, v), (9, .int .i64 ((p.length : Nat) : Int)), (10, .int .i64 ((i : Nat) : Int))]) (fun _ => [(b3, blk (nums .u64 (ptS p (i + 1))) 152), (b2, blk [.int .u64 0, .int .u64 0, .int .u64 0, .int .u64 0, .int .u64 0] 152)]) (fun _ => []) (fun _ => True) ?_ ?_
  ·
   refine A5 (A1 (mv_ ?_))
   refine A2 (I1 (sz := 1) (a := i) rfl rfl kR rfl hp.rd hlt) rfl ?_
   refine A2 (A0q (k := .u8) rfl kR (hp.rd.mono SubC.sub) hlt) rfl ?_
   refine as_ (as_ (A0 (R9 2 3 4 5 8 9 10) ?_))
   refine C7 (.range 11) (zp 0 [0, 0, 0, 0, 0, 0, 0, 0, 0, 0, 0]) kR kR fun hs => ?_
   refine fm_ hs ?_
   refine C2 hs rfl (C8 ((8 * i : Nat) : Int) rfl rfl (A1L (by omega) (by omega) (by omega))) rfl ?_
   refine C2 hs rfl (B3Y (a := 8 * i) (b := 26) rfl rfl rfl rfl (by decide) (by omega)) rfl ?_
   refine fm_ hs ?_
   refine C2 hs rfl (A0P (k' := .u64) rfl kR (by show _ < 9223372036854775808; have := A0L hp.lt i; omega)) rfl ?_
   refine fm_ hs ?_
   refine C2 hs rfl (C8 ((8 * i : Nat) : Int) rfl rfl (A1L (by omega) (by omega) (by omega))) rfl ?_
   refine C2 hs rfl (R6 (a := 8 * i) (b := 26) rfl rfl rfl rfl (by decide)) rfl ?_
   refine C2 hs rfl (A2p rfl (8 * i % 26) rfl rfl rfl (by show _ ≤ 64; omega)) rfl ?_
   refine fa_ hs ?_
   refine fa_ hs ?_
   refine E4 (R9 2 3 6 7 8 9 10) (A1 (mv_ ?_))
   refine A2 (C9 (e := 94) (n := 5) (sz := 1) (i := 8 * i / 26) (8 * i / 26) rfl rfl kR kR rfl (by omega) (by omega)) rfl ?_
   refine A2 (H8 (8 * i / 26) rfl kR At.mem rfl (by rw [hok.len]; omega)) rfl ?_
   refine mv_ ?_
   refine A2 (A3Y (a := xI p i) (b := 67108863) rfl rfl rfl (B9B p i) (by decide)) rfl ?_
   refine A2 (F1 18446744073709551616 rfl rfl rfl rfl rfl rfl) rfl ?_
   refine A2 (C9 (e := 94) (n := 5) (sz := 1) (i := 8 * i / 26) (8 * i / 26) rfl rfl kR kR rfl (by omega) (by omega)) rfl ?_
   refine A4 rfl (I4 (8 * i / 26) rfl rfl kR rfl (by rw [hok.len]; omega) UpC.upd ?_)
   refine A0 (R9 2 3 6 7 8 9 10) (A1 (mv_ ?_))
   refine A2 (D8 rfl rfl rfl) rfl ?_
   refine A0 (V7 2 3 6 7 8 9 10 32) ?_
   refine C0 rfl (fun hc => ?_) (fun hc => ?_)
   ·
    have h4 : 8 * i / 26 < 4 := by simp at hc; omega
    refine A8 (mv_ ?_)
    refine A2 (C8 ((8 * i / 26 + 1 : Nat) : Int) rfl rfl (E2 (by omega) (by omega) (by omega))) rfl ?_
    refine A2 (C9 (e := 94) (n := 5) (sz := 1) (i := 8 * i / 26 + 1) (8 * i / 26 + 1) rfl rfl kR kR rfl (by omega) (by omega)) rfl ?_
    refine A2 (H8 (8 * i / 26 + 1) rfl kR At.mem rfl (by have h := hk1.len; unfold pt1 at h; omega)) rfl ?_
    refine mv_ ?_
    refine A2 (Q4 (a := xI p i) 26 rfl rfl rfl (by decide)) rfl ?_
    refine A2 (F1 18446744073709551616 rfl rfl rfl rfl rfl rfl) rfl ?_
    refine A2 (C9 (e := 94) (n := 5) (sz := 1) (i := 8 * i / 26 + 1) (8 * i / 26 + 1) rfl rfl kR kR rfl (by omega) (by omega)) rfl ?_
    refine A4 rfl (I4 (8 * i / 26 + 1) rfl rfl kR rfl (by have h := hk1.len; unfold pt1 at h; omega) UpC.upd ?_)
    refine C1 (nb ?_)
    exact jn () trivial (E5 2 3 8 9 10) (Fit.eq (by rw [B6n h4]; rfl)) (fun _ h => h)
   ·
    have h4 : ¬ 8 * i / 26 < 4 := by simp at hc; omega
    refine A6 (nb ?_)
    exact jn () trivial (E5 2 3 8 9 10) (Fit.eq (by rw [B8f h4]; rfl)) (fun _ h => h)
  ·
   rintro _ -
   refine A8 ?_
   refine A2 (C8 ((i + 1 : Nat) : Int) rfl rfl (E2 (by omega) (by omega) (by omega))) rfl ?_
   refine mv_ (C1 ?_)
   exact rn (i + 1) hlt (by omega) (E5 2 3 8 9 10) (Fit.eq rfl) (fun _ h => h)
 ·
  obtain rfl : i = p.length := by simp at hc; omega
  refine D2 (te (re (be rfl (nx (D3 2 3) (A1 ?_)))))
  refine A2 (L2 (n := 5) (cs := nums .u64 (ptS p p.length)) rfl kR At.mem (by rw [nums_len]; exact (A15 p).len)) rfl ?_
  refine A4 rfl (A9 (vs := nums .u64 (ptN p)) rfl rfl rfl (by rw [nums_len, (A15 p).len]; kernel_rfl) (by rw [nums_len, (A15 p).len]; rfl) E7 UpC.upd ?_)
  refine A0 (D7 2) (B4 ?_)
  exact ⟨_, [], [], A3U (n := 5) rfl rfl kR At.mem (by rw [nums_len, (A15 p).len]), List.nil_sublist _, by simp, rfl, rfl, rfl⟩

def ml1 (S : List Nat) (x y i k : Nat) : List Nat :=
  if i + k < 5 then S.set (i + k) ((S.getD (i + k) 0 + x * y % 18446744073709551616) % 18446744073709551616)
  else S.set (i + k - 5) ((S.getD (i + k - 5) 0 + 5 * x % 18446744073709551616 * y % 18446744073709551616) % 18446744073709551616)
def mlK (a b : List Nat) (i : Nat) (S : List Nat) : Nat → List Nat
  | 0 => S
  | k + 1 => ml1 (mlK a b i S k) (a.getD i 0) (b.getD k 0) i k
def mlI (a b : List Nat) : Nat → List Nat
  | 0 => [0, 0, 0, 0, 0]
  | i + 1 => mlK a b i (mlI a b i) 5
def A35 (a b : List Nat) : List Nat := cyN (cyN (mlI a b 5))
theorem L5.m1 {S : List Nat} (h : L5 S) (x y i k : Nat) : L5 (ml1 S x y i k) := by
  unfold ml1
  split <;> exact h.set _ _ (Nat.mod_lt _ (by decide))
theorem B1e {a b S : List Nat} {i : Nat} (h : L5 S) : ∀ k, L5 (mlK a b i S k)
  | 0 => h
  | k + 1 => (B1e h k).m1 _ _ _ _
theorem A4z (a b : List Nat) : ∀ i, L5 (mlI a b i)
  | 0 => L5.z
  | i + 1 => B1e (A4z a b i) 5
theorem A1c (a b : List Nat) : L5 (A35 a b) := U2 (U2 (A4z a b 5))
theorem B6o {a b S : List Nat} {i k : Nat} (h : i + k < 5) : mlK a b i S (k + 1) = (mlK a b i S k).set (i + k) (((mlK a b i S k).getD (i + k) 0 + a.getD i 0 * b.getD k 0 % 18446744073709551616) % 18446744073709551616) := if_pos h
theorem B8g {a b S : List Nat} {i k : Nat} (h : ¬ i + k < 5) : mlK a b i S (k + 1) = (mlK a b i S k).set (i + k - 5) (((mlK a b i S k).getD (i + k - 5) 0 + 5 * a.getD i 0 % 18446744073709551616 * b.getD k 0 % 18446744073709551616) % 18446744073709551616) := if_neg h
theorem B6p (a b : List Nat) (A : Mem) (ha : L5 a) (hb : L5 b) : FnV Tryz.prog 115 [.agg (nums .u64 a).toArray, .agg (nums .u64 b).toArray] A (.agg (nums .u64 (A35 a b)).toArray) := by
 refine FnX.enter (N := 51) Tryz.func115 rfl rfl rfl fun w => ?_
 refine B0 (D3 0 1) (A1 ?_)
 refine A4 rfl (bx_ fun b2 => ?_)
 refine A4 rfl (bx_ fun b3 => ?_)
 refine A4 rfl (C4 (cs := [E3, E3, E3, E3, E3]) kR rfl fun b4 => ?_)
 refine A0 (D4 2 3 4) (A1 ?_)
 refine A4 rfl (C4 (cs := [E3, E3, E3, E3, E3]) kR rfl fun b5 => ?_)
 refine A0 (D6 2 3 4 5) (A3 (A1 ?_))
 refine A2 (L2 (n := 5) (cs := nums .u64 a) rfl kR At.mem (by rw [nums_len]; exact ha.len)) rfl ?_
 refine mv_ (A0 (E5 3 4 5 10 11) (A5 ?_))
 refine D9 (α := Nat) (fun i => [(3, .pointer (some ⟨b3, 0, none⟩)), (4, .pointer (some ⟨b4, 0, none⟩)), (5, .pointer (some ⟨b5, 0, none⟩)), (10, .agg (nums .u64 a).toArray), (11, .int .i64 ((i : Nat) : Int))]) (fun i => [(b5, blk (nums .u64 (mlI a b i)) 152), (b4, blk [.int .u64 0, .int .u64 0, .int .u64 0, .int .u64 0, .int .u64 0] 152), (b3, blk (nums .u64 b) 152), (b2, blk (nums .u64 a) 152)]) (fun _ => _) (fun i => i ≤ 5) (fun i => 5 - i) 0 (Nat.zero_le _) (E5 3 4 5 10 11) (Fit.eq rfl) (fun _ h => h) ?_
 rintro i hi
 try dsimp only at hi ⊢
 have hok := A4z a b i
 refine A1 ?_
 refine A2 (D8 rfl rfl rfl) rfl ?_
 refine A0 (H9 3 4 5 10 11 12) (A3 ?_)
 refine C0 rfl (fun hc => ?_) (fun hc => ?_)
 ·
  have hlt : i < 5 := by simp at hc; omega
  refine A6 (nx (E5 3 4 5 10 11) (A3 (A5 (A1 (mv_ ?_)))))
  refine A2 (A4L (m := 5) (e := 94) (j := i) (cs := nums .u64 a) (u := .int .u64 ((a.getD i 0 : Nat) : Int)) rfl rfl kR kR kR rfl (by omega) (A0a (by rw [ha.len]; omega))) rfl ?_
  refine as_ (as_ (A0 (R9 3 4 5 6 7 10 11) (A1 ?_)))
  refine A2 (L2 (n := 5) (cs := nums .u64 b) rfl kR At.mem (by rw [nums_len]; exact hb.len)) rfl ?_
  refine mv_ (A0 (Z9 3 4 5 6 7 10 11 15 16) (A5 ?_))
  refine D9 (α := Nat) (fun k => [(3, .pointer (some ⟨b3, 0, none⟩)), (4, .pointer (some ⟨b4, 0, none⟩)), (5, .pointer (some ⟨b5, 0, none⟩)), (10, .agg (nums .u64 a).toArray), (11, .int .i64 ((i : Nat) : Int)), (6, .int .i64 ((i : Nat) : Int)), (7, .int .u64 ((a.getD i 0 : Nat) : Int)), (15, .agg (nums .u64 b).toArray), (16, .int .i64 ((k : Nat) : Int))]) (fun k => [(b5, blk (nums .u64 (mlK a b i (mlI a b i) k)) 152), (b4, blk [.int .u64 0, .int .u64 0, .int .u64 0, .int .u64 0, .int .u64 0] 152), (b3, blk (nums .u64 b) 152), (b2, blk (nums .u64 a) 152)]) (fun _ => _) (fun k => k ≤ 5) (fun k => 5 - k) 0 (Nat.zero_le _) (Z9 3 4 5 10 11 6 7 15 16) (Fit.eq rfl) (fun _ h => h) ?_
  rintro k hk
  try dsimp only at hk ⊢
  have hok2 := B1e (a := a) (b := b) (i := i) hok k
  refine A1 ?_
  refine A2 (D8 rfl rfl rfl) rfl ?_
  refine A0 (kq 3 (Z9 4 5 6 7 10 11 15 16 17)) (A3 ?_)
  refine C0 rfl (fun hc => ?_) (fun hc => ?_)
  ·
   have hlt2 : k < 5 := by simp at hc; omega
   refine A6 (nx (Z9 3 4 5 6 7 10 11 15 16) ?_)
   refine N3 (α := Unit) (fun _ => [(3, .pointer (some ⟨b3, 0, none⟩)), (4, .pointer (some ⟨b4, 0, none⟩)), (5, .pointer (some ⟨b5, 0, none⟩)), (10, .agg (nums .u64 a).toArray), (11, .int .i64 ((i : Nat) : Int)), (6, .int .i64 ((i : Nat) : Int)), (7, .int .u64 ((a.getD i 0 : Nat) : Int)), (15, .agg (nums .u64 b).toArray), (16, .int .i64 ((k : Nat) : Int)), (8, .int .i64 ((k : Nat) : Int)), (9, .int .u64 ((b.getD k 0 : Nat) : Int))]) (fun _ => [(b5, blk (nums .u64 (mlK a b i (mlI a b i) (k + 1))) 152), (b4, blk [.int .u64 0, .int .u64 0, .int .u64 0, .int .u64 0, .int .u64 0] 152), (b3, blk (nums .u64 b) 152), (b2, blk (nums .u64 a) 152)]) (fun _ => []) (fun _ => True) ?_ ?_
   ·
    refine A5 (A1 (mv_ ?_))
    refine A2 (A4L (m := 5) (e := 94) (j := k) (cs := nums .u64 b) (u := .int .u64 ((b.getD k 0 : Nat) : Int)) rfl rfl kR kR kR rfl (by omega) (A0a (by rw [hb.len]; omega))) rfl ?_
    refine as_ (as_ ?_)
    refine A0 (kq 3 (kq 4 (Z9 5 6 7 8 9 10 11 15 16))) ?_
    refine A1 (mv_ (mv_ ?_))
    refine A2 (C8 ((i + k : Nat) : Int) rfl rfl (E2 (by omega) (by omega) (by omega))) rfl ?_
    refine A2 (D8 rfl rfl rfl) rfl ?_
    refine A0 (kq 3 (kq 4 (kq 5 (Z9 6 7 8 9 10 11 15 16 23)))) ?_
    refine C0 rfl (fun hc => ?_) (fun hc => ?_)
    ·
     have h5 : i + k < 5 := by simp at hc; omega
     refine A8 (mv_ (mv_ ?_))
     refine A2 (C8 ((i + k : Nat) : Int) rfl rfl (E2 (by omega) (by omega) (by omega))) rfl ?_
     refine A2 (C9 (e := 94) (n := 5) (sz := 1) (i := i + k) (i + k) rfl rfl kR kR rfl (by omega) (by omega)) rfl ?_
     refine A2 (H8 (i + k) rfl kR At.mem rfl (by rw [hok2.len]; omega)) rfl ?_
     refine mv_ (mv_ ?_)
     refine A2 (L9 18446744073709551616 rfl rfl rfl rfl rfl rfl) rfl ?_
     refine A2 (F1 18446744073709551616 rfl rfl rfl rfl rfl rfl) rfl ?_
     refine A2 (C9 (e := 94) (n := 5) (sz := 1) (i := i + k) (i + k) rfl rfl kR kR rfl (by omega) (by omega)) rfl ?_
     refine A4 rfl (I4 (i + k) rfl rfl kR rfl (by rw [hok2.len]; omega) UpC.upd ?_)
     refine C1 (nb ?_)
     exact jn () trivial (kq 3 (kq 4 (Z9 5 10 11 6 7 15 16 8 9))) (Fit.eq (by rw [B6o h5])) (fun _ h => h)
    ·
     have h5 : ¬ i + k < 5 := by simp at hc; omega
     refine A8 (mv_ (mv_ ?_))
     refine A2 (C8 ((i + k : Nat) : Int) rfl rfl (E2 (by omega) (by omega) (by omega))) rfl ?_
     refine A2 (C8 ((i + k - 5 : Nat) : Int) rfl rfl (A0i (by omega) (by omega) (by omega))) rfl ?_
     refine A2 (C9 (e := 94) (n := 5) (sz := 1) (i := i + k - 5) (i + k - 5) rfl rfl kR kR rfl (by omega) (by omega)) rfl ?_
     refine A2 (H8 (i + k - 5) rfl kR At.mem rfl (by rw [hok2.len]; omega)) rfl ?_
     refine mv_ ?_
     refine A2 (L9 18446744073709551616 rfl rfl rfl rfl rfl rfl) rfl ?_
     refine mv_ ?_
     refine A2 (L9 18446744073709551616 rfl rfl rfl rfl rfl rfl) rfl ?_
     refine A2 (F1 18446744073709551616 rfl rfl rfl rfl rfl rfl) rfl ?_
     refine A2 (C9 (e := 94) (n := 5) (sz := 1) (i := i + k - 5) (i + k - 5) rfl rfl kR kR rfl (by omega) (by omega)) rfl ?_
     refine A4 rfl (I4 (i + k - 5) rfl rfl kR rfl (by rw [hok2.len]; omega) UpC.upd ?_)
     refine C1 (nb ?_)
     exact jn () trivial (kq 3 (kq 4 (Z9 5 10 11 6 7 15 16 8 9))) (Fit.eq (by rw [B8g h5])) (fun _ h => h)
   ·
    rintro _ -
    refine A8 ?_
    refine A2 (C8 ((k + 1 : Nat) : Int) rfl rfl (E2 (by omega) (by omega) (by omega))) rfl ?_
    refine mv_ (C1 ?_)
    exact rn (k + 1) hlt2 (by omega) (Z9 3 4 5 10 11 6 7 15 16) (Fit.eq rfl) (fun _ h => h)
  ·
   obtain rfl : k = 5 := by simp at hc; omega
   refine D2 (te (re (be rfl (nb (nx (E5 3 4 5 10 11) (A8 ?_))))))
   refine A2 (C8 ((i + 1 : Nat) : Int) rfl rfl (E2 (by omega) (by omega) (by omega))) rfl ?_
   refine mv_ (C1 ?_)
   exact rn (i + 1) hlt (by omega) (E5 3 4 5 10 11) (Fit.eq rfl) (fun _ h => h)
 ·
  obtain rfl : i = 5 := by simp at hc; omega
  refine D2 (te (re (be rfl (nx (D3 4 5) (A1 ?_)))))
  refine A2 (L2 (n := 5) (cs := nums .u64 (mlI a b 5)) rfl kR At.mem (by rw [nums_len]; exact (A4z a b 5).len)) rfl ?_
  refine F3 (aS rfl a0) kR (A3L (mlI a b 5) _ (A4z a b 5)) rfl ?_
  refine F3 (aS rfl a0) kR (A3L (cyN (mlI a b 5)) _ (U2 (A4z a b 5))) rfl ?_
  refine A4 rfl (A9 (vs := nums .u64 (A35 a b)) rfl rfl rfl (by rw [nums_len, (A1c a b).len]; kernel_rfl) (by rw [nums_len, (A1c a b).len]; rfl) E7 UpC.upd ?_)
  refine A0 (D7 4) (B4 ?_)
  exact ⟨_, [], [], A3U (n := 5) rfl rfl kR At.mem (by rw [nums_len, (A1c a b).len]), List.nil_sublist _, by simp, rfl, rfl, rfl⟩

def em1 (S : List Nat) (i : Nat) : List Nat := S.set (i + 1) ((S.getD (i + 1) 0 + S.getD i 0 >>> 26) % 18446744073709551616)
def emS (a : List Nat) : Nat → List Nat
  | 0 => a.set 0 ((a.getD 0 0 + 5) % 18446744073709551616)
  | i + 1 => (em1 (emS a i) i).set i ((em1 (emS a i) i).getD i 0 &&& 67108863)
def enF (a : List Nat) : List Nat := if 0 < (emS a 4).getD 4 0 >>> 26 then (emS a 4).set 4 ((emS a 4).getD 4 0 &&& 67108863) else a
def exN (f : List Nat) (i : Nat) : Nat := if 8 * i / 26 < 4 then f.getD (8 * i / 26) 0 >>> (8 * i % 26) ||| f.getD (8 * i / 26 + 1) 0 <<< (26 - 8 * i % 26) % 18446744073709551616 else f.getD (8 * i / 26) 0 >>> (8 * i % 26)
def ecN (f o : List Nat) (c i : Nat) : Nat := (c + ((exN f i &&& 255) + o.getD i 0) % 18446744073709551616) % 18446744073709551616
def eoS (f o : List Nat) : Nat → List Nat × Nat
  | 0 => (List.replicate 16 0, 0)
  | i + 1 => ((eoS f o i).1.set i (ecN f o (eoS f o i).2 i % 256), ecN f o (eoS f o i).2 i >>> 8)
def B8H (a o : List Nat) : List Nat := (eoS (enF (cyN (cyN (cyN a)))) o 16).1
theorem L5.e1 {S : List Nat} (h : L5 S) (i : Nat) : L5 (em1 S i) := h.set _ _ (Nat.mod_lt _ (by decide))
theorem B1f {a : List Nat} (h : L5 a) : ∀ i, L5 (emS a i)
  | 0 => h.set _ _ (Nat.mod_lt _ (by decide))
  | i + 1 => ((B1f h i).e1 i).set _ _ (B3C _)
theorem B8h {a : List Nat} (h : L5 a) : L5 (enF a) := by
  unfold enF
  split
  · exact (B1f h 4).set _ _ (B3C _)
  · exact h
theorem A2m (f o : List Nat) : ∀ i, (eoS f o i).1.length = 16
  | 0 => by simp [eoS]
  | i + 1 => by show ((eoS f o i).1.set _ _).length = _; rw [List.length_set, A2m f o i]
theorem B4A (f o : List Nat) : ∀ i, ∀ x ∈ (eoS f o i).1, x < 256
  | 0 => fun x hx => by rw [show (eoS f o 0).1 = List.replicate 16 0 from rfl] at hx; rw [(List.mem_replicate.1 hx).2]; decide
  | i + 1 => fun x hx => by
    rcases List.mem_or_eq_of_mem_set hx with h1 | rfl
    · exact B4A f o i x h1
    · exact Nat.mod_lt _ (by decide)
theorem B3E (a o : List Nat) : (B8H a o).length = 16 := A2m _ _ _
theorem B9C (a o : List Nat) (v : Value) (A : Mem) (ha : L5 a) (ho : By A v o) (hol : o.length = 16) : FnX Tryz.prog 116 [.agg (nums .u64 a).toArray, v] [] A fun q M J => M = [] ∧ By J q (B8H a o) := by
 haveI := ho.cel
 refine FnX.enterZ (N := 97) Tryz.func116 rfl rfl rfl fun w_ => ?_
 refine B0 (D3 0 1) (A1 ?_)
 refine A4 rfl (bx_ fun b2 => ?_)
 refine as_ (A0 (D3 1 2) (A1 ?_))
 refine A2 (L2 (n := 5) (cs := nums .u64 a) rfl kR At.mem (by rw [nums_len]; exact ha.len)) rfl ?_
 refine F3 (aS rfl a0) kR (A3L a _ ha) rfl ?_
 refine F3 (aS rfl a0) kR (A3L (cyN a) _ (U2 ha)) rfl ?_
 refine F3 (aS rfl a0) kR (A3L (cyN (cyN a)) _ (U2 (U2 ha))) rfl ?_
 refine A4 rfl (A9 (vs := nums .u64 (cyN (cyN (cyN a)))) rfl rfl rfl (by rw [nums_len, (U2 (U2 (U2 ha))).len]; kernel_rfl) (by rw [nums_len, nums_len, ha.len, (U2 (U2 (U2 ha))).len]) E7 UpC.upd ?_)
 refine A0 (D3 1 2) ?_
 unfold B8H
 obtain ⟨e, he⟩ : ∃ z, cyN (cyN (cyN a)) = z := ⟨_, rfl⟩
 have hok := U2 (U2 (U2 ha))
 rw [he] at hok ⊢
 refine A1 ?_
 refine A2 (L2 (n := 5) (cs := nums .u64 e) rfl kR At.mem (by rw [nums_len]; exact hok.len)) rfl ?_
 refine A4 rfl (C4 (cs := [E3, E3, E3, E3, E3]) kR rfl fun b5 => ?_)
 refine A4 rfl (A9 (vs := nums .u64 e) rfl rfl rfl (by rw [nums_len, hok.len]; kernel_rfl) (by rw [nums_len, hok.len]; rfl) E7 UpC.upd ?_)
 refine A0 (D4 1 2 5) (A1 ?_)
 refine A2 (C9 (e := 94) (n := 5) (sz := 1) (i := 0) (0) rfl rfl kR kR rfl (by omega) (by omega)) rfl ?_
 refine A2 (H8 (0) rfl kR At.mem rfl (by rw [hok.len]; omega)) rfl ?_
 refine A2 (F1 18446744073709551616 (b := 5) rfl rfl rfl rfl rfl rfl) rfl ?_
 refine A2 (C9 (e := 94) (n := 5) (sz := 1) (i := 0) (0) rfl rfl kR kR rfl (by omega) (by omega)) rfl ?_
 refine A4 rfl (I4 (0) rfl rfl kR rfl (by rw [hok.len]; omega) UpC.upd ?_)
 refine A0 (D4 1 2 5) (A3 (A1 (mv_ (A0 (D6 1 2 5 21) (A5 ?_)))))
 refine D9 (α := Nat) (fun i => [(1, v), (2, .pointer (some ⟨b2, 0, none⟩)), (5, .pointer (some ⟨b5, 0, none⟩)), (21, .int .i64 ((i : Nat) : Int))]) (fun i => [(b5, blk (nums .u64 (emS e i)) 152), (b2, blk (nums .u64 e) 152)]) (fun _ => _) (fun i => i ≤ 4) (fun i => 4 - i) 0 (Nat.zero_le _) (D6 1 2 5 21) (Fit.eq rfl) (fun _ h => h) ?_
 rintro i hi
 try dsimp only at hi ⊢
 have hm := B1f hok i
 have hm1 := hm.e1 i
 refine A1 ?_
 refine A2 (D8 rfl rfl rfl) rfl ?_
 refine A0 (E5 1 2 5 21 22) (A3 ?_)
 refine C0 rfl (fun hc => ?_) (fun hc => ?_)
 ·
  have hlt : i < 4 := by simp at hc; omega
  refine A6 (nx (D6 1 2 5 21) (A3 (A5 (A1 (mv_ (as_ (A0 (E5 1 2 5 6 21) ?_)))))))
  refine C7 (.range 10) (zp 0 [0, 0, 0, 1, 0, 0, 1, 0, 0, 0, 2]) kR kR fun hs => ?_
  refine fm_ hs ?_
  refine C2 hs rfl (C8 ((i + 1 : Nat) : Int) rfl rfl (E2 (by omega) (by omega) (by omega))) rfl ?_
  refine C2 hs rfl (C9 (e := 94) (n := 5) (sz := 1) (i := i + 1) (i + 1) rfl rfl kR kR rfl (by omega) (by omega)) rfl ?_
  refine G4 hs rfl (H8 (i + 1) rfl kR At.mem rfl (by rw [hm.len]; omega)) rfl ?_
  refine fm_ hs ?_
  refine C2 hs rfl (C9 (e := 94) (n := 5) (sz := 1) (i := i) (i) rfl rfl kR kR rfl (by omega) (by omega)) rfl ?_
  refine G4 hs rfl (H8 (i) rfl kR At.mem rfl (by rw [hm.len]; omega)) rfl ?_
  refine C2 hs rfl (Q4 26 rfl rfl rfl (by decide)) rfl ?_
  refine C2 hs rfl (F1 18446744073709551616 rfl rfl rfl rfl rfl rfl) rfl ?_
  refine C2 hs rfl (C9 (e := 94) (n := 5) (sz := 1) (i := i + 1) (i + 1) rfl rfl kR kR rfl (by omega) (by omega)) rfl ?_
  refine F5 rfl rfl rfl (I4 (i + 1) rfl rfl kR rfl (by rw [hm.len]; omega) UpC.upd ?_)
  refine E4 (E5 1 2 5 6 21) (A8 (mv_ ?_))
  refine A2 (C9 (e := 94) (n := 5) (sz := 1) (i := i) (i) rfl rfl kR kR rfl (by omega) (by omega)) rfl ?_
  refine A2 (H8 (i) rfl kR At.mem rfl (by have h := hm1.len; unfold em1 at h; omega)) rfl ?_
  refine A2 (A3Y (b := 67108863) rfl rfl rfl (by show _ < 18446744073709551616; exact hm1.get _) (by decide)) rfl ?_
  refine A2 (C9 (e := 94) (n := 5) (sz := 1) (i := i) (i) rfl rfl kR kR rfl (by omega) (by omega)) rfl ?_
  refine A4 rfl (I4 (i) rfl rfl kR rfl (by have h := hm1.len; unfold em1 at h; omega) UpC.upd ?_)
  refine C1 (nb (nx (D6 1 2 5 21) (A8 ?_)))
  refine A2 (C8 ((i + 1 : Nat) : Int) rfl rfl (E2 (by omega) (by omega) (by omega))) rfl ?_
  refine mv_ (C1 ?_)
  exact rn (i + 1) (by omega) (by omega) (D6 1 2 5 21) (Fit.eq rfl) (fun _ h => h)
 ·
  obtain rfl : i = 4 := by simp at hc; omega
  refine D2 (te (re (be rfl (nx (D4 1 2 5) ?_))))
  refine N3 (α := List Nat) (fun _ => [(1, v), (2, .pointer (some ⟨b2, 0, none⟩))]) (fun S => [(b5, blk (nums .u64 S) 152), (b2, blk (nums .u64 (enF e)) 152)]) (fun _ => []) (fun _ => True) ?_ ?_
  ·
   refine A1 ?_
   refine A2 (C9 (e := 94) (n := 5) (sz := 1) (i := 4) (4) rfl rfl kR kR rfl (by omega) (by omega)) rfl ?_
   refine A2 (H8 (4) rfl kR At.mem rfl (by rw [hm.len]; omega)) rfl ?_
   refine A2 (Q4 26 rfl rfl rfl (by decide)) rfl ?_
   refine A2 (D8 rfl rfl rfl) rfl ?_
   refine A0 (D6 1 2 5 43) ?_
   refine C0 rfl (fun hc => ?_) (fun hc => ?_)
   ·
    have h0 : 0 < (emS e 4).getD 4 0 >>> 26 := by have := of_decide_eq_true hc; omega
    refine A1 ?_
    refine A2 (C9 (e := 94) (n := 5) (sz := 1) (i := 4) (4) rfl rfl kR kR rfl (by omega) (by omega)) rfl ?_
    refine A2 (H8 (4) rfl kR At.mem rfl (by rw [hm.len]; omega)) rfl ?_
    refine A2 (A3Y (b := 67108863) rfl rfl rfl (by show _ < 18446744073709551616; exact hm.get _) (by decide)) rfl ?_
    refine A2 (C9 (e := 94) (n := 5) (sz := 1) (i := 4) (4) rfl rfl kR kR rfl (by omega) (by omega)) rfl ?_
    refine A4 rfl (I4 (4) rfl rfl kR rfl (by rw [hm.len]; omega) UpC.upd ?_)
    refine A0 (D4 1 2 5) ?_
    have hm2 := hm.set 4 ((emS e 4).getD 4 0 &&& 67108863) (B3C _)
    refine A8 ?_
    refine A2 (L2 (n := 5) (cs := nums .u64 ((emS e 4).set 4 ((emS e 4).getD 4 0 &&& 67108863))) rfl kR At.mem (by rw [nums_len]; exact hm2.len)) rfl ?_
    refine A4 rfl (A9 (vs := nums .u64 ((emS e 4).set 4 ((emS e 4).getD 4 0 &&& 67108863))) rfl rfl rfl (by rw [nums_len, hm2.len]; kernel_rfl) (by rw [nums_len, nums_len, hok.len, hm2.len]) E7 UpC.upd ?_)
    refine C1 ?_
    exact jn ((emS e 4).set 4 ((emS e 4).getD 4 0 &&& 67108863)) trivial (D3 1 2) (Fit.eq (by rw [show enF e = _ from if_pos h0])) (fun _ h => h)
   ·
    have h0 : ¬ 0 < (emS e 4).getD 4 0 >>> 26 := by have := of_decide_eq_false hc; omega
    refine A6 ?_
    exact jn (emS e 4) trivial (D3 1 2) (Fit.eq (by rw [show enF e = e from if_neg h0])) (fun _ h => h)
  ·
   rintro Sx -
   have hf := B8h hok
   obtain ⟨f, hfe⟩ : ∃ z, enF e = z := ⟨_, rfl⟩
   rw [hfe] at hf ⊢
   refine A1 ?_
   refine A4 rfl (A0o (by_ := 1) (k := .u8) (e := 5) 16 rfl rfl kR rfl rfl (by decide) (by decide) rfl fun b49 => ?_)
   refine as_ (A0 (D4 1 2 7) (A1 (as_ (A0 (D6 1 2 7 8) (A3 (A1 (mv_ ?_)))))))
   refine A2 (A1j (e := 5) rfl kR) rfl ?_
   refine mv_ (A0 (H9 1 2 7 8 51 52) (A5 ?_))
   refine D9 (α := Nat) (fun i => [(1, v), (2, .pointer (some ⟨b2, 0, none⟩)), (7, .slice (some ⟨b49, 0, none⟩) 16 16), (8, .int .u64 (((eoS f o i).2 : Nat) : Int)), (51, .int .i64 16), (52, .int .i64 ((i : Nat) : Int))]) (fun i => [(b49, blk (nums .u8 (eoS f o (i)).1) 5), (b2, blk (nums .u64 f) 152)]) (fun _ => []) (fun i => i ≤ 16) (fun i => 16 - i) 0 (Nat.zero_le _) (H9 1 2 7 8 51 52) (Fit.pick (B := [(b49, blk (nums .u8 (List.replicate 16 0)) 5)]) PickC.perm (Fit.pick (B := [(b2, blk (nums .u64 f) 152)]) PickC.perm (Fit.sub (List.nil_sublist _)))) (fun _ h => h) ?_
   rintro i hi
   try dsimp only at hi ⊢
   have hol := A2m f o i
   refine A1 ?_
   refine A2 (D8 rfl rfl rfl) rfl ?_
   refine A0 (R9 1 2 7 8 51 52 53) (A3 ?_)
   refine C0 rfl (fun hc => ?_) (fun hc => ?_)
   ·
    have hlt : i < 16 := by simp at hc; omega
    have hk5 : 8 * i / 26 < 5 := by omega
    refine A6 (nx (H9 1 2 7 8 51 52) (A3 (A5 (A1 (mv_ (as_ (A0 (R9 1 2 7 8 9 51 52) (A1 ?_))))))))
    refine mv_ ?_
    refine A2 (C8 ((8 * i : Nat) : Int) rfl rfl (A1L (by omega) (by omega) (by omega))) rfl ?_
    refine A2 (B3Y (a := 8 * i) (b := 26) rfl rfl rfl rfl (by decide) (by omega)) rfl ?_
    refine as_ (A0 (V7 1 2 7 8 9 10 51 52) (A1 (mv_ ?_)))
    refine A2 (C9 (e := 94) (n := 5) (sz := 1) (i := 8 * i / 26) (8 * i / 26) rfl rfl kR kR rfl (by omega) (by omega)) rfl ?_
    refine A2 (H8 (8 * i / 26) rfl kR At.mem rfl (by rw [hf.len]; omega)) rfl ?_
    refine mv_ ?_
    refine A2 (C8 ((8 * i : Nat) : Int) rfl rfl (A1L (by omega) (by omega) (by omega))) rfl ?_
    refine A2 (R6 (a := 8 * i) (b := 26) rfl rfl rfl rfl (by decide)) rfl ?_
    refine A2 (Q4 (8 * i % 26) rfl rfl rfl (by show _ ≤ 64; omega)) rfl ?_
    refine as_ (A0 (Z9 1 2 7 8 9 10 11 51 52) ?_)
    refine N3 (α := Unit) (fun _ => [(1, v), (2, .pointer (some ⟨b2, 0, none⟩)), (7, .slice (some ⟨b49, 0, none⟩) 16 16), (8, .int .u64 (((eoS f o i).2 : Nat) : Int)), (51, .int .i64 16), (52, .int .i64 ((i : Nat) : Int)), (9, .int .i64 ((i : Nat) : Int)), (11, .int .u64 ((exN f i : Nat) : Int))]) (fun _ => [(b49, blk (nums .u8 (eoS f o (i)).1) 5), (b2, blk (nums .u64 f) 152)]) (fun _ => []) (fun _ => True) ?_ ?_
    ·
     refine A1 (mv_ ?_)
     refine A2 (D8 rfl rfl rfl) rfl ?_
     refine A0 (kq 1 (Z9 2 7 8 9 10 11 51 52 66)) ?_
     refine C0 rfl (fun hc => ?_) (fun hc => ?_)
     ·
      have h4 : 8 * i / 26 < 4 := by simp at hc; omega
      refine A8 (mv_ (mv_ ?_))
      refine A2 (C8 ((8 * i / 26 + 1 : Nat) : Int) rfl rfl (E2 (by omega) (by omega) (by omega))) rfl ?_
      refine A2 (C9 (e := 94) (n := 5) (sz := 1) (i := 8 * i / 26 + 1) (8 * i / 26 + 1) rfl rfl kR kR rfl (by omega) (by omega)) rfl ?_
      refine A2 (H8 (8 * i / 26 + 1) rfl kR At.mem rfl (by rw [hf.len]; omega)) rfl ?_
      refine mv_ ?_
      refine A2 (C8 ((8 * i : Nat) : Int) rfl rfl (A1L (by omega) (by omega) (by omega))) rfl ?_
      refine A2 (R6 (a := 8 * i) (b := 26) rfl rfl rfl rfl (by decide)) rfl ?_
      refine A2 (C8 ((26 - 8 * i % 26 : Nat) : Int) rfl rfl (A0i (by omega) (by omega) (by omega))) rfl ?_
      refine A2 (A2p rfl (26 - 8 * i % 26) rfl rfl rfl (by show _ ≤ 64; omega)) rfl ?_
      refine A2 (B3T rfl rfl rfl (by show _ < 18446744073709551616; exact B3D (hf.get _) _) (by show _ < 18446744073709551616; exact Nat.mod_lt _ (by decide))) rfl ?_
      refine as_ (C1 ?_)
      exact jn () trivial (kq 1 (kq 2 (kq 7 (kq 8 (kq 51 (kq 52 (kq 9 (kp 11 (by rw [show exN f i = _ from if_pos h4]; rfl) kn)))))))) (Fit.eq rfl) (fun _ h => h)
     ·
      have h4 : ¬ 8 * i / 26 < 4 := by simp at hc; omega
      refine A6 ?_
      exact jn () trivial (kq 1 (kq 2 (kq 7 (kq 8 (kq 51 (kq 52 (kq 9 (kp 11 (by rw [show exN f i = _ from if_neg h4]; rfl) kn)))))))) (Fit.eq rfl) (fun _ h => h)
    ·
     rintro _ -
     have hex : exN f i < 18446744073709551616 := by
      unfold exN
      split
      · exact Nat.or_lt_two_pow (n := 64) (B3D (hf.get _) _) (Nat.mod_lt _ (by decide))
      · exact B3D (hf.get _) _
     refine A1 (mv_ (mv_ ?_))
     refine A2 (A3Y (a := exN f i) (b := 255) rfl rfl rfl hex (by decide)) rfl ?_
     refine mv_ (mv_ ?_)
     refine A2 (I1 (sz := 1) (a := i) rfl rfl kR rfl ho.rd (by omega)) rfl ?_
     refine A2 (A0q (k := .u8) rfl kR (ho.rd.mono SubC.sub) (by omega)) rfl ?_
     refine A2 (A0P (k' := .u64) rfl kR (by show _ < 9223372036854775808; have := A0L ho.lt i; omega)) rfl ?_
     refine A2 (F1 18446744073709551616 rfl rfl rfl rfl rfl rfl) rfl ?_
     refine A2 (F1 18446744073709551616 rfl rfl rfl rfl rfl rfl) rfl ?_
     refine as_ (A0 (R9 1 2 7 8 9 51 52) (A1 (mv_ (mv_ (mv_ ?_)))))
     refine A2 (A1t rfl kR) rfl ?_
     refine A2 (K6 (e := 5) (i := i) (sz := 1) rfl rfl kR kR rfl hlt) rfl ?_
     refine A4 rfl (I4 i rfl rfl kR (by omega) (by omega) UpC.upd ?_)
     refine A0 (H9 1 2 7 8 51 52) (A8 (mv_ ?_))
     refine A2 (Q4 8 rfl rfl rfl (by decide)) rfl ?_
     refine as_ (C1 (nb (nx (H9 1 2 7 8 51 52) (A8 ?_))))
     refine A2 (C8 ((i + 1 : Nat) : Int) rfl rfl (E2 (by omega) (by omega) (by omega))) rfl ?_
     refine mv_ (C1 ?_)
     exact rn (i + 1) (by omega) (by omega) (H9 1 2 7 8 51 52) (Fit.eq rfl) (fun _ h => h)
   ·
    obtain rfl : i = 16 := by simp at hc; omega
    refine D2 (te (re (be rfl (nx (D7 7) (A1 (mv_ (as_ (A0 (D7 4) ?_))))))))
    refine B4 ?_
    refine ⟨_, [], [(b49, blk (nums .u8 (eoS f o 16).1) 5)], I7 rfl rfl, Fit.pick (B := [_]) PickC.perm (Fit.sub (List.nil_sublist _)), rfl, ⟨?_, B4A f o 16, by rw [A2m]; decide⟩⟩
    rw [A2m]
    exact Rd.whole (n := 16) List.mem_cons_self (by simp [nums, A2m])

end Go.Proofs.YtlilcmjbaknafaaGreatDoor
namespace Go.Px
open Go.RowKit
theorem A6l {P : Program} (w : World) (t ti ty e : TypeId) (k : IntKind) (i : TypeInfo) (z : Value) (ht : P.underlying t = some (.slice e)) (hti : P.underlying ti = some (.int k)) (hi : P.info? e = some i) (hz : i.zero = some z) (hsz : i.size = 1) (hby : i.bytes = 1)
    (n : Nat) (h0 : 0 < n) (hn9 : n ≤ 1000000) :
    (Builtin.append_ #[t, ti] ty #[.slice none 0 0, .int .i64 (n : Int)]).run P w =
      .ok (.slice (some ⟨w.heap.size, 0, none⟩) n (grownCap w n 0 e)) (w.drew.alloc (.cells (Builtin.zeroCells z.cells n ++ Builtin.zeroCells z.cells (grownCap w n 0 e - n)) e)) := by
  have hn : n ≠ 0 := by omega
  have hw : IntKind.i64.wrap (n : Int) = (n : Int) := by unfold IntKind.wrap; simp [IntKind.signed, IntKind.bits]; omega
  have h1 : ¬ ((n : Int) < 0) := by omega
  have h2 : ¬ (281474976710656 < (n : Int)) := by omega
  have h63' : ¬ (9223372036854775807 < (n : Int)) := by omega
  have h48' : ¬ (281474976710656 < Builtin.nextslicecap n 0) := by rw [nextslicecap_zero h0]; omega
  simp [Builtin.append_, run_underlying ht, run_underlying hti, sizeOf, typeInfo, zeroValue, hi, hz, hsz, hby, hn, hw, h1, h2, asInt, asIntOf, h63', h48', Question.forced, run_firstCells_none, newRow, grownCap]
theorem A16 {P : Program} (w : World) (t ti ty e : TypeId) (k : IntKind) (i : TypeInfo) (z : Value) (ht : P.underlying t = some (.slice e)) (hti : P.underlying ti = some (.int k)) (hi : P.info? e = some i) (hz : i.zero = some z) (hsz : i.size = 1) (hby : i.bytes = 1)
    (b : Addr) (sLen sCap : Nat) (olds : List Value) (hlo : olds.length = sLen * 1) (holds : ∀ j v, olds[j]? = some v → w.cell? (b.add j) = some v)
    (n : Nat) (h0 : 0 < n) (hn9 : n ≤ 1000000) (hg : sCap < sLen + n) (hs9 : sLen ≤ 1000000000) :
    (Builtin.append_ #[t, ti] ty #[.slice (some b) sLen sCap, .int .i64 (n : Int)]).run P w =
      .ok (.slice (some ⟨w.heap.size, 0, none⟩) (sLen + n) (grownCap w (sLen + n) sCap e)) (w.drew.alloc (.cells (olds.toArray ++ Builtin.zeroCells z.cells n ++ Builtin.zeroCells z.cells (grownCap w (sLen + n) sCap e - (sLen + n))) e)) := by
  have hn0 : n ≠ 0 := by omega
  have hn : ¬ (sLen + n ≤ sCap) := by omega
  have hw : IntKind.i64.wrap (n : Int) = (n : Int) := by unfold IntKind.wrap; simp [IntKind.signed, IntKind.bits]; omega
  have h1 : ¬ ((n : Int) < 0) := by omega
  have h2 : ¬ (281474976710656 < (n : Int)) := by omega
  have h63' : ¬ (9223372036854775807 < ((sLen : Int) + (n : Int))) := by omega
  have hfit : Builtin.nextslicecap (sLen + n) sCap * 1 ≤ 281474976710656 := growslice_fits (by omega) (by omega)
  have h48' : ¬ (281474976710656 < Builtin.nextslicecap (sLen + n) sCap) := by omega
  have hfo := run_firstCells_some (P := P) w.drew 1 sLen b sLen sCap olds hlo (by simpa using holds)
  simp [Builtin.append_, run_underlying ht, run_underlying hti, sizeOf, typeInfo, zeroValue, hi, hz, hsz, hby, hn0, hn, hw, h1, h2, asInt, asIntOf, h63', h48', Question.forced, hfo, newRow, grownCap]
theorem V1 (z0 : Value) (m : Nat) : Builtin.zeroCells #[z0] m = (List.replicate m z0).toArray := by
  unfold Builtin.zeroCells
  apply Array.ext
  · simp
  · intro i h1 h2
    simp [Nat.mod_one]
theorem A5r {P : Program} (w : World) (t ti ty e : TypeId) (k : IntKind) (i : TypeInfo) (z z0 : Value) (ht : P.underlying t = some (.slice e)) (hti : P.underlying ti = some (.int k)) (hi : P.info? e = some i) (hz : i.zero = some z) (hzc : z.cells = #[z0]) (hsz : i.size = 1) (hby : i.bytes = 1)
    (b o sLen sCap n : Nat) (cs : List Value) (e' : TypeId) (hb : w.heap[b]? = some (.cells cs.toArray e' (0, 0))) (h0 : 0 < n) (hn9 : n ≤ 1000000) (hg : sLen + n ≤ sCap) (hfit : o + sLen + n ≤ cs.length) (h1c : z0.oneCell' = true) :
    (Builtin.append_ #[t, ti] ty #[.slice (some ⟨b, o, none⟩) sLen sCap, .int .i64 (n : Int)]).run P w =
      .ok (.slice (some ⟨b, o, none⟩) (sLen + n) sCap) (w.setRow b (cs.take (o + sLen) ++ List.replicate n z0 ++ cs.drop (o + sLen + n)).toArray) := by
  have hn0 : n ≠ 0 := by omega
  have hw : IntKind.i64.wrap (n : Int) = (n : Int) := by unfold IntKind.wrap; simp [IntKind.signed, IntKind.bits]; omega
  have h1 : ¬ ((n : Int) < 0) := by omega
  have h2 : ¬ (281474976710656 < (n : Int)) := by omega
  have hst := run_storeCells_at (P := P) b (o + sLen) e' (List.replicate n z0) 0 cs.toArray w hb (by simpa using hfit) (fun u hu => by rw [(List.mem_replicate.1 hu).2]; exact h1c)
  simp only [Nat.add_zero, List.length_replicate] at hst
  simp [Builtin.append_, run_underlying ht, run_underlying hti, sizeOf, typeInfo, zeroValue, hi, hz, hzc, V1, hsz, hby, hn0, hg, hw, h1, h2, asInt, asIntOf, Addr.add_mid, hst]
theorem A4A {P : Program} (w : World) (t ti ty e : TypeId) (k : IntKind) (i : TypeInfo) (ht : P.underlying t = some (.slice e)) (hti : P.underlying ti = some (.int k)) (hi : P.info? e = some i) (hsz : i.size = 1) (hby : i.bytes = 1) (p : Option Addr) (sLen sCap : Nat) (hg : sLen ≤ sCap) :
    (Builtin.append_ #[t, ti] ty #[.slice p sLen sCap, .int .i64 ((0 : Nat) : Int)]).run P w = .ok (.slice p sLen sCap) w := by
  have hw : IntKind.i64.wrap 0 = 0 := by rfl
  cases p <;> simp [Builtin.append_, run_underlying ht, run_underlying hti, sizeOf, typeInfo, hi, hsz, hby, hw, hg, asInt, asIntOf, storeCells]
theorem A6Z {P : Program} {t ti e ty : TypeId} {k : IntKind} {n m : Nat} {v z0 : Value} {xs : List Value} {B R : Mem} {w : World} (ht : A2a P t = some (e, 1, 1)) (hti : P.underlying ti = some (.int k)) (hzr : ((P.info? e).bind (·.zero)).map (·.cells) = some #[z0]) (h1c : z0.oneCell' = true)
    (hs : Sl 1 v n xs B) (hB : ∀ q, q ∈ B → q ∈ R) (hw : Fx R w) (hm9 : m ≤ 1000000) (hs9 : n ≤ 1000000000) :
    ∃ v' w' B', (Builtin.append_ #[t, ti] ty #[v, .int .i64 (m : Int)]).run P w = .ok v' w' ∧ Sl 1 v' (n + m) (xs ++ List.replicate m z0) B' ∧
      ((w' = w ∧ B' = B) ∨
       (∃ (b : Nat) (cs cs' : List Value) (e' : TypeId), B = [(b, blk cs e')] ∧ B' = [(b, blk cs' e')] ∧ w' = w.setRow b cs'.toArray) ∨
       (∃ o', B' = [(w.heap.size, o')] ∧ w' = w.drew.alloc o')) := by
  obtain ⟨i, z, hu, hi, hz, hzs, his, hib⟩ := T6 ht
  have hzc : z.cells = #[z0] := by
    rw [hi, Option.bind_some, hz, Option.map_some] at hzr
    exact Option.some.inj hzr
  by_cases hm : m = 0
  · subst hm
    rcases hs with ⟨p, rfl, rfl, rfl, rfl⟩ | ⟨b, o, cap, cs, e', rfl, rfl, h1, h2, h3, h4, h5⟩
    · exact ⟨_, w, [], A4A w t ti ty e k i hu hti hi his hib p 0 0 (Nat.le_refl _), by rw [List.replicate_zero, List.append_nil]; exact .inl ⟨p, rfl, rfl, rfl, rfl⟩, .inl ⟨rfl, rfl⟩⟩
    · exact ⟨_, w, _, A4A w t ti ty e k i hu hti hi his hib _ n cap h1, by rw [List.replicate_zero, List.append_nil]; exact .inr ⟨b, o, cap, cs, e', rfl, rfl, h1, h2, h3, h4, h5⟩, .inl ⟨rfl, rfl⟩⟩
  · have h0 : 0 < m := by omega
    have hmax : n + m ≤ maxLen := by unfold maxLen; omega
    have made : ∀ (r : Value) (cap' : Nat), r = .slice (some ⟨w.heap.size, 0, none⟩) (n + m) cap' → n + m ≤ cap' → cap' ≤ maxLen → xs.length = n * 1 →
        Sl 1 r (n + m) (xs ++ List.replicate m z0) [(w.heap.size, .cells (xs.toArray ++ (List.replicate m z0).toArray ++ (List.replicate (cap' - (n + m)) z0).toArray) e (0, 0))] := by
      intro r cap' hr' hc1 hc2 hxl
      refine .inr ⟨w.heap.size, 0, cap', xs ++ List.replicate m z0 ++ List.replicate (cap' - (n + m)) z0, e, hr', by simp [blk], hc1, hc2, ?_, ?_, ?_⟩
      · simp; omega
      · simp; omega
      · intro j u hj
        have hlt : j < (xs ++ List.replicate m z0).length := (List.getElem?_eq_some_iff.1 hj).1
        rw [Nat.zero_add, List.getElem?_append_left hlt]
        exact hj
    rcases hs with ⟨p, rfl, rfl, rfl, rfl⟩ | ⟨b, o, cap, cs, e', rfl, rfl, h1, h2, h3, h4, h5⟩
    · have hge := grownCap_ge w (0 + m) 0 e
      have hcm : grownCap w (0 + m) 0 e ≤ maxLen := grownCap_le_maxLen w (0 + m) 0 e hmax
      cases p with
      | none =>
        have hrn := A6l (P := P) w t ti ty e k i z hu hti hi hz his hib m h0 hm9
        rw [hzc, V1, V1] at hrn
        rw [Nat.zero_add] at hge hcm
        refine ⟨_, _, _, hrn, ?_, .inr (.inr ⟨_, rfl, rfl⟩)⟩
        have := made _ (grownCap w m 0 e) (by rw [Nat.zero_add]) (by omega) hcm (by simp)
        simpa using this
      | some pa =>
        have hrg := A16 (P := P) w t ti ty e k i z hu hti hi hz his hib pa 0 0 [] (by simp) (by simp) m h0 hm9 (by omega) (by omega)
        rw [hzc, V1, V1] at hrg
        refine ⟨_, _, _, hrg, ?_, .inr (.inr ⟨_, rfl, rfl⟩)⟩
        exact made _ _ rfl hge hcm (by simp)
    · have hb := hw b _ (hB _ (List.mem_singleton.2 rfl))
      by_cases hroom : n + m ≤ cap
      · have hrr := A5r (P := P) w t ti ty e k i z z0 hu hti hi hz hzc his hib b o n cap m cs e' hb h0 hm9 hroom (by omega) h1c
        refine ⟨_, _, _, hrr, ?_, .inr (.inl ⟨b, cs, _, e', rfl, rfl, rfl⟩)⟩
        refine .inr ⟨b, o, cap, _, e', rfl, rfl, hroom, h2, ?_, ?_, ?_⟩
        · simp only [List.length_append, List.length_take, List.length_drop, List.length_replicate]
          omega
        · simp; omega
        · intro j q hj
          by_cases hjx : j < xs.length
          · rw [List.getElem?_append_left hjx] at hj
            rw [List.append_assoc, List.getElem?_append_left (by simp; omega), List.getElem?_take_of_lt (by omega)]
            exact h5 j q hj
          · rw [List.getElem?_append_right (by omega)] at hj
            have hlt := (List.getElem?_eq_some_iff.1 hj).1
            have hln : (cs.take (o + n)).length = o + n := by simp; omega
            rw [List.append_assoc, List.getElem?_append_right (by omega), List.getElem?_append_left (by rw [hln]; rw [List.length_replicate] at hlt ⊢; omega), hln, ← hj]
            congr 1
            omega
      · have hge := grownCap_ge w (n + m) cap e
        have hcm : grownCap w (n + m) cap e ≤ maxLen := grownCap_le_maxLen w (n + m) cap e hmax
        have hrg := A16 (P := P) w t ti ty e k i z hu hti hi hz his hib ⟨b, o, none⟩ n cap xs h4 (fun j q hj => by rw [Addr.add_mid, cell_of_row w b _ cs.toArray e' (0, 0) hb]; simpa using h5 j q hj) m h0 hm9 (by omega) hs9
        rw [hzc, V1, V1] at hrg
        refine ⟨_, _, _, hrg, ?_, .inr (.inr ⟨_, rfl, rfl⟩)⟩
        exact made _ _ rfl hge hcm h4
section append
variable {C : Cx} {l : Env} {M J : Mem} {K : Env → Mem → Mem → Prop} {d : Nat} {ty : TypeId} {pos : String} {af : Array Edge} {g : Option (Nat × Bool)} {x y : Operand}
theorem B1g {t ti e : TypeId} {k : IntKind} {n m : Nat} {v z0 : Value} {xs : List Value} {B M0 : Mem} (hx : ev l x = some v) (hy : ev l y = some (.int .i64 (m : Int))) (ht : A2a C.P t = some (e, 1, 1)) (hti : C.P.underlying ti = some (.int k)) (hzr : ((C.P.info? e).bind (·.zero)).map (·.cells) = some #[z0]) (h1c : z0.oneCell' = true)
    (hs : Sl 1 v n xs B) (hM : M.Perm (B ++ M0)) (hm9 : m ≤ 1000000) (hs9 : n ≤ 1000000000) (hd : Nat.blt d C.N = true)
    (kk : ∀ v' B', Sl 1 v' (n + m) (xs ++ List.replicate m z0) B' → K ((d, v') :: l) (B' ++ M0) J) :
    OpL C ⟨some d, .call { callee := .builtin .append, args := #[x, y], argTypes := #[t, ti] }, ty, pos, af, g⟩ l M J K := by
  intro Qp a w ha hw
  obtain ⟨v', w', B', hrun, hsl, hcase⟩ := A6Z (P := C.P) (ty := ty) (R := M ++ (J ++ C.A)) ht hti hzr h1c hs (fun q hq => by have := hM.mem_iff.2 (List.mem_append_left M0 hq); simp [this]) hw.fx hm9 hs9
  have hexec : (execOp a.eval ⟨some d, .call { callee := .builtin .append, args := #[x, y], argTypes := #[t, ti] }, ty, pos, af, g⟩).run C.P w = .ok (.value v') w' := by
    simp [execOp, resolve, invoke, builtin, ha.ev hx, ha.ev hy, hrun]
  unfold Oper.wp
  rw [hexec]
  refine ⟨_, B' ++ M0, J, ha.put (C5 hd) v', ?_, kk v' B' hsl⟩
  rcases hcase with ⟨rfl, rfl⟩ | ⟨b, cs, cs', e', rfl, rfl, rfl⟩ | ⟨o', rfl, rfl⟩
  · exact hw.perm hM
  · exact (hw.perm hM).setRow (M' := [(b, blk cs' e')] ++ M0) Upd.hd
  · have h2 : St C ((w.heap.size, o') :: M) J (w.drew.alloc o') := St.alloc (w := w.drew) hw.drew o'
    have h3 := h2.perm (M' := (w.heap.size, o') :: (B ++ M0)) (List.Perm.cons _ hM)
    exact h3.drop (List.Sublist.cons_cons _ (List.sublist_append_right B M0)) (fun _ h => h)
end append
end Go.Px

namespace Go.Proofs.YtlilcmjbaknafaaGreatDoor
open Go.Px
def A8O (p : List Nat) : List Nat := p ++ List.replicate ((16 - p.length % 16) % 16) 0
theorem A7X (p : List Nat) : (A8O p).length = p.length + (16 - p.length % 16) % 16 := by simp [A8O]
theorem B8i (v : Value) (p : List Nat) (B A : Mem) (hs : Sl 1 v p.length (nums .u8 p) B) (hl : p.length ≤ 100000000) : FnX Tryz.prog 95 [v] B A fun q M J => Sl 1 q (A8O p).length (nums .u8 (A8O p)) M := by
 haveI := hs.cel
 refine FnX.enterZ (N := 10) Tryz.func95 rfl rfl rfl fun w_ => ?_
 refine B0 (D7 0) (A1 (as_ (A0 (D7 0) (A1 (mv_ (mv_ ?_))))))
 refine A2 (G3 (sz := 1) rfl kR (hs.rd (R := B) fun _ h => h)) rfl ?_
 refine A2 (R6 (a := p.length) (b := 16) rfl rfl rfl rfl (by decide)) rfl ?_
 refine A2 (C8 ((16 - p.length % 16 : Nat) : Int) rfl rfl (A0i (by omega) (by omega) (by omega))) rfl ?_
 refine A2 (R6 (a := 16 - p.length % 16) (b := 16) rfl rfl rfl rfl (by decide)) rfl ?_
 refine A4 rfl (B1g (e := 5) (k := .i64) (z0 := .int .u8 0) rfl rfl kR kR kR rfl hs PickC.perm (by omega) (by omega) rfl ?_)
 intro v9 B9 hs9
 haveI := hs9.cel
 refine as_ (A0 (D7 2) (B4 ?_))
 exact ⟨_, B9, [], I7 rfl rfl, Fit.none (Fit.last PickC.perm), W6 hs9 (by rw [A7X]) (by simp [A8O, nums])⟩
theorem B4B (v : Value) (w : List Nat) (n : Nat) (A : Mem) (hv : By A v w) (hn : n ≤ 16777216) : FnX Tryz.prog 96 [v, .int .i64 (n : Int)] [] A fun q M J => Sl 1 q n (nums .u8 (G2 w n)) M := by
 haveI := hv.cel
 have hvl := hv.len
 refine FnX.enterZ (N := 12) Tryz.func96 rfl rfl rfl fun w_ => ?_
 refine B0 (D3 0 1) (A1 (as_ (A0 (D3 0 1) (A1 (mv_ ?_)))))
 refine A4 rfl (A0o (by_ := 1) (k := .u8) (e := 5) n rfl rfl kR rfl rfl (by omega) (by omega) rfl fun b7 => ?_)
 refine as_ (A0 (D3 0 5) (A1 (mv_ (mv_ ?_))))
 refine A4 rfl (A3j (e := 5) (us := w) (ws := List.replicate n 0) (ws' := G2 w n) (by_ := 1) rfl rfl kR (hv.rd.mono SubC.sub) (by simp) (by simp [G2]) UpC.upd rfl ?_)
 refine A0 (D7 5) (A1 (mv_ (as_ (A0 (D7 4) (B4 ?_)))))
 refine ⟨_, [(b7, blk (nums .u8 (G2 w n)) 5)], [], I7 rfl rfl, Fit.eq (by simp), ?_⟩
 exact .inr ⟨b7, 0, n, _, _, rfl, rfl, Nat.le_refl _, by unfold maxLen; omega, by simp [nums, K2], by simp [nums, K2], fun j u h => by rwa [Nat.zero_add]⟩

def clA (r : List Nat) : Nat → List Nat
  | 0 => r
  | i + 1 => (clA r i).set (4 * i + 3) ((clA r i).getD (4 * i + 3) 0 &&& 15)
def clB (r : List Nat) : Nat → List Nat
  | 0 => r
  | i + 1 => (clB r i).set (4 * i + 4) ((clB r i).getD (4 * i + 4) 0 &&& 252)
def adS (l x : List Nat) : Nat → List Nat
  | 0 => l
  | i + 1 => (adS l x i).set i (((adS l x i).getD i 0 + x.getD i 0) % 18446744073709551616)
def tgN (by_ : List Nat) : Nat → List Nat → List Nat → List Nat
  | 0, l, _ => l
  | f + 1, l, p => if p.length = 0 then l else tgN by_ f (A35 (adS l (ptN (p.take 16 ++ [1])) 5) by_) (p.drop 16)
def B6q (K p : List Nat) : List Nat := B8H (tgN (ptN (clB (clA (G2 K 16) 4) 3)) p.length [0, 0, 0, 0, 0] p) (K.drop 16)
theorem A5s (by_ : List Nat) : ∀ (f : Nat) (l p : List Nat), p.length ≤ f → tgN by_ f l p = tgN by_ p.length l p
  | 0, l, p, h => by rw [show p.length = 0 by omega]
  | f + 1, l, p, h => by
    by_cases h0 : p.length = 0
    · rw [h0]; show (if p.length = 0 then l else _) = _; rw [if_pos h0]; rfl
    · have hd : (p.drop 16).length ≤ f := by rw [List.length_drop]; omega
      obtain ⟨m, hm⟩ : ∃ m, p.length = m + 1 := ⟨p.length - 1, by omega⟩
      have hd2 : (p.drop 16).length ≤ m := by rw [List.length_drop]; omega
      have e1 : tgN by_ (f + 1) l p = tgN by_ f (A35 (adS l (ptN (p.take 16 ++ [1])) 5) by_) (p.drop 16) := if_neg h0
      have e2 : tgN by_ (m + 1) l p = tgN by_ m (A35 (adS l (ptN (p.take 16 ++ [1])) 5) by_) (p.drop 16) := if_neg h0
      rw [e1, hm, e2, A5s by_ f _ _ hd, A5s by_ m _ _ hd2]
theorem B3F (by_ l p : List Nat) (h0 : ¬ p.length = 0) : tgN by_ p.length l p = tgN by_ (p.drop 16).length (A35 (adS l (ptN (p.take 16 ++ [1])) 5) by_) (p.drop 16) := by
  obtain ⟨m, hm⟩ : ∃ m, p.length = m + 1 := ⟨p.length - 1, by omega⟩
  have e2 : tgN by_ (m + 1) l p = tgN by_ m (A35 (adS l (ptN (p.take 16 ++ [1])) 5) by_) (p.drop 16) := if_neg h0
  rw [hm, e2, A5s by_ m _ _ (by rw [List.length_drop]; omega)]
theorem B6r (by_ l p : List Nat) (h0 : p.length = 0) : tgN by_ p.length l p = l := by rw [h0]; rfl
theorem B1h (r : List Nat) : ∀ i, (clA r i).length = r.length
  | 0 => rfl
  | i + 1 => by show ((clA r i).set _ _).length = _; rw [List.length_set, B1h r i]
theorem B1i (r : List Nat) : ∀ i, (clB r i).length = r.length
  | 0 => rfl
  | i + 1 => by show ((clB r i).set _ _).length = _; rw [List.length_set, B1i r i]
theorem and8 {x k : Nat} (h : x < 256) : x &&& k < 256 := Nat.lt_of_le_of_lt Nat.and_le_left h
theorem set8 {l : List Nat} (h : ∀ x ∈ l, x < 256) (i x : Nat) (hx : x < 256) : ∀ y ∈ l.set i x, y < 256 := fun y hy => by rcases List.mem_or_eq_of_mem_set hy with h1 | rfl; exact h y h1; exact hx
theorem B1j {r : List Nat} (h : ∀ x ∈ r, x < 256) : ∀ i, ∀ x ∈ clA r i, x < 256
  | 0 => h
  | i + 1 => set8 (B1j h i) _ _ (and8 (A0L (B1j h i) _))
theorem B1k {r : List Nat} (h : ∀ x ∈ r, x < 256) : ∀ i, ∀ x ∈ clB r i, x < 256
  | 0 => h
  | i + 1 => set8 (B1k h i) _ _ (and8 (A0L (B1k h i) _))
theorem B4C {l : List Nat} (h : L5 l) (x : List Nat) : ∀ i, L5 (adS l x i)
  | 0 => h
  | i + 1 => (B4C h x i).set _ _ (Nat.mod_lt _ (by decide))
theorem B8j (v : Value) (w : List Nat) (n : Nat) (A : Mem) (hv : By A v w) (hn : n ≤ 16777216) : FnX Tryz.prog 96 [v, .int .i64 (n : Int)] [] A fun q M J => ∃ b, q = .slice (some ⟨b, 0, none⟩) n n ∧ M = [(b, blk (nums .u8 (G2 w n)) 5)] ∧ J = [] := by
 haveI := hv.cel
 have hvl := hv.len
 refine FnX.enterZ (N := 12) Tryz.func96 rfl rfl rfl fun w_ => ?_
 refine B0 (D3 0 1) (A1 (as_ (A0 (D3 0 1) (A1 (mv_ ?_)))))
 refine A4 rfl (A0o (by_ := 1) (k := .u8) (e := 5) n rfl rfl kR rfl rfl (by omega) (by omega) rfl fun b7 => ?_)
 refine as_ (A0 (D3 0 5) (A1 (mv_ (mv_ ?_))))
 refine A4 rfl (A3j (e := 5) (us := w) (ws := List.replicate n 0) (ws' := G2 w n) (by_ := 1) rfl rfl kR (hv.rd.mono SubC.sub) (by simp) (by simp [G2]) UpC.upd rfl ?_)
 refine A0 (D7 5) (A1 (mv_ (as_ (A0 (D7 4) (B4 ?_)))))
 exact ⟨_, [(b7, blk (nums .u8 (G2 w n)) 5)], [], I7 rfl rfl, Fit.eq (by simp), b7, rfl, rfl, rfl⟩

theorem B9D (q : List Nat) {m : Nat} (h : min 16 q.length = m) : G2 q m = q.take 16 ∧ q.drop m = q.drop 16 ∧ (q.take 16).length = m := by
  refine ⟨?_, ?_, by rw [List.length_take]; exact h⟩
  · unfold G2
    rw [show m - q.length = 0 by omega, List.replicate_zero, List.append_nil]
    by_cases h1 : 16 ≤ q.length
    · rw [show m = 16 by omega]
    · rw [show m = q.length by omega, List.take_length, List.take_of_length_le (by omega)]
  · by_cases h1 : 16 ≤ q.length
    · rw [show m = 16 by omega]
    · rw [show m = q.length by omega, List.drop_length, List.drop_of_length_le (by omega)]
set_option maxHeartbeats 1000000 in
theorem B8k (v vp : Value) (kw p : List Nat) (A : Mem) (hk : By A v kw) (hp : By A vp p) : FnX Tryz.prog 97 [v, vp] [] A fun q M J => M = [] ∧ By J q (B6q (G2 kw 32) p) := by
 haveI := hk.cel
 haveI := hp.cel
 refine FnX.enterZ (N := 80) Tryz.func97 rfl rfl rfl fun w_ => ?_
 refine B0 (D3 0 1) (A1 (as_ (A0 (D3 0 1) (A1 (mv_ ?_)))))
 refine C6 (aS rfl (aS rfl a0)) kR (A3J v kw 32 _ (hk.mono SubC.sub) (by decide)) rfl ?_
 rintro v16 M16 J16 ⟨rfl, h16⟩
 haveI := h16.cel
 have hkl := K2 kw 32
 generalize G2 kw 32 = K at *
 have hfl := K2 K 16
 have hflt := A0Z h16.lt 16
 refine as_ (A0 (D3 0 1) (A1 (mv_ ?_)))
 refine C6 (aS rfl (aS rfl a0)) kR (B8j v16 K 16 _ (h16.mono SubC.sub) (by decide)) rfl ?_
 rintro v18 M18 J18 ⟨b18, rfl, rfl, rfl⟩
 refine as_ (A0 (D4 0 1 5) (A3 (A1 ?_)))
 refine A4 rfl (C3 (e := 3) (sz := 1) (z := [A7a, A7a, A7a, A7a]) kR (eS rfl (eS rfl (eS rfl (eS rfl e0)))) (bdS 0 1 rfl (by rfl) (bdS 1 1 rfl (by rfl) (bdS 2 1 rfl (by rfl) (bdS 3 1 rfl (by rfl) bd0)))) rfl fun b19 => ?_)
 refine A2 (A1j (e := 3) rfl kR) rfl ?_
 refine mv_ (A0 (H9 0 1 5 19 20 21) (A5 ?_))
 refine A0F (B := [(b19, blk [.int .i64 3, .int .i64 7, .int .i64 11, .int .i64 15] 3)]) PickC.perm ?_
 refine D9 (α := Nat) (fun i => [(0, v16), (1, vp), (5, .slice (some ⟨b18, 0, none⟩) 16 16), (19, .slice (some ⟨b19, 0, none⟩) 4 4), (20, .int .i64 4), (21, .int .i64 ((i : Nat) : Int))]) (fun i => [(b18, blk (nums .u8 (clA (G2 K 16) i)) 5)]) (fun _ => _) (fun i => i ≤ 4) (fun i => 4 - i) 0 (Nat.zero_le _) (H9 0 1 5 19 20 21) (Fit.eq rfl) (fun _ h => h) ?_
 rintro i hi
 try dsimp only at hi ⊢
 have hal := B1h (G2 K 16) i
 have halt := B1j hflt i
 refine A1 ?_
 refine A2 (D8 rfl rfl rfl) rfl ?_
 refine A0 (R9 0 1 5 19 20 21 22) (A3 ?_)
 refine C0 rfl (fun hc => ?_) (fun hc => ?_)
 ·
  have hlt : i < 4 := by simp at hc; omega
  refine A6 (nx (H9 0 1 5 19 20 21) (A3 (A5 (A1 ?_))))
  refine A2 (K6 (e := 3) (i := i) (sz := 1) rfl rfl kR kR rfl hlt) rfl ?_
  refine A2 (I9 (v := .int .i64 ((4 * i + 3 : Nat) : Int)) rfl kR At.mem (by rcases (by omega : i = 0 ∨ i = 1 ∨ i = 2 ∨ i = 3) with rfl | rfl | rfl | rfl <;> rfl)) rfl ?_
  refine as_ (A0 (R9 0 1 5 7 19 20 21) (A8 (mv_ (mv_ ?_))))
  refine A2 (K6 (e := 5) (i := 4 * i + 3) (sz := 1) rfl rfl kR kR rfl (by omega)) rfl ?_
  refine A2 (H8 (4 * i + 3) rfl kR At.mem (by omega) (by omega)) rfl ?_
  refine A2 (A3Y (b := 15) rfl rfl rfl (by show _ < 256; exact A0L halt _) (by decide)) rfl ?_
  refine A2 (K6 (e := 5) (i := 4 * i + 3) (sz := 1) rfl rfl kR kR rfl (by omega)) rfl ?_
  refine A4 rfl (I4 (4 * i + 3) rfl rfl kR (by omega) (by omega) UpC.upd ?_)
  refine C1 (nb (nx (H9 0 1 5 19 20 21) (A8 ?_)))
  refine A2 (C8 ((i + 1 : Nat) : Int) rfl rfl (E2 (by omega) (by omega) (by omega))) rfl ?_
  refine mv_ (C1 ?_)
  exact rn (i + 1) (by omega) (by omega) (H9 0 1 5 19 20 21) (Fit.eq rfl) (fun _ h => h)
 ·
  obtain rfl : i = 4 := by simp at hc; omega
  refine D2 (te (re (be rfl (nx (D4 0 1 5) (A3 (A1 ?_))))))
  refine A4 rfl (C3 (e := 3) (sz := 1) (z := [A7a, A7a, A7a]) kR (eS rfl (eS rfl (eS rfl e0))) (bdS 0 1 rfl (by rfl) (bdS 1 1 rfl (by rfl) (bdS 2 1 rfl (by rfl) bd0))) rfl fun b32 => ?_)
  refine A2 (A1j (e := 3) rfl kR) rfl ?_
  refine mv_ (A0 (H9 0 1 5 32 33 34) (A5 ?_))
  refine A0F (B := [(b32, blk [.int .i64 4, .int .i64 8, .int .i64 12] 3)]) PickC.perm ?_
  refine D9 (α := Nat) (fun i => [(0, v16), (1, vp), (5, .slice (some ⟨b18, 0, none⟩) 16 16), (32, .slice (some ⟨b32, 0, none⟩) 3 3), (33, .int .i64 3), (34, .int .i64 ((i : Nat) : Int))]) (fun i => [(b18, blk (nums .u8 (clB (clA (G2 K 16) 4) i)) 5)]) (fun _ => _) (fun i => i ≤ 3) (fun i => 3 - i) 0 (Nat.zero_le _) (H9 0 1 5 32 33 34) (Fit.eq rfl) (fun _ h => h) ?_
  rintro i hi2
  try dsimp only at hi2 ⊢
  have hbl := B1i (clA (G2 K 16) 4) i
  have hblt := B1k halt i
  refine A1 ?_
  refine A2 (D8 rfl rfl rfl) rfl ?_
  refine A0 (R9 0 1 5 32 33 34 35) (A3 ?_)
  refine C0 rfl (fun hc => ?_) (fun hc => ?_)
  ·
   have hlt : i < 3 := by simp at hc; omega
   refine A6 (nx (H9 0 1 5 32 33 34) (A3 (A5 (A1 ?_))))
   refine A2 (K6 (e := 3) (i := i) (sz := 1) rfl rfl kR kR rfl hlt) rfl ?_
   refine A2 (I9 (v := .int .i64 ((4 * i + 4 : Nat) : Int)) rfl kR At.mem (by rcases (by omega : i = 0 ∨ i = 1 ∨ i = 2) with rfl | rfl | rfl <;> rfl)) rfl ?_
   refine as_ (A0 (R9 0 1 5 9 32 33 34) (A8 (mv_ (mv_ ?_))))
   refine A2 (K6 (e := 5) (i := 4 * i + 4) (sz := 1) rfl rfl kR kR rfl (by omega)) rfl ?_
   refine A2 (H8 (4 * i + 4) rfl kR At.mem (by omega) (by omega)) rfl ?_
   refine A2 (A3Y (b := 252) rfl rfl rfl (by show _ < 256; exact A0L hblt _) (by decide)) rfl ?_
   refine A2 (K6 (e := 5) (i := 4 * i + 4) (sz := 1) rfl rfl kR kR rfl (by omega)) rfl ?_
   refine A4 rfl (I4 (4 * i + 4) rfl rfl kR (by omega) (by omega) UpC.upd ?_)
   refine C1 (nb (nx (H9 0 1 5 32 33 34) (A8 ?_)))
   refine A2 (C8 ((i + 1 : Nat) : Int) rfl rfl (E2 (by omega) (by omega) (by omega))) rfl ?_
   refine mv_ (C1 ?_)
   exact rn (i + 1) (by omega) (by omega) (H9 0 1 5 32 33 34) (Fit.eq rfl) (fun _ h => h)
  ·
   obtain rfl : i = 3 := by simp at hc; omega
   refine D2 (te (re (be rfl (nx (D4 0 1 5) ?_))))
   refine A0F (B := [(b18, blk (nums .u8 (clB (clA (G2 K 16) 4) 3)) 5)]) PickC.perm ?_
   unfold B6q
   obtain ⟨R, hRe⟩ : ∃ z, clB (clA (G2 K 16) 4) 3 = z := ⟨_, rfl⟩
   rw [hRe] at hbl hblt ⊢
   have hRl : R.length = 16 := by omega
   have hrB : By [(b18, blk (nums .u8 R) 5)] (.slice (some ⟨b18, 0, none⟩) 16 16) R := ⟨by rw [hRl]; exact Rd.whole (n := 16) List.mem_cons_self (by simp [nums, hRl]), hblt, by omega⟩
   refine A1 (mv_ ?_)
   refine F3 (aS rfl a0) kR (B1d (.slice (some ⟨b18, 0, none⟩) 16 16) R _ (hrB.mono SubC.sub) (by omega)) rfl ?_
   refine A4 rfl (C4 (cs := [E3, E3, E3, E3, E3]) kR rfl fun b10 => ?_)
   refine A4 rfl (A9 (vs := nums .u64 (ptN R)) rfl rfl rfl (by rw [nums_len, (A15 R).len]; kernel_rfl) (by rw [nums_len, (A15 R).len]; rfl) E7 UpC.upd ?_)
   refine A0 (D4 0 1 10) (A1 ?_)
   refine A4 rfl (C4 (cs := [E3, E3, E3, E3, E3]) kR rfl fun b11 => ?_)
   refine A0 (D6 0 1 10 11) (A3 (A5 ?_))
   refine D9 (α := Value × List Nat × List Nat) (fun y => [(0, v16), (1, y.1), (10, .pointer (some ⟨b10, 0, none⟩)), (11, .pointer (some ⟨b11, 0, none⟩))]) (fun y => [(b11, blk (nums .u64 y.2.2) 152), (b10, blk (nums .u64 (ptN R)) 152)]) (fun _ => _) (fun y => By A y.1 y.2.1 ∧ L5 y.2.2 ∧ tgN (ptN R) y.2.1.length y.2.2 y.2.1 = tgN (ptN R) p.length [0, 0, 0, 0, 0] p) (fun y => y.2.1.length) (vp, p, [0, 0, 0, 0, 0]) ⟨hp, L5.z, rfl⟩ (D6 0 1 10 11) (Fit.eq rfl) (fun _ h => h) ?_
   rintro ⟨u, q, l⟩ ⟨hq, hl5, hT⟩
   dsimp only at hq hl5 hT ⊢
   haveI := hq.cel
   refine A3 (A1 (mv_ ?_))
   refine A2 (G3 (sz := 1) rfl kR hq.rd) rfl ?_
   refine A2 (D8 rfl rfl rfl) rfl ?_
   refine A0 (E5 0 1 10 11 49) ?_
   refine C0 rfl (fun hc => ?_) (fun hc => ?_)
   ·
    have h0 : ¬ q.length = 0 := by simp at hc; omega
    have hql := hq.len
    obtain ⟨m, hm⟩ : ∃ m, min 16 q.length = m := ⟨_, rfl⟩
    obtain ⟨hfm, hdr, htl⟩ := B9D q hm
    obtain ⟨Q, hQe⟩ : ∃ z, q.take 16 ++ [1] = z := ⟨_, rfl⟩
    have hQl : m + 1 = Q.length := by rw [← hQe, List.length_append, htl]; rfl
    have hQt : ∀ x ∈ Q, x < 256 := fun x hx => by rw [← hQe] at hx; rcases List.mem_append.1 hx with h | h; exact hq.lt x (List.mem_of_mem_take h); rw [List.mem_singleton.1 h]; decide
    refine A6 (nx (D6 0 1 10 11) (A5 (A1 (mv_ ?_))))
    refine A2 (G3 (sz := 1) rfl kR hq.rd) rfl ?_
    refine A2 (A4a ((m : Nat) : Int) rfl rfl (by split <;> omega)) rfl ?_
    refine as_ (A0 (E5 0 1 10 11 12) (A3 (A1 (mv_ (mv_ ?_)))))
    refine C6 (aS rfl (aS rfl a0)) kR (B4B u q m _ (hq.mono SubC.sub) (by omega)) rfl ?_
    rintro v55 M55 J55 hs55
    haveI := hs55.cel
    refine A4 rfl (C3 (e := 5) (sz := 1) (z := [.int .u8 0]) kR (eS rfl e0) (bdS 0 1 rfl (by rfl) bd0) rfl fun b56 => ?_)
    refine A4 rfl (H5 (e := 5) (sz := 1) (by_ := 1) rfl rfl kR rfl hs55 (Rd.whole (n := 1) (cs := nums .u8 [1]) At.mem (by rfl)) E7 PickC.perm (by unfold maxLen; omega) (by omega) rfl fun v57 B57 hs57 => ?_)
    haveI := hs57.cel
    have hby : By B57 v57 Q := ⟨A0H (hs57.rd fun _ h => h) (by rw [hQl]) (by rw [hfm, ← H6, hQe]), hQt, by omega⟩
    refine F3 (aS rfl a0) kR (B1d v57 Q _ (hby.mono SubC.sub) (by omega)) rfl ?_
    refine mv_ (A0 (R9 0 1 10 11 12 58 59) (A5 ?_))
    refine D9 (α := Nat) (fun k => [(0, v16), (1, u), (10, .pointer (some ⟨b10, 0, none⟩)), (11, .pointer (some ⟨b11, 0, none⟩)), (12, .int .i64 ((m : Nat) : Int)), (58, .agg (nums .u64 (ptN Q)).toArray), (59, .int .i64 ((k : Nat) : Int))]) (fun k => [(b11, blk (nums .u64 (adS l (ptN Q) k)) 152), (b10, blk (nums .u64 (ptN R)) 152)]) (fun _ => _) (fun k => k ≤ 5) (fun k => 5 - k) 0 (Nat.zero_le _) (R9 0 1 10 11 12 58 59) (Fit.pick (B := [(b11, blk (nums .u64 l) 152)]) PickC.perm (Fit.pick (B := [(b10, blk (nums .u64 (ptN R)) 152)]) PickC.perm (Fit.sub (List.nil_sublist _)))) (fun _ h => h) ?_
    rintro k hk5
    try dsimp only at hk5 ⊢
    have hok := B4C hl5 (ptN Q) k
    refine A1 ?_
    refine A2 (D8 rfl rfl rfl) rfl ?_
    refine A0 (V7 0 1 10 11 12 58 59 60) (A3 ?_)
    refine C0 rfl (fun hc => ?_) (fun hc => ?_)
    ·
     have hlt : k < 5 := by simp at hc; omega
     refine A6 (nx (R9 0 1 10 11 12 58 59) (A3 (A5 (A1 (mv_ ?_)))))
     refine A2 (A4L (m := 5) (e := 94) (j := k) (cs := nums .u64 (ptN Q)) (u := .int .u64 (((ptN Q).getD k 0 : Nat) : Int)) rfl rfl kR kR kR rfl (by omega) (A0a (by rw [(A15 Q).len]; omega))) rfl ?_
     refine as_ (as_ (A0 (Z9 0 1 10 11 12 13 14 58 59) (A8 (mv_ ?_))))
     refine A2 (C9 (e := 94) (n := 5) (sz := 1) (i := k) (k) rfl rfl kR kR rfl (by omega) (by omega)) rfl ?_
     refine A2 (H8 (k) rfl kR At.mem rfl (by rw [hok.len]; omega)) rfl ?_
     refine mv_ ?_
     refine A2 (F1 18446744073709551616 rfl rfl rfl rfl rfl rfl) rfl ?_
     refine A2 (C9 (e := 94) (n := 5) (sz := 1) (i := k) (k) rfl rfl kR kR rfl (by omega) (by omega)) rfl ?_
     refine A4 rfl (I4 (k) rfl rfl kR rfl (by rw [hok.len]; omega) UpC.upd ?_)
     refine C1 (nb (nx (R9 0 1 10 11 12 58 59) (A8 ?_)))
     refine A2 (C8 ((k + 1 : Nat) : Int) rfl rfl (E2 (by omega) (by omega) (by omega))) rfl ?_
     refine mv_ (C1 ?_)
     exact rn (k + 1) hlt (by omega) (R9 0 1 10 11 12 58 59) (Fit.eq rfl) (fun _ h => h)
    ·
     obtain rfl : k = 5 := by simp at hc; omega
     refine D2 (te (re (be rfl (nx (E5 0 1 10 11 12) (A1 ?_)))))
     refine A2 (L2 (n := 5) (cs := nums .u64 (adS l (ptN Q) 5)) rfl kR At.mem (by rw [nums_len]; exact hok.len)) rfl ?_
     refine A2 (L2 (n := 5) (cs := nums .u64 (ptN R)) rfl kR At.mem (by rw [nums_len]; exact (A15 R).len)) rfl ?_
     refine F3 (aS rfl (aS rfl a0)) kR (B6p (adS l (ptN Q) 5) (ptN R) _ hok (A15 R)) rfl ?_
     refine A4 rfl (A9 (vs := nums .u64 (A35 (adS l (ptN Q) 5) (ptN R))) rfl rfl rfl (by rw [nums_len, (A1c _ _).len]; kernel_rfl) (by rw [nums_len, nums_len, (A1c _ _).len, hok.len]) E7 UpC.upd ?_)
     refine A0 (E5 0 1 10 11 12) (A8 (mv_ (mv_ ?_)))
     refine A2 (A3d (sz := 1) (a := m) rfl rfl kR rfl hq.rd (by omega)) rfl ?_
     have h75 := hq.lo m (by omega)
     haveI := h75.cel
     have hst := B3F (ptN R) l q h0
     have hS := A1c (adS l (ptN Q) 5) (ptN R)
     rw [hQe, ← hdr] at hst
     generalize A35 (adS l (ptN Q) 5) (ptN R) = S at *
     have hst2 := hst.symm.trans hT
     refine as_ (C1 (nb ?_))
     exact rn (vLo m 1 u, q.drop m, S) ⟨h75, hS, hst2⟩ (by dsimp only; rw [List.length_drop]; omega) (D6 0 1 10 11) (Fit.eq rfl) (fun _ h => List.mem_append_right _ h)
   ·
    have h0 : q.length = 0 := by have h := of_decide_eq_false hc; omega
    rw [B6r _ _ _ h0] at hT
    rw [← hT]
    refine D2 (te (re (be rfl (nx (D3 0 11) ?_))))
    refine C7 [0, 1, 2, 3, 4] (zp 0 [1, 0, 0, 2, 0]) kR kR fun hs => ?_
    refine G4 hs rfl (L2 (n := 5) (cs := nums .u64 l) rfl kR At.mem (by rw [nums_len]; exact hl5.len)) rfl ?_
    refine fm_ hs ?_
    refine C2 hs rfl (A3d (sz := 1) (a := 16) rfl rfl kR rfl h16.rd (by omega)) rfl ?_
    have h78 := h16.lo 16 (by omega)
    haveI := h78.cel
    refine N6 rfl (aS rfl (aS rfl a0)) kR (B9C l (K.drop 16) _ _ hl5 (h78.mono SubC.sub) (by rw [List.length_drop]; omega)) rfl ?_
    rintro v79 M79 J79 ⟨rfl, h79⟩
    haveI := h79.cel
    refine fa_ hs ?_
    refine E4 (D7 4) (B4 ?_)
    exact ⟨_, [], [], I7 rfl rfl, Fit.sub (List.nil_sublist _), rfl, h79.mono SubC.sub⟩

end Go.Proofs.YtlilcmjbaknafaaGreatDoor
