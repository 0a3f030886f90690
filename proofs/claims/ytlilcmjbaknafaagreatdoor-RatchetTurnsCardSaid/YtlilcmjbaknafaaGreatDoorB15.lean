/- Part 15 of the texts of this claim, one behind the other. -/
import Derived.Test.YtlilcmjbaknafaaGreatDoorB14
set_option linter.unusedVariables false
set_option linter.unusedSimpArgs false
set_option maxRecDepth 100000
namespace Go.Proofs.YtlilcmjbaknafaaGreatDoor
open Go.Px
def em1 (S : LN) (i : Nat) : LN := S.set (i + 1) ((S.getD (i + 1) 0 + S.getD i 0 >>> 26) % 18446744073709551616)
def emS (a : LN) : Nat → LN
  | 0 => a.set 0 ((a.getD 0 0 + 5) % 18446744073709551616)
  | i + 1 => (em1 (emS a i) i).set i ((em1 (emS a i) i).getD i 0 &&& 67108863)
def enF (a : LN) : LN := if 0 < (emS a 4).getD 4 0 >>> 26 then (emS a 4).set 4 ((emS a 4).getD 4 0 &&& 67108863) else a
def exN (f : LN) (i : Nat) : Nat := if 8 * i / 26 < 4 then f.getD (8 * i / 26) 0 >>> (8 * i % 26) ||| f.getD (8 * i / 26 + 1) 0 <<< (26 - 8 * i % 26) % 18446744073709551616 else f.getD (8 * i / 26) 0 >>> (8 * i % 26)
def ecN (f o : LN) (c i : Nat) : Nat := (c + ((exN f i &&& 255) + o.getD i 0) % 18446744073709551616) % 18446744073709551616
def eoS (f o : LN) : Nat → LN × Nat
  | 0 => (List.replicate 16 0, 0)
  | i + 1 => ((eoS f o i).1.set i (ecN f o (eoS f o i).2 i % 256), ecN f o (eoS f o i).2 i >>> 8)
def B9d (a o : LN) : LN := (eoS (enF (cyN (cyN (cyN a)))) o 16).1
theorem L5.e1 {S : LN} (h : L5 S) (i : Nat) : L5 (em1 S i) := h.set _ _ (Nat.mod_lt _ qD)
theorem B1c {a : LN} (h : L5 a) : ∀ i, L5 (emS a i)
  | 0 => h.set _ _ (Nat.mod_lt _ qD)
  | i + 1 => ((B1c h i).e1 i).set _ _ (B3L _)
theorem B8E {a : LN} (h : L5 a) : L5 (enF a) := by
  unfold enF
  split
  · exact (B1c h 4).set _ _ (B3L _)
  · exact h
theorem A2g (f o : LN) : ∀ i, (eoS f o i).1.length = 16
  | 0 => by simp [eoS]
  | i + 1 => by show ((eoS f o i).1.set _ _).length = _; rw [List.length_set, A2g f o i]
theorem B4P (f o : LN) : ∀ i, ∀ x ∈ (eoS f o i).1, x < 256
  | 0 => fun x hx => by rw [show (eoS f o 0).1 = List.replicate 16 0 from rfl] at hx; rw [(List.mem_replicate.1 hx).2]; decide
  | i + 1 => fun x hx => by
    rcases List.mem_or_eq_of_mem_set hx with h1 | rfl
    · exact B4P f o i x h1
    · exact Nat.mod_lt _ qD
theorem B3N (a o : LN) : (B9d a o).length = 16 := A2g _ _ _
theorem B97 (a o : LN) (v : Value) (A : Mem) (ha : L5 a) (ho : By A v o) (hol : o.length = 16) : FnX Tryz.prog 116 [.agg (nums .u64 a).toArray, v] [] A fun q M J => M = [] ∧ By J q (B9d a o) := by
 haveI := ho.cel
 refine FnX.enterZ (N := 97) Tryz.func116 rfl rfl rfl fun w_ => ?_
 refine B0 (D2 0 1) (A1 ?_)
 refine A5 rfl (bx_ fun b2 => ?_)
 refine as_ (A0 (D2 1 2) (A1 ?_))
 refine A2 (L2 (n := 5) (cs := nums .u64 a) rfl kR At.mem (by rw [nums_len]; exact ha.len)) rfl ?_
 refine F1 (aS rfl a0) kR (A3I a _ ha) rfl ?_
 refine F1 (aS rfl a0) kR (A3I (cyN a) _ (U2 ha)) rfl ?_
 refine F1 (aS rfl a0) kR (A3I (cyN (cyN a)) _ (U2 (U2 ha))) rfl ?_
 refine A5 rfl (A9 (vs := nums .u64 (cyN (cyN (cyN a)))) rfl rfl rfl (by rw [nums_len, (U2 (U2 (U2 ha))).len]; kernel_rfl) (by rw [nums_len, nums_len, ha.len, (U2 (U2 (U2 ha))).len]) E5 UpC.upd ?_)
 refine A0 (D2 1 2) ?_
 unfold B9d
 obtain ⟨e, he⟩ : ∃ z, cyN (cyN (cyN a)) = z := ⟨_, rfl⟩
 have hok := U2 (U2 (U2 ha))
 rw [he] at hok ⊢
 refine A1 ?_
 refine A2 (L2 (n := 5) (cs := nums .u64 e) rfl kR At.mem (by rw [nums_len]; exact hok.len)) rfl ?_
 refine A5 rfl (C4 (cs := [E3, E3, E3, E3, E3]) kR rfl fun b5 => ?_)
 refine A5 rfl (A9 (vs := nums .u64 e) rfl rfl rfl (by rw [nums_len, hok.len]; kernel_rfl) (by rw [nums_len, hok.len]; rfl) E5 UpC.upd ?_)
 refine A0 (D6 1 2 5) (A1 ?_)
 refine A2 (D1 (e := 94) (n := 5) (sz := 1) (i := 0) (0) rfl rfl kR kR rfl qO qO) rfl ?_
 refine A2 (H9 (0) rfl kR At.mem rfl (by rw [hok.len]; omega)) rfl ?_
 refine A2 (F2 18446744073709551616 (b := 5) rfl rfl rfl rfl rfl rfl) rfl ?_
 refine A2 (D1 (e := 94) (n := 5) (sz := 1) (i := 0) (0) rfl rfl kR kR rfl qO qO) rfl ?_
 refine A5 rfl (I7 (0) rfl rfl kR rfl (by rw [hok.len]; omega) UpC.upd ?_)
 refine A0 (D6 1 2 5) (A3 (A1 (mv_ (A0 (D8 1 2 5 21) (A4 ?_)))))
 refine D3 (α := Nat) (fun i => [(1, v), (2, (vP b2)), (5, (vP b5)), (21, (vI i))]) (fun i => [(b5, blk (nums .u64 (emS e i)) 152), (b2, blk (nums .u64 e) 152)]) (fun _ => _) (fun i => i ≤ 4) (fun i => 4 - i) 0 (Nat.zero_le _) (D8 1 2 5 21) (Fit.eq rfl) qI ?_
 rintro i hi
 try dsimp only at hi ⊢
 have hm := B1c hok i
 have hm1 := hm.e1 i
 refine A1 ?_
 refine A2 (D4 rfl rfl rfl) rfl ?_
 refine A0 (E4 1 2 5 21 22) (A3 ?_)
 refine C1 rfl ?_ ?_ <;> intro hc
 ·
  have hlt : i < 4 := by simp at hc; omega
  refine A6 (nx (D8 1 2 5 21) (A3 (A4 (A1 (mv_ (as_ (A0 (E4 1 2 5 6 21) ?_)))))))
  refine C9 (.range 10) (zp 0 [0, 0, 0, 1, 0, 0, 1, 0, 0, 0, 2]) kR kR fun hs => ?_
  refine fm_ hs ?_
  refine C2 hs rfl (C7 ((i + 1 : Nat) : Int) rfl rfl (E1 qO qO qO)) rfl ?_
  refine C2 hs rfl (D1 (e := 94) (n := 5) (sz := 1) (i := i + 1) (i + 1) rfl rfl kR kR rfl qO qO) rfl ?_
  refine G4 hs rfl (H9 (i + 1) rfl kR At.mem rfl (by rw [hm.len]; omega)) rfl ?_
  refine fm_ hs ?_
  refine C2 hs rfl (D1 (e := 94) (n := 5) (sz := 1) (i := i) (i) rfl rfl kR kR rfl qO qO) rfl ?_
  refine G4 hs rfl (H9 (i) rfl kR At.mem rfl (by rw [hm.len]; omega)) rfl ?_
  refine C2 hs rfl (Q5 26 rfl rfl rfl qD) rfl ?_
  refine C2 hs rfl (F2 18446744073709551616 rfl rfl rfl rfl rfl rfl) rfl ?_
  refine C2 hs rfl (D1 (e := 94) (n := 5) (sz := 1) (i := i + 1) (i + 1) rfl rfl kR kR rfl qO qO) rfl ?_
  refine F5 rfl rfl rfl (I7 (i + 1) rfl rfl kR rfl (by rw [hm.len]; omega) UpC.upd ?_)
  refine E7 (E4 1 2 5 6 21) (A7 (mv_ ?_))
  refine A2 (D1 (e := 94) (n := 5) (sz := 1) (i := i) (i) rfl rfl kR kR rfl qO qO) rfl ?_
  refine A2 (H9 (i) rfl kR At.mem rfl (by have h := hm1.len; unfold em1 at h; omega)) rfl ?_
  refine A2 (A3U (b := 67108863) rfl rfl rfl (by show _ < 18446744073709551616; exact hm1.get _) qD) rfl ?_
  refine A2 (D1 (e := 94) (n := 5) (sz := 1) (i := i) (i) rfl rfl kR kR rfl qO qO) rfl ?_
  refine A5 rfl (I7 (i) rfl rfl kR rfl (by have h := hm1.len; unfold em1 at h; omega) UpC.upd ?_)
  refine C0 (nb (nx (D8 1 2 5 21) (A7 ?_)))
  refine A2 (C7 ((i + 1 : Nat) : Int) rfl rfl (E1 qO qO qO)) rfl ?_
  refine mv_ (C0 ?_)
  exact rn (i + 1) qO qO (D8 1 2 5 21) (Fit.eq rfl) qI
 ·
  obtain rfl : i = 4 := by simp at hc; omega
  refine D0 (te (re (be rfl (nx (D6 1 2 5) ?_))))
  refine P4 (α := LN) (fun _ => [(1, v), (2, (vP b2))]) (fun S => [(b5, blk (nums .u64 S) 152), (b2, blk (nums .u64 (enF e)) 152)]) (fun _ => []) (fun _ => True) ?_ ?_
  ·
   refine A1 ?_
   refine A2 (D1 (e := 94) (n := 5) (sz := 1) (i := 4) (4) rfl rfl kR kR rfl qO qO) rfl ?_
   refine A2 (H9 (4) rfl kR At.mem rfl (by rw [hm.len]; omega)) rfl ?_
   refine A2 (Q5 26 rfl rfl rfl qD) rfl ?_
   refine A2 (D4 rfl rfl rfl) rfl ?_
   refine A0 (D8 1 2 5 43) ?_
   refine C1 rfl ?_ ?_ <;> intro hc
   ·
    have h0 : 0 < (emS e 4).getD 4 0 >>> 26 := by have := of_decide_eq_true hc; omega
    refine A1 ?_
    refine A2 (D1 (e := 94) (n := 5) (sz := 1) (i := 4) (4) rfl rfl kR kR rfl qO qO) rfl ?_
    refine A2 (H9 (4) rfl kR At.mem rfl (by rw [hm.len]; omega)) rfl ?_
    refine A2 (A3U (b := 67108863) rfl rfl rfl (by show _ < 18446744073709551616; exact hm.get _) qD) rfl ?_
    refine A2 (D1 (e := 94) (n := 5) (sz := 1) (i := 4) (4) rfl rfl kR kR rfl qO qO) rfl ?_
    refine A5 rfl (I7 (4) rfl rfl kR rfl (by rw [hm.len]; omega) UpC.upd ?_)
    refine A0 (D6 1 2 5) ?_
    have hm2 := hm.set 4 ((emS e 4).getD 4 0 &&& 67108863) (B3L _)
    refine A7 ?_
    refine A2 (L2 (n := 5) (cs := nums .u64 ((emS e 4).set 4 ((emS e 4).getD 4 0 &&& 67108863))) rfl kR At.mem (by rw [nums_len]; exact hm2.len)) rfl ?_
    refine A5 rfl (A9 (vs := nums .u64 ((emS e 4).set 4 ((emS e 4).getD 4 0 &&& 67108863))) rfl rfl rfl (by rw [nums_len, hm2.len]; kernel_rfl) (by rw [nums_len, nums_len, hok.len, hm2.len]) E5 UpC.upd ?_)
    refine C0 ?_
    exact jn ((emS e 4).set 4 ((emS e 4).getD 4 0 &&& 67108863)) trivial (D2 1 2) (Fit.eq (by rw [show enF e = _ from if_pos h0])) qI
   ·
    have h0 : ¬ 0 < (emS e 4).getD 4 0 >>> 26 := by have := of_decide_eq_false hc; omega
    refine A6 ?_
    exact jn (emS e 4) trivial (D2 1 2) (Fit.eq (by rw [show enF e = e from if_neg h0])) qI
  ·
   rintro Sx -
   have hf := B8E hok
   obtain ⟨f, hfe⟩ : ∃ z, enF e = z := ⟨_, rfl⟩
   rw [hfe] at hf ⊢
   refine A1 ?_
   refine A5 rfl (A0r (by_ := 1) (k := .u8) (e := 5) 16 rfl rfl kR rfl rfl qD qD rfl fun b49 => ?_)
   refine as_ (A0 (D6 1 2 7) (A1 (as_ (A0 (D8 1 2 7 8) (A3 (A1 (mv_ ?_)))))))
   refine A2 (A0M (e := 5) rfl kR) rfl ?_
   refine mv_ (A0 (H3 1 2 7 8 51 52) (A4 ?_))
   refine D3 (α := Nat) (fun i => [(1, v), (2, (vP b2)), (7, .slice (some ⟨b49, 0, none⟩) 16 16), (8, .int .u64 (((eoS f o i).2 : Nat) : Int)), (51, .int .i64 16), (52, (vI i))]) (fun i => [(b49, blk (nums .u8 (eoS f o (i)).1) 5), (b2, blk (nums .u64 f) 152)]) (fun _ => []) (fun i => i ≤ 16) (fun i => 16 - i) 0 (Nat.zero_le _) (H3 1 2 7 8 51 52) (Fit.pick (B := [(b49, blk (nums .u8 (List.replicate 16 0)) 5)]) qP (Fit.pick (B := [(b2, blk (nums .u64 f) 152)]) qP qZ)) qI ?_
   rintro i hi
   try dsimp only at hi ⊢
   have hol := A2g f o i
   refine A1 ?_
   refine A2 (D4 rfl rfl rfl) rfl ?_
   refine A0 (N0 1 2 7 8 51 52 53) (A3 ?_)
   refine C1 rfl ?_ ?_ <;> intro hc
   ·
    have hlt : i < 16 := by simp at hc; omega
    have hk5 : 8 * i / 26 < 5 := by omega
    refine A6 (nx (H3 1 2 7 8 51 52) (A3 (A4 (A1 (mv_ (as_ (A0 (N0 1 2 7 8 9 51 52) (A1 ?_))))))))
    refine mv_ ?_
    refine A2 (C7 ((8 * i : Nat) : Int) rfl rfl (A1F qO qO qO)) rfl ?_
    refine A2 (B4g (a := 8 * i) (b := 26) rfl rfl rfl rfl qD qO) rfl ?_
    refine as_ (A0 (T6 1 2 7 8 9 10 51 52) (A1 (mv_ ?_)))
    refine A2 (D1 (e := 94) (n := 5) (sz := 1) (i := 8 * i / 26) (8 * i / 26) rfl rfl kR kR rfl qO qO) rfl ?_
    refine A2 (H9 (8 * i / 26) rfl kR At.mem rfl (by rw [hf.len]; omega)) rfl ?_
    refine mv_ ?_
    refine A2 (C7 ((8 * i : Nat) : Int) rfl rfl (A1F qO qO qO)) rfl ?_
    refine A2 (T8 (a := 8 * i) (b := 26) rfl rfl rfl rfl qD) rfl ?_
    refine A2 (Q5 (8 * i % 26) rfl rfl rfl (by show _ ≤ 64; omega)) rfl ?_
    refine as_ (A0 (Z7 1 2 7 8 9 10 11 51 52) ?_)
    refine P4 (α := Unit) (fun _ => [(1, v), (2, (vP b2)), (7, .slice (some ⟨b49, 0, none⟩) 16 16), (8, .int .u64 (((eoS f o i).2 : Nat) : Int)), (51, .int .i64 16), (52, (vI i)), (9, (vI i)), (11, .int .u64 ((exN f i : Nat) : Int))]) (fun _ => [(b49, blk (nums .u8 (eoS f o (i)).1) 5), (b2, blk (nums .u64 f) 152)]) (fun _ => []) (fun _ => True) ?_ ?_
    ·
     refine A1 (mv_ ?_)
     refine A2 (D4 rfl rfl rfl) rfl ?_
     refine A0 (kq 1 (Z7 2 7 8 9 10 11 51 52 66)) ?_
     refine C1 rfl ?_ ?_ <;> intro hc
     ·
      have h4 : 8 * i / 26 < 4 := by simp at hc; omega
      refine A7 (mv_ (mv_ ?_))
      refine A2 (C7 ((8 * i / 26 + 1 : Nat) : Int) rfl rfl (E1 qO qO qO)) rfl ?_
      refine A2 (D1 (e := 94) (n := 5) (sz := 1) (i := 8 * i / 26 + 1) (8 * i / 26 + 1) rfl rfl kR kR rfl qO qO) rfl ?_
      refine A2 (H9 (8 * i / 26 + 1) rfl kR At.mem rfl (by rw [hf.len]; omega)) rfl ?_
      refine mv_ ?_
      refine A2 (C7 ((8 * i : Nat) : Int) rfl rfl (A1F qO qO qO)) rfl ?_
      refine A2 (T8 (a := 8 * i) (b := 26) rfl rfl rfl rfl qD) rfl ?_
      refine A2 (C7 ((26 - 8 * i % 26 : Nat) : Int) rfl rfl (A0h qO qO qO)) rfl ?_
      refine A2 (A2j rfl (26 - 8 * i % 26) rfl rfl rfl (by show _ ≤ 64; omega)) rfl ?_
      refine A2 (B4b rfl rfl rfl (by show _ < 18446744073709551616; exact B3M (hf.get _) _) (by show _ < 18446744073709551616; exact Nat.mod_lt _ qD)) rfl ?_
      refine as_ (C0 ?_)
      exact jn () trivial (kq 1 (kq 2 (kq 7 (kq 8 (kq 51 (kq 52 (kq 9 (kp 11 (by rw [show exN f i = _ from if_pos h4]; rfl) kn)))))))) (Fit.eq rfl) qI
     ·
      have h4 : ¬ 8 * i / 26 < 4 := by simp at hc; omega
      refine A6 ?_
      exact jn () trivial (kq 1 (kq 2 (kq 7 (kq 8 (kq 51 (kq 52 (kq 9 (kp 11 (by rw [show exN f i = _ from if_neg h4]; rfl) kn)))))))) (Fit.eq rfl) qI
    ·
     rintro _ -
     have hex : exN f i < 18446744073709551616 := by
      unfold exN
      split
      · exact Nat.or_lt_two_pow (n := 64) (B3M (hf.get _) _) (Nat.mod_lt _ qD)
      · exact B3M (hf.get _) _
     refine A1 (mv_ (mv_ ?_))
     refine A2 (A3U (a := exN f i) (b := 255) rfl rfl rfl hex qD) rfl ?_
     refine mv_ (mv_ ?_)
     refine A2 (I5 (sz := 1) (a := i) rfl rfl kR rfl ho.rd qO) rfl ?_
     refine A2 (A0t (k := .u8) rfl kR (ho.rd.mono qS) qO) rfl ?_
     refine A2 (A0Q (k' := .u64) rfl kR (by show _ < 9223372036854775808; have := A0K ho.lt i; omega)) rfl ?_
     refine A2 (F2 18446744073709551616 rfl rfl rfl rfl rfl rfl) rfl ?_
     refine A2 (F2 18446744073709551616 rfl rfl rfl rfl rfl rfl) rfl ?_
     refine as_ (A0 (N0 1 2 7 8 9 51 52) (A1 (mv_ (mv_ (mv_ ?_)))))
     refine A2 (A1m rfl kR) rfl ?_
     refine A2 (K4 (e := 5) (i := i) (sz := 1) rfl rfl kR kR rfl hlt) rfl ?_
     refine A5 rfl (I7 i rfl rfl kR qO qO UpC.upd ?_)
     refine A0 (H3 1 2 7 8 51 52) (A7 (mv_ ?_))
     refine A2 (Q5 8 rfl rfl rfl qD) rfl ?_
     refine as_ (C0 (nb (nx (H3 1 2 7 8 51 52) (A7 ?_))))
     refine A2 (C7 ((i + 1 : Nat) : Int) rfl rfl (E1 qO qO qO)) rfl ?_
     refine mv_ (C0 ?_)
     exact rn (i + 1) qO qO (H3 1 2 7 8 51 52) (Fit.eq rfl) qI
   ·
    obtain rfl : i = 16 := by simp at hc; omega
    refine D0 (te (re (be rfl (nx (D7 7) (A1 (mv_ (as_ (A0 (D7 4) ?_))))))))
    refine B4 ?_
    refine ⟨_, [], [(b49, blk (nums .u8 (eoS f o 16).1) 5)], K9 rfl rfl, Fit.pick (B := [_]) qP qZ, rfl, ⟨?_, B4P f o 16, by rw [A2g]; decide⟩⟩
    rw [A2g]
    exact Rd.whole (n := 16) qK (by simp [nums, A2g])

end Go.Proofs.YtlilcmjbaknafaaGreatDoor
namespace Go.Px
open Go.RowKit
theorem A6n {P : Program} (w : World) (t ti ty e : TypeId) (k : IntKind) (i : TypeInfo) (z : Value) (ht : P.underlying t = some (.slice e)) (hti : P.underlying ti = some (.int k)) (hi : P.info? e = some i) (hz : i.zero = some z) (hsz : i.size = 1) (hby : i.bytes = 1)
    (n : Nat) (h0 : 0 < n) (hn9 : n ≤ 1000000) :
    (Builtin.append_ #[t, ti] ty #[.slice none 0 0, .int .i64 (n : Int)]).run P w =
      .ok (.slice (some ⟨w.heap.size, 0, none⟩) n (grownCap w n 0 e)) (w.drew.alloc (.cells (Builtin.zeroCells z.cells n ++ Builtin.zeroCells z.cells (grownCap w n 0 e - n)) e)) := by
  have hn : n ≠ 0 := by omega
  have hw : IntKind.i64.wrap (n : Int) = (n : Int) := by unfold IntKind.wrap; simp [IntKind.signed, IntKind.bits]; omega
  have h1 : ¬ ((n : Int) < 0) := by omega
  have h2 : ¬ (281474976710656 < (n : Int)) := by omega
  have h63' : ¬ (9223372036854775807 < (n : Int)) := by omega
  have h48' : ¬ (281474976710656 < Builtin.nextslicecap n 0) := by rw [nextslicecap_zero h0]; omega
  simp [Builtin.append_, run_underlying ht, run_underlying hti, sizeOf, typeInfo, zeroValue, hi, hz, hsz, hby, hn, hw, h1, h2, asInt, asIntOf, h63', h48', Question.forced, run_firstCells_none, newRow, grownCap]
theorem A10 {P : Program} (w : World) (t ti ty e : TypeId) (k : IntKind) (i : TypeInfo) (z : Value) (ht : P.underlying t = some (.slice e)) (hti : P.underlying ti = some (.int k)) (hi : P.info? e = some i) (hz : i.zero = some z) (hsz : i.size = 1) (hby : i.bytes = 1)
    (b : Addr) (sLen sCap : Nat) (olds : List Value) (hlo : olds.length = sLen * 1) (holds : ∀ j v, olds[j]? = some v → w.cell? (b.add j) = some v)
    (n : Nat) (h0 : 0 < n) (hn9 : n ≤ 1000000) (hg : sCap < sLen + n) (hs9 : sLen ≤ 1000000000) :
    (Builtin.append_ #[t, ti] ty #[.slice (some b) sLen sCap, .int .i64 (n : Int)]).run P w =
      .ok (.slice (some ⟨w.heap.size, 0, none⟩) (sLen + n) (grownCap w (sLen + n) sCap e)) (w.drew.alloc (.cells (olds.toArray ++ Builtin.zeroCells z.cells n ++ Builtin.zeroCells z.cells (grownCap w (sLen + n) sCap e - (sLen + n))) e)) := by
  have hn0 : n ≠ 0 := by omega
  have hn : ¬ (sLen + n ≤ sCap) := by omega
  have hw : IntKind.i64.wrap (n : Int) = (n : Int) := by unfold IntKind.wrap; simp [IntKind.signed, IntKind.bits]; omega
  have h1 : ¬ ((n : Int) < 0) := by omega
  have h2 : ¬ (281474976710656 < (n : Int)) := by omega
  have h63' : ¬ (9223372036854775807 < ((sLen : Int) + (n : Int))) := by omega
  have hfit : Builtin.nextslicecap (sLen + n) sCap * 1 ≤ 281474976710656 := growslice_fits (by omega) (by omega)
  have h48' : ¬ (281474976710656 < Builtin.nextslicecap (sLen + n) sCap) := by omega
  have hfo := run_firstCells_some (P := P) w.drew 1 sLen b sLen sCap olds hlo (by simpa using holds)
  simp [Builtin.append_, run_underlying ht, run_underlying hti, sizeOf, typeInfo, zeroValue, hi, hz, hsz, hby, hn0, hn, hw, h1, h2, asInt, asIntOf, h63', h48', Question.forced, hfo, newRow, grownCap]
theorem V4 (z0 : Value) (m : Nat) : Builtin.zeroCells #[z0] m = (List.replicate m z0).toArray := by
  unfold Builtin.zeroCells
  apply Array.ext
  · simp
  · intro i h1 h2
    simp [Nat.mod_one]
theorem A5o {P : Program} (w : World) (t ti ty e : TypeId) (k : IntKind) (i : TypeInfo) (z z0 : Value) (ht : P.underlying t = some (.slice e)) (hti : P.underlying ti = some (.int k)) (hi : P.info? e = some i) (hz : i.zero = some z) (hzc : z.cells = #[z0]) (hsz : i.size = 1) (hby : i.bytes = 1)
    (b o sLen sCap n : Nat) (cs : List Value) (e' : TypeId) (hb : w.heap[b]? = some (.cells cs.toArray e' (0, 0))) (h0 : 0 < n) (hn9 : n ≤ 1000000) (hg : sLen + n ≤ sCap) (hfit : o + sLen + n ≤ cs.length) (h1c : z0.oneCell' = true) :
    (Builtin.append_ #[t, ti] ty #[.slice (some ⟨b, o, none⟩) sLen sCap, .int .i64 (n : Int)]).run P w =
      .ok (.slice (some ⟨b, o, none⟩) (sLen + n) sCap) (w.setRow b (cs.take (o + sLen) ++ List.replicate n z0 ++ cs.drop (o + sLen + n)).toArray) := by
  have hn0 : n ≠ 0 := by omega
  have hw : IntKind.i64.wrap (n : Int) = (n : Int) := by unfold IntKind.wrap; simp [IntKind.signed, IntKind.bits]; omega
  have h1 : ¬ ((n : Int) < 0) := by omega
  have h2 : ¬ (281474976710656 < (n : Int)) := by omega
  have hst := run_storeCells_at (P := P) b (o + sLen) e' (List.replicate n z0) 0 cs.toArray w hb (by simpa using hfit) (fun u hu => by rw [(List.mem_replicate.1 hu).2]; exact h1c)
  simp only [Nat.add_zero, List.length_replicate] at hst
  simp [Builtin.append_, run_underlying ht, run_underlying hti, sizeOf, typeInfo, zeroValue, hi, hz, hzc, V4, hsz, hby, hn0, hg, hw, h1, h2, asInt, asIntOf, Addr.add_mid, hst]
theorem A4y {P : Program} (w : World) (t ti ty e : TypeId) (k : IntKind) (i : TypeInfo) (ht : P.underlying t = some (.slice e)) (hti : P.underlying ti = some (.int k)) (hi : P.info? e = some i) (hsz : i.size = 1) (hby : i.bytes = 1) (p : Option Addr) (sLen sCap : Nat) (hg : sLen ≤ sCap) :
    (Builtin.append_ #[t, ti] ty #[.slice p sLen sCap, .int .i64 ((0 : Nat) : Int)]).run P w = .ok (.slice p sLen sCap) w := by
  have hw : IntKind.i64.wrap 0 = 0 := by rfl
  cases p <;> simp [Builtin.append_, run_underlying ht, run_underlying hti, sizeOf, typeInfo, hi, hsz, hby, hw, hg, asInt, asIntOf, storeCells]
theorem A66 {P : Program} {t ti e ty : TypeId} {k : IntKind} {n m : Nat} {v z0 : Value} {xs : List Value} {B R : Mem} {w : World} (ht : A14 P t = some (e, 1, 1)) (hti : P.underlying ti = some (.int k)) (hzr : ((P.info? e).bind (·.zero)).map (·.cells) = some #[z0]) (h1c : z0.oneCell' = true)
    (hs : Sl 1 v n xs B) (hB : ∀ q, q ∈ B → q ∈ R) (hw : Fx R w) (hm9 : m ≤ 1000000) (hs9 : n ≤ 1000000000) :
    ∃ v' w' B', (Builtin.append_ #[t, ti] ty #[v, .int .i64 (m : Int)]).run P w = .ok v' w' ∧ Sl 1 v' (n + m) (xs ++ List.replicate m z0) B' ∧
      ((w' = w ∧ B' = B) ∨
       (∃ (b : Nat) (cs cs' : List Value) (e' : TypeId), B = [(b, blk cs e')] ∧ B' = [(b, blk cs' e')] ∧ w' = w.setRow b cs'.toArray) ∨
       (∃ o', B' = [(w.heap.size, o')] ∧ w' = w.drew.alloc o')) := by
  obtain ⟨i, z, hu, hi, hz, hzs, his, hib⟩ := T0 ht
  have hzc : z.cells = #[z0] := by
    rw [hi, Option.bind_some, hz, Option.map_some] at hzr
    exact Option.some.inj hzr
  by_cases hm : m = 0
  · subst hm
    rcases hs with ⟨p, rfl, rfl, rfl, rfl⟩ | ⟨b, o, cap, cs, e', rfl, rfl, h1, h2, h3, h4, h5⟩
    · exact ⟨_, w, [], A4y w t ti ty e k i hu hti hi his hib p 0 0 (Nat.le_refl _), by rw [List.replicate_zero, List.append_nil]; exact .inl ⟨p, rfl, rfl, rfl, rfl⟩, .inl ⟨rfl, rfl⟩⟩
    · exact ⟨_, w, _, A4y w t ti ty e k i hu hti hi his hib _ n cap h1, by rw [List.replicate_zero, List.append_nil]; exact .inr ⟨b, o, cap, cs, e', rfl, rfl, h1, h2, h3, h4, h5⟩, .inl ⟨rfl, rfl⟩⟩
  · have h0 : 0 < m := by omega
    have hmax : n + m ≤ maxLen := by unfold maxLen; omega
    have made : ∀ (r : Value) (cap' : Nat), r = .slice (some ⟨w.heap.size, 0, none⟩) (n + m) cap' → n + m ≤ cap' → cap' ≤ maxLen → xs.length = n * 1 →
        Sl 1 r (n + m) (xs ++ List.replicate m z0) [(w.heap.size, .cells (xs.toArray ++ (List.replicate m z0).toArray ++ (List.replicate (cap' - (n + m)) z0).toArray) e (0, 0))] := by
      intro r cap' hr' hc1 hc2 hxl
      refine .inr ⟨w.heap.size, 0, cap', xs ++ List.replicate m z0 ++ List.replicate (cap' - (n + m)) z0, e, hr', by simp [blk], hc1, hc2, ?_, ?_, ?_⟩
      · simp; omega
      · simp; omega
      · intro j u hj
        have hlt : j < (xs ++ List.replicate m z0).length := (List.getElem?_eq_some_iff.1 hj).1
        rw [Nat.zero_add, List.getElem?_append_left hlt]
        exact hj
    rcases hs with ⟨p, rfl, rfl, rfl, rfl⟩ | ⟨b, o, cap, cs, e', rfl, rfl, h1, h2, h3, h4, h5⟩
    · have hge := grownCap_ge w (0 + m) 0 e
      have hcm : grownCap w (0 + m) 0 e ≤ maxLen := grownCap_le_maxLen w (0 + m) 0 e hmax
      cases p with
      | none =>
        have hrn := A6n (P := P) w t ti ty e k i z hu hti hi hz his hib m h0 hm9
        rw [hzc, V4, V4] at hrn
        rw [Nat.zero_add] at hge hcm
        refine ⟨_, _, _, hrn, ?_, .inr (.inr ⟨_, rfl, rfl⟩)⟩
        have := made _ (grownCap w m 0 e) (by rw [Nat.zero_add]) (by omega) hcm (by simp)
        simpa using this
      | some pa =>
        have hrg := A10 (P := P) w t ti ty e k i z hu hti hi hz his hib pa 0 0 [] (by simp) (by simp) m h0 hm9 (by omega) (by omega)
        rw [hzc, V4, V4] at hrg
        refine ⟨_, _, _, hrg, ?_, .inr (.inr ⟨_, rfl, rfl⟩)⟩
        exact made _ _ rfl hge hcm (by simp)
    · have hb := hw b _ (hB _ (List.mem_singleton.2 rfl))
      by_cases hroom : n + m ≤ cap
      · have hrr := A5o (P := P) w t ti ty e k i z z0 hu hti hi hz hzc his hib b o n cap m cs e' hb h0 hm9 hroom (by omega) h1c
        refine ⟨_, _, _, hrr, ?_, .inr (.inl ⟨b, cs, _, e', rfl, rfl, rfl⟩)⟩
        refine .inr ⟨b, o, cap, _, e', rfl, rfl, hroom, h2, ?_, ?_, ?_⟩
        · simp only [List.length_append, List.length_take, List.length_drop, List.length_replicate]
          omega
        · simp; omega
        · intro j q hj
          by_cases hjx : j < xs.length
          · rw [List.getElem?_append_left hjx] at hj
            rw [List.append_assoc, List.getElem?_append_left (by simp; omega), List.getElem?_take_of_lt (by omega)]
            exact h5 j q hj
          · rw [List.getElem?_append_right (by omega)] at hj
            have hlt := (List.getElem?_eq_some_iff.1 hj).1
            have hln : (cs.take (o + n)).length = o + n := by simp; omega
            rw [List.append_assoc, List.getElem?_append_right (by omega), List.getElem?_append_left (by rw [hln]; rw [List.length_replicate] at hlt ⊢; omega), hln, ← hj]
            congr 1
            omega
      · have hge := grownCap_ge w (n + m) cap e
        have hcm : grownCap w (n + m) cap e ≤ maxLen := grownCap_le_maxLen w (n + m) cap e hmax
        have hrg := A10 (P := P) w t ti ty e k i z hu hti hi hz his hib ⟨b, o, none⟩ n cap xs h4 (fun j q hj => by rw [Addr.add_mid, cell_of_row w b _ cs.toArray e' (0, 0) hb]; simpa using h5 j q hj) m h0 hm9 (by omega) hs9
        rw [hzc, V4, V4] at hrg
        refine ⟨_, _, _, hrg, ?_, .inr (.inr ⟨_, rfl, rfl⟩)⟩
        exact made _ _ rfl hge hcm h4
section append
variable {C : Cx} {l : Env} {M J : Mem} {K : Env → Mem → Mem → Prop} {d : Nat} {ty : TypeId} {pos : String} {af : Array Edge} {g : Option (Nat × Bool)} {x y : Operand}
theorem B1d {t ti e : TypeId} {k : IntKind} {n m : Nat} {v z0 : Value} {xs : List Value} {B M0 : Mem} (hx : ev l x = some v) (hy : ev l y = some (.int .i64 (m : Int))) (ht : A14 C.P t = some (e, 1, 1)) (hti : C.P.underlying ti = some (.int k)) (hzr : ((C.P.info? e).bind (·.zero)).map (·.cells) = some #[z0]) (h1c : z0.oneCell' = true)
    (hs : Sl 1 v n xs B) (hM : M.Perm (B ++ M0)) (hm9 : m ≤ 1000000) (hs9 : n ≤ 1000000000) (hd : Nat.blt d C.N = true)
    (kk : ∀ v' B', Sl 1 v' (n + m) (xs ++ List.replicate m z0) B' → K ((d, v') :: l) (B' ++ M0) J) :
    OpL C ⟨some d, .call { callee := .builtin .append, args := #[x, y], argTypes := #[t, ti] }, ty, pos, af, g⟩ l M J K := by
  intro Qp a w ha hw
  obtain ⟨v', w', B', hrun, hsl, hcase⟩ := A66 (P := C.P) (ty := ty) (R := M ++ (J ++ C.A)) ht hti hzr h1c hs (fun q hq => by have := hM.mem_iff.2 (List.mem_append_left M0 hq); simp [this]) hw.fx hm9 hs9
  have hexec : (execOp a.eval ⟨some d, .call { callee := .builtin .append, args := #[x, y], argTypes := #[t, ti] }, ty, pos, af, g⟩).run C.P w = .ok (.value v') w' := by
    simp [execOp, resolve, invoke, builtin, ha.ev hx, ha.ev hy, hrun]
  unfold Oper.wp
  rw [hexec]
  refine ⟨_, B' ++ M0, J, ha.put (C8 hd) v', ?_, kk v' B' hsl⟩
  rcases hcase with ⟨rfl, rfl⟩ | ⟨b, cs, cs', e', rfl, rfl, rfl⟩ | ⟨o', rfl, rfl⟩
  · exact hw.perm hM
  · exact (hw.perm hM).setRow (M' := [(b, blk cs' e')] ++ M0) Upd.hd
  · have h2 : St C ((w.heap.size, o') :: M) J (w.drew.alloc o') := St.alloc (w := w.drew) hw.drew o'
    have h3 := h2.perm (M' := (w.heap.size, o') :: (B ++ M0)) (List.Perm.cons _ hM)
    exact h3.drop (List.Sublist.cons_cons _ (List.sublist_append_right B M0)) (fun _ h => h)
end append
end Go.Px

namespace Go.Proofs.YtlilcmjbaknafaaGreatDoor
open Go.Px
def A8S (p : LN) : LN := p ++ List.replicate ((16 - p.length % 16) % 16) 0
theorem A72 (p : LN) : (A8S p).length = p.length + (16 - p.length % 16) % 16 := by simp [A8S]
theorem B8F (v : Value) (p : LN) (B A : Mem) (hs : Sl 1 v p.length (nums .u8 p) B) (hl : p.length ≤ 100000000) : FnX Tryz.prog 95 [v] B A fun q M J => Sl 1 q (A8S p).length (nums .u8 (A8S p)) M := by
 haveI := hs.cel
 refine FnX.enterZ (N := 10) Tryz.func95 rfl rfl rfl fun w_ => ?_
 refine B0 (D7 0) (A1 (as_ (A0 (D7 0) (A1 (mv_ (mv_ ?_))))))
 refine A2 (G1 (sz := 1) rfl kR (hs.rd (R := B) fun _ h => h)) rfl ?_
 refine A2 (T8 (a := p.length) (b := 16) rfl rfl rfl rfl qD) rfl ?_
 refine A2 (C7 ((16 - p.length % 16 : Nat) : Int) rfl rfl (A0h qO qO qO)) rfl ?_
 refine A2 (T8 (a := 16 - p.length % 16) (b := 16) rfl rfl rfl rfl qD) rfl ?_
 refine A5 rfl (B1d (e := 5) (k := .i64) (z0 := .int .u8 0) rfl rfl kR kR kR rfl hs qP qO qO rfl ?_)
 intro v9 B9 hs9
 haveI := hs9.cel
 refine as_ (A0 (D7 2) (B4 ?_))
 exact ⟨_, B9, [], K9 rfl rfl, Fit.none (Fit.last qP), W6 hs9 (by rw [A72]) (by simp [A8S, nums])⟩
theorem B4Q (v : Value) (w : LN) (n : Nat) (A : Mem) (hv : By A v w) (hn : n ≤ 16777216) : FnX Tryz.prog 96 [v, .int .i64 (n : Int)] [] A fun q M J => Sl 1 q n (nums .u8 (F7 w n)) M := by
 haveI := hv.cel
 have hvl := hv.len
 refine FnX.enterZ (N := 12) Tryz.func96 rfl rfl rfl fun w_ => ?_
 refine B0 (D2 0 1) (A1 (as_ (A0 (D2 0 1) (A1 (mv_ ?_)))))
 refine A5 rfl (A0r (by_ := 1) (k := .u8) (e := 5) n rfl rfl kR rfl rfl qO qO rfl fun b7 => ?_)
 refine as_ (A0 (D2 0 5) (A1 (mv_ (mv_ ?_))))
 refine A5 rfl (A3e (e := 5) (us := w) (ws := List.replicate n 0) (ws' := F7 w n) (by_ := 1) rfl rfl kR (hv.rd.mono qS) qM (by simp [F7]) UpC.upd rfl ?_)
 refine A0 (D7 5) (A1 (mv_ (as_ (A0 (D7 4) (B4 ?_)))))
 refine ⟨_, [(b7, blk (nums .u8 (F7 w n)) 5)], [], K9 rfl rfl, Fit.eq qM, ?_⟩
 exact .inr ⟨b7, 0, n, _, _, rfl, rfl, Nat.le_refl _, by unfold maxLen; omega, by simp [nums, K0], by simp [nums, K0], fun j u h => by rwa [Nat.zero_add]⟩

def clA (r : LN) : Nat → LN
  | 0 => r
  | i + 1 => (clA r i).set (4 * i + 3) ((clA r i).getD (4 * i + 3) 0 &&& 15)
def clB (r : LN) : Nat → LN
  | 0 => r
  | i + 1 => (clB r i).set (4 * i + 4) ((clB r i).getD (4 * i + 4) 0 &&& 252)
def adS (l x : LN) : Nat → LN
  | 0 => l
  | i + 1 => (adS l x i).set i (((adS l x i).getD i 0 + x.getD i 0) % 18446744073709551616)
def tgN (by_ : LN) : Nat → LN → LN → LN
  | 0, l, _ => l
  | f + 1, l, p => if p.length = 0 then l else tgN by_ f (A31 (adS l (ptN (p.take 16 ++ [1])) 5) by_) (p.drop 16)
def B6H (K p : LN) : LN := B9d (tgN (ptN (clB (clA (F7 K 16) 4) 3)) p.length [0, 0, 0, 0, 0] p) (K.drop 16)
theorem A5p (by_ : LN) : ∀ (f : Nat) (l p : LN), p.length ≤ f → tgN by_ f l p = tgN by_ p.length l p
  | 0, l, p, h => by rw [show p.length = 0 by omega]
  | f + 1, l, p, h => by
    by_cases h0 : p.length = 0
    · rw [h0]; show (if p.length = 0 then l else _) = _; rw [if_pos h0]; rfl
    · have hd : (p.drop 16).length ≤ f := by rw [List.length_drop]; omega
      obtain ⟨m, hm⟩ : ∃ m, p.length = m + 1 := ⟨p.length - 1, by omega⟩
      have hd2 : (p.drop 16).length ≤ m := by rw [List.length_drop]; omega
      have e1 : tgN by_ (f + 1) l p = tgN by_ f (A31 (adS l (ptN (p.take 16 ++ [1])) 5) by_) (p.drop 16) := if_neg h0
      have e2 : tgN by_ (m + 1) l p = tgN by_ m (A31 (adS l (ptN (p.take 16 ++ [1])) 5) by_) (p.drop 16) := if_neg h0
      rw [e1, hm, e2, A5p by_ f _ _ hd, A5p by_ m _ _ hd2]
theorem B3O (by_ l p : LN) (h0 : ¬ p.length = 0) : tgN by_ p.length l p = tgN by_ (p.drop 16).length (A31 (adS l (ptN (p.take 16 ++ [1])) 5) by_) (p.drop 16) := by
  obtain ⟨m, hm⟩ : ∃ m, p.length = m + 1 := ⟨p.length - 1, by omega⟩
  have e2 : tgN by_ (m + 1) l p = tgN by_ m (A31 (adS l (ptN (p.take 16 ++ [1])) 5) by_) (p.drop 16) := if_neg h0
  rw [hm, e2, A5p by_ m _ _ (by rw [List.length_drop]; omega)]
theorem B6I (by_ l p : LN) (h0 : p.length = 0) : tgN by_ p.length l p = l := by rw [h0]; rfl
theorem B1e (r : LN) : ∀ i, (clA r i).length = r.length
  | 0 => rfl
  | i + 1 => by show ((clA r i).set _ _).length = _; rw [List.length_set, B1e r i]
theorem B1f (r : LN) : ∀ i, (clB r i).length = r.length
  | 0 => rfl
  | i + 1 => by show ((clB r i).set _ _).length = _; rw [List.length_set, B1f r i]
theorem and8 {x k : Nat} (h : x < 256) : x &&& k < 256 := Nat.lt_of_le_of_lt Nat.and_le_left h
theorem set8 {l : LN} (h : ∀ x ∈ l, x < 256) (i x : Nat) (hx : x < 256) : ∀ y ∈ l.set i x, y < 256 := fun y hy => by rcases List.mem_or_eq_of_mem_set hy with h1 | rfl; exact h y h1; exact hx
theorem B1g {r : LN} (h : ∀ x ∈ r, x < 256) : ∀ i, ∀ x ∈ clA r i, x < 256
  | 0 => h
  | i + 1 => set8 (B1g h i) _ _ (and8 (A0K (B1g h i) _))
theorem B1h {r : LN} (h : ∀ x ∈ r, x < 256) : ∀ i, ∀ x ∈ clB r i, x < 256
  | 0 => h
  | i + 1 => set8 (B1h h i) _ _ (and8 (A0K (B1h h i) _))
theorem B4R {l : LN} (h : L5 l) (x : LN) : ∀ i, L5 (adS l x i)
  | 0 => h
  | i + 1 => (B4R h x i).set _ _ (Nat.mod_lt _ qD)
theorem B8G (v : Value) (w : LN) (n : Nat) (A : Mem) (hv : By A v w) (hn : n ≤ 16777216) : FnX Tryz.prog 96 [v, .int .i64 (n : Int)] [] A fun q M J => ∃ b, q = .slice (some ⟨b, 0, none⟩) n n ∧ M = [(b, blk (nums .u8 (F7 w n)) 5)] ∧ J = [] := by
 haveI := hv.cel
 have hvl := hv.len
 refine FnX.enterZ (N := 12) Tryz.func96 rfl rfl rfl fun w_ => ?_
 refine B0 (D2 0 1) (A1 (as_ (A0 (D2 0 1) (A1 (mv_ ?_)))))
 refine A5 rfl (A0r (by_ := 1) (k := .u8) (e := 5) n rfl rfl kR rfl rfl qO qO rfl fun b7 => ?_)
 refine as_ (A0 (D2 0 5) (A1 (mv_ (mv_ ?_))))
 refine A5 rfl (A3e (e := 5) (us := w) (ws := List.replicate n 0) (ws' := F7 w n) (by_ := 1) rfl rfl kR (hv.rd.mono qS) qM (by simp [F7]) UpC.upd rfl ?_)
 refine A0 (D7 5) (A1 (mv_ (as_ (A0 (D7 4) (B4 ?_)))))
 exact ⟨_, [(b7, blk (nums .u8 (F7 w n)) 5)], [], K9 rfl rfl, Fit.eq qM, b7, rfl, rfl, rfl⟩

theorem B98 (q : LN) {m : Nat} (h : min 16 q.length = m) : F7 q m = q.take 16 ∧ q.drop m = q.drop 16 ∧ (q.take 16).length = m := by
  refine ⟨?_, ?_, by rw [List.length_take]; exact h⟩
  · unfold F7
    rw [show m - q.length = 0 by omega, List.replicate_zero, List.append_nil]
    by_cases h1 : 16 ≤ q.length
    · rw [show m = 16 by omega]
    · rw [show m = q.length by omega, List.take_length, List.take_of_length_le qO]
  · by_cases h1 : 16 ≤ q.length
    · rw [show m = 16 by omega]
    · rw [show m = q.length by omega, List.drop_length, List.drop_of_length_le qO]
set_option maxHeartbeats 1000000 in
theorem B8H (v vp : Value) (kw p : LN) (A : Mem) (hk : By A v kw) (hp : By A vp p) : FnX Tryz.prog 97 [v, vp] [] A fun q M J => M = [] ∧ By J q (B6H (F7 kw 32) p) := by
 haveI := hk.cel
 haveI := hp.cel
 refine FnX.enterZ (N := 80) Tryz.func97 rfl rfl rfl fun w_ => ?_
 refine B0 (D2 0 1) (A1 (as_ (A0 (D2 0 1) (A1 (mv_ ?_)))))
 refine C5 (aS rfl (aS rfl a0)) kR (A3G v kw 32 _ (hk.mono qS) qD) rfl ?_
 rintro v16 M16 J16 ⟨rfl, h16⟩
 haveI := h16.cel
 have hkl := K0 kw 32
 generalize F7 kw 32 = K at *
 have hfl := K0 K 16
 have hflt := A00 h16.lt 16
 refine as_ (A0 (D2 0 1) (A1 (mv_ ?_)))
 refine C5 (aS rfl (aS rfl a0)) kR (B8G v16 K 16 _ (h16.mono qS) qD) rfl ?_
 rintro v18 M18 J18 ⟨b18, rfl, rfl, rfl⟩
 refine as_ (A0 (D6 0 1 5) (A3 (A1 ?_)))
 refine A5 rfl (C3 (e := 3) (sz := 1) (z := [A6F, A6F, A6F, A6F]) kR (eS rfl (eS rfl (eS rfl (eS rfl e0)))) (bdS 0 1 rfl qR (bdS 1 1 rfl qR (bdS 2 1 rfl qR (bdS 3 1 rfl qR bd0)))) rfl fun b19 => ?_)
 refine A2 (A0M (e := 3) rfl kR) rfl ?_
 refine mv_ (A0 (H3 0 1 5 19 20 21) (A4 ?_))
 refine A0m (B := [(b19, blk [.int .i64 3, .int .i64 7, .int .i64 11, .int .i64 15] 3)]) qP ?_
 refine D3 (α := Nat) (fun i => [(0, v16), (1, vp), (5, .slice (some ⟨b18, 0, none⟩) 16 16), (19, .slice (some ⟨b19, 0, none⟩) 4 4), (20, .int .i64 4), (21, (vI i))]) (fun i => [(b18, blk (nums .u8 (clA (F7 K 16) i)) 5)]) (fun _ => _) (fun i => i ≤ 4) (fun i => 4 - i) 0 (Nat.zero_le _) (H3 0 1 5 19 20 21) (Fit.eq rfl) qI ?_
 rintro i hi
 try dsimp only at hi ⊢
 have hal := B1e (F7 K 16) i
 have halt := B1g hflt i
 refine A1 ?_
 refine A2 (D4 rfl rfl rfl) rfl ?_
 refine A0 (N0 0 1 5 19 20 21 22) (A3 ?_)
 refine C1 rfl ?_ ?_ <;> intro hc
 ·
  have hlt : i < 4 := by simp at hc; omega
  refine A6 (nx (H3 0 1 5 19 20 21) (A3 (A4 (A1 ?_))))
  refine A2 (K4 (e := 3) (i := i) (sz := 1) rfl rfl kR kR rfl hlt) rfl ?_
  refine A2 (K2 (v := .int .i64 ((4 * i + 3 : Nat) : Int)) rfl kR At.mem (by rcases (by omega : i = 0 ∨ i = 1 ∨ i = 2 ∨ i = 3) with rfl | rfl | rfl | rfl <;> rfl)) rfl ?_
  refine as_ (A0 (N0 0 1 5 7 19 20 21) (A7 (mv_ (mv_ ?_))))
  refine A2 (K4 (e := 5) (i := 4 * i + 3) (sz := 1) rfl rfl kR kR rfl qO) rfl ?_
  refine A2 (H9 (4 * i + 3) rfl kR At.mem qO qO) rfl ?_
  refine A2 (A3U (b := 15) rfl rfl rfl (by show _ < 256; exact A0K halt _) qD) rfl ?_
  refine A2 (K4 (e := 5) (i := 4 * i + 3) (sz := 1) rfl rfl kR kR rfl qO) rfl ?_
  refine A5 rfl (I7 (4 * i + 3) rfl rfl kR qO qO UpC.upd ?_)
  refine C0 (nb (nx (H3 0 1 5 19 20 21) (A7 ?_)))
  refine A2 (C7 ((i + 1 : Nat) : Int) rfl rfl (E1 qO qO qO)) rfl ?_
  refine mv_ (C0 ?_)
  exact rn (i + 1) qO qO (H3 0 1 5 19 20 21) (Fit.eq rfl) qI
 ·
  obtain rfl : i = 4 := by simp at hc; omega
  refine D0 (te (re (be rfl (nx (D6 0 1 5) (A3 (A1 ?_))))))
  refine A5 rfl (C3 (e := 3) (sz := 1) (z := [A6F, A6F, A6F]) kR (eS rfl (eS rfl (eS rfl e0))) (bdS 0 1 rfl qR (bdS 1 1 rfl qR (bdS 2 1 rfl qR bd0))) rfl fun b32 => ?_)
  refine A2 (A0M (e := 3) rfl kR) rfl ?_
  refine mv_ (A0 (H3 0 1 5 32 33 34) (A4 ?_))
  refine A0m (B := [(b32, blk [.int .i64 4, .int .i64 8, .int .i64 12] 3)]) qP ?_
  refine D3 (α := Nat) (fun i => [(0, v16), (1, vp), (5, .slice (some ⟨b18, 0, none⟩) 16 16), (32, .slice (some ⟨b32, 0, none⟩) 3 3), (33, .int .i64 3), (34, (vI i))]) (fun i => [(b18, blk (nums .u8 (clB (clA (F7 K 16) 4) i)) 5)]) (fun _ => _) (fun i => i ≤ 3) (fun i => 3 - i) 0 (Nat.zero_le _) (H3 0 1 5 32 33 34) (Fit.eq rfl) qI ?_
  rintro i hi2
  try dsimp only at hi2 ⊢
  have hbl := B1f (clA (F7 K 16) 4) i
  have hblt := B1h halt i
  refine A1 ?_
  refine A2 (D4 rfl rfl rfl) rfl ?_
  refine A0 (N0 0 1 5 32 33 34 35) (A3 ?_)
  refine C1 rfl ?_ ?_ <;> intro hc
  ·
   have hlt : i < 3 := by simp at hc; omega
   refine A6 (nx (H3 0 1 5 32 33 34) (A3 (A4 (A1 ?_))))
   refine A2 (K4 (e := 3) (i := i) (sz := 1) rfl rfl kR kR rfl hlt) rfl ?_
   refine A2 (K2 (v := .int .i64 ((4 * i + 4 : Nat) : Int)) rfl kR At.mem (by rcases (by omega : i = 0 ∨ i = 1 ∨ i = 2) with rfl | rfl | rfl <;> rfl)) rfl ?_
   refine as_ (A0 (N0 0 1 5 9 32 33 34) (A7 (mv_ (mv_ ?_))))
   refine A2 (K4 (e := 5) (i := 4 * i + 4) (sz := 1) rfl rfl kR kR rfl qO) rfl ?_
   refine A2 (H9 (4 * i + 4) rfl kR At.mem qO qO) rfl ?_
   refine A2 (A3U (b := 252) rfl rfl rfl (by show _ < 256; exact A0K hblt _) qD) rfl ?_
   refine A2 (K4 (e := 5) (i := 4 * i + 4) (sz := 1) rfl rfl kR kR rfl qO) rfl ?_
   refine A5 rfl (I7 (4 * i + 4) rfl rfl kR qO qO UpC.upd ?_)
   refine C0 (nb (nx (H3 0 1 5 32 33 34) (A7 ?_)))
   refine A2 (C7 ((i + 1 : Nat) : Int) rfl rfl (E1 qO qO qO)) rfl ?_
   refine mv_ (C0 ?_)
   exact rn (i + 1) qO qO (H3 0 1 5 32 33 34) (Fit.eq rfl) qI
  ·
   obtain rfl : i = 3 := by simp at hc; omega
   refine D0 (te (re (be rfl (nx (D6 0 1 5) ?_))))
   refine A0m (B := [(b18, blk (nums .u8 (clB (clA (F7 K 16) 4) 3)) 5)]) qP ?_
   unfold B6H
   obtain ⟨R, hRe⟩ : ∃ z, clB (clA (F7 K 16) 4) 3 = z := ⟨_, rfl⟩
   rw [hRe] at hbl hblt ⊢
   have hRl : R.length = 16 := by omega
   have hrB : By [(b18, blk (nums .u8 R) 5)] (.slice (some ⟨b18, 0, none⟩) 16 16) R := ⟨by rw [hRl]; exact Rd.whole (n := 16) qK (by simp [nums, hRl]), hblt, by omega⟩
   refine A1 (mv_ ?_)
   refine F1 (aS rfl a0) kR (B1a (.slice (some ⟨b18, 0, none⟩) 16 16) R _ (hrB.mono qS) qO) rfl ?_
   refine A5 rfl (C4 (cs := [E3, E3, E3, E3, E3]) kR rfl fun b10 => ?_)
   refine A5 rfl (A9 (vs := nums .u64 (ptN R)) rfl rfl rfl (by rw [nums_len, (A1Z R).len]; kernel_rfl) (by rw [nums_len, (A1Z R).len]; rfl) E5 UpC.upd ?_)
   refine A0 (D6 0 1 10) (A1 ?_)
   refine A5 rfl (C4 (cs := [E3, E3, E3, E3, E3]) kR rfl fun b11 => ?_)
   refine A0 (D8 0 1 10 11) (A3 (A4 ?_))
   refine D3 (α := Value × LN × LN) (fun y => [(0, v16), (1, y.1), (10, (vP b10)), (11, (vP b11))]) (fun y => [(b11, blk (nums .u64 y.2.2) 152), (b10, blk (nums .u64 (ptN R)) 152)]) (fun _ => _) (fun y => By A y.1 y.2.1 ∧ L5 y.2.2 ∧ tgN (ptN R) y.2.1.length y.2.2 y.2.1 = tgN (ptN R) p.length [0, 0, 0, 0, 0] p) (fun y => y.2.1.length) (vp, p, [0, 0, 0, 0, 0]) ⟨hp, L5.z, rfl⟩ (D8 0 1 10 11) (Fit.eq rfl) qI ?_
   rintro ⟨u, q, l⟩ ⟨hq, hl5, hT⟩
   dsimp only at hq hl5 hT ⊢
   haveI := hq.cel
   refine A3 (A1 (mv_ ?_))
   refine A2 (G1 (sz := 1) rfl kR hq.rd) rfl ?_
   refine A2 (D4 rfl rfl rfl) rfl ?_
   refine A0 (E4 0 1 10 11 49) ?_
   refine C1 rfl ?_ ?_ <;> intro hc
   ·
    have h0 : ¬ q.length = 0 := by simp at hc; omega
    have hql := hq.len
    obtain ⟨m, hm⟩ : ∃ m, min 16 q.length = m := ⟨_, rfl⟩
    obtain ⟨hfm, hdr, htl⟩ := B98 q hm
    obtain ⟨Q, hQe⟩ : ∃ z, q.take 16 ++ [1] = z := ⟨_, rfl⟩
    have hQl : m + 1 = Q.length := by rw [← hQe, List.length_append, htl]; rfl
    have hQt : ∀ x ∈ Q, x < 256 := fun x hx => by rw [← hQe] at hx; rcases List.mem_append.1 hx with h | h; exact hq.lt x (List.mem_of_mem_take h); rw [List.mem_singleton.1 h]; decide
    refine A6 (nx (D8 0 1 10 11) (A4 (A1 (mv_ ?_))))
    refine A2 (G1 (sz := 1) rfl kR hq.rd) rfl ?_
    refine A2 (A36 ((m : Nat) : Int) rfl rfl (by split <;> omega)) rfl ?_
    refine as_ (A0 (E4 0 1 10 11 12) (A3 (A1 (mv_ (mv_ ?_)))))
    refine C5 (aS rfl (aS rfl a0)) kR (B4Q u q m _ (hq.mono qS) qO) rfl ?_
    rintro v55 M55 J55 hs55
    haveI := hs55.cel
    refine A5 rfl (C3 (e := 5) (sz := 1) (z := [.int .u8 0]) kR (eS rfl e0) (bdS 0 1 rfl qR bd0) rfl fun b56 => ?_)
    refine A5 rfl (F9 (e := 5) (sz := 1) (by_ := 1) rfl rfl kR rfl hs55 (Rd.whole (n := 1) (cs := nums .u8 [1]) At.mem qR) E5 qP (by unfold maxLen; omega) qO rfl fun v57 B57 hs57 => ?_)
    haveI := hs57.cel
    have hby : By B57 v57 Q := ⟨A0H (hs57.rd fun _ h => h) (by rw [hQl]) (by rw [hfm, ← H6, hQe]), hQt, by omega⟩
    refine F1 (aS rfl a0) kR (B1a v57 Q _ (hby.mono qS) qO) rfl ?_
    refine mv_ (A0 (N0 0 1 10 11 12 58 59) (A4 ?_))
    refine D3 (α := Nat) (fun k => [(0, v16), (1, u), (10, (vP b10)), (11, (vP b11)), (12, (vI m)), (58, .agg (nums .u64 (ptN Q)).toArray), (59, (vI k))]) (fun k => [(b11, blk (nums .u64 (adS l (ptN Q) k)) 152), (b10, blk (nums .u64 (ptN R)) 152)]) (fun _ => _) (fun k => k ≤ 5) (fun k => 5 - k) 0 (Nat.zero_le _) (N0 0 1 10 11 12 58 59) (Fit.pick (B := [(b11, blk (nums .u64 l) 152)]) qP (Fit.pick (B := [(b10, blk (nums .u64 (ptN R)) 152)]) qP qZ)) qI ?_
    rintro k hk5
    try dsimp only at hk5 ⊢
    have hok := B4R hl5 (ptN Q) k
    refine A1 ?_
    refine A2 (D4 rfl rfl rfl) rfl ?_
    refine A0 (T6 0 1 10 11 12 58 59 60) (A3 ?_)
    refine C1 rfl ?_ ?_ <;> intro hc
    ·
     have hlt : k < 5 := by simp at hc; omega
     refine A6 (nx (N0 0 1 10 11 12 58 59) (A3 (A4 (A1 (mv_ ?_)))))
     refine A2 (A4M (m := 5) (e := 94) (j := k) (cs := nums .u64 (ptN Q)) (u := .int .u64 (((ptN Q).getD k 0 : Nat) : Int)) rfl rfl kR kR kR rfl qO (Z8 (by rw [(A1Z Q).len]; omega))) rfl ?_
     refine as_ (as_ (A0 (Z7 0 1 10 11 12 13 14 58 59) (A7 (mv_ ?_))))
     refine A2 (D1 (e := 94) (n := 5) (sz := 1) (i := k) (k) rfl rfl kR kR rfl qO qO) rfl ?_
     refine A2 (H9 (k) rfl kR At.mem rfl (by rw [hok.len]; omega)) rfl ?_
     refine mv_ ?_
     refine A2 (F2 18446744073709551616 rfl rfl rfl rfl rfl rfl) rfl ?_
     refine A2 (D1 (e := 94) (n := 5) (sz := 1) (i := k) (k) rfl rfl kR kR rfl qO qO) rfl ?_
     refine A5 rfl (I7 (k) rfl rfl kR rfl (by rw [hok.len]; omega) UpC.upd ?_)
     refine C0 (nb (nx (N0 0 1 10 11 12 58 59) (A7 ?_)))
     refine A2 (C7 ((k + 1 : Nat) : Int) rfl rfl (E1 qO qO qO)) rfl ?_
     refine mv_ (C0 ?_)
     exact rn (k + 1) hlt qO (N0 0 1 10 11 12 58 59) (Fit.eq rfl) qI
    ·
     obtain rfl : k = 5 := by simp at hc; omega
     refine D0 (te (re (be rfl (nx (E4 0 1 10 11 12) (A1 ?_)))))
     refine A2 (L2 (n := 5) (cs := nums .u64 (adS l (ptN Q) 5)) rfl kR At.mem (by rw [nums_len]; exact hok.len)) rfl ?_
     refine A2 (L2 (n := 5) (cs := nums .u64 (ptN R)) rfl kR At.mem (by rw [nums_len]; exact (A1Z R).len)) rfl ?_
     refine F1 (aS rfl (aS rfl a0)) kR (B6G (adS l (ptN Q) 5) (ptN R) _ hok (A1Z R)) rfl ?_
     refine A5 rfl (A9 (vs := nums .u64 (A31 (adS l (ptN Q) 5) (ptN R))) rfl rfl rfl (by rw [nums_len, (A1a _ _).len]; kernel_rfl) (by rw [nums_len, nums_len, (A1a _ _).len, hok.len]) E5 UpC.upd ?_)
     refine A0 (E4 0 1 10 11 12) (A7 (mv_ (mv_ ?_)))
     refine A2 (A28 (sz := 1) (a := m) rfl rfl kR rfl hq.rd qO) rfl ?_
     have h75 := hq.lo m qO
     haveI := h75.cel
     have hst := B3O (ptN R) l q h0
     have hS := A1a (adS l (ptN Q) 5) (ptN R)
     rw [hQe, ← hdr] at hst
     generalize A31 (adS l (ptN Q) 5) (ptN R) = S at *
     have hst2 := hst.symm.trans hT
     refine as_ (C0 (nb ?_))
     exact rn (vLo m 1 u, q.drop m, S) ⟨h75, hS, hst2⟩ (by dsimp only; rw [List.length_drop]; omega) (D8 0 1 10 11) (Fit.eq rfl) (fun _ h => List.mem_append_right _ h)
   ·
    have h0 : q.length = 0 := by have h := of_decide_eq_false hc; omega
    rw [B6I _ _ _ h0] at hT
    rw [← hT]
    refine D0 (te (re (be rfl (nx (D2 0 11) ?_))))
    refine C9 [0, 1, 2, 3, 4] (zp 0 [1, 0, 0, 2, 0]) kR kR fun hs => ?_
    refine G4 hs rfl (L2 (n := 5) (cs := nums .u64 l) rfl kR At.mem (by rw [nums_len]; exact hl5.len)) rfl ?_
    refine fm_ hs ?_
    refine C2 hs rfl (A28 (sz := 1) (a := 16) rfl rfl kR rfl h16.rd qO) rfl ?_
    have h78 := h16.lo 16 qO
    haveI := h78.cel
    refine L8 rfl (aS rfl (aS rfl a0)) kR (B97 l (K.drop 16) _ _ hl5 (h78.mono qS) (by rw [List.length_drop]; omega)) rfl ?_
    rintro v79 M79 J79 ⟨rfl, h79⟩
    haveI := h79.cel
    refine fa_ hs ?_
    refine E7 (D7 4) (B4 ?_)
    exact ⟨_, [], [], K9 rfl rfl, qZ, rfl, h79.mono qS⟩

theorem B1i (w : LN) : F7 w w.length = w := by unfold F7; rw [List.take_length, Nat.sub_self]; simp
def mcN (wa o : LN) : LN := A8S (A8S wa ++ o)
def nlO (wa o : LN) (i : Nat) : Nat := if i = 0 then wa.length else o.length
def mcO (wa o : LN) : Nat → LN
  | 0 => mcN wa o
  | i + 1 => mcO wa o i ++ A7B (nlO wa o i)
def A67 (K N wa o : LN) : LN := B6H (F7 ((B7l K 0 N).take 32) 32) (mcO wa o 2)
def V0 (K N wa p : LN) : LN := A5m K 1 N p ++ A67 K N wa (A5m K 1 N p)
def X0 (K N wa g : LN) : Option (LN) := if g.length < 16 then none else if A67 K N wa (g.take (g.length - 16)) = g.drop (g.length - 16) then some (A5m K 1 N (g.take (g.length - 16))) else none
theorem A3J (K N wa o : LN) : (A67 K N wa o).length = 16 := B3N _ _
theorem A6o (K N wa p : LN) : X0 K N wa (V0 K N wa p) = some p := by
  have h1 := X6 K 1 N p
  have h2 := A3J K N wa (A5m K 1 N p)
  have h3 : (V0 K N wa p).length - 16 = (A5m K 1 N p).length := by unfold V0; rw [List.length_append]; omega
  have h4 : ¬ (V0 K N wa p).length < 16 := by unfold V0; rw [List.length_append]; omega
  have h5 : (V0 K N wa p).take (A5m K 1 N p).length = A5m K 1 N p := by unfold V0; rw [List.take_left]
  have h6 : (V0 K N wa p).drop (A5m K 1 N p).length = A67 K N wa (A5m K 1 N p) := by unfold V0; rw [List.drop_left]
  unfold X0
  rw [if_neg h4, h3, h5, h6, if_pos rfl, A8R]
theorem A68 (p : LN) : (A8S p).length ≤ p.length + 16 := by rw [A72]; omega
theorem B6J (wa o : LN) : (mcN wa o).length ≤ wa.length + o.length + 32 := by
  have h1 := A68 (A8S wa ++ o)
  have h2 := A68 wa
  rw [List.length_append] at h1
  unfold mcN; omega
theorem A73 (n : Nat) : (A7B n).length = 8 := by simp [A7B]
theorem B1j (wa o : LN) : ∀ i, (mcO wa o i).length = (mcN wa o).length + 8 * i
  | 0 => rfl
  | i + 1 => by show (mcO wa o i ++ A7B _).length = _; rw [List.length_append, B1j wa o i, A73]; omega
theorem B1k {p : LN} (h : ∀ x ∈ p, x < 256) : ∀ x ∈ A8S p, x < 256 := fun x hx => by
  rcases List.mem_append.1 hx with h1 | h1
  · exact h x h1
  · rw [(List.mem_replicate.1 h1).2]; decide
theorem B4S {wa o : LN} (hw : ∀ x ∈ wa, x < 256) (ho : ∀ x ∈ o, x < 256) : ∀ i, ∀ x ∈ mcO wa o i, x < 256
  | 0 => B1k fun x hx => (List.mem_append.1 hx).elim (B1k hw x) (ho x)
  | i + 1 => fun x hx => (List.mem_append.1 hx).elim (B4S hw ho i x) (A92 _ x)
theorem _root_.Go.Px.By.hi {R : Mem} {v : Value} {w : LN} (h : By R v w) (k : Nat) (hk : k ≤ w.length) : By R (vHi k v) (w.take k) := by
  refine ⟨?_, fun x hx => h.lt x (List.mem_of_mem_take hx), by rw [List.length_take]; have := h.len; omega⟩
  have h1 := h.rd.hiV k hk
  rw [List.length_take, Nat.min_eq_left hk]
  simpa [nums] using h1
theorem B4T (v vn v2 v3 : Value) (kw nw wa o : LN) (A : Mem) (hk : By A v kw) (hno : By A vn nw) (hw : By A v2 wa) (ho : By A v3 o) (hl : wa.length + o.length ≤ 16000000) : FnX Tryz.prog 81 [v, vn, v2, v3] [] A fun q M J => M = [] ∧ By J q (A67 (F7 kw 32) (F7 nw 12) wa o) := by
 haveI := hk.cel
 haveI := hno.cel
 haveI := hw.cel
 haveI := ho.cel
 refine FnX.enterZ (N := 51) Tryz.func81 rfl rfl rfl fun w_ => ?_
 refine B0 (D8 0 1 2 3) (A1 (as_ (A0 (D8 0 1 2 3) (A1 (mv_ (mv_ ?_))))))
 refine A2 (G1 (sz := 1) rfl kR hw.rd) rfl ?_
 refine C5 (aS rfl (aS rfl a0)) kR (B4Q v2 wa wa.length _ (hw.mono qS) qO) rfl ?_
 rintro v16 M16 J16 hs16
 haveI := hs16.cel
 rw [B1i] at hs16
 refine A5 rfl (E0 (Mc := M16) (R := _) (aS rfl a0) kR qP (B8F v16 wa M16 _ hs16 qO) rfl ?_)
 rintro v17 M17 J17 hs17
 haveI := hs17.cel
 have hp1 := A68 wa
 refine as_ (A0 (E4 0 1 2 3 9) (A1 (mv_ (mv_ ?_))))
 refine A5 rfl (F9 (e := 5) (sz := 1) (by_ := 1) rfl rfl kR rfl hs17 (ho.rd.mono qS) E5 qP (by unfold maxLen; omega) qO rfl fun v20 B20 hs20 => ?_)
 haveI := hs20.cel
 replace hs20 : Sl 1 v20 (A8S wa ++ o).length (nums .u8 (A8S wa ++ o)) B20 := W6 hs20 (by rw [List.length_append]) (by rw [H6])
 have hml : (mcN wa o).length ≤ _ := B6J wa o
 refine A5 rfl (E0 (Mc := B20) (R := _) (aS rfl a0) kR qP (B8F v20 (A8S wa ++ o) B20 _ hs20 (by rw [List.length_append]; omega)) rfl ?_)
 rintro v21 M21 J21 hs21
 haveI := hs21.cel
 change Sl 1 v21 (mcO wa o 0).length (nums .u8 (mcO wa o 0)) M21 at hs21
 refine as_ (A0 (E4 0 1 2 3 9) (A3 (A1 (mv_ ?_))))
 refine A2 (G1 (sz := 1) rfl kR hw.rd) rfl ?_
 refine mv_ ?_
 refine A2 (G1 (sz := 1) rfl kR ho.rd) rfl ?_
 refine A5 rfl (C3 (e := 3) (sz := 1) (z := [.int .i64 0, .int .i64 0]) kR (eS rfl (eS rfl e0)) (bdS 0 1 rfl qR (bdS 1 1 rfl qR bd0)) rfl fun b26 => ?_)
 refine A2 (A0M (e := 3) rfl kR) rfl ?_
 refine mv_ (A0 (H3 0 1 9 26 27 28) (A4 ?_))
 refine A0m (B := [(b26, blk [(vI wa.length), (vI o.length)] 3)]) qP ?_
 refine D3 (α := Nat × Value × Mem) (fun y => [(0, v), (1, vn), (9, y.2.1), (26, .slice (some ⟨b26, 0, none⟩) 2 2), (27, .int .i64 2), (28, (vI y.1))]) (fun y => y.2.2) (fun _ => _) (fun y => y.1 ≤ 2 ∧ Sl 1 y.2.1 (mcO wa o y.1).length (nums .u8 (mcO wa o y.1)) y.2.2) (fun y => 2 - y.1) (0, v21, M21) ⟨Nat.zero_le _, hs21⟩ (H3 0 1 9 26 27 28) (Fit.eq qM) qI ?_
 rintro ⟨i, u, B⟩ ⟨hi, hsl⟩
 dsimp only at hi hsl ⊢
 haveI := hsl.cel
 have hil := B1j wa o i
 refine A1 ?_
 refine A2 (D4 rfl rfl rfl) rfl ?_
 refine A0 (N0 0 1 9 26 27 28 29) (A3 ?_)
 refine C1 rfl ?_ ?_ <;> intro hc
 ·
  have hlt : i < 2 := by simp at hc; omega
  have hnl : nlO wa o i ≤ 16000000 := by unfold nlO; split <;> omega
  refine A6 (nx (H3 0 1 9 26 27 28) (A3 (A4 (A1 ?_))))
  refine A2 (K4 (e := 3) (i := i) (sz := 1) rfl rfl kR kR rfl hlt) rfl ?_
  refine A2 (K2 (v := .int .i64 ((nlO wa o i : Nat) : Int)) rfl kR At.mem (by rcases (by omega : i = 0 ∨ i = 1) with rfl | rfl <;> rfl)) rfl ?_
  refine as_ (A0 (N0 0 1 9 11 26 27 28) (A1 (mv_ (A0 (T6 0 1 9 11 26 27 28 32) (A4 ?_)))))
  obtain ⟨n, hne⟩ : ∃ z, nlO wa o i = z := ⟨_, rfl⟩
  rw [hne] at hnl ⊢
  obtain ⟨q, hqe⟩ : ∃ z, mcO wa o i = z := ⟨_, rfl⟩
  rw [hqe] at hil hsl
  refine D3 (α := Nat × Value × Mem) (fun y => [(0, v), (1, vn), (9, y.2.1), (11, (vI n)), (26, .slice (some ⟨b26, 0, none⟩) 2 2), (27, .int .i64 2), (28, (vI i)), (32, (vI y.1))]) (fun y => y.2.2) (fun _ => _) (fun y => y.1 ≤ 8 ∧ Sl 1 y.2.1 (q.length + y.1) (nums .u8 (q ++ (List.range y.1).map (byt ((n : Nat) : Int)))) y.2.2) (fun y => 8 - y.1) (0, u, B) ⟨Nat.zero_le _, W6 hsl rfl qM⟩ (T6 0 1 9 11 26 27 28 32) .rfl qI ?_
  rintro ⟨k, u2, B2⟩ ⟨hk8, hsl2⟩
  dsimp only at hk8 hsl2 ⊢
  haveI := hsl2.cel
  refine A1 ?_
  refine A2 (D4 rfl rfl rfl) rfl ?_
  refine A0 (Z7 0 1 9 11 26 27 28 32 33) (A3 ?_)
  refine C1 rfl ?_ ?_ <;> intro hc
  ·
   have hlt2 : k < 8 := by simp at hc; omega
   refine A6 (nx (T6 0 1 9 11 26 27 28 32) (A3 (A4 (A1 (mv_ (as_ (A0 (Z7 0 1 9 11 12 26 27 28 32) (A7 ?_))))))))
   refine mv_ (mv_ (mv_ ?_))
   refine A2 (A0F (a := 8) rfl rfl rfl rfl qO) rfl ?_
   refine A2 (A9T (k := k) rfl rfl rfl hlt2) rfl ?_
   refine A2 (A9U rfl kR) rfl ?_
   refine A5 rfl (C3 (e := 5) (sz := 1) (z := [.int .u8 0]) kR (eS rfl e0) (bdS 0 1 rfl qR bd0) rfl fun b41 => ?_)
   refine A5 rfl (F9 (e := 5) (sz := 1) (by_ := 1) rfl rfl kR rfl hsl2 (Rd.whole (n := 1) (cs := nums .u8 [byt ((n : Nat) : Int) k]) At.mem qR) E5 qP (by unfold maxLen; omega) qO rfl fun v42 B42 hs42 => ?_)
   haveI := hs42.cel
   refine as_ (C0 (nb (nx (T6 0 1 9 11 26 27 28 32) (A7 ?_))))
   refine A2 (C7 ((k + 1 : Nat) : Int) rfl rfl (E1 qO qO qO)) rfl ?_
   refine mv_ (C0 ?_)
   exact rn (k + 1, v42, B42) ⟨by dsimp only; omega, W6 hs42 (by dsimp only; omega) (by dsimp only; rw [List.range_succ, List.map_append, ← List.append_assoc, H6 (ws := q ++ List.map (byt ((n : Nat) : Int)) (List.range k))]; rfl)⟩ (by dsimp only; omega) (T6 0 1 9 11 26 27 28 32) (Fit.sub (List.sublist_append_left _ _)) qI
  ·
   obtain rfl : k = 8 := by simp at hc; omega
   refine D0 (te (re (be rfl (nb (nx (H3 0 1 9 26 27 28) (A7 ?_))))))
   refine A2 (C7 ((i + 1 : Nat) : Int) rfl rfl (E1 qO qO qO)) rfl ?_
   refine mv_ (C0 ?_)
   exact rn (i + 1, u2, B2) ⟨by dsimp only; omega, by have e : mcO wa o (i + 1) = q ++ A7B n := (by rw [← hqe, ← hne]; rfl); dsimp only; rw [e]; exact W6 hsl2 (by rw [List.length_append, A73]) rfl⟩ (by dsimp only; omega) (H3 0 1 9 26 27 28) .rfl qI
 ·
  obtain rfl : i = 2 := by simp at hc; omega
  refine D0 (te (re (be rfl (nx (D6 0 1 9) (A1 (mv_ (mv_ ?_)))))))
  refine C5 (aS rfl (aS rfl (aS rfl a0))) kR (B07 v vn kw nw 0 _ (hk.mono qS) (hno.mono qS) qD) rfl ?_
  rintro v47 M47 J47 ⟨rfl, h47⟩
  haveI := h47.cel
  have hbl : (B7l (F7 kw 32) 0 (F7 nw 12)).length = 64 := A3H _ _ _
  have h48 := h47.hi 32 qO
  haveI := h48.cel
  refine A2 (A9w (sz := 1) (a := 32) rfl rfl kR rfl h47.rd qO) rfl ?_
  refine mv_ ?_
  refine A53 (B := B) qP ?_
  have hby : By B u (mcO wa o 2) := ⟨hsl.rd fun _ h => h, B4S hw.lt ho.lt 2, by omega⟩
  refine C5 (aS rfl (aS rfl a0)) kR (B8H (vHi 32 v47) u ((B7l (F7 kw 32) 0 (F7 nw 12)).take 32) (mcO wa o 2) _ (h48.mono qS) (hby.mono qS)) rfl ?_
  rintro v50 M50 J50 ⟨rfl, h50⟩
  haveI := h50.cel
  refine as_ (A0 (D7 8) (B4 ?_))
  exact ⟨_, [], [], K9 rfl rfl, qZ, rfl, h50.mono qS⟩
theorem B6K (v vn v2 v3 : Value) (kw nw wa o : LN) (A : Mem) (hk : By A v kw) (hno : By A vn nw) (hw : By A v2 wa) (ho : By A v3 o) (hl : wa.length + o.length ≤ 16000000) : FnX Tryz.prog 64 [v, vn, v2, v3] [] A fun q M J => M = [] ∧ By J q (V0 (F7 kw 32) (F7 nw 12) wa o) := by
 haveI := hk.cel
 haveI := hno.cel
 haveI := hw.cel
 haveI := ho.cel
 refine FnX.enterZ (N := 21) Tryz.func64 rfl rfl rfl fun w_ => ?_
 refine B0 (D8 0 1 2 3) (A1 (as_ (A0 (D8 0 1 2 3) (A1 (mv_ (mv_ (mv_ ?_)))))))
 refine C5 (aS rfl (aS rfl (aS rfl (aS rfl a0)))) kR (A70 v vn v3 kw nw o 1 _ (hk.mono qS) (hno.mono qS) (ho.mono qS) qD) rfl ?_
 rintro v13 M13 J13 ⟨b13, rfl, rfl, h13⟩
 have hsl := X6 (F7 kw 32) 1 (F7 nw 12) o
 refine as_ (A0 (D8 0 1 2 9) (A1 (mv_ (mv_ (mv_ (mv_ (mv_ ?_)))))))
 refine C5 (aS rfl (aS rfl (aS rfl (aS rfl a0)))) kR (B4T v vn v2 _ kw nw wa (A5m (F7 kw 32) 1 (F7 nw 12) o) _ (hk.mono qS) (hno.mono qS) (hw.mono qS) (h13.mono qS) qO) rfl ?_
 rintro v19 M19 J19 ⟨rfl, h19⟩
 haveI := h19.cel
 have htl := A3J (F7 kw 32) (F7 nw 12) wa (A5m (F7 kw 32) 1 (F7 nw 12) o)
 refine A5 rfl (A54 (e := 5) (sz := 1) (by_ := 1) rfl rfl kR rfl (A0H (h13.rd.mono qS) hsl rfl) (h19.rd.mono qS) qO (by unfold maxLen; omega) qO rfl fun v20 B20 hs20 => ?_)
 haveI := hs20.cel
 refine as_ (A0 (D7 8) (B4 ?_))
 exact ⟨_, [], B20, K9 rfl rfl, Fit.pick qP qZ, rfl, ⟨A0H (hs20.rd fun x hx => by simp [hx]) (by unfold V0; rw [List.length_append, hsl]) (by unfold V0; rw [H6]), fun x hx => (List.mem_append.1 hx).elim (h13.lt x) (h19.lt x), by unfold V0; rw [List.length_append]; omega⟩⟩
theorem B6L (v vn v2 v3 : Value) (kw nw wa o : LN) (A : Mem) (hk : By A v kw) (hno : By A vn nw) (hw : By A v2 wa) (ho : By A v3 o) (h16 : o.length < 16) : FnX Tryz.prog 76 [v, vn, v2, v3] [] A fun q M J => M = [] ∧ ∃ u, q = .tuple #[u, .bool (X0 (F7 kw 32) (F7 nw 12) wa o).isSome] ∧ By J u ((X0 (F7 kw 32) (F7 nw 12) wa o).getD []) := by
 haveI := hk.cel
 haveI := hno.cel
 haveI := hw.cel
 haveI := ho.cel
 refine FnX.enterZ (N := 37) Tryz.func76 rfl rfl rfl fun w_ => ?_
 refine B0 (D8 0 1 2 3) (A1 (as_ (as_ (A0 (D8 0 1 2 3) (A1 (mv_ ?_))))))
 refine A2 (G1 (sz := 1) rfl kR ho.rd) rfl ?_
 refine A2 (C7 (((o.length : Nat) : Int) - 16) rfl rfl (A0h qO qO qO)) rfl ?_
 refine as_ (A0 (E4 0 1 2 3 10) (A3 ?_))
 refine C9 (.range 17) [(0, 0), (1, 0), (2, 0), (3, 0), (4, 0), (5, 0), (6, 0), (7, 0), (8, 0), (11, 0), (12, 0), (13, 0), (14, 1), (9, 2), (10, 1), (15, 0), (16, 0)] kR kR fun hs => ?_
 refine fm_ hs ?_
 refine C2 hs rfl (E9 true rfl rfl (ltT qO)) rfl ?_
 refine fm_ hs ?_
 refine A5J hs ?_
 refine A5J hs ?_
 refine A5J hs ?_
 refine A5J hs ?_
 refine A5J hs ?_
 refine A5J hs ?_
 refine A5J hs ?_
 refine A5J hs ?_
 refine A5J hs ?_
 refine B84 hs ?_
 refine B7y hs rfl rfl rfl rfl rfl rfl ?_
 refine B84 hs ?_
 refine A5J hs ?_
 refine C2 hs rfl (I6 rfl rfl) rfl ?_
 refine E7 (E4 0 1 3 10 30) ?_
 refine D5 rfl ?_
 refine A1 (as_ (as_ (A0 (D2 8 9) (B4 (tr ?_)))))
 refine ⟨_, [], [], A13 rfl rfl rfl, qZ, rfl, vS, ?_, ?_⟩
 · unfold X0; rw [if_pos h16]; rfl
 · unfold X0; rw [if_pos h16]; exact By.nil
theorem B6M (v vn v2 v3 : Value) (kw nw wa o : LN) (A : Mem) (hk : By A v kw) (hno : By A vn nw) (hw : By A v2 wa) (ho : By A v3 o) (hl : wa.length + o.length ≤ 16000000) (h16 : ¬ o.length < 16) : FnX Tryz.prog 76 [v, vn, v2, v3] [] A fun q M J => M = [] ∧ ∃ u, q = .tuple #[u, .bool (X0 (F7 kw 32) (F7 nw 12) wa o).isSome] ∧ By J u ((X0 (F7 kw 32) (F7 nw 12) wa o).getD []) := by
 haveI := hk.cel
 haveI := hno.cel
 haveI := hw.cel
 haveI := ho.cel
 refine FnX.enterZ (N := 37) Tryz.func76 rfl rfl rfl fun w_ => ?_
 refine B0 (D8 0 1 2 3) (A1 (as_ (as_ (A0 (D8 0 1 2 3) (A1 (mv_ ?_))))))
 refine A2 (G1 (sz := 1) rfl kR ho.rd) rfl ?_
 refine A2 (C7 ((o.length - 16 : Nat) : Int) rfl rfl (A0h qO qO qO)) rfl ?_
 have hhi := ho.hi (o.length - 16) qO
 have hlo := ho.lo (o.length - 16) qO
 haveI := hhi.cel
 haveI := hlo.cel
 refine as_ (A0 (E4 0 1 2 3 10) (A3 ?_))
 refine C9 (.range 17) [(0, 0), (1, 0), (2, 0), (3, 0), (4, 0), (5, 0), (6, 0), (7, 0), (8, 0), (11, 0), (12, 0), (13, 0), (14, 1), (9, 2), (10, 1), (15, 0), (16, 0)] kR kR fun hs => ?_
 refine fm_ hs ?_
 refine C2 hs rfl (E9 false rfl rfl (ltF qO)) rfl ?_
 refine fm_ hs ?_
 refine L7 hs rfl rfl rfl rfl qm_ rfl ?_
 refine L7 hs rfl rfl rfl rfl qm_ rfl ?_
 refine L7 hs rfl rfl rfl rfl qm_ rfl ?_
 refine L7 hs rfl rfl rfl rfl qm_ rfl ?_
 refine L7 hs rfl rfl rfl rfl qm_ rfl ?_
 refine L7 hs rfl rfl rfl rfl (A9w (sz := 1) (a := o.length - 16) rfl rfl kR rfl ho.rd qO) rfl ?_
 refine L7 hs rfl rfl rfl rfl qm_ rfl ?_
 refine L7 hs rfl rfl rfl rfl qm_ rfl ?_
 refine L7 hs rfl rfl rfl rfl (A28 (sz := 1) (a := o.length - 16) rfl rfl kR rfl ho.rd qO) rfl ?_
 refine A8l hs rfl rfl rfl rfl (Q3 rfl kR (hlo.rd.mono qS)) rfl ?_
 refine A7n rfl rfl rfl rfl (aS rfl (aS rfl (aS rfl (aS rfl a0)))) kR (B4T v vn v2 (vHi (o.length - 16) v3) kw nw wa (o.take (o.length - 16)) _ (hk.mono qS) (hno.mono qS) (hw.mono qS) (hhi.mono qS) (by rw [List.length_take]; omega)) rfl ?_
 rintro v23 M23 J23 ⟨rfl, h23⟩
 haveI := h23.cel
 refine A8l hs rfl rfl rfl rfl (Q3 rfl kR (h23.rd.mono qS)) rfl ?_
 refine L7 hs rfl rfl rfl rfl (B5D rfl rfl rfl rfl h23.lt hlo.lt) rfl ?_
 refine C2 hs rfl (I0 rfl rfl) rfl ?_
 refine E7 (E4 0 1 3 10 30) ?_
 refine C1 rfl ?_ ?_ <;> intro hc
 ·
  have hne : ¬ A67 (F7 kw 32) (F7 nw 12) wa (o.take (o.length - 16)) = o.drop (o.length - 16) := by simpa using hc
  have he : X0 (F7 kw 32) (F7 nw 12) wa o = none := by unfold X0; rw [if_neg h16, if_neg hne]
  refine A1 (as_ (as_ (A0 (D2 8 9) (B4 (tr ?_)))))
  exact ⟨_, [], [], A13 rfl rfl rfl, qZ, rfl, vS, by rw [he]; rfl, by rw [he]; exact By.nil⟩
 ·
  have heq : A67 (F7 kw 32) (F7 nw 12) wa (o.take (o.length - 16)) = o.drop (o.length - 16) := by simpa using hc
  have he : X0 (F7 kw 32) (F7 nw 12) wa o = some (A5m (F7 kw 32) 1 (F7 nw 12) (o.take (o.length - 16))) := by unfold X0; rw [if_neg h16, if_pos heq]
  refine A6 (nx (D8 0 1 3 10) (A1 (mv_ (mv_ (mv_ (mv_ ?_))))))
  refine A2 (A9w (sz := 1) (a := o.length - 16) rfl rfl kR rfl ho.rd qO) rfl ?_
  refine C5 (aS rfl (aS rfl (aS rfl (aS rfl a0)))) kR (B3K v vn (vHi (o.length - 16) v3) kw nw (o.take (o.length - 16)) 1 _ (hk.mono qS) (hno.mono qS) (hhi.mono qS) qD) rfl ?_
  rintro v36 M36 J36 ⟨rfl, h36⟩
  haveI := h36.cel
  refine as_ (as_ (A0 (D2 8 9) (B4 ?_)))
  exact ⟨_, [], [], A13 rfl rfl rfl, qZ, rfl, v36, by rw [he]; rfl, by rw [he]; exact h36.mono qS⟩
theorem B6N (v vn v2 v3 : Value) (kw nw wa o : LN) (A : Mem) (hk : By A v kw) (hno : By A vn nw) (hw : By A v2 wa) (ho : By A v3 o) (hl : wa.length + o.length ≤ 16000000) : FnX Tryz.prog 76 [v, vn, v2, v3] [] A fun q M J => M = [] ∧ ∃ u, q = .tuple #[u, .bool (X0 (F7 kw 32) (F7 nw 12) wa o).isSome] ∧ By J u ((X0 (F7 kw 32) (F7 nw 12) wa o).getD []) := by
  by_cases h : o.length < 16
  · exact B6L v vn v2 v3 kw nw wa o A hk hno hw ho h
  · exact B6M v vn v2 v3 kw nw wa o A hk hno hw ho hl h

end Go.Proofs.YtlilcmjbaknafaaGreatDoor
