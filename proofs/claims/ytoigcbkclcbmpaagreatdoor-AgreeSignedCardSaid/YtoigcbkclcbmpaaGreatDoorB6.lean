/- Part 6 of the texts of this claim, one behind the other. -/
import Derived.Test.YtoigcbkclcbmpaaGreatDoorB5
import Derived.WalkKit
import Derived.ProofKit
import Derived.OpenShut
import Derived.ShutString
import Derived.ChangeOld
import Derived.Below
set_option linter.unusedVariables false
set_option linter.unusedSimpArgs false
set_option maxRecDepth 100000
namespace Go.Px
theorem P0 {C : Cx} {Q : XQ} {l : Env} {M J : Mem} {os : List Oper} {K : Nat → Prop} {n0 : Nat} {nd : List Nat} {plan : List (Nat × Nat)} {i : Nat} {o : Oper} (hget : nth os i = some o) (hg : o.guard = none) (hnd : nd.contains i = false) (h : OpL C o l M J (fun l' M' J' => XK C os Q K 0 nd plan l' M' J')) : XK C os Q K n0 nd ((i, 2) :: plan) l M J := by
  have h1 := B0C hget (fun a ha => by simp [Region.wanted, hg]) hnd h
  exact fun listed hcl hp a w ha hw _ => h1 listed hcl hp a w ha hw (Nat.zero_le _)
end Go.Px

namespace Go.Proofs.YtoigcbkclcbmpaaGreatDoor
open Go.Px
instance (priority := low) SubC.union {X Y Z : Mem} [h1 : SubC X Z] [h2 : SubC Y Z] : SubC (X ++ Y) Z := ⟨fun x h => (List.mem_append.1 h).elim (h1.sub x) (h2.sub x)⟩
instance (priority := low) SubC.consC {b : Nat} {o : Obj} {X Z : Mem} [h1 : At Z b o] [h2 : SubC X Z] : SubC ((b, o) :: X) Z := ⟨fun x h => (List.mem_cons.1 h).elim (fun h => h ▸ h1.mem) (h2.sub x)⟩
theorem B7e {B M X : Mem} {x y z : Nat × Obj} : Fit ((B ++ []) ++ (M ++ (x :: y :: z :: X))) (y :: z :: (B ++ (M ++ X))) := ⟨x :: (y :: z :: (B ++ (M ++ X))), by
  rw [List.append_nil, ← List.append_assoc]
  exact (List.perm_append_comm_assoc (B ++ M) [x, y, z] X).trans qM, .cons _ (List.Sublist.refl _)⟩
def pos (ts : List Tm) (t : Tm) : Option Nat := W9 (key t) (ts.map key) 0
def at_ (ts : List Tm) (t : Tm) : Nat := (pos ts t).getD ts.length
def add (ts : List Tm) (t : Tm) : List Tm := if (pos ts t).isSome then ts else ts ++ [t]
theorem B0W {n : Nat} {cs : List Value} {e : TypeId} : B3z fun v R => ∃ b, v = .slice (some ⟨b, 0, none⟩) n n ∧ (b, Obj.cells cs.toArray e (0, 0)) ∈ R := fun _ _ _ h ⟨b, e, hb⟩ => ⟨b, e, h _ hb⟩
theorem A5k {ts : List Tm} {t : Tm} (ht : Tmo t) (hts : ∀ t ∈ ts, Tmo t) {i : Nat} (h : pos ts t = some i) : ts[i]? = some t := (A8A ht hts).2 i h
theorem A5l {ts : List Tm} {t : Tm} (ht : Tmo t) (hts : ∀ t ∈ ts, Tmo t) : pos ts t = none ↔ t ∉ ts := (A8A ht hts).1
theorem B9p {ts : List Tm} (hts : ∀ t ∈ ts, Tmo t) (hnd : ts.Nodup) {t : Tm} {i : Nat} (h : ts[i]? = some t) : pos ts t = some i := by
  have hm : t ∈ ts := List.mem_of_getElem? h
  cases hp : pos ts t with
  | none => exact absurd hm ((A5l (hts t hm) hts).1 hp)
  | some j =>
    have hj := A5k (hts t hm) hts hp
    have a := List.getElem?_eq_some_iff.1 h
    have b := List.getElem?_eq_some_iff.1 hj
    obtain ⟨a1, a2⟩ := a
    obtain ⟨b1, b2⟩ := b
    have hpw := List.pairwise_iff_getElem.1 hnd
    rcases Nat.lt_trichotomy i j with h1 | h1 | h1
    · exact absurd (a2.trans b2.symm) (hpw i j a1 b1 h1)
    · rw [h1]
    · exact absurd (b2.trans a2.symm) (hpw j i b1 a1 h1)
theorem U4 (bt bm : Nat) (ts : List Tm) (vo : Value) (t : Tm) (MT A : Mem) (hT : Tab bt bm ts MT) (hlen : ts.length ≤ 1048576) (hvo : Rd A 1 vo t.of.length (A1s t.of)) (ht : Tmo t) {e4 : TypeId} {f4 : Nat × Nat} (h4 : (2, Obj.cells (nums .u64 A0R).toArray e4 f4) ∈ A) : FnX Tryz.prog 18 [(vP bt), .agg (tmc t.kind vo t.text t.n).toArray] MT A fun r M J => J = [] ∧ r = .int .i64 ((at_ ts t : Nat) : Int) ∧ Tab bt bm (add ts t) M := by
  obtain ⟨v, rows, ks, Bl, BX, rfl, hks, hsl, hrl, hr4, hat, hto, hnd⟩ := hT
  have hkind := ht.kind
  haveI := hvo.cel
  refine FnX.enter (N := 50) Tryz.func18 rfl rfl rfl fun w => ?_
  refine C4 (D5 0 1) (A3 ?_)
  refine A6 rfl (bx_ fun b3 => ?_)
  refine as_ (A0 (D5 0 3) (A5 (A3 (mv_ ?_))))
  refine A4 (F0 (e := 85) rfl rfl kR) rfl ?_
  refine A0 (E2 0 3 8) ?_
  refine D3 rfl ?_
  refine A9 (nx (D5 0 3) ?_)
  refine D2 [0, 1, 2, 3, 4, 5, 7, 8, 9, 10, 11] (zp 0 [0, 0, 0, 1, 1, 2, 2, 0, 0, 0, 0, 0]) kR kR fun hs => ?_
  refine fm_ hs ?_
  refine D1 hs rfl (F9 rfl) rfl ?_
  refine D1 hs rfl (qf_ 1 1) rfl ?_
  refine F7 hs rfl ql_ rfl ?_
  refine F7 hs rfl (qw_ 4) rfl ?_
  refine T6 rfl (aS rfl a0) kR (A6w vo t _ (hvo.mono fun _ h => mA h) ht (mA h4)) rfl ?_
  refine G5 rfl rfl rfl (OpQ.opL (B7d (kt := 9) (et := 3) rfl rfl kR kR (fun _ => by rfl) At.mem) rfl ?_)
  refine fm_ hs ?_
  refine D1 hs rfl (A4e rfl) rfl ?_
  refine D1 hs rfl (A38 rfl) rfl ?_
  refine fa_ hs ?_
  refine fa_ hs ?_
  refine E4 (E7 0 3 5 6) ?_
  refine A0x (α := Mem) (fun _ => [(5, .int .i64 ((at_ ts t : Nat) : Int))]) (fun M => M) (fun _ => []) (fun M => Tab bt bm (add ts t) M) ?_ ?_
  ·
    refine A3 (mv_ ?_)
    refine A4 (A0o rfl) rfl ?_
    refine A0 (E7 0 3 5 20) ?_
    refine C7 rfl ?_ ?_ <;> intro hc
    ·
      have hnm : pos ts t = none := by
        cases hp : pos ts t with
        | none => rfl
        | some j => rw [hks] at hc; rw [show W9 (key t) (ts.map key) 0 = some j from hp] at hc; cases hc
      have hnk : W9 (key t) ks 0 = none := by rw [hks]; exact hnm
      have hkl : ks.length = ts.length := by rw [hks, List.length_map]
      refine A3 (mv_ ?_)
      refine A4 (F9 rfl) rfl ?_
      refine A4 (qf_ 0 0) rfl ?_
      refine A4 ql_ rfl ?_
      refine A4 (K1 (sz := 4) rfl kR (hsl.rd (R := Bl) fun _ h => h)) rfl ?_
      refine as_ (A0 (E2 0 3 5) (A3 ?_))
      refine A4 (qf_ 1 1) rfl ?_
      refine A4 ql_ rfl ?_
      refine C9 (aS rfl a0) kR (A7F vo t.of.length (A1s t.of) _ (hvo.mono fun _ h => mA h) (B0S _) (by have := ht.ofl; omega)) rfl ?_
      rintro v28 M28 J28 ⟨rfl, hv28⟩
      haveI := hv28.cel
      refine A4 (qf_ 1 1) rfl ?_
      refine A6 rfl (D6 rfl rfl hv28.one kR SetC.set UpC.upd ?_)
      refine A0 (E2 0 3 5) ?_
      refine Y5 (Bl) (_) true [0, 1, 2, 3, 4, 5, 6, 7, 8, 9, 10, 11, 12, 13, 14, 15, 16, 19] [(0, 0), (1, 0), (2, 0), (3, 0), (4, 1), (5, 1), (7, 0), (8, 0), (9, 0), (10, 1), (11, 1), (14, 0), (6, 3), (12, 4), (13, 2), (15, 0), (16, 0), (17, 2), (18, 2), (19, 0), (20, 2)] kR kR qP fun hs K n0 hKm hKs hKn => ?_
      refine km_ hs ?_
      refine km_ hs ?_
      refine I8 hs rfl (F9 rfl) rfl ?_
      refine I8 hs rfl (qf_ 1 1) rfl ?_
      refine Q0 hs rfl hKs ql_ ?_
      refine Q0 hs rfl hKs (qw_ 4) ?_
      refine km_ hs ?_
      refine I8 hs rfl (F9 rfl) rfl ?_
      refine I8 hs rfl (qf_ 0 0) rfl ?_
      refine Q0 hs rfl hKs ql_ ?_
      refine Q0 hs rfl hKs (qw_ 4) ?_
      refine km_ hs ?_
      refine B3B [⟨6, 36, fun v _ => v = .string (key t)⟩, ⟨12, 42, fun v R => ∃ b, v = .slice (some ⟨b, 0, none⟩) 1 1 ∧ (b, Obj.cells (tmc t.kind v28 t.text t.n).toArray 69 (0, 0)) ∈ R⟩]
        (C1 B6X (C1 B0W (K7))) (show List.Nodup [36, 42] by decide) (show List.Nodup [6, 12] by decide) (C1 (C8 rfl) (C1 (C8 rfl) (K7)))
        (C1 ⟨_, rfl, fun vs R w hb ha => ⟨.inl rfl, ?_⟩⟩ (C1 ⟨_, rfl, fun vs R w hb ha => ⟨.inl rfl, ?_⟩⟩ (K7))) ?_
      ·
        exact W2 (aS rfl a0) kR (A6w v28 t _ (hv28.mono fun _ h => hb _ (by simp [h])) ht (hb _ (mA h4))) rfl ⟨_, rfl, rfl⟩
      ·
        exact C6 (e := 69) (sz := 4) (z := [.int .u8 0, vS, .string ByteArray.empty, .int .i64 0]) kR (eS rfl e0) (.cons rfl rfl qR (SetR.all qR) .nil) rfl fun b => ⟨_, rfl, b, rfl, List.mem_append_left _ qK⟩
      intro vs Jn0 hφ
      have g6 := ofH hφ
      dsimp only at g6
      replace hφ := ofT hφ
      have g12 := ofH hφ
      dsimp only at g12
      clear hφ
      dsimp only [A3y, List.map, List.cons_append, List.nil_append]
      generalize vs 6 = u36 at *
      generalize vs 12 = u42 at *
      subst g6
      obtain ⟨b42, rfl, hb42⟩ := g12
      have hl42 := Rd.whole (sz := 4) (n := 1) hb42 qR
      refine K6 _ _ rfl rfl (List.Perm.refl _) hKm fun w0 => (I3 (e := 69) (sz := 4) (by_ := 56) rfl rfl kR rfl hsl (hl42.mono fun x hx => by simpa only [List.append_assoc, List.nil_append, List.append_nil] using hx) (by intro c hc; simp only [List.mem_cons, List.not_mem_nil, or_false] at hc; rcases hc with rfl | rfl | rfl | rfl <;> first | rfl | exact hv28.one) (by rw [List.append_nil]) (by unfold maxLen; omega) qO rfl fun v43 B43 hs43 => fun _ => ?_)
      refine I8 hs rfl (F9 rfl) rfl ?_
      refine I8 hs rfl (qf_ 0 0) rfl ?_
      refine P0 rfl rfl rfl (D6 rfl rfl hs43.one kR SetC.set UpC.upd ?_)
      refine P0 rfl rfl rfl (A9F (kt := 9) (et := 3) rfl rfl kR kR (fun _ => by rfl) hnk rfl UpC.upd ?_)
      refine I8 hs rfl (A38 rfl) rfl ?_
      refine P0 rfl rfl rfl (A6v (ks := ks) (s := key t) rfl qR qR UpC.upd ?_)
      refine A3x ?_
      have hat_ : at_ ts t = ks.length := by unfold at_; rw [hnm, hkl]; rfl
      have hadd : add ts t = ts ++ [t] := by unfold add; rw [hnm]; rfl
      refine jn (_ :: _ :: (B43 ++ (M28 ++ BX))) ⟨v43, rows ++ [tmc t.kind v28 t.text t.n], ks ++ [key t], B43, M28 ++ BX, rfl, by rw [hadd, hks]; simp, (by rw [show (rows ++ [tmc t.kind v28 t.text t.n]).flatten = rows.flatten ++ tmc t.kind v28 t.text t.n by simp, List.length_append]; exact hs43), by simp [hrl], ?_, ?_, ?_, ?_⟩ (kp 5 (by rw [hat_]; rfl) kn) ?_ (fun _ h => by cases h)
      · intro r hr
        rcases List.mem_append.1 hr with hr | hr
        · exact hr4 r hr
        · rw [List.mem_singleton.1 hr]; rfl
      · intro j u hj
        rw [hadd] at hj
        by_cases hlt : j < ts.length
        · rw [List.getElem?_append_left hlt] at hj
          obtain ⟨r, hr, hcr⟩ := hat j u hj
          exact ⟨r, by rw [List.getElem?_append_left qO]; exact hr, hcr.mono fun x hx => List.mem_append_right _ hx⟩
        · rw [List.getElem?_append_right qO] at hj
          have hj0 : j = ts.length := by
            have := (List.getElem?_eq_some_iff.1 hj).1
            simp at this; omega
          subst hj0
          simp at hj
          subst hj
          exact ⟨_, by rw [List.getElem?_append_right qO, show ts.length - rows.length = 0 by omega]; rfl, v28, rfl, hv28.mono fun x hx => List.mem_append_left _ hx⟩
      · intro u hu
        rw [hadd] at hu
        rcases List.mem_append.1 hu with hu | hu
        · exact hto u hu
        · rw [List.mem_singleton.1 hu]; exact ht
      · rw [hadd, List.nodup_append]
        refine ⟨hnd, by simp, fun x hx y hy e => (A5l ht hto).1 hnm ?_⟩
        rw [List.mem_singleton.1 hy] at e
        exact e ▸ hx
      · rw [List.length_append]; exact B7e
    ·
      have hsm : (pos ts t).isSome = true := by
        cases hp : pos ts t with
        | some j => rfl
        | none => rw [hks] at hc; rw [show W9 (key t) (ts.map key) 0 = none from hp] at hc; cases hc
      refine A9 ?_
      have hpl : W9 (key t) ks 0 = pos ts t := by rw [hks]; rfl
      have hadd : add ts t = ts := by unfold add; rw [hsm]; rfl
      refine jn _ ⟨v, rows, ks, Bl, BX, rfl, by rw [hadd, hks], hsl, hrl, hr4, by rw [hadd]; exact hat, by rw [hadd]; exact hto, by rw [hadd]; exact hnd⟩ (kp 5 (by rw [hpl]; unfold at_; cases hq : pos ts t with | none => rw [hq] at hsm; cases hsm | some j => rfl) kn) (Fit.sub (.cons _ (List.Sublist.refl _))) qI
  ·
    rintro M hM
    refine A3 (mv_ (as_ (A0 (D8 4) (C3 ?_))))
    exact ⟨_, _, _, K2 rfl rfl, List.Sublist.refl _, fun _ h => h, rfl, rfl, hM⟩

def tmEq (a b : Tm) : Bool := a.kind == b.kind && a.n == b.n && a.text == b.text && a.of == b.of
end Go.Proofs.YtoigcbkclcbmpaaGreatDoor
namespace Go.Px
section
variable {P : Program} {R R' : Mem} {l : Env} {d : Option Nat} {ty t : TypeId} {pos : String} {af : Array Edge} {g : Option (Nat × Bool)} {x y : Operand} {v u : Value} {sz n a off j : Nat} {xs : List Value}
theorem B5I {f : Nat} {s : TypeId} (hx : ev l x = some (vAt sz a v)) (h : Rd R' sz v n xs) (ha : a < n) (hf : A1O P s f = some off) : OpQ P R ⟨d, .fieldAddr s x f, ty, pos, af, g⟩ l (vAt 1 (a * sz + off) v) := by
  obtain ⟨p, c, rfl, h2, h3, h4⟩ := h
  rcases h4 with h4 | ⟨b, o, cs, e', fr, rfl, hb, hx'⟩
  · omega
  · simp only [vAt, Addr.add_mid, Nat.mul_one] at hx ⊢
    exact A2G _ hx hf qO
theorem B5J (hx : ev l x = some (vAt 1 j v)) (h : Rd R sz v n xs) (hn : 0 < n) (ht : X9 P t = true) (hj : xs[j]? = some u) : OpQ P R ⟨d, .load t x, ty, pos, af, g⟩ l u := by
  obtain ⟨p, c, rfl, h2, h3, h4⟩ := h
  rcases h4 with h4 | ⟨b, o, cs, e', fr, rfl, hb, hx'⟩
  · omega
  · simp only [vAt, Addr.add_mid] at hx
    refine I2 (b := b) (o := o + j * 1) hx ht hb ?_
    rw [Nat.mul_one]; exact hx' j u hj
end
end Go.Px
namespace Go.Proofs.YtoigcbkclcbmpaaGreatDoor
open Go.Px
structure TmI (t : Tm) : Prop where
  kind : t.kind < 256
  n : i64 t.n
  of : ∀ i ∈ t.of, i64 i
  ofl : t.of.length ≤ maxLen
  text : B256 t.text
  tl : t.text.length ≤ maxLen
def Rws (R : Mem) (rows : List (List Value)) (ts : List Tm) : Prop := rows.length = ts.length ∧ (∀ r ∈ rows, r.length = 4) ∧ ∀ (j : Nat) (t : Tm), ts[j]? = some t → ∃ r, rows[j]? = some r ∧ TmC R r t
theorem Rws.get {R : Mem} {rows : List (List Value)} {ts : List Tm} (h : Rws R rows ts) {j : Nat} {r : List Value} (hr : rows[j]? = some r) {k : Nat} (hk : k < 4) : rows.flatten[j * 4 + k]? = r[k]? := A2Y h.2.1 hr k hk
def fnd (ts : List Tm) (t : Tm) (k : Nat) : Int := match pos ts t with
  | some j => if j < k then (j : Int) else -1
  | none => -1
theorem A1E {ts : List Tm} {t : Tm} : (add ts t).length ≤ ts.length + 1 := by unfold add; split <;> simp
structure Pst where
  i : Nat
  ts : List Tm
  v : Value
  rows : List (List Value)
  B : Mem
  MT : Mem
structure Pok (A : Mem) (bt bm n : Nat) (s : Pst) : Prop where
  hi : s.i ≤ n
  hl : s.ts.length ≤ s.i
  tab : Tab bt bm s.ts s.MT
  sl : Sl 4 s.v s.ts.length s.rows.flatten s.B
  rw_ : Rws A s.rows s.ts

def u64 (i : Int) : Nat := (i % 18446744073709551616).toNat
def byt (i : Int) (k : Nat) : Nat := (i / ((256 ^ k : Nat) : Int) % 256).toNat
theorem C1G (i : Int) {k : Nat} (hk : k < 8) : byt i k = u64 i / 256 ^ k % 256 := by
  unfold byt u64
  rcases (show k = 0 ∨ k = 1 ∨ k = 2 ∨ k = 3 ∨ k = 4 ∨ k = 5 ∨ k = 6 ∨ k = 7 by omega) with rfl | rfl | rfl | rfl | rfl | rfl | rfl | rfl <;> simp only [Nat.reducePow] <;> omega
theorem B5K (i : Int) (k : Nat) : byt i k < 256 := by unfold byt; omega
theorem B9q (i : Int) : u64 i < 18446744073709551616 := by unfold u64; omega
def btk (i : Int) (k : Nat) : LN := 84 :: ((List.range k).map (byt i) ++ List.replicate (31 - k) 0)
def bts (i : Int) : LN := btk i 8
theorem A0C (i : Int) {k : Nat} (h : k ≤ 31) : (btk i k).length = 32 := by simp [btk]; omega
theorem B3K (i : Int) {k : Nat} (h : k < 31) : (btk i k).set (1 + k) (byt i k) = btk i (k + 1) := by
  unfold btk
  rw [show 1 + k = k + 1 by omega, List.set_cons_succ, List.set_append_right _ _ qM, List.range_succ, List.map_append]
  simp only [List.length_map, List.length_range, Nat.sub_self]
  rw [show 31 - k = (31 - (k + 1)) + 1 by omega, List.replicate_succ, List.set_cons_zero]
  simp
theorem B7f (i : Int) {k : Nat} (h : k < 8) : (bts i).getD (1 + k) 0 = byt i k := by
  unfold bts btk
  rw [show 1 + k = k + 1 by omega, List.getD_cons_succ, List.getD_eq_getElem?_getD, List.getElem?_append_left (by simpa using h)]
  simp [h]
theorem B0X (i : Int) : ∀ x ∈ bts i, x < 256 := by
  intro x hx
  simp only [bts, btk, List.mem_cons, List.mem_append, List.mem_map, List.mem_replicate] at hx
  rcases hx with rfl | ⟨k, _, rfl⟩ | ⟨_, rfl⟩
  · decide
  · exact B5K i k
  · decide
def le8 (ws : LN) : Nat → Nat
  | 0 => 0
  | k + 1 => le8 ws k + ws.getD (1 + k) 0 * 256 ^ k
theorem A5m {ws : LN} (h : ∀ x ∈ ws, x < 256) (j : Nat) : ws.getD j 0 < 256 := by
  rw [List.getD_eq_getElem?_getD]
  cases hj : ws[j]? with
  | none => decide
  | some x => exact h x (List.mem_of_getElem? hj)
theorem B0Y {ws : LN} (h : ∀ x ∈ ws, x < 256) : ∀ k, le8 ws k < 256 ^ k
  | 0 => by show 0 < 1; decide
  | k + 1 => by
    have h1 := B0Y h k
    have h2 := A5m h (1 + k)
    have h3 : ws.getD (1 + k) 0 * 256 ^ k ≤ 255 * 256 ^ k := Nat.mul_le_mul_right _ qO
    unfold le8
    rw [Nat.pow_succ]; omega
theorem B0Z (i : Int) : ∀ k, k ≤ 8 → le8 (bts i) k = u64 i % 256 ^ k
  | 0, _ => by simp [le8, Nat.mod_one]
  | k + 1, h => by
    rw [le8, B0Z i k qO, B7f i qO, C1G i qO, Nat.pow_succ, Nat.mod_mul, Nat.mul_comm (256 ^ k)]
def plc (ws : LN) (n : Nat) : Option Nat := if 32 ≤ ws.length ∧ ws.getD 0 0 = 84 ∧ (∀ c ∈ ws.drop 9, c = 0) ∧ le8 ws 8 < n then some (le8 ws 8) else none
theorem A6y {ws : LN} {n : Nat} (h : ¬ (32 ≤ ws.length ∧ ws.getD 0 0 = 84 ∧ (∀ c ∈ ws.drop 9, c = 0) ∧ le8 ws 8 < n)) : plc ws n = none := if_neg h
theorem B00 {ws : LN} {n : Nat} (h : 32 ≤ ws.length ∧ ws.getD 0 0 = 84 ∧ (∀ c ∈ ws.drop 9, c = 0) ∧ le8 ws 8 < n) : plc ws n = some (le8 ws 8) := if_pos h
theorem A8B {ws : LN} {n : Nat} (h : plc ws n = none) : Value.tuple #[.int .i64 0, .bool false] = .tuple #[.int .i64 (((plc ws n).getD 0 : Nat) : Int), .bool (plc ws n).isSome] := by rw [h]; rfl
theorem B9r {ws : LN} {n m : Nat} (h : plc ws n = some m) : Value.tuple #[.int .i64 (m : Int), .bool true] = .tuple #[.int .i64 (((plc ws n).getD 0 : Nat) : Int), .bool (plc ws n).isSome] := by rw [h]; rfl
theorem B7g {ws : LN} {n : Nat} (h : ws.length < 32) : plc ws n = none := A6y fun h' => absurd h'.1 qO
theorem B9s {ws : LN} {n : Nat} (h : ws.getD 0 0 ≠ 84) : plc ws n = none := A6y fun h' => h h'.2.1
theorem B9t {ws : LN} {n j : Nat} (hj : j < (ws.drop 9).length) (h : (ws.drop 9).getD j 0 ≠ 0) : plc ws n = none := A6y fun h' => h (h'.2.2.1 _ (by rw [List.getD_eq_getElem?_getD, List.getElem?_eq_getElem hj]; exact List.getElem_mem hj))
theorem B9u {ws : LN} {n m : Nat} (h8 : le8 ws 8 = m) (h : n ≤ m) : plc ws n = none := A6y fun h' => by
  have := h'.2.2.2
  rw [h8] at this
  exact absurd this (Nat.not_lt.2 h)
theorem B3L {ws : LN} {n m : Nat} (h8 : le8 ws 8 = m) (h1 : 32 ≤ ws.length) (h2 : ws.getD 0 0 = 84) (h3 : ∀ c ∈ ws.drop 9, c = 0) (h : m < n) : plc ws n = some m := by
  rw [B00 ⟨h1, h2, h3, by rw [h8]; exact h⟩, h8]
theorem A2w (i : Int) (n : Nat) : plc (bts i) n = if u64 i < n then some (u64 i) else none := by
  have e : le8 (bts i) 8 = u64 i := by rw [B0Z i 8 qO]; exact Nat.mod_eq_of_lt (B9q i)
  have hd : ∀ c ∈ (bts i).drop 9, c = 0 := by
    intro c hc
    unfold bts btk at hc
    rw [List.drop_succ_cons, List.drop_append_of_le_length qM] at hc
    simp only [List.mem_append] at hc
    rcases hc with hc | hc
    · rw [List.drop_of_length_le qM] at hc; cases hc
    · exact (List.mem_replicate.1 hc).2
  unfold plc
  rw [e, A0C i (k := 8) qO |> (fun h => (h : (bts i).length = 32))]
  by_cases h : u64 i < n
  · rw [if_pos h, if_pos ⟨by omega, rfl, hd, h⟩]
  · rw [if_neg h, if_neg (fun h' => h h'.2.2.2)]
theorem B7h {n w k : Nat} (h : n < 2 ^ k) : n ||| w * 2 ^ k = n + w * 2 ^ k := by
  have := Nat.two_pow_add_eq_or_of_lt h w
  rw [Nat.mul_comm w, Nat.or_comm, Nat.add_comm n]; exact this.symm
theorem C1H {ws : LN} (h : ∀ x ∈ ws, x < 256) {k : Nat} (hk : k < 8) : ws.getD (1 + k) 0 * 2 ^ (8 * k) < 18446744073709551616 := by
  have h2 := A5m h (1 + k)
  have hpk : (256 : Nat) ^ k ≤ 256 ^ 7 := Nat.pow_le_pow_right qD qO
  have hmk : ws.getD (1 + k) 0 * 256 ^ k ≤ 255 * 256 ^ 7 := Nat.mul_le_mul qO hpk
  rw [Nat.pow_mul]
  exact Nat.lt_of_le_of_lt hmk qD
theorem C1I {ws : LN} (h : ∀ x ∈ ws, x < 256) {k : Nat} (hk : k < 8) : le8 ws k < 18446744073709551616 :=
  Nat.lt_of_lt_of_le (B0Y h k) (Nat.le_trans (Nat.pow_le_pow_right qD (show k ≤ 7 by omega)) qD)
theorem B9v {ws : LN} (h : ∀ x ∈ ws, x < 256) (k : Nat) : le8 ws k ||| ws.getD (1 + k) 0 * 2 ^ (8 * k) = le8 ws (k + 1) := by
  rw [B7h (by rw [Nat.pow_mul]; exact B0Y h k), Nat.pow_mul]; rfl
end Go.Proofs.YtoigcbkclcbmpaaGreatDoor
namespace Go.Px
theorem B9w {P : Program} {R : Mem} {l : Env} {d : Option Nat} {ty t t' : TypeId} {pos : String} {af : Array Edge} {g : Option (Nat × Bool)} {x y : Operand} {a b : Nat} (hx : ev l x = some (.int .u64 (a : Int))) (hy : ev l y = some (.int .u64 (b : Int))) (ha : a < 18446744073709551616) (hb : b < 18446744073709551616) : OpQ P R ⟨d, .binOp .or t x y t', ty, pos, af, g⟩ l (.int .u64 ((a ||| b : Nat) : Int)) := B5A rfl hx hy ha hb
section
variable {P : Program} {R R' : Mem} {l : Env} {d : Option Nat} {ty t t' : TypeId} {pos : String} {af : Array Edge} {g : Option (Nat × Bool)} {x y : Operand} {i j : Int} {k : Nat}
theorem B5L (hx : ev l x = some (.int .i64 i)) (hy : ev l y = some (.int .i64 j)) (hj : j = ((8 * k : Nat) : Int)) (hk : k < 8) : OpQ P R ⟨d, .binOp .shr t x y t', ty, pos, af, g⟩ l (.int .i64 (i / ((256 ^ k : Nat) : Int))) := by
  subst hj
  have h := B8W (P := P) (R := R) (d := d) (ty := ty) (pos := pos) (af := af) (g := g) (t := t) (t' := t') hx hy qO
  rw [Int.toNat_natCast, Nat.min_eq_left (show 8 * k ≤ IntKind.i64.bits by show 8 * k ≤ 64; omega)] at h
  rw [show (256 ^ k : Nat) = 2 ^ (8 * k) by rw [Nat.pow_mul], Int.natCast_pow, ← Int.fdiv_eq_ediv_of_nonneg _ (Int.pow_nonneg qD)]
  exact h
theorem B5M {s : TypeId} (hx : ev l x = some (.int .i64 i)) (hc : A4T P s t = some .u8) : OpQ P R ⟨d, .convert s t x, ty, pos, af, g⟩ l (.int .u8 (((i % 256).toNat : Nat) : Int)) := by
  refine A41 _ hx hc ?_
  unfold IntKind.wrap
  simp only [IntKind.signed, IntKind.bits, Bool.false_and, Bool.false_eq_true, if_false]
  omega
end
end Go.Px
namespace Go.Proofs.YtoigcbkclcbmpaaGreatDoor
open Go.Px
theorem A9G (i : Int) (A : Mem) : FnX Tryz.prog 17 [.int .i64 i] [] A fun r M J => J = [] ∧ Sl 1 r 32 (nums .u8 (bts i)) M := by
 skip
 refine FnX.enter (N := 22) Tryz.func17 rfl rfl rfl fun w => ?_
 refine C4 (D8 0) (A3 (as_ (A0 (D8 0) (A3 ?_))))
 refine A6 rfl (B61 (a := 32) (e := 5) (k := .u8) (by_ := 1) rfl rfl kR rfl rfl qO qO rfl fun v5 B5 hs5 => ?_)
 refine as_ (A0 (D5 0 3) (A3 (mv_ ?_)))
 refine A4 (K0 (sz := 1) (a := 0) rfl rfl kR rfl (by first | assumption | exact Sl.rd (by assumption) qI | exact By.rd (by assumption)) qO) rfl ?_
 refine A6 rfl (B0F (u := 84) rfl rfl rfl kR hs5 qD qP fun B5b hs5b => ?_)
 refine A0 (D5 0 3) (A5 (A3 (mv_ (A0 (E2 0 3 8) (C0 ?_)))))
 refine F2 (α := Nat × Mem) (fun s => [(0, .int .i64 i), (3, v5), (8, .int .i64 (s.1 : Int))]) (fun s => s.2) (fun _ => []) (fun s => s.1 ≤ 8 ∧ Sl 1 v5 32 (nums .u8 (btk i s.1)) s.2) (fun s => 8 - s.1) ⟨0, B5b⟩ ⟨Nat.zero_le _, hs5b⟩ (E2 0 3 8) (Fit.eq qM) qI ?_
 rintro ⟨k, B⟩ ⟨hk, hs⟩
 dsimp only at hk hs ⊢
 haveI := hs.cel
 refine A3 ?_
 refine A4 (F1 rfl rfl rfl) rfl ?_
 refine A0 (E7 0 3 8 9) (A5 ?_)
 refine C7 rfl ?_ ?_ <;> intro hc
 ·
  have hlt : k < 8 := by simp at hc; omega
  refine A9 (nx (E2 0 3 8) (A5 (C0 (A3 (mv_ (as_ (A0 (E7 0 3 4 8) (C2 ?_))))))))
  refine mv_ (mv_ ?_)
  refine A4 (N8 (a := 1) rfl rfl rfl rfl qO) rfl ?_
  refine mv_ (mv_ ?_)
  refine A4 (A1q (a := 8) rfl rfl rfl rfl qO) rfl ?_
  refine A4 (B5L (k := k) rfl rfl rfl hlt) rfl ?_
  refine A4 (B5M rfl kR) rfl ?_
  refine A4 (K0 (sz := 1) rfl rfl kR rfl (by first | assumption | exact Sl.rd (by assumption) qI | exact By.rd (by assumption)) qO) rfl ?_
  refine A6 rfl (B0F (u := byt i k) rfl rfl rfl kR hs qO qP fun B6 hs6 => ?_)
  rw [B3K i qO] at hs6
  refine D0 (nb (nx (E2 0 3 8) (C2 ?_)))
  refine A4 (N8 (b := 1) rfl rfl rfl rfl qO) rfl ?_
  refine mv_ (D0 ?_)
  exact rn ⟨k + 1, B6⟩ ⟨by dsimp only; omega, hs6⟩ (by dsimp only; omega) (E2 0 3 8) (Fit.eq qM) qI
 ·
  have hge : k = 8 := by simp at hc; omega
  subst hge
  refine E6 (te (re (be rfl (nx (D8 3) (A3 (mv_ (as_ (A0 (D8 2) ?_))))))))
  refine C3 ?_
  exact ⟨_, B, [], K2 rfl rfl, by first | exact List.Sublist.refl _ | simp, by simp, rfl, hs⟩
theorem A2x (bt bm : Nat) (ts : List Tm) (vp : Value) (ws : LN) (MT A : Mem) (hT : Tab bt bm ts MT) (hsub : ∀ x, x ∈ MT → x ∈ A) (hn : ts.length ≤ 1048576) (hp : Rd A 1 vp ws.length (nums .u8 ws)) (hw : ∀ x ∈ ws, x < 256) (hl : ws.length ≤ maxLen) : FnV Tryz.prog 44 [(vP bt), vp] A (.tuple #[.int .i64 (((plc ws ts.length).getD 0 : Nat) : Int), .bool (plc ws ts.length).isSome]) := by
 haveI := hp.cel
 have hmx : maxLen < 9223372036854775808 := by unfold maxLen; omega
 refine FnX.enter (N := 51) Tryz.func44 rfl rfl rfl fun w => ?_
 refine C4 (D5 0 1) (A3 (as_ (as_ (A0 (D5 0 1) (A5 (A3 (mv_ ?_)))))))
 refine A4 (K1 (sz := 1) rfl kR hp) rfl ?_
 refine A4 (F1 rfl rfl rfl) rfl ?_
 refine mv_ ?_
 refine A0d (t := 13) rfl (fun hb => ?_) (fun hb => ?_)
 ·
  refine L9 rfl rfl rfl rfl ?_
  refine L9 rfl rfl rfl rfl ?_
  refine L9 rfl rfl rfl rfl ?_
  refine L9 rfl rfl rfl rfl ?_
  refine A4 (I5 rfl rfl) rfl ?_
  refine A0 (E2 0 1 18) ?_
  refine E0 rfl ?_
  refine A3 (as_ (as_ (A0 (D5 4 5) (C3 (tr ?_)))))
  refine ⟨_, [], [], A7m rfl rfl rfl, List.nil_sublist _, by simp, A8B (B7g (by simp at hb; omega)), rfl, rfl⟩
 ·
  have h32 : 32 ≤ ws.length := by simp at hb; omega
  have h0 : ws.getD 0 0 = (ws.getD 0 0) := rfl
  refine G2 rfl rfl (OpQ.opL qm_ rfl ?_)
  refine G2 rfl rfl (OpQ.opL (K0 (sz := 1) (a := 0) rfl rfl kR rfl hp qO) rfl ?_)
  refine G2 rfl rfl (OpQ.opL (A6g (j := 0) (Rd.mono hp qS) rfl kR qO) rfl ?_)
  refine G2 rfl rfl (OpQ.opL (F1 rfl rfl rfl) rfl ?_)
  refine A4 (E9 rfl rfl) rfl ?_
  refine A0 (E2 0 1 18) ?_
  refine C7 rfl ?_ ?_ <;> intro hc
  ·
   have h84 : ws.getD 0 0 ≠ 84 := by have := bne_iff_ne.1 hc; omega
   refine A3 (as_ (as_ (A0 (D5 4 5) (C3 (tr ?_)))))
   refine ⟨_, [], [], A7m rfl rfl rfl, List.nil_sublist _, by simp, A8B (B9s h84), rfl, rfl⟩
  ·
   have h84 : ws.getD 0 0 = 84 := by have h := hc; rw [bne_eq_false_iff_eq] at h; omega
   refine A9 (nx (D5 0 1) (A3 (as_ (A0 (E2 0 1 6) (A5 (A3 (mv_ ?_)))))))
   refine A0 (E7 0 1 6 19) (C0 ?_)
   refine F2 (α := Nat) (fun k => [(0, (vP bt)), (1, vp), (6, .int .u64 ((le8 ws k : Nat) : Int)), (19, .int .i64 (k : Int))]) (fun _ => []) (fun _ => []) (fun k => k ≤ 8) (fun k => 8 - k) 0 qD (E7 0 1 6 19) (Fit.eq qM) qI ?_
   rintro k hk
   refine A3 ?_
   refine A4 (F1 rfl rfl rfl) rfl ?_
   refine A0 (F5 0 1 6 19 20) (A5 ?_)
   refine C7 rfl ?_ ?_ <;> intro hc
   ·
    have hlt : k < 8 := by simp at hc; omega
    have hwk := A5m hw (1 + k)
    have h8w := C1H hw hlt
    have h8n := C1I hw hlt
    refine A9 (nx (E7 0 1 6 19) (A5 (C0 (A3 (mv_ (as_ (A0 (F5 0 1 6 7 19) (C2 ?_))))))))
    refine mv_ (mv_ (mv_ ?_))
    refine A4 (N8 (a := 1) rfl rfl rfl rfl qO) rfl ?_
    refine A4 (K0 (sz := 1) rfl rfl kR rfl hp qO) rfl ?_
    refine A4 (A6g (Rd.mono hp qS) rfl kR qO) rfl ?_
    refine A4 (Q3 (ws.getD (1 + k) 0) rfl kR (by rw [A8l, Nat.mod_eq_of_lt qO])) rfl ?_
    refine mv_ ?_
    refine A4 (A1q (a := 8) rfl rfl rfl rfl qO) rfl ?_
    refine A4 (B9h 18446744073709551616 rfl qD rfl rfl rfl rfl (by show 8 * k ≤ 64; omega)) rfl ?_
    rw [Nat.mod_eq_of_lt h8w]
    refine A4 (B9w rfl rfl h8n h8w) rfl ?_
    rw [B9v hw k]
    refine as_ (D0 (nb (nx (E7 0 1 6 19) (C2 ?_))))
    refine A4 (N8 (b := 1) rfl rfl rfl rfl qO) rfl ?_
    refine mv_ (D0 ?_)
    exact rn (k + 1) qO qO (E7 0 1 6 19) (Fit.eq qM) qI
   ·
    have hge : k = 8 := by simp at hc; omega
    subst hge
    generalize h8 : le8 ws 8 = n8
    refine E6 (te (re (be rfl (nx (E2 0 1 6) (A5 (A3 (mv_ ?_)))))))
    refine A4 (A8s (sz := 1) (a := 9) rfl rfl kR rfl hp qO) rfl ?_
    have hq := hp.loV 9 qO
    rw [Nat.mul_one, ← A0r] at hq
    generalize vLo 9 1 vp = vq at *
    haveI := hq.cel
    refine A4 (K1 (sz := 1) rfl kR hq) rfl ?_
    refine mv_ (A0 (F5 0 6 35 36 37) (C0 ?_))
    refine F2 (α := Nat) (fun j => [(0, (vP bt)), (6, .int .u64 ((n8 : Nat) : Int)), (35, vq), (36, .int .i64 ((ws.length - 9 : Nat) : Int)), (37, .int .i64 (j : Int))]) (fun _ => []) (fun _ => []) (fun j => j ≤ ws.length - 9 ∧ ∀ c ∈ (ws.drop 9).take j, c = 0) (fun j => ws.length - 9 - j) 0 ⟨Nat.zero_le _, fun c h => by simp at h⟩ (F5 0 6 35 36 37) (Fit.eq qM) qI ?_
    rintro j ⟨hj, hz⟩
    refine A3 ?_
    refine A4 (F1 rfl rfl rfl) rfl ?_
    refine A0 (I1 0 6 35 36 37 38) (A5 ?_)
    refine C7 rfl ?_ ?_ <;> intro hc
    ·
     have hlt : j < ws.length - 9 := by simp at hc; omega
     have hjw : j < (ws.drop 9).length := by rw [List.length_drop]; exact hlt
     have hwj := A5m (ws := ws.drop 9) (fun x hx => hw x (List.mem_of_mem_drop hx)) j
     refine A9 (nx (F5 0 6 35 36 37) (A5 (C0 (A3 ?_))))
     refine A4 (K0 (sz := 1) rfl rfl kR rfl hq hlt) rfl ?_
     refine A4 (A6g (Rd.mono hq qS) rfl kR hlt) rfl ?_
     refine as_ (A0 (I1 0 6 9 35 36 37) (A3 (mv_ ?_)))
     refine A4 (F1 rfl rfl rfl) rfl ?_
     refine A0 (I1 0 6 35 36 37 42) ?_
     refine C7 rfl ?_ ?_ <;> intro hc
     ·
      have hne : (ws.drop 9).getD j 0 ≠ 0 := by have := bne_iff_ne.1 hc; omega
      refine A3 (as_ (as_ (A0 (D5 4 5) (C3 (br (tr (rr (br ?_))))))))
      refine tr ?_
      refine ⟨_, [], [], A7m rfl rfl rfl, List.nil_sublist _, by simp, A8B (B9t hjw hne), rfl, rfl⟩
     ·
      have he0 : (ws.drop 9).getD j 0 = 0 := by have h := hc; rw [bne_eq_false_iff_eq] at h; omega
      refine A9 (nb (nx (F5 0 6 35 36 37) (C2 ?_)))
      refine A4 (N8 (b := 1) rfl rfl rfl rfl qO) rfl ?_
      refine mv_ (D0 ?_)
      exact rn (j + 1) ⟨by omega, fun c h => by rw [List.take_add_one, List.getElem?_eq_getElem hjw] at h; rcases List.mem_append.1 h with h | h; exact hz c h; simp at h; rw [List.getD_eq_getElem?_getD, List.getElem?_eq_getElem hjw] at he0; simp at he0; omega⟩ qO (F5 0 6 35 36 37) (Fit.eq qM) qI
    ·
     have hge : j = ws.length - 9 := by simp at hc; omega
     subst hge
     have hzz : ∀ c ∈ ws.drop 9, c = 0 := by rwa [List.take_of_length_le (by rw [List.length_drop]; exact Nat.le_refl _)] at hz
     refine E6 (te (re (be rfl (nx (D5 0 6) (A5 (A3 (mv_ (mv_ ?_))))))))
     refine F6 (aS rfl a0) kR (B0V bt bm ts MT _ hT (fun x hx => mA (hsub x hx))) rfl ?_
     refine A4 (Q3 ts.length rfl kR (by rw [A8l, Nat.mod_eq_of_lt qO])) rfl ?_
     refine A4 (F1 rfl rfl rfl) rfl ?_
     refine A0 (D5 6 48) ?_
     refine C7 rfl ?_ ?_ <;> intro hc
     ·
      have hge : ts.length ≤ n8 := by simp at hc; omega
      refine A3 (as_ (as_ (A0 (D5 4 5) (C3 (tr ?_)))))
      refine ⟨_, [], [], A7m rfl rfl rfl, List.nil_sublist _, by simp, A8B (B9u h8 hge), rfl, rfl⟩
     ·
      have hltn : n8 < ts.length := by simp at hc; omega
      refine A9 (nx (D8 6) (A3 (mv_ ?_)))
      refine A4 (Q3 n8 rfl kR (A2r qO)) rfl ?_
      refine as_ (as_ (A0 (D5 4 5) (C3 ?_)))
      refine ⟨_, [], [], A7m rfl rfl rfl, List.nil_sublist _, by simp, B9r (B3L h8 h32 h84 hzz hltn), rfl, rfl⟩

def B5N (ws : LN) : Tm := ⟨2, [], ws, 0⟩
def rdT (ts : List Tm) (ws : LN) : List Tm := match plc ws ts.length with
  | some _ => ts
  | none => add ts (B5N ws)
def rdI (ts : List Tm) (ws : LN) : Nat := match plc ws ts.length with
  | some j => j
  | none => at_ ts (B5N ws)
theorem A3F {ws : LN} (h : ∀ x ∈ ws, x < 256) (hl : ws.length ≤ 1099511627776) : Tmo (B5N ws) := ⟨show 2 < 256 by decide, show i64 0 by unfold i64; omega, fun i hi => (List.not_mem_nil hi).elim, show 0 ≤ 1048576 by decide, ⟨h⟩, hl⟩
theorem V6 {ts : List Tm} {ws : LN} {j : Nat} (h : plc ws ts.length = some j) : rdT ts ws = ts ∧ rdI ts ws = j := by unfold rdT rdI; rw [h]; exact ⟨rfl, rfl⟩
theorem X0 {ts : List Tm} {ws : LN} (h : plc ws ts.length = none) : rdT ts ws = add ts (B5N ws) ∧ rdI ts ws = at_ ts (B5N ws) := by unfold rdT rdI; rw [h]; exact ⟨rfl, rfl⟩
theorem A8C {ws : LN} {n j : Nat} (h : plc ws n = some j) : j < n ∧ ∀ m, j < m → plc ws m = some j := by
  unfold plc at h
  split at h
  · rename_i hc
    have e := Option.some.inj h
    subst e
    exact ⟨hc.2.2.2, fun m hm => B00 ⟨hc.1, hc.2.1, hc.2.2.1, hm⟩⟩
  · cases h
theorem A8D {ts : List Tm} {t : Tm} (h : pos ts t = none) : add ts t = ts ++ [t] ∧ at_ ts t = ts.length := by unfold add at_; rw [h]; exact ⟨rfl, rfl⟩
theorem A5n {ts : List Tm} {t : Tm} {j : Nat} (h : pos ts t = some j) : add ts t = ts ∧ at_ ts t = j := by unfold add at_; rw [h]; exact ⟨rfl, rfl⟩
def atoms (k : Nat) : List Tm := (List.range k).map fun (j : Nat) => (⟨1, [], [], (j : Int)⟩ : Tm)
theorem A6z (bt bm : Nat) (ts : List Tm) (vp : Value) (ws : LN) (MT A : Mem) (hT : Tab bt bm ts MT) (hn : ts.length ≤ 1048576) (hp : Rd A 1 vp ws.length (nums .u8 ws)) (hw : ∀ x ∈ ws, x < 256) (hl : ws.length ≤ 1099511627776) {e4 : TypeId} {f4 : Nat × Nat} (h4 : (2, Obj.cells (nums .u64 A0R).toArray e4 f4) ∈ A) : FnX Tryz.prog 36 [(vP bt), vp] MT A fun r M J => J = [] ∧ r = .int .i64 ((rdI ts ws : Nat) : Int) ∧ Tab bt bm (rdT ts ws) M := by
 haveI := hp.cel
 haveI : B256 ws := ⟨hw⟩
 refine FnX.enter (N := 20) Tryz.func36 rfl rfl rfl fun w => ?_
 refine C4 (D5 0 1) (A3 (as_ (A0 (D5 0 1) (A5 (A3 (mv_ (mv_ ?_)))))))
 refine F6 (aS rfl (aS rfl a0)) kR (A2x bt bm ts vp ws MT _ hT qS hn (hp.mono qS) hw (Nat.le_trans hl (by unfold maxLen; omega))) rfl ?_
 refine mv_ ?_
 refine A4 (A4e rfl) rfl ?_
 refine A4 (A38 rfl) rfl ?_
 refine as_ (as_ (A0 (E7 0 1 5 6) (A3 (mv_ (A0 (E7 0 1 5 13) ?_)))))
 refine C7 rfl ?_ ?_ <;> intro hc
 ·
  obtain ⟨j, hj⟩ := Option.isSome_iff_exists.1 hc
  obtain ⟨h1, h2⟩ := V6 hj
  refine A3 (mv_ (as_ (A0 (D8 4) (C3 (tr ?_)))))
  exact ⟨_, MT, [], K2 rfl rfl, List.Sublist.refl _, by simp, rfl, by rw [h2, hj]; rfl, by rw [h1]; exact hT⟩
 ·
  have hj : plc ws ts.length = none := by simpa using hc
  obtain ⟨h1, h2⟩ := X0 hj
  refine A9 (nx (D5 0 1) (A3 (mv_ (mv_ ?_))))
  refine A4 (A0z rfl kR (hp.mono qS)) rfl ?_
  refine A4 (F3 (place := fun x => #[(0, 1), (1, 1), (2, 1), (3, 1)][x]?) (z := [.int .u8 0, vS, .string ByteArray.empty, .int .i64 0]) (fun _ => by kernel_rfl) (eS rfl (eS rfl e0)) (bdS 0 1 rfl qR (bdS 2 1 rfl qR bd0))) rfl ?_
  refine A6 rfl (E1 (Mc := MT) (R := _) (aS rfl (aS rfl a0)) kR qP (U4 bt bm ts (vS) (B5N ws) MT _ hT hn Rd.nil (A3F hw hl) (qS _ h4)) rfl ?_)
  rintro v19 M19 J19 ⟨rfl, rfl, hT19⟩
  refine as_ (A0 (D8 4) (C3 ?_))
  exact ⟨_, M19, [], K2 rfl rfl, by first | exact List.Sublist.refl _ | simp, by simp, rfl, by rw [h2], by rw [h1]; exact hT19⟩
theorem U5 {ts : List Tm} {ws : LN} : (rdT ts ws).length ≤ ts.length + 1 := by
  unfold rdT
  split
  · omega
  · exact A1E
def srt (x y : Int) : List Int := if y < x then [y, x] else [x, y]
def two (j : Nat) (x y : Int) : List Int := if j = 1 then [x, y] else [y, x]
def B9x (i : Nat) (x y : Int) : List Int := if i = 1 then [x, y] else srt x y
theorem A1t {R : Mem} {b j : Nat} {x y : Int} {e : TypeId} {fr : Nat × Nat} (h : (b, Obj.cells (A1s (two j x y)).toArray e fr) ∈ R) : Rd R 1 (.slice (some ⟨b, 0, none⟩) 2 2) 2 (A1s (two j x y)) := Rd.whole (n := 2) h (by unfold two; split <;> rfl)
theorem A9H (x : Int) (A : Mem) : FnV Tryz.prog 135 [.int .i64 x] A (.bool false) := by
 refine FnX.enter (N := 6) Tryz.func135 rfl rfl rfl fun w => ?_
 refine C4 (D8 0) (A3 (as_ (A0 (D8 0) (A3 (mv_ (mv_ ?_))))))
 refine A4 (F1 (v := .bool false) rfl rfl (by simp [K4])) rfl ?_
 refine as_ (A0 (D8 2) (C3 ?_))
 refine ⟨_, [], [], K2 rfl rfl, List.nil_sublist _, by simp, rfl, rfl, rfl⟩
theorem B01 (x y : Int) (A : Mem) : FnV Tryz.prog 119 [.int .i64 x, .int .i64 y] A (.bool (decide (x < y))) := by
 refine FnX.enter (N := 17) Tryz.func119 rfl rfl rfl fun w => ?_
 refine C4 (D5 0 1) (A3 (as_ (A0 (D5 0 1) (A3 (mv_ ?_)))))
 refine F6 (aS rfl a0) kR (A9H x _) rfl ?_
 refine mv_ ?_
 refine L9 rfl rfl rfl rfl ?_
 refine L9 rfl rfl rfl rfl ?_
 refine L9 rfl rfl rfl rfl ?_
 refine A4 (E9 rfl rfl) rfl ?_
 refine mv_ ?_
 refine G2 rfl rfl (OpQ.opL qm_ rfl ?_)
 refine G2 rfl rfl (OpQ.opL qm_ rfl ?_)
 refine G2 rfl rfl (OpQ.opL (F1 rfl rfl rfl) rfl ?_)
 refine A4 (E9 rfl rfl) rfl ?_
 refine as_ (A0 (D8 4) (C3 ?_))
 refine ⟨_, [], [], K2 rfl rfl, List.nil_sublist _, by simp, rfl, rfl, rfl⟩
theorem B3M (b : Nat) (x y : Int) (A : Mem) : FnX Tryz.prog 113 [.slice (some ⟨b, 0, none⟩) 2 2, .int .i64 0, .int .i64 2] [(b, blk (A1s ([x, y])) 3)] A fun r M J => J = [] ∧ r = .tuple #[] ∧ M = [(b, blk (A1s (srt x y)) 3)] := by
 refine FnX.enter (N := 49) Tryz.func113 rfl rfl rfl fun w => ?_
 refine C4 (E2 0 1 2) (A3 (mv_ ?_))
 refine A4 (N8 (a := 0) (b := 1) rfl rfl rfl rfl qO) rfl ?_
 refine as_ (A0 (E7 0 1 2 6) (C0 ?_))
 refine F2 (α := Nat) (fun i => [(0, .slice (some ⟨b, 0, none⟩) 2 2), (1, .int .i64 0), (2, .int .i64 2), (6, .int .i64 (i : Int))]) (fun i => [(b, blk (A1s (B9x i x y)) 3)]) (fun _ => []) (fun i => i = 1 ∨ i = 2) (fun i => 2 - i) 1 (.inl rfl) (E7 0 1 2 6) .rfl qI ?_
 rintro i hi
 refine A5 (A3 (mv_ (mv_ ?_)))
 refine A4 (F1 rfl rfl rfl) rfl ?_
 refine A0 (F5 0 1 2 6 12) ?_
 refine C7 rfl ?_ ?_ <;> intro hc
 ·
  obtain rfl : i = 1 := by simp at hc; omega
  refine A9 (nx (E7 0 1 2 6) (A5 (C0 (A3 (mv_ (as_ (A0 (F5 0 1 2 6 7) (C0 ?_))))))))
  refine F2 (α := Nat) (fun j => [(0, .slice (some ⟨b, 0, none⟩) 2 2), (1, .int .i64 0), (2, .int .i64 2), (6, .int .i64 1), (7, .int .i64 (j : Int))]) (fun j => [(b, blk (A1s (two j x y)) 3)]) (fun _ => []) (fun j => j = 1 ∨ (j = 0 ∧ y < x)) (fun j => j) 1 (.inl rfl) (F5 0 1 2 6 7) .rfl qI ?_
  rintro j hj
  refine A5 ?_
  refine D2 (.range 15) (zp 0 [0, 0, 0, 0, 0, 0, 0, 1, 0, 0, 0, 0, 1, 2, 0]) kR kR fun hs => ?_
  refine fm_ hs ?_
  refine fm_ hs ?_
  refine D1 hs rfl (F1 rfl rfl rfl) rfl ?_
  refine fm_ hs ?_
  refine W8 (t := 19) rfl (fun hb => ?_) (fun hb => ?_)
  ·
   obtain rfl : j = 1 := by have := of_decide_eq_true hb; omega
   refine L6 hs rfl rfl rfl rfl qm_ rfl ?_
   refine L6 hs rfl rfl rfl rfl qm_ rfl ?_
   refine L6 hs rfl rfl rfl rfl (K0 (sz := 1) (a := 1) rfl rfl kR rfl (A1t (R := [_]) (j := 1) (x := x) (y := y) (e := 3) (fr := (0, 0)) qK) qD) rfl ?_
   refine Y6 hs rfl rfl rfl rfl (A00 (j := 1) (u := .int .i64 y) (A1t At.mem) rfl kR rfl) rfl ?_
   refine L6 hs rfl rfl rfl rfl qm_ rfl ?_
   refine L6 hs rfl rfl rfl rfl qm_ rfl ?_
   refine L6 hs rfl rfl rfl rfl (S5 (a := 1) (b := 1) rfl rfl rfl rfl qO qO) rfl ?_
   refine L6 hs rfl rfl rfl rfl (K0 (sz := 1) (a := 0) rfl rfl kR rfl (A1t (R := [_]) (j := 1) (x := x) (y := y) (e := 3) (fr := (0, 0)) qK) qD) rfl ?_
   refine Y6 hs rfl rfl rfl rfl (A00 (j := 0) (u := .int .i64 x) (A1t At.mem) rfl kR rfl) rfl ?_
   refine A1Z rfl rfl rfl rfl (aS rfl (aS rfl a0)) kR (B01 y x _) rfl ?_
   refine D1 hs rfl (I5 rfl rfl) rfl ?_
   refine E4 (I1 0 1 2 6 7 30) ?_
   refine C7 rfl ?_ ?_ <;> intro hc
   ·
    have hyx : y < x := by simpa using hc
    refine A9 (nx (F5 0 1 2 6 7) (A5 (C0 ?_)))
    refine I9 [0, 1, 2, 3, 4, 5, 6, 7, 8, 9, 10, 11, 12, 13, 14, 16] (zp 0 [0, 0, 0, 0, 0, 0, 0, 0, 0, 1, 0, 0, 0, 1, 0, 2, 0, 2]) kR kR fun hs => ?_
    refine fm_ hs ?_
    refine fm_ hs ?_
    refine fm_ hs ?_
    refine fm_ hs ?_
    refine D1 hs rfl (S5 (a := 1) (b := 1) rfl rfl rfl rfl qO qO) rfl ?_
    refine fm_ hs ?_
    refine fm_ hs ?_
    refine D1 hs rfl (S5 (a := 1) (b := 1) rfl rfl rfl rfl qO qO) rfl ?_
    refine D1 hs rfl (K0 (sz := 1) (a := 0) rfl rfl kR rfl (A1t (R := [_]) (j := 1) (x := x) (y := y) (e := 3) (fr := (0, 0)) qK) qD) rfl ?_
    refine F7 hs rfl (A00 (j := 0) (u := .int .i64 x) (A1t At.mem) rfl kR rfl) rfl ?_
    refine fm_ hs ?_
    refine fm_ hs ?_
    refine D1 hs rfl (K0 (sz := 1) (a := 1) rfl rfl kR rfl (A1t (R := [_]) (j := 1) (x := x) (y := y) (e := 3) (fr := (0, 0)) qK) qD) rfl ?_
    refine F7 hs rfl (A00 (j := 1) (u := .int .i64 y) (A1t At.mem) rfl kR rfl) rfl ?_
    refine D1 hs rfl (K0 (sz := 1) (a := 1) rfl rfl kR rfl (A1t (R := [_]) (j := 1) (x := x) (y := y) (e := 3) (fr := (0, 0)) qK) qD) rfl ?_
    refine G5 rfl rfl rfl (D6 (show ev _ _ = some (.pointer (some ⟨b, 1, none⟩)) from rfl) rfl rfl kR (show SetL [.int .i64 x, .int .i64 y] 1 (.int .i64 x) [.int .i64 x, .int .i64 x] from SetC.set) UpC.upd ?_)
    refine D1 hs rfl (K0 (sz := 1) (a := 0) rfl rfl kR rfl (A1t (R := [_]) (j := 1) (x := x) (y := y) (e := 3) (fr := (0, 0)) qK) qD) rfl ?_
    refine G5 rfl rfl rfl (D6 (show ev _ _ = some (vP b) from rfl) rfl rfl kR (show SetL [.int .i64 x, .int .i64 x] 0 (.int .i64 y) [.int .i64 y, .int .i64 x] from SetC.set) UpC.upd ?_)
    refine V3 (nb (nx (F5 0 1 2 6 7) (C2 (mv_ ?_))))
    refine A4 (S5 (a := 1) (b := 1) rfl rfl rfl rfl qO qO) rfl ?_
    refine as_ (D0 ?_)
    exact rn 0 (.inr ⟨rfl, hyx⟩) qD (F5 0 1 2 6 7) .rfl qI
   ·
    have hyx : ¬ y < x := by simpa using hc
    refine E6 (te (re (be rfl (nb (nx (E7 0 1 2 6) (C2 (mv_ ?_)))))))
    refine A4 (N8 (a := 1) (b := 1) rfl rfl rfl rfl qO) rfl ?_
    refine as_ (D0 ?_)
    exact rn 2 (.inr rfl) qD (E7 0 1 2 6) (by rw [show B9x 2 x y = [x, y] by unfold B9x srt; simp [hyx]]; exact .rfl) qI
  ·
   obtain ⟨rfl, hyx⟩ : j = 0 ∧ y < x := by have := of_decide_eq_false hb; omega
   refine L7 hs ?_
   refine L7 hs ?_
   refine L7 hs ?_
   refine U8 hs ?_
   refine L7 hs ?_
   refine L7 hs ?_
   refine L7 hs ?_
   refine L7 hs ?_
   refine U8 hs ?_
   refine A7A hs rfl rfl rfl rfl rfl rfl ?_
   refine D1 hs rfl (E9 rfl rfl) rfl ?_
   refine E4 (I1 0 1 2 6 7 30) ?_
   refine D3 rfl ?_
   refine E6 (te (re (be rfl (nb (nx (E7 0 1 2 6) (C2 (mv_ ?_)))))))
   refine A4 (N8 (a := 1) (b := 1) rfl rfl rfl rfl qO) rfl ?_
   refine as_ (D0 ?_)
   exact rn 2 (.inr rfl) qD (E7 0 1 2 6) (by rw [show B9x 2 x y = [y, x] by unfold B9x srt; simp [hyx]]; exact .rfl) qI
 ·
  obtain rfl : i = 2 := by simp at hc; omega
  refine E6 (te (re (be rfl ?_)))
  exact ⟨_, _, [], B8O rfl, List.Sublist.refl _, by simp, rfl, rfl, rfl⟩
theorem B3N (b : Nat) (x y n : Int) (A : Mem) : FnX Tryz.prog 101 [.slice (some ⟨b, 0, none⟩) 2 2, .int .i64 0, .int .i64 2, .int .i64 n] [(b, blk (A1s ([x, y])) 3)] A fun r M J => J = [] ∧ r = .tuple #[] ∧ M = [(b, blk (A1s (srt x y)) 3)] := by
 refine FnX.enter (N := 134) Tryz.func101 rfl rfl rfl fun w => ?_
 refine C4 (E7 0 1 2 3) (A3 (as_ (A0 (F5 0 1 2 3 8) (A3 (as_ (A0 (I1 0 1 2 3 8 9) (C0 ?_)))))))
 refine F2 (α := Unit) (fun _ => [(0, .slice (some ⟨b, 0, none⟩) 2 2), (1, .int .i64 0), (2, .int .i64 2), (3, .int .i64 n), (8, .bool true), (9, .bool true)]) (fun _ => [(b, blk (A1s ([x, y])) 3)]) (fun _ => []) (fun _ => True) (fun _ => 0) () trivial (I1 0 1 2 3 8 9) .rfl qI ?_
 rintro _ _
 refine C0 (A3 (mv_ (mv_ ?_)))
 refine A4 (S5 (a := 2) (b := 0) rfl rfl rfl rfl qO qO) rfl ?_
 refine as_ (A0 (Y0 0 1 2 3 8 9 10) (A5 (A3 (mv_ ?_))))
 refine A4 (F1 (v := .bool true) rfl rfl qR) rfl ?_
 refine A0 (A2o 0 1 2 3 8 9 10 23) ?_
 refine C7 rfl ?_ ?_ <;> intro hc
 ·
  refine A3 (mv_ (mv_ (mv_ ?_)))
  refine A6 rfl (E1 (Mc := [(b, blk (A1s ([x, y])) 3)]) (R := []) (aS rfl (aS rfl (aS rfl a0))) kR (.refl _) (B3M b x y _) rfl ?_)
  rintro v27 M27 J27 ⟨rfl, rfl, rfl⟩
  refine A0 kn (C3 (tr (br (rr (br ?_)))))
  exact ⟨_, _, [], B8O rfl, by first | exact List.Sublist.refl _ | simp, by simp, rfl, rfl, by first | rfl | simp⟩
 ·
  exact absurd hc qD
theorem B3O (x : Nat) (hx : x < 18446744073709551616) (A : Mem) : FnX Tryz.prog 102 [.int .u64 (x : Int)] [] A fun r M J => M = [] ∧ J = [] ∧ ∃ n : Int, r = .int .i64 n := by
 refine FnX.enter (N := 8) Tryz.func102 rfl rfl rfl fun w => ?_
 refine C4 (D8 0) (A3 (as_ (A0 (D8 0) (A5 ?_))))
 refine C7 rfl ?_ ?_ <;> intro hc
 ·
  exact absurd hc qD
 ·
  refine A9 (nx (D8 0) (A3 (mv_ ?_)))
  refine C9 (aS rfl a0) kR (A4z x hx _) rfl ?_
  rintro v7 M7 J7 ⟨rfl, rfl, n7, rfl, -⟩
  refine as_ (A0 (D8 2) (C3 ?_))
  exact ⟨_, [], [], K2 rfl rfl, by first | exact List.Sublist.refl _ | simp, by simp, rfl, rfl, _, rfl⟩
theorem B02 (b : Nat) (x y : Int) (A : Mem) : FnX Tryz.prog 72 [.slice (some ⟨b, 0, none⟩) 2 2] [(b, blk (A1s ([x, y])) 3)] A fun r M J => J = [] ∧ r = .tuple #[] ∧ M = [(b, blk (A1s (srt x y)) 3)] := by
 refine FnX.enter (N := 11) Tryz.func72 rfl rfl rfl fun w => ?_
 refine C4 (D8 0) (A3 (mv_ ?_))
 refine A4 (B0h (e := 3) rfl kR) rfl ?_
 refine as_ (A0 (D5 0 2) (C2 (mv_ (mv_ (mv_ ?_)))))
 refine A4 (Q3 (k' := .u64) 2 rfl kR qR) rfl ?_
 refine C9 (aS rfl a0) kR (B3O 2 qD _) rfl ?_
 rintro v9 M9 J9 ⟨rfl, rfl, n9, rfl⟩
 refine A6 rfl (E1 (Mc := [(b, blk (A1s ([x, y])) 3)]) (R := []) (aS rfl (aS rfl (aS rfl (aS rfl a0)))) kR (.refl _) (B3N b x y _ _) rfl ?_)
 rintro v10 M10 J10 ⟨rfl, rfl, rfl⟩
 refine D0 ?_
 exact ⟨_, _, [], B8O rfl, by first | exact List.Sublist.refl _ | simp, by simp, rfl, rfl, by first | rfl | simp⟩
def agT (ts : List Tm) (s o : Int) : Tm := if 0 ≤ o then match ts[o.toNat]? with
  | some t => if t.kind = 3 ∧ t.of.length = 1 then ⟨4, srt s (t.of.getD 0 0), [], 0⟩ else ⟨4, [s, o], [], 1⟩
  | none => ⟨4, [s, o], [], 1⟩ else ⟨4, [s, o], [], 1⟩
theorem B9y {ts : List Tm} {s o : Int} (h : ¬ (0 ≤ o ∧ o < (ts.length : Int))) : agT ts s o = ⟨4, [s, o], [], 1⟩ := by
  unfold agT
  by_cases h0 : 0 ≤ o
  · rw [if_pos h0, List.getElem?_eq_none qO]
  · rw [if_neg h0]
theorem B5O {ts : List Tm} {s o : Int} {t : Tm} (h0 : 0 ≤ o) (h : ts[o.toNat]? = some t) (hk : ¬ (t.kind = 3 ∧ t.of.length = 1)) : agT ts s o = ⟨4, [s, o], [], 1⟩ := by
  unfold agT
  rw [if_pos h0, h]
  exact if_neg hk
theorem B03 {ts : List Tm} {s o : Int} {t : Tm} (h0 : 0 ≤ o) (h : ts[o.toNat]? = some t) (hk : t.kind = 3 ∧ t.of.length = 1) : agT ts s o = ⟨4, srt s (t.of.getD 0 0), [], 0⟩ := by
  unfold agT
  rw [if_pos h0, h]
  exact if_pos hk
theorem A3G {A : Mem} {ts : List Tm} {i : Int} {c : List Value} {ok : Bool} (hts : ∀ t ∈ ts, Tmo t) (h1 : (0 ≤ i ∧ i < (ts.length : Int)) → ok = true ∧ ∃ t, ts[i.toNat]? = some t ∧ TmC A c t) (h2 : ¬ (0 ≤ i ∧ i < (ts.length : Int)) → ok = false ∧ c = tmc 0 (vS) [] 0) :
    ∃ (vo : Value) (t : Tm), c = tmc t.kind vo t.text t.n ∧ Rd A 1 vo t.of.length (A1s t.of) ∧ (∀ z ∈ t.of, i64 z) ∧ t.kind < 256 ∧ (ok = true → 0 ≤ i ∧ ts[i.toNat]? = some t) ∧ (ok = false → ¬ (0 ≤ i ∧ i < (ts.length : Int))) := by
  by_cases h : 0 ≤ i ∧ i < (ts.length : Int)
  · obtain ⟨e, t, ht, vo, hc, hr⟩ := h1 h
    have hto := hts t (List.mem_of_getElem? ht)
    exact ⟨vo, t, hc, hr, hto.of, hto.kind, fun _ => ⟨h.1, ht⟩, fun e' => by rw [e] at e'; cases e'⟩
  · obtain ⟨e, hc⟩ := h2 h
    exact ⟨vS, ⟨0, [], [], 0⟩, hc, Rd.nil, (fun z hz => by cases hz), by decide, (fun e' => by rw [e] at e'; cases e'), fun _ => h⟩
theorem A1F (x y : Int) : (srt x y).length = 2 := by unfold srt; split <;> rfl
theorem B04 {x y z : Int} (h : z ∈ srt x y) : z = x ∨ z = y := by
  unfold srt at h
  split at h <;> simp at h <;> omega
theorem B05 {s o n : Int} {l : List Int} (hl : l.length = 2) (h : ∀ z ∈ l, i64 z) (hn : n = 0 ∨ n = 1) : Tmo ⟨4, l, [], n⟩ := ⟨show 4 < 256 by decide, show i64 n by unfold i64; omega, h, show l.length ≤ 1048576 by omega, ⟨fun x hx => (List.not_mem_nil hx).elim⟩, show 0 ≤ 1099511627776 by decide⟩
theorem A9I (bt bm : Nat) (ts : List Tm) (s o : Int) (MT A : Mem) (hT : Tab bt bm ts MT) (hn : ts.length ≤ 1048576) (hs : i64 s) (ho : i64 o) {e4 : TypeId} {f4 : Nat × Nat} (h4 : (2, Obj.cells (nums .u64 A0R).toArray e4 f4) ∈ A) : FnX Tryz.prog 39 [(vP bt), .int .i64 s, .int .i64 o] MT A fun r M J => J = [] ∧ r = .int .i64 ((at_ ts (agT ts s o) : Nat) : Int) ∧ Tab bt bm (add ts (agT ts s o)) M := by
 have hnT := hT
 obtain ⟨_, _, _, _, _, _, _, _, _, _, _, hts, hnd⟩ := hnT
 refine FnX.enter (N := 46) Tryz.func39 rfl rfl rfl fun w => ?_
 refine C4 (E2 0 1 2) (A3 (as_ (A0 (E2 0 1 2) (A5 (A3 (mv_ (mv_ ?_)))))))
 refine C9 (aS rfl (aS rfl a0)) kR (A3E bt bm ts o MT _ hT qS) rfl ?_
 rintro v13 M13 J13 ⟨rfl, rfl, c13, ok13, rfl, hg1, hg2⟩
 obtain ⟨vo, t, rfl, hvo, hz, htk, hok, hno⟩ := A3G hts hg1 hg2
 haveI := hvo.cel
 refine mv_ ?_
 refine A4 (A4e rfl) rfl ?_
 refine A4 (A38 rfl) rfl ?_
 refine A6 rfl (C5 (cs := [.int .u8 0, vS, .string ByteArray.empty, .int .i64 0]) kR rfl fun b7 => ?_)
 refine A6 rfl (A8 rfl rfl rfl kR qR (by intro c hc; simp only [List.mem_cons, List.not_mem_nil, or_false] at hc; rcases hc with rfl | rfl | rfl | rfl <;> first | rfl | exact hvo.one) UpC.upd ?_)
 refine as_ (A0 (F5 0 1 2 7 8) (A3 (mv_ (mv_ ?_))))
 refine A0d (t := 17) rfl (fun hb => ?_) (fun hb => ?_)
 ·
  obtain ⟨h0, hget⟩ := hok hb
  refine G2 rfl rfl (OpQ.opL (qf_ 0 0) rfl ?_)
  refine G2 rfl rfl (OpQ.opL ql_ rfl ?_)
  refine G2 rfl rfl (OpQ.opL (F1 rfl rfl rfl) rfl ?_)
  refine A4 (I5 rfl rfl) rfl ?_
  refine mv_ ?_
  refine A0d (t := 22) rfl (fun hb => ?_) (fun hb => ?_)
  ·
   have hk3 : t.kind = 3 := by simp at hb; omega
   refine G2 rfl rfl (OpQ.opL (qf_ 1 1) rfl ?_)
   refine G2 rfl rfl (OpQ.opL ql_ rfl ?_)
   refine G2 rfl rfl (OpQ.opL (K1 (sz := 1) rfl kR hvo) rfl ?_)
   refine G2 rfl rfl (OpQ.opL (F1 rfl rfl rfl) rfl ?_)
   refine A4 (I5 rfl rfl) rfl ?_
   refine A0 (F5 0 1 2 7 27) ?_
   refine C7 rfl ?_ ?_ <;> intro hc
   ·
    have h1 : t.of.length = 1 := by simp at hc; omega
    have hag := B03 (s := s) h0 hget ⟨hk3, h1⟩
    have hz0 : i64 (t.of.getD 0 0) := hz _ (by rw [List.getD_eq_getElem?_getD, List.getElem?_eq_getElem qO]; exact List.getElem_mem _)
    generalize hzz : t.of.getD 0 0 = z0 at *
    refine A3 (mv_ ?_)
    refine A4 (qf_ 1 1) rfl ?_
    refine A4 ql_ rfl ?_
    refine A4 (K0 (sz := 1) (a := 0) rfl rfl kR rfl hvo qO) rfl ?_
    refine A4 (A00 (j := 0) (u := .int .i64 z0) (hvo.mono qS) rfl kR (by rw [← hzz, List.getD_eq_getElem?_getD, A1s, List.getElem?_map, List.getElem?_eq_getElem qO]; rfl)) rfl ?_
    refine A6 rfl (C6 (e := 3) (sz := 1) (z := [.int .i64 0, .int .i64 0]) kR (eS rfl (eS rfl e0)) (bdS 0 1 rfl qR (bdS 1 1 rfl qR bd0)) rfl fun b33 => ?_)
    refine as_ (A0 (D5 0 9) (A3 (mv_ ?_)))
    refine A6 rfl (E1 (Mc := [(b33, blk [.int .i64 s, .int .i64 z0] 3)]) (R := _) (aS rfl a0) kR qP (B02 b33 s z0 _) rfl ?_)
    rintro v35 M35 J35 ⟨rfl, rfl, rfl⟩
    refine A0 (D5 0 9) (A3 (mv_ (mv_ ?_)))
    refine A4 (F3 (place := fun x => #[(0, 1), (1, 1), (2, 1), (3, 1)][x]?) (z := [.int .u8 0, vS, .string ByteArray.empty, .int .i64 0]) (fun _ => by kernel_rfl) (eS rfl (eS rfl e0)) (bdS 0 1 rfl qR (bdS 1 1 rfl qR bd0))) rfl ?_
    refine A6 rfl (E1 (Mc := MT) (R := _) (aS rfl (aS rfl a0)) kR qP (U4 bt bm ts _ ⟨4, srt s z0, [], 0⟩ MT _ hT hn (by rw [A1F]; exact (Rd.whole (n := 2) At.mem (by first | rfl | exact (A3b _).trans (A1F _ _)))) (B05 (s := s) (o := o) (A1F _ _) (fun q hq => (B04 hq).elim (fun e => e ▸ hs) (fun e => e ▸ hz0)) (.inl rfl)) (qS _ h4)) rfl ?_)
    rintro v39 M39 J39 ⟨rfl, rfl, hT39⟩
    refine as_ (A0 (D8 6) (C3 (tr ?_)))
    exact ⟨_, M39, [], K2 rfl rfl, by first | exact List.Sublist.refl _ | simp, by simp, rfl, by rw [hag], by rw [hag]; exact hT39⟩
   ·
    have hag := B5O (s := s) h0 hget (fun h => by have := h.2; simp at hc; omega)
    refine A9 (nx (E2 0 1 2) (A3 (mv_ (mv_ (mv_ ?_)))))
    refine A6 rfl (C6 (e := 3) (sz := 1) (z := [.int .i64 0, .int .i64 0]) kR (eS rfl (eS rfl e0)) (bdS 0 1 rfl qR (bdS 1 1 rfl qR bd0)) rfl fun b43 => ?_)
    refine A4 (F3 (place := fun x => #[(0, 1), (1, 1), (2, 1), (3, 1)][x]?) (z := [.int .u8 0, vS, .string ByteArray.empty, .int .i64 0]) (fun _ => by kernel_rfl) (eS rfl (eS rfl (eS rfl e0))) (bdS 0 1 rfl qR (bdS 1 1 rfl qR (bdS 3 1 rfl qR bd0)))) rfl ?_
    refine A6 rfl (E1 (Mc := MT) (R := _) (aS rfl (aS rfl a0)) kR qP (U4 bt bm ts _ ⟨4, [s, o], [], 1⟩ MT _ hT hn (Rd.whole (n := 2) At.mem (by first | rfl | exact (A3b _).trans (A1F _ _))) (B05 (s := s) (o := o) rfl (fun q hq => by simp at hq; rcases hq with rfl | rfl <;> assumption) (.inr rfl)) (qS _ h4)) rfl ?_)
    rintro v45 M45 J45 ⟨rfl, rfl, hT45⟩
    refine as_ (A0 (D8 6) (C3 ?_))
    exact ⟨_, M45, [], K2 rfl rfl, by first | exact List.Sublist.refl _ | simp, by simp, rfl, by rw [hag], by rw [hag]; exact hT45⟩
  ·
   have hag := B5O (s := s) h0 hget (fun h => by have := h.1; simp at hb; omega)
   refine L9 rfl rfl rfl rfl ?_
   refine L9 rfl rfl rfl rfl ?_
   refine L9 rfl rfl rfl rfl ?_
   refine L9 rfl rfl rfl rfl ?_
   refine A4 (E9 rfl rfl) rfl ?_
   refine A0 (F5 0 1 2 7 27) ?_
   refine D3 rfl ?_
   refine A9 (nx (E2 0 1 2) (A3 (mv_ (mv_ (mv_ ?_)))))
   refine A6 rfl (C6 (e := 3) (sz := 1) (z := [.int .i64 0, .int .i64 0]) kR (eS rfl (eS rfl e0)) (bdS 0 1 rfl qR (bdS 1 1 rfl qR bd0)) rfl fun b43 => ?_)
   refine A4 (F3 (place := fun x => #[(0, 1), (1, 1), (2, 1), (3, 1)][x]?) (z := [.int .u8 0, vS, .string ByteArray.empty, .int .i64 0]) (fun _ => by kernel_rfl) (eS rfl (eS rfl (eS rfl e0))) (bdS 0 1 rfl qR (bdS 1 1 rfl qR (bdS 3 1 rfl qR bd0)))) rfl ?_
   refine A6 rfl (E1 (Mc := MT) (R := _) (aS rfl (aS rfl a0)) kR qP (U4 bt bm ts _ ⟨4, [s, o], [], 1⟩ MT _ hT hn (Rd.whole (n := 2) At.mem (by first | rfl | exact (A3b _).trans (A1F _ _))) (B05 (s := s) (o := o) rfl (fun q hq => by simp at hq; rcases hq with rfl | rfl <;> assumption) (.inr rfl)) (qS _ h4)) rfl ?_)
   rintro v45 M45 J45 ⟨rfl, rfl, hT45⟩
   refine as_ (A0 (D8 6) (C3 ?_))
   exact ⟨_, M45, [], K2 rfl rfl, by first | exact List.Sublist.refl _ | simp, by simp, rfl, by rw [hag], by rw [hag]; exact hT45⟩
 ·
  have hag := B9y (s := s) (hno hb)
  refine L9 rfl rfl rfl rfl ?_
  refine L9 rfl rfl rfl rfl ?_
  refine L9 rfl rfl rfl rfl ?_
  refine A4 (E9 rfl rfl) rfl ?_
  refine mv_ ?_
  refine L9 rfl rfl rfl rfl ?_
  refine L9 rfl rfl rfl rfl ?_
  refine L9 rfl rfl rfl rfl ?_
  refine L9 rfl rfl rfl rfl ?_
  refine A4 (E9 rfl rfl) rfl ?_
  refine A0 (F5 0 1 2 7 27) ?_
  refine D3 rfl ?_
  refine A9 (nx (E2 0 1 2) (A3 (mv_ (mv_ (mv_ ?_)))))
  refine A6 rfl (C6 (e := 3) (sz := 1) (z := [.int .i64 0, .int .i64 0]) kR (eS rfl (eS rfl e0)) (bdS 0 1 rfl qR (bdS 1 1 rfl qR bd0)) rfl fun b43 => ?_)
  refine A4 (F3 (place := fun x => #[(0, 1), (1, 1), (2, 1), (3, 1)][x]?) (z := [.int .u8 0, vS, .string ByteArray.empty, .int .i64 0]) (fun _ => by kernel_rfl) (eS rfl (eS rfl (eS rfl e0))) (bdS 0 1 rfl qR (bdS 1 1 rfl qR (bdS 3 1 rfl qR bd0)))) rfl ?_
  refine A6 rfl (E1 (Mc := MT) (R := _) (aS rfl (aS rfl a0)) kR qP (U4 bt bm ts _ ⟨4, [s, o], [], 1⟩ MT _ hT hn (Rd.whole (n := 2) At.mem (by first | rfl | exact (A3b _).trans (A1F _ _))) (B05 (s := s) (o := o) rfl (fun q hq => by simp at hq; rcases hq with rfl | rfl <;> assumption) (.inr rfl)) (qS _ h4)) rfl ?_)
  rintro v45 M45 J45 ⟨rfl, rfl, hT45⟩
  refine as_ (A0 (D8 6) (C3 ?_))
  exact ⟨_, M45, [], K2 rfl rfl, by first | exact List.Sublist.refl _ | simp, by simp, rfl, by rw [hag], by rw [hag]; exact hT45⟩

end Go.Proofs.YtoigcbkclcbmpaaGreatDoor
namespace Go.Px
theorem wf_u {k : IntKind} (hk : k.signed = false) {n : Int} (h : (Lit.int k n).wf = true) : 0 ≤ n ∧ n < 2 ^ k.bits := by
  cases k <;> simp_all [Lit.wf, IntKind.min, IntKind.max, IntKind.bits, IntKind.signed] <;> omega
end Go.Px

namespace Go.Px
open Go.ChangeShapes Go.WideShapes Go.ChangeAt Go.RowKit
def B3P (w : World) : Mem := (List.range w.heap.size).filterMap fun b => (w.heap[b]?).map fun o => (b, o)
theorem A14 {w : World} {b : Nat} {o : Obj} : (b, o) ∈ B3P w ↔ w.heap[b]? = some o := by
  simp only [B3P, List.mem_filterMap, List.mem_range, Option.map_eq_some_iff, Prod.mk.injEq]
  constructor
  · rintro ⟨x, _, y, h, rfl, rfl⟩; exact h
  · intro h; exact ⟨b, R6 h, o, h, rfl, rfl⟩
theorem heapA_fx (w : World) : Fx (B3P w) w := fun b o h => A14.1 h
section
variable {H : Type} {enc : TypeId × Value → H} {P : Program} {w : World} {spare : Nat → Bool} {held : Bool} {fuel : Nat} {t e : TypeId} {cs : List Value} {x : DataW H × List MemPlace} {v : Value} {d : DataW H} {p : List MemPlace} {r : Reach} {base : Nat} {k : IntKind}
theorem B06 (hk : k.signed = false) {n : Int} (h : (Lit.int k n).wf = true) : ∃ m : Nat, n = (m : Int) ∧ m < 2 ^ k.bits := by
  obtain ⟨h1, h2⟩ := wf_u hk h
  obtain ⟨m, rfl⟩ := Int.eq_ofNat_of_zero_le h1
  refine ⟨m, rfl, ?_⟩
  have h3 : ((m : Nat) : Int) < ((2 ^ k.bits : Nat) : Int) := by simpa using h2
  exact Int.ofNat_lt.1 h3
theorem inU (ht : P.underlying t = some (.int k)) (hk : k.signed = false) (hv : Value.okWide P w r base t v) (h : DataW.Trod enc P w 0 spare held t v d p) : ∃ n : Nat, v = .int k (n : Int) ∧ n < 2 ^ k.bits := by
  obtain ⟨n, rfl⟩ := okWide_int ht hv
  obtain ⟨f, hf⟩ := h
  obtain ⟨m, h1, _, h2⟩ := DataW.trod_int ht hf
  obtain ⟨q, rfl, h3⟩ := B06 hk h2
  exact ⟨q, by simpa [Value.cells] using h1, h3⟩
end
end Go.Px

namespace Go.Px
open Go.ChangeShapes Go.WideShapes Go.ChangeAt Go.RowKit
structure Bys (R : Mem) (vs : List Value) (ls : List (List Nat)) : Prop where
  len : vs.length = ls.length
  get : ∀ (j : Nat) (w : List Nat), ls[j]? = some w → ∃ v, vs[j]? = some v ∧ Rd R 1 v w.length (nums .u8 w) ∧ (∀ x ∈ w, x < 256) ∧ w.length ≤ maxLen
theorem Bys.mono {R R' : Mem} {vs : List Value} {ls : List (List Nat)} (h : Bys R vs ls) (hR : ∀ x, x ∈ R → x ∈ R') : Bys R' vs ls := ⟨h.len, fun j w hj => by
  obtain ⟨v, h1, h2, h3, h4⟩ := h.get j w hj
  exact ⟨v, h1, h2.mono hR, h3, h4⟩⟩
theorem Bys.nil {R : Mem} : Bys R [] [] := ⟨rfl, fun j w h => by simp at h⟩
theorem Bys.cons {R : Mem} {vs : List Value} {ls : List (List Nat)} (h : Bys R vs ls) {v : Value} {w : List Nat} (hv : Rd R 1 v w.length (nums .u8 w)) (hb : ∀ x ∈ w, x < 256) (hl : w.length ≤ maxLen) : Bys R (v :: vs) (w :: ls) := ⟨by simp [h.len], fun j u hj => by
  cases j with
  | zero => simp at hj; subst hj; exact ⟨v, rfl, hv, hb, hl⟩
  | succ j => exact h.get j u hj⟩
section
variable {H : Type} {enc : TypeId × Value → H} {P : Program} {w : World} {spare : Nat → Bool} {held : Bool} {fuel : Nat} {t e e' : TypeId} {cs : List Value} {x : DataW H × List MemPlace} {v : Value} {d : DataW H} {p : List MemPlace} {r : Reach} {base : Nat}
end
end Go.Px

namespace Go.Px
section
variable {C : Cx} {Q : XQ} {l : Env} {M J B R M' : Mem} {w : World}
theorem St.freezes (h : St C (B ++ M) J w) : St C M (B ++ J) w := by
  induction B generalizing J with
  | nil => exact h
  | cons x B ih =>
    have h1 := ih (J := x :: J) (St.freeze (by simpa using h))
    refine h1.drop (List.Sublist.refl _) fun y hy => ?_
    simp only [List.cons_append, List.mem_cons, List.mem_append] at hy ⊢
    rcases hy with h | h | h <;> simp [h]
theorem St.frz (hp : M.Perm (B ++ M')) (h : St C M J w) : St C M' (B ++ J) w := (h.perm hp).freezes
theorem S9 {c : Code} (hp : M.Perm (B ++ M')) (h : XC C c Q l M' (B ++ J)) : XC C c Q l M J := fun a w ha hw => h a w ha (hw.frz hp)
theorem A8E {ops : Array Oper} {rest : List Oper} (hp : M.Perm (B ++ M')) (h : XL C ops rest Q l M' (B ++ J)) : XL C ops rest Q l M J := fun a w ha hw => h a w ha (hw.frz hp)
end
theorem FnX.frz0 {P : Program} {f : FuncId} {args : List Value} {A : Mem} {φ : Value → Mem → Prop} (h : FnX P f args [] A fun r M J => J = [] ∧ φ r M) : FnX P f args [] A fun r M J => M = [] ∧ φ r J := by
  intro w hw
  refine Calls.mono (h w hw) ?_
  rintro e w' ⟨v, M', J, rfl, ⟨rfl, hq⟩, hs⟩
  exact ⟨v, [], M', rfl, ⟨rfl, hq⟩, by have := St.frz (B := M') (M' := []) (by simp) hs; simpa using this⟩
structure By (R : Mem) (v : Value) (w : List Nat) : Prop where
  rd : Rd R 1 v w.length (nums .u8 w)
  lt : ∀ x ∈ w, x < 256
  len : w.length ≤ 16777216
theorem By.mono {R R' : Mem} {v : Value} {w : List Nat} (h : By R v w) (hR : ∀ x, x ∈ R → x ∈ R') : By R' v w := ⟨h.rd.mono hR, h.lt, h.len⟩
theorem By.one {R : Mem} {v : Value} {w : List Nat} (h : By R v w) : v.oneCell' = true := h.rd.one
theorem By.cel {R : Mem} {v : Value} {w : List Nat} (h : By R v w) : Cel v [v] := h.rd.cel
theorem By.nil {R : Mem} : By R (.slice none 0 0) [] := ⟨Rd.nil, (fun x h => by cases h), by decide⟩
theorem By.max {R : Mem} {v : Value} {w : List Nat} (h : By R v w) : w.length ≤ maxLen := Nat.le_trans h.len (by unfold maxLen; omega)
structure Lst (R : Mem) (vs : List Value) (ls : List (List Nat)) : Prop where
  len : vs.length = ls.length
  get : ∀ (j : Nat) (w : List Nat), ls[j]? = some w → ∃ v, vs[j]? = some v ∧ By R v w
theorem Lst.mono {R R' : Mem} {vs : List Value} {ls : List (List Nat)} (h : Lst R vs ls) (hR : ∀ x, x ∈ R → x ∈ R') : Lst R' vs ls := ⟨h.len, fun j w hj => by
  obtain ⟨v, h1, h2⟩ := h.get j w hj
  exact ⟨v, h1, h2.mono hR⟩⟩
theorem Lst.at {R : Mem} {vs : List Value} {ls : List (List Nat)} (h : Lst R vs ls) {j : Nat} (hj : j < ls.length) : ∃ v, vs[j]? = some v ∧ By R v ls[j] := h.get j ls[j] (List.getElem?_eq_getElem hj)
theorem Lst.nil {R : Mem} : Lst R [] [] := ⟨rfl, fun j w h => by simp at h⟩
theorem Lst.cons {R : Mem} {vs : List Value} {ls : List (List Nat)} {v : Value} {w : List Nat} (hv : By R v w) (h : Lst R vs ls) : Lst R (v :: vs) (w :: ls) := ⟨by simp [h.len], fun j u hj => by
  cases j with
  | zero => simp at hj; subst hj; exact ⟨v, rfl, hv⟩
  | succ j => exact h.get j u hj⟩
theorem Lst.snoc {R : Mem} {vs : List Value} {ls : List (List Nat)} (h : Lst R vs ls) {v : Value} {w : List Nat} (hv : By R v w) : Lst R (vs ++ [v]) (ls ++ [w]) := ⟨by simp [h.len], fun j u hj => by
  by_cases hlt : j < ls.length
  · rw [List.getElem?_append_left hlt] at hj
    obtain ⟨v', h1, h2⟩ := h.get j u hj
    exact ⟨v', by rw [List.getElem?_append_left (List.getElem?_eq_some_iff.1 h1).1]; exact h1, h2⟩
  · rw [List.getElem?_append_right (by omega)] at hj
    have hj0 : j = ls.length := by
      have := (List.getElem?_eq_some_iff.1 hj).1
      simp at this; omega
    subst hj0
    simp at hj
    subst hj
    exact ⟨v, by rw [List.getElem?_append_right (by rw [h.len]; omega), h.len]; simp, hv⟩⟩
structure LsV (R : Mem) (v : Value) (ls : List (List Nat)) : Prop where
  ex : ∃ vs, Rd R 1 v ls.length vs ∧ Lst R vs ls
theorem LsV.mono {R R' : Mem} {v : Value} {ls : List (List Nat)} (h : LsV R v ls) (hR : ∀ x, x ∈ R → x ∈ R') : LsV R' v ls := by
  obtain ⟨vs, h1, h2⟩ := h.ex
  exact ⟨vs, h1.mono hR, h2.mono hR⟩
theorem LsV.nil {R : Mem} : LsV R (.slice none 0 0) [] := ⟨[], Rd.nil, Lst.nil⟩
theorem LsV.cel {R : Mem} {v : Value} {ls : List (List Nat)} (h : LsV R v ls) : Cel v [v] := by
  obtain ⟨vs, h1, _⟩ := h.ex
  exact h1.cel
section loud
variable {C : Cx} {l : Env} {M J : Mem} {K : Env → Mem → Mem → Prop} {d : Nat} {ty t e : TypeId} {pos : String} {af : Array Edge} {g : Option (Nat × Bool)} {x y : Operand}
theorem B07 {b m n : Nat} {u : Value} {k : IntKind} {ws us ws' : List Nat} {e' : TypeId} {by_ : Nat} {M' : Mem} (hx : ev l x = some (.slice (some ⟨b, 0, none⟩) m m)) (hy : ev l y = some u) (ht : A3j C.P t = some (e, 1, by_))
    (hr : Rd (M ++ (J ++ C.A)) 1 u n (nums k us)) (hm : ws.length = m) (hw' : ws' = us.take m ++ ws.drop n) (hu : Upd M b (blk (nums k ws) e') (blk (nums k ws') e') M') (hd : Nat.blt d C.N = true) (h : K ((d, .int .i64 ((min n m : Nat) : Int)) :: l) M' J) :
    OpL C ⟨some d, .call { callee := .builtin .copy, args := #[x, y], argTypes := #[t, t] }, ty, pos, af, g⟩ l M J K := by
  intro Qp a w ha hw
  obtain ⟨i, z, hut, hi, hz, hzs, his, hib⟩ := X5 ht
  obtain ⟨pu, cu, rfl, hul, huc, hub⟩ := hr
  have hru : Rd (M ++ (J ++ C.A)) 1 (.slice pu n cu) n (nums k us) := ⟨pu, cu, rfl, hul, huc, hub⟩
  have hb := hw.mem _ _ (List.mem_append_left _ hu.mem)
  have hf := A4W (P := C.P) (m := n) (c2 := cu) (hru.hi (min n m) (Nat.min_le_left _ _)) hw.fx
  have hus : us.length = n := by simpa using hul
  rw [Nat.mul_one, show (nums k us).take (min n m) = nums k (us.take (min n m)) by simp [nums]] at hf
  have hst := run_storeCells_at (P := C.P) b 0 e' (nums k (us.take (min n m))) 0 (nums k ws).toArray w hb (by simp [hus, hm]; omega) E8
  simp only [Nat.add_zero, Nat.zero_add, List.take_zero, List.nil_append, nums_len, List.length_take, hus] at hst
  rw [← A0r, ← K3] at hst
  have e1 : us.take (min n m) ++ ws.drop (min (min n m) n) = ws' := by
    rw [hw']
    rcases Nat.le_total m n with h | h
    · rw [Nat.min_eq_right h, Nat.min_eq_left h, List.drop_of_length_le (l := ws) (i := m) (by omega), List.drop_of_length_le (l := ws) (i := n) (by omega)]
    · rw [Nat.min_eq_left h, Nat.min_self, List.take_of_length_le (l := us) (i := n) (by omega), List.take_of_length_le (l := us) (i := m) (by omega)]
  rw [e1] at hst
  have hrun : (execOp a.eval ⟨some d, .call { callee := .builtin .copy, args := #[x, y], argTypes := #[t, t] }, ty, pos, af, g⟩).run C.P w = .ok (.value (.int .i64 ((min n m : Nat) : Int))) (w.setRow b (nums k ws').toArray) := by
    simp [execOp, resolve, invoke, builtin, ha.ev hx, ha.ev hy, Builtin.copy_, run_underlying hut, sizeOf, typeInfo, hi, his, Builtin.lenOf, hf, hst, goInt]
  unfold Oper.wp
  rw [hrun]
  exact ⟨_, M', J, ha.put (C8 hd) _, hw.setRow hu, h⟩
theorem A3H {sz by_ n m b o : Nat} {u : Value} {xs ys : List Value} (hx : ev l x = some (.slice (some ⟨b, o, none⟩) n n)) (hy : ev l y = some u) (ht : A3j C.P t = some (e, sz, by_)) (hsz : Nat.blt 0 sz = true)
    (hs : Rd (M ++ (J ++ C.A)) sz (.slice (some ⟨b, o, none⟩) n n) n xs) (hr : Rd (M ++ (J ++ C.A)) sz u m ys) (hm : 0 < m) (hmax : n + m ≤ maxLen) (hbytes : (n + m) * by_ ≤ 140737488355328) (hd : Nat.blt d C.N = true)
    (k : ∀ v' B', Sl sz v' (n + m) (xs ++ ys) B' → K ((d, v') :: l) (B' ++ M) J) :
    OpL C ⟨some d, .call { callee := .builtin .append, args := #[x, y], argTypes := #[t, t] }, ty, pos, af, g⟩ l M J K := by
  intro Qp a w ha hw
  obtain ⟨i, z, hu, hi, hz, hzs, his, hib⟩ := X5 ht
  obtain ⟨pu, cu, rfl, hul, huc, hub⟩ := hr
  obtain ⟨p', c', e', hxl, hcc, hxb⟩ := hs
  cases e'
  subst his; subst hib
  obtain ⟨bu, ou, csu, eu, fru, rfl, hbu, hxu⟩ : ∃ (b o : Nat) (cs : List Value) (e : TypeId) (fr : Nat × Nat), pu = some ⟨b, o, none⟩ ∧ (b, Obj.cells cs.toArray e fr) ∈ M ++ (J ++ C.A) ∧ ∀ j u, ys[j]? = some u → cs[o + j]? = some u := by
    rcases hub with h | h
    · omega
    · exact h
  have hnews : ∀ j u, ys[j]? = some u → w.cell? ((⟨bu, ou, none⟩ : Addr).add j) = some u := fun j u hj => by rw [Addr.add_mid, A1w hw.fx hbu]; simpa using hxu j u hj
  have holds : ∀ j u, xs[j]? = some u → w.cell? ((⟨b, o, none⟩ : Addr).add j) = some u := fun j u hj => by
    rcases hxb with h | ⟨b2, o2, cs2, e2, f2, h1, h2, h3⟩
    · subst h
      have : xs = [] := List.eq_nil_of_length_eq_zero (by simpa using hxl)
      subst this; simp at hj
    · cases h1
      rw [Addr.add_mid, A1w hw.fx h2]; simpa using h3 j u hj
  have hsmall : n + m ≤ 9223372036854775807 := by simp only [maxLen] at hmax; omega
  have hge := grownCap_ge w (n + m) n e
  have hcm : grownCap w (n + m) n e ≤ maxLen := grownCap_le_maxLen w (n + m) n e hmax
  have hrg := run_append_grow (P := C.P) w t ty e i z hu hi hz ⟨b, o, none⟩ n n xs hxl holds ⟨bu, ou, none⟩ m cu ys hul hnews (by omega) (by omega) (growslice_fits (by omega) hbytes)
  have hexec : (execOp a.eval ⟨some d, .call { callee := .builtin .append, args := #[x, y], argTypes := #[t, t] }, ty, pos, af, g⟩).run C.P w = .ok (.value (.slice (some ⟨w.heap.size, 0, none⟩) (n + m) (grownCap w (n + m) n e))) (w.drew.alloc (.cells (xs.toArray ++ ys.toArray ++ Builtin.zeroCells z.cells (grownCap w (n + m) n e - (n + m))) e (0, 0))) := by
    simp [execOp, resolve, invoke, builtin, ha.ev hx, ha.ev hy, hrg]
  unfold Oper.wp
  rw [hexec]
  have hsl : Sl i.size (.slice (some ⟨w.heap.size, 0, none⟩) (n + m) (grownCap w (n + m) n e)) (n + m) (xs ++ ys) [(w.heap.size, .cells (xs.toArray ++ ys.toArray ++ Builtin.zeroCells z.cells (grownCap w (n + m) n e - (n + m))) e (0, 0))] := by
    refine .inr ⟨w.heap.size, 0, _, (xs.toArray ++ ys.toArray ++ Builtin.zeroCells z.cells (grownCap w (n + m) n e - (n + m))).toList, e, rfl, by simp [blk], hge, hcm, ?_, ?_, ?_⟩
    · simp only [Array.length_toList, Array.size_append, List.size_toArray, size_zeroCells, hzs, hxl, hul, ← Nat.add_mul, Nat.zero_add]
      refine Nat.mul_le_mul_right _ ?_
      omega
    · simp [hxl, hul, Nat.add_mul]
    · intro j u hj
      have hlt : j < (xs ++ ys).length := (List.getElem?_eq_some_iff.1 hj).1
      rw [Nat.zero_add]
      simp only [Array.toList_append, List.append_assoc]
      rw [← List.append_assoc, List.getElem?_append_left (by simpa using hlt)]
      exact hj
  exact ⟨_, _, J, ha.put (C8 hd) _, St.alloc (w := w.drew) hw.drew _, k _ _ hsl⟩
end loud
def retZ (P : Program) (fn : Func) (A : Mem) (post : Value → Mem → Mem → Prop) : XQ
  | .ret, l, M, J => ∃ v M' B, Res P fn l (M ++ (J ++ A)) v ∧ Fit M (B ++ M') ∧ post v M' (B ++ J)
  | .normal, l, M, J => ∃ v M' B, Res P fn l (M ++ (J ++ A)) v ∧ Fit M (B ++ M') ∧ post v M' (B ++ J)
  | _, _, _, _ => False
theorem FnX.enterZ {P : Program} {f : FuncId} {fn : Func} {c : Code} {N : Nat} {args : List Value} {M A : Mem} {post : Value → Mem → Mem → Prop}
    (hf : P.funcs[f]? = some fn) (hb : fn.body = some c) (hn : fn.ntmps = N) (hN : Nat.ble args.length N = true)
    (h : ∀ w, XC ⟨P, w, M.map Prod.fst, A, N⟩ c (retZ P fn A post) (B8Y args 0) M []) : FnX P f args M A post := by
  intro w hw
  refine calls_of_wp hf hb ?_
  have hle : args.length ≤ N := by simpa using hN
  refine Code.wp_mono ?_ (h w _ w ?_ hw.cx)
  · rintro e a' w' ⟨l, M', J, ha, hw', hq⟩
    cases e <;> first | exact hq.elim | skip
    all_goals
      obtain ⟨v, M2, B, hv, hM2, hp⟩ := hq
      exact ⟨ha.defers, v, hv N a' w' ha hw'.fx, v, M2, B ++ J, rfl, hp, (hw'.fit hM2 (fun _ h => h)).freezes.cx⟩
  · refine ⟨rfl, by simp [hn]; omega, ?_⟩
    intro i v hi
    obtain ⟨_, h2⟩ := A7l args 0 i v hi
    simp only [Nat.sub_zero] at h2
    have hlt : i < args.length := (List.getElem?_eq_some_iff.1 h2).1
    rw [Array.getElem?_append_left (by simpa using hlt)]
    simpa using h2
theorem Fit.nil {M : Mem} : Fit M ([] ++ []) := Fit.sub (List.nil_sublist _)
theorem Fit.none {M M' : Mem} (h : Fit M M') : Fit M ([] ++ M') := h
instance PickC.two {M X Y R1 R : Mem} [h1 : PickC M X R1] [h2 : PickC R1 Y R] : PickC M (X ++ Y) R := ⟨h1.perm.trans (by rw [List.append_assoc]; exact h2.perm.append_left X)⟩
instance (priority := 50) PickC.left {D M B R : Mem} [h : PickC D B R] : PickC (D ++ M) B (R ++ M) := ⟨(List.Perm.append_right M h.perm).trans (by rw [List.append_assoc])⟩
instance (priority := 60) PickC.consB {M B R1 R : Mem} {x : Nat × Obj} [h1 : PickC M [x] R1] [h2 : PickC R1 B R] : PickC M (x :: B) R := ⟨h1.perm.trans (List.Perm.cons x h2.perm)⟩
theorem uL {B B' r : Mem} {b : Nat} {o o' : Obj} (h : Upd B b o o' B') : Upd (B ++ r) b o o' (B' ++ r) := by
  induction h with
  | hd => exact .hd
  | tl _ ih => exact .tl ih
instance (priority := 50) UpC.lft {b : Nat} {o o' : Obj} {B B' r : Mem} [h : UpC B b o o' B'] : UpC (B ++ r) b o o' (B' ++ r) := ⟨uL h.upd⟩
end Go.Px

