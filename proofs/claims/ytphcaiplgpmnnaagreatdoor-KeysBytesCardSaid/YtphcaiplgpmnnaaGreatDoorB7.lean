/- Part 7 of the texts of this claim, one behind the other. -/
import Derived.Test.YtphcaiplgpmnnaaGreatDoorB6
set_option linter.unusedVariables false
set_option linter.unusedSimpArgs false
set_option maxRecDepth 100000
namespace Go.Proofs.YtphcaiplgpmnnaaGreatDoor
open Go.Px
def i64 (i : Int) : Prop := -9223372036854775808 ≤ i ∧ i ≤ 9223372036854775807
/-- A term whose parts are not too great. -/
structure Tmo (t : Tm) : Prop where
  kind : t.kind < 256
  n : i64 t.n
  of : ∀ i ∈ t.of, i64 i
  ofl : t.of.length ≤ 1048576
  text : B256 t.text
  tl : t.text.length ≤ 1099511627776
theorem Tmo.ok {t : Tm} (h : Tmo t) : t.ok := ⟨h.kind, by have := h.n; unfold i64 at this; omega, fun i hi => by have := h.of i hi; unfold i64 at this; omega, h.text.lt⟩
theorem ints_one' (l : List Int) : ∀ c ∈ ints l, c.oneCell' = true := fun c hc => by
  obtain ⟨i, _, rfl⟩ := List.mem_map.1 hc; rfl
/-- The cells of a term that read. -/
def TmC (R : Mem) (c : List Value) (t : Tm) : Prop := ∃ vo, c = tmc t.kind vo t.text t.n ∧ Rd R 1 vo t.of.length (ints t.of)
theorem TmC.mono {R R' : Mem} {c : List Value} {t : Tm} (h : TmC R c t) (hR : ∀ x, x ∈ R → x ∈ R') : TmC R' c t := by
  obtain ⟨vo, h1, h2⟩ := h; exact ⟨vo, h1, h2.mono hR⟩
/-- The text ahead of a term's mark, so many of its parts told. -/
def pre (t : Tm) (i : Nat) : List Nat := dec t.kind ++ 32 :: decI t.n ++ (t.of.take i).flatMap (fun j => 32 :: decI j)
theorem pre_succ {t : Tm} {i : Nat} (h : i < t.of.length) : pre t (i + 1) = pre t i ++ (32 :: decI t.of[i]) := by
  unfold pre
  rw [List.take_add_one, List.getElem?_eq_getElem h, List.flatMap_append]
  simp
theorem nm_pre (t : Tm) : t.nm = pre t t.of.length ++ 58 :: t.text := by
  unfold Tm.nm pre sepd
  rw [List.take_length]
  simp [List.flatMap_map]
theorem pre_b (t : Tm) (i : Nat) : B256 (pre t i) := ⟨fun x hx => by
  unfold pre at hx
  simp only [List.mem_append, List.mem_cons, List.mem_flatMap] at hx
  rcases hx with (hx | hx | hx) | ⟨j, _, hx | hx⟩
  · have := dec_mem hx; omega
  · omega
  · have := decI_mem hx; omega
  · omega
  · have := decI_mem hx; omega⟩
theorem pre_len {t : Tm} (h : Tmo t) : ∀ i, i ≤ t.of.length → (pre t i).length ≤ 43 + 22 * i
  | 0, _ => by
    have a := nd10_le (u := t.kind) (by have := h.kind; omega)
    have b := decI_len (i := t.n) (h.ok.n)
    simp only [pre, List.take_zero, List.flatMap_nil, List.append_nil, List.length_append, List.length_cons, dec_len]
    omega
  | i + 1, hi => by
    have a := pre_len h i (by omega)
    have b := decI_len (i := t.of[i]) (h.ok.of _ (List.getElem_mem _))
    rw [pre_succ (by omega), List.length_append, List.length_cons]
    omega
theorem nm_b {t : Tm} (h : Tmo t) : B256 t.nm := by
  rw [nm_pre]
  exact @B256.app _ _ (pre_b _ _) (B256.cons (by decide) h.text)
/-- What a term is known by. -/
def key (t : Tm) : ByteArray := txt t.nm
theorem key_inj {s t : Tm} (hs : Tmo s) (ht : Tmo t) (h : key s = key t) : s = t := Tm.nm_inj hs.ok ht.ok (txt_inj (nm_b hs).lt (nm_b ht).lt h)
theorem look_key {t : Tm} {ts : List Tm} (ht : Tmo t) (hts : ∀ t ∈ ts, Tmo t) : (lookK (key t) (ts.map key) 0 = none ↔ t ∉ ts) ∧ ∀ i, lookK (key t) (ts.map key) 0 = some i → ts[i]? = some t := by
  constructor
  · rw [lookK_none, List.mem_map]
    constructor
    · exact fun h hm => h ⟨t, hm, rfl⟩
    · rintro h ⟨s, hs, e⟩
      exact h (key_inj (hts s hs) ht e ▸ hs)
  · intro i h
    obtain ⟨_, h2⟩ := lookK_some h
    rw [Nat.sub_zero, List.getElem?_map] at h2
    cases h3 : ts[i]? with
    | none => rw [h3] at h2; cases h2
    | some s =>
      rw [h3] at h2
      have := key_inj (hts s (List.mem_of_getElem? h3)) ht (by simpa using h2)
      rw [this]
/-- A table of terms, at its two blocks. -/
def Tab (bt bm : Nat) (ts : List Tm) (M : Mem) : Prop := ∃ (v : Value) (rows : List (List Value)) (ks : List ByteArray) (Bl BX : Mem), M = (bt, blk [v, .map (some bm)] 134) :: (bm, .map (ents ks 0).toArray ks.length) :: (Bl ++ BX) ∧ ks = ts.map key ∧ Sl 4 v ks.length rows.flatten Bl ∧ rows.length = ks.length ∧ (∀ r ∈ rows, r.length = 4) ∧ (∀ (j : Nat) (t : Tm), ts[j]? = some t → ∃ r, rows[j]? = some r ∧ TmC BX r t) ∧ (∀ t ∈ ts, Tmo t) ∧ ts.Nodup
theorem dec_decI (k : Nat) : decI ((k : Nat) : Int) = dec k := by simp [decI]

theorem cloneI_spec (v : Value) (n : Nat) (xs : List Value) (A : Mem) (h : Rd A 1 v n xs) (h1 : ∀ c ∈ xs, c.oneCell' = true) (hn : n ≤ 1099511627776) : FnX Tryz.prog 90 [v] [] A fun r M J => J = [] ∧ Rd M 1 r n xs := by
 haveI := h.cel
 refine FnX.enter (N := 8) Tryz.func90 rfl rfl rfl fun w => ?_
 refine XC.keep (kq 0 kn) ?_
 refine XC.reg ?_
 refine as_ ?_
 refine XL.fin (kq 0 kn) ?_
 refine XC.seq ?_
 refine XC.reg ?_
 refine mv_ ?_
 refine XL.q (q_slEqNil (e := 3) rfl (by kernel_rfl) (by first | assumption | exact Sl.rd (by assumption) (fun _ h => h) | exact By.rd (by assumption))) rfl ?_
 refine XL.fin (kq 0 (kq 4 kn)) ?_
 refine XC.cond rfl (fun hc => ?_) (fun hc => ?_)
 ·
  have h0 := h.isNil hc
  subst h0
  obtain rfl : xs = [] := List.eq_nil_of_length_eq_zero (by have := h.len; omega)
  refine XC.reg ?_
  refine as_ ?_
  refine XL.fin (kq 2 kn) ?_
  refine XC.ret ?_
  refine tr ?_
  exact ⟨_, [], [], res1 rfl rfl, List.nil_sublist _, by simp, rfl, Rd.nil⟩
 ·
  refine XC.skip ?_
  refine nx (kq 0 kn) ?_
  refine XC.reg ?_
  refine XL.lo rfl (l_buildSlice (e := 3) (sz := 1) (z := []) (by kernel_rfl) e0 bd0 rfl fun b5 => ?_)
  refine mv_ ?_
  refine XL.lo rfl (l_append2 (e := 3) (sz := 1) (by_ := 8) rfl rfl (by kernel_rfl) rfl (Sl.fresh (n := 0) (cs := []) (e := 3) rfl (by decide)) (Rd.mono h SubC.sub) h1 PickC.perm (by unfold maxLen; omega) (by omega) rfl fun v7 B7 hs7 => ?_)
  refine as_ ?_
  refine XL.fin (kq 2 kn) ?_
  refine XC.ret ?_
  exact ⟨_, B7, [], res1 rfl rfl, List.sublist_append_left _ _, by simp, rfl, rd_eq (hs7.rd fun _ h => h) (by omega) (by simp)⟩

theorem name_spec (vo : Value) (t : Tm) (A : Mem) (hvo : Rd A 1 vo t.of.length (ints t.of)) (ht : Tmo t) {e4 : TypeId} {f4 : Nat × Nat} (h4 : (2, Obj.cells (nums .u64 pow10T).toArray e4 f4) ∈ A) : FnV Tryz.prog 89 [.agg (tmc t.kind vo t.text t.n).toArray] A (.string (key t)) := by
 haveI := hvo.cel
 have hkind := ht.kind
 refine FnX.enter (N := 33) Tryz.func89 rfl rfl rfl fun w => ?_
 refine XC.keep (kq 0 kn) ?_
 refine XC.reg ?_
 refine XL.lo rfl (bx_ fun b1 => ?_)
 refine as_ ?_
 refine XL.fin (kq 1 kn) ?_
 refine XC.drawF [0, 1, 2, 3, 4, 5, 6, 7, 8, 9] [(0, 0), (1, 1), (2, 0), (5, 0), (6, 1), (3, 2), (4, 0), (7, 2), (8, 0), (9, 0)] (by kernel_rfl) (by kernel_rfl) fun hs => ?_
 refine XF.q hs rfl (qf_ 0 0) rfl ?_
 refine XF.r hs rfl ql_ rfl ?_
 refine XF.q hs rfl (q_same (k' := .i64) rfl (by kernel_rfl) (by show _ < 9223372036854775808; have := ht.kind; omega)) rfl ?_
 refine XF.q hs rfl (qf_ 3 3) rfl ?_
 refine XF.r hs rfl ql_ rfl ?_
 refine XF.callV rfl (aS rfl a0) (by kernel_rfl) (itoa_spec (t.kind : Int) (by have := ht.kind; omega) (by have := ht.kind; omega) _ (mA h4)) rfl ?_
 rw [dec_decI]
 refine XF.q hs rfl (q_sAdd (ws' := [32]) rfl rfl rfl (by kernel_rfl) (by simp only [dec_len, List.length_cons, List.length_nil]; have := nd10_le (u := t.kind) (by have := ht.kind; omega); omega)) rfl ?_
 refine XF.callV rfl (aS rfl a0) (by kernel_rfl) (itoa_spec t.n ht.n.1 ht.n.2 _ (mA h4)) rfl ?_
 refine XF.q hs rfl (q_sAdd rfl rfl rfl rfl (by simp only [List.length_append, dec_len, List.length_cons, List.length_nil]; have := nd10_le (u := t.kind) (by have := ht.kind; omega); have := decI_len (i := t.n) ht.ok.n; omega)) rfl ?_
 refine XF.q hs rfl (q_assign rfl) rfl ?_
 rw [show dec t.kind ++ [32] ++ decI t.n = pre t 0 by simp [pre]]
 refine XF.fin (kq 1 (kq 3 kn)) ?_
 refine XC.seq ?_
 refine XC.reg ?_
 refine XL.q (qf_ 1 1) rfl ?_
 refine XL.q ql_ rfl ?_
 refine XL.q (q_lenV2 (sz := 1) rfl (by kernel_rfl) hvo) rfl ?_
 refine mv_ ?_
 refine XL.fin (kq 1 (kq 3 (kq 16 (kq 17 (kq 18 kn))))) ?_
 refine XC.block ?_
 refine XC.loop (α := Nat) (fun i => [(1, .pointer (some ⟨b1, 0, none⟩)), (3, .string (txt (pre t i))), (16, vo), (17, .int .i64 ((t.of.length : Nat) : Int)), (18, .int .i64 (i : Int))]) (fun _ => [(b1, blk (tmc t.kind vo t.text t.n) 76)]) (fun _ => []) (fun i => i ≤ t.of.length) (fun i => t.of.length - i) 0 (Nat.zero_le _) (kq 1 (kq 3 (kq 16 (kq 17 (kq 18 kn))))) .rfl (fun _ h => h) ?_
 rintro i hi
 have hpl := pre_len ht i hi
 have hofl := ht.ofl
 haveI := pre_b t i
 refine XC.reg ?_
 refine XL.q (q_bin rfl rfl rfl) rfl ?_
 refine XL.fin (kq 1 (kq 3 (kq 16 (kq 17 (kq 18 (kq 19 kn)))))) ?_
 refine XC.seq ?_
 refine XC.cond rfl (fun hc => ?_) (fun hc => ?_)
 ·
  have hlt : i < t.of.length := by simp at hc; omega
  have hi64 := ht.of _ (List.getElem_mem hlt)
  have hdl := decI_len (i := t.of[i]) (ht.ok.of _ (List.getElem_mem hlt))
  refine XC.skip ?_
  refine nx (kq 1 (kq 3 (kq 16 (kq 17 (kq 18 kn))))) ?_
  refine XC.seq ?_
  refine XC.block ?_
  refine XC.reg ?_
  refine XL.q (q_atV2 (sz := 1) rfl rfl (by kernel_rfl) rfl hvo hlt) rfl ?_
  refine XL.q (q_ldV (u := .int .i64 t.of[i]) (Rd.mono hvo SubC.sub) rfl (by kernel_rfl) (by simp [ints, hlt])) rfl ?_
  refine as_ ?_
  refine XL.fin (kq 1 (kq 3 (kq 5 (kq 16 (kq 17 (kq 18 kn)))))) ?_
  refine XC.reg1 ?_
  refine mv_ (mv_ ?_)
  refine XL.callV (aS rfl a0) (by kernel_rfl) (itoa_spec t.of[i] hi64.1 hi64.2 _ (mA h4)) rfl ?_
  refine XL.q (q_sAdd (ws := [32]) rfl rfl (by kernel_rfl) rfl (by simp only [List.length_cons, List.length_nil]; omega)) rfl ?_
  refine XL.q (q_sAdd rfl rfl rfl rfl (by simp only [List.length_cons, List.length_append, List.length_nil]; omega)) rfl ?_
  refine as_ ?_
  rw [show pre t i ++ ([32] ++ decI t.of[i]) = pre t (i + 1) by rw [pre_succ hlt]; rfl]
  refine XL.nil ?_
  refine nb ?_
  refine nx (kq 1 (kq 3 (kq 16 (kq 17 (kq 18 kn))))) ?_
  refine XC.reg1 ?_
  refine XL.q (q_addI (b := 1) rfl rfl rfl rfl (by omega)) rfl ?_
  refine mv_ ?_
  refine XL.nil ?_
  exact rn (i + 1) (by omega) (by omega) (kq 1 (kq 3 (kq 16 (kq 17 (kq 18 kn))))) .rfl (fun _ h => h)
 ·
  have hge : i = t.of.length := by simp at hc; omega
  subst hge
  refine XC.exit ?_
  refine te ?_
  refine re ?_
  refine be rfl ?_
  refine nx (kq 1 (kq 3 kn)) ?_
  refine XC.reg ?_
  refine mv_ ?_
  refine XL.q (q_sAdd (ws' := [58]) rfl rfl rfl (by kernel_rfl) (by simp only [List.length_cons, List.length_nil]; omega)) rfl ?_
  refine XL.q (qf_ 2 2) rfl ?_
  refine XL.q ql_ rfl ?_
  refine XL.q (q_sAdd rfl rfl rfl rfl (by simp only [List.length_append, List.length_cons, List.length_nil]; have := ht.tl; omega)) rfl ?_
  refine as_ ?_
  refine XL.fin (kq 2 kn) ?_
  refine XC.ret ?_
  refine ⟨_, [], [], res1 rfl rfl, List.nil_sublist _, by simp, ?_, rfl, rfl⟩
  rw [key, nm_pre]; simp

theorem newT_spec (A : Mem) : FnX Tryz.prog 96 [] [] A fun r M J => J = [] ∧ ∃ bt bm, r = .pointer (some ⟨bt, 0, none⟩) ∧ Tab bt bm [] M := by
 refine FnX.enter (N := 4) Tryz.func96 rfl rfl rfl fun w => ?_
 refine XC.keep kn ?_
 refine XC.reg ?_
 refine as_ ?_
 refine XL.fin kn ?_
 refine XC.reg ?_
 refine XL.lo rfl (l_makeMap rfl fun b1 => ?_)
 refine XL.q (q_build (place := fun x => #[(0, 1), (1, 1)][x]?) (z := [.slice none 0 0, .map none]) (fun _ => by kernel_rfl) (eS rfl e0) (bdS 1 1 rfl (by rfl) bd0)) rfl ?_
 refine XL.lo rfl (bx_ fun b3 => ?_)
 refine as_ ?_
 refine XL.fin (kq 0 kn) ?_
 refine XC.ret ?_
 exact ⟨_, [_, _], [], res1 rfl rfl, List.Sublist.refl _, by simp, rfl, b3, b1, rfl, .slice none 0 0, [], [], [], [], rfl, rfl, Sl.nil, rfl, (fun r h => by cases h), (fun j t h => by simp at h), (fun t h => by cases h), List.nodup_nil⟩

theorem lenT_spec (bt bm : Nat) (ts : List Tm) (MT A : Mem) (hT : Tab bt bm ts MT) (hsub : ∀ x, x ∈ MT → x ∈ A) : FnV Tryz.prog 118 [.pointer (some ⟨bt, 0, none⟩)] A (.int .i64 ((ts.length : Nat) : Int)) := by
 obtain ⟨v, rows, ks, Bl, BX, rfl, hks, hsl, hrl, hr4, hat, hto, hnd⟩ := hT
 have hbt : (bt, blk [v, .map (some bm)] 134) ∈ A := hsub _ (by simp)
 have hrd := hsl.rd (R := A) (fun x hx => hsub x (by simp [hx]))
 refine FnX.enter (N := 10) Tryz.func118 rfl rfl rfl fun w => ?_
 refine XC.keep (kq 0 kn) ?_
 refine XC.reg ?_
 refine as_ ?_
 refine XL.fin (kq 0 kn) ?_
 refine XC.seq ?_
 refine XC.reg ?_
 refine mv_ ?_
 refine XL.q (q_ptrEqNil (e := 134) rfl rfl (by kernel_rfl)) rfl ?_
 refine XL.fin (kq 0 (kq 4 kn)) ?_
 refine XC.condF rfl ?_
 refine XC.skip ?_
 refine nx (kq 0 kn) ?_
 refine XC.reg ?_
 refine mv_ ?_
 refine XL.q (q_nil rfl) rfl ?_
 refine XL.q (qf_ 0 0) rfl ?_
 refine XL.q (q_load rfl (by kernel_rfl) (mA hbt) (by rfl)) rfl ?_
 refine XL.q (q_lenV2 (sz := 4) rfl (by kernel_rfl) hrd) rfl ?_
 refine as_ ?_
 refine XL.fin (kq 2 kn) ?_
 refine XC.ret ?_
 refine ⟨_, [], [], res1 rfl rfl, List.nil_sublist _, by simp, ?_, rfl, rfl⟩
 rw [hks, List.length_map]

end Go.Proofs.YtphcaiplgpmnnaaGreatDoor
/- The walks of package term's table: Find, Put; bytes that stand for a place. -/
namespace Go.Proofs.YtphcaiplgpmnnaaGreatDoor
open Go.Px
instance (priority := low) SubC.union {X Y Z : Mem} [h1 : SubC X Z] [h2 : SubC Y Z] : SubC (X ++ Y) Z := ⟨fun x h => (List.mem_append.1 h).elim (h1.sub x) (h2.sub x)⟩
instance (priority := low) SubC.consC {b : Nat} {o : Obj} {X Z : Mem} [h1 : At Z b o] [h2 : SubC X Z] : SubC ((b, o) :: X) Z := ⟨fun x h => (List.mem_cons.1 h).elim (fun h => h ▸ h1.mem) (h2.sub x)⟩
theorem fit_put {B M X : Mem} {x y z : Nat × Obj} : Fit ((B ++ []) ++ (M ++ (x :: y :: z :: X))) (y :: z :: (B ++ (M ++ X))) := ⟨x :: (y :: z :: (B ++ (M ++ X))), by
  rw [List.append_nil, ← List.append_assoc]
  exact (List.perm_append_comm_assoc (B ++ M) [x, y, z] X).trans (by simp), .cons _ (List.Sublist.refl _)⟩
theorem _root_.Go.Px.XK.tl {C : Cx} {Q : XQ} {l : Env} {M J : Mem} {os : List Oper} {K : Nat → Prop} {n0 : Nat} {nd : List Nat} {plan : List (Nat × Nat)} {i : Nat} {o : Oper} (hget : nth os i = some o) (hg : o.guard = none) (hnd : nd.contains i = false) (h : OpL C o l M J (fun l' M' J' => XK C os Q K 0 nd plan l' M' J')) : XK C os Q K n0 nd ((i, 2) :: plan) l M J := by
  have h1 := XK.last hget (fun a ha => by simp [Region.wanted, hg]) hnd h
  exact fun listed hcl hp a w ha hw _ => h1 listed hcl hp a w ha hw (Nat.zero_le _)
/-- The place of a term in a table, and the table behind it. -/
def pos (ts : List Tm) (t : Tm) : Option Nat := lookK (key t) (ts.map key) 0
def at_ (ts : List Tm) (t : Tm) : Nat := (pos ts t).getD ts.length
def add (ts : List Tm) (t : Tm) : List Tm := if (pos ts t).isSome then ts else ts ++ [t]
theorem growsLitT {n : Nat} {cs : List Value} {e : TypeId} : Grows fun v R => ∃ b, v = .slice (some ⟨b, 0, none⟩) n n ∧ (b, Obj.cells cs.toArray e (0, 0)) ∈ R := fun _ _ _ h ⟨b, e, hb⟩ => ⟨b, e, h _ hb⟩
theorem pos_some {ts : List Tm} {t : Tm} (ht : Tmo t) (hts : ∀ t ∈ ts, Tmo t) {i : Nat} (h : pos ts t = some i) : ts[i]? = some t := (look_key ht hts).2 i h
theorem pos_none {ts : List Tm} {t : Tm} (ht : Tmo t) (hts : ∀ t ∈ ts, Tmo t) : pos ts t = none ↔ t ∉ ts := (look_key ht hts).1
theorem pos_of {ts : List Tm} (hts : ∀ t ∈ ts, Tmo t) (hnd : ts.Nodup) {t : Tm} {i : Nat} (h : ts[i]? = some t) : pos ts t = some i := by
  have hm : t ∈ ts := List.mem_of_getElem? h
  cases hp : pos ts t with
  | none => exact absurd hm ((pos_none (hts t hm) hts).1 hp)
  | some j =>
    have hj := pos_some (hts t hm) hts hp
    have a := List.getElem?_eq_some_iff.1 h
    have b := List.getElem?_eq_some_iff.1 hj
    obtain ⟨a1, a2⟩ := a
    obtain ⟨b1, b2⟩ := b
    have hpw := List.pairwise_iff_getElem.1 hnd
    rcases Nat.lt_trichotomy i j with h1 | h1 | h1
    · exact absurd (a2.trans b2.symm) (hpw i j a1 b1 h1)
    · rw [h1]
    · exact absurd (b2.trans a2.symm) (hpw j i b1 a1 h1)

theorem putT_spec (bt bm : Nat) (ts : List Tm) (vo : Value) (t : Tm) (MT A : Mem) (hT : Tab bt bm ts MT) (hlen : ts.length ≤ 1048576) (hvo : Rd A 1 vo t.of.length (ints t.of)) (ht : Tmo t) {e4 : TypeId} {f4 : Nat × Nat} (h4 : (2, Obj.cells (nums .u64 pow10T).toArray e4 f4) ∈ A) : FnX Tryz.prog 41 [.pointer (some ⟨bt, 0, none⟩), .agg (tmc t.kind vo t.text t.n).toArray] MT A fun r M J => J = [] ∧ r = .int .i64 ((at_ ts t : Nat) : Int) ∧ Tab bt bm (add ts t) M := by
  obtain ⟨v, rows, ks, Bl, BX, rfl, hks, hsl, hrl, hr4, hat, hto, hnd⟩ := hT
  have hkind := ht.kind
  haveI := hvo.cel
  refine FnX.enter (N := 50) Tryz.func41 rfl rfl rfl fun w => ?_
  refine XC.keep (kq 0 (kq 1 kn)) ?_
  refine XC.reg ?_
  refine XL.lo rfl (bx_ fun b3 => ?_)
  refine as_ ?_
  refine XL.fin (kq 0 (kq 3 kn)) ?_
  refine XC.seq ?_
  refine XC.reg ?_
  refine mv_ ?_
  refine XL.q (q_ptrEqNil (e := 134) rfl rfl (by kernel_rfl)) rfl ?_
  refine XL.fin (kq 0 (kq 3 (kq 8 kn))) ?_
  refine XC.condF rfl ?_
  refine XC.skip ?_
  refine nx (kq 0 (kq 3 kn)) ?_
  refine XC.drawF [0, 1, 2, 3, 4, 5, 7, 8, 9, 10, 11] [(0, 0), (1, 0), (2, 0), (3, 1), (4, 1), (5, 2), (6, 2), (7, 0), (8, 0), (9, 0), (10, 0), (11, 0)] (by kernel_rfl) (by kernel_rfl) fun hs => ?_
  refine XF.q hs rfl qm_ rfl ?_
  refine XF.q hs rfl (q_nil rfl) rfl ?_
  refine XF.q hs rfl (qf_ 1 1) rfl ?_
  refine XF.r hs rfl ql_ rfl ?_
  refine XF.r hs rfl (qw_ 4) rfl ?_
  refine XF.callV rfl (aS rfl a0) (by kernel_rfl) (name_spec vo t _ (hvo.mono fun _ h => mA h) ht (mA h4)) rfl ?_
  refine XF.tl rfl rfl rfl (OpQ.opL (q_lookT (kt := 9) (et := 3) rfl rfl (by kernel_rfl) (by kernel_rfl) (fun _ => by rfl) At.mem) rfl ?_)
  refine XF.q hs rfl qm_ rfl ?_
  refine XF.q hs rfl (q_x0 rfl) rfl ?_
  refine XF.q hs rfl (q_x1 rfl) rfl ?_
  refine XF.q hs rfl (q_assign rfl) rfl ?_
  refine XF.q hs rfl (q_assign rfl) rfl ?_
  refine XF.fin (kq 0 (kq 3 (kq 5 (kq 6 kn)))) ?_
  refine XC.join (α := Mem) (fun _ => [(5, .int .i64 ((at_ ts t : Nat) : Int))]) (fun M => M) (fun _ => []) (fun M => Tab bt bm (add ts t) M) ?_ ?_
  ·
    refine XC.reg ?_
    refine mv_ ?_
    refine XL.q (q_not rfl) rfl ?_
    refine XL.fin (kq 0 (kq 3 (kq 5 (kq 20 kn)))) ?_
    refine XC.cond rfl (fun hc => ?_) (fun hc => ?_)
    ·
      have hnm : pos ts t = none := by
        cases hp : pos ts t with
        | none => rfl
        | some j => rw [hks] at hc; rw [show lookK (key t) (ts.map key) 0 = some j from hp] at hc; cases hc
      have hnk : lookK (key t) ks 0 = none := by rw [hks]; exact hnm
      have hkl : ks.length = ts.length := by rw [hks, List.length_map]
      refine XC.reg ?_
      refine mv_ ?_
      refine XL.q (q_nil rfl) rfl ?_
      refine XL.q (qf_ 0 0) rfl ?_
      refine XL.q ql_ rfl ?_
      refine XL.q (q_lenV2 (sz := 4) rfl (by kernel_rfl) (hsl.rd (R := Bl) fun _ h => h)) rfl ?_
      refine as_ ?_
      refine XL.fin (kq 0 (kq 3 (kq 5 kn))) ?_
      refine XC.reg ?_
      refine XL.q (qf_ 1 1) rfl ?_
      refine XL.q ql_ rfl ?_
      refine XL.call (aS rfl a0) (by kernel_rfl) (cloneI_spec vo t.of.length (ints t.of) _ (hvo.mono fun _ h => mA h) (ints_one' _) (by have := ht.ofl; omega)) rfl ?_
      rintro v28 M28 J28 ⟨rfl, hv28⟩
      haveI := hv28.cel
      refine XL.q (qf_ 1 1) rfl ?_
      refine XL.lo rfl (l_store rfl rfl hv28.one (by kernel_rfl) SetC.set UpC.upd ?_)
      refine XL.fin (kq 0 (kq 3 (kq 5 kn))) ?_
      refine XC.drawK1 (Bl) (_) true [0, 1, 2, 3, 4, 5, 6, 7, 8, 9, 10, 11, 12, 13, 14, 15, 16, 19] [(0, 0), (1, 0), (2, 0), (3, 0), (4, 1), (5, 1), (7, 0), (8, 0), (9, 0), (10, 1), (11, 1), (14, 0), (6, 3), (12, 4), (13, 2), (15, 0), (16, 0), (17, 2), (18, 2), (19, 0), (20, 2)] (by kernel_rfl) (by kernel_rfl) PickC.perm fun hs K n0 hKm hKs hKn => ?_
      refine XK.q hs rfl qm_ rfl ?_
      refine XK.q hs rfl qm_ rfl ?_
      refine XK.q hs rfl (q_nil rfl) rfl ?_
      refine XK.q hs rfl (qf_ 1 1) rfl ?_
      refine XK.r hs rfl kr_ hKs ql_ rfl ?_
      refine XK.r hs rfl kr_ hKs (qw_ 4) rfl ?_
      refine XK.q hs rfl qm_ rfl ?_
      refine XK.q hs rfl (q_nil rfl) rfl ?_
      refine XK.q hs rfl (qf_ 0 0) rfl ?_
      refine XK.r hs rfl kr_ hKs ql_ rfl ?_
      refine XK.r hs rfl kr_ hKs (qw_ 4) rfl ?_
      refine XK.q hs rfl qm_ rfl ?_
      refine XK.group [⟨6, 36, fun v _ => v = .string (key t)⟩, ⟨12, 42, fun v R => ∃ b, v = .slice (some ⟨b, 0, none⟩) 1 1 ∧ (b, Obj.cells (tmc t.kind v28 t.text t.n).toArray 76 (0, 0)) ∈ R⟩]
        (allS growsEq (allS growsLitT (all0))) (show List.Nodup [36, 42] by decide) (show List.Nodup [6, 12] by decide) (allS (blt_lt rfl) (allS (blt_lt rfl) (all0)))
        (allS ⟨_, rfl, fun vs R w hb ha => ⟨.inl rfl, ?_⟩⟩ (allS ⟨_, rfl, fun vs R w hb ha => ⟨.inl rfl, ?_⟩⟩ (all0))) ?_
      ·
        exact l_callV (aS rfl a0) (by kernel_rfl) (name_spec v28 t _ (hv28.mono fun _ h => hb _ (by simp [h])) ht (hb _ (mA h4))) rfl ⟨_, rfl, rfl⟩
      ·
        exact l_buildSlice (e := 76) (sz := 4) (z := [.int .u8 0, .slice none 0 0, .string ByteArray.empty, .int .i64 0]) (by kernel_rfl) (eS rfl e0) (.cons rfl rfl (by rfl) (SetR.all (by rfl)) .nil) rfl fun b => ⟨_, rfl, b, rfl, List.mem_append_left _ List.mem_cons_self⟩
      intro vs Jn0 hφ
      have g6 := ofH hφ
      dsimp only at g6
      replace hφ := ofT hφ
      have g12 := ofH hφ
      dsimp only at g12
      clear hφ
      dsimp only [gEnv, List.map, List.cons_append, List.nil_append]
      generalize vs 6 = u36 at *
      generalize vs 12 = u42 at *
      subst g6
      obtain ⟨b42, rfl, hb42⟩ := g12
      have hl42 := Rd.whole (sz := 4) (n := 1) hb42 (by rfl)
      refine XK.lo _ _ rfl rfl (List.Perm.refl _) hKm fun w0 => (l_append2 (e := 76) (sz := 4) (by_ := 56) rfl rfl (by kernel_rfl) rfl hsl (hl42.mono fun x hx => by simpa only [List.append_assoc, List.nil_append, List.append_nil] using hx) (by intro c hc; simp only [List.mem_cons, List.not_mem_nil, or_false] at hc; rcases hc with rfl | rfl | rfl | rfl <;> first | rfl | exact hv28.one) (by rw [List.append_nil]) (by unfold maxLen; omega) (by omega) rfl fun v43 B43 hs43 => fun _ => ?_)
      refine XK.q hs rfl (q_nil rfl) rfl ?_
      refine XK.q hs rfl (qf_ 0 0) rfl ?_
      refine XK.tl rfl rfl rfl (l_store rfl rfl hs43.one (by kernel_rfl) SetC.set UpC.upd ?_)
      refine XK.tl rfl rfl rfl (l_mapEntry (kt := 9) (et := 3) rfl rfl (by kernel_rfl) (by kernel_rfl) (fun _ => by rfl) hnk rfl UpC.upd ?_)
      refine XK.q hs rfl (q_x1 rfl) rfl ?_
      refine XK.tl rfl rfl rfl (l_entryStore (ks := ks) (s := key t) rfl (by rfl) (by rfl) UpC.upd ?_)
      refine XK.nil ?_
      have hat_ : at_ ts t = ks.length := by unfold at_; rw [hnm, hkl]; rfl
      have hadd : add ts t = ts ++ [t] := by unfold add; rw [hnm]; rfl
      refine jn (_ :: _ :: (B43 ++ (M28 ++ BX))) ⟨v43, rows ++ [tmc t.kind v28 t.text t.n], ks ++ [key t], B43, M28 ++ BX, rfl, by rw [hadd, hks]; simp, (by rw [show (rows ++ [tmc t.kind v28 t.text t.n]).flatten = rows.flatten ++ tmc t.kind v28 t.text t.n by simp, List.length_append]; exact hs43), by simp [hrl], ?_, ?_, ?_, ?_⟩ (kp 5 (by rw [hat_]; rfl) kn) ?_ (fun _ h => by cases h)
      · intro r hr
        rcases List.mem_append.1 hr with hr | hr
        · exact hr4 r hr
        · rw [List.mem_singleton.1 hr]; rfl
      · intro j u hj
        rw [hadd] at hj
        by_cases hlt : j < ts.length
        · rw [List.getElem?_append_left hlt] at hj
          obtain ⟨r, hr, hcr⟩ := hat j u hj
          exact ⟨r, by rw [List.getElem?_append_left (by omega)]; exact hr, hcr.mono fun x hx => List.mem_append_right _ hx⟩
        · rw [List.getElem?_append_right (by omega)] at hj
          have hj0 : j = ts.length := by
            have := (List.getElem?_eq_some_iff.1 hj).1
            simp at this; omega
          subst hj0
          simp at hj
          subst hj
          exact ⟨_, by rw [List.getElem?_append_right (by omega), show ts.length - rows.length = 0 by omega]; rfl, v28, rfl, hv28.mono fun x hx => List.mem_append_left _ hx⟩
      · intro u hu
        rw [hadd] at hu
        rcases List.mem_append.1 hu with hu | hu
        · exact hto u hu
        · rw [List.mem_singleton.1 hu]; exact ht
      · rw [hadd, List.nodup_append]
        refine ⟨hnd, by simp, fun x hx y hy e => (pos_none ht hto).1 hnm ?_⟩
        rw [List.mem_singleton.1 hy] at e
        exact e ▸ hx
      · rw [List.length_append]; exact fit_put
    ·
      have hsm : (pos ts t).isSome = true := by
        cases hp : pos ts t with
        | some j => rfl
        | none => rw [hks] at hc; rw [show lookK (key t) (ts.map key) 0 = none from hp] at hc; cases hc
      refine XC.skip ?_
      have hpl : lookK (key t) ks 0 = pos ts t := by rw [hks]; rfl
      have hadd : add ts t = ts := by unfold add; rw [hsm]; rfl
      refine jn _ ⟨v, rows, ks, Bl, BX, rfl, by rw [hadd, hks], hsl, hrl, hr4, by rw [hadd]; exact hat, by rw [hadd]; exact hto, by rw [hadd]; exact hnd⟩ (kp 5 (by rw [hpl]; unfold at_; cases hq : pos ts t with | none => rw [hq] at hsm; cases hsm | some j => rfl) kn) (Fit.sub (.cons _ (List.Sublist.refl _))) (fun _ h => h)
  ·
    rintro M hM
    refine XC.reg ?_
    refine mv_ (as_ ?_)
    refine XL.fin (kq 4 kn) ?_
    refine XC.ret ?_
    exact ⟨_, _, _, res1 rfl rfl, List.Sublist.refl _, fun _ h => h, rfl, rfl, hM⟩

end Go.Proofs.YtphcaiplgpmnnaaGreatDoor
/- The walks of the term laws: same; terms that are put. -/
namespace Go.Proofs.YtphcaiplgpmnnaaGreatDoor
open Go.Px
/-- Are two terms one? -/
def tmEq (a b : Tm) : Bool := a.kind == b.kind && a.n == b.n && a.text == b.text && a.of == b.of
end Go.Proofs.YtphcaiplgpmnnaaGreatDoor
/- The walk of TermPuts. -/
namespace Go.Px
section
variable {P : Program} {R R' : Mem} {l : Env} {d : Option Nat} {ty t : TypeId} {pos : String} {af : Array Edge} {g : Option (Nat × Bool)} {x y : Operand} {v u : Value} {sz n a off j : Nat} {xs : List Value}
/-- A field of an element; what is there. -/
theorem q_fldV {f : Nat} {s : TypeId} (hx : ev l x = some (vAt sz a v)) (h : Rd R' sz v n xs) (ha : a < n) (hf : fieldOff P s f = some off) : OpQ P R ⟨d, .fieldAddr s x f, ty, pos, af, g⟩ l (vAt 1 (a * sz + off) v) := by
  obtain ⟨p, c, rfl, h2, h3, h4⟩ := h
  rcases h4 with h4 | ⟨b, o, cs, e', fr, rfl, hb, hx'⟩
  · omega
  · simp only [vAt, Addr.add_mid, Nat.mul_one] at hx ⊢
    exact q_fieldAddrN _ hx hf (by omega)
theorem q_ldVF (hx : ev l x = some (vAt 1 j v)) (h : Rd R sz v n xs) (hn : 0 < n) (ht : scalarT P t = true) (hj : xs[j]? = some u) : OpQ P R ⟨d, .load t x, ty, pos, af, g⟩ l u := by
  obtain ⟨p, c, rfl, h2, h3, h4⟩ := h
  rcases h4 with h4 | ⟨b, o, cs, e', fr, rfl, hb, hx'⟩
  · omega
  · simp only [vAt, Addr.add_mid] at hx
    refine q_load (b := b) (o := o + j * 1) hx ht hb ?_
    rw [Nat.mul_one]; exact hx' j u hj
end
end Go.Px
namespace Go.Proofs.YtphcaiplgpmnnaaGreatDoor
open Go.Px
/-- Terms that came in. -/
structure TmI (t : Tm) : Prop where
  kind : t.kind < 256
  n : i64 t.n
  of : ∀ i ∈ t.of, i64 i
  ofl : t.of.length ≤ maxLen
  text : B256 t.text
  tl : t.text.length ≤ maxLen
/-- Rows of terms that read. -/
def Rws (R : Mem) (rows : List (List Value)) (ts : List Tm) : Prop := rows.length = ts.length ∧ (∀ r ∈ rows, r.length = 4) ∧ ∀ (j : Nat) (t : Tm), ts[j]? = some t → ∃ r, rows[j]? = some r ∧ TmC R r t
theorem Rws.at (R : Mem) {rows : List (List Value)} {ts : List Tm} (h : Rws R rows ts) {j : Nat} (hj : j < ts.length) : ∃ vo, rows[j]? = some (tmc ts[j].kind vo ts[j].text ts[j].n) ∧ Rd R 1 vo ts[j].of.length (ints ts[j].of) := by
  obtain ⟨r, h1, vo, rfl, h2⟩ := h.2.2 j ts[j] (List.getElem?_eq_getElem hj)
  exact ⟨vo, h1, h2⟩
theorem Rws.get {R : Mem} {rows : List (List Value)} {ts : List Tm} (h : Rws R rows ts) {j : Nat} {r : List Value} (hr : rows[j]? = some r) {k : Nat} (hk : k < 4) : rows.flatten[j * 4 + k]? = r[k]? := flat_get h.2.1 hr k hk
/-- Which of the first k of a table's terms is that one? -/
def fnd (ts : List Tm) (t : Tm) (k : Nat) : Int := match pos ts t with
  | some j => if j < k then (j : Int) else -1
  | none => -1
theorem add_len {ts : List Tm} {t : Tm} : (add ts t).length ≤ ts.length + 1 := by unfold add; split <;> simp
structure Pst where
  i : Nat
  ts : List Tm
  v : Value
  rows : List (List Value)
  B : Mem
  MT : Mem
structure Pok (A : Mem) (bt bm n : Nat) (s : Pst) : Prop where
  hi : s.i ≤ n
  hl : s.ts.length ≤ s.i
  tab : Tab bt bm s.ts s.MT
  sl : Sl 4 s.v s.ts.length s.rows.flatten s.B
  rw_ : Rws A s.rows s.ts

end Go.Proofs.YtphcaiplgpmnnaaGreatDoor
/- Bytes that stand for a place in a table: Bytes, Place, Read. -/
namespace Go.Proofs.YtphcaiplgpmnnaaGreatDoor
open Go.Px
/-- A number's bits, its bytes. -/
def u64 (i : Int) : Nat := (i % 18446744073709551616).toNat
def byt (i : Int) (k : Nat) : Nat := (i / ((256 ^ k : Nat) : Int) % 256).toNat
theorem byt_u (i : Int) {k : Nat} (hk : k < 8) : byt i k = u64 i / 256 ^ k % 256 := by
  unfold byt u64
  rcases (show k = 0 ∨ k = 1 ∨ k = 2 ∨ k = 3 ∨ k = 4 ∨ k = 5 ∨ k = 6 ∨ k = 7 by omega) with rfl | rfl | rfl | rfl | rfl | rfl | rfl | rfl <;> simp only [Nat.reducePow] <;> omega
theorem byt_lt (i : Int) (k : Nat) : byt i k < 256 := by unfold byt; omega
theorem u64_lt (i : Int) : u64 i < 18446744073709551616 := by unfold u64; omega
/-- The bytes that stand for a place, when so many of the number's are laid. -/
def btk (i : Int) (k : Nat) : List Nat := 84 :: ((List.range k).map (byt i) ++ List.replicate (31 - k) 0)
def bts (i : Int) : List Nat := btk i 8
theorem btk_len (i : Int) {k : Nat} (h : k ≤ 31) : (btk i k).length = 32 := by simp [btk]; omega
theorem btk_succ (i : Int) {k : Nat} (h : k < 31) : (btk i k).set (1 + k) (byt i k) = btk i (k + 1) := by
  unfold btk
  rw [show 1 + k = k + 1 by omega, List.set_cons_succ, List.set_append_right _ _ (by simp), List.range_succ, List.map_append]
  simp only [List.length_map, List.length_range, Nat.sub_self]
  rw [show 31 - k = (31 - (k + 1)) + 1 by omega, List.replicate_succ, List.set_cons_zero]
  simp
theorem bts_get (i : Int) {k : Nat} (h : k < 8) : (bts i).getD (1 + k) 0 = byt i k := by
  unfold bts btk
  rw [show 1 + k = k + 1 by omega, List.getD_cons_succ, List.getD_eq_getElem?_getD, List.getElem?_append_left (by simpa using h)]
  simp [h]
theorem bts_b (i : Int) : ∀ x ∈ bts i, x < 256 := by
  intro x hx
  simp only [bts, btk, List.mem_cons, List.mem_append, List.mem_map, List.mem_replicate] at hx
  rcases hx with rfl | ⟨k, _, rfl⟩ | ⟨_, rfl⟩
  · decide
  · exact byt_lt i k
  · decide
/-- The number of the eight bytes behind the first one. -/
def le8 (ws : List Nat) : Nat → Nat
  | 0 => 0
  | k + 1 => le8 ws k + ws.getD (1 + k) 0 * 256 ^ k
theorem getD_l8 {ws : List Nat} (h : ∀ x ∈ ws, x < 256) (j : Nat) : ws.getD j 0 < 256 := by
  rw [List.getD_eq_getElem?_getD]
  cases hj : ws[j]? with
  | none => decide
  | some x => exact h x (List.mem_of_getElem? hj)
theorem le8_lt {ws : List Nat} (h : ∀ x ∈ ws, x < 256) : ∀ k, le8 ws k < 256 ^ k
  | 0 => by show 0 < 1; decide
  | k + 1 => by
    have h1 := le8_lt h k
    have h2 := getD_l8 h (1 + k)
    have h3 : ws.getD (1 + k) 0 * 256 ^ k ≤ 255 * 256 ^ k := Nat.mul_le_mul_right _ (by omega)
    unfold le8
    rw [Nat.pow_succ]; omega
theorem le8_bts (i : Int) : ∀ k, k ≤ 8 → le8 (bts i) k = u64 i % 256 ^ k
  | 0, _ => by simp [le8, Nat.mod_one]
  | k + 1, h => by
    rw [le8, le8_bts i k (by omega), bts_get i (by omega), byt_u i (by omega), Nat.pow_succ, Nat.mod_mul, Nat.mul_comm (256 ^ k)]
/-- The place for which bytes stand, of so many. -/
def plc (ws : List Nat) (n : Nat) : Option Nat := if 32 ≤ ws.length ∧ ws.getD 0 0 = 84 ∧ (∀ c ∈ ws.drop 9, c = 0) ∧ le8 ws 8 < n then some (le8 ws 8) else none
theorem plc_no {ws : List Nat} {n : Nat} (h : ¬ (32 ≤ ws.length ∧ ws.getD 0 0 = 84 ∧ (∀ c ∈ ws.drop 9, c = 0) ∧ le8 ws 8 < n)) : plc ws n = none := if_neg h
theorem plc_yes {ws : List Nat} {n : Nat} (h : 32 ≤ ws.length ∧ ws.getD 0 0 = 84 ∧ (∀ c ∈ ws.drop 9, c = 0) ∧ le8 ws 8 < n) : plc ws n = some (le8 ws 8) := if_pos h
theorem plc_r0 {ws : List Nat} {n : Nat} (h : plc ws n = none) : Value.tuple #[.int .i64 0, .bool false] = .tuple #[.int .i64 (((plc ws n).getD 0 : Nat) : Int), .bool (plc ws n).isSome] := by rw [h]; rfl
theorem plc_r1 {ws : List Nat} {n m : Nat} (h : plc ws n = some m) : Value.tuple #[.int .i64 (m : Int), .bool true] = .tuple #[.int .i64 (((plc ws n).getD 0 : Nat) : Int), .bool (plc ws n).isSome] := by rw [h]; rfl
theorem plc_len {ws : List Nat} {n : Nat} (h : ws.length < 32) : plc ws n = none := plc_no fun h' => absurd h'.1 (by omega)
theorem plc_84 {ws : List Nat} {n : Nat} (h : ws.getD 0 0 ≠ 84) : plc ws n = none := plc_no fun h' => h h'.2.1
theorem plc_nz {ws : List Nat} {n j : Nat} (hj : j < (ws.drop 9).length) (h : (ws.drop 9).getD j 0 ≠ 0) : plc ws n = none := plc_no fun h' => h (h'.2.2.1 _ (by rw [List.getD_eq_getElem?_getD, List.getElem?_eq_getElem hj]; exact List.getElem_mem hj))
theorem plc_ge {ws : List Nat} {n m : Nat} (h8 : le8 ws 8 = m) (h : n ≤ m) : plc ws n = none := plc_no fun h' => by
  have := h'.2.2.2
  rw [h8] at this
  exact absurd this (Nat.not_lt.2 h)
theorem plc_some {ws : List Nat} {n m : Nat} (h8 : le8 ws 8 = m) (h1 : 32 ≤ ws.length) (h2 : ws.getD 0 0 = 84) (h3 : ∀ c ∈ ws.drop 9, c = 0) (h : m < n) : plc ws n = some m := by
  rw [plc_yes ⟨h1, h2, h3, by rw [h8]; exact h⟩, h8]
theorem plc_bts (i : Int) (n : Nat) : plc (bts i) n = if u64 i < n then some (u64 i) else none := by
  have e : le8 (bts i) 8 = u64 i := by rw [le8_bts i 8 (by omega)]; exact Nat.mod_eq_of_lt (u64_lt i)
  have hd : ∀ c ∈ (bts i).drop 9, c = 0 := by
    intro c hc
    unfold bts btk at hc
    rw [List.drop_succ_cons, List.drop_append_of_le_length (by simp)] at hc
    simp only [List.mem_append] at hc
    rcases hc with hc | hc
    · rw [List.drop_of_length_le (by simp)] at hc; cases hc
    · exact (List.mem_replicate.1 hc).2
  unfold plc
  rw [e, btk_len i (k := 8) (by omega) |> (fun h => (h : (bts i).length = 32))]
  by_cases h : u64 i < n
  · rw [if_pos h, if_pos ⟨by omega, rfl, hd, h⟩]
  · rw [if_neg h, if_neg (fun h' => h h'.2.2.2)]
theorem or_addT {n w k : Nat} (h : n < 2 ^ k) : n ||| w * 2 ^ k = n + w * 2 ^ k := by
  have := Nat.two_pow_add_eq_or_of_lt h w
  rw [Nat.mul_comm w, Nat.or_comm, Nat.add_comm n]; exact this.symm
theorem le8_w {ws : List Nat} (h : ∀ x ∈ ws, x < 256) {k : Nat} (hk : k < 8) : ws.getD (1 + k) 0 * 2 ^ (8 * k) < 18446744073709551616 := by
  have h2 := getD_l8 h (1 + k)
  have hpk : (256 : Nat) ^ k ≤ 256 ^ 7 := Nat.pow_le_pow_right (by decide) (by omega)
  have hmk : ws.getD (1 + k) 0 * 256 ^ k ≤ 255 * 256 ^ 7 := Nat.mul_le_mul (by omega) hpk
  rw [Nat.pow_mul]
  exact Nat.lt_of_le_of_lt hmk (by decide)
theorem le8_n {ws : List Nat} (h : ∀ x ∈ ws, x < 256) {k : Nat} (hk : k < 8) : le8 ws k < 18446744073709551616 :=
  Nat.lt_of_lt_of_le (le8_lt h k) (Nat.le_trans (Nat.pow_le_pow_right (by decide) (show k ≤ 7 by omega)) (by decide))
theorem le8_or {ws : List Nat} (h : ∀ x ∈ ws, x < 256) (k : Nat) : le8 ws k ||| ws.getD (1 + k) 0 * 2 ^ (8 * k) = le8 ws (k + 1) := by
  rw [or_addT (by rw [Nat.pow_mul]; exact le8_lt h k), Nat.pow_mul]; rfl
end Go.Proofs.YtphcaiplgpmnnaaGreatDoor
namespace Go.Px
theorem q_or64 {P : Program} {R : Mem} {l : Env} {d : Option Nat} {ty t t' : TypeId} {pos : String} {af : Array Edge} {g : Option (Nat × Bool)} {x y : Operand} {a b : Nat} (hx : ev l x = some (.int .u64 (a : Int))) (hy : ev l y = some (.int .u64 (b : Int))) (ha : a < 18446744073709551616) (hb : b < 18446744073709551616) : OpQ P R ⟨d, .binOp .or t x y t', ty, pos, af, g⟩ l (.int .u64 ((a ||| b : Nat) : Int)) := q_or rfl hx hy ha hb
section
variable {P : Program} {R R' : Mem} {l : Env} {d : Option Nat} {ty t t' : TypeId} {pos : String} {af : Array Edge} {g : Option (Nat × Bool)} {x y : Operand} {i j : Int} {k : Nat}
theorem q_shr8 (hx : ev l x = some (.int .i64 i)) (hy : ev l y = some (.int .i64 j)) (hj : j = ((8 * k : Nat) : Int)) (hk : k < 8) : OpQ P R ⟨d, .binOp .shr t x y t', ty, pos, af, g⟩ l (.int .i64 (i / ((256 ^ k : Nat) : Int))) := by
  subst hj
  have h := q_shr (P := P) (R := R) (d := d) (ty := ty) (pos := pos) (af := af) (g := g) (t := t) (t' := t') hx hy (by omega)
  rw [Int.toNat_natCast, Nat.min_eq_left (show 8 * k ≤ IntKind.i64.bits by show 8 * k ≤ 64; omega)] at h
  rw [show (256 ^ k : Nat) = 2 ^ (8 * k) by rw [Nat.pow_mul], Int.natCast_pow, ← Int.fdiv_eq_ediv_of_nonneg _ (Int.pow_nonneg (by decide))]
  exact h
theorem q_to8i {s : TypeId} (hx : ev l x = some (.int .i64 i)) (hc : convI P s t = some .u8) : OpQ P R ⟨d, .convert s t x, ty, pos, af, g⟩ l (.int .u8 (((i % 256).toNat : Nat) : Int)) := by
  refine q_convR _ hx hc ?_
  unfold IntKind.wrap
  simp only [IntKind.signed, IntKind.bits, Bool.false_and, Bool.false_eq_true, if_false]
  omega
end
end Go.Px
namespace Go.Proofs.YtphcaiplgpmnnaaGreatDoor
open Go.Px

theorem bytes_spec (i : Int) (A : Mem) : FnX Tryz.prog 44 [.int .i64 i] [] A fun r M J => J = [] ∧ Sl 1 r 32 (nums .u8 (bts i)) M := by
 skip
 refine FnX.enter (N := 22) Tryz.func44 rfl rfl rfl fun w => ?_
 refine XC.keep (kq 0 kn) ?_
 refine XC.reg ?_
 refine as_ ?_
 refine XL.fin (kq 0 kn) ?_
 refine XC.reg ?_
 refine XL.lo rfl (l_makeV (a := 32) (e := 5) (k := .u8) (by_ := 1) rfl rfl (by kernel_rfl) rfl rfl (by omega) (by omega) rfl fun v5 B5 hs5 => ?_)
 refine as_ ?_
 refine XL.fin (kq 0 (kq 3 kn)) ?_
 refine XC.reg ?_
 refine mv_ ?_
 refine XL.q (q_atV2 (sz := 1) (a := 0) rfl rfl (by kernel_rfl) rfl (by first | assumption | exact Sl.rd (by assumption) (fun _ h => h) | exact By.rd (by assumption)) (by omega)) rfl ?_
 refine XL.lo rfl (l_stV2 (u := 84) rfl rfl rfl (by kernel_rfl) hs5 (by decide) PickC.perm fun B5b hs5b => ?_)
 refine XL.fin (kq 0 (kq 3 kn)) ?_
 refine XC.seq ?_
 refine XC.reg ?_
 refine mv_ ?_
 refine XL.fin (kq 0 (kq 3 (kq 8 kn))) ?_
 refine XC.block ?_
 refine XC.loop (α := Nat × Mem) (fun s => [(0, .int .i64 i), (3, v5), (8, .int .i64 (s.1 : Int))]) (fun s => s.2) (fun _ => []) (fun s => s.1 ≤ 8 ∧ Sl 1 v5 32 (nums .u8 (btk i s.1)) s.2) (fun s => 8 - s.1) ⟨0, B5b⟩ ⟨Nat.zero_le _, hs5b⟩ (kq 0 (kq 3 (kq 8 kn))) (Fit.eq (by simp)) (fun _ h => h) ?_
 rintro ⟨k, B⟩ ⟨hk, hs⟩
 dsimp only at hk hs ⊢
 haveI := hs.cel
 refine XC.reg ?_
 refine XL.q (q_bin rfl rfl rfl) rfl ?_
 refine XL.fin (kq 0 (kq 3 (kq 8 (kq 9 kn)))) ?_
 refine XC.seq ?_
 refine XC.cond rfl (fun hc => ?_) (fun hc => ?_)
 ·
  have hlt : k < 8 := by simp at hc; omega
  refine XC.skip ?_
  refine nx (kq 0 (kq 3 (kq 8 kn))) ?_
  refine XC.seq ?_
  refine XC.block ?_
  refine XC.reg ?_
  refine mv_ (as_ ?_)
  refine XL.fin (kq 0 (kq 3 (kq 4 (kq 8 kn)))) ?_
  refine XC.reg1 ?_
  refine mv_ (mv_ ?_)
  refine XL.q (q_addI (a := 1) rfl rfl rfl rfl (by omega)) rfl ?_
  refine mv_ (mv_ ?_)
  refine XL.q (q_mulI (a := 8) rfl rfl rfl rfl (by omega)) rfl ?_
  refine XL.q (q_shr8 (k := k) rfl rfl rfl hlt) rfl ?_
  refine XL.q (q_to8i rfl (by kernel_rfl)) rfl ?_
  refine XL.q (q_atV2 (sz := 1) rfl rfl (by kernel_rfl) rfl (by first | assumption | exact Sl.rd (by assumption) (fun _ h => h) | exact By.rd (by assumption)) (by omega)) rfl ?_
  refine XL.lo rfl (l_stV2 (u := byt i k) rfl rfl rfl (by kernel_rfl) hs (by omega) PickC.perm fun B6 hs6 => ?_)
  rw [btk_succ i (by omega)] at hs6
  refine XL.nil ?_
  refine nb ?_
  refine nx (kq 0 (kq 3 (kq 8 kn))) ?_
  refine XC.reg1 ?_
  refine XL.q (q_addI (b := 1) rfl rfl rfl rfl (by omega)) rfl ?_
  refine mv_ ?_
  refine XL.nil ?_
  exact rn ⟨k + 1, B6⟩ ⟨by dsimp only; omega, hs6⟩ (by dsimp only; omega) (kq 0 (kq 3 (kq 8 kn))) (Fit.eq (by simp)) (fun _ h => h)
 ·
  have hge : k = 8 := by simp at hc; omega
  subst hge
  refine XC.exit ?_
  refine te ?_
  refine re ?_
  refine be rfl ?_
  refine nx (kq 3 kn) ?_
  refine XC.reg ?_
  refine mv_ (as_ ?_)
  refine XL.fin (kq 2 kn) ?_
  refine XC.ret ?_
  exact ⟨_, B, [], res1 rfl rfl, by first | exact List.Sublist.refl _ | simp, by simp, rfl, hs⟩

theorem place_spec (bt bm : Nat) (ts : List Tm) (vp : Value) (ws : List Nat) (MT A : Mem) (hT : Tab bt bm ts MT) (hsub : ∀ x, x ∈ MT → x ∈ A) (hn : ts.length ≤ 1048576) (hp : Rd A 1 vp ws.length (nums .u8 ws)) (hw : ∀ x ∈ ws, x < 256) (hl : ws.length ≤ maxLen) : FnV Tryz.prog 85 [.pointer (some ⟨bt, 0, none⟩), vp] A (.tuple #[.int .i64 (((plc ws ts.length).getD 0 : Nat) : Int), .bool (plc ws ts.length).isSome]) := by
 haveI := hp.cel
 have hmx : maxLen < 9223372036854775808 := by unfold maxLen; omega
 refine FnX.enter (N := 51) Tryz.func85 rfl rfl rfl fun w => ?_
 refine XC.keep (kq 0 (kq 1 kn)) ?_
 refine XC.reg ?_
 refine as_ (as_ ?_)
 refine XL.fin (kq 0 (kq 1 kn)) ?_
 refine XC.seq ?_
 refine XC.reg ?_
 refine mv_ ?_
 refine XL.q (q_lenV2 (sz := 1) rfl (by kernel_rfl) hp) rfl ?_
 refine XL.q (q_bin rfl rfl rfl) rfl ?_
 refine mv_ ?_
 refine XL.split (t := 13) rfl (fun hb => ?_) (fun hb => ?_)
 ·
  refine XL.gn rfl rfl rfl rfl ?_
  refine XL.gn rfl rfl rfl rfl ?_
  refine XL.gn rfl rfl rfl rfl ?_
  refine XL.gn rfl rfl rfl rfl ?_
  refine XL.q (q_pickT rfl rfl) rfl ?_
  refine XL.fin (kq 0 (kq 1 (kq 18 kn))) ?_
  refine XC.condT rfl ?_
  refine XC.reg ?_
  refine as_ (as_ ?_)
  refine XL.fin (kq 4 (kq 5 kn)) ?_
  refine XC.ret ?_
  refine tr ?_
  refine ⟨_, [], [], res2 rfl rfl rfl, List.nil_sublist _, by simp, plc_r0 (plc_len (by simp at hb; omega)), rfl, rfl⟩
 ·
  have h32 : 32 ≤ ws.length := by simp at hb; omega
  have h0 : ws.getD 0 0 = (ws.getD 0 0) := rfl
  refine XL.gy rfl rfl (OpQ.opL qm_ rfl ?_)
  refine XL.gy rfl rfl (OpQ.opL (q_atV2 (sz := 1) (a := 0) rfl rfl (by kernel_rfl) rfl hp (by omega)) rfl ?_)
  refine XL.gy rfl rfl (OpQ.opL (q_ldVN (j := 0) (Rd.mono hp SubC.sub) rfl (by kernel_rfl) (by omega)) rfl ?_)
  refine XL.gy rfl rfl (OpQ.opL (q_bin rfl rfl rfl) rfl ?_)
  refine XL.q (q_pickF rfl rfl) rfl ?_
  refine XL.fin (kq 0 (kq 1 (kq 18 kn))) ?_
  refine XC.cond rfl (fun hc => ?_) (fun hc => ?_)
  ·
   have h84 : ws.getD 0 0 ≠ 84 := by have := bne_iff_ne.1 hc; omega
   refine XC.reg ?_
   refine as_ (as_ ?_)
   refine XL.fin (kq 4 (kq 5 kn)) ?_
   refine XC.ret ?_
   refine tr ?_
   refine ⟨_, [], [], res2 rfl rfl rfl, List.nil_sublist _, by simp, plc_r0 (plc_84 h84), rfl, rfl⟩
  ·
   have h84 : ws.getD 0 0 = 84 := by have h := hc; rw [bne_eq_false_iff_eq] at h; omega
   refine XC.skip ?_
   refine nx (kq 0 (kq 1 kn)) ?_
   refine XC.reg ?_
   refine as_ ?_
   refine XL.fin (kq 0 (kq 1 (kq 6 kn))) ?_
   refine XC.seq ?_
   refine XC.reg ?_
   refine mv_ ?_
   refine XL.fin (kq 0 (kq 1 (kq 6 (kq 19 kn)))) ?_
   refine XC.block ?_
   refine XC.loop (α := Nat) (fun k => [(0, .pointer (some ⟨bt, 0, none⟩)), (1, vp), (6, .int .u64 ((le8 ws k : Nat) : Int)), (19, .int .i64 (k : Int))]) (fun _ => []) (fun _ => []) (fun k => k ≤ 8) (fun k => 8 - k) 0 (by decide) (kq 0 (kq 1 (kq 6 (kq 19 kn)))) (Fit.eq (by simp)) (fun _ h => h) ?_
   rintro k hk
   refine XC.reg ?_
   refine XL.q (q_bin rfl rfl rfl) rfl ?_
   refine XL.fin (kq 0 (kq 1 (kq 6 (kq 19 (kq 20 kn))))) ?_
   refine XC.seq ?_
   refine XC.cond rfl (fun hc => ?_) (fun hc => ?_)
   ·
    have hlt : k < 8 := by simp at hc; omega
    have hwk := getD_l8 hw (1 + k)
    have h8w := le8_w hw hlt
    have h8n := le8_n hw hlt
    refine XC.skip ?_
    refine nx (kq 0 (kq 1 (kq 6 (kq 19 kn)))) ?_
    refine XC.seq ?_
    refine XC.block ?_
    refine XC.reg ?_
    refine mv_ (as_ ?_)
    refine XL.fin (kq 0 (kq 1 (kq 6 (kq 7 (kq 19 kn))))) ?_
    refine XC.reg1 ?_
    refine mv_ (mv_ (mv_ ?_))
    refine XL.q (q_addI (a := 1) rfl rfl rfl rfl (by omega)) rfl ?_
    refine XL.q (q_atV2 (sz := 1) rfl rfl (by kernel_rfl) rfl hp (by omega)) rfl ?_
    refine XL.q (q_ldVN (Rd.mono hp SubC.sub) rfl (by kernel_rfl) (by omega)) rfl ?_
    refine XL.q (q_convN (ws.getD (1 + k) 0) rfl (by kernel_rfl) (by rw [wrap64, Nat.mod_eq_of_lt (by omega)])) rfl ?_
    refine mv_ ?_
    refine XL.q (q_mulI (a := 8) rfl rfl rfl rfl (by omega)) rfl ?_
    refine XL.q (q_shlI 18446744073709551616 rfl (by decide) rfl rfl rfl rfl (by show 8 * k ≤ 64; omega)) rfl ?_
    rw [Nat.mod_eq_of_lt h8w]
    refine XL.q (q_or64 rfl rfl h8n h8w) rfl ?_
    rw [le8_or hw k]
    refine as_ ?_
    refine XL.nil ?_
    refine nb ?_
    refine nx (kq 0 (kq 1 (kq 6 (kq 19 kn)))) ?_
    refine XC.reg1 ?_
    refine XL.q (q_addI (b := 1) rfl rfl rfl rfl (by omega)) rfl ?_
    refine mv_ ?_
    refine XL.nil ?_
    exact rn (k + 1) (by omega) (by omega) (kq 0 (kq 1 (kq 6 (kq 19 kn)))) (Fit.eq (by simp)) (fun _ h => h)
   ·
    have hge : k = 8 := by simp at hc; omega
    subst hge
    generalize h8 : le8 ws 8 = n8
    refine XC.exit ?_
    refine te ?_
    refine re ?_
    refine be rfl ?_
    refine nx (kq 0 (kq 1 (kq 6 kn))) ?_
    refine XC.seq ?_
    refine XC.reg ?_
    refine mv_ ?_
    refine XL.q (q_loV2 (sz := 1) (a := 9) rfl rfl (by kernel_rfl) rfl hp (by omega)) rfl ?_
    have hq := hp.loV 9 (by omega)
    rw [Nat.mul_one, ← nums_drop] at hq
    generalize vLo 9 1 vp = vq at *
    haveI := hq.cel
    refine XL.q (q_lenV2 (sz := 1) rfl (by kernel_rfl) hq) rfl ?_
    refine mv_ ?_
    refine XL.fin (kq 0 (kq 6 (kq 35 (kq 36 (kq 37 kn))))) ?_
    refine XC.block ?_
    refine XC.loop (α := Nat) (fun j => [(0, .pointer (some ⟨bt, 0, none⟩)), (6, .int .u64 ((n8 : Nat) : Int)), (35, vq), (36, .int .i64 ((ws.length - 9 : Nat) : Int)), (37, .int .i64 (j : Int))]) (fun _ => []) (fun _ => []) (fun j => j ≤ ws.length - 9 ∧ ∀ c ∈ (ws.drop 9).take j, c = 0) (fun j => ws.length - 9 - j) 0 ⟨Nat.zero_le _, fun c h => by simp at h⟩ (kq 0 (kq 6 (kq 35 (kq 36 (kq 37 kn))))) (Fit.eq (by simp)) (fun _ h => h) ?_
    rintro j ⟨hj, hz⟩
    refine XC.reg ?_
    refine XL.q (q_bin rfl rfl rfl) rfl ?_
    refine XL.fin (kq 0 (kq 6 (kq 35 (kq 36 (kq 37 (kq 38 kn)))))) ?_
    refine XC.seq ?_
    refine XC.cond rfl (fun hc => ?_) (fun hc => ?_)
    ·
     have hlt : j < ws.length - 9 := by simp at hc; omega
     have hjw : j < (ws.drop 9).length := by rw [List.length_drop]; exact hlt
     have hwj := getD_l8 (ws := ws.drop 9) (fun x hx => hw x (List.mem_of_mem_drop hx)) j
     refine XC.skip ?_
     refine nx (kq 0 (kq 6 (kq 35 (kq 36 (kq 37 kn))))) ?_
     refine XC.seq ?_
     refine XC.block ?_
     refine XC.reg ?_
     refine XL.q (q_atV2 (sz := 1) rfl rfl (by kernel_rfl) rfl hq hlt) rfl ?_
     refine XL.q (q_ldVN (Rd.mono hq SubC.sub) rfl (by kernel_rfl) hlt) rfl ?_
     refine as_ ?_
     refine XL.fin (kq 0 (kq 6 (kq 9 (kq 35 (kq 36 (kq 37 kn)))))) ?_
     refine XC.reg ?_
     refine mv_ ?_
     refine XL.q (q_bin rfl rfl rfl) rfl ?_
     refine XL.fin (kq 0 (kq 6 (kq 35 (kq 36 (kq 37 (kq 42 kn)))))) ?_
     refine XC.cond rfl (fun hc => ?_) (fun hc => ?_)
     ·
      have hne : (ws.drop 9).getD j 0 ≠ 0 := by have := bne_iff_ne.1 hc; omega
      refine XC.reg ?_
      refine as_ (as_ ?_)
      refine XL.fin (kq 4 (kq 5 kn)) ?_
      refine XC.ret ?_
      refine br ?_
      refine tr ?_
      refine rr ?_
      refine br ?_
      refine tr ?_
      refine ⟨_, [], [], res2 rfl rfl rfl, List.nil_sublist _, by simp, plc_r0 (plc_nz hjw hne), rfl, rfl⟩
     ·
      have he0 : (ws.drop 9).getD j 0 = 0 := by have h := hc; rw [bne_eq_false_iff_eq] at h; omega
      refine XC.skip ?_
      refine nb ?_
      refine nx (kq 0 (kq 6 (kq 35 (kq 36 (kq 37 kn))))) ?_
      refine XC.reg1 ?_
      refine XL.q (q_addI (b := 1) rfl rfl rfl rfl (by omega)) rfl ?_
      refine mv_ ?_
      refine XL.nil ?_
      exact rn (j + 1) ⟨by omega, fun c h => by rw [List.take_add_one, List.getElem?_eq_getElem hjw] at h; rcases List.mem_append.1 h with h | h; exact hz c h; simp at h; rw [List.getD_eq_getElem?_getD, List.getElem?_eq_getElem hjw] at he0; simp at he0; omega⟩ (by omega) (kq 0 (kq 6 (kq 35 (kq 36 (kq 37 kn))))) (Fit.eq (by simp)) (fun _ h => h)
    ·
     have hge : j = ws.length - 9 := by simp at hc; omega
     subst hge
     have hzz : ∀ c ∈ ws.drop 9, c = 0 := by rwa [List.take_of_length_le (by rw [List.length_drop]; exact Nat.le_refl _)] at hz
     refine XC.exit ?_
     refine te ?_
     refine re ?_
     refine be rfl ?_
     refine nx (kq 0 (kq 6 kn)) ?_
     refine XC.seq ?_
     refine XC.reg ?_
     refine mv_ (mv_ ?_)
     refine XL.callV (aS rfl a0) (by kernel_rfl) (lenT_spec bt bm ts MT _ hT (fun x hx => mA (hsub x hx))) rfl ?_
     refine XL.q (q_convN ts.length rfl (by kernel_rfl) (by rw [wrap64, Nat.mod_eq_of_lt (by omega)])) rfl ?_
     refine XL.q (q_bin rfl rfl rfl) rfl ?_
     refine XL.fin (kq 6 (kq 48 kn)) ?_
     refine XC.cond rfl (fun hc => ?_) (fun hc => ?_)
     ·
      have hge : ts.length ≤ n8 := by simp at hc; omega
      refine XC.reg ?_
      refine as_ (as_ ?_)
      refine XL.fin (kq 4 (kq 5 kn)) ?_
      refine XC.ret ?_
      refine tr ?_
      refine ⟨_, [], [], res2 rfl rfl rfl, List.nil_sublist _, by simp, plc_r0 (plc_ge h8 hge), rfl, rfl⟩
     ·
      have hltn : n8 < ts.length := by simp at hc; omega
      refine XC.skip ?_
      refine nx (kq 6 kn) ?_
      refine XC.reg ?_
      refine mv_ ?_
      refine XL.q (q_convN n8 rfl (by kernel_rfl) (wrapI (by omega))) rfl ?_
      refine as_ (as_ ?_)
      refine XL.fin (kq 4 (kq 5 kn)) ?_
      refine XC.ret ?_
      refine ⟨_, [], [], res2 rfl rfl rfl, List.nil_sublist _, by simp, plc_r1 (plc_some h8 h32 h84 hzz hltn), rfl, rfl⟩

end Go.Proofs.YtphcaiplgpmnnaaGreatDoor
/- Read; the walk of TermBytes. -/
namespace Go.Proofs.YtphcaiplgpmnnaaGreatDoor
open Go.Px
def rawT (ws : List Nat) : Tm := ⟨2, [], ws, 0⟩
def rdT (ts : List Tm) (ws : List Nat) : List Tm := match plc ws ts.length with
  | some _ => ts
  | none => add ts (rawT ws)
def rdI (ts : List Tm) (ws : List Nat) : Nat := match plc ws ts.length with
  | some j => j
  | none => at_ ts (rawT ws)
theorem rawT_ok {ws : List Nat} (h : ∀ x ∈ ws, x < 256) (hl : ws.length ≤ 1099511627776) : Tmo (rawT ws) := ⟨show 2 < 256 by decide, show i64 0 by unfold i64; omega, fun i hi => (List.not_mem_nil hi).elim, show 0 ≤ 1048576 by decide, ⟨h⟩, hl⟩
theorem rdT_some {ts : List Tm} {ws : List Nat} {j : Nat} (h : plc ws ts.length = some j) : rdT ts ws = ts ∧ rdI ts ws = j := by unfold rdT rdI; rw [h]; exact ⟨rfl, rfl⟩
theorem rdT_none {ts : List Tm} {ws : List Nat} (h : plc ws ts.length = none) : rdT ts ws = add ts (rawT ws) ∧ rdI ts ws = at_ ts (rawT ws) := by unfold rdT rdI; rw [h]; exact ⟨rfl, rfl⟩
theorem plc_lt {ws : List Nat} {n j : Nat} (h : plc ws n = some j) : j < n ∧ ∀ m, j < m → plc ws m = some j := by
  unfold plc at h
  split at h
  · rename_i hc
    have e := Option.some.inj h
    subst e
    exact ⟨hc.2.2.2, fun m hm => plc_yes ⟨hc.1, hc.2.1, hc.2.2.1, hm⟩⟩
  · cases h
theorem add_none {ts : List Tm} {t : Tm} (h : pos ts t = none) : add ts t = ts ++ [t] ∧ at_ ts t = ts.length := by unfold add at_; rw [h]; exact ⟨rfl, rfl⟩
theorem add_some {ts : List Tm} {t : Tm} {j : Nat} (h : pos ts t = some j) : add ts t = ts ∧ at_ ts t = j := by unfold add at_; rw [h]; exact ⟨rfl, rfl⟩
def atoms (k : Nat) : List Tm := (List.range k).map fun (j : Nat) => (⟨1, [], [], (j : Int)⟩ : Tm)
theorem read_spec (bt bm : Nat) (ts : List Tm) (vp : Value) (ws : List Nat) (MT A : Mem) (hT : Tab bt bm ts MT) (hn : ts.length ≤ 1048576) (hp : Rd A 1 vp ws.length (nums .u8 ws)) (hw : ∀ x ∈ ws, x < 256) (hl : ws.length ≤ 1099511627776) {e4 : TypeId} {f4 : Nat × Nat} (h4 : (2, Obj.cells (nums .u64 pow10T).toArray e4 f4) ∈ A) : FnX Tryz.prog 107 [.pointer (some ⟨bt, 0, none⟩), vp] MT A fun r M J => J = [] ∧ r = .int .i64 ((rdI ts ws : Nat) : Int) ∧ Tab bt bm (rdT ts ws) M := by
 haveI := hp.cel
 haveI : B256 ws := ⟨hw⟩
 refine FnX.enter (N := 20) Tryz.func107 rfl rfl rfl fun w => ?_
 refine XC.keep (kq 0 (kq 1 kn)) ?_
 refine XC.reg ?_
 refine as_ ?_
 refine XL.fin (kq 0 (kq 1 kn)) ?_
 refine XC.seq ?_
 refine XC.reg ?_
 refine mv_ (mv_ ?_)
 refine XL.callV (aS rfl (aS rfl a0)) (by kernel_rfl) (place_spec bt bm ts vp ws MT _ hT SubC.sub hn (hp.mono SubC.sub) hw (Nat.le_trans hl (by unfold maxLen; omega))) rfl ?_
 refine mv_ ?_
 refine XL.q (q_x0 rfl) rfl ?_
 refine XL.q (q_x1 rfl) rfl ?_
 refine as_ (as_ ?_)
 refine XL.fin (kq 0 (kq 1 (kq 5 (kq 6 kn)))) ?_
 refine XC.reg ?_
 refine mv_ ?_
 refine XL.fin (kq 0 (kq 1 (kq 5 (kq 13 kn)))) ?_
 refine XC.cond rfl (fun hc => ?_) (fun hc => ?_)
 ·
  obtain ⟨j, hj⟩ := Option.isSome_iff_exists.1 hc
  obtain ⟨h1, h2⟩ := rdT_some hj
  refine XC.reg ?_
  refine mv_ (as_ ?_)
  refine XL.fin (kq 4 kn) ?_
  refine XC.ret ?_
  refine tr ?_
  exact ⟨_, MT, [], res1 rfl rfl, List.Sublist.refl _, by simp, rfl, by rw [h2, hj]; rfl, by rw [h1]; exact hT⟩
 ·
  have hj : plc ws ts.length = none := by simpa using hc
  obtain ⟨h1, h2⟩ := rdT_none hj
  refine XC.skip ?_
  refine nx (kq 0 (kq 1 kn)) ?_
  refine XC.reg ?_
  refine mv_ (mv_ ?_)
  refine XL.q (q_toStr2 rfl (by kernel_rfl) (hp.mono SubC.sub)) rfl ?_
  refine XL.q (q_build (place := fun x => #[(0, 1), (1, 1), (2, 1), (3, 1)][x]?) (z := [.int .u8 0, .slice none 0 0, .string ByteArray.empty, .int .i64 0]) (fun _ => by kernel_rfl) (eS rfl (eS rfl e0)) (bdS 0 1 rfl (by rfl) (bdS 2 1 rfl (by rfl) bd0))) rfl ?_
  refine XL.lo rfl (l_call (Mc := MT) (R := _) (aS rfl (aS rfl a0)) (by kernel_rfl) PickC.perm (putT_spec bt bm ts (.slice none 0 0) (rawT ws) MT _ hT hn Rd.nil (rawT_ok hw hl) (SubC.sub _ h4)) rfl ?_)
  rintro v19 M19 J19 ⟨rfl, rfl, hT19⟩
  refine as_ ?_
  refine XL.fin (kq 4 kn) ?_
  refine XC.ret ?_
  exact ⟨_, M19, [], res1 rfl rfl, by first | exact List.Sublist.refl _ | simp, by simp, rfl, by rw [h2], by rw [h1]; exact hT19⟩

theorem rdT_len {ts : List Tm} {ws : List Nat} : (rdT ts ws).length ≤ ts.length + 1 := by
  unfold rdT
  split
  · omega
  · exact add_len
end Go.Proofs.YtphcaiplgpmnnaaGreatDoor
/- Sort of two numbers; Agree; the walk of TermAgree. -/
namespace Go.Proofs.YtphcaiplgpmnnaaGreatDoor
open Go.Px
/-- Two numbers, the lesser first. -/
def srt (x y : Int) : List Int := if y < x then [y, x] else [x, y]
def two (j : Nat) (x y : Int) : List Int := if j = 1 then [x, y] else [y, x]
def out_ (i : Nat) (x y : Int) : List Int := if i = 1 then [x, y] else srt x y
/-- What a secret one and another one agree on. -/
def agT (ts : List Tm) (s o : Int) : Tm := if 0 ≤ o then match ts[o.toNat]? with
  | some t => if t.kind = 3 ∧ t.of.length = 1 then ⟨4, srt s (t.of.getD 0 0), [], 0⟩ else ⟨4, [s, o], [], 1⟩
  | none => ⟨4, [s, o], [], 1⟩ else ⟨4, [s, o], [], 1⟩
end Go.Proofs.YtphcaiplgpmnnaaGreatDoor
/- The walks of package prim in both modes: New, fit, read, Fresh. -/
namespace Go.Proofs.YtphcaiplgpmnnaaGreatDoor
open Go.Px
/-- What the package variables hold. -/
structure Glb (A : Mem) : Prop where
  first : ∃ e f, (0, Obj.cells (nums .u32 hFirst.list).toArray e f) ∈ A
  round : ∃ e f, (1, Obj.cells (nums .u32 kTab).toArray e f) ∈ A
  pow : ∃ e f, (2, Obj.cells (nums .u64 pow10T).toArray e f) ∈ A
theorem Glb.sub {A A' : Mem} (h : Glb A) (hs : ∀ x, x ∈ A → x ∈ A') : Glb A' := by
  obtain ⟨⟨a, b, c⟩, ⟨d, e, f⟩, ⟨g, h, i⟩⟩ := h
  exact ⟨⟨a, b, hs _ c⟩, ⟨d, e, hs _ f⟩, ⟨g, h, hs _ i⟩⟩
theorem Glb.up {M J A : Mem} (h : Glb A) : Glb (M ++ (J ++ A)) := h.sub fun _ h => mA h
/-- What a Prim is: its mode, its seed, how many keys it made, its terms. -/
structure Ps where
  real : Bool
  seed : List Nat
  n : Nat
  ts : List Tm
def md (b : Bool) : Int := if b then 0 else 1
structure Prm (pb : Nat) (s : Ps) (M : Mem) : Prop where
  ex : ∃ (sv : Value) (bt bm : Nat) (B MT : Mem), M = (pb, blk [.int .u8 (md s.real), sv, .int .i64 ((s.n : Nat) : Int), .pointer (some ⟨bt, 0, none⟩)] 124) :: (B ++ MT) ∧ By B sv s.seed ∧ Tab bt bm s.ts MT
/-! ### The plain functions -/
def fitN (w : List Nat) (n : Nat) : List Nat := w.take n ++ List.replicate (n - w.length) 0
theorem fitN_len (w : List Nat) (n : Nat) : (fitN w n).length = n := by simp [fitN]; omega
theorem fitN_lt {w : List Nat} (h : ∀ x ∈ w, x < 256) (n : Nat) : ∀ x ∈ fitN w n, x < 256 := by
  intro x hx
  rcases List.mem_append.1 hx with h1 | h1
  · exact h x (List.mem_of_mem_take h1)
  · rw [(List.mem_replicate.1 h1).2]; decide
def le8n (n : Nat) : List Nat := (List.range 8).map (byt ((n : Nat) : Int))
def keyR (seed : List Nat) (n : Nat) : List Nat := expand (hmac [] seed) ([107, 101, 121] ++ le8n n) 32
def atom (n : Nat) : Tm := ⟨1, [], [], (n : Int)⟩
def freshS (s : Ps) : Ps := if s.real then { s with n := s.n + 1 } else { s with n := s.n + 1, ts := add s.ts (atom (s.n + 1)) }
def freshK (s : Ps) : List Nat := if s.real then keyR s.seed (s.n + 1) else bts ((at_ s.ts (atom (s.n + 1)) : Nat) : Int)
theorem freshS_t {s : Ps} (h : s.real = true) : freshS s = { s with n := s.n + 1 } := if_pos h
theorem freshS_f {s : Ps} (h : s.real = false) : freshS s = { s with n := s.n + 1, ts := add s.ts (atom (s.n + 1)) } := if_neg (by rw [h]; decide)
theorem freshK_t {s : Ps} (h : s.real = true) : freshK s = keyR s.seed (s.n + 1) := if_pos h
theorem freshK_f {s : Ps} (h : s.real = false) : freshK s = bts ((at_ s.ts (atom (s.n + 1)) : Nat) : Int) := if_neg (by rw [h]; decide)
theorem le8n_lt (n : Nat) : ∀ x ∈ le8n n, x < 256 := by
  intro x hx
  obtain ⟨k, _, rfl⟩ := List.mem_map.1 hx
  exact byt_lt _ _
theorem expand_lt (key info : List Nat) (n : Int) : ∀ x ∈ expand key info n, x < 256 := fun x hx => exp1_lt _ _ _ x (List.mem_of_mem_take hx)
theorem expand_le (key info : List Nat) (n : Int) : (expand key info n).length ≤ n.toNat := by unfold expand; exact List.length_take_le _ _
theorem atom_ok' {n : Nat} (h : n ≤ 1099511627776) : Tmo (atom n) := ⟨show 1 < 256 by decide, show i64 (n : Int) by unfold i64; omega, fun i hi => (List.not_mem_nil hi).elim, show 0 ≤ 1048576 by decide, ⟨fun x hx => (List.not_mem_nil hx).elim⟩, show 0 ≤ 1099511627776 by decide⟩
theorem bts_by {R : Mem} {v : Value} {i : Int} (h : Rd R 1 v 32 (nums .u8 (bts i))) : By R v (bts i) := ⟨by rw [show (bts i).length = 32 from btk_len i (by omega)]; exact h, bts_b i, by rw [show (bts i).length = 32 from btk_len i (by omega)]; decide⟩
theorem bytesJ_spec (i : Int) (A : Mem) : FnX Tryz.prog 44 [.int .i64 i] [] A fun r M J => M = [] ∧ By J r (bts i) :=
  ((bytes_spec i A).mono (post' := fun r M J => J = [] ∧ By M r (bts i)) fun v M J ⟨h1, h2⟩ => ⟨h1, bts_by (h2.rd fun _ h => h)⟩).frz0

theorem pnew_spec (r : Bool) (v : Value) (seed : List Nat) (A : Mem) (hv : By A v seed) : FnX Tryz.prog 48 [.int .u8 (md r), v] [] A fun q M J => ∃ pb, q = .tuple #[.pointer (some ⟨pb, 0, none⟩), .int .i64 0] ∧ Prm pb ⟨r, seed, 0, []⟩ M := by
 haveI := hv.cel
 have hvl := hv.len
 refine FnX.enterZ (N := 18) Tryz.func48 rfl rfl rfl fun w_ => ?_
 refine XC.keep (kq 0 (kq 1 kn)) ?_
 refine XC.reg ?_
 refine as_ (as_ ?_)
 refine XL.fin (kq 0 (kq 1 kn)) ?_
 refine XC.seq ?_
 cases r
 ·
  refine XC.reg ?_
  refine mv_ ?_
  refine XL.q (q_cmp true rfl rfl (neT (by decide))) rfl ?_
  refine mv_ ?_
  refine XL.gy rfl rfl (OpQ.opL qm_ rfl ?_)
  refine XL.gy rfl rfl (OpQ.opL (q_cmp false rfl rfl (neF (by rfl))) rfl ?_)
  refine XL.q (q_pickT rfl rfl) rfl ?_
  refine XL.fin (kq 0 (kq 1 (kq 11 kn))) ?_
  refine XC.condF rfl ?_
  refine XC.skip ?_
  refine nx (kq 0 (kq 1 kn)) ?_
  refine XC.reg ?_
  refine mv_ (mv_ ?_)
  refine XL.lo rfl (l_append2 (e := 5) (sz := 1) (by_ := 1) rfl rfl (by kernel_rfl) rfl Sl.nil (hv.rd.mono SubC.sub) nums_one PickC.perm (by unfold maxLen; omega) (by omega) rfl fun v14 B14 hs14 => ?_)
  haveI := hs14.cel
  refine XL.call a0 (by kernel_rfl) (newT_spec _) rfl ?_
  rintro v15 M15 J15 ⟨rfl, bt, bm, rfl, hT0⟩
  refine XL.q (q_build (place := fun x => #[(0, 1), (1, 1), (2, 1), (3, 1)][x]?) (z := [.int .u8 0, .slice none 0 0, .int .i64 0, .pointer none]) (fun _ => by kernel_rfl) (eS rfl (eS rfl (eS rfl e0))) (bdS 0 1 rfl (by rfl) (bdS 1 1 rfl (by rfl) (bdS 3 1 rfl (by rfl) bd0)))) rfl ?_
  refine XL.lo rfl (bx_ fun b17 => ?_)
  refine as_ (as_ ?_)
  refine XL.fin (kq 4 (kq 5 kn)) ?_
  refine XC.ret ?_
  refine ⟨_, (b17, _) :: (B14 ++ M15), [], res2 rfl rfl rfl, Fit.none (Fit.pick (B := [_]) PickC.perm (Fit.pick PickC.perm (Fit.last PickC.perm))), _, rfl, ⟨v14, bt, bm, B14, M15, rfl, ⟨?_, hv.lt, hv.len⟩, hT0⟩⟩
  have h := hs14.rd (R := B14) fun _ h => h
  simpa using h
 ·
  refine XC.reg ?_
  refine mv_ ?_
  refine XL.q (q_cmp false rfl rfl (neF (by rfl))) rfl ?_
  refine mv_ ?_
  refine XL.gn rfl rfl rfl rfl ?_
  refine XL.gn rfl rfl rfl rfl ?_
  refine XL.q (q_pickF rfl rfl) rfl ?_
  refine XL.fin (kq 0 (kq 1 (kq 11 kn))) ?_
  refine XC.condF rfl ?_
  refine XC.skip ?_
  refine nx (kq 0 (kq 1 kn)) ?_
  refine XC.reg ?_
  refine mv_ (mv_ ?_)
  refine XL.lo rfl (l_append2 (e := 5) (sz := 1) (by_ := 1) rfl rfl (by kernel_rfl) rfl Sl.nil (hv.rd.mono SubC.sub) nums_one PickC.perm (by unfold maxLen; omega) (by omega) rfl fun v14 B14 hs14 => ?_)
  haveI := hs14.cel
  refine XL.call a0 (by kernel_rfl) (newT_spec _) rfl ?_
  rintro v15 M15 J15 ⟨rfl, bt, bm, rfl, hT0⟩
  refine XL.q (q_build (place := fun x => #[(0, 1), (1, 1), (2, 1), (3, 1)][x]?) (z := [.int .u8 0, .slice none 0 0, .int .i64 0, .pointer none]) (fun _ => by kernel_rfl) (eS rfl (eS rfl (eS rfl e0))) (bdS 0 1 rfl (by rfl) (bdS 1 1 rfl (by rfl) (bdS 3 1 rfl (by rfl) bd0)))) rfl ?_
  refine XL.lo rfl (bx_ fun b17 => ?_)
  refine as_ (as_ ?_)
  refine XL.fin (kq 4 (kq 5 kn)) ?_
  refine XC.ret ?_
  refine ⟨_, (b17, _) :: (B14 ++ M15), [], res2 rfl rfl rfl, Fit.none (Fit.pick (B := [_]) PickC.perm (Fit.pick PickC.perm (Fit.last PickC.perm))), _, rfl, ⟨v14, bt, bm, B14, M15, rfl, ⟨?_, hv.lt, hv.len⟩, hT0⟩⟩
  have h := hs14.rd (R := B14) fun _ h => h
  simpa using h

theorem fit_spec (v : Value) (w : List Nat) (n : Nat) (A : Mem) (hv : By A v w) (hn : n ≤ 1000) : FnX Tryz.prog 81 [v, .int .i64 (n : Int)] [] A fun q M J => M = [] ∧ By J q (fitN w n) := by
 haveI := hv.cel
 have hvl := hv.len
 refine FnX.enterZ (N := 12) Tryz.func81 rfl rfl rfl fun w_ => ?_
 refine XC.keep (kq 0 (kq 1 kn)) ?_
 refine XC.reg ?_
 refine as_ ?_
 refine XL.fin (kq 0 (kq 1 kn)) ?_
 refine XC.reg ?_
 refine mv_ ?_
 refine XL.lo rfl (l_makeN (by_ := 1) (k := .u8) (e := 5) n rfl rfl (by kernel_rfl) rfl rfl (by omega) (by omega) rfl fun b7 => ?_)
 refine as_ ?_
 refine XL.fin (kq 0 (kq 5 kn)) ?_
 refine XC.reg ?_
 refine mv_ (mv_ ?_)
 refine XL.lo rfl (l_copyP (e := 5) (us := w) (ws := List.replicate n 0) (ws' := fitN w n) (by_ := 1) rfl rfl (by kernel_rfl) (hv.rd.mono SubC.sub) (by simp) (by simp [fitN]) UpC.upd rfl ?_)
 refine XL.fin (kq 5 kn) ?_
 refine XC.reg ?_
 refine mv_ (as_ ?_)
 refine XL.fin (kq 4 kn) ?_
 refine XC.ret ?_
 refine ⟨_, [], [(b7, blk (nums .u8 (fitN w n)) 5)], res1 rfl rfl, Fit.eq (by simp), ⟨rfl, ⟨?_, fitN_lt hv.lt n, by rw [fitN_len]; omega⟩⟩⟩
 rw [fitN_len]
 exact Rd.whole (n := n) List.mem_cons_self (by simp [fitN_len])

theorem fresh_spec (pb : Nat) (s : Ps) (MP A : Mem) (hP : Prm pb s MP) (hn : s.ts.length ≤ 1048576) (hk : s.n < 1099511627776) (hG : Glb A) : FnX Tryz.prog 40 [.pointer (some ⟨pb, 0, none⟩)] MP A fun q M J => Prm pb (freshS s) M ∧ By J q (freshK s) := by
 obtain ⟨sv, bt, bm, B, MT, rfl, hby, hT⟩ := hP.ex
 obtain ⟨⟨ge0, gf0, h0⟩, ⟨ge1, gf1, h1⟩, ⟨ge4, gf4, h4⟩⟩ := hG
 haveI := hby.cel
 refine FnX.enterZ (N := 55) Tryz.func40 rfl rfl rfl fun w_ => ?_
 refine XC.keep (kq 0 kn) ?_
 refine XC.reg ?_
 refine as_ ?_
 refine XL.fin (kq 0 kn) ?_
 refine XC.seq ?_
 refine XC.reg ?_
 refine mv_ ?_
 refine XL.q (q_ptrEqNil (e := 124) rfl rfl (by kernel_rfl)) rfl ?_
 refine XL.fin (kq 0 (kq 6 kn)) ?_
 refine XC.condF rfl ?_
 refine XC.skip ?_
 refine nx (kq 0 kn) ?_
 refine XC.reg ?_
 refine mv_ ?_
 refine XL.q (q_nil rfl) rfl ?_
 refine XL.q (qf_ 2 2) rfl ?_
 refine XL.q ql_ rfl ?_
 refine XL.q (q_addI (b := 1) rfl rfl rfl rfl (by omega)) rfl ?_
 refine XL.q (q_nil rfl) rfl ?_
 refine XL.q (qf_ 2 2) rfl ?_
 refine XL.lo rfl (l_store rfl rfl rfl (by kernel_rfl) SetC.set UpC.upd ?_)
 refine XL.fin (kq 0 kn) ?_
 refine XC.seq ?_
 refine XC.reg ?_
 refine mv_ ?_
 refine XL.q (q_nil rfl) rfl ?_
 refine XL.q (qf_ 0 0) rfl ?_
 refine XL.q ql_ rfl ?_
 refine XL.q (q_bin rfl rfl rfl) rfl ?_
 refine XL.fin (kq 0 (kq 18 kn)) ?_
 refine XC.cond rfl (fun hc => ?_) (fun hc => ?_)
 ·
  have hr : s.real = true := by cases hq : s.real with | true => rfl | false => rw [hq] at hc; exact absurd hc (by decide)
  refine XC.reg ?_
  refine as_ ?_
  refine XL.fin (kq 0 (kq 3 kn)) ?_
  refine XC.seq ?_
  refine XC.reg ?_
  refine mv_ ?_
  refine XL.fin (kq 0 (kq 3 (kq 19 kn))) ?_
  refine XC.block ?_
  refine XC.loop (α := Nat × Value × Mem) (fun x => [(0, .pointer (some ⟨pb, 0, none⟩)), (3, x.2.1), (19, .int .i64 ((x.1 : Nat) : Int))]) (fun x => x.2.2 ++ ((pb, blk [.int .u8 (md s.real), sv, .int .i64 (((s.n + 1 : Nat) : Int)), .pointer (some ⟨bt, 0, none⟩)] 124) :: (B ++ MT))) (fun _ => []) (fun x => x.1 ≤ 8 ∧ Sl 1 x.2.1 x.1 (nums .u8 ((List.range x.1).map (byt ((s.n + 1 : Nat) : Int)))) x.2.2) (fun x => 8 - x.1) ⟨0, .slice none 0 0, []⟩ ⟨Nat.zero_le _, Sl.nil⟩ (kq 0 (kq 3 (kq 19 kn))) .rfl (fun _ h => h) ?_
  rintro ⟨i, v3, B3⟩ ⟨hi, hs3⟩
  dsimp only at hi hs3 ⊢
  haveI := hs3.cel
  refine XC.reg ?_
  refine XL.q (q_bin rfl rfl rfl) rfl ?_
  refine XL.fin (kq 0 (kq 3 (kq 19 (kq 20 kn)))) ?_
  refine XC.seq ?_
  refine XC.cond rfl (fun hc => ?_) (fun hc => ?_)
  ·
   have hlt : i < 8 := by simp at hc; omega
   refine XC.skip ?_
   refine nx (kq 0 (kq 3 (kq 19 kn))) ?_
   refine XC.seq ?_
   refine XC.block ?_
   refine XC.reg ?_
   refine mv_ (as_ ?_)
   refine XL.fin (kq 0 (kq 3 (kq 4 (kq 19 kn)))) ?_
   refine XC.reg1 ?_
   refine mv_ (mv_ ?_)
   refine XL.q (q_nil rfl) rfl ?_
   refine XL.q (qf_ 2 2) rfl ?_
   refine XL.q ql_ rfl ?_
   refine mv_ ?_
   refine XL.q (q_mulI (a := 8) rfl rfl rfl rfl (by omega)) rfl ?_
   refine XL.q (q_shr8 (k := i) rfl rfl rfl hlt) rfl ?_
   refine XL.q (q_to8i rfl (by kernel_rfl)) rfl ?_
   refine XL.lo rfl (l_buildSlice (e := 5) (sz := 1) (z := [.int .u8 0]) (by kernel_rfl) (eS rfl e0) (bdS 0 1 rfl (by rfl) bd0) rfl fun b31 => ?_)
   refine XL.lo rfl (l_append2 (e := 5) (sz := 1) (by_ := 1) rfl rfl (by kernel_rfl) rfl (by first | assumption | exact Sl.nil) (Rd.whole (n := 1) At.mem (by rfl)) (by first | (simp [Value.oneCell']; done) | (intro c hc; simp only [List.mem_singleton] at hc; subst hc; first | exact Rd.one (by assumption) | exact Sl.one (by assumption))) PickC.perm (by unfold maxLen; omega) (by omega) rfl fun v32 B32 hs32 => ?_)
   refine as_ ?_
   refine XL.nil ?_
   refine nb ?_
   refine nx (kq 0 (kq 3 (kq 19 kn))) ?_
   refine XC.reg1 ?_
   refine XL.q (q_addI (b := 1) rfl rfl rfl rfl (by omega)) rfl ?_
   refine mv_ ?_
   refine XL.nil ?_
   exact rn ⟨i + 1, v32, B32⟩ ⟨by dsimp only; omega, by dsimp only; rw [List.range_succ, List.map_append, nums_append]; exact hs32⟩ (by dsimp only; omega) (kq 0 (kq 3 (kq 19 kn))) (Fit.pick PickC.perm (Fit.pick (B := [_]) PickC.perm (Fit.last PickC.perm))) (fun _ h => by cases h)
  ·
   have hge : i = 8 := by simp at hc; omega
   subst hge
   refine XC.exit ?_
   refine te ?_
   refine re ?_
   refine be rfl ?_
   refine nx (kq 0 (kq 3 kn)) ?_
   refine XC.reg ?_
   refine mv_ ?_
   refine XL.q (q_nil rfl) rfl ?_
   refine XL.q (qf_ 1 1) rfl ?_
   refine XL.q ql_ rfl ?_
   refine XL.call (aS rfl (aS rfl a0)) (by kernel_rfl) ((extract_spec (.slice none 0 0) sv [] s.seed _ Rd.nil (fun x h => by cases h) (by simp) (hby.rd.mono SubC.sub) hby.lt (by have := hby.len; omega) (mA h0) (mA h1)).frz0) rfl ?_
   rintro v38 M38 J38 ⟨rfl, h38⟩
   refine XL.lo rfl (l_buildSlice (e := 5) (sz := 1) (z := [.int .u8 0, .int .u8 0, .int .u8 0]) (by kernel_rfl) (eS rfl (eS rfl (eS rfl e0))) (bdS 0 1 rfl (by rfl) (bdS 1 1 rfl (by rfl) (bdS 2 1 rfl (by rfl) bd0))) rfl fun b39 => ?_)
   refine XL.lo rfl (l_mark rfl (by kernel_rfl) UpC.upd rfl ?_)
   refine mv_ ?_
   refine XL.lo rfl (l_appendC (e := 5) (sz := 1) (by_ := 1) (xs := nums .u8 [107, 101, 121]) rfl rfl (by kernel_rfl) rfl (Rd.whole (n := 3) At.mem (by rfl)) (hs3.rd SubC.sub) (by decide) (by decide) (by decide) rfl fun v42 B42 hs42 => ?_)
   have hs42 : Sl 1 v42 ([107, 101, 121] ++ le8n (s.n + 1)).length (nums .u8 ([107, 101, 121] ++ le8n (s.n + 1))) B42 := sl_eq hs42 (by simp [le8n]) (by rw [nums_append]; rfl)
   refine XL.call (aS rfl (aS rfl (aS rfl a0))) (by kernel_rfl) ((expand_spec v38 v42 (hmac [] s.seed) ([107, 101, 121] ++ le8n (s.n + 1)) 32 _ (by rw [hmac_len]; exact (h38.rd SubC.sub)) (hmac_lt _ _) (by rw [hmac_len]; decide) (hs42.rd SubC.sub) (fun x hx => by rcases List.mem_append.1 hx with h | h; (simp at h; omega); exact le8n_lt _ x h) (by simp [le8n]) (by decide) (by decide) (mA h0) (mA h1)).frz0) rfl ?_
   rintro v43 M43 J43 ⟨rfl, h43⟩
   refine as_ ?_
   refine XL.fin (kq 2 kn) ?_
   refine XC.ret ?_
   refine tr ?_
   exact ⟨_, (pb, blk [.int .u8 (md s.real), sv, .int .i64 (((s.n + 1 : Nat) : Int)), .pointer (some ⟨bt, 0, none⟩)] 124) :: (B ++ MT), [], res1 rfl rfl, (Fit.none (Fit.pick (B := [_]) PickC.perm (Fit.pick PickC.perm (Fit.last PickC.perm)))), by rw [freshS_t hr]; exact ⟨sv, bt, bm, B, MT, rfl, hby, hT⟩, by rw [freshK_t hr]; exact ⟨h43.mono SubC.sub, expand_lt _ _ _, Nat.le_trans (expand_le _ _ _) (by decide)⟩⟩
 ·
  have hr : s.real = false := by cases hq : s.real with | false => rfl | true => rw [hq] at hc; exact absurd hc (by decide)
  refine XC.skip ?_
  refine nx (kq 0 kn) ?_
  refine XC.drawF [0, 1, 2, 3, 4, 5, 6, 7, 8, 11] [(0, 0), (1, 0), (2, 0), (3, 1), (4, 0), (5, 0), (6, 0), (7, 1), (8, 0), (9, 2), (10, 2), (11, 0)] (by kernel_rfl) (by kernel_rfl) fun hs => ?_
  refine XF.q hs rfl qm_ rfl ?_
  refine XF.q hs rfl (q_nil rfl) rfl ?_
  refine XF.q hs rfl (qf_ 3 3) rfl ?_
  refine XF.r hs rfl ql_ rfl ?_
  refine XF.q hs rfl qm_ rfl ?_
  refine XF.q hs rfl (q_nil rfl) rfl ?_
  refine XF.q hs rfl (qf_ 2 2) rfl ?_
  refine XF.r hs rfl ql_ rfl ?_
  refine XF.q hs rfl (q_build (place := fun x => #[(0, 1), (1, 1), (2, 1), (3, 1)][x]?) (z := [.int .u8 0, .slice none 0 0, .string ByteArray.empty, .int .i64 0]) (fun _ => by kernel_rfl) (eS rfl (eS rfl e0)) (bdS 0 1 rfl (by rfl) (bdS 3 1 rfl (by rfl) bd0))) rfl ?_
  refine XF.tl rfl rfl rfl (l_call (Mc := MT) (R := _) (aS rfl (aS rfl a0)) (by kernel_rfl) PickC.perm (putT_spec bt bm s.ts (.slice none 0 0) (atom (s.n + 1)) MT _ hT hn Rd.nil (atom_ok' (by omega)) (mA h4)) rfl ?_)
  rintro v53 M53 J53 ⟨rfl, rfl, hT53⟩
  refine XF.tl rfl rfl rfl (l_call0 (aS rfl a0) (by kernel_rfl) (bytesJ_spec _ _) rfl ?_)
  rintro v54 M54 J54 ⟨rfl, h54⟩
  refine XF.q hs rfl (q_assign rfl) rfl ?_
  refine XF.fin (kq 2 kn) ?_
  refine XC.ret ?_
  exact ⟨_, (pb, blk [.int .u8 (md s.real), sv, .int .i64 (((s.n + 1 : Nat) : Int)), .pointer (some ⟨bt, 0, none⟩)] 124) :: (B ++ M53), [], res1 rfl rfl, (Fit.none (Fit.pick (B := [_]) PickC.perm (Fit.pick PickC.perm (Fit.last PickC.perm)))), by rw [freshS_f hr]; exact ⟨sv, bt, bm, B, M53, rfl, hby, hT53⟩, by rw [freshK_f hr]; exact h54.mono SubC.sub⟩

end Go.Proofs.YtphcaiplgpmnnaaGreatDoor
/- The walk of prim's Derive in both modes. -/
namespace Go.Proofs.YtphcaiplgpmnnaaGreatDoor
open Go.Px
def fits (ws : List (List Nat)) : List Nat := ws.flatMap fun w => fitN w 32
def bigR (key : List Nat) (ws : List (List Nat)) (lb : List Nat) (n : Nat) : List Nat := expand (hmac (fitN key 32) (fits ws)) lb ((32 * n : Nat) : Int)
def cutR (b : List Nat) (n : Nat) : List (List Nat) := (List.range n).map fun i => (b.take (32 * i + 32)).drop (32 * i)
def drv (ofs : List Int) (lb : List Nat) (i : Nat) : Tm := ⟨5, ofs, lb, (i : Int)⟩
def rdSt (st : List Tm × List Int) (w : List Nat) : List Tm × List Int := (rdT st.1 w, st.2 ++ [((rdI st.1 w : Nat) : Int)])
def rdAll (ts : List Tm) (key : List Nat) (ws : List (List Nat)) : List Tm × List Int := ws.foldl rdSt (rdSt (ts, []) key)
def ptSt (ofs : List Int) (lb : List Nat) (st : List Tm × List (List Nat)) (i : Nat) : List Tm × List (List Nat) := (add st.1 (drv ofs lb i), st.2 ++ [bts ((at_ st.1 (drv ofs lb i) : Nat) : Int)])
def ptAll (ts : List Tm) (ofs : List Int) (lb : List Nat) (n : Nat) : List Tm × List (List Nat) := (List.range n).foldl (ptSt ofs lb) (ts, [])
def derT (ts : List Tm) (key : List Nat) (ws : List (List Nat)) (lb : List Nat) (n : Nat) : List Tm × List (List Nat) := ptAll (rdAll ts key ws).1 (rdAll ts key ws).2 lb n
def derS (s : Ps) (key : List Nat) (ws : List (List Nat)) (lb : List Nat) (n : Nat) : Ps := if s.real then s else { s with ts := (derT s.ts key ws lb n).1 }
def derK (s : Ps) (key : List Nat) (ws : List (List Nat)) (lb : List Nat) (n : Nat) : List (List Nat) := if s.real then cutR (bigR key ws lb n) n else (derT s.ts key ws lb n).2
theorem rdI_lt {ts : List Tm} {w : List Nat} (hw : ∀ x ∈ w, x < 256) (hl : w.length ≤ 1099511627776) (hts : ∀ t ∈ ts, Tmo t) : rdI ts w < (rdT ts w).length := by
  cases hp : plc w ts.length with
  | some j =>
    obtain ⟨h1, h2⟩ := rdT_some hp
    rw [h1, h2]; exact (plc_lt hp).1
  | none =>
    obtain ⟨h1, h2⟩ := rdT_none hp
    rw [h1, h2]
    cases hq : pos ts (rawT w) with
    | some j =>
      obtain ⟨h3, h4⟩ := add_some hq
      rw [h3, h4]
      exact (List.getElem?_eq_some_iff.1 (pos_some (rawT_ok hw hl) hts hq)).1
    | none =>
      obtain ⟨h3, h4⟩ := add_none hq
      rw [h3, h4]; simp
theorem rdT_tmo {ts : List Tm} {w : List Nat} (hw : ∀ x ∈ w, x < 256) (hl : w.length ≤ 1099511627776) (hts : ∀ t ∈ ts, Tmo t) : ∀ t ∈ rdT ts w, Tmo t := by
  cases hp : plc w ts.length with
  | some j => rw [(rdT_some hp).1]; exact hts
  | none =>
    rw [(rdT_none hp).1]
    unfold add
    split
    · exact hts
    · intro t ht
      rcases List.mem_append.1 ht with h | h
      · exact hts t h
      · rw [List.mem_singleton.1 h]; exact rawT_ok hw hl
/-- What is known of the terms that were read. -/
structure RdOk (n0 k : Nat) (st : List Tm × List Int) : Prop where
  len : st.1.length ≤ n0 + k
  ofl : st.2.length = k
  of : ∀ x ∈ st.2, 0 ≤ x ∧ x < (st.1.length : Int)
  tmo : ∀ t ∈ st.1, Tmo t
theorem rdT_ge {ts : List Tm} {w : List Nat} : ts.length ≤ (rdT ts w).length := by
  cases hp : plc w ts.length with
  | some j => rw [(rdT_some hp).1]; exact Nat.le_refl _
  | none =>
    rw [(rdT_none hp).1]
    unfold add
    split <;> simp
theorem RdOk.step {n0 k : Nat} {st : List Tm × List Int} (h : RdOk n0 k st) {w : List Nat} (hw : ∀ x ∈ w, x < 256) (hl : w.length ≤ 1099511627776) : RdOk n0 (k + 1) (rdSt st w) := by
  refine ⟨?_, by simp [rdSt, h.ofl], ?_, rdT_tmo hw hl h.tmo⟩
  · have := rdT_len (ts := st.1) (ws := w)
    have := h.len
    show (rdT st.1 w).length ≤ _
    omega
  · intro x hx
    have hge := rdT_ge (ts := st.1) (w := w)
    have hlt := rdI_lt (ts := st.1) hw hl h.tmo
    show 0 ≤ x ∧ x < (((rdT st.1 w).length : Nat) : Int)
    rcases List.mem_append.1 hx with h1 | h1
    · have := h.of x h1; omega
    · rw [List.mem_singleton.1 h1]; omega
end Go.Proofs.YtphcaiplgpmnnaaGreatDoor
