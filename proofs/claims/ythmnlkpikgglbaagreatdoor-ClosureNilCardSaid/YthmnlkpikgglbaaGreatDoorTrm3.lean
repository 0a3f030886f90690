/- The walks of package term's table: name, New, Put, Get, Find, Len. -/
import Derived.Test.YthmnlkpikgglbaaGreatDoorTrm2
set_option linter.unusedVariables false
set_option linter.unusedSimpArgs false
namespace Go.Proofs.YthmnlkpikgglbaaGreatDoor
open Go.Px
def i64 (i : Int) : Prop := -9223372036854775808 ≤ i ∧ i ≤ 9223372036854775807
/-- A term whose parts are not too great. -/
structure Tmo (t : Tm) : Prop where
  kind : t.kind < 256
  n : i64 t.n
  of : ∀ i ∈ t.of, i64 i
  ofl : t.of.length ≤ 1048576
  text : B256 t.text
  tl : t.text.length ≤ 1099511627776
theorem Tmo.ok {t : Tm} (h : Tmo t) : t.ok := ⟨h.kind, by have := h.n; unfold i64 at this; omega, fun i hi => by have := h.of i hi; unfold i64 at this; omega, h.text.lt⟩
theorem ints_len (l : List Int) : (ints l).length = l.length := by simp [ints]
theorem ints_one' (l : List Int) : ∀ c ∈ ints l, c.oneCell' = true := fun c hc => by
  obtain ⟨i, _, rfl⟩ := List.mem_map.1 hc; rfl
/-- The cells of a term that read. -/
def TmC (R : Mem) (c : List Value) (t : Tm) : Prop := ∃ vo, c = tmc t.kind vo t.text t.n ∧ Rd R 1 vo t.of.length (ints t.of)
theorem TmC.mono {R R' : Mem} {c : List Value} {t : Tm} (h : TmC R c t) (hR : ∀ x, x ∈ R → x ∈ R') : TmC R' c t := by
  obtain ⟨vo, h1, h2⟩ := h; exact ⟨vo, h1, h2.mono hR⟩
/-- The text ahead of a term's mark, so many of its parts told. -/
def pre (t : Tm) (i : Nat) : List Nat := dec t.kind ++ 32 :: decI t.n ++ (t.of.take i).flatMap (fun j => 32 :: decI j)
theorem pre_succ {t : Tm} {i : Nat} (h : i < t.of.length) : pre t (i + 1) = pre t i ++ (32 :: decI t.of[i]) := by
  unfold pre
  rw [List.take_add_one, List.getElem?_eq_getElem h, List.flatMap_append]
  simp
theorem nm_pre (t : Tm) : t.nm = pre t t.of.length ++ 58 :: t.text := by
  unfold Tm.nm pre sepd
  rw [List.take_length]
  simp [List.flatMap_map]
theorem pre_b (t : Tm) (i : Nat) : B256 (pre t i) := ⟨fun x hx => by
  unfold pre at hx
  simp only [List.mem_append, List.mem_cons, List.mem_flatMap] at hx
  rcases hx with (hx | hx | hx) | ⟨j, _, hx | hx⟩
  · have := dec_mem hx; omega
  · omega
  · have := decI_mem hx; omega
  · omega
  · have := decI_mem hx; omega⟩
theorem pre_len {t : Tm} (h : Tmo t) : ∀ i, i ≤ t.of.length → (pre t i).length ≤ 43 + 22 * i
  | 0, _ => by
    have a := nd10_le (u := t.kind) (by have := h.kind; omega)
    have b := decI_len (i := t.n) (h.ok.n)
    simp only [pre, List.take_zero, List.flatMap_nil, List.append_nil, List.length_append, List.length_cons, dec_len]
    omega
  | i + 1, hi => by
    have a := pre_len h i (by omega)
    have b := decI_len (i := t.of[i]) (h.ok.of _ (List.getElem_mem _))
    rw [pre_succ (by omega), List.length_append, List.length_cons]
    omega
theorem nm_b {t : Tm} (h : Tmo t) : B256 t.nm := by
  rw [nm_pre]
  exact @B256.app _ _ (pre_b _ _) (B256.cons (by decide) h.text)
/-- What a term is known by. -/
def key (t : Tm) : ByteArray := txt t.nm
theorem key_inj {s t : Tm} (hs : Tmo s) (ht : Tmo t) (h : key s = key t) : s = t := Tm.nm_inj hs.ok ht.ok (txt_inj (nm_b hs).lt (nm_b ht).lt h)
theorem look_key {t : Tm} {ts : List Tm} (ht : Tmo t) (hts : ∀ t ∈ ts, Tmo t) : (lookK (key t) (ts.map key) 0 = none ↔ t ∉ ts) ∧ ∀ i, lookK (key t) (ts.map key) 0 = some i → ts[i]? = some t := by
  constructor
  · rw [lookK_none, List.mem_map]
    constructor
    · exact fun h hm => h ⟨t, hm, rfl⟩
    · rintro h ⟨s, hs, e⟩
      exact h (key_inj (hts s hs) ht e ▸ hs)
  · intro i h
    obtain ⟨_, h2⟩ := lookK_some h
    rw [Nat.sub_zero, List.getElem?_map] at h2
    cases h3 : ts[i]? with
    | none => rw [h3] at h2; cases h2
    | some s =>
      rw [h3] at h2
      have := key_inj (hts s (List.mem_of_getElem? h3)) ht (by simpa using h2)
      rw [this]
/-- A table of terms, at its two blocks. -/
def Tab (bt bm : Nat) (ts : List Tm) (M : Mem) : Prop := ∃ (v : Value) (rows : List (List Value)) (ks : List ByteArray) (Bl BX : Mem), M = (bt, blk [v, .map (some bm)] 83) :: (bm, .map (ents ks 0).toArray ks.length) :: (Bl ++ BX) ∧ ks = ts.map key ∧ Sl 4 v ks.length rows.flatten Bl ∧ rows.length = ks.length ∧ (∀ r ∈ rows, r.length = 4) ∧ (∀ (j : Nat) (t : Tm), ts[j]? = some t → ∃ r, rows[j]? = some r ∧ TmC BX r t) ∧ (∀ t ∈ ts, Tmo t) ∧ ts.Nodup
theorem dec_decI (k : Nat) : decI ((k : Nat) : Int) = dec k := by simp [decI]

set_option maxRecDepth 100000 in
theorem cloneI_spec (v : Value) (n : Nat) (xs : List Value) (A : Mem) (h : Rd A 1 v n xs) (h1 : ∀ c ∈ xs, c.oneCell' = true) (hn : n ≤ 1099511627776) : FnX Tryz.prog 70 [v] [] A fun r M J => J = [] ∧ Rd M 1 r n xs := by
  haveI := h.cel
  refine FnX.enter (N := 8) Tryz.func70 rfl rfl rfl fun w => ?_
  refine XC.keep (kp 0 rfl kn) ?_
  refine XC.reg ?_
  refine XL.q (q_assign rfl) rfl ?_
  refine XL.fin (kp 0 rfl kn) ?_
  refine XC.seq ?_
  refine XC.reg ?_
  refine XL.q (q_move rfl) rfl ?_
  refine XL.q (q_slEqNil (e := 3) rfl (by kernel_rfl) (by first | assumption | exact Sl.rd (by assumption) (fun _ h => h) | exact By.rd (by assumption))) rfl ?_
  refine XL.fin (kp 0 rfl (kp 4 rfl kn)) ?_
  refine XC.cond rfl (fun hc => ?_) (fun hc => ?_)
  ·
    have h0 := h.isNil hc
    subst h0
    obtain rfl : xs = [] := List.eq_nil_of_length_eq_zero (by have := h.len; omega)
    refine XC.reg ?_
    refine XL.q (q_assign rfl) rfl ?_
    refine XL.fin (kp 2 rfl kn) ?_
    refine XC.ret ?_
    refine tr ?_
    exact ⟨_, [], [], res1 rfl rfl, List.nil_sublist _, by simp, rfl, Rd.nil⟩
  ·
    refine XC.skip ?_
    refine nx (kp 0 rfl kn) ?_
    refine XC.reg ?_
    refine XL.lo rfl (l_buildSlice (e := 3) (sz := 1) (z := []) (by kernel_rfl) e0 bd0 rfl fun b5 => ?_)
    refine XL.q (q_move rfl) rfl ?_
    refine XL.lo rfl (l_append2 (e := 3) (sz := 1) (by_ := 8) rfl rfl (by kernel_rfl) rfl (Sl.fresh (n := 0) (cs := []) (e := 3) rfl (by decide)) (Rd.mono h SubC.sub) h1 PickC.perm (by unfold maxLen; omega) (by omega) rfl fun v7 B7 hs7 => ?_)
    refine XL.q (q_assign rfl) rfl ?_
    refine XL.fin (kp 2 rfl kn) ?_
    refine XC.ret ?_
    exact ⟨_, B7, [], res1 rfl rfl, List.sublist_append_left _ _, by simp, rfl, rd_eq (hs7.rd fun _ h => h) (by omega) (by simp)⟩

set_option maxRecDepth 100000 in
theorem name_spec (vo : Value) (t : Tm) (A : Mem) (hvo : Rd A 1 vo t.of.length (ints t.of)) (ht : Tmo t) {e4 : TypeId} {f4 : Nat × Nat} (h4 : (4, Obj.cells (nums .u64 pow10T).toArray e4 f4) ∈ A) : FnV Tryz.prog 69 [.agg (tmc t.kind vo t.text t.n).toArray] A (.string (key t)) := by
  haveI := hvo.cel
  have hkind := ht.kind
  refine FnX.enter (N := 33) Tryz.func69 rfl rfl rfl fun w => ?_
  refine XC.keep (kp 0 rfl kn) ?_
  refine XC.reg ?_
  refine XL.lo rfl (l_box rfl (by first | exact Cel.cel | rfl) rfl fun b1 => ?_)
  refine XL.q (q_assign rfl) rfl ?_
  refine XL.fin (kp 1 rfl kn) ?_
  refine XC.drawF [0, 1, 2, 3, 4, 5, 6, 7, 8, 9] [(0, 0), (1, 1), (2, 0), (5, 0), (6, 1), (3, 2), (4, 0), (7, 2), (8, 0), (9, 0)] (by kernel_rfl) (by kernel_rfl) fun hs => ?_
  refine XF.q hs rfl (q_fieldAddrN 0 (off := 0) rfl (by kernel_rfl) rfl) rfl ?_
  refine XF.r hs rfl (q_load rfl (by kernel_rfl) (by first | exact At.mem | exact mA (by assumption)) (by rfl)) rfl ?_
  refine XF.q hs rfl (q_same (k' := .i64) rfl (by kernel_rfl) (by show _ < 9223372036854775808; have := ht.kind; omega)) rfl ?_
  refine XF.q hs rfl (q_fieldAddrN 3 (off := 3) rfl (by kernel_rfl) rfl) rfl ?_
  refine XF.r hs rfl (q_load rfl (by kernel_rfl) (by first | exact At.mem | exact mA (by assumption)) (by rfl)) rfl ?_
  refine XF.callV rfl (aS rfl a0) (by kernel_rfl) (itoa_spec (t.kind : Int) (by have := ht.kind; omega) (by have := ht.kind; omega) _ (mA h4)) rfl ?_
  rw [dec_decI]
  refine XF.q hs rfl (q_sAdd (ws' := [32]) rfl rfl rfl (by kernel_rfl) (by simp only [dec_len, List.length_cons, List.length_nil]; have := nd10_le (u := t.kind) (by have := ht.kind; omega); omega)) rfl ?_
  refine XF.callV rfl (aS rfl a0) (by kernel_rfl) (itoa_spec t.n ht.n.1 ht.n.2 _ (mA h4)) rfl ?_
  refine XF.q hs rfl (q_sAdd rfl rfl rfl rfl (by simp only [List.length_append, dec_len, List.length_cons, List.length_nil]; have := nd10_le (u := t.kind) (by have := ht.kind; omega); have := decI_len (i := t.n) ht.ok.n; omega)) rfl ?_
  refine XF.q hs rfl (q_assign rfl) rfl ?_
  rw [show dec t.kind ++ [32] ++ decI t.n = pre t 0 by simp [pre]]
  refine XF.fin (kp 1 rfl (kp 3 rfl kn)) ?_
  refine XC.seq ?_
  refine XC.reg ?_
  refine XL.q (q_fieldAddrN 1 (off := 1) rfl (by kernel_rfl) rfl) rfl ?_
  refine XL.q (q_load rfl (by kernel_rfl) (by first | exact At.mem | exact mA (by assumption)) (by rfl)) rfl ?_
  refine XL.q (q_lenV2 (sz := 1) rfl (by kernel_rfl) hvo) rfl ?_
  refine XL.q (q_move rfl) rfl ?_
  refine XL.fin (kp 1 rfl (kp 3 rfl (kp 16 rfl (kp 17 rfl (kp 18 rfl kn))))) ?_
  refine XC.block ?_
  refine XC.loop (α := Nat) (fun i => [(1, .pointer (some ⟨b1, 0, none⟩)), (3, .string (txt (pre t i))), (16, vo), (17, .int .i64 ((t.of.length : Nat) : Int)), (18, .int .i64 (i : Int))]) (fun _ => [(b1, blk (tmc t.kind vo t.text t.n) 41)]) (fun _ => []) (fun i => i ≤ t.of.length) (fun i => t.of.length - i) 0 (Nat.zero_le _) (kp 1 rfl (kp 3 rfl (kp 16 rfl (kp 17 rfl (kp 18 rfl kn))))) .rfl (fun _ h => h) ?_
  rintro i hi
  have hpl := pre_len ht i hi
  have hofl := ht.ofl
  haveI := pre_b t i
  refine XC.reg ?_
  refine XL.q (q_bin rfl rfl rfl) rfl ?_
  refine XL.fin (kp 1 rfl (kp 3 rfl (kp 16 rfl (kp 17 rfl (kp 18 rfl (kp 19 rfl kn)))))) ?_
  refine XC.seq ?_
  refine XC.cond rfl (fun hc => ?_) (fun hc => ?_)
  ·
    have hlt : i < t.of.length := by simp at hc; omega
    have hi64 := ht.of _ (List.getElem_mem hlt)
    have hdl := decI_len (i := t.of[i]) (ht.ok.of _ (List.getElem_mem hlt))
    refine XC.skip ?_
    refine nx (kp 1 rfl (kp 3 rfl (kp 16 rfl (kp 17 rfl (kp 18 rfl kn))))) ?_
    refine XC.seq ?_
    refine XC.block ?_
    refine XC.reg ?_
    refine XL.q (q_atV2 (sz := 1) rfl rfl (by kernel_rfl) rfl hvo hlt) rfl ?_
    refine XL.q (q_ldV (u := .int .i64 t.of[i]) (Rd.mono hvo SubC.sub) rfl (by kernel_rfl) (by simp [ints, hlt])) rfl ?_
    refine XL.q (q_assign rfl) rfl ?_
    refine XL.fin (kp 1 rfl (kp 3 rfl (kp 5 rfl (kp 16 rfl (kp 17 rfl (kp 18 rfl kn)))))) ?_
    refine XC.reg1 ?_
    refine XL.q (q_move rfl) rfl ?_
    refine XL.q (q_move rfl) rfl ?_
    refine XL.callV (aS rfl a0) (by kernel_rfl) (itoa_spec t.of[i] hi64.1 hi64.2 _ (mA h4)) rfl ?_
    refine XL.q (q_sAdd (ws := [32]) rfl rfl (by kernel_rfl) rfl (by simp only [List.length_cons, List.length_nil]; omega)) rfl ?_
    refine XL.q (q_sAdd rfl rfl rfl rfl (by simp only [List.length_cons, List.length_append, List.length_nil]; omega)) rfl ?_
    refine XL.q (q_assign rfl) rfl ?_
    rw [show pre t i ++ ([32] ++ decI t.of[i]) = pre t (i + 1) by rw [pre_succ hlt]; rfl]
    refine XL.nil ?_
    refine nb ?_
    refine nx (kp 1 rfl (kp 3 rfl (kp 16 rfl (kp 17 rfl (kp 18 rfl kn))))) ?_
    refine XC.reg1 ?_
    refine XL.q (q_addI (b := 1) rfl rfl rfl rfl (by omega)) rfl ?_
    refine XL.q (q_move rfl) rfl ?_
    refine XL.nil ?_
    exact rn (i + 1) (by omega) (by omega) (kp 1 rfl (kp 3 rfl (kp 16 rfl (kp 17 rfl (kp 18 rfl kn))))) .rfl (fun _ h => h)
  ·
    have hge : i = t.of.length := by simp at hc; omega
    subst hge
    refine XC.exit ?_
    refine te ?_
    refine re ?_
    refine be rfl ?_
    refine nx (kp 1 rfl (kp 3 rfl kn)) ?_
    refine XC.reg ?_
    refine XL.q (q_move rfl) rfl ?_
    refine XL.q (q_sAdd (ws' := [58]) rfl rfl rfl (by kernel_rfl) (by simp only [List.length_cons, List.length_nil]; omega)) rfl ?_
    refine XL.q (q_fieldAddrN 2 (off := 2) rfl (by kernel_rfl) rfl) rfl ?_
    refine XL.q (q_load rfl (by kernel_rfl) (by first | exact At.mem | exact mA (by assumption)) (by rfl)) rfl ?_
    refine XL.q (q_sAdd rfl rfl rfl rfl (by simp only [List.length_append, List.length_cons, List.length_nil]; have := ht.tl; omega)) rfl ?_
    refine XL.q (q_assign rfl) rfl ?_
    refine XL.fin (kp 2 rfl kn) ?_
    refine XC.ret ?_
    refine ⟨_, [], [], res1 rfl rfl, List.nil_sublist _, by simp, ?_, rfl, rfl⟩
    rw [key, nm_pre]; simp

set_option maxRecDepth 100000 in
theorem newT_spec (A : Mem) : FnX Tryz.prog 56 [] [] A fun r M J => J = [] ∧ ∃ bt bm, r = .pointer (some ⟨bt, 0, none⟩) ∧ Tab bt bm [] M := by
  refine FnX.enter (N := 4) Tryz.func56 rfl rfl rfl fun w => ?_
  refine XC.keep kn ?_
  refine XC.reg ?_
  refine XL.q (q_assign rfl) rfl ?_
  refine XL.fin kn ?_
  refine XC.reg ?_
  refine XL.lo rfl (l_makeMap rfl fun b1 => ?_)
  refine XL.q (q_build (place := fun x => #[(0, 1), (1, 1)][x]?) (z := [.slice none 0 0, .map none]) (fun _ => by kernel_rfl) (eS rfl e0) (bdS 1 1 rfl (by rfl) bd0)) rfl ?_
  refine XL.lo rfl (l_box rfl (by first | exact Cel.cel | rfl) rfl fun b3 => ?_)
  refine XL.q (q_assign rfl) rfl ?_
  refine XL.fin (kp 0 rfl kn) ?_
  refine XC.ret ?_
  exact ⟨_, [_, _], [], res1 rfl rfl, List.Sublist.refl _, by simp, rfl, b3, b1, rfl, .slice none 0 0, [], [], [], [], rfl, rfl, Sl.nil, rfl, (fun r h => by cases h), (fun j t h => by simp at h), (fun t h => by cases h), List.nodup_nil⟩

set_option maxRecDepth 100000 in
theorem lenT_spec (bt bm : Nat) (ts : List Tm) (MT A : Mem) (hT : Tab bt bm ts MT) (hsub : ∀ x, x ∈ MT → x ∈ A) : FnV Tryz.prog 12 [.pointer (some ⟨bt, 0, none⟩)] A (.int .i64 ((ts.length : Nat) : Int)) := by
  obtain ⟨v, rows, ks, Bl, BX, rfl, hks, hsl, hrl, hr4, hat, hto, hnd⟩ := hT
  have hbt : (bt, blk [v, .map (some bm)] 83) ∈ A := hsub _ (by simp)
  have hrd := hsl.rd (R := A) (fun x hx => hsub x (by simp [hx]))
  refine FnX.enter (N := 10) Tryz.func12 rfl rfl rfl fun w => ?_
  refine XC.keep (kp 0 rfl kn) ?_
  refine XC.reg ?_
  refine XL.q (q_assign rfl) rfl ?_
  refine XL.fin (kp 0 rfl kn) ?_
  refine XC.seq ?_
  refine XC.reg ?_
  refine XL.q (q_move rfl) rfl ?_
  refine XL.q (q_ptrEqNil (e := 83) rfl rfl (by kernel_rfl)) rfl ?_
  refine XL.fin (kp 0 rfl (kp 4 rfl kn)) ?_
  refine XC.condF rfl ?_
  refine XC.skip ?_
  refine nx (kp 0 rfl kn) ?_
  refine XC.reg ?_
  refine XL.q (q_move rfl) rfl ?_
  refine XL.q (q_nil rfl) rfl ?_
  refine XL.q (q_fieldAddrN 0 (off := 0) rfl (by kernel_rfl) rfl) rfl ?_
  refine XL.q (q_load rfl (by kernel_rfl) (mA hbt) (by rfl)) rfl ?_
  refine XL.q (q_lenV2 (sz := 4) rfl (by kernel_rfl) hrd) rfl ?_
  refine XL.q (q_assign rfl) rfl ?_
  refine XL.fin (kp 2 rfl kn) ?_
  refine XC.ret ?_
  refine ⟨_, [], [], res1 rfl rfl, List.nil_sublist _, by simp, ?_, rfl, rfl⟩
  rw [hks, List.length_map]

set_option maxRecDepth 100000 in
theorem getT_spec (bt bm : Nat) (ts : List Tm) (i : Int) (MT A : Mem) (hT : Tab bt bm ts MT) (hsub : ∀ x, x ∈ MT → x ∈ A) : FnX Tryz.prog 17 [.pointer (some ⟨bt, 0, none⟩), .int .i64 i] [] A fun r M J => M = [] ∧ J = [] ∧ ∃ c ok, r = .tuple #[.agg (List.toArray c), .bool ok] ∧ ((0 ≤ i ∧ i < (ts.length : Int)) → ok = true ∧ ∃ t, ts[i.toNat]? = some t ∧ TmC A c t) ∧ (¬ (0 ≤ i ∧ i < (ts.length : Int)) → ok = false ∧ c = tmc 0 (.slice none 0 0) [] 0) := by
  obtain ⟨v, rows, ks, Bl, BX, rfl, hks, hsl, hrl, hr4, hat, hto, hnd⟩ := hT
  have hbt : (bt, blk [v, .map (some bm)] 83) ∈ A := hsub _ (by simp)
  have hrd := hsl.rd (R := A) (fun x hx => hsub x (by simp [hx]))
  have hkl : ks.length = ts.length := by rw [hks, List.length_map]
  refine FnX.enter (N := 29) Tryz.func17 rfl rfl rfl fun w => ?_
  refine XC.keep (kp 0 rfl (kp 1 rfl kn)) ?_
  refine XC.reg ?_
  refine XL.lo rfl (l_alloc (cs := [.int .u8 0, .slice none 0 0, .string ByteArray.empty, .int .i64 0]) (by kernel_rfl) rfl fun b4 => ?_)
  refine XL.q (q_assign rfl) rfl ?_
  refine XL.fin (kp 0 rfl (kp 1 rfl (kp 4 rfl kn))) ?_
  refine XC.seq ?_
  refine XC.reg ?_
  refine XL.q (q_move rfl) rfl ?_
  refine XL.q (q_ptrEqNil (e := 83) rfl rfl (by kernel_rfl)) rfl ?_
  refine XL.q (q_move rfl) rfl ?_
  refine XL.gy rfl rfl (OpQ.opL (q_move rfl) rfl ?_)
  refine XL.gy rfl rfl (OpQ.opL (q_bin rfl rfl rfl) rfl ?_)
  refine XL.q (q_pickF rfl rfl) rfl ?_
  refine XL.q (q_move rfl) rfl ?_
  refine XL.split (t := 12) rfl (fun hb => ?_) (fun hb => ?_)
  ·
    have hlt0 : i < 0 := by simpa using hb
    refine XL.gn rfl rfl rfl rfl ?_
    refine XL.gn rfl rfl rfl rfl ?_
    refine XL.gn rfl rfl rfl rfl ?_
    refine XL.gn rfl rfl rfl rfl ?_
    refine XL.gn rfl rfl rfl rfl ?_
    refine XL.gn rfl rfl rfl rfl ?_
    refine XL.gn rfl rfl rfl rfl ?_
    refine XL.q (q_pickT rfl rfl) rfl ?_
    refine XL.fin (kp 0 rfl (kp 1 rfl (kp 4 rfl (kp 20 rfl kn)))) ?_
    refine XC.condT rfl ?_
    refine XC.reg ?_
    refine XL.q (q_build (place := fun x => #[(0, 1), (1, 1), (2, 1), (3, 1)][x]?) (z := [.int .u8 0, .slice none 0 0, .string ByteArray.empty, .int .i64 0]) (fun _ => by kernel_rfl) e0 bd0) rfl ?_
    refine XL.lo rfl (l_storeW rfl rfl Cel.cel (by kernel_rfl) (lnS (lnS (lnS (lnS (ln0))))) (allS rfl (allS rfl (allS rfl (allS rfl (all0))))) UpC.upd ?_)
    refine XL.q (q_assign rfl) rfl ?_
    refine XL.fin (kp 4 rfl (kp 5 rfl kn)) ?_
    refine XC.ret ?_
    refine tr ?_
    refine ⟨_, [], [], resC1 rfl rfl rfl (by kernel_rfl) At.mem (by rfl), List.nil_sublist _, by simp, rfl, rfl, _, _, rfl, (fun h => absurd h.1 (by omega)), fun _ => ⟨rfl, rfl⟩⟩
  ·
    have hge0 : 0 ≤ i := by simpa using hb
    obtain ⟨n, rfl⟩ := Int.eq_ofNat_of_zero_le hge0
    refine XL.gy rfl rfl (OpQ.opL (q_move rfl) rfl ?_)
    refine XL.gy rfl rfl (OpQ.opL (q_move rfl) rfl ?_)
    refine XL.gy rfl rfl (OpQ.opL (q_nil rfl) rfl ?_)
    refine XL.gy rfl rfl (OpQ.opL (q_fieldAddrN 0 (off := 0) rfl (by kernel_rfl) rfl) rfl ?_)
    refine XL.gy rfl rfl (OpQ.opL (q_load rfl (by kernel_rfl) (mA hbt) (by rfl)) rfl ?_)
    refine XL.gy rfl rfl (OpQ.opL (q_lenV2 (sz := 4) rfl (by kernel_rfl) hrd) rfl ?_)
    refine XL.gy rfl rfl (OpQ.opL (q_bin rfl rfl rfl) rfl ?_)
    refine XL.q (q_pickF rfl rfl) rfl ?_
    refine XL.fin (kp 0 rfl (kp 1 rfl (kp 4 rfl (kp 20 rfl kn)))) ?_
    refine XC.cond rfl (fun hc => ?_) (fun hc => ?_)
    ·
      have hge : ts.length ≤ n := by simp at hc; omega
      refine XC.reg ?_
      refine XL.q (q_build (place := fun x => #[(0, 1), (1, 1), (2, 1), (3, 1)][x]?) (z := [.int .u8 0, .slice none 0 0, .string ByteArray.empty, .int .i64 0]) (fun _ => by kernel_rfl) e0 bd0) rfl ?_
      refine XL.lo rfl (l_storeW rfl rfl Cel.cel (by kernel_rfl) (lnS (lnS (lnS (lnS (ln0))))) (allS rfl (allS rfl (allS rfl (allS rfl (all0))))) UpC.upd ?_)
      refine XL.q (q_assign rfl) rfl ?_
      refine XL.fin (kp 4 rfl (kp 5 rfl kn)) ?_
      refine XC.ret ?_
      refine tr ?_
      refine ⟨_, [], [], resC1 rfl rfl rfl (by kernel_rfl) At.mem (by rfl), List.nil_sublist _, by simp, rfl, rfl, _, _, rfl, (fun h => absurd h.2 (by omega)), fun _ => ⟨rfl, rfl⟩⟩
    ·
      have hlt : n < ts.length := by simp at hc; omega
      obtain ⟨r, hr, hcr⟩ := hat n ts[n] (List.getElem?_eq_getElem hlt)
      obtain ⟨vo, rfl, hvo⟩ := hcr
      refine XC.skip ?_
      refine nx (kp 0 rfl (kp 1 rfl (kp 4 rfl kn))) ?_
      refine XC.reg ?_
      refine XL.q (q_move rfl) rfl ?_
      refine XL.q (q_nil rfl) rfl ?_
      refine XL.q (q_fieldAddrN 0 (off := 0) rfl (by kernel_rfl) rfl) rfl ?_
      refine XL.q (q_load rfl (by kernel_rfl) (mA hbt) (by rfl)) rfl ?_
      refine XL.q (q_move rfl) rfl ?_
      refine XL.q (q_atV2 (sz := 4) rfl rfl (by kernel_rfl) rfl hrd (by omega)) rfl ?_
      refine XL.q (q_ldVR rfl (by kernel_rfl) (hrd.mono fun _ h => mA h) hr4 (by decide) hr) rfl ?_
      refine XL.lo rfl (l_storeW rfl rfl rfl (by kernel_rfl) (by rfl) (by intro c hc; simp only [List.mem_cons, List.not_mem_nil, or_false] at hc; rcases hc with rfl | rfl | rfl | rfl <;> first | rfl | exact Rd.one hvo) UpC.upd ?_)
      refine XL.q (q_assign rfl) rfl ?_
      refine XL.fin (kp 4 rfl (kp 5 rfl kn)) ?_
      refine XC.ret ?_
      refine ⟨_, [], [], resC1 rfl rfl rfl (by kernel_rfl) At.mem (by rfl), List.nil_sublist _, by simp, rfl, rfl, _, _, rfl, (fun _ => ⟨rfl, ts[n], by simp [hlt], vo, rfl, hvo.mono fun x hx => hsub x (by simp [hx])⟩), fun h => absurd ⟨Int.natCast_nonneg n, by omega⟩ h⟩
