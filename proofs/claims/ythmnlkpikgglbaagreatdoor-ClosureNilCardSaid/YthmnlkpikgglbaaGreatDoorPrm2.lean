/- The walk of prim's Derive in both modes. -/
import Derived.Test.YthmnlkpikgglbaaGreatDoorPrm1
set_option linter.unusedVariables false
set_option linter.unusedSimpArgs false
namespace Go.Proofs.YthmnlkpikgglbaaGreatDoor
open Go.Px
def fits (ws : List (List Nat)) : List Nat := ws.flatMap fun w => fitN w 32
def bigR (key : List Nat) (ws : List (List Nat)) (lb : List Nat) (n : Nat) : List Nat := expand (hmac (fitN key 32) (fits ws)) lb ((32 * n : Nat) : Int)
def cutR (b : List Nat) (n : Nat) : List (List Nat) := (List.range n).map fun i => (b.take (32 * i + 32)).drop (32 * i)
def drv (ofs : List Int) (lb : List Nat) (i : Nat) : Tm := ⟨5, ofs, lb, (i : Int)⟩
def rdSt (st : List Tm × List Int) (w : List Nat) : List Tm × List Int := (rdT st.1 w, st.2 ++ [((rdI st.1 w : Nat) : Int)])
def rdAll (ts : List Tm) (key : List Nat) (ws : List (List Nat)) : List Tm × List Int := ws.foldl rdSt (rdSt (ts, []) key)
def ptSt (ofs : List Int) (lb : List Nat) (st : List Tm × List (List Nat)) (i : Nat) : List Tm × List (List Nat) := (add st.1 (drv ofs lb i), st.2 ++ [bts ((at_ st.1 (drv ofs lb i) : Nat) : Int)])
def ptAll (ts : List Tm) (ofs : List Int) (lb : List Nat) (n : Nat) : List Tm × List (List Nat) := (List.range n).foldl (ptSt ofs lb) (ts, [])
def derT (ts : List Tm) (key : List Nat) (ws : List (List Nat)) (lb : List Nat) (n : Nat) : List Tm × List (List Nat) := ptAll (rdAll ts key ws).1 (rdAll ts key ws).2 lb n
def derS (s : Ps) (key : List Nat) (ws : List (List Nat)) (lb : List Nat) (n : Nat) : Ps := if s.real then s else { s with ts := (derT s.ts key ws lb n).1 }
def derK (s : Ps) (key : List Nat) (ws : List (List Nat)) (lb : List Nat) (n : Nat) : List (List Nat) := if s.real then cutR (bigR key ws lb n) n else (derT s.ts key ws lb n).2
theorem derS_t {s : Ps} {key lb : List Nat} {ws : List (List Nat)} {n : Nat} (h : s.real = true) : derS s key ws lb n = s := if_pos h
theorem derS_f {s : Ps} {key lb : List Nat} {ws : List (List Nat)} {n : Nat} (h : s.real = false) : derS s key ws lb n = { s with ts := (derT s.ts key ws lb n).1 } := if_neg (by rw [h]; decide)
theorem derK_t {s : Ps} {key lb : List Nat} {ws : List (List Nat)} {n : Nat} (h : s.real = true) : derK s key ws lb n = cutR (bigR key ws lb n) n := if_pos h
theorem derK_f {s : Ps} {key lb : List Nat} {ws : List (List Nat)} {n : Nat} (h : s.real = false) : derK s key ws lb n = (derT s.ts key ws lb n).2 := if_neg (by rw [h]; decide)
theorem fits_lt {ws : List (List Nat)} (h : ∀ w ∈ ws, ∀ x ∈ w, x < 256) : ∀ x ∈ fits ws, x < 256 := by
  intro x hx
  obtain ⟨w, hw, hx⟩ := List.mem_flatMap.1 hx
  exact fitN_lt (h w hw) 32 x hx
theorem fits_len (ws : List (List Nat)) : (fits ws).length = 32 * ws.length := by
  induction ws with
  | nil => rfl
  | cons w ws ih =>
    have : fits (w :: ws) = fitN w 32 ++ fits ws := rfl
    rw [this, List.length_append, ih, fitN_len, List.length_cons]; omega
theorem fits_take {ws : List (List Nat)} {i : Nat} (h : i < ws.length) : fits (ws.take (i + 1)) = fits (ws.take i) ++ fitN ws[i] 32 := by
  unfold fits
  rw [List.take_add_one, List.getElem?_eq_getElem h, List.flatMap_append]; simp
theorem fold_take {α β : Type} {f : β → α → β} {b : β} {l : List α} {i : Nat} (h : i < l.length) : (l.take (i + 1)).foldl f b = f ((l.take i).foldl f b) l[i] := by
  rw [List.take_add_one, List.getElem?_eq_getElem h, List.foldl_append]; rfl
theorem fold_range {β : Type} {f : β → Nat → β} {b : β} (i : Nat) : (List.range (i + 1)).foldl f b = f ((List.range i).foldl f b) i := by
  rw [List.range_succ, List.foldl_append]; rfl
theorem rdI_lt {ts : List Tm} {w : List Nat} (hw : ∀ x ∈ w, x < 256) (hl : w.length ≤ 1099511627776) (hts : ∀ t ∈ ts, Tmo t) : rdI ts w < (rdT ts w).length := by
  cases hp : plc w ts.length with
  | some j =>
    obtain ⟨h1, h2⟩ := rdT_some hp
    rw [h1, h2]; exact (plc_lt hp).1
  | none =>
    obtain ⟨h1, h2⟩ := rdT_none hp
    rw [h1, h2]
    cases hq : pos ts (rawT w) with
    | some j =>
      obtain ⟨h3, h4⟩ := add_some hq
      rw [h3, h4]
      exact (List.getElem?_eq_some_iff.1 (pos_some (rawT_ok hw hl) hts hq)).1
    | none =>
      obtain ⟨h3, h4⟩ := add_none hq
      rw [h3, h4]; simp
theorem rdT_tmo {ts : List Tm} {w : List Nat} (hw : ∀ x ∈ w, x < 256) (hl : w.length ≤ 1099511627776) (hts : ∀ t ∈ ts, Tmo t) : ∀ t ∈ rdT ts w, Tmo t := by
  cases hp : plc w ts.length with
  | some j => rw [(rdT_some hp).1]; exact hts
  | none =>
    rw [(rdT_none hp).1]
    unfold add
    split
    · exact hts
    · intro t ht
      rcases List.mem_append.1 ht with h | h
      · exact hts t h
      · rw [List.mem_singleton.1 h]; exact rawT_ok hw hl
theorem drv_ok {ofs : List Int} {lb : List Nat} {i : Nat} (ho : ∀ x ∈ ofs, i64 x) (hl : ofs.length ≤ 1048576) (hb : B256 lb) (hbl : lb.length ≤ 1099511627776) (hi : i ≤ 100) : Tmo (drv ofs lb i) := ⟨show 5 < 256 by decide, show i64 (i : Int) by unfold i64; omega, ho, hl, hb, hbl⟩
/-- What is known of the terms that were read. -/
structure RdOk (n0 k : Nat) (st : List Tm × List Int) : Prop where
  len : st.1.length ≤ n0 + k
  ofl : st.2.length = k
  of : ∀ x ∈ st.2, 0 ≤ x ∧ x < (st.1.length : Int)
  tmo : ∀ t ∈ st.1, Tmo t
theorem rdT_ge {ts : List Tm} {w : List Nat} : ts.length ≤ (rdT ts w).length := by
  cases hp : plc w ts.length with
  | some j => rw [(rdT_some hp).1]; exact Nat.le_refl _
  | none =>
    rw [(rdT_none hp).1]
    unfold add
    split <;> simp
theorem RdOk.step {n0 k : Nat} {st : List Tm × List Int} (h : RdOk n0 k st) {w : List Nat} (hw : ∀ x ∈ w, x < 256) (hl : w.length ≤ 1099511627776) : RdOk n0 (k + 1) (rdSt st w) := by
  refine ⟨?_, by simp [rdSt, h.ofl], ?_, rdT_tmo hw hl h.tmo⟩
  · have := rdT_len (ts := st.1) (ws := w)
    have := h.len
    show (rdT st.1 w).length ≤ _
    omega
  · intro x hx
    have hge := rdT_ge (ts := st.1) (w := w)
    have hlt := rdI_lt (ts := st.1) hw hl h.tmo
    show 0 ≤ x ∧ x < (((rdT st.1 w).length : Nat) : Int)
    rcases List.mem_append.1 hx with h1 | h1
    · have := h.of x h1; omega
    · rw [List.mem_singleton.1 h1]; omega
theorem cutR_len (b : List Nat) (n : Nat) : (cutR b n).length = n := by simp [cutR]
theorem ptAll_len (ts : List Tm) (ofs : List Int) (lb : List Nat) (n : Nat) : (ptAll ts ofs lb n).2.length = n ∧ (ptAll ts ofs lb n).1.length ≤ ts.length + n := by
  induction n with
  | zero => exact ⟨rfl, Nat.le_refl _⟩
  | succ n ih =>
    have e : ptAll ts ofs lb (n + 1) = ptSt ofs lb (ptAll ts ofs lb n) n := fold_range n
    rw [e]
    refine ⟨by simp [ptSt, ih.1], ?_⟩
    have := add_len (ts := (ptAll ts ofs lb n).1) (t := drv ofs lb n)
    show (add _ _).length ≤ _
    omega
theorem bigR_len (key : List Nat) (ws : List (List Nat)) (lb : List Nat) {n : Nat} (hn : n ≤ 8) : (bigR key ws lb n).length = 32 * n := by
  unfold bigR
  rw [expand_len]
  omega
theorem ints_snoc (l : List Int) (x : Int) : ints (l ++ [x]) = ints l ++ [.int .i64 x] := by simp [ints]

set_option maxRecDepth 100000 in
theorem derive_spec (pb : Nat) (s : Ps) (kv wv : Value) (key lb : List Nat) (ws : List (List Nat)) (n : Nat) (MP A : Mem) (hP : Prm pb s MP) (hk : By A kv key) (hw : LsV A wv ws) (hwn : ws.length ≤ 1000) (hlb : B256 lb) (hll : lb.length ≤ 1000) (hn0 : 1 ≤ n) (hn8 : n ≤ 8) (hn : s.ts.length ≤ 1040000) (hG : Glb A) : FnX Tryz.prog 30 [.pointer (some ⟨pb, 0, none⟩), kv, wv, .string (txt lb), .int .i64 (n : Int)] MP A fun q M J => Prm pb (derS s key ws lb n) M ∧ LsV J q (derK s key ws lb n) := by
  obtain ⟨sv, bt, bm, B, MT, rfl, hby, hT⟩ := hP.ex
  have hGG := hG
  obtain ⟨⟨ge0, gf0, h0⟩, ⟨ge1, gf1, h1⟩, ⟨ge4, gf4, h4⟩⟩ := hGG
  haveI := hby.cel
  haveI := hk.cel
  obtain ⟨wvs, hwr, hwl⟩ := hw.ex
  haveI := hwr.cel
  have hw256 : ∀ w ∈ ws, ∀ x ∈ w, x < 256 := fun w hw => by
    obtain ⟨j, hj⟩ := List.getElem?_of_mem hw
    obtain ⟨v, _, h⟩ := hwl.get j w hj
    exact h.lt
  have hTmo : ∀ t ∈ s.ts, Tmo t := by
    obtain ⟨_, _, _, _, _, _, _, _, _, _, _, h, _⟩ := hT
    exact h
  refine FnX.enterZ (N := 108) Tryz.func30 rfl rfl rfl fun w_ => ?_
  refine XC.keep (kp 0 rfl (kp 1 rfl (kp 2 rfl (kp 3 rfl (kp 4 rfl kn))))) ?_
  refine XC.reg ?_
  refine XL.q (q_assign rfl) rfl ?_
  refine XL.fin (kp 0 rfl (kp 1 rfl (kp 2 rfl (kp 3 rfl (kp 4 rfl kn))))) ?_
  refine XC.reg ?_
  refine XL.q (q_assign rfl) rfl ?_
  refine XL.fin (kp 0 rfl (kp 1 rfl (kp 2 rfl (kp 3 rfl (kp 4 rfl (kp 11 rfl kn)))))) ?_
  refine XC.seq ?_
  refine XC.reg ?_
  refine XL.q (q_move rfl) rfl ?_
  refine XL.q (q_ptrEqNil (e := 77) rfl rfl (by kernel_rfl)) rfl ?_
  refine XL.q (q_move rfl) rfl ?_
  refine XL.gy rfl rfl (OpQ.opL (q_move rfl) rfl ?_)
  refine XL.gy rfl rfl (OpQ.opL (q_cmp false rfl rfl (ltF (by omega))) rfl ?_)
  refine XL.q (q_pickF rfl rfl) rfl ?_
  refine XL.fin (kp 0 rfl (kp 1 rfl (kp 2 rfl (kp 3 rfl (kp 4 rfl (kp 11 rfl (kp 26 rfl kn))))))) ?_
  refine XC.condF rfl ?_
  refine XC.skip ?_
  refine nx (kp 0 rfl (kp 1 rfl (kp 2 rfl (kp 3 rfl (kp 4 rfl (kp 11 rfl kn)))))) ?_
  refine XC.seq ?_
  refine XC.reg ?_
  refine XL.q (q_move rfl) rfl ?_
  refine XL.q (q_nil rfl) rfl ?_
  refine XL.q (q_fieldAddrN 0 (off := 0) rfl (by kernel_rfl) rfl) rfl ?_
  refine XL.q (q_load rfl (by kernel_rfl) (by first | exact At.mem | exact mA (by assumption)) (by rfl)) rfl ?_
  refine XL.q (q_bin rfl rfl rfl) rfl ?_
  refine XL.fin (kp 0 rfl (kp 1 rfl (kp 2 rfl (kp 3 rfl (kp 4 rfl (kp 11 rfl (kp 32 rfl kn))))))) ?_
  refine XC.cond rfl (fun hc => ?_) (fun hc => ?_)
  ·
    have hr : s.real = true := by cases hq : s.real with | true => rfl | false => rw [hq] at hc; exact absurd hc (by decide)
    refine XC.reg ?_
    refine XL.q (q_assign rfl) rfl ?_
    refine XL.fin (kp 1 rfl (kp 2 rfl (kp 3 rfl (kp 4 rfl (kp 11 rfl (kp 12 rfl kn)))))) ?_
    refine XC.seq ?_
    refine XC.reg ?_
    refine XL.q (q_move rfl) rfl ?_
    refine XL.q (q_lenV2 (sz := 1) rfl (by kernel_rfl) hwr) rfl ?_
    refine XL.q (q_move rfl) rfl ?_
    refine XL.fin (kp 1 rfl (kp 3 rfl (kp 4 rfl (kp 11 rfl (kp 12 rfl (kp 33 rfl (kp 34 rfl (kp 35 rfl kn)))))))) ?_
    refine XC.block ?_
    refine XC.loop (α := Nat × Value × Mem × Mem) (fun x => [(1, kv), (3, .string (txt lb)), (4, .int .i64 (n : Int)), (11, .slice none 0 0), (12, x.2.1), (33, wv), (34, .int .i64 ((ws.length : Nat) : Int)), (35, .int .i64 ((x.1 : Nat) : Int))]) (fun x => x.2.2.1 ++ ((pb, blk [.int .u8 (md s.real), sv, .int .i64 (((s.n : Nat) : Int)), .pointer (some ⟨bt, 0, none⟩)] 77) :: (B ++ MT))) (fun x => x.2.2.2) (fun x => x.1 ≤ ws.length ∧ Sl 1 x.2.1 (fits (ws.take x.1)).length (nums .u8 (fits (ws.take x.1))) x.2.2.1) (fun x => ws.length - x.1) ⟨0, .slice none 0 0, [], []⟩ ⟨Nat.zero_le _, Sl.nil⟩ (kp 1 rfl (kp 3 rfl (kp 4 rfl (kp 11 rfl (kp 12 rfl (kp 33 rfl (kp 34 rfl (kp 35 rfl kn)))))))) .rfl (fun _ h => h) ?_
    rintro ⟨i, v12, B12, J12⟩ ⟨hi, hs12⟩
    dsimp only at hi hs12 ⊢
    haveI := hs12.cel
    have hfl := fits_len (ws.take i)
    rw [List.length_take] at hfl
    refine XC.reg ?_
    refine XL.q (q_bin rfl rfl rfl) rfl ?_
    refine XL.fin (kp 1 rfl (kp 3 rfl (kp 4 rfl (kp 11 rfl (kp 12 rfl (kp 33 rfl (kp 34 rfl (kp 35 rfl (kp 36 rfl kn))))))))) ?_
    refine XC.seq ?_
    refine XC.cond rfl (fun hc => ?_) (fun hc => ?_)
    ·
      have hlt : i < ws.length := by simp at hc; omega
      obtain ⟨v, hvi, hvb⟩ := hwl.at hlt
      haveI := hvb.cel
      have hft := fits_take hlt
      refine XC.skip ?_
      refine nx (kp 1 rfl (kp 3 rfl (kp 4 rfl (kp 11 rfl (kp 12 rfl (kp 33 rfl (kp 34 rfl (kp 35 rfl kn)))))))) ?_
      refine XC.seq ?_
      refine XC.block ?_
      refine XC.reg ?_
      refine XL.q (q_atV2 (sz := 1) rfl rfl (by kernel_rfl) rfl hwr hlt) rfl ?_
      refine XL.q (q_ldV (u := v) (hwr.mono SubC.sub) rfl (by kernel_rfl) hvi) rfl ?_
      refine XL.q (q_assign rfl) rfl ?_
      refine XL.fin (kp 1 rfl (kp 3 rfl (kp 4 rfl (kp 11 rfl (kp 12 rfl (kp 14 rfl (kp 33 rfl (kp 34 rfl (kp 35 rfl kn))))))))) ?_
      refine XC.reg1 ?_
      refine XL.q (q_move rfl) rfl ?_
      refine XL.q (q_move rfl) rfl ?_
      refine XL.call (aS rfl (aS rfl a0)) (by kernel_rfl) (fit_spec v ws[i] 32 _ (hvb.mono SubC.sub) (by decide)) rfl ?_
      rintro v41 M41 J41 ⟨rfl, hb41⟩
      have hb41r := hb41.rd
      rw [fitN_len] at hb41r
      refine XL.lo rfl (l_append2 (e := 5) (sz := 1) (by_ := 1) rfl rfl (by kernel_rfl) rfl hs12 (hb41r.mono SubC.sub) nums_one PickC.perm (by unfold maxLen; omega) (by omega) rfl fun v42 B42 hs42 => ?_)
      refine XL.q (q_assign rfl) rfl ?_
      refine XL.nil ?_
      refine nb ?_
      refine nx (kp 1 rfl (kp 3 rfl (kp 4 rfl (kp 11 rfl (kp 12 rfl (kp 33 rfl (kp 34 rfl (kp 35 rfl kn)))))))) ?_
      refine XC.reg1 ?_
      refine XL.q (q_addI (b := 1) rfl rfl rfl rfl (by omega)) rfl ?_
      refine XL.q (q_move rfl) rfl ?_
      refine XL.nil ?_
      exact rn ⟨i + 1, v42, B42, _⟩ ⟨by dsimp only; omega, sl_eq hs42 (by dsimp only; rw [hft, List.length_append, fitN_len]) (by dsimp only; rw [hft, nums_append])⟩ (by dsimp only; omega) (kp 1 rfl (kp 3 rfl (kp 4 rfl (kp 11 rfl (kp 12 rfl (kp 33 rfl (kp 34 rfl (kp 35 rfl kn)))))))) (Fit.pick PickC.perm (Fit.pick (B := [_]) PickC.perm (Fit.pick PickC.perm (Fit.last PickC.perm)))) (fun _ h => h)
    ·
      have hge : i = ws.length := by simp at hc; omega
      subst hge
      rw [List.take_length] at hs12 hfl
      refine XC.exit ?_
      refine te ?_
      refine re ?_
      refine be rfl ?_
      refine nx (kp 1 rfl (kp 3 rfl (kp 4 rfl (kp 11 rfl (kp 12 rfl kn))))) ?_
      refine XC.reg ?_
      refine XL.q (q_move rfl) rfl ?_
      refine XL.call (aS rfl (aS rfl a0)) (by kernel_rfl) (fit_spec kv key 32 _ (hk.mono SubC.sub) (by decide)) rfl ?_
      rintro v45 M45 J45 ⟨rfl, hb45⟩
      refine XL.q (q_move rfl) rfl ?_
      refine XL.call (aS rfl (aS rfl a0)) (by kernel_rfl) ((extract_spec v45 v12 (fitN key 32) (fits ws) _ (hb45.rd.mono SubC.sub) hb45.lt (by rw [fitN_len]; decide) (hs12.rd SubC.sub) (fits_lt hw256) (by omega) (mA h0) (mA h1)).frz0) rfl ?_
      rintro v47 M47 J47 ⟨rfl, h47⟩
      refine XL.q (q_move rfl) rfl ?_
      refine XL.lo rfl (l_toBytes (e := 5) rfl rfl hlb.lt (by kernel_rfl) (by kernel_rfl) (by kernel_rfl) rfl fun v49 B49 hs49 => ?_)
      refine XL.frz (B := B49) PickC.perm ?_
      refine XL.q (q_move rfl) rfl ?_
      refine XL.q (q_minR (n : Int) rfl rfl (by split <;> omega)) rfl ?_
      refine XL.q (q_mulI (a := 32) rfl rfl rfl rfl (by omega)) rfl ?_
      refine XL.call (aS rfl (aS rfl (aS rfl a0))) (by kernel_rfl) ((expand_spec v47 v49 (hmac (fitN key 32) (fits ws)) lb ((32 * n : Nat) : Int) _ (by rw [hmac_len]; exact (h47.rd SubC.sub)) (hmac_lt _ _) (by rw [hmac_len]; decide) (hs49.mono SubC.sub) hlb.lt (by omega) (by omega) (by omega) (mA h0) (mA h1)).frz0) rfl ?_
      rintro v53 M53 J53 ⟨rfl, h53⟩
      have hbl := bigR_len key ws lb hn8
      change Rd J53 1 v53 (bigR key ws lb n).length (nums .u8 (bigR key ws lb n)) at h53
      rw [hbl] at h53
      haveI := h53.cel
      have hb256 : ∀ x ∈ bigR key ws lb n, x < 256 := expand_lt _ _ _
      generalize hbigE : bigR key ws lb n = big at *
      refine XL.q (q_assign rfl) rfl ?_
      refine XL.fin (kp 4 rfl (kp 11 rfl (kp 15 rfl kn))) ?_
      refine XC.seq ?_
      refine XC.reg ?_
      refine XL.q (q_move rfl) rfl ?_
      refine XL.q (q_minR (n : Int) rfl rfl (by split <;> omega)) rfl ?_
      refine XL.q (q_move rfl) rfl ?_
      refine XL.fin (kp 11 rfl (kp 15 rfl (kp 55 rfl (kp 56 rfl kn)))) ?_
      refine XC.block ?_
      refine XC.loop (α := Nat × Value × List Value × Mem) (fun x => [(11, x.2.1), (15, v53), (55, .int .i64 (n : Int)), (56, .int .i64 ((x.1 : Nat) : Int))]) (fun x => x.2.2.2 ++ ((pb, blk [.int .u8 (md s.real), sv, .int .i64 (((s.n : Nat) : Int)), .pointer (some ⟨bt, 0, none⟩)] 77) :: (B ++ MT))) (fun _ => J53) (fun x => x.1 ≤ n ∧ Sl 1 x.2.1 x.1 x.2.2.1 x.2.2.2 ∧ Lst J53 x.2.2.1 ((List.range x.1).map fun i => (big.take (32 * i + 32)).drop (32 * i))) (fun x => n - x.1) ⟨0, .slice none 0 0, [], []⟩ ⟨Nat.zero_le _, Sl.nil, Lst.nil⟩ (kp 11 rfl (kp 15 rfl (kp 55 rfl (kp 56 rfl kn)))) (Fit.none (Fit.pick (B := [_]) PickC.perm (Fit.pick PickC.perm (Fit.last PickC.perm)))) (fun x hx => SubC.sub x hx) ?_
      rintro ⟨i, v11, vs11, B11⟩ ⟨hi, hs11, hl11⟩
      dsimp only at hi hs11 hl11 ⊢
      haveI := hs11.cel
      refine XC.reg ?_
      refine XL.q (q_bin rfl rfl rfl) rfl ?_
      refine XL.fin (kp 11 rfl (kp 15 rfl (kp 55 rfl (kp 56 rfl (kp 57 rfl kn))))) ?_
      refine XC.seq ?_
      refine XC.cond rfl (fun hc => ?_) (fun hc => ?_)
      ·
        have hlt : i < n := by simp at hc; omega
        refine XC.skip ?_
        refine nx (kp 11 rfl (kp 15 rfl (kp 55 rfl (kp 56 rfl kn)))) ?_
        refine XC.seq ?_
        refine XC.block ?_
        refine XC.reg ?_
        refine XL.q (q_move rfl) rfl ?_
        refine XL.q (q_assign rfl) rfl ?_
        refine XL.fin (kp 11 rfl (kp 15 rfl (kp 16 rfl (kp 55 rfl (kp 56 rfl kn))))) ?_
        refine XC.reg1 ?_
        refine XL.q (q_move rfl) rfl ?_
        refine XL.q (q_move rfl) rfl ?_
        refine XL.q (q_move rfl) rfl ?_
        refine XL.q (q_mulI (a := 32) rfl rfl rfl rfl (by omega)) rfl ?_
        refine XL.q (q_move rfl) rfl ?_
        refine XL.q (q_mulI (a := 32) rfl rfl rfl rfl (by omega)) rfl ?_
        refine XL.q (q_addI (b := 32) rfl rfl rfl rfl (by omega)) rfl ?_
        refine XL.q (q_lhV2 (sz := 1) (a := 32 * i) (b := 32 * i + 32) rfl rfl rfl (by kernel_rfl) rfl rfl h53 (by omega) (by omega)) rfl ?_
        have hpt := (h53.hiV (32 * i + 32) (by omega)).loV (32 * i) (by omega)
        rw [Nat.mul_one, Nat.mul_one, ← nums_take, ← nums_drop] at hpt
        generalize vLo (32 * i) 1 (vHi (32 * i + 32) v53) = vp at *
        haveI := hpt.cel
        have hpb : By J53 vp ((big.take (32 * i + 32)).drop (32 * i)) := ⟨by rw [List.length_drop, List.length_take, hbl, Nat.min_eq_left (by omega)]; exact hpt, fun x hx => hb256 x (List.mem_of_mem_take (List.mem_of_mem_drop hx)), by rw [List.length_drop, List.length_take, hbl]; omega⟩
        refine XL.lo rfl (l_buildSlice (e := 23) (sz := 1) (z := [.slice none 0 0]) (by kernel_rfl) (eS rfl e0) (bdS 0 1 rfl (by rfl) bd0) rfl fun b67 => ?_)
        refine XL.lo rfl (l_append2 (e := 23) (sz := 1) (by_ := 24) rfl rfl (by kernel_rfl) rfl hs11 (Rd.whole (n := 1) At.mem (by rfl)) (by intro c hc; rw [List.mem_singleton.1 hc]; exact hpt.one) PickC.perm (by unfold maxLen; omega) (by omega) rfl fun v68 B68 hs68 => ?_)
        refine XL.q (q_assign rfl) rfl ?_
        refine XL.nil ?_
        refine nb ?_
        refine nx (kp 11 rfl (kp 15 rfl (kp 55 rfl (kp 56 rfl kn)))) ?_
        refine XC.reg1 ?_
        refine XL.q (q_addI (b := 1) rfl rfl rfl rfl (by omega)) rfl ?_
        refine XL.q (q_move rfl) rfl ?_
        refine XL.nil ?_
        exact rn ⟨i + 1, v68, vs11 ++ [vp], B68⟩ ⟨by dsimp only; omega, hs68, by dsimp only; rw [List.range_succ, List.map_append]; exact hl11.snoc hpb⟩ (by dsimp only; omega) (kp 11 rfl (kp 15 rfl (kp 55 rfl (kp 56 rfl kn)))) (Fit.pick PickC.perm (Fit.pick (B := [_]) PickC.perm (Fit.pick PickC.perm (Fit.last PickC.perm)))) (fun x hx => SubC.sub x hx)
      ·
        have hge : i = n := by simp at hc; omega
        subst hge
        refine XC.exit ?_
        refine te ?_
        refine re ?_
        refine be rfl ?_
        refine nx (kp 11 rfl kn) ?_
        refine XC.reg ?_
        refine XL.q (q_move rfl) rfl ?_
        refine XL.q (q_assign rfl) rfl ?_
        refine XL.fin (kp 10 rfl kn) ?_
        refine XC.ret ?_
        refine tr ?_
        exact ⟨_, (pb, blk [.int .u8 (md s.real), sv, .int .i64 (((s.n : Nat) : Int)), .pointer (some ⟨bt, 0, none⟩)] 77) :: (B ++ MT), B11, res1 rfl rfl, (Fit.pick PickC.perm (Fit.pick (B := [_]) PickC.perm (Fit.pick PickC.perm (Fit.last PickC.perm)))), by rw [derS_t hr]; exact ⟨sv, bt, bm, B, MT, rfl, hby, hT⟩, by rw [derK_t hr, hbigE]; exact ⟨vs11, by rw [cutR_len]; exact hs11.rd SubC.sub, hl11.mono SubC.sub⟩⟩
  ·
    have hr : s.real = false := by cases hq : s.real with | false => rfl | true => rw [hq] at hc; exact absurd hc (by decide)
    refine XC.skip ?_
    refine nx (kp 0 rfl (kp 1 rfl (kp 2 rfl (kp 3 rfl (kp 4 rfl (kp 11 rfl kn)))))) ?_
    refine XC.reg ?_
    refine XL.q (q_move rfl) rfl ?_
    refine XL.q (q_move rfl) rfl ?_
    refine XL.lo rfl (l_call (Mc := (pb, blk [.int .u8 (md s.real), sv, .int .i64 (((s.n : Nat) : Int)), .pointer (some ⟨bt, 0, none⟩)] 77) :: (B ++ MT)) (R := _) (aS rfl (aS rfl a0)) (by kernel_rfl) PickC.perm (pread_spec pb s kv key _ _ hP (by omega) (hk.mono SubC.sub) hG.up) rfl ?_)
    rintro v73 M73 J73 ⟨rfl, hP73⟩
    have hst0 : RdOk s.ts.length 0 (s.ts, []) := ⟨Nat.le_refl _, rfl, (fun x hx => by cases hx), hTmo⟩
    have hst := hst0.step hk.lt (by have := hk.len; omega)
    refine XL.lo rfl (l_buildSlice (e := 3) (sz := 1) (z := [.int .i64 0]) (by kernel_rfl) (eS rfl e0) (bdS 0 1 rfl (by rfl) bd0) rfl fun b74 => ?_)
    refine XL.q (q_assign rfl) rfl ?_
    refine XL.fin (kp 0 rfl (kp 2 rfl (kp 3 rfl (kp 4 rfl (kp 11 rfl (kp 17 rfl kn)))))) ?_
    refine XC.seq ?_
    refine XC.reg ?_
    refine XL.q (q_move rfl) rfl ?_
    refine XL.q (q_lenV2 (sz := 1) rfl (by kernel_rfl) hwr) rfl ?_
    refine XL.q (q_move rfl) rfl ?_
    refine XL.fin (kp 0 rfl (kp 3 rfl (kp 4 rfl (kp 11 rfl (kp 17 rfl (kp 75 rfl (kp 76 rfl (kp 77 rfl kn)))))))) ?_
    refine XC.block ?_
    refine XC.loop (α := Nat × Value × Mem × Mem) (fun x => [(0, .pointer (some ⟨pb, 0, none⟩)), (3, .string (txt lb)), (4, .int .i64 (n : Int)), (11, .slice none 0 0), (17, x.2.1), (75, wv), (76, .int .i64 ((ws.length : Nat) : Int)), (77, .int .i64 ((x.1 : Nat) : Int))]) (fun x => x.2.2.1 ++ x.2.2.2) (fun x => []) (fun x => x.1 ≤ ws.length ∧ RdOk s.ts.length (1 + x.1) ((ws.take x.1).foldl rdSt (rdSt (s.ts, []) key)) ∧ Sl 1 x.2.1 (1 + x.1) (ints ((ws.take x.1).foldl rdSt (rdSt (s.ts, []) key)).2) x.2.2.1 ∧ Prm pb { s with ts := ((ws.take x.1).foldl rdSt (rdSt (s.ts, []) key)).1 } x.2.2.2) (fun x => ws.length - x.1) ⟨0, .slice (some ⟨b74, 0, none⟩) 1 1, [(b74, _)], M73⟩ ⟨Nat.zero_le _, hst, Sl.fresh (n := 1) (sz := 1) (cs := ints [((rdI s.ts key : Nat) : Int)]) (e := 3) (by rfl) (by decide), hP73⟩ (kp 0 rfl (kp 3 rfl (kp 4 rfl (kp 11 rfl (kp 17 rfl (kp 75 rfl (kp 76 rfl (kp 77 rfl kn)))))))) (Fit.pick (B := [(b74, blk [.int .i64 ((rdI s.ts key : Nat) : Int)] 3)]) PickC.perm (Fit.last (B := M73) PickC.perm)) (fun _ h => by cases h) ?_
    rintro ⟨i, v17, B17, MR⟩ ⟨hi, hok, hs17, hPR⟩
    dsimp only at hi hok hs17 hPR ⊢
    haveI := hs17.cel
    refine XC.reg ?_
    refine XL.q (q_bin rfl rfl rfl) rfl ?_
    refine XL.fin (kp 0 rfl (kp 3 rfl (kp 4 rfl (kp 11 rfl (kp 17 rfl (kp 75 rfl (kp 76 rfl (kp 77 rfl (kp 78 rfl kn))))))))) ?_
    refine XC.seq ?_
    refine XC.cond rfl (fun hc => ?_) (fun hc => ?_)
    ·
      have hlt : i < ws.length := by simp at hc; omega
      obtain ⟨v, hvi, hvb⟩ := hwl.at hlt
      haveI := hvb.cel
      have hft := fold_take (f := rdSt) (b := rdSt (s.ts, []) key) hlt
      have hok2 := hok.step hvb.lt (by have := hvb.len; omega)
      rw [← hft] at hok2
      have hokl := hok.len
      refine XC.skip ?_
      refine nx (kp 0 rfl (kp 3 rfl (kp 4 rfl (kp 11 rfl (kp 17 rfl (kp 75 rfl (kp 76 rfl (kp 77 rfl kn)))))))) ?_
      refine XC.seq ?_
      refine XC.block ?_
      refine XC.reg ?_
      refine XL.q (q_atV2 (sz := 1) rfl rfl (by kernel_rfl) rfl hwr hlt) rfl ?_
      refine XL.q (q_ldV (u := v) (hwr.mono SubC.sub) rfl (by kernel_rfl) hvi) rfl ?_
      refine XL.q (q_assign rfl) rfl ?_
      refine XL.fin (kp 0 rfl (kp 3 rfl (kp 4 rfl (kp 11 rfl (kp 17 rfl (kp 19 rfl (kp 75 rfl (kp 76 rfl (kp 77 rfl kn))))))))) ?_
      refine XC.reg1 ?_
      refine XL.q (q_move rfl) rfl ?_
      refine XL.q (q_move rfl) rfl ?_
      refine XL.q (q_move rfl) rfl ?_
      refine XL.lo rfl (l_call (Mc := MR) (R := _) (aS rfl (aS rfl a0)) (by kernel_rfl) PickC.perm (pread_spec pb _ v ws[i] _ _ hPR (by dsimp only; omega) (hvb.mono SubC.sub) hG.up) rfl ?_)
      rintro v84 M84 J84 ⟨rfl, hP84⟩
      refine XL.lo rfl (l_buildSlice (e := 3) (sz := 1) (z := [.int .i64 0]) (by kernel_rfl) (eS rfl e0) (bdS 0 1 rfl (by rfl) bd0) rfl fun b85 => ?_)
      refine XL.lo rfl (l_append2 (e := 3) (sz := 1) (by_ := 8) rfl rfl (by kernel_rfl) rfl hs17 (Rd.whole (n := 1) At.mem (by rfl)) (by simp [Value.oneCell']) PickC.perm (by unfold maxLen; omega) (by omega) rfl fun v86 B86 hs86 => ?_)
      refine XL.q (q_assign rfl) rfl ?_
      refine XL.nil ?_
      refine nb ?_
      refine nx (kp 0 rfl (kp 3 rfl (kp 4 rfl (kp 11 rfl (kp 17 rfl (kp 75 rfl (kp 76 rfl (kp 77 rfl kn)))))))) ?_
      refine XC.reg1 ?_
      refine XL.q (q_addI (b := 1) rfl rfl rfl rfl (by omega)) rfl ?_
      refine XL.q (q_move rfl) rfl ?_
      refine XL.nil ?_
      exact rn ⟨i + 1, v86, B86, M84⟩ ⟨by dsimp only; omega, hok2, (by dsimp only; rw [hft, show rdSt _ ws[i] = (_, _ ++ [_]) from rfl]; dsimp only; rw [ints_snoc]; exact hs86), (by dsimp only; rw [hft]; exact hP84)⟩ (by dsimp only; omega) (kp 0 rfl (kp 3 rfl (kp 4 rfl (kp 11 rfl (kp 17 rfl (kp 75 rfl (kp 76 rfl (kp 77 rfl kn)))))))) (Fit.pick PickC.perm (Fit.last PickC.perm)) (fun _ h => by cases h)
    ·
      have hge : i = ws.length := by simp at hc; omega
      subst hge
      rw [List.take_length] at hok hs17 hPR
      change RdOk _ _ (rdAll s.ts key ws) at hok
      change Sl _ _ _ (ints (rdAll s.ts key ws).2) _ at hs17
      change Prm _ { s with ts := (rdAll s.ts key ws).1 } _ at hPR
      refine XC.exit ?_
      refine te ?_
      refine re ?_
      refine be rfl ?_
      refine nx (kp 0 rfl (kp 3 rfl (kp 4 rfl (kp 11 rfl (kp 17 rfl kn))))) ?_
      refine XC.seq ?_
      refine XC.reg ?_
      refine XL.q (q_move rfl) rfl ?_
      refine XL.q (q_minR (n : Int) rfl rfl (by split <;> omega)) rfl ?_
      refine XL.q (q_move rfl) rfl ?_
      refine XL.fin (kp 0 rfl (kp 3 rfl (kp 11 rfl (kp 17 rfl (kp 89 rfl (kp 90 rfl kn)))))) ?_
      refine XC.block ?_
      have hokl := hok.len
      have hokf := hok.ofl
      have hoki : ∀ x ∈ (rdAll s.ts key ws).2, i64 x := fun x hx => by have := hok.of x hx; unfold i64; omega
      generalize hra : (rdAll s.ts key ws).1 = tr at *
      generalize hof : (rdAll s.ts key ws).2 = ofs at *
      refine XC.loop (α := Nat × Value × List Value × Mem × Mem × Mem) (fun x => [(0, .pointer (some ⟨pb, 0, none⟩)), (3, .string (txt lb)), (11, x.2.1), (17, v17), (89, .int .i64 (n : Int)), (90, .int .i64 ((x.1 : Nat) : Int))]) (fun x => x.2.2.2.1 ++ (B17 ++ x.2.2.2.2.1)) (fun x => x.2.2.2.2.2) (fun x => x.1 ≤ n ∧ Sl 1 x.2.1 x.1 x.2.2.1 x.2.2.2.1 ∧ Lst x.2.2.2.2.2 x.2.2.1 (ptAll tr ofs lb x.1).2 ∧ Prm pb { s with ts := (ptAll tr ofs lb x.1).1 } x.2.2.2.2.1) (fun x => n - x.1) ⟨0, .slice none 0 0, [], [], MR, []⟩ ⟨Nat.zero_le _, Sl.nil, Lst.nil, hPR⟩ (kp 0 rfl (kp 3 rfl (kp 11 rfl (kp 17 rfl (kp 89 rfl (kp 90 rfl kn)))))) .rfl (fun _ h => by cases h) ?_
      rintro ⟨i, v11, vs11, B11, MQ, JQ⟩ ⟨hi, hs11, hl11, hPQ⟩
      dsimp only at hi hs11 hl11 hPQ ⊢
      haveI := hs11.cel
      obtain ⟨hpl2, hpl1⟩ := ptAll_len tr ofs lb i
      refine XC.reg ?_
      refine XL.q (q_bin rfl rfl rfl) rfl ?_
      refine XL.fin (kp 0 rfl (kp 3 rfl (kp 11 rfl (kp 17 rfl (kp 89 rfl (kp 90 rfl (kp 91 rfl kn))))))) ?_
      refine XC.seq ?_
      refine XC.cond rfl (fun hc => ?_) (fun hc => ?_)
      ·
        have hlt : i < n := by simp at hc; omega
        obtain ⟨sv2, bt2, bm2, B2, MT2, rfl, hby2, hT2⟩ := hPQ.ex
        dsimp only at hpl1 hT2 hby2 ⊢
        have hor := hs17.rd (R := B17) fun _ h => h
        rw [hokf.symm] at hor
        have hor : Rd B17 1 v17 ofs.length (ints ofs) := rd_eq hor (by omega) rfl
        refine XC.skip ?_
        refine nx (kp 0 rfl (kp 3 rfl (kp 11 rfl (kp 17 rfl (kp 89 rfl (kp 90 rfl kn)))))) ?_
        refine XC.seq ?_
        refine XC.block ?_
        refine XC.reg ?_
        refine XL.q (q_move rfl) rfl ?_
        refine XL.q (q_assign rfl) rfl ?_
        refine XL.fin (kp 0 rfl (kp 3 rfl (kp 11 rfl (kp 17 rfl (kp 20 rfl (kp 89 rfl (kp 90 rfl kn))))))) ?_
        refine XC.reg1 ?_
        refine XL.q (q_move rfl) rfl ?_
        refine XL.q (q_move rfl) rfl ?_
        refine XL.q (q_nil rfl) rfl ?_
        refine XL.q (q_fieldAddrN 3 (off := 3) rfl (by kernel_rfl) rfl) rfl ?_
        refine XL.q (q_load rfl (by kernel_rfl) (by first | exact At.mem | exact mA (by assumption)) (by rfl)) rfl ?_
        refine XL.q (q_move rfl) rfl ?_
        refine XL.q (q_move rfl) rfl ?_
        refine XL.q (q_move rfl) rfl ?_
        refine XL.q (q_build (place := fun x => #[(0, 1), (1, 1), (2, 1), (3, 1)][x]?) (z := [.int .u8 0, .slice none 0 0, .string ByteArray.empty, .int .i64 0]) (fun _ => by kernel_rfl) (eS rfl (eS rfl (eS rfl (eS rfl e0)))) (bdS 0 1 rfl (by rfl) (bdS 1 1 rfl (by rfl) (bdS 2 1 rfl (by rfl) (bdS 3 1 rfl (by rfl) bd0))))) rfl ?_
        refine XL.lo rfl (l_call (Mc := MT2) (R := _) (aS rfl (aS rfl a0)) (by kernel_rfl) PickC.perm (putT_spec bt2 bm2 (ptAll tr ofs lb i).1 v17 (drv ofs lb i) MT2 _ hT2 (by omega) (hor.mono SubC.sub) (drv_ok hoki (by omega) hlb (by omega) (by omega)) (mA h4)) rfl ?_)
        rintro v102 M102 J102 ⟨rfl, rfl, hT102⟩
        refine XL.call (aS rfl a0) (by kernel_rfl) (bytesJ_spec _ _) rfl ?_
        rintro v103 M103 J103 ⟨rfl, hb103⟩
        haveI := hb103.cel
        refine XL.lo rfl (l_buildSlice (e := 23) (sz := 1) (z := [.slice none 0 0]) (by kernel_rfl) (eS rfl e0) (bdS 0 1 rfl (by rfl) bd0) rfl fun b104 => ?_)
        refine XL.lo rfl (l_append2 (e := 23) (sz := 1) (by_ := 24) rfl rfl (by kernel_rfl) rfl hs11 (Rd.whole (n := 1) At.mem (by rfl)) (by intro c hc; rw [List.mem_singleton.1 hc]; exact hb103.one) PickC.perm (by unfold maxLen; omega) (by omega) rfl fun v105 B105 hs105 => ?_)
        refine XL.q (q_assign rfl) rfl ?_
        refine XL.nil ?_
        refine nb ?_
        refine nx (kp 0 rfl (kp 3 rfl (kp 11 rfl (kp 17 rfl (kp 89 rfl (kp 90 rfl kn)))))) ?_
        refine XC.reg1 ?_
        refine XL.q (q_addI (b := 1) rfl rfl rfl rfl (by omega)) rfl ?_
        refine XL.q (q_move rfl) rfl ?_
        refine XL.nil ?_
        exact rn ⟨i + 1, v105, vs11 ++ [v103], B105, (pb, blk [.int .u8 (md s.real), sv2, .int .i64 (((s.n : Nat) : Int)), .pointer (some ⟨bt2, 0, none⟩)] 77) :: (B2 ++ M102), J103 ++ JQ⟩ ⟨by dsimp only; omega, hs105, (by dsimp only; rw [show ptAll tr ofs lb (i + 1) = ptSt ofs lb (ptAll tr ofs lb i) i from fold_range i]; exact (hl11.mono SubC.sub).snoc (hb103.mono SubC.sub)), (by dsimp only; rw [show ptAll tr ofs lb (i + 1) = ptSt ofs lb (ptAll tr ofs lb i) i from fold_range i]; exact ⟨sv2, bt2, bm2, B2, M102, rfl, hby2, hT102⟩)⟩ (by dsimp only; omega) (kp 0 rfl (kp 3 rfl (kp 11 rfl (kp 17 rfl (kp 89 rfl (kp 90 rfl kn)))))) (Fit.pick PickC.perm (Fit.pick PickC.perm (Fit.pick (B := [_]) PickC.perm (Fit.pick PickC.perm (Fit.last PickC.perm))))) (fun _ h => h)
      ·
        have hge : i = n := by simp at hc; omega
        subst hge
        refine XC.exit ?_
        refine te ?_
        refine re ?_
        refine be rfl ?_
        refine nx (kp 11 rfl kn) ?_
        refine XC.reg ?_
        refine XL.q (q_move rfl) rfl ?_
        refine XL.q (q_assign rfl) rfl ?_
        refine XL.fin (kp 10 rfl kn) ?_
        refine XC.ret ?_
        exact ⟨_, MQ, B11, res1 rfl rfl, (Fit.pick PickC.perm (Fit.last PickC.perm)), by rw [derS_f hr, show derT s.ts key ws lb i = ptAll tr ofs lb i by unfold derT; rw [hra, hof]]; exact hPQ, by rw [derK_f hr, show derT s.ts key ws lb i = ptAll tr ofs lb i by unfold derT; rw [hra, hof]]; exact ⟨vs11, by rw [hpl2]; exact hs11.rd SubC.sub, hl11.mono SubC.sub⟩⟩
