/- The walk of TermPuts. -/
import Derived.Test.YtibemhcnjdgemaaDoorTrm5
set_option linter.unusedVariables false
set_option linter.unusedSimpArgs false
namespace Go.Px
section
variable {P : Program} {R R' : Mem} {l : Env} {d : Option Nat} {ty t : TypeId} {pos : String} {af : Array Edge} {g : Option (Nat × Bool)} {x y : Operand} {v u : Value} {sz n a off j : Nat} {xs : List Value}
/-- A field of an element; what is there. -/
theorem q_fldV {f : Nat} {s : TypeId} (hx : ev l x = some (vAt sz a v)) (h : Rd R' sz v n xs) (ha : a < n) (hf : fieldOff P s f = some off) : OpQ P R ⟨d, .fieldAddr s x f, ty, pos, af, g⟩ l (vAt 1 (a * sz + off) v) := by
  obtain ⟨p, c, rfl, h2, h3, h4⟩ := h
  rcases h4 with h4 | ⟨b, o, cs, e', fr, rfl, hb, hx'⟩
  · omega
  · simp only [vAt, Addr.add_mid, Nat.mul_one] at hx ⊢
    exact q_fieldAddrN _ hx hf (by omega)
theorem q_ldVF (hx : ev l x = some (vAt 1 j v)) (h : Rd R sz v n xs) (hn : 0 < n) (ht : scalarT P t = true) (hj : xs[j]? = some u) : OpQ P R ⟨d, .load t x, ty, pos, af, g⟩ l u := by
  obtain ⟨p, c, rfl, h2, h3, h4⟩ := h
  rcases h4 with h4 | ⟨b, o, cs, e', fr, rfl, hb, hx'⟩
  · omega
  · simp only [vAt, Addr.add_mid] at hx
    refine q_load (b := b) (o := o + j * 1) hx ht hb ?_
    rw [Nat.mul_one]; exact hx' j u hj
end
end Go.Px
namespace Go.Proofs.YtibemhcnjdgemaaDoor
open Go.Px
/-- Terms that came in. -/
structure TmI (t : Tm) : Prop where
  kind : t.kind < 256
  n : i64 t.n
  of : ∀ i ∈ t.of, i64 i
  ofl : t.of.length ≤ maxLen
  text : B256 t.text
  tl : t.text.length ≤ maxLen
theorem TmI.to {t : Tm} (h : TmI t) (h1 : t.of.length ≤ 20) (h2 : t.text.length ≤ 200) : Tmo t := ⟨h.kind, h.n, h.of, by omega, h.text, by omega⟩
/-- Rows of terms that read. -/
def Rws (R : Mem) (rows : List (List Value)) (ts : List Tm) : Prop := rows.length = ts.length ∧ (∀ r ∈ rows, r.length = 4) ∧ ∀ (j : Nat) (t : Tm), ts[j]? = some t → ∃ r, rows[j]? = some r ∧ TmC R r t
theorem Rws.at (R : Mem) {rows : List (List Value)} {ts : List Tm} (h : Rws R rows ts) {j : Nat} (hj : j < ts.length) : ∃ vo, rows[j]? = some (tmc ts[j].kind vo ts[j].text ts[j].n) ∧ Rd R 1 vo ts[j].of.length (ints ts[j].of) := by
  obtain ⟨r, h1, vo, rfl, h2⟩ := h.2.2 j ts[j] (List.getElem?_eq_getElem hj)
  exact ⟨vo, h1, h2⟩
theorem Rws.snoc {R : Mem} {rows : List (List Value)} {ts : List Tm} (h : Rws R rows ts) {t : Tm} {vo : Value} (hv : Rd R 1 vo t.of.length (ints t.of)) : Rws R (rows ++ [tmc t.kind vo t.text t.n]) (ts ++ [t]) := by
  refine ⟨by simp [h.1], fun r hr => ?_, fun j u hj => ?_⟩
  · rcases List.mem_append.1 hr with hr | hr
    · exact h.2.1 r hr
    · rw [List.mem_singleton.1 hr]; rfl
  · by_cases hlt : j < ts.length
    · rw [List.getElem?_append_left hlt] at hj
      obtain ⟨r, hr, hcr⟩ := h.2.2 j u hj
      exact ⟨r, by rw [List.getElem?_append_left (by have := h.1; omega)]; exact hr, hcr⟩
    · rw [List.getElem?_append_right (by omega)] at hj
      have hj0 : j = ts.length := by
        have := (List.getElem?_eq_some_iff.1 hj).1
        simp at this; omega
      subst hj0
      simp at hj
      subst hj
      exact ⟨_, by rw [List.getElem?_append_right (by have := h.1; omega), show ts.length - rows.length = 0 by have := h.1; omega]; rfl, vo, rfl, hv⟩
theorem Rws.get {R : Mem} {rows : List (List Value)} {ts : List Tm} (h : Rws R rows ts) {j : Nat} {r : List Value} (hr : rows[j]? = some r) {k : Nat} (hk : k < 4) : rows.flatten[j * 4 + k]? = r[k]? := flat_get h.2.1 hr k hk
/-- Which of the first k of a table's terms is that one? -/
def fnd (ts : List Tm) (t : Tm) (k : Nat) : Int := match pos ts t with
  | some j => if j < k then (j : Int) else -1
  | none => -1
theorem fnd_0 (ts : List Tm) (t : Tm) : fnd ts t 0 = -1 := by unfold fnd; split <;> simp
theorem fnd_T {ts : List Tm} {t : Tm} {k : Nat} (hts : ∀ t ∈ ts, Tmo t) (hnd : ts.Nodup) (hk : k < ts.length) (h : tmEq ts[k] t = true) : fnd ts t (k + 1) = (k : Int) := by
  have e := tmEq_iff.1 h
  have : pos ts t = some k := pos_of hts hnd (by rw [List.getElem?_eq_getElem hk, e])
  unfold fnd; rw [this]; simp
theorem fnd_F {ts : List Tm} {t : Tm} {k : Nat} (ht : Tmo t) (hts : ∀ t ∈ ts, Tmo t) (hk : k < ts.length) (h : tmEq ts[k] t = false) : fnd ts t (k + 1) = fnd ts t k := by
  unfold fnd
  cases hp : pos ts t with
  | none => rfl
  | some j =>
    have hj := pos_some ht hts hp
    have hne : j ≠ k := by
      rintro rfl
      rw [List.getElem?_eq_getElem hk] at hj
      have := Option.some.inj hj
      rw [tmEq_iff.2 this] at h; cases h
    simp only
    by_cases hlt : j < k
    · rw [if_pos hlt, if_pos (by omega)]
    · rw [if_neg hlt, if_neg (by omega)]
theorem pos_lt {ts : List Tm} {t : Tm} {j : Nat} (h : pos ts t = some j) : j < ts.length := by
  have := (lookK_some h).2
  have := (List.getElem?_eq_some_iff.1 this).1
  simpa using this
theorem fnd_end {ts : List Tm} {t : Tm} : fnd ts t ts.length = match pos ts t with | some j => (j : Int) | none => -1 := by
  unfold fnd
  cases hp : pos ts t with
  | none => rfl
  | some j => simp [pos_lt hp]
theorem fnd_neg {ts : List Tm} {t : Tm} (h : fnd ts t ts.length < 0) : pos ts t = none := by
  rw [fnd_end] at h
  cases hp : pos ts t with
  | none => rfl
  | some j => rw [hp] at h; simp only at h; omega
theorem fnd_pos {ts : List Tm} {t : Tm} (h : ¬ fnd ts t ts.length < 0) : ∃ j, pos ts t = some j ∧ fnd ts t ts.length = (j : Int) := by
  rw [fnd_end] at h ⊢
  cases hp : pos ts t with
  | none => rw [hp] at h; simp at h
  | some j => exact ⟨j, rfl, rfl⟩
theorem fnd_i64 {ts : List Tm} {t : Tm} {k : Nat} (h : ts.length ≤ 1048576) : -1 ≤ fnd ts t k ∧ fnd ts t k < 1048576 := by
  unfold fnd
  cases hp : pos ts t with
  | none => simp
  | some j =>
    have := pos_lt hp
    simp only
    split <;> omega
theorem add_len {ts : List Tm} {t : Tm} : (add ts t).length ≤ ts.length + 1 := by unfold add; split <;> simp
structure Pst where
  i : Nat
  ts : List Tm
  v : Value
  rows : List (List Value)
  B : Mem
  MT : Mem
structure Pok (A : Mem) (bt bm n : Nat) (s : Pst) : Prop where
  hi : s.i ≤ n
  hl : s.ts.length ≤ s.i
  tab : Tab bt bm s.ts s.MT
  sl : Sl 4 s.v s.ts.length s.rows.flatten s.B
  rw_ : Rws A s.rows s.ts

set_option maxRecDepth 100000 in
theorem termPuts_spec (vl : Value) (lrows : List (List Value)) (ls : List Tm) (vx : Value) (x : Tm) (A : Mem) (hrl : Rd A 4 vl ls.length lrows.flatten) (hlr : Rws A lrows ls) (hli : ∀ t ∈ ls, TmI t) (hrx : Rd A 1 vx x.of.length (ints x.of)) (hxi : TmI x) {e4 : TypeId} {f4 : Nat × Nat} (h4 : (4, Obj.cells (nums .u64 pow10T).toArray e4 f4) ∈ A) : FnV Tryd.prog 9 [vl, .agg (tmc x.kind vx x.text x.n).toArray] A (.bool true) := by
  haveI := hrx.cel
  haveI := hrl.cel
  haveI := hxi.text
  have hxk := hxi.kind
  refine FnX.enter (N := 163) Tryd.func9 rfl rfl rfl fun w => ?_
  refine XC.keep (kp 0 rfl (kp 1 rfl kn)) ?_
  refine XC.reg ?_
  refine XL.lo rfl (l_box rfl rfl rfl fun b3 => ?_)
  refine XL.q (q_assign rfl) rfl ?_
  refine XL.fin (kp 0 rfl (kp 3 rfl kn)) ?_
  refine XC.seq ?_
  refine XC.reg ?_
  refine XL.callV a0 (by kernel_rfl) (tawake_spec _ (mA h4)) rfl ?_
  refine XL.q (q_not rfl) rfl ?_
  refine XL.q (q_move rfl) rfl ?_
  refine XL.gy rfl rfl (OpQ.opL (q_move rfl) rfl ?_)
  refine XL.gy rfl rfl (OpQ.opL (q_lenV2 (sz := 4) rfl (by kernel_rfl) hrl) rfl ?_)
  refine XL.gy rfl rfl (OpQ.opL (q_bin rfl rfl rfl) rfl ?_)
  refine XL.q (q_pickF rfl rfl) rfl ?_
  refine XL.q (q_move rfl) rfl ?_
  refine XL.split (t := 25) rfl (fun hb => ?_) (fun hb => ?_)
  ·
    refine XL.gn rfl rfl rfl rfl ?_
    refine XL.gn rfl rfl rfl rfl ?_
    refine XL.gn rfl rfl rfl rfl ?_
    refine XL.gn rfl rfl rfl rfl ?_
    refine XL.q (q_pickT rfl rfl) rfl ?_
    refine XL.q (q_move rfl) rfl ?_
    refine XL.gn rfl rfl rfl rfl ?_
    refine XL.gn rfl rfl rfl rfl ?_
    refine XL.gn rfl rfl rfl rfl ?_
    refine XL.gn rfl rfl rfl rfl ?_
    refine XL.q (q_pickT rfl rfl) rfl ?_
    refine XL.fin (kp 0 rfl (kp 3 rfl (kp 36 rfl kn))) ?_
    refine XC.condT rfl ?_
    refine XC.reg ?_
    refine XL.callV a0 (by kernel_rfl) (tawake_spec _ (mA h4)) rfl ?_
    refine XL.q (q_assign rfl) rfl ?_
    refine XL.fin (kp 4 rfl kn) ?_
    refine XC.ret ?_
    refine tr ?_
    exact ⟨_, [], [], res1 rfl rfl, List.nil_sublist _, by simp, rfl, rfl, rfl⟩
  ·
    have hl40 : ls.length ≤ 40 := by simp at hb; omega
    refine XL.gy rfl rfl (OpQ.opL (q_fieldAddrN 1 (off := 1) rfl (by kernel_rfl) rfl) rfl ?_)
    refine XL.gy rfl rfl (OpQ.opL (q_load rfl (by kernel_rfl) (by first | exact At.mem | exact mA (by assumption)) (by rfl)) rfl ?_)
    refine XL.gy rfl rfl (OpQ.opL (q_lenV2 (sz := 1) rfl (by kernel_rfl) hrx) rfl ?_)
    refine XL.gy rfl rfl (OpQ.opL (q_bin rfl rfl rfl) rfl ?_)
    refine XL.q (q_pickF rfl rfl) rfl ?_
    refine XL.q (q_move rfl) rfl ?_
    refine XL.split (t := 31) rfl (fun hb => ?_) (fun hb => ?_)
    ·
      refine XL.gn rfl rfl rfl rfl ?_
      refine XL.gn rfl rfl rfl rfl ?_
      refine XL.gn rfl rfl rfl rfl ?_
      refine XL.gn rfl rfl rfl rfl ?_
      refine XL.q (q_pickT rfl rfl) rfl ?_
      refine XL.fin (kp 0 rfl (kp 3 rfl (kp 36 rfl kn))) ?_
      refine XC.condT rfl ?_
      refine XC.reg ?_
      refine XL.callV a0 (by kernel_rfl) (tawake_spec _ (mA h4)) rfl ?_
      refine XL.q (q_assign rfl) rfl ?_
      refine XL.fin (kp 4 rfl kn) ?_
      refine XC.ret ?_
      refine tr ?_
      exact ⟨_, [], [], res1 rfl rfl, List.nil_sublist _, by simp, rfl, rfl, rfl⟩
    ·
      have hxo : x.of.length ≤ 20 := by simp at hb; omega
      refine XL.gy rfl rfl (OpQ.opL (q_fieldAddrN 2 (off := 2) rfl (by kernel_rfl) rfl) rfl ?_)
      refine XL.gy rfl rfl (OpQ.opL (q_load rfl (by kernel_rfl) (by first | exact At.mem | exact mA (by assumption)) (by rfl)) rfl ?_)
      refine XL.gy rfl rfl (OpQ.opL (q_sLen rfl rfl (by kernel_rfl)) rfl ?_)
      refine XL.gy rfl rfl (OpQ.opL (q_bin rfl rfl rfl) rfl ?_)
      refine XL.q (q_pickF rfl rfl) rfl ?_
      refine XL.fin (kp 0 rfl (kp 3 rfl (kp 36 rfl kn))) ?_
      refine XC.cond rfl (fun hc => ?_) (fun hc => ?_)
      ·
        refine XC.reg ?_
        refine XL.callV a0 (by kernel_rfl) (tawake_spec _ (mA h4)) rfl ?_
        refine XL.q (q_assign rfl) rfl ?_
        refine XL.fin (kp 4 rfl kn) ?_
        refine XC.ret ?_
        refine tr ?_
        exact ⟨_, [], [], res1 rfl rfl, List.nil_sublist _, by simp, rfl, rfl, rfl⟩
      ·
        have hxt : x.text.length ≤ 200 := by simp at hc; omega
        have hx : Tmo x := hxi.to hxo hxt
        refine XC.skip ?_
        refine nx (kp 0 rfl (kp 3 rfl kn)) ?_
        refine XC.reg ?_
        refine XL.call a0 (by kernel_rfl) (newT_spec _) rfl ?_
        rintro v38 M38 J38 ⟨rfl, bt, bm, rfl, hT0⟩
        refine XL.q (q_assign rfl) rfl ?_
        refine XL.fin (kp 0 rfl (kp 3 rfl (kp 5 rfl kn))) ?_
        refine XC.reg ?_
        refine XL.q (q_assign rfl) rfl ?_
        refine XL.fin (kp 0 rfl (kp 3 rfl (kp 5 rfl (kp 6 rfl kn)))) ?_
        refine XC.seq ?_
        refine XC.reg ?_
        refine XL.q (q_assign rfl) rfl ?_
        refine XL.fin (kp 0 rfl (kp 3 rfl (kp 5 rfl (kp 6 rfl (kp 7 rfl kn))))) ?_
        refine XC.block ?_
        refine XC.loop (α := Pst) (fun s => [(0, vl), (3, .pointer (some ⟨b3, 0, none⟩)), (5, .pointer (some ⟨bt, 0, none⟩)), (6, s.v), (7, .int .i64 (s.i : Int))]) (fun s => s.B ++ (s.MT ++ [(b3, blk (tmc x.kind vx x.text x.n) 62)])) (fun _ => []) (Pok A bt bm ls.length) (fun s => ls.length - s.i) ⟨0, [], .slice none 0 0, [], [], M38⟩ ⟨Nat.zero_le _, Nat.le_refl _, hT0, Sl.nil, rfl, (fun r h => by cases h), (fun j t h => by simp at h)⟩ (kp 0 rfl (kp 3 rfl (kp 5 rfl (kp 6 rfl (kp 7 rfl kn))))) .rfl (fun _ h => h) ?_
        rintro ⟨i, ts, vm, rows, B, MT⟩ ⟨hi, hl, hT, hsl, hrw⟩
        dsimp only at hi hl hT hsl hrw ⊢
        have hnT := hT
        obtain ⟨_, _, _, _, _, _, _, _, _, _, _, hts, hnd⟩ := hnT
        haveI := hsl.cel
        refine XC.seq ?_
        refine XC.reg ?_
        refine XL.q (q_move rfl) rfl ?_
        refine XL.q (q_move rfl) rfl ?_
        refine XL.q (q_lenV2 (sz := 4) rfl (by kernel_rfl) hrl) rfl ?_
        refine XL.q (q_bin rfl rfl rfl) rfl ?_
        refine XL.fin (kp 0 rfl (kp 3 rfl (kp 5 rfl (kp 6 rfl (kp 7 rfl (kp 42 rfl kn)))))) ?_
        refine XC.cond rfl (fun hc => ?_) (fun hc => ?_)
        ·
          have hlt : i < ls.length := by simp at hc; omega
          obtain ⟨vo, hrow, hvo⟩ := hlr.at _ hlt
          have hti := hli _ (List.getElem_mem hlt)
          haveI := hti.text
          haveI := hvo.cel
          have hmx : maxLen < 9223372036854775808 := by unfold maxLen; omega
          have hol := hti.ofl
          have htl := hti.tl
          refine XC.skip ?_
          refine nx (kp 0 rfl (kp 3 rfl (kp 5 rfl (kp 6 rfl (kp 7 rfl kn))))) ?_
          refine XC.seq ?_
          refine XC.block ?_
          refine XC.seq ?_
          refine XC.reg ?_
          refine XL.q (q_move rfl) rfl ?_
          refine XL.q (q_move rfl) rfl ?_
          refine XL.q (q_atV2 (sz := 4) rfl rfl (by kernel_rfl) rfl hrl hlt) rfl ?_
          refine XL.q (q_fldV (off := 1) rfl hrl hlt (by kernel_rfl)) rfl ?_
          refine XL.q (q_ldVF (u := vo) rfl (Rd.mono hrl SubC.sub) (by omega) (by kernel_rfl) (hlr.get hrow (k := 1) (by decide))) rfl ?_
          refine XL.q (q_lenV2 (sz := 1) rfl (by kernel_rfl) hvo) rfl ?_
          refine XL.q (q_bin rfl rfl rfl) rfl ?_
          refine XL.q (q_move rfl) rfl ?_
          refine XL.split (t := 52) rfl (fun hb => ?_) (fun hb => ?_)
          ·
            refine XL.gn rfl rfl rfl rfl ?_
            refine XL.gn rfl rfl rfl rfl ?_
            refine XL.gn rfl rfl rfl rfl ?_
            refine XL.gn rfl rfl rfl rfl ?_
            refine XL.gn rfl rfl rfl rfl ?_
            refine XL.gn rfl rfl rfl rfl ?_
            refine XL.gn rfl rfl rfl rfl ?_
            refine XL.q (q_pickT rfl rfl) rfl ?_
            refine XL.fin (kp 0 rfl (kp 3 rfl (kp 5 rfl (kp 6 rfl (kp 7 rfl (kp 60 rfl kn)))))) ?_
            refine XC.condT rfl ?_
            refine XC.reg ?_
            refine XL.q (q_assign rfl) rfl ?_
            refine XL.fin (kp 4 rfl kn) ?_
            refine XC.ret ?_
            refine tr ?_
            refine br ?_
            refine tr ?_
            refine rr ?_
            refine br ?_
            refine tr ?_
            exact ⟨_, [], [], res1 rfl rfl, List.nil_sublist _, by simp, rfl, rfl, rfl⟩
          ·
            have hio : ls[i].of.length ≤ 20 := by simp at hb; omega
            refine XL.gy rfl rfl (OpQ.opL (q_move rfl) rfl ?_)
            refine XL.gy rfl rfl (OpQ.opL (q_move rfl) rfl ?_)
            refine XL.gy rfl rfl (OpQ.opL (q_atV2 (sz := 4) rfl rfl (by kernel_rfl) rfl hrl hlt) rfl ?_)
            refine XL.gy rfl rfl (OpQ.opL (q_fldV (off := 2) rfl hrl hlt (by kernel_rfl)) rfl ?_)
            refine XL.gy rfl rfl (OpQ.opL (q_ldVF (u := .string (txt ls[i].text)) rfl (Rd.mono hrl SubC.sub) (by omega) (by kernel_rfl) (hlr.get hrow (k := 2) (by decide))) rfl ?_)
            refine XL.gy rfl rfl (OpQ.opL (q_sLen rfl rfl (by kernel_rfl)) rfl ?_)
            refine XL.gy rfl rfl (OpQ.opL (q_bin rfl rfl rfl) rfl ?_)
            refine XL.q (q_pickF rfl rfl) rfl ?_
            refine XL.fin (kp 0 rfl (kp 3 rfl (kp 5 rfl (kp 6 rfl (kp 7 rfl (kp 60 rfl kn)))))) ?_
            refine XC.cond rfl (fun hc => ?_) (fun hc => ?_)
            ·
              refine XC.reg ?_
              refine XL.q (q_assign rfl) rfl ?_
              refine XL.fin (kp 4 rfl kn) ?_
              refine XC.ret ?_
              refine tr ?_
              refine br ?_
              refine tr ?_
              refine rr ?_
              refine br ?_
              refine tr ?_
              exact ⟨_, [], [], res1 rfl rfl, List.nil_sublist _, by simp, rfl, rfl, rfl⟩
            ·
              have hit : ls[i].text.length ≤ 200 := by simp at hc; omega
              have hto : Tmo ls[i] := hti.to hio hit
              refine XC.skip ?_
              refine nx (kp 0 rfl (kp 3 rfl (kp 5 rfl (kp 6 rfl (kp 7 rfl kn))))) ?_
              refine XC.reg ?_
              refine XL.q (q_assign rfl) rfl ?_
              refine XL.fin (kp 0 rfl (kp 3 rfl (kp 5 rfl (kp 6 rfl (kp 7 rfl (kp 8 rfl kn)))))) ?_
              refine XC.seq ?_
              refine XC.reg ?_
              refine XL.q (q_assign rfl) rfl ?_
              refine XL.fin (kp 0 rfl (kp 3 rfl (kp 5 rfl (kp 6 rfl (kp 7 rfl (kp 8 rfl (kp 9 rfl kn))))))) ?_
              refine XC.block ?_
              refine XC.loop (α := Nat) (fun k => [(0, vl), (3, .pointer (some ⟨b3, 0, none⟩)), (5, .pointer (some ⟨bt, 0, none⟩)), (6, vm), (7, .int .i64 (i : Int)), (8, .int .i64 (fnd ts ls[i] k)), (9, .int .i64 (k : Int))]) (fun s => B ++ (MT ++ [(b3, blk (tmc x.kind vx x.text x.n) 62)])) (fun _ => []) (fun k => k ≤ ts.length) (fun k => ts.length - k) 0 (Nat.zero_le _) (kp 0 rfl (kp 3 rfl (kp 5 rfl (kp 6 rfl (kp 7 rfl (kp 8 (by rw [fnd_0]; rfl) (kp 9 rfl kn))))))) .rfl (fun _ h => h) ?_
              rintro k hk
              refine XC.seq ?_
              refine XC.reg ?_
              refine XL.q (q_move rfl) rfl ?_
              refine XL.q (q_move rfl) rfl ?_
              refine XL.q (q_lenV2 (sz := 4) rfl (by kernel_rfl) (hsl.rd fun _ h => h)) rfl ?_
              refine XL.q (q_bin rfl rfl rfl) rfl ?_
              refine XL.fin (kp 0 rfl (kp 3 rfl (kp 5 rfl (kp 6 rfl (kp 7 rfl (kp 8 rfl (kp 9 rfl (kp 64 rfl kn)))))))) ?_
              refine XC.cond rfl (fun hc => ?_) (fun hc => ?_)
              ·
                have hkl : k < ts.length := by simp at hc; omega
                obtain ⟨vk, hrk, hvk⟩ := hrw.at _ hkl
                have htk := hts _ (List.getElem_mem hkl)
                haveI := hvk.cel
                refine XC.skip ?_
                refine nx (kp 0 rfl (kp 3 rfl (kp 5 rfl (kp 6 rfl (kp 7 rfl (kp 8 rfl (kp 9 rfl kn))))))) ?_
                refine XC.seq ?_
                refine XC.block ?_
                refine XC.drawF [0, 1, 2, 3, 4, 5, 6, 7, 8] [(0, 0), (1, 0), (2, 0), (3, 1), (4, 0), (5, 0), (6, 0), (7, 1), (8, 2)] (by kernel_rfl) (by kernel_rfl) fun hs => ?_
                refine XF.q hs rfl (q_move rfl) rfl ?_
                refine XF.q hs rfl (q_move rfl) rfl ?_
                refine XF.q hs rfl (q_atV2 (sz := 4) rfl rfl (by kernel_rfl) rfl (hsl.rd fun _ h => h) hkl) rfl ?_
                refine XF.r hs rfl (q_ldVR rfl (by kernel_rfl) (hsl.rd SubC.sub) hrw.2.1 (by decide) hrk) rfl ?_
                refine XF.q hs rfl (q_move rfl) rfl ?_
                refine XF.q hs rfl (q_move rfl) rfl ?_
                refine XF.q hs rfl (q_atV2 (sz := 4) rfl rfl (by kernel_rfl) rfl hrl hlt) rfl ?_
                refine XF.r hs rfl (q_ldVR rfl (by kernel_rfl) (Rd.mono hrl SubC.sub) hlr.2.1 (by decide) hrow) rfl ?_
                refine XF.callV rfl (aS rfl (aS rfl a0)) (by kernel_rfl) (same_spec vk vo ts[k] ls[i] _ (hvk.mono SubC.sub) (hvo.mono SubC.sub) htk hto) rfl ?_
                refine XF.fin (kp 0 rfl (kp 3 rfl (kp 5 rfl (kp 6 rfl (kp 7 rfl (kp 8 rfl (kp 9 rfl (kp 75 rfl kn)))))))) ?_
                refine XC.cond rfl (fun hc => ?_) (fun hc => ?_)
                ·
                  refine XC.reg1 ?_
                  refine XL.q (q_move rfl) rfl ?_
                  refine XL.q (q_assign rfl) rfl ?_
                  refine XL.nil ?_
                  refine nb ?_
                  refine nx (kp 0 rfl (kp 3 rfl (kp 5 rfl (kp 6 rfl (kp 7 rfl (kp 8 rfl (kp 9 rfl kn))))))) ?_
                  refine XC.reg1 ?_
                  refine XL.q (q_move rfl) rfl ?_
                  refine XL.q (q_addI (b := 1) rfl rfl rfl rfl (by omega)) rfl ?_
                  refine XL.q (q_assign rfl) rfl ?_
                  refine XL.nil ?_
                  exact rn (k + 1) (by omega) (by omega) (kp 0 rfl (kp 3 rfl (kp 5 rfl (kp 6 rfl (kp 7 rfl (kp 8 (by rw [fnd_T hts hnd hkl hc]; rfl) (kp 9 rfl kn))))))) .rfl (fun _ h => h)
                ·
                  refine XC.skip ?_
                  refine nb ?_
                  refine nx (kp 0 rfl (kp 3 rfl (kp 5 rfl (kp 6 rfl (kp 7 rfl (kp 8 rfl (kp 9 rfl kn))))))) ?_
                  refine XC.reg1 ?_
                  refine XL.q (q_move rfl) rfl ?_
                  refine XL.q (q_addI (b := 1) rfl rfl rfl rfl (by omega)) rfl ?_
                  refine XL.q (q_assign rfl) rfl ?_
                  refine XL.nil ?_
                  exact rn (k + 1) (by omega) (by omega) (kp 0 rfl (kp 3 rfl (kp 5 rfl (kp 6 rfl (kp 7 rfl (kp 8 (by rw [fnd_F hto hts hkl hc]; rfl) (kp 9 rfl kn))))))) .rfl (fun _ h => h)
              ·
                have hke : k = ts.length := by simp at hc; omega
                subst hke
                refine XC.exit ?_
                refine te ?_
                refine re ?_
                refine be rfl ?_
                refine nx (kp 0 rfl (kp 3 rfl (kp 5 rfl (kp 6 rfl (kp 7 rfl (kp 8 rfl kn)))))) ?_
                refine XC.join (α := Value × List (List Value) × Mem) (fun q => [(0, vl), (3, .pointer (some ⟨b3, 0, none⟩)), (5, .pointer (some ⟨bt, 0, none⟩)), (6, q.1), (7, .int .i64 (i : Int)), (8, .int .i64 ((at_ ts ls[i] : Nat) : Int))]) (fun q => q.2.2 ++ (MT ++ [(b3, blk (tmc x.kind vx x.text x.n) 62)])) (fun _ => []) (fun q => Sl 4 q.1 (add ts ls[i]).length q.2.1.flatten q.2.2 ∧ Rws A q.2.1 (add ts ls[i])) ?_ ?_
                ·
                  refine XC.reg ?_
                  refine XL.q (q_move rfl) rfl ?_
                  refine XL.q (q_bin rfl rfl rfl) rfl ?_
                  refine XL.fin (kp 0 rfl (kp 3 rfl (kp 5 rfl (kp 6 rfl (kp 7 rfl (kp 8 rfl (kp 78 rfl kn))))))) ?_
                  refine XC.cond rfl (fun hc => ?_) (fun hc => ?_)
                  ·
                    have hpn : pos ts ls[i] = none := fnd_neg (by simpa using hc)
                    have hadd : add ts ls[i] = ts ++ [ls[i]] := by unfold add; rw [hpn]; rfl
                    have hat_ : at_ ts ls[i] = ts.length := by unfold at_; rw [hpn]; rfl
                    refine XC.reg ?_
                    refine XL.q (q_move rfl) rfl ?_
                    refine XL.q (q_lenV2 (sz := 4) rfl (by kernel_rfl) (hsl.rd fun _ h => h)) rfl ?_
                    refine XL.q (q_assign rfl) rfl ?_
                    refine XL.fin (kp 0 rfl (kp 3 rfl (kp 5 rfl (kp 6 rfl (kp 7 rfl (kp 8 rfl kn)))))) ?_
                    refine XC.reg1 ?_
                    refine XL.q (q_move rfl) rfl ?_
                    refine XL.q (q_move rfl) rfl ?_
                    refine XL.q (q_move rfl) rfl ?_
                    refine XL.q (q_atV2 (sz := 4) rfl rfl (by kernel_rfl) rfl hrl hlt) rfl ?_
                    refine XL.q (q_ldVR rfl (by kernel_rfl) (Rd.mono hrl SubC.sub) hlr.2.1 (by decide) hrow) rfl ?_
                    refine XL.lo rfl (l_buildSlice (e := 62) (sz := 4) (z := [.int .u8 0, .slice none 0 0, .string ByteArray.empty, .int .i64 0]) (by kernel_rfl) (eS rfl e0) (.cons rfl rfl (by rfl) (SetR.all (by rfl)) .nil) rfl fun b86 => ?_)
                    refine XL.lo rfl (l_append2 (e := 62) (sz := 4) (by_ := 56) rfl rfl (by kernel_rfl) rfl hsl (Rd.whole (n := 1) At.mem (by rfl)) (by intro c hc; simp only [List.mem_cons, List.not_mem_nil, or_false] at hc; rcases hc with rfl | rfl | rfl | rfl <;> first | rfl | exact hvo.one) PickC.perm (by unfold maxLen; omega) (by omega) rfl fun v87 B87 hs87 => ?_)
                    refine XL.q (q_assign rfl) rfl ?_
                    refine XL.nil ?_
                    exact jn ⟨v87, rows ++ [tmc ls[i].kind vo ls[i].text ls[i].n], B87⟩ ⟨by rw [hadd, List.length_append, show (rows ++ [tmc ls[i].kind vo ls[i].text ls[i].n]).flatten = rows.flatten ++ tmc ls[i].kind vo ls[i].text ls[i].n by simp]; exact hs87, by rw [hadd]; exact hrw.snoc hvo⟩ (kp 0 rfl (kp 3 rfl (kp 5 rfl (kp 6 rfl (kp 7 rfl (kp 8 (by rw [hat_]; rfl) kn)))))) (Fit.pick PickC.perm (Fit.pick PickC.perm (Fit.last PickC.perm))) (fun _ h => by cases h)
                  ·
                    obtain ⟨j, hpj, hfj⟩ := fnd_pos (ts := ts) (t := ls[i]) (by simpa using hc)
                    have hadd : add ts ls[i] = ts := by unfold add; rw [hpj]; rfl
                    have hat_ : at_ ts ls[i] = j := by unfold at_; rw [hpj]; rfl
                    refine XC.skip ?_
                    exact jn ⟨vm, rows, B⟩ ⟨by rw [hadd]; exact hsl, by rw [hadd]; exact hrw⟩ (kp 0 rfl (kp 3 rfl (kp 5 rfl (kp 6 rfl (kp 7 rfl (kp 8 (by rw [hat_]; exact congrArg (fun z => some (Value.int .i64 z)) hfj) kn)))))) .rfl (fun _ h => h)
                ·
                  rintro ⟨vm2, rows2, B2⟩ ⟨hsl2, hrw2⟩
                  dsimp only at hsl2 hrw2 ⊢
                  haveI := hsl2.cel
                  refine XC.reg ?_
                  refine XL.q (q_move rfl) rfl ?_
                  refine XL.q (q_move rfl) rfl ?_
                  refine XL.q (q_move rfl) rfl ?_
                  refine XL.q (q_atV2 (sz := 4) rfl rfl (by kernel_rfl) rfl hrl hlt) rfl ?_
                  refine XL.q (q_ldVR rfl (by kernel_rfl) (Rd.mono hrl SubC.sub) hlr.2.1 (by decide) hrow) rfl ?_
                  refine XL.lo rfl (l_call (Mc := MT) (R := _) (aS rfl (aS rfl a0)) (by kernel_rfl) PickC.perm (putT_spec bt bm ts vo ls[i] MT _ hT (by omega) (hvo.mono SubC.sub) hto (SubC.sub _ h4)) rfl ?_)
                  rintro v93 M93 J93 ⟨rfl, rfl, hT93⟩
                  refine XL.q (q_move rfl) rfl ?_
                  refine XL.q (q_bin (v := .bool false) rfl rfl (by simp [arith])) rfl ?_
                  refine XL.q (q_move rfl) rfl ?_
                  refine XL.gy rfl rfl (OpQ.opL (q_move rfl) rfl ?_)
                  refine XL.callVg rfl rfl (aS rfl a0) (by kernel_rfl) (lenT_spec bt bm (add ts ls[i]) M93 _ hT93 SubC.sub) rfl ?_
                  refine XL.gy rfl rfl (OpQ.opL (q_move rfl) rfl ?_)
                  refine XL.gy rfl rfl (OpQ.opL (q_lenV2 (sz := 4) rfl (by kernel_rfl) (hsl2.rd fun _ h => h)) rfl ?_)
                  refine XL.gy rfl rfl (OpQ.opL (q_bin (v := .bool false) rfl rfl (by simp [arith])) rfl ?_)
                  refine XL.q (q_pickF rfl rfl) rfl ?_
                  refine XL.fin (kp 0 rfl (kp 3 rfl (kp 5 rfl (kp 6 rfl (kp 7 rfl (kp 102 rfl kn)))))) ?_
                  refine XC.condF rfl ?_
                  refine XC.skip ?_
                  refine nb ?_
                  refine nx (kp 0 rfl (kp 3 rfl (kp 5 rfl (kp 6 rfl (kp 7 rfl kn))))) ?_
                  refine XC.reg1 ?_
                  refine XL.q (q_move rfl) rfl ?_
                  refine XL.q (q_addI (b := 1) rfl rfl rfl rfl (by omega)) rfl ?_
                  refine XL.q (q_assign rfl) rfl ?_
                  refine XL.nil ?_
                  exact rn ⟨i + 1, add ts ls[i], vm2, rows2, B2, M93⟩ ⟨by dsimp only; omega, by dsimp only; have := add_len (ts := ts) (t := ls[i]); omega, hT93, hsl2, hrw2⟩ (by dsimp only; omega) (kp 0 rfl (kp 3 rfl (kp 5 rfl (kp 6 rfl (kp 7 rfl kn))))) (Fit.pick PickC.perm (Fit.pick PickC.perm (Fit.last PickC.perm))) (fun _ h => by cases h)
        ·
          refine XC.exit ?_
          refine te ?_
          refine re ?_
          refine be rfl ?_
          refine nx (kp 3 rfl (kp 5 rfl (kp 6 rfl kn))) ?_
          refine XC.reg ?_
          refine XL.q (q_assign rfl) rfl ?_
          refine XL.fin (kp 3 rfl (kp 5 rfl (kp 6 rfl (kp 10 rfl kn)))) ?_
          refine XC.seq ?_
          refine XC.reg ?_
          refine XL.q (q_assign rfl) rfl ?_
          refine XL.fin (kp 3 rfl (kp 5 rfl (kp 6 rfl (kp 10 rfl (kp 11 rfl kn))))) ?_
          refine XC.block ?_
          refine XC.loop (α := Nat) (fun k => [(3, .pointer (some ⟨b3, 0, none⟩)), (5, .pointer (some ⟨bt, 0, none⟩)), (6, vm), (10, .int .i64 (fnd ts x k)), (11, .int .i64 (k : Int))]) (fun s => B ++ (MT ++ [(b3, blk (tmc x.kind vx x.text x.n) 62)])) (fun _ => []) (fun k => k ≤ ts.length) (fun k => ts.length - k) 0 (Nat.zero_le _) (kp 3 rfl (kp 5 rfl (kp 6 rfl (kp 10 (by rw [fnd_0]; rfl) (kp 11 rfl kn))))) .rfl (fun _ h => h) ?_
          rintro k hk
          refine XC.seq ?_
          refine XC.reg ?_
          refine XL.q (q_move rfl) rfl ?_
          refine XL.q (q_move rfl) rfl ?_
          refine XL.q (q_lenV2 (sz := 4) rfl (by kernel_rfl) (hsl.rd fun _ h => h)) rfl ?_
          refine XL.q (q_bin rfl rfl rfl) rfl ?_
          refine XL.fin (kp 3 rfl (kp 5 rfl (kp 6 rfl (kp 10 rfl (kp 11 rfl (kp 106 rfl kn)))))) ?_
          refine XC.cond rfl (fun hc => ?_) (fun hc => ?_)
          ·
            have hkl : k < ts.length := by simp at hc; omega
            obtain ⟨vk, hrk, hvk⟩ := hrw.at _ hkl
            have htk := hts _ (List.getElem_mem hkl)
            haveI := hvk.cel
            refine XC.skip ?_
            refine nx (kp 3 rfl (kp 5 rfl (kp 6 rfl (kp 10 rfl (kp 11 rfl kn))))) ?_
            refine XC.seq ?_
            refine XC.block ?_
            refine XC.reg ?_
            refine XL.q (q_move rfl) rfl ?_
            refine XL.q (q_move rfl) rfl ?_
            refine XL.call (aS rfl (aS rfl a0)) (by kernel_rfl) (getT_spec bt bm ts (k : Int) MT _ hT SubC.sub) rfl ?_
            rintro v112 M112 J112 ⟨rfl, rfl, c112, ok112, rfl, hg, -⟩
            obtain ⟨rfl, t112, ht112, vy, rfl, hvy⟩ := hg ⟨by omega, by omega⟩
            obtain rfl : ts[k] = t112 := by simpa [hkl] using ht112
            haveI := hvy.cel
            refine XL.q (q_move rfl) rfl ?_
            refine XL.q (q_x0 rfl) rfl ?_
            refine XL.q (q_x1 rfl) rfl ?_
            refine XL.lo rfl (l_alloc (cs := [.int .u8 0, .slice none 0 0, .string ByteArray.empty, .int .i64 0]) (by kernel_rfl) rfl fun b12 => ?_)
            refine XL.lo rfl (l_storeW rfl rfl rfl (by kernel_rfl) (by rfl) (by intro c hc; simp only [List.mem_cons, List.not_mem_nil, or_false] at hc; rcases hc with rfl | rfl | rfl | rfl <;> first | rfl | exact hvy.one) UpC.upd ?_)
            refine XL.q (q_assign rfl) rfl ?_
            refine XL.fin (kp 3 rfl (kp 5 rfl (kp 6 rfl (kp 10 rfl (kp 11 rfl (kp 12 rfl (kp 13 rfl kn))))))) ?_
            refine XC.seq ?_
            refine XC.drawF [0, 1, 2, 3, 4, 5, 6, 7, 8, 9, 10] [(0, 0), (1, 0), (2, 0), (3, 1), (4, 0), (5, 0), (6, 0), (7, 1), (8, 2), (9, 0), (10, 0)] (by kernel_rfl) (by kernel_rfl) fun hs => ?_
            refine XF.q hs rfl (q_move rfl) rfl ?_
            refine XF.q hs rfl (q_not rfl) rfl ?_
            refine XF.q hs rfl (q_move rfl) rfl ?_
            refine XF.rg hs rfl rfl rfl rfl (q_loadW (n := 4) rfl (by kernel_rfl) (by first | exact At.mem | exact mA (by assumption)) (by rfl)) rfl ?_
            refine XF.qg hs rfl rfl rfl rfl (q_move rfl) rfl ?_
            refine XF.qg hs rfl rfl rfl rfl (q_move rfl) rfl ?_
            refine XF.qg hs rfl rfl rfl rfl (q_atV2 (sz := 4) rfl rfl (by kernel_rfl) rfl (hsl.rd fun _ h => h) hkl) rfl ?_
            refine XF.rg hs rfl rfl rfl rfl (q_ldVR rfl (by kernel_rfl) (hsl.rd SubC.sub) hrw.2.1 (by decide) hrk) rfl ?_
            refine XF.callVg rfl rfl rfl rfl (aS rfl (aS rfl a0)) (by kernel_rfl) (same_spec vy vk ts[k] ts[k] _ (hvy.mono SubC.sub) (hvk.mono SubC.sub) htk htk) rfl ?_
            rw [tmEq_iff.2 rfl]
            refine XF.qg hs rfl rfl rfl rfl (q_not rfl) rfl ?_
            refine XF.q hs rfl (q_pickF rfl rfl) rfl ?_
            refine XF.fin (kp 3 rfl (kp 5 rfl (kp 6 rfl (kp 10 rfl (kp 11 rfl (kp 125 rfl kn)))))) ?_
            refine XC.condF rfl ?_
            refine XC.skip ?_
            refine nx (kp 3 rfl (kp 5 rfl (kp 6 rfl (kp 10 rfl (kp 11 rfl kn))))) ?_
            refine XC.drawF [0, 1, 2, 3, 4, 5] [(0, 0), (1, 0), (2, 0), (3, 1), (4, 1), (5, 2)] (by kernel_rfl) (by kernel_rfl) fun hs => ?_
            refine XF.q hs rfl (q_move rfl) rfl ?_
            refine XF.q hs rfl (q_move rfl) rfl ?_
            refine XF.q hs rfl (q_atV2 (sz := 4) rfl rfl (by kernel_rfl) rfl (hsl.rd fun _ h => h) hkl) rfl ?_
            refine XF.r hs rfl (q_ldVR rfl (by kernel_rfl) (hsl.rd SubC.sub) hrw.2.1 (by decide) hrk) rfl ?_
            refine XF.r hs rfl (q_loadW (n := 4) rfl (by kernel_rfl) (by first | exact At.mem | exact mA (by assumption)) (by rfl)) rfl ?_
            refine XF.callV rfl (aS rfl (aS rfl a0)) (by kernel_rfl) (same_spec vk vx ts[k] x _ (hvk.mono SubC.sub) (hrx.mono SubC.sub) htk hx) rfl ?_
            refine XF.fin (kp 3 rfl (kp 5 rfl (kp 6 rfl (kp 10 rfl (kp 11 rfl (kp 131 rfl kn)))))) ?_
            refine XC.cond rfl (fun hc => ?_) (fun hc => ?_)
            ·
              refine XC.reg1 ?_
              refine XL.q (q_move rfl) rfl ?_
              refine XL.q (q_assign rfl) rfl ?_
              refine XL.nil ?_
              refine nb ?_
              refine nx (kp 3 rfl (kp 5 rfl (kp 6 rfl (kp 10 rfl (kp 11 rfl kn))))) ?_
              refine XC.reg1 ?_
              refine XL.q (q_move rfl) rfl ?_
              refine XL.q (q_addI (b := 1) rfl rfl rfl rfl (by omega)) rfl ?_
              refine XL.q (q_assign rfl) rfl ?_
              refine XL.nil ?_
              exact rn (k + 1) (by omega) (by omega) (kp 3 rfl (kp 5 rfl (kp 6 rfl (kp 10 (by rw [fnd_T hts hnd hkl hc]; rfl) (kp 11 rfl kn))))) (Fit.pick PickC.perm (Fit.pick PickC.perm (Fit.last PickC.perm))) (fun _ h => by cases h)
            ·
              refine XC.skip ?_
              refine nb ?_
              refine nx (kp 3 rfl (kp 5 rfl (kp 6 rfl (kp 10 rfl (kp 11 rfl kn))))) ?_
              refine XC.reg1 ?_
              refine XL.q (q_move rfl) rfl ?_
              refine XL.q (q_addI (b := 1) rfl rfl rfl rfl (by omega)) rfl ?_
              refine XL.q (q_assign rfl) rfl ?_
              refine XL.nil ?_
              exact rn (k + 1) (by omega) (by omega) (kp 3 rfl (kp 5 rfl (kp 6 rfl (kp 10 (by rw [fnd_F hx hts hkl hc]; rfl) (kp 11 rfl kn))))) (Fit.pick PickC.perm (Fit.pick PickC.perm (Fit.last PickC.perm))) (fun _ h => by cases h)
          ·
            have hke : k = ts.length := by simp at hc; omega
            subst hke
            refine XC.exit ?_
            refine te ?_
            refine re ?_
            refine be rfl ?_
            refine nx (kp 3 rfl (kp 5 rfl (kp 6 rfl (kp 10 rfl kn)))) ?_
            refine XC.reg ?_
            refine XL.q (q_move rfl) rfl ?_
            refine XL.q (q_loadW (n := 4) rfl (by kernel_rfl) (by first | exact At.mem | exact mA (by assumption)) (by rfl)) rfl ?_
            refine XL.callV (aS rfl (aS rfl a0)) (by kernel_rfl) (findT_spec bt bm ts vx x MT _ hT SubC.sub (hrx.mono SubC.sub) hx (SubC.sub _ h4)) rfl ?_
            refine XL.q (q_move rfl) rfl ?_
            refine XL.q (q_x0 rfl) rfl ?_
            refine XL.q (q_x1 rfl) rfl ?_
            refine XL.q (q_assign rfl) rfl ?_
            refine XL.q (q_assign rfl) rfl ?_
            refine XL.fin (kp 5 rfl (kp 6 rfl (kp 10 rfl (kp 14 rfl (kp 15 rfl kn))))) ?_
            refine XC.reg ?_
            refine XL.q (q_move rfl) rfl ?_
            refine XL.q (q_move rfl) rfl ?_
            refine XL.q (q_lenV2 (sz := 4) rfl (by kernel_rfl) (hsl.rd fun _ h => h)) rfl ?_
            refine XL.call (aS rfl (aS rfl a0)) (by kernel_rfl) (getT_spec bt bm ts ((ts.length : Nat) : Int) MT _ hT SubC.sub) rfl ?_
            rintro v143 M143 J143 ⟨rfl, rfl, c143, ok143, rfl, -, hg⟩
            obtain ⟨rfl, rfl⟩ := hg (by omega)
            refine XL.q (q_move rfl) rfl ?_
            refine XL.q (q_x0 rfl) rfl ?_
            refine XL.q (q_x1 rfl) rfl ?_
            refine XL.lo rfl (l_alloc (cs := [.int .u8 0, .slice none 0 0, .string ByteArray.empty, .int .i64 0]) (by kernel_rfl) rfl fun b16 => ?_)
            refine XL.lo rfl (l_storeW rfl rfl Cel.cel (by kernel_rfl) (lnS (lnS (lnS (lnS (ln0))))) (allS rfl (allS rfl (allS rfl (allS rfl (all0))))) UpC.upd ?_)
            refine XL.q (q_assign rfl) rfl ?_
            refine XL.fin (kp 10 rfl (kp 14 rfl (kp 15 rfl (kp 17 rfl kn)))) ?_
            refine XC.reg ?_
            refine XL.q (q_move rfl) rfl ?_
            refine XL.q (q_move rfl) rfl ?_
            refine XL.q (q_bin rfl rfl rfl) rfl ?_
            refine XL.q (q_boolEq rfl rfl (by kernel_rfl)) rfl ?_
            rw [show ((pos ts x).isSome == decide (fnd ts x ts.length ≥ 0)) = true by rw [fnd_end]; cases pos ts x with | none => rfl | some j => simp]
            refine XL.q (q_move rfl) rfl ?_
            refine XL.gy rfl rfl (OpQ.opL (q_move rfl) rfl ?_)
            refine XL.gy rfl rfl (OpQ.opL (q_not rfl) rfl ?_)
            refine XL.gy rfl rfl (OpQ.opL (q_move rfl) rfl ?_)
            refine XL.split (t := 153) rfl (fun hb => ?_) (fun hb => ?_)
            ·
              refine XL.gn rfl rfl rfl rfl ?_
              refine XL.gn rfl rfl rfl rfl ?_
              refine XL.gn rfl rfl rfl rfl ?_
              refine XL.gy rfl rfl (OpQ.opL (q_pickT rfl rfl) rfl ?_)
              refine XL.q (q_pickT rfl rfl) rfl ?_
              refine XL.q (q_move rfl) rfl ?_
              refine XL.gy rfl rfl (OpQ.opL (q_move rfl) rfl ?_)
              refine XL.gy rfl rfl (OpQ.opL (q_not rfl) rfl ?_)
              refine XL.q (q_pickT rfl rfl) rfl ?_
              refine XL.q (q_assign rfl) rfl ?_
              refine XL.fin (kp 4 rfl kn) ?_
              refine XC.ret ?_
              exact ⟨_, [], [], res1 rfl rfl, List.nil_sublist _, by simp, rfl, rfl, rfl⟩
            ·
              have hsm : (pos ts x).isSome = true := by simpa using hb
              obtain ⟨j, hj⟩ := Option.isSome_iff_exists.1 hsm
              refine XL.gy rfl rfl (OpQ.opL (q_move rfl) rfl ?_)
              refine XL.gy rfl rfl (OpQ.opL (q_move rfl) rfl ?_)
              refine XL.gy rfl rfl (OpQ.opL (q_bin (v := .bool true) rfl rfl (by simp only [arith]; rw [fnd_end, hj]; simp)) rfl ?_)
              refine XL.gy rfl rfl (OpQ.opL (q_pickF rfl rfl) rfl ?_)
              refine XL.q (q_pickT rfl rfl) rfl ?_
              refine XL.q (q_move rfl) rfl ?_
              refine XL.gy rfl rfl (OpQ.opL (q_move rfl) rfl ?_)
              refine XL.gy rfl rfl (OpQ.opL (q_not rfl) rfl ?_)
              refine XL.q (q_pickT rfl rfl) rfl ?_
              refine XL.q (q_assign rfl) rfl ?_
              refine XL.fin (kp 4 rfl kn) ?_
              refine XC.ret ?_
              exact ⟨_, [], [], res1 rfl rfl, List.nil_sublist _, by simp, rfl, rfl, rfl⟩
