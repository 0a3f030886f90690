/- The card of the law KeysMeets: it returns true for every input; each argument reads behind the call as it read before; the listed package variables are tied to the program's text. No further condition. -/
import Derived.Test.YtphcaiplgpmnnaaGreatDoorB18
import Derived.Lib.LaidTab
import Derived.Stop.LaidErr
import Derived.MakeChecks
import Derived.Test.YtphcaiplgpmnnaaGreatDoorCards
import Derived.Test.YtphcaiplgpmnnaaGreatDoorTie
import Derived.Deep.DeepHandedRow
import Derived.Deep.DeepWitnessRowRef
import Derived.Lay
import Derived.LaidMore
set_option linter.unusedVariables false
set_option linter.unusedSimpArgs false
set_option maxRecDepth 100000
namespace Go.Proofs.YtphcaiplgpmnnaaGreatDoor
open Go.Px
theorem freshK_le (s : Ps) : (freshK s).length ≤ 32 := by
  unfold freshK
  split
  · exact expand_le _ _ _
  · rw [show (bts ((at_ s.ts (atom (s.n + 1)) : Nat) : Int)).length = 32 from btk_len _ (by decide)]; decide
theorem sgK2_le (s : Ps) (w m : List Nat) : (sgK2 s w m).length = 64 := by
  unfold sgK2
  split
  · exact sigB_len _ _
  · exact fitN_len _ _
theorem turnP_ok (k : Ks) (s : Ps) (hn : k.next < 4294967296) : PrOk (turnP k s) := ⟨hn, by have := freshK_le s; show (freshK s).length ≤ _; omega, by show (sgK2 _ _ _).length ≤ _; rw [sgK2_le]; decide⟩
theorem KsOk.turn {k : Ks} (h : KsOk k) (s : Ps) (hn : k.next + 1 < 4294967296) : KsOk (turnK k s).1 := by
  refine ⟨h.user, h.dev, h.agree, h.sign, ⟨List.length_take_le _ _, fun x hx => ?_⟩, h.once, hn, ⟨Nat.lt_of_le_of_lt (List.length_filter_le _ _) h.met.1, fun x hx => h.met.2 x (List.mem_filter.1 hx).1⟩⟩
  rcases List.mem_cons.1 (List.mem_of_mem_take hx) with rfl | h1
  · exact turnP_ok k s (by omega)
  · exact h.signed.2 x h1
theorem fillI_ok {k : Ks} (s : Ps) (h : ∀ x ∈ k.once, PrOk x) : ∀ i, k.next + i < 4294967296 → ∀ x ∈ (fillI k s i).1.once, PrOk x
  | 0, _, x, hx => h x hx
  | i + 1, hn, x, hx => by
    have e := fillI_next k s i
    rcases List.mem_append.1 (show x ∈ (fillI k s i).1.once ++ [_] from hx) with h1 | h1
    · exact fillI_ok s h i (by omega) x h1
    · rw [List.mem_singleton.1 h1]
      exact ⟨show (fillI k s i).1.next < _ by omega, by have := freshK_le (fillI k s i).2; show (freshK _).length ≤ _; omega, by show 0 ≤ _; omega⟩
theorem KsOk.fill {k : Ks} (h : KsOk k) (s : Ps) (hn : k.next + 4 < 4294967296) : KsOk (fillK k s).1 := by
  have h1 := fillI_ok s h.once.2 (4 - k.once.length) (by omega)
  have h2 := fillI_once k s (4 - k.once.length)
  have h3 := h.once.1
  change (fillK k s).1.once.length = _ at h2
  change ∀ x ∈ (fillK k s).1.once, PrOk x at h1
  rw [fill_eq]
  exact ⟨h.user, h.dev, h.agree, h.sign, h.signed, ⟨by show (fillK k s).1.once.length ≤ 4; omega, h1⟩, by show k.next + _ < _; omega, h.met⟩
theorem KsOk.meet {k : Ks} (h : KsOk k) {n : Nat} {w : List Nat} (hn : n < 4294967296) (hw : w.length ≤ 65536) (hl : k.met.length + 1 < 4294967296) : KsOk (meetK k n w) := by
  unfold meetK
  split
  · refine ⟨h.user, h.dev, h.agree, h.sign, h.signed, h.once, h.next, ⟨by simp; omega, fun x hx => ?_⟩⟩
    rcases List.mem_append.1 hx with h1 | h1
    · exact h.met.2 x h1
    · rw [List.mem_singleton.1 h1]; exact ⟨hn, hw⟩
  · exact h
theorem KsOk.new {u d : Nat} (hu : u < 4294967296) (hd : d < 4294967296) (s : Ps) : KsOk (newK (u : Int) (d : Int) s).1 := by
  have f1 := freshK_le s
  have f2 := freshK_le (freshS s)
  have h0 : KsOk (k0N (u : Int) (d : Int) s) := ⟨⟨u, rfl, hu⟩, ⟨d, rfl, hd⟩, by show (freshK s).length ≤ _; omega, by show (freshK (freshS s)).length ≤ _; omega, ⟨by show 0 ≤ 2; omega, fun x hx => by cases hx⟩, ⟨by show 0 ≤ 4; omega, fun x hx => by cases hx⟩, by show 1 < _; omega, ⟨by show 0 < _; omega, fun x hx => by cases hx⟩⟩
  exact (h0.turn _ (by show 1 + 1 < _; omega)).fill _ (by show 1 + 1 + 4 < _; omega)
/-- Keys behind so many acts: which sessions were begun by a signed prekey alone. -/
structure MeI (i : Nat) (k : Ks) (s : Ps) (sg : List Nat) (l : List (Nat × Nat)) : Prop where
  t : TuI i k s sg [2, 3, 4, 5]
  ok : KsOk k
  ids : ∀ x ∈ k.met, ∃ c, x.id = [c]
  mem : ∀ m c, (∃ x ∈ k.met, x.n = m ∧ x.id = [c]) ↔ (m, c) ∈ l
  sub : ∀ y ∈ l, y.1 ∈ last2 sg
  ml : k.met.length ≤ i
  ll : l.length ≤ i
  who : k.user = 2 ∧ k.dev = 2
theorem met_any {l : List Nm} {n : Nat} {w : List Nat} : (0 ≤ fidxL (tstN n w) l) ↔ ∃ x ∈ l, x.n = n ∧ x.id = w := by
  rcases fidxL_cases (tstN n w) l with ⟨h1, h2⟩ | ⟨i, x, h1, h2, h3, h4⟩
  · rw [h1]
    refine ⟨fun h => absurd h (by decide), fun ⟨x, hx, e1, e2⟩ => ?_⟩
    have := h2 x hx
    simp [tstN, e1, e2] at this
  · rw [h1]
    refine ⟨fun _ => ?_, fun _ => by omega⟩
    simp [tstN] at h3
    exact ⟨x, List.mem_of_getElem? h2, h3.1, h3.2⟩
theorem sg_any {l : List Pr} {n : Nat} : (0 ≤ fidxL (tstP n) l) ↔ n ∈ l.map (·.n) := by
  rcases fidxL_cases (tstP n) l with ⟨h1, h2⟩ | ⟨i, x, h1, h2, h3, h4⟩
  · rw [h1]
    refine ⟨fun h => absurd h (by decide), fun h => ?_⟩
    obtain ⟨x, hx, e⟩ := List.mem_map.1 h
    have := h2 x hx
    simp [tstP, e] at this
  · rw [h1]
    refine ⟨fun _ => List.mem_map.2 ⟨x, List.mem_of_getElem? h2, by simpa [tstP] using h3⟩, fun _ => by omega⟩
/-- What is left of a row where only the last two are. -/
def keepL (sg : List Nat) (l : List (Nat × Nat)) : List (Nat × Nat) := l.filter fun y => decide (y.1 ∈ last2 sg)
theorem MeI.new {m : Nat} : MeI 0 (newK ((2 : Nat) : Int) ((2 : Nat) : Int) (opK m)).1 (newK ((2 : Nat) : Int) ((2 : Nat) : Int) (opK m)).2 [1] [] := by
  have h := new_met ((2 : Nat) : Int) ((2 : Nat) : Int) (opK m)
  exact ⟨TuI.new, KsOk.new (by decide) (by decide) _, (by rw [h]; intro x hx; cases hx), (by rw [h]; intro m c; exact ⟨fun ⟨x, hx, _⟩ => (by cases hx), fun hx => (by cases hx)⟩), (by intro y hy; cases hy), (by rw [h]; exact Nat.le_refl _), Nat.le_refl _, new_who _ _ _⟩
theorem MeI.turn {i : Nat} {k : Ks} {s : Ps} {sg : List Nat} {l : List (Nat × Nat)} (h : MeI i k s sg l) (hi : i < 1000000) : MeI (i + 1) (turnK k s).1 (turnK k s).2 (sg ++ [k.next]) (keepL (sg ++ [k.next]) l) := by
  have ht := h.t.turn
  have hnx := h.t.nx
  have hml := h.ml
  have hsn := ht.sn
  have hmet : ∀ x, x ∈ (turnK k s).1.met ↔ x ∈ k.met ∧ x.n ∈ last2 (sg ++ [k.next]) := fun x => by
    rw [← hsn]
    show x ∈ k.met.filter (fun x => !goneN ((turnP k s :: k.signed).take 2) x) ↔ _
    rw [List.mem_filter]
    unfold goneN
    rw [Bool.not_not, decide_eq_true_iff, sg_any]
    rfl
  have hl : (turnK k s).1.met.length ≤ k.met.length := List.length_filter_le _ _
  refine ⟨ht, h.ok.turn s (by omega), fun x hx => h.ids x ((hmet x).1 hx).1, fun m c => ?_, fun y hy => by simpa using (List.mem_filter.1 hy).2, by omega, Nat.le_trans (List.length_filter_le _ _) (by have := h.ll; omega), h.who⟩
  unfold keepL
  rw [List.mem_filter, ← h.mem m c]
  constructor
  · rintro ⟨x, hx, e1, e2⟩
    obtain ⟨g1, g2⟩ := (hmet x).1 hx
    exact ⟨⟨x, g1, e1, e2⟩, by rw [e1] at g2; simpa using g2⟩
  · rintro ⟨⟨x, hx, e1, e2⟩, g⟩
    exact ⟨x, (hmet x).2 ⟨hx, by rw [e1]; simpa using g⟩, e1, e2⟩
theorem MeI.meet {i : Nat} {k : Ks} {s : Ps} {sg : List Nat} {l : List (Nat × Nat)} (h : MeI i k s sg l) (hi : i < 1000000) {n c : Nat} (hn : n < 4294967296) : MeI (i + 1) (meetK k n [c]) s sg (keepL sg (l ++ [(n, c)])) := by
  have hml := h.ml
  have e : keepL sg l = l := List.filter_eq_self.2 fun y hy => by simpa using h.sub y hy
  have e2 : keepL sg (l ++ [(n, c)]) = if n ∈ last2 sg then l ++ [(n, c)] else l := by
    unfold keepL at *
    rw [List.filter_append, e]
    split
    · rename_i hc; simp [hc]
    · rename_i hc; simp [hc]
  have hs : (getP k.signed n).isSome = decide (n ∈ last2 sg) := h.t.getS n
  have hok := h.ok.meet (w := [c]) hn (by simp) (by omega)
  have hlen : (keepL sg (l ++ [(n, c)])).length ≤ i + 1 := Nat.le_trans (List.length_filter_le _ _) (by have := h.ll; simp; omega)
  have hsub : ∀ y ∈ keepL sg (l ++ [(n, c)]), y.1 ∈ last2 sg := fun y hy => by simpa using (List.mem_filter.1 hy).2
  have hmk : meetK k n [c] = if n ∈ last2 sg ∧ ¬ (n, c) ∈ l then { k with met := k.met ++ [⟨n, [c]⟩] } else k := by
    unfold meetK
    rw [hs]
    have hd : decide (0 ≤ fidxL (tstN n [c]) k.met) = decide ((n, c) ∈ l) := by
      rw [decide_eq_decide, met_any, h.mem n c]
    rw [hd]
    by_cases c1 : n ∈ last2 sg <;> by_cases c2 : (n, c) ∈ l <;> simp [c1, c2]
  by_cases hc : n ∈ last2 sg ∧ ¬ (n, c) ∈ l
  · rw [if_pos hc] at hmk
    rw [if_pos hc.1] at e2
    rw [e2] at hlen hsub ⊢
    rw [hmk] at hok ⊢
    have t := h.t.more
    refine ⟨⟨t.on, t.sn, t.ne, t.rise, t.lt, t.slt, t.ol, t.nx, t.ts, t.n⟩, hok, fun x hx => ?_, fun m b => ?_, hsub, by simp; omega, hlen, h.who⟩
    · rcases List.mem_append.1 hx with h1 | h1
      · exact h.ids x h1
      · rw [List.mem_singleton.1 h1]; exact ⟨c, rfl⟩
    · rw [List.mem_append, ← h.mem m b, List.mem_singleton]
      constructor
      · rintro ⟨x, hx, g1, g2⟩
        rcases List.mem_append.1 hx with h1 | h1
        · exact .inl ⟨x, h1, g1, g2⟩
        · rw [List.mem_singleton.1 h1] at g1 g2
          cases g1; cases g2; exact .inr rfl
      · rintro (⟨x, hx, g1, g2⟩ | g)
        · exact ⟨x, List.mem_append_left _ hx, g1, g2⟩
        · cases g; exact ⟨⟨n, [c]⟩, by simp, rfl, rfl⟩
  · rw [if_neg hc] at hmk
    rw [hmk] at hok ⊢
    refine ⟨h.t.more, hok, h.ids, fun m b => ?_, hsub, by omega, hlen, h.who⟩
    rw [h.mem m b, e2]
    split
    · rename_i h1
      have h2 : (n, c) ∈ l := Decidable.byContradiction fun h2 => hc ⟨h1, h2⟩
      constructor
      · intro h3; exact List.mem_append_left _ h3
      · intro h3
        rcases List.mem_append.1 h3 with h4 | h4
        · exact h4
        · rw [List.mem_singleton.1 h4]; exact h2
    · exact Iff.rfl
theorem MeI.met {i : Nat} {k : Ks} {s : Ps} {sg : List Nat} {l : List (Nat × Nat)} (h : MeI i k s sg l) (m c : Nat) : decide (0 ≤ fidxL (tstN m [c]) k.met) = decide ((m, c) ∈ l) := by
  rw [decide_eq_decide, met_any, h.mem m c]
theorem MeI.back {i : Nat} {k : Ks} {s : Ps} {sg : List Nat} {l : List (Nat × Nat)} (h : MeI i k s sg l) : decK (encK k) = k ∧ decOk (encK k) = true := by
  refine dec_encK h.ok (fun e => ?_) h.t.riseK
  have h1 := h.t.sn
  have h2 := h.t.ne.2
  unfold snN at h1
  rw [e] at h1
  have h3 := congrArg List.length h1
  unfold last2 at h3
  simp at h3
  omega

end Go.Proofs.YtphcaiplgpmnnaaGreatDoor
/- The walk of KeysMeets. -/
namespace Go.Proofs.YtphcaiplgpmnnaaGreatDoor
open Go.Px
/-- Keys of few bytes. -/
structure Ksm (k : Ks) : Prop where
  ag : k.agree.length ≤ 64
  sg : k.sign.length ≤ 64
  signed : ∀ x ∈ k.signed, x.sec.length ≤ 64 ∧ x.sig.length ≤ 64
  once : ∀ x ∈ k.once, x.sec.length ≤ 64 ∧ x.sig.length ≤ 64
theorem Ksm.turn {k : Ks} (h : Ksm k) (s : Ps) : Ksm (turnK k s).1 := by
  refine ⟨h.ag, h.sg, fun x hx => ?_, h.once⟩
  rcases List.mem_cons.1 (List.mem_of_mem_take hx) with rfl | h1
  · exact ⟨by have := freshK_le s; show (freshK s).length ≤ _; omega, by show (sgK2 _ _ _).length ≤ _; rw [sgK2_le]; decide⟩
  · exact h.signed x h1
theorem Ksm.fillI {k : Ks} {s : Ps} (h : Ksm k) : ∀ i, Ksm (fillI k s i).1
  | 0 => h
  | i + 1 => by
    have ih := h.fillI (s := s) i
    refine ⟨ih.ag, ih.sg, ih.signed, fun x hx => ?_⟩
    rcases List.mem_append.1 (show x ∈ (Go.Proofs.YtphcaiplgpmnnaaGreatDoor.fillI k s i).1.once ++ [_] from hx) with h1 | h1
    · exact ih.once x h1
    · rw [List.mem_singleton.1 h1]
      exact ⟨by have := freshK_le (Go.Proofs.YtphcaiplgpmnnaaGreatDoor.fillI k s i).2; show (freshK _).length ≤ _; omega, Nat.zero_le _⟩
theorem Ksm.meet {k : Ks} (h : Ksm k) (n : Nat) (w : List Nat) : Ksm (meetK k n w) := by
  unfold meetK
  split
  · exact ⟨h.ag, h.sg, h.signed, h.once⟩
  · exact h
theorem Ksm.new {u d : Int} {s : Ps} : Ksm (newK u d s).1 := by
  have f1 := freshK_le s
  have f2 := freshK_le (freshS s)
  have h0 : Ksm (k0N u d s) := ⟨by show (freshK s).length ≤ _; omega, by show (freshK (freshS s)).length ≤ _; omega, (fun x hx => by cases hx), (fun x hx => by cases hx)⟩
  exact (h0.turn _).fillI _
theorem encPs_small {l : List Pr} (h : ∀ x ∈ l, x.sec.length ≤ 64 ∧ x.sig.length ≤ 64) : (encPs l).length ≤ 140 * l.length := by
  induction l with
  | nil => simp [encPs]
  | cons x l ih =>
    have h1 := h x (by simp)
    have h2 := ih fun y hy => h y (by simp [hy])
    rw [encPs_cons, List.length_append, encPr_len, List.length_cons]; omega
theorem encNs_small {l : List Nm} (h : ∀ x ∈ l, ∃ c, x.id = [c]) : (encNs l).length = 9 * l.length := by
  induction l with
  | nil => rfl
  | cons x l ih =>
    obtain ⟨c, hc⟩ := h x (by simp)
    have h2 := ih fun y hy => h y (by simp [hy])
    rw [encNs_cons, List.length_append, encNm_len, List.length_cons, hc]; simp; omega
theorem enc_small {k : Ks} (h : Ksm k) (h1 : k.signed.length ≤ 2) (h2 : k.once.length ≤ 4) (h3 : ∀ x ∈ k.met, ∃ c, x.id = [c]) (h4 : k.met.length ≤ 1000) : (encK k).length ≤ 20000 := by
  have e := encK_len k
  have a := encPs_small h.signed
  have b := encPs_small h.once
  have c := encNs_small h3
  have d := h.ag
  have f := h.sg
  omega
/-- A row of what was met: the number, the name's byte. -/
def mt1 (y : Nat × Nat) : List Value := [.int .u32 ((y.1 : Nat) : Int), .int .u8 ((y.2 : Nat) : Int)]
def mtc (l : List (Nat × Nat)) : List Value := (l.map mt1).flatten
theorem mt_len {l : List (Nat × Nat)} : ∀ r ∈ l.map mt1, r.length = 2 := fun r hr => by
  obtain ⟨y, _, rfl⟩ := List.mem_map.1 hr; rfl
theorem mt_get {l : List (Nat × Nat)} {j : Nat} {y : Nat × Nat} (h : l[j]? = some y) (i : Nat) (hi : i < 2) : (mtc l)[j * 2 + i]? = (mt1 y)[i]? :=
  flat_get mt_len (by rw [List.getElem?_map, h]; rfl) i hi
theorem mtc_snoc (l : List (Nat × Nat)) (y : Nat × Nat) : mtc (l ++ [y]) = mtc l ++ mt1 y := by simp [mtc]
theorem keepL_take {sg : List Nat} {l : List (Nat × Nat)} {j : Nat} {y : Nat × Nat} (h : l[j]? = some y) : keepL sg (l.take (j + 1)) = keepL sg (l.take j) ++ if decide (y.1 ∈ last2 sg) then [y] else [] := by
  unfold keepL
  rw [List.take_add_one, h, List.filter_append]
  by_cases hc : y.1 ∈ last2 sg <;> simp [hc]
theorem takeM_dec {l : List (Nat × Nat)} {m c j : Nat} {y : Nat × Nat} (h : l[j]? = some y) : decide ((m, c) ∈ l.take (j + 1)) = (decide ((m, c) ∈ l.take j) || (decide (y.1 = m) && decide (y.2 = c))) := by
  rw [Bool.eq_iff_iff]
  simp only [decide_eq_true_iff, Bool.or_eq_true, Bool.and_eq_true]
  rw [List.take_add_one, h]
  simp only [List.mem_append, Option.toList_some, List.mem_singleton]
  constructor
  · rintro (h1 | h1)
    · exact .inl h1
    · rw [← h1]; exact .inr ⟨rfl, rfl⟩
  · rintro (h1 | ⟨h1, h2⟩)
    · exact .inl h1
    · exact .inr (by rw [← h1, ← h2])
theorem meet_next (k : Ks) (n : Nat) (w : List Nat) : (meetK k n w).next = k.next := by unfold meetK; split <;> rfl
structure MeS where
  i : Nat
  k : Ks
  s : Ps
  sg : List Nat
  l : List (Nat × Nat)
  vs : Value
  vl : Value
  Bs : Mem
  Bl : Mem
  MK : Mem
  MP : Mem
  J : Mem

set_option maxHeartbeats 1600000 in
theorem keysMeets_f (m : Nat) (v : Value) (ws : List Nat) (A : Mem) (hm : m < 256) (hv : Rd A 1 v ws.length (nums .u8 ws)) (hb : ∀ x ∈ ws, x < 256) (hG : Glb A) : FnV Tryz.prog 6 [.int .u8 ((m : Nat) : Int), v] A (.bool true) := by
 haveI := hv.cel
 refine FnX.enter (N := 201) Tryz.func6 rfl rfl rfl fun w_ => ?_
 refine XC.keep (kq 0 (kq 1 kn)) ?_
 refine XC.reg ?_
 refine as_ ?_
 refine XL.fin (kq 0 (kq 1 kn)) ?_
 refine XC.seq ?_
 refine XC.reg ?_
 refine XL.callV a0 (by kernel_rfl) (awake12_f _ hG.up) rfl ?_
 refine XL.q (q_not rfl) rfl ?_
 refine mv_ ?_
 refine XL.gy rfl rfl (OpQ.opL qm_ rfl ?_)
 refine XL.gy rfl rfl (OpQ.opL (q_lenV2 (sz := 1) rfl (by kernel_rfl) (by first | assumption | exact Sl.rd (by assumption) (fun _ h => h) | exact By.rd (by assumption))) rfl ?_)
 refine XL.gy rfl rfl (OpQ.opL (q_bin rfl rfl rfl) rfl ?_)
 refine XL.q (q_pickF rfl rfl) rfl ?_
 refine XL.fin (kq 0 (kq 1 (kq 27 kn))) ?_
 refine XC.cond rfl (fun hc => ?_) (fun hc => ?_)
 ·
  refine XC.reg ?_
  refine XL.callV a0 (by kernel_rfl) (awake12_f _ hG.up) rfl ?_
  refine as_ ?_
  refine XL.fin (kq 4 kn) ?_
  refine XC.ret ?_
  refine tr ?_
  exact ⟨_, [], [], res1 rfl rfl, List.nil_sublist _, by simp, rfl, rfl, rfl⟩
 ·
  have hlen : ws.length ≤ 20 := by simp at hc; omega
  refine XC.skip ?_
  refine nx (kq 0 (kq 1 kn)) ?_
  refine XC.reg ?_
  refine mv_ ?_
  refine XL.callV (aS rfl (aS rfl a0)) (by kernel_rfl) (who12_f 2 2 _ (by decide) (by decide)) rfl ?_
  refine XL.call (aS rfl (aS rfl a0)) (by kernel_rfl) (open12_f m _ _ _ hm hG.up) rfl ?_
  rintro v32 M32 J32 ⟨pb, kb, MK0, MP0, rfl, rfl, hK0, hP0⟩
  have hI0 := MeI.new (m := m)
  have hm0 := Ksm.new (u := ((2 : Nat) : Int)) (d := ((2 : Nat) : Int)) (s := opK m)
  have hn0 := new_next ((2 : Nat) : Int) ((2 : Nat) : Int) (opK m)
  change Kys _ _ (newK ((2 : Nat) : Int) ((2 : Nat) : Int) (opK m)).1 _ at hK0
  change Prm _ (newK ((2 : Nat) : Int) ((2 : Nat) : Int) (opK m)).2 _ at hP0
  generalize (newK ((2 : Nat) : Int) ((2 : Nat) : Int) (opK m)).1 = k0 at *
  generalize (newK ((2 : Nat) : Int) ((2 : Nat) : Int) (opK m)).2 = s0 at *
  refine mv_ ?_
  refine XL.q (q_x0 rfl) rfl ?_
  refine XL.q (q_x1 rfl) rfl ?_
  refine as_ (as_ ?_)
  refine XL.fin (kq 1 (kq 5 (kq 6 kn))) ?_
  refine XC.reg ?_
  refine XL.lo rfl (l_buildSlice (e := 22) (sz := 1) (z := [.int .u32 0]) (by kernel_rfl) (eS rfl e0) (bdS 0 1 rfl (by rfl) bd0) rfl fun b35 => ?_)
  refine as_ ?_
  refine XL.fin (kq 1 (kq 5 (kq 6 (kq 7 kn)))) ?_
  refine XC.reg ?_
  refine as_ ?_
  refine XL.fin (kq 1 (kq 5 (kq 6 (kq 7 (kq 8 kn))))) ?_
  refine XC.reg ?_
  refine as_ ?_
  refine XL.fin (kq 1 (kq 5 (kq 6 (kq 7 (kq 8 (kq 9 kn)))))) ?_
  refine XC.seq ?_
  refine XC.reg ?_
  refine as_ ?_
  refine XL.fin (kq 1 (kq 5 (kq 6 (kq 7 (kq 8 (kq 9 (kq 10 kn))))))) ?_
  refine XC.block ?_
  refine XC.loop (α := MeS) (fun y => [(1, v), (5, .pointer (some ⟨pb, 0, none⟩)), (6, .pointer (some ⟨kb, 0, none⟩)), (7, y.vs), (8, .int .u32 ((y.k.next : Nat) : Int)), (9, y.vl), (10, .int .i64 ((y.i : Nat) : Int))]) (fun y => y.Bs ++ (y.Bl ++ (y.MK ++ y.MP))) (fun y => y.J) (fun y => y.i ≤ ws.length ∧ MeI y.i y.k y.s y.sg y.l ∧ Ksm y.k ∧ y.l.length ≤ y.i ∧ Sl 1 y.vs y.sg.length (nums .u32 y.sg) y.Bs ∧ Sl 2 y.vl y.l.length (mtc y.l) y.Bl ∧ Kys (y.J ++ A) kb y.k y.MK ∧ Prm pb y.s y.MP ∧ ∀ z ∈ y.l, z.2 < 4) (fun y => ws.length - y.i) ⟨0, k0, s0, [1], [], _, .slice none 0 0, _, [], MK0, MP0, J32⟩ ⟨Nat.zero_le _, hI0, hm0, Nat.le_refl _, Sl.fresh (n := 1) (cs := [.int .u32 ((1 : Nat) : Int)]) (e := 22) rfl (by decide), Sl.nil, hK0.mono SubC.sub, hP0, fun z hz => by cases hz⟩ (kq 1 (kq 5 (kq 6 (kq 7 (kp 8 (by rw [hn0]; rfl) (kq 9 (kq 10 kn))))))) (Fit.pick (B := [_]) PickC.perm (Fit.none (Fit.pick PickC.perm (Fit.last PickC.perm)))) SubC.sub ?_
  clear hI0 hK0 hP0 hn0 hm0
  rintro ⟨i, k, s, sg, l, vs, vl, Bs, Bl, MK, MP, J⟩ ⟨hi, hI, hsm, hll, hss, hsl, hK, hP, hl4⟩
  dsimp only at hi hI hsm hll hss hsl hK hP hl4 ⊢
  haveI := hss.cel
  haveI := hsl.cel
  have hne := hI.t.ne
  have hnx := hI.t.nx
  have hts := hI.t.ts
  have hsn := hI.t.n
  have hml := hI.ml
  refine XC.seq ?_
  refine XC.reg ?_
  refine mv_ (mv_ ?_)
  refine XL.q (q_lenV2 (sz := 1) rfl (by kernel_rfl) hv) rfl ?_
  refine XL.q (q_bin rfl rfl rfl) rfl ?_
  refine XL.fin (kq 1 (kq 5 (kq 6 (kq 7 (kq 8 (kq 9 (kq 10 (kq 39 kn)))))))) ?_
  refine XC.cond rfl (fun hc => ?_) (fun hc => ?_)
  ·
   have hlt : i < ws.length := by simp at hc; omega
   have hw256 := getD_l8 hb i
   obtain ⟨w, hw⟩ : ∃ w, ws.getD i 0 = w := ⟨_, rfl⟩
   rw [hw] at hw256
   obtain ⟨n, hn⟩ : ∃ n, w / 4 % 9 = n := ⟨_, rfl⟩
   obtain ⟨c, hc4⟩ : ∃ c, w / 64 = c := ⟨_, rfl⟩
   have hn9 : n < 9 := by omega
   have hcc : c < 4 := by omega
   refine XC.skip ?_
   refine nx (kq 1 (kq 5 (kq 6 (kq 7 (kq 8 (kq 9 (kq 10 kn))))))) ?_
   refine XC.seq ?_
   refine XC.block ?_
   refine XC.reg ?_
   refine mv_ (mv_ ?_)
   refine XL.q (q_atV2 (sz := 1) rfl rfl (by kernel_rfl) rfl hv hlt) rfl ?_
   refine XL.q (q_ldVN2 (k := .u8) rfl (by kernel_rfl) (hv.mono SubC.sub) hlt) rfl ?_
   rw [hw]
   refine XL.q (q_quoU (b := 4) (m := 256) rfl rfl rfl rfl rfl rfl (by decide) (by omega)) rfl ?_
   refine XL.q (q_same (k' := .u32) rfl (by kernel_rfl) (by show _ < 2147483648; omega)) rfl ?_
   refine XL.q (q_remI (b := 9) rfl rfl rfl rfl (by decide)) rfl ?_
   rw [hn]
   refine as_ ?_
   refine XL.fin (kq 1 (kq 5 (kq 6 (kq 7 (kq 8 (kq 9 (kq 10 (kq 11 kn)))))))) ?_
   refine XC.reg ?_
   refine mv_ (mv_ ?_)
   refine XL.q (q_atV2 (sz := 1) rfl rfl (by kernel_rfl) rfl hv hlt) rfl ?_
   refine XL.q (q_ldVN2 (k := .u8) rfl (by kernel_rfl) (hv.mono SubC.sub) hlt) rfl ?_
   rw [hw]
   refine XL.q (q_quoU (b := 64) (m := 256) rfl rfl rfl rfl rfl rfl (by decide) (by omega)) rfl ?_
   rw [hc4]
   refine as_ ?_
   refine XL.fin (kq 1 (kq 5 (kq 6 (kq 7 (kq 8 (kq 9 (kq 10 (kq 11 (kq 12 kn))))))))) ?_
   refine XC.join (α := MeS) (fun y => [(1, v), (5, .pointer (some ⟨pb, 0, none⟩)), (6, .pointer (some ⟨kb, 0, none⟩)), (7, y.vs), (8, .int .u32 ((y.k.next : Nat) : Int)), (9, y.vl), (10, .int .i64 ((y.i : Nat) : Int))]) (fun y => y.Bs ++ (y.Bl ++ (y.MK ++ y.MP))) (fun y => y.J) (fun y => y.i = i ∧ MeI (i + 1) y.k y.s y.sg (keepL y.sg y.l) ∧ Ksm y.k ∧ y.l.length ≤ (i + 1) ∧ Sl 1 y.vs y.sg.length (nums .u32 y.sg) y.Bs ∧ Sl 2 y.vl y.l.length (mtc y.l) y.Bl ∧ Kys (y.J ++ A) kb y.k y.MK ∧ Prm pb y.s y.MP ∧ ∀ z ∈ y.l, z.2 < 4) ?_ ?_
   ·
    refine XC.reg ?_
    refine mv_ (mv_ ?_)
    refine XL.q (q_atV2 (sz := 1) rfl rfl (by kernel_rfl) rfl hv hlt) rfl ?_
    refine XL.q (q_ldVN2 (k := .u8) rfl (by kernel_rfl) (hv.mono SubC.sub) hlt) rfl ?_
    rw [hw]
    refine XL.q (q_remI (b := 4) rfl rfl rfl rfl (by decide)) rfl ?_
    refine XL.fin (kq 1 (kq 5 (kq 6 (kq 7 (kq 8 (kq 9 (kq 10 (kq 11 (kq 12 (kq 58 kn)))))))))) ?_
    refine XC.block ?_
    refine XC.reg ?_
    refine XL.q (q_cmp (decide (w % 4 = 0)) rfl rfl (eqN _ _)) rfl ?_
    refine as_ ?_
    refine XL.fin (kq 1 (kq 5 (kq 6 (kq 7 (kq 8 (kq 9 (kq 10 (kq 11 (kq 12 (kq 70 kn)))))))))) ?_
    refine XC.cond rfl (fun hc => ?_) (fun hc => ?_)
    ·
     refine XC.reg ?_
     refine mv_ (mv_ ?_)
     refine XL.lo rfl (l_call (Mc := MK ++ MP) (R := _) (aS rfl (aS rfl a0)) (by kernel_rfl) PickC.perm (FnX.amb SubC.sub (turn_f kb pb k s MK MP (J ++ A) hK hP (by omega) (by omega) (by omega) (hG.sub fun x hx => List.mem_append_right _ hx))) rfl ?_)
     rintro v74 M74 J74 ⟨MK2, MP2, rfl, hK2, hP2⟩
     refine XL.fin (kq 1 (kq 5 (kq 6 (kq 7 (kq 8 (kq 9 (kq 10 kn))))))) ?_
     refine XC.reg ?_
     refine mv_ (mv_ ?_)
     refine XL.lo rfl (l_buildSlice (e := 22) (sz := 1) (z := [.int .u32 0]) (by kernel_rfl) (eS rfl e0) (bdS 0 1 rfl (by rfl) bd0) rfl fun b77 => ?_)
     refine XL.lo rfl (l_append2 (e := 22) (sz := 1) (by_ := 4) rfl rfl (by kernel_rfl) rfl hss (Rd.whole (n := 1) At.mem (by rfl)) (allS rfl all0) PickC.perm (by unfold maxLen; omega) (by omega) rfl fun v78 B78 hs78 => ?_)
     haveI := hs78.cel
     refine as_ ?_
     refine XL.fin (kq 1 (kq 5 (kq 6 (kq 7 (kq 8 (kq 9 (kq 10 kn))))))) ?_
     refine XC.reg1 ?_
     refine mv_ ?_
     refine XL.q (q_addS 4294967296 (a := k.next) (b := 1) rfl rfl rfl rfl rfl rfl (by omega)) rfl ?_
     refine as_ ?_
     refine XL.nil ?_
     refine nb ?_
     exact jn ⟨i, _, _, sg ++ [k.next], l, v78, vl, B78, Bl, MK2, MP2, J74 ++ J⟩ ⟨rfl, hI.turn (by omega), hsm.turn _, by dsimp only; omega, sl_eq hs78 (by simp) (by simp [nums]), hsl, by dsimp only; exact hK2.mono SubC.sub, hP2, hl4⟩ (kq 1 (kq 5 (kq 6 (kq 7 (kq 8 (kq 9 (kq 10 kn))))))) (Fit.pick PickC.perm (Fit.pick PickC.perm (Fit.pick PickC.perm (Fit.last PickC.perm)))) SubC.sub
    ·
     refine XC.reg ?_
     refine mv_ (mv_ (mv_ ?_))
     refine XL.lo rfl (l_buildSlice (e := 5) (sz := 1) (z := [.int .u8 0]) (by kernel_rfl) (eS rfl e0) (bdS 0 1 rfl (by rfl) bd0) rfl fun b62 => ?_)
     refine XL.frz (B := [(b62, blk [.int .u8 ((c : Nat) : Int)] 5)]) PickC.perm ?_
     refine XL.lo rfl (l_call (Mc := MK) (R := _) (aS rfl (aS rfl (aS rfl a0))) (by kernel_rfl) PickC.perm (FnX.amb SubC.sub (meet_f kb k (.slice (some ⟨b62, 0, none⟩) 1 1) n [c] MK (((b62, blk [.int .u8 ((c : Nat) : Int)] 5) :: J) ++ A) (hK.mono SubC.sub) (lit_byk List.mem_cons_self rfl (fun x hx => by rw [List.mem_singleton.1 hx]; omega) (show 1 ≤ 16777216 by decide)) (by omega) (by omega))) rfl ?_)
     rintro v63 MK2 J63 hK2
     refine XL.fin (kq 1 (kq 5 (kq 6 (kq 7 (kq 8 (kq 9 (kq 10 (kq 11 (kq 12 kn))))))))) ?_
     refine XC.reg1 ?_
     refine mv_ (mv_ (mv_ ?_))
     refine XL.q (q_build (place := fun x => #[(0, 1), (1, 1)][x]?) (z := [.int .u32 0, .int .u8 0]) (fun _ => by kernel_rfl) (eS rfl (eS rfl e0)) (bdS 0 1 rfl (by rfl) (bdS 1 1 rfl (by rfl) bd0))) rfl ?_
     refine XL.lo rfl (l_buildSlice (e := 57) (sz := 2) (z := [.int .u32 0, .int .u8 0]) (by kernel_rfl) (eS rfl e0) (bdS 0 2 rfl (by rfl) bd0) rfl fun b68 => ?_)
     refine XL.lo rfl (l_append2 (e := 57) (sz := 2) (by_ := 8) rfl rfl (by kernel_rfl) rfl hsl (Rd.whole (n := 1) At.mem (by rfl)) (allS rfl (allS rfl all0)) PickC.perm (by unfold maxLen; omega) (by omega) rfl fun v69 B69 hs69 => ?_)
     haveI := hs69.cel
     refine as_ ?_
     refine XL.nil ?_
     refine nb ?_
     exact jn ⟨i, meetK k n [c], s, sg, l ++ [(n, c)], vs, v69, Bs, B69, MK2, MP, J63 ++ ((b62, blk [.int .u8 ((c : Nat) : Int)] 5) :: J)⟩ ⟨rfl, hI.meet (by omega) (by omega), hsm.meet _ _, by simp; omega, hss, by dsimp only; rw [mtc_snoc]; simpa [mt1] using hs69, by dsimp only; exact hK2.mono SubC.sub, hP, fun z hz => by rcases List.mem_append.1 hz with h | h; exact hl4 z h; rw [List.mem_singleton.1 h]; exact hcc⟩ (kq 1 (kq 5 (kq 6 (kq 7 (kp 8 (congrArg (fun z : Nat => some (Value.int .u32 ((z : Nat) : Int))) (meet_next k n [c]).symm) (kq 9 (kq 10 kn))))))) (Fit.pick PickC.perm (Fit.pick PickC.perm (Fit.pick PickC.perm (Fit.last PickC.perm)))) SubC.sub
   ·
    clear hI hsm hll hss hsl hK hP hl4 hne hnx hts hsn hml
    rintro ⟨i2, k, s, sg, l, vs, vl, Bs, Bl, MK, MP, J⟩ ⟨hii, hI, hsm, hll, hss, hsl, hK, hP, hl4⟩
    dsimp only at hii hI hsm hll hss hsl hK hP hl4 ⊢
    subst hii
    haveI := hss.cel
    haveI := hsl.cel
    have hne := hI.t.ne
    have hnx := hI.t.nx
    have hts := hI.t.ts
    have hsn := hI.t.n
    have hml := hI.ml
    refine XC.reg ?_
    refine as_ ?_
    refine XL.fin (kq 1 (kq 5 (kq 6 (kq 7 (kq 8 (kq 9 (kq 10 (kq 13 kn)))))))) ?_
    refine XC.seq ?_
    refine XC.reg ?_
    refine as_ ?_
    refine XL.fin (kq 1 (kq 5 (kq 6 (kq 7 (kq 8 (kq 9 (kq 10 (kq 13 (kq 14 kn))))))))) ?_
    refine XC.block ?_
    refine XC.loop (α := Nat × Value × Mem) (fun y => [(1, v), (5, .pointer (some ⟨pb, 0, none⟩)), (6, .pointer (some ⟨kb, 0, none⟩)), (7, vs), (8, .int .u32 ((k.next : Nat) : Int)), (9, vl), (10, .int .i64 ((i2 : Nat) : Int)), (13, y.2.1), (14, .int .i64 ((y.1 : Nat) : Int))]) (fun y => Bs ++ (Bl ++ (MK ++ (MP ++ y.2.2)))) (fun _ => J) (fun y => y.1 ≤ l.length ∧ Sl 2 y.2.1 (keepL sg (l.take y.1)).length (mtc (keepL sg (l.take y.1))) y.2.2) (fun y => l.length - y.1) (0, .slice none 0 0, []) ⟨Nat.zero_le _, Sl.nil⟩ (kq 1 (kq 5 (kq 6 (kq 7 (kq 8 (kq 9 (kq 10 (kq 13 (kq 14 kn))))))))) (Fit.eq (by simp)) (fun _ h => h) ?_
    rintro ⟨j, vr, Br⟩ ⟨hj, hsr⟩
    dsimp only at hj hsr ⊢
    haveI := hsr.cel
    have hrl : (keepL sg (l.take j)).length ≤ j := Nat.le_trans (List.length_filter_le _ _) (by rw [List.length_take]; omega)
    refine XC.seq ?_
    refine XC.reg ?_
    refine mv_ (mv_ ?_)
    refine XL.q (q_lenV2 (sz := 2) rfl (by kernel_rfl) (hsl.rd (R := Bl) fun _ h => h)) rfl ?_
    refine XL.q (q_bin rfl rfl rfl) rfl ?_
    refine XL.fin (kq 1 (kq 5 (kq 6 (kq 7 (kq 8 (kq 9 (kq 10 (kq 13 (kq 14 (kq 84 kn)))))))))) ?_
    refine XC.cond rfl (fun hc => ?_) (fun hc => ?_)
    ·
     have hjl : j < l.length := by simp at hc; omega
     obtain ⟨y, hy⟩ : ∃ y, l[j]? = some y := ⟨_, List.getElem?_eq_getElem hjl⟩
     have hkt := keepL_take (sg := sg) hy
     refine XC.skip ?_
     refine nx (kq 1 (kq 5 (kq 6 (kq 7 (kq 8 (kq 9 (kq 10 (kq 13 (kq 14 kn))))))))) ?_
     refine XC.seq ?_
     refine XC.block ?_
     refine XC.drawF [0, 1, 2, 3, 4, 5, 6, 7, 8, 9, 10, 11, 12, 13, 14, 15, 16, 17, 18, 19, 20, 21, 22, 23, 24, 25, 26, 27, 28, 29, 30] [(0, 0), (1, 0), (2, 0), (3, 0), (4, 1), (5, 0), (6, 0), (7, 0), (8, 0), (9, 0), (10, 1), (11, 0), (12, 0), (13, 0), (14, 0), (15, 0), (16, 0), (17, 0), (18, 0), (19, 0), (20, 0), (21, 1), (22, 0), (23, 0), (24, 0), (25, 0), (26, 0), (27, 1), (28, 0), (29, 0), (30, 0)] (by kernel_rfl) (by kernel_rfl) fun hs => ?_
     refine XF.q hs rfl qm_ rfl ?_
     refine XF.q hs rfl qm_ rfl ?_
     refine XF.q hs rfl (q_atV2 (sz := 2) rfl rfl (by kernel_rfl) rfl (hsl.rd (R := Bl) fun _ h => h) hjl) rfl ?_
     refine XF.q hs rfl (q_fldV (off := 0) rfl (hsl.rd (R := Bl) fun _ h => h) hjl (by kernel_rfl)) rfl ?_
     refine XF.r hs rfl (q_ldVF (u := .int .u32 ((y.1 : Nat) : Int)) rfl (hsl.rd SubC.sub) (by omega) (by kernel_rfl) (by rw [mt_get hy 0 (by decide)]; rfl)) rfl ?_
     refine XF.q hs rfl qm_ rfl ?_
     refine XF.q hs rfl qm_ rfl ?_
     refine XF.q hs rfl (q_lenV2 (sz := 1) rfl (by kernel_rfl) (hss.rd (R := Bs) fun _ h => h)) rfl ?_
     refine XF.q hs rfl (q_num ((sg.length - 1 : Nat) : Int) rfl rfl (sub64 (by omega) (by omega) (by omega))) rfl ?_
     refine XF.q hs rfl (q_atV2 (sz := 1) rfl rfl (by kernel_rfl) rfl (hss.rd (R := Bs) fun _ h => h) (by omega)) rfl ?_
     refine XF.r hs rfl (q_ldVN2 (k := .u32) rfl (by kernel_rfl) (hss.rd SubC.sub) (by omega)) rfl ?_
     refine XF.q hs rfl (q_cmp (decide (y.1 = sg.getD (sg.length - 1) 0)) rfl rfl (eq32 _ _)) rfl ?_
     have hld := last2_dec (n := y.1) hne.2
     refine XF.q hs rfl qm_ rfl ?_
     refine XF.split (t := 99) rfl (fun hb => ?_) (fun hb => ?_)
     ·
      rw [hb, Bool.true_or] at hld
      refine XF.qn hs rfl rfl rfl rfl rfl rfl ?_
      refine XF.qn hs rfl rfl rfl rfl rfl rfl ?_
      refine XF.qn hs rfl rfl rfl rfl rfl rfl ?_
      refine XF.qn hs rfl rfl rfl rfl rfl rfl ?_
      refine XF.qu hs rfl rfl rfl rfl rfl ?_
      refine XF.qu hs rfl rfl rfl rfl rfl ?_
      refine XF.qu hs rfl rfl rfl rfl rfl ?_
      refine XF.qu hs rfl rfl rfl rfl rfl ?_
      refine XF.ru hs rfl rfl rfl rfl rfl ?_
      refine XF.qu hs rfl rfl rfl rfl rfl ?_
      refine XF.qu hs rfl rfl rfl rfl rfl ?_
      refine XF.qu hs rfl rfl rfl rfl rfl ?_
      refine XF.qu hs rfl rfl rfl rfl rfl ?_
      refine XF.qu hs rfl rfl rfl rfl rfl ?_
      refine XF.ru hs rfl rfl rfl rfl rfl ?_
      refine XF.qu hs rfl rfl rfl rfl rfl ?_
      refine XF.qn hs rfl rfl rfl rfl rfl rfl ?_
      refine XF.q hs rfl (q_pickT rfl rfl) rfl ?_
      refine XF.fin (kq 1 (kq 5 (kq 6 (kq 7 (kq 8 (kq 9 (kq 10 (kq 13 (kq 14 (kq 117 kn)))))))))) ?_
      refine XC.condT rfl ?_
      refine XC.reg1 ?_
      refine mv_ (mv_ (mv_ ?_))
      refine XL.q (q_atV2 (sz := 2) rfl rfl (by kernel_rfl) rfl (hsl.rd (R := Bl) fun _ h => h) hjl) rfl ?_
      refine XL.q (q_ldVR rfl (by kernel_rfl) (hsl.rd SubC.sub) mt_len (by decide) (r := [.int .u32 ((y.1 : Nat) : Int), .int .u8 ((y.2 : Nat) : Int)]) (by rw [List.getElem?_map, hy]; rfl)) rfl ?_
      refine XL.lo rfl (l_buildSlice (e := 57) (sz := 2) (z := [.int .u32 0, .int .u8 0]) (by kernel_rfl) (eS rfl e0) (bdS 0 2 rfl (by rfl) bd0) rfl fun b123 => ?_)
      refine XL.lo rfl (l_append2 (e := 57) (sz := 2) (by_ := 8) rfl rfl (by kernel_rfl) rfl hsr (Rd.whole (n := 1) At.mem (by rfl)) (allS rfl (allS rfl all0)) PickC.perm (by unfold maxLen; omega) (by omega) rfl fun v124 B124 hs124 => ?_)
      haveI := hs124.cel
      refine as_ ?_
      refine XL.nil ?_
      refine nb ?_
      refine nx (kq 1 (kq 5 (kq 6 (kq 7 (kq 8 (kq 9 (kq 10 (kq 13 (kq 14 kn))))))))) ?_
      refine XC.reg1 ?_
      refine mv_ ?_
      refine XL.q (q_num ((j + 1 : Nat) : Int) rfl rfl (add64 (by omega) (by omega) (by omega))) rfl ?_
      refine as_ ?_
      refine XL.nil ?_
      exact rn (j + 1, v124, B124) ⟨hjl, by dsimp only; rw [hkt, hld, if_pos rfl, mtc_snoc]; simpa [mt1] using hs124⟩ (by dsimp only; omega) (kq 1 (kq 5 (kq 6 (kq 7 (kq 8 (kq 9 (kq 10 (kq 13 (kq 14 kn))))))))) (Fit.pick PickC.perm (Fit.pick PickC.perm (Fit.pick PickC.perm (Fit.pick PickC.perm (Fit.last PickC.perm))))) SubC.sub
     ·
      rw [hb, Bool.false_or] at hld
      refine XF.qg hs rfl rfl rfl rfl qm_ rfl ?_
      refine XF.qg hs rfl rfl rfl rfl (q_lenV2 (sz := 1) rfl (by kernel_rfl) (hss.rd (R := Bs) fun _ h => h)) rfl ?_
      refine XF.qg hs rfl rfl rfl rfl (q_cmp (decide (1 < sg.length)) rfl rfl (gtN _ _)) rfl ?_
      refine XF.qg hs rfl rfl rfl rfl qm_ rfl ?_
      refine XF.split (t := 103) rfl (fun hb => ?_) (fun hb => ?_)
      ·
       rw [hb, Bool.true_and] at hld
       have h1l : 1 < sg.length := of_decide_eq_true hb
       refine XF.qg hs rfl rfl rfl rfl qm_ rfl ?_
       refine XF.qg hs rfl rfl rfl rfl qm_ rfl ?_
       refine XF.qg hs rfl rfl rfl rfl (q_atV2 (sz := 2) rfl rfl (by kernel_rfl) rfl (hsl.rd (R := Bl) fun _ h => h) hjl) rfl ?_
       refine XF.qg hs rfl rfl rfl rfl (q_fldV (off := 0) rfl (hsl.rd (R := Bl) fun _ h => h) hjl (by kernel_rfl)) rfl ?_
       refine XF.rg hs rfl rfl rfl rfl (q_ldVF (u := .int .u32 ((y.1 : Nat) : Int)) rfl (hsl.rd SubC.sub) (by omega) (by kernel_rfl) (by rw [mt_get hy 0 (by decide)]; rfl)) rfl ?_
       refine XF.qg hs rfl rfl rfl rfl qm_ rfl ?_
       refine XF.qg hs rfl rfl rfl rfl qm_ rfl ?_
       refine XF.qg hs rfl rfl rfl rfl (q_lenV2 (sz := 1) rfl (by kernel_rfl) (hss.rd (R := Bs) fun _ h => h)) rfl ?_
       refine XF.qg hs rfl rfl rfl rfl (q_num ((sg.length - 2 : Nat) : Int) rfl rfl (sub64 (by omega) (by omega) (by omega))) rfl ?_
       refine XF.qg hs rfl rfl rfl rfl (q_atV2 (sz := 1) rfl rfl (by kernel_rfl) rfl (hss.rd (R := Bs) fun _ h => h) (by omega)) rfl ?_
       refine XF.rg hs rfl rfl rfl rfl (q_ldVN2 (k := .u32) rfl (by kernel_rfl) (hss.rd SubC.sub) (by omega)) rfl ?_
       refine XF.qg hs rfl rfl rfl rfl (q_cmp (decide (y.1 = sg.getD (sg.length - 2) 0)) rfl rfl (eq32 _ _)) rfl ?_
       refine XF.qg hs rfl rfl rfl rfl (q_pickT rfl rfl) rfl ?_
       refine XF.q hs rfl (q_pickF rfl rfl) rfl ?_
       refine XF.fin (kq 1 (kq 5 (kq 6 (kq 7 (kq 8 (kq 9 (kq 10 (kq 13 (kq 14 (kq 117 kn)))))))))) ?_
       refine XC.cond rfl (fun hc => ?_) (fun hc => ?_)
       ·
        rw [hc] at hld
        refine XC.reg1 ?_
        refine mv_ (mv_ (mv_ ?_))
        refine XL.q (q_atV2 (sz := 2) rfl rfl (by kernel_rfl) rfl (hsl.rd (R := Bl) fun _ h => h) hjl) rfl ?_
        refine XL.q (q_ldVR rfl (by kernel_rfl) (hsl.rd SubC.sub) mt_len (by decide) (r := [.int .u32 ((y.1 : Nat) : Int), .int .u8 ((y.2 : Nat) : Int)]) (by rw [List.getElem?_map, hy]; rfl)) rfl ?_
        refine XL.lo rfl (l_buildSlice (e := 57) (sz := 2) (z := [.int .u32 0, .int .u8 0]) (by kernel_rfl) (eS rfl e0) (bdS 0 2 rfl (by rfl) bd0) rfl fun b123 => ?_)
        refine XL.lo rfl (l_append2 (e := 57) (sz := 2) (by_ := 8) rfl rfl (by kernel_rfl) rfl hsr (Rd.whole (n := 1) At.mem (by rfl)) (allS rfl (allS rfl all0)) PickC.perm (by unfold maxLen; omega) (by omega) rfl fun v124 B124 hs124 => ?_)
        haveI := hs124.cel
        refine as_ ?_
        refine XL.nil ?_
        refine nb ?_
        refine nx (kq 1 (kq 5 (kq 6 (kq 7 (kq 8 (kq 9 (kq 10 (kq 13 (kq 14 kn))))))))) ?_
        refine XC.reg1 ?_
        refine mv_ ?_
        refine XL.q (q_num ((j + 1 : Nat) : Int) rfl rfl (add64 (by omega) (by omega) (by omega))) rfl ?_
        refine as_ ?_
        refine XL.nil ?_
        exact rn (j + 1, v124, B124) ⟨hjl, by dsimp only; rw [hkt, hld, if_pos rfl, mtc_snoc]; simpa [mt1] using hs124⟩ (by dsimp only; omega) (kq 1 (kq 5 (kq 6 (kq 7 (kq 8 (kq 9 (kq 10 (kq 13 (kq 14 kn))))))))) (Fit.pick PickC.perm (Fit.pick PickC.perm (Fit.pick PickC.perm (Fit.pick PickC.perm (Fit.last PickC.perm))))) SubC.sub
       ·
        rw [hc] at hld
        refine XC.skip ?_
        refine nb ?_
        refine nx (kq 1 (kq 5 (kq 6 (kq 7 (kq 8 (kq 9 (kq 10 (kq 13 (kq 14 kn))))))))) ?_
        refine XC.reg1 ?_
        refine mv_ ?_
        refine XL.q (q_num ((j + 1 : Nat) : Int) rfl rfl (add64 (by omega) (by omega) (by omega))) rfl ?_
        refine as_ ?_
        refine XL.nil ?_
        exact rn (j + 1, vr, Br) ⟨hjl, by dsimp only; rw [hkt, hld]; simpa using hsr⟩ (by dsimp only; omega) (kq 1 (kq 5 (kq 6 (kq 7 (kq 8 (kq 9 (kq 10 (kq 13 (kq 14 kn))))))))) (Fit.pick PickC.perm (Fit.pick PickC.perm (Fit.pick PickC.perm (Fit.pick PickC.perm (Fit.last PickC.perm))))) SubC.sub
      ·
       rw [hb, Bool.false_and] at hld
       refine XF.qn hs rfl rfl rfl rfl rfl rfl ?_
       refine XF.qn hs rfl rfl rfl rfl rfl rfl ?_
       refine XF.qn hs rfl rfl rfl rfl rfl rfl ?_
       refine XF.qn hs rfl rfl rfl rfl rfl rfl ?_
       refine XF.rn hs rfl rfl rfl rfl rfl rfl ?_
       refine XF.qn hs rfl rfl rfl rfl rfl rfl ?_
       refine XF.qn hs rfl rfl rfl rfl rfl rfl ?_
       refine XF.qn hs rfl rfl rfl rfl rfl rfl ?_
       refine XF.qn hs rfl rfl rfl rfl rfl rfl ?_
       refine XF.qn hs rfl rfl rfl rfl rfl rfl ?_
       refine XF.rn hs rfl rfl rfl rfl rfl rfl ?_
       refine XF.qn hs rfl rfl rfl rfl rfl rfl ?_
       refine XF.qg hs rfl rfl rfl rfl (q_pickF rfl rfl) rfl ?_
       refine XF.q hs rfl (q_pickF rfl rfl) rfl ?_
       refine XF.fin (kq 1 (kq 5 (kq 6 (kq 7 (kq 8 (kq 9 (kq 10 (kq 13 (kq 14 (kq 117 kn)))))))))) ?_
       refine XC.condF rfl ?_
       refine XC.skip ?_
       refine nb ?_
       refine nx (kq 1 (kq 5 (kq 6 (kq 7 (kq 8 (kq 9 (kq 10 (kq 13 (kq 14 kn))))))))) ?_
       refine XC.reg1 ?_
       refine mv_ ?_
       refine XL.q (q_num ((j + 1 : Nat) : Int) rfl rfl (add64 (by omega) (by omega) (by omega))) rfl ?_
       refine as_ ?_
       refine XL.nil ?_
       exact rn (j + 1, vr, Br) ⟨hjl, by dsimp only; rw [hkt, hld]; simpa using hsr⟩ (by dsimp only; omega) (kq 1 (kq 5 (kq 6 (kq 7 (kq 8 (kq 9 (kq 10 (kq 13 (kq 14 kn))))))))) (Fit.pick PickC.perm (Fit.pick PickC.perm (Fit.pick PickC.perm (Fit.pick PickC.perm (Fit.last PickC.perm))))) SubC.sub
    ·
     have hjl : j = l.length := by simp at hc; omega
     subst hjl
     rw [List.take_length] at hsr
     refine XC.exit ?_
     refine te ?_
     refine re ?_
     refine be rfl ?_
     refine nx (kq 1 (kq 5 (kq 6 (kq 7 (kq 8 (kq 10 (kq 13 kn))))))) ?_
     refine XC.reg ?_
     refine mv_ (as_ ?_)
     refine XL.fin (kq 1 (kq 5 (kq 6 (kq 7 (kq 8 (kq 9 (kq 10 kn))))))) ?_
     refine XC.reg ?_
     refine as_ ?_
     refine XL.fin (kq 1 (kq 5 (kq 6 (kq 7 (kq 8 (kq 9 (kq 10 (kq 15 kn)))))))) ?_
     refine XC.block ?_
     obtain ⟨q, hq⟩ : ∃ q, keepL sg l = q := ⟨_, rfl⟩
     rw [hq] at hI hsr
     have hql : q.length ≤ i2 + 1 := by rw [← hq]; exact Nat.le_trans (List.length_filter_le _ _) hll
     clear hrl
     obtain ⟨va, vg, vs_, vo_, vm, rs, ro, rm, hr⟩ := hK.r
     refine XC.loop (α := Nat) (fun y => [(1, v), (5, .pointer (some ⟨pb, 0, none⟩)), (6, .pointer (some ⟨kb, 0, none⟩)), (7, vs), (8, .int .u32 ((k.next : Nat) : Int)), (9, vr), (10, .int .i64 ((i2 : Nat) : Int)), (15, .int .u32 ((y : Nat) : Int))]) (fun _ => Bs ++ (Bl ++ (MK ++ (MP ++ Br)))) (fun _ => J) (fun y => y ≤ 12) (fun y => 12 - y) 0 (Nat.zero_le _) (kq 1 (kq 5 (kq 6 (kq 7 (kq 8 (kq 9 (kq 10 (kq 15 kn)))))))) .rfl (fun _ h => h) ?_
     rintro mm hmm
     refine XC.seq ?_
     refine XC.reg ?_
     refine mv_ ?_
     refine XL.q (q_cmp (decide (mm < 12)) rfl rfl (ltN mm 12)) rfl ?_
     refine XL.fin (kq 1 (kq 5 (kq 6 (kq 7 (kq 8 (kq 9 (kq 10 (kq 15 (kq 127 kn))))))))) ?_
     refine XC.cond rfl (fun hc => ?_) (fun hc => ?_)
     ·
      have hm12 : mm < 12 := of_decide_eq_true hc
      refine XC.skip ?_
      refine nx (kq 1 (kq 5 (kq 6 (kq 7 (kq 8 (kq 9 (kq 10 (kq 15 kn)))))))) ?_
      refine XC.seq ?_
      refine XC.block ?_
      refine XC.reg ?_
      refine as_ ?_
      refine XL.fin (kq 1 (kq 5 (kq 6 (kq 7 (kq 8 (kq 9 (kq 10 (kq 15 (kq 16 kn))))))))) ?_
      refine XC.block ?_
      refine XC.loop (α := Nat) (fun y => [(1, v), (5, .pointer (some ⟨pb, 0, none⟩)), (6, .pointer (some ⟨kb, 0, none⟩)), (7, vs), (8, .int .u32 ((k.next : Nat) : Int)), (9, vr), (10, .int .i64 ((i2 : Nat) : Int)), (15, .int .u32 ((mm : Nat) : Int)), (16, .int .u8 ((y : Nat) : Int))]) (fun _ => Bs ++ (Bl ++ (MK ++ (MP ++ Br)))) (fun _ => J) (fun y => y ≤ 4) (fun y => 4 - y) 0 (Nat.zero_le _) (kq 1 (kq 5 (kq 6 (kq 7 (kq 8 (kq 9 (kq 10 (kq 15 (kq 16 kn))))))))) .rfl (fun _ h => h) ?_
      rintro cc hcc
      refine XC.seq ?_
      refine XC.reg ?_
      refine mv_ ?_
      refine XL.q (q_cmp (decide (cc < 4)) rfl rfl (ltN cc 4)) rfl ?_
      refine XL.fin (kq 1 (kq 5 (kq 6 (kq 7 (kq 8 (kq 9 (kq 10 (kq 15 (kq 16 (kq 131 kn)))))))))) ?_
      refine XC.cond rfl (fun hc => ?_) (fun hc => ?_)
      ·
       have hc4_ : cc < 4 := of_decide_eq_true hc
       refine XC.skip ?_
       refine nx (kq 1 (kq 5 (kq 6 (kq 7 (kq 8 (kq 9 (kq 10 (kq 15 (kq 16 kn))))))))) ?_
       refine XC.seq ?_
       refine XC.block ?_
       refine XC.reg ?_
       refine as_ ?_
       refine XL.fin (kq 1 (kq 5 (kq 6 (kq 7 (kq 8 (kq 9 (kq 10 (kq 15 (kq 16 (kq 17 kn)))))))))) ?_
       refine XC.seq ?_
       refine XC.reg ?_
       refine as_ ?_
       refine XL.fin (kq 1 (kq 5 (kq 6 (kq 7 (kq 8 (kq 9 (kq 10 (kq 15 (kq 16 (kq 17 (kq 18 kn))))))))))) ?_
       refine XC.block ?_
       refine XC.loop (α := Nat) (fun j => [(1, v), (5, .pointer (some ⟨pb, 0, none⟩)), (6, .pointer (some ⟨kb, 0, none⟩)), (7, vs), (8, .int .u32 ((k.next : Nat) : Int)), (9, vr), (10, .int .i64 ((i2 : Nat) : Int)), (15, .int .u32 ((mm : Nat) : Int)), (16, .int .u8 ((cc : Nat) : Int)), (17, .bool (decide ((mm, cc) ∈ q.take j))), (18, .int .i64 ((j : Nat) : Int))]) (fun _ => Bs ++ (Bl ++ (MK ++ (MP ++ Br)))) (fun _ => J) (fun j => j ≤ q.length) (fun j => q.length - j) 0 (Nat.zero_le _) (kq 1 (kq 5 (kq 6 (kq 7 (kq 8 (kq 9 (kq 10 (kq 15 (kq 16 (kq 17 (kq 18 kn))))))))))) .rfl (fun _ h => h) ?_
       rintro j hj
       refine XC.seq ?_
       refine XC.reg ?_
       refine mv_ (mv_ ?_)
       refine XL.q (q_lenV2 (sz := 2) rfl (by kernel_rfl) (hsr.rd (R := Br) fun _ h => h)) rfl ?_
       refine XL.q (q_bin rfl rfl rfl) rfl ?_
       refine XL.fin (kq 1 (kq 5 (kq 6 (kq 7 (kq 8 (kq 9 (kq 10 (kq 15 (kq 16 (kq 17 (kq 18 (kq 137 kn)))))))))))) ?_
       refine XC.cond rfl (fun hc => ?_) (fun hc => ?_)
       ·
        have hjl : j < q.length := by simp at hc; omega
        obtain ⟨y, hy⟩ : ∃ y, q[j]? = some y := ⟨_, List.getElem?_eq_getElem hjl⟩
        have htd := takeM_dec (m := mm) (c := cc) hy
        refine XC.skip ?_
        refine nx (kq 1 (kq 5 (kq 6 (kq 7 (kq 8 (kq 9 (kq 10 (kq 15 (kq 16 (kq 17 (kq 18 kn))))))))))) ?_
        refine XC.seq ?_
        refine XC.block ?_
        refine XC.reg1 ?_
        refine mv_ (mv_ ?_)
        refine XL.split (t := 141) rfl (fun hb => ?_) (fun hb => ?_)
        ·
         rw [hb, Bool.true_or] at htd
         refine XL.gn rfl rfl rfl rfl ?_
         refine XL.gn rfl rfl rfl rfl ?_
         refine XL.gn rfl rfl rfl rfl ?_
         refine XL.gn rfl rfl rfl rfl ?_
         refine XL.gn rfl rfl rfl rfl ?_
         refine XL.gn rfl rfl rfl rfl ?_
         refine XL.gn rfl rfl rfl rfl ?_
         refine XL.gn rfl rfl rfl rfl ?_
         refine XL.gu rfl rfl rfl ?_
         refine XL.gu rfl rfl rfl ?_
         refine XL.gu rfl rfl rfl ?_
         refine XL.gu rfl rfl rfl ?_
         refine XL.gu rfl rfl rfl ?_
         refine XL.gu rfl rfl rfl ?_
         refine XL.gu rfl rfl rfl ?_
         refine XL.gn rfl rfl rfl rfl ?_
         refine XL.q (q_pickT rfl rfl) rfl ?_
         refine as_ ?_
         refine XL.nil ?_
         refine nb ?_
         refine nx (kq 1 (kq 5 (kq 6 (kq 7 (kq 8 (kq 9 (kq 10 (kq 15 (kq 16 (kq 17 (kq 18 kn))))))))))) ?_
         refine XC.reg1 ?_
         refine mv_ ?_
         refine XL.q (q_num ((j + 1 : Nat) : Int) rfl rfl (add64 (by omega) (by omega) (by omega))) rfl ?_
         refine as_ ?_
         refine XL.nil ?_
         exact rn (j + 1) hjl (by omega) (kq 1 (kq 5 (kq 6 (kq 7 (kq 8 (kq 9 (kq 10 (kq 15 (kq 16 (kp 17 (by rw [htd]; rfl) (kq 18 kn))))))))))) .rfl (fun _ h => h)
        ·
         rw [hb, Bool.false_or] at htd
         refine XL.gy rfl rfl (OpQ.opL qm_ rfl ?_)
         refine XL.gy rfl rfl (OpQ.opL qm_ rfl ?_)
         refine XL.gy rfl rfl (OpQ.opL (q_atV2 (sz := 2) rfl rfl (by kernel_rfl) rfl (hsr.rd (R := Br) fun _ h => h) hjl) rfl ?_)
         refine XL.gy rfl rfl (OpQ.opL (q_fldV (off := 0) rfl (hsr.rd (R := Br) fun _ h => h) hjl (by kernel_rfl)) rfl ?_)
         refine XL.gy rfl rfl (OpQ.opL (q_ldVF (u := .int .u32 ((y.1 : Nat) : Int)) rfl (hsr.rd SubC.sub) (by omega) (by kernel_rfl) (by rw [mt_get hy 0 (by decide)]; rfl)) rfl ?_)
         refine XL.gy rfl rfl (OpQ.opL qm_ rfl ?_)
         refine XL.gy rfl rfl (OpQ.opL (q_cmp (decide (y.1 = mm)) rfl rfl (eq32 _ _)) rfl ?_)
         refine XL.gy rfl rfl (OpQ.opL qm_ rfl ?_)
         refine XL.split (t := 149) rfl (fun hb => ?_) (fun hb => ?_)
         ·
          rw [hb, Bool.true_and] at htd
          refine XL.gy rfl rfl (OpQ.opL qm_ rfl ?_)
          refine XL.gy rfl rfl (OpQ.opL qm_ rfl ?_)
          refine XL.gy rfl rfl (OpQ.opL (q_atV2 (sz := 2) rfl rfl (by kernel_rfl) rfl (hsr.rd (R := Br) fun _ h => h) hjl) rfl ?_)
          refine XL.gy rfl rfl (OpQ.opL (q_fldV (off := 1) rfl (hsr.rd (R := Br) fun _ h => h) hjl (by kernel_rfl)) rfl ?_)
          refine XL.gy rfl rfl (OpQ.opL (q_ldVF (u := .int .u8 ((y.2 : Nat) : Int)) rfl (hsr.rd SubC.sub) (by omega) (by kernel_rfl) (by rw [mt_get hy 1 (by decide)]; rfl)) rfl ?_)
          refine XL.gy rfl rfl (OpQ.opL qm_ rfl ?_)
          refine XL.gy rfl rfl (OpQ.opL (q_cmp (decide (y.2 = cc)) rfl rfl (eqN _ _)) rfl ?_)
          refine XL.gy rfl rfl (OpQ.opL (q_pickT rfl rfl) rfl ?_)
          refine XL.q (q_pickF rfl rfl) rfl ?_
          refine as_ ?_
          refine XL.nil ?_
          refine nb ?_
          refine nx (kq 1 (kq 5 (kq 6 (kq 7 (kq 8 (kq 9 (kq 10 (kq 15 (kq 16 (kq 17 (kq 18 kn))))))))))) ?_
          refine XC.reg1 ?_
          refine mv_ ?_
          refine XL.q (q_num ((j + 1 : Nat) : Int) rfl rfl (add64 (by omega) (by omega) (by omega))) rfl ?_
          refine as_ ?_
          refine XL.nil ?_
          exact rn (j + 1) hjl (by omega) (kq 1 (kq 5 (kq 6 (kq 7 (kq 8 (kq 9 (kq 10 (kq 15 (kq 16 (kp 17 (by rw [htd]; rfl) (kq 18 kn))))))))))) .rfl (fun _ h => h)
         ·
          rw [hb, Bool.false_and] at htd
          refine XL.gn rfl rfl rfl rfl ?_
          refine XL.gn rfl rfl rfl rfl ?_
          refine XL.gn rfl rfl rfl rfl ?_
          refine XL.gn rfl rfl rfl rfl ?_
          refine XL.gn rfl rfl rfl rfl ?_
          refine XL.gn rfl rfl rfl rfl ?_
          refine XL.gn rfl rfl rfl rfl ?_
          refine XL.gy rfl rfl (OpQ.opL (q_pickF rfl rfl) rfl ?_)
          refine XL.q (q_pickF rfl rfl) rfl ?_
          refine as_ ?_
          refine XL.nil ?_
          refine nb ?_
          refine nx (kq 1 (kq 5 (kq 6 (kq 7 (kq 8 (kq 9 (kq 10 (kq 15 (kq 16 (kq 17 (kq 18 kn))))))))))) ?_
          refine XC.reg1 ?_
          refine mv_ ?_
          refine XL.q (q_num ((j + 1 : Nat) : Int) rfl rfl (add64 (by omega) (by omega) (by omega))) rfl ?_
          refine as_ ?_
          refine XL.nil ?_
          exact rn (j + 1) hjl (by omega) (kq 1 (kq 5 (kq 6 (kq 7 (kq 8 (kq 9 (kq 10 (kq 15 (kq 16 (kp 17 (by rw [htd]; rfl) (kq 18 kn))))))))))) .rfl (fun _ h => h)
       ·
        have hjl : j = q.length := by simp at hc; omega
        subst hjl
        refine XC.exit ?_
        refine te ?_
        refine re ?_
        refine be rfl ?_
        refine nx (kq 1 (kq 5 (kq 6 (kq 7 (kq 8 (kq 9 (kq 10 (kq 15 (kq 16 (kq 17 kn)))))))))) ?_
        refine XC.reg ?_
        refine mv_ (mv_ (mv_ ?_))
        refine XL.lo rfl (l_buildSlice (e := 5) (sz := 1) (z := [.int .u8 0]) (by kernel_rfl) (eS rfl e0) (bdS 0 1 rfl (by rfl) bd0) rfl fun b162 => ?_)
        refine XL.callV (aS rfl (aS rfl (aS rfl a0))) (by kernel_rfl) (met_f kb k va vg vs_ vo_ vm rs ro rm (.slice (some ⟨b162, 0, none⟩) 1 1) mm [cc] _ (hr _ SubC.sub SubC.sub) (lit_byk At.mem rfl (fun x hx => by rw [List.mem_singleton.1 hx]; omega) (show 1 ≤ 16777216 by decide))) rfl ?_
        rw [hI.met]
        rw [List.take_length]
        refine mv_ ?_
        refine XL.q (q_boolNeR false rfl rfl (by kernel_rfl) (by simp)) rfl ?_
        refine XL.fin (kq 1 (kq 5 (kq 6 (kq 7 (kq 8 (kq 9 (kq 10 (kq 15 (kq 16 (kq 165 kn)))))))))) ?_
        refine XC.condF rfl ?_
        refine XC.skip ?_
        refine nb ?_
        refine nx (kq 1 (kq 5 (kq 6 (kq 7 (kq 8 (kq 9 (kq 10 (kq 15 (kq 16 kn))))))))) ?_
        refine XC.reg1 ?_
        refine mv_ ?_
        refine XL.q (q_addS 256 (a := cc) (b := 1) rfl rfl rfl rfl rfl rfl (by omega)) rfl ?_
        refine as_ ?_
        refine XL.nil ?_
        exact rn (cc + 1) (by omega) (by omega) (kq 1 (kq 5 (kq 6 (kq 7 (kq 8 (kq 9 (kq 10 (kq 15 (kq 16 kn))))))))) (Fit.sub (by simp)) (fun _ h => h)
      ·
       have hc4_ : ¬ cc < 4 := of_decide_eq_false hc
       refine XC.exit ?_
       refine te ?_
       refine re ?_
       refine be rfl ?_
       refine nb ?_
       refine nx (kq 1 (kq 5 (kq 6 (kq 7 (kq 8 (kq 9 (kq 10 (kq 15 kn)))))))) ?_
       refine XC.reg1 ?_
       refine mv_ ?_
       refine XL.q (q_addS 4294967296 (a := mm) (b := 1) rfl rfl rfl rfl rfl rfl (by omega)) rfl ?_
       refine as_ ?_
       refine XL.nil ?_
       exact rn (mm + 1) (by omega) (by omega) (kq 1 (kq 5 (kq 6 (kq 7 (kq 8 (kq 9 (kq 10 (kq 15 kn)))))))) .rfl (fun _ h => h)
     ·
      have hm12 : ¬ mm < 12 := of_decide_eq_false hc
      refine XC.exit ?_
      refine te ?_
      refine re ?_
      refine be rfl ?_
      refine nb ?_
      refine nx (kq 1 (kq 5 (kq 6 (kq 7 (kq 8 (kq 9 (kq 10 kn))))))) ?_
      refine XC.reg1 ?_
      refine mv_ ?_
      refine XL.q (q_num ((i2 + 1 : Nat) : Int) rfl rfl (add64 (by omega) (by omega) (by omega))) rfl ?_
      refine as_ ?_
      refine XL.nil ?_
      exact rn ⟨i2 + 1, k, s, sg, q, vs, vr, Bs, Br, MK, MP, J⟩ ⟨by dsimp only; omega, hI, hsm, hql, hss, hsr, hK, hP, fun z hz => hl4 z (List.mem_filter.1 (hq ▸ hz)).1⟩ (by dsimp only; omega) (kq 1 (kq 5 (kq 6 (kq 7 (kq 8 (kq 9 (kq 10 kn))))))) (Fit.pick PickC.perm (Fit.pick PickC.perm (Fit.pick PickC.perm (Fit.last PickC.perm)))) (fun _ h => h)
  ·
   have hge : i = ws.length := by simp at hc; omega
   refine XC.exit ?_
   refine te ?_
   refine re ?_
   refine be rfl ?_
   refine nx (kq 6 (kq 9 kn)) ?_
   have hback := hI.back
   have hol := hI.t.olen
   have hsgl : k.signed.length ≤ 2 := hI.ok.signed.1
   have hsz := enc_small hsm hsgl (by rw [hol]; decide) hI.ids (by omega)
   have hmet := hI.met
   obtain ⟨va, vg, vs_, vo_, vm, rs, ro, rm, hr⟩ := hK.r
   obtain ⟨we, hwe⟩ : ∃ w, encK k = w := ⟨_, rfl⟩
   have hus : ∃ u : Nat, k.user = (u : Int) ∧ u < 4294967296 := ⟨2, hI.who.1, by decide⟩
   have hds : ∃ u : Nat, k.dev = (u : Int) ∧ u < 4294967296 := ⟨2, hI.who.2, by decide⟩
   refine XC.frz (B := Bs ++ (Bl ++ MK)) PickC.perm ?_
   refine XC.reg ?_
   refine mv_ ?_
   refine XL.call (aS rfl a0) (by kernel_rfl) (encode_f kb k va vg vs_ vo_ vm rs ro rm _ (hr _ SubC.sub SubC.sub) hus hds (by omega)) rfl ?_
   rintro v168 M168 J168 ⟨rfl, h168⟩
   haveI := h168.cel
   rw [hwe] at h168 hback hsz
   refine XL.lo rfl (l_call0 (aS rfl a0) (by kernel_rfl) (decode_f v168 we _ (h168.mono SubC.sub) (by omega)) rfl ?_)
   intro v169 M169 J169 h169
   obtain ⟨-, kb2, rfl, hK2⟩ := h169.resolve_right (fun h => by have := h.1; rw [hback.2] at this; cases this)
   rw [hback.1] at hK2
   obtain ⟨xa, xg, xs, xo, xm, ys, yo, ym, hr2⟩ := hK2.r
   refine mv_ ?_
   refine XL.q (q_x0 rfl) rfl ?_
   refine XL.q (q_x1 rfl) rfl ?_
   refine as_ (as_ ?_)
   refine XL.fin (kq 6 (kq 9 (kq 19 (kq 20 kn)))) ?_
   refine XC.drawF [0, 1, 2, 3, 4, 5, 6, 7, 8, 9, 10, 11, 12, 13, 14, 15, 16, 17, 18, 19, 20, 21, 22, 23, 24, 25, 26, 27, 28, 29] [(0, 0), (1, 0), (2, 0), (3, 0), (6, 0), (4, 2), (5, 1), (7, 2), (8, 1), (9, 0), (10, 0), (11, 0), (12, 0), (13, 0), (14, 0), (15, 0), (16, 0), (17, 0), (18, 0), (19, 0), (20, 1), (21, 0), (22, 0), (23, 0), (24, 1), (25, 2), (26, 2), (27, 0), (28, 0), (29, 0)] (by kernel_rfl) (by kernel_rfl) fun hs => ?_
   refine XF.q hs rfl qm_ rfl ?_
   refine XF.q hs rfl (q_cmp true rfl rfl (eqT rfl)) rfl ?_
   refine XF.q hs rfl qm_ rfl ?_
   refine XF.qg hs rfl rfl rfl rfl qm_ rfl ?_
   refine XF.qg hs rfl rfl rfl rfl qm_ rfl ?_
   refine XF.callg rfl rfl rfl rfl (aS rfl a0) (by kernel_rfl) (encode_f kb2 k xa xg xs xo xm ys yo ym _ (hr2 _ SubC.sub SubC.sub) hus hds (by rw [hwe]; omega)) rfl ?_
   rintro v176 M176 J176 ⟨rfl, h176⟩
   haveI := h176.cel
   rw [hwe] at h176
   refine XF.rg hs rfl rfl rfl rfl (q_toStr2 rfl (by kernel_rfl) (h176.rd.mono SubC.sub)) rfl ?_
   refine XF.callg rfl rfl rfl rfl (aS rfl a0) (by kernel_rfl) (encode_f kb k va vg vs_ vo_ vm rs ro rm _ (hr _ SubC.sub SubC.sub) hus hds (by rw [hwe]; omega)) rfl ?_
   rintro v179 M179 J179 ⟨rfl, h179⟩
   haveI := h179.cel
   rw [hwe] at h179
   refine XF.rg hs rfl rfl rfl rfl (q_toStr2 rfl (by kernel_rfl) (h179.rd.mono SubC.sub)) rfl ?_
   refine XF.qg hs rfl rfl rfl rfl ((show (decide (we = we)) = true by simp) ▸ q_sEq rfl rfl rfl rfl h176.lt h179.lt) rfl ?_
   refine XF.q hs rfl (q_pickT rfl rfl) rfl ?_
   refine XF.q hs rfl qm_ rfl ?_
   refine XF.qg hs rfl rfl rfl rfl qm_ rfl ?_
   refine XF.qg hs rfl rfl rfl rfl (q_lenV2 (sz := 2) rfl (by kernel_rfl) (hsl.rd (R := Bl) fun _ h => h)) rfl ?_
   refine XF.qg hs rfl rfl rfl rfl (q_cmp (decide (l.length = 0)) rfl rfl (eqN _ 0)) rfl ?_
   refine XF.qg hs rfl rfl rfl rfl qm_ rfl ?_
   refine XF.split (t := 187) rfl (fun hb => ?_) (fun hb => ?_)
   ·
    refine XF.qn hs rfl rfl rfl rfl rfl rfl ?_
    refine XF.qn hs rfl rfl rfl rfl rfl rfl ?_
    refine XF.qn hs rfl rfl rfl rfl rfl rfl ?_
    refine XF.qn hs rfl rfl rfl rfl rfl rfl ?_
    refine XF.rn hs rfl rfl rfl rfl rfl rfl ?_
    refine XF.qn hs rfl rfl rfl rfl rfl rfl ?_
    refine XF.qn hs rfl rfl rfl rfl rfl rfl ?_
    refine XF.qn hs rfl rfl rfl rfl rfl rfl ?_
    refine XF.rn hs rfl rfl rfl rfl rfl rfl ?_
    refine XF.ln hs rfl rfl rfl rfl rfl rfl ?_
    refine XF.ln hs rfl rfl rfl rfl rfl rfl ?_
    refine XF.qg hs rfl rfl rfl rfl (q_pickT rfl rfl) rfl ?_
    refine XF.q hs rfl (q_pickT rfl rfl) rfl ?_
    refine XF.q hs rfl (q_assign rfl) rfl ?_
    refine XF.fin (kq 4 kn) ?_
    refine XC.ret ?_
    exact ⟨_, [], [], res1 rfl rfl, List.nil_sublist _, by simp, rfl, rfl, rfl⟩
   ·
    have h0l : 0 < l.length := by have := of_decide_eq_false hb; omega
    obtain ⟨y, hy⟩ : ∃ y, l[0]? = some y := ⟨_, List.getElem?_eq_getElem h0l⟩
    have hyl := List.mem_of_getElem? hy
    have hyb : y.2 < 256 := Nat.lt_trans (hl4 y hyl) (by decide)
    refine XF.qg hs rfl rfl rfl rfl qm_ rfl ?_
    refine XF.qg hs rfl rfl rfl rfl qm_ rfl ?_
    refine XF.qg hs rfl rfl rfl rfl (q_atV2 (sz := 2) (a := 0) rfl rfl (by kernel_rfl) rfl (hsl.rd (R := Bl) fun _ h => h) h0l) rfl ?_
    refine XF.qg hs rfl rfl rfl rfl (q_fldV (off := 0) rfl (hsl.rd (R := Bl) fun _ h => h) h0l (by kernel_rfl)) rfl ?_
    refine XF.rg hs rfl rfl rfl rfl (q_ldVF (u := .int .u32 ((y.1 : Nat) : Int)) rfl (hsl.rd SubC.sub) (by omega) (by kernel_rfl) (by rw [mt_get hy 0 (by decide)]; rfl)) rfl ?_
    refine XF.qg hs rfl rfl rfl rfl qm_ rfl ?_
    refine XF.qg hs rfl rfl rfl rfl (q_atV2 (sz := 2) (a := 0) rfl rfl (by kernel_rfl) rfl (hsl.rd (R := Bl) fun _ h => h) h0l) rfl ?_
    refine XF.qg hs rfl rfl rfl rfl (q_fldV (off := 1) rfl (hsl.rd (R := Bl) fun _ h => h) h0l (by kernel_rfl)) rfl ?_
    refine XF.rg hs rfl rfl rfl rfl (q_ldVF (u := .int .u8 ((y.2 : Nat) : Int)) rfl (hsl.rd SubC.sub) (by omega) (by kernel_rfl) (by rw [mt_get hy 1 (by decide)]; rfl)) rfl ?_
    refine XF.lg rfl rfl rfl rfl fun _ => (l_buildSlice (e := 5) (sz := 1) (z := [.int .u8 0]) (by kernel_rfl) (eS rfl e0) (bdS 0 1 rfl (by rfl) bd0) rfl fun b197 => ?_)
    refine XF.callVg rfl rfl rfl rfl (aS rfl (aS rfl (aS rfl a0))) (by kernel_rfl) (met_f kb2 k xa xg xs xo xm ys yo ym (.slice (some ⟨b197, 0, none⟩) 1 1) y.1 [y.2] _ (hr2 _ SubC.sub SubC.sub) (lit_byk At.mem rfl (fun x hx => by rw [List.mem_singleton.1 hx]; exact hyb) (show 1 ≤ 16777216 by decide))) rfl ?_
    rw [hmet, decide_eq_true (show (y.1, y.2) ∈ l from hyl)]
    refine XF.qg hs rfl rfl rfl rfl (q_pickF rfl rfl) rfl ?_
    refine XF.q hs rfl (q_pickT rfl rfl) rfl ?_
    refine XF.q hs rfl (q_assign rfl) rfl ?_
    refine XF.fin (kq 4 kn) ?_
    refine XC.ret ?_
    exact ⟨_, [], [], res1 rfl rfl, List.nil_sublist _, by simp, rfl, rfl, rfl⟩

end Go.Proofs.YtphcaiplgpmnnaaGreatDoor
/- Terms that came in; what the rows' lists give. -/
namespace Go.Proofs.YtphcaiplgpmnnaaGreatDoor
open Go.Px Go.ChangeShapes Go.WideShapes Go.ChangeAt Go.RowKit
section
variable {H : Type} {enc : TypeId × Value → H} {P : Program} {w : World} {spare : Nat → Bool} {held : Bool} {fuel : Nat} {t e : TypeId} {cs : List Value} {x : DataW H × List MemPlace} {v : Value} {d : DataW H} {p : List MemPlace} {r : Reach} {base : Nat} {k : IntKind}
end
theorem var_heap {P : Program} {W : World} {name : String} {g : Nat} {cs : Array Value} (hg : P.globalNamed name = some g) (h : W.var? P name = some cs) : ∃ e fr, W.heap[g]? = some (.cells cs e fr) := by
  unfold World.var? at h
  rw [hg] at h
  simp only [Option.bind_some] at h
  split at h
  · rename_i c e fr hh
    cases h
    exact ⟨e, fr, hh⟩
  · cases h
def zints (ws : List Nat) : List Int := ws.map fun n : Nat => (n : Int)
theorem zints_nums (k : IntKind) (ws : List Nat) : ((zints ws).map fun z => Value.int k z).toArray = (nums k ws).toArray := by simp [zints, nums]
theorem pow_tab {W : World} {a b : String × DataW Unit} {rest : List (String × DataW Unit)} (h : laidMet Tryz.prog (a :: b :: ("internal/strconv.uint64pow10", Rows.laid_internal_strconv_uint64pow10) :: rest) W) : ∃ e fr, W.heap[2]? = some (Obj.cells (nums .u64 pow10T).toArray e fr) := by
  have h' : laidMet Tryz.prog (("internal/strconv.uint64pow10", Lib.tabData .u64 (zints pow10T)) :: rest) W := h.tail.tail
  have h1 := Lib.tabIs_of_head (g := 2) (t := 240) (e := 28) (n := 20) (by kernel_rfl) (by kernel_rfl) (by kernel_rfl) (by kernel_rfl) (by kernel_rfl) (by kernel_rfl) h'
  obtain ⟨ek, fk, h3⟩ := var_heap (g := 2) (by kernel_rfl) h1
  rw [zints_nums] at h3
  exact ⟨ek, fk, h3⟩
end Go.Proofs.YtphcaiplgpmnnaaGreatDoor

/- What the rows' lists give: the tables of packages sha and strconv. -/
namespace Go.Proofs.YtphcaiplgpmnnaaGreatDoor
open Go.Px
theorem glb_in {W : World} {a b : String × DataW Unit} {rest : List (String × DataW Unit)} (h : laidMet Tryz.prog (a :: b :: ("internal/strconv.uint64pow10", Rows.laid_internal_strconv_uint64pow10) :: ("pawl/sha.round", Rows.laid_pawl_sha_round) :: ("pawl/sha.first", Rows.laid_pawl_sha_first) :: rest) W) : Glb (heapA W) := by
  obtain ⟨e4, f4, h4⟩ := pow_tab h
  have h' : laidMet Tryz.prog (("pawl/sha.round", Lib.tabData .u32 (zints kTab)) :: ("pawl/sha.first", Lib.tabData .u32 (zints hFirst.list)) :: rest) W := h.tail.tail.tail
  have h1 := Lib.tabIs_of_head (g := 1) (t := 194) (e := 22) (n := 64) (by kernel_rfl) (by kernel_rfl) (by kernel_rfl) (by kernel_rfl) (by kernel_rfl) (by kernel_rfl) h'
  have h2 := Lib.tabIs_of_head (g := 0) (t := 159) (e := 22) (n := 8) (by kernel_rfl) (by kernel_rfl) (by kernel_rfl) (by kernel_rfl) (by kernel_rfl) (by kernel_rfl) h'.tail
  obtain ⟨ek, fk, h3⟩ := var_heap (g := 1) (by kernel_rfl) h1
  obtain ⟨ef, ff, h5⟩ := var_heap (g := 0) (by kernel_rfl) h2
  rw [zints_nums] at h3 h5
  exact ⟨⟨ef, ff, heapA_mem.2 h5⟩, ⟨ek, fk, heapA_mem.2 h3⟩, ⟨e4, f4, heapA_mem.2 h4⟩⟩
end Go.Proofs.YtphcaiplgpmnnaaGreatDoor

/- The card of the law KeysMeets: it returns true for every input; each argument reads behind the call as it read before; the listed package variables are tied to the program's text. No further condition. -/
namespace Go.Proofs.YtphcaiplgpmnnaaGreatDoor.keysMeets
open Go.ChangeShapes Go.WideShapes Go.ChangeAt Go.RowKit

theorem own : ownKnob Tryz.prog.godebug = none := by kernel_rfl
theorem laidOut : laidOutB Tryz.prog = true := by kernel_rfl

noncomputable def laidWorld (os : Os) : World := World.laidAll Tryz.prog os Rows.keysMeetsRow.laid
theorem laid_met (os : Os) : laidMetH Tryz.prog Rows.keysMeetsRow.laid ((laidWorld os).forCall (fun _ _ => 0) ⟨#[], #[.int .u8 0, .slice none 0 0], []⟩).memory := by
  rw [MakeChecks.laidMetH_plain _ _ _ (by kernel_rfl)]; exact laidMet_laidAll _ (by kernel_rfl) (by kernel_rfl)
theorem reads (os : Os) {H : Type} (enc : TypeId × Value → H) : ∃ places, DataW.whole enc Tryz.prog ((laidWorld os).forCall (fun _ _ => 0) ⟨#[], #[.int .u8 0, .slice none 0 0], []⟩).memory Tryz.f6.params.toList Rows.keysMeetsSpec.vars false (#[.int .u8 0, .slice none 0 0] : Array Value).toList 8 = some ([.lit (.int .u8 0), .nil], [], places) :=
  ⟨[], by kernel_rfl⟩

theorem lifted (os : Os) (started : os.Started) (H : Type) (enc : TypeId × Value → H) (F : Stop.Interp) :
    ReturnsInHanded {} Tryz.checked os 6 .any ((OpenSpec.ofChange Rows.keysMeetsSpec).preRow enc Tryz.prog Tryz.f6 Rows.keysMeetsRow.domain false Rows.keysMeetsRow.laid) (((OpenSpec.ofChange Rows.keysMeetsSpec).at F).post enc Tryz.prog Tryz.f6 false true false false) := by
  obtain ⟨places, hx⟩ := reads os enc
  refine returnsInHanded_of_row (C := Tryz.checked) (s := (OpenSpec.ofChange Rows.keysMeetsSpec)) own started (by kernel_rfl) Tryz.func6
    (witness_row_at (enc := enc) (C := Tryz.checked) false (laidWorld os) #[.int .u8 0, .slice none 0 0] (World.laidAll_os _ _ _) (by kernel_rfl) (by kernel_rfl) (by kernel_rfl)
      (OpenSpec.preRow_of_cond 8 hx (by kernel_rfl) (fun k hk => by cases hk) (by kernel_rfl) (laid_met os))) ?_
  intro W base args ds gs before hval0 hW _ _ _ hL _ _
  have hval : ∀ (j : Nat) t v, Tryz.f6.params[j]? = some t → args[j]? = some v → Value.okWide Tryz.prog W .any base t v := hval0
  have hW' := hW
  obtain ⟨p, q, hA0, hV, rfl, hfz, hnd⟩ := hW
  have hA : DataW.TrodAll enc Tryz.prog W 0 (fun _ => true) true Tryz.f6.params.toList args.toList ds p := hA0
  rw [Tryz.params6] at hA hval
  obtain ⟨v0, vs0, d0, ds0, p0, q0, hargs, rfl, rfl, k0, r0_⟩ := trodAll_cons hA
  obtain ⟨v1, vs1, d1, ds1, p1, q1, rfl, rfl, rfl, k1, r1_⟩ := trodAll_cons r0_
  obtain ⟨rfl, rfl, rfl⟩ := trodAll_nil r1_
  obtain rfl : args = #[v0, v1] := by cases args; simp_all
  obtain ⟨rfl, rfl⟩ := trodVars_none hV
  have lt0 : ∀ x ∈ p0, x.block < W.heap.size := by obtain ⟨m, hm⟩ := k0; exact DataW.trod_lt m _ _ _ hm
  have lt1 : ∀ x ∈ p1, x.block < W.heap.size := by obtain ⟨m, hm⟩ := k1; exact DataW.trod_lt m _ _ _ hm
  obtain ⟨x0, rfl, hx0⟩ := Px.inU Tryz.underlying5 rfl (hval 0 5 v0 rfl rfl) k0
  obtain ⟨x1, r1, hx1, l1⟩ := Px.inSlU Tryz.underlying23 Tryz.underlying5 (by kernel_rfl) rfl (hval 1 23 v1 rfl rfl) k1
  clear hA0 hval0
  rw [MakeChecks.laidMetH_plain _ _ _ (by kernel_rfl)] at hL
  have hG := glb_in hL
  refine Calls.mono ((keysMeets_f x0 v1 x1 _ hx0 r1 hx1 hG).calls (Px.heapA_fx W)) fun e W' ⟨he, bel⟩ => ?_
  subst he
  exact ⟨_, rfl, _, _, _, [], _, [], hW', trodAll_mk1 (shut_bool Tryz.underlying4 _), (trodAll_cons_mk (Below.trod laidOut (by kernel_rfl) (of_decide_eq_true (by kernel_rfl)) k0 bel lt0) (trodAll_cons_mk (Below.trod laidOut (by kernel_rfl) (of_decide_eq_true (by kernel_rfl)) k1 bel lt1) trodAll_mk0)), rfl, bel.frame _, fun h => by cases h⟩

theorem said : Rows.KeysMeetsSaid :=
  OpenClaim.holds_of_cond 6 Tryz.f6 rfl rfl rfl rfl rfl rfl rfl ⟨rfl, rfl, rfl, rfl, rfl⟩ rfl rfl rfl rfl rfl (by kernel_rfl) Tryz.func6 (by kernel_rfl)
    (of_decide_eq_true (by kernel_rfl)) (by unfold Func.isWrapper; first | (rw [if_pos (by decide +kernel)]; kernel_rfl) | (rw [if_neg (by decide +kernel)]; exact ⟨rfl, rfl⟩))
    (fun os started H enc _ F => by rw [OpenClaim.pre_eq_preRow]; exact lifted os started H enc F)
theorem plain (f : FuncId) (fn : Func) (hf : Tryz.pinned.checked.prog.funcNamed "pawl/pawllaw12.KeysMeets" = some f) (hfn : Tryz.pinned.checked.prog.funcs[f]? = some fn) :
    true = Tryz.pinned.checked.prog.looks [] ∧ ∀ (j : Nat) t, fn.params[j]? = some t → Tryz.pinned.checked.prog.wantsStandIn t = false := by
  obtain rfl : f = 6 := Option.some.inj ((show Tryz.prog.funcNamed "pawl/pawllaw12.KeysMeets" = some 6 by kernel_rfl).symm.trans hf) |>.symm
  obtain rfl : fn = Tryz.f6 := (Option.some.inj (Tryz.func6.symm.trans hfn)).symm
  refine ⟨by kernel_rfl, fun j t ht => ?_⟩
  rw [Tryz.params6] at ht
  have hm := Array.mem_of_getElem? ht
  simp only [List.mem_toArray, List.mem_cons, List.not_mem_nil, or_false] at hm
  rcases hm with rfl | rfl
  · exact (show Tryz.prog.wantsStandIn 5 = false by kernel_rfl)
  · exact (show Tryz.prog.wantsStandIn 23 = false by kernel_rfl)

theorem proved : Rows.KeysMeetsCardSaid :=
  Claim7.holds_tied_plain_at .later [] _ _ _ _ said (fun _ h => by cases h) (by kernel_rfl) (fun _ h => by cases h) keysMeets_row_tie rfl ⟨rfl, rfl⟩ (by kernel_rfl) rfl plain (by kernel_rfl)
#print axioms proved
end Go.Proofs.YtphcaiplgpmnnaaGreatDoor.keysMeets



