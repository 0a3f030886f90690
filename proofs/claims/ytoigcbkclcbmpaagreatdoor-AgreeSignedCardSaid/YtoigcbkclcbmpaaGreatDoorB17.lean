/- Part 17 of the texts of this claim, one behind the other. -/
import Derived.Test.YtoigcbkclcbmpaaGreatDoorB16
import Derived.Laws.StructEq
set_option linter.unusedVariables false
set_option linter.unusedSimpArgs false
set_option maxRecDepth 100000
namespace Go.Proofs.YtoigcbkclcbmpaaGreatDoor
open Go.Px
def snN (k : Ks) : LN := k.signed.map (·.n)
def onN (k : Ks) : LN := k.once.map (·.n)
theorem B8q (k : Ks) (s : Ps) : onN (Z6 k s).1 = onN k := rfl
theorem A9f (k : Ks) (s : Ps) : ∀ i, onN (fillI k s i).1 = onN k ++ (List.range i).map (k.next + ·)
  | 0 => by simp [fillI]
  | i + 1 => by
    have h := A9f k s i
    have hn := A0w k s i
    show List.map (fun x : Pr => x.n) ((fillI k s i).1.once ++ [_]) = _
    unfold onN at h ⊢
    rw [List.map_append, h, List.range_succ, List.map_append, ← List.append_assoc]
    simp [hn]
theorem B8r (k : Ks) (s : Ps) : onN (A1M k s).1 = onN k ++ (List.range (4 - k.once.length)).map (k.next + ·) := A9f k s _
theorem B2w (k : Ks) (s : Ps) : (A1M k s).1 = { k with once := (A1M k s).1.once, next := k.next + (4 - k.once.length) } := A5W k s _
theorem B2x (k : Ks) (s : Ps) : (A1M k s).1.next = k.next + (4 - k.once.length) := by rw [B2w]
theorem C0y (u d : Int) (s : Ps) : onN (A4Q u d s).1 = [2, 3, 4, 5] := by
  unfold A4Q; rw [B8r, B8q]; rfl
theorem B5f (u d : Int) (s : Ps) : (A4Q u d s).1.next = 6 := by
  unfold A4Q; rw [B2x]; rfl
theorem B6r (k : Ks) : (onN k).length = k.once.length := List.length_map ..
theorem B2y {l : List Pr} (h : (l.map (·.n)).Pairwise (· < ·)) : B6q l := by
  intro i j x y hij hx hy
  have h1 := List.pairwise_iff_getElem.1 h i j (by rw [List.length_map]; exact (List.getElem?_eq_some_iff.1 hx).1) (by rw [List.length_map]; exact (List.getElem?_eq_some_iff.1 hy).1) hij
  obtain ⟨hi, ei⟩ := List.getElem?_eq_some_iff.1 hx
  obtain ⟨hj, ej⟩ := List.getElem?_eq_some_iff.1 hy
  simp only [List.getElem_map, ei, ej] at h1
  exact h1
theorem A7a {b : Bn} {l : List Pr} {s : Ps} : ∀ {i : Nat}, i ≤ l.length → (A0J b l s i).1[0]? = some b
  | 0, _ => rfl
  | i + 1, h => by
    rw [Z7 (List.getElem?_eq_getElem qO)]
    have h1 := (A0K (b := b) (s := s) (l := l) (i := i) qO).1
    show (_ ++ _)[0]? = _
    rw [List.getElem?_append_left qO]
    exact A7a qO
theorem A9g {b : Bn} {l : List Pr} {s : Ps} {j : Nat} {o : Pr} (ho : l[j]? = some o) : ∀ {i : Nat}, i ≤ l.length → j < i → (A0J b l s i).1[j + 1]? = some { b with has := true, once := o.n, oncek := K9 (A0J b l s j).2 o.sec }
  | 0, _, hj => by omega
  | i + 1, h, hj => by
    obtain ⟨x, hx⟩ : ∃ x, l[i]? = some x := ⟨_, List.getElem?_eq_getElem qO⟩
    rw [Z7 hx]
    have h1 := (A0K (b := b) (s := s) (l := l) (i := i) qO).1
    show (_ ++ _)[j + 1]? = _
    by_cases e : j = i
    · subst e
      rw [hx] at ho
      cases ho
      rw [List.getElem?_append_right qO, h1, Nat.sub_self]; rfl
    · rw [List.getElem?_append_left qO]
      exact A9g ho qO qO
theorem A2D {k : Ks} {s : Ps} {x : Pr} {sl : List Pr} (h : k.signed = x :: sl) : (L5 k s).1.length = k.once.length + 1 ∧ (L5 k s).1[0]? = some (A96 k x s) ∧ (∀ (j : Nat) (o : Pr), k.once[j]? = some o → (L5 k s).1[j + 1]? = some { A96 k x s with has := true, once := o.n, oncek := K9 (A0J (A96 k x s) k.once (I7 (idS k s) x.sec) j).2 o.sec }) ∧ (L5 k s).2.ts.length ≤ s.ts.length + 6 + 2 * k.once.length := by
  have e : L5 k s = A0J (A96 k x s) k.once (I7 (idS k s) x.sec) k.once.length := by unfold L5; rw [h]
  rw [e]
  have h1 := A0K (b := A96 k x s) (s := I7 (idS k s) x.sec) (l := k.once) (Nat.le_refl _)
  have h2 := A09 k s
  have h3 := N7 (idS k s) x.sec
  exact ⟨h1.1, A7a (Nat.le_refl _), fun j o ho => A9g ho (Nat.le_refl _) (List.getElem?_eq_some_iff.1 ho).1, by omega⟩
theorem C0z (m : Nat) : ((m % 2 : Nat) : Int) = md (m % 2 == 0) := by
  rcases (by omega : m % 2 = 0 ∨ m % 2 = 1) with h | h <;> rw [h] <;> rfl
def opK (m : Nat) : Ps := ⟨m % 2 == 0, [107, 101, 121, 115], 0, []⟩

theorem B2z (k : Ks) (s : Ps) : Ext s (Z6 k s).2 := ((A0n s).trans (A1v _ _)).trans (B6k _ _ _)
theorem A9h (k : Ks) (s : Ps) : ∀ i, Ext s (fillI k s i).2
  | 0 => Ext.refl s
  | i + 1 => (A9h k s i).trans (A0n _)
def Fr (s : Ps) (w : LN) (i : Nat) : Prop := if s.real then w = A2R s.seed i else ∃ j, s.ts[j]? = some (B5P i) ∧ w = bts ((j : Nat) : Int)
theorem Fr.ext {s s' : Ps} {w : LN} {i : Nat} (h : Fr s w i) (he : Ext s s') : Fr s' w i := by
  unfold Fr at h ⊢
  rw [he.p.real]
  obtain ⟨l, e⟩ := he.p.ts
  split
  · rename_i hr; rw [if_pos hr] at h; rw [he.seed]; exact h
  · rename_i hr
    rw [if_neg hr] at h
    obtain ⟨j, h1, h2⟩ := h
    exact ⟨j, by rw [e]; exact A4E h1, h2⟩
theorem C18 {s : Ps} {w w' : LN} {i i' : Nat} (h : Fr s w i) (h' : Fr s w' i') (hi : i ≠ i') (hl : s.ts.length ≤ 1048576) (hk : s.real = true → A2R s.seed i ≠ A2R s.seed i') : w ≠ w' := by
  unfold Fr at h h'
  split at h
  · rename_i hr
    rw [if_pos hr] at h'
    rw [h, h']
    exact hk hr
  · rename_i hr
    rw [if_neg hr] at h'
    obtain ⟨j, h1, rfl⟩ := h
    obtain ⟨j', h2, rfl⟩ := h'
    intro e
    have b1 := (List.getElem?_eq_some_iff.1 h1).1
    have b2 := (List.getElem?_eq_some_iff.1 h2).1
    have e2 := A5p qO qO e
    subst e2
    rw [h1] at h2
    have e3 := Option.some.inj h2
    unfold B5P at e3
    injection e3 with a1 a2 a3 a4
    exact hi qO
structure Sok (L : List (LN)) (s : Ps) : Prop where
  nd : L.Nodup
  fr : ∀ w ∈ L, ∃ i, i ≤ s.n ∧ Fr s w i
theorem Sok.nil {s : Ps} : Sok [] s := ⟨List.nodup_nil, fun w h => by cases h⟩
theorem Sok.ext {L : List (LN)} {s s' : Ps} (h : Sok L s) (he : Ext s s') : Sok L s' := ⟨h.nd, fun w hw => by
  obtain ⟨i, h1, h2⟩ := h.fr w hw
  exact ⟨i, Nat.le_trans h1 he.n, h2.ext he⟩⟩
theorem Sok.sub {L L' : List (LN)} {s : Ps} (h : Sok L s) (hs : L'.Sublist L) : Sok L' s := ⟨h.nd.sublist hs, fun w hw => h.fr w (hs.subset hw)⟩
theorem Sok.perm {L L' : List (LN)} {s : Ps} (h : Sok L s) (hp : L.Perm L') : Sok L' s := ⟨hp.nodup_iff.1 h.nd, fun w hw => h.fr w (hp.mem_iff.2 hw)⟩
def C19 (seed : LN) (m : Nat) : Prop := ∀ i j, i ≤ m → j ≤ m → i ≠ j → A2R seed i ≠ A2R seed j
theorem Sok.add {L : List (LN)} {s s' : Ps} {w : LN} {m : Nat} (h : Sok L s) (he : Ext s s') (hw : Fr s' w (s.n + 1)) (hn : s.n + 1 ≤ s'.n) (hl : s'.ts.length ≤ 1048576) (hm : s.n + 1 ≤ m) (ha : s'.real = true → C19 s'.seed m) : Sok (w :: L) s' := by
  have h' := h.ext he
  refine ⟨List.nodup_cons.2 ⟨fun hm' => ?_, h.nd⟩, fun x hx => ?_⟩
  · obtain ⟨i, h1, h2⟩ := h.fr w hm'
    exact C18 hw (h2.ext he) (show s.n + 1 ≠ i by omega) hl (fun hr => ha hr _ _ hm qO qO) rfl
  · rcases List.mem_cons.1 hx with rfl | hx
    · exact ⟨_, hn, hw⟩
    · exact h'.fr x hx
def kW : LN := [107, 101, 121, 115]
structure BuI (k : Ks) (s : Ps) : Prop where
  tok : Tok s.ts
  ar : Ar s.ts
  ag : Kok s k.agree
  sg : Kok s k.sign
  signed : ∀ x ∈ k.signed, Kok s x.sec ∧ ∃ p, V1 s x.sec p ∧ A2V s k.sign (A0U x.n p) x.sig
  once : ∀ x ∈ k.once, Kok s x.sec
theorem BuI.ext {k : Ks} {s s' : Ps} (h : BuI k s) (he : Pext s s') (ht : Tok s'.ts) (ha : Ar s'.ts) : BuI k s' :=
  ⟨ht, ha, h.ag.ext he, h.sg.ext he, fun x hx => by
    obtain ⟨h1, p, h2, h3⟩ := h.signed x hx
    exact ⟨h1.ext he, p, h2.ext he, h3.ext he⟩, fun x hx => (h.once x hx).ext he⟩
theorem A1a {s : Ps} (h : Tok s.ts) (hn : s.n < 1099511627776) : Tok (D4 s).ts := by
  cases hr : s.real with
  | true => rw [A5o hr]; exact h
  | false => exact (A0t h hn).2 hr
theorem B8s (n : Nat) {w : LN} (h : ∀ x ∈ w, x < 256) : ∀ x ∈ A0U n w, x < 256 := by
  intro x hx
  unfold A0U at hx
  simp only [List.mem_append] at hx
  rcases hx with ((hx | hx) | hx) | hx | hx
  · exact A9d _ _ x hx
  · revert x; decide
  · exact A9d _ _ x hx
  · exact A9d _ _ x hx
  · exact h x hx
theorem B5g (s : Ps) (w : LN) : ∀ x ∈ K9 s w, x < 256 := by
  unfold K9
  split
  · exact B6g _ _
  · exact B0X _
theorem BuI.turn {k : Ks} {s : Ps} (h : BuI k s) (hn : s.n < 1000000000) (hl : s.ts.length + 100 ≤ 1048576) : BuI (Z6 k s).1 (Z6 k s).2 := by
  have f1 := L2 s
  have f2 := N7 (D4 s) (D9 s)
  have t1 := A1a h.tok (by omega : s.n < 1099511627776)
  have k1 := (A0t h.tok (by omega : s.n < 1099511627776)).1
  obtain ⟨p1, -, t2⟩ := A4K k1 t1 qO
  have e1 := (A0n s).p
  have e2 := (A1v (D4 s) (D9 s)).p
  have ksg := (h.sg.ext e1).ext e2
  obtain ⟨g1, t3⟩ := C0l (m := A0U k.next (K9 (D4 s) (D9 s))) ksg t2 qO (B8s _ (B5g _ _)) (by rw [B4R, A2l]; omega)
  have e3 := (B6k (I7 (D4 s) (D9 s)) k.sign (A0U k.next (K9 (D4 s) (D9 s)))).p
  have he : Pext s (Z6 k s).2 := (B2z k s).p
  have ha : Ar (Z6 k s).2.ts := ((h.ar.fresh).pub _).sgn _ _
  have h' := h.ext he t3 ha
  refine ⟨t3, ha, h'.ag, h'.sg, fun x hx => ?_, h'.once⟩
  rcases List.mem_cons.1 (List.mem_of_mem_take (show x ∈ (turnP k s :: k.signed).take 2 from hx)) with rfl | hx
  · exact ⟨(k1.ext e2).ext e3, _, p1.ext e3, g1⟩
  · exact h'.signed x hx
theorem BuI.fillI {k : Ks} {s : Ps} (h : BuI k s) (hn : s.n < 1000000000) : ∀ i, i ≤ 4 → BuI (fillI k s i).1 (fillI k s i).2
  | 0, _ => h
  | i + 1, hi => by
    have ih := h.fillI hn i qO
    have hp := A3h k s i
    have t1 := A1a ih.tok qO
    have k1 := (A0t ih.tok qO).1
    have h' := ih.ext (A0n _).p t1 ih.ar.fresh
    refine ⟨t1, h'.ar, h'.ag, h'.sg, h'.signed, fun x hx => ?_⟩
    rcases List.mem_append.1 (show x ∈ (Go.Proofs.YtoigcbkclcbmpaaGreatDoor.fillI k s i).1.once ++ [_] from hx) with h1 | h1
    · exact h'.once x h1
    · rw [List.mem_singleton.1 h1]; exact k1
theorem BuI.fill {k : Ks} {s : Ps} (h : BuI k s) (hn : s.n < 1000000000) : BuI (A1M k s).1 (A1M k s).2 := h.fillI hn _ qO
theorem BuI.new {u d : Int} {s : Ps} (ht : Tok s.ts) (ha : Ar s.ts) (hn : s.n + 100 < 1000000000) (hl : s.ts.length + 200 ≤ 1048576) : BuI (A4Q u d s).1 (A4Q u d s).2 := by
  have f1 := L2 s
  have f2 := L2 (D4 s)
  have t1 := A1a ht qO
  have k1 := (A0t ht qO).1
  have t2 := A1a t1 qO
  have k2 := (A0t t1 qO).1
  have h0 : BuI (k0N u d s) (D4 (D4 s)) := ⟨t2, ha.fresh.fresh, k1.ext (A0n _).p, k2, fun x hx => (by cases hx), fun x hx => (by cases hx)⟩
  have h1 := h0.turn qO qO
  have hp := A5X (k0N u d s) (D4 (D4 s))
  exact h1.fill qO
theorem BuI.id {k : Ks} {s : Ps} (h : BuI k s) (hl : s.ts.length + 100 ≤ 1048576) : BuI k (idS k s) ∧ Pext s (idS k s) ∧ V1 (idS k s) k.agree (idA k s) ∧ B2e (idS k s) k.sign (idG k s) := by
  have f1 := N7 s k.agree
  obtain ⟨p1, -, t1⟩ := A4K h.ag h.tok qO
  have e1 := (A1v s k.agree).p
  obtain ⟨-, p2, t2⟩ := A4K (h.sg.ext e1) t1 qO
  have e2 := (A1v (I7 s k.agree) k.sign).p
  have e : Pext s (idS k s) := e1.trans e2
  exact ⟨h.ext e t2 ((h.ar.pub _).pub _), e, p1.ext e2, p2⟩
theorem BuI.bunJ {k : Ks} {s : Ps} {b : Bn} (h : BuI k s) (hl : s.ts.length + 100 ≤ 1048576) (ho4 : k.once.length ≤ 10) : ∀ i, i ≤ k.once.length → BuI k (A0J b k.once s i).2 ∧ Pext s (A0J b k.once s i).2 ∧ ∀ (j : Nat) (o : Pr), j < i → k.once[j]? = some o → V1 (A0J b k.once s i).2 o.sec (K9 (A0J b k.once s j).2 o.sec)
  | 0, _ => ⟨h, Pext.refl _, fun j o hj => by omega⟩
  | i + 1, hi => by
    obtain ⟨h1, h2, h3⟩ := h.bunJ (b := b) hl ho4 i qO
    obtain ⟨x, hx⟩ : ∃ x, k.once[i]? = some x := ⟨_, List.getElem?_eq_getElem qO⟩
    have hb := (A0K (b := b) (s := s) (l := k.once) (i := i) qO).2
    obtain ⟨p1, -, t1⟩ := A4K (h1.once x (List.mem_of_getElem? hx)) h1.tok qO
    have e1 := (A1v (A0J b k.once s i).2 x.sec).p
    rw [Z7 hx]
    refine ⟨h1.ext e1 t1 (h1.ar.pub _), h2.trans e1, fun j o hj ho => ?_⟩
    by_cases e : j = i
    · subst e
      rw [hx] at ho
      cases ho
      exact p1
    · exact (h3 j o qO ho).ext e1
theorem BuI.bundles {k : Ks} {s : Ps} {x : Pr} {sl : List Pr} (h : BuI k s) (hs : k.signed = x :: sl) (hl : s.ts.length + 200 ≤ 1048576) (ho4 : k.once.length ≤ 10) :
    BuI k (L5 k s).2 ∧ Pext s (L5 k s).2 ∧ V1 (L5 k s).2 k.agree (idA k s) ∧ B2e (L5 k s).2 k.sign (idG k s) ∧ V1 (L5 k s).2 x.sec (K9 (idS k s) x.sec) ∧ A2V (L5 k s).2 k.sign (A0U x.n (K9 (idS k s) x.sec)) x.sig ∧
    ∀ (j : Nat) (o : Pr), k.once[j]? = some o → V1 (L5 k s).2 o.sec (K9 (A0J (A96 k x s) k.once (I7 (idS k s) x.sec) j).2 o.sec) := by
  have e : L5 k s = A0J (A96 k x s) k.once (I7 (idS k s) x.sec) k.once.length := by unfold L5; rw [hs]
  have il := A09 k s
  obtain ⟨h1, e1, a1, a2⟩ := h.id qO
  obtain ⟨kx, p, px, gx⟩ := h1.signed x (by rw [hs]; simp)
  obtain ⟨p1, -, t1⟩ := A4K kx h1.tok qO
  have ee := px.eq h1.tok qO
  have e2 := (A1v (idS k s) x.sec).p
  have pl := N7 (idS k s) x.sec
  obtain ⟨b1, b2, b3⟩ := (h1.ext e2 t1 (h1.ar.pub _)).bunJ (b := A96 k x s) (by rw [ee.1]; omega) ho4 k.once.length (Nat.le_refl _)
  rw [e]
  refine ⟨b1, (e1.trans e2).trans b2, (a1.ext e2).ext b2, (a2.ext e2).ext b2, p1.ext b2, ?_, fun j o ho => b3 j o (List.getElem?_eq_some_iff.1 ho).1 ho⟩
  rw [ee.2]
  exact (gx.ext e2).ext b2

def C2a (l : LN) : LN := l.reverse.take 2
structure TuI (i : Nat) (k : Ks) (s : Ps) (sg l : LN) : Prop where
  on : onN k = l
  sn : snN k = C2a sg
  ne : sg.length ≤ i + 1 ∧ 1 ≤ sg.length
  rise : l.Pairwise (· < ·)
  lt : ∀ x ∈ l, x < k.next
  slt : ∀ x ∈ sg, x < k.next
  ol : l.length ≤ 4
  nx : k.next ≤ 6 + 4 * i
  ts : s.ts.length ≤ 11 + 5 * i
  n : s.n ≤ 7 + 4 * i
end Go.Proofs.YtoigcbkclcbmpaaGreatDoor
namespace Go.Px
theorem FnX.amb {P : Program} {f : FuncId} {args : List Value} {M A A' : Mem} {post : Value → Mem → Mem → Prop} (hA : ∀ x, x ∈ A → x ∈ A') (h : FnX P f args M A post) : FnX P f args M A' post := by
  intro w hw
  have h1 : St ⟨P, w, M.map Prod.fst, A, 0⟩ M [] w := ⟨hw.os, hw.tape, hw.output, hw.size, hw.frame, fun b o hb => hw.mem b o (by
    rcases List.mem_append.1 hb with hb | hb
    · exact List.mem_append_left _ hb
    · exact List.mem_append_right _ (hA _ hb)), hw.nodup, hw.own, hw.sepJ, fun b o hb => hw.sepA b o (hA _ hb), hw.old⟩
  refine Calls.mono (h w h1) ?_
  rintro e w' ⟨r, M', J', rfl, hp, hs⟩
  refine ⟨r, M', J', rfl, hp, ⟨hs.os, hs.tape, hs.output, hs.size, hs.frame, fun b o hb => ?_, hs.nodup, hs.own, hs.sepJ, hw.sepA, hs.old⟩⟩
  rcases List.mem_append.1 hb with hb | hb
  · exact hs.mem b o (List.mem_append_left _ hb)
  · rcases List.mem_append.1 hb with hb | hb
    · exact hs.mem b o (List.mem_append_right _ (List.mem_append_left _ hb))
    · have h2 := hw.sepA b o hb
      rw [hs.frame b h2.2 h2.1]
      exact hw.mem b o (List.mem_append_right _ hb)
end Go.Px

namespace Go.Proofs.YtoigcbkclcbmpaaGreatDoor
open Go.Px
structure TuS where
  i : Nat
  k : Ks
  s : Ps
  sg : LN
  l : LN
  vs : Value
  vo : Value
  Bs : Mem
  Bo : Mem
  MK : Mem
  MP : Mem
  J : Mem

end Go.Proofs.YtoigcbkclcbmpaaGreatDoor
namespace Go.Px
def intT (P : Program) (t : TypeId) : Bool := match P.underlying t with
  | some (.int _) => true
  | _ => false
def twoT (P : Program) (t : TypeId) : Bool :=
  match P.underlying t with
  | some (.struct fs) => match fs.toList with
    | [f, g] => f.offset == 0 && g.offset == 1 && (f.name != "_") && (g.name != "_") && intT P f.type && intT P g.type && !P.stoodInHeld t && !P.eqGuardType P.depth t
    | _ => false
  | _ => false
section
variable {P : Program} {R : Mem} {l : Env} {d : Option Nat} {ty t t' : TypeId} {pos : String} {af : Array Edge} {g : Option (Nat × Bool)} {x y : Operand} {k : IntKind} {a b a' b' : Int}
variable {v u : Value} {xs : List Value} {n j sz off m : Nat} {R' : Mem}
def fldT (P : Program) (s : TypeId) (f off : Nat) : Bool := match P.underlying s with
  | some (.struct fs) => match fs[f]? with
    | some fd => fd.offset == off && X9 P fd.type
    | none => false
  | _ => false
theorem B8t {f off : Nat} {s : TypeId} {cs : List Value} (hx : ev l x = some (.agg cs.toArray)) (ht : fldT P s f off = true) (hv : cs[off]? = some v) : OpQ P R ⟨d, .field s x f, ty, pos, af, g⟩ l v := fun N a w ha hw => by
  unfold fldT at ht
  split at ht
  · rename_i fs hfs
    split at ht
    · rename_i fd hfd
      simp only [Bool.and_eq_true, beq_iff_eq] at ht
      obtain ⟨h1, h2⟩ := ht
      have h3 : cs[fd.offset]? = some v := by rw [h1]; exact hv
      simp [execOp, ha.ev hx, Instr.field, run_underlying hfs, hfd, part, A0W h2, asAgg, h3]
    · cases ht
  · cases ht
end
end Go.Px

namespace Go.Proofs.YtoigcbkclcbmpaaGreatDoor
open Go.Px
structure BuC (u d : Int) (i : Nat) (k : Ks) (s : Ps) : Prop where
  bi : BuI k s
  rise : (onN k).Pairwise (· < ·)
  sg : 1 ≤ k.signed.length ∧ k.signed.length ≤ 2
  who : k.user = u ∧ k.dev = d
  ol : k.once.length ≤ 4
  nx : k.next ≤ 6 + i
  ts : s.ts.length ≤ 11 + 5 * i
  n : s.n ≤ 7 + i
theorem B8u {l : List Pr} {j : Nat} {o : Pr} (h : B6q l) (ho : l[j]? = some o) : A2W l o.n = some o.sec := by
  rcases A0I (A2k o.n) l with ⟨h1, h2⟩ | ⟨i, x, h1, h2, h3, h4⟩
  · have := h2 o (List.mem_of_getElem? ho); simp [A2k] at this
  · have e : x.n = o.n := by simpa [A2k] using h3
    rcases Nat.lt_trichotomy i j with hl | rfl | hl
    · have := h i j x o hl h2 ho; omega
    · rw [ho] at h2; cases h2; exact A1l h1 ho
    · have := h j i o x hl ho h2; omega
theorem B2A {x : Pr} {l : List Pr} : A2W (x :: l) x.n = some x.sec := by
  rcases A0I (A2k x.n) (x :: l) with ⟨h1, h2⟩ | ⟨i, y, h1, h2, h3, h4⟩
  · have := h2 x qM; simp [A2k] at this
  · cases i with
    | zero => cases h2; exact A1l h1 rfl
    | succ i => have := h4 0 x qO rfl; simp [A2k] at this
def z32 : LN := List.replicate 32 0
def A2m : LN := [104, 101, 108, 108, 111]
theorem A5Z : B256 A2m := ⟨by decide⟩
theorem B8v (ts : List Tm) : Rok ts z32 := ⟨by decide, by decide, .inl fun n => A6y fun h => by have := h.2.1; revert this; decide⟩
noncomputable def agS (s : Ps) : List (LN × LN) → Ps
  | [] => s
  | x :: r => agS (N0 s x.1 x.2) r
noncomputable def agK (s : Ps) : List (LN × LN) → List (LN)
  | [] => []
  | x :: r => A3Z s x.1 x.2 :: agK (N0 s x.1 x.2) r
def seS (s : Ps) (l : List (LN)) : Ps := A7G s z32 l A2m 1
def seK (s : Ps) (l : List (LN)) : LN := (A9L s z32 l A2m 1).getD 0 []
theorem B2B : ∀ (l : List (LN × LN)) (s : Ps), Ext s (agS s l)
  | [], s => Ext.refl s
  | x :: r, s => (B6o s x.1 x.2).trans (B2B r _)
theorem A79 : ∀ (l : List (LN × LN)) (s : Ps), (agS s l).ts.length ≤ s.ts.length + 3 * l.length ∧ (agS s l).n = s.n
  | [], s => ⟨Nat.le_refl _, rfl⟩
  | x :: r, s => by
    have h1 := A79 r (N0 s x.1 x.2)
    have h2 := U7 s x.1 x.2
    have h3 := B8m s x.1 x.2
    rw [List.length_cons]
    show (agS (N0 s x.1 x.2) r).ts.length ≤ _ ∧ (agS (N0 s x.1 x.2) r).n = _
    omega
theorem A8a : ∀ (l : List (LN × LN)) (s : Ps), (agK s l).length = l.length
  | [], s => rfl
  | x :: r, s => by show (_ :: agK _ r).length = _; rw [List.length_cons, A8a r, List.length_cons]
theorem Ar.ag : ∀ (l : List (LN × LN)) {s : Ps}, Ar s.ts → Ar (agS s l).ts
  | [], s, h => h
  | x :: r, s, h => Ar.ag r (h.agr x.1 x.2)
theorem B8w (s : Ps) (l : List (LN)) : (seS s l).ts.length ≤ s.ts.length + l.length + 2 ∧ (seS s l).n = s.n := by
  have h1 := B3S s z32 l A2m 1
  have h2 := (A3J s z32 l A2m 1).2.1
  unfold seS
  omega
theorem B2C (s : Ps) (l : List (LN)) : (∀ x ∈ seK s l, x < 256) ∧ (seK s l).length = 32 := B8e qD qD
inductive AgL (s : Ps) : List (LN × LN) → List (LN) → Prop
  | nil : AgL s [] []
  | cons {a b k : LN} {r : List (LN × LN)} {ks : List (LN)} (h : A31 s a b k) (t : AgL s r ks) : AgL s ((a, b) :: r) (k :: ks)
theorem AgL.ext {s s' : Ps} {l : List (LN × LN)} {ks : List (LN)} (h : AgL s l ks) (he : Pext s s') : AgL s' l ks := by
  induction h with
  | nil => exact .nil
  | cons h t ih => exact .cons (h.ext he) ih
theorem AgL.swap {s : Ps} {l : List (LN × LN)} {ks : List (LN)} (h : AgL s l ks) : AgL s (l.map fun x => (x.2, x.1)) ks := by
  induction h with
  | nil => exact .nil
  | cons h t ih => exact .cons h.comm ih
theorem B8k.rok {s : Ps} {a b k : LN} (h : B8k s a b k) : B7l s.ts k := by
  obtain ⟨i, j, m, h1, h2, h3, h4, h5, h6⟩ := h
  exact ⟨m, (List.getElem?_eq_some_iff.1 h5).1, h6⟩
theorem AgL.rok {s : Ps} {l : List (LN × LN)} {ks : List (LN)} (h : AgL s l ks) (hr : s.real = false) : ∀ w ∈ ks, Rok s.ts w := by
  induction h with
  | nil => intro w hw; cases hw
  | cons h t ih =>
    intro w hw
    rcases List.mem_cons.1 hw with rfl | hw
    · exact ((A31.f hr).1 h).rok.rok
    · exact ih w hw
theorem AgL.zrok {s : Ps} {l : List (LN × LN)} {ks : List (LN)} (h : AgL s l ks) : s.real = false → ∀ w ∈ z32 :: ks, Rok s.ts w := fun hr w hw => by
  rcases List.mem_cons.1 hw with rfl | hw
  · exact B8v _
  · exact h.rok hr w hw
abbrev Tri := LN × LN × LN
def tB (l : List Tri) : List (LN × LN) := l.map fun q => (q.1, q.2.2)
def tb (l : List Tri) : List (LN × LN) := l.map fun q => (q.1, q.2.1)
theorem B8x : ∀ (l : List Tri) {s : Ps}, (∀ q ∈ l, Kok s q.1 ∧ V1 s q.2.1 q.2.2 ∧ (∀ x ∈ q.1, x < 256) ∧ ∀ x ∈ q.2.1, x < 256) → Tok s.ts → s.ts.length + 3 * l.length ≤ 1048576 → AgL (agS s (tB l)) (tb l) (agK s (tB l)) ∧ Tok (agS s (tB l)).ts
  | [], s, _, ht, _ => ⟨.nil, ht⟩
  | q :: r, s, h, ht, hl => by
    rw [List.length_cons] at hl
    obtain ⟨h1, h2, h3, h4⟩ := h q qM
    obtain ⟨g1, g2⟩ := C0q h1 h2 ht qO h3 h4
    have h5 := U7 s q.1 q.2.2
    have he := (B6o s q.1 q.2.2).p
    obtain ⟨i1, i2⟩ := B8x r (s := N0 s q.1 q.2.2) (fun z hz => by
      obtain ⟨a1, a2, a3, a4⟩ := h z (by simp [hz])
      exact ⟨a1.ext he, a2.ext he, a3, a4⟩) g2 qO
    exact ⟨.cons (g1.ext (B2B (tB r) _).p) i1, i2⟩
theorem A50 : ∀ (l : List Tri) {s : Ps} {ks : List (LN)}, AgL s (tb l) ks → (∀ q ∈ l, V1 s q.2.1 q.2.2) → Tok s.ts → s.ts.length ≤ 1048576 → agS s (tB l) = s ∧ agK s (tB l) = ks
  | [], s, ks, h, _, _, _ => by
    cases h
    exact ⟨rfl, rfl⟩
  | q :: r, s, ks, h, hp, ht, hl => by
    obtain ⟨q1, q2, q3⟩ := q
    cases h with
    | cons h t =>
      obtain ⟨e1, e2⟩ := h.eq (hp _ qM) ht hl
      obtain ⟨i1, i2⟩ := A50 r t (fun z hz => hp z (by simp [hz])) ht hl
      refine ⟨?_, ?_⟩
      · show agS (N0 s q1 q3) (tB r) = s
        rw [e1, i1]
      · show A3Z s q1 q3 :: agK (N0 s q1 q3) (tB r) = _
        rw [e1, e2, i2]
structure He where
  ia : LN
  ig : LN
  key : LN
  signed : Nat
  has : Bool
  once : Nat
noncomputable def stP (ka e : LN) (b : Bn) : List (LN × LN) := (ka, b.key) :: (e, b.ia) :: (e, b.key) :: if b.has then [(e, b.oncek)] else []
noncomputable def stA (ka : LN) (b : Bn) (s : Ps) : Ps := agS (D4 s) (stP ka (D9 s) b)
noncomputable def stL (ka : LN) (b : Bn) (s : Ps) : List (LN) := agK (D4 s) (stP ka (D9 s) b)
noncomputable def stI (k : Ks) (b : Bn) (s : Ps) : Ps := I7 (idS k (stA k.agree b s)) (D9 s)
noncomputable def stS (k : Ks) (b : Bn) (s : Ps) : Ps := seS (stI k b s) (stL k.agree b s)
noncomputable def stK (k : Ks) (b : Bn) (s : Ps) : LN := seK (stI k b s) (stL k.agree b s)
noncomputable def stH (k : Ks) (b : Bn) (s : Ps) : He := ⟨idA k (stA k.agree b s), idG k (stA k.agree b s), K9 (idS k (stA k.agree b s)) (D9 s), b.signed, b.has, if b.has then b.once else 0⟩
theorem B8y (ka e : LN) (b : Bn) : (stP ka e b).length ≤ 4 := by unfold stP; split <;> simp
theorem A8b (k : Ks) (b : Bn) (s : Ps) : (stA k.agree b s).ts.length ≤ s.ts.length + 13 ∧ (stI k b s).ts.length ≤ s.ts.length + 19 ∧ (stS k b s).ts.length ≤ s.ts.length + 25 ∧ (stS k b s).n = s.n + 1 ∧ (stL k.agree b s).length ≤ 4 := by
  have h1 := L2 s
  have h2 := A79 (stP k.agree (D9 s) b) (D4 s)
  have h3 := B8y k.agree (D9 s) b
  have h4 := A09 k (stA k.agree b s)
  have h5 := N7 (idS k (stA k.agree b s)) (D9 s)
  have h6 := B8w (stI k b s) (stL k.agree b s)
  have h7 := A8a (stP k.agree (D9 s) b) (D4 s)
  have h8 := Z5 (idS k (stA k.agree b s)) (D9 s)
  have h9 : (idS k (stA k.agree b s)).n = (stA k.agree b s).n := by unfold idS; rw [Z5, Z5]
  have e1 : (stA k.agree b s).ts.length = (agS (D4 s) (stP k.agree (D9 s) b)).ts.length := rfl
  have e2 : (stA k.agree b s).n = (agS (D4 s) (stP k.agree (D9 s) b)).n := rfl
  have e3 : (stI k b s).ts.length = (I7 (idS k (stA k.agree b s)) (D9 s)).ts.length := rfl
  have e4 : (stI k b s).n = (I7 (idS k (stA k.agree b s)) (D9 s)).n := rfl
  have e5 : (stL k.agree b s).length = (agK (D4 s) (stP k.agree (D9 s) b)).length := rfl
  have e6 : (stS k b s).ts.length = (seS (stI k b s) (stL k.agree b s)).ts.length := rfl
  have e7 : (stS k b s).n = (seS (stI k b s) (stL k.agree b s)).n := rfl
  omega
def anP (ka sx : LN) (ox : Option (LN)) (h : He) : List (LN × LN) := (sx, h.ia) :: (ka, h.key) :: (sx, h.key) :: match ox with | none => [] | some o => [(o, h.key)]
noncomputable def anE (ka sx : LN) (ox : Option (LN)) (h : He) (s : Ps) : Option (LN × LN) × Ps := (some (seK (agS s (anP ka sx ox h)) (agK s (anP ka sx ox h)), sx), seS (agS s (anP ka sx ox h)) (agK s (anP ka sx ox h)))
noncomputable def anR (k : Ks) (h : He) (s : Ps) : Option (LN × LN) × Ps :=
  match A2W k.signed h.signed with
  | none => (none, s)
  | some sx => if h.has then match A2W k.once h.once with
      | none => (none, agS s (anP k.agree sx none h))
      | some o => anE k.agree sx (some o) h s
    else anE k.agree sx none h s
theorem C0A {k : Ks} {h : He} {s : Ps} (h1 : A2W k.signed h.signed = none) : anR k h s = (none, s) := by unfold anR; rw [h1]
theorem B8z {k : Ks} {h : He} {s : Ps} {sx : LN} (h1 : A2W k.signed h.signed = some sx) (h2 : h.has = true) (h3 : A2W k.once h.once = none) : anR k h s = (none, agS s (anP k.agree sx none h)) := by unfold anR; rw [h1]; dsimp only; rw [if_pos h2, h3]
theorem B2D {k : Ks} {h : He} {s : Ps} {sx o : LN} (h1 : A2W k.signed h.signed = some sx) (h2 : h.has = true) (h3 : A2W k.once h.once = some o) : anR k h s = anE k.agree sx (some o) h s := by unfold anR; rw [h1]; dsimp only; rw [if_pos h2, h3]
theorem A9i {k : Ks} {h : He} {s : Ps} {sx : LN} (h1 : A2W k.signed h.signed = some sx) (h2 : h.has = false) : anR k h s = anE k.agree sx none h s := by unfold anR; rw [h1]; dsimp only; rw [if_neg (by rw [h2]; decide)]
def prs (ka e kb xs : LN) (xo : Option (LN)) : List (LN × LN) := (ka, xs) :: (e, kb) :: (e, xs) :: match xo with | none => [] | some o => [(e, o)]
structure Agd (s : Ps) (ka e kb xs : LN) (xo : Option (LN)) (h : He) (sec : LN) : Prop where
  pia : V1 s ka h.ia
  pkey : V1 s e h.key
  ex : ∃ l, AgL s (prs ka e kb xs xo) l ∧ ∀ s', Pext s s' → Tok s'.ts → s'.ts.length ≤ 1048576 → seS s' l = s' ∧ seK s' l = sec
theorem Agd.ext {s s' : Ps} {ka e kb xs : LN} {xo : Option (LN)} {h : He} {sec : LN} (g : Agd s ka e kb xs xo h sec) (he : Pext s s') : Agd s' ka e kb xs xo h sec := by
  obtain ⟨l, h1, h2⟩ := g.ex
  exact ⟨g.pia.ext he, g.pkey.ext he, l, h1.ext he, fun s2 h3 => h2 s2 (he.trans h3)⟩
theorem Agd.ans {s : Ps} {ka e xs : LN} {xo : Option (LN)} {h : He} {sec : LN} {kb : Ks} (g : Agd s ka e kb.agree xs xo h sec) (ht : Tok s.ts) (hl : s.ts.length ≤ 1048576) (h1 : A2W kb.signed h.signed = some xs) (h2 : h.has = xo.isSome) (h3 : h.has = true → A2W kb.once h.once = xo) : anR kb h s = (some (sec, xs), s) := by
  obtain ⟨l, g1, g2⟩ := g.ex
  obtain ⟨g3, g4⟩ := g2 s (Pext.refl s) ht hl
  have hE : anE kb.agree xs xo h s = (some (sec, xs), s) := by
    have g5 := g1.swap
    obtain ⟨a1, a2⟩ : agS s (anP kb.agree xs xo h) = s ∧ agK s (anP kb.agree xs xo h) = l := by
      cases xo with
      | none => exact A50 [(xs, ka, h.ia), (kb.agree, e, h.key), (xs, e, h.key)] g5 (by intro q hq; simp at hq; rcases hq with rfl | rfl | rfl <;> first | exact g.pia | exact g.pkey) ht hl
      | some o => exact A50 [(xs, ka, h.ia), (kb.agree, e, h.key), (xs, e, h.key), (o, e, h.key)] g5 (by intro q hq; simp at hq; rcases hq with rfl | rfl | rfl | rfl <;> first | exact g.pia | exact g.pkey) ht hl
    unfold anE
    rw [a1, a2, g3, g4]
  cases xo with
  | none => rw [A9i h1 h2, hE]
  | some o => rw [B2D h1 h2 (h3 h2), hE]
theorem B2E (s : Ps) : ∀ x ∈ D9 s, x < 256 := by
  cases hr : s.real with
  | true => rw [A3d hr]; exact A15 _ _ _
  | false => rw [A3e hr]; exact B0X _
theorem B5h {ka : Ks} {s : Ps} {b : Bn} {kb xs : LN} {xo : Option (LN)} (ha : BuI ka s) (pk : V1 s xs b.key) (pi : V1 s kb b.ia) (ho : b.has = xo.isSome) (po : ∀ o, xo = some o → V1 s o b.oncek ∧ ∀ x ∈ o, x < 256) (l1 : ∀ x ∈ ka.agree, x < 256) (l2 : ∀ x ∈ xs, x < 256) (l3 : ∀ x ∈ kb, x < 256) (hl : s.ts.length + 200 ≤ 1048576) (hn : s.n < 1000000000) :
    Agd (stS ka b s) ka.agree (D9 s) kb xs xo (stH ka b s) (stK ka b s) ∧ BuI ka (stS ka b s) ∧ Ext s (stS ka b s) ∧ B2e (stS ka b s) ka.sign (stH ka b s).ig := by
  have f1 := L2 s
  have t1 := A1a ha.tok (by omega : s.n < 1099511627776)
  have k1 := (A0t ha.tok (by omega : s.n < 1099511627776)).1
  have e1 := A0n s
  have h1 := ha.ext e1.p t1 ha.ar.fresh
  have hfl := B2E s
  obtain ⟨g1, t2⟩ : AgL (stA ka.agree b s) (prs ka.agree (D9 s) kb xs xo) (stL ka.agree b s) ∧ Tok (stA ka.agree b s).ts := by
    unfold stA stL stP
    cases xo with
    | none =>
      rw [show b.has = false from ho]
      exact B8x [(ka.agree, xs, b.key), (D9 s, kb, b.ia), (D9 s, xs, b.key)] (by
        intro q hq
        simp at hq
        rcases hq with rfl | rfl | rfl
        · exact ⟨h1.ag, pk.ext e1.p, l1, l2⟩
        · exact ⟨k1, pi.ext e1.p, hfl, l3⟩
        · exact ⟨k1, pk.ext e1.p, hfl, l2⟩) t1 (by show _ + 3 * 3 ≤ _; omega)
    | some o =>
      rw [show b.has = true from ho]
      exact B8x [(ka.agree, xs, b.key), (D9 s, kb, b.ia), (D9 s, xs, b.key), (D9 s, o, b.oncek)] (by
        intro q hq
        simp at hq
        rcases hq with rfl | rfl | rfl | rfl
        · exact ⟨h1.ag, pk.ext e1.p, l1, l2⟩
        · exact ⟨k1, pi.ext e1.p, hfl, l3⟩
        · exact ⟨k1, pk.ext e1.p, hfl, l2⟩
        · exact ⟨k1, (po o rfl).1.ext e1.p, hfl, (po o rfl).2⟩) t1 (by show _ + 3 * 4 ≤ _; omega)
  obtain ⟨m1, m2, m3, m4, m5⟩ := A8b ka b s
  have e2 : Ext (D4 s) (stA ka.agree b s) := B2B _ _
  have h2 := h1.ext e2.p t2 (Ar.ag _ h1.ar)
  obtain ⟨h3, e3, p3, q3⟩ := h2.id qO
  have i4 := A09 ka (stA ka.agree b s)
  obtain ⟨p4, -, t4⟩ := A4K ((k1.ext e2.p).ext e3) h3.tok qO
  have e4 := (A1v (idS ka (stA ka.agree b s)) (D9 s)).p
  have h4 := h3.ext e4 t4 (h3.ar.pub _)
  change Tok (stI ka b s).ts at t4
  change V1 (stI ka b s) _ _ at p4
  change Pext _ (stI ka b s) at e4
  change BuI ka (stI ka b s) at h4
  have g4 := (g1.ext e3).ext e4
  have lb : (stL ka.agree b s).length + 1 ≤ 10 := by omega
  have t5 : Tok (stS ka b s).ts := B8c t4 g4.zrok A5Z qD qD qO
  have e5 : Pext (stI ka b s) (stS ka b s) := (C0n _ _ _ _ _).p
  have h5 := h4.ext e5 t5 (h4.ar.der _ _ _ _)
  have eall : Pext s (stS ka b s) := (((e1.p.trans e2.p).trans e3).trans e4).trans e5
  refine ⟨⟨(p3.ext e4).ext e5, p4.ext e5, _, g4.ext e5, fun s' he ht' hl' => ?_⟩, h5, ⟨eall, ?_, by omega⟩, (q3.ext e4).ext e5⟩
  · obtain ⟨a1, a2⟩ := B2i t4 g4.zrok A5Z qD qD qO he ht' hl'
    exact ⟨a1, by show (A9L s' _ _ _ _).getD 0 [] = _; rw [a2]; rfl⟩
  · have i1 : (idS ka (stA ka.agree b s)).seed = (stA ka.agree b s).seed := by unfold idS; rw [(A1v _ _).seed, (A1v _ _).seed]
    show (seS _ _).seed = _
    unfold seS stI
    rw [(A3J _ _ _ _ _).2.2, (A1v _ _).seed, i1, e2.seed, e1.seed]

def u32N (x : Int) : Nat := (x % 4294967296).toNat
def u64N (x : Int) : Nat := (x % 18446744073709551616).toNat
def wiN (u d : Int) (a g : LN) : LN := beN (u64N u) 4 ++ beN (u64N d) 4 ++ (beN a.length 4 ++ a) ++ (beN g.length 4 ++ g)
theorem C0B {s : Ps} {l : List (LN)} : (A9L s z32 l A2m 1) = [seK s l] := by
  have h := B2j s z32 l A2m 1
  unfold seK
  match h2 : A9L s z32 l A2m 1, h with
  | [x], _ => rfl
theorem C0C (A : Mem) : FnX Tryz.prog 42 [] [] A fun q M J => M = [] ∧ By J q z32 := by
 refine FnX.enterZ (N := 2) Tryz.func42 rfl rfl rfl fun w_ => ?_
 refine C4 kn (A3 (as_ (A0 kn (A3 ?_))))
 refine A6 rfl (A3t (by_ := 1) (k := .u8) (e := 5) 32 rfl rfl kR rfl rfl qD qD rfl fun b1 => ?_)
 refine as_ (A0 (D8 0) (C3 ?_))
 exact ⟨_, [], [(b1, blk (nums .u8 z32) 5)], K2 rfl rfl, Fit.eq (by simp [z32]), rfl, ⟨Rd.whole (n := 32) qK qR, by decide, by decide⟩⟩
theorem A34 (pb : Nat) (s : Ps) (lv : Value) (l : List (LN)) (MP A : Mem) (hP : Prm pb s MP) (hl : LsV A lv l) (hll : l.length ≤ 1000) (hn : s.ts.length ≤ 1040000) (hG : Glb A) : FnX Tryz.prog 25 [(vP pb), lv] MP A fun q M J => Prm pb (seS s l) M ∧ By J q (seK s l) := by
 haveI := hl.cel
 refine FnX.enterZ (N := 16) Tryz.func25 rfl rfl rfl fun w_ => ?_
 refine C4 (D5 0 1) (A3 (as_ (A0 (D5 0 1) (A3 (mv_ ?_)))))
 refine C9 a0 kR (C0C _) rfl ?_
 rintro v7 M7 J7 ⟨rfl, h7⟩
 haveI := h7.cel
 refine mv_ ?_
 refine A6 rfl (E1 (Mc := MP) (R := _) (aS rfl (aS rfl (aS rfl (aS rfl (aS rfl a0))))) kR qP (A7H pb s v7 lv z32 A2m l 1 MP _ hP (h7.mono qS) (hl.mono qS) hll A5Z qD qD qD hn hG.up) rfl ?_)
 rintro v9 M9 J9 ⟨hP9, hL9⟩
 haveI := hL9.cel
 rw [C0B] at hL9
 obtain ⟨us, hru, hul⟩ := hL9.ex
 change Rd J9 1 v9 1 us at hru
 obtain ⟨u, hu, hub⟩ := hul.at (show 0 < [seK s l].length from Nat.zero_lt_one)
 haveI := hub.cel
 change By J9 u (seK s l) at hub
 change Prm pb (seS s l) M9 at hP9
 refine as_ (A0 (D8 5) (A5 (A3 (mv_ ?_))))
 refine A4 (K1 (sz := 1) rfl kR hru) rfl ?_
 refine A4 (F4 false rfl rfl (eqF qD)) rfl ?_
 refine A0 (D5 5 12) ?_
 refine D3 rfl ?_
 refine A9 (nx (D8 5) (A3 (mv_ ?_)))
 refine A4 (K0 (sz := 1) (a := 0) rfl rfl kR rfl hru qD) rfl ?_
 refine A4 (A00 (u := u) (hru.mono qS) rfl kR hu) rfl ?_
 refine as_ (A0 (D8 4) (C3 ?_))
 exact ⟨_, M9, [], K2 rfl rfl, Fit.none (Fit.last qP), hP9, hub.mono qS⟩
def wiP (u d : Int) (a g : LN) (u' d' : Int) (a' g' : LN) : Nat → LN
  | 0 => []
  | 1 => wiN u d a g
  | _ => wiN u d a g ++ wiN u' d' a' g'
def withN (u d : Int) (a g : LN) (u' d' : Int) (a' g' : LN) : LN := wiN u d a g ++ wiN u' d' a' g'
theorem A7b (pb : Nat) (s : Ps) (b : Bn) (va vg vk vs vo : Value) (MP A : Mem) (hP : Prm pb s MP) (hsub : ∀ x, x ∈ MP → x ∈ A) (har : Ar s.ts) (hn : s.ts.length ≤ 1048576) (ga : By A va b.ia) (gg : By A vg b.ig) (gk : By A vk b.key) (gs : By A vs b.sig) (go : By A vo b.oncek) (hsn : b.signed < 4294967296) (hG : Glb A) : FnV Tryz.prog 11 [(vP pb), .agg #[.int .i64 b.user, .int .i64 b.dev, va, vg, (vU b.signed), vk, vs, .bool b.has, (vU b.once), vo]] A (.bool (decide (b.key.length = 32) && A4k s b.ig (A0U b.signed b.key) b.sig)) := by
 haveI := ga.cel
 haveI := gg.cel
 haveI := gk.cel
 haveI := gs.cel
 haveI := go.cel
 have hgl := gk.len
 refine FnX.enter (N := 23) Tryz.func11 rfl rfl rfl fun w => ?_
 refine C4 (D5 0 1) (A3 ?_)
 refine A6 rfl (bx_ fun b3 => ?_)
 refine as_ (A0 (D5 0 3) ?_)
 refine D2 (.range 19) [(0, 0), (1, 1), (2, 0), (3, 0), (4, 0), (5, 0), (6, 0), (7, 0), (8, 1), (9, 0), (10, 1), (11, 0), (12, 1), (14, 0), (15, 1), (13, 2), (16, 2), (17, 0), (18, 0)] kR kR fun hs => ?_
 refine D1 hs rfl (qf_ 5 5) rfl ?_
 refine F7 hs rfl ql_ rfl ?_
 refine D1 hs rfl (K1 (sz := 1) rfl kR gk.rd) rfl ?_
 refine D1 hs rfl (F4 (decide (b.key.length = 32)) rfl rfl (C0o _ 32)) rfl ?_
 refine fm_ hs ?_
 refine W8 (t := 9) rfl (fun hb => ?_) (fun hb => ?_)
 ·
  have hk32 : b.key.length = 32 := of_decide_eq_true hb
  refine L6 hs rfl rfl rfl rfl qm_ rfl ?_
  refine L6 hs rfl rfl rfl rfl (qf_ 2 2) rfl ?_
  refine L6 hs rfl rfl rfl rfl (qf_ 3 1) rfl ?_
  refine Y6 hs rfl rfl rfl rfl ql_ rfl ?_
  refine L6 hs rfl rfl rfl rfl (qf_ 4 4) rfl ?_
  refine Y6 hs rfl rfl rfl rfl ql_ rfl ?_
  refine L6 hs rfl rfl rfl rfl (qf_ 5 5) rfl ?_
  refine Y6 hs rfl rfl rfl rfl ql_ rfl ?_
  refine L6 hs rfl rfl rfl rfl (qf_ 6 6) rfl ?_
  refine Y6 hs rfl rfl rfl rfl ql_ rfl ?_
  refine A24 rfl rfl rfl rfl (aS rfl (aS rfl a0)) kR (A68 b.signed vk b.key _ hsn (gk.mono qS) qO) rfl ?_
  rintro v18 M18 J18 ⟨rfl, h18⟩
  haveI := h18.cel
  refine A1Z rfl rfl rfl rfl (aS rfl (aS rfl (aS rfl (aS rfl a0)))) kR (B4J pb s vg v18 vs b.ig (A0U b.signed b.key) b.sig MP _ hP (fun x hx => qS _ (hsub x hx)) har hn (gg.mono qS) (h18.mono qS) (gs.mono qS) hG.up) rfl ?_
  refine D1 hs rfl (I5 rfl rfl) rfl ?_
  refine fa_ hs ?_
  refine E4 (D8 4) (C3 ?_)
  exact ⟨_, [], [], K2 rfl rfl, List.nil_sublist _, by simp, by rw [hb, Bool.true_and], rfl, rfl⟩
 ·
  refine L7 hs ?_
  refine L7 hs ?_
  refine L7 hs ?_
  refine U8 hs ?_
  refine L7 hs ?_
  refine U8 hs ?_
  refine L7 hs ?_
  refine U8 hs ?_
  refine L7 hs ?_
  refine U8 hs ?_
  refine A7A hs rfl rfl rfl rfl rfl rfl ?_
  refine A7A hs rfl rfl rfl rfl rfl rfl ?_
  refine D1 hs rfl (E9 rfl rfl) rfl ?_
  refine fa_ hs ?_
  refine E4 (D8 4) (C3 ?_)
  exact ⟨_, [], [], K2 rfl rfl, List.nil_sublist _, by simp, by rw [hb, Bool.false_and], rfl, rfl⟩

theorem B2F {P : Program} {fn : Func} {l : Env} {R : Mem} {t u x b n : Nat} {ty : TypeId} {cs : List Value} {e : TypeId} {fr : Nat × Nat} {v z : Value} (h : fn.results = #[.tmp u, .cell t ty, .tmp x]) (hv : lk l t = some (vP b)) (hu : lk l u = some v) (hx : lk l x = some z) (ht : A9q P ty = some n)
    (hb : (b, Obj.cells cs.toArray e fr) ∈ R) (hn : cs.length = n) : Res P fn l R (.tuple #[v, .agg cs.toArray, z]) := fun N a w ha hw => by
  obtain ⟨dsc, h1, h2, h3⟩ := A0X ht
  have hl := run_loadVar_row (P := P) w b e ty cs.toArray fr dsc (hw b _ hb) h1 (by cases dsc <;> simp_all [TypeDesc.isRow]) (by rw [h3, ← hn]; simp)
  simp [results, h, ha.slot t _ hv, ha.slot u _ hu, ha.slot x _ hx, asAddr, hl]
theorem C2b {P : Program} {fn : Func} {l : Env} {R : Mem} {t u x : Nat} {v z y : Value} (h : fn.results = #[.tmp t, .tmp u, .tmp x]) (hv : lk l t = some v) (hu : lk l u = some z) (hx : lk l x = some y) : Res P fn l R (.tuple #[v, z, y]) := fun N a w ha hw => by
  simp [results, h, ha.slot t _ hv, ha.slot u _ hu, ha.slot x _ hx]
noncomputable def ckB (s : Ps) (b : Bn) : Bool := decide (b.key.length = 32) && A4k s b.ig (A0U b.signed b.key) b.sig
def heC (va vg vk : Value) (h : He) : List Value := [va, vg, vk, (vU h.signed), .bool h.has, (vU h.once)]
structure HeR (R : Mem) (h : He) (va vg vk : Value) : Prop where
  ia : By R va h.ia
  ig : Byi R vg h.ig
  key : By R vk h.key
  signed : h.signed < 4294967296
  once : h.once < 4294967296
theorem HeR.mono {R R' : Mem} {h : He} {va vg vk : Value} (g : HeR R h va vg vk) (hR : ∀ x, x ∈ R → x ∈ R') : HeR R' h va vg vk := ⟨g.ia.mono hR, g.ig.mono hR, g.key.mono hR, g.signed, g.once⟩
theorem B2G (pb : Nat) (s : Ps) (kb : Nat) (k : Ks) (va vg vq vo vm : Value) (rs ro rm : List (List Value)) (b : Bn) (wa wg wk ws wo : Value) (MP A : Mem) (hK : KyR A kb k va vg vq vo vm rs ro rm) (hP : Prm pb s MP) (har : Ar s.ts) (hn : s.ts.length + 1000 ≤ 1040000) (hk : s.n < 1000000000) (ga : By A wa b.ia) (gg : By A wg b.ig) (gk : By A wk b.key) (gs : By A ws b.sig) (go : By A wo b.oncek) (hsn : b.signed < 4294967296) (hon : b.once < 4294967296) (hG : Glb A) : FnX Tryz.prog 10 [(vP pb), (vP kb), .agg #[.int .i64 b.user, .int .i64 b.dev, wa, wg, (vU b.signed), wk, ws, .bool b.has, (vU b.once), wo]] MP A fun q M J => (ckB s b = true → ∃ v p r u, q = .tuple #[v, .agg (heC p r u (stH k b s)).toArray, .int .i64 0] ∧ Prm pb (stS k b s) M ∧ By J v (stK k b s) ∧ HeR (J ++ A) (stH k b s) p r u) ∧ (ckB s b = false → q = .tuple #[vS, .agg #[vS, vS, vS, .int .u32 0, .bool false, .int .u32 0], .int .i64 10] ∧ Prm pb s M) := by
 haveI := ga.cel
 haveI := gg.cel
 haveI := gk.cel
 haveI := gs.cel
 haveI := go.cel
 have f1 := L2 s
 have f2 := U7 (D4 s) k.agree b.key
 have f3 := U7 (N0 (D4 s) k.agree b.key) (D9 s) b.ia
 have f4 := U7 (N0 (N0 (D4 s) k.agree b.key) (D9 s) b.ia) (D9 s) b.key
 have f5 := U7 (N0 (N0 (N0 (D4 s) k.agree b.key) (D9 s) b.ia) (D9 s) b.key) (D9 s) b.oncek
 refine FnX.enterZ (N := 74) Tryz.func10 rfl rfl rfl fun w_ => ?_
 refine C4 (E2 0 1 2) (A3 ?_)
 refine A6 rfl (bx_ fun b5 => ?_)
 refine as_ ?_
 refine A6 rfl (C5 (cs := [vS, vS, vS, .int .u32 0, .bool false, .int .u32 0]) kR rfl fun b7 => ?_)
 refine as_ (A0 (E7 0 1 5 7) (A5 (A3 (mv_ ?_))))
 refine A4 (F0 (e := 59) rfl rfl kR) rfl ?_
 refine mv_ ?_
 refine G2 rfl rfl (OpQ.opL qm_ rfl ?_)
 refine G2 rfl rfl (OpQ.opL (F0 (e := 62) rfl rfl kR) rfl ?_)
 refine A4 (E9 rfl rfl) rfl ?_
 refine A0 (F5 0 1 5 7 17) ?_
 refine D3 rfl ?_
 refine A9 (nx (E7 0 1 5 7) (A5 (A3 (mv_ ?_))))
 refine A4 (qw_ 10) rfl ?_
 refine F6 (aS rfl (aS rfl a0)) kR (A7b pb s b wa wg wk ws wo MP _ hP (by intro z hz; simp [hz]) har qO (ga.mono qS) (gg.mono qS) (gk.mono qS) (gs.mono qS) (go.mono qS) hsn hG.up) rfl ?_
 change XL _ _ _ _ ((21, .bool (ckB s b)) :: _) _ _
 refine A4 (A0o rfl) rfl ?_
 refine A0 (F5 0 1 5 7 22) ?_
 refine C7 rfl ?_ ?_ <;> intro hc
 ·
  have hck : ckB s b = false := by simpa using hc
  refine A3 ?_
  refine A4 (F3 (place := fun x => #[(0, 2), (2, 1), (3, 1), (4, 1), (5, 1)][x]?) (z := [vS, vS, vS, .int .u32 0, .bool false, .int .u32 0]) (fun _ => by kernel_rfl) e0 bd0) rfl ?_
  refine as_ ?_
  refine A6 rfl (A8 rfl rfl Cel.cel kR ln6 al6 UpC.upd ?_)
  refine as_ (A0 (E2 6 7 8) (C3 (tr ?_)))
  exact ⟨_, MP, [], B2F (n := 6) rfl rfl rfl rfl kR At.mem qR, Fit.none (Fit.last qP), (fun h => by rw [hck] at h; cases h), fun _ => ⟨rfl, hP⟩⟩
 ·
  have hck : ckB s b = true := by simpa using hc
  refine A9 (nx (E7 0 1 5 7) (A3 (mv_ ?_)))
  refine A6 rfl (E1 (Mc := MP) (R := _) (aS rfl (a0)) kR qP (X6 pb s MP _ hP qO qO hG.up) rfl ?_)
  rintro v25 M25 J25 ⟨hP25, h25⟩
  haveI := h25.cel
  refine as_ (A0 (F5 0 1 5 7 9) ?_)
  refine I0 (M25) (_) true (.range 19) [(0, 0), (1, 0), (3, 0), (4, 1), (6, 0), (7, 0), (8, 0), (9, 0), (10, 1), (12, 0), (13, 0), (14, 0), (15, 1), (2, 2), (5, 2), (11, 2), (16, 2), (17, 2), (18, 0)] kR kR qP fun hs K n0 hKm hKs hKn => ?_
  refine km_ hs ?_
  refine km_ hs ?_
  refine I8 hs rfl (qf_ 5 5) rfl ?_
  refine Q0 hs rfl hKs ql_ ?_
  refine km_ hs ?_
  refine km_ hs ?_
  refine I8 hs rfl (qf_ 2 2) rfl ?_
  refine I8 hs rfl (qf_ 2 0) rfl ?_
  refine Q0 hs rfl hKs ql_ ?_
  refine km_ hs ?_
  refine km_ hs ?_
  refine I8 hs rfl (qf_ 5 5) rfl ?_
  refine Q0 hs rfl hKs ql_ ?_
  refine K6 [] _ rfl rfl (List.Perm.refl _) (fun _ h => by cases h) fun w0 => (D7 (aS rfl a0) kR (A9e kb k va vg vq vo vm rs ro rm _ (hK.mono qS)) rfl ?_)
  rintro v28 M28 J28 ⟨rfl, h28⟩ _
  haveI := h28.cel
  dsimp only [List.nil_append, List.append_eq]
  refine K6 _ _ rfl rfl (List.Perm.refl _) hKm fun w0 => (E1 (Mc := M25) (R := _) (aS rfl (aS rfl (aS rfl (a0)))) kR qP (A08 pb (D4 s) v28 wk k.agree b.key M25 _ hP25 qO (h28.mono qS) (gk.mono qS) hG.up) rfl ?_)
  rintro v31 M31 J31 ⟨hP31, h31⟩ hKx31
  haveI := h31.cel
  refine K6 M31 _ rfl rfl qP (fun x hx => hKx31 (hKn rfl) x (by simpa using hx)) fun w0 => (E1 (Mc := M31) (R := _) (aS rfl (aS rfl (aS rfl (a0)))) kR qP (A08 pb ((N0 (D4 s) k.agree b.key)) v25 wa (D9 s) b.ia M31 _ hP31 qO (h25.mono qS) (ga.mono qS) hG.up) rfl ?_)
  rintro v37 M37 J37 ⟨hP37, h37⟩ hKx37
  haveI := h37.cel
  refine K6 M37 _ rfl rfl qP (fun x hx => hKx37 (hKn rfl) x (by simpa using hx)) fun w0 => (E1 (Mc := M37) (R := _) (aS rfl (aS rfl (aS rfl (a0)))) kR qP (A08 pb ((N0 (N0 (D4 s) k.agree b.key) (D9 s) b.ia)) v25 wk (D9 s) b.key M37 _ hP37 qO (h25.mono qS) (gk.mono qS) hG.up) rfl ?_)
  rintro v42 M42 J42 ⟨hP42, h42⟩ hKx42
  haveI := h42.cel
  refine K6 [] _ rfl rfl (List.Perm.refl _) (fun _ h => by cases h) fun w0 => (C6 (e := 27) (sz := 1) (z := [vS, vS, vS]) kR (eS rfl (eS rfl (eS rfl e0))) (bdS 0 1 rfl qR (bdS 1 1 rfl qR (bdS 2 1 rfl qR bd0))) rfl fun b43 => fun hk43 => ?_)
  dsimp only [List.cons_append, List.nil_append, List.append_eq]
  refine I8 hs rfl (I4 rfl) rfl ?_
  refine P4 (I1 0 1 5 7 9 10) ?_
  refine A0x (α := Value × Mem × Mem) (fun y => [(0, (vP pb)), (1, (vP kb)), (5, (vP b5)), (7, (vP b7)), (9, v25), (10, y.1)]) (fun y => y.2.1 ++ [(b5, blk [.int .i64 b.user, .int .i64 b.dev, wa, wg, (vU b.signed), wk, ws, .bool b.has, (vU b.once), wo] 32), (b7, blk [vS, vS, vS, .int .u32 0, .bool false, .int .u32 0] 43)]) (fun y => y.2.2) (fun y => Prm pb (stA k.agree b s) y.2.1 ∧ LsV (y.2.2 ++ A) y.1 (stL k.agree b s) ∧ By (y.2.2 ++ A) v25 (D9 s)) ?_ ?_
  ·
   refine S9 (B := [(b43, blk [v31, v37, v42] 27)]) qP ?_
   refine A3 ?_
   refine A4 (qf_ 7 7) rfl ?_
   refine A4 ql_ rfl ?_
   refine A0 (Y0 0 1 5 7 9 10 45) ?_
   refine C7 rfl ?_ ?_ <;> intro hc
   ·
    refine C2 (mv_ (mv_ (mv_ ?_)))
    refine A4 (qf_ 9 9) rfl ?_
    refine A4 ql_ rfl ?_
    refine A6 rfl (E1 (Mc := M42) (R := _) (aS rfl (aS rfl (aS rfl (a0)))) kR qP (A08 pb (N0 (N0 (N0 (D4 s) k.agree b.key) (D9 s) b.ia) (D9 s) b.key) v25 wo (D9 s) b.oncek M42 _ hP42 qO (h25.mono qS) (go.mono qS) hG.up) rfl ?_)
    rintro v51 M51 J51 ⟨hP51, h51⟩
    haveI := h51.cel
    refine A6 rfl (C6 (e := 27) (sz := 1) (z := [vS]) kR (eS rfl e0) (bdS 0 1 rfl qR bd0) rfl fun b52 => ?_)
    refine A6 rfl (A3H (e := 27) (sz := 1) (by_ := 24) (xs := [v31, v37, v42]) rfl rfl kR rfl (Rd.whole (n := 3) At.mem qR) (Rd.whole (n := 1) At.mem qR) qD qD qD rfl fun v53 B53 hs53 => ?_)
    haveI := hs53.cel
    refine A8E (B := B53) qP ?_
    refine as_ (D0 ?_)
    exact jn (v53, M51, _) ⟨by dsimp only; unfold stA stP; rw [hc]; exact hP51, by dsimp only; unfold stL stP; rw [hc]; exact ⟨[v31, v37, v42] ++ [v51], hs53.rd qS, Lst.cons (h31.mono qS) (Lst.cons (h37.mono qS) (Lst.cons (h42.mono qS) (Lst.cons (h51.mono qS) Lst.nil)))⟩, h25.mono qS⟩ (I1 0 1 5 7 9 10) (Fit.pick qP (Fit.last qP)) qI
   ·
    refine A9 ?_
    exact jn (.slice (some ⟨b43, 0, none⟩) 3 3, M42, _) ⟨by dsimp only; unfold stA stP; rw [hc]; exact hP42, by dsimp only; unfold stL stP; rw [hc]; exact ⟨[v31, v37, v42], Rd.whole (n := 3) At.mem qR, Lst.cons (h31.mono qS) (Lst.cons (h37.mono qS) (Lst.cons (h42.mono qS) Lst.nil))⟩, h25.mono qS⟩ (I1 0 1 5 7 9 10) (Fit.pick qP (Fit.last qP)) qI
  ·
   rintro ⟨lv, MJ, J9⟩ ⟨hPJ, hLJ, he25⟩
   dsimp only at hPJ hLJ he25 ⊢
   haveI := hLJ.cel
   obtain ⟨hzA, hzI, hzS, hzn, hzL⟩ := A8b k b s
   have hI : stI k b s = I7 (idS k (stA k.agree b s)) (D9 s) := rfl
   have hH : stH k b s = ⟨idA k (stA k.agree b s), idG k (stA k.agree b s), K9 (idS k (stA k.agree b s)) (D9 s), b.signed, b.has, if b.has then b.once else 0⟩ := rfl
   rw [hH]
   have hzi := A09 k (stA k.agree b s)
   rw [hI] at hzI
   generalize D9 s = e at *
   obtain ⟨sA, hsA⟩ : ∃ z, stA k.agree b s = z := ⟨_, rfl⟩
   rw [hsA] at hPJ hzA hI hzi hzI ⊢
   refine I0 (MJ) (_) true (.range 12) [(0, 0), (1, 0), (3, 0), (4, 0), (6, 0), (7, 1), (8, 0), (9, 1), (2, 3), (5, 3), (10, 3), (11, 4), (12, 2)] kR kR qP fun hs K n0 hKm hKs hKn => ?_
   refine km_ hs ?_
   refine km_ hs ?_
   refine km_ hs ?_
   refine km_ hs ?_
   refine I8 hs rfl (qf_ 4 4) rfl ?_
   refine Q0 hs rfl hKs ql_ ?_
   refine I8 hs rfl (qf_ 7 7) rfl ?_
   refine Q0 hs rfl hKs ql_ ?_
   refine A07 [⟨2, 56, none, MJ, fun v B R => Prm pb (idS k sA) B ∧ ∃ p q, v = .agg #[p, q] ∧ By R p (idA k sA) ∧ By R q (idG k sA)⟩, ⟨5, 59, some 2, [], fun v B R => Prm pb (I7 (idS k sA) e) B ∧ By R v (K9 (idS k sA) e)⟩, ⟨10, 64, none, [], fun v B R => B = [] ∧ ∃ p r u, v = .agg #[p, r, u, (vU b.signed), .bool b.has, (vU 0)] ∧ By R p (idA k sA) ∧ By R r (idG k sA) ∧ By R u (K9 (idS k sA) e)⟩, ⟨11, 11, none, [], fun v B _ => ∃ b, v = (vP b) ∧ B = [(b, blk [vS, vS, vS, .int .u32 0, .bool false, .int .u32 0] 43)]⟩] ([(b5, blk [.int .i64 b.user, .int .i64 b.dev, wa, wg, (vU b.signed), wk, ws, .bool b.has, (vU b.once), wo] 32), (b7, blk [vS, vS, vS, .int .u32 0, .bool false, .int .u32 0] 43)]) (fun bs => [bs 5, bs 10, bs 11]) (hKn rfl) (by simp [A0H, A2b]) (show ∀ m ∈ ([MJ, [], []] : List Mem), ∀ x ∈ m, K x.1 from C1 (hKm) (C1 (fun _ h => by cases h) (C1 (fun _ h => by cases h) (K7)))) kR (fun _ => by first | rfl | kernel_rfl)
    (C1 (fun _ _ _ _ h ⟨p1, p, q, e, p2, p3⟩ => ⟨p1, p, q, e, p2.mono h, p3.mono h⟩) (C1 (fun _ _ _ _ h ⟨p1, p2⟩ => ⟨p1, p2.mono h⟩) (C1 (fun _ _ _ _ h ⟨p1, p, q, u, e, p2, p3, p4⟩ => ⟨p1, p, q, u, e, p2.mono h, p3.mono h, p4.mono h⟩) (C1 (fun _ _ _ _ _ h => h) (K7))))) (show List.Nodup [56, 59, 64, 11] by decide) (show List.Nodup [2, 5, 10, 11] by decide) (C1 (C8 rfl) (C1 (C8 rfl) (C1 (C8 rfl) (C1 (C8 rfl) (K7)))))
    (C1 ⟨_, rfl, fun vs bs R Rj wG hb hj hjr ha => ⟨.inl rfl, ?_⟩⟩ (C1 ⟨_, rfl, fun vs bs R Rj wG hb hj hjr ha => ⟨.inl rfl, ?_⟩⟩ (C1 ⟨_, rfl, fun vs bs R Rj wG hb hj hjr ha => ⟨.inl rfl, ?_⟩⟩ (C1 ⟨_, rfl, fun vs bs R Rj wG hb hj hjr ha => ⟨.inl rfl, ?_⟩⟩ (K7))))) ?_
   ·
    dsimp only [Gc.inp]
    refine E1 (Mc := MJ) (R := []) (aS rfl (aS rfl (a0))) kR qM (A5Y pb sA kb k va vg vq vo vm rs ro rm MJ _ (hK.mono (fun x hx => by have := hb x (by simp [hx]); simp [this])) hPJ qO (hG.sub (fun x hx => by have := hb x (by simp [hx]); simp [this]))) rfl ?_
    rintro v25 M25 J25 ⟨hP25, p, q, rfl, hp, hq⟩
    exact ⟨_, rfl, by simpa using hP25, p, q, rfl, hp.mono fun x hx => by simp [hx], hq.mono fun x hx => by simp [hx]⟩
   ·
    dsimp only [Gc.inp]
    have g2 := ha _ (List.mem_of_getElem? (i := 0) rfl) kR
    replace g2 : (fun v B R => Prm pb (idS k sA) B ∧ ∃ p q, v = .agg #[p, q] ∧ By R p (idA k sA) ∧ By R q (idG k sA)) (vs 2) (bs 2) Rj := g2
    dsimp only at g2
    obtain ⟨hP25, -⟩ := g2
    refine E1 (Mc := bs 2) (R := []) (aS rfl (aS rfl (a0))) kR qM (A0m pb (idS k sA) v25 e (bs 2) _ hP25 qO (he25.mono (fun x hx => by have := hb x (by simp [hx]); simp [this])) (hG.sub (fun x hx => by have := hb x (by simp [hx]); simp [this]))) rfl ?_
    rintro v31 M31 J31 ⟨hP31, h31⟩
    exact ⟨_, rfl, by simpa using hP31, h31.mono fun x hx => by simp [hx]⟩
   ·
    dsimp only [Gc.inp]
    have g2 := ha _ (List.mem_of_getElem? (i := 0) rfl) kR
    replace g2 : (fun v B R => Prm pb (idS k sA) B ∧ ∃ p q, v = .agg #[p, q] ∧ By R p (idA k sA) ∧ By R q (idG k sA)) (vs 2) (bs 2) Rj := g2
    dsimp only at g2
    have g5 := ha _ (List.mem_of_getElem? (i := 1) rfl) kR
    replace g5 : (fun v B R => Prm pb (I7 (idS k sA) e) B ∧ By R v (K9 (idS k sA) e)) (vs 5) (bs 5) Rj := g5
    dsimp only at g5
    obtain ⟨-, h31⟩ := g5
    obtain ⟨-, p, q, e25, hp, hq⟩ := g2
    haveI := h31.cel
    haveI := hp.cel
    haveI := hq.cel
    dsimp only [U0, List.map, List.cons_append, List.nil_append]
    rw [e25]
    exact OpQ.opL (F3 (place := fun x => #[(0, 2), (2, 1), (3, 1), (4, 1), (5, 1)][x]?) (z := [vS, vS, vS, .int .u32 0, .bool false, .int .u32 0]) (fun _ => by kernel_rfl) (eS rfl (eS rfl (eS rfl (eS rfl e0)))) (bdS 0 2 rfl qR (bdS 2 1 rfl qR (bdS 3 1 rfl qR (bdS 4 1 rfl qR bd0))))) rfl ⟨_, rfl, rfl, p, q, _, rfl, hp, hq, h31⟩
   ·
    dsimp only [Gc.inp]
    exact C5 (cs := [vS, vS, vS, .int .u32 0, .bool false, .int .u32 0]) kR rfl fun b => ⟨_, rfl, b, rfl, rfl⟩
   intro vs bs Jn0 hφ hKK
   have kk2 := hKK _ (List.mem_of_getElem? (i := 0) rfl)
   dsimp only at kk2
   have kk5 := hKK _ (List.mem_of_getElem? (i := 1) rfl)
   dsimp only at kk5
   have kk10 := hKK _ (List.mem_of_getElem? (i := 2) rfl)
   dsimp only at kk10
   have kk11 := hKK _ (List.mem_of_getElem? (i := 3) rfl)
   dsimp only at kk11
   clear hKK
   have g2 := ofH hφ
   dsimp only at g2
   replace hφ := ofT hφ
   have g5 := ofH hφ
   dsimp only at g5
   replace hφ := ofT hφ
   have g10 := ofH hφ
   dsimp only at g10
   replace hφ := ofT hφ
   have g11 := ofH hφ
   dsimp only at g11
   clear hφ
   dsimp only [U0, A0H, List.foldr, List.map, List.cons_append, List.nil_append]
   generalize bs 2 = B56 at *
   generalize bs 5 = B59 at *
   generalize bs 10 = B64 at *
   generalize bs 11 = B11 at *
   generalize vs 2 = u56 at *
   generalize vs 5 = u59 at *
   generalize vs 10 = u64 at *
   generalize vs 11 = u11 at *
   obtain ⟨hP59, -⟩ := g5
   clear g2
   obtain ⟨b11, rfl, rfl⟩ := g11
   obtain ⟨rfl, p, r, u, rfl, hp, hr, hu⟩ := g10
   haveI := hp.cel
   haveI := hr.cel
   haveI := hu.cel
   refine P0 rfl rfl rfl (A8 (vs := [p, r, u, (vU b.signed), .bool b.has, (vU 0)]) rfl rfl rfl kR qR (C1 hp.one (C1 hr.one (C1 hu.one al3))) UpC.upd ?_)
   refine P4 (F5 0 5 7 10 11) (A5 ?_)
   cases hh : b.has
   ·
    refine A3 ?_
    refine A4 (qf_ 7 7) rfl ?_
    refine A4 ql_ rfl ?_
    refine A0 (I1 0 5 7 10 11 66) ?_
    refine D3 rfl ?_
    refine A9 (nx (E7 0 7 10 11) ?_)
    refine I0 (B59) (_) true [0, 1, 2, 3, 4, 6] [(0, 0), (1, 0), (3, 1), (2, 2), (4, 0), (5, 2), (6, 0)] kR kR qP fun hs K n0 hKm hKs hKn => ?_
    refine km_ hs ?_
    refine km_ hs ?_
    refine Q0 hs rfl hKs (qw_ 6) ?_
    refine K6 _ _ rfl rfl (List.Perm.refl _) hKm fun w0 => (E1 (Mc := B59) (R := _) (aS rfl (aS rfl (a0))) kR qP (A34 pb (stI k b s) lv (stL k.agree b s) B59 _ (hI ▸ hP59) (hLJ.mono qS) qO (by rw [hI]; omega) hG.up) rfl ?_)
    rintro v72 M72 J72 ⟨hP72, h72⟩ hKx72
    haveI := h72.cel
    refine I8 hs rfl (I4 rfl) rfl ?_
    refine P0 rfl rfl rfl (A8 (vs := [p, r, u, (vU b.signed), .bool false, (vU 0)]) rfl rfl rfl kR qR (C1 hp.one (C1 hr.one (C1 hu.one al3))) UpC.upd ?_)
    refine I8 hs rfl (I4 rfl) rfl ?_
    refine P4 (E2 6 7 8) (C3 ?_)
    refine ⟨_, M72, [], B2F (n := 6) rfl rfl rfl rfl kR At.mem qR, Fit.none (Fit.last qP), (fun _ => ⟨_, p, r, u, rfl, hP72, h72.mono qS, hp.mono qS, (hr.mono qS).i, hu.mono qS, hsn, (by decide : 0 < 4294967296)⟩), fun h => by rw [hck] at h; cases h⟩
   ·
    refine A3 ?_
    refine A4 (qf_ 7 7) rfl ?_
    refine A4 ql_ rfl ?_
    refine A0 (I1 0 5 7 10 11 66) ?_
    refine E0 rfl ?_
    refine C2 ?_
    refine A4 (qf_ 8 8) rfl ?_
    refine A4 ql_ rfl ?_
    refine A4 (qf_ 5 5) rfl ?_
    refine A6 rfl (D6 rfl rfl rfl kR SetC.set UpC.upd ?_)
    refine A0 (E7 0 7 10 11) ?_
    refine I0 (B59) (_) true [0, 1, 2, 3, 4, 6] [(0, 0), (1, 0), (3, 1), (2, 2), (4, 0), (5, 2), (6, 0)] kR kR qP fun hs K n0 hKm hKs hKn => ?_
    refine km_ hs ?_
    refine km_ hs ?_
    refine Q0 hs rfl hKs (qw_ 6) ?_
    refine K6 _ _ rfl rfl (List.Perm.refl _) hKm fun w0 => (E1 (Mc := B59) (R := _) (aS rfl (aS rfl (a0))) kR qP (A34 pb (stI k b s) lv (stL k.agree b s) B59 _ (hI ▸ hP59) (hLJ.mono qS) qO (by rw [hI]; omega) hG.up) rfl ?_)
    rintro v72 M72 J72 ⟨hP72, h72⟩ hKx72
    haveI := h72.cel
    refine I8 hs rfl (I4 rfl) rfl ?_
    refine P0 rfl rfl rfl (A8 (vs := [p, r, u, (vU b.signed), .bool true, (vU b.once)]) rfl rfl rfl kR qR (C1 hp.one (C1 hr.one (C1 hu.one al3))) UpC.upd ?_)
    refine I8 hs rfl (I4 rfl) rfl ?_
    refine P4 (E2 6 7 8) (C3 ?_)
    refine ⟨_, M72, [], B2F (n := 6) rfl rfl rfl rfl kR At.mem qR, Fit.none (Fit.last qP), (fun _ => ⟨_, p, r, u, rfl, hP72, h72.mono qS, hp.mono qS, (hr.mono qS).i, hu.mono qS, hsn, hon⟩), fun h => by rw [hck] at h; cases h⟩

theorem B5i (pb : Nat) (s : Ps) (kb : Nat) (k : Ks) (va vg vq vo vm : Value) (rs ro rm : List (List Value)) (h : He) (wa wg wk : Value) (MP A : Mem) (hK : KyR A kb k va vg vq vo vm rs ro rm) (hrise : B6q k.once) (hP : Prm pb s MP) (hn : s.ts.length + 1000 ≤ 1040000) (gh : HeR A h wa wg wk) (hG : Glb A) : FnX Tryz.prog 12 [(vP pb), (vP kb), .agg #[wa, wg, wk, (vU h.signed), .bool h.has, (vU h.once)]] MP A fun q M J => ∃ v o, q = .tuple #[v, o, .int .i64 (if (anR k h s).1.isSome then 0 else 9)] ∧ Prm pb (anR k h s).2 M ∧ By J v ((anR k h s).1.elim [] (·.1)) ∧ By J o ((anR k h s).1.elim [] (·.2)) := by
 haveI := gh.ia.cel
 haveI := gh.ig.cel
 haveI := gh.key.cel
 refine FnX.enterZ (N := 70) Tryz.func12 rfl rfl rfl fun w_ => ?_
 refine C4 (E2 0 1 2) (A3 ?_)
 refine A6 rfl (bx_ fun b5 => ?_)
 refine as_ (as_ (as_ (A0 (E2 0 1 5) (A5 (A3 (mv_ ?_))))))
 refine A4 (F0 (e := 59) rfl rfl kR) rfl ?_
 refine mv_ ?_
 refine G2 rfl rfl (OpQ.opL qm_ rfl ?_)
 refine G2 rfl rfl (OpQ.opL (F0 (e := 62) rfl rfl kR) rfl ?_)
 refine A4 (E9 rfl rfl) rfl ?_
 refine A0 (E7 0 1 5 19) ?_
 refine D3 rfl ?_
 refine A9 (nx (E2 0 1 5) (A3 (mv_ ?_)))
 refine A4 (qf_ 3 3) rfl ?_
 refine A4 ql_ rfl ?_
 refine C9 (aS rfl (aS rfl a0)) kR (B4T kb k va vg vq vo vm rs ro rm h.signed _ (hK.mono qS)) rfl ?_
 rintro r24 M24 J24 ⟨rfl, q1, rfl, hq1⟩
 haveI := hq1.cel
 refine mv_ ?_
 refine A4 (A4e rfl) rfl ?_
 refine A4 (A38 rfl) rfl ?_
 refine as_ (as_ (A0 (F5 0 1 5 9 10) (A5 ?_)))
 cases hsg : A2W k.signed h.signed with
 | none => ?_
 | some sx => ?_
 ·
  refine A3 (mv_ ?_)
  refine A4 (A0o rfl) rfl ?_
  refine A0 (F5 0 1 5 9 28) ?_
  refine E0 rfl ?_
  refine A3 (as_ (as_ (as_ (A0 (E2 6 7 8) (C3 (tr ?_))))))
  exact ⟨_, MP, [], C2b rfl rfl rfl rfl, Fit.none (Fit.last qP), by rw [C0A hsg]; exact ⟨_, _, rfl, hP, By.nil, By.nil⟩⟩
 ·
  rw [hsg] at hq1
  change By _ q1 sx at hq1
  have f2 := U7 s sx h.ia
  have f3 := U7 (N0 s sx h.ia) k.agree h.key
  have f4 := U7 (N0 (N0 s sx h.ia) k.agree h.key) sx h.key
  refine A3 (mv_ ?_)
  refine A4 (A0o rfl) rfl ?_
  refine A0 (F5 0 1 5 9 28) ?_
  refine D3 rfl ?_
  refine A9 (nx (E7 0 1 5 9) ?_)
  refine I0 (MP) (_) true (.range 19) [(0, 0), (1, 0), (2, 0), (3, 0), (4, 1), (6, 0), (7, 0), (9, 0), (10, 1), (12, 0), (13, 0), (14, 0), (15, 1), (5, 2), (8, 2), (11, 2), (16, 2), (17, 2), (18, 0)] kR kR qP fun hs K n0 hKm hKs hKn => ?_
  refine km_ hs ?_
  refine km_ hs ?_
  refine I8 hs rfl (qf_ 0 0) rfl ?_
  refine I8 hs rfl (qf_ 0 0) rfl ?_
  refine Q0 hs rfl hKs ql_ ?_
  refine km_ hs ?_
  refine km_ hs ?_
  refine I8 hs rfl (qf_ 2 2) rfl ?_
  refine Q0 hs rfl hKs ql_ ?_
  refine km_ hs ?_
  refine km_ hs ?_
  refine I8 hs rfl (qf_ 2 2) rfl ?_
  refine Q0 hs rfl hKs ql_ ?_
  refine K6 _ _ rfl rfl (List.Perm.refl _) hKm fun w0 => (E1 (Mc := MP) (R := _) (aS rfl (aS rfl (aS rfl (a0)))) kR qP (A08 pb (s) q1 wa sx h.ia MP _ hP qO (hq1.mono qS) (gh.ia.mono qS) hG.up) rfl ?_)
  rintro v34 M34 J34 ⟨hP34, h34⟩ hKx34
  haveI := h34.cel
  refine K6 [] _ rfl rfl (List.Perm.refl _) (fun _ h => by cases h) fun w0 => (D7 (aS rfl a0) kR (A9e kb k va vg vq vo vm rs ro rm _ (hK.mono qS)) rfl ?_)
  rintro v37 M37 J37 ⟨rfl, h37⟩ _
  haveI := h37.cel
  dsimp only [List.nil_append, List.append_eq]
  refine K6 M34 _ rfl rfl qP (fun x hx => hKx34 (hKn rfl) x (by simpa using hx)) fun w0 => (E1 (Mc := M34) (R := _) (aS rfl (aS rfl (aS rfl (a0)))) kR qP (A08 pb ((N0 s sx h.ia)) v37 wk k.agree h.key M34 _ hP34 qO (h37.mono qS) (gh.key.mono qS) hG.up) rfl ?_)
  rintro v40 M40 J40 ⟨hP40, h40⟩ hKx40
  haveI := h40.cel
  refine K6 M40 _ rfl rfl qP (fun x hx => hKx40 (hKn rfl) x (by simpa using hx)) fun w0 => (E1 (Mc := M40) (R := _) (aS rfl (aS rfl (aS rfl (a0)))) kR qP (A08 pb ((N0 (N0 s sx h.ia) k.agree h.key)) q1 wk sx h.key M40 _ hP40 qO (hq1.mono qS) (gh.key.mono qS) hG.up) rfl ?_)
  rintro v45 M45 J45 ⟨hP45, h45⟩ hKx45
  haveI := h45.cel
  refine K6 [] _ rfl rfl (List.Perm.refl _) (fun _ h => by cases h) fun w0 => (C6 (e := 27) (sz := 1) (z := [vS, vS, vS]) kR (eS rfl (eS rfl (eS rfl e0))) (bdS 0 1 rfl qR (bdS 1 1 rfl qR (bdS 2 1 rfl qR bd0))) rfl fun b46 => fun hk46 => ?_)
  dsimp only [List.cons_append, List.nil_append, List.append_eq]
  refine I8 hs rfl (I4 rfl) rfl ?_
  refine P4 (F5 0 1 5 9 11) ?_
  refine A0x (α := Value × Mem × Mem × Option (LN)) (fun y => [(0, (vP pb)), (9, q1), (11, y.1)]) (fun y => y.2.1) (fun y => y.2.2.1) (fun y => Prm pb (agS s (anP k.agree sx y.2.2.2 h)) y.2.1 ∧ LsV (y.2.2.1 ++ A) y.1 (agK s (anP k.agree sx y.2.2.2 h)) ∧ By y.2.2.1 q1 sx ∧ anR k h s = anE k.agree sx y.2.2.2 h s) ?_ ?_
  ·
   refine S9 (B := [(b46, blk [v34, v40, v45] 27)]) qP ?_
   refine A3 ?_
   refine A4 (qf_ 4 4) rfl ?_
   refine A4 ql_ rfl ?_
   refine A0 (I1 0 1 5 9 11 48) ?_
   refine C7 rfl ?_ ?_ <;> intro hc
   ·
    refine A3 (mv_ ?_)
    refine A4 (qf_ 5 5) rfl ?_
    refine A4 ql_ rfl ?_
    refine C9 (aS rfl (aS rfl a0)) kR (C0t kb k va vg vq vo vm rs ro rm h.once _ (hK.mono qS) hrise) rfl ?_
    rintro r53 M53 J53 ⟨rfl, q2, rfl, hq2⟩
    haveI := hq2.cel
    refine mv_ ?_
    refine A4 (A4e rfl) rfl ?_
    refine A4 (A38 rfl) rfl ?_
    refine as_ (as_ (A0 (I1 0 5 9 11 12 13) (A5 ?_)))
    cases hog : A2W k.once h.once with
    | none => ?_
    | some ox => ?_
    ·
     refine A3 (mv_ ?_)
     refine A4 (A0o rfl) rfl ?_
     refine A0 (I1 0 5 9 11 12 57) ?_
     refine E0 rfl ?_
     refine A3 (as_ (as_ (as_ (A0 (E2 6 7 8) (C3 (tr (jr ?_)))))))
     exact ⟨_, M45, [], C2b rfl rfl rfl rfl, Fit.none (Fit.last qP), by rw [B8z hsg hc hog]; exact ⟨_, _, rfl, hP45, By.nil, By.nil⟩⟩
    ·
     rw [hog] at hq2
     change By _ q2 ox at hq2
     refine A3 (mv_ ?_)
     refine A4 (A0o rfl) rfl ?_
     refine A0 (I1 0 5 9 11 12 57) ?_
     refine D3 rfl ?_
     refine A9 (nx (F5 0 5 9 11 12) (C2 (mv_ (mv_ (mv_ ?_)))))
     refine A4 (qf_ 2 2) rfl ?_
     refine A4 ql_ rfl ?_
     refine A6 rfl (E1 (Mc := M45) (R := _) (aS rfl (aS rfl (aS rfl (a0)))) kR qP (A08 pb (N0 (N0 (N0 s sx h.ia) k.agree h.key) sx h.key) q2 wk ox h.key M45 _ hP45 qO (hq2.mono qS) (gh.key.mono qS) hG.up) rfl ?_)
     rintro v63 M63 J63 ⟨hP63, h63⟩
     haveI := h63.cel
     refine A6 rfl (C6 (e := 27) (sz := 1) (z := [vS]) kR (eS rfl e0) (bdS 0 1 rfl qR bd0) rfl fun b64 => ?_)
     refine A6 rfl (A3H (e := 27) (sz := 1) (by_ := 24) (xs := [v34, v40, v45]) rfl rfl kR rfl (Rd.whole (n := 3) At.mem qR) (Rd.whole (n := 1) At.mem qR) qD qD qD rfl fun v65 B65 hs65 => ?_)
     haveI := hs65.cel
     refine A8E (B := B65) qP ?_
     refine as_ (D0 ?_)
     exact jn (v65, M63, _, some ox) ⟨hP63, ⟨[v34, v40, v45] ++ [v63], hs65.rd qS, Lst.cons (h34.mono qS) (Lst.cons (h40.mono qS) (Lst.cons (h45.mono qS) (Lst.cons (h63.mono qS) Lst.nil)))⟩, hq1.mono qS, B2D hsg hc hog⟩ (E2 0 9 11) (Fit.last qP) qI
   ·
    refine A9 ?_
    exact jn (.slice (some ⟨b46, 0, none⟩) 3 3, M45, _, none) ⟨hP45, ⟨[v34, v40, v45], Rd.whole (n := 3) At.mem qR, Lst.cons (h34.mono qS) (Lst.cons (h40.mono qS) (Lst.cons (h45.mono qS) Lst.nil))⟩, hq1.mono qS, A9i hsg hc⟩ (E2 0 9 11) (Fit.last qP) qI
  ·
   rintro ⟨lv, MJ, J9, xo⟩ ⟨hPJ, hLJ, hqJ, hR⟩
   dsimp only at hPJ hLJ hqJ hR ⊢
   haveI := hLJ.cel
   have hzl : (agK s (anP k.agree sx xo h)).length ≤ 4 := by rw [A8a]; unfold anP; split <;> simp
   have hzs := A79 (anP k.agree sx xo h) s
   have hz0 : (anP k.agree sx xo h).length ≤ 4 := by unfold anP; split <;> simp
   refine A3 (mv_ (mv_ ?_))
   refine A6 rfl (E1 (Mc := MJ) (R := _) (aS rfl (aS rfl (a0))) kR qP (A34 pb _ lv _ MJ _ hPJ (hLJ.mono qS) qO qO hG.up) rfl ?_)
   rintro v68 M68 J68 ⟨hP68, h68⟩
   haveI := h68.cel
   refine mv_ (as_ (as_ (as_ (A0 (E2 6 7 8) (C3 ?_)))))
   exact ⟨_, M68, [], C2b rfl rfl rfl rfl, Fit.none (Fit.last qP), by rw [hR]; exact ⟨_, _, rfl, hP68, h68.mono qS, hqJ.mono qS⟩⟩

end Go.Proofs.YtoigcbkclcbmpaaGreatDoor
