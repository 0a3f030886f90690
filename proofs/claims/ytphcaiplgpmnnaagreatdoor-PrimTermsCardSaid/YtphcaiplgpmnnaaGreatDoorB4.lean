/- Part 4 of the texts of this claim, one behind the other. -/
import Derived.Test.YtphcaiplgpmnnaaGreatDoorB3
import Derived.LoopN
import Derived.Laws.Externs
set_option linter.unusedVariables false
set_option linter.unusedSimpArgs false
set_option maxRecDepth 100000
namespace Go.Px
/-- What isn't of K stands still. -/
def Sk (K : Nat → Prop) (w w' : World) : Prop := ∀ b, b < w.heap.size → ¬ K b → w'.heap[b]? = w.heap[b]?
theorem Sk.fx {K : Nat → Prop} {w w' : World} (h : Sk K w w') {R : Mem} (hR : ∀ x ∈ R, ¬ K x.1) (hw : Fx R w) : Fx R w' := fun b o hb => by
  have h1 := hw b o hb
  rw [h b (lt_of_heap h1) (hR _ hb)]; exact h1

def XK (C : Cx) (os : List Oper) (Q : XQ) (K : Nat → Prop) (n0 : Nat) (nd : List Nat) (plan : List (Nat × Nat)) (l : Env) (M J : Mem) : Prop :=
  ∀ listed, Closed os.toArray listed → planOk os.toArray nd plan listed = true → ∀ a w, Ag C.N l a → St C M J w → n0 ≤ w.heap.size →
    wpAnyS C.P os.toArray (noPanicX (lift C Q)) (Sk K) nd.contains plan.length listed a w

section plan
variable {C : Cx} {Q : XQ} {l : Env} {M J : Mem} {os : List Oper} {K : Nat → Prop} {n0 : Nat} {nd : List Nat} {plan : List (Nat × Nat)}

theorem readOk_skp {T : World → Prop} {S : World → World → Prop} {ops : Array Oper} {nd : List Nat} {listed : Array Bool} {i : Nat} (h : readOk ops nd listed i = true) (hT : ∀ w w', T w → S w w' → T w') (j : Nat) (hlt : j < ops.size) (hji : j ≠ i) (hun : listed.getD j true = false) : anc ops ops.size j i = true ∨ ∀ w w', T w → (nd.contains j = true → S w w') → T w' := by
  have h1 := List.all_eq_true.1 h j (List.mem_range.2 hlt)
  simp only [Bool.or_eq_true, beq_iff_eq, hji, hun, false_or, Bool.false_eq_true] at h1
  rcases h1 with h1 | h1
  · exact .inr fun w w' hS hw => hT w w' hS (hw h1)
  · exact .inl h1

/-- Into a drawn region: Mv are the blocks that may change, and what is new counts as such if 'nv'. -/
theorem XC.drawK1 {id : Nat} (Mv Ms : Mem) (nv : Bool) (nd : List Nat) (plan : List (Nat × Nat)) (hm : C.P.follows .mixedOrders = true) (hp : planGood os nd plan = true) (hM : M.Perm (Mv ++ Ms))
    (h : Region.noSelect os.toArray = true → ∀ (K : Nat → Prop) n0, (∀ x ∈ Mv, K x.1) → (∀ x ∈ Ms ++ (J ++ C.A), ¬ K x.1) → (nv = true → ∀ b, n0 ≤ b → K b) → XK C os Q K n0 nd plan l (Mv ++ Ms) J) : XC C (.region id os.toArray true) Q l M J := by
  intro a w ha hw0
  have hw := hw0.perm hM
  simp only [planGood, Bool.and_eq_true, beq_iff_eq] at hp
  obtain ⟨⟨h1, h3⟩, h4⟩ := hp
  refine Code.wp_mono (Q := noPanicX (lift C Q)) (fun e a w h => by cases e <;> first | exact h | exact h.elim) ?_
  let K : Nat → Prop := fun b => b ∈ Mv.map Prod.fst ∨ (nv = true ∧ w.heap.size ≤ b)
  refine wp_region_any hm (wpAny_of_S (S := Sk K) (need := nd.contains) _ _ _ _ ?_)
  have hK1 : ∀ x ∈ Mv, K x.1 := fun x hx => .inl (List.mem_map_of_mem (f := Prod.fst) hx)
  have hcal := hw.callee (.refl _)
  have hK2 : ∀ x ∈ Ms ++ (J ++ C.A), ¬ K x.1 := by
    rintro ⟨b, o⟩ hx hk
    have h5 := hcal.sepA b o hx
    rcases hk with hk | ⟨_, hk⟩
    · exact h5.1 hk
    · exact absurd h5.2 (Nat.not_lt.2 hk)
  have := h h1 K w.heap.size hK1 hK2 (fun hn b hb => .inr ⟨hn, hb⟩) (Array.replicate os.length false) (fun j oj _ hl => by simp [Array.getElem?_replicate] at hl; split at hl <;> simp at hl) h4 a _ ha hw.drew (Nat.le_refl _)
  rw [h3] at this
  simpa using this
theorem XC.drawK {id : Nat} {c2 : Code} (Mv Ms : Mem) (nv : Bool) (nd : List Nat) (plan : List (Nat × Nat)) (hm : C.P.follows .mixedOrders = true) (hp : planGood os nd plan = true) (hM : M.Perm (Mv ++ Ms))
    (h : Region.noSelect os.toArray = true → ∀ (K : Nat → Prop) n0, (∀ x ∈ Mv, K x.1) → (∀ x ∈ Ms ++ (J ++ C.A), ¬ K x.1) → (nv = true → ∀ b, n0 ≤ b → K b) → XK C os (thenX C c2 Q) K n0 nd plan l (Mv ++ Ms) J) : XC C (.seq (.region id os.toArray true) c2) Q l M J :=
  XC.seq (XC.drawK1 Mv Ms nv nd plan hm hp hM h)

theorem XK.nil (h : Q .normal l M J) : XK C os Q K n0 nd [] l M J := by
  intro listed hcl hp a w ha hw hf
  simp only [planOk, List.isEmpty_iff] at hp
  exact ⟨hp, l, M, J, ha, hw, h⟩
theorem XK.fin {c : Code} {l' : Env} (hk : Keep l l') (h : XC C c Q l' M J) : XK C os (thenX C c Q) K n0 nd [] l M J := XK.nil (XC.keep hk h)
theorem XK.perm {M' : Mem} (hM : M.Perm M') (h : XK C os Q K n0 nd plan l M' J) : XK C os Q K n0 nd plan l M J := fun listed hcl hp a w ha hw hn => h listed hcl hp a w ha (hw.perm hM) hn
theorem XK.drop {M' : Mem} (hM : M'.Sublist M) (h : XK C os Q K n0 nd plan l M' J) : XK C os Q K n0 nd plan l M J := fun listed hcl hp a w ha hw hn => h listed hcl hp a w ha (hw.drop hM (fun _ h => h)) hn

/-- A reading operation is taken first. -/
theorem XK.take1 {i d : Nat} {op : Op} {ty : TypeId} {pos : String} {af : Array Edge} {g : Option (Nat × Bool)} {v : Value} {R : Mem} (hs : Region.noSelect os.toArray = true)
    (hget : nth os i = some ⟨some d, op, ty, pos, af, g⟩) (hR : ∀ x ∈ R, x ∈ M ++ (J ++ C.A)) (hn : ∀ x ∈ R, ¬ K x.1)
    (hy : ∀ a, Ag C.N l a → YieldsIf C.P os.toArray (Fx R) ⟨some d, op, ty, pos, af, g⟩ v a) (hd : Nat.blt d C.N = true)
    (h : XK C os Q K n0 nd plan ((d, v) :: l) M J) : XK C os Q K n0 nd ((i, 1) :: plan) l M J := by
  intro listed hcl hp a w ha hw hf
  simp only [planOk, Bool.and_eq_true] at hp
  obtain ⟨⟨⟨h1, h2⟩, h5⟩, h4⟩ := hp
  have hi : os.toArray[i]? = some ⟨some d, op, ty, pos, af, g⟩ := by rw [nth_eq] at hget; simpa using hget
  have hr : i ∈ Region.ready .any os.toArray listed := by simpa using h1
  exact wpAnyS_first (S := Sk K) (T := Fx R) (N := os.toArray.size) hi (Region.noSelect_spec hs) (fun _ _ _ h => h) (fun _ _ _ _ => rfl) _ listed a w hcl (Region.free_spec hi h2) (readOk_skp h5 fun w w' hT hS => hS.fx hn hT) hr (hy a ha) (fun b o hb => hw.fx b o (hR _ hb))
    (h _ (closed_set hcl hr) h4 _ w (ha.put (blt_lt hd) v) hw hf)
theorem XK.take0 {i d : Nat} {op : Op} {ty : TypeId} {pos : String} {af : Array Edge} {g : Option (Nat × Bool)} {v : Value} (hs : Region.noSelect os.toArray = true)
    (hget : nth os i = some ⟨some d, op, ty, pos, af, g⟩)
    (hy : ∀ a, Ag C.N l a → YieldsIf C.P os.toArray (fun _ => True) ⟨some d, op, ty, pos, af, g⟩ v a) (hd : Nat.blt d C.N = true)
    (h : XK C os Q K n0 nd plan ((d, v) :: l) M J) : XK C os Q K n0 nd ((i, 0) :: plan) l M J := by
  intro listed hcl hp a w ha hw hf
  simp only [planOk, Bool.and_eq_true] at hp
  obtain ⟨⟨h1, h2⟩, h4⟩ := hp
  have hi : os.toArray[i]? = some ⟨some d, op, ty, pos, af, g⟩ := by rw [nth_eq] at hget; simpa using hget
  have hr : i ∈ Region.ready .any os.toArray listed := by simpa using h1
  exact wpAnyS_first (S := Sk K) (T := fun _ => True) (N := 0) hi (Region.noSelect_spec hs) (fun _ _ _ h => h) (fun _ _ _ _ => rfl) _ listed a w hcl (Region.free_spec hi h2) (fun _ _ _ _ => .inr fun _ _ _ _ => trivial) hr (hy a ha) trivial
    (h _ (closed_set hcl hr) h4 _ w (ha.put (blt_lt hd) v) hw hf)

section ops
variable {i d j t : Nat} {op : Op} {ty : TypeId} {pos : String} {af : Array Edge} {b b' : Bool} {v : Value} {oj : Oper} {R : Mem}
theorem XK.q (hs : Region.noSelect os.toArray = true) (hget : nth os i = some ⟨some d, op, ty, pos, af, none⟩) (hq : OpQ C.P [] ⟨some d, op, ty, pos, af, none⟩ l v) (hd : Nat.blt d C.N = true)
    (h : XK C os Q K n0 nd plan ((d, v) :: l) M J) : XK C os Q K n0 nd ((i, 0) :: plan) l M J :=
  XK.take0 hs hget (fun a ha => .inl ⟨rfl, fun w hw => hq C.N a w ha (fun _ _ hb => by cases hb)⟩) hd h
theorem XK.r (hs : Region.noSelect os.toArray = true) (hget : nth os i = some ⟨some d, op, ty, pos, af, none⟩) (hR : ∀ x ∈ R, x ∈ M ++ (J ++ C.A)) (hn : ∀ x ∈ R, ¬ K x.1) (hq : OpQ C.P R ⟨some d, op, ty, pos, af, none⟩ l v) (hd : Nat.blt d C.N = true)
    (h : XK C os Q K n0 nd plan ((d, v) :: l) M J) : XK C os Q K n0 nd ((i, 1) :: plan) l M J :=
  XK.take1 hs hget hR hn (fun a ha => .inl ⟨rfl, fun w hw => hq C.N a w ha hw⟩) hd h
theorem XK.qg (hs : Region.noSelect os.toArray = true) (hget : nth os i = some ⟨some d, op, ty, pos, af, some (j, b)⟩) (hj : nth os j = some oj) (ht : oj.dst = some t) (hl : lk l t = some (.bool b)) (hq : OpQ C.P [] ⟨some d, op, ty, pos, af, some (j, b)⟩ l v) (hd : Nat.blt d C.N = true)
    (h : XK C os Q K n0 nd plan ((d, v) :: l) M J) : XK C os Q K n0 nd ((i, 0) :: plan) l M J :=
  XK.take0 hs hget (fun a ha => .inl ⟨wantedY (i := i) ha hj ht hl, fun w hw => hq C.N a w ha (fun _ _ hb => by cases hb)⟩) hd h
theorem XK.rg (hs : Region.noSelect os.toArray = true) (hget : nth os i = some ⟨some d, op, ty, pos, af, some (j, b)⟩) (hj : nth os j = some oj) (ht : oj.dst = some t) (hl : lk l t = some (.bool b)) (hR : ∀ x ∈ R, x ∈ M ++ (J ++ C.A)) (hn : ∀ x ∈ R, ¬ K x.1) (hq : OpQ C.P R ⟨some d, op, ty, pos, af, some (j, b)⟩ l v) (hd : Nat.blt d C.N = true)
    (h : XK C os Q K n0 nd plan ((d, v) :: l) M J) : XK C os Q K n0 nd ((i, 1) :: plan) l M J :=
  XK.take1 hs hget hR hn (fun a ha => .inl ⟨wantedY (i := i) ha hj ht hl, fun w hw => hq C.N a w ha hw⟩) hd h
theorem XK.qn (hs : Region.noSelect os.toArray = true) (hget : nth os i = some ⟨some d, op, ty, pos, af, some (j, b)⟩) (hj : nth os j = some oj) (ht : oj.dst = some t) (hl : lk l t = some (.bool b')) (hb : (b' == b) = false) (hd : Nat.blt d C.N = true)
    (h : XK C os Q K n0 nd plan ((d, undef) :: l) M J) : XK C os Q K n0 nd ((i, 0) :: plan) l M J :=
  XK.take0 hs hget (fun a ha => .inr ⟨wantedN (i := i) ha hj ht hl hb, rfl⟩) hd h
theorem XK.rn (hs : Region.noSelect os.toArray = true) (hget : nth os i = some ⟨some d, op, ty, pos, af, some (j, b)⟩) (hj : nth os j = some oj) (ht : oj.dst = some t) (hl : lk l t = some (.bool b')) (hb : (b' == b) = false) (hd : Nat.blt d C.N = true)
    (h : XK C os Q K n0 nd plan ((d, undef) :: l) M J) : XK C os Q K n0 nd ((i, 1) :: plan) l M J :=
  XK.take1 (R := []) hs hget (fun _ h => by cases h) (fun _ h => by cases h) (fun a ha => .inr ⟨wantedN (i := i) ha hj ht hl hb, rfl⟩) hd h
end ops

/-- A loud operation that works on the blocks Mc alone. -/
theorem XK.loud {i : Nat} {o : Oper} {Mc R : Mem} (hget : nth os i = some o) (hw' : ∀ a, Ag C.N l a → Region.wanted o (yielded os.toArray a.tmps) = true) (hM : M.Perm (Mc ++ R)) (hK : ∀ x ∈ Mc, K x.1)
    (h : ∀ w, OpL ⟨C.P, w, Mc.map Prod.fst, R ++ (J ++ C.A), C.N⟩ o l Mc [] (fun l' M' J' => ((∀ b, n0 ≤ b → K b) → ∀ x ∈ M', K x.1) → XK C os Q K n0 nd plan l' (M' ++ R) (J' ++ J))) :
    XK C os Q K n0 nd ((i, 2) :: plan) l M J := by
  intro listed hcl hp a w ha hw hf
  simp only [planOk, Bool.and_eq_true, beq_iff_eq] at hp
  obtain ⟨h1, h2⟩ := hp
  have hi : os.toArray[i]? = some o := by rw [nth_eq] at hget; simpa using hget
  refine ⟨fun h0 => (by rw [h1] at h0; cases h0), fun j hj => ?_⟩
  have hr := hj
  rw [h1] at hj
  simp only [List.mem_singleton] at hj
  subst hj
  unfold wpOp
  simp only [hi]
  rw [if_pos (hw' a ha)]
  refine .inl (Oper.wp_mono ?_ (h w _ a w ha (hw.callee hM).cx))
  rintro a' w' ⟨l', M', J', ha', hs', hk⟩
  have hsz : w.heap.size ≤ w'.heap.size := hs'.size
  refine ⟨fun _ b hb hnk => hs'.frame b hb fun hm => ?_, hk ?_ _ (closed_set hcl hr) h2 a' w' ha' (hw.back hM hs'.cx) (Nat.le_trans hf hsz)⟩
  · obtain ⟨x, hx, e⟩ := List.mem_map.1 hm
    exact hnk (e ▸ hK x hx)
  · rintro hup ⟨b, o'⟩ hx
    rcases hs'.own b o' (by simp [hx]) with h6 | h6
    · obtain ⟨x, hx, e⟩ := List.mem_map.1 h6
      exact e ▸ hK x hx
    · exact hup b (Nat.le_trans hf h6)
theorem XK.lo {i : Nat} {o : Oper} (Mc R : Mem) (hget : nth os i = some o) (hg : o.guard = none) (hM : M.Perm (Mc ++ R)) (hK : ∀ x ∈ Mc, K x.1)
    (h : ∀ w, OpL ⟨C.P, w, Mc.map Prod.fst, R ++ (J ++ C.A), C.N⟩ o l Mc [] (fun l' M' J' => ((∀ b, n0 ≤ b → K b) → ∀ x ∈ M', K x.1) → XK C os Q K n0 nd plan l' (M' ++ R) (J' ++ J))) :
    XK C os Q K n0 nd ((i, 2) :: plan) l M J := XK.loud hget (fun a ha => by simp [Region.wanted, hg]) hM hK h
theorem XK.lg {i j t : Nat} {d : Option Nat} {op : Op} {ty : TypeId} {pos : String} {af : Array Edge} {b : Bool} {oj : Oper} (Mc R : Mem) (hget : nth os i = some ⟨d, op, ty, pos, af, some (j, b)⟩) (hj : nth os j = some oj) (ht : oj.dst = some t) (hl : lk l t = some (.bool b)) (hM : M.Perm (Mc ++ R)) (hK : ∀ x ∈ Mc, K x.1)
    (h : ∀ w, OpL ⟨C.P, w, Mc.map Prod.fst, R ++ (J ++ C.A), C.N⟩ ⟨d, op, ty, pos, af, some (j, b)⟩ l Mc [] (fun l' M' J' => ((∀ b, n0 ≤ b → K b) → ∀ x ∈ M', K x.1) → XK C os Q K n0 nd plan l' (M' ++ R) (J' ++ J))) :
    XK C os Q K n0 nd ((i, 2) :: plan) l M J := XK.loud hget (fun a ha => by
      have hj' : os.toArray[j]? = some oj := by rw [nth_eq] at hj; simpa using hj
      simp only [Region.wanted, yielded, hj', Option.bind_some, ht, ha.slot _ _ hl]; simp) hM hK h
/-- A loud operation that isn't asked. -/
theorem XK.skip {i d : Nat} {op : Op} {ty : TypeId} {pos : String} {af : Array Edge} {g : Option (Nat × Bool)} (hget : nth os i = some ⟨some d, op, ty, pos, af, g⟩) (hw' : ∀ a, Ag C.N l a → Region.wanted ⟨some d, op, ty, pos, af, g⟩ (yielded os.toArray a.tmps) = false) (hd : Nat.blt d C.N = true)
    (h : XK C os Q K n0 nd plan ((d, undef) :: l) M J) : XK C os Q K n0 nd ((i, 2) :: plan) l M J := by
  intro listed hcl hp a w ha hw hf
  simp only [planOk, Bool.and_eq_true, beq_iff_eq] at hp
  obtain ⟨h1, h2⟩ := hp
  have hi : os.toArray[i]? = some ⟨some d, op, ty, pos, af, g⟩ := by rw [nth_eq] at hget; simpa using hget
  refine ⟨fun h0 => (by rw [h1] at h0; cases h0), fun j hj => ?_⟩
  have hr := hj
  rw [h1] at hj
  simp only [List.mem_singleton] at hj
  subst hj
  unfold wpOp
  simp only [hi]
  rw [if_neg (by rw [hw' a ha]; simp)]
  exact ⟨fun _ _ _ _ => rfl, h _ (closed_set hcl hr) h2 _ w (ha.put (blt_lt hd) undef) hw hf⟩
theorem XK.ln {i d j t : Nat} {op : Op} {ty : TypeId} {pos : String} {af : Array Edge} {b b' : Bool} {oj : Oper} (hget : nth os i = some ⟨some d, op, ty, pos, af, some (j, b)⟩) (hj : nth os j = some oj) (ht : oj.dst = some t) (hl : lk l t = some (.bool b')) (hb : (b' == b) = false) (hd : Nat.blt d C.N = true)
    (h : XK C os Q K n0 nd plan ((d, undef) :: l) M J) : XK C os Q K n0 nd ((i, 2) :: plan) l M J :=
  XK.skip hget (fun a ha => wantedN (i := i) ha hj ht hl hb) hd h
theorem XK.split {t : Nat} {b : Bool} (hl : lk l t = some (.bool b)) (h1 : b = true → XK C os Q K n0 nd plan ((t, .bool true) :: l) M J) (h2 : b = false → XK C os Q K n0 nd plan ((t, .bool false) :: l) M J) :
    XK C os Q K n0 nd plan l M J := by
  intro listed hcl hp a w ha hw hf
  have key : ∀ b', b = b' → Ag C.N ((t, .bool b') :: l) a := by
    rintro b' rfl
    refine ha.sub ?_
    intro i v hi
    simp only [lk] at hi
    by_cases e : t = i
    · subst e; simp at hi; subst hi; exact hl
    · simpa only [beq_ne e, cond_false] using hi
  cases b
  · exact h2 rfl listed hcl hp a w (key _ rfl) hw hf
  · exact h1 rfl listed hcl hp a w (key _ rfl) hw hf
end plan

/-! ### Nothing that is there changes -/
def XF (C : Cx) (os : List Oper) (Q : XQ) (nd : List Nat) (plan : List (Nat × Nat)) (l : Env) (M J : Mem) : Prop := XK C os Q (fun _ => False) 0 nd plan l M J
section free
variable {C : Cx} {Q : XQ} {l : Env} {M J : Mem} {os : List Oper} {nd : List Nat} {plan : List (Nat × Nat)}
theorem XC.drawF1 {id : Nat} (nd : List Nat) (plan : List (Nat × Nat)) (hm : C.P.follows .mixedOrders = true) (hp : planGood os nd plan = true) (h : Region.noSelect os.toArray = true → XF C os Q nd plan l M J) : XC C (.region id os.toArray true) Q l M J := by
  intro a w ha hw
  simp only [planGood, Bool.and_eq_true, beq_iff_eq] at hp
  obtain ⟨⟨h1, h3⟩, h4⟩ := hp
  refine Code.wp_mono (Q := noPanicX (lift C Q)) (fun e a w h => by cases e <;> first | exact h | exact h.elim) ?_
  refine wp_region_any hm (wpAny_of_S (S := Sk fun _ => False) (need := nd.contains) _ _ _ _ ?_)
  have := h h1 (Array.replicate os.length false) (fun j oj _ hl => by simp [Array.getElem?_replicate] at hl; split at hl <;> simp at hl) h4 a _ ha hw.drew (Nat.zero_le _)
  rw [h3] at this
  simpa using this
theorem XC.drawF {id : Nat} {c2 : Code} (nd : List Nat) (plan : List (Nat × Nat)) (hm : C.P.follows .mixedOrders = true) (hp : planGood os nd plan = true) (h : Region.noSelect os.toArray = true → XF C os (thenX C c2 Q) nd plan l M J) : XC C (.seq (.region id os.toArray true) c2) Q l M J :=
  XC.seq (XC.drawF1 nd plan hm hp h)
theorem XF.nil (h : Q .normal l M J) : XF C os Q nd [] l M J := XK.nil h
theorem XF.fin {c : Code} {l' : Env} (hk : Keep l l') (h : XC C c Q l' M J) : XF C os (thenX C c Q) nd [] l M J := XK.fin hk h
theorem XF.split {t : Nat} {b : Bool} (hl : lk l t = some (.bool b)) (h1 : b = true → XF C os Q nd plan ((t, .bool true) :: l) M J) (h2 : b = false → XF C os Q nd plan ((t, .bool false) :: l) M J) : XF C os Q nd plan l M J := XK.split hl h1 h2
section ops
variable {i d j t : Nat} {op : Op} {ty : TypeId} {pos : String} {af : Array Edge} {b b' : Bool} {v : Value} {oj : Oper}
theorem XF.q (hs : Region.noSelect os.toArray = true) (hget : nth os i = some ⟨some d, op, ty, pos, af, none⟩) (hq : OpQ C.P [] ⟨some d, op, ty, pos, af, none⟩ l v) (hd : Nat.blt d C.N = true)
    (h : XF C os Q nd plan ((d, v) :: l) M J) : XF C os Q nd ((i, 0) :: plan) l M J := XK.q hs hget hq hd h
theorem XF.r (hs : Region.noSelect os.toArray = true) (hget : nth os i = some ⟨some d, op, ty, pos, af, none⟩) (hq : OpQ C.P (M ++ (J ++ C.A)) ⟨some d, op, ty, pos, af, none⟩ l v) (hd : Nat.blt d C.N = true)
    (h : XF C os Q nd plan ((d, v) :: l) M J) : XF C os Q nd ((i, 1) :: plan) l M J := XK.r hs hget (fun _ h => h) (fun _ _ h => h) hq hd h
theorem XF.qg (hs : Region.noSelect os.toArray = true) (hget : nth os i = some ⟨some d, op, ty, pos, af, some (j, b)⟩) (hj : nth os j = some oj) (ht : oj.dst = some t) (hl : lk l t = some (.bool b)) (hq : OpQ C.P [] ⟨some d, op, ty, pos, af, some (j, b)⟩ l v) (hd : Nat.blt d C.N = true)
    (h : XF C os Q nd plan ((d, v) :: l) M J) : XF C os Q nd ((i, 0) :: plan) l M J := XK.qg hs hget hj ht hl hq hd h
theorem XF.rg (hs : Region.noSelect os.toArray = true) (hget : nth os i = some ⟨some d, op, ty, pos, af, some (j, b)⟩) (hj : nth os j = some oj) (ht : oj.dst = some t) (hl : lk l t = some (.bool b)) (hq : OpQ C.P (M ++ (J ++ C.A)) ⟨some d, op, ty, pos, af, some (j, b)⟩ l v) (hd : Nat.blt d C.N = true)
    (h : XF C os Q nd plan ((d, v) :: l) M J) : XF C os Q nd ((i, 1) :: plan) l M J := XK.rg hs hget hj ht hl (fun _ h => h) (fun _ _ h => h) hq hd h
theorem XF.qn (hs : Region.noSelect os.toArray = true) (hget : nth os i = some ⟨some d, op, ty, pos, af, some (j, b)⟩) (hj : nth os j = some oj) (ht : oj.dst = some t) (hl : lk l t = some (.bool b')) (hb : (b' == b) = false) (hd : Nat.blt d C.N = true)
    (h : XF C os Q nd plan ((d, undef) :: l) M J) : XF C os Q nd ((i, 0) :: plan) l M J := XK.qn hs hget hj ht hl hb hd h
theorem XF.rn (hs : Region.noSelect os.toArray = true) (hget : nth os i = some ⟨some d, op, ty, pos, af, some (j, b)⟩) (hj : nth os j = some oj) (ht : oj.dst = some t) (hl : lk l t = some (.bool b')) (hb : (b' == b) = false) (hd : Nat.blt d C.N = true)
    (h : XF C os Q nd plan ((d, undef) :: l) M J) : XF C os Q nd ((i, 1) :: plan) l M J := XK.rn hs hget hj ht hl hb hd h
theorem XF.ln (hs : Region.noSelect os.toArray = true) (hget : nth os i = some ⟨some d, op, ty, pos, af, some (j, b)⟩) (hj : nth os j = some oj) (ht : oj.dst = some t) (hl : lk l t = some (.bool b')) (hb : (b' == b) = false) (hd : Nat.blt d C.N = true)
    (h : XF C os Q nd plan ((d, undef) :: l) M J) : XF C os Q nd ((i, 2) :: plan) l M J := XK.ln hget hj ht hl hb hd h
end ops
/-- A loud operation that makes new blocks alone. -/
theorem XF.lo {i : Nat} {o : Oper} (hget : nth os i = some o) (hg : o.guard = none)
    (h : ∀ w, OpL ⟨C.P, w, [], M ++ (J ++ C.A), C.N⟩ o l [] [] (fun l' M' J' => XF C os Q nd plan l' (M' ++ M) (J' ++ J))) : XF C os Q nd ((i, 2) :: plan) l M J :=
  XK.lo [] M hget hg (.refl _) (fun _ h => by cases h) fun w => (h w).mono fun _ _ _ hh _ => hh
theorem XF.lg {i j t : Nat} {d : Option Nat} {op : Op} {ty : TypeId} {pos : String} {af : Array Edge} {b : Bool} {oj : Oper} (hget : nth os i = some ⟨d, op, ty, pos, af, some (j, b)⟩) (hj : nth os j = some oj) (ht : oj.dst = some t) (hl : lk l t = some (.bool b))
    (h : ∀ w, OpL ⟨C.P, w, [], M ++ (J ++ C.A), C.N⟩ ⟨d, op, ty, pos, af, some (j, b)⟩ l [] [] (fun l' M' J' => XF C os Q nd plan l' (M' ++ M) (J' ++ J))) : XF C os Q nd ((i, 2) :: plan) l M J :=
  XK.lg [] M hget hj ht hl (.refl _) (fun _ h => by cases h) fun w => (h w).mono fun _ _ _ hh _ => hh
end free

/-! ### What comes last in a drawn region may change what is there -/
section tails
variable {C : Cx} {Q : XQ} {l : Env} {M J : Mem} {os : List Oper} {K : Nat → Prop} {n0 : Nat} {nd : List Nat} {plan : List (Nat × Nat)}
theorem XK.last {i : Nat} {o : Oper} (hget : nth os i = some o) (hw' : ∀ a, Ag C.N l a → Region.wanted o (yielded os.toArray a.tmps) = true) (hnd : nd.contains i = false)
    (h : OpL C o l M J (fun l' M' J' => XK C os Q K 0 nd plan l' M' J')) : XK C os Q K 0 nd ((i, 2) :: plan) l M J := by
  intro listed hcl hp a w ha hw hf
  simp only [planOk, Bool.and_eq_true, beq_iff_eq] at hp
  obtain ⟨h1, h2⟩ := hp
  have hi : os.toArray[i]? = some o := by rw [nth_eq] at hget; simpa using hget
  refine ⟨fun h0 => (by rw [h1] at h0; cases h0), fun j hj => ?_⟩
  have hr := hj
  rw [h1] at hj
  simp only [List.mem_singleton] at hj
  subst hj
  unfold wpOp
  simp only [hi]
  rw [if_pos (hw' a ha)]
  refine .inl (Oper.wp_mono ?_ (h _ a w ha hw))
  rintro a' w' ⟨l', M', J', ha', hs', hk⟩
  exact ⟨fun hn => absurd hn (by rw [hnd]; decide), hk _ (closed_set hcl hr) h2 a' w' ha' hs' (Nat.zero_le _)⟩
theorem XF.tl {i : Nat} {o : Oper} (hget : nth os i = some o) (hg : o.guard = none) (hnd : nd.contains i = false) (h : OpL C o l M J (fun l' M' J' => XF C os Q nd plan l' M' J')) : XF C os Q nd ((i, 2) :: plan) l M J :=
  XK.last hget (fun a ha => by simp [Region.wanted, hg]) hnd h
end tails

/-! ### A loop, round by round -/
def XR (C : Cx) (c : Code) (Q : XQ) (n : Nat) (l : Env) (M J : Mem) : Prop := ∀ a w, Ag C.N l a → St C M J w → Code.rounds C.P c (lift C Q) n a w
def unX (C : Cx) (c : Code) (Q : XQ) (n : Nat) : XQ
  | .normal, l, M, J => XR C c Q n l M J
  | e, l, M, J => Q e l M J
section unroll
variable {C : Cx} {Q : XQ} {l l' : Env} {M J : Mem} {c : Code} {n : Nat}
theorem XC.rounds (n : Nat) (h : XR C c Q n l M J) : XC C (.loop c) Q l M J := fun a w ha hw => wp_loop_rounds n (h a w ha hw)
theorem XR.step (h : XC C c (unX C c Q n) l M J) : XR C c Q (n + 1) l M J := by
  intro a w ha hw
  refine Code.wp_mono ?_ (h a w ha hw)
  rintro e a' w' ⟨l', M', J', ha', hw', hq⟩
  cases e with
  | normal => exact hq a' w' ha' hw'
  | _ => exact ⟨l', M', J', ha', hw', hq⟩
theorem un (hk : Keep l l') (h : XR C c Q n l' M J) : unX C c Q n .normal l M J := fun a w ha hw => h a w (ha.sub hk.lk) hw
theorem ue {i : Nat} (h : Q (.exit i) l M J) : unX C c Q n (.exit i) l M J := h
end unroll

/-! ### A call that gets no blocks -/
section call
variable {C : Cx} {Q : XQ} {l : Env} {M J : Mem} {d i j t : Nat} {ty : TypeId} {pos : String} {af : Array Edge} {b : Bool} {f : FuncId} {xs : List Operand} {vs : List Value} {ts : Array TypeId} {post : Value → Mem → Mem → Prop} {K : Env → Mem → Mem → Prop} {g : Option (Nat × Bool)}
theorem l_call0 (hx : Evs l xs vs) (hc : callable C.P f = true)
    (hf : FnX C.P f vs [] (M ++ (J ++ C.A)) post) (hd : Nat.blt d C.N = true) (k : ∀ v M' J', post v M' J' → K ((d, v) :: l) (M' ++ M) (J' ++ J)) :
    OpL C ⟨some d, .call { callee := .value (.func f), args := xs.toArray, argTypes := ts }, ty, pos, af, g⟩ l M J K := l_call (Mc := []) (R := M) hx hc (.refl _) hf hd k
theorem XL.call {ops : Array Oper} {rest : List Oper} (hx : Evs l xs vs) (hc : callable C.P f = true) (hf : FnX C.P f vs [] (M ++ (J ++ C.A)) post) (hd : Nat.blt d C.N = true)
    (k : ∀ v M' J', post v M' J' → XL C ops rest Q ((d, v) :: l) (M' ++ M) (J' ++ J)) :
    XL C ops (⟨some d, .call { callee := .value (.func f), args := xs.toArray, argTypes := ts }, ty, pos, af, none⟩ :: rest) Q l M J := XL.lo rfl (l_call0 hx hc hf hd k)
theorem XL.callg {ops : Array Oper} {rest : List Oper} (ht : (ops[j]?).bind (·.dst) = some t) (hl : lk l t = some (.bool b)) (hx : Evs l xs vs) (hc : callable C.P f = true) (hf : FnX C.P f vs [] (M ++ (J ++ C.A)) post) (hd : Nat.blt d C.N = true)
    (k : ∀ v M' J', post v M' J' → XL C ops rest Q ((d, v) :: l) (M' ++ M) (J' ++ J)) :
    XL C ops (⟨some d, .call { callee := .value (.func f), args := xs.toArray, argTypes := ts }, ty, pos, af, some (j, b)⟩ :: rest) Q l M J := XL.gy ht hl (l_call0 hx hc hf hd k)
variable {os : List Oper} {nd : List Nat} {plan : List (Nat × Nat)} {oj : Oper}
theorem XF.call (hget : nth os i = some ⟨some d, .call { callee := .value (.func f), args := xs.toArray, argTypes := ts }, ty, pos, af, none⟩) (hx : Evs l xs vs) (hc : callable C.P f = true) (hf : FnX C.P f vs [] (M ++ (J ++ C.A)) post) (hd : Nat.blt d C.N = true)
    (k : ∀ v M' J', post v M' J' → XF C os Q nd plan ((d, v) :: l) (M' ++ M) (J' ++ J)) : XF C os Q nd ((i, 2) :: plan) l M J :=
  XF.lo hget rfl fun w => l_call0 hx hc hf hd fun v M' J' hp => by simpa using k v M' J' hp
theorem XF.callg (hget : nth os i = some ⟨some d, .call { callee := .value (.func f), args := xs.toArray, argTypes := ts }, ty, pos, af, some (j, b)⟩) (hj : nth os j = some oj) (ht : oj.dst = some t) (hl : lk l t = some (.bool b)) (hx : Evs l xs vs) (hc : callable C.P f = true) (hf : FnX C.P f vs [] (M ++ (J ++ C.A)) post) (hd : Nat.blt d C.N = true)
    (k : ∀ v M' J', post v M' J' → XF C os Q nd plan ((d, v) :: l) (M' ++ M) (J' ++ J)) : XF C os Q nd ((i, 2) :: plan) l M J :=
  XF.lg hget hj ht hl fun w => l_call0 hx hc hf hd fun v M' J' hp => by simpa using k v M' J' hp
/-- .. and only computes. -/
theorem XL.callV {ops : Array Oper} {rest : List Oper} {v : Value} (hx : Evs l xs vs) (hc : callable C.P f = true) (hf : FnV C.P f vs (M ++ (J ++ C.A)) v) (hd : Nat.blt d C.N = true) (k : XL C ops rest Q ((d, v) :: l) M J) :
    XL C ops (⟨some d, .call { callee := .value (.func f), args := xs.toArray, argTypes := ts }, ty, pos, af, none⟩ :: rest) Q l M J := XL.call hx hc hf hd fun r M' J' h => by obtain ⟨rfl, rfl, rfl⟩ := h; exact k
theorem XL.callVg {ops : Array Oper} {rest : List Oper} {v : Value} (ht : (ops[j]?).bind (·.dst) = some t) (hl : lk l t = some (.bool b)) (hx : Evs l xs vs) (hc : callable C.P f = true) (hf : FnV C.P f vs (M ++ (J ++ C.A)) v) (hd : Nat.blt d C.N = true) (k : XL C ops rest Q ((d, v) :: l) M J) :
    XL C ops (⟨some d, .call { callee := .value (.func f), args := xs.toArray, argTypes := ts }, ty, pos, af, some (j, b)⟩ :: rest) Q l M J := XL.callg ht hl hx hc hf hd fun r M' J' h => by obtain ⟨rfl, rfl, rfl⟩ := h; exact k
theorem XF.callV {v : Value} (hget : nth os i = some ⟨some d, .call { callee := .value (.func f), args := xs.toArray, argTypes := ts }, ty, pos, af, none⟩) (hx : Evs l xs vs) (hc : callable C.P f = true) (hf : FnV C.P f vs (M ++ (J ++ C.A)) v) (hd : Nat.blt d C.N = true)
    (k : XF C os Q nd plan ((d, v) :: l) M J) : XF C os Q nd ((i, 2) :: plan) l M J := XF.call hget hx hc hf hd fun r M' J' h => by obtain ⟨rfl, rfl, rfl⟩ := h; exact k
theorem XF.callVg {v : Value} (hget : nth os i = some ⟨some d, .call { callee := .value (.func f), args := xs.toArray, argTypes := ts }, ty, pos, af, some (j, b)⟩) (hj : nth os j = some oj) (ht : oj.dst = some t) (hl : lk l t = some (.bool b)) (hx : Evs l xs vs) (hc : callable C.P f = true) (hf : FnV C.P f vs (M ++ (J ++ C.A)) v) (hd : Nat.blt d C.N = true)
    (k : XF C os Q nd plan ((d, v) :: l) M J) : XF C os Q nd ((i, 2) :: plan) l M J := XF.callg hget hj ht hl hx hc hf hd fun r M' J' h => by obtain ⟨rfl, rfl, rfl⟩ := h; exact k
end call
end Go.Px

namespace Go.Px
theorem kr_ {X Z Y : Mem} : ∀ x ∈ Z ++ Y, x ∈ (X ++ Z) ++ Y := fun x hx => by rw [List.append_assoc]; exact List.mem_append_right _ hx
end Go.Px

/-
  Groups of operations of a drawn region that come up in any order; each makes new blocks alone, which are read only behind it.
-/
namespace Go.Px
/-- A member: its number, its slot, what it yields (with the facts that are there). -/
structure Gm where
  i : Nat
  d : Nat
  φ : Value → Mem → Prop
def gEnv (G : List Gm) (vs : Nat → Value) : Env := G.map fun g => (g.d, vs g.i)
def enc : List Nat → List (Nat × Nat)
  | [] => []
  | [i] => [(i, 4)]
  | i :: j :: r => (i, 3) :: enc (j :: r)

inductive GOk (ops : Array Oper) : Array Bool → List Nat → Array Bool → Prop
  | nil {A : Array Bool} : GOk ops A [] A
  | cons {A B : Array Bool} {i : Nat} {r : List Nat} (hr : i ∈ Region.ready .any ops A) (ho : ∀ j, j < ops.size → A.getD j true = false → j ∉ i :: r → anc ops ops.size j i = true) (h : GOk ops (A.setIfInBounds i true) r B) : GOk ops A (i :: r) B
theorem grp_enc (i : Nat) (r : List Nat) (plan : List (Nat × Nat)) : grp (enc (i :: r) ++ plan) = i :: r := by
  induction r generalizing i with
  | nil => rfl
  | cons j r ih => simp only [enc, List.cons_append, grp]; rw [ih j]
theorem enc_ok {ops : Array Oper} {nd : List Nat} {plan : List (Nat × Nat)} : ∀ {is : List Nat} {A : Array Bool}, planOk ops nd (enc is ++ plan) A = true → ∃ B, GOk ops A is B ∧ planOk ops nd plan B = true
  | [], A, h => ⟨A, .nil, h⟩
  | [i], A, h => by
    simp only [enc, List.cons_append, List.nil_append, planOk, grpOk, Bool.and_eq_true, List.all_eq_true, List.mem_range, Bool.or_eq_true] at h
    refine ⟨_, .cons (by simpa using h.1.1) (fun j hj hu hn => ?_) .nil, h.2⟩
    rcases h.1.2 j hj with (h1 | h1) | h1
    · rw [hu] at h1; cases h1
    · exact absurd (by simpa using h1) hn
    · exact h1
  | i :: j :: r, A, h => by
    simp only [enc, List.cons_append, planOk, grpOk, Bool.and_eq_true, List.all_eq_true, List.mem_range, Bool.or_eq_true, grp_enc] at h
    obtain ⟨B, hB, hp⟩ := enc_ok (is := j :: r) h.2
    refine ⟨B, .cons (by simpa using h.1.1) (fun j hj hu hn => ?_) hB, hp⟩
    rcases h.1.2 j hj with (h1 | h1) | h1
    · rw [hu] at h1; cases h1
    · exact absurd (by simpa using h1) hn
    · exact h1

def mark (A : Array Bool) (X : List Nat) : Array Bool := X.foldl (fun B i => B.setIfInBounds i true) A
theorem mark_get (X : List Nat) : ∀ (A : Array Bool) (j : Nat), (mark A X)[j]? = if j ∈ X ∧ j < A.size then some true else A[j]? := by
  induction X with
  | nil => intro A j; simp [mark]
  | cons i X ih =>
    intro A j
    have := ih (A.setIfInBounds i true) j
    simp only [mark, List.foldl_cons] at this ⊢
    rw [this]
    simp only [Array.size_setIfInBounds, List.mem_cons]
    by_cases h1 : j < A.size
    · by_cases h2 : j ∈ X
      · simp [h1, h2]
      · by_cases h3 : i = j
        · subst h3; simp [h1, h2]
        · have h3' : j ≠ i := fun h => h3 h.symm
          simp [h1, h2, h3, h3', Array.getElem?_setIfInBounds]
    · simp [h1]
theorem mark_snoc (A : Array Bool) (X : List Nat) (i : Nat) : mark A (X ++ [i]) = (mark A X).setIfInBounds i true := by simp [mark]
theorem mark_eq {A : Array Bool} {X Y : List Nat} (h : ∀ j, j ∈ X ↔ j ∈ Y) : mark A X = mark A Y := by
  apply Array.ext_getElem?
  intro j; rw [mark_get, mark_get]; simp only [h]
theorem mark_getD_f {A : Array Bool} {X : List Nat} {j : Nat} : (mark A X).getD j true = false ↔ (A.getD j true = false ∧ ¬ (j ∈ X ∧ j < A.size)) := by
  have := mark_get X A j
  simp only [Array.getD_eq_getD_getElem?, this]
  split
  · simp_all
  · simp_all
theorem mark_getD_t {A : Array Bool} {X : List Nat} {j : Nat} (h : (mark A X).getD j false = true) : A.getD j false = true ∨ j ∈ X := by
  have := mark_get X A j
  simp only [Array.getD_eq_getD_getElem?, this] at h ⊢
  split at h
  · rename_i hh; exact .inr hh.1
  · exact .inl h
theorem GOk.mark {ops : Array Oper} {A B : Array Bool} {is : List Nat} (h : GOk ops A is B) : B = mark A is := by
  induction h with
  | nil => rfl
  | cons _ _ _ ih => rw [ih]; rfl
theorem ready_un {ops : Array Oper} {A : Array Bool} {i : Nat} (h : i ∈ Region.ready .any ops A) : A.getD i true = false := (mem_ready.1 h).1
theorem ready_lt {ops : Array Oper} {A : Array Bool} {i : Nat} (h : i ∈ Region.ready .any ops A) : i < ops.size := by
  obtain ⟨_, oj, hoj, _⟩ := mem_ready.1 h
  exact (Array.getElem?_eq_some_iff.1 hoj).1
/-- Whoever isn't of the group waits for all of it. -/
theorem GOk.outer {ops : Array Oper} {A B : Array Bool} {is : List Nat} (h : GOk ops A is B) : ∀ i ∈ is, ∀ j, j < ops.size → A.getD j true = false → j ∉ is → anc ops ops.size j i = true := by
  induction h with
  | nil => intro i hi; cases hi
  | @cons A B i r hr ho h ih =>
    intro k hk j hj hu hn
    rcases List.mem_cons.1 hk with rfl | hk
    · exact ho j hj hu hn
    · have hne : i ≠ j := fun e => hn (e ▸ List.mem_cons_self)
      exact ih k hk j hj (by rw [getD_set_ne true hne]; exact hu) (fun hm => hn (List.mem_cons_of_mem _ hm))
/-- Who is first of those that are missing is ready. -/
theorem ready_more {ops : Array Oper} {A A' : Array Bool} {i : Nat} (hr : i ∈ Region.ready .any ops A) (hu : A'.getD i true = false) (hm : ∀ j, A.getD j false = true → A'.getD j false = true) : i ∈ Region.ready .any ops A' := by
  obtain ⟨h1, oj, hoj, hall⟩ := mem_ready.1 hr
  exact mem_ready.2 ⟨hu, oj, hoj, fun e he hb => hm _ (hall e he hb)⟩
theorem getD_f_lt {A : Array Bool} {i : Nat} (h : A.getD i true = false) : i < A.size := by
  rcases Nat.lt_or_ge i A.size with h1 | h1
  · exact h1
  · simp [Array.getElem?_eq_none h1] at h
theorem GOk.first {ops : Array Oper} {A B : Array Bool} {is : List Nat} (h : GOk ops A is B) {A' : Array Bool} (hsz : A'.size = A.size) (hm : ∀ j, A.getD j false = true → A'.getD j false = true) {k : Nat} (hk : k ∈ is) (hk' : A'.getD k true = false) : ∃ i, i ∈ Region.ready .any ops A' := by
  induction h generalizing k with
  | nil => cases hk
  | @cons A B i r hr ho h ih =>
    by_cases hi : A'.getD i true = false
    · exact ⟨i, ready_more hr hi hm⟩
    · rcases List.mem_cons.1 hk with rfl | hk
      · exact absurd hk' hi
      · refine ih (by simpa using hsz) (fun j hj => ?_) hk hk'
        by_cases e : i = j
        · subst e
          have hlt := getD_f_lt (ready_un hr)
          have hlt' : i < A'.size := by omega
          simp [hlt'] at hi ⊢; exact hi
        · rw [getD_set_ne false e] at hj
          exact hm j hj
theorem mark_size (A : Array Bool) (X : List Nat) : (mark A X).size = A.size := by
  induction X generalizing A with
  | nil => rfl
  | cons i X ih => simp only [mark, List.foldl_cons] at ih ⊢; rw [ih]; simp
theorem mark_mono {A : Array Bool} {X : List Nat} {j : Nat} (h : A.getD j false = true) : (mark A X).getD j false = true := by
  have := mark_get X A j
  simp only [Array.getD_eq_getD_getElem?, this] at h ⊢
  split
  · rfl
  · exact h
theorem St.freezeAll {C : Cx} {M J : Mem} {w : World} : ∀ {B : Mem}, St C (B ++ M) J w → St C M (B ++ J) w
  | [], h => h
  | x :: B, h => by
    have h1 := St.freezeAll (B := B) (h.freeze)
    exact h1.drop (List.Sublist.refl _) fun y hy => by
      simp only [List.cons_append, List.mem_cons, List.mem_append] at hy ⊢
      rcases hy with hy | hy | hy <;> simp [hy]

theorem nodup_le {X : List Nat} : ∀ {Y : List Nat}, X.Nodup → (∀ x ∈ X, x ∈ Y) → X.length ≤ Y.length := by
  induction X with
  | nil => intros; simp
  | cons x X ih =>
    intro Y hn hs
    simp only [List.nodup_cons] at hn
    have h1 := ih (Y := Y.erase x) hn.2 fun z hz => (List.mem_erase_of_ne (fun e => hn.1 (by rw [← e]; exact hz))).2 (hs z (List.mem_cons_of_mem _ hz))
    have h2 := List.length_erase_of_mem (hs x List.mem_cons_self)
    have h3 : 0 < Y.length := List.length_pos_of_mem (hs x List.mem_cons_self)
    simp only [List.length_cons]; omega
theorem nodup_all {X Y : List Nat} (hn : X.Nodup) (hs : ∀ x ∈ X, x ∈ Y) (hl : Y.length ≤ X.length) : ∀ y ∈ Y, y ∈ X := by
  intro y hy
  apply Classical.byContradiction
  intro hno
  have := nodup_le (X := y :: X) (Y := Y) (List.nodup_cons.2 ⟨hno, hn⟩) (fun z hz => by
    rcases List.mem_cons.1 hz with rfl | hz
    · exact hy
    · exact hs z hz)
  simp at this; omega
theorem gm_inj {G : List Gm} (h : (G.map (·.i)).Nodup) {g g' : Gm} (hg : g ∈ G) (hg' : g' ∈ G) (e : g.i = g'.i) : g = g' := by
  induction G with
  | nil => cases hg
  | cons x G ih =>
    simp only [List.map_cons, List.nodup_cons] at h
    rcases List.mem_cons.1 hg with h1 | h1 <;> rcases List.mem_cons.1 hg' with h2 | h2
    · rw [h1, h2]
    · exact absurd (by rw [← h1, e]; exact List.mem_map_of_mem (f := Gm.i) h2) h.1
    · exact absurd (by rw [← h2, ← e]; exact List.mem_map_of_mem (f := Gm.i) h1) h.1
    · exact ih h.2 h1 h2

theorem gEnv_set {N : Nat} {G : List Gm} {l : Env} {vs : Nat → Value} {a : Act} {g : Gm} (hg : g ∈ G) (hd : (G.map (·.d)).Nodup) (hi : (G.map (·.i)).Nodup) {v : Value} (h : Ag N ((g.d, v) :: (gEnv G vs ++ l)) a) :
    Ag N (gEnv G (fun k => if k = g.i then v else vs k) ++ l) a := by
  refine h.sub ?_
  have key : ∀ (G : List Gm), g ∈ G → (G.map (·.d)).Nodup → (G.map (·.i)).Nodup → ∀ k u, lk (gEnv G (fun k => if k = g.i then v else vs k) ++ l) k = some u → lk ((g.d, v) :: (gEnv G vs ++ l)) k = some u := by
    intro G
    have step : ∀ (G : List Gm), (∀ x ∈ G, x.i ≠ g.i) → gEnv G (fun k => if k = g.i then v else vs k) = gEnv G vs := by
      intro G hG
      exact List.map_congr_left fun x hx => by simp [hG x hx]
    induction G with
    | nil => intro h; cases h
    | cons x G ih =>
      intro hm hd hi k u hk
      simp only [List.map_cons, List.nodup_cons] at hd hi
      rcases List.mem_cons.1 hm with rfl | hm
      · have e := step G fun x hx e => hi.1 (e ▸ List.mem_map_of_mem (f := Gm.i) hx)
        simp only [gEnv, List.map_cons, List.cons_append, lk] at hk ⊢
        by_cases h1 : g.d = k
        · subst h1; simpa using hk
        · simp only [beq_ne h1, cond_false] at hk ⊢
          rw [show List.map (fun g_1 => (g_1.d, if g_1.i = g.i then v else vs g_1.i)) G = gEnv G vs from e] at hk
          exact hk
      · have hne : x.i ≠ g.i := fun e => hi.1 (e ▸ List.mem_map_of_mem (f := Gm.i) hm)
        have hned : x.d ≠ g.d := fun e => hd.1 (e ▸ List.mem_map_of_mem (f := Gm.d) hm)
        simp only [gEnv, List.map_cons, List.cons_append, lk, hne, if_false] at hk ⊢
        by_cases h1 : g.d = k
        · subst h1
          simp only [beq_ne hned, cond_false] at hk
          have := ih hm hd.2 hi.2 g.d u hk
          simp only [lk] at this ⊢
          simpa using this
        · simp only [beq_ne h1, cond_false]
          by_cases h2 : x.d = k
          · subst h2; simpa using hk
          · simp only [beq_ne h2, cond_false] at hk ⊢
            have := ih hm hd.2 hi.2 k u hk
            simp only [lk, beq_ne h1, cond_false] at this
            exact this
  exact key G hg hd hi

section group
variable {C : Cx} {Q : XQ} {l : Env} {M J : Mem} {os : List Oper} {K : Nat → Prop} {n0 : Nat} {nd : List Nat} {plan : List (Nat × Nat)}
/-- Is an operation asked, in a state? -/
def Asked (os : List Oper) (l : Env) (o : Oper) : Prop := o.guard = none ∨ ∃ j t b oj, o.guard = some (j, b) ∧ nth os j = some oj ∧ oj.dst = some t ∧ lk l t = some (.bool b)
theorem Asked.wanted {o : Oper} (h : Asked os l o) {a : Act} (ha : Ag C.N l a) : Region.wanted o (yielded os.toArray a.tmps) = true := by
  rcases h with h | ⟨j, t, b, oj, h1, h2, h3, h4⟩
  · simp [Region.wanted, h]
  · have hj' : os.toArray[j]? = some oj := by rw [nth_eq] at h2; simpa using h2
    simp only [Region.wanted, h1, yielded, hj', Option.bind_some, h3, ha.slot _ _ h4]; simp
/-- What a member owes: with what those yield that it waits for. -/
def Owes (C : Cx) (os : List Oper) (l : Env) (M J : Mem) (G : List Gm) (g : Gm) : Prop :=
  ∃ o, nth os g.i = some o ∧ ∀ (vs : Nat → Value) (R : Mem) (w : World), (∀ x ∈ M ++ (J ++ C.A), x ∈ R) → (∀ g' ∈ G, anc os.toArray os.toArray.size g.i g'.i = true → g'.φ (vs g'.i) R) →
    Asked os (gEnv G vs ++ l) o ∧ OpL ⟨C.P, w, [], R, C.N⟩ o (gEnv G vs ++ l) [] [] (fun l' M' J' => ∃ v, l' = (g.d, v) :: (gEnv G vs ++ l) ∧ g.φ v (M' ++ (J' ++ R)))
def Grows (φ : Value → Mem → Prop) : Prop := ∀ v R R', (∀ x ∈ R, x ∈ R') → φ v R → φ v R'

theorem group_go {G : List Gm} (hmono : ∀ g ∈ G, Grows g.φ) (hd : (G.map (·.d)).Nodup) (hi : (G.map (·.i)).Nodup) (hdN : ∀ g ∈ G, g.d < C.N) (hob : ∀ g ∈ G, Owes C os l M J G g) {A B : Array Bool} (hok : GOk os.toArray A (G.map (·.i)) B)
    (hfin : ∀ (vs : Nat → Value) Jn a w, (∀ g ∈ G, g.φ (vs g.i) (M ++ ((Jn ++ J) ++ C.A))) → Ag C.N (gEnv G vs ++ l) a → St C M (Jn ++ J) w → n0 ≤ w.heap.size → wpAnyS C.P os.toArray (noPanicX (lift C Q)) (Sk K) nd.contains plan.length B a w) :
    ∀ (n : Nat) (X : List Nat) (vs : Nat → Value) (Jn : Mem) (a : Act) (w : World), X.Nodup → (∀ i ∈ X, i ∈ G.map (·.i)) → n + X.length = G.length → Closed os.toArray (mark A X) →
      (∀ g ∈ G, g.i ∈ X → g.φ (vs g.i) (M ++ ((Jn ++ J) ++ C.A))) → Ag C.N (gEnv G vs ++ l) a → St C M (Jn ++ J) w → n0 ≤ w.heap.size →
      wpAnyS C.P os.toArray (noPanicX (lift C Q)) (Sk K) nd.contains (n + plan.length) (mark A X) a w := by
  intro n
  induction n with
  | zero =>
    intro X vs Jn a w hnd hX hlen hcl hφ ha hw hn
    have hall : ∀ i, i ∈ X ↔ i ∈ G.map (·.i) := fun i => ⟨hX i, nodup_all hnd hX (by simp; omega) i⟩
    rw [Nat.zero_add, mark_eq hall, ← hok.mark]
    exact hfin vs Jn a w (fun g hg => hφ g hg ((hall _).2 (List.mem_map_of_mem (f := Gm.i) hg))) ha hw hn
  | succ n ih =>
    intro X vs Jn a w hnd hX hlen hcl hφ ha hw hn
    have hmiss : ∃ k ∈ G.map (·.i), k ∉ X := by
      apply Classical.byContradiction
      intro hno
      have hs : ∀ k ∈ G.map (·.i), k ∈ X := fun k hk => Classical.byContradiction fun h => hno ⟨k, hk, h⟩
      have := nodup_le hi hs
      simp at this; omega
    obtain ⟨k, hkG, hkX⟩ := hmiss
    have hun : ∀ i ∈ G.map (·.i), A.getD i true = false := by
      have : ∀ {is A B}, GOk os.toArray A is B → ∀ i ∈ is, A.getD i true = false := by
        intro is A B h
        induction h with
        | nil => intro i hi; cases hi
        | @cons A B i r hr ho h ih =>
          intro k hk
          rcases List.mem_cons.1 hk with rfl | hk
          · exact ready_un hr
          · have h2 := ih k hk
            by_cases e : i = k
            · subst e; exact ready_un hr
            · rwa [getD_set_ne true e] at h2
      exact this hok
    have hkun : (mark A X).getD k true = false := mark_getD_f.2 ⟨hun k hkG, fun h => hkX h.1⟩
    rw [show n + 1 + plan.length = (n + plan.length) + 1 by omega]
    refine ⟨fun h0 => ?_, fun i hir => ?_⟩
    · obtain ⟨i, hir⟩ := hok.first (mark_size A X) (fun j hj => mark_mono hj) hkG hkun
      rw [h0] at hir; cases hir
    · have hiG : i ∈ G.map (·.i) := by
        apply Classical.byContradiction
        intro hno
        have h1 := mark_getD_f.1 (ready_un hir)
        have h2 := hok.outer k hkG i (ready_lt hir) h1.1 hno
        exact not_both hkun (anc_ready hcl h2 hir)
      obtain ⟨g, hg, rfl⟩ := List.mem_map.1 hiG
      have hiX : g.i ∉ X := fun h => (mark_getD_f.1 (ready_un hir)).2 ⟨h, getD_f_lt (hun _ hiG)⟩
      obtain ⟨o, hget, howe⟩ := hob g hg
      have hi' : os.toArray[g.i]? = some o := by rw [nth_eq] at hget; simpa using hget
      obtain ⟨hask, hop⟩ := howe vs (M ++ ((Jn ++ J) ++ C.A)) w (fun x hx => by simp only [List.mem_append] at hx ⊢; rcases hx with h | h | h <;> simp [h]) (fun g' hg' hanc => hφ g' hg' (by
        have h3 := anc_ready hcl hanc hir
        rcases mark_getD_t h3 with h4 | h4
        · exact (not_both (hun _ (List.mem_map_of_mem (f := Gm.i) hg')) h4).elim
        · exact h4))
      unfold wpOp
      simp only [hi']
      rw [if_pos (hask.wanted ha)]
      have hcal := hw.callee (Mc := []) (R := M) (.refl _)
      refine .inl (Oper.wp_mono ?_ (hop _ a w ha hcal.cx))
      rintro a' w' ⟨l', M', J', ha', hs', v, rfl, hφv⟩
      have hsz : w.heap.size ≤ w'.heap.size := hs'.size
      have hb := hw.back (Mc := []) (R := M) (.refl _) hs'.cx
      have hfr := St.freezeAll hb
      have hfr2 : St C M ((M' ++ (J' ++ Jn)) ++ J) w' := hfr.drop (List.Sublist.refl _) fun x hx => by
        simp only [List.mem_append] at hx ⊢
        rcases hx with (h | h | h) | h <;> simp [h]
      refine ⟨fun _ b hb' hnk => hs'.frame b hb' (by simp), ?_⟩
      rw [← mark_snoc]
      refine ih (X ++ [g.i]) (fun k => if k = g.i then v else vs k) (M' ++ (J' ++ Jn)) a' w' ?_ ?_ (by simp; omega) ?_ ?_ (gEnv_set hg hd hi ha') hfr2 (Nat.le_trans hn hsz)
      · rw [List.nodup_append]; exact ⟨hnd, by simp, fun x hx y hy e => hiX (by simp at hy; subst hy; exact e ▸ hx)⟩
      · intro j hj
        rcases List.mem_append.1 hj with hj | hj
        · exact hX j hj
        · simp at hj; subst hj; exact hiG
      · rw [mark_snoc]; exact closed_set hcl hir
      · intro g' hg' hm
        by_cases e : g'.i = g.i
        · have : g' = g := gm_inj hi hg' hg e
          subst this
          simp only [if_true]
          exact hmono g' hg' _ _ _ (fun x hx => by simp only [List.mem_append] at hx ⊢; rcases hx with h | h | h | ((h | h) | h) <;> simp [h]) hφv
        · simp only [e, if_false]
          have hm' : g'.i ∈ X := by simpa [e] using hm
          exact hmono g' hg' _ _ _ (fun x hx => by simp only [List.mem_append] at hx ⊢; rcases hx with h | (h | h) | h <;> simp [h]) (hφ g' hg' hm')

theorem XK.group (G : List Gm) (hmono : ∀ g ∈ G, Grows g.φ) (hd : (G.map (·.d)).Nodup) (hi : (G.map (·.i)).Nodup) (hdN : ∀ g ∈ G, g.d < C.N) (hob : ∀ g ∈ G, Owes C os l M J G g)
    (h : ∀ (vs : Nat → Value) Jn, (∀ g ∈ G, g.φ (vs g.i) (M ++ ((Jn ++ J) ++ C.A))) → XK C os Q K n0 nd plan (gEnv G vs ++ l) M (Jn ++ J)) : XK C os Q K n0 nd (enc (G.map (·.i)) ++ plan) l M J := by
  intro listed hcl hp a w ha hw hn
  obtain ⟨B, hok, hp2⟩ := enc_ok hp
  have hBcl : Closed os.toArray B := by
    have : ∀ {A is B}, GOk os.toArray A is B → Closed os.toArray A → Closed os.toArray B := by
      intro A is B h
      induction h with
      | nil => exact id
      | cons hr _ _ ih => exact fun hc => ih (closed_set hc hr)
    exact this hok hcl
  have hlen : (enc (G.map (·.i)) ++ plan).length = G.length + plan.length := by
    have : ∀ is : List Nat, (enc is).length = is.length := by
      intro is
      induction is with
      | nil => rfl
      | cons i r ih => cases r with
        | nil => rfl
        | cons j r => simp only [enc, List.length_cons] at ih ⊢; rw [ih]
    simp [this]
  rw [hlen]
  -- the slots' own content, to begin with
  let vs : Nat → Value := fun k => match G.find? (fun g => g.i == k) with
    | some g => (a.tmps[g.d]?).getD undef
    | none => undef
  have hag : Ag C.N (gEnv G vs ++ l) a := by
    refine ⟨ha.defers, ha.size, ?_⟩
    intro k u hk
    have key : ∀ G' : List Gm, (∀ g ∈ G', g ∈ G) → lk (gEnv G' vs ++ l) k = some u → a.tmps[k]? = some u := by
      intro G'
      induction G' with
      | nil => intro _ h; exact ha.slot k u h
      | cons g G' ih =>
        intro hs h
        simp only [gEnv, List.map_cons, List.cons_append, lk] at h
        by_cases e : g.d = k
        · subst e
          simp at h
          have hf : G.find? (fun x => x.i == g.i) = some g := by
            have hgG := hs g List.mem_cons_self
            cases hq : G.find? (fun x => x.i == g.i) with
            | none => have := List.find?_eq_none.1 hq g hgG; simp at this
            | some x =>
              have h1 := List.find?_some hq
              have h2 := List.mem_of_find?_eq_some hq
              rw [gm_inj hi h2 hgG (by simpa using h1)]
          have hlt : g.d < a.tmps.size := by rw [ha.size]; exact hdN g (hs g List.mem_cons_self)
          rw [← h]
          show a.tmps[g.d]? = some (vs g.i)
          simp only [vs, hf, Array.getElem?_eq_getElem hlt, Option.getD_some]
        · simp only [beq_ne e, cond_false] at h
          exact ih (fun x hx => hs x (List.mem_cons_of_mem _ hx)) h
    exact key G (fun _ h => h) hk
  exact group_go (n0 := n0) (K := K) hmono hd hi hdN hob hok (fun vs Jn a w hφ ha hw hn => h vs Jn hφ B hBcl hp2 a w ha hw hn) G.length [] vs [] a w .nil (fun _ h => by cases h) (by simp) hcl (fun _ _ h => by cases h) hag hw hn
end group
theorem ln0 {α : Type} : ([] : List α).length = ([] : List α).length := rfl
theorem lnS {α : Type} {x y : α} {r s : List α} (h : r.length = s.length) : (x :: r).length = (y :: s).length := by rw [List.length_cons, List.length_cons, h]
theorem all0 {α : Type} {p : α → Prop} : ∀ x ∈ ([] : List α), p x := fun _ h => by cases h
theorem allS {α : Type} {p : α → Prop} {y : α} {r : List α} (h : p y) (hr : ∀ x ∈ r, p x) : ∀ x ∈ y :: r, p x := fun x hx => (List.mem_cons.1 hx).elim (fun e => e ▸ h) (hr x)
theorem ofH {α : Type} {p : α → Prop} {y : α} {r : List α} (h : ∀ x ∈ y :: r, p x) : p y := h y List.mem_cons_self
theorem ofT {α : Type} {p : α → Prop} {y : α} {r : List α} (h : ∀ x ∈ y :: r, p x) : ∀ x ∈ r, p x := fun x hx => h x (List.mem_cons_of_mem _ hx)
theorem growsEq {u : Value} : Grows fun v _ => v = u := fun _ _ _ _ hp => hp
end Go.Px

/-
  Unsigned arithmetic by numbers: each rule names its value outright. Constants of the text are handed in by (a := ..), (b := ..).
-/
namespace Go.Px
section rules
variable {P : Program} {R : Mem} {l : Env} {d : Option Nat} {ty t t' : TypeId} {pos : String} {af : Array Edge} {g : Option (Nat × Bool)} {x y : Operand} {k k' : IntKind} {i j : Int} {a b : Nat}
theorem q_addM (m : Nat) (hk : k.signed = false) (hm : 2 ^ k.bits = m) (hx : ev l x = some (.int k i)) (hy : ev l y = some (.int k j)) (hi : i = (a : Int)) (hj : j = (b : Int)) :
    OpQ P R ⟨d, .binOp .add t x y t', ty, pos, af, g⟩ l (.int k (((a + b) % m : Nat) : Int)) := by
  subst hi; subst hj; exact q_bin hx hy (addU hk _ (by rw [hm]))
theorem q_mulM (m : Nat) (hk : k.signed = false) (hm : 2 ^ k.bits = m) (hx : ev l x = some (.int k i)) (hy : ev l y = some (.int k j)) (hi : i = (a : Int)) (hj : j = (b : Int)) :
    OpQ P R ⟨d, .binOp .mul t x y t', ty, pos, af, g⟩ l (.int k (((a * b) % m : Nat) : Int)) := by
  subst hi; subst hj; exact q_bin hx hy (mulU hk _ (by rw [hm]))
theorem q_subM (m : Nat) (hk : k.signed = false) (hm : 2 ^ k.bits = m) (hx : ev l x = some (.int k i)) (hy : ev l y = some (.int k j)) (hi : i = (a : Int)) (hj : j = (b : Int)) (hb : b ≤ m) :
    OpQ P R ⟨d, .binOp .sub t x y t', ty, pos, af, g⟩ l (.int k (((a + (m - b)) % m : Nat) : Int)) := by
  subst hi; subst hj; subst hm; exact q_bin hx hy (subU hk _ hb rfl)
/-- .. that don't pass their bounds. -/
theorem q_addS (m : Nat) (hk : k.signed = false) (hm : 2 ^ k.bits = m) (hx : ev l x = some (.int k i)) (hy : ev l y = some (.int k j)) (hi : i = (a : Int)) (hj : j = (b : Int)) (h : a + b < m) :
    OpQ P R ⟨d, .binOp .add t x y t', ty, pos, af, g⟩ l (.int k ((a + b : Nat) : Int)) := by
  have := q_addM (P := P) (R := R) (d := d) (ty := ty) (pos := pos) (af := af) (g := g) (t := t) (t' := t') m hk hm hx hy hi hj
  rwa [Nat.mod_eq_of_lt h] at this
theorem q_subS (m : Nat) (hk : k.signed = false) (hm : 2 ^ k.bits = m) (hx : ev l x = some (.int k i)) (hy : ev l y = some (.int k j)) (hi : i = (a : Int)) (hj : j = (b : Int)) (ha : a < m) (h : b ≤ a) :
    OpQ P R ⟨d, .binOp .sub t x y t', ty, pos, af, g⟩ l (.int k ((a - b : Nat) : Int)) := by
  have := q_subM (P := P) (R := R) (d := d) (ty := ty) (pos := pos) (af := af) (g := g) (t := t) (t' := t') m hk hm hx hy hi hj (by omega)
  rwa [show a + (m - b) = (a - b) + m by omega, Nat.add_mod_right, Nat.mod_eq_of_lt (by omega)] at this
/-- Shifts by a constant; bits by a mask. -/
theorem q_shrD (s D : Nat) (hD : 2 ^ s = D) (hx : ev l x = some (.int k (a : Int))) (hy : ev l y = some (.int k' i)) (hi : i = s) (hs : s ≤ k.bits) : OpQ P R ⟨d, .binOp .shr t x y t', ty, pos, af, g⟩ l (.int k ((a / D : Nat) : Int)) := by
  have := q_shrN (P := P) (R := R) (d := d) (ty := ty) (pos := pos) (af := af) (g := g) (t := t) (t' := t') s hx hy hi hs
  rwa [Nat.shiftRight_eq_div_pow, hD] at this
theorem q_shlD (s D m : Nat) (hk : k.signed = false) (hD : 2 ^ s = D) (hm : 2 ^ k.bits = m) (hx : ev l x = some (.int k (a : Int))) (hy : ev l y = some (.int k' i)) (hi : i = s) (hs : s ≤ k.bits) : OpQ P R ⟨d, .binOp .shl t x y t', ty, pos, af, g⟩ l (.int k ((a * D % m : Nat) : Int)) := by
  have := q_shlN (P := P) (R := R) (d := d) (ty := ty) (pos := pos) (af := af) (g := g) (t := t) (t' := t') hk s hx hy hi hs
  rwa [Nat.shiftLeft_eq, hD, hm] at this
theorem q_andD (s D : Nat) (hk : k.signed = false) (hD : 2 ^ s = D) (hx : ev l x = some (.int k (a : Int))) (hy : ev l y = some (.int k j)) (hj : j = ((D - 1 : Nat) : Int)) (ha : a < 2 ^ k.bits) (hs : s ≤ k.bits) : OpQ P R ⟨d, .binOp .and t x y t', ty, pos, af, g⟩ l (.int k ((a % D : Nat) : Int)) := by
  subst hj; subst hD
  have h2 : 2 ^ s - 1 < 2 ^ k.bits := Nat.lt_of_lt_of_le (Nat.sub_lt (Nat.two_pow_pos _) (by decide)) (Nat.pow_le_pow_right (by decide) hs)
  have := q_and (P := P) (R := R) (d := d) (ty := ty) (pos := pos) (af := af) (g := g) (t := t) (t' := t') hk hx hy ha h2
  rwa [Nat.and_two_pow_sub_one_eq_mod] at this
theorem q_quoD (D : Nat) (hx : ev l x = some (.int k (a : Int))) (hy : ev l y = some (.int k j)) (hj : j = (D : Int)) (hD : D ≠ 0) (h : k.wrap ((a / D : Nat) : Int) = ((a / D : Nat) : Int)) : OpQ P R ⟨d, .binOp .quo t x y t', ty, pos, af, g⟩ l (.int k ((a / D : Nat) : Int)) := by
  subst hj; exact q_quoN hx hy hD h
theorem q_remD (D : Nat) (hx : ev l x = some (.int k (a : Int))) (hy : ev l y = some (.int k j)) (hj : j = (D : Int)) (hD : D ≠ 0) : OpQ P R ⟨d, .binOp .rem t x y t', ty, pos, af, g⟩ l (.int k ((a % D : Nat) : Int)) := by
  subst hj; exact q_remN hx hy hD
/-- The address of an element of an array, its place written out. -/
theorem q_idxAN (off : Nat) {t e : TypeId} {b o n i sz : Nat} {k : IntKind} {ii : Int} (hx : ev l x = some (.pointer (some ⟨b, o, none⟩))) (hy : ev l y = some (.int k ii))
    (hu : P.underlying t = some (.array n e)) (hs : sizeT P e = some sz) (hi : ii = i) (hlt : i < n) (ho : o + i * sz = off) :
    OpQ P R ⟨d, .indexAddr t x y, ty, pos, af, g⟩ l (.pointer (some ⟨b, off, none⟩)) := ho ▸ q_idxA hx hy hu hs hi hlt
end rules
/-- Some cells out of the middle. -/
class TakeC (cs : List Value) (o n : Nat) (vs : outParam (List Value)) : Prop where
  take : vs.length = n ∧ ∀ j v, vs[j]? = some v → cs[o + j]? = some v
instance TakeC.nil {cs : List Value} : TakeC cs 0 0 [] := ⟨rfl, fun j v h => by simp at h⟩
instance TakeC.put {x : Value} {r vs : List Value} {n : Nat} [h : TakeC r 0 n vs] : TakeC (x :: r) 0 (n + 1) (x :: vs) := ⟨by simp [h.take.1], fun j v hv => by
  cases j with
  | zero => simpa using hv
  | succ j => have := h.take.2 j v (by simpa using hv); rw [Nat.zero_add] at this ⊢; simpa using this⟩
instance TakeC.skip {x : Value} {r vs : List Value} {o n : Nat} [h : TakeC r o n vs] : TakeC (x :: r) (o + 1) n vs := ⟨h.take.1, fun j v hv => by
  have := h.take.2 j v hv
  rw [show o + 1 + j = (o + j) + 1 by omega]; simpa using this⟩
theorem q_loadT {P : Program} {R : Mem} {l : Env} {d : Option Nat} {ty t : TypeId} {pos : String} {af : Array Edge} {g : Option (Nat × Bool)} {x : Operand} {n b o : Nat} {cs vs : List Value} {e : TypeId} {fr : Nat × Nat} (hx : ev l x = some (.pointer (some ⟨b, o, none⟩))) (ht : rowT P t = some n)
    (hb : (b, Obj.cells cs.toArray e fr) ∈ R) (h : vs.length = n ∧ ∀ j v, vs[j]? = some v → cs[o + j]? = some v) : OpQ P R ⟨d, .load t x, ty, pos, af, g⟩ l (.agg vs.toArray) := q_loadR hx ht hb h.1 h.2
theorem l_storeS {C : Cx} {l : Env} {M J : Mem} {K : Env → Mem → Mem → Prop} {ty : TypeId} {pos : String} {af : Array Edge} {g : Option (Nat × Bool)} {x y : Operand} {t : TypeId} {b o : Nat} {cs vs cs' : List Value} {e : TypeId} {M' : Mem} (hx : ev l x = some (.pointer (some ⟨b, o, none⟩))) (hy : ev l y = some (.agg vs.toArray))
    (ht : sizeT C.P t = some vs.length) (h1 : ∀ u ∈ vs, u.oneCell' = true) [hs : SetR cs o vs cs'] (hu : Upd M b (blk cs e) (blk cs' e) M') (k : K l M' J) :
    OpL C ⟨none, .store t x y, ty, pos, af, g⟩ l M J K := l_storeR hx hy rfl ht hs.set.1 h1 hs.set.2.symm hu k
section tuples
variable {P : Program} {R : Mem} {l : Env} {d : Option Nat} {ty : TypeId} {pos : String} {af : Array Edge} {g : Option (Nat × Bool)} {x : Operand} {a b c e : Value} {r : List Value}
theorem q_x0 (hx : ev l x = some (.tuple (a :: r).toArray)) : OpQ P R ⟨d, .extract x 0, ty, pos, af, g⟩ l a := q_extract hx rfl
theorem q_x1 (hx : ev l x = some (.tuple (a :: b :: r).toArray)) : OpQ P R ⟨d, .extract x 1, ty, pos, af, g⟩ l b := q_extract hx rfl
theorem q_x2 (hx : ev l x = some (.tuple (a :: b :: c :: r).toArray)) : OpQ P R ⟨d, .extract x 2, ty, pos, af, g⟩ l c := q_extract hx rfl
theorem q_x3 (hx : ev l x = some (.tuple (a :: b :: c :: e :: r).toArray)) : OpQ P R ⟨d, .extract x 3, ty, pos, af, g⟩ l e := q_extract hx rfl
end tuples
/-- math/bits.Add64: the model stands in for it. -/
theorem q_bitsAdd {P : Program} {R : Mem} {l : Env} {d : Option Nat} {ty : TypeId} {pos : String} {af : Array Edge} {g : Option (Nat × Bool)} {x y z : Operand} {f : FuncId} {fn : Func} {ts : Array TypeId} {a b c : Nat} {i j k : Int} (hf : P.funcs[f]? = some fn)
    (h1 : fn.body.isNone = true) (h2 : (fn.name == "runtime.NumGoroutine") = false) (h3 : Extern.findNext fn = none) (h4 : Extern.find fn = some add64Entry)
    (hx : ev l x = some (.int .u64 i)) (hy : ev l y = some (.int .u64 j)) (hz : ev l z = some (.int .u64 k)) (hc : c ≤ 1) (hi : i = (a : Int) := by rfl) (hj : j = (b : Int) := by rfl) (hk : k = (c : Int) := by rfl) :
    OpQ P R ⟨d, .call { callee := .value (.func f), args := #[x, y, z], argTypes := ts }, ty, pos, af, g⟩ l (.tuple #[.int .u64 (((a + b + c) % 18446744073709551616 : Nat) : Int), .int .u64 (((a + b + c) / 18446744073709551616 : Nat) : Int)]) := fun N A w ha hw => by
  subst hi; subst hj; subst hk
  have hcall : (callFunc f #[.int .u64 (a : Int), .int .u64 (b : Int), .int .u64 (c : Int)]).run P w = .ok (.value (.tuple #[.int .u64 (((a + b + c) % 18446744073709551616 : Nat) : Int), .int .u64 (((a + b + c) / 18446744073709551616 : Nat) : Int)])) w := by
    rw [run_callFunc_extern hf h2 h1 h3 (e := add64Entry) h4, run_add64 a b c (by omega) (by omega) (by omega) (by omega)]
    simp only [Result.andThen]
    congr 5 <;> omega
  have e : (#[x, y, z] : Array Operand).map A.eval = #[.int .u64 (a : Int), .int .u64 (b : Int), .int .u64 (c : Int)] := by simp [ha.ev hx, ha.ev hy, ha.ev hz]
  simp only [execOp, resolve, e, Sem.run_bind]
  simp only [Act.eval, Deferred.ofValue, invoke, Sem.run_pure, Result.andThen_ok, Array.append_empty, Array.empty_append, hcall]
end Go.Px

namespace Go.Px
theorem qi_ {P : Program} {R : Mem} {l : Env} {d : Option Nat} {ty t : TypeId} {pos : String} {af : Array Edge} {g : Option (Nat × Bool)} {x y : Operand} {b o : Nat} {k : IntKind} {ii : Int} (off : Nat) (e : TypeId) (n sz i : Nat) (hx : ev l x = some (.pointer (some ⟨b, o, none⟩)) := by exact rfl) (hy : ev l y = some (.int k ii) := by exact rfl)
    (hu : P.underlying t = some (.array n e) := by kernel_rfl) (hs : sizeT P e = some sz := by kernel_rfl) (hi : ii = i := by exact rfl) (hlt : i < n := by decide) (ho : o + i * sz = off := by exact rfl) :
    OpQ P R ⟨d, .indexAddr t x y, ty, pos, af, g⟩ l (.pointer (some ⟨b, off, none⟩)) := q_idxAN off hx hy hu hs hi hlt ho
end Go.Px

/-
  Rules whose facts are found by their values: slices that read or are owned, blocks picked out of the owned ones.
-/
namespace Go.Px
/-- The blocks B are among the owned ones M; R are the others. -/
class PickC (M : Mem) (B : Mem) (R : outParam Mem) : Prop where
  perm : M.Perm (B ++ R)
instance (priority := low) PickC.nil {M : Mem} : PickC M [] M := ⟨.refl _⟩
instance (priority := high) PickC.here {B M : Mem} : PickC (B ++ M) B M := ⟨.refl _⟩
instance PickC.sing {x : Nat × Obj} {M : Mem} : PickC (x :: M) [x] M := ⟨.refl _⟩
instance (priority := low) PickC.cons {x : Nat × Obj} {M B R : Mem} [h : PickC M B R] : PickC (x :: M) B (x :: R) := ⟨(List.Perm.cons x h.perm).trans List.perm_middle.symm⟩
instance (priority := low) PickC.app {D M B R : Mem} [h : PickC M B R] : PickC (D ++ M) B (D ++ R) := ⟨(List.Perm.append_left D h.perm).trans (List.perm_append_comm_assoc D B R)⟩
instance PickC.whole {B : Mem} : PickC B B [] := ⟨by simp⟩
/-- The facts X are among Y. -/
class SubC (X Y : Mem) : Prop where
  sub : ∀ x, x ∈ X → x ∈ Y
instance (priority := high) SubC.same {X : Mem} : SubC X X := ⟨fun _ h => h⟩
instance (priority := high) SubC.here {X Y : Mem} : SubC X (X ++ Y) := ⟨fun _ h => List.mem_append_left _ h⟩
instance SubC.left {X Y Z : Mem} [h : SubC X Y] : SubC X (Y ++ Z) := ⟨fun _ hx => List.mem_append_left _ (h.sub _ hx)⟩
instance (priority := low) SubC.right {X Y Z : Mem} [h : SubC X Z] : SubC X (Y ++ Z) := ⟨fun _ hx => List.mem_append_right _ (h.sub _ hx)⟩
instance (priority := low) SubC.tail {X Y : Mem} {y : Nat × Obj} [h : SubC X Y] : SubC X (y :: Y) := ⟨fun _ hx => List.mem_cons_of_mem _ (h.sub _ hx)⟩
instance SubC.nil {Y : Mem} : SubC [] Y := ⟨fun _ h => by simp at h⟩
instance SubC.sing {x : Nat × Obj} {Y : Mem} : SubC [x] (x :: Y) := ⟨fun _ h => by simp at h; simp [h]⟩
theorem Fit.pick {M B R M' : Mem} (h : M.Perm (B ++ R)) (hr : Fit R M') : Fit M (B ++ M') := by
  obtain ⟨M1, h1, h2⟩ := hr
  exact ⟨B ++ M1, h.trans (h1.append_left B), List.Sublist.append (List.Sublist.refl _) h2⟩
theorem Fit.last {M B R : Mem} (h : M.Perm (B ++ R)) : Fit M B := ⟨_, h, List.sublist_append_left _ _⟩
section rules
variable {P : Program} {R R' : Mem} {l : Env} {d : Option Nat} {ty t t' : TypeId} {pos : String} {af : Array Edge} {g : Option (Nat × Bool)} {x y z : Operand} {k k' : IntKind} {i j i' : Int} {a b : Nat} {v : Value} {sz n : Nat} {xs : List Value}
theorem q_addI (hx : ev l x = some (.int .i64 i)) (hy : ev l y = some (.int .i64 j)) (hi : i = (a : Int)) (hj : j = (b : Int)) (h : a + b < 9223372036854775808) : OpQ P R ⟨d, .binOp .add t x y t', ty, pos, af, g⟩ l (.int .i64 ((a + b : Nat) : Int)) := by
  subst hi; subst hj; exact q_num _ hx hy (add64 (by omega) (by omega) (by omega))
theorem q_subI (hx : ev l x = some (.int .i64 i)) (hy : ev l y = some (.int .i64 j)) (hi : i = (a : Int)) (hj : j = (b : Int)) (h : b ≤ a) (h2 : a < 9223372036854775808) : OpQ P R ⟨d, .binOp .sub t x y t', ty, pos, af, g⟩ l (.int .i64 ((a - b : Nat) : Int)) := by
  subst hi; subst hj; exact q_num _ hx hy (sub64 (by omega) (by omega) (by omega))
theorem q_mulI (hx : ev l x = some (.int .i64 i)) (hy : ev l y = some (.int .i64 j)) (hi : i = (a : Int)) (hj : j = (b : Int)) (h : a * b < 9223372036854775808) : OpQ P R ⟨d, .binOp .mul t x y t', ty, pos, af, g⟩ l (.int .i64 ((a * b : Nat) : Int)) := by
  subst hi; subst hj; exact q_num _ hx hy (mul64 (by simp) (by omega) (by omega))
theorem q_remI (hx : ev l x = some (.int k i)) (hy : ev l y = some (.int k j)) (hi : i = (a : Int)) (hj : j = (b : Int)) (hb : 0 < b) : OpQ P R ⟨d, .binOp .rem t x y t', ty, pos, af, g⟩ l (.int k ((a % b : Nat) : Int)) := by
  subst hi; subst hj; exact q_remN hx hy (by omega)
theorem q_quoU {m : Nat} (hk : k.signed = false) (hm : 2 ^ k.bits = m) (hx : ev l x = some (.int k i)) (hy : ev l y = some (.int k j)) (hi : i = (a : Int)) (hj : j = (b : Int)) (hb : 0 < b) (h : a < m) : OpQ P R ⟨d, .binOp .quo t x y t', ty, pos, af, g⟩ l (.int k ((a / b : Nat) : Int)) := by
  subst hi; subst hj; exact q_quoN hx hy (by omega) (by rw [wrap_nat hk, hm, Nat.mod_eq_of_lt (Nat.lt_of_le_of_lt (Nat.div_le_self a b) h)])
/-- Shifts by a number that is known. -/
theorem q_shrI (hx : ev l x = some (.int k i)) (hy : ev l y = some (.int k' j)) (hi : i = (a : Int)) (hj : j = (b : Int)) (hs : b ≤ k.bits) : OpQ P R ⟨d, .binOp .shr t x y t', ty, pos, af, g⟩ l (.int k ((a / 2 ^ b : Nat) : Int)) := by
  subst hi; subst hj; rw [← Nat.shiftRight_eq_div_pow]; exact q_shrN b hx hy rfl hs
theorem q_shlI (m : Nat) (hk : k.signed = false) (hm : 2 ^ k.bits = m) (hx : ev l x = some (.int k i)) (hy : ev l y = some (.int k' j)) (hi : i = (a : Int)) (hj : j = (b : Int)) (hs : b ≤ k.bits) : OpQ P R ⟨d, .binOp .shl t x y t', ty, pos, af, g⟩ l (.int k ((a * 2 ^ b % m : Nat) : Int)) := by
  subst hi; subst hj; subst hm; rw [← Nat.shiftLeft_eq]; exact q_shlN hk b hx hy rfl hs
theorem q_lenV2 (hx : ev l x = some v) (hu : slE P t = some sz) (h : Rd R' sz v n xs) :
    OpQ P R ⟨d, .call { callee := .builtin .len, args := #[x], argTypes := #[t] }, ty, pos, af, g⟩ l (.int .i64 n) := q_lenV h hx hu
theorem q_loV2 (hx : ev l x = some v) (hy : ev l y = some (.int k i)) (hu : slE P t = some sz) (hi : i = (a : Int)) (h : Rd R' sz v n xs) (hj : a ≤ n) :
    OpQ P R ⟨d, .slice t x (some y) none none, ty, pos, af, g⟩ l (vLo a sz v) := q_loV h hx hy hu a hi hj
theorem q_lhV2 (hx : ev l x = some v) (hy : ev l y = some (.int k i)) (hz : ev l z = some (.int k' i')) (hu : slE P t = some sz) (hi : i = (a : Int)) (hi' : i' = (b : Int)) (h : Rd R' sz v n xs) (hab : a ≤ b) (hb : b ≤ n) :
    OpQ P R ⟨d, .slice t x (some y) (some z) none, ty, pos, af, g⟩ l (vLo a sz (vHi b v)) := q_lhV h hx hy hz hu a b hi hi' hab hb
/-- An array is sliced. -/
theorem q_sliceA {e : TypeId} {b o n sz : Nat} {lo hi mx : Option Operand} {nl nh nm : Option Nat} (hx : ev l x = some (.pointer (some ⟨b, o, none⟩))) (hu : P.underlying t = some (.array n e)) (hs : sizeT P e = some sz)
    (h1 : EvO l lo nl) (h2 : EvO l hi nh) (h3 : EvO l mx nm) (hmh : nm.isSome = true → nh.isSome = true) (hm : nm.getD n ≤ n) (hh : nh.getD n ≤ nm.getD n) (hl : nl.getD 0 ≤ nh.getD n) :
    OpQ P R ⟨d, .slice t x lo hi mx, ty, pos, af, g⟩ l (.slice (some (if nm.getD n = nl.getD 0 then ⟨b, o, none⟩ else ⟨b, o + nl.getD 0 * sz, none⟩)) (nh.getD n - nl.getD 0) (nm.getD n - nl.getD 0)) := fun N a w ha hw => by
  unfold sizeT at hs
  cases hq : P.info? e with
  | none => simp [hq] at hs
  | some inf =>
    simp only [hq, Option.map_some, Option.some.injEq] at hs
    subst hs
    simp only [execOp, ha.ev hx, Instr.sliceAt, Sem.run_bind, run_underlying hu, Result.andThen_ok, Instr.sureAddr, Sem.run_pure, sliceBounds_run ha h1 h2 h3 false n n w hm hh hl hmh]
    simp [sizeOf, typeInfo, hq, Addr.add]
    by_cases h0 : nl.getD 0 * inf.size = 0 <;> simp [h0]
theorem q_slArr {e : TypeId} {b o n sz : Nat} (hx : ev l x = some (.pointer (some ⟨b, o, none⟩))) (hu : P.underlying t = some (.array n e)) (hs : sizeT P e = some sz) :
    OpQ P R ⟨d, .slice t x none none none, ty, pos, af, g⟩ l (.slice (some ⟨b, o, none⟩) n n) := by
  have := q_sliceA (R := R) (d := d) (ty := ty) (pos := pos) (af := af) (g := g) hx hu hs o0 o0 o0 (by simp) (by simp) (by simp) (by simp)
  simpa using this
theorem q_slALH (lo hi : Nat) {e : TypeId} {b o n sz : Nat} (hx : ev l x = some (.pointer (some ⟨b, o, none⟩))) (hu : P.underlying t = some (.array n e)) (hs : sizeT P e = some sz) (hy : ev l y = some (.int k i)) (hz : ev l z = some (.int k' i')) (hi1 : i = (lo : Int)) (hi2 : i' = (hi : Int)) (h0 : lo < n) (h1 : lo ≤ hi) (h2 : hi ≤ n) :
    OpQ P R ⟨d, .slice t x (some y) (some z) none, ty, pos, af, g⟩ l (.slice (some ⟨b, o + lo * sz, none⟩) (hi - lo) (n - lo)) := by
  have := q_sliceA (R := R) (d := d) (ty := ty) (pos := pos) (af := af) (g := g) hx hu hs (o1 lo hy hi1) (o1 hi hz hi2) o0 (by simp) (by simp) (by simpa using h2) (by simpa using h1)
  rw [if_neg (by simp; omega)] at this
  simpa using this
theorem q_slAHi (hi : Nat) {e : TypeId} {b o n sz : Nat} (hx : ev l x = some (.pointer (some ⟨b, o, none⟩))) (hu : P.underlying t = some (.array n e)) (hs : sizeT P e = some sz) (hz : ev l z = some (.int k' i')) (hi2 : i' = (hi : Int)) (h2 : hi ≤ n) :
    OpQ P R ⟨d, .slice t x none (some z) none, ty, pos, af, g⟩ l (.slice (some ⟨b, o, none⟩) hi n) := by
  have := q_sliceA (R := R) (d := d) (ty := ty) (pos := pos) (af := af) (g := g) hx hu hs o0 (o1 hi hz hi2) o0 (by simp) (by simp) (by simpa using h2) (by simp)
  simpa using this
/-- Some elements out of the middle of a block. -/
theorem Rd.mid {R : Mem} {b o n cap : Nat} {cs : List Value} {e : TypeId} {fr : Nat × Nat} (hb : (b, Obj.cells cs.toArray e fr) ∈ R) (h : o + n ≤ cs.length) (hc : n ≤ cap) : Rd R 1 (.slice (some ⟨b, o, none⟩) n cap) n ((cs.drop o).take n) := by
  refine ⟨_, cap, rfl, by simp; omega, hc, .inr ⟨b, o, cs, e, fr, rfl, hb, fun j u hj => ?_⟩⟩
  have hjn : j < n := by have := (List.getElem?_eq_some_iff.1 hj).1; simp at this; omega
  rw [List.getElem?_take_of_lt hjn, List.getElem?_drop] at hj
  exact hj
theorem q_atV2 (hx : ev l x = some v) (hy : ev l y = some (.int k i)) (hu : slE P t = some sz) (hi : i = (a : Int)) (h : Rd R' sz v n xs) (hj : a < n) :
    OpQ P R ⟨d, .indexAddr t x y, ty, pos, af, g⟩ l (vAt sz a v) := q_atV h hx hy hu a hi hj
theorem Rd.one {R : Mem} {v : Value} {n sz : Nat} {xs : List Value} (h : Rd R sz v n xs) : v.oneCell' = true := by
  obtain ⟨p, c, rfl, _⟩ := h; rfl
theorem Sl.one {B : Mem} {v : Value} {n sz : Nat} {xs : List Value} (h : Sl sz v n xs B) : v.oneCell' = true := by
  obtain ⟨p, c, rfl, _⟩ := h.val; rfl
/-- An element of several cells. -/
theorem q_ldVR {rows : List (List Value)} {r : List Value} (hx : ev l x = some (vAt sz a v)) (ht : rowT P t = some sz) (h : Rd R sz v n rows.flatten) (hl : ∀ r ∈ rows, r.length = sz) (hs : 0 < sz) (hr : rows[a]? = some r) : OpQ P R ⟨d, .load t x, ty, pos, af, g⟩ l (.agg r.toArray) := by
  obtain ⟨p, c, rfl, h2, h3, h4⟩ := h
  have hal := (List.getElem?_eq_some_iff.1 hr).1
  have hfl := flat_len hl
  rcases h4 with rfl | ⟨b, o, cs, e', fr, rfl, hb, hx'⟩
  · rw [h2, Nat.zero_mul] at hfl
    have := Nat.mul_pos (show 0 < rows.length by omega) hs
    omega
  · simp only [vAt, Addr.add_mid] at hx
    refine q_loadR hx ht hb (hl r (List.mem_of_getElem? hr)) fun j u hj => ?_
    have hjl : j < sz := by have := (List.getElem?_eq_some_iff.1 hj).1; rwa [hl r (List.mem_of_getElem? hr)] at this
    rw [Nat.add_assoc]
    exact hx' _ _ (by rw [flat_get hl hr j hjl]; exact hj)
theorem q_toStr2 {s : TypeId} {ws : List Nat} (hx : ev l x = some v) (hc : bytesT P s t = true) (h : Rd R 1 v n (nums .u8 ws)) : OpQ P R ⟨d, .convert s t x, ty, pos, af, g⟩ l (.string (txt ws)) := q_toStr h hx hc
end rules
section loud
variable {C : Cx} {l : Env} {M J : Mem} {K : Env → Mem → Mem → Prop} {d : Nat} {ty t e : TypeId} {pos : String} {af : Array Edge} {g : Option (Nat × Bool)} {x y : Operand} {k : IntKind}
theorem l_stV2 {v : Value} {ws : List Nat} {n a u : Nat} {B M0 : Mem} {i : Int} (hx : ev l x = some (vAt 1 a v)) (hy : ev l y = some (.int k i)) (hi : i = (u : Int)) (ht : sizeT C.P t = some 1) (h : Sl 1 v n (nums k ws) B) (hj : a < n) (hM : M.Perm (B ++ M0)) (h2 : ∀ B', Sl 1 v n (nums k (ws.set a u)) B' → K l (B' ++ M0) J) :
    OpL C ⟨none, .store t x y, ty, pos, af, g⟩ l M J K := l_stV h hx (hi ▸ hy) ht hj hM h2
theorem l_append2 {sz by_ n m : Nat} {v u : Value} {xs ys : List Value} {B M0 : Mem} (hx : ev l x = some v) (hy : ev l y = some u) (ht : elemT C.P t = some (e, sz, by_)) (hsz : Nat.blt 0 sz = true)
    (hs : Sl sz v n xs B) (hr : Rd (M ++ (J ++ C.A)) sz u m ys) (h1c : ∀ c ∈ ys, c.oneCell' = true) (hM : M.Perm (B ++ M0)) (hmax : n + m ≤ maxLen) (hbytes : (n + m) * by_ ≤ 140737488355328) (hd : Nat.blt d C.N = true)
    (k : ∀ v' B', Sl sz v' (n + m) (xs ++ ys) B' → K ((d, v') :: l) (B' ++ M0) J) :
    OpL C ⟨some d, .call { callee := .builtin .append, args := #[x, y], argTypes := #[t, t] }, ty, pos, af, g⟩ l M J K := l_append hx hy ht hsz hs hr h1c hM hmax hbytes hd k
theorem l_makeV {by_ : Nat} {kl kc : IntKind} {i j : Int} {a : Nat} (hx : ev l x = some (.int kl i)) (hy : ev l y = some (.int kc j)) (ht : mkT C.P t = some (e, k, by_)) (hi : i = (a : Int)) (hj : j = (a : Int))
    (hb : by_ * a ≤ 281474976710656) (hn : a ≤ 140737488355328) (hd : Nat.blt d C.N = true) (h : ∀ v B, Sl 1 v a (nums k (List.replicate a 0)) B → K ((d, v) :: l) (B ++ M) J) :
    OpL C ⟨some d, .makeSlice t x y, ty, pos, af, g⟩ l M J K := l_makeN a hx hy ht hi hj hb (by omega) hd fun b => h _ _ (Sl.fresh (by simp) (by unfold maxLen; omega))
/-- A call that gets blocks. -/
theorem l_callB {f : FuncId} {xs : List Operand} {vs : List Value} {ts : Array TypeId} {Mc R : Mem} {post : Value → Mem → Mem → Prop} (hx : Evs l xs vs) (hc : callable C.P f = true) (hf : FnX C.P f vs Mc (R ++ (J ++ C.A)) post) (hM : M.Perm (Mc ++ R)) (hd : Nat.blt d C.N = true)
    (k : ∀ r M' J', post r M' J' → K ((d, r) :: l) (M' ++ R) (J' ++ J)) : OpL C ⟨some d, .call { callee := .value (.func f), args := xs.toArray, argTypes := ts }, ty, pos, af, g⟩ l M J K := l_call hx hc hM hf hd k
end loud
end Go.Px

