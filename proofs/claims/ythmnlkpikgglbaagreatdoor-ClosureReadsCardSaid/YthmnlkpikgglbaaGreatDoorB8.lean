/- Part 8 of the texts of this claim, one behind the other. -/
import Derived.Test.YthmnlkpikgglbaaGreatDoorB7
set_option linter.unusedVariables false
set_option linter.unusedSimpArgs false
set_option linter.unusedVariables false
set_option linter.unusedSimpArgs false
namespace Go.Proofs.YthmnlkpikgglbaaGreatDoor
open Go.Px
instance (priority := low) SubC.union {X Y Z : Mem} [h1 : SubC X Z] [h2 : SubC Y Z] : SubC (X ++ Y) Z := ⟨fun x h => (List.mem_append.1 h).elim (h1.sub x) (h2.sub x)⟩
instance (priority := low) SubC.consC {b : Nat} {o : Obj} {X Z : Mem} [h1 : At Z b o] [h2 : SubC X Z] : SubC ((b, o) :: X) Z := ⟨fun x h => (List.mem_cons.1 h).elim (fun h => h ▸ h1.mem) (h2.sub x)⟩
theorem fit_put {B M X : Mem} {x y z : Nat × Obj} : Fit ((B ++ []) ++ (M ++ (x :: y :: z :: X))) (y :: z :: (B ++ (M ++ X))) := ⟨x :: (y :: z :: (B ++ (M ++ X))), by
  rw [List.append_nil, ← List.append_assoc]
  exact (List.perm_append_comm_assoc (B ++ M) [x, y, z] X).trans (by simp), .cons _ (List.Sublist.refl _)⟩
theorem _root_.Go.Px.XK.tl {C : Cx} {Q : XQ} {l : Env} {M J : Mem} {os : List Oper} {K : Nat → Prop} {n0 : Nat} {nd : List Nat} {plan : List (Nat × Nat)} {i : Nat} {o : Oper} (hget : nth os i = some o) (hg : o.guard = none) (hnd : nd.contains i = false) (h : OpL C o l M J (fun l' M' J' => XK C os Q K 0 nd plan l' M' J')) : XK C os Q K n0 nd ((i, 2) :: plan) l M J := by
  have h1 := XK.last hget (fun a ha => by simp [Region.wanted, hg]) hnd h
  exact fun listed hcl hp a w ha hw _ => h1 listed hcl hp a w ha hw (Nat.zero_le _)
/-- The place of a term in a table, and the table behind it. -/
def pos (ts : List Tm) (t : Tm) : Option Nat := lookK (key t) (ts.map key) 0
def at_ (ts : List Tm) (t : Tm) : Nat := (pos ts t).getD ts.length
def add (ts : List Tm) (t : Tm) : List Tm := if (pos ts t).isSome then ts else ts ++ [t]
theorem growsLitT {n : Nat} {cs : List Value} {e : TypeId} : Grows fun v R => ∃ b, v = .slice (some ⟨b, 0, none⟩) n n ∧ (b, Obj.cells cs.toArray e (0, 0)) ∈ R := fun _ _ _ h ⟨b, e, hb⟩ => ⟨b, e, h _ hb⟩
theorem pos_some {ts : List Tm} {t : Tm} (ht : Tmo t) (hts : ∀ t ∈ ts, Tmo t) {i : Nat} (h : pos ts t = some i) : ts[i]? = some t := (look_key ht hts).2 i h
theorem pos_none {ts : List Tm} {t : Tm} (ht : Tmo t) (hts : ∀ t ∈ ts, Tmo t) : pos ts t = none ↔ t ∉ ts := (look_key ht hts).1
theorem pos_of {ts : List Tm} (hts : ∀ t ∈ ts, Tmo t) (hnd : ts.Nodup) {t : Tm} {i : Nat} (h : ts[i]? = some t) : pos ts t = some i := by
  have hm : t ∈ ts := List.mem_of_getElem? h
  cases hp : pos ts t with
  | none => exact absurd hm ((pos_none (hts t hm) hts).1 hp)
  | some j =>
    have hj := pos_some (hts t hm) hts hp
    have a := List.getElem?_eq_some_iff.1 h
    have b := List.getElem?_eq_some_iff.1 hj
    obtain ⟨a1, a2⟩ := a
    obtain ⟨b1, b2⟩ := b
    have hpw := List.pairwise_iff_getElem.1 hnd
    rcases Nat.lt_trichotomy i j with h1 | h1 | h1
    · exact absurd (a2.trans b2.symm) (hpw i j a1 b1 h1)
    · rw [h1]
    · exact absurd (b2.trans a2.symm) (hpw j i b1 a1 h1)

set_option maxRecDepth 100000 in
theorem findT_spec (bt bm : Nat) (ts : List Tm) (vo : Value) (t : Tm) (MT A : Mem) (hT : Tab bt bm ts MT) (hsub : ∀ x, x ∈ MT → x ∈ A) (hvo : Rd A 1 vo t.of.length (ints t.of)) (ht : Tmo t) {e4 : TypeId} {f4 : Nat × Nat} (h4 : (4, Obj.cells (nums .u64 pow10T).toArray e4 f4) ∈ A) : FnV Tryz.prog 93 [.pointer (some ⟨bt, 0, none⟩), .agg (tmc t.kind vo t.text t.n).toArray] A (.tuple #[.int .i64 (((pos ts t).getD 0 : Nat) : Int), .bool (pos ts t).isSome]) := by
  obtain ⟨v, rows, ks, Bl, BX, rfl, hks, hsl, hrl, hr4, hat, hto, hnd⟩ := hT
  have hbt : (bt, blk [v, .map (some bm)] 83) ∈ A := hsub _ (by simp)
  have hbm : (bm, Obj.map (ents ks 0).toArray ks.length) ∈ A := hsub _ (by simp)
  have hkind := ht.kind
  refine FnX.enter (N := 22) Tryz.func93 rfl rfl rfl fun w => ?_
  refine XC.keep (kp 0 rfl (kp 1 rfl kn)) ?_
  refine XC.reg ?_
  refine XL.lo rfl (l_box rfl (by first | exact Cel.cel | rfl) rfl fun b3 => ?_)
  refine XL.q (q_assign rfl) rfl ?_
  refine XL.q (q_assign rfl) rfl ?_
  refine XL.fin (kp 0 rfl (kp 3 rfl kn)) ?_
  refine XC.seq ?_
  refine XC.reg ?_
  refine XL.q (q_move rfl) rfl ?_
  refine XL.q (q_ptrEqNil (e := 83) rfl rfl (by kernel_rfl)) rfl ?_
  refine XL.fin (kp 0 rfl (kp 3 rfl (kp 9 rfl kn))) ?_
  refine XC.condF rfl ?_
  refine XC.skip ?_
  refine nx (kp 0 rfl (kp 3 rfl kn)) ?_
  refine XC.drawF [0, 1, 2, 3, 4, 5, 7, 8, 9, 10, 11] [(0, 0), (1, 0), (2, 0), (3, 1), (4, 1), (5, 2), (6, 2), (7, 0), (8, 0), (9, 0), (10, 0), (11, 0)] (by kernel_rfl) (by kernel_rfl) fun hs => ?_
  refine XF.q hs rfl (q_move rfl) rfl ?_
  refine XF.q hs rfl (q_nil rfl) rfl ?_
  refine XF.q hs rfl (q_fieldAddrN 1 (off := 1) rfl (by kernel_rfl) rfl) rfl ?_
  refine XF.r hs rfl (q_load rfl (by kernel_rfl) (mA hbt) (by rfl)) rfl ?_
  refine XF.r hs rfl (q_loadW (n := 4) rfl (by kernel_rfl) (by first | exact At.mem | exact mA (by assumption)) (by rfl)) rfl ?_
  refine XF.callV rfl (aS rfl a0) (by kernel_rfl) (name_spec vo t _ (hvo.mono fun _ h => mA h) ht (mA h4)) rfl ?_
  refine XF.tl rfl rfl rfl (OpQ.opL (q_lookT (kt := 9) (et := 3) rfl rfl (by kernel_rfl) (by kernel_rfl) (fun _ => by rfl) (mA hbm)) rfl ?_)
  refine XF.q hs rfl (q_move rfl) rfl ?_
  refine XF.q hs rfl (q_x0 rfl) rfl ?_
  refine XF.q hs rfl (q_x1 rfl) rfl ?_
  refine XF.q hs rfl (q_assign rfl) rfl ?_
  refine XF.q hs rfl (q_assign rfl) rfl ?_
  refine XF.fin (kp 6 rfl (kp 7 rfl kn)) ?_
  refine XC.reg ?_
  refine XL.q (q_move rfl) rfl ?_
  refine XL.q (q_move rfl) rfl ?_
  refine XL.q (q_assign rfl) rfl ?_
  refine XL.q (q_assign rfl) rfl ?_
  refine XL.fin (kp 4 rfl (kp 5 rfl kn)) ?_
  refine XC.ret ?_
  refine ⟨_, [], [], res2 rfl rfl rfl, List.nil_sublist _, by simp, ?_, rfl, rfl⟩
  rw [hks]; rfl

set_option maxRecDepth 100000 in
theorem putT_spec (bt bm : Nat) (ts : List Tm) (vo : Value) (t : Tm) (MT A : Mem) (hT : Tab bt bm ts MT) (hlen : ts.length ≤ 1048576) (hvo : Rd A 1 vo t.of.length (ints t.of)) (ht : Tmo t) {e4 : TypeId} {f4 : Nat × Nat} (h4 : (4, Obj.cells (nums .u64 pow10T).toArray e4 f4) ∈ A) : FnX Tryz.prog 44 [.pointer (some ⟨bt, 0, none⟩), .agg (tmc t.kind vo t.text t.n).toArray] MT A fun r M J => J = [] ∧ r = .int .i64 ((at_ ts t : Nat) : Int) ∧ Tab bt bm (add ts t) M := by
  obtain ⟨v, rows, ks, Bl, BX, rfl, hks, hsl, hrl, hr4, hat, hto, hnd⟩ := hT
  have hkind := ht.kind
  haveI := hvo.cel
  refine FnX.enter (N := 50) Tryz.func44 rfl rfl rfl fun w => ?_
  refine XC.keep (kp 0 rfl (kp 1 rfl kn)) ?_
  refine XC.reg ?_
  refine XL.lo rfl (l_box rfl (by first | exact Cel.cel | rfl) rfl fun b3 => ?_)
  refine XL.q (q_assign rfl) rfl ?_
  refine XL.fin (kp 0 rfl (kp 3 rfl kn)) ?_
  refine XC.seq ?_
  refine XC.reg ?_
  refine XL.q (q_move rfl) rfl ?_
  refine XL.q (q_ptrEqNil (e := 83) rfl rfl (by kernel_rfl)) rfl ?_
  refine XL.fin (kp 0 rfl (kp 3 rfl (kp 8 rfl kn))) ?_
  refine XC.condF rfl ?_
  refine XC.skip ?_
  refine nx (kp 0 rfl (kp 3 rfl kn)) ?_
  refine XC.drawF [0, 1, 2, 3, 4, 5, 7, 8, 9, 10, 11] [(0, 0), (1, 0), (2, 0), (3, 1), (4, 1), (5, 2), (6, 2), (7, 0), (8, 0), (9, 0), (10, 0), (11, 0)] (by kernel_rfl) (by kernel_rfl) fun hs => ?_
  refine XF.q hs rfl (q_move rfl) rfl ?_
  refine XF.q hs rfl (q_nil rfl) rfl ?_
  refine XF.q hs rfl (q_fieldAddrN 1 (off := 1) rfl (by kernel_rfl) rfl) rfl ?_
  refine XF.r hs rfl (q_load rfl (by kernel_rfl) (by first | exact At.mem | exact mA (by assumption)) (by rfl)) rfl ?_
  refine XF.r hs rfl (q_loadW (n := 4) rfl (by kernel_rfl) (by first | exact At.mem | exact mA (by assumption)) (by rfl)) rfl ?_
  refine XF.callV rfl (aS rfl a0) (by kernel_rfl) (name_spec vo t _ (hvo.mono fun _ h => mA h) ht (mA h4)) rfl ?_
  refine XF.tl rfl rfl rfl (OpQ.opL (q_lookT (kt := 9) (et := 3) rfl rfl (by kernel_rfl) (by kernel_rfl) (fun _ => by rfl) At.mem) rfl ?_)
  refine XF.q hs rfl (q_move rfl) rfl ?_
  refine XF.q hs rfl (q_x0 rfl) rfl ?_
  refine XF.q hs rfl (q_x1 rfl) rfl ?_
  refine XF.q hs rfl (q_assign rfl) rfl ?_
  refine XF.q hs rfl (q_assign rfl) rfl ?_
  refine XF.fin (kp 0 rfl (kp 3 rfl (kp 5 rfl (kp 6 rfl kn)))) ?_
  refine XC.join (α := Mem) (fun _ => [(5, .int .i64 ((at_ ts t : Nat) : Int))]) (fun M => M) (fun _ => []) (fun M => Tab bt bm (add ts t) M) ?_ ?_
  ·
    refine XC.reg ?_
    refine XL.q (q_move rfl) rfl ?_
    refine XL.q (q_not rfl) rfl ?_
    refine XL.fin (kp 0 rfl (kp 3 rfl (kp 5 rfl (kp 20 rfl kn)))) ?_
    refine XC.cond rfl (fun hc => ?_) (fun hc => ?_)
    ·
      have hnm : pos ts t = none := by
        cases hp : pos ts t with
        | none => rfl
        | some j => rw [hks] at hc; rw [show lookK (key t) (ts.map key) 0 = some j from hp] at hc; cases hc
      have hnk : lookK (key t) ks 0 = none := by rw [hks]; exact hnm
      have hkl : ks.length = ts.length := by rw [hks, List.length_map]
      refine XC.reg ?_
      refine XL.q (q_move rfl) rfl ?_
      refine XL.q (q_nil rfl) rfl ?_
      refine XL.q (q_fieldAddrN 0 (off := 0) rfl (by kernel_rfl) rfl) rfl ?_
      refine XL.q (q_load rfl (by kernel_rfl) (by first | exact At.mem | exact mA (by assumption)) (by rfl)) rfl ?_
      refine XL.q (q_lenV2 (sz := 4) rfl (by kernel_rfl) (hsl.rd (R := Bl) fun _ h => h)) rfl ?_
      refine XL.q (q_assign rfl) rfl ?_
      refine XL.fin (kp 0 rfl (kp 3 rfl (kp 5 rfl kn))) ?_
      refine XC.reg ?_
      refine XL.q (q_fieldAddrN 1 (off := 1) rfl (by kernel_rfl) rfl) rfl ?_
      refine XL.q (q_load rfl (by kernel_rfl) (by first | exact At.mem | exact mA (by assumption)) (by rfl)) rfl ?_
      refine XL.call (aS rfl a0) (by kernel_rfl) (cloneI_spec vo t.of.length (ints t.of) _ (hvo.mono fun _ h => mA h) (ints_one' _) (by have := ht.ofl; omega)) rfl ?_
      rintro v28 M28 J28 ⟨rfl, hv28⟩
      haveI := hv28.cel
      refine XL.q (q_fieldAddrN 1 (off := 1) rfl (by kernel_rfl) rfl) rfl ?_
      refine XL.lo rfl (l_store rfl rfl hv28.one (by kernel_rfl) SetC.set UpC.upd ?_)
      refine XL.fin (kp 0 rfl (kp 3 rfl (kp 5 rfl kn))) ?_
      refine XC.drawK1 (Bl) (_) true [0, 1, 2, 3, 4, 5, 6, 7, 8, 9, 10, 11, 12, 13, 14, 15, 16, 19] [(0, 0), (1, 0), (2, 0), (3, 0), (4, 1), (5, 1), (7, 0), (8, 0), (9, 0), (10, 1), (11, 1), (14, 0), (6, 3), (12, 4), (13, 2), (15, 0), (16, 0), (17, 2), (18, 2), (19, 0), (20, 2)] (by kernel_rfl) (by kernel_rfl) PickC.perm fun hs K n0 hKm hKs hKn => ?_
      refine XK.q hs rfl (q_move rfl) rfl ?_
      refine XK.q hs rfl (q_move rfl) rfl ?_
      refine XK.q hs rfl (q_nil rfl) rfl ?_
      refine XK.q hs rfl (q_fieldAddrN 1 (off := 1) rfl (by kernel_rfl) rfl) rfl ?_
      refine XK.r hs rfl (fun x hx => by rw [List.append_assoc]; exact List.mem_append_right _ hx) hKs (q_load rfl (by kernel_rfl) (by first | exact At.mem | exact mA (by assumption)) (by rfl)) rfl ?_
      refine XK.r hs rfl (fun x hx => by rw [List.append_assoc]; exact List.mem_append_right _ hx) hKs (q_loadW (n := 4) rfl (by kernel_rfl) (by first | exact At.mem | exact mA (by assumption)) (by rfl)) rfl ?_
      refine XK.q hs rfl (q_move rfl) rfl ?_
      refine XK.q hs rfl (q_nil rfl) rfl ?_
      refine XK.q hs rfl (q_fieldAddrN 0 (off := 0) rfl (by kernel_rfl) rfl) rfl ?_
      refine XK.r hs rfl (fun x hx => by rw [List.append_assoc]; exact List.mem_append_right _ hx) hKs (q_load rfl (by kernel_rfl) (by first | exact At.mem | exact mA (by assumption)) (by rfl)) rfl ?_
      refine XK.r hs rfl (fun x hx => by rw [List.append_assoc]; exact List.mem_append_right _ hx) hKs (q_loadW (n := 4) rfl (by kernel_rfl) (by first | exact At.mem | exact mA (by assumption)) (by rfl)) rfl ?_
      refine XK.q hs rfl (q_move rfl) rfl ?_
      refine XK.group [⟨6, 36, fun v _ => v = .string (key t)⟩, ⟨12, 42, fun v R => ∃ b, v = .slice (some ⟨b, 0, none⟩) 1 1 ∧ (b, Obj.cells (tmc t.kind v28 t.text t.n).toArray 41 (0, 0)) ∈ R⟩]
        (allS growsEq (allS growsLitT (all0))) (show List.Nodup [36, 42] by decide) (show List.Nodup [6, 12] by decide) (allS (blt_lt rfl) (allS (blt_lt rfl) (all0)))
        (allS ⟨_, rfl, fun vs R w hb ha => ⟨.inl rfl, ?_⟩⟩ (allS ⟨_, rfl, fun vs R w hb ha => ⟨.inl rfl, ?_⟩⟩ (all0))) ?_
      ·
        exact l_callV (aS rfl a0) (by kernel_rfl) (name_spec v28 t _ (hv28.mono fun _ h => hb _ (by simp [h])) ht (hb _ (mA h4))) rfl ⟨_, rfl, rfl⟩
      ·
        exact l_buildSlice (e := 41) (sz := 4) (z := [.int .u8 0, .slice none 0 0, .string ByteArray.empty, .int .i64 0]) (by kernel_rfl) (eS rfl e0) (.cons rfl rfl (by rfl) (SetR.all (by rfl)) .nil) rfl fun b => ⟨_, rfl, b, rfl, List.mem_append_left _ List.mem_cons_self⟩
      intro vs Jn0 hφ
      have g6 := ofH hφ
      dsimp only at g6
      replace hφ := ofT hφ
      have g12 := ofH hφ
      dsimp only at g12
      clear hφ
      dsimp only [gEnv, List.map, List.cons_append, List.nil_append]
      generalize vs 6 = u36 at *
      generalize vs 12 = u42 at *
      subst g6
      obtain ⟨b42, rfl, hb42⟩ := g12
      have hl42 := Rd.whole (sz := 4) (n := 1) hb42 (by rfl)
      refine XK.lo _ _ rfl rfl (List.Perm.refl _) hKm fun w0 => (l_append2 (e := 41) (sz := 4) (by_ := 56) rfl rfl (by kernel_rfl) rfl hsl (hl42.mono fun x hx => by simpa only [List.append_assoc, List.nil_append, List.append_nil] using hx) (by intro c hc; simp only [List.mem_cons, List.not_mem_nil, or_false] at hc; rcases hc with rfl | rfl | rfl | rfl <;> first | rfl | exact hv28.one) (by rw [List.append_nil]) (by unfold maxLen; omega) (by omega) rfl fun v43 B43 hs43 => fun _ => ?_)
      refine XK.q hs rfl (q_nil rfl) rfl ?_
      refine XK.q hs rfl (q_fieldAddrN 0 (off := 0) rfl (by kernel_rfl) rfl) rfl ?_
      refine XK.tl rfl rfl rfl (l_store rfl rfl hs43.one (by kernel_rfl) SetC.set UpC.upd ?_)
      refine XK.tl rfl rfl rfl (l_mapEntry (kt := 9) (et := 3) rfl rfl (by kernel_rfl) (by kernel_rfl) (fun _ => by rfl) hnk rfl UpC.upd ?_)
      refine XK.q hs rfl (q_x1 rfl) rfl ?_
      refine XK.tl rfl rfl rfl (l_entryStore (ks := ks) (s := key t) rfl (by rfl) (by rfl) UpC.upd ?_)
      refine XK.nil ?_
      have hat_ : at_ ts t = ks.length := by unfold at_; rw [hnm, hkl]; rfl
      have hadd : add ts t = ts ++ [t] := by unfold add; rw [hnm]; rfl
      refine jn (_ :: _ :: (B43 ++ (M28 ++ BX))) ⟨v43, rows ++ [tmc t.kind v28 t.text t.n], ks ++ [key t], B43, M28 ++ BX, rfl, by rw [hadd, hks]; simp, (by rw [show (rows ++ [tmc t.kind v28 t.text t.n]).flatten = rows.flatten ++ tmc t.kind v28 t.text t.n by simp, List.length_append]; exact hs43), by simp [hrl], ?_, ?_, ?_, ?_⟩ (kp 5 (by rw [hat_]; rfl) kn) ?_ (fun _ h => by cases h)
      · intro r hr
        rcases List.mem_append.1 hr with hr | hr
        · exact hr4 r hr
        · rw [List.mem_singleton.1 hr]; rfl
      · intro j u hj
        rw [hadd] at hj
        by_cases hlt : j < ts.length
        · rw [List.getElem?_append_left hlt] at hj
          obtain ⟨r, hr, hcr⟩ := hat j u hj
          exact ⟨r, by rw [List.getElem?_append_left (by omega)]; exact hr, hcr.mono fun x hx => List.mem_append_right _ hx⟩
        · rw [List.getElem?_append_right (by omega)] at hj
          have hj0 : j = ts.length := by
            have := (List.getElem?_eq_some_iff.1 hj).1
            simp at this; omega
          subst hj0
          simp at hj
          subst hj
          exact ⟨_, by rw [List.getElem?_append_right (by omega), show ts.length - rows.length = 0 by omega]; rfl, v28, rfl, hv28.mono fun x hx => List.mem_append_left _ hx⟩
      · intro u hu
        rw [hadd] at hu
        rcases List.mem_append.1 hu with hu | hu
        · exact hto u hu
        · rw [List.mem_singleton.1 hu]; exact ht
      · rw [hadd, List.nodup_append]
        refine ⟨hnd, by simp, fun x hx y hy e => (pos_none ht hto).1 hnm ?_⟩
        rw [List.mem_singleton.1 hy] at e
        exact e ▸ hx
      · rw [List.length_append]; exact fit_put
    ·
      have hsm : (pos ts t).isSome = true := by
        cases hp : pos ts t with
        | some j => rfl
        | none => rw [hks] at hc; rw [show lookK (key t) (ts.map key) 0 = none from hp] at hc; cases hc
      refine XC.skip ?_
      have hpl : lookK (key t) ks 0 = pos ts t := by rw [hks]; rfl
      have hadd : add ts t = ts := by unfold add; rw [hsm]; rfl
      refine jn _ ⟨v, rows, ks, Bl, BX, rfl, by rw [hadd, hks], hsl, hrl, hr4, by rw [hadd]; exact hat, by rw [hadd]; exact hto, by rw [hadd]; exact hnd⟩ (kp 5 (by rw [hpl]; unfold at_; cases hq : pos ts t with | none => rw [hq] at hsm; cases hsm | some j => rfl) kn) (Fit.sub (.cons _ (List.Sublist.refl _))) (fun _ h => h)
  ·
    rintro M hM
    refine XC.reg ?_
    refine XL.q (q_move rfl) rfl ?_
    refine XL.q (q_assign rfl) rfl ?_
    refine XL.fin (kp 4 rfl kn) ?_
    refine XC.ret ?_
    exact ⟨_, _, _, res1 rfl rfl, List.Sublist.refl _, fun _ h => h, rfl, rfl, hM⟩

end Go.Proofs.YthmnlkpikgglbaaGreatDoor
/- The walks of the term laws: same; terms that are put. -/
set_option linter.unusedVariables false
set_option linter.unusedSimpArgs false
namespace Go.Proofs.YthmnlkpikgglbaaGreatDoor
open Go.Px
/-- Are two terms one? -/
def tmEq (a b : Tm) : Bool := a.kind == b.kind && a.n == b.n && a.text == b.text && a.of == b.of
theorem tmEq_iff {a b : Tm} : tmEq a b = true ↔ a = b := by
  cases a; cases b
  simp only [tmEq, Bool.and_eq_true, beq_iff_eq, Tm.mk.injEq]
  constructor
  · rintro ⟨⟨⟨a, b⟩, c⟩, d⟩; exact ⟨a, d, c, b⟩
  · rintro ⟨a, d, c, b⟩; exact ⟨⟨⟨a, b⟩, c⟩, d⟩

end Go.Proofs.YthmnlkpikgglbaaGreatDoor
/- The walk of TermPuts. -/
set_option linter.unusedVariables false
set_option linter.unusedSimpArgs false
namespace Go.Px
section
variable {P : Program} {R R' : Mem} {l : Env} {d : Option Nat} {ty t : TypeId} {pos : String} {af : Array Edge} {g : Option (Nat × Bool)} {x y : Operand} {v u : Value} {sz n a off j : Nat} {xs : List Value}
/-- A field of an element; what is there. -/
theorem q_fldV {f : Nat} {s : TypeId} (hx : ev l x = some (vAt sz a v)) (h : Rd R' sz v n xs) (ha : a < n) (hf : fieldOff P s f = some off) : OpQ P R ⟨d, .fieldAddr s x f, ty, pos, af, g⟩ l (vAt 1 (a * sz + off) v) := by
  obtain ⟨p, c, rfl, h2, h3, h4⟩ := h
  rcases h4 with h4 | ⟨b, o, cs, e', fr, rfl, hb, hx'⟩
  · omega
  · simp only [vAt, Addr.add_mid, Nat.mul_one] at hx ⊢
    exact q_fieldAddrN _ hx hf (by omega)
theorem q_ldVF (hx : ev l x = some (vAt 1 j v)) (h : Rd R sz v n xs) (hn : 0 < n) (ht : scalarT P t = true) (hj : xs[j]? = some u) : OpQ P R ⟨d, .load t x, ty, pos, af, g⟩ l u := by
  obtain ⟨p, c, rfl, h2, h3, h4⟩ := h
  rcases h4 with h4 | ⟨b, o, cs, e', fr, rfl, hb, hx'⟩
  · omega
  · simp only [vAt, Addr.add_mid] at hx
    refine q_load (b := b) (o := o + j * 1) hx ht hb ?_
    rw [Nat.mul_one]; exact hx' j u hj
end
end Go.Px
namespace Go.Proofs.YthmnlkpikgglbaaGreatDoor
open Go.Px
/-- Terms that came in. -/
structure TmI (t : Tm) : Prop where
  kind : t.kind < 256
  n : i64 t.n
  of : ∀ i ∈ t.of, i64 i
  ofl : t.of.length ≤ maxLen
  text : B256 t.text
  tl : t.text.length ≤ maxLen
theorem TmI.to {t : Tm} (h : TmI t) (h1 : t.of.length ≤ 20) (h2 : t.text.length ≤ 200) : Tmo t := ⟨h.kind, h.n, h.of, by omega, h.text, by omega⟩
/-- Rows of terms that read. -/
def Rws (R : Mem) (rows : List (List Value)) (ts : List Tm) : Prop := rows.length = ts.length ∧ (∀ r ∈ rows, r.length = 4) ∧ ∀ (j : Nat) (t : Tm), ts[j]? = some t → ∃ r, rows[j]? = some r ∧ TmC R r t
theorem Rws.at (R : Mem) {rows : List (List Value)} {ts : List Tm} (h : Rws R rows ts) {j : Nat} (hj : j < ts.length) : ∃ vo, rows[j]? = some (tmc ts[j].kind vo ts[j].text ts[j].n) ∧ Rd R 1 vo ts[j].of.length (ints ts[j].of) := by
  obtain ⟨r, h1, vo, rfl, h2⟩ := h.2.2 j ts[j] (List.getElem?_eq_getElem hj)
  exact ⟨vo, h1, h2⟩
theorem Rws.snoc {R : Mem} {rows : List (List Value)} {ts : List Tm} (h : Rws R rows ts) {t : Tm} {vo : Value} (hv : Rd R 1 vo t.of.length (ints t.of)) : Rws R (rows ++ [tmc t.kind vo t.text t.n]) (ts ++ [t]) := by
  refine ⟨by simp [h.1], fun r hr => ?_, fun j u hj => ?_⟩
  · rcases List.mem_append.1 hr with hr | hr
    · exact h.2.1 r hr
    · rw [List.mem_singleton.1 hr]; rfl
  · by_cases hlt : j < ts.length
    · rw [List.getElem?_append_left hlt] at hj
      obtain ⟨r, hr, hcr⟩ := h.2.2 j u hj
      exact ⟨r, by rw [List.getElem?_append_left (by have := h.1; omega)]; exact hr, hcr⟩
    · rw [List.getElem?_append_right (by omega)] at hj
      have hj0 : j = ts.length := by
        have := (List.getElem?_eq_some_iff.1 hj).1
        simp at this; omega
      subst hj0
      simp at hj
      subst hj
      exact ⟨_, by rw [List.getElem?_append_right (by have := h.1; omega), show ts.length - rows.length = 0 by have := h.1; omega]; rfl, vo, rfl, hv⟩
theorem Rws.get {R : Mem} {rows : List (List Value)} {ts : List Tm} (h : Rws R rows ts) {j : Nat} {r : List Value} (hr : rows[j]? = some r) {k : Nat} (hk : k < 4) : rows.flatten[j * 4 + k]? = r[k]? := flat_get h.2.1 hr k hk
/-- Which of the first k of a table's terms is that one? -/
def fnd (ts : List Tm) (t : Tm) (k : Nat) : Int := match pos ts t with
  | some j => if j < k then (j : Int) else -1
  | none => -1
theorem fnd_0 (ts : List Tm) (t : Tm) : fnd ts t 0 = -1 := by unfold fnd; split <;> simp
theorem fnd_T {ts : List Tm} {t : Tm} {k : Nat} (hts : ∀ t ∈ ts, Tmo t) (hnd : ts.Nodup) (hk : k < ts.length) (h : tmEq ts[k] t = true) : fnd ts t (k + 1) = (k : Int) := by
  have e := tmEq_iff.1 h
  have : pos ts t = some k := pos_of hts hnd (by rw [List.getElem?_eq_getElem hk, e])
  unfold fnd; rw [this]; simp
theorem fnd_F {ts : List Tm} {t : Tm} {k : Nat} (ht : Tmo t) (hts : ∀ t ∈ ts, Tmo t) (hk : k < ts.length) (h : tmEq ts[k] t = false) : fnd ts t (k + 1) = fnd ts t k := by
  unfold fnd
  cases hp : pos ts t with
  | none => rfl
  | some j =>
    have hj := pos_some ht hts hp
    have hne : j ≠ k := by
      rintro rfl
      rw [List.getElem?_eq_getElem hk] at hj
      have := Option.some.inj hj
      rw [tmEq_iff.2 this] at h; cases h
    simp only
    by_cases hlt : j < k
    · rw [if_pos hlt, if_pos (by omega)]
    · rw [if_neg hlt, if_neg (by omega)]
theorem pos_lt {ts : List Tm} {t : Tm} {j : Nat} (h : pos ts t = some j) : j < ts.length := by
  have := (lookK_some h).2
  have := (List.getElem?_eq_some_iff.1 this).1
  simpa using this
theorem fnd_end {ts : List Tm} {t : Tm} : fnd ts t ts.length = match pos ts t with | some j => (j : Int) | none => -1 := by
  unfold fnd
  cases hp : pos ts t with
  | none => rfl
  | some j => simp [pos_lt hp]
theorem fnd_neg {ts : List Tm} {t : Tm} (h : fnd ts t ts.length < 0) : pos ts t = none := by
  rw [fnd_end] at h
  cases hp : pos ts t with
  | none => rfl
  | some j => rw [hp] at h; simp only at h; omega
theorem fnd_pos {ts : List Tm} {t : Tm} (h : ¬ fnd ts t ts.length < 0) : ∃ j, pos ts t = some j ∧ fnd ts t ts.length = (j : Int) := by
  rw [fnd_end] at h ⊢
  cases hp : pos ts t with
  | none => rw [hp] at h; simp at h
  | some j => exact ⟨j, rfl, rfl⟩
theorem fnd_i64 {ts : List Tm} {t : Tm} {k : Nat} (h : ts.length ≤ 1048576) : -1 ≤ fnd ts t k ∧ fnd ts t k < 1048576 := by
  unfold fnd
  cases hp : pos ts t with
  | none => simp
  | some j =>
    have := pos_lt hp
    simp only
    split <;> omega
theorem add_len {ts : List Tm} {t : Tm} : (add ts t).length ≤ ts.length + 1 := by unfold add; split <;> simp
structure Pst where
  i : Nat
  ts : List Tm
  v : Value
  rows : List (List Value)
  B : Mem
  MT : Mem
structure Pok (A : Mem) (bt bm n : Nat) (s : Pst) : Prop where
  hi : s.i ≤ n
  hl : s.ts.length ≤ s.i
  tab : Tab bt bm s.ts s.MT
  sl : Sl 4 s.v s.ts.length s.rows.flatten s.B
  rw_ : Rws A s.rows s.ts

end Go.Proofs.YthmnlkpikgglbaaGreatDoor
/- Bytes that stand for a place in a table: Bytes, Place, Read. -/
set_option linter.unusedVariables false
set_option linter.unusedSimpArgs false
namespace Go.Proofs.YthmnlkpikgglbaaGreatDoor
open Go.Px
/-- A number's bits, its bytes. -/
def u64 (i : Int) : Nat := (i % 18446744073709551616).toNat
def byt (i : Int) (k : Nat) : Nat := (i / ((256 ^ k : Nat) : Int) % 256).toNat
theorem byt_u (i : Int) {k : Nat} (hk : k < 8) : byt i k = u64 i / 256 ^ k % 256 := by
  unfold byt u64
  rcases (show k = 0 ∨ k = 1 ∨ k = 2 ∨ k = 3 ∨ k = 4 ∨ k = 5 ∨ k = 6 ∨ k = 7 by omega) with rfl | rfl | rfl | rfl | rfl | rfl | rfl | rfl <;> simp only [Nat.reducePow] <;> omega
theorem byt_lt (i : Int) (k : Nat) : byt i k < 256 := by unfold byt; omega
theorem u64_lt (i : Int) : u64 i < 18446744073709551616 := by unfold u64; omega
/-- The bytes that stand for a place, when so many of the number's are laid. -/
def btk (i : Int) (k : Nat) : List Nat := 84 :: ((List.range k).map (byt i) ++ List.replicate (31 - k) 0)
def bts (i : Int) : List Nat := btk i 8
theorem btk_len (i : Int) {k : Nat} (h : k ≤ 31) : (btk i k).length = 32 := by simp [btk]; omega
theorem btk_succ (i : Int) {k : Nat} (h : k < 31) : (btk i k).set (1 + k) (byt i k) = btk i (k + 1) := by
  unfold btk
  rw [show 1 + k = k + 1 by omega, List.set_cons_succ, List.set_append_right _ _ (by simp), List.range_succ, List.map_append]
  simp only [List.length_map, List.length_range, Nat.sub_self]
  rw [show 31 - k = (31 - (k + 1)) + 1 by omega, List.replicate_succ, List.set_cons_zero]
  simp
theorem bts_get (i : Int) {k : Nat} (h : k < 8) : (bts i).getD (1 + k) 0 = byt i k := by
  unfold bts btk
  rw [show 1 + k = k + 1 by omega, List.getD_cons_succ, List.getD_eq_getElem?_getD, List.getElem?_append_left (by simpa using h)]
  simp [h]
theorem bts_b (i : Int) : ∀ x ∈ bts i, x < 256 := by
  intro x hx
  simp only [bts, btk, List.mem_cons, List.mem_append, List.mem_map, List.mem_replicate] at hx
  rcases hx with rfl | ⟨k, _, rfl⟩ | ⟨_, rfl⟩
  · decide
  · exact byt_lt i k
  · decide
/-- The number of the eight bytes behind the first one. -/
def le8 (ws : List Nat) : Nat → Nat
  | 0 => 0
  | k + 1 => le8 ws k + ws.getD (1 + k) 0 * 256 ^ k
theorem getD_lt {ws : List Nat} (h : ∀ x ∈ ws, x < 256) (j : Nat) : ws.getD j 0 < 256 := by
  rw [List.getD_eq_getElem?_getD]
  cases hj : ws[j]? with
  | none => decide
  | some x => exact h x (List.mem_of_getElem? hj)
theorem le8_lt {ws : List Nat} (h : ∀ x ∈ ws, x < 256) : ∀ k, le8 ws k < 256 ^ k
  | 0 => by show 0 < 1; decide
  | k + 1 => by
    have h1 := le8_lt h k
    have h2 := getD_lt h (1 + k)
    have h3 : ws.getD (1 + k) 0 * 256 ^ k ≤ 255 * 256 ^ k := Nat.mul_le_mul_right _ (by omega)
    unfold le8
    rw [Nat.pow_succ]; omega
theorem le8_bts (i : Int) : ∀ k, k ≤ 8 → le8 (bts i) k = u64 i % 256 ^ k
  | 0, _ => by simp [le8, Nat.mod_one]
  | k + 1, h => by
    rw [le8, le8_bts i k (by omega), bts_get i (by omega), byt_u i (by omega), Nat.pow_succ, Nat.mod_mul, Nat.mul_comm (256 ^ k)]
/-- The place for which bytes stand, of so many. -/
def plc (ws : List Nat) (n : Nat) : Option Nat := if 32 ≤ ws.length ∧ ws.getD 0 0 = 84 ∧ (∀ c ∈ ws.drop 9, c = 0) ∧ le8 ws 8 < n then some (le8 ws 8) else none
theorem plc_no {ws : List Nat} {n : Nat} (h : ¬ (32 ≤ ws.length ∧ ws.getD 0 0 = 84 ∧ (∀ c ∈ ws.drop 9, c = 0) ∧ le8 ws 8 < n)) : plc ws n = none := if_neg h
theorem plc_yes {ws : List Nat} {n : Nat} (h : 32 ≤ ws.length ∧ ws.getD 0 0 = 84 ∧ (∀ c ∈ ws.drop 9, c = 0) ∧ le8 ws 8 < n) : plc ws n = some (le8 ws 8) := if_pos h
theorem plc_r0 {ws : List Nat} {n : Nat} (h : plc ws n = none) : Value.tuple #[.int .i64 0, .bool false] = .tuple #[.int .i64 (((plc ws n).getD 0 : Nat) : Int), .bool (plc ws n).isSome] := by rw [h]; rfl
theorem plc_r1 {ws : List Nat} {n m : Nat} (h : plc ws n = some m) : Value.tuple #[.int .i64 (m : Int), .bool true] = .tuple #[.int .i64 (((plc ws n).getD 0 : Nat) : Int), .bool (plc ws n).isSome] := by rw [h]; rfl
theorem plc_len {ws : List Nat} {n : Nat} (h : ws.length < 32) : plc ws n = none := plc_no fun h' => absurd h'.1 (by omega)
theorem plc_84 {ws : List Nat} {n : Nat} (h : ws.getD 0 0 ≠ 84) : plc ws n = none := plc_no fun h' => h h'.2.1
theorem plc_nz {ws : List Nat} {n j : Nat} (hj : j < (ws.drop 9).length) (h : (ws.drop 9).getD j 0 ≠ 0) : plc ws n = none := plc_no fun h' => h (h'.2.2.1 _ (by rw [List.getD_eq_getElem?_getD, List.getElem?_eq_getElem hj]; exact List.getElem_mem hj))
theorem plc_ge {ws : List Nat} {n m : Nat} (h8 : le8 ws 8 = m) (h : n ≤ m) : plc ws n = none := plc_no fun h' => by
  have := h'.2.2.2
  rw [h8] at this
  exact absurd this (Nat.not_lt.2 h)
theorem plc_some {ws : List Nat} {n m : Nat} (h8 : le8 ws 8 = m) (h1 : 32 ≤ ws.length) (h2 : ws.getD 0 0 = 84) (h3 : ∀ c ∈ ws.drop 9, c = 0) (h : m < n) : plc ws n = some m := by
  rw [plc_yes ⟨h1, h2, h3, by rw [h8]; exact h⟩, h8]
theorem plc_bts (i : Int) (n : Nat) : plc (bts i) n = if u64 i < n then some (u64 i) else none := by
  have e : le8 (bts i) 8 = u64 i := by rw [le8_bts i 8 (by omega)]; exact Nat.mod_eq_of_lt (u64_lt i)
  have hd : ∀ c ∈ (bts i).drop 9, c = 0 := by
    intro c hc
    unfold bts btk at hc
    rw [List.drop_succ_cons, List.drop_append_of_le_length (by simp)] at hc
    simp only [List.mem_append] at hc
    rcases hc with hc | hc
    · rw [List.drop_of_length_le (by simp)] at hc; cases hc
    · exact (List.mem_replicate.1 hc).2
  unfold plc
  rw [e, btk_len i (k := 8) (by omega) |> (fun h => (h : (bts i).length = 32))]
  by_cases h : u64 i < n
  · rw [if_pos h, if_pos ⟨by omega, rfl, hd, h⟩]
  · rw [if_neg h, if_neg (fun h' => h h'.2.2.2)]
theorem or_add {n w k : Nat} (h : n < 2 ^ k) : n ||| w * 2 ^ k = n + w * 2 ^ k := by
  have := Nat.two_pow_add_eq_or_of_lt h w
  rw [Nat.mul_comm w, Nat.or_comm, Nat.add_comm n]; exact this.symm
theorem le8_w {ws : List Nat} (h : ∀ x ∈ ws, x < 256) {k : Nat} (hk : k < 8) : ws.getD (1 + k) 0 * 2 ^ (8 * k) < 18446744073709551616 := by
  have h2 := getD_lt h (1 + k)
  have hpk : (256 : Nat) ^ k ≤ 256 ^ 7 := Nat.pow_le_pow_right (by decide) (by omega)
  have hmk : ws.getD (1 + k) 0 * 256 ^ k ≤ 255 * 256 ^ 7 := Nat.mul_le_mul (by omega) hpk
  rw [Nat.pow_mul]
  exact Nat.lt_of_le_of_lt hmk (by decide)
theorem le8_n {ws : List Nat} (h : ∀ x ∈ ws, x < 256) {k : Nat} (hk : k < 8) : le8 ws k < 18446744073709551616 :=
  Nat.lt_of_lt_of_le (le8_lt h k) (Nat.le_trans (Nat.pow_le_pow_right (by decide) (show k ≤ 7 by omega)) (by decide))
theorem le8_or {ws : List Nat} (h : ∀ x ∈ ws, x < 256) (k : Nat) : le8 ws k ||| ws.getD (1 + k) 0 * 2 ^ (8 * k) = le8 ws (k + 1) := by
  rw [or_add (by rw [Nat.pow_mul]; exact le8_lt h k), Nat.pow_mul]; rfl
end Go.Proofs.YthmnlkpikgglbaaGreatDoor
namespace Go.Px
theorem q_or64 {P : Program} {R : Mem} {l : Env} {d : Option Nat} {ty t t' : TypeId} {pos : String} {af : Array Edge} {g : Option (Nat × Bool)} {x y : Operand} {a b : Nat} (hx : ev l x = some (.int .u64 (a : Int))) (hy : ev l y = some (.int .u64 (b : Int))) (ha : a < 18446744073709551616) (hb : b < 18446744073709551616) : OpQ P R ⟨d, .binOp .or t x y t', ty, pos, af, g⟩ l (.int .u64 ((a ||| b : Nat) : Int)) := q_or rfl hx hy ha hb
section
variable {P : Program} {R R' : Mem} {l : Env} {d : Option Nat} {ty t t' : TypeId} {pos : String} {af : Array Edge} {g : Option (Nat × Bool)} {x y : Operand} {i j : Int} {k : Nat}
theorem q_shr8 (hx : ev l x = some (.int .i64 i)) (hy : ev l y = some (.int .i64 j)) (hj : j = ((8 * k : Nat) : Int)) (hk : k < 8) : OpQ P R ⟨d, .binOp .shr t x y t', ty, pos, af, g⟩ l (.int .i64 (i / ((256 ^ k : Nat) : Int))) := by
  subst hj
  have h := q_shr (P := P) (R := R) (d := d) (ty := ty) (pos := pos) (af := af) (g := g) (t := t) (t' := t') hx hy (by omega)
  rw [Int.toNat_natCast, Nat.min_eq_left (show 8 * k ≤ IntKind.i64.bits by show 8 * k ≤ 64; omega)] at h
  rw [show (256 ^ k : Nat) = 2 ^ (8 * k) by rw [Nat.pow_mul], Int.natCast_pow, ← Int.fdiv_eq_ediv_of_nonneg _ (Int.pow_nonneg (by decide))]
  exact h
theorem q_to8i {s : TypeId} (hx : ev l x = some (.int .i64 i)) (hc : convI P s t = some .u8) : OpQ P R ⟨d, .convert s t x, ty, pos, af, g⟩ l (.int .u8 (((i % 256).toNat : Nat) : Int)) := by
  refine q_convR _ hx hc ?_
  unfold IntKind.wrap
  simp only [IntKind.signed, IntKind.bits, Bool.false_and, Bool.false_eq_true, if_false]
  omega
end
end Go.Px
namespace Go.Proofs.YthmnlkpikgglbaaGreatDoor
open Go.Px

set_option maxRecDepth 100000 in
theorem bytes_spec (i : Int) (A : Mem) : FnX Tryz.prog 19 [.int .i64 i] [] A fun r M J => J = [] ∧ Sl 1 r 32 (nums .u8 (bts i)) M := by
  skip
  refine FnX.enter (N := 22) Tryz.func19 rfl rfl rfl fun w => ?_
  refine XC.keep (kp 0 rfl kn) ?_
  refine XC.reg ?_
  refine XL.q (q_assign rfl) rfl ?_
  refine XL.fin (kp 0 rfl kn) ?_
  refine XC.reg ?_
  refine XL.lo rfl (l_makeV (a := 32) (e := 5) (k := .u8) (by_ := 1) rfl rfl (by kernel_rfl) rfl rfl (by omega) (by omega) rfl fun v5 B5 hs5 => ?_)
  refine XL.q (q_assign rfl) rfl ?_
  refine XL.fin (kp 0 rfl (kp 3 rfl kn)) ?_
  refine XC.reg ?_
  refine XL.q (q_move rfl) rfl ?_
  refine XL.q (q_atV2 (sz := 1) (a := 0) rfl rfl (by kernel_rfl) rfl (by first | assumption | exact Sl.rd (by assumption) (fun _ h => h) | exact By.rd (by assumption)) (by omega)) rfl ?_
  refine XL.lo rfl (l_stV2 (u := 84) rfl rfl rfl (by kernel_rfl) hs5 (by decide) PickC.perm fun B5b hs5b => ?_)
  refine XL.fin (kp 0 rfl (kp 3 rfl kn)) ?_
  refine XC.seq ?_
  refine XC.reg ?_
  refine XL.q (q_move rfl) rfl ?_
  refine XL.fin (kp 0 rfl (kp 3 rfl (kp 8 rfl kn))) ?_
  refine XC.block ?_
  refine XC.loop (α := Nat × Mem) (fun s => [(0, .int .i64 i), (3, v5), (8, .int .i64 (s.1 : Int))]) (fun s => s.2) (fun _ => []) (fun s => s.1 ≤ 8 ∧ Sl 1 v5 32 (nums .u8 (btk i s.1)) s.2) (fun s => 8 - s.1) ⟨0, B5b⟩ ⟨Nat.zero_le _, hs5b⟩ (kp 0 rfl (kp 3 rfl (kp 8 rfl kn))) (Fit.eq (by simp)) (fun _ h => h) ?_
  rintro ⟨k, B⟩ ⟨hk, hs⟩
  dsimp only at hk hs ⊢
  haveI := hs.cel
  refine XC.reg ?_
  refine XL.q (q_bin rfl rfl rfl) rfl ?_
  refine XL.fin (kp 0 rfl (kp 3 rfl (kp 8 rfl (kp 9 rfl kn)))) ?_
  refine XC.seq ?_
  refine XC.cond rfl (fun hc => ?_) (fun hc => ?_)
  ·
    have hlt : k < 8 := by simp at hc; omega
    refine XC.skip ?_
    refine nx (kp 0 rfl (kp 3 rfl (kp 8 rfl kn))) ?_
    refine XC.seq ?_
    refine XC.block ?_
    refine XC.reg ?_
    refine XL.q (q_move rfl) rfl ?_
    refine XL.q (q_assign rfl) rfl ?_
    refine XL.fin (kp 0 rfl (kp 3 rfl (kp 4 rfl (kp 8 rfl kn)))) ?_
    refine XC.reg1 ?_
    refine XL.q (q_move rfl) rfl ?_
    refine XL.q (q_move rfl) rfl ?_
    refine XL.q (q_addI (a := 1) rfl rfl rfl rfl (by omega)) rfl ?_
    refine XL.q (q_move rfl) rfl ?_
    refine XL.q (q_move rfl) rfl ?_
    refine XL.q (q_mulI (a := 8) rfl rfl rfl rfl (by omega)) rfl ?_
    refine XL.q (q_shr8 (k := k) rfl rfl rfl hlt) rfl ?_
    refine XL.q (q_to8i rfl (by kernel_rfl)) rfl ?_
    refine XL.q (q_atV2 (sz := 1) rfl rfl (by kernel_rfl) rfl (by first | assumption | exact Sl.rd (by assumption) (fun _ h => h) | exact By.rd (by assumption)) (by omega)) rfl ?_
    refine XL.lo rfl (l_stV2 (u := byt i k) rfl rfl rfl (by kernel_rfl) hs (by omega) PickC.perm fun B6 hs6 => ?_)
    rw [btk_succ i (by omega)] at hs6
    refine XL.nil ?_
    refine nb ?_
    refine nx (kp 0 rfl (kp 3 rfl (kp 8 rfl kn))) ?_
    refine XC.reg1 ?_
    refine XL.q (q_addI (b := 1) rfl rfl rfl rfl (by omega)) rfl ?_
    refine XL.q (q_move rfl) rfl ?_
    refine XL.nil ?_
    exact rn ⟨k + 1, B6⟩ ⟨by dsimp only; omega, hs6⟩ (by dsimp only; omega) (kp 0 rfl (kp 3 rfl (kp 8 rfl kn))) (Fit.eq (by simp)) (fun _ h => h)
  ·
    have hge : k = 8 := by simp at hc; omega
    subst hge
    refine XC.exit ?_
    refine te ?_
    refine re ?_
    refine be rfl ?_
    refine nx (kp 3 rfl kn) ?_
    refine XC.reg ?_
    refine XL.q (q_move rfl) rfl ?_
    refine XL.q (q_assign rfl) rfl ?_
    refine XL.fin (kp 2 rfl kn) ?_
    refine XC.ret ?_
    exact ⟨_, B, [], res1 rfl rfl, by first | exact List.Sublist.refl _ | simp, by simp, rfl, hs⟩

set_option maxRecDepth 100000 in
theorem place_spec (bt bm : Nat) (ts : List Tm) (vp : Value) (ws : List Nat) (MT A : Mem) (hT : Tab bt bm ts MT) (hsub : ∀ x, x ∈ MT → x ∈ A) (hn : ts.length ≤ 1048576) (hp : Rd A 1 vp ws.length (nums .u8 ws)) (hw : ∀ x ∈ ws, x < 256) (hl : ws.length ≤ maxLen) : FnV Tryz.prog 14 [.pointer (some ⟨bt, 0, none⟩), vp] A (.tuple #[.int .i64 (((plc ws ts.length).getD 0 : Nat) : Int), .bool (plc ws ts.length).isSome]) := by
  haveI := hp.cel
  have hmx : maxLen < 9223372036854775808 := by unfold maxLen; omega
  refine FnX.enter (N := 51) Tryz.func14 rfl rfl rfl fun w => ?_
  refine XC.keep (kp 0 rfl (kp 1 rfl kn)) ?_
  refine XC.reg ?_
  refine XL.q (q_assign rfl) rfl ?_
  refine XL.q (q_assign rfl) rfl ?_
  refine XL.fin (kp 0 rfl (kp 1 rfl kn)) ?_
  refine XC.seq ?_
  refine XC.reg ?_
  refine XL.q (q_move rfl) rfl ?_
  refine XL.q (q_lenV2 (sz := 1) rfl (by kernel_rfl) hp) rfl ?_
  refine XL.q (q_bin rfl rfl rfl) rfl ?_
  refine XL.q (q_move rfl) rfl ?_
  refine XL.split (t := 13) rfl (fun hb => ?_) (fun hb => ?_)
  ·
    refine XL.gn rfl rfl rfl rfl ?_
    refine XL.gn rfl rfl rfl rfl ?_
    refine XL.gn rfl rfl rfl rfl ?_
    refine XL.gn rfl rfl rfl rfl ?_
    refine XL.q (q_pickT rfl rfl) rfl ?_
    refine XL.fin (kp 0 rfl (kp 1 rfl (kp 18 rfl kn))) ?_
    refine XC.condT rfl ?_
    refine XC.reg ?_
    refine XL.q (q_assign rfl) rfl ?_
    refine XL.q (q_assign rfl) rfl ?_
    refine XL.fin (kp 4 rfl (kp 5 rfl kn)) ?_
    refine XC.ret ?_
    refine tr ?_
    refine ⟨_, [], [], res2 rfl rfl rfl, List.nil_sublist _, by simp, plc_r0 (plc_len (by simp at hb; omega)), rfl, rfl⟩
  ·
    have h32 : 32 ≤ ws.length := by simp at hb; omega
    have h0 : ws.getD 0 0 = (ws.getD 0 0) := rfl
    refine XL.gy rfl rfl (OpQ.opL (q_move rfl) rfl ?_)
    refine XL.gy rfl rfl (OpQ.opL (q_atV2 (sz := 1) (a := 0) rfl rfl (by kernel_rfl) rfl hp (by omega)) rfl ?_)
    refine XL.gy rfl rfl (OpQ.opL (q_ldVN (j := 0) (Rd.mono hp SubC.sub) rfl (by kernel_rfl) (by omega)) rfl ?_)
    refine XL.gy rfl rfl (OpQ.opL (q_bin rfl rfl rfl) rfl ?_)
    refine XL.q (q_pickF rfl rfl) rfl ?_
    refine XL.fin (kp 0 rfl (kp 1 rfl (kp 18 rfl kn))) ?_
    refine XC.cond rfl (fun hc => ?_) (fun hc => ?_)
    ·
      have h84 : ws.getD 0 0 ≠ 84 := by have := bne_iff_ne.1 hc; omega
      refine XC.reg ?_
      refine XL.q (q_assign rfl) rfl ?_
      refine XL.q (q_assign rfl) rfl ?_
      refine XL.fin (kp 4 rfl (kp 5 rfl kn)) ?_
      refine XC.ret ?_
      refine tr ?_
      refine ⟨_, [], [], res2 rfl rfl rfl, List.nil_sublist _, by simp, plc_r0 (plc_84 h84), rfl, rfl⟩
    ·
      have h84 : ws.getD 0 0 = 84 := by have h := hc; rw [bne_eq_false_iff_eq] at h; omega
      refine XC.skip ?_
      refine nx (kp 0 rfl (kp 1 rfl kn)) ?_
      refine XC.reg ?_
      refine XL.q (q_assign rfl) rfl ?_
      refine XL.fin (kp 0 rfl (kp 1 rfl (kp 6 rfl kn))) ?_
      refine XC.seq ?_
      refine XC.reg ?_
      refine XL.q (q_move rfl) rfl ?_
      refine XL.fin (kp 0 rfl (kp 1 rfl (kp 6 rfl (kp 19 rfl kn)))) ?_
      refine XC.block ?_
      refine XC.loop (α := Nat) (fun k => [(0, .pointer (some ⟨bt, 0, none⟩)), (1, vp), (6, .int .u64 ((le8 ws k : Nat) : Int)), (19, .int .i64 (k : Int))]) (fun _ => []) (fun _ => []) (fun k => k ≤ 8) (fun k => 8 - k) 0 (by decide) (kp 0 rfl (kp 1 rfl (kp 6 rfl (kp 19 rfl kn)))) (Fit.eq (by simp)) (fun _ h => h) ?_
      rintro k hk
      refine XC.reg ?_
      refine XL.q (q_bin rfl rfl rfl) rfl ?_
      refine XL.fin (kp 0 rfl (kp 1 rfl (kp 6 rfl (kp 19 rfl (kp 20 rfl kn))))) ?_
      refine XC.seq ?_
      refine XC.cond rfl (fun hc => ?_) (fun hc => ?_)
      ·
        have hlt : k < 8 := by simp at hc; omega
        have hwk := getD_lt hw (1 + k)
        have h8w := le8_w hw hlt
        have h8n := le8_n hw hlt
        refine XC.skip ?_
        refine nx (kp 0 rfl (kp 1 rfl (kp 6 rfl (kp 19 rfl kn)))) ?_
        refine XC.seq ?_
        refine XC.block ?_
        refine XC.reg ?_
        refine XL.q (q_move rfl) rfl ?_
        refine XL.q (q_assign rfl) rfl ?_
        refine XL.fin (kp 0 rfl (kp 1 rfl (kp 6 rfl (kp 7 rfl (kp 19 rfl kn))))) ?_
        refine XC.reg1 ?_
        refine XL.q (q_move rfl) rfl ?_
        refine XL.q (q_move rfl) rfl ?_
        refine XL.q (q_move rfl) rfl ?_
        refine XL.q (q_addI (a := 1) rfl rfl rfl rfl (by omega)) rfl ?_
        refine XL.q (q_atV2 (sz := 1) rfl rfl (by kernel_rfl) rfl hp (by omega)) rfl ?_
        refine XL.q (q_ldVN (Rd.mono hp SubC.sub) rfl (by kernel_rfl) (by omega)) rfl ?_
        refine XL.q (q_convN (ws.getD (1 + k) 0) rfl (by kernel_rfl) (by rw [wrap64, Nat.mod_eq_of_lt (by omega)])) rfl ?_
        refine XL.q (q_move rfl) rfl ?_
        refine XL.q (q_mulI (a := 8) rfl rfl rfl rfl (by omega)) rfl ?_
        refine XL.q (q_shlI 18446744073709551616 rfl (by decide) rfl rfl rfl rfl (by show 8 * k ≤ 64; omega)) rfl ?_
        rw [Nat.mod_eq_of_lt h8w]
        refine XL.q (q_or64 rfl rfl h8n h8w) rfl ?_
        rw [le8_or hw k]
        refine XL.q (q_assign rfl) rfl ?_
        refine XL.nil ?_
        refine nb ?_
        refine nx (kp 0 rfl (kp 1 rfl (kp 6 rfl (kp 19 rfl kn)))) ?_
        refine XC.reg1 ?_
        refine XL.q (q_addI (b := 1) rfl rfl rfl rfl (by omega)) rfl ?_
        refine XL.q (q_move rfl) rfl ?_
        refine XL.nil ?_
        exact rn (k + 1) (by omega) (by omega) (kp 0 rfl (kp 1 rfl (kp 6 rfl (kp 19 rfl kn)))) (Fit.eq (by simp)) (fun _ h => h)
      ·
        have hge : k = 8 := by simp at hc; omega
        subst hge
        generalize h8 : le8 ws 8 = n8
        refine XC.exit ?_
        refine te ?_
        refine re ?_
        refine be rfl ?_
        refine nx (kp 0 rfl (kp 1 rfl (kp 6 rfl kn))) ?_
        refine XC.seq ?_
        refine XC.reg ?_
        refine XL.q (q_move rfl) rfl ?_
        refine XL.q (q_loV2 (sz := 1) (a := 9) rfl rfl (by kernel_rfl) rfl hp (by omega)) rfl ?_
        have hq := hp.loV 9 (by omega)
        rw [Nat.mul_one, ← nums_drop] at hq
        generalize vLo 9 1 vp = vq at *
        haveI := hq.cel
        refine XL.q (q_lenV2 (sz := 1) rfl (by kernel_rfl) hq) rfl ?_
        refine XL.q (q_move rfl) rfl ?_
        refine XL.fin (kp 0 rfl (kp 6 rfl (kp 35 rfl (kp 36 rfl (kp 37 rfl kn))))) ?_
        refine XC.block ?_
        refine XC.loop (α := Nat) (fun j => [(0, .pointer (some ⟨bt, 0, none⟩)), (6, .int .u64 ((n8 : Nat) : Int)), (35, vq), (36, .int .i64 ((ws.length - 9 : Nat) : Int)), (37, .int .i64 (j : Int))]) (fun _ => []) (fun _ => []) (fun j => j ≤ ws.length - 9 ∧ ∀ c ∈ (ws.drop 9).take j, c = 0) (fun j => ws.length - 9 - j) 0 ⟨Nat.zero_le _, fun c h => by simp at h⟩ (kp 0 rfl (kp 6 rfl (kp 35 rfl (kp 36 rfl (kp 37 rfl kn))))) (Fit.eq (by simp)) (fun _ h => h) ?_
        rintro j ⟨hj, hz⟩
        refine XC.reg ?_
        refine XL.q (q_bin rfl rfl rfl) rfl ?_
        refine XL.fin (kp 0 rfl (kp 6 rfl (kp 35 rfl (kp 36 rfl (kp 37 rfl (kp 38 rfl kn)))))) ?_
        refine XC.seq ?_
        refine XC.cond rfl (fun hc => ?_) (fun hc => ?_)
        ·
          have hlt : j < ws.length - 9 := by simp at hc; omega
          have hjw : j < (ws.drop 9).length := by rw [List.length_drop]; exact hlt
          have hwj := getD_lt (ws := ws.drop 9) (fun x hx => hw x (List.mem_of_mem_drop hx)) j
          refine XC.skip ?_
          refine nx (kp 0 rfl (kp 6 rfl (kp 35 rfl (kp 36 rfl (kp 37 rfl kn))))) ?_
          refine XC.seq ?_
          refine XC.block ?_
          refine XC.reg ?_
          refine XL.q (q_atV2 (sz := 1) rfl rfl (by kernel_rfl) rfl hq hlt) rfl ?_
          refine XL.q (q_ldVN (Rd.mono hq SubC.sub) rfl (by kernel_rfl) hlt) rfl ?_
          refine XL.q (q_assign rfl) rfl ?_
          refine XL.fin (kp 0 rfl (kp 6 rfl (kp 9 rfl (kp 35 rfl (kp 36 rfl (kp 37 rfl kn)))))) ?_
          refine XC.reg ?_
          refine XL.q (q_move rfl) rfl ?_
          refine XL.q (q_bin rfl rfl rfl) rfl ?_
          refine XL.fin (kp 0 rfl (kp 6 rfl (kp 35 rfl (kp 36 rfl (kp 37 rfl (kp 42 rfl kn)))))) ?_
          refine XC.cond rfl (fun hc => ?_) (fun hc => ?_)
          ·
            have hne : (ws.drop 9).getD j 0 ≠ 0 := by have := bne_iff_ne.1 hc; omega
            refine XC.reg ?_
            refine XL.q (q_assign rfl) rfl ?_
            refine XL.q (q_assign rfl) rfl ?_
            refine XL.fin (kp 4 rfl (kp 5 rfl kn)) ?_
            refine XC.ret ?_
            refine br ?_
            refine tr ?_
            refine rr ?_
            refine br ?_
            refine tr ?_
            refine ⟨_, [], [], res2 rfl rfl rfl, List.nil_sublist _, by simp, plc_r0 (plc_nz hjw hne), rfl, rfl⟩
          ·
            have he0 : (ws.drop 9).getD j 0 = 0 := by have h := hc; rw [bne_eq_false_iff_eq] at h; omega
            refine XC.skip ?_
            refine nb ?_
            refine nx (kp 0 rfl (kp 6 rfl (kp 35 rfl (kp 36 rfl (kp 37 rfl kn))))) ?_
            refine XC.reg1 ?_
            refine XL.q (q_addI (b := 1) rfl rfl rfl rfl (by omega)) rfl ?_
            refine XL.q (q_move rfl) rfl ?_
            refine XL.nil ?_
            exact rn (j + 1) ⟨by omega, fun c h => by rw [List.take_add_one, List.getElem?_eq_getElem hjw] at h; rcases List.mem_append.1 h with h | h; exact hz c h; simp at h; rw [List.getD_eq_getElem?_getD, List.getElem?_eq_getElem hjw] at he0; simp at he0; omega⟩ (by omega) (kp 0 rfl (kp 6 rfl (kp 35 rfl (kp 36 rfl (kp 37 rfl kn))))) (Fit.eq (by simp)) (fun _ h => h)
        ·
          have hge : j = ws.length - 9 := by simp at hc; omega
          subst hge
          have hzz : ∀ c ∈ ws.drop 9, c = 0 := by rwa [List.take_of_length_le (by rw [List.length_drop]; exact Nat.le_refl _)] at hz
          refine XC.exit ?_
          refine te ?_
          refine re ?_
          refine be rfl ?_
          refine nx (kp 0 rfl (kp 6 rfl kn)) ?_
          refine XC.seq ?_
          refine XC.reg ?_
          refine XL.q (q_move rfl) rfl ?_
          refine XL.q (q_move rfl) rfl ?_
          refine XL.callV (aS rfl a0) (by kernel_rfl) (lenT_spec bt bm ts MT _ hT (fun x hx => mA (hsub x hx))) rfl ?_
          refine XL.q (q_convN ts.length rfl (by kernel_rfl) (by rw [wrap64, Nat.mod_eq_of_lt (by omega)])) rfl ?_
          refine XL.q (q_bin rfl rfl rfl) rfl ?_
          refine XL.fin (kp 6 rfl (kp 48 rfl kn)) ?_
          refine XC.cond rfl (fun hc => ?_) (fun hc => ?_)
          ·
            have hge : ts.length ≤ n8 := by simp at hc; omega
            refine XC.reg ?_
            refine XL.q (q_assign rfl) rfl ?_
            refine XL.q (q_assign rfl) rfl ?_
            refine XL.fin (kp 4 rfl (kp 5 rfl kn)) ?_
            refine XC.ret ?_
            refine tr ?_
            refine ⟨_, [], [], res2 rfl rfl rfl, List.nil_sublist _, by simp, plc_r0 (plc_ge h8 hge), rfl, rfl⟩
          ·
            have hltn : n8 < ts.length := by simp at hc; omega
            refine XC.skip ?_
            refine nx (kp 6 rfl kn) ?_
            refine XC.reg ?_
            refine XL.q (q_move rfl) rfl ?_
            refine XL.q (q_convN n8 rfl (by kernel_rfl) (wrapI (by omega))) rfl ?_
            refine XL.q (q_assign rfl) rfl ?_
            refine XL.q (q_assign rfl) rfl ?_
            refine XL.fin (kp 4 rfl (kp 5 rfl kn)) ?_
            refine XC.ret ?_
            refine ⟨_, [], [], res2 rfl rfl rfl, List.nil_sublist _, by simp, plc_r1 (plc_some h8 h32 h84 hzz hltn), rfl, rfl⟩

end Go.Proofs.YthmnlkpikgglbaaGreatDoor
/- Read; the walk of TermBytes. -/
set_option linter.unusedVariables false
set_option linter.unusedSimpArgs false
namespace Go.Proofs.YthmnlkpikgglbaaGreatDoor
open Go.Px
def rawT (ws : List Nat) : Tm := ⟨2, [], ws, 0⟩
def rdT (ts : List Tm) (ws : List Nat) : List Tm := match plc ws ts.length with
  | some _ => ts
  | none => add ts (rawT ws)
def rdI (ts : List Tm) (ws : List Nat) : Nat := match plc ws ts.length with
  | some j => j
  | none => at_ ts (rawT ws)
theorem rawT_ok {ws : List Nat} (h : ∀ x ∈ ws, x < 256) (hl : ws.length ≤ 1099511627776) : Tmo (rawT ws) := ⟨show 2 < 256 by decide, show i64 0 by unfold i64; omega, fun i hi => (List.not_mem_nil hi).elim, show 0 ≤ 1048576 by decide, ⟨h⟩, hl⟩
theorem rdT_some {ts : List Tm} {ws : List Nat} {j : Nat} (h : plc ws ts.length = some j) : rdT ts ws = ts ∧ rdI ts ws = j := by unfold rdT rdI; rw [h]; exact ⟨rfl, rfl⟩
theorem rdT_none {ts : List Tm} {ws : List Nat} (h : plc ws ts.length = none) : rdT ts ws = add ts (rawT ws) ∧ rdI ts ws = at_ ts (rawT ws) := by unfold rdT rdI; rw [h]; exact ⟨rfl, rfl⟩
theorem plc_lt {ws : List Nat} {n j : Nat} (h : plc ws n = some j) : j < n ∧ ∀ m, j < m → plc ws m = some j := by
  unfold plc at h
  split at h
  · rename_i hc
    have e := Option.some.inj h
    subst e
    exact ⟨hc.2.2.2, fun m hm => plc_yes ⟨hc.1, hc.2.1, hc.2.2.1, hm⟩⟩
  · cases h
theorem add_none {ts : List Tm} {t : Tm} (h : pos ts t = none) : add ts t = ts ++ [t] ∧ at_ ts t = ts.length := by unfold add at_; rw [h]; exact ⟨rfl, rfl⟩
theorem add_some {ts : List Tm} {t : Tm} {j : Nat} (h : pos ts t = some j) : add ts t = ts ∧ at_ ts t = j := by unfold add at_; rw [h]; exact ⟨rfl, rfl⟩
theorem read_end {ts : List Tm} {ws : List Nat} (hw : Tmo (rawT ws)) (hts : ∀ t ∈ ts, Tmo t) : rdI ts ws < (rdT ts ws).length ∧ (∀ d, plc ws (rdT ts ws).length = some d → rdI ts ws = d) ∧ (plc ws (rdT ts ws).length = none → (rdT ts ws)[rdI ts ws]? = some (rawT ws)) := by
  cases hp : plc ws ts.length with
  | some j =>
    obtain ⟨h1, h2⟩ := rdT_some hp
    rw [h1, h2]
    exact ⟨(plc_lt hp).1, (fun d hd => by rw [hp] at hd; exact Option.some.inj hd), fun h => by rw [hp] at h; cases h⟩
  | none =>
    obtain ⟨h1, h2⟩ := rdT_none hp
    rw [h1, h2]
    cases hq : pos ts (rawT ws) with
    | some j =>
      obtain ⟨h3, h4⟩ := add_some hq
      rw [h3, h4]
      exact ⟨pos_lt hq, (fun d hd => by rw [hp] at hd; cases hd), fun _ => pos_some hw hts hq⟩
    | none =>
      obtain ⟨h3, h4⟩ := add_none hq
      rw [h3, h4]
      refine ⟨by simp, fun d hd => ?_, fun _ => by simp⟩
      obtain ⟨h5, h6⟩ := plc_lt hd
      rw [List.length_append, List.length_singleton] at h5
      by_cases h7 : d < ts.length
      · have := h6 _ h7; rw [hp] at this; cases this
      · omega
def atoms (k : Nat) : List Tm := (List.range k).map fun (j : Nat) => (⟨1, [], [], (j : Int)⟩ : Tm)
theorem atoms_no {k : Nat} {t : Tm} (h : t.kind = 1 → t.n < 0 ∨ (k : Int) ≤ t.n) : t ∉ atoms k := by
  intro hm
  obtain ⟨j, hj, rfl⟩ := List.mem_map.1 hm
  have := List.mem_range.1 hj
  have := h rfl
  simp only at this
  omega
theorem atoms_succ (k : Nat) : atoms k ++ [⟨1, [], [], (k : Int)⟩] = atoms (k + 1) := by simp [atoms, List.range_succ]
theorem atoms_len (k : Nat) : (atoms k).length = k := by simp [atoms]
theorem u64_in {i : Int} {k : Nat} (hi : i64 i) (hk : k ≤ 20) : (plc (bts i) k).isSome = decide (0 ≤ i ∧ i < (k : Int)) ∧ ((plc (bts i) k).isSome = true → (((plc (bts i) k).getD 0 : Nat) : Int) = i) := by
  rw [plc_bts]
  unfold i64 at hi
  by_cases h : 0 ≤ i ∧ i < (k : Int)
  · have h1 : u64 i < k := by unfold u64; omega
    rw [if_pos h1]
    refine ⟨by simp [h], fun _ => ?_⟩
    show ((u64 i : Nat) : Int) = i
    unfold u64; omega
  · have h1 : ¬ u64 i < k := by unfold u64; omega
    rw [if_neg h1]
    exact ⟨by simp [h], fun h2 => by cases h2⟩
theorem u64_pos {i : Int} (hi : i64 i) (h : 0 ≤ i) : ((u64 i : Nat) : Int) = i := by unfold i64 at hi; unfold u64; omega

set_option maxRecDepth 100000 in
theorem read_spec (bt bm : Nat) (ts : List Tm) (vp : Value) (ws : List Nat) (MT A : Mem) (hT : Tab bt bm ts MT) (hn : ts.length ≤ 1048576) (hp : Rd A 1 vp ws.length (nums .u8 ws)) (hw : ∀ x ∈ ws, x < 256) (hl : ws.length ≤ 1099511627776) {e4 : TypeId} {f4 : Nat × Nat} (h4 : (4, Obj.cells (nums .u64 pow10T).toArray e4 f4) ∈ A) : FnX Tryz.prog 32 [.pointer (some ⟨bt, 0, none⟩), vp] MT A fun r M J => J = [] ∧ r = .int .i64 ((rdI ts ws : Nat) : Int) ∧ Tab bt bm (rdT ts ws) M := by
  haveI := hp.cel
  haveI : B256 ws := ⟨hw⟩
  refine FnX.enter (N := 20) Tryz.func32 rfl rfl rfl fun w => ?_
  refine XC.keep (kp 0 rfl (kp 1 rfl kn)) ?_
  refine XC.reg ?_
  refine XL.q (q_assign rfl) rfl ?_
  refine XL.fin (kp 0 rfl (kp 1 rfl kn)) ?_
  refine XC.seq ?_
  refine XC.reg ?_
  refine XL.q (q_move rfl) rfl ?_
  refine XL.q (q_move rfl) rfl ?_
  refine XL.callV (aS rfl (aS rfl a0)) (by kernel_rfl) (place_spec bt bm ts vp ws MT _ hT SubC.sub hn (hp.mono SubC.sub) hw (Nat.le_trans hl (by unfold maxLen; omega))) rfl ?_
  refine XL.q (q_move rfl) rfl ?_
  refine XL.q (q_x0 rfl) rfl ?_
  refine XL.q (q_x1 rfl) rfl ?_
  refine XL.q (q_assign rfl) rfl ?_
  refine XL.q (q_assign rfl) rfl ?_
  refine XL.fin (kp 0 rfl (kp 1 rfl (kp 5 rfl (kp 6 rfl kn)))) ?_
  refine XC.reg ?_
  refine XL.q (q_move rfl) rfl ?_
  refine XL.fin (kp 0 rfl (kp 1 rfl (kp 5 rfl (kp 13 rfl kn)))) ?_
  refine XC.cond rfl (fun hc => ?_) (fun hc => ?_)
  ·
    obtain ⟨j, hj⟩ := Option.isSome_iff_exists.1 hc
    obtain ⟨h1, h2⟩ := rdT_some hj
    refine XC.reg ?_
    refine XL.q (q_move rfl) rfl ?_
    refine XL.q (q_assign rfl) rfl ?_
    refine XL.fin (kp 4 rfl kn) ?_
    refine XC.ret ?_
    refine tr ?_
    exact ⟨_, MT, [], res1 rfl rfl, List.Sublist.refl _, by simp, rfl, by rw [h2, hj]; rfl, by rw [h1]; exact hT⟩
  ·
    have hj : plc ws ts.length = none := by simpa using hc
    obtain ⟨h1, h2⟩ := rdT_none hj
    refine XC.skip ?_
    refine nx (kp 0 rfl (kp 1 rfl kn)) ?_
    refine XC.reg ?_
    refine XL.q (q_move rfl) rfl ?_
    refine XL.q (q_move rfl) rfl ?_
    refine XL.q (q_toStr2 rfl (by kernel_rfl) (hp.mono SubC.sub)) rfl ?_
    refine XL.q (q_build (place := fun x => #[(0, 1), (1, 1), (2, 1), (3, 1)][x]?) (z := [.int .u8 0, .slice none 0 0, .string ByteArray.empty, .int .i64 0]) (fun _ => by kernel_rfl) (eS rfl (eS rfl e0)) (bdS 0 1 rfl (by rfl) (bdS 2 1 rfl (by rfl) bd0))) rfl ?_
    refine XL.lo rfl (l_call (Mc := MT) (R := _) (aS rfl (aS rfl a0)) (by kernel_rfl) PickC.perm (putT_spec bt bm ts (.slice none 0 0) (rawT ws) MT _ hT hn Rd.nil (rawT_ok hw hl) (SubC.sub _ h4)) rfl ?_)
    rintro v19 M19 J19 ⟨rfl, rfl, hT19⟩
    refine XL.q (q_assign rfl) rfl ?_
    refine XL.fin (kp 4 rfl kn) ?_
    refine XC.ret ?_
    exact ⟨_, M19, [], res1 rfl rfl, by first | exact List.Sublist.refl _ | simp, by simp, rfl, by rw [h2], by rw [h1]; exact hT19⟩

theorem rdT_len {ts : List Tm} {ws : List Nat} : (rdT ts ws).length ≤ ts.length + 1 := by
  unfold rdT
  split
  · omega
  · exact add_len
theorem atom_ok (k : Nat) (h : k ≤ 20) : Tmo ⟨1, [], [], (k : Int)⟩ := ⟨show 1 < 256 by decide, show i64 (k : Int) by unfold i64; omega, fun i hi => (List.not_mem_nil hi).elim, show 0 ≤ 1048576 by decide, ⟨fun x hx => (List.not_mem_nil hx).elim⟩, show 0 ≤ 1099511627776 by decide⟩
theorem atoms_ok {k : Nat} (h : k ≤ 20) : ∀ t ∈ atoms k, Tmo t := by
  intro t ht
  obtain ⟨j, hj, rfl⟩ := List.mem_map.1 ht
  have := List.mem_range.1 hj
  exact atom_ok j (by omega)
theorem lt_u (i : Int) {j : Nat} (hj : j < 8) : u64 i / 256 ^ (j + 1) * 256 + (bts i).getD (1 + j) 0 = u64 i / 256 ^ j := by
  rw [bts_get i hj, byt_u i hj, Nat.pow_succ, ← Nat.div_div_eq_div_mul]
  omega

end Go.Proofs.YthmnlkpikgglbaaGreatDoor
