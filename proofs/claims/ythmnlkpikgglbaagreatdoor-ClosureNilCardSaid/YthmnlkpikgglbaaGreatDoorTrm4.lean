/- The walks of package term's table: Find, Put; bytes that stand for a place. -/
import Derived.Test.YthmnlkpikgglbaaGreatDoorTrm3
set_option linter.unusedVariables false
set_option linter.unusedSimpArgs false
namespace Go.Proofs.YthmnlkpikgglbaaGreatDoor
open Go.Px
instance (priority := low) SubC.union {X Y Z : Mem} [h1 : SubC X Z] [h2 : SubC Y Z] : SubC (X ++ Y) Z := ⟨fun x h => (List.mem_append.1 h).elim (h1.sub x) (h2.sub x)⟩
instance (priority := low) SubC.consC {b : Nat} {o : Obj} {X Z : Mem} [h1 : At Z b o] [h2 : SubC X Z] : SubC ((b, o) :: X) Z := ⟨fun x h => (List.mem_cons.1 h).elim (fun h => h ▸ h1.mem) (h2.sub x)⟩
theorem fit_put {B M X : Mem} {x y z : Nat × Obj} : Fit ((B ++ []) ++ (M ++ (x :: y :: z :: X))) (y :: z :: (B ++ (M ++ X))) := ⟨x :: (y :: z :: (B ++ (M ++ X))), by
  rw [List.append_nil, ← List.append_assoc]
  exact (List.perm_append_comm_assoc (B ++ M) [x, y, z] X).trans (by simp), .cons _ (List.Sublist.refl _)⟩
theorem _root_.Go.Px.XK.tl {C : Cx} {Q : XQ} {l : Env} {M J : Mem} {os : List Oper} {K : Nat → Prop} {n0 : Nat} {nd : List Nat} {plan : List (Nat × Nat)} {i : Nat} {o : Oper} (hget : nth os i = some o) (hg : o.guard = none) (hnd : nd.contains i = false) (h : OpL C o l M J (fun l' M' J' => XK C os Q K 0 nd plan l' M' J')) : XK C os Q K n0 nd ((i, 2) :: plan) l M J := by
  have h1 := XK.last hget (fun a ha => by simp [Region.wanted, hg]) hnd h
  exact fun listed hcl hp a w ha hw _ => h1 listed hcl hp a w ha hw (Nat.zero_le _)
/-- The place of a term in a table, and the table behind it. -/
def pos (ts : List Tm) (t : Tm) : Option Nat := lookK (key t) (ts.map key) 0
def at_ (ts : List Tm) (t : Tm) : Nat := (pos ts t).getD ts.length
def add (ts : List Tm) (t : Tm) : List Tm := if (pos ts t).isSome then ts else ts ++ [t]
theorem growsLitT {n : Nat} {cs : List Value} {e : TypeId} : Grows fun v R => ∃ b, v = .slice (some ⟨b, 0, none⟩) n n ∧ (b, Obj.cells cs.toArray e (0, 0)) ∈ R := fun _ _ _ h ⟨b, e, hb⟩ => ⟨b, e, h _ hb⟩
theorem pos_some {ts : List Tm} {t : Tm} (ht : Tmo t) (hts : ∀ t ∈ ts, Tmo t) {i : Nat} (h : pos ts t = some i) : ts[i]? = some t := (look_key ht hts).2 i h
theorem pos_none {ts : List Tm} {t : Tm} (ht : Tmo t) (hts : ∀ t ∈ ts, Tmo t) : pos ts t = none ↔ t ∉ ts := (look_key ht hts).1
theorem pos_of {ts : List Tm} (hts : ∀ t ∈ ts, Tmo t) (hnd : ts.Nodup) {t : Tm} {i : Nat} (h : ts[i]? = some t) : pos ts t = some i := by
  have hm : t ∈ ts := List.mem_of_getElem? h
  cases hp : pos ts t with
  | none => exact absurd hm ((pos_none (hts t hm) hts).1 hp)
  | some j =>
    have hj := pos_some (hts t hm) hts hp
    have a := List.getElem?_eq_some_iff.1 h
    have b := List.getElem?_eq_some_iff.1 hj
    obtain ⟨a1, a2⟩ := a
    obtain ⟨b1, b2⟩ := b
    have hpw := List.pairwise_iff_getElem.1 hnd
    rcases Nat.lt_trichotomy i j with h1 | h1 | h1
    · exact absurd (a2.trans b2.symm) (hpw i j a1 b1 h1)
    · rw [h1]
    · exact absurd (b2.trans a2.symm) (hpw j i b1 a1 h1)

set_option maxRecDepth 100000 in
theorem findT_spec (bt bm : Nat) (ts : List Tm) (vo : Value) (t : Tm) (MT A : Mem) (hT : Tab bt bm ts MT) (hsub : ∀ x, x ∈ MT → x ∈ A) (hvo : Rd A 1 vo t.of.length (ints t.of)) (ht : Tmo t) {e4 : TypeId} {f4 : Nat × Nat} (h4 : (4, Obj.cells (nums .u64 pow10T).toArray e4 f4) ∈ A) : FnV Tryz.prog 93 [.pointer (some ⟨bt, 0, none⟩), .agg (tmc t.kind vo t.text t.n).toArray] A (.tuple #[.int .i64 (((pos ts t).getD 0 : Nat) : Int), .bool (pos ts t).isSome]) := by
  obtain ⟨v, rows, ks, Bl, BX, rfl, hks, hsl, hrl, hr4, hat, hto, hnd⟩ := hT
  have hbt : (bt, blk [v, .map (some bm)] 83) ∈ A := hsub _ (by simp)
  have hbm : (bm, Obj.map (ents ks 0).toArray ks.length) ∈ A := hsub _ (by simp)
  have hkind := ht.kind
  refine FnX.enter (N := 22) Tryz.func93 rfl rfl rfl fun w => ?_
  refine XC.keep (kp 0 rfl (kp 1 rfl kn)) ?_
  refine XC.reg ?_
  refine XL.lo rfl (l_box rfl (by first | exact Cel.cel | rfl) rfl fun b3 => ?_)
  refine XL.q (q_assign rfl) rfl ?_
  refine XL.q (q_assign rfl) rfl ?_
  refine XL.fin (kp 0 rfl (kp 3 rfl kn)) ?_
  refine XC.seq ?_
  refine XC.reg ?_
  refine XL.q (q_move rfl) rfl ?_
  refine XL.q (q_ptrEqNil (e := 83) rfl rfl (by kernel_rfl)) rfl ?_
  refine XL.fin (kp 0 rfl (kp 3 rfl (kp 9 rfl kn))) ?_
  refine XC.condF rfl ?_
  refine XC.skip ?_
  refine nx (kp 0 rfl (kp 3 rfl kn)) ?_
  refine XC.drawF [0, 1, 2, 3, 4, 5, 7, 8, 9, 10, 11] [(0, 0), (1, 0), (2, 0), (3, 1), (4, 1), (5, 2), (6, 2), (7, 0), (8, 0), (9, 0), (10, 0), (11, 0)] (by kernel_rfl) (by kernel_rfl) fun hs => ?_
  refine XF.q hs rfl (q_move rfl) rfl ?_
  refine XF.q hs rfl (q_nil rfl) rfl ?_
  refine XF.q hs rfl (q_fieldAddrN 1 (off := 1) rfl (by kernel_rfl) rfl) rfl ?_
  refine XF.r hs rfl (q_load rfl (by kernel_rfl) (mA hbt) (by rfl)) rfl ?_
  refine XF.r hs rfl (q_loadW (n := 4) rfl (by kernel_rfl) (by first | exact At.mem | exact mA (by assumption)) (by rfl)) rfl ?_
  refine XF.callV rfl (aS rfl a0) (by kernel_rfl) (name_spec vo t _ (hvo.mono fun _ h => mA h) ht (mA h4)) rfl ?_
  refine XF.tl rfl rfl rfl (OpQ.opL (q_lookT (kt := 9) (et := 3) rfl rfl (by kernel_rfl) (by kernel_rfl) (fun _ => by rfl) (mA hbm)) rfl ?_)
  refine XF.q hs rfl (q_move rfl) rfl ?_
  refine XF.q hs rfl (q_x0 rfl) rfl ?_
  refine XF.q hs rfl (q_x1 rfl) rfl ?_
  refine XF.q hs rfl (q_assign rfl) rfl ?_
  refine XF.q hs rfl (q_assign rfl) rfl ?_
  refine XF.fin (kp 6 rfl (kp 7 rfl kn)) ?_
  refine XC.reg ?_
  refine XL.q (q_move rfl) rfl ?_
  refine XL.q (q_move rfl) rfl ?_
  refine XL.q (q_assign rfl) rfl ?_
  refine XL.q (q_assign rfl) rfl ?_
  refine XL.fin (kp 4 rfl (kp 5 rfl kn)) ?_
  refine XC.ret ?_
  refine ⟨_, [], [], res2 rfl rfl rfl, List.nil_sublist _, by simp, ?_, rfl, rfl⟩
  rw [hks]; rfl

set_option maxRecDepth 100000 in
theorem putT_spec (bt bm : Nat) (ts : List Tm) (vo : Value) (t : Tm) (MT A : Mem) (hT : Tab bt bm ts MT) (hlen : ts.length ≤ 1048576) (hvo : Rd A 1 vo t.of.length (ints t.of)) (ht : Tmo t) {e4 : TypeId} {f4 : Nat × Nat} (h4 : (4, Obj.cells (nums .u64 pow10T).toArray e4 f4) ∈ A) : FnX Tryz.prog 44 [.pointer (some ⟨bt, 0, none⟩), .agg (tmc t.kind vo t.text t.n).toArray] MT A fun r M J => J = [] ∧ r = .int .i64 ((at_ ts t : Nat) : Int) ∧ Tab bt bm (add ts t) M := by
  obtain ⟨v, rows, ks, Bl, BX, rfl, hks, hsl, hrl, hr4, hat, hto, hnd⟩ := hT
  have hkind := ht.kind
  haveI := hvo.cel
  refine FnX.enter (N := 50) Tryz.func44 rfl rfl rfl fun w => ?_
  refine XC.keep (kp 0 rfl (kp 1 rfl kn)) ?_
  refine XC.reg ?_
  refine XL.lo rfl (l_box rfl (by first | exact Cel.cel | rfl) rfl fun b3 => ?_)
  refine XL.q (q_assign rfl) rfl ?_
  refine XL.fin (kp 0 rfl (kp 3 rfl kn)) ?_
  refine XC.seq ?_
  refine XC.reg ?_
  refine XL.q (q_move rfl) rfl ?_
  refine XL.q (q_ptrEqNil (e := 83) rfl rfl (by kernel_rfl)) rfl ?_
  refine XL.fin (kp 0 rfl (kp 3 rfl (kp 8 rfl kn))) ?_
  refine XC.condF rfl ?_
  refine XC.skip ?_
  refine nx (kp 0 rfl (kp 3 rfl kn)) ?_
  refine XC.drawF [0, 1, 2, 3, 4, 5, 7, 8, 9, 10, 11] [(0, 0), (1, 0), (2, 0), (3, 1), (4, 1), (5, 2), (6, 2), (7, 0), (8, 0), (9, 0), (10, 0), (11, 0)] (by kernel_rfl) (by kernel_rfl) fun hs => ?_
  refine XF.q hs rfl (q_move rfl) rfl ?_
  refine XF.q hs rfl (q_nil rfl) rfl ?_
  refine XF.q hs rfl (q_fieldAddrN 1 (off := 1) rfl (by kernel_rfl) rfl) rfl ?_
  refine XF.r hs rfl (q_load rfl (by kernel_rfl) (by first | exact At.mem | exact mA (by assumption)) (by rfl)) rfl ?_
  refine XF.r hs rfl (q_loadW (n := 4) rfl (by kernel_rfl) (by first | exact At.mem | exact mA (by assumption)) (by rfl)) rfl ?_
  refine XF.callV rfl (aS rfl a0) (by kernel_rfl) (name_spec vo t _ (hvo.mono fun _ h => mA h) ht (mA h4)) rfl ?_
  refine XF.tl rfl rfl rfl (OpQ.opL (q_lookT (kt := 9) (et := 3) rfl rfl (by kernel_rfl) (by kernel_rfl) (fun _ => by rfl) At.mem) rfl ?_)
  refine XF.q hs rfl (q_move rfl) rfl ?_
  refine XF.q hs rfl (q_x0 rfl) rfl ?_
  refine XF.q hs rfl (q_x1 rfl) rfl ?_
  refine XF.q hs rfl (q_assign rfl) rfl ?_
  refine XF.q hs rfl (q_assign rfl) rfl ?_
  refine XF.fin (kp 0 rfl (kp 3 rfl (kp 5 rfl (kp 6 rfl kn)))) ?_
  refine XC.join (α := Mem) (fun _ => [(5, .int .i64 ((at_ ts t : Nat) : Int))]) (fun M => M) (fun _ => []) (fun M => Tab bt bm (add ts t) M) ?_ ?_
  ·
    refine XC.reg ?_
    refine XL.q (q_move rfl) rfl ?_
    refine XL.q (q_not rfl) rfl ?_
    refine XL.fin (kp 0 rfl (kp 3 rfl (kp 5 rfl (kp 20 rfl kn)))) ?_
    refine XC.cond rfl (fun hc => ?_) (fun hc => ?_)
    ·
      have hnm : pos ts t = none := by
        cases hp : pos ts t with
        | none => rfl
        | some j => rw [hks] at hc; rw [show lookK (key t) (ts.map key) 0 = some j from hp] at hc; cases hc
      have hnk : lookK (key t) ks 0 = none := by rw [hks]; exact hnm
      have hkl : ks.length = ts.length := by rw [hks, List.length_map]
      refine XC.reg ?_
      refine XL.q (q_move rfl) rfl ?_
      refine XL.q (q_nil rfl) rfl ?_
      refine XL.q (q_fieldAddrN 0 (off := 0) rfl (by kernel_rfl) rfl) rfl ?_
      refine XL.q (q_load rfl (by kernel_rfl) (by first | exact At.mem | exact mA (by assumption)) (by rfl)) rfl ?_
      refine XL.q (q_lenV2 (sz := 4) rfl (by kernel_rfl) (hsl.rd (R := Bl) fun _ h => h)) rfl ?_
      refine XL.q (q_assign rfl) rfl ?_
      refine XL.fin (kp 0 rfl (kp 3 rfl (kp 5 rfl kn))) ?_
      refine XC.reg ?_
      refine XL.q (q_fieldAddrN 1 (off := 1) rfl (by kernel_rfl) rfl) rfl ?_
      refine XL.q (q_load rfl (by kernel_rfl) (by first | exact At.mem | exact mA (by assumption)) (by rfl)) rfl ?_
      refine XL.call (aS rfl a0) (by kernel_rfl) (cloneI_spec vo t.of.length (ints t.of) _ (hvo.mono fun _ h => mA h) (ints_one' _) (by have := ht.ofl; omega)) rfl ?_
      rintro v28 M28 J28 ⟨rfl, hv28⟩
      haveI := hv28.cel
      refine XL.q (q_fieldAddrN 1 (off := 1) rfl (by kernel_rfl) rfl) rfl ?_
      refine XL.lo rfl (l_store rfl rfl hv28.one (by kernel_rfl) SetC.set UpC.upd ?_)
      refine XL.fin (kp 0 rfl (kp 3 rfl (kp 5 rfl kn))) ?_
      refine XC.drawK1 (Bl) (_) true [0, 1, 2, 3, 4, 5, 6, 7, 8, 9, 10, 11, 12, 13, 14, 15, 16, 19] [(0, 0), (1, 0), (2, 0), (3, 0), (4, 1), (5, 1), (7, 0), (8, 0), (9, 0), (10, 1), (11, 1), (14, 0), (6, 3), (12, 4), (13, 2), (15, 0), (16, 0), (17, 2), (18, 2), (19, 0), (20, 2)] (by kernel_rfl) (by kernel_rfl) PickC.perm fun hs K n0 hKm hKs hKn => ?_
      refine XK.q hs rfl (q_move rfl) rfl ?_
      refine XK.q hs rfl (q_move rfl) rfl ?_
      refine XK.q hs rfl (q_nil rfl) rfl ?_
      refine XK.q hs rfl (q_fieldAddrN 1 (off := 1) rfl (by kernel_rfl) rfl) rfl ?_
      refine XK.r hs rfl (fun x hx => by rw [List.append_assoc]; exact List.mem_append_right _ hx) hKs (q_load rfl (by kernel_rfl) (by first | exact At.mem | exact mA (by assumption)) (by rfl)) rfl ?_
      refine XK.r hs rfl (fun x hx => by rw [List.append_assoc]; exact List.mem_append_right _ hx) hKs (q_loadW (n := 4) rfl (by kernel_rfl) (by first | exact At.mem | exact mA (by assumption)) (by rfl)) rfl ?_
      refine XK.q hs rfl (q_move rfl) rfl ?_
      refine XK.q hs rfl (q_nil rfl) rfl ?_
      refine XK.q hs rfl (q_fieldAddrN 0 (off := 0) rfl (by kernel_rfl) rfl) rfl ?_
      refine XK.r hs rfl (fun x hx => by rw [List.append_assoc]; exact List.mem_append_right _ hx) hKs (q_load rfl (by kernel_rfl) (by first | exact At.mem | exact mA (by assumption)) (by rfl)) rfl ?_
      refine XK.r hs rfl (fun x hx => by rw [List.append_assoc]; exact List.mem_append_right _ hx) hKs (q_loadW (n := 4) rfl (by kernel_rfl) (by first | exact At.mem | exact mA (by assumption)) (by rfl)) rfl ?_
      refine XK.q hs rfl (q_move rfl) rfl ?_
      refine XK.group [⟨6, 36, fun v _ => v = .string (key t)⟩, ⟨12, 42, fun v R => ∃ b, v = .slice (some ⟨b, 0, none⟩) 1 1 ∧ (b, Obj.cells (tmc t.kind v28 t.text t.n).toArray 41 (0, 0)) ∈ R⟩]
        (allS growsEq (allS growsLitT (all0))) (show List.Nodup [36, 42] by decide) (show List.Nodup [6, 12] by decide) (allS (blt_lt rfl) (allS (blt_lt rfl) (all0)))
        (allS ⟨_, rfl, fun vs R w hb ha => ⟨.inl rfl, ?_⟩⟩ (allS ⟨_, rfl, fun vs R w hb ha => ⟨.inl rfl, ?_⟩⟩ (all0))) ?_
      ·
        exact l_callV (aS rfl a0) (by kernel_rfl) (name_spec v28 t _ (hv28.mono fun _ h => hb _ (by simp [h])) ht (hb _ (mA h4))) rfl ⟨_, rfl, rfl⟩
      ·
        exact l_buildSlice (e := 41) (sz := 4) (z := [.int .u8 0, .slice none 0 0, .string ByteArray.empty, .int .i64 0]) (by kernel_rfl) (eS rfl e0) (.cons rfl rfl (by rfl) (SetR.all (by rfl)) .nil) rfl fun b => ⟨_, rfl, b, rfl, List.mem_append_left _ List.mem_cons_self⟩
      intro vs Jn0 hφ
      have g6 := ofH hφ
      dsimp only at g6
      replace hφ := ofT hφ
      have g12 := ofH hφ
      dsimp only at g12
      clear hφ
      dsimp only [gEnv, List.map, List.cons_append, List.nil_append]
      generalize vs 6 = u36 at *
      generalize vs 12 = u42 at *
      subst g6
      obtain ⟨b42, rfl, hb42⟩ := g12
      have hl42 := Rd.whole (sz := 4) (n := 1) hb42 (by rfl)
      refine XK.lo _ _ rfl rfl (List.Perm.refl _) hKm fun w0 => (l_append2 (e := 41) (sz := 4) (by_ := 56) rfl rfl (by kernel_rfl) rfl hsl (hl42.mono fun x hx => by simpa only [List.append_assoc, List.nil_append, List.append_nil] using hx) (by intro c hc; simp only [List.mem_cons, List.not_mem_nil, or_false] at hc; rcases hc with rfl | rfl | rfl | rfl <;> first | rfl | exact hv28.one) (by rw [List.append_nil]) (by unfold maxLen; omega) (by omega) rfl fun v43 B43 hs43 => fun _ => ?_)
      refine XK.q hs rfl (q_nil rfl) rfl ?_
      refine XK.q hs rfl (q_fieldAddrN 0 (off := 0) rfl (by kernel_rfl) rfl) rfl ?_
      refine XK.tl rfl rfl rfl (l_store rfl rfl hs43.one (by kernel_rfl) SetC.set UpC.upd ?_)
      refine XK.tl rfl rfl rfl (l_mapEntry (kt := 9) (et := 3) rfl rfl (by kernel_rfl) (by kernel_rfl) (fun _ => by rfl) hnk rfl UpC.upd ?_)
      refine XK.q hs rfl (q_x1 rfl) rfl ?_
      refine XK.tl rfl rfl rfl (l_entryStore (ks := ks) (s := key t) rfl (by rfl) (by rfl) UpC.upd ?_)
      refine XK.nil ?_
      have hat_ : at_ ts t = ks.length := by unfold at_; rw [hnm, hkl]; rfl
      have hadd : add ts t = ts ++ [t] := by unfold add; rw [hnm]; rfl
      refine jn (_ :: _ :: (B43 ++ (M28 ++ BX))) ⟨v43, rows ++ [tmc t.kind v28 t.text t.n], ks ++ [key t], B43, M28 ++ BX, rfl, by rw [hadd, hks]; simp, (by rw [show (rows ++ [tmc t.kind v28 t.text t.n]).flatten = rows.flatten ++ tmc t.kind v28 t.text t.n by simp, List.length_append]; exact hs43), by simp [hrl], ?_, ?_, ?_, ?_⟩ (kp 5 (by rw [hat_]; rfl) kn) ?_ (fun _ h => by cases h)
      · intro r hr
        rcases List.mem_append.1 hr with hr | hr
        · exact hr4 r hr
        · rw [List.mem_singleton.1 hr]; rfl
      · intro j u hj
        rw [hadd] at hj
        by_cases hlt : j < ts.length
        · rw [List.getElem?_append_left hlt] at hj
          obtain ⟨r, hr, hcr⟩ := hat j u hj
          exact ⟨r, by rw [List.getElem?_append_left (by omega)]; exact hr, hcr.mono fun x hx => List.mem_append_right _ hx⟩
        · rw [List.getElem?_append_right (by omega)] at hj
          have hj0 : j = ts.length := by
            have := (List.getElem?_eq_some_iff.1 hj).1
            simp at this; omega
          subst hj0
          simp at hj
          subst hj
          exact ⟨_, by rw [List.getElem?_append_right (by omega), show ts.length - rows.length = 0 by omega]; rfl, v28, rfl, hv28.mono fun x hx => List.mem_append_left _ hx⟩
      · intro u hu
        rw [hadd] at hu
        rcases List.mem_append.1 hu with hu | hu
        · exact hto u hu
        · rw [List.mem_singleton.1 hu]; exact ht
      · rw [hadd, List.nodup_append]
        refine ⟨hnd, by simp, fun x hx y hy e => (pos_none ht hto).1 hnm ?_⟩
        rw [List.mem_singleton.1 hy] at e
        exact e ▸ hx
      · rw [List.length_append]; exact fit_put
    ·
      have hsm : (pos ts t).isSome = true := by
        cases hp : pos ts t with
        | some j => rfl
        | none => rw [hks] at hc; rw [show lookK (key t) (ts.map key) 0 = none from hp] at hc; cases hc
      refine XC.skip ?_
      have hpl : lookK (key t) ks 0 = pos ts t := by rw [hks]; rfl
      have hadd : add ts t = ts := by unfold add; rw [hsm]; rfl
      refine jn _ ⟨v, rows, ks, Bl, BX, rfl, by rw [hadd, hks], hsl, hrl, hr4, by rw [hadd]; exact hat, by rw [hadd]; exact hto, by rw [hadd]; exact hnd⟩ (kp 5 (by rw [hpl]; unfold at_; cases hq : pos ts t with | none => rw [hq] at hsm; cases hsm | some j => rfl) kn) (Fit.sub (.cons _ (List.Sublist.refl _))) (fun _ h => h)
  ·
    rintro M hM
    refine XC.reg ?_
    refine XL.q (q_move rfl) rfl ?_
    refine XL.q (q_assign rfl) rfl ?_
    refine XL.fin (kp 4 rfl kn) ?_
    refine XC.ret ?_
    exact ⟨_, _, _, res1 rfl rfl, List.Sublist.refl _, fun _ h => h, rfl, rfl, hM⟩
