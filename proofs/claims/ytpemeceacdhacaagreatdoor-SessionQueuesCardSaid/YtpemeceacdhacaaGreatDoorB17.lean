/- The card of the law SessionQueues: it returns true for every input; each argument reads behind the call as it read before; the listed package variables are tied to the program's text. No further condition. -/
import Derived.Test.YtpemeceacdhacaaGreatDoorB16
import Derived.Lib.LaidTab
import Derived.Stop.LaidErr
import Derived.MakeChecks
import Derived.Test.YtpemeceacdhacaaGreatDoorCards
import Derived.Test.YtpemeceacdhacaaGreatDoorTie
import Derived.Deep.DeepHandedRow
import Derived.Deep.DeepWitnessRowRef
import Derived.Lay
import Derived.LaidMore
set_option linter.unusedVariables false
set_option linter.unusedSimpArgs false
set_option maxRecDepth 100000
namespace Go.Proofs.YtpemeceacdhacaaGreatDoor
open Go.Px
structure QI (R : Mem) (qb : Nat) (L : List (Nat × Nat)) (vm : Value) (M : Mem) : Prop where
  que : Que R qb L M
  vm : By R vm (L.map (·.1))
  nd : (L.map (·.1)).Nodup
  lt : ∀ y ∈ L, y.1 < 7
  ll : L.length ≤ 4
theorem B1a {x y : Nat × Nat} {L : List (Nat × Nat)} (h : y ∈ quL x L) : y = x ∨ y ∈ L := by
  rcases List.mem_cons.1 (List.mem_of_mem_take h) with h | h
  · exact .inl h
  · exact .inr (List.mem_filter.1 h).1
theorem B2H {id : Nat} {m : LN} (h1 : id < 7) (h2 : ∀ x ∈ m, x < 7) : ∀ x ∈ quN id m, x < 7 := by
  intro x hx
  rcases List.mem_cons.1 (List.mem_of_mem_take hx) with rfl | h
  · exact h1
  · exact h2 x (List.mem_filter.1 h).1
theorem A8V (x : Nat × Nat) (L : List (Nat × Nat)) : (quL x L)[0]? = some x := rfl
theorem A7u {i : Nat} (h : i < 256) : IntKind.u8.wrap ((i : Nat) : Int) = ((i : Nat) : Int) := by
  unfold IntKind.wrap
  simp [IntKind.signed, IntKind.bits]
  omega
theorem B1b {l : LN} {k : Nat} (h : k < l.length) : l[k]? = some (l.getD k 0) := by
  rw [List.getD_eq_getElem?_getD, List.getElem?_eq_getElem h]; rfl
set_option maxHeartbeats 4000000 in
theorem A1I (v : Value) (ids : LN) (A : Mem) (hx : Byi A v ids) (hG : Glb A) : FnV Tryz.prog 3 [v] A (.bool true) := by
 haveI := hx.cel
 have hxl := hx.len
 unfold maxLen at hxl
 refine FnX.enter (N := 201) Tryz.func3 rfl rfl rfl fun w_ => ?_
 refine A7 (C9 0) (A1 (as_ (A0 (C9 0) (A6 (A1 ?_)))))
 refine D6 a0 kR (A3j _ hG.up) rfl ?_
 refine A3 (P2 rfl) rfl ?_
 refine mv_ ?_
 refine C6 rfl rfl (OpQ.opL qm_ rfl ?_)
 refine C6 rfl rfl (OpQ.opL (E5 (sz := 1) rfl kR hx.rd) rfl ?_)
 refine C6 rfl rfl (OpQ.opL (E9 rfl rfl rfl) rfl ?_)
 refine A3 (D1 rfl rfl) rfl ?_
 refine A0 (C7 0 28) ?_
 refine C1 rfl ?_ ?_ <;> intro hc
 ·
  refine A1 ?_
  refine D6 a0 kR (A3j _ hG.up) rfl ?_
  refine as_ (A0 (C9 2) (A8 (tr ?_)))
  exact ⟨_, [], [], G5 rfl rfl, List.nil_sublist _, by simp, rfl, rfl, rfl⟩
 ·
  have h40 : ids.length ≤ 40 := by simp [G4] at hc; omega
  refine A5 (nx (C9 0) (A1 ?_))
  refine A3 (D7 (place := fun x => #[(0, 1)][x]?) (z := [vS]) (fun _ => by kernel_rfl) e0 bd0) rfl ?_
  refine A4 rfl (bx_ fun b31 => ?_)
  refine as_ (A0 (C7 0 3) (A1 (as_ (A0 (E0 0 3 4) (A6 (A1 (as_ ?_)))))))
  refine A0 (F2 0 3 4 5) (C3 ?_)
  refine H1 (α := Nat × List (Nat × Nat) × Value × Mem × Mem) (fun y => [(0, v), (3, (vP b31)), (4, y.2.2.1), (5, (vI y.1))]) (fun y => y.2.2.2.1) (fun y => y.2.2.2.2) (fun y => y.1 ≤ ids.length ∧ QI (y.2.2.2.2 ++ A) b31 y.2.1 y.2.2.1 y.2.2.2.1) (fun y => ids.length - y.1) (0, [], vS, [(b31, blk [vS] 27)], []) ⟨Nat.zero_le _, ⟨⟨_, [], [], rfl, Sl.nil, RwL.nil⟩, By.nil, List.nodup_nil, (fun y hy => by cases hy), Nat.zero_le _⟩⟩ (F2 0 3 4 5) (Fit.last qP) (fun _ h => by cases h) ?_
  rintro ⟨i, L, vm, Mi, Ji⟩ ⟨hi, hI⟩
  dsimp only at hi hI ⊢
  haveI := hI.vm.cel
  refine A6 (A1 (mv_ (mv_ ?_)))
  refine A3 (E5 (sz := 1) rfl kR hx.rd) rfl ?_
  refine A3 (E9 rfl rfl rfl) rfl ?_
  refine A0 (H5 0 3 4 5 35) ?_
  refine C1 rfl ?_ ?_ <;> intro hc
  ·
   have hlt : i < ids.length := by simp [G4] at hc; omega
   refine A5 (nx (F2 0 3 4 5) (A6 (C3 (A1 (mv_ (mv_ ?_))))))
   refine A3 (F1 (sz := 1) (a := i) rfl rfl kR rfl hx.rd hlt) rfl ?_
   refine A3 (S2 (k := .u8) rfl kR (hx.rd.mono qS) hlt) rfl ?_
   refine A3 (Y8 (a := ids.getD i 0) (b := 7) rfl rfl rfl rfl qD) rfl ?_
   obtain ⟨id_, hid⟩ : ∃ z, ids.getD i 0 % 7 = z := ⟨_, rfl⟩
   have hid7 : id_ < 7 := by omega
   rw [hid]
   have hmlt : ∀ x ∈ (L.map (·.1)), x < 7 := fun x hx => by obtain ⟨y, hy, rfl⟩ := List.mem_map.1 hx; exact hI.lt y hy
   have hml : (L.map (·.1)).length ≤ 4 := by rw [List.length_map]; exact hI.ll
   refine as_ (A0 (H5 0 3 4 5 6) (A1 (as_ (A0 (I8 0 3 4 5 6 7) (A1 (mv_ (mv_ ?_)))))))
   refine A4 rfl (C0 (e := 5) (sz := 1) (z := [.int .u8 0]) kR (eS rfl e0) (bdS 0 1 rfl qR bd0) rfl fun b45 => ?_)
   refine A4 rfl (F9 (e := 5) (sz := 1) (by_ := 1) rfl rfl kR rfl Sl.nil (Rd.whole (n := 1) At.mem qR) (by intro c hc; rw [List.mem_singleton.1 hc]; rfl) qP (by unfold maxLen; omega) qO rfl fun v46 B46 hs46 => ?_)
   haveI := hs46.cel
   refine as_ (A0 (I8 0 3 4 5 6 7) (A6 (A1 (as_ (A0 (R8 0 3 4 5 6 7 8) (C3 ?_))))))
   refine H1 (α := Nat × Value × Mem) (fun y => [(0, v), (3, (vP b31)), (4, vm), (5, (vI i)), (6, .int .u8 ((id_ : Nat) : Int)), (7, y.2.1), (8, (vI y.1))]) (fun y => y.2.2 ++ Mi) (fun _ => Ji) (fun y => y.1 ≤ (L.map (·.1)).length ∧ Sl 1 y.2.1 (quN id_ ((L.map (·.1)).take y.1)).length (I2 .u8 (quN id_ ((L.map (·.1)).take y.1))) y.2.2) (fun y => (L.map (·.1)).length - y.1) (0, v46, B46) ⟨Nat.zero_le _, Sl.castQ hs46 rfl rfl⟩ (R8 0 3 4 5 6 7 8) (Fit.pick qP (Fit.last qP)) qI ?_
   rintro ⟨k, vn, Bn⟩ ⟨hk, hsn⟩
   dsimp only at hk hsn ⊢
   haveI := hsn.cel
   have hnl := (B03 id_ ((L.map (·.1)).take k)).1
   refine A6 (A1 (mv_ (mv_ ?_)))
   refine A3 (E5 (sz := 1) rfl kR hI.vm.rd) rfl ?_
   refine A3 (E9 rfl rfl rfl) rfl ?_
   refine A0 (A0e 0 3 4 5 6 7 8 50) ?_
   refine C1 rfl ?_ ?_ <;> intro hc
   ·
    have hkl : k < (L.map (·.1)).length := by have := of_decide_eq_true hc; omega
    have hst := A8O (id := id_) (B1b hkl)
    obtain ⟨x, hxe⟩ : ∃ z, (L.map (·.1)).getD k 0 = z := ⟨_, rfl⟩
    rw [hxe] at hst
    refine A5 (nx (R8 0 3 4 5 6 7 8) (A6 (C3 (A1 (mv_ (mv_ ?_))))))
    refine A3 (F1 (sz := 1) (a := k) rfl rfl kR rfl hI.vm.rd hkl) rfl ?_
    refine A3 (S2 (k := .u8) rfl kR (hI.vm.rd.mono qS) hkl) rfl ?_
    rw [hxe]
    refine mv_ ?_
    refine A3 (E9 rfl rfl rfl) rfl ?_
    refine mv_ ?_
    refine P8 (t := 59) rfl (fun hb => ?_) (fun hb => ?_)
    ·
     have hne : x ≠ id_ := by have h := bne_iff_ne.1 hb; omega
     refine C6 rfl rfl (OpQ.opL qm_ rfl ?_)
     refine C6 rfl rfl (OpQ.opL (E5 (sz := 1) rfl kR (hsn.rd (R := Bn) fun _ h => h)) rfl ?_)
     refine C6 rfl rfl (OpQ.opL (E9 rfl rfl rfl) rfl ?_)
     refine A3 (E6 rfl rfl) rfl ?_
     refine A0 (A0e 0 3 4 5 6 7 8 63) ?_
     refine C1 rfl ?_ ?_ <;> intro hc
     ·
      have h4 : (quN id_ ((L.map (·.1)).take k)).length < 4 := by simp [G4] at hc; omega
      rw [if_pos ⟨hne, h4⟩] at hst
      refine C8 (mv_ (mv_ (mv_ ?_)))
      refine A3 (F1 (sz := 1) (a := k) rfl rfl kR rfl hI.vm.rd hkl) rfl ?_
      refine A3 (S2 (k := .u8) rfl kR (hI.vm.rd.mono qS) hkl) rfl ?_
      rw [hxe]
      refine A4 rfl (C0 (e := 5) (sz := 1) (z := [.int .u8 0]) kR (eS rfl e0) (bdS 0 1 rfl qR bd0) rfl fun b69 => ?_)
      refine A4 rfl (F9 (e := 5) (sz := 1) (by_ := 1) rfl rfl kR rfl hsn (Rd.whole (n := 1) At.mem qR) (by intro c hc; rw [List.mem_singleton.1 hc]; rfl) qP (by unfold maxLen; omega) qO rfl fun v70 B70 hs70 => ?_)
      haveI := hs70.cel
      refine as_ (E3 (nb (nx (R8 0 3 4 5 6 7 8) (C8 (mv_ ?_)))))
      refine A3 (K7 ((k + 1 : Nat) : Int) rfl rfl (T4 qO qO qO)) rfl ?_
      refine as_ (E3 ?_)
      exact rn (k + 1, v70, B70) ⟨hkl, Sl.castQ hs70 (by rw [hst, List.length_append]; rfl) (by rw [hst, Z6]; rfl)⟩ (by dsimp only; omega) (R8 0 3 4 5 6 7 8) (Fit.pick qP (Fit.last qP)) qI
     ·
      have h4 : ¬ (x ≠ id_ ∧ (quN id_ ((L.map (·.1)).take k)).length < 4) := by simp [G4] at hc; omega
      rw [if_neg h4] at hst
      refine A5 (nb (nx (R8 0 3 4 5 6 7 8) (C8 (mv_ ?_))))
      refine A3 (K7 ((k + 1 : Nat) : Int) rfl rfl (T4 qO qO qO)) rfl ?_
      refine as_ (E3 ?_)
      exact rn (k + 1, vn, Bn) ⟨hkl, by rw [hst]; exact hsn⟩ (by dsimp only; omega) (R8 0 3 4 5 6 7 8) .rfl qI
    ·
     have hne : ¬ x ≠ id_ := by have h := bne_eq_false_iff_eq.1 hb; omega
     refine H2 rfl rfl rfl rfl ?_
     refine H2 rfl rfl rfl rfl ?_
     refine H2 rfl rfl rfl rfl ?_
     refine A3 (D1 rfl rfl) rfl ?_
     refine A0 (A0e 0 3 4 5 6 7 8 63) ?_
     refine B0 rfl ?_
     refine A5 (nb (nx (R8 0 3 4 5 6 7 8) (C8 (mv_ ?_))))
     refine A3 (K7 ((k + 1 : Nat) : Int) rfl rfl (T4 qO qO qO)) rfl ?_
     refine as_ (E3 ?_)
     exact rn (k + 1, vn, Bn) ⟨hkl, by rw [hst, if_neg (fun h => hne h.1)]; exact hsn⟩ (by dsimp only; omega) (R8 0 3 4 5 6 7 8) .rfl qI
   ·
    obtain rfl : k = (L.map (·.1)).length := by have := of_decide_eq_false hc; omega
    rw [List.take_length] at hsn hnl
    have hby : By (Bn ++ (Ji ++ A)) vn (quN id_ (L.map (·.1))) := ⟨hsn.rd qS, (fun x hx => Nat.lt_trans (B2H hid7 hmlt x hx) qD), Nat.le_trans hnl qD⟩
    refine H0 (te (re (be rfl (nx (H5 0 3 5 6 7) (A1 (mv_ (as_ (A0 (H5 0 3 4 5 6) ?_))))))))
    refine V7 (B := Bn) qP ?_
    refine A1 (mv_ (mv_ ?_))
    refine A4 rfl (C0 (e := 5) (sz := 1) (z := [.int .u8 0]) kR (eS rfl e0) (bdS 0 1 rfl qR bd0) rfl fun b74 => ?_)
    refine mv_ ?_
    refine A3 (W2 (k' := .u8) ((i : Nat) : Int) rfl kR (A7u qO)) rfl ?_
    refine A4 rfl (C0 (e := 5) (sz := 1) (z := [.int .u8 0]) kR (eS rfl e0) (bdS 0 1 rfl qR bd0) rfl fun b77 => ?_)
    refine A1t (B := [_]) (PickC.sing).perm ?_
    refine A1t (B := [_]) (PickC.sing).perm ?_
    refine A3 (D7 (place := fun x => #[(0, 1), (1, 1), (2, 6), (8, 1), (9, 9)][x]?) (z := [vS, vS, vS, vS, vS, D3, .bool false, D3, .bool false, vS, vS, vS, vS, D3, vS, D3, D3, .pointer none]) (fun _ => by kernel_rfl) (eS rfl (eS rfl e0)) (bdS 0 1 rfl qR (bdS 1 1 rfl qR bd0))) rfl ?_
    refine A4 rfl (B3 (Mc := Mi) (R := _) (aS rfl (aS rfl a0)) kR qP (qPut b31 (.slice (some ⟨b74, 0, none⟩) 1 1) (.slice (some ⟨b77, 0, none⟩) 1 1) (id_, i) L ((b74, blk [.int .u8 ((id_ : Nat) : Int)] 5) :: (b77, blk [.int .u8 ((i : Nat) : Int)] 5) :: (Bn ++ (Ji ++ A))) Mi _ (hI.que.mono qS) qS (Nat.le_trans hI.ll qD) ⟨Rd.whole (n := 1) qK qR, (by intro x hx; rw [List.mem_singleton.1 hx]; show id_ < 256; omega), (show 1 ≤ 16777216 by decide)⟩ ⟨Rd.whole (n := 1) (List.mem_cons_of_mem _ qK) qR, (by intro x hx; rw [List.mem_singleton.1 hx]; show i < 256; omega), (show 1 ≤ 16777216 by decide)⟩) rfl ?_)
    rintro v79 M79 J79 ⟨rfl, hQ79⟩
    rw [B2D hI.nd] at hQ79
    have hfst := B02 (id_, i) L
    have hnd2 : ((quL (id_, i) L).map (·.1)).Nodup := by rw [hfst]; exact A7h hI.nd
    have hlt2 : ∀ y ∈ quL (id_, i) L, y.1 < 7 := fun y hy => by rcases B1a hy with rfl | h; exact hid7; exact hI.lt y h
    have hl2 : (quL (id_, i) L).length = (quN id_ (L.map (·.1))).length := by rw [← hfst, List.length_map]
    have hh2 := A8V (id_, i) L
    generalize quL (id_, i) L = L2 at *
    dsimp only at hfst
    rw [← hfst] at hby hl2 hnl
    obtain ⟨vq, rows, B, rfl, hsl, hrw⟩ := hQ79.ex
    haveI := hsl.cel
    have hl24 : L2.length ≤ 4 := by omega
    refine A0 (H5 0 3 4 5 6) (A1 (mv_ ?_))
    refine E4 (aS rfl a0) kR (B06 b31 vq rows L2 (id_, i) _ qM (hsl.rd qS) (hrw.mono quT qS) qO hh2) rfl ?_
    rintro v82 M82 J82 ⟨rfl, rfl, wi, ww, rfl, hwi, hww⟩
    haveI := hwi.cel
    haveI := hww.cel
    refine mv_ ?_
    refine A3 (U6 rfl) rfl ?_
    refine A3 (U0 rfl) rfl ?_
    refine A4 rfl (C5 (cs := [vS, vS, vS, vS, vS, D3, .bool false, D3, .bool false, vS, vS, vS, vS, D3, vS, D3, D3, .pointer none]) kR rfl fun b9 => ?_)
    refine A4 rfl (A9 (vs := [wi, ww, vS, vS, vS, .int .u32 0, .bool false, .int .u32 0, .bool false, vS, vS, vS, vS, .int .u32 0, vS, .int .u32 0, .int .u32 0, .pointer none]) rfl rfl rfl kR qR (A2 hwi.one (A2 hww.one B2J)) UpC.upd ?_)
    refine as_ (A0 (R8 0 3 4 5 6 9 10) (A1 (mv_ ?_)))
    refine E4 (aS rfl a0) kR (qAll b31 vq rows L2 _ qM (hsl.rd qS) (hrw.mono quT qS) qO) rfl ?_
    rintro v86 M86 J86 hs86
    haveI := hs86.cel
    refine as_ (A0 (A0e 0 3 4 5 6 9 10 11) (A6 (A1 (mv_ ?_))))
    refine A3 (P2 rfl) rfl ?_
    refine mv_ ?_
    refine C6 rfl rfl (OpQ.opL (qf_ 0 0) rfl ?_)
    refine C6 rfl rfl (OpQ.opL ql_ rfl ?_)
    refine C6 rfl rfl (OpQ.opL (F1 (sz := 1) (a := 0) rfl rfl kR rfl hwi.rd Nat.zero_lt_one) rfl ?_)
    refine C6 rfl rfl (OpQ.opL (S2 (k := .u8) rfl kR (hwi.rd.mono qS) Nat.zero_lt_one) rfl ?_)
    refine C6 rfl rfl (OpQ.opL qm_ rfl ?_)
    refine C6 rfl rfl (OpQ.opL (E7 false rfl rfl (neF rfl)) rfl ?_)
    refine A3 (D1 rfl rfl) rfl ?_
    refine mv_ ?_
    refine C6 rfl rfl (OpQ.opL (qf_ 1 1) rfl ?_)
    refine C6 rfl rfl (OpQ.opL ql_ rfl ?_)
    refine C6 rfl rfl (OpQ.opL (F1 (sz := 1) (a := 0) rfl rfl kR rfl hww.rd Nat.zero_lt_one) rfl ?_)
    refine C6 rfl rfl (OpQ.opL (S2 (k := .u8) rfl kR (hww.rd.mono qS) Nat.zero_lt_one) rfl ?_)
    refine C6 rfl rfl (OpQ.opL qm_ rfl ?_)
    refine C6 rfl rfl (OpQ.opL (W2 (k' := .u8) ((i : Nat) : Int) rfl kR (A7u qO)) rfl ?_)
    refine C6 rfl rfl (OpQ.opL (E7 false rfl rfl (neF rfl)) rfl ?_)
    refine A3 (D1 rfl rfl) rfl ?_
    refine mv_ ?_
    refine C6 rfl rfl (OpQ.opL qm_ rfl ?_)
    refine C6 rfl rfl (OpQ.opL (E5 (sz := 18) rfl kR (hs86.rd (R := M86) fun _ h => h)) rfl ?_)
    refine C6 rfl rfl (OpQ.opL qm_ rfl ?_)
    refine C6 rfl rfl (OpQ.opL (E5 (sz := 1) rfl kR hby.rd) rfl ?_)
    rw [← hl2]
    refine C6 rfl rfl (OpQ.opL (E7 false rfl rfl (neF rfl)) rfl ?_)
    refine A3 (D1 rfl rfl) rfl ?_
    refine mv_ ?_
    refine C6 rfl rfl (OpQ.opL qm_ rfl ?_)
    refine A0j rfl rfl (aS rfl a0) kR (qLen b31 vq rows L2 _ qM (hsl.rd qS)) rfl ?_
    refine C6 rfl rfl (OpQ.opL qm_ rfl ?_)
    refine C6 rfl rfl (OpQ.opL (E5 (sz := 1) rfl kR hby.rd) rfl ?_)
    rw [← hl2]
    refine C6 rfl rfl (OpQ.opL (E7 false rfl rfl (neF rfl)) rfl ?_)
    refine A3 (D1 rfl rfl) rfl ?_
    refine A0 (I8 0 3 4 5 11 119) ?_
    refine B0 rfl ?_
    refine A5 (nx (H5 0 3 4 5 11) (A1 (as_ (A0 (I8 0 3 4 5 11 12) (C3 ?_)))))
    refine H1 (α := Nat) (fun k => [(0, v), (3, (vP b31)), (4, vn), (5, (vI i)), (11, v86), (12, (vI k))]) (fun _ => (b31, blk [vq] 27) :: (B ++ M86)) (fun _ => J86 ++ (J79 ++ ((b74, blk [.int .u8 ((id_ : Nat) : Int)] 5) :: (b77, blk [.int .u8 ((i : Nat) : Int)] 5) :: (Bn ++ Ji)))) (fun k => k ≤ L2.length) (fun k => L2.length - k) 0 (Nat.zero_le _) (I8 0 3 4 5 11 12) (Fit.pick (B := [_]) qP (Fit.pick qP (Fit.last qP))) (fun _ h => by simpa using h) ?_
    rintro k hk
    refine A6 (A1 (mv_ (mv_ ?_)))
    refine A3 (E5 (sz := 1) rfl kR hby.rd) rfl ?_
    rw [← hl2]
    refine A3 (E9 rfl rfl rfl) rfl ?_
    refine A0 (R8 0 3 4 5 11 12 123) ?_
    refine C1 rfl ?_ ?_ <;> intro hc
    ·
     have hkl : k < L2.length := by simp [G4] at hc; omega
     obtain ⟨y, hy⟩ : ∃ y, L2[k]? = some y := ⟨_, List.getElem?_eq_getElem hkl⟩
     have hxe : (L2.map (·.1)).getD k 0 = y.1 := by rw [List.getD_eq_getElem?_getD, List.getElem?_map, hy]; rfl
     have hkm : k < (L2.map (·.1)).length := by rw [List.length_map]; exact hkl
     have hy7 := hlt2 y (List.mem_of_getElem? hy)
     obtain ⟨r, hr, zi, zw, rfl, hzi, hzw⟩ := hrw.get k y hy
     haveI := hzi.cel
     haveI := hzw.cel
     refine A5 (nx (I8 0 3 4 5 11 12) (A6 (C3 (A1 (mv_ (mv_ (mv_ ?_)))))))
     refine A3 (F1 (sz := 1) (a := k) rfl rfl kR rfl hby.rd hkm) rfl ?_
     refine A3 (S2 (k := .u8) rfl kR (hby.rd.mono qS) hkm) rfl ?_
     rw [hxe]
     refine A4 rfl (C0 (e := 5) (sz := 1) (z := [.int .u8 0]) kR (eS rfl e0) (bdS 0 1 rfl qR bd0) rfl fun b132 => ?_)
     refine E4 (aS rfl (aS rfl a0)) kR (A7n b31 vq rows L2 (.slice (some ⟨b132, 0, none⟩) 1 1) [y.1] k y _ qM (hsl.rd qS) (hrw.mono quT qS) qO ⟨Rd.whole (n := 1) qK qR, (by intro x hx; rw [List.mem_singleton.1 hx]; omega), (show 1 ≤ 16777216 by decide)⟩ (B05 hnd2 hy) hy) rfl ?_
     rintro v133 M133 J133 ⟨rfl, rfl, ui, uw, rfl, hui, huw⟩
     haveI := hui.cel
     haveI := huw.cel
     refine mv_ ?_
     refine A3 (U6 rfl) rfl ?_
     refine A3 (U0 rfl) rfl ?_
     refine A4 rfl (C5 (cs := [vS, vS, vS, vS, vS, D3, .bool false, D3, .bool false, vS, vS, vS, vS, D3, vS, D3, D3, .pointer none]) kR rfl fun b13 => ?_)
     refine A4 rfl (A9 (vs := [ui, uw, vS, vS, vS, .int .u32 0, .bool false, .int .u32 0, .bool false, vS, vS, vS, vS, .int .u32 0, vS, .int .u32 0, .int .u32 0, .pointer none]) rfl rfl rfl kR qR (A2 hui.one (A2 huw.one B2J)) UpC.upd ?_)
     refine as_ (A0 (A0e 0 3 4 5 11 12 13 14) ?_)
     refine F4 (.range 27) (zp 0 [0, 0, 0, 0, 0, 0, 0, 1, 0, 1, 0, 0, 0, 1, 0, 0, 0, 0, 1, 0, 1, 0, 0, 0, 1, 0, 0]) kR kR fun hs => ?_
     refine fm_ hs ?_
     refine D4 hs rfl (P2 rfl) rfl ?_
     refine fm_ hs ?_
     refine F7 hs rfl rfl rfl rfl qm_ rfl ?_
     refine F7 hs rfl rfl rfl rfl qm_ rfl ?_
     refine F7 hs rfl rfl rfl rfl (F1 (sz := 18) (a := k) rfl rfl kR rfl (hs86.rd (R := M86) fun _ h => h) hkl) rfl ?_
     refine F7 hs rfl rfl rfl rfl (A4k (off := 0) rfl (hs86.rd (R := M86) fun _ h => h) hkl kR) rfl ?_
     refine T5 hs rfl rfl rfl rfl (A4l (u := zi) rfl (hs86.rd qS) qO kR (by rw [W3 (hrw.lens quT) hr 0 qD]; rfl)) rfl ?_
     refine F7 hs rfl rfl rfl rfl (F1 (sz := 1) (a := 0) rfl rfl kR rfl hzi.rd Nat.zero_lt_one) rfl ?_
     refine T5 hs rfl rfl rfl rfl (S2 (k := .u8) rfl kR (hzi.rd.mono qS) Nat.zero_lt_one) rfl ?_
     refine F7 hs rfl rfl rfl rfl qm_ rfl ?_
     refine F7 hs rfl rfl rfl rfl qm_ rfl ?_
     refine F7 hs rfl rfl rfl rfl (F1 (sz := 1) (a := k) rfl rfl kR rfl hby.rd hkm) rfl ?_
     refine T5 hs rfl rfl rfl rfl (S2 (k := .u8) rfl kR (hby.rd.mono qS) hkm) rfl ?_
     rw [hxe]
     refine F7 hs rfl rfl rfl rfl (E7 false rfl rfl (neF rfl)) rfl ?_
     refine D4 hs rfl (D1 rfl rfl) rfl ?_
     refine fm_ hs ?_
     refine F7 hs rfl rfl rfl rfl (qf_ 0 0) rfl ?_
     refine T5 hs rfl rfl rfl rfl ql_ rfl ?_
     refine F7 hs rfl rfl rfl rfl (F1 (sz := 1) (a := 0) rfl rfl kR rfl hui.rd Nat.zero_lt_one) rfl ?_
     refine T5 hs rfl rfl rfl rfl (S2 (k := .u8) rfl kR (hui.rd.mono qS) Nat.zero_lt_one) rfl ?_
     refine F7 hs rfl rfl rfl rfl qm_ rfl ?_
     refine F7 hs rfl rfl rfl rfl qm_ rfl ?_
     refine F7 hs rfl rfl rfl rfl (F1 (sz := 1) (a := k) rfl rfl kR rfl hby.rd hkm) rfl ?_
     refine T5 hs rfl rfl rfl rfl (S2 (k := .u8) rfl kR (hby.rd.mono qS) hkm) rfl ?_
     rw [hxe]
     refine F7 hs rfl rfl rfl rfl (E7 false rfl rfl (neF rfl)) rfl ?_
     refine D4 hs rfl (D1 rfl rfl) rfl ?_
     refine G8 (R8 0 3 4 5 11 12 162) ?_
     refine B0 rfl ?_
     refine A5 (nb (nx (I8 0 3 4 5 11 12) (C8 (mv_ ?_))))
     refine A3 (K7 ((k + 1 : Nat) : Int) rfl rfl (T4 qO qO qO)) rfl ?_
     refine as_ (E3 ?_)
     exact rn (k + 1) hkl qO (I8 0 3 4 5 11 12) (Fit.pick (B := [_]) qP (Fit.pick qP (Fit.last qP))) qI
    ·
     obtain rfl : k = L2.length := by simp [G4] at hc; omega
     refine H0 (te (re (be rfl (nb (nx (F2 0 3 4 5) (C8 (mv_ ?_)))))))
     refine A3 (K7 ((i + 1 : Nat) : Int) rfl rfl (T4 qO qO qO)) rfl ?_
     refine as_ (E3 ?_)
     exact rn (i + 1, L2, vn, (b31, blk [vq] 27) :: B, _) ⟨hlt, ⟨⟨vq, rows, B, rfl, hsl, hrw.mono quT qS⟩, hby.mono qS, hnd2, hlt2, hl24⟩⟩ (by dsimp only; omega) (F2 0 3 4 5) (Fit.pick (B := [_]) qP (Fit.last qP)) qI
  ·
   obtain rfl : i = ids.length := by simp [G4] at hc; omega
   obtain ⟨vq, rows, B, rfl, hsl, hrw⟩ := hI.que.ex
   haveI := hsl.cel
   have hll := hI.ll
   refine H0 (te (re (be rfl (nx (C9 3) (A1 (mv_ ?_))))))
   refine A4 rfl (C0 (e := 5) (sz := 1) (z := [.int .u8 0]) kR (eS rfl e0) (bdS 0 1 rfl qR bd0) rfl fun b165 => ?_)
   refine E4 (aS rfl (aS rfl a0)) kR (A8R b31 vq rows L (.slice (some ⟨b165, 0, none⟩) 1 1) [9] _ qM (hsl.rd qS) (hrw.mono quT qS) qO ⟨Rd.whole (n := 1) qK qR, by decide, by decide⟩ (A8Q L fun y hy e => by have := hI.lt y hy; have e2 := (List.cons.inj e).1; omega)) rfl ?_
   rintro v166 M166 J166 ⟨rfl, rfl, rfl⟩
   refine mv_ ?_
   refine A3 (U6 rfl) rfl ?_
   refine A3 (U0 rfl) rfl ?_
   refine A4 rfl (C5 (cs := [vS, vS, vS, vS, vS, D3, .bool false, D3, .bool false, vS, vS, vS, vS, D3, vS, D3, D3, .pointer none]) kR rfl fun b15 => ?_)
   refine A4 rfl (A9 (vs := [vS, vS, vS, vS, vS, .int .u32 0, .bool false, .int .u32 0, .bool false, vS, vS, vS, vS, .int .u32 0, vS, .int .u32 0, .int .u32 0, .pointer none]) rfl rfl rfl kR qR A9S UpC.upd ?_)
   refine as_ (A0 (C9 16) (A1 (as_ (A0 (C7 16 17) (A1 (mv_ ?_))))))
   refine A3 (D7 (place := fun x => #[(0, 1), (1, 1), (2, 6), (8, 1), (9, 9)][x]?) (z := [vS, vS, vS, vS, vS, D3, .bool false, D3, .bool false, vS, vS, vS, vS, D3, vS, D3, D3, .pointer none]) (fun _ => by kernel_rfl) e0 bd0) rfl ?_
   refine E4 (aS rfl (aS rfl a0)) kR (B3I _) rfl ?_
   rintro v171 M171 J171 ⟨rfl, rfl⟩
   refine A0 (C7 16 17) (A1 (mv_ ?_))
   refine E4 (aS rfl a0) kR (A8S _) rfl ?_
   rintro v174 M174 J174 ⟨rfl, rfl, rfl⟩
   refine mv_ ?_
   refine A3 (U6 rfl) rfl ?_
   refine A3 (U0 rfl) rfl ?_
   refine A4 rfl (C5 (cs := [vS, vS, vS, vS, vS, D3, .bool false, D3, .bool false, vS, vS, vS, vS, D3, vS, D3, D3, .pointer none]) kR rfl fun b18 => ?_)
   refine A4 rfl (A9 (vs := [vS, vS, vS, vS, vS, .int .u32 0, .bool false, .int .u32 0, .bool false, vS, vS, vS, vS, .int .u32 0, vS, .int .u32 0, .int .u32 0, .pointer none]) rfl rfl rfl kR qR A9S UpC.upd ?_)
   refine as_ (A0 (E0 16 17 19) (A1 (mv_ ?_)))
   refine E4 (aS rfl (aS rfl a0)) kR (B2E (vS) [] _ By.nil) rfl ?_
   rintro v179 M179 J179 ⟨rfl, rfl, rfl⟩
   refine mv_ ?_
   refine A3 (U6 rfl) rfl ?_
   refine A3 (U0 rfl) rfl ?_
   refine A4 rfl (C5 (cs := [vS, vS, vS, vS, vS, D3, .bool false, D3, .bool false, vS, vS, vS, vS, D3, vS, D3, D3, .pointer none]) kR rfl fun b20 => ?_)
   refine A4 rfl (A9 (vs := [vS, vS, vS, vS, vS, .int .u32 0, .bool false, .int .u32 0, .bool false, vS, vS, vS, vS, .int .u32 0, vS, .int .u32 0, .int .u32 0, .pointer none]) rfl rfl rfl kR qR A9S UpC.upd ?_)
   refine as_ (A0 (F2 16 17 19 21) (A1 (mv_ ?_)))
   refine A3 (P2 rfl) rfl ?_
   refine mv_ ?_
   refine C6 rfl rfl (OpQ.opL qm_ rfl ?_)
   refine C6 rfl rfl (OpQ.opL (P2 rfl) rfl ?_)
   refine A3 (E6 rfl rfl) rfl ?_
   refine mv_ ?_
   refine C6 rfl rfl (OpQ.opL qm_ rfl ?_)
   refine C6 rfl rfl (OpQ.opL (P2 rfl) rfl ?_)
   refine A3 (E6 rfl rfl) rfl ?_
   refine mv_ ?_
   refine C6 rfl rfl (OpQ.opL qm_ rfl ?_)
   refine A0j rfl rfl (aS rfl a0) kR (B2F _) rfl ?_
   refine C6 rfl rfl (OpQ.opL qm_ rfl ?_)
   refine A0j rfl rfl (aS rfl a0) kR (B3H _) rfl ?_
   refine C6 rfl rfl (OpQ.opL (V1 (e := 40) rfl kR) rfl ?_)
   refine C6 rfl rfl (OpQ.opL (K7 0 rfl rfl qR) rfl ?_)
   refine C6 rfl rfl (OpQ.opL (E7 true rfl rfl (eqT rfl)) rfl ?_)
   refine A3 (E6 rfl rfl) rfl ?_
   refine as_ (A0 (C9 2) (A8 ?_))
   exact ⟨_, [], [], G5 rfl rfl, List.nil_sublist _, by simp, rfl, rfl, rfl⟩

section
variable {H : Type} {enc : TypeId × Value → H} {P : Program} {w : World} {spare : Nat → Bool} {held : Bool} {fuel : Nat} {t e : TypeId} {cs : List Value} {x : DataW H × List MemPlace} {v : Value} {d : DataW H} {p : List MemPlace} {r : Reach} {base : Nat} {k : IntKind}
end
theorem A8W {P : Program} {W : World} {name : String} {g : Nat} {cs : Array Value} (hg : P.globalNamed name = some g) (h : W.var? P name = some cs) : ∃ e fr, W.heap[g]? = some (.cells cs e fr) := by
  unfold World.var? at h
  rw [hg] at h
  simp only [Option.bind_some] at h
  split at h
  · rename_i c e fr hh
    cases h
    exact ⟨e, fr, hh⟩
  · cases h
def B1c (ws : LN) : List Int := ws.map fun n : Nat => (n : Int)
theorem A5p (k : IntKind) (ws : LN) : ((B1c ws).map fun z => Value.int k z).toArray = (I2 k ws).toArray := by simp [B1c, I2]
theorem B1d {W : World} {a b : String × DataW Unit} {rest : List (String × DataW Unit)} (h : laidMet Tryz.prog (a :: b :: ("internal/strconv.uint64pow10", Rows.laid_internal_strconv_uint64pow10) :: rest) W) : ∃ e fr, W.heap[4]? = some (Obj.cells (I2 .u64 U3).toArray e fr) := by
  have h' : laidMet Tryz.prog (("internal/strconv.uint64pow10", Lib.tabData .u64 (B1c U3)) :: rest) W := h.tail.tail
  have h1 := Lib.tabIs_of_head (g := 4) (t := 314) (e := 147) (n := 20) (by kernel_rfl) (by kernel_rfl) (by kernel_rfl) (by kernel_rfl) (by kernel_rfl) (by kernel_rfl) h'
  obtain ⟨ek, fk, h3⟩ := A8W (g := 4) (by kernel_rfl) h1
  rw [A5p] at h3
  exact ⟨ek, fk, h3⟩
end Go.Proofs.YtpemeceacdhacaaGreatDoor

namespace Go.Proofs.YtpemeceacdhacaaGreatDoor
open Go.Px
theorem B2I {W : World} {a b : String × DataW Unit} {rest : List (String × DataW Unit)} (h : laidMet Tryz.prog (a :: b :: ("internal/strconv.uint64pow10", Rows.laid_internal_strconv_uint64pow10) :: rest) W) : Glb (A44 W) := by
  obtain ⟨e4, f4, h4⟩ := B1d h
  exact ⟨⟨e4, f4, A1s.2 h4⟩⟩
end Go.Proofs.YtpemeceacdhacaaGreatDoor

namespace Go.Proofs.YtpemeceacdhacaaGreatDoor.sessionQueues
open Go.ChangeShapes Go.WideShapes Go.ChangeAt Go.RowKit
theorem own : ownKnob Tryz.prog.godebug = none := by kernel_rfl
theorem laidOut : laidOutB Tryz.prog = true := by kernel_rfl
noncomputable def laidWorld (os : Os) : World := World.laidAll Tryz.prog os Rows.sessionQueuesRow.laid
theorem laid_met (os : Os) : laidMetH Tryz.prog Rows.sessionQueuesRow.laid ((laidWorld os).forCall (fun _ _ => 0) ⟨#[], #[.slice none 0 0], []⟩).memory := by
  rw [MakeChecks.laidMetH_plain _ _ _ (by kernel_rfl)]; exact laidMet_laidAll _ (by kernel_rfl) (by kernel_rfl)
theorem reads (os : Os) {H : Type} (enc : TypeId × Value → H) : ∃ places, DataW.whole enc Tryz.prog ((laidWorld os).forCall (fun _ _ => 0) ⟨#[], #[.slice none 0 0], []⟩).memory Tryz.f3.params.toList Rows.sessionQueuesSpec.vars false (#[.slice none 0 0] : Array Value).toList 8 = some ([.nil], [], places) :=
  ⟨[], by kernel_rfl⟩
theorem lifted (os : Os) (started : os.Started) (H : Type) (enc : TypeId × Value → H) (F : Stop.Interp) :
    ReturnsInHanded {} Tryz.checked os 3 .any ((OpenSpec.ofChange Rows.sessionQueuesSpec).preRow enc Tryz.prog Tryz.f3 Rows.sessionQueuesRow.domain false Rows.sessionQueuesRow.laid) (((OpenSpec.ofChange Rows.sessionQueuesSpec).at F).post enc Tryz.prog Tryz.f3 false true false false) := by
  obtain ⟨places, hx⟩ := reads os enc
  refine returnsInHanded_of_row (C := Tryz.checked) (s := (OpenSpec.ofChange Rows.sessionQueuesSpec)) own started (by kernel_rfl) Tryz.func3
    (witness_row_at (enc := enc) (C := Tryz.checked) false (laidWorld os) #[.slice none 0 0] (World.laidAll_os _ _ _) (by kernel_rfl) (by kernel_rfl) (by kernel_rfl)
      (OpenSpec.preRow_of_cond 8 hx (by kernel_rfl) (fun k hk => by cases hk) (by kernel_rfl) (laid_met os))) ?_
  intro W base args ds gs before hval0 hW _ _ _ hL _ _
  have hval : ∀ (j : Nat) t v, Tryz.f3.params[j]? = some t → args[j]? = some v → Value.okWide Tryz.prog W .any base t v := hval0
  have hW' := hW
  obtain ⟨p, q, hA0, hV, rfl, hfz, hnd⟩ := hW
  have hA : DataW.TrodAll enc Tryz.prog W 0 (fun _ => true) true Tryz.f3.params.toList args.toList ds p := hA0
  rw [Tryz.params3] at hA hval
  obtain ⟨v0, vs0, d0, ds0, p0, q0, hargs, rfl, rfl, k0, r0_⟩ := trodAll_cons hA
  obtain ⟨rfl, rfl, rfl⟩ := trodAll_nil r0_
  obtain rfl : args = #[v0] := by cases args; simp_all
  obtain ⟨rfl, rfl⟩ := trodVars_none hV
  have lt0 : ∀ x ∈ p0, x.block < W.heap.size := by obtain ⟨m, hm⟩ := k0; exact DataW.trod_lt m _ _ _ hm
  obtain ⟨x0, r0, hx0, l0⟩ := Px.inSlU Tryz.underlying22 Tryz.underlying5 (by kernel_rfl) rfl (hval 0 22 v0 rfl rfl) k0
  clear hA0 hval0
  rw [MakeChecks.laidMetH_plain _ _ _ (by kernel_rfl)] at hL
  have hG := B2I hL
  refine Calls.mono ((A1I v0 x0 _ ⟨r0, hx0, l0⟩ hG).calls (Px.heapA_fx W)) fun e W' ⟨he, bel⟩ => ?_
  subst he
  exact ⟨_, rfl, _, _, _, [], _, [], hW', trodAll_mk1 (shut_bool Tryz.underlying4 _), (trodAll_cons_mk (Below.trod laidOut (by kernel_rfl) (of_decide_eq_true (by kernel_rfl)) k0 bel lt0) trodAll_mk0), rfl, bel.frame _, fun h => by cases h⟩
theorem said : Rows.SessionQueuesSaid :=
  OpenClaim.holds_of_cond 3 Tryz.f3 rfl rfl rfl rfl rfl rfl rfl ⟨rfl, rfl, rfl, rfl, rfl⟩ rfl rfl rfl rfl rfl (by kernel_rfl) Tryz.func3 (by kernel_rfl)
    (of_decide_eq_true (by kernel_rfl)) (by unfold Func.isWrapper; first | (rw [if_pos (by decide +kernel)]; kernel_rfl) | (rw [if_neg (by decide +kernel)]; exact ⟨rfl, rfl⟩))
    (fun os started H enc _ F => by rw [OpenClaim.pre_eq_preRow]; exact lifted os started H enc F)
theorem plain (f : FuncId) (fn : Func) (hf : Tryz.pinned.checked.prog.funcNamed "pawl/pawllaw15.SessionQueues" = some f) (hfn : Tryz.pinned.checked.prog.funcs[f]? = some fn) :
    true = Tryz.pinned.checked.prog.looks [] ∧ ∀ (j : Nat) t, fn.params[j]? = some t → Tryz.pinned.checked.prog.wantsStandIn t = false := by
  obtain rfl : f = 3 := Option.some.inj ((show Tryz.prog.funcNamed "pawl/pawllaw15.SessionQueues" = some 3 by kernel_rfl).symm.trans hf) |>.symm
  obtain rfl : fn = Tryz.f3 := (Option.some.inj (Tryz.func3.symm.trans hfn)).symm
  refine ⟨by kernel_rfl, fun j t ht => ?_⟩
  rw [Tryz.params3] at ht
  have hm := Array.mem_of_getElem? ht
  simp only [List.mem_toArray, List.mem_cons, List.not_mem_nil, or_false] at hm
  subst hm; exact (show Tryz.prog.wantsStandIn 22 = false by kernel_rfl)
theorem proved : Rows.SessionQueuesCardSaid :=
  Claim7.holds_tied_plain_at .later [] _ _ _ _ said (fun _ h => by cases h) (by kernel_rfl) (fun _ h => by cases h) sessionQueues_row_tie rfl ⟨rfl, rfl⟩ (by kernel_rfl) rfl plain (by kernel_rfl)
#print axioms proved
end Go.Proofs.YtpemeceacdhacaaGreatDoor.sessionQueues

