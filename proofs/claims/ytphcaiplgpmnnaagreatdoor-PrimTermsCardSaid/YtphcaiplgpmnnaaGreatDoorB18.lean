/- The card of the law PrimTerms: it returns true for every input; each argument reads behind the call as it read before; the listed package variables are tied to the program's text. No further condition. -/
import Derived.Test.YtphcaiplgpmnnaaGreatDoorB17
import Derived.Lib.LaidTab
import Derived.Stop.LaidErr
import Derived.MakeChecks
import Derived.Test.YtphcaiplgpmnnaaGreatDoorCards
import Derived.Test.YtphcaiplgpmnnaaGreatDoorTie
import Derived.Deep.DeepHandedRow
import Derived.Deep.DeepWitnessRowRef
import Derived.Lay
import Derived.LaidMore
set_option linter.unusedVariables false
set_option linter.unusedSimpArgs false
set_option maxRecDepth 100000
namespace Go.Proofs.YtphcaiplgpmnnaaGreatDoor
open Go.Px
theorem fit64 {i : Nat} : fitN (bts ((i : Nat) : Int)) 64 = bts ((i : Nat) : Int) ++ List.replicate 32 0 := by
  have hl : (bts ((i : Nat) : Int)).length = 32 := btk_len _ (by decide)
  unfold fitN; rw [List.take_of_length_le (by omega), hl]
theorem drv2_ok {i b : Nat} {lb : List Nat} (hi : i ≤ 1048576) (hb : b ≤ 1048576) (hl : B256 lb) (hll : lb.length ≤ 1000) : Tmo (drv [((i : Nat) : Int), ((b : Nat) : Int)] lb 1) :=
  ⟨show 5 < 256 by decide, show i64 ((1 : Nat) : Int) by unfold i64; omega, fun z hz => by have hz' : z ∈ [((i : Nat) : Int), ((b : Nat) : Int)] := hz; simp at hz'; rcases hz' with rfl | rfl <;> exact i64_nat (by omega), show 2 ≤ 1048576 by decide, hl, by show lb.length ≤ _; omega⟩
theorem name2 (a b : List Nat) : nameT [a, b] = rawT (mark a ++ mark b) := by unfold nameT markAll; simp

theorem open08_t (v : Value) (ws : List Nat) (A : Mem) (hv : By A v ws) : FnX Tryz.prog 38 [.int .u8 1, v] [] A fun q M J => ∃ pb bt bm, q = .pointer (some ⟨pb, 0, none⟩) ∧ PrmT pb bt bm ⟨false, ws, 0, []⟩ M := by
 haveI := hv.cel
 refine FnX.enterZ (N := 15) Tryz.func38 rfl rfl rfl fun w_ => ?_
 refine XC.keep (kq 0 (kq 1 kn)) ?_
 refine XC.reg ?_
 refine as_ ?_
 refine XL.fin (kq 0 (kq 1 kn)) ?_
 refine XC.reg ?_
 refine mv_ ?_
 refine XL.q (q_remI (a := 1) (b := 2) rfl rfl rfl rfl (by decide)) rfl ?_
 refine mv_ ?_
 refine XL.lo rfl (l_call0 (aS rfl (aS rfl a0)) (by kernel_rfl) (pnew_spec false v ws _ (hv.mono SubC.sub)) rfl ?_)
 rintro v11 MP J11 ⟨pb, rfl, hP⟩
 obtain ⟨bt, bm, hPT⟩ := hP.t
 refine mv_ ?_
 refine XL.q (q_x0 rfl) rfl ?_
 refine XL.q (q_x1 rfl) rfl ?_
 refine as_ (as_ ?_)
 refine XL.fin (kq 5 kn) ?_
 refine XC.reg ?_
 refine mv_ (as_ ?_)
 refine XL.fin (kq 4 kn) ?_
 refine XC.ret ?_
 exact ⟨_, MP, [], res1 rfl rfl, Fit.none (Fit.last PickC.perm), pb, bt, bm, rfl, hPT⟩

theorem lt_app2 {a b : List Nat} (ha : ∀ x ∈ a, x < 256) (hb : ∀ x ∈ b, x < 256) : ∀ x ∈ a ++ b, x < 256 := fun x hx => (List.mem_append.1 hx).elim (ha x) (hb x)
theorem mark_lt {w : List Nat} (h : ∀ x ∈ w, x < 256) : ∀ x ∈ mark w, x < 256 := by
  haveI : B256 w := ⟨h⟩
  have hb : B256 (mark w) := inferInstance
  exact hb.lt
theorem seal_p (pb : Nat) (s : Ps) (hr : s.real = false) (v v2 v3 : Value) (w wa wb : List Nat) (MP A : Mem) (hP : Prm pb s MP) (hn : s.ts.length < 1048576) (hv : By A v w) (hya : By A v2 wa) (hyb : By A v3 wb) (hG : Glb A) : FnX Tryz.prog 45 [.pointer (some ⟨pb, 0, none⟩), v, v2, v3] MP A fun q M J => Prm pb (one1 s w fun x => selT x wa wb) M ∧ By J q (oneK s w fun x => selT x wa wb) := by
  obtain ⟨bt, bm, h⟩ := hP.t
  exact (seal_spec pb bt bm s hr v v2 v3 w wa wb MP A h hn hv hya hyb hG).mono fun q M J ⟨h1, h2⟩ => ⟨h1.p, h2⟩
theorem name_p (pb : Nat) (s : Ps) (hr : s.real = false) (u : Value) (ws : List (List Nat)) (MP A : Mem) (hP : Prm pb s MP) (hn : s.ts.length ≤ 1048576) (hu : LsV A u ws) (hwl0 : ws.length ≤ 1000) (hlt0 : ∀ w ∈ ws, ∀ x ∈ w, x < 256) (hG : Glb A) : FnX Tryz.prog 47 [.pointer (some ⟨pb, 0, none⟩), u] MP A fun q M J => Prm pb (nameS s ws) M ∧ By J q (nameK s ws) := by
  obtain ⟨bt, bm, h⟩ := hP.t
  exact (name_t pb bt bm s hr u ws MP A h hn hu hwl0 hlt0 hG).mono fun q M J ⟨h1, h2⟩ => ⟨h1.p, h2⟩

set_option maxHeartbeats 1600000 in
theorem primTerms_f (v v1 v2 : Value) (ws w1 w2 lb : List Nat) (A : Mem) (hr0 : Rd A 1 v ws.length (nums .u8 ws)) (hx0 : ∀ x ∈ ws, x < 256) (hr1 : Rd A 1 v1 w1.length (nums .u8 w1)) (hx1 : ∀ x ∈ w1, x < 256) (hr2 : Rd A 1 v2 w2.length (nums .u8 w2)) (hx2 : ∀ x ∈ w2, x < 256) (hlb : B256 lb) (hG : Glb A) : FnV Tryz.prog 10 [v, v1, v2, .string (txt lb)] A (.bool true) := by
 haveI := hr0.cel
 haveI := hr1.cel
 haveI := hr2.cel
 refine FnX.enter (N := 175) Tryz.func10 rfl rfl rfl fun w_ => ?_
 refine XC.keep (kq 0 (kq 1 (kq 2 (kq 3 kn)))) ?_
 refine XC.reg ?_
 refine as_ ?_
 refine XL.fin (kq 0 (kq 1 (kq 2 (kq 3 kn)))) ?_
 refine XC.seq ?_
 refine XC.reg ?_
 refine XL.callV a0 (by kernel_rfl) (awake08_f _ hG.up) rfl ?_
 refine XL.q (q_not rfl) rfl ?_
 refine mv_ ?_
 refine XL.gy rfl rfl (OpQ.opL qm_ rfl ?_)
 refine XL.gy rfl rfl (OpQ.opL (q_lenV2 (sz := 1) rfl (by kernel_rfl) (by first | assumption | exact Sl.rd (by assumption) (fun _ h => h) | exact By.rd (by assumption))) rfl ?_)
 refine XL.gy rfl rfl (OpQ.opL (q_bin rfl rfl rfl) rfl ?_)
 refine XL.q (q_pickF rfl rfl) rfl ?_
 refine mv_ ?_
 refine XL.split (t := 26) rfl (fun hb => ?_) (fun hb => ?_)
 ·
  refine XL.gn rfl rfl rfl rfl ?_
  refine XL.gn rfl rfl rfl rfl ?_
  refine XL.gn rfl rfl rfl rfl ?_
  refine XL.q (q_pickT rfl rfl) rfl ?_
  refine mv_ ?_
  refine XL.gn rfl rfl rfl rfl ?_
  refine XL.gn rfl rfl rfl rfl ?_
  refine XL.gn rfl rfl rfl rfl ?_
  refine XL.q (q_pickT rfl rfl) rfl ?_
  refine mv_ ?_
  refine XL.gn rfl rfl rfl rfl ?_
  refine XL.gn rfl rfl rfl rfl ?_
  refine XL.gn rfl rfl rfl rfl ?_
  refine XL.q (q_pickT rfl rfl) rfl ?_
  refine XL.fin (kq 0 (kq 1 (kq 2 (kq 3 (kq 40 kn))))) ?_
  refine XC.condT rfl ?_
  refine XC.reg ?_
  refine XL.callV a0 (by kernel_rfl) (awake08_f _ hG.up) rfl ?_
  refine as_ ?_
  refine XL.fin (kq 8 kn) ?_
  refine XC.ret ?_
  refine tr ?_
  exact ⟨_, [], [], res1 rfl rfl, List.nil_sublist _, by simp, rfl, rfl, rfl⟩
 ·
  have k0 : ws.length ≤ 50 := by have := hb; simp at this; omega
  refine XL.gy rfl rfl (OpQ.opL qm_ rfl ?_)
  refine XL.gy rfl rfl (OpQ.opL (q_lenV2 (sz := 1) rfl (by kernel_rfl) (by first | assumption | exact Sl.rd (by assumption) (fun _ h => h) | exact By.rd (by assumption))) rfl ?_)
  refine XL.gy rfl rfl (OpQ.opL (q_bin rfl rfl rfl) rfl ?_)
  refine XL.q (q_pickF rfl rfl) rfl ?_
  refine mv_ ?_
  refine XL.split (t := 31) rfl (fun hb => ?_) (fun hb => ?_)
  ·
   refine XL.gn rfl rfl rfl rfl ?_
   refine XL.gn rfl rfl rfl rfl ?_
   refine XL.gn rfl rfl rfl rfl ?_
   refine XL.q (q_pickT rfl rfl) rfl ?_
   refine mv_ ?_
   refine XL.gn rfl rfl rfl rfl ?_
   refine XL.gn rfl rfl rfl rfl ?_
   refine XL.gn rfl rfl rfl rfl ?_
   refine XL.q (q_pickT rfl rfl) rfl ?_
   refine XL.fin (kq 0 (kq 1 (kq 2 (kq 3 (kq 40 kn))))) ?_
   refine XC.condT rfl ?_
   refine XC.reg ?_
   refine XL.callV a0 (by kernel_rfl) (awake08_f _ hG.up) rfl ?_
   refine as_ ?_
   refine XL.fin (kq 8 kn) ?_
   refine XC.ret ?_
   refine tr ?_
   exact ⟨_, [], [], res1 rfl rfl, List.nil_sublist _, by simp, rfl, rfl, rfl⟩
  ·
   have k1 : w1.length ≤ 100 := by have := hb; simp at this; omega
   refine XL.gy rfl rfl (OpQ.opL qm_ rfl ?_)
   refine XL.gy rfl rfl (OpQ.opL (q_lenV2 (sz := 1) rfl (by kernel_rfl) (by first | assumption | exact Sl.rd (by assumption) (fun _ h => h) | exact By.rd (by assumption))) rfl ?_)
   refine XL.gy rfl rfl (OpQ.opL (q_bin rfl rfl rfl) rfl ?_)
   refine XL.q (q_pickF rfl rfl) rfl ?_
   refine mv_ ?_
   refine XL.split (t := 36) rfl (fun hb => ?_) (fun hb => ?_)
   ·
    refine XL.gn rfl rfl rfl rfl ?_
    refine XL.gn rfl rfl rfl rfl ?_
    refine XL.gn rfl rfl rfl rfl ?_
    refine XL.q (q_pickT rfl rfl) rfl ?_
    refine XL.fin (kq 0 (kq 1 (kq 2 (kq 3 (kq 40 kn))))) ?_
    refine XC.condT rfl ?_
    refine XC.reg ?_
    refine XL.callV a0 (by kernel_rfl) (awake08_f _ hG.up) rfl ?_
    refine as_ ?_
    refine XL.fin (kq 8 kn) ?_
    refine XC.ret ?_
    refine tr ?_
    exact ⟨_, [], [], res1 rfl rfl, List.nil_sublist _, by simp, rfl, rfl, rfl⟩
   ·
    have k2 : w2.length ≤ 100 := by have := hb; simp at this; omega
    refine XL.gy rfl rfl (OpQ.opL qm_ rfl ?_)
    refine XL.gy rfl rfl (OpQ.opL (q_sLen (ws := lb) rfl rfl (by kernel_rfl)) rfl ?_)
    refine XL.gy rfl rfl (OpQ.opL (q_bin rfl rfl rfl) rfl ?_)
    refine XL.q (q_pickF rfl rfl) rfl ?_
    refine XL.fin (kq 0 (kq 1 (kq 2 (kq 3 (kq 40 kn))))) ?_
    refine XC.cond rfl (fun hc => ?_) (fun hc => ?_)
    ·
     refine XC.reg ?_
     refine XL.callV a0 (by kernel_rfl) (awake08_f _ hG.up) rfl ?_
     refine as_ ?_
     refine XL.fin (kq 8 kn) ?_
     refine XC.ret ?_
     refine tr ?_
     exact ⟨_, [], [], res1 rfl rfl, List.nil_sublist _, by simp, rfl, rfl, rfl⟩
    ·
     have k3 : lb.length ≤ 30 := by simp at hc; omega
     have hv0 : By A v ws := ⟨hr0, hx0, by omega⟩
     have hv1 : By A v1 w1 := ⟨hr1, hx1, by omega⟩
     have hv2 : By A v2 w2 := ⟨hr2, hx2, by omega⟩
     have m1 := mark_len w1 (by omega)
     have m2 := mark_len w2 (by omega)
     obtain ⟨e4, f4, h4⟩ := hG.pow
     refine XC.skip ?_
     refine nx (kq 0 (kq 1 (kq 2 (kq 3 kn)))) ?_
     refine XC.reg ?_
     refine mv_ ?_
     refine XL.lo rfl (l_call0 (aS rfl (aS rfl a0)) (by kernel_rfl) (open08_t v ws _ (hv0.mono SubC.sub)) rfl ?_)
     rintro v43 M43 J43 ⟨pb, bt, bm, rfl, hP⟩
     obtain ⟨sv, B, MT, rfl, hby, hT⟩ := hP.ex
     haveI := hby.cel
     simp only [md, Bool.false_eq_true, if_false]
     refine as_ ?_
     refine XL.fin (kq 1 (kq 2 (kq 3 (kq 9 kn)))) ?_
     refine XC.reg ?_
     refine mv_ ?_
     refine XL.callV (aS rfl a0) (by kernel_rfl) (ptable_spec pb bt ((0 : Nat) : Int) sv _ At.mem) rfl ?_
     refine as_ ?_
     refine XL.fin (kq 1 (kq 2 (kq 3 (kq 9 (kq 10 kn))))) ?_
     refine XC.reg ?_
     refine mv_ ?_
     refine XL.lo rfl (l_call (Mc := (pb, blk [.int .u8 1, sv, .int .i64 ((0 : Nat) : Int), .pointer (some ⟨bt, 0, none⟩)] 124) :: (B ++ MT)) (R := _) (aS rfl a0) (by kernel_rfl) PickC.perm (fresh_t pb bt bm ⟨false, ws, 0, []⟩ rfl _ _ ⟨⟨sv, B, MT, rfl, hby, hT⟩⟩ (show 0 ≤ 1048576 by decide) (show 0 < 1099511627776 by decide) hG.up) rfl ?_)
     rintro v47 M47 J47 ⟨hP47, h47⟩
     haveI := h47.cel
     obtain ⟨tsA, iA, e1, e2, fA, tA, lA, -, yA⟩ := put_facts (ts := []) (atom_ok' (n := 0 + 1) (by decide)) Tok.nil
     have hfs : freshS ⟨false, ws, 0, []⟩ = ⟨false, ws, 1, tsA⟩ := by rw [freshS_f rfl]; show (⟨false, ws, 0 + 1, add [] (atom (0 + 1))⟩ : Ps) = _; rw [e1]
     have hfk : freshK ⟨false, ws, 0, []⟩ = bts ((iA : Nat) : Int) := by rw [freshK_f rfl]; show bts ((at_ [] (atom (0 + 1)) : Nat) : Int) = _; rw [e2]
     rw [hfs] at hP47
     rw [hfk] at h47
     clear hfs hfk e1 e2 hby hT hP
     obtain ⟨sv1, B1, MT1, rfl, hby1, hT1⟩ := hP47.ex
     haveI := hby1.cel
     simp only [md, Bool.false_eq_true, if_false]
     simp only [List.length_nil] at lA
     refine as_ ?_
     refine XL.fin (kq 1 (kq 2 (kq 3 (kq 9 (kq 10 (kq 11 kn)))))) ?_
     refine XC.reg ?_
     refine mv_ ?_
     refine XL.q (q_build (place := fun x => #[(0, 1), (1, 1), (2, 1), (3, 1)][x]?) (z := [.int .u8 0, .slice none 0 0, .string ByteArray.empty, .int .i64 0]) (fun _ => by kernel_rfl) (eS rfl (eS rfl e0)) (bdS 0 1 rfl (by rfl) (bdS 3 1 rfl (by rfl) bd0))) rfl ?_
     refine XL.lo rfl (l_call (Mc := MT1) (R := _) (aS rfl (aS rfl a0)) (by kernel_rfl) PickC.perm (putT_spec bt bm tsA (.slice none 0 0) (atom 1) MT1 _ hT1 (by omega) Rd.nil (atom_ok' (by decide)) (SubC.sub _ h4)) rfl ?_)
     rintro v50 M50 J50 ⟨rfl, rfl, hT50⟩
     rw [(again tA fA).1] at hT50
     rw [(again tA fA).2]
     refine as_ ?_
     refine XL.fin (kq 1 (kq 2 (kq 3 (kq 9 (kq 10 (kq 11 (kq 12 kn))))))) ?_
     refine XC.reg ?_
     refine mv_ (mv_ ?_)
     refine XL.lo rfl (l_buildSlice (e := 3) (sz := 1) (z := [.int .i64 0]) (by kernel_rfl) (eS rfl e0) (bdS 0 1 rfl (by rfl) bd0) rfl fun b53 => ?_)
     refine XL.q (q_build (place := fun x => #[(0, 1), (1, 1), (2, 1), (3, 1)][x]?) (z := [.int .u8 0, .slice none 0 0, .string ByteArray.empty, .int .i64 0]) (fun _ => by kernel_rfl) (eS rfl (eS rfl e0)) (bdS 0 1 rfl (by rfl) (bdS 1 1 rfl (by rfl) bd0))) rfl ?_
     refine XL.lo rfl (l_call (Mc := M50) (R := _) (aS rfl (aS rfl a0)) (by kernel_rfl) PickC.perm (putT_spec bt bm tsA _ (pubT ((iA : Nat) : Int)) M50 _ hT50 (by omega) (Rd.whole (n := 1) At.mem (by rfl)) (pub_ok (i64_nat (show iA ≤ 1048576 by omega))) (SubC.sub _ h4)) rfl ?_)
     rintro v55 M55 J55 ⟨rfl, rfl, hT55⟩
     obtain ⟨tsB, iB, e1, e2, fB, tB, lB, xB, yB⟩ := put_facts (pub_ok (i64_nat (show iA ≤ 1048576 by omega))) tA
     rw [e1] at hT55
     rw [e2]
     clear e1 e2
     refine as_ ?_
     refine XL.fin (kq 1 (kq 2 (kq 3 (kq 9 (kq 10 (kq 11 (kq 12 (kq 13 kn)))))))) ?_
     refine XC.reg ?_
     refine mv_ (mv_ ?_)
     refine XL.lo rfl (l_buildSlice (e := 3) (sz := 1) (z := [.int .i64 0]) (by kernel_rfl) (eS rfl e0) (bdS 0 1 rfl (by rfl) bd0) rfl fun b58 => ?_)
     refine mv_ ?_
     refine XL.callV (aS rfl a0) (by kernel_rfl) (mark_spec v1 w1 _ (hv1.rd.mono SubC.sub) (hb := hv1.b256) (by omega) (SubC.sub _ h4)) rfl ?_
     refine mv_ ?_
     refine XL.callV (aS rfl a0) (by kernel_rfl) (mark_spec v2 w2 _ (hv2.rd.mono SubC.sub) (hb := hv2.b256) (by omega) (SubC.sub _ h4)) rfl ?_
     refine XL.q (q_sAdd (ws := mark w1) (ws' := mark w2) rfl rfl rfl rfl (by omega)) rfl ?_
     refine XL.q (q_build (place := fun x => #[(0, 1), (1, 1), (2, 1), (3, 1)][x]?) (z := [.int .u8 0, .slice none 0 0, .string ByteArray.empty, .int .i64 0]) (fun _ => by kernel_rfl) (eS rfl (eS rfl (eS rfl e0))) (bdS 0 1 rfl (by rfl) (bdS 1 1 rfl (by rfl) (bdS 2 1 rfl (by rfl) bd0)))) rfl ?_
     refine XL.lo rfl (l_call (Mc := M55) (R := _) (aS rfl (aS rfl a0)) (by kernel_rfl) PickC.perm (putT_spec bt bm tsB _ (selT ((iA : Nat) : Int) w1 w2) M55 _ hT55 (by omega) (Rd.whole (n := 1) At.mem (by rfl)) (sel_ok (i64_nat (show iA ≤ 1048576 by omega)) hv1.lt hv2.lt hv1.len hv2.len) (SubC.sub _ h4)) rfl ?_)
     rintro v65 M65 J65 ⟨rfl, rfl, hT65⟩
     obtain ⟨tsS, iS, e1, e2, fS, tS, lS, xS, yS⟩ := put_facts (sel_ok (i64_nat (show iA ≤ 1048576 by omega)) hv1.lt hv2.lt hv1.len hv2.len) tB
     rw [e1] at hT65
     rw [e2]
     clear e1 e2
     refine as_ ?_
     refine XL.fin (kq 1 (kq 2 (kq 3 (kq 9 (kq 10 (kq 11 (kq 12 (kq 13 (kq 14 kn))))))))) ?_
     refine XC.reg ?_
     refine mv_ (mv_ ?_)
     refine XL.lo rfl (l_buildSlice (e := 3) (sz := 1) (z := [.int .i64 0]) (by kernel_rfl) (eS rfl e0) (bdS 0 1 rfl (by rfl) bd0) rfl fun b68 => ?_)
     refine mv_ ?_
     refine XL.q (q_toStr2 rfl (by kernel_rfl) (hv2.rd.mono SubC.sub)) rfl ?_
     refine XL.q (q_build (place := fun x => #[(0, 1), (1, 1), (2, 1), (3, 1)][x]?) (z := [.int .u8 0, .slice none 0 0, .string ByteArray.empty, .int .i64 0]) (fun _ => by kernel_rfl) (eS rfl (eS rfl (eS rfl e0))) (bdS 0 1 rfl (by rfl) (bdS 1 1 rfl (by rfl) (bdS 2 1 rfl (by rfl) bd0)))) rfl ?_
     refine XL.lo rfl (l_call (Mc := M65) (R := _) (aS rfl (aS rfl a0)) (by kernel_rfl) PickC.perm (putT_spec bt bm tsS _ (sigT ((iA : Nat) : Int) w2) M65 _ hT65 (by omega) (Rd.whole (n := 1) At.mem (by rfl)) (sig_ok (i64_nat (show iA ≤ 1048576 by omega)) hv2.lt hv2.len) (SubC.sub _ h4)) rfl ?_)
     rintro v72 M72 J72 ⟨rfl, rfl, hT72⟩
     obtain ⟨tsG, iG, e1, e2, fG, tG, lG, xG, yG⟩ := put_facts (sig_ok (i64_nat (show iA ≤ 1048576 by omega)) hv2.lt hv2.len) tS
     rw [e1] at hT72
     rw [e2]
     clear e1 e2
     refine as_ ?_
     refine XL.fin (kq 1 (kq 2 (kq 3 (kq 9 (kq 10 (kq 11 (kq 12 (kq 13 (kq 14 (kq 15 kn)))))))))) ?_
     refine XC.reg ?_
     refine mv_ (mv_ ?_)
     refine XL.callV (aS rfl a0) (by kernel_rfl) (mark_spec v1 w1 _ (hv1.rd.mono SubC.sub) (hb := hv1.b256) (by omega) (SubC.sub _ h4)) rfl ?_
     refine mv_ ?_
     refine XL.callV (aS rfl a0) (by kernel_rfl) (mark_spec v2 w2 _ (hv2.rd.mono SubC.sub) (hb := hv2.b256) (by omega) (SubC.sub _ h4)) rfl ?_
     refine XL.q (q_sAdd (ws := mark w1) (ws' := mark w2) rfl rfl rfl rfl (by omega)) rfl ?_
     refine XL.q (q_build (place := fun x => #[(0, 1), (1, 1), (2, 1), (3, 1)][x]?) (z := [.int .u8 0, .slice none 0 0, .string ByteArray.empty, .int .i64 0]) (fun _ => by kernel_rfl) (eS rfl (eS rfl e0)) (bdS 0 1 rfl (by rfl) (bdS 2 1 rfl (by rfl) bd0))) rfl ?_
     refine XL.lo rfl (l_call (Mc := M72) (R := _) (aS rfl (aS rfl a0)) (by kernel_rfl) PickC.perm (putT_spec bt bm tsG (.slice none 0 0) (rawT (mark w1 ++ mark w2)) M72 _ hT72 (by omega) Rd.nil (rawT_ok (ws := mark w1 ++ mark w2) (lt_app2 (mark_lt hv1.lt) (mark_lt hv2.lt)) (by rw [List.length_append]; omega)) (SubC.sub _ h4)) rfl ?_)
     rintro v80 M80 J80 ⟨rfl, rfl, hT80⟩
     obtain ⟨tsN, iN, e1, e2, fN, tN, lN, xN, yN⟩ := put_facts (rawT_ok (ws := mark w1 ++ mark w2) (lt_app2 (mark_lt hv1.lt) (mark_lt hv2.lt)) (by rw [List.length_append]; omega)) tG
     rw [e1] at hT80
     rw [e2]
     clear e1 e2
     refine as_ ?_
     refine XL.fin (kq 1 (kq 2 (kq 3 (kq 9 (kq 10 (kq 11 (kq 12 (kq 13 (kq 14 (kq 15 (kq 16 kn))))))))))) ?_
     refine XC.reg ?_
     refine mv_ (mv_ (mv_ ?_))
     refine XL.lo rfl (l_buildSlice (e := 3) (sz := 1) (z := [.int .i64 0, .int .i64 0]) (by kernel_rfl) (eS rfl (eS rfl e0)) (bdS 0 1 rfl (by rfl) (bdS 1 1 rfl (by rfl) bd0)) rfl fun b84 => ?_)
     refine mv_ ?_
     refine XL.q (q_build (place := fun x => #[(0, 1), (1, 1), (2, 1), (3, 1)][x]?) (z := [.int .u8 0, .slice none 0 0, .string ByteArray.empty, .int .i64 0]) (fun _ => by kernel_rfl) (eS rfl (eS rfl (eS rfl (eS rfl e0)))) (bdS 0 1 rfl (by rfl) (bdS 1 1 rfl (by rfl) (bdS 2 1 rfl (by rfl) (bdS 3 1 rfl (by rfl) bd0))))) rfl ?_
     refine XL.lo rfl (l_call (Mc := M80) (R := _) (aS rfl (aS rfl a0)) (by kernel_rfl) PickC.perm (putT_spec bt bm tsN _ (drv [((iA : Nat) : Int), ((iB : Nat) : Int)] lb 1) M80 _ hT80 (by omega) (Rd.whole (n := 2) At.mem (by rfl)) (drv2_ok (show iA ≤ 1048576 by omega) (show iB ≤ 1048576 by omega) hlb (by omega)) (SubC.sub _ h4)) rfl ?_)
     rintro v87 M87 J87 ⟨rfl, rfl, hT87⟩
     obtain ⟨tsD, iD, e1, e2, fD, tD, lD, xD, yD⟩ := put_facts (drv2_ok (show iA ≤ 1048576 by omega) (show iB ≤ 1048576 by omega) hlb (by omega)) tN
     rw [e1] at hT87
     rw [e2]
     clear e1 e2
     refine as_ ?_
     refine XL.fin (kq 1 (kq 2 (kq 3 (kq 9 (kq 11 (kq 12 (kq 13 (kq 14 (kq 15 (kq 16 (kq 17 kn))))))))))) ?_
     obtain ⟨s6, hs6⟩ : ∃ s6 : Ps, s6 = ⟨false, ws, 1, tsD⟩ := ⟨_, rfl⟩
     have hP6 : Prm pb s6 ((pb, blk [.int .u8 1, sv1, .int .i64 ((1 : Nat) : Int), .pointer (some ⟨bt, 0, none⟩)] 124) :: (B1 ++ M87)) := by rw [hs6]; exact ⟨sv1, bt, bm, B1, M87, rfl, hby1, hT87⟩
     have hts : s6.ts = tsD := by rw [hs6]
     have hr6 : s6.real = false := by rw [hs6]
     have gB := xD _ _ (xN _ _ (xG _ _ (xS _ _ fB)))
     have gS := xD _ _ (xN _ _ (xG _ _ fS))
     have gG := xD _ _ (xN _ _ fG)
     have gN := xD _ _ fN
     have hPu : PubT s6 (bts ((iA : Nat) : Int)) (bts ((iB : Nat) : Int)) := ⟨iA, iB, by rw [hts]; omega, rfl, by rw [hts]; exact gB, rfl⟩
     have hpe := hPu.eq (by rw [hts]; exact tD) (by rw [hts]; omega)
     have lB_ := (List.getElem?_eq_some_iff.1 gB).1
     clear hT1 hT50 hT55 hT65 hT72 hT80
     refine XC.reg ?_
     refine mv_ (mv_ (mv_ (mv_ ?_)))
     refine XL.lo rfl (l_call (Mc := (pb, blk [.int .u8 1, sv1, .int .i64 ((1 : Nat) : Int), .pointer (some ⟨bt, 0, none⟩)] 124) :: (B1 ++ M87)) (R := _) (aS rfl (aS rfl a0)) (by kernel_rfl) PickC.perm (public_p pb s6 hr6 v47 (bts ((iA : Nat) : Int)) _ _ hP6 (by rw [hts]; omega) (h47.mono SubC.sub) hG.up) rfl ?_)
     rintro v92 M92 J92 ⟨hP92, h92⟩
     haveI := h92.cel
     rw [hpe.1] at hP92
     rw [hpe.2] at h92
     refine XL.lo rfl (l_buildSlice (e := 23) (sz := 1) (z := [.slice none 0 0]) (by kernel_rfl) (eS rfl e0) (bdS 0 1 rfl (by rfl) bd0) rfl fun b93 => ?_)
     refine mv_ ?_
     refine XL.lo rfl (l_call (Mc := M92) (R := _) (aS rfl (aS rfl (aS rfl (aS rfl (aS rfl a0))))) (by kernel_rfl) PickC.perm (derive_spec pb s6 v47 (.slice (some ⟨b93, 0, none⟩) 1 1) (bts ((iA : Nat) : Int)) lb [bts ((iB : Nat) : Int)] 2 M92 _ hP92 (h47.mono SubC.sub) ⟨[v92], Rd.whole (n := 1) At.mem (by rfl), Lst.cons (h92.mono SubC.sub) Lst.nil⟩ (show 1 ≤ 1000 by decide) hlb (by omega) (by decide) (by decide) (by rw [hts]; omega) hG.up) rfl ?_)
     rintro v95 M95 J95 ⟨hP95, hL95⟩
     obtain ⟨s7, k0_, d1, d2, hr7, t7, l7, x7⟩ := der_two (s := s6) hr6 (i := iA) (b := iB) (d := iD) hlb (by omega) (by rw [hts]; omega) (by rw [hts]; exact lB_) (by rw [hts]; omega) (by rw [hts]; exact tD) (by rw [hts]; exact fD)
     rw [d1] at hP95
     rw [d2] at hL95
     rw [hts] at l7 x7
     obtain ⟨us, hus, hls⟩ := hL95.ex
     haveI := hus.cel
     obtain ⟨u1, hu1, hb1⟩ := hls.get 1 _ rfl
     haveI := hb1.cel
     have yA7 : iA < s7.ts.length := (List.getElem?_eq_some_iff.1 (x7 _ _ (xD _ _ (xN _ _ (xG _ _ (xS _ _ (xB _ _ fA))))))).1
     have hPu7 : PubT s7 (bts ((iA : Nat) : Int)) (bts ((iB : Nat) : Int)) := ⟨iA, iB, yA7, rfl, x7 _ _ gB, rfl⟩
     have hp7 := hPu7.eq t7 (by omega)
     have se7 := one1_at (f := fun x => selT x w1 w2) yA7 (by omega) t7 (x7 _ _ gS)
     have sg7 := one1_at (f := fun x => sigT x w2) yA7 (by omega) t7 (x7 _ _ gG)
     have nm7 := nameS_at (ws := [w1, w2]) t7 (by rw [name2]; exact x7 _ _ gN)
     have sg1 : sgS2 s7 (bts ((iA : Nat) : Int)) w2 = s7 := by rw [sgS2_f hr7]; exact sg7.1
     have sg2 : sgK2 s7 (bts ((iA : Nat) : Int)) w2 = fitN (bts ((iG : Nat) : Int)) 64 := by rw [sgK2_f hr7, sg7.2]
     refine as_ ?_
     refine XL.fin (kq 1 (kq 2 (kq 9 (kq 11 (kq 12 (kq 13 (kq 14 (kq 15 (kq 16 (kq 17 (kq 18 kn))))))))))) ?_
     refine XC.fit (M' := M95) (Fit.last PickC.perm) (fun _ h => h) ?_
     have hf64 : fitN (bts ((iG : Nat) : Int)) 64 = bts ((iG : Nat) : Int) ++ List.replicate 32 0 := fit64
     have hGl : (bts ((iG : Nat) : Int)).length = 32 := btk_len _ (by decide)
     generalize hwA : bts ((iA : Nat) : Int) = zA_ at *
     have hbA : ∀ A, FnX Tryz.prog 44 [.int .i64 ((iA : Nat) : Int)] [] A fun r M J => M = [] ∧ By J r zA_ := fun A => by rw [← hwA]; exact bytesJ_spec _ A
     have ltA : ∀ x ∈ zA_, x < 256 := by rw [← hwA]; exact bts_b _
     generalize hwB : bts ((iB : Nat) : Int) = zB_ at *
     have hbB : ∀ A, FnX Tryz.prog 44 [.int .i64 ((iB : Nat) : Int)] [] A fun r M J => M = [] ∧ By J r zB_ := fun A => by rw [← hwB]; exact bytesJ_spec _ A
     have ltB : ∀ x ∈ zB_, x < 256 := by rw [← hwB]; exact bts_b _
     generalize hwS : bts ((iS : Nat) : Int) = zS_ at *
     have hbS : ∀ A, FnX Tryz.prog 44 [.int .i64 ((iS : Nat) : Int)] [] A fun r M J => M = [] ∧ By J r zS_ := fun A => by rw [← hwS]; exact bytesJ_spec _ A
     have ltS : ∀ x ∈ zS_, x < 256 := by rw [← hwS]; exact bts_b _
     generalize hwG : bts ((iG : Nat) : Int) = zG_ at *
     have hbG : ∀ A, FnX Tryz.prog 44 [.int .i64 ((iG : Nat) : Int)] [] A fun r M J => M = [] ∧ By J r zG_ := fun A => by rw [← hwG]; exact bytesJ_spec _ A
     have ltG : ∀ x ∈ zG_, x < 256 := by rw [← hwG]; exact bts_b _
     generalize hwN : bts ((iN : Nat) : Int) = zN_ at *
     have hbN : ∀ A, FnX Tryz.prog 44 [.int .i64 ((iN : Nat) : Int)] [] A fun r M J => M = [] ∧ By J r zN_ := fun A => by rw [← hwN]; exact bytesJ_spec _ A
     have ltN : ∀ x ∈ zN_, x < 256 := by rw [← hwN]; exact bts_b _
     generalize hwD : bts ((iD : Nat) : Int) = zD_ at *
     have hbD : ∀ A, FnX Tryz.prog 44 [.int .i64 ((iD : Nat) : Int)] [] A fun r M J => M = [] ∧ By J r zD_ := fun A => by rw [← hwD]; exact bytesJ_spec _ A
     have ltD : ∀ x ∈ zD_, x < 256 := by rw [← hwD]; exact bts_b _
     obtain ⟨z32, hz32⟩ : ∃ z : List Nat, List.replicate 32 0 = z := ⟨_, rfl⟩
     have hzl : z32.length = 32 := by rw [← hz32]; rfl
     have hzt : ∀ x ∈ z32, x < 256 := by rw [← hz32]; decide
     rw [hz32] at hf64
     refine XC.drawK (M95) ([]) true [0, 1, 2, 3, 4, 5, 6, 7, 8, 9, 10, 11, 12, 13, 14, 15, 16, 17, 18, 19, 20, 21, 22, 23, 24, 25, 26, 27, 28, 29, 30, 31, 32, 33, 34, 35, 36, 37, 38, 39, 40, 41, 42, 43, 44, 45, 46, 47, 48, 49, 50, 51, 52, 53, 54, 55, 56, 57, 58, 59, 60, 61, 62, 63, 64, 65, 66, 67, 68, 69, 70, 71, 72, 73, 74, 75, 76, 77, 78, 79] [(0, 0), (1, 1), (2, 0), (3, 3), (4, 4), (5, 0), (6, 0), (7, 0), (8, 0), (11, 0), (9, 2), (10, 3), (12, 3), (13, 4), (14, 0), (15, 0), (16, 0), (17, 0), (18, 0), (21, 0), (19, 2), (20, 3), (22, 3), (23, 4), (24, 0), (25, 0), (26, 0), (27, 0), (28, 0), (29, 0), (30, 0), (33, 0), (31, 2), (32, 3), (34, 3), (35, 4), (36, 0), (37, 0), (38, 0), (39, 0), (40, 0), (41, 0), (44, 0), (42, 3), (43, 3), (45, 3), (46, 3), (47, 3), (48, 3), (49, 4), (50, 0), (51, 0), (52, 0), (53, 0), (54, 0), (55, 0), (59, 0), (56, 2), (57, 2), (58, 3), (60, 3), (61, 4), (62, 0), (63, 0), (64, 0), (65, 0), (66, 0), (67, 0), (68, 0), (69, 0), (70, 0), (71, 0), (72, 1), (73, 1), (74, 0), (75, 3), (76, 4), (77, 0), (78, 0), (79, 0)] (by kernel_rfl) (by kernel_rfl) PickC.perm fun hs K n0 hKm hKs hKn => ?_
     refine XK.q hs rfl qm_ rfl ?_
     refine XK.r hs rfl (by first | exact fun x hx => by rw [List.append_assoc]; exact List.mem_append_right _ hx | exact SubC.sub) hKs (q_toStr2 rfl (by kernel_rfl) (h47.rd.mono SubC.sub)) rfl ?_
     refine XK.q hs rfl qm_ rfl ?_
     refine XK.groupC [⟨3, 99, none, [], fun v B R => B = [] ∧ By R v (zA_)⟩, ⟨4, 100, none, [], fun v B _ => B = [] ∧ v = (.string (txt (zA_)))⟩] (M95) (fun bs => [bs 3, bs 4]) (hKn rfl) (by simp [joinC, rootC]) (show ∀ m ∈ ([[], []] : List Mem), ∀ x ∈ m, K x.1 from allS (fun _ h => by cases h) (allS (fun _ h => by cases h) (all0))) (by kernel_rfl) (fun _ => by first | rfl | kernel_rfl)
      (allS (fun _ _ _ _ hR h => ⟨h.1, h.2.mono hR⟩) (allS (fun _ _ _ _ _ h => h) (all0))) (show List.Nodup [99, 100] by decide) (show List.Nodup [3, 4] by decide) (allS (blt_lt rfl) (allS (blt_lt rfl) (all0)))
      (allS ⟨_, rfl, fun vs bs R Rj wG hb hj hjr ha => ⟨.inl rfl, ?_⟩⟩ (allS ⟨_, rfl, fun vs bs R Rj wG hb hj hjr ha => ⟨.inl rfl, ?_⟩⟩ (all0))) ?_
     ·
      dsimp only [Gc.inp]
      refine l_call0 (aS rfl (a0)) (by kernel_rfl) (hbA _) rfl ?_
      rintro r M1 J1 ⟨rfl, hh⟩
      exact ⟨_, rfl, rfl, hh.mono fun x hx => by simp [hx]⟩
     ·
      dsimp only [Gc.inp]
      have g3 := ha _ (List.mem_of_getElem? (i := 0) rfl) (by kernel_rfl)
      replace g3 : (fun v B R => B = [] ∧ By R v (zA_)) (vs 3) (bs 3) Rj := g3
      dsimp only at g3
      obtain ⟨-, hq⟩ := g3
      exact OpQ.opL (q_toStr2 rfl (by kernel_rfl) (hq.rd.mono (fun x hx => by have := hjr x hx; simp [this]))) rfl ⟨_, rfl, rfl, rfl⟩
     intro vs bs Jn0 hφ hKK
     have kk3 := hKK _ (List.mem_of_getElem? (i := 0) rfl)
     dsimp only at kk3
     have kk4 := hKK _ (List.mem_of_getElem? (i := 1) rfl)
     dsimp only at kk4
     clear hKK
     have g3 := ofH hφ
     dsimp only at g3
     replace hφ := ofT hφ
     have g4 := ofH hφ
     dsimp only at g4
     clear hφ
     dsimp only [gEnvC, joinC, List.foldr, List.map, List.cons_append, List.nil_append]
     generalize bs 3 = B99 at *
     generalize bs 4 = B100 at *
     generalize vs 3 = u99 at *
     generalize vs 4 = u100 at *
     obtain ⟨rfl, h99⟩ := g3
     obtain ⟨rfl, rfl⟩ := g4
     try dsimp only [List.nil_append, List.append_nil]
     refine XK.q hs rfl ((show (decide (zA_ = zA_)) = true by simp) ▸ q_sEq rfl rfl rfl rfl ltA ltA) rfl ?_
     refine XK.q hs rfl qm_ rfl ?_
     refine XK.qg hs rfl rfl rfl rfl qm_ rfl ?_
     refine XK.qg hs rfl rfl rfl rfl qm_ rfl ?_
     refine XK.qg hs rfl rfl rfl rfl qm_ rfl ?_
     refine XK.lg M95 _ rfl rfl rfl rfl PickC.perm hKm fun w0 => (l_call (Mc := M95) (R := _) (aS rfl (aS rfl (a0))) (by kernel_rfl) PickC.perm (public_p pb s7 hr7 v47 (zA_) M95 _ hP95 (by omega) (h47.mono SubC.sub) hG.up) rfl ?_)
     rintro v105 M105 J105 ⟨hP105, h105⟩ hKx105
     haveI := h105.cel
     rw [hp7.1] at hP105
     rw [hp7.2] at h105
     try dsimp only [List.nil_append, List.append_eq, List.append_nil]
     refine XK.groupC [⟨10, 106, none, [], fun v B _ => B = [] ∧ v = (.string (txt (zB_)))⟩, ⟨12, 108, none, [], fun v B R => B = [] ∧ By R v (zB_)⟩, ⟨13, 109, none, [], fun v B _ => B = [] ∧ v = (.string (txt (zB_)))⟩] (M105) (fun bs => [bs 10, bs 12, bs 13]) (hKn rfl) (by simp [joinC, rootC]) (show ∀ m ∈ ([[], [], []] : List Mem), ∀ x ∈ m, K x.1 from allS (fun _ h => by cases h) (allS (fun _ h => by cases h) (allS (fun _ h => by cases h) (all0)))) (by kernel_rfl) (fun _ => by first | rfl | kernel_rfl)
      (allS (fun _ _ _ _ _ h => h) (allS (fun _ _ _ _ hR h => ⟨h.1, h.2.mono hR⟩) (allS (fun _ _ _ _ _ h => h) (all0)))) (show List.Nodup [106, 108, 109] by decide) (show List.Nodup [10, 12, 13] by decide) (allS (blt_lt rfl) (allS (blt_lt rfl) (allS (blt_lt rfl) (all0))))
      (allS ⟨_, rfl, fun vs bs R Rj wG hb hj hjr ha => ⟨.inr ⟨_, _, _, _, rfl, rfl, rfl, rfl⟩, ?_⟩⟩ (allS ⟨_, rfl, fun vs bs R Rj wG hb hj hjr ha => ⟨.inr ⟨_, _, _, _, rfl, rfl, rfl, rfl⟩, ?_⟩⟩ (allS ⟨_, rfl, fun vs bs R Rj wG hb hj hjr ha => ⟨.inr ⟨_, _, _, _, rfl, rfl, rfl, rfl⟩, ?_⟩⟩ (all0)))) ?_
     ·
      dsimp only [Gc.inp]
      exact OpQ.opL (q_toStr2 rfl (by kernel_rfl) (h105.rd.mono (fun x hx => by have := hb x (by simp [hx]); simp [this]))) rfl ⟨_, rfl, rfl, rfl⟩
     ·
      dsimp only [Gc.inp]
      refine l_call0 (aS rfl (a0)) (by kernel_rfl) (hbB _) rfl ?_
      rintro r M1 J1 ⟨rfl, hh⟩
      exact ⟨_, rfl, rfl, hh.mono fun x hx => by simp [hx]⟩
     ·
      dsimp only [Gc.inp]
      have g12 := ha _ (List.mem_of_getElem? (i := 1) rfl) (by kernel_rfl)
      replace g12 : (fun v B R => B = [] ∧ By R v (zB_)) (vs 12) (bs 12) Rj := g12
      dsimp only at g12
      obtain ⟨-, hq⟩ := g12
      exact OpQ.opL (q_toStr2 rfl (by kernel_rfl) (hq.rd.mono (fun x hx => by have := hjr x hx; simp [this]))) rfl ⟨_, rfl, rfl, rfl⟩
     intro vs bs Jn1 hφ hKK
     have kk10 := hKK _ (List.mem_of_getElem? (i := 0) rfl)
     dsimp only at kk10
     have kk12 := hKK _ (List.mem_of_getElem? (i := 1) rfl)
     dsimp only at kk12
     have kk13 := hKK _ (List.mem_of_getElem? (i := 2) rfl)
     dsimp only at kk13
     clear hKK
     have g10 := ofH hφ
     dsimp only at g10
     replace hφ := ofT hφ
     have g12 := ofH hφ
     dsimp only at g12
     replace hφ := ofT hφ
     have g13 := ofH hφ
     dsimp only at g13
     clear hφ
     dsimp only [gEnvC, joinC, List.foldr, List.map, List.cons_append, List.nil_append]
     generalize bs 10 = B106 at *
     generalize bs 12 = B108 at *
     generalize bs 13 = B109 at *
     generalize vs 10 = u106 at *
     generalize vs 12 = u108 at *
     generalize vs 13 = u109 at *
     obtain ⟨rfl, rfl⟩ := g10
     obtain ⟨rfl, -⟩ := g12
     obtain ⟨rfl, rfl⟩ := g13
     try dsimp only [List.nil_append, List.append_nil]
     refine XK.qg hs rfl rfl rfl rfl ((show (decide (zB_ = zB_)) = true by simp) ▸ q_sEq rfl rfl rfl rfl ltB ltB) rfl ?_
     refine XK.q hs rfl (q_pickT rfl rfl) rfl ?_
     refine XK.q hs rfl qm_ rfl ?_
     refine XK.qg hs rfl rfl rfl rfl qm_ rfl ?_
     refine XK.qg hs rfl rfl rfl rfl qm_ rfl ?_
     refine XK.qg hs rfl rfl rfl rfl qm_ rfl ?_
     refine XK.lg M105 _ rfl rfl rfl rfl PickC.perm (fun x hx => hKx105 (hKn rfl) x (by simpa using hx)) fun w0 => (l_call (Mc := M105) (R := _) (aS rfl (aS rfl (a0))) (by kernel_rfl) PickC.perm (signKey_p pb s7 hr7 v47 (zA_) M105 _ hP105 (h47.mono SubC.sub) (by omega) hG.up) rfl ?_)
     rintro v115 M115 J115 ⟨hP115, h115⟩ hKx115
     haveI := h115.cel
     rw [hp7.1] at hP115
     rw [hp7.2] at h115
     try dsimp only [List.nil_append, List.append_eq, List.append_nil]
     refine XK.groupC [⟨20, 116, none, [], fun v B _ => B = [] ∧ v = (.string (txt (zB_)))⟩, ⟨22, 118, none, [], fun v B R => B = [] ∧ By R v (zB_)⟩, ⟨23, 119, none, [], fun v B _ => B = [] ∧ v = (.string (txt (zB_)))⟩] (M115) (fun bs => [bs 20, bs 22, bs 23]) (hKn rfl) (by simp [joinC, rootC]) (show ∀ m ∈ ([[], [], []] : List Mem), ∀ x ∈ m, K x.1 from allS (fun _ h => by cases h) (allS (fun _ h => by cases h) (allS (fun _ h => by cases h) (all0)))) (by kernel_rfl) (fun _ => by first | rfl | kernel_rfl)
      (allS (fun _ _ _ _ _ h => h) (allS (fun _ _ _ _ hR h => ⟨h.1, h.2.mono hR⟩) (allS (fun _ _ _ _ _ h => h) (all0)))) (show List.Nodup [116, 118, 119] by decide) (show List.Nodup [20, 22, 23] by decide) (allS (blt_lt rfl) (allS (blt_lt rfl) (allS (blt_lt rfl) (all0))))
      (allS ⟨_, rfl, fun vs bs R Rj wG hb hj hjr ha => ⟨.inr ⟨_, _, _, _, rfl, rfl, rfl, rfl⟩, ?_⟩⟩ (allS ⟨_, rfl, fun vs bs R Rj wG hb hj hjr ha => ⟨.inr ⟨_, _, _, _, rfl, rfl, rfl, rfl⟩, ?_⟩⟩ (allS ⟨_, rfl, fun vs bs R Rj wG hb hj hjr ha => ⟨.inr ⟨_, _, _, _, rfl, rfl, rfl, rfl⟩, ?_⟩⟩ (all0)))) ?_
     ·
      dsimp only [Gc.inp]
      exact OpQ.opL (q_toStr2 rfl (by kernel_rfl) (h115.rd.mono (fun x hx => by have := hb x (by simp [hx]); simp [this]))) rfl ⟨_, rfl, rfl, rfl⟩
     ·
      dsimp only [Gc.inp]
      refine l_call0 (aS rfl (a0)) (by kernel_rfl) (hbB _) rfl ?_
      rintro r M1 J1 ⟨rfl, hh⟩
      exact ⟨_, rfl, rfl, hh.mono fun x hx => by simp [hx]⟩
     ·
      dsimp only [Gc.inp]
      have g22 := ha _ (List.mem_of_getElem? (i := 1) rfl) (by kernel_rfl)
      replace g22 : (fun v B R => B = [] ∧ By R v (zB_)) (vs 22) (bs 22) Rj := g22
      dsimp only at g22
      obtain ⟨-, hq⟩ := g22
      exact OpQ.opL (q_toStr2 rfl (by kernel_rfl) (hq.rd.mono (fun x hx => by have := hjr x hx; simp [this]))) rfl ⟨_, rfl, rfl, rfl⟩
     intro vs bs Jn2 hφ hKK
     have kk20 := hKK _ (List.mem_of_getElem? (i := 0) rfl)
     dsimp only at kk20
     have kk22 := hKK _ (List.mem_of_getElem? (i := 1) rfl)
     dsimp only at kk22
     have kk23 := hKK _ (List.mem_of_getElem? (i := 2) rfl)
     dsimp only at kk23
     clear hKK
     have g20 := ofH hφ
     dsimp only at g20
     replace hφ := ofT hφ
     have g22 := ofH hφ
     dsimp only at g22
     replace hφ := ofT hφ
     have g23 := ofH hφ
     dsimp only at g23
     clear hφ
     dsimp only [gEnvC, joinC, List.foldr, List.map, List.cons_append, List.nil_append]
     generalize bs 20 = B116 at *
     generalize bs 22 = B118 at *
     generalize bs 23 = B119 at *
     generalize vs 20 = u116 at *
     generalize vs 22 = u118 at *
     generalize vs 23 = u119 at *
     obtain ⟨rfl, rfl⟩ := g20
     obtain ⟨rfl, -⟩ := g22
     obtain ⟨rfl, rfl⟩ := g23
     try dsimp only [List.nil_append, List.append_nil]
     refine XK.qg hs rfl rfl rfl rfl ((show (decide (zB_ = zB_)) = true by simp) ▸ q_sEq rfl rfl rfl rfl ltB ltB) rfl ?_
     refine XK.q hs rfl (q_pickT rfl rfl) rfl ?_
     refine XK.q hs rfl qm_ rfl ?_
     refine XK.qg hs rfl rfl rfl rfl qm_ rfl ?_
     refine XK.qg hs rfl rfl rfl rfl qm_ rfl ?_
     refine XK.qg hs rfl rfl rfl rfl qm_ rfl ?_
     refine XK.qg hs rfl rfl rfl rfl qm_ rfl ?_
     refine XK.qg hs rfl rfl rfl rfl qm_ rfl ?_
     refine XK.lg M115 _ rfl rfl rfl rfl PickC.perm (fun x hx => hKx115 (hKn rfl) x (by simpa using hx)) fun w0 => (l_call (Mc := M115) (R := _) (aS rfl (aS rfl (aS rfl (aS rfl (a0))))) (by kernel_rfl) PickC.perm (seal_p pb s7 hr7 v47 v1 v2 (zA_) w1 w2 M115 _ hP115 (by omega) (h47.mono SubC.sub) (hv1.mono SubC.sub) (hv2.mono SubC.sub) hG.up) rfl ?_)
     rintro v127 M127 J127 ⟨hP127, h127⟩ hKx127
     haveI := h127.cel
     rw [se7.1] at hP127
     rw [se7.2] at h127
     try dsimp only [List.nil_append, List.append_eq, List.append_nil]
     refine XK.groupC [⟨32, 128, none, [], fun v B _ => B = [] ∧ v = (.string (txt (zS_)))⟩, ⟨34, 130, none, [], fun v B R => B = [] ∧ By R v (zS_)⟩, ⟨35, 131, none, [], fun v B _ => B = [] ∧ v = (.string (txt (zS_)))⟩] (M127) (fun bs => [bs 32, bs 34, bs 35]) (hKn rfl) (by simp [joinC, rootC]) (show ∀ m ∈ ([[], [], []] : List Mem), ∀ x ∈ m, K x.1 from allS (fun _ h => by cases h) (allS (fun _ h => by cases h) (allS (fun _ h => by cases h) (all0)))) (by kernel_rfl) (fun _ => by first | rfl | kernel_rfl)
      (allS (fun _ _ _ _ _ h => h) (allS (fun _ _ _ _ hR h => ⟨h.1, h.2.mono hR⟩) (allS (fun _ _ _ _ _ h => h) (all0)))) (show List.Nodup [128, 130, 131] by decide) (show List.Nodup [32, 34, 35] by decide) (allS (blt_lt rfl) (allS (blt_lt rfl) (allS (blt_lt rfl) (all0))))
      (allS ⟨_, rfl, fun vs bs R Rj wG hb hj hjr ha => ⟨.inr ⟨_, _, _, _, rfl, rfl, rfl, rfl⟩, ?_⟩⟩ (allS ⟨_, rfl, fun vs bs R Rj wG hb hj hjr ha => ⟨.inr ⟨_, _, _, _, rfl, rfl, rfl, rfl⟩, ?_⟩⟩ (allS ⟨_, rfl, fun vs bs R Rj wG hb hj hjr ha => ⟨.inr ⟨_, _, _, _, rfl, rfl, rfl, rfl⟩, ?_⟩⟩ (all0)))) ?_
     ·
      dsimp only [Gc.inp]
      exact OpQ.opL (q_toStr2 rfl (by kernel_rfl) (h127.rd.mono (fun x hx => by have := hb x (by simp [hx]); simp [this]))) rfl ⟨_, rfl, rfl, rfl⟩
     ·
      dsimp only [Gc.inp]
      refine l_call0 (aS rfl (a0)) (by kernel_rfl) (hbS _) rfl ?_
      rintro r M1 J1 ⟨rfl, hh⟩
      exact ⟨_, rfl, rfl, hh.mono fun x hx => by simp [hx]⟩
     ·
      dsimp only [Gc.inp]
      have g34 := ha _ (List.mem_of_getElem? (i := 1) rfl) (by kernel_rfl)
      replace g34 : (fun v B R => B = [] ∧ By R v (zS_)) (vs 34) (bs 34) Rj := g34
      dsimp only at g34
      obtain ⟨-, hq⟩ := g34
      exact OpQ.opL (q_toStr2 rfl (by kernel_rfl) (hq.rd.mono (fun x hx => by have := hjr x hx; simp [this]))) rfl ⟨_, rfl, rfl, rfl⟩
     intro vs bs Jn3 hφ hKK
     have kk32 := hKK _ (List.mem_of_getElem? (i := 0) rfl)
     dsimp only at kk32
     have kk34 := hKK _ (List.mem_of_getElem? (i := 1) rfl)
     dsimp only at kk34
     have kk35 := hKK _ (List.mem_of_getElem? (i := 2) rfl)
     dsimp only at kk35
     clear hKK
     have g32 := ofH hφ
     dsimp only at g32
     replace hφ := ofT hφ
     have g34 := ofH hφ
     dsimp only at g34
     replace hφ := ofT hφ
     have g35 := ofH hφ
     dsimp only at g35
     clear hφ
     dsimp only [gEnvC, joinC, List.foldr, List.map, List.cons_append, List.nil_append]
     generalize bs 32 = B128 at *
     generalize bs 34 = B130 at *
     generalize bs 35 = B131 at *
     generalize vs 32 = u128 at *
     generalize vs 34 = u130 at *
     generalize vs 35 = u131 at *
     obtain ⟨rfl, rfl⟩ := g32
     obtain ⟨rfl, -⟩ := g34
     obtain ⟨rfl, rfl⟩ := g35
     try dsimp only [List.nil_append, List.append_nil]
     refine XK.qg hs rfl rfl rfl rfl ((show (decide (zS_ = zS_)) = true by simp) ▸ q_sEq rfl rfl rfl rfl ltS ltS) rfl ?_
     refine XK.q hs rfl (q_pickT rfl rfl) rfl ?_
     refine XK.q hs rfl qm_ rfl ?_
     refine XK.qg hs rfl rfl rfl rfl qm_ rfl ?_
     refine XK.qg hs rfl rfl rfl rfl qm_ rfl ?_
     refine XK.qg hs rfl rfl rfl rfl qm_ rfl ?_
     refine XK.qg hs rfl rfl rfl rfl qm_ rfl ?_
     refine XK.groupC [⟨42, 138, none, M127, fun v B R => Prm pb s7 B ∧ By R v (fitN (zG_) 64)⟩, ⟨43, 139, none, [], fun v B _ => B = [] ∧ v = (.string (txt (fitN (zG_) 64)))⟩, ⟨45, 141, none, [], fun v B R => B = [] ∧ By R v (zG_)⟩, ⟨46, 142, none, [], fun v B _ => B = [] ∧ v = (.string (txt (zG_)))⟩, ⟨47, 143, none, [], fun v B _ => Sl 1 v 32 (nums .u8 (z32)) B⟩, ⟨48, 144, some 47, [], fun v B _ => v = .string (txt (z32))⟩, ⟨49, 145, none, [], fun v B _ => B = [] ∧ v = (.string (txt (zG_ ++ z32)))⟩] ([]) (fun bs => [bs 42, bs 43, bs 45, bs 46, bs 48, bs 49]) (hKn rfl) (by simp [joinC, rootC]) (show ∀ m ∈ ([M127, [], [], [], [], []] : List Mem), ∀ x ∈ m, K x.1 from allS (fun y hy => hKx127 (hKn rfl) y (by simpa using hy)) (allS (fun _ h => by cases h) (allS (fun _ h => by cases h) (allS (fun _ h => by cases h) (allS (fun _ h => by cases h) (allS (fun _ h => by cases h) (all0))))))) (by kernel_rfl) (fun _ => by first | rfl | kernel_rfl)
      (allS (fun _ _ _ _ h hp => ⟨hp.1, hp.2.mono h⟩) (allS (fun _ _ _ _ _ h => h) (allS (fun _ _ _ _ hR h => ⟨h.1, h.2.mono hR⟩) (allS (fun _ _ _ _ _ h => h) (allS (fun _ _ _ _ _ h => h) (allS (fun _ _ _ _ _ h => h) (allS (fun _ _ _ _ _ h => h) (all0)))))))) (show List.Nodup [138, 139, 141, 142, 143, 144, 145] by decide) (show List.Nodup [42, 43, 45, 46, 47, 48, 49] by decide) (allS (blt_lt rfl) (allS (blt_lt rfl) (allS (blt_lt rfl) (allS (blt_lt rfl) (allS (blt_lt rfl) (allS (blt_lt rfl) (allS (blt_lt rfl) (all0))))))))
      (allS ⟨_, rfl, fun vs bs R Rj wG hb hj hjr ha => ⟨.inr ⟨_, _, _, _, rfl, rfl, rfl, rfl⟩, ?_⟩⟩ (allS ⟨_, rfl, fun vs bs R Rj wG hb hj hjr ha => ⟨.inr ⟨_, _, _, _, rfl, rfl, rfl, rfl⟩, ?_⟩⟩ (allS ⟨_, rfl, fun vs bs R Rj wG hb hj hjr ha => ⟨.inr ⟨_, _, _, _, rfl, rfl, rfl, rfl⟩, ?_⟩⟩ (allS ⟨_, rfl, fun vs bs R Rj wG hb hj hjr ha => ⟨.inr ⟨_, _, _, _, rfl, rfl, rfl, rfl⟩, ?_⟩⟩ (allS ⟨_, rfl, fun vs bs R Rj wG hb hj hjr ha => ⟨.inr ⟨_, _, _, _, rfl, rfl, rfl, rfl⟩, ?_⟩⟩ (allS ⟨_, rfl, fun vs bs R Rj wG hb hj hjr ha => ⟨.inr ⟨_, _, _, _, rfl, rfl, rfl, rfl⟩, ?_⟩⟩ (allS ⟨_, rfl, fun vs bs R Rj wG hb hj hjr ha => ⟨.inr ⟨_, _, _, _, rfl, rfl, rfl, rfl⟩, ?_⟩⟩ (all0)))))))) ?_
     ·
      dsimp only [Gc.inp]
      refine l_call (Mc := M127) (R := []) (aS rfl (aS rfl (aS rfl a0))) (by kernel_rfl) (by simp) (psign_b pb s7 v47 v2 (zA_) w2 M127 _ hP127 (by omega) (h47.mono (fun x hx => by have := hb x (by simp [hx]); simp [this])) (hv2.mono (fun x hx => by have := hb x (by simp [hx]); simp [this])) (hG.sub (fun x hx => by have := hb x (by simp [hx]); simp [this]))) rfl ?_
      rintro v25 M25 J25 ⟨hP25, h25⟩
      rw [sg1] at hP25
      rw [sg2] at h25
      exact ⟨_, rfl, by simpa using hP25, h25.mono fun x hx => by simp [hx]⟩
     ·
      dsimp only [Gc.inp]
      have g42 := ha _ (List.mem_of_getElem? (i := 0) rfl) (by kernel_rfl)
      replace g42 : (fun v B R => Prm pb s7 B ∧ By R v (fitN (zG_) 64)) (vs 42) (bs 42) Rj := g42
      dsimp only at g42
      obtain ⟨-, hq⟩ := g42
      exact OpQ.opL (q_toStr2 rfl (by kernel_rfl) (hq.rd.mono (fun x hx => by have := hjr x hx; simp [this]))) rfl ⟨_, rfl, rfl, rfl⟩
     ·
      dsimp only [Gc.inp]
      have g42 := ha _ (List.mem_of_getElem? (i := 0) rfl) (by kernel_rfl)
      replace g42 : (fun v B R => Prm pb s7 B ∧ By R v (fitN (zG_) 64)) (vs 42) (bs 42) Rj := g42
      dsimp only at g42
      refine l_call0 (aS rfl (a0)) (by kernel_rfl) (hbG _) rfl ?_
      rintro r M1 J1 ⟨rfl, hh⟩
      exact ⟨_, rfl, rfl, hh.mono fun x hx => by simp [hx]⟩
     ·
      dsimp only [Gc.inp]
      have g42 := ha _ (List.mem_of_getElem? (i := 0) rfl) (by kernel_rfl)
      replace g42 : (fun v B R => Prm pb s7 B ∧ By R v (fitN (zG_) 64)) (vs 42) (bs 42) Rj := g42
      dsimp only at g42
      have g45 := ha _ (List.mem_of_getElem? (i := 2) rfl) (by kernel_rfl)
      replace g45 : (fun v B R => B = [] ∧ By R v (zG_)) (vs 45) (bs 45) Rj := g45
      dsimp only at g45
      obtain ⟨-, hq⟩ := g45
      exact OpQ.opL (q_toStr2 rfl (by kernel_rfl) (hq.rd.mono (fun x hx => by have := hjr x hx; simp [this]))) rfl ⟨_, rfl, rfl, rfl⟩
     ·
      dsimp only [Gc.inp]
      exact l_makeV (a := 32) (e := 5) (k := .u8) (by_ := 1) rfl rfl (by kernel_rfl) rfl rfl (by decide) (by decide) rfl fun v B hs => ⟨_, rfl, by rw [← hz32]; simpa using hs⟩
     ·
      dsimp only [Gc.inp]
      have g47 := ha _ (List.mem_of_getElem? (i := 4) rfl) (by kernel_rfl)
      replace g47 : (fun v B _ => Sl 1 v 32 (nums .u8 (z32)) B) (vs 47) (bs 47) Rj := g47
      dsimp only at g47
      exact OpQ.opL (q_toStr2 rfl (by kernel_rfl) (g47.rd fun x hx => List.mem_append_left _ hx)) rfl ⟨_, rfl, rfl⟩
     ·
      dsimp only [Gc.inp]
      have g42 := ha _ (List.mem_of_getElem? (i := 0) rfl) (by kernel_rfl)
      replace g42 : (fun v B R => Prm pb s7 B ∧ By R v (fitN (zG_) 64)) (vs 42) (bs 42) Rj := g42
      dsimp only at g42
      have g45 := ha _ (List.mem_of_getElem? (i := 2) rfl) (by kernel_rfl)
      replace g45 : (fun v B R => B = [] ∧ By R v (zG_)) (vs 45) (bs 45) Rj := g45
      dsimp only at g45
      have g46 := ha _ (List.mem_of_getElem? (i := 3) rfl) (by kernel_rfl)
      replace g46 : (fun v B _ => B = [] ∧ v = (.string (txt (zG_)))) (vs 46) (bs 46) Rj := g46
      dsimp only at g46
      have g47 := ha _ (List.mem_of_getElem? (i := 4) rfl) (by kernel_rfl)
      replace g47 : (fun v B _ => Sl 1 v 32 (nums .u8 (z32)) B) (vs 47) (bs 47) Rj := g47
      dsimp only at g47
      have g48 := ha _ (List.mem_of_getElem? (i := 5) rfl) (by kernel_rfl)
      replace g48 : (fun v B _ => v = .string (txt (z32))) (vs 48) (bs 48) Rj := g48
      dsimp only at g48
      obtain ⟨-, e46⟩ := g46
      exact OpQ.opL (q_sAdd (ws := zG_) (ws' := z32) (by rw [← e46]; rfl) (by rw [← g48]; rfl) rfl rfl (by omega)) rfl ⟨_, rfl, rfl, rfl⟩
     intro vs bs Jn4 hφ hKK
     have kk42 := hKK _ (List.mem_of_getElem? (i := 0) rfl)
     dsimp only at kk42
     have kk43 := hKK _ (List.mem_of_getElem? (i := 1) rfl)
     dsimp only at kk43
     have kk45 := hKK _ (List.mem_of_getElem? (i := 2) rfl)
     dsimp only at kk45
     have kk46 := hKK _ (List.mem_of_getElem? (i := 3) rfl)
     dsimp only at kk46
     have kk47 := hKK _ (List.mem_of_getElem? (i := 4) rfl)
     dsimp only at kk47
     have kk48 := hKK _ (List.mem_of_getElem? (i := 5) rfl)
     dsimp only at kk48
     have kk49 := hKK _ (List.mem_of_getElem? (i := 6) rfl)
     dsimp only at kk49
     clear hKK
     have g42 := ofH hφ
     dsimp only at g42
     replace hφ := ofT hφ
     have g43 := ofH hφ
     dsimp only at g43
     replace hφ := ofT hφ
     have g45 := ofH hφ
     dsimp only at g45
     replace hφ := ofT hφ
     have g46 := ofH hφ
     dsimp only at g46
     replace hφ := ofT hφ
     have g47 := ofH hφ
     dsimp only at g47
     replace hφ := ofT hφ
     have g48 := ofH hφ
     dsimp only at g48
     replace hφ := ofT hφ
     have g49 := ofH hφ
     dsimp only at g49
     clear hφ
     dsimp only [gEnvC, joinC, List.foldr, List.map, List.cons_append, List.nil_append]
     generalize bs 42 = B138 at *
     generalize bs 43 = B139 at *
     generalize bs 45 = B141 at *
     generalize bs 46 = B142 at *
     generalize bs 47 = B143 at *
     generalize bs 48 = B144 at *
     generalize bs 49 = B145 at *
     generalize vs 42 = u138 at *
     generalize vs 43 = u139 at *
     generalize vs 45 = u141 at *
     generalize vs 46 = u142 at *
     generalize vs 47 = u143 at *
     generalize vs 48 = u144 at *
     generalize vs 49 = u145 at *
     obtain ⟨hP138, -⟩ := g42
     obtain ⟨rfl, rfl⟩ := g43
     obtain ⟨rfl, -⟩ := g45
     obtain ⟨rfl, rfl⟩ := g46
     clear g47
     subst g48
     obtain ⟨rfl, rfl⟩ := g49
     rw [hf64]
     try dsimp only [List.nil_append, List.append_nil]
     refine XK.qg hs rfl rfl rfl rfl ((show (decide (zG_ ++ z32 = zG_ ++ z32)) = true by simp) ▸ q_sEq rfl rfl rfl rfl (lt_app2 ltG hzt) (lt_app2 ltG hzt)) rfl ?_
     refine XK.q hs rfl (q_pickT rfl rfl) rfl ?_
     refine XK.q hs rfl qm_ rfl ?_
     refine XK.qg hs rfl rfl rfl rfl qm_ rfl ?_
     refine XK.qg hs rfl rfl rfl rfl qm_ rfl ?_
     refine XK.qg hs rfl rfl rfl rfl qm_ rfl ?_
     refine XK.qg hs rfl rfl rfl rfl qm_ rfl ?_
     refine XK.lg [] _ rfl rfl rfl rfl (List.Perm.refl _) (fun _ h => by cases h) fun w0 => (l_buildSlice (e := 23) (sz := 1) (z := [.slice none 0 0, .slice none 0 0]) (by kernel_rfl) (eS rfl (eS rfl e0)) (bdS 0 1 rfl (by rfl) (bdS 1 1 rfl (by rfl) bd0)) rfl fun b152 => fun hk152 => ?_)
     dsimp only [List.cons_append, List.nil_append, List.append_eq]
     refine XK.lg B138 _ rfl rfl rfl rfl PickC.perm kk42 fun w0 => (l_call (Mc := B138) (R := _) (aS rfl (aS rfl (a0))) (by kernel_rfl) PickC.perm (name_p pb s7 hr7 (.slice (some ⟨b152, 0, none⟩) 2 2) [w1, w2] B138 _ hP138 (by omega) ⟨[v1, v2], Rd.whole (n := 2) At.mem (by rfl), Lst.cons (hv1.mono SubC.sub) (Lst.cons (hv2.mono SubC.sub) Lst.nil)⟩ (show 2 ≤ 1000 by decide) (by intro w hw; simp at hw; rcases hw with rfl | rfl; exact hv1.lt; exact hv2.lt) hG.up) rfl ?_)
     rintro v153 M153 J153 ⟨hP153, h153⟩ hKx153
     haveI := h153.cel
     rw [nm7.1] at hP153
     rw [nm7.2] at h153
     try dsimp only [List.nil_append, List.append_eq, List.append_nil]
     refine XK.groupC [⟨58, 154, none, [], fun v B _ => B = [] ∧ v = (.string (txt (zN_)))⟩, ⟨60, 156, none, [], fun v B R => B = [] ∧ By R v (zN_)⟩, ⟨61, 157, none, [], fun v B _ => B = [] ∧ v = (.string (txt (zN_)))⟩] (M153 ++ ((b152, blk [v1, v2] 23) :: B144)) (fun bs => [bs 58, bs 60, bs 61]) (hKn rfl) (by simp [joinC, rootC]) (show ∀ m ∈ ([[], [], []] : List Mem), ∀ x ∈ m, K x.1 from allS (fun _ h => by cases h) (allS (fun _ h => by cases h) (allS (fun _ h => by cases h) (all0)))) (by kernel_rfl) (fun _ => by first | rfl | kernel_rfl)
      (allS (fun _ _ _ _ _ h => h) (allS (fun _ _ _ _ hR h => ⟨h.1, h.2.mono hR⟩) (allS (fun _ _ _ _ _ h => h) (all0)))) (show List.Nodup [154, 156, 157] by decide) (show List.Nodup [58, 60, 61] by decide) (allS (blt_lt rfl) (allS (blt_lt rfl) (allS (blt_lt rfl) (all0))))
      (allS ⟨_, rfl, fun vs bs R Rj wG hb hj hjr ha => ⟨.inr ⟨_, _, _, _, rfl, rfl, rfl, rfl⟩, ?_⟩⟩ (allS ⟨_, rfl, fun vs bs R Rj wG hb hj hjr ha => ⟨.inr ⟨_, _, _, _, rfl, rfl, rfl, rfl⟩, ?_⟩⟩ (allS ⟨_, rfl, fun vs bs R Rj wG hb hj hjr ha => ⟨.inr ⟨_, _, _, _, rfl, rfl, rfl, rfl⟩, ?_⟩⟩ (all0)))) ?_
     ·
      dsimp only [Gc.inp]
      exact OpQ.opL (q_toStr2 rfl (by kernel_rfl) (h153.rd.mono (fun x hx => by have := hb x (by simp [hx]); simp [this]))) rfl ⟨_, rfl, rfl, rfl⟩
     ·
      dsimp only [Gc.inp]
      refine l_call0 (aS rfl (a0)) (by kernel_rfl) (hbN _) rfl ?_
      rintro r M1 J1 ⟨rfl, hh⟩
      exact ⟨_, rfl, rfl, hh.mono fun x hx => by simp [hx]⟩
     ·
      dsimp only [Gc.inp]
      have g60 := ha _ (List.mem_of_getElem? (i := 1) rfl) (by kernel_rfl)
      replace g60 : (fun v B R => B = [] ∧ By R v (zN_)) (vs 60) (bs 60) Rj := g60
      dsimp only at g60
      obtain ⟨-, hq⟩ := g60
      exact OpQ.opL (q_toStr2 rfl (by kernel_rfl) (hq.rd.mono (fun x hx => by have := hjr x hx; simp [this]))) rfl ⟨_, rfl, rfl, rfl⟩
     intro vs bs Jn5 hφ hKK
     have kk58 := hKK _ (List.mem_of_getElem? (i := 0) rfl)
     dsimp only at kk58
     have kk60 := hKK _ (List.mem_of_getElem? (i := 1) rfl)
     dsimp only at kk60
     have kk61 := hKK _ (List.mem_of_getElem? (i := 2) rfl)
     dsimp only at kk61
     clear hKK
     have g58 := ofH hφ
     dsimp only at g58
     replace hφ := ofT hφ
     have g60 := ofH hφ
     dsimp only at g60
     replace hφ := ofT hφ
     have g61 := ofH hφ
     dsimp only at g61
     clear hφ
     dsimp only [gEnvC, joinC, List.foldr, List.map, List.cons_append, List.nil_append]
     generalize bs 58 = B154 at *
     generalize bs 60 = B156 at *
     generalize bs 61 = B157 at *
     generalize vs 58 = u154 at *
     generalize vs 60 = u156 at *
     generalize vs 61 = u157 at *
     obtain ⟨rfl, rfl⟩ := g58
     obtain ⟨rfl, -⟩ := g60
     obtain ⟨rfl, rfl⟩ := g61
     try dsimp only [List.nil_append, List.append_nil]
     refine XK.qg hs rfl rfl rfl rfl ((show (decide (zN_ = zN_)) = true by simp) ▸ q_sEq rfl rfl rfl rfl ltN ltN) rfl ?_
     refine XK.q hs rfl (q_pickT rfl rfl) rfl ?_
     refine XK.q hs rfl qm_ rfl ?_
     refine XK.qg hs rfl rfl rfl rfl qm_ rfl ?_
     refine XK.qg hs rfl rfl rfl rfl (q_lenV2 (sz := 1) rfl (by kernel_rfl) hus) rfl ?_
     refine XK.qg hs rfl rfl rfl rfl (q_cmp true rfl rfl (eqT rfl)) rfl ?_
     refine XK.q hs rfl (q_pickT rfl rfl) rfl ?_
     refine XK.q hs rfl qm_ rfl ?_
     refine XK.qg hs rfl rfl rfl rfl qm_ rfl ?_
     refine XK.qg hs rfl rfl rfl rfl (q_atV2 (sz := 1) (a := 1) rfl rfl (by kernel_rfl) rfl hus (show 1 < 2 by decide)) rfl ?_
     refine XK.rg hs rfl rfl rfl rfl (by first | exact fun x hx => by rw [List.append_assoc]; exact List.mem_append_right _ hx | exact SubC.sub) hKs (q_ldV (j := 1) (u := u1) (hus.mono SubC.sub) rfl (by kernel_rfl) hu1) rfl ?_
     refine XK.rg hs rfl rfl rfl rfl (by first | exact fun x hx => by rw [List.append_assoc]; exact List.mem_append_right _ hx | exact SubC.sub) hKs (q_toStr2 rfl (by kernel_rfl) (hb1.rd.mono SubC.sub)) rfl ?_
     refine XK.qg hs rfl rfl rfl rfl qm_ rfl ?_
     refine XK.groupC [⟨75, 171, none, [], fun v B R => B = [] ∧ By R v (zD_)⟩, ⟨76, 172, none, [], fun v B _ => B = [] ∧ v = (.string (txt (zD_)))⟩] (M153 ++ ((b152, blk [v1, v2] 23) :: B144)) (fun bs => [bs 75, bs 76]) (hKn rfl) (by simp [joinC, rootC]) (show ∀ m ∈ ([[], []] : List Mem), ∀ x ∈ m, K x.1 from allS (fun _ h => by cases h) (allS (fun _ h => by cases h) (all0))) (by kernel_rfl) (fun _ => by first | rfl | kernel_rfl)
      (allS (fun _ _ _ _ hR h => ⟨h.1, h.2.mono hR⟩) (allS (fun _ _ _ _ _ h => h) (all0))) (show List.Nodup [171, 172] by decide) (show List.Nodup [75, 76] by decide) (allS (blt_lt rfl) (allS (blt_lt rfl) (all0)))
      (allS ⟨_, rfl, fun vs bs R Rj wG hb hj hjr ha => ⟨.inr ⟨_, _, _, _, rfl, rfl, rfl, rfl⟩, ?_⟩⟩ (allS ⟨_, rfl, fun vs bs R Rj wG hb hj hjr ha => ⟨.inr ⟨_, _, _, _, rfl, rfl, rfl, rfl⟩, ?_⟩⟩ (all0))) ?_
     ·
      dsimp only [Gc.inp]
      refine l_call0 (aS rfl (a0)) (by kernel_rfl) (hbD _) rfl ?_
      rintro r M1 J1 ⟨rfl, hh⟩
      exact ⟨_, rfl, rfl, hh.mono fun x hx => by simp [hx]⟩
     ·
      dsimp only [Gc.inp]
      have g75 := ha _ (List.mem_of_getElem? (i := 0) rfl) (by kernel_rfl)
      replace g75 : (fun v B R => B = [] ∧ By R v (zD_)) (vs 75) (bs 75) Rj := g75
      dsimp only at g75
      obtain ⟨-, hq⟩ := g75
      exact OpQ.opL (q_toStr2 rfl (by kernel_rfl) (hq.rd.mono (fun x hx => by have := hjr x hx; simp [this]))) rfl ⟨_, rfl, rfl, rfl⟩
     intro vs bs Jn6 hφ hKK
     have kk75 := hKK _ (List.mem_of_getElem? (i := 0) rfl)
     dsimp only at kk75
     have kk76 := hKK _ (List.mem_of_getElem? (i := 1) rfl)
     dsimp only at kk76
     clear hKK
     have g75 := ofH hφ
     dsimp only at g75
     replace hφ := ofT hφ
     have g76 := ofH hφ
     dsimp only at g76
     clear hφ
     dsimp only [gEnvC, joinC, List.foldr, List.map, List.cons_append, List.nil_append]
     generalize bs 75 = B171 at *
     generalize bs 76 = B172 at *
     generalize vs 75 = u171 at *
     generalize vs 76 = u172 at *
     obtain ⟨rfl, -⟩ := g75
     obtain ⟨rfl, rfl⟩ := g76
     try dsimp only [List.nil_append, List.append_nil]
     refine XK.qg hs rfl rfl rfl rfl ((show (decide (zD_ = zD_)) = true by simp) ▸ q_sEq rfl rfl rfl rfl ltD ltD) rfl ?_
     refine XK.q hs rfl (q_pickT rfl rfl) rfl ?_
     refine XK.q hs rfl (q_assign rfl) rfl ?_
     refine XK.fin (kq 8 kn) ?_
     refine XC.ret ?_
     exact ⟨_, [], [], res1 rfl rfl, List.nil_sublist _, by simp, rfl, rfl, rfl⟩

end Go.Proofs.YtphcaiplgpmnnaaGreatDoor
/- Terms that came in; what the rows' lists give. -/
namespace Go.Proofs.YtphcaiplgpmnnaaGreatDoor
open Go.Px Go.ChangeShapes Go.WideShapes Go.ChangeAt Go.RowKit
section
variable {H : Type} {enc : TypeId × Value → H} {P : Program} {w : World} {spare : Nat → Bool} {held : Bool} {fuel : Nat} {t e : TypeId} {cs : List Value} {x : DataW H × List MemPlace} {v : Value} {d : DataW H} {p : List MemPlace} {r : Reach} {base : Nat} {k : IntKind}
theorem ba_txt (s : ByteArray) : ∃ ws : List Nat, s = txt ws ∧ B256 ws ∧ ws.length = s.size := by
  refine ⟨s.data.toList.map UInt8.toNat, ?_, ⟨fun x hx => ?_⟩, by rw [List.length_map, Array.length_toList]; rfl⟩
  · apply ByteArray.ext
    have e : (UInt8.ofNat ∘ UInt8.toNat) = id := by funext c; simp
    simp [txt, e]
  · obtain ⟨c, _, rfl⟩ := List.mem_map.1 hx
    exact c.toNat_lt
end
theorem var_heap {P : Program} {W : World} {name : String} {g : Nat} {cs : Array Value} (hg : P.globalNamed name = some g) (h : W.var? P name = some cs) : ∃ e fr, W.heap[g]? = some (.cells cs e fr) := by
  unfold World.var? at h
  rw [hg] at h
  simp only [Option.bind_some] at h
  split at h
  · rename_i c e fr hh
    cases h
    exact ⟨e, fr, hh⟩
  · cases h
def zints (ws : List Nat) : List Int := ws.map fun n : Nat => (n : Int)
theorem zints_nums (k : IntKind) (ws : List Nat) : ((zints ws).map fun z => Value.int k z).toArray = (nums k ws).toArray := by simp [zints, nums]
theorem pow_tab {W : World} {a b : String × DataW Unit} {rest : List (String × DataW Unit)} (h : laidMet Tryz.prog (a :: b :: ("internal/strconv.uint64pow10", Rows.laid_internal_strconv_uint64pow10) :: rest) W) : ∃ e fr, W.heap[2]? = some (Obj.cells (nums .u64 pow10T).toArray e fr) := by
  have h' : laidMet Tryz.prog (("internal/strconv.uint64pow10", Lib.tabData .u64 (zints pow10T)) :: rest) W := h.tail.tail
  have h1 := Lib.tabIs_of_head (g := 2) (t := 240) (e := 28) (n := 20) (by kernel_rfl) (by kernel_rfl) (by kernel_rfl) (by kernel_rfl) (by kernel_rfl) (by kernel_rfl) h'
  obtain ⟨ek, fk, h3⟩ := var_heap (g := 2) (by kernel_rfl) h1
  rw [zints_nums] at h3
  exact ⟨ek, fk, h3⟩
end Go.Proofs.YtphcaiplgpmnnaaGreatDoor

/- What the rows' lists give: the tables of packages sha and strconv. -/
namespace Go.Proofs.YtphcaiplgpmnnaaGreatDoor
open Go.Px
theorem glb_in {W : World} {a b : String × DataW Unit} {rest : List (String × DataW Unit)} (h : laidMet Tryz.prog (a :: b :: ("internal/strconv.uint64pow10", Rows.laid_internal_strconv_uint64pow10) :: ("pawl/sha.round", Rows.laid_pawl_sha_round) :: ("pawl/sha.first", Rows.laid_pawl_sha_first) :: rest) W) : Glb (heapA W) := by
  obtain ⟨e4, f4, h4⟩ := pow_tab h
  have h' : laidMet Tryz.prog (("pawl/sha.round", Lib.tabData .u32 (zints kTab)) :: ("pawl/sha.first", Lib.tabData .u32 (zints hFirst.list)) :: rest) W := h.tail.tail.tail
  have h1 := Lib.tabIs_of_head (g := 1) (t := 194) (e := 22) (n := 64) (by kernel_rfl) (by kernel_rfl) (by kernel_rfl) (by kernel_rfl) (by kernel_rfl) (by kernel_rfl) h'
  have h2 := Lib.tabIs_of_head (g := 0) (t := 159) (e := 22) (n := 8) (by kernel_rfl) (by kernel_rfl) (by kernel_rfl) (by kernel_rfl) (by kernel_rfl) (by kernel_rfl) h'.tail
  obtain ⟨ek, fk, h3⟩ := var_heap (g := 1) (by kernel_rfl) h1
  obtain ⟨ef, ff, h5⟩ := var_heap (g := 0) (by kernel_rfl) h2
  rw [zints_nums] at h3 h5
  exact ⟨⟨ef, ff, heapA_mem.2 h5⟩, ⟨ek, fk, heapA_mem.2 h3⟩, ⟨e4, f4, heapA_mem.2 h4⟩⟩
end Go.Proofs.YtphcaiplgpmnnaaGreatDoor

/- The card of the law PrimTerms: it returns true for every input; each argument reads behind the call as it read before; the listed package variables are tied to the program's text. No further condition. -/
namespace Go.Proofs.YtphcaiplgpmnnaaGreatDoor.primTerms
open Go.ChangeShapes Go.WideShapes Go.ChangeAt Go.RowKit

theorem own : ownKnob Tryz.prog.godebug = none := by kernel_rfl
theorem laidOut : laidOutB Tryz.prog = true := by kernel_rfl

noncomputable def laidWorld (os : Os) : World := World.laidAll Tryz.prog os Rows.primTermsRow.laid
theorem laid_met (os : Os) : laidMetH Tryz.prog Rows.primTermsRow.laid ((laidWorld os).forCall (fun _ _ => 0) ⟨#[], #[.slice none 0 0, .slice none 0 0, .slice none 0 0, .string ByteArray.empty], []⟩).memory := by
  rw [MakeChecks.laidMetH_plain _ _ _ (by kernel_rfl)]; exact laidMet_laidAll _ (by kernel_rfl) (by kernel_rfl)
theorem reads (os : Os) {H : Type} (enc : TypeId × Value → H) : ∃ places, DataW.whole enc Tryz.prog ((laidWorld os).forCall (fun _ _ => 0) ⟨#[], #[.slice none 0 0, .slice none 0 0, .slice none 0 0, .string ByteArray.empty], []⟩).memory Tryz.f10.params.toList Rows.primTermsSpec.vars false (#[.slice none 0 0, .slice none 0 0, .slice none 0 0, .string ByteArray.empty] : Array Value).toList 8 = some ([.nil, .nil, .nil, .lit (.string [])], [], places) :=
  ⟨[], by kernel_rfl⟩

theorem lifted (os : Os) (started : os.Started) (H : Type) (enc : TypeId × Value → H) (F : Stop.Interp) :
    ReturnsInHanded {} Tryz.checked os 10 .any ((OpenSpec.ofChange Rows.primTermsSpec).preRow enc Tryz.prog Tryz.f10 Rows.primTermsRow.domain false Rows.primTermsRow.laid) (((OpenSpec.ofChange Rows.primTermsSpec).at F).post enc Tryz.prog Tryz.f10 false true false false) := by
  obtain ⟨places, hx⟩ := reads os enc
  refine returnsInHanded_of_row (C := Tryz.checked) (s := (OpenSpec.ofChange Rows.primTermsSpec)) own started (by kernel_rfl) Tryz.func10
    (witness_row_at (enc := enc) (C := Tryz.checked) false (laidWorld os) #[.slice none 0 0, .slice none 0 0, .slice none 0 0, .string ByteArray.empty] (World.laidAll_os _ _ _) (by kernel_rfl) (by kernel_rfl) (by kernel_rfl)
      (OpenSpec.preRow_of_cond 8 hx (by kernel_rfl) (fun k hk => by cases hk) (by kernel_rfl) (laid_met os))) ?_
  intro W base args ds gs before hval0 hW _ _ _ hL _ _
  have hval : ∀ (j : Nat) t v, Tryz.f10.params[j]? = some t → args[j]? = some v → Value.okWide Tryz.prog W .any base t v := hval0
  have hW' := hW
  obtain ⟨p, q, hA0, hV, rfl, hfz, hnd⟩ := hW
  have hA : DataW.TrodAll enc Tryz.prog W 0 (fun _ => true) true Tryz.f10.params.toList args.toList ds p := hA0
  rw [Tryz.params10] at hA hval
  obtain ⟨v0, vs0, d0, ds0, p0, q0, hargs, rfl, rfl, k0, r0_⟩ := trodAll_cons hA
  obtain ⟨v1, vs1, d1, ds1, p1, q1, rfl, rfl, rfl, k1, r1_⟩ := trodAll_cons r0_
  obtain ⟨v2, vs2, d2, ds2, p2, q2, rfl, rfl, rfl, k2, r2_⟩ := trodAll_cons r1_
  obtain ⟨v3, vs3, d3, ds3, p3, q3, rfl, rfl, rfl, k3, r3_⟩ := trodAll_cons r2_
  obtain ⟨rfl, rfl, rfl⟩ := trodAll_nil r3_
  obtain rfl : args = #[v0, v1, v2, v3] := by cases args; simp_all
  obtain ⟨rfl, rfl⟩ := trodVars_none hV
  have lt0 : ∀ x ∈ p0, x.block < W.heap.size := by obtain ⟨m, hm⟩ := k0; exact DataW.trod_lt m _ _ _ hm
  have lt1 : ∀ x ∈ p1, x.block < W.heap.size := by obtain ⟨m, hm⟩ := k1; exact DataW.trod_lt m _ _ _ hm
  have lt2 : ∀ x ∈ p2, x.block < W.heap.size := by obtain ⟨m, hm⟩ := k2; exact DataW.trod_lt m _ _ _ hm
  have lt3 : ∀ x ∈ p3, x.block < W.heap.size := by obtain ⟨m, hm⟩ := k3; exact DataW.trod_lt m _ _ _ hm
  obtain ⟨x0, r0, hx0, l0⟩ := Px.inSlU Tryz.underlying23 Tryz.underlying5 (by kernel_rfl) rfl (hval 0 23 v0 rfl rfl) k0
  obtain ⟨x1, r1, hx1, l1⟩ := Px.inSlU Tryz.underlying23 Tryz.underlying5 (by kernel_rfl) rfl (hval 1 23 v1 rfl rfl) k1
  obtain ⟨x2, r2, hx2, l2⟩ := Px.inSlU Tryz.underlying23 Tryz.underlying5 (by kernel_rfl) rfl (hval 2 23 v2 rfl rfl) k2
  obtain ⟨x3, rfl, hx3⟩ := Px.inS Tryz.underlying9 (hval 3 9 v3 rfl rfl) k3
  obtain ⟨xw3, rfl, xb3, xl3⟩ := ba_txt x3
  clear hA0 hval0
  rw [MakeChecks.laidMetH_plain _ _ _ (by kernel_rfl)] at hL
  have hG := glb_in hL
  refine Calls.mono ((primTerms_f v0 v1 v2 x0 x1 x2 xw3 _ r0 hx0 r1 hx1 r2 hx2 xb3 hG).calls (Px.heapA_fx W)) fun e W' ⟨he, bel⟩ => ?_
  subst he
  exact ⟨_, rfl, _, _, _, [], _, [], hW', trodAll_mk1 (shut_bool Tryz.underlying4 _), (trodAll_cons_mk (Below.trod laidOut (by kernel_rfl) (of_decide_eq_true (by kernel_rfl)) k0 bel lt0) (trodAll_cons_mk (Below.trod laidOut (by kernel_rfl) (of_decide_eq_true (by kernel_rfl)) k1 bel lt1) (trodAll_cons_mk (Below.trod laidOut (by kernel_rfl) (of_decide_eq_true (by kernel_rfl)) k2 bel lt2) (trodAll_cons_mk (Below.trod laidOut (by kernel_rfl) (of_decide_eq_true (by kernel_rfl)) k3 bel lt3) trodAll_mk0)))), rfl, bel.frame _, fun h => by cases h⟩

theorem said : Rows.PrimTermsSaid :=
  OpenClaim.holds_of_cond 10 Tryz.f10 rfl rfl rfl rfl rfl rfl rfl ⟨rfl, rfl, rfl, rfl, rfl⟩ rfl rfl rfl rfl rfl (by kernel_rfl) Tryz.func10 (by kernel_rfl)
    (of_decide_eq_true (by kernel_rfl)) (by unfold Func.isWrapper; first | (rw [if_pos (by decide +kernel)]; kernel_rfl) | (rw [if_neg (by decide +kernel)]; exact ⟨rfl, rfl⟩))
    (fun os started H enc _ F => by rw [OpenClaim.pre_eq_preRow]; exact lifted os started H enc F)
theorem plain (f : FuncId) (fn : Func) (hf : Tryz.pinned.checked.prog.funcNamed "pawl/pawllaw08.PrimTerms" = some f) (hfn : Tryz.pinned.checked.prog.funcs[f]? = some fn) :
    true = Tryz.pinned.checked.prog.looks [] ∧ ∀ (j : Nat) t, fn.params[j]? = some t → Tryz.pinned.checked.prog.wantsStandIn t = false := by
  obtain rfl : f = 10 := Option.some.inj ((show Tryz.prog.funcNamed "pawl/pawllaw08.PrimTerms" = some 10 by kernel_rfl).symm.trans hf) |>.symm
  obtain rfl : fn = Tryz.f10 := (Option.some.inj (Tryz.func10.symm.trans hfn)).symm
  refine ⟨by kernel_rfl, fun j t ht => ?_⟩
  rw [Tryz.params10] at ht
  have hm := Array.mem_of_getElem? ht
  simp only [List.mem_toArray, List.mem_cons, List.not_mem_nil, or_false] at hm
  rcases hm with rfl | rfl | rfl | rfl
  · exact (show Tryz.prog.wantsStandIn 23 = false by kernel_rfl)
  · exact (show Tryz.prog.wantsStandIn 23 = false by kernel_rfl)
  · exact (show Tryz.prog.wantsStandIn 23 = false by kernel_rfl)
  · exact (show Tryz.prog.wantsStandIn 9 = false by kernel_rfl)

theorem proved : Rows.PrimTermsCardSaid :=
  Claim7.holds_tied_plain_at .later [] _ _ _ _ said (fun _ h => by cases h) (by kernel_rfl) (fun _ h => by cases h) primTerms_row_tie rfl ⟨rfl, rfl⟩ (by kernel_rfl) rfl plain (by kernel_rfl)
#print axioms proved
end Go.Proofs.YtphcaiplgpmnnaaGreatDoor.primTerms



