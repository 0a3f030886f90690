/- The card of the law KeysBytes: it returns true for every input; each argument reads behind the call as it read before; the listed package variables are tied to the program's text. No further condition. -/
import Derived.Test.YtphcaiplgpmnnaaGreatDoorB19
import Derived.Lib.LaidTab
import Derived.Stop.LaidErr
import Derived.MakeChecks
import Derived.Test.YtphcaiplgpmnnaaGreatDoorCards
import Derived.Test.YtphcaiplgpmnnaaGreatDoorTie
import Derived.Deep.DeepHandedRow
import Derived.Deep.DeepWitnessRowRef
import Derived.Lay
import Derived.LaidMore
set_option linter.unusedVariables false
set_option linter.unusedSimpArgs false
set_option maxRecDepth 100000
namespace Go.Proofs.YtphcaiplgpmnnaaGreatDoor
open Go.Px
structure KbI (i : Nat) (k : Ks) (s : Ps) : Prop where
  ok : KsOk k
  sm : Ksm k
  sg : 1 ≤ k.signed.length
  rise : (onN k).Pairwise (· < ·)
  lt : ∀ x ∈ onN k, x < k.next
  who : k.user = 5 ∧ k.dev = 7
  met : k.met = []
  nx : k.next ≤ 6 + 4 * i
  ts : s.ts.length ≤ 11 + 5 * i
  n : s.n ≤ 7 + 4 * i
theorem KbI.new {m : Nat} : KbI 0 (newK ((5 : Nat) : Int) ((7 : Nat) : Int) (opK m)).1 (newK ((5 : Nat) : Int) ((7 : Nat) : Int) (opK m)).2 := by
  have h := newK_ps ((5 : Nat) : Int) ((7 : Nat) : Int) (opK m)
  have h1 := new_on ((5 : Nat) : Int) ((7 : Nat) : Int) (opK m)
  have h2 := new_sn ((5 : Nat) : Int) ((7 : Nat) : Int) (opK m)
  have h3 := new_next ((5 : Nat) : Int) ((7 : Nat) : Int) (opK m)
  have e1 : (opK m).ts.length = 0 := rfl
  have e2 : (opK m).n = 0 := rfl
  have l2 := sn_len (newK ((5 : Nat) : Int) ((7 : Nat) : Int) (opK m)).1
  rw [h2] at l2
  exact ⟨KsOk.new (by decide) (by decide) _, Ksm.new, by rw [← l2]; decide, by rw [h1]; decide, by rw [h1, h3]; decide, new_who _ _ _, new_met _ _ _, by omega, by omega, by omega⟩
theorem KbI.turn {i : Nat} {k : Ks} {s : Ps} (h : KbI i k s) (hi : i < 1000) : KbI (i + 1) (turnK k s).1 (turnK k s).2 := by
  have hp := turnK_ps k s
  have hn := turnK_next k s
  have a := h.nx
  have b := h.ts
  have c := h.n
  have l2 := sn_len (turnK k s).1
  rw [turn_sn] at l2
  simp at l2
  have hm : (turnK k s).1.met = [] := by
    show k.met.filter _ = []
    rw [h.met]; rfl
  exact ⟨h.ok.turn s (by omega), h.sm.turn s, by omega, by rw [turn_on]; exact h.rise, by rw [turn_on]; exact fun x hx => by have := h.lt x hx; omega, h.who, hm, by omega, by omega, by omega⟩
theorem KbI.fill {i : Nat} {k : Ks} {s : Ps} (h : KbI i k s) (hi : i < 1000) : KbI (i + 1) (fillK k s).1 (fillK k s).2 := by
  have hp := fillK_ps k s
  have hn := fill_next k s
  have a := h.nx
  have b := h.ts
  have c := h.n
  have e := fill_eq k s
  obtain ⟨m1, m2⟩ := more_rise h.rise h.lt (4 - k.once.length)
  rw [← fill_on] at m1 m2
  exact ⟨h.ok.fill s (by omega), h.sm.fillI _, by rw [e]; exact h.sg, m1, fun x hx => by have := m2 x hx; omega, by rw [e]; exact h.who, by rw [e]; exact h.met, by omega, by omega, by omega⟩
theorem KbI.use {i : Nat} {k : Ks} {s : Ps} (h : KbI i k s) (n : Nat) : KbI (i + 1) (useK k n) s :=
  ⟨h.ok.use n, h.sm.use n, h.sg, by rw [use_on]; exact h.rise.filter _, fun x hx => by rw [use_on] at hx; exact h.lt x (List.mem_filter.1 hx).1, h.who, h.met, by have := h.nx; show k.next ≤ _; omega, by have := h.ts; omega, by have := h.n; omega⟩
theorem KbI.back {i : Nat} {k : Ks} {s : Ps} (h : KbI i k s) : decK (encK k) = k ∧ decOk (encK k) = true := by
  refine dec_encK h.ok (fun e => ?_) (rise_of h.rise)
  have := h.sg
  rw [e] at this
  exact absurd this (by decide)
theorem KbI.small {i : Nat} {k : Ks} {s : Ps} (h : KbI i k s) : (encK k).length ≤ 20000 := enc_small h.sm h.ok.signed.1 h.ok.once.1 (by rw [h.met]; intro x hx; cases hx) (by rw [h.met]; exact Nat.zero_le _)
def ec (b : Bool) : Int := if b then 0 else 4
theorem ec_eq0 (b : Bool) : arith .eql .i64 (ec b) 0 = some (.bool b) := by cases b <;> rfl
theorem ec_ne0 (b : Bool) : arith .neq .i64 (ec b) 0 = some (.bool !b) := by cases b <;> rfl
theorem ec_eq4 (b : Bool) : arith .eql .i64 (ec b) 4 = some (.bool !b) := by cases b <;> rfl
theorem ec_ne4 (b : Bool) : arith .neq .i64 (ec b) 4 = some (.bool b) := by cases b <;> rfl
theorem decode_u (v : Value) (p : List Nat) (A : Mem) (hv : By A v p) (hpl : p.length ≤ 700000) : FnX Tryz.prog 29 [v] [] A fun q M J => ∃ op : Option Addr, q = .tuple #[.pointer op, .int .i64 (ec (decOk p))] ∧ (decOk p = true → ∃ kb, op = some ⟨kb, 0, none⟩ ∧ Kys J kb (decK p) M) ∧ (decOk p = false → op = none ∧ M = []) :=
  (decode_f v p A hv hpl).mono fun q M J h => by
    rcases h with ⟨h1, kb, rfl, h2⟩ | ⟨h1, rfl, h2⟩
    · exact ⟨_, by rw [h1]; rfl, fun _ => ⟨kb, rfl, h2⟩, fun h => by rw [h1] at h; cases h⟩
    · exact ⟨none, by rw [h1]; rfl, (fun h => by rw [h1] at h; cases h), fun _ => ⟨rfl, h2⟩⟩
theorem decOk_same {p : List Nat} (h : decOk p = true) : encK (decK p) = p := by
  unfold decOk at h
  simp only [Bool.and_eq_true, decide_eq_true_iff] at h
  exact h.2
theorem decK_who {p : List Nat} (h : ∀ x ∈ p, x < 256) : (∃ u : Nat, (decK p).user = (u : Int) ∧ u < 4294967296) ∧ ∃ u : Nat, (decK p).dev = (u : Int) ∧ u < 4294967296 := by
  have hs : ∀ x ∈ (dk1 p).1, x < 256 := fun x hx => by
    unfold dk1 rnS at hx
    split at hx
    · exact h x hx
    · exact h x (List.mem_of_mem_drop hx)
  exact ⟨⟨_, rfl, rnN_lk (st := (p, false)) h 4⟩, ⟨_, rfl, rnN_lk hs 4⟩⟩
structure KbS where
  i : Nat
  k : Ks
  s : Ps
  MK : Mem
  MP : Mem
  J : Mem

set_option maxHeartbeats 1600000 in
theorem keysBytes_f (m at_ tu : Nat) (v v2 : Value) (ws ws2 : List Nat) (A : Mem) (hm : m < 256) (hat : at_ < 65536) (htu : tu < 256) (hv : Rd A 1 v ws.length (nums .u8 ws)) (hlt1 : ∀ x ∈ ws, x < 256) (hr2_ : Rd A 1 v2 ws2.length (nums .u8 ws2)) (hx2_ : ∀ x ∈ ws2, x < 256) (hG : Glb A) : FnV Tryz.prog 9 [.int .u8 ((m : Nat) : Int), v, v2, .int .u16 ((at_ : Nat) : Int), .int .u8 ((tu : Nat) : Int)] A (.bool true) := by
 haveI := hv.cel
 haveI := hr2_.cel
 refine FnX.enter (N := 183) Tryz.func9 rfl rfl rfl fun w_ => ?_
 refine XC.keep (kq 0 (kq 1 (kq 2 (kq 3 (kq 4 kn))))) ?_
 refine XC.reg ?_
 refine as_ ?_
 refine XL.fin (kq 0 (kq 1 (kq 2 (kq 3 (kq 4 kn))))) ?_
 refine XC.seq ?_
 refine XC.reg ?_
 refine XL.callV a0 (by kernel_rfl) (awake12_f _ hG.up) rfl ?_
 refine XL.q (q_not rfl) rfl ?_
 refine mv_ ?_
 refine XL.gy rfl rfl (OpQ.opL qm_ rfl ?_)
 refine XL.gy rfl rfl (OpQ.opL (q_lenV2 (sz := 1) rfl (by kernel_rfl) (by first | assumption | exact Sl.rd (by assumption) (fun _ h => h) | exact By.rd (by assumption))) rfl ?_)
 refine XL.gy rfl rfl (OpQ.opL (q_bin rfl rfl rfl) rfl ?_)
 refine XL.q (q_pickF rfl rfl) rfl ?_
 refine mv_ ?_
 refine XL.split (t := 28) rfl (fun hb => ?_) (fun hb => ?_)
 ·
  refine XL.gn rfl rfl rfl rfl ?_
  refine XL.gn rfl rfl rfl rfl ?_
  refine XL.gn rfl rfl rfl rfl ?_
  refine XL.q (q_pickT rfl rfl) rfl ?_
  refine XL.fin (kq 0 (kq 1 (kq 2 (kq 3 (kq 4 (kq 32 kn)))))) ?_
  refine XC.condT rfl ?_
  refine XC.reg ?_
  refine XL.callV a0 (by kernel_rfl) (awake12_f _ hG.up) rfl ?_
  refine as_ ?_
  refine XL.fin (kq 10 kn) ?_
  refine XC.ret ?_
  refine tr ?_
  exact ⟨_, [], [], res1 rfl rfl, List.nil_sublist _, by simp, rfl, rfl, rfl⟩
 ·
  have hlen : ws.length ≤ 10 := by have := hb; simp at this; omega
  refine XL.gy rfl rfl (OpQ.opL qm_ rfl ?_)
  refine XL.gy rfl rfl (OpQ.opL (q_lenV2 (sz := 1) rfl (by kernel_rfl) (by first | assumption | exact Sl.rd (by assumption) (fun _ h => h) | exact By.rd (by assumption))) rfl ?_)
  refine XL.gy rfl rfl (OpQ.opL (q_bin rfl rfl rfl) rfl ?_)
  refine XL.q (q_pickF rfl rfl) rfl ?_
  refine XL.fin (kq 0 (kq 1 (kq 2 (kq 3 (kq 4 (kq 32 kn)))))) ?_
  refine XC.cond rfl (fun hc => ?_) (fun hc => ?_)
  ·
   refine XC.reg ?_
   refine XL.callV a0 (by kernel_rfl) (awake12_f _ hG.up) rfl ?_
   refine as_ ?_
   refine XL.fin (kq 10 kn) ?_
   refine XC.ret ?_
   refine tr ?_
   exact ⟨_, [], [], res1 rfl rfl, List.nil_sublist _, by simp, rfl, rfl, rfl⟩
  ·
   have hlen2 : ws2.length ≤ 500 := by simp at hc; omega
   have hv2 : By A v2 ws2 := ⟨hr2_, hx2_, by omega⟩
   refine XC.skip ?_
   refine nx (kq 0 (kq 1 (kq 2 (kq 3 (kq 4 kn))))) ?_
   refine XC.reg ?_
   refine mv_ ?_
   refine XL.callV (aS rfl (aS rfl a0)) (by kernel_rfl) (who12_f 5 7 _ (by decide) (by decide)) rfl ?_
   refine XL.call (aS rfl (aS rfl a0)) (by kernel_rfl) (open12_f m _ _ _ hm hG.up) rfl ?_
   rintro v37 M37 J37 ⟨pb, kb, MK0, MP0, rfl, rfl, hK0, hP0⟩
   have hI0 := KbI.new (m := m)
   change Kys _ _ (newK ((5 : Nat) : Int) ((7 : Nat) : Int) (opK m)).1 _ at hK0
   change Prm _ (newK ((5 : Nat) : Int) ((7 : Nat) : Int) (opK m)).2 _ at hP0
   generalize (newK ((5 : Nat) : Int) ((7 : Nat) : Int) (opK m)).1 = k0 at *
   generalize (newK ((5 : Nat) : Int) ((7 : Nat) : Int) (opK m)).2 = s0 at *
   refine mv_ ?_
   refine XL.q (q_x0 rfl) rfl ?_
   refine XL.q (q_x1 rfl) rfl ?_
   refine as_ (as_ ?_)
   refine XL.fin (kq 1 (kq 2 (kq 3 (kq 4 (kq 11 (kq 12 kn)))))) ?_
   refine XC.seq ?_
   refine XC.reg ?_
   refine as_ ?_
   refine XL.fin (kq 1 (kq 2 (kq 3 (kq 4 (kq 11 (kq 12 (kq 13 kn))))))) ?_
   refine XC.block ?_
   refine XC.loop (α := KbS) (fun y => [(1, v), (2, v2), (3, .int .u16 ((at_ : Nat) : Int)), (4, .int .u8 ((tu : Nat) : Int)), (11, .pointer (some ⟨pb, 0, none⟩)), (12, .pointer (some ⟨kb, 0, none⟩)), (13, .int .i64 ((y.i : Nat) : Int))]) (fun y => y.MK ++ y.MP) (fun y => y.J) (fun y => y.i ≤ ws.length ∧ KbI y.i y.k y.s ∧ Kys (y.J ++ A) kb y.k y.MK ∧ Prm pb y.s y.MP) (fun y => ws.length - y.i) ⟨0, k0, s0, MK0, MP0, J37⟩ ⟨Nat.zero_le _, hI0, hK0.mono SubC.sub, hP0⟩ (kq 1 (kq 2 (kq 3 (kq 4 (kq 11 (kq 12 (kq 13 kn))))))) (Fit.pick PickC.perm (Fit.last PickC.perm)) SubC.sub ?_
   clear hI0 hK0 hP0
   rintro ⟨i, k, s, MK, MP, J⟩ ⟨hi, hI, hK, hP⟩
   dsimp only at hi hI hK hP ⊢
   have hnx := hI.nx
   have hts := hI.ts
   have hsn := hI.n
   have hol := hI.ok.once.1
   refine XC.seq ?_
   refine XC.reg ?_
   refine mv_ (mv_ ?_)
   refine XL.q (q_lenV2 (sz := 1) rfl (by kernel_rfl) hv) rfl ?_
   refine XL.q (q_bin rfl rfl rfl) rfl ?_
   refine XL.fin (kq 1 (kq 2 (kq 3 (kq 4 (kq 11 (kq 12 (kq 13 (kq 43 kn)))))))) ?_
   refine XC.cond rfl (fun hc => ?_) (fun hc => ?_)
   ·
    have hlt : i < ws.length := by simp at hc; omega
    obtain ⟨w, hw⟩ : ∃ w, ws.getD i 0 = w := ⟨_, rfl⟩
    have hw256 := getD_l8 hlt1 i
    rw [hw] at hw256
    obtain ⟨n, hn⟩ : ∃ n, w / 3 % 9 = n := ⟨_, rfl⟩
    have hn9 : n < 9 := by omega
    refine XC.skip ?_
    refine nx (kq 1 (kq 2 (kq 3 (kq 4 (kq 11 (kq 12 (kq 13 kn))))))) ?_
    refine XC.join (α := KbS) (fun y => [(1, v), (2, v2), (3, .int .u16 ((at_ : Nat) : Int)), (4, .int .u8 ((tu : Nat) : Int)), (11, .pointer (some ⟨pb, 0, none⟩)), (12, .pointer (some ⟨kb, 0, none⟩)), (13, .int .i64 ((y.i : Nat) : Int))]) (fun y => y.MK ++ y.MP) (fun y => y.J) (fun y => y.i = i ∧ KbI (i + 1) y.k y.s ∧ Kys (y.J ++ A) kb y.k y.MK ∧ Prm pb y.s y.MP) ?_ ?_
    ·
     refine XC.block ?_
     refine XC.reg ?_
     refine mv_ (mv_ ?_)
     refine XL.q (q_atV2 (sz := 1) rfl rfl (by kernel_rfl) rfl hv hlt) rfl ?_
     refine XL.q (q_ldVN2 (k := .u8) rfl (by kernel_rfl) (hv.mono SubC.sub) hlt) rfl ?_
     rw [hw]
     refine XL.q (q_remI (b := 3) rfl rfl rfl rfl (by decide)) rfl ?_
     refine XL.fin (kq 1 (kq 2 (kq 3 (kq 4 (kq 11 (kq 12 (kq 13 (kq 50 kn)))))))) ?_
     refine XC.block ?_
     refine XC.reg ?_
     refine XL.q (q_cmp (decide (w % 3 = 0)) rfl rfl (eqN _ _)) rfl ?_
     refine as_ ?_
     refine XL.fin (kq 1 (kq 2 (kq 3 (kq 4 (kq 11 (kq 12 (kq 13 (kq 50 (kq 60 kn))))))))) ?_
     refine XC.cond rfl (fun hc => ?_) (fun hc => ?_)
     ·
      refine XC.reg1 ?_
      refine mv_ (mv_ ?_)
      refine XL.lo rfl (l_call (Mc := MK ++ MP) (R := _) (aS rfl (aS rfl a0)) (by kernel_rfl) PickC.perm (FnX.amb SubC.sub (turn_f kb pb k s MK MP (J ++ A) hK hP (by omega) (by omega) (by omega) (hG.sub fun x hx => List.mem_append_right _ hx))) rfl ?_)
      rintro v64 M64 J64 ⟨MK2, MP2, rfl, hK2, hP2⟩
      refine XL.nil ?_
      refine nb ?_
      refine nb ?_
      exact jn ⟨i, _, _, MK2, MP2, J64 ++ J⟩ ⟨rfl, hI.turn (by omega), by dsimp only; exact hK2.mono SubC.sub, hP2⟩ (kq 1 (kq 2 (kq 3 (kq 4 (kq 11 (kq 12 (kq 13 kn))))))) (Fit.pick PickC.perm (Fit.last PickC.perm)) SubC.sub
     ·
      refine XC.reg ?_
      refine XL.q (q_cmp (decide (w % 3 = 1)) rfl rfl (eqN _ _)) rfl ?_
      refine as_ ?_
      refine XL.fin (kq 1 (kq 2 (kq 3 (kq 4 (kq 11 (kq 12 (kq 13 (kq 65 kn)))))))) ?_
      refine XC.cond rfl (fun hc => ?_) (fun hc => ?_)
      ·
       refine XC.reg1 ?_
       refine mv_ (mv_ ?_)
       refine XL.lo rfl (l_call (Mc := MK ++ MP) (R := _) (aS rfl (aS rfl a0)) (by kernel_rfl) PickC.perm (FnX.amb SubC.sub (fill_f kb pb k s MK MP (J ++ A) hK hP (by omega) (by omega) (by omega) (hG.sub fun x hx => List.mem_append_right _ hx))) rfl ?_)
       rintro v69 M69 J69 ⟨rfl, MK2, MP2, rfl, hK2, hP2⟩
       refine XL.nil ?_
       refine nb ?_
       refine nb ?_
       exact jn ⟨i, _, _, MK2, MP2, J69 ++ J⟩ ⟨rfl, hI.fill (by omega), by dsimp only; exact hK2.mono SubC.sub, hP2⟩ (kq 1 (kq 2 (kq 3 (kq 4 (kq 11 (kq 12 (kq 13 kn))))))) (Fit.pick PickC.perm (Fit.last PickC.perm)) SubC.sub
      ·
       refine XC.reg1 ?_
       refine mv_ (mv_ (mv_ ?_))
       refine XL.q (q_atV2 (sz := 1) rfl rfl (by kernel_rfl) rfl hv hlt) rfl ?_
       refine XL.q (q_ldVN2 (k := .u8) rfl (by kernel_rfl) (hv.mono SubC.sub) hlt) rfl ?_
       rw [hw]
       refine XL.q (q_quoU (b := 3) (m := 256) rfl rfl rfl rfl rfl rfl (by decide) (by omega)) rfl ?_
       refine XL.q (q_remI (b := 9) rfl rfl rfl rfl (by decide)) rfl ?_
       rw [hn]
       refine XL.q (q_same (k' := .u32) rfl (by kernel_rfl) (by show _ < 2147483648; omega)) rfl ?_
       refine XL.lo rfl (l_call (Mc := MK) (R := _) (aS rfl (aS rfl a0)) (by kernel_rfl) PickC.perm (FnX.amb SubC.sub (use_f kb k n MK (J ++ A) hK (rise_of hI.rise))) rfl ?_)
       rintro v59 MK2 J59 ⟨rfl, hK2⟩
       refine XL.nil ?_
       refine nb ?_
       refine nb ?_
       exact jn ⟨i, _, s, MK2, MP, J59 ++ J⟩ ⟨rfl, hI.use n, by dsimp only; exact hK2.mono SubC.sub, hP⟩ (kq 1 (kq 2 (kq 3 (kq 4 (kq 11 (kq 12 (kq 13 kn))))))) (Fit.pick PickC.perm (Fit.last PickC.perm)) SubC.sub
    ·
     clear hI hK hP hnx hts hsn hol
     rintro ⟨i2, k, s, MK, MP, J⟩ ⟨hii, hI, hK, hP⟩
     dsimp only at hii hI hK hP ⊢
     subst hii
     refine XC.reg1 ?_
     refine mv_ ?_
     refine XL.q (q_num ((i2 + 1 : Nat) : Int) rfl rfl (add64 (by omega) (by omega) (by omega))) rfl ?_
     refine as_ ?_
     refine XL.nil ?_
     exact rn ⟨i2 + 1, k, s, MK, MP, J⟩ ⟨by dsimp only; omega, hI, hK, hP⟩ (by dsimp only; omega) (kq 1 (kq 2 (kq 3 (kq 4 (kq 11 (kq 12 (kq 13 kn))))))) .rfl (fun _ h => h)
   ·
    refine XC.exit ?_
    refine te ?_
    refine re ?_
    refine be rfl ?_
    refine nx (kq 2 (kq 3 (kq 4 (kq 11 (kq 12 kn))))) ?_
    have hback := hI.back
    have hsz := hI.small
    obtain ⟨va, vg, vs_, vo_, vm, rs, ro, rm, hr⟩ := hK.r
    have hus : ∃ u : Nat, k.user = (u : Int) ∧ u < 4294967296 := ⟨5, hI.who.1, by decide⟩
    have hds : ∃ u : Nat, k.dev = (u : Int) ∧ u < 4294967296 := ⟨7, hI.who.2, by decide⟩
    have he0 : 28 ≤ (encK k).length := by rw [encK_len]; omega
    obtain ⟨we, hwe⟩ : ∃ w, encK k = w := ⟨_, rfl⟩
    refine XC.frz (B := MK) PickC.perm ?_
    refine XC.reg ?_
    refine mv_ ?_
    refine XL.lo rfl (l_call0 (aS rfl a0) (by kernel_rfl) (encode_o kb k va vg vs_ vo_ vm rs ro rm _ (hr _ SubC.sub SubC.sub) hus hds (by omega)) rfl ?_)
    rintro v71 B71 J71 ⟨h71, hl71⟩
    haveI := h71.cel
    rw [hwe] at h71 hl71 hback hsz he0
    have hb71 : ∀ R, (∀ z, z ∈ B71 → z ∈ R) → By R v71 we := fun R hR => ⟨h71.rd hR, hl71, by omega⟩
    refine as_ ?_
    refine XL.fin (kq 2 (kq 3 (kq 4 (kq 11 (kq 12 (kq 14 kn)))))) ?_
    refine XC.reg ?_
    refine mv_ ?_
    refine XL.lo rfl (l_call0 (aS rfl a0) (by kernel_rfl) (decode_f v71 we _ (hb71 _ SubC.sub) (by omega)) rfl ?_)
    intro v74 M74 J74 h74
    obtain ⟨-, kb2, rfl, hK2⟩ := h74.resolve_right (fun h => by have := h.1; rw [hback.2] at this; cases this)
    rw [hback.1] at hK2
    obtain ⟨xa, xg, xs, xo, xm, ys, yo, ym, hr2⟩ := hK2.r
    refine mv_ ?_
    refine XL.q (q_x0 rfl) rfl ?_
    refine XL.q (q_x1 rfl) rfl ?_
    refine as_ (as_ ?_)
    refine XL.fin (kq 2 (kq 3 (kq 4 (kq 11 (kq 12 (kq 14 (kq 15 (kq 16 kn)))))))) ?_
    refine XC.seq ?_
    refine XC.drawF [0, 1, 2, 3, 4, 5, 6, 7, 8, 9, 10, 11, 12, 13, 14, 15, 16, 17, 18, 19, 20, 21, 22, 23, 24, 25, 26, 27, 28, 29, 30, 31, 32] [(0, 0), (1, 0), (2, 0), (3, 0), (6, 0), (7, 1), (4, 2), (5, 1), (8, 0), (9, 0), (10, 0), (11, 0), (13, 0), (12, 2), (14, 2), (15, 0), (16, 0), (17, 0), (18, 0), (20, 0), (19, 2), (21, 2), (22, 0), (23, 0), (24, 0), (25, 0), (28, 0), (26, 2), (27, 0), (29, 2), (30, 0), (31, 0), (32, 0)] (by kernel_rfl) (by kernel_rfl) fun hs => ?_
    refine XF.q hs rfl qm_ rfl ?_
    refine XF.q hs rfl (q_cmp false rfl rfl (neF rfl)) rfl ?_
    refine XF.q hs rfl qm_ rfl ?_
    refine XF.qg hs rfl rfl rfl rfl qm_ rfl ?_
    refine XF.qg hs rfl rfl rfl rfl qm_ rfl ?_
    refine XF.rg hs rfl rfl rfl rfl (q_toStr2 rfl (by kernel_rfl) (hb71 _ SubC.sub).rd) rfl ?_
    refine XF.callg rfl rfl rfl rfl (aS rfl a0) (by kernel_rfl) (encode_f kb2 k xa xg xs xo xm ys yo ym _ (hr2 _ SubC.sub SubC.sub) hus hds (by rw [hwe]; omega)) rfl ?_
    rintro v81 M81 J81 ⟨rfl, h81⟩
    haveI := h81.cel
    rw [hwe] at h81
    refine XF.rg hs rfl rfl rfl rfl (q_toStr2 rfl (by kernel_rfl) (h81.rd.mono SubC.sub)) rfl ?_
    refine XF.qg hs rfl rfl rfl rfl ((show (!decide (we = we)) = false by simp) ▸ q_sNe rfl rfl rfl rfl h81.lt hl71) rfl ?_
    refine XF.q hs rfl (q_pickF rfl rfl) rfl ?_
    refine XF.q hs rfl qm_ rfl ?_
    refine XF.qg hs rfl rfl rfl rfl qm_ rfl ?_
    refine XF.qg hs rfl rfl rfl rfl qm_ rfl ?_
    refine XF.callVg rfl rfl rfl rfl (aS rfl a0) (by kernel_rfl) (who_f kb2 k xa xg xs xo xm ys yo ym _ (hr2 _ SubC.sub SubC.sub)) rfl ?_
    refine XF.callVg rfl rfl rfl rfl (aS rfl a0) (by kernel_rfl) (who_f kb k va vg vs_ vo_ vm rs ro rm _ (hr _ SubC.sub SubC.sub)) rfl ?_
    refine XF.qg hs rfl rfl rfl rfl ((show (!(k.user == k.user && k.dev == k.dev)) = false by simp) ▸ q_twoNe rfl rfl (by kernel_rfl)) rfl ?_
    refine XF.q hs rfl (q_pickF rfl rfl) rfl ?_
    refine XF.q hs rfl qm_ rfl ?_
    refine XF.qg hs rfl rfl rfl rfl qm_ rfl ?_
    refine XF.qg hs rfl rfl rfl rfl qm_ rfl ?_
    refine XF.callVg rfl rfl rfl rfl (aS rfl a0) (by kernel_rfl) (klen_f kb2 k xa xg xs xo xm ys yo ym _ (hr2 _ SubC.sub SubC.sub)) rfl ?_
    refine XF.callVg rfl rfl rfl rfl (aS rfl a0) (by kernel_rfl) (klen_f kb k va vg vs_ vo_ vm rs ro rm _ (hr _ SubC.sub SubC.sub)) rfl ?_
    refine XF.qg hs rfl rfl rfl rfl (q_cmp false rfl rfl (neF rfl)) rfl ?_
    refine XF.q hs rfl (q_pickF rfl rfl) rfl ?_
    refine XF.q hs rfl qm_ rfl ?_
    refine XF.qg hs rfl rfl rfl rfl qm_ rfl ?_
    refine XF.qg hs rfl rfl rfl rfl qm_ rfl ?_
    refine XF.callg rfl rfl rfl rfl (aS rfl a0) (by kernel_rfl) (secrets_f kb2 k xa xg xs xo xm ys yo ym _ (hr2 _ SubC.sub SubC.sub) (by have := hI.ok.signed.1; omega) (by have := hI.ok.once.1; omega)) rfl ?_
    rintro v103 M103 J103 ⟨rfl, hL103⟩
    obtain ⟨u103, hu103, -⟩ := hL103.ex
    haveI := hu103.cel
    refine XF.qg hs rfl rfl rfl rfl (q_lenV2 (sz := 1) rfl (by kernel_rfl) hu103) rfl ?_
    refine XF.callg rfl rfl rfl rfl (aS rfl a0) (by kernel_rfl) (secrets_f kb k va vg vs_ vo_ vm rs ro rm _ (hr _ SubC.sub SubC.sub) (by have := hI.ok.signed.1; omega) (by have := hI.ok.once.1; omega)) rfl ?_
    rintro v106 M106 J106 ⟨rfl, hL106⟩
    obtain ⟨u106, hu106, -⟩ := hL106.ex
    haveI := hu106.cel
    refine XF.qg hs rfl rfl rfl rfl (q_lenV2 (sz := 1) rfl (by kernel_rfl) hu106) rfl ?_
    refine XF.qg hs rfl rfl rfl rfl (q_cmp false rfl rfl (neF rfl)) rfl ?_
    refine XF.q hs rfl (q_pickF rfl rfl) rfl ?_
    refine XF.fin (kq 2 (kq 3 (kq 4 (kq 11 (kq 14 (kq 15 (kq 109 kn))))))) ?_
    refine XC.condF rfl ?_
    refine XC.skip ?_
    refine nx (kq 2 (kq 3 (kq 4 (kq 11 (kq 14 (kq 15 kn)))))) ?_
    have hnx := hI.nx
    have hts := hI.ts
    have hsn := hI.n
    have hfp := fillK_ps k s
    have hfo := fillI_once k s (4 - k.once.length)
    refine XC.reg ?_
    refine mv_ (mv_ ?_)
    refine XL.lo rfl (l_call (Mc := M74 ++ MP) (R := _) (aS rfl (aS rfl a0)) (by kernel_rfl) PickC.perm (fill_f kb2 pb k s M74 MP _ (hK2.mono SubC.sub) hP (by omega) (by omega) (by omega) hG.up) rfl ?_)
    rintro v112 M112 J112 ⟨rfl, MK3, MP3, rfl, hK3, hP3⟩
    refine XL.fin (kq 2 (kq 3 (kq 4 (kq 11 (kq 14 (kq 15 kn)))))) ?_
    refine XC.reg ?_
    refine mv_ (mv_ ?_)
    refine XL.lo rfl (l_call (Mc := MK3 ++ MP3) (R := _) (aS rfl (aS rfl a0)) (by kernel_rfl) PickC.perm (turn_f kb2 pb (fillK k s).1 (fillK k s).2 MK3 MP3 _ (hK3.mono SubC.sub) hP3 (by omega) (by omega) (by omega) hG.up) rfl ?_)
    rintro v115 M115 J115 ⟨MK4, MP4, rfl, -, -⟩
    refine XL.fin (kq 2 (kq 3 (kq 4 (kq 14 kn)))) ?_
    refine XC.reg ?_
    refine mv_ ?_
    refine XL.lo rfl (l_call0 (aS rfl a0) (by kernel_rfl) (decode_u v2 ws2 _ (hv2.mono SubC.sub) (by omega)) rfl ?_)
    rintro v118 M118 J118 ⟨op118, rfl, hy118, hn118⟩
    obtain ⟨ok1, hok1⟩ : ∃ b, decOk ws2 = b := ⟨_, rfl⟩
    rw [hok1] at hy118 hn118 ⊢
    refine mv_ ?_
    refine XL.q (q_x0 rfl) rfl ?_
    refine XL.q (q_x1 rfl) rfl ?_
    refine as_ (as_ ?_)
    refine XL.fin (kq 2 (kq 3 (kq 4 (kq 14 (kq 17 (kq 18 kn)))))) ?_
    refine XC.join (α := Unit) (fun _ => [(3, .int .u16 ((at_ : Nat) : Int)), (4, .int .u8 ((tu : Nat) : Int)), (14, v71)]) (fun _ => B71) (fun _ => []) (fun _ => True) ?_ ?_
    ·
     refine XC.drawF [0, 1, 2, 3, 4, 5, 6, 7, 8, 9, 10, 11, 12, 13, 14, 15, 16, 17, 18, 19, 20, 21] [(0, 0), (1, 0), (2, 0), (3, 0), (6, 0), (7, 1), (4, 2), (5, 1), (8, 0), (9, 0), (10, 0), (11, 0), (12, 0), (13, 0), (14, 0), (15, 0), (16, 0), (17, 0), (18, 0), (19, 0), (20, 0), (21, 0)] (by kernel_rfl) (by kernel_rfl) fun hs => ?_
     refine XF.q hs rfl qm_ rfl ?_
     refine XF.q hs rfl (q_cmp ok1 rfl rfl (ec_eq0 _)) rfl ?_
     refine XF.q hs rfl qm_ rfl ?_
     refine XF.split (t := 123) rfl (fun hb => ?_) (fun hb => ?_)
     ·
      obtain ⟨kb3, rfl, hK5⟩ := hy118 hb
      obtain ⟨za, zg, zs, zo, zm, zr, zp, zq, hr3⟩ := hK5.r
      have hdw := decK_who hv2.lt
      have hds2 := decOk_same (p := ws2) (hok1.trans hb)
      subst hb
      refine XF.qg hs rfl rfl rfl rfl qm_ rfl ?_
      refine XF.qg hs rfl rfl rfl rfl qm_ rfl ?_
      refine XF.rg hs rfl rfl rfl rfl (q_toStr2 rfl (by kernel_rfl) (hv2.rd.mono SubC.sub)) rfl ?_
      refine XF.callg rfl rfl rfl rfl (aS rfl a0) (by kernel_rfl) (encode_f kb3 (decK ws2) za zg zs zo zm zr zp zq _ (hr3 _ SubC.sub SubC.sub) hdw.1 hdw.2 (by rw [hds2]; omega)) rfl ?_
      rintro v125 M125 J125 ⟨rfl, h125⟩
      haveI := h125.cel
      rw [hds2] at h125
      refine XF.rg hs rfl rfl rfl rfl (q_toStr2 rfl (by kernel_rfl) (h125.rd.mono SubC.sub)) rfl ?_
      refine XF.qg hs rfl rfl rfl rfl ((show (!decide (ws2 = ws2)) = false by simp) ▸ q_sNe rfl rfl rfl rfl h125.lt hv2.lt) rfl ?_
      refine XF.q hs rfl (q_pickT rfl rfl) rfl ?_
      refine XF.q hs rfl qm_ rfl ?_
      refine XF.qg hs rfl rfl rfl rfl qm_ rfl ?_
      refine XF.qg hs rfl rfl rfl rfl (q_cmp false rfl rfl (ec_ne0 true)) rfl ?_
      refine XF.qg hs rfl rfl rfl rfl qm_ rfl ?_
      refine XF.qn hs rfl rfl rfl rfl rfl rfl ?_
      refine XF.qn hs rfl rfl rfl rfl rfl rfl ?_
      refine XF.qn hs rfl rfl rfl rfl rfl rfl ?_
      refine XF.qu hs rfl rfl rfl rfl rfl ?_
      refine XF.qu hs rfl rfl rfl rfl rfl ?_
      refine XF.qn hs rfl rfl rfl rfl rfl rfl ?_
      refine XF.qg hs rfl rfl rfl rfl (q_pickF rfl rfl) rfl ?_
      refine XF.q hs rfl (q_pickF rfl rfl) rfl ?_
      refine XF.fin (kq 3 (kq 4 (kq 14 (kq 142 kn)))) ?_
      refine XC.condF rfl ?_
      refine XC.skip ?_
      exact jn () trivial (kq 3 (kq 4 (kq 14 kn))) (Fit.last PickC.perm) (fun _ h => by cases h)
     ·
      obtain ⟨rfl, rfl⟩ := hn118 hb
      subst hb
      refine XF.qn hs rfl rfl rfl rfl rfl rfl ?_
      refine XF.qn hs rfl rfl rfl rfl rfl rfl ?_
      refine XF.rn hs rfl rfl rfl rfl rfl rfl ?_
      refine XF.ln hs rfl rfl rfl rfl rfl rfl ?_
      refine XF.rn hs rfl rfl rfl rfl rfl rfl ?_
      refine XF.qn hs rfl rfl rfl rfl rfl rfl ?_
      refine XF.q hs rfl (q_pickF rfl rfl) rfl ?_
      refine XF.q hs rfl qm_ rfl ?_
      refine XF.qg hs rfl rfl rfl rfl qm_ rfl ?_
      refine XF.qg hs rfl rfl rfl rfl (q_cmp true rfl rfl (ec_ne0 false)) rfl ?_
      refine XF.qg hs rfl rfl rfl rfl qm_ rfl ?_
      refine XF.qg hs rfl rfl rfl rfl qm_ rfl ?_
      refine XF.qg hs rfl rfl rfl rfl (q_cmp false rfl rfl (ec_ne4 false)) rfl ?_
      refine XF.qg hs rfl rfl rfl rfl qm_ rfl ?_
      refine XF.qg hs rfl rfl rfl rfl qm_ rfl ?_
      refine XF.qg hs rfl rfl rfl rfl (q_ptrNeNil (e := 96) rfl rfl (by kernel_rfl)) rfl ?_
      refine XF.qg hs rfl rfl rfl rfl (q_pickF rfl rfl) rfl ?_
      refine XF.qg hs rfl rfl rfl rfl (q_pickT rfl rfl) rfl ?_
      refine XF.q hs rfl (q_pickF rfl rfl) rfl ?_
      refine XF.fin (kq 3 (kq 4 (kq 14 (kq 142 kn)))) ?_
      refine XC.condF rfl ?_
      refine XC.skip ?_
      exact jn () trivial (kq 3 (kq 4 (kq 14 kn))) (Fit.last PickC.perm) (fun _ h => by cases h)
    ·
     rintro _ -
     obtain ⟨j, hj⟩ : ∃ j, at_ % we.length = j := ⟨_, rfl⟩
     have hjl : j < we.length := by rw [← hj]; exact Nat.mod_lt _ (by omega)
     have hx256 := getD_l8 hl71 j
     obtain ⟨x, hx⟩ : ∃ x, we.getD j 0 = x := ⟨_, rfl⟩
     rw [hx] at hx256
     refine XC.drawF [0, 1, 2, 3, 4, 5, 6, 7, 8, 9, 10, 11, 12, 13, 14, 15, 16] [(0, 0), (1, 0), (2, 0), (3, 0), (4, 0), (5, 0), (6, 0), (7, 0), (8, 0), (9, 0), (10, 0), (11, 0), (12, 0), (13, 1), (14, 0), (15, 0), (16, 0), (17, 2)] (by kernel_rfl) (by kernel_rfl) fun hs => ?_
     refine XF.q hs rfl qm_ rfl ?_
     refine XF.q hs rfl qm_ rfl ?_
     refine XF.q hs rfl (q_same (k' := .i64) rfl (by kernel_rfl) (by show _ < 9223372036854775808; omega)) rfl ?_
     refine XF.q hs rfl qm_ rfl ?_
     refine XF.q hs rfl (q_lenV2 (sz := 1) rfl (by kernel_rfl) (h71.rd (R := B71) fun _ h => h)) rfl ?_
     refine XF.q hs rfl (q_remI rfl rfl rfl rfl (by omega)) rfl ?_
     rw [hj]
     refine XF.q hs rfl qm_ rfl ?_
     refine XF.q hs rfl qm_ rfl ?_
     refine XF.q hs rfl (q_same (k' := .i64) rfl (by kernel_rfl) (by show _ < 9223372036854775808; omega)) rfl ?_
     refine XF.q hs rfl qm_ rfl ?_
     refine XF.q hs rfl (q_lenV2 (sz := 1) rfl (by kernel_rfl) (h71.rd (R := B71) fun _ h => h)) rfl ?_
     refine XF.q hs rfl (q_remI rfl rfl rfl rfl (by omega)) rfl ?_
     rw [hj]
     refine XF.q hs rfl (q_atV2 (sz := 1) rfl rfl (by kernel_rfl) rfl (h71.rd (R := B71) fun _ h => h) hjl) rfl ?_
     refine XF.r hs rfl (q_ldVN2 (k := .u8) rfl (by kernel_rfl) (h71.rd SubC.sub) hjl) rfl ?_
     rw [hx]
     refine XF.q hs rfl qm_ rfl ?_
     refine XF.q hs rfl (q_xor rfl rfl rfl (by show _ < 256; omega) (by show _ < 256; omega)) rfl ?_
     refine XF.q hs rfl (q_atV2 (sz := 1) rfl rfl (by kernel_rfl) rfl (h71.rd (R := B71) fun _ h => h) hjl) rfl ?_
     refine XF.tl rfl rfl rfl (l_stV2 (u := x ^^^ tu) rfl rfl rfl (by kernel_rfl) h71 hjl PickC.perm fun B2 h2 => ?_)
     obtain ⟨w2, hw2⟩ : ∃ w, we.set j (x ^^^ tu) = w := ⟨_, rfl⟩
     have hl2 : w2.length = we.length := by rw [← hw2, List.length_set]
     have hlt2 : ∀ z ∈ w2, z < 256 := fun z hz => by
      rw [← hw2] at hz
      rcases List.mem_or_eq_of_mem_set hz with h | h
      · exact hl71 z h
      · rw [h]; exact Nat.xor_lt_two_pow (n := 8) hx256 htu
     rw [hw2] at h2
     haveI := h2.cel
     have hb2 : ∀ R, (∀ z, z ∈ B2 → z ∈ R) → By R v71 w2 := fun R hR => ⟨by rw [hl2]; exact h2.rd hR, hlt2, by omega⟩
     refine XF.fin (kq 14 kn) ?_
     refine XC.reg ?_
     refine mv_ ?_
     refine XL.lo rfl (l_call0 (aS rfl a0) (by kernel_rfl) (decode_u v71 w2 _ (hb2 _ SubC.sub) (by omega)) rfl ?_)
     rintro v162 M162 J162 ⟨op162, rfl, hy162, hn162⟩
     obtain ⟨ok2, hok2⟩ : ∃ b, decOk w2 = b := ⟨_, rfl⟩
     rw [hok2] at hy162 hn162 ⊢
     refine mv_ ?_
     refine XL.q (q_x0 rfl) rfl ?_
     refine XL.q (q_x1 rfl) rfl ?_
     refine as_ (as_ ?_)
     refine XL.fin (kq 14 (kq 19 (kq 20 kn))) ?_
     refine XC.drawF [0, 1, 2, 3, 4, 5, 6, 7, 8, 9, 10, 11, 12, 13, 14, 15, 16, 17, 18] [(0, 0), (1, 0), (2, 0), (3, 0), (6, 0), (7, 1), (4, 2), (5, 1), (8, 0), (9, 0), (10, 0), (11, 0), (12, 0), (13, 0), (14, 0), (15, 0), (16, 0), (17, 0), (18, 0)] (by kernel_rfl) (by kernel_rfl) fun hs => ?_
     refine XF.q hs rfl qm_ rfl ?_
     refine XF.q hs rfl (q_cmp ok2 rfl rfl (ec_eq0 _)) rfl ?_
     refine XF.q hs rfl qm_ rfl ?_
     refine XF.split (t := 167) rfl (fun hb => ?_) (fun hb => ?_)
     ·
      obtain ⟨kb4, rfl, hK6⟩ := hy162 hb
      obtain ⟨za, zg, zs, zo, zm, zr, zp, zq, hr3⟩ := hK6.r
      have hdw := decK_who hlt2
      have hds2 := decOk_same (p := w2) (hok2.trans hb)
      subst hb
      refine XF.qg hs rfl rfl rfl rfl qm_ rfl ?_
      refine XF.qg hs rfl rfl rfl rfl qm_ rfl ?_
      refine XF.rg hs rfl rfl rfl rfl (q_toStr2 rfl (by kernel_rfl) (hb2 _ SubC.sub).rd) rfl ?_
      refine XF.callg rfl rfl rfl rfl (aS rfl a0) (by kernel_rfl) (encode_f kb4 (decK w2) za zg zs zo zm zr zp zq _ (hr3 _ SubC.sub SubC.sub) hdw.1 hdw.2 (by rw [hds2]; omega)) rfl ?_
      rintro v169 M169 J169 ⟨rfl, h169⟩
      haveI := h169.cel
      rw [hds2] at h169
      refine XF.rg hs rfl rfl rfl rfl (q_toStr2 rfl (by kernel_rfl) (h169.rd.mono SubC.sub)) rfl ?_
      refine XF.qg hs rfl rfl rfl rfl ((show (decide (w2 = w2)) = true by simp) ▸ q_sEq rfl rfl rfl rfl h169.lt hlt2) rfl ?_
      refine XF.q hs rfl (q_pickT rfl rfl) rfl ?_
      refine XF.q hs rfl qm_ rfl ?_
      refine XF.qn hs rfl rfl rfl rfl rfl rfl ?_
      refine XF.qn hs rfl rfl rfl rfl rfl rfl ?_
      refine XF.qn hs rfl rfl rfl rfl rfl rfl ?_
      refine XF.qu hs rfl rfl rfl rfl rfl ?_
      refine XF.qu hs rfl rfl rfl rfl rfl ?_
      refine XF.qn hs rfl rfl rfl rfl rfl rfl ?_
      refine XF.q hs rfl (q_pickT rfl rfl) rfl ?_
      refine XF.q hs rfl (q_assign rfl) rfl ?_
      refine XF.fin (kq 10 kn) ?_
      refine XC.ret ?_
      exact ⟨_, [], [], res1 rfl rfl, List.nil_sublist _, by simp, rfl, rfl, rfl⟩
     ·
      obtain ⟨rfl, rfl⟩ := hn162 hb
      subst hb
      refine XF.qn hs rfl rfl rfl rfl rfl rfl ?_
      refine XF.qn hs rfl rfl rfl rfl rfl rfl ?_
      refine XF.rn hs rfl rfl rfl rfl rfl rfl ?_
      refine XF.ln hs rfl rfl rfl rfl rfl rfl ?_
      refine XF.rn hs rfl rfl rfl rfl rfl rfl ?_
      refine XF.qn hs rfl rfl rfl rfl rfl rfl ?_
      refine XF.q hs rfl (q_pickF rfl rfl) rfl ?_
      refine XF.q hs rfl qm_ rfl ?_
      refine XF.qg hs rfl rfl rfl rfl qm_ rfl ?_
      refine XF.qg hs rfl rfl rfl rfl (q_cmp true rfl rfl (ec_eq4 false)) rfl ?_
      refine XF.qg hs rfl rfl rfl rfl qm_ rfl ?_
      refine XF.qg hs rfl rfl rfl rfl qm_ rfl ?_
      refine XF.qg hs rfl rfl rfl rfl (q_ptrEqNil (e := 96) rfl rfl (by kernel_rfl)) rfl ?_
      refine XF.qg hs rfl rfl rfl rfl (q_pickT rfl rfl) rfl ?_
      refine XF.q hs rfl (q_pickF rfl rfl) rfl ?_
      refine XF.q hs rfl (q_assign rfl) rfl ?_
      refine XF.fin (kq 10 kn) ?_
      refine XC.ret ?_
      exact ⟨_, [], [], res1 rfl rfl, List.nil_sublist _, by simp, rfl, rfl, rfl⟩

end Go.Proofs.YtphcaiplgpmnnaaGreatDoor
/- Terms that came in; what the rows' lists give. -/
namespace Go.Proofs.YtphcaiplgpmnnaaGreatDoor
open Go.Px Go.ChangeShapes Go.WideShapes Go.ChangeAt Go.RowKit
section
variable {H : Type} {enc : TypeId × Value → H} {P : Program} {w : World} {spare : Nat → Bool} {held : Bool} {fuel : Nat} {t e : TypeId} {cs : List Value} {x : DataW H × List MemPlace} {v : Value} {d : DataW H} {p : List MemPlace} {r : Reach} {base : Nat} {k : IntKind}
end
theorem var_heap {P : Program} {W : World} {name : String} {g : Nat} {cs : Array Value} (hg : P.globalNamed name = some g) (h : W.var? P name = some cs) : ∃ e fr, W.heap[g]? = some (.cells cs e fr) := by
  unfold World.var? at h
  rw [hg] at h
  simp only [Option.bind_some] at h
  split at h
  · rename_i c e fr hh
    cases h
    exact ⟨e, fr, hh⟩
  · cases h
def zints (ws : List Nat) : List Int := ws.map fun n : Nat => (n : Int)
theorem zints_nums (k : IntKind) (ws : List Nat) : ((zints ws).map fun z => Value.int k z).toArray = (nums k ws).toArray := by simp [zints, nums]
theorem pow_tab {W : World} {a b : String × DataW Unit} {rest : List (String × DataW Unit)} (h : laidMet Tryz.prog (a :: b :: ("internal/strconv.uint64pow10", Rows.laid_internal_strconv_uint64pow10) :: rest) W) : ∃ e fr, W.heap[2]? = some (Obj.cells (nums .u64 pow10T).toArray e fr) := by
  have h' : laidMet Tryz.prog (("internal/strconv.uint64pow10", Lib.tabData .u64 (zints pow10T)) :: rest) W := h.tail.tail
  have h1 := Lib.tabIs_of_head (g := 2) (t := 240) (e := 28) (n := 20) (by kernel_rfl) (by kernel_rfl) (by kernel_rfl) (by kernel_rfl) (by kernel_rfl) (by kernel_rfl) h'
  obtain ⟨ek, fk, h3⟩ := var_heap (g := 2) (by kernel_rfl) h1
  rw [zints_nums] at h3
  exact ⟨ek, fk, h3⟩
end Go.Proofs.YtphcaiplgpmnnaaGreatDoor

/- What the rows' lists give: the tables of packages sha and strconv. -/
namespace Go.Proofs.YtphcaiplgpmnnaaGreatDoor
open Go.Px
theorem glb_in {W : World} {a b : String × DataW Unit} {rest : List (String × DataW Unit)} (h : laidMet Tryz.prog (a :: b :: ("internal/strconv.uint64pow10", Rows.laid_internal_strconv_uint64pow10) :: ("pawl/sha.round", Rows.laid_pawl_sha_round) :: ("pawl/sha.first", Rows.laid_pawl_sha_first) :: rest) W) : Glb (heapA W) := by
  obtain ⟨e4, f4, h4⟩ := pow_tab h
  have h' : laidMet Tryz.prog (("pawl/sha.round", Lib.tabData .u32 (zints kTab)) :: ("pawl/sha.first", Lib.tabData .u32 (zints hFirst.list)) :: rest) W := h.tail.tail.tail
  have h1 := Lib.tabIs_of_head (g := 1) (t := 194) (e := 22) (n := 64) (by kernel_rfl) (by kernel_rfl) (by kernel_rfl) (by kernel_rfl) (by kernel_rfl) (by kernel_rfl) h'
  have h2 := Lib.tabIs_of_head (g := 0) (t := 159) (e := 22) (n := 8) (by kernel_rfl) (by kernel_rfl) (by kernel_rfl) (by kernel_rfl) (by kernel_rfl) (by kernel_rfl) h'.tail
  obtain ⟨ek, fk, h3⟩ := var_heap (g := 1) (by kernel_rfl) h1
  obtain ⟨ef, ff, h5⟩ := var_heap (g := 0) (by kernel_rfl) h2
  rw [zints_nums] at h3 h5
  exact ⟨⟨ef, ff, heapA_mem.2 h5⟩, ⟨ek, fk, heapA_mem.2 h3⟩, ⟨e4, f4, heapA_mem.2 h4⟩⟩
end Go.Proofs.YtphcaiplgpmnnaaGreatDoor

/- The card of the law KeysBytes: it returns true for every input; each argument reads behind the call as it read before; the listed package variables are tied to the program's text. No further condition. -/
namespace Go.Proofs.YtphcaiplgpmnnaaGreatDoor.keysBytes
open Go.ChangeShapes Go.WideShapes Go.ChangeAt Go.RowKit

theorem own : ownKnob Tryz.prog.godebug = none := by kernel_rfl
theorem laidOut : laidOutB Tryz.prog = true := by kernel_rfl

noncomputable def laidWorld (os : Os) : World := World.laidAll Tryz.prog os Rows.keysBytesRow.laid
theorem laid_met (os : Os) : laidMetH Tryz.prog Rows.keysBytesRow.laid ((laidWorld os).forCall (fun _ _ => 0) ⟨#[], #[.int .u8 0, .slice none 0 0, .slice none 0 0, .int .u16 0, .int .u8 0], []⟩).memory := by
  rw [MakeChecks.laidMetH_plain _ _ _ (by kernel_rfl)]; exact laidMet_laidAll _ (by kernel_rfl) (by kernel_rfl)
theorem reads (os : Os) {H : Type} (enc : TypeId × Value → H) : ∃ places, DataW.whole enc Tryz.prog ((laidWorld os).forCall (fun _ _ => 0) ⟨#[], #[.int .u8 0, .slice none 0 0, .slice none 0 0, .int .u16 0, .int .u8 0], []⟩).memory Tryz.f9.params.toList Rows.keysBytesSpec.vars false (#[.int .u8 0, .slice none 0 0, .slice none 0 0, .int .u16 0, .int .u8 0] : Array Value).toList 8 = some ([.lit (.int .u8 0), .nil, .nil, .lit (.int .u16 0), .lit (.int .u8 0)], [], places) :=
  ⟨[], by kernel_rfl⟩

theorem lifted (os : Os) (started : os.Started) (H : Type) (enc : TypeId × Value → H) (F : Stop.Interp) :
    ReturnsInHanded {} Tryz.checked os 9 .any ((OpenSpec.ofChange Rows.keysBytesSpec).preRow enc Tryz.prog Tryz.f9 Rows.keysBytesRow.domain false Rows.keysBytesRow.laid) (((OpenSpec.ofChange Rows.keysBytesSpec).at F).post enc Tryz.prog Tryz.f9 false true false false) := by
  obtain ⟨places, hx⟩ := reads os enc
  refine returnsInHanded_of_row (C := Tryz.checked) (s := (OpenSpec.ofChange Rows.keysBytesSpec)) own started (by kernel_rfl) Tryz.func9
    (witness_row_at (enc := enc) (C := Tryz.checked) false (laidWorld os) #[.int .u8 0, .slice none 0 0, .slice none 0 0, .int .u16 0, .int .u8 0] (World.laidAll_os _ _ _) (by kernel_rfl) (by kernel_rfl) (by kernel_rfl)
      (OpenSpec.preRow_of_cond 8 hx (by kernel_rfl) (fun k hk => by cases hk) (by kernel_rfl) (laid_met os))) ?_
  intro W base args ds gs before hval0 hW _ _ _ hL _ _
  have hval : ∀ (j : Nat) t v, Tryz.f9.params[j]? = some t → args[j]? = some v → Value.okWide Tryz.prog W .any base t v := hval0
  have hW' := hW
  obtain ⟨p, q, hA0, hV, rfl, hfz, hnd⟩ := hW
  have hA : DataW.TrodAll enc Tryz.prog W 0 (fun _ => true) true Tryz.f9.params.toList args.toList ds p := hA0
  rw [Tryz.params9] at hA hval
  obtain ⟨v0, vs0, d0, ds0, p0, q0, hargs, rfl, rfl, k0, r0_⟩ := trodAll_cons hA
  obtain ⟨v1, vs1, d1, ds1, p1, q1, rfl, rfl, rfl, k1, r1_⟩ := trodAll_cons r0_
  obtain ⟨v2, vs2, d2, ds2, p2, q2, rfl, rfl, rfl, k2, r2_⟩ := trodAll_cons r1_
  obtain ⟨v3, vs3, d3, ds3, p3, q3, rfl, rfl, rfl, k3, r3_⟩ := trodAll_cons r2_
  obtain ⟨v4, vs4, d4, ds4, p4, q4, rfl, rfl, rfl, k4, r4_⟩ := trodAll_cons r3_
  obtain ⟨rfl, rfl, rfl⟩ := trodAll_nil r4_
  obtain rfl : args = #[v0, v1, v2, v3, v4] := by cases args; simp_all
  obtain ⟨rfl, rfl⟩ := trodVars_none hV
  have lt0 : ∀ x ∈ p0, x.block < W.heap.size := by obtain ⟨m, hm⟩ := k0; exact DataW.trod_lt m _ _ _ hm
  have lt1 : ∀ x ∈ p1, x.block < W.heap.size := by obtain ⟨m, hm⟩ := k1; exact DataW.trod_lt m _ _ _ hm
  have lt2 : ∀ x ∈ p2, x.block < W.heap.size := by obtain ⟨m, hm⟩ := k2; exact DataW.trod_lt m _ _ _ hm
  have lt3 : ∀ x ∈ p3, x.block < W.heap.size := by obtain ⟨m, hm⟩ := k3; exact DataW.trod_lt m _ _ _ hm
  have lt4 : ∀ x ∈ p4, x.block < W.heap.size := by obtain ⟨m, hm⟩ := k4; exact DataW.trod_lt m _ _ _ hm
  obtain ⟨x0, rfl, hx0⟩ := Px.inU Tryz.underlying5 rfl (hval 0 5 v0 rfl rfl) k0
  obtain ⟨x1, r1, hx1, l1⟩ := Px.inSlU Tryz.underlying23 Tryz.underlying5 (by kernel_rfl) rfl (hval 1 23 v1 rfl rfl) k1
  obtain ⟨x2, r2, hx2, l2⟩ := Px.inSlU Tryz.underlying23 Tryz.underlying5 (by kernel_rfl) rfl (hval 2 23 v2 rfl rfl) k2
  obtain ⟨x3, rfl, hx3⟩ := Px.inU Tryz.underlying68 rfl (hval 3 68 v3 rfl rfl) k3
  obtain ⟨x4, rfl, hx4⟩ := Px.inU Tryz.underlying5 rfl (hval 4 5 v4 rfl rfl) k4
  clear hA0 hval0
  rw [MakeChecks.laidMetH_plain _ _ _ (by kernel_rfl)] at hL
  have hG := glb_in hL
  refine Calls.mono ((keysBytes_f x0 x3 x4 v1 v2 x1 x2 _ hx0 hx3 hx4 r1 hx1 r2 hx2 hG).calls (Px.heapA_fx W)) fun e W' ⟨he, bel⟩ => ?_
  subst he
  exact ⟨_, rfl, _, _, _, [], _, [], hW', trodAll_mk1 (shut_bool Tryz.underlying4 _), (trodAll_cons_mk (Below.trod laidOut (by kernel_rfl) (of_decide_eq_true (by kernel_rfl)) k0 bel lt0) (trodAll_cons_mk (Below.trod laidOut (by kernel_rfl) (of_decide_eq_true (by kernel_rfl)) k1 bel lt1) (trodAll_cons_mk (Below.trod laidOut (by kernel_rfl) (of_decide_eq_true (by kernel_rfl)) k2 bel lt2) (trodAll_cons_mk (Below.trod laidOut (by kernel_rfl) (of_decide_eq_true (by kernel_rfl)) k3 bel lt3) (trodAll_cons_mk (Below.trod laidOut (by kernel_rfl) (of_decide_eq_true (by kernel_rfl)) k4 bel lt4) trodAll_mk0))))), rfl, bel.frame _, fun h => by cases h⟩

theorem said : Rows.KeysBytesSaid :=
  OpenClaim.holds_of_cond 9 Tryz.f9 rfl rfl rfl rfl rfl rfl rfl ⟨rfl, rfl, rfl, rfl, rfl⟩ rfl rfl rfl rfl rfl (by kernel_rfl) Tryz.func9 (by kernel_rfl)
    (of_decide_eq_true (by kernel_rfl)) (by unfold Func.isWrapper; first | (rw [if_pos (by decide +kernel)]; kernel_rfl) | (rw [if_neg (by decide +kernel)]; exact ⟨rfl, rfl⟩))
    (fun os started H enc _ F => by rw [OpenClaim.pre_eq_preRow]; exact lifted os started H enc F)
theorem plain (f : FuncId) (fn : Func) (hf : Tryz.pinned.checked.prog.funcNamed "pawl/pawllaw12.KeysBytes" = some f) (hfn : Tryz.pinned.checked.prog.funcs[f]? = some fn) :
    true = Tryz.pinned.checked.prog.looks [] ∧ ∀ (j : Nat) t, fn.params[j]? = some t → Tryz.pinned.checked.prog.wantsStandIn t = false := by
  obtain rfl : f = 9 := Option.some.inj ((show Tryz.prog.funcNamed "pawl/pawllaw12.KeysBytes" = some 9 by kernel_rfl).symm.trans hf) |>.symm
  obtain rfl : fn = Tryz.f9 := (Option.some.inj (Tryz.func9.symm.trans hfn)).symm
  refine ⟨by kernel_rfl, fun j t ht => ?_⟩
  rw [Tryz.params9] at ht
  have hm := Array.mem_of_getElem? ht
  simp only [List.mem_toArray, List.mem_cons, List.not_mem_nil, or_false] at hm
  rcases hm with rfl | rfl | rfl | rfl | rfl
  · exact (show Tryz.prog.wantsStandIn 5 = false by kernel_rfl)
  · exact (show Tryz.prog.wantsStandIn 23 = false by kernel_rfl)
  · exact (show Tryz.prog.wantsStandIn 23 = false by kernel_rfl)
  · exact (show Tryz.prog.wantsStandIn 68 = false by kernel_rfl)
  · exact (show Tryz.prog.wantsStandIn 5 = false by kernel_rfl)

theorem proved : Rows.KeysBytesCardSaid :=
  Claim7.holds_tied_plain_at .later [] _ _ _ _ said (fun _ h => by cases h) (by kernel_rfl) (fun _ h => by cases h) keysBytes_row_tie rfl ⟨rfl, rfl⟩ (by kernel_rfl) rfl plain (by kernel_rfl)
#print axioms proved
end Go.Proofs.YtphcaiplgpmnnaaGreatDoor.keysBytes



