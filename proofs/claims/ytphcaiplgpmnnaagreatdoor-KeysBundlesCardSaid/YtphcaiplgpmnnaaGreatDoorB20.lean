/- The card of the law KeysBundles: it returns true for every input; each argument reads behind the call as it read before; the listed package variables are tied to the program's text. No further condition. -/
import Derived.Test.YtphcaiplgpmnnaaGreatDoorB19
import Derived.Lib.LaidTab
import Derived.Stop.LaidErr
import Derived.MakeChecks
import Derived.Test.YtphcaiplgpmnnaaGreatDoorCards
import Derived.Test.YtphcaiplgpmnnaaGreatDoorTie
import Derived.Deep.DeepHandedRow
import Derived.Deep.DeepWitnessRowRef
import Derived.Lay
import Derived.LaidMore
set_option linter.unusedVariables false
set_option linter.unusedSimpArgs false
set_option maxRecDepth 100000
namespace Go.Proofs.YtphcaiplgpmnnaaGreatDoor
open Go.Px
structure BuC (u d : Int) (i : Nat) (k : Ks) (s : Ps) : Prop where
  bi : BuI k s
  rise : (onN k).Pairwise (· < ·)
  sg : 1 ≤ k.signed.length ∧ k.signed.length ≤ 2
  who : k.user = u ∧ k.dev = d
  ol : k.once.length ≤ 4
  nx : k.next ≤ 6 + i
  ts : s.ts.length ≤ 11 + 5 * i
  n : s.n ≤ 7 + i
theorem BuC.new {u d : Int} {m : Nat} : BuC u d 0 (newK u d (opK m)).1 (newK u d (opK m)).2 := by
  have h := newK_ps u d (opK m)
  have h1 := new_on u d (opK m)
  have h2 := new_sn u d (opK m)
  have h3 := new_who u d (opK m)
  have e1 : (opK m).ts.length = 0 := rfl
  have e2 : (opK m).n = 0 := rfl
  have l1 := on_len (newK u d (opK m)).1
  have l2 := sn_len (newK u d (opK m)).1
  rw [h1] at l1
  rw [h2] at l2
  simp at l1 l2
  exact ⟨BuI.new Tok.nil Ar.nil (show 0 + 100 < 1000000000 by decide) (show 0 + 200 ≤ 1048576 by decide), by rw [h1]; decide, by omega, h3, by omega, by omega, by omega, by omega⟩
theorem BuC.turn {u d : Int} {i : Nat} {k : Ks} {s : Ps} (h : BuC u d i k s) (hi : i < 1000) : BuC u d (i + 1) (turnK k s).1 (turnK k s).2 := by
  have hp := turnK_ps k s
  have hn := turnK_next k s
  have a := h.nx
  have b := h.ts
  have c := h.n
  have l2 := sn_len (turnK k s).1
  rw [turn_sn] at l2
  simp at l2
  refine ⟨h.bi.turn (by omega) (by omega), by rw [turn_on]; exact h.rise, by omega, h.who, h.ol, by omega, by omega, by omega⟩
theorem BuC.use {u d : Int} {i : Nat} {k : Ks} {s : Ps} (h : BuC u d i k s) (n : Nat) : BuC u d i (useK k n) s :=
  ⟨h.bi.use n, by rw [use_on]; exact h.rise.filter _, h.sg, h.who, Nat.le_trans (List.length_filter_le _ _) h.ol, h.nx, h.ts, h.n⟩
theorem use_len {k : Ks} {n : Nat} (h : (onN k).Pairwise (· < ·)) : (useK k n).once.length = if (getP k.once n).isSome then k.once.length - 1 else k.once.length := by
  rw [← on_len, use_on, getP_mem, ← on_len k]
  show ((onN k).filter _).length = if decide (n ∈ onN k) = true then _ else _
  by_cases hm : n ∈ onN k
  · rw [if_pos (decide_eq_true hm)]
    obtain ⟨j, hj, e⟩ := List.mem_iff_getElem.1 hm
    rw [filter_out h (x := n) (j := j) (by rw [List.getElem?_eq_getElem hj, e])]
    simp; omega
  · rw [if_neg (by simpa using hm)]
    rw [List.filter_eq_self.2 fun x hx => by
      have : ¬ x = n := fun e => hm (e ▸ hx)
      simp [this]]
theorem use_gone {k : Ks} {n : Nat} : (getP (useK k n).once n).isSome = false := by
  rw [getP_mem]
  show decide (n ∈ onN (useK k n)) = false
  rw [use_on]; simp
theorem getP_at {l : List Pr} {j : Nat} {o : Pr} (h : Rise l) (ho : l[j]? = some o) : getP l o.n = some o.sec := by
  rcases fidxL_cases (tstP o.n) l with ⟨h1, h2⟩ | ⟨i, x, h1, h2, h3, h4⟩
  · have := h2 o (List.mem_of_getElem? ho); simp [tstP] at this
  · have e : x.n = o.n := by simpa [tstP] using h3
    rcases Nat.lt_trichotomy i j with hl | rfl | hl
    · have := h i j x o hl h2 ho; omega
    · rw [ho] at h2; cases h2; exact getP_yes h1 ho
    · have := h j i o x hl ho h2; omega
theorem getP_head {x : Pr} {l : List Pr} : getP (x :: l) x.n = some x.sec := by
  rcases fidxL_cases (tstP x.n) (x :: l) with ⟨h1, h2⟩ | ⟨i, y, h1, h2, h3, h4⟩
  · have := h2 x (by simp); simp [tstP] at this
  · cases i with
    | zero => cases h2; exact getP_yes h1 rfl
    | succ i => have := h4 0 x (by omega) rfl; simp [tstP] at this
theorem bun_all {k : Ks} {s : Ps} {x : Pr} {sl : List Pr} (h : BuI k s) (hs : k.signed = x :: sl) (hl : s.ts.length + 200 ≤ 1048576) (ho4 : k.once.length ≤ 10) :
    ∃ ia ig kx, BuI k (bunK k s).2 ∧ PubAt (bunK k s).2 k.agree ia ∧ SkAt (bunK k s).2 k.sign ig ∧ PubAt (bunK k s).2 x.sec kx ∧ SigAt (bunK k s).2 k.sign (msgN x.n kx) x.sig ∧ kx.length ≤ 1000000 ∧
    ∀ j, j < k.once.length + 1 → ∃ y, (bunK k s).1[j]? = some y ∧ y.user = k.user ∧ y.dev = k.dev ∧ y.ia = ia ∧ y.ig = ig ∧ y.signed = x.n ∧ y.key = kx ∧ y.sig = x.sig ∧ y.has = decide (0 < j) ∧ (0 < j → ∃ o, k.once[j - 1]? = some o ∧ y.once = o.n ∧ PubAt (bunK k s).2 o.sec y.oncek) := by
  obtain ⟨h1, h2, h3, h4, h5, h6, h7⟩ := h.bundles hs hl ho4
  obtain ⟨g1, g2, g3, g4⟩ := bunK_facts (s := s) hs
  refine ⟨_, _, _, h1, h3, h4, h5, h6, by rw [pubK2_len]; decide, fun j hj => ?_⟩
  cases j with
  | zero => exact ⟨_, g2, rfl, rfl, rfl, rfl, rfl, rfl, rfl, rfl, fun h => absurd h (by decide)⟩
  | succ j =>
    obtain ⟨o, ho⟩ : ∃ o, k.once[j]? = some o := ⟨_, List.getElem?_eq_getElem (by omega)⟩
    exact ⟨_, g3 j o ho, rfl, rfl, rfl, rfl, rfl, rfl, rfl, by simp, fun _ => ⟨o, ho, rfl, h7 j o ho⟩⟩
theorem id_same {k : Ks} {s : Ps} {ia ig : List Nat} (ht : Tok s.ts) (hl : s.ts.length ≤ 1048576) (h1 : PubAt s k.agree ia) (h2 : SkAt s k.sign ig) : idS k s = s ∧ idA k s = ia ∧ idG k s = ig := by
  have a := h1.eq ht hl
  have b := h2.eq ht hl
  unfold idS idA idG
  rw [a.1, a.2, b.1, b.2]
  exact ⟨rfl, rfl, rfl⟩

theorem keysBundles_f (m a b t : Nat) (v : Value) (ws : List Nat) (A : Mem) (hm : m < 256) (ha : a < 256) (hb_ : b < 256) (ht : t < 256) (hv : Rd A 1 v ws.length (nums .u8 ws)) (hb : ∀ x ∈ ws, x < 256) (hG : Glb A) : FnV Tryz.prog 7 [.int .u8 ((m : Nat) : Int), .int .u8 ((a : Nat) : Int), .int .u8 ((b : Nat) : Int), .int .u8 ((t : Nat) : Int), v] A (.bool true) := by
 haveI := hv.cel
 refine FnX.enter (N := 257) Tryz.func7 rfl rfl rfl fun w_ => ?_
 refine XC.keep (kq 0 (kq 1 (kq 2 (kq 3 (kq 4 kn))))) ?_
 refine XC.reg ?_
 refine as_ ?_
 refine XL.fin (kq 0 (kq 1 (kq 2 (kq 3 (kq 4 kn))))) ?_
 refine XC.seq ?_
 refine XC.reg ?_
 refine XL.callV a0 (by kernel_rfl) (awake12_f _ hG.up) rfl ?_
 refine XL.q (q_not rfl) rfl ?_
 refine mv_ ?_
 refine XL.gy rfl rfl (OpQ.opL qm_ rfl ?_)
 refine XL.gy rfl rfl (OpQ.opL (q_lenV2 (sz := 1) rfl (by kernel_rfl) (by first | assumption | exact Sl.rd (by assumption) (fun _ h => h) | exact By.rd (by assumption))) rfl ?_)
 refine XL.gy rfl rfl (OpQ.opL (q_bin rfl rfl rfl) rfl ?_)
 refine XL.q (q_pickF rfl rfl) rfl ?_
 refine XL.fin (kq 0 (kq 1 (kq 2 (kq 3 (kq 4 (kq 35 kn)))))) ?_
 refine XC.cond rfl (fun hc => ?_) (fun hc => ?_)
 ·
  refine XC.reg ?_
  refine XL.callV a0 (by kernel_rfl) (awake12_f _ hG.up) rfl ?_
  refine as_ ?_
  refine XL.fin (kq 10 kn) ?_
  refine XC.ret ?_
  refine tr ?_
  exact ⟨_, [], [], res1 rfl rfl, List.nil_sublist _, by simp, rfl, rfl, rfl⟩
 ·
  have hlen : ws.length ≤ 8 := by simp at hc; omega
  refine XC.skip ?_
  refine nx (kq 0 (kq 1 (kq 2 (kq 3 (kq 4 kn))))) ?_
  refine XC.reg ?_
  refine mv_ (mv_ ?_)
  refine XL.callV (aS rfl (aS rfl a0)) (by kernel_rfl) (who12_f a b _ ha hb_) rfl ?_
  obtain ⟨u, hu⟩ : ∃ u, ((a % 8 : Nat) : Int) = u := ⟨_, rfl⟩
  obtain ⟨d, hd⟩ : ∃ d, ((b : Nat) : Int) = d := ⟨_, rfl⟩
  rw [hu, hd]
  refine XL.lo rfl (l_alloc (cs := [.int .i64 0, .int .i64 0]) (by kernel_rfl) rfl fun b11 => ?_)
  refine XL.lo rfl (l_storeW rfl rfl Cel.cel (by kernel_rfl) (lnS (lnS (ln0))) (allS rfl (allS rfl (all0))) UpC.upd ?_)
  refine XL.fin (kq 0 (kq 3 (kq 4 (kq 11 kn)))) ?_
  refine XC.reg ?_
  refine mv_ ?_
  refine XL.q (qw_ 2) rfl ?_
  refine XL.call (aS rfl (aS rfl a0)) (by kernel_rfl) (open12_f m _ _ _ hm hG.up) rfl ?_
  rintro v43 M43 J43 ⟨pb, kb, MK0, MP0, rfl, rfl, hK0, hP0⟩
  have hC0 := BuC.new (u := u) (d := d) (m := m)
  have hl0 := on_len (newK u d (opK m)).1
  rw [new_on] at hl0
  generalize (newK u d (opK m)).1 = k0 at *
  generalize (newK u d (opK m)).2 = s0 at *
  refine mv_ ?_
  refine XL.q (q_x0 rfl) rfl ?_
  refine XL.q (q_x1 rfl) rfl ?_
  refine as_ (as_ ?_)
  refine XL.fin (kq 3 (kq 4 (kq 11 (kq 12 (kq 13 kn))))) ?_
  refine XC.seq ?_
  refine XC.frz (B := [(b11, blk [.int .i64 u, .int .i64 d] 35)]) PickC.perm ?_
  refine XC.reg ?_
  refine as_ ?_
  refine XL.fin (kq 3 (kq 4 (kq 11 (kq 12 (kq 13 (kq 14 kn)))))) ?_
  refine XC.block ?_
  refine XC.loop (α := Nat × Ks × Ps × Mem × Mem × Mem) (fun y => [(3, .int .u8 ((t : Nat) : Int)), (4, v), (11, .pointer (some ⟨b11, 0, none⟩)), (12, .pointer (some ⟨pb, 0, none⟩)), (13, .pointer (some ⟨kb, 0, none⟩)), (14, .int .i64 ((y.1 : Nat) : Int))]) (fun y => y.2.2.2.1 ++ y.2.2.2.2.1) (fun y => y.2.2.2.2.2) (fun y => y.1 ≤ t % 3 ∧ BuC u d y.1 y.2.1 y.2.2.1 ∧ Kys (y.2.2.2.2.2 ++ A) kb y.2.1 y.2.2.2.1 ∧ Prm pb y.2.2.1 y.2.2.2.2.1 ∧ (b11, blk [.int .i64 u, .int .i64 d] 35) ∈ y.2.2.2.2.2 ∧ y.2.1.once.length = 4) (fun y => t % 3 - y.1) (0, k0, s0, MK0, MP0, (b11, blk [.int .i64 u, .int .i64 d] 35) :: J43) ⟨Nat.zero_le _, hC0, by dsimp only; exact hK0.mono SubC.sub, hP0, List.mem_cons_self, hl0.symm⟩ (kq 3 (kq 4 (kq 11 (kq 12 (kq 13 (kq 14 kn)))))) (Fit.pick PickC.perm (Fit.last PickC.perm)) SubC.sub ?_
  clear hC0 hK0 hP0
  rintro ⟨i, k, s, MK, MP, J⟩ ⟨hi, hC, hK, hP, hW, hol4⟩
  dsimp only at hi hC hK hP hW hol4 ⊢
  have hnx := hC.nx
  have hts := hC.ts
  have hsn := hC.n
  have hol := hC.ol
  refine XC.seq ?_
  refine XC.reg ?_
  refine mv_ (mv_ ?_)
  refine XL.q (q_same (k' := .i64) rfl (by kernel_rfl) (by show _ < 9223372036854775808; omega)) rfl ?_
  refine XL.q (q_remI (a := t) (b := 3) rfl rfl rfl rfl (by decide)) rfl ?_
  refine XL.q (q_bin rfl rfl rfl) rfl ?_
  refine XL.fin (kq 3 (kq 4 (kq 11 (kq 12 (kq 13 (kq 14 (kq 50 kn))))))) ?_
  refine XC.cond rfl (fun hc => ?_) (fun hc => ?_)
  ·
   have hlt : i < t % 3 := by simp at hc; omega
   refine XC.skip ?_
   refine nx (kq 3 (kq 4 (kq 11 (kq 12 (kq 13 (kq 14 kn)))))) ?_
   refine XC.seq ?_
   refine XC.block ?_
   refine XC.reg1 ?_
   refine mv_ (mv_ ?_)
   refine XL.lo rfl (l_call (Mc := MK ++ MP) (R := _) (aS rfl (aS rfl a0)) (by kernel_rfl) PickC.perm (FnX.amb SubC.sub (turn_f kb pb k s MK MP (J ++ A) hK hP (by omega) (by omega) (by omega) (hG.sub fun x hx => List.mem_append_right _ hx))) rfl ?_)
   rintro v55 M55 J55 ⟨MK2, MP2, rfl, hK2, hP2⟩
   refine XL.nil ?_
   refine nb ?_
   refine nx (kq 3 (kq 4 (kq 11 (kq 12 (kq 13 (kq 14 kn)))))) ?_
   refine XC.reg1 ?_
   refine mv_ ?_
   refine XL.q (q_num ((i + 1 : Nat) : Int) rfl rfl (add64 (by omega) (by omega) (by omega))) rfl ?_
   refine as_ ?_
   refine XL.nil ?_
   exact rn (i + 1, _, _, MK2, MP2, J55 ++ J) ⟨hlt, hC.turn (by omega), by dsimp only; exact hK2.mono SubC.sub, hP2, List.mem_append_right _ hW, hol4⟩ (by dsimp only; omega) (kq 3 (kq 4 (kq 11 (kq 12 (kq 13 (kq 14 kn)))))) (Fit.pick PickC.perm (Fit.last PickC.perm)) (fun _ h => h)
  ·
   refine XC.exit ?_
   refine te ?_
   refine re ?_
   refine be rfl ?_
   refine nx (kq 4 (kq 11 (kq 12 (kq 13 kn)))) ?_
   refine XC.reg ?_
   refine as_ ?_
   refine XL.fin (kq 4 (kq 11 (kq 12 (kq 13 (kq 15 kn))))) ?_
   refine XC.seq ?_
   refine XC.reg ?_
   refine as_ ?_
   refine XL.fin (kq 4 (kq 11 (kq 12 (kq 13 (kq 15 (kq 16 kn)))))) ?_
   refine XC.block ?_
   refine XC.loop (α := Nat × Ks × Mem × Mem) (fun y => [(4, v), (11, .pointer (some ⟨b11, 0, none⟩)), (12, .pointer (some ⟨pb, 0, none⟩)), (13, .pointer (some ⟨kb, 0, none⟩)), (15, .int .i64 ((y.2.1.once.length : Nat) : Int)), (16, .int .i64 ((y.1 : Nat) : Int))]) (fun y => y.2.2.1 ++ MP) (fun y => y.2.2.2) (fun y => y.1 ≤ ws.length ∧ BuC u d i y.2.1 s ∧ Kys (y.2.2.2 ++ A) kb y.2.1 y.2.2.1 ∧ (b11, blk [.int .i64 u, .int .i64 d] 35) ∈ y.2.2.2) (fun y => ws.length - y.1) (0, k, MK, J) ⟨Nat.zero_le _, hC, hK, hW⟩ (kq 4 (kq 11 (kq 12 (kq 13 (kp 15 (by rw [hol4]; rfl) (kq 16 kn)))))) .rfl (fun _ h => h) ?_
   clear hC hK hW hnx hts hsn hol hol4
   clear k MK J
   rintro ⟨q, k, MK, J⟩ ⟨hq, hC, hK, hW⟩
   dsimp only at hq hC hK hW ⊢
   have hnx := hC.nx
   have hts := hC.ts
   have hsn := hC.n
   have hol := hC.ol
   have hrise : Rise k.once := rise_of hC.rise
   obtain ⟨va, vg, vs_, vo_, vm, rs, ro, rm, hr⟩ := hK.r
   refine XC.seq ?_
   refine XC.reg ?_
   refine mv_ (mv_ ?_)
   refine XL.q (q_lenV2 (sz := 1) rfl (by kernel_rfl) hv) rfl ?_
   refine XL.q (q_bin rfl rfl rfl) rfl ?_
   refine XL.fin (kq 4 (kq 11 (kq 12 (kq 13 (kq 15 (kq 16 (kq 59 kn))))))) ?_
   refine XC.cond rfl (fun hc => ?_) (fun hc => ?_)
   ·
    have hlt : q < ws.length := by simp at hc; omega
    obtain ⟨n, hn⟩ : ∃ n, (2 + ws.getD q 0 % 6) = n := ⟨_, rfl⟩
    have hn8 : n < 8 := by omega
    refine XC.skip ?_
    refine nx (kq 4 (kq 11 (kq 12 (kq 13 (kq 15 (kq 16 kn)))))) ?_
    refine XC.seq ?_
    refine XC.block ?_
    refine XC.reg ?_
    refine mv_ (mv_ ?_)
    refine XL.q (q_atV2 (sz := 1) rfl rfl (by kernel_rfl) rfl hv hlt) rfl ?_
    refine XL.q (q_ldVN2 (k := .u8) rfl (by kernel_rfl) (hv.mono SubC.sub) hlt) rfl ?_
    refine XL.q (q_remI (b := 6) rfl rfl rfl rfl (by decide)) rfl ?_
    refine XL.q (q_addS 256 (a := 2) rfl rfl rfl rfl rfl rfl (by omega)) rfl ?_
    rw [hn]
    refine XL.q (q_same (k' := .u32) rfl (by kernel_rfl) (by show _ < 2147483648; omega)) rfl ?_
    refine as_ ?_
    refine XL.fin (kq 4 (kq 11 (kq 12 (kq 13 (kq 15 (kq 16 (kq 17 kn))))))) ?_
    refine XC.reg ?_
    refine mv_ (mv_ ?_)
    refine XL.call (aS rfl (aS rfl a0)) (by kernel_rfl) (once_f kb k va vg vs_ vo_ vm rs ro rm n _ (hr _ SubC.sub SubC.sub) hrise) rfl ?_
    rintro v72 M72 J72 ⟨rfl, q1, rfl, hq1⟩
    haveI := hq1.cel
    refine mv_ ?_
    refine XL.q (q_x0 rfl) rfl ?_
    refine XL.q (q_x1 rfl) rfl ?_
    refine as_ (as_ ?_)
    refine XL.fin (kq 4 (kq 11 (kq 12 (kq 13 (kq 15 (kq 16 (kq 17 (kq 19 kn)))))))) ?_
    refine XC.seq ?_
    refine XC.reg ?_
    refine mv_ (mv_ ?_)
    refine XL.lo rfl (l_call (Mc := MK) (R := _) (aS rfl (aS rfl a0)) (by kernel_rfl) PickC.perm (FnX.amb SubC.sub (use_f kb k n MK (J ++ A) hK hrise)) rfl ?_)
    rintro v77 MK2 J77 ⟨rfl, hK2⟩
    have hC2 := hC.use n
    have hul := use_len (n := n) hC.rise
    have hug := use_gone (k := k) (n := n)
    obtain ⟨was, hwas⟩ : ∃ b, (getP k.once n).isSome = b := ⟨_, rfl⟩
    rw [hwas] at hul ⊢
    have hwl : was = true → 1 ≤ k.once.length := fun hw => by
     cases hk : k.once with
     | nil => rw [hk] at hwas; rw [← hwas] at hw; cases hw
     | cons a l => simp
    refine mv_ ?_
    refine XL.q (q_boolNeR false rfl rfl (by kernel_rfl) (by simp)) rfl ?_
    refine XL.fin (kq 4 (kq 11 (kq 12 (kq 13 (kq 15 (kq 16 (kq 17 (kq 19 (kq 79 kn))))))))) ?_
    refine XC.condF rfl ?_
    refine XC.skip ?_
    refine nx (kq 4 (kq 11 (kq 12 (kq 13 (kq 15 (kq 16 (kq 17 (kq 19 kn)))))))) ?_
    refine XC.join (α := Unit) (fun _ => [(4, v), (11, .pointer (some ⟨b11, 0, none⟩)), (12, .pointer (some ⟨pb, 0, none⟩)), (13, .pointer (some ⟨kb, 0, none⟩)), (15, .int .i64 (((useK k n).once.length : Nat) : Int)), (16, .int .i64 ((q : Nat) : Int)), (17, .int .u32 ((n : Nat) : Int))]) (fun _ => MK2 ++ MP) (fun _ => J77 ++ J) (fun _ => True) ?_ ?_
    ·
     refine XC.reg ?_
     refine mv_ ?_
     refine XL.fin (kq 4 (kq 11 (kq 12 (kq 13 (kq 15 (kq 16 (kq 17 (kq 80 kn)))))))) ?_
     refine XC.cond rfl (fun hc => ?_) (fun hc => ?_)
     ·
      subst hc
      rw [if_pos rfl] at hul
      refine XC.reg1 ?_
      refine mv_ ?_
      refine XL.q (q_num ((k.once.length - 1 : Nat) : Int) rfl rfl (sub64 (by have := hwl rfl; omega) (by omega) (by omega))) rfl ?_
      refine as_ ?_
      refine XL.nil ?_
      exact jn () trivial (kq 4 (kq 11 (kq 12 (kq 13 (kp 15 (by rw [hul]; rfl) (kq 16 (kq 17 kn))))))) (Fit.pick PickC.perm (Fit.last PickC.perm)) SubC.sub
     ·
      subst hc
      rw [if_neg (by decide)] at hul
      refine XC.skip ?_
      exact jn () trivial (kq 4 (kq 11 (kq 12 (kq 13 (kp 15 (by rw [hul]; rfl) (kq 16 (kq 17 kn))))))) (Fit.pick PickC.perm (Fit.last PickC.perm)) SubC.sub
    ·
     rintro _ -
     obtain ⟨va2, vg2, vs2, vo2, vm2, rs2, ro2, rm2, hr2⟩ := hK2.r
     refine XC.reg ?_
     refine mv_ (mv_ ?_)
     refine XL.call (aS rfl (aS rfl a0)) (by kernel_rfl) (once_f kb (useK k n) va2 vg2 vs2 vo2 vm2 rs2 ro2 rm2 n _ (hr2 _ SubC.sub SubC.sub) (rise_of hC2.rise)) rfl ?_
     rintro v86 M86 J86 ⟨rfl, q2, rfl, hq2⟩
     haveI := hq2.cel
     rw [hug]
     refine mv_ ?_
     refine XL.q (q_x0 rfl) rfl ?_
     refine XL.q (q_x1 rfl) rfl ?_
     refine as_ (as_ ?_)
     refine XL.fin (kq 4 (kq 11 (kq 12 (kq 13 (kq 15 (kq 16 (kq 21 kn))))))) ?_
     refine XC.reg ?_
     refine mv_ ?_
     refine XL.fin (kq 4 (kq 11 (kq 12 (kq 13 (kq 15 (kq 16 (kq 89 kn))))))) ?_
     refine XC.condF rfl ?_
     refine XC.skip ?_
     refine nb ?_
     refine nx (kq 4 (kq 11 (kq 12 (kq 13 (kq 15 (kq 16 kn)))))) ?_
     refine XC.reg1 ?_
     refine mv_ ?_
     refine XL.q (q_num ((q + 1 : Nat) : Int) rfl rfl (add64 (by omega) (by omega) (by omega))) rfl ?_
     refine as_ ?_
     refine XL.nil ?_
     exact rn (q + 1, _, MK2, J77 ++ J) ⟨hlt, hC2, by dsimp only; exact hK2.mono SubC.sub, List.mem_append_right _ hW⟩ (by dsimp only; omega) (kq 4 (kq 11 (kq 12 (kq 13 (kq 15 (kq 16 kn)))))) (Fit.pick PickC.perm (Fit.last PickC.perm)) SubC.sub
   ·
    have hge : q = ws.length := by simp at hc; omega
    clear hc hge hq
    refine XC.exit ?_
    refine te ?_
    refine re ?_
    refine be rfl ?_
    refine nx (kq 11 (kq 12 (kq 13 (kq 15 kn)))) ?_
    obtain ⟨x, sl, hsg⟩ : ∃ x sl, k.signed = x :: sl := by
     have := hC.sg.1
     cases hs : k.signed with
     | nil => rw [hs] at this; exact absurd this (by decide)
     | cons x sl => exact ⟨x, sl, rfl⟩
    obtain ⟨ia, ig, kx, hB2, hpa, hpg, hpx, hsx, hkl, hrow⟩ := bun_all (s := s) hC.bi hsg (by omega) (by omega)
    obtain ⟨hbl, -, -, hbt⟩ := bunK_facts (s := s) hsg
    refine XC.reg ?_
    refine mv_ (mv_ ?_)
    refine XL.lo rfl (l_call (Mc := MP) (R := _) (aS rfl (aS rfl a0)) (by kernel_rfl) PickC.perm (bundles_f pb s kb k va vg vs_ vo_ vm rs ro rm x sl MP _ (hr _ SubC.sub SubC.sub) hsg hP (by omega) (by omega) hG.up) rfl ?_)
    rintro v92 M92 J92 ⟨hP92, rows, hrd, hrw⟩
    haveI := hrd.cel
    generalize (bunK k s).2 = s2 at *
    generalize (bunK k s).1 = bl at *
    obtain ⟨i1, i2, i3⟩ := id_same hB2.tok (by omega) hpa hpg
    refine as_ ?_
    refine XL.fin (kq 11 (kq 12 (kq 13 (kq 15 (kq 22 kn))))) ?_
    refine XC.reg ?_
    refine mv_ (mv_ ?_)
    refine XL.lo rfl (l_call (Mc := M92) (R := _) (aS rfl (aS rfl a0)) (by kernel_rfl) PickC.perm (ident_f pb s2 kb k va vg vs_ vo_ vm rs ro rm M92 _ (hr _ SubC.sub SubC.sub) hP92 (by omega) hG.up) rfl ?_)
    rintro v95 M95 J95 ⟨hP95, pa, pg, rfl, hba, hbg⟩
    haveI := hba.cel
    haveI := hbg.cel
    rw [i1] at hP95
    rw [i2] at hba
    rw [i3] at hbg
    refine XL.lo rfl (l_alloc (cs := [.slice none 0 0, .slice none 0 0]) (by kernel_rfl) rfl fun b23 => ?_)
    refine XL.lo rfl (l_storeW (vs := [pa, pg]) rfl rfl rfl (by kernel_rfl) (by rfl) (allS hba.one (allS hbg.one all0)) UpC.upd ?_)
    refine XL.fin (kq 11 (kq 12 (kq 13 (kq 15 (kq 22 (kq 23 kn)))))) ?_
    refine XC.seq ?_
    refine XC.frz (B := (b23, blk [pa, pg] 44) :: MK) PickC.perm ?_
    have hiw := hC.who
    refine XC.drawK (M95) (_) true [0, 1, 2, 3, 4, 5, 6, 7, 8, 9, 10, 11, 12, 13, 14, 15, 16, 17, 18, 19, 20, 21, 22, 23, 24, 25, 26, 27, 28, 29, 30, 31, 32, 33, 34, 35, 36, 37, 38] [(0, 0), (1, 0), (2, 0), (3, 0), (4, 0), (5, 0), (6, 0), (8, 0), (7, 2), (9, 0), (10, 0), (11, 0), (12, 0), (14, 1), (13, 2), (15, 0), (16, 0), (17, 0), (18, 0), (19, 1), (20, 1), (21, 0), (22, 0), (23, 2), (24, 2), (25, 2), (26, 0), (27, 0), (28, 0), (29, 0), (30, 1), (31, 1), (32, 0), (33, 0), (34, 2), (35, 2), (36, 2), (37, 0), (38, 0)] (by kernel_rfl) (by kernel_rfl) PickC.perm fun hs K n0 hKm hKs hKn => ?_
    refine XK.q hs rfl qm_ rfl ?_
    refine XK.q hs rfl (q_lenV2 (sz := 10) rfl (by kernel_rfl) hrd) rfl ?_
    rw [hbl]
    refine XK.q hs rfl qm_ rfl ?_
    refine XK.q hs rfl (q_num ((k.once.length + 1 : Nat) : Int) rfl rfl (add64 (by omega) (by omega) (by omega))) rfl ?_
    refine XK.q hs rfl (q_cmp false rfl rfl (neF rfl)) rfl ?_
    refine XK.q hs rfl qm_ rfl ?_
    refine XK.qg hs rfl rfl rfl rfl qm_ rfl ?_
    refine XK.qg hs rfl rfl rfl rfl qm_ rfl ?_
    refine XK.lg [] _ rfl rfl rfl rfl (List.Perm.refl _) (fun _ h => by cases h) fun w0 => (l_callV (aS rfl a0) (by kernel_rfl) (klen_f kb k va vg vs_ vo_ vm rs ro rm _ (hr _ SubC.sub SubC.sub)) rfl fun _ => ?_)
    dsimp only [List.nil_append, List.append_eq]
    refine XK.qg hs rfl rfl rfl rfl (q_cmp false rfl rfl (neF rfl)) rfl ?_
    refine XK.q hs rfl (q_pickF rfl rfl) rfl ?_
    refine XK.q hs rfl qm_ rfl ?_
    refine XK.qg hs rfl rfl rfl rfl qm_ rfl ?_
    refine XK.rg hs rfl rfl rfl rfl (by first | exact fun x hx => by rw [List.append_assoc]; exact List.mem_append_right _ hx | exact SubC.sub) hKs (q_loadW (n := 2) rfl (by kernel_rfl) (SubC.sub _ hW) (by rfl)) rfl ?_
    refine XK.lg [] _ rfl rfl rfl rfl (List.Perm.refl _) (fun _ h => by cases h) fun w0 => (l_callV (aS rfl a0) (by kernel_rfl) (who_f kb k va vg vs_ vo_ vm rs ro rm _ (hr _ SubC.sub SubC.sub)) rfl fun _ => ?_)
    dsimp only [List.nil_append, List.append_eq]
    refine XK.qg hs rfl rfl rfl rfl ((show (!(k.user == u && k.dev == d)) = false by rw [hiw.1, hiw.2]; simp) ▸ q_twoNe rfl rfl (by kernel_rfl)) rfl ?_
    refine XK.q hs rfl (q_pickF rfl rfl) rfl ?_
    refine XK.q hs rfl qm_ rfl ?_
    refine XK.qg hs rfl rfl rfl rfl (qf_ 0 0) rfl ?_
    refine XK.rg hs rfl rfl rfl rfl (by first | exact fun x hx => by rw [List.append_assoc]; exact List.mem_append_right _ hx | exact SubC.sub) hKs ql_ rfl ?_
    refine XK.rg hs rfl rfl rfl rfl (by first | exact fun x hx => by rw [List.append_assoc]; exact List.mem_append_right _ hx | exact SubC.sub) hKs (q_toStr2 rfl (by kernel_rfl) (hba.rd.mono SubC.sub)) rfl ?_
    refine XK.qg hs rfl rfl rfl rfl qm_ rfl ?_
    refine XK.qg hs rfl rfl rfl rfl qm_ rfl ?_
    refine XK.lg [] _ rfl rfl rfl rfl (List.Perm.refl _) (fun _ h => by cases h) fun w0 => (l_call0 (aS rfl a0) (by kernel_rfl) (kagree_f kb k va vg vs_ vo_ vm rs ro rm _ (hr _ SubC.sub SubC.sub)) rfl ?_)
    rintro v119 M119 J119 ⟨rfl, h119⟩ _
    haveI := h119.cel
    dsimp only [List.nil_append, List.append_eq]
    refine XK.lg _ _ rfl rfl rfl rfl (List.Perm.refl _) hKm fun w0 => (l_call (Mc := M95) (R := _) (aS rfl (aS rfl (a0))) (by kernel_rfl) PickC.perm (public_b pb s2 v119 k.agree M95 _ hP95 (by omega) (h119.mono SubC.sub) hG.up) rfl ?_)
    rintro v120 M120 J120 ⟨hP120, h120⟩ hKx120
    haveI := h120.cel
    rw [(hpa.eq hB2.tok (by omega)).1] at hP120
    rw [(hpa.eq hB2.tok (by omega)).2] at h120
    refine XK.lg [] _ rfl rfl rfl rfl (List.Perm.refl _) (fun _ h => by cases h) fun w0 => (OpQ.opL (q_toStr2 rfl (by kernel_rfl) (h120.rd.mono SubC.sub)) rfl ?_)
    intro _
    refine XK.qg hs rfl rfl rfl rfl ((show (!decide (ia = ia)) = false by simp) ▸ q_sNe rfl rfl rfl rfl hba.lt h120.lt) rfl ?_
    refine XK.q hs rfl (q_pickF rfl rfl) rfl ?_
    refine XK.q hs rfl qm_ rfl ?_
    refine XK.qg hs rfl rfl rfl rfl (qf_ 1 1) rfl ?_
    refine XK.rg hs rfl rfl rfl rfl (by first | exact fun x hx => by rw [List.append_assoc]; exact List.mem_append_right _ hx | exact SubC.sub) hKs ql_ rfl ?_
    refine XK.rg hs rfl rfl rfl rfl (by first | exact fun x hx => by rw [List.append_assoc]; exact List.mem_append_right _ hx | exact SubC.sub) hKs (q_toStr2 rfl (by kernel_rfl) (hbg.rd.mono SubC.sub)) rfl ?_
    refine XK.qg hs rfl rfl rfl rfl qm_ rfl ?_
    refine XK.qg hs rfl rfl rfl rfl qm_ rfl ?_
    refine XK.lg [] _ rfl rfl rfl rfl (List.Perm.refl _) (fun _ h => by cases h) fun w0 => (l_call0 (aS rfl a0) (by kernel_rfl) (ksign_f kb k va vg vs_ vo_ vm rs ro rm _ (hr _ SubC.sub SubC.sub)) rfl ?_)
    rintro v130 M130 J130 ⟨rfl, h130⟩ _
    haveI := h130.cel
    dsimp only [List.nil_append, List.append_eq]
    refine XK.lg M120 _ rfl rfl rfl rfl PickC.perm (fun x hx => hKx120 (hKn rfl) x (by simpa using hx)) fun w0 => (l_call (Mc := M120) (R := _) (aS rfl (aS rfl (a0))) (by kernel_rfl) PickC.perm (signKey_b pb s2 v130 k.sign M120 _ hP120 (by omega) (h130.mono SubC.sub) hG.up) rfl ?_)
    rintro v131 M131 J131 ⟨hP131, h131⟩ hKx131
    haveI := h131.cel
    rw [(hpg.eq hB2.tok (by omega)).1] at hP131
    rw [(hpg.eq hB2.tok (by omega)).2] at h131
    refine XK.lg [] _ rfl rfl rfl rfl (List.Perm.refl _) (fun _ h => by cases h) fun w0 => (OpQ.opL (q_toStr2 rfl (by kernel_rfl) (h131.rd.mono SubC.sub)) rfl ?_)
    intro _
    refine XK.qg hs rfl rfl rfl rfl ((show (!decide (ig = ig)) = false by simp) ▸ q_sNe rfl rfl rfl rfl hbg.lt h131.lt) rfl ?_
    refine XK.q hs rfl (q_pickF rfl rfl) rfl ?_
    refine XK.fin (kq 11 (kq 12 (kq 13 (kq 22 (kq 23 (kq 134 kn)))))) ?_
    refine XC.condF rfl ?_
    refine XC.skip ?_
    refine nx (kq 11 (kq 12 (kq 13 (kq 22 (kq 23 kn))))) ?_
    refine XC.seq ?_
    refine XC.reg ?_
    refine as_ ?_
    refine XL.fin (kq 11 (kq 12 (kq 13 (kq 22 (kq 23 (kq 24 kn)))))) ?_
    refine XC.block ?_
    dsimp only [List.nil_append, List.append_eq, List.append_nil]
    obtain ⟨J0, hJ0⟩ : ∃ J0 : Mem, J0 = (b23, blk [pa, pg] 44) :: (MK ++ (J95 ++ (J92 ++ (J ++ A)))) := ⟨_, rfl⟩
    refine XC.loop (α := Nat × Mem × Mem) (fun y => [(11, .pointer (some ⟨b11, 0, none⟩)), (12, .pointer (some ⟨pb, 0, none⟩)), (13, .pointer (some ⟨kb, 0, none⟩)), (22, v92), (23, .pointer (some ⟨b23, 0, none⟩)), (24, .int .i64 ((y.1 : Nat) : Int))]) (fun y => y.2.1) (fun y => y.2.2) (fun y => y.1 ≤ k.once.length + 1 ∧ Prm pb s2 y.2.1 ∧ ∀ z, z ∈ J0 → z ∈ y.2.2 ++ A) (fun y => k.once.length + 1 - y.1) (0, M131, _) ⟨Nat.zero_le _, hP131, by rw [hJ0]; exact SubC.sub⟩ (kq 11 (kq 12 (kq 13 (kq 22 (kq 23 (kq 24 kn)))))) (Fit.last PickC.perm) (fun _ h => h) ?_
    rintro ⟨j, MPj, Jj⟩ ⟨hj, hPj, hJ⟩
    dsimp only at hj hPj hJ ⊢
    rw [hJ0] at hJ
    refine XC.seq ?_
    refine XC.reg ?_
    refine mv_ (mv_ ?_)
    refine XL.q (q_lenV2 (sz := 10) rfl (by kernel_rfl) hrd) rfl ?_
    rw [hbl]
    refine XL.q (q_bin rfl rfl rfl) rfl ?_
    refine XL.fin (kq 11 (kq 12 (kq 13 (kq 22 (kq 23 (kq 24 (kq 138 kn))))))) ?_
    refine XC.cond rfl (fun hc => ?_) (fun hc => ?_)
    ·
     have hjb : j < k.once.length + 1 := by simp at hc; omega
     obtain ⟨y, hy, y1, y2, y3, y4, y5, y6, y7, y8, y9⟩ := hrow j hjb
     obtain ⟨r0, hr0, a1, a2, a3, a4, a5, rfl, ba1, ba2, ba3, ba4, ba5, hys, hyo⟩ := hrw.get j y hy
     haveI := ba1.cel
     haveI := ba2.cel
     haveI := ba3.cel
     haveI := ba4.cel
     haveI := ba5.cel
     have hxn : x.n < 4294967296 := y5 ▸ hys
     rw [y1, y2, y5, y8] at hr0
     rw [y3] at ba1
     rw [y4] at ba2
     rw [y6] at ba3
     rw [y7] at ba4
     have hup : ∀ z, z ∈ J92 ++ (J ++ A) → z ∈ Jj ++ A := fun z hz => hJ z (by simp at hz; rcases hz with hz | hz | hz <;> simp [hz])
     have hgx : getP k.signed x.n = some x.sec := by rw [hsg]; exact getP_head
     have hKj := hr (Jj ++ A) (fun z hz => hJ z (SubC.sub z hz)) (fun z hz => hJ z (SubC.sub z hz))
     refine XC.skip ?_
     refine nx (kq 11 (kq 12 (kq 13 (kq 22 (kq 23 (kq 24 kn)))))) ?_
     refine XC.seq ?_
     refine XC.block ?_
     refine XC.reg ?_
     refine mv_ (mv_ (mv_ ?_))
     refine XL.q (q_atV2 (sz := 10) rfl rfl (by kernel_rfl) rfl hrd (by rw [hbl]; exact hjb)) rfl ?_
     refine XL.q (q_fldV (off := 4) rfl hrd (by rw [hbl]; exact hjb) (by kernel_rfl)) rfl ?_
     refine XL.q (q_ldVF (u := .int .u32 ((x.n : Nat) : Int)) rfl ((hrd.mono fun z hz => hup z (by simp [hz])).mono SubC.sub) (by rw [hbl]; omega) (by kernel_rfl) (by rw [flat_get (hrw.lens bnT) hr0 4 (by decide)]; rfl)) rfl ?_
     refine XL.call (aS rfl (aS rfl a0)) (by kernel_rfl) (signed_f kb k va vg vs_ vo_ vm rs ro rm x.n _ (hKj.mono SubC.sub)) rfl ?_
     rintro v148 M148 J148 ⟨rfl, q1, rfl, hq1⟩
     haveI := hq1.cel
     rw [hgx] at hq1 ⊢
     change By _ q1 x.sec at hq1
     refine mv_ ?_
     refine XL.q (q_x0 rfl) rfl ?_
     refine XL.q (q_x1 rfl) rfl ?_
     refine as_ (as_ ?_)
     refine XL.fin (kq 11 (kq 12 (kq 13 (kq 22 (kq 23 (kq 24 (kq 25 (kq 26 kn)))))))) ?_
     refine XC.seq ?_
     refine XC.drawK (MPj) (_) true [0, 1, 2, 3, 4, 5, 6, 7, 8, 9, 10, 11, 12, 13, 14, 15, 16, 17, 18, 19, 20, 21, 22, 23, 24, 25, 26, 27, 28, 29, 30, 31, 32, 33, 34, 35, 36, 37, 38, 39, 40, 41, 42, 43, 44, 45, 46, 47, 48, 49, 50, 51, 52, 53, 54, 55, 56, 57, 58, 59, 60, 61, 62, 63, 64, 65, 66, 67, 68, 69, 70, 71, 72, 73] [(0, 0), (1, 0), (2, 0), (3, 0), (4, 0), (7, 0), (8, 0), (9, 0), (10, 0), (11, 1), (12, 1), (5, 2), (6, 2), (13, 0), (14, 0), (15, 0), (16, 0), (17, 0), (18, 0), (19, 0), (20, 1), (21, 1), (22, 0), (23, 0), (24, 0), (25, 0), (26, 0), (27, 0), (28, 0), (29, 0), (30, 1), (31, 1), (32, 0), (33, 1), (34, 1), (35, 0), (36, 0), (37, 0), (38, 0), (39, 0), (40, 0), (41, 0), (42, 0), (43, 0), (44, 1), (45, 0), (46, 0), (47, 0), (48, 0), (49, 1), (50, 0), (51, 0), (52, 0), (53, 0), (54, 1), (56, 0), (57, 0), (58, 0), (59, 0), (60, 1), (55, 2), (61, 2), (62, 0), (63, 0), (64, 0), (65, 0), (66, 0), (67, 0), (68, 0), (69, 1), (70, 0), (71, 0), (72, 0), (73, 0)] (by kernel_rfl) (by kernel_rfl) PickC.perm fun hs K n0 hKm hKs hKn => ?_
     refine XK.q hs rfl qm_ rfl ?_
     refine XK.q hs rfl (q_not rfl) rfl ?_
     refine XK.q hs rfl qm_ rfl ?_
     refine XK.qg hs rfl rfl rfl rfl qm_ rfl ?_
     refine XK.qg hs rfl rfl rfl rfl qm_ rfl ?_
     refine XK.qg hs rfl rfl rfl rfl qm_ rfl ?_
     refine XK.qg hs rfl rfl rfl rfl qm_ rfl ?_
     refine XK.qg hs rfl rfl rfl rfl (q_atV2 (sz := 10) rfl rfl (by kernel_rfl) rfl hrd (by rw [hbl]; exact hjb)) rfl ?_
     refine XK.qg hs rfl rfl rfl rfl (q_fldV (off := 5) rfl hrd (by rw [hbl]; exact hjb) (by kernel_rfl)) rfl ?_
     refine XK.rg hs rfl rfl rfl rfl (by first | exact fun x hx => by rw [List.append_assoc]; exact List.mem_append_right _ hx | exact SubC.sub) hKs (q_ldVF (u := a3) rfl (hrd.mono (fun z hz => SubC.sub z (hJ z (SubC.sub z hz)))) (by rw [hbl]; omega) (by kernel_rfl) (by rw [flat_get (hrw.lens bnT) hr0 5 (by decide)]; rfl)) rfl ?_
     refine XK.rg hs rfl rfl rfl rfl (by first | exact fun x hx => by rw [List.append_assoc]; exact List.mem_append_right _ hx | exact SubC.sub) hKs (q_toStr2 rfl (by kernel_rfl) (ba3.rd.mono (fun z hz => SubC.sub z (hJ z (SubC.sub z hz))))) rfl ?_
     refine XK.lg _ _ rfl rfl rfl rfl (List.Perm.refl _) hKm fun w0 => (l_call (Mc := MPj) (R := _) (aS rfl (aS rfl (a0))) (by kernel_rfl) PickC.perm (public_b pb s2 q1 x.sec MPj _ hPj (by omega) (hq1.mono SubC.sub) hG.up) rfl ?_)
     rintro v156 M156 J156 ⟨hP156, h156⟩ hKx156
     haveI := h156.cel
     rw [(hpx.eq hB2.tok (by omega)).1] at hP156
     rw [(hpx.eq hB2.tok (by omega)).2] at h156
     refine XK.lg [] _ rfl rfl rfl rfl (List.Perm.refl _) (fun _ h => by cases h) fun w0 => (OpQ.opL (q_toStr2 rfl (by kernel_rfl) (h156.rd.mono SubC.sub)) rfl ?_)
     intro _
     refine XK.qg hs rfl rfl rfl rfl ((show (!decide (kx = kx)) = false by simp) ▸ q_sNe rfl rfl rfl rfl ba3.lt h156.lt) rfl ?_
     refine XK.q hs rfl (q_pickF rfl rfl) rfl ?_
     refine XK.q hs rfl qm_ rfl ?_
     refine XK.qg hs rfl rfl rfl rfl qm_ rfl ?_
     refine XK.qg hs rfl rfl rfl rfl qm_ rfl ?_
     refine XK.qg hs rfl rfl rfl rfl (q_atV2 (sz := 10) rfl rfl (by kernel_rfl) rfl hrd (by rw [hbl]; exact hjb)) rfl ?_
     refine XK.qg hs rfl rfl rfl rfl (q_fldV (off := 0) rfl hrd (by rw [hbl]; exact hjb) (by kernel_rfl)) rfl ?_
     refine XK.rg hs rfl rfl rfl rfl (by first | exact fun x hx => by rw [List.append_assoc]; exact List.mem_append_right _ hx | exact SubC.sub) hKs (q_ldVC (cs := [.int .i64 k.user, .int .i64 k.dev]) rfl (by kernel_rfl) (hrd.mono (fun z hz => SubC.sub z (hJ z (SubC.sub z hz)))) (by rw [hbl]; omega) rfl (fun i w hi => by have hi2 : i < 2 := (List.getElem?_eq_some_iff.1 hi).1; rw [Nat.add_zero, flat_get (hrw.lens bnT) hr0 i (by omega)]; rcases (by omega : i = 0 ∨ i = 1) with rfl | rfl <;> exact hi)) rfl ?_
     refine XK.rg hs rfl rfl rfl rfl (by first | exact fun x hx => by rw [List.append_assoc]; exact List.mem_append_right _ hx | exact SubC.sub) hKs (q_loadW (n := 2) rfl (by kernel_rfl) (SubC.sub (b11, blk [.int .i64 u, .int .i64 d] 35) (hJ _ (SubC.sub _ hW))) (by rfl)) rfl ?_
     refine XK.qg hs rfl rfl rfl rfl ((show (!(k.user == u && k.dev == d)) = false by rw [hiw.1, hiw.2]; simp) ▸ q_twoNe rfl rfl (by kernel_rfl)) rfl ?_
     refine XK.q hs rfl (q_pickF rfl rfl) rfl ?_
     refine XK.q hs rfl qm_ rfl ?_
     refine XK.qg hs rfl rfl rfl rfl qm_ rfl ?_
     refine XK.qg hs rfl rfl rfl rfl qm_ rfl ?_
     refine XK.qg hs rfl rfl rfl rfl (q_atV2 (sz := 10) rfl rfl (by kernel_rfl) rfl hrd (by rw [hbl]; exact hjb)) rfl ?_
     refine XK.qg hs rfl rfl rfl rfl (q_fldV (off := 2) rfl hrd (by rw [hbl]; exact hjb) (by kernel_rfl)) rfl ?_
     refine XK.qg hs rfl rfl rfl rfl (q_fldVV (off := 0) rfl hrd (by rw [hbl]; omega) (by kernel_rfl)) rfl ?_
     refine XK.rg hs rfl rfl rfl rfl (by first | exact fun x hx => by rw [List.append_assoc]; exact List.mem_append_right _ hx | exact SubC.sub) hKs (q_ldVF (u := a1) rfl (hrd.mono (fun z hz => SubC.sub z (hJ z (SubC.sub z hz)))) (by rw [hbl]; omega) (by kernel_rfl) (by rw [Nat.add_zero, flat_get (hrw.lens bnT) hr0 2 (by decide)]; rfl)) rfl ?_
     refine XK.rg hs rfl rfl rfl rfl (by first | exact fun x hx => by rw [List.append_assoc]; exact List.mem_append_right _ hx | exact SubC.sub) hKs (q_toStr2 rfl (by kernel_rfl) (ba1.rd.mono (fun z hz => SubC.sub z (hJ z (SubC.sub z hz))))) rfl ?_
     refine XK.qg hs rfl rfl rfl rfl (qf_ 0 0) rfl ?_
     refine XK.rg hs rfl rfl rfl rfl (by first | exact fun x hx => by rw [List.append_assoc]; exact List.mem_append_right _ hx | exact SubC.sub) hKs (q_load rfl (by kernel_rfl) (SubC.sub (b23, blk [pa, pg] 44) (hJ _ List.mem_cons_self)) (by rfl)) rfl ?_
     refine XK.rg hs rfl rfl rfl rfl (by first | exact fun x hx => by rw [List.append_assoc]; exact List.mem_append_right _ hx | exact SubC.sub) hKs (q_toStr2 rfl (by kernel_rfl) (hba.rd.mono (fun z hz => SubC.sub z (hJ z (SubC.sub z hz))))) rfl ?_
     refine XK.qg hs rfl rfl rfl rfl ((show (!decide (ia = ia)) = false by simp) ▸ q_sNe rfl rfl rfl rfl ba1.lt hba.lt) rfl ?_
     refine XK.q hs rfl (q_pickF rfl rfl) rfl ?_
     refine XK.q hs rfl qm_ rfl ?_
     refine XK.qg hs rfl rfl rfl rfl qm_ rfl ?_
     refine XK.qg hs rfl rfl rfl rfl qm_ rfl ?_
     refine XK.qg hs rfl rfl rfl rfl qm_ rfl ?_
     refine XK.qg hs rfl rfl rfl rfl (q_atV2 (sz := 10) rfl rfl (by kernel_rfl) rfl hrd (by rw [hbl]; exact hjb)) rfl ?_
     refine XK.qg hs rfl rfl rfl rfl (q_fldV (off := 2) rfl hrd (by rw [hbl]; exact hjb) (by kernel_rfl)) rfl ?_
     refine XK.qg hs rfl rfl rfl rfl (q_fldVV (off := 1) rfl hrd (by rw [hbl]; omega) (by kernel_rfl)) rfl ?_
     refine XK.rg hs rfl rfl rfl rfl (by first | exact fun x hx => by rw [List.append_assoc]; exact List.mem_append_right _ hx | exact SubC.sub) hKs (q_ldVF (u := a2) rfl (hrd.mono (fun z hz => SubC.sub z (hJ z (SubC.sub z hz)))) (by rw [hbl]; omega) (by kernel_rfl) (by rw [Nat.add_assoc, flat_get (hrw.lens bnT) hr0 3 (by decide)]; rfl)) rfl ?_
     refine XK.qg hs rfl rfl rfl rfl qm_ rfl ?_
     refine XK.qg hs rfl rfl rfl rfl qm_ rfl ?_
     refine XK.qg hs rfl rfl rfl rfl (q_atV2 (sz := 10) rfl rfl (by kernel_rfl) rfl hrd (by rw [hbl]; exact hjb)) rfl ?_
     refine XK.qg hs rfl rfl rfl rfl (q_fldV (off := 4) rfl hrd (by rw [hbl]; exact hjb) (by kernel_rfl)) rfl ?_
     refine XK.rg hs rfl rfl rfl rfl (by first | exact fun x hx => by rw [List.append_assoc]; exact List.mem_append_right _ hx | exact SubC.sub) hKs (q_ldVF (u := .int .u32 ((x.n : Nat) : Int)) rfl (hrd.mono (fun z hz => SubC.sub z (hJ z (SubC.sub z hz)))) (by rw [hbl]; omega) (by kernel_rfl) (by rw [flat_get (hrw.lens bnT) hr0 4 (by decide)]; rfl)) rfl ?_
     refine XK.qg hs rfl rfl rfl rfl qm_ rfl ?_
     refine XK.qg hs rfl rfl rfl rfl qm_ rfl ?_
     refine XK.qg hs rfl rfl rfl rfl (q_atV2 (sz := 10) rfl rfl (by kernel_rfl) rfl hrd (by rw [hbl]; exact hjb)) rfl ?_
     refine XK.qg hs rfl rfl rfl rfl (q_fldV (off := 5) rfl hrd (by rw [hbl]; exact hjb) (by kernel_rfl)) rfl ?_
     refine XK.rg hs rfl rfl rfl rfl (by first | exact fun x hx => by rw [List.append_assoc]; exact List.mem_append_right _ hx | exact SubC.sub) hKs (q_ldVF (u := a3) rfl (hrd.mono (fun z hz => SubC.sub z (hJ z (SubC.sub z hz)))) (by rw [hbl]; omega) (by kernel_rfl) (by rw [flat_get (hrw.lens bnT) hr0 5 (by decide)]; rfl)) rfl ?_
     refine XK.qg hs rfl rfl rfl rfl qm_ rfl ?_
     refine XK.qg hs rfl rfl rfl rfl qm_ rfl ?_
     refine XK.qg hs rfl rfl rfl rfl (q_atV2 (sz := 10) rfl rfl (by kernel_rfl) rfl hrd (by rw [hbl]; exact hjb)) rfl ?_
     refine XK.qg hs rfl rfl rfl rfl (q_fldV (off := 6) rfl hrd (by rw [hbl]; exact hjb) (by kernel_rfl)) rfl ?_
     refine XK.rg hs rfl rfl rfl rfl (by first | exact fun x hx => by rw [List.append_assoc]; exact List.mem_append_right _ hx | exact SubC.sub) hKs (q_ldVF (u := a4) rfl (hrd.mono (fun z hz => SubC.sub z (hJ z (SubC.sub z hz)))) (by rw [hbl]; omega) (by kernel_rfl) (by rw [flat_get (hrw.lens bnT) hr0 6 (by decide)]; rfl)) rfl ?_
     refine XK.lg [] _ rfl rfl rfl rfl (List.Perm.refl _) (fun _ h => by cases h) fun w0 => (l_call0 (aS rfl (aS rfl a0)) (by kernel_rfl) (message_f x.n a3 kx _ hxn (ba3.mono (fun z hz => SubC.sub z (hJ z (SubC.sub z hz)))) hkl) rfl ?_)
     rintro v206 M206 J206 ⟨rfl, h206⟩ _
     haveI := h206.cel
     dsimp only [List.nil_append, List.append_eq]
     refine XK.lg [] _ rfl rfl rfl rfl (List.Perm.refl _) (fun _ h => by cases h) fun w0 => (l_callV (aS rfl (aS rfl (aS rfl (aS rfl a0)))) (by kernel_rfl) (pcheck_f pb s2 a2 v206 a4 ig (msgN x.n kx) x.sig M156 _ hP156 (by intro z hz; simp [hz]) hB2.ar (by omega) (ba2.mono (fun z hz => SubC.sub z (hJ z (SubC.sub z hz)))) (h206.mono SubC.sub) (ba4.mono (fun z hz => SubC.sub z (hJ z (SubC.sub z hz)))) hG.up) rfl fun _ => ?_)
     dsimp only [List.nil_append, List.append_eq]
     rw [chk_at (by omega) hpg hsx]
     refine XK.qg hs rfl rfl rfl rfl (q_not rfl) rfl ?_
     refine XK.q hs rfl (q_pickF rfl rfl) rfl ?_
     refine XK.q hs rfl qm_ rfl ?_
     refine XK.qg hs rfl rfl rfl rfl qm_ rfl ?_
     refine XK.qg hs rfl rfl rfl rfl qm_ rfl ?_
     refine XK.qg hs rfl rfl rfl rfl (q_atV2 (sz := 10) rfl rfl (by kernel_rfl) rfl hrd (by rw [hbl]; exact hjb)) rfl ?_
     refine XK.qg hs rfl rfl rfl rfl (q_fldV (off := 7) rfl hrd (by rw [hbl]; exact hjb) (by kernel_rfl)) rfl ?_
     refine XK.rg hs rfl rfl rfl rfl (by first | exact fun x hx => by rw [List.append_assoc]; exact List.mem_append_right _ hx | exact SubC.sub) hKs (q_ldVF (u := .bool (decide (0 < j))) rfl (hrd.mono (fun z hz => SubC.sub z (hJ z (SubC.sub z hz)))) (by rw [hbl]; omega) (by kernel_rfl) (by rw [flat_get (hrw.lens bnT) hr0 7 (by decide)]; rfl)) rfl ?_
     refine XK.qg hs rfl rfl rfl rfl qm_ rfl ?_
     refine XK.qg hs rfl rfl rfl rfl (q_cmp (decide (0 < j)) rfl rfl (gtN 0 j)) rfl ?_
     refine XK.qg hs rfl rfl rfl rfl (q_boolNeR false rfl rfl (by kernel_rfl) (by simp)) rfl ?_
     refine XK.q hs rfl (q_pickF rfl rfl) rfl ?_
     refine XK.fin (kq 11 (kq 12 (kq 13 (kq 22 (kq 23 (kq 24 (kq 224 kn))))))) ?_
     refine XC.condF rfl ?_
     refine XC.skip ?_
     refine nx (kq 11 (kq 12 (kq 13 (kq 22 (kq 23 (kq 24 kn)))))) ?_
     refine XC.reg ?_
     refine mv_ (mv_ (mv_ ?_))
     refine XL.q (q_atV2 (sz := 10) rfl rfl (by kernel_rfl) rfl hrd (by rw [hbl]; exact hjb)) rfl ?_
     refine XL.q (q_fldV (off := 8) rfl hrd (by rw [hbl]; exact hjb) (by kernel_rfl)) rfl ?_
     refine XL.q (q_ldVF (u := .int .u32 ((y.once : Nat) : Int)) rfl ((hrd.mono fun z hz => hup z (by simp [hz])).mono SubC.sub) (by rw [hbl]; omega) (by kernel_rfl) (by rw [flat_get (hrw.lens bnT) hr0 8 (by decide)]; rfl)) rfl ?_
     refine XL.call (aS rfl (aS rfl a0)) (by kernel_rfl) (once_f kb k va vg vs_ vo_ vm rs ro rm y.once _ (hKj.mono SubC.sub) hrise) rfl ?_
     rintro v232 M232 J232 ⟨rfl, q2, rfl, hq2⟩
     haveI := hq2.cel
     refine mv_ ?_
     refine XL.q (q_x0 rfl) rfl ?_
     refine XL.q (q_x1 rfl) rfl ?_
     refine as_ (as_ ?_)
     refine XL.fin (kq 11 (kq 12 (kq 13 (kq 22 (kq 23 (kq 24 (kq 27 (kq 28 kn)))))))) ?_
     refine XC.drawK (M156) (_) true [0, 1, 2, 3, 4, 5, 6, 7, 8, 9, 10, 11, 12, 13, 14, 15, 16, 17, 18, 19, 20, 21] [(0, 0), (1, 0), (2, 0), (3, 0), (4, 1), (5, 0), (6, 0), (7, 0), (8, 0), (9, 0), (10, 0), (13, 0), (14, 0), (15, 0), (16, 0), (17, 1), (18, 1), (11, 2), (12, 2), (19, 0), (20, 0), (21, 0)] (by kernel_rfl) (by kernel_rfl) PickC.perm fun hs K n0 hKm hKs hKn => ?_
     refine XK.q hs rfl qm_ rfl ?_
     refine XK.q hs rfl qm_ rfl ?_
     refine XK.q hs rfl (q_atV2 (sz := 10) rfl rfl (by kernel_rfl) rfl hrd (by rw [hbl]; exact hjb)) rfl ?_
     refine XK.q hs rfl (q_fldV (off := 7) rfl hrd (by rw [hbl]; exact hjb) (by kernel_rfl)) rfl ?_
     refine XK.r hs rfl (by first | exact fun x hx => by rw [List.append_assoc]; exact List.mem_append_right _ hx | exact SubC.sub) hKs (q_ldVF (u := .bool (decide (0 < j))) rfl (hrd.mono (fun z hz => SubC.sub z (hJ z (SubC.sub z hz)))) (by rw [hbl]; omega) (by kernel_rfl) (by rw [flat_get (hrw.lens bnT) hr0 7 (by decide)]; rfl)) rfl ?_
     refine XK.q hs rfl qm_ rfl ?_
     refine XK.split (t := 240) rfl (fun hb => ?_) (fun hb => ?_)
     ·
      have h0j : 0 < j := of_decide_eq_true hb
      obtain ⟨o, ho, yo1, yo2⟩ := y9 h0j
      rw [yo1, getP_at hrise ho] at hq2 ⊢
      change By _ q2 o.sec at hq2
      refine XK.qg hs rfl rfl rfl rfl qm_ rfl ?_
      refine XK.qg hs rfl rfl rfl rfl (q_not rfl) rfl ?_
      refine XK.qg hs rfl rfl rfl rfl qm_ rfl ?_
      refine XK.qg hs rfl rfl rfl rfl qm_ rfl ?_
      refine XK.qg hs rfl rfl rfl rfl qm_ rfl ?_
      refine XK.qg hs rfl rfl rfl rfl qm_ rfl ?_
      refine XK.qg hs rfl rfl rfl rfl qm_ rfl ?_
      refine XK.qg hs rfl rfl rfl rfl (q_atV2 (sz := 10) rfl rfl (by kernel_rfl) rfl hrd (by rw [hbl]; exact hjb)) rfl ?_
      refine XK.qg hs rfl rfl rfl rfl (q_fldV (off := 9) rfl hrd (by rw [hbl]; exact hjb) (by kernel_rfl)) rfl ?_
      refine XK.rg hs rfl rfl rfl rfl (by first | exact fun x hx => by rw [List.append_assoc]; exact List.mem_append_right _ hx | exact SubC.sub) hKs (q_ldVF (u := a5) rfl (hrd.mono (fun z hz => SubC.sub z (hJ z (SubC.sub z hz)))) (by rw [hbl]; omega) (by kernel_rfl) (by rw [flat_get (hrw.lens bnT) hr0 9 (by decide)]; rfl)) rfl ?_
      refine XK.rg hs rfl rfl rfl rfl (by first | exact fun x hx => by rw [List.append_assoc]; exact List.mem_append_right _ hx | exact SubC.sub) hKs (q_toStr2 rfl (by kernel_rfl) (ba5.rd.mono (fun z hz => SubC.sub z (hJ z (SubC.sub z hz))))) rfl ?_
      refine XK.lg _ _ rfl rfl rfl rfl (List.Perm.refl _) hKm fun w0 => (l_call (Mc := M156) (R := _) (aS rfl (aS rfl (a0))) (by kernel_rfl) PickC.perm (public_b pb s2 q2 o.sec M156 _ hP156 (by omega) (hq2.mono SubC.sub) hG.up) rfl ?_)
      rintro v246 M246 J246 ⟨hP246, h246⟩ hKx246
      haveI := h246.cel
      rw [(yo2.eq hB2.tok (by omega)).1] at hP246
      rw [(yo2.eq hB2.tok (by omega)).2] at h246
      refine XK.lg [] _ rfl rfl rfl rfl (List.Perm.refl _) (fun _ h => by cases h) fun w0 => (OpQ.opL (q_toStr2 rfl (by kernel_rfl) (h246.rd.mono SubC.sub)) rfl ?_)
      intro _
      refine XK.qg hs rfl rfl rfl rfl ((show (!decide (y.oncek = y.oncek)) = false by simp) ▸ q_sNe rfl rfl rfl rfl ba5.lt h246.lt) rfl ?_
      refine XK.qg hs rfl rfl rfl rfl (q_pickF rfl rfl) rfl ?_
      refine XK.q hs rfl (q_pickT rfl rfl) rfl ?_
      refine XK.fin (kq 11 (kq 12 (kq 13 (kq 22 (kq 23 (kq 24 (kq 256 kn))))))) ?_
      refine XC.condF rfl ?_
      refine XC.skip ?_
      refine nb ?_
      refine nx (kq 11 (kq 12 (kq 13 (kq 22 (kq 23 (kq 24 kn)))))) ?_
      refine XC.reg1 ?_
      refine mv_ ?_
      refine XL.q (q_num ((j + 1 : Nat) : Int) rfl rfl (add64 (by omega) (by omega) (by omega))) rfl ?_
      refine as_ ?_
      refine XL.nil ?_
      exact rn (j + 1, M246, _) ⟨hjb, hP246, by rw [hJ0]; exact fun z hz => SubC.sub _ (hJ z hz)⟩ (by dsimp only; omega) (kq 11 (kq 12 (kq 13 (kq 22 (kq 23 (kq 24 kn)))))) (Fit.eq (by simp)) (fun _ h => h)
     ·
      refine XK.qn hs rfl rfl rfl rfl rfl rfl ?_
      refine XK.qn hs rfl rfl rfl rfl rfl rfl ?_
      refine XK.qn hs rfl rfl rfl rfl rfl rfl ?_
      refine XK.qu hs rfl rfl rfl rfl rfl ?_
      refine XK.qu hs rfl rfl rfl rfl rfl ?_
      refine XK.qu hs rfl rfl rfl rfl rfl ?_
      refine XK.qu hs rfl rfl rfl rfl rfl ?_
      refine XK.qu hs rfl rfl rfl rfl rfl ?_
      refine XK.qu hs rfl rfl rfl rfl rfl ?_
      refine XK.ru hs rfl rfl rfl rfl rfl ?_
      refine XK.ru hs rfl rfl rfl rfl rfl ?_
      refine XK.lu rfl rfl rfl rfl rfl ?_
      refine XK.lu rfl rfl rfl rfl rfl ?_
      refine XK.qu hs rfl rfl rfl rfl rfl ?_
      refine XK.qn hs rfl rfl rfl rfl rfl rfl ?_
      refine XK.q hs rfl (q_pickF rfl rfl) rfl ?_
      refine XK.fin (kq 11 (kq 12 (kq 13 (kq 22 (kq 23 (kq 24 (kq 256 kn))))))) ?_
      refine XC.condF rfl ?_
      refine XC.skip ?_
      refine nb ?_
      refine nx (kq 11 (kq 12 (kq 13 (kq 22 (kq 23 (kq 24 kn)))))) ?_
      refine XC.reg1 ?_
      refine mv_ ?_
      refine XL.q (q_num ((j + 1 : Nat) : Int) rfl rfl (add64 (by omega) (by omega) (by omega))) rfl ?_
      refine as_ ?_
      refine XL.nil ?_
      exact rn (j + 1, M156, _) ⟨hjb, hP156, by rw [hJ0]; exact fun z hz => SubC.sub _ (hJ z hz)⟩ (by dsimp only; omega) (kq 11 (kq 12 (kq 13 (kq 22 (kq 23 (kq 24 kn)))))) (Fit.eq (by simp)) (fun _ h => h)
    ·
     refine XC.exit ?_
     refine te ?_
     refine re ?_
     refine be rfl ?_
     refine nx kn ?_
     refine XC.reg ?_
     refine as_ ?_
     refine XL.fin (kq 10 kn) ?_
     refine XC.ret ?_
     exact ⟨_, [], [], res1 rfl rfl, List.nil_sublist _, by simp, rfl, rfl, rfl⟩

end Go.Proofs.YtphcaiplgpmnnaaGreatDoor
/- Terms that came in; what the rows' lists give. -/
namespace Go.Proofs.YtphcaiplgpmnnaaGreatDoor
open Go.Px Go.ChangeShapes Go.WideShapes Go.ChangeAt Go.RowKit
section
variable {H : Type} {enc : TypeId × Value → H} {P : Program} {w : World} {spare : Nat → Bool} {held : Bool} {fuel : Nat} {t e : TypeId} {cs : List Value} {x : DataW H × List MemPlace} {v : Value} {d : DataW H} {p : List MemPlace} {r : Reach} {base : Nat} {k : IntKind}
end
theorem var_heap {P : Program} {W : World} {name : String} {g : Nat} {cs : Array Value} (hg : P.globalNamed name = some g) (h : W.var? P name = some cs) : ∃ e fr, W.heap[g]? = some (.cells cs e fr) := by
  unfold World.var? at h
  rw [hg] at h
  simp only [Option.bind_some] at h
  split at h
  · rename_i c e fr hh
    cases h
    exact ⟨e, fr, hh⟩
  · cases h
def zints (ws : List Nat) : List Int := ws.map fun n : Nat => (n : Int)
theorem zints_nums (k : IntKind) (ws : List Nat) : ((zints ws).map fun z => Value.int k z).toArray = (nums k ws).toArray := by simp [zints, nums]
theorem pow_tab {W : World} {a b : String × DataW Unit} {rest : List (String × DataW Unit)} (h : laidMet Tryz.prog (a :: b :: ("internal/strconv.uint64pow10", Rows.laid_internal_strconv_uint64pow10) :: rest) W) : ∃ e fr, W.heap[2]? = some (Obj.cells (nums .u64 pow10T).toArray e fr) := by
  have h' : laidMet Tryz.prog (("internal/strconv.uint64pow10", Lib.tabData .u64 (zints pow10T)) :: rest) W := h.tail.tail
  have h1 := Lib.tabIs_of_head (g := 2) (t := 240) (e := 28) (n := 20) (by kernel_rfl) (by kernel_rfl) (by kernel_rfl) (by kernel_rfl) (by kernel_rfl) (by kernel_rfl) h'
  obtain ⟨ek, fk, h3⟩ := var_heap (g := 2) (by kernel_rfl) h1
  rw [zints_nums] at h3
  exact ⟨ek, fk, h3⟩
end Go.Proofs.YtphcaiplgpmnnaaGreatDoor

/- What the rows' lists give: the tables of packages sha and strconv. -/
namespace Go.Proofs.YtphcaiplgpmnnaaGreatDoor
open Go.Px
theorem glb_in {W : World} {a b : String × DataW Unit} {rest : List (String × DataW Unit)} (h : laidMet Tryz.prog (a :: b :: ("internal/strconv.uint64pow10", Rows.laid_internal_strconv_uint64pow10) :: ("pawl/sha.round", Rows.laid_pawl_sha_round) :: ("pawl/sha.first", Rows.laid_pawl_sha_first) :: rest) W) : Glb (heapA W) := by
  obtain ⟨e4, f4, h4⟩ := pow_tab h
  have h' : laidMet Tryz.prog (("pawl/sha.round", Lib.tabData .u32 (zints kTab)) :: ("pawl/sha.first", Lib.tabData .u32 (zints hFirst.list)) :: rest) W := h.tail.tail.tail
  have h1 := Lib.tabIs_of_head (g := 1) (t := 194) (e := 22) (n := 64) (by kernel_rfl) (by kernel_rfl) (by kernel_rfl) (by kernel_rfl) (by kernel_rfl) (by kernel_rfl) h'
  have h2 := Lib.tabIs_of_head (g := 0) (t := 159) (e := 22) (n := 8) (by kernel_rfl) (by kernel_rfl) (by kernel_rfl) (by kernel_rfl) (by kernel_rfl) (by kernel_rfl) h'.tail
  obtain ⟨ek, fk, h3⟩ := var_heap (g := 1) (by kernel_rfl) h1
  obtain ⟨ef, ff, h5⟩ := var_heap (g := 0) (by kernel_rfl) h2
  rw [zints_nums] at h3 h5
  exact ⟨⟨ef, ff, heapA_mem.2 h5⟩, ⟨ek, fk, heapA_mem.2 h3⟩, ⟨e4, f4, heapA_mem.2 h4⟩⟩
end Go.Proofs.YtphcaiplgpmnnaaGreatDoor

/- The card of the law KeysBundles: it returns true for every input; each argument reads behind the call as it read before; the listed package variables are tied to the program's text. No further condition. -/
namespace Go.Proofs.YtphcaiplgpmnnaaGreatDoor.keysBundles
open Go.ChangeShapes Go.WideShapes Go.ChangeAt Go.RowKit

theorem own : ownKnob Tryz.prog.godebug = none := by kernel_rfl
theorem laidOut : laidOutB Tryz.prog = true := by kernel_rfl

noncomputable def laidWorld (os : Os) : World := World.laidAll Tryz.prog os Rows.keysBundlesRow.laid
theorem laid_met (os : Os) : laidMetH Tryz.prog Rows.keysBundlesRow.laid ((laidWorld os).forCall (fun _ _ => 0) ⟨#[], #[.int .u8 0, .int .u8 0, .int .u8 0, .int .u8 0, .slice none 0 0], []⟩).memory := by
  rw [MakeChecks.laidMetH_plain _ _ _ (by kernel_rfl)]; exact laidMet_laidAll _ (by kernel_rfl) (by kernel_rfl)
theorem reads (os : Os) {H : Type} (enc : TypeId × Value → H) : ∃ places, DataW.whole enc Tryz.prog ((laidWorld os).forCall (fun _ _ => 0) ⟨#[], #[.int .u8 0, .int .u8 0, .int .u8 0, .int .u8 0, .slice none 0 0], []⟩).memory Tryz.f7.params.toList Rows.keysBundlesSpec.vars false (#[.int .u8 0, .int .u8 0, .int .u8 0, .int .u8 0, .slice none 0 0] : Array Value).toList 8 = some ([.lit (.int .u8 0), .lit (.int .u8 0), .lit (.int .u8 0), .lit (.int .u8 0), .nil], [], places) :=
  ⟨[], by kernel_rfl⟩

theorem lifted (os : Os) (started : os.Started) (H : Type) (enc : TypeId × Value → H) (F : Stop.Interp) :
    ReturnsInHanded {} Tryz.checked os 7 .any ((OpenSpec.ofChange Rows.keysBundlesSpec).preRow enc Tryz.prog Tryz.f7 Rows.keysBundlesRow.domain false Rows.keysBundlesRow.laid) (((OpenSpec.ofChange Rows.keysBundlesSpec).at F).post enc Tryz.prog Tryz.f7 false true false false) := by
  obtain ⟨places, hx⟩ := reads os enc
  refine returnsInHanded_of_row (C := Tryz.checked) (s := (OpenSpec.ofChange Rows.keysBundlesSpec)) own started (by kernel_rfl) Tryz.func7
    (witness_row_at (enc := enc) (C := Tryz.checked) false (laidWorld os) #[.int .u8 0, .int .u8 0, .int .u8 0, .int .u8 0, .slice none 0 0] (World.laidAll_os _ _ _) (by kernel_rfl) (by kernel_rfl) (by kernel_rfl)
      (OpenSpec.preRow_of_cond 8 hx (by kernel_rfl) (fun k hk => by cases hk) (by kernel_rfl) (laid_met os))) ?_
  intro W base args ds gs before hval0 hW _ _ _ hL _ _
  have hval : ∀ (j : Nat) t v, Tryz.f7.params[j]? = some t → args[j]? = some v → Value.okWide Tryz.prog W .any base t v := hval0
  have hW' := hW
  obtain ⟨p, q, hA0, hV, rfl, hfz, hnd⟩ := hW
  have hA : DataW.TrodAll enc Tryz.prog W 0 (fun _ => true) true Tryz.f7.params.toList args.toList ds p := hA0
  rw [Tryz.params7] at hA hval
  obtain ⟨v0, vs0, d0, ds0, p0, q0, hargs, rfl, rfl, k0, r0_⟩ := trodAll_cons hA
  obtain ⟨v1, vs1, d1, ds1, p1, q1, rfl, rfl, rfl, k1, r1_⟩ := trodAll_cons r0_
  obtain ⟨v2, vs2, d2, ds2, p2, q2, rfl, rfl, rfl, k2, r2_⟩ := trodAll_cons r1_
  obtain ⟨v3, vs3, d3, ds3, p3, q3, rfl, rfl, rfl, k3, r3_⟩ := trodAll_cons r2_
  obtain ⟨v4, vs4, d4, ds4, p4, q4, rfl, rfl, rfl, k4, r4_⟩ := trodAll_cons r3_
  obtain ⟨rfl, rfl, rfl⟩ := trodAll_nil r4_
  obtain rfl : args = #[v0, v1, v2, v3, v4] := by cases args; simp_all
  obtain ⟨rfl, rfl⟩ := trodVars_none hV
  have lt0 : ∀ x ∈ p0, x.block < W.heap.size := by obtain ⟨m, hm⟩ := k0; exact DataW.trod_lt m _ _ _ hm
  have lt1 : ∀ x ∈ p1, x.block < W.heap.size := by obtain ⟨m, hm⟩ := k1; exact DataW.trod_lt m _ _ _ hm
  have lt2 : ∀ x ∈ p2, x.block < W.heap.size := by obtain ⟨m, hm⟩ := k2; exact DataW.trod_lt m _ _ _ hm
  have lt3 : ∀ x ∈ p3, x.block < W.heap.size := by obtain ⟨m, hm⟩ := k3; exact DataW.trod_lt m _ _ _ hm
  have lt4 : ∀ x ∈ p4, x.block < W.heap.size := by obtain ⟨m, hm⟩ := k4; exact DataW.trod_lt m _ _ _ hm
  obtain ⟨x0, rfl, hx0⟩ := Px.inU Tryz.underlying5 rfl (hval 0 5 v0 rfl rfl) k0
  obtain ⟨x1, rfl, hx1⟩ := Px.inU Tryz.underlying5 rfl (hval 1 5 v1 rfl rfl) k1
  obtain ⟨x2, rfl, hx2⟩ := Px.inU Tryz.underlying5 rfl (hval 2 5 v2 rfl rfl) k2
  obtain ⟨x3, rfl, hx3⟩ := Px.inU Tryz.underlying5 rfl (hval 3 5 v3 rfl rfl) k3
  obtain ⟨x4, r4, hx4, l4⟩ := Px.inSlU Tryz.underlying23 Tryz.underlying5 (by kernel_rfl) rfl (hval 4 23 v4 rfl rfl) k4
  clear hA0 hval0
  rw [MakeChecks.laidMetH_plain _ _ _ (by kernel_rfl)] at hL
  have hG := glb_in hL
  refine Calls.mono ((keysBundles_f x0 x1 x2 x3 v4 x4 _ hx0 hx1 hx2 hx3 r4 hx4 hG).calls (Px.heapA_fx W)) fun e W' ⟨he, bel⟩ => ?_
  subst he
  exact ⟨_, rfl, _, _, _, [], _, [], hW', trodAll_mk1 (shut_bool Tryz.underlying4 _), (trodAll_cons_mk (Below.trod laidOut (by kernel_rfl) (of_decide_eq_true (by kernel_rfl)) k0 bel lt0) (trodAll_cons_mk (Below.trod laidOut (by kernel_rfl) (of_decide_eq_true (by kernel_rfl)) k1 bel lt1) (trodAll_cons_mk (Below.trod laidOut (by kernel_rfl) (of_decide_eq_true (by kernel_rfl)) k2 bel lt2) (trodAll_cons_mk (Below.trod laidOut (by kernel_rfl) (of_decide_eq_true (by kernel_rfl)) k3 bel lt3) (trodAll_cons_mk (Below.trod laidOut (by kernel_rfl) (of_decide_eq_true (by kernel_rfl)) k4 bel lt4) trodAll_mk0))))), rfl, bel.frame _, fun h => by cases h⟩

theorem said : Rows.KeysBundlesSaid :=
  OpenClaim.holds_of_cond 7 Tryz.f7 rfl rfl rfl rfl rfl rfl rfl ⟨rfl, rfl, rfl, rfl, rfl⟩ rfl rfl rfl rfl rfl (by kernel_rfl) Tryz.func7 (by kernel_rfl)
    (of_decide_eq_true (by kernel_rfl)) (by unfold Func.isWrapper; first | (rw [if_pos (by decide +kernel)]; kernel_rfl) | (rw [if_neg (by decide +kernel)]; exact ⟨rfl, rfl⟩))
    (fun os started H enc _ F => by rw [OpenClaim.pre_eq_preRow]; exact lifted os started H enc F)
theorem plain (f : FuncId) (fn : Func) (hf : Tryz.pinned.checked.prog.funcNamed "pawl/pawllaw12.KeysBundles" = some f) (hfn : Tryz.pinned.checked.prog.funcs[f]? = some fn) :
    true = Tryz.pinned.checked.prog.looks [] ∧ ∀ (j : Nat) t, fn.params[j]? = some t → Tryz.pinned.checked.prog.wantsStandIn t = false := by
  obtain rfl : f = 7 := Option.some.inj ((show Tryz.prog.funcNamed "pawl/pawllaw12.KeysBundles" = some 7 by kernel_rfl).symm.trans hf) |>.symm
  obtain rfl : fn = Tryz.f7 := (Option.some.inj (Tryz.func7.symm.trans hfn)).symm
  refine ⟨by kernel_rfl, fun j t ht => ?_⟩
  rw [Tryz.params7] at ht
  have hm := Array.mem_of_getElem? ht
  simp only [List.mem_toArray, List.mem_cons, List.not_mem_nil, or_false] at hm
  rcases hm with rfl | rfl | rfl | rfl | rfl
  · exact (show Tryz.prog.wantsStandIn 5 = false by kernel_rfl)
  · exact (show Tryz.prog.wantsStandIn 5 = false by kernel_rfl)
  · exact (show Tryz.prog.wantsStandIn 5 = false by kernel_rfl)
  · exact (show Tryz.prog.wantsStandIn 5 = false by kernel_rfl)
  · exact (show Tryz.prog.wantsStandIn 23 = false by kernel_rfl)

theorem proved : Rows.KeysBundlesCardSaid :=
  Claim7.holds_tied_plain_at .later [] _ _ _ _ said (fun _ h => by cases h) (by kernel_rfl) (fun _ h => by cases h) keysBundles_row_tie rfl ⟨rfl, rfl⟩ (by kernel_rfl) rfl plain (by kernel_rfl)
#print axioms proved
end Go.Proofs.YtphcaiplgpmnnaaGreatDoor.keysBundles



