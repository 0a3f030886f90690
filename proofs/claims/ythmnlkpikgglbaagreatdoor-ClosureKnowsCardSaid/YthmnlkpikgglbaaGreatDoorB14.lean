/- Part 14 of the texts of this claim, one behind the other. -/
import Derived.Test.YthmnlkpikgglbaaGreatDoorB13
set_option linter.unusedVariables false
set_option linter.unusedSimpArgs false
set_option linter.unusedVariables false
set_option linter.unusedSimpArgs false
namespace Go.Proofs.YthmnlkpikgglbaaGreatDoor
open Go.Px
theorem bools_at {h : List Bool} {j : Nat} (hj : j < h.length) : (bools h)[j]? = some (.bool (h.getD j false)) := bools_get hj

set_option maxRecDepth 100000 in
theorem lpub_spec (bt bm : Nat) (ts : List Tm) (h : List Bool) (hv : Value) (m : Nat) (A : Mem) (hT0 : TbR bt bm ts A) (hw : Wf ts) (hr : Rd A 1 hv h.length (bools h)) (hl : h.length = ts.length) (hm : m < ts.length) (hn : ts.length ≤ 1048576) : FnV Tryz.prog 35 [.pointer (some ⟨bt, 0, none⟩), hv, .int .i64 ((m : Nat) : Int)] A (.bool (pubF ts h ((m : Nat) : Int))) := by
  obtain ⟨MT, hT, hsub⟩ := hT0.ex
  have hTT := hT
  haveI := hr.cel
  refine FnX.enter (N := 43) Tryz.func35 rfl rfl rfl fun w => ?_
  refine XC.keep (kp 0 rfl (kp 1 rfl (kp 2 rfl kn))) ?_
  refine XC.reg ?_
  refine XL.q (q_assign rfl) rfl ?_
  refine XL.fin (kp 0 rfl (kp 1 rfl (kp 2 rfl kn))) ?_
  refine XC.seq ?_
  refine XC.reg ?_
  refine XL.q (q_assign rfl) rfl ?_
  refine XL.fin (kp 0 rfl (kp 1 rfl (kp 2 rfl (kp 7 rfl kn)))) ?_
  refine XC.block ?_
  refine XC.loop (α := Nat) (fun i => [(0, .pointer (some ⟨bt, 0, none⟩)), (1, hv), (2, .int .i64 ((m : Nat) : Int)), (7, .int .i64 (i : Int))]) (fun _ => []) (fun _ => []) (fun i => i ≤ ts.length ∧ ∀ j u, j < i → ts[j]? = some u → u.kind = 3 → u.of.getD 0 0 = ((m : Nat) : Int) → kat h j = false) (fun i => ts.length - i) 0 ⟨Nat.zero_le _, fun j u h => absurd h (Nat.not_lt_zero j)⟩ (kp 0 rfl (kp 1 rfl (kp 2 rfl (kp 7 rfl kn)))) .rfl (fun _ h => h) ?_
  rintro i ⟨hi, hp⟩
  refine XC.seq ?_
  refine XC.reg ?_
  refine XL.q (q_move rfl) rfl ?_
  refine XL.q (q_move rfl) rfl ?_
  refine XL.callV (aS rfl a0) (by kernel_rfl) (lenT_spec bt bm ts MT _ hT (fun x hx => SubC.sub _ (hsub x hx))) rfl ?_
  refine XL.q (q_bin rfl rfl rfl) rfl ?_
  refine XL.fin (kp 0 rfl (kp 1 rfl (kp 2 rfl (kp 7 rfl (kp 13 rfl kn))))) ?_
  refine XC.cond rfl (fun hc => ?_) (fun hc => ?_)
  ·
    have hlt : i < ts.length := by simp at hc; omega
    refine XC.skip ?_
    refine nx (kp 0 rfl (kp 1 rfl (kp 2 rfl (kp 7 rfl kn)))) ?_
    refine XC.seq ?_
    refine XC.block ?_
    refine XC.reg ?_
    refine XL.q (q_move rfl) rfl ?_
    refine XL.q (q_move rfl) rfl ?_
    refine XL.call (aS rfl (aS rfl a0)) (by kernel_rfl) (getT_spec bt bm ts ((i : Nat) : Int) MT _ hT (fun x hx => SubC.sub _ (hsub x hx))) rfl ?_
    rintro v19 M19 J19 ⟨rfl, rfl, c19, ok19, rfl, hg1, hg2⟩
    obtain ⟨rfl, t, ht, vo, rfl, hvo⟩ := hg1 ⟨by omega, by omega⟩
    rw [Int.toNat_natCast] at ht
    have hto := hTT.tok.tmo t (List.mem_of_getElem? ht)
    haveI := hvo.cel
    have hofl := hto.ofl
    refine XL.q (q_move rfl) rfl ?_
    refine XL.q (q_x0 rfl) rfl ?_
    refine XL.q (q_x1 rfl) rfl ?_
    refine XL.lo rfl (l_alloc (cs := [.int .u8 0, .slice none 0 0, .string ByteArray.empty, .int .i64 0]) (by kernel_rfl) rfl fun b8 => ?_)
    refine XL.lo rfl (l_storeW rfl rfl rfl (by kernel_rfl) (by rfl) (by intro c hc; simp only [List.mem_cons, List.not_mem_nil, or_false] at hc; rcases hc with rfl | rfl | rfl | rfl <;> first | rfl | exact hvo.one) UpC.upd ?_)
    refine XL.q (q_assign rfl) rfl ?_
    refine XL.fin (kp 0 rfl (kp 1 rfl (kp 2 rfl (kp 7 rfl (kp 8 rfl kn))))) ?_
    refine XC.reg ?_
    refine XL.q (q_fieldAddrN 0 (off := 0) rfl (by kernel_rfl) rfl) rfl ?_
    refine XL.q (q_load rfl (by kernel_rfl) (by first | exact At.mem | exact mA (by assumption)) (by rfl)) rfl ?_
    refine XL.q (q_bin rfl rfl rfl) rfl ?_
    refine XL.q (q_move rfl) rfl ?_
    refine XL.split (t := 25) rfl (fun hb => ?_) (fun hb => ?_)
    ·
      have hk3 : t.kind = 3 := by simp at hb; omega
      have ho1 : 0 < t.of.length := by
        obtain ⟨_, hkd⟩ := hw i t ht
        rcases hkd with ⟨e, _⟩ | ⟨_, x, rfl⟩ | ⟨e, _⟩ | ⟨e, _⟩
        · omega
        · exact Nat.one_pos
        · omega
        · omega
      refine XL.gy rfl rfl (OpQ.opL (q_fieldAddrN 1 (off := 1) rfl (by kernel_rfl) rfl) rfl ?_)
      refine XL.gy rfl rfl (OpQ.opL (q_load rfl (by kernel_rfl) (by first | exact At.mem | exact mA (by assumption)) (by rfl)) rfl ?_)
      refine XL.gy rfl rfl (OpQ.opL (q_atV2 (sz := 1) (a := 0) rfl rfl (by kernel_rfl) rfl hvo ho1) rfl ?_)
      refine XL.gy rfl rfl (OpQ.opL (q_ldV (j := 0) (u := .int .i64 (t.of.getD 0 0)) (hvo.mono SubC.sub) rfl (by kernel_rfl) (ints_at ho1)) rfl ?_)
      refine XL.gy rfl rfl (OpQ.opL (q_move rfl) rfl ?_)
      refine XL.gy rfl rfl (OpQ.opL (q_bin rfl rfl rfl) rfl ?_)
      refine XL.q (q_pickT rfl rfl) rfl ?_
      refine XL.q (q_move rfl) rfl ?_
      refine XL.split (t := 33) rfl (fun hb => ?_) (fun hb => ?_)
      ·
        have he : t.of.getD 0 0 = ((m : Nat) : Int) := by simpa using hb
        refine XL.gy rfl rfl (OpQ.opL (q_move rfl) rfl ?_)
        refine XL.gy rfl rfl (OpQ.opL (q_move rfl) rfl ?_)
        refine XL.gy rfl rfl (OpQ.opL (q_atV2 (sz := 1) rfl rfl (by kernel_rfl) rfl hr (by omega)) rfl ?_)
        refine XL.gy rfl rfl (OpQ.opL (q_ldV (j := i) (u := .bool (h.getD i false)) (hr.mono SubC.sub) rfl (by kernel_rfl) (bools_at (by omega))) rfl ?_)
        refine XL.q (q_pickT rfl rfl) rfl ?_
        refine XL.fin (kp 0 rfl (kp 1 rfl (kp 2 rfl (kp 7 rfl (kp 38 rfl kn))))) ?_
        refine XC.cond rfl (fun hc => ?_) (fun hc => ?_)
        ·
          have hy : kat h i = true := hc
          refine XC.reg ?_
          refine XL.q (q_assign rfl) rfl ?_
          refine XL.fin (kp 6 rfl kn) ?_
          refine XC.ret ?_
          refine br ?_
          refine tr ?_
          refine rr ?_
          refine br ?_
          refine tr ?_
          exact ⟨_, [], [], res1 rfl rfl, List.nil_sublist _, by simp, by rw [pub_found hw hTT.tok ht hk3 he hy], rfl, rfl⟩
        ·
          have hy : kat h i = false := hc
          refine XC.skip ?_
          refine nb ?_
          refine nx (kp 0 rfl (kp 1 rfl (kp 2 rfl (kp 7 rfl kn)))) ?_
          refine XC.reg1 ?_
          refine XL.q (q_move rfl) rfl ?_
          refine XL.q (q_addI (b := 1) rfl rfl rfl rfl (by omega)) rfl ?_
          refine XL.q (q_assign rfl) rfl ?_
          refine XL.nil ?_
          exact rn (i + 1) ⟨by omega, fun j u hlt2 hj h3 ho => by
            rcases Nat.lt_succ_iff_lt_or_eq.1 hlt2 with hh | hh
            · exact hp j u hh hj h3 ho
            · subst hh
              obtain rfl := Option.some.inj (ht.symm.trans hj)
              exact hy⟩ (by omega) (kp 0 rfl (kp 1 rfl (kp 2 rfl (kp 7 rfl kn)))) (Fit.sub (List.nil_sublist _)) (fun _ h => h)
      ·
        have he : ¬ t.of.getD 0 0 = ((m : Nat) : Int) := by simpa using hb
        refine XL.gn rfl rfl rfl rfl ?_
        refine XL.gn rfl rfl rfl rfl ?_
        refine XL.gn rfl rfl rfl rfl ?_
        refine XL.gn rfl rfl rfl rfl ?_
        refine XL.q (q_pickF rfl rfl) rfl ?_
        refine XL.fin (kp 0 rfl (kp 1 rfl (kp 2 rfl (kp 7 rfl (kp 38 rfl kn))))) ?_
        refine XC.condF rfl ?_
        refine XC.skip ?_
        refine nb ?_
        refine nx (kp 0 rfl (kp 1 rfl (kp 2 rfl (kp 7 rfl kn)))) ?_
        refine XC.reg1 ?_
        refine XL.q (q_move rfl) rfl ?_
        refine XL.q (q_addI (b := 1) rfl rfl rfl rfl (by omega)) rfl ?_
        refine XL.q (q_assign rfl) rfl ?_
        refine XL.nil ?_
        exact rn (i + 1) ⟨by omega, fun j u hlt2 hj h3 ho => by
          rcases Nat.lt_succ_iff_lt_or_eq.1 hlt2 with hh | hh
          · exact hp j u hh hj h3 ho
          · subst hh
            obtain rfl := Option.some.inj (ht.symm.trans hj)
            exact absurd ho he⟩ (by omega) (kp 0 rfl (kp 1 rfl (kp 2 rfl (kp 7 rfl kn)))) (Fit.sub (List.nil_sublist _)) (fun _ h => h)
    ·
      have hk3 : ¬ t.kind = 3 := by simp at hb; omega
      refine XL.gn rfl rfl rfl rfl ?_
      refine XL.gn rfl rfl rfl rfl ?_
      refine XL.gn rfl rfl rfl rfl ?_
      refine XL.gn rfl rfl rfl rfl ?_
      refine XL.gn rfl rfl rfl rfl ?_
      refine XL.gn rfl rfl rfl rfl ?_
      refine XL.q (q_pickF rfl rfl) rfl ?_
      refine XL.q (q_move rfl) rfl ?_
      refine XL.gn rfl rfl rfl rfl ?_
      refine XL.gn rfl rfl rfl rfl ?_
      refine XL.gn rfl rfl rfl rfl ?_
      refine XL.gn rfl rfl rfl rfl ?_
      refine XL.q (q_pickF rfl rfl) rfl ?_
      refine XL.fin (kp 0 rfl (kp 1 rfl (kp 2 rfl (kp 7 rfl (kp 38 rfl kn))))) ?_
      refine XC.condF rfl ?_
      refine XC.skip ?_
      refine nb ?_
      refine nx (kp 0 rfl (kp 1 rfl (kp 2 rfl (kp 7 rfl kn)))) ?_
      refine XC.reg1 ?_
      refine XL.q (q_move rfl) rfl ?_
      refine XL.q (q_addI (b := 1) rfl rfl rfl rfl (by omega)) rfl ?_
      refine XL.q (q_assign rfl) rfl ?_
      refine XL.nil ?_
      exact rn (i + 1) ⟨by omega, fun j u hlt2 hj h3 ho => by
        rcases Nat.lt_succ_iff_lt_or_eq.1 hlt2 with hh | hh
        · exact hp j u hh hj h3 ho
        · subst hh
          obtain rfl := Option.some.inj (ht.symm.trans hj)
          exact absurd h3 hk3⟩ (by omega) (kp 0 rfl (kp 1 rfl (kp 2 rfl (kp 7 rfl kn)))) (Fit.sub (List.nil_sublist _)) (fun _ h => h)
  ·
    have hge : i = ts.length := by simp at hc; omega
    subst hge
    refine XC.exit ?_
    refine te ?_
    refine re ?_
    refine be rfl ?_
    refine nx (kp 1 rfl (kp 2 rfl kn)) ?_
    refine XC.reg ?_
    refine XL.q (q_move rfl) rfl ?_
    refine XL.q (q_move rfl) rfl ?_
    refine XL.q (q_atV2 (sz := 1) (a := m) rfl rfl (by kernel_rfl) rfl hr (by omega)) rfl ?_
    refine XL.q (q_ldV (j := m) (u := .bool (h.getD m false)) (hr.mono SubC.sub) rfl (by kernel_rfl) (bools_at (by omega))) rfl ?_
    refine XL.q (q_assign rfl) rfl ?_
    refine XL.fin (kp 6 rfl kn) ?_
    refine XC.ret ?_
    exact ⟨_, [], [], res1 rfl rfl, List.nil_sublist _, by simp, by rw [pub_far hTT.tok (i64_lt (by omega)) (fun j u hj h3 ho => hp j u (List.getElem?_eq_some_iff.1 hj).1 hj h3 ho), isK_nat], rfl, rfl⟩

set_option maxRecDepth 100000 in
theorem lknown_spec (bt bm : Nat) (ts : List Tm) (h : List Bool) (hv : Value) (MB A : Mem) (hT0 : TbR bt bm ts A) (hw : Wf ts) (hs : Sl 1 hv ts.length (bools h) MB) (hl : h.length = ts.length) (hn : ts.length ≤ 1048576) : FnX Tryz.prog 16 [.pointer (some ⟨bt, 0, none⟩), hv] MB A fun q M J => q = hv ∧ Sl 1 hv ts.length (bools (rds_ ts h (ts.length + 1))) M := by
  obtain ⟨MT, hT, hsub⟩ := hT0.ex
  have hTT := hT
  haveI := hs.cel
  refine FnX.enterZ (N := 103) Tryz.func16 rfl rfl rfl fun w_ => ?_
  refine XC.keep (kp 0 rfl (kp 1 rfl kn)) ?_
  refine XC.reg ?_
  refine XL.q (q_assign rfl) rfl ?_
  refine XL.fin (kp 0 rfl (kp 1 rfl kn)) ?_
  refine XC.seq ?_
  refine XC.reg ?_
  refine XL.q (q_assign rfl) rfl ?_
  refine XL.fin (kp 0 rfl (kp 1 rfl (kp 5 rfl kn))) ?_
  refine XC.block ?_
  refine XC.loop (α := Nat × Mem) (fun x => [(0, .pointer (some ⟨bt, 0, none⟩)), (1, hv), (5, .int .i64 ((x.1 : Nat) : Int))]) (fun x => x.2) (fun _ => []) (fun x => x.1 ≤ ts.length + 1 ∧ Sl 1 hv ts.length (bools (rds_ ts h x.1)) x.2) (fun x => ts.length + 1 - x.1) ⟨0, MB⟩ ⟨Nat.zero_le _, hs⟩ (kp 0 rfl (kp 1 rfl (kp 5 rfl kn))) .rfl (fun _ h => h) ?_
  clear hs
  rintro ⟨r, B⟩ ⟨hr, hs⟩
  dsimp only at hr hs ⊢
  refine XC.seq ?_
  refine XC.reg ?_
  refine XL.q (q_move rfl) rfl ?_
  refine XL.q (q_move rfl) rfl ?_
  refine XL.callV (aS rfl a0) (by kernel_rfl) (lenT_spec bt bm ts MT _ hT (fun x hx => SubC.sub _ (hsub x hx))) rfl ?_
  refine XL.q (q_bin rfl rfl rfl) rfl ?_
  refine XL.fin (kp 0 rfl (kp 1 rfl (kp 5 rfl (kp 14 rfl kn)))) ?_
  refine XC.cond rfl (fun hc => ?_) (fun hc => ?_)
  ·
    have hlt : r ≤ ts.length := by simp at hc; omega
    have hgl := rds_len ts h r
    have hgs : rds_ ts h (r + 1) = psN ts (rds_ ts h r) ts.length := rfl
    generalize hgg : rds_ ts h r = g at *
    refine XC.skip ?_
    refine nx (kp 0 rfl (kp 1 rfl (kp 5 rfl kn))) ?_
    refine XC.seq ?_
    refine XC.block ?_
    refine XC.reg ?_
    refine XL.q (q_assign rfl) rfl ?_
    refine XL.fin (kp 0 rfl (kp 1 rfl (kp 5 rfl (kp 6 rfl kn)))) ?_
    refine XC.block ?_
    refine XC.loop (α := Nat × Mem) (fun x => [(0, .pointer (some ⟨bt, 0, none⟩)), (1, hv), (5, .int .i64 ((r : Nat) : Int)), (6, .int .i64 ((x.1 : Nat) : Int))]) (fun x => x.2) (fun _ => []) (fun x => x.1 ≤ ts.length ∧ Sl 1 hv ts.length (bools (psN ts g x.1)) x.2) (fun x => ts.length - x.1) ⟨0, B⟩ ⟨Nat.zero_le _, hs⟩ (kp 0 rfl (kp 1 rfl (kp 5 rfl (kp 6 rfl kn)))) .rfl (fun _ h => h) ?_
    clear hs
    rintro ⟨i, B⟩ ⟨hi, hs⟩
    dsimp only at hi hs ⊢
    have hpl := (psN_len ts g i).trans (hgl.trans hl)
    refine XC.seq ?_
    refine XC.reg ?_
    refine XL.q (q_move rfl) rfl ?_
    refine XL.q (q_move rfl) rfl ?_
    refine XL.callV (aS rfl a0) (by kernel_rfl) (lenT_spec bt bm ts MT _ hT (fun x hx => SubC.sub _ (hsub x hx))) rfl ?_
    refine XL.q (q_bin rfl rfl rfl) rfl ?_
    refine XL.fin (kp 0 rfl (kp 1 rfl (kp 5 rfl (kp 6 rfl (kp 20 rfl kn))))) ?_
    refine XC.cond rfl (fun hc => ?_) (fun hc => ?_)
    ·
      have hlti : i < ts.length := by simp at hc; omega
      generalize hp : psN ts g i = p at *
      refine XC.skip ?_
      refine nx (kp 0 rfl (kp 1 rfl (kp 5 rfl (kp 6 rfl kn)))) ?_
      refine XC.seq ?_
      refine XC.block ?_
      refine XC.reg ?_
      refine XL.q (q_move rfl) rfl ?_
      refine XL.q (q_move rfl) rfl ?_
      refine XL.call (aS rfl (aS rfl a0)) (by kernel_rfl) (getT_spec bt bm ts ((i : Nat) : Int) MT _ hT (fun x hx => SubC.sub _ (hsub x hx))) rfl ?_
      rintro v26 M26 J26 ⟨rfl, rfl, c26, ok26, rfl, hg1, hg2⟩
      obtain ⟨rfl, t, ht, vo, rfl, hvo⟩ := hg1 ⟨by omega, by omega⟩
      rw [Int.toNat_natCast] at ht
      have hto := hTT.tok.tmo t (List.mem_of_getElem? ht)
      haveI := hvo.cel
      have hofl := hto.ofl
      refine XL.q (q_move rfl) rfl ?_
      refine XL.q (q_x0 rfl) rfl ?_
      refine XL.q (q_x1 rfl) rfl ?_
      refine XL.lo rfl (l_alloc (cs := [.int .u8 0, .slice none 0 0, .string ByteArray.empty, .int .i64 0]) (by kernel_rfl) rfl fun b7 => ?_)
      refine XL.lo rfl (l_storeW rfl rfl rfl (by kernel_rfl) (by rfl) (by intro c hc; simp only [List.mem_cons, List.not_mem_nil, or_false] at hc; rcases hc with rfl | rfl | rfl | rfl <;> first | rfl | exact hvo.one) UpC.upd ?_)
      refine XL.q (q_assign rfl) rfl ?_
      refine XL.fin (kp 0 rfl (kp 1 rfl (kp 5 rfl (kp 6 rfl (kp 7 rfl kn))))) ?_
      refine XC.reg ?_
      refine XL.q (q_assign rfl) rfl ?_
      refine XL.fin (kp 0 rfl (kp 1 rfl (kp 5 rfl (kp 6 rfl (kp 7 rfl (kp 9 rfl kn)))))) ?_
      refine XC.seq ?_
      refine XC.reg ?_
      refine XL.q (q_assign rfl) rfl ?_
      refine XL.fin (kp 0 rfl (kp 1 rfl (kp 5 rfl (kp 6 rfl (kp 7 rfl (kp 9 rfl (kp 10 rfl kn))))))) ?_
      refine XC.block ?_
      refine XC.loop (α := Nat) (fun x => [(0, .pointer (some ⟨bt, 0, none⟩)), (1, hv), (5, .int .i64 ((r : Nat) : Int)), (6, .int .i64 ((i : Nat) : Int)), (7, .pointer (some ⟨b7, 0, none⟩)), (9, .bool ((t.of.take x).all (isK p))), (10, .int .i64 ((x : Nat) : Int))]) (fun x => (b7, blk (tmc t.kind vo t.text t.n) 41) :: B) (fun _ => []) (fun x => x ≤ t.of.length) (fun x => t.of.length - x) 0 (Nat.zero_le _) (kp 0 rfl (kp 1 rfl (kp 5 rfl (kp 6 rfl (kp 7 rfl (kp 9 rfl (kp 10 rfl kn))))))) .rfl (fun _ h => h) ?_
      rintro j hj
      refine XC.seq ?_
      refine XC.reg ?_
      refine XL.q (q_move rfl) rfl ?_
      refine XL.q (q_fieldAddrN 1 (off := 1) rfl (by kernel_rfl) rfl) rfl ?_
      refine XL.q (q_load rfl (by kernel_rfl) (by first | exact At.mem | exact mA (by assumption)) (by rfl)) rfl ?_
      refine XL.q (q_lenV2 (sz := 1) rfl (by kernel_rfl) hvo) rfl ?_
      refine XL.q (q_bin rfl rfl rfl) rfl ?_
      refine XL.fin (kp 0 rfl (kp 1 rfl (kp 5 rfl (kp 6 rfl (kp 7 rfl (kp 9 rfl (kp 10 rfl (kp 33 rfl kn)))))))) ?_
      refine XC.cond rfl (fun hc => ?_) (fun hc => ?_)
      ·
        have hltj : j < t.of.length := by simp at hc; omega
        obtain ⟨m, hm, h2m⟩ := eld_at (hw i t ht).eld hltj
        have h3m := Nat.lt_trans h2m hlti
        have hat := all_take (h := p) hltj
        rw [hm, isK_nat] at hat
        refine XC.skip ?_
        refine nx (kp 0 rfl (kp 1 rfl (kp 5 rfl (kp 6 rfl (kp 7 rfl (kp 9 rfl (kp 10 rfl kn))))))) ?_
        refine XC.seq ?_
        refine XC.block ?_
        refine XC.reg1 ?_
        refine XL.q (q_move rfl) rfl ?_
        refine XL.q (q_move rfl) rfl ?_
        refine XL.split (t := 37) rfl (fun hb => ?_) (fun hb => ?_)
        ·
          have hA := hb
          refine XL.gy rfl rfl (OpQ.opL (q_move rfl) rfl ?_)
          refine XL.gy rfl rfl (OpQ.opL (q_fieldAddrN 1 (off := 1) rfl (by kernel_rfl) rfl) rfl ?_)
          refine XL.gy rfl rfl (OpQ.opL (q_load rfl (by kernel_rfl) (by first | exact At.mem | exact mA (by assumption)) (by rfl)) rfl ?_)
          refine XL.gy rfl rfl (OpQ.opL (q_move rfl) rfl ?_)
          refine XL.gy rfl rfl (OpQ.opL (q_atV2 (sz := 1) (a := j) rfl rfl (by kernel_rfl) rfl hvo hltj) rfl ?_)
          refine XL.gy rfl rfl (OpQ.opL (q_ldV (j := j) (u := .int .i64 ((m : Nat) : Int)) (hvo.mono SubC.sub) rfl (by kernel_rfl) (by rw [← hm]; exact ints_at hltj)) rfl ?_)
          refine XL.gy rfl rfl (OpQ.opL (q_atV2 (sz := 1) (a := m) rfl rfl (by kernel_rfl) rfl (hs.rd (R := B) fun _ h => h) (by omega)) rfl ?_)
          refine XL.gy rfl rfl (OpQ.opL (q_ldV (j := m) (u := .bool (p.getD m false)) (hs.rd SubC.sub) rfl (by kernel_rfl) (bools_at (by omega))) rfl ?_)
          refine XL.q (q_pickT rfl rfl) rfl ?_
          refine XL.q (q_assign rfl) rfl ?_
          refine XL.nil ?_
          refine nb ?_
          refine nx (kp 0 rfl (kp 1 rfl (kp 5 rfl (kp 6 rfl (kp 7 rfl (kp 9 rfl (kp 10 rfl kn))))))) ?_
          refine XC.reg1 ?_
          refine XL.q (q_move rfl) rfl ?_
          refine XL.q (q_addI (b := 1) rfl rfl rfl rfl (by omega)) rfl ?_
          refine XL.q (q_assign rfl) rfl ?_
          refine XL.nil ?_
          exact rn (j + 1) (by omega) (by omega) (kp 0 rfl (kp 1 rfl (kp 5 rfl (kp 6 rfl (kp 7 rfl (kp 9 (by rw [hat, hA]; rfl) (kp 10 rfl kn))))))) .rfl (fun _ h => h)
        ·
          have hA := hb
          refine XL.gn rfl rfl rfl rfl ?_
          refine XL.gn rfl rfl rfl rfl ?_
          refine XL.gn rfl rfl rfl rfl ?_
          refine XL.gn rfl rfl rfl rfl ?_
          refine XL.gn rfl rfl rfl rfl ?_
          refine XL.gn rfl rfl rfl rfl ?_
          refine XL.gn rfl rfl rfl rfl ?_
          refine XL.gn rfl rfl rfl rfl ?_
          refine XL.q (q_pickF rfl rfl) rfl ?_
          refine XL.q (q_assign rfl) rfl ?_
          refine XL.nil ?_
          refine nb ?_
          refine nx (kp 0 rfl (kp 1 rfl (kp 5 rfl (kp 6 rfl (kp 7 rfl (kp 9 rfl (kp 10 rfl kn))))))) ?_
          refine XC.reg1 ?_
          refine XL.q (q_move rfl) rfl ?_
          refine XL.q (q_addI (b := 1) rfl rfl rfl rfl (by omega)) rfl ?_
          refine XL.q (q_assign rfl) rfl ?_
          refine XL.nil ?_
          exact rn (j + 1) (by omega) (by omega) (kp 0 rfl (kp 1 rfl (kp 5 rfl (kp 6 rfl (kp 7 rfl (kp 9 (by rw [hat, hA]; rfl) (kp 10 rfl kn))))))) .rfl (fun _ h => h)
      ·
        have hge : j = t.of.length := by simp at hc; omega
        subst hge
        rw [List.take_length]
        refine XC.exit ?_
        refine te ?_
        refine re ?_
        refine be rfl ?_
        refine nx (kp 0 rfl (kp 1 rfl (kp 5 rfl (kp 6 rfl (kp 7 rfl (kp 9 rfl kn)))))) ?_
        refine XC.seq ?_
        refine XC.reg ?_
        refine XL.q (q_fieldAddrN 0 (off := 0) rfl (by kernel_rfl) rfl) rfl ?_
        refine XL.q (q_load rfl (by kernel_rfl) (by first | exact At.mem | exact mA (by assumption)) (by rfl)) rfl ?_
        refine XL.q (q_bin rfl rfl rfl) rfl ?_
        refine XL.q (q_move rfl) rfl ?_
        refine XL.split (t := 50) rfl (fun hb => ?_) (fun hb => ?_)
        ·
          have hk1 : t.kind = 1 := by simp at hb; omega
          refine XL.gn rfl rfl rfl rfl ?_
          refine XL.gn rfl rfl rfl rfl ?_
          refine XL.gn rfl rfl rfl rfl ?_
          refine XL.gn rfl rfl rfl rfl ?_
          refine XL.q (q_pickT rfl rfl) rfl ?_
          refine XL.fin (kp 0 rfl (kp 1 rfl (kp 5 rfl (kp 6 rfl (kp 7 rfl (kp 9 rfl (kp 55 rfl kn))))))) ?_
          refine XC.condT rfl ?_
          refine XC.exit ?_
          refine te ?_
          refine be rfl ?_
          refine nx (kp 0 rfl (kp 1 rfl (kp 5 rfl (kp 6 rfl kn)))) ?_
          refine XC.reg1 ?_
          refine XL.q (q_move rfl) rfl ?_
          refine XL.q (q_addI (b := 1) rfl rfl rfl rfl (by omega)) rfl ?_
          refine XL.q (q_assign rfl) rfl ?_
          refine XL.nil ?_
          exact rn ⟨i + 1, B⟩ ⟨by dsimp only; omega, by dsimp only; rw [psN_succ, hp, stF_unmade (made_atom ht hk1)]; exact hs⟩ (by dsimp only; omega) (kp 0 rfl (kp 1 rfl (kp 5 rfl (kp 6 rfl kn)))) (Fit.last PickC.perm) (fun _ h => h)
        ·
          have hk1 : ¬ t.kind = 1 := by simp at hb; omega
          refine XL.gy rfl rfl (OpQ.opL (q_move rfl) rfl ?_)
          refine XL.gy rfl rfl (OpQ.opL (q_move rfl) rfl ?_)
          refine XL.gy rfl rfl (OpQ.opL (q_atV2 (sz := 1) (a := i) rfl rfl (by kernel_rfl) rfl (hs.rd (R := B) fun _ h => h) (by omega)) rfl ?_)
          refine XL.gy rfl rfl (OpQ.opL (q_ldV (j := i) (u := .bool (p.getD i false)) (hs.rd SubC.sub) rfl (by kernel_rfl) (bools_at (by omega))) rfl ?_)
          refine XL.q (q_pickF rfl rfl) rfl ?_
          refine XL.fin (kp 0 rfl (kp 1 rfl (kp 5 rfl (kp 6 rfl (kp 7 rfl (kp 9 rfl (kp 55 rfl kn))))))) ?_
          refine XC.cond rfl (fun hc => ?_) (fun hc => ?_)
          ·
            have hk0 : kat p i = true := hc
            refine XC.exit ?_
            refine te ?_
            refine be rfl ?_
            refine nx (kp 0 rfl (kp 1 rfl (kp 5 rfl (kp 6 rfl kn)))) ?_
            refine XC.reg1 ?_
            refine XL.q (q_move rfl) rfl ?_
            refine XL.q (q_addI (b := 1) rfl rfl rfl rfl (by omega)) rfl ?_
            refine XL.q (q_assign rfl) rfl ?_
            refine XL.nil ?_
            exact rn ⟨i + 1, B⟩ ⟨by dsimp only; omega, by dsimp only; rw [psN_succ, hp, stF_known hk0]; exact hs⟩ (by dsimp only; omega) (kp 0 rfl (kp 1 rfl (kp 5 rfl (kp 6 rfl kn)))) (Fit.last PickC.perm) (fun _ h => h)
          ·
            have hk0 : kat p i = false := hc
            refine XC.skip ?_
            refine nx (kp 0 rfl (kp 1 rfl (kp 5 rfl (kp 6 rfl (kp 7 rfl (kp 9 rfl kn)))))) ?_
            refine XC.seq ?_
            refine XC.reg ?_
            refine XL.q (q_fieldAddrN 0 (off := 0) rfl (by kernel_rfl) rfl) rfl ?_
            refine XL.q (q_load rfl (by kernel_rfl) (by first | exact At.mem | exact mA (by assumption)) (by rfl)) rfl ?_
            refine XL.q (q_bin rfl rfl rfl) rfl ?_
            refine XL.q (q_move rfl) rfl ?_
            refine XL.split (t := 59) rfl (fun hb => ?_) (fun hb => ?_)
            ·
              have hk4 : t.kind = 4 := by simp at hb; omega
              refine XL.gy rfl rfl (OpQ.opL (q_fieldAddrN 3 (off := 3) rfl (by kernel_rfl) rfl) rfl ?_)
              refine XL.gy rfl rfl (OpQ.opL (q_load rfl (by kernel_rfl) (by first | exact At.mem | exact mA (by assumption)) (by rfl)) rfl ?_)
              refine XL.gy rfl rfl (OpQ.opL (q_bin rfl rfl rfl) rfl ?_)
              refine XL.q (q_pickT rfl rfl) rfl ?_
              refine XL.fin (kp 0 rfl (kp 1 rfl (kp 5 rfl (kp 6 rfl (kp 7 rfl (kp 9 rfl (kp 63 rfl kn))))))) ?_
              refine XC.cond rfl (fun hc => ?_) (fun hc => ?_)
              ·
                have hn0 : t.n = 0 := by simpa using hc
                obtain ⟨hl2, hmA⟩ := made_agreed (h := p) hw ht hk4 hn0
                obtain ⟨m0, hm0, h2m0⟩ := eld_at (a := 0) (hw i t ht).eld (by omega)
                obtain ⟨m1, hm1, h2m1⟩ := eld_at (a := 1) (hw i t ht).eld (by omega)
                replace h2m0 := Nat.lt_trans h2m0 hlti
                replace h2m1 := Nat.lt_trans h2m1 hlti
                rw [hm0, hm1, isK_nat, isK_nat] at hmA
                refine XC.reg1 ?_
                refine XL.q (q_move rfl) rfl ?_
                refine XL.q (q_fieldAddrN 1 (off := 1) rfl (by kernel_rfl) rfl) rfl ?_
                refine XL.q (q_load rfl (by kernel_rfl) (by first | exact At.mem | exact mA (by assumption)) (by rfl)) rfl ?_
                refine XL.q (q_atV2 (sz := 1) (a := 0) rfl rfl (by kernel_rfl) rfl hvo (by omega)) rfl ?_
                refine XL.q (q_ldV (j := 0) (u := .int .i64 ((m0 : Nat) : Int)) (hvo.mono SubC.sub) rfl (by kernel_rfl) (by rw [← hm0]; exact ints_at (by omega))) rfl ?_
                refine XL.q (q_atV2 (sz := 1) (a := m0) rfl rfl (by kernel_rfl) rfl (hs.rd (R := B) fun _ h => h) (by omega)) rfl ?_
                refine XL.q (q_ldV (j := m0) (u := .bool (p.getD m0 false)) (hs.rd SubC.sub) rfl (by kernel_rfl) (bools_at (by omega))) rfl ?_
                refine XL.q (q_move rfl) rfl ?_
                refine XL.split (t := 71) rfl (fun hb => ?_) (fun hb => ?_)
                ·
                  have hA := hb
                  refine XL.gy rfl rfl (OpQ.opL (q_move rfl) rfl ?_)
                  refine XL.gy rfl rfl (OpQ.opL (q_move rfl) rfl ?_)
                  refine XL.gy rfl rfl (OpQ.opL (q_fieldAddrN 1 (off := 1) rfl (by kernel_rfl) rfl) rfl ?_)
                  refine XL.gy rfl rfl (OpQ.opL (q_load rfl (by kernel_rfl) (by first | exact At.mem | exact mA (by assumption)) (by rfl)) rfl ?_)
                  refine XL.gy rfl rfl (OpQ.opL (q_atV2 (sz := 1) (a := 1) rfl rfl (by kernel_rfl) rfl hvo (by omega)) rfl ?_)
                  refine XL.gy rfl rfl (OpQ.opL (q_ldV (j := 1) (u := .int .i64 ((m1 : Nat) : Int)) (hvo.mono SubC.sub) rfl (by kernel_rfl) (by rw [← hm1]; exact ints_at (by omega))) rfl ?_)
                  refine XL.callVg rfl rfl (aS rfl (aS rfl (aS rfl a0))) (by kernel_rfl) (lpub_spec bt bm ts p hv m1 _ (hT0.mono SubC.sub) hw (by rw [hpl]; exact hs.rd SubC.sub) hpl h2m1 hn) rfl ?_
                  refine XL.q (q_pickT rfl rfl) rfl ?_
                  refine XL.q (q_move rfl) rfl ?_
                  refine XL.split (t := 80) rfl (fun hb => ?_) (fun hb => ?_)
                  ·
                    have hB := hb
                    refine XL.gn rfl rfl rfl rfl ?_
                    refine XL.gn rfl rfl rfl rfl ?_
                    refine XL.gn rfl rfl rfl rfl ?_
                    refine XL.gn rfl rfl rfl rfl ?_
                    refine XL.gn rfl rfl rfl rfl ?_
                    refine XL.gn rfl rfl rfl rfl ?_
                    refine XL.gn rfl rfl rfl rfl ?_
                    refine XL.gn rfl rfl rfl rfl ?_
                    refine XL.gu rfl rfl rfl ?_
                    refine XL.gu rfl rfl rfl ?_
                    refine XL.gu rfl rfl rfl ?_
                    refine XL.gu rfl rfl rfl ?_
                    refine XL.gu rfl rfl rfl ?_
                    refine XL.gu rfl rfl rfl ?_
                    refine XL.gu rfl rfl rfl ?_
                    refine XL.gn rfl rfl rfl rfl ?_
                    refine XL.q (q_pickT rfl rfl) rfl ?_
                    refine XL.q (q_assign rfl) rfl ?_
                    refine XL.fin (kp 0 rfl (kp 1 rfl (kp 5 rfl (kp 6 rfl (kp 9 rfl kn))))) ?_
                    refine XC.reg1 ?_
                    refine XL.q (q_move rfl) rfl ?_
                    refine XL.q (q_move rfl) rfl ?_
                    refine XL.q (q_move rfl) rfl ?_
                    refine XL.q (q_atV2 (sz := 1) (a := i) rfl rfl (by kernel_rfl) rfl (hs.rd (R := B) fun _ h => h) hlti) rfl ?_
                    refine XL.lo rfl (l_stE hs rfl rfl rfl (by kernel_rfl) hlti PickC.perm fun B9 hs9 => ?_)
                    refine XL.nil ?_
                    refine nb ?_
                    refine nx (kp 0 rfl (kp 1 rfl (kp 5 rfl (kp 6 rfl kn)))) ?_
                    refine XC.reg1 ?_
                    refine XL.q (q_move rfl) rfl ?_
                    refine XL.q (q_addI (b := 1) rfl rfl rfl rfl (by omega)) rfl ?_
                    refine XL.q (q_assign rfl) rfl ?_
                    refine XL.nil ?_
                    exact rn ⟨i + 1, B9⟩ ⟨by dsimp only; omega, by dsimp only; rw [psN_succ, hp, ← set_made (by omega) hk0, hmA, hA, hB, ← bools_set]; exact hs9⟩ (by dsimp only; omega) (kp 0 rfl (kp 1 rfl (kp 5 rfl (kp 6 rfl kn)))) (Fit.last PickC.perm) (fun _ h => h)
                  ·
                    have hB := hb
                    refine XL.gy rfl rfl (OpQ.opL (q_move rfl) rfl ?_)
                    refine XL.gy rfl rfl (OpQ.opL (q_fieldAddrN 1 (off := 1) rfl (by kernel_rfl) rfl) rfl ?_)
                    refine XL.gy rfl rfl (OpQ.opL (q_load rfl (by kernel_rfl) (by first | exact At.mem | exact mA (by assumption)) (by rfl)) rfl ?_)
                    refine XL.gy rfl rfl (OpQ.opL (q_atV2 (sz := 1) (a := 1) rfl rfl (by kernel_rfl) rfl hvo (by omega)) rfl ?_)
                    refine XL.gy rfl rfl (OpQ.opL (q_ldV (j := 1) (u := .int .i64 ((m1 : Nat) : Int)) (hvo.mono SubC.sub) rfl (by kernel_rfl) (by rw [← hm1]; exact ints_at (by omega))) rfl ?_)
                    refine XL.gy rfl rfl (OpQ.opL (q_atV2 (sz := 1) (a := m1) rfl rfl (by kernel_rfl) rfl (hs.rd (R := B) fun _ h => h) (by omega)) rfl ?_)
                    refine XL.gy rfl rfl (OpQ.opL (q_ldV (j := m1) (u := .bool (p.getD m1 false)) (hs.rd SubC.sub) rfl (by kernel_rfl) (bools_at (by omega))) rfl ?_)
                    refine XL.gy rfl rfl (OpQ.opL (q_move rfl) rfl ?_)
                    refine XL.split (t := 88) rfl (fun hb => ?_) (fun hb => ?_)
                    ·
                      have hC := hb
                      refine XL.gy rfl rfl (OpQ.opL (q_move rfl) rfl ?_)
                      refine XL.gy rfl rfl (OpQ.opL (q_move rfl) rfl ?_)
                      refine XL.gy rfl rfl (OpQ.opL (q_fieldAddrN 1 (off := 1) rfl (by kernel_rfl) rfl) rfl ?_)
                      refine XL.gy rfl rfl (OpQ.opL (q_load rfl (by kernel_rfl) (by first | exact At.mem | exact mA (by assumption)) (by rfl)) rfl ?_)
                      refine XL.gy rfl rfl (OpQ.opL (q_atV2 (sz := 1) (a := 0) rfl rfl (by kernel_rfl) rfl hvo (by omega)) rfl ?_)
                      refine XL.gy rfl rfl (OpQ.opL (q_ldV (j := 0) (u := .int .i64 ((m0 : Nat) : Int)) (hvo.mono SubC.sub) rfl (by kernel_rfl) (by rw [← hm0]; exact ints_at (by omega))) rfl ?_)
                      refine XL.callVg rfl rfl (aS rfl (aS rfl (aS rfl a0))) (by kernel_rfl) (lpub_spec bt bm ts p hv m0 _ (hT0.mono SubC.sub) hw (by rw [hpl]; exact hs.rd SubC.sub) hpl h2m0 hn) rfl ?_
                      refine XL.gy rfl rfl (OpQ.opL (q_pickT rfl rfl) rfl ?_)
                      refine XL.q (q_pickF rfl rfl) rfl ?_
                      refine XL.q (q_assign rfl) rfl ?_
                      refine XL.fin (kp 0 rfl (kp 1 rfl (kp 5 rfl (kp 6 rfl (kp 9 rfl kn))))) ?_
                      refine XC.reg1 ?_
                      refine XL.q (q_move rfl) rfl ?_
                      refine XL.q (q_move rfl) rfl ?_
                      refine XL.q (q_move rfl) rfl ?_
                      refine XL.q (q_atV2 (sz := 1) (a := i) rfl rfl (by kernel_rfl) rfl (hs.rd (R := B) fun _ h => h) hlti) rfl ?_
                      refine XL.lo rfl (l_stE hs rfl rfl rfl (by kernel_rfl) hlti PickC.perm fun B9 hs9 => ?_)
                      refine XL.nil ?_
                      refine nb ?_
                      refine nx (kp 0 rfl (kp 1 rfl (kp 5 rfl (kp 6 rfl kn)))) ?_
                      refine XC.reg1 ?_
                      refine XL.q (q_move rfl) rfl ?_
                      refine XL.q (q_addI (b := 1) rfl rfl rfl rfl (by omega)) rfl ?_
                      refine XL.q (q_assign rfl) rfl ?_
                      refine XL.nil ?_
                      exact rn ⟨i + 1, B9⟩ ⟨by dsimp only; omega, by dsimp only; rw [psN_succ, hp, ← set_made (by omega) hk0, hmA, hA, hB, hC, ← bools_set]; exact hs9⟩ (by dsimp only; omega) (kp 0 rfl (kp 1 rfl (kp 5 rfl (kp 6 rfl kn)))) (Fit.last PickC.perm) (fun _ h => h)
                    ·
                      have hC := hb
                      refine XL.gn rfl rfl rfl rfl ?_
                      refine XL.gn rfl rfl rfl rfl ?_
                      refine XL.gn rfl rfl rfl rfl ?_
                      refine XL.gn rfl rfl rfl rfl ?_
                      refine XL.gn rfl rfl rfl rfl ?_
                      refine XL.gn rfl rfl rfl rfl ?_
                      refine XL.gn rfl rfl rfl rfl ?_
                      refine XL.gy rfl rfl (OpQ.opL (q_pickF rfl rfl) rfl ?_)
                      refine XL.q (q_pickF rfl rfl) rfl ?_
                      refine XL.q (q_assign rfl) rfl ?_
                      refine XL.fin (kp 0 rfl (kp 1 rfl (kp 5 rfl (kp 6 rfl (kp 9 rfl kn))))) ?_
                      refine XC.reg1 ?_
                      refine XL.q (q_move rfl) rfl ?_
                      refine XL.q (q_move rfl) rfl ?_
                      refine XL.q (q_move rfl) rfl ?_
                      refine XL.q (q_atV2 (sz := 1) (a := i) rfl rfl (by kernel_rfl) rfl (hs.rd (R := B) fun _ h => h) hlti) rfl ?_
                      refine XL.lo rfl (l_stE hs rfl rfl rfl (by kernel_rfl) hlti PickC.perm fun B9 hs9 => ?_)
                      refine XL.nil ?_
                      refine nb ?_
                      refine nx (kp 0 rfl (kp 1 rfl (kp 5 rfl (kp 6 rfl kn)))) ?_
                      refine XC.reg1 ?_
                      refine XL.q (q_move rfl) rfl ?_
                      refine XL.q (q_addI (b := 1) rfl rfl rfl rfl (by omega)) rfl ?_
                      refine XL.q (q_assign rfl) rfl ?_
                      refine XL.nil ?_
                      exact rn ⟨i + 1, B9⟩ ⟨by dsimp only; omega, by dsimp only; rw [psN_succ, hp, ← set_made (by omega) hk0, hmA, hA, hB, hC, ← bools_set]; exact hs9⟩ (by dsimp only; omega) (kp 0 rfl (kp 1 rfl (kp 5 rfl (kp 6 rfl kn)))) (Fit.last PickC.perm) (fun _ h => h)
                ·
                  have hA := hb
                  refine XL.gn rfl rfl rfl rfl ?_
                  refine XL.gn rfl rfl rfl rfl ?_
                  refine XL.gn rfl rfl rfl rfl ?_
                  refine XL.gn rfl rfl rfl rfl ?_
                  refine XL.gn rfl rfl rfl rfl ?_
                  refine XL.gn rfl rfl rfl rfl ?_
                  refine XL.gn rfl rfl rfl rfl ?_
                  refine XL.q (q_pickF rfl rfl) rfl ?_
                  refine XL.q (q_move rfl) rfl ?_
                  refine XL.gy rfl rfl (OpQ.opL (q_move rfl) rfl ?_)
                  refine XL.gy rfl rfl (OpQ.opL (q_fieldAddrN 1 (off := 1) rfl (by kernel_rfl) rfl) rfl ?_)
                  refine XL.gy rfl rfl (OpQ.opL (q_load rfl (by kernel_rfl) (by first | exact At.mem | exact mA (by assumption)) (by rfl)) rfl ?_)
                  refine XL.gy rfl rfl (OpQ.opL (q_atV2 (sz := 1) (a := 1) rfl rfl (by kernel_rfl) rfl hvo (by omega)) rfl ?_)
                  refine XL.gy rfl rfl (OpQ.opL (q_ldV (j := 1) (u := .int .i64 ((m1 : Nat) : Int)) (hvo.mono SubC.sub) rfl (by kernel_rfl) (by rw [← hm1]; exact ints_at (by omega))) rfl ?_)
                  refine XL.gy rfl rfl (OpQ.opL (q_atV2 (sz := 1) (a := m1) rfl rfl (by kernel_rfl) rfl (hs.rd (R := B) fun _ h => h) (by omega)) rfl ?_)
                  refine XL.gy rfl rfl (OpQ.opL (q_ldV (j := m1) (u := .bool (p.getD m1 false)) (hs.rd SubC.sub) rfl (by kernel_rfl) (bools_at (by omega))) rfl ?_)
                  refine XL.gy rfl rfl (OpQ.opL (q_move rfl) rfl ?_)
                  refine XL.split (t := 88) rfl (fun hb => ?_) (fun hb => ?_)
                  ·
                    have hC := hb
                    refine XL.gy rfl rfl (OpQ.opL (q_move rfl) rfl ?_)
                    refine XL.gy rfl rfl (OpQ.opL (q_move rfl) rfl ?_)
                    refine XL.gy rfl rfl (OpQ.opL (q_fieldAddrN 1 (off := 1) rfl (by kernel_rfl) rfl) rfl ?_)
                    refine XL.gy rfl rfl (OpQ.opL (q_load rfl (by kernel_rfl) (by first | exact At.mem | exact mA (by assumption)) (by rfl)) rfl ?_)
                    refine XL.gy rfl rfl (OpQ.opL (q_atV2 (sz := 1) (a := 0) rfl rfl (by kernel_rfl) rfl hvo (by omega)) rfl ?_)
                    refine XL.gy rfl rfl (OpQ.opL (q_ldV (j := 0) (u := .int .i64 ((m0 : Nat) : Int)) (hvo.mono SubC.sub) rfl (by kernel_rfl) (by rw [← hm0]; exact ints_at (by omega))) rfl ?_)
                    refine XL.callVg rfl rfl (aS rfl (aS rfl (aS rfl a0))) (by kernel_rfl) (lpub_spec bt bm ts p hv m0 _ (hT0.mono SubC.sub) hw (by rw [hpl]; exact hs.rd SubC.sub) hpl h2m0 hn) rfl ?_
                    refine XL.gy rfl rfl (OpQ.opL (q_pickT rfl rfl) rfl ?_)
                    refine XL.q (q_pickF rfl rfl) rfl ?_
                    refine XL.q (q_assign rfl) rfl ?_
                    refine XL.fin (kp 0 rfl (kp 1 rfl (kp 5 rfl (kp 6 rfl (kp 9 rfl kn))))) ?_
                    refine XC.reg1 ?_
                    refine XL.q (q_move rfl) rfl ?_
                    refine XL.q (q_move rfl) rfl ?_
                    refine XL.q (q_move rfl) rfl ?_
                    refine XL.q (q_atV2 (sz := 1) (a := i) rfl rfl (by kernel_rfl) rfl (hs.rd (R := B) fun _ h => h) hlti) rfl ?_
                    refine XL.lo rfl (l_stE hs rfl rfl rfl (by kernel_rfl) hlti PickC.perm fun B9 hs9 => ?_)
                    refine XL.nil ?_
                    refine nb ?_
                    refine nx (kp 0 rfl (kp 1 rfl (kp 5 rfl (kp 6 rfl kn)))) ?_
                    refine XC.reg1 ?_
                    refine XL.q (q_move rfl) rfl ?_
                    refine XL.q (q_addI (b := 1) rfl rfl rfl rfl (by omega)) rfl ?_
                    refine XL.q (q_assign rfl) rfl ?_
                    refine XL.nil ?_
                    exact rn ⟨i + 1, B9⟩ ⟨by dsimp only; omega, by dsimp only; rw [psN_succ, hp, ← set_made (by omega) hk0, hmA, hA, hC, ← bools_set]; exact hs9⟩ (by dsimp only; omega) (kp 0 rfl (kp 1 rfl (kp 5 rfl (kp 6 rfl kn)))) (Fit.last PickC.perm) (fun _ h => h)
                  ·
                    have hC := hb
                    refine XL.gn rfl rfl rfl rfl ?_
                    refine XL.gn rfl rfl rfl rfl ?_
                    refine XL.gn rfl rfl rfl rfl ?_
                    refine XL.gn rfl rfl rfl rfl ?_
                    refine XL.gn rfl rfl rfl rfl ?_
                    refine XL.gn rfl rfl rfl rfl ?_
                    refine XL.gn rfl rfl rfl rfl ?_
                    refine XL.gy rfl rfl (OpQ.opL (q_pickF rfl rfl) rfl ?_)
                    refine XL.q (q_pickF rfl rfl) rfl ?_
                    refine XL.q (q_assign rfl) rfl ?_
                    refine XL.fin (kp 0 rfl (kp 1 rfl (kp 5 rfl (kp 6 rfl (kp 9 rfl kn))))) ?_
                    refine XC.reg1 ?_
                    refine XL.q (q_move rfl) rfl ?_
                    refine XL.q (q_move rfl) rfl ?_
                    refine XL.q (q_move rfl) rfl ?_
                    refine XL.q (q_atV2 (sz := 1) (a := i) rfl rfl (by kernel_rfl) rfl (hs.rd (R := B) fun _ h => h) hlti) rfl ?_
                    refine XL.lo rfl (l_stE hs rfl rfl rfl (by kernel_rfl) hlti PickC.perm fun B9 hs9 => ?_)
                    refine XL.nil ?_
                    refine nb ?_
                    refine nx (kp 0 rfl (kp 1 rfl (kp 5 rfl (kp 6 rfl kn)))) ?_
                    refine XC.reg1 ?_
                    refine XL.q (q_move rfl) rfl ?_
                    refine XL.q (q_addI (b := 1) rfl rfl rfl rfl (by omega)) rfl ?_
                    refine XL.q (q_assign rfl) rfl ?_
                    refine XL.nil ?_
                    exact rn ⟨i + 1, B9⟩ ⟨by dsimp only; omega, by dsimp only; rw [psN_succ, hp, ← set_made (by omega) hk0, hmA, hA, hC, ← bools_set]; exact hs9⟩ (by dsimp only; omega) (kp 0 rfl (kp 1 rfl (kp 5 rfl (kp 6 rfl kn)))) (Fit.last PickC.perm) (fun _ h => h)
              ·
                have hn0 : ¬ t.n = 0 := by simpa using hc
                refine XC.skip ?_
                refine nx (kp 0 rfl (kp 1 rfl (kp 5 rfl (kp 6 rfl (kp 9 rfl kn))))) ?_
                refine XC.reg1 ?_
                refine XL.q (q_move rfl) rfl ?_
                refine XL.q (q_move rfl) rfl ?_
                refine XL.q (q_move rfl) rfl ?_
                refine XL.q (q_atV2 (sz := 1) (a := i) rfl rfl (by kernel_rfl) rfl (hs.rd (R := B) fun _ h => h) hlti) rfl ?_
                refine XL.lo rfl (l_stE hs rfl rfl rfl (by kernel_rfl) hlti PickC.perm fun B9 hs9 => ?_)
                refine XL.nil ?_
                refine nb ?_
                refine nx (kp 0 rfl (kp 1 rfl (kp 5 rfl (kp 6 rfl kn)))) ?_
                refine XC.reg1 ?_
                refine XL.q (q_move rfl) rfl ?_
                refine XL.q (q_addI (b := 1) rfl rfl rfl rfl (by omega)) rfl ?_
                refine XL.q (q_assign rfl) rfl ?_
                refine XL.nil ?_
                exact rn ⟨i + 1, B9⟩ ⟨by dsimp only; omega, by dsimp only; rw [psN_succ, hp, ← set_made (by omega) hk0, made_all hw ht hk1 (fun hh => hn0 hh.2), ← bools_set]; exact hs9⟩ (by dsimp only; omega) (kp 0 rfl (kp 1 rfl (kp 5 rfl (kp 6 rfl kn)))) (Fit.last PickC.perm) (fun _ h => h)
            ·
              have hk4 : ¬ t.kind = 4 := by simp at hb; omega
              refine XL.gn rfl rfl rfl rfl ?_
              refine XL.gn rfl rfl rfl rfl ?_
              refine XL.gn rfl rfl rfl rfl ?_
              refine XL.q (q_pickF rfl rfl) rfl ?_
              refine XL.fin (kp 0 rfl (kp 1 rfl (kp 5 rfl (kp 6 rfl (kp 7 rfl (kp 9 rfl (kp 63 rfl kn))))))) ?_
              refine XC.condF rfl ?_
              refine XC.skip ?_
              refine nx (kp 0 rfl (kp 1 rfl (kp 5 rfl (kp 6 rfl (kp 9 rfl kn))))) ?_
              refine XC.reg1 ?_
              refine XL.q (q_move rfl) rfl ?_
              refine XL.q (q_move rfl) rfl ?_
              refine XL.q (q_move rfl) rfl ?_
              refine XL.q (q_atV2 (sz := 1) (a := i) rfl rfl (by kernel_rfl) rfl (hs.rd (R := B) fun _ h => h) hlti) rfl ?_
              refine XL.lo rfl (l_stE hs rfl rfl rfl (by kernel_rfl) hlti PickC.perm fun B9 hs9 => ?_)
              refine XL.nil ?_
              refine nb ?_
              refine nx (kp 0 rfl (kp 1 rfl (kp 5 rfl (kp 6 rfl kn)))) ?_
              refine XC.reg1 ?_
              refine XL.q (q_move rfl) rfl ?_
              refine XL.q (q_addI (b := 1) rfl rfl rfl rfl (by omega)) rfl ?_
              refine XL.q (q_assign rfl) rfl ?_
              refine XL.nil ?_
              exact rn ⟨i + 1, B9⟩ ⟨by dsimp only; omega, by dsimp only; rw [psN_succ, hp, ← set_made (by omega) hk0, made_all hw ht hk1 (fun hh => hk4 hh.1), ← bools_set]; exact hs9⟩ (by dsimp only; omega) (kp 0 rfl (kp 1 rfl (kp 5 rfl (kp 6 rfl kn)))) (Fit.last PickC.perm) (fun _ h => h)
    ·
      have hge : i = ts.length := by simp at hc; omega
      subst hge
      refine XC.exit ?_
      refine te ?_
      refine re ?_
      refine be rfl ?_
      refine nb ?_
      refine nx (kp 0 rfl (kp 1 rfl (kp 5 rfl kn))) ?_
      refine XC.reg1 ?_
      refine XL.q (q_move rfl) rfl ?_
      refine XL.q (q_addI (b := 1) rfl rfl rfl rfl (by omega)) rfl ?_
      refine XL.q (q_assign rfl) rfl ?_
      refine XL.nil ?_
      exact rn ⟨r + 1, B⟩ ⟨by dsimp only; omega, by dsimp only; rw [hgs]; exact hs⟩ (by dsimp only; omega) (kp 0 rfl (kp 1 rfl (kp 5 rfl kn))) (Fit.last PickC.perm) (fun _ h => h)
  ·
    have hge : r = ts.length + 1 := by simp at hc; omega
    subst hge
    refine XC.exit ?_
    refine te ?_
    refine re ?_
    refine be rfl ?_
    refine nx (kp 1 rfl kn) ?_
    refine XC.reg ?_
    refine XL.q (q_move rfl) rfl ?_
    refine XL.q (q_assign rfl) rfl ?_
    refine XL.fin (kp 4 rfl kn) ?_
    refine XC.ret ?_
    exact ⟨_, B, [], res1 rfl rfl, Fit.none (Fit.last PickC.perm), rfl, hs⟩

end Go.Proofs.YthmnlkpikgglbaaGreatDoor
/- The walk of ClosureRises. -/
set_option linter.unusedVariables false
set_option linter.unusedSimpArgs false
namespace Go.Proofs.YthmnlkpikgglbaaGreatDoor
open Go.Px
def wsN (ts : List Tm) (h : List Bool) (outs : List (List Nat)) (i : Nat) : List Bool := (List.range i).map fun j => hasF ts h (outs.getD j [])
theorem wsN_succ (ts : List Tm) (h : List Bool) (outs : List (List Nat)) (i : Nat) : wsN ts h outs (i + 1) = wsN ts h outs i ++ [hasF ts h (outs.getD i [])] := by unfold wsN; rw [List.range_succ, List.map_append]; rfl
theorem wsN_len (ts : List Tm) (h : List Bool) (outs : List (List Nat)) (i : Nat) : (wsN ts h outs i).length = i := by simp [wsN]
theorem wsN_get {ts : List Tm} {h : List Bool} {outs : List (List Nat)} {i n : Nat} (hi : i < n) : (bools (wsN ts h outs n))[i]? = some (.bool (hasF ts h (outs.getD i []))) := by
  unfold bools wsN
  rw [List.getElem?_map, List.getElem?_map, List.getElem?_range hi]; rfl
theorem has_up {ts : List Tm} {h h' : List Bool} {w : List Nat} (hw : Good ts w) (hl : ts.length ≤ 1048576) (hle : Le h h') (hy : hasF ts h w = true) : hasF ts h' w = true := by
  rw [has_good hw hl] at hy ⊢
  exact hle _ hy
theorem getD_at {α : Type} {l : List α} {i : Nat} {d : α} (h : i < l.length) : l.getD i d = l[i] := by rw [List.getD_eq_getElem?_getD, List.getElem?_eq_getElem h]; rfl

set_option maxRecDepth 100000 in
theorem closureRises_spec (lv : Value) (n : Nat) (zs : List Nat) (a b : Nat) (A : Mem) (hz : Rd A 3 lv n (nums .u8 zs)) (hzl : zs.length = n * 3) (hz8 : ∀ x ∈ zs, x < 256) (hnm : n ≤ 9223372036854775807) (ha : a < 256) (hb8 : b < 256) (hG : Glb A) : FnV Tryz.prog 4 [lv, .int .u8 ((a : Nat) : Int), .int .u8 ((b : Nat) : Int)] A (.bool true) := by
  have hGG := hG
  obtain ⟨⟨ge0, gf0, h0⟩, ⟨ge1, gf1, h1⟩, ⟨ge4, gf4, h4⟩⟩ := hGG
  haveI := hz.cel
  have zlt : ∀ j, zs.getD j 0 < 256 := fun j => by
    rw [List.getD_eq_getElem?_getD]
    cases hj : zs[j]? with
    | none => decide
    | some x => exact hz8 x (List.mem_of_getElem? hj)
  refine FnX.enter (N := 116) Tryz.func4 rfl rfl rfl fun w => ?_
  refine XC.keep (kp 0 rfl (kp 1 rfl (kp 2 rfl kn))) ?_
  refine XC.reg ?_
  refine XL.q (q_assign rfl) rfl ?_
  refine XL.fin (kp 0 rfl (kp 1 rfl (kp 2 rfl kn))) ?_
  refine XC.seq ?_
  refine XC.reg ?_
  refine XL.callV a0 (by kernel_rfl) (awake22_spec _ hG.up) rfl ?_
  refine XL.q (q_not rfl) rfl ?_
  refine XL.q (q_move rfl) rfl ?_
  refine XL.gy rfl rfl (OpQ.opL (q_move rfl) rfl ?_)
  refine XL.gy rfl rfl (OpQ.opL (q_lenV2 (sz := 3) rfl (by kernel_rfl) hz) rfl ?_)
  refine XL.gy rfl rfl (OpQ.opL (q_bin rfl rfl rfl) rfl ?_)
  refine XL.q (q_pickF rfl rfl) rfl ?_
  refine XL.fin (kp 0 rfl (kp 1 rfl (kp 2 rfl (kp 20 rfl kn)))) ?_
  refine XC.cond rfl (fun hc => ?_) (fun hc => ?_)
  ·
    refine XC.reg ?_
    refine XL.callV a0 (by kernel_rfl) (awake22_spec _ hG.up) rfl ?_
    refine XL.q (q_assign rfl) rfl ?_
    refine XL.fin (kp 6 rfl kn) ?_
    refine XC.ret ?_
    refine tr ?_
    exact ⟨_, [], [], res1 rfl rfl, List.nil_sublist _, by simp, rfl, rfl, rfl⟩
  ·
    have hn25 : n ≤ 25 := by simp at hc; omega
    refine XC.skip ?_
    refine nx (kp 0 rfl (kp 1 rfl (kp 2 rfl kn))) ?_
    refine XC.reg ?_
    refine XL.call a0 (by kernel_rfl) (open22_spec _) rfl ?_
    rintro v22 M22 J22 ⟨pb, rfl, hP22⟩
    refine XL.q (q_assign rfl) rfl ?_
    refine XL.fin (kp 0 rfl (kp 1 rfl (kp 2 rfl (kp 7 rfl kn)))) ?_
    refine XC.reg ?_
    refine XL.q (q_move rfl) rfl ?_
    refine XL.q (q_move rfl) rfl ?_
    refine XL.lo rfl (l_call (Mc := M22) (R := _) (aS rfl (aS rfl a0)) (by kernel_rfl) PickC.perm (build_spec pb n lv zs M22 _ hP22 (hz.mono SubC.sub) hzl hz8 (by omega) hG.up) rfl ?_)
    rintro v25 M25 J25 ⟨hP25, hl25⟩
    obtain ⟨vs, hor, hlv⟩ := hl25.ex
    obtain ⟨hk1, hk2, hk3, hk4, hk5⟩ := bok zs n
    obtain ⟨bwf, btk, bgd⟩ := bAt_bw zlt n (by omega)
    obtain ⟨sv, bt, bm, B, MT, rfl, hby, hT⟩ := hP25.ex
    rw [show md (bAt zs n).1.real = 1 by rw [hk1]; rfl] at *
    haveI := hor.cel
    generalize hts : (bAt zs n).1.ts = ts at *
    generalize hou : (bAt zs n).2 = outs at *
    obtain ⟨va, hva, hba⟩ := pick_at hlv a (by omega)
    obtain ⟨vb, hvb, hbb⟩ := pick_at hlv b (by omega)
    haveI := hba.cel
    haveI := hbb.cel
    have ga := bgd _ (pick_mem a (show 0 < outs.length by omega))
    have gb := bgd _ (pick_mem b (show 0 < outs.length by omega))
    refine XL.q (q_assign rfl) rfl ?_
    refine XL.fin (kp 1 rfl (kp 2 rfl (kp 7 rfl (kp 8 rfl kn)))) ?_
    refine XC.reg ?_
    refine XL.q (q_move rfl) rfl ?_
    refine XL.callV (aS rfl a0) (by kernel_rfl) (ptable_spec pb bt _ sv _ At.mem) rfl ?_
    refine XL.call (aS rfl a0) (by kernel_rfl) (knew_spec bt _) rfl ?_
    rintro v28 M28 J28 ⟨kb, rfl, hK28⟩
    refine XL.q (q_assign rfl) rfl ?_
    refine XL.fin (kp 1 rfl (kp 2 rfl (kp 8 rfl (kp 9 rfl kn)))) ?_
    refine XC.reg ?_
    refine XL.q (q_move rfl) rfl ?_
    refine XL.lo rfl (l_call (Mc := M28) (R := _) (aS rfl a0) (by kernel_rfl) PickC.perm (close_spec kb bt bm ts [] M28 _ hK28 (hT.tbr SubC.sub) (Nat.zero_le _) (by omega) (SubC.sub _ h4)) rfl ?_)
    rintro v30 M30 J30 ⟨h30, hc30, hK30⟩
    have he30 : h30 = List.replicate ts.length false := (Clo.eq (Nat.zero_le _) hc30).trans (clo_none bwf)
    subst he30
    refine XL.fin (kp 1 rfl (kp 2 rfl (kp 8 rfl (kp 9 rfl kn)))) ?_
    refine XC.reg ?_
    refine XL.q (q_move rfl) rfl ?_
    refine XL.call (aS rfl a0) (by kernel_rfl) (keys_spec kb bt bm ts (List.replicate ts.length false) _ (hK30.rd SubC.sub) (hT.tbr SubC.sub) (by simp) (by omega)) rfl ?_
    rintro v32 M32 J32 ⟨rfl, hl32⟩
    rw [keys_none] at hl32
    obtain ⟨vs32, hr32, hls32⟩ := hl32.ex
    haveI := hr32.cel
    refine XL.q (q_lenV2 (n := 0) (sz := 1) rfl (by kernel_rfl) hr32) rfl ?_
    refine XL.q (q_assign rfl) rfl ?_
    refine XL.fin (kp 1 rfl (kp 2 rfl (kp 8 rfl (kp 9 rfl (kp 10 rfl kn))))) ?_
    refine XC.reg ?_
    refine XL.q (q_move rfl) rfl ?_
    refine XL.q (q_move rfl) rfl ?_
    refine XL.q (q_move rfl) rfl ?_
    refine XL.q (q_convN a rfl (by kernel_rfl) (wrapI (by omega))) rfl ?_
    refine XL.q (q_move rfl) rfl ?_
    refine XL.q (q_lenV2 (sz := 1) rfl (by kernel_rfl) hor) rfl ?_
    refine XL.q (q_remI (a := a) (b := outs.length) rfl rfl rfl rfl (by omega)) rfl ?_
    refine XL.q (q_atV2 (sz := 1) (a := a % outs.length) rfl rfl (by kernel_rfl) rfl hor (Nat.mod_lt _ (by omega))) rfl ?_
    refine XL.q (q_ldV (j := a % outs.length) (u := va) (hor.mono SubC.sub) rfl (by kernel_rfl) hva) rfl ?_
    refine XL.lo rfl (l_buildSlice (e := 23) (sz := 1) (z := [.slice none 0 0]) (by kernel_rfl) (eS rfl e0) (bdS 0 1 rfl (by rfl) bd0) rfl fun b43 => ?_)
    refine XL.lo rfl (l_call (Mc := M30 ++ MT) (R := _) (aS rfl (aS rfl a0)) (by kernel_rfl) PickC.perm (learn1_spec kb bt bm (ts, List.replicate ts.length false) _ (pick outs a) M30 MT _ hK30 hT ⟨_, Rd.whole (n := 1) At.mem (by rfl), Lst.cons (hba.mono SubC.sub) Lst.nil⟩ (by simp) (by dsimp only; omega) (SubC.sub _ h4)) rfl ?_)
    rintro v44 M44 J44 ⟨MK44, MT44, rfl, hK44, hT44⟩
    have hkn44 := lrn_knows ga (show ts.length ≤ 1048576 by omega) (h := List.replicate ts.length false) (by first | omega | simp)
    rw [lrn_good ga (show ts.length ≤ 1048576 by omega)] at hK44 hT44 hkn44
    dsimp only at hK44 hT44 hkn44
    have hgl1 := (cloF_clo (ts := ts) (h := (padB (List.replicate ts.length false) ts.length).set (rdI ts (pick outs a)) true) (by rw [List.length_set, padB_len (by first | omega | simp)]; exact Nat.le_refl _)).len
    generalize cloF ts ((padB (List.replicate ts.length false) ts.length).set (rdI ts (pick outs a)) true) = g1 at *
    obtain ⟨hka1, hle1⟩ := hkn44
    refine XL.fin (kp 1 rfl (kp 2 rfl (kp 8 rfl (kp 9 rfl (kp 10 rfl kn))))) ?_
    refine XC.reg ?_
    refine XL.q (q_assign rfl) rfl ?_
    refine XL.fin (kp 1 rfl (kp 2 rfl (kp 8 rfl (kp 9 rfl (kp 10 rfl (kp 11 rfl kn)))))) ?_
    refine XC.seq ?_
    refine XC.reg ?_
    refine XL.q (q_assign rfl) rfl ?_
    refine XL.fin (kp 1 rfl (kp 2 rfl (kp 8 rfl (kp 9 rfl (kp 10 rfl (kp 11 rfl (kp 12 rfl kn))))))) ?_
    refine XC.block ?_
    refine XC.loop (α := Nat × Value × Mem) (fun x => [(1, .int .u8 ((a : Nat) : Int)), (2, .int .u8 ((b : Nat) : Int)), (8, v25), (9, .pointer (some ⟨kb, 0, none⟩)), (10, .int .i64 0), (11, x.2.1), (12, .int .i64 ((x.1 : Nat) : Int))]) (fun x => x.2.2 ++ (MK44 ++ MT44)) (fun _ => J25) (fun x => x.1 ≤ outs.length ∧ Sl 1 x.2.1 x.1 (bools (wsN ts g1 outs x.1)) x.2.2) (fun x => outs.length - x.1) ⟨0, .slice none 0 0, []⟩ ⟨Nat.zero_le _, Sl.nil⟩ (kp 1 rfl (kp 2 rfl (kp 8 rfl (kp 9 rfl (kp 10 rfl (kp 11 rfl (kp 12 rfl kn))))))) (Fit.none (Fit.pick PickC.perm (Fit.last PickC.perm))) (fun x hx => SubC.sub x hx) ?_
    rintro ⟨i, v11, B11⟩ ⟨hi, hs11⟩
    dsimp only at hi hs11 ⊢
    haveI := hs11.cel
    refine XC.seq ?_
    refine XC.reg ?_
    refine XL.q (q_move rfl) rfl ?_
    refine XL.q (q_move rfl) rfl ?_
    refine XL.q (q_lenV2 (sz := 1) rfl (by kernel_rfl) hor) rfl ?_
    refine XL.q (q_bin rfl rfl rfl) rfl ?_
    refine XL.fin (kp 1 rfl (kp 2 rfl (kp 8 rfl (kp 9 rfl (kp 10 rfl (kp 11 rfl (kp 12 rfl (kp 48 rfl kn)))))))) ?_
    refine XC.cond rfl (fun hc => ?_) (fun hc => ?_)
    ·
      have hlt : i < outs.length := by simp at hc; omega
      obtain ⟨vi, hvi, hvib⟩ := hlv.at hlt
      haveI := hvib.cel
      rw [← getD_at (d := []) hlt] at hvib
      refine XC.skip ?_
      refine nx (kp 1 rfl (kp 2 rfl (kp 8 rfl (kp 9 rfl (kp 10 rfl (kp 11 rfl (kp 12 rfl kn))))))) ?_
      refine XC.seq ?_
      refine XC.block ?_
      refine XC.reg1 ?_
      refine XL.q (q_move rfl) rfl ?_
      refine XL.q (q_move rfl) rfl ?_
      refine XL.q (q_move rfl) rfl ?_
      refine XL.q (q_move rfl) rfl ?_
      refine XL.q (q_atV2 (sz := 1) rfl rfl (by kernel_rfl) rfl hor hlt) rfl ?_
      refine XL.q (q_ldV (j := i) (u := vi) (hor.mono SubC.sub) rfl (by kernel_rfl) hvi) rfl ?_
      refine XL.callV (aS rfl (aS rfl a0)) (by kernel_rfl) (has_spec kb bt bm ts g1 vi (outs.getD i []) _ (hK44.rd SubC.sub) (hT44.tbr SubC.sub) (by omega) (hvib.mono SubC.sub)) rfl ?_
      refine XL.lo rfl (l_buildSlice (e := 4) (sz := 1) (z := [.bool false]) (by kernel_rfl) (eS rfl e0) (bdS 0 1 rfl (by rfl) bd0) rfl fun b58 => ?_)
      refine XL.lo rfl (l_append2 (e := 4) (sz := 1) (by_ := 1) rfl rfl (by kernel_rfl) rfl hs11 (Rd.whole (n := 1) At.mem (by rfl)) (by intro c hc; rw [List.mem_singleton.1 hc]; rfl) PickC.perm (by unfold maxLen; omega) (by omega) rfl fun v59 B59 hs59 => ?_)
      refine XL.q (q_assign rfl) rfl ?_
      refine XL.nil ?_
      refine nb ?_
      refine nx (kp 1 rfl (kp 2 rfl (kp 8 rfl (kp 9 rfl (kp 10 rfl (kp 11 rfl (kp 12 rfl kn))))))) ?_
      refine XC.reg1 ?_
      refine XL.q (q_move rfl) rfl ?_
      refine XL.q (q_addI (b := 1) rfl rfl rfl rfl (by omega)) rfl ?_
      refine XL.q (q_assign rfl) rfl ?_
      refine XL.nil ?_
      exact rn ⟨i + 1, v59, B59⟩ ⟨by dsimp only; omega, by dsimp only; rw [wsN_succ, bools_app]; exact hs59⟩ (by dsimp only; omega) (kp 1 rfl (kp 2 rfl (kp 8 rfl (kp 9 rfl (kp 10 rfl (kp 11 rfl (kp 12 rfl kn))))))) (Fit.pick PickC.perm (Fit.pick PickC.perm (Fit.last PickC.perm))) (fun x hx => SubC.sub x hx)
    ·
      have hge : i = outs.length := by simp at hc; omega
      subst hge
      refine XC.exit ?_
      refine te ?_
      refine re ?_
      refine be rfl ?_
      refine nx (kp 1 rfl (kp 2 rfl (kp 8 rfl (kp 9 rfl (kp 10 rfl (kp 11 rfl kn)))))) ?_
      refine XC.reg ?_
      refine XL.q (q_move rfl) rfl ?_
      refine XL.q (q_move rfl) rfl ?_
      refine XL.q (q_move rfl) rfl ?_
      refine XL.q (q_convN b rfl (by kernel_rfl) (wrapI (by omega))) rfl ?_
      refine XL.q (q_move rfl) rfl ?_
      refine XL.q (q_lenV2 (sz := 1) rfl (by kernel_rfl) hor) rfl ?_
      refine XL.q (q_remI (a := b) (b := outs.length) rfl rfl rfl rfl (by omega)) rfl ?_
      refine XL.q (q_atV2 (sz := 1) (a := b % outs.length) rfl rfl (by kernel_rfl) rfl hor (Nat.mod_lt _ (by omega))) rfl ?_
      refine XL.q (q_ldV (j := b % outs.length) (u := vb) (hor.mono SubC.sub) rfl (by kernel_rfl) hvb) rfl ?_
      refine XL.lo rfl (l_buildSlice (e := 23) (sz := 1) (z := [.slice none 0 0]) (by kernel_rfl) (eS rfl e0) (bdS 0 1 rfl (by rfl) bd0) rfl fun b69 => ?_)
      refine XL.lo rfl (l_call (Mc := MK44 ++ MT44) (R := _) (aS rfl (aS rfl a0)) (by kernel_rfl) PickC.perm (learn1_spec kb bt bm (ts, g1) _ (pick outs b) MK44 MT44 _ hK44 hT44 ⟨_, Rd.whole (n := 1) At.mem (by rfl), Lst.cons (hbb.mono SubC.sub) Lst.nil⟩ (by dsimp only; omega) (by dsimp only; omega) (SubC.sub _ h4)) rfl ?_)
      rintro v70 M70 J70 ⟨MK70, MT70, rfl, hK70, hT70⟩
      have hkn70 := lrn_knows gb (show ts.length ≤ 1048576 by omega) (h := g1) (by first | omega | simp)
      rw [lrn_good gb (show ts.length ≤ 1048576 by omega)] at hK70 hT70 hkn70
      dsimp only at hK70 hT70 hkn70
      have hgl2 := (cloF_clo (ts := ts) (h := (padB g1 ts.length).set (rdI ts (pick outs b)) true) (by rw [List.length_set, padB_len (by first | omega | simp)]; exact Nat.le_refl _)).len
      generalize cloF ts ((padB g1 ts.length).set (rdI ts (pick outs b)) true) = g2 at *
      obtain ⟨hka2, hle2⟩ := hkn70
      refine XL.fin (kp 1 rfl (kp 2 rfl (kp 8 rfl (kp 9 rfl (kp 10 rfl (kp 11 rfl kn)))))) ?_
      refine XC.seq ?_
      refine XC.reg ?_
      refine XL.q (q_assign rfl) rfl ?_
      refine XL.fin (kp 1 rfl (kp 2 rfl (kp 8 rfl (kp 9 rfl (kp 10 rfl (kp 11 rfl (kp 13 rfl kn))))))) ?_
      refine XC.block ?_
      refine XC.loop (α := Nat) (fun x => [(1, .int .u8 ((a : Nat) : Int)), (2, .int .u8 ((b : Nat) : Int)), (8, v25), (9, .pointer (some ⟨kb, 0, none⟩)), (10, .int .i64 0), (11, v11), (13, .int .i64 ((x : Nat) : Int))]) (fun x => B11 ++ (MK70 ++ MT70)) (fun _ => J25) (fun x => x ≤ outs.length) (fun x => outs.length - x) 0 (Nat.zero_le _) (kp 1 rfl (kp 2 rfl (kp 8 rfl (kp 9 rfl (kp 10 rfl (kp 11 rfl (kp 13 rfl kn))))))) (Fit.pick PickC.perm (Fit.pick PickC.perm (Fit.last PickC.perm))) (fun x hx => SubC.sub x hx) ?_
      rintro i hi
      refine XC.seq ?_
      refine XC.reg ?_
      refine XL.q (q_move rfl) rfl ?_
      refine XL.q (q_move rfl) rfl ?_
      refine XL.q (q_lenV2 (sz := 1) rfl (by kernel_rfl) hor) rfl ?_
      refine XL.q (q_bin rfl rfl rfl) rfl ?_
      refine XL.fin (kp 1 rfl (kp 2 rfl (kp 8 rfl (kp 9 rfl (kp 10 rfl (kp 11 rfl (kp 13 rfl (kp 74 rfl kn)))))))) ?_
      refine XC.cond rfl (fun hc => ?_) (fun hc => ?_)
      ·
        have hlt : i < outs.length := by simp at hc; omega
        obtain ⟨vi, hvi, hvib⟩ := hlv.at hlt
        haveI := hvib.cel
        rw [← getD_at (d := []) hlt] at hvib
        have hgi : Good ts (outs.getD i []) := bgd _ (by rw [getD_at hlt]; exact List.getElem_mem _)
        refine XC.skip ?_
        refine nx (kp 1 rfl (kp 2 rfl (kp 8 rfl (kp 9 rfl (kp 10 rfl (kp 11 rfl (kp 13 rfl kn))))))) ?_
        refine XC.seq ?_
        refine XC.block ?_
        refine XC.reg ?_
        refine XL.q (q_move rfl) rfl ?_
        refine XL.q (q_move rfl) rfl ?_
        refine XL.q (q_atV2 (sz := 1) rfl rfl (by kernel_rfl) rfl (hs11.rd (R := B11) fun _ h => h) hlt) rfl ?_
        refine XL.q (q_ldV (j := i) (u := .bool (hasF ts g1 (outs.getD i []))) (hs11.rd SubC.sub) rfl (by kernel_rfl) (wsN_get hlt)) rfl ?_
        refine XL.q (q_move rfl) rfl ?_
        refine XL.split (t := 81) rfl (fun hb => ?_) (fun hb => ?_)
        ·
          have hW := has_up hgi (show ts.length ≤ 1048576 by omega) hle2 hb
          refine XL.gy rfl rfl (OpQ.opL (q_move rfl) rfl ?_)
          refine XL.gy rfl rfl (OpQ.opL (q_move rfl) rfl ?_)
          refine XL.gy rfl rfl (OpQ.opL (q_move rfl) rfl ?_)
          refine XL.gy rfl rfl (OpQ.opL (q_atV2 (sz := 1) rfl rfl (by kernel_rfl) rfl hor hlt) rfl ?_)
          refine XL.gy rfl rfl (OpQ.opL (q_ldV (j := i) (u := vi) (hor.mono SubC.sub) rfl (by kernel_rfl) hvi) rfl ?_)
          refine XL.callVg rfl rfl (aS rfl (aS rfl a0)) (by kernel_rfl) (has_spec kb bt bm ts g2 vi (outs.getD i []) _ (hK70.rd SubC.sub) (hT70.tbr SubC.sub) (by omega) (hvib.mono SubC.sub)) rfl ?_
          rw [hW]
          refine XL.gy rfl rfl (OpQ.opL (q_not rfl) rfl ?_)
          refine XL.q (q_pickT rfl rfl) rfl ?_
          refine XL.fin (kp 1 rfl (kp 2 rfl (kp 8 rfl (kp 9 rfl (kp 10 rfl (kp 11 rfl (kp 13 rfl (kp 89 rfl kn)))))))) ?_
          refine XC.condF rfl ?_
          refine XC.skip ?_
          refine nb ?_
          refine nx (kp 1 rfl (kp 2 rfl (kp 8 rfl (kp 9 rfl (kp 10 rfl (kp 11 rfl (kp 13 rfl kn))))))) ?_
          refine XC.reg1 ?_
          refine XL.q (q_move rfl) rfl ?_
          refine XL.q (q_addI (b := 1) rfl rfl rfl rfl (by omega)) rfl ?_
          refine XL.q (q_assign rfl) rfl ?_
          refine XL.nil ?_
          exact rn (i + 1) (by omega) (by omega) (kp 1 rfl (kp 2 rfl (kp 8 rfl (kp 9 rfl (kp 10 rfl (kp 11 rfl (kp 13 rfl kn))))))) (Fit.pick PickC.perm (Fit.pick PickC.perm (Fit.last PickC.perm))) (fun x hx => SubC.sub x hx)
        ·
          refine XL.gn rfl rfl rfl rfl ?_
          refine XL.gn rfl rfl rfl rfl ?_
          refine XL.gn rfl rfl rfl rfl ?_
          refine XL.gn rfl rfl rfl rfl ?_
          refine XL.gn rfl rfl rfl rfl ?_
          refine XL.gn rfl rfl rfl rfl ?_
          refine XL.gn rfl rfl rfl rfl ?_
          refine XL.q (q_pickF rfl rfl) rfl ?_
          refine XL.fin (kp 1 rfl (kp 2 rfl (kp 8 rfl (kp 9 rfl (kp 10 rfl (kp 11 rfl (kp 13 rfl (kp 89 rfl kn)))))))) ?_
          refine XC.condF rfl ?_
          refine XC.skip ?_
          refine nb ?_
          refine nx (kp 1 rfl (kp 2 rfl (kp 8 rfl (kp 9 rfl (kp 10 rfl (kp 11 rfl (kp 13 rfl kn))))))) ?_
          refine XC.reg1 ?_
          refine XL.q (q_move rfl) rfl ?_
          refine XL.q (q_addI (b := 1) rfl rfl rfl rfl (by omega)) rfl ?_
          refine XL.q (q_assign rfl) rfl ?_
          refine XL.nil ?_
          exact rn (i + 1) (by omega) (by omega) (kp 1 rfl (kp 2 rfl (kp 8 rfl (kp 9 rfl (kp 10 rfl (kp 11 rfl (kp 13 rfl kn))))))) (Fit.pick PickC.perm (Fit.pick PickC.perm (Fit.last PickC.perm))) (fun x hx => SubC.sub x hx)
      ·
        refine XC.exit ?_
        refine te ?_
        refine re ?_
        refine be rfl ?_
        refine nx (kp 1 rfl (kp 2 rfl (kp 8 rfl (kp 9 rfl (kp 10 rfl kn))))) ?_
        refine XC.reg ?_
        refine XL.q (q_move rfl) rfl ?_
        refine XL.q (q_cmp true rfl rfl (eqT rfl)) rfl ?_
        refine XL.q (q_move rfl) rfl ?_
        refine XL.gy rfl rfl (OpQ.opL (q_move rfl) rfl ?_)
        refine XL.gy rfl rfl (OpQ.opL (q_move rfl) rfl ?_)
        refine XL.gy rfl rfl (OpQ.opL (q_move rfl) rfl ?_)
        refine XL.gy rfl rfl (OpQ.opL (q_convN a rfl (by kernel_rfl) (wrapI (by omega))) rfl ?_)
        refine XL.gy rfl rfl (OpQ.opL (q_move rfl) rfl ?_)
        refine XL.gy rfl rfl (OpQ.opL (q_lenV2 (sz := 1) rfl (by kernel_rfl) hor) rfl ?_)
        refine XL.gy rfl rfl (OpQ.opL (q_remI (a := a) (b := outs.length) rfl rfl rfl rfl (by omega)) rfl ?_)
        refine XL.gy rfl rfl (OpQ.opL (q_atV2 (sz := 1) (a := a % outs.length) rfl rfl (by kernel_rfl) rfl hor (Nat.mod_lt _ (by omega))) rfl ?_)
        refine XL.gy rfl rfl (OpQ.opL (q_ldV (j := a % outs.length) (u := va) (hor.mono SubC.sub) rfl (by kernel_rfl) hva) rfl ?_)
        refine XL.callVg rfl rfl (aS rfl (aS rfl a0)) (by kernel_rfl) (has_spec kb bt bm ts g2 va (pick outs a) _ (hK70.rd SubC.sub) (hT70.tbr SubC.sub) (by omega) (hba.mono SubC.sub)) rfl ?_
        rw [show hasF ts g2 (pick outs a) = true by rw [has_good ga (by omega)]; exact hle2 _ hka1]
        refine XL.q (q_pickT rfl rfl) rfl ?_
        refine XL.q (q_move rfl) rfl ?_
        refine XL.gy rfl rfl (OpQ.opL (q_move rfl) rfl ?_)
        refine XL.gy rfl rfl (OpQ.opL (q_move rfl) rfl ?_)
        refine XL.gy rfl rfl (OpQ.opL (q_move rfl) rfl ?_)
        refine XL.gy rfl rfl (OpQ.opL (q_convN b rfl (by kernel_rfl) (wrapI (by omega))) rfl ?_)
        refine XL.gy rfl rfl (OpQ.opL (q_move rfl) rfl ?_)
        refine XL.gy rfl rfl (OpQ.opL (q_lenV2 (sz := 1) rfl (by kernel_rfl) hor) rfl ?_)
        refine XL.gy rfl rfl (OpQ.opL (q_remI (a := b) (b := outs.length) rfl rfl rfl rfl (by omega)) rfl ?_)
        refine XL.gy rfl rfl (OpQ.opL (q_atV2 (sz := 1) (a := b % outs.length) rfl rfl (by kernel_rfl) rfl hor (Nat.mod_lt _ (by omega))) rfl ?_)
        refine XL.gy rfl rfl (OpQ.opL (q_ldV (j := b % outs.length) (u := vb) (hor.mono SubC.sub) rfl (by kernel_rfl) hvb) rfl ?_)
        refine XL.callVg rfl rfl (aS rfl (aS rfl a0)) (by kernel_rfl) (has_spec kb bt bm ts g2 vb (pick outs b) _ (hK70.rd SubC.sub) (hT70.tbr SubC.sub) (by omega) (hbb.mono SubC.sub)) rfl ?_
        rw [show hasF ts g2 (pick outs b) = true by rw [has_good gb (by omega)]; exact hka2]
        refine XL.q (q_pickT rfl rfl) rfl ?_
        refine XL.q (q_assign rfl) rfl ?_
        refine XL.fin (kp 6 rfl kn) ?_
        refine XC.ret ?_
        exact ⟨_, [], [], res1 rfl rfl, List.nil_sublist _, by simp, rfl, rfl, rfl⟩

end Go.Proofs.YthmnlkpikgglbaaGreatDoor
