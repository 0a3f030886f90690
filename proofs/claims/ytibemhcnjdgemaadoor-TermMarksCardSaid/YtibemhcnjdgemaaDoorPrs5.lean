/- The walk of Parts of any text. -/
import Derived.Test.YtibemhcnjdgemaaDoorPrs4
set_option linter.unusedVariables false
set_option linter.unusedSimpArgs false
namespace Go.Proofs.YtibemhcnjdgemaaDoor
open Go.Px
structure Ppt where
  l : List (List Nat)
  s : List Nat
  v : Value
  B : Mem
structure Ppo (ws : List Nat) (x : Ppt) : Prop where
  e : ws = marks x.l ++ x.s
  b : B256 x.s
  n : x.s.length + x.l.length ≤ 1099511627776
  sl : Sl 1 x.v x.l.length (strs x.l) x.B

set_option maxRecDepth 100000 in
theorem parts_any (ws : List Nat) (hw : B256 ws) (hl : ws.length ≤ 1099511627776) (A : Mem) {v5 : Value} {e5 : TypeId} {f5 : Nat × Nat} (c5 : Cel v5 [v5]) (h5 : (1, Obj.cells [v5].toArray e5 f5) ∈ A) {v6 : Value} {e6 : TypeId} {f6 : Nat × Nat} (c6 : Cel v6 [v6]) (h6 : (2, Obj.cells [v6].toArray e6 f6) ∈ A) {e4 : TypeId} {f4 : Nat × Nat} (h4 : (4, Obj.cells (nums .u64 pow10T).toArray e4 f4) ∈ A) : FnX Tryd.prog 21 [.string (txt ws)] [] A fun r M J => (∃ (l : List (List Nat)) (v : Value), r = .tuple #[v, .int .i64 0] ∧ ws = marks l ∧ Sl 1 v l.length (strs l) M) ∨ r = .tuple #[.slice none 0 0, .int .i64 4] := by
  refine FnX.enter (N := 77) Tryd.func21 rfl rfl rfl fun w => ?_
  refine XC.keep (kp 0 rfl kn) ?_
  refine XC.reg ?_
  refine XL.q (q_assign rfl) rfl ?_
  refine XL.q (q_assign rfl) rfl ?_
  refine XL.fin (kp 0 rfl kn) ?_
  refine XC.reg ?_
  refine XL.q (q_assign rfl) rfl ?_
  refine XL.fin (kp 0 rfl (kp 4 rfl kn)) ?_
  refine XC.seq ?_
  refine XC.block ?_
  refine XC.loop (α := Ppt) (fun x => [(0, .string (txt x.s)), (4, x.v)]) (fun x => x.B) (fun _ => []) (Ppo ws) (fun x => x.s.length) ⟨[], ws, .slice none 0 0, []⟩ ⟨rfl, hw, hl, Sl.nil⟩ (kp 0 rfl (kp 4 rfl kn)) .rfl (fun _ h => h) ?_
  rintro ⟨l, s, v, B⟩ ⟨he, hb, hnl, hsl⟩
  dsimp only at he hb hnl hsl ⊢
  haveI := hsl.cel
  haveI := hb
  refine XC.seq ?_
  refine XC.reg ?_
  refine XL.q (q_move rfl) rfl ?_
  refine XL.q (q_sLen rfl rfl (by kernel_rfl)) rfl ?_
  refine XL.q (q_bin rfl rfl rfl) rfl ?_
  refine XL.fin (kp 0 rfl (kp 4 rfl (kp 10 rfl kn))) ?_
  refine XC.cond rfl (fun hc => ?_) (fun hc => ?_)
  ·
    have hs0 : 0 < s.length := by simpa using hc
    refine XC.skip ?_
    refine nx (kp 0 rfl (kp 4 rfl kn)) ?_
    refine XC.block ?_
    refine XC.reg ?_
    refine XL.q (q_assign rfl) rfl ?_
    refine XL.fin (kp 0 rfl (kp 4 rfl (kp 5 rfl kn))) ?_
    refine XC.join (α := Nat) (fun k => [(0, .string (txt s)), (4, v), (5, .int .i64 (k : Int))]) (fun _ => B) (fun _ => []) (fun k => k ≤ s.length ∧ (k < s.length → s.getD k 0 = 58)) ?_ ?_
    ·
      refine XC.block ?_
      refine XC.loop (α := Nat) (fun k => [(0, .string (txt s)), (4, v), (5, .int .i64 (k : Int))]) (fun _ => B) (fun _ => []) (fun k => k ≤ s.length) (fun k => s.length - k) 0 (Nat.zero_le _) (kp 0 rfl (kp 4 rfl (kp 5 rfl kn))) .rfl (fun _ h => h) ?_
      rintro k hk
      refine XC.seq ?_
      have h3 : (k < s.length ∧ s.getD k 0 ≠ 58) ∨ (k < s.length ∧ s.getD k 0 = 58) ∨ s.length ≤ k := by omega
      rcases h3 with ⟨hkl, h58⟩ | ⟨hkl, h58⟩ | hkl
      ·
        refine XC.reg ?_
        refine XL.q (q_move rfl) rfl ?_
        refine XL.q (q_move rfl) rfl ?_
        refine XL.q (q_sLen rfl rfl (by kernel_rfl)) rfl ?_
        refine XL.q (q_cmp true rfl rfl (ltT (by omega))) rfl ?_
        refine XL.q (q_move rfl) rfl ?_
        refine XL.gy rfl rfl (OpQ.opL (q_move rfl) rfl ?_)
        refine XL.gy rfl rfl (OpQ.opL (q_move rfl) rfl ?_)
        refine XL.gy rfl rfl (OpQ.opL (q_sAt rfl rfl B256.lt rfl (by kernel_rfl) rfl (by omega)) rfl ?_)
        refine XL.gy rfl rfl (OpQ.opL (q_cmp true rfl rfl (neT (by omega))) rfl ?_)
        refine XL.q (q_pickT rfl rfl) rfl ?_
        refine XL.fin (kp 0 rfl (kp 4 rfl (kp 5 rfl (kp 20 rfl kn)))) ?_
        refine XC.condT rfl ?_
        refine XC.skip ?_
        refine nx (kp 0 rfl (kp 4 rfl (kp 5 rfl kn))) ?_
        refine XC.block ?_
        refine XC.reg1 ?_
        refine XL.q (q_move rfl) rfl ?_
        refine XL.q (q_addI (b := 1) rfl rfl rfl rfl (by omega)) rfl ?_
        refine XL.q (q_assign rfl) rfl ?_
        refine XL.nil ?_
        refine nb ?_
        exact rn (k + 1) (by omega) (by omega) (kp 0 rfl (kp 4 rfl (kp 5 rfl kn))) .rfl (fun _ h => h)
      ·
        refine XC.reg ?_
        refine XL.q (q_move rfl) rfl ?_
        refine XL.q (q_move rfl) rfl ?_
        refine XL.q (q_sLen rfl rfl (by kernel_rfl)) rfl ?_
        refine XL.q (q_cmp true rfl rfl (ltT (by omega))) rfl ?_
        refine XL.q (q_move rfl) rfl ?_
        refine XL.gy rfl rfl (OpQ.opL (q_move rfl) rfl ?_)
        refine XL.gy rfl rfl (OpQ.opL (q_move rfl) rfl ?_)
        refine XL.gy rfl rfl (OpQ.opL (q_sAt rfl rfl B256.lt rfl (by kernel_rfl) rfl (by omega)) rfl ?_)
        refine XL.gy rfl rfl (OpQ.opL (q_cmp false rfl rfl (neF (by omega))) rfl ?_)
        refine XL.q (q_pickT rfl rfl) rfl ?_
        refine XL.fin (kp 0 rfl (kp 4 rfl (kp 5 rfl (kp 20 rfl kn)))) ?_
        refine XC.condF rfl ?_
        refine XC.exit ?_
        refine te ?_
        refine re ?_
        refine be rfl ?_
        exact jn k ⟨hk, fun _ => h58⟩ (kp 0 rfl (kp 4 rfl (kp 5 rfl kn))) .rfl (fun _ h => h)
      ·
        refine XC.reg ?_
        refine XL.q (q_move rfl) rfl ?_
        refine XL.q (q_move rfl) rfl ?_
        refine XL.q (q_sLen rfl rfl (by kernel_rfl)) rfl ?_
        refine XL.q (q_cmp false rfl rfl (ltF (by omega))) rfl ?_
        refine XL.q (q_move rfl) rfl ?_
        refine XL.gn rfl rfl rfl rfl ?_
        refine XL.gn rfl rfl rfl rfl ?_
        refine XL.gn rfl rfl rfl rfl ?_
        refine XL.gn rfl rfl rfl rfl ?_
        refine XL.q (q_pickF rfl rfl) rfl ?_
        refine XL.fin (kp 0 rfl (kp 4 rfl (kp 5 rfl (kp 20 rfl kn)))) ?_
        refine XC.condF rfl ?_
        refine XC.exit ?_
        refine te ?_
        refine re ?_
        refine be rfl ?_
        exact jn k ⟨hk, fun h => absurd h (by omega)⟩ (kp 0 rfl (kp 4 rfl (kp 5 rfl kn))) .rfl (fun _ h => h)
    ·
      rintro k ⟨hk, h58⟩
      refine XC.reg ?_
      refine XL.q (q_move rfl) rfl ?_
      refine XL.q (q_move rfl) rfl ?_
      refine XL.q (q_sHi rfl rfl rfl (by kernel_rfl) rfl (by first | omega | (simp only [List.length_append, List.length_cons, List.length_nil, List.length_take, List.length_drop]; omega))) rfl ?_
      refine XL.call (aS rfl a0) (by kernel_rfl) (atoi_any (s.take k) B256.take (Nat.le_trans (List.length_take_le _ _) (by omega)) _ c5 (mA h5) c6 (mA h6)) rfl ?_
      rintro v27 M27 J27 ⟨n, ve, rfl, hn, hv⟩
      refine XL.q (q_move rfl) rfl ?_
      refine XL.q (q_x0 rfl) rfl ?_
      refine XL.q (q_x1 rfl) rfl ?_
      refine XL.q (q_assign rfl) rfl ?_
      refine XL.q (q_assign rfl) rfl ?_
      refine XL.fin (kp 0 rfl (kp 4 rfl (kp 5 rfl (kp 6 rfl (kp 7 rfl kn))))) ?_
      refine XC.seq ?_
      have hd : (∃ u z, ve = .iface u z) ∨ ve = .nilIface ∧ (s.take k ≠ decI n ∨ s.take k = decI n ∧ (n < 0 ∨ 0 ≤ n ∧ (k = s.length ∨ k < s.length ∧ (n > (s.length : Int) - k - 1 ∨ n ≤ (s.length : Int) - k - 1)))) := by
        rcases hv with rfl | ⟨u, z, rfl⟩
        · refine .inr ⟨rfl, ?_⟩
          by_cases h : s.take k = decI n
          · exact .inr ⟨h, by omega⟩
          · exact .inl h
        · exact .inl ⟨u, z, rfl⟩
      rcases hd with ⟨u8, z8, rfl⟩ | ⟨rfl, h1 | ⟨h1, h2 | ⟨h2, h3 | ⟨h3, h7 | h7⟩⟩⟩⟩
      ·
        refine XC.drawF [0, 1, 2, 3, 4, 5, 6, 7, 8, 9, 10, 11, 12, 13, 14, 15, 16, 17, 18, 19, 20, 21, 22, 23, 24, 25, 26, 27, 28] [(0, 0), (1, 0), (2, 0), (3, 0), (5, 0), (6, 0), (7, 0), (4, 2), (8, 0), (9, 0), (10, 0), (11, 0), (12, 0), (13, 0), (14, 0), (15, 0), (16, 0), (17, 0), (18, 0), (19, 0), (20, 0), (21, 0), (22, 0), (23, 0), (24, 0), (25, 0), (26, 0), (27, 0), (28, 0)] (by kernel_rfl) (by kernel_rfl) fun hs => ?_
        refine XF.q hs rfl (q_move rfl) rfl ?_
        refine XF.q hs rfl (q_ifNe1 rfl (by kernel_rfl)) rfl ?_
        refine XF.q hs rfl (q_move rfl) rfl ?_
        refine XF.qn hs rfl rfl rfl rfl rfl rfl ?_
        refine XF.qn hs rfl rfl rfl rfl rfl rfl ?_
        refine XF.qn hs rfl rfl rfl rfl rfl rfl ?_
        refine XF.qn hs rfl rfl rfl rfl rfl rfl ?_
        refine XF.ln hs rfl rfl rfl rfl rfl rfl ?_
        refine XF.qn hs rfl rfl rfl rfl rfl rfl ?_
        refine XF.q hs rfl (q_pickT rfl rfl) rfl ?_
        refine XF.q hs rfl (q_move rfl) rfl ?_
        refine XF.qn hs rfl rfl rfl rfl rfl rfl ?_
        refine XF.qn hs rfl rfl rfl rfl rfl rfl ?_
        refine XF.q hs rfl (q_pickT rfl rfl) rfl ?_
        refine XF.q hs rfl (q_move rfl) rfl ?_
        refine XF.qn hs rfl rfl rfl rfl rfl rfl ?_
        refine XF.qn hs rfl rfl rfl rfl rfl rfl ?_
        refine XF.qn hs rfl rfl rfl rfl rfl rfl ?_
        refine XF.qn hs rfl rfl rfl rfl rfl rfl ?_
        refine XF.q hs rfl (q_pickT rfl rfl) rfl ?_
        refine XF.q hs rfl (q_move rfl) rfl ?_
        refine XF.qn hs rfl rfl rfl rfl rfl rfl ?_
        refine XF.qn hs rfl rfl rfl rfl rfl rfl ?_
        refine XF.qn hs rfl rfl rfl rfl rfl rfl ?_
        refine XF.qn hs rfl rfl rfl rfl rfl rfl ?_
        refine XF.qn hs rfl rfl rfl rfl rfl rfl ?_
        refine XF.qn hs rfl rfl rfl rfl rfl rfl ?_
        refine XF.qn hs rfl rfl rfl rfl rfl rfl ?_
        refine XF.q hs rfl (q_pickT rfl rfl) rfl ?_
        refine XF.fin (kp 0 rfl (kp 4 rfl (kp 5 rfl (kp 6 rfl (kp 58 rfl kn))))) ?_
        refine XC.condT rfl ?_
        refine XC.reg ?_
        refine XL.q (q_assign rfl) rfl ?_
        refine XL.q (q_assign rfl) rfl ?_
        refine XL.fin (kp 2 rfl (kp 3 rfl kn)) ?_
        refine XC.ret ?_
        refine tr ?_
        refine br ?_
        refine rr ?_
        refine br ?_
        refine tr ?_
        exact ⟨_, [], [], res2 rfl rfl rfl, List.nil_sublist _, by simp, .inr rfl⟩
      ·
        refine XC.drawF [0, 1, 2, 3, 4, 5, 6, 7, 8, 9, 10, 11, 12, 13, 14, 15, 16, 17, 18, 19, 20, 21, 22, 23, 24, 25, 26, 27, 28] [(0, 0), (1, 0), (2, 0), (3, 0), (5, 0), (6, 0), (7, 0), (4, 2), (8, 0), (9, 0), (10, 0), (11, 0), (12, 0), (13, 0), (14, 0), (15, 0), (16, 0), (17, 0), (18, 0), (19, 0), (20, 0), (21, 0), (22, 0), (23, 0), (24, 0), (25, 0), (26, 0), (27, 0), (28, 0)] (by kernel_rfl) (by kernel_rfl) fun hs => ?_
        refine XF.q hs rfl (q_move rfl) rfl ?_
        refine XF.q hs rfl (q_ifNe0 rfl (by kernel_rfl)) rfl ?_
        refine XF.q hs rfl (q_move rfl) rfl ?_
        refine XF.qg hs rfl rfl rfl rfl (q_move rfl) rfl ?_
        refine XF.qg hs rfl rfl rfl rfl (q_move rfl) rfl ?_
        refine XF.qg hs rfl rfl rfl rfl (q_move rfl) rfl ?_
        refine XF.qg hs rfl rfl rfl rfl (q_sHi rfl rfl rfl (by kernel_rfl) rfl (by first | omega | (simp only [List.length_append, List.length_cons, List.length_nil, List.length_take, List.length_drop]; omega))) rfl ?_
        refine XF.callVg rfl rfl rfl rfl (aS rfl a0) (by kernel_rfl) (itoa_spec n hn.1 hn.2 _ (mA h4)) rfl ?_
        refine XF.qg hs rfl rfl rfl rfl ((show (!decide (decI n = s.take k)) = true by simp [Ne.symm h1]) ▸ q_sNe rfl rfl rfl rfl B256.lt B256.lt) rfl ?_
        refine XF.q hs rfl (q_pickF rfl rfl) rfl ?_
        refine XF.q hs rfl (q_move rfl) rfl ?_
        refine XF.qn hs rfl rfl rfl rfl rfl rfl ?_
        refine XF.qn hs rfl rfl rfl rfl rfl rfl ?_
        refine XF.q hs rfl (q_pickT rfl rfl) rfl ?_
        refine XF.q hs rfl (q_move rfl) rfl ?_
        refine XF.qn hs rfl rfl rfl rfl rfl rfl ?_
        refine XF.qn hs rfl rfl rfl rfl rfl rfl ?_
        refine XF.qn hs rfl rfl rfl rfl rfl rfl ?_
        refine XF.qn hs rfl rfl rfl rfl rfl rfl ?_
        refine XF.q hs rfl (q_pickT rfl rfl) rfl ?_
        refine XF.q hs rfl (q_move rfl) rfl ?_
        refine XF.qn hs rfl rfl rfl rfl rfl rfl ?_
        refine XF.qn hs rfl rfl rfl rfl rfl rfl ?_
        refine XF.qn hs rfl rfl rfl rfl rfl rfl ?_
        refine XF.qn hs rfl rfl rfl rfl rfl rfl ?_
        refine XF.qn hs rfl rfl rfl rfl rfl rfl ?_
        refine XF.qn hs rfl rfl rfl rfl rfl rfl ?_
        refine XF.qn hs rfl rfl rfl rfl rfl rfl ?_
        refine XF.q hs rfl (q_pickT rfl rfl) rfl ?_
        refine XF.fin (kp 0 rfl (kp 4 rfl (kp 5 rfl (kp 6 rfl (kp 58 rfl kn))))) ?_
        refine XC.condT rfl ?_
        refine XC.reg ?_
        refine XL.q (q_assign rfl) rfl ?_
        refine XL.q (q_assign rfl) rfl ?_
        refine XL.fin (kp 2 rfl (kp 3 rfl kn)) ?_
        refine XC.ret ?_
        refine tr ?_
        refine br ?_
        refine rr ?_
        refine br ?_
        refine tr ?_
        exact ⟨_, [], [], res2 rfl rfl rfl, List.nil_sublist _, by simp, .inr rfl⟩
      ·
        refine XC.drawF [0, 1, 2, 3, 4, 5, 6, 7, 8, 9, 10, 11, 12, 13, 14, 15, 16, 17, 18, 19, 20, 21, 22, 23, 24, 25, 26, 27, 28] [(0, 0), (1, 0), (2, 0), (3, 0), (5, 0), (6, 0), (7, 0), (4, 2), (8, 0), (9, 0), (10, 0), (11, 0), (12, 0), (13, 0), (14, 0), (15, 0), (16, 0), (17, 0), (18, 0), (19, 0), (20, 0), (21, 0), (22, 0), (23, 0), (24, 0), (25, 0), (26, 0), (27, 0), (28, 0)] (by kernel_rfl) (by kernel_rfl) fun hs => ?_
        refine XF.q hs rfl (q_move rfl) rfl ?_
        refine XF.q hs rfl (q_ifNe0 rfl (by kernel_rfl)) rfl ?_
        refine XF.q hs rfl (q_move rfl) rfl ?_
        refine XF.qg hs rfl rfl rfl rfl (q_move rfl) rfl ?_
        refine XF.qg hs rfl rfl rfl rfl (q_move rfl) rfl ?_
        refine XF.qg hs rfl rfl rfl rfl (q_move rfl) rfl ?_
        refine XF.qg hs rfl rfl rfl rfl (q_sHi rfl rfl rfl (by kernel_rfl) rfl (by first | omega | (simp only [List.length_append, List.length_cons, List.length_nil, List.length_take, List.length_drop]; omega))) rfl ?_
        refine XF.callVg rfl rfl rfl rfl (aS rfl a0) (by kernel_rfl) (itoa_spec n hn.1 hn.2 _ (mA h4)) rfl ?_
        refine XF.qg hs rfl rfl rfl rfl ((show (!decide (decI n = s.take k)) = false by simp [h1]) ▸ q_sNe rfl rfl rfl rfl B256.lt B256.lt) rfl ?_
        refine XF.q hs rfl (q_pickF rfl rfl) rfl ?_
        refine XF.q hs rfl (q_move rfl) rfl ?_
        refine XF.qg hs rfl rfl rfl rfl (q_move rfl) rfl ?_
        refine XF.qg hs rfl rfl rfl rfl (q_cmp true rfl rfl (ltT (by omega))) rfl ?_
        refine XF.q hs rfl (q_pickF rfl rfl) rfl ?_
        refine XF.q hs rfl (q_move rfl) rfl ?_
        refine XF.qn hs rfl rfl rfl rfl rfl rfl ?_
        refine XF.qn hs rfl rfl rfl rfl rfl rfl ?_
        refine XF.qn hs rfl rfl rfl rfl rfl rfl ?_
        refine XF.qn hs rfl rfl rfl rfl rfl rfl ?_
        refine XF.q hs rfl (q_pickT rfl rfl) rfl ?_
        refine XF.q hs rfl (q_move rfl) rfl ?_
        refine XF.qn hs rfl rfl rfl rfl rfl rfl ?_
        refine XF.qn hs rfl rfl rfl rfl rfl rfl ?_
        refine XF.qn hs rfl rfl rfl rfl rfl rfl ?_
        refine XF.qn hs rfl rfl rfl rfl rfl rfl ?_
        refine XF.qn hs rfl rfl rfl rfl rfl rfl ?_
        refine XF.qn hs rfl rfl rfl rfl rfl rfl ?_
        refine XF.qn hs rfl rfl rfl rfl rfl rfl ?_
        refine XF.q hs rfl (q_pickT rfl rfl) rfl ?_
        refine XF.fin (kp 0 rfl (kp 4 rfl (kp 5 rfl (kp 6 rfl (kp 58 rfl kn))))) ?_
        refine XC.condT rfl ?_
        refine XC.reg ?_
        refine XL.q (q_assign rfl) rfl ?_
        refine XL.q (q_assign rfl) rfl ?_
        refine XL.fin (kp 2 rfl (kp 3 rfl kn)) ?_
        refine XC.ret ?_
        refine tr ?_
        refine br ?_
        refine rr ?_
        refine br ?_
        refine tr ?_
        exact ⟨_, [], [], res2 rfl rfl rfl, List.nil_sublist _, by simp, .inr rfl⟩
      ·
        refine XC.drawF [0, 1, 2, 3, 4, 5, 6, 7, 8, 9, 10, 11, 12, 13, 14, 15, 16, 17, 18, 19, 20, 21, 22, 23, 24, 25, 26, 27, 28] [(0, 0), (1, 0), (2, 0), (3, 0), (5, 0), (6, 0), (7, 0), (4, 2), (8, 0), (9, 0), (10, 0), (11, 0), (12, 0), (13, 0), (14, 0), (15, 0), (16, 0), (17, 0), (18, 0), (19, 0), (20, 0), (21, 0), (22, 0), (23, 0), (24, 0), (25, 0), (26, 0), (27, 0), (28, 0)] (by kernel_rfl) (by kernel_rfl) fun hs => ?_
        refine XF.q hs rfl (q_move rfl) rfl ?_
        refine XF.q hs rfl (q_ifNe0 rfl (by kernel_rfl)) rfl ?_
        refine XF.q hs rfl (q_move rfl) rfl ?_
        refine XF.qg hs rfl rfl rfl rfl (q_move rfl) rfl ?_
        refine XF.qg hs rfl rfl rfl rfl (q_move rfl) rfl ?_
        refine XF.qg hs rfl rfl rfl rfl (q_move rfl) rfl ?_
        refine XF.qg hs rfl rfl rfl rfl (q_sHi rfl rfl rfl (by kernel_rfl) rfl (by first | omega | (simp only [List.length_append, List.length_cons, List.length_nil, List.length_take, List.length_drop]; omega))) rfl ?_
        refine XF.callVg rfl rfl rfl rfl (aS rfl a0) (by kernel_rfl) (itoa_spec n hn.1 hn.2 _ (mA h4)) rfl ?_
        refine XF.qg hs rfl rfl rfl rfl ((show (!decide (decI n = s.take k)) = false by simp [h1]) ▸ q_sNe rfl rfl rfl rfl B256.lt B256.lt) rfl ?_
        refine XF.q hs rfl (q_pickF rfl rfl) rfl ?_
        refine XF.q hs rfl (q_move rfl) rfl ?_
        refine XF.qg hs rfl rfl rfl rfl (q_move rfl) rfl ?_
        refine XF.qg hs rfl rfl rfl rfl (q_cmp false rfl rfl (ltF (by omega))) rfl ?_
        refine XF.q hs rfl (q_pickF rfl rfl) rfl ?_
        refine XF.q hs rfl (q_move rfl) rfl ?_
        refine XF.qg hs rfl rfl rfl rfl (q_move rfl) rfl ?_
        refine XF.qg hs rfl rfl rfl rfl (q_move rfl) rfl ?_
        refine XF.qg hs rfl rfl rfl rfl (q_sLen rfl rfl (by kernel_rfl)) rfl ?_
        refine XF.qg hs rfl rfl rfl rfl (q_cmp true rfl rfl (eqT (by omega))) rfl ?_
        refine XF.q hs rfl (q_pickF rfl rfl) rfl ?_
        refine XF.q hs rfl (q_move rfl) rfl ?_
        refine XF.qn hs rfl rfl rfl rfl rfl rfl ?_
        refine XF.qn hs rfl rfl rfl rfl rfl rfl ?_
        refine XF.qn hs rfl rfl rfl rfl rfl rfl ?_
        refine XF.qn hs rfl rfl rfl rfl rfl rfl ?_
        refine XF.qn hs rfl rfl rfl rfl rfl rfl ?_
        refine XF.qn hs rfl rfl rfl rfl rfl rfl ?_
        refine XF.qn hs rfl rfl rfl rfl rfl rfl ?_
        refine XF.q hs rfl (q_pickT rfl rfl) rfl ?_
        refine XF.fin (kp 0 rfl (kp 4 rfl (kp 5 rfl (kp 6 rfl (kp 58 rfl kn))))) ?_
        refine XC.condT rfl ?_
        refine XC.reg ?_
        refine XL.q (q_assign rfl) rfl ?_
        refine XL.q (q_assign rfl) rfl ?_
        refine XL.fin (kp 2 rfl (kp 3 rfl kn)) ?_
        refine XC.ret ?_
        refine tr ?_
        refine br ?_
        refine rr ?_
        refine br ?_
        refine tr ?_
        exact ⟨_, [], [], res2 rfl rfl rfl, List.nil_sublist _, by simp, .inr rfl⟩
      ·
        refine XC.drawF [0, 1, 2, 3, 4, 5, 6, 7, 8, 9, 10, 11, 12, 13, 14, 15, 16, 17, 18, 19, 20, 21, 22, 23, 24, 25, 26, 27, 28] [(0, 0), (1, 0), (2, 0), (3, 0), (5, 0), (6, 0), (7, 0), (4, 2), (8, 0), (9, 0), (10, 0), (11, 0), (12, 0), (13, 0), (14, 0), (15, 0), (16, 0), (17, 0), (18, 0), (19, 0), (20, 0), (21, 0), (22, 0), (23, 0), (24, 0), (25, 0), (26, 0), (27, 0), (28, 0)] (by kernel_rfl) (by kernel_rfl) fun hs => ?_
        refine XF.q hs rfl (q_move rfl) rfl ?_
        refine XF.q hs rfl (q_ifNe0 rfl (by kernel_rfl)) rfl ?_
        refine XF.q hs rfl (q_move rfl) rfl ?_
        refine XF.qg hs rfl rfl rfl rfl (q_move rfl) rfl ?_
        refine XF.qg hs rfl rfl rfl rfl (q_move rfl) rfl ?_
        refine XF.qg hs rfl rfl rfl rfl (q_move rfl) rfl ?_
        refine XF.qg hs rfl rfl rfl rfl (q_sHi rfl rfl rfl (by kernel_rfl) rfl (by first | omega | (simp only [List.length_append, List.length_cons, List.length_nil, List.length_take, List.length_drop]; omega))) rfl ?_
        refine XF.callVg rfl rfl rfl rfl (aS rfl a0) (by kernel_rfl) (itoa_spec n hn.1 hn.2 _ (mA h4)) rfl ?_
        refine XF.qg hs rfl rfl rfl rfl ((show (!decide (decI n = s.take k)) = false by simp [h1]) ▸ q_sNe rfl rfl rfl rfl B256.lt B256.lt) rfl ?_
        refine XF.q hs rfl (q_pickF rfl rfl) rfl ?_
        refine XF.q hs rfl (q_move rfl) rfl ?_
        refine XF.qg hs rfl rfl rfl rfl (q_move rfl) rfl ?_
        refine XF.qg hs rfl rfl rfl rfl (q_cmp false rfl rfl (ltF (by omega))) rfl ?_
        refine XF.q hs rfl (q_pickF rfl rfl) rfl ?_
        refine XF.q hs rfl (q_move rfl) rfl ?_
        refine XF.qg hs rfl rfl rfl rfl (q_move rfl) rfl ?_
        refine XF.qg hs rfl rfl rfl rfl (q_move rfl) rfl ?_
        refine XF.qg hs rfl rfl rfl rfl (q_sLen rfl rfl (by kernel_rfl)) rfl ?_
        refine XF.qg hs rfl rfl rfl rfl (q_cmp false rfl rfl (eqF (by omega))) rfl ?_
        refine XF.q hs rfl (q_pickF rfl rfl) rfl ?_
        refine XF.q hs rfl (q_move rfl) rfl ?_
        refine XF.qg hs rfl rfl rfl rfl (q_move rfl) rfl ?_
        refine XF.qg hs rfl rfl rfl rfl (q_move rfl) rfl ?_
        refine XF.qg hs rfl rfl rfl rfl (q_sLen rfl rfl (by kernel_rfl)) rfl ?_
        refine XF.qg hs rfl rfl rfl rfl (q_move rfl) rfl ?_
        refine XF.qg hs rfl rfl rfl rfl (q_subI rfl rfl rfl rfl (by omega) (by omega)) rfl ?_
        refine XF.qg hs rfl rfl rfl rfl (q_subI (b := 1) rfl rfl rfl rfl (by omega) (by omega)) rfl ?_
        refine XF.qg hs rfl rfl rfl rfl (q_cmp true rfl rfl (gtT (by omega))) rfl ?_
        refine XF.q hs rfl (q_pickF rfl rfl) rfl ?_
        refine XF.fin (kp 0 rfl (kp 4 rfl (kp 5 rfl (kp 6 rfl (kp 58 rfl kn))))) ?_
        refine XC.condT rfl ?_
        refine XC.reg ?_
        refine XL.q (q_assign rfl) rfl ?_
        refine XL.q (q_assign rfl) rfl ?_
        refine XL.fin (kp 2 rfl (kp 3 rfl kn)) ?_
        refine XC.ret ?_
        refine tr ?_
        refine br ?_
        refine rr ?_
        refine br ?_
        refine tr ?_
        exact ⟨_, [], [], res2 rfl rfl rfl, List.nil_sublist _, by simp, .inr rfl⟩
      ·
        obtain ⟨m, rfl⟩ : ∃ m : Nat, n = (m : Int) := ⟨n.toNat, by omega⟩
        refine XC.drawF [0, 1, 2, 3, 4, 5, 6, 7, 8, 9, 10, 11, 12, 13, 14, 15, 16, 17, 18, 19, 20, 21, 22, 23, 24, 25, 26, 27, 28] [(0, 0), (1, 0), (2, 0), (3, 0), (5, 0), (6, 0), (7, 0), (4, 2), (8, 0), (9, 0), (10, 0), (11, 0), (12, 0), (13, 0), (14, 0), (15, 0), (16, 0), (17, 0), (18, 0), (19, 0), (20, 0), (21, 0), (22, 0), (23, 0), (24, 0), (25, 0), (26, 0), (27, 0), (28, 0)] (by kernel_rfl) (by kernel_rfl) fun hs => ?_
        refine XF.q hs rfl (q_move rfl) rfl ?_
        refine XF.q hs rfl (q_ifNe0 rfl (by kernel_rfl)) rfl ?_
        refine XF.q hs rfl (q_move rfl) rfl ?_
        refine XF.qg hs rfl rfl rfl rfl (q_move rfl) rfl ?_
        refine XF.qg hs rfl rfl rfl rfl (q_move rfl) rfl ?_
        refine XF.qg hs rfl rfl rfl rfl (q_move rfl) rfl ?_
        refine XF.qg hs rfl rfl rfl rfl (q_sHi rfl rfl rfl (by kernel_rfl) rfl (by first | omega | (simp only [List.length_append, List.length_cons, List.length_nil, List.length_take, List.length_drop]; omega))) rfl ?_
        refine XF.callVg rfl rfl rfl rfl (aS rfl a0) (by kernel_rfl) (itoa_spec (m : Int) hn.1 hn.2 _ (mA h4)) rfl ?_
        refine XF.qg hs rfl rfl rfl rfl ((show (!decide (decI (m : Int) = s.take k)) = false by simp [h1]) ▸ q_sNe rfl rfl rfl rfl B256.lt B256.lt) rfl ?_
        refine XF.q hs rfl (q_pickF rfl rfl) rfl ?_
        refine XF.q hs rfl (q_move rfl) rfl ?_
        refine XF.qg hs rfl rfl rfl rfl (q_move rfl) rfl ?_
        refine XF.qg hs rfl rfl rfl rfl (q_cmp false rfl rfl (ltF (by omega))) rfl ?_
        refine XF.q hs rfl (q_pickF rfl rfl) rfl ?_
        refine XF.q hs rfl (q_move rfl) rfl ?_
        refine XF.qg hs rfl rfl rfl rfl (q_move rfl) rfl ?_
        refine XF.qg hs rfl rfl rfl rfl (q_move rfl) rfl ?_
        refine XF.qg hs rfl rfl rfl rfl (q_sLen rfl rfl (by kernel_rfl)) rfl ?_
        refine XF.qg hs rfl rfl rfl rfl (q_cmp false rfl rfl (eqF (by omega))) rfl ?_
        refine XF.q hs rfl (q_pickF rfl rfl) rfl ?_
        refine XF.q hs rfl (q_move rfl) rfl ?_
        refine XF.qg hs rfl rfl rfl rfl (q_move rfl) rfl ?_
        refine XF.qg hs rfl rfl rfl rfl (q_move rfl) rfl ?_
        refine XF.qg hs rfl rfl rfl rfl (q_sLen rfl rfl (by kernel_rfl)) rfl ?_
        refine XF.qg hs rfl rfl rfl rfl (q_move rfl) rfl ?_
        refine XF.qg hs rfl rfl rfl rfl (q_subI rfl rfl rfl rfl (by omega) (by omega)) rfl ?_
        refine XF.qg hs rfl rfl rfl rfl (q_subI (b := 1) rfl rfl rfl rfl (by omega) (by omega)) rfl ?_
        refine XF.qg hs rfl rfl rfl rfl (q_cmp false rfl rfl (gtF (by omega))) rfl ?_
        refine XF.q hs rfl (q_pickF rfl rfl) rfl ?_
        refine XF.fin (kp 0 rfl (kp 4 rfl (kp 5 rfl (kp 6 rfl (kp 58 rfl kn))))) ?_
        refine XC.condF rfl ?_
        refine XC.skip ?_
        refine nx (kp 0 rfl (kp 4 rfl (kp 5 rfl (kp 6 rfl kn)))) ?_
        refine XC.drawF1 [0, 1, 2, 3, 4, 5, 6, 7, 8, 9, 11, 12, 13, 14, 15, 16, 17, 18] [(0, 0), (1, 0), (2, 0), (3, 0), (4, 0), (5, 0), (6, 0), (7, 0), (8, 0), (11, 0), (12, 0), (13, 0), (14, 0), (15, 0), (16, 0), (9, 2), (10, 2), (17, 0), (18, 0)] (by kernel_rfl) (by kernel_rfl) fun hs => ?_
        refine XF.q hs rfl (q_move rfl) rfl ?_
        refine XF.q hs rfl (q_move rfl) rfl ?_
        refine XF.q hs rfl (q_move rfl) rfl ?_
        refine XF.q hs rfl (q_addI (b := 1) rfl rfl rfl rfl (by omega)) rfl ?_
        refine XF.q hs rfl (q_move rfl) rfl ?_
        refine XF.q hs rfl (q_addI (b := 1) rfl rfl rfl rfl (by omega)) rfl ?_
        refine XF.q hs rfl (q_move rfl) rfl ?_
        refine XF.q hs rfl (q_addI rfl rfl rfl rfl (by omega)) rfl ?_
        refine XF.q hs rfl (q_sLH rfl rfl rfl rfl (by kernel_rfl) rfl rfl (by omega) (by first | omega | (simp only [List.length_append, List.length_cons, List.length_nil, List.length_take, List.length_drop]; omega))) rfl ?_
        refine XF.q hs rfl (q_move rfl) rfl ?_
        refine XF.q hs rfl (q_move rfl) rfl ?_
        refine XF.q hs rfl (q_addI (b := 1) rfl rfl rfl rfl (by omega)) rfl ?_
        refine XF.q hs rfl (q_move rfl) rfl ?_
        refine XF.q hs rfl (q_addI rfl rfl rfl rfl (by omega)) rfl ?_
        refine XF.q hs rfl (q_sLo rfl rfl rfl (by kernel_rfl) rfl (by first | omega | (simp only [List.length_append, List.length_cons, List.length_nil, List.length_take, List.length_drop]; omega))) rfl ?_
        refine XF.lo rfl rfl fun _ => (l_buildSlice (e := 9) (sz := 1) (z := [.string ByteArray.empty]) (by kernel_rfl) (eS rfl e0) (bdS 0 1 rfl (by rfl) bd0) rfl fun b68 => ?_)
        refine XF.tl rfl rfl rfl (l_append2 (e := 9) (sz := 1) (by_ := 16) rfl rfl (by kernel_rfl) rfl (by first | assumption | exact Sl.nil) (Rd.whole (n := 1) At.mem (by rfl)) (by first | (simp [Value.oneCell']; done) | (intro c hc; simp only [List.mem_singleton] at hc; subst hc; first | exact Rd.one (by assumption) | exact Sl.one (by assumption))) PickC.perm (by unfold maxLen; omega) (by omega) rfl fun v69 B69 hs69 => ?_)
        refine XF.q hs rfl (q_assign rfl) rfl ?_
        refine XF.q hs rfl (q_assign rfl) rfl ?_
        refine XF.nil ?_
        refine nb ?_
        exact rn ⟨l ++ [(s.take (k + 1 + m)).drop (k + 1)], s.drop (k + 1 + m), v69, B69⟩ ⟨(by rw [marks_snoc]; have := cut_back (n := (m : Int)) h3 (h58 h3) h1 h2 h7; rw [Int.toNat_natCast] at this; rw [List.append_assoc, ← this]; exact he), B256.drop, (by simp only [List.length_append, List.length_drop, List.length_cons, List.length_nil]; omega), (by simpa [strs] using hs69)⟩ (by dsimp only; rw [List.length_drop]; omega) (kp 0 rfl (kp 4 rfl kn)) (Fit.sub (List.sublist_append_left _ _)) (fun _ h => by cases h)
  ·
    have hs0 : s = [] := by simpa using hc
    refine XC.exit ?_
    refine te ?_
    refine re ?_
    refine be rfl ?_
    refine nx (kp 4 rfl kn) ?_
    refine XC.reg ?_
    refine XL.q (q_move rfl) rfl ?_
    refine XL.q (q_assign rfl) rfl ?_
    refine XL.q (q_assign rfl) rfl ?_
    refine XL.fin (kp 2 rfl (kp 3 rfl kn)) ?_
    refine XC.ret ?_
    exact ⟨_, B, [], res2 rfl rfl rfl, List.Sublist.refl _, by simp, .inl ⟨l, v, rfl, by rw [he, hs0]; simp, hsl⟩⟩
