/- The walks of ParseUint, ParseInt, Atoi, of any text: they answer. -/
import Derived.Test.YtibemhcnjdgemaaDoorIf
import Derived.Test.YtibemhcnjdgemaaDoorTrm2
set_option linter.unusedVariables false
set_option linter.unusedSimpArgs false
namespace Go.Proofs.YtibemhcnjdgemaaDoor
open Go.Px
/-- The faults that there are: none, out of range, not a number. -/
def okp (p : Option Int) : Prop := p = none ∨ p = some 1 ∨ p = some 2

set_option maxRecDepth 100000 in
theorem lower_spec (c : Nat) (hc : c < 256) (A : Mem) : FnX Tryd.prog 98 [.int .u8 (c : Int)] [] A fun r M J => M = [] ∧ J = [] ∧ ∃ n : Int, r = .int .u8 n := by
  refine FnX.enter (N := 5) Tryd.func98 rfl rfl rfl fun w => ?_
  refine XC.keep (kp 0 rfl kn) ?_
  refine XC.reg ?_
  refine XL.q (q_assign rfl) rfl ?_
  refine XL.fin (kp 0 rfl kn) ?_
  refine XC.reg ?_
  refine XL.q (q_move rfl) rfl ?_
  refine XL.q (q_bin rfl rfl rfl) rfl ?_
  refine XL.q (q_assign rfl) rfl ?_
  refine XL.fin (kp 2 rfl kn) ?_
  refine XC.ret ?_
  exact ⟨_, [], [], res1 rfl rfl, List.nil_sublist _, by simp, rfl, rfl, _, rfl⟩

set_option maxRecDepth 100000 in
theorem parseUint_spec (ws : List Nat) (hw : B256 ws) (hl : ws.length ≤ 1099511627776) (A : Mem) : FnX Tryd.prog 84 [.string (txt ws), .int .i64 10, .int .i64 0] [] A fun r M J => ∃ (n : Int) (p : Option Int), r = .tuple #[.int .u64 n, errV 116 p] ∧ okp p := by
  haveI := hw
  refine FnX.enter (N := 172) Tryd.func84 rfl rfl rfl fun w => ?_
  refine XC.keep (kp 0 rfl (kp 1 rfl (kp 2 rfl kn))) ?_
  refine XC.reg ?_
  refine XL.q (q_assign rfl) rfl ?_
  refine XL.q (q_assign rfl) rfl ?_
  refine XL.fin (kp 0 rfl (kp 1 rfl (kp 2 rfl kn))) ?_
  refine XC.seq ?_
  refine XC.reg ?_
  refine XL.q (q_move rfl) rfl ?_
  refine XL.q (q_sEq (ws' := []) rfl rfl rfl (by kernel_rfl) B256.lt (by decide)) rfl ?_
  refine XL.fin (kp 0 rfl (kp 1 rfl (kp 2 rfl (kp 19 rfl kn)))) ?_
  refine XC.cond rfl (fun hc => ?_) (fun hc => ?_)
  ·
    refine XC.reg ?_
    refine XL.q (q_mkIf rfl (by kernel_rfl)) rfl ?_
    refine XL.q (q_assign rfl) rfl ?_
    refine XL.q (q_assign rfl) rfl ?_
    refine XL.fin (kp 6 rfl (kp 7 rfl kn)) ?_
    refine XC.ret ?_
    refine tr ?_
    first | exact ⟨_, _, [], res2 rfl rfl rfl, List.Sublist.refl _, by simp, _, some 2, rfl, by simp [okp]⟩ | exact ⟨_, _, [], res2 rfl rfl rfl, List.Sublist.refl _, by simp, _, some 1, rfl, by simp [okp]⟩ | exact ⟨_, _, [], res2 rfl rfl rfl, List.Sublist.refl _, by simp, _, none, rfl, by simp [okp]⟩
  ·
    refine XC.skip ?_
    refine nx (kp 0 rfl (kp 1 rfl (kp 2 rfl kn))) ?_
    refine XC.reg ?_
    refine XL.q (q_move rfl) rfl ?_
    refine XL.q (q_bin (v := .bool false) rfl rfl (by rfl)) rfl ?_
    refine XL.q (q_assign rfl) rfl ?_
    refine XL.fin (kp 0 rfl (kp 1 rfl (kp 2 rfl (kp 8 rfl kn)))) ?_
    refine XC.reg ?_
    refine XL.q (q_move rfl) rfl ?_
    refine XL.q (q_assign rfl) rfl ?_
    refine XL.fin (kp 0 rfl (kp 1 rfl (kp 2 rfl (kp 8 rfl (kp 9 rfl kn))))) ?_
    refine XC.seq ?_
    refine XC.block ?_
    refine XC.reg ?_
    refine XL.q (q_move rfl) rfl ?_
    refine XL.q (q_bin (v := .bool true) rfl rfl (by rfl)) rfl ?_
    refine XL.q (q_move rfl) rfl ?_
    refine XL.gy rfl rfl (OpQ.opL (q_move rfl) rfl ?_)
    refine XL.gy rfl rfl (OpQ.opL (q_bin (v := .bool true) rfl rfl (by rfl)) rfl ?_)
    refine XL.q (q_pickT rfl rfl) rfl ?_
    refine XL.q (q_assign rfl) rfl ?_
    refine XL.fin (kp 0 rfl (kp 1 rfl (kp 2 rfl (kp 8 rfl (kp 9 rfl (kp 25 rfl kn)))))) ?_
    refine XC.cond rfl (fun hc => ?_) (fun hc => ?_)
    ·
      refine XC.skip ?_
      refine nb ?_
      refine nx (kp 0 rfl (kp 1 rfl (kp 2 rfl (kp 8 rfl (kp 9 rfl kn))))) ?_
      refine XC.seq ?_
      refine XC.reg ?_
      refine XL.q (q_move rfl) rfl ?_
      refine XL.q (q_bin (v := .bool true) rfl rfl (by rfl)) rfl ?_
      refine XL.fin (kp 0 rfl (kp 1 rfl (kp 2 rfl (kp 8 rfl (kp 9 rfl (kp 77 rfl kn)))))) ?_
      refine XC.condT rfl ?_
      refine XC.reg1 ?_
      refine XL.q (q_assign rfl) rfl ?_
      refine XL.fin (kp 0 rfl (kp 1 rfl (kp 2 rfl (kp 8 rfl (kp 9 rfl kn))))) ?_
      refine XC.reg ?_
      refine XL.q (q_assign rfl) rfl ?_
      refine XL.fin (kp 0 rfl (kp 1 rfl (kp 2 rfl (kp 8 rfl (kp 9 rfl kn))))) ?_
      refine XC.seq ?_
      refine XC.reg ?_
      refine XL.q (q_move rfl) rfl ?_
      refine XL.fin (kp 0 rfl (kp 1 rfl (kp 2 rfl (kp 8 rfl (kp 9 rfl (kp 85 rfl kn)))))) ?_
      refine XC.block ?_
      refine XC.reg ?_
      refine XL.q (q_bin (v := .bool true) rfl rfl (by rfl)) rfl ?_
      refine XL.q (q_assign rfl) rfl ?_
      refine XL.fin (kp 0 rfl (kp 1 rfl (kp 2 rfl (kp 8 rfl (kp 9 rfl (kp 85 rfl (kp 90 rfl kn))))))) ?_
      refine XC.cond rfl (fun hc => ?_) (fun hc => ?_)
      ·
        refine XC.reg1 ?_
        refine XL.q (q_assign rfl) rfl ?_
        refine XL.nil ?_
        refine nb ?_
        refine nx (kp 0 rfl (kp 1 rfl (kp 2 rfl (kp 8 rfl (kp 9 rfl (kp 10 rfl kn)))))) ?_
        refine XC.reg ?_
        refine XL.q (q_move rfl) rfl ?_
        refine XL.q (q_conv (k' := .u64) rfl (by kernel_rfl)) rfl ?_
        refine XL.q (q_shl rfl rfl (by decide)) rfl ?_
        refine XL.q (q_bin (v := .int .u64 18446744073709551615) rfl rfl (by rfl)) rfl ?_
        refine XL.q (q_assign rfl) rfl ?_
        refine XL.fin (kp 0 rfl (kp 1 rfl (kp 8 rfl (kp 9 rfl (kp 10 rfl (kp 11 rfl kn)))))) ?_
        refine XC.reg ?_
        refine XL.q (q_assign rfl) rfl ?_
        refine XL.fin (kp 0 rfl (kp 1 rfl (kp 8 rfl (kp 9 rfl (kp 10 rfl (kp 11 rfl (kp 12 rfl kn))))))) ?_
        refine XC.reg ?_
        refine XL.q (q_assign rfl) rfl ?_
        refine XL.fin (kp 0 rfl (kp 1 rfl (kp 8 rfl (kp 9 rfl (kp 10 rfl (kp 11 rfl (kp 12 rfl (kp 13 rfl kn)))))))) ?_
        refine XC.seq ?_
        refine XC.reg ?_
        refine XL.q (q_move rfl) rfl ?_
        refine XL.lo rfl (l_toBytes (e := 5) rfl rfl B256.lt (by kernel_rfl) (by kernel_rfl) (by kernel_rfl) rfl fun v99 B99 hs99 => ?_)
        refine XL.q (q_lenV2 (sz := 1) rfl (by kernel_rfl) (by first | assumption | exact Sl.rd (by assumption) (fun _ h => h))) rfl ?_
        refine XL.q (q_move rfl) rfl ?_
        refine XL.fin (kp 1 rfl (kp 8 rfl (kp 9 rfl (kp 10 rfl (kp 11 rfl (kp 12 rfl (kp 13 rfl (kp 99 rfl (kp 100 rfl (kp 101 rfl kn)))))))))) ?_
        refine XC.block ?_
        refine XC.loop (α := Int × Nat) (fun s => [(1, .int .i64 10), (8, .bool false), (9, .string (txt ws)), (10, .int .u64 1844674407370955162), (11, .int .u64 18446744073709551615), (12, .bool false), (13, .int .u64 s.1), (99, v99), (100, .int .i64 ((ws.length : Nat) : Int)), (101, .int .i64 (s.2 : Int))]) (fun _ => B99) (fun _ => []) (fun s => s.2 ≤ ws.length) (fun s => ws.length - s.2) ⟨0, 0⟩ (Nat.zero_le _) (kp 1 rfl (kp 8 rfl (kp 9 rfl (kp 10 rfl (kp 11 rfl (kp 12 rfl (kp 13 rfl (kp 99 rfl (kp 100 rfl (kp 101 rfl kn)))))))))) (Fit.eq (by simp)) (fun _ h => h) ?_
        rintro ⟨n, i⟩ hi
        dsimp only at hi ⊢
        haveI := hs99.cel
        refine XC.reg ?_
        refine XL.q (q_bin rfl rfl rfl) rfl ?_
        refine XL.fin (kp 1 rfl (kp 8 rfl (kp 9 rfl (kp 10 rfl (kp 11 rfl (kp 12 rfl (kp 13 rfl (kp 99 rfl (kp 100 rfl (kp 101 rfl (kp 102 rfl kn))))))))))) ?_
        refine XC.seq ?_
        refine XC.cond rfl (fun hc => ?_) (fun hc => ?_)
        ·
          have hlt : i < ws.length := by simp at hc; omega
          have hc256 : ws.getD i 0 < 256 := by rw [List.getD_eq_getElem?_getD, List.getElem?_eq_getElem hlt]; exact hw.lt _ (List.getElem_mem hlt)
          refine XC.skip ?_
          refine nx (kp 1 rfl (kp 8 rfl (kp 9 rfl (kp 10 rfl (kp 11 rfl (kp 12 rfl (kp 13 rfl (kp 99 rfl (kp 100 rfl (kp 101 rfl kn)))))))))) ?_
          refine XC.seq ?_
          refine XC.block ?_
          refine XC.reg ?_
          refine XL.q (q_atV2 (sz := 1) rfl rfl (by kernel_rfl) rfl (by first | assumption | exact Sl.rd (by assumption) (fun _ h => h)) (by omega)) rfl ?_
          refine XL.q (q_ldVN2 (k := .u8) rfl (by kernel_rfl) (by first | exact Rd.mono (by assumption) SubC.sub | exact Sl.rd (by assumption) SubC.sub) (by omega)) rfl ?_
          refine XL.q (q_assign rfl) rfl ?_
          refine XL.fin (kp 1 rfl (kp 8 rfl (kp 9 rfl (kp 10 rfl (kp 11 rfl (kp 12 rfl (kp 13 rfl (kp 15 rfl (kp 99 rfl (kp 100 rfl (kp 101 rfl kn))))))))))) ?_
          refine XC.reg ?_
          refine XL.q (q_assign rfl) rfl ?_
          refine XL.fin (kp 1 rfl (kp 8 rfl (kp 9 rfl (kp 10 rfl (kp 11 rfl (kp 12 rfl (kp 13 rfl (kp 15 rfl (kp 99 rfl (kp 100 rfl (kp 101 rfl kn))))))))))) ?_
          refine XC.join (α := Int) (fun s => [(1, .int .i64 10), (8, .bool false), (9, .string (txt ws)), (10, .int .u64 1844674407370955162), (11, .int .u64 18446744073709551615), (12, .bool false), (13, .int .u64 n), (99, v99), (100, .int .i64 ((ws.length : Nat) : Int)), (101, .int .i64 (i : Int)), (16, .int .u8 s)]) (fun _ => B99) (fun _ => []) (fun _ => True) ?_ ?_
          ·
            refine XC.block ?_
            refine XC.reg ?_
            refine XL.q (q_move rfl) rfl ?_
            refine XL.q (q_bin rfl rfl rfl) rfl ?_
            refine XL.q (q_move rfl) rfl ?_
            refine XL.split (t := 109) rfl (fun hb => ?_) (fun hb => ?_)
            ·
              refine XL.gy rfl rfl (OpQ.opL (q_move rfl) rfl ?_)
              refine XL.q (q_pickT rfl rfl) rfl ?_
              refine XL.q (q_assign rfl) rfl ?_
              refine XL.fin (kp 1 rfl (kp 8 rfl (kp 9 rfl (kp 10 rfl (kp 11 rfl (kp 12 rfl (kp 13 rfl (kp 15 rfl (kp 99 rfl (kp 100 rfl (kp 101 rfl (kp 106 rfl kn)))))))))))) ?_
              refine XC.cond rfl (fun hc => ?_) (fun hc => ?_)
              ·
                cases hc
              ·
                refine XC.reg ?_
                refine XL.q (q_move rfl) rfl ?_
                refine XL.q (q_bin rfl rfl rfl) rfl ?_
                refine XL.q (q_move rfl) rfl ?_
                refine XL.split (t := 115) rfl (fun hb => ?_) (fun hb => ?_)
                ·
                  refine XL.gy rfl rfl (OpQ.opL (q_move rfl) rfl ?_)
                  refine XL.gy rfl rfl (OpQ.opL (q_bin rfl rfl rfl) rfl ?_)
                  refine XL.q (q_pickT rfl rfl) rfl ?_
                  refine XL.q (q_assign rfl) rfl ?_
                  refine XL.fin (kp 1 rfl (kp 8 rfl (kp 9 rfl (kp 10 rfl (kp 11 rfl (kp 12 rfl (kp 13 rfl (kp 15 rfl (kp 99 rfl (kp 100 rfl (kp 101 rfl (kp 112 rfl kn)))))))))))) ?_
                  refine XC.cond rfl (fun hc => ?_) (fun hc => ?_)
                  ·
                    refine XC.reg1 ?_
                    refine XL.q (q_move rfl) rfl ?_
                    refine XL.q (q_bin rfl rfl rfl) rfl ?_
                    refine XL.q (q_assign rfl) rfl ?_
                    refine XL.nil ?_
                    refine nb ?_
                    exact jn (_) trivial ((kp 1 rfl (kp 8 rfl (kp 9 rfl (kp 10 rfl (kp 11 rfl (kp 12 rfl (kp 13 rfl (kp 99 rfl (kp 100 rfl (kp 101 rfl (kp 16 rfl kn)))))))))))) .rfl (fun _ h => h)
                  ·
                    refine XC.reg ?_
                    refine XL.q (q_move rfl) rfl ?_
                    refine XL.call (aS rfl a0) (by kernel_rfl) (lower_spec _ hc256 _) rfl ?_
                    rintro v123 M123 J123 ⟨rfl, rfl, n123, rfl⟩
                    refine XL.q (q_bin rfl rfl rfl) rfl ?_
                    refine XL.q (q_move rfl) rfl ?_
                    refine XL.split (t := 125) rfl (fun hb => ?_) (fun hb => ?_)
                    ·
                      refine XL.gy rfl rfl (OpQ.opL (q_move rfl) rfl ?_)
                      refine XL.callg rfl rfl (aS rfl a0) (by kernel_rfl) (lower_spec _ hc256 _) rfl ?_
                      rintro v127 M127 J127 ⟨rfl, rfl, n127, rfl⟩
                      refine XL.gy rfl rfl (OpQ.opL (q_bin rfl rfl rfl) rfl ?_)
                      refine XL.q (q_pickT rfl rfl) rfl ?_
                      refine XL.q (q_assign rfl) rfl ?_
                      refine XL.fin (kp 1 rfl (kp 8 rfl (kp 9 rfl (kp 10 rfl (kp 11 rfl (kp 12 rfl (kp 13 rfl (kp 15 rfl (kp 99 rfl (kp 100 rfl (kp 101 rfl (kp 121 rfl kn)))))))))))) ?_
                      refine XC.cond rfl (fun hc => ?_) (fun hc => ?_)
                      ·
                        refine XC.reg1 ?_
                        refine XL.q (q_move rfl) rfl ?_
                        refine XL.call (aS rfl a0) (by kernel_rfl) (lower_spec _ hc256 _) rfl ?_
                        rintro v131 M131 J131 ⟨rfl, rfl, n131, rfl⟩
                        refine XL.q (q_bin rfl rfl rfl) rfl ?_
                        refine XL.q (q_bin rfl rfl rfl) rfl ?_
                        refine XL.q (q_assign rfl) rfl ?_
                        refine XL.nil ?_
                        refine nb ?_
                        exact jn (_) trivial ((kp 1 rfl (kp 8 rfl (kp 9 rfl (kp 10 rfl (kp 11 rfl (kp 12 rfl (kp 13 rfl (kp 99 rfl (kp 100 rfl (kp 101 rfl (kp 16 rfl kn)))))))))))) .rfl (fun _ h => h)
                      ·
                        refine XC.reg ?_
                        refine XL.q (q_mkIf rfl (by kernel_rfl)) rfl ?_
                        refine XL.q (q_assign rfl) rfl ?_
                        refine XL.q (q_assign rfl) rfl ?_
                        refine XL.fin (kp 6 rfl (kp 7 rfl kn)) ?_
                        refine XC.ret ?_
                        refine br ?_
                        refine jr ?_
                        refine br ?_
                        refine tr ?_
                        refine rr ?_
                        refine br ?_
                        refine tr ?_
                        first | exact ⟨_, _, [], res2 rfl rfl rfl, List.Sublist.refl _, by simp, _, some 2, rfl, by simp [okp]⟩ | exact ⟨_, _, [], res2 rfl rfl rfl, List.Sublist.refl _, by simp, _, some 1, rfl, by simp [okp]⟩ | exact ⟨_, _, [], res2 rfl rfl rfl, List.Sublist.refl _, by simp, _, none, rfl, by simp [okp]⟩
                    ·
                      refine XL.gn rfl rfl rfl rfl ?_
                      refine XL.gn rfl rfl rfl rfl ?_
                      refine XL.gn rfl rfl rfl rfl ?_
                      refine XL.q (q_pickF rfl rfl) rfl ?_
                      refine XL.q (q_assign rfl) rfl ?_
                      refine XL.fin (kp 1 rfl (kp 8 rfl (kp 9 rfl (kp 10 rfl (kp 11 rfl (kp 12 rfl (kp 13 rfl (kp 15 rfl (kp 99 rfl (kp 100 rfl (kp 101 rfl (kp 121 rfl kn)))))))))))) ?_
                      refine XC.cond rfl (fun hc => ?_) (fun hc => ?_)
                      ·
                        refine XC.reg1 ?_
                        refine XL.q (q_move rfl) rfl ?_
                        refine XL.call (aS rfl a0) (by kernel_rfl) (lower_spec _ hc256 _) rfl ?_
                        rintro v131 M131 J131 ⟨rfl, rfl, n131, rfl⟩
                        refine XL.q (q_bin rfl rfl rfl) rfl ?_
                        refine XL.q (q_bin rfl rfl rfl) rfl ?_
                        refine XL.q (q_assign rfl) rfl ?_
                        refine XL.nil ?_
                        refine nb ?_
                        exact jn (_) trivial ((kp 1 rfl (kp 8 rfl (kp 9 rfl (kp 10 rfl (kp 11 rfl (kp 12 rfl (kp 13 rfl (kp 99 rfl (kp 100 rfl (kp 101 rfl (kp 16 rfl kn)))))))))))) .rfl (fun _ h => h)
                      ·
                        refine XC.reg ?_
                        refine XL.q (q_mkIf rfl (by kernel_rfl)) rfl ?_
                        refine XL.q (q_assign rfl) rfl ?_
                        refine XL.q (q_assign rfl) rfl ?_
                        refine XL.fin (kp 6 rfl (kp 7 rfl kn)) ?_
                        refine XC.ret ?_
                        refine br ?_
                        refine jr ?_
                        refine br ?_
                        refine tr ?_
                        refine rr ?_
                        refine br ?_
                        refine tr ?_
                        first | exact ⟨_, _, [], res2 rfl rfl rfl, List.Sublist.refl _, by simp, _, some 2, rfl, by simp [okp]⟩ | exact ⟨_, _, [], res2 rfl rfl rfl, List.Sublist.refl _, by simp, _, some 1, rfl, by simp [okp]⟩ | exact ⟨_, _, [], res2 rfl rfl rfl, List.Sublist.refl _, by simp, _, none, rfl, by simp [okp]⟩
                ·
                  refine XL.gn rfl rfl rfl rfl ?_
                  refine XL.gn rfl rfl rfl rfl ?_
                  refine XL.q (q_pickF rfl rfl) rfl ?_
                  refine XL.q (q_assign rfl) rfl ?_
                  refine XL.fin (kp 1 rfl (kp 8 rfl (kp 9 rfl (kp 10 rfl (kp 11 rfl (kp 12 rfl (kp 13 rfl (kp 15 rfl (kp 99 rfl (kp 100 rfl (kp 101 rfl (kp 112 rfl kn)))))))))))) ?_
                  refine XC.cond rfl (fun hc => ?_) (fun hc => ?_)
                  ·
                    refine XC.reg1 ?_
                    refine XL.q (q_move rfl) rfl ?_
                    refine XL.q (q_bin rfl rfl rfl) rfl ?_
                    refine XL.q (q_assign rfl) rfl ?_
                    refine XL.nil ?_
                    refine nb ?_
                    exact jn (_) trivial ((kp 1 rfl (kp 8 rfl (kp 9 rfl (kp 10 rfl (kp 11 rfl (kp 12 rfl (kp 13 rfl (kp 99 rfl (kp 100 rfl (kp 101 rfl (kp 16 rfl kn)))))))))))) .rfl (fun _ h => h)
                  ·
                    refine XC.reg ?_
                    refine XL.q (q_move rfl) rfl ?_
                    refine XL.call (aS rfl a0) (by kernel_rfl) (lower_spec _ hc256 _) rfl ?_
                    rintro v123 M123 J123 ⟨rfl, rfl, n123, rfl⟩
                    refine XL.q (q_bin rfl rfl rfl) rfl ?_
                    refine XL.q (q_move rfl) rfl ?_
                    refine XL.split (t := 125) rfl (fun hb => ?_) (fun hb => ?_)
                    ·
                      refine XL.gy rfl rfl (OpQ.opL (q_move rfl) rfl ?_)
                      refine XL.callg rfl rfl (aS rfl a0) (by kernel_rfl) (lower_spec _ hc256 _) rfl ?_
                      rintro v127 M127 J127 ⟨rfl, rfl, n127, rfl⟩
                      refine XL.gy rfl rfl (OpQ.opL (q_bin rfl rfl rfl) rfl ?_)
                      refine XL.q (q_pickT rfl rfl) rfl ?_
                      refine XL.q (q_assign rfl) rfl ?_
                      refine XL.fin (kp 1 rfl (kp 8 rfl (kp 9 rfl (kp 10 rfl (kp 11 rfl (kp 12 rfl (kp 13 rfl (kp 15 rfl (kp 99 rfl (kp 100 rfl (kp 101 rfl (kp 121 rfl kn)))))))))))) ?_
                      refine XC.cond rfl (fun hc => ?_) (fun hc => ?_)
                      ·
                        refine XC.reg1 ?_
                        refine XL.q (q_move rfl) rfl ?_
                        refine XL.call (aS rfl a0) (by kernel_rfl) (lower_spec _ hc256 _) rfl ?_
                        rintro v131 M131 J131 ⟨rfl, rfl, n131, rfl⟩
                        refine XL.q (q_bin rfl rfl rfl) rfl ?_
                        refine XL.q (q_bin rfl rfl rfl) rfl ?_
                        refine XL.q (q_assign rfl) rfl ?_
                        refine XL.nil ?_
                        refine nb ?_
                        exact jn (_) trivial ((kp 1 rfl (kp 8 rfl (kp 9 rfl (kp 10 rfl (kp 11 rfl (kp 12 rfl (kp 13 rfl (kp 99 rfl (kp 100 rfl (kp 101 rfl (kp 16 rfl kn)))))))))))) .rfl (fun _ h => h)
                      ·
                        refine XC.reg ?_
                        refine XL.q (q_mkIf rfl (by kernel_rfl)) rfl ?_
                        refine XL.q (q_assign rfl) rfl ?_
                        refine XL.q (q_assign rfl) rfl ?_
                        refine XL.fin (kp 6 rfl (kp 7 rfl kn)) ?_
                        refine XC.ret ?_
                        refine br ?_
                        refine jr ?_
                        refine br ?_
                        refine tr ?_
                        refine rr ?_
                        refine br ?_
                        refine tr ?_
                        first | exact ⟨_, _, [], res2 rfl rfl rfl, List.Sublist.refl _, by simp, _, some 2, rfl, by simp [okp]⟩ | exact ⟨_, _, [], res2 rfl rfl rfl, List.Sublist.refl _, by simp, _, some 1, rfl, by simp [okp]⟩ | exact ⟨_, _, [], res2 rfl rfl rfl, List.Sublist.refl _, by simp, _, none, rfl, by simp [okp]⟩
                    ·
                      refine XL.gn rfl rfl rfl rfl ?_
                      refine XL.gn rfl rfl rfl rfl ?_
                      refine XL.gn rfl rfl rfl rfl ?_
                      refine XL.q (q_pickF rfl rfl) rfl ?_
                      refine XL.q (q_assign rfl) rfl ?_
                      refine XL.fin (kp 1 rfl (kp 8 rfl (kp 9 rfl (kp 10 rfl (kp 11 rfl (kp 12 rfl (kp 13 rfl (kp 15 rfl (kp 99 rfl (kp 100 rfl (kp 101 rfl (kp 121 rfl kn)))))))))))) ?_
                      refine XC.cond rfl (fun hc => ?_) (fun hc => ?_)
                      ·
                        refine XC.reg1 ?_
                        refine XL.q (q_move rfl) rfl ?_
                        refine XL.call (aS rfl a0) (by kernel_rfl) (lower_spec _ hc256 _) rfl ?_
                        rintro v131 M131 J131 ⟨rfl, rfl, n131, rfl⟩
                        refine XL.q (q_bin rfl rfl rfl) rfl ?_
                        refine XL.q (q_bin rfl rfl rfl) rfl ?_
                        refine XL.q (q_assign rfl) rfl ?_
                        refine XL.nil ?_
                        refine nb ?_
                        exact jn (_) trivial ((kp 1 rfl (kp 8 rfl (kp 9 rfl (kp 10 rfl (kp 11 rfl (kp 12 rfl (kp 13 rfl (kp 99 rfl (kp 100 rfl (kp 101 rfl (kp 16 rfl kn)))))))))))) .rfl (fun _ h => h)
                      ·
                        refine XC.reg ?_
                        refine XL.q (q_mkIf rfl (by kernel_rfl)) rfl ?_
                        refine XL.q (q_assign rfl) rfl ?_
                        refine XL.q (q_assign rfl) rfl ?_
                        refine XL.fin (kp 6 rfl (kp 7 rfl kn)) ?_
                        refine XC.ret ?_
                        refine br ?_
                        refine jr ?_
                        refine br ?_
                        refine tr ?_
                        refine rr ?_
                        refine br ?_
                        refine tr ?_
                        first | exact ⟨_, _, [], res2 rfl rfl rfl, List.Sublist.refl _, by simp, _, some 2, rfl, by simp [okp]⟩ | exact ⟨_, _, [], res2 rfl rfl rfl, List.Sublist.refl _, by simp, _, some 1, rfl, by simp [okp]⟩ | exact ⟨_, _, [], res2 rfl rfl rfl, List.Sublist.refl _, by simp, _, none, rfl, by simp [okp]⟩
            ·
              refine XL.gn rfl rfl rfl rfl ?_
              refine XL.q (q_pickF rfl rfl) rfl ?_
              refine XL.q (q_assign rfl) rfl ?_
              refine XL.fin (kp 1 rfl (kp 8 rfl (kp 9 rfl (kp 10 rfl (kp 11 rfl (kp 12 rfl (kp 13 rfl (kp 15 rfl (kp 99 rfl (kp 100 rfl (kp 101 rfl (kp 106 rfl kn)))))))))))) ?_
              refine XC.cond rfl (fun hc => ?_) (fun hc => ?_)
              ·
                cases hc
              ·
                refine XC.reg ?_
                refine XL.q (q_move rfl) rfl ?_
                refine XL.q (q_bin rfl rfl rfl) rfl ?_
                refine XL.q (q_move rfl) rfl ?_
                refine XL.split (t := 115) rfl (fun hb => ?_) (fun hb => ?_)
                ·
                  refine XL.gy rfl rfl (OpQ.opL (q_move rfl) rfl ?_)
                  refine XL.gy rfl rfl (OpQ.opL (q_bin rfl rfl rfl) rfl ?_)
                  refine XL.q (q_pickT rfl rfl) rfl ?_
                  refine XL.q (q_assign rfl) rfl ?_
                  refine XL.fin (kp 1 rfl (kp 8 rfl (kp 9 rfl (kp 10 rfl (kp 11 rfl (kp 12 rfl (kp 13 rfl (kp 15 rfl (kp 99 rfl (kp 100 rfl (kp 101 rfl (kp 112 rfl kn)))))))))))) ?_
                  refine XC.cond rfl (fun hc => ?_) (fun hc => ?_)
                  ·
                    refine XC.reg1 ?_
                    refine XL.q (q_move rfl) rfl ?_
                    refine XL.q (q_bin rfl rfl rfl) rfl ?_
                    refine XL.q (q_assign rfl) rfl ?_
                    refine XL.nil ?_
                    refine nb ?_
                    exact jn (_) trivial ((kp 1 rfl (kp 8 rfl (kp 9 rfl (kp 10 rfl (kp 11 rfl (kp 12 rfl (kp 13 rfl (kp 99 rfl (kp 100 rfl (kp 101 rfl (kp 16 rfl kn)))))))))))) .rfl (fun _ h => h)
                  ·
                    refine XC.reg ?_
                    refine XL.q (q_move rfl) rfl ?_
                    refine XL.call (aS rfl a0) (by kernel_rfl) (lower_spec _ hc256 _) rfl ?_
                    rintro v123 M123 J123 ⟨rfl, rfl, n123, rfl⟩
                    refine XL.q (q_bin rfl rfl rfl) rfl ?_
                    refine XL.q (q_move rfl) rfl ?_
                    refine XL.split (t := 125) rfl (fun hb => ?_) (fun hb => ?_)
                    ·
                      refine XL.gy rfl rfl (OpQ.opL (q_move rfl) rfl ?_)
                      refine XL.callg rfl rfl (aS rfl a0) (by kernel_rfl) (lower_spec _ hc256 _) rfl ?_
                      rintro v127 M127 J127 ⟨rfl, rfl, n127, rfl⟩
                      refine XL.gy rfl rfl (OpQ.opL (q_bin rfl rfl rfl) rfl ?_)
                      refine XL.q (q_pickT rfl rfl) rfl ?_
                      refine XL.q (q_assign rfl) rfl ?_
                      refine XL.fin (kp 1 rfl (kp 8 rfl (kp 9 rfl (kp 10 rfl (kp 11 rfl (kp 12 rfl (kp 13 rfl (kp 15 rfl (kp 99 rfl (kp 100 rfl (kp 101 rfl (kp 121 rfl kn)))))))))))) ?_
                      refine XC.cond rfl (fun hc => ?_) (fun hc => ?_)
                      ·
                        refine XC.reg1 ?_
                        refine XL.q (q_move rfl) rfl ?_
                        refine XL.call (aS rfl a0) (by kernel_rfl) (lower_spec _ hc256 _) rfl ?_
                        rintro v131 M131 J131 ⟨rfl, rfl, n131, rfl⟩
                        refine XL.q (q_bin rfl rfl rfl) rfl ?_
                        refine XL.q (q_bin rfl rfl rfl) rfl ?_
                        refine XL.q (q_assign rfl) rfl ?_
                        refine XL.nil ?_
                        refine nb ?_
                        exact jn (_) trivial ((kp 1 rfl (kp 8 rfl (kp 9 rfl (kp 10 rfl (kp 11 rfl (kp 12 rfl (kp 13 rfl (kp 99 rfl (kp 100 rfl (kp 101 rfl (kp 16 rfl kn)))))))))))) .rfl (fun _ h => h)
                      ·
                        refine XC.reg ?_
                        refine XL.q (q_mkIf rfl (by kernel_rfl)) rfl ?_
                        refine XL.q (q_assign rfl) rfl ?_
                        refine XL.q (q_assign rfl) rfl ?_
                        refine XL.fin (kp 6 rfl (kp 7 rfl kn)) ?_
                        refine XC.ret ?_
                        refine br ?_
                        refine jr ?_
                        refine br ?_
                        refine tr ?_
                        refine rr ?_
                        refine br ?_
                        refine tr ?_
                        first | exact ⟨_, _, [], res2 rfl rfl rfl, List.Sublist.refl _, by simp, _, some 2, rfl, by simp [okp]⟩ | exact ⟨_, _, [], res2 rfl rfl rfl, List.Sublist.refl _, by simp, _, some 1, rfl, by simp [okp]⟩ | exact ⟨_, _, [], res2 rfl rfl rfl, List.Sublist.refl _, by simp, _, none, rfl, by simp [okp]⟩
                    ·
                      refine XL.gn rfl rfl rfl rfl ?_
                      refine XL.gn rfl rfl rfl rfl ?_
                      refine XL.gn rfl rfl rfl rfl ?_
                      refine XL.q (q_pickF rfl rfl) rfl ?_
                      refine XL.q (q_assign rfl) rfl ?_
                      refine XL.fin (kp 1 rfl (kp 8 rfl (kp 9 rfl (kp 10 rfl (kp 11 rfl (kp 12 rfl (kp 13 rfl (kp 15 rfl (kp 99 rfl (kp 100 rfl (kp 101 rfl (kp 121 rfl kn)))))))))))) ?_
                      refine XC.cond rfl (fun hc => ?_) (fun hc => ?_)
                      ·
                        refine XC.reg1 ?_
                        refine XL.q (q_move rfl) rfl ?_
                        refine XL.call (aS rfl a0) (by kernel_rfl) (lower_spec _ hc256 _) rfl ?_
                        rintro v131 M131 J131 ⟨rfl, rfl, n131, rfl⟩
                        refine XL.q (q_bin rfl rfl rfl) rfl ?_
                        refine XL.q (q_bin rfl rfl rfl) rfl ?_
                        refine XL.q (q_assign rfl) rfl ?_
                        refine XL.nil ?_
                        refine nb ?_
                        exact jn (_) trivial ((kp 1 rfl (kp 8 rfl (kp 9 rfl (kp 10 rfl (kp 11 rfl (kp 12 rfl (kp 13 rfl (kp 99 rfl (kp 100 rfl (kp 101 rfl (kp 16 rfl kn)))))))))))) .rfl (fun _ h => h)
                      ·
                        refine XC.reg ?_
                        refine XL.q (q_mkIf rfl (by kernel_rfl)) rfl ?_
                        refine XL.q (q_assign rfl) rfl ?_
                        refine XL.q (q_assign rfl) rfl ?_
                        refine XL.fin (kp 6 rfl (kp 7 rfl kn)) ?_
                        refine XC.ret ?_
                        refine br ?_
                        refine jr ?_
                        refine br ?_
                        refine tr ?_
                        refine rr ?_
                        refine br ?_
                        refine tr ?_
                        first | exact ⟨_, _, [], res2 rfl rfl rfl, List.Sublist.refl _, by simp, _, some 2, rfl, by simp [okp]⟩ | exact ⟨_, _, [], res2 rfl rfl rfl, List.Sublist.refl _, by simp, _, some 1, rfl, by simp [okp]⟩ | exact ⟨_, _, [], res2 rfl rfl rfl, List.Sublist.refl _, by simp, _, none, rfl, by simp [okp]⟩
                ·
                  refine XL.gn rfl rfl rfl rfl ?_
                  refine XL.gn rfl rfl rfl rfl ?_
                  refine XL.q (q_pickF rfl rfl) rfl ?_
                  refine XL.q (q_assign rfl) rfl ?_
                  refine XL.fin (kp 1 rfl (kp 8 rfl (kp 9 rfl (kp 10 rfl (kp 11 rfl (kp 12 rfl (kp 13 rfl (kp 15 rfl (kp 99 rfl (kp 100 rfl (kp 101 rfl (kp 112 rfl kn)))))))))))) ?_
                  refine XC.cond rfl (fun hc => ?_) (fun hc => ?_)
                  ·
                    refine XC.reg1 ?_
                    refine XL.q (q_move rfl) rfl ?_
                    refine XL.q (q_bin rfl rfl rfl) rfl ?_
                    refine XL.q (q_assign rfl) rfl ?_
                    refine XL.nil ?_
                    refine nb ?_
                    exact jn (_) trivial ((kp 1 rfl (kp 8 rfl (kp 9 rfl (kp 10 rfl (kp 11 rfl (kp 12 rfl (kp 13 rfl (kp 99 rfl (kp 100 rfl (kp 101 rfl (kp 16 rfl kn)))))))))))) .rfl (fun _ h => h)
                  ·
                    refine XC.reg ?_
                    refine XL.q (q_move rfl) rfl ?_
                    refine XL.call (aS rfl a0) (by kernel_rfl) (lower_spec _ hc256 _) rfl ?_
                    rintro v123 M123 J123 ⟨rfl, rfl, n123, rfl⟩
                    refine XL.q (q_bin rfl rfl rfl) rfl ?_
                    refine XL.q (q_move rfl) rfl ?_
                    refine XL.split (t := 125) rfl (fun hb => ?_) (fun hb => ?_)
                    ·
                      refine XL.gy rfl rfl (OpQ.opL (q_move rfl) rfl ?_)
                      refine XL.callg rfl rfl (aS rfl a0) (by kernel_rfl) (lower_spec _ hc256 _) rfl ?_
                      rintro v127 M127 J127 ⟨rfl, rfl, n127, rfl⟩
                      refine XL.gy rfl rfl (OpQ.opL (q_bin rfl rfl rfl) rfl ?_)
                      refine XL.q (q_pickT rfl rfl) rfl ?_
                      refine XL.q (q_assign rfl) rfl ?_
                      refine XL.fin (kp 1 rfl (kp 8 rfl (kp 9 rfl (kp 10 rfl (kp 11 rfl (kp 12 rfl (kp 13 rfl (kp 15 rfl (kp 99 rfl (kp 100 rfl (kp 101 rfl (kp 121 rfl kn)))))))))))) ?_
                      refine XC.cond rfl (fun hc => ?_) (fun hc => ?_)
                      ·
                        refine XC.reg1 ?_
                        refine XL.q (q_move rfl) rfl ?_
                        refine XL.call (aS rfl a0) (by kernel_rfl) (lower_spec _ hc256 _) rfl ?_
                        rintro v131 M131 J131 ⟨rfl, rfl, n131, rfl⟩
                        refine XL.q (q_bin rfl rfl rfl) rfl ?_
                        refine XL.q (q_bin rfl rfl rfl) rfl ?_
                        refine XL.q (q_assign rfl) rfl ?_
                        refine XL.nil ?_
                        refine nb ?_
                        exact jn (_) trivial ((kp 1 rfl (kp 8 rfl (kp 9 rfl (kp 10 rfl (kp 11 rfl (kp 12 rfl (kp 13 rfl (kp 99 rfl (kp 100 rfl (kp 101 rfl (kp 16 rfl kn)))))))))))) .rfl (fun _ h => h)
                      ·
                        refine XC.reg ?_
                        refine XL.q (q_mkIf rfl (by kernel_rfl)) rfl ?_
                        refine XL.q (q_assign rfl) rfl ?_
                        refine XL.q (q_assign rfl) rfl ?_
                        refine XL.fin (kp 6 rfl (kp 7 rfl kn)) ?_
                        refine XC.ret ?_
                        refine br ?_
                        refine jr ?_
                        refine br ?_
                        refine tr ?_
                        refine rr ?_
                        refine br ?_
                        refine tr ?_
                        first | exact ⟨_, _, [], res2 rfl rfl rfl, List.Sublist.refl _, by simp, _, some 2, rfl, by simp [okp]⟩ | exact ⟨_, _, [], res2 rfl rfl rfl, List.Sublist.refl _, by simp, _, some 1, rfl, by simp [okp]⟩ | exact ⟨_, _, [], res2 rfl rfl rfl, List.Sublist.refl _, by simp, _, none, rfl, by simp [okp]⟩
                    ·
                      refine XL.gn rfl rfl rfl rfl ?_
                      refine XL.gn rfl rfl rfl rfl ?_
                      refine XL.gn rfl rfl rfl rfl ?_
                      refine XL.q (q_pickF rfl rfl) rfl ?_
                      refine XL.q (q_assign rfl) rfl ?_
                      refine XL.fin (kp 1 rfl (kp 8 rfl (kp 9 rfl (kp 10 rfl (kp 11 rfl (kp 12 rfl (kp 13 rfl (kp 15 rfl (kp 99 rfl (kp 100 rfl (kp 101 rfl (kp 121 rfl kn)))))))))))) ?_
                      refine XC.cond rfl (fun hc => ?_) (fun hc => ?_)
                      ·
                        refine XC.reg1 ?_
                        refine XL.q (q_move rfl) rfl ?_
                        refine XL.call (aS rfl a0) (by kernel_rfl) (lower_spec _ hc256 _) rfl ?_
                        rintro v131 M131 J131 ⟨rfl, rfl, n131, rfl⟩
                        refine XL.q (q_bin rfl rfl rfl) rfl ?_
                        refine XL.q (q_bin rfl rfl rfl) rfl ?_
                        refine XL.q (q_assign rfl) rfl ?_
                        refine XL.nil ?_
                        refine nb ?_
                        exact jn (_) trivial ((kp 1 rfl (kp 8 rfl (kp 9 rfl (kp 10 rfl (kp 11 rfl (kp 12 rfl (kp 13 rfl (kp 99 rfl (kp 100 rfl (kp 101 rfl (kp 16 rfl kn)))))))))))) .rfl (fun _ h => h)
                      ·
                        refine XC.reg ?_
                        refine XL.q (q_mkIf rfl (by kernel_rfl)) rfl ?_
                        refine XL.q (q_assign rfl) rfl ?_
                        refine XL.q (q_assign rfl) rfl ?_
                        refine XL.fin (kp 6 rfl (kp 7 rfl kn)) ?_
                        refine XC.ret ?_
                        refine br ?_
                        refine jr ?_
                        refine br ?_
                        refine tr ?_
                        refine rr ?_
                        refine br ?_
                        refine tr ?_
                        first | exact ⟨_, _, [], res2 rfl rfl rfl, List.Sublist.refl _, by simp, _, some 2, rfl, by simp [okp]⟩ | exact ⟨_, _, [], res2 rfl rfl rfl, List.Sublist.refl _, by simp, _, some 1, rfl, by simp [okp]⟩ | exact ⟨_, _, [], res2 rfl rfl rfl, List.Sublist.refl _, by simp, _, none, rfl, by simp [okp]⟩
          ·
            rintro dd _
            refine XC.seq ?_
            refine XC.reg ?_
            refine XL.q (q_move rfl) rfl ?_
            refine XL.q (q_move rfl) rfl ?_
            refine XL.q (q_conv (k' := .u8) rfl (by kernel_rfl)) rfl ?_
            refine XL.q (q_bin rfl rfl rfl) rfl ?_
            refine XL.fin (kp 1 rfl (kp 8 rfl (kp 9 rfl (kp 10 rfl (kp 11 rfl (kp 12 rfl (kp 13 rfl (kp 16 rfl (kp 99 rfl (kp 100 rfl (kp 101 rfl (kp 137 rfl kn)))))))))))) ?_
            refine XC.cond rfl (fun hc => ?_) (fun hc => ?_)
            ·
              refine XC.reg ?_
              refine XL.q (q_mkIf rfl (by kernel_rfl)) rfl ?_
              refine XL.q (q_assign rfl) rfl ?_
              refine XL.q (q_assign rfl) rfl ?_
              refine XL.fin (kp 6 rfl (kp 7 rfl kn)) ?_
              refine XC.ret ?_
              refine tr ?_
              refine br ?_
              refine tr ?_
              refine rr ?_
              refine br ?_
              refine tr ?_
              first | exact ⟨_, _, [], res2 rfl rfl rfl, List.Sublist.refl _, by simp, _, some 2, rfl, by simp [okp]⟩ | exact ⟨_, _, [], res2 rfl rfl rfl, List.Sublist.refl _, by simp, _, some 1, rfl, by simp [okp]⟩ | exact ⟨_, _, [], res2 rfl rfl rfl, List.Sublist.refl _, by simp, _, none, rfl, by simp [okp]⟩
            ·
              refine XC.skip ?_
              refine nx (kp 1 rfl (kp 8 rfl (kp 9 rfl (kp 10 rfl (kp 11 rfl (kp 12 rfl (kp 13 rfl (kp 16 rfl (kp 99 rfl (kp 100 rfl (kp 101 rfl kn))))))))))) ?_
              refine XC.seq ?_
              refine XC.reg ?_
              refine XL.q (q_move rfl) rfl ?_
              refine XL.q (q_move rfl) rfl ?_
              refine XL.q (q_bin rfl rfl rfl) rfl ?_
              refine XL.fin (kp 1 rfl (kp 8 rfl (kp 9 rfl (kp 10 rfl (kp 11 rfl (kp 12 rfl (kp 13 rfl (kp 16 rfl (kp 99 rfl (kp 100 rfl (kp 101 rfl (kp 141 rfl kn)))))))))))) ?_
              refine XC.cond rfl (fun hc => ?_) (fun hc => ?_)
              ·
                refine XC.reg ?_
                refine XL.q (q_move rfl) rfl ?_
                refine XL.q (q_mkIf rfl (by kernel_rfl)) rfl ?_
                refine XL.q (q_assign rfl) rfl ?_
                refine XL.q (q_assign rfl) rfl ?_
                refine XL.fin (kp 6 rfl (kp 7 rfl kn)) ?_
                refine XC.ret ?_
                refine tr ?_
                refine br ?_
                refine tr ?_
                refine rr ?_
                refine br ?_
                refine tr ?_
                first | exact ⟨_, _, [], res2 rfl rfl rfl, List.Sublist.refl _, by simp, _, some 2, rfl, by simp [okp]⟩ | exact ⟨_, _, [], res2 rfl rfl rfl, List.Sublist.refl _, by simp, _, some 1, rfl, by simp [okp]⟩ | exact ⟨_, _, [], res2 rfl rfl rfl, List.Sublist.refl _, by simp, _, none, rfl, by simp [okp]⟩
              ·
                refine XC.skip ?_
                refine nx (kp 1 rfl (kp 8 rfl (kp 9 rfl (kp 10 rfl (kp 11 rfl (kp 12 rfl (kp 13 rfl (kp 16 rfl (kp 99 rfl (kp 100 rfl (kp 101 rfl kn))))))))))) ?_
                refine XC.reg ?_
                refine XL.q (q_move rfl) rfl ?_
                refine XL.q (q_move rfl) rfl ?_
                refine XL.q (q_conv (k' := .u64) rfl (by kernel_rfl)) rfl ?_
                refine XL.q (q_bin rfl rfl rfl) rfl ?_
                refine XL.q (q_assign rfl) rfl ?_
                refine XL.fin (kp 1 rfl (kp 8 rfl (kp 9 rfl (kp 10 rfl (kp 11 rfl (kp 12 rfl (kp 13 rfl (kp 16 rfl (kp 99 rfl (kp 100 rfl (kp 101 rfl kn))))))))))) ?_
                refine XC.reg ?_
                refine XL.q (q_move rfl) rfl ?_
                refine XL.q (q_move rfl) rfl ?_
                refine XL.q (q_conv (k' := .u64) rfl (by kernel_rfl)) rfl ?_
                refine XL.q (q_bin rfl rfl rfl) rfl ?_
                refine XL.q (q_assign rfl) rfl ?_
                refine XL.fin (kp 1 rfl (kp 8 rfl (kp 9 rfl (kp 10 rfl (kp 11 rfl (kp 12 rfl (kp 13 rfl (kp 17 rfl (kp 99 rfl (kp 100 rfl (kp 101 rfl kn))))))))))) ?_
                refine XC.seq ?_
                refine XC.reg ?_
                refine XL.q (q_move rfl) rfl ?_
                refine XL.q (q_move rfl) rfl ?_
                refine XL.q (q_bin rfl rfl rfl) rfl ?_
                refine XL.q (q_move rfl) rfl ?_
                refine XL.split (t := 155) rfl (fun hb => ?_) (fun hb => ?_)
                ·
                  refine XL.gn rfl rfl rfl rfl ?_
                  refine XL.gn rfl rfl rfl rfl ?_
                  refine XL.gn rfl rfl rfl rfl ?_
                  refine XL.q (q_pickT rfl rfl) rfl ?_
                  refine XL.fin (kp 1 rfl (kp 8 rfl (kp 9 rfl (kp 10 rfl (kp 11 rfl (kp 12 rfl (kp 17 rfl (kp 99 rfl (kp 100 rfl (kp 101 rfl (kp 159 rfl kn))))))))))) ?_
                  refine XC.condT rfl ?_
                  refine XC.reg ?_
                  refine XL.q (q_move rfl) rfl ?_
                  refine XL.q (q_mkIf rfl (by kernel_rfl)) rfl ?_
                  refine XL.q (q_assign rfl) rfl ?_
                  refine XL.q (q_assign rfl) rfl ?_
                  refine XL.fin (kp 6 rfl (kp 7 rfl kn)) ?_
                  refine XC.ret ?_
                  refine tr ?_
                  refine br ?_
                  refine tr ?_
                  refine rr ?_
                  refine br ?_
                  refine tr ?_
                  first | exact ⟨_, _, [], res2 rfl rfl rfl, List.Sublist.refl _, by simp, _, some 2, rfl, by simp [okp]⟩ | exact ⟨_, _, [], res2 rfl rfl rfl, List.Sublist.refl _, by simp, _, some 1, rfl, by simp [okp]⟩ | exact ⟨_, _, [], res2 rfl rfl rfl, List.Sublist.refl _, by simp, _, none, rfl, by simp [okp]⟩
                ·
                  refine XL.gy rfl rfl (OpQ.opL (q_move rfl) rfl ?_)
                  refine XL.gy rfl rfl (OpQ.opL (q_move rfl) rfl ?_)
                  refine XL.gy rfl rfl (OpQ.opL (q_bin rfl rfl rfl) rfl ?_)
                  refine XL.q (q_pickF rfl rfl) rfl ?_
                  refine XL.fin (kp 1 rfl (kp 8 rfl (kp 9 rfl (kp 10 rfl (kp 11 rfl (kp 12 rfl (kp 17 rfl (kp 99 rfl (kp 100 rfl (kp 101 rfl (kp 159 rfl kn))))))))))) ?_
                  refine XC.cond rfl (fun hc => ?_) (fun hc => ?_)
                  ·
                    refine XC.reg ?_
                    refine XL.q (q_move rfl) rfl ?_
                    refine XL.q (q_mkIf rfl (by kernel_rfl)) rfl ?_
                    refine XL.q (q_assign rfl) rfl ?_
                    refine XL.q (q_assign rfl) rfl ?_
                    refine XL.fin (kp 6 rfl (kp 7 rfl kn)) ?_
                    refine XC.ret ?_
                    refine tr ?_
                    refine br ?_
                    refine tr ?_
                    refine rr ?_
                    refine br ?_
                    refine tr ?_
                    first | exact ⟨_, _, [], res2 rfl rfl rfl, List.Sublist.refl _, by simp, _, some 2, rfl, by simp [okp]⟩ | exact ⟨_, _, [], res2 rfl rfl rfl, List.Sublist.refl _, by simp, _, some 1, rfl, by simp [okp]⟩ | exact ⟨_, _, [], res2 rfl rfl rfl, List.Sublist.refl _, by simp, _, none, rfl, by simp [okp]⟩
                  ·
                    refine XC.skip ?_
                    refine nx (kp 1 rfl (kp 8 rfl (kp 9 rfl (kp 10 rfl (kp 11 rfl (kp 12 rfl (kp 17 rfl (kp 99 rfl (kp 100 rfl (kp 101 rfl kn)))))))))) ?_
                    refine XC.reg1 ?_
                    refine XL.q (q_move rfl) rfl ?_
                    refine XL.q (q_assign rfl) rfl ?_
                    refine XL.nil ?_
                    refine nb ?_
                    refine nx (kp 1 rfl (kp 8 rfl (kp 9 rfl (kp 10 rfl (kp 11 rfl (kp 12 rfl (kp 13 rfl (kp 99 rfl (kp 100 rfl (kp 101 rfl kn)))))))))) ?_
                    refine XC.reg1 ?_
                    refine XL.q (q_addI (b := 1) rfl rfl rfl rfl (by omega)) rfl ?_
                    refine XL.q (q_move rfl) rfl ?_
                    refine XL.nil ?_
                    exact rn (_, i + 1) (by dsimp only; omega) (by dsimp only; omega) (kp 1 rfl (kp 8 rfl (kp 9 rfl (kp 10 rfl (kp 11 rfl (kp 12 rfl (kp 13 rfl (kp 99 rfl (kp 100 rfl (kp 101 rfl kn)))))))))) .rfl (fun _ h => h)
        ·
          refine XC.exit ?_
          refine te ?_
          refine re ?_
          refine be rfl ?_
          refine nx (kp 9 rfl (kp 12 rfl (kp 13 rfl kn))) ?_
          refine XC.seq ?_
          refine XC.reg ?_
          refine XL.q (q_move rfl) rfl ?_
          refine XL.q (q_move rfl) rfl ?_
          refine XL.gn rfl rfl rfl rfl ?_
          refine XL.gn rfl rfl rfl rfl ?_
          refine XL.gn rfl rfl rfl rfl ?_
          refine XL.q (q_pickF rfl rfl) rfl ?_
          refine XL.fin (kp 13 rfl (kp 169 rfl kn)) ?_
          refine XC.condF rfl ?_
          refine XC.skip ?_
          refine nx (kp 13 rfl kn) ?_
          refine XC.reg ?_
          refine XL.q (q_move rfl) rfl ?_
          refine XL.q (q_assign rfl) rfl ?_
          refine XL.q (q_assign rfl) rfl ?_
          refine XL.fin (kp 6 rfl (kp 7 rfl kn)) ?_
          refine XC.ret ?_
          first | exact ⟨_, _, [], res2 rfl rfl rfl, List.Sublist.refl _, by simp, _, some 2, rfl, by simp [okp]⟩ | exact ⟨_, _, [], res2 rfl rfl rfl, List.Sublist.refl _, by simp, _, some 1, rfl, by simp [okp]⟩ | exact ⟨_, _, [], res2 rfl rfl rfl, List.Sublist.refl _, by simp, _, none, rfl, by simp [okp]⟩
      ·
        cases hc
    ·
      cases hc
