/- The walks of ParseInt, Atoi, of any text: they answer. -/
import Derived.Test.YtibemhcnjdgemaaDoorPrs1
import Derived.Test.YtibemhcnjdgemaaDoorTrm3
set_option linter.unusedVariables false
set_option linter.unusedSimpArgs false
namespace Go.Proofs.YtibemhcnjdgemaaDoor
open Go.Px
theorem wrap_i (x : Int) : i64 (IntKind.i64.wrap x) := by
  unfold IntKind.wrap i64
  simp only [IntKind.signed, IntKind.bits, Bool.true_and]
  have e : (2 : Int) ^ 64 = 18446744073709551616 := by decide
  have e' : (2 : Int) ^ (64 - 1) = 9223372036854775808 := by decide
  simp only [e, e', decide_eq_true_eq]
  split <;> omega
theorem i64_0 : i64 0 := by unfold i64; omega

set_option maxRecDepth 100000 in
theorem parseInt_spec (ws : List Nat) (hw : B256 ws) (hl : ws.length ≤ 1099511627776) (A : Mem) : FnX Tryd.prog 63 [.string (txt ws), .int .i64 10, .int .i64 0] [] A fun r M J => ∃ (n : Int) (p : Option Int), r = .tuple #[.int .i64 n, errV 116 p] ∧ i64 n ∧ okp p := by
  haveI := hw
  refine FnX.enter (N := 73) Tryd.func63 rfl rfl rfl fun w => ?_
  refine XC.keep (kp 0 rfl (kp 1 rfl (kp 2 rfl kn))) ?_
  refine XC.reg ?_
  refine XL.q (q_assign rfl) rfl ?_
  refine XL.q (q_assign rfl) rfl ?_
  refine XL.fin (kp 0 rfl (kp 1 rfl (kp 2 rfl kn))) ?_
  refine XC.seq ?_
  refine XC.reg ?_
  refine XL.q (q_move rfl) rfl ?_
  refine XL.q (q_sEq (ws' := []) rfl rfl rfl (by kernel_rfl) B256.lt (by decide)) rfl ?_
  refine XL.fin (kp 0 rfl (kp 1 rfl (kp 2 rfl (kp 13 rfl kn)))) ?_
  refine XC.cond rfl (fun hc => ?_) (fun hc => ?_)
  ·
    refine XC.reg ?_
    refine XL.q (q_mkIf rfl (by kernel_rfl)) rfl ?_
    refine XL.q (q_assign rfl) rfl ?_
    refine XL.q (q_assign rfl) rfl ?_
    refine XL.fin (kp 6 rfl (kp 7 rfl kn)) ?_
    refine XC.ret ?_
    refine tr ?_
    first | exact ⟨_, _, [], res2 rfl rfl rfl, List.Sublist.refl _, by simp, _, some 1, rfl, i64_0, by first | assumption | simp [okp]⟩ | exact ⟨_, _, [], res2 rfl rfl rfl, List.Sublist.refl _, by simp, _, some 1, rfl, wrap_i _, by first | assumption | simp [okp]⟩ | exact ⟨_, _, [], res2 rfl rfl rfl, List.Sublist.refl _, by simp, _, some 2, rfl, i64_0, by first | assumption | simp [okp]⟩ | exact ⟨_, _, [], res2 rfl rfl rfl, List.Sublist.refl _, by simp, _, some 2, rfl, wrap_i _, by first | assumption | simp [okp]⟩ | exact ⟨_, _, [], res2 rfl rfl rfl, List.Sublist.refl _, by simp, _, none, rfl, i64_0, by first | assumption | simp [okp]⟩ | exact ⟨_, _, [], res2 rfl rfl rfl, List.Sublist.refl _, by simp, _, none, rfl, wrap_i _, by first | assumption | simp [okp]⟩ | exact ⟨_, _, [], res2 rfl rfl rfl, List.Sublist.refl _, by simp, _, p29, rfl, i64_0, by first | assumption | simp [okp]⟩ | exact ⟨_, _, [], res2 rfl rfl rfl, List.Sublist.refl _, by simp, _, p29, rfl, wrap_i _, by first | assumption | simp [okp]⟩
  ·
    have hpos : 0 < ws.length := by cases ws with | nil => simp at hc | cons a l => simp
    refine XC.skip ?_
    refine nx (kp 0 rfl (kp 1 rfl (kp 2 rfl kn))) ?_
    refine XC.reg ?_
    refine XL.q (q_assign rfl) rfl ?_
    refine XL.fin (kp 0 rfl (kp 1 rfl (kp 2 rfl (kp 8 rfl kn)))) ?_
    refine XC.join (α := List Nat × Bool) (fun s => [(0, .string (txt s.1)), (1, .int .i64 10), (2, .int .i64 0), (8, .bool s.2)]) (fun _ => []) (fun _ => []) (fun s => B256 s.1 ∧ s.1.length ≤ 1099511627776) ?_ ?_
    ·
      refine XC.reg ?_
      refine XL.q (q_move rfl) rfl ?_
      refine XL.q (q_sAt (a := 0) rfl rfl B256.lt rfl (by kernel_rfl) rfl (by omega)) rfl ?_
      refine XL.fin (kp 0 rfl (kp 1 rfl (kp 2 rfl (kp 8 rfl (kp 16 rfl kn))))) ?_
      refine XC.block ?_
      refine XC.reg ?_
      refine XL.q (q_bin rfl rfl rfl) rfl ?_
      refine XL.q (q_assign rfl) rfl ?_
      refine XL.fin (kp 0 rfl (kp 1 rfl (kp 2 rfl (kp 8 rfl (kp 16 rfl (kp 17 rfl kn)))))) ?_
      refine XC.cond rfl (fun hc => ?_) (fun hc => ?_)
      ·
        refine XC.reg1 ?_
        refine XL.q (q_move rfl) rfl ?_
        refine XL.q (q_sLo (a := 1) rfl rfl rfl (by kernel_rfl) rfl (by first | omega | (simp only [List.length_append, List.length_cons, List.length_nil, List.length_take, List.length_drop]; omega))) rfl ?_
        refine XL.q (q_assign rfl) rfl ?_
        refine XL.nil ?_
        refine nb ?_
        first | exact jn (_, _) ⟨hw, hl⟩ (kp 0 rfl (kp 1 rfl (kp 2 rfl (kp 8 rfl kn)))) .rfl (fun _ h => h) | exact jn (ws.drop 1, _) ⟨⟨fun x hx => hw.lt x (List.mem_of_mem_drop hx)⟩, by rw [List.length_drop]; omega⟩ (kp 0 rfl (kp 1 rfl (kp 2 rfl (kp 8 rfl kn)))) .rfl (fun _ h => h)
      ·
        refine XC.reg ?_
        refine XL.q (q_bin rfl rfl rfl) rfl ?_
        refine XL.q (q_assign rfl) rfl ?_
        refine XL.fin (kp 0 rfl (kp 1 rfl (kp 2 rfl (kp 8 rfl (kp 21 rfl kn))))) ?_
        refine XC.cond rfl (fun hc => ?_) (fun hc => ?_)
        ·
          refine XC.reg ?_
          refine XL.q (q_move rfl) rfl ?_
          refine XL.q (q_sLo (a := 1) rfl rfl rfl (by kernel_rfl) rfl (by first | omega | (simp only [List.length_append, List.length_cons, List.length_nil, List.length_take, List.length_drop]; omega))) rfl ?_
          refine XL.q (q_assign rfl) rfl ?_
          refine XL.fin (kp 0 rfl (kp 1 rfl (kp 2 rfl kn))) ?_
          refine XC.reg1 ?_
          refine XL.q (q_assign rfl) rfl ?_
          refine XL.nil ?_
          refine nb ?_
          first | exact jn (_, _) ⟨hw, hl⟩ (kp 0 rfl (kp 1 rfl (kp 2 rfl (kp 8 rfl kn)))) .rfl (fun _ h => h) | exact jn (ws.drop 1, _) ⟨⟨fun x hx => hw.lt x (List.mem_of_mem_drop hx)⟩, by rw [List.length_drop]; omega⟩ (kp 0 rfl (kp 1 rfl (kp 2 rfl (kp 8 rfl kn)))) .rfl (fun _ h => h)
        ·
          refine XC.skip ?_
          refine nb ?_
          first | exact jn (_, _) ⟨hw, hl⟩ (kp 0 rfl (kp 1 rfl (kp 2 rfl (kp 8 rfl kn)))) .rfl (fun _ h => h) | exact jn (ws.drop 1, _) ⟨⟨fun x hx => hw.lt x (List.mem_of_mem_drop hx)⟩, by rw [List.length_drop]; omega⟩ (kp 0 rfl (kp 1 rfl (kp 2 rfl (kp 8 rfl kn)))) .rfl (fun _ h => h)
    ·
      rintro ⟨w2, ng⟩ ⟨hw2, hl2⟩
      dsimp only at hw2 hl2 ⊢
      haveI := hw2
      refine XC.reg ?_
      refine XL.q (q_assign rfl) rfl ?_
      refine XL.fin (kp 0 rfl (kp 1 rfl (kp 2 rfl (kp 8 rfl kn)))) ?_
      refine XC.reg ?_
      refine XL.q (q_move rfl) rfl ?_
      refine XL.q (q_move rfl) rfl ?_
      refine XL.q (q_move rfl) rfl ?_
      refine XL.call (aS rfl (aS rfl (aS rfl a0))) (by kernel_rfl) (parseUint_spec w2 hw2 hl2 _) rfl ?_
      rintro v29 M29 J29 ⟨n29, p29, rfl, ho29⟩
      refine XL.q (q_move rfl) rfl ?_
      refine XL.q (q_x0 rfl) rfl ?_
      refine XL.q (q_x1 rfl) rfl ?_
      refine XL.q (q_assign rfl) rfl ?_
      refine XL.q (q_assign rfl) rfl ?_
      refine XL.fin (kp 2 rfl (kp 7 rfl (kp 8 rfl (kp 9 rfl kn)))) ?_
      refine XC.seq ?_
      refine XC.reg ?_
      refine XL.q (q_move rfl) rfl ?_
      refine XL.q (q_errNeN (u := 116) (p := p29) rfl (by kernel_rfl)) rfl ?_
      refine XL.q (q_move rfl) rfl ?_
      refine XL.split (t := 34) rfl (fun hb => ?_) (fun hb => ?_)
      ·
        refine XL.gy rfl rfl (OpQ.opL (q_move rfl) rfl ?_)
        refine XL.gy rfl rfl (OpQ.opL (q_mkIf rfl (by kernel_rfl)) rfl ?_)
        refine XL.gy rfl rfl (OpQ.opL (q_errNe (u := 116) (p := p29) (n := 1) rfl rfl (by kernel_rfl) (by kernel_rfl) (by kernel_rfl)) rfl ?_)
        refine XL.q (q_pickT rfl rfl) rfl ?_
        refine XL.fin (kp 2 rfl (kp 7 rfl (kp 8 rfl (kp 9 rfl (kp 38 rfl kn))))) ?_
        refine XC.cond rfl (fun hc => ?_) (fun hc => ?_)
        ·
          refine XC.reg ?_
          refine XL.q (q_move rfl) rfl ?_
          refine XL.q (q_assign rfl) rfl ?_
          refine XL.q (q_assign rfl) rfl ?_
          refine XL.fin (kp 6 rfl (kp 7 rfl kn)) ?_
          refine XC.ret ?_
          refine tr ?_
          first | exact ⟨_, _, [], res2 rfl rfl rfl, List.Sublist.refl _, by simp, _, some 1, rfl, i64_0, by first | assumption | simp [okp]⟩ | exact ⟨_, _, [], res2 rfl rfl rfl, List.Sublist.refl _, by simp, _, some 1, rfl, wrap_i _, by first | assumption | simp [okp]⟩ | exact ⟨_, _, [], res2 rfl rfl rfl, List.Sublist.refl _, by simp, _, some 2, rfl, i64_0, by first | assumption | simp [okp]⟩ | exact ⟨_, _, [], res2 rfl rfl rfl, List.Sublist.refl _, by simp, _, some 2, rfl, wrap_i _, by first | assumption | simp [okp]⟩ | exact ⟨_, _, [], res2 rfl rfl rfl, List.Sublist.refl _, by simp, _, none, rfl, i64_0, by first | assumption | simp [okp]⟩ | exact ⟨_, _, [], res2 rfl rfl rfl, List.Sublist.refl _, by simp, _, none, rfl, wrap_i _, by first | assumption | simp [okp]⟩ | exact ⟨_, _, [], res2 rfl rfl rfl, List.Sublist.refl _, by simp, _, p29, rfl, i64_0, by first | assumption | simp [okp]⟩ | exact ⟨_, _, [], res2 rfl rfl rfl, List.Sublist.refl _, by simp, _, p29, rfl, wrap_i _, by first | assumption | simp [okp]⟩
        ·
          refine XC.skip ?_
          refine nx (kp 2 rfl (kp 8 rfl (kp 9 rfl kn))) ?_
          refine XC.seq ?_
          refine XC.reg ?_
          refine XL.q (q_move rfl) rfl ?_
          refine XL.q (q_bin (v := .bool true) rfl rfl (by rfl)) rfl ?_
          refine XL.fin (kp 2 rfl (kp 8 rfl (kp 9 rfl (kp 41 rfl kn)))) ?_
          refine XC.condT rfl ?_
          refine XC.reg1 ?_
          refine XL.q (q_assign rfl) rfl ?_
          refine XL.fin (kp 2 rfl (kp 8 rfl (kp 9 rfl kn))) ?_
          refine XC.reg ?_
          refine XL.q (q_move rfl) rfl ?_
          refine XL.q (q_num (63 : Int) rfl rfl (sub64 (by decide) (by decide) (by decide))) rfl ?_
          refine XL.q (q_conv (k' := .u64) rfl (by kernel_rfl)) rfl ?_
          refine XL.q (q_shl rfl rfl (by decide)) rfl ?_
          refine XL.q (q_assign rfl) rfl ?_
          refine XL.fin (kp 8 rfl (kp 9 rfl (kp 10 rfl kn))) ?_
          refine XC.seq ?_
          refine XC.reg ?_
          refine XL.q (q_move rfl) rfl ?_
          refine XL.q (q_not rfl) rfl ?_
          refine XL.q (q_move rfl) rfl ?_
          refine XL.split (t := 48) rfl (fun hb => ?_) (fun hb => ?_)
          ·
            refine XL.gy rfl rfl (OpQ.opL (q_move rfl) rfl ?_)
            refine XL.gy rfl rfl (OpQ.opL (q_move rfl) rfl ?_)
            refine XL.gy rfl rfl (OpQ.opL (q_bin rfl rfl rfl) rfl ?_)
            refine XL.q (q_pickT rfl rfl) rfl ?_
            refine XL.fin (kp 8 rfl (kp 9 rfl (kp 10 rfl (kp 52 rfl kn)))) ?_
            refine XC.cond rfl (fun hc => ?_) (fun hc => ?_)
            ·
              refine XC.reg ?_
              refine XL.q (q_move rfl) rfl ?_
              refine XL.q (q_bin rfl rfl rfl) rfl ?_
              refine XL.q (q_conv (k' := .i64) rfl (by kernel_rfl)) rfl ?_
              refine XL.q (q_mkIf rfl (by kernel_rfl)) rfl ?_
              refine XL.q (q_assign rfl) rfl ?_
              refine XL.q (q_assign rfl) rfl ?_
              refine XL.fin (kp 6 rfl (kp 7 rfl kn)) ?_
              refine XC.ret ?_
              refine tr ?_
              first | exact ⟨_, _, [], res2 rfl rfl rfl, List.Sublist.refl _, by simp, _, some 1, rfl, i64_0, by first | assumption | simp [okp]⟩ | exact ⟨_, _, [], res2 rfl rfl rfl, List.Sublist.refl _, by simp, _, some 1, rfl, wrap_i _, by first | assumption | simp [okp]⟩ | exact ⟨_, _, [], res2 rfl rfl rfl, List.Sublist.refl _, by simp, _, some 2, rfl, i64_0, by first | assumption | simp [okp]⟩ | exact ⟨_, _, [], res2 rfl rfl rfl, List.Sublist.refl _, by simp, _, some 2, rfl, wrap_i _, by first | assumption | simp [okp]⟩ | exact ⟨_, _, [], res2 rfl rfl rfl, List.Sublist.refl _, by simp, _, none, rfl, i64_0, by first | assumption | simp [okp]⟩ | exact ⟨_, _, [], res2 rfl rfl rfl, List.Sublist.refl _, by simp, _, none, rfl, wrap_i _, by first | assumption | simp [okp]⟩ | exact ⟨_, _, [], res2 rfl rfl rfl, List.Sublist.refl _, by simp, _, p29, rfl, i64_0, by first | assumption | simp [okp]⟩ | exact ⟨_, _, [], res2 rfl rfl rfl, List.Sublist.refl _, by simp, _, p29, rfl, wrap_i _, by first | assumption | simp [okp]⟩
            ·
              refine XC.skip ?_
              refine nx (kp 8 rfl (kp 9 rfl (kp 10 rfl kn))) ?_
              refine XC.seq ?_
              refine XC.reg ?_
              refine XL.q (q_move rfl) rfl ?_
              refine XL.q (q_move rfl) rfl ?_
              refine XL.split (t := 58) rfl (fun hb => ?_) (fun hb => ?_)
              ·
                refine XL.gy rfl rfl (OpQ.opL (q_move rfl) rfl ?_)
                refine XL.gy rfl rfl (OpQ.opL (q_move rfl) rfl ?_)
                refine XL.gy rfl rfl (OpQ.opL (q_bin rfl rfl rfl) rfl ?_)
                refine XL.q (q_pickT rfl rfl) rfl ?_
                refine XL.fin (kp 8 rfl (kp 9 rfl (kp 10 rfl (kp 62 rfl kn)))) ?_
                refine XC.cond rfl (fun hc => ?_) (fun hc => ?_)
                ·
                  refine XC.reg ?_
                  refine XL.q (q_move rfl) rfl ?_
                  refine XL.q (q_conv (k' := .i64) rfl (by kernel_rfl)) rfl ?_
                  refine XL.q (q_neg rfl) rfl ?_
                  refine XL.q (q_mkIf rfl (by kernel_rfl)) rfl ?_
                  refine XL.q (q_assign rfl) rfl ?_
                  refine XL.q (q_assign rfl) rfl ?_
                  refine XL.fin (kp 6 rfl (kp 7 rfl kn)) ?_
                  refine XC.ret ?_
                  refine tr ?_
                  first | exact ⟨_, _, [], res2 rfl rfl rfl, List.Sublist.refl _, by simp, _, some 1, rfl, i64_0, by first | assumption | simp [okp]⟩ | exact ⟨_, _, [], res2 rfl rfl rfl, List.Sublist.refl _, by simp, _, some 1, rfl, wrap_i _, by first | assumption | simp [okp]⟩ | exact ⟨_, _, [], res2 rfl rfl rfl, List.Sublist.refl _, by simp, _, some 2, rfl, i64_0, by first | assumption | simp [okp]⟩ | exact ⟨_, _, [], res2 rfl rfl rfl, List.Sublist.refl _, by simp, _, some 2, rfl, wrap_i _, by first | assumption | simp [okp]⟩ | exact ⟨_, _, [], res2 rfl rfl rfl, List.Sublist.refl _, by simp, _, none, rfl, i64_0, by first | assumption | simp [okp]⟩ | exact ⟨_, _, [], res2 rfl rfl rfl, List.Sublist.refl _, by simp, _, none, rfl, wrap_i _, by first | assumption | simp [okp]⟩ | exact ⟨_, _, [], res2 rfl rfl rfl, List.Sublist.refl _, by simp, _, p29, rfl, i64_0, by first | assumption | simp [okp]⟩ | exact ⟨_, _, [], res2 rfl rfl rfl, List.Sublist.refl _, by simp, _, p29, rfl, wrap_i _, by first | assumption | simp [okp]⟩
                ·
                  refine XC.skip ?_
                  refine nx (kp 8 rfl (kp 9 rfl kn)) ?_
                  refine XC.reg ?_
                  refine XL.q (q_move rfl) rfl ?_
                  refine XL.q (q_conv (k' := .i64) rfl (by kernel_rfl)) rfl ?_
                  refine XL.q (q_assign rfl) rfl ?_
                  refine XL.fin (kp 8 rfl (kp 11 rfl kn)) ?_
                  refine XC.seq ?_
                  refine XC.reg ?_
                  refine XL.q (q_move rfl) rfl ?_
                  refine XL.fin (kp 11 rfl (kp 69 rfl kn)) ?_
                  refine XC.cond rfl (fun hc => ?_) (fun hc => ?_)
                  ·
                    refine XC.reg1 ?_
                    refine XL.q (q_move rfl) rfl ?_
                    refine XL.q (q_neg rfl) rfl ?_
                    refine XL.q (q_assign rfl) rfl ?_
                    refine XL.fin (kp 11 rfl kn) ?_
                    refine XC.reg ?_
                    refine XL.q (q_move rfl) rfl ?_
                    refine XL.q (q_assign rfl) rfl ?_
                    refine XL.q (q_assign rfl) rfl ?_
                    refine XL.fin (kp 6 rfl (kp 7 rfl kn)) ?_
                    refine XC.ret ?_
                    first | exact ⟨_, _, [], res2 rfl rfl rfl, List.Sublist.refl _, by simp, _, some 1, rfl, i64_0, by first | assumption | simp [okp]⟩ | exact ⟨_, _, [], res2 rfl rfl rfl, List.Sublist.refl _, by simp, _, some 1, rfl, wrap_i _, by first | assumption | simp [okp]⟩ | exact ⟨_, _, [], res2 rfl rfl rfl, List.Sublist.refl _, by simp, _, some 2, rfl, i64_0, by first | assumption | simp [okp]⟩ | exact ⟨_, _, [], res2 rfl rfl rfl, List.Sublist.refl _, by simp, _, some 2, rfl, wrap_i _, by first | assumption | simp [okp]⟩ | exact ⟨_, _, [], res2 rfl rfl rfl, List.Sublist.refl _, by simp, _, none, rfl, i64_0, by first | assumption | simp [okp]⟩ | exact ⟨_, _, [], res2 rfl rfl rfl, List.Sublist.refl _, by simp, _, none, rfl, wrap_i _, by first | assumption | simp [okp]⟩ | exact ⟨_, _, [], res2 rfl rfl rfl, List.Sublist.refl _, by simp, _, p29, rfl, i64_0, by first | assumption | simp [okp]⟩ | exact ⟨_, _, [], res2 rfl rfl rfl, List.Sublist.refl _, by simp, _, p29, rfl, wrap_i _, by first | assumption | simp [okp]⟩
                  ·
                    refine XC.skip ?_
                    refine nx (kp 11 rfl kn) ?_
                    refine XC.reg ?_
                    refine XL.q (q_move rfl) rfl ?_
                    refine XL.q (q_assign rfl) rfl ?_
                    refine XL.q (q_assign rfl) rfl ?_
                    refine XL.fin (kp 6 rfl (kp 7 rfl kn)) ?_
                    refine XC.ret ?_
                    first | exact ⟨_, _, [], res2 rfl rfl rfl, List.Sublist.refl _, by simp, _, some 1, rfl, i64_0, by first | assumption | simp [okp]⟩ | exact ⟨_, _, [], res2 rfl rfl rfl, List.Sublist.refl _, by simp, _, some 1, rfl, wrap_i _, by first | assumption | simp [okp]⟩ | exact ⟨_, _, [], res2 rfl rfl rfl, List.Sublist.refl _, by simp, _, some 2, rfl, i64_0, by first | assumption | simp [okp]⟩ | exact ⟨_, _, [], res2 rfl rfl rfl, List.Sublist.refl _, by simp, _, some 2, rfl, wrap_i _, by first | assumption | simp [okp]⟩ | exact ⟨_, _, [], res2 rfl rfl rfl, List.Sublist.refl _, by simp, _, none, rfl, i64_0, by first | assumption | simp [okp]⟩ | exact ⟨_, _, [], res2 rfl rfl rfl, List.Sublist.refl _, by simp, _, none, rfl, wrap_i _, by first | assumption | simp [okp]⟩ | exact ⟨_, _, [], res2 rfl rfl rfl, List.Sublist.refl _, by simp, _, p29, rfl, i64_0, by first | assumption | simp [okp]⟩ | exact ⟨_, _, [], res2 rfl rfl rfl, List.Sublist.refl _, by simp, _, p29, rfl, wrap_i _, by first | assumption | simp [okp]⟩
              ·
                refine XL.gn rfl rfl rfl rfl ?_
                refine XL.gn rfl rfl rfl rfl ?_
                refine XL.gn rfl rfl rfl rfl ?_
                refine XL.q (q_pickF rfl rfl) rfl ?_
                refine XL.fin (kp 8 rfl (kp 9 rfl (kp 10 rfl (kp 62 rfl kn)))) ?_
                refine XC.condF rfl ?_
                refine XC.skip ?_
                refine nx (kp 8 rfl (kp 9 rfl kn)) ?_
                refine XC.reg ?_
                refine XL.q (q_move rfl) rfl ?_
                refine XL.q (q_conv (k' := .i64) rfl (by kernel_rfl)) rfl ?_
                refine XL.q (q_assign rfl) rfl ?_
                refine XL.fin (kp 8 rfl (kp 11 rfl kn)) ?_
                refine XC.seq ?_
                refine XC.reg ?_
                refine XL.q (q_move rfl) rfl ?_
                refine XL.fin (kp 11 rfl (kp 69 rfl kn)) ?_
                refine XC.cond rfl (fun hc => ?_) (fun hc => ?_)
                ·
                  refine XC.reg1 ?_
                  refine XL.q (q_move rfl) rfl ?_
                  refine XL.q (q_neg rfl) rfl ?_
                  refine XL.q (q_assign rfl) rfl ?_
                  refine XL.fin (kp 11 rfl kn) ?_
                  refine XC.reg ?_
                  refine XL.q (q_move rfl) rfl ?_
                  refine XL.q (q_assign rfl) rfl ?_
                  refine XL.q (q_assign rfl) rfl ?_
                  refine XL.fin (kp 6 rfl (kp 7 rfl kn)) ?_
                  refine XC.ret ?_
                  first | exact ⟨_, _, [], res2 rfl rfl rfl, List.Sublist.refl _, by simp, _, some 1, rfl, i64_0, by first | assumption | simp [okp]⟩ | exact ⟨_, _, [], res2 rfl rfl rfl, List.Sublist.refl _, by simp, _, some 1, rfl, wrap_i _, by first | assumption | simp [okp]⟩ | exact ⟨_, _, [], res2 rfl rfl rfl, List.Sublist.refl _, by simp, _, some 2, rfl, i64_0, by first | assumption | simp [okp]⟩ | exact ⟨_, _, [], res2 rfl rfl rfl, List.Sublist.refl _, by simp, _, some 2, rfl, wrap_i _, by first | assumption | simp [okp]⟩ | exact ⟨_, _, [], res2 rfl rfl rfl, List.Sublist.refl _, by simp, _, none, rfl, i64_0, by first | assumption | simp [okp]⟩ | exact ⟨_, _, [], res2 rfl rfl rfl, List.Sublist.refl _, by simp, _, none, rfl, wrap_i _, by first | assumption | simp [okp]⟩ | exact ⟨_, _, [], res2 rfl rfl rfl, List.Sublist.refl _, by simp, _, p29, rfl, i64_0, by first | assumption | simp [okp]⟩ | exact ⟨_, _, [], res2 rfl rfl rfl, List.Sublist.refl _, by simp, _, p29, rfl, wrap_i _, by first | assumption | simp [okp]⟩
                ·
                  refine XC.skip ?_
                  refine nx (kp 11 rfl kn) ?_
                  refine XC.reg ?_
                  refine XL.q (q_move rfl) rfl ?_
                  refine XL.q (q_assign rfl) rfl ?_
                  refine XL.q (q_assign rfl) rfl ?_
                  refine XL.fin (kp 6 rfl (kp 7 rfl kn)) ?_
                  refine XC.ret ?_
                  first | exact ⟨_, _, [], res2 rfl rfl rfl, List.Sublist.refl _, by simp, _, some 1, rfl, i64_0, by first | assumption | simp [okp]⟩ | exact ⟨_, _, [], res2 rfl rfl rfl, List.Sublist.refl _, by simp, _, some 1, rfl, wrap_i _, by first | assumption | simp [okp]⟩ | exact ⟨_, _, [], res2 rfl rfl rfl, List.Sublist.refl _, by simp, _, some 2, rfl, i64_0, by first | assumption | simp [okp]⟩ | exact ⟨_, _, [], res2 rfl rfl rfl, List.Sublist.refl _, by simp, _, some 2, rfl, wrap_i _, by first | assumption | simp [okp]⟩ | exact ⟨_, _, [], res2 rfl rfl rfl, List.Sublist.refl _, by simp, _, none, rfl, i64_0, by first | assumption | simp [okp]⟩ | exact ⟨_, _, [], res2 rfl rfl rfl, List.Sublist.refl _, by simp, _, none, rfl, wrap_i _, by first | assumption | simp [okp]⟩ | exact ⟨_, _, [], res2 rfl rfl rfl, List.Sublist.refl _, by simp, _, p29, rfl, i64_0, by first | assumption | simp [okp]⟩ | exact ⟨_, _, [], res2 rfl rfl rfl, List.Sublist.refl _, by simp, _, p29, rfl, wrap_i _, by first | assumption | simp [okp]⟩
          ·
            refine XL.gn rfl rfl rfl rfl ?_
            refine XL.gn rfl rfl rfl rfl ?_
            refine XL.gn rfl rfl rfl rfl ?_
            refine XL.q (q_pickF rfl rfl) rfl ?_
            refine XL.fin (kp 8 rfl (kp 9 rfl (kp 10 rfl (kp 52 rfl kn)))) ?_
            refine XC.condF rfl ?_
            refine XC.skip ?_
            refine nx (kp 8 rfl (kp 9 rfl (kp 10 rfl kn))) ?_
            refine XC.seq ?_
            refine XC.reg ?_
            refine XL.q (q_move rfl) rfl ?_
            refine XL.q (q_move rfl) rfl ?_
            refine XL.split (t := 58) rfl (fun hb => ?_) (fun hb => ?_)
            ·
              refine XL.gy rfl rfl (OpQ.opL (q_move rfl) rfl ?_)
              refine XL.gy rfl rfl (OpQ.opL (q_move rfl) rfl ?_)
              refine XL.gy rfl rfl (OpQ.opL (q_bin rfl rfl rfl) rfl ?_)
              refine XL.q (q_pickT rfl rfl) rfl ?_
              refine XL.fin (kp 8 rfl (kp 9 rfl (kp 10 rfl (kp 62 rfl kn)))) ?_
              refine XC.cond rfl (fun hc => ?_) (fun hc => ?_)
              ·
                refine XC.reg ?_
                refine XL.q (q_move rfl) rfl ?_
                refine XL.q (q_conv (k' := .i64) rfl (by kernel_rfl)) rfl ?_
                refine XL.q (q_neg rfl) rfl ?_
                refine XL.q (q_mkIf rfl (by kernel_rfl)) rfl ?_
                refine XL.q (q_assign rfl) rfl ?_
                refine XL.q (q_assign rfl) rfl ?_
                refine XL.fin (kp 6 rfl (kp 7 rfl kn)) ?_
                refine XC.ret ?_
                refine tr ?_
                first | exact ⟨_, _, [], res2 rfl rfl rfl, List.Sublist.refl _, by simp, _, some 1, rfl, i64_0, by first | assumption | simp [okp]⟩ | exact ⟨_, _, [], res2 rfl rfl rfl, List.Sublist.refl _, by simp, _, some 1, rfl, wrap_i _, by first | assumption | simp [okp]⟩ | exact ⟨_, _, [], res2 rfl rfl rfl, List.Sublist.refl _, by simp, _, some 2, rfl, i64_0, by first | assumption | simp [okp]⟩ | exact ⟨_, _, [], res2 rfl rfl rfl, List.Sublist.refl _, by simp, _, some 2, rfl, wrap_i _, by first | assumption | simp [okp]⟩ | exact ⟨_, _, [], res2 rfl rfl rfl, List.Sublist.refl _, by simp, _, none, rfl, i64_0, by first | assumption | simp [okp]⟩ | exact ⟨_, _, [], res2 rfl rfl rfl, List.Sublist.refl _, by simp, _, none, rfl, wrap_i _, by first | assumption | simp [okp]⟩ | exact ⟨_, _, [], res2 rfl rfl rfl, List.Sublist.refl _, by simp, _, p29, rfl, i64_0, by first | assumption | simp [okp]⟩ | exact ⟨_, _, [], res2 rfl rfl rfl, List.Sublist.refl _, by simp, _, p29, rfl, wrap_i _, by first | assumption | simp [okp]⟩
              ·
                refine XC.skip ?_
                refine nx (kp 8 rfl (kp 9 rfl kn)) ?_
                refine XC.reg ?_
                refine XL.q (q_move rfl) rfl ?_
                refine XL.q (q_conv (k' := .i64) rfl (by kernel_rfl)) rfl ?_
                refine XL.q (q_assign rfl) rfl ?_
                refine XL.fin (kp 8 rfl (kp 11 rfl kn)) ?_
                refine XC.seq ?_
                refine XC.reg ?_
                refine XL.q (q_move rfl) rfl ?_
                refine XL.fin (kp 11 rfl (kp 69 rfl kn)) ?_
                refine XC.cond rfl (fun hc => ?_) (fun hc => ?_)
                ·
                  refine XC.reg1 ?_
                  refine XL.q (q_move rfl) rfl ?_
                  refine XL.q (q_neg rfl) rfl ?_
                  refine XL.q (q_assign rfl) rfl ?_
                  refine XL.fin (kp 11 rfl kn) ?_
                  refine XC.reg ?_
                  refine XL.q (q_move rfl) rfl ?_
                  refine XL.q (q_assign rfl) rfl ?_
                  refine XL.q (q_assign rfl) rfl ?_
                  refine XL.fin (kp 6 rfl (kp 7 rfl kn)) ?_
                  refine XC.ret ?_
                  first | exact ⟨_, _, [], res2 rfl rfl rfl, List.Sublist.refl _, by simp, _, some 1, rfl, i64_0, by first | assumption | simp [okp]⟩ | exact ⟨_, _, [], res2 rfl rfl rfl, List.Sublist.refl _, by simp, _, some 1, rfl, wrap_i _, by first | assumption | simp [okp]⟩ | exact ⟨_, _, [], res2 rfl rfl rfl, List.Sublist.refl _, by simp, _, some 2, rfl, i64_0, by first | assumption | simp [okp]⟩ | exact ⟨_, _, [], res2 rfl rfl rfl, List.Sublist.refl _, by simp, _, some 2, rfl, wrap_i _, by first | assumption | simp [okp]⟩ | exact ⟨_, _, [], res2 rfl rfl rfl, List.Sublist.refl _, by simp, _, none, rfl, i64_0, by first | assumption | simp [okp]⟩ | exact ⟨_, _, [], res2 rfl rfl rfl, List.Sublist.refl _, by simp, _, none, rfl, wrap_i _, by first | assumption | simp [okp]⟩ | exact ⟨_, _, [], res2 rfl rfl rfl, List.Sublist.refl _, by simp, _, p29, rfl, i64_0, by first | assumption | simp [okp]⟩ | exact ⟨_, _, [], res2 rfl rfl rfl, List.Sublist.refl _, by simp, _, p29, rfl, wrap_i _, by first | assumption | simp [okp]⟩
                ·
                  refine XC.skip ?_
                  refine nx (kp 11 rfl kn) ?_
                  refine XC.reg ?_
                  refine XL.q (q_move rfl) rfl ?_
                  refine XL.q (q_assign rfl) rfl ?_
                  refine XL.q (q_assign rfl) rfl ?_
                  refine XL.fin (kp 6 rfl (kp 7 rfl kn)) ?_
                  refine XC.ret ?_
                  first | exact ⟨_, _, [], res2 rfl rfl rfl, List.Sublist.refl _, by simp, _, some 1, rfl, i64_0, by first | assumption | simp [okp]⟩ | exact ⟨_, _, [], res2 rfl rfl rfl, List.Sublist.refl _, by simp, _, some 1, rfl, wrap_i _, by first | assumption | simp [okp]⟩ | exact ⟨_, _, [], res2 rfl rfl rfl, List.Sublist.refl _, by simp, _, some 2, rfl, i64_0, by first | assumption | simp [okp]⟩ | exact ⟨_, _, [], res2 rfl rfl rfl, List.Sublist.refl _, by simp, _, some 2, rfl, wrap_i _, by first | assumption | simp [okp]⟩ | exact ⟨_, _, [], res2 rfl rfl rfl, List.Sublist.refl _, by simp, _, none, rfl, i64_0, by first | assumption | simp [okp]⟩ | exact ⟨_, _, [], res2 rfl rfl rfl, List.Sublist.refl _, by simp, _, none, rfl, wrap_i _, by first | assumption | simp [okp]⟩ | exact ⟨_, _, [], res2 rfl rfl rfl, List.Sublist.refl _, by simp, _, p29, rfl, i64_0, by first | assumption | simp [okp]⟩ | exact ⟨_, _, [], res2 rfl rfl rfl, List.Sublist.refl _, by simp, _, p29, rfl, wrap_i _, by first | assumption | simp [okp]⟩
            ·
              refine XL.gn rfl rfl rfl rfl ?_
              refine XL.gn rfl rfl rfl rfl ?_
              refine XL.gn rfl rfl rfl rfl ?_
              refine XL.q (q_pickF rfl rfl) rfl ?_
              refine XL.fin (kp 8 rfl (kp 9 rfl (kp 10 rfl (kp 62 rfl kn)))) ?_
              refine XC.condF rfl ?_
              refine XC.skip ?_
              refine nx (kp 8 rfl (kp 9 rfl kn)) ?_
              refine XC.reg ?_
              refine XL.q (q_move rfl) rfl ?_
              refine XL.q (q_conv (k' := .i64) rfl (by kernel_rfl)) rfl ?_
              refine XL.q (q_assign rfl) rfl ?_
              refine XL.fin (kp 8 rfl (kp 11 rfl kn)) ?_
              refine XC.seq ?_
              refine XC.reg ?_
              refine XL.q (q_move rfl) rfl ?_
              refine XL.fin (kp 11 rfl (kp 69 rfl kn)) ?_
              refine XC.cond rfl (fun hc => ?_) (fun hc => ?_)
              ·
                refine XC.reg1 ?_
                refine XL.q (q_move rfl) rfl ?_
                refine XL.q (q_neg rfl) rfl ?_
                refine XL.q (q_assign rfl) rfl ?_
                refine XL.fin (kp 11 rfl kn) ?_
                refine XC.reg ?_
                refine XL.q (q_move rfl) rfl ?_
                refine XL.q (q_assign rfl) rfl ?_
                refine XL.q (q_assign rfl) rfl ?_
                refine XL.fin (kp 6 rfl (kp 7 rfl kn)) ?_
                refine XC.ret ?_
                first | exact ⟨_, _, [], res2 rfl rfl rfl, List.Sublist.refl _, by simp, _, some 1, rfl, i64_0, by first | assumption | simp [okp]⟩ | exact ⟨_, _, [], res2 rfl rfl rfl, List.Sublist.refl _, by simp, _, some 1, rfl, wrap_i _, by first | assumption | simp [okp]⟩ | exact ⟨_, _, [], res2 rfl rfl rfl, List.Sublist.refl _, by simp, _, some 2, rfl, i64_0, by first | assumption | simp [okp]⟩ | exact ⟨_, _, [], res2 rfl rfl rfl, List.Sublist.refl _, by simp, _, some 2, rfl, wrap_i _, by first | assumption | simp [okp]⟩ | exact ⟨_, _, [], res2 rfl rfl rfl, List.Sublist.refl _, by simp, _, none, rfl, i64_0, by first | assumption | simp [okp]⟩ | exact ⟨_, _, [], res2 rfl rfl rfl, List.Sublist.refl _, by simp, _, none, rfl, wrap_i _, by first | assumption | simp [okp]⟩ | exact ⟨_, _, [], res2 rfl rfl rfl, List.Sublist.refl _, by simp, _, p29, rfl, i64_0, by first | assumption | simp [okp]⟩ | exact ⟨_, _, [], res2 rfl rfl rfl, List.Sublist.refl _, by simp, _, p29, rfl, wrap_i _, by first | assumption | simp [okp]⟩
              ·
                refine XC.skip ?_
                refine nx (kp 11 rfl kn) ?_
                refine XC.reg ?_
                refine XL.q (q_move rfl) rfl ?_
                refine XL.q (q_assign rfl) rfl ?_
                refine XL.q (q_assign rfl) rfl ?_
                refine XL.fin (kp 6 rfl (kp 7 rfl kn)) ?_
                refine XC.ret ?_
                first | exact ⟨_, _, [], res2 rfl rfl rfl, List.Sublist.refl _, by simp, _, some 1, rfl, i64_0, by first | assumption | simp [okp]⟩ | exact ⟨_, _, [], res2 rfl rfl rfl, List.Sublist.refl _, by simp, _, some 1, rfl, wrap_i _, by first | assumption | simp [okp]⟩ | exact ⟨_, _, [], res2 rfl rfl rfl, List.Sublist.refl _, by simp, _, some 2, rfl, i64_0, by first | assumption | simp [okp]⟩ | exact ⟨_, _, [], res2 rfl rfl rfl, List.Sublist.refl _, by simp, _, some 2, rfl, wrap_i _, by first | assumption | simp [okp]⟩ | exact ⟨_, _, [], res2 rfl rfl rfl, List.Sublist.refl _, by simp, _, none, rfl, i64_0, by first | assumption | simp [okp]⟩ | exact ⟨_, _, [], res2 rfl rfl rfl, List.Sublist.refl _, by simp, _, none, rfl, wrap_i _, by first | assumption | simp [okp]⟩ | exact ⟨_, _, [], res2 rfl rfl rfl, List.Sublist.refl _, by simp, _, p29, rfl, i64_0, by first | assumption | simp [okp]⟩ | exact ⟨_, _, [], res2 rfl rfl rfl, List.Sublist.refl _, by simp, _, p29, rfl, wrap_i _, by first | assumption | simp [okp]⟩
      ·
        refine XL.gn rfl rfl rfl rfl ?_
        refine XL.gn rfl rfl rfl rfl ?_
        refine XL.gn rfl rfl rfl rfl ?_
        refine XL.q (q_pickF rfl rfl) rfl ?_
        refine XL.fin (kp 2 rfl (kp 7 rfl (kp 8 rfl (kp 9 rfl (kp 38 rfl kn))))) ?_
        refine XC.condF rfl ?_
        refine XC.skip ?_
        refine nx (kp 2 rfl (kp 8 rfl (kp 9 rfl kn))) ?_
        refine XC.seq ?_
        refine XC.reg ?_
        refine XL.q (q_move rfl) rfl ?_
        refine XL.q (q_bin (v := .bool true) rfl rfl (by rfl)) rfl ?_
        refine XL.fin (kp 2 rfl (kp 8 rfl (kp 9 rfl (kp 41 rfl kn)))) ?_
        refine XC.condT rfl ?_
        refine XC.reg1 ?_
        refine XL.q (q_assign rfl) rfl ?_
        refine XL.fin (kp 2 rfl (kp 8 rfl (kp 9 rfl kn))) ?_
        refine XC.reg ?_
        refine XL.q (q_move rfl) rfl ?_
        refine XL.q (q_num (63 : Int) rfl rfl (sub64 (by decide) (by decide) (by decide))) rfl ?_
        refine XL.q (q_conv (k' := .u64) rfl (by kernel_rfl)) rfl ?_
        refine XL.q (q_shl rfl rfl (by decide)) rfl ?_
        refine XL.q (q_assign rfl) rfl ?_
        refine XL.fin (kp 8 rfl (kp 9 rfl (kp 10 rfl kn))) ?_
        refine XC.seq ?_
        refine XC.reg ?_
        refine XL.q (q_move rfl) rfl ?_
        refine XL.q (q_not rfl) rfl ?_
        refine XL.q (q_move rfl) rfl ?_
        refine XL.split (t := 48) rfl (fun hb => ?_) (fun hb => ?_)
        ·
          refine XL.gy rfl rfl (OpQ.opL (q_move rfl) rfl ?_)
          refine XL.gy rfl rfl (OpQ.opL (q_move rfl) rfl ?_)
          refine XL.gy rfl rfl (OpQ.opL (q_bin rfl rfl rfl) rfl ?_)
          refine XL.q (q_pickT rfl rfl) rfl ?_
          refine XL.fin (kp 8 rfl (kp 9 rfl (kp 10 rfl (kp 52 rfl kn)))) ?_
          refine XC.cond rfl (fun hc => ?_) (fun hc => ?_)
          ·
            refine XC.reg ?_
            refine XL.q (q_move rfl) rfl ?_
            refine XL.q (q_bin rfl rfl rfl) rfl ?_
            refine XL.q (q_conv (k' := .i64) rfl (by kernel_rfl)) rfl ?_
            refine XL.q (q_mkIf rfl (by kernel_rfl)) rfl ?_
            refine XL.q (q_assign rfl) rfl ?_
            refine XL.q (q_assign rfl) rfl ?_
            refine XL.fin (kp 6 rfl (kp 7 rfl kn)) ?_
            refine XC.ret ?_
            refine tr ?_
            first | exact ⟨_, _, [], res2 rfl rfl rfl, List.Sublist.refl _, by simp, _, some 1, rfl, i64_0, by first | assumption | simp [okp]⟩ | exact ⟨_, _, [], res2 rfl rfl rfl, List.Sublist.refl _, by simp, _, some 1, rfl, wrap_i _, by first | assumption | simp [okp]⟩ | exact ⟨_, _, [], res2 rfl rfl rfl, List.Sublist.refl _, by simp, _, some 2, rfl, i64_0, by first | assumption | simp [okp]⟩ | exact ⟨_, _, [], res2 rfl rfl rfl, List.Sublist.refl _, by simp, _, some 2, rfl, wrap_i _, by first | assumption | simp [okp]⟩ | exact ⟨_, _, [], res2 rfl rfl rfl, List.Sublist.refl _, by simp, _, none, rfl, i64_0, by first | assumption | simp [okp]⟩ | exact ⟨_, _, [], res2 rfl rfl rfl, List.Sublist.refl _, by simp, _, none, rfl, wrap_i _, by first | assumption | simp [okp]⟩ | exact ⟨_, _, [], res2 rfl rfl rfl, List.Sublist.refl _, by simp, _, p29, rfl, i64_0, by first | assumption | simp [okp]⟩ | exact ⟨_, _, [], res2 rfl rfl rfl, List.Sublist.refl _, by simp, _, p29, rfl, wrap_i _, by first | assumption | simp [okp]⟩
          ·
            refine XC.skip ?_
            refine nx (kp 8 rfl (kp 9 rfl (kp 10 rfl kn))) ?_
            refine XC.seq ?_
            refine XC.reg ?_
            refine XL.q (q_move rfl) rfl ?_
            refine XL.q (q_move rfl) rfl ?_
            refine XL.split (t := 58) rfl (fun hb => ?_) (fun hb => ?_)
            ·
              refine XL.gy rfl rfl (OpQ.opL (q_move rfl) rfl ?_)
              refine XL.gy rfl rfl (OpQ.opL (q_move rfl) rfl ?_)
              refine XL.gy rfl rfl (OpQ.opL (q_bin rfl rfl rfl) rfl ?_)
              refine XL.q (q_pickT rfl rfl) rfl ?_
              refine XL.fin (kp 8 rfl (kp 9 rfl (kp 10 rfl (kp 62 rfl kn)))) ?_
              refine XC.cond rfl (fun hc => ?_) (fun hc => ?_)
              ·
                refine XC.reg ?_
                refine XL.q (q_move rfl) rfl ?_
                refine XL.q (q_conv (k' := .i64) rfl (by kernel_rfl)) rfl ?_
                refine XL.q (q_neg rfl) rfl ?_
                refine XL.q (q_mkIf rfl (by kernel_rfl)) rfl ?_
                refine XL.q (q_assign rfl) rfl ?_
                refine XL.q (q_assign rfl) rfl ?_
                refine XL.fin (kp 6 rfl (kp 7 rfl kn)) ?_
                refine XC.ret ?_
                refine tr ?_
                first | exact ⟨_, _, [], res2 rfl rfl rfl, List.Sublist.refl _, by simp, _, some 1, rfl, i64_0, by first | assumption | simp [okp]⟩ | exact ⟨_, _, [], res2 rfl rfl rfl, List.Sublist.refl _, by simp, _, some 1, rfl, wrap_i _, by first | assumption | simp [okp]⟩ | exact ⟨_, _, [], res2 rfl rfl rfl, List.Sublist.refl _, by simp, _, some 2, rfl, i64_0, by first | assumption | simp [okp]⟩ | exact ⟨_, _, [], res2 rfl rfl rfl, List.Sublist.refl _, by simp, _, some 2, rfl, wrap_i _, by first | assumption | simp [okp]⟩ | exact ⟨_, _, [], res2 rfl rfl rfl, List.Sublist.refl _, by simp, _, none, rfl, i64_0, by first | assumption | simp [okp]⟩ | exact ⟨_, _, [], res2 rfl rfl rfl, List.Sublist.refl _, by simp, _, none, rfl, wrap_i _, by first | assumption | simp [okp]⟩ | exact ⟨_, _, [], res2 rfl rfl rfl, List.Sublist.refl _, by simp, _, p29, rfl, i64_0, by first | assumption | simp [okp]⟩ | exact ⟨_, _, [], res2 rfl rfl rfl, List.Sublist.refl _, by simp, _, p29, rfl, wrap_i _, by first | assumption | simp [okp]⟩
              ·
                refine XC.skip ?_
                refine nx (kp 8 rfl (kp 9 rfl kn)) ?_
                refine XC.reg ?_
                refine XL.q (q_move rfl) rfl ?_
                refine XL.q (q_conv (k' := .i64) rfl (by kernel_rfl)) rfl ?_
                refine XL.q (q_assign rfl) rfl ?_
                refine XL.fin (kp 8 rfl (kp 11 rfl kn)) ?_
                refine XC.seq ?_
                refine XC.reg ?_
                refine XL.q (q_move rfl) rfl ?_
                refine XL.fin (kp 11 rfl (kp 69 rfl kn)) ?_
                refine XC.cond rfl (fun hc => ?_) (fun hc => ?_)
                ·
                  refine XC.reg1 ?_
                  refine XL.q (q_move rfl) rfl ?_
                  refine XL.q (q_neg rfl) rfl ?_
                  refine XL.q (q_assign rfl) rfl ?_
                  refine XL.fin (kp 11 rfl kn) ?_
                  refine XC.reg ?_
                  refine XL.q (q_move rfl) rfl ?_
                  refine XL.q (q_assign rfl) rfl ?_
                  refine XL.q (q_assign rfl) rfl ?_
                  refine XL.fin (kp 6 rfl (kp 7 rfl kn)) ?_
                  refine XC.ret ?_
                  first | exact ⟨_, _, [], res2 rfl rfl rfl, List.Sublist.refl _, by simp, _, some 1, rfl, i64_0, by first | assumption | simp [okp]⟩ | exact ⟨_, _, [], res2 rfl rfl rfl, List.Sublist.refl _, by simp, _, some 1, rfl, wrap_i _, by first | assumption | simp [okp]⟩ | exact ⟨_, _, [], res2 rfl rfl rfl, List.Sublist.refl _, by simp, _, some 2, rfl, i64_0, by first | assumption | simp [okp]⟩ | exact ⟨_, _, [], res2 rfl rfl rfl, List.Sublist.refl _, by simp, _, some 2, rfl, wrap_i _, by first | assumption | simp [okp]⟩ | exact ⟨_, _, [], res2 rfl rfl rfl, List.Sublist.refl _, by simp, _, none, rfl, i64_0, by first | assumption | simp [okp]⟩ | exact ⟨_, _, [], res2 rfl rfl rfl, List.Sublist.refl _, by simp, _, none, rfl, wrap_i _, by first | assumption | simp [okp]⟩ | exact ⟨_, _, [], res2 rfl rfl rfl, List.Sublist.refl _, by simp, _, p29, rfl, i64_0, by first | assumption | simp [okp]⟩ | exact ⟨_, _, [], res2 rfl rfl rfl, List.Sublist.refl _, by simp, _, p29, rfl, wrap_i _, by first | assumption | simp [okp]⟩
                ·
                  refine XC.skip ?_
                  refine nx (kp 11 rfl kn) ?_
                  refine XC.reg ?_
                  refine XL.q (q_move rfl) rfl ?_
                  refine XL.q (q_assign rfl) rfl ?_
                  refine XL.q (q_assign rfl) rfl ?_
                  refine XL.fin (kp 6 rfl (kp 7 rfl kn)) ?_
                  refine XC.ret ?_
                  first | exact ⟨_, _, [], res2 rfl rfl rfl, List.Sublist.refl _, by simp, _, some 1, rfl, i64_0, by first | assumption | simp [okp]⟩ | exact ⟨_, _, [], res2 rfl rfl rfl, List.Sublist.refl _, by simp, _, some 1, rfl, wrap_i _, by first | assumption | simp [okp]⟩ | exact ⟨_, _, [], res2 rfl rfl rfl, List.Sublist.refl _, by simp, _, some 2, rfl, i64_0, by first | assumption | simp [okp]⟩ | exact ⟨_, _, [], res2 rfl rfl rfl, List.Sublist.refl _, by simp, _, some 2, rfl, wrap_i _, by first | assumption | simp [okp]⟩ | exact ⟨_, _, [], res2 rfl rfl rfl, List.Sublist.refl _, by simp, _, none, rfl, i64_0, by first | assumption | simp [okp]⟩ | exact ⟨_, _, [], res2 rfl rfl rfl, List.Sublist.refl _, by simp, _, none, rfl, wrap_i _, by first | assumption | simp [okp]⟩ | exact ⟨_, _, [], res2 rfl rfl rfl, List.Sublist.refl _, by simp, _, p29, rfl, i64_0, by first | assumption | simp [okp]⟩ | exact ⟨_, _, [], res2 rfl rfl rfl, List.Sublist.refl _, by simp, _, p29, rfl, wrap_i _, by first | assumption | simp [okp]⟩
            ·
              refine XL.gn rfl rfl rfl rfl ?_
              refine XL.gn rfl rfl rfl rfl ?_
              refine XL.gn rfl rfl rfl rfl ?_
              refine XL.q (q_pickF rfl rfl) rfl ?_
              refine XL.fin (kp 8 rfl (kp 9 rfl (kp 10 rfl (kp 62 rfl kn)))) ?_
              refine XC.condF rfl ?_
              refine XC.skip ?_
              refine nx (kp 8 rfl (kp 9 rfl kn)) ?_
              refine XC.reg ?_
              refine XL.q (q_move rfl) rfl ?_
              refine XL.q (q_conv (k' := .i64) rfl (by kernel_rfl)) rfl ?_
              refine XL.q (q_assign rfl) rfl ?_
              refine XL.fin (kp 8 rfl (kp 11 rfl kn)) ?_
              refine XC.seq ?_
              refine XC.reg ?_
              refine XL.q (q_move rfl) rfl ?_
              refine XL.fin (kp 11 rfl (kp 69 rfl kn)) ?_
              refine XC.cond rfl (fun hc => ?_) (fun hc => ?_)
              ·
                refine XC.reg1 ?_
                refine XL.q (q_move rfl) rfl ?_
                refine XL.q (q_neg rfl) rfl ?_
                refine XL.q (q_assign rfl) rfl ?_
                refine XL.fin (kp 11 rfl kn) ?_
                refine XC.reg ?_
                refine XL.q (q_move rfl) rfl ?_
                refine XL.q (q_assign rfl) rfl ?_
                refine XL.q (q_assign rfl) rfl ?_
                refine XL.fin (kp 6 rfl (kp 7 rfl kn)) ?_
                refine XC.ret ?_
                first | exact ⟨_, _, [], res2 rfl rfl rfl, List.Sublist.refl _, by simp, _, some 1, rfl, i64_0, by first | assumption | simp [okp]⟩ | exact ⟨_, _, [], res2 rfl rfl rfl, List.Sublist.refl _, by simp, _, some 1, rfl, wrap_i _, by first | assumption | simp [okp]⟩ | exact ⟨_, _, [], res2 rfl rfl rfl, List.Sublist.refl _, by simp, _, some 2, rfl, i64_0, by first | assumption | simp [okp]⟩ | exact ⟨_, _, [], res2 rfl rfl rfl, List.Sublist.refl _, by simp, _, some 2, rfl, wrap_i _, by first | assumption | simp [okp]⟩ | exact ⟨_, _, [], res2 rfl rfl rfl, List.Sublist.refl _, by simp, _, none, rfl, i64_0, by first | assumption | simp [okp]⟩ | exact ⟨_, _, [], res2 rfl rfl rfl, List.Sublist.refl _, by simp, _, none, rfl, wrap_i _, by first | assumption | simp [okp]⟩ | exact ⟨_, _, [], res2 rfl rfl rfl, List.Sublist.refl _, by simp, _, p29, rfl, i64_0, by first | assumption | simp [okp]⟩ | exact ⟨_, _, [], res2 rfl rfl rfl, List.Sublist.refl _, by simp, _, p29, rfl, wrap_i _, by first | assumption | simp [okp]⟩
              ·
                refine XC.skip ?_
                refine nx (kp 11 rfl kn) ?_
                refine XC.reg ?_
                refine XL.q (q_move rfl) rfl ?_
                refine XL.q (q_assign rfl) rfl ?_
                refine XL.q (q_assign rfl) rfl ?_
                refine XL.fin (kp 6 rfl (kp 7 rfl kn)) ?_
                refine XC.ret ?_
                first | exact ⟨_, _, [], res2 rfl rfl rfl, List.Sublist.refl _, by simp, _, some 1, rfl, i64_0, by first | assumption | simp [okp]⟩ | exact ⟨_, _, [], res2 rfl rfl rfl, List.Sublist.refl _, by simp, _, some 1, rfl, wrap_i _, by first | assumption | simp [okp]⟩ | exact ⟨_, _, [], res2 rfl rfl rfl, List.Sublist.refl _, by simp, _, some 2, rfl, i64_0, by first | assumption | simp [okp]⟩ | exact ⟨_, _, [], res2 rfl rfl rfl, List.Sublist.refl _, by simp, _, some 2, rfl, wrap_i _, by first | assumption | simp [okp]⟩ | exact ⟨_, _, [], res2 rfl rfl rfl, List.Sublist.refl _, by simp, _, none, rfl, i64_0, by first | assumption | simp [okp]⟩ | exact ⟨_, _, [], res2 rfl rfl rfl, List.Sublist.refl _, by simp, _, none, rfl, wrap_i _, by first | assumption | simp [okp]⟩ | exact ⟨_, _, [], res2 rfl rfl rfl, List.Sublist.refl _, by simp, _, p29, rfl, i64_0, by first | assumption | simp [okp]⟩ | exact ⟨_, _, [], res2 rfl rfl rfl, List.Sublist.refl _, by simp, _, p29, rfl, wrap_i _, by first | assumption | simp [okp]⟩
        ·
          refine XL.gn rfl rfl rfl rfl ?_
          refine XL.gn rfl rfl rfl rfl ?_
          refine XL.gn rfl rfl rfl rfl ?_
          refine XL.q (q_pickF rfl rfl) rfl ?_
          refine XL.fin (kp 8 rfl (kp 9 rfl (kp 10 rfl (kp 52 rfl kn)))) ?_
          refine XC.condF rfl ?_
          refine XC.skip ?_
          refine nx (kp 8 rfl (kp 9 rfl (kp 10 rfl kn))) ?_
          refine XC.seq ?_
          refine XC.reg ?_
          refine XL.q (q_move rfl) rfl ?_
          refine XL.q (q_move rfl) rfl ?_
          refine XL.split (t := 58) rfl (fun hb => ?_) (fun hb => ?_)
          ·
            refine XL.gy rfl rfl (OpQ.opL (q_move rfl) rfl ?_)
            refine XL.gy rfl rfl (OpQ.opL (q_move rfl) rfl ?_)
            refine XL.gy rfl rfl (OpQ.opL (q_bin rfl rfl rfl) rfl ?_)
            refine XL.q (q_pickT rfl rfl) rfl ?_
            refine XL.fin (kp 8 rfl (kp 9 rfl (kp 10 rfl (kp 62 rfl kn)))) ?_
            refine XC.cond rfl (fun hc => ?_) (fun hc => ?_)
            ·
              refine XC.reg ?_
              refine XL.q (q_move rfl) rfl ?_
              refine XL.q (q_conv (k' := .i64) rfl (by kernel_rfl)) rfl ?_
              refine XL.q (q_neg rfl) rfl ?_
              refine XL.q (q_mkIf rfl (by kernel_rfl)) rfl ?_
              refine XL.q (q_assign rfl) rfl ?_
              refine XL.q (q_assign rfl) rfl ?_
              refine XL.fin (kp 6 rfl (kp 7 rfl kn)) ?_
              refine XC.ret ?_
              refine tr ?_
              first | exact ⟨_, _, [], res2 rfl rfl rfl, List.Sublist.refl _, by simp, _, some 1, rfl, i64_0, by first | assumption | simp [okp]⟩ | exact ⟨_, _, [], res2 rfl rfl rfl, List.Sublist.refl _, by simp, _, some 1, rfl, wrap_i _, by first | assumption | simp [okp]⟩ | exact ⟨_, _, [], res2 rfl rfl rfl, List.Sublist.refl _, by simp, _, some 2, rfl, i64_0, by first | assumption | simp [okp]⟩ | exact ⟨_, _, [], res2 rfl rfl rfl, List.Sublist.refl _, by simp, _, some 2, rfl, wrap_i _, by first | assumption | simp [okp]⟩ | exact ⟨_, _, [], res2 rfl rfl rfl, List.Sublist.refl _, by simp, _, none, rfl, i64_0, by first | assumption | simp [okp]⟩ | exact ⟨_, _, [], res2 rfl rfl rfl, List.Sublist.refl _, by simp, _, none, rfl, wrap_i _, by first | assumption | simp [okp]⟩ | exact ⟨_, _, [], res2 rfl rfl rfl, List.Sublist.refl _, by simp, _, p29, rfl, i64_0, by first | assumption | simp [okp]⟩ | exact ⟨_, _, [], res2 rfl rfl rfl, List.Sublist.refl _, by simp, _, p29, rfl, wrap_i _, by first | assumption | simp [okp]⟩
            ·
              refine XC.skip ?_
              refine nx (kp 8 rfl (kp 9 rfl kn)) ?_
              refine XC.reg ?_
              refine XL.q (q_move rfl) rfl ?_
              refine XL.q (q_conv (k' := .i64) rfl (by kernel_rfl)) rfl ?_
              refine XL.q (q_assign rfl) rfl ?_
              refine XL.fin (kp 8 rfl (kp 11 rfl kn)) ?_
              refine XC.seq ?_
              refine XC.reg ?_
              refine XL.q (q_move rfl) rfl ?_
              refine XL.fin (kp 11 rfl (kp 69 rfl kn)) ?_
              refine XC.cond rfl (fun hc => ?_) (fun hc => ?_)
              ·
                refine XC.reg1 ?_
                refine XL.q (q_move rfl) rfl ?_
                refine XL.q (q_neg rfl) rfl ?_
                refine XL.q (q_assign rfl) rfl ?_
                refine XL.fin (kp 11 rfl kn) ?_
                refine XC.reg ?_
                refine XL.q (q_move rfl) rfl ?_
                refine XL.q (q_assign rfl) rfl ?_
                refine XL.q (q_assign rfl) rfl ?_
                refine XL.fin (kp 6 rfl (kp 7 rfl kn)) ?_
                refine XC.ret ?_
                first | exact ⟨_, _, [], res2 rfl rfl rfl, List.Sublist.refl _, by simp, _, some 1, rfl, i64_0, by first | assumption | simp [okp]⟩ | exact ⟨_, _, [], res2 rfl rfl rfl, List.Sublist.refl _, by simp, _, some 1, rfl, wrap_i _, by first | assumption | simp [okp]⟩ | exact ⟨_, _, [], res2 rfl rfl rfl, List.Sublist.refl _, by simp, _, some 2, rfl, i64_0, by first | assumption | simp [okp]⟩ | exact ⟨_, _, [], res2 rfl rfl rfl, List.Sublist.refl _, by simp, _, some 2, rfl, wrap_i _, by first | assumption | simp [okp]⟩ | exact ⟨_, _, [], res2 rfl rfl rfl, List.Sublist.refl _, by simp, _, none, rfl, i64_0, by first | assumption | simp [okp]⟩ | exact ⟨_, _, [], res2 rfl rfl rfl, List.Sublist.refl _, by simp, _, none, rfl, wrap_i _, by first | assumption | simp [okp]⟩ | exact ⟨_, _, [], res2 rfl rfl rfl, List.Sublist.refl _, by simp, _, p29, rfl, i64_0, by first | assumption | simp [okp]⟩ | exact ⟨_, _, [], res2 rfl rfl rfl, List.Sublist.refl _, by simp, _, p29, rfl, wrap_i _, by first | assumption | simp [okp]⟩
              ·
                refine XC.skip ?_
                refine nx (kp 11 rfl kn) ?_
                refine XC.reg ?_
                refine XL.q (q_move rfl) rfl ?_
                refine XL.q (q_assign rfl) rfl ?_
                refine XL.q (q_assign rfl) rfl ?_
                refine XL.fin (kp 6 rfl (kp 7 rfl kn)) ?_
                refine XC.ret ?_
                first | exact ⟨_, _, [], res2 rfl rfl rfl, List.Sublist.refl _, by simp, _, some 1, rfl, i64_0, by first | assumption | simp [okp]⟩ | exact ⟨_, _, [], res2 rfl rfl rfl, List.Sublist.refl _, by simp, _, some 1, rfl, wrap_i _, by first | assumption | simp [okp]⟩ | exact ⟨_, _, [], res2 rfl rfl rfl, List.Sublist.refl _, by simp, _, some 2, rfl, i64_0, by first | assumption | simp [okp]⟩ | exact ⟨_, _, [], res2 rfl rfl rfl, List.Sublist.refl _, by simp, _, some 2, rfl, wrap_i _, by first | assumption | simp [okp]⟩ | exact ⟨_, _, [], res2 rfl rfl rfl, List.Sublist.refl _, by simp, _, none, rfl, i64_0, by first | assumption | simp [okp]⟩ | exact ⟨_, _, [], res2 rfl rfl rfl, List.Sublist.refl _, by simp, _, none, rfl, wrap_i _, by first | assumption | simp [okp]⟩ | exact ⟨_, _, [], res2 rfl rfl rfl, List.Sublist.refl _, by simp, _, p29, rfl, i64_0, by first | assumption | simp [okp]⟩ | exact ⟨_, _, [], res2 rfl rfl rfl, List.Sublist.refl _, by simp, _, p29, rfl, wrap_i _, by first | assumption | simp [okp]⟩
          ·
            refine XL.gn rfl rfl rfl rfl ?_
            refine XL.gn rfl rfl rfl rfl ?_
            refine XL.gn rfl rfl rfl rfl ?_
            refine XL.q (q_pickF rfl rfl) rfl ?_
            refine XL.fin (kp 8 rfl (kp 9 rfl (kp 10 rfl (kp 62 rfl kn)))) ?_
            refine XC.condF rfl ?_
            refine XC.skip ?_
            refine nx (kp 8 rfl (kp 9 rfl kn)) ?_
            refine XC.reg ?_
            refine XL.q (q_move rfl) rfl ?_
            refine XL.q (q_conv (k' := .i64) rfl (by kernel_rfl)) rfl ?_
            refine XL.q (q_assign rfl) rfl ?_
            refine XL.fin (kp 8 rfl (kp 11 rfl kn)) ?_
            refine XC.seq ?_
            refine XC.reg ?_
            refine XL.q (q_move rfl) rfl ?_
            refine XL.fin (kp 11 rfl (kp 69 rfl kn)) ?_
            refine XC.cond rfl (fun hc => ?_) (fun hc => ?_)
            ·
              refine XC.reg1 ?_
              refine XL.q (q_move rfl) rfl ?_
              refine XL.q (q_neg rfl) rfl ?_
              refine XL.q (q_assign rfl) rfl ?_
              refine XL.fin (kp 11 rfl kn) ?_
              refine XC.reg ?_
              refine XL.q (q_move rfl) rfl ?_
              refine XL.q (q_assign rfl) rfl ?_
              refine XL.q (q_assign rfl) rfl ?_
              refine XL.fin (kp 6 rfl (kp 7 rfl kn)) ?_
              refine XC.ret ?_
              first | exact ⟨_, _, [], res2 rfl rfl rfl, List.Sublist.refl _, by simp, _, some 1, rfl, i64_0, by first | assumption | simp [okp]⟩ | exact ⟨_, _, [], res2 rfl rfl rfl, List.Sublist.refl _, by simp, _, some 1, rfl, wrap_i _, by first | assumption | simp [okp]⟩ | exact ⟨_, _, [], res2 rfl rfl rfl, List.Sublist.refl _, by simp, _, some 2, rfl, i64_0, by first | assumption | simp [okp]⟩ | exact ⟨_, _, [], res2 rfl rfl rfl, List.Sublist.refl _, by simp, _, some 2, rfl, wrap_i _, by first | assumption | simp [okp]⟩ | exact ⟨_, _, [], res2 rfl rfl rfl, List.Sublist.refl _, by simp, _, none, rfl, i64_0, by first | assumption | simp [okp]⟩ | exact ⟨_, _, [], res2 rfl rfl rfl, List.Sublist.refl _, by simp, _, none, rfl, wrap_i _, by first | assumption | simp [okp]⟩ | exact ⟨_, _, [], res2 rfl rfl rfl, List.Sublist.refl _, by simp, _, p29, rfl, i64_0, by first | assumption | simp [okp]⟩ | exact ⟨_, _, [], res2 rfl rfl rfl, List.Sublist.refl _, by simp, _, p29, rfl, wrap_i _, by first | assumption | simp [okp]⟩
            ·
              refine XC.skip ?_
              refine nx (kp 11 rfl kn) ?_
              refine XC.reg ?_
              refine XL.q (q_move rfl) rfl ?_
              refine XL.q (q_assign rfl) rfl ?_
              refine XL.q (q_assign rfl) rfl ?_
              refine XL.fin (kp 6 rfl (kp 7 rfl kn)) ?_
              refine XC.ret ?_
              first | exact ⟨_, _, [], res2 rfl rfl rfl, List.Sublist.refl _, by simp, _, some 1, rfl, i64_0, by first | assumption | simp [okp]⟩ | exact ⟨_, _, [], res2 rfl rfl rfl, List.Sublist.refl _, by simp, _, some 1, rfl, wrap_i _, by first | assumption | simp [okp]⟩ | exact ⟨_, _, [], res2 rfl rfl rfl, List.Sublist.refl _, by simp, _, some 2, rfl, i64_0, by first | assumption | simp [okp]⟩ | exact ⟨_, _, [], res2 rfl rfl rfl, List.Sublist.refl _, by simp, _, some 2, rfl, wrap_i _, by first | assumption | simp [okp]⟩ | exact ⟨_, _, [], res2 rfl rfl rfl, List.Sublist.refl _, by simp, _, none, rfl, i64_0, by first | assumption | simp [okp]⟩ | exact ⟨_, _, [], res2 rfl rfl rfl, List.Sublist.refl _, by simp, _, none, rfl, wrap_i _, by first | assumption | simp [okp]⟩ | exact ⟨_, _, [], res2 rfl rfl rfl, List.Sublist.refl _, by simp, _, p29, rfl, i64_0, by first | assumption | simp [okp]⟩ | exact ⟨_, _, [], res2 rfl rfl rfl, List.Sublist.refl _, by simp, _, p29, rfl, wrap_i _, by first | assumption | simp [okp]⟩

set_option maxRecDepth 100000 in
theorem atoi0_any (ws : List Nat) (hw : B256 ws) (hl : ws.length ≤ 1099511627776) (A : Mem) : FnX Tryd.prog 57 [.string (txt ws)] [] A fun r M J => ∃ (n : Int) (p : Option Int), r = .tuple #[.int .i64 n, errV 116 p] ∧ i64 n ∧ okp p := by
  haveI := hw
  refine FnX.enter (N := 77) Tryd.func57 rfl rfl rfl fun w => ?_
  refine XC.keep (kp 0 rfl kn) ?_
  refine XC.reg ?_
  refine XL.q (q_assign rfl) rfl ?_
  refine XL.q (q_assign rfl) rfl ?_
  refine XL.fin (kp 0 rfl kn) ?_
  refine XC.reg ?_
  refine XL.q (q_move rfl) rfl ?_
  refine XL.q (q_sLen rfl rfl (by kernel_rfl)) rfl ?_
  refine XL.q (q_assign rfl) rfl ?_
  refine XL.fin (kp 0 rfl (kp 4 rfl kn)) ?_
  refine XC.seq ?_
  refine XC.reg ?_
  refine XL.q (q_move rfl) rfl ?_
  refine XL.gn rfl rfl rfl rfl ?_
  refine XL.gn rfl rfl rfl rfl ?_
  refine XL.gn rfl rfl rfl rfl ?_
  refine XL.gu rfl rfl rfl ?_
  refine XL.gu rfl rfl rfl ?_
  refine XL.gn rfl rfl rfl rfl ?_
  refine XL.q (q_pickF rfl rfl) rfl ?_
  refine XL.q (q_move rfl) rfl ?_
  refine XL.gy rfl rfl (OpQ.opL (q_move rfl) rfl ?_)
  refine XL.gy rfl rfl (OpQ.opL (q_move rfl) rfl ?_)
  refine XL.gy rfl rfl (OpQ.opL (q_bin rfl rfl rfl) rfl ?_)
  refine XL.gy rfl rfl (OpQ.opL (q_move rfl) rfl ?_)
  refine XL.split (t := 25) rfl (fun hb => ?_) (fun hb => ?_)
  ·
    refine XL.gy rfl rfl (OpQ.opL (q_move rfl) rfl ?_)
    refine XL.gy rfl rfl (OpQ.opL (q_bin rfl rfl rfl) rfl ?_)
    refine XL.gy rfl rfl (OpQ.opL (q_pickT rfl rfl) rfl ?_)
    refine XL.gy rfl rfl (OpQ.opL (q_pickT rfl rfl) rfl ?_)
    refine XL.q (q_pickF rfl rfl) rfl ?_
    refine XL.fin (kp 0 rfl (kp 30 rfl kn)) ?_
    refine XC.cond rfl (fun hc => ?_) (fun hc => ?_)
    ·
      have hpos : 0 < ws.length := by have h := of_decide_eq_true hb; omega
      refine XC.reg ?_
      refine XL.q (q_move rfl) rfl ?_
      refine XL.q (q_assign rfl) rfl ?_
      refine XL.fin (kp 0 rfl (kp 5 rfl kn)) ?_
      refine XC.join (α := List Nat) (fun s => [(0, .string (txt s)), (5, .string (txt ws))]) (fun _ => []) (fun _ => []) (fun s => B256 s ∧ s.length ≤ 1099511627776) ?_ ?_
      ·
        refine XC.reg ?_
        refine XL.q (q_move rfl) rfl ?_
        refine XL.q (q_sAt (a := 0) rfl rfl B256.lt rfl (by kernel_rfl) rfl (by omega)) rfl ?_
        refine XL.q (q_bin rfl rfl rfl) rfl ?_
        refine XL.q (q_move rfl) rfl ?_
        refine XL.split (t := 35) rfl (fun hb => ?_) (fun hb => ?_)
        ·
          refine XL.gn rfl rfl rfl rfl ?_
          refine XL.gn rfl rfl rfl rfl ?_
          refine XL.gn rfl rfl rfl rfl ?_
          refine XL.q (q_pickT rfl rfl) rfl ?_
          refine XL.fin (kp 0 rfl (kp 5 rfl (kp 39 rfl kn))) ?_
          refine XC.condT rfl ?_
          refine XC.reg ?_
          refine XL.q (q_move rfl) rfl ?_
          refine XL.q (q_sLo (a := 1) rfl rfl rfl (by kernel_rfl) rfl (by first | omega | (simp only [List.length_append, List.length_cons, List.length_nil, List.length_take, List.length_drop]; omega))) rfl ?_
          refine XL.q (q_assign rfl) rfl ?_
          refine XL.fin (kp 0 rfl (kp 5 rfl kn)) ?_
          refine XC.reg ?_
          refine XL.q (q_move rfl) rfl ?_
          refine XL.q (q_sLen rfl rfl (by kernel_rfl)) rfl ?_
          refine XL.q (q_bin rfl rfl rfl) rfl ?_
          refine XL.fin (kp 0 rfl (kp 5 rfl (kp 44 rfl kn))) ?_
          refine XC.cond rfl (fun hc => ?_) (fun hc => ?_)
          ·
            refine XC.reg ?_
            refine XL.q (q_mkIf rfl (by kernel_rfl)) rfl ?_
            refine XL.q (q_assign rfl) rfl ?_
            refine XL.q (q_assign rfl) rfl ?_
            refine XL.fin (kp 2 rfl (kp 3 rfl kn)) ?_
            refine XC.ret ?_
            refine jr ?_
            refine tr ?_
            first | exact ⟨_, _, [], res2 rfl rfl rfl, List.Sublist.refl _, by simp, _, some 2, rfl, i64_0, by first | assumption | simp [okp]⟩ | exact ⟨_, _, [], res2 rfl rfl rfl, List.Sublist.refl _, by simp, _, some 2, rfl, wrap_i _, by first | assumption | simp [okp]⟩ | exact ⟨_, _, [], res2 rfl rfl rfl, List.Sublist.refl _, by simp, _, some 2, rfl, hi64, by first | assumption | simp [okp]⟩ | exact ⟨_, _, [], res2 rfl rfl rfl, List.Sublist.refl _, by simp, _, some 2, rfl, hn72, by first | assumption | simp [okp]⟩ | exact ⟨_, _, [], res2 rfl rfl rfl, List.Sublist.refl _, by simp, _, none, rfl, i64_0, by first | assumption | simp [okp]⟩ | exact ⟨_, _, [], res2 rfl rfl rfl, List.Sublist.refl _, by simp, _, none, rfl, wrap_i _, by first | assumption | simp [okp]⟩ | exact ⟨_, _, [], res2 rfl rfl rfl, List.Sublist.refl _, by simp, _, none, rfl, hi64, by first | assumption | simp [okp]⟩ | exact ⟨_, _, [], res2 rfl rfl rfl, List.Sublist.refl _, by simp, _, none, rfl, hn72, by first | assumption | simp [okp]⟩ | exact ⟨_, _, [], res2 rfl rfl rfl, List.Sublist.refl _, by simp, _, p72, rfl, i64_0, by first | assumption | simp [okp]⟩ | exact ⟨_, _, [], res2 rfl rfl rfl, List.Sublist.refl _, by simp, _, p72, rfl, wrap_i _, by first | assumption | simp [okp]⟩ | exact ⟨_, _, [], res2 rfl rfl rfl, List.Sublist.refl _, by simp, _, p72, rfl, hi64, by first | assumption | simp [okp]⟩ | exact ⟨_, _, [], res2 rfl rfl rfl, List.Sublist.refl _, by simp, _, p72, rfl, hn72, by first | assumption | simp [okp]⟩
          ·
            refine XC.skip ?_
            first | exact jn ws ⟨hw, hl⟩ (kp 0 rfl (kp 5 rfl kn)) .rfl (fun _ h => h) | exact jn (ws.drop 1) ⟨⟨fun x hx => hw.lt x (List.mem_of_mem_drop hx)⟩, by rw [List.length_drop]; omega⟩ (kp 0 rfl (kp 5 rfl kn)) .rfl (fun _ h => h)
        ·
          refine XL.gy rfl rfl (OpQ.opL (q_move rfl) rfl ?_)
          refine XL.gy rfl rfl (OpQ.opL (q_sAt (a := 0) rfl rfl B256.lt rfl (by kernel_rfl) rfl (by omega)) rfl ?_)
          refine XL.gy rfl rfl (OpQ.opL (q_bin rfl rfl rfl) rfl ?_)
          refine XL.q (q_pickF rfl rfl) rfl ?_
          refine XL.fin (kp 0 rfl (kp 5 rfl (kp 39 rfl kn))) ?_
          refine XC.cond rfl (fun hc => ?_) (fun hc => ?_)
          ·
            refine XC.reg ?_
            refine XL.q (q_move rfl) rfl ?_
            refine XL.q (q_sLo (a := 1) rfl rfl rfl (by kernel_rfl) rfl (by first | omega | (simp only [List.length_append, List.length_cons, List.length_nil, List.length_take, List.length_drop]; omega))) rfl ?_
            refine XL.q (q_assign rfl) rfl ?_
            refine XL.fin (kp 0 rfl (kp 5 rfl kn)) ?_
            refine XC.reg ?_
            refine XL.q (q_move rfl) rfl ?_
            refine XL.q (q_sLen rfl rfl (by kernel_rfl)) rfl ?_
            refine XL.q (q_bin rfl rfl rfl) rfl ?_
            refine XL.fin (kp 0 rfl (kp 5 rfl (kp 44 rfl kn))) ?_
            refine XC.cond rfl (fun hc => ?_) (fun hc => ?_)
            ·
              refine XC.reg ?_
              refine XL.q (q_mkIf rfl (by kernel_rfl)) rfl ?_
              refine XL.q (q_assign rfl) rfl ?_
              refine XL.q (q_assign rfl) rfl ?_
              refine XL.fin (kp 2 rfl (kp 3 rfl kn)) ?_
              refine XC.ret ?_
              refine jr ?_
              refine tr ?_
              first | exact ⟨_, _, [], res2 rfl rfl rfl, List.Sublist.refl _, by simp, _, some 2, rfl, i64_0, by first | assumption | simp [okp]⟩ | exact ⟨_, _, [], res2 rfl rfl rfl, List.Sublist.refl _, by simp, _, some 2, rfl, wrap_i _, by first | assumption | simp [okp]⟩ | exact ⟨_, _, [], res2 rfl rfl rfl, List.Sublist.refl _, by simp, _, some 2, rfl, hi64, by first | assumption | simp [okp]⟩ | exact ⟨_, _, [], res2 rfl rfl rfl, List.Sublist.refl _, by simp, _, some 2, rfl, hn72, by first | assumption | simp [okp]⟩ | exact ⟨_, _, [], res2 rfl rfl rfl, List.Sublist.refl _, by simp, _, none, rfl, i64_0, by first | assumption | simp [okp]⟩ | exact ⟨_, _, [], res2 rfl rfl rfl, List.Sublist.refl _, by simp, _, none, rfl, wrap_i _, by first | assumption | simp [okp]⟩ | exact ⟨_, _, [], res2 rfl rfl rfl, List.Sublist.refl _, by simp, _, none, rfl, hi64, by first | assumption | simp [okp]⟩ | exact ⟨_, _, [], res2 rfl rfl rfl, List.Sublist.refl _, by simp, _, none, rfl, hn72, by first | assumption | simp [okp]⟩ | exact ⟨_, _, [], res2 rfl rfl rfl, List.Sublist.refl _, by simp, _, p72, rfl, i64_0, by first | assumption | simp [okp]⟩ | exact ⟨_, _, [], res2 rfl rfl rfl, List.Sublist.refl _, by simp, _, p72, rfl, wrap_i _, by first | assumption | simp [okp]⟩ | exact ⟨_, _, [], res2 rfl rfl rfl, List.Sublist.refl _, by simp, _, p72, rfl, hi64, by first | assumption | simp [okp]⟩ | exact ⟨_, _, [], res2 rfl rfl rfl, List.Sublist.refl _, by simp, _, p72, rfl, hn72, by first | assumption | simp [okp]⟩
            ·
              refine XC.skip ?_
              first | exact jn ws ⟨hw, hl⟩ (kp 0 rfl (kp 5 rfl kn)) .rfl (fun _ h => h) | exact jn (ws.drop 1) ⟨⟨fun x hx => hw.lt x (List.mem_of_mem_drop hx)⟩, by rw [List.length_drop]; omega⟩ (kp 0 rfl (kp 5 rfl kn)) .rfl (fun _ h => h)
          ·
            refine XC.skip ?_
            first | exact jn ws ⟨hw, hl⟩ (kp 0 rfl (kp 5 rfl kn)) .rfl (fun _ h => h) | exact jn (ws.drop 1) ⟨⟨fun x hx => hw.lt x (List.mem_of_mem_drop hx)⟩, by rw [List.length_drop]; omega⟩ (kp 0 rfl (kp 5 rfl kn)) .rfl (fun _ h => h)
      ·
        rintro w2 ⟨hw2, hl2⟩
        haveI := hw2
        refine XC.reg ?_
        refine XL.q (q_assign rfl) rfl ?_
        refine XL.fin (kp 0 rfl (kp 5 rfl (kp 6 rfl kn))) ?_
        refine XC.seq ?_
        refine XC.reg ?_
        refine XL.q (q_move rfl) rfl ?_
        refine XL.lo rfl (l_toBytes (e := 5) rfl rfl B256.lt (by kernel_rfl) (by kernel_rfl) (by kernel_rfl) rfl fun v47 B47 hs47 => ?_)
        refine XL.q (q_lenV2 (sz := 1) rfl (by kernel_rfl) (by first | assumption | exact Sl.rd (by assumption) (fun _ h => h))) rfl ?_
        refine XL.q (q_move rfl) rfl ?_
        refine XL.fin (kp 5 rfl (kp 6 rfl (kp 47 rfl (kp 48 rfl (kp 49 rfl kn))))) ?_
        refine XC.block ?_
        refine XC.loop (α := Int × Nat) (fun s => [(5, .string (txt ws)), (6, .int .i64 s.1), (47, v47), (48, .int .i64 ((w2.length : Nat) : Int)), (49, .int .i64 (s.2 : Int))]) (fun _ => B47) (fun _ => []) (fun s => s.2 ≤ w2.length ∧ i64 s.1) (fun s => w2.length - s.2) ⟨0, 0⟩ ⟨Nat.zero_le _, i64_0⟩ (kp 5 rfl (kp 6 rfl (kp 47 rfl (kp 48 rfl (kp 49 rfl kn))))) (Fit.eq (by simp)) (fun _ h => h) ?_
        rintro ⟨n, i⟩ ⟨hi, hi64⟩
        dsimp only at hi hi64 ⊢
        haveI := hs47.cel
        refine XC.reg ?_
        refine XL.q (q_bin rfl rfl rfl) rfl ?_
        refine XL.fin (kp 5 rfl (kp 6 rfl (kp 47 rfl (kp 48 rfl (kp 49 rfl (kp 50 rfl kn)))))) ?_
        refine XC.seq ?_
        refine XC.cond rfl (fun hc => ?_) (fun hc => ?_)
        ·
          have hlt : i < w2.length := by simp at hc; omega
          have hc256 : w2.getD i 0 < 256 := by rw [List.getD_eq_getElem?_getD, List.getElem?_eq_getElem hlt]; exact hw2.lt _ (List.getElem_mem hlt)
          refine XC.skip ?_
          refine nx (kp 5 rfl (kp 6 rfl (kp 47 rfl (kp 48 rfl (kp 49 rfl kn))))) ?_
          refine XC.seq ?_
          refine XC.block ?_
          refine XC.reg ?_
          refine XL.q (q_atV2 (sz := 1) rfl rfl (by kernel_rfl) rfl (by first | assumption | exact Sl.rd (by assumption) (fun _ h => h)) (by omega)) rfl ?_
          refine XL.q (q_ldVN2 (k := .u8) rfl (by kernel_rfl) (by first | exact Rd.mono (by assumption) SubC.sub | exact Sl.rd (by assumption) SubC.sub) (by omega)) rfl ?_
          refine XL.q (q_assign rfl) rfl ?_
          refine XL.fin (kp 5 rfl (kp 6 rfl (kp 8 rfl (kp 47 rfl (kp 48 rfl (kp 49 rfl kn)))))) ?_
          refine XC.reg ?_
          refine XL.q (q_move rfl) rfl ?_
          refine XL.q (q_bin rfl rfl rfl) rfl ?_
          refine XL.q (q_assign rfl) rfl ?_
          refine XL.fin (kp 5 rfl (kp 6 rfl (kp 8 rfl (kp 47 rfl (kp 48 rfl (kp 49 rfl kn)))))) ?_
          refine XC.seq ?_
          refine XC.reg ?_
          refine XL.q (q_move rfl) rfl ?_
          refine XL.q (q_bin rfl rfl rfl) rfl ?_
          refine XL.fin (kp 5 rfl (kp 6 rfl (kp 8 rfl (kp 47 rfl (kp 48 rfl (kp 49 rfl (kp 56 rfl kn))))))) ?_
          refine XC.cond rfl (fun hc => ?_) (fun hc => ?_)
          ·
            refine XC.reg ?_
            refine XL.q (q_mkIf rfl (by kernel_rfl)) rfl ?_
            refine XL.q (q_assign rfl) rfl ?_
            refine XL.q (q_assign rfl) rfl ?_
            refine XL.fin (kp 2 rfl (kp 3 rfl kn)) ?_
            refine XC.ret ?_
            refine tr ?_
            refine br ?_
            refine tr ?_
            refine rr ?_
            refine br ?_
            refine tr ?_
            refine tr ?_
            first | exact ⟨_, _, [], res2 rfl rfl rfl, List.Sublist.refl _, by simp, _, some 2, rfl, i64_0, by first | assumption | simp [okp]⟩ | exact ⟨_, _, [], res2 rfl rfl rfl, List.Sublist.refl _, by simp, _, some 2, rfl, wrap_i _, by first | assumption | simp [okp]⟩ | exact ⟨_, _, [], res2 rfl rfl rfl, List.Sublist.refl _, by simp, _, some 2, rfl, hi64, by first | assumption | simp [okp]⟩ | exact ⟨_, _, [], res2 rfl rfl rfl, List.Sublist.refl _, by simp, _, some 2, rfl, hn72, by first | assumption | simp [okp]⟩ | exact ⟨_, _, [], res2 rfl rfl rfl, List.Sublist.refl _, by simp, _, none, rfl, i64_0, by first | assumption | simp [okp]⟩ | exact ⟨_, _, [], res2 rfl rfl rfl, List.Sublist.refl _, by simp, _, none, rfl, wrap_i _, by first | assumption | simp [okp]⟩ | exact ⟨_, _, [], res2 rfl rfl rfl, List.Sublist.refl _, by simp, _, none, rfl, hi64, by first | assumption | simp [okp]⟩ | exact ⟨_, _, [], res2 rfl rfl rfl, List.Sublist.refl _, by simp, _, none, rfl, hn72, by first | assumption | simp [okp]⟩ | exact ⟨_, _, [], res2 rfl rfl rfl, List.Sublist.refl _, by simp, _, p72, rfl, i64_0, by first | assumption | simp [okp]⟩ | exact ⟨_, _, [], res2 rfl rfl rfl, List.Sublist.refl _, by simp, _, p72, rfl, wrap_i _, by first | assumption | simp [okp]⟩ | exact ⟨_, _, [], res2 rfl rfl rfl, List.Sublist.refl _, by simp, _, p72, rfl, hi64, by first | assumption | simp [okp]⟩ | exact ⟨_, _, [], res2 rfl rfl rfl, List.Sublist.refl _, by simp, _, p72, rfl, hn72, by first | assumption | simp [okp]⟩
          ·
            refine XC.skip ?_
            refine nx (kp 5 rfl (kp 6 rfl (kp 8 rfl (kp 47 rfl (kp 48 rfl (kp 49 rfl kn)))))) ?_
            refine XC.reg1 ?_
            refine XL.q (q_move rfl) rfl ?_
            refine XL.q (q_bin rfl rfl rfl) rfl ?_
            refine XL.q (q_move rfl) rfl ?_
            refine XL.q (q_conv (k' := .i64) rfl (by kernel_rfl)) rfl ?_
            refine XL.q (q_bin rfl rfl rfl) rfl ?_
            refine XL.q (q_assign rfl) rfl ?_
            refine XL.nil ?_
            refine nb ?_
            refine nx (kp 5 rfl (kp 6 rfl (kp 47 rfl (kp 48 rfl (kp 49 rfl kn))))) ?_
            refine XC.reg1 ?_
            refine XL.q (q_addI (b := 1) rfl rfl rfl rfl (by omega)) rfl ?_
            refine XL.q (q_move rfl) rfl ?_
            refine XL.nil ?_
            exact rn (_, i + 1) ⟨by dsimp only; omega, wrap_i _⟩ (by dsimp only; omega) (kp 5 rfl (kp 6 rfl (kp 47 rfl (kp 48 rfl (kp 49 rfl kn))))) .rfl (fun _ h => h)
        ·
          refine XC.exit ?_
          refine te ?_
          refine re ?_
          refine be rfl ?_
          refine nx (kp 5 rfl (kp 6 rfl kn)) ?_
          refine XC.seq ?_
          refine XC.reg ?_
          refine XL.q (q_move rfl) rfl ?_
          refine XL.q (q_sAt (a := 0) rfl rfl B256.lt rfl (by kernel_rfl) rfl (by omega)) rfl ?_
          refine XL.q (q_bin rfl rfl rfl) rfl ?_
          refine XL.fin (kp 6 rfl (kp 66 rfl kn)) ?_
          refine XC.cond rfl (fun hc => ?_) (fun hc => ?_)
          ·
            refine XC.reg1 ?_
            refine XL.q (q_move rfl) rfl ?_
            refine XL.q (q_neg rfl) rfl ?_
            refine XL.q (q_assign rfl) rfl ?_
            refine XL.fin (kp 6 rfl kn) ?_
            refine XC.reg ?_
            refine XL.q (q_move rfl) rfl ?_
            refine XL.q (q_assign rfl) rfl ?_
            refine XL.q (q_assign rfl) rfl ?_
            refine XL.fin (kp 2 rfl (kp 3 rfl kn)) ?_
            refine XC.ret ?_
            refine tr ?_
            first | exact ⟨_, _, [], res2 rfl rfl rfl, List.Sublist.refl _, by simp, _, some 2, rfl, i64_0, by first | assumption | simp [okp]⟩ | exact ⟨_, _, [], res2 rfl rfl rfl, List.Sublist.refl _, by simp, _, some 2, rfl, wrap_i _, by first | assumption | simp [okp]⟩ | exact ⟨_, _, [], res2 rfl rfl rfl, List.Sublist.refl _, by simp, _, some 2, rfl, hi64, by first | assumption | simp [okp]⟩ | exact ⟨_, _, [], res2 rfl rfl rfl, List.Sublist.refl _, by simp, _, some 2, rfl, hn72, by first | assumption | simp [okp]⟩ | exact ⟨_, _, [], res2 rfl rfl rfl, List.Sublist.refl _, by simp, _, none, rfl, i64_0, by first | assumption | simp [okp]⟩ | exact ⟨_, _, [], res2 rfl rfl rfl, List.Sublist.refl _, by simp, _, none, rfl, wrap_i _, by first | assumption | simp [okp]⟩ | exact ⟨_, _, [], res2 rfl rfl rfl, List.Sublist.refl _, by simp, _, none, rfl, hi64, by first | assumption | simp [okp]⟩ | exact ⟨_, _, [], res2 rfl rfl rfl, List.Sublist.refl _, by simp, _, none, rfl, hn72, by first | assumption | simp [okp]⟩ | exact ⟨_, _, [], res2 rfl rfl rfl, List.Sublist.refl _, by simp, _, p72, rfl, i64_0, by first | assumption | simp [okp]⟩ | exact ⟨_, _, [], res2 rfl rfl rfl, List.Sublist.refl _, by simp, _, p72, rfl, wrap_i _, by first | assumption | simp [okp]⟩ | exact ⟨_, _, [], res2 rfl rfl rfl, List.Sublist.refl _, by simp, _, p72, rfl, hi64, by first | assumption | simp [okp]⟩ | exact ⟨_, _, [], res2 rfl rfl rfl, List.Sublist.refl _, by simp, _, p72, rfl, hn72, by first | assumption | simp [okp]⟩
          ·
            refine XC.skip ?_
            refine nx (kp 6 rfl kn) ?_
            refine XC.reg ?_
            refine XL.q (q_move rfl) rfl ?_
            refine XL.q (q_assign rfl) rfl ?_
            refine XL.q (q_assign rfl) rfl ?_
            refine XL.fin (kp 2 rfl (kp 3 rfl kn)) ?_
            refine XC.ret ?_
            refine tr ?_
            first | exact ⟨_, _, [], res2 rfl rfl rfl, List.Sublist.refl _, by simp, _, some 2, rfl, i64_0, by first | assumption | simp [okp]⟩ | exact ⟨_, _, [], res2 rfl rfl rfl, List.Sublist.refl _, by simp, _, some 2, rfl, wrap_i _, by first | assumption | simp [okp]⟩ | exact ⟨_, _, [], res2 rfl rfl rfl, List.Sublist.refl _, by simp, _, some 2, rfl, hi64, by first | assumption | simp [okp]⟩ | exact ⟨_, _, [], res2 rfl rfl rfl, List.Sublist.refl _, by simp, _, some 2, rfl, hn72, by first | assumption | simp [okp]⟩ | exact ⟨_, _, [], res2 rfl rfl rfl, List.Sublist.refl _, by simp, _, none, rfl, i64_0, by first | assumption | simp [okp]⟩ | exact ⟨_, _, [], res2 rfl rfl rfl, List.Sublist.refl _, by simp, _, none, rfl, wrap_i _, by first | assumption | simp [okp]⟩ | exact ⟨_, _, [], res2 rfl rfl rfl, List.Sublist.refl _, by simp, _, none, rfl, hi64, by first | assumption | simp [okp]⟩ | exact ⟨_, _, [], res2 rfl rfl rfl, List.Sublist.refl _, by simp, _, none, rfl, hn72, by first | assumption | simp [okp]⟩ | exact ⟨_, _, [], res2 rfl rfl rfl, List.Sublist.refl _, by simp, _, p72, rfl, i64_0, by first | assumption | simp [okp]⟩ | exact ⟨_, _, [], res2 rfl rfl rfl, List.Sublist.refl _, by simp, _, p72, rfl, wrap_i _, by first | assumption | simp [okp]⟩ | exact ⟨_, _, [], res2 rfl rfl rfl, List.Sublist.refl _, by simp, _, p72, rfl, hi64, by first | assumption | simp [okp]⟩ | exact ⟨_, _, [], res2 rfl rfl rfl, List.Sublist.refl _, by simp, _, p72, rfl, hn72, by first | assumption | simp [okp]⟩
    ·
      refine XC.skip ?_
      refine nx (kp 0 rfl kn) ?_
      refine XC.reg ?_
      refine XL.q (q_move rfl) rfl ?_
      refine XL.call (aS rfl (aS rfl (aS rfl a0))) (by kernel_rfl) (parseInt_spec ws hw hl _) rfl ?_
      rintro v72 M72 J72 ⟨n72, p72, rfl, hn72, ho72⟩
      refine XL.q (q_move rfl) rfl ?_
      refine XL.q (q_x0 rfl) rfl ?_
      refine XL.q (q_x1 rfl) rfl ?_
      refine XL.q (q_assign rfl) rfl ?_
      refine XL.q (q_assign rfl) rfl ?_
      refine XL.fin (kp 9 rfl (kp 10 rfl kn)) ?_
      refine XC.reg ?_
      refine XL.q (q_move rfl) rfl ?_
      refine XL.q (q_move rfl) rfl ?_
      refine XL.q (q_assign rfl) rfl ?_
      refine XL.q (q_assign rfl) rfl ?_
      refine XL.fin (kp 2 rfl (kp 3 rfl kn)) ?_
      refine XC.ret ?_
      first | exact ⟨_, _, [], res2 rfl rfl rfl, List.Sublist.refl _, by simp, _, some 2, rfl, i64_0, by first | assumption | simp [okp]⟩ | exact ⟨_, _, [], res2 rfl rfl rfl, List.Sublist.refl _, by simp, _, some 2, rfl, wrap_i _, by first | assumption | simp [okp]⟩ | exact ⟨_, _, [], res2 rfl rfl rfl, List.Sublist.refl _, by simp, _, some 2, rfl, hi64, by first | assumption | simp [okp]⟩ | exact ⟨_, _, [], res2 rfl rfl rfl, List.Sublist.refl _, by simp, _, some 2, rfl, hn72, by first | assumption | simp [okp]⟩ | exact ⟨_, _, [], res2 rfl rfl rfl, List.Sublist.refl _, by simp, _, none, rfl, i64_0, by first | assumption | simp [okp]⟩ | exact ⟨_, _, [], res2 rfl rfl rfl, List.Sublist.refl _, by simp, _, none, rfl, wrap_i _, by first | assumption | simp [okp]⟩ | exact ⟨_, _, [], res2 rfl rfl rfl, List.Sublist.refl _, by simp, _, none, rfl, hi64, by first | assumption | simp [okp]⟩ | exact ⟨_, _, [], res2 rfl rfl rfl, List.Sublist.refl _, by simp, _, none, rfl, hn72, by first | assumption | simp [okp]⟩ | exact ⟨_, _, [], res2 rfl rfl rfl, List.Sublist.refl _, by simp, _, p72, rfl, i64_0, by first | assumption | simp [okp]⟩ | exact ⟨_, _, [], res2 rfl rfl rfl, List.Sublist.refl _, by simp, _, p72, rfl, wrap_i _, by first | assumption | simp [okp]⟩ | exact ⟨_, _, [], res2 rfl rfl rfl, List.Sublist.refl _, by simp, _, p72, rfl, hi64, by first | assumption | simp [okp]⟩ | exact ⟨_, _, [], res2 rfl rfl rfl, List.Sublist.refl _, by simp, _, p72, rfl, hn72, by first | assumption | simp [okp]⟩
  ·
    refine XL.gn rfl rfl rfl rfl ?_
    refine XL.gn rfl rfl rfl rfl ?_
    refine XL.gy rfl rfl (OpQ.opL (q_pickF rfl rfl) rfl ?_)
    refine XL.gy rfl rfl (OpQ.opL (q_pickT rfl rfl) rfl ?_)
    refine XL.q (q_pickF rfl rfl) rfl ?_
    refine XL.fin (kp 0 rfl (kp 30 rfl kn)) ?_
    refine XC.condF rfl ?_
    refine XC.skip ?_
    refine nx (kp 0 rfl kn) ?_
    refine XC.reg ?_
    refine XL.q (q_move rfl) rfl ?_
    refine XL.call (aS rfl (aS rfl (aS rfl a0))) (by kernel_rfl) (parseInt_spec ws hw hl _) rfl ?_
    rintro v72 M72 J72 ⟨n72, p72, rfl, hn72, ho72⟩
    refine XL.q (q_move rfl) rfl ?_
    refine XL.q (q_x0 rfl) rfl ?_
    refine XL.q (q_x1 rfl) rfl ?_
    refine XL.q (q_assign rfl) rfl ?_
    refine XL.q (q_assign rfl) rfl ?_
    refine XL.fin (kp 9 rfl (kp 10 rfl kn)) ?_
    refine XC.reg ?_
    refine XL.q (q_move rfl) rfl ?_
    refine XL.q (q_move rfl) rfl ?_
    refine XL.q (q_assign rfl) rfl ?_
    refine XL.q (q_assign rfl) rfl ?_
    refine XL.fin (kp 2 rfl (kp 3 rfl kn)) ?_
    refine XC.ret ?_
    first | exact ⟨_, _, [], res2 rfl rfl rfl, List.Sublist.refl _, by simp, _, some 2, rfl, i64_0, by first | assumption | simp [okp]⟩ | exact ⟨_, _, [], res2 rfl rfl rfl, List.Sublist.refl _, by simp, _, some 2, rfl, wrap_i _, by first | assumption | simp [okp]⟩ | exact ⟨_, _, [], res2 rfl rfl rfl, List.Sublist.refl _, by simp, _, some 2, rfl, hi64, by first | assumption | simp [okp]⟩ | exact ⟨_, _, [], res2 rfl rfl rfl, List.Sublist.refl _, by simp, _, some 2, rfl, hn72, by first | assumption | simp [okp]⟩ | exact ⟨_, _, [], res2 rfl rfl rfl, List.Sublist.refl _, by simp, _, none, rfl, i64_0, by first | assumption | simp [okp]⟩ | exact ⟨_, _, [], res2 rfl rfl rfl, List.Sublist.refl _, by simp, _, none, rfl, wrap_i _, by first | assumption | simp [okp]⟩ | exact ⟨_, _, [], res2 rfl rfl rfl, List.Sublist.refl _, by simp, _, none, rfl, hi64, by first | assumption | simp [okp]⟩ | exact ⟨_, _, [], res2 rfl rfl rfl, List.Sublist.refl _, by simp, _, none, rfl, hn72, by first | assumption | simp [okp]⟩ | exact ⟨_, _, [], res2 rfl rfl rfl, List.Sublist.refl _, by simp, _, p72, rfl, i64_0, by first | assumption | simp [okp]⟩ | exact ⟨_, _, [], res2 rfl rfl rfl, List.Sublist.refl _, by simp, _, p72, rfl, wrap_i _, by first | assumption | simp [okp]⟩ | exact ⟨_, _, [], res2 rfl rfl rfl, List.Sublist.refl _, by simp, _, p72, rfl, hi64, by first | assumption | simp [okp]⟩ | exact ⟨_, _, [], res2 rfl rfl rfl, List.Sublist.refl _, by simp, _, p72, rfl, hn72, by first | assumption | simp [okp]⟩
