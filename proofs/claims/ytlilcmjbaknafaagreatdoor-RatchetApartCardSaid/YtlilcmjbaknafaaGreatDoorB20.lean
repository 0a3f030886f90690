/- The card of the law RatchetApart: it returns true for every input; each argument reads behind the call as it read before; the listed package variables are tied to the program's text. No further condition. -/
import Derived.Test.YtlilcmjbaknafaaGreatDoorB19
import Derived.Lib.LaidTab
import Derived.Stop.LaidErr
import Derived.MakeChecks
import Derived.Test.YtlilcmjbaknafaaGreatDoorCards
import Derived.Test.YtlilcmjbaknafaaGreatDoorTie
import Derived.Deep.DeepHandedRow
import Derived.Deep.DeepWitnessRowRef
import Derived.Lay
import Derived.LaidMore
set_option linter.unusedVariables false
set_option linter.unusedSimpArgs false
set_option maxRecDepth 100000
namespace Go.Proofs.YtlilcmjbaknafaaGreatDoor
open Go.Px
theorem RsR.sto {R : Mem} {r : Rsd} {vo vt vr vk vl vs : Value} {cb : Nat} {sks : List Skp} {M : Mem} (h : RsR R r vo vt vr vk vl vs) (hS : Sto R cb sks M) (hl : sks.length ≤ 1000) : RsR (M ++ R) ⟨r.own, r.their, r.root, r.sk, r.sn, r.tk, r.tn, r.prev, sks⟩ vo vt vr vk vl (.pointer (some ⟨cb, 0, none⟩)) := by
  have h' := h.mono (R' := M ++ R) fun x hx => List.mem_append_right _ hx
  obtain ⟨u, rows, B, rfl, hs, hw⟩ := hS.ex
  exact ⟨h'.own, h'.their, h'.root, h'.sk, h'.tk, ⟨cb, u, rows, rfl, List.mem_append_left _ List.mem_cons_self, hs.rd fun x hx => List.mem_append_left _ (List.mem_cons_of_mem _ hx), hw.mono skT fun x hx => List.mem_append_right _ hx⟩, h'.sn, h'.tn, h'.prev, hl⟩
theorem B8y {r : Rsd} {sks : List Skp} (h : sks ≠ r.sks) : (⟨r.own, r.their, r.root, r.sk, r.sn, r.tk, r.tn, r.prev, sks⟩ : Rsd) ≠ r := fun e => h (congrArg Rsd.sks e)
theorem A8S (pv : Value) (r : Rsd) (vo vt vr vk vl vs vw vx : Value) (A : Mem) (hr : RsR A r vo vt vr vk vl vs) (hsk : r.sk = []) (hw : Cel vw [vw]) (hx : Cel vx [vx]) (hp : Cel pv [pv]) : FnX Tryz.prog 16 [pv, .agg (rsC vo vt vr vk vl vs r).toArray, vw, vx] [] A fun q M J => M = [] ∧ q = .tuple #[.agg (rsC vo vt vr vk vl vs r).toArray, .agg #[.slice none 0 0, .int .u32 0, .int .u32 0], .slice none 0 0, .int .i64 2] := by
 haveI := hr.own.cel
 haveI := hr.their.cel
 haveI := hr.root.cel
 haveI := hr.sk.cel
 haveI := hr.tk.cel
 haveI := hr.st.cel
 unfold rsC
 refine FnX.enterZ (N := 52) Tryz.func16 rfl rfl rfl fun w_ => ?_
 refine B0 (D6 0 1 2 3) (A1 ?_)
 refine A4 rfl (bx_ fun b5 => ?_)
 refine A4 rfl (C4 (cs := [.slice none 0 0, .slice none 0 0, .slice none 0 0, .slice none 0 0, F7, .slice none 0 0, F7, F7, .pointer none]) kR rfl fun b8 => ?_)
 refine A4 rfl (C4 (cs := [.slice none 0 0, .int .u32 0, .int .u32 0]) kR rfl fun b9 => ?_)
 refine as_ (as_ (A0 (H9 0 2 3 5 8 9) (A3 (A1 ?_))))
 refine A2 (qf_ 3 3) rfl ?_
 refine A2 (qf_ 3 0) rfl ?_
 refine A2 ql_ rfl ?_
 refine A2 (G3 (sz := 1) rfl kR hr.sk.rd) rfl ?_
 refine A2 (F0 true rfl rfl (eqT (by rw [hsk]; rfl))) rfl ?_
 refine A0 (R9 0 2 3 5 8 9 19) ?_
 refine D1 rfl ?_
 refine A1 ?_
 refine A2 (qw_ 9) rfl ?_
 refine A2 (G1 (place := fun x => #[(0, 1), (1, 1), (2, 1)][x]?) (z := [.slice none 0 0, .int .u32 0, .int .u32 0]) (fun _ => by kernel_rfl) e0 bd0) rfl ?_
 refine A4 rfl (A9 (vs := [vo, vt, vr, vk, .int .u32 ((r.sn : Nat) : Int), vl, .int .u32 ((r.tn : Nat) : Int), .int .u32 ((r.prev : Nat) : Int), vs]) rfl rfl rfl kR (by rfl) (A7 hr.own.one (A7 hr.their.one (A7 hr.root.one (A7 hr.sk.one (A7 rfl (A7 hr.tk.one (A7 rfl (A7 rfl (A7 hr.st.one K9))))))))) UpC.upd ?_)
 refine A4 rfl (A9 rfl rfl Cel.cel kR ln3 al3 UpC.upd ?_)
 refine as_ (as_ (A0 (D6 8 9 10 11) (B4 (tr ?_))))
 exact ⟨_, [], [], B1u (n1 := 9) (n2 := 3) rfl rfl rfl rfl rfl kR kR At.mem At.mem (by rfl) (by rfl), Fit.sub (List.nil_sublist _), rfl, rfl⟩
theorem B6W (sks : List Skp) (x : Skp) : x ∈ A7M sks x := by
  unfold A7M
  rw [List.drop_append_of_le_length (by rw [List.length_append, List.length_singleton]; omega)]
  exact List.mem_append_right _ (List.mem_singleton.2 rfl)
set_option maxHeartbeats 2000000 in
theorem A36 (m n hw : Nat) (A : Mem) (hm : m < 256) (hn : n < 256) (hh : hw < 256) (hG : Glb A) : FnV Tryz.prog 5 [.int .u8 ((m : Nat) : Int), .int .u8 ((n : Nat) : Int), .int .u8 ((hw : Nat) : Int)] A (.bool true) := by
 refine FnX.enter (N := 132) Tryz.func5 rfl rfl rfl fun w_ => ?_
 refine B0 (D4 0 1 2) (A1 (as_ (A0 (D4 0 1 2) (A3 (A1 ?_)))))
 refine F3 a0 kR (B1L _ hG.up) rfl ?_
 refine A2 (A1f rfl) rfl ?_
 refine A0 (D6 0 1 2 18) ?_
 refine D0 rfl ?_
 refine A6 (nx (D4 0 1 2) (A1 (mv_ ?_)))
 refine C6 (aS rfl a0) kR (A72 m _ hm hG.up) rfl ?_
 rintro v20 M20 J20 ⟨tb, pb, rfl, hp20⟩
 obtain ⟨L0, n0, n1⟩ := lnk0 m
 have hA0 : ApI 0 (p0S m) (p0A m) (p0B m) := ⟨L0.gs, L0.wa, L0.wb, by omega, by omega, rfl, rfl, L0.sk, fun _ => ⟨L0, rfl⟩, fun h => by omega⟩
 refine as_ (A0 (D4 1 2 7) (A3 (A1 (as_ (A0 (D6 1 2 7 8) (A5 ?_))))))
 refine D9 (α := Nat × Ps × Rsd × Rsd × Mem × Mem) (fun y => [(1, .int .u8 ((n : Nat) : Int)), (2, .int .u8 ((hw : Nat) : Int)), (7, .pointer (some ⟨tb, 0, none⟩)), (8, .int .i64 ((y.1 : Nat) : Int))]) (fun y => y.2.2.2.2.1) (fun y => y.2.2.2.2.2) (fun y => y.1 ≤ 1 + n % 4 ∧ ApI y.1 y.2.1 y.2.2.1 y.2.2.2.1 ∧ Par (y.2.2.2.2.2 ++ A) tb pb y.2.1 y.2.2.1 y.2.2.2.1 y.2.2.2.2.1) (fun y => 1 + n % 4 - y.1) (0, p0S m, p0A m, p0B m, M20, J20) ⟨Nat.zero_le _, hA0, hp20.mono SubC.sub⟩ (D6 1 2 7 8) (Fit.eq (by simp)) (fun _ h => by simpa using h) ?_
 rintro ⟨i, s, r0, r1, Mi, Ji⟩ ⟨hi, hA, hpi⟩
 dsimp only at hi hA hpi ⊢
 refine A3 (A1 (mv_ (mv_ ?_)))
 refine A2 (A0P (k' := .i64) rfl kR (by show _ < 9223372036854775808; omega)) rfl ?_
 refine A2 (R6 (a := n) (b := 4) rfl rfl rfl rfl (by decide)) rfl ?_
 refine A2 (C8 ((1 + n % 4 : Nat) : Int) rfl rfl (E2 (by omega) (by omega) (by omega))) rfl ?_
 refine A2 (D8 rfl rfl rfl) rfl ?_
 refine A0 (E5 1 2 7 8 26) ?_
 refine C0 rfl (fun hc => ?_) (fun hc => ?_)
 ·
  have hlt : i < 1 + n % 4 := by simp [I2] at hc; omega
  have hb1 : r1.tn < 4294967296 ∧ r1.sks.length ≤ 1000 := by obtain ⟨_, _, _, _, _, _, _, _, _, _, _, _, _, _, _, h1, _⟩ := hpi; exact ⟨h1.tn, h1.sks⟩
  have hS := B6V (t := [97]) hA (by omega) hb1.1 hb1.2 (by decide) (by decide)
  have hl := hA.len
  have hn_ := hA.n
  have hs0 : 0 < r0.sk.length := List.length_pos_iff.2 hA.sk
  have hgl := hS.snt.gl
  have hkl := A3H s r0.own
  have hl2 := A1e s r0 F2 [97]
  refine A6 (nx (D6 1 2 7 8) (A3 (A5 (A1 (mv_ ?_)))))
  refine A4 rfl (E0 (Mc := Mi) (R := _) (aS rfl (aS rfl (aS rfl (a0)))) kR PickC.perm (FnX.amb SubC.sub (B1G tb pb s r0 r1 [97] Mi (Ji ++ A) hpi (by omega) hs0 ⟨by decide⟩ (by decide) (hG.sub SubC.sub))) rfl ?_)
  rintro v31 M31 J31 ⟨hp31, vk, vg, rfl, hvk, hvg⟩
  haveI := hvk.cel
  haveI := hvg.cel
  refine mv_ ?_
  refine A2 (A1l rfl) rfl ?_
  refine A2 (A1g rfl) rfl ?_
  refine A4 rfl (C4 (cs := [A7a, .slice none 0 0, F7, F7, .slice none 0 0, .string ByteArray.empty]) kR rfl fun b9 => ?_)
  refine A4 rfl (A9 (vs := [.int .i64 1, vk, .int .u32 ((r0.prev : Nat) : Int), .int .u32 ((r0.sn : Nat) : Int), vg, .string (txt [97])]) rfl rfl rfl kR (by rfl) (A7 rfl (A7 hvk.one (A7 rfl (A7 rfl (A7 hvg.one (A7 rfl K9)))))) UpC.upd ?_)
  refine as_ (A0 (E5 1 2 7 8 9) (A1 (mv_ ?_)))
  refine A2 (R6 (a := i) (b := 2) rfl rfl rfl rfl (by decide)) rfl ?_
  refine A2 (D8 rfl rfl rfl) rfl ?_
  refine A0 (H9 1 2 7 8 9 36) ?_
  refine C0 rfl (fun hc => ?_) (fun hc => ?_)
  ·
   refine A8 (mv_ ?_)
   refine A2 (qw_ 6) rfl ?_
   refine A4 rfl (E0 (Mc := M31) (R := _) (aS rfl (aS rfl (a0))) kR PickC.perm (FnX.amb SubC.sub (B1H tb pb (W3 s r0 F2 [97]) (U8 s r0) r1 vk vg (I0 s r0.own) (A1d s r0 F2 [97]) [97] r0.prev r0.sn (P6 (W3 s r0 F2 [97]) r1 F2 (I0 s r0.own) r0.prev r0.sn (A1d s r0 F2 [97])) M31 (J31 ++ (Ji ++ A)) hp31 (by omega) (by omega) hvk (by omega) hS.snt.hp hS.snt.hn hvg (by omega) hS.o rfl (hG.sub SubC.sub))) rfl ?_)
   rintro v39 M39 J39 ⟨hp39, rfl⟩
   refine C1 (nb (nx (D6 1 2 7 8) (A8 (mv_ ?_))))
   refine A2 (C8 ((i + 1 : Nat) : Int) rfl rfl (E2 (by omega) (by omega) (by omega))) rfl ?_
   refine as_ (C1 ?_)
   exact rn (i + 1, _, _, _, M39, J39 ++ (J31 ++ Ji)) ⟨by dsimp only; omega, hS.yes _ rfl, hp39.mono (fun x hx => by simpa using hx)⟩ (by dsimp only; omega) (D6 1 2 7 8) (Fit.last PickC.perm) (fun _ h => by simpa using h)
  ·
   have hi0 : 0 < i := by rcases Nat.eq_zero_or_pos i with h | h; rw [h] at hc; simp [I2] at hc; exact h
   refine A6 (nb (nx (D6 1 2 7 8) (A8 (mv_ ?_))))
   refine A2 (C8 ((i + 1 : Nat) : Int) rfl rfl (E2 (by omega) (by omega) (by omega))) rfl ?_
   refine as_ (C1 ?_)
   exact rn (i + 1, _, _, _, M31, J31 ++ Ji) ⟨by dsimp only; omega, hS.no hi0, hp31.mono (fun x hx => by simpa using hx)⟩ (by dsimp only; omega) (D6 1 2 7 8) (Fit.last PickC.perm) (fun _ h => by simpa using h)
 ·
  obtain rfl : i = 1 + n % 4 := by simp [I2] at hc; omega
  refine D2 (te (re (be rfl (nx (D3 2 7) ?_))))
  have hth := hA.th (by omega)
  have hol := hA.wb.own.2.2
  have hrl := hA.wb.root.2.2
  obtain ⟨ao, at_, ar, ak, al, aq, bo, bt, bw, bk, bl, bq, MP, rfl, h0, h1, hP⟩ := hpi
  haveI := h0.own.cel
  haveI := h0.their.cel
  haveI := h0.root.cel
  haveI := h0.sk.cel
  haveI := h0.tk.cel
  haveI := h0.st.cel
  haveI := h1.own.cel
  haveI := h1.their.cel
  haveI := h1.root.cel
  haveI := h1.sk.cel
  haveI := h1.tk.cel
  haveI := h1.st.cel
  unfold rsC
  refine A1 (mv_ ?_)
  refine A2 (E8 rfl) rfl ?_
  refine A2 (qf_ 1 1) rfl ?_
  refine A2 (C9 (e := 41) (n := 2) (sz := 9) (i := 1) 10 rfl rfl kR kR rfl (by decide) rfl) rfl ?_
  refine A2 (S9 (n := 9) (vs := [bo, bt, bw, bk, .int .u32 ((r1.sn : Nat) : Int), bl, .int .u32 ((r1.tn : Nat) : Int), .int .u32 ((r1.prev : Nat) : Int), bq]) rfl kR At.mem rfl (P7 [.pointer (some ⟨pb, 0, none⟩), ao, at_, ar, ak, .int .u32 ((r0.sn : Nat) : Int), al, .int .u32 ((r0.tn : Nat) : Int), .int .u32 ((r0.prev : Nat) : Int), aq] [bo, bt, bw, bk, .int .u32 ((r1.sn : Nat) : Int), bl, .int .u32 ((r1.tn : Nat) : Int), .int .u32 ((r1.prev : Nat) : Int), bq] [])) rfl ?_
  refine C6 (aS rfl a0) kR (FnX.amb SubC.sub (A3I r1 bo bt bw bk bl bq (Ji ++ A) h1)) rfl ?_
  rintro v45 M45 J45 ⟨cb, rfl, hSt⟩
  have hAr := h1.sto hSt h1.sks
  unfold rsC
  refine A4 rfl (C4 (cs := [.slice none 0 0, .slice none 0 0, .slice none 0 0, .slice none 0 0, F7, .slice none 0 0, F7, F7, .pointer none]) kR rfl fun b11 => ?_)
  refine A4 rfl (A9 (vs := [bo, bt, bw, bk, .int .u32 ((r1.sn : Nat) : Int), bl, .int .u32 ((r1.tn : Nat) : Int), .int .u32 ((r1.prev : Nat) : Int), .pointer (some ⟨cb, 0, none⟩)]) rfl rfl rfl kR (by rfl) (A7 h1.own.one (A7 h1.their.one (A7 h1.root.one (A7 h1.sk.one (A7 rfl (A7 h1.tk.one al3)))))) UpC.upd ?_)
  refine A0 (D4 2 7 11) (A3 ?_)
  refine C7 (.range 8) (zp 0 [1, 0, 0, 0, 0, 1, 2, 0]) kR kR fun hs => ?_
  refine G4 hs rfl (qw_ 9) rfl ?_
  refine fm_ hs ?_
  refine C2 hs rfl (E8 rfl) rfl ?_
  refine C2 hs rfl (qf_ 1 1) rfl ?_
  refine C2 hs rfl (C9 (e := 41) (n := 2) (sz := 9) (i := 1) 10 rfl rfl kR kR rfl (by decide) rfl) rfl ?_
  refine G4 hs rfl (S9 (n := 9) (vs := [bo, bt, bw, bk, .int .u32 ((r1.sn : Nat) : Int), bl, .int .u32 ((r1.tn : Nat) : Int), .int .u32 ((r1.prev : Nat) : Int), bq]) rfl kR At.mem rfl (P7 [.pointer (some ⟨pb, 0, none⟩), ao, at_, ar, ak, .int .u32 ((r0.sn : Nat) : Int), al, .int .u32 ((r0.tn : Nat) : Int), .int .u32 ((r0.prev : Nat) : Int), aq] [bo, bt, bw, bk, .int .u32 ((r1.sn : Nat) : Int), bl, .int .u32 ((r1.tn : Nat) : Int), .int .u32 ((r1.prev : Nat) : Int), bq] [])) rfl ?_
  refine N6 rfl (aS rfl (aS rfl a0)) kR (B1M r1 r1 bo bt bw bk bl (.pointer (some ⟨cb, 0, none⟩)) bo bt bw bk bl bq _ (hAr.mono (fun x hx => (List.mem_append.1 hx).elim (SubC.sub x) (SubC.sub x))) (h1.mono SubC.sub)) rfl ?_
  rintro v52 M52 J52 ⟨rfl, c, rfl, hc1⟩
  obtain rfl : c = true := hc1.2 rfl
  refine C2 hs rfl (A1f rfl) rfl ?_
  refine E4 (D6 2 7 11 53) ?_
  refine D0 rfl ?_
  refine A6 (nx (D4 2 7 11) (A1 ?_))
  refine A2 (qf_ 8 8) rfl ?_
  refine A2 ql_ rfl ?_
  refine A4 rfl (C3 (e := 5) (sz := 1) (z := [.int .u8 0]) kR (eS rfl e0) (bdS 0 1 rfl (by rfl) bd0) rfl fun b56 => ?_)
  refine A4 rfl (A0D rfl kR UpC.upd rfl ?_)
  refine A1o (B := [_]) (PickC.sing).perm ?_
  refine A4 rfl (C3 (e := 5) (sz := 1) (z := [.int .u8 0]) kR (eS rfl e0) (bdS 0 1 rfl (by rfl) bd0) rfl fun b58 => ?_)
  refine A4 rfl (A0D rfl kR UpC.upd rfl ?_)
  refine A1o (B := [_]) (PickC.sing).perm ?_
  refine A2 (G1 (place := fun x => #[(0, 1), (1, 1), (2, 1)][x]?) (z := [.slice none 0 0, .int .u32 0, .slice none 0 0]) (fun _ => by kernel_rfl) (eS rfl (eS rfl (eS rfl e0))) (bdS 0 1 rfl (by rfl) (bdS 1 1 rfl (by rfl) (bdS 2 1 rfl (by rfl) bd0)))) rfl ?_
  refine A4 rfl (E0 (Mc := M45) (R := _) (aS rfl (aS rfl (a0))) kR PickC.perm (A7P cb (.slice (some ⟨b56, 0, none⟩) 1 1) (.slice (some ⟨b58, 0, none⟩) 1 1) r1.sks [113] [107] 7 ((b58, Obj.cells #[.int .u8 107] 5 ([Value.int .u8 107].length, [Value.int .u8 107].length + 1)) :: (b56, Obj.cells #[.int .u8 113] 5 ([Value.int .u8 113].length, [Value.int .u8 113].length + 1)) :: (Ji ++ A)) M45 _ (hSt.mono fun x hx => List.mem_cons_of_mem _ (List.mem_cons_of_mem _ hx)) (fun x hx => by simp only [List.mem_append, List.mem_cons] at hx ⊢; grind) (by have := h1.sks; omega) ⟨Rd.whole (n := 1) (cs := nums .u8 [113]) (List.mem_cons_of_mem _ List.mem_cons_self) (by rfl), by decide, by decide⟩ ⟨Rd.whole (n := 1) (cs := nums .u8 [107]) List.mem_cons_self (by rfl), by decide, by decide⟩ (by decide)) rfl ?_)
  rintro v61 M61 J61 ⟨rfl, hSt2⟩
  refine A0 (D4 2 7 11) (A1 (mv_ ?_))
  refine A2 (E8 rfl) rfl ?_
  refine A2 (qf_ 1 1) rfl ?_
  refine A2 (C9 (e := 41) (n := 2) (sz := 9) (i := 1) 10 rfl rfl kR kR rfl (by decide) rfl) rfl ?_
  refine A2 (S9 (n := 9) (vs := [bo, bt, bw, bk, .int .u32 ((r1.sn : Nat) : Int), bl, .int .u32 ((r1.tn : Nat) : Int), .int .u32 ((r1.prev : Nat) : Int), bq]) rfl kR At.mem rfl (P7 [.pointer (some ⟨pb, 0, none⟩), ao, at_, ar, ak, .int .u32 ((r0.sn : Nat) : Int), al, .int .u32 ((r0.tn : Nat) : Int), .int .u32 ((r0.prev : Nat) : Int), aq] [bo, bt, bw, bk, .int .u32 ((r1.sn : Nat) : Int), bl, .int .u32 ((r1.tn : Nat) : Int), .int .u32 ((r1.prev : Nat) : Int), bq] [])) rfl ?_
  refine C6 (aS rfl a0) kR (FnX.amb SubC.sub (A3I r1 bo bt bw bk bl bq (Ji ++ A) h1)) rfl ?_
  rintro v67 M67 J67 ⟨cb2, rfl, hSt3⟩
  unfold rsC
  refine A4 rfl (C4 (cs := [.slice none 0 0, .slice none 0 0, .slice none 0 0, .slice none 0 0, F7, .slice none 0 0, F7, F7, .pointer none]) kR rfl fun b12 => ?_)
  refine A4 rfl (A9 (vs := [bo, bt, bw, bk, .int .u32 ((r1.sn : Nat) : Int), bl, .int .u32 ((r1.tn : Nat) : Int), .int .u32 ((r1.prev : Nat) : Int), .pointer (some ⟨cb2, 0, none⟩)]) rfl rfl rfl kR (by rfl) (A7 h1.own.one (A7 h1.their.one (A7 h1.root.one (A7 h1.sk.one (A7 rfl (A7 h1.tk.one al3)))))) UpC.upd ?_)
  refine A0 (D6 2 7 11 12) ?_
  refine N3 (α := Rsd × Value × Value × Value × Value × Value × Mem) (fun y => [(7, .pointer (some ⟨tb, 0, none⟩)), (11, .pointer (some ⟨b11, 0, none⟩)), (12, .pointer (some ⟨b12, 0, none⟩))]) (fun y => [(b12, blk [y.2.1, y.2.2.1, y.2.2.2.1, y.2.2.2.2.1, .int .u32 ((y.1.sn : Nat) : Int), y.2.2.2.2.2.1, .int .u32 ((y.1.tn : Nat) : Int), .int .u32 ((y.1.prev : Nat) : Int), .pointer (some ⟨cb2, 0, none⟩)] 41), (b11, blk [bo, bt, bw, bk, .int .u32 ((r1.sn : Nat) : Int), bl, .int .u32 ((r1.tn : Nat) : Int), .int .u32 ((r1.prev : Nat) : Int), .pointer (some ⟨cb, 0, none⟩)] 41), (tb, blk (.pointer (some ⟨pb, 0, none⟩) :: ([ao, at_, ar, ak, .int .u32 ((r0.sn : Nat) : Int), al, .int .u32 ((r0.tn : Nat) : Int), .int .u32 ((r0.prev : Nat) : Int), aq] ++ [bo, bt, bw, bk, .int .u32 ((r1.sn : Nat) : Int), bl, .int .u32 ((r1.tn : Nat) : Int), .int .u32 ((r1.prev : Nat) : Int), bq])) 45)] ++ MP) (fun y => y.2.2.2.2.2.2) (fun y => RsR (y.2.2.2.2.2.2 ++ A) y.1 y.2.1 y.2.2.1 y.2.2.2.1 y.2.2.2.2.1 y.2.2.2.2.2.1 (.pointer (some ⟨cb2, 0, none⟩)) ∧ y.1 ≠ r1 ∧ RsR (y.2.2.2.2.2.2 ++ A) (⟨r1.own, r1.their, r1.root, r1.sk, r1.sn, r1.tk, r1.tn, r1.prev, A7M r1.sks ⟨[113], 7, [107]⟩⟩ : Rsd) bo bt bw bk bl (.pointer (some ⟨cb, 0, none⟩)) ∧ RsR (y.2.2.2.2.2.2 ++ A) r1 bo bt bw bk bl bq) ?_ ?_
  ·
   obtain ⟨u6, rows6, BS6, rfl, hs6, hw6⟩ := hSt2.ex
   obtain ⟨u7, rows7, BS7, rfl, hs7, hw7⟩ := hSt3.ex
   have hrd6 := hs6.rd (R := BS6) fun _ h => h
   have hrd7 := hs7.rd (R := BS7) fun _ h => h
   refine A0F (B := (cb, blk [u6] 80) :: BS6) PickC.perm ?_
   refine A0F (B := (cb2, blk [u7] 80) :: BS7) PickC.perm ?_
   refine A1 (mv_ ?_)
   refine A2 (R6 (a := hw) (b := 5) rfl rfl rfl rfl (by decide)) rfl ?_
   obtain ⟨J0, hJ0⟩ : ∃ z, z = ((cb2, blk [u7] 80) :: BS7) ++ (((cb, blk [u6] 80) :: BS6) ++ (J61 ++ ((b58, Obj.cells #[.int .u8 107] 5 ([Value.int .u8 107].length, [Value.int .u8 107].length + 1)) :: (b56, Obj.cells #[.int .u8 113] 5 ([Value.int .u8 113].length, [Value.int .u8 113].length + 1)) :: Ji))) := ⟨_, rfl⟩
   have u1 : ∀ x, x ∈ Ji ++ A → x ∈ J0 ++ A := fun x hx => by rw [hJ0]; simp only [List.mem_append, List.mem_cons] at hx ⊢; grind
   have u2 : ∀ x, x ∈ ((cb2, blk [u7] 80) :: BS7) → x ∈ J0 ++ A := fun x hx => by rw [hJ0]; simp only [List.mem_append, List.mem_cons] at hx ⊢; grind
   have u3 : ∀ x, x ∈ ((cb, blk [u6] 80) :: BS6) → x ∈ J0 ++ A := fun x hx => by rw [hJ0]; simp only [List.mem_append, List.mem_cons] at hx ⊢; grind
   have u4 : ∀ x, x ∈ J61 ++ ((b58, Obj.cells #[.int .u8 107] 5 ([Value.int .u8 107].length, [Value.int .u8 107].length + 1)) :: (b56, Obj.cells #[.int .u8 113] 5 ([Value.int .u8 113].length, [Value.int .u8 113].length + 1)) :: (Ji ++ A)) → x ∈ J0 ++ A := fun x hx => by rw [hJ0]; simp only [List.mem_append, List.mem_cons] at hx ⊢; grind
   have hr1 := h1.mono u1
   have hq : RsR (J0 ++ A) r1 bo bt bw bk bl (.pointer (some ⟨cb2, 0, none⟩)) := ⟨hr1.own, hr1.their, hr1.root, hr1.sk, hr1.tk, ⟨cb2, u7, rows7, rfl, u2 _ List.mem_cons_self, hrd7.mono (fun x hx => u2 x (List.mem_cons_of_mem _ hx)), hw7.mono skT u1⟩, hr1.sn, hr1.tn, hr1.prev, hr1.sks⟩
   have hra : RsR (J0 ++ A) (⟨r1.own, r1.their, r1.root, r1.sk, r1.sn, r1.tk, r1.tn, r1.prev, A7M r1.sks ⟨[113], 7, [107]⟩⟩ : Rsd) bo bt bw bk bl (.pointer (some ⟨cb, 0, none⟩)) := ⟨hr1.own, hr1.their, hr1.root, hr1.sk, hr1.tk, ⟨cb, u6, rows6, rfl, u3 _ List.mem_cons_self, hrd6.mono (fun x hx => u3 x (List.mem_cons_of_mem _ hx)), hw6.mono skT u4⟩, hr1.sn, hr1.tn, hr1.prev, Nat.le_trans (A7N _ _) (by decide)⟩
   have hpn := h1.prev
   have htn := h1.tn
   refine A0 (D6 7 11 12 69) (A5 (A1 ?_))
   refine A2 (D8 rfl rfl rfl) rfl ?_
   refine as_ (A0 (E5 7 11 12 69 71) ?_)
   refine C0 rfl (fun hc => ?_) (fun hc => ?_)
   ·
    refine A8 ?_
    refine A4 rfl (C3 (e := 5) (sz := 1) (z := [.int .u8 0]) kR (eS rfl e0) (bdS 0 1 rfl (by rfl) bd0) rfl fun b73 => ?_)
    refine A4 rfl (A0D rfl kR UpC.upd rfl ?_)
    refine A1o (B := [_]) (PickC.sing).perm ?_
    refine A2 (qf_ 0 0) rfl ?_
    refine A4 rfl (D5 rfl rfl rfl kR SetC.set UpC.upd ?_)
    refine C1 (nb ?_)
    exact jn (⟨[111], r1.their, r1.root, r1.sk, r1.sn, r1.tk, r1.tn, r1.prev, r1.sks⟩, .slice (some ⟨b73, 0, none⟩) 1 1, bt, bw, bk, bl, (b73, Obj.cells #[.int .u8 111] 5 ([Value.int .u8 111].length, [Value.int .u8 111].length + 1)) :: J0) ⟨⟨⟨Rd.whole (n := 1) (cs := nums .u8 [111]) List.mem_cons_self (by rfl), (show ∀ x ∈ [111], x < 256 by decide), (show 1 ≤ 16777216 by decide)⟩, hq.their.mono (fun x hx => List.mem_cons_of_mem _ hx), hq.root.mono (fun x hx => List.mem_cons_of_mem _ hx), hq.sk.mono (fun x hx => List.mem_cons_of_mem _ hx), hq.tk.mono (fun x hx => List.mem_cons_of_mem _ hx), hq.st.mono (fun x hx => List.mem_cons_of_mem _ hx), hq.sn, hq.tn, hq.prev, hq.sks⟩, (fun e => by have h := congrArg Rsd.own e; rw [← h] at hol; cases hol), hra.mono (fun x hx => List.mem_cons_of_mem _ hx), hr1.mono (fun x hx => List.mem_cons_of_mem _ hx)⟩ (D4 7 11 12) (Fit.pick (B := [(b12, blk [.slice (some ⟨b73, 0, none⟩) 1 1, bt, bw, bk, .int .u32 ((r1.sn : Nat) : Int), bl, .int .u32 ((r1.tn : Nat) : Int), .int .u32 ((r1.prev : Nat) : Int), .pointer (some ⟨cb2, 0, none⟩)] 41)]) PickC.perm (Fit.pick (B := [(b11, blk [bo, bt, bw, bk, .int .u32 ((r1.sn : Nat) : Int), bl, .int .u32 ((r1.tn : Nat) : Int), .int .u32 ((r1.prev : Nat) : Int), .pointer (some ⟨cb, 0, none⟩)] 41)]) PickC.perm (Fit.pick (B := [(tb, blk (.pointer (some ⟨pb, 0, none⟩) :: ([ao, at_, ar, ak, .int .u32 ((r0.sn : Nat) : Int), al, .int .u32 ((r0.tn : Nat) : Int), .int .u32 ((r0.prev : Nat) : Int), aq] ++ [bo, bt, bw, bk, .int .u32 ((r1.sn : Nat) : Int), bl, .int .u32 ((r1.tn : Nat) : Int), .int .u32 ((r1.prev : Nat) : Int), bq])) 45)]) PickC.perm (Fit.last PickC.perm)))) (fun x h => by rw [hJ0] at h; simp only [List.mem_append, List.mem_cons] at h ⊢; grind)
   ·
    refine A1 ?_
    refine A2 (D8 rfl rfl rfl) rfl ?_
    refine as_ (A0 (E5 7 11 12 69 76) ?_)
    refine C0 rfl (fun hc => ?_) (fun hc => ?_)
    ·
     refine A8 ?_
     refine A4 rfl (C3 (e := 5) (sz := 1) (z := [.int .u8 0]) kR (eS rfl e0) (bdS 0 1 rfl (by rfl) bd0) rfl fun b78 => ?_)
     refine A4 rfl (A0D rfl kR UpC.upd rfl ?_)
     refine A1o (B := [_]) (PickC.sing).perm ?_
     refine A2 (qf_ 2 2) rfl ?_
     refine A4 rfl (D5 rfl rfl rfl kR SetC.set UpC.upd ?_)
     refine C1 (nb ?_)
     exact jn (⟨r1.own, r1.their, [114], r1.sk, r1.sn, r1.tk, r1.tn, r1.prev, r1.sks⟩, bo, bt, .slice (some ⟨b78, 0, none⟩) 1 1, bk, bl, (b78, Obj.cells #[.int .u8 114] 5 ([Value.int .u8 114].length, [Value.int .u8 114].length + 1)) :: J0) ⟨⟨hq.own.mono (fun x hx => List.mem_cons_of_mem _ hx), hq.their.mono (fun x hx => List.mem_cons_of_mem _ hx), ⟨Rd.whole (n := 1) (cs := nums .u8 [114]) List.mem_cons_self (by rfl), (show ∀ x ∈ [114], x < 256 by decide), (show 1 ≤ 16777216 by decide)⟩, hq.sk.mono (fun x hx => List.mem_cons_of_mem _ hx), hq.tk.mono (fun x hx => List.mem_cons_of_mem _ hx), hq.st.mono (fun x hx => List.mem_cons_of_mem _ hx), hq.sn, hq.tn, hq.prev, hq.sks⟩, (fun e => by have h := congrArg Rsd.root e; rw [← h] at hrl; cases hrl), hra.mono (fun x hx => List.mem_cons_of_mem _ hx), hr1.mono (fun x hx => List.mem_cons_of_mem _ hx)⟩ (D4 7 11 12) (Fit.pick (B := [(b12, blk [bo, bt, .slice (some ⟨b78, 0, none⟩) 1 1, bk, .int .u32 ((r1.sn : Nat) : Int), bl, .int .u32 ((r1.tn : Nat) : Int), .int .u32 ((r1.prev : Nat) : Int), .pointer (some ⟨cb2, 0, none⟩)] 41)]) PickC.perm (Fit.pick (B := [(b11, blk [bo, bt, bw, bk, .int .u32 ((r1.sn : Nat) : Int), bl, .int .u32 ((r1.tn : Nat) : Int), .int .u32 ((r1.prev : Nat) : Int), .pointer (some ⟨cb, 0, none⟩)] 41)]) PickC.perm (Fit.pick (B := [(tb, blk (.pointer (some ⟨pb, 0, none⟩) :: ([ao, at_, ar, ak, .int .u32 ((r0.sn : Nat) : Int), al, .int .u32 ((r0.tn : Nat) : Int), .int .u32 ((r0.prev : Nat) : Int), aq] ++ [bo, bt, bw, bk, .int .u32 ((r1.sn : Nat) : Int), bl, .int .u32 ((r1.tn : Nat) : Int), .int .u32 ((r1.prev : Nat) : Int), bq])) 45)]) PickC.perm (Fit.last PickC.perm)))) (fun x h => by rw [hJ0] at h; simp only [List.mem_append, List.mem_cons] at h ⊢; grind)
    ·
     refine A1 ?_
     refine A2 (D8 rfl rfl rfl) rfl ?_
     refine as_ (A0 (E5 7 11 12 69 81) ?_)
     refine C0 rfl (fun hc => ?_) (fun hc => ?_)
     ·
      refine A8 ?_
      refine A2 (qf_ 7 7) rfl ?_
      refine A2 ql_ rfl ?_
      refine A2 (F1 4294967296 (b := 1) rfl rfl rfl rfl rfl rfl) rfl ?_
      refine A2 (qf_ 7 7) rfl ?_
      refine A4 rfl (D5 rfl rfl rfl kR SetC.set UpC.upd ?_)
      refine C1 (nb ?_)
      exact jn (⟨r1.own, r1.their, r1.root, r1.sk, r1.sn, r1.tk, r1.tn, (r1.prev + 1) % 4294967296, r1.sks⟩, bo, bt, bw, bk, bl, J0) ⟨⟨hq.own, hq.their, hq.root, hq.sk, hq.tk, hq.st, hq.sn, hq.tn, Nat.mod_lt _ (by decide), hq.sks⟩, (fun e => by have h := congrArg Rsd.prev e; dsimp only at h; omega), hra, hr1⟩ (D4 7 11 12) (Fit.pick (B := [(b12, blk [bo, bt, bw, bk, .int .u32 ((r1.sn : Nat) : Int), bl, .int .u32 ((r1.tn : Nat) : Int), .int .u32 (((r1.prev + 1) % 4294967296 : Nat) : Int), .pointer (some ⟨cb2, 0, none⟩)] 41)]) PickC.perm (Fit.pick (B := [(b11, blk [bo, bt, bw, bk, .int .u32 ((r1.sn : Nat) : Int), bl, .int .u32 ((r1.tn : Nat) : Int), .int .u32 ((r1.prev : Nat) : Int), .pointer (some ⟨cb, 0, none⟩)] 41)]) PickC.perm (Fit.pick (B := [(tb, blk (.pointer (some ⟨pb, 0, none⟩) :: ([ao, at_, ar, ak, .int .u32 ((r0.sn : Nat) : Int), al, .int .u32 ((r0.tn : Nat) : Int), .int .u32 ((r0.prev : Nat) : Int), aq] ++ [bo, bt, bw, bk, .int .u32 ((r1.sn : Nat) : Int), bl, .int .u32 ((r1.tn : Nat) : Int), .int .u32 ((r1.prev : Nat) : Int), bq])) 45)]) PickC.perm (Fit.last PickC.perm)))) (fun x h => by rw [hJ0] at h; simp only [List.mem_append, List.mem_cons] at h ⊢; grind)
     ·
      refine A1 ?_
      refine A2 (D8 rfl rfl rfl) rfl ?_
      refine as_ (A0 (D6 7 11 12 87) ?_)
      refine C0 rfl (fun hc => ?_) (fun hc => ?_)
      ·
       refine A8 ?_
       refine A2 (qf_ 5 5) rfl ?_
       refine A2 (qf_ 6 1) rfl ?_
       refine A2 ql_ rfl ?_
       refine A2 (F1 4294967296 (b := 1) rfl rfl rfl rfl rfl rfl) rfl ?_
       refine A2 (qf_ 5 5) rfl ?_
       refine A2 (qf_ 6 1) rfl ?_
       refine A4 rfl (D5 rfl rfl rfl kR SetC.set UpC.upd ?_)
       refine C1 (nb ?_)
       exact jn (⟨r1.own, r1.their, r1.root, r1.sk, r1.sn, r1.tk, (r1.tn + 1) % 4294967296, r1.prev, r1.sks⟩, bo, bt, bw, bk, bl, J0) ⟨⟨hq.own, hq.their, hq.root, hq.sk, hq.tk, hq.st, hq.sn, Nat.mod_lt _ (by decide), hq.prev, hq.sks⟩, (fun e => by have h := congrArg Rsd.tn e; dsimp only at h; omega), hra, hr1⟩ (D4 7 11 12) (Fit.pick (B := [(b12, blk [bo, bt, bw, bk, .int .u32 ((r1.sn : Nat) : Int), bl, .int .u32 (((r1.tn + 1) % 4294967296 : Nat) : Int), .int .u32 ((r1.prev : Nat) : Int), .pointer (some ⟨cb2, 0, none⟩)] 41)]) PickC.perm (Fit.pick (B := [(b11, blk [bo, bt, bw, bk, .int .u32 ((r1.sn : Nat) : Int), bl, .int .u32 ((r1.tn : Nat) : Int), .int .u32 ((r1.prev : Nat) : Int), .pointer (some ⟨cb, 0, none⟩)] 41)]) PickC.perm (Fit.pick (B := [(tb, blk (.pointer (some ⟨pb, 0, none⟩) :: ([ao, at_, ar, ak, .int .u32 ((r0.sn : Nat) : Int), al, .int .u32 ((r0.tn : Nat) : Int), .int .u32 ((r0.prev : Nat) : Int), aq] ++ [bo, bt, bw, bk, .int .u32 ((r1.sn : Nat) : Int), bl, .int .u32 ((r1.tn : Nat) : Int), .int .u32 ((r1.prev : Nat) : Int), bq])) 45)]) PickC.perm (Fit.last PickC.perm)))) (fun x h => by rw [hJ0] at h; simp only [List.mem_append, List.mem_cons] at h ⊢; grind)
      ·
       refine A8 ?_
       refine A2 (qf_ 1 1) rfl ?_
       refine A4 rfl (D5 rfl rfl rfl kR SetC.set UpC.upd ?_)
       refine C1 (nb ?_)
       exact jn (⟨r1.own, [], r1.root, r1.sk, r1.sn, r1.tk, r1.tn, r1.prev, r1.sks⟩, bo, .slice none 0 0, bw, bk, bl, J0) ⟨⟨hq.own, By.nil, hq.root, hq.sk, hq.tk, hq.st, hq.sn, hq.tn, hq.prev, hq.sks⟩, (fun e => by have h := congrArg Rsd.their e; exact hth h.symm), hra, hr1⟩ (D4 7 11 12) (Fit.pick (B := [(b12, blk [bo, .slice none 0 0, bw, bk, .int .u32 ((r1.sn : Nat) : Int), bl, .int .u32 ((r1.tn : Nat) : Int), .int .u32 ((r1.prev : Nat) : Int), .pointer (some ⟨cb2, 0, none⟩)] 41)]) PickC.perm (Fit.pick (B := [(b11, blk [bo, bt, bw, bk, .int .u32 ((r1.sn : Nat) : Int), bl, .int .u32 ((r1.tn : Nat) : Int), .int .u32 ((r1.prev : Nat) : Int), .pointer (some ⟨cb, 0, none⟩)] 41)]) PickC.perm (Fit.pick (B := [(tb, blk (.pointer (some ⟨pb, 0, none⟩) :: ([ao, at_, ar, ak, .int .u32 ((r0.sn : Nat) : Int), al, .int .u32 ((r0.tn : Nat) : Int), .int .u32 ((r0.prev : Nat) : Int), aq] ++ [bo, bt, bw, bk, .int .u32 ((r1.sn : Nat) : Int), bl, .int .u32 ((r1.tn : Nat) : Int), .int .u32 ((r1.prev : Nat) : Int), bq])) 45)]) PickC.perm (Fit.last PickC.perm)))) (fun x h => by rw [hJ0] at h; simp only [List.mem_append, List.mem_cons] at h ⊢; grind)
  ·
   have hnp : A7M r1.sks ⟨[113], 7, [107]⟩ ≠ r1.sks := fun e => by
    have h2 := B6W r1.sks ⟨[113], 7, [107]⟩
    rw [e] at h2
    have h3 := (hA.wb.sks _ h2).2.1
    cases h3
   rintro ⟨rz, zo, zt, zr, zk, zl, Jz⟩ ⟨hrz, hne, hra, hr1⟩
   dsimp only at hrz hne hra hr1 ⊢
   haveI := hrz.own.cel
   haveI := hrz.their.cel
   haveI := hrz.root.cel
   haveI := hrz.sk.cel
   haveI := hrz.tk.cel
   refine L7 ([]) (_) true [0, 1, 2, 3, 4, 5, 6, 7, 8, 9, 10, 11, 12, 13, 14, 15, 16, 19, 20] [(0, 0), (1, 0), (2, 0), (3, 1), (4, 8), (5, 8), (6, 8), (7, 8), (8, 8), (9, 8), (10, 8), (11, 8), (15, 8), (16, 8), (12, 9), (13, 9), (14, 10), (17, 2), (18, 2), (19, 0), (20, 0)] kR kR PickC.perm fun hs K n0 hKm hKs hKn => ?_
   refine km_ hs ?_
   refine L6 hs rfl (E8 rfl) rfl ?_
   refine L6 hs rfl (qf_ 0 0) rfl ?_
   refine Y8 hs rfl hKs ql_ ?_
   refine A02 [⟨4, 100, none, [], fun v B _ => ∃ b, v = .slice (some ⟨b, 0, none⟩) 1 1 ∧ B = [(b, blk (nums .u8 [115]) 5)]⟩, ⟨5, 101, some 4, [], fun v B R => B = [] ∧ By R v [115]⟩, ⟨6, 102, none, [], fun v B _ => ∃ b, v = .slice (some ⟨b, 0, none⟩) 1 1 ∧ B = [(b, blk (nums .u8 [111]) 5)]⟩, ⟨7, 103, some 6, [], fun v B R => B = [] ∧ By R v [111]⟩, ⟨8, 104, none, [], fun v B R => B = [] ∧ RsV R v (A1G [115] [111])⟩, ⟨9, 105, none, [], fun v B R => B = [] ∧ (∃ xo xt xr xk xl xs, v = .tuple #[.agg (rsC xo xt xr xk xl xs (A1G [115] [111])).toArray, .agg #[.slice none 0 0, .int .u32 0, .int .u32 0], .slice none 0 0, .int .i64 2] ∧ RsR R (A1G [115] [111]) xo xt xr xk xl xs)⟩, ⟨10, 95, none, [], fun v B R => B = [] ∧ (∃ xo xt xr xk xl xs, v = .tuple #[.agg (rsC xo xt xr xk xl xs (A1G [115] [111])).toArray, .agg #[.slice none 0 0, .int .u32 0, .int .u32 0], .slice none 0 0, .int .i64 2] ∧ RsR R (A1G [115] [111]) xo xt xr xk xl xs)⟩, ⟨11, 106, none, [], fun v B R => B = [] ∧ RsV R v (A1G [115] [111])⟩, ⟨15, 13, none, [], fun v B _ => ∃ b, v = .pointer (some ⟨b, 0, none⟩) ∧ B = [(b, blk [.slice none 0 0, .slice none 0 0, .slice none 0 0, .slice none 0 0, .int .u32 0, .slice none 0 0, .int .u32 0, .int .u32 0, .pointer none] 41)]⟩, ⟨16, 14, none, [], fun v B _ => ∃ b, v = .pointer (some ⟨b, 0, none⟩) ∧ B = [(b, blk [.slice none 0 0, .int .u32 0, .int .u32 0] 29)]⟩] [⟨12, 107, none, [], fun v B R => B = [] ∧ v = .agg #[.slice none 0 0, .int .u32 0, .int .u32 0]⟩, ⟨13, 108, none, [], fun v B R => B = [] ∧ v = .slice none 0 0⟩, ⟨14, 109, none, [], fun v B R => B = [] ∧ v = .int .i64 2⟩] ([(b12, blk [zo, zt, zr, zk, .int .u32 ((rz.sn : Nat) : Int), zl, .int .u32 ((rz.tn : Nat) : Int), .int .u32 ((rz.prev : Nat) : Int), .pointer (some ⟨cb2, 0, none⟩)] 41), (b11, blk [bo, bt, bw, bk, .int .u32 ((r1.sn : Nat) : Int), bl, .int .u32 ((r1.tn : Nat) : Int), .int .u32 ((r1.prev : Nat) : Int), .pointer (some ⟨cb, 0, none⟩)] 41), (tb, blk (.pointer (some ⟨pb, 0, none⟩) :: ([ao, at_, ar, ak, .int .u32 ((r0.sn : Nat) : Int), al, .int .u32 ((r0.tn : Nat) : Int), .int .u32 ((r0.prev : Nat) : Int), aq] ++ [bo, bt, bw, bk, .int .u32 ((r1.sn : Nat) : Int), bl, .int .u32 ((r1.tn : Nat) : Int), .int .u32 ((r1.prev : Nat) : Int), bq])) 45)] ++ MP) (fun bs => [bs 5, bs 7, bs 8, bs 9, bs 10, bs 11, bs 15, bs 16, bs 12, bs 13, bs 14]) (hKn rfl) (by simp [A0J, A1h]) (show ∀ m ∈ ([[], [], [], [], [], [], [], [], [], [], []] : List Mem), ∀ x ∈ m, K x.1 from A7 (fun _ h => by cases h) (A7 (fun _ h => by cases h) (A7 (fun _ h => by cases h) (A7 (fun _ h => by cases h) (A7 (fun _ h => by cases h) (A7 (fun _ h => by cases h) (A7 (fun _ h => by cases h) (A7 (fun _ h => by cases h) (A7 (fun _ h => by cases h) (A7 (fun _ h => by cases h) (A7 (fun _ h => by cases h) (K9)))))))))))) kR (fun _ => by first | rfl | kernel_rfl)
    (A7 (fun _ _ _ _ _ h => h) (A7 (fun _ _ _ _ hR h => ⟨h.1, h.2.mono hR⟩) (A7 (fun _ _ _ _ _ h => h) (A7 (fun _ _ _ _ hR h => ⟨h.1, h.2.mono hR⟩) (A7 (fun _ _ _ _ h hp => ⟨hp.1, hp.2.mono h⟩) (A7 (fun _ _ _ _ h ⟨e0, xo, xt, xr, xk, xl, xs, e, hh⟩ => ⟨e0, xo, xt, xr, xk, xl, xs, e, hh.mono h⟩) (A7 (fun _ _ _ _ h ⟨e0, xo, xt, xr, xk, xl, xs, e, hh⟩ => ⟨e0, xo, xt, xr, xk, xl, xs, e, hh.mono h⟩) (A7 (fun _ _ _ _ h hp => ⟨hp.1, hp.2.mono h⟩) (A7 (fun _ _ _ _ _ h => h) (A7 (fun _ _ _ _ _ h => h) (A7 (fun _ _ _ _ _ h => h) (A7 (fun _ _ _ _ _ h => h) (A7 (fun _ _ _ _ _ h => h) (K9)))))))))))))) (show List.Nodup [100, 101, 102, 103, 104, 105, 95, 106, 13, 14, 107, 108, 109] by decide) (show List.Nodup [4, 5, 6, 7, 8, 9, 10, 11, 15, 16, 12, 13, 14] by decide) (A7 (C5 rfl) (A7 (C5 rfl) (A7 (C5 rfl) (A7 (C5 rfl) (A7 (C5 rfl) (A7 (C5 rfl) (A7 (C5 rfl) (A7 (C5 rfl) (A7 (C5 rfl) (A7 (C5 rfl) (A7 (C5 rfl) (A7 (C5 rfl) (A7 (C5 rfl) (K9))))))))))))))
    hs (List.cons_ne_nil _ _) (A7 ⟨_, rfl, fun vs bs R Rj wG hb hj hjr ha => ⟨.inl rfl, ?_⟩⟩ (A7 ⟨_, rfl, fun vs bs R Rj wG hb hj hjr ha => ⟨.inl rfl, ?_⟩⟩ (A7 ⟨_, rfl, fun vs bs R Rj wG hb hj hjr ha => ⟨.inl rfl, ?_⟩⟩ (A7 ⟨_, rfl, fun vs bs R Rj wG hb hj hjr ha => ⟨.inl rfl, ?_⟩⟩ (A7 ⟨_, rfl, fun vs bs R Rj wG hb hj hjr ha => ⟨.inl rfl, ?_⟩⟩ (A7 ⟨_, rfl, fun vs bs R Rj wG hb hj hjr ha => ⟨.inl rfl, ?_⟩⟩ (A7 ⟨_, rfl, fun vs bs R Rj wG hb hj hjr ha => ⟨.inl rfl, ?_⟩⟩ (A7 ⟨_, rfl, fun vs bs R Rj wG hb hj hjr ha => ⟨.inl rfl, ?_⟩⟩ (A7 ⟨_, rfl, fun vs bs R Rj wG hb hj hjr ha => ⟨.inl rfl, ?_⟩⟩ (A7 ⟨_, rfl, fun vs bs R Rj wG hb hj hjr ha => ⟨.inl rfl, ?_⟩⟩ (K9))))))))))) (A7 ⟨rfl, rfl, _, _, _, _, rfl, fun vs bs Rj hj ha => ?_⟩ (A7 ⟨rfl, rfl, _, _, _, _, rfl, fun vs bs Rj hj ha => ?_⟩ (A7 ⟨rfl, rfl, _, _, _, _, rfl, fun vs bs Rj hj ha => ?_⟩ (K9)))) ?_
   ·
    dsimp only [Gc.inp]
    exact C3 (e := 5) (sz := 1) (z := [.int .u8 0]) kR (eS rfl e0) (bdS 0 1 rfl (by rfl) bd0) rfl fun b => ⟨_, rfl, b, rfl, rfl⟩
   ·
    dsimp only [Gc.inp]
    have g4 := ha _ (List.mem_of_getElem? (i := 0) rfl) kR
    replace g4 : (fun v B _ => ∃ b, v = .slice (some ⟨b, 0, none⟩) 1 1 ∧ B = [(b, blk (nums .u8 [115]) 5)]) (vs 4) (bs 4) Rj := g4
    dsimp only at g4
    obtain ⟨b, e, eB⟩ := g4
    dsimp only [Q7, List.map, List.cons_append, List.nil_append]
    rw [e, eB]
    refine OpL.frzAll ?_
    exact A0D rfl kR UpC.upd rfl (fun J2 hJ => ⟨_, rfl, rfl, ⟨Rd.whole (n := 1) (List.mem_append_left _ (hJ _ (List.mem_append_left _ (List.mem_singleton.2 rfl)))) (by rfl), by decide, by decide⟩⟩)
   ·
    dsimp only [Gc.inp]
    exact C3 (e := 5) (sz := 1) (z := [.int .u8 0]) kR (eS rfl e0) (bdS 0 1 rfl (by rfl) bd0) rfl fun b => ⟨_, rfl, b, rfl, rfl⟩
   ·
    dsimp only [Gc.inp]
    have g6 := ha _ (List.mem_of_getElem? (i := 2) rfl) kR
    replace g6 : (fun v B _ => ∃ b, v = .slice (some ⟨b, 0, none⟩) 1 1 ∧ B = [(b, blk (nums .u8 [111]) 5)]) (vs 6) (bs 6) Rj := g6
    dsimp only at g6
    obtain ⟨b, e, eB⟩ := g6
    dsimp only [Q7, List.map, List.cons_append, List.nil_append]
    rw [e, eB]
    refine OpL.frzAll ?_
    exact A0D rfl kR UpC.upd rfl (fun J2 hJ => ⟨_, rfl, rfl, ⟨Rd.whole (n := 1) (List.mem_append_left _ (hJ _ (List.mem_append_left _ (List.mem_singleton.2 rfl)))) (by rfl), by decide, by decide⟩⟩)
   ·
    dsimp only [Gc.inp]
    have g5 := ha _ (List.mem_of_getElem? (i := 1) rfl) kR
    replace g5 : (fun v B R => B = [] ∧ By R v [115]) (vs 5) (bs 5) Rj := g5
    dsimp only at g5
    have g7 := ha _ (List.mem_of_getElem? (i := 3) rfl) kR
    replace g7 : (fun v B R => B = [] ∧ By R v [111]) (vs 7) (bs 7) Rj := g7
    dsimp only at g7
    obtain ⟨-, h5⟩ := g5
    obtain ⟨-, h7⟩ := g7
    haveI := h5.cel
    haveI := h7.cel
    refine H7 (aS rfl (aS rfl a0)) kR (FnX.amb (A := Rj) (fun x hx => by have := hjr x hx; simp [this]) (B03 _ _ [115] [111] Rj h5 h7)) rfl ?_
    rintro r M1 J1 ⟨rfl, hh⟩
    exact ⟨_, rfl, rfl, hh.mono fun x hx => by simpa using hx⟩
   ·
    dsimp only [Gc.inp]
    have g8 := ha _ (List.mem_of_getElem? (i := 4) rfl) kR
    replace g8 : (fun v B R => B = [] ∧ RsV R v (A1G [115] [111])) (vs 8) (bs 8) Rj := g8
    dsimp only at g8
    obtain ⟨-, xo, xt, xr, xk, xl, xs, e, hh⟩ := g8
    dsimp only [Q7, List.map, List.cons_append, List.nil_append]
    rw [e]
    haveI := hh.own.cel
    haveI := hh.their.cel
    haveI := hh.root.cel
    haveI := hh.sk.cel
    haveI := hh.tk.cel
    haveI := hh.st.cel
    refine H7 (aS rfl (aS rfl (aS rfl (aS rfl a0)))) kR (A8S _ (A1G [115] [111]) xo xt xr xk xl xs _ _ _ (hh.mono (fun x hx => by have := hjr x hx; simp [this])) rfl inferInstance inferInstance inferInstance) rfl ?_
    rintro r M1 J1 ⟨rfl, rfl⟩
    exact ⟨_, rfl, rfl, xo, xt, xr, xk, xl, xs, rfl, hh.mono fun x hx => by simp [hx]⟩
   ·
    dsimp only [Gc.inp]
    have g9 := ha _ (List.mem_of_getElem? (i := 5) rfl) kR
    replace g9 : (fun v B R => B = [] ∧ (∃ xo xt xr xk xl xs, v = .tuple #[.agg (rsC xo xt xr xk xl xs (A1G [115] [111])).toArray, .agg #[.slice none 0 0, .int .u32 0, .int .u32 0], .slice none 0 0, .int .i64 2] ∧ RsR R (A1G [115] [111]) xo xt xr xk xl xs)) (vs 9) (bs 9) Rj := g9
    dsimp only at g9
    obtain ⟨-, xo, xt, xr, xk, xl, xs, e, hh⟩ := g9
    exact OpQ.opL qm_ rfl ⟨_, rfl, rfl, xo, xt, xr, xk, xl, xs, e, hh⟩
   ·
    dsimp only [Gc.inp]
    have g10 := ha _ (List.mem_of_getElem? (i := 6) rfl) kR
    replace g10 : (fun v B R => B = [] ∧ (∃ xo xt xr xk xl xs, v = .tuple #[.agg (rsC xo xt xr xk xl xs (A1G [115] [111])).toArray, .agg #[.slice none 0 0, .int .u32 0, .int .u32 0], .slice none 0 0, .int .i64 2] ∧ RsR R (A1G [115] [111]) xo xt xr xk xl xs)) (vs 10) (bs 10) Rj := g10
    dsimp only at g10
    obtain ⟨-, xo, xt, xr, xk, xl, xs, e, hh⟩ := g10
    exact OpQ.opL (G7 (vs := #[.agg (rsC xo xt xr xk xl xs (A1G [115] [111])).toArray, .agg #[.slice none 0 0, .int .u32 0, .int .u32 0], .slice none 0 0, .int .i64 2]) (by rw [← e]; rfl) rfl) rfl ⟨_, rfl, rfl, xo, xt, xr, xk, xl, xs, rfl, hh⟩
   ·
    dsimp only [Gc.inp]
    exact C4 (cs := [.slice none 0 0, .slice none 0 0, .slice none 0 0, .slice none 0 0, F7, .slice none 0 0, F7, F7, .pointer none]) kR rfl fun b => ⟨_, rfl, b, rfl, rfl⟩
   ·
    dsimp only [Gc.inp]
    exact C4 (cs := [.slice none 0 0, .int .u32 0, .int .u32 0]) kR rfl fun b => ⟨_, rfl, b, rfl, rfl⟩
   ·
    have g10 := ha _ (List.mem_of_getElem? (i := 6) rfl) kR
    replace g10 : (fun v B R => B = [] ∧ (∃ xo xt xr xk xl xs, v = .tuple #[.agg (rsC xo xt xr xk xl xs (A1G [115] [111])).toArray, .agg #[.slice none 0 0, .int .u32 0, .int .u32 0], .slice none 0 0, .int .i64 2] ∧ RsR R (A1G [115] [111]) xo xt xr xk xl xs)) (vs 10) (bs 10) Rj := g10
    dsimp only at g10
    obtain ⟨-, xo, xt, xr, xk, xl, xs, e, hh⟩ := g10
    exact ⟨_, G7 (vs := #[.agg (rsC xo xt xr xk xl xs (A1G [115] [111])).toArray, .agg #[.slice none 0 0, .int .u32 0, .int .u32 0], .slice none 0 0, .int .i64 2]) (by rw [← e]; rfl) rfl, rfl, rfl⟩
   ·
    have g10 := ha _ (List.mem_of_getElem? (i := 6) rfl) kR
    replace g10 : (fun v B R => B = [] ∧ (∃ xo xt xr xk xl xs, v = .tuple #[.agg (rsC xo xt xr xk xl xs (A1G [115] [111])).toArray, .agg #[.slice none 0 0, .int .u32 0, .int .u32 0], .slice none 0 0, .int .i64 2] ∧ RsR R (A1G [115] [111]) xo xt xr xk xl xs)) (vs 10) (bs 10) Rj := g10
    dsimp only at g10
    obtain ⟨-, xo, xt, xr, xk, xl, xs, e, hh⟩ := g10
    exact ⟨_, G7 (vs := #[.agg (rsC xo xt xr xk xl xs (A1G [115] [111])).toArray, .agg #[.slice none 0 0, .int .u32 0, .int .u32 0], .slice none 0 0, .int .i64 2]) (by rw [← e]; rfl) rfl, rfl, rfl⟩
   ·
    have g10 := ha _ (List.mem_of_getElem? (i := 6) rfl) kR
    replace g10 : (fun v B R => B = [] ∧ (∃ xo xt xr xk xl xs, v = .tuple #[.agg (rsC xo xt xr xk xl xs (A1G [115] [111])).toArray, .agg #[.slice none 0 0, .int .u32 0, .int .u32 0], .slice none 0 0, .int .i64 2] ∧ RsR R (A1G [115] [111]) xo xt xr xk xl xs)) (vs 10) (bs 10) Rj := g10
    dsimp only at g10
    obtain ⟨-, xo, xt, xr, xk, xl, xs, e, hh⟩ := g10
    exact ⟨_, G7 (vs := #[.agg (rsC xo xt xr xk xl xs (A1G [115] [111])).toArray, .agg #[.slice none 0 0, .int .u32 0, .int .u32 0], .slice none 0 0, .int .i64 2]) (by rw [← e]; rfl) rfl, rfl, rfl⟩
   intro vs bs Jn0 hφ hKK
   have kk4 := hKK _ (List.mem_of_getElem? (i := 0) rfl)
   dsimp only at kk4
   have kk5 := hKK _ (List.mem_of_getElem? (i := 1) rfl)
   dsimp only at kk5
   have kk6 := hKK _ (List.mem_of_getElem? (i := 2) rfl)
   dsimp only at kk6
   have kk7 := hKK _ (List.mem_of_getElem? (i := 3) rfl)
   dsimp only at kk7
   have kk8 := hKK _ (List.mem_of_getElem? (i := 4) rfl)
   dsimp only at kk8
   have kk9 := hKK _ (List.mem_of_getElem? (i := 5) rfl)
   dsimp only at kk9
   have kk10 := hKK _ (List.mem_of_getElem? (i := 6) rfl)
   dsimp only at kk10
   have kk11 := hKK _ (List.mem_of_getElem? (i := 7) rfl)
   dsimp only at kk11
   have kk15 := hKK _ (List.mem_of_getElem? (i := 8) rfl)
   dsimp only at kk15
   have kk16 := hKK _ (List.mem_of_getElem? (i := 9) rfl)
   dsimp only at kk16
   have kk12 := hKK _ (List.mem_of_getElem? (i := 10) rfl)
   dsimp only at kk12
   have kk13 := hKK _ (List.mem_of_getElem? (i := 11) rfl)
   dsimp only at kk13
   have kk14 := hKK _ (List.mem_of_getElem? (i := 12) rfl)
   dsimp only at kk14
   clear hKK
   have g4 := ofH hφ
   dsimp only at g4
   replace hφ := ofT hφ
   have g5 := ofH hφ
   dsimp only at g5
   replace hφ := ofT hφ
   have g6 := ofH hφ
   dsimp only at g6
   replace hφ := ofT hφ
   have g7 := ofH hφ
   dsimp only at g7
   replace hφ := ofT hφ
   have g8 := ofH hφ
   dsimp only at g8
   replace hφ := ofT hφ
   have g9 := ofH hφ
   dsimp only at g9
   replace hφ := ofT hφ
   have g10 := ofH hφ
   dsimp only at g10
   replace hφ := ofT hφ
   have g11 := ofH hφ
   dsimp only at g11
   replace hφ := ofT hφ
   have g15 := ofH hφ
   dsimp only at g15
   replace hφ := ofT hφ
   have g16 := ofH hφ
   dsimp only at g16
   replace hφ := ofT hφ
   have g12 := ofH hφ
   dsimp only at g12
   replace hφ := ofT hφ
   have g13 := ofH hφ
   dsimp only at g13
   replace hφ := ofT hφ
   have g14 := ofH hφ
   dsimp only at g14
   clear hφ
   dsimp only [Q7, A0J, List.foldr, List.map, List.cons_append, List.nil_append]
   generalize bs 4 = B100 at *
   generalize bs 5 = B101 at *
   generalize bs 6 = B102 at *
   generalize bs 7 = B103 at *
   generalize bs 8 = B104 at *
   generalize bs 9 = B105 at *
   generalize bs 10 = B95 at *
   generalize bs 11 = B106 at *
   generalize bs 15 = B13 at *
   generalize bs 16 = B14 at *
   generalize bs 12 = B107 at *
   generalize bs 13 = B108 at *
   generalize bs 14 = B109 at *
   generalize vs 4 = u100 at *
   generalize vs 5 = u101 at *
   generalize vs 6 = u102 at *
   generalize vs 7 = u103 at *
   generalize vs 8 = u104 at *
   generalize vs 9 = u105 at *
   generalize vs 10 = u95 at *
   generalize vs 11 = u106 at *
   generalize vs 15 = u13 at *
   generalize vs 16 = u14 at *
   generalize vs 12 = u107 at *
   generalize vs 13 = u108 at *
   generalize vs 14 = u109 at *
   clear g8 g9 g10
   obtain ⟨b4, rfl, rfl⟩ := g4
   obtain ⟨rfl, h5⟩ := g5
   obtain ⟨b6, rfl, rfl⟩ := g6
   obtain ⟨rfl, h7⟩ := g7
   obtain ⟨rfl, xo, xt, xr, xk, xl, xs, rfl, hx⟩ := g11
   obtain ⟨rfl, rfl⟩ := g12
   obtain ⟨rfl, rfl⟩ := g13
   obtain ⟨rfl, rfl⟩ := g14
   obtain ⟨b15, rfl, rfl⟩ := g15
   obtain ⟨b16, rfl, rfl⟩ := g16
   haveI := hx.own.cel
   haveI := hx.their.cel
   haveI := hx.root.cel
   haveI := hx.sk.cel
   haveI := hx.tk.cel
   haveI := hx.st.cel
   unfold rsC
   refine T7 rfl rfl rfl (A9 (vs := [xo, xt, xr, xk, .int .u32 (((A1G [115] [111]).sn : Nat) : Int), xl, .int .u32 (((A1G [115] [111]).tn : Nat) : Int), .int .u32 (((A1G [115] [111]).prev : Nat) : Int), xs]) rfl rfl rfl kR (by rfl) (A7 hx.own.one (A7 hx.their.one (A7 hx.root.one (A7 hx.sk.one (A7 rfl (A7 hx.tk.one (A7 rfl (A7 rfl (A7 hx.st.one K9))))))))) UpC.upd ?_)
   refine T7 rfl rfl rfl (A9 (vs := [.slice none 0 0, .int .u32 0, .int .u32 0]) rfl rfl rfl kR (by rfl) al3 UpC.upd ?_)
   refine L6 hs rfl (G9 rfl) rfl ?_
   refine L6 hs rfl (G9 rfl) rfl ?_
   refine Q8 (D6 7 11 12 16) ?_
   refine C7 (.range 23) (zp 0 [1, 0, 0, 0, 0, 1, 2, 0, 0, 1, 0, 0, 0, 0, 1, 2, 0, 0, 0, 0, 0, 0, 0]) kR kR fun hs => ?_
   refine G4 hs rfl (qw_ 9) rfl ?_
   refine fm_ hs ?_
   refine C2 hs rfl (E8 rfl) rfl ?_
   refine C2 hs rfl (qf_ 1 1) rfl ?_
   refine C2 hs rfl (C9 (e := 41) (n := 2) (sz := 9) (i := 1) 10 rfl rfl kR kR rfl (by decide) rfl) rfl ?_
   refine G4 hs rfl (S9 (n := 9) (vs := [bo, bt, bw, bk, .int .u32 ((r1.sn : Nat) : Int), bl, .int .u32 ((r1.tn : Nat) : Int), .int .u32 ((r1.prev : Nat) : Int), bq]) rfl kR At.mem rfl (P7 [.pointer (some ⟨pb, 0, none⟩), ao, at_, ar, ak, .int .u32 ((r0.sn : Nat) : Int), al, .int .u32 ((r0.tn : Nat) : Int), .int .u32 ((r0.prev : Nat) : Int), aq] [bo, bt, bw, bk, .int .u32 ((r1.sn : Nat) : Int), bl, .int .u32 ((r1.tn : Nat) : Int), .int .u32 ((r1.prev : Nat) : Int), bq] [])) rfl ?_
   refine N6 rfl (aS rfl (aS rfl a0)) kR (B1M (⟨r1.own, r1.their, r1.root, r1.sk, r1.sn, r1.tk, r1.tn, r1.prev, A7M r1.sks ⟨[113], 7, [107]⟩⟩ : Rsd) r1 bo bt bw bk bl (.pointer (some ⟨cb, 0, none⟩)) bo bt bw bk bl bq _ (hra.mono SubC.sub) (hr1.mono SubC.sub)) rfl ?_
   rintro v116 M116 J116 ⟨rfl, c, rfl, hc1⟩
   obtain rfl : c = false := Bool.eq_false_iff.2 fun h => B8y hnp (hc1.1 h)
   refine C2 hs rfl (A1f rfl) rfl ?_
   refine fm_ hs ?_
   refine X5 hs rfl rfl rfl rfl (qw_ 9) rfl ?_
   refine F4 hs rfl rfl rfl rfl qm_ rfl ?_
   refine F4 hs rfl rfl rfl rfl (E8 rfl) rfl ?_
   refine F4 hs rfl rfl rfl rfl (qf_ 1 1) rfl ?_
   refine F4 hs rfl rfl rfl rfl (C9 (e := 41) (n := 2) (sz := 9) (i := 1) 10 rfl rfl kR kR rfl (by decide) rfl) rfl ?_
   refine X5 hs rfl rfl rfl rfl (S9 (n := 9) (vs := [bo, bt, bw, bk, .int .u32 ((r1.sn : Nat) : Int), bl, .int .u32 ((r1.tn : Nat) : Int), .int .u32 ((r1.prev : Nat) : Int), bq]) rfl kR At.mem rfl (P7 [.pointer (some ⟨pb, 0, none⟩), ao, at_, ar, ak, .int .u32 ((r0.sn : Nat) : Int), al, .int .u32 ((r0.tn : Nat) : Int), .int .u32 ((r0.prev : Nat) : Int), aq] [bo, bt, bw, bk, .int .u32 ((r1.sn : Nat) : Int), bl, .int .u32 ((r1.tn : Nat) : Int), .int .u32 ((r1.prev : Nat) : Int), bq] [])) rfl ?_
   refine A4R rfl rfl rfl rfl (aS rfl (aS rfl a0)) kR (B1M rz r1 zo zt zr zk zl (.pointer (some ⟨cb2, 0, none⟩)) bo bt bw bk bl bq _ (hrz.mono SubC.sub) (hr1.mono SubC.sub)) rfl ?_
   rintro v125 M125 J125 ⟨rfl, c, rfl, hc2⟩
   obtain rfl : c = false := Bool.eq_false_iff.2 fun h => hne (hc2.1 h)
   refine F4 hs rfl rfl rfl rfl (A1f rfl) rfl ?_
   refine C2 hs rfl (E1 rfl rfl) rfl ?_
   refine fm_ hs ?_
   refine F4 hs rfl rfl rfl rfl qm_ rfl ?_
   refine F4 hs rfl rfl rfl rfl (F0 true rfl rfl (eqT rfl)) rfl ?_
   refine C2 hs rfl (E1 rfl rfl) rfl ?_
   refine fa_ hs ?_
   refine E4 (D7 6) (B4 ?_)
   exact ⟨_, [], [], I7 rfl rfl, List.nil_sublist _, by simp, rfl, rfl, rfl⟩

section
variable {H : Type} {enc : TypeId × Value → H} {P : Program} {w : World} {spare : Nat → Bool} {held : Bool} {fuel : Nat} {t e : TypeId} {cs : List Value} {x : DataW H × List MemPlace} {v : Value} {d : DataW H} {p : List MemPlace} {r : Reach} {base : Nat} {k : IntKind}
end
theorem A5u {P : Program} {W : World} {name : String} {g : Nat} {cs : Array Value} (hg : P.globalNamed name = some g) (h : W.var? P name = some cs) : ∃ e fr, W.heap[g]? = some (.cells cs e fr) := by
  unfold World.var? at h
  rw [hg] at h
  simp only [Option.bind_some] at h
  split at h
  · rename_i c e fr hh
    cases h
    exact ⟨e, fr, hh⟩
  · cases h
def B1N (ws : List Nat) : List Int := ws.map fun n : Nat => (n : Int)
theorem A4B (k : IntKind) (ws : List Nat) : ((B1N ws).map fun z => Value.int k z).toArray = (nums k ws).toArray := by simp [B1N, nums]
theorem B6X {W : World} {a b : String × DataW Unit} {rest : List (String × DataW Unit)} (h : laidMet Tryz.prog (a :: b :: ("internal/strconv.uint64pow10", Rows.laid_internal_strconv_uint64pow10) :: rest) W) : ∃ e fr, W.heap[4]? = some (Obj.cells (nums .u64 A0d).toArray e fr) := by
  have h' : laidMet Tryz.prog (("internal/strconv.uint64pow10", Lib.tabData .u64 (B1N A0d)) :: rest) W := h.tail.tail
  have h1 := Lib.tabIs_of_head (g := 4) (t := 222) (e := 94) (n := 20) (by kernel_rfl) (by kernel_rfl) (by kernel_rfl) (by kernel_rfl) (by kernel_rfl) (by kernel_rfl) h'
  obtain ⟨ek, fk, h3⟩ := A5u (g := 4) (by kernel_rfl) h1
  rw [A4B] at h3
  exact ⟨ek, fk, h3⟩
end Go.Proofs.YtlilcmjbaknafaaGreatDoor

namespace Go.Proofs.YtlilcmjbaknafaaGreatDoor
open Go.Px
theorem B8z {W : World} {a b : String × DataW Unit} {rest : List (String × DataW Unit)} (h : laidMet Tryz.prog (a :: b :: ("internal/strconv.uint64pow10", Rows.laid_internal_strconv_uint64pow10) :: ("pawl/sha.round", Rows.laid_pawl_sha_round) :: ("pawl/sha.first", Rows.laid_pawl_sha_first) :: rest) W) : Glb (B2G W) := by
  obtain ⟨e4, f4, h4⟩ := B6X h
  have h' : laidMet Tryz.prog (("pawl/sha.round", Lib.tabData .u32 (B1N A1N)) :: ("pawl/sha.first", Lib.tabData .u32 (B1N A2r.list)) :: rest) W := h.tail.tail.tail
  have h1 := Lib.tabIs_of_head (g := 1) (t := 187) (e := 27) (n := 64) (by kernel_rfl) (by kernel_rfl) (by kernel_rfl) (by kernel_rfl) (by kernel_rfl) (by kernel_rfl) h'
  have h2 := Lib.tabIs_of_head (g := 0) (t := 166) (e := 27) (n := 8) (by kernel_rfl) (by kernel_rfl) (by kernel_rfl) (by kernel_rfl) (by kernel_rfl) (by kernel_rfl) h'.tail
  obtain ⟨ek, fk, h3⟩ := A5u (g := 1) (by kernel_rfl) h1
  obtain ⟨ef, ff, h5⟩ := A5u (g := 0) (by kernel_rfl) h2
  rw [A4B] at h3 h5
  exact ⟨⟨ef, ff, A1Y.2 h5⟩, ⟨ek, fk, A1Y.2 h3⟩, ⟨e4, f4, A1Y.2 h4⟩⟩
end Go.Proofs.YtlilcmjbaknafaaGreatDoor

namespace Go.Proofs.YtlilcmjbaknafaaGreatDoor.ratchetApart
open Go.ChangeShapes Go.WideShapes Go.ChangeAt Go.RowKit
theorem own : ownKnob Tryz.prog.godebug = none := by kernel_rfl
theorem laidOut : laidOutB Tryz.prog = true := by kernel_rfl
noncomputable def laidWorld (os : Os) : World := World.laidAll Tryz.prog os Rows.ratchetApartRow.laid
theorem laid_met (os : Os) : laidMetH Tryz.prog Rows.ratchetApartRow.laid ((laidWorld os).forCall (fun _ _ => 0) ⟨#[], #[.int .u8 0, .int .u8 0, .int .u8 0], []⟩).memory := by
  rw [MakeChecks.laidMetH_plain _ _ _ (by kernel_rfl)]; exact laidMet_laidAll _ (by kernel_rfl) (by kernel_rfl)
theorem reads (os : Os) {H : Type} (enc : TypeId × Value → H) : ∃ places, DataW.whole enc Tryz.prog ((laidWorld os).forCall (fun _ _ => 0) ⟨#[], #[.int .u8 0, .int .u8 0, .int .u8 0], []⟩).memory Tryz.f5.params.toList Rows.ratchetApartSpec.vars false (#[.int .u8 0, .int .u8 0, .int .u8 0] : Array Value).toList 8 = some ([.lit (.int .u8 0), .lit (.int .u8 0), .lit (.int .u8 0)], [], places) :=
  ⟨[], by kernel_rfl⟩
theorem lifted (os : Os) (started : os.Started) (H : Type) (enc : TypeId × Value → H) (F : Stop.Interp) :
    ReturnsInHanded {} Tryz.checked os 5 .any ((OpenSpec.ofChange Rows.ratchetApartSpec).preRow enc Tryz.prog Tryz.f5 Rows.ratchetApartRow.domain false Rows.ratchetApartRow.laid) (((OpenSpec.ofChange Rows.ratchetApartSpec).at F).post enc Tryz.prog Tryz.f5 false true false false) := by
  obtain ⟨places, hx⟩ := reads os enc
  refine returnsInHanded_of_row (C := Tryz.checked) (s := (OpenSpec.ofChange Rows.ratchetApartSpec)) own started (by kernel_rfl) Tryz.func5
    (witness_row_at (enc := enc) (C := Tryz.checked) false (laidWorld os) #[.int .u8 0, .int .u8 0, .int .u8 0] (World.laidAll_os _ _ _) (by kernel_rfl) (by kernel_rfl) (by kernel_rfl)
      (OpenSpec.preRow_of_cond 8 hx (by kernel_rfl) (fun k hk => by cases hk) (by kernel_rfl) (laid_met os))) ?_
  intro W base args ds gs before hval0 hW _ _ _ hL _ _
  have hval : ∀ (j : Nat) t v, Tryz.f5.params[j]? = some t → args[j]? = some v → Value.okWide Tryz.prog W .any base t v := hval0
  have hW' := hW
  obtain ⟨p, q, hA0, hV, rfl, hfz, hnd⟩ := hW
  have hA : DataW.TrodAll enc Tryz.prog W 0 (fun _ => true) true Tryz.f5.params.toList args.toList ds p := hA0
  rw [Tryz.params5] at hA hval
  obtain ⟨v0, vs0, d0, ds0, p0, q0, hargs, rfl, rfl, k0, r0_⟩ := trodAll_cons hA
  obtain ⟨v1, vs1, d1, ds1, p1, q1, rfl, rfl, rfl, k1, r1_⟩ := trodAll_cons r0_
  obtain ⟨v2, vs2, d2, ds2, p2, q2, rfl, rfl, rfl, k2, r2_⟩ := trodAll_cons r1_
  obtain ⟨rfl, rfl, rfl⟩ := trodAll_nil r2_
  obtain rfl : args = #[v0, v1, v2] := by cases args; simp_all
  obtain ⟨rfl, rfl⟩ := trodVars_none hV
  have lt0 : ∀ x ∈ p0, x.block < W.heap.size := by obtain ⟨m, hm⟩ := k0; exact DataW.trod_lt m _ _ _ hm
  have lt1 : ∀ x ∈ p1, x.block < W.heap.size := by obtain ⟨m, hm⟩ := k1; exact DataW.trod_lt m _ _ _ hm
  have lt2 : ∀ x ∈ p2, x.block < W.heap.size := by obtain ⟨m, hm⟩ := k2; exact DataW.trod_lt m _ _ _ hm
  obtain ⟨x0, rfl, hx0⟩ := Px.inU Tryz.underlying5 rfl (hval 0 5 v0 rfl rfl) k0
  obtain ⟨x1, rfl, hx1⟩ := Px.inU Tryz.underlying5 rfl (hval 1 5 v1 rfl rfl) k1
  obtain ⟨x2, rfl, hx2⟩ := Px.inU Tryz.underlying5 rfl (hval 2 5 v2 rfl rfl) k2
  clear hA0 hval0
  rw [MakeChecks.laidMetH_plain _ _ _ (by kernel_rfl)] at hL
  have hG := B8z hL
  refine Calls.mono ((A36 x0 x1 x2 _ hx0 hx1 hx2 hG).calls (Px.heapA_fx W)) fun e W' ⟨he, bel⟩ => ?_
  subst he
  exact ⟨_, rfl, _, _, _, [], _, [], hW', trodAll_mk1 (shut_bool Tryz.underlying4 _), (trodAll_cons_mk (Below.trod laidOut (by kernel_rfl) (of_decide_eq_true (by kernel_rfl)) k0 bel lt0) (trodAll_cons_mk (Below.trod laidOut (by kernel_rfl) (of_decide_eq_true (by kernel_rfl)) k1 bel lt1) (trodAll_cons_mk (Below.trod laidOut (by kernel_rfl) (of_decide_eq_true (by kernel_rfl)) k2 bel lt2) trodAll_mk0))), rfl, bel.frame _, fun h => by cases h⟩
theorem said : Rows.RatchetApartSaid :=
  OpenClaim.holds_of_cond 5 Tryz.f5 rfl rfl rfl rfl rfl rfl rfl ⟨rfl, rfl, rfl, rfl, rfl⟩ rfl rfl rfl rfl rfl (by kernel_rfl) Tryz.func5 (by kernel_rfl)
    (of_decide_eq_true (by kernel_rfl)) (by unfold Func.isWrapper; first | (rw [if_pos (by decide +kernel)]; kernel_rfl) | (rw [if_neg (by decide +kernel)]; exact ⟨rfl, rfl⟩))
    (fun os started H enc _ F => by rw [OpenClaim.pre_eq_preRow]; exact lifted os started H enc F)
theorem plain (f : FuncId) (fn : Func) (hf : Tryz.pinned.checked.prog.funcNamed "pawl/pawllaw11.RatchetApart" = some f) (hfn : Tryz.pinned.checked.prog.funcs[f]? = some fn) :
    true = Tryz.pinned.checked.prog.looks [] ∧ ∀ (j : Nat) t, fn.params[j]? = some t → Tryz.pinned.checked.prog.wantsStandIn t = false := by
  obtain rfl : f = 5 := Option.some.inj ((show Tryz.prog.funcNamed "pawl/pawllaw11.RatchetApart" = some 5 by kernel_rfl).symm.trans hf) |>.symm
  obtain rfl : fn = Tryz.f5 := (Option.some.inj (Tryz.func5.symm.trans hfn)).symm
  refine ⟨by kernel_rfl, fun j t ht => ?_⟩
  rw [Tryz.params5] at ht
  have hm := Array.mem_of_getElem? ht
  simp only [List.mem_toArray, List.mem_cons, List.not_mem_nil, or_false] at hm
  rcases hm with rfl | rfl | rfl
  · exact (show Tryz.prog.wantsStandIn 5 = false by kernel_rfl)
  · exact (show Tryz.prog.wantsStandIn 5 = false by kernel_rfl)
  · exact (show Tryz.prog.wantsStandIn 5 = false by kernel_rfl)
theorem proved : Rows.RatchetApartCardSaid :=
  Claim7.holds_tied_plain_at .later [] _ _ _ _ said (fun _ h => by cases h) (by kernel_rfl) (fun _ h => by cases h) ratchetApart_row_tie rfl ⟨rfl, rfl⟩ (by kernel_rfl) rfl plain (by kernel_rfl)
#print axioms proved
end Go.Proofs.YtlilcmjbaknafaaGreatDoor.ratchetApart

