/- Part 17 of the texts of this claim, one behind the other. -/
import Derived.Test.YtjkpfgjfpbihaaaGreatDoorB16
set_option linter.unusedVariables false
set_option linter.unusedSimpArgs false
set_option maxRecDepth 100000
namespace Go.Proofs.YtjkpfgjfpbihaaaGreatDoor
open Go.Px
def rolN(x n:Nat):Nat:=(x <<< n) % 4294967296 ||| x >>> (32 - n)
variable{n:Nat}
theorem B9R{x:Nat}(hx:x < 4294967296):rolN x n < 4294967296:=B4l V1 (B0J hx)
def wrdN(p:LN):Nat:=((p.getD 0 0 ||| (p.getD 1 0 <<< 8) % 4294967296) ||| (p.getD 2 0 <<< 16) % 4294967296) ||| (p.getD 3 0 <<< 24) % 4294967296
variable{p:LN}
theorem A07(h:∀ x∈p,x < 256)(i:Nat):p.getD i 0 < 256:=by
  rw [Aj]
  cases hq:p[i]? with
  | none=>decide
  | some x=>exact h x (As hq)
theorem B3s(h:∀ x∈p,x < 256):wrdN p < 4294967296:=B4l (B4l (B4l (by have:=A07 h 0; omega) V1) V1) V1
theorem A3B(x n:Nat)(A:Mem)(hx:x < 4294967296)(h0:0 < n)(hn:n < 32):FnV Tryz.prog 158 [(vU x),(vI n)] A (.int .u32 ((rolN x n:Nat):Int)):=by refine Ck (N:=17) Tryz.func158 E E E λ w=>?_;refine A9 (D2 0 1) (A1 (as_ (A0 (D2 0 1) (A1 (mv_ ?_)))));refine A2 (K6 (k':=.u64) n E kR (A19 qO)) E ?_;refine A2 (D7 ((n:Nat):Int) E E ((C3g (k:=.u64) (b:=31) E (by show _ < 2 ^ 64; omega) qD).trans (by rw [Nat.and_two_pow_sub_one_eq_mod _ 5,Af qO]))) E ?_;refine as_ (A0 (D2 0 5) (A1 (mv_ (mv_ ?_))));refine A2 (A1b n E E E qO) E ?_;refine mv_ (mv_ ?_);refine A2 (D7 ((32 - n:Nat):Int) E E ((C3f (k:=.u64) (a:=32) (b:=n) E (32 - n) (by show _<=2 ^ 64; omega) (by show (32+(18446744073709551616 - n)) % 18446744073709551616=32 - n; omega)))) E ?_;refine A2 (T7 (32 - n) E E E (by show 32 - n<=32; omega)) E ?_;refine A2 (A26 E E V1 (B0J hx)) E ?_;refine as_ (A0 (D5 4) (C0 ?_));exact ⟨_,[],[],I0 E E,Aa _,by simp,E,E,E⟩
theorem A3C(h:n < 256):IntKind.u32.wrap (n:Int)=(n:Int):=by unfold IntKind.wrap;simp [IntKind.signed,IntKind.bits];omega
theorem B7K(v:Value)(w:LN)(A:Mem)(hv:By A v w)(hl:4<=w.length):FnV Tryz.prog 185 [v] A (.int .u32 ((wrdN w:Nat):Int)):=by haveI:=hv.cel;refine Ck (N:=25) Tryz.func185 E E E λ w_=>?_;refine A9 (D5 0) (A1 (as_ (A0 (D5 0) ?_)));refine D1 (.range 23) (zp 0 [0,0,1,0,0,0,1,0,0,0,0,0,1,0,0,0,0,0,1,0,0,0,0]) kR kR λ hs=>?_;refine fm_ hs ?_;refine C8 hs E (H4 (sz:=1) (a:=0) E E kR E hv.rd qO) E ?_;refine F9 hs E (A0T (k:=.u8) E kR (hv.rd.mono qS) qO) E ?_;refine C8 hs E (K6 (k':=.u32) (w.getD 0 0) E kR (A3C (A07 hv.lt 0))) E ?_;refine fm_ hs ?_;refine C8 hs E (H4 (sz:=1) (a:=1) E E kR E hv.rd qO) E ?_;refine F9 hs E (A0T (k:=.u8) E kR (hv.rd.mono qS) qO) E ?_;refine C8 hs E (K6 (k':=.u32) (w.getD 1 0) E kR (A3C (A07 hv.lt 1))) E ?_;refine C8 hs E (A1b 8 E E E qD) E ?_;refine C8 hs E (A26 E E (by have:=A07 hv.lt 0; omega) V1) E ?_;refine fm_ hs ?_;refine C8 hs E (H4 (sz:=1) (a:=2) E E kR E hv.rd qO) E ?_;refine F9 hs E (A0T (k:=.u8) E kR (hv.rd.mono qS) qO) E ?_;refine C8 hs E (K6 (k':=.u32) (w.getD 2 0) E kR (A3C (A07 hv.lt 2))) E ?_;refine C8 hs E (A1b 16 E E E qD) E ?_;refine C8 hs E (A26 E E (B4l (by have:=A07 hv.lt 0; omega) V1) V1) E ?_;refine fm_ hs ?_;refine C8 hs E (H4 (sz:=1) (a:=3) E E kR E hv.rd qO) E ?_;refine F9 hs E (A0T (k:=.u8) E kR (hv.rd.mono qS) qO) E ?_;refine C8 hs E (K6 (k':=.u32) (w.getD 3 0) E kR (A3C (A07 hv.lt 3))) E ?_;refine C8 hs E (A1b 24 E E E qD) E ?_;refine C8 hs E (A26 E E (B4l (B4l (by have:=A07 hv.lt 0; omega) V1) V1) V1) E ?_;refine fa_ hs ?_;refine E3 (D5 2) (C0 ?_);exact ⟨_,[],[],I0 E E,Aa _,by simp,E,E,E⟩
theorem A4s(v:Value)(w:LN)(n:Nat)(A:Mem)(hv:By A v w)(hn:n<=16000000):FnX Tryz.prog 161 [v,.int .i64 (n:Int)] [] A λ q M J=>M=[]∧By J q (I5 w n):=by haveI:=hv.cel;have hvl:=hv.len;refine Cl (N:=12) Tryz.func161 E E E λ w_=>?_;refine A9 (D2 0 1) (A1 (as_ (A0 (D2 0 1) (A1 (mv_ ?_)))));refine A3 E (A0F (by_:=1) (k:=.u8) (e:=5) n E E kR E E qO qO E λ b7=>?_);refine as_ (A0 (D2 0 5) (A1 (mv_ (mv_ ?_))));refine A3 E (A30 (e:=5) (us:=w) (ws:=List.replicate n 0) (ws':=I5 w n) (by_:=1) E E kR (hv.rd.mono qS) qM (by simp [I5]) Cs E ?_);refine A0 (D5 5) (A1 (mv_ (as_ (A0 (D5 4) (C0 ?_)))));refine ⟨_,[],[(b7,blk (nums .u8 (I5 w n)) 5)],I0 E E,Ce qM,⟨E,⟨?_,A2V hv.lt n,by rw [L7]; omega⟩⟩⟩;rw [L7];exact Co (n:=n) qK (by simp [L7])

def adW(S:LN)(a b:Nat):LN:=S.set a ((S.getD a 0+S.getD b 0) % 4294967296)
def xrW(S:LN)(d a n:Nat):LN:=S.set d (rolN (S.getD d 0 ^^^ S.getD a 0) n)
def C2d(S:LN)(a b c d:Nat):LN:=xrW (adW (xrW (adW (xrW (adW (xrW (adW S a b) d a 16) c d) b c 12) a b) d a 8) c d) b c 7
structure W16(S:LN):Prop where
  len:S.length=16
  lt:∀ x∈S,x < 4294967296
variable{S:LN}
theorem W16.get(h:W16 S)(i:Nat):S.getD i 0 < 4294967296:=by
  rw [Aj]
  cases hq:S[i]? with
  | none=>decide
  | some x=>exact h.lt x (As hq)
theorem W16.set{S:LN}(h:W16 S)(i x:Nat)(hx:x < 4294967296):W16 (S.set i x):=⟨by rw [Bk]; exact h.len,λ y hy=>by rcases Bf hy with h1 | rfl; exact h.lt y h1; exact hx⟩
theorem xor32{a b:Nat}(ha:a < 4294967296)(hb:b < 4294967296):a ^^^ b < 4294967296:=Nat.xor_lt_two_pow (n:=32) ha hb
theorem W16.ad(h:W16 S)(a b:Nat):W16 (adW S a b):=h.set _ _ (Ad _ qD)
theorem W16.xr(h:W16 S)(d a n:Nat):W16 (xrW S d a n):=h.set _ _ (B9R (xor32 (h.get d) (h.get a)))
theorem W16.trn(h:W16 S)(a b c d:Nat):W16 (C2d S a b c d):=(((((((h.ad a b).xr d a 16).ad c d).xr b c 12).ad a b).xr d a 8).ad c d).xr b c 7
theorem B3t(sb:Nat)(S0:LN)(a b c d:Nat)(A:Mem)(hS0:W16 S0)(ha_:a < 16)(hb_:b < 16)(hc_:c < 16)(hd_:d < 16):FnX Tryz.prog 186 [(vP sb),(vI a),(vI b),(vI c),(vI d)] [(sb,blk (nums .u32 S0) 269)] A λ q M J=>q=.tuple #[]∧M=[(sb,blk (nums .u32 (C2d S0 a b c d)) 269)]∧J=[]:=by
 refine Cl (N:=126) Tryz.func186 E E E λ w_=>?_;refine A9 (E8 0 1 2 3 4) ?_;refine D1 (.range 13) (zp 0 [0,0,0,0,1,0,0,0,0,1,0,0,0,2]) kR kR λ hs=>?_;refine fm_ hs ?_;refine fm_ hs ?_;refine C8 hs E (E7 E) E ?_;refine C8 hs E (E0 (e:=31) (n:=16) (sz:=1) (i:=a) a E E kR kR E ha_ qO) E ?_;refine F9 hs E (I6 a E kR Cc E (by rw [hS0.len]; exact ha_)) E ?_;refine fm_ hs ?_;refine fm_ hs ?_;refine C8 hs E (E7 E) E ?_;refine C8 hs E (E0 (e:=31) (n:=16) (sz:=1) (i:=b) b E E kR kR E hb_ qO) E ?_;refine F9 hs E (I6 b E kR Cc E (by rw [hS0.len]; exact hb_)) E ?_;refine C8 hs E (H2 4294967296 E E E E E E) E ?_;refine C8 hs E (E7 E) E ?_;refine C8 hs E (E0 (e:=31) (n:=16) (sz:=1) (i:=a) a E E kR kR E ha_ qO) E ?_;refine G1 E E E (K8 a E E kR E (by rw [hS0.len]; exact ha_) Cs ?_);refine E3 (E8 0 1 2 3 4) ?_;have hS1:=hS0.ad a b;change W16 (S0.set a ((S0.getD a 0+S0.getD b 0) % 4294967296)) at hS1
 obtain ⟨S1,e1⟩:∃ z,S0.set a ((S0.getD a 0+S0.getD b 0) % 4294967296)=z:=⟨_,E⟩
 rw [e1] at hS1 ⊢;change adW S0 a b=S1 at e1;refine D1 (.range 16) [(0,0),(1,0),(2,0),(3,0),(4,0),(5,0),(6,1),(7,0),(8,0),(9,0),(10,0),(11,1),(12,0),(14,0),(13,2),(15,0),(16,2)] kR kR λ hs=>?_;refine fm_ hs ?_;refine fm_ hs ?_;refine fm_ hs ?_;refine fm_ hs ?_;refine C8 hs E (E7 E) E ?_;refine C8 hs E (E0 (e:=31) (n:=16) (sz:=1) (i:=d) d E E kR kR E hd_ qO) E ?_;refine F9 hs E (I6 d E kR Cc E (by rw [hS1.len]; exact hd_)) E ?_;refine fm_ hs ?_;refine fm_ hs ?_;refine C8 hs E (E7 E) E ?_;refine C8 hs E (E0 (e:=31) (n:=16) (sz:=1) (i:=a) a E E kR kR E ha_ qO) E ?_;refine F9 hs E (I6 a E kR Cc E (by rw [hS1.len]; exact ha_)) E ?_;refine C8 hs E (V0 E E (hS1.get _) (hS1.get _)) E ?_;refine C8 hs E (E7 E) E ?_;refine N3 E (aS E (aS E a0)) kR (A3B _ 16 _ (xor32 (hS1.get _) (hS1.get _)) qD qD) E ?_;refine C8 hs E (E0 (e:=31) (n:=16) (sz:=1) (i:=d) d E E kR kR E hd_ qO) E ?_;refine G1 E E E (K8 d E E kR E (by rw [hS1.len]; exact hd_) Cs ?_);refine E3 (E8 0 1 2 3 4) ?_;have hS2:=hS1.xr d a 16;change W16 (S1.set d (rolN (S1.getD d 0 ^^^ S1.getD a 0) 16)) at hS2
 obtain ⟨S2,e2⟩:∃ z,S1.set d (rolN (S1.getD d 0 ^^^ S1.getD a 0) 16)=z:=⟨_,E⟩
 rw [e2] at hS2 ⊢;change xrW S1 d a 16=S2 at e2;refine D1 (.range 13) (zp 0 [0,0,0,0,1,0,0,0,0,1,0,0,0,2]) kR kR λ hs=>?_;refine fm_ hs ?_;refine fm_ hs ?_;refine C8 hs E (E7 E) E ?_;refine C8 hs E (E0 (e:=31) (n:=16) (sz:=1) (i:=c) c E E kR kR E hc_ qO) E ?_;refine F9 hs E (I6 c E kR Cc E (by rw [hS2.len]; exact hc_)) E ?_;refine fm_ hs ?_;refine fm_ hs ?_;refine C8 hs E (E7 E) E ?_;refine C8 hs E (E0 (e:=31) (n:=16) (sz:=1) (i:=d) d E E kR kR E hd_ qO) E ?_;refine F9 hs E (I6 d E kR Cc E (by rw [hS2.len]; exact hd_)) E ?_;refine C8 hs E (H2 4294967296 E E E E E E) E ?_;refine C8 hs E (E7 E) E ?_;refine C8 hs E (E0 (e:=31) (n:=16) (sz:=1) (i:=c) c E E kR kR E hc_ qO) E ?_;refine G1 E E E (K8 c E E kR E (by rw [hS2.len]; exact hc_) Cs ?_);refine E3 (E8 0 1 2 3 4) ?_;have hS3:=hS2.ad c d;change W16 (S2.set c ((S2.getD c 0+S2.getD d 0) % 4294967296)) at hS3
 obtain ⟨S3,e3⟩:∃ z,S2.set c ((S2.getD c 0+S2.getD d 0) % 4294967296)=z:=⟨_,E⟩
 rw [e3] at hS3 ⊢;change adW S2 c d=S3 at e3;refine D1 (.range 16) [(0,0),(1,0),(2,0),(3,0),(4,0),(5,0),(6,1),(7,0),(8,0),(9,0),(10,0),(11,1),(12,0),(14,0),(13,2),(15,0),(16,2)] kR kR λ hs=>?_;refine fm_ hs ?_;refine fm_ hs ?_;refine fm_ hs ?_;refine fm_ hs ?_;refine C8 hs E (E7 E) E ?_;refine C8 hs E (E0 (e:=31) (n:=16) (sz:=1) (i:=b) b E E kR kR E hb_ qO) E ?_;refine F9 hs E (I6 b E kR Cc E (by rw [hS3.len]; exact hb_)) E ?_;refine fm_ hs ?_;refine fm_ hs ?_;refine C8 hs E (E7 E) E ?_;refine C8 hs E (E0 (e:=31) (n:=16) (sz:=1) (i:=c) c E E kR kR E hc_ qO) E ?_;refine F9 hs E (I6 c E kR Cc E (by rw [hS3.len]; exact hc_)) E ?_;refine C8 hs E (V0 E E (hS3.get _) (hS3.get _)) E ?_;refine C8 hs E (E7 E) E ?_;refine N3 E (aS E (aS E a0)) kR (A3B _ 12 _ (xor32 (hS3.get _) (hS3.get _)) qD qD) E ?_;refine C8 hs E (E0 (e:=31) (n:=16) (sz:=1) (i:=b) b E E kR kR E hb_ qO) E ?_;refine G1 E E E (K8 b E E kR E (by rw [hS3.len]; exact hb_) Cs ?_);refine E3 (E8 0 1 2 3 4) ?_;have hS4:=hS3.xr b c 12;change W16 (S3.set b (rolN (S3.getD b 0 ^^^ S3.getD c 0) 12)) at hS4
 obtain ⟨S4,e4⟩:∃ z,S3.set b (rolN (S3.getD b 0 ^^^ S3.getD c 0) 12)=z:=⟨_,E⟩
 rw [e4] at hS4 ⊢;change xrW S3 b c 12=S4 at e4;refine D1 (.range 13) (zp 0 [0,0,0,0,1,0,0,0,0,1,0,0,0,2]) kR kR λ hs=>?_;refine fm_ hs ?_;refine fm_ hs ?_;refine C8 hs E (E7 E) E ?_;refine C8 hs E (E0 (e:=31) (n:=16) (sz:=1) (i:=a) a E E kR kR E ha_ qO) E ?_;refine F9 hs E (I6 a E kR Cc E (by rw [hS4.len]; exact ha_)) E ?_;refine fm_ hs ?_;refine fm_ hs ?_;refine C8 hs E (E7 E) E ?_;refine C8 hs E (E0 (e:=31) (n:=16) (sz:=1) (i:=b) b E E kR kR E hb_ qO) E ?_;refine F9 hs E (I6 b E kR Cc E (by rw [hS4.len]; exact hb_)) E ?_;refine C8 hs E (H2 4294967296 E E E E E E) E ?_;refine C8 hs E (E7 E) E ?_;refine C8 hs E (E0 (e:=31) (n:=16) (sz:=1) (i:=a) a E E kR kR E ha_ qO) E ?_;refine G1 E E E (K8 a E E kR E (by rw [hS4.len]; exact ha_) Cs ?_);refine E3 (E8 0 1 2 3 4) ?_;have hS5:=hS4.ad a b;change W16 (S4.set a ((S4.getD a 0+S4.getD b 0) % 4294967296)) at hS5
 obtain ⟨S5,e5⟩:∃ z,S4.set a ((S4.getD a 0+S4.getD b 0) % 4294967296)=z:=⟨_,E⟩
 rw [e5] at hS5 ⊢;change adW S4 a b=S5 at e5;refine D1 (.range 16) [(0,0),(1,0),(2,0),(3,0),(4,0),(5,0),(6,1),(7,0),(8,0),(9,0),(10,0),(11,1),(12,0),(14,0),(13,2),(15,0),(16,2)] kR kR λ hs=>?_;refine fm_ hs ?_;refine fm_ hs ?_;refine fm_ hs ?_;refine fm_ hs ?_;refine C8 hs E (E7 E) E ?_;refine C8 hs E (E0 (e:=31) (n:=16) (sz:=1) (i:=d) d E E kR kR E hd_ qO) E ?_;refine F9 hs E (I6 d E kR Cc E (by rw [hS5.len]; exact hd_)) E ?_;refine fm_ hs ?_;refine fm_ hs ?_;refine C8 hs E (E7 E) E ?_;refine C8 hs E (E0 (e:=31) (n:=16) (sz:=1) (i:=a) a E E kR kR E ha_ qO) E ?_;refine F9 hs E (I6 a E kR Cc E (by rw [hS5.len]; exact ha_)) E ?_;refine C8 hs E (V0 E E (hS5.get _) (hS5.get _)) E ?_;refine C8 hs E (E7 E) E ?_;refine N3 E (aS E (aS E a0)) kR (A3B _ 8 _ (xor32 (hS5.get _) (hS5.get _)) qD qD) E ?_;refine C8 hs E (E0 (e:=31) (n:=16) (sz:=1) (i:=d) d E E kR kR E hd_ qO) E ?_;refine G1 E E E (K8 d E E kR E (by rw [hS5.len]; exact hd_) Cs ?_);refine E3 (D8 0 2 3 4) ?_;have hS6:=hS5.xr d a 8;change W16 (S5.set d (rolN (S5.getD d 0 ^^^ S5.getD a 0) 8)) at hS6
 obtain ⟨S6,e6⟩:∃ z,S5.set d (rolN (S5.getD d 0 ^^^ S5.getD a 0) 8)=z:=⟨_,E⟩
 rw [e6] at hS6 ⊢;change xrW S5 d a 8=S6 at e6;refine D1 (.range 13) (zp 0 [0,0,0,0,1,0,0,0,0,1,0,0,0,2]) kR kR λ hs=>?_;refine fm_ hs ?_;refine fm_ hs ?_;refine C8 hs E (E7 E) E ?_;refine C8 hs E (E0 (e:=31) (n:=16) (sz:=1) (i:=c) c E E kR kR E hc_ qO) E ?_;refine F9 hs E (I6 c E kR Cc E (by rw [hS6.len]; exact hc_)) E ?_;refine fm_ hs ?_;refine fm_ hs ?_;refine C8 hs E (E7 E) E ?_;refine C8 hs E (E0 (e:=31) (n:=16) (sz:=1) (i:=d) d E E kR kR E hd_ qO) E ?_;refine F9 hs E (I6 d E kR Cc E (by rw [hS6.len]; exact hd_)) E ?_;refine C8 hs E (H2 4294967296 E E E E E E) E ?_;refine C8 hs E (E7 E) E ?_;refine C8 hs E (E0 (e:=31) (n:=16) (sz:=1) (i:=c) c E E kR kR E hc_ qO) E ?_;refine G1 E E E (K8 c E E kR E (by rw [hS6.len]; exact hc_) Cs ?_);refine E3 (D6 0 2 3) ?_;have hS7:=hS6.ad c d;change W16 (S6.set c ((S6.getD c 0+S6.getD d 0) % 4294967296)) at hS7
 obtain ⟨S7,e7⟩:∃ z,S6.set c ((S6.getD c 0+S6.getD d 0) % 4294967296)=z:=⟨_,E⟩
 rw [e7] at hS7 ⊢;change adW S6 c d=S7 at e7;refine H7 (.range 16) [(0,0),(1,0),(2,0),(3,0),(4,0),(5,0),(6,1),(7,0),(8,0),(9,0),(10,0),(11,1),(12,0),(14,0),(13,2),(15,0),(16,2)] kR kR λ hs=>?_;refine fm_ hs ?_;refine fm_ hs ?_;refine fm_ hs ?_;refine fm_ hs ?_;refine C8 hs E (E7 E) E ?_;refine C8 hs E (E0 (e:=31) (n:=16) (sz:=1) (i:=b) b E E kR kR E hb_ qO) E ?_;refine F9 hs E (I6 b E kR Cc E (by rw [hS7.len]; exact hb_)) E ?_;refine fm_ hs ?_;refine fm_ hs ?_;refine C8 hs E (E7 E) E ?_;refine C8 hs E (E0 (e:=31) (n:=16) (sz:=1) (i:=c) c E E kR kR E hc_ qO) E ?_;refine F9 hs E (I6 c E kR Cc E (by rw [hS7.len]; exact hc_)) E ?_;refine C8 hs E (V0 E E (hS7.get _) (hS7.get _)) E ?_;refine C8 hs E (E7 E) E ?_;refine N3 E (aS E (aS E a0)) kR (A3B _ 7 _ (xor32 (hS7.get _) (hS7.get _)) qD qD) E ?_;refine C8 hs E (E0 (e:=31) (n:=16) (sz:=1) (i:=b) b E E kR kR E hb_ qO) E ?_;refine G1 E E E (K8 b E E kR E (by rw [hS7.len]; exact hb_) Cs ?_);refine R9 ?_;exact ⟨_,[(sb,blk (nums .u32 (S7.set b (rolN (S7.getD b 0 ^^^ S7.getD c 0) 7))) 269)],[],A8p E,Ce qM,E,by unfold C2d; rw [e1,e2,e3,e4,e5,e6,e7]; rfl,E⟩

def cstW:LN:=[1634760805,857760878,2036477234,1797285236,0,0,0,0,0,0,0,0,0,0,0,0]
def kyW(K:LN):Nat->LN
  | 0=>cstW
  | i+1=>(kyW K i).set (4+i) (wrdN (K.drop (4 * i)))
def nnW(K:LN)(n:Nat)(N:LN):Nat->LN
  | 0=>(kyW K 8).set 12 n
  | i+1=>(nnW K n N i).set (13+i) (wrdN (N.drop (4 * i)))
def rdA(S:LN):Nat->LN
  | 0=>S
  | i+1=>C2d (rdA S i) i (4+i) (8+i) (12+i)
def rdB(S:LN):Nat->LN
  | 0=>S
  | i+1=>C2d (rdB S i) i (4+(i+1) % 4) (8+(i+2) % 4) (12+(i+3) % 4)
def rdW(S:LN):Nat->LN
  | 0=>S
  | k+1=>rdB (rdA (rdW S k) 4) 4
def le4(x:Nat):LN:=[x % 256,x >>> 8 % 256,x >>> 16 % 256,x >>> 24 % 256]
def otW(W S:LN):Nat->LN
  | 0=>[]
  | i+1=>otW W S i++le4 ((W.getD i 0+S.getD i 0) % 4294967296)
def C0E(K:LN)(n:Nat)(N:LN):LN:=otW (rdW (nnW K n N 3) 10) (nnW K n N 3) 16
theorem B9S(h:∀ x∈p,x < 256)(k:Nat):∀ x∈p.drop k,x < 256:=λ x hx=>h x (List.mem_of_mem_drop hx)
theorem B3u{K:LN}(h:∀ x∈K,x < 256):∀ i,W16 (kyW K i)
  | 0=>⟨E,by show ∀ x∈cstW,x < 4294967296; decide⟩
  | i+1=>(B3u h i).set _ _ (B3s (B9S h _))
theorem B7L{K N:LN}{n:Nat}(h:∀ x∈K,x < 256)(hn:n < 4294967296)(h2:∀ x∈N,x < 256):∀ i,W16 (nnW K n N i)
  | 0=>(B3u h 8).set _ _ hn
  | i+1=>(B7L h hn h2 i).set _ _ (B3s (B9S h2 _))
theorem A9l{S:LN}(h:W16 S):∀ i,W16 (rdA S i)
  | 0=>h
  | i+1=>(A9l h i).trn _ _ _ _
theorem B3v{S:LN}(h:W16 S):∀ i,W16 (rdB S i)
  | 0=>h
  | i+1=>(B3v h i).trn _ _ _ _
theorem B7M{S:LN}(h:W16 S):∀ i,W16 (rdW S i)
  | 0=>h
  | i+1=>B3v (A9l (B7M h i) 4) 4
theorem A4t(W S:LN):∀ i,(otW W S i).length=4 * i
  | 0=>rfl
  | i+1=>by show (otW W S i++le4 _).length=_; rw [An,A4t W S i]; simp [le4]; omega
theorem C2e(x:Nat):∀ y∈le4 x,y < 256:=by intro y hy;simp only [le4,List.mem_cons,List.not_mem_nil,or_false] at hy;rcases hy with rfl | rfl | rfl | rfl <;> exact Ad _ qD
theorem B3w(W S:LN):∀ i,∀ x∈otW W S i,x < 256
  | 0=>λ x hx=>by cases hx
  | i+1=>λ x hx=>(List.mem_append.1 hx).elim (B3w W S i x) (C2e _ x)
theorem _root_.Go.Px.By.lo{R:Mem}{v:Value}{w:LN}(h:By R v w)(k:Nat)(hk:k<=w.length):By R (vLo k 1 v) (w.drop k):=by refine ⟨?_,B9S h.lt k,by rw [Bg]; have:=h.len; omega⟩;have h1:=h.rd.loV k hk;rw [Bg];simpa [nums] using h1
theorem B3x(v vn:Value)(kw nw:LN)(n:Nat)(A:Mem)(hk:By A v kw)(hno:By A vn nw)(hn:n < 4294967296):FnX Tryz.prog 159 [v,(vU n),vn] [] A λ q M J=>M=[]∧By J q (C0E (I5 kw 32) n (I5 nw 12)):=by
 haveI:=hk.cel;haveI:=hno.cel;refine Cl (N:=107) Tryz.func159 E E E λ w_=>?_;refine A9 (D6 0 1 2) (A1 (as_ (A0 (D6 0 1 2) (A1 (mv_ ?_)))));refine C7 (aS E (aS E a0)) kR (A4s v kw 32 _ (hk.mono qS) qD) E ?_;rintro v17 M17 J17 ⟨rfl,h17⟩;haveI:=h17.cel;have hkl:=L7 kw 32;generalize I5 kw 32=K at *;have hKl:=h17.lt;refine mv_ ?_;refine C7 (aS E (aS E a0)) kR (A4s vn nw 12 _ (hno.mono qS) qD) E ?_;rintro v19 M19 J19 ⟨rfl,h19⟩;haveI:=h19.cel;have hnl:=L7 nw 12;generalize I5 nw 12=N at *;have hNl:=h19.lt;refine as_ (as_ (A0 (D6 0 1 2) (A1 ?_)));refine A2 (F1 (place:=λ i=>some (i * 1,1)) (z:=[D3,D3,D3,D3,D3,D3,D3,D3,D3,D3,D3,D3,D3,D3,D3,D3]) (λ _=>by kernel_rfl) (eS E (eS E (eS E (eS E e0)))) (bdS 0 1 E qR (bdS 1 1 E qR (bdS 2 1 E qR (bdS 3 1 E qR bd0))))) E ?_;refine A3 E (C3 (cs:=[D3,D3,D3,D3,D3,D3,D3,D3,D3,D3,D3,D3,D3,D3,D3,D3]) kR E λ b7=>?_);refine A3 E (A7 (vs:=nums .u32 (kyW K 0)) E E E kR qR E9 Cs ?_);refine A0 (D8 0 1 2 7) (A4 (A1 (mv_ (A0 (E8 0 1 2 7 21) (A8 ?_)))));refine E5 (α:=Nat) (λ i=>[(0,v17),(1,(vU n)),(2,v19),(7,(vP b7)),(21,(vI i))]) (λ i=>[(b7,blk (nums .u32 (kyW K i)) 269)]) (λ _=>_) (λ i=>i<=8) (λ i=>8 - i) 0 (Am _) (E8 0 1 2 7 21) (Ce E) qI ?_;rintro i hii
 try dsimp only at hii ⊢
 have hok:=B3u hKl i;refine A1 ?_;refine A2 (F0 E E E) E ?_;refine A0 (H1 0 1 2 7 21 22) (A4 ?_);refine C4 E ?_ ?_ <;> intro hc
 .
  have hlt:i < 8:=by simp at hc; omega
  refine A6 (nx (E8 0 1 2 7 21) (A4 (A8 (A1 (mv_ (as_ (A0 (H1 0 1 2 7 8 21) (C2 ?_))))))));refine mv_ ?_;refine A2 (D7 ((4+i:Nat):Int) E E (F7 qO qO qO)) E ?_;refine mv_ (mv_ ?_);refine A2 (D7 ((4 * i:Nat):Int) E E (A1I qO qO qO)) E ?_;refine A2 (A1M (sz:=1) (a:=4 * i) E E kR E h17.rd qO) E ?_;have h29:=h17.lo (4 * i) qO;haveI:=h29.cel;refine E6 (aS E a0) kR (B7K (vLo (4 * i) 1 v17) (K.drop (4 * i)) _ (h29.mono qS) (by rw [Bg]; omega)) E ?_;refine A2 (E0 (e:=31) (n:=16) (sz:=1) (i:=4+i) (4+i) E E kR kR E qO qO) E ?_;refine A3 E (K8 (4+i) E E kR E (by rw [hok.len]; omega) Cs ?_);refine C6 (nb (nx (E8 0 1 2 7 21) (C2 ?_)));refine A2 (D7 ((i+1:Nat):Int) E E (F7 qO qO qO)) E ?_;refine mv_ (C6 ?_);exact rn (i+1) qO qO (E8 0 1 2 7 21) (Ce E) qI
 .
  obtain rfl:i=8:=by simp at hc; omega
  refine D9 (te (re (be E (nx (D6 1 2 7) (A1 (mv_ ?_))))));refine A2 (E0 (e:=31) (n:=16) (sz:=1) (i:=12) (12) E E kR kR E qO qO) E ?_;refine A3 E (K8 12 E E kR E (by rw [hok.len]; omega) Cs ?_);refine A0 (D2 2 7) (A4 (A1 (mv_ (A0 (D6 2 7 35) (A8 ?_)))));refine E5 (α:=Nat) (λ i=>[(2,v19),(7,(vP b7)),(35,(vI i))]) (λ i=>[(b7,blk (nums .u32 (nnW K n N i)) 269)]) (λ _=>_) (λ i=>i<=3) (λ i=>3 - i) 0 (Am _) (D6 2 7 35) (Ce E) qI ?_;rintro j hij
  try dsimp only at hij ⊢
  have hok2:=B7L hKl hn hNl j;refine A1 ?_;refine A2 (F0 E E E) E ?_;refine A0 (D8 2 7 35 36) (A4 ?_);refine C4 E ?_ ?_ <;> intro hc
  .
   have hlt:j < 3:=by simp at hc; omega
   refine A6 (nx (D6 2 7 35) (A4 (A8 (A1 (mv_ (as_ (A0 (D8 2 7 9 35) (C2 ?_))))))));refine mv_ ?_;refine A2 (D7 ((13+j:Nat):Int) E E (F7 qO qO qO)) E ?_;refine mv_ (mv_ ?_);refine A2 (D7 ((4 * j:Nat):Int) E E (A1I qO qO qO)) E ?_;refine A2 (A1M (sz:=1) (a:=4 * j) E E kR E h19.rd qO) E ?_;have h43:=h19.lo (4 * j) qO;haveI:=h43.cel;refine E6 (aS E a0) kR (B7K (vLo (4 * j) 1 v19) (N.drop (4 * j)) _ (h43.mono qS) (by rw [Bg]; omega)) E ?_;refine A2 (E0 (e:=31) (n:=16) (sz:=1) (i:=13+j) (13+j) E E kR kR E qO qO) E ?_;refine A3 E (K8 (13+j) E E kR E (by rw [hok2.len]; omega) Cs ?_);refine C6 (nb (nx (D6 2 7 35) (C2 ?_)));refine A2 (D7 ((j+1:Nat):Int) E E (F7 qO qO qO)) E ?_;refine mv_ (C6 ?_);exact rn (j+1) qO qO (D6 2 7 35) (Ce E) qI
  .
   obtain rfl:j=3:=by simp at hc; omega
   unfold C0E
   obtain ⟨S,hSe⟩:∃ z,nnW K n N 3=z:=⟨_,E⟩
   rw [hSe] at hok2 ⊢;refine D9 (te (re (be E (nx (D5 7) (A1 ?_)))));refine A2 (H6 (n:=16) (cs:=nums .u32 S) E kR Cc (by rw [nums_len]; exact hok2.len)) E ?_;refine A3 E (C3 (cs:=[D3,D3,D3,D3,D3,D3,D3,D3,D3,D3,D3,D3,D3,D3,D3,D3]) kR E λ b10=>?_);refine A3 E (A7 (vs:=nums .u32 S) E E E (by rw [nums_len,hok2.len]; kernel_rfl) (by rw [nums_len,hok2.len]; rfl) E9 Cs ?_);refine A0 (D2 7 10) (A4 (A1 (mv_ (A0 (D6 7 10 48) (A8 ?_)))));refine E5 (α:=Nat) (λ i=>[(7,(vP b7)),(10,(vP b10)),(48,(vI i))]) (λ i=>[(b10,blk (nums .u32 (rdW S i)) 269),(b7,blk (nums .u32 S) 269)]) (λ _=>_) (λ i=>i<=10) (λ i=>10 - i) 0 (Am _) (D6 7 10 48) (Ce E) qI ?_;rintro k hik
   try dsimp only at hik ⊢
   have hok3:=B7M hok2 k;refine A1 ?_;refine A2 (F0 E E E) E ?_;refine A0 (D8 7 10 48 49) (A4 ?_);refine C4 E ?_ ?_ <;> intro hc
   .
    have hlt:k < 10:=by simp at hc; omega
    refine A6 (nx (D6 7 10 48) (A4 (A8 (A4 (A1 (mv_ (A0 (D8 7 10 48 50) ?_)))))));refine A8 ?_;refine E5 (α:=Nat) (λ i=>[(7,(vP b7)),(10,(vP b10)),(48,(vI k)),(50,(vI i))]) (λ i=>[(b10,blk (nums .u32 (rdA (rdW S k) i)) 269),(b7,blk (nums .u32 S) 269)]) (λ _=>_) (λ i=>i<=4) (λ i=>4 - i) 0 (Am _) (D8 7 10 48 50) (Ce E) qI ?_;rintro a hia
    try dsimp only at hia ⊢
    have hok:=A9l hok3 a;refine A1 ?_;refine A2 (F0 E E E) E ?_;refine A0 (E8 7 10 48 50 51) (A4 ?_);refine C4 E ?_ ?_ <;> intro hc
    .
     have hlt2:a < 4:=by simp at hc; omega
     refine A6 (nx (D8 7 10 48 50) (A4 (A8 (A1 (mv_ (as_ (A0 (E8 7 10 11 48 50) (C2 ?_))))))));refine mv_ (mv_ ?_);refine A2 (D7 ((4+a:Nat):Int) E E (F7 qO qO qO)) E ?_;refine mv_ ?_;refine A2 (D7 ((8+a:Nat):Int) E E (F7 qO qO qO)) E ?_;refine mv_ ?_;refine A2 (D7 ((12+a:Nat):Int) E E (F7 qO qO qO)) E ?_;refine A3 E (D0 (Mc:=[(b10,blk (nums .u32 (rdA (rdW S k) a)) 269)]) (R:=_) (aS E (aS E (aS E (aS E (aS E a0))))) kR qP (B3t b10 (rdA (rdW S k) a) (a) (4+a) (8+a) (12+a) _ hok qO qO qO qO) E ?_);rintro vt Mt Jt ⟨rfl,rfl,rfl⟩;refine C6 (nb (nx (D8 7 10 48 50) (C2 ?_)));refine A2 (D7 ((a+1:Nat):Int) E E (F7 qO qO qO)) E ?_;refine mv_ (C6 ?_);exact rn (a+1) qO qO (D8 7 10 48 50) (Ce E) qI
    .
     obtain rfl:a=4:=by simp at hc; omega
     refine D9 (te (re (be E (nx (D6 7 10 48) (A1 (mv_ (A0 (D8 7 10 48 62) ?_)))))));refine A8 ?_;refine E5 (α:=Nat) (λ i=>[(7,(vP b7)),(10,(vP b10)),(48,(vI k)),(62,(vI i))]) (λ i=>[(b10,blk (nums .u32 (rdB (rdA (rdW S k) 4) i)) 269),(b7,blk (nums .u32 S) 269)]) (λ _=>_) (λ i=>i<=4) (λ i=>4 - i) 0 (Am _) (D8 7 10 48 62) (Ce E) qI ?_;rintro b hib
     try dsimp only at hib ⊢
     have hok:=B3v (A9l hok3 4) b;refine A1 ?_;refine A2 (F0 E E E) E ?_;refine A0 (E8 7 10 48 62 63) (A4 ?_);refine C4 E ?_ ?_ <;> intro hc
     .
      have hlt2:b < 4:=by simp at hc; omega
      refine A6 (nx (D8 7 10 48 62) (A4 (A8 (A1 (mv_ (as_ (A0 (E8 7 10 12 48 62) (C2 ?_))))))));refine mv_ (mv_ ?_);refine A2 (D7 ((b+1:Nat):Int) E E (F7 qO qO qO)) E ?_;refine A2 (T8 (a:=b+1) (b:=4) E E E E qD) E ?_;refine A2 (D7 ((4+(b+1) % 4:Nat):Int) E E (F7 qO qO qO)) E ?_;refine mv_ ?_;refine A2 (D7 ((b+2:Nat):Int) E E (F7 qO qO qO)) E ?_;refine A2 (T8 (a:=b+2) (b:=4) E E E E qD) E ?_;refine A2 (D7 ((8+(b+2) % 4:Nat):Int) E E (F7 qO qO qO)) E ?_;refine mv_ ?_;refine A2 (D7 ((b+3:Nat):Int) E E (F7 qO qO qO)) E ?_;refine A2 (T8 (a:=b+3) (b:=4) E E E E qD) E ?_;refine A2 (D7 ((12+(b+3) % 4:Nat):Int) E E (F7 qO qO qO)) E ?_;refine A3 E (D0 (Mc:=[(b10,blk (nums .u32 (rdB (rdA (rdW S k) 4) b)) 269)]) (R:=_) (aS E (aS E (aS E (aS E (aS E a0))))) kR qP (B3t b10 (rdB (rdA (rdW S k) 4) b) (b) (4+(b+1) % 4) (8+(b+2) % 4) (12+(b+3) % 4) _ hok qO qO qO qO) E ?_);rintro vt Mt Jt ⟨rfl,rfl,rfl⟩;refine C6 (nb (nx (D8 7 10 48 62) (C2 ?_)));refine A2 (D7 ((b+1:Nat):Int) E E (F7 qO qO qO)) E ?_;refine mv_ (C6 ?_);exact rn (b+1) qO qO (D8 7 10 48 62) (Ce E) qI
     .
      obtain rfl:b=4:=by simp at hc; omega
      refine D9 (te (re (be E (nb (nx (D6 7 10 48) (C2 ?_))))));refine A2 (D7 ((k+1:Nat):Int) E E (F7 qO qO qO)) E ?_;refine mv_ (C6 ?_);exact rn (k+1) qO qO (D6 7 10 48) (Ce E) qI
   .
    obtain rfl:k=10:=by simp at hc; omega
    obtain ⟨W,hWe⟩:∃ z,rdW S 10=z:=⟨_,E⟩
    rw [hWe] at hok3 ⊢;refine D9 (te (re (be E (nx (D2 7 10) (A1 (as_ (A0 (D6 7 10 13) ?_)))))));refine A4 (A1 (mv_ (A0 (D8 7 10 13 81) (A8 ?_))));refine E5 (α:=Nat×Value×Mem) (λ y=>[(7,(vP b7)),(10,(vP b10)),(13,y.2.1),(81,(vI y.1))]) (λ y=>y.2.2++[(b10,blk (nums .u32 W) 269),(b7,blk (nums .u32 S) 269)]) (λ _=>_) (λ y=>y.1<=16∧Sl 1 y.2.1 (4 * y.1) (nums .u8 (otW W S y.1)) y.2.2) (λ y=>16 - y.1) (0,vS,[]) ⟨Am _,Sl.nil⟩ (D8 7 10 13 81) (Ce qM) qI ?_;rintro ⟨i,u,B⟩ ⟨hi,hsl⟩;dsimp only at hi hsl ⊢;haveI:=hsl.cel;refine A1 ?_;refine A2 (F0 E E E) E ?_;refine A0 (E8 7 10 13 81 82) (A4 ?_);refine C4 E ?_ ?_ <;> intro hc
    .
     have hlt:i < 16:=by simp at hc; omega
     refine A6 (nx (D8 7 10 13 81) (A4 (A8 (A1 (mv_ (as_ (A0 (E8 7 10 13 14 81) ?_)))))));refine D1 (.range 8) (zp 0 [0,0,1,0,0,1,0,0]) kR kR λ hs=>?_;refine fm_ hs ?_;refine C8 hs E (E0 (e:=31) (n:=16) (sz:=1) (i:=i) (i) E E kR kR E qO qO) E ?_;refine F9 hs E (I6 i E kR Cc E (by rw [hok3.len]; omega)) E ?_;refine fm_ hs ?_;refine C8 hs E (E0 (e:=31) (n:=16) (sz:=1) (i:=i) (i) E E kR kR E qO qO) E ?_;refine F9 hs E (I6 i E kR Cc E (by rw [hok2.len]; omega)) E ?_;refine C8 hs E (H2 4294967296 E E E E E E) E ?_
     obtain ⟨x,hx⟩:∃ x,(W.getD i 0+S.getD i 0) % 4294967296=x:=⟨_,E⟩
     rw [hx];refine fa_ hs ?_;refine E3 (E8 7 10 13 15 81) (C2 (mv_ (mv_ ?_)));refine A2 (A04 E kR) E ?_;refine mv_ ?_;refine A2 (T7 8 E E E qD) E ?_;refine A2 (A04 E kR) E ?_;refine mv_ ?_;refine A2 (T7 16 E E E qD) E ?_;refine A2 (A04 E kR) E ?_;refine mv_ ?_;refine A2 (T7 24 E E E qD) E ?_;refine A2 (A04 E kR) E ?_;refine A3 E (C5 (e:=5) (sz:=1) (z:=[zu8,zu8,zu8,zu8]) kR (eS E (eS E (eS E (eS E e0)))) (bdS 0 1 E qR (bdS 1 1 E qR (bdS 2 1 E qR (bdS 3 1 E qR bd0)))) E λ b103=>?_);refine A3 E (H5 (e:=5) (sz:=1) (by_:=1) E E kR E hsl (Co (n:=4) (cs:=nums .u8 (le4 x)) Cc qR) E9 qP (by unfold maxLen; omega) qO E λ v104 B104 hs104=>?_);haveI:=hs104.cel;refine as_ (C6 (nb (nx (D8 7 10 13 81) (C2 ?_))));refine A2 (D7 ((i+1:Nat):Int) E E (F7 qO qO qO)) E ?_;refine mv_ (C6 ?_);exact rn (i+1,v104,B104) ⟨by dsimp only; omega,by dsimp only; show Sl 1 v104 (4 * (i+1)) (nums .u8 (otW W S i++le4 ((W.getD i 0+S.getD i 0) % 4294967296))) B104; rw [hx]; exact W6 hs104 qO (by simp [nums])⟩ (by dsimp only; omega) (D8 7 10 13 81) (Ch qP (Cf qP)) qI
    .
     obtain rfl:i=16:=by simp at hc; omega
     refine D9 (te (re (be E (nx (D5 13) (A1 (mv_ (as_ (A0 (D5 6) ?_))))))));refine C0 ?_;exact ⟨_,[],B,I0 E E,Ch qP qZ,E,⟨A0x (hsl.rd λ x hx=>by simp [hx]) (by rw [A4t]) E,B3w W S 16,by rw [A4t]; decide⟩⟩

def bkN(K:LN)(n:Nat)(N:LN)(q:Nat):LN:=C0E K ((n+q) % 4294967296) N
def stW(K:LN)(n:Nat)(N p:LN):Nat->LN
  | 0=>List.replicate p.length 0
  | i+1=>(stW K n N p i).set i (p.getD i 0 ^^^ (bkN K n N (i / 64)).getD (i % 64) 0)
def A59(K:LN)(n:Nat)(N p:LN):LN:=stW K n N p p.length
theorem A6a(K:LN)(n:Nat)(N p:LN):∀ i,(stW K n N p i).length=p.length
  | 0=>by simp [stW]
  | i+1=>by show ((stW K n N p i).set _ _).length=_; rw [Bk,A6a K n N p i]
theorem A0d(K:LN)(n:Nat)(N p:LN):(A59 K n N p).length=p.length:=A6a _ _ _ _ _
theorem B9T(K:LN)(n:Nat)(N:LN)(q:Nat):(bkN K n N q).length=64:=A4t _ _ _
theorem C2f(K:LN)(n:Nat)(N:LN)(q:Nat):∀ x∈bkN K n N q,x < 256:=B3w _ _ _
theorem xor8{a b:Nat}(ha:a < 256)(hb:b < 256):a ^^^ b < 256:=Nat.xor_lt_two_pow (n:=8) ha hb
theorem B7N{K N p:LN}{n:Nat}(h:∀ x∈p,x < 256):∀ i,∀ x∈stW K n N p i,x < 256
  | 0=>λ x hx=>by rw [show stW K n N p 0=List.replicate p.length 0 from rfl] at hx; rw [(List.mem_replicate.1 hx).2]; decide
  | i+1=>λ x hx=>by
    rcases Bf hx with h1 | rfl
    . exact B7N h i x h1
    . exact xor8 (A07 h i) (A07 (C2f _ _ _ _) _)
theorem B3y(K:LN)(n:Nat)(N p:LN):∀ i j,j < p.length->(stW K n N p i).getD j 0=if j < i then p.getD j 0 ^^^ (bkN K n N (j / 64)).getD (j % 64) 0 else 0
  | 0,j,hj=>by show (List.replicate p.length 0).getD j 0=_;rw [if_neg qO,Aj,List.getElem?_replicate,if_pos hj]; rfl
  | i+1,j,hj=>by
    show ((stW K n N p i).set i _).getD j 0=_;rw [Aj,List.getElem?_set,A6a];by_cases h:i=j
    . subst h; rw [if_pos E,if_pos hj,if_pos qO]; rfl
    . rw [if_neg h,<- Aj,B3y K n N p i j hj];by_cases h2:j < i
      . rw [if_pos h2,if_pos qO]
      . rw [if_neg h2,if_neg qO]
theorem A9m(K:LN)(n:Nat)(N p:LN){j:Nat}(hj:j < p.length):(A59 K n N p).getD j 0=p.getD j 0 ^^^ (bkN K n N (j / 64)).getD (j % 64) 0:=by unfold A59;rw [B3y _ _ _ _ _ _ hj,if_pos hj]
theorem B0j(K:LN)(n:Nat)(N p:LN):A59 K n N (A59 K n N p)=p:=by
  refine List.ext_getElem (by rw [A0d,A0d]) λ j h1 h2=>?_;have e:∀ (l:LN) (h:j < l.length),l[j]=l.getD j 0:=λ l h=>by rw [Aj,Ab h]; rfl
  rw [e _ h1,e _ h2,A9m _ _ _ _ (by rw [A0d]; exact h2),A9m _ _ _ _ h2,Nat.xor_assoc,Nat.xor_self,Nat.xor_zero]
variable{i:Nat}
theorem C2g(h:i < 9223372036854775808):IntKind.i64.wrap (((i:Nat):Int).tdiv 64)=((i / 64:Nat):Int):=by rw [show ((i:Nat):Int).tdiv 64=((i / 64:Nat):Int) from rfl];unfold IntKind.wrap;simp [IntKind.signed,IntKind.bits];omega
theorem B9U(h:n < 4294967296):IntKind.u32.wrap (n:Int)=(n:Int):=by unfold IntKind.wrap;simp [IntKind.signed,IntKind.bits];omega
theorem A9n(v vn vp:Value)(kw nw p:LN)(n:Nat)(A:Mem)(hk:By A v kw)(hno:By A vn nw)(hp:By A vp p)(hn:n < 4294967296):FnX Tryz.prog 124 [v,(vU n),vn,vp] [] A λ q M J=>∃ b,q=.slice (some ⟨b,0,none⟩) p.length p.length∧M=[]∧By J q (A59 (I5 kw 32) n (I5 nw 12) p):=by
 haveI:=hk.cel;haveI:=hno.cel;haveI:=hp.cel;have hpl:=hp.len;refine Cl (N:=46) Tryz.func124 E E E λ w_=>?_;refine A9 (D8 0 1 2 3) (A1 (as_ (A0 (D8 0 1 2 3) (A1 (mv_ ?_)))));refine A2 (G6 (sz:=1) E kR hp.rd) E ?_;refine A3 E (A0F (by_:=1) (k:=.u8) (e:=5) p.length E E kR E E qO qO E λ b14=>?_);refine as_ (A0 (E8 0 1 2 3 9) (A1 (as_ (A0 (H1 0 1 2 3 9 10) (A4 (A1 (mv_ ?_)))))));refine A2 (G6 (sz:=1) E kR hp.rd) E ?_;refine mv_ (A0 (W4 0 1 2 3 9 10 16 17) (A8 ?_));refine E5 (α:=Nat×Value×Mem) (λ y=>[(0,v),(1,(vU n)),(2,vn),(3,vp),(9,.slice (some ⟨b14,0,none⟩) p.length p.length),(10,y.2.1),(16,(vI p.length)),(17,(vI y.1))]) (λ y=>[(b14,blk (nums .u8 (stW (I5 kw 32) n (I5 nw 12) p y.1)) 5)]) (λ y=>y.2.2) (λ y=>y.1<=p.length∧∃ w,By (y.2.2++A) y.2.1 w∧(y.1 % 64≠0->w=bkN (I5 kw 32) n (I5 nw 12) (y.1 / 64))) (λ y=>p.length - y.1) (0,vS,[]) ⟨Am _,[],By.nil,λ h=>absurd E h⟩ (W4 0 1 2 3 9 10 16 17) (Ce E) qS ?_;rintro ⟨i,vb,Jb⟩ ⟨hi,wb,hvb,hwb⟩;dsimp only at hi hvb hwb ⊢;haveI:=hvb.cel;have hsl:=A6a (I5 kw 32) n (I5 nw 12) p i;refine A1 ?_;refine A2 (F0 E E E) E ?_;refine A0 (A0m 0 1 2 3 9 10 16 17 18) (A4 ?_);refine C4 E ?_ ?_ <;> intro hc
 .
  have hlt:i < p.length:=by simp at hc; omega
  refine A6 (nx (W4 0 1 2 3 9 10 16 17) (A4 (A8 (A1 (mv_ (as_ (A0 (A0m 0 1 2 3 9 10 11 16 17) ?_)))))));refine P8 (α:=Value×Mem) (λ y=>[(0,v),(1,(vU n)),(2,vn),(3,vp),(9,.slice (some ⟨b14,0,none⟩) p.length p.length),(10,y.1),(11,(vI i)),(16,(vI p.length)),(17,(vI i))]) (λ y=>[(b14,blk (nums .u8 (stW (I5 kw 32) n (I5 nw 12) p i)) 5)]) (λ y=>y.2) (λ y=>By (y.2++A) y.1 (bkN (I5 kw 32) n (I5 nw 12) (i / 64))) ?_ ?_
  .
   refine A1 (mv_ ?_);refine A2 (T8 (a:=i) (b:=64) E E E E qD) E ?_;refine A2 (F0 E E E) E ?_;refine A0 (kq 0 (A0m 1 2 3 9 10 11 16 17 22)) ?_;refine C4 E ?_ ?_ <;> intro hc
   .
    have h0:i % 64=0:=by simp at hc; omega
    refine C2 (mv_ (mv_ (mv_ ?_)));refine A2 (C0U ((i / 64:Nat):Int) E E qD (C2g qO)) E ?_;refine A2 (A0l (k':=.u32) ((i / 64:Nat):Int) E kR (B9U qO)) E ?_;refine A2 (H2 4294967296 E E E E E E) E ?_;refine mv_ ?_;refine C7 (aS E (aS E (aS E a0))) kR (B3x v vn kw nw ((n+i / 64) % 4294967296) _ (hk.mono qS) (hno.mono qS) (Ad _ qD)) E ?_;rintro v30 M30 J30 ⟨rfl,h30⟩;haveI:=h30.cel;refine as_ (C6 ?_);exact jn (v30,J30++Jb) (h30.mono qS) (A0m 0 1 2 3 9 10 11 16 17) (Ce E) (λ _ h=>by simpa using h)
   .
    have h0:i % 64≠0:=by simp at hc; omega
    refine A6 ?_;exact jn (vb,Jb) (hwb h0▸hvb) (A0m 0 1 2 3 9 10 11 16 17) (Ce E) qI
  .
   rintro ⟨v2,J2⟩ hb2
   try dsimp only at hb2 ⊢
   haveI:=hb2.cel;have hbl:=B9T (I5 kw 32) n (I5 nw 12) (i / 64);have hm:=Ad i (by decide:0 < 64);refine H7 (.range 13) (zp 0 [0,0,0,0,0,1,0,0,0,0,1,0,0,2]) kR kR λ hs=>?_;refine fm_ hs ?_;refine fm_ hs ?_;refine fm_ hs ?_;refine fm_ hs ?_;refine C8 hs E (H4 (sz:=1) (a:=i) E E kR E hp.rd hlt) E ?_;refine F9 hs E (A0T (k:=.u8) E kR (hp.rd.mono qS) hlt) E ?_;refine fm_ hs ?_;refine fm_ hs ?_;refine C8 hs E (T8 (a:=i) (b:=64) E E E E qD) E ?_;refine C8 hs E (H4 (sz:=1) (a:=i % 64) E E kR E hb2.rd qO) E ?_;refine F9 hs E (A0T (k:=.u8) E kR (hb2.rd.mono qS) qO) E ?_;refine C8 hs E (B0H E E (A07 hp.lt _) (A07 hb2.lt _)) E ?_;refine C8 hs E (L8 (e:=5) (i:=i) (sz:=1) E E kR kR E hlt) E ?_;refine G1 E E E (K8 i E E kR qO qO Cs ?_);refine R9 (nb (nx (W4 0 1 2 3 9 10 16 17) (C2 ?_)));refine A2 (D7 ((i+1:Nat):Int) E E (F7 qO qO qO)) E ?_;refine mv_ (C6 ?_);exact rn (i+1,v2,J2) ⟨hlt,_,hb2,λ h=>by rw [show (i+1) / 64=i / 64 by omega]⟩ (by dsimp only; omega) (W4 0 1 2 3 9 10 16 17) (Ce E) qI
 .
  obtain rfl:i=p.length:=by simp at hc; omega
  refine D9 (te (re (be E (nx (D5 9) (A1 (mv_ (as_ (A0 (D5 8) ?_))))))));refine C0 ?_;refine ⟨_,[],[(b14,blk (nums .u8 (stW (I5 kw 32) n (I5 nw 12) p p.length)) 5)],I0 E E,Ce qM,b14,E,E,⟨?_,B7N hp.lt _,by rw [A0d]; exact hp.len⟩⟩;rw [A0d];exact Co (n:=p.length) qK (by simp [nums,A0d])
theorem B6D(v vn vp:Value)(kw nw p:LN)(n:Nat)(A:Mem)(hk:By A v kw)(hno:By A vn nw)(hp:By A vp p)(hn:n < 4294967296):FnX Tryz.prog 124 [v,(vU n),vn,vp] [] A λ q M J=>M=[]∧By J q (A59 (I5 kw 32) n (I5 nw 12) p) :=
  (A9n v vn vp kw nw p n A hk hno hp hn).mono λ q M J ⟨_,_,h1,h2⟩=>⟨h1,h2⟩

structure L5(l:LN):Prop where
  len:l.length=5
  lt:∀ x∈l,x < 18446744073709551616
theorem L5.get{l:LN}(h:L5 l)(i:Nat):l.getD i 0 < 18446744073709551616:=by
  rw [Aj]
  cases hq:l[i]? with
  | none=>decide
  | some x=>exact h.lt x (As hq)
theorem L5.set{l:LN}(h:L5 l)(i x:Nat)(hx:x < 18446744073709551616):L5 (l.set i x):=⟨by rw [Bk]; exact h.len,λ y hy=>by rcases Bf hy with h1 | rfl; exact h.lt y h1; exact hx⟩
def cy1(l:LN)(c i:Nat):LN:=l.set i ((l.getD i 0+c) % 18446744073709551616)
def cyS(a:LN):Nat->LN×Nat
  | 0=>(a,0)
  | i+1=>((cy1 (cyS a i).1 (cyS a i).2 i).set i ((cy1 (cyS a i).1 (cyS a i).2 i).getD i 0 &&& 67108863),(cy1 (cyS a i).1 (cyS a i).2 i).getD i 0 >>> 26)
def cyN(a:LN):LN:=(cyS a 5).1.set 0 (((cyS a 5).1.getD 0 0+5 * (cyS a 5).2 % 18446744073709551616) % 18446744073709551616)
theorem L5.c1{l:LN}(h:L5 l)(c i:Nat):L5 (cy1 l c i):=h.set _ _ (Ad _ qD)
theorem B6E(x:Nat):x &&& 67108863 < 18446744073709551616:=Be Nat.and_le_right qD
theorem B6F{x:Nat}(h:x < 18446744073709551616)(k:Nat):x >>> k < 18446744073709551616:=by rw [Bz]; exact Be (Nat.div_le_self _ _) h
theorem A9o{a:LN}(h:L5 a):∀ i,L5 (cyS a i).1∧(cyS a i).2 < 18446744073709551616
  | 0=>⟨h,(show 0 < 18446744073709551616 by decide)⟩
  | i+1=>⟨((A9o h i).1.c1 _ _).set _ _ (B6E _),B6F (((A9o h i).1.c1 _ _).get _) _⟩
variable{a:LN}
theorem W3(h:L5 a):L5 (cyN a):=(A9o h 5).1.set _ _ (Ad _ qD)
theorem A4u(a:LN)(A:Mem)(ha:L5 a):FnV Tryz.prog 205 [.agg (nums .u64 a).toArray] A (.agg (nums .u64 (cyN a)).toArray):=by
 refine Ck (N:=31) Tryz.func205 E E E λ w=>?_;refine A9 (D5 0) (A1 ?_);refine A3 E (bx_ λ b1=>?_);refine A3 E (C3 (cs:=[C1,C1,C1,C1,C1]) kR E λ b2=>?_);refine A0 (D2 1 2) (A1 (as_ (A0 (D6 1 2 3) (A4 (A1 (mv_ (A0 (D8 1 2 3 5) ?_)))))));refine A8 ?_;refine E5 (α:=Nat) (λ i=>[(1,(vP b1)),(2,(vP b2)),(3,.int .u64 (((cyS a i).2:Nat):Int)),(5,(vI i))]) (λ i=>[(b2,blk [.int .u64 0,.int .u64 0,.int .u64 0,.int .u64 0,.int .u64 0] 190),(b1,blk (nums .u64 (cyS a i).1) 190)]) (λ _=>_) (λ i=>i<=5) (λ i=>5 - i) 0 (Am _) (D8 1 2 3 5) (Ce E) qI ?_;rintro i hi
 try dsimp only at hi ⊢
 obtain ⟨hok,hcl⟩:=A9o ha i;have hk1:=hok.c1 (cyS a i).2 i;refine A1 ?_;refine A2 (F0 E E E) E ?_;refine A0 (E8 1 2 3 5 6) (A4 ?_);refine C4 E ?_ ?_ <;> intro hc
 .
  have hlt:i < 5:=by simp at hc; omega
  refine A6 (nx (D8 1 2 3 5) (A4 (A8 (A1 (mv_ (as_ (A0 (E8 1 2 3 4 5) (A1 ?_))))))));refine mv_ ?_;refine A2 (E0 (e:=115) (n:=5) (sz:=1) (i:=i) (i) E E kR kR E qO qO) E ?_;refine A2 (I6 (i) E kR Cc E (by rw [hok.len]; omega)) E ?_;refine mv_ ?_;refine A2 (H2 18446744073709551616 E E E E E E) E ?_;refine A2 (E0 (e:=115) (n:=5) (sz:=1) (i:=i) (i) E E kR kR E qO qO) E ?_;refine A3 E (K8 (i) E E kR E (by rw [hok.len]; omega) Cs ?_);change XL _ _ _ _ _ [(b2,blk [.int .u64 0,.int .u64 0,.int .u64 0,.int .u64 0,.int .u64 0] 190),(b1,blk (nums .u64 (cy1 (cyS a i).1 (cyS a i).2 i)) 190)] _;refine A0 (D8 1 2 4 5) (A1 (mv_ ?_));refine A2 (E0 (e:=115) (n:=5) (sz:=1) (i:=i) (i) E E kR kR E qO qO) E ?_;refine A2 (I6 (i) E kR Cc E (by rw [hk1.len]; omega)) E ?_;refine A2 (T7 26 E E E qD) E ?_;refine as_ (A0 (E8 1 2 3 4 5) (C2 (mv_ ?_)));refine A2 (E0 (e:=115) (n:=5) (sz:=1) (i:=i) (i) E E kR kR E qO qO) E ?_;refine A2 (I6 (i) E kR Cc E (by rw [hk1.len]; omega)) E ?_;refine A2 (A4C (b:=67108863) E E E (by show _ < 18446744073709551616; exact hk1.get _) qD) E ?_;refine A2 (E0 (e:=115) (n:=5) (sz:=1) (i:=i) (i) E E kR kR E qO qO) E ?_;refine A3 E (K8 (i) E E kR E (by rw [hk1.len]; omega) Cs ?_);refine C6 (nb (nx (D8 1 2 3 5) (C2 ?_)));refine A2 (D7 ((i+1:Nat):Int) E E (F7 qO qO qO)) E ?_;refine mv_ (C6 ?_);exact rn (i+1) qO qO (D8 1 2 3 5) (Ce E) qI
 .
  obtain rfl:i=5:=by simp at hc; omega
  refine D9 (te (re (be E (nx (D6 1 2 3) (A1 ?_)))));refine A2 (E0 (e:=115) (n:=5) (sz:=1) (i:=0) (0) E E kR kR E qO qO) E ?_;refine A2 (I6 (0) E kR Cc E (by rw [hok.len]; omega)) E ?_;refine mv_ ?_;refine A2 (Q3 18446744073709551616 E E E E E E) E ?_;refine A2 (H2 18446744073709551616 E E E E E E) E ?_;refine A2 (E0 (e:=115) (n:=5) (sz:=1) (i:=0) (0) E E kR kR E qO qO) E ?_;refine A3 E (K8 (0) E E kR E (by rw [hok.len]; omega) Cs ?_);refine A0 (D2 1 2) ?_;refine A0H (M':=[(b2,blk [.int .u64 0,.int .u64 0,.int .u64 0,.int .u64 0,.int .u64 0] 190),(b1,blk (nums .u64 (cyN a)) 190)]) (Ce E) qI ?_;refine A1 ?_;refine A2 (H6 (n:=5) (cs:=nums .u64 (cyN a)) E kR Cc (by rw [nums_len]; exact (W3 ha).len)) E ?_;refine A3 E (A7 (vs:=nums .u64 (cyN a)) E E E (by rw [nums_len,(W3 ha).len]; kernel_rfl) (by rw [nums_len,(W3 ha).len]; rfl) E9 Cs ?_);refine A0 (D5 2) (C0 ?_);exact ⟨_,[],[],A00 (n:=5) E E kR Cc (by rw [nums_len,(W3 ha).len]),Aa _,by simp,E,E,E⟩

def xI(p:LN)(i:Nat):Nat:=p.getD i 0 <<< (8 * i % 26) % 18446744073709551616
def pt1(S:LN)(x k:Nat):LN:=S.set k ((S.getD k 0+(x &&& 67108863)) % 18446744073709551616)
def pt2(S:LN)(x k:Nat):LN:=if k < 4 then S.set (k+1) ((S.getD (k+1) 0+x >>> 26) % 18446744073709551616) else S
def ptS(p:LN):Nat->LN
  | 0=>[0,0,0,0,0]
  | i+1=>pt2 (pt1 (ptS p i) (xI p i) (8 * i / 26)) (xI p i) (8 * i / 26)
def ptN(p:LN):LN:=ptS p p.length
theorem B9V(h:8 * i / 26 < 4):ptS p (i+1)=(pt1 (ptS p i) (xI p i) (8 * i / 26)).set (8 * i / 26+1) (((pt1 (ptS p i) (xI p i) (8 * i / 26)).getD (8 * i / 26+1) 0+xI p i >>> 26) % 18446744073709551616):=if_pos h
theorem C2h(h:¬ 8 * i / 26 < 4):ptS p (i+1)=pt1 (ptS p i) (xI p i) (8 * i / 26):=if_neg h
theorem L5.p1(h:L5 S)(x k:Nat):L5 (pt1 S x k):=h.set _ _ (Ad _ qD)
theorem L5.p2(h:L5 S)(x k:Nat):L5 (pt2 S x k):=by
  unfold pt2;split
  . exact h.set _ _ (Ad _ qD)
  . exact h
theorem L5.z:L5 [0,0,0,0,0]:=⟨E,by decide⟩
theorem B3z(p:LN):∀ i,L5 (ptS p i)
  | 0=>L5.z
  | i+1=>((B3z p i).p1 _ _).p2 _ _
theorem A2M(p:LN):L5 (ptN p):=B3z p _
theorem C3K(p:LN)(i:Nat):xI p i < 18446744073709551616:=Ad _ qD
theorem B3A(v:Value)(p:LN)(A:Mem)(hp:By A v p)(hl:p.length<=17):FnV Tryz.prog 187 [v] A (.agg (nums .u64 (ptN p)).toArray):=by
 haveI:=hp.cel;refine Ck (N:=43) Tryz.func187 E E E λ w=>?_;refine A9 (D5 0) (A1 ?_);refine A3 E (C3 (cs:=[C1,C1,C1,C1,C1]) kR E λ b2=>?_);refine A0 (D2 0 2) (A1 ?_);refine A3 E (C3 (cs:=[C1,C1,C1,C1,C1]) kR E λ b3=>?_);refine A0 (D6 0 2 3) (A4 (A1 (mv_ ?_)));refine A2 (G6 (sz:=1) E kR hp.rd) E ?_;refine mv_ (A0 (E8 2 3 8 9 10) (A8 ?_));refine E5 (α:=Nat) (λ i=>[(2,(vP b2)),(3,(vP b3)),(8,v),(9,(vI p.length)),(10,(vI i))]) (λ i=>[(b3,blk (nums .u64 (ptS p i)) 190),(b2,blk [.int .u64 0,.int .u64 0,.int .u64 0,.int .u64 0,.int .u64 0] 190)]) (λ _=>_) (λ i=>i<=p.length) (λ i=>p.length - i) 0 (Am _) (E8 2 3 8 9 10) (Ce E) qI ?_;rintro i hi
 try dsimp only at hi ⊢
 have hok:=B3z p i;have hk1:=hok.p1 (xI p i) (8 * i / 26);refine A1 ?_;refine A2 (F0 E E E) E ?_;refine A0 (H1 2 3 8 9 10 11) (A4 ?_);refine C4 E ?_ ?_ <;> intro hc
 .
  have hlt:i < p.length:=by simp at hc; omega
  have hk5:8 * i / 26 < 5:=by omega
  refine A6 (nx (E8 2 3 8 9 10) ?_);refine P8 (α:=Unit) (λ _=>[(2,(vP b2)),(3,(vP b3)),(8,v),(9,(vI p.length)),(10,(vI i))]) (λ _=>[(b3,blk (nums .u64 (ptS p (i+1))) 190),(b2,blk [.int .u64 0,.int .u64 0,.int .u64 0,.int .u64 0,.int .u64 0] 190)]) (λ _=>[]) (λ _=>True) ?_ ?_
  .
   refine A8 (A1 (mv_ ?_));refine A2 (H4 (sz:=1) (a:=i) E E kR E hp.rd hlt) E ?_;refine A2 (A0T (k:=.u8) E kR (hp.rd.mono qS) hlt) E ?_;refine as_ (as_ (A0 (N9 2 3 4 5 8 9 10) ?_));refine D1 (.range 11) (zp 0 [0,0,0,0,0,0,0,0,0,0,0]) kR kR λ hs=>?_;refine fm_ hs ?_;refine C8 hs E (D7 ((8 * i:Nat):Int) E E (A1I qO qO qO)) E ?_;refine C8 hs E (B7e (a:=8 * i) (b:=26) E E E E qD qO) E ?_;refine fm_ hs ?_;refine C8 hs E (A1K (k':=.u64) E kR (by show _ < 9223372036854775808; have:=A07 hp.lt i; omega)) E ?_;refine fm_ hs ?_;refine C8 hs E (D7 ((8 * i:Nat):Int) E E (A1I qO qO qO)) E ?_;refine C8 hs E (T8 (a:=8 * i) (b:=26) E E E E qD) E ?_;refine C8 hs E (A25 E (8 * i % 26) E E E (by show _<=64; omega)) E ?_;refine fa_ hs ?_;refine fa_ hs ?_;refine E3 (N9 2 3 6 7 8 9 10) (A1 (mv_ ?_));refine A2 (E0 (e:=115) (n:=5) (sz:=1) (i:=8 * i / 26) (8 * i / 26) E E kR kR E qO qO) E ?_;refine A2 (I6 (8 * i / 26) E kR Cc E (by rw [hok.len]; omega)) E ?_;refine mv_ ?_;refine A2 (A4C (a:=xI p i) (b:=67108863) E E E (C3K p i) qD) E ?_;refine A2 (H2 18446744073709551616 E E E E E E) E ?_;refine A2 (E0 (e:=115) (n:=5) (sz:=1) (i:=8 * i / 26) (8 * i / 26) E E kR kR E qO qO) E ?_;refine A3 E (K8 (8 * i / 26) E E kR E (by rw [hok.len]; omega) Cs ?_);refine A0 (N9 2 3 6 7 8 9 10) (A1 (mv_ ?_));refine A2 (F0 E E E) E ?_;refine A0 (W4 2 3 6 7 8 9 10 32) ?_;refine C4 E ?_ ?_ <;> intro hc
   .
    have h4:8 * i / 26 < 4:=by simp at hc; omega
    refine C2 (mv_ ?_);refine A2 (D7 ((8 * i / 26+1:Nat):Int) E E (F7 qO qO qO)) E ?_;refine A2 (E0 (e:=115) (n:=5) (sz:=1) (i:=8 * i / 26+1) (8 * i / 26+1) E E kR kR E qO qO) E ?_;refine A2 (I6 (8 * i / 26+1) E kR Cc E (by have h:=hk1.len; unfold pt1 at h; omega)) E ?_;refine mv_ ?_;refine A2 (T7 (a:=xI p i) 26 E E E qD) E ?_;refine A2 (H2 18446744073709551616 E E E E E E) E ?_;refine A2 (E0 (e:=115) (n:=5) (sz:=1) (i:=8 * i / 26+1) (8 * i / 26+1) E E kR kR E qO qO) E ?_;refine A3 E (K8 (8 * i / 26+1) E E kR E (by have h:=hk1.len; unfold pt1 at h; omega) Cs ?_);refine C6 (nb ?_);exact jn () trivial (E8 2 3 8 9 10) (Ce (by rw [B9V h4]; rfl)) qI
   .
    have h4:¬ 8 * i / 26 < 4:=by simp at hc; omega
    refine A6 (nb ?_);exact jn () trivial (E8 2 3 8 9 10) (Ce (by rw [C2h h4]; rfl)) qI
  . rintro _ -;refine C2 ?_;refine A2 (D7 ((i+1:Nat):Int) E E (F7 qO qO qO)) E ?_;refine mv_ (C6 ?_);exact rn (i+1) hlt qO (E8 2 3 8 9 10) (Ce E) qI
 .
  obtain rfl:i=p.length:=by simp at hc; omega
  refine D9 (te (re (be E (nx (D2 2 3) (A1 ?_)))));refine A2 (H6 (n:=5) (cs:=nums .u64 (ptS p p.length)) E kR Cc (by rw [nums_len]; exact (A2M p).len)) E ?_;refine A3 E (A7 (vs:=nums .u64 (ptN p)) E E E (by rw [nums_len,(A2M p).len]; kernel_rfl) (by rw [nums_len,(A2M p).len]; rfl) E9 Cs ?_);refine A0 (D5 2) (C0 ?_);exact ⟨_,[],[],A00 (n:=5) E E kR Cc (by rw [nums_len,(A2M p).len]),Aa _,by simp,E,E,E⟩

def ml1(S:LN)(x y i k:Nat):LN :=
  if i+k < 5 then S.set (i+k) ((S.getD (i+k) 0+x * y % 18446744073709551616) % 18446744073709551616)
  else S.set (i+k - 5) ((S.getD (i+k - 5) 0+5 * x % 18446744073709551616 * y % 18446744073709551616) % 18446744073709551616)
def mlK(a b:LN)(i:Nat)(S:LN):Nat->LN
  | 0=>S
  | k+1=>ml1 (mlK a b i S k) (a.getD i 0) (b.getD k 0) i k
def mlI(a b:LN):Nat->LN
  | 0=>[0,0,0,0,0]
  | i+1=>mlK a b i (mlI a b i) 5
def A4I(a b:LN):LN:=cyN (cyN (mlI a b 5))
theorem L5.m1(h:L5 S)(x y i k:Nat):L5 (ml1 S x y i k):=by unfold ml1;split <;> exact h.set _ _ (Ad _ qD)
theorem B3B{a b S:LN}{i:Nat}(h:L5 S):∀ k,L5 (mlK a b i S k)
  | 0=>h
  | k+1=>(B3B h k).m1 _ _ _ _
theorem A5d(a b:LN):∀ i,L5 (mlI a b i)
  | 0=>L5.z
  | i+1=>B3B (A5d a b i) 5
theorem A1G(a b:LN):L5 (A4I a b):=W3 (W3 (A5d a b 5))
theorem B9W{b:LN}{k:Nat}(h:i+k < 5):mlK a b i S (k+1)=(mlK a b i S k).set (i+k) (((mlK a b i S k).getD (i+k) 0+a.getD i 0 * b.getD k 0 % 18446744073709551616) % 18446744073709551616):=if_pos h
theorem C2i{b:LN}{k:Nat}(h:¬ i+k < 5):mlK a b i S (k+1)=(mlK a b i S k).set (i+k - 5) (((mlK a b i S k).getD (i+k - 5) 0+5 * a.getD i 0 % 18446744073709551616 * b.getD k 0 % 18446744073709551616) % 18446744073709551616):=if_neg h
theorem B9X(a b:LN)(A:Mem)(ha:L5 a)(hb:L5 b):FnV Tryz.prog 188 [.agg (nums .u64 a).toArray,.agg (nums .u64 b).toArray] A (.agg (nums .u64 (A4I a b)).toArray):=by
 refine Ck (N:=51) Tryz.func188 E E E λ w=>?_;refine A9 (D2 0 1) (A1 ?_);refine A3 E (bx_ λ b2=>?_);refine A3 E (bx_ λ b3=>?_);refine A3 E (C3 (cs:=[C1,C1,C1,C1,C1]) kR E λ b4=>?_);refine A0 (D6 2 3 4) (A1 ?_);refine A3 E (C3 (cs:=[C1,C1,C1,C1,C1]) kR E λ b5=>?_);refine A0 (D8 2 3 4 5) (A4 (A1 ?_));refine A2 (H6 (n:=5) (cs:=nums .u64 a) E kR Cc (by rw [nums_len]; exact ha.len)) E ?_;refine mv_ (A0 (E8 3 4 5 10 11) (A8 ?_));refine E5 (α:=Nat) (λ i=>[(3,(vP b3)),(4,(vP b4)),(5,(vP b5)),(10,.agg (nums .u64 a).toArray),(11,(vI i))]) (λ i=>[(b5,blk (nums .u64 (mlI a b i)) 190),(b4,blk [.int .u64 0,.int .u64 0,.int .u64 0,.int .u64 0,.int .u64 0] 190),(b3,blk (nums .u64 b) 190),(b2,blk (nums .u64 a) 190)]) (λ _=>_) (λ i=>i<=5) (λ i=>5 - i) 0 (Am _) (E8 3 4 5 10 11) (Ce E) qI ?_;rintro i hi
 try dsimp only at hi ⊢
 have hok:=A5d a b i;refine A1 ?_;refine A2 (F0 E E E) E ?_;refine A0 (H1 3 4 5 10 11 12) (A4 ?_);refine C4 E ?_ ?_ <;> intro hc
 .
  have hlt:i < 5:=by simp at hc; omega
  refine A6 (nx (E8 3 4 5 10 11) (A4 (A8 (A1 (mv_ ?_)))));refine A2 (A5o (m:=5) (e:=115) (j:=i) (cs:=nums .u64 a) (u:=.int .u64 ((a.getD i 0:Nat):Int)) E E kR kR kR E qO (V9 (by rw [ha.len]; omega))) E ?_;refine as_ (as_ (A0 (N9 3 4 5 6 7 10 11) (A1 ?_)));refine A2 (H6 (n:=5) (cs:=nums .u64 b) E kR Cc (by rw [nums_len]; exact hb.len)) E ?_;refine mv_ (A0 (A0m 3 4 5 6 7 10 11 15 16) (A8 ?_));refine E5 (α:=Nat) (λ k=>[(3,(vP b3)),(4,(vP b4)),(5,(vP b5)),(10,.agg (nums .u64 a).toArray),(11,(vI i)),(6,(vI i)),(7,.int .u64 ((a.getD i 0:Nat):Int)),(15,.agg (nums .u64 b).toArray),(16,(vI k))]) (λ k=>[(b5,blk (nums .u64 (mlK a b i (mlI a b i) k)) 190),(b4,blk [.int .u64 0,.int .u64 0,.int .u64 0,.int .u64 0,.int .u64 0] 190),(b3,blk (nums .u64 b) 190),(b2,blk (nums .u64 a) 190)]) (λ _=>_) (λ k=>k<=5) (λ k=>5 - k) 0 (Am _) (A0m 3 4 5 10 11 6 7 15 16) (Ce E) qI ?_;rintro k hk
  try dsimp only at hk ⊢
  have hok2:=B3B (a:=a) (b:=b) (i:=i) hok k;refine A1 ?_;refine A2 (F0 E E E) E ?_;refine A0 (kq 3 (A0m 4 5 6 7 10 11 15 16 17)) (A4 ?_);refine C4 E ?_ ?_ <;> intro hc
  .
   have hlt2:k < 5:=by simp at hc; omega
   refine A6 (nx (A0m 3 4 5 6 7 10 11 15 16) ?_);refine P8 (α:=Unit) (λ _=>[(3,(vP b3)),(4,(vP b4)),(5,(vP b5)),(10,.agg (nums .u64 a).toArray),(11,(vI i)),(6,(vI i)),(7,.int .u64 ((a.getD i 0:Nat):Int)),(15,.agg (nums .u64 b).toArray),(16,(vI k)),(8,(vI k)),(9,.int .u64 ((b.getD k 0:Nat):Int))]) (λ _=>[(b5,blk (nums .u64 (mlK a b i (mlI a b i) (k+1))) 190),(b4,blk [.int .u64 0,.int .u64 0,.int .u64 0,.int .u64 0,.int .u64 0] 190),(b3,blk (nums .u64 b) 190),(b2,blk (nums .u64 a) 190)]) (λ _=>[]) (λ _=>True) ?_ ?_
   .
    refine A8 (A1 (mv_ ?_));refine A2 (A5o (m:=5) (e:=115) (j:=k) (cs:=nums .u64 b) (u:=.int .u64 ((b.getD k 0:Nat):Int)) E E kR kR kR E qO (V9 (by rw [hb.len]; omega))) E ?_;refine as_ (as_ ?_);refine A0 (kq 3 (kq 4 (A0m 5 6 7 8 9 10 11 15 16))) ?_;refine A1 (mv_ (mv_ ?_));refine A2 (D7 ((i+k:Nat):Int) E E (F7 qO qO qO)) E ?_;refine A2 (F0 E E E) E ?_;refine A0 (kq 3 (kq 4 (kq 5 (A0m 6 7 8 9 10 11 15 16 23)))) ?_;refine C4 E ?_ ?_ <;> intro hc
    .
     have h5:i+k < 5:=by simp at hc; omega
     refine C2 (mv_ (mv_ ?_));refine A2 (D7 ((i+k:Nat):Int) E E (F7 qO qO qO)) E ?_;refine A2 (E0 (e:=115) (n:=5) (sz:=1) (i:=i+k) (i+k) E E kR kR E qO qO) E ?_;refine A2 (I6 (i+k) E kR Cc E (by rw [hok2.len]; omega)) E ?_;refine mv_ (mv_ ?_);refine A2 (Q3 18446744073709551616 E E E E E E) E ?_;refine A2 (H2 18446744073709551616 E E E E E E) E ?_;refine A2 (E0 (e:=115) (n:=5) (sz:=1) (i:=i+k) (i+k) E E kR kR E qO qO) E ?_;refine A3 E (K8 (i+k) E E kR E (by rw [hok2.len]; omega) Cs ?_);refine C6 (nb ?_);exact jn () trivial (kq 3 (kq 4 (A0m 5 10 11 6 7 15 16 8 9))) (Ce (by rw [B9W h5])) qI
    .
     have h5:¬ i+k < 5:=by simp at hc; omega
     refine C2 (mv_ (mv_ ?_));refine A2 (D7 ((i+k:Nat):Int) E E (F7 qO qO qO)) E ?_;refine A2 (D7 ((i+k - 5:Nat):Int) E E (W5 qO qO qO)) E ?_;refine A2 (E0 (e:=115) (n:=5) (sz:=1) (i:=i+k - 5) (i+k - 5) E E kR kR E qO qO) E ?_;refine A2 (I6 (i+k - 5) E kR Cc E (by rw [hok2.len]; omega)) E ?_;refine mv_ ?_;refine A2 (Q3 18446744073709551616 E E E E E E) E ?_;refine mv_ ?_;refine A2 (Q3 18446744073709551616 E E E E E E) E ?_;refine A2 (H2 18446744073709551616 E E E E E E) E ?_;refine A2 (E0 (e:=115) (n:=5) (sz:=1) (i:=i+k - 5) (i+k - 5) E E kR kR E qO qO) E ?_;refine A3 E (K8 (i+k - 5) E E kR E (by rw [hok2.len]; omega) Cs ?_);refine C6 (nb ?_);exact jn () trivial (kq 3 (kq 4 (A0m 5 10 11 6 7 15 16 8 9))) (Ce (by rw [C2i h5])) qI
   . rintro _ -;refine C2 ?_;refine A2 (D7 ((k+1:Nat):Int) E E (F7 qO qO qO)) E ?_;refine mv_ (C6 ?_);exact rn (k+1) hlt2 qO (A0m 3 4 5 10 11 6 7 15 16) (Ce E) qI
  .
   obtain rfl:k=5:=by simp at hc; omega
   refine D9 (te (re (be E (nb (nx (E8 3 4 5 10 11) (C2 ?_))))));refine A2 (D7 ((i+1:Nat):Int) E E (F7 qO qO qO)) E ?_;refine mv_ (C6 ?_);exact rn (i+1) hlt qO (E8 3 4 5 10 11) (Ce E) qI
 .
  obtain rfl:i=5:=by simp at hc; omega
  refine D9 (te (re (be E (nx (D2 4 5) (A1 ?_)))));refine A2 (H6 (n:=5) (cs:=nums .u64 (mlI a b 5)) E kR Cc (by rw [nums_len]; exact (A5d a b 5).len)) E ?_;refine E6 (aS E a0) kR (A4u (mlI a b 5) _ (A5d a b 5)) E ?_;refine E6 (aS E a0) kR (A4u (cyN (mlI a b 5)) _ (W3 (A5d a b 5))) E ?_;refine A3 E (A7 (vs:=nums .u64 (A4I a b)) E E E (by rw [nums_len,(A1G a b).len]; kernel_rfl) (by rw [nums_len,(A1G a b).len]; rfl) E9 Cs ?_);refine A0 (D5 4) (C0 ?_);exact ⟨_,[],[],A00 (n:=5) E E kR Cc (by rw [nums_len,(A1G a b).len]),Aa _,by simp,E,E,E⟩

def em1(S:LN)(i:Nat):LN:=S.set (i+1) ((S.getD (i+1) 0+S.getD i 0 >>> 26) % 18446744073709551616)
def emS(a:LN):Nat->LN
  | 0=>a.set 0 ((a.getD 0 0+5) % 18446744073709551616)
  | i+1=>(em1 (emS a i) i).set i ((em1 (emS a i) i).getD i 0 &&& 67108863)
def enF(a:LN):LN:=if 0 < (emS a 4).getD 4 0 >>> 26 then (emS a 4).set 4 ((emS a 4).getD 4 0 &&& 67108863) else a
def exN(f:LN)(i:Nat):Nat:=if 8 * i / 26 < 4 then f.getD (8 * i / 26) 0 >>> (8 * i % 26) ||| f.getD (8 * i / 26+1) 0 <<< (26 - 8 * i % 26) % 18446744073709551616 else f.getD (8 * i / 26) 0 >>> (8 * i % 26)
def ecN(f o:LN)(c i:Nat):Nat:=(c+((exN f i &&& 255)+o.getD i 0) % 18446744073709551616) % 18446744073709551616
def eoS(f o:LN):Nat->LN×Nat
  | 0=>(List.replicate 16 0,0)
  | i+1=>((eoS f o i).1.set i (ecN f o (eoS f o i).2 i % 256),ecN f o (eoS f o i).2 i >>> 8)
def C22(a o:LN):LN:=(eoS (enF (cyN (cyN (cyN a)))) o 16).1
theorem L5.e1(h:L5 S)(i:Nat):L5 (em1 S i):=h.set _ _ (Ad _ qD)
theorem B3C{a:LN}(h:L5 a):∀ i,L5 (emS a i)
  | 0=>h.set _ _ (Ad _ qD)
  | i+1=>((B3C h i).e1 i).set _ _ (B6E _)
theorem C2j(h:L5 a):L5 (enF a):=by
  unfold enF;split
  . exact (B3C h 4).set _ _ (B6E _)
  . exact h
theorem A20(f o:LN):∀ i,(eoS f o i).1.length=16
  | 0=>by simp [eoS]
  | i+1=>by show ((eoS f o i).1.set _ _).length=_; rw [Bk,A20 f o i]
theorem B7O(f o:LN):∀ i,∀ x∈(eoS f o i).1,x < 256
  | 0=>λ x hx=>by rw [show (eoS f o 0).1=List.replicate 16 0 from rfl] at hx; rw [(List.mem_replicate.1 hx).2]; decide
  | i+1=>λ x hx=>by
    rcases Bf hx with h1 | rfl
    . exact B7O f o i x h1
    . exact Ad _ qD
theorem B6G(a o:LN):(C22 a o).length=16:=A20 _ _ _
theorem C3L(a o:LN)(v:Value)(A:Mem)(ha:L5 a)(ho:By A v o)(hol:o.length=16):FnX Tryz.prog 189 [.agg (nums .u64 a).toArray,v] [] A λ q M J=>M=[]∧By J q (C22 a o):=by
 haveI:=ho.cel;refine Cl (N:=97) Tryz.func189 E E E λ w_=>?_;refine A9 (D2 0 1) (A1 ?_);refine A3 E (bx_ λ b2=>?_);refine as_ (A0 (D2 1 2) (A1 ?_));refine A2 (H6 (n:=5) (cs:=nums .u64 a) E kR Cc (by rw [nums_len]; exact ha.len)) E ?_;refine E6 (aS E a0) kR (A4u a _ ha) E ?_;refine E6 (aS E a0) kR (A4u (cyN a) _ (W3 ha)) E ?_;refine E6 (aS E a0) kR (A4u (cyN (cyN a)) _ (W3 (W3 ha))) E ?_;refine A3 E (A7 (vs:=nums .u64 (cyN (cyN (cyN a)))) E E E (by rw [nums_len,(W3 (W3 (W3 ha))).len]; kernel_rfl) (by rw [nums_len,nums_len,ha.len,(W3 (W3 (W3 ha))).len]) E9 Cs ?_);refine A0 (D2 1 2) ?_;unfold C22
 obtain ⟨e,he⟩:∃ z,cyN (cyN (cyN a))=z:=⟨_,E⟩
 have hok:=W3 (W3 (W3 ha));rw [he] at hok ⊢;refine A1 ?_;refine A2 (H6 (n:=5) (cs:=nums .u64 e) E kR Cc (by rw [nums_len]; exact hok.len)) E ?_;refine A3 E (C3 (cs:=[C1,C1,C1,C1,C1]) kR E λ b5=>?_);refine A3 E (A7 (vs:=nums .u64 e) E E E (by rw [nums_len,hok.len]; kernel_rfl) (by rw [nums_len,hok.len]; rfl) E9 Cs ?_);refine A0 (D6 1 2 5) (A1 ?_);refine A2 (E0 (e:=115) (n:=5) (sz:=1) (i:=0) (0) E E kR kR E qO qO) E ?_;refine A2 (I6 (0) E kR Cc E (by rw [hok.len]; omega)) E ?_;refine A2 (H2 18446744073709551616 (b:=5) E E E E E E) E ?_;refine A2 (E0 (e:=115) (n:=5) (sz:=1) (i:=0) (0) E E kR kR E qO qO) E ?_;refine A3 E (K8 (0) E E kR E (by rw [hok.len]; omega) Cs ?_);refine A0 (D6 1 2 5) (A4 (A1 (mv_ (A0 (D8 1 2 5 21) (A8 ?_)))));refine E5 (α:=Nat) (λ i=>[(1,v),(2,(vP b2)),(5,(vP b5)),(21,(vI i))]) (λ i=>[(b5,blk (nums .u64 (emS e i)) 190),(b2,blk (nums .u64 e) 190)]) (λ _=>_) (λ i=>i<=4) (λ i=>4 - i) 0 (Am _) (D8 1 2 5 21) (Ce E) qI ?_;rintro i hi
 try dsimp only at hi ⊢
 have hm:=B3C hok i;have hm1:=hm.e1 i;refine A1 ?_;refine A2 (F0 E E E) E ?_;refine A0 (E8 1 2 5 21 22) (A4 ?_);refine C4 E ?_ ?_ <;> intro hc
 .
  have hlt:i < 4:=by simp at hc; omega
  refine A6 (nx (D8 1 2 5 21) (A4 (A8 (A1 (mv_ (as_ (A0 (E8 1 2 5 6 21) ?_)))))));refine D1 (.range 10) (zp 0 [0,0,0,1,0,0,1,0,0,0,2]) kR kR λ hs=>?_;refine fm_ hs ?_;refine C8 hs E (D7 ((i+1:Nat):Int) E E (F7 qO qO qO)) E ?_;refine C8 hs E (E0 (e:=115) (n:=5) (sz:=1) (i:=i+1) (i+1) E E kR kR E qO qO) E ?_;refine F9 hs E (I6 (i+1) E kR Cc E (by rw [hm.len]; omega)) E ?_;refine fm_ hs ?_;refine C8 hs E (E0 (e:=115) (n:=5) (sz:=1) (i:=i) (i) E E kR kR E qO qO) E ?_;refine F9 hs E (I6 (i) E kR Cc E (by rw [hm.len]; omega)) E ?_;refine C8 hs E (T7 26 E E E qD) E ?_;refine C8 hs E (H2 18446744073709551616 E E E E E E) E ?_;refine C8 hs E (E0 (e:=115) (n:=5) (sz:=1) (i:=i+1) (i+1) E E kR kR E qO qO) E ?_;refine G1 E E E (K8 (i+1) E E kR E (by rw [hm.len]; omega) Cs ?_);refine E3 (E8 1 2 5 6 21) (C2 (mv_ ?_));refine A2 (E0 (e:=115) (n:=5) (sz:=1) (i:=i) (i) E E kR kR E qO qO) E ?_;refine A2 (I6 (i) E kR Cc E (by have h:=hm1.len; unfold em1 at h; omega)) E ?_;refine A2 (A4C (b:=67108863) E E E (by show _ < 18446744073709551616; exact hm1.get _) qD) E ?_;refine A2 (E0 (e:=115) (n:=5) (sz:=1) (i:=i) (i) E E kR kR E qO qO) E ?_;refine A3 E (K8 (i) E E kR E (by have h:=hm1.len; unfold em1 at h; omega) Cs ?_);refine C6 (nb (nx (D8 1 2 5 21) (C2 ?_)));refine A2 (D7 ((i+1:Nat):Int) E E (F7 qO qO qO)) E ?_;refine mv_ (C6 ?_);exact rn (i+1) qO qO (D8 1 2 5 21) (Ce E) qI
 .
  obtain rfl:i=4:=by simp at hc; omega
  refine D9 (te (re (be E (nx (D6 1 2 5) ?_))));refine P8 (α:=LN) (λ _=>[(1,v),(2,(vP b2))]) (λ S=>[(b5,blk (nums .u64 S) 190),(b2,blk (nums .u64 (enF e)) 190)]) (λ _=>[]) (λ _=>True) ?_ ?_
  .
   refine A1 ?_;refine A2 (E0 (e:=115) (n:=5) (sz:=1) (i:=4) (4) E E kR kR E qO qO) E ?_;refine A2 (I6 (4) E kR Cc E (by rw [hm.len]; omega)) E ?_;refine A2 (T7 26 E E E qD) E ?_;refine A2 (F0 E E E) E ?_;refine A0 (D8 1 2 5 43) ?_;refine C4 E ?_ ?_ <;> intro hc
   .
    have h0:0 < (emS e 4).getD 4 0 >>> 26:=by have:=of_decide_eq_true hc; omega
    refine A1 ?_;refine A2 (E0 (e:=115) (n:=5) (sz:=1) (i:=4) (4) E E kR kR E qO qO) E ?_;refine A2 (I6 (4) E kR Cc E (by rw [hm.len]; omega)) E ?_;refine A2 (A4C (b:=67108863) E E E (by show _ < 18446744073709551616; exact hm.get _) qD) E ?_;refine A2 (E0 (e:=115) (n:=5) (sz:=1) (i:=4) (4) E E kR kR E qO qO) E ?_;refine A3 E (K8 (4) E E kR E (by rw [hm.len]; omega) Cs ?_);refine A0 (D6 1 2 5) ?_;have hm2:=hm.set 4 ((emS e 4).getD 4 0 &&& 67108863) (B6E _);refine C2 ?_;refine A2 (H6 (n:=5) (cs:=nums .u64 ((emS e 4).set 4 ((emS e 4).getD 4 0 &&& 67108863))) E kR Cc (by rw [nums_len]; exact hm2.len)) E ?_;refine A3 E (A7 (vs:=nums .u64 ((emS e 4).set 4 ((emS e 4).getD 4 0 &&& 67108863))) E E E (by rw [nums_len,hm2.len]; kernel_rfl) (by rw [nums_len,nums_len,hok.len,hm2.len]) E9 Cs ?_);refine C6 ?_;exact jn ((emS e 4).set 4 ((emS e 4).getD 4 0 &&& 67108863)) trivial (D2 1 2) (Ce (by rw [show enF e=_ from if_pos h0])) qI
   .
    have h0:¬ 0 < (emS e 4).getD 4 0 >>> 26:=by have:=of_decide_eq_false hc; omega
    refine A6 ?_;exact jn (emS e 4) trivial (D2 1 2) (Ce (by rw [show enF e=e from if_neg h0])) qI
  .
   rintro Sx -;have hf:=C2j hok
   obtain ⟨f,hfe⟩:∃ z,enF e=z:=⟨_,E⟩
   rw [hfe] at hf ⊢;refine A1 ?_;refine A3 E (A0F (by_:=1) (k:=.u8) (e:=5) 16 E E kR E E qD qD E λ b49=>?_);refine as_ (A0 (D6 1 2 7) (A1 (as_ (A0 (D8 1 2 7 8) (A4 (A1 (mv_ ?_)))))));refine A2 (A0Z (e:=5) E kR) E ?_;refine mv_ (A0 (H1 1 2 7 8 51 52) (A8 ?_));refine E5 (α:=Nat) (λ i=>[(1,v),(2,(vP b2)),(7,.slice (some ⟨b49,0,none⟩) 16 16),(8,.int .u64 (((eoS f o i).2:Nat):Int)),(51,.int .i64 16),(52,(vI i))]) (λ i=>[(b49,blk (nums .u8 (eoS f o (i)).1) 5),(b2,blk (nums .u64 f) 190)]) (λ _=>[]) (λ i=>i<=16) (λ i=>16 - i) 0 (Am _) (H1 1 2 7 8 51 52) (Ch (B:=[(b49,blk (nums .u8 (List.replicate 16 0)) 5)]) qP (Ch (B:=[(b2,blk (nums .u64 f) 190)]) qP qZ)) qI ?_;rintro i hi
   try dsimp only at hi ⊢
   have hol:=A20 f o i;refine A1 ?_;refine A2 (F0 E E E) E ?_;refine A0 (N9 1 2 7 8 51 52 53) (A4 ?_);refine C4 E ?_ ?_ <;> intro hc
   .
    have hlt:i < 16:=by simp at hc; omega
    have hk5:8 * i / 26 < 5:=by omega
    refine A6 (nx (H1 1 2 7 8 51 52) (A4 (A8 (A1 (mv_ (as_ (A0 (N9 1 2 7 8 9 51 52) (A1 ?_))))))));refine mv_ ?_;refine A2 (D7 ((8 * i:Nat):Int) E E (A1I qO qO qO)) E ?_;refine A2 (B7e (a:=8 * i) (b:=26) E E E E qD qO) E ?_;refine as_ (A0 (W4 1 2 7 8 9 10 51 52) (A1 (mv_ ?_)));refine A2 (E0 (e:=115) (n:=5) (sz:=1) (i:=8 * i / 26) (8 * i / 26) E E kR kR E qO qO) E ?_;refine A2 (I6 (8 * i / 26) E kR Cc E (by rw [hf.len]; omega)) E ?_;refine mv_ ?_;refine A2 (D7 ((8 * i:Nat):Int) E E (A1I qO qO qO)) E ?_;refine A2 (T8 (a:=8 * i) (b:=26) E E E E qD) E ?_;refine A2 (T7 (8 * i % 26) E E E (by show _<=64; omega)) E ?_;refine as_ (A0 (A0m 1 2 7 8 9 10 11 51 52) ?_);refine P8 (α:=Unit) (λ _=>[(1,v),(2,(vP b2)),(7,.slice (some ⟨b49,0,none⟩) 16 16),(8,.int .u64 (((eoS f o i).2:Nat):Int)),(51,.int .i64 16),(52,(vI i)),(9,(vI i)),(11,.int .u64 ((exN f i:Nat):Int))]) (λ _=>[(b49,blk (nums .u8 (eoS f o (i)).1) 5),(b2,blk (nums .u64 f) 190)]) (λ _=>[]) (λ _=>True) ?_ ?_
    .
     refine A1 (mv_ ?_);refine A2 (F0 E E E) E ?_;refine A0 (kq 1 (A0m 2 7 8 9 10 11 51 52 66)) ?_;refine C4 E ?_ ?_ <;> intro hc
     .
      have h4:8 * i / 26 < 4:=by simp at hc; omega
      refine C2 (mv_ (mv_ ?_));refine A2 (D7 ((8 * i / 26+1:Nat):Int) E E (F7 qO qO qO)) E ?_;refine A2 (E0 (e:=115) (n:=5) (sz:=1) (i:=8 * i / 26+1) (8 * i / 26+1) E E kR kR E qO qO) E ?_;refine A2 (I6 (8 * i / 26+1) E kR Cc E (by rw [hf.len]; omega)) E ?_;refine mv_ ?_;refine A2 (D7 ((8 * i:Nat):Int) E E (A1I qO qO qO)) E ?_;refine A2 (T8 (a:=8 * i) (b:=26) E E E E qD) E ?_;refine A2 (D7 ((26 - 8 * i % 26:Nat):Int) E E (W5 qO qO qO)) E ?_;refine A2 (A25 E (26 - 8 * i % 26) E E E (by show _<=64; omega)) E ?_;refine A2 (B4A E E E (by show _ < 18446744073709551616; exact B6F (hf.get _) _) (by show _ < 18446744073709551616; exact Ad _ qD)) E ?_;refine as_ (C6 ?_);exact jn () trivial (kq 1 (kq 2 (kq 7 (kq 8 (kq 51 (kq 52 (kq 9 (kp 11 (by rw [show exN f i=_ from if_pos h4]; rfl) kn)))))))) (Ce E) qI
     .
      have h4:¬ 8 * i / 26 < 4:=by simp at hc; omega
      refine A6 ?_;exact jn () trivial (kq 1 (kq 2 (kq 7 (kq 8 (kq 51 (kq 52 (kq 9 (kp 11 (by rw [show exN f i=_ from if_neg h4]; rfl) kn)))))))) (Ce E) qI
    .
     rintro _ -
     have hex:exN f i < 18446744073709551616:=by
      unfold exN;split
      . exact Nat.or_lt_two_pow (n:=64) (B6F (hf.get _) _) (Ad _ qD)
      . exact B6F (hf.get _) _
     refine A1 (mv_ (mv_ ?_));refine A2 (A4C (a:=exN f i) (b:=255) E E E hex qD) E ?_;refine mv_ (mv_ ?_);refine A2 (H4 (sz:=1) (a:=i) E E kR E ho.rd qO) E ?_;refine A2 (A0T (k:=.u8) E kR (ho.rd.mono qS) qO) E ?_;refine A2 (A1K (k':=.u64) E kR (by show _ < 9223372036854775808; have:=A07 ho.lt i; omega)) E ?_;refine A2 (H2 18446744073709551616 E E E E E E) E ?_;refine A2 (H2 18446744073709551616 E E E E E E) E ?_;refine as_ (A0 (N9 1 2 7 8 9 51 52) (A1 (mv_ (mv_ (mv_ ?_)))));refine A2 (A04 E kR) E ?_;refine A2 (L8 (e:=5) (i:=i) (sz:=1) E E kR kR E hlt) E ?_;refine A3 E (K8 i E E kR qO qO Cs ?_);refine A0 (H1 1 2 7 8 51 52) (C2 (mv_ ?_));refine A2 (T7 8 E E E qD) E ?_;refine as_ (C6 (nb (nx (H1 1 2 7 8 51 52) (C2 ?_))));refine A2 (D7 ((i+1:Nat):Int) E E (F7 qO qO qO)) E ?_;refine mv_ (C6 ?_);exact rn (i+1) qO qO (H1 1 2 7 8 51 52) (Ce E) qI
   .
    obtain rfl:i=16:=by simp at hc; omega
    refine D9 (te (re (be E (nx (D5 7) (A1 (mv_ (as_ (A0 (D5 4) ?_))))))));refine C0 ?_;refine ⟨_,[],[(b49,blk (nums .u8 (eoS f o 16).1) 5)],I0 E E,Ch (B:=[_]) qP qZ,E,⟨?_,B7O f o 16,by rw [A20]; decide⟩⟩;rw [A20];exact Co (n:=16) qK (by simp [nums,A20])

end Go.Proofs.YtjkpfgjfpbihaaaGreatDoor
