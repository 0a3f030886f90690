/- Part 9 of the texts of this claim, one behind the other. -/
import Derived.Test.YtjkpfgjfpbihaaaGreatDoorB8
import Derived.Laws.Strings
set_option linter.unusedVariables false
set_option linter.unusedSimpArgs false
set_option maxRecDepth 100000
namespace Go.Px
def bv:List Nat->Nat
  | []=>0
  | b::r=>b+256 * bv r
variable{p:List Nat}
theorem C1x(h:∀ x∈p,x < 256):bv p < 256 ^ p.length:=by
  induction p with
  | nil=>decide
  | cons b r ih =>
    have h1:=h b (by simp);have h2:=ih λ x hx=>h x (by simp [hx]);simp only [bv,List.length_cons,Nat.pow_succ]; omega
theorem B8Q(h:∀ x∈p,x < 256)(i:Nat):bv p / 256 ^ i % 256=p.getD i 0:=by
  induction p generalizing i with
  | nil=>simp [bv]
  | cons b r ih =>
    have h1:=h b (by simp)
    cases i with
    | zero=>simp only [bv,Nat.pow_zero,Nat.div_one,List.getD_cons_zero]; omega
    | succ i =>
      rw [List.getD_cons_succ,<- ih (λ x hx=>h x (by simp [hx])) i,Nat.pow_succ,Nat.mul_comm,<- Bu];congr 2;simp only [bv]; omega
theorem A62(h:∀ x∈p,x < 256)(i:Nat):p.getD (i / 8) 0 / 2 ^ (i % 8) % 2=bv p / 2 ^ i % 2:=by
  rw [<- B8Q h,show (256:Nat)=2 ^ 8 from rfl,<- Nat.pow_mul];have h1:i % 8 < 8:=Ad _ (by decide);have e:2 ^ 8=2 ^ (i % 8) * (2 * 2 ^ (7 - i % 8)):=by rw [<- Nat.pow_succ',<- Nat.pow_add]; congr 1; omega
  rw [e,Nat.mod_mul_right_div_self,Nat.mod_mul_right_mod,Bu,<- Nat.pow_add];congr 3; omega
def prt(w N i j:Nat):Nat:=N % 2 ^ i / 2 ^ (w * j) % 2 ^ w
variable{w N i:Nat}
theorem B5w(hw:0 < w):prt w N (i+1) (i / w)=(prt w N i (i / w) ||| (N / 2 ^ i % 2) <<< (i % w)):=by
  have hr:i % w < w:=Ad _ hw;have hi:w * (i / w)+i % w=i:=Nat.div_add_mod i w
  have hX:N % 2 ^ i / 2 ^ (w * (i / w)) < 2 ^ (i % w):=by rw [Nat.div_lt_iff_lt_mul (Bx _),<- Nat.pow_add,Nat.add_comm,hi];exact Ad _ (Bx _)
  have hle:2 ^ (i % w) * 2<=2 ^ w:=by rw [<- Nat.pow_succ]; exact Bq (by decide) hr
  have hb:N / 2 ^ i % 2 < 2:=Ad _ (by decide);unfold prt;rw [Af (Bp hX (by omega)),Nat.or_comm,<- Nat.shiftLeft_add_eq_or_of_lt hX,Nat.mod_pow_succ]
  have e:(N % 2 ^ i+2 ^ i * (N / 2 ^ i % 2)) / 2 ^ (w * (i / w))=N % 2 ^ i / 2 ^ (w * (i / w))+2 ^ (i % w) * (N / 2 ^ i % 2):=by
    conv=>lhs; rw [show 2 ^ i * (N / 2 ^ i % 2)=2 ^ (w * (i / w)) * (2 ^ (i % w) * (N / 2 ^ i % 2)) by rw [<- Nat.mul_assoc,<- Nat.pow_add,hi]]
    rw [Nat.add_mul_div_left _ _ (Bx _)]
  rw [e,Nat.shiftLeft_eq,Af,Nat.add_comm,Nat.mul_comm];generalize N / 2 ^ i % 2=b at *;have:2 ^ (i % w) * b<=2 ^ (i % w) * 1:=Nat.mul_le_mul_left _ (by omega);omega
theorem B5x{j:Nat}(hw:0 < w)(h:j≠i / w):prt w N (i+1) j=prt w N i j:=by
  have hi:w * (i / w)+i % w=i:=Nat.div_add_mod i w;have hr:i % w < w:=Ad _ hw;unfold prt;rw [Nat.mod_pow_succ];rcases Nat.lt_or_gt_of_ne h with hl | hg
  . have hge:w * (j+1)<=i:=by have:=Nat.mul_le_mul_left w (show j+1<=i / w from hl);omega
    have e:2 ^ i * (N / 2 ^ i % 2)=2 ^ (w * j) * (2 ^ w * (2 ^ (i - w * (j+1)) * (N / 2 ^ i % 2))):=by rw [<- Nat.mul_assoc,<- Nat.mul_assoc,<- Nat.pow_add,<- Nat.pow_add];congr 2;rw [Nat.mul_add] at hge ⊢; omega
    rw [e,Nat.add_mul_div_left _ _ (Bx _),Nat.add_mul_mod_self_left]
  . have hge:i+1<=w * j:=by have:=Nat.mul_le_mul_left w (show i / w+1<=j from hg);rw [Nat.mul_add] at this; omega
    have h1:N % 2 ^ i < 2 ^ (w * j):=Bp (Ad _ (Bx _)) (Bq (by decide) (by omega))
    have h2:N % 2 ^ i+2 ^ i * (N / 2 ^ i % 2) < 2 ^ (w * j):=by rw [<- Nat.mod_pow_succ];exact Bp (Ad _ (Bx _)) (Bq (by decide) hge)
    rw [Nat.div_eq_of_lt h1,Nat.div_eq_of_lt h2]
def A0Q(w n N i:Nat):List Nat:=(List.range n).map (prt w N i)
theorem P9(w n N i:Nat):(A0Q w n N i).length=n:=by simp [A0Q]
theorem A2F{n j:Nat}(h:j < n):(A0Q w n N i).getD j 0=prt w N i j:=by simp [A0Q,List.getD,h]
theorem A38(w n N:Nat):A0Q w n N 0=List.replicate n 0:=by
  apply List.ext_getElem?;intro j;simp only [A0Q,List.getElem?_map,List.getElem?_replicate];by_cases h:j < n
  . simp [h,prt,Nat.mod_one]
  . simp [h]
theorem A39{n:Nat}(hw:0 < w)(hi:i / w < n):A0Q w n N (i+1)=(A0Q w n N i).set (i / w) (prt w N i (i / w) ||| (N / 2 ^ i % 2) <<< (i % w)):=by
  apply List.ext_getElem?;intro j;rw [List.getElem?_set];simp only [A0Q,List.getElem?_map,List.length_map,List.length_range];by_cases h:j < n
  . by_cases e:i / w=j
    . subst e; simp [h,B5w hw]
    . simp [h,e,B5x hw (λ h=>e h.symm)]
  . have:i / w≠j:=by omega
    simp [h,this]
theorem B1K(p q:List Nat):bv (p++q)=bv p+256 ^ p.length * bv q:=by
  induction p with
  | nil=>simp [bv]
  | cons b r ih=>simp only [List.cons_append,bv,ih,List.length_cons,Nat.pow_succ]; grind
theorem A2G(X:Nat):∀ n,bv ((List.range n).map λ j=>X / 2 ^ (8 * j) % 2 ^ 8)=X % 2 ^ (8 * n)
  | 0=>by simp [bv,Nat.mod_one]
  | n+1=>by rw [List.range_succ,List.map_append,B1K,A2G X n,List.length_map,List.length_range];simp only [List.map_cons,List.map_nil,bv,Nat.mul_zero,Nat.add_zero];rw [show (256:Nat) ^ n=2 ^ (8 * n) by rw [Nat.pow_mul],show 8 * (n+1)=8 * n+8 by omega,Nat.pow_add,Nat.mod_mul]
theorem B1L(x:Nat):bv (A0Q 8 32 x 255)=x % 2 ^ 255:=by unfold A0Q prt;rw [A2G,Af];exact Bp (Ad _ (Bx _)) (Bq (by decide) (by decide))
theorem A0X(x i:Nat):∀ y∈A0Q 8 32 x i,y < 256:=by intro y hy;obtain ⟨j,_,rfl⟩:=List.mem_map.1 hy;exact Ad _ (Bx _)
theorem B5y{x y:Nat}(hx:x < p25)(hy:y < p25)(h:A0Q 8 32 x 255=A0Q 8 32 y 255):x=y:=by have:=congrArg bv h;rw [B1L,B1L,Af (Nat.lt_trans hx (by decide)),Af (Nat.lt_trans hy (by decide))] at this;exact this
end Go.Px

namespace Go.Proofs.YtjkpfgjfpbihaaaGreatDoor
open Go.Px
def rdN(p:LN):Nat:=if p.length=32 then bv p % 57896044618658097711785492504343953926634992332820282019728792003956564819968 % p25 else 0
theorem B8R(N:Nat):fv (prt 51 N 255 0) (prt 51 N 255 1) (prt 51 N 255 2) (prt 51 N 255 3) (prt 51 N 255 4)=N % 57896044618658097711785492504343953926634992332820282019728792003956564819968:=by unfold fv prt;simp only [Nat.reducePow,Nat.reduceMul];omega
theorem A8V(w N i j:Nat):prt w N i j < 2 ^ w:=Ad _ (Bx _)
theorem B1M(N i j:Nat):prt 51 N i j < 4503599627370496:=Nat.lt_trans (A8V 51 N i j) qD
theorem A4a{b s w:Nat}(hb:b < 2)(hs:s < w):b <<< s < 2 ^ w:=by
  rw [Nat.shiftLeft_eq];have h1:2 ^ s * 2<=2 ^ w:=by rw [<- Nat.pow_succ]; exact Bq qD hs
  have h2:b * 2 ^ s<=1 * 2 ^ s:=Au _ qO;have h3:=Bx s;omega
theorem A43(pv:Value)(p:LN)(A:Mem)(hp:Rd A 1 pv p.length (nums .u8 p))(hp256:∀ x∈p,x < 256)(hpl:p.length < 9223372036854775808):FnX Tryz.prog 108 [pv] [] A λ r M J=>M=[]∧J=[]∧Fe r (rdN p):=by
 refine Ck (N:=33) Tryz.func108 E E E λ w=>?_;refine A9 (D5 0) (A1 ?_);refine A3 E (C3 (cs:=[C1,C1,C1,C1,C1]) kR E λ b2=>?_);refine A0 (D2 0 2) (A1 ?_);refine A3 E (C3 (cs:=[C1,C1,C1,C1,C1]) kR E λ b3=>?_);refine A0 (D6 0 2 3) (A4 (A1 (mv_ ?_)));refine A2 (A02 hp E kR) E ?_;refine A2 (F0 E E E) E ?_;refine A0 (D8 0 2 3 7) ?_;refine C4 E ?_ ?_ <;> intro hc
 .
  have h32:p.length≠32:=by simp at hc; omega
  refine A1 ?_;refine A2 (qw_ 5) E ?_;refine A3 E (A7 E E Cd kR ln5 al5 Cs ?_);refine A0 (D5 2) (C0 (tr ?_));refine ⟨_,[],[],A00 E E kR Cc qR,Aa _,by simp,E,E,0,0,0,0,0,E,by decide,by decide,by decide,by decide,by decide,?_⟩;rw [rdN,if_neg h32]; rfl
 .
  have h32:p.length=32:=by simp at hc; omega
  have hN:=A62 hp256;refine A6 (nx (D6 0 2 3) (A4 (A1 (mv_ (A0 (D8 0 2 3 9) (A8 ?_))))));refine A0H (M':=[(b3,blk (nums .u64 (A0Q 51 5 (bv p) 0)) 191),(b2,blk [.int .u64 0,.int .u64 0,.int .u64 0,.int .u64 0,.int .u64 0] 191)]) (Ce (by rw [A38]; rfl)) qI ?_;refine E5 (α:=Nat) (λ i=>[(0,pv),(2,(vP b2)),(3,(vP b3)),(9,.int .i64 (i:Int))]) (λ i=>[(b3,blk (nums .u64 (A0Q 51 5 (bv p) i)) 191),(b2,blk [.int .u64 0,.int .u64 0,.int .u64 0,.int .u64 0,.int .u64 0] 191)]) (λ _=>[]) (λ i=>i<=255) (λ i=>255 - i) 0 qD (D8 0 2 3 9) .rfl qI ?_;rintro i hi;refine A1 ?_;refine A2 (F0 E E E) E ?_;refine A0 (E8 0 2 3 9 10) (A4 ?_);refine C4 E ?_ ?_ <;> intro hc
  .
   have hlt:i < 255:=by simp at hc; omega
   have hbit:=hN i;rw [<- Bz] at hbit;have hb2:bv p / 2 ^ i % 2 < 2:=Ad _ qD;have hps:=A39 (w:=51) (n:=5) (N:=bv p) (i:=i) qD qO;have hpg:=A2F (w:=51) (n:=5) (N:=bv p) (i:=i) (j:=i / 51) qO;have hpl:=A8V 51 (bv p) i (i / 51);have hsm:=A4a (w:=51) hb2 (Ad i (by decide:0 < 51));have hpb:p.getD (i / 8) 0 < 256:=getD_lt hp256 qD;have hsr:=Nat.shiftRight_le (p.getD (i / 8) 0) (i % 8);rw [<- hpg] at hps hpl;generalize bv p / 2 ^ i % 2=bt at *;have hmo:bt <<< (i % 51) % 2 ^ IntKind.u64.bits=bt <<< (i % 51):=Af (Nat.lt_trans hsm qD);have hto:IntKind.u64.wrap (bt:Int)=(bt:Int):=by rw [A8u,Af qO]
   refine A6 (nx (D8 0 2 3 9) (A4 (A8 (A1 (mv_ (as_ (A0 (E8 0 2 3 4 9) ?_)))))));refine H7 (.range 19) (zp 0 [0,0,0,1,0,0,0,0,1,0,0,0,0,0,0,0,0,0,0,2]) kR kR λ hs=>?_;refine fm_ hs ?_;refine C8 hs E (A1f 51 E E E qD (A2j qO)) E ?_;refine C8 hs E (G2 (e:=115) (n:=5) (sz:=1) (i:=i / 51) E E kR kR E qO) E ?_;refine F9 hs E (I6 (i / 51) E kR Cc qO (by rw [P9]; omega)) E ?_;refine fm_ hs ?_;refine fm_ hs ?_;refine C8 hs E (A1f 8 E E E qD (A2j qO)) E ?_;refine C8 hs E (B4E hp E E kR (i / 8) E qO) E ?_;refine F9 hs E (A4P (hp.mono λ _ h=>mA h) E kR qO) E ?_;refine fm_ hs ?_;refine C8 hs E (A1g 8 E E E qD) E ?_;refine C8 hs E (T7 (i % 8) E E E (by show _<=8; omega)) E ?_;refine C8 hs E (hbit▸N4 1 2 E E E E E (by show _ < 256; omega) qD) E ?_;refine C8 hs E (K6 bt E kR hto) E ?_;refine fm_ hs ?_;refine C8 hs E (A1g 51 E E E qD) E ?_;refine C8 hs E (hmo▸A25 E (i % 51) E E E (by show _<=64; omega)) E ?_;refine C8 hs E (B4A E E E (Nat.lt_trans hpl qD) (Nat.lt_trans hsm qD)) E ?_;refine C8 hs E (G2 (e:=115) (n:=5) (sz:=1) (i:=i / 51) E E kR kR E qO) E ?_;refine G1 E E E (K8 (i / 51) E E kR qO (by rw [P9]; omega) Cs ?_);refine R9 (nb (nx (D8 0 2 3 9) (C2 ?_)));refine A2 (D7 ((i+1:Nat):Int) E E (F7 qO qO qO)) E ?_;refine mv_ (C6 ?_);exact rn (i+1) qO qO (D8 0 2 3 9) (Ce (by rw [hps])) qI
  .
   have hlt:i=255:=by simp at hc; omega
   subst hlt;refine D9 (te (re (be E (nx (D2 2 3) (A1 ?_)))));refine A2 (H6 (n:=5) (cs:=nums .u64 (A0Q 51 5 (bv p) 255)) E kR Cc (by rw [nums_len,P9])) E ?_;refine A3 E (A7 (vs:=nums .u64 (A0Q 51 5 (bv p) 255)) E E E (by rw [nums_len,P9]; kernel_rfl) (by rw [nums_len,P9]; rfl) E9 Cs ?_);refine A0 (D5 2) (C0 ?_);refine ⟨_,[],[],A00 E E kR Cc (by rw [nums_len,P9]),Aa _,by simp,E,E,_,_,_,_,_,E,B1M _ _ _,B1M _ _ _,B1M _ _ _,B1M _ _ _,B1M _ _ _,?_⟩;rw [B8R,rdN,if_pos h32]
theorem A0t(v:Value)(x:Nat)(hx:Fe v x)(A:Mem):FnX Tryz.prog 111 [v] [] A λ r M J=>J=[]∧Sl 1 r 32 (nums .u8 (A0Q 8 32 x 255)) M:=by
 obtain ⟨a,b,c,d,e,rfl,ha,hb,hc,hd,he,rfl⟩:=hx;refine Ck (N:=80) Tryz.func111 E E E λ w=>?_;refine A9 (D5 0) (A1 ?_);refine A3 E (bx_ λ b1=>?_);refine as_ (A0 (D5 1) (A1 ?_));refine A2 (qw_ 5) E ?_;refine C7 (aS E a0) kR (V5 _ _ _ _ _ qO qO qO qO qO _) E ?_;rintro r3 M3 J3 ⟨rfl,rfl,a3,b3,c3,d3,e3,rfl,ha3,hb3,hc3,hd3,hv3,he3⟩;refine C7 (aS E a0) kR (V5 _ _ _ _ _ qO qO qO qO qO _) E ?_;rintro r4 M4 J4 ⟨rfl,rfl,a4,b4,c4,d4,e4,rfl,ha4,hb4,hc4,hd4,hv4,he4⟩;have hz4:=A35 ha3 hb3 hc3 hd3 he3 ha4 hb4 hc4 hd4 hv4;refine C7 (aS E a0) kR (V5 _ _ _ _ _ qO qO qO qO qO _) E ?_;rintro r5 M5 J5 ⟨rfl,rfl,a5,b5,c5,d5,e5,rfl,ha5,hb5,hc5,hd5,hv5,he5⟩;have hz5:=A35 ha4 hb4 hc4 hd4 he4 ha5 hb5 hc5 hd5 hv5;have hx5:fv a5 b5 c5 d5 e5 % p25=fv a b c d e % p25:=by rw [N7 hv5,N7 hv4,N7 hv3]
 have hV5:=C1r ha5 hb5 hc5 hd5 hz5;clear hv3 hv4 hv5 he3 he4 he5 hz4 ha3 hb3 hc3 hd3 ha4 hb4 hc4 hd4;refine A3 E (A7 E E Cd kR ln5 al5 Cs ?_);refine A0 (D5 1) (A1 ?_);refine A2 (qi_ 0 115 5 1 0) E ?_;refine A2 ql_ E ?_;refine A2 (H2 18446744073709551616 (b:=19) E E E E E E) E ?_;refine A2 (P6 51 2251799813685248 E E E E qD) E ?_;refine as_ (A0 (D2 1 3) (A4 (A1 (as_ (A0 (D6 1 3 4) (A8 ?_))))));refine Y0 5 ?_;refine I4 ?_;refine A4 (A1 (mv_ ?_));refine A2 (F5 true E E (ltT qD)) E ?_;refine A0 (D8 1 3 4 17) ?_;refine E1 E ?_;refine A6 (nx (D6 1 3 4) (A4 (A8 (C2 (mv_ ?_)))));refine A2 (qi_ 1 115 5 1 1) E ?_;refine A2 ql_ E ?_;refine mv_ ?_;refine A2 (H2 18446744073709551616 E E E E E E) E ?_;refine A2 (P6 51 2251799813685248 E E E E qD) E ?_;refine as_ (C6 (nb (nx (D6 1 3 4) (C2 (mv_ ?_)))));refine A2 (D7 (2:Int) E E (F7 qD qD qD)) E ?_;refine as_ (C6 ?_);refine un (D6 1 3 4) ?_;refine I4 ?_;refine A4 (A1 (mv_ ?_));refine A2 (F5 true E E (ltT qD)) E ?_;refine A0 (D8 1 3 4 17) ?_;refine E1 E ?_;refine A6 (nx (D6 1 3 4) (A4 (A8 (C2 (mv_ ?_)))));refine A2 (qi_ 2 115 5 1 2) E ?_;refine A2 ql_ E ?_;refine mv_ ?_;refine A2 (H2 18446744073709551616 E E E E E E) E ?_;refine A2 (P6 51 2251799813685248 E E E E qD) E ?_;refine as_ (C6 (nb (nx (D6 1 3 4) (C2 (mv_ ?_)))));refine A2 (D7 (3:Int) E E (F7 qD qD qD)) E ?_;refine as_ (C6 ?_);refine un (D6 1 3 4) ?_;refine I4 ?_;refine A4 (A1 (mv_ ?_));refine A2 (F5 true E E (ltT qD)) E ?_;refine A0 (D8 1 3 4 17) ?_;refine E1 E ?_;refine A6 (nx (D6 1 3 4) (A4 (A8 (C2 (mv_ ?_)))));refine A2 (qi_ 3 115 5 1 3) E ?_;refine A2 ql_ E ?_;refine mv_ ?_;refine A2 (H2 18446744073709551616 E E E E E E) E ?_;refine A2 (P6 51 2251799813685248 E E E E qD) E ?_;refine as_ (C6 (nb (nx (D6 1 3 4) (C2 (mv_ ?_)))));refine A2 (D7 (4:Int) E E (F7 qD qD qD)) E ?_;refine as_ (C6 ?_);refine un (D6 1 3 4) ?_;refine I4 ?_;refine A4 (A1 (mv_ ?_));refine A2 (F5 true E E (ltT qD)) E ?_;refine A0 (D8 1 3 4 17) ?_;refine E1 E ?_;refine A6 (nx (D6 1 3 4) (A4 (A8 (C2 (mv_ ?_)))));refine A2 (qi_ 4 115 5 1 4) E ?_;refine A2 ql_ E ?_;refine mv_ ?_;refine A2 (H2 18446744073709551616 E E E E E E) E ?_;refine A2 (P6 51 2251799813685248 E E E E qD) E ?_;refine as_ (C6 (nb (nx (D6 1 3 4) (C2 (mv_ ?_)))));refine A2 (D7 (5:Int) E E (F7 qD qD qD)) E ?_;refine as_ (C6 ?_);refine un (D6 1 3 4) ?_;refine I4 ?_;refine A4 (A1 (mv_ ?_));refine A2 (F5 false E E (ltF qD)) E ?_;refine A0 (D8 1 3 4 17) ?_;refine C9 E ?_;refine D9 (te (ue (be E (nx (D2 1 3) ?_))));obtain ⟨q,hqe,hq⟩:=B8P ha5 hb5 hc5 hd5 hz5;rw [<- hqe];clear hqe;refine A1 ?_;refine A2 (qi_ 0 115 5 1 0) E ?_;refine A2 ql_ E ?_;refine mv_ ?_;refine A2 (Q3 18446744073709551616 (a:=19) E E E E E E) E ?_;refine A2 (H2 18446744073709551616 E E E E E E) E ?_;refine A2 (qi_ 0 115 5 1 0) E ?_;refine A3 E (E4 E E E kR Cq Cs ?_);refine A0 (D5 1) (A4 (A1 (mv_ (A0 (D2 1 32) (A8 ?_)))));refine Y0 5 ?_;refine I4 ?_;refine A1 ?_;refine A2 (F5 true E E (ltT qD)) E ?_;refine A0 (D6 1 32 33) (A4 ?_);refine E1 E ?_;refine A6 (nx (D2 1 32) (A4 (A8 (A1 (mv_ (as_ (A0 (D6 1 5 32) ?_)))))));refine D1 (.range 10) (zp 0 [0,0,0,1,0,0,1,0,0,0,2]) kR kR λ hs=>?_;refine fm_ hs ?_;refine C8 hs E (D7 (1:Int) E E (F7 qD qD qD)) E ?_;refine C8 hs E (qi_ 1 115 5 1 1) E ?_;refine F9 hs E ql_ E ?_;refine fm_ hs ?_;refine C8 hs E (qi_ 0 115 5 1 0) E ?_;refine F9 hs E ql_ E ?_;refine C8 hs E (P6 51 2251799813685248 E E E E qD) E ?_;refine C8 hs E (H2 18446744073709551616 E E E E E E) E ?_;refine C8 hs E (qi_ 1 115 5 1 1) E ?_;refine G1 E E E (E4 E E E kR Cq Cs ?_);refine E3 (D6 1 5 32) (C2 (mv_ ?_));refine A2 (qi_ 0 115 5 1 0) E ?_
 refine A2 ql_ E ?_;refine A2 (N4 51 2251799813685248 E E E E E (by show _ < 18446744073709551616; first | assumption | exact Ad _ qD | omega) qD) E ?_;refine A2 (qi_ 0 115 5 1 0) E ?_;refine A3 E (E4 E E E kR Cq Cs ?_);refine C6 (nb (nx (D2 1 32) (C2 ?_)));refine A2 (D7 (1:Int) E E (F7 qD qD qD)) E ?_;refine mv_ (C6 ?_);refine un (D2 1 32) ?_;refine I4 ?_;refine A1 ?_;refine A2 (F5 true E E (ltT qD)) E ?_;refine A0 (D6 1 32 33) (A4 ?_);refine E1 E ?_;refine A6 (nx (D2 1 32) (A4 (A8 (A1 (mv_ (as_ (A0 (D6 1 5 32) ?_)))))));refine D1 (.range 10) (zp 0 [0,0,0,1,0,0,1,0,0,0,2]) kR kR λ hs=>?_;refine fm_ hs ?_;refine C8 hs E (D7 (2:Int) E E (F7 qD qD qD)) E ?_;refine C8 hs E (qi_ 2 115 5 1 2) E ?_;refine F9 hs E ql_ E ?_;refine fm_ hs ?_;refine C8 hs E (qi_ 1 115 5 1 1) E ?_;refine F9 hs E ql_ E ?_;refine C8 hs E (P6 51 2251799813685248 E E E E qD) E ?_;refine C8 hs E (H2 18446744073709551616 E E E E E E) E ?_;refine C8 hs E (qi_ 2 115 5 1 2) E ?_;refine G1 E E E (E4 E E E kR Cq Cs ?_);refine E3 (D6 1 5 32) (C2 (mv_ ?_));refine A2 (qi_ 1 115 5 1 1) E ?_;refine A2 ql_ E ?_;refine A2 (N4 51 2251799813685248 E E E E E (by show _ < 18446744073709551616; first | assumption | exact Ad _ qD | omega) qD) E ?_;refine A2 (qi_ 1 115 5 1 1) E ?_;refine A3 E (E4 E E E kR Cq Cs ?_);refine C6 (nb (nx (D2 1 32) (C2 ?_)));refine A2 (D7 (2:Int) E E (F7 qD qD qD)) E ?_;refine mv_ (C6 ?_);refine un (D2 1 32) ?_;refine I4 ?_;refine A1 ?_;refine A2 (F5 true E E (ltT qD)) E ?_;refine A0 (D6 1 32 33) (A4 ?_);refine E1 E ?_;refine A6 (nx (D2 1 32) (A4 (A8 (A1 (mv_ (as_ (A0 (D6 1 5 32) ?_)))))));refine D1 (.range 10) (zp 0 [0,0,0,1,0,0,1,0,0,0,2]) kR kR λ hs=>?_;refine fm_ hs ?_;refine C8 hs E (D7 (3:Int) E E (F7 qD qD qD)) E ?_;refine C8 hs E (qi_ 3 115 5 1 3) E ?_;refine F9 hs E ql_ E ?_;refine fm_ hs ?_;refine C8 hs E (qi_ 2 115 5 1 2) E ?_;refine F9 hs E ql_ E ?_;refine C8 hs E (P6 51 2251799813685248 E E E E qD) E ?_;refine C8 hs E (H2 18446744073709551616 E E E E E E) E ?_;refine C8 hs E (qi_ 3 115 5 1 3) E ?_;refine G1 E E E (E4 E E E kR Cq Cs ?_);refine E3 (D6 1 5 32) (C2 (mv_ ?_));refine A2 (qi_ 2 115 5 1 2) E ?_;refine A2 ql_ E ?_;refine A2 (N4 51 2251799813685248 E E E E E (by show _ < 18446744073709551616; first | assumption | exact Ad _ qD | omega) qD) E ?_;refine A2 (qi_ 2 115 5 1 2) E ?_;refine A3 E (E4 E E E kR Cq Cs ?_);refine C6 (nb (nx (D2 1 32) (C2 ?_)));refine A2 (D7 (3:Int) E E (F7 qD qD qD)) E ?_;refine mv_ (C6 ?_);refine un (D2 1 32) ?_;refine I4 ?_;refine A1 ?_;refine A2 (F5 true E E (ltT qD)) E ?_;refine A0 (D6 1 32 33) (A4 ?_);refine E1 E ?_;refine A6 (nx (D2 1 32) (A4 (A8 (A1 (mv_ (as_ (A0 (D6 1 5 32) ?_)))))));refine D1 (.range 10) (zp 0 [0,0,0,1,0,0,1,0,0,0,2]) kR kR λ hs=>?_;refine fm_ hs ?_;refine C8 hs E (D7 (4:Int) E E (F7 qD qD qD)) E ?_;refine C8 hs E (qi_ 4 115 5 1 4) E ?_;refine F9 hs E ql_ E ?_;refine fm_ hs ?_;refine C8 hs E (qi_ 3 115 5 1 3) E ?_;refine F9 hs E ql_ E ?_;refine C8 hs E (P6 51 2251799813685248 E E E E qD) E ?_;refine C8 hs E (H2 18446744073709551616 E E E E E E) E ?_;refine C8 hs E (qi_ 4 115 5 1 4) E ?_;refine G1 E E E (E4 E E E kR Cq Cs ?_);refine E3 (D6 1 5 32) (C2 (mv_ ?_));refine A2 (qi_ 3 115 5 1 3) E ?_;refine A2 ql_ E ?_;refine A2 (N4 51 2251799813685248 E E E E E (by show _ < 18446744073709551616; first | assumption | exact Ad _ qD | omega) qD) E ?_;refine A2 (qi_ 3 115 5 1 3) E ?_;refine A3 E (E4 E E E kR Cq Cs ?_);refine C6 (nb (nx (D2 1 32) (C2 ?_)))
 refine A2 (D7 (4:Int) E E (F7 qD qD qD)) E ?_;refine mv_ (C6 ?_);refine un (D2 1 32) ?_;refine I4 ?_;refine A1 ?_;refine A2 (F5 false E E (ltF qD)) E ?_;refine A0 (D6 1 32 33) (A4 ?_);refine C9 E ?_;refine D9 (te (ue (be E (nx (D5 1) (A1 ?_)))));refine A2 (qi_ 4 115 5 1 4) E ?_;refine A2 ql_ E ?_;refine A2 (N4 51 2251799813685248 E E E E E (by show _ < 18446744073709551616; first | assumption | exact Ad _ qD | omega) qD) E ?_;refine A2 (qi_ 4 115 5 1 4) E ?_;refine A3 E (E4 E E E kR Cq Cs ?_);refine A0 (D5 1) (A1 ?_);refine A3 E (A0F (e:=5) (k:=.u8) (by_:=1) 32 E E kR E E qD qD E λ b55=>?_);obtain ⟨f0,f1,f2,f3,f4,g0,g1,g2,g3,g4,k0,k1,k2,k3,k4,hF⟩:=B1G ha5 hb5 hc5 hd5 hz5 hq;rw [<- g0,<- g1,<- g2,<- g3,<- g4];clear g0 g1 g2 g3 g4;rw [hx5] at hF;refine as_ (A0 (D2 1 6) (A4 (A1 (mv_ (A0 (D6 1 6 56) (A8 ?_))))));refine A0H (M':=[(b55,blk (nums .u8 (A0Q 8 32 (fv f0 f1 f2 f3 f4) 0)) 5),(b1,blk (nums .u64 [f0,f1,f2,f3,f4]) 191)]) (Ce (by rw [A38]; rfl)) qI ?_;have hN:=C1s k0 k1 k2 k3 k4;have hfl:[f0,f1,f2,f3,f4].length=5:=rfl;have hfb:∀ x∈[f0,f1,f2,f3,f4],x < 2251799813685248:=by intro x hx; simp only [List.mem_cons,List.not_mem_nil,or_false] at hx; rcases hx with rfl | rfl | rfl | rfl | rfl <;> assumption
 generalize [f0,f1,f2,f3,f4]=fs at *;rw [<- hF];generalize fv f0 f1 f2 f3 f4=X at *;refine E5 (α:=Nat) (λ i=>[(1,(vP b1)),(6,.slice (some ⟨b55,0,none⟩) 32 32),(56,.int .i64 (i:Int))]) (λ i=>[(b55,blk (nums .u8 (A0Q 8 32 X i)) 5),(b1,blk (nums .u64 fs) 191)]) (λ _=>[]) (λ i=>i<=255) (λ i=>255 - i) 0 qD (D6 1 6 56) .rfl qI ?_;rintro i hi;refine A1 ?_;refine A2 (F0 E E E) E ?_;refine A0 (D8 1 6 56 57) (A4 ?_);refine C4 E ?_ ?_ <;> intro hc
 .
  have hlt:i < 255:=by simp at hc; omega
  have hbit:=hN i hlt;rw [<- Bz] at hbit;have hb2:X / 2 ^ i % 2 < 2:=Ad _ qD;have hps:=A39 (w:=8) (n:=32) (N:=X) (i:=i) qD qO;have hpg:=A2F (w:=8) (n:=32) (N:=X) (i:=i) (j:=i / 8) qO;have hpl:=A8V 8 X i (i / 8);have hsm:=A4a (w:=8) hb2 (Ad i (by decide:0 < 8));have hpb:fs.getD (i / 51) 0 < 2251799813685248:=getD_lt hfb qD;have hsr:=Nat.shiftRight_le (fs.getD (i / 51) 0) (i % 51);rw [<- hpg] at hps hpl;generalize X / 2 ^ i % 2=bt at *;have hmo:bt <<< (i % 8) % 2 ^ IntKind.u8.bits=bt <<< (i % 8):=Af hsm;have hto:IntKind.u8.wrap (bt:Int)=(bt:Int):=by rw [C0M,Af qO]
  refine A6 (nx (D6 1 6 56) (A4 (A8 (A1 (mv_ (as_ (A0 (D8 1 6 7 56) ?_)))))));refine H7 (.range 19) (zp 0 [0,0,0,0,1,0,0,0,1,0,0,0,0,0,0,0,0,0,0,2]) kR kR λ hs=>?_;refine fm_ hs ?_;refine fm_ hs ?_;refine C8 hs E (A1f 8 E E E qD (A2j qO)) E ?_;refine C8 hs E (L8 (e:=5) (sz:=1) (i:=i / 8) E E kR kR E qO) E ?_;refine F9 hs E (I6 (i / 8) E kR Cc qO (by rw [P9]; omega)) E ?_;refine fm_ hs ?_;refine C8 hs E (A1f 51 E E E qD (A2j qO)) E ?_;refine C8 hs E (G2 (e:=115) (n:=5) (sz:=1) (i:=i / 51) E E kR kR E qO) E ?_;refine F9 hs E (I6 (i / 51) E kR Cc qO qO) E ?_;refine fm_ hs ?_;refine C8 hs E (A1g 51 E E E qD) E ?_;refine C8 hs E (T7 (i % 51) E E E (by show _<=64; omega)) E ?_;refine C8 hs E (hbit▸N4 1 2 E E E E E (by show _ < 18446744073709551616; omega) qD) E ?_;refine C8 hs E (K6 bt E kR hto) E ?_;refine fm_ hs ?_;refine C8 hs E (A1g 8 E E E qD) E ?_;refine C8 hs E (hmo▸A25 E (i % 8) E E E (by show _<=8; omega)) E ?_;refine C8 hs E (B4A E E E hpl hsm) E ?_;refine C8 hs E (L8 (e:=5) (sz:=1) (i:=i / 8) E E kR kR E qO) E ?_;refine G1 E E E (K8 (i / 8) E E kR qO (by rw [P9]; omega) Cs ?_);refine R9 (nb (nx (D6 1 6 56) (C2 ?_)));refine A2 (D7 ((i+1:Nat):Int) E E (F7 qO qO qO)) E ?_;refine mv_ (C6 ?_);exact rn (i+1) qO qO (D6 1 6 56) (Ce (by rw [hps])) qI
 .
  have hlt:i=255:=by simp at hc; omega
  subst hlt;refine D9 (te (re (be E (nx (D5 6) (A1 (mv_ (as_ (A0 (D5 2) ?_))))))));refine C0 ?_;exact ⟨_,[_],[],I0 E E,List.Sublist.cons_cons _ (Aa _),by simp,E,Sl.fresh (by rw [nums_len,P9]) qD⟩

variable{x:Nat}
theorem B5z{y:Nat}(hx:x < p25)(hy:y < p25):((txt (A0Q 8 32 x 255)).toList == (txt (A0Q 8 32 y 255)).toList)=decide (x=y):=by
  by_cases h:x=y
  . subst h; simp
  . have:(txt (A0Q 8 32 x 255)).toList≠(txt (A0Q 8 32 y 255)).toList:=by rw [ByteArray.toList_eq,ByteArray.toList_eq];intro e;refine h (B5y hx hy (A7I (A0X x 255) (A0X y 255) ?_));have:=congrArg List.toArray e;simp only [Array.toArray_toList] at this;unfold txt at this ⊢;exact congrArg ByteArray.mk this
    rw [beq_false_of_ne this]; simp [h]
theorem A0N(v u:Value)(x y:Nat)(hx:Fe v x)(hy:Fe u y)(A:Mem):FnV Tryz.prog 167 [v,u] A (.bool (decide (x=y))):=by have hx0:=hx;have hxl:=hx.lt;obtain ⟨a,b,c,d,e,rfl,-⟩:=hx;have hy0:=hy;have hyl:=hy.lt;obtain ⟨a2,b2,c2,d2,e2,rfl,-⟩:=hy;refine Ck (N:=12) Tryz.func167 E E E λ w=>?_;refine A9 (D2 0 1) (A1 ?_);refine A3 E (bx_ λ b2=>?_);refine A3 E (bx_ λ b3=>?_);refine as_ (A0 (D2 2 3) ?_);refine D1 (.range 8) [(0,1),(3,1),(1,2),(2,1),(4,2),(5,1),(6,0),(7,0)] kR kR λ hs=>?_;refine F9 hs E (qw_ 5) E ?_;refine F9 hs E (qw_ 5) E ?_;refine G9 E (aS E a0) kR (A0t _ _ hx0 _) E ?_;rintro r1 M1 J1 ⟨rfl,h1⟩;refine F9 hs E (A3M (h1.rd λ _ h=>by simp [h]) E kR) E ?_;refine G9 E (aS E a0) kR (A0t _ _ hy0 _) E ?_;rintro r2 M2 J2 ⟨rfl,h2⟩;refine F9 hs E (A3M (h2.rd λ _ h=>by simp [h]) E kR) E ?_;refine C8 hs E (A7A E E) E ?_;refine fa_ hs ?_;refine E3 (D5 4) (C0 ?_);refine ⟨_,[],[],I0 E E,Aa _,by simp,by rw [B5z hxl hyl],E,E⟩
theorem A9Y(v:Value)(x:Nat)(hx:Fe v x)(A:Mem):FnV Tryz.prog 183 [v] A (.bool (decide (x=0))):=by have hx0:=hx;have hxl:=hx.lt;obtain ⟨a,b,c,d,e,rfl,-⟩:=hx;refine Ck (N:=6) Tryz.func183 E E E λ w=>?_;refine A9 (D5 0) (A1 ?_);refine A3 E (bx_ λ b1=>?_);refine as_ (A0 (D5 1) (A1 ?_));refine A2 (qw_ 5) E ?_;refine A2 (F1 (place:=λ i=>some (i * 1,1)) (z:=[C1,C1,C1,C1,C1]) (λ _=>by kernel_rfl) e0 bd0) E ?_;refine E6 (aS E (aS E a0)) kR (A0N _ _ _ _ hx0 L4 _) E ?_;refine as_ (A0 (D5 2) (C0 ?_));refine ⟨_,[],[],I0 E E,Aa _,by simp,E,E,E⟩
theorem A4b(v:Value)(x:Nat)(hx:Fe v x)(A:Mem):FnV Tryz.prog 152 [v] A (.bool (decide (x % 2=1))):=by
 have hx0:=hx;have hxl:=hx.lt;obtain ⟨a,b,c,d,e,rfl,-⟩:=hx;refine Ck (N:=9) Tryz.func152 E E E λ w=>?_;refine A9 (D5 0) (A1 ?_);refine A3 E (bx_ λ b1=>?_);refine as_ (A0 (D5 1) (A1 ?_));refine A2 (qw_ 5) E ?_;refine C7 (aS E a0) kR (A0t _ _ hx0 _) E ?_;rintro r1 M1 J1 ⟨rfl,h1⟩;refine A2 (B4E (h1.rd λ _ h=>h) E E kR 0 E qD) E ?_;refine A2 (A4P (h1.rd λ _ h=>by simp [h]) E kR qD) E ?_;refine A2 (N4 1 2 E E E E E (getD_lt (A0X x 255) qD) qD) E ?_;refine A2 (F0 E E E) E ?_;refine as_ (A0 (D5 2) (C0 ?_));refine ⟨_,[],[],I0 E E,Aa _,by simp,?_,E,E⟩;rw [A2F qD,prt];simp only [Nat.reducePow,Nat.reduceMul,Nat.div_one];congr 1;unfold p25 at hxl;have e:x % 57896044618658097711785492504343953926634992332820282019728792003956564819968 % 256 % 2=x % 2:=by omega
 rw [e];rcases Nat.mod_two_eq_zero_or_one x with h | h <;> rw [h] <;> rfl

def pwE(x N i:Nat):Nat:=x ^ (N / 2 ^ i) % p25
theorem B5A(x N i:Nat):pwE x N i=(if N / 2 ^ i % 2=1 then pwE x N (i+1) * pwE x N (i+1) % p25 * (x % p25) % p25 else pwE x N (i+1) * pwE x N (i+1) % p25):=by
  have h:N / 2 ^ i=2 * (N / 2 ^ (i+1))+N / 2 ^ i % 2:=by rw [Nat.pow_succ,<- Bu]; omega
  unfold pwE;have hb:N / 2 ^ i % 2=0∨N / 2 ^ i % 2=1:=by omega
  rcases hb with hb | hb
  . rw [if_neg qO]
    conv=>lhs; rw [h,hb,Nat.add_zero,Nat.two_mul,Nat.pow_add,Nat.mul_mod]
  . rw [if_pos hb]
    conv=>lhs; rw [h,hb,Nat.two_mul,Nat.pow_add,Nat.pow_add,Nat.pow_one,Nat.mul_mod,Nat.mul_mod (x ^ _)]
theorem A17(v:Value)(x:Nat)(hx:Fe v x)(es:LN)(hes:es.length=32)(he256:∀ y∈es,y < 256)(A:Mem):FnX Tryz.prog 148 [v,.agg (nums .u8 es).toArray] [] A λ r M J=>M=[]∧J=[]∧Fe r (x ^ bv es % p25):=by
 have hx0:=hx;have hxl:=hx.lt;obtain ⟨a,b,c,d,e,rfl,-⟩:=hx;refine Ck (N:=27) Tryz.func148 E E E λ w=>?_;refine A9 (D2 0 1) (A1 ?_);refine A3 E (bx_ λ b2=>?_);refine A3 E (bx_ λ b3=>?_);refine A3 E (C3 (cs:=[C1,C1,C1,C1,C1]) kR E λ b4=>?_);refine A0 (D6 2 3 4) (A1 ?_);refine C7 (aS E a0) kR (A37 1 qD _) E ?_;rintro r1 M1 J1 ⟨rfl,rfl,hr1⟩;have hr10:=hr1;obtain ⟨o0,o1,o2,o3,o4,rfl,-⟩:=hr1;refine A3 E (C3 (cs:=[C1,C1,C1,C1,C1]) kR E λ b5=>?_);refine A3 E (A7 E E Cd kR ln5 al5 Cs ?_);refine A0 (D8 2 3 4 5) (A4 (A1 (as_ (A0 (E8 2 3 4 5 6) (A8 ?_)))));refine E5 (α:=Nat×Nat×Nat×Nat×Nat×Nat) (λ y=>[(2,(vP b2)),(3,(vP b3)),(4,(vP b4)),(5,(vP b5)),(6,.int .i64 ((y.1:Int) - 1))]) (λ y=>[(b5,blk [.int .u64 (y.2.1:Int),.int .u64 (y.2.2.1:Int),.int .u64 (y.2.2.2.1:Int),.int .u64 (y.2.2.2.2.1:Int),.int .u64 (y.2.2.2.2.2:Int)] 191),(b4,blk [.int .u64 0,.int .u64 0,.int .u64 0,.int .u64 0,.int .u64 0] 191),(b3,blk (nums .u8 es) 188),(b2,blk [.int .u64 (a:Int),.int .u64 (b:Int),.int .u64 (c:Int),.int .u64 (d:Int),.int .u64 (e:Int)] 191)]) (λ _=>[]) (λ y=>y.1<=256∧Fe (el y.2.1 y.2.2.1 y.2.2.2.1 y.2.2.2.2.1 y.2.2.2.2.2) (pwE x (bv es) y.1)) (λ y=>y.1) (256,o0,o1,o2,o3,o4) ⟨Av _,by rw [show pwE x (bv es) 256=1 by unfold pwE; rw [Nat.div_eq_of_lt (by have:=C1x he256; rw [hes] at this; exact this)]; rfl]; exact hr10⟩ (E8 2 3 4 5 6) .rfl qI ?_;rintro ⟨j,o0,o1,o2,o3,o4⟩ ⟨hj,ho⟩;dsimp only at hj ho ⊢;refine A4 (A1 (mv_ ?_));refine A2 (F0 E E E) E ?_;refine A0 (H1 2 3 4 5 6 9) ?_;refine C4 E ?_ ?_ <;> intro hc
 .
  have hj0:0 < j:=by simp at hc; omega
  obtain ⟨i,rfl⟩:∃ i,j=i+1:=⟨j - 1,by omega⟩
  have ei:((i+1:Nat):Int) - 1=(i:Int):=by omega
  rw [ei];have hps:=B5A x (bv es) i;have hbit:=A62 he256 i;rw [<- Bz] at hbit;have hpb:es.getD (i / 8) 0 < 256:=getD_lt he256 qD;have hsr:=Nat.shiftRight_le (es.getD (i / 8) 0) (i % 8);have hbt:bv es / 2 ^ i % 2 < 2:=Ad _ qD;generalize bv es / 2 ^ i % 2=bt at *;refine A6 (nx (E8 2 3 4 5 6) (A4 (A8 (A1 ?_))));refine A2 (qw_ 5) E ?_;refine C7 (aS E a0) kR (A0C _ _ ho _) E ?_;rintro r2 M2 J2 ⟨rfl,rfl,hr2⟩;have hr20:=hr2;obtain ⟨s0,s1,s2,s3,s4,rfl,-⟩:=hr2;refine A3 E (A7 E E Cd kR ln5 al5 Cs ?_);refine A0 (E8 2 3 4 5 6) (A1 (mv_ ?_));refine A2 (A1f 8 E E E qD (A2j qO)) E ?_;refine A2 (G2 (e:=5) (n:=32) (sz:=1) (i:=i / 8) E E kR kR E qO) E ?_;refine A2 (I6 (i / 8) E kR Cc qO qO) E ?_;refine mv_ ?_;refine A2 (A1g 8 E E E qD) E ?_;refine A2 (T7 (i % 8) E E E (by show _<=8; omega)) E ?_;refine A2 (hbit▸N4 1 2 E E E E E (by show _ < 256; omega) qD) E ?_;refine A2 (F0 E E E) E ?_;refine A0 (H1 2 3 4 5 6 22) ?_;refine C4 E ?_ ?_ <;> intro hc
  .
   have hb1:bt=1:=by simp at hc; omega
   rw [if_pos hb1] at hps;refine C2 ?_;refine A2 (qw_ 5) E ?_;refine A2 (qw_ 5) E ?_;refine C7 (aS E (aS E a0)) kR (A2E _ _ _ _ hr20 hx0 _) E ?_;rintro r3 M3 J3 ⟨rfl,rfl,hr3⟩;rw [Af hxl] at hps;rw [<- hps] at hr3;have hr30:=hr3;obtain ⟨t0,t1,t2,t3,t4,rfl,-⟩:=hr3;refine A3 E (A7 E E Cd kR ln5 al5 Cs ?_);refine C6 (nb (nx (E8 2 3 4 5 6) (C2 (mv_ ?_))));refine A2 (D7 ((i:Int) - 1) E E (W5 E qO qO)) E ?_;refine as_ (C6 ?_);exact rn (i,t0,t1,t2,t3,t4) ⟨by dsimp only; omega,hr30⟩ (by dsimp only; omega) (E8 2 3 4 5 6) .rfl qI
  .
   have hb1:¬ bt=1:=by simp at hc; omega
   rw [if_neg hb1] at hps;refine A6 (nb (nx (E8 2 3 4 5 6) (C2 (mv_ ?_))));refine A2 (D7 ((i:Int) - 1) E E (W5 E qO qO)) E ?_;refine as_ (C6 ?_);exact rn (i,s0,s1,s2,s3,s4) ⟨by dsimp only; omega,by dsimp only; rw [hps]; exact hr20⟩ (by dsimp only; omega) (E8 2 3 4 5 6) .rfl qI
 .
  have hj0:j=0:=by simp at hc; omega
  subst hj0;refine D9 (te (re (be E (nx (D2 4 5) (A1 ?_)))));refine A2 (qw_ 5) E ?_;refine A3 E (A7 E E Cd kR ln5 al5 Cs ?_);refine A0 (D5 4) (C0 ?_);refine ⟨_,[],[],A00 E E kR Cc qR,Aa _,by simp,E,E,?_⟩;have:pwE x (bv es) 0=x ^ bv es % p25:=by unfold pwE; rw [Nat.pow_zero,Nat.div_one]
  rw [<- this]; exact ho

variable{n:Nat}
theorem B5B{i:Nat}(h:i < n):(2 ^ n - 1) / 2 ^ i % 2=1:=by have:=Nat.testBit_two_pow_sub_one n i;rw [Nat.testBit_eq_decide_div_mod_eq] at this;simpa [h] using this
theorem B1N(h:8<=n):(A0Q 8 32 (2 ^ n - 1) n).getD 0 0=255:=by
  rw [A2F qD,prt,Nat.mul_zero,Nat.pow_zero,Nat.div_one]
  obtain ⟨m,rfl⟩:∃ m,n=m+8:=⟨n - 8,by omega⟩
  have h1:=Bx m;have e:(2 ^ (m+8) - 1) % 2 ^ (m+8)=2 ^ (m+8) - 1:=Af (Nat.sub_lt (Bx _) qD);rw [e,Nat.pow_add];simp only [Nat.reducePow];omega
theorem B8S{p:LN}(x:Nat)(h:0 < p.length):bv (p.set 0 x)+p.getD 0 0=bv p+x:=by
  cases p with
  | nil=>simp at h
  | cons b r=>simp [bv]; omega
theorem B1O(N n:Nat)(h:n<=256):bv (A0Q 8 32 N n)=N % 2 ^ n:=by unfold A0Q prt;rw [A2G,Af];exact Bp (Ad _ (Bx _)) (Bq qD qO)
theorem A4c(n d:Nat)(hn:8<=n)(hn2:n<=256)(hd:1 < d)(hd2:d<=256)(A:Mem):FnX Tryz.prog 149 [.int .i64 (n:Int),.int .u16 (d:Int)] [] A λ r M J=>M=[]∧J=[]∧∃ es:LN,r=.agg (nums .u8 es).toArray∧es.length=32∧(∀ y∈es,y < 256)∧bv es=2 ^ n - d:=by
  refine Ck (N:=47) Tryz.func149 E E E λ w=>?_;refine A9 (D2 0 1) (A1 ?_);refine A3 E (C3 (cs:=[zu8,zu8,zu8,zu8,zu8,zu8,zu8,zu8,zu8,zu8,zu8,zu8,zu8,zu8,zu8,zu8,zu8,zu8,zu8,zu8,zu8,zu8,zu8,zu8,zu8,zu8,zu8,zu8,zu8,zu8,zu8,zu8]) kR E λ b4=>?_);refine A0 (D6 0 1 4) (A1 ?_);refine A3 E (C3 (cs:=[zu8,zu8,zu8,zu8,zu8,zu8,zu8,zu8,zu8,zu8,zu8,zu8,zu8,zu8,zu8,zu8,zu8,zu8,zu8,zu8,zu8,zu8,zu8,zu8,zu8,zu8,zu8,zu8,zu8,zu8,zu8,zu8]) kR E λ b5=>?_);refine A0 (D8 0 1 4 5) (A4 (A1 (mv_ (mv_ (A0 (E8 1 4 5 9 10) (A8 ?_))))));refine A0H (M':=[(b5,blk (nums .u8 (A0Q 8 32 (2 ^ n - 1) 0)) 188),(b4,blk [.int .u8 0,.int .u8 0,.int .u8 0,.int .u8 0,.int .u8 0,.int .u8 0,.int .u8 0,.int .u8 0,.int .u8 0,.int .u8 0,.int .u8 0,.int .u8 0,.int .u8 0,.int .u8 0,.int .u8 0,.int .u8 0,.int .u8 0,.int .u8 0,.int .u8 0,.int .u8 0,.int .u8 0,.int .u8 0,.int .u8 0,.int .u8 0,.int .u8 0,.int .u8 0,.int .u8 0,.int .u8 0,.int .u8 0,.int .u8 0,.int .u8 0,.int .u8 0] 188)]) (Ce (by rw [A38]; rfl)) qI ?_;refine E5 (α:=Nat) (λ i=>[(1,.int .u16 (d:Int)),(4,(vP b4)),(5,(vP b5)),(9,.int .i64 (n:Int)),(10,.int .i64 (i:Int))]) (λ i=>[(b5,blk (nums .u8 (A0Q 8 32 (2 ^ n - 1) i)) 188),(b4,blk [.int .u8 0,.int .u8 0,.int .u8 0,.int .u8 0,.int .u8 0,.int .u8 0,.int .u8 0,.int .u8 0,.int .u8 0,.int .u8 0,.int .u8 0,.int .u8 0,.int .u8 0,.int .u8 0,.int .u8 0,.int .u8 0,.int .u8 0,.int .u8 0,.int .u8 0,.int .u8 0,.int .u8 0,.int .u8 0,.int .u8 0,.int .u8 0,.int .u8 0,.int .u8 0,.int .u8 0,.int .u8 0,.int .u8 0,.int .u8 0,.int .u8 0,.int .u8 0] 188)]) (λ _=>[]) (λ i=>i<=n) (λ i=>n - i) 0 (Am _) (E8 1 4 5 9 10) .rfl qI ?_;rintro i hi;refine A1 ?_;refine A2 (F0 E E E) E ?_;refine A0 (H1 1 4 5 9 10 11) (A4 ?_);refine C4 E ?_ ?_ <;> intro hc
  .
    have hlt:i < n:=by simp at hc; omega
    have hps:=A39 (w:=8) (n:=32) (N:=2 ^ n - 1) (i:=i) qD qO;have hpg:=A2F (w:=8) (n:=32) (N:=2 ^ n - 1) (i:=i) (j:=i / 8) qO;have hpl:=A8V 8 (2 ^ n - 1) i (i / 8);rw [B5B hlt] at hps;rw [<- hpg] at hps hpl;have hsm:=A4a (b:=1) (w:=8) qD (Ad i (by decide:0 < 8));have hmo:1 <<< (i % 8) % 2 ^ IntKind.u8.bits=1 <<< (i % 8):=Af hsm;refine A6 (nx (E8 1 4 5 9 10) (A4 (A8 (A1 (mv_ (as_ (A0 (H1 1 4 5 6 9 10) ?_)))))));refine H7 (.range 9) (zp 0 [0,0,0,1,0,0,0,0,0,2]) kR kR λ hs=>?_;refine fm_ hs ?_;refine C8 hs E (A1f 8 E E E qD (A2j qO)) E ?_;refine C8 hs E (G2 (e:=5) (n:=32) (sz:=1) (i:=i / 8) E E kR kR E qO) E ?_;refine F9 hs E (I6 (i / 8) E kR Cc qO (by rw [P9]; omega)) E ?_;refine fm_ hs ?_;refine C8 hs E (A1g 8 E E E qD) E ?_;refine C8 hs E (hmo▸A25 (a:=1) E (i % 8) E E E (by show _<=8; omega)) E ?_;refine C8 hs E (B4A E E E hpl hsm) E ?_;refine C8 hs E (G2 (e:=5) (n:=32) (sz:=1) (i:=i / 8) E E kR kR E qO) E ?_;refine G1 E E E (K8 (i / 8) E E kR qO (by rw [P9]; omega) Cs ?_);refine R9 (nb (nx (E8 1 4 5 9 10) (C2 ?_)));refine A2 (D7 ((i+1:Nat):Int) E E (F7 qO qO qO)) E ?_;refine mv_ (C6 ?_);exact rn (i+1) qO qO (E8 1 4 5 9 10) (Ce (by rw [hps])) qI
  .
    have hlt:i=n:=by simp at hc; omega
    subst hlt;refine D9 (te (re (be E (nx (D6 1 4 5) ?_))));have hhd:=B1N (n:=i) qO;have hbn:=B1O (2 ^ i - 1) i qO;have hpl:=P9 8 32 (2 ^ i - 1) i;have hpw:256<=2 ^ i:=(show 256=2 ^ 8 from rfl)▸Bq qD qO;refine A1 (mv_ ?_);refine A2 (B7c 65536 (b:=1) E E E E E E qO qO) E ?_;refine as_ (A0 (D6 1 4 5) (A4 (A1 (as_ (A0 (D8 1 4 5 7) (A8 ?_))))));refine Y0 3 ?_;refine I4 ?_;refine A4 (A1 (mv_ ?_));refine A2 (F5 true E E (gtT qO)) E ?_;refine A0 (E8 1 4 5 7 26) ?_;refine E1 E ?_;refine A6 (nx (D8 1 4 5 7) (A4 (A8 (A1 (mv_ ?_)))));refine A2 (qi_ 0 5 32 1 0) E ?_;refine A2 (hhd▸I6 0 E kR Cc E qO) E ?_;refine A2 (K6 (k':=.u16) 255 E kR qD) E ?_;refine mv_ ?_;refine A2 (N4 8 256 E E E E E (by show _ < 65536; first | assumption | exact Ad _ qD | omega) qD) E ?_;refine A2 (B7c 65536 (a:=255) E E E E E E qD qO) E ?_;refine as_ (A0 (E8 1 4 5 7 8) (A1 (mv_ (mv_ ?_))));refine A2 (A04 E kR) E ?_;refine A2 (qi_ 0 5 32 1 0) E ?_;refine A3 E (K8 0 E E kR E qO Cs ?_);refine A0 (E8 1 4 5 7 8) (A1 (mv_ ?_));refine A2 (P6 8 256 E E E E qD) E ?_;refine as_ (A0 (E8 1 4 5 7 8) (A1 (mv_ ?_)));refine A2 (F5 false E E (gtF qO)) E ?_;refine A0 (E8 1 4 5 7 43) ?_;refine C9 E ?_;refine A6 (nb (nx (D8 1 4 5 7) (C2 (mv_ ?_))));refine A2 (D7 (1:Int) E E (F7 qD qD qD)) E ?_;refine as_ (C6 ?_);refine un (D8 1 4 5 7) ?_;refine I4 ?_;refine A4 (A1 (mv_ ?_));refine A2 (F5 false E E (gtF qO)) E ?_;refine A0 (E8 1 4 5 7 26) ?_;refine C9 E ?_;refine D9 (te (ue (be E (nx (D2 4 5) (A1 ?_)))));refine A2 (H6 (n:=32) (cs:=nums .u8 ((A0Q 8 32 (2 ^ i - 1) i).set 0 ((255 - (d - 1) % 256) % 256))) E kR Cc (by rw [nums_len,Bk,hpl])) E ?_;refine A3 E (A7 (vs:=nums .u8 ((A0Q 8 32 (2 ^ i - 1) i).set 0 ((255 - (d - 1) % 256) % 256))) E E E (by rw [nums_len,Bk,hpl]; kernel_rfl) (by rw [nums_len,Bk,hpl]; rfl) E9 Cs ?_);refine A0 (D5 4) (C0 ?_);refine ⟨_,[],[],A00 E E kR Cc (by rw [nums_len,Bk,hpl]),Aa _,by simp,E,E,_,E,by rw [Bk,hpl],?_,?_⟩
    . intro y hy;rcases Bf hy with h | rfl
      . exact A0X _ _ y h
      . exact Ad _ qD
    . have h0:=B8S (p:=A0Q 8 32 (2 ^ i - 1) i) ((255 - (d - 1) % 256) % 256) qO;rw [hhd,hbn,Af (a:=2 ^ i - 1) qO] at h0;omega
theorem B1P(v:Value)(x:Nat)(hx:Fe v x)(A:Mem):FnX Tryz.prog 113 [v] [] A λ r M J=>M=[]∧J=[]∧∃ n,n+1=p25 - 1∧Fe r (x ^ n % p25):=by
 have hx0:=hx;obtain ⟨a,b,c,d,e,rfl,-⟩:=hx;refine Ck (N:=6) Tryz.func113 E E E λ w=>?_;refine A9 (D5 0) (A1 ?_);refine A3 E (bx_ λ b1=>?_);refine A3 E (C3 (cs:=[C1,C1,C1,C1,C1]) kR E λ b2=>?_);refine A0 (D2 1 2) ?_;refine D1 [0,1,2] [(0,1),(1,2),(2,2),(3,2)] kR kR λ hs=>?_;refine F9 hs E (qw_ 5) E ?_;refine G9 E (aS E (aS E a0)) kR (A4c 255 21 qD qD qD qD _) E ?_;rintro rn1 Mn Jn ⟨rfl,rfl,es,rfl,hel,he256,hbv⟩;refine G9 E (aS E (aS E a0)) kR (A17 _ _ hx0 es hel he256 _) E ?_;rintro r1 M1 J1 ⟨rfl,rfl,hr⟩;have hbv1:bv es+1=p25 - 1:=by rw [hbv]; decide
 have hr0:=hr;obtain ⟨a1,b1,c1,d1,e1,rfl,-⟩:=hr;refine G1 E E E (A7 E E Cd kR ln5 al5 Cs ?_);refine E3 (D5 2) (C0 ?_);exact ⟨_,[],[],A00 E E kR Cc qR,Aa _,by simp,E,E,_,hbv1,hr0⟩
def rtp(x n:Nat):Nat:=x ^ n % p25
def rt1(x:Nat):Nat:=rtp x (2 ^ 252 - 2)
def rt2(x:Nat):Nat:=rt1 x * rtp 2 (2 ^ 253 - 5) % p25
theorem B1Q{m:Nat}(h:n=m):x ^ n % p25=rtp x m:=by subst h; rfl
theorem C1y(h:n=2 ^ 252 - 2):x ^ n % p25=rt1 x:=by unfold rt1; exact B1Q h
def Rt(r:Value)(x:Nat):Prop:=∃ u b,r=.tuple #[u,.bool b]∧((rt1 x * rt1 x % p25=x∧b=true∧Fe u (rt1 x))∨(rt1 x * rt1 x % p25≠x∧rt2 x * rt2 x % p25=x∧b=true∧Fe u (rt2 x))∨(rt1 x * rt1 x % p25≠x∧rt2 x * rt2 x % p25≠x∧b=false∧Fe u 0))
theorem A9Z(v:Value)(x:Nat)(hx:Fe v x)(A:Mem):FnX Tryz.prog 182 [v] [] A λ r M J=>M=[]∧J=[]∧Rt r x:=by
 have hx0:=hx;obtain ⟨a,b,c,d,e,rfl,-⟩:=hx;refine Ck (N:=24) Tryz.func182 E E E λ w=>?_;refine A9 (D5 0) (A1 ?_);refine A3 E (bx_ λ b1=>?_);refine A3 E (C3 (cs:=[C1,C1,C1,C1,C1]) kR E λ b2=>?_);refine as_ (A0 (D2 1 2) ?_);refine D1 [0,1,2,3] (zp 0 [1,3,3,4,2]) kR kR λ hs=>?_;refine F9 hs E (qw_ 5) E ?_
 refine N6 [⟨1,6,λ v B _=>B=[]∧∃ es:LN,v=.agg (nums .u8 es).toArray∧es.length=32∧(∀ y∈es,y < 256)∧bv es=2 ^ 252 - 2⟩,⟨2,7,λ v B _=>B=[]∧Fe v (rt1 x)⟩,⟨3,4,λ v B _=>∃ b,v=(vP b)∧B=[(b,blk [.int .u64 0,.int .u64 0,.int .u64 0,.int .u64 0,.int .u64 0] 191)]⟩]
  gA nd_ nd_ dl_
  (gO ?_ (gO ?_ (gO ?_ (I7)))) ?_
 .
  intros
  refine E2 (aS E (aS E a0)) kR (A4c 252 2 qD qD qD qD _) E ?_;rintro r M1 J1 ⟨rfl,rfl,hh⟩;exact ⟨_,E,E,hh⟩
 . intro _ _ _ _ _ ha;have g1:=gx 0 ha;dsimp only at g1;obtain ⟨-,es,hes,hel,he256,hbv⟩:=g1;refine E2 (aS E (aS (by rw [<- hes]; rfl) a0)) kR (A17 _ _ hx0 es hel he256 _) E ?_;rintro r M1 J1 ⟨rfl,rfl,hh⟩;rw [C1y hbv] at hh;exact ⟨_,E,E,hh⟩
 .
  intros
  exact C3 (cs:=[C1,C1,C1,C1,C1]) kR E λ b=>⟨_,E,b,E,E⟩
 intro vs bs Jn0 hφ;have g1:=gy 0 hφ;have g2:=gy 1 hφ;have g3:=gy 2 hφ;dsimp only at g1 g2 g3;clear hφ;dsimp only [V2,Q6,List.map,List.flatten,List.cons_append,List.nil_append];generalize bs 1=B6,bs 2=B7,bs 3=B4,vs 1=u6,vs 2=u7,vs 3=u4 at *;obtain ⟨rfl,-⟩:=g1;obtain ⟨rfl,hr0⟩:=g2;obtain ⟨b4,rfl,rfl⟩:=g3;have hr:=hr0;obtain ⟨a1,b1,c1,d1,e1,rfl,-⟩:=hr;dsimp only [List.append_eq,List.nil_append,List.cons_append];refine G1 E E E (A7 E E Cd kR ln5 al5 Cs ?_);refine E3 (D6 1 2 4) (A4 ?_);refine D1 [0,1,2,3] [(0,1),(2,1),(1,2),(3,2)] kR kR λ hs=>?_;refine F9 hs E (qw_ 5) E ?_;refine F9 hs E (qw_ 5) E ?_;refine G9 E (aS E a0) kR (A0C _ _ hr0 _) E ?_;rintro r2 M2 J2 ⟨rfl,rfl,hr2⟩;have hr20:=hr2;obtain ⟨a2,b2,c2,d2,e2,rfl,-⟩:=hr2;refine N3 E (aS E (aS E a0)) kR (A0N _ _ _ _ hr20 hx0 _) E ?_;refine E3 (D8 1 2 4 11) ?_;refine C4 E ?_ ?_ <;> intro hc
 .
  have h1:rt1 x * rt1 x % p25=x:=by simpa using hc
  refine A1 ?_;refine A2 (qw_ 5) E ?_;refine A3 E (A7 E E Cd kR ln5 al5 Cs ?_);refine as_ (A0 (D2 2 3) (C0 (tr ?_)));exact ⟨_,[],[],A0k E E E kR Cc qR,Aa _,by simp,E,E,_,_,E,.inl ⟨h1,E,hr0⟩⟩
 .
  have h1:rt1 x * rt1 x % p25≠x:=by simpa using hc
  refine A6 (nx (D6 1 2 4) ?_);refine D1 [0,1,2,3,4] (zp 0 [1,2,2,2,2,2]) kR kR λ hs=>?_;refine F9 hs E (qw_ 5) E ?_;refine G9 E (aS E a0) kR (A37 2 qD _) E ?_;rintro r3 M3 J3 ⟨rfl,rfl,hr3⟩;refine G9 E (aS E (aS E a0)) kR (A4c 253 5 qD qD qD qD _) E ?_;rintro rn2 Mn Jn ⟨rfl,rfl,es,rfl,hel,he256,hbv⟩;refine G9 E (aS E (aS E a0)) kR (A17 _ _ hr3 es hel he256 _) E ?_;rintro r4 M4 J4 ⟨rfl,rfl,hr4⟩;rw [B1Q hbv] at hr4;refine G9 E (aS E (aS E a0)) kR (A2E _ _ _ _ hr0 hr4 _) E ?_;rintro r5 M5 J5 ⟨rfl,rfl,hr5⟩;rw [<- rt2.eq_1] at hr5;have hr50:=hr5;obtain ⟨a5,b5,c5,d5,e5,rfl,-⟩:=hr5;refine G1 E E E (A7 E E Cd kR ln5 al5 Cs ?_);refine E3 (D6 1 2 4) (A4 ?_);refine D1 [0,1,2,3] [(0,1),(2,1),(1,2),(3,2)] kR kR λ hs=>?_;refine F9 hs E (qw_ 5) E ?_;refine F9 hs E (qw_ 5) E ?_;refine G9 E (aS E a0) kR (A0C _ _ hr50 _) E ?_;rintro r6 M6 J6 ⟨rfl,rfl,hr6⟩;have hr60:=hr6;obtain ⟨a6,b6,c6,d6,e6,rfl,-⟩:=hr6;refine N3 E (aS E (aS E a0)) kR (A0N _ _ _ _ hr60 hx0 _) E ?_;refine E3 (D6 2 4 21) ?_;refine C4 E ?_ ?_ <;> intro hc
  .
   have h2:rt2 x * rt2 x % p25=x:=by simpa using hc
   refine A1 ?_;refine A2 (qw_ 5) E ?_;refine A3 E (A7 E E Cd kR ln5 al5 Cs ?_);refine as_ (A0 (D2 2 3) (C0 (tr ?_)));exact ⟨_,[],[],A0k E E E kR Cc qR,Aa _,by simp,E,E,_,_,E,.inr (.inl ⟨h1,h2,E,hr50⟩)⟩
  .
   have h2:rt2 x * rt2 x % p25≠x:=by simpa using hc
   refine A6 (nx (D5 2) (A1 ?_));refine A2 (F1 (place:=λ i=>some (i * 1,1)) (z:=[C1,C1,C1,C1,C1]) (λ _=>by kernel_rfl) e0 bd0) E ?_;refine A3 E (A7 E E Cd kR ln5 al5 Cs ?_);refine as_ (A0 (D2 2 3) (C0 ?_));exact ⟨_,[],[],A0k E E E kR Cc qR,Aa _,by simp,E,E,_,_,E,.inr (.inr ⟨h1,h2,E,L4⟩)⟩

end Go.Proofs.YtjkpfgjfpbihaaaGreatDoor
namespace Go.Px
def pm(N:Nat):Nat->Nat->Nat->Nat->Nat
  | 0,_,_,acc=>acc
  | f+1,b,e,acc=>pm N f (b * b % N) (e / 2) (if e % 2=1 then acc * b % N else acc)
theorem B1R(N:Nat):∀ f b e acc,e < 2 ^ f->acc % N=acc->pm N f b e acc=acc * b ^ e % N
  | 0,b,e,acc,h,ha=>by
    obtain rfl:e=0:=by simpa using h
    rw [pm,Nat.pow_zero,Nat.mul_one,ha]
  | f+1,b,e,acc,h,ha=>by
    rw [pm,B1R N f _ _ _ (by rw [Nat.pow_succ] at h; omega) (by split <;> simp [ha])]
    have e2:b ^ e=(b * b) ^ (e / 2) * b ^ (e % 2):=by rw [<- Nat.pow_two,<- Nat.pow_mul,<- Nat.pow_add,Nat.div_add_mod]
    rw [e2];rcases Nat.mod_two_eq_zero_or_one e with h0 | h0
    . rw [h0,if_neg (by decide),Nat.mul_mod,<- Nat.pow_mod,<- Nat.mul_mod,Nat.pow_zero,Nat.mul_one]
    . rw [h0,if_pos E,Nat.mul_mod,<- Nat.pow_mod,Nat.mod_mod,<- Nat.mul_mod,Nat.pow_one,Nat.mul_assoc,Nat.mul_comm b]
theorem C1z{N:Nat}(hN:2<=N)(f a e:Nat)(h:e < 2 ^ f):a ^ e % N=pm N f a e 1:=by rw [B1R N f a e 1 h (Af (by omega)),Nat.one_mul]
end Go.Px

namespace Go.Proofs.YtjkpfgjfpbihaaaGreatDoor
open Go.Px
def fS(x y:Nat):Nat:=(x+p25 - y) % p25
def fA(x y:Nat):Nat:=(x+y) % p25
def fM(x y:Nat):Nat:=x * y % p25
def fN(x:Nat):Nat:=(p25 - x) % p25
theorem C1A(x:Nat):∃ y,y=rtp x (p25 - 2):=⟨_,E⟩
noncomputable def fI(x:Nat):Nat:=Classical.choose (C1A x)
theorem A5J(x:Nat):fI x=rtp x (p25 - 2):=Classical.choose_spec (C1A x)
variable{v u:Value}{x y:Nat}
theorem A5K(hx:Fe v x)(hy:Fe u y)(A:Mem):FnX Tryz.prog 142 [v,u] [] A λ r M J=>M=[]∧J=[]∧Fe r (fS x y):=A6Z v u x y hx hy A
theorem A4G(hx:Fe v x)(hy:Fe u y)(A:Mem):FnX Tryz.prog 141 [v,u] [] A λ r M J=>M=[]∧J=[]∧Fe r (fA x y):=B1H v u x y hx hy A
theorem U4(hx:Fe v x)(hy:Fe u y)(A:Mem):FnX Tryz.prog 112 [v,u] [] A λ r M J=>M=[]∧J=[]∧Fe r (fM x y):=A2E v u x y hx hy A
theorem C1B(hx:Fe v x)(A:Mem):FnX Tryz.prog 143 [v] [] A λ r M J=>M=[]∧J=[]∧Fe r (fM x x):=A0C v x hx A
theorem B8T(hx:Fe v x)(A:Mem):FnX Tryz.prog 181 [v] [] A λ r M J=>M=[]∧J=[]∧Fe r (fN x):=B1J v x hx A
theorem A06(n:Nat)(hn:n < 4294967296)(A:Mem):FnX Tryz.prog 109 [.int .u32 (n:Int)] [] A λ r M J=>M=[]∧J=[]∧Fe r n:=A37 n hn A
theorem B1S(hx:Fe v x)(A:Mem):FnX Tryz.prog 113 [v] [] A λ r M J=>M=[]∧J=[]∧Fe r (fI x) :=
  (B1P v x hx A).mono λ r M J ⟨h1,h2,n,h3,h4⟩=>⟨h1,h2,by rw [A5J,<- B1Q (show n=p25 - 2 by omega)]; exact h4⟩
structure Pt where
  X:Nat
  Y:Nat
  Z:Nat
  T:Nat
def FeL(xs:LN)(P:Pt):Prop:=∃ x0 x1 x2 x3 x4 x5 x6 x7 x8 x9 x10 x11 x12 x13 x14 x15 x16 x17 x18 x19:Nat,xs=[x0,x1,x2,x3,x4,x5,x6,x7,x8,x9,x10,x11,x12,x13,x14,x15,x16,x17,x18,x19]∧Fe (el x0 x1 x2 x3 x4) P.X∧Fe (el x5 x6 x7 x8 x9) P.Y∧Fe (el x10 x11 x12 x13 x14) P.Z∧Fe (el x15 x16 x17 x18 x19) P.T
def FeP(V:Value)(P:Pt):Prop:=∃ xs,V=.agg (nums .u64 xs).toArray∧FeL xs P
def pO:Pt:=⟨0,1,1,0⟩
def dN:Nat:=37095705934669439343138083508754565189542113879843219016388785533085940283555
def d2N:Nat:=16295367250680780974490674513165176452449235426866156013048779062215315747161
theorem A1S{n:Nat}(h:n < 2 ^ 256):rtp x n=pm p25 256 x n 1:=C1z qD 256 x n h
theorem C3x:fN (fM 121665 (fI 121666))=dN:=by rw [A5J,A1S qD];decide +kernel
theorem C1C:fM 2 dN=d2N:=by decide +kernel
def A7z(d2:Nat)(P Q:Pt):Pt :=
  let a:=fM (fS P.Y P.X) (fS Q.Y Q.X)
  let b:=fM (fA P.Y P.X) (fA Q.Y Q.X)
  let c:=fM (fM P.T d2) Q.T
  let z:=fA (fM P.Z Q.Z) (fM P.Z Q.Z)
  let e:=fS b a
  let f:=fS z c
  let g:=fA z c
  let h:=fA b a
  ⟨fM e f,fM g h,fM f g,fM e h⟩

theorem B5C(A:Mem):FnX Tryz.prog 153 [] [] A λ r M J=>M=[]∧J=[]∧FeP r pO:=by refine Ck (N:=4) Tryz.func153 E E E λ w=>?_;refine A9 kn (A1 ?_);refine A3 E (C3 (cs:=[C1,C1,C1,C1,C1,C1,C1,C1,C1,C1,C1,C1,C1,C1,C1,C1,C1,C1,C1,C1]) kR E λ b0=>?_);refine A0 (D5 0) (A1 ?_);refine C7 (aS E a0) kR (A06 1 qD _) E ?_;rintro r1 M1 J1 ⟨rfl,rfl,k1⟩;have h1:=k1;obtain ⟨a1,b1,c1,d1,e1,rfl,-⟩:=k1;refine C7 (aS E a0) kR (A06 1 qD _) E ?_;rintro r2 M2 J2 ⟨rfl,rfl,k2⟩;have h2:=k2;obtain ⟨a2,b2,c2,d2,e2,rfl,-⟩:=k2;refine A2 (F1 (place:=λ x=>#[(0,5),(5,5),(10,5),(15,5)][x]?) (z:=[C1,C1,C1,C1,C1,C1,C1,C1,C1,C1,C1,C1,C1,C1,C1,C1,C1,C1,C1,C1]) (λ _=>by kernel_rfl) (eS E (eS E e0)) (bdS 5 5 E qR (bdS 10 5 E qR bd0))) E ?_;refine A3 E (A7 E E Cd kR A3s A3t Cs ?_);refine A0 (D5 0) (C0 ?_);exact ⟨_,[],[],A00 E E kR Cc qR,Aa _,by simp,E,E,⟨_,E,_,_,_,_,_,_,_,_,_,_,_,_,_,_,_,_,_,_,_,_,E,L4,h1,h2,L4⟩⟩
theorem A7Q(A:Mem):FnX Tryz.prog 154 [] [] A λ r M J=>M=[]∧J=[]∧Fe r dN:=by refine Ck (N:=6) Tryz.func154 E E E λ w=>?_;refine A9 kn (A1 ?_);refine A3 E (C3 (cs:=[C1,C1,C1,C1,C1]) kR E λ b0=>?_);refine A0 (D5 0) (A1 ?_);refine C7 (aS E a0) kR (A06 121665 qD _) E ?_;rintro r1 M1 J1 ⟨rfl,rfl,k1⟩;have h1:=k1;obtain ⟨a1,b1,c1,d1,e1,rfl,-⟩:=k1;refine C7 (aS E a0) kR (A06 121666 qD _) E ?_;rintro r2 M2 J2 ⟨rfl,rfl,k2⟩;have h2:=k2;obtain ⟨a2,b2,c2,d2,e2,rfl,-⟩:=k2;refine C7 (aS E a0) kR (B1S h2 _) E ?_;rintro r3 M3 J3 ⟨rfl,rfl,k3⟩;have h3:=k3;obtain ⟨a3,b3,c3,d3,e3,rfl,-⟩:=k3;refine C7 (aS E (aS E a0)) kR (U4 h1 h3 _) E ?_;rintro r4 M4 J4 ⟨rfl,rfl,k4⟩;have h4:=k4;obtain ⟨a4,b4,c4,d4,e4,rfl,-⟩:=k4;refine C7 (aS E a0) kR (B8T h4 _) E ?_;rintro r5 M5 J5 ⟨rfl,rfl,k5⟩;rw [C3x] at k5;have h5:=k5;obtain ⟨a5,b5,c5,d5,e5,rfl,-⟩:=k5;refine A3 E (A7 E E Cd kR ln5 al5 Cs ?_);refine A0 (D5 0) (C0 ?_);exact ⟨_,[],[],A00 E E kR Cc qR,Aa _,by simp,E,E,h5⟩
theorem B1T(V W u:Value)(P Q:Pt)(dd:Nat)(hV:FeP V P)(hW:FeP W Q)(hu:Fe u dd)(A:Mem):FnX Tryz.prog 155 [V,W,u] [] A λ r M J=>M=[]∧J=[]∧FeP r (A7z dd P Q):=by
 obtain ⟨xsp,rfl,p0,p1,p2,p3,p4,p5,p6,p7,p8,p9,p10,p11,p12,p13,p14,p15,p16,p17,p18,p19,rfl,hPX,hPY,hPZ,hPT⟩:=hV;dsimp only [nums,List.map];obtain ⟨xsq,rfl,q0,q1,q2,q3,q4,q5,q6,q7,q8,q9,q10,q11,q12,q13,q14,q15,q16,q17,q18,q19,rfl,hQX,hQY,hQZ,hQT⟩:=hW;dsimp only [nums,List.map];have hd:=hu;obtain ⟨ud0,ud1,ud2,ud3,ud4,rfl,-⟩:=hu;refine Ck (N:=77) Tryz.func155 E E E λ w=>?_;refine A9 (D6 0 1 2) (A1 ?_);refine A3 E (bx_ λ b3=>?_);refine A3 E (bx_ λ b4=>?_);refine A3 E (bx_ λ b5=>?_);refine A3 E (C3 (cs:=[C1,C1,C1,C1,C1,C1,C1,C1,C1,C1,C1,C1,C1,C1,C1,C1,C1,C1,C1,C1]) kR E λ b6=>?_);refine A0 (D8 3 4 5 6) ?_;refine D1 (.range 12) [(0,0),(1,1),(2,0),(3,1),(5,0),(6,1),(7,0),(8,1),(4,3),(9,3),(10,3),(11,4),(12,2)] kR kR λ hs=>?_;refine C8 hs E (qf_ 5 5) E ?_;refine F9 hs E (I1 (n:=5) E kR (by first | exact Cc | exact mA (by assumption)) Cr) E ?_;refine C8 hs E (qf_ 0 0) E ?_;refine F9 hs E (I1 (n:=5) E kR (by first | exact Cc | exact mA (by assumption)) Cr) E ?_;refine C8 hs E (qf_ 5 5) E ?_;refine F9 hs E (I1 (n:=5) E kR (by first | exact Cc | exact mA (by assumption)) Cr) E ?_;refine C8 hs E (qf_ 0 0) E ?_;refine F9 hs E (I1 (n:=5) E kR (by first | exact Cc | exact mA (by assumption)) Cr) E ?_
 refine N6 [⟨4,19,λ v B _=>B=[]∧Fe v (fS P.Y P.X)⟩,⟨9,24,λ v B _=>B=[]∧Fe v (fS Q.Y Q.X)⟩,⟨10,25,λ v B _=>B=[]∧Fe v (fM (fS P.Y P.X) (fS Q.Y Q.X))⟩,⟨11,7,λ v B _=>∃ b,v=(vP b)∧B=[(b,blk [.int .u64 0,.int .u64 0,.int .u64 0,.int .u64 0,.int .u64 0] 191)]⟩]
  gA nd_ nd_ dl_
  (gO ?_ (gO ?_ (gO ?_ (gO ?_ (I7))))) ?_
 .
  intros
  refine E2 (aS E (aS E (a0))) kR (A5K hPY hPX _) E ?_;rintro r M1 J1 ⟨rfl,rfl,hh⟩;exact ⟨_,E,E,hh⟩
 .
  intros
  refine E2 (aS E (aS E (a0))) kR (A5K hQY hQX _) E ?_;rintro r M1 J1 ⟨rfl,rfl,hh⟩;exact ⟨_,E,E,hh⟩
 . intro _ _ _ _ _ ha;have g4:=gx 0 ha;dsimp only at g4;have g9:=gx 1 ha;dsimp only at g9;obtain ⟨-,k4⟩:=g4;obtain ⟨-,k9⟩:=g9;refine E2 (aS E (aS E (a0))) kR (U4 k4 k9 _) E ?_;rintro r M1 J1 ⟨rfl,rfl,hh⟩;exact ⟨_,E,E,hh⟩
 .
  intros
  exact C3 (cs:=[C1,C1,C1,C1,C1]) kR E λ b=>⟨_,E,b,E,E⟩
 intro vs bs Jn0 hφ;have g4:=gy 0 hφ;have g9:=gy 1 hφ;have g10:=gy 2 hφ;have g11:=gy 3 hφ;dsimp only at g4 g9 g10 g11;clear hφ;dsimp only [V2,Q6,List.map,List.flatten,List.cons_append,List.nil_append];generalize bs 4=B19,bs 9=B24,bs 10=B25,bs 11=B7,vs 4=u19,vs 9=u24,vs 10=u25,vs 11=u7 at *;obtain ⟨rfl,k4⟩:=g4;have h4:=k4;obtain ⟨a4,b4,c4,d4,e4,rfl,-⟩:=k4;obtain ⟨rfl,k9⟩:=g9;have h9:=k9;obtain ⟨a9,b9,c9,d9,e9,rfl,-⟩:=k9;obtain ⟨rfl,k10⟩:=g10;have h10:=k10;obtain ⟨a10,b10,c10,d10,e10,rfl,-⟩:=k10;obtain ⟨b11,rfl,rfl⟩:=g11;dsimp only [List.append_eq,List.nil_append,List.cons_append];have hfa:=h10;clear h4 h9 h10;refine G1 E E E (A7 E E Cd kR ln5 al5 Cs ?_);refine E3 (E8 3 4 5 6 7) ?_;refine D1 (.range 12) [(0,0),(1,1),(2,0),(3,1),(5,0),(6,1),(7,0),(8,1),(4,3),(9,3),(10,3),(11,4),(12,2)] kR kR λ hs=>?_;refine C8 hs E (qf_ 5 5) E ?_;refine F9 hs E (I1 (n:=5) E kR (by first | exact Cc | exact mA (by assumption)) Cr) E ?_;refine C8 hs E (qf_ 0 0) E ?_;refine F9 hs E (I1 (n:=5) E kR (by first | exact Cc | exact mA (by assumption)) Cr) E ?_;refine C8 hs E (qf_ 5 5) E ?_;refine F9 hs E (I1 (n:=5) E kR (by first | exact Cc | exact mA (by assumption)) Cr) E ?_;refine C8 hs E (qf_ 0 0) E ?_;refine F9 hs E (I1 (n:=5) E kR (by first | exact Cc | exact mA (by assumption)) Cr) E ?_
 refine N6 [⟨4,30,λ v B _=>B=[]∧Fe v (fA P.Y P.X)⟩,⟨9,35,λ v B _=>B=[]∧Fe v (fA Q.Y Q.X)⟩,⟨10,36,λ v B _=>B=[]∧Fe v (fM (fA P.Y P.X) (fA Q.Y Q.X))⟩,⟨11,8,λ v B _=>∃ b,v=(vP b)∧B=[(b,blk [.int .u64 0,.int .u64 0,.int .u64 0,.int .u64 0,.int .u64 0] 191)]⟩]
  gA nd_ nd_ dl_
  (gO ?_ (gO ?_ (gO ?_ (gO ?_ (I7))))) ?_
 .
  intros
  refine E2 (aS E (aS E (a0))) kR (A4G hPY hPX _) E ?_;rintro r M1 J1 ⟨rfl,rfl,hh⟩;exact ⟨_,E,E,hh⟩
 .
  intros
  refine E2 (aS E (aS E (a0))) kR (A4G hQY hQX _) E ?_;rintro r M1 J1 ⟨rfl,rfl,hh⟩;exact ⟨_,E,E,hh⟩
 . intro _ _ _ _ _ ha;have g4:=gx 0 ha;dsimp only at g4;have g9:=gx 1 ha;dsimp only at g9;obtain ⟨-,k4⟩:=g4;obtain ⟨-,k9⟩:=g9;refine E2 (aS E (aS E (a0))) kR (U4 k4 k9 _) E ?_;rintro r M1 J1 ⟨rfl,rfl,hh⟩;exact ⟨_,E,E,hh⟩
 .
  intros
  exact C3 (cs:=[C1,C1,C1,C1,C1]) kR E λ b=>⟨_,E,b,E,E⟩
 intro vs bs Jn0 hφ;have g4:=gy 0 hφ;have g9:=gy 1 hφ;have g10:=gy 2 hφ;have g11:=gy 3 hφ;dsimp only at g4 g9 g10 g11;clear hφ;dsimp only [V2,Q6,List.map,List.flatten,List.cons_append,List.nil_append];generalize bs 4=B30,bs 9=B35,bs 10=B36,bs 11=B8,vs 4=u30,vs 9=u35,vs 10=u36,vs 11=u8 at *;obtain ⟨rfl,k4⟩:=g4;have h4:=k4;obtain ⟨a4,b4,c4,d4,e4,rfl,-⟩:=k4;obtain ⟨rfl,k9⟩:=g9;have h9:=k9;obtain ⟨a9,b9,c9,d9,e9,rfl,-⟩:=k9;obtain ⟨rfl,k10⟩:=g10;have h10:=k10;obtain ⟨a10,b10,c10,d10,e10,rfl,-⟩:=k10;obtain ⟨b11,rfl,rfl⟩:=g11;dsimp only [List.append_eq,List.nil_append,List.cons_append];have hfb:=h10;clear h4 h9 h10;refine G1 E E E (A7 E E Cd kR ln5 al5 Cs ?_);refine E3 (H1 3 4 5 6 7 8) ?_;refine D1 (.range 8) [(0,0),(1,1),(2,1),(4,0),(5,1),(3,3),(6,3),(7,4),(8,2)] kR kR λ hs=>?_;refine C8 hs E (qf_ 15 15) E ?_;refine F9 hs E (I1 (n:=5) E kR (by first | exact Cc | exact mA (by assumption)) Cr) E ?_;refine F9 hs E (qw_ 5) E ?_;refine C8 hs E (qf_ 15 15) E ?_;refine F9 hs E (I1 (n:=5) E kR (by first | exact Cc | exact mA (by assumption)) Cr) E ?_
 refine N6 [⟨3,40,λ v B _=>B=[]∧Fe v (fM P.T dd)⟩,⟨6,43,λ v B _=>B=[]∧Fe v (fM (fM P.T dd) Q.T)⟩,⟨7,9,λ v B _=>∃ b,v=(vP b)∧B=[(b,blk [.int .u64 0,.int .u64 0,.int .u64 0,.int .u64 0,.int .u64 0] 191)]⟩]
  gA nd_ nd_ dl_
  (gO ?_ (gO ?_ (gO ?_ (I7)))) ?_
 .
  intros
  refine E2 (aS E (aS E (a0))) kR (U4 hPT hd _) E ?_;rintro r M1 J1 ⟨rfl,rfl,hh⟩;exact ⟨_,E,E,hh⟩
 . intro _ _ _ _ _ ha;have g3:=gx 0 ha;dsimp only at g3;obtain ⟨-,k3⟩:=g3;refine E2 (aS E (aS E (a0))) kR (U4 k3 hQT _) E ?_;rintro r M1 J1 ⟨rfl,rfl,hh⟩;exact ⟨_,E,E,hh⟩
 .
  intros
  exact C3 (cs:=[C1,C1,C1,C1,C1]) kR E λ b=>⟨_,E,b,E,E⟩
 intro vs bs Jn0 hφ;have g3:=gy 0 hφ;have g6:=gy 1 hφ;have g7:=gy 2 hφ;dsimp only at g3 g6 g7;clear hφ;dsimp only [V2,Q6,List.map,List.flatten,List.cons_append,List.nil_append];generalize bs 3=B40,bs 6=B43,bs 7=B9,vs 3=u40,vs 6=u43,vs 7=u9 at *;obtain ⟨rfl,k3⟩:=g3;have h3:=k3;obtain ⟨a3,b3,c3,d3,e3,rfl,-⟩:=k3;obtain ⟨rfl,k6⟩:=g6;have h6:=k6;obtain ⟨a6,b6,c6,d6,e6,rfl,-⟩:=k6;obtain ⟨b7,rfl,rfl⟩:=g7;dsimp only [List.append_eq,List.nil_append,List.cons_append];have hc:=h6;clear h3 h6;refine G1 E E E (A7 E E Cd kR ln5 al5 Cs ?_);refine E3 (H1 3 4 6 7 8 9) (A1 ?_);refine A2 (qf_ 10 10) E ?_;refine A2 (I1 (n:=5) E kR (by first | exact Cc | exact mA (by assumption)) Cr) E ?_;refine A2 (qf_ 10 10) E ?_;refine A2 (I1 (n:=5) E kR (by first | exact Cc | exact mA (by assumption)) Cr) E ?_;refine C7 (aS E (aS E a0)) kR (U4 hPZ hQZ _) E ?_;rintro r48 M48 J48 ⟨rfl,rfl,k48⟩;have h48:=k48;obtain ⟨a48,b48,c48,d48,e48,rfl,-⟩:=k48;refine A3 E (C3 (cs:=[C1,C1,C1,C1,C1]) kR E λ b10=>?_);refine A3 E (A7 E E Cd kR ln5 al5 Cs ?_);refine A0 (E8 6 7 8 9 10) (A1 ?_);refine A2 (qw_ 5) E ?_;refine A2 (qw_ 5) E ?_;refine C7 (aS E (aS E a0)) kR (A4G h48 h48 _) E ?_;rintro r51 M51 J51 ⟨rfl,rfl,k51⟩;have h51:=k51;obtain ⟨a51,b51,c51,d51,e51,rfl,-⟩:=k51;refine A3 E (A7 E E Cd kR ln5 al5 Cs ?_);refine A0 (E8 6 7 8 9 10) ?_;refine D1 (.range 16) [(0,1),(1,1),(3,1),(4,1),(6,1),(7,1),(9,1),(10,1),(2,3),(5,3),(8,3),(11,3),(12,3),(13,3),(14,3),(15,4),(16,2),(17,2),(18,2),(19,2)] kR kR λ hs=>?_;refine F9 hs E (qw_ 5) E ?_;refine F9 hs E (qw_ 5) E ?_;refine F9 hs E (qw_ 5) E ?_;refine F9 hs E (qw_ 5) E ?_;refine F9 hs E (qw_ 5) E ?_;refine F9 hs E (qw_ 5) E ?_;refine F9 hs E (qw_ 5) E ?_;refine F9 hs E (qw_ 5) E ?_
 refine N6 [⟨2,54,λ v B _=>B=[]∧Fe v (fS (fM (fA P.Y P.X) (fA Q.Y Q.X)) (fM (fS P.Y P.X) (fS Q.Y Q.X)))⟩,⟨5,57,λ v B _=>B=[]∧Fe v (fS (fA (fM P.Z Q.Z) (fM P.Z Q.Z)) (fM (fM P.T dd) Q.T))⟩,⟨8,60,λ v B _=>B=[]∧Fe v (fA (fA (fM P.Z Q.Z) (fM P.Z Q.Z)) (fM (fM P.T dd) Q.T))⟩,⟨11,63,λ v B _=>B=[]∧Fe v (fA (fM (fA P.Y P.X) (fA Q.Y Q.X)) (fM (fS P.Y P.X) (fS Q.Y Q.X)))⟩,⟨12,11,λ v B _=>∃ b,v=(vP b)∧B=[(b,blk [.int .u64 0,.int .u64 0,.int .u64 0,.int .u64 0,.int .u64 0] 191)]⟩,⟨13,12,λ v B _=>∃ b,v=(vP b)∧B=[(b,blk [.int .u64 0,.int .u64 0,.int .u64 0,.int .u64 0,.int .u64 0] 191)]⟩,⟨14,13,λ v B _=>∃ b,v=(vP b)∧B=[(b,blk [.int .u64 0,.int .u64 0,.int .u64 0,.int .u64 0,.int .u64 0] 191)]⟩,⟨15,14,λ v B _=>∃ b,v=(vP b)∧B=[(b,blk [.int .u64 0,.int .u64 0,.int .u64 0,.int .u64 0,.int .u64 0] 191)]⟩]
  gA nd_ nd_ dl_
  (gO ?_ (gO ?_ (gO ?_ (gO ?_ (gO ?_ (gO ?_ (gO ?_ (gO ?_ (I7))))))))) ?_
 .
  intros
  refine E2 (aS E (aS E (a0))) kR (A5K hfb hfa _) E ?_;rintro r M1 J1 ⟨rfl,rfl,hh⟩;exact ⟨_,E,E,hh⟩
 .
  intros
  refine E2 (aS E (aS E (a0))) kR (A5K h51 hc _) E ?_;rintro r M1 J1 ⟨rfl,rfl,hh⟩;exact ⟨_,E,E,hh⟩
 .
  intros
  refine E2 (aS E (aS E (a0))) kR (A4G h51 hc _) E ?_;rintro r M1 J1 ⟨rfl,rfl,hh⟩;exact ⟨_,E,E,hh⟩
 .
  intros
  refine E2 (aS E (aS E (a0))) kR (A4G hfb hfa _) E ?_;rintro r M1 J1 ⟨rfl,rfl,hh⟩;exact ⟨_,E,E,hh⟩
 .
  intros
  exact C3 (cs:=[C1,C1,C1,C1,C1]) kR E λ b=>⟨_,E,b,E,E⟩
 .
  intros
  exact C3 (cs:=[C1,C1,C1,C1,C1]) kR E λ b=>⟨_,E,b,E,E⟩
 .
  intros
  exact C3 (cs:=[C1,C1,C1,C1,C1]) kR E λ b=>⟨_,E,b,E,E⟩
 .
  intros
  exact C3 (cs:=[C1,C1,C1,C1,C1]) kR E λ b=>⟨_,E,b,E,E⟩
 intro vs bs Jn0 hφ;have g2:=gy 0 hφ;have g5:=gy 1 hφ;have g8:=gy 2 hφ;have g11:=gy 3 hφ;have g12:=gy 4 hφ;have g13:=gy 5 hφ;have g14:=gy 6 hφ;have g15:=gy 7 hφ;dsimp only at g2 g5 g8 g11 g12 g13 g14 g15;clear hφ;dsimp only [V2,Q6,List.map,List.flatten,List.cons_append,List.nil_append];generalize bs 2=B54,bs 5=B57,bs 8=B60,bs 11=B63,bs 12=B11,bs 13=B12,bs 14=B13,bs 15=B14,vs 2=u54,vs 5=u57,vs 8=u60,vs 11=u63,vs 12=u11,vs 13=u12,vs 14=u13,vs 15=u14 at *;obtain ⟨rfl,k2⟩:=g2;have h2:=k2;obtain ⟨a2,b2,c2,d2,e2,rfl,-⟩:=k2;obtain ⟨rfl,k5⟩:=g5;have h5:=k5;obtain ⟨a5,b5,c5,d5,e5,rfl,-⟩:=k5;obtain ⟨rfl,k8⟩:=g8;have h8:=k8;obtain ⟨a8,b8,c8,d8,e8,rfl,-⟩:=k8;obtain ⟨rfl,k11⟩:=g11;have h11:=k11;obtain ⟨a11,b11,c11,d11,e11,rfl,-⟩:=k11;obtain ⟨b12,rfl,rfl⟩:=g12;obtain ⟨b13,rfl,rfl⟩:=g13;obtain ⟨b14,rfl,rfl⟩:=g14;obtain ⟨b15,rfl,rfl⟩:=g15;dsimp only [List.append_eq,List.nil_append,List.cons_append];refine G1 E E E (A7 E E Cd kR ln5 al5 Cs ?_);refine G1 E E E (A7 E E Cd kR ln5 al5 Cs ?_);refine G1 E E E (A7 E E Cd kR ln5 al5 Cs ?_);refine G1 E E E (A7 E E Cd kR ln5 al5 Cs ?_);refine E3 (E8 6 11 12 13 14) ?_;refine D1 (.range 13) [(0,1),(1,1),(3,1),(4,1),(6,1),(7,1),(9,1),(10,1),(2,2),(5,2),(8,2),(11,2),(12,0),(13,2)] kR kR λ hs=>?_;refine F9 hs E (qw_ 5) E ?_;refine F9 hs E (qw_ 5) E ?_;refine F9 hs E (qw_ 5) E ?_;refine F9 hs E (qw_ 5) E ?_;refine F9 hs E (qw_ 5) E ?_;refine F9 hs E (qw_ 5) E ?_;refine F9 hs E (qw_ 5) E ?_;refine F9 hs E (qw_ 5) E ?_;refine G9 E (aS E (aS E a0)) kR (U4 h2 h5 _) E ?_;rintro r66 M66 J66 ⟨rfl,rfl,k66⟩;have h66:=k66;obtain ⟨a66,b66,c66,d66,e66,rfl,-⟩:=k66;refine G9 E (aS E (aS E a0)) kR (U4 h8 h11 _) E ?_;rintro r69 M69 J69 ⟨rfl,rfl,k69⟩;have h69:=k69;obtain ⟨a69,b69,c69,d69,e69,rfl,-⟩:=k69;refine G9 E (aS E (aS E a0)) kR (U4 h5 h8 _) E ?_;rintro r72 M72 J72 ⟨rfl,rfl,k72⟩;have h72:=k72;obtain ⟨a72,b72,c72,d72,e72,rfl,-⟩:=k72;refine G9 E (aS E (aS E a0)) kR (U4 h2 h11 _) E ?_;rintro r75 M75 J75 ⟨rfl,rfl,k75⟩;have h75:=k75;obtain ⟨a75,b75,c75,d75,e75,rfl,-⟩:=k75;refine C8 hs E (F1 (place:=λ x=>#[(0,5),(5,5),(10,5),(15,5)][x]?) (z:=[C1,C1,C1,C1,C1,C1,C1,C1,C1,C1,C1,C1,C1,C1,C1,C1,C1,C1,C1,C1]) (λ _=>by kernel_rfl) (eS E (eS E (eS E (eS E e0)))) (bdS 0 5 E qR (bdS 5 5 E qR (bdS 10 5 E qR (bdS 15 5 E qR bd0))))) E ?_;refine G1 E E E (A7 E E Cd kR A3s A3t Cs ?_);refine E3 (D5 6) (C0 ?_);exact ⟨_,[],[],A00 E E kR Cc qR,Aa _,by simp,E,E,⟨_,E,_,_,_,_,_,_,_,_,_,_,_,_,_,_,_,_,_,_,_,_,E,h66,h69,h72,h75⟩⟩

end Go.Proofs.YtjkpfgjfpbihaaaGreatDoor
namespace Go.Px
structure Gv where
  i:Nat
  d:Nat
  m:Mem
  φ:Value->Mem->Mem->Prop
theorem gv_inj{G:List Gv}(h:(G.map (·.i)).Nodup){g g':Gv}(hg:g∈G)(hg':g'∈G)(e:g.i=g'.i):g=g':=by
  induction G with
  | nil=>cases hg
  | cons x G ih =>
    simp only [List.map_cons,List.nodup_cons] at h;rcases List.mem_cons.1 hg with h1 | h1 <;> rcases List.mem_cons.1 hg' with h2 | h2
    . rw [h1,h2]
    . exact absurd (by rw [<- h1,e]; exact Al (f:=Gv.i) h2) h.1
    . exact absurd (by rw [<- h2,<- e]; exact Al (f:=Gv.i) h1) h.1
    . exact ih h.2 h1 h2
def C0D(X:List Nat)(bs:Nat->Mem)(G:List Gv):Mem:=(G.map λ g=>if g.i∈X then bs g.i else g.m).flatten
def A63(X:List Nat)(bs:Nat->Mem)(G:List Gv):Mem:=(G.map λ g=>if g.i∈X then bs g.i else []).flatten
variable{X:List Nat}{bs:Nat->Mem}
theorem A64{G:List Gv}:∀ x∈A63 X bs G,x∈C0D X bs G:=by
  intro x hx;unfold A63 at hx;unfold C0D;obtain ⟨l,hl,hx⟩:=List.mem_flatten.1 hx;obtain ⟨g,hg,rfl⟩:=List.mem_map.1 hl;refine List.mem_flatten.2 ⟨_,Al hg,?_⟩;split at hx
  . rename_i h; rw [if_pos h]; exact hx
  . cases hx
theorem C1D{G:List Gv}{g:Gv}(hi:(G.map (·.i)).Nodup)(hg:g∈G)(hX:g.i ∉ X)(M':Mem) :
    ∃ R,(C0D X bs G).Perm (g.m++R)∧(∀ x∈A63 X bs G,x∈R)∧(M'++R).Perm (C0D (X++[g.i]) (λ k=>if k=g.i then M' else bs k) G)∧(∀ x∈M'++A63 X bs G,x∈A63 (X++[g.i]) (λ k=>if k=g.i then M' else bs k) G):=by
  obtain ⟨s,t,rfl⟩:=List.append_of_mem hg
  have hne:∀ x∈s++t,x.i≠g.i:=by
    intro x hx e;simp only [List.map_append,List.map_cons,List.nodup_append,List.nodup_cons] at hi;rcases List.mem_append.1 hx with h | h
    . exact hi.2.2 _ (Al (f:=Gv.i) h) _ Ax e
    . exact hi.2.1.1 (e▸Al (f:=Gv.i) h)
  have e1:∀ (f f':Gv->Mem) (l:List Gv),(∀ x∈l,f x=f' x)->l.map f=l.map f':=λ f f' l h=>Bt h
  have es:(s.map λ x=>if x.i∈X++[g.i] then (if x.i=g.i then M' else bs x.i) else x.m)=s.map λ x=>if x.i∈X then bs x.i else x.m:=e1 _ _ _ λ x hx=>by have h:=hne x (Ae _ hx);simp [h]
  have et:(t.map λ x=>if x.i∈X++[g.i] then (if x.i=g.i then M' else bs x.i) else x.m)=t.map λ x=>if x.i∈X then bs x.i else x.m:=e1 _ _ _ λ x hx=>by have h:=hne x (Ai _ hx);simp [h]
  have fs:(s.map λ x=>if x.i∈X++[g.i] then (if x.i=g.i then M' else bs x.i) else ([]:Mem))=s.map λ x=>if x.i∈X then bs x.i else []:=e1 _ _ _ λ x hx=>by have h:=hne x (Ae _ hx);simp [h]
  have ft:(t.map λ x=>if x.i∈X++[g.i] then (if x.i=g.i then M' else bs x.i) else ([]:Mem))=t.map λ x=>if x.i∈X then bs x.i else []:=e1 _ _ _ λ x hx=>by have h:=hne x (Ai _ hx);simp [h]
  refine ⟨(s.map λ x=>if x.i∈X then bs x.i else x.m).flatten++(t.map λ x=>if x.i∈X then bs x.i else x.m).flatten,?_,?_,?_,?_⟩
  . simp only [C0D,List.map_append,List.map_cons,if_neg hX,List.flatten_append,List.flatten_cons];exact List.perm_append_comm_assoc _ _ _
  . intro x hx;simp only [A63,List.map_append,List.map_cons,if_neg hX,List.flatten_append,List.flatten_cons,List.nil_append,List.mem_append] at hx;refine List.mem_append.2 (hx.imp (λ h=>?_) λ h=>?_)
    . exact A64 (G:=s) x h
    . exact A64 (G:=t) x h
  . simp only [C0D,List.map_append,List.map_cons,List.flatten_append,List.flatten_cons,es,et];simp only [List.mem_append,List.mem_singleton,or_true,if_true];exact (List.perm_append_comm_assoc _ _ _).symm
  . intro x hx;simp only [A63,List.map_append,List.map_cons,List.flatten_append,List.flatten_cons,fs,ft];simp only [List.mem_append,List.mem_singleton,or_true,if_true];simp only [A63,List.map_append,List.map_cons,if_neg hX,List.flatten_append,List.flatten_cons,List.nil_append,List.mem_append] at hx;rcases hx with h | h | h
    . exact .inr (.inl h)
    . exact .inl h
    . exact .inr (.inr h)
variable{P:Program}{w:World}{F:List Nat}{A' Mc:Mem}
theorem St.widen{w':World}{A M' J':Mem}{n:Nat}(h:St ⟨P,w,F,A',n⟩ Mc [] w)(hs:St ⟨P,w,F,A,n⟩ M' J' w'):St ⟨P,w,F,A',n⟩ M' J' w':=by
  refine ⟨hs.os,hs.tape,hs.output,hs.size,hs.frame,λ b o hb=>?_,hs.nodup,hs.own,hs.sepJ,h.sepA,hs.old⟩;simp only [List.mem_append] at hb;rcases hb with hb | hb | hb
  . exact hs.mem b o (by simp [hb])
  . exact hs.mem b o (by simp [hb])
  . have h1:=h.sepA b o hb;have h2:=hs.frame b h1.2 h1.1;rw [h2];exact h.mem b o (by simp; exact .inr hb)
theorem St.less{A:Mem}{n:Nat}(h:St ⟨P,w,F,A',n⟩ Mc [] w)(hA:∀ x∈A,x∈A'):St ⟨P,w,F,A,n⟩ Mc [] w :=
  ⟨h.os,h.tape,h.output,h.size,h.frame,λ b o hb=>h.mem b o (by simp at hb ⊢; exact hb.imp id (hA _)),h.nodup,h.own,h.sepJ,λ b o hb=>h.sepA b o (hA _ hb),h.old⟩
section group
variable{C:Cx}{Q:XQ}{l:Env}{M M0 J:Mem}{os:List Oper}{K:Nat->Prop}{n0:Nat}{nd:List Nat}{plan:List (Nat×Nat)}
end group
end Go.Px

