/- Part 11 of the texts of this claim, one behind the other. -/
import Derived.Test.YtjkpfgjfpbihaaaGreatDoorB10
import Derived.Test.YtjkpfgjfpbihaaaGreatDoorRows
set_option linter.unusedVariables false
set_option linter.unusedSimpArgs false
set_option maxRecDepth 100000
namespace Go.Px
section zb
variable{C:Cx}{l:Env}{M J:Mem}{K:Env->Mem->Mem->Prop}{d:Nat}{ty t tn e:TypeId}{pos:String}{af:Array Edge}{g:Option (Nat×Bool)}{x y:Operand}
end zb
theorem C3y{C:Cx}{l:Env}{M J:Mem}{K:Env->Mem->Mem->Prop}{ty t:TypeId}{pos:String}{af:Array Edge}{g:Option (Nat×Bool)}{x y:Operand}{v u:Value}{xs:List Value}{n j:Nat}{B M0:Mem}(h:Sl 1 v n xs B)(hx:ev l x=some (vAt 1 j v))(hy:ev l y=some u)(h1:u.oneCell'=true)
    (ht:P4 C.P t=some 1) (hj:j < n) (hM:M.Perm (B++M0)) (h2:∀ B',Sl 1 v n (xs.set j u) B'->K l (B'++M0) J) :
    OpL C ⟨none,.store t x y,ty,pos,af,g⟩ l M J K:=by
  suffices hh:OpL C ⟨none,.store t x y,ty,pos,af,g⟩ l (B++M0) J K from λ Qp a w ha hw=>hh Qp a w ha (hw.fit (Fit.perm hM) λ _ h=>h)
  clear hM;rcases h with ⟨p,rfl,rfl,hx2,rfl⟩ | ⟨b,o,cap,cs,e,rfl,rfl,h3,h4,h5,h6,h7⟩
  . omega
  . simp only [vAt,Addr.add_mid,Nat.mul_one] at hx;refine E4 hx hy h1 ht (A3n (by omega)) .hd (h2 [_] (.inr ⟨b,o,cap,_,e,E,E,h3,h4,by simpa using h5,by simpa using h6,?_⟩));intro i w hi;rw [List.getElem?_set] at hi ⊢;by_cases hij:j=i
    . subst hij;simp only [if_true] at hi ⊢;simp at hi h6;rw [if_pos (by omega)];rw [<- hi.2]
    . rw [if_neg hij] at hi;rw [if_neg (by omega)];exact h7 i w hi
section call
variable{C:Cx}{l:Env}{M J:Mem}{K:Env->Mem->Mem->Prop}{d:Nat}{ty:TypeId}{pos:String}{af:Array Edge}{g:Option (Nat×Bool)}{x:Operand}{f:FuncId}{xs:List Operand}{us vs cs:List Value}{ts:Array TypeId}
end call
end Go.Px

namespace Go.Proofs.YtjkpfgjfpbihaaaGreatDoor
open Go.Px
def pSt(P:Pt)(n i:Nat)(Q:Pt):Pt:=if n / 2 ^ i % 2=1 then A7z d2N (A7z d2N Q Q) P else A7z d2N Q Q
def itr(f:Nat->Pt->Pt)(z:Pt):Nat->Pt
  | 0=>z
  | k+1=>f k (itr f z k)
theorem B5E(f:Nat->Pt->Pt)(z:Pt)(k:Nat):itr f z (k+1)=f k (itr f z k):=rfl
def pTk(P:Pt)(n:Nat)(k:Nat):Pt:=itr (λ k Q=>pSt P n (255 - k) Q) pO k
theorem B5F(P:Pt)(n:Nat):pTk P n 0=pO:=rfl
theorem B5G(P:Pt)(n k:Nat):pTk P n (k+1)=pSt P n (255 - k) (pTk P n k):=B5E _ _ _
def A0P(P:Pt)(n:Nat):Pt:=pTk P n 256
variable{P:Pt}{n i:Nat}
theorem B2b{Q:Pt}(h:n / 2 ^ i % 2=1):pSt P n i Q=A7z d2N (A7z d2N Q Q) P:=if_pos h
theorem B2c{Q:Pt}(h:¬ n / 2 ^ i % 2=1):pSt P n i Q=A7z d2N Q Q:=if_neg h
theorem tk1(h:i < 256):256 - i=(256 - (i+1))+1:=by omega
theorem tk2(h:i < 256):255 - (256 - (i+1))=i:=by omega
theorem tk3(h:i < 256):pTk P n (256 - i)=pTk P n ((256 - (i+1))+1):=congrArg (pTk P n) (tk1 h)
theorem tk4:pTk P n ((256 - (i+1))+1)=pSt P n (255 - (256 - (i+1))) (pTk P n (256 - (i+1))):=B5G P n _
theorem tk5(h:i < 256):pSt P n (255 - (256 - (i+1))) (pTk P n (256 - (i+1)))=pSt P n i (pTk P n (256 - (i+1))):=congrArg (λ j=>pSt P n j (pTk P n (256 - (i+1)))) (tk2 h)
theorem A81(h:i < 256):pTk P n (256 - i)=pSt P n i (pTk P n (256 - (i+1))):=(tk3 h).trans (tk4.trans (tk5 h))
noncomputable def pB(P:Pt):LN :=
  if fM P.X (fI P.Z) % 2=1 then (A0Q 8 32 (fM P.Y (fI P.Z)) 255).set 31 ((A0Q 8 32 (fM P.Y (fI P.Z)) 255).getD 31 0 ||| 128) else A0Q 8 32 (fM P.Y (fI P.Z)) 255
theorem B7s(P:Pt):(pB P).length=32:=by unfold pB; split <;> simp [P9]
theorem C3z{x:Nat}(h:x < 256):(x ||| 128) < 256:=Nat.or_lt_two_pow (n:=8) h qD
theorem B5H(P:Pt):∀ x∈pB P,x < 256:=by
  intro x hx;unfold pB at hx;split at hx
  . rcases Bf hx with h | rfl
    . exact A0X _ _ x h
    . exact C3z (getD_lt (A0X _ _) qD)
  . exact A0X _ _ x hx
theorem A66{k:IntKind}{a b:LN}(h:nums k a=nums k b):a=b:=by
  unfold nums at h
  induction a generalizing b with
  | nil=>cases b with
    | nil=>rfl
    | cons y b=>simp at h
  | cons x a ih=>cases b with
    | nil=>simp at h
    | cons y b =>
      simp only [List.map_cons,List.cons.injEq,Value.int.injEq,true_and] at h;rw [ih h.2,Int.ofNat.inj h.1]
theorem A91{a b:LN}(h:Value.agg (nums .u64 a).toArray=.agg (nums .u64 b).toArray):b=a:=by
  have h1:nums .u64 a=nums .u64 b:=by simpa using h
  exact (A66 h1).symm
theorem A5M(V:Value)(P:Pt)(es:LN)(hP:FeP V P)(hes:es.length=32)(he256:∀ y∈es,y < 256)(A:Mem):FnX Tryz.prog 116 [V,.agg (nums .u8 es).toArray] [] A λ r M J=>M=[]∧J=[]∧FeP r (A0P P (bv es)):=by
 have hP0:=hP;obtain ⟨xsp,rfl,p0,p1,p2,p3,p4,p5,p6,p7,p8,p9,p10,p11,p12,p13,p14,p15,p16,p17,p18,p19,rfl,hpX,hpY,hpZ,hpT⟩:=hP;dsimp only [nums,List.map];refine Ck (N:=34) Tryz.func116 E E E λ w=>?_;refine A9 (D2 0 1) (A1 ?_);refine A3 E (bx_ λ b2=>?_);refine A3 E (bx_ λ b3=>?_);refine A3 E (C3 (cs:=[C1,C1,C1,C1,C1,C1,C1,C1,C1,C1,C1,C1,C1,C1,C1,C1,C1,C1,C1,C1]) kR E λ b4=>?_);refine A0 (D6 2 3 4) (A1 ?_);refine C7 a0 kR (B5C _) E ?_;rintro r1 M1 J1 ⟨rfl,rfl,hO⟩;have hO0:=hO;obtain ⟨xso,rfl,o0,o1,o2,o3,o4,o5,o6,o7,o8,o9,o10,o11,o12,o13,o14,o15,o16,o17,o18,o19,rfl,hoX,hoY,hoZ,hoT⟩:=hO;dsimp only [nums,List.map];refine C7 (aS E a0) kR (A06 2 qD _) E ?_;rintro rw2 Mw2 Jw2 ⟨rfl,rfl,kw2⟩;have hw2:=kw2;obtain ⟨aw2,bw2,cw2,dw2,ew2,rfl,-⟩:=kw2;refine C7 a0 kR (A7Q _) E ?_;rintro rw3 Mw3 Jw3 ⟨rfl,rfl,kw3⟩;have hw3:=kw3;obtain ⟨aw3,bw3,cw3,dw3,ew3,rfl,-⟩:=kw3;refine C7 (aS E (aS E a0)) kR (U4 hw2 hw3 _) E ?_;rintro rd Md Jd ⟨rfl,rfl,kd⟩;rw [C1C] at kd;have hd:=kd;obtain ⟨ad,bd,cd,dd,ed,rfl,-⟩:=kd;refine A3 E (C3 (cs:=[C1,C1,C1,C1,C1,C1,C1,C1,C1,C1,C1,C1,C1,C1,C1,C1,C1,C1,C1,C1]) kR E λ b5=>?_);refine A3 E (C3 (cs:=[C1,C1,C1,C1,C1]) kR E λ b6=>?_);refine A3 E (A7 E E Cd kR A3s A3t Cs ?_);refine A3 E (A7 E E Cd kR ln5 al5 Cs ?_);refine A0 (E8 2 3 4 5 6) (A4 (A1 (as_ (A0 (H1 2 3 4 5 6 7) (A8 ?_)))));refine A0H (M':=[(b6,blk [.int .u64 (ad:Int),.int .u64 (bd:Int),.int .u64 (cd:Int),.int .u64 (dd:Int),.int .u64 (ed:Int)] 191),(b5,blk (nums .u64 [o0,o1,o2,o3,o4,o5,o6,o7,o8,o9,o10,o11,o12,o13,o14,o15,o16,o17,o18,o19]) 202),(b4,blk [.int .u64 0,.int .u64 0,.int .u64 0,.int .u64 0,.int .u64 0,.int .u64 0,.int .u64 0,.int .u64 0,.int .u64 0,.int .u64 0,.int .u64 0,.int .u64 0,.int .u64 0,.int .u64 0,.int .u64 0,.int .u64 0,.int .u64 0,.int .u64 0,.int .u64 0,.int .u64 0] 202),(b3,blk (nums .u8 es) 188),(b2,blk [.int .u64 (p0:Int),.int .u64 (p1:Int),.int .u64 (p2:Int),.int .u64 (p3:Int),.int .u64 (p4:Int),.int .u64 (p5:Int),.int .u64 (p6:Int),.int .u64 (p7:Int),.int .u64 (p8:Int),.int .u64 (p9:Int),.int .u64 (p10:Int),.int .u64 (p11:Int),.int .u64 (p12:Int),.int .u64 (p13:Int),.int .u64 (p14:Int),.int .u64 (p15:Int),.int .u64 (p16:Int),.int .u64 (p17:Int),.int .u64 (p18:Int),.int .u64 (p19:Int)] 202)]) (Ce E) qI ?_
 refine E5 (α:=Nat×LN) (λ y=>[(2,(vP b2)),(3,(vP b3)),(4,(vP b4)),(5,(vP b5)),(6,(vP b6)),(7,.int .i64 ((y.1:Int) - 1))]) (λ y=>[(b6,blk [.int .u64 (ad:Int),.int .u64 (bd:Int),.int .u64 (cd:Int),.int .u64 (dd:Int),.int .u64 (ed:Int)] 191),(b5,blk (nums .u64 y.2) 202),(b4,blk [.int .u64 0,.int .u64 0,.int .u64 0,.int .u64 0,.int .u64 0,.int .u64 0,.int .u64 0,.int .u64 0,.int .u64 0,.int .u64 0,.int .u64 0,.int .u64 0,.int .u64 0,.int .u64 0,.int .u64 0,.int .u64 0,.int .u64 0,.int .u64 0,.int .u64 0,.int .u64 0] 202),(b3,blk (nums .u8 es) 188),(b2,blk [.int .u64 (p0:Int),.int .u64 (p1:Int),.int .u64 (p2:Int),.int .u64 (p3:Int),.int .u64 (p4:Int),.int .u64 (p5:Int),.int .u64 (p6:Int),.int .u64 (p7:Int),.int .u64 (p8:Int),.int .u64 (p9:Int),.int .u64 (p10:Int),.int .u64 (p11:Int),.int .u64 (p12:Int),.int .u64 (p13:Int),.int .u64 (p14:Int),.int .u64 (p15:Int),.int .u64 (p16:Int),.int .u64 (p17:Int),.int .u64 (p18:Int),.int .u64 (p19:Int)] 202)]) (λ _=>[]) (λ y=>y.1<=256∧FeP (.agg (nums .u64 y.2).toArray) (pTk P (bv es) (256 - y.1))) (λ y=>y.1) (256,[o0,o1,o2,o3,o4,o5,o6,o7,o8,o9,o10,o11,o12,o13,o14,o15,o16,o17,o18,o19]) ⟨Av _,by show FeP _ (pTk P (bv es) (256 - 256)); rw [Nat.sub_self,B5F]; exact hO0⟩ (H1 2 3 4 5 6 7) .rfl qI ?_;clear hO0 hoX hoY hoZ hoT;rintro ⟨j,zs⟩ ⟨hj,ho⟩;dsimp only at hj ho ⊢;have ho0:=ho;obtain ⟨zs_,e_,z0,z1,z2,z3,z4,z5,z6,z7,z8,z9,z10,z11,z12,z13,z14,z15,z16,z17,z18,z19,rfl,hzX,hzY,hzZ,hzT⟩:=ho;obtain rfl:=A91 e_;refine A4 (A1 (mv_ ?_));refine A2 (F0 E E E) E ?_;refine A0 (N9 2 3 4 5 6 7 13) ?_;refine C4 E ?_ ?_ <;> intro hc
 .
  have hj0:0 < j:=by simp at hc; omega
  obtain ⟨i,rfl⟩:∃ i,j=i+1:=⟨j - 1,by omega⟩
  rw [show (((i+1:Nat):Int) - 1)=(i:Int) by omega];have hts:=A81 (P:=P) (n:=bv es) (show i < 256 by omega);have hbit:=A62 he256 i;have hpb:es.getD (i / 8) 0 < 256:=getD_lt he256 qD;refine A6 (nx (H1 2 3 4 5 6 7) (A4 (A8 (A1 ?_))));refine A2 (qw_ 20) E ?_;refine A2 (qw_ 20) E ?_;refine A2 (qw_ 5) E ?_;refine C7 (aS E (aS E (aS E a0))) kR (B1T _ _ _ _ _ d2N ho0 ho0 hd _) E ?_;rintro r5 M5 J5 ⟨rfl,rfl,k5⟩;have h5:=k5;obtain ⟨xss,rfl,s0,s1,s2,s3,s4,s5,s6,s7,s8,s9,s10,s11,s12,s13,s14,s15,s16,s17,s18,s19,rfl,hsX,hsY,hsZ,hsT⟩:=k5;dsimp only [nums,List.map];refine A3 E (A7 E E Cd kR A3s A3t Cs ?_);refine A0 (H1 2 3 4 5 6 7) (A1 (mv_ ?_));refine A2 (A1f 8 E E E qD (A2j qO)) E ?_;refine A2 (G2 (e:=5) (n:=32) (sz:=1) (i:=i / 8) E E kR kR E qO) E ?_;refine A2 (I6 (i / 8) E kR Cc qO qO) E ?_;refine mv_ ?_;refine A2 (A1g 8 E E E qD) E ?_;refine A2 (A3b (a:=es.getD (i / 8) 0) (b:=i % 8) E E E E (by show _<=8; omega)) E ?_;refine A2 (hbit▸N4 1 2 E E E E E (by show _ < 256; exact Be (Nat.div_le_self _ _) hpb) qD) E ?_;refine A2 (F0 E E E) E ?_;refine A0 (N9 2 3 4 5 6 7 28) ?_;refine C4 E ?_ ?_ <;> intro hc
  .
   have hb1:bv es / 2 ^ i % 2=1:=by revert hc; generalize bv es / 2 ^ i % 2=z; intro hc; simp at hc; omega
   rw [B2b hb1] at hts;refine C2 ?_;refine A2 (qw_ 20) E ?_;refine A2 (qw_ 20) E ?_;refine A2 (qw_ 5) E ?_;refine C7 (aS E (aS E (aS E a0))) kR (B1T _ _ _ _ _ d2N h5 hP0 hd _) E ?_;rintro r7 M7 J7 ⟨rfl,rfl,k7⟩;rw [<- hts] at k7;have h7:=k7;obtain ⟨xst,rfl,t0,t1,t2,t3,t4,t5,t6,t7,t8,t9,t10,t11,t12,t13,t14,t15,t16,t17,t18,t19,rfl,htX,htY,htZ,htT⟩:=k7;dsimp only [nums,List.map];refine A3 E (A7 E E Cd kR A3s A3t Cs ?_);refine C6 (nb (nx (H1 2 3 4 5 6 7) (C2 (mv_ ?_))));refine A2 (D7 ((i:Int) - 1) E E (W5 E qO qO)) E ?_;refine as_ (C6 ?_);exact rn (i,[t0,t1,t2,t3,t4,t5,t6,t7,t8,t9,t10,t11,t12,t13,t14,t15,t16,t17,t18,t19]) ⟨by dsimp only; omega,h7⟩ (by dsimp only; omega) (H1 2 3 4 5 6 7) (Ce E) qI
  .
   have hb1:¬ bv es / 2 ^ i % 2=1:=by revert hc; generalize bv es / 2 ^ i % 2=z; intro hc; simp at hc; omega
   rw [B2c hb1] at hts;refine A6 (nb (nx (H1 2 3 4 5 6 7) (C2 (mv_ ?_))));refine A2 (D7 ((i:Int) - 1) E E (W5 E qO qO)) E ?_;refine as_ (C6 ?_);exact rn (i,[s0,s1,s2,s3,s4,s5,s6,s7,s8,s9,s10,s11,s12,s13,s14,s15,s16,s17,s18,s19]) ⟨by dsimp only; omega,by dsimp only; rw [hts]; exact h5⟩ (by dsimp only; omega) (H1 2 3 4 5 6 7) (Ce E) qI
 .
  have hj0:j=0:=by simp at hc; omega
  subst hj0;refine D9 (te (re (be E (nx (D2 4 5) (A1 ?_)))));refine A2 (qw_ 20) E ?_;refine A3 E (A7 E E Cd kR A3s A3t Cs ?_);refine A0 (D5 4) (C0 ?_);exact ⟨_,[],[],A00 E E kR Cc qR,Aa _,by simp,E,E,ho0⟩
theorem A5N(V:Value)(P:Pt)(hP:FeP V P)(A:Mem):FnX Tryz.prog 115 [V] [] A λ r M J=>J=[]∧Sl 1 r 32 (nums .u8 (pB P)) M:=by
 obtain ⟨xsp,rfl,p0,p1,p2,p3,p4,p5,p6,p7,p8,p9,p10,p11,p12,p13,p14,p15,p16,p17,p18,p19,rfl,hpX,hpY,hpZ,hpT⟩:=hP;dsimp only [nums,List.map];refine Ck (N:=24) Tryz.func115 E E E λ w=>?_;refine A9 (D5 0) (A1 ?_);refine A3 E (bx_ λ b1=>?_);refine as_ (A0 (D5 1) (A1 ?_));refine A2 (qf_ 10 10) E ?_;refine A2 (I1 (n:=5) E kR (by first | exact Cc | exact mA (by assumption)) Cr) E ?_;refine C7 (aS E a0) kR (B1S hpZ _) E ?_;rintro r3 M3 J3 ⟨rfl,rfl,k3⟩;have h3:=k3;obtain ⟨a3,b3,c3,d3,e3,rfl,-⟩:=k3;refine A3 E (C3 (cs:=[C1,C1,C1,C1,C1]) kR E λ b3=>?_);refine A3 E (A7 E E Cd kR ln5 al5 Cs ?_);refine A0 (D2 1 3) (A1 ?_);refine A2 (qf_ 5 5) E ?_;refine A2 (I1 (n:=5) E kR (by first | exact Cc | exact mA (by assumption)) Cr) E ?_;refine A2 (qw_ 5) E ?_;refine C7 (aS E (aS E a0)) kR (U4 hpY h3 _) E ?_;rintro r4 M4 J4 ⟨rfl,rfl,k4⟩;have h4:=k4;obtain ⟨a4,b4,c4,d4,e4,rfl,-⟩:=k4;refine C7 (aS E a0) kR (A0t _ _ h4 _) E ?_;rintro v12 M12 J12 ⟨rfl,hs12⟩;haveI:=hs12.cel;have hpl:=P9 8 32 (fM P.Y (fI P.Z)) 255;have hpt:=A0X (fM P.Y (fI P.Z)) 255;refine as_ (A0 (D6 1 3 4) (A4 (A1 ?_)));refine A2 (qf_ 0 0) E ?_;refine A2 (I1 (n:=5) E kR (by first | exact Cc | exact mA (by assumption)) Cr) E ?_;refine A2 (qw_ 5) E ?_;refine C7 (aS E (aS E a0)) kR (U4 hpX h3 _) E ?_;rintro r5 M5 J5 ⟨rfl,rfl,k5⟩;have h5:=k5;obtain ⟨a5,b5,c5,d5,e5,rfl,-⟩:=k5;refine E6 (aS E a0) kR (A4b _ _ h5 _) E ?_;refine A0 (D2 4 17) ?_;refine C4 E ?_ ?_ <;> intro hc
 .
  have ho:fM P.X (fI P.Z) % 2=1:=by simpa using hc
  refine C2 (mv_ ?_);refine A2 (H4 (sz:=1) (a:=31) E E kR E (hs12.rd (R:=M12) λ _ h=>h) qD) E ?_;refine A2 (Y9 (j:=31) (u:=.int .u8 (((A0Q 8 32 (fM P.Y (fI P.Z)) 255).getD 31 0:Nat):Int)) (hs12.rd qS) E kR (V9 (by rw [hpl]; decide))) E ?_;refine A2 (B4A (b:=128) E E E (by show _ < 256; exact getD_lt hpt qD) qD) E ?_;refine A2 (H4 (sz:=1) (a:=31) E E kR E (hs12.rd (R:=M12) λ _ h=>h) qD) E ?_;refine A3 E (C3y hs12 E E E kR qD qP λ B9 hs9=>?_);refine A0 (D5 4) (A1 (mv_ (as_ (A0 (D5 2) (C0 ?_)))));exact ⟨_,B9,[],I0 E E,Ay _ _,by simp,E,by unfold pB; rw [if_pos ho]; show Sl 1 v12 32 (nums .u8 _) B9; rw [A5k]; exact hs9⟩
 .
  have ho:¬ fM P.X (fI P.Z) % 2=1:=by simpa using hc
  refine A6 (nx (D5 4) (A1 (mv_ (as_ (A0 (D5 2) (C0 ?_))))));exact ⟨_,M12,[],I0 E E,Ay _ _,by simp,E,by unfold pB; rw [if_neg ho]; exact hs12⟩

end Go.Proofs.YtjkpfgjfpbihaaaGreatDoor
namespace Go.Px
open Go Go.ChangeShapes Go.WideShapes Go.RowKit
section results
variable{P:Program}{fn:Func}{l:Env}{R:Mem}
theorem C3A{t0 t1 t2 t3 b0 b1 b2 b3 n:Nat}{ty:TypeId}{c0 c1 c2 c3:List Value}{e0 e1 e2 e3:TypeId}{f0 f1 f2 f3:Nat×Nat}(h:fn.results=#[.cell t0 ty,.cell t1 ty,.cell t2 ty,.cell t3 ty])
    (h0:lk l t0=some (.pointer (some ⟨b0,0,none⟩))) (h1:lk l t1=some (.pointer (some ⟨b1,0,none⟩))) (h2:lk l t2=some (.pointer (some ⟨b2,0,none⟩))) (h3:lk l t3=some (.pointer (some ⟨b3,0,none⟩))) (ht:A5i P ty=some n)
    (m0:(b0,Obj.cells c0.toArray e0 f0)∈R) (m1:(b1,Obj.cells c1.toArray e1 f1)∈R) (m2:(b2,Obj.cells c2.toArray e2 f2)∈R) (m3:(b3,Obj.cells c3.toArray e3 f3)∈R) (n0:c0.length=n) (n1:c1.length=n) (n2:c2.length=n) (n3:c3.length=n):Res P fn l R (.tuple #[.agg c0.toArray,.agg c1.toArray,.agg c2.toArray,.agg c3.toArray]):=λ N a w ha hw=>by
  obtain ⟨dsc,g1,g2,g3⟩:=R5 ht;have hk:∀ (b:Nat) (cs:List Value) (e:TypeId) (fr:Nat×Nat),(b,Obj.cells cs.toArray e fr)∈R->cs.length=n->_:=λ b cs e fr hb hn=>run_loadVar_row (P:=P) w b e ty cs.toArray fr dsc (hw b _ hb) g1 (by cases dsc <;> simp_all [TypeDesc.isRow]) (by rw [g3,<- hn]; simp);have k0:=hk _ _ _ _ m0 n0;have k1:=hk _ _ _ _ m1 n1;have k2:=hk _ _ _ _ m2 n2;have k3:=hk _ _ _ _ m3 n3;simp [results,h,ha.slot t0 _ h0,ha.slot t1 _ h1,ha.slot t2 _ h2,ha.slot t3 _ h3,asAddr,k0,k1,k2,k3]
end results
end Go.Px

namespace Go.Px
theorem B7t(n:Nat):xp n=2 ^ (32 * n):=by rw [xp,Nat.pow_mul]
variable{ws:List Nat}
theorem B2d(h:w32 ws)(i:Nat):nv ws / xp i % 4294967296=ws.getD i 0:=by
  induction ws generalizing i with
  | nil=>simp [nv]
  | cons b r ih =>
    have h1:=h b (by simp)
    cases i with
    | zero=>simp only [nv,xp0,Nat.div_one,List.getD_cons_zero]; omega
    | succ i =>
      rw [List.getD_cons_succ,<- ih (λ x hx=>h x (by simp [hx])) i,xpS,Nat.mul_comm,<- Bu];congr 2;simp only [nv]; omega
def Q9(x n:Nat):List Nat:=(List.range n).map λ i=>x / 256 ^ i % 256
theorem N1(x n:Nat):(Q9 x n).length=n:=by simp [Q9]
theorem A5O(x n:Nat):∀ y∈Q9 x n,y < 256:=λ y hy=>by simp only [Q9,List.mem_map] at hy;obtain ⟨i,_,rfl⟩:=hy;exact Ad _ (by decide)
theorem B2e(x n:Nat):Q9 x (n+1)=Q9 x n++[x / 256 ^ n % 256]:=by simp [Q9,List.range_succ]
theorem B82(x n:Nat):bv (Q9 x n)=x % 256 ^ n:=by have:=A2G x n;rw [show (256:Nat) ^ n=2 ^ (8 * n) by rw [Nat.pow_mul],<- this];congr 1;unfold Q9;apply Bt;intro j _;rw [Nat.pow_mul]
theorem B2f(h:w32 ws)(i:Nat):ws.getD (i / 4) 0 / 2 ^ (8 * (i % 4)) % 256=nv ws / 256 ^ i % 256:=by
  rw [<- B2d h,show (256:Nat) ^ i=2 ^ (8 * i) by rw [Nat.pow_mul],B7t,show (4294967296:Nat)=2 ^ (8 * (i % 4)) * 2 ^ (32 - 8 * (i % 4)) by rw [<- Nat.pow_add,show 8 * (i % 4)+(32 - 8 * (i % 4))=32 by omega],Nat.mod_mul_right_div_self,
    show (2:Nat) ^ (32 - 8 * (i % 4))=256 * 2 ^ (24 - 8 * (i % 4)) by rw [show (256:Nat)=2 ^ 8 from rfl,<- Nat.pow_add]; congr 1; omega,Nat.mod_mul_right_mod,Bu,<- Nat.pow_add]
  congr 3; omega
theorem B5I(h:w32 ws)(i:Nat):ws.getD (i / 32) 0 / 2 ^ (i % 32) % 2=nv ws / 2 ^ i % 2:=by
  rw [<- B2d h,B7t,show (4294967296:Nat)=2 ^ (i % 32) * 2 ^ (32 - i % 32) by rw [<- Nat.pow_add,show i % 32+(32 - i % 32)=32 by omega],Nat.mod_mul_right_div_self,
    show (2:Nat) ^ (32 - i % 32)=2 * 2 ^ (31 - i % 32) by rw [<- Nat.pow_succ']; congr 1; omega,Nat.mod_mul_right_mod,Bu,<- Nat.pow_add]
  congr 3; omega
variable{i:Nat}
theorem B2g(h:ws.length<=i):ws.getD i 0=0:=by simp [List.getD,List.getElem?_eq_none h]
theorem A0b(ws:List Nat)(j:Nat):nv (ws.take (j+1))=nv (ws.take j)+xp j * ws.getD j 0:=by
  by_cases h:j < ws.length
  . exact A1c h
  . rw [B2g (by omega),Aw (by omega),Aw (by omega),Nat.mul_zero,Nat.add_zero]
variable{o a b:List Nat}{c:Nat}
theorem B2h{x:Nat}(hl:o.length=i)(h:nv o+xp i * c=nv (a.take i)+nv (b.take i))(hx:x=c+a.getD i 0+b.getD i 0) :
    nv (o++[x % 4294967296])+xp (i+1) * (x / 4294967296)=nv (a.take (i+1))+nv (b.take (i+1)):=by
  rw [A2n,hl,A0b,A0b,xpS]
  have e:xp i * (x % 4294967296)+xp i * 4294967296 * (x / 4294967296)=xp i * x:=by rw [Nat.mul_assoc,<- Nat.mul_add,Nat.mod_add_div]
  have e2:xp i * x=xp i * c+xp i * a.getD i 0+xp i * b.getD i 0:=by rw [hx,Nat.mul_add,Nat.mul_add]
  simp only [nv,Nat.mul_zero,Nat.add_zero];omega
theorem A92(ws:List Nat)(n:Nat):nv (ws.take n)<=nv ws:=by
  by_cases h:n<=ws.length
  . rw [A3p ws n h]; omega
  . rw [Aw (by omega)]; exact Av _
theorem B2i{c' d:Nat}(hl:o.length=i)(h:nv o+nv (b.take i)=nv (a.take i)+xp i * c)(hd:d+b.getD i 0+c=a.getD i 0+4294967296 * c') :
    nv (o++[d])+nv (b.take (i+1))=nv (a.take (i+1))+xp (i+1) * c':=by
  rw [A2n,hl,A0b,A0b,xpS]
  have e:xp i * d+xp i * b.getD i 0+xp i * c=xp i * a.getD i 0+xp i * 4294967296 * c':=by rw [<- Nat.mul_add,<- Nat.mul_add,hd,Nat.mul_add,Nat.mul_assoc]
  simp only [nv,Nat.mul_zero,Nat.add_zero];omega
theorem B5J(hl:o.length=a.length)(ho:w32 o)(ha:w32 a)(h:nv o+nv (b.take a.length)=nv (a.take a.length)+xp a.length * c)(hle:nv b<=nv a):nv o=nv a - nv b:=by
  have h1:=B4H ho;have h2:=B4H ha;have h3:=A92 b a.length;rw [List.take_length] at h;rw [hl] at h1
  have hc:c=0:=by
    rcases Nat.eq_zero_or_pos c with h0 | h0
    . exact h0
    . have:=Nat.le_mul_of_pos_right (xp a.length) h0;omega
  subst hc
  have h4:nv (b.take a.length)=nv b:=by
    by_cases hb:a.length<=b.length
    . have h5:=A3p b a.length hb
      have h6:nv (b.drop a.length)=0:=by
        rcases Nat.eq_zero_or_pos (nv (b.drop a.length)) with h0 | h0
        . exact h0
        . have:=Nat.le_mul_of_pos_right (xp a.length) h0;omega
      rw [h6] at h5; omega
    . rw [Aw (by omega)]
  omega
end Go.Px

namespace Go.Proofs.YtjkpfgjfpbihaaaGreatDoor
open Go.Px
def B7u:LN:=[1559614445,1477600026,2734136534,350157278,0,0,0,268435456]
def lN:Nat:=7237005577332262213973186563042994240857116359379907606001950938285454250989
theorem B2j:nv B7u=lN:=by decide +kernel
theorem C1G:w32 B7u:=by unfold w32 B7u; decide
def Sc(v:Value)(n:Nat):Prop:=∃ ws,v=.agg (nums .u32 ws).toArray∧ws.length=8∧w32 ws∧nv ws=n
theorem xp8:xp 8=115792089237316195423570985008687907853269984665640564039457584007913129639936:=by decide +kernel
variable{a b:LN}{i:Nat}
theorem C1H(h1:a.drop (i+1)=b.drop (i+1))(hi:i < a.length)(hj:i < b.length)(h2:a.getD i 0=b.getD i 0):a.drop i=b.drop i:=by rw [Aj,Ab hi,Aj,Ab hj] at h2;rw [Br hi,Br hj,h1];exact congrArg (·::_) h2
variable{o:LN}
theorem A82(hl:o.length=i):(o++a.drop i).getD i 0=a.getD i 0:=by rw [Aj,Aq qO,List.getElem?_drop,Aj];congr 2; omega
theorem A5P{x:Nat}(hl:o.length=i)(hi:i < a.length):(o++a.drop i).set i x=(o++[x])++a.drop (i+1):=by rw [List.set_append_right _ _ qO,hl,Nat.sub_self,Br hi,List.set_cons_zero,Ap]; rfl
theorem A5Q{n:Nat}(hl:o.length=i)(ha:a.length=n)(hi:i<=n):(o++a.drop i).length=n:=by rw [An,Bg]; omega
theorem B83{a b c:Nat}(ha:a < lN)(hb:b < lN)(h:c * xp 8<=a+b):c=0:=by
  rcases Nat.eq_zero_or_pos c with h0 | h0
  . exact h0
  . have h1:=Nat.le_mul_of_pos_left (xp 8) h0;rw [xp8] at h1 h;unfold lN at ha hb;omega
theorem A93{x y c d e:Nat}(hx:x < 4294967296)(hy:y < 4294967296)(hc:c<=1)(hd:d=(x+(18446744073709551616 - y)) % 18446744073709551616)(he:e=(d+(18446744073709551616 - c)) % 18446744073709551616) :
    e % 4294967296+y+c=x+4294967296 * (e / 9223372036854775808)∧e / 9223372036854775808<=1:=by
  by_cases h:y+c<=x
  . have e1:e=x - y - c:=by omega
    have e2:e < 4294967296:=by omega
    rw [Af e2,Nat.div_eq_of_lt qO];omega
  . have e1:e=18446744073709551616 - (y+c - x):=by omega
    omega
variable{k:IntKind}
theorem B84(x y:Nat):I8 .lss k (x:Int) (y:Int)=some (.bool (decide (x < y))):=by
  by_cases h:x < y
  . rw [decide_eq_true h]; exact ltT qO
  . rw [decide_eq_false h]; exact ltF qO
theorem B85(ha:w32 a)(hb:w32 b)(hi:i < a.length)(hl:a.length=b.length)(hd:a.drop (i+1)=b.drop (i+1))(hne:a.getD i 0≠b.getD i 0):nv a < nv b ↔ a.getD i 0 < b.getD i 0:=by
  constructor
  . intro h;rcases Nat.lt_or_gt_of_ne hne with h1 | h1
    . exact h1
    . have:=A8y hb qO hl.symm h1 hd.symm; omega
  . intro h; exact A8y ha hi hl h hd
theorem A5R{n:Nat}(h:n < 18446744073709551616):IntKind.u64.wrap (n:Int)=(n:Int):=A3l qO qO
theorem B87(A:Mem):FnV Tryz.prog 165 [] A (.agg (nums .u32 B7u).toArray):=by refine Ck (N:=2) Tryz.func165 E E E λ w=>?_;refine A9 kn (A1 ?_);refine A3 E (C3 (cs:=[D3,D3,D3,D3,D3,D3,D3,D3]) kR E λ b0=>?_);refine A0 (D5 0) (A1 ?_);refine A2 (F1 (place:=λ i=>some (i * 1,1)) (z:=[D3,D3,D3,D3,D3,D3,D3,D3]) (λ _=>by kernel_rfl) (eS E (eS E (eS E (eS E (eS E (eS E (eS E (eS E e0)))))))) (bdS 0 1 E qR (bdS 1 1 E qR (bdS 2 1 E qR (bdS 3 1 E qR (bdS 4 1 E qR (bdS 5 1 E qR (bdS 6 1 E qR (bdS 7 1 E qR bd0))))))))) E ?_;refine A3 E (A7 E E Cd kR ln8 al8 Cs ?_);refine A0 (D5 0) (C0 ?_);exact ⟨_,[],[],A00 E E kR Cc qR,Aa _,by simp,E,E,E⟩
theorem C1I(v u:Value)(x y:Nat)(hv:Sc v x)(hu:Sc u y)(A:Mem):FnV Tryz.prog 166 [v,u] A (.bool (decide (x < y))):=by
 obtain ⟨a,rfl,a8,a32,rfl⟩:=hv;obtain ⟨b,rfl,b8,b32,rfl⟩:=hu;refine Ck (N:=24) Tryz.func166 E E E λ w=>?_;refine A9 (D2 0 1) (A1 ?_);refine A3 E (bx_ λ b2=>?_);refine A3 E (bx_ λ b3=>?_);refine as_ (A0 (D2 2 3) (A4 (A1 (as_ (A0 (D6 2 3 5) (A8 ?_))))));refine E5 (α:=Nat) (λ j=>[(2,(vP b2)),(3,(vP b3)),(5,.int .i64 ((j:Int) - 1))]) (λ _=>[(b3,blk (nums .u32 b) 207),(b2,blk (nums .u32 a) 207)]) (λ _=>[]) (λ j=>j<=8∧a.drop j=b.drop j) (λ j=>j) 8 ⟨Av _,by rw [Bv qO,Bv qO]⟩ (D6 2 3 5) .rfl qI ?_;rintro j ⟨hj,hd⟩;refine A4 (A1 (mv_ ?_));refine A2 (F0 E E E) E ?_;refine A0 (D8 2 3 5 7) ?_;refine C4 E ?_ ?_ <;> intro hc
 .
  have hj0:0 < j:=by simp at hc; omega
  obtain ⟨i,rfl⟩:∃ i,j=i+1:=⟨j - 1,by omega⟩
  rw [show (((i+1:Nat):Int) - 1)=(i:Int) by omega];refine A6 (nx (D6 2 3 5) (A4 (A8 ?_)));refine D1 (.range 7) (zp 0 [0,0,1,0,0,1,0]) kR kR λ hs=>?_;refine fm_ hs ?_;refine C8 hs E (G2 (e:=31) (n:=8) (sz:=1) (i:=i) E E kR kR E qO) E ?_;refine F9 hs E (I6 (i) E kR Cc qO (by first | omega | (rw [a8]; omega))) E ?_;refine fm_ hs ?_;refine C8 hs E (G2 (e:=31) (n:=8) (sz:=1) (i:=i) E E kR kR E qO) E ?_;refine F9 hs E (I6 (i) E kR Cc qO (by first | omega | (rw [b8]; omega))) E ?_;refine C8 hs E (F0 E E E) E ?_;refine E3 (D8 2 3 5 16) ?_;refine C4 E ?_ ?_ <;> intro hc
  .
   have hne:a.getD i 0≠b.getD i 0:=by simp at hc ⊢; omega
   refine D1 (.range 8) (zp 0 [0,0,1,0,0,1,0,0]) kR kR λ hs=>?_;refine fm_ hs ?_;refine C8 hs E (G2 (e:=31) (n:=8) (sz:=1) (i:=i) E E kR kR E qO) E ?_;refine F9 hs E (I6 (i) E kR Cc qO (by first | omega | (rw [a8]; omega))) E ?_;refine fm_ hs ?_;refine C8 hs E (G2 (e:=31) (n:=8) (sz:=1) (i:=i) E E kR kR E qO) E ?_;refine F9 hs E (I6 (i) E kR Cc qO (by first | omega | (rw [b8]; omega))) E ?_;refine C8 hs E (F5 (decide (a.getD i 0 < b.getD i 0)) E E (B84 _ _)) E ?_;refine fa_ hs ?_;refine E3 (D5 4) (C0 (br (tr (rr (br (tr ?_))))));exact ⟨_,[],[],I0 E E,Aa _,by simp,by rw [show decide (nv a < nv b)=decide (a.getD i 0 < b.getD i 0) from decide_eq_decide.2 (B85 a32 b32 qO qO hd hne)],E,E⟩
  .
   have hne:a.getD i 0=b.getD i 0:=by simp at hc ⊢; omega
   refine A6 (nb (nx (D6 2 3 5) (C2 (mv_ ?_))));refine A2 (D7 ((i:Int) - 1) E E (W5 E qO qO)) E ?_;refine as_ (C6 ?_);exact rn i ⟨by omega,C1H hd qO qO hne⟩ qO (D6 2 3 5) .rfl qI
 .
  have hj0:j=0:=by simp at hc; omega
  subst hj0;rw [List.drop_zero,List.drop_zero] at hd;refine D9 (te (re (be E (nx kn (A1 (as_ (A0 (D5 4) ?_)))))));refine C0 ?_;exact ⟨_,[],[],I0 E E,Aa _,by simp,by rw [hd,decide_eq_false (Nat.lt_irrefl _)],E,E⟩
theorem A67(v u:Value)(x y:Nat)(hv:Sc v x)(hu:Sc u y)(hx:x < lN)(hy:y < lN)(A:Mem):FnX Tryz.prog 137 [v,u] [] A λ r M J=>M=[]∧J=[]∧Sc r ((x+y) % lN):=by
 obtain ⟨a,rfl,a8,a32,rfl⟩:=hv;obtain ⟨b,rfl,b8,b32,rfl⟩:=hu;refine Ck (N:=58) Tryz.func137 E E E λ w=>?_;refine A9 (D2 0 1) (A1 ?_);refine A3 E (bx_ λ b2=>?_);refine A3 E (bx_ λ b3=>?_);refine A3 E (C3 (cs:=[D3,D3,D3,D3,D3,D3,D3,D3]) kR E λ b4=>?_);refine A0 (D6 2 3 4) (A1 (as_ (A0 (D8 2 3 4 5) (A4 (A1 (mv_ (A0 (E8 2 3 4 5 10) ?_)))))));refine A8 ?_;refine E5 (α:=Nat×LN×Nat) (λ x=>[(2,(vP b2)),(3,(vP b3)),(4,(vP b4)),(5,.int .u64 (x.2.2:Int)),(10,.int .i64 (x.1:Int))]) (λ x=>[(b4,blk [.int .u32 0,.int .u32 0,.int .u32 0,.int .u32 0,.int .u32 0,.int .u32 0,.int .u32 0,.int .u32 0] 207),(b3,blk (nums .u32 b) 207),(b2,blk (nums .u32 (x.2.1++a.drop x.1)) 207)]) (λ _=>[]) (λ x=>x.1<=8∧x.2.1.length=x.1∧w32 x.2.1∧x.2.2<=1∧nv x.2.1+xp x.1 * x.2.2=nv (a.take x.1)+nv (b.take x.1)) (λ x=>8 - x.1) ⟨0,[],0⟩ ⟨Am _,rfl,(λ x hx=>by cases hx),by decide,rfl⟩ (E8 2 3 4 5 10) .rfl qI ?_;rintro ⟨i,o,c⟩ ⟨hi,hol,ho32,hc1,hnv⟩;dsimp only at hi hol ho32 hc1 hnv ⊢;refine A1 ?_;refine A2 (F0 E E E) E ?_;refine A0 (H1 2 3 4 5 10 11) (A4 ?_);refine C4 E ?_ ?_ <;> intro hc
 .
  have hlt:i < 8:=by simp at hc; omega
  have hpl:=A5Q (o:=o) (a:=a) hol a8 hi;have hpg:=A82 (a:=a) hol;have hps:=λ x=>A5P (x:=x) hol (show i < a.length by omega);have hst:=B2h (x:=c+(a.getD i 0+b.getD i 0)) hol hnv qO;have ha0:=a32.get i;have hb0:=b32.get i;refine A6 (nx (E8 2 3 4 5 10) (A4 (A8 (A1 (mv_ (as_ (A0 (H1 2 3 4 5 6 10) ?_)))))));refine D1 (.range 12) (zp 0 [0,0,0,1,0,0,0,1,0,0,0,0]) kR kR λ hs=>?_;refine fm_ hs ?_;refine fm_ hs ?_;refine C8 hs E (G2 (e:=31) (n:=8) (sz:=1) (i:=i) E E kR kR E qO) E ?_;refine F9 hs E (hpg▸I6 i E kR Cc qO qO) E ?_;refine C8 hs E (K6 (k':=.u64) (a.getD i 0) E kR (A5R qO)) E ?_;refine fm_ hs ?_;refine C8 hs E (G2 (e:=31) (n:=8) (sz:=1) (i:=i) E E kR kR E qO) E ?_;refine F9 hs E (I6 (i) E kR Cc qO (by first | omega | (rw [b8]; omega))) E ?_;refine C8 hs E (K6 (k':=.u64) (b.getD i 0) E kR (A5R qO)) E ?_;refine C8 hs E (A8A 18446744073709551616 (a:=a.getD i 0) (b:=b.getD i 0) E E E E E E qO) E ?_;refine C8 hs E (A8A 18446744073709551616 (a:=c) (b:=a.getD i 0+b.getD i 0) E E E E E E qO) E ?_;refine fa_ hs ?_;refine E3 (H1 2 3 4 5 6 10) (A1 (mv_ (mv_ ?_)));refine A2 (A8v E kR) E ?_;refine A2 (G2 (e:=31) (n:=8) (sz:=1) (i:=i) E E kR kR E qO) E ?_;refine A3 E (K8 i E E kR qO qO Cs ?_);refine A0 (E8 2 3 4 5 10) (C2 (mv_ ?_));refine A2 (P6 32 4294967296 E E E E qD) E ?_;refine as_ (C6 (nb (nx (E8 2 3 4 5 10) (C2 ?_))));refine A2 (D7 ((i+1:Nat):Int) E E (F7 qO qO qO)) E ?_;refine mv_ (C6 ?_);exact rn ⟨i+1,o++[(c+(a.getD i 0+b.getD i 0)) % 4294967296],(c+(a.getD i 0+b.getD i 0)) / 4294967296⟩ ⟨by dsimp only; omega,by simp [hol],ho32.app (λ x hx=>by rw [List.mem_singleton.1 hx]; exact Ad _ qD),by dsimp only; omega,hst⟩ (by dsimp only; omega) (E8 2 3 4 5 10) (Ce (by rw [hps])) qI
 .
  have hge:i=8:=by simp at hc; omega
  subst hge;rw [Aw qO,Aw qO] at hnv;have hc0:=B83 hx hy (c:=c) (by rw [Nat.mul_comm]; omega);subst hc0;rw [Nat.mul_zero,Nat.add_zero] at hnv;rw [Bv qO,List.append_nil];refine D9 (te (re (be E (nx (D2 2 4) (A1 ?_)))));refine E6 a0 kR (B87 _) E ?_;refine A3 E (C3 (cs:=[D3,D3,D3,D3,D3,D3,D3,D3]) kR E λ b7=>?_);refine A3 E (A7 E E Cd kR ln8 al8 Cs ?_);refine A0 (D6 2 4 7) (A4 (A1 ?_));refine A2 (H6 (n:=8) (cs:=nums .u32 o) E kR Cc (by rw [nums_len]; omega)) E ?_;refine A2 (H6 (n:=8) (cs:=nums .u32 B7u) E kR Cc qR) E ?_;refine E6 (aS E (aS E a0)) kR (C1I _ _ (nv o) lN ⟨o,E,hol,ho32,E⟩ ⟨B7u,E,E,C1G,B2j⟩ _) E ?_;refine A0 (D8 2 4 7 34) ?_;refine C4 E ?_ ?_ <;> intro hc
  .
   have hlt:nv o < lN:=by simpa using hc
   refine A1 ?_;refine A2 (H6 (n:=8) (cs:=nums .u32 o) E kR Cc (by rw [nums_len]; omega)) E ?_;refine A3 E (A7 (vs:=nums .u32 o) E E E (by rw [nums_len,hol]; kernel_rfl) (by rw [nums_len,hol]; rfl) E9 Cs ?_);refine A0 (D5 4) (C0 (tr ?_));exact ⟨_,[],[],A00 (n:=8) E E kR Cc (by rw [nums_len]; omega),Aa _,by simp,E,E,o,E,hol,ho32,by rw [hnv,Af qO]⟩
  .
   have hge:lN<=nv o:=by simpa using hc
   refine A6 (nx (D6 2 4 7) (A1 (as_ (A0 (D8 2 4 5 7) (A4 (A1 (mv_ ?_)))))));refine A0 (E8 2 4 5 7 36) (A8 ?_);refine E5 (α:=Nat×LN×Nat) (λ x=>[(2,(vP b2)),(4,(vP b4)),(5,.int .u64 (x.2.2:Int)),(7,(vP b7)),(36,.int .i64 (x.1:Int))]) (λ x=>(b7,blk (nums .u32 B7u) 207)::[(b4,blk [.int .u32 0,.int .u32 0,.int .u32 0,.int .u32 0,.int .u32 0,.int .u32 0,.int .u32 0,.int .u32 0] 207),(b3,blk (nums .u32 b) 207),(b2,blk (nums .u32 (x.2.1++o.drop x.1)) 207)]) (λ _=>[]) (λ x=>x.1<=8∧x.2.1.length=x.1∧w32 x.2.1∧x.2.2<=1∧nv x.2.1+nv (B7u.take x.1)=nv (o.take x.1)+xp x.1 * x.2.2) (λ x=>8 - x.1) ⟨0,[],0⟩ ⟨Am _,rfl,(λ x hx=>by cases hx),by decide,rfl⟩ (E8 2 4 5 7 36) .rfl qI ?_;rintro ⟨i,q,c⟩ ⟨hi,hql,hq32,hc1,hnw⟩;dsimp only at hi hql hq32 hc1 hnw ⊢;refine A1 ?_;refine A2 (F0 E E E) E ?_;refine A0 (H1 2 4 5 7 36 37) (A4 ?_);refine C4 E ?_ ?_ <;> intro hc
   .
    have hlt:i < 8:=by simp at hc; omega
    have hpl:=A5Q (o:=q) (a:=o) hql hol hi;have hpg:=A82 (a:=o) hql;have hps:=λ x=>A5P (x:=x) hql (show i < o.length by omega);have ha0:=ho32.get i;have hb0:=C1G.get i;have ho8:B7u.length=8:=rfl;have hsb:=A93 (c:=c) ha0 hb0 hc1 E rfl;generalize hdd:(o.getD i 0+(18446744073709551616 - B7u.getD i 0)) % 18446744073709551616=dd at *;generalize hee:(dd+(18446744073709551616 - c)) % 18446744073709551616=ee at *;have hst:=B2i hql hnw hsb.1;refine A6 (nx (E8 2 4 5 7 36) (A4 (A8 (A1 (mv_ (as_ (A0 (H1 2 4 5 7 8 36) ?_)))))));refine D1 (.range 12) (zp 0 [0,0,1,0,0,0,1,0,0,0,0,0]) kR kR λ hs=>?_;refine fm_ hs ?_;refine C8 hs E (G2 (e:=31) (n:=8) (sz:=1) (i:=i) E E kR kR E qO) E ?_;refine F9 hs E (hpg▸I6 i E kR Cc qO qO) E ?_;refine C8 hs E (K6 (k':=.u64) (o.getD i 0) E kR (A5R qO)) E ?_;refine fm_ hs ?_;refine C8 hs E (G2 (e:=31) (n:=8) (sz:=1) (i:=i) E E kR kR E qO) E ?_;refine F9 hs E (I6 i E kR Cc qO qO) E ?_;refine C8 hs E (K6 (k':=.u64) (B7u.getD i 0) E kR (A5R qO)) E ?_;refine C8 hs E (hdd▸A2u 18446744073709551616 (a:=o.getD i 0) (b:=B7u.getD i 0) E E E E E E qO) E ?_;refine fm_ hs ?_;refine C8 hs E (hee▸A2u 18446744073709551616 (a:=dd) (b:=c) E E E E E E qO) E ?_;refine fa_ hs ?_;refine E3 (H1 2 4 7 8 9 36) (A1 (mv_ (mv_ ?_)));refine A2 (A8v E kR) E ?_;refine A2 (G2 (e:=31) (n:=8) (sz:=1) (i:=i) E E kR kR E qO) E ?_;refine A3 E (K8 i E E kR qO qO Cs ?_);refine A0 (E8 2 4 7 9 36) (C2 (mv_ ?_));refine A2 (P6 63 9223372036854775808 E E E E qD) E ?_;refine as_ (C6 (nb (nx (E8 2 4 5 7 36) (C2 ?_))));refine A2 (D7 ((i+1:Nat):Int) E E (F7 qO qO qO)) E ?_;refine mv_ (C6 ?_);exact rn ⟨i+1,q++[ee % 4294967296],ee / 9223372036854775808⟩ ⟨by dsimp only; omega,by simp [hql],hq32.app (λ x hx=>by rw [List.mem_singleton.1 hx]; exact Ad _ qD),hsb.2,hst⟩ (by dsimp only; omega) (E8 2 4 5 7 36) (Ce (by rw [hps])) qI
   .
    have hge8:i=8:=by simp at hc; omega
    subst hge8;have hfin:=B5J (o:=q) (a:=o) (b:=B7u) (c:=c) qO hq32 ho32 (by rw [hol]; exact hnw) (by rw [B2j]; exact hge);rw [Bv qO,List.append_nil];refine D9 (te (re (be E (nx (D2 2 4) (A1 ?_)))));refine A2 (H6 (n:=8) (cs:=nums .u32 q) E kR Cc (by rw [nums_len]; omega)) E ?_;refine A3 E (A7 (vs:=nums .u32 q) E E E (by rw [nums_len,hql]; kernel_rfl) (by rw [nums_len,hql]; rfl) E9 Cs ?_);refine A0 (D5 4) (C0 ?_);exact ⟨_,[],[],A00 (n:=8) E E kR Cc (by rw [nums_len]; omega),Aa _,by simp,E,E,q,E,hql,hq32,by rw [hfin,hnv,B2j,Nat.mod_eq_sub_mod qO,Af qO]⟩

def tmN(X Y i:Nat):Nat:=X / 2 ^ i * Y % lN
theorem B2k(X Y i:Nat):tmN X Y i=(if X / 2 ^ i % 2=1 then ((tmN X Y (i+1)+tmN X Y (i+1)) % lN+Y) % lN else (tmN X Y (i+1)+tmN X Y (i+1)) % lN):=by
  have h:X / 2 ^ i=2 * (X / 2 ^ (i+1))+X / 2 ^ i % 2:=by rw [Nat.pow_succ,<- Bu]; omega
  unfold tmN;generalize lN=L;have hb:X / 2 ^ i % 2=0∨X / 2 ^ i % 2=1:=by omega
  rcases hb with hb | hb
  . rw [if_neg qO]
    conv=>lhs; rw [h,hb,Nat.add_zero,Nat.two_mul,Nat.add_mul,Nat.add_mod]
  . rw [if_pos hb]
    conv=>lhs; rw [h,hb,Nat.add_mul,Nat.one_mul,Nat.two_mul,Nat.add_mul]
    rw [<- Nat.add_mod,Nat.mod_add_mod]
theorem C1J:w32 [0,0,0,0,0,0,0,0]:=by unfold w32; decide
theorem C3B:w32 [1,0,0,0,0,0,0,0]:=by unfold w32; decide
theorem B7v(X Y i:Nat):tmN X Y i < lN:=Ad _ qD
theorem A83(h:nums k a=nums k b):a=b:=by
  unfold nums at h
  induction a generalizing b with
  | nil=>cases b with
    | nil=>rfl
    | cons y b=>simp at h
  | cons x a ih=>cases b with
    | nil=>simp at h
    | cons y b =>
      simp only [List.map_cons,List.cons.injEq,Value.int.injEq,true_and] at h;rw [ih h.2,Int.ofNat.inj h.1]
theorem B5K(v u:Value)(x y0:Nat)(hv:Sc v x)(hu:Sc u y0)(hy:y0 < lN)(A:Mem):FnX Tryz.prog 136 [v,u] [] A λ r M J=>M=[]∧J=[]∧Sc r (x * y0 % lN):=by
 obtain ⟨a,rfl,a8,a32,av⟩:=hv;obtain ⟨b,rfl,b8,b32,bv_⟩:=hu;refine Ck (N:=27) Tryz.func136 E E E λ w=>?_;refine A9 (D2 0 1) (A1 ?_);refine A3 E (bx_ λ b2=>?_);refine A3 E (bx_ λ b3=>?_);refine A3 E (C3 (cs:=[D3,D3,D3,D3,D3,D3,D3,D3]) kR E λ b4=>?_);refine A0 (D6 2 3 4) (A1 ?_);refine A3 E (C3 (cs:=[D3,D3,D3,D3,D3,D3,D3,D3]) kR E λ b5=>?_);refine A0 (D8 2 3 4 5) (A4 (A1 (as_ (A0 (E8 2 3 4 5 6) (A8 ?_)))));refine A0H (M':=[(b5,blk (nums .u32 [0,0,0,0,0,0,0,0]) 207),(b4,blk [.int .u32 0,.int .u32 0,.int .u32 0,.int .u32 0,.int .u32 0,.int .u32 0,.int .u32 0,.int .u32 0] 207),(b3,blk (nums .u32 b) 207),(b2,blk (nums .u32 a) 207)]) (Ce E) qI ?_;refine E5 (α:=Nat×LN) (λ y=>[(2,(vP b2)),(3,(vP b3)),(4,(vP b4)),(5,(vP b5)),(6,.int .i64 ((y.1:Int) - 1))]) (λ y=>[(b5,blk (nums .u32 y.2) 207),(b4,blk [.int .u32 0,.int .u32 0,.int .u32 0,.int .u32 0,.int .u32 0,.int .u32 0,.int .u32 0,.int .u32 0] 207),(b3,blk (nums .u32 b) 207),(b2,blk (nums .u32 a) 207)]) (λ _=>[]) (λ y=>y.1<=256∧Sc (.agg (nums .u32 y.2).toArray) (tmN x y0 y.1)) (λ y=>y.1) (256,[0,0,0,0,0,0,0,0]) ⟨Av _,_,E,E,C1J,by unfold tmN; rw [Nat.div_eq_of_lt (by have:=B4H a32; rw [a8,xp8] at this; rw [<- av]; exact this),Nat.zero_mul,Nat.zero_mod]; rfl⟩ (E8 2 3 4 5 6) .rfl qI ?_;rintro ⟨j,o⟩ ⟨hj,ho⟩;dsimp only at hj ho ⊢;have ho0:=ho;obtain ⟨o_,e_,o8,o32,ov⟩:=ho;obtain rfl:o=o_:=A83 (by simpa using e_);refine A4 (A1 (mv_ ?_));refine A2 (F0 E E E) E ?_;refine A0 (H1 2 3 4 5 6 8) ?_;refine C4 E ?_ ?_ <;> intro hc
 .
  have hj0:0 < j:=by simp at hc; omega
  obtain ⟨i,rfl⟩:∃ i,j=i+1:=⟨j - 1,by omega⟩
  rw [show (((i+1:Nat):Int) - 1)=(i:Int) by omega];have hts:=B2k x y0 i;have hwb:=B5I a32 i;rw [av] at hwb;have htl:=B7v x y0 (i+1);refine A6 (nx (E8 2 3 4 5 6) (A4 (A8 (A1 ?_))));refine A2 (H6 (n:=8) (cs:=nums .u32 o) E kR Cc (by rw [nums_len]; omega)) E ?_;refine A2 (H6 (n:=8) (cs:=nums .u32 o) E kR Cc (by rw [nums_len]; omega)) E ?_;refine C7 (aS E (aS E a0)) kR (A67 _ _ _ _ ho0 ho0 htl htl _) E ?_;rintro r1 M1 J1 ⟨rfl,rfl,k1⟩;have h1:=k1;obtain ⟨s,rfl,s8,s32,sv⟩:=k1;refine A3 E (A7 (vs:=nums .u32 s) E E E (by rw [nums_len,s8]; kernel_rfl) (by rw [nums_len,nums_len,o8,s8]) E9 Cs ?_);refine A0 (E8 2 3 4 5 6) (A1 (mv_ ?_));refine A2 (A1f 32 E E E qD (A2j qO)) E ?_;refine A2 (G2 (e:=31) (n:=8) (sz:=1) (i:=i / 32) E E kR kR E qO) E ?_;refine A2 (I6 (i / 32) E kR Cc qO qO) E ?_;refine mv_ ?_;refine A2 (A1g 32 E E E qD) E ?_;refine A2 (A3b (a:=a.getD (i / 32) 0) (b:=i % 32) E E E E (by show _<=32; omega)) E ?_;refine A2 (hwb▸N4 1 2 E E E E E (by show _ < 4294967296; exact Be (Nat.div_le_self _ _) (a32.get _)) qD) E ?_;refine A2 (F0 E E E) E ?_;refine A0 (H1 2 3 4 5 6 22) ?_;refine C4 E ?_ ?_ <;> intro hc
  .
   have hb1:x / 2 ^ i % 2=1:=by revert hc; generalize x / 2 ^ i % 2=z; intro hc; simp at hc; omega
   rw [if_pos hb1] at hts;refine C2 ?_;refine A2 (H6 (n:=8) (cs:=nums .u32 s) E kR Cc (by rw [nums_len]; omega)) E ?_;refine A2 (H6 (n:=8) (cs:=nums .u32 b) E kR Cc (by rw [nums_len]; omega)) E ?_;refine C7 (aS E (aS E a0)) kR (A67 _ _ _ _ h1 ⟨b,E,b8,b32,bv_⟩ (Ad _ qD) hy _) E ?_;rintro r2 M2 J2 ⟨rfl,rfl,k2⟩;rw [<- hts] at k2;have h2:=k2;obtain ⟨t,rfl,t8,t32,tv⟩:=k2;refine A3 E (A7 (vs:=nums .u32 t) E E E (by rw [nums_len,t8]; kernel_rfl) (by rw [nums_len,nums_len,s8,t8]) E9 Cs ?_);refine C6 (nb (nx (E8 2 3 4 5 6) (C2 (mv_ ?_))));refine A2 (D7 ((i:Int) - 1) E E (W5 E qO qO)) E ?_;refine as_ (C6 ?_);exact rn (i,t) ⟨by dsimp only; omega,h2⟩ (by dsimp only; omega) (E8 2 3 4 5 6) .rfl qI
  .
   have hb1:¬ x / 2 ^ i % 2=1:=by revert hc; generalize x / 2 ^ i % 2=z; intro hc; simp at hc; omega
   rw [if_neg hb1] at hts;refine A6 (nb (nx (E8 2 3 4 5 6) (C2 (mv_ ?_))));refine A2 (D7 ((i:Int) - 1) E E (W5 E qO qO)) E ?_;refine as_ (C6 ?_);exact rn (i,s) ⟨by dsimp only; omega,by dsimp only; rw [hts]; exact h1⟩ (by dsimp only; omega) (E8 2 3 4 5 6) .rfl qI
 .
  have hj0:j=0:=by simp at hc; omega
  subst hj0;refine D9 (te (re (be E (nx (D2 4 5) (A1 ?_)))));refine A2 (H6 (n:=8) (cs:=nums .u32 o) E kR Cc (by rw [nums_len]; omega)) E ?_;refine A3 E (A7 (vs:=nums .u32 o) E E E (by rw [nums_len,o8]; kernel_rfl) (by rw [nums_len,o8]; rfl) E9 Cs ?_);refine A0 (D5 4) (C0 ?_);exact ⟨_,[],[],A00 (n:=8) E E kR Cc (by rw [nums_len]; omega),Aa _,by simp,E,E,by rw [show x * y0 % lN=tmN x y0 0 by unfold tmN; rw [Nat.pow_zero,Nat.div_one]]; exact ho0⟩
theorem A2H(pv:Value)(p:LN)(A:Mem)(hp:Rd A 1 pv p.length (nums .u8 p))(hp256:∀ x∈p,x < 256)(hpl:p.length<=1000000):FnX Tryz.prog 133 [pv] [] A λ r M J=>M=[]∧J=[]∧Sc r (bv p % lN):=by
 haveI:=hp.cel;refine Ck (N:=30) Tryz.func133 E E E λ w=>?_;refine A9 (D5 0) (A1 ?_);refine A3 E (C3 (cs:=[D3,D3,D3,D3,D3,D3,D3,D3]) kR E λ b2=>?_);refine A0 (D2 0 2) (A1 ?_);refine A3 E (C3 (cs:=[D3,D3,D3,D3,D3,D3,D3,D3]) kR E λ b3=>?_);refine A0 (D6 0 2 3) (A4 (A1 (mv_ ?_)));refine A2 (G6 (sz:=1) E kR hp) E ?_;refine A2 (D7 ((8 * p.length:Nat):Int) E E (A1I qO qO qO)) E ?_;refine A2 (D7 (((8 * p.length:Nat):Int) - 1) E E (W5 E qO qO)) E ?_;refine as_ (A0 (D8 0 2 3 4) (A8 ?_));refine A0H (M':=[(b3,blk (nums .u32 [0,0,0,0,0,0,0,0]) 207),(b2,blk [.int .u32 0,.int .u32 0,.int .u32 0,.int .u32 0,.int .u32 0,.int .u32 0,.int .u32 0,.int .u32 0] 207)]) (Ce E) qI ?_;refine E5 (α:=Nat×LN) (λ y=>[(0,pv),(2,(vP b2)),(3,(vP b3)),(4,.int .i64 ((y.1:Int) - 1))]) (λ y=>[(b3,blk (nums .u32 y.2) 207),(b2,blk [.int .u32 0,.int .u32 0,.int .u32 0,.int .u32 0,.int .u32 0,.int .u32 0,.int .u32 0,.int .u32 0] 207)]) (λ _=>[]) (λ y=>y.1<=8 * p.length∧Sc (.agg (nums .u32 y.2).toArray) (tmN (bv p) 1 y.1)) (λ y=>y.1) (8 * p.length,[0,0,0,0,0,0,0,0]) ⟨Av _,_,E,E,C1J,by unfold tmN; rw [Nat.div_eq_of_lt (by have:=C1x hp256; rwa [show 256 ^ p.length=2 ^ (8 * p.length) by rw [Nat.pow_mul]] at this),Nat.zero_mul,Nat.zero_mod]; rfl⟩ (D8 0 2 3 4) .rfl qI ?_;rintro ⟨j,o⟩ ⟨hj,ho⟩;dsimp only at hj ho ⊢;have ho0:=ho;obtain ⟨o_,e_,o8,o32,ov⟩:=ho;obtain rfl:o=o_:=A83 (by simpa using e_);refine A4 (A1 (mv_ ?_));refine A2 (F0 E E E) E ?_;refine A0 (E8 0 2 3 4 10) ?_;refine C4 E ?_ ?_ <;> intro hc
 .
  have hj0:0 < j:=by simp at hc; omega
  obtain ⟨i,rfl⟩:∃ i,j=i+1:=⟨j - 1,by omega⟩
  rw [show (((i+1:Nat):Int) - 1)=(i:Int) by omega];have hts:=B2k (bv p) 1 i;have hwb:=A62 hp256 i;have htl:=B7v (bv p) 1 (i+1);have hpb:p.getD (i / 8) 0 < 256:=getD_lt hp256 qD;refine A6 (nx (D8 0 2 3 4) (A4 (A8 (A1 ?_))));refine A2 (H6 (n:=8) (cs:=nums .u32 o) E kR Cc (by rw [nums_len]; omega)) E ?_;refine A2 (H6 (n:=8) (cs:=nums .u32 o) E kR Cc (by rw [nums_len]; omega)) E ?_;refine C7 (aS E (aS E a0)) kR (A67 _ _ _ _ ho0 ho0 htl htl _) E ?_;rintro r1 M1 J1 ⟨rfl,rfl,k1⟩;have h1:=k1;obtain ⟨s,rfl,s8,s32,sv⟩:=k1;refine A3 E (A7 (vs:=nums .u32 s) E E E (by rw [nums_len,s8]; kernel_rfl) (by rw [nums_len,nums_len,o8,s8]) E9 Cs ?_);refine A0 (D8 0 2 3 4) (A1 (mv_ (mv_ ?_)));refine A2 (A1f 8 E E E qD (A2j qO)) E ?_;refine A2 (H4 (sz:=1) (a:=i / 8) E E kR E hp qO) E ?_;refine A2 (Y9 (j:=i / 8) (u:=.int .u8 ((p.getD (i / 8) 0:Nat):Int)) (hp.mono qS) E kR (V9 qO)) E ?_;refine mv_ ?_;refine A2 (A1g 8 E E E qD) E ?_;refine A2 (A3b (a:=p.getD (i / 8) 0) (b:=i % 8) E E E E (by show _<=8; omega)) E ?_;refine A2 (hwb▸N4 1 2 E E E E E (by show _ < 256; exact Be (Nat.div_le_self _ _) hpb) qD) E ?_;refine A2 (F0 E E E) E ?_;refine A0 (E8 0 2 3 4 25) ?_;refine C4 E ?_ ?_ <;> intro hc
  .
   have hb1:bv p / 2 ^ i % 2=1:=by revert hc; generalize bv p / 2 ^ i % 2=z; intro hc; simp at hc; omega
   rw [if_pos hb1] at hts;refine C2 ?_;refine A2 (H6 (n:=8) (cs:=nums .u32 s) E kR Cc (by rw [nums_len]; omega)) E ?_;refine A2 (F1 (place:=λ i=>some (i * 1,1)) (z:=[D3,D3,D3,D3,D3,D3,D3,D3]) (λ _=>by kernel_rfl) (eS E e0) (bdS 0 1 E qR bd0)) E ?_;refine C7 (aS E (aS E a0)) kR (A67 _ _ _ 1 h1 ⟨[1,0,0,0,0,0,0,0],E,E,C3B,by decide⟩ (Ad _ qD) qD _) E ?_;rintro r2 M2 J2 ⟨rfl,rfl,k2⟩;rw [<- hts] at k2;have h2:=k2;obtain ⟨t,rfl,t8,t32,tv⟩:=k2;refine A3 E (A7 (vs:=nums .u32 t) E E E (by rw [nums_len,t8]; kernel_rfl) (by rw [nums_len,nums_len,s8,t8]) E9 Cs ?_);refine C6 (nb (nx (D8 0 2 3 4) (C2 (mv_ ?_))));refine A2 (D7 ((i:Int) - 1) E E (W5 E qO qO)) E ?_;refine as_ (C6 ?_);exact rn (i,t) ⟨by dsimp only; omega,h2⟩ (by dsimp only; omega) (D8 0 2 3 4) .rfl qI
  .
   have hb1:¬ bv p / 2 ^ i % 2=1:=by revert hc; generalize bv p / 2 ^ i % 2=z; intro hc; simp at hc; omega
   rw [if_neg hb1] at hts;refine A6 (nb (nx (D8 0 2 3 4) (C2 (mv_ ?_))));refine A2 (D7 ((i:Int) - 1) E E (W5 E qO qO)) E ?_;refine as_ (C6 ?_);exact rn (i,s) ⟨by dsimp only; omega,by dsimp only; rw [hts]; exact h1⟩ (by dsimp only; omega) (D8 0 2 3 4) .rfl qI
 .
  have hj0:j=0:=by simp at hc; omega
  subst hj0;refine D9 (te (re (be E (nx (D2 2 3) (A1 ?_)))));refine A2 (H6 (n:=8) (cs:=nums .u32 o) E kR Cc (by rw [nums_len]; omega)) E ?_;refine A3 E (A7 (vs:=nums .u32 o) E E E (by rw [nums_len,o8]; kernel_rfl) (by rw [nums_len,o8]; rfl) E9 Cs ?_);refine A0 (D5 2) (C0 ?_);exact ⟨_,[],[],A00 (n:=8) E E kR Cc (by rw [nums_len]; omega),Aa _,by simp,E,E,by rw [show bv p % lN=tmN (bv p) 1 0 by unfold tmN; rw [Nat.pow_zero,Nat.div_one,Nat.mul_one]]; exact ho0⟩
theorem A2I(v:Value)(n:Nat)(hv:Sc v n)(A:Mem):FnV Tryz.prog 118 [v] A (.agg (nums .u8 (Q9 n 32)).toArray):=by
 obtain ⟨a,rfl,a8,a32,av⟩:=hv;refine Ck (N:=21) Tryz.func118 E E E λ w=>?_;refine A9 (D5 0) (A1 ?_);refine A3 E (bx_ λ b1=>?_);refine A3 E (C3 (cs:=[zu8,zu8,zu8,zu8,zu8,zu8,zu8,zu8,zu8,zu8,zu8,zu8,zu8,zu8,zu8,zu8,zu8,zu8,zu8,zu8,zu8,zu8,zu8,zu8,zu8,zu8,zu8,zu8,zu8,zu8,zu8,zu8]) kR E λ b2=>?_);refine A0 (D2 1 2) (A1 ?_);refine A3 E (C3 (cs:=[zu8,zu8,zu8,zu8,zu8,zu8,zu8,zu8,zu8,zu8,zu8,zu8,zu8,zu8,zu8,zu8,zu8,zu8,zu8,zu8,zu8,zu8,zu8,zu8,zu8,zu8,zu8,zu8,zu8,zu8,zu8,zu8]) kR E λ b3=>?_);refine A0 (D6 1 2 3) (A4 (A1 (mv_ (A0 (D8 1 2 3 5) (A8 ?_)))));refine A0H (M':=[(b3,blk (nums .u8 (Q9 n 0++(List.replicate 32 0).drop 0)) 188),(b2,blk [.int .u8 0,.int .u8 0,.int .u8 0,.int .u8 0,.int .u8 0,.int .u8 0,.int .u8 0,.int .u8 0,.int .u8 0,.int .u8 0,.int .u8 0,.int .u8 0,.int .u8 0,.int .u8 0,.int .u8 0,.int .u8 0,.int .u8 0,.int .u8 0,.int .u8 0,.int .u8 0,.int .u8 0,.int .u8 0,.int .u8 0,.int .u8 0,.int .u8 0,.int .u8 0,.int .u8 0,.int .u8 0,.int .u8 0,.int .u8 0,.int .u8 0,.int .u8 0] 188),(b1,blk (nums .u32 a) 207)]) (Ce E) qI ?_;refine E5 (α:=Nat) (λ i=>[(1,(vP b1)),(2,(vP b2)),(3,(vP b3)),(5,.int .i64 (i:Int))]) (λ i=>[(b3,blk (nums .u8 (Q9 n i++(List.replicate 32 0).drop i)) 188),(b2,blk [.int .u8 0,.int .u8 0,.int .u8 0,.int .u8 0,.int .u8 0,.int .u8 0,.int .u8 0,.int .u8 0,.int .u8 0,.int .u8 0,.int .u8 0,.int .u8 0,.int .u8 0,.int .u8 0,.int .u8 0,.int .u8 0,.int .u8 0,.int .u8 0,.int .u8 0,.int .u8 0,.int .u8 0,.int .u8 0,.int .u8 0,.int .u8 0,.int .u8 0,.int .u8 0,.int .u8 0,.int .u8 0,.int .u8 0,.int .u8 0,.int .u8 0,.int .u8 0] 188),(b1,blk (nums .u32 a) 207)]) (λ _=>[]) (λ i=>i<=32) (λ i=>32 - i) 0 (Am _) (D8 1 2 3 5) .rfl qI ?_;rintro i hi;have hdl:=N1 n i;have hpl:(Q9 n i++(List.replicate 32 0).drop i).length=32:=A5Q hdl qM hi;refine A1 ?_;refine A2 (F0 E E E) E ?_;refine A0 (E8 1 2 3 5 6) (A4 ?_);refine C4 E ?_ ?_ <;> intro hc
 .
  have hlt:i < 32:=by simp at hc; omega
  have hwb:=B2f a32 i;rw [av] at hwb;refine A6 (nx (D8 1 2 3 5) (A4 (A8 (A1 (mv_ (as_ (A0 (E8 1 2 3 4 5) (C2 ?_))))))));refine mv_ (mv_ ?_);refine A2 (A1f 4 E E E qD (A2j qO)) E ?_;refine A2 (G2 (e:=31) (n:=8) (sz:=1) (i:=i / 4) E E kR kR E qO) E ?_;refine A2 (I6 (i / 4) E kR Cc qO qO) E ?_;refine mv_ ?_;refine A2 (A1g 4 E E E qD) E ?_;refine A2 (D7 ((8 * (i % 4):Nat):Int) E E (A1I qO qO qO)) E ?_;refine A2 (A3b (a:=a.getD (i / 4) 0) (b:=8 * (i % 4)) E E E E (by show _<=32; omega)) E ?_;refine A2 (hwb▸A04 E kR) E ?_;refine A2 (G2 (e:=5) (n:=32) (sz:=1) (i:=i) E E kR kR E qO) E ?_;refine A3 E (K8 i E E kR qO qO Cs ?_);refine C6 (nb (nx (D8 1 2 3 5) (C2 ?_)));refine A2 (D7 ((i+1:Nat):Int) E E (F7 qO qO qO)) E ?_;refine mv_ (C6 ?_);exact rn (i+1) qO qO (D8 1 2 3 5) (Ce (by rw [A5P hdl (by simpa using hlt),B2e])) qI
 .
  have hge:i=32:=by simp at hc; omega
  subst hge;rw [show (List.replicate 32 0).drop 32=([]:LN) from rfl,List.append_nil] at *;refine D9 (te (re (be E (nx (D2 2 3) (A1 ?_)))));refine A2 (H6 (n:=32) (cs:=nums .u8 (Q9 n 32)) E kR Cc (by rw [nums_len]; omega)) E ?_;refine A3 E (A7 (vs:=nums .u8 (Q9 n 32)) E E E (by rw [nums_len,N1]; kernel_rfl) (by rw [nums_len,N1]; rfl) E9 Cs ?_);refine A0 (D5 2) (C0 ?_);exact ⟨_,[],[],A00 (n:=32) E E kR Cc (by rw [nums_len,N1]),Aa _,by simp,E,E,E⟩

end Go.Proofs.YtjkpfgjfpbihaaaGreatDoor
set_option maxRecDepth 10000
namespace Go.Ed
variable{n:Nat}[NeZero n]
structure Fld(n:Nat)[NeZero n](d:Fin n) where
  inv:Fin n->Fin n
  ii:Fin n
  mul0:∀ a b:Fin n,a * b=0->a=0∨b=0
  one:(1:Fin n)≠0
  two:(2:Fin n)≠0
  hinv:∀ a:Fin n,a≠0->a * inv a=1
  hii:ii * ii = -1
  hd:∀ s t:Fin n,s * s=d * (t * t)->t=0
variable{d:Fin n}(F:Fld n d)
omit F in
theorem cy1{u v u' v' x1 y1 x3 y3 G H G' H':Fin n}
    (hy:(v * G * H * y3+u * H * G * x3) * (G' * H' - d * x1 * y1 * (u' * H') * (v' * G'))=(y1 * (v' * G') * H'+x1 * (u' * H') * G') * (G * H - d * (u * H) * (v * G) * x3 * y3)) :
    G * H * (G' * H') * ((v*y3+u*x3) * (1 - d*x1*u'*y1*v'))=G * H * (G' * H') * ((y1*v'+x1*u') * (1 - d*u*x3*v*y3)):=by
  have a:G * H * (G' * H') * ((v*y3+u*x3) * (1 - d*x1*u'*y1*v'))=(v * G * H * y3+u * H * G * x3) * (G' * H' - d * x1 * y1 * (u' * H') * (v' * G')):=by clear hy; grind
  have b:G * H * (G' * H') * ((y1*v'+x1*u') * (1 - d*u*x3*v*y3))=(y1 * (v' * G') * H'+x1 * (u' * H') * G') * (G * H - d * (u * H) * (v * G) * x3 * y3):=by clear hy; grind
  rw [a,b,hy]
structure Rep(X Y Z T:Fin n)(P:Fin n×Fin n):Prop where
  z:Z≠0
  x:X=P.1 * Z
  y:Y=P.2 * Z
  t:T=P.1 * P.2 * Z
end Go.Ed

namespace Go.Proofs.YtjkpfgjfpbihaaaGreatDoor
open Go.Px Go.Ed
instance:NeZero p25:=⟨by decide⟩
theorem B88:0 < p25:=by decide
def fF(x:Nat):Fin p25:=⟨x % p25,Ad _ B88⟩
structure PR(P:Pt)(Q:Fin p25×Fin p25):Prop where
  rep:Rep (fF P.X) (fF P.Y) (fF P.Z) (fF P.T) Q
  x:P.X < p25
  y:P.Y < p25
  z:P.Z < p25
  t:P.T < p25
open Go.Px Go.Ed
noncomputable def U5(b:LN):Option Pt:=if b.length=32 then (match atN (rdN b) (decide (128<=b.getD 31 0)) with
  | some x=>if pB (pAt x (rdN b))=b then some (pAt x (rdN b)) else none
  | none=>none) else none
def A94(P Q:Pt):Bool:=decide (fM P.X Q.Z=fM Q.X P.Z) && decide (fM P.Y Q.Z=fM Q.Y P.Z)
end Go.Proofs.YtjkpfgjfpbihaaaGreatDoor
namespace Go.Px
variable{α:Type}
noncomputable def L6(x:Nat)(f:Nat->α):α:=Nat.rec (motive:=λ _=>α) (f 0) (λ n _=>f (Nat.succ n)) x
theorem U9(x:Nat)(f:Nat->α):L6 x f=f x:=by cases x <;> rfl
def B4o(x n m:Nat):Nat:=Nat.lor (Nat.shiftRight x n) (Nat.mod (Nat.shiftLeft x m) 4294967296)
def rF:List Nat->List Nat->S8->S8
  | k::ks,w::ws,s=>rF ks ws (s.step k w)
  | _,_,s=>s
theorem B89(ks ws:List Nat)(h:ks.length=ws.length)(k w:Nat)(s:S8):rF (ks++[k]) (ws++[w]) s=(rF ks ws s).step k w:=by
  induction ks generalizing ws s with
  | nil =>
    cases ws with
    | nil=>rfl
    | cons w ws=>simp at h
  | cons k' ks ih =>
    cases ws with
    | nil=>simp at h
    | cons w' ws=>exact ih ws (by simpa using h) (s.step k' w')
theorem B2l(ks ws:List Nat)(s:S8)(n:Nat)(h1:n<=ks.length)(h2:n<=ws.length):rounds ks ws s n=rF (ks.take n) (ws.take n) s:=by
  induction n with
  | zero=>rfl
  | succ n ih =>
    rw [rounds,ih (by omega) (by omega),Bh,Bh,Ab (by omega),Ab (by omega)];simp only [Option.toList_some];rw [B89 _ _ (by simp; omega),Aj,Aj,Ab (by omega),Ab (by omega)];rfl
def t1F(e f g h k w:Nat):Nat :=
  Nat.mod (Nat.add (Nat.mod (Nat.add (Nat.mod (Nat.add (Nat.mod (Nat.add h (Nat.xor (Nat.xor (B4o e 6 26) (B4o e 11 21)) (B4o e 25 7))) 4294967296) (Nat.xor (Nat.land e f) (Nat.land (Nat.xor 4294967295 e) g))) 4294967296) k) 4294967296) w) 4294967296
def aF(t a b c:Nat):Nat :=
  Nat.mod (Nat.add (Nat.mod (Nat.add t (Nat.xor (Nat.xor (B4o a 2 30) (B4o a 13 19)) (B4o a 22 10))) 4294967296) (Nat.xor (Nat.xor (Nat.land a b) (Nat.land a c)) (Nat.land b c))) 4294967296
noncomputable def rFF(ks:List Nat):List Nat->Nat->Nat->Nat->Nat->Nat->Nat->Nat->Nat->S8 :=
  List.rec (motive:=λ _=>List Nat->Nat->Nat->Nat->Nat->Nat->Nat->Nat->Nat->S8) (λ _ a b c d e f g h=>⟨a,b,c,d,e,f,g,h⟩)
    (λ k _ ih ws=>List.rec (motive:=λ _=>Nat->Nat->Nat->Nat->Nat->Nat->Nat->Nat->S8) (λ a b c d e f g h=>⟨a,b,c,d,e,f,g,h⟩)
      (λ w ws _ a b c d e f g h=>L6 (t1F e f g h k w) λ t=>L6 (aF t a b c) λ a'=>L6 (Nat.mod (Nat.add d t) 4294967296) λ e'=>ih ws a' a b c e' e f g) ws) ks
theorem C1K(ks ws:List Nat)(s:S8):rFF ks ws s.a s.b s.c s.d s.e s.f s.g s.h=rF ks ws s:=by
  induction ks generalizing ws s with
  | nil=>cases ws <;> rfl
  | cons k ks ih =>
    cases ws with
    | nil=>rfl
    | cons w ws =>
      have e:rFF (k::ks) (w::ws) s.a s.b s.c s.d s.e s.f s.g s.h=L6 (t1F s.e s.f s.g s.h k w) λ t=>L6 (aF t s.a s.b s.c) λ a'=>L6 (Nat.mod (Nat.add s.d t) 4294967296) λ e'=>rFF ks ws a' s.a s.b s.c e' s.e s.f s.g:=rfl;rw [e,U9,U9,U9];exact ih ws (s.step k w)
noncomputable def B5L:Nat->List Nat->Nat:=λ n=>Nat.rec (motive:=λ _=>List Nat->Nat) (λ l=>List.rec (motive:=λ _=>Nat) 0 (λ x _ _=>x) l) (λ _ ih l=>List.rec (motive:=λ _=>Nat) 0 (λ _ r _=>ih r) l) n
theorem A5S(n:Nat)(l:List Nat):B5L n l=l.getD n 0:=by
  induction n generalizing l with
  | zero=>cases l <;> rfl
  | succ n ih =>
    cases l with
    | nil=>rfl
    | cons x r=>exact ih r
def wnF(w16 w15 w7 w2:Nat):Nat :=
  Nat.mod (Nat.add (Nat.mod (Nat.add (Nat.mod (Nat.add w16 (Nat.xor (Nat.xor (B4o w15 7 25) (B4o w15 18 14)) (Nat.shiftRight w15 3))) 4294967296) w7) 4294967296) (Nat.xor (Nat.xor (B4o w2 17 15) (B4o w2 19 13)) (Nat.shiftRight w2 10))) 4294967296
noncomputable def wF(n:Nat):List Nat->List Nat :=
  Nat.rec (motive:=λ _=>List Nat->List Nat) (λ r=>r) (λ _ ih r=>L6 (wnF (B5L 15 r) (B5L 14 r) (B5L 6 r) (B5L 1 r)) λ x=>ih (x::r)) n
theorem A3A{l:List Nat}{k:Nat}(h:k < l.length):l.reverse.getD k 0=l.getD (l.length - 1 - k) 0:=by rw [Aj,Aj,List.getElem?_reverse h]
theorem C3C(w:List Nat)(hw:16<=w.length)(n m:Nat):wF n (wx w m).reverse=(wx w (m+n)).reverse:=by
  induction n generalizing m with
  | zero=>rfl
  | succ n ih =>
    have e:wF (n+1) (wx w m).reverse=L6 (wnF (B5L 15 (wx w m).reverse) (B5L 14 (wx w m).reverse) (B5L 6 (wx w m).reverse) (B5L 1 (wx w m).reverse)) λ x=>wF n (x::(wx w m).reverse):=rfl;have hl:=A6y w m;rw [e,U9,A5S,A5S,A5S,A5S,A3A (by omega),A3A (by omega),A3A (by omega),A3A (by omega),hl]
    have e2:wnF ((wx w m).getD (w.length+m - 1 - 15) 0) ((wx w m).getD (w.length+m - 1 - 14) 0) ((wx w m).getD (w.length+m - 1 - 6) 0) ((wx w m).getD (w.length+m - 1 - 1) 0)=B4B (wx w m) (w.length+m):=by rw [show w.length+m - 1 - 15=w.length+m - 16 by omega,show w.length+m - 1 - 14=w.length+m - 15 by omega,show w.length+m - 1 - 6=w.length+m - 7 by omega,show w.length+m - 1 - 1=w.length+m - 2 by omega];rfl
    rw [e2,show B4B (wx w m) (w.length+m)::(wx w m).reverse=(wx w (m+1)).reverse by rw [wx,List.reverse_append]; rfl,ih (m+1),show m+1+n=m+(n+1) by omega]
def C3D(a b c d:Nat):Nat:=Nat.add (Nat.mul (Nat.add (Nat.mul (Nat.add (Nat.mul a 256) b) 256) c) 256) d
noncomputable def A45:Nat->List Nat->List Nat->List Nat
  | 0,_,r=>r
  | n+1,a::b::c::d::p,r=>L6 (C3D a b c d) λ x=>A45 n p (x::r)
  | _+1,_,r=>r
theorem B2m(n:Nat)(p:List Nat)(i:Nat)(h:4 * (i+n)<=p.length)(r:List Nat):A45 n (p.drop (4 * i)) r=((List.range' i n).map (C0y p)).reverse++r:=by
  induction n generalizing i r with
  | zero=>rfl
  | succ n ih =>
    have e:p.drop (4 * i)=p.getD (4 * i) 0::p.getD (4 * i+1) 0::p.getD (4 * i+2) 0::p.getD (4 * i+3) 0::p.drop (4 * (i+1)):=by rw [Br (by omega),Br (by omega),Br (by omega),Br (by omega)];simp only [List.getD_eq_getElem?_getD];rw [Ab (by omega),Ab (by omega),Ab (by omega),Ab (by omega)];rfl
    rw [e];show L6 _ _=_;rw [U9,ih (i+1) (by omega),List.range'_succ,List.map_cons,List.reverse_cons,Ap];rfl
noncomputable def C3E(a b c d e f g h:Nat)(p:List Nat)(k:Nat->Nat->Nat->Nat->Nat->Nat->Nat->Nat->List Nat):List Nat :=
  match rFF A2c (wF 48 (A45 16 p [])).reverse a b c d e f g h with
  | ⟨a1,b1,c1,d1,e1,f1,g1,h1⟩ =>
    L6 (Nat.mod (Nat.add a a1) 4294967296) λ a=>L6 (Nat.mod (Nat.add b b1) 4294967296) λ b=>L6 (Nat.mod (Nat.add c c1) 4294967296) λ c=>L6 (Nat.mod (Nat.add d d1) 4294967296) λ d =>
    L6 (Nat.mod (Nat.add e e1) 4294967296) λ e=>L6 (Nat.mod (Nat.add f f1) 4294967296) λ f=>L6 (Nat.mod (Nat.add g g1) 4294967296) λ g=>L6 (Nat.mod (Nat.add h h1) 4294967296) λ h=>k a b c d e f g h
theorem B9a(s:S8)(p:List Nat)(hp:64<=p.length)(k:Nat->Nat->Nat->Nat->Nat->Nat->Nat->Nat->List Nat):C3E s.a s.b s.c s.d s.e s.f s.g s.h p k=(λ t:S8=>k t.a t.b t.c t.d t.e t.f t.g t.h) (X4 A2c s p):=by
  have h1:A45 16 p []=(Z8 p 16).reverse:=by have:=B2m 16 p 0 (by omega) [];rw [List.append_nil] at this;rw [show p=p.drop (4 * 0) from rfl,this,Z8,List.range_eq_range'];rfl
  have hw:(Z8 p 16).length=16:=by simp [Z8]
  have h2:(wF 48 (A45 16 p [])).reverse=wx (Z8 p 16) 48:=by have:=C3C (Z8 p 16) (by omega) 48 0;rw [h1,show (Z8 p 16).reverse=(wx (Z8 p 16) 0).reverse from rfl,this,List.reverse_reverse]
  have h3:rFF A2c (wF 48 (A45 16 p [])).reverse s.a s.b s.c s.d s.e s.f s.g s.h=rounds A2c (wx (Z8 p 16) 48) s 64:=by have hl:=A6y (Z8 p 16) 48;rw [h2,C1K,B2l _ _ _ _ (by decide) (by omega),Aw (show A2c.length<=64 by decide),Aw (by omega)]
  unfold C3E X4;rw [h3];generalize rounds A2c (wx (Z8 p 16) 48) s 64=r;obtain ⟨a1,b1,c1,d1,e1,f1,g1,h1⟩:=r;simp only [U9];rfl
noncomputable def B5M:Nat->Nat->Nat->Nat->Nat->Nat->Nat->Nat->Nat->List Nat->List Nat
  | 0,a,b,c,d,e,f,g,h,_=>[a,b,c,d,e,f,g,h].flatMap B8e
  | n+1,a,b,c,d,e,f,g,h,p=>C3E a b c d e f g h p λ a b c d e f g h=>B5M n a b c d e f g h (p.drop 64)
theorem B5N(n:Nat)(s:S8)(p:List Nat)(hp:64 * n<=p.length):B5M n s.a s.b s.c s.d s.e s.f s.g s.h p=(A4D A2c n s p).bytes:=by
  induction n generalizing s p with
  | zero=>rfl
  | succ n ih =>
    have e:X4 A2c s (p.take 64)=X4 A2c s p:=by
      unfold X4
      have:Z8 (p.take 64) 16=Z8 p 16:=by
        unfold Z8;refine Bt λ i hi=>?_;have hi:=List.mem_range.1 hi;unfold C0y
        have g:∀ j,j < 64->(p.take 64).getD j 0=p.getD j 0:=λ j hj=>by rw [Aj,Aj,Cb hj]
        rw [g _ (by omega),g _ (by omega),g _ (by omega),g _ (by omega)]
      rw [this]
    rw [B5M,B9a s p (by omega),A4D,e];exact ih _ _ (by rw [Bg]; omega)
noncomputable def A4f(p:List Nat):List Nat:=B5M ((N2 p).length / 64) 1779033703 3144134277 1013904242 2773480762 1359893119 2600822924 528734635 1541459225 (N2 p)
theorem W9(p:List Nat):A4f p=X8 p:=B5N _ A27 (N2 p) (by omega)
noncomputable def A7X(key p:List Nat):List Nat:=A4f (A28 (if 64 < key.length then A4f key else key) 92++A4f (A28 (if 64 < key.length then A4f key else key) 54++p))
theorem A84(key p:List Nat):A7X key p=A7y key p:=by unfold A7X A7y A01;simp only [W9]
theorem B5O(key info:List Nat):Z5 key info 32=A7X key (info++[1]):=by have h:(A7y key ([]++(info++[1]))).length=32:=A0e _;rw [A84];show ([]++A7y key ([]++(info++[1]))).take 32=_;rw [List.nil_append,List.nil_append,Aw (by rw [<- List.nil_append (info++[1])]; omega)]
end Go.Px

namespace Go.Proofs.YtjkpfgjfpbihaaaGreatDoor
open Go.Px Go.Ed
def C1L:Nat:=bxN
def C1M:Nat:=s45
def C3F:Nat:=d2N
theorem B2n:pS=pAt C1L C1M:=rfl
theorem C1N:d2N=C3F:=rfl
def kM(x y:Nat):Nat:=Nat.mod (Nat.mul x y) 57896044618658097711785492504343953926634992332820282019728792003956564819949
def kA(x y:Nat):Nat:=Nat.mod (Nat.add x y) 57896044618658097711785492504343953926634992332820282019728792003956564819949
def kS(x y:Nat):Nat:=Nat.mod (Nat.sub (Nat.add x 57896044618658097711785492504343953926634992332820282019728792003956564819949) y) 57896044618658097711785492504343953926634992332820282019728792003956564819949
variable{α:Type}
noncomputable def B9b(X1 Y1 Z1 T1 X2 Y2 Z2 T2:Nat)(k:Nat->Nat->Nat->Nat->α):α :=
  L6 (kM (kS Y1 X1) (kS Y2 X2)) λ a=>L6 (kM (kA Y1 X1) (kA Y2 X2)) λ b=>L6 (kM (kM T1 16295367250680780974490674513165176452449235426866156013048779062215315747161) T2) λ c=>L6 (kM Z1 Z2) λ z0=>L6 (kA z0 z0) λ z =>
  L6 (kS b a) λ e=>L6 (kS z c) λ f=>L6 (kA z c) λ g=>L6 (kA b a) λ h=>L6 (kM e f) λ x=>L6 (kM g h) λ y=>L6 (kM f g) λ z=>L6 (kM e h) λ t=>k x y z t
theorem B2o(P Q:Pt)(k:Nat->Nat->Nat->Nat->α):B9b P.X P.Y P.Z P.T Q.X Q.Y Q.Z Q.T k=k (A7z d2N P Q).X (A7z d2N P Q).Y (A7z d2N P Q).Z (A7z d2N P Q).T:=by rw [C1N];unfold B9b;simp only [U9];rfl
noncomputable def tF(n:Nat)(P:Pt):Nat->Nat->Nat->Nat->Nat->Pt:=λ k =>
  Nat.rec (motive:=λ _=>Nat->Nat->Nat->Nat->Pt) (λ X Y Z T=>⟨X,Y,Z,T⟩)
    (λ i ih X Y Z T=>B9b X Y Z T X Y Z T λ X Y Z T=>Nat.rec (motive:=λ _=>Pt) (ih X Y Z T) (λ _ _=>B9b X Y Z T P.X P.Y P.Z P.T λ X Y Z T=>ih X Y Z T) (Nat.mod (Nat.shiftRight n i) 2)) k
theorem B9c(n i:Nat)(P Q:Pt):tF n P (i+1) Q.X Q.Y Q.Z Q.T=tF n P i (pSt P n i Q).X (pSt P n i Q).Y (pSt P n i Q).Z (pSt P n i Q).T:=by
  have e:tF n P (i+1) Q.X Q.Y Q.Z Q.T=B9b Q.X Q.Y Q.Z Q.T Q.X Q.Y Q.Z Q.T λ X Y Z T=>Nat.rec (motive:=λ _=>Pt) (tF n P i X Y Z T) (λ _ _=>B9b X Y Z T P.X P.Y P.Z P.T λ X Y Z T=>tF n P i X Y Z T) (Nat.mod (Nat.shiftRight n i) 2):=rfl;rw [e,B2o,show Nat.mod (Nat.shiftRight n i) 2=n / 2 ^ i % 2 by rw [<- Bz]; rfl];have h2:n / 2 ^ i % 2 < 2:=Ad _ qD;rcases (show n / 2 ^ i % 2=0∨n / 2 ^ i % 2=1 by omega) with h | h
  . rw [B2c qO,h];show tF n P i _ _ _ _=_;rfl
  . rw [B2b h,h];show B9b _ _ _ _ P.X P.Y P.Z P.T _=_;rw [B2o]
theorem B7w(n:Nat)(P:Pt):∀ i,i<=256->tF n P i (pTk P n (256 - i)).X (pTk P n (256 - i)).Y (pTk P n (256 - i)).Z (pTk P n (256 - i)).T=A0P P n
  | 0,_=>rfl
  | i+1,h=>by rw [B9c,<- A81 qO]; exact B7w n P i qO
theorem A5T(n:Nat)(P:Pt):A0P P n=tF n P 256 0 1 1 0:=(B7w n P 256 (Av _)).symm
open Go.Px Go.Ed
def B2p(seed:LN):Nat:=bv (B0p ([115,101,99,114,101,116]++seed)) % lN
def B7x(seed msg:LN):Nat:=bv (B0p ([110,111,110,99,101]++seed++msg)) % lN
def A6o(r p msg:LN):Nat:=bv (B0p ([99,104,97,108,108,101,110,103,101]++r++p++msg)) % lN
noncomputable def A95(seed:LN):LN:=pB (A0P pS (B2p seed))
noncomputable def rB(seed msg:LN):LN:=pB (A0P pS (B7x seed msg))
noncomputable def sN(seed msg:LN):Nat:=(A6o (rB seed msg) (A95 seed) msg * B2p seed % lN+B7x seed msg) % lN
noncomputable def B2q(seed msg:LN):LN:=rB seed msg++Q9 (sN seed msg) 32
def C2Y(oa ob:Option Pt)(f:Pt->Pt->Bool):Bool:=match oa,ob with
  | some a,some r=>f a r
  | _,_=>false
theorem A68(a r:Pt)(f:Pt->Pt->Bool):C2Y (some a) (some r) f=f a r:=rfl
theorem B5P(o:Option Pt)(f:Pt->Pt->Bool):C2Y none o f=false:=by cases o <;> rfl
theorem B5Q(o:Option Pt)(f:Pt->Pt->Bool):C2Y o none f=false:=by cases o <;> rfl
noncomputable def A69(p msg sig:LN):Bool:=decide (sig.length=64) && C2Y (U5 p) (U5 (sig.take 32)) λ a r=>decide (Q9 (bv (sig.drop 32) % lN) 32=sig.drop 32) && A94 (A0P pS (bv (sig.drop 32) % lN)) (A7z d2N r (A0P a (A6o (sig.take 32) p msg)))
theorem A7a:0 < lN:=by decide
theorem B2r(s:LN):B2p s < lN:=Ad _ A7a
theorem B2s(s m:LN):B7x s m < lN:=Ad _ A7a
theorem B9d(r p m:LN):A6o r p m < lN:=Ad _ A7a
theorem A5U(s:LN):(A95 s).length=32:=B7s _
theorem B2t(s m:LN):(rB s m).length=32:=B7s _
theorem A85(s m:LN):(B2q s m).length=64:=by simp [B2q,B2t,N1]
/-! ### The example whose bit is turned -/
end Go.Proofs.YtjkpfgjfpbihaaaGreatDoor
