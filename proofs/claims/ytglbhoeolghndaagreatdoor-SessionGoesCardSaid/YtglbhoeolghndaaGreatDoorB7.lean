/- Part 7 of the texts of this claim, one behind the other. -/
import Derived.Test.YtglbhoeolghndaaGreatDoorB6
import Derived.SizedLaws
import Derived.Test.YtglbhoeolghndaaGreatDoorRows
set_option linter.unusedVariables false
set_option linter.unusedSimpArgs false
set_option maxRecDepth 100000
open Go.Proofs.Tryz
noncomputable section
namespace Go.Proofs.YtglbhoeolghndaaGreatDoor
open Go.Px
def P2(w:LN):LN:=(λe:LN=>(e.set 0 (e.getD 0 0 &&& 248)).set 31 ((e.set 0 (e.getD 0 0 &&& 248)).getD 31 0%128 ||| 64)) (H5 w 32)
theorem B3M(w:LN):H5 w 32=w.take 32++(List.replicate 32 0).drop w.length:=by unfold H5;rw [List.drop_replicate]
theorem A5L(w:LN):(P2 w).length=32:=by simp [P2,L7]
structure Lad where
  a:Nat
  b:Nat
  c:Nat
  d:Nat
def A73(u:Nat)(s:Lad):Lad :=
  let p:=fA s.a s.b
  let q:=fS s.a s.b
  let ss:=fM p p
  let tt:=fM q q
  let e:=fS ss tt
  let da:=fM (fS s.c s.d) p
  let cb:=fM (fA s.c s.d) q
  ⟨fM ss tt,fM e (fA ss (fM 121665 e)),fM (fA da cb) (fA da cb),fM u (fM (fS da cb) (fS da cb))⟩
def swL(b:Bool)(s:Lad):Lad:=if b then ⟨s.c,s.d,s.a,s.b⟩ else s
def A6K(u n:Nat):Nat->Lad
  | 0=>⟨1,0,u,1⟩
  | k+1=>(λbt=>swL bt (A73 u (swL bt (A6K u n k)))) (decide (n/2^(254-k)%2=1))
theorem A74{u n i:Nat}(h:i<255):A6K u n (255-i)=swL (decide (n/2^i%2=1)) (A73 u (swL (decide (n/2^i%2=1)) (A6K u n (255-(i+1))))):=by
  obtain ⟨k,hk⟩:∃k,255-i=k+1:=⟨254-i,by omega⟩
  have e1:255-(i+1)=k:=by omega
  have e2:i=254-k:=by omega
  rw [hk,e1,e2];rfl
def x25(s p:LN):LN:=A02 8 32 (fM (A6K (rdN p) (bv (P2 s)) 255).a (fI (A6K (rdN p) (bv (P2 s)) 255).b)) 255
def C0Q:LN:=9::List.replicate 31 0
def A1E(s:LN):LN:=x25 s C0Q
theorem A1F(s p:LN):(x25 s p).length=32:=by simp [x25,P6]
theorem B3N(s p:LN):∀x∈x25 s p,x<256:=A07 _ _
theorem B80{x:Nat}(h:x<256):(x &&& 248)<256:=Be Nat.and_le_left h
theorem or64{x:Nat}(h:x<128):(x ||| 64)<256:=Bp (Nat.or_lt_two_pow (n:=7) h qD) qD
theorem B3O{w:LN}(h:∀x∈w,x<256):∀x∈P2 w,x<256:=by
  intro x hx;have hf:=A3j h 32;unfold P2 at hx;rcases Bf hx with h1|rfl
  . rcases Bf h1 with h1|rfl
    . exact hf x h1
    . exact B80 (Go.Px.getD_lt hf qD)
  . exact or64 (Ad _ qD)
theorem C0R(v:Value)(wc:LN)(A:Mem)(hv:By A v wc):FnV prog 112 [v] A (.agg (nums .u8 (P2 wc)).toArray):=by haveI:=hv.cel;have hvl:=hv.len;refine Ck (N:=17) func112 E E E λw=>?_;refine A8 (D4 0) (A1 ?_);refine A2 E (C2 (cs:=[zu8,zu8,zu8,zu8,zu8,zu8,zu8,zu8,zu8,zu8,zu8,zu8,zu8,zu8,zu8,zu8,zu8,zu8,zu8,zu8,zu8,zu8,zu8,zu8,zu8,zu8,zu8,zu8,zu8,zu8,zu8,zu8]) kR E λb2=>?_);refine A0 (D0 0 2) (A1 ?_);refine A2 E (C2 (cs:=[zu8,zu8,zu8,zu8,zu8,zu8,zu8,zu8,zu8,zu8,zu8,zu8,zu8,zu8,zu8,zu8,zu8,zu8,zu8,zu8,zu8,zu8,zu8,zu8,zu8,zu8,zu8,zu8,zu8,zu8,zu8,zu8]) kR E λb3=>?_);refine A0 (D6 0 2 3) ?_;refine A0S (M':=[(b3,blk (nums .u8 (List.replicate 32 0)) 194),(b2,blk [zu8,zu8,zu8,zu8,zu8,zu8,zu8,zu8,zu8,zu8,zu8,zu8,zu8,zu8,zu8,zu8,zu8,zu8,zu8,zu8,zu8,zu8,zu8,zu8,zu8,zu8,zu8,zu8,zu8,zu8,zu8,zu8] 194)]) (Ce E) qI ?_;refine A1 ?_;refine lQ_ (B1W (sz:=1) (e:=5) (n:=32) E kR kR) ?_;refine mv_ ?_;refine A2 E (A4x (e:=5) (us:=wc) (ws:=List.replicate 32 0) (ws':=H5 wc 32) (by_:=1) E E kR (hv.rd.mono qS) qM (B3M wc) Cs E ?_);have hfl:=L7 wc 32;have hflt:=A3j hv.lt 32;have hcl:P2 wc=((H5 wc 32).set 0 ((H5 wc 32).getD 0 0 &&& 248)).set 31 (((H5 wc 32).set 0 ((H5 wc 32).getD 0 0 &&& 248)).getD 31 0%128 ||| 64):=rfl;generalize H5 wc 32=e at *;have he0:e.getD 0 0<256:=Go.Px.getD_lt hflt qD;have he1:(e.set 0 (e.getD 0 0 &&& 248)).getD 31 0<256:=Go.Px.getD_lt (λx hx=>by rcases Bf hx with h|rfl;exact hflt x h;exact B80 he0) qD;refine A0 (D0 2 3) (A1 ?_);refine lQ_ (F9 (e:=5) (n:=32) (sz:=1) (i:=0) E E kR kR E qO) ?_;refine lQ_ (I3 0 E kR Cc E qO) ?_;refine lQ_ (A5g (b:=248) E E E (by show _<256;exact he0) qD) ?_;refine lQ_ (F9 (e:=5) (n:=32) (sz:=1) (i:=0) E E kR kR E qO) ?_;refine A2 E (K6 0 E E kR E qO Cs ?_);refine A0 (D0 2 3) (A1 ?_);refine lQ_ (F9 (e:=5) (n:=32) (sz:=1) (i:=31) E E kR kR E qO) ?_;refine lQ_ (I3 31 E kR Cc E (by rw [Bk];omega)) ?_;refine lQ_ (N5 7 128 E E E E E (by show _<256;exact he1) qD) ?_;refine lQ_ (B6b (b:=64) E E E (by show _<256;exact Nat.lt_trans (Ad _ qD) qD) qD) ?_;refine lQ_ (F9 (e:=5) (n:=32) (sz:=1) (i:=31) E E kR kR E qO) ?_;refine A2 E (K6 31 E E kR E (by rw [Bk];omega) Cs ?_);rw [<- hcl];have hcn:=A5L wc;refine A0 (D0 2 3) (A1 ?_);refine lQ_ (H1 (n:=32) (cs:=nums .u8 (P2 wc)) E kR Cc (by rw [nums_len];omega)) ?_;refine A2 E (A5 (vs:=nums .u8 (P2 wc)) E E E (by rw [nums_len,hcn];kernel_rfl) (by rw [nums_len,hcn];rfl) E9 Cs ?_);refine A0 (D4 2) (A9 ?_);exact ⟨_,[],[],A1d (n:=32) E E kR Cc (by rw [nums_len,hcn]),Aa _,by simp,E,E,E⟩
def LadR(r:Value)(s:Lad):Prop:=∃v0 v1 v2 v3,r=.tuple #[v0,v1,v2,v3]∧Fe v0 s.a∧Fe v1 s.b∧Fe v2 s.c∧Fe v3 s.d
theorem A6L{xs:LN}{n:Nat}(h:Fe (.agg (nums .u64 xs).toArray) n):∃a b c d e,xs=[a,b,c,d,e]:=by obtain ⟨a,b,c,d,e,h1,-⟩:=h;refine ⟨a,b,c,d,e,?_⟩;have h2:=congrArg Array.toList (Value.agg.inj h1);exact A7W (k:=.u64) (b:=[a,b,c,d,e]) h2
theorem B81(vu va vb vc vd:Value)(xu xa xb xc xd:Nat)(A:Mem)(hU:Fe vu xu)(hA:Fe va xa)(hB:Fe vb xb)(hC:Fe vc xc)(hD:Fe vd xd):FnX prog 115 [vu,va,vb,vc,vd] [] A λr M J=>M=[]∧J=[]∧LadR r (A73 xu ⟨xa,xb,xc,xd⟩):=by
 have hU0:=hU;obtain ⟨pu0,pu1,pu2,pu3,pu4,rfl,-⟩:=hU;have hA0:=hA;obtain ⟨pa0,pa1,pa2,pa3,pa4,rfl,-⟩:=hA;have hB0:=hB;obtain ⟨pb0,pb1,pb2,pb3,pb4,rfl,-⟩:=hB;have hC0:=hC;obtain ⟨pc0,pc1,pc2,pc3,pc4,rfl,-⟩:=hC;have hD0:=hD;obtain ⟨pd0,pd1,pd2,pd3,pd4,rfl,-⟩:=hD;refine Ck (N:=68) func115 E E E λw=>?_;refine A8 (F2 0 1 2 3 4) (A1 ?_);refine A2 E (bx_ λb5=>?_);refine A2 E (bx_ λb6=>?_);refine A2 E (bx_ λb7=>?_);refine A2 E (bx_ λb8=>?_);refine A2 E (bx_ λb9=>?_);refine A2 E (C2 (cs:=[C0,C0,C0,C0,C0]) kR E λb10=>?_);refine A2 E (C2 (cs:=[C0,C0,C0,C0,C0]) kR E λb11=>?_);refine A2 E (C2 (cs:=[C0,C0,C0,C0,C0]) kR E λb12=>?_);refine A2 E (C2 (cs:=[C0,C0,C0,C0,C0]) kR E λb13=>?_);refine A0 (A0q 5 6 7 8 9 10 11 12 13) ?_;refine C8 (.range 8) [(0,1),(1,1),(3,1),(4,1),(2,3),(5,3),(6,3),(7,4),(8,2),(9,2)] kR kR λhs=>?_;refine fR_ E (qw_ 5) ?_;refine fR_ E (qw_ 5) ?_;refine fR_ E (qw_ 5) ?_;refine fR_ E (qw_ 5) ?_
 refine N6 [⟨2,25,λv B _=>B=[]∧Fe v (fA xa xb)⟩,⟨5,28,λv B _=>B=[]∧Fe v (fS xa xb)⟩,⟨6,14,λv B _=>∃b,v=(vP b)∧B=[(b,blk [C0,C0,C0,C0,C0] 189)]⟩,⟨7,15,λv B _=>∃b,v=(vP b)∧B=[(b,blk [C0,C0,C0,C0,C0] 189)]⟩]
  gA nd_ nd_ dl_
  (gO ?_ (gO ?_ (gO ?_ (gO ?_ (I5))))) ?_
 .
  intros
  refine E2 (aS E (aS E (a0))) kR (A5k hA0 hB0 _) E ?_;rintro r M1 J1 ⟨rfl,rfl,hh⟩;exact ⟨_,E,E,hh⟩
 .
  intros
  refine E2 (aS E (aS E (a0))) kR (A6y hA0 hB0 _) E ?_;rintro r M1 J1 ⟨rfl,rfl,hh⟩;exact ⟨_,E,E,hh⟩
 .
  intros
  exact C2 (cs:=[C0,C0,C0,C0,C0]) kR E λb=>⟨_,E,b,E,E⟩
 .
  intros
  exact C2 (cs:=[C0,C0,C0,C0,C0]) kR E λb=>⟨_,E,b,E,E⟩
 intro vs bs Jn0 hφ;have g2:=gy 0 hφ;have g5:=gy 1 hφ;have g6:=gy 2 hφ;have g7:=gy 3 hφ;dsimp only at g2 g5 g6 g7;clear hφ;dsimp only [V0,Q6,List.map,List.flatten,Cu,Ct];generalize bs 2=B25,bs 5=B28,bs 6=B14,bs 7=B15,vs 2=u25,vs 5=u28,vs 6=u14,vs 7=u15 at *;obtain ⟨rfl,k2⟩:=g2;have h2:=k2;obtain ⟨a2,b2,c2,d2,e2,rfl,-⟩:=k2;obtain ⟨rfl,k5⟩:=g5;have h5:=k5;obtain ⟨a5,b5,c5,d5,e5,rfl,-⟩:=k5;obtain ⟨b6,rfl,rfl⟩:=g6;obtain ⟨b7,rfl,rfl⟩:=g7;dsimp only [List.append_eq,Ct,Cu];have hp:=h2;have hq:=h5;clear h2 h5;refine G1 E E E (A5 E E Cd kR ln5 al5 Cs ?_);refine G1 E E E (A5 E E Cd kR ln5 al5 Cs ?_);refine E0 (A0q 5 8 9 10 11 12 13 14 15) ?_;refine C8 [0,1,2,3,4,5] [(0,1),(2,1),(1,3),(3,3),(4,3),(5,4),(6,2),(7,2)] kR kR λhs=>?_;refine fR_ E (qw_ 5) ?_;refine fR_ E (qw_ 5) ?_
 refine N6 [⟨1,30,λv B _=>B=[]∧Fe v (fM (fA xa xb) (fA xa xb))⟩,⟨3,32,λv B _=>B=[]∧Fe v (fM (fS xa xb) (fS xa xb))⟩,⟨4,16,λv B _=>∃b,v=(vP b)∧B=[(b,blk [C0,C0,C0,C0,C0] 189)]⟩,⟨5,17,λv B _=>∃b,v=(vP b)∧B=[(b,blk [C0,C0,C0,C0,C0] 189)]⟩]
  gA nd_ nd_ dl_
  (gO ?_ (gO ?_ (gO ?_ (gO ?_ (I5))))) ?_
 .
  intros
  refine E2 (aS E (a0)) kR (C29 hp _) E ?_;rintro r M1 J1 ⟨rfl,rfl,hh⟩;exact ⟨_,E,E,hh⟩
 .
  intros
  refine E2 (aS E (a0)) kR (C29 hq _) E ?_;rintro r M1 J1 ⟨rfl,rfl,hh⟩;exact ⟨_,E,E,hh⟩
 .
  intros
  exact C2 (cs:=[C0,C0,C0,C0,C0]) kR E λb=>⟨_,E,b,E,E⟩
 .
  intros
  exact C2 (cs:=[C0,C0,C0,C0,C0]) kR E λb=>⟨_,E,b,E,E⟩
 intro vs bs Jn0 hφ;have g1:=gy 0 hφ;have g3:=gy 1 hφ;have g4:=gy 2 hφ;have g5:=gy 3 hφ;dsimp only at g1 g3 g4 g5;clear hφ;dsimp only [V0,Q6,List.map,List.flatten,Cu,Ct];generalize bs 1=B30,bs 3=B32,bs 4=B16,bs 5=B17,vs 1=u30,vs 3=u32,vs 4=u16,vs 5=u17 at *;obtain ⟨rfl,k1⟩:=g1;have h1:=k1;obtain ⟨a1,b1,c1,d1,e1,rfl,-⟩:=k1;obtain ⟨rfl,k3⟩:=g3;have h3:=k3;obtain ⟨a3,b3,c3,d3,e3,rfl,-⟩:=k3;obtain ⟨b4,rfl,rfl⟩:=g4;obtain ⟨b5,rfl,rfl⟩:=g5;dsimp only [List.append_eq,Ct,Cu];have hss:=h1;have htt:=h3;clear h1 h3;refine G1 E E E (A5 E E Cd kR ln5 al5 Cs ?_);refine G1 E E E (A5 E E Cd kR ln5 al5 Cs ?_);refine E0 (kq 5 (kq 8 (A0q 9 10 11 12 13 14 15 16 17))) (A1 ?_);refine lQ_ (qw_ 5) ?_;refine lQ_ (qw_ 5) ?_;refine C6 (aS E (aS E a0)) kR (A6y hss htt _) E ?_;rintro r35 M35 J35 ⟨rfl,rfl,k35⟩;have h35:=k35;obtain ⟨a35,b35,c35,d35,e35,rfl,-⟩:=k35;refine A2 E (C2 (cs:=[C0,C0,C0,C0,C0]) kR E λb18=>?_);refine A2 E (A5 E E Cd kR ln5 al5 Cs ?_);refine A0 (kq 5 (kq 8 (kq 9 (A0q 10 11 12 13 14 15 16 17 18)))) ?_;refine C8 [0,1,2,3,4,5] [(0,1),(1,1),(3,1),(2,3),(4,3),(5,4),(6,2)] kR kR λhs=>?_;refine fR_ E (qw_ 5) ?_;refine fR_ E (qw_ 5) ?_;refine fR_ E (qw_ 5) ?_
 refine N6 [⟨2,38,λv B _=>B=[]∧Fe v (fS xc xd)⟩,⟨4,40,λv B _=>B=[]∧Fe v (fM (fS xc xd) (fA xa xb))⟩,⟨5,19,λv B _=>∃b,v=(vP b)∧B=[(b,blk [C0,C0,C0,C0,C0] 189)]⟩]
  gA nd_ nd_ dl_
  (gO ?_ (gO ?_ (gO ?_ (I5)))) ?_
 .
  intros
  refine E2 (aS E (aS E (a0))) kR (A6y hC0 hD0 _) E ?_;rintro r M1 J1 ⟨rfl,rfl,hh⟩;exact ⟨_,E,E,hh⟩
 . intro _ _ _ _ _ ha;have g2:=gx 0 ha;dsimp only at g2;obtain ⟨-,k2⟩:=g2;refine E2 (aS E (aS E (a0))) kR (U4 k2 hp _) E ?_;rintro r M1 J1 ⟨rfl,rfl,hh⟩;exact ⟨_,E,E,hh⟩
 .
  intros
  exact C2 (cs:=[C0,C0,C0,C0,C0]) kR E λb=>⟨_,E,b,E,E⟩
 intro vs bs Jn0 hφ;have g2:=gy 0 hφ;have g4:=gy 1 hφ;have g5:=gy 2 hφ;dsimp only at g2 g4 g5;clear hφ;dsimp only [V0,Q6,List.map,List.flatten,Cu,Ct];generalize bs 2=B38,bs 4=B40,bs 5=B19,vs 2=u38,vs 4=u40,vs 5=u19 at *;obtain ⟨rfl,k2⟩:=g2;have h2:=k2;obtain ⟨a2,b2,c2,d2,e2,rfl,-⟩:=k2;obtain ⟨rfl,k4⟩:=g4;have h4:=k4;obtain ⟨a4,b4,c4,d4,e4,rfl,-⟩:=k4;obtain ⟨b5,rfl,rfl⟩:=g5;dsimp only [List.append_eq,Ct,Cu];have hda:=h4;clear h2 h4;refine G1 E E E (A5 E E Cd kR ln5 al5 Cs ?_);refine E0 (kq 5 (kq 8 (kq 9 (A0q 10 11 12 13 15 16 17 18 19)))) ?_;refine C8 [0,1,2,3,4,5] [(0,1),(1,1),(3,1),(2,3),(4,3),(5,4),(6,2)] kR kR λhs=>?_;refine fR_ E (qw_ 5) ?_;refine fR_ E (qw_ 5) ?_;refine fR_ E (qw_ 5) ?_
 refine N6 [⟨2,43,λv B _=>B=[]∧Fe v (fA xc xd)⟩,⟨4,45,λv B _=>B=[]∧Fe v (fM (fA xc xd) (fS xa xb))⟩,⟨5,20,λv B _=>∃b,v=(vP b)∧B=[(b,blk [C0,C0,C0,C0,C0] 189)]⟩]
  gA nd_ nd_ dl_
  (gO ?_ (gO ?_ (gO ?_ (I5)))) ?_
 .
  intros
  refine E2 (aS E (aS E (a0))) kR (A5k hC0 hD0 _) E ?_;rintro r M1 J1 ⟨rfl,rfl,hh⟩;exact ⟨_,E,E,hh⟩
 . intro _ _ _ _ _ ha;have g2:=gx 0 ha;dsimp only at g2;obtain ⟨-,k2⟩:=g2;refine E2 (aS E (aS E (a0))) kR (U4 k2 hq _) E ?_;rintro r M1 J1 ⟨rfl,rfl,hh⟩;exact ⟨_,E,E,hh⟩
 .
  intros
  exact C2 (cs:=[C0,C0,C0,C0,C0]) kR E λb=>⟨_,E,b,E,E⟩
 intro vs bs Jn0 hφ;have g2:=gy 0 hφ;have g4:=gy 1 hφ;have g5:=gy 2 hφ;dsimp only at g2 g4 g5;clear hφ;dsimp only [V0,Q6,List.map,List.flatten,Cu,Ct];generalize bs 2=B43,bs 4=B45,bs 5=B20,vs 2=u43,vs 4=u45,vs 5=u20 at *;obtain ⟨rfl,k2⟩:=g2;have h2:=k2;obtain ⟨a2,b2,c2,d2,e2,rfl,-⟩:=k2;obtain ⟨rfl,k4⟩:=g4;have h4:=k4;obtain ⟨a4,b4,c4,d4,e4,rfl,-⟩:=k4;obtain ⟨b5,rfl,rfl⟩:=g5;dsimp only [List.append_eq,Ct,Cu];have hcb:=h4;clear h2 h4;refine G1 E E E (A5 E E Cd kR ln5 al5 Cs ?_);refine E0 (kq 5 (A0q 10 11 12 13 16 17 18 19 20)) (A1 ?_);refine lQ_ (qw_ 5) ?_;refine lQ_ (qw_ 5) ?_;refine C6 (aS E (aS E a0)) kR (A5k hda hcb _) E ?_;rintro r48 M48 J48 ⟨rfl,rfl,k48⟩;have h48:=k48;obtain ⟨a48,b48,c48,d48,e48,rfl,-⟩:=k48;refine C6 (aS E a0) kR (C29 h48 _) E ?_;rintro r49 M49 J49 ⟨rfl,rfl,k49⟩;have h49:=k49;obtain ⟨a49,b49,c49,d49,e49,rfl,-⟩:=k49;refine A2 E (C2 (cs:=[C0,C0,C0,C0,C0]) kR E λb21=>?_);refine A2 E (A5 E E Cd kR ln5 al5 Cs ?_);refine A0 (kq 5 (kq 10 (A0q 11 12 13 16 17 18 19 20 21))) ?_;refine C8 (.range 7) (zp 0 [1,1,1,3,3,3,4,2]) kR kR λhs=>?_;refine fR_ E (qw_ 5) ?_;refine fR_ E (qw_ 5) ?_;refine fR_ E (qw_ 5) ?_
 refine N6 [⟨3,53,λv B _=>B=[]∧Fe v (fS (fM (fS xc xd) (fA xa xb)) (fM (fA xc xd) (fS xa xb)))⟩,⟨4,54,λv B _=>B=[]∧Fe v (fM (fS (fM (fS xc xd) (fA xa xb)) (fM (fA xc xd) (fS xa xb))) (fS (fM (fS xc xd) (fA xa xb)) (fM (fA xc xd) (fS xa xb))))⟩,⟨5,55,λv B _=>B=[]∧Fe v (fM xu (fM (fS (fM (fS xc xd) (fA xa xb)) (fM (fA xc xd) (fS xa xb))) (fS (fM (fS xc xd) (fA xa xb)) (fM (fA xc xd) (fS xa xb)))))⟩,⟨6,22,λv B _=>∃b,v=(vP b)∧B=[(b,blk [C0,C0,C0,C0,C0] 189)]⟩]
  gA nd_ nd_ dl_
  (gO ?_ (gO ?_ (gO ?_ (gO ?_ (I5))))) ?_
 .
  intros
  refine E2 (aS E (aS E (a0))) kR (A6y hda hcb _) E ?_;rintro r M1 J1 ⟨rfl,rfl,hh⟩;exact ⟨_,E,E,hh⟩
 . intro _ _ _ _ _ ha;have g3:=gx 0 ha;dsimp only at g3;obtain ⟨-,k3⟩:=g3;refine E2 (aS E (a0)) kR (C29 k3 _) E ?_;rintro r M1 J1 ⟨rfl,rfl,hh⟩;exact ⟨_,E,E,hh⟩
 . intro _ _ _ _ _ ha;have g4:=gx 1 ha;dsimp only at g4;obtain ⟨-,k4⟩:=g4;refine E2 (aS E (aS E (a0))) kR (U4 hU0 k4 _) E ?_;rintro r M1 J1 ⟨rfl,rfl,hh⟩;exact ⟨_,E,E,hh⟩
 .
  intros
  exact C2 (cs:=[C0,C0,C0,C0,C0]) kR E λb=>⟨_,E,b,E,E⟩
 intro vs bs Jn0 hφ;have g3:=gy 0 hφ;have g4:=gy 1 hφ;have g5:=gy 2 hφ;have g6:=gy 3 hφ;dsimp only at g3 g4 g5 g6;clear hφ;dsimp only [V0,Q6,List.map,List.flatten,Cu,Ct];generalize bs 3=B53,bs 4=B54,bs 5=B55,bs 6=B22,vs 3=u53,vs 4=u54,vs 5=u55,vs 6=u22 at *;obtain ⟨rfl,k3⟩:=g3;have h3:=k3;obtain ⟨a3,b3,c3,d3,e3,rfl,-⟩:=k3;obtain ⟨rfl,k4⟩:=g4;have h4:=k4;obtain ⟨a4,b4,c4,d4,e4,rfl,-⟩:=k4;obtain ⟨rfl,k5⟩:=g5;have h5:=k5;obtain ⟨a5,b5,c5,d5,e5,rfl,-⟩:=k5;obtain ⟨b6,rfl,rfl⟩:=g6;dsimp only [List.append_eq,Ct,Cu];have hzz:=h5;clear h3 h4 h5;refine G1 E E E (A5 E E Cd kR ln5 al5 Cs ?_);refine E0 (A0q 10 11 12 13 16 17 18 21 22) ?_;refine F8 ([(b10,blk [C0,C0,C0,C0,C0] 189),(b11,blk [C0,C0,C0,C0,C0] 189),(b12,blk [C0,C0,C0,C0,C0] 189),(b13,blk [C0,C0,C0,C0,C0] 189)]) (_) true (.range 15) [(0,1),(1,1),(3,1),(4,1),(6,1),(10,1),(11,1),(2,2),(5,2),(7,2),(8,2),(9,2),(12,2),(13,2),(14,2),(15,2)] kR kR qP λhs K n0 hKm hKs hKn=>?_;refine I8 hs E hKs (qw_ 5) ?_;refine I8 hs E hKs (qw_ 5) ?_;refine I8 hs E hKs (qw_ 5) ?_;refine I8 hs E hKs (qw_ 5) ?_;refine I8 hs E hKs (qw_ 5) ?_;refine I8 hs E hKs (qw_ 5) ?_;refine I8 hs E hKs (qw_ 5) ?_
 refine H0 [] _ rfl rfl (Ah _) (λ_ h=>by cases h) λw0=>(E2 (aS rfl (aS rfl a0)) kR (U4 hss htt _) rfl ?_)
 rintro r58 M58 J58 ⟨rfl,rfl,k58⟩ _;have h58:=k58;obtain ⟨a58,b58,c58,d58,e58,rfl,-⟩:=k58;dsimp only [Ct,List.append_eq]
 refine H0 [] _ rfl rfl (Ah _) (λ_ h=>by cases h) λw0=>(E2 (aS rfl a0) kR (A1i 121665 qD _) rfl ?_)
 rintro r61 M61 J61 ⟨rfl,rfl,k61⟩ _;have h61:=k61;obtain ⟨a61,b61,c61,d61,e61,rfl,-⟩:=k61;dsimp only [Ct,List.append_eq]
 refine H0 [] _ rfl rfl (Ah _) (λ_ h=>by cases h) λw0=>(E2 (aS rfl (aS rfl a0)) kR (U4 h61 h35 _) rfl ?_)
 rintro r63 M63 J63 ⟨rfl,rfl,k63⟩ _;have h63:=k63;obtain ⟨a63,b63,c63,d63,e63,rfl,-⟩:=k63;dsimp only [Ct,List.append_eq]
 refine H0 [] _ rfl rfl (Ah _) (λ_ h=>by cases h) λw0=>(E2 (aS rfl (aS rfl a0)) kR (A5k hss h63 _) rfl ?_)
 rintro r64 M64 J64 ⟨rfl,rfl,k64⟩ _;have h64:=k64;obtain ⟨a64,b64,c64,d64,e64,rfl,-⟩:=k64;dsimp only [Ct,List.append_eq]
 refine H0 [] _ rfl rfl (Ah _) (λ_ h=>by cases h) λw0=>(E2 (aS rfl (aS rfl a0)) kR (U4 h35 h64 _) rfl ?_)
 rintro r65 M65 J65 ⟨rfl,rfl,k65⟩ _;have h65:=k65;obtain ⟨a65,b65,c65,d65,e65,rfl,-⟩:=k65;dsimp only [Ct,List.append_eq]
 refine H0 _ _ E E (Ah _) hKm λw0=>(A5 (vs:=[.int .u64 (a58:Int),.int .u64 (b58:Int),.int .u64 (c58:Int),.int .u64 (d58:Int),.int .u64 (e58:Int)]) E E E kR qR al5 Cs ?_)
 intro hK12
 refine H0 _ _ E E (Ah _) (hK12 (hKn E)) λw0=>(A5 (vs:=[.int .u64 (a65:Int),.int .u64 (b65:Int),.int .u64 (c65:Int),.int .u64 (d65:Int),.int .u64 (e65:Int)]) E E E kR qR al5 Cs ?_)
 intro hK13
 refine H0 _ _ E E (Ah _) (hK13 (hKn E)) λw0=>(A5 (vs:=[.int .u64 (a49:Int),.int .u64 (b49:Int),.int .u64 (c49:Int),.int .u64 (d49:Int),.int .u64 (e49:Int)]) E E E kR qR al5 Cs ?_)
 intro hK14;refine K1 E E E (A5 E E Cd kR ln5 al5 Cs ?_);refine I1 (D7 10 11 12 13) (A9 ?_);exact ⟨_,[],[],C5a (n:=5) E E E E E kR Cc Cc Cc Cc E E E E,Aa _,by simp,E,E,_,_,_,_,E,h58,h65,h49,hzz⟩
theorem B82(v vp:Value)(wu wp:LN)(A:Mem)(hv:By A v wu)(hp:By A vp wp):FnX prog 75 [v,vp] [] A λr M J=>M=[]∧By J r (x25 wu wp):=by
 haveI:=hv.cel;haveI:=hp.cel;have hvl:=hv.len;have hpl:=hp.len;refine Ck (N:=60) func75 E E E λw=>?_;refine A8 (D0 0 1) (A1 (as_ (A0 (D0 0 1) (A1 (mv_ ?_)))));refine E6 (aS E a0) kR (C0R _ wu _ (hv.mono qS)) E ?_;have hcn:=A5L wu;have hc256:=B3O hv.lt;refine A2 E (C2 (cs:=[zu8,zu8,zu8,zu8,zu8,zu8,zu8,zu8,zu8,zu8,zu8,zu8,zu8,zu8,zu8,zu8,zu8,zu8,zu8,zu8,zu8,zu8,zu8,zu8,zu8,zu8,zu8,zu8,zu8,zu8,zu8,zu8]) kR E λb5=>?_);refine A2 E (A5 (vs:=nums .u8 (P2 wu)) E E E (by rw [nums_len,hcn];kernel_rfl) (by rw [nums_len,hcn];rfl) E9 Cs ?_);refine A0 (D0 1 5) (A1 (mv_ ?_));refine C6 (aS E a0) kR (A5I vp wp _ (hp.rd.mono qS) hp.lt qO) E ?_;rintro r16 M16 J16 ⟨rfl,rfl,hU⟩;have hUz:=hU;obtain ⟨ux0,ux1,ux2,ux3,ux4,rfl,-⟩:=hU;refine A2 E (C2 (cs:=[C0,C0,C0,C0,C0]) kR E λb6=>?_);refine A2 E (A5 (vs:=[.int .u64 (ux0:Int),.int .u64 (ux1:Int),.int .u64 (ux2:Int),.int .u64 (ux3:Int),.int .u64 (ux4:Int)]) E E E kR qR al5 Cs ?_);refine A0 (D0 5 6) ?_;refine F8 ([]) (_) true (.range 10) [(2,1),(0,3),(1,3),(3,3),(4,3),(5,3),(6,3),(7,4),(8,2),(9,2),(10,2),(11,2)] kR kR qP λhs K n0 hKm hKs hKn=>?_;refine I8 hs E hKs (qw_ 5) ?_
 refine A7y [⟨0,17,λv B _=>B=[]∧Fe v (1)⟩,⟨1,18,λv B _=>B=[]∧Fe v (0)⟩,⟨3,20,λv B _=>B=[]∧Fe v (1)⟩,⟨4,7,λv B _=>∃b,v=(vP b)∧B=[(b,blk [C0,C0,C0,C0,C0] 189)]⟩,⟨5,8,λv B _=>∃b,v=(vP b)∧B=[(b,blk [C0,C0,C0,C0,C0] 189)]⟩,⟨6,9,λv B _=>∃b,v=(vP b)∧B=[(b,blk [C0,C0,C0,C0,C0] 189)]⟩,⟨7,10,λv B _=>∃b,v=(vP b)∧B=[(b,blk [C0,C0,C0,C0,C0] 189)]⟩]
  gA nd_ nd_ dl_
  (gO ?_ (gO ?_ (gO ?_ (gO ?_ (gO ?_ (gO ?_ (gO ?_ (I5)))))))) ?_
 .
  intros
  refine E2 (aS E a0) kR (A1i 1 qD _) E ?_;rintro r M1 J1 ⟨rfl,rfl,hh⟩;exact ⟨_,E,E,hh⟩
 .
  intros
  refine E2 (aS E a0) kR (A1i 0 qD _) E ?_;rintro r M1 J1 ⟨rfl,rfl,hh⟩;exact ⟨_,E,E,hh⟩
 .
  intros
  refine E2 (aS E a0) kR (A1i 1 qD _) E ?_;rintro r M1 J1 ⟨rfl,rfl,hh⟩;exact ⟨_,E,E,hh⟩
 .
  intros
  exact C2 (cs:=[C0,C0,C0,C0,C0]) kR E λb=>⟨_,E,b,E,E⟩
 .
  intros
  exact C2 (cs:=[C0,C0,C0,C0,C0]) kR E λb=>⟨_,E,b,E,E⟩
 .
  intros
  exact C2 (cs:=[C0,C0,C0,C0,C0]) kR E λb=>⟨_,E,b,E,E⟩
 .
  intros
  exact C2 (cs:=[C0,C0,C0,C0,C0]) kR E λb=>⟨_,E,b,E,E⟩
 intro vs bs Jn0 hφ hNN;have n4:=hNN _ (As (i:=3) E);dsimp only at n4;have n5:=hNN _ (As (i:=4) E);dsimp only at n5;clear hNN;have g0:=gy 0 hφ;have g1:=gy 1 hφ;have g3:=gy 2 hφ;have g4:=gy 3 hφ;have g5:=gy 4 hφ;have g6:=gy 5 hφ;have g7:=gy 6 hφ;dsimp only at g0 g1 g3 g4 g5 g6 g7;clear hφ;dsimp only [V0,Q6,List.map,List.flatten,Cu,Ct];generalize bs 0=B17,bs 1=B18,bs 3=B20,bs 4=B7,bs 5=B8,bs 6=B9,bs 7=B10,vs 0=u17,vs 1=u18,vs 3=u20,vs 4=u7,vs 5=u8,vs 6=u9,vs 7=u10 at *;obtain ⟨rfl,k0⟩:=g0;obtain ⟨rfl,k1⟩:=g1;obtain ⟨rfl,k3⟩:=g3;have k0z:=k0;obtain ⟨pw0,pw1,pw2,pw3,pw4,rfl,-⟩:=k0;have k1z:=k1;obtain ⟨px0,px1,px2,px3,px4,rfl,-⟩:=k1;have k3z:=k3;obtain ⟨pq0,pq1,pq2,pq3,pq4,rfl,-⟩:=k3;obtain ⟨b7,rfl,rfl⟩:=g4;obtain ⟨b8,rfl,rfl⟩:=g5;obtain ⟨b9,rfl,rfl⟩:=g6;obtain ⟨b10,rfl,rfl⟩:=g7;dsimp only [List.append_eq,Ct,Cu]
 refine H0 [(b7,blk [C0,C0,C0,C0,C0] 189)] _ E E qP (λx hx=>by rw [List.mem_singleton.1 hx];exact hKn E _ (n4 _ qK)) λw0=>(A5 (vs:=[.int .u64 (pw0:Int),.int .u64 (pw1:Int),.int .u64 (pw2:Int),.int .u64 (pw3:Int),.int .u64 (pw4:Int)]) E E E kR qR al5 Cs ?_)
 intro hK8
 refine H0 [(b8,blk [C0,C0,C0,C0,C0] 189)] _ E E qP (λx hx=>by rw [List.mem_singleton.1 hx];exact hKn E _ (n5 _ qK)) λw0=>(A5 (vs:=[.int .u64 (px0:Int),.int .u64 (px1:Int),.int .u64 (px2:Int),.int .u64 (px3:Int),.int .u64 (px4:Int)]) E E E kR qR al5 Cs ?_)
 intro hK9;refine K1 E E E (A5 (vs:=[.int .u64 (ux0:Int),.int .u64 (ux1:Int),.int .u64 (ux2:Int),.int .u64 (ux3:Int),.int .u64 (ux4:Int)]) E E E kR qR al5 Cs ?_);refine K1 E E E (A5 (vs:=[.int .u64 (pq0:Int),.int .u64 (pq1:Int),.int .u64 (pq2:Int),.int .u64 (pq3:Int),.int .u64 (pq4:Int)]) E E E kR qR al5 Cs ?_);refine I1 (G7 5 6 7 8 9 10) (A3 (A1 (as_ (A0 (N9 5 6 7 8 9 10 11) (A7 ?_)))));refine A0S (M':=[(b10,blk [.int .u64 (pq0:Int),.int .u64 (pq1:Int),.int .u64 (pq2:Int),.int .u64 (pq3:Int),.int .u64 (pq4:Int)] 189),(b9,blk [.int .u64 (ux0:Int),.int .u64 (ux1:Int),.int .u64 (ux2:Int),.int .u64 (ux3:Int),.int .u64 (ux4:Int)] 189),(b8,blk [.int .u64 (px0:Int),.int .u64 (px1:Int),.int .u64 (px2:Int),.int .u64 (px3:Int),.int .u64 (px4:Int)] 189),(b7,blk [.int .u64 (pw0:Int),.int .u64 (pw1:Int),.int .u64 (pw2:Int),.int .u64 (pw3:Int),.int .u64 (pw4:Int)] 189),(b6,blk [.int .u64 (ux0:Int),.int .u64 (ux1:Int),.int .u64 (ux2:Int),.int .u64 (ux3:Int),.int .u64 (ux4:Int)] 189),(b5,blk (nums .u8 (P2 wu)) 194)]) (Ch (B:=[_]) qP (Ch (B:=[_]) qP (Ch (B:=[_]) qP (Ch (B:=[_]) qP (Ch (B:=[_]) qP (Ce E)))))) qI ?_;refine E5 (α:=Nat×LN×LN×LN×LN) (λy=>[(5,(vP b5)),(6,(vP b6)),(7,(vP b7)),(8,(vP b8)),(9,(vP b9)),(10,(vP b10)),(11,.int .i64 ((y.1:Int)-1))]) (λy=>[(b10,blk (nums .u64 y.2.2.2.2) 189),(b9,blk (nums .u64 y.2.2.2.1) 189),(b8,blk (nums .u64 y.2.2.1) 189),(b7,blk (nums .u64 y.2.1) 189),(b6,blk (nums .u64 [ux0,ux1,ux2,ux3,ux4]) 189),(b5,blk (nums .u8 (P2 wu)) 194)]) (λ_=>[]) (λy=>y.1<=255∧Fe (.agg (nums .u64 y.2.1).toArray) (A6K (rdN wp) (bv (P2 wu)) (255-y.1)).a∧Fe (.agg (nums .u64 y.2.2.1).toArray) (A6K (rdN wp) (bv (P2 wu)) (255-y.1)).b∧Fe (.agg (nums .u64 y.2.2.2.1).toArray) (A6K (rdN wp) (bv (P2 wu)) (255-y.1)).c∧Fe (.agg (nums .u64 y.2.2.2.2).toArray) (A6K (rdN wp) (bv (P2 wu)) (255-y.1)).d) (λy=>y.1) (255,[pw0,pw1,pw2,pw3,pw4],[px0,px1,px2,px3,px4],[ux0,ux1,ux2,ux3,ux4],[pq0,pq1,pq2,pq3,pq4]) ⟨Av _,by dsimp only;rw [Nat.sub_self];exact k0z,by dsimp only;rw [Nat.sub_self];exact k1z,by dsimp only;rw [Nat.sub_self];exact hUz,by dsimp only;rw [Nat.sub_self];exact k3z⟩ (N9 5 6 7 8 9 10 11) (Ce rfl) (λ_ h=>by cases h) ?_;clear k0z k1z k3z;rintro ⟨j,la,lb,lc,ld⟩ ⟨hj,haz,hbz,hcz,hdz⟩;dsimp only at hj haz hbz hcz hdz ⊢;obtain ⟨za0,za1,za2,za3,za4,rfl⟩:=A6L haz;obtain ⟨zb0,zb1,zb2,zb3,zb4,rfl⟩:=A6L hbz;obtain ⟨zc0,zc1,zc2,zc3,zc4,rfl⟩:=A6L hcz;obtain ⟨zd0,zd1,zd2,zd3,zd4,rfl⟩:=A6L hdz;dsimp only [nums,List.map];refine A3 (A1 (mV_ E (lQ_ (E8 E E E) (A0 (W6 5 6 7 8 9 10 11 22) ?_))));refine C3 E ?_ ?_<;>intro hc
 .
  have hj0:0<j:=by simp at hc;omega
  obtain ⟨i,rfl⟩:∃i,j=i+1:=⟨j-1,by omega⟩
  rw [show (((i+1:Nat):Int)-1)=(i:Int) by omega];have hts:=A74 (u:=rdN wp) (n:=bv (P2 wu)) (show i<255 by omega);have hbit:=A7S hc256 i;have hpb:(P2 wu).getD (i/8) 0<256:=Go.Px.getD_lt hc256 qD;have hz2:bv (P2 wu)/2^i%2<2:=Ad _ qD;generalize A6K (rdN wp) (bv (P2 wu)) (255-(i+1))=S at *;generalize bv (P2 wu)/2^i%2=zb at *
  obtain ⟨bt,hbt⟩:∃bt,decide (zb=1)=bt:=⟨_,E⟩
  rw [hbt] at hts;refine A6 (nx (N9 5 6 7 8 9 10 11) (A3 (A7 (A1 (mv_ ?_)))));refine lQ_ (A1r 8 E E E qD (A2E qO)) ?_;refine lQ_ (F9 (e:=5) (n:=32) (sz:=1) (i:=i/8) E E kR kR E qO) ?_;refine lQ_ (I3 (i/8) E kR Cc qO qO) ?_;refine mv_ ?_;refine lQ_ (A1s 8 E E E qD) ?_;refine lQ_ (A3A (a:=(P2 wu).getD (i/8) 0) (b:=i%8) E E E E (by show _<=8;omega)) ?_;refine lQ_ (hbit▸N5 1 2 E E E E E (by show _<256;exact Be (Nat.div_le_self _ _) hpb) qD) ?_;refine lQ_ (hbt▸F5 (decide (zb=1)) rfl rfl (by rcases (show zb=0∨zb=1 by omega) with h|h<;>subst h<;>rfl)) ?_;refine as_ (A0 (W6 5 6 7 8 9 10 11 12) (A3 ?_));cases bt
  . refine A1 (mv_ (A0 (A0q 5 6 7 8 9 10 11 12 34) ?_));refine C7 E ?_;refine A6 (nx (W6 5 6 7 8 9 10 11 12) (A1 ?_));refine lQ_ (qw_ 5) ?_;refine lQ_ (qw_ 5) ?_;refine lQ_ (qw_ 5) ?_;refine lQ_ (qw_ 5) ?_;refine lQ_ (qw_ 5) ?_;refine C6 (aS E (aS E (aS E (aS E (aS E a0))))) kR (B81 _ _ _ _ _ (rdN wp) _ _ _ _ _ hUz haz hbz hcz hdz) E ?_;rintro r45 M45 J45 ⟨rfl,rfl,v0,v1,v2,v3,rfl,k0,k1,k2,k3⟩;have k0z:=k0;obtain ⟨pw0,pw1,pw2,pw3,pw4,rfl,-⟩:=k0;have k1z:=k1;obtain ⟨px0,px1,px2,px3,px4,rfl,-⟩:=k1;have k2z:=k2;obtain ⟨py0,py1,py2,py3,py4,rfl,-⟩:=k2;have k3z:=k3;obtain ⟨pq0,pq1,pq2,pq3,pq4,rfl,-⟩:=k3;refine mV_ E (lQ_ (Z9 E) (lQ_ (Z5 E) (lQ_ (B9Z E) (lQ_ (q_x3 E) ?_))));refine A2 E (A5 (vs:=[.int .u64 (pw0:Int),.int .u64 (pw1:Int),.int .u64 (pw2:Int),.int .u64 (pw3:Int),.int .u64 (pw4:Int)]) E E E kR qR al5 Cs ?_);refine A2 E (A5 (vs:=[.int .u64 (px0:Int),.int .u64 (px1:Int),.int .u64 (px2:Int),.int .u64 (px3:Int),.int .u64 (px4:Int)]) E E E kR qR al5 Cs ?_);refine A2 E (A5 (vs:=[.int .u64 (py0:Int),.int .u64 (py1:Int),.int .u64 (py2:Int),.int .u64 (py3:Int),.int .u64 (py4:Int)]) E E E kR qR al5 Cs ?_);refine A2 E (A5 (vs:=[.int .u64 (pq0:Int),.int .u64 (pq1:Int),.int .u64 (pq2:Int),.int .u64 (pq3:Int),.int .u64 (pq4:Int)]) E E E kR qR al5 Cs ?_);refine A0 (W6 5 6 7 8 9 10 11 12) (A1 (mv_ (A0 (W6 5 6 7 8 9 10 11 50) ?_)));refine C7 E ?_;refine A6 (nb (nx (N9 5 6 7 8 9 10 11) (C1 (mv_ ?_))));refine lQ_ (D5 ((i:Int)-1) E E (W7 E qO qO)) ?_;refine as_ (C5 ?_);exact rn (i,[pw0,pw1,pw2,pw3,pw4],[px0,px1,px2,px3,px4],[py0,py1,py2,py3,py4],[pq0,pq1,pq2,pq3,pq4]) ⟨by dsimp only;omega,by dsimp only;rw [hts];exact k0z,by dsimp only;rw [hts];exact k1z,by dsimp only;rw [hts];exact k2z,by dsimp only;rw [hts];exact k3z⟩ (by dsimp only;omega) (N9 5 6 7 8 9 10 11) (show Fit _ ([(b10,blk [.int .u64 (pq0:Int),.int .u64 (pq1:Int),.int .u64 (pq2:Int),.int .u64 (pq3:Int),.int .u64 (pq4:Int)] 189),(b9,blk [.int .u64 (py0:Int),.int .u64 (py1:Int),.int .u64 (py2:Int),.int .u64 (py3:Int),.int .u64 (py4:Int)] 189),(b8,blk [.int .u64 (px0:Int),.int .u64 (px1:Int),.int .u64 (px2:Int),.int .u64 (px3:Int),.int .u64 (px4:Int)] 189),(b7,blk [.int .u64 (pw0:Int),.int .u64 (pw1:Int),.int .u64 (pw2:Int),.int .u64 (pw3:Int),.int .u64 (pw4:Int)] 189),(b6,blk [.int .u64 (ux0:Int),.int .u64 (ux1:Int),.int .u64 (ux2:Int),.int .u64 (ux3:Int),.int .u64 (ux4:Int)] 189),(b5,blk (nums .u8 (P2 wu)) 194)]) from (Ch (B:=[_]) qP (Ch (B:=[_]) qP (Ch (B:=[_]) qP (Ch (B:=[_]) qP (Ch (B:=[_]) qP (Ce rfl))))))) (λ_ h=>by cases h)
  .
   refine A1 (mv_ (A0 (A0q 5 6 7 8 9 10 11 12 34) ?_));refine D9 E ?_;refine Y5 ([(b7,blk [.int .u64 (za0:Int),.int .u64 (za1:Int),.int .u64 (za2:Int),.int .u64 (za3:Int),.int .u64 (za4:Int)] 189)]) (_) true [0,1,2,3,4] [(0,1),(1,1),(3,1),(2,2),(4,2),(5,2),(6,2),(7,2)] kR kR qP λhs K n0 hKm hKs hKn=>?_;refine I8 hs E hKs (qw_ 5) ?_;refine I8 hs E hKs (qw_ 5) ?_;refine I8 hs E hKs (qw_ 5) ?_
   refine H0 _ _ E E (Ah _) hKm λw0=>(Cn (H1 (n:=5) E kR Cc qR) E ?_)
   intro hK2
   refine H0 _ _ E E (Ah _) (hK2 (hKn E)) λw0=>(A5 (vs:=[.int .u64 (zc0:Int),.int .u64 (zc1:Int),.int .u64 (zc2:Int),.int .u64 (zc3:Int),.int .u64 (zc4:Int)]) E E E kR qR al5 Cs ?_)
   intro hK4;refine K1 E E E (A5 (vs:=[.int .u64 (zd0:Int),.int .u64 (zd1:Int),.int .u64 (zd2:Int),.int .u64 (zd3:Int),.int .u64 (zd4:Int)]) E E E kR qR al5 Cs ?_);refine K1 E E E (A5 (vs:=[.int .u64 (za0:Int),.int .u64 (za1:Int),.int .u64 (za2:Int),.int .u64 (za3:Int),.int .u64 (za4:Int)]) E E E kR qR al5 Cs ?_);refine K1 E E E (A5 (vs:=[.int .u64 (zb0:Int),.int .u64 (zb1:Int),.int .u64 (zb2:Int),.int .u64 (zb3:Int),.int .u64 (zb4:Int)]) E E E kR qR al5 Cs ?_);refine I1 (W6 5 6 7 8 9 10 11 12) (A1 ?_);refine lQ_ (qw_ 5) ?_;refine lQ_ (qw_ 5) ?_;refine lQ_ (qw_ 5) ?_;refine lQ_ (qw_ 5) ?_;refine lQ_ (qw_ 5) ?_;refine C6 (aS E (aS E (aS E (aS E (aS E a0))))) kR (B81 _ _ _ _ _ (rdN wp) _ _ _ _ _ hUz hcz hdz haz hbz) E ?_;rintro r45 M45 J45 ⟨rfl,rfl,v0,v1,v2,v3,rfl,k0,k1,k2,k3⟩;have k0z:=k0;obtain ⟨pw0,pw1,pw2,pw3,pw4,rfl,-⟩:=k0;have k1z:=k1;obtain ⟨px0,px1,px2,px3,px4,rfl,-⟩:=k1;have k2z:=k2;obtain ⟨py0,py1,py2,py3,py4,rfl,-⟩:=k2;have k3z:=k3;obtain ⟨pq0,pq1,pq2,pq3,pq4,rfl,-⟩:=k3;refine mV_ E (lQ_ (Z9 E) (lQ_ (Z5 E) (lQ_ (B9Z E) (lQ_ (q_x3 E) ?_))));refine A2 E (A5 (vs:=[.int .u64 (pw0:Int),.int .u64 (pw1:Int),.int .u64 (pw2:Int),.int .u64 (pw3:Int),.int .u64 (pw4:Int)]) E E E kR qR al5 Cs ?_);refine A2 E (A5 (vs:=[.int .u64 (px0:Int),.int .u64 (px1:Int),.int .u64 (px2:Int),.int .u64 (px3:Int),.int .u64 (px4:Int)]) E E E kR qR al5 Cs ?_);refine A2 E (A5 (vs:=[.int .u64 (py0:Int),.int .u64 (py1:Int),.int .u64 (py2:Int),.int .u64 (py3:Int),.int .u64 (py4:Int)]) E E E kR qR al5 Cs ?_);refine A2 E (A5 (vs:=[.int .u64 (pq0:Int),.int .u64 (pq1:Int),.int .u64 (pq2:Int),.int .u64 (pq3:Int),.int .u64 (pq4:Int)]) E E E kR qR al5 Cs ?_);refine A0 (W6 5 6 7 8 9 10 11 12) (A1 (mv_ (A0 (W6 5 6 7 8 9 10 11 50) ?_)));refine D9 E ?_;refine Y5 ([(b7,blk [.int .u64 (pw0:Int),.int .u64 (pw1:Int),.int .u64 (pw2:Int),.int .u64 (pw3:Int),.int .u64 (pw4:Int)] 189)]) (_) true [0,1,2,3,4] [(0,1),(1,1),(3,1),(2,2),(4,2),(5,2),(6,2),(7,2)] kR kR qP λhs K n0 hKm hKs hKn=>?_;refine I8 hs E hKs (qw_ 5) ?_;refine I8 hs E hKs (qw_ 5) ?_;refine I8 hs E hKs (qw_ 5) ?_
   refine H0 _ _ E E (Ah _) hKm λw0=>(Cn (H1 (n:=5) E kR Cc qR) E ?_)
   intro hK2
   refine H0 _ _ E E (Ah _) (hK2 (hKn E)) λw0=>(A5 (vs:=[.int .u64 (py0:Int),.int .u64 (py1:Int),.int .u64 (py2:Int),.int .u64 (py3:Int),.int .u64 (py4:Int)]) E E E kR qR al5 Cs ?_)
   intro hK4;refine K1 E E E (A5 (vs:=[.int .u64 (pq0:Int),.int .u64 (pq1:Int),.int .u64 (pq2:Int),.int .u64 (pq3:Int),.int .u64 (pq4:Int)]) E E E kR qR al5 Cs ?_);refine K1 E E E (A5 (vs:=[.int .u64 (pw0:Int),.int .u64 (pw1:Int),.int .u64 (pw2:Int),.int .u64 (pw3:Int),.int .u64 (pw4:Int)]) E E E kR qR al5 Cs ?_);refine K1 E E E (A5 (vs:=[.int .u64 (px0:Int),.int .u64 (px1:Int),.int .u64 (px2:Int),.int .u64 (px3:Int),.int .u64 (px4:Int)]) E E E kR qR al5 Cs ?_);refine A3z (nb (nx (N9 5 6 7 8 9 10 11) (C1 (mv_ ?_))));refine lQ_ (D5 ((i:Int)-1) E E (W7 E qO qO)) ?_;refine as_ (C5 ?_);exact rn (i,[py0,py1,py2,py3,py4],[pq0,pq1,pq2,pq3,pq4],[pw0,pw1,pw2,pw3,pw4],[px0,px1,px2,px3,px4]) ⟨by dsimp only;omega,by dsimp only;rw [hts];exact k2z,by dsimp only;rw [hts];exact k3z,by dsimp only;rw [hts];exact k0z,by dsimp only;rw [hts];exact k1z⟩ (by dsimp only;omega) (N9 5 6 7 8 9 10 11) (show Fit _ ([(b10,blk [.int .u64 (px0:Int),.int .u64 (px1:Int),.int .u64 (px2:Int),.int .u64 (px3:Int),.int .u64 (px4:Int)] 189),(b9,blk [.int .u64 (pw0:Int),.int .u64 (pw1:Int),.int .u64 (pw2:Int),.int .u64 (pw3:Int),.int .u64 (pw4:Int)] 189),(b8,blk [.int .u64 (pq0:Int),.int .u64 (pq1:Int),.int .u64 (pq2:Int),.int .u64 (pq3:Int),.int .u64 (pq4:Int)] 189),(b7,blk [.int .u64 (py0:Int),.int .u64 (py1:Int),.int .u64 (py2:Int),.int .u64 (py3:Int),.int .u64 (py4:Int)] 189),(b6,blk [.int .u64 (ux0:Int),.int .u64 (ux1:Int),.int .u64 (ux2:Int),.int .u64 (ux3:Int),.int .u64 (ux4:Int)] 189),(b5,blk (nums .u8 (P2 wu)) 194)]) from (Ch (B:=[_]) qP (Ch (B:=[_]) qP (Ch (B:=[_]) qP (Ch (B:=[_]) qP (Ch (B:=[_]) qP (Ce rfl))))))) (λ_ h=>by cases h)
 .
  have hj0:j=0:=by simp at hc;omega
  subst hj0;refine D8 (te (re (be E (nx (D0 7 8) ?_))));refine C8 [0,1,2,3,4,5] (zp 0 [1,1,2,2,2,0]) kR kR λhs=>?_;refine fR_ E (qw_ 5) ?_;refine fR_ E (qw_ 5) ?_;refine G5 E (aS E a0) kR (B3h hbz _) E ?_;rintro r57 M57 J57 ⟨rfl,rfl,k57⟩;have h57:=k57;obtain ⟨a57,b57,c57,d57,e57,rfl,-⟩:=k57;refine G5 E (aS E (aS E a0)) kR (U4 haz h57 _) E ?_;rintro r58 M58 J58 ⟨rfl,rfl,k58⟩;have h58:=k58;obtain ⟨a58,b58,c58,d58,e58,rfl,-⟩:=k58;refine G5 E (aS E a0) kR ((A0x _ _ h58 _).frz0) E ?_;rintro r59 M59 J59 ⟨rfl,hs59⟩;haveI:=hs59.cel;refine fA_ E E (E0 (D4 4) (A9 ?_));exact ⟨_,[],J59,H8 E E,Aa _,λx hx=>by simp [hx],E,B7m hs59 (A1F _ _).symm (B3N _ _) (by rw [A1F];decide) λ_ h=>h⟩
theorem C3m(v:Value)(wu:LN)(A:Mem)(hv:By A v wu):FnX prog 44 [v] [] A λr M J=>M=[]∧By J r (A1E wu):=by haveI:=hv.cel;refine Cl (N:=10) func44 E E E λw_=>?_;refine A8 (D4 0) (A1 (as_ (A0 (D4 0) (A1 ?_))));refine A2 E (A0N (by_:=1) (k:=.u8) (e:=5) 32 E E kR E E qO qO E λb4=>?_);refine as_ (A0 (D0 0 3) (A1 (mv_ ?_)));refine lQ_ (L8 (e:=5) (sz:=1) (i:=0) E E kR kR qO qO) ?_;refine A2 E (K6 0 (ws:=List.replicate 32 0) E E kR E qM Cs ?_);refine A0 (D0 0 3) (A1 (mv_ (mv_ ?_)));refine C6 (aS E (aS E a0)) kR (B82 v _ wu C0Q _ (hv.mono qS) ⟨Co (n:=32) (cs:=nums .u8 C0Q) Cc qR,by decide,by decide⟩) E ?_;rintro r9 M9 J9 ⟨rfl,h9⟩;haveI:=h9.cel;refine as_ (A0 (D4 2) (A9 ?_));exact ⟨_,[],[],H8 E E,qZ,E,h9.mono qS⟩

theorem A8W{r:Value}{a b:LN}(h:Sc r (bv (B1m a)%lN))(e:a=b):Sc r (bv (B1m b)%lN):=e▸h
theorem A9X(v:Value)(ws:LN)(A:Mem)(hv:By A v ws)(hl:ws.length<=100000000)(hG:GlS A):FnX prog 110 [v] [] A λr M J=>M=[]∧J=[]∧Sc r (B3E ws):=by haveI:=hv.cel;have hvl:=hv.len;obtain ⟨⟨ge0,gf0,h0⟩,⟨ge1,gf1,h1⟩⟩:=hG;refine Ck (N:=9) func110 E E E λw=>?_;refine A8 (D4 0) (A1 ?_);refine A2 E (C2 (cs:=[D3,D3,D3,D3,D3,D3,D3,D3]) kR E λb2=>?_);refine A0 (D0 0 2) (A1 ?_);refine A2 E (C4 (e:=5) (sz:=1) (z:=[zu8,zu8,zu8,zu8,zu8,zu8]) kR (eS E (eS E (eS E (eS E (eS E (eS E e0)))))) (bdS 0 1 E qR (bdS 1 1 E qR (bdS 2 1 E qR (bdS 3 1 E qR (bdS 4 1 E qR (bdS 5 1 E qR bd0)))))) E λb3=>?_);refine A2 E (A4k E kR Cs E ?_);refine mv_ ?_;refine A2 E (C4 (e:=22) (sz:=1) (z:=[vS,vS]) kR (eS E (eS E e0)) (bdS 0 1 E qR (bdS 1 1 E qR bd0)) E λb6=>?_);refine C6 (aS E a0) kR (A4m _ [[115,101,99,114,101,116],ws] _ (B1L.of (Co (n:=2) m0 qR) E (.cons qD (Co (n:=6) (cs:=nums .u8 [115,101,99,114,101,116]) Cc qR) (.cons hv.lt (hv.rd.mono qS) .nil))) (by simp;omega) qM (mA h0) (mA h1)) E ?_;rintro r7 M7 J7 ⟨rfl,h7⟩;refine C6 (aS E a0) kR (A22 _ _ _ (A0C (h7.rd qS) (A1U _).symm E) (A8V _) (by rw [A1U];decide)) E ?_;rintro r8 M8 J8 ⟨rfl,rfl,hq8⟩;have hs8:Sc r8 (B3E ws):=A8W hq8 qM;have hz8:=hs8;obtain ⟨s,rfl,s8,s32,sv⟩:=hs8;refine A2 E (A5 (vs:=nums .u32 s) E E E (by rw [nums_len,s8];kernel_rfl) (by rw [nums_len,s8];rfl) E9 Cs ?_);refine A0 (D4 2) (A9 ?_);exact ⟨_,[],[],A1d (n:=8) E E kR Cc (by rw [nums_len];omega),Aa _,by simp,E,E,hz8⟩
theorem A4R(vr vp vm:Value)(wr wp wm:LN)(A:Mem)(hr:By A vr wr)(hp:By A vp wp)(hm:By A vm wm)(hG:GlS A):FnX prog 108 [vr,vp,vm] [] A λr M J=>M=[]∧J=[]∧Sc r (A7f wr wp wm):=by haveI:=hr.cel;haveI:=hp.cel;haveI:=hm.cel;have hrl:=hr.len;have hpl:=hp.len;have hml:=hm.len;obtain ⟨⟨ge0,gf0,h0⟩,⟨ge1,gf1,h1⟩⟩:=hG;refine Ck (N:=15) func108 E E E λw=>?_;refine A8 (D6 0 1 2) (A1 ?_);refine A2 E (C2 (cs:=[D3,D3,D3,D3,D3,D3,D3,D3]) kR E λb6=>?_);refine A0 (D7 0 1 2 6) (A1 ?_);refine A2 E (C4 (e:=5) (sz:=1) (z:=[zu8,zu8,zu8,zu8,zu8,zu8,zu8,zu8,zu8]) kR (eS E (eS E (eS E (eS E (eS E (eS E (eS E (eS E (eS E e0))))))))) (bdS 0 1 E qR (bdS 1 1 E qR (bdS 2 1 E qR (bdS 3 1 E qR (bdS 4 1 E qR (bdS 5 1 E qR (bdS 6 1 E qR (bdS 7 1 E qR (bdS 8 1 E qR bd0))))))))) E λb7=>?_);refine A2 E (A4k E kR Cs E ?_);refine mv_ (mv_ (mv_ ?_));refine A2 E (C4 (e:=22) (sz:=1) (z:=[vS,vS,vS,vS]) kR (eS E (eS E (eS E (eS E e0)))) (bdS 0 1 E qR (bdS 1 1 E qR (bdS 2 1 E qR (bdS 3 1 E qR bd0)))) E λb12=>?_);refine C6 (aS E a0) kR (A4m _ [[99,104,97,108,108,101,110,103,101],wr,wp,wm] _ (B1L.of (Co (n:=4) m0 qR) E (.cons qD (Co (n:=9) (cs:=nums .u8 [99,104,97,108,108,101,110,103,101]) Cc qR) (.cons hr.lt (hr.rd.mono qS) (.cons hp.lt (hp.rd.mono qS) (.cons hm.lt (hm.rd.mono qS) .nil))))) (by simp;omega) qM (mA h0) (mA h1)) E ?_;rintro r13 M13 J13 ⟨rfl,h13⟩;refine C6 (aS E a0) kR (A22 _ _ _ (A0C (h13.rd qS) (A1U _).symm E) (A8V _) (by rw [A1U];decide)) E ?_;rintro r14 M14 J14 ⟨rfl,rfl,hq14⟩;have hs14:Sc r14 (A7f wr wp wm):=A8W hq14 qM;have hz14:=hs14;obtain ⟨s,rfl,s8,s32,sv⟩:=hs14;refine A2 E (A5 (vs:=nums .u32 s) E E E (by rw [nums_len,s8];kernel_rfl) (by rw [nums_len,s8];rfl) E9 Cs ?_);refine A0 (D4 6) (A9 ?_);exact ⟨_,[],[],A1d (n:=8) E E kR Cc (by rw [nums_len];omega),Aa _,by simp,E,E,hz14⟩
theorem A9Y(v:Value)(ws:LN)(A:Mem)(hv:By A v ws)(hG:GlS A):FnX prog 74 [v] [] A λr M J=>M=[]∧By J r (A9V ws):=by haveI:=hv.cel;have hvl:=hv.len;refine Cl (N:=9) func74 E E E λw_=>?_;refine A8 (D4 0) (A1 (as_ (A0 (D4 0) (A1 ?_))));refine C6 a0 kR (A8T _) E ?_;rintro r3 M3 J3 ⟨rfl,rfl,h3⟩;refine mv_ ?_;refine C6 (aS E a0) kR (A9X v ws _ (hv.mono qS) qO hG.up) E ?_;rintro r5 M5 J5 ⟨rfl,rfl,h5⟩;refine E6 (aS E a0) kR (A23 _ _ h5 _) E ?_;refine C6 (aS E (aS E a0)) kR (A6A _ pS (N3 (B3E ws) 32) h3 (N1 _ _) (A6C _ _) _) E ?_;rintro r7 M7 J7 ⟨rfl,rfl,h7⟩;rw [C0N (B3G _)] at h7;refine C6 (aS E a0) kR ((A6B _ _ h7 _).frz0) E ?_;rintro r8 M8 J8 ⟨rfl,h8⟩;haveI:=h8.cel;refine as_ (A0 (D4 2) (A9 ?_));exact ⟨_,[],[],H8 E E,Fit.nil,E,B7m h8 (A6J _).symm (B7b _) (by rw [A6J];decide) qS⟩
theorem C3n(v vm:Value)(ws wm:LN)(A:Mem)(hv:By A v ws)(hm:By A vm wm)(hG:GlS A):FnX prog 71 [v,vm] [] A λr M J=>J=[]∧Sl 1 r 64 (nums .u8 (B3F ws wm)) M:=by
 haveI:=hv.cel;haveI:=hm.cel;have hvl:=hv.len;have hml:=hm.len;have hG0:=hG;obtain ⟨⟨ge0,gf0,h0⟩,⟨ge1,gf1,h1⟩⟩:=hG;have hG:=hG0;refine Ck (N:=34) func71 E E E λw=>?_;refine A8 (D0 0 1) (A1 (as_ (A0 (D0 0 1) (A1 ?_))));refine A2 E (C4 (e:=5) (sz:=1) (z:=[zu8,zu8,zu8,zu8,zu8]) kR (eS E (eS E (eS E (eS E (eS E e0))))) (bdS 0 1 E qR (bdS 1 1 E qR (bdS 2 1 E qR (bdS 3 1 E qR (bdS 4 1 E qR bd0))))) E λb8=>?_);refine A2 E (A4k E kR Cs E ?_);refine mv_ (mv_ ?_);refine A2 E (C4 (e:=22) (sz:=1) (z:=[vS,vS,vS]) kR (eS E (eS E (eS E e0))) (bdS 0 1 E qR (bdS 1 1 E qR (bdS 2 1 E qR bd0))) E λb12=>?_);refine C6 (aS E a0) kR (A4m _ [[110,111,110,99,101],ws,wm] _ (B1L.of (Co (n:=3) m0 qR) E (.cons qD (Co (n:=5) (cs:=nums .u8 [110,111,110,99,101]) Cc qR) (.cons hv.lt (hv.rd.mono qS) (.cons hm.lt (hm.rd.mono qS) .nil)))) (by simp;omega) qM (mA h0) (mA h1)) E ?_;rintro r13 M13 J13 ⟨rfl,h13⟩;refine C6 (aS E a0) kR (A22 _ _ _ (A0C (h13.rd qS) (A1U _).symm E) (A8V _) (by rw [A1U];decide)) E ?_;rintro r14 M14 J14 ⟨rfl,rfl,hq14⟩;have hs14:Sc r14 (B8Z ws wm):=A8W hq14 qM;have hz14:=hs14;obtain ⟨s,rfl,s8,s32,sv⟩:=hs14;refine A2 E (C2 (cs:=[D3,D3,D3,D3,D3,D3,D3,D3]) kR E λb5=>?_);refine A2 E (A5 (vs:=nums .u32 s) E E E (by rw [nums_len,s8];kernel_rfl) (by rw [nums_len,s8];rfl) E9 Cs ?_);refine A0 (D6 0 1 5) ?_;refine C8 [0,1,2,3,4,5] [(1,1),(0,2),(2,2),(3,2),(4,2),(5,0)] kR kR λhs=>?_;refine fR_ E (H1 (n:=8) (cs:=nums .u32 s) E kR Cc (by rw [nums_len];omega)) ?_;refine G5 E a0 kR (A8T _) E ?_;rintro r15 M15 J15 ⟨rfl,rfl,h15⟩;refine N4 E (aS E a0) kR (A23 _ _ hz14 _) E ?_;refine G5 E (aS E (aS E a0)) kR (A6A _ pS (N3 (B8Z ws wm) 32) h15 (N1 _ _) (A6C _ _) _) E ?_;rintro r18 M18 J18 ⟨rfl,rfl,h18⟩;rw [C0N (B3H _ _)] at h18;refine G5 E (aS E a0) kR (A6B _ _ h18 _) E ?_;rintro r19 M19 J19 ⟨rfl,h19⟩;haveI:=h19.cel;replace h19:Sl 1 r19 32 (nums .u8 (rB ws wm)) M19:=h19;refine fA_ E E (E0 (D7 0 1 5 6) ?_);refine C8 (.range 12) [(0,0),(1,0),(3,0),(5,0),(8,1),(2,3),(4,3),(6,3),(7,3),(9,3),(10,3),(11,4),(12,2)] kR kR λhs=>?_;refine fM_ E E (fM_ E E (fM_ E E (fm_ ?_)));refine fR_ E (H1 (n:=8) (cs:=nums .u32 s) E kR Cc (by rw [nums_len];omega)) ?_
 refine N6 [⟨2,22,λv B R=>B=[]∧By R v (A9V ws)⟩,⟨4,24,λv B _=>B=[]∧Sc v (A7f (rB ws wm) (A9V ws) wm)⟩,⟨6,26,λv B _=>B=[]∧Sc v (B3E ws)⟩,⟨7,27,λv B _=>B=[]∧Sc v (A7f (rB ws wm) (A9V ws) wm*B3E ws%lN)⟩,⟨9,29,λv B _=>B=[]∧Sc v (sN ws wm)⟩,⟨10,30,λv B _=>B=[]∧v=.agg (nums .u8 (N3 (sN ws wm) 32)).toArray⟩,⟨11,7,λv B _=>∃b,v=(vP b)∧B=[(b,blk [zu8,zu8,zu8,zu8,zu8,zu8,zu8,zu8,zu8,zu8,zu8,zu8,zu8,zu8,zu8,zu8,zu8,zu8,zu8,zu8,zu8,zu8,zu8,zu8,zu8,zu8,zu8,zu8,zu8,zu8,zu8,zu8] 194)]⟩]
  (A4 (λ_ _ _ _ hR h=>⟨h.1,h.2.mono hR⟩) (A4 gM (A4 gM (A4 gM (A4 gM (A4 gM (A4 gM (I5)))))))) nd_ nd_ dl_
  (gO ?_ (gO ?_ (gO ?_ (gO ?_ (gO ?_ (gO ?_ (gO ?_ (I5)))))))) ?_
 . intro _ _ _ _ hb _;refine E2 (aS E a0) kR (A9Y v ws _ (hv.mono λx hx=>hb _ (qS x hx)) (hG.sub λx hx=>hb _ (mA hx))) E ?_;rintro r M1 J1 ⟨rfl,hh⟩;exact ⟨_,E,E,hh.mono λx hx=>by simp [hx]⟩
 . intro _ _ _ _ hb ha;have g2:=gx 0 ha;dsimp only at g2;obtain ⟨-,k2⟩:=g2;refine E2 (aS E (aS E (aS E (a0)))) kR (A4R _ _ _ (rB ws wm) (A9V ws) wm _ (B7m h19 (B3I _ _).symm (B7b _) (by rw [B3I];decide) (λx hx=>hb _ (qS x hx))) k2 (hm.mono λx hx=>hb _ (qS x hx)) (hG.sub λx hx=>hb _ (mA hx))) E ?_;rintro r M1 J1 ⟨rfl,rfl,hh⟩;exact ⟨_,E,E,hh⟩
 . intro _ _ _ _ hb _;refine E2 (aS E (a0)) kR (A9X v ws _ (hv.mono λx hx=>hb _ (qS x hx)) qO (hG.sub λx hx=>hb _ (mA hx))) E ?_;rintro r M1 J1 ⟨rfl,rfl,hh⟩;exact ⟨_,E,E,hh⟩
 . intro _ _ _ _ _ ha;have g4:=gx 1 ha;dsimp only at g4;have g6:=gx 2 ha;dsimp only at g6;obtain ⟨-,k4⟩:=g4;obtain ⟨-,k6⟩:=g6;refine E2 (aS E (aS E (a0))) kR (B7e _ _ _ _ k4 k6 (B3G _) _) E ?_;rintro r M1 J1 ⟨rfl,rfl,hh⟩;exact ⟨_,E,E,hh⟩
 . intro _ _ _ _ _ ha;have g7:=gx 3 ha;dsimp only at g7;obtain ⟨-,k7⟩:=g7;refine E2 (aS E (aS E (a0))) kR (A7X _ _ _ _ k7 hz14 (Ad _ A70) (B3H _ _) _) E ?_;rintro r M1 J1 ⟨rfl,rfl,hh⟩;exact ⟨_,E,E,hh⟩
 . intro _ _ _ _ _ ha;have g9:=gx 4 ha;dsimp only at g9;obtain ⟨-,k9⟩:=g9;exact R6 (aS E a0) kR (A23 _ _ k9 _) E ⟨_,E,E,E⟩
 .
  intros
  exact C2 (cs:=[zu8,zu8,zu8,zu8,zu8,zu8,zu8,zu8,zu8,zu8,zu8,zu8,zu8,zu8,zu8,zu8,zu8,zu8,zu8,zu8,zu8,zu8,zu8,zu8,zu8,zu8,zu8,zu8,zu8,zu8,zu8,zu8]) kR E λb=>⟨_,E,b,E,E⟩
 intro vs bs Jn0 hφ;have g2:=gy 0 hφ;have g4:=gy 1 hφ;have g6:=gy 2 hφ;have g7:=gy 3 hφ;have g9:=gy 4 hφ;have g10:=gy 5 hφ;have g11:=gy 6 hφ;dsimp only at g2 g4 g6 g7 g9 g10 g11;clear hφ;dsimp only [V0,Q6,List.map,List.flatten,Cu,Ct];generalize bs 2=B22,bs 4=B24,bs 6=B26,bs 7=B27,bs 9=B29,bs 10=B30,bs 11=B7,vs 2=u22,vs 4=u24,vs 6=u26,vs 7=u27,vs 9=u29,vs 10=u30,vs 11=u7 at *;obtain ⟨rfl,-⟩:=g2;obtain ⟨rfl,-⟩:=g4;obtain ⟨rfl,-⟩:=g6;obtain ⟨rfl,-⟩:=g7;obtain ⟨rfl,-⟩:=g9;obtain ⟨rfl,rfl⟩:=g10;obtain ⟨b7,rfl,rfl⟩:=g11;dsimp only [List.append_eq,Ct,Cu];refine G1 E E E (A5 (vs:=nums .u8 (N3 (sN ws wm) 32)) E E E (by rw [nums_len,N1];kernel_rfl) (by rw [nums_len,N1];rfl) E9 Cs ?_);refine E0 (D0 6 7) (A1 (mv_ ?_));refine lQ_ (B1W (sz:=1) (e:=5) (n:=32) E kR kR) ?_;refine A2 E (H4 (e:=5) (sz:=1) (by_:=1) (n:=32) (m:=32) E E kR E h19 (Co (n:=32) (cs:=nums .u8 (N3 (sN ws wm) 32)) Cc (by rw [nums_len,N1])) E9 qP (by unfold maxLen;omega) qO E λv33 B33 hs33=>?_);haveI:=hs33.cel;rw [<- H6] at hs33;refine as_ (A0 (D4 4) (A9 ?_));exact ⟨_,B33,[],H8 E E,Ay _ _,by simp,E,hs33⟩

end Go.Proofs.YtglbhoeolghndaaGreatDoor
namespace Go.Px
open Go.ChangeShapes Go.WideShapes Go.ChangeAt Go.RowKit
structure Byi(R:Mem)(v:Value)(w:List Nat):Prop where
  rd:Rd R 1 v w.length (nums .u8 w)
  lt:∀x∈w,x<256
  len:w.length<=maxLen
theorem Byi.mono{R R':Mem}{v:Value}{w:List Nat}(h:Byi R v w)(hR:∀x,x∈R->x∈R'):Byi R' v w:=⟨h.rd.mono hR,h.lt,h.len⟩
variable{v:Value}{w:List Nat}
theorem By.i{R:Mem}(h:By R v w):Byi R v w:=⟨h.rd,h.lt,h.max⟩
theorem Byi.by{R:Mem}(h:Byi R v w)(hl:w.length<=16777216):By R v w:=⟨h.rd,h.lt,hl⟩
theorem Byi.cel{R:Mem}{v:Value}{w:List Nat}(h:Byi R v w):Cel v [v]:=h.rd.cel
theorem Byi.one{R:Mem}{v:Value}{w:List Nat}(h:Byi R v w):v.oneCell'=true:=h.rd.one
section
variable{H:Type}{enc:TypeId×Value->H}{P:Program}{w:World}{spare:Nat->Bool}{held:Bool}{fuel:Nat}{t e:TypeId}{cs:List Value}{x:DataW H×List MemPlace}
end
end Go.Px

namespace Go.Proofs.YtglbhoeolghndaaGreatDoor
open Go.Px
variable{R:Mem}{v:Value}{w:LN}
theorem C5g(h:By R v w){k:Nat}(hk:k<=w.length):By R (vHi k v) (w.take k):=⟨by
  have h1:=h.rd.hiV k hk;rw [Nat.mul_one,<- A1m] at h1;rw [Bj,Nat.min_eq_left hk]
  exact h1,λx hx=>h.lt x (Bw hx),by rw [Bj];have:=h.len;omega⟩
theorem C5h(h:By R v w){k:Nat}(hk:k<=w.length):By R (vLo k 1 v) (w.drop k):=⟨by
  have h1:=h.rd.loV k hk;rw [Nat.mul_one,<- A0U] at h1;rw [Bg]
  exact h1,λx hx=>h.lt x (List.mem_of_mem_drop hx),by rw [Bg];have:=h.len;omega⟩
variable{p m:LN}
theorem B3P{s:LN}(h:¬s.length=64):A7Z p m s=false:=by unfold A7Z;rw [decide_eq_false h,Bool.false_and]
theorem C0S{s:LN}(h:U5 p=none):A7Z p m s=false:=by unfold A7Z;rw [h,B7j,Bool.and_false]
theorem C0T{s:LN}(h:U5 (s.take 32)=none):A7Z p m s=false:=by unfold A7Z;rw [h,B7k,Bool.and_false]
theorem C3o{s:LN}{a r:Pt}(h1:U5 p=some a)(h2:U5 (s.take 32)=some r)(h:¬N3 (bv (s.drop 32)%lN) 32=s.drop 32):A7Z p m s=false:=by unfold A7Z;rw [h1,h2,A7Y,decide_eq_false h,Bool.false_and,Bool.and_false]
theorem B83{s:LN}{a r:Pt}(h0:s.length=64)(h1:U5 p=some a)(h2:U5 (s.take 32)=some r)(h:N3 (bv (s.drop 32)%lN) 32=s.drop 32):A7Z p m s=B04 (A00 pS (bv (s.drop 32)%lN)) (A8s d2N r (A00 a (A7f (s.take 32) p m))):=by unfold A7Z;rw [decide_eq_true h0,h1,h2,A7Y,decide_eq_true h,Bool.true_and,Bool.true_and]
theorem A9Z{V:Value}{b:Bool}(h:(∃P,U5 w=some P∧b=true∧FeP V P)∨(U5 w=none∧b=false∧FeP V pZ)):∃P,FeP V P∧((U5 w=some P∧b=true)∨(U5 w=none∧b=false)):=by
  rcases h with ⟨P,h1,h2,h3⟩|⟨h1,h2,h3⟩
  . exact ⟨P,h3,.inl ⟨h1,h2⟩⟩
  . exact ⟨_,h3,.inr ⟨h1,h2⟩⟩
theorem A90(V:Value)(P:Pt)(n:Nat)(hP:FeP V P)(hn:n<lN)(A:Mem):FnX prog 105 [V,.agg (nums .u8 (N3 n 32)).toArray] [] A λr M J=>M=[]∧J=[]∧FeP r (A00 P n):=by have h:=A6A V P (N3 n 32) hP (N1 _ _) (A6C _ _) A;rwa [C0N hn] at h
theorem B3Q(h:By R v w)(hp:0<w.length):∃(b o cap:Nat) (cs:List Value) (e:TypeId) (fr:Nat×Nat),v=.slice (some ⟨b,o,none⟩) w.length cap∧(b,Obj.cells cs.toArray e fr)∈R∧∀j u,(nums .u8 w)[j]? = some u->cs[o+j]? = some u:=by
  obtain ⟨p,cap,hv,h1,h2,h3|⟨b,o,cs,e,fr,hb,hm,hg⟩⟩:=h.rd
  . omega
  . subst hb;exact ⟨b,o,cap,cs,e,fr,hv,hm,hg⟩
theorem C0U(vp vm vs:Value)(wp wm ws:LN)(A:Mem)(hp:By A vp wp)(hm:By A vm wm)(hsg:By A vs ws)(hG:GlS A):FnV prog 119 [vp,vm,vs] A (.bool (A7Z wp wm ws)):=by
  haveI:=hp.cel;haveI:=hm.cel;haveI:=hsg.cel;have hpl:=hp.len;have hml:=hm.len;have hsl:=hsg.len;refine Ck (N:=64) func119 E E E λw=>?_;refine A8 (D6 0 1 2) (A1 (as_ (A0 (D6 0 1 2) (A3 (A1 (mv_ ?_))))));refine lQ_ (G2 (sz:=1) E kR hsg.rd) ?_;refine lQ_ (E8 E E E) (A0 (D7 0 1 2 17) ?_);refine C3 E ?_ ?_<;>intro hc
  .
    have h64:¬ws.length=64:=by simp at hc;omega
    refine A1 (as_ (A0 (D4 6) (A9 (tr ?_))));exact ⟨_,[],[],H8 E E,Aa _,by simp,by rw [B3P h64],E,E⟩
  .
    have h64:ws.length=64:=by simp at hc;omega
    have hr:=C5g hsg (show 32<=ws.length by omega)
    obtain ⟨vr,hvr⟩:∃vr,vHi 32 vs=vr:=⟨_,E⟩
    rw [hvr] at hr;haveI:=hr.cel;have hl:=C5h hsg (show 32<=ws.length by omega)
    obtain ⟨vl,hvl⟩:∃vl,vLo 32 1 vs=vl:=⟨_,E⟩
    rw [hvl] at hl;have hll:(ws.drop 32).length=32:=by rw [Bg];omega
    obtain ⟨lb,lo,lcap,lcs,le_,lfr,rfl,hlm,hlg⟩:=B3Q hl qO;haveI:=hl.cel;refine A6 (nx (D6 0 1 2) (A1 (mv_ ?_)));refine C6 (aS E a0) kR (B3L vp wp _ (hp.mono qS)) E ?_;rintro r20 M20 J20 ⟨rfl,rfl,VA,bA,rfl,hA⟩;obtain ⟨PA,hPA,hAb⟩:=A9Z hA;have hPA0:=hPA;obtain ⟨xspa,rfl,pa0,pa1,pa2,pa3,pa4,pa5,pa6,pa7,pa8,pa9,pa10,pa11,pa12,pa13,pa14,pa15,pa16,pa17,pa18,pa19,rfl,hPAX,hPAY,hPAZ,hPAT⟩:=hPA;dsimp only [nums,List.map];refine mV_ E (lQ_ (Z9 E) (lQ_ (Z5 E) ?_));refine A2 E (C2 (cs:=[C0,C0,C0,C0,C0,C0,C0,C0,C0,C0,C0,C0,C0,C0,C0,C0,C0,C0,C0,C0]) kR E λb7=>?_);refine A2 E (A5 E E Cd kR A3Y A3Z Cs ?_);refine as_ (A0 (F2 0 1 2 7 8) (A1 (mv_ ?_)));refine lQ_ (hvr▸A4r (sz:=1) (a:=32) E E kR E hsg.rd qO) ?_;refine C6 (aS E a0) kR (B3L vr (ws.take 32) _ (hr.mono qS)) E ?_;rintro r26 M26 J26 ⟨rfl,rfl,VR,bR,rfl,hR⟩;obtain ⟨PR,hPR,hRb⟩:=A9Z hR;have hPR0:=hPR;obtain ⟨xspr,rfl,pr0,pr1,pr2,pr3,pr4,pr5,pr6,pr7,pr8,pr9,pr10,pr11,pr12,pr13,pr14,pr15,pr16,pr17,pr18,pr19,rfl,hPRX,hPRY,hPRZ,hPRT⟩:=hPR;dsimp only [nums,List.map];refine mV_ E (lQ_ (Z9 E) (lQ_ (Z5 E) ?_));refine A2 E (C2 (cs:=[C0,C0,C0,C0,C0,C0,C0,C0,C0,C0,C0,C0,C0,C0,C0,C0,C0,C0,C0,C0]) kR E λb9=>?_);refine A2 E (A5 E E Cd kR A3Y A3Z Cs ?_);refine as_ (A0 (N9 0 1 2 7 8 9 10) (A1 (mv_ ?_)));refine lQ_ (hvl▸A16 (sz:=1) (a:=32) E E kR E hsg.rd qO) ?_;refine C6 (aS E a0) kR (A22 _ (ws.drop 32) _ (hl.rd.mono qS) hl.lt qO) E ?_;rintro r31 M31 J31 ⟨rfl,rfl,hq⟩;have hz:=hq;obtain ⟨s,rfl,s8,s32,sv⟩:=hq;refine A2 E (C2 (cs:=[D3,D3,D3,D3,D3,D3,D3,D3]) kR E λb11=>?_);refine A2 E (A5 (vs:=nums .u32 s) E E E (by rw [nums_len,s8];kernel_rfl) (by rw [nums_len,s8];rfl) E9 Cs ?_);refine A0 (W6 0 1 2 7 8 9 10 11) (A1 ?_);refine lQ_ (H1 (n:=8) (cs:=nums .u32 s) E kR Cc (by rw [nums_len];omega)) ?_;refine E6 (aS E a0) kR (A23 _ _ hz _) E ?_;refine A2 E (C2 (cs:=[zu8,zu8,zu8,zu8,zu8,zu8,zu8,zu8,zu8,zu8,zu8,zu8,zu8,zu8,zu8,zu8,zu8,zu8,zu8,zu8,zu8,zu8,zu8,zu8,zu8,zu8,zu8,zu8,zu8,zu8,zu8,zu8]) kR E λb12=>?_);refine A2 E (A5 (vs:=nums .u8 (N3 (bv (ws.drop 32)%lN) 32)) E E E (by rw [nums_len,N1];kernel_rfl) (by rw [nums_len,N1];rfl) E9 Cs ?_);refine A0 (W6 0 1 2 7 8 9 10 12) (A3 ?_)
    have h3:(U5 wp=none∧bA=false)∨((U5 wp=some PA∧bA=true)∧(U5 (ws.take 32)=none∧bR=false))∨((U5 wp=some PA∧bA=true)∧(U5 (ws.take 32)=some PR∧bR=true)):=by
      rcases hAb with h|h
      . rcases hRb with h2|h2
        . exact .inr (.inr ⟨h,h2⟩)
        . exact .inr (.inl ⟨h,h2⟩)
      . exact .inl h
    clear hAb hRb;rcases h3 with ⟨hA1,rfl⟩|⟨⟨hA1,rfl⟩,hR1,rfl⟩|⟨⟨hA1,rfl⟩,hR1,rfl⟩
    . refine C8 (.range 14) (zp 0 [0,0,0,0,0,0,0,1,0,0,0,1,0,0]) kR kR λhs=>?_;refine fM_ E E (fQ_ E (U2 E) (fm_ ?_));refine K9 hs ?_;refine K9 hs ?_;refine fQ_ E (G4 E E) (fm_ ?_);refine W1 hs ?_;refine K9 hs ?_;refine K9 hs ?_;refine K9 hs ?_;refine W1 hs ?_;refine K9 hs ?_;refine fQ_ E (G4 E E) (E0 (N9 0 1 2 7 9 12 47) ?_);refine D9 E ?_;refine A1 (as_ (A0 (D4 6) (A9 (tr ?_))));exact ⟨_,[],[],H8 E E,Aa _,by simp,by rw [C0S hA1],E,E⟩
    . refine C8 (.range 14) (zp 0 [0,0,0,0,0,0,0,1,0,0,0,1,0,0]) kR kR λhs=>?_;refine fM_ E E (fQ_ E (U2 E) (fM_ E E (fG_ E qm_ (fG_ E (U2 E) (fQ_ E (E3 E E) (fm_ ?_))))));refine W1 hs ?_;refine K9 hs ?_;refine K9 hs ?_;refine K9 hs ?_;refine W1 hs ?_;refine K9 hs ?_;refine fQ_ E (G4 E E) (E0 (N9 0 1 2 7 9 12 47) ?_);refine D9 E ?_;refine A1 (as_ (A0 (D4 6) (A9 (tr ?_))));exact ⟨_,[],[],H8 E E,Aa _,by simp,by rw [C0T hR1],E,E⟩
    .
      refine C8 (.range 14) (zp 0 [0,0,0,0,0,0,0,1,0,0,0,1,0,0]) kR kR λhs=>?_;refine fM_ E E (fQ_ E (U2 E) (fM_ E E (fG_ E qm_ (fG_ E (U2 E) (fQ_ E (E3 E E) (fm_ ?_))))));refine fH_ E (H1 (n:=32) (cs:=nums .u8 (N3 (bv (ws.drop 32)%lN) 32)) E kR Cc (by rw [nums_len,N1])) ?_;refine fG_ E qm_ ?_;refine fG_ E (hvl▸A16 (sz:=1) (a:=32) E E kR E hsg.rd qO) ?_;refine fG_ E (B7l (k:=.u8) (n:=32) E kR qO) ?_;refine fH_ E (H9 (n:=32) (vs:=nums .u8 (ws.drop 32)) E kR (mA hlm) ⟨by rw [nums_len];omega,hlg⟩) ?_;refine fG_ E (C0L (n:=32) (k:=.u8) E E kR kR (N1 _ _) qO) ?_;refine fQ_ E (E3 E E) (E0 (N9 0 1 2 7 9 12 47) ?_);refine C3 E ?_ ?_<;>intro hc
      .
        have hne:¬N3 (bv (ws.drop 32)%lN) 32=ws.drop 32:=by simpa using hc
        refine A1 (as_ (A0 (D4 6) (A9 (tr ?_))));exact ⟨_,[],[],H8 E E,Aa _,by simp,by rw [C3o hA1 hR1 hne],E,E⟩
      .
        have hne:N3 (bv (ws.drop 32)%lN) 32=ws.drop 32:=by simpa using hc
        refine A6 (nx (G7 0 1 2 7 9 12) ?_);refine C8 [0,1,2,3] [(1,1),(0,3),(2,3),(3,4),(4,2)] kR kR λhs=>?_;refine fR_ E (H1 (n:=32) (cs:=nums .u8 (N3 (bv (ws.drop 32)%lN) 32)) E kR Cc (by rw [nums_len,N1])) ?_
        refine N6 [⟨0,48,λv B _=>B=[]∧FeP v pS⟩,⟨2,50,λv B _=>B=[]∧FeP v (A00 pS (bv (ws.drop 32)%lN))⟩,⟨3,13,λv B _=>∃b,v=(vP b)∧B=[(b,blk [C0,C0,C0,C0,C0,C0,C0,C0,C0,C0,C0,C0,C0,C0,C0,C0,C0,C0,C0,C0] 191)]⟩]
          gA nd_ nd_ dl_
          (gO ?_ (gO ?_ (gO ?_ (I5)))) ?_
        .
          intros
          refine E2 (a0) kR (A8T _) E ?_;rintro r M1 J1 ⟨rfl,rfl,hh⟩;exact ⟨_,E,E,hh⟩
        . intro _ _ _ _ _ ha;have g0:=gx 0 ha;dsimp only at g0;obtain ⟨-,k0⟩:=g0;refine E2 (aS E (aS E (a0))) kR (A90 _ pS (bv (ws.drop 32)%lN) k0 (Ad _ A70) _) E ?_;rintro r M1 J1 ⟨rfl,rfl,hh⟩;exact ⟨_,E,E,hh⟩
        .
          intros
          exact C2 (cs:=[C0,C0,C0,C0,C0,C0,C0,C0,C0,C0,C0,C0,C0,C0,C0,C0,C0,C0,C0,C0]) kR E λb=>⟨_,E,b,E,E⟩
        intro vs bs Jn0 hφ;have g0:=gy 0 hφ;have g2:=gy 1 hφ;have g3:=gy 2 hφ;dsimp only at g0 g2 g3;clear hφ;dsimp only [V0,Q6,List.map,List.flatten,Cu,Ct];generalize bs 0=B48,bs 2=B50,bs 3=B13,vs 0=u48,vs 2=u50,vs 3=u13 at *;obtain ⟨rfl,-⟩:=g0;obtain ⟨rfl,hL⟩:=g2;obtain ⟨b13,rfl,rfl⟩:=g3;have hL0:=hL;obtain ⟨xspl,rfl,pl0,pl1,pl2,pl3,pl4,pl5,pl6,pl7,pl8,pl9,pl10,pl11,pl12,pl13,pl14,pl15,pl16,pl17,pl18,pl19,rfl,hLX,hLY,hLZ,hLT⟩:=hL;dsimp only [nums,List.map];dsimp only [List.append_eq,Ct,Cu];refine G1 E E E (A5 E E Cd kR A3Y A3Z Cs ?_);refine E0 (G7 0 1 2 7 9 13) ?_;refine C8 (.range 11) (zp 0 [1,1,0,0,0,0,3,3,3,3,4,2]) kR kR λhs=>?_;refine fR_ E (qw_ 20) ?_;refine fR_ E (qw_ 20) ?_;refine fm_ ?_;refine fQ_ E (hvr▸A4r (sz:=1) (a:=32) E E kR E hsg.rd qO) ?_;refine fM_ E E (fm_ ?_)
        refine N6 [⟨6,57,λv B _=>B=[]∧Sc v (A7f (ws.take 32) wp wm)⟩,⟨7,58,λv B _=>B=[]∧v=.agg (nums .u8 (N3 (A7f (ws.take 32) wp wm) 32)).toArray⟩,⟨8,59,λv B _=>B=[]∧FeP v (A00 PA (A7f (ws.take 32) wp wm))⟩,⟨9,60,λv B _=>B=[]∧FeP v (A8s d2N PR (A00 PA (A7f (ws.take 32) wp wm)))⟩,⟨10,14,λv B _=>∃b,v=(vP b)∧B=[(b,blk [C0,C0,C0,C0,C0,C0,C0,C0,C0,C0,C0,C0,C0,C0,C0,C0,C0,C0,C0,C0] 191)]⟩]
          gA nd_ nd_ dl_
          (gO ?_ (gO ?_ (gO ?_ (gO ?_ (gO ?_ (I5)))))) ?_
        . intro _ _ _ _ hb _;refine E2 (aS E (aS E (aS E (a0)))) kR (A4R _ _ _ (ws.take 32) wp wm _ (hr.mono λx hx=>hb _ (qS x hx)) (hp.mono λx hx=>hb _ (qS x hx)) (hm.mono λx hx=>hb _ (qS x hx)) (hG.sub λx hx=>hb _ (mA hx))) E ?_;rintro r M1 J1 ⟨rfl,rfl,hh⟩;exact ⟨_,E,E,hh⟩
        . intro _ _ _ _ _ ha;have g6:=gx 0 ha;dsimp only at g6;obtain ⟨-,k6⟩:=g6;exact R6 (aS E a0) kR (A23 _ _ k6 _) E ⟨_,E,E,E⟩
        . intro vs bs _ _ _ ha;have g7:=gx 1 ha;dsimp only at g7;obtain ⟨-,k7⟩:=g7;refine E2 (vs:=[_,.agg (nums .u8 (N3 (A7f (ws.take 32) wp wm) 32)).toArray]) (aS E (aS (by rw [<- k7];rfl) a0)) kR (A90 _ PA (A7f (ws.take 32) wp wm) hPA0 (C0K _ _ _) _) E ?_;rintro r M1 J1 ⟨rfl,rfl,hh⟩;exact ⟨_,E,E,hh⟩
        . intro _ _ _ _ _ ha;have g8:=gx 2 ha;dsimp only at g8;obtain ⟨-,k8⟩:=g8;refine E2 (aS E (aS E (a0))) kR (C0O _ _ PR _ hPR0 k8 _) E ?_;rintro r M1 J1 ⟨rfl,rfl,hh⟩;exact ⟨_,E,E,hh⟩
        .
          intros
          exact C2 (cs:=[C0,C0,C0,C0,C0,C0,C0,C0,C0,C0,C0,C0,C0,C0,C0,C0,C0,C0,C0,C0]) kR E λb=>⟨_,E,b,E,E⟩
        intro vs bs Jn0 hφ;have g6:=gy 0 hφ;have g7:=gy 1 hφ;have g8:=gy 2 hφ;have g9:=gy 3 hφ;have g10:=gy 4 hφ;dsimp only at g6 g7 g8 g9 g10;clear hφ;dsimp only [V0,Q6,List.map,List.flatten,Cu,Ct];generalize bs 6=B57,bs 7=B58,bs 8=B59,bs 9=B60,bs 10=B14,vs 6=u57,vs 7=u58,vs 8=u59,vs 9=u60,vs 10=u14 at *;obtain ⟨rfl,-⟩:=g6;obtain ⟨rfl,-⟩:=g7;obtain ⟨rfl,-⟩:=g8;obtain ⟨rfl,hU⟩:=g9;obtain ⟨b14,rfl,rfl⟩:=g10;have hU0:=hU;obtain ⟨xspu,rfl,pu0,pu1,pu2,pu3,pu4,pu5,pu6,pu7,pu8,pu9,pu10,pu11,pu12,pu13,pu14,pu15,pu16,pu17,pu18,pu19,rfl,hUX,hUY,hUZ,hUT⟩:=hU;dsimp only [nums,List.map];dsimp only [List.append_eq,Ct,Cu];refine G1 E E E (A5 E E Cd kR A3Y A3Z Cs ?_);refine E0 (D0 13 14) (A1 ?_);refine lQ_ (qw_ 20) ?_;refine lQ_ (qw_ 20) ?_;refine E6 (aS E (aS E a0)) kR (C0P _ _ _ _ hL0 hU0 _) E ?_;refine as_ (A0 (D4 6) (A9 ?_));exact ⟨_,[],[],H8 E E,Aa _,by simp,by rw [B83 h64 hA1 hR1 hne],E,E⟩

variable{A:Mem}
theorem Glb.s(h:Glb A):GlS A:=⟨h.first,h.round⟩
def H7(s:Ps)(w:LN):Ps:=if s.real then s else B2M s w
def I6(s:Ps)(w:LN):LN:=if s.real then A1E (H5 w 32) else B6J s w
def C0V(s:Ps)(w:LN):LN:=if s.real then A9V (H5 w 32) else B6J s w
def L0(s:Ps)(w u:LN):Ps:=if s.real then s else C0i s w u
def A08(s:Ps)(w u:LN):LN:=if s.real then x25 (H5 w 32) (H5 u 32) else C2j s w u
def B7p(s:Ps)(w m:LN):Ps:=if s.real then s else B5P s w λx=>B6L x m
def C3p(s:Ps)(w m:LN):LN:=if s.real then B3F (H5 w 32) m else H5 (B6M s w λx=>B6L x m) 64
theorem C3q(s m:LN):∀x∈B3F s m,x<256:=by
  intro x hx;rcases List.mem_append.1 hx with h|h
  . exact B7b _ x h
  . exact A6C _ _ x h
theorem C3r(v vm:Value)(ws wm:LN)(A:Mem)(hv:By A v ws)(hm:By A vm wm)(hG:GlS A):FnX prog 71 [v,vm] [] A λr M J=>M=[]∧By J r (B3F ws wm) :=
  ((C3n v vm ws wm A hv hm hG).frz0).mono λr M J ⟨h1,h2⟩=>⟨h1,B7m h2 (A9W _ _).symm (C3q _ _) (by rw [A9W];decide) λ_ h=>h⟩
theorem B7q(pb:Nat)(s:Ps)(hr:s.real=true)(v:Value)(w:LN)(MP A:Mem)(hP:Prm pb s MP)(hv:By A v w):FnX prog 20 [(vP pb),v] MP A λq M J=>Prm pb s M∧By J q (A1E (H5 w 32)):=by obtain ⟨sv,bt,bm,B,MT,rfl,hby,hT⟩:=hP.ex;haveI:=hv.cel;haveI:=hby.cel;have hvl:=hv.len;refine Cl (N:=26) func20 E E E λw_=>?_;refine A8 (D0 0 1) (A1 (aS_ E (A0 (D0 0 1) (A3 (A1 (mV_ E (lQ_ (F6 (e:=74) E E kR) (A0 (D6 0 1 6) ?_))))))));refine C7 E ?_;refine A6 (nx (D0 0 1) (A3 (A1 (mV_ E (lQ_ (E1 E) (lQ_ (qf_ 0 0) ?_))))));refine lQ_ ql_ ?_;refine lQ_ (F5 true E E (eqT (by rw [hr];rfl))) ?_;refine A0 (D6 0 1 11) ?_;refine D9 E ?_;refine A1 (mv_ ?_);refine C6 (aS E (aS E a0)) kR (Y0 v w 32 _ (hv.mono qS) qD) E ?_;rintro r13 M13 J13 ⟨rfl,h13⟩;haveI:=h13.cel;refine C6 (aS E a0) kR (C3m _ _ _ (h13.mono qS)) E ?_;rintro r14 M14 J14 ⟨rfl,h14⟩;haveI:=h14.cel;refine as_ (A0 (D4 4) (A9 (tr ?_)));exact ⟨_,(pb,blk [.int .u8 (md s.real),sv,.int .i64 (((s.n:Nat):Int)),(vP bt)] 74)::(B++MT),[],H8 E E,(Cg (Ch (B:=[_]) qP (Ch qP (Cf qP)))),⟨sv,bt,bm,B,MT,E,hby,hT⟩,h14.mono qS⟩
theorem B3R(pb:Nat)(s:Ps)(hr:s.real=true)(v:Value)(w:LN)(MP A:Mem)(hP:Prm pb s MP)(hv:By A v w)(hG:Glb A):FnX prog 43 [(vP pb),v] MP A λq M J=>Prm pb s M∧By J q (A9V (H5 w 32)):=by obtain ⟨sv,bt,bm,B,MT,rfl,hby,hT⟩:=hP.ex;haveI:=hv.cel;haveI:=hby.cel;have hvl:=hv.len;refine Cl (N:=18) func43 E E E λw_=>?_;refine A8 (D0 0 1) (A1 (aS_ E (A0 (D0 0 1) (A3 (A1 (mV_ E (lQ_ (F6 (e:=74) E E kR) (A0 (D6 0 1 6) ?_))))))));refine C7 E ?_;refine A6 (nx (D0 0 1) (A3 (A1 (mV_ E (lQ_ (E1 E) (lQ_ (qf_ 0 0) ?_))))));refine lQ_ ql_ ?_;refine lQ_ (F5 true E E (eqT (by rw [hr];rfl))) ?_;refine A0 (D6 0 1 11) ?_;refine D9 E ?_;refine A1 (mv_ ?_);refine C6 (aS E (aS E a0)) kR (Y0 v w 32 _ (hv.mono qS) qD) E ?_;rintro r13 M13 J13 ⟨rfl,h13⟩;haveI:=h13.cel;refine C6 (aS E a0) kR (A9Y _ _ _ (h13.mono qS) hG.s.up) E ?_;rintro r14 M14 J14 ⟨rfl,h14⟩;haveI:=h14.cel;refine as_ (A0 (D4 4) (A9 (tr ?_)));exact ⟨_,(pb,blk [.int .u8 (md s.real),sv,.int .i64 (((s.n:Nat):Int)),(vP bt)] 74)::(B++MT),[],H8 E E,(Cg (Ch (B:=[_]) qP (Ch qP (Cf qP)))),⟨sv,bt,bm,B,MT,E,hby,hT⟩,h14.mono qS⟩
theorem C0W(pb:Nat)(s:Ps)(hr:s.real=true)(v v2:Value)(w u:LN)(MP A:Mem)(hP:Prm pb s MP)(hv:By A v w)(hu:By A v2 u):FnX prog 48 [(vP pb),v,v2] MP A λq M J=>Prm pb s M∧By J q (x25 (H5 w 32) (H5 u 32)):=by obtain ⟨sv,bt,bm,B,MT,rfl,hby,hT⟩:=hP.ex;haveI:=hv.cel;haveI:=hby.cel;have hvl:=hv.len;haveI:=hu.cel;refine Cl (N:=31) func48 E E E λw_=>?_;refine A8 (D6 0 1 2) (A1 (aS_ E (A0 (D6 0 1 2) (A3 (A1 (mV_ E (lQ_ (F6 (e:=74) E E kR) (A0 (D7 0 1 2 8) ?_))))))));refine C7 E ?_;refine A6 (nx (D6 0 1 2) (A3 (A1 (mV_ E (lQ_ (E1 E) (lQ_ (qf_ 0 0) ?_))))));refine lQ_ ql_ ?_;refine lQ_ (F5 true E E (eqT (by rw [hr];rfl))) ?_;refine A0 (D7 0 1 2 13) ?_;refine D9 E ?_;refine A1 (mv_ ?_);refine C6 (aS E (aS E a0)) kR (Y0 v w 32 _ (hv.mono qS) qD) E ?_;rintro r15 M15 J15 ⟨rfl,h15⟩;haveI:=h15.cel;refine mv_ ?_;refine C6 (aS E (aS E a0)) kR (Y0 v2 u 32 _ (hu.mono qS) qD) E ?_;rintro r17 M17 J17 ⟨rfl,h17⟩;haveI:=h17.cel;refine C6 (aS E (aS E a0)) kR (B82 _ _ _ _ _ (h15.mono qS) (h17.mono qS)) E ?_;rintro r18 M18 J18 ⟨rfl,h18⟩;haveI:=h18.cel;refine as_ (A0 (D4 6) (A9 (tr ?_)));exact ⟨_,(pb,blk [.int .u8 (md s.real),sv,.int .i64 (((s.n:Nat):Int)),(vP bt)] 74)::(B++MT),[],H8 E E,(Cg (Ch (B:=[_]) qP (Ch qP (Cf qP)))),⟨sv,bt,bm,B,MT,E,hby,hT⟩,h18.mono qS⟩
theorem C0X(pb:Nat)(s:Ps)(hr:s.real=true)(v v2:Value)(w u:LN)(MP A:Mem)(hP:Prm pb s MP)(hv:By A v w)(hu:By A v2 u)(hG:Glb A):FnX prog 37 [(vP pb),v,v2] MP A λq M J=>Prm pb s M∧By J q (B3F (H5 w 32) u):=by obtain ⟨sv,bt,bm,B,MT,rfl,hby,hT⟩:=hP.ex;haveI:=hv.cel;haveI:=hby.cel;have hvl:=hv.len;haveI:=hu.cel;refine Cl (N:=32) func37 E E E λw_=>?_;refine A8 (D6 0 1 2) (A1 (aS_ E (A0 (D6 0 1 2) (A3 (A1 (mV_ E (lQ_ (F6 (e:=74) E E kR) (A0 (D7 0 1 2 8) ?_))))))));refine C7 E ?_;refine A6 (nx (D6 0 1 2) (A3 (A1 (mV_ E (lQ_ (E1 E) (lQ_ (qf_ 0 0) ?_))))));refine lQ_ ql_ ?_;refine lQ_ (F5 true E E (eqT (by rw [hr];rfl))) ?_;refine A0 (D7 0 1 2 13) ?_;refine D9 E ?_;refine A1 (mv_ ?_);refine C6 (aS E (aS E a0)) kR (Y0 v w 32 _ (hv.mono qS) qD) E ?_;rintro r15 M15 J15 ⟨rfl,h15⟩;haveI:=h15.cel;refine mv_ ?_;refine C6 (aS E (aS E a0)) kR (C3r _ _ _ _ _ (h15.mono qS) (hu.mono qS) hG.s.up) E ?_;rintro r17 M17 J17 ⟨rfl,h17⟩;haveI:=h17.cel;refine as_ (A0 (D4 6) (A9 (tr ?_)));exact ⟨_,(pb,blk [.int .u8 (md s.real),sv,.int .i64 (((s.n:Nat):Int)),(vP bt)] 74)::(B++MT),[],H8 E E,(Cg (Ch (B:=[_]) qP (Ch qP (Cf qP)))),⟨sv,bt,bm,B,MT,E,hby,hT⟩,h17.mono qS⟩
theorem B3S(pb:Nat)(s:Ps)(hr:s.real=false)(v:Value)(w:LN)(MP A:Mem)(hP:Prm pb s MP)(hv:By A v w)(hn:s.ts.length<1048576)(hG:Glb A):FnX prog 43 [(vP pb),v] MP A λq M J=>Prm pb (B2M s w) M∧By J q (B6J s w):=by obtain ⟨sv,bt,bm,B,MT,rfl,hby,hT⟩:=hP.ex;haveI:=hv.cel;haveI:=hby.cel;have hvl:=hv.len;refine Cl (N:=18) func43 E E E λw_=>?_;refine A8 (D0 0 1) (A1 (aS_ E (A0 (D0 0 1) (A3 (A1 (mV_ E (lQ_ (F6 (e:=74) E E kR) (A0 (D6 0 1 6) ?_))))))));refine C7 E ?_;refine A6 (nx (D0 0 1) (A3 (A1 (mV_ E (lQ_ (E1 E) (lQ_ (qf_ 0 0) ?_))))));refine lQ_ ql_ ?_;refine lQ_ (F5 false E E (eqF (by rw [hr];decide))) ?_;refine A0 (D6 0 1 11) ?_;refine C7 E ?_;refine A6 (nx (D0 0 1) (A1 (mv_ (mv_ ?_))));refine A2 E (C9 (Mc:=(pb,blk [.int .u8 (md s.real),sv,.int .i64 (((s.n:Nat):Int)),(vP bt)] 74)::(B++MT)) (R:=_) (aS E (aS E a0)) kR qP (A9K pb s hr v w _ _ ⟨sv,bt,bm,B,MT,E,hby,hT⟩ hn (hv.mono qS) hG.up) E ?_);rintro v17 M17 J17 ⟨hP17,h17⟩;haveI:=h17.cel;refine as_ (A0 (D4 4) (A9 ?_));exact ⟨_,M17,[],H8 E E,Cg (Cf qP),hP17,h17.mono qS⟩
theorem A1V(pb:Nat)(s:Ps)(v:Value)(w:LN)(MP A:Mem)(hP:Prm pb s MP)(hn:s.ts.length<1048576)(hv:By A v w)(hG:Glb A):FnX prog 20 [(vP pb),v] MP A λq M J=>Prm pb (H7 s w) M∧By J q (I6 s w):=by
  cases hr:s.real with
  | true=>unfold H7 I6;rw [hr];exact B7q pb s hr v w MP A hP hv
  | false=>unfold H7 I6;rw [hr];exact A9K pb s hr v w MP A hP hn hv hG
theorem B3T(pb:Nat)(s:Ps)(v:Value)(w:LN)(MP A:Mem)(hP:Prm pb s MP)(hn:s.ts.length<1048576)(hv:By A v w)(hG:Glb A):FnX prog 43 [(vP pb),v] MP A λq M J=>Prm pb (H7 s w) M∧By J q (C0V s w):=by
  cases hr:s.real with
  | true=>unfold H7 C0V;rw [hr];exact B3R pb s hr v w MP A hP hv hG
  | false=>unfold H7 C0V;rw [hr];exact B3S pb s hr v w MP A hP hv hn hG
theorem A09(pb:Nat)(s:Ps)(v v2:Value)(w u:LN)(MP A:Mem)(hP:Prm pb s MP)(hn:s.ts.length+1<1048576)(hv:By A v w)(hu:By A v2 u)(hG:Glb A):FnX prog 48 [(vP pb),v,v2] MP A λq M J=>Prm pb (L0 s w u) M∧By J q (A08 s w u):=by
  cases hr:s.real with
  | true=>unfold L0 A08;rw [hr];exact C0W pb s hr v v2 w u MP A hP hv hu
  | false=>unfold L0 A08;rw [hr];exact B6K pb s hr v v2 w u MP A hP hn hv hu hG
theorem C0Y(pb:Nat)(s:Ps)(v v2:Value)(w m:LN)(MP A:Mem)(hP:Prm pb s MP)(hn:s.ts.length<1048576)(hv:By A v w)(hm:By A v2 m)(hG:Glb A):FnX prog 37 [(vP pb),v,v2] MP A λq M J=>Prm pb (B7p s w m) M∧By J q (C3p s w m):=by
  cases hr:s.real with
  | true=>unfold B7p C3p;rw [hr];exact C0X pb s hr v v2 w m MP A hP hv hm hG
  | false =>
    unfold B7p C3p;rw [hr];obtain ⟨bt,bm,h⟩:=hP.t
    exact (B2P pb bt bm s hr v v2 w m MP A h hn hv hm hG).mono λq M J ⟨h1,h2⟩=>⟨h1.p,h2⟩

structure Ext(s s':Ps):Prop where
  p:Pext s s'
  seed:s'.seed=s.seed
  n:s.n<=s'.n
theorem Ext.refl(s:Ps):Ext s s:=⟨Pext.refl s,E,Av _⟩
theorem Ext.trans{a b c:Ps}(h:Ext a b)(h':Ext b c):Ext a c:=⟨h.p.trans h'.p,h'.seed.trans h.seed,Az h.n h'.n⟩
theorem A6M(ts:List Tm)(t:Tm):∃l,add ts t=ts++l:=by
  unfold add;split
  . exact ⟨[],by simp⟩
  . exact ⟨_,E⟩
theorem A2s(ts:List Tm)(w:LN):∃l,rdT ts w=ts++l:=by
  cases hp:plc w ts.length with
  | some j=>exact ⟨[],by rw [(A0g hp).1];simp⟩
  | none=>rw [(A0H hp).1];exact A6M _ _
theorem A91(ts:List Tm)(w:LN)(t:Tm):∃l,add (rdT ts w) t=ts++l:=by obtain ⟨l1,e1⟩:=A2s ts w;obtain ⟨l2,e2⟩:=A6M (rdT ts w) t;exact ⟨l1++l2,by rw [e2,e1,Ap]⟩
theorem A92(s:Ps):Ext s (E7 s):=⟨A7N s,by unfold E7;split<;>rfl,by unfold E7;split<;>exact Nat.le_succ _⟩
theorem B3U(s:Ps)(w:LN):Ext s (H7 s w):=by
  unfold H7;split
  . exact Ext.refl s
  . exact ⟨⟨E,A91 _ _ _⟩,E,Av _⟩
theorem C3s{s:Ps}{i:Nat}(hi:i<s.ts.length)(hl:s.ts.length<=1048576):B2M s (bts ((i:Nat):Int))={ s with ts:=add s.ts (B0V ((i:Nat):Int)) }∧B6J s (bts ((i:Nat):Int))=bts ((at_ s.ts (B0V ((i:Nat):Int)):Nat):Int):=by obtain ⟨h1,h2⟩:=A4C hi hl;unfold B2M B6J;rw [h1,h2];exact ⟨E,E⟩
theorem C5i{s:Ps}{i:Nat}(hi:i<s.ts.length)(hl:s.ts.length<=1048576)(f:Int->Tm):B5P s (bts ((i:Nat):Int)) f={ s with ts:=add s.ts (f ((i:Nat):Int)) }∧B6M s (bts ((i:Nat):Int)) f=bts ((at_ s.ts (f ((i:Nat):Int)):Nat):Int):=by obtain ⟨h1,h2⟩:=A4C hi hl;unfold B5P B6M;rw [h1,h2];exact ⟨E,E⟩
theorem A6N{i:Nat}(h:i<=1048576):i64 ((i:Nat):Int):=by unfold i64;omega
def C0Z(s:Ps)(w p:LN):Prop:=∃i j:Nat,i<s.ts.length∧w=bts ((i:Nat):Int)∧s.ts[j]? = some (B0V ((i:Nat):Int))∧p=bts ((j:Nat):Int)
def S9(s:Ps)(w p:LN):Prop:=if s.real then p=A1E (H5 w 32) else C0Z s w p
def SkAt(s:Ps)(w p:LN):Prop:=if s.real then p=A9V (H5 w 32) else C0Z s w p
variable{s':Ps}
theorem C0Z.ext{s:Ps}(h:C0Z s w p)(he:Pext s s'):C0Z s' w p:=by obtain ⟨l,e⟩:=he.ts;obtain ⟨i,j,h1,h2,h3,h4⟩:=h;exact ⟨i,j,by rw [e,An];omega,h2,by rw [e];exact A4B h3,h4⟩
theorem S9.ext{s s':Ps}{w p:LN}(h:S9 s w p)(he:Pext s s'):S9 s' w p:=by
  unfold S9 at *;rw [he.real];split
  . rename_i hr;rwa [if_pos hr] at h
  . rename_i hr;rw [if_neg hr] at h;exact h.ext he
theorem C0Z.kok{s:Ps}(h:C0Z s w p):B8P s.ts w∧B8P s.ts p:=by obtain ⟨i,j,h1,h2,h3,h4⟩:=h;exact ⟨⟨i,h1,h2⟩,⟨j,(Ac.1 h3).1,h4⟩⟩
theorem S9.kok{s:Ps}{w p:LN}(h:S9 s w p):Kok s w∧Kok s p:=by
  unfold S9 at h;refine ⟨λhr=>?_,λhr=>?_⟩<;>rw [if_neg (by rw [hr];decide)] at h
  . exact h.kok.1
  . exact h.kok.2
theorem C00{s:Ps}(h:B8P s.ts w)(ht:Tok s.ts)(hl:s.ts.length<=1048576):C0Z (B2M s w) w (B6J s w)∧Tok (B2M s w).ts:=by obtain ⟨i,hi,rfl⟩:=h;obtain ⟨e1,e2⟩:=C3s hi hl;obtain ⟨l,g1,g2,g3,g4⟩:=A4A (B8Q (A6N (show i<=1048576 by omega))) ht;rw [e1,e2];exact ⟨⟨i,_,by show i<(add s.ts _).length;rw [g1,An];omega,E,g3,E⟩,g4⟩
theorem C3t{s:Ps}(h:Kok s w)(ht:Tok s.ts)(hl:s.ts.length<=1048576):S9 (H7 s w) w (I6 s w)∧SkAt (H7 s w) w (C0V s w)∧Tok (H7 s w).ts:=by
  unfold S9 SkAt H7 I6 C0V
  cases hr:s.real with
  | true=>simp [hr,ht]
  | false =>
    obtain ⟨h1,h2⟩:=C00 (h hr) ht hl;have h3:(B2M s w).real=false:=hr;simp only [Bool.false_eq_true,if_false,h3];exact ⟨h1,h1,h2⟩
theorem C0Z.eq{s:Ps}(h:C0Z s w p)(ht:Tok s.ts)(hl:s.ts.length<=1048576):B2M s w=s∧B6J s w=p:=by obtain ⟨i,j,h1,rfl,h3,rfl⟩:=h;obtain ⟨e1,e2⟩:=C3s h1 hl;obtain ⟨e3,e4⟩:=B2J ht h3;rw [e1,e2,e3,e4];exact ⟨E,E⟩
theorem S9.eq{s:Ps}{w p:LN}(h:S9 s w p)(ht:Tok s.ts)(hl:s.ts.length<=1048576):H7 s w=s∧I6 s w=p:=by
  unfold S9 at h;unfold H7 I6
  cases hr:s.real with
  | true=>rw [hr] at h;exact ⟨E,h.symm⟩
  | false=>rw [hr] at h;exact C0Z.eq h ht hl
def B5R(ts:List Tm)(p m g:LN):Bool:=decide (g.length=64)&&match plc g ts.length,plc p ts.length with
  | some i,some k=>decide (p.length=32)&&match ts[i]?,ts[k]? with
    | some t,some u=>decide (t.kind=7)&&decide (t.text=m)&&decide (u.kind=3)&&decide (u.of.getD 0 0=t.of.getD 0 0)
    | _,_=>false
  | _,_=>false
def B84(s:Ps)(p m g:LN):Bool:=if s.real then A7Z p m g else B5R s.ts p m g
def Ar(ts:List Tm):Prop:=∀t∈ts,(t.kind=3∨t.kind=6∨t.kind=7)->0<t.of.length
structure Rok(ts:List Tm)(w:LN):Prop where
  lt:∀x∈w,x<256
  len:w.length<=1000000000
  st:(∀n,plc w n=none)∨B8P ts w
theorem Rok.ext{ts l:List Tm}{w:LN}(h:Rok ts w):Rok (ts++l) w:=⟨h.lt,h.len,h.st.imp id B8P.ext⟩
variable{ts:List Tm}
theorem B8P.rok(h:B8P ts w):Rok ts w:=by obtain ⟨i,hi,rfl⟩:=h;exact ⟨B6B _,by rw [show (bts ((i:Nat):Int)).length=32 from A0Q _ qD];decide,.inr ⟨i,hi,E⟩⟩
theorem B85(ht:Tok ts)(hw:∀x∈w,x<256)(hl:w.length<=1000000000):Tok (rdT ts w):=by
  cases hp:plc w ts.length with
  | some j=>rw [(A0g hp).1];exact ht
  | none =>
    rw [(A0H hp).1];obtain ⟨l,h1,h2,h3,h4⟩:=A4A (A3i hw qO) ht;exact h4
theorem B7r{l:List Tm}(h:Rok ts w)(ht:Tok ts)(ht':Tok (rdT ts w++l))(hl:(rdT ts w++l).length<=1048576):rdT (rdT ts w++l) w=rdT ts w++l∧rdI (rdT ts w++l) w=rdI ts w:=by
  have hge:=B2H (ts:=ts) (w:=w);rw [An] at hl
  cases hp:plc w ts.length with
  | some j =>
    obtain ⟨e1,e2⟩:=A0g hp;obtain ⟨a1,a2⟩:=A7J hp;rw [e1,e2];exact A0g (a2 _ (by rw [An];omega))
  | none =>
    have hn:∀n,plc w n=none:=by
      rcases h.st with h|⟨i,hi,rfl⟩
      . exact h
      . rw [A2o,show u64 ((i:Nat):Int)=i by unfold u64;omega,if_pos hi] at hp;cases hp
    obtain ⟨e1,e2⟩:=A0H hp;obtain ⟨l0,g1,g2,g3,g4⟩:=A4A (A3i h.lt (by have:=h.len;omega)) ht;rw [e1] at ht' ⊢;rw [e2];obtain ⟨b1,b2⟩:=A0H (hn (add ts (B5N w)++l).length);rw [b1,b2];exact B2J ht' (A4B g3)
theorem A8X:∀(ws:List (LN)) (st:List Tm×List Int),∃l,(ws.foldl A0B st).1=st.1++l
  | [],st=>⟨[],by simp⟩
  | w::ws,st=>by obtain ⟨l1,e1⟩:=A8X ws (A0B st w);obtain ⟨l2,e2⟩:=A2s st.1 w;exact ⟨l2++l1,by rw [List.foldl_cons,e1,show (A0B st w).1=rdT st.1 w from rfl,e2,Ap]⟩
theorem B3V:∀(ws:List (LN)) (st:List Tm×List Int),(∀w∈ws,Rok st.1 w)->Tok st.1->Tok (ws.foldl A0B st).1
  | [],st,_,ht=>ht
  | w::ws,st,h,ht=>by obtain ⟨l2,e2⟩:=A2s st.1 w;have hw:=h w qM;exact B3V ws (A0B st w) (λv hv=>by show Rok (rdT st.1 w) v;rw [e2];exact (h v (by simp [hv])).ext) (B85 ht hw.lt hw.len)
theorem A75:∀(ws:List (LN)) (st:List Tm×List Int) (l:List Tm),(∀w∈ws,Rok st.1 w)->Tok st.1->Tok ((ws.foldl A0B st).1++l)->((ws.foldl A0B st).1++l).length<=1048576->ws.foldl A0B ((ws.foldl A0B st).1++l,st.2)=((ws.foldl A0B st).1++l,(ws.foldl A0B st).2)
  | [],st,l,_,_,_,_=>rfl
  | w::ws,st,l,h,ht,ht',hl=>by
    have hw:=h w qM;obtain ⟨l1,e1⟩:=A8X ws (A0B st w);have e2:(A0B st w).1=rdT st.1 w:=rfl;rw [List.foldl_cons] at ht' hl ⊢
    have hrest:∀v∈ws,Rok (A0B st w).1 v:=λv hv=>by obtain ⟨l2,e3⟩:=A2s st.1 w;rw [e2,e3];exact (h v (by simp [hv])).ext
    have ih:=A75 ws (A0B st w) l hrest (B85 ht hw.lt hw.len) ht' hl;have e4:(ws.foldl A0B (A0B st w)).1++l=rdT st.1 w++(l1++l):=by rw [e1,e2,Ap]
    obtain ⟨a1,a2⟩:=B7r hw ht (l:=l1++l) (by rw [<- e4];exact ht') (by rw [<- e4];exact hl);rw [List.foldl_cons]
    have e5:A0B ((ws.foldl A0B (A0B st w)).1++l,st.2) w=((ws.foldl A0B (A0B st w)).1++l,(A0B st w).2):=by
      show (rdT _ w,st.2++[((rdI _ w:Nat):Int)])=(_,st.2++[((rdI st.1 w:Nat):Int)])
      rw [e4,a1,a2]
    rw [e5];exact ih
theorem B87:∀(ws:List (LN)) {n0 k:Nat} {st:List Tm×List Int},RdOk n0 k st->(∀w∈ws,Rok st.1 w)->RdOk n0 (k+ws.length) (ws.foldl A0B st)
  | [],_,_,_,h,_=>h
  | w::ws,n0,k,st,h,hw=>by
    have h1:=hw w qM;have h2:=h.step h1.lt (by have:=h1.len;omega)
    have h3:=B87 ws h2 (λv hv=>by
      obtain ⟨l2,e3⟩:=A2s st.1 w;show Rok (rdT st.1 w) v
      rw [e3];exact (hw v (by simp [hv])).ext)
    rw [List.length_cons,show k+(ws.length+1)=k+1+ws.length by omega];exact h3
theorem A4S(ts:List Tm)(ofs:List Int)(lb:LN):∀n,∃l,(N7 ts ofs lb n).1=ts++l
  | 0=>⟨[],by show ts=_;simp⟩
  | n+1=>by obtain ⟨l1,e1⟩:=A4S ts ofs lb n;obtain ⟨l2,e2⟩:=A7M ts ofs lb n;exact ⟨l1++l2,by rw [e2,e1,Ap]⟩
variable{key lb:LN}{ws:List (LN)}
theorem A4T(ht:Tok ts)(h:∀w∈key::ws,Rok ts w)(hb:B256 lb)(hbl:lb.length<=1000)(hl:ts.length+ws.length+1<=1048576) :
    Tok (W9 ts key ws).1∧(∀k,k<100->Tmo (drv (W9 ts key ws).2 lb k)):=by
  have h0:RdOk ts.length 0 (ts,[]):=⟨Av _,rfl,(λx hx=>by cases hx),ht.tmo⟩
  have h1:=B87 (key::ws) h0 h;have e:W9 ts key ws=(key::ws).foldl A0B (ts,[]):=rfl;rw [<- e,List.length_cons] at h1;refine ⟨B3V (key::ws) (ts,[]) h ht,λk hk=>B8O (λx hx=>?_) (by rw [h1.ofl];omega) hb qO qO⟩;have h2:=h1.of x hx;have h3:=h1.len;unfold i64;omega
theorem A76(s:Ps)(key:LN)(ws:List (LN))(lb:LN)(n:Nat):Ext s (A34 s key ws lb n):=by
  cases hr:s.real with
  | true=>rw [A5F hr];exact Ext.refl s
  | false =>
    rw [A3B hr];obtain ⟨l1,e1⟩:=A8X (key::ws) (s.ts,[]);obtain ⟨l2,e2⟩:=A4S (W9 s.ts key ws).1 (W9 s.ts key ws).2 lb n;refine ⟨⟨E,l1++l2,?_⟩,E,Av _⟩;show (N7 _ _ _ _).1=_;rw [e2,show (W9 s.ts key ws).1=_ from e1,Ap]
variable{n:Nat}
theorem C01{s:Ps}(ht:Tok s.ts)(h:s.real=false->∀w∈key::ws,Rok s.ts w)(hb:B256 lb)(hbl:lb.length<=1000)(hn:n<=100)(hl:s.ts.length+ws.length+1<=1048576):Tok (A34 s key ws lb n).ts:=by
  cases hr:s.real with
  | true=>rw [A5F hr];exact ht
  | false =>
    obtain ⟨t1,hd⟩:=A4T ht (h hr) hb hbl hl;rw [A3B hr];exact A4D t1 hd hn
theorem A77{s:Ps}(ht:Tok s.ts)(h:s.real=false->∀w∈key::ws,Rok s.ts w)(hb:B256 lb)(hbl:lb.length<=1000)(hn:n<=100)(hl0:s.ts.length+ws.length+1<=1048576)(he:Pext (A34 s key ws lb n) s')(ht':Tok s'.ts)(hl:s'.ts.length<=1048576) :
    A34 s' key ws lb n=s'∧A4z s' key ws lb n=A4z s key ws lb n:=by
  have hrr:s'.real=s.real:=by rw [he.real,(A1B s key ws lb n).1]
  cases hr:s.real with
  | true=>exact ⟨A5F (hrr.trans hr),by rw [A2W hr,A2W (hrr.trans hr)]⟩
  | false =>
    have hr':s'.real=false:=hrr.trans hr;have h:=h hr;obtain ⟨l,e⟩:=he.ts;rw [A3B hr] at e;change s'.ts=(N7 (W9 s.ts key ws).1 (W9 s.ts key ws).2 lb n).1++l at e;obtain ⟨l2,e2⟩:=A4S (W9 s.ts key ws).1 (W9 s.ts key ws).2 lb n;have e3:s'.ts=(W9 s.ts key ws).1++(l2++l):=by rw [e,e2,Ap]
    obtain ⟨t1,hd⟩:=A4T ht h hb hbl hl0;have a:=A75 (key::ws) (s.ts,[]) (l2++l) h ht (by show Tok ((W9 s.ts key ws).1++(l2++l));rw [<- e3];exact ht') (by show ((W9 s.ts key ws).1++(l2++l)).length<=_;rw [<- e3];exact hl);change W9 ((W9 s.ts key ws).1++(l2++l)) key ws=((W9 s.ts key ws).1++(l2++l),(W9 s.ts key ws).2) at a;rw [<- e3] at a;have b:=A8K t1 hd hn (l:=l) e ht';have c:B0T s'.ts key ws lb n=(s'.ts,(B0T s.ts key ws lb n).2):=by unfold B0T;rw [a];exact b
    rw [A3B hr',A5G hr',A5G hr,c];exact ⟨E,E⟩
theorem B3W(s:Ps)(key:LN)(ws:List (LN))(lb:LN)(n:Nat):(A4z s key ws lb n).length=n:=by
  cases hr:s.real with
  | true=>rw [A2W hr];exact A6u _ _
  | false=>rw [A5G hr];exact (A1A _ _ _ _).1
theorem C02{s:Ps}{i:Nat}(ht:Tok s.ts)(h:s.real=false->∀w∈key::ws,Rok s.ts w)(hb:B256 lb)(hbl:lb.length<=1000)(hn:n<=100)(hl:s.ts.length+ws.length+1<=1048576)(hi:i<n):Kok (A34 s key ws lb n) ((A4z s key ws lb n).getD i []):=by
  intro hr';have hr:s.real=false:=by rw [<- (A1B s key ws lb n).1];exact hr'
  obtain ⟨t1,hd⟩:=A4T ht (h hr) hb hbl hl;obtain ⟨j,h1,h2⟩:=B2K t1 hd hn hi;rw [A3B hr,A5G hr];refine ⟨j,(Ac.1 h1).1,?_⟩;rw [Aj];show ((N7 _ _ _ _).2[i]?).getD []=_;rw [h2];rfl
theorem Kok.rok{s:Ps}{w:LN}(h:Kok s w):s.real=false->Rok s.ts w:=λhr=>(h hr).rok
theorem A78{ts:List Tm}{ofs:List Int}{lb:LN}:∀ {n:Nat},∀w∈(N7 ts ofs lb n).2,∃j:Nat,w=bts ((j:Nat):Int)
  | 0,w,h=>by cases h
  | n+1,w,h=>by
    rw [show N7 ts ofs lb (n+1)=B1q ofs lb (N7 ts ofs lb n) n from Q4 n] at h;rcases List.mem_append.1 (show w∈_++[_] from h) with h|h
    . exact A78 w h
    . exact ⟨_,List.mem_singleton.1 h⟩
theorem C03{s:Ps}(hn:n<=8):∀w∈A4z s key ws lb n,(∀x∈w,x<256)∧w.length=32:=by
  intro w hw
  cases hr:s.real with
  | true =>
    rw [A2W hr] at hw;obtain ⟨i,hi,rfl⟩:=List.mem_map.1 hw;have h1:=List.mem_range.1 hi;have h2:=A9J key ws lb hn;refine ⟨λx hx=>A4y _ _ _ x (Bw (List.mem_of_mem_drop hx)),?_⟩;rw [Bg,Bj,h2];omega
  | false =>
    rw [A5G hr] at hw;obtain ⟨j,rfl⟩:=A78 w hw;exact ⟨B6B _,A0Q _ qD⟩
theorem C04{s:Ps}{i:Nat}(hn:n<=8)(hi:i<n):(∀x∈(A4z s key ws lb n).getD i [],x<256)∧((A4z s key ws lb n).getD i []).length=32:=by have hl:=B3W s key ws lb n;rw [Aj,Ab qO];exact C03 hn _ (List.getElem_mem _)
theorem C4A{k:IntKind}(a b:Nat):I4 .eql k ((a:Nat):Int) ((b:Nat):Int)=some (.bool (decide (a=b))):=by
  by_cases h:a=b
  . rw [decide_eq_true h];exact eqT qO
  . rw [decide_eq_false h];exact eqF qO
theorem A93{l:List Int}(h:0<l.length):(A13 l)[0]? = some (.int .i64 (l.getD 0 0)):=by rw [Aj,A13,List.getElem?_map,Ab h];rfl
variable{g:LN}
theorem B7s(h:¬g.length=64):B5R ts p m g=false:=by unfold B5R;rw [decide_eq_false h,Bool.false_and]
theorem C05(h:plc g ts.length=none):B5R ts p m g=false:=by unfold B5R;rw [h];simp
theorem C06(h:plc p ts.length=none):B5R ts p m g=false:=by unfold B5R;rw [h];split<;>simp_all
theorem B7t{t u:Tm}{i k:Nat}(h64:g.length=64)(hi:plc g ts.length=some i)(hk:plc p ts.length=some k)(ht:ts[i]? = some t)(hu:ts[k]? = some u) :
    B5R ts p m g=(decide (p.length=32)&&(decide (t.kind=7)&&(decide (t.text=m)&&(decide (u.kind=3)&&(u.of.getD 0 0==t.of.getD 0 0))))):=by
  unfold B5R;rw [hi,hk,decide_eq_true h64];simp only [ht,hu,Bool.true_and,Bool.and_assoc];congr 4
theorem B3X{s:Ps}(h:s.real=true)(p m g:LN):B84 s p m g=A7Z p m g:=by unfold B84;rw [if_pos h]
theorem A3E{s:Ps}(h:s.real=false)(p m g:LN):B84 s p m g=B5R s.ts p m g:=by unfold B84;rw [if_neg (by rw [h];decide)]
theorem B7u{s:Ps}(h:¬g.length=64):B84 s p m g=false:=by
  cases hr:s.real with
  | true=>rw [B3X hr];exact B3P h
  | false=>rw [A3E hr];exact B7s h
theorem neN8{k:IntKind}(a b:Nat):I4 .neq k ((a:Nat):Int) ((b:Nat):Int)=some (.bool (!decide (a=b))):=by
  by_cases h:a=b
  . rw [decide_eq_true h];exact neF qO
  . rw [decide_eq_false h];exact neT qO
theorem B7v(pb:Nat)(s:Ps)(v1 v2 v3:Value)(wp wm wg:LN)(MP A:Mem)(hP:Prm pb s MP)(hsub:∀x,x∈MP->x∈A)(har:Ar s.ts)(hn:s.ts.length<=1048576)(hp:By A v1 wp)(hm:By A v2 wm)(hg:By A v3 wg)(hG:Glb A):FnV prog 77 [(vP pb),v1,v2,v3] A (.bool (B84 s wp wm wg)):=by
 obtain ⟨sv,bt,bm,B,MT,rfl,hby,hT⟩:=hP.ex;have hpb:=hsub _ qK;have hMT:∀x,x∈MT->x∈A:=λx hx=>hsub x (by simp [hx]);haveI:=hp.cel;haveI:=hm.cel;haveI:=hg.cel;haveI:=hby.cel;have hpl:=hp.len;have hml:=hm.len;have hgl:=hg.len;refine Ck (N:=106) func77 E E E λw_=>?_;refine A8 (D7 0 1 2 3) (A1 (aS_ E (A0 (D7 0 1 2 3) (A3 (A1 (mV_ E (lQ_ (F6 (e:=74) E E kR) (mv_ ?_))))))));refine F4 E E (Cn qm_ E ?_);refine F4 E E (Cn (G2 (sz:=1) E kR (by first|assumption|exact Sl.rd (by assumption) qI|exact By.rd (by assumption))) E ?_);refine F4 E E (Cn (F5 (!decide (wg.length=64)) E E (neN8 _ 64)) E ?_);refine lQ_ (E3 E E) (A0 (F2 0 1 2 3 23) ?_);refine C3 E ?_ ?_<;>intro hc
 .
  have h64:¬wg.length=64:=by simpa using hc
  refine A1 (as_ (A0 (D4 8) (A9 (tr ?_))));exact ⟨_,[],[],H8 E E,Aa _,by simp,by rw [B7u h64],E,E⟩
 .
  have h64:wg.length=64:=by simpa using hc
  refine A6 (nx (D7 0 1 2 3) (A3 (A1 (mV_ E (lQ_ (E1 E) (lQ_ (qf_ 0 0) ?_))))));refine lQ_ (I0 E kR (mA hpb) qR) ?_;refine lQ_ (E8 E E E) (A0 (F2 0 1 2 3 28) ?_);refine C3 E ?_ ?_<;>intro hc
  .
   have hr:s.real=true:=by cases hq:s.real with|true=>rfl|false=>rw [hq] at hc;exact absurd hc qD
   refine A1 (mv_ (mv_ (mv_ ?_)));refine E6 (aS E (aS E (aS E a0))) kR (C0U v1 v2 v3 wp wm wg _ (hp.mono qS) (hm.mono qS) (hg.mono qS) hG.s.up) E ?_;refine as_ (A0 (D4 8) (A9 (tr ?_)));exact ⟨_,[],[],H8 E E,Aa _,by simp,by rw [B3X hr],E,E⟩
  .
   have hr:s.real=false:=by cases hq:s.real with|false=>rfl|true=>rw [hq] at hc;exact absurd hc qD
   refine A6 (nx (D7 0 1 2 3) (A1 (mV_ E (lQ_ (E1 E) (lQ_ (qf_ 3 3) ?_)))));refine lQ_ (I0 E kR (mA hpb) qR) ?_;refine mv_ ?_;refine E6 (aS E (aS E a0)) kR (A0W bt bm s.ts v3 wg MT _ hT (λx hx=>qS _ (hMT x hx)) hn (hg.rd.mono qS) hg.lt hg.max) E ?_;refine mV_ E (lQ_ (Z9 E) (lQ_ (Z5 E) (aS_ E (aS_ E (A0 (F2 0 1 2 9 10) (A1 (mV_ E (lQ_ (E1 E) (lQ_ (qf_ 3 3) ?_)))))))));refine lQ_ (I0 E kR (mA hpb) qR) ?_;refine mv_ ?_;refine C6 (aS E (aS E a0)) kR (A2R bt bm s.ts _ MT _ hT (λx hx=>qS _ (hMT x hx))) E ?_;rintro v48 M48 J48 ⟨rfl,rfl,c48,ok48,rfl,hg1a,hg2a⟩;obtain ⟨voa,ta,rfl,hvoa,hza,htka,hoka,hnoa⟩:=A2S hT.tok.tmo hg1a hg2a;haveI:=hvoa.cel;refine mV_ E (lQ_ (Z9 E) (lQ_ (Z5 E) ?_));refine A2 E (C2 (cs:=[zu8,vS,.string ByteArray.empty,P0]) kR E λb11=>?_);refine A2 E (A5 (vs:=tmc ta.kind voa ta.text ta.n) E E E kR qR (by intro c hc;simp only [tmc,Cv,Cw,or_false] at hc;rcases hc with rfl|rfl|rfl|rfl<;>first|rfl|exact hvoa.one) Cs ?_);dsimp only [tmc];refine aS_ E (A0 (F2 0 1 2 10 11) (A1 (mV_ E (lQ_ (E1 E) (lQ_ (qf_ 3 3) ?_)))));refine lQ_ (I0 E kR (mA hpb) qR) ?_;refine mv_ ?_;refine E6 (aS E (aS E a0)) kR (A0W bt bm s.ts v1 wp MT _ hT (λx hx=>qS _ (hMT x hx)) hn (hp.rd.mono qS) hp.lt hp.max) E ?_;refine mV_ E (lQ_ (Z9 E) (lQ_ (Z5 E) (aS_ E (aS_ E (A0 (N9 0 1 2 10 11 13 14) (A1 (mV_ E (lQ_ (E1 E) (lQ_ (qf_ 3 3) ?_)))))))));refine lQ_ (I0 E kR (mA hpb) qR) ?_;refine mv_ ?_;refine C6 (aS E (aS E a0)) kR (A2R bt bm s.ts _ MT _ hT (λx hx=>qS _ (hMT x hx))) E ?_;rintro v66 M66 J66 ⟨rfl,rfl,c66,ok66,rfl,hg1b,hg2b⟩;obtain ⟨vob,tb,rfl,hvob,hzb,htkb,hokb,hnob⟩:=A2S hT.tok.tmo hg1b hg2b;haveI:=hvob.cel;refine mV_ E (lQ_ (Z9 E) (lQ_ (Z5 E) ?_));refine A2 E (C2 (cs:=[zu8,vS,.string ByteArray.empty,P0]) kR E λb15=>?_);refine A2 E (A5 (vs:=tmc tb.kind vob tb.text tb.n) E E E kR qR (by intro c hc;simp only [tmc,Cv,Cw,or_false] at hc;rcases hc with rfl|rfl|rfl|rfl<;>first|rfl|exact hvob.one) Cs ?_);dsimp only [tmc];refine as_ (A0 (G7 1 2 10 11 14 15) ?_);refine C8 (.range 38) (zp 0 [0,0,0,0,0,0,0,0,0,0,0,1,0,0,0,0,1,0,1,0,0,0,0,1,0,0,0,0,1,0,1,0,1,0,1,0,0,0]) kR kR λhs=>?_;refine fM_ E E (fm_ ?_);refine X9 (t:=70) E (λhb=>?_) (λhb=>?_)
   .
    obtain ⟨i,hi⟩:=Option.isSome_iff_exists.1 hb;refine fG_ E qm_ (fQ_ E (G4 E E) (fm_ ?_));refine X9 (t:=73) E (λhb=>?_) (λhb=>?_)
    .
     obtain ⟨k,hk⟩:=Option.isSome_iff_exists.1 hb
     have hta:s.ts[i]? = some ta:=by
      have hl:=(A7J hi).1;rw [hi] at hoka hnoa
      cases ok48 with
      | true=>have:=(hoka E).2;rwa [Option.getD_some,Int.toNat_natCast] at this
      | false=>exact absurd ⟨by rw [Option.getD_some];omega,by rw [Option.getD_some];omega⟩ (hnoa E)
     have htb:s.ts[k]? = some tb:=by
      have hl:=(A7J hk).1;rw [hk] at hokb hnob
      cases ok66 with
      | true=>have:=(hokb E).2;rwa [Option.getD_some,Int.toNat_natCast] at this
      | false=>exact absurd ⟨by rw [Option.getD_some];omega,by rw [Option.getD_some];omega⟩ (hnob E)
     have hcv:=B7t (m:=wm) h64 hi hk hta htb;refine fG_ E qm_ ?_;refine fG_ E (G2 (sz:=1) E kR (by first|assumption|exact Sl.rd (by assumption) qI|exact By.rd (by assumption))) ?_;refine fG_ E (F5 (decide (wp.length=32)) E E (C4A _ 32)) (fQ_ E (G4 E E) (fm_ ?_));refine X9 (t:=78) E (λhb=>?_) (λhb=>?_)
     .
      rw [hb,Bool.true_and] at hcv;refine fG_ E (qf_ 0 0) ?_;refine fH_ E ql_ ?_;refine fG_ E (F5 (decide (ta.kind=7)) E E (C4A _ 7)) (fQ_ E (G4 E E) (fm_ ?_));refine X9 (t:=83) E (λhb=>?_) (λhb=>?_)
      .
       rw [hb,Bool.true_and] at hcv;have ha0:0<ta.of.length:=har ta (As hta) (.inr (.inr (of_decide_eq_true hb)));refine fG_ E (qf_ 2 2) ?_;refine fH_ E ql_ ?_;refine fG_ E qm_ (fH_ E (L3 E kR (hm.rd.mono qS)) (fG_ E (C2G E E E E (hT.tok.tmo ta (As hta)).text.lt hm.lt) (fQ_ E (G4 E E) (fm_ ?_))));refine X9 (t:=90) E (λhb=>?_) (λhb=>?_)
       .
        rw [hb,Bool.true_and] at hcv;refine fG_ E (qf_ 0 0) ?_;refine fH_ E ql_ ?_;refine fG_ E (F5 (decide (tb.kind=3)) E E (C4A _ 3)) (fQ_ E (G4 E E) (fm_ ?_));refine X9 (t:=95) E (λhb=>?_) (λhb=>?_)
        . rw [hb,Bool.true_and] at hcv;have hb0:0<tb.of.length:=har tb (As htb) (.inl (of_decide_eq_true hb));refine fG_ E (qf_ 1 1) ?_;refine fH_ E ql_ ?_;refine fG_ E (H2 (sz:=1) (a:=0) E E kR E hvob hb0) ?_;refine fH_ E (Z4 (j:=0) (u:=.int .i64 (tb.of.getD 0 0)) (hvob.mono qS) E kR (A93 hb0)) (fG_ E (qf_ 1 1) ?_);refine fH_ E ql_ ?_;refine fG_ E (H2 (sz:=1) (a:=0) E E kR E hvoa ha0) ?_;refine fH_ E (Z4 (j:=0) (u:=.int .i64 (ta.of.getD 0 0)) (hvoa.mono qS) E kR (A93 ha0)) (fG_ E (E8 E E E) (fQ_ E (G4 E E) (fA_ E E (E0 (D4 8) (A9 ?_)))));exact ⟨_,[],[],H8 E E,Aa _,by simp,by rw [A3E hr,hcv],E,E⟩
        . rw [hb,Bool.false_and] at hcv;refine K9 hs ?_;refine W1 hs ?_;refine K9 hs ?_;refine W1 hs ?_;refine K9 hs ?_;refine W1 hs ?_;refine K9 hs ?_;refine W1 hs ?_;refine K9 hs ?_;refine fQ_ E (E3 E E) (fA_ E E (E0 (D4 8) (A9 ?_)));exact ⟨_,[],[],H8 E E,Aa _,by simp,by rw [A3E hr,hcv],E,E⟩
       . rw [hb,Bool.false_and] at hcv;refine K9 hs ?_;refine W1 hs ?_;refine K9 hs ?_;refine fQ_ E (E3 E E) (fm_ ?_);refine K9 hs ?_;refine W1 hs ?_;refine K9 hs ?_;refine W1 hs ?_;refine K9 hs ?_;refine W1 hs ?_;refine K9 hs ?_;refine W1 hs ?_;refine K9 hs ?_;refine fQ_ E (E3 E E) (fA_ E E (E0 (D4 8) (A9 ?_)));exact ⟨_,[],[],H8 E E,Aa _,by simp,by rw [A3E hr,hcv],E,E⟩
      . rw [hb,Bool.false_and] at hcv;refine K9 hs ?_;refine W1 hs ?_;refine K9 hs ?_;refine W1 hs ?_;refine K9 hs ?_;refine fQ_ E (E3 E E) (fm_ ?_);refine K9 hs ?_;refine W1 hs ?_;refine K9 hs ?_;refine fQ_ E (E3 E E) (fm_ ?_);refine K9 hs ?_;refine W1 hs ?_;refine K9 hs ?_;refine W1 hs ?_;refine K9 hs ?_;refine W1 hs ?_;refine K9 hs ?_;refine W1 hs ?_;refine K9 hs ?_;refine fQ_ E (E3 E E) (fA_ E E (E0 (D4 8) (A9 ?_)));exact ⟨_,[],[],H8 E E,Aa _,by simp,by rw [A3E hr,hcv],E,E⟩
     . rw [hb,Bool.false_and] at hcv;refine K9 hs ?_;refine W1 hs ?_;refine K9 hs ?_;refine fQ_ E (E3 E E) (fm_ ?_);refine K9 hs ?_;refine W1 hs ?_;refine K9 hs ?_;refine W1 hs ?_;refine K9 hs ?_;refine fQ_ E (E3 E E) (fm_ ?_);refine K9 hs ?_;refine W1 hs ?_;refine K9 hs ?_;refine fQ_ E (E3 E E) (fm_ ?_);refine K9 hs ?_;refine W1 hs ?_;refine K9 hs ?_;refine W1 hs ?_;refine K9 hs ?_;refine W1 hs ?_;refine K9 hs ?_;refine W1 hs ?_;refine K9 hs ?_;refine fQ_ E (E3 E E) (fA_ E E (E0 (D4 8) (A9 ?_)));exact ⟨_,[],[],H8 E E,Aa _,by simp,by rw [A3E hr,hcv],E,E⟩
    . have hcv:=C06 (g:=wg) (m:=wm) (Option.not_isSome_iff_eq_none.1 (by rw [hb];decide));refine K9 hs ?_;refine K9 hs ?_;refine K9 hs ?_;refine fQ_ E (E3 E E) (fm_ ?_);refine K9 hs ?_;refine W1 hs ?_;refine K9 hs ?_;refine fQ_ E (E3 E E) (fm_ ?_);refine K9 hs ?_;refine W1 hs ?_;refine K9 hs ?_;refine W1 hs ?_;refine K9 hs ?_;refine fQ_ E (E3 E E) (fm_ ?_);refine K9 hs ?_;refine W1 hs ?_;refine K9 hs ?_;refine fQ_ E (E3 E E) (fm_ ?_);refine K9 hs ?_;refine W1 hs ?_;refine K9 hs ?_;refine W1 hs ?_;refine K9 hs ?_;refine W1 hs ?_;refine K9 hs ?_;refine W1 hs ?_;refine K9 hs ?_;refine fQ_ E (E3 E E) (fA_ E E (E0 (D4 8) (A9 ?_)));exact ⟨_,[],[],H8 E E,Aa _,by simp,by rw [A3E hr,hcv],E,E⟩
   . have hcv:=C05 (p:=wp) (m:=wm) (Option.not_isSome_iff_eq_none.1 (by rw [hb];decide));refine K9 hs ?_;refine fQ_ E (E3 E E) (fm_ ?_);refine K9 hs ?_;refine K9 hs ?_;refine K9 hs ?_;refine fQ_ E (E3 E E) (fm_ ?_);refine K9 hs ?_;refine W1 hs ?_;refine K9 hs ?_;refine fQ_ E (E3 E E) (fm_ ?_);refine K9 hs ?_;refine W1 hs ?_;refine K9 hs ?_;refine W1 hs ?_;refine K9 hs ?_;refine fQ_ E (E3 E E) (fm_ ?_);refine K9 hs ?_;refine W1 hs ?_;refine K9 hs ?_;refine fQ_ E (E3 E E) (fm_ ?_);refine K9 hs ?_;refine W1 hs ?_;refine K9 hs ?_;refine W1 hs ?_;refine K9 hs ?_;refine W1 hs ?_;refine K9 hs ?_;refine W1 hs ?_;refine K9 hs ?_;refine fQ_ E (E3 E E) (fA_ E E (E0 (D4 8) (A9 ?_)));exact ⟨_,[],[],H8 E E,Aa _,by simp,by rw [A3E hr,hcv],E,E⟩

theorem A6O(h:w.length=n):H5 w n=w:=by unfold H5;rw [Aw qO,h,Nat.sub_self];simp
theorem B3Y(w:LN):(A1E w).length=32:=A1F _ _
theorem B7w(x y:Int):srt x y=srt y x:=by
  unfold srt;rcases Int.lt_trichotomy x y with h|h|h
  . rw [if_neg qO,if_pos h]
  . subst h;rfl
  . rw [if_pos h,if_neg qO]
def B88(i j:Nat):Tm:=⟨4,srt ((i:Nat):Int) ((j:Nat):Int),[],0⟩
variable{j:Nat}
theorem C07{i:Nat}(hi:i<=1048576)(hj:j<=1048576):Tmo (B88 i j):=B2B (s:=0) (o:=0) (A2p _ _) (λz hz=>(B2A hz).elim (λe=>e▸A6N hi) (λe=>e▸A6N hj)) (.inl E)
def C4B(s:Ps)(a b k:LN):Prop:=∃i j m:Nat,i<s.ts.length∧j<s.ts.length∧a=bts ((i:Nat):Int)∧b=bts ((j:Nat):Int)∧s.ts[m]? = some (B88 i j)∧k=bts ((m:Nat):Int)
def A3l(s:Ps)(a b k:LN):Prop:=if s.real then k=x25 (H5 a 32) (A1E (H5 b 32))∧(∀x∈a,x<256)∧∀x∈b,x<256 else C4B s a b k
variable{k a b:LN}
theorem A3l.t{s:Ps}(h:s.real=true):A3l s a b k↔k=x25 (H5 a 32) (A1E (H5 b 32))∧(∀x∈a,x<256)∧∀x∈b,x<256:=by unfold A3l;rw [if_pos h]
theorem A3l.f{s:Ps}(h:s.real=false):A3l s a b k↔C4B s a b k:=by unfold A3l;rw [if_neg (by rw [h];decide)]
theorem C4B.ext{s:Ps}(h:C4B s a b k)(he:Pext s s'):C4B s' a b k:=by obtain ⟨l,e⟩:=he.ts;obtain ⟨i,j,m,h1,h2,h3,h4,h5,h6⟩:=h;exact ⟨i,j,m,by rw [e,An];omega,by rw [e,An];omega,h3,h4,by rw [e];exact A4B h5,h6⟩
theorem A3l.ext{s s':Ps}{a b k:LN}(h:A3l s a b k)(he:Pext s s'):A3l s' a b k:=by
  cases hr:s.real with
  | true=>rw [A3l.t hr] at h;rw [A3l.t (he.real.trans hr)];exact h
  | false=>rw [A3l.f hr] at h;rw [A3l.f (he.real.trans hr)];exact h.ext he
theorem C08{i p:Nat}(hp:ts[p]? = some (B0V ((j:Nat):Int))):agT ts ((i:Nat):Int) ((p:Nat):Int)=B88 i j:=by rw [B2z (t:=B0V ((j:Nat):Int)) qO (by rw [Int.toNat_natCast];exact hp) ⟨E,E⟩];rfl
theorem B3Z{s:Ps}{i p:Nat}(hi:i<s.ts.length)(hp:s.ts[p]? = some (B0V ((j:Nat):Int)))(hl:s.ts.length<=1048576) :
    C0i s (bts ((i:Nat):Int)) (bts ((p:Nat):Int))={ s with ts:=add s.ts (B88 i j) }∧C2j s (bts ((i:Nat):Int)) (bts ((p:Nat):Int))=bts ((at_ s.ts (B88 i j):Nat):Int):=by
  have hpl:=(Ac.1 hp).1;obtain ⟨a1,a2⟩:=A4C hi hl;obtain ⟨b1,b2⟩:=A4C hpl hl;unfold C0i C2j;rw [a1,a2,b1,b2,C08 hp];exact ⟨E,E⟩
theorem A3m{s:Ps}(h:s.real=true)(a B:LN):L0 s a B=s∧A08 s a B=x25 (H5 a 32) (H5 B 32):=by unfold L0 A08;rw [if_pos h,if_pos h];exact ⟨E,E⟩
theorem A3n{s:Ps}(h:s.real=false)(a B:LN):L0 s a B=C0i s a B∧A08 s a B=C2j s a B:=by unfold L0 A08;rw [if_neg (by rw [h];decide),if_neg (by rw [h];decide)];exact ⟨E,E⟩
theorem B4a(s:Ps)(a B:LN):Ext s (L0 s a B):=by
  cases hr:s.real with
  | true=>rw [(A3m hr a B).1];exact Ext.refl s
  | false =>
    rw [(A3n hr a B).1];obtain ⟨l1,e1⟩:=A2s s.ts a;obtain ⟨l2,e2⟩:=A2s (rdT s.ts a) B;obtain ⟨l3,e3⟩:=A6M (rdT (rdT s.ts a) B) (agT (rdT (rdT s.ts a) B) ((rdI s.ts a:Nat):Int) ((rdI (rdT s.ts a) B:Nat):Int));refine ⟨⟨E,l1++(l2++l3),?_⟩,E,Av _⟩;show add _ _=_;rw [e3,e2,e1];simp
theorem T0(s:Ps)(a B:LN):(L0 s a B).ts.length<=s.ts.length+3:=by
  cases hr:s.real with
  | true=>rw [(A3m hr a B).1];omega
  | false =>
    rw [(A3n hr a B).1];have h1:=R9 (ts:=s.ts) (ws:=a);have h2:=R9 (ts:=rdT s.ts a) (ws:=B);have h3:=A0P (ts:=rdT (rdT s.ts a) B) (t:=agT (rdT (rdT s.ts a) B) ((rdI s.ts a:Nat):Int) ((rdI (rdT s.ts a) B:Nat):Int));show (add _ _).length<=_;omega
theorem B4b(s:Ps)(a B:LN):(L0 s a B).n=s.n:=by unfold L0;split<;>rfl
theorem C3u{s:Ps}{B:LN}(ha:Kok s a)(hB:S9 s b B)(ht:Tok s.ts)(hl:s.ts.length<=1048576)(h1:∀x∈a,x<256)(h2:∀x∈b,x<256):A3l (L0 s a B) a b (A08 s a B)∧Tok (L0 s a B).ts:=by
  cases hr:s.real with
  | true =>
    rw [(A3m hr a B).1,(A3m hr a B).2,A3l.t hr];unfold S9 at hB;rw [if_pos hr] at hB;rw [hB,A6O (B3Y _)];exact ⟨⟨E,h1,h2⟩,ht⟩
  | false =>
    unfold S9 at hB;rw [if_neg (by rw [hr];decide)] at hB;obtain ⟨i,hi,rfl⟩:=ha hr;obtain ⟨j,p,hj,rfl,hp,rfl⟩:=hB;obtain ⟨e1,e2⟩:=B3Z hi hp hl;rw [(A3n hr _ _).1,(A3n hr _ _).2,e1,e2];obtain ⟨l,g1,g2,g3,g4⟩:=A4A (C07 (show i<=1048576 by omega) (show j<=1048576 by omega)) ht;exact ⟨(A3l.f (s:={ s with ts:=add s.ts (B88 i j) }) hr).2 ⟨i,j,_,by show i<(add s.ts _).length;rw [g1,An];omega,by show j<(add s.ts _).length;rw [g1,An];omega,E,E,g3,E⟩,g4⟩
theorem A3l.eq{s:Ps}{B:LN}(h:A3l s a b k)(hB:S9 s b B)(ht:Tok s.ts)(hl:s.ts.length<=1048576):L0 s a B=s∧A08 s a B=k:=by
  cases hr:s.real with
  | true =>
    rw [A3l.t hr] at h;unfold S9 at hB;rw [if_pos hr] at hB;rw [(A3m hr a B).1,(A3m hr a B).2,hB,A6O (B3Y _),h.1];exact ⟨E,E⟩
  | false =>
    rw [A3l.f hr] at h;unfold S9 at hB;rw [if_neg (by rw [hr];decide)] at hB;obtain ⟨i,j,m,g1,g2,rfl,rfl,g3,rfl⟩:=h;obtain ⟨j',p,hj,e,hp,rfl⟩:=hB;have:=A8J qO qO e;subst this;obtain ⟨e1,e2⟩:=B3Z g1 hp hl;obtain ⟨e3,e4⟩:=B2J ht g3;rw [(A3n hr _ _).1,(A3n hr _ _).2,e1,e2,e3,e4];exact ⟨E,E⟩
theorem B4c(seed:LN)(i:Nat):B5O seed i=A8U (A8U [] seed) (([107,101,121]++A9I i)++[1]):=by unfold B5O;rw [<- A6H];exact B7i _ _
def aw0(r:Bool):Ps:=⟨r,[115],0,[]⟩
def aw2(r:Bool):Ps:=E7 (E7 (aw0 r))
def bes(n k x:Nat):LN:=(List.range x).map λj=>n/2^(8*(k-1-j))%256
def beN(n k:Nat):LN:=bes n k k
theorem B4d(n k x:Nat):(bes n k x).length=x:=by simp [bes]
theorem K2(n k:Nat):(beN n k).length=k:=B4d n k k
theorem B7x(n k x:Nat):bes n k (x+1)=bes n k x++[n/2^(8*(k-1-x))%256]:=by simp [bes,List.range_succ]
theorem C3v(n k x:Nat):∀y∈bes n k x,y<256:=by intro y hy;simp only [bes,List.mem_map] at hy;obtain ⟨j,_,rfl⟩:=hy;exact Ad _ qD
theorem A5M(n k:Nat):∀y∈beN n k,y<256:=C3v n k k
theorem B89(ha:∀x∈a,x<256)(hb:∀x∈b,x<256):∀x∈a++b,x<256:=λx hx=>(List.mem_append.1 hx).elim (ha x) (hb x)
structure Wtr(wb:Nat)(ws:LN)(M:Mem):Prop where
  ex:∃(v:Value) (B:Mem),M=(wb,blk [v] 126)::B∧Sl 1 v ws.length (nums .u8 ws) B
  lt:∀x∈ws,x<256
theorem Wtr.new{b:Nat}:Wtr b [] [(b,blk [vS] 126)]:=⟨⟨_,[],rfl,Sl.nil⟩,λx h=>by cases h⟩
theorem Wtr.eq{wb:Nat}{ws ws':LN}{M:Mem}(h:Wtr wb ws M)(e:ws=ws'):Wtr wb ws' M:=e▸h
theorem Q3(wb n k:Nat)(ws:LN)(M A:Mem)(hW:Wtr wb ws M)(hn:n<18446744073709551616)(hk:k<=8)(hl:ws.length<=1099511627776):FnX prog 51 [(vP wb),(vW n),(vI k)] M A λq M J=>q=(vP wb)∧Wtr wb (ws++beN n k) M:=by
 obtain ⟨⟨v,B,rfl,hsl⟩,hlt⟩:=hW;haveI:=hsl.cel;refine Cl (N:=33) func51 E E E λw_=>?_;refine A8 (D6 0 1 2) (A1 (as_ (A0 (D6 0 1 2) (A3 (A1 (mv_ ?_))))));refine lQ_ (D5 ((k:Int)-1) E E (W7 E qO qO)) ?_;refine as_ (A0 (D6 0 1 7) (A7 ?_));refine E5 (α:=Nat×Value×Mem) (λx=>[(0,(vP wb)),(1,(vW n)),(7,.int .i64 ((k:Int)-1-(x.1:Int)))]) (λx=>(wb,blk [x.2.1] 126)::x.2.2) (λ_=>[]) (λx=>x.1<=k∧Sl 1 x.2.1 (ws++bes n k x.1).length (nums .u8 (ws++bes n k x.1)) x.2.2) (λx=>k-x.1) ⟨0,v,B⟩ ⟨Am _,by simpa [bes] using hsl⟩ (kq 0 (kq 1 (kp 7 (by simp;rfl) kn))) .rfl qI ?_;clear hsl;rintro ⟨x,v,B⟩ ⟨hx,hsl⟩;dsimp only at hx hsl ⊢;haveI:=hsl.cel;have hbl:=B4d n k x;have hll:(ws++bes n k x).length=ws.length+x:=by rw [An,hbl]
 refine A3 (A1 (mV_ E (lQ_ (E8 E E E) (mv_ ?_))));refine V8 (t:=12) E (λhb=>?_) (λhb=>?_)
 .
  have hltx:x<k:=by simp at hb;omega
  obtain ⟨m,hm,hm2⟩:∃m:Nat,((k:Int)-1-(x:Int))=(m:Int)∧m=k-1-x:=⟨k-1-x,by omega,E⟩
  rw [hm];refine F4 E E (Cn qm_ E ?_);refine F4 E E (Cn (F5 true E E (ltT qO)) E ?_);refine lQ_ (G4 E E) (A0 (D7 0 1 7 15) ?_);refine D9 E ?_;refine A6 (nx (D6 0 1 7) (A3 (A7 ?_)));refine H3 [0,1,2,3,4,5,6,7,8,9,10,12,13] (zp 0 [0,0,0,0,1,0,0,0,0,0,2,2,0,0,2]) kR kR λhs=>?_;refine fM_ E E (fM_ E E (fQ_ E (E1 E) (fQ_ E (qf_ 0 0) ?_)));refine fR_ E ql_ ?_;refine fM_ E E (fm_ ?_);refine fQ_ E (A1g (a:=8) E E E E qO) ?_;refine fQ_ E (A3A (a:=n) (b:=8*m) E E E E (by show _<=64;omega)) ?_;refine fQ_ E (A12 E kR) ?_
  refine B6n E E λ_=>(C4 (e:=5) (sz:=1) (z:=[zu8]) kR (eS E e0) (bdS 0 1 E qR bd0) E λb28=>?_)
  refine G1 E E E (H4 (e:=5) (sz:=1) (by_:=1) E E kR E (by first|assumption|exact Sl.nil) (Co (n:=1) Cc qR) (by first|(simp [Value.oneCell'];done)|(intro c hc;simp only [List.mem_singleton] at hc;subst hc;first|exact Rd.one (by assumption)|exact Sl.one (by assumption))) qP (by unfold maxLen;omega) qO E λv29 B29 hs29=>?_);refine fQ_ E (E1 E) (fQ_ E (qf_ 0 0) ?_);refine G1 E E E (E4 E E hs29.one kR Cq Cs ?_);refine R7 (nb (nx (D6 0 1 7) (C1 (mv_ ?_))));refine lQ_ (D5 ((m:Int)-1) E E (W7 E qO qO)) ?_;refine as_ (C5 ?_);exact rn ⟨x+1,v29,B29⟩ ⟨by dsimp only;omega,by dsimp only;rw [B7x,<- Ap,<- hm2];exact W8 hs29 (by simp only [List.length_append,List.length_singleton]) (by simp [nums])⟩ (by dsimp only;omega) (kq 0 (kq 1 (kp 7 (by dsimp only;rw [show ((k:Int)-1-((x+1:Nat):Int))=(m:Int)-1 by omega];rfl) kn))) (Ch (B:=[_]) qP (Cf qP)) (λ_ h=>by first|exact h|cases h)
 .
  have hge:x=k:=by simp at hb;omega
  subst hge;refine K0 E E E E ?_;refine K0 E E E E ?_;refine lQ_ (E3 E E) (A0 (D7 0 1 7 15) ?_);refine C7 E ?_;refine D8 (te (re (be E (nx (D4 0) (A1 (mV_ E (aS_ E (A0 (D4 6) (A9 ?_)))))))));exact ⟨_,(wb,blk [v] 126)::B,[],H8 E E,Cg (Cf qP),E,⟨⟨v,B,E,hsl⟩,B89 hlt (A5M n x)⟩⟩
theorem N0(wb:Nat)(p:Value)(w ws:LN)(M A:Mem)(hW:Wtr wb ws M)(hp:By A p w)(hl:ws.length<=1099511620000):FnX prog 52 [(vP wb),p] M A λq M J=>q=(vP wb)∧Wtr wb (ws++beN w.length 4++w) M:=by
 haveI:=hp.cel;have hpl:=hp.len;refine Cl (N:=20) func52 E E E λw_=>?_;refine A8 (D0 0 1) (A1 (as_ (A0 (D0 0 1) (A1 (mv_ (mv_ ?_))))));refine lQ_ (G2 (sz:=1) E kR hp.rd) ?_;refine lQ_ (B1G E kR) ?_;rw [Af (show w.length<18446744073709551616 by omega)];refine A2 E (C9 (Mc:=_) (R:=_) (aS E (aS E (aS E (a0)))) kR qP (Q3 wb w.length 4 ws _ _ hW qO qD qO) E ?_);rintro v9 M9 J9 ⟨rfl,hW9⟩;obtain ⟨⟨v,B,rfl,hsl⟩,hlt⟩:=hW9;haveI:=hsl.cel;have hbl:=K2 w.length 4;have hll:(ws++beN w.length 4).length=ws.length+4:=by rw [An,hbl]
 refine A0 (D0 0 1) (A1 (mV_ E (mV_ E (lQ_ (E1 E) (lQ_ (qf_ 0 0) ?_)))));refine lQ_ ql_ ?_;refine mv_ ?_;refine A2 E (H4 (e:=5) (sz:=1) (by_:=1) E E kR E hsl (hp.rd.mono qS) E9 qP (by unfold maxLen;omega) qO E λv16 B16 hs16=>?_);refine lQ_ (E1 E) (lQ_ (qf_ 0 0) ?_);refine A2 E (E4 E E hs16.one kR Cq Cs ?_);refine A0 (D4 0) (A1 (mv_ (as_ (A0 (D4 4) (A9 ?_)))));exact ⟨_,(wb,blk [v16] 126)::B16,[],H8 E E,Cg (Ch (B:=[_]) qP (Cf qP)),E,⟨⟨v16,B16,E,W8 hs16 (by simp only [List.length_append]) (by simp [nums])⟩,B89 hlt hp.lt⟩⟩
theorem A0l(wb:Nat)(ws:LN)(M A:Mem)(hW:Wtr wb ws M)(hl:ws.length<=16777216):FnX prog 53 [(vP wb)] M A λq M J=>Wtr wb ws M∧By J q ws:=by obtain ⟨⟨v,B,rfl,hsl⟩,hlt⟩:=hW;haveI:=hsl.cel;refine Cl (N:=8) func53 E E E λw_=>?_;refine A8 (D4 0) (A1 (aS_ E (A0 (D4 0) (A1 (mV_ E (lQ_ (E1 E) (lQ_ (qf_ 0 0) ?_)))))));refine lQ_ ql_ ?_;refine A2 E (H4 (e:=5) (sz:=1) (by_:=1) E E kR E Sl.nil (hsl.rd qS) E9 qP (by unfold maxLen;omega) qO E λv7 B7 hs7=>?_);refine as_ (A0 (D4 2) (A9 ?_));exact ⟨_,(wb,blk [v] 126)::B,B7,H8 E E,Ch qP (Cf qP),⟨⟨v,B,E,hsl⟩,hlt⟩,⟨by simpa using hs7.rd (R:=B7) qS,hlt,hl⟩⟩

def A94(n:Nat)(w:LN):LN:=beN 6 4++[112,114,101,107,101,121]++beN n 4++(beN w.length 4++w)
theorem C09(h:n<4294967296):IntKind.u64.wrap (n:Int)=(n:Int):=A3S qO qO
theorem C1a{b:Nat}{e:TypeId}{fr:Nat×Nat}(hm:(b,Obj.cells (nums .u8 w).toArray e fr)∈R)(hn:w.length=n)(hlt:∀x∈w,x<256)(hl:w.length<=16777216):By R (.slice (some ⟨b,0,none⟩) n n) w:=by subst hn;exact ⟨Co (n:=w.length) hm qM,hlt,hl⟩
theorem A79(n:Nat)(v:Value)(w:LN)(A:Mem)(hn:n<4294967296)(hv:By A v w)(hl:w.length<=1000000):FnX prog 38 [(vU n),v] [] A λq M J=>M=[]∧By J q (A94 n w):=by haveI:=hv.cel;refine Cl (N:=18) func38 E E E λw_=>?_;refine A8 (D0 0 1) (A1 (as_ (A0 (D0 0 1) (A1 ?_))));refine lQ_ (F0 (place:=λx=>#[(0,1)][x]?) (z:=[vS]) (λ_=>by kernel_rfl) e0 bd0) ?_;refine A2 E (bx_ λb7=>?_);refine as_ (A0 (D6 0 1 5) (A1 (mv_ ?_)));refine A2 E (C4 (e:=5) (sz:=1) (z:=[zu8,zu8,zu8,zu8,zu8,zu8]) kR (eS E (eS E (eS E (eS E (eS E (eS E e0)))))) (bdS 0 1 E qR (bdS 1 1 E qR (bdS 2 1 E qR (bdS 3 1 E qR (bdS 4 1 E qR (bdS 5 1 E qR bd0)))))) E λb9=>?_);refine A2 E (A4k E kR Cs E ?_);refine A2 E (C9 (Mc:=[(b7,blk [vS] 126)]) (R:=_) (aS E (aS E (a0))) kR qP (N0 b7 _ [112,114,101,107,101,121] [] _ _ Wtr.new (C1a Cc qR qD qD) qD) E ?_);rintro v11 M11 J11 ⟨rfl,hW11⟩;refine mv_ ?_;refine lQ_ (K4 (k':=.u64) n E kR (C09 qO)) ?_;refine A2 E (C9 (Mc:=M11) (R:=_) (aS E (aS E (aS E (a0)))) kR qP (Q3 b7 n 4 _ _ _ hW11 qO qD (by simp [K2])) E ?_);rintro v14 M14 J14 ⟨rfl,hW14⟩;refine mv_ ?_;refine A2 E (C9 (Mc:=M14) (R:=_) (aS E (aS E (a0))) kR qP (N0 b7 v w _ _ _ hW14 (hv.mono qS) (by simp [K2])) E ?_);rintro v16 M16 J16 ⟨rfl,hW16⟩;refine A2 E (C9 (Mc:=M16) (R:=_) (aS E (a0)) kR qP (A0l b7 _ _ _ hW16 (by simp [K2];omega)) E ?_);rintro v17 M17 J17 ⟨hW17,hb17⟩;haveI:=hb17.cel;refine as_ (A0 (D4 4) (A9 ?_));exact ⟨_,[],[],H8 E E,qZ,E,by simpa [A94,List.append_assoc] using hb17.mono qS⟩

theorem B4e{P:Program}{f:FuncId}{args:List Value}{A':Mem}(h:FnV P f args A v)(hs:∀x,x∈A->x∈A'):FnV P f args A' v:=by
  intro w hw;refine Calls.mono (h w ⟨hw.os,hw.tape,hw.output,hw.size,hw.frame,λb o hb=>hw.mem b o (by simpa using hs _ (by simpa using hb)),hw.nodup,hw.own,hw.sepJ,λb o hb=>hw.sepA b o (hs _ hb),hw.old⟩) ?_;rintro e w' ⟨r,M',J',rfl,⟨rfl,rfl,rfl⟩,h2⟩;refine ⟨_,[],[],E,⟨E,E,E⟩,⟨h2.os,h2.tape,h2.output,h2.size,h2.frame,λb o hb=>?_,h2.nodup,h2.own,h2.sepJ,λb o hb=>hw.sepA b o hb,h2.old⟩⟩;have hb':(b,o)∈A':=by simpa using hb
  have h3:=h2.frame b (hw.sepA b o hb').2 qM;rw [h3];exact hw.mem b o (by simpa using hb')
structure Pr where
  n:Nat
  sec:LN
  sig:LN
structure Nm where
  n:Nat
  id:LN
def prR(R:Mem)(x:Pr)(r:List Value):Prop:=∃vs vg,r=[(vU x.n),vs,vg]∧By R vs x.sec∧By R vg x.sig∧x.n<4294967296
theorem prT:RowT 3 prR:=⟨λR R' x r hR ⟨vo,vk,h1,h2,h3,h4⟩=>⟨vo,vk,h1,h2.mono hR,h3.mono hR,h4⟩,λR x r ⟨vo,vk,h1,_⟩=>by rw [h1];rfl,λR x r ⟨vo,vk,h1,h2,h3,_⟩ c hc=>by
  rw [h1] at hc;simp only [Cv,Cw,or_false] at hc;rcases hc with rfl|rfl|rfl
  . rfl
  . exact h2.one
  . exact h3.one⟩
def nmR(R:Mem)(x:Nm)(r:List Value):Prop:=∃vi,r=[(vU x.n),vi]∧By R vi x.id∧x.n<4294967296
theorem nmT:RowT 2 nmR:=⟨λR R' x r hR ⟨vi,h1,h2,h4⟩=>⟨vi,h1,h2.mono hR,h4⟩,λR x r ⟨vi,h1,_⟩=>by rw [h1];rfl,λR x r ⟨vi,h1,h2,_⟩ c hc=>by
  rw [h1] at hc;simp only [Cv,Cw,or_false] at hc;rcases hc with rfl|rfl
  . rfl
  . exact h2.one⟩
theorem eq32(a b:Nat):I4 .eql .u32 ((a:Nat):Int) ((b:Nat):Int)=some (.bool (decide (a=b))):=by
  by_cases h:a=b
  . rw [decide_eq_true h];exact eqT qO
  . rw [decide_eq_false h];exact eqF qO
theorem A5N(v:Value)(rows:List (List Value))(f:FuncId)(cs:List Value)(p:Nat->Bool)(A:Mem)(hv:Rd A 3 v rows.length rows.flatten)(hl:∀r∈rows,r.length=3)(hn:rows.length<=1099511627776)(hc_:K8 prog f=true)(hf:∀(j:Nat) (r:List Value),rows[j]? = some r->FnV prog f (.agg r.toArray::cs) A (.bool (p j))):FnV prog 73 [v,.func (.func f) #[] cs.toArray] A (.int .i64 (A7V p rows.length)):=by
 haveI:=hv.cel;refine Ck (N:=19) func73 E E E λw=>?_;refine A8 (D0 0 1) (A1 (as_ (A0 (D0 0 1) (A3 (A1 (mv_ ?_))))));refine lQ_ (G2 (sz:=3) E kR hv) ?_;refine mv_ (A0 (D7 0 1 7 8) (A7 ?_));refine E5 (α:=Nat) (λi=>[(0,v),(1,.func (.func f) #[] cs.toArray),(7,(vI rows.length)),(8,.int .i64 (i:Int))]) (λ_=>[]) (λ_=>[]) (λi=>i<=rows.length∧∀j,j<i->p j=false) (λi=>rows.length-i) 0 ⟨Am _,λj h=>absurd h (Nat.not_lt_zero j)⟩ (D7 0 1 7 8) .rfl qI ?_;rintro i ⟨hi,hp⟩;refine A1 (lQ_ (E8 E E E) (A0 (F2 0 1 7 8 9) (A3 ?_)));refine C3 E ?_ ?_<;>intro hc
 .
  have hlt:i<rows.length:=by simp at hc;omega
  obtain ⟨r,hr⟩:∃r,rows[i]? = some r:=⟨_,Ab hlt⟩
  refine A6 (nx (D7 0 1 7 8) (A3 (A7 (A1 (mV_ E (aS_ E (A0 (F2 0 1 5 7 8) (A1 (mv_ (mv_ (mv_ ?_)))))))))));refine lQ_ (H2 (sz:=3) E E kR E hv hlt) ?_;refine lQ_ (A1t E kR (hv.mono qS) hl qD hr) ?_;refine A2 E (A1T E (aS E a0) hc_ (hf i r hr) E ?_);refine A0 (G7 0 1 5 7 8 16) ?_;refine C3 E ?_ ?_<;>intro hc
  . refine A1 (mV_ E (aS_ E (A0 (D4 4) (A9 (br (tr (rr (br (tr ?_)))))))));exact ⟨_,[],[],H8 E E,Aa _,by simp,by rw [A1C hlt hp hc],E,E⟩
  . refine A6 (nb (nx (D7 0 1 7 8) (C1 ?_)));refine lQ_ (K5 (b:=1) E E E E qO) ?_;refine mv_ (C5 ?_);exact rn (i+1) ⟨hlt,λj hj=>by rcases Nat.lt_succ_iff_lt_or_eq.1 hj with h|h;exact hp j h;rw [h];exact hc⟩ qO (D7 0 1 7 8) .rfl qI
 .
  have hge:i=rows.length:=by simp at hc;omega
  subst hge;refine D8 (te (re (be E (nx kn (A1 (aS_ E (A0 (D4 4) (A9 ?_))))))));exact ⟨_,[],[],H8 E E,Aa _,by simp,by rw [A1D hp],E,E⟩
theorem B06(v:Value)(rows:List (List Value))(f:FuncId)(cs:List Value)(p:Nat->Bool)(A:Mem)(hv:Rd A 2 v rows.length rows.flatten)(hl:∀r∈rows,r.length=2)(hn:rows.length<=1099511627776)(hc_:K8 prog f=true)(hf:∀(j:Nat) (r:List Value),rows[j]? = some r->FnV prog f (.agg r.toArray::cs) A (.bool (p j))):FnV prog 72 [v,.func (.func f) #[] cs.toArray] A (.int .i64 (A7V p rows.length)):=by
 haveI:=hv.cel;refine Ck (N:=19) func72 E E E λw=>?_;refine A8 (D0 0 1) (A1 (as_ (A0 (D0 0 1) (A3 (A1 (mv_ ?_))))));refine lQ_ (G2 (sz:=2) E kR hv) ?_;refine mv_ (A0 (D7 0 1 7 8) (A7 ?_));refine E5 (α:=Nat) (λi=>[(0,v),(1,.func (.func f) #[] cs.toArray),(7,(vI rows.length)),(8,.int .i64 (i:Int))]) (λ_=>[]) (λ_=>[]) (λi=>i<=rows.length∧∀j,j<i->p j=false) (λi=>rows.length-i) 0 ⟨Am _,λj h=>absurd h (Nat.not_lt_zero j)⟩ (D7 0 1 7 8) .rfl qI ?_;rintro i ⟨hi,hp⟩;refine A1 (lQ_ (E8 E E E) (A0 (F2 0 1 7 8 9) (A3 ?_)));refine C3 E ?_ ?_<;>intro hc
 .
  have hlt:i<rows.length:=by simp at hc;omega
  obtain ⟨r,hr⟩:∃r,rows[i]? = some r:=⟨_,Ab hlt⟩
  refine A6 (nx (D7 0 1 7 8) (A3 (A7 (A1 (mV_ E (aS_ E (A0 (F2 0 1 5 7 8) (A1 (mv_ (mv_ (mv_ ?_)))))))))));refine lQ_ (H2 (sz:=2) E E kR E hv hlt) ?_;refine lQ_ (A1t E kR (hv.mono qS) hl qD hr) ?_;refine A2 E (A1T E (aS E a0) hc_ (hf i r hr) E ?_);refine A0 (G7 0 1 5 7 8 16) ?_;refine C3 E ?_ ?_<;>intro hc
  . refine A1 (mV_ E (aS_ E (A0 (D4 4) (A9 (br (tr (rr (br (tr ?_)))))))));exact ⟨_,[],[],H8 E E,Aa _,by simp,by rw [A1C hlt hp hc],E,E⟩
  . refine A6 (nb (nx (D7 0 1 7 8) (C1 ?_)));refine lQ_ (K5 (b:=1) E E E E qO) ?_;refine mv_ (C5 ?_);exact rn (i+1) ⟨hlt,λj hj=>by rcases Nat.lt_succ_iff_lt_or_eq.1 hj with h|h;exact hp j h;rw [h];exact hc⟩ qO (D7 0 1 7 8) .rfl qI
 .
  have hge:i=rows.length:=by simp at hc;omega
  subst hge;refine D8 (te (re (be E (nx kn (A1 (aS_ E (A0 (D4 4) (A9 ?_))))))));exact ⟨_,[],[],H8 E E,Aa _,by simp,by rw [A1D hp],E,E⟩
theorem P9(v:Value)(w:LN)(A:Mem)(h:By A v w):FnX prog 26 [v] [] A λr M J=>M=[]∧By J r w:=by
 haveI:=h.cel;have hwl:=h.len;refine Cl (N:=8) func26 E E E λw_=>?_;refine A8 (D4 0) (A1 (as_ (A0 (D4 0) (A3 (A1 (mv_ ?_))))));refine lQ_ (A1u (e:=5) E kR (by first|assumption|exact Sl.rd (by assumption) qI|exact By.rd (by assumption))) ?_;refine A0 (D0 0 4) ?_;refine C3 E ?_ ?_<;>intro hc
 . have h0:=h.rd.isNil hc;obtain rfl:w=[]:=Bd h0;refine A1 (as_ (A0 (D4 2) (A9 (tr ?_))));exact ⟨_,[],[],H8 E E,qZ,E,By.nil⟩
 . refine A6 (nx (D4 0) (A1 ?_));refine A2 E (C4 (e:=5) (sz:=1) (z:=[]) kR e0 bd0 E λb5=>?_);refine mv_ ?_;refine A2 E (H4 (e:=5) (sz:=1) (by_:=1) E E kR E (Sl.fresh (n:=0) (cs:=[]) (e:=5) E qD) (h.rd.mono qS) E9 qP (by unfold maxLen;omega) qO E λv7 B7 hs7=>?_);refine as_ (A0 (D4 2) (A9 ?_));exact ⟨_,[],B7,H8 E E,Ch qP qZ,E,⟨A0C (hs7.rd λx hx=>by simp [hx]) qO qM,h.lt,h.len⟩⟩
theorem A1a(va vb:Value)(a b:LN)(A:Mem)(ha:By A va a)(hb:By A vb b):FnV prog 31 [va,vb] A (.bool (decide (a=b))):=by haveI:=ha.cel;haveI:=hb.cel;refine Ck (N:=10) func31 E E E λw=>?_;refine A8 (D0 0 1) (A1 (aS_ E (A0 (D0 0 1) (A1 (mV_ E (lQ_ (L3 E kR (ha.rd.mono qS)) (mV_ E (lQ_ (L3 E kR (hb.rd.mono qS)) (lQ_ (C2G E E E E ha.lt hb.lt) (as_ (A0 (D4 4) (A9 ?_))))))))))));exact ⟨_,[],[],H8 E E,Aa _,by simp,E,E,E⟩
theorem B7y{k:IntKind}(c:Int):I4 .geq k c 0=some (.bool (decide (0<=c))):=by
  by_cases h:0<=c
  . rw [decide_eq_true h];exact geT h
  . rw [decide_eq_false h];exact geF qO
theorem A6P(v:Value)(rows:List (List Value))(f:FuncId)(cs:List Value)(p:Nat->Bool)(A:Mem)(hv:Rd A 3 v rows.length rows.flatten)(hl:∀r∈rows,r.length=3)(hn:rows.length<=1099511627776)(hc_:K8 prog f=true)(hf:∀(j:Nat) (r:List Value),rows[j]? = some r->FnV prog f (.agg r.toArray::cs) A (.bool (p j))):FnV prog 41 [v,.func (.func f) #[] cs.toArray] A (.bool (decide (0<=A7V p rows.length))):=by haveI:=hv.cel;refine Ck (N:=9) func41 E E E λw=>?_;refine A8 (D0 0 1) (A1 (as_ (A0 (D0 0 1) (A1 (mv_ (mv_ ?_))))));refine E6 (aS E (aS E a0)) kR (A5N v rows f cs p _ (hv.mono qS) hl hn hc_ (λj r hr=>B4e (hf j r hr) qS)) E ?_;refine lQ_ (F5 (decide (0<=A7V p rows.length)) E E (B7y _)) (as_ (A0 (D4 4) (A9 ?_)));exact ⟨_,[],[],H8 E E,Aa _,by simp,E,E,E⟩
theorem B07(vs vg:Value)(x:Pr)(n b:Nat)(A:Mem)(hs:By A vs x.sec)(hg:By A vg x.sig)(hb:(b,blk [(vU n)] 30)∈A):FnV prog 128 [.agg #[(vU x.n),vs,vg],(vP b)] A (.bool (decide (x.n=n))):=by haveI:=hs.cel;haveI:=hg.cel;refine Ck (N:=8) func128 E E E λw=>?_;refine A8 (D0 0 1) (A1 ?_);refine A2 E (bx_ λb2=>?_);refine aS_ E (A0 (D0 1 2) (A1 (lQ_ (qf_ 0 0) ?_)));refine lQ_ ql_ ?_;refine lQ_ (I0 E kR (mA hb) qR) ?_;refine lQ_ (F5 (decide (x.n=n)) E E (eq32 _ _)) (as_ (A0 (D4 3) (A9 ?_)));exact ⟨_,[],[],H8 E E,Aa _,by simp,E,E,E⟩
theorem A8Y(vs vg vi:Value)(x:Pr)(n b:Nat)(A:Mem)(hs:By A vs x.sec)(hg:By A vg x.sig)(hvi:Cel vi [vi])(hb:(b,blk [(vU n),vi] 115)∈A):FnV prog 42 [.agg #[(vU x.n),vs,vg],(vP b)] A (.bool (decide (x.n=n))):=by haveI:=hs.cel;haveI:=hg.cel;refine Ck (N:=9) func42 E E E λw=>?_;refine A8 (D0 0 1) (A1 ?_);refine A2 E (bx_ λb2=>?_);refine aS_ E (A0 (D0 1 2) (A1 (lQ_ (qf_ 0 0) ?_)));refine lQ_ ql_ ?_;refine lQ_ (qf_ 0 0) ?_;refine lQ_ (I0 E kR (mA hb) qR) ?_;refine lQ_ (F5 (decide (x.n=n)) E E (eq32 _ _)) (as_ (A0 (D4 3) (A9 ?_)));exact ⟨_,[],[],H8 E E,Aa _,by simp,E,E,E⟩

structure Ks where
  user:Int
  dev:Int
  agree:LN
  sign:LN
  signed:List Pr
  once:List Pr
  next:Nat
  met:List Nm
def A5c(n:Nat)(x:Pr):Bool:=decide (x.n=n)
def A5l(l:List Pr)(n:Nat):Option (LN):=if W3 (A5c n) l<0 then none else (l[(W3 (A5c n) l).toNat]?).map (·.sec)
variable{l:List Pr}
theorem A6Q(h:W3 (A5c n) l = -1):A5l l n=none:=if_pos (by rw [h];decide)
theorem A0i{i:Nat}{x:Pr}(h:W3 (A5c n) l=(i:Int))(hx:l[i]? = some x):A5l l n=some x.sec:=by unfold A5l;rw [h,if_neg qO,Int.toNat_natCast,hx];rfl
structure KyR(R:Mem)(kb:Nat)(k:Ks)(va vg vs vo vm:Value)(rs ro rm:List (List Value)):Prop where
  blk_:(kb,blk [.int .i64 k.user,.int .i64 k.dev,va,vg,vs,vo,(vU k.next),vm] 79)∈R
  agree:By R va k.agree
  sign:By R vg k.sign
  signed:Rd R 3 vs k.signed.length rs.flatten
  signedR:RwL prR R rs k.signed
  once:Rd R 3 vo k.once.length ro.flatten
  onceR:RwL prR R ro k.once
  met:Rd R 2 vm k.met.length rm.flatten
  metR:RwL nmR R rm k.met
  next:k.next<4294967296
  l1:k.signed.length<=1000000
  l2:k.once.length<=1000000
  l3:k.met.length<=1000000
theorem KyR.mono{R R':Mem}{kb:Nat}{k:Ks}{va vg vs vo vm:Value}{rs ro rm:List (List Value)}(h:KyR R kb k va vg vs vo vm rs ro rm)(hR:∀x,x∈R->x∈R'):KyR R' kb k va vg vs vo vm rs ro rm :=
  ⟨hR _ h.blk_,h.agree.mono hR,h.sign.mono hR,h.signed.mono hR,h.signedR.mono prT hR,h.once.mono hR,h.onceR.mono prT hR,h.met.mono hR,h.metR.mono nmT hR,h.next,h.l1,h.l2,h.l3⟩
theorem B4f{rows:List (List Value)}{b:Nat}(hR:RwL prR A rows l)(hb:(b,blk [(vU n)] 30)∈A) :
    ∀(j:Nat) (r:List Value),rows[j]? = some r->FnV prog 128 (.agg r.toArray::[(vP b)]) A (.bool ((λj=>(l[j]?.map (A5c n)).getD false) j)):=λj r hr=>by
  obtain ⟨x,hx,vs,vg,rfl,hs,hg,_⟩:=hR.of hr;dsimp only;rw [hx];exact B07 vs vg x n b _ hs hg hb
theorem C3w(v:Value)(rows:List (List Value))(l:List Pr)(n:Nat)(A:Mem)(hv:Rd A 3 v l.length rows.flatten)(hR:RwL prR A rows l)(hl:l.length<=1000000):FnX prog 89 [v,(vU n)] [] A λr M J=>M=[]∧∃q,r=.tuple #[q,.bool (A5l l n).isSome]∧By J q ((A5l l n).getD []):=by
 haveI:=hv.cel;refine Cl (N:=18) func89 E E E λw_=>?_;refine A8 (D0 0 1) (A1 ?_);refine A2 E (bx_ λb3=>?_);refine aS_ E (aS_ E (A0 (D0 0 3) (A1 (mV_ E (lQ_ (A36 (aS E a0)) ?_)))));refine E6 (aS E (aS E a0)) kR (A5N v rows 128 [(vP b3)] (λj=>(l[j]?.map (A5c n)).getD false) _ (by rw [hR.len];exact hv.mono qS) (hR.lens prT) (by rw [hR.len];omega) kR (B4f (hR.mono prT qS) Cc)) E ?_;rw [hR.len,show A7V (λj=>(l[j]?.map (A5c n)).getD false) l.length=W3 (A5c n) l from rfl];refine aS_ E (A0 (D0 0 6) (A3 (A1 (mV_ E (lQ_ (E8 E E E) (A0 (D6 0 6 11) ?_))))));refine C3 E ?_ ?_<;>intro hc
 .
  have hf:W3 (A5c n) l = -1:=by
   obtain ⟨hf,hz⟩|⟨i,x,hf,hxi,hq,hmin⟩:=P8 (A5c n) l
   . exact hf
   . rw [hf] at hc;(simp at hc)<;>omega
  refine A1 (as_ (as_ (A0 (D0 4 5) (A9 (tr ?_)))));exact ⟨_,[],[],A1Z E E E,qZ,E,_,by rw [A6Q hf];rfl,by rw [A6Q hf];exact By.nil⟩
 .
  obtain ⟨hf,hz⟩|⟨i,x,hf,hxi,hq,hmin⟩:=P8 (A5c n) l
  . rw [hf] at hc;simp at hc
  have hil:=(Ac.1 hxi).1;rw [hf];obtain ⟨r,hr,vs,vg,rfl,hs,hg,hxn⟩:=hR.get i x hxi;haveI:=hs.cel;refine A6 (nx (D0 0 6) (A1 (mv_ (mv_ ?_))));refine lQ_ (H2 (sz:=3) E E kR E hv hil) ?_;refine lQ_ (B2q (off:=1) E hv hil kR) ?_;refine lQ_ (B2r (u:=vs) E (hv.mono qS) qO kR (by rw [A2D (hR.lens prT) hr 1 qD];rfl)) ?_;refine C6 (aS E a0) kR (P9 vs x.sec _ (hs.mono qS)) E ?_;rintro v17 M17 J17 ⟨rfl,h17⟩;haveI:=h17.cel;refine as_ (as_ (A0 (D0 4 5) (A9 ?_)));exact ⟨_,[],[],A1Z E E E,qZ,E,_,by rw [A0i hf hxi];rfl,by rw [A0i hf hxi];exact h17.mono qS⟩
theorem B7z(kb:Nat)(k:Ks)(va vg vs vo vm:Value)(rs ro rm:List (List Value))(n:Nat)(A:Mem)(hK:KyR A kb k va vg vs vo vm rs ro rm):FnX prog 62 [(vP kb),(vU n)] [] A λr M J=>M=[]∧∃q,r=.tuple #[q,.bool (A5l k.signed n).isSome]∧By J q ((A5l k.signed n).getD []):=by have hkb:=hK.blk_;haveI:=hK.agree.cel;haveI:=hK.sign.cel;haveI:=hK.signed.cel;haveI:=hK.once.cel;haveI:=hK.met.cel;refine Cl (N:=16) func62 E E E λw_=>?_;refine A8 (D0 0 1) (A1 (aS_ E (aS_ E (A0 (D0 0 1) (A3 (A1 (mV_ E (lQ_ (F6 (e:=79) E E kR) (A0 (D6 0 1 7) ?_)))))))));refine C7 E ?_;refine A6 (nx (D0 0 1) (A1 (mV_ E (lQ_ (E1 E) (lQ_ (qf_ 4 4) ?_)))));refine lQ_ (I0 E kR (mA hkb) qR) ?_;refine mv_ ?_;refine C6 (aS E (aS E a0)) kR (C3w vs rs k.signed n _ (hK.signed.mono qS) (hK.signedR.mono prT qS) hK.l1) E ?_;rintro r13 M13 J13 ⟨rfl,q,rfl,hq⟩;haveI:=hq.cel;refine lQ_ (Z9 E) (lQ_ (Z5 E) (as_ (as_ (A0 (D0 4 5) (A9 ?_)))));exact ⟨_,[],[],A1Z E E E,qZ,E,_,E,hq.mono qS⟩
theorem C3x(kb:Nat)(k:Ks)(va vg vs vo vm:Value)(rs ro rm:List (List Value))(A:Mem)(hK:KyR A kb k va vg vs vo vm rs ro rm):FnV prog 23 [(vP kb)] A (.agg #[.int .i64 k.user,.int .i64 k.dev]):=by have hkb:=hK.blk_;haveI:=hK.agree.cel;haveI:=hK.sign.cel;haveI:=hK.signed.cel;haveI:=hK.once.cel;haveI:=hK.met.cel;refine Ck (N:=10) func23 E E E λw=>?_;refine A8 (D4 0) (A1 ?_);refine A2 E (C2 (cs:=[P0,P0]) kR E λb2=>?_);refine A0 (D0 0 2) (A3 (A1 (mV_ E (lQ_ (F6 (e:=79) E E kR) (A0 (D6 0 2 4) ?_)))));refine C7 E ?_;refine A6 (nx (D0 0 2) (A1 (mV_ E (lQ_ (E1 E) (lQ_ (qf_ 0 0) (lQ_ (H9 (n:=2) E kR (mA hkb) Cr) ?_))))));refine A2 E (A5 E E Cd kR ln2 al2 Cs ?_);refine A0 (D4 2) (A9 ?_);exact ⟨_,[],[],A1d E E kR Cc qR,Aa _,by simp,E,E,E⟩
theorem A95(kb:Nat)(k:Ks)(va vg vs vo vm:Value)(rs ro rm:List (List Value))(A:Mem)(hK:KyR A kb k va vg vs vo vm rs ro rm):FnX prog 49 [(vP kb)] [] A λr M J=>M=[]∧By J r k.agree:=by have hkb:=hK.blk_;haveI:=hK.agree.cel;haveI:=hK.sign.cel;haveI:=hK.signed.cel;haveI:=hK.once.cel;haveI:=hK.met.cel;refine Cl (N:=10) func49 E E E λw_=>?_;refine A8 (D4 0) (A1 (aS_ E (A0 (D4 0) (A3 (A1 (mV_ E (lQ_ (F6 (e:=79) E E kR) (A0 (D0 0 4) ?_))))))));refine C7 E ?_;refine A6 (nx (D4 0) (A1 (mV_ E (lQ_ (E1 E) (lQ_ (qf_ 2 2) ?_)))));refine lQ_ (I0 E kR (mA hkb) qR) ?_;refine C6 (aS E a0) kR (P9 va k.agree _ (hK.agree.mono qS)) E ?_;rintro r9 M9 J9 ⟨rfl,h9⟩;haveI:=h9.cel;refine as_ (A0 (D4 2) (A9 ?_));exact ⟨_,[],[],H8 E E,qZ,E,h9.mono qS⟩

end Go.Proofs.YtglbhoeolghndaaGreatDoor
