/- The card of the law TopOld: it returns true for every input; each argument reads behind the call as it read before; the listed package variables are tied to the program's text. No further condition. -/
import Derived.Test.YtgpjndfgjjlhaaaGreatDoorB12
import Derived.Lib.Overlaps
import Derived.Lib.LaidTab
import Derived.Stop.LaidErr
import Derived.MakeChecks
import Derived.Test.YtgpjndfgjjlhaaaGreatDoorCards
import Derived.Test.YtgpjndfgjjlhaaaGreatDoorTie
import Derived.Deep.DeepHandedRow
import Derived.Deep.DeepWitnessRowRef
import Derived.Lay
import Derived.LaidMore
set_option linter.unusedVariables false
set_option linter.unusedSimpArgs false
set_option maxRecDepth 100000
open Go.Proofs.Tryz
noncomputable section
namespace Go.Proofs.YtgpjndfgjjlhaaaGreatDoor
open Go.Px
def oldZ:Bool:=Fo.f (rcA 1) λA=>Fo.f (B4z 1 1 A.2) λB=>decide (KsF A.1∧KsF B.1)&&C4Q A.1 B.1 7 B.2 [] []
set_option maxHeartbeats 2000000 in
theorem C53:oldZ=true:=by decide +kernel
theorem C54:(KsF (rcA 1).1∧KsF (rcB 1).1)∧OlP (rcA 1).1 (rcB 1).1 7 (rcB 1).2 []:=by have h:=C53;unfold oldZ at h;simp only [Fo.e] at h;rw [Bool.and_eq_true,decide_eq_true_eq] at h;refine ⟨h.1,C16 7 _ [] [] ?_ h.2 ⟨λy hy=>absurd hy List.not_mem_nil,List.nodup_nil⟩ λy hy=>absurd hy List.not_mem_nil⟩;rfl

theorem C4p:rcA 0=(rKs 0 1 0,rcR 7):=newR 0 1 0
theorem C55:rcB 0=(rKs 1 1 7,rcR 14):=by unfold rcB;rw [C4p];exact newR 1 1 7
def rRow(u d:Int)(n:Nat):List Bn:=[rBn u d n 0,rBn u d n 1,rBn u d n 2,rBn u d n 3,rBn u d n 4]
section
variable{i j:Nat}(hj:j<5)(hi:i<5)
include hj
end
variable{u1 d1 u2 d2:Int}{a b c j:Nat}
theorem C4R:(rId u1 d1 a u2 d2 b c j).length=32:=A0m _
theorem C4S:(rWi u1 d1 a u2 d2 b).length=160:=by unfold rWi B1h;rw [An,A88,A88,rbl,rgl,rbl,rgl]
variable{root:LN}
theorem rTrl{dh:LN}:((rTr root dh).getD 1 []).length=32:=by show (((A8p root [dh] A2u 2).take (32*1+32)).drop (32*1)).length=32;unfold A8p;simp [X4]
variable{n:Nat}
theorem ksR{u d:Int}:KsF (rKs u d n):=⟨E,(by decide:4<=10),(by decide:([2,3,4,5]:LN).Pairwise (· < ·))⟩
theorem st1R(hc:c<=90)(hk:A73 (rg (b+2)) (A97 1 (rb (b+3))) (rs b)=true):C37 (rKs u1 d1 a) (rRow u2 d2 b,rcR c) (rBn u2 d2 b j):=by
  refine ⟨⟨E,Am _,Az hc qD⟩,λt ht=>absurd ht List.not_mem_nil,?_,?_⟩
  . show ckB (rcR c) (rBn u2 d2 b j)=true;unfold ckB;rw [show (rBn u2 d2 b j).key=rb (b+3) from rfl,show (rBn u2 d2 b j).ig=rg (b+2) from rfl,show (rBn u2 d2 b j).sig=rs b from rfl,show (rBn u2 d2 b j).signed=1 from rfl,B4l E,hk,rbl];rfl
  . show (stS (rKs u1 d1 a) (rBn u2 d2 b j) (rcR c)).ts.length<=900∧(stS (rKs u1 d1 a) (rBn u2 d2 b j) (rcR c)).n<=900∧(stH (rKs u1 d1 a) (rBn u2 d2 b j) (rcR c)).ia.length<=1000∧(stH (rKs u1 d1 a) (rBn u2 d2 b j) (rcR c)).ig.length<=1000∧(stH (rKs u1 d1 a) (rBn u2 d2 b j) (rcR c)).key.length<=1000∧(idA (rKs u1 d1 a) (stS (rKs u1 d1 a) (rBn u2 d2 b j) (rcR c))).length+(idG (rKs u1 d1 a) (stS (rKs u1 d1 a) (rBn u2 d2 b j) (rcR c))).length+(rBn u2 d2 b j).ia.length+(rBn u2 d2 b j).ig.length<=1000000;rw [C5M,C5N,idR.2.1,idR.2.2];show 0<=900∧c+1<=900∧(rb (a+1)).length<=1000∧(rg (a+2)).length<=1000∧(rb (c+1)).length<=1000∧(rb (a+1)).length+(rg (a+2)).length+(rb (b+1)).length+(rg (b+2)).length<=1000000;rw [rbl,rgl,rbl,rbl,rgl];omega
def rX(u1 d1:Int)(a:Nat)(u2 d2:Int)(b c j:Nat):Ses:=⟨rId u1 d1 a u2 d2 b c j,rWi u1 d1 a u2 d2 b,rHe a c j,true,rRt a b c j⟩
section
variable{u1 d1 u2 d2 fu fd tu td:Int}{a b c j x y:Nat}{tx:LN}
theorem wil:(wiW (rX u1 d1 a u2 d2 b c j) (rX u1 d1 a u2 d2 b c j).he fu fd tu td).length<=1000:=by have h:=A61 [] (A1N (rX u1 d1 a u2 d2 b c j) (rX u1 d1 a u2 d2 b c j).he fu fd tu td);have e1:(A1N (rX u1 d1 a u2 d2 b c j) (rX u1 d1 a u2 d2 b c j).he fu fd tu td).ses.length=32:=C4R;have e2:(A1N (rX u1 d1 a u2 d2 b c j) (rX u1 d1 a u2 d2 b c j).he fu fd tu td).he.ia.length=32:=rbl _;have e3:(A1N (rX u1 d1 a u2 d2 b c j) (rX u1 d1 a u2 d2 b c j).he fu fd tu td).he.ig.length=32:=rgl _;have e4:(A1N (rX u1 d1 a u2 d2 b c j) (rX u1 d1 a u2 d2 b c j).he fu fd tu td).he.key.length=32:=rbl _;have e5:([]:LN).length=0:=rfl;unfold wiW;rw [An,show (rX u1 d1 a u2 d2 b c j).wi.length=160 from C4S];omega
theorem snR:SnF (rcR x) (rX u1 d1 a u2 d2 b c j) fu fd tu td:=by
  refine ⟨Am _,E,?_,?_,?_,Az wil qD⟩
  . show 0<((rTr (A3v a b c j) (xk (rk (c+2)) (rb (b+3)))).getD 1 []).length;rw [rTrl];decide
  . rw [show (rX u1 d1 a u2 d2 b c j).wi.length=160 from C4S];decide
  . show (rId u1 d1 a u2 d2 b c j).length+(rb (a+1)).length+(rg (a+2)).length+(rb (c+1)).length<=1000000;rw [C4R,rbl,rgl,rbl];decide
def rE(u1 d1:Int)(a:Nat)(u2 d2:Int)(b c j:Nat)(fu fd tu td:Int)(y:Nat)(tx:LN):Ev:=evS (rcR y) (rX u1 d1 a u2 d2 b c j) (rX u1 d1 a u2 d2 b c j).he fu fd tu td tx
theorem C56:rE u1 d1 a u2 d2 b c j fu fd tu td y tx=⟨fu,fd,tu,td,rId u1 d1 a u2 d2 b c j,true,rHe a c j,rb (c+2),0,0,A3b (rcR y) (rRt a b c j) (wiW (rX u1 d1 a u2 d2 b c j) (rX u1 d1 a u2 d2 b c j).he fu fd tu td) tx⟩:=by unfold rE evS;rw [show I5 (rcR y) (rX u1 d1 a u2 d2 b c j).r.own=rb (c+2) from A5d y (c+2)];rfl
end
section
variable{u1 d1 u2 d2 fu fd tu td:Int}{a b c j x y:Nat}{tx:LN}
theorem anFR(hj:j<5)(h1:Cm (a+1) (b+3))(h2:Cm (c+1) (b+1))(h3:Cm (c+1) (b+3))(h4:0<j->Cm (c+1) (b+3+j))(h5:Cm (c+2) (b+3))(hx:x<=400)(hf:fu=u1)(hg:fd=d1)(hl:tx.length<=1000):AnF (rKs u2 d2 b) (rE u1 d1 a u2 d2 b c j fu fd tu td y tx) (rcR x) tx (A3v a b c j) (rk (b+3)) (rcR x) (rZ a b c j x).1 (rZ a b c j x).2:=by
  subst hf hg;have e0:rE fu fd a u2 d2 b c j fu fd tu td y tx=_:=C56
  have w0:aWi (rKs u2 d2 b) (rE fu fd a u2 d2 b c j fu fd tu td y tx) (rcR x)=rWi fu fd a u2 d2 b:=by unfold aWi;rw [idR.2.1,idR.2.2];rfl
  have w1:aNm (rKs u2 d2 b) (rE fu fd a u2 d2 b c j fu fd tu td y tx) (rcR x)=rNm fu fd a u2 d2 b c j:=by unfold aNm;rw [w0];rfl
  have w2:aC (rKs u2 d2 b) (rE fu fd a u2 d2 b c j fu fd tu td y tx) (rcR x)=rcR x:=by unfold aC;rw [idR.1,A63 rfl]
  have w3:aX (rKs u2 d2 b) (rE fu fd a u2 d2 b c j fu fd tu td y tx) (rcR x) (A3v a b c j) (rk (b+3))=⟨rId fu fd a u2 d2 b c j,rWi fu fd a u2 d2 b,he0,false,A14 (A3v a b c j) (rk (b+3))⟩:=by unfold aX;rw [w0,w1,idR.1,A40 rfl];rfl
  have wl:=wil (u1:=fu) (d1:=fd) (u2:=u2) (d2:=d2) (a:=a) (b:=b) (c:=c) (j:=j) (fu:=fu) (fd:=fd) (tu:=tu) (td:=td);have wf:rWi fu fd a u2 d2 b++frW [] (rE fu fd a u2 d2 b c j fu fd tu td y tx)=wiW (rX fu fd a u2 d2 b c j) (rX fu fd a u2 d2 b c j).he fu fd tu td:=rfl
  have gl:(rE fu fd a u2 d2 b c j fu fd tu td y tx).g.length<=2000:=by rw [e0];dsimp only;rw [B9t.2,A1Z];omega
  refine ⟨anRR hj h1 h2 h3 h4,⟨⟨Am _,E,Am _⟩,?_,?_,?_,?_,?_,?_,Az gl qD,⟨?_,?_⟩,?_⟩,?_,?_⟩
  . rw [idR.2.1,idR.2.2];show (rb (a+1)).length+(rg (a+2)).length+_+_<=_;rw [rbl,rgl,rbl,rgl];decide
  . show (rId fu fd a u2 d2 b c j).length+(rb (a+1)).length+(rg (a+2)).length+(rb (c+1)).length<=_;rw [C4R,rbl,rgl,rbl];decide
  . rw [w1,idR.1,A40 rfl];rfl
  . rw [w2];exact ⟨Am _,(by show x<=900;omega)⟩
  . rw [w3];show (rWi fu fd a u2 d2 b).length<=_;rw [C4S];decide
  . rw [w3];show (rWi fu fd a u2 d2 b++frW [] (rE fu fd a u2 d2 b c j fu fd tu td y tx)).length+_<=_;rw [wf,e0];show _+(rb (c+2)).length<=_;rw [rbl];omega
  . exact Am _
  . show x+1<=900;omega
  . show 0<(rk (x+1)).length;unfold rk B2S;rw [X4];decide
  . rw [w2,w3,e0];exact C5R h5
  . rw [w2,w3,wf,e0];exact C5Q h5
end

def RS(s:Ps):Prop:=s.ts=[]∧s.real=true
variable{s:Ps}{key:LN}
theorem B5O(h:RS s){lb:LN}{ws:List (LN)}:RS (A39 s key ws lb n):=by rw [A5N h.2];exact h
theorem B9A{hk:LN}:∀(i:Nat) {x:Ast},RS x.1->RS (rep (aSt hk) i x).1
  | 0,_,h=>h
  | i+1,_,h=>B5O (B9A i h)
theorem B9B(h:RS s){of:LN}{N:Nat}{sks:List Skp}:RS (ahX s key N n of sks).1:=by
  unfold ahX;split
  . exact B9A _ h
  . exact h
theorem C4q(h:RS s){r:Rsd}{hk:LN}{hp:Nat}:RS (opB s r hk hp).1:=by
  unfold opB;split
  . have h1:RS (opA s r hp).1:=by
      unfold opA;split
      . exact h
      . exact B9B h
    show RS (A44 (opA s r hp).1 r.root r.own hk);unfold A44;have e:K7 (opA s r hp).1 r.own hk=(opA s r hp).1:=if_pos h1.2;exact B5O (by rw [e];exact h1)
  . exact h
theorem B9C(x:Nat)(r:Rsd)(hk:LN)(hp hn:Nat):OpnH (rcR x) r hk hp hn:=by
  have h0:RS (rcR x):=⟨E,E⟩
  have h1:RS (opD (opB (rcR x) r hk hp) hn):=B5O (B9B (C4q h0));exact ⟨X9.nil,λz _=>λh=>Bool.noConfusion h,by rw [h1.1];exact X9.nil,λh=>by rw [h1.2] at h;cases h⟩
theorem A5e(c:LN):(A1i (rcR 0) c).length=32:=by show ((A5f (rcR 0) c [] A3W 2).getD 1 []).length=32;rw [A3L rfl];show (((A8p c [] A3W 2).take (32*1+32)).drop (32*1)).length=32;unfold A8p;simp [X4]
theorem C17{dh:LN}:((rTr root dh).getD 1 []).length=32:=by show (((A8p root [dh] A2u 2).take (32*1+32)).drop (32*1)).length=32;unfold A8p;simp [X4]
theorem B9D{x:Nat}{p:Rsd}{w t:LN}(po:p.own=rk a):A3b (rcR x) p w t=U1 (H5 (X7 (rcR 0) p.sk) 32) n12 (alW w (rb a) p.prev p.sn) t:=by unfold A3b B1q;rw [po,A5d,B0q rfl];rfl
section
variable{o R C K w t root ptk:LN}{x a b m n pv hp ptn ppv:Nat}
theorem C57(hK:K.length=32)(hn:n<100):T8 (rcR x) ⟨o,rb a,R,C,m,K,n,pv,[]⟩ w (rb a) hp n (U1 (H5 (X7 (rcR 0) K) 32) n12 (alW w (rb a) hp n) t)=(rcR x,⟨o,rb a,R,C,m,A1i (rcR 0) K,n+1,pv,[]⟩,0,t):=by
  have hf:A0W (⟨o,rb a,R,C,m,K,n,pv,[]⟩:Rsd) (rb a)=false:=by unfold A0W;rw [decide_eq_true (show rb a=(⟨o,rb a,R,C,m,K,n,pv,[]⟩:Rsd).their from rfl),decide_eq_false (show ¬(⟨o,rb a,R,C,m,K,n,pv,[]⟩:Rsd).tk=[] from λe=>by rw [show K=[] from e] at hK;cases hK)];rfl
  have hE:ahE n n=0:=A3u (Av _) qO
  have hC:opC (rcR x,(⟨o,rb a,R,C,m,K,n,pv,[]⟩:Rsd)) n=(rcR x,K,n,[]):=by show ahX (rcR x) K n n (rb a) []=_;rw [A1k hE,Nat.sub_self];rfl
  have hD:opD (rcR x,(⟨o,rb a,R,C,m,K,n,pv,[]⟩:Rsd)) n=rcR x:=by unfold opD;rw [hC];rfl
  have hKK:A5u (rcR x,(⟨o,rb a,R,C,m,K,n,pv,[]⟩:Rsd)) n=X7 (rcR 0) K:=by unfold A5u;rw [hC];rfl
  rw [A3R E (B5y hf) (λh=>by rw [hf] at h;cases h) hE (by rw [hD,hKK,A53 rfl];exact A0Q _ _ _ _),hf,hD];unfold opG;rw [hC];have e:(n+1)%4294967296=n+1:=Af qO;unfold opZ;rw [if_neg qD];dsimp only;rw [e];rfl
theorem C58(hc:Cm a (a+1))(hne:rb (a+1)≠rb b)(hp_:ptk=[]∨ptn=hp)(eC:C=(rTr root (xk (rk (a+1)) (rb a))).getD 1 [])(eR:R=(rTr root (xk (rk (a+1)) (rb a))).getD 0 []):T8 (rcR x) ⟨rk a,rb b,root,K,n,ptk,ptn,ppv,[]⟩ w (rb (a+1)) hp 0 (U1 (H5 (X7 (rcR 0) C) 32) n12 (alW w (rb (a+1)) hp 0) t)=(rcR (x+1),⟨rk (x+1),rb (a+1),(rTr R (xk (rk (x+1)) (rb (a+1)))).getD 0 [],(rTr R (xk (rk (x+1)) (rb (a+1)))).getD 1 [],0,A1i (rcR 0) C,1,n,[]⟩,0,t):=by
  have hf:A0W (⟨rk a,rb b,root,K,n,ptk,ptn,ppv,[]⟩:Rsd) (rb (a+1))=true:=by unfold A0W;rw [decide_eq_false (show ¬rb (a+1)=(⟨rk a,rb b,root,K,n,ptk,ptn,ppv,[]⟩:Rsd).their from hne)];rfl
  have hA:opA (rcR x) (⟨rk a,rb b,root,K,n,ptk,ptn,ppv,[]⟩:Rsd) hp=(rcR x,ptk,ptn,[])∧A9f (⟨rk a,rb b,root,K,n,ptk,ptn,ppv,[]⟩:Rsd) hp=0:=by
    by_cases h0:(⟨rk a,rb b,root,K,n,ptk,ptn,ppv,[]⟩:Rsd).tk=[]
    . exact ⟨B0r h0,A9g h0⟩
    . have e:ptn=hp:=hp_.resolve_left h0;subst e;have hE:ahE ptn ptn=0:=A3u (Av _) qO;rw [A5a h0,A3c h0];refine ⟨?_,hE⟩;show ahX (rcR x) ptk ptn ptn (rb b) []=_;rw [A1k hE,Nat.sub_self];rfl
  have hb:opB (rcR x) (⟨rk a,rb b,root,K,n,ptk,ptn,ppv,[]⟩:Rsd) (rb (a+1)) hp=(rcR x,⟨rk a,rb (a+1),R,K,n,C,0,ppv,[]⟩):=by rw [B5x hf,hA.1];unfold C1H A89 A8s;dsimp only;rw [C1W,B1s,hc,eR,eC]
  have hE:ahE 0 0=0:=A3u (Av _) qD
  have hC:opC (rcR x,(⟨rk a,rb (a+1),R,K,n,C,0,ppv,[]⟩:Rsd)) 0=(rcR x,C,0,[]):=by show ahX (rcR x) C 0 0 (rb (a+1)) []=_;rw [A1k hE,Nat.sub_self];rfl
  have hD:opD (rcR x,(⟨rk a,rb (a+1),R,K,n,C,0,ppv,[]⟩:Rsd)) 0=rcR x:=by unfold opD;rw [hC];rfl
  have hKK:A5u (rcR x,(⟨rk a,rb (a+1),R,K,n,C,0,ppv,[]⟩:Rsd)) 0=X7 (rcR 0) C:=by unfold A5u;rw [hC];rfl
  rw [A3R E hb (λ_=>hA.2) hE (by rw [hD,hKK,A53 rfl];exact A0Q _ _ _ _),hf,hD];unfold opG;rw [hC];unfold opZ;rw [if_pos rfl];unfold opF A89 A8s;dsimp only;rw [A3T,A2v,C1W,B1s];rfl
end
structure KR0(a b:Rsd)(c:Nat):Prop where
  cm:Cm (c+2) (c+2+1)
  ne:rb (c+2+1)≠rb 10
  ao:a.own=rk (c+2)
  th:a.their=rb 10
  ak:a.sks=[]
  a0:a.tk=[]
  bo:b.own=rk (c+2+1)
  b0:b.sn=0
  br:b.root=(rTr a.root (xk (rk (c+2+1)) (rb (c+2)))).getD 0 []
  bc:b.sk=(rTr a.root (xk (rk (c+2+1)) (rb (c+2)))).getD 1 []
structure KR1(a b:Rsd)(c N:Nat):Prop where
  th:a.their=rb c
  ak:a.sks=[]
  kk:a.tk=b.sk
  kn:a.tn=b.sn
  bo:b.own=rk c
  bl:b.sk.length=32
  bn:b.sn<=N
def KRe(N:Nat)(_:Ps)(a b:Rsd):Prop:=(∃c,KR0 a b c)∨∃c,KR1 a b c N
def SRe(_:Nat)(_:Ps)(b:Rsd):Prop:=(∃c,b.own=rk c)∧b.sk.length=32
def GRe(N:Nat)(s:Ps):Prop:=∃x,x<=60+N∧s=rcR x
theorem lo_r:Lo (λw=>w.length<=1000) GRe (λ_ _=>True) KRe SRe where
  bd:=by rintro N s ⟨x,-,rfl⟩ -;exact Am _
  wl:=λh=>h
  kx:=λh _ _ _ _=>h.imp id λ⟨c,h⟩=>⟨c,h.th,h.ak,h.kk,h.kn,h.bo,h.bl,by have:=h.bn;omega⟩
  sx:=λh _=>h
  ks:=by
    rintro N s a b (⟨c,h⟩|⟨c,h⟩)
    . exact ⟨⟨_,h.bo⟩,by rw [h.bc];exact C17⟩
    . exact ⟨⟨_,h.bo⟩,h.bl⟩
  sb:=by rintro N s b ⟨⟨c,h1⟩,h2⟩ ⟨x,-,rfl⟩ -;exact ⟨by rw [h2];decide,by rw [h1,A5d,rbl]⟩
  st:=by rintro N s b w v ⟨⟨c,h1⟩,h2⟩ ⟨x,hx,rfl⟩ hN hw hv;exact ⟨trivial,⟨x,by omega,E⟩,⟨c,h1⟩,A5e _⟩
  go:=by
    rintro N s a b w v h ⟨x,hx,rfl⟩ hN hw hv;rcases h with ⟨c,h⟩|⟨c,h⟩
    . obtain ⟨ao,at_,ar,ac,an,ak,am,av,ass⟩:=a;have e1:ao=rk (c+2):=h.ao;have e2:at_=rb 10:=h.th;have e3:ak=[]:=h.a0;have e4:ass=[]:=h.ak;subst e1 e2 e3 e4;have eK:=B9D (x:=x) (w:=w) (t:=[v]) h.bo;rw [h.b0] at eK;refine ⟨rcR (x+1),⟨rk (x+1),rb (c+2+1),(rTr b.root (xk (rk (x+1)) (rb (c+2+1)))).getD 0 [],(rTr b.root (xk (rk (x+1)) (rb (c+2+1)))).getD 1 [],0,A1i (rcR 0) b.sk,1,an,[]⟩,⟨B9C _ _ _ _ _,?_,?_,Am _,(by show x<=900;omega)⟩,trivial,⟨x+1,by omega,E⟩,.inr ⟨c+2+1,E,E,E,?_,h.bo,A5e _,?_⟩⟩
      . rw [show I5 (rcR x) b.own=rb (c+2+1) by rw [h.bo,A5d],h.b0,eK];exact C58 h.cm h.ne (.inl E) h.bc h.br
      . rw [eK,A1Z];exact (by decide:1+16<=1000)
      . show 1=(b.sn+1)%4294967296;rw [h.b0]
      . show (b.sn+1)%4294967296<=_;rw [h.b0];omega
    . obtain ⟨ao,at_,ar,ac,an,ak,am,av,ass⟩:=a;have bn:=h.bn;have e1:at_=rb c:=h.th;have e2:ak=b.sk:=h.kk;have e3:am=b.sn:=h.kn;have e4:ass=[]:=h.ak;subst e1 e2 e3 e4;have eK:=B9D (x:=x) (w:=w) (t:=[v]) h.bo;refine ⟨rcR x,⟨ao,rb c,ar,ac,an,A1i (rcR 0) b.sk,b.sn+1,av,[]⟩,⟨B9C _ _ _ _ _,?_,?_,Am _,(by show x<=900;omega)⟩,trivial,⟨x,by omega,E⟩,.inr ⟨c,E,E,E,?_,h.bo,A5e _,?_⟩⟩
      . rw [show I5 (rcR x) b.own=rb c by rw [h.bo,A5d],eK];exact C57 h.bl qO
      . rw [eK,A1Z];exact (by decide:1+16<=1000)
      . show b.sn+1=(b.sn+1)%4294967296;omega
      . show (b.sn+1)%4294967296<=_;omega

theorem C4r{k:Bool}{x:Ses}(h1:x.wi.length=160)(h2:x.id.length=32)(h3:x.he.ia.length+x.he.ig.length+x.he.key.length<=96):(wG k x).length<=1000:=by have h:=A61 [] (A1N x x.he (bI k) 1 (bI !k) 1);unfold wG wiW;rw [An];have e:(A1N x x.he (bI k) 1 (bI !k) 1).ses.length=32:=h2;have e2:(A1N x x.he (bI k) 1 (bI !k) 1).he.ia.length+(A1N x x.he (bI k) 1 (bI !k) 1).he.ig.length+(A1N x x.he (bI k) 1 (bI !k) 1).he.key.length<=96:=h3;have e3:([]:LN).length=0:=rfl;omega
def oxR(c:Nat):Ses:=W9 (rX 0 1 0 1 1 7 c 0) (K3 (rcR (c+2)) (rRt 0 7 c 0))
def otR(c:Nat):Ses:=Q7 ⟨rId 0 1 0 1 1 7 c 0,rWi 0 1 0 1 1 7,he0,false,A14 (A3v 0 7 c 0) (rk 10)⟩ (rZ 0 7 c 0 (c+2)).2
theorem B0x(c:Nat):A7k (rKs 1 1 7) (rcR c)=(rRow 1 1 7,rcR c):=bunR 1 1 7 c
theorem C18(c:Nat):olY (rKs 1 1 7) (rcR c)=rBn 1 1 7 0:=by unfold olY;rw [B0x];rfl
theorem B8m(c:Nat):olX (rKs 0 1 0) (rKs 1 1 7) (rcR c)=rX 0 1 0 1 1 7 c 0:=by unfold olX;rw [C18,B0x];exact sXR
theorem B8n(c:Nat):olD (rKs 0 1 0) (rKs 1 1 7) (rcR c)=rcR (c+2):=by unfold olD;rw [C18,B0x];exact sDR
theorem C4s(c:Nat):olE (rKs 0 1 0) (rKs 1 1 7) (rcR c)=rE 0 1 0 1 1 7 c 0 0 1 1 1 (c+2) B1E:=by unfold olE;rw [B8m,B8n];rfl
theorem C59(c:Nat):olS (rKs 0 1 0) (rKs 1 1 7) (rcR c)=rcR (c+2):=by unfold olS;rw [B8m,B8n];rfl
theorem aXR{fu fd tu td:Int}{x y:Nat}{tx sec own:LN}:aX (rKs u2 d2 b) (rE fu fd a u2 d2 b c j fu fd tu td y tx) (rcR x) sec own=⟨rId fu fd a u2 d2 b c j,rWi fu fd a u2 d2 b,he0,false,A14 sec own⟩:=by
  have w0:aWi (rKs u2 d2 b) (rE fu fd a u2 d2 b c j fu fd tu td y tx) (rcR x)=rWi fu fd a u2 d2 b:=by unfold aWi;rw [idR.2.1,idR.2.2];rfl
  have w1:aNm (rKs u2 d2 b) (rE fu fd a u2 d2 b c j fu fd tu td y tx) (rcR x)=rNm fu fd a u2 d2 b c j:=by unfold aNm;rw [w0];rfl
  unfold aX;rw [w0,w1,idR.1,A40 rfl];rfl
variable{i:Nat}
theorem C4t(hi:i<7):StepF (rKs 0 1 0) (rKs 1 1 7) (rcR (14+3*i)) (rcR (14+3*(i+1))) (oxR (14+3*i)) (otR (14+3*i)):=by
  obtain ⟨h1,h2,h3,-⟩:=cm_o hi;generalize hc:14+3*i=c at *;have e:14+3*(i+1)=c+3:=by omega
  rw [e];refine ⟨⟨Am _,(by show c<=100;omega)⟩,?_,?_,?_,A3v 0 7 c 0,rk 10,rcR (c+2),(rZ 0 7 c 0 (c+2)).2,?_,?_⟩
  . rw [B0x,C18];exact st1R qO C5V
  . rw [B8m,B8n];exact snR
  . unfold olZ oxR;rw [B8m,B8n];rfl
  . rw [C4s,C59];exact anFR qD C1Y h1 h2 (λh=>absurd h qD) h3 qO E E qD
  . rw [C4s,aXR];rfl
theorem k_R(hi:i<7):KR0 (oxR (14+3*i)).r (otR (14+3*i)).r (14+3*i):=by
  obtain ⟨-,-,-,h4⟩:=cm_o hi;have h5:=ne_o hi;generalize hc:14+3*i=c at *;refine ⟨h4,h5,E,E,E,E,A2v _,E,?_,?_⟩
  . show A89 (E5 (rcR (c+2))) (rRt 0 7 c 0).root (F3 (rcR (c+2))) (rb (c+2))=_;unfold A89;rw [A3T,B1s,A2v];rfl
  . show A8s (E5 (rcR (c+2))) (rRt 0 7 c 0).root (F3 (rcR (c+2))) (rb (c+2))=_;unfold A8s;rw [A3T,B1s,A2v];rfl
theorem sq_R(c:Nat):SQ (λw=>w.length<=1000) (oxR c) (otR c):=by have h1:(otR c).id.length=32:=C4R;have h2:(otR c).wi.length=160:=C4S;exact ⟨E,E,h1,by omega,(by decide:0+0+0<=1000),C4r h2 h1 (by decide:0+0+0<=96)⟩
def olR(i:Nat):List (Ses×Ses):=(List.range i).map λl=>(oxR (14+3*l),otR (14+3*l))
theorem C19(i:Nat):olR i++[(oxR (14+3*i),otR (14+3*i))]=olR (i+1):=by unfold olR;rw [List.range_succ,List.map_append];rfl
theorem C6a(hi:i<=7):Nam (olR i):=by
  refine ⟨λy hy=>?_,?_⟩
  . obtain ⟨l,-,rfl⟩:=List.mem_map.1 hy;exact ⟨E,E,E⟩
  . unfold olR;rw [List.map_map];refine List.pairwise_map.2 (List.pairwise_iff_getElem.2 λa b ha hb hab=>?_);rw [List.length_range] at ha hb;rw [List.getElem_range,List.getElem_range];exact C35 qO hab
theorem cq_R(hi:i<=7):Cq (λw=>w.length<=1000) KRe SRe 0 (rcR (14+3*i)) (olR i):=λj x t hj=>by have hl:=(Ac.1 hj).1;unfold olR at hj hl;rw [List.length_map,List.length_range] at hl;rw [List.getElem?_map,List.getElem?_range hl] at hj;cases hj;have hk:KRe 0 (rcR (14+3*i)) (oxR (14+3*j)).r (otR (14+3*j)).r:=.inl ⟨_,k_R qO⟩;exact ⟨sq_R _,lo_r.ks hk,λ_=>hk⟩
theorem C4u:∀n i,i+n<=7->OlP (rKs 0 1 0) (rKs 1 1 7) n (rcR (14+3*i)) (olR i)
  | 0,_,_=>trivial
  | n+1,i,h=>by
    refine ⟨_,_,_,C4t qO,?_,?_,?_⟩
    . rw [C19];exact C6a qO
    . rw [C19];exact B0v lo_r 12 0 _ _ ⟨_,by omega,E⟩ (cq_R qO) qD
    . rw [C19];exact C4u n (i+1) qO

theorem C4v(m:Nat):(KsF (rcA m).1∧KsF (rcB m).1)∧OlP (rcA m).1 (rcB m).1 7 (rcB m).2 []:=by
  have h:rc0 m=rc0 (m%2):=by unfold rc0;rw [Nat.mod_mod]
  rw [C4b h,C50 h];rcases Nat.mod_two_eq_zero_or_one m with e|e<;>rw [e]
  . rw [C4p,C55];exact ⟨⟨ksR,ksR⟩,C4u 7 0 qD⟩
  . exact C54

end Go.Proofs.YtgpjndfgjjlhaaaGreatDoor
namespace Go.Px
variable{by_ m:Nat}{M0:Mem}{p:Option Addr}{zs:List Value}
section ins
variable{C:Cx}{l:Env}{M J:Mem}{K:Env->Mem->Mem->Prop}{d:Nat}{od:Option Nat}{ty t tn e:TypeId}{pos:String}{af:Array Edge}{g:Option (Nat×Bool)}{x y:Operand}
theorem A7e{sz n j:Nat}{v u:Value}{xs ys:List Value}{B:Mem}(hx:ev l x=some (vLo j sz v))(hy:ev l y=some u)(ht:A1t C.P t=some (e,sz,by_))
    (hs:Sl sz v n xs B) (hr:Rd (M++(J++C.A)) sz u m ys) (h1:∀c∈ys.take (min m (n-j)*sz),c.oneCell'=true) (hj:j<n) (hM:M.Perm (B++M0)) (hd:Nat.blt d C.N=true)
    (k:∀B',Sl sz v n (xs.take (j*sz)++ys.take (min m (n-j)*sz)++xs.drop (j*sz+min m (n-j)*sz)) B'->K ((d,(vI (min m (n-j))))::l) (B'++M0) J) :
    OpL C ⟨some d,.call { callee:=.builtin .copy,args:=#[x,y],argTypes:=#[t,t] },ty,pos,af,g⟩ l M J K:=by
  intro Qp a w ha hw;obtain ⟨i,z,hut,hi,hz,hzs,his,hib⟩:=Q1 ht;subst his;obtain ⟨pu,cu,rfl,hul,huc,hub⟩:=hr
  have hru:Rd (M++(J++C.A)) i.size (.slice pu m cu) m ys:=⟨pu,cu,E,hul,huc,hub⟩
  rcases hs with ⟨p,rfl,rfl,rfl,rfl⟩|⟨b,o,cap,cs,e',rfl,rfl,h3,h4,h5,h6,h7⟩
  . omega
  . have hw2:=hw.fit (Fit.perm hM) λ_ h=>h;have hb:=hw2.mem b (blk cs e') (by simp);have hf:=A2A (P:=C.P) (m:=m) (c2:=cu) (hru.hi (min m (n-j)) (Nat.min_le_left _ _)) hw.fx
    have hyl:(ys.take (min m (n-j)*i.size)).length=min m (n-j)*i.size:=by rw [Bj,hul];exact Nat.min_eq_left (Au _ (Nat.min_le_left _ _))
    have hle:j*i.size+min m (n-j)*i.size<=n*i.size:=by rw [<- Nat.add_mul];exact Au _ (by omega)
    have hcm:n*i.size<=cap*i.size:=Au _ h3;have hst:=run_storeCells_at (P:=C.P) b (o+j*i.size) e' (ys.take (min m (n-j)*i.size)) 0 cs.toArray w hb (by rw [hyl];simp;omega) h1;simp only [Nat.add_zero] at hst
    have hxv:vLo j i.size (.slice (some ⟨b,o,none⟩) n cap)=.slice (some ⟨b,o+j*i.size,none⟩) (n-j) (cap-j):=by simp only [vLo,if_neg (show ¬cap=j by omega),Option.map_some,Addr.add_mid]
    rw [hxv] at hx;generalize hyt:ys.take (min m (n-j)*i.size)=yt at *
    have hrun:(execOp a.eval ⟨some d,.call { callee:=.builtin .copy,args:=#[x,y],argTypes:=#[t,t] },ty,pos,af,g⟩).run C.P w=.ok (.value (vI (min m (n-j)))) (w.setRow b (cs.take (o+j*i.size)++yt++cs.drop (o+j*i.size+yt.length)).toArray):=by simp [execOp,resolve,invoke,builtin,ha.ev hx,ha.ev hy,Builtin.copy_,run_underlying hut,sizeOf,typeInfo,hi,Builtin.lenOf,hf,hst,goInt]
    unfold Oper.wp;rw [hrun];refine ⟨_,[(b,blk (cs.take (o+j*i.size)++yt++cs.drop (o+j*i.size+yt.length)) e')]++M0,J,ha.put (L7 hd) _,hw2.setRow (M':=[(b,blk _ e')]++M0) Upd.hd,k _ (.inr ⟨b,o,cap,_,e',E,E,h3,h4,?_,?_,?_⟩)⟩
    . rw [X3 (by omega)];exact h5
    . rw [<- hyl,X3 (by omega)];exact h6
    . intro q u hq;have hlt:=(Ac.1 hq).1;rw [<- hyl] at hq hlt;rw [X3 (by omega)] at hlt;by_cases hq1:q<j*i.size
      . rw [W1 (by omega) hq1] at hq;rw [W1 (by omega) (by omega)];exact h7 q u hq
      . by_cases hq2:q<j*i.size+yt.length
        . rw [X0 (by omega) (by omega) hq2] at hq;rw [X0 (by omega) (by omega) (by omega),<- hq];congr 1;omega
        . rw [A2B (by omega) (by omega)] at hq;rw [A2B (by omega) (by omega)];exact h7 q u hq
theorem A7f{P:Program}{c:Nat}{w:World}(ht:C5t P t tn=some (e,zs,by_))(hc:c<m)(hmax:m<=maxLen)(hbytes:m*by_<=140737488355328) :
    ∃v' o',(Builtin.append_ #[t,tn] ty #[.slice p 0 c,.int .i64 (m:Int)]).run P w=.ok v' (w.drew.alloc o')∧Sl zs.length v' m (Builtin.zeroCells zs.toArray m).toList [(w.heap.size,o')]:=by
  unfold C5t at ht;split at ht<;>try cases ht
  rename_i kn htn;split at ht<;>try cases ht
  rename_i e' hu;split at ht<;>try cases ht
  rename_i i hi;split at ht<;>try cases ht
  rename_i z hz;split at ht<;>simp only [Option.some.injEq,Prod.mk.injEq,reduceCtorEq] at ht;rename_i his0;obtain ⟨his,hs0⟩:=his0;obtain ⟨rfl,rfl,rfl⟩:=ht;have hwm:IntKind.i64.wrap (m:Int)=m:=by rw [IntKind.wrap_i64];simp only [maxLen] at hmax;omega
  have hneg:¬((m:Int)<0):=by omega
  have h48i:¬(281474976710656<(m:Int)*(i.bytes:Int)):=by rw [<- Int.natCast_mul];omega
  have hm:¬m=0:=by omega
  have hcn:¬m<=c:=by omega
  have hge:=grownCap_ge w (0+m) c e';have hcm:grownCap w (0+m) c e'<=maxLen:=grownCap_le_maxLen w (0+m) c e' (by simpa using hmax);have hfit:Builtin.nextslicecap (0+m) c*i.bytes<=281474976710656:=growslice_fits (by omega) (by simpa using hbytes);have h48':¬(281474976710656<Builtin.nextslicecap (0+m) c*i.bytes):=by omega
  simp only [Nat.zero_add] at *;have h63'':¬(9223372036854775807<(m:Int)):=by simp only [maxLen] at hmax;omega
  have hms:¬(m*i.size=0):=Nat.mul_ne_zero hm (by omega);refine ⟨.slice (some ⟨w.heap.size,0,none⟩) m (grownCap w m c e'),.cells (Builtin.zeroCells z.cells m++Builtin.zeroCells z.cells (grownCap w m c e'-m)) e' (0,0),?_,?_⟩
  . cases p<;>simp [Builtin.append_,run_underlying hu,run_underlying htn,sizeOf,typeInfo,zeroValue,hi,hz,asInt,asIntOf,hwm,hm,hcn,hneg,h63'',h48',h48i,Question.forced,newRow,grownCap,Builtin.firstCells,loadCells,loadCellsFrom]<;>(intro h;exact absurd h hms)
  . refine .inr ⟨w.heap.size,0,grownCap w m c e',(Builtin.zeroCells z.cells m++Builtin.zeroCells z.cells (grownCap w m c e'-m)).toList,e',E,by simp [blk],hge,hcm,?_,?_,?_⟩
    . simp [A2c,Nat.sub_mul];have:=Au z.cells.size hge;omega
    . simp [A2c]
    . intro j u hj;have hlt:=(Ac.1 hj).1;simp only [Array.toList_append,Nat.zero_add];simp only [Array.toArray_toList] at hj hlt;rw [Ak hlt];exact hj
theorem B1t{c:Nat}{j:Int}(hx:ev l x=some (.slice p 0 c))(hy:ev l y=some (.int .i64 j))(hj:j=(m:Int))(ht:C5t C.P t tn=some (e,zs,by_))
    (hc:c<m) (hmax:m<=maxLen) (hbytes:m*by_<=140737488355328) (hd:Nat.blt d C.N=true)
    (k:∀v' B',Sl zs.length v' m (Builtin.zeroCells zs.toArray m).toList B'->K ((d,v')::l) (B'++M) J) :
    OpL C ⟨some d,.call { callee:=.builtin .append,args:=#[x,y],argTypes:=#[t,tn] },ty,pos,af,g⟩ l M J K:=by
  intro Qp a w ha hw;subst hj;obtain ⟨v',o',hrun,hsl⟩:=A7f (P:=C.P) (ty:=ty) (p:=p) (w:=w) ht hc hmax hbytes
  have hexec:(execOp a.eval ⟨some d,.call { callee:=.builtin .append,args:=#[x,y],argTypes:=#[t,tn] },ty,pos,af,g⟩).run C.P w=.ok (.value v') (w.drew.alloc o'):=by simp [execOp,resolve,invoke,builtin,ha.ev hx,ha.ev hy,hrun]
  unfold Oper.wp;rw [hexec];exact ⟨_,(w.heap.size,o')::M,J,ha.put (L7 hd) v',St.alloc (w:=w.drew) hw.drew o',k v' [_] hsl⟩
theorem B1u{f:FuncId}{fn:Func}{tS tR:TypeId}{ts:Array TypeId}{b1 o1 n1 c1 b2 o2 n2 c2 size:Nat}{x1 x2:List Value}{e1 e2:TypeId}
    (hx:ev l x=some (.slice (some ⟨b1,o1,none⟩) n1 c1)) (hy:ev l y=some (.slice (some ⟨b2,o2,none⟩) n2 c2))
    (hf:C.P.funcs[f]? = some fn) (hname:(fn.name == "runtime.NumGoroutine")=false) (hb:fn.body.isNone=true) (hn:Extern.findNext fn=none) (he:Extern.find fn=some (Extern.SlicesOverlaps.overlaps #[tS,tS] #[tR]))
    (ht:C.P.underlying tS=some (.slice e)) (hsz:N2 C.P e=some size)
    (hM:M.Perm ((b1,blk x1 e1)::(b2,blk x2 e2)::M0)) (h0:0<x2.length) (hd:Nat.blt d C.N=true) (k:K ((d,.bool false)::l) M J) :
    OpL C ⟨some d,.call { callee:=.value (.func f),args:=#[x,y],argTypes:=ts },ty,pos,af,g⟩ l M J K:=by
  intro Qp a w ha hw;have hw2:=hw.fit (Fit.perm hM) λ_ h=>h
  have hne:b1≠b2:=by have h:=hw2.nodup;simp only [List.map_cons,List.nodup_cons,Cz,not_or] at h;exact h.1.1
  have k1:=hw2.mem b1 (blk x1 e1) (by simp);have k2:=hw2.mem b2 (blk x2 e2) (by simp)
  have hz:∀w,(Go.sizeOf e).run C.P w=.ok size w:=by intro w;unfold N2 at hsz;obtain ⟨i,hi,rfl⟩:=Option.map_eq_some_iff.1 hsz;simp [sizeOf,typeInfo,hi]
  have hrun:(execOp a.eval ⟨some d,.call { callee:=.value (.func f),args:=#[x,y],argTypes:=ts },ty,pos,af,g⟩).run C.P w=.ok (.value (.bool false)) w:=by
    have hc:(callFunc f #[.slice (some ⟨b1,o1,none⟩) n1 c1,.slice (some ⟨b2,o2,none⟩) n2 c2]).run C.P w=.ok (.value (.bool false)) w:=by rw [run_callFunc_extern hf hname hb hn he,Lib.run_overlaps_apart w tS tR e ht size hz ⟨b1,o1,none⟩ ⟨b2,o2,none⟩ n1 c1 n2 c2 hne e1 e2 x1.length x2.length (by simp [World.shape?,k1,blk]) (by simp [World.shape?,k2,blk]) (by omega) (by simp [World.frozen?,k1,blk]) (by simp [World.frozen?,k1,blk])];rfl
    have e:(#[x,y]:Array Operand).map a.eval=#[.slice (some ⟨b1,o1,none⟩) n1 c1,.slice (some ⟨b2,o2,none⟩) n2 c2]:=by simp [ha.ev hx,ha.ev hy]
    simp only [execOp,resolve,e,Sem.run_bind];simp [Act.eval,Deferred.ofValue,invoke,hc]
  unfold Oper.wp;rw [hrun];exact ⟨_,M,J,ha.put (L7 hd) _,hw,k⟩
end ins
end Go.Px

namespace Go.Proofs.YtgpjndfgjjlhaaaGreatDoor
open Go.Px
variable{L:List Ses}
theorem B5P{id:LN}(h:∀y∈L,y.id≠id):L.filter (λy=>y.id != id)=L:=List.filter_eq_self.2 λy hy=>by simpa using h y hy
theorem A4g:∀ {L:List Ses} {k:Nat} {x:Ses},(L.map (·.id)).Nodup->L[k]? = some x->L.eraseIdx k=L.filter (λy=>y.id != x.id)
  | [],_,_,_,h=>by simp at h
  | y::L,0,x,hn,h=>by
    obtain rfl:y=x:=by simpa using h
    rw [List.map_cons,List.nodup_cons] at hn;rw [List.eraseIdx_cons_zero,List.filter_cons_of_neg qM,B5P λz hz e=>hn.1 (List.mem_map.2 ⟨z,hz,e⟩)]
  | y::L,k+1,x,hn,h=>by
    rw [List.map_cons,List.nodup_cons] at hn;have h':L[k]? = some x:=by simpa using h
    have hne:y.id≠x.id:=λe=>hn.1 (List.mem_map.2 ⟨x,As h',e.symm⟩);rw [List.eraseIdx_cons_succ,List.filter_cons_of_pos (by simpa using hne),A4g hn.2 h']
variable{k:Nat}{x:Ses}
theorem C2a(hn:(L.map (·.id)).Nodup)(h:L[k]? = some x):∀j,j<k->∀y,L[j]? = some y->y.id≠x.id:=by
  intro j hj y hy e;have h1:(L.map (·.id))[j]? = some x.id:=by rw [List.getElem?_map,hy,<- e];rfl
  have h2:(L.map (·.id))[k]? = some x.id:=by rw [List.getElem?_map,h];rfl
  obtain ⟨l1,e1⟩:=Ac.1 h1;obtain ⟨l2,e2⟩:=Ac.1 h2;exact List.pairwise_iff_getElem.1 hn j k l1 l2 hj (e1.trans e2.symm)
def quR(R:Mem)(x:Ses)(c:List Value):Prop:=∃vi vw p r u vo vt vr vk vl vst,c=seC vi vw p r u vo vt vr vk vl vst x∧SeR R x vi vw p r u vo vt vr vk vl vst
theorem quT:RowT 18 quR:=⟨λR R' x r hR ⟨a,b,c,d,e,f,g,i,j,k,l,h1,h2⟩=>⟨a,b,c,d,e,f,g,i,j,k,l,h1,h2.mono hR⟩,λR x r ⟨a,b,c,d,e,f,g,i,j,k,l,h1,_⟩=>by rw [h1];rfl,λR x r ⟨a,b,c,d,e,f,g,i,j,k,l,h1,h2⟩=>by
  rw [h1]
  exact (A7 h2.id.one (A7 h2.wi.one (A7 h2.he.ia.one (A7 h2.he.ig.one (A7 h2.he.key.one (A7 E (A7 E (A7 E (A7 E (A7 h2.r.own.one (A7 h2.r.their.one (A7 h2.r.root.one (A7 h2.r.sk.one (A7 E (A7 h2.r.tk.one (A7 E (A7 E (A7 h2.r.st.one K5))))))))))))))))))⟩
structure Que(R:Mem)(qb:Nat)(L:List Ses)(M:Mem):Prop where
  ex:∃v rows B,M=(qb,blk [v] 35)::B∧Sl 18 v L.length rows.flatten B∧RwL quR R rows L
theorem Que.mono{R R':Mem}{qb:Nat}{L:List Ses}{M:Mem}(h:Que R qb L M)(hR:∀x,x∈R->x∈R'):Que R' qb L M:=by obtain ⟨v,rows,B,h1,h2,h3⟩:=h.ex;exact ⟨v,rows,B,h1,h2,h3.mono quT hR⟩

variable{α:Type}{n:Nat}
theorem C4w{row Z:List α}(hr:row.length=18):Z.take (0*18)++row.take (min 1 (n+1-0)*18)++Z.drop (0*18+min 1 (n+1-0)*18)=row++Z.drop 18:=by rw [show min 1 (n+1-0)=1 by omega,Aw (l:=row) qO];simp
theorem C6b{row Z xs:List α}(hr:row.length=18)(hz:Z.length=n*18)(hx:xs.length=n*18):(row++Z).take (1*18)++(xs.drop (0*18)).take (min (n-0) (n+1-1)*18)++(row++Z).drop (1*18+min (n-0) (n+1-1)*18)=row++xs:=by rw [show min (n-0) (n+1-1)=n by omega,Nat.zero_mul,List.drop_zero,List.take_left' qO,Aw qO,Bx (by rw [An];omega),List.append_nil]
theorem C6c{xs ex:List α}(hx:xs.length=n*18)(he:ex.length=18):(xs++ex).take (1*18)++((xs++ex).drop (0*18)).take (min (n+1-0) (n+1-1)*18)++(xs++ex).drop (1*18+min (n+1-0) (n+1-1)*18)=(xs++ex).take 18++xs:=by rw [show min (n+1-0) (n+1-1)=n by omega,Nat.zero_mul,List.drop_zero,Nat.one_mul,show (xs++ex).take (n*18)=xs from List.take_left' hx,Bx (by rw [An];omega),List.append_nil]
theorem C6d{row xs ex:List α}(hr:row.length=18)(he:ex.length=18):((xs++ex).take 18++xs).take (0*18)++row.take (min 1 (n+1-0)*18)++((xs++ex).take 18++xs).drop (0*18+min 1 (n+1-0)*18)=row++xs:=by rw [C4w hr,List.drop_left' (by rw [Bj,An];omega)]
theorem Sl.castQ{sz n':Nat}{v:Value}{xs xs':List Value}{B:Mem}(h:Sl sz v n xs B)(h1:n=n')(h2:xs=xs'):Sl sz v n' xs' B:=by subst h1;subst h2;exact h
theorem B5Q(v:Value)(rows:List (List Value))(f:FuncId)(cs:List Value)(p:Nat->Bool)(A:Mem)(hv:Rd A 18 v rows.length rows.flatten)(hl:∀r∈rows,r.length=18)(hn:rows.length<=1099511627776)(hc_:K1 prog f=true)(hf:∀(j:Nat) (r:List Value),rows[j]? = some r->FnV prog f (.agg r.toArray::cs) A (.bool (p j))):FnV prog 71 [v,.func (.func f) #[] cs.toArray] A (.int .i64 (A7i p rows.length)):=by
 haveI:=hv.cel;refine Cn (N:=19) func71 E E E λw=>?_;refine A8 (D0 0 1) (A1 (as_ (A0 (D0 0 1) (A3 (A1 (mv_ ?_))))));refine lQ_ (F8 (sz:=18) E kR hv) ?_;refine mv_ (A0 (D7 0 1 7 8) (A6 ?_));refine E0 (α:=Nat) (λi=>[(0,v),(1,.func (.func f) #[] cs.toArray),(7,(vI rows.length)),(8,.int .i64 (i:Int))]) (λ_=>[]) (λ_=>[]) (λi=>i<=rows.length∧∀j,j<i->p j=false) (λi=>rows.length-i) 0 ⟨Am _,λj h=>absurd h (Nat.not_lt_zero j)⟩ (D7 0 1 7 8) .rfl qI ?_;rintro i ⟨hi,hp⟩;refine A1 (lQ_ (E3 E E E) (A0 (E9 0 1 7 8 9) (A3 ?_)));refine C2 E ?_ ?_<;>intro hc
 .
  have hlt:i<rows.length:=by simp at hc;omega
  obtain ⟨r,hr⟩:∃r,rows[i]? = some r:=⟨_,Ab hlt⟩
  refine A4 (nx (D7 0 1 7 8) (A3 (A6 (A1 (mV_ E (aS_ E (A0 (E9 0 1 5 7 8) (A1 (mv_ (mv_ (mv_ ?_)))))))))));refine lQ_ (G4 (sz:=18) E E kR E hv hlt) ?_;refine lQ_ (A0y E kR (hv.mono qS) hl qD hr) ?_;refine A2 E (A1f E (aS E a0) hc_ (hf i r hr) E ?_);refine A0 (G9 0 1 5 7 8 16) ?_;refine C2 E ?_ ?_<;>intro hc
  . refine A1 (mV_ E (aS_ E (A0 (D1 4) (A9 (br (tr (rr (br (tr ?_)))))))));exact ⟨_,[],[],H2 E E,Aa _,by simp,by rw [A0D hlt hp hc],E,E⟩
  . refine A4 (nb (nx (D7 0 1 7 8) (C1 ?_)));refine lQ_ (I9 (b:=1) E E E E qO) ?_;refine mv_ (C5 ?_);exact rn (i+1) ⟨hlt,λj hj=>by rcases Nat.lt_succ_iff_lt_or_eq.1 hj with h|h;exact hp j h;rw [h];exact hc⟩ qO (D7 0 1 7 8) .rfl qI
 .
  have hge:i=rows.length:=by simp at hc;omega
  subst hge;refine D6 (te (re (be E (nx kn (A1 (aS_ E (A0 (D1 4) (A9 ?_))))))));exact ⟨_,[],[],H2 E E,Aa _,by simp,by rw [A0E hp],E,E⟩
theorem B1v(b o cap n i j:Nat)(cs xs:List Value)(e:TypeId)(A:Mem)(hn:n<=cap)(hcap:cap<=maxLen)(hfit:o+cap*18<=cs.length)(hl:xs.length=n*18)(hx:∀j u,xs[j]? = some u->cs[o+j]? = some u)
    (h1:∀c∈xs,c.oneCell'=true) (hij:i<j) (hjn:j<=n) :
    FnX prog 34 [.slice (some ⟨b,o,none⟩) n cap,.int .i64 i,.int .i64 j] [(b,blk cs e)] A
      λv M J=>J=[]∧Sl 18 v (n-(j-i)) (xs.take (i*18)++xs.drop (j*18)) M:=by
  refine Cn (N:=33) func34 E E E λw=>?_;refine A8 (D5 0 1 2) (A1 (aS_ E (A0 (D5 0 1 2) (A1 (mV_ E (mV_ E (mV_ E (mV_ E (lQ_ (A0r (e:=49) E kR) ?_)))))))));refine lQ_ (A2f (e:=49) (sz:=18) E kR kR (o1 i E E) (o1 j E E) (o1 n E E) qM (by simp;omega) (by simp;omega) (by simp;omega)) ?_;refine A0 (D5 0 1 2) (A3 (A1 (mV_ E (mV_ E (lQ_ (E3 E E E) (A0 (D7 0 1 2 16) ?_))))));refine C2 E ?_ ?_<;>intro hc
  . simp at hc;omega
  .
    refine A4 (nx (D5 0 1 2) (A1 (mV_ E (lQ_ (A0r (e:=49) E kR) (as_ (A0 (D7 0 1 2 7) ?_))))));refine A1r ([]) [] [(0,0),(1,0),(2,0),(3,0),(4,0),(5,0),(6,2),(7,0)] kR kR qM λhs=>?_;refine K9 hs E qm_ E ?_;refine K9 hs E qm_ E ?_;refine K9 hs E (A7p (h:=i) (e:=49) (sz:=18) E E kR kR E qO) E ?_;refine K9 hs E qm_ E ?_;refine K9 hs E qm_ E ?_;refine K9 hs E (A9q (h:=j) (e:=49) (sz:=18) E E kR kR E qO qO) E ?_;refine A10 E E E (A7o (e:=49) (sz:=18) (by_:=296) (m:=n-j) (cs:=cs) E E kR ((Rd.lo ⟨_,cap,E,hl,hn,.inr ⟨b,o,cs,e,(0,0),E,m0,hx⟩⟩ j hjn)) (λc hc=>h1 c (List.mem_of_mem_drop hc)) qO hfit E Cv E ?_);refine K9 hs E (G2 E) E ?_;refine A3z (D0 0 7) ?_;refine A1 (mV_ E (mV_ E (lQ_ (A0r (e:=49) E kR) (mv_ ?_))));refine lQ_ (B1L (lo:=i+(n-j)) (hi:=n) (e:=49) (sz:=18) E E E kR kR E E qO qO qO) ?_;refine A2 E (A8y (e:=49) (sz:=18) (by_:=296) (zs:=(Builtin.zeroCells #[vS,vS,vS,vS,vS,.int .u32 0,.bool false,.int .u32 0,.bool false,vS,vS,vS,vS,.int .u32 0,vS,.int .u32 0,.int .u32 0,.pointer none] (n-(i+(n-j)))).toList) E kR kR (A08 (by simp [Value.oneCell']) qM _) ?h1 E Cv ?_)
    case h1=>simp [hl];omega
    refine A0 (D1 0) (A1 (mv_ (as_ (A0 (D1 6) (A9 ?_)))));refine ⟨_,_,[],H2 E E,Ao _,by simp,E,?_⟩;show Sl 18 _ (n-(j-i)) _ _;rw [show n-(j-i)=i+(n-j) from by omega];have hd:(xs.drop (j*18)).length=(n-j)*18:=by simp [hl];omega
    refine .inr ⟨b,o,cap,_,e,E,E,by omega,hcap,?_,?_,?_⟩
    . simp [hl,Builtin.zeroCells];omega
    . simp [hl];omega
    . intro q u hq;have hlt:q<(i+(n-j))*18:=by have:=(Ac.1 hq).1;simp [hl] at this;omega
      rw [W1 (by simp [hl];omega) qO];by_cases hqi:q<i*18
      . rw [W1 qO qO];rw [Ak (by simp [hl];omega),Cd hqi] at hq;exact hx q u hq
      . rw [X0 qO qO qO];rw [Aq (by simp [hl];omega)] at hq;rw [<- hq];congr 1;simp [hl];omega
theorem B1w(v:Value)(n vb:Nat)(row xs:List Value)(B A:Mem)(hs:Sl 18 v n xs B)(hr:row.length=18)(h1:∀c∈row,c.oneCell'=true)(h2:∀c∈xs,c.oneCell'=true)(hn:n<=1000):FnX prog 35 [v,.int .i64 0,.slice (some ⟨vb,0,none⟩) 1 1] ((vb,blk row 49)::B) A λq M J=>Sl 18 q (n+1) (row++xs) M:=by
  haveI:=hs.cel;refine Co (N:=95) func35 E E E λw_=>?_;refine A8 (D5 0 1 2) (A1 (as_ (A0 (D5 0 1 2) (A1 (mv_ (mv_ ?_))))));refine lQ_ (Z0 (sz:=18) (a:=0) E E kR E (hs.rd (R:=B) λ_ h=>h) qO) ?_;refine A0 (D5 0 1 2) (A1 (mV_ E (lQ_ (A0r (e:=49) E kR) (as_ (A0 (D7 0 1 2 7) (A3 (A1 (mv_ ?_))))))));refine lQ_ (F6 false E E (eqF qD)) ?_;refine A0 (E9 0 1 2 7 16) ?_;refine C7 E ?_;refine A4 (nx (D7 0 1 2 7) (A1 (mv_ ?_)));refine lQ_ (F8 (sz:=18) E kR (hs.rd (R:=B) λ_ h=>h)) ?_;refine aS_ E (A0 (E9 0 1 2 7 8) (A3 (A1 (mV_ E (mV_ E (lQ_ (E3 E E E) (A0 (G9 0 1 2 7 8 22) ?_)))))));refine C2 E ?_ ?_<;>intro hc
  .
    have h0:n=0:=by simp at hc;omega
    subst h0;obtain rfl:xs=[]:=Bd (by have:=hs.len;omega);refine A1 (mv_ (mv_ ?_));refine A2 E (G6 (e:=49) (sz:=18) (by_:=296) E E kR E hs (Cr (n:=1) Ce (by rw [hr])) h1 qP (by unfold maxLen;omega) qO E λv25 B25 hs25=>?_);haveI:=hs25.cel;refine as_ (A0 (D1 6) (A9 (tr ?_)));exact ⟨_,B25,[],H2 E E,Ci (Ch qP),Sl.castQ hs25 qO qM⟩
  .
    have h0:n≠0:=by intro h0;subst h0;simp at hc
    obtain ⟨p,rfl,h00,_,_⟩|⟨b,o,cap,cs,e,rfl,rfl,g1,g2,g3,g4,g5⟩:=hs
    . omega
    have hs0:Sl 18 (.slice (some ⟨b,o,none⟩) n cap) n xs [(b,blk cs e)]:=.inr ⟨b,o,cap,cs,e,E,E,g1,g2,g3,g4,g5⟩;have hcap:cap*18<=cs.length:=by omega
    refine A4 (nx (E9 0 1 2 7 8) (A3 (A1 (mv_ (mv_ ?_)))));refine lQ_ (D2 ((n+1:Nat):Int) E E (F5 qO qO qO)) ?_;refine mV_ E (lQ_ (C3E (e:=49) E kR) (lQ_ (E3 E E E) (A0 (G9 0 1 2 7 8 31) ?_)));refine C2 E ?_ ?_<;>intro hc
    .
      have hg:cap<n+1:=by simp at hc;omega
      refine A1 (mv_ (mv_ ?_));refine lQ_ (A7p (h:=0) (e:=49) (sz:=18) E E kR kR E qO) ?_;refine mv_ (mv_ ?_);refine lQ_ (D2 ((n+1:Nat):Int) E E (F5 qO qO qO)) ?_;refine mv_ ?_;refine lQ_ (D2 (((n+1:Nat):Int)-0) E E (V6 qO qO qO)) ?_;refine A2 E (B1t (e:=49) (m:=n+1) (by_:=296) (zs:=Ze) E E qO kR qO (by unfold maxLen;omega) qO E λv40 B40 hs40=>?_);haveI:=hs40.cel;change Sl 18 _ _ _ _ at hs40;have hzl:=hs40.len;generalize (Builtin.zeroCells _ (n+1)).toList=Zs at hs40 hzl;refine as_ (A0 (E9 0 1 2 7 9) (A1 (mv_ (mv_ ?_))));refine lQ_ (Z0 (sz:=18) (a:=0) E E kR E (hs40.rd (R:=B40) λ_ h=>h) qO) ?_;refine mv_ ?_;refine A2 E (A7e (e:=49) (sz:=18) (by_:=296) (j:=0) E E kR hs40 (Cr (n:=1) Ce (by rw [hr])) (λc hc=>h1 c (Bz hc)) qO qP E λB45 hs45=>?_);rw [C4w hr] at hs45;refine A0 (D7 0 1 7 9) ?_;refine C9 (.range 8) (zp 0 [0,0,0,0,0,0,0,0,2]) kR kR λhs=>?_;refine fM_ E E (fM_ E E (fm_ ?_));refine fQ_ E (D2 1 E E qR) ?_;refine fQ_ E (Z0 (sz:=18) (a:=1) E E kR E (hs45.rd (R:=B45) λ_ h=>h) qO) ?_;refine fM_ E E (fm_ ?_);refine fQ_ E (Z0 (sz:=18) (a:=0) E E kR E (hs0.rd (R:=[(b,blk cs e)]) λ_ h=>h) qO) ?_;refine G3 E E E (A7e (e:=49) (sz:=18) (by_:=296) (j:=1) E E kR hs45 ((hs0.rd qS).loV 0 qO) (λc hc=>h2 c (List.mem_of_mem_drop (Bz hc))) qO qP E λB54 hs54=>?_);rw [C6b hr (by rw [Bg];omega) g4] at hs54;refine E4 (D1 9) (A1 (mv_ (as_ (A0 (D1 6) (A9 (tr ?_))))));exact ⟨_,B54,[],H2 E E,Ci (Ch qP),hs54⟩
    .
      have hg:n+1<=cap:=by simp at hc;omega
      have hs60:Sl 18 (.slice (some ⟨b,o,none⟩) (n+1) cap) (n+1) (xs++(cs.drop (o+n*18)).take 18) [(b,blk cs e)]:=.inr ⟨b,o,cap,cs,e,E,E,hg,g2,g3,by rw [An,Bj,Bg,g4];omega,λj u hj=>by
        by_cases hlt:j<xs.length
        . rw [Ak hlt] at hj;exact g5 j u hj
        . rw [Aq qO] at hj;have h18:=(Ac.1 hj).1;rw [Bj] at h18;rw [Cd qO,List.getElem?_drop] at hj
          rw [<- hj];congr 1;omega⟩
      have hex:((cs.drop (o+n*18)).take 18).length=18:=by rw [Bj,Bg];omega
      generalize (cs.drop (o+n*18)).take 18=ex at hs60 hex;refine A4 (nx (E9 0 1 2 7 8) (A1 (mv_ (mv_ (mv_ ?_)))));refine lQ_ (D2 ((n+1:Nat):Int) E E (F5 qO qO qO)) ?_;refine lQ_ (A7p (h:=n+1) (e:=49) (sz:=18) E E kR kR E qO) ?_;refine as_ (A0 (E9 0 1 2 7 8) (A3 (A1 (mv_ (mv_ (mv_ (mv_ ?_)))))));refine lQ_ (D2 1 E E qR) ?_;refine lQ_ (B9G (h:=1) (e:=49) (sz:=18) E E kR kR E qO qO qO) ?_;refine A2 E (B1u (e:=49) (fn:=Tryz.f73) (tS:=33) (tR:=4) (size:=18) E E func73 kR kR kR kR kR kR (Ah _) qO E ?_);refine lQ_ (V7 E) (A0 (G9 0 1 2 7 8 68) ?_);refine E2 E ?_;refine C9 (.range 8) (zp 0 [0,0,0,0,0,0,0,0,2]) kR kR λhs=>?_;refine fM_ E E (fM_ E E (fm_ ?_));refine fQ_ E (D2 1 E E qR) ?_;refine fQ_ E (Z0 (sz:=18) (a:=1) E E kR E (hs60.rd (R:=[(b,blk cs e)]) λ_ h=>h) qO) ?_;refine fM_ E E (fm_ ?_);refine fQ_ E (Z0 (sz:=18) (a:=0) E E kR E (hs60.rd (R:=[(b,blk cs e)]) λ_ h=>h) qO) ?_;refine G3 E E E (A7e (e:=49) (sz:=18) (by_:=296) (j:=1) E E kR hs60 ((hs60.rd qS).loV 0 qO) (by rw [Nat.zero_mul,List.drop_zero,show min (n+1-0) (n+1-1)=n by omega,List.take_left' g4];exact h2) qO qP E λB77 hs77=>?_);rw [C6c g4 hex] at hs77;refine E4 (D5 0 1 2) (A1 (mv_ (mv_ ?_)));refine lQ_ (Z0 (sz:=18) (a:=0) E E kR E (hs77.rd (R:=B77) λ_ h=>h) qO) ?_;refine mv_ ?_;refine A2 E (A7e (e:=49) (sz:=18) (by_:=296) (j:=0) E E kR hs77 (Cr (n:=1) Ce (by rw [hr])) (λc hc=>h1 c (Bz hc)) qO qP E λB82 hs82=>?_);rw [C6d hr hex] at hs82;refine A0 (D1 0) (A1 (mv_ (as_ (A0 (D1 6) (A9 (tr ?_))))));exact ⟨_,B82,[],H2 E E,Ci (Ch qP),hs82⟩

def A5h(w:LN)(x:Ses):Bool:=decide (x.id=w)
def B5R(L:List Ses)(w:LN):List Ses:=if P0 (A5h w) L<0 then L else L.eraseIdx (P0 (A5h w) L).toNat
variable{w:LN}
theorem A9k(h:P0 (A5h w) L = -1):B5R L w=L:=if_pos (by rw [h];decide)
theorem A7g{i:Nat}(h:P0 (A5h w) L=(i:Int)):B5R L w=L.eraseIdx i:=by unfold B5R;rw [h,if_neg qO,Int.toNat_natCast]
theorem B8o(L:List Ses)(w:LN):(B5R L w).length<=L.length:=by
  unfold B5R;split
  . exact Av _
  . exact List.length_eraseIdx_le _ _
theorem B5S(hn:(L.map (·.id)).Nodup)(h:L[k]? = some x):P0 (A5h x.id) L=(k:Int):=by refine A0D (Ac.1 h).1 (λj hj=>?_) (by rw [h];simp [A5h]);have hjl:j<L.length:=Nat.lt_trans hj (Ac.1 h).1;rw [Ab hjl];have:=C2a hn h j hj _ (Ab hjl);simpa [A5h] using this
theorem B0y(L:List Ses)(h:∀y∈L,y.id≠w):P0 (A5h w) L = -1:=by refine A0E λj hj=>?_;rw [Ab hj];have:=h _ (List.getElem_mem hj);simpa [A5h] using this
theorem C4x(h:∀y∈L,y.id≠x.id):B5R L x.id=L:=A9k (B0y L h)
theorem C4y(hn:(L.map (·.id)).Nodup)(h:L[k]? = some x):B5R L x.id=L.filter (λy=>y.id != x.id):=by rw [A7g (B5S hn h),A4g hn h]
theorem B5T(vi vw p0 r0 u0 vo vt vr vk0 vl vst vid:Value)(x:Ses)(w:LN)(b:Nat)(A:Mem)(hi:SeR A x vi vw p0 r0 u0 vo vt vr vk0 vl vst)(hid:By A vid w)(hb:(b,blk [vid] 22)∈A):FnV prog 72 [.agg #[vi,vw,p0,r0,u0,(vU x.he.signed),.bool x.he.has,(vU x.he.once),.bool x.tell,vo,vt,vr,vk0,(vU x.r.sn),vl,(vU x.r.tn),(vU x.r.prev),vst],(vP b)] A (.bool (A5h w x)):=by haveI:=hi.id.cel;haveI:=hi.wi.cel;haveI:=hi.he.ia.cel;haveI:=hi.he.ig.cel;haveI:=hi.he.key.cel;haveI:=hi.r.own.cel;haveI:=hi.r.their.cel;haveI:=hi.r.root.cel;haveI:=hi.r.sk.cel;haveI:=hi.r.tk.cel;haveI:=hi.r.st.cel;haveI:=hid.cel;refine Cn (N:=8) func72 E E E λw_=>?_;refine A8 (D0 0 1) (A1 ?_);refine A2 E (bx_ λb2=>?_);refine aS_ E (A0 (D0 1 2) (A1 (lQ_ (qf_ 0 0) ?_)));refine lQ_ ql_ ?_;refine lQ_ (H1 E kR (mA hb) qR) ?_;refine D8 (aS E (aS E a0)) kR (A0F vi vid x.id w _ (hi.id.mono qS) (hid.mono qS)) E ?_;refine as_ (A0 (D1 3) (A9 ?_));exact ⟨_,[],[],H2 E E,Aa _,by simp,E,E,E⟩
theorem B5U{vid:Value}{rows:List (List Value)}{b:Nat}{A:Mem}(hR:RwL quR A rows L)(hid:By A vid w)(hb:(b,blk [vid] 22)∈A) :
    ∀(j:Nat) (r:List Value),rows[j]? = some r->FnV prog 72 (.agg r.toArray::[(vP b)]) A (.bool ((λj=>(L[j]?.map (A5h w)).getD false) j)):=λj r hr=>by
  obtain ⟨x,hx,a,b',c,d,e,f,g,i,j',k,l,rfl,h1⟩:=hR.of hr;dsimp only;rw [hx];exact B5T _ _ _ _ _ _ _ _ _ _ _ vid x w b _ h1 hid hb
theorem A3w(qb:Nat)(v:Value)(rows:List (List Value))(L:List Ses)(vid:Value)(w:LN)(A:Mem)(hqb:(qb,blk [v] 35)∈A)(hv:Rd A 18 v L.length rows.flatten)(hR:RwL quR A rows L)(hl:L.length<=1000)(hid:By A vid w):FnV prog 33 [(vP qb),vid] A (.int .i64 (P0 (A5h w) L)):=by haveI:=hid.cel;haveI:=hv.cel;refine Cn (N:=13) func33 E E E λw_=>?_;refine A8 (D0 0 1) (A1 ?_);refine A2 E (bx_ λb3=>?_);refine aS_ E (A0 (D0 0 3) (A3 (A1 (mV_ E (lQ_ (F0 (e:=35) E E kR) (A0 (D5 0 3 6) ?_))))));refine C7 E ?_;refine A4 (nx (D0 0 3) (A1 (mV_ E (lQ_ (F4 E) (lQ_ (qf_ 0 0) ?_)))));refine lQ_ (H1 E kR (mA hqb) qR) ?_;refine lQ_ (A21 (aS E a0)) ?_;refine D8 (aS E (aS E a0)) kR (B5Q v rows 72 [(vP b3)] (λj=>(L[j]?.map (A5h w)).getD false) _ (by rw [hR.len];exact hv.mono qS) (hR.lens quT) (by rw [hR.len];omega) kR (B5U (hR.mono quT qS) (hid.mono qS) qM)) E ?_;refine as_ (A0 (D1 4) (A9 ?_));exact ⟨_,[],[],H2 E E,Aa _,by simp,by rw [hR.len];rfl,E,E⟩
theorem B5V(qb:Nat)(v:Value)(rows:List (List Value))(L:List Ses)(vid:Value)(w:LN)(k:Nat)(x:Ses)(R A:Mem)(hqb:(qb,blk [v] 35)∈A)(hv:Rd A 18 v L.length rows.flatten)(hR:RwL quR R rows L)(hRA:∀z,z∈R->z∈A)(hl:L.length<=1000)(hid:By A vid w)(hf:P0 (A5h w) L=(k:Int))(hx:L[k]? = some x):FnX prog 12 [(vP qb),vid] [] A λq M J=>M=[]∧J=[]∧∃vi vw p0 r0 u0 vo vt vr vk0 vl vst,q=.tuple #[.agg #[vi,vw,p0,r0,u0,(vU x.he.signed),.bool x.he.has,(vU x.he.once),.bool x.tell,vo,vt,vr,vk0,(vU x.r.sn),vl,(vU x.r.tn),(vU x.r.prev),vst],.bool true]∧SeR R x vi vw p0 r0 u0 vo vt vr vk0 vl vst:=by haveI:=hid.cel;haveI:=hv.cel;obtain ⟨r,hr,vi,vw,p0,r0,u0,vo,vt,vr,vk0,vl,vst,rfl,hi⟩:=hR.get k x hx;haveI:=hi.id.cel;haveI:=hi.wi.cel;haveI:=hi.he.ia.cel;haveI:=hi.he.ig.cel;haveI:=hi.he.key.cel;haveI:=hi.r.own.cel;haveI:=hi.r.their.cel;haveI:=hi.r.root.cel;haveI:=hi.r.sk.cel;haveI:=hi.r.tk.cel;haveI:=hi.r.st.cel;have hkl:=(Ac.1 hx).1;unfold seC at hr;refine Co (N:=20) func12 E E E λw_=>?_;refine A8 (D0 0 1) (A1 ?_);refine A2 E (C3 (cs:=[vS,vS,vS,vS,vS,D3,.bool false,D3,.bool false,vS,vS,vS,vS,D3,vS,D3,D3,.pointer none]) kR E λb4=>?_);refine as_ (A0 (D5 0 1 4) (A1 (mv_ (mv_ ?_))));refine D8 (aS E (aS E a0)) kR (A3w qb v rows L vid w _ (mA hqb) (hv.mono qS) (hR.mono quT (λx hx=>mA (hRA x hx))) hl (hid.mono qS)) E ?_;rw [hf];refine as_ (A0 (D5 0 4 6) (A3 (A1 (mv_ ?_))));refine lQ_ (F6 false E E (ltF qO)) ?_;refine A0 (D7 0 4 6 11) ?_;refine C7 E ?_;refine A4 (nx (D5 0 4 6) (A1 (mV_ E (lQ_ (F4 E) (lQ_ (qf_ 0 0) ?_)))));refine lQ_ (H1 E kR (mA hqb) qR) ?_;refine mv_ ?_;refine lQ_ (G4 (sz:=18) (a:=k) E E kR E hv hkl) ?_;refine lQ_ (A0y E kR (hv.mono qS) (hR.lens quT) qD hr) ?_;refine A2 E (A5 (vs:=(Zc vi vw p0 r0 u0 vo vt vr vk0 vl vst x)) E E E kR qR (A7 hi.id.one (A7 hi.wi.one (A7 hi.he.ia.one (A7 hi.he.ig.one (A7 hi.he.key.one (A7 E (A7 E (A7 E (A7 E (A7 hi.r.own.one (A7 hi.r.their.one (A7 hi.r.root.one (A7 hi.r.sk.one (A7 E (A7 hi.r.tk.one (A7 E (A7 E (A7 hi.r.st.one K5)))))))))))))))))) Cv ?_);refine as_ (A0 (D0 4 5) (A9 ?_));exact ⟨_,[],[],A0e (n:=18) E E E kR Ce qR,qZ,E,E,vi,vw,p0,r0,u0,vo,vt,vr,vk0,vl,vst,E,hi⟩
theorem B8p(qb:Nat)(v:Value)(rows:List (List Value))(L:List Ses)(vid:Value)(w:LN)(A:Mem)(hqb:(qb,blk [v] 35)∈A)(hv:Rd A 18 v L.length rows.flatten)(hR:RwL quR A rows L)(hl:L.length<=1000)(hid:By A vid w)(hf:P0 (A5h w) L = -1):FnX prog 12 [(vP qb),vid] [] A λq M J=>M=[]∧J=[]∧q=.tuple #[.agg #[vS,vS,vS,vS,vS,.int .u32 0,.bool false,.int .u32 0,.bool false,vS,vS,vS,vS,.int .u32 0,vS,.int .u32 0,.int .u32 0,.pointer none],.bool false]:=by haveI:=hid.cel;haveI:=hv.cel;refine Co (N:=20) func12 E E E λw_=>?_;refine A8 (D0 0 1) (A1 ?_);refine A2 E (C3 (cs:=[vS,vS,vS,vS,vS,D3,.bool false,D3,.bool false,vS,vS,vS,vS,D3,vS,D3,D3,.pointer none]) kR E λb4=>?_);refine as_ (A0 (D5 0 1 4) (A1 (mv_ (mv_ ?_))));refine D8 (aS E (aS E a0)) kR (A3w qb v rows L vid w _ (mA hqb) (hv.mono qS) (hR.mono quT qS) hl (hid.mono qS)) E ?_;rw [hf];refine as_ (A0 (D5 0 4 6) (A3 (A1 (mv_ ?_))));refine lQ_ (F6 true E E (ltT qD)) ?_;refine A0 (D7 0 4 6 11) ?_;refine E2 E ?_;refine A1 ?_;refine lQ_ (E6 (place:=λx=>#[(0,1),(1,1),(2,6),(8,1),(9,9)][x]?) (z:=[vS,vS,vS,vS,vS,D3,.bool false,D3,.bool false,vS,vS,vS,vS,D3,vS,D3,D3,.pointer none]) (λ_=>by kernel_rfl) e0 bd0) ?_;refine A2 E (A5 (vs:=Ze) E E E kR qR al18 Cv ?_);refine as_ (A0 (D0 4 5) (A9 (tr ?_)));exact ⟨_,[],[],A0e (n:=18) E E E kR Ce qR,qZ,E,E,E⟩
theorem C6e(qb:Nat)(v:Value)(rows:List (List Value))(L:List Ses)(A:Mem)(hqb:(qb,blk [v] 35)∈A)(hv:Rd A 18 v L.length rows.flatten):FnV prog 14 [(vP qb)] A (vI L.length):=by haveI:=hv.cel;refine Cn (N:=10) func14 E E E λw_=>?_;refine A8 (D1 0) (A1 (aS_ E (A0 (D1 0) (A3 (A1 (mV_ E (lQ_ (F0 (e:=35) E E kR) (A0 (D0 0 4) ?_))))))));refine C7 E ?_;refine A4 (nx (D1 0) (A1 (mV_ E (lQ_ (F4 E) (lQ_ (qf_ 0 0) ?_)))));refine lQ_ (H1 E kR (mA hqb) qR) ?_;refine lQ_ (F8 (sz:=18) E kR hv) ?_;refine as_ (A0 (D1 2) (A9 ?_));exact ⟨_,[],[],H2 E E,Aa _,by simp,E,E,E⟩
theorem C2b(qb:Nat)(v:Value)(rows:List (List Value))(L:List Ses)(x:Ses)(R A:Mem)(hqb:(qb,blk [v] 35)∈A)(hv:Rd A 18 v L.length rows.flatten)(hR:RwL quR R rows L)(hRA:∀z,z∈R->z∈A)(hl:L.length<=1000)(hx:L[0]? = some x):FnX prog 13 [(vP qb)] [] A λq M J=>M=[]∧J=[]∧∃vi vw p0 r0 u0 vo vt vr vk0 vl vst,q=.tuple #[.agg #[vi,vw,p0,r0,u0,(vU x.he.signed),.bool x.he.has,(vU x.he.once),.bool x.tell,vo,vt,vr,vk0,(vU x.r.sn),vl,(vU x.r.tn),(vU x.r.prev),vst],.bool true]∧SeR R x vi vw p0 r0 u0 vo vt vr vk0 vl vst:=by haveI:=hv.cel;obtain ⟨r,hr,vi,vw,p0,r0,u0,vo,vt,vr,vk0,vl,vst,rfl,hi⟩:=hR.get 0 x hx;haveI:=hi.id.cel;haveI:=hi.wi.cel;haveI:=hi.he.ia.cel;haveI:=hi.he.ig.cel;haveI:=hi.he.key.cel;haveI:=hi.r.own.cel;haveI:=hi.r.their.cel;haveI:=hi.r.root.cel;haveI:=hi.r.sk.cel;haveI:=hi.r.tk.cel;haveI:=hi.r.st.cel;have hkl:=(Ac.1 hx).1;unfold seC at hr;refine Co (N:=14) func13 E E E λw_=>?_;refine A8 (D1 0) (A1 ?_);refine A2 E (C3 (cs:=[vS,vS,vS,vS,vS,D3,.bool false,D3,.bool false,vS,vS,vS,vS,D3,vS,D3,D3,.pointer none]) kR E λb2=>?_);refine as_ (A0 (D0 0 2) (A3 (A1 (mv_ ?_))));refine D8 (aS E a0) kR (C6e qb v rows L _ (mA hqb) (hv.mono qS)) E ?_;refine lQ_ (F6 false E E (eqF qO)) ?_;refine A0 (D5 0 2 6) ?_;refine C7 E ?_;refine A4 (nx (D0 0 2) (A1 (mV_ E (lQ_ (F4 E) (lQ_ (qf_ 0 0) ?_)))));refine lQ_ (H1 E kR (mA hqb) qR) ?_;refine lQ_ (G4 (sz:=18) (a:=0) E E kR E hv hkl) ?_;refine lQ_ (A0y E kR (hv.mono qS) (hR.lens quT) qD hr) ?_;refine A2 E (A5 (vs:=(Zc vi vw p0 r0 u0 vo vt vr vk0 vl vst x)) E E E kR qR (A7 hi.id.one (A7 hi.wi.one (A7 hi.he.ia.one (A7 hi.he.ig.one (A7 hi.he.key.one (A7 E (A7 E (A7 E (A7 E (A7 hi.r.own.one (A7 hi.r.their.one (A7 hi.r.root.one (A7 hi.r.sk.one (A7 E (A7 hi.r.tk.one (A7 E (A7 E (A7 hi.r.st.one K5)))))))))))))))))) Cv ?_);refine as_ (A0 (D0 2 3) (A9 ?_));exact ⟨_,[],[],A0e (n:=18) E E E kR Ce qR,qZ,E,E,vi,vw,p0,r0,u0,vo,vt,vr,vk0,vl,vst,E,hi⟩
theorem qPut(qb:Nat)(vi vw p0 r0 u0 vo vt vr vk0 vl vst:Value)(x:Ses)(L:List Ses)(R M0 A:Mem)(hQ:Que R qb L M0)(hR:∀z,z∈R->z∈A)(hl:L.length<=900)(hi:SeR R x vi vw p0 r0 u0 vo vt vr vk0 vl vst):FnX prog 11 [(vP qb),.agg #[vi,vw,p0,r0,u0,(vU x.he.signed),.bool x.he.has,(vU x.he.once),.bool x.tell,vo,vt,vr,vk0,(vU x.r.sn),vl,(vU x.r.tn),(vU x.r.prev),vst]] M0 A λq M J=>q=.tuple #[]∧Que (J++R) qb ((x::B5R L x.id).take 4) M:=by
  obtain ⟨v,rows,B,rfl,hsl,hrw⟩:=hQ.ex;haveI:=hsl.cel;haveI:=hi.id.cel;haveI:=hi.wi.cel;haveI:=hi.he.ia.cel;haveI:=hi.he.ig.cel;haveI:=hi.he.key.cel;haveI:=hi.r.own.cel;haveI:=hi.r.their.cel;haveI:=hi.r.root.cel;haveI:=hi.r.sk.cel;haveI:=hi.r.tk.cel;haveI:=hi.r.st.cel;have hl':L.length<=1000:=by omega
  have hone:∀c∈(Zc vi vw p0 r0 u0 vo vt vr vk0 vl vst x),c.oneCell'=true:=(A7 hi.id.one (A7 hi.wi.one (A7 hi.he.ia.one (A7 hi.he.ig.one (A7 hi.he.key.one (A7 E (A7 E (A7 E (A7 E (A7 hi.r.own.one (A7 hi.r.their.one (A7 hi.r.root.one (A7 hi.r.sk.one (A7 E (A7 hi.r.tk.one (A7 E (A7 E (A7 hi.r.st.one K5))))))))))))))))))
  refine Co (N:=48) func11 E E E λw_=>?_;refine A8 (D0 0 1) (A1 ?_);refine A2 E (bx_ λb3=>?_);refine A0 (D0 0 3) (A3 (A1 (mV_ E (lQ_ (F0 (e:=35) E E kR) (A0 (D5 0 3 6) ?_)))));refine C7 E ?_;refine A4 (nx (D0 0 3) ?_);refine P3 (α:=Value×List (List Value)×Mem) (λy=>[(0,(vP qb)),(3,(vP b3))]) (λy=>(b3,blk (Zc vi vw p0 r0 u0 vo vt vr vk0 vl vst x) 49)::(qb,blk [y.1] 35)::y.2.2) (λ_=>[]) (λy=>Sl 18 y.1 (B5R L x.id).length y.2.1.flatten y.2.2∧RwL quR R y.2.1 (B5R L x.id)) ?_ ?_
  .
    refine A1 (mV_ E (lQ_ (qf_ 0 0) ?_));refine lQ_ ql_ ?_;refine D8 (aS E (aS E a0)) kR (A3w qb v rows L vi x.id _ qM (hsl.rd qS) (hrw.mono quT (λx hx=>mA (hR x hx))) hl' (hi.id.mono (λx hx=>mA (hR x hx)))) E ?_;refine aS_ E (A0 (D5 0 3 4) (A1 (mV_ E (lQ_ (E3 E E E) (A0 (D7 0 3 4 12) ?_)))));refine C2 E ?_ ?_<;>intro hc
    .
      obtain ⟨hf,hz⟩|⟨i,y,hf,hxi,hq,hmin⟩:=N8 (A5h x.id) L
      . rw [hf] at hc;simp at hc
      have hil:=(Ac.1 hxi).1;rw [hf];obtain ⟨p,rfl,h0,_,_⟩|⟨b,o,cap,cs,e,rfl,rfl,g1,g2,g3,g4,g5⟩:=hsl
      . omega
      refine C1 (mV_ E (mV_ E (lQ_ (F4 E) (lQ_ (qf_ 0 0) ?_))));refine lQ_ ql_ ?_;refine mv_ (mv_ ?_);refine lQ_ (D2 ((i+1:Nat):Int) E E (F5 qO qO qO)) ?_;refine A2 E (C8 (Mc:=[(b,blk cs e)]) (R:=_) (aS E (aS E (aS E a0))) kR qP (B1v b o cap L.length i (i+1) cs rows.flatten e _ g1 g2 g3 g4 g5 (hrw.ones quT) qO qO) E ?_);rintro v21 M21 J21 ⟨rfl,hs21⟩
      have hsd:Sl 18 v21 (L.eraseIdx i).length (rows.take i++rows.drop (i+1)).flatten M21:=by have h:=hs21;rw [A3j (hrw.lens quT)] at h;exact Sl.castQ h (by rw [List.length_eraseIdx,if_pos hil];omega) rfl
      haveI:=hsd.cel;refine lQ_ (F4 E) (lQ_ (qf_ 0 0) ?_);refine A2 E (E1 E E hsd.one kR Ct Cv ?_);refine C5 ?_;exact jn (v21,rows.take i++rows.drop (i+1),M21) ⟨by rw [A7g hf];exact hsd,by rw [A7g hf];exact hrw.erase i⟩ (D0 0 3) (Cj (B:=[_]) qP (Cj (B:=[_]) qP (Ch qP))) (λ_ h=>by cases h)
    .
      have hf:P0 (A5h x.id) L = -1:=by
        obtain ⟨hf,hz⟩|⟨i,y,hf,hxi,hq,hmin⟩:=N8 (A5h x.id) L
        . exact hf
        . rw [hf] at hc;(simp at hc)<;>omega
      refine A4 ?_;exact jn (v,rows,B) ⟨by rw [A9k hf];exact hsl,by rw [A9k hf];exact hrw⟩ (D0 0 3) .rfl qI
  .
    rintro ⟨v1,rows1,B1⟩ ⟨hsl1,hrw1⟩;dsimp only at hsl1 hrw1 ⊢;haveI:=hsl1.cel;have hdl:=B8o L x.id;generalize B5R L x.id=ds at *;refine C9 [0,1,2,3,4,5,6,8,9] (zp 0 [0,0,0,0,1,1,2,2,0,0,2]) kR kR λhs=>?_;refine fM_ E E (fM_ E E (fQ_ E (F4 E) (fQ_ E (qf_ 0 0) ?_)));refine fR_ E ql_ ?_;refine fR_ E (qw_ 18) ?_
    refine B2h E E λ_=>(C4 (e:=49) (sz:=18) (z:=[vS,vS,vS,vS,vS,D3,.bool false,D3,.bool false,vS,vS,vS,vS,D3,vS,D3,D3,.pointer none]) kR (eS E e0) (bdS 0 18 E qR bd0) E λb30=>?_)
    refine G3 E E E (C8 (Mc:=(b30,blk (Zc vi vw p0 r0 u0 vo vt vr vk0 vl vst x) 49)::B1) (R:=_) (aS E (aS E (aS E a0))) kR qP (B1w v1 ds.length b30 (Zc vi vw p0 r0 u0 vo vt vr vk0 vl vst x) rows1.flatten B1 _ hsl1 E hone (hrw1.ones quT) qO) E ?_);rintro v31 M31 J31 hs31;haveI:=hs31.cel;refine fQ_ E (F4 E) (fQ_ E (qf_ 0 0) ?_);refine G3 E E E (E1 E E hs31.one kR Ct Cv ?_);refine E4 (D1 0) ?_;have hs32:=hs31.hiV (min (ds.length+1) 4) qO;refine I1 (.range 14) (zp 0 [0,0,0,0,1,0,0,0,1,0,0,0,0,0,2]) kR kR λhs=>?_;refine fM_ E E (fM_ E E (fQ_ E (F4 E) (fQ_ E (qf_ 0 0) ?_)));refine fR_ E ql_ ?_;refine fM_ E E (fQ_ E (F4 E) (fQ_ E (qf_ 0 0) ?_));refine fR_ E ql_ ?_;refine fQ_ E (F8 (sz:=18) E kR (hs31.rd (R:=M31) λ_ h=>h)) ?_;refine fQ_ E (A4i (((min (ds.length+1) 4:Nat)):Int) E E (by split<;>omega)) ?_;refine fQ_ E (A3I (sz:=18) (a:=min (ds.length+1) 4) E E kR E (hs31.rd (R:=M31) λ_ h=>h) qO) ?_;refine fQ_ E (F4 E) (fQ_ E (qf_ 0 0) ?_);refine G3 E E E (E1 E E hs32.one kR Ct Cv ?_);refine U0 ?_;refine ⟨_,(qb,blk [vHi (min (ds.length+1) 4) v31] 35)::M31,[],A8v E,Ci (Cj (B:=[_]) qP (Ch qP)),E,⟨_,((Zc vi vw p0 r0 u0 vo vt vr vk0 vl vst x)::rows1).take 4,M31,E,?_,?_⟩⟩
    . refine Sl.castQ hs32 ?_ ?_
      . rw [Bj,List.length_cons];omega
      . rw [<- List.flatten_cons,A1u (s:=18) (by intro r hr;rcases List.mem_cons.1 hr with rfl|h;rfl;exact hrw1.lens quT r h)];congr 1;have hll:((Zc vi vw p0 r0 u0 vo vt vr vk0 vl vst x)::rows1).length=ds.length+1:=by rw [List.length_cons,hrw1.len]
        by_cases h4:ds.length+1<=4
        . rw [show min (ds.length+1) 4=ds.length+1 by omega,Aw qO,Aw qO]
        . rw [show min (ds.length+1) 4=4 by omega]
    . exact (RwL.cons (x:=x) ⟨vi,vw,p0,r0,u0,vo,vt,vr,vk0,vl,vst,E,hi.mono λz hz=>Ai _ hz⟩ (hrw1.mono quT λz hz=>Ai _ hz)).take 4

def quK(L:List (Ses×Ses)):List Ses:=(L.map (·.1)).reverse.take 4
theorem B8q(L:List (Ses×Ses))(x t:Ses):quK (L++[(x,t)])=(x::quK L).take 4:=by unfold quK;rw [List.map_append,List.map_singleton,List.reverse_append,List.reverse_singleton,List.singleton_append,List.take_succ_cons,List.take_succ_cons,List.take_take];rfl
variable{j:Nat}
theorem A9l{L:List (Ses×Ses)}(h:Nam L){i:Nat}{a b:Ses×Ses}(hi:L[i]? = some a)(hj:L[j]? = some b)(e:a.1.id=b.1.id):i=j:=by
  have h1:(L.map (·.1.id))[i]? = some a.1.id:=by rw [List.getElem?_map,hi];rfl
  have h2:(L.map (·.1.id))[j]? = some b.1.id:=by rw [List.getElem?_map,hj];rfl
  obtain ⟨l1,e1⟩:=Ac.1 h1;obtain ⟨l2,e2⟩:=Ac.1 h2;have hp:=List.pairwise_iff_getElem.1 h.d;rcases Nat.lt_trichotomy i j with q|q|q
  . exact absurd (e1.trans (e.trans e2.symm)) (hp i j l1 l2 q)
  . exact q
  . exact absurd (e2.trans (e.symm.trans e1.symm)) (hp j i l2 l1 q)
structure QOk(L:List (Ses×Ses))(Q:List Ses):Prop where
  len:Q.length=min L.length 4
  up:∀j x t,L[j]? = some (x,t)->L.length<=j+4->x∈Q
  dn:∀y∈Q,∃j t,L[j]? = some (y,t)∧L.length<=j+4
  nd:(Q.map (·.id)).Nodup
theorem QOk.of{L:List (Ses×Ses)}(h:Nam L):QOk L (quK L):=by
  refine ⟨by unfold quK;rw [Bj,List.length_reverse,List.length_map];omega,λj x t hj h4=>?_,λy hy=>?_,?_⟩
  . have hl:=(Ac.1 hj).1;refine As (i:=L.length-1-j) ?_;unfold quK;rw [Cd qO,List.getElem?_reverse (by rw [List.length_map];omega),List.length_map,show L.length-1-(L.length-1-j)=j by omega,List.getElem?_map,hj];rfl
  . obtain ⟨i,hi⟩:=List.getElem?_of_mem hy;have hl:=(Ac.1 hi).1;unfold quK at hi hl;rw [Bj,List.length_reverse,List.length_map] at hl;rw [Cd qO,List.getElem?_reverse (by rw [List.length_map];omega),List.length_map,List.getElem?_map] at hi;obtain ⟨⟨x,t⟩,h1,rfl⟩:=Option.map_eq_some_iff.1 hi;exact ⟨_,t,h1,by omega⟩
  . unfold quK;rw [List.map_take,List.map_reverse,List.map_map];exact List.Nodup.sublist (List.take_sublist _ _) (List.pairwise_reverse.2 (h.d.imp λh e=>h e.symm))
variable{Q:List Ses}{t:Ses}
theorem C6f{L:List (Ses×Ses)}(h:Nam L)(hQ:QOk L Q)(hj:L[j]? = some (x,t))(h4:j+4<L.length):∀y∈Q,y.id≠x.id:=λy hy e=>by obtain ⟨i,u,h1,h2⟩:=hQ.dn y hy;have:=A9l h h1 hj e;omega
theorem C4z{L:List (Ses×Ses)}(h:Nam (L++[(x,t)])):∀y∈quK L,y.id≠x.id:=λy hy e=>by obtain ⟨z,hz,rfl⟩:=List.mem_map.1 (List.mem_reverse.1 (Bz hy));obtain ⟨i,hi⟩:=List.getElem?_of_mem hz;have hl:=(Ac.1 hi).1;have:=A9l h (i:=i) (j:=L.length) (a:=z) (b:=(x,t)) (by rw [Ak hl];exact hi) qM e;omega
variable{t':Ses}
theorem C2c{L:List (Ses×Ses)}(hQ:QOk L Q)(hj:L[j]? = some (x,t))(h4:j+4<L.length):QOk (L.set j (x,t')) Q:=by
  refine ⟨by rw [Bk];exact hQ.len,λi y u hi h5=>?_,λy hy=>?_,hQ.nd⟩
  . rw [Bk] at h5;rw [List.getElem?_set_ne qO] at hi;exact hQ.up i y u hi h5
  . obtain ⟨i,u,h1,h2⟩:=hQ.dn y hy;exact ⟨i,u,by rw [List.getElem?_set_ne qO];exact h1,by rw [Bk];exact h2⟩
theorem C4A{L:List (Ses×Ses)}(h:Nam L)(hQ:QOk L Q){q:Nat}{x':Ses}(hj:L[j]? = some (x,t))(h4:L.length<=j+4)(hq:Q[q]? = some x)(hx:x'.id=x.id):QOk (L.set j (x',t')) (x'::Q.filter λy=>y.id != x.id):=by
  have ql:=(Ac.1 hq).1;have jl:=(Ac.1 hj).1;refine ⟨?_,λi y u hi h5=>?_,λy hy=>?_,?_⟩
  . have:=hQ.len;rw [Bk,List.length_cons,<- A4g hQ.nd hq,List.length_eraseIdx,if_pos ql];omega
  . rw [Bk] at h5;by_cases e:j=i
    . subst e;rw [List.getElem?_set_self jl] at hi;cases hi;exact qK
    . rw [List.getElem?_set_ne e] at hi;exact Bb _ (List.mem_filter.2 ⟨hQ.up i y u hi h5,by simpa using λe2=>e (A9l h hj hi (Eq.symm e2))⟩)
  . rcases List.mem_cons.1 hy with rfl|hy
    . exact ⟨j,t',List.getElem?_set_self jl,by rw [Bk];exact h4⟩
    . obtain ⟨h1,h2⟩:=List.mem_filter.1 hy;obtain ⟨i,u,h3,h5⟩:=hQ.dn y h1
      have hne:j≠i:=λe=>by subst e;rw [hj] at h3;cases h3;simp at h2
      exact ⟨i,u,by rw [List.getElem?_set_ne hne];exact h3,by rw [Bk];exact h5⟩
  . rw [List.map_cons];refine List.nodup_cons.2 ⟨λhm=>?_,List.Nodup.sublist (List.filter_sublist.map _) hQ.nd⟩;obtain ⟨y,hy,e⟩:=List.mem_map.1 hm;have:=(List.mem_filter.1 hy).2;rw [e,hx] at this;simp at this
theorem B1x{q:Nat}(hn:(Q.map (·.id)).Nodup)(hq:Q[q]? = some x):(Q.filter λy=>y.id != x.id).length+1=Q.length:=by have ql:=(Ac.1 hq).1;rw [<- A4g hn hq,List.length_eraseIdx,if_pos ql];omega

end Go.Proofs.YtgpjndfgjjlhaaaGreatDoor
namespace Go.Px
theorem St.frzInto{C:Cx}{w:World}:∀(M J:Mem),St C M J w->∃J2,(∀x,x∈M++J->x∈J2)∧St C [] J2 w
  | [],J,h=>⟨J,λx hx=>hx,h⟩
  | y::M,J,h=>by
    obtain ⟨J2,h1,h2⟩:=St.frzInto M (y::J) h.freeze;refine ⟨J2,λx hx=>h1 x ?_,h2⟩;simp only [Cy,Cz,List.mem_append] at hx ⊢;rcases hx with hx|hx|hx
    . exact .inr (.inl hx)
    . exact .inl hx
    . exact .inr (.inr hx)
theorem OpL.frzAll{C:Cx}{o:Oper}{l:Env}{M J:Mem}{K:Env->Mem->Mem->Prop}(h:OpL C o l M J λl' M' J'=>∀J2,(∀x,x∈M'++J'->x∈J2)->K l' [] J2):OpL C o l M J K:=λQp a w ha hw =>
  Oper.wp_mono (λa' w' ⟨l',M',J',h1,h2,h3⟩=>by
    obtain ⟨J2,g1,g2⟩:=St.frzInto M' J' h2
    exact ⟨l',[],J2,h1,g2,h3 J2 g1⟩) (h Qp a w ha hw)
end Go.Px

namespace Go.Proofs.YtgpjndfgjjlhaaaGreatDoor
open Go.Px
def KyE(R:Mem)(kb:Nat)(k:Ks):Prop:=∃va vg vq vo vm rs ro rm,KyR R kb k va vg vq vo vm rs ro rm
theorem KyE.mono{R R':Mem}{kb:Nat}{k:Ks}(h:KyE R kb k)(hR:∀z,z∈R->z∈R'):KyE R' kb k:=by obtain ⟨a,b,c,d,e,f,g,i,h⟩:=h;exact ⟨a,b,c,d,e,f,g,i,h.mono hR⟩
def C4B(R:Mem)(v:Value)(x:Ses):Prop:=∃vi vw p r u vo vt vr vk vl vst,v=.agg (seC vi vw p r u vo vt vr vk vl vst x).toArray∧SeR R x vi vw p r u vo vt vr vk vl vst
def EvV(R:Mem)(v:Value)(e:Ev):Prop:=∃vs p r u vk vg,v=.agg (evC vs p r u vk vg e).toArray∧EvR R e vs p r u vk vg
theorem C4B.mono{R R':Mem}{v:Value}{x:Ses}(h:C4B R v x)(hR:∀z,z∈R->z∈R'):C4B R' v x:=by obtain ⟨a,b,c,d,e,f,g,i,j,k,l,h1,h2⟩:=h;exact ⟨a,b,c,d,e,f,g,i,j,k,l,h1,h2.mono hR⟩
theorem EvV.mono{R R':Mem}{v:Value}{x:Ev}(h:EvV R v x)(hR:∀z,z∈R->z∈R'):EvV R' v x:=by obtain ⟨a,b,c,d,e,f,h1,h2⟩:=h;exact ⟨a,b,c,d,e,f,h1,h2.mono hR⟩
theorem mdS(m:Nat):((m%2:Nat):Int)=md (m%2==0):=by rcases Nat.mod_two_eq_zero_or_one m with h|h<;>rw [h]<;>rfl
theorem C4C{B:Ks}{s:Ps}(h:(A7k B s).1.length=5):(A7k B s).1[0]? = some (olY B s):=by unfold olY;rw [Aj,Ab qO];rfl
structure OI(R:Mem)(pb ka kb qb wb:Nat)(A B:Ks)(s:Ps)(L:List (Ses×Ses))(Q:List Ses)(vt:Value)(MP Mq Bt:Mem):Prop where
  w:(wb,blk [.int .i64 0,.int .i64 1,.int .i64 1,.int .i64 1] 29)∈R
  ka:KyE R ka A
  kb:KyE R kb B
  p:Prm pb s MP
  q:Que R qb Q Mq
  t:∃rows,Sl 18 vt L.length rows.flatten Bt∧RwL quR R rows (L.map (·.2))
theorem leD{k:IntKind}{a b:Int}{c:Prop}[Decidable c](h:a<=b↔c):H8 .leq k a b=some (.bool (decide c)):=by
  by_cases q:c
  . rw [decide_eq_true q];exact leT (h.2 q)
  . rw [decide_eq_false q];exact leF (Int.lt_of_not_ge λh2=>q (h.1 h2))
theorem _root_.Go.Px.RwL.set{α:Type}{φ:Mem->α->List Value->Prop}{R:Mem}{rows:List (List Value)}{xs:List α}(h:RwL φ R rows xs){j:Nat}{x:α}{r:List Value}(hx:φ R x r):RwL φ R (rows.set j r) (xs.set j x):=by
  refine ⟨by simp [h.len],λi y hi=>?_⟩;rw [List.getElem?_set] at hi ⊢;split at hi
  . next e =>
    subst e;split at hi
    . cases hi;rw [if_pos E,if_pos (by rw [h.len];assumption)];exact ⟨_,E,hx⟩
    . cases hi
  . next e =>
    rw [if_neg e];exact h.get i y hi
theorem C2d(qb:Nat)(v:Value)(rows:List (List Value))(L:List Ses)(vid:Value)(w:LN)(x:Ses)(b:Bool)(R A:Mem)(hqb:(qb,blk [v] 35)∈A)(hv:Rd A 18 v L.length rows.flatten)(hR:RwL quR R rows L)(hRA:∀z,z∈R->z∈A)(hl:L.length<=1000)(hid:By A vid w)(hy:b=true->x.id=w∧∃k:Nat,P0 (A5h w) L=(k:Int)∧L[k]? = some x)(hn:b=false->P0 (A5h w) L = -1) :
    FnX prog 12 [(vP qb),vid] [] A λq M J=>M=[]∧J=[]∧∃r:List Value,q=.tuple #[.agg r.toArray,.bool b]∧r.length=18∧(∀c∈r,c.oneCell'=true)∧(b=true->quR R x r):=by
  cases b with
  | true =>
    obtain ⟨-,k,h1,h2⟩:=hy rfl
    refine (B5V qb v rows L vid w k x R A hqb hv hR hRA hl hid h1 h2).mono λq M J ⟨e1,e2,vi,vw,p0,r0,u0,vo,vt,vr,vk0,vl,vst,e3,h⟩=>⟨e1,e2,_,e3,E,quT.one _ x _ ⟨_,_,_,_,_,_,_,_,_,_,_,E,h⟩,λ_=>⟨_,_,_,_,_,_,_,_,_,_,_,E,h⟩⟩
  | false =>
    exact (B8p qb v rows L vid w A hqb hv (hR.mono quT hRA) hl hid (hn rfl)).mono λq M J ⟨e1,e2,e3⟩=>⟨e1,e2,Ze,e3,rfl,by decide,λh=>by cases h⟩
set_option maxHeartbeats 4000000 in
theorem B8r(m n:Nat)(v:Value)(ids:LN)(A:Mem)(hm:m<256)(hn:n<256)(hx:Byi A v ids)(hG:Glb A):FnV prog 3 [.int .u8 ((m:Nat):Int),.int .u8 ((n:Nat):Int),v] A (.bool true):=by
  haveI:=hx.cel;have hxl:=hx.len;unfold maxLen at hxl;refine Cn (N:=245) func3 E E E λw_=>?_;refine A8 (D5 0 1 2) (A1 (as_ (A0 (D5 0 1 2) (A1 (mv_ ?_)))));refine lQ_ (V5 (a:=m) (b:=2) E E E E qD) ?_;rw [mdS m];refine A2 E (C4 (e:=5) (sz:=1) (z:=[zu8,zu8,zu8]) kR (eS E (eS E (eS E e0))) (bdS 0 1 E qR (bdS 1 1 E qR (bdS 2 1 E qR bd0))) E λb40=>?_);refine A2 E (A3E E kR Cv E ?_);refine A3J (B:=[_]) (PickC.sing).perm ?_;refine C6 (aS E (aS E a0)) kR (B2V (m%2==0) _ B1r _ ⟨Cr (n:=3) Ce qR,by decide,by decide⟩) E ?_;rintro v42 MP J42 ⟨pb,rfl,hP⟩;change Prm pb (rc0 m) MP at hP;have q1:=B4A 0 1 (rc0 m);change (rcA m).2.ts.length<=11∧(rcA m).2.n<=7∧_ at q1;have q2:=B4A 1 1 (rcA m).2;change (rcB m).2.ts.length<=_∧(rcB m).2.n<=_∧_ at q2;refine mV_ E (lQ_ (A0x E) (lQ_ (A0n E) (aS_ E (aS_ E (A0 (D7 1 2 7 8) (A3 (A1 (mV_ E (lQ_ (F6 false E E (neF E)) (mv_ ?_))))))))));refine G1 E E (Cp qm_ E ?_);refine G1 E E (Cp (F8 (sz:=1) E kR hx.rd) E ?_);refine G1 E E (Cp (E3 E E E) E ?_);refine lQ_ (E8 E E) (A0 (E9 1 2 7 8 51) ?_);refine C2 E ?_ ?_<;>intro hc
  . refine A1 (mV_ E (lQ_ (F6 true E E (eqT E)) (as_ (A0 (D1 6) (A9 (tr ?_))))));exact ⟨_,[],[],H2 E E,Aa _,by simp,E,E,E⟩
  .
    have h12:ids.length<=12:=by simp [H8] at hc;omega
    refine A4 (nx (D5 1 2 7) (A1 ?_));refine lQ_ (E6 (place:=λx=>#[(0,1),(1,1)][x]?) (z:=[.int .i64 0,.int .i64 0]) (λ_=>by kernel_rfl) (eS E (eS E e0)) (bdS 0 1 E qR (bdS 1 1 E qR bd0))) ?_;refine lQ_ (E6 (place:=λx=>#[(0,1),(1,1)][x]?) (z:=[.int .i64 0,.int .i64 0]) (λ_=>by kernel_rfl) (eS E (eS E e0)) (bdS 0 1 E qR (bdS 1 1 E qR bd0))) ?_;refine lQ_ (E6 (place:=λi=>some (i*2,2)) (z:=[U7,U7,U7,U7]) (λ_=>by kernel_rfl) (eS E (eS E e0)) (bdS 0 2 E qR (bdS 2 2 E qR bd0))) ?_;refine A2 E (C3 (cs:=[U7,U7,U7,U7]) kR E λb9=>?_);refine A2 E (A5 E E Cf kR ln4 al4 Cv ?_);refine A0 (D7 1 2 7 9) (A1 (mv_ ?_));refine lQ_ (F1 (e:=28) (n:=2) (sz:=2) (i:=0) 0 E E kR kR E qD E) ?_;refine lQ_ (F2 (n:=2) (vs:=[.int .i64 0,.int .i64 1]) E kR Ce E (D4 [] [.int .i64 0,.int .i64 1] [.int .i64 1,.int .i64 1])) ?_;refine A2 E (C8 (Mc:=MP) (R:=_) (aS E (aS E (a0))) kR qP (Cl qS (C3D 0 1 pb (rc0 m) MP A hP (show 0+200<=1048576 by decide) (show 0+100<1000000000 by decide) hG)) E ?_);rintro v60 M60 J60 ⟨ka,MA,MP2,rfl,rfl,hKa,hP2⟩;change Kys _ ka (rcA m).1 MA at hKa;change Prm pb (rcA m).2 MP2 at hP2;refine as_ (A0 (E9 1 2 7 9 10) (A1 (mv_ ?_)));refine lQ_ (F1 (e:=28) (n:=2) (sz:=2) (i:=1) 2 E E kR kR E qD E) ?_;refine lQ_ (F2 (n:=2) (vs:=[.int .i64 1,.int .i64 1]) E kR Ce E (D4 [.int .i64 0,.int .i64 1] [.int .i64 1,.int .i64 1] [])) ?_;refine A2 E (C8 (Mc:=MP2) (R:=_) (aS E (aS E (a0))) kR qP (Cl qS (C3D 1 1 pb (rcA m).2 MP2 (J60++A) hP2 qO qO (hG.sub qS))) E ?_);rintro v64 M64 J64 ⟨kb,MB,MP3,rfl,rfl,hKb,hP3⟩;change Kys _ kb (rcB m).1 MB at hKb;change Prm pb (rcB m).2 MP3 at hP3;refine as_ (A0 (G9 1 2 7 9 10 11) ?_);refine Z4 (B:=MA) qP ?_;refine Z4 (B:=MB) qP ?_;refine Z4 (B:=[(b9,blk [.int .i64 0,.int .i64 1,.int .i64 1,.int .i64 1] 29)]) qP ?_;obtain ⟨va,vg,vq,vo_,vm,rs,ro,rm,hra⟩:=hKa.r;obtain ⟨ua,ug,uq,uo,um,ss,so,sm,hrb⟩:=hKb.r;obtain ⟨⟨hA,hB⟩,hO⟩:=C4v m;refine A1 (mv_ ?_);refine lQ_ (A0R (k':=.i64) ((n:Nat):Int) E kR (wrap_i64 qO qO)) ?_;refine lQ_ (V5 (a:=n) (b:=7) E E E E qD) ?_;refine lQ_ (D2 ((1+n%7:Nat):Int) E E (F5 qO qO qO)) ?_;refine as_ (A0 (G9 2 7 9 10 11 12) ?_)
    obtain ⟨k,hk⟩:∃z,1+n%7=z:=⟨_,E⟩
    rw [hk];have hk7:k<=7:=by omega
    have hk0:0<k:=by omega
    refine A1 ?_;refine lQ_ (E6 (place:=λx=>#[(0,1)][x]?) (z:=[vS]) (λ_=>by kernel_rfl) e0 bd0) ?_;refine A2 E (bx_ λb70=>?_);refine aS_ E (A0 (N1 2 7 9 10 11 12 13) (A1 (aS_ E (A0 (V4 2 7 9 10 11 12 13 14) (A3 (A1 (aS_ E (A0 (Q4 2 7 9 10 11 12 13 14 15) (A6 ?_)))))))));refine E0 (α:=Nat×Ps×List (Ses×Ses)×Value×Mem×Mem×Mem×Mem) (λy=>[(2,v),(7,(vP pb)),(9,(vP b9)),(10,(vP ka)),(11,(vP kb)),(12,(vI k)),(13,(vP b70)),(14,y.2.2.2.1),(15,(vI y.1))]) (λy=>y.2.2.2.2.1++(y.2.2.2.2.2.1++y.2.2.2.2.2.2.1)) (λy=>y.2.2.2.2.2.2.2) (λy=>y.1<=k∧y.2.2.1.length=y.1∧OlP (rcA m).1 (rcB m).1 (7-y.1) y.2.1 y.2.2.1∧(0<y.1->Nam y.2.2.1∧GoQ 12 y.2.1 y.2.2.1)∧OI (y.2.2.2.2.2.2.2++A) pb ka kb b70 b9 (rcA m).1 (rcB m).1 y.2.1 y.2.2.1 (quK y.2.2.1) y.2.2.2.1 y.2.2.2.2.1 y.2.2.2.2.2.1 y.2.2.2.2.2.2.1) (λy=>k-y.1) (0,(rcB m).2,[],vS,MP3,[(b70,blk [vS] 35)],[],_) ⟨Am _,E,hO,λh=>absurd h (Nat.lt_irrefl 0),⟨by simp,⟨_,_,_,_,_,_,_,_,hra _ qS qS⟩,⟨_,_,_,_,_,_,_,_,hrb _ qS qS⟩,hP3,⟨_,[],[],E,Sl.nil,RwL.nil⟩,[],Sl.nil,RwL.nil⟩⟩ (Q4 2 7 9 10 11 12 13 14 15) (Cj qP (Ch qP)) qI ?_;rintro ⟨i,s,L,vt,Mi,Qi,Bi,Ji⟩ ⟨hi,hL,hO,hNG,hI⟩;dsimp only at hi hL hO hNG hI ⊢;obtain ⟨rows,hsl,hrw⟩:=hI.t;haveI:=hsl.cel;refine A3 (A1 (mV_ E (mV_ E (lQ_ (E3 E E E) (A0 (kq 2 (Q4 7 9 10 11 12 13 14 15 73)) ?_)))));refine C2 E ?_ ?_<;>intro hc
    .
      have hlt:i<k:=by simp [H8] at hc;omega
      rw [show 7-i=6-i+1 by omega] at hO;obtain ⟨s',x1,t1,⟨⟨n1,n2⟩,⟨⟨f3,f5,f6⟩,f7,f8,f9⟩,⟨g1,g6,g2,g3,g4,g5⟩,rfl,sec,own,s2,rz,⟨k1,⟨⟨i1,i3,l0⟩,i6,i7,k2,⟨l1,l2⟩,l3,l4,l5,⟨o1,o2⟩,o4⟩,o5,o6⟩,rfl⟩,hNm,hGq,hO2⟩:=hO;obtain ⟨va,vg,vq,vo_,vm,rs,ro,rm,hra⟩:=hI.ka;obtain ⟨ua,ug,uq,uo,um,ss,so,sm,hrb⟩:=hI.kb
      obtain ⟨-,⟨f1,f2,-⟩⟩:=(⟨hA,hB⟩:KsF _∧KsF _)
      obtain ⟨x,hsg⟩:=List.length_eq_one_iff.1 f1;refine A4 (nx (Q4 2 7 9 10 11 12 13 14 15) (A3 (A6 (A1 (mv_ (mv_ ?_))))));refine A2 E (C8 (Mc:=Mi) (R:=_) (aS E (aS E (a0))) kR qP (Cl qS (B4B pb s kb (rcB m).1 ua ug uq uo um ss so sm x [] Mi (Ji++A) hrb hsg hI.p qO qO (hG.sub qS))) E ?_);rintro v78 M78 J78 ⟨hP78,rwb,hrd,hrwb⟩;haveI:=hrd.cel;obtain ⟨r0,hr0,w1,w2,w3,w4,w5,rfl,gw1,gw2,gw3,gw4,gw5,gws,gwo⟩:=hrwb.get 0 (olY (rcB m).1 s) (C4C f3);haveI:=gw1.cel;haveI:=gw2.cel;haveI:=gw3.cel;haveI:=gw4.cel;haveI:=gw5.cel;refine as_ (A0 (kq 2 (Q4 7 9 10 11 12 13 14 15 16)) (A3 (A1 (mv_ ?_))));refine lQ_ (F8 (sz:=10) E kR hrd) ?_;rw [f3];refine lQ_ (F6 false E E (eqF qD)) ?_;refine A0 (kq 2 (kq 7 (Q4 9 10 11 12 13 14 15 16 81))) ?_;refine C7 E ?_;refine A4 (nx (kq 2 (Q4 7 9 10 11 12 13 14 15 16)) (A1 (mv_ (mv_ (mv_ ?_)))));refine lQ_ (G4 (sz:=10) (a:=0) E E kR E hrd (by rw [f3];decide)) ?_;refine lQ_ (A0y E kR (hrd.mono qS) (hrwb.lens bnT) qD hr0) ?_;refine A2 E (C8 (Mc:=M78) (R:=_) (aS E (aS E (aS E (a0)))) kR qP (Cl qS (B8g pb (A7k (rcB m).1 s).2 ka (rcA m).1 va vg vq vo_ vm rs ro rm (olY (rcB m).1 s) w1 w2 w3 w4 w5 M78 (J78++(Ji++A)) (hra.mono qS) hP78 f7 qO qO (gw1.mono qS) (gw2.mono qS) (gw3.mono qS) (gw4.mono qS) (gw5.mono qS) gws gwo f8 ⟨by omega,by omega,by omega,by omega,by omega,f9.2.2.2.2.2⟩ (hG.sub qS))) E ?_);rintro v88 M88 J88 ⟨vi,vw,p_,r,u,xo,xt,xr,xk,xl,xq,rfl,hP88,hx1⟩;change SeR _ (olX (rcA m).1 (rcB m).1 s) vi vw p_ r u xo xt xr xk xl xq at hx1;change Prm pb (olD (rcA m).1 (rcB m).1 s) M88 at hP88;rw [show sX (rcA m).1 (olY (rcB m).1 s) (A7k (rcB m).1 s).2=(olX (rcA m).1 (rcB m).1 s) from rfl];haveI:=hx1.id.cel;haveI:=hx1.wi.cel;haveI:=hx1.he.ia.cel;haveI:=hx1.he.ig.cel;haveI:=hx1.he.key.cel;haveI:=hx1.r.own.cel;haveI:=hx1.r.their.cel;haveI:=hx1.r.root.cel;haveI:=hx1.r.sk.cel;haveI:=hx1.r.tk.cel;haveI:=hx1.r.st.cel;unfold seC;refine mV_ E (lQ_ (A0x E) (lQ_ (A0n E) ?_));refine A2 E (C3 (cs:=[vS,vS,vS,vS,vS,D3,.bool false,D3,.bool false,vS,vS,vS,vS,D3,vS,D3,D3,.pointer none]) kR E λb17=>?_);refine A2 E (A5 (vs:=(Zc vi vw p_ r u xo xt xr xk xl xq (olX (rcA m).1 (rcB m).1 s))) E E E kR qR (A7 hx1.id.one (A7 hx1.wi.one (A7 hx1.he.ia.one (A7 hx1.he.ig.one (A7 hx1.he.key.one (A7 E (A7 E (A7 E (A7 E (A7 hx1.r.own.one (A7 hx1.r.their.one (A7 hx1.r.root.one (A7 hx1.r.sk.one (A7 E (A7 hx1.r.tk.one (A7 E (A7 E (A7 hx1.r.st.one K5)))))))))))))))))) Cv ?_);refine aS_ E (A0 (kq 2 (kq 7 (Q4 9 10 11 12 13 14 15 17 18))) (A1 (mV_ E (lQ_ (F2 (n:=18) (vs:=(Zc vi vw p_ r u xo xt xr xk xl xq (olX (rcA m).1 (rcB m).1 s))) E kR Ce E (D4 [] (Zc vi vw p_ r u xo xt xr xk xl xq (olX (rcA m).1 (rcB m).1 s)) [])) ?_))))
      refine lQ_ (F1 (e:=28) (n:=2) (sz:=2) (i:=0) 0 E E kR kR E qD E) ?_;refine lQ_ (F2 (n:=2) (vs:=[.int .i64 0,.int .i64 1]) E kR (qS _ hI.w) E (D4 [] [.int .i64 0,.int .i64 1] [.int .i64 1,.int .i64 1])) ?_;refine lQ_ (F1 (e:=28) (n:=2) (sz:=2) (i:=1) 2 E E kR kR E qD E) ?_;refine lQ_ (F2 (n:=2) (vs:=[.int .i64 1,.int .i64 1]) E kR (qS _ hI.w) E (D4 [.int .i64 0,.int .i64 1] [.int .i64 1,.int .i64 1] [])) ?_;refine A2 E (C4 (e:=5) (sz:=1) (z:=[zu8,zu8,zu8,zu8,zu8]) kR (eS E (eS E (eS E (eS E (eS E e0))))) (bdS 0 1 E qR (bdS 1 1 E qR (bdS 2 1 E qR (bdS 3 1 E qR (bdS 4 1 E qR bd0))))) E λb98=>?_);refine A2 E (A3E E kR Cv E ?_);refine A3J (B:=[_]) (PickC.sing).perm ?_;refine A2 E (C8 (Mc:=M88) (R:=_) (aS E (aS E (aS E (aS E (aS E (a0)))))) kR qP (Cl qS (C1P pb (olD (rcA m).1 (rcB m).1 s) (olX (rcA m).1 (rcB m).1 s) vi vw p_ r u xo xt xr xk xl xq _ 0 1 1 1 B1E M88 ((b98,Obj.cells ([.int .u8 98,.int .u8 101,.int .u8 103,.int .u8 105,.int .u8 110]:List Value).toArray 5 (([.int .u8 98,.int .u8 101,.int .u8 103,.int .u8 105,.int .u8 110]:List Value).length,([.int .u8 98,.int .u8 101,.int .u8 103,.int .u8 105,.int .u8 110]:List Value).length+1))::(J88++(J78++(Ji++A)))) hP88 qO (hx1.mono qS) g6 g2 g3 g4 g5 ⟨Cr (n:=5) qK qR,by decide,by decide⟩ qD (hG.sub qS))) E ?_);rintro v100 M100 J100 ⟨no_,nt,nrr,nk,nl,nst,vid,q2,q3,rfl,hP100,hn1,he1⟩;change EvR _ (olE (rcA m).1 (rcB m).1 s) vid p_ r u q2 q3 at he1;change Prm pb (olS (rcA m).1 (rcB m).1 s) M100 at hP100;change SeR _ (olZ (rcA m).1 (rcB m).1 s) vi vw p_ r u no_ nt nrr nk nl nst at hn1;haveI:=hn1.id.cel;haveI:=hn1.wi.cel;haveI:=hn1.he.ia.cel;haveI:=hn1.he.ig.cel;haveI:=hn1.he.key.cel;haveI:=hn1.r.own.cel;haveI:=hn1.r.their.cel;haveI:=hn1.r.root.cel;haveI:=hn1.r.sk.cel;haveI:=hn1.r.tk.cel;haveI:=hn1.r.st.cel;haveI:=he1.ses.cel;haveI:=he1.he.ia.cel;haveI:=he1.he.ig.cel;haveI:=he1.he.key.cel;haveI:=he1.hk.cel;haveI:=he1.g.cel;unfold seC evC;refine mV_ E (lQ_ (A0x E) (lQ_ (A0n E) (lQ_ (B9U E) ?_)));refine A2 E (C3 (cs:=[U7,U7,U7,U7,vS,.bool false,vS,vS,vS,D3,.bool false,D3,vS,D3,D3,vS]) kR E λb19=>?_);refine A2 E (A5 (vs:=(Zc vi vw p_ r u no_ nt nrr nk nl nst (olZ (rcA m).1 (rcB m).1 s))) E E E kR qR (A7 hn1.id.one (A7 hn1.wi.one (A7 hn1.he.ia.one (A7 hn1.he.ig.one (A7 hn1.he.key.one (A7 E (A7 E (A7 E (A7 E (A7 hn1.r.own.one (A7 hn1.r.their.one (A7 hn1.r.root.one (A7 hn1.r.sk.one (A7 E (A7 hn1.r.tk.one (A7 E (A7 E (A7 hn1.r.st.one K5)))))))))))))))))) Cv ?_);refine A2 E (A5 (vs:=(Zd vid p_ r u q2 q3 (olE (rcA m).1 (rcB m).1 s))) E E E kR qR (A7 E (A7 E (A7 E (A7 E (A7 he1.ses.one (A7 E (A7 he1.he.ia.one (A7 he1.he.ig.one (A7 he1.he.key.one (A7 E (A7 E (A7 E (A7 he1.hk.one (A7 E (A7 E (A7 he1.g.one K5)))))))))))))))) Cv ?_)
      refine aS_ E (A0 (kq 2 (kq 7 (kq 9 (kq 10 (Q4 11 12 13 14 15 17 18 19 20))))) (A1 (mV_ E (mV_ E (lQ_ (F2 (n:=16) (vs:=(Zd vid p_ r u q2 q3 (olE (rcA m).1 (rcB m).1 s))) E kR Ce E (D4 [] (Zd vid p_ r u q2 q3 (olE (rcA m).1 (rcB m).1 s)) [])) ?_)))));refine A2 E (C8 (Mc:=M100) (R:=_) (aS E (aS E (aS E (a0)))) kR qP (Cl qS (B5H pb (olS (rcA m).1 (rcB m).1 s) kb (rcB m).1 ua ug uq uo um ss so sm (olE (rcA m).1 (rcB m).1 s) vid p_ r u q2 q3 sec own s2 M100 (J100++((b98,Obj.cells ([.int .u8 98,.int .u8 101,.int .u8 103,.int .u8 105,.int .u8 110]:List Value).toArray 5 (([.int .u8 98,.int .u8 101,.int .u8 103,.int .u8 105,.int .u8 110]:List Value).length,([.int .u8 98,.int .u8 101,.int .u8 103,.int .u8 105,.int .u8 110]:List Value).length+1))::(J88++(J78++(Ji++A))))) (hrb.mono qS) (C07 hB.2.2) hP100 qO (he1.mono qS) i3 k1 qO i6 qO k2 (hG.sub qS))) E ?_);rintro v108 M108 J108 ⟨yi,yw,zo,zt,zr,zk,zl,zq,rfl,hP108,hy1⟩;haveI:=hy1.id.cel;haveI:=hy1.wi.cel;haveI:=hy1.he.ia.cel;haveI:=hy1.he.ig.cel;haveI:=hy1.he.key.cel;haveI:=hy1.r.own.cel;haveI:=hy1.r.their.cel;haveI:=hy1.r.root.cel;haveI:=hy1.r.sk.cel;haveI:=hy1.r.tk.cel;haveI:=hy1.r.st.cel;unfold seC;refine mV_ E (lQ_ (A0x E) (lQ_ (A0n E) ?_));refine A2 E (C3 (cs:=[vS,vS,vS,vS,vS,D3,.bool false,D3,.bool false,vS,vS,vS,vS,D3,vS,D3,D3,.pointer none]) kR E λb21=>?_);refine A2 E (A5 (vs:=(Zc yi yw vS vS vS zo zt zr zk zl zq (aX (rcB m).1 (olE (rcA m).1 (rcB m).1 s) s2 sec own))) E E E kR qR (A7 hy1.id.one (A7 hy1.wi.one (A7 hy1.he.ia.one (A7 hy1.he.ig.one (A7 hy1.he.key.one (A7 E (A7 E (A7 E (A7 E (A7 hy1.r.own.one (A7 hy1.r.their.one (A7 hy1.r.root.one (A7 hy1.r.sk.one (A7 E (A7 hy1.r.tk.one (A7 E (A7 E (A7 hy1.r.st.one K5)))))))))))))))))) Cv ?_)
      refine aS_ E (A0 (kq 2 (kq 7 (kq 9 (kq 10 (kq 11 (kq 12 (Q4 13 14 15 17 18 19 20 21 22))))))) (A1 (mV_ E (lQ_ (F2 (n:=18) (vs:=(Zc yi yw vS vS vS zo zt zr zk zl zq (aX (rcB m).1 (olE (rcA m).1 (rcB m).1 s) s2 sec own))) E kR Ce E (D4 [] (Zc yi yw vS vS vS zo zt zr zk zl zq (aX (rcB m).1 (olE (rcA m).1 (rcB m).1 s) s2 sec own)) [])) (lQ_ (F2 (n:=16) (vs:=(Zd vid p_ r u q2 q3 (olE (rcA m).1 (rcB m).1 s))) E kR Ce E (D4 [] (Zd vid p_ r u q2 q3 (olE (rcA m).1 (rcB m).1 s)) [])) ?_)))));refine A2 E (C8 (Mc:=M108) (R:=_) (aS E (aS E (aS E (a0)))) kR qP (Cl qS (B5F pb (aC (rcB m).1 (olE (rcA m).1 (rcB m).1 s) s2) (aX (rcB m).1 (olE (rcA m).1 (rcB m).1 s) s2 sec own) yi yw (vS) (vS) (vS) zo zt zr zk zl zq (olE (rcA m).1 (rcB m).1 s) vid p_ r u q2 q3 s' rz B1E M108 (J108++(J100++((b98,Obj.cells ([.int .u8 98,.int .u8 101,.int .u8 103,.int .u8 105,.int .u8 110]:List Value).toArray 5 (([.int .u8 98,.int .u8 101,.int .u8 103,.int .u8 105,.int .u8 110]:List Value).length,([.int .u8 98,.int .u8 101,.int .u8 103,.int .u8 105,.int .u8 110]:List Value).length+1))::(J88++(J78++(Ji++A)))))) hP108 qO qO (hy1.mono qS) (he1.mono qS) k2 l3 i7 l4 l5 o5 o6 (hG.sub qS))) E ?_);rintro v115 M115 J115 ⟨yo,yt,yr,yk,yl,yq,qt,rfl,hP115,hz1,ht1⟩;haveI:=hz1.id.cel;haveI:=hz1.wi.cel;haveI:=hz1.he.ia.cel;haveI:=hz1.he.ig.cel;haveI:=hz1.he.key.cel;haveI:=hz1.r.own.cel;haveI:=hz1.r.their.cel;haveI:=hz1.r.root.cel;haveI:=hz1.r.sk.cel;haveI:=hz1.r.tk.cel;haveI:=hz1.r.st.cel;haveI:=ht1.cel;unfold seC;refine mV_ E (lQ_ (A0x E) (lQ_ (A0n E) (lQ_ (B9U E) ?_)))
      refine A2 E (A5 (vs:=(Zc yi yw vS vS vS yo yt yr yk yl yq (Q7 (aX (rcB m).1 (olE (rcA m).1 (rcB m).1 s) s2 sec own) rz))) E E E kR qR (A7 hz1.id.one (A7 hz1.wi.one (A7 hz1.he.ia.one (A7 hz1.he.ig.one (A7 hz1.he.key.one (A7 E (A7 E (A7 E (A7 E (A7 hz1.r.own.one (A7 hz1.r.their.one (A7 hz1.r.root.one (A7 hz1.r.sk.one (A7 E (A7 hz1.r.tk.one (A7 E (A7 E (A7 hz1.r.st.one K5)))))))))))))))))) Cv ?_);refine aS_ E (aS_ E (A0 (kq 2 (kq 7 (kq 9 (kq 10 (kq 11 (kq 12 (kq 13 (Q4 14 15 17 18 20 21 22 23 24)))))))) (A3 (A1 (mV_ E (lQ_ (F6 false E E (neF E)) (mv_ ?_)))))));refine G1 E E (Cp qm_ E ?_);refine G1 E E (Cp (F6 false E E (neF E)) E ?_);refine lQ_ (E8 E E) (mv_ ?_);refine G1 E E (Cp qm_ E ?_);refine G1 E E (Cp (F6 false E E (neF E)) E ?_);refine lQ_ (E8 E E) (mv_ ?_);refine G1 E E (Cp qm_ E ?_);refine G1 E E (Cp (F6 false E E (neF E)) E ?_);refine lQ_ (E8 E E) (mv_ ?_);refine G1 E E (Cp qm_ E ?_);refine G1 E E (Cp (P2 E kR (ht1.rd.mono qS)) E ?_);refine G1 E E (Cp ((show (!decide (B1E=B1E))=false by simp)▸A8H E E E E qD qD) E ?_);refine lQ_ (E8 E E) (A0 (kq 2 (kq 7 (kq 9 (Q4 10 11 12 13 14 15 17 21 137)))) ?_);refine C7 E ?_;refine A4 (nx (kq 2 (kq 7 (Q4 9 10 11 12 13 14 15 17 21))) (A1 (mV_ E (lQ_ (F2 (n:=18) (vs:=(Zc vi vw p_ r u no_ nt nrr nk nl nst (olZ (rcA m).1 (rcB m).1 s))) E kR Ce E (D4 [] (Zc vi vw p_ r u no_ nt nrr nk nl nst (olZ (rcA m).1 (rcB m).1 s)) [])) ?_))));refine A2 E (C8 (Mc:=Qi) (R:=_) (aS E (aS E a0)) kR qP (qPut b70 vi vw p_ r u no_ nt nrr nk nl nst (olZ (rcA m).1 (rcB m).1 s) (quK L) (J115++(J108++(J100++((b98,Obj.cells ([.int .u8 98,.int .u8 101,.int .u8 103,.int .u8 105,.int .u8 110]:List Value).toArray 5 (([.int .u8 98,.int .u8 101,.int .u8 103,.int .u8 105,.int .u8 110]:List Value).length,([.int .u8 98,.int .u8 101,.int .u8 103,.int .u8 105,.int .u8 110]:List Value).length+1))::(J88++(J78++(Ji++A))))))) Qi _ (hI.q.mono qS) qS (by unfold quK;rw [Bj];omega) (hn1.mono qS)) E ?_);rintro v140 M140 J140 ⟨rfl,hQ140⟩;rw [C4x (C4z hNm),<- B8q L (olZ (rcA m).1 (rcB m).1 s) (Q7 (aX (rcB m).1 (olE (rcA m).1 (rcB m).1 s) s2 sec own) rz)] at hQ140
      refine A0 (kq 2 (Q4 7 9 10 11 12 13 14 15 21)) (C1 (mV_ E (lQ_ (F2 (n:=18) (vs:=(Zc yi yw vS vS vS yo yt yr yk yl yq (Q7 (aX (rcB m).1 (olE (rcA m).1 (rcB m).1 s) s2 sec own) rz))) E kR Ce E (D4 [] (Zc yi yw vS vS vS yo yt yr yk yl yq (Q7 (aX (rcB m).1 (olE (rcA m).1 (rcB m).1 s) s2 sec own) rz)) [])) ?_)));refine A2 E (C4 (e:=49) (sz:=18) (z:=[vS,vS,vS,vS,vS,D3,.bool false,D3,.bool false,vS,vS,vS,vS,D3,vS,D3,D3,.pointer none]) kR (eS E e0) (bdS 0 18 E qR bd0) E λb143=>?_);refine A2 E (G6 (e:=49) (sz:=18) (by_:=296) E E kR E hsl (Cr (n:=1) Ce qR) (A7 hz1.id.one (A7 hz1.wi.one (A7 hz1.he.ia.one (A7 hz1.he.ig.one (A7 hz1.he.key.one (A7 E (A7 E (A7 E (A7 E (A7 hz1.r.own.one (A7 hz1.r.their.one (A7 hz1.r.root.one (A7 hz1.r.sk.one (A7 E (A7 hz1.r.tk.one (A7 E (A7 E (A7 hz1.r.st.one K5)))))))))))))))))) qP (by unfold maxLen;omega) qO E λv144 B144 hs144=>?_);haveI:=hs144.cel;refine as_ (C5 (nb (nx (Q4 2 7 9 10 11 12 13 14 15) (C1 (mv_ ?_)))));refine lQ_ (D2 ((i+1:Nat):Int) E E (F5 qO qO qO)) ?_;refine as_ (C5 ?_);refine rn (i+1,s',L++[((olZ (rcA m).1 (rcB m).1 s),(Q7 (aX (rcB m).1 (olE (rcA m).1 (rcB m).1 s) s2 sec own) rz))],v144,M115,M140,B144,_) ⟨by dsimp only;omega,by dsimp only;rw [An,hL];rfl,by rw [show 7-(i+1)=6-i by omega];exact hO2,λ_=>⟨hNm,hGq⟩,⟨qS _ hI.w,hI.ka.mono qS,hI.kb.mono qS,hP115,hQ140.mono qS,rows++[(Zc yi yw vS vS vS yo yt yr yk yl yq (Q7 (aX (rcB m).1 (olE (rcA m).1 (rcB m).1 s) s2 sec own) rz))],?_,?_⟩⟩ (by dsimp only;omega) (Q4 2 7 9 10 11 12 13 14 15) (Cj qP (Cj qP (Ch qP))) qI
      . exact Sl.castQ hs144 (by rw [An];rfl) qM
      . rw [List.map_append];exact (hrw.mono quT qS).snoc ⟨yi,yw,vS,vS,vS,yo,yt,yr,yk,yl,yq,E,hz1.mono qS⟩
    .
      obtain rfl:k=i:=by simp [H8] at hc;omega
      obtain ⟨hNm,hGq⟩:=hNG hk0;have hQk:=QOk.of hNm;refine D6 (te (re (be E (nx (G9 2 7 9 12 13 14) (A3 (A1 (aS_ E (A0 (N1 2 7 9 12 13 14 25) (A6 ?_)))))))));refine E0 (α:=Nat×Ps×List (Ses×Ses)×List Ses×Value×Mem×Mem×Mem×Mem) (λy=>[(2,v),(7,(vP pb)),(9,(vP b9)),(12,(vI k)),(13,(vP b70)),(14,y.2.2.2.2.1),(25,(vI y.1))]) (λy=>y.2.2.2.2.2.1++(y.2.2.2.2.2.2.1++y.2.2.2.2.2.2.2.1)) (λy=>y.2.2.2.2.2.2.2.2) (λy=>y.1<=ids.length∧y.2.2.1.length=k∧Nam y.2.2.1∧GoQ (12-y.1) y.2.1 y.2.2.1∧QOk y.2.2.1 y.2.2.2.1∧OI (y.2.2.2.2.2.2.2.2++A) pb ka kb b70 b9 (rcA m).1 (rcB m).1 y.2.1 y.2.2.1 y.2.2.2.1 y.2.2.2.2.1 y.2.2.2.2.2.1 y.2.2.2.2.2.2.1 y.2.2.2.2.2.2.2.1) (λy=>ids.length-y.1) (0,s,L,quK L,vt,Mi,Qi,Bi,Ji) ⟨Am _,hL,hNm,hGq,hQk,hI⟩ (N1 2 7 9 12 13 14 25) .rfl qI ?_;clear hI hrw hsl hNm hGq hQk hNG hL hO;rintro ⟨i,s,L,Q,vt,Mi,Qi,Bi,Ji⟩ ⟨hi,hL,hNm,hGq,hQ,hI⟩;dsimp only at hi hL hNm hGq hQ hI ⊢;obtain ⟨rows,hsl,hrw⟩:=hI.t;haveI:=hsl.cel;refine A3 (A1 (mv_ (mv_ ?_)));refine lQ_ (F8 (sz:=1) E kR hx.rd) ?_;refine lQ_ (E3 E E E) (A0 (V4 2 7 9 12 13 14 25 148) ?_);refine C2 E ?_ ?_<;>intro hc
      .
        have hlt:i<ids.length:=by simp [H8] at hc;omega
        have hpv0:ids.getD i 0<256:=A1j hx.lt i;refine A4 (nx (N1 2 7 9 12 13 14 25) (A3 (A6 (A1 (mv_ (mv_ ?_))))));refine lQ_ (G4 (sz:=1) (a:=i) E E kR E hx.rd hlt) ?_;refine lQ_ (Z9 (k:=.u8) E kR (hx.rd.mono qS) hlt) ?_;refine lQ_ (A0R (k':=.i64) ((ids.getD i 0:Nat):Int) E kR (wrap_i64 qO qO)) ?_;refine mv_ ?_;refine lQ_ (V5 (a:=ids.getD i 0) (b:=k) E E E E qO) ?_;refine as_ (A0 (V4 2 7 9 12 13 14 25 26) ?_)
        obtain ⟨j,hj⟩:∃z,ids.getD i 0%k=z:=⟨_,E⟩
        rw [hj];have hjk:j<k:=by rw [<- hj];exact Ad _ hk0
        obtain ⟨pv,hpe⟩:∃z,ids.getD i 0=z:=⟨_,E⟩
        have hpv:pv<256:=by rw [<- hpe];exact hpv0
        have plt:∀x∈[pv],x<256:=λx hx=>by rw [List.mem_singleton.1 hx];exact hpv
        have hjl:j<L.length:=by omega
        obtain ⟨⟨x1,t1⟩,hjx⟩:∃y,L[j]? = some y:=⟨_,Ab hjl⟩
        rw [show 12-i=11-i+1 by omega] at hGq;obtain ⟨⟨m1,m2,m3,m4,m5⟩,hY,hNo⟩:=hGq j x1 t1 pv hjx hpv;obtain ⟨hid,htl,hhe⟩:=hNm.a _ (As hjx);dsimp only at hid htl hhe;have hE:eG true s t1 [pv]=(evS s t1 he0 1 1 0 1 [pv]):=by unfold eG;rw [hhe];rfl
        have hW:wG true t1=wiW t1 he0 1 1 0 1:=by unfold wG;rw [hhe];rfl
        have hS:sG true s t1 [pv]=(W5 s t1.r (wiW t1 he0 1 1 0 1) [pv]):=by unfold sG;rw [hW]
        rw [hE,hS] at hY;rw [hS] at hNo;rw [hW] at m5;rw [hhe] at m4;obtain ⟨rj,hrj,ci,cw,cp,cr,cu,co,ct,cx,ck,cl,cs_,rfl,ht1⟩:=hrw.get j t1 (by rw [List.getElem?_map,hjx];rfl);haveI:=ht1.id.cel;haveI:=ht1.wi.cel;haveI:=ht1.he.ia.cel;haveI:=ht1.he.ig.cel;haveI:=ht1.he.key.cel;haveI:=ht1.r.own.cel;haveI:=ht1.r.their.cel;haveI:=ht1.r.root.cel;haveI:=ht1.r.sk.cel;haveI:=ht1.r.tk.cel;haveI:=ht1.r.st.cel;unfold seC at hrj;refine F9 (Mi) (_) true [0,1,2,3,4,5,6,7,8,9,10,11,12,13,14,15,16,17,18,19,20,23] [(0,0),(1,0),(2,0),(3,0),(4,1),(5,0),(6,1),(7,0),(8,1),(9,0),(10,0),(11,0),(12,1),(13,8),(14,8),(15,8),(16,8),(19,8),(20,8),(17,9),(18,10),(21,2),(22,2),(23,0)] kR kR qP λhs K n0 hKm hKs hKn=>?_;refine kM_ E E (kM_ E E (km_ ?_));refine kQ_ E (G4 (sz:=18) (a:=j) E E kR E (hsl.rd (R:=Bi) λ_ h=>h) hjl) ?_;refine I8 hs E hKs (A0y E kR (hsl.rd qS) (hrw.lens quT) qD hrj) ?_;refine kQ_ E (F1 (e:=28) (n:=2) (sz:=2) (i:=1) 2 E E kR kR E qD E) ?_;refine I8 hs E hKs (F2 (n:=2) (vs:=[.int .i64 1,.int .i64 1]) E kR (qS _ hI.w) E (D4 [.int .i64 0,.int .i64 1] [.int .i64 1,.int .i64 1] [])) ?_;refine kQ_ E (F1 (e:=28) (n:=2) (sz:=2) (i:=0) 0 E E kR kR E qD E) ?_;refine I8 hs E hKs (F2 (n:=2) (vs:=[.int .i64 0,.int .i64 1]) E kR (qS _ hI.w) E (D4 [] [.int .i64 0,.int .i64 1] [.int .i64 1,.int .i64 1])) ?_;refine kM_ E E (km_ ?_);refine kQ_ E (G4 (sz:=1) (a:=i) E E kR E hx.rd hlt) ?_;refine I8 hs E hKs (Z9 (k:=.u8) E kR (hx.rd.mono qS) hlt) ?_;rw [hpe]
        refine A04 [⟨13,172,none,[],λv B R=>B=[]∧By R v [pv]⟩,⟨14,173,none,Mi,λv B R=>∃q1 q2,v=.tuple #[q1,q2,.int .i64 0]∧Prm pb (W5 s t1.r (wiW t1 he0 1 1 0 1) [pv]) B∧C4B R q1 (W9 t1 (K3 s t1.r))∧EvV R q2 (evS s t1 he0 1 1 0 1 [pv])⟩,⟨15,158,none,[],λv B R=>B=[]∧∃q1 q2,v=.tuple #[q1,q2,.int .i64 0]∧C4B R q1 (W9 t1 (K3 s t1.r))∧EvV R q2 (evS s t1 he0 1 1 0 1 [pv])⟩,⟨16,174,none,[],λv B R=>B=[]∧C4B R v (W9 t1 (K3 s t1.r))⟩,⟨19,27,none,[],λv B _=>∃b,v=(vP b)∧B=[(b,blk Ze 49)]⟩,⟨20,28,none,[],λv B _=>∃b,v=(vP b)∧B=[(b,blk Zf 57)]⟩] [⟨17,175,none,[],λv B R=>B=[]∧EvV R v (evS s t1 he0 1 1 0 1 [pv])⟩,⟨18,176,none,[],λv B R=>B=[]∧v=.int .i64 0⟩] ((Qi++Bi)) (λbs=>[bs 13,bs 14,bs 15,bs 16,bs 19,bs 20,bs 17,bs 18]) (hKn E) (by simp [X6,A1e]) (show ∀m∈([[],Mi,[],[],[],[],[],[]]:List Mem),∀x∈m,K x.1 from A7 gn0 (A7 (hKm) (A7 gn0 (A7 gn0 (A7 gn0 (A7 gn0 (A7 gn0 (A7 gn0 (K5))))))))) kR (λ_=>by first|rfl|kernel_rfl)
          (A7 (λ_ _ _ _ h hp=>⟨hp.1,hp.2.mono h⟩) (A7 (λ_ _ _ _ h ⟨q1,q2,e,p1,p2,p3⟩=>⟨q1,q2,e,p1,p2.mono h,p3.mono h⟩) (A7 (λ_ _ _ _ h ⟨e0,q1,q2,e,p2,p3⟩=>⟨e0,q1,q2,e,p2.mono h,p3.mono h⟩) (A7 (λ_ _ _ _ h hp=>⟨hp.1,hp.2.mono h⟩) (A7 gM (A7 gM (A7 (λ_ _ _ _ h hp=>⟨hp.1,hp.2.mono h⟩) (A7 gM (K5))))))))) nd_ nd_ dl_
          hs (List.cons_ne_nil _ _) (gC ?_ (gC ?_ (gC ?_ (gC ?_ (gC ?_ (gC ?_ (K5))))))) (A7 ⟨E,E,_,_,_,_,E,λvs bs Rj hj ha=>?_⟩ (A7 ⟨E,E,_,_,_,_,E,λvs bs Rj hj ha=>?_⟩ (K5))) ?_
        .
          intros
          dsimp only [Gc.inp];refine OpL.frzAll ?_
          refine C4 (e:=5) (sz:=1) (z:=[.int .u8 0]) kR (eS E e0) (bdS 0 1 E qR bd0) E λb J2 hJ=>⟨_,E,E,⟨Cr (n:=1) (show (b,blk (nums .u8 [pv]) 5)∈_ from Ae _ (hJ _ qK)) qR,plt,(show 1<=16777216 by decide)⟩⟩
        . intro _ _ R Rj _ _ hj hjr ha;dsimp only [Gc.inp];have g13:=gx 0 ha;dsimp only at g13;obtain ⟨-,h13⟩:=g13;haveI:=h13.cel;refine C8 (Mc:=Mi) (R:=[]) (aS E (aS E (aS E (aS E (aS E (a0)))))) kR qM (Cl (A:=Rj) (λx hx=>by have:=hjr x hx;simp [this]) (C1Q pb s t1 ci cw cp cr cu co ct cx ck cl cs_ _ 1 1 0 1 [pv] Mi Rj hI.p qO (ht1.mono (λx hx=>hj x (qS x hx))) htl m2 m3 m4 m5 h13 (by show 1<=1000000;decide) (hG.sub (λx hx=>hj x (qS x hx))))) E ?_;rintro v125 M125 J125 ⟨wo,wt,wr,wk,wl,wq,vid,q2,q3,rfl,hP25,p2,p3⟩;exact ⟨_,E,_,_,E,(by have h:=(show Prm pb (W5 s t1.r (wiW t1 he0 1 1 0 1) [pv]) M125 from hP25);simpa using h),⟨_,_,_,_,_,_,_,_,_,_,_,E,p2.mono (λx hx=>by simpa using hx)⟩,⟨_,_,_,_,_,_,E,p3.mono (λx hx=>by simpa using hx)⟩⟩
        . intro _ _ _ _ _ _ _ _ ha;dsimp only [Gc.inp];have g14:=gx 1 ha;dsimp only at g14;obtain ⟨q1,q2,e_,-,k⟩:=g14;exact Cp qm_ E ⟨_,E,E,q1,q2,e_,k⟩
        . intro vs bs _ _ _ _ _ _ ha;dsimp only [Gc.inp];have g15:=gx 2 ha;dsimp only at g15;obtain ⟨-,q1,q2,e_,k,-⟩:=g15;exact Cp (I3 (vs:=#[q1,q2,.int .i64 0]) (by rw [<- e_];rfl) E) E ⟨_,E,E,k⟩
        .
          intros
          dsimp only [Gc.inp]
          exact C3 (cs:=[vS,vS,vS,vS,vS,D3,.bool false,D3,.bool false,vS,vS,vS,vS,D3,vS,D3,D3,.pointer none]) kR E λb=>⟨_,E,b,E,E⟩
        .
          intros
          dsimp only [Gc.inp]
          exact C3 (cs:=[U7,U7,U7,U7,vS,.bool false,vS,vS,vS,D3,.bool false,D3,vS,D3,D3,vS]) kR E λb=>⟨_,E,b,E,E⟩
        . have g15:=gx 2 ha;dsimp only at g15;obtain ⟨-,q1,q2,e_,-,k⟩:=g15;exact ⟨_,I3 (vs:=#[q1,q2,.int .i64 0]) (by rw [<- e_];rfl) E,E,k⟩
        . have g15:=gx 2 ha;dsimp only at g15;obtain ⟨-,q1,q2,e_,-⟩:=g15;exact ⟨_,I3 (vs:=#[q1,q2,.int .i64 0]) (by rw [<- e_];rfl) E,E,E⟩
        intro vs bs Jn0 hφ hKK;clear hKK;have g13:=gy 0 hφ;have g14:=gy 1 hφ;have g15:=gy 2 hφ;have g16:=gy 3 hφ;have g19:=gy 4 hφ;have g20:=gy 5 hφ;have g17:=gy 6 hφ;have g18:=gy 7 hφ;dsimp only at g13 g14 g15 g16 g19 g20 g17 g18;clear hφ;dsimp only [Q9,X6,List.foldr,List.map,Cy,Cw];generalize bs 13=B172,bs 14=B173,bs 15=B158,bs 16=B174,bs 19=B27,bs 20=B28,bs 17=B175,bs 18=B176,vs 13=u172,vs 14=u173,vs 15=u158,vs 16=u174,vs 19=u27,vs 20=u28,vs 17=u175,vs 18=u176 at *;obtain ⟨-,-,-,hP27,-⟩:=g14;clear g15;obtain ⟨rfl,h13⟩:=g13;obtain ⟨rfl,ni,nw,np,nr,nu,no_,nt,nrr,nk,nl,nst,rfl,hn1⟩:=g16;obtain ⟨rfl,es,ep,er,eu,ek,eg,rfl,he1⟩:=g17;obtain ⟨rfl,rfl⟩:=g18;obtain ⟨b27,rfl,rfl⟩:=g19;obtain ⟨b28,rfl,rfl⟩:=g20;haveI:=hn1.id.cel;haveI:=hn1.wi.cel;haveI:=hn1.he.ia.cel;haveI:=hn1.he.ig.cel;haveI:=hn1.he.key.cel;haveI:=hn1.r.own.cel;haveI:=hn1.r.their.cel;haveI:=hn1.r.root.cel;haveI:=hn1.r.sk.cel;haveI:=hn1.r.tk.cel;haveI:=hn1.r.st.cel;haveI:=he1.ses.cel;haveI:=he1.he.ia.cel;haveI:=he1.he.ig.cel;haveI:=he1.he.key.cel;haveI:=he1.hk.cel;haveI:=he1.g.cel;unfold seC evC;refine K6 E E E (A5 (vs:=(Zc ni nw np nr nu no_ nt nrr nk nl nst (W9 t1 (K3 s t1.r)))) E E E kR qR (A7 hn1.id.one (A7 hn1.wi.one (A7 hn1.he.ia.one (A7 hn1.he.ig.one (A7 hn1.he.key.one (A7 E (A7 E (A7 E (A7 E (A7 hn1.r.own.one (A7 hn1.r.their.one (A7 hn1.r.root.one (A7 hn1.r.sk.one (A7 E (A7 hn1.r.tk.one (A7 E (A7 E (A7 hn1.r.st.one K5)))))))))))))))))) Cv ?_);refine K6 E E E (A5 (vs:=[.int .i64 1,.int .i64 1,.int .i64 0,.int .i64 1,es,.bool t1.tell,ep,er,eu,(vU he0.signed),.bool he0.has,(vU he0.once),ek,(vU t1.r.prev),(vU t1.r.sn),eg]) E E E kR qR (A7 E (A7 E (A7 E (A7 E (A7 he1.ses.one (A7 E (A7 he1.he.ia.one (A7 he1.he.ig.one (A7 he1.he.key.one (A7 E (A7 E (A7 E (A7 he1.hk.one (A7 E (A7 E (A7 he1.g.one K5)))))))))))))))) Cv ?_);refine kQ_ E (G2 E) (I0 (kq 2 (kq 7 (Q4 9 12 13 14 25 26 27 28 29))) (A3 (A1 (mV_ E (lQ_ (F6 false E E (neF E)) (A0 (kq 2 (kq 7 (Q4 9 12 13 14 25 26 27 28 178))) ?_))))));refine C7 E ?_;refine A4 (nx (kq 2 (Q4 7 9 12 13 14 25 26 27 28)) (A1 (mV_ E (mV_ E (lQ_ (F2 (n:=18) (vs:=(Zc ni nw np nr nu no_ nt nrr nk nl nst (W9 t1 (K3 s t1.r)))) E kR Ce E (D4 [] (Zc ni nw np nr nu no_ nt nrr nk nl nst (W9 t1 (K3 s t1.r))) [])) ?_)))));refine lQ_ (G4 (sz:=18) (a:=j) E E kR E (hsl.rd (R:=Bi) λ_ h=>h) hjl) ?_
        refine A2 E (B0b (r:=(Zc ni nw np nr nu no_ nt nrr nk nl nst (W9 t1 (K3 s t1.r)))) E E hsl E (A7 hn1.id.one (A7 hn1.wi.one (A7 hn1.he.ia.one (A7 hn1.he.ig.one (A7 hn1.he.key.one (A7 E (A7 E (A7 E (A7 E (A7 hn1.r.own.one (A7 hn1.r.their.one (A7 hn1.r.root.one (A7 hn1.r.sk.one (A7 E (A7 hn1.r.tk.one (A7 E (A7 E (A7 hn1.r.st.one K5)))))))))))))))))) kR hjl qP λB31 hs31=>?_);rw [B0a (hrw.lens quT) E (by rw [hrw.len,List.length_map];exact hjl)] at hs31;refine A0 (Q4 2 7 9 12 13 14 25 26 28) ?_;obtain ⟨vq,rowsq,Bq,rfl,hsq,hrq⟩:=hI.q.ex;haveI:=hsq.cel;have hQl:=hQ.len
        have hfy:decide (L.length<=j+4)=true->x1.id=t1.id∧∃q:Nat,P0 (A5h t1.id) Q=(q:Int)∧Q[q]? = some x1:=λhb=>by obtain ⟨q,hq⟩:=List.getElem?_of_mem (hQ.up j x1 t1 hjx (of_decide_eq_true hb));exact ⟨hid,q,by rw [<- hid];exact B5S hQ.nd hq,hq⟩
        have hfn:decide (L.length<=j+4)=false->P0 (A5h t1.id) Q = -1:=λhb=>B0y Q λy hy=>by rw [<- hid];exact C6f hNm hQ hjx (by have:=of_decide_eq_false hb;omega) y hy
        refine A1 (mV_ E (lQ_ (qf_ 4 4) ?_));refine lQ_ ql_ ?_;refine C6 (aS E (aS E a0)) kR (C2d b70 vq rowsq Q es t1.id x1 (decide (L.length<=j+4)) (Ji++A) _ qM (hsq.rd qS) hrq qS qO (he1.ses.mono qS) hfy hfn) E ?_;rintro v187 M187 J187 ⟨rfl,rfl,rr,rfl,hrl,hr1,hrx⟩;refine mV_ E (lQ_ (A0x E) (lQ_ (A0n E) ?_));refine A2 E (C3 (cs:=[vS,vS,vS,vS,vS,D3,.bool false,D3,.bool false,vS,vS,vS,vS,D3,vS,D3,D3,.pointer none]) kR E λb30=>?_);refine A2 E (A5 (vs:=rr) E E E (by rw [hrl];kernel_rfl) (by rw [hrl];rfl) hr1 Cv ?_);refine aS_ E (A0 (kq 2 (kq 7 (Q4 9 12 13 14 25 26 28 30 31))) (A3 (A1 (mv_ (mv_ (mv_ ?_))))));refine lQ_ (D2 ((k-j:Nat):Int) E E (V6 qO qO qO)) ?_;refine lQ_ (F6 (decide (L.length<=j+4)) E E (leD qO)) ?_;refine lQ_ (B1G false (a:=decide (L.length<=j+4)) (b:=decide (L.length<=j+4)) E E kR qM) ?_;refine A0 (kq 2 (kq 7 (Q4 9 12 13 14 25 28 30 31 195))) ?_;refine C7 E ?_;refine A4 (nx (kq 2 (Q4 7 9 12 13 14 25 28 30 31)) (A3 (A1 (mV_ E (lQ_ (V7 E) (A0 (kq 2 (Q4 7 9 12 13 14 25 28 30 197)) ?_))))));refine C2 E ?_ ?_<;>intro hc
        .
          have h4:¬L.length<=j+4:=by simpa using hc
          refine D6 (te (be E (nx (N1 2 7 9 12 13 14 25) (C1 (mv_ ?_)))));refine lQ_ (D2 ((i+1:Nat):Int) E E (F5 qO qO qO)) ?_;refine as_ (C5 ?_);refine rn (i+1,(W5 s t1.r (wiW t1 he0 1 1 0 1) [pv]),L.set j (x1,(W9 t1 (K3 s t1.r))),Q,vt,B173,(b70,blk [vq] 35)::Bq,B31,_) ⟨by dsimp only;omega,by dsimp only;rw [Bk];exact hL,hNm.set hjx E E E E,by rw [show 12-(i+1)=11-i by omega];exact hNo qO,C2c hQ hjx qO,⟨qS _ hI.w,hI.ka.mono qS,hI.kb.mono qS,hP27,hI.q.mono qS,rows.set j (Zc ni nw np nr nu no_ nt nrr nk nl nst (W9 t1 (K3 s t1.r))),?_,?_⟩⟩ (by dsimp only;omega) (N1 2 7 9 12 13 14 25) (Cj qP (Cj qP (Ch qP))) qI
          . exact Sl.castQ hs31 (by rw [Bk]) rfl
          . rw [List.map_set];exact (hrw.mono quT qS).set ⟨ni,nw,np,nr,nu,no_,nt,nrr,nk,nl,nst,E,hn1.mono qS⟩
        .
          have h4:L.length<=j+4:=by simpa using hc
          obtain ⟨vi,vw,p0,r0,u0,vo,vt_,vr,vk0,vl,vst,rfl,hsx⟩:=hrx (decide_eq_true h4);haveI:=hsx.id.cel;haveI:=hsx.wi.cel;haveI:=hsx.he.ia.cel;haveI:=hsx.he.ig.cel;haveI:=hsx.he.key.cel;haveI:=hsx.r.own.cel;haveI:=hsx.r.their.cel;haveI:=hsx.r.root.cel;haveI:=hsx.r.sk.cel;haveI:=hsx.r.tk.cel;haveI:=hsx.r.st.cel;unfold seC;obtain ⟨z,rz,⟨⟨a1,a2,a3,a4,a5,a6,a7,a8⟩,hOp,hoz⟩,hGz⟩:=hY h4;obtain ⟨-,q,-,hq⟩:=hfy (decide_eq_true h4);have hfl:=B1x hQ.nd hq;refine A4 (nx (Q4 2 7 9 12 13 14 25 28 30) (A1 (mV_ E (lQ_ (F2 (n:=18) (vs:=(Zc vi vw p0 r0 u0 vo vt_ vr vk0 vl vst x1)) E kR Ce E (D4 [] (Zc vi vw p0 r0 u0 vo vt_ vr vk0 vl vst x1) [])) (lQ_ (F2 (n:=16) (vs:=[.int .i64 1,.int .i64 1,.int .i64 0,.int .i64 1,es,.bool t1.tell,ep,er,eu,(vU he0.signed),.bool he0.has,(vU he0.once),ek,(vU t1.r.prev),(vU t1.r.sn),eg]) E kR Ce E (D4 [] [.int .i64 1,.int .i64 1,.int .i64 0,.int .i64 1,es,.bool t1.tell,ep,er,eu,(vU he0.signed),.bool he0.has,(vU he0.once),ek,(vU t1.r.prev),(vU t1.r.sn),eg] [])) ?_)))));refine A2 E (C8 (Mc:=B173) (R:=_) (aS E (aS E (aS E (a0)))) kR qP (Cl qS (B5F pb (W5 s t1.r (wiW t1 he0 1 1 0 1) [pv]) x1 vi vw p0 r0 u0 vo vt_ vr vk0 vl vst (evS s t1 he0 1 1 0 1 [pv]) es ep er eu ek eg z rz [pv] B173 (Jn0++(Ji++A)) hP27 qO qO (hsx.mono qS) (he1.mono qS) a3 a4 a5 a6 a7 hOp hoz (hG.sub qS))) E ?_);rintro v202 M202 J202 ⟨yo,yt,yr,yk,yl,yq,qt,rfl,hP202,hz1,hq1⟩;haveI:=hz1.id.cel;haveI:=hz1.wi.cel;haveI:=hz1.he.ia.cel;haveI:=hz1.he.ig.cel;haveI:=hz1.he.key.cel;haveI:=hz1.r.own.cel;haveI:=hz1.r.their.cel;haveI:=hz1.r.root.cel;haveI:=hz1.r.sk.cel;haveI:=hz1.r.tk.cel;haveI:=hz1.r.st.cel;haveI:=hq1.cel;unfold seC;refine mV_ E (lQ_ (A0x E) (lQ_ (A0n E) (lQ_ (B9U E) ?_)));refine A2 E (A5 (vs:=(Zc vi vw vS vS vS yo yt yr yk yl yq (Q7 x1 rz))) E E E kR qR (A7 hz1.id.one (A7 hz1.wi.one (A7 hz1.he.ia.one (A7 hz1.he.ig.one (A7 hz1.he.key.one (A7 E (A7 E (A7 E (A7 E (A7 hz1.r.own.one (A7 hz1.r.their.one (A7 hz1.r.root.one (A7 hz1.r.sk.one (A7 E (A7 hz1.r.tk.one (A7 E (A7 E (A7 hz1.r.st.one K5)))))))))))))))))) Cv ?_);refine aS_ E (aS_ E (A0 (kq 2 (kq 7 (Q4 9 12 13 14 25 28 30 32 33))) (A3 ?_)));refine C9 (.range 13) (zp 0 [0,0,0,0,1,0,0,0,1,2,1,0,0]) kR kR λhs=>?_;refine fM_ E E (fQ_ E (F6 false E E (neF E)) (fM_ E E (fG_ E qm_ (fH_ E (P2 E kR (hq1.rd.mono qS)) (fG_ E qm_ (fG_ E qm_ ?_))))));refine fG_ E (G4 (sz:=1) (a:=i) E E kR E hx.rd hlt) ?_;refine fH_ E (Z9 (k:=.u8) E kR (hx.rd.mono qS) hlt) ?_;rw [hpe]
          refine C2A E E E E λ_=>(C4 (e:=5) (sz:=1) (z:=[.int .u8 0]) kR (eS E e0) (bdS 0 1 E qR bd0) E λb215=>?_)
          refine fH_ E (P2 E kR (Cr (n:=1) (cs:=nums .u8 [pv]) Ce qR)) ?_;refine fG_ E ((show (!decide ([pv]=[pv]))=false by simp)▸A8H E E E E plt plt) ?_;refine fQ_ E (E8 E E) (E4 (kq 2 (Q4 7 9 12 13 14 25 28 30 218)) ?_);refine C7 E ?_;refine A4 (nx (Q4 2 7 9 12 13 14 25 28 30) (A1 (mV_ E (lQ_ (F2 (n:=18) (vs:=(Zc vi vw vS vS vS yo yt yr yk yl yq (Q7 x1 rz))) E kR Ce E (D4 [] (Zc vi vw vS vS vS yo yt yr yk yl yq (Q7 x1 rz)) [])) ?_))));refine A2 E (C8 (Mc:=(b70,blk [vq] 35)::Bq) (R:=_) (aS E (aS E a0)) kR qP (qPut b70 vi vw (vS) (vS) (vS) yo yt yr yk yl yq (Q7 x1 rz) Q (J202++(Jn0++(Ji++A))) ((b70,blk [vq] 35)::Bq) _ (hI.q.mono qS) qS qO (hz1.mono qS)) E ?_);rintro v221 M221 J221 ⟨rfl,hQ2⟩;rw [show (Q7 x1 rz).id=x1.id from rfl,C4y hQ.nd hq,Aw (l:=((Q7 x1 rz)::Q.filter λy=>y.id != x1.id)) (by rw [List.length_cons];omega)] at hQ2;obtain ⟨vq2,rowsq2,Bq2,rfl,hsq2,hrq2⟩:=hQ2.ex;haveI:=hsq2.cel;refine A0 (V4 2 7 9 12 13 14 25 28) (A1 (mv_ ?_));refine C6 (aS E a0) kR (C2b b70 vq2 rowsq2 ((Q7 x1 rz)::Q.filter λy=>y.id != x1.id) (Q7 x1 rz) (J221++(J202++(Jn0++(Ji++A)))) _ qM (hsq2.rd qS) hrq2 qS (by rw [List.length_cons];omega) E) E ?_;rintro v224 M224 J224 ⟨rfl,rfl,bi,bw,bp,br_,bu,bo,bt_,bx,bk,bl,bs_,rfl,hb1⟩;haveI:=hb1.id.cel;haveI:=hb1.wi.cel;haveI:=hb1.he.ia.cel;haveI:=hb1.he.ig.cel;haveI:=hb1.he.key.cel;haveI:=hb1.r.own.cel;haveI:=hb1.r.their.cel;haveI:=hb1.r.root.cel;haveI:=hb1.r.sk.cel;haveI:=hb1.r.tk.cel;haveI:=hb1.r.st.cel;refine mV_ E (lQ_ (A0x E) (lQ_ (A0n E) ?_));refine A2 E (C3 (cs:=[vS,vS,vS,vS,vS,D3,.bool false,D3,.bool false,vS,vS,vS,vS,D3,vS,D3,D3,.pointer none]) kR E λb34=>?_);refine A2 E (A5 (vs:=(Zc bi bw bp br_ bu bo bt_ bx bk bl bs_ (Q7 x1 rz))) E E E kR qR (A7 hb1.id.one (A7 hb1.wi.one (A7 hb1.he.ia.one (A7 hb1.he.ig.one (A7 hb1.he.key.one (A7 E (A7 E (A7 E (A7 E (A7 hb1.r.own.one (A7 hb1.r.their.one (A7 hb1.r.root.one (A7 hb1.r.sk.one (A7 E (A7 hb1.r.tk.one (A7 E (A7 E (A7 hb1.r.st.one K5)))))))))))))))))) Cv ?_);refine aS_ E (A0 (kq 2 (Q4 7 9 12 13 14 25 28 34 35)) (A1 (mV_ E (lQ_ (V7 E) (mv_ ?_)))));refine G1 E E (Cp (qf_ 0 0) E ?_);refine G1 E E (Cp ql_ E ?_);refine G1 E E (Cp (P2 E kR (hb1.id.rd.mono qS)) E ?_);refine G1 E E (Cp (qf_ 4 4) E ?_);refine G1 E E (Cp ql_ E ?_);refine G1 E E (Cp (P2 E kR (he1.ses.rd.mono qS)) E ?_);refine G1 E E (Cp ((show (!decide (x1.id=t1.id))=false by rw [hid];simp)▸A8H E E E E hb1.id.lt he1.ses.lt) E ?_);refine lQ_ (E8 E E) (A0 (V4 2 7 9 12 13 14 25 237) ?_);refine C7 E ?_;refine A4 (nb (nx (N1 2 7 9 12 13 14 25) (C1 (mv_ ?_))));refine lQ_ (D2 ((i+1:Nat):Int) E E (F5 qO qO qO)) ?_;refine as_ (C5 ?_)
          refine rn (i+1,z,L.set j ((Q7 x1 rz),(W9 t1 (K3 s t1.r))),((Q7 x1 rz)::Q.filter λy=>y.id != x1.id),vt,M202,(b70,blk [vq2] 35)::Bq2,B31,_) ⟨by dsimp only;omega,by dsimp only;rw [Bk];exact hL,hNm.set hjx E E E E,by rw [show 12-(i+1)=11-i by omega];exact hGz,C4A hNm hQ hjx h4 hq E,⟨qS _ hI.w,hI.ka.mono qS,hI.kb.mono qS,hP202,hQ2.mono qS,rows.set j (Zc ni nw np nr nu no_ nt nrr nk nl nst (W9 t1 (K3 s t1.r))),?_,?_⟩⟩ (by dsimp only;omega) (N1 2 7 9 12 13 14 25) (Cj qP (Cj qP (Ch qP))) qI
          . exact Sl.castQ hs31 (by rw [Bk]) rfl
          . rw [List.map_set];exact (hrw.mono quT qS).set ⟨ni,nw,np,nr,nu,no_,nt,nrr,nk,nl,nst,E,hn1.mono qS⟩
      .
        obtain rfl:i=ids.length:=by simp [H8] at hc;omega
        refine D6 (te (re (be E (nx (D0 12 13) ?_))));obtain ⟨vq,rowsq,Bq,rfl,hsq,hrq⟩:=hI.q.ex;haveI:=hsq.cel;have hQl:=hQ.len;refine A1 (mV_ E (aS_ E (A0 (D0 13 36) (A3 (A1 (mV_ E (lQ_ (E3 E E E) (A0 (D5 13 36 240) ?_))))))));refine C2 E ?_ ?_<;>intro hc
        .
          have h5:4<k:=by simp [H8] at hc;omega
          refine C1 (as_ (A0 (D0 13 36) (A1 (mv_ ?_))));refine D8 (aS E a0) kR (C6e b70 vq rowsq Q _ qM (hsq.rd qS)) E ?_;refine mv_ ?_;refine lQ_ (F6 true E E (eqT qO)) ?_;refine as_ (A0 (D1 6) (A9 ?_));exact ⟨_,[],[],H2 E E,Aa _,by simp,E,E,E⟩
        .
          have h5:k<=4:=by simp [H8] at hc;omega
          refine A4 (nx (D0 13 36) (A1 (mv_ ?_)));refine D8 (aS E a0) kR (C6e b70 vq rowsq Q _ qM (hsq.rd qS)) E ?_;refine mv_ ?_;refine lQ_ (F6 true E E (eqT qO)) ?_;refine as_ (A0 (D1 6) (A9 ?_));exact ⟨_,[],[],H2 E E,Aa _,by simp,E,E,E⟩

open Go.Px Go.ChangeShapes Go.WideShapes Go.ChangeAt Go.RowKit
section
variable{H:Type}{enc:TypeId×Value->H}{P:Program}{w:World}{spare:Nat->Bool}{held:Bool}{fuel:Nat}{t e:TypeId}{cs:List Value}{x:DataW H×List MemPlace}{v:Value}{d:DataW H}{p:List MemPlace}{r:Reach}{base:Nat}{k:IntKind}
end
variable{W:World}
theorem A7h{P:Program}{name:String}{g:Nat}{cs:Array Value}(hg:P.globalNamed name=some g)(h:W.var? P name=some cs):∃e fr,W.heap[g]? = some (.cells cs e fr):=by
  unfold World.var? at h;rw [hg] at h;simp only [Option.bind_some] at h;split at h
  . rename_i c e fr hh;cases h;exact ⟨e,fr,hh⟩
  . cases h
def B5W(ws:LN):List Int:=ws.map λn:Nat=>(n:Int)
theorem A56(k:IntKind)(ws:LN):((B5W ws).map λz=>Value.int k z).toArray=(nums k ws).toArray:=by simp [B5W,nums]
theorem C2e{a b:String×DataW Unit}{rest:List (String×DataW Unit)}(h:laidMet prog (a::b::("internal/strconv.uint64pow10",Rows.laid_internal_strconv_uint64pow10)::rest) W):∃e fr,W.heap[4]? = some (Obj.cells (nums .u64 A0M).toArray e fr):=by
  have h':laidMet prog (("internal/strconv.uint64pow10",Lib.tabData .u64 (B5W A0M))::rest) W:=h.tail.tail
  have h1:=Lib.tabIs_of_head (g:=4) (t:=301) (e:=130) (n:=20) (by kernel_rfl) (by kernel_rfl) (by kernel_rfl) (by kernel_rfl) (by kernel_rfl) (by kernel_rfl) h';obtain ⟨ek,fk,h3⟩:=A7h (g:=4) (by kernel_rfl) h1;rw [A56] at h3;exact ⟨ek,fk,h3⟩
end Go.Proofs.YtgpjndfgjjlhaaaGreatDoor

namespace Go.Proofs.YtgpjndfgjjlhaaaGreatDoor
open Go.Px
theorem C4D{W:World}{a b:String×DataW Unit}{rest:List (String×DataW Unit)}(h:laidMet prog (a::b::("internal/strconv.uint64pow10",Rows.laid_internal_strconv_uint64pow10)::("pawl/sha.round",Rows.laid_pawl_sha_round)::("pawl/sha.first",Rows.laid_pawl_sha_first)::rest) W):Glb (B0W W):=by
  obtain ⟨e4,f4,h4⟩:=C2e h
  have h':laidMet prog (("pawl/sha.round",Lib.tabData .u32 (B5W A2x))::("pawl/sha.first",Lib.tabData .u32 (B5W A3C.list))::rest) W:=h.tail.tail.tail
  have h1:=Lib.tabIs_of_head (g:=1) (t:=247) (e:=40) (n:=64) (by kernel_rfl) (by kernel_rfl) (by kernel_rfl) (by kernel_rfl) (by kernel_rfl) (by kernel_rfl) h';have h2:=Lib.tabIs_of_head (g:=0) (t:=188) (e:=40) (n:=8) (by kernel_rfl) (by kernel_rfl) (by kernel_rfl) (by kernel_rfl) (by kernel_rfl) (by kernel_rfl) h'.tail;obtain ⟨ek,fk,h3⟩:=A7h (g:=1) (by kernel_rfl) h1;obtain ⟨ef,ff,h5⟩:=A7h (g:=0) (by kernel_rfl) h2;rw [A56] at h3 h5;exact ⟨⟨ef,ff,A1H.2 h5⟩,⟨ek,fk,A1H.2 h3⟩,⟨e4,f4,A1H.2 h4⟩⟩
end Go.Proofs.YtgpjndfgjjlhaaaGreatDoor

namespace Go.Proofs.YtgpjndfgjjlhaaaGreatDoor.topOld
open Go.ChangeShapes Go.WideShapes Go.ChangeAt Go.RowKit
theorem own:ownKnob Tryz.prog.godebug=none:=by kernel_rfl
theorem laidOut:laidOutB prog=true:=by kernel_rfl
def laidWorld(os:Os):World:=World.laidAll prog os Rows.topOldRow.laid
theorem laid_met(os:Os):laidMetH prog Rows.topOldRow.laid ((laidWorld os).forCall (λ_ _=>0) ⟨#[],#[.int .u8 0,.int .u8 0,.slice none 0 0],[]⟩).memory:=by rw [MakeChecks.laidMetH_plain _ _ _ (by kernel_rfl)];exact laidMet_laidAll _ (by kernel_rfl) (by kernel_rfl)
theorem reads(os:Os){H:Type}(enc:TypeId×Value->H):∃places,DataW.whole enc prog ((laidWorld os).forCall (λ_ _=>0) ⟨#[],#[.int .u8 0,.int .u8 0,.slice none 0 0],[]⟩).memory Tryz.f3.params.toList Rows.topOldSpec.vars false (#[.int .u8 0,.int .u8 0,.slice none 0 0]:Array Value).toList 8=some ([.lit (.int .u8 0),.lit (.int .u8 0),.nil],[],places) :=
  ⟨[],by kernel_rfl⟩
theorem lifted(os:Os)(started:os.Started)(H:Type)(enc:TypeId×Value->H)(F:Stop.Interp) :
    ReturnsInHanded {} Tryz.checked os 3 .any ((OpenSpec.ofChange Rows.topOldSpec).preRow enc prog Tryz.f3 Rows.topOldRow.domain false Rows.topOldRow.laid) (((OpenSpec.ofChange Rows.topOldSpec).at F).post enc prog Tryz.f3 false true false false):=by
  obtain ⟨places,hx⟩:=reads os enc
  refine returnsInHanded_of_row (C:=Tryz.checked) (s:=(OpenSpec.ofChange Rows.topOldSpec)) own started (by kernel_rfl) func3
    (witness_row_at (enc:=enc) (C:=Tryz.checked) false (laidWorld os) #[.int .u8 0,.int .u8 0,.slice none 0 0] (World.laidAll_os _ _ _) (by kernel_rfl) (by kernel_rfl) (by kernel_rfl)
      (OpenSpec.preRow_of_cond 8 hx (by kernel_rfl) (λk hk=>by cases hk) (by kernel_rfl) (laid_met os))) ?_
  intro W base args ds gs before hval0 hW _ _ _ hL _ _;have hval:∀(j:Nat) t v,Tryz.f3.params[j]? = some t->args[j]? = some v->Value.okWide prog W .any base t v:=hval0;have hW':=hW;obtain ⟨p,q,hA0,hV,rfl,hfz,hnd⟩:=hW;have hA:DataW.TrodAll enc prog W 0 (λ_=>true) true Tryz.f3.params.toList args.toList ds p:=hA0;rw [Tryz.params3] at hA hval;obtain ⟨v0,vs0,d0,ds0,p0,q0,hargs,rfl,rfl,k0,r0_⟩:=trodAll_cons hA;obtain ⟨v1,vs1,d1,ds1,p1,q1,rfl,rfl,rfl,k1,r1_⟩:=trodAll_cons r0_;obtain ⟨v2,vs2,d2,ds2,p2,q2,rfl,rfl,rfl,k2,r2_⟩:=trodAll_cons r1_;obtain ⟨rfl,rfl,rfl⟩:=trodAll_nil r2_;obtain rfl:args=#[v0,v1,v2]:=by cases args;simp_all
  obtain ⟨rfl,rfl⟩:=trodVars_none hV;have lt0:∀x∈p0,x.block<W.heap.size:=by obtain ⟨m,hm⟩:=k0;exact DataW.trod_lt m _ _ _ hm
  have lt1:∀x∈p1,x.block<W.heap.size:=by obtain ⟨m,hm⟩:=k1;exact DataW.trod_lt m _ _ _ hm
  have lt2:∀x∈p2,x.block<W.heap.size:=by obtain ⟨m,hm⟩:=k2;exact DataW.trod_lt m _ _ _ hm
  obtain ⟨x0,rfl,hx0⟩:=Px.inU Tryz.underlying5 E (hval 0 5 v0 E E) k0;obtain ⟨x1,rfl,hx1⟩:=Px.inU Tryz.underlying5 E (hval 1 5 v1 E E) k1;obtain ⟨x2,r2,hx2,l2⟩:=Px.inSlU Tryz.underlying22 Tryz.underlying5 (by kernel_rfl) E (hval 2 22 v2 E E) k2;clear hA0 hval0;rw [MakeChecks.laidMetH_plain _ _ _ (by kernel_rfl)] at hL;have hG:=C4D hL;refine Calls.mono ((B8r x0 x1 v2 x2 _ hx0 hx1 ⟨r2,hx2,l2⟩ hG).calls (Px.heapA_fx W)) λe W' ⟨he,bel⟩=>?_;subst he;exact ⟨_,rfl,_,_,_,[],_,[],hW',trodAll_mk1 (shut_bool Tryz.underlying4 _),(trodAll_cons_mk (Below.trod laidOut (by kernel_rfl) (of_decide_eq_true (by kernel_rfl)) k0 bel lt0) (trodAll_cons_mk (Below.trod laidOut (by kernel_rfl) (of_decide_eq_true (by kernel_rfl)) k1 bel lt1) (trodAll_cons_mk (Below.trod laidOut (by kernel_rfl) (of_decide_eq_true (by kernel_rfl)) k2 bel lt2) trodAll_mk0))),rfl,bel.frame _,λh=>by cases h⟩
theorem said:Rows.TopOldSaid :=
  OpenClaim.holds_of_cond 3 Tryz.f3 E E E E E E E ⟨E,E,E,E,E⟩ E E E E E (by kernel_rfl) func3 (by kernel_rfl)
    (of_decide_eq_true (by kernel_rfl)) (by unfold Func.isWrapper;first|(rw [if_pos (by decide +kernel)];kernel_rfl)|(rw [if_neg (by decide +kernel)];exact ⟨E,E⟩))
    (λos started H enc _ F=>by rw [OpenClaim.pre_eq_preRow];exact lifted os started H enc F)
theorem plain(f:FuncId)(fn:Func)(hf:Tryz.pinned.checked.prog.funcNamed "pawl/pawltop.TopOld" = some f) (hfn:Tryz.pinned.checked.prog.funcs[f]? = some fn) :
    true=Tryz.pinned.checked.prog.looks []∧∀(j:Nat) t,fn.params[j]? = some t->Tryz.pinned.checked.prog.wantsStandIn t=false:=by
  obtain rfl:f=3:=Cc ((show Tryz.prog.funcNamed "pawl/pawltop.TopOld" = some 3 by kernel_rfl).symm.trans hf) |>.symm
  obtain rfl:fn=Tryz.f3:=(Cc (Tryz.func3.symm.trans hfn)).symm;refine ⟨by kernel_rfl,λj t ht=>?_⟩;rw [Tryz.params3] at ht;have hm:=Array.mem_of_getElem? ht;simp only [List.mem_toArray,Cz,Da,or_false] at hm;rcases hm with rfl|rfl|rfl
  . exact (show Tryz.prog.wantsStandIn 5=false by kernel_rfl)
  . exact (show Tryz.prog.wantsStandIn 5=false by kernel_rfl)
  . exact (show Tryz.prog.wantsStandIn 22=false by kernel_rfl)
theorem proved:Rows.TopOldCardSaid :=
  Claim7.holds_tied_plain_at .later [] _ _ _ _ said (λ_ h=>by cases h) (by kernel_rfl) (λ_ h=>by cases h) topOld_row_tie rfl ⟨rfl,rfl⟩ (by kernel_rfl) rfl plain (by kernel_rfl)
#print axioms proved
end Go.Proofs.YtgpjndfgjjlhaaaGreatDoor.topOld

