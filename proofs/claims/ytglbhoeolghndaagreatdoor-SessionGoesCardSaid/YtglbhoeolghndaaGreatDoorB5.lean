/- Part 5 of the texts of this claim, one behind the other. -/
import Derived.Test.YtglbhoeolghndaaGreatDoorB4
import Derived.Test.YtglbhoeolghndaaGreatDoorRows
import Derived.Laws.Strings
set_option linter.unusedVariables false
set_option linter.unusedSimpArgs false
set_option maxRecDepth 100000
namespace Go
open Go.Px
abbrev Cg:=@Fit.none
abbrev Cl:=@FnX.enterZ
end Go
open Go.Proofs.Tryz
namespace Go.Proofs.YtglbhoeolghndaaGreatDoor
open Go.Px
abbrev el(a b c d e:Nat):Value:=.agg #[.int .u64 (a:Int),.int .u64 (b:Int),.int .u64 (c:Int),.int .u64 (d:Int),.int .u64 (e:Int)]
def Fe(v:Value)(n:Nat):Prop:=∃a b c d e,v=el a b c d e∧a<4503599627370496∧b<4503599627370496∧c<4503599627370496∧d<4503599627370496∧e<4503599627370496∧fv a b c d e%p25=n
theorem Fe.lt{v:Value}{n:Nat}(h:Fe v n):n<p25:=by obtain ⟨a,b,c,d,e,_,_,_,_,_,_,rfl⟩:=h;exact Ad _ qD
theorem V3(a b c d e:Nat)(ha:a<9223372036854775808)(hb:b<9223372036854775808)(hc:c<9223372036854775808)(hd:d<9223372036854775808)(he:e<9223372036854775808)(A:Mem) :
  FnX prog 145 [el a b c d e] [] A λr M J=>M=[]∧J=[]∧∃a' b' c' d' e',r=el a' b' c' d' e'∧a'<2251799813685248∧b'<2251799813685248∧c'<2251799813685248∧d'<2251799813685248∧fv a' b' c' d' e'+p25*(e/2251799813685248)=fv a b c d e∧e'<2251799813685248+8192:=by
 refine Ck (N:=38) func145 E E E λw=>?_;refine A8 (D4 0) (A1 ?_);refine A2 E (bx_ λb1=>?_);refine A2 E (C2 (cs:=[C0,C0,C0,C0,C0]) kR E λb2=>?_);refine A0 (D0 1 2) (A1 (lQ_ (qi_ 4 130 5 1 4) ?_));refine lQ_ ql_ ?_;refine lQ_ (P5 51 2251799813685248 E E E E qD) ?_;refine aS_ E (A0 (D6 1 2 3) (A1 (lQ_ (qi_ 4 130 5 1 4) ?_)));refine lQ_ ql_ ?_;refine lQ_ (N5 51 2251799813685248 E E E E E (by show _<18446744073709551616;first|assumption|exact Ad _ qD|omega) qD) ?_;refine lQ_ (qi_ 4 130 5 1 4) ?_;refine A2 E (E4 E E E kR Cq Cs ?_);refine A0 (D6 1 2 3) (A1 (lQ_ (qi_ 0 130 5 1 0) ?_));refine lQ_ ql_ ?_;refine mV_ E (lQ_ (Q2 18446744073709551616 (a:=19) E E E E E E) (lQ_ (G8 18446744073709551616 E E E E E E) (lQ_ (qi_ 0 130 5 1 0) ?_)));refine A2 E (E4 E E E kR Cq Cs ?_);refine A0 (D0 1 2) (A3 (A1 (mv_ (A0 (D6 1 2 18) (A7 ?_)))));refine Y6 5 ?_;refine I2 ?_;refine A1 ?_;refine lQ_ (F5 true E E (ltT qD)) ?_;refine A0 (D7 1 2 18 19) (A3 ?_);refine D9 E ?_;refine A6 (nx (D6 1 2 18) (A3 (A7 (A1 (mv_ (as_ (A0 (D7 1 2 4 18) ?_)))))));refine C8 (.range 10) (zp 0 [0,0,0,1,0,0,1,0,0,0,2]) kR kR λhs=>?_;refine fm_ ?_;refine fQ_ E (D5 (1:Int) E E (F7 qD qD qD)) ?_;refine fQ_ E (qi_ 1 130 5 1 1) ?_;refine fR_ E ql_ ?_;refine fM_ E E (fQ_ E (qi_ 0 130 5 1 0) ?_);refine fR_ E ql_ ?_;refine fQ_ E (P5 51 2251799813685248 E E E E qD) ?_;refine fQ_ E (G8 18446744073709551616 E E E E E E) (fQ_ E (qi_ 1 130 5 1 1) ?_);refine G1 E E E (E4 E E E kR Cq Cs ?_);refine E0 (D7 1 2 4 18) (C1 (mV_ E (lQ_ (qi_ 0 130 5 1 0) ?_)));refine lQ_ ql_ ?_;refine lQ_ (N5 51 2251799813685248 E E E E E (by show _<18446744073709551616;first|assumption|exact Ad _ qD|omega) qD) ?_;refine lQ_ (qi_ 0 130 5 1 0) ?_;refine A2 E (E4 E E E kR Cq Cs ?_);refine C5 (nb (nx (D6 1 2 18) (C1 ?_)));refine lQ_ (D5 (1:Int) E E (F7 qD qD qD)) ?_;refine mv_ (C5 ?_);refine un (D6 1 2 18) ?_;refine I2 ?_;refine A1 ?_;refine lQ_ (F5 true E E (ltT qD)) ?_;refine A0 (D7 1 2 18 19) (A3 ?_);refine D9 E ?_;refine A6 (nx (D6 1 2 18) (A3 (A7 (A1 (mv_ (as_ (A0 (D7 1 2 4 18) ?_)))))));refine C8 (.range 10) (zp 0 [0,0,0,1,0,0,1,0,0,0,2]) kR kR λhs=>?_;refine fm_ ?_;refine fQ_ E (D5 (2:Int) E E (F7 qD qD qD)) ?_;refine fQ_ E (qi_ 2 130 5 1 2) ?_;refine fR_ E ql_ ?_;refine fM_ E E (fQ_ E (qi_ 1 130 5 1 1) ?_);refine fR_ E ql_ ?_;refine fQ_ E (P5 51 2251799813685248 E E E E qD) ?_;refine fQ_ E (G8 18446744073709551616 E E E E E E) (fQ_ E (qi_ 2 130 5 1 2) ?_);refine G1 E E E (E4 E E E kR Cq Cs ?_);refine E0 (D7 1 2 4 18) (C1 (mV_ E (lQ_ (qi_ 1 130 5 1 1) ?_)));refine lQ_ ql_ ?_;refine lQ_ (N5 51 2251799813685248 E E E E E (by show _<18446744073709551616;first|assumption|exact Ad _ qD|omega) qD) ?_;refine lQ_ (qi_ 1 130 5 1 1) ?_;refine A2 E (E4 E E E kR Cq Cs ?_);refine C5 (nb (nx (D6 1 2 18) (C1 ?_)));refine lQ_ (D5 (2:Int) E E (F7 qD qD qD)) ?_;refine mv_ (C5 ?_);refine un (D6 1 2 18) ?_;refine I2 ?_;refine A1 ?_;refine lQ_ (F5 true E E (ltT qD)) ?_;refine A0 (D7 1 2 18 19) (A3 ?_);refine D9 E ?_;refine A6 (nx (D6 1 2 18) (A3 (A7 (A1 (mv_ (as_ (A0 (D7 1 2 4 18) ?_)))))));refine C8 (.range 10) (zp 0 [0,0,0,1,0,0,1,0,0,0,2]) kR kR λhs=>?_;refine fm_ ?_;refine fQ_ E (D5 (3:Int) E E (F7 qD qD qD)) ?_;refine fQ_ E (qi_ 3 130 5 1 3) ?_;refine fR_ E ql_ ?_;refine fM_ E E (fQ_ E (qi_ 2 130 5 1 2) ?_);refine fR_ E ql_ ?_;refine fQ_ E (P5 51 2251799813685248 E E E E qD) ?_;refine fQ_ E (G8 18446744073709551616 E E E E E E) (fQ_ E (qi_ 3 130 5 1 3) ?_);refine G1 E E E (E4 E E E kR Cq Cs ?_)
 refine E0 (D7 1 2 4 18) (C1 (mV_ E (lQ_ (qi_ 2 130 5 1 2) ?_)));refine lQ_ ql_ ?_;refine lQ_ (N5 51 2251799813685248 E E E E E (by show _<18446744073709551616;first|assumption|exact Ad _ qD|omega) qD) ?_;refine lQ_ (qi_ 2 130 5 1 2) ?_;refine A2 E (E4 E E E kR Cq Cs ?_);refine C5 (nb (nx (D6 1 2 18) (C1 ?_)));refine lQ_ (D5 (3:Int) E E (F7 qD qD qD)) ?_;refine mv_ (C5 ?_);refine un (D6 1 2 18) ?_;refine I2 ?_;refine A1 ?_;refine lQ_ (F5 true E E (ltT qD)) ?_;refine A0 (D7 1 2 18 19) (A3 ?_);refine D9 E ?_;refine A6 (nx (D6 1 2 18) (A3 (A7 (A1 (mv_ (as_ (A0 (D7 1 2 4 18) ?_)))))));refine C8 (.range 10) (zp 0 [0,0,0,1,0,0,1,0,0,0,2]) kR kR λhs=>?_;refine fm_ ?_;refine fQ_ E (D5 (4:Int) E E (F7 qD qD qD)) ?_;refine fQ_ E (qi_ 4 130 5 1 4) ?_;refine fR_ E ql_ ?_;refine fM_ E E (fQ_ E (qi_ 3 130 5 1 3) ?_);refine fR_ E ql_ ?_;refine fQ_ E (P5 51 2251799813685248 E E E E qD) ?_;refine fQ_ E (G8 18446744073709551616 E E E E E E) (fQ_ E (qi_ 4 130 5 1 4) ?_);refine G1 E E E (E4 E E E kR Cq Cs ?_);refine E0 (D7 1 2 4 18) (C1 (mV_ E (lQ_ (qi_ 3 130 5 1 3) ?_)));refine lQ_ ql_ ?_;refine lQ_ (N5 51 2251799813685248 E E E E E (by show _<18446744073709551616;first|assumption|exact Ad _ qD|omega) qD) ?_;refine lQ_ (qi_ 3 130 5 1 3) ?_;refine A2 E (E4 E E E kR Cq Cs ?_);refine C5 (nb (nx (D6 1 2 18) (C1 ?_)));refine lQ_ (D5 (4:Int) E E (F7 qD qD qD)) ?_;refine mv_ (C5 ?_);refine un (D6 1 2 18) ?_;refine I2 ?_;refine A1 ?_;refine lQ_ (F5 false E E (ltF qD)) ?_;refine A0 (D7 1 2 18 19) (A3 ?_);refine C7 E ?_;refine D8 (te (ue (be E (nx (D0 1 2) (A1 ?_)))));refine lQ_ (qw_ 5) ?_;refine A2 E (A5 E E Cd kR ln5 al5 Cs ?_);refine A0 (D4 2) (A9 ?_);refine ⟨_,[],[],A1d E E kR Cc qR,Aa _,by simp,E,E,_,_,_,_,_,E,Ad _ qD,Ad _ qD,Ad _ qD,Ad _ qD,B0W ha hb hc hd he E E E E E⟩
theorem B2W(v u:Value)(x y:Nat)(hx:Fe v x)(hy:Fe u y)(A:Mem):FnX prog 142 [v,u] [] A λr M J=>M=[]∧J=[]∧Fe r ((x+y)%p25):=by
 obtain ⟨a,b,c,d,e,rfl,ha,hb,hc,hd,he,rfl⟩:=hx;obtain ⟨a2,b2,c2,d2,e2,rfl,ha2,hb2,hc2,hd2,he2,rfl⟩:=hy;refine Ck (N:=20) func142 E E E λw=>?_;refine A8 (D0 0 1) (A1 ?_);refine A2 E (bx_ λb2=>?_);refine A2 E (bx_ λb3=>?_);refine A2 E (C2 (cs:=[C0,C0,C0,C0,C0]) kR E λb4=>?_);refine A0 (D6 2 3 4) (A3 (A1 (mv_ (A0 (D7 2 3 4 6) (A7 ?_)))));refine Y6 6 ?_;refine I2 ?_;refine A1 ?_;refine lQ_ (F5 true E E (ltT qD)) ?_;refine A0 (F2 2 3 4 6 7) (A3 ?_);refine D9 E ?_;refine A6 (nx (D7 2 3 4 6) (A3 (A7 (A1 (mv_ (as_ (A0 (F2 2 3 4 5 6) ?_)))))));refine H3 (.range 8) (zp 0 [0,0,1,0,0,1,0,0,2]) kR kR λhs=>?_;refine fM_ E E (fQ_ E (qi_ 0 130 5 1 0) ?_);refine fR_ E ql_ ?_;refine fM_ E E (fQ_ E (qi_ 0 130 5 1 0) ?_);refine fR_ E ql_ ?_;refine fQ_ E (G8 18446744073709551616 E E E E E E) (fQ_ E (qi_ 0 130 5 1 0) ?_);refine G1 E E E (E4 E E E kR Cq Cs ?_);refine R7 (nb (nx (D7 2 3 4 6) (C1 ?_)));refine lQ_ (D5 (1:Int) E E (F7 qD qD qD)) ?_;refine mv_ (C5 ?_);refine un (D7 2 3 4 6) ?_;refine I2 ?_;refine A1 ?_;refine lQ_ (F5 true E E (ltT qD)) ?_;refine A0 (F2 2 3 4 6 7) (A3 ?_);refine D9 E ?_;refine A6 (nx (D7 2 3 4 6) (A3 (A7 (A1 (mv_ (as_ (A0 (F2 2 3 4 5 6) ?_)))))));refine H3 (.range 8) (zp 0 [0,0,1,0,0,1,0,0,2]) kR kR λhs=>?_;refine fM_ E E (fQ_ E (qi_ 1 130 5 1 1) ?_);refine fR_ E ql_ ?_;refine fM_ E E (fQ_ E (qi_ 1 130 5 1 1) ?_);refine fR_ E ql_ ?_;refine fQ_ E (G8 18446744073709551616 E E E E E E) (fQ_ E (qi_ 1 130 5 1 1) ?_);refine G1 E E E (E4 E E E kR Cq Cs ?_);refine R7 (nb (nx (D7 2 3 4 6) (C1 ?_)));refine lQ_ (D5 (2:Int) E E (F7 qD qD qD)) ?_;refine mv_ (C5 ?_);refine un (D7 2 3 4 6) ?_;refine I2 ?_;refine A1 ?_;refine lQ_ (F5 true E E (ltT qD)) ?_;refine A0 (F2 2 3 4 6 7) (A3 ?_);refine D9 E ?_;refine A6 (nx (D7 2 3 4 6) (A3 (A7 (A1 (mv_ (as_ (A0 (F2 2 3 4 5 6) ?_)))))));refine H3 (.range 8) (zp 0 [0,0,1,0,0,1,0,0,2]) kR kR λhs=>?_;refine fM_ E E (fQ_ E (qi_ 2 130 5 1 2) ?_);refine fR_ E ql_ ?_;refine fM_ E E (fQ_ E (qi_ 2 130 5 1 2) ?_);refine fR_ E ql_ ?_;refine fQ_ E (G8 18446744073709551616 E E E E E E) (fQ_ E (qi_ 2 130 5 1 2) ?_);refine G1 E E E (E4 E E E kR Cq Cs ?_);refine R7 (nb (nx (D7 2 3 4 6) (C1 ?_)));refine lQ_ (D5 (3:Int) E E (F7 qD qD qD)) ?_;refine mv_ (C5 ?_);refine un (D7 2 3 4 6) ?_;refine I2 ?_;refine A1 ?_;refine lQ_ (F5 true E E (ltT qD)) ?_;refine A0 (F2 2 3 4 6 7) (A3 ?_);refine D9 E ?_;refine A6 (nx (D7 2 3 4 6) (A3 (A7 (A1 (mv_ (as_ (A0 (F2 2 3 4 5 6) ?_)))))));refine H3 (.range 8) (zp 0 [0,0,1,0,0,1,0,0,2]) kR kR λhs=>?_;refine fM_ E E (fQ_ E (qi_ 3 130 5 1 3) ?_);refine fR_ E ql_ ?_;refine fM_ E E (fQ_ E (qi_ 3 130 5 1 3) ?_);refine fR_ E ql_ ?_;refine fQ_ E (G8 18446744073709551616 E E E E E E) (fQ_ E (qi_ 3 130 5 1 3) ?_);refine G1 E E E (E4 E E E kR Cq Cs ?_);refine R7 (nb (nx (D7 2 3 4 6) (C1 ?_)));refine lQ_ (D5 (4:Int) E E (F7 qD qD qD)) ?_;refine mv_ (C5 ?_);refine un (D7 2 3 4 6) ?_;refine I2 ?_;refine A1 ?_;refine lQ_ (F5 true E E (ltT qD)) ?_;refine A0 (F2 2 3 4 6 7) (A3 ?_);refine D9 E ?_;refine A6 (nx (D7 2 3 4 6) (A3 (A7 (A1 (mv_ (as_ (A0 (F2 2 3 4 5 6) ?_)))))));refine H3 (.range 8) (zp 0 [0,0,1,0,0,1,0,0,2]) kR kR λhs=>?_;refine fM_ E E (fQ_ E (qi_ 4 130 5 1 4) ?_);refine fR_ E ql_ ?_;refine fM_ E E (fQ_ E (qi_ 4 130 5 1 4) ?_);refine fR_ E ql_ ?_;refine fQ_ E (G8 18446744073709551616 E E E E E E) (fQ_ E (qi_ 4 130 5 1 4) ?_);refine G1 E E E (E4 E E E kR Cq Cs ?_);refine R7 (nb (nx (D7 2 3 4 6) (C1 ?_)));refine lQ_ (D5 (5:Int) E E (F7 qD qD qD)) ?_;refine mv_ (C5 ?_);refine un (D7 2 3 4 6) ?_;refine I2 ?_
 refine A1 ?_;refine lQ_ (F5 false E E (ltF qD)) ?_;refine A0 (F2 2 3 4 6 7) (A3 ?_);refine C7 E ?_;refine D8 (te (ue (be E (nx (D0 2 4) (A1 ?_)))));refine lQ_ (qw_ 5) ?_;refine C6 (aS E a0) kR (V3 _ _ _ _ _ qO qO qO qO qO _) E ?_;rintro r3 M3 J3 ⟨rfl,rfl,a3,b3,c3,d3,e3,rfl,ha3,hb3,hc3,hd3,hv3,he3⟩;refine A2 E (A5 E E Cd kR ln5 al5 Cs ?_);refine A0 (D4 4) (A9 ?_);refine ⟨_,[],[],A1d E E kR Cc qR,Aa _,by simp,E,E,a3,b3,c3,d3,e3,E,by omega,by omega,by omega,by omega,by omega,?_⟩;rw [N8 hv3,C2X ha hb hc hd he ha2 hb2 hc2 hd2 he2,Nat.add_mod]
theorem A7P(v u:Value)(x y:Nat)(hx:Fe v x)(hy:Fe u y)(A:Mem):FnX prog 143 [v,u] [] A λr M J=>M=[]∧J=[]∧Fe r ((x+p25-y)%p25):=by
 obtain ⟨a,b,c,d,e,rfl,ha,hb,hc,hd,he,rfl⟩:=hx;obtain ⟨a2,b2,c2,d2,e2,rfl,ha2,hb2,hc2,hd2,he2,rfl⟩:=hy;refine Ck (N:=30) func143 E E E λw=>?_;refine A8 (D0 0 1) (A1 ?_);refine A2 E (bx_ λb2=>?_);refine A2 E (bx_ λb3=>?_);refine A2 E (C2 (cs:=[C0,C0,C0,C0,C0]) kR E λb4=>?_);refine A0 (D6 2 3 4) (A1 ?_);refine lQ_ (qw_ 5) ?_;refine C6 (aS E a0) kR (V3 _ _ _ _ _ qO qO qO qO qO _) E ?_;rintro r3 M3 J3 ⟨rfl,rfl,a3,b3,c3,d3,e3,rfl,ha3,hb3,hc3,hd3,hv3,he3⟩;refine A2 E (A5 E E Cd kR ln5 al5 Cs ?_);refine A0 (D6 2 3 4) (A1 ?_);refine lQ_ (F0 (place:=λi=>some (i*1,1)) (z:=[C0,C0,C0,C0,C0]) (λ_=>by kernel_rfl) (eS E (eS E (eS E (eS E (eS E e0))))) (bdS 0 1 E qR (bdS 1 1 E qR (bdS 2 1 E qR (bdS 3 1 E qR (bdS 4 1 E qR bd0)))))) ?_;refine A2 E (C2 (cs:=[C0,C0,C0,C0,C0]) kR E λb5=>?_);refine A2 E (A5 E E Cd kR ln5 al5 Cs ?_);refine A0 (D7 2 3 4 5) (A3 (A1 (mv_ (A0 (F2 2 3 4 5 10) (A7 ?_)))));refine Y6 6 ?_;refine I2 ?_;refine A1 ?_;refine lQ_ (F5 true E E (ltT qD)) ?_;refine A0 (G7 2 3 4 5 10 11) (A3 ?_);refine D9 E ?_;refine A6 (nx (F2 2 3 4 5 10) (A3 (A7 (A1 (mv_ (as_ (A0 (G7 2 3 4 5 6 10) ?_)))))));refine H3 (.range 13) (zp 0 [0,0,1,0,0,1,0,0,0,1,0,0,0,2]) kR kR λhs=>?_;refine fM_ E E (fQ_ E (qi_ 0 130 5 1 0) ?_);refine fR_ E ql_ ?_;refine fM_ E E (fQ_ E (qi_ 0 130 5 1 0) ?_);refine fR_ E ql_ ?_;refine fQ_ E (Q2 18446744073709551616 (a:=2) E E E E E E) (fM_ E E (fQ_ E (qi_ 0 130 5 1 0) ?_));refine fR_ E ql_ ?_;refine fQ_ E (A2P 18446744073709551616 E E E E E E qO) ?_;refine fQ_ E (G8 18446744073709551616 E E E E E E) (fQ_ E (qi_ 0 130 5 1 0) ?_);refine G1 E E E (E4 E E E kR Cq Cs ?_);refine R7 (nb (nx (F2 2 3 4 5 10) (C1 ?_)));refine lQ_ (D5 (1:Int) E E (F7 qD qD qD)) ?_;refine mv_ (C5 ?_);refine un (F2 2 3 4 5 10) ?_;refine I2 ?_;refine A1 ?_;refine lQ_ (F5 true E E (ltT qD)) ?_;refine A0 (G7 2 3 4 5 10 11) (A3 ?_);refine D9 E ?_;refine A6 (nx (F2 2 3 4 5 10) (A3 (A7 (A1 (mv_ (as_ (A0 (G7 2 3 4 5 6 10) ?_)))))));refine H3 (.range 13) (zp 0 [0,0,1,0,0,1,0,0,0,1,0,0,0,2]) kR kR λhs=>?_;refine fM_ E E (fQ_ E (qi_ 1 130 5 1 1) ?_);refine fR_ E ql_ ?_;refine fM_ E E (fQ_ E (qi_ 1 130 5 1 1) ?_);refine fR_ E ql_ ?_;refine fQ_ E (Q2 18446744073709551616 (a:=2) E E E E E E) (fM_ E E (fQ_ E (qi_ 1 130 5 1 1) ?_));refine fR_ E ql_ ?_;refine fQ_ E (A2P 18446744073709551616 E E E E E E qO) ?_;refine fQ_ E (G8 18446744073709551616 E E E E E E) (fQ_ E (qi_ 1 130 5 1 1) ?_);refine G1 E E E (E4 E E E kR Cq Cs ?_);refine R7 (nb (nx (F2 2 3 4 5 10) (C1 ?_)));refine lQ_ (D5 (2:Int) E E (F7 qD qD qD)) ?_;refine mv_ (C5 ?_);refine un (F2 2 3 4 5 10) ?_;refine I2 ?_;refine A1 ?_;refine lQ_ (F5 true E E (ltT qD)) ?_;refine A0 (G7 2 3 4 5 10 11) (A3 ?_);refine D9 E ?_;refine A6 (nx (F2 2 3 4 5 10) (A3 (A7 (A1 (mv_ (as_ (A0 (G7 2 3 4 5 6 10) ?_)))))));refine H3 (.range 13) (zp 0 [0,0,1,0,0,1,0,0,0,1,0,0,0,2]) kR kR λhs=>?_;refine fM_ E E (fQ_ E (qi_ 2 130 5 1 2) ?_);refine fR_ E ql_ ?_;refine fM_ E E (fQ_ E (qi_ 2 130 5 1 2) ?_);refine fR_ E ql_ ?_;refine fQ_ E (Q2 18446744073709551616 (a:=2) E E E E E E) (fM_ E E (fQ_ E (qi_ 2 130 5 1 2) ?_));refine fR_ E ql_ ?_;refine fQ_ E (A2P 18446744073709551616 E E E E E E qO) ?_;refine fQ_ E (G8 18446744073709551616 E E E E E E) (fQ_ E (qi_ 2 130 5 1 2) ?_);refine G1 E E E (E4 E E E kR Cq Cs ?_);refine R7 (nb (nx (F2 2 3 4 5 10) (C1 ?_)));refine lQ_ (D5 (3:Int) E E (F7 qD qD qD)) ?_;refine mv_ (C5 ?_);refine un (F2 2 3 4 5 10) ?_;refine I2 ?_;refine A1 ?_
 refine lQ_ (F5 true E E (ltT qD)) ?_;refine A0 (G7 2 3 4 5 10 11) (A3 ?_);refine D9 E ?_;refine A6 (nx (F2 2 3 4 5 10) (A3 (A7 (A1 (mv_ (as_ (A0 (G7 2 3 4 5 6 10) ?_)))))));refine H3 (.range 13) (zp 0 [0,0,1,0,0,1,0,0,0,1,0,0,0,2]) kR kR λhs=>?_;refine fM_ E E (fQ_ E (qi_ 3 130 5 1 3) ?_);refine fR_ E ql_ ?_;refine fM_ E E (fQ_ E (qi_ 3 130 5 1 3) ?_);refine fR_ E ql_ ?_;refine fQ_ E (Q2 18446744073709551616 (a:=2) E E E E E E) (fM_ E E (fQ_ E (qi_ 3 130 5 1 3) ?_));refine fR_ E ql_ ?_;refine fQ_ E (A2P 18446744073709551616 E E E E E E qO) ?_;refine fQ_ E (G8 18446744073709551616 E E E E E E) (fQ_ E (qi_ 3 130 5 1 3) ?_);refine G1 E E E (E4 E E E kR Cq Cs ?_);refine R7 (nb (nx (F2 2 3 4 5 10) (C1 ?_)));refine lQ_ (D5 (4:Int) E E (F7 qD qD qD)) ?_;refine mv_ (C5 ?_);refine un (F2 2 3 4 5 10) ?_;refine I2 ?_;refine A1 ?_;refine lQ_ (F5 true E E (ltT qD)) ?_;refine A0 (G7 2 3 4 5 10 11) (A3 ?_);refine D9 E ?_;refine A6 (nx (F2 2 3 4 5 10) (A3 (A7 (A1 (mv_ (as_ (A0 (G7 2 3 4 5 6 10) ?_)))))));refine H3 (.range 13) (zp 0 [0,0,1,0,0,1,0,0,0,1,0,0,0,2]) kR kR λhs=>?_;refine fM_ E E (fQ_ E (qi_ 4 130 5 1 4) ?_);refine fR_ E ql_ ?_;refine fM_ E E (fQ_ E (qi_ 4 130 5 1 4) ?_);refine fR_ E ql_ ?_;refine fQ_ E (Q2 18446744073709551616 (a:=2) E E E E E E) (fM_ E E (fQ_ E (qi_ 4 130 5 1 4) ?_));refine fR_ E ql_ ?_;refine fQ_ E (A2P 18446744073709551616 E E E E E E qO) ?_;refine fQ_ E (G8 18446744073709551616 E E E E E E) (fQ_ E (qi_ 4 130 5 1 4) ?_);refine G1 E E E (E4 E E E kR Cq Cs ?_);refine R7 (nb (nx (F2 2 3 4 5 10) (C1 ?_)));refine lQ_ (D5 (5:Int) E E (F7 qD qD qD)) ?_;refine mv_ (C5 ?_);refine un (F2 2 3 4 5 10) ?_;refine I2 ?_;refine A1 ?_;refine lQ_ (F5 false E E (ltF qD)) ?_;refine A0 (G7 2 3 4 5 10 11) (A3 ?_);refine C7 E ?_;refine D8 (te (ue (be E (nx (D0 2 4) ?_))));have q0:=A4F (t:=9007199254740916) (b:=a3) ha qD qO;have q1:=A4F (t:=9007199254740988) (b:=b3) hb qD qO;have q2:=A4F (t:=9007199254740988) (b:=c3) hc qD qO;have q3:=A4F (t:=9007199254740988) (b:=d3) hd qD qO;have q4:=A4F (t:=9007199254740988) (b:=e3) he qD qO;refine A1 ?_;refine lQ_ (qw_ 5) ?_;refine C6 (aS E a0) kR (V3 _ _ _ _ _ (q0▸A2Y ha qD qO) (q1▸A2Y hb qD qO) (q2▸A2Y hc qD qO) (q3▸A2Y hd qD qO) (q4▸A2Y he qD qO) _) E ?_;rintro r4 M4 J4 ⟨rfl,rfl,a4,b4,c4,d4,e4,rfl,ha4,hb4,hc4,hd4,hv4,he4⟩;refine C6 (aS E a0) kR (V3 _ _ _ _ _ qO qO qO qO qO _) E ?_;rintro r5 M5 J5 ⟨rfl,rfl,a5,b5,c5,d5,e5,rfl,ha5,hb5,hc5,hd5,hv5,he5⟩;refine A2 E (A5 E E Cd kR ln5 al5 Cs ?_);refine A0 (D4 4) (A9 ?_);refine ⟨_,[],[],A1d E E kR Cc qR,Aa _,by simp,E,E,a5,b5,c5,d5,e5,E,by omega,by omega,by omega,by omega,by omega,?_⟩;rw [N8 hv5,N8 hv4,<- N8 hv3];refine C0j ?_;rw [<- C2Y (a:=a) (b:=b) (c:=c) (d:=d) (e:=e) (a2:=a3) (b2:=b3) (c2:=c3) (d2:=d3) (e2:=e3) qO qO qO qO qO,<- q0,<- q1,<- q2,<- q3,<- q4]
abbrev wd(hi lo:Nat):Value:=.agg #[.int .u64 (hi:Int),.int .u64 (lo:Int)]
theorem B0X(x y:Nat)(hx:x<18446744073709551616)(hy:y<18446744073709551616)(A:Mem):FnV prog 168 [.int .u64 (x:Int),.int .u64 (y:Int)] A (.tuple #[.int .u64 ((x*y/18446744073709551616:Nat):Int),.int .u64 ((x*y%18446744073709551616:Nat):Int)]):=by refine Ck (N:=51) func168 E E E λw=>?_;refine A8 (D0 0 1) (A1 (as_ (as_ (A0 (D0 0 1) (A1 (mv_ ?_))))));refine lQ_ (N5 32 4294967296 E E E E E (by show _<18446744073709551616;first|assumption|exact Ad _ qD|omega) qD) ?_;refine as_ (A0 (D6 0 1 6) (A1 (mv_ ?_)));refine lQ_ (P5 32 4294967296 E E E E qD) ?_;refine as_ (A0 (D7 0 1 6 7) (A1 (mv_ ?_)));refine lQ_ (N5 32 4294967296 E E E E E (by show _<18446744073709551616;first|assumption|exact Ad _ qD|omega) qD) ?_;refine as_ (A0 (F2 0 1 6 7 8) (A1 (mv_ ?_)));refine lQ_ (P5 32 4294967296 E E E E qD) ?_;refine aS_ E (A0 (G7 0 1 6 7 8 9) (A1 (mV_ E (mV_ E (lQ_ (Q2 18446744073709551616 E E E E E E) (aS_ E (A0 (N9 0 1 6 7 8 9 10) (A1 (mV_ E (mV_ E (lQ_ (Q2 18446744073709551616 E E E E E E) (mv_ ?_))))))))))));refine lQ_ (P5 32 4294967296 E E E E qD) ?_;refine lQ_ (G8 18446744073709551616 E E E E E E) (as_ (A0 (G7 0 1 6 7 9 11) (A1 (mv_ ?_))));refine lQ_ (N5 32 4294967296 E E E E E (by show _<18446744073709551616;first|assumption|exact Ad _ qD|omega) qD) ?_;refine as_ (A0 (N9 0 1 6 7 9 11 12) (A1 (mv_ ?_)));refine lQ_ (P5 32 4294967296 E E E E qD) ?_;refine aS_ E (A0 (N9 0 1 6 7 9 12 13) (A1 (mV_ E (mV_ E (mV_ E (lQ_ (Q2 18446744073709551616 E E E E E E) (lQ_ (G8 18446744073709551616 E E E E E E) (aS_ E (A0 (G7 0 1 7 9 12 13) (A1 (mV_ E (mV_ E (lQ_ (Q2 18446744073709551616 E E E E E E) (mV_ E (lQ_ (G8 18446744073709551616 E E E E E E) (mv_ ?_))))))))))))))));refine lQ_ (P5 32 4294967296 E E E E qD) ?_;refine lQ_ (G8 18446744073709551616 E E E E E E) (aS_ E (A0 (D6 0 1 4) (A1 (mV_ E (mV_ E (lQ_ (Q2 18446744073709551616 E E E E E E) (as_ (A0 (D0 4 5) (A9 ?_)))))))));refine ⟨_,[],[],A1Z E E E,Aa _,by simp,?_,E,E⟩;rw [B2Q hx hy E E E E E E rfl]
theorem A4H(hi lo a b:Nat)(h1:hi<18446744073709551616)(h2:lo<18446744073709551616)(h3:a<18446744073709551616)(h4:b<18446744073709551616)(A:Mem) :
  FnX prog 146 [wd hi lo,.int .u64 (a:Int),.int .u64 (b:Int)] [] A λr M J=>M=[]∧J=[]∧∃hi' lo',r=wd hi' lo'∧hi'<18446744073709551616∧lo'<18446744073709551616∧hi'*18446744073709551616+lo'=(hi*18446744073709551616+lo+a*b)%340282366920938463463374607431768211456:=by
 refine Ck (N:=34) func146 E E E λw=>?_;refine A8 (D6 0 1 2) (A1 ?_);refine A2 E (bx_ λb3=>?_);refine A2 E (C2 (cs:=[C0,C0]) kR E λb6=>?_);refine A0 (D7 1 2 3 6) (A1 (mv_ (mv_ ?_)));refine E6 (aS E (aS E a0)) kR (B0X a b h3 h4 _) E ?_;have hab:a*b<=18446744073709551615*18446744073709551615:=Nat.mul_le_mul qO qO;generalize a*b=z at *;refine mV_ E (lQ_ (Z9 E) (lQ_ (Z5 E) (aS_ E (aS_ E (A0 (D7 3 6 7 8) (A1 (lQ_ (qf_ 1 1) ?_)))))));refine lQ_ ql_ ?_;refine mv_ ?_;refine lQ_ (A7u func169 kR kR kR kR E E E (c:=0) qO E E E) ?_;refine mV_ E (lQ_ (Z9 E) (lQ_ (Z5 E) (aS_ E (aS_ E (A0 (F2 3 6 7 8 9) (A1 (lQ_ (qf_ 0 0) ?_)))))));refine lQ_ ql_ ?_;refine mv_ (mv_ ?_);refine lQ_ (A7u func169 kR kR kR kR E E E qO E E E) ?_;refine mV_ E (lQ_ (Z9 E) (lQ_ (Z5 E) (as_ (A0 (D6 6 7 8) (A1 (mv_ (mv_ ?_)))))));refine lQ_ (F0 (place:=λx=>#[(0,1),(1,1)][x]?) (z:=[C0,C0]) (λ_=>by kernel_rfl) (eS E (eS E e0)) (bdS 0 1 E qR (bdS 1 1 E qR bd0))) ?_;refine A2 E (A5 E E Cd kR ln2 al2 Cs ?_);refine A0 (D4 6) (A9 ?_);refine ⟨_,[],[],A1d E E kR Cc qR,Aa _,by simp,E,E,_,_,E,Ad _ qD,Ad _ qD,?_⟩;omega
theorem A1R(hi lo a:Nat)(h1:hi<18446744073709551616)(h2:lo<18446744073709551616)(h3:a<18446744073709551616)(A:Mem) :
  FnX prog 147 [wd hi lo,.int .u64 (a:Int)] [] A λr M J=>M=[]∧J=[]∧∃hi' lo',r=wd hi' lo'∧hi'<18446744073709551616∧lo'<18446744073709551616∧hi'*18446744073709551616+lo'=(hi*18446744073709551616+lo+a)%340282366920938463463374607431768211456:=by
 refine Ck (N:=8) func147 E E E λw=>?_;refine A8 (D0 0 1) (A1 ?_);refine A2 E (bx_ λb2=>?_);refine A2 E (C2 (cs:=[C0,C0]) kR E λb4=>?_);refine A0 (D6 1 2 4) (A1 ?_);refine lQ_ (qw_ 2) ?_;refine mv_ ?_;refine C6 (aS E (aS E (aS E a0))) kR (A4H hi lo a 1 h1 h2 h3 qD _) E ?_;rintro r M1 J1 ⟨rfl,rfl,hi',lo',rfl,g1,g2,g3⟩;refine A2 E (A5 E E Cd kR ln2 al2 Cs ?_);refine A0 (D4 4) (A9 ?_);refine ⟨_,[],[],A1d E E kR Cc qR,Aa _,by simp,E,E,hi',lo',E,g1,g2,?_⟩;rw [g3,Nat.mul_one]
theorem A0X(hi lo:Nat)(h1:hi<18446744073709551616)(h2:lo<18446744073709551616)(A:Mem):FnV prog 148 [wd hi lo] A (.int .u64 (((hi*18446744073709551616+lo)/2251799813685248%18446744073709551616:Nat):Int)):=by refine Ck (N:=10) func148 E E E λw=>?_;refine A8 (D4 0) (A1 ?_);refine A2 E (bx_ λb1=>?_);refine aS_ E (A0 (D4 1) (A1 (lQ_ (qf_ 0 0) ?_)));refine lQ_ ql_ ?_;refine lQ_ (C2B 13 8192 18446744073709551616 E E E E E E qD) ?_;refine lQ_ (qf_ 1 1) ?_;refine lQ_ ql_ ?_;refine lQ_ (P5 51 2251799813685248 E E E E qD) ?_;refine lQ_ (B6b E E E (by show _<18446744073709551616;omega) (by show _<18446744073709551616;omega)) ?_;refine as_ (A0 (D4 2) (A9 ?_));refine ⟨_,[],[],H8 E E,Aa _,by simp,?_,E,E⟩;rw [or13 h1 h2]

def A06:LN->List Value
  | []=>[]
  | x::r=>.int .u64 ((x/18446744073709551616:Nat):Int)::.int .u64 ((x%18446744073709551616:Nat):Int)::A06 r
theorem B2X(Xs:LN):(A06 Xs).length=2*Xs.length:=by
  induction Xs with
  | nil=>rfl
  | cons x r ih=>simp [A06,ih];omega
theorem A7Q:∀(Xs:LN) (j:Nat),j<Xs.length->(A06 Xs)[2*j]? = some (.int .u64 ((Xs.getD j 0/18446744073709551616:Nat):Int))∧(A06 Xs)[2*j+1]? = some (.int .u64 ((Xs.getD j 0%18446744073709551616:Nat):Int))
  | [],j,h=>by simp at h
  | x::r,0,h=>by simp [A06]
  | x::r,j+1,h=>by have:=A7Q r j (by simpa using h);rw [show 2*(j+1)=2*j+1+1 by omega];simpa [A06] using this
theorem A7R:∀(Xs:LN) (j x:Nat),j<Xs.length->(A06 Xs).take (2*j)++[.int .u64 ((x/18446744073709551616:Nat):Int),.int .u64 ((x%18446744073709551616:Nat):Int)]++(A06 Xs).drop (2*j+2)=A06 (Xs.set j x)
  | [],j,x,h=>by simp at h
  | y::r,0,x,h=>by simp [A06]
  | y::r,j+1,x,h=>by have:=A7R r j x (by simpa using h);rw [show 2*(j+1)=2*j+1+1 by omega];simp only [A06,List.take_succ_cons,Cu,List.drop_succ_cons,List.set_cons_succ,this]
variable{ty t e:TypeId}{pos:String}{af:Array Edge}{g:Option (Nat×Bool)}{x:Operand}{b:Nat}
theorem C21{P:Program}{R:Mem}{l:Env}{d:Option Nat}{o:Nat}{Xs:LN}{fr:Nat×Nat}(j:Nat)(hx:ev l x=some (.pointer (some ⟨b,o,none⟩)))(ht:A51 P t=some 2)
    (hb:(b,Obj.cells (A06 Xs).toArray e fr)∈R) (ho:o=2*j) (hj:j<Xs.length):OpQ P R ⟨d,.load t x,ty,pos,af,g⟩ l (wd (Xs.getD j 0/18446744073709551616) (Xs.getD j 0%18446744073709551616)):=by
  subst ho;obtain ⟨h1,h2⟩:=A7Q Xs j hj;refine F1 (vs:=[.int .u64 ((Xs.getD j 0/18446744073709551616:Nat):Int),.int .u64 ((Xs.getD j 0%18446744073709551616:Nat):Int)]) hx ht hb E ?_;intro i v hv
  match i,hv with
  | 0,hv=>cases hv;exact h1
  | 1,hv=>cases hv;exact h2
  | i+2,hv=>simp at hv
theorem C22{C:Cx}{l:Env}{M J:Mem}{K:Env->Mem->Mem->Prop}{y:Operand}{o hi lo X:Nat}{Xs:LN}{M':Mem}(j:Nat)(hx:ev l x=some (.pointer (some ⟨b,o,none⟩)))(hy:ev l y=some (wd hi lo))
    (ht:P4 C.P t=some 2) (ho:o=2*j) (hj:j<Xs.length) (hh:hi<18446744073709551616) (hl:lo<18446744073709551616) (hX:hi*18446744073709551616+lo=X) (hu:Upd M b (blk (A06 Xs) e) (blk (A06 (Xs.set j X)) e) M') (k:K l M' J) :
    OpL C ⟨none,.store t x y,ty,pos,af,g⟩ l M J K:=by
  subst ho;refine K3 (vs:=[.int .u64 (hi:Int),.int .u64 (lo:Int)]) hx hy E ht (by rw [B2X];simp;omega) (by simp [Value.oneCell']) ?_ hu k;rw [<- A7R Xs j X hj];have e1:X/18446744073709551616=hi:=by omega
  have e2:X%18446744073709551616=lo:=by omega
  rw [e1,e2];rfl
theorem A5j{a:Nat}(h:a<4503599627370496):a<18446744073709551616:=by omega
theorem C4v(h l:Nat):l%2251799813685248=(h*18446744073709551616+l)%2251799813685248:=by omega
theorem lowM(x:Nat):x%18446744073709551616%2251799813685248=x%2251799813685248:=by omega
theorem C4w(x:Nat):x%2251799813685248<4503599627370496:=by omega
theorem C23{z1 z2 z3 z4 z5 y1 y2 y3 y4 y5:Nat}(h1:z1<=y1)(h2:z2<=y2)(h3:z3<=y3)(h4:z4<=y4)(h5:z5<=y5)(hb:y1+y2+y3+y4+y5<b):z1+z2+z3+z4+z5<b:=by omega
theorem back(X:Nat):X/18446744073709551616*18446744073709551616+X%18446744073709551616=X:=by omega
theorem C24{xs:LN}{i:Nat}(h:∀x∈xs,x<b)(hb:0<b):xs.getD i 0<b:=getD_lt h hb
theorem A2Z(v u:Value)(x y:Nat)(hx:Fe v x)(hy:Fe u y)(A:Mem):FnX prog 117 [v,u] [] A λr M J=>M=[]∧J=[]∧Fe r (x*y%p25):=by
 obtain ⟨a,b,c,d,e,rfl,hl0,hl1,hl2,hl3,hl4,rfl⟩:=hx;obtain ⟨u0,u1,u2,u3,u4,rfl,hu0,hu1,hu2,hu3,hu4,rfl⟩:=hy;refine Ck (N:=105) func117 E E E λw=>?_;refine A8 (D0 0 1) (A1 ?_);refine A2 E (bx_ λb2=>?_);refine A2 E (bx_ λb3=>?_);refine A2 E (C2 (cs:=[C0,C0,C0,C0,C0]) kR E λb4=>?_);refine A0 (D6 2 3 4) (A1 ?_);refine A2 E (C2 (cs:=[C0,C0,C0,C0,C0,C0,C0,C0,C0,C0]) kR E λb5=>?_);refine A0 (D7 2 3 4 5) (A3 (A1 (mv_ (A0 (F2 2 3 4 5 10) (A7 ?_)))));have has:∀x∈[a,b,c,d,e],x<4503599627370496:=by intro x hx;simp only [Cv,Cw,or_false] at hx;rcases hx with rfl|rfl|rfl|rfl|rfl<;>assumption
 have hbs:∀x∈[u0,u1,u2,u3,u4],x<4503599627370496:=by intro x hx;simp only [Cv,Cw,or_false] at hx;rcases hx with rfl|rfl|rfl|rfl|rfl<;>assumption
 have hall:=B6R a b c d e u0 u1 u2 u3 u4 hl0 hl1 hl2 hl3 hl4 hu0 hu1 hu2 hu3 hu4;have hla:[a,b,c,d,e].length=5:=rfl;have hlb:[u0,u1,u2,u3,u4].length=5:=rfl;refine A0S (M':=[(b5,blk (A06 [0,0,0,0,0]) 231),(b4,blk [C0,C0,C0,C0,C0] 189),(b3,blk (nums .u64 [u0,u1,u2,u3,u4]) 189),(b2,blk (nums .u64 [a,b,c,d,e]) 189)]) (Ce E) qI ?_;generalize [a,b,c,d,e]=xs at *;generalize [u0,u1,u2,u3,u4]=ys at *;refine E5 (α:=Nat) (λi=>[(2,(vP b2)),(3,(vP b3)),(4,(vP b4)),(5,(vP b5)),(10,.int .i64 (i:Int))]) (λi=>[(b5,blk (A06 (A6w xs ys i)) 231),(b4,blk [C0,C0,C0,C0,C0] 189),(b3,blk (nums .u64 ys) 189),(b2,blk (nums .u64 xs) 189)]) (λ_=>[]) (λi=>i<=5) (λi=>5-i) 0 qD (F2 2 3 4 5 10) .rfl qI ?_;rintro i hi;refine A1 (lQ_ (E8 E E E) (A0 (G7 2 3 4 5 10 11) (A3 ?_)));refine C3 E ?_ ?_<;>intro hc
 .
  have hi5:i<5:=by simp at hc;omega
  have hfa:xs.getD i 0<4503599627370496:=C24 has qD;refine A6 (nx (F2 2 3 4 5 10) (A3 (A7 (A1 (mV_ E (aS_ E (A0 (G7 2 3 4 5 6 10) (A1 (mv_ (A0 (N9 2 3 4 5 6 10 13) (A7 ?_)))))))))));refine E5 (α:=Nat) (λk=>[(2,(vP b2)),(3,(vP b3)),(4,(vP b4)),(5,(vP b5)),(6,.int .i64 (i:Int)),(10,.int .i64 (i:Int)),(13,.int .i64 (k:Int))]) (λk=>[(b5,blk (A06 (A6v xs ys i k (A6w xs ys i))) 231),(b4,blk [C0,C0,C0,C0,C0] 189),(b3,blk (nums .u64 ys) 189),(b2,blk (nums .u64 xs) 189)]) (λ_=>[]) (λk=>k<=5) (λk=>5-k) 0 qD (N9 2 3 4 5 6 10 13) .rfl qI ?_;rintro k hk;refine A1 (lQ_ (E8 E E E) (A0 (W6 2 3 4 5 6 10 13 14) (A3 ?_)));refine C3 E ?_ ?_<;>intro hc
  .
   have hk5:k<5:=by simp at hc;omega
   have hfb:ys.getD k 0<4503599627370496:=C24 hbs qD;have hlx:(A6v xs ys i k (A6w xs ys i)).length=5:=by rw [A9L,B6Q]
   have hXlt:∀j,(A6v xs ys i k (A6w xs ys i)).getD j 0<340282366920938463463374607431768211456:=λj=>getD_lt (B2S xs ys i k (C0m xs ys i)) qD;refine A6 (nx (N9 2 3 4 5 6 10 13) (A3 (A7 (A1 (mV_ E (aS_ E (A0 (W6 2 3 4 5 6 7 10 13) (A1 (mv_ (mv_ ?_))))))))));refine lQ_ (D5 ((i+k:Nat):Int) E E (F7 qO qO qO)) ?_;refine lQ_ (E8 E E E) (A0 (A0q 2 3 4 5 6 7 10 13 19) ?_);refine C3 E ?_ ?_<;>intro hc
   .
    have hs5:i+k<5:=by simp at hc;omega
    have hj:C0k i k=i+k:=by unfold C0k;rw [if_pos hs5]
    have hfx:C2k xs i k=xs.getD i 0:=by unfold C2k;rw [if_pos hs5]
    refine H3 (.range 16) (zp 0 [0,0,0,0,0,0,0,1,0,0,1,0,0,1,2,0,2]) kR kR λhs=>?_;refine fM_ E E (fm_ ?_);refine fQ_ E (D5 ((i+k:Nat):Int) E E (F7 qO qO qO)) ?_;refine fM_ E E (fm_ ?_);refine fQ_ E (D5 ((i+k:Nat):Int) E E (F7 qO qO qO)) ?_;refine fQ_ E (F9 (e:=230) (n:=5) (sz:=2) (i:=i+k) E E kR kR E qO) ?_;refine fR_ E (C21 (i+k) E kR Cc qO qO) ?_;refine fm_ ?_;refine fQ_ E (F9 (e:=130) (n:=5) (sz:=1) (i:=i) E E kR kR E qO) ?_;refine fR_ E (I3 i E kR (by first|exact Cc|exact mA (by assumption)) qO qO) ?_;refine fm_ ?_;refine fQ_ E (F9 (e:=130) (n:=5) (sz:=1) (i:=k) E E kR kR E qO) ?_;refine fR_ E (I3 k E kR (by first|exact Cc|exact mA (by assumption)) qO qO) ?_;refine G5 E (aS E (aS E (aS E a0))) kR (A4H _ _ _ _ (by have:=hXlt (i+k);omega) (Ad _ qD) (A5j hfa) (A5j hfb) _) E ?_;rintro r1 M1 J1 ⟨rfl,rfl,h1,l1,rfl,g1,k1,e1⟩;rw [back] at e1;refine fQ_ E (F9 (e:=230) (n:=5) (sz:=2) (i:=i+k) E E kR kR E qO) ?_;refine G1 E E E (C22 (Xs:=A6v xs ys i k (A6w xs ys i)) (i+k) E E kR qO qO g1 k1 e1 Cs ?_);rw [show (A6v xs ys i k (A6w xs ys i)).set (i+k) (((A6v xs ys i k (A6w xs ys i)).getD (i+k) 0+xs.getD i 0*ys.getD k 0)%340282366920938463463374607431768211456)=A6v xs ys i (k+1) (A6w xs ys i) by rw [A6v,B2R,hj,hfx]];refine R7 (nb (nx (N9 2 3 4 5 6 10 13) (C1 ?_)));refine lQ_ (D5 ((k+1:Nat):Int) E E (F7 qO qO qO)) ?_;refine mv_ (C5 ?_);exact rn (k+1) qO qO (N9 2 3 4 5 6 10 13) .rfl qI
   .
    have hs5:¬i+k<5:=by simp at hc;omega
    have hj:C0k i k=i+k-5:=by unfold C0k;rw [if_neg hs5]
    have hfx:C2k xs i k=19*xs.getD i 0%18446744073709551616:=by unfold C2k;rw [if_neg hs5]
    refine H3 (.range 19) (zp 0 [0,0,0,0,0,0,0,0,0,1,0,0,1,0,0,0,1,2,0,2]) kR kR λhs=>?_;refine fM_ E E (fm_ ?_);refine fQ_ E (D5 ((i+k:Nat):Int) E E (F7 qO qO qO)) ?_;refine fQ_ E (D5 ((i+k-5:Nat):Int) E E (W7 qO qO qO)) ?_;refine fM_ E E (fm_ ?_);refine fQ_ E (D5 ((i+k:Nat):Int) E E (F7 qO qO qO)) ?_;refine fQ_ E (D5 ((i+k-5:Nat):Int) E E (W7 qO qO qO)) ?_;refine fQ_ E (F9 (e:=230) (n:=5) (sz:=2) (i:=i+k-5) E E kR kR E qO) ?_;refine fR_ E (C21 (i+k-5) E kR Cc qO qO) ?_;refine fm_ ?_;refine fQ_ E (F9 (e:=130) (n:=5) (sz:=1) (i:=i) E E kR kR E qO) ?_;refine fR_ E (I3 i E kR (by first|exact Cc|exact mA (by assumption)) qO qO) ?_;refine fQ_ E (Q2 18446744073709551616 (a:=19) E E E E E E) (fm_ ?_);refine fQ_ E (F9 (e:=130) (n:=5) (sz:=1) (i:=k) E E kR kR E qO) ?_;refine fR_ E (I3 k E kR (by first|exact Cc|exact mA (by assumption)) qO qO) ?_;refine G5 E (aS E (aS E (aS E a0))) kR (A4H _ _ _ _ (by have:=hXlt (i+k-5);omega) (Ad _ qD) (Ad _ qD) (A5j hfb) _) E ?_;rintro r1 M1 J1 ⟨rfl,rfl,h1,l1,rfl,g1,k1,e1⟩;rw [back] at e1;refine fQ_ E (F9 (e:=230) (n:=5) (sz:=2) (i:=i+k-5) E E kR kR E qO) ?_;refine G1 E E E (C22 (Xs:=A6v xs ys i k (A6w xs ys i)) (i+k-5) E E kR qO qO g1 k1 e1 Cs ?_);rw [show (A6v xs ys i k (A6w xs ys i)).set (i+k-5) (((A6v xs ys i k (A6w xs ys i)).getD (i+k-5) 0+(19*xs.getD i 0%18446744073709551616)*ys.getD k 0)%340282366920938463463374607431768211456)=A6v xs ys i (k+1) (A6w xs ys i) by rw [A6v,B2R,hj,hfx]];refine R7 (nb (nx (N9 2 3 4 5 6 10 13) (C1 ?_)));refine lQ_ (D5 ((k+1:Nat):Int) E E (F7 qO qO qO)) ?_;refine mv_ (C5 ?_);exact rn (k+1) qO qO (N9 2 3 4 5 6 10 13) .rfl qI
  .
   have hk5:k=5:=by simp at hc;omega
   subst hk5;refine D8 (te (re (be E (nb (nx (F2 2 3 4 5 10) (C1 ?_))))));refine lQ_ (D5 ((i+1:Nat):Int) E E (F7 qO qO qO)) ?_;refine mv_ (C5 ?_);exact rn (i+1) qO qO (F2 2 3 4 5 10) .rfl qI
 .
  have hi5:i=5:=by simp at hc;omega
  subst hi5;rw [hall];clear hall;have z00:=zb hl0 hu0;have z01:=A5H hl1 hu4;have z02:=A5H hl2 hu3;have z03:=A5H hl3 hu2;have z04:=A5H hl4 hu1;have y0:=C23 z00 z01 z02 z03 z04 (b:=2596148429267413814265248164610048) qD;clear z00 z01 z02 z03 z04;have z10:=zb hl0 hu1;have z11:=zb hl1 hu0;have z12:=A5H hl2 hu4;have z13:=A5H hl3 hu3;have z14:=A5H hl4 hu2;have y1:=C23 z10 z11 z12 z13 z14 (b:=2596148429267413814265248164610048) qD;clear z10 z11 z12 z13 z14;have z20:=zb hl0 hu2;have z21:=zb hl1 hu1;have z22:=zb hl2 hu0;have z23:=A5H hl3 hu4;have z24:=A5H hl4 hu3;have y2:=C23 z20 z21 z22 z23 z24 (b:=2596148429267413814265248164610048) qD;clear z20 z21 z22 z23 z24;have z30:=zb hl0 hu3;have z31:=zb hl1 hu2;have z32:=zb hl2 hu1;have z33:=zb hl3 hu0;have z34:=A5H hl4 hu4;have y3:=C23 z30 z31 z32 z33 z34 (b:=2596148429267413814265248164610048) qD;clear z30 z31 z32 z33 z34;have z40:=zb hl0 hu4;have z41:=zb hl1 hu3;have z42:=zb hl2 hu2;have z43:=zb hl3 hu1;have z44:=zb hl4 hu0;have y4:=C23 z40 z41 z42 z43 z44 (b:=162259276829213363391578010288128) qD;clear z40 z41 z42 z43 z44;have hring:=B6P a b c d e u0 u1 u2 u3 u4;generalize a*u0+19*b*u4+19*c*u3+19*d*u2+19*e*u1=R0 at *;generalize a*u1+b*u0+19*c*u4+19*d*u3+19*e*u2=R1 at *;generalize a*u2+b*u1+c*u0+19*d*u4+19*e*u3=R2 at *;generalize a*u3+b*u2+c*u1+d*u0+19*e*u4=R3 at *;generalize a*u4+b*u3+c*u2+d*u1+e*u0=R4 at *;have x0:R0/18446744073709551616<18446744073709551616:=by omega
  have x1:R1/18446744073709551616<18446744073709551616:=by omega
  have x2:R2/18446744073709551616<18446744073709551616:=by omega
  have x3:R3/18446744073709551616<18446744073709551616:=by omega
  have x4:R4/18446744073709551616<18446744073709551616:=by omega
  simp only [A06];refine D8 (te (re (be E (nx (D0 4 5) (A1 ?_)))));refine A2 E (C2 (cs:=[C0,C0,C0,C0,C0]) kR E λb8=>?_);refine A0 (D6 4 5 8) (A3 (A1 (mv_ (A0 (D7 4 5 8 57) (A7 ?_)))));refine Y6 5 ?_;refine I2 ?_;refine A1 ?_;refine lQ_ (F5 true E E (ltT qD)) ?_;refine A0 (F2 4 5 8 57 58) (A3 ?_);refine D9 E ?_;refine A6 (nx (D7 4 5 8 57) (A3 (A7 (A1 (mv_ (as_ (A0 (F2 4 5 8 9 57) ?_)))))));refine C8 (.range 12) (zp 0 [0,0,0,0,0,1,0,0,1,2,2,0,2]) kR kR λhs=>?_;refine fm_ ?_;refine fQ_ E (D5 (1:Int) E E (F7 qD qD qD)) ?_;refine fm_ ?_;refine fQ_ E (D5 (1:Int) E E (F7 qD qD qD)) ?_;refine fQ_ E (qi_ 2 230 5 2 1) ?_;refine fR_ E (H9 (n:=2) E kR (by first|exact Cc|exact mA (by assumption)) Cr) ?_;refine fM_ E E (fQ_ E (qi_ 0 230 5 2 0) ?_);refine fR_ E (H9 (n:=2) E kR (by first|exact Cc|exact mA (by assumption)) Cr) ?_;refine N4 E (aS E a0) kR (A0X _ _ (by first|assumption|exact A5j (by assumption)|decide|exact Ad _ qD) (by first|assumption|exact A5j (by assumption)|decide|exact Ad _ qD) _) E ?_;refine G5 E (aS E (aS E a0)) kR (A1R _ _ _ (by first|assumption|exact A5j (by assumption)|decide|exact Ad _ qD) (by first|assumption|exact A5j (by assumption)|decide|exact Ad _ qD) (Ad _ qD) _) E ?_;rintro r1 M1 J1 ⟨rfl,rfl,h1,l1,rfl,g1,k1,qq1⟩;refine fQ_ E (qi_ 2 230 5 2 1) ?_;refine G1 E E E (A30 E E kR al2 Cs ?_);refine E0 (F2 4 5 8 9 57) (C1 (mV_ E (mV_ E (lQ_ (qi_ 0 230 5 2 0) (lQ_ (qf_ 1 1) ?_)))));refine lQ_ ql_ ?_;refine lQ_ (N5 51 2251799813685248 E E E E E (by show _<18446744073709551616;first|assumption|exact Ad _ qD|omega) qD) ?_;refine lQ_ (qi_ 0 130 5 1 0) ?_;refine A2 E (E4 E E E kR Cq Cs ?_);refine C5 (nb (nx (D7 4 5 8 57) (C1 ?_)));refine lQ_ (D5 (1:Int) E E (F7 qD qD qD)) ?_;refine mv_ (C5 ?_);refine un (D7 4 5 8 57) ?_;refine I2 ?_;refine A1 ?_;refine lQ_ (F5 true E E (ltT qD)) ?_;refine A0 (F2 4 5 8 57 58) (A3 ?_);refine D9 E ?_;refine A6 (nx (D7 4 5 8 57) (A3 (A7 (A1 (mv_ (as_ (A0 (F2 4 5 8 9 57) ?_)))))));refine C8 (.range 12) (zp 0 [0,0,0,0,0,1,0,0,1,2,2,0,2]) kR kR λhs=>?_;refine fm_ ?_;refine fQ_ E (D5 (2:Int) E E (F7 qD qD qD)) ?_;refine fm_ ?_;refine fQ_ E (D5 (2:Int) E E (F7 qD qD qD)) ?_;refine fQ_ E (qi_ 4 230 5 2 2) ?_;refine fR_ E (H9 (n:=2) E kR (by first|exact Cc|exact mA (by assumption)) Cr) ?_;refine fM_ E E (fQ_ E (qi_ 2 230 5 2 1) ?_);refine fR_ E (H9 (n:=2) E kR (by first|exact Cc|exact mA (by assumption)) Cr) ?_;refine N4 E (aS E a0) kR (A0X _ _ (by first|assumption|exact A5j (by assumption)|decide|exact Ad _ qD) (by first|assumption|exact A5j (by assumption)|decide|exact Ad _ qD) _) E ?_;refine G5 E (aS E (aS E a0)) kR (A1R _ _ _ (by first|assumption|exact A5j (by assumption)|decide|exact Ad _ qD) (by first|assumption|exact A5j (by assumption)|decide|exact Ad _ qD) (Ad _ qD) _) E ?_;rintro r2 M2 J2 ⟨rfl,rfl,h2,l2,rfl,g2,k2,qq2⟩;refine fQ_ E (qi_ 4 230 5 2 2) ?_;refine G1 E E E (A30 E E kR al2 Cs ?_);refine E0 (F2 4 5 8 9 57) (C1 (mV_ E (mV_ E (lQ_ (qi_ 2 230 5 2 1) (lQ_ (qf_ 3 1) ?_)))));refine lQ_ ql_ ?_;refine lQ_ (N5 51 2251799813685248 E E E E E (by show _<18446744073709551616;first|assumption|exact Ad _ qD|omega) qD) ?_;refine lQ_ (qi_ 1 130 5 1 1) ?_;refine A2 E (E4 E E E kR Cq Cs ?_);refine C5 (nb (nx (D7 4 5 8 57) (C1 ?_)));refine lQ_ (D5 (2:Int) E E (F7 qD qD qD)) ?_;refine mv_ (C5 ?_);refine un (D7 4 5 8 57) ?_;refine I2 ?_;refine A1 ?_;refine lQ_ (F5 true E E (ltT qD)) ?_;refine A0 (F2 4 5 8 57 58) (A3 ?_);refine D9 E ?_
  refine A6 (nx (D7 4 5 8 57) (A3 (A7 (A1 (mv_ (as_ (A0 (F2 4 5 8 9 57) ?_)))))));refine C8 (.range 12) (zp 0 [0,0,0,0,0,1,0,0,1,2,2,0,2]) kR kR λhs=>?_;refine fm_ ?_;refine fQ_ E (D5 (3:Int) E E (F7 qD qD qD)) ?_;refine fm_ ?_;refine fQ_ E (D5 (3:Int) E E (F7 qD qD qD)) ?_;refine fQ_ E (qi_ 6 230 5 2 3) ?_;refine fR_ E (H9 (n:=2) E kR (by first|exact Cc|exact mA (by assumption)) Cr) ?_;refine fM_ E E (fQ_ E (qi_ 4 230 5 2 2) ?_);refine fR_ E (H9 (n:=2) E kR (by first|exact Cc|exact mA (by assumption)) Cr) ?_;refine N4 E (aS E a0) kR (A0X _ _ (by first|assumption|exact A5j (by assumption)|decide|exact Ad _ qD) (by first|assumption|exact A5j (by assumption)|decide|exact Ad _ qD) _) E ?_;refine G5 E (aS E (aS E a0)) kR (A1R _ _ _ (by first|assumption|exact A5j (by assumption)|decide|exact Ad _ qD) (by first|assumption|exact A5j (by assumption)|decide|exact Ad _ qD) (Ad _ qD) _) E ?_;rintro r3 M3 J3 ⟨rfl,rfl,h3,l3,rfl,g3,k3,qq3⟩;refine fQ_ E (qi_ 6 230 5 2 3) ?_;refine G1 E E E (A30 E E kR al2 Cs ?_);refine E0 (F2 4 5 8 9 57) (C1 (mV_ E (mV_ E (lQ_ (qi_ 4 230 5 2 2) (lQ_ (qf_ 5 1) ?_)))));refine lQ_ ql_ ?_;refine lQ_ (N5 51 2251799813685248 E E E E E (by show _<18446744073709551616;first|assumption|exact Ad _ qD|omega) qD) ?_;refine lQ_ (qi_ 2 130 5 1 2) ?_;refine A2 E (E4 E E E kR Cq Cs ?_);refine C5 (nb (nx (D7 4 5 8 57) (C1 ?_)));refine lQ_ (D5 (3:Int) E E (F7 qD qD qD)) ?_;refine mv_ (C5 ?_);refine un (D7 4 5 8 57) ?_;refine I2 ?_;refine A1 ?_;refine lQ_ (F5 true E E (ltT qD)) ?_;refine A0 (F2 4 5 8 57 58) (A3 ?_);refine D9 E ?_;refine A6 (nx (D7 4 5 8 57) (A3 (A7 (A1 (mv_ (as_ (A0 (F2 4 5 8 9 57) ?_)))))));refine C8 (.range 12) (zp 0 [0,0,0,0,0,1,0,0,1,2,2,0,2]) kR kR λhs=>?_;refine fm_ ?_;refine fQ_ E (D5 (4:Int) E E (F7 qD qD qD)) ?_;refine fm_ ?_;refine fQ_ E (D5 (4:Int) E E (F7 qD qD qD)) ?_;refine fQ_ E (qi_ 8 230 5 2 4) ?_;refine fR_ E (H9 (n:=2) E kR (by first|exact Cc|exact mA (by assumption)) Cr) ?_;refine fM_ E E (fQ_ E (qi_ 6 230 5 2 3) ?_);refine fR_ E (H9 (n:=2) E kR (by first|exact Cc|exact mA (by assumption)) Cr) ?_;refine N4 E (aS E a0) kR (A0X _ _ (by first|assumption|exact A5j (by assumption)|decide|exact Ad _ qD) (by first|assumption|exact A5j (by assumption)|decide|exact Ad _ qD) _) E ?_;refine G5 E (aS E (aS E a0)) kR (A1R _ _ _ (by first|assumption|exact A5j (by assumption)|decide|exact Ad _ qD) (by first|assumption|exact A5j (by assumption)|decide|exact Ad _ qD) (Ad _ qD) _) E ?_;rintro r4 M4 J4 ⟨rfl,rfl,h4,l4,rfl,g4,k4,qq4⟩;refine fQ_ E (qi_ 8 230 5 2 4) ?_;refine G1 E E E (A30 E E kR al2 Cs ?_);refine E0 (F2 4 5 8 9 57) (C1 (mV_ E (mV_ E (lQ_ (qi_ 6 230 5 2 3) (lQ_ (qf_ 7 1) ?_)))));refine lQ_ ql_ ?_;refine lQ_ (N5 51 2251799813685248 E E E E E (by show _<18446744073709551616;first|assumption|exact Ad _ qD|omega) qD) ?_;refine lQ_ (qi_ 3 130 5 1 3) ?_;refine A2 E (E4 E E E kR Cq Cs ?_);refine C5 (nb (nx (D7 4 5 8 57) (C1 ?_)));refine lQ_ (D5 (4:Int) E E (F7 qD qD qD)) ?_;refine mv_ (C5 ?_);refine un (D7 4 5 8 57) ?_;refine I2 ?_;refine A1 ?_;refine lQ_ (F5 false E E (ltF qD)) ?_;refine A0 (F2 4 5 8 57 58) (A3 ?_);refine C7 E ?_;refine D8 (te (ue (be E (nx (D6 4 5 8) (A1 (lQ_ (qi_ 8 230 5 2 4) (lQ_ (qf_ 9 1) ?_)))))));refine lQ_ ql_ ?_;refine lQ_ (N5 51 2251799813685248 E E E E E (by show _<18446744073709551616;first|assumption|exact Ad _ qD|omega) qD) ?_;refine lQ_ (qi_ 4 130 5 1 4) ?_;refine A2 E (E4 E E E kR Cq Cs ?_);refine A0 (D6 4 5 8) ?_
  refine C8 (.range 8) (zp 0 [0,1,0,1,2,0,0,0,2]) kR kR λhs=>?_;refine fQ_ E (qi_ 0 130 5 1 0) ?_;refine fR_ E ql_ ?_;refine fQ_ E (qi_ 8 230 5 2 4) ?_;refine fR_ E (H9 (n:=2) E kR (by first|exact Cc|exact mA (by assumption)) Cr) ?_;refine N4 E (aS E a0) kR (A0X _ _ (by first|assumption|exact A5j (by assumption)|decide|exact Ad _ qD) (by first|assumption|exact A5j (by assumption)|decide|exact Ad _ qD) _) E ?_;refine fQ_ E (Q2 18446744073709551616 (a:=19) E E E E E E) (fQ_ E (G8 18446744073709551616 E E E E E E) (fQ_ E (qi_ 0 130 5 1 0) ?_));refine G1 E E E (E4 E E E kR Cq Cs ?_);refine E0 (D0 4 8) (A1 (lQ_ (qi_ 1 130 5 1 1) ?_));refine lQ_ ql_ ?_;refine lQ_ (qi_ 0 130 5 1 0) ?_;refine lQ_ ql_ ?_;refine lQ_ (P5 51 2251799813685248 E E E E qD) ?_;refine lQ_ (G8 18446744073709551616 E E E E E E) (lQ_ (qi_ 1 130 5 1 1) ?_);refine A2 E (E4 E E E kR Cq Cs ?_);refine A0 (D0 4 8) (A1 (lQ_ (qi_ 0 130 5 1 0) ?_));refine lQ_ ql_ ?_;refine lQ_ (N5 51 2251799813685248 E E E E E (by show _<18446744073709551616;first|assumption|exact Ad _ qD|omega) qD) ?_;refine lQ_ (qi_ 0 130 5 1 0) ?_;refine A2 E (E4 E E E kR Cq Cs ?_);refine A0 (D0 4 8) (A1 ?_);refine lQ_ (qw_ 5) ?_;refine A2 E (A5 E E Cd kR ln5 al5 Cs ?_);refine A0 (D4 4) (A9 ?_);rw [back] at qq1;rw [back] at qq1;rw [back] at qq2;rw [back] at qq3;rw [back] at qq4;obtain ⟨t1,t2⟩:=B6N y0 y1 y2 y3 y4 qq1 qq2 qq3 qq4 (lowM R0) (C4v _ _) (C4v _ _) (C4v _ _) (C4v _ _) E rfl;refine ⟨_,[],[],A1d E E kR Cc qR,Aa _,by simp,E,E,_,_,_,_,_,E,C4w _,t1,C4w _,C4w _,C4w _,?_⟩;rw [N8 t2,<- Nat.mul_mod,hring,Nat.add_mul_mod_self_left]
theorem L4:Fe (el 0 0 0 0 0) 0:=⟨0,0,0,0,0,E,by decide,by decide,by decide,by decide,by decide,E⟩
theorem A0I(v:Value)(x:Nat)(hx:Fe v x)(A:Mem):FnX prog 144 [v] [] A λr M J=>M=[]∧J=[]∧Fe r (x*x%p25):=by have hx0:=hx;obtain ⟨a,b,c,d,e,rfl,-⟩:=hx;refine Ck (N:=6) func144 E E E λw=>?_;refine A8 (D4 0) (A1 ?_);refine A2 E (bx_ λb1=>?_);refine A2 E (C2 (cs:=[C0,C0,C0,C0,C0]) kR E λb2=>?_);refine A0 (D0 1 2) (A1 ?_);refine lQ_ (qw_ 5) ?_;refine lQ_ (qw_ 5) ?_;refine C6 (aS E (aS E a0)) kR (A2Z _ _ _ _ (by exact hx0) (by exact hx0) _) E ?_;rintro r1 M1 J1 ⟨rfl,rfl,a1,b1,c1,d1,e1,rfl,hr⟩;refine A2 E (A5 E E Cd kR ln5 al5 Cs ?_);refine A0 (D4 2) (A9 ?_);exact ⟨_,[],[],A1d E E kR Cc qR,Aa _,by simp,E,E,a1,b1,c1,d1,e1,E,hr⟩
theorem B2Y(v:Value)(x:Nat)(hx:Fe v x)(A:Mem):FnX prog 165 [v] [] A λr M J=>M=[]∧J=[]∧Fe r ((p25-x)%p25):=by have hx0:=hx;obtain ⟨a,b,c,d,e,rfl,-⟩:=hx;refine Ck (N:=6) func165 E E E λw=>?_;refine A8 (D4 0) (A1 ?_);refine A2 E (bx_ λb1=>?_);refine A2 E (C2 (cs:=[C0,C0,C0,C0,C0]) kR E λb2=>?_);refine A0 (D0 1 2) (A1 ?_);refine lQ_ (F0 (place:=λi=>some (i*1,1)) (z:=[C0,C0,C0,C0,C0]) (λ_=>by kernel_rfl) e0 bd0) ?_;refine lQ_ (qw_ 5) ?_;refine C6 (aS E (aS E a0)) kR (A7P _ _ _ _ (by exact L4) (by exact hx0) _) E ?_;rintro r1 M1 J1 ⟨rfl,rfl,hr⟩;rw [Nat.zero_add] at hr;obtain ⟨a1,b1,c1,d1,e1,rfl,hr⟩:=hr;refine A2 E (A5 E E Cd kR ln5 al5 Cs ?_);refine A0 (D4 2) (A9 ?_);exact ⟨_,[],[],A1d E E kR Cc qR,Aa _,by simp,E,E,a1,b1,c1,d1,e1,E,hr⟩
theorem A4I(n:Nat)(hn:n<4294967296)(A:Mem):FnX prog 114 [.int .u32 (n:Int)] [] A λr M J=>M=[]∧J=[]∧Fe r n:=by refine Ck (N:=6) func114 E E E λw=>?_;refine A8 (D4 0) (A1 ?_);refine A2 E (C2 (cs:=[C0,C0,C0,C0,C0]) kR E λb2=>?_);refine A0 (D0 0 2) (A1 (mV_ E (lQ_ (B1G E kR) ?_)));refine lQ_ (F0 (place:=λi=>some (i*1,1)) (z:=[C0,C0,C0,C0,C0]) (λ_=>by kernel_rfl) (eS E e0) (bdS 0 1 E qR bd0)) ?_;refine A2 E (A5 E E Cd kR ln5 al5 Cs ?_);refine A0 (D4 2) (A9 ?_);refine ⟨_,[],[],A1d E E kR Cc qR,Aa _,by simp,E,E,n%18446744073709551616,0,0,0,0,E,by omega,by decide,by decide,by decide,by decide,?_⟩;unfold fv p25;omega

end Go.Proofs.YtglbhoeolghndaaGreatDoor
namespace Go.Px
def bv:List Nat->Nat
  | []=>0
  | b::r=>b+256*bv r
variable{p:List Nat}
theorem C25(h:∀x∈p,x<256):bv p<256^p.length:=by
  induction p with
  | nil=>decide
  | cons b r ih =>
    have h1:=h b (by simp);have h2:=ih λx hx=>h x (by simp [hx]);simp only [bv,List.length_cons,Nat.pow_succ];omega
theorem C0o(h:∀x∈p,x<256)(i:Nat):bv p/256^i%256=p.getD i 0:=by
  induction p generalizing i with
  | nil=>simp [bv]
  | cons b r ih =>
    have h1:=h b (by simp)
    cases i with
    | zero=>simp only [bv,Nat.pow_zero,Nat.div_one,List.getD_cons_zero];omega
    | succ i =>
      rw [List.getD_cons_succ,<- ih (λx hx=>h x (by simp [hx])) i,Nat.pow_succ,Nat.mul_comm,<- Bu];congr 2;simp only [bv];omega
theorem A7S(h:∀x∈p,x<256)(i:Nat):p.getD (i/8) 0/2^(i%8)%2=bv p/2^i%2:=by
  rw [<- C0o h,show (256:Nat)=2^8 from rfl,<- Nat.pow_mul];have h1:i%8<8:=Ad _ (by decide);have e:2^8=2^(i%8)*(2*2^(7-i%8)):=by rw [<- Nat.pow_succ',<- Nat.pow_add];congr 1;omega
  rw [e,Nat.mod_mul_right_div_self,Nat.mod_mul_right_mod,Bu,<- Nat.pow_add];congr 3;omega
def prt(w N i j:Nat):Nat:=N%2^i/2^(w*j)%2^w
variable{w N i:Nat}
theorem B6U(hw:0<w):prt w N (i+1) (i/w)=(prt w N i (i/w) ||| (N/2^i%2) <<< (i%w)):=by
  have hr:i%w<w:=Ad _ hw;have hi:w*(i/w)+i%w=i:=Nat.div_add_mod i w
  have hX:N%2^i/2^(w*(i/w))<2^(i%w):=by rw [Nat.div_lt_iff_lt_mul (Bx _),<- Nat.pow_add,Nat.add_comm,hi];exact Ad _ (Bx _)
  have hle:2^(i%w)*2<=2^w:=by rw [<- Nat.pow_succ];exact Bq (by decide) hr
  have hb:N/2^i%2<2:=Ad _ (by decide);unfold prt;rw [Af (Bp hX (by omega)),Nat.or_comm,<- Nat.shiftLeft_add_eq_or_of_lt hX,Nat.mod_pow_succ]
  have e:(N%2^i+2^i*(N/2^i%2))/2^(w*(i/w))=N%2^i/2^(w*(i/w))+2^(i%w)*(N/2^i%2):=by
    conv=>lhs;rw [show 2^i*(N/2^i%2)=2^(w*(i/w))*(2^(i%w)*(N/2^i%2)) by rw [<- Nat.mul_assoc,<- Nat.pow_add,hi]]
    rw [Nat.add_mul_div_left _ _ (Bx _)]
  rw [e,Nat.shiftLeft_eq,Af,Nat.add_comm,Nat.mul_comm];generalize N/2^i%2=b at *;have:2^(i%w)*b<=2^(i%w)*1:=Nat.mul_le_mul_left _ (by omega);omega
theorem B6V{j:Nat}(hw:0<w)(h:j≠i/w):prt w N (i+1) j=prt w N i j:=by
  have hi:w*(i/w)+i%w=i:=Nat.div_add_mod i w;have hr:i%w<w:=Ad _ hw;unfold prt;rw [Nat.mod_pow_succ];rcases Nat.lt_or_gt_of_ne h with hl|hg
  . have hge:w*(j+1)<=i:=by have:=Nat.mul_le_mul_left w (show j+1<=i/w from hl);omega
    have e:2^i*(N/2^i%2)=2^(w*j)*(2^w*(2^(i-w*(j+1))*(N/2^i%2))):=by rw [<- Nat.mul_assoc,<- Nat.mul_assoc,<- Nat.pow_add,<- Nat.pow_add];congr 2;rw [Nat.mul_add] at hge ⊢;omega
    rw [e,Nat.add_mul_div_left _ _ (Bx _),Nat.add_mul_mod_self_left]
  . have hge:i+1<=w*j:=by have:=Nat.mul_le_mul_left w (show i/w+1<=j from hg);rw [Nat.mul_add] at this;omega
    have h1:N%2^i<2^(w*j):=Bp (Ad _ (Bx _)) (Bq (by decide) (by omega))
    have h2:N%2^i+2^i*(N/2^i%2)<2^(w*j):=by rw [<- Nat.mod_pow_succ];exact Bp (Ad _ (Bx _)) (Bq (by decide) hge)
    rw [Nat.div_eq_of_lt h1,Nat.div_eq_of_lt h2]
def A02(w n N i:Nat):List Nat:=(List.range n).map (prt w N i)
theorem P6(w n N i:Nat):(A02 w n N i).length=n:=by simp [A02]
theorem A20{n j:Nat}(h:j<n):(A02 w n N i).getD j 0=prt w N i j:=by simp [A02,List.getD,h]
theorem A4J(w n N:Nat):A02 w n N 0=List.replicate n 0:=by
  apply List.ext_getElem?;intro j;simp only [A02,List.getElem?_map,List.getElem?_replicate];by_cases h:j<n
  . simp [h,prt,Nat.mod_one]
  . simp [h]
theorem A4K{n:Nat}(hw:0<w)(hi:i/w<n):A02 w n N (i+1)=(A02 w n N i).set (i/w) (prt w N i (i/w) ||| (N/2^i%2) <<< (i%w)):=by
  apply List.ext_getElem?;intro j;rw [List.getElem?_set];simp only [A02,List.getElem?_map,List.length_map,List.length_range];by_cases h:j<n
  . by_cases e:i/w=j
    . subst e;simp [h,B6U hw]
    . simp [h,e,B6V hw (λh=>e h.symm)]
  . have:i/w≠j:=by omega
    simp [h,this]
theorem B2Z(p q:List Nat):bv (p++q)=bv p+256^p.length*bv q:=by
  induction p with
  | nil=>simp [bv]
  | cons b r ih=>simp only [Cu,bv,ih,List.length_cons,Nat.pow_succ];grind
theorem A21(X:Nat):∀n,bv ((List.range n).map λj=>X/2^(8*j)%2^8)=X%2^(8*n)
  | 0=>by simp [bv,Nat.mod_one]
  | n+1=>by rw [List.range_succ,List.map_append,B2Z,A21 X n,List.length_map,List.length_range];simp only [List.map_cons,List.map_nil,bv,Nat.mul_zero,Nat.add_zero];rw [show (256:Nat)^n=2^(8*n) by rw [Nat.pow_mul],show 8*(n+1)=8*n+8 by omega,Nat.pow_add,Nat.mod_mul]
theorem B3a(x:Nat):bv (A02 8 32 x 255)=x%2^255:=by unfold A02 prt;rw [A21,Af];exact Bp (Ad _ (Bx _)) (Bq (by decide) (by decide))
theorem A07(x i:Nat):∀y∈A02 8 32 x i,y<256:=by intro y hy;obtain ⟨j,_,rfl⟩:=List.mem_map.1 hy;exact Ad _ (Bx _)
theorem B6W{x y:Nat}(hx:x<p25)(hy:y<p25)(h:A02 8 32 x 255=A02 8 32 y 255):x=y:=by have:=congrArg bv h;rw [B3a,B3a,Af (Nat.lt_trans hx (by decide)),Af (Nat.lt_trans hy (by decide))] at this;exact this
end Go.Px

namespace Go.Proofs.YtglbhoeolghndaaGreatDoor
open Go.Px
def rdN(p:LN):Nat:=if p.length=32 then bv p%57896044618658097711785492504343953926634992332820282019728792003956564819968%p25 else 0
theorem C0p(N:Nat):fv (prt 51 N 255 0) (prt 51 N 255 1) (prt 51 N 255 2) (prt 51 N 255 3) (prt 51 N 255 4)=N%57896044618658097711785492504343953926634992332820282019728792003956564819968:=by unfold fv prt;simp only [Nat.reducePow,Nat.reduceMul];omega
theorem A9M(w N i j:Nat):prt w N i j<2^w:=Ad _ (Bx _)
theorem B3b(N i j:Nat):prt 51 N i j<4503599627370496:=Nat.lt_trans (A9M 51 N i j) qD
theorem A4L{b s w:Nat}(hb:b<2)(hs:s<w):b <<< s<2^w:=by
  rw [Nat.shiftLeft_eq];have h1:2^s*2<=2^w:=by rw [<- Nat.pow_succ];exact Bq qD hs
  have h2:b*2^s<=1*2^s:=Au _ qO;have h3:=Bx s;omega
theorem A5I(pv:Value)(p:LN)(A:Mem)(hp:Rd A 1 pv p.length (nums .u8 p))(hp256:∀x∈p,x<256)(hpl:p.length<9223372036854775808):FnX prog 113 [pv] [] A λr M J=>M=[]∧J=[]∧Fe r (rdN p):=by
 refine Ck (N:=33) func113 E E E λw=>?_;refine A8 (D4 0) (A1 ?_);refine A2 E (C2 (cs:=[C0,C0,C0,C0,C0]) kR E λb2=>?_);refine A0 (D0 0 2) (A1 ?_);refine A2 E (C2 (cs:=[C0,C0,C0,C0,C0]) kR E λb3=>?_);refine A0 (D6 0 2 3) (A3 (A1 (mV_ E (lQ_ (A1f hp E kR) (lQ_ (E8 E E E) (A0 (D7 0 2 3 7) ?_))))));refine C3 E ?_ ?_<;>intro hc
 .
  have h32:p.length≠32:=by simp at hc;omega
  refine A1 ?_;refine lQ_ (qw_ 5) ?_;refine A2 E (A5 E E Cd kR ln5 al5 Cs ?_);refine A0 (D4 2) (A9 (tr ?_));refine ⟨_,[],[],A1d E E kR Cc qR,Aa _,by simp,E,E,0,0,0,0,0,E,by decide,by decide,by decide,by decide,by decide,?_⟩;rw [rdN,if_neg h32];rfl
 .
  have h32:p.length=32:=by simp at hc;omega
  have hN:=A7S hp256;refine A6 (nx (D6 0 2 3) (A3 (A1 (mv_ (A0 (D7 0 2 3 9) (A7 ?_))))));refine A0S (M':=[(b3,blk (nums .u64 (A02 51 5 (bv p) 0)) 189),(b2,blk [C0,C0,C0,C0,C0] 189)]) (Ce (by rw [A4J];rfl)) qI ?_;refine E5 (α:=Nat) (λi=>[(0,pv),(2,(vP b2)),(3,(vP b3)),(9,.int .i64 (i:Int))]) (λi=>[(b3,blk (nums .u64 (A02 51 5 (bv p) i)) 189),(b2,blk [C0,C0,C0,C0,C0] 189)]) (λ_=>[]) (λi=>i<=255) (λi=>255-i) 0 qD (D7 0 2 3 9) .rfl qI ?_;rintro i hi;refine A1 (lQ_ (E8 E E E) (A0 (F2 0 2 3 9 10) (A3 ?_)));refine C3 E ?_ ?_<;>intro hc
  .
   have hlt:i<255:=by simp at hc;omega
   have hbit:=hN i;rw [<- Bz] at hbit;have hb2:bv p/2^i%2<2:=Ad _ qD;have hps:=A4K (w:=51) (n:=5) (N:=bv p) (i:=i) qD qO;have hpg:=A20 (w:=51) (n:=5) (N:=bv p) (i:=i) (j:=i/51) qO;have hpl:=A9M 51 (bv p) i (i/51);have hsm:=A4L (w:=51) hb2 (Ad i (by decide:0<51));have hpb:p.getD (i/8) 0<256:=getD_lt hp256 qD;have hsr:=Nat.shiftRight_le (p.getD (i/8) 0) (i%8);rw [<- hpg] at hps hpl;generalize bv p/2^i%2=bt at *;have hmo:bt <<< (i%51)%2^IntKind.u64.bits=bt <<< (i%51):=Af (Nat.lt_trans hsm qD);have hto:IntKind.u64.wrap (bt:Int)=(bt:Int):=by rw [A9p,Af qO]
   refine A6 (nx (D7 0 2 3 9) (A3 (A7 (A1 (mv_ (as_ (A0 (F2 0 2 3 4 9) ?_)))))));refine H3 (.range 19) (zp 0 [0,0,0,1,0,0,0,0,1,0,0,0,0,0,0,0,0,0,0,2]) kR kR λhs=>?_;refine fm_ ?_;refine fQ_ E (A1r 51 E E E qD (A2E qO)) ?_;refine fQ_ E (F9 (e:=130) (n:=5) (sz:=1) (i:=i/51) E E kR kR E qO) ?_;refine fR_ E (I3 (i/51) E kR Cc qO (by rw [P6];omega)) ?_;refine fM_ E E (fm_ ?_);refine fQ_ E (A1r 8 E E E qD (A2E qO)) ?_;refine fQ_ E (B6f hp E E kR (i/8) E qO) ?_;refine fR_ E (A5t (hp.mono λ_ h=>mA h) E kR qO) ?_;refine fm_ ?_;refine fQ_ E (A1s 8 E E E qD) ?_;refine fQ_ E (T9 (i%8) E E E (by show _<=8;omega)) ?_;refine fQ_ E (hbit▸N5 1 2 E E E E E (by show _<256;omega) qD) ?_;refine fQ_ E (K4 bt E kR hto) (fm_ ?_);refine fQ_ E (A1s 51 E E E qD) ?_;refine fQ_ E (hmo▸A3u E (i%51) E E E (by show _<=64;omega)) ?_;refine fQ_ E (B6b E E E (Nat.lt_trans hpl qD) (Nat.lt_trans hsm qD)) ?_;refine fQ_ E (F9 (e:=130) (n:=5) (sz:=1) (i:=i/51) E E kR kR E qO) ?_;refine G1 E E E (K6 (i/51) E E kR qO (by rw [P6];omega) Cs ?_);refine R7 (nb (nx (D7 0 2 3 9) (C1 ?_)));refine lQ_ (D5 ((i+1:Nat):Int) E E (F7 qO qO qO)) ?_;refine mv_ (C5 ?_);exact rn (i+1) qO qO (D7 0 2 3 9) (Ce (by rw [hps])) qI
  .
   have hlt:i=255:=by simp at hc;omega
   subst hlt;refine D8 (te (re (be E (nx (D0 2 3) (A1 ?_)))));refine lQ_ (H1 (n:=5) (cs:=nums .u64 (A02 51 5 (bv p) 255)) E kR Cc (by rw [nums_len,P6])) ?_;refine A2 E (A5 (vs:=nums .u64 (A02 51 5 (bv p) 255)) E E E (by rw [nums_len,P6];kernel_rfl) (by rw [nums_len,P6];rfl) E9 Cs ?_);refine A0 (D4 2) (A9 ?_);refine ⟨_,[],[],A1d E E kR Cc (by rw [nums_len,P6]),Aa _,by simp,E,E,_,_,_,_,_,E,B3b _ _ _,B3b _ _ _,B3b _ _ _,B3b _ _ _,B3b _ _ _,?_⟩;rw [C0p,rdN,if_pos h32]
theorem A0x(v:Value)(x:Nat)(hx:Fe v x)(A:Mem):FnX prog 116 [v] [] A λr M J=>J=[]∧Sl 1 r 32 (nums .u8 (A02 8 32 x 255)) M:=by
 obtain ⟨a,b,c,d,e,rfl,ha,hb,hc,hd,he,rfl⟩:=hx;refine Ck (N:=80) func116 E E E λw=>?_;refine A8 (D4 0) (A1 ?_);refine A2 E (bx_ λb1=>?_);refine as_ (A0 (D4 1) (A1 ?_));refine lQ_ (qw_ 5) ?_;refine C6 (aS E a0) kR (V3 _ _ _ _ _ qO qO qO qO qO _) E ?_;rintro r3 M3 J3 ⟨rfl,rfl,a3,b3,c3,d3,e3,rfl,ha3,hb3,hc3,hd3,hv3,he3⟩;refine C6 (aS E a0) kR (V3 _ _ _ _ _ qO qO qO qO qO _) E ?_;rintro r4 M4 J4 ⟨rfl,rfl,a4,b4,c4,d4,e4,rfl,ha4,hb4,hc4,hd4,hv4,he4⟩;have hz4:=A4G ha3 hb3 hc3 hd3 he3 ha4 hb4 hc4 hd4 hv4;refine C6 (aS E a0) kR (V3 _ _ _ _ _ qO qO qO qO qO _) E ?_;rintro r5 M5 J5 ⟨rfl,rfl,a5,b5,c5,d5,e5,rfl,ha5,hb5,hc5,hd5,hv5,he5⟩;have hz5:=A4G ha4 hb4 hc4 hd4 he4 ha5 hb5 hc5 hd5 hv5;have hx5:fv a5 b5 c5 d5 e5%p25=fv a b c d e%p25:=by rw [N8 hv5,N8 hv4,N8 hv3]
 have hV5:=C2Z ha5 hb5 hc5 hd5 hz5;clear hv3 hv4 hv5 he3 he4 he5 hz4 ha3 hb3 hc3 hd3 ha4 hb4 hc4 hd4;refine A2 E (A5 E E Cd kR ln5 al5 Cs ?_);refine A0 (D4 1) (A1 (lQ_ (qi_ 0 130 5 1 0) ?_));refine lQ_ ql_ ?_;refine lQ_ (G8 18446744073709551616 (b:=19) E E E E E E) ?_;refine lQ_ (P5 51 2251799813685248 E E E E qD) ?_;refine as_ (A0 (D0 1 3) (A3 (A1 (as_ (A0 (D6 1 3 4) (A7 ?_))))));refine Y6 5 ?_;refine I2 ?_;refine A3 (A1 (mv_ ?_));refine lQ_ (F5 true E E (ltT qD)) ?_;refine A0 (D7 1 3 4 17) ?_;refine D9 E ?_;refine A6 (nx (D6 1 3 4) (A3 (A7 (C1 (mV_ E (lQ_ (qi_ 1 130 5 1 1) ?_))))));refine lQ_ ql_ ?_;refine mV_ E (lQ_ (G8 18446744073709551616 E E E E E E) ?_);refine lQ_ (P5 51 2251799813685248 E E E E qD) ?_;refine as_ (C5 (nb (nx (D6 1 3 4) (C1 (mv_ ?_)))));refine lQ_ (D5 (2:Int) E E (F7 qD qD qD)) ?_;refine as_ (C5 ?_);refine un (D6 1 3 4) ?_;refine I2 ?_;refine A3 (A1 (mv_ ?_));refine lQ_ (F5 true E E (ltT qD)) ?_;refine A0 (D7 1 3 4 17) ?_;refine D9 E ?_;refine A6 (nx (D6 1 3 4) (A3 (A7 (C1 (mV_ E (lQ_ (qi_ 2 130 5 1 2) ?_))))));refine lQ_ ql_ ?_;refine mV_ E (lQ_ (G8 18446744073709551616 E E E E E E) ?_);refine lQ_ (P5 51 2251799813685248 E E E E qD) ?_;refine as_ (C5 (nb (nx (D6 1 3 4) (C1 (mv_ ?_)))));refine lQ_ (D5 (3:Int) E E (F7 qD qD qD)) ?_;refine as_ (C5 ?_);refine un (D6 1 3 4) ?_;refine I2 ?_;refine A3 (A1 (mv_ ?_));refine lQ_ (F5 true E E (ltT qD)) ?_;refine A0 (D7 1 3 4 17) ?_;refine D9 E ?_;refine A6 (nx (D6 1 3 4) (A3 (A7 (C1 (mV_ E (lQ_ (qi_ 3 130 5 1 3) ?_))))));refine lQ_ ql_ ?_;refine mV_ E (lQ_ (G8 18446744073709551616 E E E E E E) ?_);refine lQ_ (P5 51 2251799813685248 E E E E qD) ?_;refine as_ (C5 (nb (nx (D6 1 3 4) (C1 (mv_ ?_)))));refine lQ_ (D5 (4:Int) E E (F7 qD qD qD)) ?_;refine as_ (C5 ?_);refine un (D6 1 3 4) ?_;refine I2 ?_;refine A3 (A1 (mv_ ?_));refine lQ_ (F5 true E E (ltT qD)) ?_;refine A0 (D7 1 3 4 17) ?_;refine D9 E ?_;refine A6 (nx (D6 1 3 4) (A3 (A7 (C1 (mV_ E (lQ_ (qi_ 4 130 5 1 4) ?_))))));refine lQ_ ql_ ?_;refine mV_ E (lQ_ (G8 18446744073709551616 E E E E E E) ?_);refine lQ_ (P5 51 2251799813685248 E E E E qD) ?_;refine as_ (C5 (nb (nx (D6 1 3 4) (C1 (mv_ ?_)))));refine lQ_ (D5 (5:Int) E E (F7 qD qD qD)) ?_;refine as_ (C5 ?_);refine un (D6 1 3 4) ?_;refine I2 ?_;refine A3 (A1 (mv_ ?_));refine lQ_ (F5 false E E (ltF qD)) ?_;refine A0 (D7 1 3 4 17) ?_;refine C7 E ?_;refine D8 (te (ue (be E (nx (D0 1 3) ?_))));obtain ⟨q,hqe,hq⟩:=C0n ha5 hb5 hc5 hd5 hz5;rw [<- hqe];clear hqe;refine A1 (lQ_ (qi_ 0 130 5 1 0) ?_);refine lQ_ ql_ ?_;refine mV_ E (lQ_ (Q2 18446744073709551616 (a:=19) E E E E E E) (lQ_ (G8 18446744073709551616 E E E E E E) (lQ_ (qi_ 0 130 5 1 0) ?_)));refine A2 E (E4 E E E kR Cq Cs ?_);refine A0 (D4 1) (A3 (A1 (mv_ (A0 (D0 1 32) (A7 ?_)))));refine Y6 5 ?_;refine I2 ?_;refine A1 ?_;refine lQ_ (F5 true E E (ltT qD)) ?_;refine A0 (D6 1 32 33) (A3 ?_);refine D9 E ?_;refine A6 (nx (D0 1 32) (A3 (A7 (A1 (mv_ (as_ (A0 (D6 1 5 32) ?_)))))));refine C8 (.range 10) (zp 0 [0,0,0,1,0,0,1,0,0,0,2]) kR kR λhs=>?_;refine fm_ ?_;refine fQ_ E (D5 (1:Int) E E (F7 qD qD qD)) ?_;refine fQ_ E (qi_ 1 130 5 1 1) ?_;refine fR_ E ql_ ?_;refine fM_ E E (fQ_ E (qi_ 0 130 5 1 0) ?_);refine fR_ E ql_ ?_;refine fQ_ E (P5 51 2251799813685248 E E E E qD) ?_;refine fQ_ E (G8 18446744073709551616 E E E E E E) (fQ_ E (qi_ 1 130 5 1 1) ?_);refine G1 E E E (E4 E E E kR Cq Cs ?_);refine E0 (D6 1 5 32) (C1 (mV_ E (lQ_ (qi_ 0 130 5 1 0) ?_)));refine lQ_ ql_ ?_;refine lQ_ (N5 51 2251799813685248 E E E E E (by show _<18446744073709551616;first|assumption|exact Ad _ qD|omega) qD) ?_;refine lQ_ (qi_ 0 130 5 1 0) ?_
 refine A2 E (E4 E E E kR Cq Cs ?_);refine C5 (nb (nx (D0 1 32) (C1 ?_)));refine lQ_ (D5 (1:Int) E E (F7 qD qD qD)) ?_;refine mv_ (C5 ?_);refine un (D0 1 32) ?_;refine I2 ?_;refine A1 ?_;refine lQ_ (F5 true E E (ltT qD)) ?_;refine A0 (D6 1 32 33) (A3 ?_);refine D9 E ?_;refine A6 (nx (D0 1 32) (A3 (A7 (A1 (mv_ (as_ (A0 (D6 1 5 32) ?_)))))));refine C8 (.range 10) (zp 0 [0,0,0,1,0,0,1,0,0,0,2]) kR kR λhs=>?_;refine fm_ ?_;refine fQ_ E (D5 (2:Int) E E (F7 qD qD qD)) ?_;refine fQ_ E (qi_ 2 130 5 1 2) ?_;refine fR_ E ql_ ?_;refine fM_ E E (fQ_ E (qi_ 1 130 5 1 1) ?_);refine fR_ E ql_ ?_;refine fQ_ E (P5 51 2251799813685248 E E E E qD) ?_;refine fQ_ E (G8 18446744073709551616 E E E E E E) (fQ_ E (qi_ 2 130 5 1 2) ?_);refine G1 E E E (E4 E E E kR Cq Cs ?_);refine E0 (D6 1 5 32) (C1 (mV_ E (lQ_ (qi_ 1 130 5 1 1) ?_)));refine lQ_ ql_ ?_;refine lQ_ (N5 51 2251799813685248 E E E E E (by show _<18446744073709551616;first|assumption|exact Ad _ qD|omega) qD) ?_;refine lQ_ (qi_ 1 130 5 1 1) ?_;refine A2 E (E4 E E E kR Cq Cs ?_);refine C5 (nb (nx (D0 1 32) (C1 ?_)));refine lQ_ (D5 (2:Int) E E (F7 qD qD qD)) ?_;refine mv_ (C5 ?_);refine un (D0 1 32) ?_;refine I2 ?_;refine A1 ?_;refine lQ_ (F5 true E E (ltT qD)) ?_;refine A0 (D6 1 32 33) (A3 ?_);refine D9 E ?_;refine A6 (nx (D0 1 32) (A3 (A7 (A1 (mv_ (as_ (A0 (D6 1 5 32) ?_)))))));refine C8 (.range 10) (zp 0 [0,0,0,1,0,0,1,0,0,0,2]) kR kR λhs=>?_;refine fm_ ?_;refine fQ_ E (D5 (3:Int) E E (F7 qD qD qD)) ?_;refine fQ_ E (qi_ 3 130 5 1 3) ?_;refine fR_ E ql_ ?_;refine fM_ E E (fQ_ E (qi_ 2 130 5 1 2) ?_);refine fR_ E ql_ ?_;refine fQ_ E (P5 51 2251799813685248 E E E E qD) ?_;refine fQ_ E (G8 18446744073709551616 E E E E E E) (fQ_ E (qi_ 3 130 5 1 3) ?_);refine G1 E E E (E4 E E E kR Cq Cs ?_);refine E0 (D6 1 5 32) (C1 (mV_ E (lQ_ (qi_ 2 130 5 1 2) ?_)));refine lQ_ ql_ ?_;refine lQ_ (N5 51 2251799813685248 E E E E E (by show _<18446744073709551616;first|assumption|exact Ad _ qD|omega) qD) ?_;refine lQ_ (qi_ 2 130 5 1 2) ?_;refine A2 E (E4 E E E kR Cq Cs ?_);refine C5 (nb (nx (D0 1 32) (C1 ?_)));refine lQ_ (D5 (3:Int) E E (F7 qD qD qD)) ?_;refine mv_ (C5 ?_);refine un (D0 1 32) ?_;refine I2 ?_;refine A1 ?_;refine lQ_ (F5 true E E (ltT qD)) ?_;refine A0 (D6 1 32 33) (A3 ?_);refine D9 E ?_;refine A6 (nx (D0 1 32) (A3 (A7 (A1 (mv_ (as_ (A0 (D6 1 5 32) ?_)))))));refine C8 (.range 10) (zp 0 [0,0,0,1,0,0,1,0,0,0,2]) kR kR λhs=>?_;refine fm_ ?_;refine fQ_ E (D5 (4:Int) E E (F7 qD qD qD)) ?_;refine fQ_ E (qi_ 4 130 5 1 4) ?_;refine fR_ E ql_ ?_;refine fM_ E E (fQ_ E (qi_ 3 130 5 1 3) ?_);refine fR_ E ql_ ?_;refine fQ_ E (P5 51 2251799813685248 E E E E qD) ?_;refine fQ_ E (G8 18446744073709551616 E E E E E E) (fQ_ E (qi_ 4 130 5 1 4) ?_);refine G1 E E E (E4 E E E kR Cq Cs ?_);refine E0 (D6 1 5 32) (C1 (mV_ E (lQ_ (qi_ 3 130 5 1 3) ?_)));refine lQ_ ql_ ?_;refine lQ_ (N5 51 2251799813685248 E E E E E (by show _<18446744073709551616;first|assumption|exact Ad _ qD|omega) qD) ?_;refine lQ_ (qi_ 3 130 5 1 3) ?_;refine A2 E (E4 E E E kR Cq Cs ?_);refine C5 (nb (nx (D0 1 32) (C1 ?_)));refine lQ_ (D5 (4:Int) E E (F7 qD qD qD)) ?_;refine mv_ (C5 ?_);refine un (D0 1 32) ?_;refine I2 ?_;refine A1 ?_;refine lQ_ (F5 false E E (ltF qD)) ?_;refine A0 (D6 1 32 33) (A3 ?_);refine C7 E ?_;refine D8 (te (ue (be E (nx (D4 1) (A1 (lQ_ (qi_ 4 130 5 1 4) ?_))))));refine lQ_ ql_ ?_;refine lQ_ (N5 51 2251799813685248 E E E E E (by show _<18446744073709551616;first|assumption|exact Ad _ qD|omega) qD) ?_;refine lQ_ (qi_ 4 130 5 1 4) ?_
 refine A2 E (E4 E E E kR Cq Cs ?_);refine A0 (D4 1) (A1 ?_);refine A2 E (A0N (e:=5) (k:=.u8) (by_:=1) 32 E E kR E E qD qD E λb55=>?_);obtain ⟨f0,f1,f2,f3,f4,g0,g1,g2,g3,g4,k0,k1,k2,k3,k4,hF⟩:=B2V ha5 hb5 hc5 hd5 hz5 hq;rw [<- g0,<- g1,<- g2,<- g3,<- g4];clear g0 g1 g2 g3 g4;rw [hx5] at hF;refine as_ (A0 (D0 1 6) (A3 (A1 (mv_ (A0 (D6 1 6 56) (A7 ?_))))));refine A0S (M':=[(b55,blk (nums .u8 (A02 8 32 (fv f0 f1 f2 f3 f4) 0)) 5),(b1,blk (nums .u64 [f0,f1,f2,f3,f4]) 189)]) (Ce (by rw [A4J];rfl)) qI ?_;have hN:=C20 k0 k1 k2 k3 k4;have hfl:[f0,f1,f2,f3,f4].length=5:=rfl;have hfb:∀x∈[f0,f1,f2,f3,f4],x<2251799813685248:=by intro x hx;simp only [Cv,Cw,or_false] at hx;rcases hx with rfl|rfl|rfl|rfl|rfl<;>assumption
 generalize [f0,f1,f2,f3,f4]=fs at *;rw [<- hF];generalize fv f0 f1 f2 f3 f4=X at *;refine E5 (α:=Nat) (λi=>[(1,(vP b1)),(6,.slice (some ⟨b55,0,none⟩) 32 32),(56,.int .i64 (i:Int))]) (λi=>[(b55,blk (nums .u8 (A02 8 32 X i)) 5),(b1,blk (nums .u64 fs) 189)]) (λ_=>[]) (λi=>i<=255) (λi=>255-i) 0 qD (D6 1 6 56) .rfl qI ?_;rintro i hi;refine A1 (lQ_ (E8 E E E) (A0 (D7 1 6 56 57) (A3 ?_)));refine C3 E ?_ ?_<;>intro hc
 .
  have hlt:i<255:=by simp at hc;omega
  have hbit:=hN i hlt;rw [<- Bz] at hbit;have hb2:X/2^i%2<2:=Ad _ qD;have hps:=A4K (w:=8) (n:=32) (N:=X) (i:=i) qD qO;have hpg:=A20 (w:=8) (n:=32) (N:=X) (i:=i) (j:=i/8) qO;have hpl:=A9M 8 X i (i/8);have hsm:=A4L (w:=8) hb2 (Ad i (by decide:0<8));have hpb:fs.getD (i/51) 0<2251799813685248:=getD_lt hfb qD;have hsr:=Nat.shiftRight_le (fs.getD (i/51) 0) (i%51);rw [<- hpg] at hps hpl;generalize X/2^i%2=bt at *;have hmo:bt <<< (i%8)%2^IntKind.u8.bits=bt <<< (i%8):=Af hsm;have hto:IntKind.u8.wrap (bt:Int)=(bt:Int):=by rw [C2t,Af qO]
  refine A6 (nx (D6 1 6 56) (A3 (A7 (A1 (mv_ (as_ (A0 (D7 1 6 7 56) ?_)))))));refine H3 (.range 19) (zp 0 [0,0,0,0,1,0,0,0,1,0,0,0,0,0,0,0,0,0,0,2]) kR kR λhs=>?_;refine fM_ E E (fm_ ?_);refine fQ_ E (A1r 8 E E E qD (A2E qO)) ?_;refine fQ_ E (L8 (e:=5) (sz:=1) (i:=i/8) E E kR kR E qO) ?_;refine fR_ E (I3 (i/8) E kR Cc qO (by rw [P6];omega)) ?_;refine fm_ ?_;refine fQ_ E (A1r 51 E E E qD (A2E qO)) ?_;refine fQ_ E (F9 (e:=130) (n:=5) (sz:=1) (i:=i/51) E E kR kR E qO) ?_;refine fR_ E (I3 (i/51) E kR Cc qO qO) ?_;refine fm_ ?_;refine fQ_ E (A1s 51 E E E qD) ?_;refine fQ_ E (T9 (i%51) E E E (by show _<=64;omega)) ?_;refine fQ_ E (hbit▸N5 1 2 E E E E E (by show _<18446744073709551616;omega) qD) ?_;refine fQ_ E (K4 bt E kR hto) (fm_ ?_);refine fQ_ E (A1s 8 E E E qD) ?_;refine fQ_ E (hmo▸A3u E (i%8) E E E (by show _<=8;omega)) ?_;refine fQ_ E (B6b E E E hpl hsm) ?_;refine fQ_ E (L8 (e:=5) (sz:=1) (i:=i/8) E E kR kR E qO) ?_;refine G1 E E E (K6 (i/8) E E kR qO (by rw [P6];omega) Cs ?_);refine R7 (nb (nx (D6 1 6 56) (C1 ?_)));refine lQ_ (D5 ((i+1:Nat):Int) E E (F7 qO qO qO)) ?_;refine mv_ (C5 ?_);exact rn (i+1) qO qO (D6 1 6 56) (Ce (by rw [hps])) qI
 .
  have hlt:i=255:=by simp at hc;omega
  subst hlt;refine D8 (te (re (be E (nx (D4 6) (A1 (mV_ E (aS_ E (A0 (D4 2) (A9 ?_)))))))));exact ⟨_,[_],[],H8 E E,List.Sublist.cons_cons _ (Aa _),by simp,E,Sl.fresh (by rw [nums_len,P6]) qD⟩

variable{x:Nat}
theorem B6X{y:Nat}(hx:x<p25)(hy:y<p25):((txt (A02 8 32 x 255)).toList==(txt (A02 8 32 y 255)).toList)=decide (x=y):=by
  by_cases h:x=y
  . subst h;simp
  . have:(txt (A02 8 32 x 255)).toList≠(txt (A02 8 32 y 255)).toList:=by rw [ByteArray.toList_eq,ByteArray.toList_eq];intro e;refine h (B6W hx hy (A8C (A07 x 255) (A07 y 255) ?_));have:=congrArg List.toArray e;simp only [Array.toArray_toList] at this;unfold txt at this ⊢;exact congrArg ByteArray.mk this
    rw [beq_false_of_ne this];simp [h]
theorem A0Y(v u:Value)(x y:Nat)(hx:Fe v x)(hy:Fe u y)(A:Mem):FnV prog 170 [v,u] A (.bool (decide (x=y))):=by have hx0:=hx;have hxl:=hx.lt;obtain ⟨a,b,c,d,e,rfl,-⟩:=hx;have hy0:=hy;have hyl:=hy.lt;obtain ⟨a2,b2,c2,d2,e2,rfl,-⟩:=hy;refine Ck (N:=12) func170 E E E λw=>?_;refine A8 (D0 0 1) (A1 ?_);refine A2 E (bx_ λb2=>?_);refine A2 E (bx_ λb3=>?_);refine as_ (A0 (D0 2 3) ?_);refine C8 (.range 8) [(0,1),(3,1),(1,2),(2,1),(4,2),(5,1),(6,0),(7,0)] kR kR λhs=>?_;refine fR_ E (qw_ 5) ?_;refine fR_ E (qw_ 5) ?_;refine G5 E (aS E a0) kR (A0x _ _ hx0 _) E ?_;rintro r1 M1 J1 ⟨rfl,h1⟩;refine fR_ E (A4j (h1.rd λ_ h=>by simp [h]) E kR) ?_;refine G5 E (aS E a0) kR (A0x _ _ hy0 _) E ?_;rintro r2 M2 J2 ⟨rfl,h2⟩;refine fR_ E (A4j (h2.rd λ_ h=>by simp [h]) E kR) ?_;refine fQ_ E (A8u E E) (fA_ E E (E0 (D4 4) (A9 ?_)));refine ⟨_,[],[],H8 E E,Aa _,by simp,by rw [B6X hxl hyl],E,E⟩
theorem B0Y(v:Value)(x:Nat)(hx:Fe v x)(A:Mem):FnV prog 167 [v] A (.bool (decide (x=0))):=by have hx0:=hx;have hxl:=hx.lt;obtain ⟨a,b,c,d,e,rfl,-⟩:=hx;refine Ck (N:=6) func167 E E E λw=>?_;refine A8 (D4 0) (A1 ?_);refine A2 E (bx_ λb1=>?_);refine as_ (A0 (D4 1) (A1 ?_));refine lQ_ (qw_ 5) ?_;refine lQ_ (F0 (place:=λi=>some (i*1,1)) (z:=[C0,C0,C0,C0,C0]) (λ_=>by kernel_rfl) e0 bd0) ?_;refine E6 (aS E (aS E a0)) kR (A0Y _ _ _ _ hx0 L4 _) E ?_;refine as_ (A0 (D4 2) (A9 ?_));refine ⟨_,[],[],H8 E E,Aa _,by simp,E,E,E⟩
theorem A4M(v:Value)(x:Nat)(hx:Fe v x)(A:Mem):FnV prog 135 [v] A (.bool (decide (x%2=1))):=by
 have hx0:=hx;have hxl:=hx.lt;obtain ⟨a,b,c,d,e,rfl,-⟩:=hx;refine Ck (N:=9) func135 E E E λw=>?_;refine A8 (D4 0) (A1 ?_);refine A2 E (bx_ λb1=>?_);refine as_ (A0 (D4 1) (A1 ?_));refine lQ_ (qw_ 5) ?_;refine C6 (aS E a0) kR (A0x _ _ hx0 _) E ?_;rintro r1 M1 J1 ⟨rfl,h1⟩;refine lQ_ (B6f (h1.rd λ_ h=>h) E E kR 0 E qD) ?_;refine lQ_ (A5t (h1.rd λ_ h=>by simp [h]) E kR qD) ?_;refine lQ_ (N5 1 2 E E E E E (getD_lt (A07 x 255) qD) qD) ?_;refine lQ_ (E8 E E E) (as_ (A0 (D4 2) (A9 ?_)));refine ⟨_,[],[],H8 E E,Aa _,by simp,?_,E,E⟩;rw [A20 qD,prt];simp only [Nat.reducePow,Nat.reduceMul,Nat.div_one];congr 1;unfold p25 at hxl;have e:x%57896044618658097711785492504343953926634992332820282019728792003956564819968%256%2=x%2:=by omega
 rw [e];rcases Nat.mod_two_eq_zero_or_one x with h|h<;>rw [h]<;>rfl

def pwE(x N i:Nat):Nat:=x^(N/2^i)%p25
theorem B6Y(x N i:Nat):pwE x N i=(if N/2^i%2=1 then pwE x N (i+1)*pwE x N (i+1)%p25*(x%p25)%p25 else pwE x N (i+1)*pwE x N (i+1)%p25):=by
  have h:N/2^i=2*(N/2^(i+1))+N/2^i%2:=by rw [Nat.pow_succ,<- Bu];omega
  unfold pwE;have hb:N/2^i%2=0∨N/2^i%2=1:=by omega
  rcases hb with hb|hb
  . rw [if_neg qO]
    conv=>lhs;rw [h,hb,Nat.add_zero,Nat.two_mul,Nat.pow_add,Nat.mul_mod]
  . rw [if_pos hb]
    conv=>lhs;rw [h,hb,Nat.two_mul,Nat.pow_add,Nat.pow_add,Nat.pow_one,Nat.mul_mod,Nat.mul_mod (x^_)]
theorem A2r(v:Value)(x:Nat)(hx:Fe v x)(es:LN)(hes:es.length=32)(he256:∀y∈es,y<256)(A:Mem):FnX prog 149 [v,.agg (nums .u8 es).toArray] [] A λr M J=>M=[]∧J=[]∧Fe r (x^bv es%p25):=by
 have hx0:=hx;have hxl:=hx.lt;obtain ⟨a,b,c,d,e,rfl,-⟩:=hx;refine Ck (N:=27) func149 E E E λw=>?_;refine A8 (D0 0 1) (A1 ?_);refine A2 E (bx_ λb2=>?_);refine A2 E (bx_ λb3=>?_);refine A2 E (C2 (cs:=[C0,C0,C0,C0,C0]) kR E λb4=>?_);refine A0 (D6 2 3 4) (A1 ?_);refine C6 (aS E a0) kR (A4I 1 qD _) E ?_;rintro r1 M1 J1 ⟨rfl,rfl,hr1⟩;have hr10:=hr1;obtain ⟨o0,o1,o2,o3,o4,rfl,-⟩:=hr1;refine A2 E (C2 (cs:=[C0,C0,C0,C0,C0]) kR E λb5=>?_);refine A2 E (A5 E E Cd kR ln5 al5 Cs ?_);refine A0 (D7 2 3 4 5) (A3 (A1 (as_ (A0 (F2 2 3 4 5 6) (A7 ?_)))));refine E5 (α:=Nat×Nat×Nat×Nat×Nat×Nat) (λy=>[(2,(vP b2)),(3,(vP b3)),(4,(vP b4)),(5,(vP b5)),(6,.int .i64 ((y.1:Int)-1))]) (λy=>[(b5,blk [.int .u64 (y.2.1:Int),.int .u64 (y.2.2.1:Int),.int .u64 (y.2.2.2.1:Int),.int .u64 (y.2.2.2.2.1:Int),.int .u64 (y.2.2.2.2.2:Int)] 189),(b4,blk [C0,C0,C0,C0,C0] 189),(b3,blk (nums .u8 es) 194),(b2,blk [.int .u64 (a:Int),.int .u64 (b:Int),.int .u64 (c:Int),.int .u64 (d:Int),.int .u64 (e:Int)] 189)]) (λ_=>[]) (λy=>y.1<=256∧Fe (el y.2.1 y.2.2.1 y.2.2.2.1 y.2.2.2.2.1 y.2.2.2.2.2) (pwE x (bv es) y.1)) (λy=>y.1) (256,o0,o1,o2,o3,o4) ⟨Av _,by rw [show pwE x (bv es) 256=1 by unfold pwE;rw [Nat.div_eq_of_lt (by have:=C25 he256;rw [hes] at this;exact this)];rfl];exact hr10⟩ (F2 2 3 4 5 6) .rfl qI ?_;rintro ⟨j,o0,o1,o2,o3,o4⟩ ⟨hj,ho⟩;dsimp only at hj ho ⊢;refine A3 (A1 (mV_ E (lQ_ (E8 E E E) (A0 (G7 2 3 4 5 6 9) ?_))));refine C3 E ?_ ?_<;>intro hc
 .
  have hj0:0<j:=by simp at hc;omega
  obtain ⟨i,rfl⟩:∃i,j=i+1:=⟨j-1,by omega⟩
  have ei:((i+1:Nat):Int)-1=(i:Int):=by omega
  rw [ei];have hps:=B6Y x (bv es) i;have hbit:=A7S he256 i;rw [<- Bz] at hbit;have hpb:es.getD (i/8) 0<256:=getD_lt he256 qD;have hsr:=Nat.shiftRight_le (es.getD (i/8) 0) (i%8);have hbt:bv es/2^i%2<2:=Ad _ qD;generalize bv es/2^i%2=bt at *;refine A6 (nx (F2 2 3 4 5 6) (A3 (A7 (A1 ?_))));refine lQ_ (qw_ 5) ?_;refine C6 (aS E a0) kR (A0I _ _ ho _) E ?_;rintro r2 M2 J2 ⟨rfl,rfl,hr2⟩;have hr20:=hr2;obtain ⟨s0,s1,s2,s3,s4,rfl,-⟩:=hr2;refine A2 E (A5 E E Cd kR ln5 al5 Cs ?_);refine A0 (F2 2 3 4 5 6) (A1 (mv_ ?_));refine lQ_ (A1r 8 E E E qD (A2E qO)) ?_;refine lQ_ (F9 (e:=5) (n:=32) (sz:=1) (i:=i/8) E E kR kR E qO) ?_;refine lQ_ (I3 (i/8) E kR Cc qO qO) ?_;refine mv_ ?_;refine lQ_ (A1s 8 E E E qD) ?_;refine lQ_ (T9 (i%8) E E E (by show _<=8;omega)) ?_;refine lQ_ (hbit▸N5 1 2 E E E E E (by show _<256;omega) qD) ?_;refine lQ_ (E8 E E E) (A0 (G7 2 3 4 5 6 22) ?_);refine C3 E ?_ ?_<;>intro hc
  .
   have hb1:bt=1:=by simp at hc;omega
   rw [if_pos hb1] at hps;refine C1 ?_;refine lQ_ (qw_ 5) ?_;refine lQ_ (qw_ 5) ?_;refine C6 (aS E (aS E a0)) kR (A2Z _ _ _ _ hr20 hx0 _) E ?_;rintro r3 M3 J3 ⟨rfl,rfl,hr3⟩;rw [Af hxl] at hps;rw [<- hps] at hr3;have hr30:=hr3;obtain ⟨t0,t1,t2,t3,t4,rfl,-⟩:=hr3;refine A2 E (A5 E E Cd kR ln5 al5 Cs ?_);refine C5 (nb (nx (F2 2 3 4 5 6) (C1 (mv_ ?_))));refine lQ_ (D5 ((i:Int)-1) E E (W7 E qO qO)) ?_;refine as_ (C5 ?_);exact rn (i,t0,t1,t2,t3,t4) ⟨by dsimp only;omega,hr30⟩ (by dsimp only;omega) (F2 2 3 4 5 6) .rfl qI
  .
   have hb1:¬bt=1:=by simp at hc;omega
   rw [if_neg hb1] at hps;refine A6 (nb (nx (F2 2 3 4 5 6) (C1 (mv_ ?_))));refine lQ_ (D5 ((i:Int)-1) E E (W7 E qO qO)) ?_;refine as_ (C5 ?_);exact rn (i,s0,s1,s2,s3,s4) ⟨by dsimp only;omega,by dsimp only;rw [hps];exact hr20⟩ (by dsimp only;omega) (F2 2 3 4 5 6) .rfl qI
 .
  have hj0:j=0:=by simp at hc;omega
  subst hj0;refine D8 (te (re (be E (nx (D0 4 5) (A1 ?_)))));refine lQ_ (qw_ 5) ?_;refine A2 E (A5 E E Cd kR ln5 al5 Cs ?_);refine A0 (D4 4) (A9 ?_);refine ⟨_,[],[],A1d E E kR Cc qR,Aa _,by simp,E,E,?_⟩;have:pwE x (bv es) 0=x^bv es%p25:=by unfold pwE;rw [Nat.pow_zero,Nat.div_one]
  rw [<- this];exact ho

variable{n:Nat}
theorem B6Z{i:Nat}(h:i<n):(2^n-1)/2^i%2=1:=by have:=Nat.testBit_two_pow_sub_one n i;rw [Nat.testBit_eq_decide_div_mod_eq] at this;simpa [h] using this
theorem B3c(h:8<=n):(A02 8 32 (2^n-1) n).getD 0 0=255:=by
  rw [A20 qD,prt,Nat.mul_zero,Nat.pow_zero,Nat.div_one]
  obtain ⟨m,rfl⟩:∃m,n=m+8:=⟨n-8,by omega⟩
  have h1:=Bx m;have e:(2^(m+8)-1)%2^(m+8)=2^(m+8)-1:=Af (Nat.sub_lt (Bx _) qD);rw [e,Nat.pow_add];simp only [Nat.reducePow];omega
theorem C0q{p:LN}(x:Nat)(h:0<p.length):bv (p.set 0 x)+p.getD 0 0=bv p+x:=by
  cases p with
  | nil=>simp at h
  | cons b r=>simp [bv];omega
theorem B3d(N n:Nat)(h:n<=256):bv (A02 8 32 N n)=N%2^n:=by unfold A02 prt;rw [A21,Af];exact Bp (Ad _ (Bx _)) (Bq qD qO)
theorem A4N(n d:Nat)(hn:8<=n)(hn2:n<=256)(hd:1<d)(hd2:d<=256)(A:Mem):FnX prog 150 [.int .i64 (n:Int),.int .u16 (d:Int)] [] A λr M J=>M=[]∧J=[]∧∃es:LN,r=.agg (nums .u8 es).toArray∧es.length=32∧(∀y∈es,y<256)∧bv es=2^n-d:=by
  refine Ck (N:=47) func150 E E E λw=>?_;refine A8 (D0 0 1) (A1 ?_);refine A2 E (C2 (cs:=[zu8,zu8,zu8,zu8,zu8,zu8,zu8,zu8,zu8,zu8,zu8,zu8,zu8,zu8,zu8,zu8,zu8,zu8,zu8,zu8,zu8,zu8,zu8,zu8,zu8,zu8,zu8,zu8,zu8,zu8,zu8,zu8]) kR E λb4=>?_);refine A0 (D6 0 1 4) (A1 ?_);refine A2 E (C2 (cs:=[zu8,zu8,zu8,zu8,zu8,zu8,zu8,zu8,zu8,zu8,zu8,zu8,zu8,zu8,zu8,zu8,zu8,zu8,zu8,zu8,zu8,zu8,zu8,zu8,zu8,zu8,zu8,zu8,zu8,zu8,zu8,zu8]) kR E λb5=>?_);refine A0 (D7 0 1 4 5) (A3 (A1 (mv_ (mv_ (A0 (F2 1 4 5 9 10) (A7 ?_))))));refine A0S (M':=[(b5,blk (nums .u8 (A02 8 32 (2^n-1) 0)) 194),(b4,blk [zu8,zu8,zu8,zu8,zu8,zu8,zu8,zu8,zu8,zu8,zu8,zu8,zu8,zu8,zu8,zu8,zu8,zu8,zu8,zu8,zu8,zu8,zu8,zu8,zu8,zu8,zu8,zu8,zu8,zu8,zu8,zu8] 194)]) (Ce (by rw [A4J];rfl)) qI ?_;refine E5 (α:=Nat) (λi=>[(1,.int .u16 (d:Int)),(4,(vP b4)),(5,(vP b5)),(9,.int .i64 (n:Int)),(10,.int .i64 (i:Int))]) (λi=>[(b5,blk (nums .u8 (A02 8 32 (2^n-1) i)) 194),(b4,blk [zu8,zu8,zu8,zu8,zu8,zu8,zu8,zu8,zu8,zu8,zu8,zu8,zu8,zu8,zu8,zu8,zu8,zu8,zu8,zu8,zu8,zu8,zu8,zu8,zu8,zu8,zu8,zu8,zu8,zu8,zu8,zu8] 194)]) (λ_=>[]) (λi=>i<=n) (λi=>n-i) 0 (Am _) (F2 1 4 5 9 10) .rfl qI ?_;rintro i hi;refine A1 (lQ_ (E8 E E E) (A0 (G7 1 4 5 9 10 11) (A3 ?_)));refine C3 E ?_ ?_<;>intro hc
  .
    have hlt:i<n:=by simp at hc;omega
    have hps:=A4K (w:=8) (n:=32) (N:=2^n-1) (i:=i) qD qO;have hpg:=A20 (w:=8) (n:=32) (N:=2^n-1) (i:=i) (j:=i/8) qO;have hpl:=A9M 8 (2^n-1) i (i/8);rw [B6Z hlt] at hps;rw [<- hpg] at hps hpl;have hsm:=A4L (b:=1) (w:=8) qD (Ad i (by decide:0<8));have hmo:1 <<< (i%8)%2^IntKind.u8.bits=1 <<< (i%8):=Af hsm;refine A6 (nx (F2 1 4 5 9 10) (A3 (A7 (A1 (mv_ (as_ (A0 (G7 1 4 5 6 9 10) ?_)))))));refine H3 (.range 9) (zp 0 [0,0,0,1,0,0,0,0,0,2]) kR kR λhs=>?_;refine fm_ ?_;refine fQ_ E (A1r 8 E E E qD (A2E qO)) ?_;refine fQ_ E (F9 (e:=5) (n:=32) (sz:=1) (i:=i/8) E E kR kR E qO) ?_;refine fR_ E (I3 (i/8) E kR Cc qO (by rw [P6];omega)) ?_;refine fm_ ?_;refine fQ_ E (A1s 8 E E E qD) ?_;refine fQ_ E (hmo▸A3u (a:=1) E (i%8) E E E (by show _<=8;omega)) ?_;refine fQ_ E (B6b E E E hpl hsm) ?_;refine fQ_ E (F9 (e:=5) (n:=32) (sz:=1) (i:=i/8) E E kR kR E qO) ?_;refine G1 E E E (K6 (i/8) E E kR qO (by rw [P6];omega) Cs ?_);refine R7 (nb (nx (F2 1 4 5 9 10) (C1 ?_)));refine lQ_ (D5 ((i+1:Nat):Int) E E (F7 qO qO qO)) ?_;refine mv_ (C5 ?_);exact rn (i+1) qO qO (F2 1 4 5 9 10) (Ce (by rw [hps])) qI
  .
    have hlt:i=n:=by simp at hc;omega
    subst hlt;refine D8 (te (re (be E (nx (D6 1 4 5) ?_))));have hhd:=B3c (n:=i) qO;have hbn:=B3d (2^i-1) i qO;have hpl:=P6 8 32 (2^i-1) i;have hpw:256<=2^i:=(show 256=2^8 from rfl)▸Bq qD qO;refine A1 (mv_ ?_);refine lQ_ (B8E 65536 (b:=1) E E E E E E qO qO) ?_;refine as_ (A0 (D6 1 4 5) (A3 (A1 (as_ (A0 (D7 1 4 5 7) (A7 ?_))))));refine Y6 3 ?_;refine I2 ?_;refine A3 (A1 (mv_ ?_));refine lQ_ (F5 true E E (gtT qO)) ?_;refine A0 (F2 1 4 5 7 26) ?_;refine D9 E ?_;refine A6 (nx (D7 1 4 5 7) (A3 (A7 (A1 (mV_ E (lQ_ (qi_ 0 5 32 1 0) ?_))))));refine lQ_ (hhd▸I3 0 E kR Cc E qO) ?_;refine lQ_ (K4 (k':=.u16) 255 E kR qD) ?_;refine mv_ ?_;refine lQ_ (N5 8 256 E E E E E (by show _<65536;first|assumption|exact Ad _ qD|omega) qD) ?_;refine lQ_ (B8E 65536 (a:=255) E E E E E E qD qO) ?_;refine aS_ E (A0 (F2 1 4 5 7 8) (A1 (mV_ E (mV_ E (lQ_ (A12 E kR) (lQ_ (qi_ 0 5 32 1 0) ?_))))));refine A2 E (K6 0 E E kR E qO Cs ?_);refine A0 (F2 1 4 5 7 8) (A1 (mv_ ?_));refine lQ_ (P5 8 256 E E E E qD) ?_;refine as_ (A0 (F2 1 4 5 7 8) (A1 (mv_ ?_)));refine lQ_ (F5 false E E (gtF qO)) ?_;refine A0 (F2 1 4 5 7 43) ?_;refine C7 E ?_;refine A6 (nb (nx (D7 1 4 5 7) (C1 (mv_ ?_))));refine lQ_ (D5 (1:Int) E E (F7 qD qD qD)) ?_;refine as_ (C5 ?_);refine un (D7 1 4 5 7) ?_;refine I2 ?_;refine A3 (A1 (mv_ ?_));refine lQ_ (F5 false E E (gtF qO)) ?_;refine A0 (F2 1 4 5 7 26) ?_;refine C7 E ?_;refine D8 (te (ue (be E (nx (D0 4 5) (A1 ?_)))));refine lQ_ (H1 (n:=32) (cs:=nums .u8 ((A02 8 32 (2^i-1) i).set 0 ((255-(d-1)%256)%256))) E kR Cc (by rw [nums_len,Bk,hpl])) ?_;refine A2 E (A5 (vs:=nums .u8 ((A02 8 32 (2^i-1) i).set 0 ((255-(d-1)%256)%256))) E E E (by rw [nums_len,Bk,hpl];kernel_rfl) (by rw [nums_len,Bk,hpl];rfl) E9 Cs ?_);refine A0 (D4 4) (A9 ?_);refine ⟨_,[],[],A1d E E kR Cc (by rw [nums_len,Bk,hpl]),Aa _,by simp,E,E,_,E,by rw [Bk,hpl],?_,?_⟩
    . intro y hy;rcases Bf hy with h|rfl
      . exact A07 _ _ y h
      . exact Ad _ qD
    . have h0:=C0q (p:=A02 8 32 (2^i-1) i) ((255-(d-1)%256)%256) qO;rw [hhd,hbn,Af (a:=2^i-1) qO] at h0;omega
theorem B3e(v:Value)(x:Nat)(hx:Fe v x)(A:Mem):FnX prog 118 [v] [] A λr M J=>M=[]∧J=[]∧∃n,n+1=p25-1∧Fe r (x^n%p25):=by
 have hx0:=hx;obtain ⟨a,b,c,d,e,rfl,-⟩:=hx;refine Ck (N:=6) func118 E E E λw=>?_;refine A8 (D4 0) (A1 ?_);refine A2 E (bx_ λb1=>?_);refine A2 E (C2 (cs:=[C0,C0,C0,C0,C0]) kR E λb2=>?_);refine A0 (D0 1 2) ?_;refine C8 [0,1,2] [(0,1),(1,2),(2,2),(3,2)] kR kR λhs=>?_;refine fR_ E (qw_ 5) ?_;refine G5 E (aS E (aS E a0)) kR (A4N 255 21 qD qD qD qD _) E ?_;rintro rn1 Mn Jn ⟨rfl,rfl,es,rfl,hel,he256,hbv⟩;refine G5 E (aS E (aS E a0)) kR (A2r _ _ hx0 es hel he256 _) E ?_;rintro r1 M1 J1 ⟨rfl,rfl,hr⟩;have hbv1:bv es+1=p25-1:=by rw [hbv];decide
 have hr0:=hr;obtain ⟨a1,b1,c1,d1,e1,rfl,-⟩:=hr;refine G1 E E E (A5 E E Cd kR ln5 al5 Cs ?_);refine E0 (D4 2) (A9 ?_);exact ⟨_,[],[],A1d E E kR Cc qR,Aa _,by simp,E,E,_,hbv1,hr0⟩
def rtp(x n:Nat):Nat:=x^n%p25
def rt1(x:Nat):Nat:=rtp x (2^252-2)
def rt2(x:Nat):Nat:=rt1 x*rtp 2 (2^253-5)%p25
theorem B3f{m:Nat}(h:n=m):x^n%p25=rtp x m:=by subst h;rfl
theorem C26(h:n=2^252-2):x^n%p25=rt1 x:=by unfold rt1;exact B3f h
def Rt(r:Value)(x:Nat):Prop:=∃u b,r=.tuple #[u,.bool b]∧((rt1 x*rt1 x%p25=x∧b=true∧Fe u (rt1 x))∨(rt1 x*rt1 x%p25≠x∧rt2 x*rt2 x%p25=x∧b=true∧Fe u (rt2 x))∨(rt1 x*rt1 x%p25≠x∧rt2 x*rt2 x%p25≠x∧b=false∧Fe u 0))
theorem B0Z(v:Value)(x:Nat)(hx:Fe v x)(A:Mem):FnX prog 166 [v] [] A λr M J=>M=[]∧J=[]∧Rt r x:=by
 have hx0:=hx;obtain ⟨a,b,c,d,e,rfl,-⟩:=hx;refine Ck (N:=24) func166 E E E λw=>?_;refine A8 (D4 0) (A1 ?_);refine A2 E (bx_ λb1=>?_);refine A2 E (C2 (cs:=[C0,C0,C0,C0,C0]) kR E λb2=>?_);refine as_ (A0 (D0 1 2) ?_);refine C8 [0,1,2,3] (zp 0 [1,3,3,4,2]) kR kR λhs=>?_;refine fR_ E (qw_ 5) ?_
 refine N6 [⟨1,6,λv B _=>B=[]∧∃es:LN,v=.agg (nums .u8 es).toArray∧es.length=32∧(∀y∈es,y<256)∧bv es=2^252-2⟩,⟨2,7,λv B _=>B=[]∧Fe v (rt1 x)⟩,⟨3,4,λv B _=>∃b,v=(vP b)∧B=[(b,blk [C0,C0,C0,C0,C0] 189)]⟩]
  gA nd_ nd_ dl_
  (gO ?_ (gO ?_ (gO ?_ (I5)))) ?_
 .
  intros
  refine E2 (aS E (aS E a0)) kR (A4N 252 2 qD qD qD qD _) E ?_;rintro r M1 J1 ⟨rfl,rfl,hh⟩;exact ⟨_,E,E,hh⟩
 . intro _ _ _ _ _ ha;have g1:=gx 0 ha;dsimp only at g1;obtain ⟨-,es,hes,hel,he256,hbv⟩:=g1;refine E2 (aS E (aS (by rw [<- hes];rfl) a0)) kR (A2r _ _ hx0 es hel he256 _) E ?_;rintro r M1 J1 ⟨rfl,rfl,hh⟩;rw [C26 hbv] at hh;exact ⟨_,E,E,hh⟩
 .
  intros
  exact C2 (cs:=[C0,C0,C0,C0,C0]) kR E λb=>⟨_,E,b,E,E⟩
 intro vs bs Jn0 hφ;have g1:=gy 0 hφ;have g2:=gy 1 hφ;have g3:=gy 2 hφ;dsimp only at g1 g2 g3;clear hφ;dsimp only [V0,Q6,List.map,List.flatten,Cu,Ct];generalize bs 1=B6,bs 2=B7,bs 3=B4,vs 1=u6,vs 2=u7,vs 3=u4 at *;obtain ⟨rfl,-⟩:=g1;obtain ⟨rfl,hr0⟩:=g2;obtain ⟨b4,rfl,rfl⟩:=g3;have hr:=hr0;obtain ⟨a1,b1,c1,d1,e1,rfl,-⟩:=hr;dsimp only [List.append_eq,Ct,Cu];refine G1 E E E (A5 E E Cd kR ln5 al5 Cs ?_);refine E0 (D6 1 2 4) (A3 ?_);refine C8 [0,1,2,3] [(0,1),(2,1),(1,2),(3,2)] kR kR λhs=>?_;refine fR_ E (qw_ 5) ?_;refine fR_ E (qw_ 5) ?_;refine G5 E (aS E a0) kR (A0I _ _ hr0 _) E ?_;rintro r2 M2 J2 ⟨rfl,rfl,hr2⟩;have hr20:=hr2;obtain ⟨a2,b2,c2,d2,e2,rfl,-⟩:=hr2;refine N4 E (aS E (aS E a0)) kR (A0Y _ _ _ _ hr20 hx0 _) E ?_;refine E0 (D7 1 2 4 11) ?_;refine C3 E ?_ ?_<;>intro hc
 .
  have h1:rt1 x*rt1 x%p25=x:=by simpa using hc
  refine A1 ?_;refine lQ_ (qw_ 5) ?_;refine A2 E (A5 E E Cd kR ln5 al5 Cs ?_);refine as_ (A0 (D0 2 3) (A9 (tr ?_)));exact ⟨_,[],[],A0c E E E kR Cc qR,Aa _,by simp,E,E,_,_,E,.inl ⟨h1,E,hr0⟩⟩
 .
  have h1:rt1 x*rt1 x%p25≠x:=by simpa using hc
  refine A6 (nx (D6 1 2 4) ?_);refine C8 [0,1,2,3,4] (zp 0 [1,2,2,2,2,2]) kR kR λhs=>?_;refine fR_ E (qw_ 5) ?_;refine G5 E (aS E a0) kR (A4I 2 qD _) E ?_;rintro r3 M3 J3 ⟨rfl,rfl,hr3⟩;refine G5 E (aS E (aS E a0)) kR (A4N 253 5 qD qD qD qD _) E ?_;rintro rn2 Mn Jn ⟨rfl,rfl,es,rfl,hel,he256,hbv⟩;refine G5 E (aS E (aS E a0)) kR (A2r _ _ hr3 es hel he256 _) E ?_;rintro r4 M4 J4 ⟨rfl,rfl,hr4⟩;rw [B3f hbv] at hr4;refine G5 E (aS E (aS E a0)) kR (A2Z _ _ _ _ hr0 hr4 _) E ?_;rintro r5 M5 J5 ⟨rfl,rfl,hr5⟩;rw [<- rt2.eq_1] at hr5;have hr50:=hr5;obtain ⟨a5,b5,c5,d5,e5,rfl,-⟩:=hr5;refine G1 E E E (A5 E E Cd kR ln5 al5 Cs ?_);refine E0 (D6 1 2 4) (A3 ?_);refine C8 [0,1,2,3] [(0,1),(2,1),(1,2),(3,2)] kR kR λhs=>?_;refine fR_ E (qw_ 5) ?_;refine fR_ E (qw_ 5) ?_;refine G5 E (aS E a0) kR (A0I _ _ hr50 _) E ?_;rintro r6 M6 J6 ⟨rfl,rfl,hr6⟩;have hr60:=hr6;obtain ⟨a6,b6,c6,d6,e6,rfl,-⟩:=hr6;refine N4 E (aS E (aS E a0)) kR (A0Y _ _ _ _ hr60 hx0 _) E ?_;refine E0 (D6 2 4 21) ?_;refine C3 E ?_ ?_<;>intro hc
  .
   have h2:rt2 x*rt2 x%p25=x:=by simpa using hc
   refine A1 ?_;refine lQ_ (qw_ 5) ?_;refine A2 E (A5 E E Cd kR ln5 al5 Cs ?_);refine as_ (A0 (D0 2 3) (A9 (tr ?_)));exact ⟨_,[],[],A0c E E E kR Cc qR,Aa _,by simp,E,E,_,_,E,.inr (.inl ⟨h1,h2,E,hr50⟩)⟩
  .
   have h2:rt2 x*rt2 x%p25≠x:=by simpa using hc
   refine A6 (nx (D4 2) (A1 ?_));refine lQ_ (F0 (place:=λi=>some (i*1,1)) (z:=[C0,C0,C0,C0,C0]) (λ_=>by kernel_rfl) e0 bd0) ?_;refine A2 E (A5 E E Cd kR ln5 al5 Cs ?_);refine as_ (A0 (D0 2 3) (A9 ?_));exact ⟨_,[],[],A0c E E E kR Cc qR,Aa _,by simp,E,E,_,_,E,.inr (.inr ⟨h1,h2,E,L4⟩)⟩

end Go.Proofs.YtglbhoeolghndaaGreatDoor
namespace Go.Px
def pm(N:Nat):Nat->Nat->Nat->Nat->Nat
  | 0,_,_,acc=>acc
  | f+1,b,e,acc=>pm N f (b*b%N) (e/2) (if e%2=1 then acc*b%N else acc)
theorem B3g(N:Nat):∀f b e acc,e<2^f->acc%N=acc->pm N f b e acc=acc*b^e%N
  | 0,b,e,acc,h,ha=>by
    obtain rfl:e=0:=by simpa using h
    rw [pm,Nat.pow_zero,Nat.mul_one,ha]
  | f+1,b,e,acc,h,ha=>by
    rw [pm,B3g N f _ _ _ (by rw [Nat.pow_succ] at h;omega) (by split<;>simp [ha])]
    have e2:b^e=(b*b)^(e/2)*b^(e%2):=by rw [<- Nat.pow_two,<- Nat.pow_mul,<- Nat.pow_add,Nat.div_add_mod]
    rw [e2];rcases Nat.mod_two_eq_zero_or_one e with h0|h0
    . rw [h0,if_neg (by decide),Nat.mul_mod,<- Nat.pow_mod,<- Nat.mul_mod,Nat.pow_zero,Nat.mul_one]
    . rw [h0,if_pos E,Nat.mul_mod,<- Nat.pow_mod,Nat.mod_mod,<- Nat.mul_mod,Nat.pow_one,Nat.mul_assoc,Nat.mul_comm b]
theorem C27{N:Nat}(hN:2<=N)(f a e:Nat)(h:e<2^f):a^e%N=pm N f a e 1:=by rw [B3g N f a e 1 h (Af (by omega)),Nat.one_mul]
end Go.Px

namespace Go.Proofs.YtglbhoeolghndaaGreatDoor
open Go.Px
def fS(x y:Nat):Nat:=(x+p25-y)%p25
def fA(x y:Nat):Nat:=(x+y)%p25
def fM(x y:Nat):Nat:=x*y%p25
def fN(x:Nat):Nat:=(p25-x)%p25
theorem C28(x:Nat):∃y,y=rtp x (p25-2):=⟨_,E⟩
noncomputable def fI(x:Nat):Nat:=Classical.choose (C28 x)
theorem A6x(x:Nat):fI x=rtp x (p25-2):=Classical.choose_spec (C28 x)
variable{v u:Value}{x y:Nat}
theorem A6y(hx:Fe v x)(hy:Fe u y)(A:Mem):FnX prog 143 [v,u] [] A λr M J=>M=[]∧J=[]∧Fe r (fS x y):=A7P v u x y hx hy A
theorem A5k(hx:Fe v x)(hy:Fe u y)(A:Mem):FnX prog 142 [v,u] [] A λr M J=>M=[]∧J=[]∧Fe r (fA x y):=B2W v u x y hx hy A
theorem U4(hx:Fe v x)(hy:Fe u y)(A:Mem):FnX prog 117 [v,u] [] A λr M J=>M=[]∧J=[]∧Fe r (fM x y):=A2Z v u x y hx hy A
theorem C29(hx:Fe v x)(A:Mem):FnX prog 144 [v] [] A λr M J=>M=[]∧J=[]∧Fe r (fM x x):=A0I v x hx A
theorem C0r(hx:Fe v x)(A:Mem):FnX prog 165 [v] [] A λr M J=>M=[]∧J=[]∧Fe r (fN x):=B2Y v x hx A
theorem A1i(n:Nat)(hn:n<4294967296)(A:Mem):FnX prog 114 [.int .u32 (n:Int)] [] A λr M J=>M=[]∧J=[]∧Fe r n:=A4I n hn A
theorem B3h(hx:Fe v x)(A:Mem):FnX prog 118 [v] [] A λr M J=>M=[]∧J=[]∧Fe r (fI x) :=
  (B3e v x hx A).mono λr M J ⟨h1,h2,n,h3,h4⟩=>⟨h1,h2,by rw [A6x,<- B3f (show n=p25-2 by omega)];exact h4⟩
structure Pt where
  X:Nat
  Y:Nat
  Z:Nat
  T:Nat
def FeL(xs:LN)(P:Pt):Prop:=∃x0 x1 x2 x3 x4 x5 x6 x7 x8 x9 x10 x11 x12 x13 x14 x15 x16 x17 x18 x19:Nat,xs=[x0,x1,x2,x3,x4,x5,x6,x7,x8,x9,x10,x11,x12,x13,x14,x15,x16,x17,x18,x19]∧Fe (el x0 x1 x2 x3 x4) P.X∧Fe (el x5 x6 x7 x8 x9) P.Y∧Fe (el x10 x11 x12 x13 x14) P.Z∧Fe (el x15 x16 x17 x18 x19) P.T
def FeP(V:Value)(P:Pt):Prop:=∃xs,V=.agg (nums .u64 xs).toArray∧FeL xs P
def pO:Pt:=⟨0,1,1,0⟩
def dN:Nat:=37095705934669439343138083508754565189542113879843219016388785533085940283555
def d2N:Nat:=16295367250680780974490674513165176452449235426866156013048779062215315747161
theorem A2c{n:Nat}(h:n<2^256):rtp x n=pm p25 256 x n 1:=C27 qD 256 x n h
theorem C47:fN (fM 121665 (fI 121666))=dN:=by rw [A6x,A2c qD];decide +kernel
theorem C3a:fM 2 dN=d2N:=by decide +kernel
def A8s(d2:Nat)(P Q:Pt):Pt :=
  let a:=fM (fS P.Y P.X) (fS Q.Y Q.X)
  let b:=fM (fA P.Y P.X) (fA Q.Y Q.X)
  let c:=fM (fM P.T d2) Q.T
  let z:=fA (fM P.Z Q.Z) (fM P.Z Q.Z)
  let e:=fS b a
  let f:=fS z c
  let g:=fA z c
  let h:=fA b a
  ⟨fM e f,fM g h,fM f g,fM e h⟩

theorem B61(A:Mem):FnX prog 136 [] [] A λr M J=>M=[]∧J=[]∧FeP r pO:=by refine Ck (N:=4) func136 E E E λw=>?_;refine A8 kn (A1 ?_);refine A2 E (C2 (cs:=[C0,C0,C0,C0,C0,C0,C0,C0,C0,C0,C0,C0,C0,C0,C0,C0,C0,C0,C0,C0]) kR E λb0=>?_);refine A0 (D4 0) (A1 ?_);refine C6 (aS E a0) kR (A1i 1 qD _) E ?_;rintro r1 M1 J1 ⟨rfl,rfl,k1⟩;have h1:=k1;obtain ⟨a1,b1,c1,d1,e1,rfl,-⟩:=k1;refine C6 (aS E a0) kR (A1i 1 qD _) E ?_;rintro r2 M2 J2 ⟨rfl,rfl,k2⟩;have h2:=k2;obtain ⟨a2,b2,c2,d2,e2,rfl,-⟩:=k2;refine lQ_ (F0 (place:=λx=>#[(0,5),(5,5),(10,5),(15,5)][x]?) (z:=[C0,C0,C0,C0,C0,C0,C0,C0,C0,C0,C0,C0,C0,C0,C0,C0,C0,C0,C0,C0]) (λ_=>by kernel_rfl) (eS E (eS E e0)) (bdS 5 5 E qR (bdS 10 5 E qR bd0))) ?_;refine A2 E (A5 E E Cd kR A3Y A3Z Cs ?_);refine A0 (D4 0) (A9 ?_);exact ⟨_,[],[],A1d E E kR Cc qR,Aa _,by simp,E,E,⟨_,E,_,_,_,_,_,_,_,_,_,_,_,_,_,_,_,_,_,_,_,_,E,L4,h1,h2,L4⟩⟩
theorem A8N(A:Mem):FnX prog 137 [] [] A λr M J=>M=[]∧J=[]∧Fe r dN:=by refine Ck (N:=6) func137 E E E λw=>?_;refine A8 kn (A1 ?_);refine A2 E (C2 (cs:=[C0,C0,C0,C0,C0]) kR E λb0=>?_);refine A0 (D4 0) (A1 ?_);refine C6 (aS E a0) kR (A1i 121665 qD _) E ?_;rintro r1 M1 J1 ⟨rfl,rfl,k1⟩;have h1:=k1;obtain ⟨a1,b1,c1,d1,e1,rfl,-⟩:=k1;refine C6 (aS E a0) kR (A1i 121666 qD _) E ?_;rintro r2 M2 J2 ⟨rfl,rfl,k2⟩;have h2:=k2;obtain ⟨a2,b2,c2,d2,e2,rfl,-⟩:=k2;refine C6 (aS E a0) kR (B3h h2 _) E ?_;rintro r3 M3 J3 ⟨rfl,rfl,k3⟩;have h3:=k3;obtain ⟨a3,b3,c3,d3,e3,rfl,-⟩:=k3;refine C6 (aS E (aS E a0)) kR (U4 h1 h3 _) E ?_;rintro r4 M4 J4 ⟨rfl,rfl,k4⟩;have h4:=k4;obtain ⟨a4,b4,c4,d4,e4,rfl,-⟩:=k4;refine C6 (aS E a0) kR (C0r h4 _) E ?_;rintro r5 M5 J5 ⟨rfl,rfl,k5⟩;rw [C47] at k5;have h5:=k5;obtain ⟨a5,b5,c5,d5,e5,rfl,-⟩:=k5;refine A2 E (A5 E E Cd kR ln5 al5 Cs ?_);refine A0 (D4 0) (A9 ?_);exact ⟨_,[],[],A1d E E kR Cc qR,Aa _,by simp,E,E,h5⟩
theorem B3i(V W u:Value)(P Q:Pt)(dd:Nat)(hV:FeP V P)(hW:FeP W Q)(hu:Fe u dd)(A:Mem):FnX prog 138 [V,W,u] [] A λr M J=>M=[]∧J=[]∧FeP r (A8s dd P Q):=by
 obtain ⟨xsp,rfl,p0,p1,p2,p3,p4,p5,p6,p7,p8,p9,p10,p11,p12,p13,p14,p15,p16,p17,p18,p19,rfl,hPX,hPY,hPZ,hPT⟩:=hV;dsimp only [nums,List.map];obtain ⟨xsq,rfl,q0,q1,q2,q3,q4,q5,q6,q7,q8,q9,q10,q11,q12,q13,q14,q15,q16,q17,q18,q19,rfl,hQX,hQY,hQZ,hQT⟩:=hW;dsimp only [nums,List.map];have hd:=hu;obtain ⟨ud0,ud1,ud2,ud3,ud4,rfl,-⟩:=hu;refine Ck (N:=77) func138 E E E λw=>?_;refine A8 (D6 0 1 2) (A1 ?_);refine A2 E (bx_ λb3=>?_);refine A2 E (bx_ λb4=>?_);refine A2 E (bx_ λb5=>?_);refine A2 E (C2 (cs:=[C0,C0,C0,C0,C0,C0,C0,C0,C0,C0,C0,C0,C0,C0,C0,C0,C0,C0,C0,C0]) kR E λb6=>?_);refine A0 (D7 3 4 5 6) ?_;refine C8 (.range 12) [(0,0),(1,1),(2,0),(3,1),(5,0),(6,1),(7,0),(8,1),(4,3),(9,3),(10,3),(11,4),(12,2)] kR kR λhs=>?_;refine fQ_ E (qf_ 5 5) ?_;refine fR_ E (H9 (n:=5) E kR (by first|exact Cc|exact mA (by assumption)) Cr) ?_;refine fQ_ E (qf_ 0 0) ?_;refine fR_ E (H9 (n:=5) E kR (by first|exact Cc|exact mA (by assumption)) Cr) ?_;refine fQ_ E (qf_ 5 5) ?_;refine fR_ E (H9 (n:=5) E kR (by first|exact Cc|exact mA (by assumption)) Cr) ?_;refine fQ_ E (qf_ 0 0) ?_;refine fR_ E (H9 (n:=5) E kR (by first|exact Cc|exact mA (by assumption)) Cr) ?_
 refine N6 [⟨4,19,λv B _=>B=[]∧Fe v (fS P.Y P.X)⟩,⟨9,24,λv B _=>B=[]∧Fe v (fS Q.Y Q.X)⟩,⟨10,25,λv B _=>B=[]∧Fe v (fM (fS P.Y P.X) (fS Q.Y Q.X))⟩,⟨11,7,λv B _=>∃b,v=(vP b)∧B=[(b,blk [C0,C0,C0,C0,C0] 189)]⟩]
  gA nd_ nd_ dl_
  (gO ?_ (gO ?_ (gO ?_ (gO ?_ (I5))))) ?_
 .
  intros
  refine E2 (aS E (aS E (a0))) kR (A6y hPY hPX _) E ?_;rintro r M1 J1 ⟨rfl,rfl,hh⟩;exact ⟨_,E,E,hh⟩
 .
  intros
  refine E2 (aS E (aS E (a0))) kR (A6y hQY hQX _) E ?_;rintro r M1 J1 ⟨rfl,rfl,hh⟩;exact ⟨_,E,E,hh⟩
 . intro _ _ _ _ _ ha;have g4:=gx 0 ha;dsimp only at g4;have g9:=gx 1 ha;dsimp only at g9;obtain ⟨-,k4⟩:=g4;obtain ⟨-,k9⟩:=g9;refine E2 (aS E (aS E (a0))) kR (U4 k4 k9 _) E ?_;rintro r M1 J1 ⟨rfl,rfl,hh⟩;exact ⟨_,E,E,hh⟩
 .
  intros
  exact C2 (cs:=[C0,C0,C0,C0,C0]) kR E λb=>⟨_,E,b,E,E⟩
 intro vs bs Jn0 hφ;have g4:=gy 0 hφ;have g9:=gy 1 hφ;have g10:=gy 2 hφ;have g11:=gy 3 hφ;dsimp only at g4 g9 g10 g11;clear hφ;dsimp only [V0,Q6,List.map,List.flatten,Cu,Ct];generalize bs 4=B19,bs 9=B24,bs 10=B25,bs 11=B7,vs 4=u19,vs 9=u24,vs 10=u25,vs 11=u7 at *;obtain ⟨rfl,k4⟩:=g4;have h4:=k4;obtain ⟨a4,b4,c4,d4,e4,rfl,-⟩:=k4;obtain ⟨rfl,k9⟩:=g9;have h9:=k9;obtain ⟨a9,b9,c9,d9,e9,rfl,-⟩:=k9;obtain ⟨rfl,k10⟩:=g10;have h10:=k10;obtain ⟨a10,b10,c10,d10,e10,rfl,-⟩:=k10;obtain ⟨b11,rfl,rfl⟩:=g11;dsimp only [List.append_eq,Ct,Cu];have hfa:=h10;clear h4 h9 h10;refine G1 E E E (A5 E E Cd kR ln5 al5 Cs ?_);refine E0 (F2 3 4 5 6 7) ?_;refine C8 (.range 12) [(0,0),(1,1),(2,0),(3,1),(5,0),(6,1),(7,0),(8,1),(4,3),(9,3),(10,3),(11,4),(12,2)] kR kR λhs=>?_;refine fQ_ E (qf_ 5 5) ?_;refine fR_ E (H9 (n:=5) E kR (by first|exact Cc|exact mA (by assumption)) Cr) ?_;refine fQ_ E (qf_ 0 0) ?_;refine fR_ E (H9 (n:=5) E kR (by first|exact Cc|exact mA (by assumption)) Cr) ?_;refine fQ_ E (qf_ 5 5) ?_;refine fR_ E (H9 (n:=5) E kR (by first|exact Cc|exact mA (by assumption)) Cr) ?_;refine fQ_ E (qf_ 0 0) ?_;refine fR_ E (H9 (n:=5) E kR (by first|exact Cc|exact mA (by assumption)) Cr) ?_
 refine N6 [⟨4,30,λv B _=>B=[]∧Fe v (fA P.Y P.X)⟩,⟨9,35,λv B _=>B=[]∧Fe v (fA Q.Y Q.X)⟩,⟨10,36,λv B _=>B=[]∧Fe v (fM (fA P.Y P.X) (fA Q.Y Q.X))⟩,⟨11,8,λv B _=>∃b,v=(vP b)∧B=[(b,blk [C0,C0,C0,C0,C0] 189)]⟩]
  gA nd_ nd_ dl_
  (gO ?_ (gO ?_ (gO ?_ (gO ?_ (I5))))) ?_
 .
  intros
  refine E2 (aS E (aS E (a0))) kR (A5k hPY hPX _) E ?_;rintro r M1 J1 ⟨rfl,rfl,hh⟩;exact ⟨_,E,E,hh⟩
 .
  intros
  refine E2 (aS E (aS E (a0))) kR (A5k hQY hQX _) E ?_;rintro r M1 J1 ⟨rfl,rfl,hh⟩;exact ⟨_,E,E,hh⟩
 . intro _ _ _ _ _ ha;have g4:=gx 0 ha;dsimp only at g4;have g9:=gx 1 ha;dsimp only at g9;obtain ⟨-,k4⟩:=g4;obtain ⟨-,k9⟩:=g9;refine E2 (aS E (aS E (a0))) kR (U4 k4 k9 _) E ?_;rintro r M1 J1 ⟨rfl,rfl,hh⟩;exact ⟨_,E,E,hh⟩
 .
  intros
  exact C2 (cs:=[C0,C0,C0,C0,C0]) kR E λb=>⟨_,E,b,E,E⟩
 intro vs bs Jn0 hφ;have g4:=gy 0 hφ;have g9:=gy 1 hφ;have g10:=gy 2 hφ;have g11:=gy 3 hφ;dsimp only at g4 g9 g10 g11;clear hφ;dsimp only [V0,Q6,List.map,List.flatten,Cu,Ct];generalize bs 4=B30,bs 9=B35,bs 10=B36,bs 11=B8,vs 4=u30,vs 9=u35,vs 10=u36,vs 11=u8 at *;obtain ⟨rfl,k4⟩:=g4;have h4:=k4;obtain ⟨a4,b4,c4,d4,e4,rfl,-⟩:=k4;obtain ⟨rfl,k9⟩:=g9;have h9:=k9;obtain ⟨a9,b9,c9,d9,e9,rfl,-⟩:=k9;obtain ⟨rfl,k10⟩:=g10;have h10:=k10;obtain ⟨a10,b10,c10,d10,e10,rfl,-⟩:=k10;obtain ⟨b11,rfl,rfl⟩:=g11;dsimp only [List.append_eq,Ct,Cu];have hfb:=h10;clear h4 h9 h10;refine G1 E E E (A5 E E Cd kR ln5 al5 Cs ?_);refine E0 (G7 3 4 5 6 7 8) ?_;refine C8 (.range 8) [(0,0),(1,1),(2,1),(4,0),(5,1),(3,3),(6,3),(7,4),(8,2)] kR kR λhs=>?_;refine fQ_ E (qf_ 15 15) ?_;refine fR_ E (H9 (n:=5) E kR (by first|exact Cc|exact mA (by assumption)) Cr) ?_;refine fR_ E (qw_ 5) ?_;refine fQ_ E (qf_ 15 15) ?_;refine fR_ E (H9 (n:=5) E kR (by first|exact Cc|exact mA (by assumption)) Cr) ?_
 refine N6 [⟨3,40,λv B _=>B=[]∧Fe v (fM P.T dd)⟩,⟨6,43,λv B _=>B=[]∧Fe v (fM (fM P.T dd) Q.T)⟩,⟨7,9,λv B _=>∃b,v=(vP b)∧B=[(b,blk [C0,C0,C0,C0,C0] 189)]⟩]
  gA nd_ nd_ dl_
  (gO ?_ (gO ?_ (gO ?_ (I5)))) ?_
 .
  intros
  refine E2 (aS E (aS E (a0))) kR (U4 hPT hd _) E ?_;rintro r M1 J1 ⟨rfl,rfl,hh⟩;exact ⟨_,E,E,hh⟩
 . intro _ _ _ _ _ ha;have g3:=gx 0 ha;dsimp only at g3;obtain ⟨-,k3⟩:=g3;refine E2 (aS E (aS E (a0))) kR (U4 k3 hQT _) E ?_;rintro r M1 J1 ⟨rfl,rfl,hh⟩;exact ⟨_,E,E,hh⟩
 .
  intros
  exact C2 (cs:=[C0,C0,C0,C0,C0]) kR E λb=>⟨_,E,b,E,E⟩
 intro vs bs Jn0 hφ;have g3:=gy 0 hφ;have g6:=gy 1 hφ;have g7:=gy 2 hφ;dsimp only at g3 g6 g7;clear hφ;dsimp only [V0,Q6,List.map,List.flatten,Cu,Ct];generalize bs 3=B40,bs 6=B43,bs 7=B9,vs 3=u40,vs 6=u43,vs 7=u9 at *;obtain ⟨rfl,k3⟩:=g3;have h3:=k3;obtain ⟨a3,b3,c3,d3,e3,rfl,-⟩:=k3;obtain ⟨rfl,k6⟩:=g6;have h6:=k6;obtain ⟨a6,b6,c6,d6,e6,rfl,-⟩:=k6;obtain ⟨b7,rfl,rfl⟩:=g7;dsimp only [List.append_eq,Ct,Cu];have hc:=h6;clear h3 h6;refine G1 E E E (A5 E E Cd kR ln5 al5 Cs ?_);refine E0 (G7 3 4 6 7 8 9) (A1 (lQ_ (qf_ 10 10) ?_));refine lQ_ (H9 (n:=5) E kR (by first|exact Cc|exact mA (by assumption)) Cr) ?_;refine lQ_ (qf_ 10 10) ?_;refine lQ_ (H9 (n:=5) E kR (by first|exact Cc|exact mA (by assumption)) Cr) ?_;refine C6 (aS E (aS E a0)) kR (U4 hPZ hQZ _) E ?_;rintro r48 M48 J48 ⟨rfl,rfl,k48⟩;have h48:=k48;obtain ⟨a48,b48,c48,d48,e48,rfl,-⟩:=k48;refine A2 E (C2 (cs:=[C0,C0,C0,C0,C0]) kR E λb10=>?_);refine A2 E (A5 E E Cd kR ln5 al5 Cs ?_);refine A0 (F2 6 7 8 9 10) (A1 ?_);refine lQ_ (qw_ 5) ?_;refine lQ_ (qw_ 5) ?_;refine C6 (aS E (aS E a0)) kR (A5k h48 h48 _) E ?_;rintro r51 M51 J51 ⟨rfl,rfl,k51⟩;have h51:=k51;obtain ⟨a51,b51,c51,d51,e51,rfl,-⟩:=k51;refine A2 E (A5 E E Cd kR ln5 al5 Cs ?_);refine A0 (F2 6 7 8 9 10) ?_;refine C8 (.range 16) [(0,1),(1,1),(3,1),(4,1),(6,1),(7,1),(9,1),(10,1),(2,3),(5,3),(8,3),(11,3),(12,3),(13,3),(14,3),(15,4),(16,2),(17,2),(18,2),(19,2)] kR kR λhs=>?_;refine fR_ E (qw_ 5) ?_;refine fR_ E (qw_ 5) ?_;refine fR_ E (qw_ 5) ?_;refine fR_ E (qw_ 5) ?_;refine fR_ E (qw_ 5) ?_;refine fR_ E (qw_ 5) ?_;refine fR_ E (qw_ 5) ?_;refine fR_ E (qw_ 5) ?_
 refine N6 [⟨2,54,λv B _=>B=[]∧Fe v (fS (fM (fA P.Y P.X) (fA Q.Y Q.X)) (fM (fS P.Y P.X) (fS Q.Y Q.X)))⟩,⟨5,57,λv B _=>B=[]∧Fe v (fS (fA (fM P.Z Q.Z) (fM P.Z Q.Z)) (fM (fM P.T dd) Q.T))⟩,⟨8,60,λv B _=>B=[]∧Fe v (fA (fA (fM P.Z Q.Z) (fM P.Z Q.Z)) (fM (fM P.T dd) Q.T))⟩,⟨11,63,λv B _=>B=[]∧Fe v (fA (fM (fA P.Y P.X) (fA Q.Y Q.X)) (fM (fS P.Y P.X) (fS Q.Y Q.X)))⟩,⟨12,11,λv B _=>∃b,v=(vP b)∧B=[(b,blk [C0,C0,C0,C0,C0] 189)]⟩,⟨13,12,λv B _=>∃b,v=(vP b)∧B=[(b,blk [C0,C0,C0,C0,C0] 189)]⟩,⟨14,13,λv B _=>∃b,v=(vP b)∧B=[(b,blk [C0,C0,C0,C0,C0] 189)]⟩,⟨15,14,λv B _=>∃b,v=(vP b)∧B=[(b,blk [C0,C0,C0,C0,C0] 189)]⟩]
  gA nd_ nd_ dl_
  (gO ?_ (gO ?_ (gO ?_ (gO ?_ (gO ?_ (gO ?_ (gO ?_ (gO ?_ (I5))))))))) ?_
 .
  intros
  refine E2 (aS E (aS E (a0))) kR (A6y hfb hfa _) E ?_;rintro r M1 J1 ⟨rfl,rfl,hh⟩;exact ⟨_,E,E,hh⟩
 .
  intros
  refine E2 (aS E (aS E (a0))) kR (A6y h51 hc _) E ?_;rintro r M1 J1 ⟨rfl,rfl,hh⟩;exact ⟨_,E,E,hh⟩
 .
  intros
  refine E2 (aS E (aS E (a0))) kR (A5k h51 hc _) E ?_;rintro r M1 J1 ⟨rfl,rfl,hh⟩;exact ⟨_,E,E,hh⟩
 .
  intros
  refine E2 (aS E (aS E (a0))) kR (A5k hfb hfa _) E ?_;rintro r M1 J1 ⟨rfl,rfl,hh⟩;exact ⟨_,E,E,hh⟩
 .
  intros
  exact C2 (cs:=[C0,C0,C0,C0,C0]) kR E λb=>⟨_,E,b,E,E⟩
 .
  intros
  exact C2 (cs:=[C0,C0,C0,C0,C0]) kR E λb=>⟨_,E,b,E,E⟩
 .
  intros
  exact C2 (cs:=[C0,C0,C0,C0,C0]) kR E λb=>⟨_,E,b,E,E⟩
 .
  intros
  exact C2 (cs:=[C0,C0,C0,C0,C0]) kR E λb=>⟨_,E,b,E,E⟩
 intro vs bs Jn0 hφ;have g2:=gy 0 hφ;have g5:=gy 1 hφ;have g8:=gy 2 hφ;have g11:=gy 3 hφ;have g12:=gy 4 hφ;have g13:=gy 5 hφ;have g14:=gy 6 hφ;have g15:=gy 7 hφ;dsimp only at g2 g5 g8 g11 g12 g13 g14 g15;clear hφ;dsimp only [V0,Q6,List.map,List.flatten,Cu,Ct];generalize bs 2=B54,bs 5=B57,bs 8=B60,bs 11=B63,bs 12=B11,bs 13=B12,bs 14=B13,bs 15=B14,vs 2=u54,vs 5=u57,vs 8=u60,vs 11=u63,vs 12=u11,vs 13=u12,vs 14=u13,vs 15=u14 at *;obtain ⟨rfl,k2⟩:=g2;have h2:=k2;obtain ⟨a2,b2,c2,d2,e2,rfl,-⟩:=k2;obtain ⟨rfl,k5⟩:=g5;have h5:=k5;obtain ⟨a5,b5,c5,d5,e5,rfl,-⟩:=k5;obtain ⟨rfl,k8⟩:=g8;have h8:=k8;obtain ⟨a8,b8,c8,d8,e8,rfl,-⟩:=k8;obtain ⟨rfl,k11⟩:=g11;have h11:=k11;obtain ⟨a11,b11,c11,d11,e11,rfl,-⟩:=k11;obtain ⟨b12,rfl,rfl⟩:=g12;obtain ⟨b13,rfl,rfl⟩:=g13;obtain ⟨b14,rfl,rfl⟩:=g14;obtain ⟨b15,rfl,rfl⟩:=g15;dsimp only [List.append_eq,Ct,Cu];refine G1 E E E (A5 E E Cd kR ln5 al5 Cs ?_);refine G1 E E E (A5 E E Cd kR ln5 al5 Cs ?_);refine G1 E E E (A5 E E Cd kR ln5 al5 Cs ?_);refine G1 E E E (A5 E E Cd kR ln5 al5 Cs ?_);refine E0 (F2 6 11 12 13 14) ?_;refine C8 (.range 13) [(0,1),(1,1),(3,1),(4,1),(6,1),(7,1),(9,1),(10,1),(2,2),(5,2),(8,2),(11,2),(12,0),(13,2)] kR kR λhs=>?_;refine fR_ E (qw_ 5) ?_;refine fR_ E (qw_ 5) ?_;refine fR_ E (qw_ 5) ?_;refine fR_ E (qw_ 5) ?_;refine fR_ E (qw_ 5) ?_;refine fR_ E (qw_ 5) ?_;refine fR_ E (qw_ 5) ?_;refine fR_ E (qw_ 5) ?_;refine G5 E (aS E (aS E a0)) kR (U4 h2 h5 _) E ?_;rintro r66 M66 J66 ⟨rfl,rfl,k66⟩;have h66:=k66;obtain ⟨a66,b66,c66,d66,e66,rfl,-⟩:=k66;refine G5 E (aS E (aS E a0)) kR (U4 h8 h11 _) E ?_;rintro r69 M69 J69 ⟨rfl,rfl,k69⟩;have h69:=k69;obtain ⟨a69,b69,c69,d69,e69,rfl,-⟩:=k69;refine G5 E (aS E (aS E a0)) kR (U4 h5 h8 _) E ?_;rintro r72 M72 J72 ⟨rfl,rfl,k72⟩;have h72:=k72;obtain ⟨a72,b72,c72,d72,e72,rfl,-⟩:=k72;refine G5 E (aS E (aS E a0)) kR (U4 h2 h11 _) E ?_;rintro r75 M75 J75 ⟨rfl,rfl,k75⟩;have h75:=k75;obtain ⟨a75,b75,c75,d75,e75,rfl,-⟩:=k75;refine fQ_ E (F0 (place:=λx=>#[(0,5),(5,5),(10,5),(15,5)][x]?) (z:=[C0,C0,C0,C0,C0,C0,C0,C0,C0,C0,C0,C0,C0,C0,C0,C0,C0,C0,C0,C0]) (λ_=>by kernel_rfl) (eS E (eS E (eS E (eS E e0)))) (bdS 0 5 E qR (bdS 5 5 E qR (bdS 10 5 E qR (bdS 15 5 E qR bd0))))) ?_;refine G1 E E E (A5 E E Cd kR A3Y A3Z Cs ?_);refine E0 (D4 6) (A9 ?_);exact ⟨_,[],[],A1d E E kR Cc qR,Aa _,by simp,E,E,⟨_,E,_,_,_,_,_,_,_,_,_,_,_,_,_,_,_,_,_,_,_,_,E,h66,h69,h72,h75⟩⟩

end Go.Proofs.YtglbhoeolghndaaGreatDoor
namespace Go.Px
structure Gv where
  i:Nat
  d:Nat
  m:Mem
  φ:Value->Mem->Mem->Prop
theorem gv_inj{G:List Gv}(h:(G.map (·.i)).Nodup){g g':Gv}(hg:g∈G)(hg':g'∈G)(e:g.i=g'.i):g=g':=by
  induction G with
  | nil=>cases hg
  | cons x G ih =>
    simp only [List.map_cons,List.nodup_cons] at h;rcases List.mem_cons.1 hg with h1|h1<;>rcases List.mem_cons.1 hg' with h2|h2
    . rw [h1,h2]
    . exact absurd (by rw [<- h1,e];exact Al (f:=Gv.i) h2) h.1
    . exact absurd (by rw [<- h2,<- e];exact Al (f:=Gv.i) h1) h.1
    . exact ih h.2 h1 h2
def C2l(X:List Nat)(bs:Nat->Mem)(G:List Gv):Mem:=(G.map λg=>if g.i∈X then bs g.i else g.m).flatten
def A7T(X:List Nat)(bs:Nat->Mem)(G:List Gv):Mem:=(G.map λg=>if g.i∈X then bs g.i else []).flatten
variable{X:List Nat}{bs:Nat->Mem}
theorem A7U{G:List Gv}:∀x∈A7T X bs G,x∈C2l X bs G:=by
  intro x hx;unfold A7T at hx;unfold C2l;obtain ⟨l,hl,hx⟩:=List.mem_flatten.1 hx;obtain ⟨g,hg,rfl⟩:=List.mem_map.1 hl;refine List.mem_flatten.2 ⟨_,Al hg,?_⟩;split at hx
  . rename_i h;rw [if_pos h];exact hx
  . cases hx
theorem C3b{G:List Gv}{g:Gv}(hi:(G.map (·.i)).Nodup)(hg:g∈G)(hX:g.i∉X)(M':Mem) :
    ∃R,(C2l X bs G).Perm (g.m++R)∧(∀x∈A7T X bs G,x∈R)∧(M'++R).Perm (C2l (X++[g.i]) (λk=>if k=g.i then M' else bs k) G)∧(∀x∈M'++A7T X bs G,x∈A7T (X++[g.i]) (λk=>if k=g.i then M' else bs k) G):=by
  obtain ⟨s,t,rfl⟩:=List.append_of_mem hg
  have hne:∀x∈s++t,x.i≠g.i:=by
    intro x hx e;simp only [List.map_append,List.map_cons,List.nodup_append,List.nodup_cons] at hi;rcases List.mem_append.1 hx with h|h
    . exact hi.2.2 _ (Al (f:=Gv.i) h) _ Ax e
    . exact hi.2.1.1 (e▸Al (f:=Gv.i) h)
  have e1:∀(f f':Gv->Mem) (l:List Gv),(∀x∈l,f x=f' x)->l.map f=l.map f':=λf f' l h=>Bt h
  have es:(s.map λx=>if x.i∈X++[g.i] then (if x.i=g.i then M' else bs x.i) else x.m)=s.map λx=>if x.i∈X then bs x.i else x.m:=e1 _ _ _ λx hx=>by have h:=hne x (Ae _ hx);simp [h]
  have et:(t.map λx=>if x.i∈X++[g.i] then (if x.i=g.i then M' else bs x.i) else x.m)=t.map λx=>if x.i∈X then bs x.i else x.m:=e1 _ _ _ λx hx=>by have h:=hne x (Ai _ hx);simp [h]
  have fs:(s.map λx=>if x.i∈X++[g.i] then (if x.i=g.i then M' else bs x.i) else ([]:Mem))=s.map λx=>if x.i∈X then bs x.i else []:=e1 _ _ _ λx hx=>by have h:=hne x (Ae _ hx);simp [h]
  have ft:(t.map λx=>if x.i∈X++[g.i] then (if x.i=g.i then M' else bs x.i) else ([]:Mem))=t.map λx=>if x.i∈X then bs x.i else []:=e1 _ _ _ λx hx=>by have h:=hne x (Ai _ hx);simp [h]
  refine ⟨(s.map λx=>if x.i∈X then bs x.i else x.m).flatten++(t.map λx=>if x.i∈X then bs x.i else x.m).flatten,?_,?_,?_,?_⟩
  . simp only [C2l,List.map_append,List.map_cons,if_neg hX,List.flatten_append,List.flatten_cons];exact List.perm_append_comm_assoc _ _ _
  . intro x hx;simp only [A7T,List.map_append,List.map_cons,if_neg hX,List.flatten_append,List.flatten_cons,Ct,List.mem_append] at hx;refine List.mem_append.2 (hx.imp (λh=>?_) λh=>?_)
    . exact A7U (G:=s) x h
    . exact A7U (G:=t) x h
  . simp only [C2l,List.map_append,List.map_cons,List.flatten_append,List.flatten_cons,es,et];simp only [List.mem_append,List.mem_singleton,or_true,if_true];exact (List.perm_append_comm_assoc _ _ _).symm
  . intro x hx;simp only [A7T,List.map_append,List.map_cons,List.flatten_append,List.flatten_cons,fs,ft];simp only [List.mem_append,List.mem_singleton,or_true,if_true];simp only [A7T,List.map_append,List.map_cons,if_neg hX,List.flatten_append,List.flatten_cons,Ct,List.mem_append] at hx;rcases hx with h|h|h
    . exact .inr (.inl h)
    . exact .inl h
    . exact .inr (.inr h)
variable{P:Program}{w:World}{F:List Nat}{A' Mc:Mem}
theorem St.widen{w':World}{A M' J':Mem}{n:Nat}(h:St ⟨P,w,F,A',n⟩ Mc [] w)(hs:St ⟨P,w,F,A,n⟩ M' J' w'):St ⟨P,w,F,A',n⟩ M' J' w':=by
  refine ⟨hs.os,hs.tape,hs.output,hs.size,hs.frame,λb o hb=>?_,hs.nodup,hs.own,hs.sepJ,h.sepA,hs.old⟩;simp only [List.mem_append] at hb;rcases hb with hb|hb|hb
  . exact hs.mem b o (by simp [hb])
  . exact hs.mem b o (by simp [hb])
  . have h1:=h.sepA b o hb;have h2:=hs.frame b h1.2 h1.1;rw [h2];exact h.mem b o (by simp;exact .inr hb)
theorem St.less{A:Mem}{n:Nat}(h:St ⟨P,w,F,A',n⟩ Mc [] w)(hA:∀x∈A,x∈A'):St ⟨P,w,F,A,n⟩ Mc [] w :=
  ⟨h.os,h.tape,h.output,h.size,h.frame,λb o hb=>h.mem b o (by simp at hb ⊢;exact hb.imp id (hA _)),h.nodup,h.own,h.sepJ,λb o hb=>h.sepA b o (hA _ hb),h.old⟩
section group
variable{C:Cx}{Q:XQ}{l:Env}{M M0 J:Mem}{os:List Oper}{K:Nat->Prop}{n0:Nat}{nd:List Nat}{plan:List (Nat×Nat)}
end group
end Go.Px

namespace Go.Px
structure Gc where
  i:Nat
  d:Nat
  s:Option Nat
  m:Mem
  φ:Value->Mem->Mem->Prop
def Gc.inp(g:Gc)(bs:Nat->Mem):Mem:=match g.s with
  | none=>g.m
  | some s=>bs s
variable{g:Gc}{bs:Nat->Mem}
theorem Gc.inp_none(h:g.s=none):g.inp bs=g.m:=by unfold Gc.inp;rw [h]
theorem Gc.inp_some{s:Nat}(h:g.s=some s):g.inp bs=bs s:=by unfold Gc.inp;rw [h]
def P7(G:List Gc)(vs:Nat->Value):Env:=G.map λg=>(g.d,vs g.i)
def B62(G:List Gc):List Gm:=G.map λg=>⟨g.i,g.d,λ_ _=>True⟩
theorem B3j(G:List Gc):(B62 G).map (·.i)=G.map (·.i):=by simp [B62]
theorem B3k(G:List Gc):(B62 G).map (·.d)=G.map (·.d):=by simp [B62]
theorem A1S(G:List Gc)(vs:Nat->Value):A3O (B62 G) vs=P7 G vs:=by simp [A3O,P7,B62]
variable{G:List Gc}
theorem A0J(h:(G.map (·.i)).Nodup){g':Gc}(hg:g∈G)(hg':g'∈G)(e:g.i=g'.i):g=g':=by
  induction G with
  | nil=>cases hg
  | cons x G ih =>
    simp only [List.map_cons,List.nodup_cons] at h;rcases List.mem_cons.1 hg with h1|h1<;>rcases List.mem_cons.1 hg' with h2|h2
    . rw [h1,h2]
    . exact absurd (by rw [<- h1,e];exact Al (f:=Gc.i) h2) h.1
    . exact absurd (by rw [<- h2,<- e];exact Al (f:=Gc.i) h1) h.1
    . exact ih h.2 h1 h2
def A3D(G:List Gc)(X:List Nat)(bs:Nat->Mem)(g:Gc):Mem :=
  if g.i∈X then (if ∃g'∈G,g'.s=some g.i∧g'.i∈X then [] else bs g.i) else (if g.s=none then g.m else [])
def A8O(X:List Nat)(bs:Nat->Mem)(G:List Gc):Mem:=(G.map (A3D G X bs)).flatten
def B3l(l:List (Nat×Option Nat))(i:Nat):Bool:=l.any λp=>p.2==some i
def B00(G:List Gc)(bs:Nat->Mem):List Mem:=(G.filter λg=>!B3l (G.map λg=>(g.i,g.s)) g.i).map λg=>bs g.i
def U1(l:List Mem)(M:Mem):Mem:=l.foldr (·++·) M
def A0D(G:List Gc):List Mem:=(G.filter λg=>g.s.isNone).map (·.m)
def A8P(ops:Array Oper)(l:List (Nat×Option Nat)):Bool :=
  l.all λp=>match p.2 with
    | none=>true
    | some s=>(l.map Prod.fst).contains s&&anc ops ops.size p.1 s&&l.all λq=>q.2 != some s||q.1==p.1
structure ChainOk(ops:Array Oper)(G:List Gc):Prop where
  anc:∀g∈G,∀s,g.s=some s->anc ops ops.size g.i s=true
  mem:∀g∈G,∀s,g.s=some s->s∈G.map (·.i)
  one:∀g∈G,∀g'∈G,∀s,g.s=some s->g'.s=some s->g'.i=g.i
variable{ops:Array Oper}
theorem A9N(h:A8P ops (G.map λg=>(g.i,g.s))=true):ChainOk ops G:=by
  have key:∀g∈G,∀s,g.s=some s->s∈G.map (·.i)∧Px.anc ops ops.size g.i s=true∧∀g'∈G,g'.s=some s->g'.i=g.i:=by intro g hg s hs;have h1:=List.all_eq_true.1 h (g.i,g.s) (Al (f:=λg:Gc=>(g.i,g.s)) hg);simp only [hs,Bool.and_eq_true,List.contains_iff_mem,List.map_map] at h1;obtain ⟨⟨h2,h3⟩,h4⟩:=h1;refine ⟨by simpa [Function.comp_def] using h2,h3,λg' hg' hs'=>?_⟩;have h5:=List.all_eq_true.1 h4 (g'.i,g'.s) (Al (f:=λg:Gc=>(g.i,g.s)) hg');simp [hs'] at h5;exact h5
  exact ⟨λg hg s hs=>(key g hg s hs).2.1,λg hg s hs=>(key g hg s hs).1,λg hg g' hg' s hs hs'=>(key g hg s hs).2.2 g' hg' hs'⟩
theorem A8Q(hi:(G.map (·.i)).Nodup)(hg:g∈G)(f:Gc->Mem) :
    ∃R,∀f':Gc->Mem,(∀x∈G,x.i≠g.i->f' x=f x)->(G.map f').flatten.Perm (f' g++R):=by
  obtain ⟨s,t,rfl⟩:=List.append_of_mem hg
  have hne:∀x∈s++t,x.i≠g.i:=by
    intro x hx e;simp only [List.map_append,List.map_cons,List.nodup_append,List.nodup_cons] at hi;rcases List.mem_append.1 hx with h|h
    . exact hi.2.2 _ (Al (f:=Gc.i) h) _ Ax e
    . exact hi.2.1.1 (e▸Al (f:=Gc.i) h)
  refine ⟨(s.map f).flatten++(t.map f).flatten,λf' h=>?_⟩;have es:s.map f'=s.map f:=Bt λx hx=>h x (by simp [hx]) (hne x (Ae _ hx));have et:t.map f'=t.map f:=Bt λx hx=>h x (by simp [hx]) (hne x (Ai _ hx));simp only [List.map_append,List.map_cons,List.flatten_append,List.flatten_cons,es,et];exact List.perm_append_comm_assoc _ _ _
variable{X:List Nat}
theorem A4O(hi:(G.map (·.i)).Nodup)(hc:ChainOk ops G)(hg:g∈G)(hX:g.i∉X)(hcl:∀g'∈G,g'.i∈X->∀s,g'.s=some s->s∈X)(hsx:∀s,g.s=some s->s∈X) :
    ∃R,(A8O X bs G).Perm (g.inp bs++R)∧∀M',(M'++R).Perm (A8O (X++[g.i]) (λk=>if k=g.i then M' else bs k) G):=by
  have hmem:∀x:Gc,x.i≠g.i->(x.i∈X++[g.i]↔x.i∈X):=λx h=>by simp [h]
  have hself:∀M':Mem,A3D G (X++[g.i]) (λk=>if k=g.i then M' else bs k) g=M':=by
    intro M'
    have hno:¬ ∃g'∈G,g'.s=some g.i∧g'.i∈X++[g.i]:=by
      rintro ⟨g',hg',hs',hx'⟩;rcases List.mem_append.1 hx' with h|h
      . exact hX (hcl g' hg' h _ hs')
      . have h2:g'=g:=A0J hi hg' hg (by simpa using h);subst h2;exact hX (hsx _ hs')
    unfold A3D;rw [if_pos (by simp),if_neg hno];exact if_pos rfl
  cases hs:g.s with
  | none =>
    obtain ⟨R,hR⟩:=A8Q hi hg (A3D G X bs);refine ⟨R,?_,λM'=>?_⟩
    . have h1:=hR (A3D G X bs) λ_ _ _=>rfl;have h2:A3D G X bs g=g.inp bs:=by unfold A3D;rw [if_neg hX,if_pos hs,Gc.inp_none hs]
      rw [h2] at h1;exact h1
    . have h1:=hR (A3D G (X++[g.i]) λk=>if k=g.i then M' else bs k) λx hx hne=>by
        unfold A3D;by_cases hxX:x.i∈X
        . rw [if_pos ((hmem x hne).2 hxX),if_pos hxX]
          have hiff:(∃g'∈G,g'.s=some x.i∧g'.i∈X++[g.i])↔(∃g'∈G,g'.s=some x.i∧g'.i∈X):=by
            constructor
            . rintro ⟨g',h1,h2,h3⟩;rcases List.mem_append.1 h3 with h4|h4
              . exact ⟨g',h1,h2,h4⟩
              . have h5:g'=g:=A0J hi h1 hg (by simpa using h4);subst h5;rw [hs] at h2;cases h2
            . rintro ⟨g',h1,h2,h3⟩;exact ⟨g',h1,h2,Ae _ h3⟩
          simp only [hiff,if_neg hne]
        . rw [if_neg (λh=>hxX ((hmem x hne).1 h)),if_neg hxX]
      rw [hself M'] at h1;exact h1.symm
  | some s =>
    have hsX:=hsx s hs;obtain ⟨gs,hgs,rfl⟩:=List.mem_map.1 (hc.mem g hg s hs);have hne0:gs.i≠g.i:=λh=>hX (h▸hsX);obtain ⟨R1,hR1⟩:=A8Q hi hgs (A3D G X bs);have h1:=hR1 (A3D G X bs) λ_ _ _=>rfl
    have e1:A3D G X bs gs=bs gs.i:=by unfold A3D;rw [if_pos hsX,if_neg];rintro ⟨g',hg',hs',hx'⟩;exact hX (hc.one g hg g' hg' _ hs hs'▸hx')
    rw [e1] at h1;have h2:=hR1 (λx=>if x.i=gs.i then [] else A3D G X bs x) λx _ hne=>if_neg hne;simp only [if_true,Ct] at h2;obtain ⟨R2,hR2⟩:=A8Q hi hg (λx=>if x.i=gs.i then [] else A3D G X bs x);have h3:=hR2 (λx=>if x.i=gs.i then [] else A3D G X bs x) λ_ _ _=>rfl
    have e3:(if g.i=gs.i then [] else A3D G X bs g)=([]:Mem):=by rw [if_neg (Ne.symm hne0)];unfold A3D;rw [if_neg hX,if_neg (by rw [hs];exact λh=>by cases h)]
    simp only [e3,Ct] at h3;refine ⟨R2,?_,λM'=>?_⟩
    . rw [Gc.inp_some hs];exact h1.trans (List.Perm.append_left _ (h2.symm.trans h3))
    . have h4:=hR2 (A3D G (X++[g.i]) λk=>if k=g.i then M' else bs k) λx hx hne=>by
        by_cases hxs:x.i=gs.i
        . rw [if_pos hxs];unfold A3D;rw [if_pos ((hmem x hne).2 (hxs▸hsX)),if_pos ⟨g,hg,by rw [hs,hxs],by simp⟩]
        . rw [if_neg hxs];unfold A3D;by_cases hxX:x.i∈X
          . rw [if_pos ((hmem x hne).2 hxX),if_pos hxX]
            have hiff:(∃g'∈G,g'.s=some x.i∧g'.i∈X++[g.i])↔(∃g'∈G,g'.s=some x.i∧g'.i∈X):=by
              constructor
              . rintro ⟨g',h1,h2,h3⟩;rcases List.mem_append.1 h3 with h4|h4
                . exact ⟨g',h1,h2,h4⟩
                . have h5:g'=g:=A0J hi h1 hg (by simpa using h4);subst h5;rw [hs] at h2;exact absurd (Ca h2).symm hxs
              . rintro ⟨g',h1,h2,h3⟩;exact ⟨g',h1,h2,Ae _ h3⟩
            simp only [hiff,if_neg hne]
          . rw [if_neg (λh=>hxX ((hmem x hne).1 h)),if_neg hxX]
      rw [hself M'] at h4;exact h4.symm
theorem A9O:A8O [] bs G=(A0D G).flatten:=by
  have:∀G':List Gc,(G'.map (A3D G [] bs)).flatten=(A0D G').flatten:=by
    intro G'
    induction G' with
    | nil=>rfl
    | cons g G' ih =>
      rw [List.map_cons,List.flatten_cons,ih];have e:A3D G [] bs g=if g.s=none then g.m else []:=by unfold A3D;rw [if_neg (by simp)]
      rw [e]
      cases hs:g.s with
      | none=>simp [A0D,hs]
      | some s=>simp [A0D,hs]
  exact this G
theorem A9P(h:∀g∈G,g.i∈X):A8O X bs G=(B00 G bs).flatten:=by
  have he:∀g∈G,A3D G X bs g=if B3l (G.map λg=>(g.i,g.s)) g.i=true then [] else bs g.i:=by
    intro g hg;unfold A3D;rw [if_pos (h g hg)]
    have:(∃g'∈G,g'.s=some g.i∧g'.i∈X)↔B3l (G.map λg=>(g.i,g.s)) g.i=true:=by
      unfold B3l;simp only [List.any_eq_true,List.mem_map];constructor
      . rintro ⟨g',h1,h2,_⟩;exact ⟨_,⟨g',h1,E⟩,by simp [h2]⟩
      . rintro ⟨_,⟨g',h1,rfl⟩,h2⟩;exact ⟨g',h1,by simpa using h2,h g' h1⟩
    simp only [this]
  unfold A8O B00;rw [Bt he]
  have:∀(G':List Gc) (p:Gc->Bool),(G'.map λg=>if p g=true then ([]:Mem) else bs g.i).flatten=((G'.filter λg=>!p g).map λg=>bs g.i).flatten:=by
    intro G' p
    induction G' with
    | nil=>rfl
    | cons g G' ih =>
      rw [List.map_cons,List.flatten_cons,ih];cases hp:p g<;>simp [hp]
  exact this G λg=>B3l (G.map λg=>(g.i,g.s)) g.i
theorem A35(l:List Mem)(M:Mem):U1 l M=l.flatten++M:=by
  induction l with
  | nil=>rfl
  | cons a l ih=>show a++U1 l M=_;rw [ih,List.flatten_cons,Ap]
section group
variable{C:Cx}{Q:XQ}{l:Env}{M M0 J:Mem}{os:List Oper}{K:Nat->Prop}{n0:Nat}{nd:List Nat}{plan:List (Nat×Nat)}
def A8R(C:Cx)(os:List Oper)(l:Env)(M0 J:Mem)(G:List Gc)(g:Gc):Prop :=
  ∃o,nth os g.i=some o∧∀(vs:Nat->Value) (bs:Nat->Mem) (R Rj:Mem) (w:World),(∀x∈M0++(J++C.A),x∈R)->(∀x∈J++C.A,x∈Rj)->(∀x∈Rj,x∈R)->(∀g'∈G,anc os.toArray os.toArray.size g.i g'.i=true->g'.φ (vs g'.i) (bs g'.i) Rj) ->
    B6p os (P7 G vs++l) o∧OpL ⟨C.P,w,(g.inp bs).map Prod.fst,R,C.N⟩ o (P7 G vs++l) (g.inp bs) [] (λl' M' J'=>∃v,l'=(g.d,v)::(P7 G vs++l)∧g.φ v M' (J'++Rj))
theorem B3m(hmono:∀g∈G,A19 g.φ)(hd:(G.map (·.d)).Nodup)(hi:(G.map (·.i)).Nodup)(hc:ChainOk os.toArray G)(hKn:∀b,n0<=b->K b)(hK:∀m∈A0D G,∀x∈m,K x.1)(hob:∀g∈G,A8R C os l M0 J G g){A B:Array Bool}(hok:GOk os.toArray A (G.map (·.i)) B)
    (hfin:∀(vs:Nat->Value) (bs:Nat->Mem) Jn a w,(∀g∈G,g.φ (vs g.i) (bs g.i) ((Jn++J)++C.A))->(∀g∈G,∀x∈bs g.i,K x.1)->Ag C.N (P7 G vs++l) a->St C ((B00 G bs).flatten++M0) (Jn++J) w->n0<=w.heap.size->A0E C.P os.toArray (T5 (A8q C Q)) (Sk K) nd.contains plan.length B a w) :
    ∀(n:Nat) (X:List Nat) (vs:Nat->Value) (bs:Nat->Mem) (Jn:Mem) (a:Act) (w:World),X.Nodup->(∀i∈X,i∈G.map (·.i))->n+X.length=G.length->Q9 os.toArray (mark A X)->(∀g∈G,g.i∈X->∀s,g.s=some s->s∈X) ->
      (∀g∈G,g.i∈X->g.φ (vs g.i) (bs g.i) ((Jn++J)++C.A))->(∀g∈G,g.i∈X->∀x∈bs g.i,K x.1)->Ag C.N (P7 G vs++l) a->St C (A8O X bs G++M0) (Jn++J) w->n0<=w.heap.size ->
      A0E C.P os.toArray (T5 (A8q C Q)) (Sk K) nd.contains (n+plan.length) (mark A X) a w:=by
  intro n
  induction n with
  | zero =>
    intro X vs bs Jn a w hnd hX hlen hcl hXs hφ hN ha hw hn
    have hall:∀i,i∈X↔i∈G.map (·.i):=λi=>⟨hX i,A2N hnd hX (by simp;omega) i⟩
    have hin:∀g∈G,g.i∈X:=λg hg=>(hall _).2 (Al (f:=Gc.i) hg);have hcur:=A9P (bs:=bs) hin;rw [hcur] at hw;rw [Nat.zero_add,A6e hall,<- hok.mark];exact hfin vs bs Jn a w (λg hg=>hφ g hg (hin g hg)) (λg hg=>hN g hg (hin g hg)) ha hw hn
  | succ n ih =>
    intro X vs bs Jn a w hnd hX hlen hcl hXs hφ hN ha hw hn
    have hmiss:∃k∈G.map (·.i),k∉X:=by apply Classical.byContradiction;intro hno;have hs:∀k∈G.map (·.i),k∈X:=λk hk=>Classical.byContradiction λh=>hno ⟨k,hk,h⟩;have:=A2M hi hs;simp at this;omega
    obtain ⟨k,hkG,hkX⟩:=hmiss
    have hun:∀i∈G.map (·.i),A.getD i true=false:=by
      have:∀ {is A B},GOk os.toArray A is B->∀i∈is,A.getD i true=false:=by
        intro is A B h
        induction h with
        | nil=>intro i hi;cases hi
        | @cons A B i r hr ho h ih =>
          intro k hk;rcases List.mem_cons.1 hk with rfl|hk
          . exact L2 hr
          . have h2:=ih k hk;by_cases e:i=k
            . subst e;exact L2 hr
            . rwa [getD_set_ne true e] at h2
      exact this hok
    have hkun:(mark A X).getD k true=false:=I7.2 ⟨hun k hkG,λh=>hkX h.1⟩;rw [show n+1+plan.length=(n+plan.length)+1 by omega];refine ⟨λh0=>?_,λi hir=>?_⟩
    . obtain ⟨i,hir⟩:=hok.first (A1p A X) (λj hj=>A1q hj) hkG hkun;rw [h0] at hir;cases hir
    . have hiG:i∈G.map (·.i):=by apply Classical.byContradiction;intro hno;have h1:=I7.1 (L2 hir);have h2:=hok.outer k hkG i (A3X hir) h1.1 hno;exact U6 hkun (R5 hcl h2 hir)
      obtain ⟨g,hg,rfl⟩:=List.mem_map.1 hiG;have hiX:g.i∉X:=λh=>(I7.1 (L2 hir)).2 ⟨h,Y7 (hun _ hiG)⟩
      have hin:∀j∈G.map (·.i),anc os.toArray os.toArray.size g.i j=true->j∈X:=λj hj hanc=>by
        have h3:=R5 hcl hanc hir;rcases A0t h3 with h4|h4
        . exact (U6 (hun _ hj) h4).elim
        . exact h4
      have hsx:∀s,g.s=some s->s∈X:=λs hs=>hin s (hc.mem g hg s hs) (hc.anc g hg s hs)
      have hKi:∀x∈g.inp bs,K x.1:=by
        intro x hx
        cases hs:g.s with
        | none =>
          rw [Gc.inp_none hs] at hx;exact hK g.m (List.mem_map.2 ⟨g,List.mem_filter.2 ⟨hg,by simp [hs]⟩,E⟩) x hx
        | some s =>
          rw [Gc.inp_some hs] at hx;obtain ⟨gs,hgs,rfl⟩:=List.mem_map.1 (hc.mem g hg s hs);exact hN gs hgs (hsx _ hs) x hx
      obtain ⟨o,hget,howe⟩:=hob g hg;have hi':os.toArray[g.i]? = some o:=by rw [X0] at hget;simpa using hget
      obtain ⟨hask,hop⟩:=howe vs bs (M0++((Jn++J)++C.A)) ((Jn++J)++C.A) w (λx hx=>by simp only [List.mem_append] at hx ⊢;rcases hx with h|h|h<;>simp [h]) (λx hx=>by simp only [List.mem_append] at hx ⊢;rcases hx with h|h<;>simp [h]) (λx hx=>Ai _ hx) (λg' hg' hanc=>hφ g' hg' (hin _ (Al (f:=Gc.i) hg') hanc));unfold wpOp;simp only [hi'];rw [if_pos (hask.wanted ha)];obtain ⟨R0,hp0,hq0⟩:=A4O (bs:=bs) hi hc hg hiX hXs hsx
      have hpc:(A8O X bs G++M0).Perm (g.inp bs++(R0++M0)):=by rw [<- Ap];exact List.Perm.append_right _ hp0
      have hcal:=hw.callee hpc
      have hcal2:=St.less (A:=M0++((Jn++J)++C.A)) hcal λx hx=>by
        simp only [List.mem_append] at hx ⊢;rcases hx with h|h
        . exact .inl (.inr h)
        . exact .inr h
      refine .inl (Oper.wp_mono ?_ (hop _ a w ha hcal2.cx));rintro a' w' ⟨l',M',J',ha',hs',v,rfl,hφv⟩;have hsz:w.heap.size<=w'.heap.size:=hs'.size;have hs2:=St.widen hcal.cx hs';have hb:=hw.back hpc hs2.cx
      let bs':Nat->Mem:=λk=>if k=g.i then M' else bs k
      have hperm:(M'++(R0++M0)).Perm (A8O (X++[g.i]) bs' G++M0):=by rw [<- Ap];exact List.Perm.append_right _ (hq0 M')
      have hfr2:St C (A8O (X++[g.i]) bs' G++M0) ((J'++Jn)++J) w':=(hb.perm hperm).drop (Ao _) λx hx=>by simp only [List.mem_append] at hx ⊢;rcases hx with (h|h)|h<;>simp [h]
      refine ⟨λ_ b hb' hnk=>hs'.frame b hb' λhm=>?_,?_⟩
      . obtain ⟨x,hx,e⟩:=List.mem_map.1 hm;exact hnk (e▸hKi x hx)
      rw [<- U3];have henv:=A2O (N:=C.N) (G:=B62 G) (l:=l) (vs:=vs) (g:=⟨g.i,g.d,λ_ _=>True⟩) (a:=a') (v:=v) (Al (f:=λg:Gc=>(⟨g.i,g.d,λ_ _=>True⟩:Gm)) hg) (by rw [B3k];exact hd) (by rw [B3j];exact hi) (by rw [A1S];exact ha');rw [A1S] at henv;refine ih (X++[g.i]) (λk=>if k=g.i then v else vs k) bs' (J'++Jn) a' w' ?_ ?_ (by simp;omega) ?_ ?_ ?_ ?_ henv hfr2 (Az hn hsz)
      . rw [List.nodup_append];exact ⟨hnd,by simp,λx hx y hy e=>hiX (by simp at hy;subst hy;exact e▸hx)⟩
      . intro j hj;rcases List.mem_append.1 hj with hj|hj
        . exact hX j hj
        . simp at hj;subst hj;exact hiG
      . rw [U3];exact I9 hcl hir
      . intro g' hg' hm s hs;rcases List.mem_append.1 hm with h|h
        . exact Ae _ (hXs g' hg' h s hs)
        . have h2:g'=g:=A0J hi hg' hg (by simpa using h);subst h2;exact Ae _ (hsx s hs)
      . intro g' hg' hm;by_cases e:g'.i=g.i
        . have:g'=g:=A0J hi hg' hg e;subst this;simp only [if_true,bs'];exact hmono g' hg' _ _ _ _ (λx hx=>by simp only [List.mem_append] at hx ⊢;rcases hx with h|(h|h)|h<;>simp [h]) hφv
        . simp only [e,if_false,bs'];have hm':g'.i∈X:=by simpa [e] using hm
          exact hmono g' hg' _ _ _ _ (λx hx=>by simp only [List.mem_append] at hx ⊢;rcases hx with (h|h)|h<;>simp [h]) (hφ g' hg' hm')
      . intro g' hg' hk x hx;by_cases e:g'.i=g.i
        . have:g'=g:=A0J hi hg' hg e;subst this;simp only [if_true,bs'] at hx;rcases hs'.own x.1 x.2 (by simp [hx]) with h6|h6
          . obtain ⟨y,hy,e6⟩:=List.mem_map.1 h6;exact e6▸hKi y hy
          . exact hKn _ (Az hn h6)
        . simp only [e,if_false,bs'] at hx;have hk':g'.i∈X:=by simpa [e] using hk
          exact hN g' hg' hk' x hx
theorem A0Z(G:List Gc)(M0:Mem)(Lf:(Nat->Mem)->List Mem)(hKn:∀b,n0<=b->K b)(hM:M.Perm (U1 (A0D G) M0))(hK:∀m∈A0D G,∀x∈m,K x.1)(hck:A8P os.toArray (G.map λg=>(g.i,g.s))=true)(hLf:∀bs,B00 G bs=Lf bs)
    (hmono:∀g∈G,A19 g.φ) (hd:(G.map (·.d)).Nodup) (hi:(G.map (·.i)).Nodup) (hdN:∀g∈G,g.d<C.N) (hob:∀g∈G,A8R C os l M0 J G g)
    (h:∀(vs:Nat->Value) (bs:Nat->Mem) Jn,(∀g∈G,g.φ (vs g.i) (bs g.i) ((Jn++J)++C.A))->(∀g∈G,∀x∈bs g.i,K x.1)->XK C os Q K n0 nd plan (P7 G vs++l) (U1 (Lf bs) M0) (Jn++J)):XK C os Q K n0 nd (enc (G.map (·.i))++plan) l M J:=by
  refine A2j hM ?_;rw [A35];intro listed hcl hp a w ha hw hn;obtain ⟨B,hok,hp2⟩:=A9u hp
  have hBcl:Q9 os.toArray B:=by
    have:∀ {A is B},GOk os.toArray A is B->Q9 os.toArray A->Q9 os.toArray B:=by
      intro A is B h
      induction h with
      | nil=>exact id
      | cons hr _ _ ih=>exact λhc=>ih (I9 hc hr)
    exact this hok hcl
  have hlen:(enc (G.map (·.i))++plan).length=G.length+plan.length:=by
    have:∀is:List Nat,(enc is).length=is.length:=by
      intro is
      induction is with
      | nil=>rfl
      | cons i r ih=>cases r with
        | nil=>rfl
        | cons j r=>simp only [enc,List.length_cons] at ih ⊢;rw [ih]
    simp [this]
  rw [hlen]
  let vs:Nat->Value:=λk=>match G.find? (λg=>g.i==k) with
    | some g=>(a.tmps[g.d]?).getD undef
    | none=>undef
  have hag:Ag C.N (P7 G vs++l) a:=by
    refine ⟨ha.defers,ha.size,?_⟩;intro k u hk
    have key:∀G':List Gc,(∀g∈G',g∈G)->lk (P7 G' vs++l) k=some u->a.tmps[k]? = some u:=by
      intro G'
      induction G' with
      | nil=>intro _ h;exact ha.slot k u h
      | cons g G' ih =>
        intro hs h;simp only [P7,List.map_cons,Cu,lk] at h;by_cases e:g.d=k
        . subst e;simp at h
          have hf:G.find? (λx=>x.i==g.i)=some g:=by
            have hgG:=hs g Ax
            cases hq:G.find? (λx=>x.i==g.i) with
            | none=>have:=List.find?_eq_none.1 hq g hgG;simp at this
            | some x =>
              have h1:=List.find?_some hq;have h2:=List.mem_of_find?_eq_some hq;rw [A0J hi h2 hgG (by simpa using h1)]
          have hlt:g.d<a.tmps.size:=by rw [ha.size];exact hdN g (hs g Ax)
          rw [<- h];show a.tmps[g.d]? = some (vs g.i);simp only [vs,hf,Array.getElem?_eq_getElem hlt,Option.getD_some]
        . simp only [A0m e,cond_false] at h;exact ih (λx hx=>hs x (Bb _ hx)) h
    exact key G (λ_ h=>h) hk
  refine B3m (n0:=n0) (K:=K) hmono hd hi (A9N hck) hKn hK hob hok (λvs bs Jn a w hφ hN ha hw hn=>h vs bs Jn hφ hN B hBcl hp2 a w ha (by rw [A35,<- hLf];exact hw) hn) G.length [] vs (λ_=>[]) [] a w .nil (λ_ h=>by cases h) (by simp) hcl (λ_ _ h=>by cases h) (λ_ _ h=>by cases h) (λ_ _ h=>by cases h) hag (by rw [A9O];exact hw) hn
end group
theorem gC{C:Cx}{os:List Oper}{l:Env}{M0 J:Mem}{Gs:List Gc}{o:Oper}(h:∀(vs:Nat->Value) (bs:Nat->Mem) (R Rj:Mem) (w:World),(∀x∈M0++(J++C.A),x∈R)->(∀x∈J++C.A,x∈Rj)->(∀x∈Rj,x∈R)->(∀g'∈G,anc os.toArray os.toArray.size g.i g'.i=true->g'.φ (vs g'.i) (bs g'.i) Rj)->OpL ⟨C.P,w,(g.inp bs).map Prod.fst,R,C.N⟩ o (P7 G vs++l) (g.inp bs) [] (λl' M' J'=>∃v,l'=(g.d,v)::(P7 G vs++l)∧g.φ v M' (J'++Rj)))
    (t:∀g∈Gs,A8R C os l M0 J G g) (ho:nth os g.i=some o:=by exact E) (hg:o.guard=none:=by exact E):∀x∈g::Gs,A8R C os l M0 J G x:=A4 ⟨o,ho,λvs bs R Rj w hb hj hjr ha=>⟨.inl hg,h vs bs R Rj w hb hj hjr ha⟩⟩ t
end Go.Px

