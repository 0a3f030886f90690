/- Part 5 of the texts of this claim, one behind the other. -/
import Derived.Test.YtgpjndfgjjlhaaaGreatDoorB4
import Derived.Test.YtgpjndfgjjlhaaaGreatDoorRows
import Derived.Laws.Strings
set_option linter.unusedVariables false
set_option linter.unusedSimpArgs false
set_option maxRecDepth 100000
namespace Go
open Go.Px
abbrev Ci:=@Fit.none
abbrev Co:=@FnX.enterZ
end Go
open Go.Proofs.Tryz
namespace Go.Px
abbrev p25:Nat:=57896044618658097711785492504343953926634992332820282019728792003956564819949
def fv(a b c d e:Nat):Nat:=a+2251799813685248*b+5070602400912917605986812821504*c+11417981541647679048466287755595961091061972992*d+25711008708143844408671393477458601640355247900524685364822016*e
variable{a b c d e a1 b1 c1 d1 e1:Nat}
theorem B00(ha:a<9223372036854775808)(hb:b<9223372036854775808)(hc:c<9223372036854775808)(hd:d<9223372036854775808)(he:e<9223372036854775808)
    (h1:a1=(a+19*(e/2251799813685248)%18446744073709551616)%18446744073709551616) (h2:b1=(b+a1/2251799813685248)%18446744073709551616) (h3:c1=(c+b1/2251799813685248)%18446744073709551616)
    (h4:d1=(d+c1/2251799813685248)%18446744073709551616) (h5:e1=(e%2251799813685248+d1/2251799813685248)%18446744073709551616) :
    fv (a1%2251799813685248) (b1%2251799813685248) (c1%2251799813685248) (d1%2251799813685248) e1+p25*(e/2251799813685248)=fv a b c d e∧e1<2251799813685248+8192:=by
  unfold fv p25;omega
variable{q V:Nat}
theorem N7{v:Nat}(h:v+p25*q=V):v%p25=V%p25:=by rw [<- h,Nat.add_mul_mod_self_left]
variable{a2 b2 c2 d2 e2:Nat}
theorem C2X(ha:a<4503599627370496)(hb:b<4503599627370496)(hc:c<4503599627370496)(hd:d<4503599627370496)(he:e<4503599627370496)(ha2:a2<4503599627370496)(hb2:b2<4503599627370496)(hc2:c2<4503599627370496)(hd2:d2<4503599627370496)(he2:e2<4503599627370496) :
    fv ((a+a2)%18446744073709551616) ((b+b2)%18446744073709551616) ((c+c2)%18446744073709551616) ((d+d2)%18446744073709551616) ((e+e2)%18446744073709551616)=fv a b c d e+fv a2 b2 c2 d2 e2:=by
  rw [Af (a:=a+a2) (by omega),Af (a:=b+b2) (by omega),Af (a:=c+c2) (by omega),Af (a:=d+d2) (by omega),Af (a:=e+e2) (by omega)];unfold fv;omega
variable{t:Nat}
theorem A4H(ha:a<4503599627370496)(ht:t<9007199254740992)(hb:b<=t):(a+(t+(18446744073709551616-b))%18446744073709551616)%18446744073709551616=a+t-b:=by omega
theorem A2X(ha:a<4503599627370496)(ht:t<9007199254740992)(hb:b<=t):a+t-b<9223372036854775808:=by omega
theorem C2Y(ha:a2<=9007199254740916)(hb:b2<=9007199254740988)(hc:c2<=9007199254740988)(hd:d2<=9007199254740988)(he:e2<=9007199254740988) :
    fv (a+9007199254740916-a2) (b+9007199254740988-b2) (c+9007199254740988-c2) (d+9007199254740988-d2) (e+9007199254740988-e2)+fv a2 b2 c2 d2 e2=fv a b c d e+4*p25:=by
  unfold fv p25;omega
theorem C0d{A B:Nat}(h:V+B=A+4*p25):V%p25=(A%p25+p25-B%p25)%p25:=by unfold p25 at *;omega
variable{x1:Nat}
theorem B3h{x y x0 y0 y1 w0 w1:Nat}(hx:x<18446744073709551616)(hy:y<18446744073709551616)(h1:x0=x%4294967296)(h2:x1=x/4294967296)(h3:y0=y%4294967296)(h4:y1=y/4294967296)
    (h5:w0=x0*y0%18446744073709551616) (h6:t=(x1*y0%18446744073709551616+w0/4294967296)%18446744073709551616) (h7:w1=(t%4294967296+x0*y1%18446744073709551616)%18446744073709551616) :
    ((x1*y1%18446744073709551616+t/4294967296)%18446744073709551616+w1/4294967296)%18446744073709551616=x*y/18446744073709551616:=by
  have b0:x0<=4294967295:=by omega
  have b1:x1<=4294967295:=by omega
  have b2:y0<=4294967295:=by omega
  have b3:y1<=4294967295:=by omega
  have q0:=Nat.mul_le_mul b0 b2;have q1:=Nat.mul_le_mul b1 b2;have q2:=Nat.mul_le_mul b0 b3;have q3:=Nat.mul_le_mul b1 b3;have ex:x=x0+4294967296*x1:=by omega
  have ey:y=y0+4294967296*y1:=by omega
  have e:x*y=x0*y0+4294967296*(x1*y0)+4294967296*(x0*y1)+18446744073709551616*(x1*y1):=by rw [ex,ey];grind
  rw [e];clear e ex ey h1 h2 h3 h4 b0 b1 b2 b3 hx hy;generalize x0*y0=A at *;generalize x1*y0=B at *;generalize x0*y1=C at *;generalize x1*y1=E0_ at *;omega
theorem or13{hi lo:Nat}(hh:hi<18446744073709551616)(hl:lo<18446744073709551616):(hi*8192%18446744073709551616 ||| lo/2251799813685248)=(hi*18446744073709551616+lo)/2251799813685248%18446744073709551616:=by
  have e:hi*8192%18446744073709551616=(hi%2251799813685248) <<< 13:=by rw [Nat.shiftLeft_eq];omega
  rw [e,<- Nat.shiftLeft_add_eq_or_of_lt (by show _<8192;omega),Nat.shiftLeft_eq];omega
theorem A1S{R S T:Nat}(h0:R<2596148429267413814265248164610048)(h1:S<5192296858534827628530496329220096)(e:T=(R+S/2251799813685248%18446744073709551616)%340282366920938463463374607431768211456):T=R+S/2251799813685248∧T<5192296858534827628530496329220096:=by
  have a:S/2251799813685248<18446744073709551616:=by omega
  rw [Af a,Af (by omega)] at e;omega
theorem B6V{R0 R1 R2 R3 R4 S1 S2 S3 S4 l0 l1 l2 l3 l4 o0 o1:Nat}(h0:R0<2596148429267413814265248164610048)(h1:R1<2596148429267413814265248164610048)(h2:R2<2596148429267413814265248164610048)(h3:R3<2596148429267413814265248164610048)(h4:R4<162259276829213363391578010288128)
    (e1:S1=(R1+R0/2251799813685248%18446744073709551616)%340282366920938463463374607431768211456) (e2:S2=(R2+S1/2251799813685248%18446744073709551616)%340282366920938463463374607431768211456) (e3:S3=(R3+S2/2251799813685248%18446744073709551616)%340282366920938463463374607431768211456) (e4:S4=(R4+S3/2251799813685248%18446744073709551616)%340282366920938463463374607431768211456)
    (f0:l0%2251799813685248=R0%2251799813685248) (f1:l1%2251799813685248=S1%2251799813685248) (f2:l2%2251799813685248=S2%2251799813685248) (f3:l3%2251799813685248=S3%2251799813685248) (f4:l4%2251799813685248=S4%2251799813685248)
    (g0:o0=(l0%2251799813685248+19*(S4/2251799813685248%18446744073709551616)%18446744073709551616)%18446744073709551616) (g1:o1=(l1%2251799813685248+o0/2251799813685248)%18446744073709551616) :
    o1<4503599627370496∧fv (o0%2251799813685248) o1 (l2%2251799813685248) (l3%2251799813685248) (l4%2251799813685248)+p25*(S4/2251799813685248)=R0+2251799813685248*R1+5070602400912917605986812821504*R2+11417981541647679048466287755595961091061972992*R3+25711008708143844408671393477458601640355247900524685364822016*R4:=by
  rw [f2,f3,f4];rw [f0] at g0;rw [f1] at g1;clear f0 f1 f2 f3 f4;obtain ⟨k1,j1⟩:=A1S h1 (by omega) e1;obtain ⟨k2,j2⟩:=A1S h2 j1 e2;obtain ⟨k3,j3⟩:=A1S h3 j2 e3;obtain ⟨k4,j4⟩:=A1S (by omega) j3 e4;have j5:S3/2251799813685248<2305843009213693952:=by clear e1 e2 e3 e4 k1 k2 k3 k4 g0 g1;omega
  clear e1 e2 e3 e4 j1 j2 j3;have k5:S4<324518553658426726783156020576256:=by clear g0 g1 k1 k2 k3;omega
  have j6:S4/2251799813685248<288230376151711744:=by clear g0 g1 k1 k2 k3 k4;omega
  have k6:o0=R0%2251799813685248+19*(S4/2251799813685248):=by clear g1 k1 k2 k3 k4 h0 h1 h2 h3 h4 k5 j5;omega
  have k7:o1=S1%2251799813685248+o0/2251799813685248:=by clear g0 k1 k2 k3 k4 h0 h1 h2 h3 h4 k5 j5;omega
  clear g0 g1;refine ⟨by clear k1 k2 k3 k4 h0 h1 h2 h3 h4 k5 j5;omega,?_⟩;clear h0 h1 h2 h3 h4 k5 j5 j6 j4;unfold fv p25;omega
theorem A7T{x2 x3 x4 x5 z1 z2 z3 z4 z5:Nat}(h1:z1<=385365782469381738054997774434304)(h2:z2<=385365782469381738054997774434304)(h3:z3<=385365782469381738054997774434304)(h4:z4<=385365782469381738054997774434304)(h5:z5<=385365782469381738054997774434304)(e1:x1=(0*18446744073709551616+0+z1)%340282366920938463463374607431768211456)(e2:x2=(x1+z2)%340282366920938463463374607431768211456)(e3:x3=(x2+z3)%340282366920938463463374607431768211456)(e4:x4=(x3+z4)%340282366920938463463374607431768211456)(e5:x5=(x4+z5)%340282366920938463463374607431768211456) :
    x5=z1+z2+z3+z4+z5:=by omega
theorem B6W(h:a<4503599627370496):19*a%18446744073709551616=19*a:=by omega
theorem zb(ha:a<4503599627370496)(hb:b<4503599627370496):a*b<=20282409603651670423947251286016:=Az (Nat.mul_le_mul (Nat.le_of_lt ha) (Nat.le_of_lt hb)) (by decide)
theorem A5P(ha:a<4503599627370496)(hb:b<4503599627370496):19*a*b<=385365782469381738054997774434304:=Az (Nat.mul_le_mul (Nat.mul_le_mul_left 19 (Nat.le_of_lt ha)) (Nat.le_of_lt hb)) (by decide)
theorem B6X(a b c d e a2 b2 c2 d2 e2:Nat):fv a b c d e*fv a2 b2 c2 d2 e2 =
    (a*a2+19*b*e2+19*c*d2+19*d*c2+19*e*b2)+2251799813685248*(a*b2+b*a2+19*c*e2+19*d*d2+19*e*c2)+5070602400912917605986812821504*(a*c2+b*b2+c*a2+19*d*e2+19*e*d2)+11417981541647679048466287755595961091061972992*(a*d2+b*c2+c*b2+d*a2+19*e*e2)+25711008708143844408671393477458601640355247900524685364822016*(a*e2+b*d2+c*c2+d*b2+e*a2)
    + p25*((b*e2+c*d2+d*c2+e*b2)+2251799813685248*(c*e2+d*d2+e*c2)+5070602400912917605986812821504*(d*e2+e*d2)+11417981541647679048466287755595961091061972992*(e*e2)):=by
  unfold fv p25;grind
def C2i(as_:List Nat)(i k:Nat):Nat:=if i+k<5 then as_.getD i 0 else 19*as_.getD i 0%18446744073709551616
def C0e(i k:Nat):Nat:=if i+k<5 then i+k else i+k-5
def B3i(as_ bs:List Nat)(i k:Nat)(Xs:List Nat):List Nat:=Xs.set (C0e i k) ((Xs.getD (C0e i k) 0+C2i as_ i k*bs.getD k 0)%340282366920938463463374607431768211456)
def A6D(as_ bs:List Nat)(i:Nat):Nat->List Nat->List Nat
  | 0,Xs=>Xs
  | k+1,Xs=>B3i as_ bs i k (A6D as_ bs i k Xs)
def A6E(as_ bs:List Nat):Nat->List Nat
  | 0=>[0,0,0,0,0]
  | i+1=>A6D as_ bs i 5 (A6E as_ bs i)
theorem A9N(as_ bs:List Nat)(i k:Nat)(Xs:List Nat):(A6D as_ bs i k Xs).length=Xs.length:=by
  induction k with
  | zero=>rfl
  | succ k ih=>simp [A6D,B3i,ih]
theorem B6Y(as_ bs:List Nat)(i:Nat):(A6E as_ bs i).length=5:=by
  induction i with
  | zero=>rfl
  | succ i ih=>rw [A6E,A9N,ih]
def C0f(Xs:List Nat):Prop:=∀x∈Xs,x<340282366920938463463374607431768211456
theorem B3j(as_ bs:List Nat)(i k:Nat){Xs:List Nat}(h:C0f Xs):C0f (A6D as_ bs i k Xs):=by
  induction k with
  | zero=>exact h
  | succ k ih =>
    intro x hx;rcases Bf hx with h1|rfl
    . exact ih x h1
    . exact Ad _ (by decide)
theorem C0g(as_ bs:List Nat)(i:Nat):C0f (A6E as_ bs i):=by
  induction i with
  | zero=>intro x hx;simp [A6E] at hx;subst hx;decide
  | succ i ih=>exact B3j _ _ _ _ ih
theorem B6Z(a b c d e a2 b2 c2 d2 e2:Nat)(ha:a<4503599627370496)(hb:b<4503599627370496)(hc:c<4503599627370496)(hd:d<4503599627370496)(he:e<4503599627370496)(ha2:a2<4503599627370496)(hb2:b2<4503599627370496)(hc2:c2<4503599627370496)(hd2:d2<4503599627370496)(he2:e2<4503599627370496) :
    A6E [a,b,c,d,e] [a2,b2,c2,d2,e2] 5=[a*a2+19*b*e2+19*c*d2+19*d*c2+19*e*b2,a*b2+b*a2+19*c*e2+19*d*d2+19*e*c2,a*c2+b*b2+c*a2+19*d*e2+19*e*d2,a*d2+b*c2+c*b2+d*a2+19*e*e2,a*e2+b*d2+c*c2+d*b2+e*a2]:=by
  have z {x y:Nat} (hx:x<4503599627370496) (hy:y<4503599627370496):x*y<=385365782469381738054997774434304:=Az (zb hx hy) (by decide);simp only [A6E,A6D,B3i,C2i,C0e,List.set,List.getD_cons_zero,List.getD_cons_succ,Nat.reduceAdd,Nat.reduceLT,Nat.reduceSub,if_true,if_false,Nat.zero_add,Nat.add_zero,B6W hb,B6W hc,B6W hd,B6W he,reduceIte];rw [A7T (z ha ha2) (A5P hb he2) (A5P hc hd2) (A5P hd hc2) (A5P he hb2) (by simp) E E E E,A7T (z ha hb2) (z hb ha2) (A5P hc he2) (A5P hd hd2) (A5P he hc2) (by simp) E E E E,A7T (z ha hc2) (z hb hb2) (z hc ha2) (A5P hd he2) (A5P he hd2) (by simp) E E E E,A7T (z ha hd2) (z hb hc2) (z hc hb2) (z hd ha2) (A5P he he2) (by simp) E E E E,A7T (z ha he2) (z hb hd2) (z hc hc2) (z hd hb2) (z he ha2) (by simp) E E E rfl]
theorem A4I(ha:a<2251799813685248)(hb:b<2251799813685248)(hc:c<2251799813685248)(hd:d<2251799813685248)(he:e<2251799813685248+8192)(ha1:a1<2251799813685248)(hb1:b1<2251799813685248)(hc1:c1<2251799813685248)(hd1:d1<2251799813685248)(h:fv a1 b1 c1 d1 e1+p25*(e/2251799813685248)=fv a b c d e):e1<2251799813685248:=by
  have hq:e/2251799813685248=0∨e/2251799813685248=1:=by omega
  unfold fv p25 at h;rcases hq with hq|hq
  . rw [hq] at h;omega
  . rw [hq] at h;omega
theorem B61{c0 c3 c4:Nat}(ha:a<2251799813685248)(hb:b<2251799813685248)(hc:c<2251799813685248)(hd:d<2251799813685248)(he:e<2251799813685248)(h0:c0=(a+19)%18446744073709551616/2251799813685248)(h1:c1=(b+c0)%18446744073709551616/2251799813685248)(h2:c2=(c+c1)%18446744073709551616/2251799813685248)(h3:c3=(d+c2)%18446744073709551616/2251799813685248)(h4:c4=(e+c3)%18446744073709551616/2251799813685248) :
    (c4=0∧fv a b c d e<p25)∨(c4=1∧p25<=fv a b c d e):=by
  have k0:c0<=1:=by omega
  have k1:c1<=1:=by omega
  have k2:c2<=1:=by omega
  have k3:c3<=1:=by omega
  have k4:c4<=1:=by omega
  unfold fv p25;omega
theorem B3k(ha:a<2251799813685248)(hb:b<2251799813685248)(hc:c<2251799813685248)(hd:d<2251799813685248)(he:e<2251799813685248)(hq:q<=1)(h1:a1=(a+19*q%18446744073709551616)%18446744073709551616)(h2:b1=(b+a1/2251799813685248)%18446744073709551616)(h3:c1=(c+b1/2251799813685248)%18446744073709551616)(h4:d1=(d+c1/2251799813685248)%18446744073709551616)(h5:e1=(e+d1/2251799813685248)%18446744073709551616) :
    fv (a1%2251799813685248) (b1%2251799813685248) (c1%2251799813685248) (d1%2251799813685248) (e1%2251799813685248)+57896044618658097711785492504343953926634992332820282019728792003956564819968*(e1/2251799813685248)=fv a b c d e+19*q∧fv (a1%2251799813685248) (b1%2251799813685248) (c1%2251799813685248) (d1%2251799813685248) (e1%2251799813685248)<57896044618658097711785492504343953926634992332820282019728792003956564819968:=by
  have k1:a1=a+19*q:=by omega
  have k2:b1=b+a1/2251799813685248:=by omega
  have k3:c1=c+b1/2251799813685248:=by omega
  have k4:d1=d+c1/2251799813685248:=by omega
  have k5:e1=e+d1/2251799813685248:=by omega
  clear h1 h2 h3 h4 h5;unfold fv;omega
theorem B3l{F k:Nat}(h:(q=0∧V<p25)∨(q=1∧p25<=V))(hV:V<57896044618658097711785492504343953926634992332820282019728792003956564819968)(h2:F+57896044618658097711785492504343953926634992332820282019728792003956564819968*k=V+19*q∧F<57896044618658097711785492504343953926634992332820282019728792003956564819968):F=V%p25:=by
  unfold p25 at *;rcases h with ⟨rfl,h⟩|⟨rfl,h⟩
  . rw [Af h];omega
  . omega
theorem C2Z(ha:a<2251799813685248)(hb:b<2251799813685248)(hc:c<2251799813685248)(hd:d<2251799813685248)(he:e<2251799813685248):fv a b c d e<57896044618658097711785492504343953926634992332820282019728792003956564819968:=by unfold fv;omega
theorem B62(ha:a<2251799813685248)(hb:b<2251799813685248)(hc:c<2251799813685248)(hd:d<2251799813685248)(he:e<2251799813685248)(j:Nat)(hj:j<5):fv a b c d e/2^(51*j)%2^51=[a,b,c,d,e].getD j 0:=by
  have:j=0∨j=1∨j=2∨j=3∨j=4:=by omega
  unfold fv;rcases this with rfl|rfl|rfl|rfl|rfl<;>simp only [Nat.reducePow,Nat.reduceMul,List.getD_cons_zero,List.getD_cons_succ]<;>omega
theorem C20(ha:a<2251799813685248)(hb:b<2251799813685248)(hc:c<2251799813685248)(hd:d<2251799813685248)(he:e<2251799813685248)(i:Nat)(hi:i<255):[a,b,c,d,e].getD (i/51) 0/2^(i%51)%2=fv a b c d e/2^i%2:=by
  rw [<- B62 ha hb hc hd he (i/51) (by omega)];have h1:i%51<51:=Ad _ (by decide);have e:2^51=2^(i%51)*(2*2^(50-i%51)):=by rw [<- Nat.pow_succ',<- Nat.pow_add];congr 1;omega
  rw [e,Nat.mod_mul_right_div_self,Nat.mod_mul_right_mod,Bw,<- Nat.pow_add];congr 3;omega
theorem C0h(ha:a<2251799813685248)(hb:b<2251799813685248)(hc:c<2251799813685248)(hd:d<2251799813685248)(he:e<2251799813685248):∃q,q=(e+(d+(c+(b+(a+19)%18446744073709551616/2251799813685248)%18446744073709551616/2251799813685248)%18446744073709551616/2251799813685248)%18446744073709551616/2251799813685248)%18446744073709551616/2251799813685248∧((q=0∧fv a b c d e<p25)∨(q=1∧p25<=fv a b c d e)) :=
  ⟨_,E,B61 ha hb hc hd he E E E E E⟩
theorem B3m(ha:a<2251799813685248)(hb:b<2251799813685248)(hc:c<2251799813685248)(hd:d<2251799813685248)(he:e<2251799813685248)(hq:(q=0∧fv a b c d e<p25)∨(q=1∧p25<=fv a b c d e)):∃f0 f1 f2 f3 f4,f0=(a+19*q%18446744073709551616)%18446744073709551616%2251799813685248∧f1=(b+(a+19*q%18446744073709551616)%18446744073709551616/2251799813685248)%18446744073709551616%2251799813685248∧f2=(c+(b+(a+19*q%18446744073709551616)%18446744073709551616/2251799813685248)%18446744073709551616/2251799813685248)%18446744073709551616%2251799813685248∧f3=(d+(c+(b+(a+19*q%18446744073709551616)%18446744073709551616/2251799813685248)%18446744073709551616/2251799813685248)%18446744073709551616/2251799813685248)%18446744073709551616%2251799813685248∧f4=(e+(d+(c+(b+(a+19*q%18446744073709551616)%18446744073709551616/2251799813685248)%18446744073709551616/2251799813685248)%18446744073709551616/2251799813685248)%18446744073709551616/2251799813685248)%18446744073709551616%2251799813685248∧f0<2251799813685248∧f1<2251799813685248∧f2<2251799813685248∧f3<2251799813685248∧f4<2251799813685248∧fv f0 f1 f2 f3 f4=fv a b c d e%p25:=by have hco:=B3k ha hb hc hd he (q:=q) (by rcases hq with h|h<;>omega) E E E E rfl;exact ⟨_,_,_,_,_,E,E,E,E,E,Ad _ (by decide),Ad _ (by decide),Ad _ (by decide),Ad _ (by decide),Ad _ (by decide),B3l hq (C2Z ha hb hc hd he) hco⟩
end Go.Px

namespace Go.Proofs.YtgpjndfgjjlhaaaGreatDoor
open Go.Px
abbrev el(a b c d e:Nat):Value:=.agg #[.int .u64 (a:Int),.int .u64 (b:Int),.int .u64 (c:Int),.int .u64 (d:Int),.int .u64 (e:Int)]
def Fe(v:Value)(n:Nat):Prop:=∃a b c d e,v=el a b c d e∧a<4503599627370496∧b<4503599627370496∧c<4503599627370496∧d<4503599627370496∧e<4503599627370496∧fv a b c d e%p25=n
theorem Fe.lt{v:Value}{n:Nat}(h:Fe v n):n<p25:=by obtain ⟨a,b,c,d,e,_,_,_,_,_,_,rfl⟩:=h;exact Ad _ qD
theorem V3(a b c d e:Nat)(ha:a<9223372036854775808)(hb:b<9223372036854775808)(hc:c<9223372036854775808)(hd:d<9223372036854775808)(he:e<9223372036854775808)(A:Mem) :
  FnX prog 154 [el a b c d e] [] A λr M J=>M=[]∧J=[]∧∃a' b' c' d' e',r=el a' b' c' d' e'∧a'<2251799813685248∧b'<2251799813685248∧c'<2251799813685248∧d'<2251799813685248∧fv a' b' c' d' e'+p25*(e/2251799813685248)=fv a b c d e∧e'<2251799813685248+8192:=by
 refine Cn (N:=38) func154 E E E λw=>?_;refine A8 (D1 0) (A1 ?_);refine A2 E (bx_ λb1=>?_);refine A2 E (C3 (cs:=[C0,C0,C0,C0,C0]) kR E λb2=>?_);refine A0 (D0 1 2) (A1 (lQ_ (qi_ 4 130 5 1 4) ?_));refine lQ_ ql_ ?_;refine lQ_ (P4 51 2251799813685248 E E E E qD) ?_;refine aS_ E (A0 (D5 1 2 3) (A1 (lQ_ (qi_ 4 130 5 1 4) ?_)));refine lQ_ ql_ ?_;refine lQ_ (N4 51 2251799813685248 E E E E E (by show _<18446744073709551616;first|assumption|exact Ad _ qD|omega) qD) ?_;refine lQ_ (qi_ 4 130 5 1 4) ?_;refine A2 E (E1 E E E kR Ct Cv ?_);refine A0 (D5 1 2 3) (A1 (lQ_ (qi_ 0 130 5 1 0) ?_));refine lQ_ ql_ ?_;refine mV_ E (lQ_ (P9 18446744073709551616 (a:=19) E E E E E E) (lQ_ (G7 18446744073709551616 E E E E E E) (lQ_ (qi_ 0 130 5 1 0) ?_)));refine A2 E (E1 E E E kR Ct Cv ?_);refine A0 (D0 1 2) (A3 (A1 (mv_ (A0 (D5 1 2 18) (A6 ?_)))));refine A0v 5 ?_;refine I2 ?_;refine A1 ?_;refine lQ_ (F6 true E E (ltT qD)) ?_;refine A0 (D7 1 2 18 19) (A3 ?_);refine E2 E ?_;refine A4 (nx (D5 1 2 18) (A3 (A6 (A1 (mv_ (as_ (A0 (D7 1 2 4 18) ?_)))))));refine C9 (.range 10) (zp 0 [0,0,0,1,0,0,1,0,0,0,2]) kR kR λhs=>?_;refine fm_ ?_;refine fQ_ E (D2 (1:Int) E E (F5 qD qD qD)) ?_;refine fQ_ E (qi_ 1 130 5 1 1) ?_;refine fR_ E ql_ ?_;refine fM_ E E (fQ_ E (qi_ 0 130 5 1 0) ?_);refine fR_ E ql_ ?_;refine fQ_ E (P4 51 2251799813685248 E E E E qD) ?_;refine fQ_ E (G7 18446744073709551616 E E E E E E) (fQ_ E (qi_ 1 130 5 1 1) ?_);refine G3 E E E (E1 E E E kR Ct Cv ?_);refine E4 (D7 1 2 4 18) (C1 (mV_ E (lQ_ (qi_ 0 130 5 1 0) ?_)));refine lQ_ ql_ ?_;refine lQ_ (N4 51 2251799813685248 E E E E E (by show _<18446744073709551616;first|assumption|exact Ad _ qD|omega) qD) ?_;refine lQ_ (qi_ 0 130 5 1 0) ?_;refine A2 E (E1 E E E kR Ct Cv ?_);refine C5 (nb (nx (D5 1 2 18) (C1 ?_)));refine lQ_ (D2 (1:Int) E E (F5 qD qD qD)) ?_;refine mv_ (C5 ?_);refine un (D5 1 2 18) ?_;refine I2 ?_;refine A1 ?_;refine lQ_ (F6 true E E (ltT qD)) ?_;refine A0 (D7 1 2 18 19) (A3 ?_);refine E2 E ?_;refine A4 (nx (D5 1 2 18) (A3 (A6 (A1 (mv_ (as_ (A0 (D7 1 2 4 18) ?_)))))));refine C9 (.range 10) (zp 0 [0,0,0,1,0,0,1,0,0,0,2]) kR kR λhs=>?_;refine fm_ ?_;refine fQ_ E (D2 (2:Int) E E (F5 qD qD qD)) ?_;refine fQ_ E (qi_ 2 130 5 1 2) ?_;refine fR_ E ql_ ?_;refine fM_ E E (fQ_ E (qi_ 1 130 5 1 1) ?_);refine fR_ E ql_ ?_;refine fQ_ E (P4 51 2251799813685248 E E E E qD) ?_;refine fQ_ E (G7 18446744073709551616 E E E E E E) (fQ_ E (qi_ 2 130 5 1 2) ?_);refine G3 E E E (E1 E E E kR Ct Cv ?_);refine E4 (D7 1 2 4 18) (C1 (mV_ E (lQ_ (qi_ 1 130 5 1 1) ?_)));refine lQ_ ql_ ?_;refine lQ_ (N4 51 2251799813685248 E E E E E (by show _<18446744073709551616;first|assumption|exact Ad _ qD|omega) qD) ?_;refine lQ_ (qi_ 1 130 5 1 1) ?_;refine A2 E (E1 E E E kR Ct Cv ?_);refine C5 (nb (nx (D5 1 2 18) (C1 ?_)));refine lQ_ (D2 (2:Int) E E (F5 qD qD qD)) ?_;refine mv_ (C5 ?_);refine un (D5 1 2 18) ?_;refine I2 ?_;refine A1 ?_;refine lQ_ (F6 true E E (ltT qD)) ?_;refine A0 (D7 1 2 18 19) (A3 ?_);refine E2 E ?_;refine A4 (nx (D5 1 2 18) (A3 (A6 (A1 (mv_ (as_ (A0 (D7 1 2 4 18) ?_)))))));refine C9 (.range 10) (zp 0 [0,0,0,1,0,0,1,0,0,0,2]) kR kR λhs=>?_;refine fm_ ?_;refine fQ_ E (D2 (3:Int) E E (F5 qD qD qD)) ?_;refine fQ_ E (qi_ 3 130 5 1 3) ?_;refine fR_ E ql_ ?_;refine fM_ E E (fQ_ E (qi_ 2 130 5 1 2) ?_);refine fR_ E ql_ ?_;refine fQ_ E (P4 51 2251799813685248 E E E E qD) ?_;refine fQ_ E (G7 18446744073709551616 E E E E E E) (fQ_ E (qi_ 3 130 5 1 3) ?_);refine G3 E E E (E1 E E E kR Ct Cv ?_)
 refine E4 (D7 1 2 4 18) (C1 (mV_ E (lQ_ (qi_ 2 130 5 1 2) ?_)));refine lQ_ ql_ ?_;refine lQ_ (N4 51 2251799813685248 E E E E E (by show _<18446744073709551616;first|assumption|exact Ad _ qD|omega) qD) ?_;refine lQ_ (qi_ 2 130 5 1 2) ?_;refine A2 E (E1 E E E kR Ct Cv ?_);refine C5 (nb (nx (D5 1 2 18) (C1 ?_)));refine lQ_ (D2 (3:Int) E E (F5 qD qD qD)) ?_;refine mv_ (C5 ?_);refine un (D5 1 2 18) ?_;refine I2 ?_;refine A1 ?_;refine lQ_ (F6 true E E (ltT qD)) ?_;refine A0 (D7 1 2 18 19) (A3 ?_);refine E2 E ?_;refine A4 (nx (D5 1 2 18) (A3 (A6 (A1 (mv_ (as_ (A0 (D7 1 2 4 18) ?_)))))));refine C9 (.range 10) (zp 0 [0,0,0,1,0,0,1,0,0,0,2]) kR kR λhs=>?_;refine fm_ ?_;refine fQ_ E (D2 (4:Int) E E (F5 qD qD qD)) ?_;refine fQ_ E (qi_ 4 130 5 1 4) ?_;refine fR_ E ql_ ?_;refine fM_ E E (fQ_ E (qi_ 3 130 5 1 3) ?_);refine fR_ E ql_ ?_;refine fQ_ E (P4 51 2251799813685248 E E E E qD) ?_;refine fQ_ E (G7 18446744073709551616 E E E E E E) (fQ_ E (qi_ 4 130 5 1 4) ?_);refine G3 E E E (E1 E E E kR Ct Cv ?_);refine E4 (D7 1 2 4 18) (C1 (mV_ E (lQ_ (qi_ 3 130 5 1 3) ?_)));refine lQ_ ql_ ?_;refine lQ_ (N4 51 2251799813685248 E E E E E (by show _<18446744073709551616;first|assumption|exact Ad _ qD|omega) qD) ?_;refine lQ_ (qi_ 3 130 5 1 3) ?_;refine A2 E (E1 E E E kR Ct Cv ?_);refine C5 (nb (nx (D5 1 2 18) (C1 ?_)));refine lQ_ (D2 (4:Int) E E (F5 qD qD qD)) ?_;refine mv_ (C5 ?_);refine un (D5 1 2 18) ?_;refine I2 ?_;refine A1 ?_;refine lQ_ (F6 false E E (ltF qD)) ?_;refine A0 (D7 1 2 18 19) (A3 ?_);refine C7 E ?_;refine D6 (te (ue (be E (nx (D0 1 2) (A1 ?_)))));refine lQ_ (qw_ 5) ?_;refine A2 E (A5 E E Cf kR ln5 al5 Cv ?_);refine A0 (D1 2) (A9 ?_);refine ⟨_,[],[],A1l E E kR Ce qR,Aa _,by simp,E,E,_,_,_,_,_,E,Ad _ qD,Ad _ qD,Ad _ qD,Ad _ qD,B00 ha hb hc hd he E E E E E⟩
theorem B3n(v u:Value)(x y:Nat)(hx:Fe v x)(hy:Fe u y)(A:Mem):FnX prog 151 [v,u] [] A λr M J=>M=[]∧J=[]∧Fe r ((x+y)%p25):=by
 obtain ⟨a,b,c,d,e,rfl,ha,hb,hc,hd,he,rfl⟩:=hx;obtain ⟨a2,b2,c2,d2,e2,rfl,ha2,hb2,hc2,hd2,he2,rfl⟩:=hy;refine Cn (N:=20) func151 E E E λw=>?_;refine A8 (D0 0 1) (A1 ?_);refine A2 E (bx_ λb2=>?_);refine A2 E (bx_ λb3=>?_);refine A2 E (C3 (cs:=[C0,C0,C0,C0,C0]) kR E λb4=>?_);refine A0 (D5 2 3 4) (A3 (A1 (mv_ (A0 (D7 2 3 4 6) (A6 ?_)))));refine A0v 6 ?_;refine I2 ?_;refine A1 ?_;refine lQ_ (F6 true E E (ltT qD)) ?_;refine A0 (E9 2 3 4 6 7) (A3 ?_);refine E2 E ?_;refine A4 (nx (D7 2 3 4 6) (A3 (A6 (A1 (mv_ (as_ (A0 (E9 2 3 4 5 6) ?_)))))));refine I1 (.range 8) (zp 0 [0,0,1,0,0,1,0,0,2]) kR kR λhs=>?_;refine fM_ E E (fQ_ E (qi_ 0 130 5 1 0) ?_);refine fR_ E ql_ ?_;refine fM_ E E (fQ_ E (qi_ 0 130 5 1 0) ?_);refine fR_ E ql_ ?_;refine fQ_ E (G7 18446744073709551616 E E E E E E) (fQ_ E (qi_ 0 130 5 1 0) ?_);refine G3 E E E (E1 E E E kR Ct Cv ?_);refine U0 (nb (nx (D7 2 3 4 6) (C1 ?_)));refine lQ_ (D2 (1:Int) E E (F5 qD qD qD)) ?_;refine mv_ (C5 ?_);refine un (D7 2 3 4 6) ?_;refine I2 ?_;refine A1 ?_;refine lQ_ (F6 true E E (ltT qD)) ?_;refine A0 (E9 2 3 4 6 7) (A3 ?_);refine E2 E ?_;refine A4 (nx (D7 2 3 4 6) (A3 (A6 (A1 (mv_ (as_ (A0 (E9 2 3 4 5 6) ?_)))))));refine I1 (.range 8) (zp 0 [0,0,1,0,0,1,0,0,2]) kR kR λhs=>?_;refine fM_ E E (fQ_ E (qi_ 1 130 5 1 1) ?_);refine fR_ E ql_ ?_;refine fM_ E E (fQ_ E (qi_ 1 130 5 1 1) ?_);refine fR_ E ql_ ?_;refine fQ_ E (G7 18446744073709551616 E E E E E E) (fQ_ E (qi_ 1 130 5 1 1) ?_);refine G3 E E E (E1 E E E kR Ct Cv ?_);refine U0 (nb (nx (D7 2 3 4 6) (C1 ?_)));refine lQ_ (D2 (2:Int) E E (F5 qD qD qD)) ?_;refine mv_ (C5 ?_);refine un (D7 2 3 4 6) ?_;refine I2 ?_;refine A1 ?_;refine lQ_ (F6 true E E (ltT qD)) ?_;refine A0 (E9 2 3 4 6 7) (A3 ?_);refine E2 E ?_;refine A4 (nx (D7 2 3 4 6) (A3 (A6 (A1 (mv_ (as_ (A0 (E9 2 3 4 5 6) ?_)))))));refine I1 (.range 8) (zp 0 [0,0,1,0,0,1,0,0,2]) kR kR λhs=>?_;refine fM_ E E (fQ_ E (qi_ 2 130 5 1 2) ?_);refine fR_ E ql_ ?_;refine fM_ E E (fQ_ E (qi_ 2 130 5 1 2) ?_);refine fR_ E ql_ ?_;refine fQ_ E (G7 18446744073709551616 E E E E E E) (fQ_ E (qi_ 2 130 5 1 2) ?_);refine G3 E E E (E1 E E E kR Ct Cv ?_);refine U0 (nb (nx (D7 2 3 4 6) (C1 ?_)));refine lQ_ (D2 (3:Int) E E (F5 qD qD qD)) ?_;refine mv_ (C5 ?_);refine un (D7 2 3 4 6) ?_;refine I2 ?_;refine A1 ?_;refine lQ_ (F6 true E E (ltT qD)) ?_;refine A0 (E9 2 3 4 6 7) (A3 ?_);refine E2 E ?_;refine A4 (nx (D7 2 3 4 6) (A3 (A6 (A1 (mv_ (as_ (A0 (E9 2 3 4 5 6) ?_)))))));refine I1 (.range 8) (zp 0 [0,0,1,0,0,1,0,0,2]) kR kR λhs=>?_;refine fM_ E E (fQ_ E (qi_ 3 130 5 1 3) ?_);refine fR_ E ql_ ?_;refine fM_ E E (fQ_ E (qi_ 3 130 5 1 3) ?_);refine fR_ E ql_ ?_;refine fQ_ E (G7 18446744073709551616 E E E E E E) (fQ_ E (qi_ 3 130 5 1 3) ?_);refine G3 E E E (E1 E E E kR Ct Cv ?_);refine U0 (nb (nx (D7 2 3 4 6) (C1 ?_)));refine lQ_ (D2 (4:Int) E E (F5 qD qD qD)) ?_;refine mv_ (C5 ?_);refine un (D7 2 3 4 6) ?_;refine I2 ?_;refine A1 ?_;refine lQ_ (F6 true E E (ltT qD)) ?_;refine A0 (E9 2 3 4 6 7) (A3 ?_);refine E2 E ?_;refine A4 (nx (D7 2 3 4 6) (A3 (A6 (A1 (mv_ (as_ (A0 (E9 2 3 4 5 6) ?_)))))));refine I1 (.range 8) (zp 0 [0,0,1,0,0,1,0,0,2]) kR kR λhs=>?_;refine fM_ E E (fQ_ E (qi_ 4 130 5 1 4) ?_);refine fR_ E ql_ ?_;refine fM_ E E (fQ_ E (qi_ 4 130 5 1 4) ?_);refine fR_ E ql_ ?_;refine fQ_ E (G7 18446744073709551616 E E E E E E) (fQ_ E (qi_ 4 130 5 1 4) ?_);refine G3 E E E (E1 E E E kR Ct Cv ?_);refine U0 (nb (nx (D7 2 3 4 6) (C1 ?_)));refine lQ_ (D2 (5:Int) E E (F5 qD qD qD)) ?_;refine mv_ (C5 ?_);refine un (D7 2 3 4 6) ?_;refine I2 ?_
 refine A1 ?_;refine lQ_ (F6 false E E (ltF qD)) ?_;refine A0 (E9 2 3 4 6 7) (A3 ?_);refine C7 E ?_;refine D6 (te (ue (be E (nx (D0 2 4) (A1 ?_)))));refine lQ_ (qw_ 5) ?_;refine C6 (aS E a0) kR (V3 _ _ _ _ _ qO qO qO qO qO _) E ?_;rintro r3 M3 J3 ⟨rfl,rfl,a3,b3,c3,d3,e3,rfl,ha3,hb3,hc3,hd3,hv3,he3⟩;refine A2 E (A5 E E Cf kR ln5 al5 Cv ?_);refine A0 (D1 4) (A9 ?_);refine ⟨_,[],[],A1l E E kR Ce qR,Aa _,by simp,E,E,a3,b3,c3,d3,e3,E,by omega,by omega,by omega,by omega,by omega,?_⟩;rw [N7 hv3,C2X ha hb hc hd he ha2 hb2 hc2 hd2 he2,Nat.add_mod]
theorem A7U(v u:Value)(x y:Nat)(hx:Fe v x)(hy:Fe u y)(A:Mem):FnX prog 152 [v,u] [] A λr M J=>M=[]∧J=[]∧Fe r ((x+p25-y)%p25):=by
 obtain ⟨a,b,c,d,e,rfl,ha,hb,hc,hd,he,rfl⟩:=hx;obtain ⟨a2,b2,c2,d2,e2,rfl,ha2,hb2,hc2,hd2,he2,rfl⟩:=hy;refine Cn (N:=30) func152 E E E λw=>?_;refine A8 (D0 0 1) (A1 ?_);refine A2 E (bx_ λb2=>?_);refine A2 E (bx_ λb3=>?_);refine A2 E (C3 (cs:=[C0,C0,C0,C0,C0]) kR E λb4=>?_);refine A0 (D5 2 3 4) (A1 ?_);refine lQ_ (qw_ 5) ?_;refine C6 (aS E a0) kR (V3 _ _ _ _ _ qO qO qO qO qO _) E ?_;rintro r3 M3 J3 ⟨rfl,rfl,a3,b3,c3,d3,e3,rfl,ha3,hb3,hc3,hd3,hv3,he3⟩;refine A2 E (A5 E E Cf kR ln5 al5 Cv ?_);refine A0 (D5 2 3 4) (A1 ?_);refine lQ_ (E6 (place:=λi=>some (i*1,1)) (z:=[C0,C0,C0,C0,C0]) (λ_=>by kernel_rfl) (eS E (eS E (eS E (eS E (eS E e0))))) (bdS 0 1 E qR (bdS 1 1 E qR (bdS 2 1 E qR (bdS 3 1 E qR (bdS 4 1 E qR bd0)))))) ?_;refine A2 E (C3 (cs:=[C0,C0,C0,C0,C0]) kR E λb5=>?_);refine A2 E (A5 E E Cf kR ln5 al5 Cv ?_);refine A0 (D7 2 3 4 5) (A3 (A1 (mv_ (A0 (E9 2 3 4 5 10) (A6 ?_)))));refine A0v 6 ?_;refine I2 ?_;refine A1 ?_;refine lQ_ (F6 true E E (ltT qD)) ?_;refine A0 (G9 2 3 4 5 10 11) (A3 ?_);refine E2 E ?_;refine A4 (nx (E9 2 3 4 5 10) (A3 (A6 (A1 (mv_ (as_ (A0 (G9 2 3 4 5 6 10) ?_)))))));refine I1 (.range 13) (zp 0 [0,0,1,0,0,1,0,0,0,1,0,0,0,2]) kR kR λhs=>?_;refine fM_ E E (fQ_ E (qi_ 0 130 5 1 0) ?_);refine fR_ E ql_ ?_;refine fM_ E E (fQ_ E (qi_ 0 130 5 1 0) ?_);refine fR_ E ql_ ?_;refine fQ_ E (P9 18446744073709551616 (a:=2) E E E E E E) (fM_ E E (fQ_ E (qi_ 0 130 5 1 0) ?_));refine fR_ E ql_ ?_;refine fQ_ E (A2P 18446744073709551616 E E E E E E qO) ?_;refine fQ_ E (G7 18446744073709551616 E E E E E E) (fQ_ E (qi_ 0 130 5 1 0) ?_);refine G3 E E E (E1 E E E kR Ct Cv ?_);refine U0 (nb (nx (E9 2 3 4 5 10) (C1 ?_)));refine lQ_ (D2 (1:Int) E E (F5 qD qD qD)) ?_;refine mv_ (C5 ?_);refine un (E9 2 3 4 5 10) ?_;refine I2 ?_;refine A1 ?_;refine lQ_ (F6 true E E (ltT qD)) ?_;refine A0 (G9 2 3 4 5 10 11) (A3 ?_);refine E2 E ?_;refine A4 (nx (E9 2 3 4 5 10) (A3 (A6 (A1 (mv_ (as_ (A0 (G9 2 3 4 5 6 10) ?_)))))));refine I1 (.range 13) (zp 0 [0,0,1,0,0,1,0,0,0,1,0,0,0,2]) kR kR λhs=>?_;refine fM_ E E (fQ_ E (qi_ 1 130 5 1 1) ?_);refine fR_ E ql_ ?_;refine fM_ E E (fQ_ E (qi_ 1 130 5 1 1) ?_);refine fR_ E ql_ ?_;refine fQ_ E (P9 18446744073709551616 (a:=2) E E E E E E) (fM_ E E (fQ_ E (qi_ 1 130 5 1 1) ?_));refine fR_ E ql_ ?_;refine fQ_ E (A2P 18446744073709551616 E E E E E E qO) ?_;refine fQ_ E (G7 18446744073709551616 E E E E E E) (fQ_ E (qi_ 1 130 5 1 1) ?_);refine G3 E E E (E1 E E E kR Ct Cv ?_);refine U0 (nb (nx (E9 2 3 4 5 10) (C1 ?_)));refine lQ_ (D2 (2:Int) E E (F5 qD qD qD)) ?_;refine mv_ (C5 ?_);refine un (E9 2 3 4 5 10) ?_;refine I2 ?_;refine A1 ?_;refine lQ_ (F6 true E E (ltT qD)) ?_;refine A0 (G9 2 3 4 5 10 11) (A3 ?_);refine E2 E ?_;refine A4 (nx (E9 2 3 4 5 10) (A3 (A6 (A1 (mv_ (as_ (A0 (G9 2 3 4 5 6 10) ?_)))))));refine I1 (.range 13) (zp 0 [0,0,1,0,0,1,0,0,0,1,0,0,0,2]) kR kR λhs=>?_;refine fM_ E E (fQ_ E (qi_ 2 130 5 1 2) ?_);refine fR_ E ql_ ?_;refine fM_ E E (fQ_ E (qi_ 2 130 5 1 2) ?_);refine fR_ E ql_ ?_;refine fQ_ E (P9 18446744073709551616 (a:=2) E E E E E E) (fM_ E E (fQ_ E (qi_ 2 130 5 1 2) ?_));refine fR_ E ql_ ?_;refine fQ_ E (A2P 18446744073709551616 E E E E E E qO) ?_;refine fQ_ E (G7 18446744073709551616 E E E E E E) (fQ_ E (qi_ 2 130 5 1 2) ?_);refine G3 E E E (E1 E E E kR Ct Cv ?_);refine U0 (nb (nx (E9 2 3 4 5 10) (C1 ?_)));refine lQ_ (D2 (3:Int) E E (F5 qD qD qD)) ?_;refine mv_ (C5 ?_);refine un (E9 2 3 4 5 10) ?_;refine I2 ?_;refine A1 ?_
 refine lQ_ (F6 true E E (ltT qD)) ?_;refine A0 (G9 2 3 4 5 10 11) (A3 ?_);refine E2 E ?_;refine A4 (nx (E9 2 3 4 5 10) (A3 (A6 (A1 (mv_ (as_ (A0 (G9 2 3 4 5 6 10) ?_)))))));refine I1 (.range 13) (zp 0 [0,0,1,0,0,1,0,0,0,1,0,0,0,2]) kR kR λhs=>?_;refine fM_ E E (fQ_ E (qi_ 3 130 5 1 3) ?_);refine fR_ E ql_ ?_;refine fM_ E E (fQ_ E (qi_ 3 130 5 1 3) ?_);refine fR_ E ql_ ?_;refine fQ_ E (P9 18446744073709551616 (a:=2) E E E E E E) (fM_ E E (fQ_ E (qi_ 3 130 5 1 3) ?_));refine fR_ E ql_ ?_;refine fQ_ E (A2P 18446744073709551616 E E E E E E qO) ?_;refine fQ_ E (G7 18446744073709551616 E E E E E E) (fQ_ E (qi_ 3 130 5 1 3) ?_);refine G3 E E E (E1 E E E kR Ct Cv ?_);refine U0 (nb (nx (E9 2 3 4 5 10) (C1 ?_)));refine lQ_ (D2 (4:Int) E E (F5 qD qD qD)) ?_;refine mv_ (C5 ?_);refine un (E9 2 3 4 5 10) ?_;refine I2 ?_;refine A1 ?_;refine lQ_ (F6 true E E (ltT qD)) ?_;refine A0 (G9 2 3 4 5 10 11) (A3 ?_);refine E2 E ?_;refine A4 (nx (E9 2 3 4 5 10) (A3 (A6 (A1 (mv_ (as_ (A0 (G9 2 3 4 5 6 10) ?_)))))));refine I1 (.range 13) (zp 0 [0,0,1,0,0,1,0,0,0,1,0,0,0,2]) kR kR λhs=>?_;refine fM_ E E (fQ_ E (qi_ 4 130 5 1 4) ?_);refine fR_ E ql_ ?_;refine fM_ E E (fQ_ E (qi_ 4 130 5 1 4) ?_);refine fR_ E ql_ ?_;refine fQ_ E (P9 18446744073709551616 (a:=2) E E E E E E) (fM_ E E (fQ_ E (qi_ 4 130 5 1 4) ?_));refine fR_ E ql_ ?_;refine fQ_ E (A2P 18446744073709551616 E E E E E E qO) ?_;refine fQ_ E (G7 18446744073709551616 E E E E E E) (fQ_ E (qi_ 4 130 5 1 4) ?_);refine G3 E E E (E1 E E E kR Ct Cv ?_);refine U0 (nb (nx (E9 2 3 4 5 10) (C1 ?_)));refine lQ_ (D2 (5:Int) E E (F5 qD qD qD)) ?_;refine mv_ (C5 ?_);refine un (E9 2 3 4 5 10) ?_;refine I2 ?_;refine A1 ?_;refine lQ_ (F6 false E E (ltF qD)) ?_;refine A0 (G9 2 3 4 5 10 11) (A3 ?_);refine C7 E ?_;refine D6 (te (ue (be E (nx (D0 2 4) ?_))));have q0:=A4H (t:=9007199254740916) (b:=a3) ha qD qO;have q1:=A4H (t:=9007199254740988) (b:=b3) hb qD qO;have q2:=A4H (t:=9007199254740988) (b:=c3) hc qD qO;have q3:=A4H (t:=9007199254740988) (b:=d3) hd qD qO;have q4:=A4H (t:=9007199254740988) (b:=e3) he qD qO;refine A1 ?_;refine lQ_ (qw_ 5) ?_;refine C6 (aS E a0) kR (V3 _ _ _ _ _ (q0▸A2X ha qD qO) (q1▸A2X hb qD qO) (q2▸A2X hc qD qO) (q3▸A2X hd qD qO) (q4▸A2X he qD qO) _) E ?_;rintro r4 M4 J4 ⟨rfl,rfl,a4,b4,c4,d4,e4,rfl,ha4,hb4,hc4,hd4,hv4,he4⟩;refine C6 (aS E a0) kR (V3 _ _ _ _ _ qO qO qO qO qO _) E ?_;rintro r5 M5 J5 ⟨rfl,rfl,a5,b5,c5,d5,e5,rfl,ha5,hb5,hc5,hd5,hv5,he5⟩;refine A2 E (A5 E E Cf kR ln5 al5 Cv ?_);refine A0 (D1 4) (A9 ?_);refine ⟨_,[],[],A1l E E kR Ce qR,Aa _,by simp,E,E,a5,b5,c5,d5,e5,E,by omega,by omega,by omega,by omega,by omega,?_⟩;rw [N7 hv5,N7 hv4,<- N7 hv3];refine C0d ?_;rw [<- C2Y (a:=a) (b:=b) (c:=c) (d:=d) (e:=e) (a2:=a3) (b2:=b3) (c2:=c3) (d2:=d3) (e2:=e3) qO qO qO qO qO,<- q0,<- q1,<- q2,<- q3,<- q4]
abbrev wd(hi lo:Nat):Value:=.agg #[.int .u64 (hi:Int),.int .u64 (lo:Int)]
theorem B01(x y:Nat)(hx:x<18446744073709551616)(hy:y<18446744073709551616)(A:Mem):FnV prog 177 [.int .u64 (x:Int),.int .u64 (y:Int)] A (.tuple #[.int .u64 ((x*y/18446744073709551616:Nat):Int),.int .u64 ((x*y%18446744073709551616:Nat):Int)]):=by refine Cn (N:=51) func177 E E E λw=>?_;refine A8 (D0 0 1) (A1 (as_ (as_ (A0 (D0 0 1) (A1 (mv_ ?_))))));refine lQ_ (N4 32 4294967296 E E E E E (by show _<18446744073709551616;first|assumption|exact Ad _ qD|omega) qD) ?_;refine as_ (A0 (D5 0 1 6) (A1 (mv_ ?_)));refine lQ_ (P4 32 4294967296 E E E E qD) ?_;refine as_ (A0 (D7 0 1 6 7) (A1 (mv_ ?_)));refine lQ_ (N4 32 4294967296 E E E E E (by show _<18446744073709551616;first|assumption|exact Ad _ qD|omega) qD) ?_;refine as_ (A0 (E9 0 1 6 7 8) (A1 (mv_ ?_)));refine lQ_ (P4 32 4294967296 E E E E qD) ?_;refine aS_ E (A0 (G9 0 1 6 7 8 9) (A1 (mV_ E (mV_ E (lQ_ (P9 18446744073709551616 E E E E E E) (aS_ E (A0 (N1 0 1 6 7 8 9 10) (A1 (mV_ E (mV_ E (lQ_ (P9 18446744073709551616 E E E E E E) (mv_ ?_))))))))))));refine lQ_ (P4 32 4294967296 E E E E qD) ?_;refine lQ_ (G7 18446744073709551616 E E E E E E) (as_ (A0 (G9 0 1 6 7 9 11) (A1 (mv_ ?_))));refine lQ_ (N4 32 4294967296 E E E E E (by show _<18446744073709551616;first|assumption|exact Ad _ qD|omega) qD) ?_;refine as_ (A0 (N1 0 1 6 7 9 11 12) (A1 (mv_ ?_)));refine lQ_ (P4 32 4294967296 E E E E qD) ?_;refine aS_ E (A0 (N1 0 1 6 7 9 12 13) (A1 (mV_ E (mV_ E (mV_ E (lQ_ (P9 18446744073709551616 E E E E E E) (lQ_ (G7 18446744073709551616 E E E E E E) (aS_ E (A0 (G9 0 1 7 9 12 13) (A1 (mV_ E (mV_ E (lQ_ (P9 18446744073709551616 E E E E E E) (mV_ E (lQ_ (G7 18446744073709551616 E E E E E E) (mv_ ?_))))))))))))))));refine lQ_ (P4 32 4294967296 E E E E qD) ?_;refine lQ_ (G7 18446744073709551616 E E E E E E) (aS_ E (A0 (D5 0 1 4) (A1 (mV_ E (mV_ E (lQ_ (P9 18446744073709551616 E E E E E E) (as_ (A0 (D0 4 5) (A9 ?_)))))))));refine ⟨_,[],[],A2w E E E,Aa _,by simp,?_,E,E⟩;rw [B3h hx hy E E E E E E rfl]
theorem A4J(hi lo a b:Nat)(h1:hi<18446744073709551616)(h2:lo<18446744073709551616)(h3:a<18446744073709551616)(h4:b<18446744073709551616)(A:Mem) :
  FnX prog 155 [wd hi lo,.int .u64 (a:Int),.int .u64 (b:Int)] [] A λr M J=>M=[]∧J=[]∧∃hi' lo',r=wd hi' lo'∧hi'<18446744073709551616∧lo'<18446744073709551616∧hi'*18446744073709551616+lo'=(hi*18446744073709551616+lo+a*b)%340282366920938463463374607431768211456:=by
 refine Cn (N:=34) func155 E E E λw=>?_;refine A8 (D5 0 1 2) (A1 ?_);refine A2 E (bx_ λb3=>?_);refine A2 E (C3 (cs:=[C0,C0]) kR E λb6=>?_);refine A0 (D7 1 2 3 6) (A1 (mv_ (mv_ ?_)));refine D8 (aS E (aS E a0)) kR (B01 a b h3 h4 _) E ?_;have hab:a*b<=18446744073709551615*18446744073709551615:=Nat.mul_le_mul qO qO;generalize a*b=z at *;refine mV_ E (lQ_ (A0x E) (lQ_ (A0n E) (aS_ E (aS_ E (A0 (D7 3 6 7 8) (A1 (lQ_ (qf_ 1 1) ?_)))))));refine lQ_ ql_ ?_;refine mv_ ?_;refine lQ_ (A7z func178 kR kR kR kR E E E (c:=0) qO E E E) ?_;refine mV_ E (lQ_ (A0x E) (lQ_ (A0n E) (aS_ E (aS_ E (A0 (E9 3 6 7 8 9) (A1 (lQ_ (qf_ 0 0) ?_)))))));refine lQ_ ql_ ?_;refine mv_ (mv_ ?_);refine lQ_ (A7z func178 kR kR kR kR E E E qO E E E) ?_;refine mV_ E (lQ_ (A0x E) (lQ_ (A0n E) (as_ (A0 (D5 6 7 8) (A1 (mv_ (mv_ ?_)))))));refine lQ_ (E6 (place:=λx=>#[(0,1),(1,1)][x]?) (z:=[C0,C0]) (λ_=>by kernel_rfl) (eS E (eS E e0)) (bdS 0 1 E qR (bdS 1 1 E qR bd0))) ?_;refine A2 E (A5 E E Cf kR ln2 al2 Cv ?_);refine A0 (D1 6) (A9 ?_);refine ⟨_,[],[],A1l E E kR Ce qR,Aa _,by simp,E,E,_,_,E,Ad _ qD,Ad _ qD,?_⟩;omega
theorem A1T(hi lo a:Nat)(h1:hi<18446744073709551616)(h2:lo<18446744073709551616)(h3:a<18446744073709551616)(A:Mem) :
  FnX prog 156 [wd hi lo,.int .u64 (a:Int)] [] A λr M J=>M=[]∧J=[]∧∃hi' lo',r=wd hi' lo'∧hi'<18446744073709551616∧lo'<18446744073709551616∧hi'*18446744073709551616+lo'=(hi*18446744073709551616+lo+a)%340282366920938463463374607431768211456:=by
 refine Cn (N:=8) func156 E E E λw=>?_;refine A8 (D0 0 1) (A1 ?_);refine A2 E (bx_ λb2=>?_);refine A2 E (C3 (cs:=[C0,C0]) kR E λb4=>?_);refine A0 (D5 1 2 4) (A1 ?_);refine lQ_ (qw_ 2) ?_;refine mv_ ?_;refine C6 (aS E (aS E (aS E a0))) kR (A4J hi lo a 1 h1 h2 h3 qD _) E ?_;rintro r M1 J1 ⟨rfl,rfl,hi',lo',rfl,g1,g2,g3⟩;refine A2 E (A5 E E Cf kR ln2 al2 Cv ?_);refine A0 (D1 4) (A9 ?_);refine ⟨_,[],[],A1l E E kR Ce qR,Aa _,by simp,E,E,hi',lo',E,g1,g2,?_⟩;rw [g3,Nat.mul_one]
theorem A01(hi lo:Nat)(h1:hi<18446744073709551616)(h2:lo<18446744073709551616)(A:Mem):FnV prog 157 [wd hi lo] A (.int .u64 (((hi*18446744073709551616+lo)/2251799813685248%18446744073709551616:Nat):Int)):=by refine Cn (N:=10) func157 E E E λw=>?_;refine A8 (D1 0) (A1 ?_);refine A2 E (bx_ λb1=>?_);refine aS_ E (A0 (D1 1) (A1 (lQ_ (qf_ 0 0) ?_)));refine lQ_ ql_ ?_;refine lQ_ (C2B 13 8192 18446744073709551616 E E E E E E qD) ?_;refine lQ_ (qf_ 1 1) ?_;refine lQ_ ql_ ?_;refine lQ_ (P4 51 2251799813685248 E E E E qD) ?_;refine lQ_ (B6k E E E (by show _<18446744073709551616;omega) (by show _<18446744073709551616;omega)) ?_;refine as_ (A0 (D1 2) (A9 ?_));refine ⟨_,[],[],H2 E E,Aa _,by simp,?_,E,E⟩;rw [or13 h1 h2]

def A1c:LN->List Value
  | []=>[]
  | x::r=>.int .u64 ((x/18446744073709551616:Nat):Int)::.int .u64 ((x%18446744073709551616:Nat):Int)::A1c r
theorem B3o(Xs:LN):(A1c Xs).length=2*Xs.length:=by
  induction Xs with
  | nil=>rfl
  | cons x r ih=>simp [A1c,ih];omega
theorem A7V:∀(Xs:LN) (j:Nat),j<Xs.length->(A1c Xs)[2*j]? = some (.int .u64 ((Xs.getD j 0/18446744073709551616:Nat):Int))∧(A1c Xs)[2*j+1]? = some (.int .u64 ((Xs.getD j 0%18446744073709551616:Nat):Int))
  | [],j,h=>by simp at h
  | x::r,0,h=>by simp [A1c]
  | x::r,j+1,h=>by have:=A7V r j (by simpa using h);rw [show 2*(j+1)=2*j+1+1 by omega];simpa [A1c] using this
theorem A7W:∀(Xs:LN) (j x:Nat),j<Xs.length->(A1c Xs).take (2*j)++[.int .u64 ((x/18446744073709551616:Nat):Int),.int .u64 ((x%18446744073709551616:Nat):Int)]++(A1c Xs).drop (2*j+2)=A1c (Xs.set j x)
  | [],j,x,h=>by simp at h
  | y::r,0,x,h=>by simp [A1c]
  | y::r,j+1,x,h=>by have:=A7W r j x (by simpa using h);rw [show 2*(j+1)=2*j+1+1 by omega];simp only [A1c,List.take_succ_cons,Cy,List.drop_succ_cons,List.set_cons_succ,this]
variable{ty t e:TypeId}{pos:String}{af:Array Edge}{g:Option (Nat×Bool)}{x:Operand}{b:Nat}
theorem C21{P:Program}{R:Mem}{l:Env}{d:Option Nat}{o:Nat}{Xs:LN}{fr:Nat×Nat}(j:Nat)(hx:ev l x=some (.pointer (some ⟨b,o,none⟩)))(ht:A59 P t=some 2)
    (hb:(b,Obj.cells (A1c Xs).toArray e fr)∈R) (ho:o=2*j) (hj:j<Xs.length):OpQ P R ⟨d,.load t x,ty,pos,af,g⟩ l (wd (Xs.getD j 0/18446744073709551616) (Xs.getD j 0%18446744073709551616)):=by
  subst ho;obtain ⟨h1,h2⟩:=A7V Xs j hj;refine F2 (vs:=[.int .u64 ((Xs.getD j 0/18446744073709551616:Nat):Int),.int .u64 ((Xs.getD j 0%18446744073709551616:Nat):Int)]) hx ht hb E ?_;intro i v hv
  match i,hv with
  | 0,hv=>cases hv;exact h1
  | 1,hv=>cases hv;exact h2
  | i+2,hv=>simp at hv
theorem C22{C:Cx}{l:Env}{M J:Mem}{K:Env->Mem->Mem->Prop}{y:Operand}{o hi lo X:Nat}{Xs:LN}{M':Mem}(j:Nat)(hx:ev l x=some (.pointer (some ⟨b,o,none⟩)))(hy:ev l y=some (wd hi lo))
    (ht:N2 C.P t=some 2) (ho:o=2*j) (hj:j<Xs.length) (hh:hi<18446744073709551616) (hl:lo<18446744073709551616) (hX:hi*18446744073709551616+lo=X) (hu:Upd M b (blk (A1c Xs) e) (blk (A1c (Xs.set j X)) e) M') (k:K l M' J) :
    OpL C ⟨none,.store t x y,ty,pos,af,g⟩ l M J K:=by
  subst ho;refine P1 (vs:=[.int .u64 (hi:Int),.int .u64 (lo:Int)]) hx hy E ht (by rw [B3o];simp;omega) (by simp [Value.oneCell']) ?_ hu k;rw [<- A7W Xs j X hj];have e1:X/18446744073709551616=hi:=by omega
  have e2:X%18446744073709551616=lo:=by omega
  rw [e1,e2];rfl
theorem A5o{a:Nat}(h:a<4503599627370496):a<18446744073709551616:=by omega
theorem C4G(h l:Nat):l%2251799813685248=(h*18446744073709551616+l)%2251799813685248:=by omega
theorem lowM(x:Nat):x%18446744073709551616%2251799813685248=x%2251799813685248:=by omega
theorem C4H(x:Nat):x%2251799813685248<4503599627370496:=by omega
theorem C23{z1 z2 z3 z4 z5 y1 y2 y3 y4 y5:Nat}(h1:z1<=y1)(h2:z2<=y2)(h3:z3<=y3)(h4:z4<=y4)(h5:z5<=y5)(hb:y1+y2+y3+y4+y5<b):z1+z2+z3+z4+z5<b:=by omega
theorem back(X:Nat):X/18446744073709551616*18446744073709551616+X%18446744073709551616=X:=by omega
theorem C24{xs:LN}{i:Nat}(h:∀x∈xs,x<b)(hb:0<b):xs.getD i 0<b:=getD_lt h hb
theorem A2Y(v u:Value)(x y:Nat)(hx:Fe v x)(hy:Fe u y)(A:Mem):FnX prog 125 [v,u] [] A λr M J=>M=[]∧J=[]∧Fe r (x*y%p25):=by
 obtain ⟨a,b,c,d,e,rfl,hl0,hl1,hl2,hl3,hl4,rfl⟩:=hx;obtain ⟨u0,u1,u2,u3,u4,rfl,hu0,hu1,hu2,hu3,hu4,rfl⟩:=hy;refine Cn (N:=105) func125 E E E λw=>?_;refine A8 (D0 0 1) (A1 ?_);refine A2 E (bx_ λb2=>?_);refine A2 E (bx_ λb3=>?_);refine A2 E (C3 (cs:=[C0,C0,C0,C0,C0]) kR E λb4=>?_);refine A0 (D5 2 3 4) (A1 ?_);refine A2 E (C3 (cs:=[C0,C0,C0,C0,C0,C0,C0,C0,C0,C0]) kR E λb5=>?_);refine A0 (D7 2 3 4 5) (A3 (A1 (mv_ (A0 (E9 2 3 4 5 10) (A6 ?_)))));have has:∀x∈[a,b,c,d,e],x<4503599627370496:=by intro x hx;simp only [Cz,Da,or_false] at hx;rcases hx with rfl|rfl|rfl|rfl|rfl<;>assumption
 have hbs:∀x∈[u0,u1,u2,u3,u4],x<4503599627370496:=by intro x hx;simp only [Cz,Da,or_false] at hx;rcases hx with rfl|rfl|rfl|rfl|rfl<;>assumption
 have hall:=B6Z a b c d e u0 u1 u2 u3 u4 hl0 hl1 hl2 hl3 hl4 hu0 hu1 hu2 hu3 hu4;have hla:[a,b,c,d,e].length=5:=rfl;have hlb:[u0,u1,u2,u3,u4].length=5:=rfl;refine A0X (M':=[(b5,blk (A1c [0,0,0,0,0]) 235),(b4,blk [C0,C0,C0,C0,C0] 193),(b3,blk (nums .u64 [u0,u1,u2,u3,u4]) 193),(b2,blk (nums .u64 [a,b,c,d,e]) 193)]) (Cg E) qI ?_;generalize [a,b,c,d,e]=xs at *;generalize [u0,u1,u2,u3,u4]=ys at *;refine E0 (α:=Nat) (λi=>[(2,(vP b2)),(3,(vP b3)),(4,(vP b4)),(5,(vP b5)),(10,.int .i64 (i:Int))]) (λi=>[(b5,blk (A1c (A6E xs ys i)) 235),(b4,blk [C0,C0,C0,C0,C0] 193),(b3,blk (nums .u64 ys) 193),(b2,blk (nums .u64 xs) 193)]) (λ_=>[]) (λi=>i<=5) (λi=>5-i) 0 qD (E9 2 3 4 5 10) .rfl qI ?_;rintro i hi;refine A1 (lQ_ (E3 E E E) (A0 (G9 2 3 4 5 10 11) (A3 ?_)));refine C2 E ?_ ?_<;>intro hc
 .
  have hi5:i<5:=by simp at hc;omega
  have hfa:xs.getD i 0<4503599627370496:=C24 has qD;refine A4 (nx (E9 2 3 4 5 10) (A3 (A6 (A1 (mV_ E (aS_ E (A0 (G9 2 3 4 5 6 10) (A1 (mv_ (A0 (N1 2 3 4 5 6 10 13) (A6 ?_)))))))))));refine E0 (α:=Nat) (λk=>[(2,(vP b2)),(3,(vP b3)),(4,(vP b4)),(5,(vP b5)),(6,.int .i64 (i:Int)),(10,.int .i64 (i:Int)),(13,.int .i64 (k:Int))]) (λk=>[(b5,blk (A1c (A6D xs ys i k (A6E xs ys i))) 235),(b4,blk [C0,C0,C0,C0,C0] 193),(b3,blk (nums .u64 ys) 193),(b2,blk (nums .u64 xs) 193)]) (λ_=>[]) (λk=>k<=5) (λk=>5-k) 0 qD (N1 2 3 4 5 6 10 13) .rfl qI ?_;rintro k hk;refine A1 (lQ_ (E3 E E E) (A0 (V4 2 3 4 5 6 10 13 14) (A3 ?_)));refine C2 E ?_ ?_<;>intro hc
  .
   have hk5:k<5:=by simp at hc;omega
   have hfb:ys.getD k 0<4503599627370496:=C24 hbs qD;have hlx:(A6D xs ys i k (A6E xs ys i)).length=5:=by rw [A9N,B6Y]
   have hXlt:∀j,(A6D xs ys i k (A6E xs ys i)).getD j 0<340282366920938463463374607431768211456:=λj=>getD_lt (B3j xs ys i k (C0g xs ys i)) qD;refine A4 (nx (N1 2 3 4 5 6 10 13) (A3 (A6 (A1 (mV_ E (aS_ E (A0 (V4 2 3 4 5 6 7 10 13) (A1 (mv_ (mv_ ?_))))))))));refine lQ_ (D2 ((i+k:Nat):Int) E E (F5 qO qO qO)) ?_;refine lQ_ (E3 E E E) (A0 (Q4 2 3 4 5 6 7 10 13 19) ?_);refine C2 E ?_ ?_<;>intro hc
   .
    have hs5:i+k<5:=by simp at hc;omega
    have hj:C0e i k=i+k:=by unfold C0e;rw [if_pos hs5]
    have hfx:C2i xs i k=xs.getD i 0:=by unfold C2i;rw [if_pos hs5]
    refine I1 (.range 16) (zp 0 [0,0,0,0,0,0,0,1,0,0,1,0,0,1,2,0,2]) kR kR λhs=>?_;refine fM_ E E (fm_ ?_);refine fQ_ E (D2 ((i+k:Nat):Int) E E (F5 qO qO qO)) ?_;refine fM_ E E (fm_ ?_);refine fQ_ E (D2 ((i+k:Nat):Int) E E (F5 qO qO qO)) ?_;refine fQ_ E (F7 (e:=234) (n:=5) (sz:=2) (i:=i+k) E E kR kR E qO) ?_;refine fR_ E (C21 (i+k) E kR Ce qO qO) ?_;refine fm_ ?_;refine fQ_ E (F7 (e:=130) (n:=5) (sz:=1) (i:=i) E E kR kR E qO) ?_;refine fR_ E (H9 i E kR (by first|exact Ce|exact mA (by assumption)) qO qO) ?_;refine fm_ ?_;refine fQ_ E (F7 (e:=130) (n:=5) (sz:=1) (i:=k) E E kR kR E qO) ?_;refine fR_ E (H9 k E kR (by first|exact Ce|exact mA (by assumption)) qO qO) ?_;refine G5 E (aS E (aS E (aS E a0))) kR (A4J _ _ _ _ (by have:=hXlt (i+k);omega) (Ad _ qD) (A5o hfa) (A5o hfb) _) E ?_;rintro r1 M1 J1 ⟨rfl,rfl,h1,l1,rfl,g1,k1,e1⟩;rw [back] at e1;refine fQ_ E (F7 (e:=234) (n:=5) (sz:=2) (i:=i+k) E E kR kR E qO) ?_;refine G3 E E E (C22 (Xs:=A6D xs ys i k (A6E xs ys i)) (i+k) E E kR qO qO g1 k1 e1 Cv ?_);rw [show (A6D xs ys i k (A6E xs ys i)).set (i+k) (((A6D xs ys i k (A6E xs ys i)).getD (i+k) 0+xs.getD i 0*ys.getD k 0)%340282366920938463463374607431768211456)=A6D xs ys i (k+1) (A6E xs ys i) by rw [A6D,B3i,hj,hfx]];refine U0 (nb (nx (N1 2 3 4 5 6 10 13) (C1 ?_)));refine lQ_ (D2 ((k+1:Nat):Int) E E (F5 qO qO qO)) ?_;refine mv_ (C5 ?_);exact rn (k+1) qO qO (N1 2 3 4 5 6 10 13) .rfl qI
   .
    have hs5:¬i+k<5:=by simp at hc;omega
    have hj:C0e i k=i+k-5:=by unfold C0e;rw [if_neg hs5]
    have hfx:C2i xs i k=19*xs.getD i 0%18446744073709551616:=by unfold C2i;rw [if_neg hs5]
    refine I1 (.range 19) (zp 0 [0,0,0,0,0,0,0,0,0,1,0,0,1,0,0,0,1,2,0,2]) kR kR λhs=>?_;refine fM_ E E (fm_ ?_);refine fQ_ E (D2 ((i+k:Nat):Int) E E (F5 qO qO qO)) ?_;refine fQ_ E (D2 ((i+k-5:Nat):Int) E E (V6 qO qO qO)) ?_;refine fM_ E E (fm_ ?_);refine fQ_ E (D2 ((i+k:Nat):Int) E E (F5 qO qO qO)) ?_;refine fQ_ E (D2 ((i+k-5:Nat):Int) E E (V6 qO qO qO)) ?_;refine fQ_ E (F7 (e:=234) (n:=5) (sz:=2) (i:=i+k-5) E E kR kR E qO) ?_;refine fR_ E (C21 (i+k-5) E kR Ce qO qO) ?_;refine fm_ ?_;refine fQ_ E (F7 (e:=130) (n:=5) (sz:=1) (i:=i) E E kR kR E qO) ?_;refine fR_ E (H9 i E kR (by first|exact Ce|exact mA (by assumption)) qO qO) ?_;refine fQ_ E (P9 18446744073709551616 (a:=19) E E E E E E) (fm_ ?_);refine fQ_ E (F7 (e:=130) (n:=5) (sz:=1) (i:=k) E E kR kR E qO) ?_;refine fR_ E (H9 k E kR (by first|exact Ce|exact mA (by assumption)) qO qO) ?_;refine G5 E (aS E (aS E (aS E a0))) kR (A4J _ _ _ _ (by have:=hXlt (i+k-5);omega) (Ad _ qD) (Ad _ qD) (A5o hfb) _) E ?_;rintro r1 M1 J1 ⟨rfl,rfl,h1,l1,rfl,g1,k1,e1⟩;rw [back] at e1;refine fQ_ E (F7 (e:=234) (n:=5) (sz:=2) (i:=i+k-5) E E kR kR E qO) ?_;refine G3 E E E (C22 (Xs:=A6D xs ys i k (A6E xs ys i)) (i+k-5) E E kR qO qO g1 k1 e1 Cv ?_);rw [show (A6D xs ys i k (A6E xs ys i)).set (i+k-5) (((A6D xs ys i k (A6E xs ys i)).getD (i+k-5) 0+(19*xs.getD i 0%18446744073709551616)*ys.getD k 0)%340282366920938463463374607431768211456)=A6D xs ys i (k+1) (A6E xs ys i) by rw [A6D,B3i,hj,hfx]];refine U0 (nb (nx (N1 2 3 4 5 6 10 13) (C1 ?_)));refine lQ_ (D2 ((k+1:Nat):Int) E E (F5 qO qO qO)) ?_;refine mv_ (C5 ?_);exact rn (k+1) qO qO (N1 2 3 4 5 6 10 13) .rfl qI
  .
   have hk5:k=5:=by simp at hc;omega
   subst hk5;refine D6 (te (re (be E (nb (nx (E9 2 3 4 5 10) (C1 ?_))))));refine lQ_ (D2 ((i+1:Nat):Int) E E (F5 qO qO qO)) ?_;refine mv_ (C5 ?_);exact rn (i+1) qO qO (E9 2 3 4 5 10) .rfl qI
 .
  have hi5:i=5:=by simp at hc;omega
  subst hi5;rw [hall];clear hall;have z00:=zb hl0 hu0;have z01:=A5P hl1 hu4;have z02:=A5P hl2 hu3;have z03:=A5P hl3 hu2;have z04:=A5P hl4 hu1;have y0:=C23 z00 z01 z02 z03 z04 (b:=2596148429267413814265248164610048) qD;clear z00 z01 z02 z03 z04;have z10:=zb hl0 hu1;have z11:=zb hl1 hu0;have z12:=A5P hl2 hu4;have z13:=A5P hl3 hu3;have z14:=A5P hl4 hu2;have y1:=C23 z10 z11 z12 z13 z14 (b:=2596148429267413814265248164610048) qD;clear z10 z11 z12 z13 z14;have z20:=zb hl0 hu2;have z21:=zb hl1 hu1;have z22:=zb hl2 hu0;have z23:=A5P hl3 hu4;have z24:=A5P hl4 hu3;have y2:=C23 z20 z21 z22 z23 z24 (b:=2596148429267413814265248164610048) qD;clear z20 z21 z22 z23 z24;have z30:=zb hl0 hu3;have z31:=zb hl1 hu2;have z32:=zb hl2 hu1;have z33:=zb hl3 hu0;have z34:=A5P hl4 hu4;have y3:=C23 z30 z31 z32 z33 z34 (b:=2596148429267413814265248164610048) qD;clear z30 z31 z32 z33 z34;have z40:=zb hl0 hu4;have z41:=zb hl1 hu3;have z42:=zb hl2 hu2;have z43:=zb hl3 hu1;have z44:=zb hl4 hu0;have y4:=C23 z40 z41 z42 z43 z44 (b:=162259276829213363391578010288128) qD;clear z40 z41 z42 z43 z44;have hring:=B6X a b c d e u0 u1 u2 u3 u4;generalize a*u0+19*b*u4+19*c*u3+19*d*u2+19*e*u1=R0 at *;generalize a*u1+b*u0+19*c*u4+19*d*u3+19*e*u2=R1 at *;generalize a*u2+b*u1+c*u0+19*d*u4+19*e*u3=R2 at *;generalize a*u3+b*u2+c*u1+d*u0+19*e*u4=R3 at *;generalize a*u4+b*u3+c*u2+d*u1+e*u0=R4 at *;have x0:R0/18446744073709551616<18446744073709551616:=by omega
  have x1:R1/18446744073709551616<18446744073709551616:=by omega
  have x2:R2/18446744073709551616<18446744073709551616:=by omega
  have x3:R3/18446744073709551616<18446744073709551616:=by omega
  have x4:R4/18446744073709551616<18446744073709551616:=by omega
  simp only [A1c];refine D6 (te (re (be E (nx (D0 4 5) (A1 ?_)))));refine A2 E (C3 (cs:=[C0,C0,C0,C0,C0]) kR E λb8=>?_);refine A0 (D5 4 5 8) (A3 (A1 (mv_ (A0 (D7 4 5 8 57) (A6 ?_)))));refine A0v 5 ?_;refine I2 ?_;refine A1 ?_;refine lQ_ (F6 true E E (ltT qD)) ?_;refine A0 (E9 4 5 8 57 58) (A3 ?_);refine E2 E ?_;refine A4 (nx (D7 4 5 8 57) (A3 (A6 (A1 (mv_ (as_ (A0 (E9 4 5 8 9 57) ?_)))))));refine C9 (.range 12) (zp 0 [0,0,0,0,0,1,0,0,1,2,2,0,2]) kR kR λhs=>?_;refine fm_ ?_;refine fQ_ E (D2 (1:Int) E E (F5 qD qD qD)) ?_;refine fm_ ?_;refine fQ_ E (D2 (1:Int) E E (F5 qD qD qD)) ?_;refine fQ_ E (qi_ 2 234 5 2 1) ?_;refine fR_ E (H7 (n:=2) E kR (by first|exact Ce|exact mA (by assumption)) Cu) ?_;refine fM_ E E (fQ_ E (qi_ 0 234 5 2 0) ?_);refine fR_ E (H7 (n:=2) E kR (by first|exact Ce|exact mA (by assumption)) Cu) ?_;refine N3 E (aS E a0) kR (A01 _ _ (by first|assumption|exact A5o (by assumption)|decide|exact Ad _ qD) (by first|assumption|exact A5o (by assumption)|decide|exact Ad _ qD) _) E ?_;refine G5 E (aS E (aS E a0)) kR (A1T _ _ _ (by first|assumption|exact A5o (by assumption)|decide|exact Ad _ qD) (by first|assumption|exact A5o (by assumption)|decide|exact Ad _ qD) (Ad _ qD) _) E ?_;rintro r1 M1 J1 ⟨rfl,rfl,h1,l1,rfl,g1,k1,qq1⟩;refine fQ_ E (qi_ 2 234 5 2 1) ?_;refine G3 E E E (A35 E E kR al2 Cv ?_);refine E4 (E9 4 5 8 9 57) (C1 (mV_ E (mV_ E (lQ_ (qi_ 0 234 5 2 0) (lQ_ (qf_ 1 1) ?_)))));refine lQ_ ql_ ?_;refine lQ_ (N4 51 2251799813685248 E E E E E (by show _<18446744073709551616;first|assumption|exact Ad _ qD|omega) qD) ?_;refine lQ_ (qi_ 0 130 5 1 0) ?_;refine A2 E (E1 E E E kR Ct Cv ?_);refine C5 (nb (nx (D7 4 5 8 57) (C1 ?_)));refine lQ_ (D2 (1:Int) E E (F5 qD qD qD)) ?_;refine mv_ (C5 ?_);refine un (D7 4 5 8 57) ?_;refine I2 ?_;refine A1 ?_;refine lQ_ (F6 true E E (ltT qD)) ?_;refine A0 (E9 4 5 8 57 58) (A3 ?_);refine E2 E ?_;refine A4 (nx (D7 4 5 8 57) (A3 (A6 (A1 (mv_ (as_ (A0 (E9 4 5 8 9 57) ?_)))))));refine C9 (.range 12) (zp 0 [0,0,0,0,0,1,0,0,1,2,2,0,2]) kR kR λhs=>?_;refine fm_ ?_;refine fQ_ E (D2 (2:Int) E E (F5 qD qD qD)) ?_;refine fm_ ?_;refine fQ_ E (D2 (2:Int) E E (F5 qD qD qD)) ?_;refine fQ_ E (qi_ 4 234 5 2 2) ?_;refine fR_ E (H7 (n:=2) E kR (by first|exact Ce|exact mA (by assumption)) Cu) ?_;refine fM_ E E (fQ_ E (qi_ 2 234 5 2 1) ?_);refine fR_ E (H7 (n:=2) E kR (by first|exact Ce|exact mA (by assumption)) Cu) ?_;refine N3 E (aS E a0) kR (A01 _ _ (by first|assumption|exact A5o (by assumption)|decide|exact Ad _ qD) (by first|assumption|exact A5o (by assumption)|decide|exact Ad _ qD) _) E ?_;refine G5 E (aS E (aS E a0)) kR (A1T _ _ _ (by first|assumption|exact A5o (by assumption)|decide|exact Ad _ qD) (by first|assumption|exact A5o (by assumption)|decide|exact Ad _ qD) (Ad _ qD) _) E ?_;rintro r2 M2 J2 ⟨rfl,rfl,h2,l2,rfl,g2,k2,qq2⟩;refine fQ_ E (qi_ 4 234 5 2 2) ?_;refine G3 E E E (A35 E E kR al2 Cv ?_);refine E4 (E9 4 5 8 9 57) (C1 (mV_ E (mV_ E (lQ_ (qi_ 2 234 5 2 1) (lQ_ (qf_ 3 1) ?_)))));refine lQ_ ql_ ?_;refine lQ_ (N4 51 2251799813685248 E E E E E (by show _<18446744073709551616;first|assumption|exact Ad _ qD|omega) qD) ?_;refine lQ_ (qi_ 1 130 5 1 1) ?_;refine A2 E (E1 E E E kR Ct Cv ?_);refine C5 (nb (nx (D7 4 5 8 57) (C1 ?_)));refine lQ_ (D2 (2:Int) E E (F5 qD qD qD)) ?_;refine mv_ (C5 ?_);refine un (D7 4 5 8 57) ?_;refine I2 ?_;refine A1 ?_;refine lQ_ (F6 true E E (ltT qD)) ?_;refine A0 (E9 4 5 8 57 58) (A3 ?_);refine E2 E ?_
  refine A4 (nx (D7 4 5 8 57) (A3 (A6 (A1 (mv_ (as_ (A0 (E9 4 5 8 9 57) ?_)))))));refine C9 (.range 12) (zp 0 [0,0,0,0,0,1,0,0,1,2,2,0,2]) kR kR λhs=>?_;refine fm_ ?_;refine fQ_ E (D2 (3:Int) E E (F5 qD qD qD)) ?_;refine fm_ ?_;refine fQ_ E (D2 (3:Int) E E (F5 qD qD qD)) ?_;refine fQ_ E (qi_ 6 234 5 2 3) ?_;refine fR_ E (H7 (n:=2) E kR (by first|exact Ce|exact mA (by assumption)) Cu) ?_;refine fM_ E E (fQ_ E (qi_ 4 234 5 2 2) ?_);refine fR_ E (H7 (n:=2) E kR (by first|exact Ce|exact mA (by assumption)) Cu) ?_;refine N3 E (aS E a0) kR (A01 _ _ (by first|assumption|exact A5o (by assumption)|decide|exact Ad _ qD) (by first|assumption|exact A5o (by assumption)|decide|exact Ad _ qD) _) E ?_;refine G5 E (aS E (aS E a0)) kR (A1T _ _ _ (by first|assumption|exact A5o (by assumption)|decide|exact Ad _ qD) (by first|assumption|exact A5o (by assumption)|decide|exact Ad _ qD) (Ad _ qD) _) E ?_;rintro r3 M3 J3 ⟨rfl,rfl,h3,l3,rfl,g3,k3,qq3⟩;refine fQ_ E (qi_ 6 234 5 2 3) ?_;refine G3 E E E (A35 E E kR al2 Cv ?_);refine E4 (E9 4 5 8 9 57) (C1 (mV_ E (mV_ E (lQ_ (qi_ 4 234 5 2 2) (lQ_ (qf_ 5 1) ?_)))));refine lQ_ ql_ ?_;refine lQ_ (N4 51 2251799813685248 E E E E E (by show _<18446744073709551616;first|assumption|exact Ad _ qD|omega) qD) ?_;refine lQ_ (qi_ 2 130 5 1 2) ?_;refine A2 E (E1 E E E kR Ct Cv ?_);refine C5 (nb (nx (D7 4 5 8 57) (C1 ?_)));refine lQ_ (D2 (3:Int) E E (F5 qD qD qD)) ?_;refine mv_ (C5 ?_);refine un (D7 4 5 8 57) ?_;refine I2 ?_;refine A1 ?_;refine lQ_ (F6 true E E (ltT qD)) ?_;refine A0 (E9 4 5 8 57 58) (A3 ?_);refine E2 E ?_;refine A4 (nx (D7 4 5 8 57) (A3 (A6 (A1 (mv_ (as_ (A0 (E9 4 5 8 9 57) ?_)))))));refine C9 (.range 12) (zp 0 [0,0,0,0,0,1,0,0,1,2,2,0,2]) kR kR λhs=>?_;refine fm_ ?_;refine fQ_ E (D2 (4:Int) E E (F5 qD qD qD)) ?_;refine fm_ ?_;refine fQ_ E (D2 (4:Int) E E (F5 qD qD qD)) ?_;refine fQ_ E (qi_ 8 234 5 2 4) ?_;refine fR_ E (H7 (n:=2) E kR (by first|exact Ce|exact mA (by assumption)) Cu) ?_;refine fM_ E E (fQ_ E (qi_ 6 234 5 2 3) ?_);refine fR_ E (H7 (n:=2) E kR (by first|exact Ce|exact mA (by assumption)) Cu) ?_;refine N3 E (aS E a0) kR (A01 _ _ (by first|assumption|exact A5o (by assumption)|decide|exact Ad _ qD) (by first|assumption|exact A5o (by assumption)|decide|exact Ad _ qD) _) E ?_;refine G5 E (aS E (aS E a0)) kR (A1T _ _ _ (by first|assumption|exact A5o (by assumption)|decide|exact Ad _ qD) (by first|assumption|exact A5o (by assumption)|decide|exact Ad _ qD) (Ad _ qD) _) E ?_;rintro r4 M4 J4 ⟨rfl,rfl,h4,l4,rfl,g4,k4,qq4⟩;refine fQ_ E (qi_ 8 234 5 2 4) ?_;refine G3 E E E (A35 E E kR al2 Cv ?_);refine E4 (E9 4 5 8 9 57) (C1 (mV_ E (mV_ E (lQ_ (qi_ 6 234 5 2 3) (lQ_ (qf_ 7 1) ?_)))));refine lQ_ ql_ ?_;refine lQ_ (N4 51 2251799813685248 E E E E E (by show _<18446744073709551616;first|assumption|exact Ad _ qD|omega) qD) ?_;refine lQ_ (qi_ 3 130 5 1 3) ?_;refine A2 E (E1 E E E kR Ct Cv ?_);refine C5 (nb (nx (D7 4 5 8 57) (C1 ?_)));refine lQ_ (D2 (4:Int) E E (F5 qD qD qD)) ?_;refine mv_ (C5 ?_);refine un (D7 4 5 8 57) ?_;refine I2 ?_;refine A1 ?_;refine lQ_ (F6 false E E (ltF qD)) ?_;refine A0 (E9 4 5 8 57 58) (A3 ?_);refine C7 E ?_;refine D6 (te (ue (be E (nx (D5 4 5 8) (A1 (lQ_ (qi_ 8 234 5 2 4) (lQ_ (qf_ 9 1) ?_)))))));refine lQ_ ql_ ?_;refine lQ_ (N4 51 2251799813685248 E E E E E (by show _<18446744073709551616;first|assumption|exact Ad _ qD|omega) qD) ?_;refine lQ_ (qi_ 4 130 5 1 4) ?_;refine A2 E (E1 E E E kR Ct Cv ?_);refine A0 (D5 4 5 8) ?_
  refine C9 (.range 8) (zp 0 [0,1,0,1,2,0,0,0,2]) kR kR λhs=>?_;refine fQ_ E (qi_ 0 130 5 1 0) ?_;refine fR_ E ql_ ?_;refine fQ_ E (qi_ 8 234 5 2 4) ?_;refine fR_ E (H7 (n:=2) E kR (by first|exact Ce|exact mA (by assumption)) Cu) ?_;refine N3 E (aS E a0) kR (A01 _ _ (by first|assumption|exact A5o (by assumption)|decide|exact Ad _ qD) (by first|assumption|exact A5o (by assumption)|decide|exact Ad _ qD) _) E ?_;refine fQ_ E (P9 18446744073709551616 (a:=19) E E E E E E) (fQ_ E (G7 18446744073709551616 E E E E E E) (fQ_ E (qi_ 0 130 5 1 0) ?_));refine G3 E E E (E1 E E E kR Ct Cv ?_);refine E4 (D0 4 8) (A1 (lQ_ (qi_ 1 130 5 1 1) ?_));refine lQ_ ql_ ?_;refine lQ_ (qi_ 0 130 5 1 0) ?_;refine lQ_ ql_ ?_;refine lQ_ (P4 51 2251799813685248 E E E E qD) ?_;refine lQ_ (G7 18446744073709551616 E E E E E E) (lQ_ (qi_ 1 130 5 1 1) ?_);refine A2 E (E1 E E E kR Ct Cv ?_);refine A0 (D0 4 8) (A1 (lQ_ (qi_ 0 130 5 1 0) ?_));refine lQ_ ql_ ?_;refine lQ_ (N4 51 2251799813685248 E E E E E (by show _<18446744073709551616;first|assumption|exact Ad _ qD|omega) qD) ?_;refine lQ_ (qi_ 0 130 5 1 0) ?_;refine A2 E (E1 E E E kR Ct Cv ?_);refine A0 (D0 4 8) (A1 ?_);refine lQ_ (qw_ 5) ?_;refine A2 E (A5 E E Cf kR ln5 al5 Cv ?_);refine A0 (D1 4) (A9 ?_);rw [back] at qq1;rw [back] at qq1;rw [back] at qq2;rw [back] at qq3;rw [back] at qq4;obtain ⟨t1,t2⟩:=B6V y0 y1 y2 y3 y4 qq1 qq2 qq3 qq4 (lowM R0) (C4G _ _) (C4G _ _) (C4G _ _) (C4G _ _) E rfl;refine ⟨_,[],[],A1l E E kR Ce qR,Aa _,by simp,E,E,_,_,_,_,_,E,C4H _,t1,C4H _,C4H _,C4H _,?_⟩;rw [N7 t2,<- Nat.mul_mod,hring,Nat.add_mul_mod_self_left]
theorem L2:Fe (el 0 0 0 0 0) 0:=⟨0,0,0,0,0,E,by decide,by decide,by decide,by decide,by decide,E⟩
theorem A0O(v:Value)(x:Nat)(hx:Fe v x)(A:Mem):FnX prog 153 [v] [] A λr M J=>M=[]∧J=[]∧Fe r (x*x%p25):=by have hx0:=hx;obtain ⟨a,b,c,d,e,rfl,-⟩:=hx;refine Cn (N:=6) func153 E E E λw=>?_;refine A8 (D1 0) (A1 ?_);refine A2 E (bx_ λb1=>?_);refine A2 E (C3 (cs:=[C0,C0,C0,C0,C0]) kR E λb2=>?_);refine A0 (D0 1 2) (A1 ?_);refine lQ_ (qw_ 5) ?_;refine lQ_ (qw_ 5) ?_;refine C6 (aS E (aS E a0)) kR (A2Y _ _ _ _ (by exact hx0) (by exact hx0) _) E ?_;rintro r1 M1 J1 ⟨rfl,rfl,a1,b1,c1,d1,e1,rfl,hr⟩;refine A2 E (A5 E E Cf kR ln5 al5 Cv ?_);refine A0 (D1 2) (A9 ?_);exact ⟨_,[],[],A1l E E kR Ce qR,Aa _,by simp,E,E,a1,b1,c1,d1,e1,E,hr⟩
theorem B3p(v:Value)(x:Nat)(hx:Fe v x)(A:Mem):FnX prog 174 [v] [] A λr M J=>M=[]∧J=[]∧Fe r ((p25-x)%p25):=by have hx0:=hx;obtain ⟨a,b,c,d,e,rfl,-⟩:=hx;refine Cn (N:=6) func174 E E E λw=>?_;refine A8 (D1 0) (A1 ?_);refine A2 E (bx_ λb1=>?_);refine A2 E (C3 (cs:=[C0,C0,C0,C0,C0]) kR E λb2=>?_);refine A0 (D0 1 2) (A1 ?_);refine lQ_ (E6 (place:=λi=>some (i*1,1)) (z:=[C0,C0,C0,C0,C0]) (λ_=>by kernel_rfl) e0 bd0) ?_;refine lQ_ (qw_ 5) ?_;refine C6 (aS E (aS E a0)) kR (A7U _ _ _ _ (by exact L2) (by exact hx0) _) E ?_;rintro r1 M1 J1 ⟨rfl,rfl,hr⟩;rw [Nat.zero_add] at hr;obtain ⟨a1,b1,c1,d1,e1,rfl,hr⟩:=hr;refine A2 E (A5 E E Cf kR ln5 al5 Cv ?_);refine A0 (D1 2) (A9 ?_);exact ⟨_,[],[],A1l E E kR Ce qR,Aa _,by simp,E,E,a1,b1,c1,d1,e1,E,hr⟩
theorem A4K(n:Nat)(hn:n<4294967296)(A:Mem):FnX prog 122 [.int .u32 (n:Int)] [] A λr M J=>M=[]∧J=[]∧Fe r n:=by refine Cn (N:=6) func122 E E E λw=>?_;refine A8 (D1 0) (A1 ?_);refine A2 E (C3 (cs:=[C0,C0,C0,C0,C0]) kR E λb2=>?_);refine A0 (D0 0 2) (A1 (mV_ E (lQ_ (B1S E kR) ?_)));refine lQ_ (E6 (place:=λi=>some (i*1,1)) (z:=[C0,C0,C0,C0,C0]) (λ_=>by kernel_rfl) (eS E e0) (bdS 0 1 E qR bd0)) ?_;refine A2 E (A5 E E Cf kR ln5 al5 Cv ?_);refine A0 (D1 2) (A9 ?_);refine ⟨_,[],[],A1l E E kR Ce qR,Aa _,by simp,E,E,n%18446744073709551616,0,0,0,0,E,by omega,by decide,by decide,by decide,by decide,?_⟩;unfold fv p25;omega

end Go.Proofs.YtgpjndfgjjlhaaaGreatDoor
namespace Go.Px
def bv:List Nat->Nat
  | []=>0
  | b::r=>b+256*bv r
variable{p:List Nat}
theorem C25(h:∀x∈p,x<256):bv p<256^p.length:=by
  induction p with
  | nil=>decide
  | cons b r ih =>
    have h1:=h b (by simp);have h2:=ih λx hx=>h x (by simp [hx]);simp only [bv,List.length_cons,Nat.pow_succ];omega
theorem C0i(h:∀x∈p,x<256)(i:Nat):bv p/256^i%256=p.getD i 0:=by
  induction p generalizing i with
  | nil=>simp [bv]
  | cons b r ih =>
    have h1:=h b (by simp)
    cases i with
    | zero=>simp only [bv,Nat.pow_zero,Nat.div_one,List.getD_cons_zero];omega
    | succ i =>
      rw [List.getD_cons_succ,<- ih (λx hx=>h x (by simp [hx])) i,Nat.pow_succ,Nat.mul_comm,<- Bw];congr 2;simp only [bv];omega
theorem A7X(h:∀x∈p,x<256)(i:Nat):p.getD (i/8) 0/2^(i%8)%2=bv p/2^i%2:=by
  rw [<- C0i h,show (256:Nat)=2^8 from rfl,<- Nat.pow_mul];have h1:i%8<8:=Ad _ (by decide);have e:2^8=2^(i%8)*(2*2^(7-i%8)):=by rw [<- Nat.pow_succ',<- Nat.pow_add];congr 1;omega
  rw [e,Nat.mod_mul_right_div_self,Nat.mod_mul_right_mod,Bw,<- Nat.pow_add];congr 3;omega
def prt(w N i j:Nat):Nat:=N%2^i/2^(w*j)%2^w
variable{w N i:Nat}
theorem B66(hw:0<w):prt w N (i+1) (i/w)=(prt w N i (i/w) ||| (N/2^i%2) <<< (i%w)):=by
  have hr:i%w<w:=Ad _ hw;have hi:w*(i/w)+i%w=i:=Nat.div_add_mod i w
  have hX:N%2^i/2^(w*(i/w))<2^(i%w):=by rw [Nat.div_lt_iff_lt_mul (Ca _),<- Nat.pow_add,Nat.add_comm,hi];exact Ad _ (Ca _)
  have hle:2^(i%w)*2<=2^w:=by rw [<- Nat.pow_succ];exact Br (by decide) hr
  have hb:N/2^i%2<2:=Ad _ (by decide);unfold prt;rw [Af (Bp hX (by omega)),Nat.or_comm,<- Nat.shiftLeft_add_eq_or_of_lt hX,Nat.mod_pow_succ]
  have e:(N%2^i+2^i*(N/2^i%2))/2^(w*(i/w))=N%2^i/2^(w*(i/w))+2^(i%w)*(N/2^i%2):=by
    conv=>lhs;rw [show 2^i*(N/2^i%2)=2^(w*(i/w))*(2^(i%w)*(N/2^i%2)) by rw [<- Nat.mul_assoc,<- Nat.pow_add,hi]]
    rw [Nat.add_mul_div_left _ _ (Ca _)]
  rw [e,Nat.shiftLeft_eq,Af,Nat.add_comm,Nat.mul_comm];generalize N/2^i%2=b at *;have:2^(i%w)*b<=2^(i%w)*1:=Nat.mul_le_mul_left _ (by omega);omega
theorem B67{j:Nat}(hw:0<w)(h:j≠i/w):prt w N (i+1) j=prt w N i j:=by
  have hi:w*(i/w)+i%w=i:=Nat.div_add_mod i w;have hr:i%w<w:=Ad _ hw;unfold prt;rw [Nat.mod_pow_succ];rcases Nat.lt_or_gt_of_ne h with hl|hg
  . have hge:w*(j+1)<=i:=by have:=Nat.mul_le_mul_left w (show j+1<=i/w from hl);omega
    have e:2^i*(N/2^i%2)=2^(w*j)*(2^w*(2^(i-w*(j+1))*(N/2^i%2))):=by rw [<- Nat.mul_assoc,<- Nat.mul_assoc,<- Nat.pow_add,<- Nat.pow_add];congr 2;rw [Nat.mul_add] at hge ⊢;omega
    rw [e,Nat.add_mul_div_left _ _ (Ca _),Nat.add_mul_mod_self_left]
  . have hge:i+1<=w*j:=by have:=Nat.mul_le_mul_left w (show i/w+1<=j from hg);rw [Nat.mul_add] at this;omega
    have h1:N%2^i<2^(w*j):=Bp (Ad _ (Ca _)) (Br (by decide) (by omega))
    have h2:N%2^i+2^i*(N/2^i%2)<2^(w*j):=by rw [<- Nat.mod_pow_succ];exact Bp (Ad _ (Ca _)) (Br (by decide) hge)
    rw [Nat.div_eq_of_lt h1,Nat.div_eq_of_lt h2]
def A07(w n N i:Nat):List Nat:=(List.range n).map (prt w N i)
theorem P6(w n N i:Nat):(A07 w n N i).length=n:=by simp [A07]
theorem A2Z{n j:Nat}(h:j<n):(A07 w n N i).getD j 0=prt w N i j:=by simp [A07,List.getD,h]
theorem A4L(w n N:Nat):A07 w n N 0=List.replicate n 0:=by
  apply List.ext_getElem?;intro j;simp only [A07,List.getElem?_map,List.getElem?_replicate];by_cases h:j<n
  . simp [h,prt,Nat.mod_one]
  . simp [h]
theorem A4M{n:Nat}(hw:0<w)(hi:i/w<n):A07 w n N (i+1)=(A07 w n N i).set (i/w) (prt w N i (i/w) ||| (N/2^i%2) <<< (i%w)):=by
  apply List.ext_getElem?;intro j;rw [List.getElem?_set];simp only [A07,List.getElem?_map,List.length_map,List.length_range];by_cases h:j<n
  . by_cases e:i/w=j
    . subst e;simp [h,B66 hw]
    . simp [h,e,B67 hw (λh=>e h.symm)]
  . have:i/w≠j:=by omega
    simp [h,this]
theorem B3q(p q:List Nat):bv (p++q)=bv p+256^p.length*bv q:=by
  induction p with
  | nil=>simp [bv]
  | cons b r ih=>simp only [Cy,bv,ih,List.length_cons,Nat.pow_succ];grind
theorem A20(X:Nat):∀n,bv ((List.range n).map λj=>X/2^(8*j)%2^8)=X%2^(8*n)
  | 0=>by simp [bv,Nat.mod_one]
  | n+1=>by rw [List.range_succ,List.map_append,B3q,A20 X n,List.length_map,List.length_range];simp only [List.map_cons,List.map_nil,bv,Nat.mul_zero,Nat.add_zero];rw [show (256:Nat)^n=2^(8*n) by rw [Nat.pow_mul],show 8*(n+1)=8*n+8 by omega,Nat.pow_add,Nat.mod_mul]
theorem B3r(x:Nat):bv (A07 8 32 x 255)=x%2^255:=by unfold A07 prt;rw [A20,Af];exact Bp (Ad _ (Ca _)) (Br (by decide) (by decide))
theorem A1d(x i:Nat):∀y∈A07 8 32 x i,y<256:=by intro y hy;obtain ⟨j,_,rfl⟩:=List.mem_map.1 hy;exact Ad _ (Ca _)
theorem B7a{x y:Nat}(hx:x<p25)(hy:y<p25)(h:A07 8 32 x 255=A07 8 32 y 255):x=y:=by have:=congrArg bv h;rw [B3r,B3r,Af (Nat.lt_trans hx (by decide)),Af (Nat.lt_trans hy (by decide))] at this;exact this
end Go.Px

namespace Go.Proofs.YtgpjndfgjjlhaaaGreatDoor
open Go.Px
def rdN(p:LN):Nat:=if p.length=32 then bv p%57896044618658097711785492504343953926634992332820282019728792003956564819968%p25 else 0
theorem C0j(N:Nat):fv (prt 51 N 255 0) (prt 51 N 255 1) (prt 51 N 255 2) (prt 51 N 255 3) (prt 51 N 255 4)=N%57896044618658097711785492504343953926634992332820282019728792003956564819968:=by unfold fv prt;simp only [Nat.reducePow,Nat.reduceMul];omega
theorem A9O(w N i j:Nat):prt w N i j<2^w:=Ad _ (Ca _)
theorem B3s(N i j:Nat):prt 51 N i j<4503599627370496:=Nat.lt_trans (A9O 51 N i j) qD
theorem A4N{b s w:Nat}(hb:b<2)(hs:s<w):b <<< s<2^w:=by
  rw [Nat.shiftLeft_eq];have h1:2^s*2<=2^w:=by rw [<- Nat.pow_succ];exact Br qD hs
  have h2:b*2^s<=1*2^s:=Au _ qO;have h3:=Ca s;omega
theorem A5Q(pv:Value)(p:LN)(A:Mem)(hp:Rd A 1 pv p.length (nums .u8 p))(hp256:∀x∈p,x<256)(hpl:p.length<9223372036854775808):FnX prog 121 [pv] [] A λr M J=>M=[]∧J=[]∧Fe r (rdN p):=by
 refine Cn (N:=33) func121 E E E λw=>?_;refine A8 (D1 0) (A1 ?_);refine A2 E (C3 (cs:=[C0,C0,C0,C0,C0]) kR E λb2=>?_);refine A0 (D0 0 2) (A1 ?_);refine A2 E (C3 (cs:=[C0,C0,C0,C0,C0]) kR E λb3=>?_);refine A0 (D5 0 2 3) (A3 (A1 (mV_ E (lQ_ (A1n hp E kR) (lQ_ (E3 E E E) (A0 (D7 0 2 3 7) ?_))))));refine C2 E ?_ ?_<;>intro hc
 .
  have h32:p.length≠32:=by simp at hc;omega
  refine A1 ?_;refine lQ_ (qw_ 5) ?_;refine A2 E (A5 E E Cf kR ln5 al5 Cv ?_);refine A0 (D1 2) (A9 (tr ?_));refine ⟨_,[],[],A1l E E kR Ce qR,Aa _,by simp,E,E,0,0,0,0,0,E,by decide,by decide,by decide,by decide,by decide,?_⟩;rw [rdN,if_neg h32];rfl
 .
  have h32:p.length=32:=by simp at hc;omega
  have hN:=A7X hp256;refine A4 (nx (D5 0 2 3) (A3 (A1 (mv_ (A0 (D7 0 2 3 9) (A6 ?_))))));refine A0X (M':=[(b3,blk (nums .u64 (A07 51 5 (bv p) 0)) 193),(b2,blk [C0,C0,C0,C0,C0] 193)]) (Cg (by rw [A4L];rfl)) qI ?_;refine E0 (α:=Nat) (λi=>[(0,pv),(2,(vP b2)),(3,(vP b3)),(9,.int .i64 (i:Int))]) (λi=>[(b3,blk (nums .u64 (A07 51 5 (bv p) i)) 193),(b2,blk [C0,C0,C0,C0,C0] 193)]) (λ_=>[]) (λi=>i<=255) (λi=>255-i) 0 qD (D7 0 2 3 9) .rfl qI ?_;rintro i hi;refine A1 (lQ_ (E3 E E E) (A0 (E9 0 2 3 9 10) (A3 ?_)));refine C2 E ?_ ?_<;>intro hc
  .
   have hlt:i<255:=by simp at hc;omega
   have hbit:=hN i;rw [<- Cb] at hbit;have hb2:bv p/2^i%2<2:=Ad _ qD;have hps:=A4M (w:=51) (n:=5) (N:=bv p) (i:=i) qD qO;have hpg:=A2Z (w:=51) (n:=5) (N:=bv p) (i:=i) (j:=i/51) qO;have hpl:=A9O 51 (bv p) i (i/51);have hsm:=A4N (w:=51) hb2 (Ad i (by decide:0<51));have hpb:p.getD (i/8) 0<256:=getD_lt hp256 qD;have hsr:=Nat.shiftRight_le (p.getD (i/8) 0) (i%8);rw [<- hpg] at hps hpl;generalize bv p/2^i%2=bt at *;have hmo:bt <<< (i%51)%2^IntKind.u64.bits=bt <<< (i%51):=Af (Nat.lt_trans hsm qD);have hto:IntKind.u64.wrap (bt:Int)=(bt:Int):=by rw [A9s,Af qO]
   refine A4 (nx (D7 0 2 3 9) (A3 (A6 (A1 (mv_ (as_ (A0 (E9 0 2 3 4 9) ?_)))))));refine I1 (.range 19) (zp 0 [0,0,0,1,0,0,0,0,1,0,0,0,0,0,0,0,0,0,0,2]) kR kR λhs=>?_;refine fm_ ?_;refine fQ_ E (A1A 51 E E E qD (A2E qO)) ?_;refine fQ_ E (F7 (e:=130) (n:=5) (sz:=1) (i:=i/51) E E kR kR E qO) ?_;refine fR_ E (H9 (i/51) E kR Ce qO (by rw [P6];omega)) ?_;refine fM_ E E (fm_ ?_);refine fQ_ E (A1A 8 E E E qD (A2E qO)) ?_;refine fQ_ E (B6o hp E E kR (i/8) E qO) ?_;refine fR_ E (A5A (hp.mono λ_ h=>mA h) E kR qO) ?_;refine fm_ ?_;refine fQ_ E (A1B 8 E E E qD) ?_;refine fQ_ E (T9 (i%8) E E E (by show _<=8;omega)) ?_;refine fQ_ E (hbit▸N4 1 2 E E E E E (by show _<256;omega) qD) ?_;refine fQ_ E (K2 bt E kR hto) (fm_ ?_);refine fQ_ E (A1B 51 E E E qD) ?_;refine fQ_ E (hmo▸A3A E (i%51) E E E (by show _<=64;omega)) ?_;refine fQ_ E (B6k E E E (Nat.lt_trans hpl qD) (Nat.lt_trans hsm qD)) ?_;refine fQ_ E (F7 (e:=130) (n:=5) (sz:=1) (i:=i/51) E E kR kR E qO) ?_;refine G3 E E E (K4 (i/51) E E kR qO (by rw [P6];omega) Cv ?_);refine U0 (nb (nx (D7 0 2 3 9) (C1 ?_)));refine lQ_ (D2 ((i+1:Nat):Int) E E (F5 qO qO qO)) ?_;refine mv_ (C5 ?_);exact rn (i+1) qO qO (D7 0 2 3 9) (Cg (by rw [hps])) qI
  .
   have hlt:i=255:=by simp at hc;omega
   subst hlt;refine D6 (te (re (be E (nx (D0 2 3) (A1 ?_)))));refine lQ_ (H0 (n:=5) (cs:=nums .u64 (A07 51 5 (bv p) 255)) E kR Ce (by rw [nums_len,P6])) ?_;refine A2 E (A5 (vs:=nums .u64 (A07 51 5 (bv p) 255)) E E E (by rw [nums_len,P6];kernel_rfl) (by rw [nums_len,P6];rfl) E7 Cv ?_);refine A0 (D1 2) (A9 ?_);refine ⟨_,[],[],A1l E E kR Ce (by rw [nums_len,P6]),Aa _,by simp,E,E,_,_,_,_,_,E,B3s _ _ _,B3s _ _ _,B3s _ _ _,B3s _ _ _,B3s _ _ _,?_⟩;rw [C0j,rdN,if_pos h32]
theorem A0C(v:Value)(x:Nat)(hx:Fe v x)(A:Mem):FnX prog 124 [v] [] A λr M J=>J=[]∧Sl 1 r 32 (nums .u8 (A07 8 32 x 255)) M:=by
 obtain ⟨a,b,c,d,e,rfl,ha,hb,hc,hd,he,rfl⟩:=hx;refine Cn (N:=80) func124 E E E λw=>?_;refine A8 (D1 0) (A1 ?_);refine A2 E (bx_ λb1=>?_);refine as_ (A0 (D1 1) (A1 ?_));refine lQ_ (qw_ 5) ?_;refine C6 (aS E a0) kR (V3 _ _ _ _ _ qO qO qO qO qO _) E ?_;rintro r3 M3 J3 ⟨rfl,rfl,a3,b3,c3,d3,e3,rfl,ha3,hb3,hc3,hd3,hv3,he3⟩;refine C6 (aS E a0) kR (V3 _ _ _ _ _ qO qO qO qO qO _) E ?_;rintro r4 M4 J4 ⟨rfl,rfl,a4,b4,c4,d4,e4,rfl,ha4,hb4,hc4,hd4,hv4,he4⟩;have hz4:=A4I ha3 hb3 hc3 hd3 he3 ha4 hb4 hc4 hd4 hv4;refine C6 (aS E a0) kR (V3 _ _ _ _ _ qO qO qO qO qO _) E ?_;rintro r5 M5 J5 ⟨rfl,rfl,a5,b5,c5,d5,e5,rfl,ha5,hb5,hc5,hd5,hv5,he5⟩;have hz5:=A4I ha4 hb4 hc4 hd4 he4 ha5 hb5 hc5 hd5 hv5;have hx5:fv a5 b5 c5 d5 e5%p25=fv a b c d e%p25:=by rw [N7 hv5,N7 hv4,N7 hv3]
 have hV5:=C2Z ha5 hb5 hc5 hd5 hz5;clear hv3 hv4 hv5 he3 he4 he5 hz4 ha3 hb3 hc3 hd3 ha4 hb4 hc4 hd4;refine A2 E (A5 E E Cf kR ln5 al5 Cv ?_);refine A0 (D1 1) (A1 (lQ_ (qi_ 0 130 5 1 0) ?_));refine lQ_ ql_ ?_;refine lQ_ (G7 18446744073709551616 (b:=19) E E E E E E) ?_;refine lQ_ (P4 51 2251799813685248 E E E E qD) ?_;refine as_ (A0 (D0 1 3) (A3 (A1 (as_ (A0 (D5 1 3 4) (A6 ?_))))));refine A0v 5 ?_;refine I2 ?_;refine A3 (A1 (mv_ ?_));refine lQ_ (F6 true E E (ltT qD)) ?_;refine A0 (D7 1 3 4 17) ?_;refine E2 E ?_;refine A4 (nx (D5 1 3 4) (A3 (A6 (C1 (mV_ E (lQ_ (qi_ 1 130 5 1 1) ?_))))));refine lQ_ ql_ ?_;refine mV_ E (lQ_ (G7 18446744073709551616 E E E E E E) ?_);refine lQ_ (P4 51 2251799813685248 E E E E qD) ?_;refine as_ (C5 (nb (nx (D5 1 3 4) (C1 (mv_ ?_)))));refine lQ_ (D2 (2:Int) E E (F5 qD qD qD)) ?_;refine as_ (C5 ?_);refine un (D5 1 3 4) ?_;refine I2 ?_;refine A3 (A1 (mv_ ?_));refine lQ_ (F6 true E E (ltT qD)) ?_;refine A0 (D7 1 3 4 17) ?_;refine E2 E ?_;refine A4 (nx (D5 1 3 4) (A3 (A6 (C1 (mV_ E (lQ_ (qi_ 2 130 5 1 2) ?_))))));refine lQ_ ql_ ?_;refine mV_ E (lQ_ (G7 18446744073709551616 E E E E E E) ?_);refine lQ_ (P4 51 2251799813685248 E E E E qD) ?_;refine as_ (C5 (nb (nx (D5 1 3 4) (C1 (mv_ ?_)))));refine lQ_ (D2 (3:Int) E E (F5 qD qD qD)) ?_;refine as_ (C5 ?_);refine un (D5 1 3 4) ?_;refine I2 ?_;refine A3 (A1 (mv_ ?_));refine lQ_ (F6 true E E (ltT qD)) ?_;refine A0 (D7 1 3 4 17) ?_;refine E2 E ?_;refine A4 (nx (D5 1 3 4) (A3 (A6 (C1 (mV_ E (lQ_ (qi_ 3 130 5 1 3) ?_))))));refine lQ_ ql_ ?_;refine mV_ E (lQ_ (G7 18446744073709551616 E E E E E E) ?_);refine lQ_ (P4 51 2251799813685248 E E E E qD) ?_;refine as_ (C5 (nb (nx (D5 1 3 4) (C1 (mv_ ?_)))));refine lQ_ (D2 (4:Int) E E (F5 qD qD qD)) ?_;refine as_ (C5 ?_);refine un (D5 1 3 4) ?_;refine I2 ?_;refine A3 (A1 (mv_ ?_));refine lQ_ (F6 true E E (ltT qD)) ?_;refine A0 (D7 1 3 4 17) ?_;refine E2 E ?_;refine A4 (nx (D5 1 3 4) (A3 (A6 (C1 (mV_ E (lQ_ (qi_ 4 130 5 1 4) ?_))))));refine lQ_ ql_ ?_;refine mV_ E (lQ_ (G7 18446744073709551616 E E E E E E) ?_);refine lQ_ (P4 51 2251799813685248 E E E E qD) ?_;refine as_ (C5 (nb (nx (D5 1 3 4) (C1 (mv_ ?_)))));refine lQ_ (D2 (5:Int) E E (F5 qD qD qD)) ?_;refine as_ (C5 ?_);refine un (D5 1 3 4) ?_;refine I2 ?_;refine A3 (A1 (mv_ ?_));refine lQ_ (F6 false E E (ltF qD)) ?_;refine A0 (D7 1 3 4 17) ?_;refine C7 E ?_;refine D6 (te (ue (be E (nx (D0 1 3) ?_))));obtain ⟨q,hqe,hq⟩:=C0h ha5 hb5 hc5 hd5 hz5;rw [<- hqe];clear hqe;refine A1 (lQ_ (qi_ 0 130 5 1 0) ?_);refine lQ_ ql_ ?_;refine mV_ E (lQ_ (P9 18446744073709551616 (a:=19) E E E E E E) (lQ_ (G7 18446744073709551616 E E E E E E) (lQ_ (qi_ 0 130 5 1 0) ?_)));refine A2 E (E1 E E E kR Ct Cv ?_);refine A0 (D1 1) (A3 (A1 (mv_ (A0 (D0 1 32) (A6 ?_)))));refine A0v 5 ?_;refine I2 ?_;refine A1 ?_;refine lQ_ (F6 true E E (ltT qD)) ?_;refine A0 (D5 1 32 33) (A3 ?_);refine E2 E ?_;refine A4 (nx (D0 1 32) (A3 (A6 (A1 (mv_ (as_ (A0 (D5 1 5 32) ?_)))))));refine C9 (.range 10) (zp 0 [0,0,0,1,0,0,1,0,0,0,2]) kR kR λhs=>?_;refine fm_ ?_;refine fQ_ E (D2 (1:Int) E E (F5 qD qD qD)) ?_;refine fQ_ E (qi_ 1 130 5 1 1) ?_;refine fR_ E ql_ ?_;refine fM_ E E (fQ_ E (qi_ 0 130 5 1 0) ?_);refine fR_ E ql_ ?_;refine fQ_ E (P4 51 2251799813685248 E E E E qD) ?_;refine fQ_ E (G7 18446744073709551616 E E E E E E) (fQ_ E (qi_ 1 130 5 1 1) ?_);refine G3 E E E (E1 E E E kR Ct Cv ?_);refine E4 (D5 1 5 32) (C1 (mV_ E (lQ_ (qi_ 0 130 5 1 0) ?_)));refine lQ_ ql_ ?_;refine lQ_ (N4 51 2251799813685248 E E E E E (by show _<18446744073709551616;first|assumption|exact Ad _ qD|omega) qD) ?_;refine lQ_ (qi_ 0 130 5 1 0) ?_
 refine A2 E (E1 E E E kR Ct Cv ?_);refine C5 (nb (nx (D0 1 32) (C1 ?_)));refine lQ_ (D2 (1:Int) E E (F5 qD qD qD)) ?_;refine mv_ (C5 ?_);refine un (D0 1 32) ?_;refine I2 ?_;refine A1 ?_;refine lQ_ (F6 true E E (ltT qD)) ?_;refine A0 (D5 1 32 33) (A3 ?_);refine E2 E ?_;refine A4 (nx (D0 1 32) (A3 (A6 (A1 (mv_ (as_ (A0 (D5 1 5 32) ?_)))))));refine C9 (.range 10) (zp 0 [0,0,0,1,0,0,1,0,0,0,2]) kR kR λhs=>?_;refine fm_ ?_;refine fQ_ E (D2 (2:Int) E E (F5 qD qD qD)) ?_;refine fQ_ E (qi_ 2 130 5 1 2) ?_;refine fR_ E ql_ ?_;refine fM_ E E (fQ_ E (qi_ 1 130 5 1 1) ?_);refine fR_ E ql_ ?_;refine fQ_ E (P4 51 2251799813685248 E E E E qD) ?_;refine fQ_ E (G7 18446744073709551616 E E E E E E) (fQ_ E (qi_ 2 130 5 1 2) ?_);refine G3 E E E (E1 E E E kR Ct Cv ?_);refine E4 (D5 1 5 32) (C1 (mV_ E (lQ_ (qi_ 1 130 5 1 1) ?_)));refine lQ_ ql_ ?_;refine lQ_ (N4 51 2251799813685248 E E E E E (by show _<18446744073709551616;first|assumption|exact Ad _ qD|omega) qD) ?_;refine lQ_ (qi_ 1 130 5 1 1) ?_;refine A2 E (E1 E E E kR Ct Cv ?_);refine C5 (nb (nx (D0 1 32) (C1 ?_)));refine lQ_ (D2 (2:Int) E E (F5 qD qD qD)) ?_;refine mv_ (C5 ?_);refine un (D0 1 32) ?_;refine I2 ?_;refine A1 ?_;refine lQ_ (F6 true E E (ltT qD)) ?_;refine A0 (D5 1 32 33) (A3 ?_);refine E2 E ?_;refine A4 (nx (D0 1 32) (A3 (A6 (A1 (mv_ (as_ (A0 (D5 1 5 32) ?_)))))));refine C9 (.range 10) (zp 0 [0,0,0,1,0,0,1,0,0,0,2]) kR kR λhs=>?_;refine fm_ ?_;refine fQ_ E (D2 (3:Int) E E (F5 qD qD qD)) ?_;refine fQ_ E (qi_ 3 130 5 1 3) ?_;refine fR_ E ql_ ?_;refine fM_ E E (fQ_ E (qi_ 2 130 5 1 2) ?_);refine fR_ E ql_ ?_;refine fQ_ E (P4 51 2251799813685248 E E E E qD) ?_;refine fQ_ E (G7 18446744073709551616 E E E E E E) (fQ_ E (qi_ 3 130 5 1 3) ?_);refine G3 E E E (E1 E E E kR Ct Cv ?_);refine E4 (D5 1 5 32) (C1 (mV_ E (lQ_ (qi_ 2 130 5 1 2) ?_)));refine lQ_ ql_ ?_;refine lQ_ (N4 51 2251799813685248 E E E E E (by show _<18446744073709551616;first|assumption|exact Ad _ qD|omega) qD) ?_;refine lQ_ (qi_ 2 130 5 1 2) ?_;refine A2 E (E1 E E E kR Ct Cv ?_);refine C5 (nb (nx (D0 1 32) (C1 ?_)));refine lQ_ (D2 (3:Int) E E (F5 qD qD qD)) ?_;refine mv_ (C5 ?_);refine un (D0 1 32) ?_;refine I2 ?_;refine A1 ?_;refine lQ_ (F6 true E E (ltT qD)) ?_;refine A0 (D5 1 32 33) (A3 ?_);refine E2 E ?_;refine A4 (nx (D0 1 32) (A3 (A6 (A1 (mv_ (as_ (A0 (D5 1 5 32) ?_)))))));refine C9 (.range 10) (zp 0 [0,0,0,1,0,0,1,0,0,0,2]) kR kR λhs=>?_;refine fm_ ?_;refine fQ_ E (D2 (4:Int) E E (F5 qD qD qD)) ?_;refine fQ_ E (qi_ 4 130 5 1 4) ?_;refine fR_ E ql_ ?_;refine fM_ E E (fQ_ E (qi_ 3 130 5 1 3) ?_);refine fR_ E ql_ ?_;refine fQ_ E (P4 51 2251799813685248 E E E E qD) ?_;refine fQ_ E (G7 18446744073709551616 E E E E E E) (fQ_ E (qi_ 4 130 5 1 4) ?_);refine G3 E E E (E1 E E E kR Ct Cv ?_);refine E4 (D5 1 5 32) (C1 (mV_ E (lQ_ (qi_ 3 130 5 1 3) ?_)));refine lQ_ ql_ ?_;refine lQ_ (N4 51 2251799813685248 E E E E E (by show _<18446744073709551616;first|assumption|exact Ad _ qD|omega) qD) ?_;refine lQ_ (qi_ 3 130 5 1 3) ?_;refine A2 E (E1 E E E kR Ct Cv ?_);refine C5 (nb (nx (D0 1 32) (C1 ?_)));refine lQ_ (D2 (4:Int) E E (F5 qD qD qD)) ?_;refine mv_ (C5 ?_);refine un (D0 1 32) ?_;refine I2 ?_;refine A1 ?_;refine lQ_ (F6 false E E (ltF qD)) ?_;refine A0 (D5 1 32 33) (A3 ?_);refine C7 E ?_;refine D6 (te (ue (be E (nx (D1 1) (A1 (lQ_ (qi_ 4 130 5 1 4) ?_))))));refine lQ_ ql_ ?_;refine lQ_ (N4 51 2251799813685248 E E E E E (by show _<18446744073709551616;first|assumption|exact Ad _ qD|omega) qD) ?_;refine lQ_ (qi_ 4 130 5 1 4) ?_
 refine A2 E (E1 E E E kR Ct Cv ?_);refine A0 (D1 1) (A1 ?_);refine A2 E (A0S (e:=5) (k:=.u8) (by_:=1) 32 E E kR E E qD qD E λb55=>?_);obtain ⟨f0,f1,f2,f3,f4,g0,g1,g2,g3,g4,k0,k1,k2,k3,k4,hF⟩:=B3m ha5 hb5 hc5 hd5 hz5 hq;rw [<- g0,<- g1,<- g2,<- g3,<- g4];clear g0 g1 g2 g3 g4;rw [hx5] at hF;refine as_ (A0 (D0 1 6) (A3 (A1 (mv_ (A0 (D5 1 6 56) (A6 ?_))))));refine A0X (M':=[(b55,blk (nums .u8 (A07 8 32 (fv f0 f1 f2 f3 f4) 0)) 5),(b1,blk (nums .u64 [f0,f1,f2,f3,f4]) 193)]) (Cg (by rw [A4L];rfl)) qI ?_;have hN:=C20 k0 k1 k2 k3 k4;have hfl:[f0,f1,f2,f3,f4].length=5:=rfl;have hfb:∀x∈[f0,f1,f2,f3,f4],x<2251799813685248:=by intro x hx;simp only [Cz,Da,or_false] at hx;rcases hx with rfl|rfl|rfl|rfl|rfl<;>assumption
 generalize [f0,f1,f2,f3,f4]=fs at *;rw [<- hF];generalize fv f0 f1 f2 f3 f4=X at *;refine E0 (α:=Nat) (λi=>[(1,(vP b1)),(6,.slice (some ⟨b55,0,none⟩) 32 32),(56,.int .i64 (i:Int))]) (λi=>[(b55,blk (nums .u8 (A07 8 32 X i)) 5),(b1,blk (nums .u64 fs) 193)]) (λ_=>[]) (λi=>i<=255) (λi=>255-i) 0 qD (D5 1 6 56) .rfl qI ?_;rintro i hi;refine A1 (lQ_ (E3 E E E) (A0 (D7 1 6 56 57) (A3 ?_)));refine C2 E ?_ ?_<;>intro hc
 .
  have hlt:i<255:=by simp at hc;omega
  have hbit:=hN i hlt;rw [<- Cb] at hbit;have hb2:X/2^i%2<2:=Ad _ qD;have hps:=A4M (w:=8) (n:=32) (N:=X) (i:=i) qD qO;have hpg:=A2Z (w:=8) (n:=32) (N:=X) (i:=i) (j:=i/8) qO;have hpl:=A9O 8 X i (i/8);have hsm:=A4N (w:=8) hb2 (Ad i (by decide:0<8));have hpb:fs.getD (i/51) 0<2251799813685248:=getD_lt hfb qD;have hsr:=Nat.shiftRight_le (fs.getD (i/51) 0) (i%51);rw [<- hpg] at hps hpl;generalize X/2^i%2=bt at *;have hmo:bt <<< (i%8)%2^IntKind.u8.bits=bt <<< (i%8):=Af hsm;have hto:IntKind.u8.wrap (bt:Int)=(bt:Int):=by rw [C2t,Af qO]
  refine A4 (nx (D5 1 6 56) (A3 (A6 (A1 (mv_ (as_ (A0 (D7 1 6 7 56) ?_)))))));refine I1 (.range 19) (zp 0 [0,0,0,0,1,0,0,0,1,0,0,0,0,0,0,0,0,0,0,2]) kR kR λhs=>?_;refine fM_ E E (fm_ ?_);refine fQ_ E (A1A 8 E E E qD (A2E qO)) ?_;refine fQ_ E (L6 (e:=5) (sz:=1) (i:=i/8) E E kR kR E qO) ?_;refine fR_ E (H9 (i/8) E kR Ce qO (by rw [P6];omega)) ?_;refine fm_ ?_;refine fQ_ E (A1A 51 E E E qD (A2E qO)) ?_;refine fQ_ E (F7 (e:=130) (n:=5) (sz:=1) (i:=i/51) E E kR kR E qO) ?_;refine fR_ E (H9 (i/51) E kR Ce qO qO) ?_;refine fm_ ?_;refine fQ_ E (A1B 51 E E E qD) ?_;refine fQ_ E (T9 (i%51) E E E (by show _<=64;omega)) ?_;refine fQ_ E (hbit▸N4 1 2 E E E E E (by show _<18446744073709551616;omega) qD) ?_;refine fQ_ E (K2 bt E kR hto) (fm_ ?_);refine fQ_ E (A1B 8 E E E qD) ?_;refine fQ_ E (hmo▸A3A E (i%8) E E E (by show _<=8;omega)) ?_;refine fQ_ E (B6k E E E hpl hsm) ?_;refine fQ_ E (L6 (e:=5) (sz:=1) (i:=i/8) E E kR kR E qO) ?_;refine G3 E E E (K4 (i/8) E E kR qO (by rw [P6];omega) Cv ?_);refine U0 (nb (nx (D5 1 6 56) (C1 ?_)));refine lQ_ (D2 ((i+1:Nat):Int) E E (F5 qO qO qO)) ?_;refine mv_ (C5 ?_);exact rn (i+1) qO qO (D5 1 6 56) (Cg (by rw [hps])) qI
 .
  have hlt:i=255:=by simp at hc;omega
  subst hlt;refine D6 (te (re (be E (nx (D1 6) (A1 (mV_ E (aS_ E (A0 (D1 2) (A9 ?_)))))))));exact ⟨_,[_],[],H2 E E,List.Sublist.cons_cons _ (Aa _),by simp,E,Sl.fresh (by rw [nums_len,P6]) qD⟩

variable{x:Nat}
theorem B7b{y:Nat}(hx:x<p25)(hy:y<p25):((txt (A07 8 32 x 255)).toList==(txt (A07 8 32 y 255)).toList)=decide (x=y):=by
  by_cases h:x=y
  . subst h;simp
  . have:(txt (A07 8 32 x 255)).toList≠(txt (A07 8 32 y 255)).toList:=by rw [ByteArray.toList_eq,ByteArray.toList_eq];intro e;refine h (B7a hx hy (A8D (A1d x 255) (A1d y 255) ?_));have:=congrArg List.toArray e;simp only [Array.toArray_toList] at this;unfold txt at this ⊢;exact congrArg ByteArray.mk this
    rw [beq_false_of_ne this];simp [h]
theorem A02(v u:Value)(x y:Nat)(hx:Fe v x)(hy:Fe u y)(A:Mem):FnV prog 179 [v,u] A (.bool (decide (x=y))):=by have hx0:=hx;have hxl:=hx.lt;obtain ⟨a,b,c,d,e,rfl,-⟩:=hx;have hy0:=hy;have hyl:=hy.lt;obtain ⟨a2,b2,c2,d2,e2,rfl,-⟩:=hy;refine Cn (N:=12) func179 E E E λw=>?_;refine A8 (D0 0 1) (A1 ?_);refine A2 E (bx_ λb2=>?_);refine A2 E (bx_ λb3=>?_);refine as_ (A0 (D0 2 3) ?_);refine C9 (.range 8) [(0,1),(3,1),(1,2),(2,1),(4,2),(5,1),(6,0),(7,0)] kR kR λhs=>?_;refine fR_ E (qw_ 5) ?_;refine fR_ E (qw_ 5) ?_;refine G5 E (aS E a0) kR (A0C _ _ hx0 _) E ?_;rintro r1 M1 J1 ⟨rfl,h1⟩;refine fR_ E (A4o (h1.rd λ_ h=>by simp [h]) E kR) ?_;refine G5 E (aS E a0) kR (A0C _ _ hy0 _) E ?_;rintro r2 M2 J2 ⟨rfl,h2⟩;refine fR_ E (A4o (h2.rd λ_ h=>by simp [h]) E kR) ?_;refine fQ_ E (B1F E E) (fA_ E E (E4 (D1 4) (A9 ?_)));refine ⟨_,[],[],H2 E E,Aa _,by simp,by rw [B7b hxl hyl],E,E⟩
theorem B02(v:Value)(x:Nat)(hx:Fe v x)(A:Mem):FnV prog 176 [v] A (.bool (decide (x=0))):=by have hx0:=hx;have hxl:=hx.lt;obtain ⟨a,b,c,d,e,rfl,-⟩:=hx;refine Cn (N:=6) func176 E E E λw=>?_;refine A8 (D1 0) (A1 ?_);refine A2 E (bx_ λb1=>?_);refine as_ (A0 (D1 1) (A1 ?_));refine lQ_ (qw_ 5) ?_;refine lQ_ (E6 (place:=λi=>some (i*1,1)) (z:=[C0,C0,C0,C0,C0]) (λ_=>by kernel_rfl) e0 bd0) ?_;refine D8 (aS E (aS E a0)) kR (A02 _ _ _ _ hx0 L2 _) E ?_;refine as_ (A0 (D1 2) (A9 ?_));refine ⟨_,[],[],H2 E E,Aa _,by simp,E,E,E⟩
theorem A4O(v:Value)(x:Nat)(hx:Fe v x)(A:Mem):FnV prog 144 [v] A (.bool (decide (x%2=1))):=by
 have hx0:=hx;have hxl:=hx.lt;obtain ⟨a,b,c,d,e,rfl,-⟩:=hx;refine Cn (N:=9) func144 E E E λw=>?_;refine A8 (D1 0) (A1 ?_);refine A2 E (bx_ λb1=>?_);refine as_ (A0 (D1 1) (A1 ?_));refine lQ_ (qw_ 5) ?_;refine C6 (aS E a0) kR (A0C _ _ hx0 _) E ?_;rintro r1 M1 J1 ⟨rfl,h1⟩;refine lQ_ (B6o (h1.rd λ_ h=>h) E E kR 0 E qD) ?_;refine lQ_ (A5A (h1.rd λ_ h=>by simp [h]) E kR qD) ?_;refine lQ_ (N4 1 2 E E E E E (getD_lt (A1d x 255) qD) qD) ?_;refine lQ_ (E3 E E E) (as_ (A0 (D1 2) (A9 ?_)));refine ⟨_,[],[],H2 E E,Aa _,by simp,?_,E,E⟩;rw [A2Z qD,prt];simp only [Nat.reducePow,Nat.reduceMul,Nat.div_one];congr 1;unfold p25 at hxl;have e:x%57896044618658097711785492504343953926634992332820282019728792003956564819968%256%2=x%2:=by omega
 rw [e];rcases Nat.mod_two_eq_zero_or_one x with h|h<;>rw [h]<;>rfl

def pwE(x N i:Nat):Nat:=x^(N/2^i)%p25
theorem B7c(x N i:Nat):pwE x N i=(if N/2^i%2=1 then pwE x N (i+1)*pwE x N (i+1)%p25*(x%p25)%p25 else pwE x N (i+1)*pwE x N (i+1)%p25):=by
  have h:N/2^i=2*(N/2^(i+1))+N/2^i%2:=by rw [Nat.pow_succ,<- Bw];omega
  unfold pwE;have hb:N/2^i%2=0∨N/2^i%2=1:=by omega
  rcases hb with hb|hb
  . rw [if_neg qO]
    conv=>lhs;rw [h,hb,Nat.add_zero,Nat.two_mul,Nat.pow_add,Nat.mul_mod]
  . rw [if_pos hb]
    conv=>lhs;rw [h,hb,Nat.two_mul,Nat.pow_add,Nat.pow_add,Nat.pow_one,Nat.mul_mod,Nat.mul_mod (x^_)]
theorem A2p(v:Value)(x:Nat)(hx:Fe v x)(es:LN)(hes:es.length=32)(he256:∀y∈es,y<256)(A:Mem):FnX prog 158 [v,.agg (nums .u8 es).toArray] [] A λr M J=>M=[]∧J=[]∧Fe r (x^bv es%p25):=by
 have hx0:=hx;have hxl:=hx.lt;obtain ⟨a,b,c,d,e,rfl,-⟩:=hx;refine Cn (N:=27) func158 E E E λw=>?_;refine A8 (D0 0 1) (A1 ?_);refine A2 E (bx_ λb2=>?_);refine A2 E (bx_ λb3=>?_);refine A2 E (C3 (cs:=[C0,C0,C0,C0,C0]) kR E λb4=>?_);refine A0 (D5 2 3 4) (A1 ?_);refine C6 (aS E a0) kR (A4K 1 qD _) E ?_;rintro r1 M1 J1 ⟨rfl,rfl,hr1⟩;have hr10:=hr1;obtain ⟨o0,o1,o2,o3,o4,rfl,-⟩:=hr1;refine A2 E (C3 (cs:=[C0,C0,C0,C0,C0]) kR E λb5=>?_);refine A2 E (A5 E E Cf kR ln5 al5 Cv ?_);refine A0 (D7 2 3 4 5) (A3 (A1 (as_ (A0 (E9 2 3 4 5 6) (A6 ?_)))));refine E0 (α:=Nat×Nat×Nat×Nat×Nat×Nat) (λy=>[(2,(vP b2)),(3,(vP b3)),(4,(vP b4)),(5,(vP b5)),(6,.int .i64 ((y.1:Int)-1))]) (λy=>[(b5,blk [.int .u64 (y.2.1:Int),.int .u64 (y.2.2.1:Int),.int .u64 (y.2.2.2.1:Int),.int .u64 (y.2.2.2.2.1:Int),.int .u64 (y.2.2.2.2.2:Int)] 193),(b4,blk [C0,C0,C0,C0,C0] 193),(b3,blk (nums .u8 es) 198),(b2,blk [.int .u64 (a:Int),.int .u64 (b:Int),.int .u64 (c:Int),.int .u64 (d:Int),.int .u64 (e:Int)] 193)]) (λ_=>[]) (λy=>y.1<=256∧Fe (el y.2.1 y.2.2.1 y.2.2.2.1 y.2.2.2.2.1 y.2.2.2.2.2) (pwE x (bv es) y.1)) (λy=>y.1) (256,o0,o1,o2,o3,o4) ⟨Av _,by rw [show pwE x (bv es) 256=1 by unfold pwE;rw [Nat.div_eq_of_lt (by have:=C25 he256;rw [hes] at this;exact this)];rfl];exact hr10⟩ (E9 2 3 4 5 6) .rfl qI ?_;rintro ⟨j,o0,o1,o2,o3,o4⟩ ⟨hj,ho⟩;dsimp only at hj ho ⊢;refine A3 (A1 (mV_ E (lQ_ (E3 E E E) (A0 (G9 2 3 4 5 6 9) ?_))));refine C2 E ?_ ?_<;>intro hc
 .
  have hj0:0<j:=by simp at hc;omega
  obtain ⟨i,rfl⟩:∃i,j=i+1:=⟨j-1,by omega⟩
  have ei:((i+1:Nat):Int)-1=(i:Int):=by omega
  rw [ei];have hps:=B7c x (bv es) i;have hbit:=A7X he256 i;rw [<- Cb] at hbit;have hpb:es.getD (i/8) 0<256:=getD_lt he256 qD;have hsr:=Nat.shiftRight_le (es.getD (i/8) 0) (i%8);have hbt:bv es/2^i%2<2:=Ad _ qD;generalize bv es/2^i%2=bt at *;refine A4 (nx (E9 2 3 4 5 6) (A3 (A6 (A1 ?_))));refine lQ_ (qw_ 5) ?_;refine C6 (aS E a0) kR (A0O _ _ ho _) E ?_;rintro r2 M2 J2 ⟨rfl,rfl,hr2⟩;have hr20:=hr2;obtain ⟨s0,s1,s2,s3,s4,rfl,-⟩:=hr2;refine A2 E (A5 E E Cf kR ln5 al5 Cv ?_);refine A0 (E9 2 3 4 5 6) (A1 (mv_ ?_));refine lQ_ (A1A 8 E E E qD (A2E qO)) ?_;refine lQ_ (F7 (e:=5) (n:=32) (sz:=1) (i:=i/8) E E kR kR E qO) ?_;refine lQ_ (H9 (i/8) E kR Ce qO qO) ?_;refine mv_ ?_;refine lQ_ (A1B 8 E E E qD) ?_;refine lQ_ (T9 (i%8) E E E (by show _<=8;omega)) ?_;refine lQ_ (hbit▸N4 1 2 E E E E E (by show _<256;omega) qD) ?_;refine lQ_ (E3 E E E) (A0 (G9 2 3 4 5 6 22) ?_);refine C2 E ?_ ?_<;>intro hc
  .
   have hb1:bt=1:=by simp at hc;omega
   rw [if_pos hb1] at hps;refine C1 ?_;refine lQ_ (qw_ 5) ?_;refine lQ_ (qw_ 5) ?_;refine C6 (aS E (aS E a0)) kR (A2Y _ _ _ _ hr20 hx0 _) E ?_;rintro r3 M3 J3 ⟨rfl,rfl,hr3⟩;rw [Af hxl] at hps;rw [<- hps] at hr3;have hr30:=hr3;obtain ⟨t0,t1,t2,t3,t4,rfl,-⟩:=hr3;refine A2 E (A5 E E Cf kR ln5 al5 Cv ?_);refine C5 (nb (nx (E9 2 3 4 5 6) (C1 (mv_ ?_))));refine lQ_ (D2 ((i:Int)-1) E E (V6 E qO qO)) ?_;refine as_ (C5 ?_);exact rn (i,t0,t1,t2,t3,t4) ⟨by dsimp only;omega,hr30⟩ (by dsimp only;omega) (E9 2 3 4 5 6) .rfl qI
  .
   have hb1:¬bt=1:=by simp at hc;omega
   rw [if_neg hb1] at hps;refine A4 (nb (nx (E9 2 3 4 5 6) (C1 (mv_ ?_))));refine lQ_ (D2 ((i:Int)-1) E E (V6 E qO qO)) ?_;refine as_ (C5 ?_);exact rn (i,s0,s1,s2,s3,s4) ⟨by dsimp only;omega,by dsimp only;rw [hps];exact hr20⟩ (by dsimp only;omega) (E9 2 3 4 5 6) .rfl qI
 .
  have hj0:j=0:=by simp at hc;omega
  subst hj0;refine D6 (te (re (be E (nx (D0 4 5) (A1 ?_)))));refine lQ_ (qw_ 5) ?_;refine A2 E (A5 E E Cf kR ln5 al5 Cv ?_);refine A0 (D1 4) (A9 ?_);refine ⟨_,[],[],A1l E E kR Ce qR,Aa _,by simp,E,E,?_⟩;have:pwE x (bv es) 0=x^bv es%p25:=by unfold pwE;rw [Nat.pow_zero,Nat.div_one]
  rw [<- this];exact ho

variable{n:Nat}
theorem B7d{i:Nat}(h:i<n):(2^n-1)/2^i%2=1:=by have:=Nat.testBit_two_pow_sub_one n i;rw [Nat.testBit_eq_decide_div_mod_eq] at this;simpa [h] using this
theorem B3t(h:8<=n):(A07 8 32 (2^n-1) n).getD 0 0=255:=by
  rw [A2Z qD,prt,Nat.mul_zero,Nat.pow_zero,Nat.div_one]
  obtain ⟨m,rfl⟩:∃m,n=m+8:=⟨n-8,by omega⟩
  have h1:=Ca m;have e:(2^(m+8)-1)%2^(m+8)=2^(m+8)-1:=Af (Nat.sub_lt (Ca _) qD);rw [e,Nat.pow_add];simp only [Nat.reducePow];omega
theorem C0k{p:LN}(x:Nat)(h:0<p.length):bv (p.set 0 x)+p.getD 0 0=bv p+x:=by
  cases p with
  | nil=>simp at h
  | cons b r=>simp [bv];omega
theorem B3u(N n:Nat)(h:n<=256):bv (A07 8 32 N n)=N%2^n:=by unfold A07 prt;rw [A20,Af];exact Bp (Ad _ (Ca _)) (Br qD qO)
theorem A4P(n d:Nat)(hn:8<=n)(hn2:n<=256)(hd:1<d)(hd2:d<=256)(A:Mem):FnX prog 159 [.int .i64 (n:Int),.int .u16 (d:Int)] [] A λr M J=>M=[]∧J=[]∧∃es:LN,r=.agg (nums .u8 es).toArray∧es.length=32∧(∀y∈es,y<256)∧bv es=2^n-d:=by
  refine Cn (N:=47) func159 E E E λw=>?_;refine A8 (D0 0 1) (A1 ?_);refine A2 E (C3 (cs:=[zu8,zu8,zu8,zu8,zu8,zu8,zu8,zu8,zu8,zu8,zu8,zu8,zu8,zu8,zu8,zu8,zu8,zu8,zu8,zu8,zu8,zu8,zu8,zu8,zu8,zu8,zu8,zu8,zu8,zu8,zu8,zu8]) kR E λb4=>?_);refine A0 (D5 0 1 4) (A1 ?_);refine A2 E (C3 (cs:=[zu8,zu8,zu8,zu8,zu8,zu8,zu8,zu8,zu8,zu8,zu8,zu8,zu8,zu8,zu8,zu8,zu8,zu8,zu8,zu8,zu8,zu8,zu8,zu8,zu8,zu8,zu8,zu8,zu8,zu8,zu8,zu8]) kR E λb5=>?_);refine A0 (D7 0 1 4 5) (A3 (A1 (mv_ (mv_ (A0 (E9 1 4 5 9 10) (A6 ?_))))));refine A0X (M':=[(b5,blk (nums .u8 (A07 8 32 (2^n-1) 0)) 198),(b4,blk [zu8,zu8,zu8,zu8,zu8,zu8,zu8,zu8,zu8,zu8,zu8,zu8,zu8,zu8,zu8,zu8,zu8,zu8,zu8,zu8,zu8,zu8,zu8,zu8,zu8,zu8,zu8,zu8,zu8,zu8,zu8,zu8] 198)]) (Cg (by rw [A4L];rfl)) qI ?_;refine E0 (α:=Nat) (λi=>[(1,.int .u16 (d:Int)),(4,(vP b4)),(5,(vP b5)),(9,.int .i64 (n:Int)),(10,.int .i64 (i:Int))]) (λi=>[(b5,blk (nums .u8 (A07 8 32 (2^n-1) i)) 198),(b4,blk [zu8,zu8,zu8,zu8,zu8,zu8,zu8,zu8,zu8,zu8,zu8,zu8,zu8,zu8,zu8,zu8,zu8,zu8,zu8,zu8,zu8,zu8,zu8,zu8,zu8,zu8,zu8,zu8,zu8,zu8,zu8,zu8] 198)]) (λ_=>[]) (λi=>i<=n) (λi=>n-i) 0 (Am _) (E9 1 4 5 9 10) .rfl qI ?_;rintro i hi;refine A1 (lQ_ (E3 E E E) (A0 (G9 1 4 5 9 10 11) (A3 ?_)));refine C2 E ?_ ?_<;>intro hc
  .
    have hlt:i<n:=by simp at hc;omega
    have hps:=A4M (w:=8) (n:=32) (N:=2^n-1) (i:=i) qD qO;have hpg:=A2Z (w:=8) (n:=32) (N:=2^n-1) (i:=i) (j:=i/8) qO;have hpl:=A9O 8 (2^n-1) i (i/8);rw [B7d hlt] at hps;rw [<- hpg] at hps hpl;have hsm:=A4N (b:=1) (w:=8) qD (Ad i (by decide:0<8));have hmo:1 <<< (i%8)%2^IntKind.u8.bits=1 <<< (i%8):=Af hsm;refine A4 (nx (E9 1 4 5 9 10) (A3 (A6 (A1 (mv_ (as_ (A0 (G9 1 4 5 6 9 10) ?_)))))));refine I1 (.range 9) (zp 0 [0,0,0,1,0,0,0,0,0,2]) kR kR λhs=>?_;refine fm_ ?_;refine fQ_ E (A1A 8 E E E qD (A2E qO)) ?_;refine fQ_ E (F7 (e:=5) (n:=32) (sz:=1) (i:=i/8) E E kR kR E qO) ?_;refine fR_ E (H9 (i/8) E kR Ce qO (by rw [P6];omega)) ?_;refine fm_ ?_;refine fQ_ E (A1B 8 E E E qD) ?_;refine fQ_ E (hmo▸A3A (a:=1) E (i%8) E E E (by show _<=8;omega)) ?_;refine fQ_ E (B6k E E E hpl hsm) ?_;refine fQ_ E (F7 (e:=5) (n:=32) (sz:=1) (i:=i/8) E E kR kR E qO) ?_;refine G3 E E E (K4 (i/8) E E kR qO (by rw [P6];omega) Cv ?_);refine U0 (nb (nx (E9 1 4 5 9 10) (C1 ?_)));refine lQ_ (D2 ((i+1:Nat):Int) E E (F5 qO qO qO)) ?_;refine mv_ (C5 ?_);exact rn (i+1) qO qO (E9 1 4 5 9 10) (Cg (by rw [hps])) qI
  .
    have hlt:i=n:=by simp at hc;omega
    subst hlt;refine D6 (te (re (be E (nx (D5 1 4 5) ?_))));have hhd:=B3t (n:=i) qO;have hbn:=B3u (2^i-1) i qO;have hpl:=P6 8 32 (2^i-1) i;have hpw:256<=2^i:=(show 256=2^8 from rfl)▸Br qD qO;refine A1 (mv_ ?_);refine lQ_ (B8z 65536 (b:=1) E E E E E E qO qO) ?_;refine as_ (A0 (D5 1 4 5) (A3 (A1 (as_ (A0 (D7 1 4 5 7) (A6 ?_))))));refine A0v 3 ?_;refine I2 ?_;refine A3 (A1 (mv_ ?_));refine lQ_ (F6 true E E (gtT qO)) ?_;refine A0 (E9 1 4 5 7 26) ?_;refine E2 E ?_;refine A4 (nx (D7 1 4 5 7) (A3 (A6 (A1 (mV_ E (lQ_ (qi_ 0 5 32 1 0) ?_))))));refine lQ_ (hhd▸H9 0 E kR Ce E qO) ?_;refine lQ_ (K2 (k':=.u16) 255 E kR qD) ?_;refine mv_ ?_;refine lQ_ (N4 8 256 E E E E E (by show _<65536;first|assumption|exact Ad _ qD|omega) qD) ?_;refine lQ_ (B8z 65536 (a:=255) E E E E E E qD qO) ?_;refine aS_ E (A0 (E9 1 4 5 7 8) (A1 (mV_ E (mV_ E (lQ_ (A12 E kR) (lQ_ (qi_ 0 5 32 1 0) ?_))))));refine A2 E (K4 0 E E kR E qO Cv ?_);refine A0 (E9 1 4 5 7 8) (A1 (mv_ ?_));refine lQ_ (P4 8 256 E E E E qD) ?_;refine as_ (A0 (E9 1 4 5 7 8) (A1 (mv_ ?_)));refine lQ_ (F6 false E E (gtF qO)) ?_;refine A0 (E9 1 4 5 7 43) ?_;refine C7 E ?_;refine A4 (nb (nx (D7 1 4 5 7) (C1 (mv_ ?_))));refine lQ_ (D2 (1:Int) E E (F5 qD qD qD)) ?_;refine as_ (C5 ?_);refine un (D7 1 4 5 7) ?_;refine I2 ?_;refine A3 (A1 (mv_ ?_));refine lQ_ (F6 false E E (gtF qO)) ?_;refine A0 (E9 1 4 5 7 26) ?_;refine C7 E ?_;refine D6 (te (ue (be E (nx (D0 4 5) (A1 ?_)))));refine lQ_ (H0 (n:=32) (cs:=nums .u8 ((A07 8 32 (2^i-1) i).set 0 ((255-(d-1)%256)%256))) E kR Ce (by rw [nums_len,Bk,hpl])) ?_;refine A2 E (A5 (vs:=nums .u8 ((A07 8 32 (2^i-1) i).set 0 ((255-(d-1)%256)%256))) E E E (by rw [nums_len,Bk,hpl];kernel_rfl) (by rw [nums_len,Bk,hpl];rfl) E7 Cv ?_);refine A0 (D1 4) (A9 ?_);refine ⟨_,[],[],A1l E E kR Ce (by rw [nums_len,Bk,hpl]),Aa _,by simp,E,E,_,E,by rw [Bk,hpl],?_,?_⟩
    . intro y hy;rcases Bf hy with h|rfl
      . exact A1d _ _ y h
      . exact Ad _ qD
    . have h0:=C0k (p:=A07 8 32 (2^i-1) i) ((255-(d-1)%256)%256) qO;rw [hhd,hbn,Af (a:=2^i-1) qO] at h0;omega
theorem B3v(v:Value)(x:Nat)(hx:Fe v x)(A:Mem):FnX prog 126 [v] [] A λr M J=>M=[]∧J=[]∧∃n,n+1=p25-1∧Fe r (x^n%p25):=by
 have hx0:=hx;obtain ⟨a,b,c,d,e,rfl,-⟩:=hx;refine Cn (N:=6) func126 E E E λw=>?_;refine A8 (D1 0) (A1 ?_);refine A2 E (bx_ λb1=>?_);refine A2 E (C3 (cs:=[C0,C0,C0,C0,C0]) kR E λb2=>?_);refine A0 (D0 1 2) ?_;refine C9 [0,1,2] [(0,1),(1,2),(2,2),(3,2)] kR kR λhs=>?_;refine fR_ E (qw_ 5) ?_;refine G5 E (aS E (aS E a0)) kR (A4P 255 21 qD qD qD qD _) E ?_;rintro rn1 Mn Jn ⟨rfl,rfl,es,rfl,hel,he256,hbv⟩;refine G5 E (aS E (aS E a0)) kR (A2p _ _ hx0 es hel he256 _) E ?_;rintro r1 M1 J1 ⟨rfl,rfl,hr⟩;have hbv1:bv es+1=p25-1:=by rw [hbv];decide
 have hr0:=hr;obtain ⟨a1,b1,c1,d1,e1,rfl,-⟩:=hr;refine G3 E E E (A5 E E Cf kR ln5 al5 Cv ?_);refine E4 (D1 2) (A9 ?_);exact ⟨_,[],[],A1l E E kR Ce qR,Aa _,by simp,E,E,_,hbv1,hr0⟩
def rtp(x n:Nat):Nat:=x^n%p25
def rt1(x:Nat):Nat:=rtp x (2^252-2)
def rt2(x:Nat):Nat:=rt1 x*rtp 2 (2^253-5)%p25
theorem B3w{m:Nat}(h:n=m):x^n%p25=rtp x m:=by subst h;rfl
theorem C26(h:n=2^252-2):x^n%p25=rt1 x:=by unfold rt1;exact B3w h
def Rt(r:Value)(x:Nat):Prop:=∃u b,r=.tuple #[u,.bool b]∧((rt1 x*rt1 x%p25=x∧b=true∧Fe u (rt1 x))∨(rt1 x*rt1 x%p25≠x∧rt2 x*rt2 x%p25=x∧b=true∧Fe u (rt2 x))∨(rt1 x*rt1 x%p25≠x∧rt2 x*rt2 x%p25≠x∧b=false∧Fe u 0))
theorem B03(v:Value)(x:Nat)(hx:Fe v x)(A:Mem):FnX prog 175 [v] [] A λr M J=>M=[]∧J=[]∧Rt r x:=by
 have hx0:=hx;obtain ⟨a,b,c,d,e,rfl,-⟩:=hx;refine Cn (N:=24) func175 E E E λw=>?_;refine A8 (D1 0) (A1 ?_);refine A2 E (bx_ λb1=>?_);refine A2 E (C3 (cs:=[C0,C0,C0,C0,C0]) kR E λb2=>?_);refine as_ (A0 (D0 1 2) ?_);refine C9 [0,1,2,3] (zp 0 [1,3,3,4,2]) kR kR λhs=>?_;refine fR_ E (qw_ 5) ?_
 refine N5 [⟨1,6,λv B _=>B=[]∧∃es:LN,v=.agg (nums .u8 es).toArray∧es.length=32∧(∀y∈es,y<256)∧bv es=2^252-2⟩,⟨2,7,λv B _=>B=[]∧Fe v (rt1 x)⟩,⟨3,4,λv B _=>∃b,v=(vP b)∧B=[(b,blk [C0,C0,C0,C0,C0] 193)]⟩]
  gA nd_ nd_ dl_
  (gO ?_ (gO ?_ (gO ?_ (K5)))) ?_
 .
  intros
  refine D9 (aS E (aS E a0)) kR (A4P 252 2 qD qD qD qD _) E ?_;rintro r M1 J1 ⟨rfl,rfl,hh⟩;exact ⟨_,E,E,hh⟩
 . intro _ _ _ _ _ ha;have g1:=gx 0 ha;dsimp only at g1;obtain ⟨-,es,hes,hel,he256,hbv⟩:=g1;refine D9 (aS E (aS (by rw [<- hes];rfl) a0)) kR (A2p _ _ hx0 es hel he256 _) E ?_;rintro r M1 J1 ⟨rfl,rfl,hh⟩;rw [C26 hbv] at hh;exact ⟨_,E,E,hh⟩
 .
  intros
  exact C3 (cs:=[C0,C0,C0,C0,C0]) kR E λb=>⟨_,E,b,E,E⟩
 intro vs bs Jn0 hφ;have g1:=gy 0 hφ;have g2:=gy 1 hφ;have g3:=gy 2 hφ;dsimp only at g1 g2 g3;clear hφ;dsimp only [V0,Q6,List.map,List.flatten,Cy,Cw];generalize bs 1=B6,bs 2=B7,bs 3=B4,vs 1=u6,vs 2=u7,vs 3=u4 at *;obtain ⟨rfl,-⟩:=g1;obtain ⟨rfl,hr0⟩:=g2;obtain ⟨b4,rfl,rfl⟩:=g3;have hr:=hr0;obtain ⟨a1,b1,c1,d1,e1,rfl,-⟩:=hr;dsimp only [List.append_eq,Cw,Cy];refine G3 E E E (A5 E E Cf kR ln5 al5 Cv ?_);refine E4 (D5 1 2 4) (A3 ?_);refine C9 [0,1,2,3] [(0,1),(2,1),(1,2),(3,2)] kR kR λhs=>?_;refine fR_ E (qw_ 5) ?_;refine fR_ E (qw_ 5) ?_;refine G5 E (aS E a0) kR (A0O _ _ hr0 _) E ?_;rintro r2 M2 J2 ⟨rfl,rfl,hr2⟩;have hr20:=hr2;obtain ⟨a2,b2,c2,d2,e2,rfl,-⟩:=hr2;refine N3 E (aS E (aS E a0)) kR (A02 _ _ _ _ hr20 hx0 _) E ?_;refine E4 (D7 1 2 4 11) ?_;refine C2 E ?_ ?_<;>intro hc
 .
  have h1:rt1 x*rt1 x%p25=x:=by simpa using hc
  refine A1 ?_;refine lQ_ (qw_ 5) ?_;refine A2 E (A5 E E Cf kR ln5 al5 Cv ?_);refine as_ (A0 (D0 2 3) (A9 (tr ?_)));exact ⟨_,[],[],A0e E E E kR Ce qR,Aa _,by simp,E,E,_,_,E,.inl ⟨h1,E,hr0⟩⟩
 .
  have h1:rt1 x*rt1 x%p25≠x:=by simpa using hc
  refine A4 (nx (D5 1 2 4) ?_);refine C9 [0,1,2,3,4] (zp 0 [1,2,2,2,2,2]) kR kR λhs=>?_;refine fR_ E (qw_ 5) ?_;refine G5 E (aS E a0) kR (A4K 2 qD _) E ?_;rintro r3 M3 J3 ⟨rfl,rfl,hr3⟩;refine G5 E (aS E (aS E a0)) kR (A4P 253 5 qD qD qD qD _) E ?_;rintro rn2 Mn Jn ⟨rfl,rfl,es,rfl,hel,he256,hbv⟩;refine G5 E (aS E (aS E a0)) kR (A2p _ _ hr3 es hel he256 _) E ?_;rintro r4 M4 J4 ⟨rfl,rfl,hr4⟩;rw [B3w hbv] at hr4;refine G5 E (aS E (aS E a0)) kR (A2Y _ _ _ _ hr0 hr4 _) E ?_;rintro r5 M5 J5 ⟨rfl,rfl,hr5⟩;rw [<- rt2.eq_1] at hr5;have hr50:=hr5;obtain ⟨a5,b5,c5,d5,e5,rfl,-⟩:=hr5;refine G3 E E E (A5 E E Cf kR ln5 al5 Cv ?_);refine E4 (D5 1 2 4) (A3 ?_);refine C9 [0,1,2,3] [(0,1),(2,1),(1,2),(3,2)] kR kR λhs=>?_;refine fR_ E (qw_ 5) ?_;refine fR_ E (qw_ 5) ?_;refine G5 E (aS E a0) kR (A0O _ _ hr50 _) E ?_;rintro r6 M6 J6 ⟨rfl,rfl,hr6⟩;have hr60:=hr6;obtain ⟨a6,b6,c6,d6,e6,rfl,-⟩:=hr6;refine N3 E (aS E (aS E a0)) kR (A02 _ _ _ _ hr60 hx0 _) E ?_;refine E4 (D5 2 4 21) ?_;refine C2 E ?_ ?_<;>intro hc
  .
   have h2:rt2 x*rt2 x%p25=x:=by simpa using hc
   refine A1 ?_;refine lQ_ (qw_ 5) ?_;refine A2 E (A5 E E Cf kR ln5 al5 Cv ?_);refine as_ (A0 (D0 2 3) (A9 (tr ?_)));exact ⟨_,[],[],A0e E E E kR Ce qR,Aa _,by simp,E,E,_,_,E,.inr (.inl ⟨h1,h2,E,hr50⟩)⟩
  .
   have h2:rt2 x*rt2 x%p25≠x:=by simpa using hc
   refine A4 (nx (D1 2) (A1 ?_));refine lQ_ (E6 (place:=λi=>some (i*1,1)) (z:=[C0,C0,C0,C0,C0]) (λ_=>by kernel_rfl) e0 bd0) ?_;refine A2 E (A5 E E Cf kR ln5 al5 Cv ?_);refine as_ (A0 (D0 2 3) (A9 ?_));exact ⟨_,[],[],A0e E E E kR Ce qR,Aa _,by simp,E,E,_,_,E,.inr (.inr ⟨h1,h2,E,L2⟩)⟩

end Go.Proofs.YtgpjndfgjjlhaaaGreatDoor
namespace Go.Px
def pm(N:Nat):Nat->Nat->Nat->Nat->Nat
  | 0,_,_,acc=>acc
  | f+1,b,e,acc=>pm N f (b*b%N) (e/2) (if e%2=1 then acc*b%N else acc)
theorem B3x(N:Nat):∀f b e acc,e<2^f->acc%N=acc->pm N f b e acc=acc*b^e%N
  | 0,b,e,acc,h,ha=>by
    obtain rfl:e=0:=by simpa using h
    rw [pm,Nat.pow_zero,Nat.mul_one,ha]
  | f+1,b,e,acc,h,ha=>by
    rw [pm,B3x N f _ _ _ (by rw [Nat.pow_succ] at h;omega) (by split<;>simp [ha])]
    have e2:b^e=(b*b)^(e/2)*b^(e%2):=by rw [<- Nat.pow_two,<- Nat.pow_mul,<- Nat.pow_add,Nat.div_add_mod]
    rw [e2];rcases Nat.mod_two_eq_zero_or_one e with h0|h0
    . rw [h0,if_neg (by decide),Nat.mul_mod,<- Nat.pow_mod,<- Nat.mul_mod,Nat.pow_zero,Nat.mul_one]
    . rw [h0,if_pos E,Nat.mul_mod,<- Nat.pow_mod,Nat.mod_mod,<- Nat.mul_mod,Nat.pow_one,Nat.mul_assoc,Nat.mul_comm b]
theorem C27{N:Nat}(hN:2<=N)(f a e:Nat)(h:e<2^f):a^e%N=pm N f a e 1:=by rw [B3x N f a e 1 h (Af (by omega)),Nat.one_mul]
end Go.Px

namespace Go.Proofs.YtgpjndfgjjlhaaaGreatDoor
open Go.Px
def fS(x y:Nat):Nat:=(x+p25-y)%p25
def fA(x y:Nat):Nat:=(x+y)%p25
def fM(x y:Nat):Nat:=x*y%p25
def fN(x:Nat):Nat:=(p25-x)%p25
theorem C28(x:Nat):∃y,y=rtp x (p25-2):=⟨_,E⟩
noncomputable def fI(x:Nat):Nat:=Classical.choose (C28 x)
theorem A5p(x:Nat):fI x=rtp x (p25-2):=Classical.choose_spec (C28 x)
variable{v u:Value}{x y:Nat}
theorem A6F(hx:Fe v x)(hy:Fe u y)(A:Mem):FnX prog 152 [v,u] [] A λr M J=>M=[]∧J=[]∧Fe r (fS x y):=A7U v u x y hx hy A
theorem A5q(hx:Fe v x)(hy:Fe u y)(A:Mem):FnX prog 151 [v,u] [] A λr M J=>M=[]∧J=[]∧Fe r (fA x y):=B3n v u x y hx hy A
theorem U3(hx:Fe v x)(hy:Fe u y)(A:Mem):FnX prog 125 [v,u] [] A λr M J=>M=[]∧J=[]∧Fe r (fM x y):=A2Y v u x y hx hy A
theorem C29(hx:Fe v x)(A:Mem):FnX prog 153 [v] [] A λr M J=>M=[]∧J=[]∧Fe r (fM x x):=A0O v x hx A
theorem C0l(hx:Fe v x)(A:Mem):FnX prog 174 [v] [] A λr M J=>M=[]∧J=[]∧Fe r (fN x):=B3p v x hx A
theorem A1q(n:Nat)(hn:n<4294967296)(A:Mem):FnX prog 122 [.int .u32 (n:Int)] [] A λr M J=>M=[]∧J=[]∧Fe r n:=A4K n hn A
theorem B3y(hx:Fe v x)(A:Mem):FnX prog 126 [v] [] A λr M J=>M=[]∧J=[]∧Fe r (fI x) :=
  (B3v v x hx A).mono λr M J ⟨h1,h2,n,h3,h4⟩=>⟨h1,h2,by rw [A5p,<- B3w (show n=p25-2 by omega)];exact h4⟩
structure Pt where
  X:Nat
  Y:Nat
  Z:Nat
  T:Nat
def FeL(xs:LN)(P:Pt):Prop:=∃x0 x1 x2 x3 x4 x5 x6 x7 x8 x9 x10 x11 x12 x13 x14 x15 x16 x17 x18 x19:Nat,xs=[x0,x1,x2,x3,x4,x5,x6,x7,x8,x9,x10,x11,x12,x13,x14,x15,x16,x17,x18,x19]∧Fe (el x0 x1 x2 x3 x4) P.X∧Fe (el x5 x6 x7 x8 x9) P.Y∧Fe (el x10 x11 x12 x13 x14) P.Z∧Fe (el x15 x16 x17 x18 x19) P.T
def FeP(V:Value)(P:Pt):Prop:=∃xs,V=.agg (nums .u64 xs).toArray∧FeL xs P
def pO:Pt:=⟨0,1,1,0⟩
def dN:Nat:=37095705934669439343138083508754565189542113879843219016388785533085940283555
def d2N:Nat:=16295367250680780974490674513165176452449235426866156013048779062215315747161
theorem A1K{n:Nat}(h:n<2^256):rtp x n=pm p25 256 x n 1:=C27 qD 256 x n h
theorem C5h:fN (fM 121665 (fI 121666))=dN:=by rw [A5p,A1K qD];decide +kernel
theorem C3a:fM 2 dN=d2N:=by decide +kernel
def A8q(d2:Nat)(P Q:Pt):Pt :=
  let a:=fM (fS P.Y P.X) (fS Q.Y Q.X)
  let b:=fM (fA P.Y P.X) (fA Q.Y Q.X)
  let c:=fM (fM P.T d2) Q.T
  let z:=fA (fM P.Z Q.Z) (fM P.Z Q.Z)
  let e:=fS b a
  let f:=fS z c
  let g:=fA z c
  let h:=fA b a
  ⟨fM e f,fM g h,fM f g,fM e h⟩

theorem B7e(A:Mem):FnX prog 145 [] [] A λr M J=>M=[]∧J=[]∧FeP r pO:=by refine Cn (N:=4) func145 E E E λw=>?_;refine A8 kn (A1 ?_);refine A2 E (C3 (cs:=[C0,C0,C0,C0,C0,C0,C0,C0,C0,C0,C0,C0,C0,C0,C0,C0,C0,C0,C0,C0]) kR E λb0=>?_);refine A0 (D1 0) (A1 ?_);refine C6 (aS E a0) kR (A1q 1 qD _) E ?_;rintro r1 M1 J1 ⟨rfl,rfl,k1⟩;have h1:=k1;obtain ⟨a1,b1,c1,d1,e1,rfl,-⟩:=k1;refine C6 (aS E a0) kR (A1q 1 qD _) E ?_;rintro r2 M2 J2 ⟨rfl,rfl,k2⟩;have h2:=k2;obtain ⟨a2,b2,c2,d2,e2,rfl,-⟩:=k2;refine lQ_ (E6 (place:=λx=>#[(0,5),(5,5),(10,5),(15,5)][x]?) (z:=[C0,C0,C0,C0,C0,C0,C0,C0,C0,C0,C0,C0,C0,C0,C0,C0,C0,C0,C0,C0]) (λ_=>by kernel_rfl) (eS E (eS E e0)) (bdS 5 5 E qR (bdS 10 5 E qR bd0))) ?_;refine A2 E (A5 E E Cf kR A33 A34 Cv ?_);refine A0 (D1 0) (A9 ?_);exact ⟨_,[],[],A1l E E kR Ce qR,Aa _,by simp,E,E,⟨_,E,_,_,_,_,_,_,_,_,_,_,_,_,_,_,_,_,_,_,_,_,E,L2,h1,h2,L2⟩⟩
theorem A8P(A:Mem):FnX prog 146 [] [] A λr M J=>M=[]∧J=[]∧Fe r dN:=by refine Cn (N:=6) func146 E E E λw=>?_;refine A8 kn (A1 ?_);refine A2 E (C3 (cs:=[C0,C0,C0,C0,C0]) kR E λb0=>?_);refine A0 (D1 0) (A1 ?_);refine C6 (aS E a0) kR (A1q 121665 qD _) E ?_;rintro r1 M1 J1 ⟨rfl,rfl,k1⟩;have h1:=k1;obtain ⟨a1,b1,c1,d1,e1,rfl,-⟩:=k1;refine C6 (aS E a0) kR (A1q 121666 qD _) E ?_;rintro r2 M2 J2 ⟨rfl,rfl,k2⟩;have h2:=k2;obtain ⟨a2,b2,c2,d2,e2,rfl,-⟩:=k2;refine C6 (aS E a0) kR (B3y h2 _) E ?_;rintro r3 M3 J3 ⟨rfl,rfl,k3⟩;have h3:=k3;obtain ⟨a3,b3,c3,d3,e3,rfl,-⟩:=k3;refine C6 (aS E (aS E a0)) kR (U3 h1 h3 _) E ?_;rintro r4 M4 J4 ⟨rfl,rfl,k4⟩;have h4:=k4;obtain ⟨a4,b4,c4,d4,e4,rfl,-⟩:=k4;refine C6 (aS E a0) kR (C0l h4 _) E ?_;rintro r5 M5 J5 ⟨rfl,rfl,k5⟩;rw [C5h] at k5;have h5:=k5;obtain ⟨a5,b5,c5,d5,e5,rfl,-⟩:=k5;refine A2 E (A5 E E Cf kR ln5 al5 Cv ?_);refine A0 (D1 0) (A9 ?_);exact ⟨_,[],[],A1l E E kR Ce qR,Aa _,by simp,E,E,h5⟩
theorem B3z(V W u:Value)(P Q:Pt)(dd:Nat)(hV:FeP V P)(hW:FeP W Q)(hu:Fe u dd)(A:Mem):FnX prog 147 [V,W,u] [] A λr M J=>M=[]∧J=[]∧FeP r (A8q dd P Q):=by
 obtain ⟨xsp,rfl,p0,p1,p2,p3,p4,p5,p6,p7,p8,p9,p10,p11,p12,p13,p14,p15,p16,p17,p18,p19,rfl,hPX,hPY,hPZ,hPT⟩:=hV;dsimp only [nums,List.map];obtain ⟨xsq,rfl,q0,q1,q2,q3,q4,q5,q6,q7,q8,q9,q10,q11,q12,q13,q14,q15,q16,q17,q18,q19,rfl,hQX,hQY,hQZ,hQT⟩:=hW;dsimp only [nums,List.map];have hd:=hu;obtain ⟨ud0,ud1,ud2,ud3,ud4,rfl,-⟩:=hu;refine Cn (N:=77) func147 E E E λw=>?_;refine A8 (D5 0 1 2) (A1 ?_);refine A2 E (bx_ λb3=>?_);refine A2 E (bx_ λb4=>?_);refine A2 E (bx_ λb5=>?_);refine A2 E (C3 (cs:=[C0,C0,C0,C0,C0,C0,C0,C0,C0,C0,C0,C0,C0,C0,C0,C0,C0,C0,C0,C0]) kR E λb6=>?_);refine A0 (D7 3 4 5 6) ?_;refine C9 (.range 12) [(0,0),(1,1),(2,0),(3,1),(5,0),(6,1),(7,0),(8,1),(4,3),(9,3),(10,3),(11,4),(12,2)] kR kR λhs=>?_;refine fQ_ E (qf_ 5 5) ?_;refine fR_ E (H7 (n:=5) E kR (by first|exact Ce|exact mA (by assumption)) Cu) ?_;refine fQ_ E (qf_ 0 0) ?_;refine fR_ E (H7 (n:=5) E kR (by first|exact Ce|exact mA (by assumption)) Cu) ?_;refine fQ_ E (qf_ 5 5) ?_;refine fR_ E (H7 (n:=5) E kR (by first|exact Ce|exact mA (by assumption)) Cu) ?_;refine fQ_ E (qf_ 0 0) ?_;refine fR_ E (H7 (n:=5) E kR (by first|exact Ce|exact mA (by assumption)) Cu) ?_
 refine N5 [⟨4,19,λv B _=>B=[]∧Fe v (fS P.Y P.X)⟩,⟨9,24,λv B _=>B=[]∧Fe v (fS Q.Y Q.X)⟩,⟨10,25,λv B _=>B=[]∧Fe v (fM (fS P.Y P.X) (fS Q.Y Q.X))⟩,⟨11,7,λv B _=>∃b,v=(vP b)∧B=[(b,blk [C0,C0,C0,C0,C0] 193)]⟩]
  gA nd_ nd_ dl_
  (gO ?_ (gO ?_ (gO ?_ (gO ?_ (K5))))) ?_
 .
  intros
  refine D9 (aS E (aS E (a0))) kR (A6F hPY hPX _) E ?_;rintro r M1 J1 ⟨rfl,rfl,hh⟩;exact ⟨_,E,E,hh⟩
 .
  intros
  refine D9 (aS E (aS E (a0))) kR (A6F hQY hQX _) E ?_;rintro r M1 J1 ⟨rfl,rfl,hh⟩;exact ⟨_,E,E,hh⟩
 . intro _ _ _ _ _ ha;have g4:=gx 0 ha;dsimp only at g4;have g9:=gx 1 ha;dsimp only at g9;obtain ⟨-,k4⟩:=g4;obtain ⟨-,k9⟩:=g9;refine D9 (aS E (aS E (a0))) kR (U3 k4 k9 _) E ?_;rintro r M1 J1 ⟨rfl,rfl,hh⟩;exact ⟨_,E,E,hh⟩
 .
  intros
  exact C3 (cs:=[C0,C0,C0,C0,C0]) kR E λb=>⟨_,E,b,E,E⟩
 intro vs bs Jn0 hφ;have g4:=gy 0 hφ;have g9:=gy 1 hφ;have g10:=gy 2 hφ;have g11:=gy 3 hφ;dsimp only at g4 g9 g10 g11;clear hφ;dsimp only [V0,Q6,List.map,List.flatten,Cy,Cw];generalize bs 4=B19,bs 9=B24,bs 10=B25,bs 11=B7,vs 4=u19,vs 9=u24,vs 10=u25,vs 11=u7 at *;obtain ⟨rfl,k4⟩:=g4;have h4:=k4;obtain ⟨a4,b4,c4,d4,e4,rfl,-⟩:=k4;obtain ⟨rfl,k9⟩:=g9;have h9:=k9;obtain ⟨a9,b9,c9,d9,e9,rfl,-⟩:=k9;obtain ⟨rfl,k10⟩:=g10;have h10:=k10;obtain ⟨a10,b10,c10,d10,e10,rfl,-⟩:=k10;obtain ⟨b11,rfl,rfl⟩:=g11;dsimp only [List.append_eq,Cw,Cy];have hfa:=h10;clear h4 h9 h10;refine G3 E E E (A5 E E Cf kR ln5 al5 Cv ?_);refine E4 (E9 3 4 5 6 7) ?_;refine C9 (.range 12) [(0,0),(1,1),(2,0),(3,1),(5,0),(6,1),(7,0),(8,1),(4,3),(9,3),(10,3),(11,4),(12,2)] kR kR λhs=>?_;refine fQ_ E (qf_ 5 5) ?_;refine fR_ E (H7 (n:=5) E kR (by first|exact Ce|exact mA (by assumption)) Cu) ?_;refine fQ_ E (qf_ 0 0) ?_;refine fR_ E (H7 (n:=5) E kR (by first|exact Ce|exact mA (by assumption)) Cu) ?_;refine fQ_ E (qf_ 5 5) ?_;refine fR_ E (H7 (n:=5) E kR (by first|exact Ce|exact mA (by assumption)) Cu) ?_;refine fQ_ E (qf_ 0 0) ?_;refine fR_ E (H7 (n:=5) E kR (by first|exact Ce|exact mA (by assumption)) Cu) ?_
 refine N5 [⟨4,30,λv B _=>B=[]∧Fe v (fA P.Y P.X)⟩,⟨9,35,λv B _=>B=[]∧Fe v (fA Q.Y Q.X)⟩,⟨10,36,λv B _=>B=[]∧Fe v (fM (fA P.Y P.X) (fA Q.Y Q.X))⟩,⟨11,8,λv B _=>∃b,v=(vP b)∧B=[(b,blk [C0,C0,C0,C0,C0] 193)]⟩]
  gA nd_ nd_ dl_
  (gO ?_ (gO ?_ (gO ?_ (gO ?_ (K5))))) ?_
 .
  intros
  refine D9 (aS E (aS E (a0))) kR (A5q hPY hPX _) E ?_;rintro r M1 J1 ⟨rfl,rfl,hh⟩;exact ⟨_,E,E,hh⟩
 .
  intros
  refine D9 (aS E (aS E (a0))) kR (A5q hQY hQX _) E ?_;rintro r M1 J1 ⟨rfl,rfl,hh⟩;exact ⟨_,E,E,hh⟩
 . intro _ _ _ _ _ ha;have g4:=gx 0 ha;dsimp only at g4;have g9:=gx 1 ha;dsimp only at g9;obtain ⟨-,k4⟩:=g4;obtain ⟨-,k9⟩:=g9;refine D9 (aS E (aS E (a0))) kR (U3 k4 k9 _) E ?_;rintro r M1 J1 ⟨rfl,rfl,hh⟩;exact ⟨_,E,E,hh⟩
 .
  intros
  exact C3 (cs:=[C0,C0,C0,C0,C0]) kR E λb=>⟨_,E,b,E,E⟩
 intro vs bs Jn0 hφ;have g4:=gy 0 hφ;have g9:=gy 1 hφ;have g10:=gy 2 hφ;have g11:=gy 3 hφ;dsimp only at g4 g9 g10 g11;clear hφ;dsimp only [V0,Q6,List.map,List.flatten,Cy,Cw];generalize bs 4=B30,bs 9=B35,bs 10=B36,bs 11=B8,vs 4=u30,vs 9=u35,vs 10=u36,vs 11=u8 at *;obtain ⟨rfl,k4⟩:=g4;have h4:=k4;obtain ⟨a4,b4,c4,d4,e4,rfl,-⟩:=k4;obtain ⟨rfl,k9⟩:=g9;have h9:=k9;obtain ⟨a9,b9,c9,d9,e9,rfl,-⟩:=k9;obtain ⟨rfl,k10⟩:=g10;have h10:=k10;obtain ⟨a10,b10,c10,d10,e10,rfl,-⟩:=k10;obtain ⟨b11,rfl,rfl⟩:=g11;dsimp only [List.append_eq,Cw,Cy];have hfb:=h10;clear h4 h9 h10;refine G3 E E E (A5 E E Cf kR ln5 al5 Cv ?_);refine E4 (G9 3 4 5 6 7 8) ?_;refine C9 (.range 8) [(0,0),(1,1),(2,1),(4,0),(5,1),(3,3),(6,3),(7,4),(8,2)] kR kR λhs=>?_;refine fQ_ E (qf_ 15 15) ?_;refine fR_ E (H7 (n:=5) E kR (by first|exact Ce|exact mA (by assumption)) Cu) ?_;refine fR_ E (qw_ 5) ?_;refine fQ_ E (qf_ 15 15) ?_;refine fR_ E (H7 (n:=5) E kR (by first|exact Ce|exact mA (by assumption)) Cu) ?_
 refine N5 [⟨3,40,λv B _=>B=[]∧Fe v (fM P.T dd)⟩,⟨6,43,λv B _=>B=[]∧Fe v (fM (fM P.T dd) Q.T)⟩,⟨7,9,λv B _=>∃b,v=(vP b)∧B=[(b,blk [C0,C0,C0,C0,C0] 193)]⟩]
  gA nd_ nd_ dl_
  (gO ?_ (gO ?_ (gO ?_ (K5)))) ?_
 .
  intros
  refine D9 (aS E (aS E (a0))) kR (U3 hPT hd _) E ?_;rintro r M1 J1 ⟨rfl,rfl,hh⟩;exact ⟨_,E,E,hh⟩
 . intro _ _ _ _ _ ha;have g3:=gx 0 ha;dsimp only at g3;obtain ⟨-,k3⟩:=g3;refine D9 (aS E (aS E (a0))) kR (U3 k3 hQT _) E ?_;rintro r M1 J1 ⟨rfl,rfl,hh⟩;exact ⟨_,E,E,hh⟩
 .
  intros
  exact C3 (cs:=[C0,C0,C0,C0,C0]) kR E λb=>⟨_,E,b,E,E⟩
 intro vs bs Jn0 hφ;have g3:=gy 0 hφ;have g6:=gy 1 hφ;have g7:=gy 2 hφ;dsimp only at g3 g6 g7;clear hφ;dsimp only [V0,Q6,List.map,List.flatten,Cy,Cw];generalize bs 3=B40,bs 6=B43,bs 7=B9,vs 3=u40,vs 6=u43,vs 7=u9 at *;obtain ⟨rfl,k3⟩:=g3;have h3:=k3;obtain ⟨a3,b3,c3,d3,e3,rfl,-⟩:=k3;obtain ⟨rfl,k6⟩:=g6;have h6:=k6;obtain ⟨a6,b6,c6,d6,e6,rfl,-⟩:=k6;obtain ⟨b7,rfl,rfl⟩:=g7;dsimp only [List.append_eq,Cw,Cy];have hc:=h6;clear h3 h6;refine G3 E E E (A5 E E Cf kR ln5 al5 Cv ?_);refine E4 (G9 3 4 6 7 8 9) (A1 (lQ_ (qf_ 10 10) ?_));refine lQ_ (H7 (n:=5) E kR (by first|exact Ce|exact mA (by assumption)) Cu) ?_;refine lQ_ (qf_ 10 10) ?_;refine lQ_ (H7 (n:=5) E kR (by first|exact Ce|exact mA (by assumption)) Cu) ?_;refine C6 (aS E (aS E a0)) kR (U3 hPZ hQZ _) E ?_;rintro r48 M48 J48 ⟨rfl,rfl,k48⟩;have h48:=k48;obtain ⟨a48,b48,c48,d48,e48,rfl,-⟩:=k48;refine A2 E (C3 (cs:=[C0,C0,C0,C0,C0]) kR E λb10=>?_);refine A2 E (A5 E E Cf kR ln5 al5 Cv ?_);refine A0 (E9 6 7 8 9 10) (A1 ?_);refine lQ_ (qw_ 5) ?_;refine lQ_ (qw_ 5) ?_;refine C6 (aS E (aS E a0)) kR (A5q h48 h48 _) E ?_;rintro r51 M51 J51 ⟨rfl,rfl,k51⟩;have h51:=k51;obtain ⟨a51,b51,c51,d51,e51,rfl,-⟩:=k51;refine A2 E (A5 E E Cf kR ln5 al5 Cv ?_);refine A0 (E9 6 7 8 9 10) ?_;refine C9 (.range 16) [(0,1),(1,1),(3,1),(4,1),(6,1),(7,1),(9,1),(10,1),(2,3),(5,3),(8,3),(11,3),(12,3),(13,3),(14,3),(15,4),(16,2),(17,2),(18,2),(19,2)] kR kR λhs=>?_;refine fR_ E (qw_ 5) ?_;refine fR_ E (qw_ 5) ?_;refine fR_ E (qw_ 5) ?_;refine fR_ E (qw_ 5) ?_;refine fR_ E (qw_ 5) ?_;refine fR_ E (qw_ 5) ?_;refine fR_ E (qw_ 5) ?_;refine fR_ E (qw_ 5) ?_
 refine N5 [⟨2,54,λv B _=>B=[]∧Fe v (fS (fM (fA P.Y P.X) (fA Q.Y Q.X)) (fM (fS P.Y P.X) (fS Q.Y Q.X)))⟩,⟨5,57,λv B _=>B=[]∧Fe v (fS (fA (fM P.Z Q.Z) (fM P.Z Q.Z)) (fM (fM P.T dd) Q.T))⟩,⟨8,60,λv B _=>B=[]∧Fe v (fA (fA (fM P.Z Q.Z) (fM P.Z Q.Z)) (fM (fM P.T dd) Q.T))⟩,⟨11,63,λv B _=>B=[]∧Fe v (fA (fM (fA P.Y P.X) (fA Q.Y Q.X)) (fM (fS P.Y P.X) (fS Q.Y Q.X)))⟩,⟨12,11,λv B _=>∃b,v=(vP b)∧B=[(b,blk [C0,C0,C0,C0,C0] 193)]⟩,⟨13,12,λv B _=>∃b,v=(vP b)∧B=[(b,blk [C0,C0,C0,C0,C0] 193)]⟩,⟨14,13,λv B _=>∃b,v=(vP b)∧B=[(b,blk [C0,C0,C0,C0,C0] 193)]⟩,⟨15,14,λv B _=>∃b,v=(vP b)∧B=[(b,blk [C0,C0,C0,C0,C0] 193)]⟩]
  gA nd_ nd_ dl_
  (gO ?_ (gO ?_ (gO ?_ (gO ?_ (gO ?_ (gO ?_ (gO ?_ (gO ?_ (K5))))))))) ?_
 .
  intros
  refine D9 (aS E (aS E (a0))) kR (A6F hfb hfa _) E ?_;rintro r M1 J1 ⟨rfl,rfl,hh⟩;exact ⟨_,E,E,hh⟩
 .
  intros
  refine D9 (aS E (aS E (a0))) kR (A6F h51 hc _) E ?_;rintro r M1 J1 ⟨rfl,rfl,hh⟩;exact ⟨_,E,E,hh⟩
 .
  intros
  refine D9 (aS E (aS E (a0))) kR (A5q h51 hc _) E ?_;rintro r M1 J1 ⟨rfl,rfl,hh⟩;exact ⟨_,E,E,hh⟩
 .
  intros
  refine D9 (aS E (aS E (a0))) kR (A5q hfb hfa _) E ?_;rintro r M1 J1 ⟨rfl,rfl,hh⟩;exact ⟨_,E,E,hh⟩
 .
  intros
  exact C3 (cs:=[C0,C0,C0,C0,C0]) kR E λb=>⟨_,E,b,E,E⟩
 .
  intros
  exact C3 (cs:=[C0,C0,C0,C0,C0]) kR E λb=>⟨_,E,b,E,E⟩
 .
  intros
  exact C3 (cs:=[C0,C0,C0,C0,C0]) kR E λb=>⟨_,E,b,E,E⟩
 .
  intros
  exact C3 (cs:=[C0,C0,C0,C0,C0]) kR E λb=>⟨_,E,b,E,E⟩
 intro vs bs Jn0 hφ;have g2:=gy 0 hφ;have g5:=gy 1 hφ;have g8:=gy 2 hφ;have g11:=gy 3 hφ;have g12:=gy 4 hφ;have g13:=gy 5 hφ;have g14:=gy 6 hφ;have g15:=gy 7 hφ;dsimp only at g2 g5 g8 g11 g12 g13 g14 g15;clear hφ;dsimp only [V0,Q6,List.map,List.flatten,Cy,Cw];generalize bs 2=B54,bs 5=B57,bs 8=B60,bs 11=B63,bs 12=B11,bs 13=B12,bs 14=B13,bs 15=B14,vs 2=u54,vs 5=u57,vs 8=u60,vs 11=u63,vs 12=u11,vs 13=u12,vs 14=u13,vs 15=u14 at *;obtain ⟨rfl,k2⟩:=g2;have h2:=k2;obtain ⟨a2,b2,c2,d2,e2,rfl,-⟩:=k2;obtain ⟨rfl,k5⟩:=g5;have h5:=k5;obtain ⟨a5,b5,c5,d5,e5,rfl,-⟩:=k5;obtain ⟨rfl,k8⟩:=g8;have h8:=k8;obtain ⟨a8,b8,c8,d8,e8,rfl,-⟩:=k8;obtain ⟨rfl,k11⟩:=g11;have h11:=k11;obtain ⟨a11,b11,c11,d11,e11,rfl,-⟩:=k11;obtain ⟨b12,rfl,rfl⟩:=g12;obtain ⟨b13,rfl,rfl⟩:=g13;obtain ⟨b14,rfl,rfl⟩:=g14;obtain ⟨b15,rfl,rfl⟩:=g15;dsimp only [List.append_eq,Cw,Cy];refine G3 E E E (A5 E E Cf kR ln5 al5 Cv ?_);refine G3 E E E (A5 E E Cf kR ln5 al5 Cv ?_);refine G3 E E E (A5 E E Cf kR ln5 al5 Cv ?_);refine G3 E E E (A5 E E Cf kR ln5 al5 Cv ?_);refine E4 (E9 6 11 12 13 14) ?_;refine C9 (.range 13) [(0,1),(1,1),(3,1),(4,1),(6,1),(7,1),(9,1),(10,1),(2,2),(5,2),(8,2),(11,2),(12,0),(13,2)] kR kR λhs=>?_;refine fR_ E (qw_ 5) ?_;refine fR_ E (qw_ 5) ?_;refine fR_ E (qw_ 5) ?_;refine fR_ E (qw_ 5) ?_;refine fR_ E (qw_ 5) ?_;refine fR_ E (qw_ 5) ?_;refine fR_ E (qw_ 5) ?_;refine fR_ E (qw_ 5) ?_;refine G5 E (aS E (aS E a0)) kR (U3 h2 h5 _) E ?_;rintro r66 M66 J66 ⟨rfl,rfl,k66⟩;have h66:=k66;obtain ⟨a66,b66,c66,d66,e66,rfl,-⟩:=k66;refine G5 E (aS E (aS E a0)) kR (U3 h8 h11 _) E ?_;rintro r69 M69 J69 ⟨rfl,rfl,k69⟩;have h69:=k69;obtain ⟨a69,b69,c69,d69,e69,rfl,-⟩:=k69;refine G5 E (aS E (aS E a0)) kR (U3 h5 h8 _) E ?_;rintro r72 M72 J72 ⟨rfl,rfl,k72⟩;have h72:=k72;obtain ⟨a72,b72,c72,d72,e72,rfl,-⟩:=k72;refine G5 E (aS E (aS E a0)) kR (U3 h2 h11 _) E ?_;rintro r75 M75 J75 ⟨rfl,rfl,k75⟩;have h75:=k75;obtain ⟨a75,b75,c75,d75,e75,rfl,-⟩:=k75;refine fQ_ E (E6 (place:=λx=>#[(0,5),(5,5),(10,5),(15,5)][x]?) (z:=[C0,C0,C0,C0,C0,C0,C0,C0,C0,C0,C0,C0,C0,C0,C0,C0,C0,C0,C0,C0]) (λ_=>by kernel_rfl) (eS E (eS E (eS E (eS E e0)))) (bdS 0 5 E qR (bdS 5 5 E qR (bdS 10 5 E qR (bdS 15 5 E qR bd0))))) ?_;refine G3 E E E (A5 E E Cf kR A33 A34 Cv ?_);refine E4 (D1 6) (A9 ?_);exact ⟨_,[],[],A1l E E kR Ce qR,Aa _,by simp,E,E,⟨_,E,_,_,_,_,_,_,_,_,_,_,_,_,_,_,_,_,_,_,_,_,E,h66,h69,h72,h75⟩⟩

end Go.Proofs.YtgpjndfgjjlhaaaGreatDoor
namespace Go.Px
structure Gv where
  i:Nat
  d:Nat
  m:Mem
  φ:Value->Mem->Mem->Prop
theorem gv_inj{G:List Gv}(h:(G.map (·.i)).Nodup){g g':Gv}(hg:g∈G)(hg':g'∈G)(e:g.i=g'.i):g=g':=by
  induction G with
  | nil=>cases hg
  | cons x G ih =>
    simp only [List.map_cons,List.nodup_cons] at h;rcases List.mem_cons.1 hg with h1|h1<;>rcases List.mem_cons.1 hg' with h2|h2
    . rw [h1,h2]
    . exact absurd (by rw [<- h1,e];exact Al (f:=Gv.i) h2) h.1
    . exact absurd (by rw [<- h2,<- e];exact Al (f:=Gv.i) h1) h.1
    . exact ih h.2 h1 h2
def C2j(X:List Nat)(bs:Nat->Mem)(G:List Gv):Mem:=(G.map λg=>if g.i∈X then bs g.i else g.m).flatten
def A7Y(X:List Nat)(bs:Nat->Mem)(G:List Gv):Mem:=(G.map λg=>if g.i∈X then bs g.i else []).flatten
variable{X:List Nat}{bs:Nat->Mem}
theorem A7Z{G:List Gv}:∀x∈A7Y X bs G,x∈C2j X bs G:=by
  intro x hx;unfold A7Y at hx;unfold C2j;obtain ⟨l,hl,hx⟩:=List.mem_flatten.1 hx;obtain ⟨g,hg,rfl⟩:=List.mem_map.1 hl;refine List.mem_flatten.2 ⟨_,Al hg,?_⟩;split at hx
  . rename_i h;rw [if_pos h];exact hx
  . cases hx
theorem C3b{G:List Gv}{g:Gv}(hi:(G.map (·.i)).Nodup)(hg:g∈G)(hX:g.i∉X)(M':Mem) :
    ∃R,(C2j X bs G).Perm (g.m++R)∧(∀x∈A7Y X bs G,x∈R)∧(M'++R).Perm (C2j (X++[g.i]) (λk=>if k=g.i then M' else bs k) G)∧(∀x∈M'++A7Y X bs G,x∈A7Y (X++[g.i]) (λk=>if k=g.i then M' else bs k) G):=by
  obtain ⟨s,t,rfl⟩:=List.append_of_mem hg
  have hne:∀x∈s++t,x.i≠g.i:=by
    intro x hx e;simp only [List.map_append,List.map_cons,List.nodup_append,List.nodup_cons] at hi;rcases List.mem_append.1 hx with h|h
    . exact hi.2.2 _ (Al (f:=Gv.i) h) _ Ax e
    . exact hi.2.1.1 (e▸Al (f:=Gv.i) h)
  have e1:∀(f f':Gv->Mem) (l:List Gv),(∀x∈l,f x=f' x)->l.map f=l.map f':=λf f' l h=>Bv h
  have es:(s.map λx=>if x.i∈X++[g.i] then (if x.i=g.i then M' else bs x.i) else x.m)=s.map λx=>if x.i∈X then bs x.i else x.m:=e1 _ _ _ λx hx=>by have h:=hne x (Ae _ hx);simp [h]
  have et:(t.map λx=>if x.i∈X++[g.i] then (if x.i=g.i then M' else bs x.i) else x.m)=t.map λx=>if x.i∈X then bs x.i else x.m:=e1 _ _ _ λx hx=>by have h:=hne x (Ai _ hx);simp [h]
  have fs:(s.map λx=>if x.i∈X++[g.i] then (if x.i=g.i then M' else bs x.i) else ([]:Mem))=s.map λx=>if x.i∈X then bs x.i else []:=e1 _ _ _ λx hx=>by have h:=hne x (Ae _ hx);simp [h]
  have ft:(t.map λx=>if x.i∈X++[g.i] then (if x.i=g.i then M' else bs x.i) else ([]:Mem))=t.map λx=>if x.i∈X then bs x.i else []:=e1 _ _ _ λx hx=>by have h:=hne x (Ai _ hx);simp [h]
  refine ⟨(s.map λx=>if x.i∈X then bs x.i else x.m).flatten++(t.map λx=>if x.i∈X then bs x.i else x.m).flatten,?_,?_,?_,?_⟩
  . simp only [C2j,List.map_append,List.map_cons,if_neg hX,List.flatten_append,List.flatten_cons];exact List.perm_append_comm_assoc _ _ _
  . intro x hx;simp only [A7Y,List.map_append,List.map_cons,if_neg hX,List.flatten_append,List.flatten_cons,Cw,List.mem_append] at hx;refine List.mem_append.2 (hx.imp (λh=>?_) λh=>?_)
    . exact A7Z (G:=s) x h
    . exact A7Z (G:=t) x h
  . simp only [C2j,List.map_append,List.map_cons,List.flatten_append,List.flatten_cons,es,et];simp only [List.mem_append,List.mem_singleton,or_true,if_true];exact (List.perm_append_comm_assoc _ _ _).symm
  . intro x hx;simp only [A7Y,List.map_append,List.map_cons,List.flatten_append,List.flatten_cons,fs,ft];simp only [List.mem_append,List.mem_singleton,or_true,if_true];simp only [A7Y,List.map_append,List.map_cons,if_neg hX,List.flatten_append,List.flatten_cons,Cw,List.mem_append] at hx;rcases hx with h|h|h
    . exact .inr (.inl h)
    . exact .inl h
    . exact .inr (.inr h)
variable{P:Program}{w:World}{F:List Nat}{A' Mc:Mem}
theorem St.widen{w':World}{A M' J':Mem}{n:Nat}(h:St ⟨P,w,F,A',n⟩ Mc [] w)(hs:St ⟨P,w,F,A,n⟩ M' J' w'):St ⟨P,w,F,A',n⟩ M' J' w':=by
  refine ⟨hs.os,hs.tape,hs.output,hs.size,hs.frame,λb o hb=>?_,hs.nodup,hs.own,hs.sepJ,h.sepA,hs.old⟩;simp only [List.mem_append] at hb;rcases hb with hb|hb|hb
  . exact hs.mem b o (by simp [hb])
  . exact hs.mem b o (by simp [hb])
  . have h1:=h.sepA b o hb;have h2:=hs.frame b h1.2 h1.1;rw [h2];exact h.mem b o (by simp;exact .inr hb)
theorem St.less{A:Mem}{n:Nat}(h:St ⟨P,w,F,A',n⟩ Mc [] w)(hA:∀x∈A,x∈A'):St ⟨P,w,F,A,n⟩ Mc [] w :=
  ⟨h.os,h.tape,h.output,h.size,h.frame,λb o hb=>h.mem b o (by simp at hb ⊢;exact hb.imp id (hA _)),h.nodup,h.own,h.sepJ,λb o hb=>h.sepA b o (hA _ hb),h.old⟩
section group
variable{C:Cx}{Q:XQ}{l:Env}{M M0 J:Mem}{os:List Oper}{K:Nat->Prop}{n0:Nat}{nd:List Nat}{plan:List (Nat×Nat)}
end group
end Go.Px

