/- Part 2 of the texts of this claim, one behind the other. -/
import Derived.Test.YtgpjndfgjjlhaaaGreatDoorB1
import Derived.Test.YtgpjndfgjjlhaaaGreatDoorRows
import Derived.Laws.BytesString
import Derived.Laws.MakeOwn
import Derived.LoopN
set_option linter.unusedVariables false
set_option linter.unusedSimpArgs false
set_option maxRecDepth 100000
namespace Go
open Go.Px
abbrev Ce:=@At.mem
abbrev Cf:=@Cel.cel
abbrev Cg:=@Fit.eq
abbrev Ck:=@Fit.sub
abbrev Cn:=@FnX.enter
abbrev Cp:=@OpQ.opL
abbrev Cr:=@Rd.whole
abbrev Ct:=@SetC.set
abbrev Cv:=@UpC.upd
end Go
open Go.Proofs.Tryz
namespace Go.Px
def rotr(x n:Nat):Nat:=(x >>> n) ||| ((x <<< (32-n))%4294967296)
def sg0(a:Nat):Nat:=rotr a 7 ^^^ rotr a 18 ^^^ (a >>> 3)
def sg1(b:Nat):Nat:=rotr b 17 ^^^ rotr b 19 ^^^ (b >>> 10)
def B6l(w:List Nat)(i:Nat):Nat :=
  (((w.getD (i-16) 0+sg0 (w.getD (i-15) 0))%4294967296+w.getD (i-7) 0)%4294967296+sg1 (w.getD (i-2) 0))%4294967296
def wx(w:List Nat):Nat->List Nat
  | 0=>w
  | n+1=>wx w n++[B6l (wx w n) (w.length+n)]
theorem A7r(w:List Nat)(n:Nat):(wx w n).length=w.length+n:=by
  induction n with
  | zero=>rfl
  | succ n ih=>simp [wx,ih];omega
structure S8 where
  a:Nat
  b:Nat
  c:Nat
  d:Nat
  e:Nat
  f:Nat
  g:Nat
  h:Nat
def S8.list(s:S8):List Nat:=[s.a,s.b,s.c,s.d,s.e,s.f,s.g,s.h]
def S8.ok(s:S8):Prop:=∀x∈s.list,x<4294967296
def bs1(e:Nat):Nat:=rotr e 6 ^^^ rotr e 11 ^^^ rotr e 25
def bs0(a:Nat):Nat:=rotr a 2 ^^^ rotr a 13 ^^^ rotr a 22
def chz(e f g:Nat):Nat:=(e &&& f) ^^^ ((4294967295 ^^^ e) &&& g)
def maj(a b c:Nat):Nat:=(a &&& b) ^^^ (a &&& c) ^^^ (b &&& c)
def tmp1(s:S8)(k w:Nat):Nat:=((((s.h+bs1 s.e)%4294967296+chz s.e s.f s.g)%4294967296+k)%4294967296+w)%4294967296
def S8.step(s:S8)(k w:Nat):S8 :=
  ⟨((tmp1 s k w+bs0 s.a)%4294967296+maj s.a s.b s.c)%4294967296,s.a,s.b,s.c,(s.d+tmp1 s k w)%4294967296,s.e,s.f,s.g⟩
def rounds(ks ws:List Nat)(s:S8):Nat->S8
  | 0=>s
  | n+1=>(rounds ks ws s n).step (ks.getD n 0) (ws.getD n 0)
def S8.plus(s t:S8):S8 :=
  ⟨(s.a+t.a)%4294967296,(s.b+t.b)%4294967296,(s.c+t.c)%4294967296,(s.d+t.d)%4294967296,(s.e+t.e)%4294967296,(s.f+t.f)%4294967296,(s.g+t.g)%4294967296,(s.h+t.h)%4294967296⟩
def C2f(p:List Nat)(i:Nat):Nat:=((p.getD (4*i) 0*256+p.getD (4*i+1) 0)*256+p.getD (4*i+2) 0)*256+p.getD (4*i+3) 0
def A0g(p:List Nat)(n:Nat):List Nat:=(List.range n).map (C2f p)
def Y3(ks:List Nat)(s:S8)(p:List Nat):S8:=s.plus (rounds ks (wx (A0g p 16) 48) s 64)
def A5m(ks:List Nat):Nat->S8->List Nat->S8
  | 0,s,_=>s
  | n+1,s,p=>A5m ks n (Y3 ks s (p.take 64)) (p.drop 64)
def A4k(n:Nat):Nat:=(119-n%64)%64
def B6m(n:Nat)(k:Nat):List Nat:=(List.range k).map λi=>(8*n) >>> (56-8*i)%256
def N0(p:List Nat):List Nat:=p++(128::(List.replicate (A4k p.length) 0++B6m p.length 8))
def B9I(x:Nat):List Nat:=[(x >>> 24)%256,(x >>> 16)%256,(x >>> 8)%256,x%256]
def S8.bytes(s:S8):List Nat:=s.list.flatMap B9I
def A2x:List Nat:=[1116352408,1899447441,3049323471,3921009573,961987163,1508970993,2453635748,2870763221,3624381080,310598401,607225278,1426881987,1925078388,2162078206,2614888103,3248222580,3835390401,4022224774,264347078,604807628,770255983,1249150122,1555081692,1996064986,2554220882,2821834349,2952996808,3210313671,3336571891,3584528711,113926993,338241895,666307205,773529912,1294757372,1396182291,1695183700,1986661051,2177026350,2456956037,2730485921,2820302411,3259730800,3345764771,3516065817,3600352804,4094571909,275423344,430227734,506948616,659060556,883997877,958139571,1322822218,1537002063,1747873779,1955562222,2024104815,2227730452,2361852424,2428436474,2756734187,3204031479,3329325298]
def A3C:S8:=⟨1779033703,3144134277,1013904242,2773480762,1359893119,2600822924,528734635,1541459225⟩
def Y7(p:List Nat):List Nat:=(A5m A2x ((N0 p).length/64) A3C (N0 p)).bytes
def A3D(key:List Nat)(x:Nat):List Nat:=(key++List.replicate (64-key.length) 0).map (· ^^^ x)
def A1m(key:List Nat):List Nat:=if 64<key.length then Y7 key else key
def A8o(key p:List Nat):List Nat:=Y7 (A3D (A1m key) 92++Y7 (A3D (A1m key) 54++p))
theorem B9J:∀x∈A2x,x<4294967296:=by decide
theorem A6d:A3C.ok:=by unfold S8.ok;decide
theorem Q5{x n:Nat}(h:x<4294967296):rotr x n<4294967296:=by unfold rotr;refine Nat.or_lt_two_pow (n:=32) ?_ (Ad _ (by decide));exact Be (Nat.shiftRight_le _ _) h
variable{a b:Nat}
theorem xor32(ha:a<4294967296)(hb:b<4294967296):a ^^^ b<4294967296:=Nat.xor_lt_two_pow (n:=32) ha hb
theorem B5X(ha:a<4294967296)(hb:b<4294967296):a ||| b<4294967296:=Nat.or_lt_two_pow (n:=32) ha hb
theorem A8A(ha:a<4294967296):a &&& b<4294967296:=Be Nat.and_le_left ha
theorem B1T{n:Nat}(ha:a<4294967296):a >>> n<4294967296:=Be (Nat.shiftRight_le _ _) ha
theorem U9:a%4294967296<4294967296:=Ad _ (by decide)
theorem S8.ok_iff{s:S8}:s.ok↔s.a<4294967296∧s.b<4294967296∧s.c<4294967296∧s.d<4294967296∧s.e<4294967296∧s.f<4294967296∧s.g<4294967296∧s.h<4294967296:=by simp [S8.ok,S8.list]
theorem S8.ok.step{s:S8}(h:s.ok)(k w:Nat):(s.step k w).ok:=by rw [S8.ok_iff] at h ⊢;obtain ⟨h1,h2,h3,h4,h5,h6,h7,h8⟩:=h;exact ⟨U9,h1,h2,h3,U9,h5,h6,h7⟩
theorem S8.ok.plus(s t:S8):(s.plus t).ok:=by rw [S8.ok_iff];exact ⟨U9,U9,U9,U9,U9,U9,U9,U9⟩
theorem S8.ok.rounds{s:S8}(h:s.ok)(ks ws:List Nat)(n:Nat):(rounds ks ws s n).ok:=by
  induction n with
  | zero=>exact h
  | succ n ih=>exact ih.step _ _
theorem A8B(ks:List Nat)(s:S8)(p:List Nat):(Y3 ks s p).ok:=S8.ok.plus _ _
theorem A6e(ks:List Nat):∀(n:Nat) {s:S8} (p:List Nat),s.ok->(A5m ks n s p).ok
  | 0,_,_,h=>h
  | n+1,s,p,_=>A6e ks n _ (A8B ks s _)
theorem A4l(ks:List Nat):∀(n:Nat) (s:S8) (p:List Nat),A5m ks (n+1) s p=Y3 ks (A5m ks n s p) ((p.drop (64*n)).take 64)
  | 0,s,p=>by simp [A5m]
  | n+1,s,p=>by rw [A5m,A4l ks n,A5m,List.drop_drop,show 64+64*n=64*(n+1) by omega]
theorem A6f(ks:List Nat):∀(n:Nat) (s:S8) (p q:List Nat),64*n<=p.length->A5m ks n s (p++q)=A5m ks n s p
  | 0,s,p,q,h=>rfl
  | n+1,s,p,q,h=>by rw [A5m,A5m,List.take_append_of_le_length (by omega),List.drop_append_of_le_length (by omega),A6f ks n _ _ _ (by rw [Bg];omega)]
variable{p:List Nat}
theorem B9K(h:∀x∈p,x<256)(i:Nat):C2f p i<4294967296:=by have:=λj=>getD_lt (i:=j) h (by decide);have h0:=this (4*i);have h1:=this (4*i+1);have h2:=this (4*i+2);have h3:=this (4*i+3);unfold C2f;omega
theorem B6n(h:∀x∈p,x<256)(n:Nat):∀x∈A0g p n,x<4294967296:=by intro x hx;obtain ⟨i,_,rfl⟩:=List.mem_map.1 hx;exact B9K h i
theorem A4m(p:List Nat)(n:Nat):(A0g p n).length=n:=by simp [A0g]
theorem B0B(p:List Nat)(n:Nat):A0g p (n+1)=A0g p n++[C2f p n]:=by simp [A0g,List.range_succ]
theorem B9L{w:List Nat}(h:∀x∈w,x<4294967296):∀n,∀x∈wx w n,x<4294967296
  | 0,x,hx=>h x hx
  | n+1,x,hx=>by
    rcases List.mem_append.1 hx with hx|hx
    . exact B9L h n x hx
    . simp at hx;subst hx;exact U9
theorem B9M{c d:Nat}(ha:a<256)(hb:b<256)(hc:c<256)(hd:d<256) :
    ((((a <<< 24)%4294967296 ||| (b <<< 16)%4294967296) ||| (c <<< 8)%4294967296) ||| d)=((a*256+b)*256+c)*256+d:=by
  have e1:a <<< 24=(a <<< 8) <<< 16:=by rw [<- Nat.shiftLeft_add]
  have f1:(a <<< 24)%4294967296=a <<< 24:=Af (by rw [Nat.shiftLeft_eq];omega);have f2:(b <<< 16)%4294967296=b <<< 16:=Af (by rw [Nat.shiftLeft_eq];omega);have f3:(c <<< 8)%4294967296=c <<< 8:=Af (by rw [Nat.shiftLeft_eq];omega);rw [f1,f2,f3]
  have g1:(a <<< 24 ||| b <<< 16)=(a*256+b) <<< 16:=by rw [e1,<- Nat.shiftLeft_or_distrib,<- Nat.shiftLeft_add_eq_or_of_lt (i:=8) hb,Nat.shiftLeft_eq a 8]
  have g2:((a*256+b) <<< 16 ||| c <<< 8)=((a*256+b)*256+c) <<< 8:=by rw [show (16:Nat)=8+8 from rfl,Nat.shiftLeft_add,<- Nat.shiftLeft_or_distrib,<- Nat.shiftLeft_add_eq_or_of_lt (i:=8) hc,Nat.shiftLeft_eq (a*256+b) 8]
  rw [g1,g2,<- Nat.shiftLeft_add_eq_or_of_lt (i:=8) hd,Nat.shiftLeft_eq _ 8]
end Go.Px

namespace Go.Proofs.YtgpjndfgjjlhaaaGreatDoor
open Go.Px
theorem Y4(x n:Nat)(k:Int)(A:Mem)(hx:x<4294967296)(h0:0<n)(hn:n<32)(hk:k = -(n:Int)):FnV prog 165 [.int .u32 (x:Int),.int .i64 k] A (.int .u32 (rotr x n:Nat)):=by refine Cn (N:=17) func165 E E E λw=>?_;refine A8 (D0 0 1) (A1 (as_ (A0 (D0 0 1) (A1 (mv_ ?_)))));refine lQ_ (A0R (k':=.u64) ((18446744073709551616-n:Nat):Int) E kR (by unfold IntKind.wrap;simp [IntKind.bits,IntKind.signed];omega)) ?_;refine lQ_ (D2 ((32-n:Nat):Int) E E ((C4Z (k:=.u64) (b:=31) E (by show _<2^64;omega) qD).trans (by rw [Nat.and_two_pow_sub_one_eq_mod _ 5,show (18446744073709551616-n)%2^5=32-n by omega]))) ?_;refine as_ (A0 (D0 0 5) (A1 (mv_ (mv_ ?_))));refine lQ_ (A1w (32-n) E E E qO) ?_;refine mv_ (mv_ ?_);refine lQ_ (D2 ((n:Nat):Int) E E ((C4Y (k:=.u64) (a:=32) (b:=32-n) E n (by show _<=2^64;omega) (by show (32+(18446744073709551616-(32-n)))%18446744073709551616=n;omega)))) ?_;refine lQ_ (T9 n E E E (by show n<=32;omega)) ?_;refine lQ_ (A3B E E U9 (B1T hx)) (as_ (A0 (D1 4) (A9 ?_)));exact ⟨_,[],[],H2 E E,Aa _,by simp,by rw [Nat.or_comm];rfl,E,E⟩
abbrev A7s(s:S8):List Value:=[.int .u32 (s.a:Int),.int .u32 (s.b:Int),.int .u32 (s.c:Int),.int .u32 (s.d:Int),.int .u32 (s.e:Int),.int .u32 (s.f:Int),.int .u32 (s.g:Int),.int .u32 (s.h:Int)]
def A4n(s r:S8)(i:Nat):LN:=(s.plus r).list.take i++s.list.drop i
theorem A5y(s r:S8)(i:Nat)(h:i<=8):(A4n s r i).length=8:=by simp [A4n,S8.list];omega
theorem B0C(s r:S8)(i:Nat)(h:i<8):(A4n s r i).getD i 0=s.list.getD i 0:=by
  have:i=0∨i=1∨i=2∨i=3∨i=4∨i=5∨i=6∨i=7:=by omega
  rcases this with rfl|rfl|rfl|rfl|rfl|rfl|rfl|rfl<;>rfl
theorem A8C(s r:S8)(i:Nat)(h:i<8):(A4n s r i).set i ((s.list.getD i 0+r.list.getD i 0)%4294967296)=A4n s r (i+1):=by
  have:i=0∨i=1∨i=2∨i=3∨i=4∨i=5∨i=6∨i=7:=by omega
  rcases this with rfl|rfl|rfl|rfl|rfl|rfl|rfl|rfl<;>rfl
theorem B1U{w:LN}{us:LN}{i:Nat}(h:w.length=i)(h16:16<=i)(h64:i<64) :
    ((((w++us).getD (i-16) 0+sg0 ((w++us).getD (i-15) 0))%4294967296+(w++us).getD (i-7) 0)%4294967296+sg1 ((w++us).getD (i-2) 0))%4294967296=B6l w i:=by
  rw [A3Z qO,A3Z qO,A3Z qO,A3Z qO];rfl
theorem A5z(s:S8)(hs0:s.ok)(p:LN)(hb:∀x∈p,x<256)(v:Value)(A:Mem)(hv:Rd A 1 v 64 (nums .u8 p)){ek:TypeId}{fk:Nat×Nat}(hk:(1,Obj.cells (nums .u32 A2x).toArray ek fk)∈A) :
  FnV prog 129 [.agg (nums .u32 s.list).toArray,v] A (.agg (nums .u32 (Y3 A2x s p).list).toArray):=by
 have hg:∀j,p.getD j 0<256:=λj=>getD_lt hb qD;refine Cn (N:=207) func129 E E E λw=>?_;refine A8 (D0 0 1) (A1 ?_);refine A2 E (B6e (cs:=nums .u32 s.list) E E E λb2=>?_);refine A2 E (C3 (cs:=[D3,D3,D3,D3,D3,D3,D3,D3]) kR E λb4=>?_);refine A0 (D5 1 2 4) (A1 ?_);refine A2 E (C3 (cs:=nums .u32 (List.replicate 64 0)) kR E λb5=>?_);refine A0 (D7 1 2 4 5) (A3 (A1 (mv_ (A0 (E9 1 2 4 5 20) (A6 ?_)))));obtain ⟨bp,op,cp,csp,ep,frp,rfl,hmem,hcs⟩:=hv.nums qD;refine E0 (α:=Nat) (λi=>[(1,.slice (some ⟨bp,op,none⟩) 64 cp),(2,(vP b2)),(4,(vP b4)),(5,(vP b5)),(20,.int .i64 (i:Int))]) (λi=>[(b5,blk (nums .u32 (A0g p i++List.replicate (64-i) 0)) _),(b4,blk (A7s ⟨0,0,0,0,0,0,0,0⟩) _),(b2,blk (nums .u32 s.list) _)]) (λ_=>[]) (λi=>i<=16) (λi=>16-i) 0 (Am _) (E9 1 2 4 5 20) .rfl qI ?_;intro i hi
 try dsimp only at hi ⊢
 refine A1 (lQ_ (E3 E E E) (A0 (G9 1 2 4 5 20 21) (A3 ?_)));refine C2 E ?_ ?_<;>intro hc
 .
  have hlt:i<16:=by simp at hc;omega
  refine A4 (nx (E9 1 2 4 5 20) (A3 (A6 (A1 (mv_ (as_ (A0 (G9 1 2 4 5 6 20) ?_)))))));refine A2z (_) [0,1,2,3,4,5,6,7,8,9,10,11,12,13,14,15,16,17,18,19,20,21,22,23,24,25,26,27,28,29,30,31,32,33,34] [(0,0),(1,0),(2,0),(3,0),(4,0),(5,1),(6,0),(7,0),(8,0),(9,0),(10,0),(11,0),(12,0),(13,1),(14,0),(15,0),(16,0),(17,0),(18,0),(19,0),(20,0),(21,0),(22,1),(23,0),(24,0),(25,0),(26,0),(27,0),(28,0),(29,0),(30,0),(31,1),(32,0),(33,0),(34,0),(35,2)] kR kR qI λhs=>?_;refine K9 hs E qm_ E ?_;refine K9 hs E qm_ E ?_;refine K9 hs E qm_ E ?_;refine K9 hs E (D2 ((4*i:Nat):Int) E E (A11 qO qO qO)) E ?_;refine K9 hs E (L6 (i:=4*i) (e:=5) (sz:=1) E E kR kR E qO) E ?_;refine A5j hs E (H1 E kR (mA hmem) (hcs (4*i) qO)) E ?_;refine K9 hs E (A15 (k':=.u32) E kR (by show _<2147483648;have:=hg (4*i);omega)) E ?_;refine K9 hs E (A1w 24 E E E qD) E ?_;refine K9 hs E qm_ E ?_;refine K9 hs E qm_ E ?_;refine K9 hs E (D2 ((4*i:Nat):Int) E E (A11 qO qO qO)) E ?_;refine K9 hs E (D2 ((4*i+1:Nat):Int) E E (F5 qO qO qO)) E ?_;refine K9 hs E (L6 (i:=4*i+1) (e:=5) (sz:=1) E E kR kR E qO) E ?_;refine A5j hs E (H1 E kR (mA hmem) (hcs (4*i+1) qO)) E ?_;refine K9 hs E (A15 (k':=.u32) E kR (by show _<2147483648;have:=hg (4*i+1);omega)) E ?_;refine K9 hs E (A1w 16 E E E qD) E ?_;refine K9 hs E (A3B E E U9 U9) E ?_;refine K9 hs E qm_ E ?_;refine K9 hs E qm_ E ?_;refine K9 hs E (D2 ((4*i:Nat):Int) E E (A11 qO qO qO)) E ?_;refine K9 hs E (D2 ((4*i+2:Nat):Int) E E (F5 qO qO qO)) E ?_;refine K9 hs E (L6 (i:=4*i+2) (e:=5) (sz:=1) E E kR kR E qO) E ?_;refine A5j hs E (H1 E kR (mA hmem) (hcs (4*i+2) qO)) E ?_;refine K9 hs E (A15 (k':=.u32) E kR (by show _<2147483648;have:=hg (4*i+2);omega)) E ?_;refine K9 hs E (A1w 8 E E E qD) E ?_;refine K9 hs E (A3B E E (B5X U9 U9) U9) E ?_;refine K9 hs E qm_ E ?_;refine K9 hs E qm_ E ?_;refine K9 hs E (D2 ((4*i:Nat):Int) E E (A11 qO qO qO)) E ?_;refine K9 hs E (D2 ((4*i+3:Nat):Int) E E (F5 qO qO qO)) E ?_;refine K9 hs E (L6 (i:=4*i+3) (e:=5) (sz:=1) E E kR kR E qO) E ?_;refine A5j hs E (H1 E kR (mA hmem) (hcs (4*i+3) qO)) E ?_;refine K9 hs E (A15 (k':=.u32) E kR (by show _<2147483648;have:=hg (4*i+3);omega)) E ?_;refine K9 hs E (A3B E E (B5X (B5X U9 U9) U9) (by have:=hg (4*i+3);omega)) E ?_;refine K9 hs E (F7 (i:=i) (e:=40) (n:=64) (sz:=1) E E kR kR E qO) E ?_;refine A10 E E E (K4 (ws:=A0g p i++List.replicate (64-i) 0) i E E kR qO (by simp [A4m];omega) Cv ?_);refine A7n ?_;refine nb (nx (E9 1 2 4 5 20) (C1 ?_));refine lQ_ (D2 ((i+1:Nat):Int) E E (F5 qO qO qO)) ?_;refine mv_ (C5 ?_);refine rn (i+1) qO qO (E9 1 2 4 5 20) (Cg ?_) qI;rw [B9M (hg _) (hg _) (hg _) (hg _),B1Q (A4m p i) qO,B0B];rfl
 .
  have hlt:i=16:=by simp at hc;omega
  subst hlt;refine D6 (te (re (be E (nx (D5 2 4 5) (A3 (A1 (aS_ E (A0 (D7 2 4 5 7) (A6 ?_)))))))));generalize hW0:A0g p 16=W0;have hW0l:W0.length=16:=by rw [<- hW0];exact A4m _ _
  have hW0b:∀x∈W0,x<4294967296:=by rw [<- hW0];exact B6n hb _
  refine E0 (α:=Nat) (λi=>[(2,(vP b2)),(4,(vP b4)),(5,(vP b5)),(7,.int .i64 (i:Int))]) (λi=>[(b5,blk (nums .u32 (wx W0 (i-16)++List.replicate (64-i) 0)) _),(b4,blk (A7s ⟨0,0,0,0,0,0,0,0⟩) _),(b2,blk (nums .u32 s.list) _)]) (λ_=>[]) (λi=>16<=i∧i<=64) (λi=>64-i) 16 qD (D7 2 4 5 7) .rfl qI ?_;rintro i ⟨hi,hi2⟩;have hwl:=A7r W0 (i-16)
  have hwb:∀j,(wx W0 (i-16)++List.replicate (64-i) 0).getD j 0<4294967296:=λj=>getD_lt (λx hx=>by
   rcases List.mem_append.1 hx with hx|hx
   . exact B9L hW0b _ _ hx
   . rw [(List.mem_replicate.1 hx).2];decide) qD
  have hll:(wx W0 (i-16)++List.replicate (64-i) 0).length=64:=by simp [A7r,hW0l];omega
  try dsimp only
  refine A3 (A1 (mV_ E (lQ_ (E3 E E E) (A0 (E9 2 4 5 7 60) ?_))));refine C2 E ?_ ?_<;>intro hc
  .
   have hlt:i<64:=by simp at hc;omega
   refine A4 (nx (D7 2 4 5 7) (A3 (A6 ?_)));refine A1r (_) [0,1,2,3,4,5,6,7,8,9] [(0,0),(1,0),(2,0),(3,1),(4,0),(5,0),(6,0),(7,1),(8,0),(9,0)] kR kR qI λhs=>?_;refine K9 hs E qm_ E ?_;refine K9 hs E (D2 ((i-15:Nat):Int) E E (V6 qO qO qO)) E ?_;refine K9 hs E (F7 (i:=i-15) (e:=40) (n:=64) (sz:=1) E E kR kR E qO) E ?_;refine A5j hs E (H9 (i-15) E kR Ce qO qO) E ?_;refine K9 hs E qm_ E ?_;refine K9 hs E (D2 ((i-2:Nat):Int) E E (V6 qO qO qO)) E ?_;refine K9 hs E (F7 (i:=i-2) (e:=40) (n:=64) (sz:=1) E E kR kR E qO) E ?_;refine A5j hs E (H9 (i-2) E kR Ce qO qO) E ?_;refine K9 hs E (G2 E) E ?_;refine K9 hs E (G2 E) E ?_;refine A3z (G9 2 4 5 7 8 9) ?_;refine A1 (mv_ ?_);refine B6j (aS E (aS E a0)) kR (Y4 _ 7 _ _ (hwb _) qD qD E) E ?_;refine mv_ ?_;refine B6j (aS E (aS E a0)) kR (Y4 _ 18 _ _ (hwb _) qD qD E) E ?_;refine lQ_ (U8 E E (Q5 (hwb _)) (Q5 (hwb _))) (mv_ ?_);refine lQ_ (T9 3 E E E qD) ?_;refine lQ_ (U8 E E (xor32 (Q5 (hwb _)) (Q5 (hwb _))) (B1T (hwb _))) (as_ (A0 (G9 2 4 5 7 9 10) (A1 (mv_ ?_))));refine B6j (aS E (aS E a0)) kR (Y4 _ 17 _ _ (hwb _) qD qD E) E ?_;refine mv_ ?_;refine B6j (aS E (aS E a0)) kR (Y4 _ 19 _ _ (hwb _) qD qD E) E ?_;refine lQ_ (U8 E E (Q5 (hwb _)) (Q5 (hwb _))) (mv_ ?_);refine lQ_ (T9 10 E E E qD) ?_;refine lQ_ (U8 E E (xor32 (Q5 (hwb _)) (Q5 (hwb _))) (B1T (hwb _))) (as_ (A0 (G9 2 4 5 7 10 11) ?_));refine A2z (_) [0,1,2,3,4,5,6,7,8,9,10,11,12,13,14] [(0,0),(1,0),(2,0),(3,0),(4,1),(5,0),(6,0),(7,0),(8,0),(9,0),(10,1),(11,0),(12,0),(13,0),(14,0),(15,2)] kR kR qI λhs=>?_;refine K9 hs E qm_ E ?_;refine K9 hs E qm_ E ?_;refine K9 hs E (D2 ((i-16:Nat):Int) E E (V6 qO qO qO)) E ?_;refine K9 hs E (F7 (i:=i-16) (e:=40) (n:=64) (sz:=1) E E kR kR E qO) E ?_;refine A5j hs E (H9 (i-16) E kR Ce qO qO) E ?_;refine K9 hs E qm_ E ?_;refine K9 hs E (A0t E E) E ?_;refine K9 hs E qm_ E ?_;refine K9 hs E (D2 ((i-7:Nat):Int) E E (V6 qO qO qO)) E ?_;refine K9 hs E (F7 (i:=i-7) (e:=40) (n:=64) (sz:=1) E E kR kR E qO) E ?_;refine A5j hs E (H9 (i-7) E kR Ce qO qO) E ?_;refine K9 hs E (A0t E E) E ?_;refine K9 hs E qm_ E ?_;refine K9 hs E (A0t E E) E ?_;refine K9 hs E (F7 (i:=i) (e:=40) (n:=64) (sz:=1) E E kR kR E qO) E ?_;refine A10 E E E (K4 (ws:=wx W0 (i-16)++List.replicate (64-i) 0) i E E kR qO qO Cv ?_);refine A7n ?_;refine nb (nx (D7 2 4 5 7) (C1 (mv_ ?_)));refine lQ_ (D2 ((i+1:Nat):Int) E E (F5 qO qO qO)) ?_;refine as_ (C5 ?_);refine rn (i+1) ⟨by omega,by omega⟩ qO (D7 2 4 5 7) (Cg ?_) qI;have e:=B1U (us:=List.replicate (64-i) 0) (show (wx W0 (i-16)).length=i by omega) hi hlt;unfold sg0 sg1 at e;rw [e,B1Q qO hlt,show i+1-16=(i-16)+1 by omega,wx,show W0.length+(i-16)=i by omega]
  .
   have hlt:i=64:=by simp at hc;omega
   subst hlt;refine D6 (te (re (be E (nx (D5 2 4 5) (A1 ?_)))));refine B1J (n:=8) E kR qR E ?_;refine A2 E (C3 (cs:=[D3,D3,D3,D3,D3,D3,D3,D3]) kR E λb12=>?_);refine A9p E E kR qR E7 ?_;refine A0 (D7 2 4 5 12) (A3 (A1 (mv_ (A0 (E9 2 4 5 12 103) (A6 ?_)))));generalize hW:wx W0 48=W;have hWl:W.length=64:=by rw [<- hW,A7r];omega
   have hWb:∀j,W.getD j 0<4294967296:=λj=>getD_lt (by rw [<- hW];exact B9L hW0b _) qD;have hkt:∀j,A2x.getD j 0<4294967296:=λj=>getD_lt B9J qD;refine E0 (α:=Nat) (λi=>[(2,(vP b2)),(4,(vP b4)),(5,(vP b5)),(12,(vP b12)),(103,.int .i64 (i:Int))]) (λi=>[(b12,blk (A7s (rounds A2x W s i)) _),(b5,blk (nums .u32 W) _),(b4,blk (A7s ⟨0,0,0,0,0,0,0,0⟩) _),(b2,blk (nums .u32 s.list) _)]) (λ_=>[]) (λi=>i<=64) (λi=>64-i) 0 (Am _) (E9 2 4 5 12 103) (Cg (by rw [show List.replicate (64-64) 0=[] from rfl,List.append_nil];rfl)) qI ?_;intro i hi;have hro:=hs0.rounds A2x W i;generalize hr:rounds A2x W s i=r at hro;rw [S8.ok_iff] at hro;obtain ⟨ra,rb,rc,rd,re',rf,rg,rh⟩:=hro
   try dsimp only at hi ⊢
   refine A1 (lQ_ (E3 E E E) (A0 (G9 2 4 5 12 103 104) (A3 ?_)));refine C2 E ?_ ?_<;>intro hc
   .
    have hlt:i<64:=by simp at hc;omega
    refine A4 (nx (E9 2 4 5 12 103) (A3 (A6 (A1 (mv_ (as_ (A0 (G9 2 4 5 12 13 103) ?_)))))));refine A1r (_) [0,1,2,3,4,5,6,7,8,10,11] [(0,0),(1,1),(3,0),(4,1),(7,0),(8,1),(2,2),(5,2),(6,0),(9,2),(10,0),(11,0)] kR kR qI λhs=>?_;refine K9 hs E (F7 (i:=4) (e:=40) (n:=8) (sz:=1) E E kR kR E qD) E ?_;refine A5j hs E (H1 E kR Ce qR) E ?_;refine K9 hs E (F7 (i:=4) (e:=40) (n:=8) (sz:=1) E E kR kR E qD) E ?_;refine A5j hs E (H1 E kR Ce qR) E ?_;refine K9 hs E (F7 (i:=4) (e:=40) (n:=8) (sz:=1) E E kR kR E qD) E ?_;refine A5j hs E (H1 E kR Ce qR) E ?_;refine B6h E E (R8 (aS E (aS E a0)) kR (Y4 _ 6 _ _ re' qD qD E) E ⟨λ_ h=>h,?_⟩);refine B6h E E (R8 (aS E (aS E a0)) kR (Y4 _ 11 _ _ re' qD qD E) E ⟨λ_ h=>h,?_⟩);refine K9 hs E (U8 E E (Q5 re') (Q5 re')) E ?_;refine A10 E E E (R8 (aS E (aS E a0)) kR (Y4 _ 25 _ _ re' qD qD E) E ?_);refine K9 hs E (U8 E E (xor32 (Q5 re') (Q5 re')) (Q5 re')) E ?_;refine K9 hs E (G2 E) E ?_;refine A3z (N1 2 4 5 12 13 14 103) ?_;refine A1 ?_;refine lQ_ (F7 (i:=4) (e:=40) (n:=8) (sz:=1) E E kR kR E qD) ?_;refine A1s E kR qR E ?_;refine lQ_ (F7 (i:=5) (e:=40) (n:=8) (sz:=1) E E kR kR E qD) ?_;refine A1s E kR qR E ?_;refine lQ_ (A4j E E re' rf) ?_;refine lQ_ (F7 (i:=4) (e:=40) (n:=8) (sz:=1) E E kR kR E qD) ?_;refine A1s E kR qR E ?_;refine lQ_ (B9H E re') ?_;refine lQ_ (F7 (i:=6) (e:=40) (n:=8) (sz:=1) E E kR kR E qD) ?_;refine A1s E kR qR E ?_;refine lQ_ (A4j E E (xor32 qD re') rg) ?_;refine lQ_ (U8 E E (A8A re') (A8A (xor32 qD re'))) ?_;refine as_ (A0 (V4 2 4 5 12 13 14 15 103) ?_);refine A1r (_) [0,1,2,3,4,5,6,7,8,9,10,11,12,13,14] [(0,0),(1,1),(2,0),(3,0),(4,0),(5,0),(6,0),(7,0),(8,1),(9,0),(10,0),(11,0),(12,1),(13,0),(14,0)] kR kR qI λhs=>?_;refine K9 hs E (F7 (i:=7) (e:=40) (n:=8) (sz:=1) E E kR kR E qD) E ?_;refine A5j hs E (H1 E kR Ce qR) E ?_;refine K9 hs E qm_ E ?_;refine K9 hs E (A0t E E) E ?_;refine K9 hs E qm_ E ?_;refine K9 hs E (A0t E E) E ?_;refine K9 hs E qm_ E ?_;refine K9 hs E (F7 (i:=i) (e:=40) (n:=64) (sz:=1) E E kR kR E qO) E ?_;refine A5j hs E (H9 i E kR (mA hk) qO (show i<64 from hlt)) E ?_;refine K9 hs E (A0t E E) E ?_;refine K9 hs E qm_ E ?_;refine K9 hs E (F7 (i:=i) (e:=40) (n:=64) (sz:=1) E E kR kR E qO) E ?_;refine A5j hs E (H9 i E kR Ce qO qO) E ?_;refine K9 hs E (A0t E E) E ?_;refine K9 hs E (G2 E) E ?_;refine A3z (G9 2 4 5 12 16 103) ?_;refine A1r (_) [0,1,2,3,4,5,6,7,8,10,11] [(0,0),(1,1),(3,0),(4,1),(7,0),(8,1),(2,2),(5,2),(6,0),(9,2),(10,0),(11,0)] kR kR qI λhs=>?_;refine K9 hs E (F7 (i:=0) (e:=40) (n:=8) (sz:=1) E E kR kR E qD) E ?_;refine A5j hs E (H1 E kR Ce qR) E ?_;refine K9 hs E (F7 (i:=0) (e:=40) (n:=8) (sz:=1) E E kR kR E qD) E ?_;refine A5j hs E (H1 E kR Ce qR) E ?_;refine K9 hs E (F7 (i:=0) (e:=40) (n:=8) (sz:=1) E E kR kR E qD) E ?_;refine A5j hs E (H1 E kR Ce qR) E ?_;refine B6h E E (R8 (aS E (aS E a0)) kR (Y4 _ 2 _ _ ra qD qD E) E ⟨λ_ h=>h,?_⟩);refine B6h E E (R8 (aS E (aS E a0)) kR (Y4 _ 13 _ _ ra qD qD E) E ⟨λ_ h=>h,?_⟩);refine K9 hs E (U8 E E (Q5 ra) (Q5 ra)) E ?_;refine A10 E E E (R8 (aS E (aS E a0)) kR (Y4 _ 22 _ _ ra qD qD E) E ?_);refine K9 hs E (U8 E E (xor32 (Q5 ra) (Q5 ra)) (Q5 ra)) E ?_;refine K9 hs E (G2 E) E ?_;refine A3z (N1 2 4 5 12 16 17 103) ?_;refine A1 ?_;refine lQ_ (F7 (i:=0) (e:=40) (n:=8) (sz:=1) E E kR kR E qD) ?_;refine A1s E kR qR E ?_
    refine lQ_ (F7 (i:=1) (e:=40) (n:=8) (sz:=1) E E kR kR E qD) ?_;refine A1s E kR qR E ?_;refine lQ_ (A4j E E ra rb) ?_;refine lQ_ (F7 (i:=0) (e:=40) (n:=8) (sz:=1) E E kR kR E qD) ?_;refine A1s E kR qR E ?_;refine lQ_ (F7 (i:=2) (e:=40) (n:=8) (sz:=1) E E kR kR E qD) ?_;refine A1s E kR qR E ?_;refine lQ_ (A4j E E ra rc) (lQ_ (U8 E E (A8A ra) (A8A ra)) ?_);refine lQ_ (F7 (i:=1) (e:=40) (n:=8) (sz:=1) E E kR kR E qD) ?_;refine A1s E kR qR E ?_;refine lQ_ (F7 (i:=2) (e:=40) (n:=8) (sz:=1) E E kR kR E qD) ?_;refine A1s E kR qR E ?_;refine lQ_ (A4j E E rb rc) (lQ_ (U8 E E (xor32 (A8A ra) (A8A ra)) (A8A rb)) (aS_ E (A0 (V4 2 4 5 12 16 17 18 103) (C1 (mV_ E (mV_ E (lQ_ (A0t E E) (mV_ E (lQ_ (A0t E E) ?_)))))))));refine lQ_ (F7 (i:=0) (e:=40) (n:=8) (sz:=1) E E kR kR E qD) ?_;refine A1s E kR qR E ?_;refine lQ_ (F7 (i:=1) (e:=40) (n:=8) (sz:=1) E E kR kR E qD) ?_;refine A1s E kR qR E ?_;refine lQ_ (F7 (i:=2) (e:=40) (n:=8) (sz:=1) E E kR kR E qD) ?_;refine A1s E kR qR E ?_;refine lQ_ (F7 (i:=3) (e:=40) (n:=8) (sz:=1) E E kR kR E qD) ?_;refine A1s E kR qR E ?_;refine mV_ E (lQ_ (A0t E E) ?_);refine lQ_ (F7 (i:=4) (e:=40) (n:=8) (sz:=1) E E kR kR E qD) ?_;refine A1s E kR qR E ?_;refine lQ_ (F7 (i:=5) (e:=40) (n:=8) (sz:=1) E E kR kR E qD) ?_;refine A1s E kR qR E ?_;refine lQ_ (F7 (i:=6) (e:=40) (n:=8) (sz:=1) E E kR kR E qD) ?_;refine A1s E kR qR E ?_;refine lQ_ (E6 (place:=λi=>some (i*1,1)) (z:=[D3,D3,D3,D3,D3,D3,D3,D3]) (λ_=>by kernel_rfl) (eS E (eS E (eS E (eS E (eS E (eS E (eS E (eS E e0)))))))) (bdS 0 1 E qR (bdS 1 1 E qR (bdS 2 1 E qR (bdS 3 1 E qR (bdS 4 1 E qR (bdS 5 1 E qR (bdS 6 1 E qR (bdS 7 1 E qR bd0))))))))) ?_;refine A9p E E kR qR (by simp [Value.oneCell']) ?_;refine C5 (nb (nx (E9 2 4 5 12 103) (C1 ?_)));refine lQ_ (D2 ((i+1:Nat):Int) E E (F5 qO qO qO)) ?_;refine mv_ (C5 ?_);refine rn (i+1) qO qO (E9 2 4 5 12 103) (Cg ?_) qI;rw [rounds,hr];rfl
   .
    have hlt:i=64:=by simp at hc;omega
    subst hlt;refine D6 (te (re (be E (nx (D5 2 4 12) (A3 (A1 (mV_ E (A0 (D7 2 4 12 194) (A6 ?_)))))))));refine E0 (α:=Nat) (λi=>[(2,(vP b2)),(4,(vP b4)),(12,(vP b12)),(194,.int .i64 (i:Int))]) (λi=>[(b12,blk (nums .u32 r.list) _),(b5,blk (nums .u32 W) _),(b4,blk (A7s ⟨0,0,0,0,0,0,0,0⟩) _),(b2,blk (nums .u32 (A4n s r i)) _)]) (λ_=>[]) (λi=>i<=8) (λi=>8-i) 0 (Am _) (D7 2 4 12 194) .rfl qI ?_;intro i hi
    try dsimp only at hi ⊢
    refine A1 (lQ_ (E3 E E E) (A0 (E9 2 4 12 194 195) (A3 ?_)));refine C2 E ?_ ?_<;>intro hc
    .
     have hlt:i<8:=by simp at hc;omega
     refine A4 (nx (D7 2 4 12 194) (A3 (A6 (A1 (mv_ (as_ (A0 (E9 2 4 12 19 194) ?_)))))));refine A2z (_) [0,1,2,3,4,5,6,7] [(0,0),(1,0),(2,1),(3,0),(4,0),(5,1),(6,0),(7,0),(8,2)] kR kR qI λhs=>?_;refine K9 hs E qm_ E ?_;refine K9 hs E (F7 (i:=i) (e:=40) (n:=8) (sz:=1) E E kR kR E qO) E ?_;refine A5j hs E (H9 i E kR Ce qO (by rw [A5y _ _ _ hi];exact hlt)) E ?_;refine K9 hs E qm_ E ?_;refine K9 hs E (F7 (i:=i) (e:=40) (n:=8) (sz:=1) E E kR kR E qO) E ?_;refine A5j hs E (H9 i E kR Ce qO (show i<8 from hlt)) E ?_;refine K9 hs E (A0t E E) E ?_;refine K9 hs E (F7 (i:=i) (e:=40) (n:=8) (sz:=1) E E kR kR E qO) E ?_;refine A10 E E E (K4 (ws:=A4n s r i) i E E kR qO (by rw [A5y _ _ _ hi];exact hlt) Cv ?_);refine A7n ?_;refine nb (nx (D7 2 4 12 194) (C1 ?_));refine lQ_ (D2 ((i+1:Nat):Int) E E (F5 qO qO qO)) ?_;refine mv_ (C5 ?_);refine rn (i+1) qO qO (D7 2 4 12 194) (Cg ?_) qI;rw [B0C _ _ _ hlt,A8C _ _ _ hlt]
    .
     have hlt:i=8:=by simp at hc;omega
     subst hlt;refine D6 (te (re (be E (nx (D0 2 4) (A1 ?_)))));refine B1J (n:=8) E kR qR E ?_;refine A9p E E kR qR E7 ?_;refine A0 (D1 4) (A9 ?_);refine ⟨_,[],[],A1l (n:=8) E E kR m2 E,Aa _,by simp,?_,E,E⟩;unfold Y3;rw [hW0,hW,hr];rfl

end Go.Proofs.YtgpjndfgjjlhaaaGreatDoor
namespace Go.Px
variable{M:Mem}{x:Nat×Obj}
theorem Fit.head1'{D:Mem}{E0_:Mem}(h:E0_.Sublist D):Fit (M++(x::D)) (M++E0_):=Fit.sub (List.Sublist.append (List.Sublist.refl _) (.cons _ h))
variable{B:Mem}
theorem pkB0:(x::B).Perm (B++[x]):=(List.perm_append_comm (l₁:=[x]))
def vHi(h:Nat):Value->Value
  | .slice p _ c=>.slice p h c
  | v=>v
def vLo(k sz:Nat):Value->Value
  | .slice p n c=>.slice (if c=k then p else p.map (·.add (k*sz))) (n-k) (c-k)
  | v=>v
def vAt(sz:Nat)(i:Nat):Value->Value
  | .slice (some a) _ _=>.pointer (some (a.add (i*sz)))
  | v=>v
variable{R:Mem}{sz n:Nat}{v:Value}{xs:List Value}
theorem Rd.hiV(h:Rd R sz v n xs)(k:Nat)(hk:k<=n):Rd R sz (vHi k v) k (xs.take (k*sz)):=by obtain ⟨p,c,rfl,h2,h3,h4⟩:=h;exact Rd.hi ⟨p,c,E,h2,h3,h4⟩ k hk
theorem Rd.loV(h:Rd R sz v n xs)(k:Nat)(hk:k<=n):Rd R sz (vLo k sz v) (n-k) (xs.drop (k*sz)):=by obtain ⟨p,c,rfl,h2,h3,h4⟩:=h;exact Rd.lo ⟨p,c,E,h2,h3,h4⟩ k hk
theorem Sl.hiV(h:Sl sz v n xs B)(k:Nat)(hk:k<=n):Sl sz (vHi k v) k (xs.take (k*sz)) B:=by obtain ⟨p,c,rfl,_⟩:=h.val;exact h.hi k hk
theorem Sl.loV(h:Sl sz v n xs B)(k:Nat)(hk:k<=n):∃B',B'.Sublist B∧Sl sz (vLo k sz v) (n-k) (xs.drop (k*sz)) B':=by obtain ⟨p,c,rfl,_⟩:=h.val;exact h.lo k hk
theorem Rd.len(h:Rd R sz v n xs):xs.length=n*sz:=by obtain ⟨p,c,rfl,h2,h3,h4⟩:=h;exact h2
def slE(P:Program)(t:TypeId):Option Nat :=
  match P.underlying t with
  | some (.slice e)=>N2 P e
  | _=>none
variable{t:TypeId}
theorem A2F{P:Program}(h:slE P t=some sz):∃e,P.underlying t=some (.slice e)∧N2 P e=some sz:=by
  unfold slE at h;split at h
  . rename_i e hu;exact ⟨e,hu,h⟩
  . cases h
variable{k:IntKind}{i:Int}{j m b:Nat}{u:Value}{ws:List Nat}{cs:List Value}
section rules
variable{P:Program}{R:Mem}{l:Env}{d:Option Nat}{ty t t' e:TypeId}{pos:String}{af:Array Edge}{g:Option (Nat×Bool)}{x y z:Operand}{v:Value}{sz n:Nat}{xs:List Value}{R':Mem}
theorem A1n(h:Rd R' sz v n xs)(hx:ev l x=some v)(hu:slE P t=some sz) :
    OpQ P R ⟨d,.call { callee:=.builtin .len,args:=#[x],argTypes:=#[t] },ty,pos,af,g⟩ l (.int .i64 n):=by
  obtain ⟨p,c,rfl,_⟩:=h;obtain ⟨e,hu,hs⟩:=A2F hu;exact A0r hx hu
theorem B9N(h:Rd R' sz v n xs)(hx:ev l x=some v)(hy:ev l y=some (.int k i))(hu:slE P t=some sz)(j:Nat)(hi:i=j)(hj:j<=n) :
    OpQ P R ⟨d,.slice t x none (some y) none,ty,pos,af,g⟩ l (vHi j v):=by
  obtain ⟨p,c,rfl,h2,h3,h4⟩:=h;obtain ⟨e,hu,hs⟩:=A2F hu;exact A7p hx hy hu hs hi (by omega)
theorem B9O(h:Rd R' sz v n xs)(hx:ev l x=some v)(hy:ev l y=some (.int k i))(hu:slE P t=some sz)(j:Nat)(hi:i=j)(hj:j<=n) :
    OpQ P R ⟨d,.slice t x (some y) none none,ty,pos,af,g⟩ l (vLo j sz v):=by
  obtain ⟨p,c,rfl,h2,h3,h4⟩:=h;obtain ⟨e,hu,hs⟩:=A2F hu;exact A9q hx hy hu hs hi (by omega) (by omega)
theorem C40(h:Rd R' sz v n xs)(hx:ev l x=some v){k':IntKind}{i':Int}(hy:ev l y=some (.int k i))(hz:ev l z=some (.int k' i'))(hu:slE P t=some sz)(a b:Nat)(hi:i=a)(hi':i'=b)(hab:a<=b)(hb:b<=n) :
    OpQ P R ⟨d,.slice t x (some y) (some z) none,ty,pos,af,g⟩ l (vLo a sz (vHi b v)):=by
  obtain ⟨p,c,rfl,h2,h3,h4⟩:=h;obtain ⟨e,hu,hs⟩:=A2F hu;exact B8u hx hy hz hu hs hi hi' (by omega) (by omega)
theorem B6o(h:Rd R' sz v n xs)(hx:ev l x=some v)(hy:ev l y=some (.int k i))(hu:slE P t=some sz)(j:Nat)(hi:i=j)(hj:j<n) :
    OpQ P R ⟨d,.indexAddr t x y,ty,pos,af,g⟩ l (vAt sz j v):=by
  obtain ⟨p,c,rfl,h2,h3,h4⟩:=h;rcases h4 with h4|⟨b,o,cs,e',fr,rfl,hb,hx'⟩
  . omega
  . obtain ⟨e,hu,hs⟩:=A2F hu;simp only [vAt,Addr.add_mid];exact L6 hx hy hu hs hi hj
theorem Z8(h:Rd R 1 v n xs)(hx:ev l x=some (vAt 1 j v))(ht:A0s P t=true)(hj:xs[j]? = some u):OpQ P R ⟨d,.load t x,ty,pos,af,g⟩ l u:=by
  obtain ⟨p,c,rfl,h2,h3,h4⟩:=h;have:=(Ac.1 hj).1;rcases h4 with h4|⟨b,o,cs,e',fr,rfl,hb,hx'⟩
  . omega
  . simp only [vAt,Addr.add_mid] at hx;refine H1 (b:=b) (o:=o+j*1) hx ht hb ?_;rw [Nat.mul_one];exact hx' j u hj
theorem A5A(h:Rd R 1 v n (nums k ws))(hx:ev l x=some (vAt 1 j v))(ht:A0s P t=true)(hj:j<n):OpQ P R ⟨d,.load t x,ty,pos,af,g⟩ l (.int k ((ws.getD j 0:Nat):Int)) :=
  Z8 h hx ht (W2 (by have:=h.len;simp at this;omega))
theorem A6g(hx:ev l x=some (.agg cs.toArray))(hy:ev l y=some (.int k i))(hu:P.underlying t=some (.array m e))(hs:N2 P e=some 1)(he:A0s P e=true)(hi:i=j)(hj:j<m)(hu':cs[j]? = some u) :
    OpQ P R ⟨d,.index t x y,ty,pos,af,g⟩ l u:=λN a w ha hw=>by
  subst hi;unfold N2 at hs
  cases hq:P.info? e with
  | none=>simp [hq] at hs
  | some inf =>
    simp only [hq,Option.map_some,Option.some.injEq] at hs
    have h1:(0:Int)<=(j:Int)∧(j:Int)<(m:Int):=⟨by omega,by omega⟩
    simp only [execOp,ha.ev hx,ha.ev hy,Instr.index,asIntOf,Sem.run_bind,Sem.run_pure,Result.andThen_ok,run_underlying hu];simp [h1,sizeOf,typeInfo,hq,hs,part,A3y he,hu']
theorem B6p(hx:ev l x=some (.pointer (some ⟨b,0,none⟩)))(hu:P.underlying t=some (.array m e))(hs:N2 P e=some sz) :
    OpQ P R ⟨d,.slice t x none none none,ty,pos,af,g⟩ l (.slice (some ⟨b,0,none⟩) m m):=λN a w ha hw=>by
  unfold N2 at hs
  cases hq:P.info? e with
  | none=>simp [hq] at hs
  | some inf =>
    simp only [execOp,ha.ev hx,Instr.sliceAt,Instr.sureAddr,Sem.run_bind,Sem.run_pure,run_underlying hu,Result.andThen_ok];have:=V9 (P:=P) (lo:=none) (hi:=none) (mx:=none) ha o0 o0 o0 false m m w (by simp) (by simp) (by simp) (by simp);simp only [Option.map_none] at this ⊢;simp only [this,Result.andThen_ok];simp [sizeOf,typeInfo,hq,Addr.add]
end rules
def txt(ws:List Nat):ByteArray:=⟨(ws.map UInt8.ofNat).toArray⟩
theorem B6q(ns:List Nat):∀s:ByteArray,(ns.map λn:Nat=>(n:Int)).foldl (λr n=>r.push (UInt8.ofNat n.toNat)) s=s++txt ns:=by
  induction ns with
  | nil=>intro s;apply ByteArray.ext;simp [txt,ByteArray.data_append]
  | cons n ns ih =>
    intro s;simp only [List.map_cons,List.foldl_cons,ih];apply ByteArray.ext;simp [txt,ByteArray.data_append]
section texts
variable{P:Program}{R:Mem}{l:Env}{d:Option Nat}{ty s t e:TypeId}{pos:String}{af:Array Edge}{g:Option (Nat×Bool)}{x y:Operand}{v:Value}{n:Nat}
def B1V(P:Program)(s t:TypeId):Bool :=
  match P.underlying s,P.underlying t with
  | some (.slice e),some .string=>match P.underlying e with
    | some (.int .u8)=>true
    | _=>false
  | _,_=>false
theorem A4o(h:Rd R 1 v n (nums .u8 ws))(hx:ev l x=some v)(hc:B1V P s t=true):OpQ P R ⟨d,.convert s t x,ty,pos,af,g⟩ l (.string (txt ws)):=λN a w ha hw=>by
  unfold B1V at hc;split at hc<;>try cases hc
  rename_i e h1 h2;split at hc<;>try cases hc
  rename_i h3;obtain ⟨p,c,rfl,hl,hcc,hb⟩:=h;have hn:ws.length=n:=by simpa using hl
  have he:nums .u8 ws=(ws.map λn:Nat=>(n:Int)).map (Value.int .u8):=by simp [nums]
  simp only [execOp,ha.ev hx,Sem.run_bind,run_convert_bytes_string w s t e _ _ _ h1 h3 h2]
  cases p with
  | none =>
    rcases hb with hb|⟨b,o,cs,e',fr,hp,hb,hx'⟩
    . have:ws=[]:=Bd (by omega);subst this;simp [Conv.bytesToString,Sem.run_pure,txt];rfl
    . cases hp
  | some ad =>
    have hload:(loadCells ad n).run P w=.ok (nums .u8 ws).toArray w:=by
      rcases hb with hb|⟨b,o,cs,e',fr,hp,hb,hx'⟩
      . have:ws=[]:=Bd (by omega);subst this;subst hb;simp [loadCells,loadCellsFrom,nums]
      . cases hp;have:=run_loadCells_list (P:=P) w ⟨b,o,none⟩ (nums .u8 ws) (λj v hv=>by rw [Addr.add_mid,A2e hw hb];simpa using hx' j v hv);rw [nums_len,hn] at this;exact this
    rw [he] at hload;rw [run_bytesToString w ad n c _ hload,B6q];simp [Sem.run_pure]
theorem A8D{a b:List Nat}(ha:∀x∈a,x<256)(hb:∀x∈b,x<256)(h:txt a=txt b):a=b:=by
  have h1:a.map UInt8.ofNat=b.map UInt8.ofNat:=by have:=congrArg ByteArray.data h;simpa [txt] using this
  have h2:=congrArg (List.map UInt8.toNat) h1;simp only [List.map_map] at h2
  have key:∀l:List Nat,(∀x∈l,x<256)->List.map (UInt8.toNat ∘ UInt8.ofNat) l=l:=by
    intro l hl
    conv=>rhs;rw [<- List.map_id l]
    refine Bv λx hx=>?_;have:=hl x hx;simp;omega
  rwa [key a ha,key b hb] at h2
theorem B0D(a b:List Nat):txt a++txt b=txt (a++b):=by apply ByteArray.ext;simp [txt,ByteArray.data_append]
end texts
variable{e':TypeId}{M':Mem}{by_:Nat}
section loud
variable{C:Cx}{l:Env}{M J:Mem}{K:Env->Mem->Mem->Prop}{ty t e:TypeId}{pos:String}{af:Array Edge}{g:Option (Nat×Bool)}{x y:Operand}{d:Nat}
def C2x(P:Program)(t:TypeId):Bool :=
  match P.underlying t with
  | some (.slice e)=>match P.underlying e with
    | some (.int .u8)=>true
    | _=>false
  | _=>false
theorem A3E{c:Nat}(hx:ev l x=some (.slice (some ⟨b,0,none⟩) n c))(hc:C2x C.P t=true)(hu:Upd M b (blk cs e') (.cells cs.toArray e' (cs.length,cs.length+1)) M')
    (hd:Nat.blt d C.N=true) (k:K ((d,.slice (some ⟨b,0,none⟩) n c)::l) M' J):OpL C ⟨some d,.convert t t x,ty,pos,af,g⟩ l M J K:=by
  intro Qp a w ha hw;unfold C2x at hc;split at hc<;>try cases hc
  rename_i e h1;split at hc<;>try cases hc
  rename_i h2;have hb:=hw.mem _ _ (Ae _ hu.mem);have hsh:w.shape? b=some (e',cs.length):=by unfold World.shape?;rw [hb];simp [blk]
  have hlt:=T4 hb
  have hrun:(execOp a.eval ⟨some d,.convert t t x,ty,pos,af,g⟩).run C.P w=.ok (.value (.slice (some ⟨b,0,none⟩) n c)) (w.freeze ⟨b,cs.length,none⟩ 1):=by simp [execOp,ha.ev hx,convert,run_underlying h1,run_underlying h2,markStringish,hsh]
  unfold Oper.wp;rw [hrun];refine ⟨_,M',J,ha.put (L7 hd) _,hw.upd hu ?_ ?_ ?_ E E E,k⟩
  . simp only [World.freeze];rw [if_neg (by decide)];simp [Array.getElem?_modify,hb,blk]
  . intro j hj;simp only [World.freeze];rw [if_neg (by decide)];simp [Array.getElem?_modify,Ne.symm hj]
  . simp [World.freeze]
theorem B8w{us ws':List Nat}(hx:ev l x=some (.slice (some ⟨b,0,none⟩) m m))(hy:ev l y=some u)(ht:A1t C.P t=some (e,1,by_))
    (hr:Rd (M++(J++C.A)) 1 u n (nums k us)) (hn:n<=m) (hm:ws.length=m) (hw':ws'=us++ws.drop n) (hu:Upd M b (blk (nums k ws) e') (blk (nums k ws') e') M') (hd:Nat.blt d C.N=true) (h:K ((d,.int .i64 n)::l) M' J) :
    OpL C ⟨some d,.call { callee:=.builtin .copy,args:=#[x,y],argTypes:=#[t,t] },ty,pos,af,g⟩ l M J K:=by
  intro Qp a w ha hw;obtain ⟨i,z,hut,hi,hz,hzs,his,hib⟩:=Q1 ht;obtain ⟨pu,cu,rfl,hul,huc,hub⟩:=hr
  have hru:Rd (M++(J++C.A)) 1 (.slice pu n cu) n (nums k us):=⟨pu,cu,E,hul,huc,hub⟩
  have hb:=hw.mem _ _ (Ae _ hu.mem);have hf:=A2A (P:=C.P) (m:=n) (c2:=cu) hru hw.fx;have hus:us.length=n:=by simpa using hul
  have hst:=run_storeCells_at (P:=C.P) b 0 e' (nums k us) 0 (nums k ws).toArray w hb (by simp [hus,hm];exact hn) E7;simp only [Nat.add_zero,Nat.zero_add,List.take_zero,Cw,nums_len,hus] at hst;rw [<- A0Z,<- H4,<- hw'] at hst
  have hrun:(execOp a.eval ⟨some d,.call { callee:=.builtin .copy,args:=#[x,y],argTypes:=#[t,t] },ty,pos,af,g⟩).run C.P w=.ok (.value (.int .i64 n)) (w.setRow b (nums k ws').toArray):=by simp [execOp,resolve,invoke,builtin,ha.ev hx,ha.ev hy,Builtin.copy_,run_underlying hut,sizeOf,typeInfo,hi,his,Builtin.lenOf,Nat.min_eq_left hn,hf,hst,goInt]
  unfold Oper.wp;rw [hrun];exact ⟨_,M',J,ha.put (L7 hd) _,hw.setRow hu,h⟩
end loud
variable{e:TypeId}
theorem Sl.fresh(h:cs.length=n*sz)(hn:n<=maxLen):Sl sz (.slice (some ⟨b,0,none⟩) n n) n cs [(b,blk cs e)] :=
  .inr ⟨b,0,n,cs,e,E,E,Av _,hn,by omega,h,λj u hj=>by rwa [Nat.zero_add]⟩
theorem Rd.cel(h:Rd R sz v n xs):Cel v [v]:=by obtain ⟨p,c,rfl,_⟩:=h;exact ⟨E⟩
theorem Sl.cel(h:Sl sz v n xs B):Cel v [v]:=by obtain ⟨p,c,rfl,_⟩:=h.val;exact ⟨E⟩
def mkT(P:Program)(t:TypeId):Option (TypeId×IntKind×Nat) :=
  match P.underlying t with
  | some (.slice e)=>match P.info? e with
    | some i=>match i.zero with
      | some (.int k 0)=>if i.size=1 then some (e,k,i.bytes) else none
      | _=>none
    | none=>none
  | _=>none
theorem B1W(k:IntKind)(n:Nat):madeCells #[.int k 0] n=(nums k (List.replicate n 0)).toArray:=by
  apply Array.ext
  . simp [madeCells]
  . intro i h1 h2;simp [madeCells,nums,Nat.mod_one]
variable{K:Env->Mem->Mem->Prop}{ty:TypeId}{pos:String}{af:Array Edge}{g:Option (Nat×Bool)}{y:Operand}
theorem A0S{C:Cx}{l:Env}{J:Mem}{x:Operand}{d:Nat}{kl kc:IntKind}{j:Int}(n:Nat)(hx:ev l x=some (.int kl i))(hy:ev l y=some (.int kc j))(ht:mkT C.P t=some (e,k,by_))(hi:i=n)(hj:j=n)
    (hb:by_*n<=281474976710656) (hn:n<=9223372036854775807) (hd:Nat.blt d C.N=true) (h:∀b,K ((d,.slice (some ⟨b,0,none⟩) n n)::l) ((b,blk (nums k (List.replicate n 0)) e)::M) J) :
    OpL C ⟨some d,.makeSlice t x y,ty,pos,af,g⟩ l M J K:=by
  intro Qp a w ha hw;subst hi;subst hj;unfold mkT at ht;split at ht<;>try cases ht
  rename_i e' hu;split at ht<;>try cases ht
  rename_i inf hi;split at ht<;>try cases ht
  rename_i k' hz;split at ht<;>simp only [Option.some.injEq,Prod.mk.injEq,reduceCtorEq] at ht;rename_i hs;obtain ⟨rfl,rfl,rfl⟩:=ht;have hb':(inf.bytes:Int)*(n:Int)<=281474976710656:=by rw [<- Int.natCast_mul];omega
  have hr:=run_make (P:=C.P) w t e' inf _ hu hi hz kl kc n n (by omega) (by omega) hb' (by omega);simp only [Int.toNat_natCast,hs,Nat.mul_one] at hr;rw [show (Value.int k' 0).cells=#[.int k' 0] from rfl,B1W] at hr;unfold Oper.wp;simp only [execOp,ha.ev hx,ha.ev hy,Sem.run_bind,hr,Result.andThen_ok,Sem.run_pure];exact ⟨_,_,J,ha.put (L7 hd) _,hw.alloc _,h _⟩
theorem C41{C:Cx}{l:Env}{J:Mem}{x:Operand}{u:Nat}{M0:Mem}(h:Sl 1 v n (nums k ws) B)(hx:ev l x=some (vAt 1 j v))(hy:ev l y=some (.int k (u:Int)))
    (ht:N2 C.P t=some 1) (hj:j<n) (hM:M.Perm (B++M0)) (h2:∀B',Sl 1 v n (nums k (ws.set j u)) B'->K l (B'++M0) J) :
    OpL C ⟨none,.store t x y,ty,pos,af,g⟩ l M J K:=by
  suffices hh:OpL C ⟨none,.store t x y,ty,pos,af,g⟩ l (B++M0) J K from λQp a w ha hw=>hh Qp a w ha (hw.fit (Fit.perm hM) λ_ h=>h)
  clear hM;rcases h with ⟨p,rfl,rfl,hx2,rfl⟩|⟨b,o,cap,cs,e,rfl,rfl,h3,h4,h5,h6,h7⟩
  . omega
  . simp only [vAt,Addr.add_mid,Nat.mul_one] at hx;refine E1 hx hy E ht (A3Y (by omega)) .hd (h2 [_] (.inr ⟨b,o,cap,_,e,E,E,h3,h4,by simpa using h5,by simpa using h6,?_⟩));intro i w hi;rw [A6c] at hi;rw [List.getElem?_set] at hi ⊢;by_cases hij:j=i
    . subst hij;simp only [if_true] at hi ⊢;simp at hi h6;rw [if_pos (by omega)];rw [<- hi.2]
    . rw [if_neg hij] at hi;rw [if_neg (by omega)];exact h7 i w hi
variable{n':Nat}{xs':List Value}
theorem A0J(h:Rd R 1 v n xs)(h1:n=n')(h2:xs=xs'):Rd R 1 v n' xs':=by subst h1;subst h2;exact h
theorem W6(h:Sl 1 v n xs B)(h1:n=n')(h2:xs=xs'):Sl 1 v n' xs' B:=by subst h1;subst h2;exact h
end Go.Px

namespace Go.Proofs.YtgpjndfgjjlhaaaGreatDoor
open Go.Px
def B1X(R:Mem)(v:Value)(ps:List (LN)):Prop :=
  ∃vs:List Value,Rd R 1 v ps.length vs∧∀(i:Nat) (p:LN),ps[i]? = some p->(∀x∈p,x<256)∧∃u,vs[i]? = some u∧Rd R 1 u p.length (nums .u8 p)
def A16(ps:List (LN))(i:Nat):LN:=(ps.take i).flatten
variable{ps:List (LN)}{i:Nat}
theorem B1Y{p:LN}(h:ps[i]? = some p):A16 ps (i+1)=A16 ps i++p:=by unfold A16;rw [Bh,h];simp
theorem A6h(ps:List (LN)):A16 ps ps.length=ps.flatten:=by unfold A16;rw [List.take_length]
theorem B9P(ps:List (LN))(i:Nat):(A16 ps i).length<=ps.flatten.length:=by have h:=congrArg (λl=>(List.flatten l).length) (List.take_append_drop i ps);simp only [List.flatten_append,List.length_append] at h;unfold A16;omega
theorem B1Z(h:∀(i:Nat) (p:LN),ps[i]? = some p->∀x∈p,x<256)(i:Nat):∀x∈A16 ps i,x<256:=by intro x hx;obtain ⟨p,hp,hx⟩:=List.mem_flatten.1 hx;obtain ⟨j,hj⟩:=List.getElem?_of_mem (Bz hp);exact h j p hj x hx
theorem B0E(m:LN):(N0 m).length=64*((N0 m).length/64)∧64*(m.length/64)<=(N0 m).length∧(N0 m).length<=m.length+73:=by
  have e:(N0 m).length=m.length+1+A4k m.length+8:=by simp [N0,B6m];omega
  have hz:A4k m.length=(119-m.length%64)%64:=rfl;omega
theorem A8E(m:LN)(k:Nat)(h:64*k<=m.length):(N0 m).drop (64*k)=m.drop (64*k)++(128::(List.replicate (A4k m.length) 0++B6m m.length 8)):=by unfold N0;rw [List.drop_append_of_le_length h]
theorem B2a{m:LN}(h:∀x∈m,x<256):∀x∈N0 m,x<256:=by
  intro x hx;unfold N0 at hx;rcases List.mem_append.1 hx with hx|hx
  . exact h x hx
  . rcases List.mem_cons.1 hx with rfl|hx
    . decide
    . rcases List.mem_append.1 hx with hx|hx
      . rw [(List.mem_replicate.1 hx).2];decide
      . obtain ⟨i,_,rfl⟩:=List.mem_map.1 hx;exact Ad _ qD
variable{k:IntKind}
theorem A7t{ws:LN}(n:Nat):(nums k ws).take (n*1)=nums k (ws.take n):=by rw [Nat.mul_one,A1v]
theorem A7u{ws:LN}(n:Nat):(nums k ws).drop (n*1)=nums k (ws.drop n):=by rw [Nat.mul_one,A0Z]
theorem B2b(s t:S8):(nums .u32 s.list).length=(nums .u32 t.list).length:=by rw [nums_len,nums_len];simp [S8.list]
theorem B2c(n k:Nat):B6m n (k+1)=B6m n k++[(8*n) >>> (56-8*k)%256]:=by simp [B6m,List.range_succ]
variable{ef ek:TypeId}{ff fk:Nat×Nat}
theorem A1Q(v:Value)(ps:List (LN))(A:Mem)(hv:B1X A v ps)(htot:ps.flatten.length<=2147483648)(hcnt:ps.length<=2147483648)(h0:(0,Obj.cells (nums .u32 A3C.list).toArray ef ff)∈A)(h1:(1,Obj.cells (nums .u32 A2x).toArray ek fk)∈A) :
  FnX prog 89 [v] [] A λr M J=>J=[]∧Sl 1 r 32 (nums .u8 (Y7 ps.flatten)) M:=by
 obtain ⟨vs,hvs,hps⟩:=hv;refine Cn (N:=90) func89 E E E λw=>?_;refine A8 (D1 0) (A1 (as_ (A0 (D1 0) (A1 ?_))));refine lQ_ (H0 (cs:=nums .u32 A3C.list) (n:=8) E kR (mA h0) qR) ?_;refine A2 E (C3 (cs:=[D3,D3,D3,D3,D3,D3,D3,D3]) kR E λb3=>?_);refine A9p E E kR qR E7 ?_;refine aS_ E (A0 (D5 0 3 4) (A1 (aS_ E (A0 (D7 0 3 4 5) (A3 (A1 (mV_ E (lQ_ (A1n hvs E kR) (mv_ (A0 (G9 3 4 5 13 14 15) (A6 ?_)))))))))));refine E0 (α:=Nat×Value×Mem) (λx=>[(3,(vP b3)),(4,.int .i64 ((A16 ps x.1).length:Int)),(5,x.2.1),(13,v),(14,.int .i64 (ps.length:Int)),(15,.int .i64 (x.1:Int))]) (λx=>x.2.2++[(b3,blk (nums .u32 (A5m A2x ((A16 ps x.1).length/64) A3C (A16 ps x.1)).list) 188)]) (λ_=>[]) (λx=>x.1<=ps.length∧Sl 1 x.2.1 ((A16 ps x.1).length-64*((A16 ps x.1).length/64)) (nums .u8 ((A16 ps x.1).drop (64*((A16 ps x.1).length/64)))) x.2.2) (λx=>ps.length-x.1) (0,vS,[]) ⟨Am _,W6 Sl.nil (by simp [A16]) (by simp [A16,nums])⟩ (G9 3 4 5 13 14 15) (Cg (by simp [A16,A5m])) qI ?_;rintro ⟨i,rv,B⟩ ⟨hi,hsl⟩;dsimp only at hi hsl ⊢;refine A1 (lQ_ (E3 E E E) (A0 (N1 3 4 5 13 14 15 16) (A3 ?_)));refine C2 E ?_ ?_<;>intro hc
 .
  have hlt:i<ps.length:=by simp at hc;omega
  obtain ⟨q,hq⟩:∃q,ps[i]? = some q:=⟨_,Ab hlt⟩
  obtain ⟨hq256,u,hu,hqr⟩:=hps i q hq;have hps1:=B1Y hq;have hle1:=B9P ps (i+1);have hpl:(A16 ps (i+1)).length=(A16 ps i).length+q.length:=by rw [hps1,An]
  generalize hm:A16 ps i=m at *;refine A4 (nx (G9 3 4 5 13 14 15) (A3 (A6 (A1 ?_))));refine lQ_ (B6o hvs E E kR i E hlt) ?_;refine lQ_ (Z8 (hvs.mono λ_ h=>mA h) E kR hu) (aS_ E (A0 (N1 3 4 5 7 13 14 15) (A1 (mV_ E (mV_ E (lQ_ (A1n hqr E kR) ?_))))));refine lQ_ (D2 (((A16 ps (i+1)).length:Nat):Int) E E (F5 qO qO qO)) ?_;refine as_ (A0 (N1 3 4 5 7 13 14 15) (A1 (mv_ (mv_ ?_))));refine A2 E (V8 (e:=5) (sz:=1) (by_:=1) (m:=q.length) (B:=B) E E kR E hsl (hqr.mono λ_ h=>mA h) E7 (.refl _) (by unfold maxLen;omega) qO E λrv1 B1 hsl1=>?_);have hsl1:Sl 1 rv1 ((A16 ps (i+1)).length-64*(m.length/64)) (nums .u8 ((A16 ps (i+1)).drop (64*(m.length/64)))) B1:=W6 hsl1 qO (by rw [hps1,List.drop_append_of_le_length qO,H4]);refine as_ (A0 (G9 3 4 5 13 14 15) (A6 ?_));refine E0 (α:=Nat×Value×Mem) (λx=>[(3,(vP b3)),(4,.int .i64 ((A16 ps (i+1)).length:Int)),(5,x.2.1),(13,v),(14,.int .i64 (ps.length:Int)),(15,.int .i64 (i:Int))]) (λx=>x.2.2++[(b3,blk (nums .u32 (A5m A2x x.1 A3C (A16 ps (i+1))).list) 188)]) (λ_=>[]) (λx=>64*x.1<=(A16 ps (i+1)).length∧Sl 1 x.2.1 ((A16 ps (i+1)).length-64*x.1) (nums .u8 ((A16 ps (i+1)).drop (64*x.1))) x.2.2) (λx=>(A16 ps (i+1)).length-64*x.1) (m.length/64,rv1,B1) ⟨by dsimp only;omega,hsl1⟩ (G9 3 4 5 13 14 15) (Cg (by dsimp only;rw [hps1,A6f _ _ _ _ _ qO])) qI ?_;clear hsl1 hsl;rintro ⟨k,rv,B⟩ ⟨hk1,hsl⟩;dsimp only at hk1 hsl ⊢;refine A3 (A1 (mV_ E (lQ_ (A1n (hsl.rd λ_ h=>h) E kR) (lQ_ (E3 E E E) (A0 (N1 3 4 5 13 14 15 28) ?_)))));refine C2 E ?_ ?_<;>intro hc
  .
   have hge:64<=(A16 ps (i+1)).length-64*k:=by simp at hc;omega
   obtain ⟨B2,hB2,hsl2⟩:=hsl.loV 64 hge;refine A4 (nx (G9 3 4 5 13 14 15) (A6 ?_));refine A1r (_) [0,1,2] [(0,1),(1,0),(2,0),(3,2),(4,2)] kR kR qI λhs=>?_;refine A5j hs E (H0 (n:=8) E kR Ce qR) E ?_;refine K9 hs E qm_ E ?_;refine K9 hs E (B9N (hsl.rd λ_ h=>h) E E kR 64 E hge) E ?_;refine A10 E E E (R8 (aS E (aS E a0)) kR (A5z _ (A6e _ _ _ A6d) _ (λx hx=>(B1Z (λj p hp=>(hps j p hp).1) (i+1)) x (List.mem_of_mem_drop (Bz hx))) _ _ (A0J ((hsl.rd λ_ h=>by simp [h]).hiV 64 hge) E (A7t 64)) (mA h1)) E ?_);refine A10 E E E (A5 E E E kR (B2b _ _) E7 Cv ?_);refine A3z (G9 3 4 5 13 14 15) ?_;refine C1 (mV_ E (lQ_ (B9O (hsl.rd λ_ h=>h) E E kR 64 E hge) (as_ (C5 (nb ?_)))));refine rn (k+1,_,B2) ⟨by dsimp only;omega,W6 hsl2 (by dsimp only;omega) (by rw [A7u,List.drop_drop];rfl)⟩ (by dsimp only;omega) (G9 3 4 5 13 14 15) ?_ qI;dsimp only;rw [A4l];exact Ck (List.Sublist.append hB2 (Ao _))
  .
   have hge:k=(A16 ps (i+1)).length/64:=by simp at hc;omega
   subst hge;refine D6 (te (re (be E (nb (nx (G9 3 4 5 13 14 15) (C1 ?_))))));refine lQ_ (D2 ((i+1:Nat):Int) E E (F5 qO qO qO)) ?_;refine mv_ (C5 ?_);refine rn (i+1,_,B) ⟨by dsimp only;omega,hsl⟩ (by dsimp only;omega) (G9 3 4 5 13 14 15) .rfl qI
 .
  have hlt:i=ps.length:=by simp at hc;omega
  subst hlt;rw [A6h] at hsl;simp only [A6h];generalize hm:ps.flatten=m at *;refine D6 (te (re (be E (nx (D5 3 4 5) (A1 (mv_ ?_))))));refine A2 E (C4 (e:=5) (sz:=1) (z:=[zu8]) kR (eS E e0) (bdS 0 1 E qR bd0) E λb37=>?_);have hm256:∀x∈m,x<256:=by rw [<- hm,<- A6h];exact B1Z (λj p hp=>(hps j p hp).1) _
  have htot':m.length<=2147483648:=htot;refine A2 E (V8 (e:=5) (sz:=1) (by_:=1) (m:=1) (B:=B) (ys:=nums .u8 [128]) (M0:=(b37,_)::_) E E kR E hsl (Cr (n:=1) m0 qR) E7 pkB (by unfold maxLen;omega) qO E λrv1 B1 hsl1=>?_);clear hsl;have hsl1:Sl 1 rv1 (m.length%64+1) (nums .u8 (m.drop (64*(m.length/64))++[128])) B1:=W6 hsl1 qO (by rw [H4]);refine as_ (A0 (D5 3 4 5) (A3 (A6 ?_)));refine E0 (α:=Nat×Value×Mem) (λx=>[(3,(vP b3)),(4,.int .i64 (m.length:Int)),(5,x.2.1)]) (λx=>x.2.2++[(b3,blk (nums .u32 (A5m A2x (m.length/64) A3C m).list) 188)]) (λ_=>[]) (λx=>x.1<=A4k m.length∧Sl 1 x.2.1 (m.length%64+1+x.1) (nums .u8 (m.drop (64*(m.length/64))++(128::List.replicate x.1 0))) x.2.2) (λx=>A4k m.length-x.1) (0,rv1,B1) ⟨Am _,hsl1⟩ (D5 3 4 5) (Fit.head1' (Ao _)) qI ?_;clear hsl1;rintro ⟨z,rv,B⟩ ⟨hz,hsl⟩;dsimp only at hz hsl ⊢;have hzz:A4k m.length=(119-m.length%64)%64:=rfl;refine A3 (A1 (mV_ E (lQ_ (A1n (hsl.rd λ_ h=>h) E kR) ?_)));refine lQ_ (B1O (b:=64) E E qD) ?_;refine lQ_ (E3 E E E) (A0 (D7 3 4 5 42) ?_);refine C2 E ?_ ?_<;>intro hc
  .
   have hlt:z<A4k m.length:=by simp at hc;omega
   refine A4 (nx (D5 3 4 5) (A6 (C1 (mv_ ?_))));refine A2 E (C4 (e:=5) (sz:=1) (z:=[zu8]) kR (eS E e0) (bdS 0 1 E qR bd0) E λb44=>?_);refine A2 E (V8 (e:=5) (sz:=1) (by_:=1) (m:=1) (B:=B) (ys:=nums .u8 [0]) (M0:=(b44,_)::_) E E kR E hsl (Cr (n:=1) m0 qR) E7 pkB (by unfold maxLen;omega) qO E λrv1 B1 hsl1=>?_);refine as_ (C5 (nb ?_));refine rn (z+1,rv1,B1) ⟨by dsimp only;omega,W6 hsl1 (by dsimp only;omega) ?_⟩ (by dsimp only;omega) (D5 3 4 5) (Fit.head1' (Ao _)) qI;dsimp only;rw [<- H4,Ap,List.cons_append,<- List.replicate_succ']
  .
   have hlt:z=A4k m.length:=by simp at hc;omega
   subst hlt;refine D6 (te (re (be E (nx (D5 3 4 5) (A3 (A1 (mV_ E (A0 (D7 3 4 5 46) (A6 ?_)))))))));refine E0 (α:=Nat×Value×Mem) (λx=>[(3,(vP b3)),(4,.int .i64 (m.length:Int)),(5,x.2.1),(46,.int .i64 (x.1:Int))]) (λx=>x.2.2++[(b3,blk (nums .u32 (A5m A2x (m.length/64) A3C m).list) 188)]) (λ_=>[]) (λx=>x.1<=8∧Sl 1 x.2.1 (m.length%64+1+A4k m.length+x.1) (nums .u8 (m.drop (64*(m.length/64))++(128::(List.replicate (A4k m.length) 0++B6m m.length x.1)))) x.2.2) (λx=>8-x.1) (0,rv,B) ⟨Am _,W6 hsl E (by simp [B6m])⟩ (D7 3 4 5 46) .rfl qI ?_;clear hsl;rintro ⟨i,rv,B⟩ ⟨hi,hsl⟩;dsimp only at hi hsl ⊢;refine A1 (lQ_ (E3 E E E) (A0 (E9 3 4 5 46 47) (A3 ?_)));refine C2 E ?_ ?_<;>intro hc
   .
    have hlt:i<8:=by simp at hc;omega
    refine A4 (nx (D7 3 4 5 46) (A3 (A6 (A1 (mV_ E (aS_ E (A0 (E9 3 4 5 8 46) (C1 (mv_ (mv_ ?_))))))))));refine lQ_ (D2 ((8*m.length:Nat):Int) E E (A11 qO qO qO)) ?_;refine lQ_ (A15 (k':=.u64) E kR (by show _<9223372036854775808;omega)) ?_;refine mv_ ?_;refine lQ_ (D2 ((8*i:Nat):Int) E E (A11 qO qO qO)) ?_;refine lQ_ (D2 ((56-8*i:Nat):Int) E E (V6 qO qO qO)) ?_;refine lQ_ (T9 (56-8*i) E E E (by show _<=64;omega)) ?_;refine lQ_ (A12 E kR) ?_;refine A2 E (C4 (e:=5) (sz:=1) (z:=[zu8]) kR (eS E e0) (bdS 0 1 E qR bd0) E λb58=>?_);refine A2 E (V8 (e:=5) (sz:=1) (by_:=1) (m:=1) (B:=B) (ys:=nums .u8 [(8*m.length) >>> (56-8*i)%256]) (M0:=(b58,_)::_) E E kR E hsl (Cr (n:=1) m0 qR) E7 pkB (by unfold maxLen;omega) qO E λrv1 B1 hsl1=>?_);refine as_ (C5 (nb (nx (D7 3 4 5 46) (C1 ?_))));refine lQ_ (D2 ((i+1:Nat):Int) E E (F5 qO qO qO)) ?_;refine mv_ (C5 ?_);refine rn (i+1,rv1,B1) ⟨by dsimp only;omega,W6 hsl1 (by dsimp only;omega) ?_⟩ (by dsimp only;omega) (D7 3 4 5 46) (Fit.head1' (Ao _)) qI;dsimp only;rw [<- H4,Ap,List.cons_append,Ap,<- B2c]
   .
    have hlt:i=8:=by simp at hc;omega
    subst hlt;refine D6 (te (re (be E (nx (D0 3 5) (A3 (A6 ?_))))));obtain ⟨hp1,hp2,hp3⟩:=B0E m;have hsl0:=W6 (n':=(N0 m).length-64*(m.length/64)) (xs':=nums .u8 ((N0 m).drop (64*(m.length/64)))) hsl (by simp [N0,B6m];omega) (by rw [A8E _ _ qO]);clear hsl;refine E0 (α:=Nat×Value×Mem) (λx=>[(3,(vP b3)),(5,x.2.1)]) (λx=>x.2.2++[(b3,blk (nums .u32 (A5m A2x x.1 A3C (N0 m)).list) 188)]) (λ_=>[]) (λx=>64*x.1<=(N0 m).length∧Sl 1 x.2.1 ((N0 m).length-64*x.1) (nums .u8 ((N0 m).drop (64*x.1))) x.2.2) (λx=>(N0 m).length-64*x.1) (m.length/64,rv,B) ⟨hp2,hsl0⟩ (D0 3 5) (Cg (by dsimp only;unfold N0;rw [A6f _ _ _ _ _ qO])) qI ?_;clear hsl0;rintro ⟨k,rv,B⟩ ⟨hk1,hsl⟩;dsimp only at hk1 hsl ⊢;refine A3 (A1 (mV_ E (lQ_ (A1n (hsl.rd λ_ h=>h) E kR) (lQ_ (E3 E E E) (A0 (D5 3 5 63) ?_)))));refine C2 E ?_ ?_<;>intro hc
    .
     have hge:64<=(N0 m).length-64*k:=by simp at hc;omega
     obtain ⟨B2,hB2,hsl2⟩:=hsl.loV 64 hge;refine A4 (nx (D0 3 5) (A3 (A6 ?_)));refine A2z (_) [0,1,2] [(0,1),(1,0),(2,0),(3,2),(4,2)] kR kR qI λhs=>?_;refine A5j hs E (H0 (n:=8) E kR Ce qR) E ?_;refine K9 hs E qm_ E ?_;refine K9 hs E (B9N (hsl.rd λ_ h=>h) E E kR 64 E hge) E ?_;refine A10 E E E (R8 (aS E (aS E a0)) kR (A5z _ (A6e _ _ _ A6d) _ (λx hx=>(B2a hm256) x (List.mem_of_mem_drop (Bz hx))) _ _ (A0J ((hsl.rd λ_ h=>by simp [h]).hiV 64 hge) E (A7t 64)) (mA h1)) E ?_);refine A10 E E E (A5 E E E kR (B2b _ _) E7 Cv ?_);refine A7n ?_;refine nb (nx (D0 3 5) (C1 (mV_ E (lQ_ (B9O (hsl.rd λ_ h=>h) E E kR 64 E hge) (as_ (C5 ?_))))));refine rn (k+1,_,B2) ⟨by dsimp only;omega,W6 hsl2 (by dsimp only;omega) (by rw [A7u,List.drop_drop];rfl)⟩ (by dsimp only;omega) (D0 3 5) ?_ qI;dsimp only;rw [A4l];exact Ck (List.Sublist.append hB2 (Ao _))
    .
     have hge:k=(N0 m).length/64:=by simp at hc;omega
     subst hge;refine D6 (te (re (be E (nx (D1 3) (A1 (aS_ E (A0 (D0 3 9) (A3 (A1 ?_)))))))));have hro:=A6e A2x ((N0 m).length/64) (N0 m) A6d;generalize hr:A5m A2x ((N0 m).length/64) A3C (N0 m)=r at *;refine B1J (n:=8) E kR qR E ?_;refine mv_ (A0 (D5 9 70 71) (A6 ?_));refine E0 (α:=Nat×Value×Mem) (λx=>[(9,x.2.1),(70,.agg (nums .u32 r.list).toArray),(71,.int .i64 (x.1:Int))]) (λx=>x.2.2) (λ_=>[]) (λx=>x.1<=8∧Sl 1 x.2.1 (4*x.1) (nums .u8 ((r.list.take x.1).flatMap B9I)) x.2.2) (λx=>8-x.1) (0,vS,[]) ⟨Am _,Sl.nil⟩ (D5 9 70 71) (Ck (Aa _)) qI ?_;clear hsl;rintro ⟨i,rv,B⟩ ⟨hi,hsl⟩;dsimp only at hi hsl ⊢;refine A1 (lQ_ (E3 E E E) (A0 (D7 9 70 71 72) (A3 ?_)));refine C2 E ?_ ?_<;>intro hc
     .
      have hlt:i<8:=by simp at hc;omega
      have hx32:r.list.getD i 0<4294967296:=getD_lt hro qD;refine A4 (nx (D5 9 70 71) (A3 (A6 (A1 ?_))));refine lQ_ (A6g (e:=40) (m:=8) (j:=i) E E kR kR kR E hlt (W2 (show i<8 from hlt))) ?_;refine as_ (A0 (D7 9 11 70 71) (C1 (mv_ (mv_ ?_))));refine lQ_ (T9 24 E E E qD) ?_;refine lQ_ (A12 E kR) (mv_ ?_);refine lQ_ (T9 16 E E E qD) ?_;refine lQ_ (A12 E kR) (mv_ ?_);refine lQ_ (T9 8 E E E qD) ?_;refine lQ_ (A12 E kR) (mV_ E (lQ_ (A12 E kR) ?_));refine A2 E (C4 (e:=5) (sz:=1) (z:=[zu8,zu8,zu8,zu8]) kR (eS E (eS E (eS E (eS E e0)))) (bdS 0 1 E qR (bdS 1 1 E qR (bdS 2 1 E qR (bdS 3 1 E qR bd0)))) E λb86=>?_);refine A2 E (V8 (e:=5) (sz:=1) (by_:=1) (m:=4) (B:=B) (ys:=nums .u8 (B9I (r.list.getD i 0))) (M0:=(b86,_)::_) E E kR E hsl (Cr (n:=4) m0 qR) E7 pkB0 (by unfold maxLen;omega) qO E λrv1 B1 hsl1=>?_);refine as_ (C5 (nb (nx (D5 9 70 71) (C1 ?_))));refine lQ_ (D2 ((i+1:Nat):Int) E E (F5 qO qO qO)) ?_;refine mv_ (C5 ?_);refine rn (i+1,rv1,B1) ⟨by dsimp only;omega,W6 hsl1 (by dsimp only;omega) ?_⟩ (by dsimp only;omega) (D5 9 70 71) (Ck (Ay _ _)) qI;dsimp only;rw [<- H4,Bh,List.flatMap_append,Ab (show i<r.list.length from hlt),List.getD,Ab (show i<r.list.length from hlt)];simp
     .
      have hlt:i=8:=by simp at hc;omega
      subst hlt;refine D6 (te (re (be E (nx (D1 9) (A1 (mV_ E (aS_ E (A0 (D1 2) (A9 ?_)))))))));refine ⟨_,B,[],H2 E E,Ao _,by simp,E,W6 hsl E ?_⟩;unfold Y7;rw [hr];rfl

def Pv(R:Mem)(vs:List Value)(ps:List (LN)):Prop:=vs.length=ps.length∧∀(i:Nat) (p:LN),ps[i]? = some p->(∀x∈p,x<256)∧∃u,vs[i]? = some u∧Rd R 1 u p.length (nums .u8 p)
variable{R:Mem}
theorem Pv.nil:Pv R [] []:=⟨E,λi p h=>by simp at h⟩
variable{vs:List Value}
theorem Pv.cons{u:Value}{p:LN}(hp:∀x∈p,x<256)(hu:Rd R 1 u p.length (nums .u8 p))(h:Pv R vs ps):Pv R (u::vs) (p::ps):=by
  refine ⟨by simp [h.1],λi q hq=>?_⟩
  cases i with
  | zero=>cases hq;exact ⟨hp,u,E,hu⟩
  | succ i=>exact h.2 i q (by simpa using hq)
theorem Pv.mono{R R':Mem}{vs:List Value}{ps:List (LN)}(h:Pv R vs ps)(hR:∀x,x∈R->x∈R'):Pv R' vs ps:=by refine ⟨h.1,λi p hp=>?_⟩;obtain ⟨h3,u,h4,h5⟩:=h.2 i p hp;exact ⟨h3,u,h4,h5.mono hR⟩
theorem Pv.one(h:Pv R vs ps):∀c∈vs,c.oneCell'=true:=by intro c hc;obtain ⟨i,hi⟩:=List.getElem?_of_mem hc;have hlt:=(Ac.1 hi).1;obtain ⟨_,u,hu,p,c',rfl,_⟩:=h.2 i _ (Ab (h.1▸hlt));rw [hi] at hu;cases hu;rfl
variable{v:Value}
theorem B1X.of{n:Nat}(h:Rd R 1 v n vs)(hn:n=ps.length)(hp:Pv R vs ps):B1X R v ps:=⟨vs,hn▸h,hp.2⟩
theorem B1X.pv(h:B1X R v ps):∃vs,Rd R 1 v ps.length vs∧Pv R vs ps:=by obtain ⟨vs,h1,h2⟩:=h;exact ⟨vs,h1,by have:=h1.len;omega,h2⟩
theorem A4p(p:LN):(Y7 p).length=32:=by simp [Y7,S8.bytes,S8.list,B9I]
theorem A7v(p:LN):∀x∈Y7 p,x<256:=by intro x hx;obtain ⟨y,_,hy⟩:=List.mem_flatMap.1 hx;simp only [B9I,Cz,Da,or_false] at hy;rcases hy with rfl|rfl|rfl|rfl<;>exact Ad _ qD
def A2g(ks:LN)(x i:Nat):LN:=(ks.take i).map (· ^^^ x)++ks.drop i
theorem A2G(ks:LN)(x i:Nat):(A2g ks x i).length=ks.length:=by simp [A2g];omega
variable{ks:LN}{x:Nat}
theorem A2H(h:i<ks.length):(A2g ks x i).getD i 0=ks.getD i 0:=by
  unfold A2g;have hl:((ks.take i).map (· ^^^ x)).length=i:=by simp;omega
  simp only [List.getD];rw [Aq qO,hl,Nat.sub_self,List.getElem?_drop,Nat.add_zero]
theorem A5B(h:i<ks.length):(A2g ks x i).set i (ks.getD i 0 ^^^ x)=A2g ks x (i+1):=by
  unfold A2g;have hl:((ks.take i).map (· ^^^ x)).length=i:=by simp;omega
  rw [List.set_append_right _ _ qO,hl,Nat.sub_self,Bu h,List.set_cons_zero,Bh,List.getD,Ab h];simp only [Option.getD_some,Option.toList_some,List.map_append,List.map_cons,List.map_nil,List.append_assoc,Cy,Cw]
theorem A7w(h:ks.length=i):A2g ks x i=ks.map (· ^^^ x):=by unfold A2g;rw [<- h];simp
variable{key:LN}
theorem B0F(h:key.length<=64)(x:Nat):(A3D key x).length=64:=by simp [A3D];omega
theorem B2d(h:∀x∈key,x<256){y:Nat}(hy:y<256):∀x∈A3D key y,x<256:=by
  intro x hx;obtain ⟨z,hz,rfl⟩:=List.mem_map.1 hx;refine Nat.xor_lt_two_pow (n:=8) ?_ hy;rcases List.mem_append.1 hz with hz|hz
  . exact h z hz
  . rw [(List.mem_replicate.1 hz).2];decide
theorem B0G(key:LN):(A1m key).length<=64:=by
  unfold A1m;split
  . rw [A4p];decide
  . omega
theorem B2e(h:∀x∈key,x<256):∀x∈A1m key,x<256:=by
  unfold A1m;split
  . exact A7v _
  . exact h
theorem A9u(kv pv:Value)(key:LN)(ps:List (LN))(A:Mem)(hkey:Rd A 1 kv key.length (nums .u8 key))(hk256:∀x∈key,x<256)(hk31:key.length<=1073741824)(hp:B1X A pv ps)(htot:ps.flatten.length<=1073741824)(hcnt:ps.length<=1073741824)(h0:(0,Obj.cells (nums .u32 A3C.list).toArray ef ff)∈A)(h1:(1,Obj.cells (nums .u32 A2x).toArray ek fk)∈A) :
  FnX prog 75 [kv,pv] [] A λr M J=>J=[]∧Sl 1 r 32 (nums .u8 (A8o key ps.flatten)) M:=by
 obtain ⟨vs,hvs,hpv⟩:=hp.pv;haveI:=hkey.cel;refine Cn (N:=42) func75 E E E λw=>?_;refine A8 (D0 0 1) (A1 (as_ (A0 (D0 0 1) ?_)));refine P3 (α:=Value×Mem) (λx=>[(0,x.1),(1,pv)]) (λx=>x.2) (λ_=>[]) (λx=>Rd (x.2++A) 1 x.1 (A1m key).length (nums .u8 (A1m key))) ?_ ?_
 .
  refine A1 (mV_ E (lQ_ (A1n hkey E kR) (lQ_ (E3 E E E) (A0 (D5 0 1 10) ?_))));refine C2 E ?_ ?_<;>intro hc
  .
   have hgt:64<key.length:=by simp at hc;omega
   refine C1 (mv_ ?_);refine A2 E (C4 (e:=22) (sz:=1) (z:=[vS]) kR (eS E e0) (bdS 0 1 E qR bd0) E λb12=>?_);refine A2 E (C8 (Mc:=[]) (R:=[_]) (aS E a0) kR (.refl _) (A1Q _ [key] _ (B1X.of (Cr (n:=1) m0 qR) E (.cons hk256 (hkey.mono λ_ h=>mA h) .nil)) (by simp;omega) qM (mA h0) (mA h1)) E ?_);rintro r M1 J1 ⟨rfl,hr⟩;refine as_ (C5 ?_);refine jn (r,_) ?_ (D0 0 1) .rfl qI;dsimp only;rw [A1m,if_pos hgt,A4p];exact A0J (hr.rd λ_ h=>by simp [h]) E qM
  .
   have hgt:¬ 64<key.length:=by simp at hc;omega
   refine A4 ?_;refine jn (kv,[]) ?_ (D0 0 1) .rfl qI;dsimp only;rw [A1m,if_neg hgt];exact hkey
 .
  rintro ⟨kv1,Mk⟩ hkv;dsimp only at hkv ⊢;have hK64:=B0G key;have hKb:=B2e hk256;have hkl:=B0F hK64;have hklt:=λy hy=>B2d (y:=y) hKb hy;unfold A8o;unfold A3D at *;generalize A1m key=K at *;have hK1:(K++List.replicate (64-K.length) 0).length=64:=by simp;omega
  have hK2:∀x∈K++List.replicate (64-K.length) 0,x<256:=λx hx=>by
   rcases List.mem_append.1 hx with h|h
   . exact hKb x h
   . rw [(List.mem_replicate.1 h).2];decide
  refine A1 ?_;refine A2 E (C3 (cs:=nums .u8 (List.replicate 64 0)) kR E λb5=>?_);refine A2 E (C3 (cs:=nums .u8 (List.replicate 64 0)) kR E λb6=>?_);refine A0 (D7 0 1 5 6) (A1 ?_);refine lQ_ (B6p (e:=5) (sz:=1) (m:=64) E kR kR) ?_;refine mv_ ?_;refine A2 rfl (B8w (e:=5) (by_:=1) (n:=K.length) (m:=64) (ws:=List.replicate 64 0) (us:=K) (ws':=K++List.replicate (64-K.length) 0) rfl rfl kR (hkv.mono λq hq=>by rcases List.mem_append.1 hq with h|h<;>simp [h]) hK64 qM (by rw [List.drop_replicate]) Cv E ?_);refine A0 (D7 0 1 5 6) (A1 ?_);refine lQ_ (B6p (e:=5) (sz:=1) (m:=64) E kR kR) ?_;refine mv_ ?_;refine A2 rfl (B8w (e:=5) (by_:=1) (n:=K.length) (m:=64) (ws:=List.replicate 64 0) (us:=K) (ws':=K++List.replicate (64-K.length) 0) rfl rfl kR (hkv.mono λq hq=>by rcases List.mem_append.1 hq with h|h<;>simp [h]) hK64 qM (by rw [List.drop_replicate]) Cv E ?_);refine A0 (D5 1 5 6) (A3 (A1 (mv_ (A0 (D7 1 5 6 20) (A6 ?_)))));generalize hKK:K++List.replicate (64-K.length) 0=KK at *;refine E0 (α:=Nat) (λi=>[(1,pv),(5,(vP b5)),(6,(vP b6)),(20,.int .i64 (i:Int))]) (λi=>[(b6,blk (nums .u8 (A2g KK 92 i)) 186),(b5,blk (nums .u8 (A2g KK 54 i)) 186)]) (λ_=>[]) (λi=>i<=64) (λi=>64-i) 0 (Am _) (D7 1 5 6 20) (Ck (.cons_cons _ (.cons_cons _ (Aa _)))) qI ?_;intro i hi;refine A1 (lQ_ (E3 E E E) (A0 (E9 1 5 6 20 21) (A3 ?_)));refine C2 E ?_ ?_<;>intro hc
  .
   have hlt:i<64:=by simp at hc;omega
   have hx8:KK.getD i 0<256:=getD_lt hK2 qD;refine A4 (nx (D7 1 5 6 20) (A3 (A6 (A1 (mV_ E (aS_ E (A0 (E9 1 5 6 7 20) (A1 (mv_ ?_)))))))));refine lQ_ (F7 (i:=i) (e:=5) (n:=64) (sz:=1) E E kR kR E qO) ?_;refine lQ_ (H9 (ws:=A2g KK 54 i) i E kR Ce qO (by rw [A2G];omega)) ?_;refine lQ_ (B1R (b:=54) E E (by rw [A2H qO];exact hx8) qD) ?_;refine lQ_ (F7 (i:=i) (e:=5) (n:=64) (sz:=1) E E kR kR E qO) ?_;refine A2 E (K4 (ws:=A2g KK 54 i) i E E kR qO (by rw [A2G];omega) Cv ?_);refine A0 (E9 1 5 6 7 20) (C1 (mv_ ?_));refine lQ_ (F7 (i:=i) (e:=5) (n:=64) (sz:=1) E E kR kR E qO) ?_;refine lQ_ (H9 (ws:=A2g KK 92 i) i E kR Ce qO (by rw [A2G];omega)) ?_;refine lQ_ (B1R (b:=92) E E (by rw [A2H qO];exact hx8) qD) ?_;refine lQ_ (F7 (i:=i) (e:=5) (n:=64) (sz:=1) E E kR kR E qO) ?_;refine A2 E (K4 (ws:=A2g KK 92 i) i E E kR qO (by rw [A2G];omega) Cv ?_);refine C5 (nb (nx (D7 1 5 6 20) (C1 ?_)));refine lQ_ (D2 ((i+1:Nat):Int) E E (F5 qO qO qO)) ?_;refine mv_ (C5 ?_);refine rn (i+1) qO qO (D7 1 5 6 20) (Cg ?_) qI;rw [A2H qO,A2H qO,A5B qO,A5B qO]
  .
   have hlt:i=64:=by simp at hc;omega
   subst hlt;rw [A7w hK1,A7w hK1];refine D6 (te (re (be E (nx (D5 1 5 6) ?_))));refine A1r ([]) [] [(0,0),(1,0),(3,0),(2,2),(4,2),(5,2),(6,2),(7,2),(8,0)] kR kR qM λhs=>?_;refine K9 hs E (B6p (e:=5) (sz:=1) (m:=64) E kR kR) E ?_;refine K9 hs E (B6p (e:=5) (sz:=1) (m:=64) E kR kR) E ?_;refine K9 hs E qm_ E ?_;refine A10 E E E (C4 (e:=22) (sz:=1) (z:=[vS]) kR (eS E e0) (bdS 0 1 E qR bd0) E λb36=>?_);refine A10 E E E (V8 (e:=22) (sz:=1) (by_:=24) (n:=1) (m:=ps.length) (B:=[(b36,_)]) E E kR E (Sl.fresh E qD) (hvs.mono λ_ h=>mA h) hpv.one (.refl _) (by unfold maxLen;omega) qO E λv38 B38 hsl38=>?_);refine A10 E E E (C8 (Mc:=[]) (R:=B38++[_,_]) (aS E a0) kR (.refl _) (A1Q v38 (KK.map (· ^^^ 54)::ps) _ (B1X.of (hsl38.rd λ_ h=>by simp [h]) (by rw [List.length_cons];omega) (.cons (hklt 54 qD) (A0J (Cr (n:=64) (cs:=nums .u8 (KK.map (· ^^^ 54))) Ce (by simp [hK1])) (hkl 54).symm E) (hpv.mono λ_ h=>mA h))) (by rw [List.flatten_cons,An,List.length_map,hK1];omega) (by rw [List.length_cons];omega) (mA h0) (mA h1)) E ?_);rintro r39 M39 J39 ⟨rfl,hr39⟩;haveI:=hr39.cel;refine A10 E E E (C4 (e:=22) (sz:=1) (z:=[vS,vS]) kR (eS E (eS E e0)) (bdS 0 1 E qR (bdS 1 1 E qR bd0)) E λb40=>?_);refine A10 E E E (C8 (Mc:=[]) (R:=_::(M39++(B38++[_,_]))) (aS E a0) kR (.refl _) (A1Q _ [KK.map (· ^^^ 92),Y7 (KK.map (· ^^^ 54)++ps.flatten)] _ (B1X.of (Cr (n:=2) m0 qR) E (.cons (hklt 92 qD) (A0J (Cr (n:=64) (cs:=nums .u8 (KK.map (· ^^^ 92))) Ce (by simp [hK1])) (hkl 92).symm E) (.cons (A7v _) (A0J (hr39.rd λ_ h=>by simp [h]) (A4p _).symm qM) .nil))) (by simp [hK1,A4p]) qM (mA h0) (mA h1)) E ?_);rintro r41 M41 J41 ⟨rfl,hr41⟩;refine K9 hs E (G2 E) E ?_;refine A3z (D1 4) ?_;refine A9 ?_;refine ⟨_,_,[],H2 E E,Ay _ _,by simp,E,W6 hr41 E ?_⟩;simp
theorem A3F(kv pv:Value)(key p:LN)(A:Mem)(hkey:Rd A 1 kv key.length (nums .u8 key))(hk256:∀x∈key,x<256)(hk31:key.length<=1073741824)(hp:Rd A 1 pv p.length (nums .u8 p))(hp256:∀x∈p,x<256)(htot:p.length<=1073741824)(h0:(0,Obj.cells (nums .u32 A3C.list).toArray ef ff)∈A)(h1:(1,Obj.cells (nums .u32 A2x).toArray ek fk)∈A) :
  FnX prog 37 [kv,pv] [] A λr M J=>J=[]∧Sl 1 r 32 (nums .u8 (A8o key p)) M:=by
 haveI:=hp.cel;refine Cn (N:=9) func37 E E E λw=>?_;refine A8 (D0 0 1) (A1 (as_ (A0 (D0 0 1) (A1 (mv_ (mv_ ?_))))));refine A2 E (C4 (e:=22) (sz:=1) (z:=[vS]) kR (eS E e0) (bdS 0 1 E qR bd0) E λb7=>?_);refine A2 E (C8 (Mc:=[]) (R:=[_]) (aS E (aS E a0)) kR (.refl _) (A9u _ _ key [p] _ (hkey.mono λ_ h=>mA h) hk256 hk31 (B1X.of (Cr (n:=1) m0 qR) E (.cons hp256 (hp.mono λ_ h=>mA h) .nil)) (by simpa using htot) qM (mA h0) (mA h1)) E ?_);rintro r M1 J1 ⟨rfl,hr⟩;refine as_ (A0 (D1 4) (A9 ?_));refine ⟨_,_,[],H2 E E,Ay _ _,by simp,E,W6 hr E ?_⟩;simp
theorem C42{M0 M1 B1 D:Mem}(x:Nat×Obj):(M1++(B1++(x::(M0++D)))).Perm (M0++(M1++(B1++(x::D)))):=by
  have h:(M1++(B1++(x::(M0++D))))=(M1++B1++[x])++(M0++D):=by simp
  have h2:(M0++(M1++(B1++(x::D))))=M0++((M1++B1++[x])++D):=by simp
  rw [h,h2,<- Ap,<- Ap M0];exact List.Perm.append_right _ List.perm_append_comm
def B0H(p:LN):LN:=Y7 (0::p)++Y7 (1::p)
theorem A4q(pv:Value)(ps:List (LN))(A:Mem)(hp:B1X A pv ps)(htot:ps.flatten.length<=1073741824)(hcnt:ps.length<=1073741824)(h0:(0,Obj.cells (nums .u32 A3C.list).toArray ef ff)∈A)(h1:(1,Obj.cells (nums .u32 A2x).toArray ek fk)∈A) :
  FnX prog 111 [pv] [] A λr M J=>J=[]∧Sl 1 r 64 (nums .u8 (B0H ps.flatten)) M:=by
 obtain ⟨vs,hvs,hpv⟩:=hp.pv;refine Cn (N:=16) func111 E E E λw=>?_;refine A8 (D1 0) (A1 (as_ (A0 (D1 0) (A1 ?_))));refine A2 E (C4 (e:=5) (sz:=1) (z:=[zu8]) kR (eS E e0) (bdS 0 1 E qR bd0) E λb4=>?_);refine A2 E (C4 (e:=22) (sz:=1) (z:=[vS]) kR (eS E e0) (bdS 0 1 E qR bd0) E λb5=>?_);refine mv_ ?_;refine A2 E (V8 (e:=22) (sz:=1) (by_:=24) (n:=1) (m:=ps.length) (B:=[(b5,_)]) (M0:=_::[]) E E kR E (Sl.fresh E qD) (hvs.mono λ_ h=>mA h) hpv.one (.refl _) (by unfold maxLen;omega) qO E λv0 B0 hsl0=>?_);refine A2 E (C8 (Mc:=[]) (R:=B0++(_::[])) (aS E a0) kR (.refl _) (A1Q v0 ([0]::ps) _ (B1X.of (hsl0.rd λ_ h=>by simp [h]) (by rw [List.length_cons];omega) (.cons qM (Cr (n:=1) (b:=b4) (cs:=nums .u8 [0]) Ce qR) (hpv.mono λ_ h=>mA h))) (by rw [List.flatten_cons,An,List.length_singleton];omega) (by rw [List.length_cons];omega) (mA h0) (mA h1)) E ?_);rintro r0 M0 J0 ⟨rfl,hr0⟩;refine as_ (A0 (D0 0 3) (A1 (mv_ ?_)));refine A2 E (C4 (e:=5) (sz:=1) (z:=[zu8]) kR (eS E e0) (bdS 0 1 E qR bd0) E λb10=>?_);refine A2 E (C4 (e:=22) (sz:=1) (z:=[vS]) kR (eS E e0) (bdS 0 1 E qR bd0) E λb11=>?_);refine mv_ ?_;refine A2 E (V8 (e:=22) (sz:=1) (by_:=24) (n:=1) (m:=ps.length) (B:=[(b11,_)]) (M0:=_::(M0++(B0++[_]))) E E kR E (Sl.fresh E qD) (hvs.mono λ_ h=>mA h) hpv.one (.refl _) (by unfold maxLen;omega) qO E λv1 B1 hsl1=>?_);refine A2 E (C8 (Mc:=[]) (R:=B1++(_::(M0++(B0++[_])))) (aS E a0) kR (.refl _) (A1Q v1 ([1]::ps) _ (B1X.of (hsl1.rd λ_ h=>by simp [h]) (by rw [List.length_cons];omega) (.cons qM (Cr (n:=1) (b:=b10) (cs:=nums .u8 [1]) Ce qR) (hpv.mono λ_ h=>mA h))) (by rw [List.flatten_cons,An,List.length_singleton];omega) (by rw [List.length_cons];omega) (mA h0) (mA h1)) E ?_);rintro r1 M1 J1 ⟨rfl,hr1⟩;refine A2 E (V8 (e:=5) (sz:=1) (by_:=1) (n:=32) (m:=32) (B:=M0) (M0:=M1++(B1++(_::(B0++[_])))) E E kR E hr0 (hr1.rd λ_ h=>by simp [h]) E7 (C42 _) (by unfold maxLen;omega) qO E λv9 B9 hsl9=>?_);refine as_ (A0 (D1 2) (A9 ?_));refine ⟨_,_,[],H2 E E,Ay _ _,by simp,E,W6 hsl9 E ?_⟩;rw [<- H4];rfl

end Go.Proofs.YtgpjndfgjjlhaaaGreatDoor
namespace Go.Px
def nv:List Nat->Nat
  | []=>0
  | w::r=>w+4294967296*nv r
def w32(ws:List Nat):Prop:=∀x∈ws,x<4294967296
def xp(n:Nat):Nat:=4294967296^n
theorem xp0:xp 0=1:=rfl
theorem xpS(n:Nat):xp (n+1)=xp n*4294967296:=Nat.pow_succ _ _
theorem A2I(a b:List Nat):nv (a++b)=nv a+xp a.length*nv b:=by
  induction a with
  | nil=>simp [nv,xp0]
  | cons x a ih=>simp only [Cy,nv,ih,List.length_cons,xpS];grind
theorem A30(ws:List Nat)(j:Nat)(h:j<=ws.length):nv ws=nv (ws.take j)+xp j*nv (ws.drop j):=by
  conv=>lhs;rw [<- List.take_append_drop j ws,A2I,Bj,Nat.min_eq_left h]
variable{ws:List Nat}
theorem A1x{j:Nat}(h:j<ws.length):nv (ws.take (j+1))=nv (ws.take j)+xp j*ws.getD j 0:=by rw [Bh,Ab h,A2I,Bj,Nat.min_eq_left (by omega),List.getD,Ab h];simp [nv]
theorem B6r(h:w32 ws):nv ws<xp ws.length:=by
  induction ws with
  | nil=>simp [nv,xp0]
  | cons x ws ih =>
    have h1:=h x (by simp);have h2:=ih (λy hy=>h y (by simp [hy]));simp only [nv,List.length_cons,xpS];omega
theorem w32.take{ws:List Nat}(h:w32 ws)(n:Nat):w32 (ws.take n):=λx hx=>h x (Bz hx)
theorem w32.get(h:w32 ws)(n:Nat):ws.getD n 0<4294967296:=getD_lt h (by decide)
variable{a b:List Nat}
theorem w32.app(ha:w32 a)(hb:w32 b):w32 (a++b):=λx hx=>(List.mem_append.1 hx).elim (ha x) (hb x)
def tl(ws:List Nat):Nat->Nat
  | 0=>0
  | n+1=>if ws.getD n 0=0 then tl ws n else n+1
theorem A9v(ha:w32 a){j:Nat}(hj:j<a.length)(hl:a.length=b.length)(hlt:a.getD j 0<b.getD j 0)(he:a.drop (j+1)=b.drop (j+1)):nv a<nv b:=by have h1:=A30 a (j+1) (by omega);have h2:=A30 b (j+1) (by omega);rw [A1x hj,he] at h1;rw [A1x (by omega)] at h2;have h3:=B6r (ha.take j);rw [Bj,Nat.min_eq_left (by omega)] at h3;have h4:xp j*(a.getD j 0+1)<=xp j*b.getD j 0:=Nat.mul_le_mul_left _ hlt;rw [Nat.mul_add,Nat.mul_one] at h4;omega
end Go.Px

namespace Go.Px
def B6s(k p lo b:Nat):Nat:=if (lo+2^b)^k<=p*xp k then lo+2^b else lo
def C2y(k p:Nat):Nat->Nat->Nat
  | 0,lo=>lo
  | j+1,lo=>C2y k p j (B6s k p lo j)
def root(k p:Nat):Nat:=C2y k p 40 0%4294967296
end Go.Px

namespace Go.Px
def exp(key info:List Nat):Nat->List Nat×List Nat
  | 0=>([],[])
  | i+1=>((exp key info i).1++A8o key ((exp key info i).2++(info++[(i+1)%256])),A8o key ((exp key info i).2++(info++[(i+1)%256])))
theorem A0m(p:List Nat):(Y7 p).length=32:=by simp [Y7,S8.bytes,S8.list,B9I]
theorem A6i(key info:List Nat):∀i,(exp key info i).1.length=32*i
  | 0=>rfl
  | i+1=>by rw [exp,An,A6i key info i,A8o,A0m];omega
def rds(n:Int):Nat:=min 255 ((n.toNat+31)/32)
def A0c(key info:List Nat)(n:Int):List Nat:=(exp key info (rds n)).1.take n.toNat
theorem X4(key info:List Nat)(n:Int):(A0c key info n).length=min n.toNat 8160:=by unfold A0c;rw [Bj,A6i];unfold rds;omega
end Go.Px

namespace Go.Proofs.YtgpjndfgjjlhaaaGreatDoor
open Go.Px
theorem C43{M B D:Mem}(x y:Nat×Obj):(M++(x::y::(B++D))).Perm (B++((M++[x,y])++D)):=by
  have h:M++(x::y::(B++D))=(M++[x,y])++(B++D):=by simp
  rw [h];exact List.perm_append_comm_assoc _ _ _
theorem A4r(key p:LN):∀x∈A8o key p,x<256:=A7v _
theorem A09(key p:LN):(A8o key p).length=32:=A4p _
theorem B9Q(key info:LN):∀i,∀x∈(exp key info i).2,x<256
  | 0=>by simp [exp]
  | i+1=>A4r _ _
theorem B6t(key info:LN)(i:Nat):(exp key info i).2.length<=32:=by
  cases i with
  | zero=>simp [exp]
  | succ i=>rw [exp,A09];decide
theorem B2f(key info:LN):∀i,∀x∈(exp key info i).1,x<256
  | 0=>by simp [exp]
  | i+1=>λx hx=>(List.mem_append.1 hx).elim (B2f key info i x) (A4r _ _ x)
theorem A4s(kv iv:Value)(key info:LN)(n:Int)(A:Mem)(hkey:Rd A 1 kv key.length (nums .u8 key))(hk256:∀x∈key,x<256)(hk31:key.length<=1073741824)(hinfo:Rd A 1 iv info.length (nums .u8 info))(hi256:∀x∈info,x<256)(hi31:info.length<=536870912)(hn:n<1000000)(hn0:-1000000<n){ef ek:TypeId}{ff fk:Nat×Nat}(h0:(0,Obj.cells (nums .u32 A3C.list).toArray ef ff)∈A)(h1:(1,Obj.cells (nums .u32 A2x).toArray ek fk)∈A) :
  FnX prog 36 [kv,iv,.int .i64 n] [] A λr M J=>J=[]∧Rd M 1 r (A0c key info n).length (nums .u8 (A0c key info n)):=by
 haveI:=hinfo.cel;refine Cn (N:=40) func36 E E E λw=>?_;refine A8 (D5 0 1 2) (A1 (aS_ E (A0 (D5 0 1 2) (A1 (aS_ E (aS_ E (A0 (E9 0 1 2 7 8) (A3 (A1 (as_ (A0 (G9 0 1 2 7 8 9) (A6 ?_))))))))))));refine E0 (α:=Nat×Value×Value×Mem×Mem) (λx=>[(0,kv),(1,iv),(2,.int .i64 n),(7,x.2.1),(8,x.2.2.1),(9,.int .i64 ((x.1+1:Nat):Int))]) (λx=>x.2.2.2.1++x.2.2.2.2) (λ_=>[]) (λx=>x.1<=rds n∧Sl 1 x.2.1 (32*x.1) (nums .u8 (exp key info x.1).1) x.2.2.2.1∧Sl 1 x.2.2.1 (exp key info x.1).2.length (nums .u8 (exp key info x.1).2) x.2.2.2.2) (λx=>rds n-x.1) (0,vS,vS,[],[]) ⟨Am _,Sl.nil,Sl.nil⟩ (G9 0 1 2 7 8 9) .rfl qI ?_;rintro ⟨i,ov,lv,Bo,Bl⟩ ⟨hi,ho,hl⟩;dsimp only at hi ho hl ⊢;have hrd:rds n=min 255 ((n.toNat+31)/32):=rfl;have hl32:=B6t key info i;haveI:=hl.cel;refine A3 ?_;by_cases h32:(n:Int)<=((32*i:Nat):Int)
 .
  refine A1 (mV_ E (lQ_ (A1n (ho.rd λ_ h=>h) E kR) (mv_ ?_)));refine lQ_ (F6 false E E (ltF qO)) ?_;refine mv_ ?_;refine K0 E E E E ?_;refine K0 E E E E ?_;refine lQ_ (E8 E E) (A0 (N1 0 1 2 7 8 9 17) ?_);refine C7 E ?_;refine D6 (te (re (be E (nx (D0 2 7) (A1 (mV_ E (mV_ E (lQ_ (A1n (ho.rd λ_ h=>h) E kR) (lQ_ (A4i (if ((32*i:Nat):Int)<n then ((32*i:Nat):Int) else n) E E E) ?_)))))))));have hend:i=rds n:=by omega
  subst hend;refine lQ_ (B1N ((min n.toNat (32*rds n):Nat):Int) E E (by split<;>split<;>omega)) ?_;have hkl:min n.toNat (32*rds n)=(A0c key info n).length:=by rw [X4];omega
  obtain ⟨pp,cc,rfl,hpc⟩:=ho.val;refine as_ (A0 (D0 2 7) (A1 (mv_ (mv_ (mv_ ?_)))));refine lQ_ (A2f (e:=5) (sz:=1) E kR kR o0 (o1 (min n.toNat (32*rds n)) E E) (o1 (min n.toNat (32*rds n)) E E) qM (by simp;omega) qM qM) ?_;refine as_ (A0 (D1 6) (A9 ?_));refine ⟨_,Bo,[],H2 E E,Ay _ _,by simp,E,?_⟩;have:=Rd.part (ho.rd λ_ h=>h) 0 (min n.toNat (32*rds n)) (min n.toNat (32*rds n)) (Am _) (Nat.min_le_right _ _) (Av _);refine A0J this (by simpa using hkl) ?_;rw [Nat.zero_mul,List.drop_zero,Nat.sub_zero,Nat.mul_one,<- A1v]
  have e:((exp key info (rds n)).1).take (min n.toNat (32*rds n))=A0c key info n:=by unfold A0c;rw [List.take_eq_take_iff,A6i];omega
  rw [e]
 .
  refine A1 (mV_ E (lQ_ (A1n (ho.rd λ_ h=>h) E kR) (mv_ ?_)));refine lQ_ (F6 true E E (ltT qO)) ?_;refine mv_ ?_;refine G1 E E (Cp qm_ E ?_);refine G1 E E (Cp (E3 E E E) E ?_);refine lQ_ (H6 E E) (A0 (N1 0 1 2 7 8 9 17) ?_);refine C2 E ?_ ?_<;>intro hc
  .
   have hlt:i<255:=by simp at hc;omega
   refine A4 (nx (G9 0 1 2 7 8 9) (A3 (A6 (A1 (mV_ E (mV_ E (mV_ E (mV_ E (lQ_ (A12 E kR) ?_)))))))));refine A2 E (C4 (e:=5) (sz:=1) (z:=[zu8]) kR (eS E e0) (bdS 0 1 E qR bd0) E λb25=>?_);refine A2 E (C4 (e:=22) (sz:=1) (z:=[vS,vS,vS]) kR (eS E (eS E (eS E e0))) (bdS 0 1 E qR (bdS 1 1 E qR (bdS 2 1 E qR bd0))) E λb26=>?_);refine A2 E (C8 (Mc:=[]) (R:=_::_::(Bo++Bl)) (aS E (aS E a0)) kR (.refl _) (A9u _ _ key [(exp key info i).2,info,[(i+1)%256]] _ (hkey.mono λ_ h=>mA h) hk256 hk31 (B1X.of (Cr (n:=3) m0 qR) E (.cons (B9Q _ _ _) (hl.rd λ_ h=>by simp [h]) (.cons hi256 (hinfo.mono λ_ h=>mA h) (.cons (by intro x hx;simp at hx;subst hx;exact Ad _ qD) (Cr (n:=1) (cs:=nums .u8 [(i+1)%256]) Ce qR) .nil)))) (by simp;omega) qM (mA h0) (mA h1)) E ?_);rintro r27 M27 J1 ⟨rfl,h27⟩;rw [show [(exp key info i).2,info,[(i+1)%256]].flatten=(exp key info i).2++(info++[(i+1)%256]) from by simp] at h27;refine as_ (A0 (G9 0 1 2 7 8 9) (C1 (mv_ (mv_ ?_))));refine A2 E (V8 (e:=5) (sz:=1) (by_:=1) (m:=32) (B:=Bo) (M0:=(M27++[_,_])++Bl) E E kR E ho (h27.rd λ_ h=>by simp [h]) E7 (C43 _ _) (by unfold maxLen;omega) qO E λov1 Bo1 ho1=>?_);refine as_ (C5 (nb (nx (G9 0 1 2 7 8 9) (C1 (mv_ ?_)))));refine lQ_ (D2 ((i+1+1:Nat):Int) E E (F5 qO qO qO)) ?_;refine as_ (C5 ?_);refine rn (i+1,ov1,r27,Bo1,M27) ⟨by dsimp only;omega,W6 ho1 (by dsimp only;omega) (by rw [<- H4];rfl),W6 h27 (by dsimp only;rw [exp,A09]) E⟩ (by dsimp only;omega) (G9 0 1 2 7 8 9) (Ck (List.Sublist.append (Ao _) ((Ay _ _).trans (Ay _ _)))) qI
  .
   have hend:i=rds n:=by simp at hc;omega
   refine D6 (te (re (be E (nx (D0 2 7) (A1 (mV_ E (mV_ E (lQ_ (A1n (ho.rd λ_ h=>h) E kR) (lQ_ (A4i (if ((32*i:Nat):Int)<n then ((32*i:Nat):Int) else n) E E E) ?_)))))))));subst hend;refine lQ_ (B1N ((min n.toNat (32*rds n):Nat):Int) E E (by split<;>split<;>omega)) ?_;have hkl:min n.toNat (32*rds n)=(A0c key info n).length:=by rw [X4];omega
   obtain ⟨pp,cc,rfl,hpc⟩:=ho.val;refine as_ (A0 (D0 2 7) (A1 (mv_ (mv_ (mv_ ?_)))));refine lQ_ (A2f (e:=5) (sz:=1) E kR kR o0 (o1 (min n.toNat (32*rds n)) E E) (o1 (min n.toNat (32*rds n)) E E) qM (by simp;omega) qM qM) ?_;refine as_ (A0 (D1 6) (A9 ?_));refine ⟨_,Bo,[],H2 E E,Ay _ _,by simp,E,?_⟩;have:=Rd.part (ho.rd λ_ h=>h) 0 (min n.toNat (32*rds n)) (min n.toNat (32*rds n)) (Am _) (Nat.min_le_right _ _) (Av _);refine A0J this (by simpa using hkl) ?_;rw [Nat.zero_mul,List.drop_zero,Nat.sub_zero,Nat.mul_one,<- A1v]
   have e:((exp key info (rds n)).1).take (min n.toNat (32*rds n))=A0c key info n:=by unfold A0c;rw [List.take_eq_take_iff,A6i];omega
   rw [e]

end Go.Proofs.YtgpjndfgjjlhaaaGreatDoor
namespace Go.Px
def Sk(K:Nat->Prop)(w w':World):Prop:=∀b,b<w.heap.size->¬K b->w'.heap[b]? = w.heap[b]?
variable{R:Mem}
theorem Sk.fx{K:Nat->Prop}{w w':World}(h:Sk K w w')(hR:∀x∈R,¬K x.1)(hw:Fx R w):Fx R w':=λb o hb=>by have h1:=hw b o hb;rw [h b (T4 h1) (hR _ hb)];exact h1
def XK(C:Cx)(os:List Oper)(Q:XQ)(K:Nat->Prop)(n0:Nat)(nd:List Nat)(plan:List (Nat×Nat))(l:Env)(M J:Mem):Prop :=
  ∀listed,R6 os.toArray listed->K8 os.toArray nd plan listed=true->∀a w,Ag C.N l a->St C M J w->n0<=w.heap.size ->
    A0K C.P os.toArray (T5 (A8n C Q)) (Sk K) nd.contains plan.length listed a w
variable{ops:Array Oper}{i id d j t:Nat}{c2 c:Code}{l':Env}{op:Op}{ty:TypeId}{pos:String}{af:Array Edge}{g:Option (Nat×Bool)}{v:Value}{o oj:Oper}{b:Bool}
section plan
variable{C:Cx}{Q:XQ}{l:Env}{M J:Mem}{os:List Oper}{K:Nat->Prop}{n0:Nat}{nd:List Nat}{plan:List (Nat×Nat)}
theorem B0I{T:World->Prop}{S:World->World->Prop}{nd:List Nat}{listed:Array Bool}(h:B1H ops nd listed i=true)(hT:∀w w',T w->S w w'->T w')(j:Nat)(hlt:j<ops.size)(hji:j≠i)(hun:listed.getD j true=false):anc ops ops.size j i=true∨∀w w',T w->(nd.contains j=true->S w w')->T w':=by
  have h1:=List.all_eq_true.1 h j (List.mem_range.2 hlt);simp only [Bool.or_eq_true,beq_iff_eq,hji,hun,false_or,Bool.false_eq_true] at h1;rcases h1 with h1|h1
  . exact .inr λw w' hS hw=>hT w w' hS (hw h1)
  . exact .inl h1
theorem Y8(Mv Ms:Mem)(nv:Bool)(nd:List Nat)(plan:List (Nat×Nat))(hm:C.P.follows .mixedOrders=true)(hp:A0f os nd plan=true)(hM:M.Perm (Mv++Ms))
    (h:Region.noSelect os.toArray=true->∀(K:Nat->Prop) n0,(∀x∈Mv,K x.1)->(∀x∈Ms++(J++C.A),¬K x.1)->(nv=true->∀b,n0<=b->K b)->XK C os Q K n0 nd plan l (Mv++Ms) J):XC C (.region id os.toArray true) Q l M J:=by
  intro a w ha hw0;have hw:=hw0.perm hM;simp only [A0f,Bool.and_eq_true,beq_iff_eq] at hp;obtain ⟨⟨h1,h3⟩,h4⟩:=hp;refine Code.wp_mono (Q:=T5 (A8n C Q)) (λe a w h=>by cases e<;>first|exact h|exact h.elim) ?_
  let K:Nat->Prop:=λb=>b∈Mv.map Prod.fst∨(nv=true∧w.heap.size<=b)
  refine wp_region_any hm (A1P (S:=Sk K) (need:=nd.contains) _ _ _ _ ?_);have hK1:∀x∈Mv,K x.1:=λx hx=>.inl (Al (f:=Prod.fst) hx);have hcal:=hw.callee (.refl _)
  have hK2:∀x∈Ms++(J++C.A),¬K x.1:=by
    rintro ⟨b,o⟩ hx hk;have h5:=hcal.sepA b o hx;rcases hk with hk|⟨_,hk⟩
    . exact h5.1 hk
    . exact absurd h5.2 (Nat.not_lt.2 hk)
  have:=h h1 K w.heap.size hK1 hK2 (λhn b hb=>.inr ⟨hn,hb⟩) (Array.replicate os.length false) (λj oj _ hl=>by simp [Array.getElem?_replicate] at hl;split at hl<;>simp at hl) h4 a _ ha hw.drew (Av _);rw [h3] at this;simpa using this
theorem F9(Mv Ms:Mem)(nv:Bool)(nd:List Nat)(plan:List (Nat×Nat))(hm:C.P.follows .mixedOrders=true)(hp:A0f os nd plan=true)(hM:M.Perm (Mv++Ms))
    (h:Region.noSelect os.toArray=true->∀(K:Nat->Prop) n0,(∀x∈Mv,K x.1)->(∀x∈Ms++(J++C.A),¬K x.1)->(nv=true->∀b,n0<=b->K b)->XK C os (A3U C c2 Q) K n0 nd plan l (Mv++Ms) J):XC C (.seq (.region id os.toArray true) c2) Q l M J :=
  A3 (Y8 Mv Ms nv nd plan hm hp hM h)
theorem A3G(h:Q .normal l M J):XK C os Q K n0 nd [] l M J:=by intro listed hcl hp a w ha hw hf;simp only [K8,List.isEmpty_iff] at hp;exact ⟨hp,l,M,J,ha,hw,h⟩
theorem I0(hk:Keep l l')(h:XC C c Q l' M J):XK C os (A3U C c Q) K n0 nd [] l M J:=A3G (A8 hk h)
theorem A2h{M':Mem}(hM:M.Perm M')(h:XK C os Q K n0 nd plan l M' J):XK C os Q K n0 nd plan l M J:=λlisted hcl hp a w ha hw hn=>h listed hcl hp a w ha (hw.perm hM) hn
theorem A6j(hs:Region.noSelect os.toArray=true)
    (hget:nth os i=some ⟨some d,op,ty,pos,af,g⟩) (hR:∀x∈R,x∈M++(J++C.A)) (hn:∀x∈R,¬K x.1)
    (hy:∀a,Ag C.N l a->YieldsIf C.P os.toArray (Fx R) ⟨some d,op,ty,pos,af,g⟩ v a) (hd:Nat.blt d C.N=true)
    (h:XK C os Q K n0 nd plan ((d,v)::l) M J):XK C os Q K n0 nd ((i,1)::plan) l M J:=by
  intro listed hcl hp a w ha hw hf;simp only [K8,Bool.and_eq_true] at hp;obtain ⟨⟨⟨h1,h2⟩,h5⟩,h4⟩:=hp;have hi:os.toArray[i]? = some ⟨some d,op,ty,pos,af,g⟩:=by rw [W8] at hget;simpa using hget
  have hr:i∈Region.ready .any os.toArray listed:=by simpa using h1
  exact Y6 (S:=Sk K) (T:=Fx R) (N:=os.toArray.size) hi (Region.noSelect_spec hs) (λ_ _ _ h=>h) (λ_ _ _ _=>rfl) _ listed a w hcl (Region.free_spec hi h2) (B0I h5 λw w' hT hS=>hS.fx hn hT) hr (hy a ha) (λb o hb=>hw.fx b o (hR _ hb))
    (h _ (I6 hcl hr) h4 _ w (ha.put (L7 hd) v) hw hf)
theorem A6k(hs:Region.noSelect os.toArray=true)
    (hget:nth os i=some ⟨some d,op,ty,pos,af,g⟩)
    (hy:∀a,Ag C.N l a->YieldsIf C.P os.toArray (λ_=>True) ⟨some d,op,ty,pos,af,g⟩ v a) (hd:Nat.blt d C.N=true)
    (h:XK C os Q K n0 nd plan ((d,v)::l) M J):XK C os Q K n0 nd ((i,0)::plan) l M J:=by
  intro listed hcl hp a w ha hw hf;simp only [K8,Bool.and_eq_true] at hp;obtain ⟨⟨h1,h2⟩,h4⟩:=hp;have hi:os.toArray[i]? = some ⟨some d,op,ty,pos,af,g⟩:=by rw [W8] at hget;simpa using hget
  have hr:i∈Region.ready .any os.toArray listed:=by simpa using h1
  exact Y6 (S:=Sk K) (T:=λ_=>True) (N:=0) hi (Region.noSelect_spec hs) (λ_ _ _ h=>h) (λ_ _ _ _=>rfl) _ listed a w hcl (Region.free_spec hi h2) (λ_ _ _ _=>.inr λ_ _ _ _=>trivial) hr (hy a ha) trivial
    (h _ (I6 hcl hr) h4 _ w (ha.put (L7 hd) v) hw hf)
section ops
variable{i d j t:Nat}{op:Op}{ty:TypeId}{pos:String}{af:Array Edge}{b b':Bool}{v:Value}{oj:Oper}{R:Mem}
theorem C44(hs:Region.noSelect os.toArray=true)(hget:nth os i=some ⟨some d,op,ty,pos,af,none⟩)(hq:OpQ C.P [] ⟨some d,op,ty,pos,af,none⟩ l v)(hd:Nat.blt d C.N=true)
    (h:XK C os Q K n0 nd plan ((d,v)::l) M J):XK C os Q K n0 nd ((i,0)::plan) l M J :=
  A6k hs hget (λa ha=>.inl ⟨rfl,λw hw=>hq C.N a w ha (λ_ _ hb=>by cases hb)⟩) hd h
theorem XK.r(hs:Region.noSelect os.toArray=true)(hget:nth os i=some ⟨some d,op,ty,pos,af,none⟩)(hR:∀x∈R,x∈M++(J++C.A))(hn:∀x∈R,¬K x.1)(hq:OpQ C.P R ⟨some d,op,ty,pos,af,none⟩ l v)(hd:Nat.blt d C.N=true)
    (h:XK C os Q K n0 nd plan ((d,v)::l) M J):XK C os Q K n0 nd ((i,1)::plan) l M J :=
  A6j hs hget hR hn (λa ha=>.inl ⟨E,λw hw=>hq C.N a w ha hw⟩) hd h
theorem A4t(hs:Region.noSelect os.toArray=true)(hget:nth os i=some ⟨some d,op,ty,pos,af,some (j,b)⟩)(hj:nth os j=some oj)(ht:oj.dst=some t)(hl:lk l t=some (.bool b))(hq:OpQ C.P [] ⟨some d,op,ty,pos,af,some (j,b)⟩ l v)(hd:Nat.blt d C.N=true)
    (h:XK C os Q K n0 nd plan ((d,v)::l) M J):XK C os Q K n0 nd ((i,0)::plan) l M J :=
  A6k hs hget (λa ha=>.inl ⟨B1M (i:=i) ha hj ht hl,λw hw=>hq C.N a w ha (λ_ _ hb=>by cases hb)⟩) hd h
theorem B6u(hs:Region.noSelect os.toArray=true)(hget:nth os i=some ⟨some d,op,ty,pos,af,some (j,b)⟩)(hj:nth os j=some oj)(ht:oj.dst=some t)(hl:lk l t=some (.bool b))(hR:∀x∈R,x∈M++(J++C.A))(hn:∀x∈R,¬K x.1)(hq:OpQ C.P R ⟨some d,op,ty,pos,af,some (j,b)⟩ l v)(hd:Nat.blt d C.N=true)
    (h:XK C os Q K n0 nd plan ((d,v)::l) M J):XK C os Q K n0 nd ((i,1)::plan) l M J :=
  A6j hs hget hR hn (λa ha=>.inl ⟨B1M (i:=i) ha hj ht hl,λw hw=>hq C.N a w ha hw⟩) hd h
theorem A0u(hs:Region.noSelect os.toArray=true)(hget:nth os i=some ⟨some d,op,ty,pos,af,some (j,b)⟩)(hj:nth os j=some oj)(ht:oj.dst=some t)(hl:lk l t=some (.bool b'))(hb:(b'==b)=false)(hd:Nat.blt d C.N=true)
    (h:XK C os Q K n0 nd plan ((d,undef)::l) M J):XK C os Q K n0 nd ((i,0)::plan) l M J :=
  A6k hs hget (λa ha=>.inr ⟨A8z (i:=i) ha hj ht hl hb,E⟩) hd h
theorem A6l(hs:Region.noSelect os.toArray=true)(hget:nth os i=some ⟨some d,op,ty,pos,af,some (j,b)⟩)(hj:nth os j=some oj)(ht:oj.dst=some t)(hl:lk l t=some (.bool b'))(hb:(b'==b)=false)(hd:Nat.blt d C.N=true)
    (h:XK C os Q K n0 nd plan ((d,undef)::l) M J):XK C os Q K n0 nd ((i,1)::plan) l M J :=
  A6j (R:=[]) hs hget (λ_ h=>by cases h) (λ_ h=>by cases h) (λa ha=>.inr ⟨A8z (i:=i) ha hj ht hl hb,rfl⟩) hd h
end ops
theorem B2g{Mc:Mem}(hget:nth os i=some o)(hw':∀a,Ag C.N l a->Region.wanted o (yielded os.toArray a.tmps)=true)(hM:M.Perm (Mc++R))(hK:∀x∈Mc,K x.1)
    (h:∀w,OpL ⟨C.P,w,Mc.map Prod.fst,R++(J++C.A),C.N⟩ o l Mc [] (λl' M' J'=>((∀b,n0<=b->K b)->∀x∈M',K x.1)->XK C os Q K n0 nd plan l' (M'++R) (J'++J))) :
    XK C os Q K n0 nd ((i,2)::plan) l M J:=by
  intro listed hcl hp a w ha hw hf;simp only [K8,Bool.and_eq_true,beq_iff_eq] at hp;obtain ⟨h1,h2⟩:=hp;have hi:os.toArray[i]? = some o:=by rw [W8] at hget;simpa using hget
  refine ⟨λh0=>(by rw [h1] at h0;cases h0),λj hj=>?_⟩;have hr:=hj;rw [h1] at hj;simp only [List.mem_singleton] at hj;subst hj;unfold wpOp;simp only [hi];rw [if_pos (hw' a ha)];refine .inl (Oper.wp_mono ?_ (h w _ a w ha (hw.callee hM).cx));rintro a' w' ⟨l',M',J',ha',hs',hk⟩;have hsz:w.heap.size<=w'.heap.size:=hs'.size;refine ⟨λ_ b hb hnk=>hs'.frame b hb λhm=>?_,hk ?_ _ (I6 hcl hr) h2 a' w' ha' (hw.back hM hs'.cx) (Az hf hsz)⟩
  . obtain ⟨x,hx,e⟩:=List.mem_map.1 hm;exact hnk (e▸hK x hx)
  . rintro hup ⟨b,o'⟩ hx;rcases hs'.own b o' (by simp [hx]) with h6|h6
    . obtain ⟨x,hx,e⟩:=List.mem_map.1 h6;exact e▸hK x hx
    . exact hup b (Az hf h6)
theorem G8(Mc R:Mem)(hget:nth os i=some o)(hg:o.guard=none)(hM:M.Perm (Mc++R))(hK:∀x∈Mc,K x.1)
    (h:∀w,OpL ⟨C.P,w,Mc.map Prod.fst,R++(J++C.A),C.N⟩ o l Mc [] (λl' M' J'=>((∀b,n0<=b->K b)->∀x∈M',K x.1)->XK C os Q K n0 nd plan l' (M'++R) (J'++J))) :
    XK C os Q K n0 nd ((i,2)::plan) l M J:=B2g hget (λa ha=>by simp [Region.wanted,hg]) hM hK h
theorem C2z{d:Option Nat}(Mc R:Mem)(hget:nth os i=some ⟨d,op,ty,pos,af,some (j,b)⟩)(hj:nth os j=some oj)(ht:oj.dst=some t)(hl:lk l t=some (.bool b))(hM:M.Perm (Mc++R))(hK:∀x∈Mc,K x.1)
    (h:∀w,OpL ⟨C.P,w,Mc.map Prod.fst,R++(J++C.A),C.N⟩ ⟨d,op,ty,pos,af,some (j,b)⟩ l Mc [] (λl' M' J'=>((∀b,n0<=b->K b)->∀x∈M',K x.1)->XK C os Q K n0 nd plan l' (M'++R) (J'++J))) :
    XK C os Q K n0 nd ((i,2)::plan) l M J:=B2g hget (λa ha=>by
      have hj':os.toArray[j]? = some oj:=by rw [W8] at hj;simpa using hj
      simp only [Region.wanted,yielded,hj',Option.bind_some,ht,ha.slot _ _ hl];simp) hM hK h
theorem B9R(hget:nth os i=some ⟨some d,op,ty,pos,af,g⟩)(hw':∀a,Ag C.N l a->Region.wanted ⟨some d,op,ty,pos,af,g⟩ (yielded os.toArray a.tmps)=false)(hd:Nat.blt d C.N=true)
    (h:XK C os Q K n0 nd plan ((d,undef)::l) M J):XK C os Q K n0 nd ((i,2)::plan) l M J:=by
  intro listed hcl hp a w ha hw hf;simp only [K8,Bool.and_eq_true,beq_iff_eq] at hp;obtain ⟨h1,h2⟩:=hp;have hi:os.toArray[i]? = some ⟨some d,op,ty,pos,af,g⟩:=by rw [W8] at hget;simpa using hget
  refine ⟨λh0=>(by rw [h1] at h0;cases h0),λj hj=>?_⟩;have hr:=hj;rw [h1] at hj;simp only [List.mem_singleton] at hj;subst hj;unfold wpOp;simp only [hi];rw [if_neg (by rw [hw' a ha];simp)];exact ⟨λ_ _ _ _=>rfl,h _ (I6 hcl hr) h2 _ w (ha.put (L7 hd) undef) hw hf⟩
theorem B6v{b':Bool}(hget:nth os i=some ⟨some d,op,ty,pos,af,some (j,b)⟩)(hj:nth os j=some oj)(ht:oj.dst=some t)(hl:lk l t=some (.bool b'))(hb:(b'==b)=false)(hd:Nat.blt d C.N=true)
    (h:XK C os Q K n0 nd plan ((d,undef)::l) M J):XK C os Q K n0 nd ((i,2)::plan) l M J :=
  B9R hget (λa ha=>A8z (i:=i) ha hj ht hl hb) hd h
theorem A31(hl:lk l t=some (.bool b))(h1:b=true->XK C os Q K n0 nd plan ((t,.bool true)::l) M J)(h2:b=false->XK C os Q K n0 nd plan ((t,.bool false)::l) M J) :
    XK C os Q K n0 nd plan l M J:=by
  intro listed hcl hp a w ha hw hf
  have key:∀b',b=b'->Ag C.N ((t,.bool b')::l) a:=by
    rintro b' rfl;refine ha.sub ?_;intro i v hi;simp only [lk] at hi;by_cases e:t=i
    . subst e;simp at hi;subst hi;exact hl
    . simpa only [A0p e,cond_false] using hi
  cases b
  . exact h2 E listed hcl hp a w (key _ E) hw hf
  . exact h1 E listed hcl hp a w (key _ E) hw hf
end plan
def XF(C:Cx)(os:List Oper)(Q:XQ)(nd:List Nat)(plan:List (Nat×Nat))(l:Env)(M J:Mem):Prop:=XK C os Q (λ_=>False) 0 nd plan l M J
section free
variable{C:Cx}{Q:XQ}{l:Env}{M J:Mem}{os:List Oper}{nd:List Nat}{plan:List (Nat×Nat)}
theorem I1(nd:List Nat)(plan:List (Nat×Nat))(hm:C.P.follows .mixedOrders=true)(hp:A0f os nd plan=true)(h:Region.noSelect os.toArray=true->XF C os Q nd plan l M J):XC C (.region id os.toArray true) Q l M J:=by intro a w ha hw;simp only [A0f,Bool.and_eq_true,beq_iff_eq] at hp;obtain ⟨⟨h1,h3⟩,h4⟩:=hp;refine Code.wp_mono (Q:=T5 (A8n C Q)) (λe a w h=>by cases e<;>first|exact h|exact h.elim) ?_;refine wp_region_any hm (A1P (S:=Sk λ_=>False) (need:=nd.contains) _ _ _ _ ?_);have:=h h1 (Array.replicate os.length false) (λj oj _ hl=>by simp [Array.getElem?_replicate] at hl;split at hl<;>simp at hl) h4 a _ ha hw.drew (Am _);rw [h3] at this;simpa using this
theorem C9(nd:List Nat)(plan:List (Nat×Nat))(hm:C.P.follows .mixedOrders=true)(hp:A0f os nd plan=true)(h:Region.noSelect os.toArray=true->XF C os (A3U C c2 Q) nd plan l M J):XC C (.seq (.region id os.toArray true) c2) Q l M J :=
  A3 (I1 nd plan hm hp h)
theorem U0(h:Q .normal l M J):XF C os Q nd [] l M J:=A3G h
theorem E4(hk:Keep l l')(h:XC C c Q l' M J):XF C os (A3U C c Q) nd [] l M J:=I0 hk h
theorem A0h(hl:lk l t=some (.bool b))(h1:b=true->XF C os Q nd plan ((t,.bool true)::l) M J)(h2:b=false->XF C os Q nd plan ((t,.bool false)::l) M J):XF C os Q nd plan l M J:=A31 hl h1 h2
section ops
variable{i d j t:Nat}{op:Op}{ty:TypeId}{pos:String}{af:Array Edge}{b b':Bool}{v:Value}{oj:Oper}
theorem C45(hs:Region.noSelect os.toArray=true)(hget:nth os i=some ⟨some d,op,ty,pos,af,none⟩)(hq:OpQ C.P [] ⟨some d,op,ty,pos,af,none⟩ l v)(hd:Nat.blt d C.N=true)
    (h:XF C os Q nd plan ((d,v)::l) M J):XF C os Q nd ((i,0)::plan) l M J:=C44 hs hget hq hd h
theorem XF.r(hs:Region.noSelect os.toArray=true)(hget:nth os i=some ⟨some d,op,ty,pos,af,none⟩)(hq:OpQ C.P (M++(J++C.A)) ⟨some d,op,ty,pos,af,none⟩ l v)(hd:Nat.blt d C.N=true)
    (h:XF C os Q nd plan ((d,v)::l) M J):XF C os Q nd ((i,1)::plan) l M J:=XK.r hs hget (λ_ h=>h) (λ_ _ h=>h) hq hd h
theorem C46(hs:Region.noSelect os.toArray=true)(hget:nth os i=some ⟨some d,op,ty,pos,af,some (j,b)⟩)(hj:nth os j=some oj)(ht:oj.dst=some t)(hl:lk l t=some (.bool b))(hq:OpQ C.P [] ⟨some d,op,ty,pos,af,some (j,b)⟩ l v)(hd:Nat.blt d C.N=true)
    (h:XF C os Q nd plan ((d,v)::l) M J):XF C os Q nd ((i,0)::plan) l M J:=A4t hs hget hj ht hl hq hd h
theorem C47(hs:Region.noSelect os.toArray=true)(hget:nth os i=some ⟨some d,op,ty,pos,af,some (j,b)⟩)(hj:nth os j=some oj)(ht:oj.dst=some t)(hl:lk l t=some (.bool b))(hq:OpQ C.P (M++(J++C.A)) ⟨some d,op,ty,pos,af,some (j,b)⟩ l v)(hd:Nat.blt d C.N=true)
    (h:XF C os Q nd plan ((d,v)::l) M J):XF C os Q nd ((i,1)::plan) l M J:=B6u hs hget hj ht hl (λ_ h=>h) (λ_ _ h=>h) hq hd h
theorem C48(hs:Region.noSelect os.toArray=true)(hget:nth os i=some ⟨some d,op,ty,pos,af,some (j,b)⟩)(hj:nth os j=some oj)(ht:oj.dst=some t)(hl:lk l t=some (.bool b'))(hb:(b'==b)=false)(hd:Nat.blt d C.N=true)
    (h:XF C os Q nd plan ((d,undef)::l) M J):XF C os Q nd ((i,0)::plan) l M J:=A0u hs hget hj ht hl hb hd h
theorem C49(hs:Region.noSelect os.toArray=true)(hget:nth os i=some ⟨some d,op,ty,pos,af,some (j,b)⟩)(hj:nth os j=some oj)(ht:oj.dst=some t)(hl:lk l t=some (.bool b'))(hb:(b'==b)=false)(hd:Nat.blt d C.N=true)
    (h:XF C os Q nd plan ((d,undef)::l) M J):XF C os Q nd ((i,1)::plan) l M J:=A6l hs hget hj ht hl hb hd h
theorem A7x(hs:Region.noSelect os.toArray=true)(hget:nth os i=some ⟨some d,op,ty,pos,af,some (j,b)⟩)(hj:nth os j=some oj)(ht:oj.dst=some t)(hl:lk l t=some (.bool b'))(hb:(b'==b)=false)(hd:Nat.blt d C.N=true)
    (h:XF C os Q nd plan ((d,undef)::l) M J):XF C os Q nd ((i,2)::plan) l M J:=B6v hget hj ht hl hb hd h
end ops
theorem B2h(hget:nth os i=some o)(hg:o.guard=none)
    (h:∀w,OpL ⟨C.P,w,[],M++(J++C.A),C.N⟩ o l [] [] (λl' M' J'=>XF C os Q nd plan l' (M'++M) (J'++J))):XF C os Q nd ((i,2)::plan) l M J :=
  G8 [] M hget hg (.refl _) (λ_ h=>by cases h) λw=>(h w).mono λ_ _ _ hh _=>hh
theorem C2A{d:Option Nat}(hget:nth os i=some ⟨d,op,ty,pos,af,some (j,b)⟩)(hj:nth os j=some oj)(ht:oj.dst=some t)(hl:lk l t=some (.bool b))
    (h:∀w,OpL ⟨C.P,w,[],M++(J++C.A),C.N⟩ ⟨d,op,ty,pos,af,some (j,b)⟩ l [] [] (λl' M' J'=>XF C os Q nd plan l' (M'++M) (J'++J))):XF C os Q nd ((i,2)::plan) l M J :=
  C2z [] M hget hj ht hl (.refl _) (λ_ h=>by cases h) λw=>(h w).mono λ_ _ _ hh _=>hh
end free
section tails
variable{C:Cx}{Q:XQ}{l:Env}{M J:Mem}{os:List Oper}{K:Nat->Prop}{n0:Nat}{nd:List Nat}{plan:List (Nat×Nat)}
theorem B2i(hget:nth os i=some o)(hw':∀a,Ag C.N l a->Region.wanted o (yielded os.toArray a.tmps)=true)(hnd:nd.contains i=false)
    (h:OpL C o l M J (λl' M' J'=>XK C os Q K 0 nd plan l' M' J')):XK C os Q K 0 nd ((i,2)::plan) l M J:=by
  intro listed hcl hp a w ha hw hf;simp only [K8,Bool.and_eq_true,beq_iff_eq] at hp;obtain ⟨h1,h2⟩:=hp;have hi:os.toArray[i]? = some o:=by rw [W8] at hget;simpa using hget
  refine ⟨λh0=>(by rw [h1] at h0;cases h0),λj hj=>?_⟩;have hr:=hj;rw [h1] at hj;simp only [List.mem_singleton] at hj;subst hj;unfold wpOp;simp only [hi];rw [if_pos (hw' a ha)];refine .inl (Oper.wp_mono ?_ (h _ a w ha hw));rintro a' w' ⟨l',M',J',ha',hs',hk⟩;exact ⟨λhn=>absurd hn (by rw [hnd];decide),hk _ (I6 hcl hr) h2 a' w' ha' hs' (Am _)⟩
theorem G3(hget:nth os i=some o)(hg:o.guard=none)(hnd:nd.contains i=false)(h:OpL C o l M J (λl' M' J'=>XF C os Q nd plan l' M' J')):XF C os Q nd ((i,2)::plan) l M J :=
  B2i hget (λa ha=>by simp [Region.wanted,hg]) hnd h
end tails
def XR(C:Cx)(c:Code)(Q:XQ)(n:Nat)(l:Env)(M J:Mem):Prop:=∀a w,Ag C.N l a->St C M J w->Code.rounds C.P c (A8n C Q) n a w
def unX(C:Cx)(c:Code)(Q:XQ)(n:Nat):XQ
  | .normal,l,M,J=>XR C c Q n l M J
  | e,l,M,J=>Q e l M J
section unroll
variable{C:Cx}{Q:XQ}{l l':Env}{M J:Mem}{c:Code}{n:Nat}
theorem A0v(n:Nat)(h:XR C c Q n l M J):XC C (.loop c) Q l M J:=λa w ha hw=>wp_loop_rounds n (h a w ha hw)
theorem I2(h:XC C c (unX C c Q n) l M J):XR C c Q (n+1) l M J:=by
  intro a w ha hw;refine Code.wp_mono ?_ (h a w ha hw);rintro e a' w' ⟨l',M',J',ha',hw',hq⟩
  cases e with
  | normal=>exact hq a' w' ha' hw'
  | _=>exact ⟨l',M',J',ha',hw',hq⟩
theorem un(hk:Keep l l')(h:XR C c Q n l' M J):unX C c Q n .normal l M J:=λa w ha hw=>h a w (ha.sub hk.lk) hw
theorem ue(h:Q (.exit i) l M J):unX C c Q n (.exit i) l M J:=h
end unroll
variable{rest:List Oper}
section call
variable{C:Cx}{Q:XQ}{l:Env}{M J:Mem}{d i j t:Nat}{ty:TypeId}{pos:String}{af:Array Edge}{b:Bool}{f:FuncId}{xs:List Operand}{vs:List Value}{ts:Array TypeId}{post:Value->Mem->Mem->Prop}{K:Env->Mem->Mem->Prop}{g:Option (Nat×Bool)}
theorem D9(hx:Evs l xs vs)(hc:K1 C.P f=true)
    (hf:FnX C.P f vs [] (M++(J++C.A)) post) (hd:Nat.blt d C.N=true) (k:∀v M' J',post v M' J'->K ((d,v)::l) (M'++M) (J'++J)) :
    OpL C ⟨some d,.call { callee:=.value (.func f),args:=xs.toArray,argTypes:=ts },ty,pos,af,g⟩ l M J K:=C8 (Mc:=[]) (R:=M) hx hc (.refl _) hf hd k
theorem C6(hx:Evs l xs vs)(hc:K1 C.P f=true)(hf:FnX C.P f vs [] (M++(J++C.A)) post)(hd:Nat.blt d C.N=true)
    (k:∀v M' J',post v M' J'->XL C ops rest Q ((d,v)::l) (M'++M) (J'++J)) :
    XL C ops (⟨some d,.call { callee:=.value (.func f),args:=xs.toArray,argTypes:=ts },ty,pos,af,none⟩::rest) Q l M J:=A2 E (D9 hx hc hf hd k)
theorem B6w(ht:(ops[j]?).bind (·.dst)=some t)(hl:lk l t=some (.bool b))(hx:Evs l xs vs)(hc:K1 C.P f=true)(hf:FnX C.P f vs [] (M++(J++C.A)) post)(hd:Nat.blt d C.N=true)
    (k:∀v M' J',post v M' J'->XL C ops rest Q ((d,v)::l) (M'++M) (J'++J)) :
    XL C ops (⟨some d,.call { callee:=.value (.func f),args:=xs.toArray,argTypes:=ts },ty,pos,af,some (j,b)⟩::rest) Q l M J:=G1 ht hl (D9 hx hc hf hd k)
variable{os:List Oper}{nd:List Nat}{plan:List (Nat×Nat)}{oj:Oper}
theorem G5(hget:nth os i=some ⟨some d,.call { callee:=.value (.func f),args:=xs.toArray,argTypes:=ts },ty,pos,af,none⟩)(hx:Evs l xs vs)(hc:K1 C.P f=true)(hf:FnX C.P f vs [] (M++(J++C.A)) post)(hd:Nat.blt d C.N=true)
    (k:∀v M' J',post v M' J'->XF C os Q nd plan ((d,v)::l) (M'++M) (J'++J)):XF C os Q nd ((i,2)::plan) l M J :=
  B2h hget E λw=>D9 hx hc hf hd λv M' J' hp=>by simpa using k v M' J' hp
theorem A2J(hget:nth os i=some ⟨some d,.call { callee:=.value (.func f),args:=xs.toArray,argTypes:=ts },ty,pos,af,some (j,b)⟩)(hj:nth os j=some oj)(ht:oj.dst=some t)(hl:lk l t=some (.bool b))(hx:Evs l xs vs)(hc:K1 C.P f=true)(hf:FnX C.P f vs [] (M++(J++C.A)) post)(hd:Nat.blt d C.N=true)
    (k:∀v M' J',post v M' J'->XF C os Q nd plan ((d,v)::l) (M'++M) (J'++J)):XF C os Q nd ((i,2)::plan) l M J :=
  C2A hget hj ht hl λw=>D9 hx hc hf hd λv M' J' hp=>by simpa using k v M' J' hp
theorem D8(hx:Evs l xs vs)(hc:K1 C.P f=true)(hf:FnV C.P f vs (M++(J++C.A)) v)(hd:Nat.blt d C.N=true)(k:XL C ops rest Q ((d,v)::l) M J) :
    XL C ops (⟨some d,.call { callee:=.value (.func f),args:=xs.toArray,argTypes:=ts },ty,pos,af,none⟩::rest) Q l M J:=C6 hx hc hf hd λr M' J' h=>by obtain ⟨rfl,rfl,rfl⟩:=h;exact k
theorem A7y(ht:(ops[j]?).bind (·.dst)=some t)(hl:lk l t=some (.bool b))(hx:Evs l xs vs)(hc:K1 C.P f=true)(hf:FnV C.P f vs (M++(J++C.A)) v)(hd:Nat.blt d C.N=true)(k:XL C ops rest Q ((d,v)::l) M J) :
    XL C ops (⟨some d,.call { callee:=.value (.func f),args:=xs.toArray,argTypes:=ts },ty,pos,af,some (j,b)⟩::rest) Q l M J:=B6w ht hl hx hc hf hd λr M' J' h=>by obtain ⟨rfl,rfl,rfl⟩:=h;exact k
theorem N3(hget:nth os i=some ⟨some d,.call { callee:=.value (.func f),args:=xs.toArray,argTypes:=ts },ty,pos,af,none⟩)(hx:Evs l xs vs)(hc:K1 C.P f=true)(hf:FnV C.P f vs (M++(J++C.A)) v)(hd:Nat.blt d C.N=true)
    (k:XF C os Q nd plan ((d,v)::l) M J):XF C os Q nd ((i,2)::plan) l M J:=G5 hget hx hc hf hd λr M' J' h=>by obtain ⟨rfl,rfl,rfl⟩:=h;exact k
theorem A2K(hget:nth os i=some ⟨some d,.call { callee:=.value (.func f),args:=xs.toArray,argTypes:=ts },ty,pos,af,some (j,b)⟩)(hj:nth os j=some oj)(ht:oj.dst=some t)(hl:lk l t=some (.bool b))(hx:Evs l xs vs)(hc:K1 C.P f=true)(hf:FnV C.P f vs (M++(J++C.A)) v)(hd:Nat.blt d C.N=true)
    (k:XF C os Q nd plan ((d,v)::l) M J):XF C os Q nd ((i,2)::plan) l M J:=A2J hget hj ht hl hx hc hf hd λr M' J' h=>by obtain ⟨rfl,rfl,rfl⟩:=h;exact k
end call
end Go.Px

namespace Go.Px
theorem kr_{X Z Y:Mem}:∀x∈Z++Y,x∈(X++Z)++Y:=λx hx=>by rw [Ap];exact Ai _ hx
def zp:Nat->List Nat->List (Nat×Nat)
  | _,[]=>[]
  | i,c::r=>(i,c)::zp (i+1) r
section
variable{C:Cx}{Q:XQ}{l:Env}{M J:Mem}{os:List Oper}{K:Nat->Prop}{n0:Nat}{nd:List Nat}{plan:List (Nat×Nat)}{i d j t:Nat}{op:Op}{ty:TypeId}{pos:String}{af:Array Edge}{b b':Bool}{v:Value}{oj:Oper}{x:Operand}
theorem fm_(h:XF C os Q nd plan ((d,v)::l) M J)(hget:nth os i=some ⟨some d,.move x,ty,pos,af,none⟩:=by exact E)(hx:ev l x=some v:=by exact E)(hd:Nat.blt d C.N=true:=by exact E)(hs:Region.noSelect os.toArray=true:=by assumption):XF C os Q nd ((i,0)::plan) l M J:=C45 hs hget (A9n hx) hd h
theorem fM_(hget:nth os i=some ⟨some d,.move x,ty,pos,af,none⟩)(hx:ev l x=some v)(h:XF C os Q nd plan ((d,v)::l) M J)(hd:Nat.blt d C.N=true:=by exact E)(hs:Region.noSelect os.toArray=true:=by assumption):XF C os Q nd ((i,0)::plan) l M J:=fm_ h hget hx hd hs
theorem fa_(h:XF C os Q nd plan ((d,v)::l) M J)(hget:nth os i=some ⟨some d,.assign x,ty,pos,af,none⟩:=by exact E)(hx:ev l x=some v:=by exact E)(hd:Nat.blt d C.N=true:=by exact E)(hs:Region.noSelect os.toArray=true:=by assumption):XF C os Q nd ((i,0)::plan) l M J:=C45 hs hget (G2 hx) hd h
theorem fA_(hget:nth os i=some ⟨some d,.assign x,ty,pos,af,none⟩)(hx:ev l x=some v)(h:XF C os Q nd plan ((d,v)::l) M J)(hd:Nat.blt d C.N=true:=by exact E)(hs:Region.noSelect os.toArray=true:=by assumption):XF C os Q nd ((i,0)::plan) l M J:=fa_ h hget hx hd hs
theorem km_(h:XK C os Q K n0 nd plan ((d,v)::l) M J)(hget:nth os i=some ⟨some d,.move x,ty,pos,af,none⟩:=by exact E)(hx:ev l x=some v:=by exact E)(hd:Nat.blt d C.N=true:=by exact E)(hs:Region.noSelect os.toArray=true:=by assumption):XK C os Q K n0 nd ((i,0)::plan) l M J:=C44 hs hget (A9n hx) hd h
theorem kM_(hget:nth os i=some ⟨some d,.move x,ty,pos,af,none⟩)(hx:ev l x=some v)(h:XK C os Q K n0 nd plan ((d,v)::l) M J)(hd:Nat.blt d C.N=true:=by exact E)(hs:Region.noSelect os.toArray=true:=by assumption):XK C os Q K n0 nd ((i,0)::plan) l M J:=km_ h hget hx hd hs
theorem fQ_(hget:nth os i=some ⟨some d,op,ty,pos,af,none⟩)(hq:OpQ C.P [] ⟨some d,op,ty,pos,af,none⟩ l v)(h:XF C os Q nd plan ((d,v)::l) M J)(hd:Nat.blt d C.N=true:=by exact E)(hs:Region.noSelect os.toArray=true:=by assumption):XF C os Q nd ((i,0)::plan) l M J:=C45 hs hget hq hd h
theorem fR_(hget:nth os i=some ⟨some d,op,ty,pos,af,none⟩)(hq:OpQ C.P (M++(J++C.A)) ⟨some d,op,ty,pos,af,none⟩ l v)(h:XF C os Q nd plan ((d,v)::l) M J)(hd:Nat.blt d C.N=true:=by exact E)(hs:Region.noSelect os.toArray=true:=by assumption):XF C os Q nd ((i,1)::plan) l M J:=XF.r hs hget hq hd h
theorem fG_(hget:nth os i=some ⟨some d,op,ty,pos,af,some (j,b)⟩)(hq:OpQ C.P [] ⟨some d,op,ty,pos,af,some (j,b)⟩ l v)(h:XF C os Q nd plan ((d,v)::l) M J)(hj:nth os j=some oj:=by exact E)(ht:oj.dst=some t:=by exact E)(hl:lk l t=some (.bool b):=by exact E)(hd:Nat.blt d C.N=true:=by exact E)(hs:Region.noSelect os.toArray=true:=by assumption):XF C os Q nd ((i,0)::plan) l M J:=C46 hs hget hj ht hl hq hd h
theorem fH_(hget:nth os i=some ⟨some d,op,ty,pos,af,some (j,b)⟩)(hq:OpQ C.P (M++(J++C.A)) ⟨some d,op,ty,pos,af,some (j,b)⟩ l v)(h:XF C os Q nd plan ((d,v)::l) M J)(hj:nth os j=some oj:=by exact E)(ht:oj.dst=some t:=by exact E)(hl:lk l t=some (.bool b):=by exact E)(hd:Nat.blt d C.N=true:=by exact E)(hs:Region.noSelect os.toArray=true:=by assumption):XF C os Q nd ((i,1)::plan) l M J:=C47 hs hget hj ht hl hq hd h
theorem kQ_(hget:nth os i=some ⟨some d,op,ty,pos,af,none⟩)(hq:OpQ C.P [] ⟨some d,op,ty,pos,af,none⟩ l v)(h:XK C os Q K n0 nd plan ((d,v)::l) M J)(hd:Nat.blt d C.N=true:=by exact E)(hs:Region.noSelect os.toArray=true:=by assumption):XK C os Q K n0 nd ((i,0)::plan) l M J:=C44 hs hget hq hd h
theorem L0(hs:Region.noSelect os.toArray=true)(h:XF C os Q nd plan ((d,undef)::l) M J)(hget:nth os i=some ⟨some d,op,ty,pos,af,some (j,b)⟩:=by exact E)(hj:nth os j=some oj:=by exact E)(ht:oj.dst=some t:=by exact E)(hl:lk l t=some (.bool b'):=by exact E)(hb:(b'==b)=false:=by exact E)(hd:Nat.blt d C.N=true:=by exact E):XF C os Q nd ((i,0)::plan) l M J:=C48 hs hget hj ht hl hb hd h
theorem W3(hs:Region.noSelect os.toArray=true)(h:XF C os Q nd plan ((d,undef)::l) M J)(hget:nth os i=some ⟨some d,op,ty,pos,af,some (j,b)⟩:=by exact E)(hj:nth os j=some oj:=by exact E)(ht:oj.dst=some t:=by exact E)(hl:lk l t=some (.bool b'):=by exact E)(hb:(b'==b)=false:=by exact E)(hd:Nat.blt d C.N=true:=by exact E):XF C os Q nd ((i,1)::plan) l M J:=C49 hs hget hj ht hl hb hd h
theorem I8{R:Mem}(hs:Region.noSelect os.toArray=true)(hget:nth os i=some ⟨some d,op,ty,pos,af,none⟩)(hn:∀x∈R,¬K x.1)(hq:OpQ C.P R ⟨some d,op,ty,pos,af,none⟩ l v)(h:XK C os Q K n0 nd plan ((d,v)::l) M J)(hR:∀x∈R,x∈M++(J++C.A):=by first|exact λx hx=>by rw [Ap];exact Ai _ hx|exact SubC.sub)(hd:Nat.blt d C.N=true:=by exact E):XK C os Q K n0 nd ((i,1)::plan) l M J:=XK.r hs hget hR hn hq hd h
end
end Go.Px

