/- Part 15 of the texts of this claim, one behind the other. -/
import Derived.Test.YtjkpfgjfpbihaaaGreatDoorB14
import Derived.Laws.StructEq
import Derived.Lib.AppendStr
set_option linter.unusedVariables false
set_option linter.unusedSimpArgs false
set_option maxRecDepth 100000
namespace Go.Proofs.YtjkpfgjfpbihaaaGreatDoor
open Go.Px
def z32:LN:=List.replicate 32 0
def A1T:LN:=[104,101,108,108,111]
theorem B6n:B256 A1T:=⟨by decide⟩
noncomputable def agS(s:Ps):List (LN×LN)->Ps
  | []=>s
  | x::r=>agS (P1 s x.1 x.2) r
noncomputable def agK(s:Ps):List (LN×LN)->List (LN)
  | []=>[]
  | x::r=>A18 s x.1 x.2::agK (P1 s x.1 x.2) r
def seS(s:Ps)(l:List (LN)):Ps:=B0s s z32 l A1T 1
def seK(s:Ps)(l:List (LN)):LN:=(B0t s z32 l A1T 1).getD 0 []
theorem C17:∀ (l:List (LN×LN)) (s:Ps),Ext s (agS s l)
  | [],s=>Ext.refl s
  | x::r,s=>(C1W s x.1 x.2).trans (C17 r _)
theorem A76:∀ (l:List (LN×LN)) (s:Ps),(agS s l).ts.length<=s.ts.length+3 * l.length∧(agS s l).n=s.n
  | [],s=>⟨Av _,E⟩
  | x::r,s=>by have h1:=A76 r (P1 s x.1 x.2);have h2:=U6 s x.1 x.2;have h3:=B2K s x.1 x.2;rw [List.length_cons];show (agS (P1 s x.1 x.2) r).ts.length<=_∧(agS (P1 s x.1 x.2) r).n=_;omega
theorem A77:∀ (l:List (LN×LN)) (s:Ps),(agK s l).length=l.length
  | [],s=>rfl
  | x::r,s=>by show (_::agK _ r).length=_; rw [List.length_cons,A77 r,List.length_cons]
theorem B9A(s:Ps)(l:List (LN)):(seS s l).ts.length<=s.ts.length+l.length+2∧(seS s l).n=s.n:=by have h1:=A3x s z32 l A1T 1;have h2:=(A32 s z32 l A1T 1).2.1;unfold seS;omega
abbrev Tri:=LN×LN×LN
def tb(l:List Tri):List (LN×LN):=l.map λ q=>(q.1,q.2.1)
structure He where
  ia:LN
  ig:LN
  key:LN
  signed:Nat
  has:Bool
  once:Nat
noncomputable def stP(ka e:LN)(b:Bn):List (LN×LN):=(ka,b.key)::(e,b.ia)::(e,b.key)::if b.has then [(e,b.oncek)] else []
noncomputable def stA(ka:LN)(b:Bn)(s:Ps):Ps:=agS (G3 s) (stP ka (G5 s) b)
noncomputable def stL(ka:LN)(b:Bn)(s:Ps):List (LN):=agK (G3 s) (stP ka (G5 s) b)
noncomputable def stI(k:Ks)(b:Bn)(s:Ps):Ps:=N8 (idS k (stA k.agree b s)) (G5 s)
noncomputable def stS(k:Ks)(b:Bn)(s:Ps):Ps:=seS (stI k b s) (stL k.agree b s)
noncomputable def stK(k:Ks)(b:Bn)(s:Ps):LN:=seK (stI k b s) (stL k.agree b s)
noncomputable def stH(k:Ks)(b:Bn)(s:Ps):He:=⟨idA k (stA k.agree b s),idG k (stA k.agree b s),P7 (idS k (stA k.agree b s)) (G5 s),b.signed,b.has,if b.has then b.once else 0⟩
theorem B9B(ka e:LN)(b:Bn):(stP ka e b).length<=4:=by unfold stP; split <;> simp
theorem B9C(k:Ks)(b:Bn)(s:Ps):(stA k.agree b s).ts.length<=s.ts.length+13∧(stI k b s).ts.length<=s.ts.length+19∧(stS k b s).ts.length<=s.ts.length+25∧(stS k b s).n=s.n+1∧(stL k.agree b s).length<=4:=by
  have h1:=T6 s;have h2:=A76 (stP k.agree (G5 s) b) (G3 s);have h3:=B9B k.agree (G5 s) b;have h4:=A4j k (stA k.agree b s);have h5:=Y7 (idS k (stA k.agree b s)) (G5 s);have h6:=B9A (stI k b s) (stL k.agree b s);have h7:=A77 (stP k.agree (G5 s) b) (G3 s);have h8:=A2Y (idS k (stA k.agree b s)) (G5 s);have h9:(idS k (stA k.agree b s)).n=(stA k.agree b s).n:=by unfold idS; rw [A2Y,A2Y]
  have e1:(stA k.agree b s).ts.length=(agS (G3 s) (stP k.agree (G5 s) b)).ts.length:=rfl;have e2:(stA k.agree b s).n=(agS (G3 s) (stP k.agree (G5 s) b)).n:=rfl;have e3:(stI k b s).ts.length=(N8 (idS k (stA k.agree b s)) (G5 s)).ts.length:=rfl;have e4:(stI k b s).n=(N8 (idS k (stA k.agree b s)) (G5 s)).n:=rfl;have e5:(stL k.agree b s).length=(agK (G3 s) (stP k.agree (G5 s) b)).length:=rfl;have e6:(stS k b s).ts.length=(seS (stI k b s) (stL k.agree b s)).ts.length:=rfl;have e7:(stS k b s).n=(seS (stI k b s) (stL k.agree b s)).n:=rfl;omega
def anP(ka sx:LN)(ox:Option (LN))(h:He):List (LN×LN):=(sx,h.ia)::(ka,h.key)::(sx,h.key)::match ox with | none=>[] | some o=>[(o,h.key)]
noncomputable def anE(ka sx:LN)(ox:Option (LN))(h:He)(s:Ps):Option (LN×LN)×Ps:=(some (seK (agS s (anP ka sx ox h)) (agK s (anP ka sx ox h)),sx),seS (agS s (anP ka sx ox h)) (agK s (anP ka sx ox h)))
noncomputable def anR(k:Ks)(h:He)(s:Ps):Option (LN×LN)×Ps :=
  match A4H k.signed h.signed with
  | none=>(none,s)
  | some sx=>if h.has then match A4H k.once h.once with
      | none=>(none,agS s (anP k.agree sx none h))
      | some o=>anE k.agree sx (some o) h s
    else anE k.agree sx none h s
variable{k:Ks}{h:He}{s:Ps}
theorem C18(h1:A4H k.signed h.signed=none):anR k h s=(none,s):=by unfold anR; rw [h1]
variable{sx:LN}
theorem B9D(h1:A4H k.signed h.signed=some sx)(h2:h.has=true)(h3:A4H k.once h.once=none):anR k h s=(none,agS s (anP k.agree sx none h)):=by unfold anR; rw [h1]; dsimp only; rw [if_pos h2,h3]
theorem B2X{o:LN}(h1:A4H k.signed h.signed=some sx)(h2:h.has=true)(h3:A4H k.once h.once=some o):anR k h s=anE k.agree sx (some o) h s:=by unfold anR; rw [h1]; dsimp only; rw [if_pos h2,h3]
theorem A9g(h1:A4H k.signed h.signed=some sx)(h2:h.has=false):anR k h s=anE k.agree sx none h s:=by unfold anR; rw [h1]; dsimp only; rw [if_neg (by rw [h2]; decide)]
theorem A19{n:Nat}(h:n < 18446744073709551616):IntKind.u64.wrap (n:Int)=(n:Int):=A3l qO qO
def u32N(x:Int):Nat:=(x % 4294967296).toNat
theorem B2Y(x:Int):u32N x < 4294967296:=by unfold u32N; omega
theorem A7h(x:Int):IntKind.u32.wrap x=((u32N x:Nat):Int):=by unfold u32N IntKind.wrap;simp [IntKind.signed,IntKind.bits];omega
def u64N(x:Int):Nat:=(x % 18446744073709551616).toNat

theorem A7i(x:Int):IntKind.u64.wrap x=((u64N x:Nat):Int):=by unfold u64N IntKind.wrap;simp [IntKind.signed,IntKind.bits];omega
theorem B2Z(x:Int):u64N x < 18446744073709551616:=by unfold u64N; omega
def wiN(u d:Int)(a g:LN):LN:=beN (u64N u) 4++beN (u64N d) 4++(beN a.length 4++a)++(beN g.length 4++g)
theorem A78(u d:Int)(a g:LN):(wiN u d a g).length=a.length+g.length+16:=by simp [wiN,K4]; omega
theorem C19{l:List (LN)}:(B0t s z32 l A1T 1)=[seK s l]:=by
  have h:=B9r s z32 l A1T 1;unfold seK
  match h2:B0t s z32 l A1T 1,h with
  | [x],_=>rfl
theorem C2a(A:Mem):FnX Tryz.prog 76 [] [] A λ q M J=>M=[]∧By J q z32:=by refine Cl (N:=2) Tryz.func76 E E E λ w_=>?_;refine A9 kn (A1 (as_ (A0 kn (A1 ?_))));refine A3 E (A0F (by_:=1) (k:=.u8) (e:=5) 32 E E kR E E qD qD E λ b1=>?_);refine as_ (A0 (D5 0) (C0 ?_));exact ⟨_,[],[(b1,blk (nums .u8 z32) 5)],I0 E E,Ce (by simp [z32]),E,⟨Co (n:=32) qK qR,by decide,by decide⟩⟩
theorem A4l(pb:Nat)(s:Ps)(lv:Value)(l:List (LN))(MP A:Mem)(hP:Prm pb s MP)(hl:LsV A lv l)(hll:l.length<=1000)(hn:s.ts.length<=1040000)(hG:Glb A):FnX Tryz.prog 39 [(vP pb),lv] MP A λ q M J=>Prm pb (seS s l) M∧By J q (seK s l):=by haveI:=hl.cel;refine Cl (N:=16) Tryz.func39 E E E λ w_=>?_;refine A9 (D2 0 1) (A1 (as_ (A0 (D2 0 1) (A1 (mv_ ?_)))));refine C7 a0 kR (C2a _) E ?_;rintro v7 M7 J7 ⟨rfl,h7⟩;haveI:=h7.cel;refine mv_ ?_;refine A3 E (D0 (Mc:=MP) (R:=_) (aS E (aS E (aS E (aS E (aS E a0))))) kR qP (A16 pb s v7 lv z32 A1T l 1 MP _ hP (h7.mono qS) (hl.mono qS) hll B6n qD qD qD hn hG.up) E ?_);rintro v9 M9 J9 ⟨hP9,hL9⟩;haveI:=hL9.cel;rw [C19] at hL9;obtain ⟨us,hru,hul⟩:=hL9.ex;change Rd J9 1 v9 1 us at hru;obtain ⟨u,hu,hub⟩:=hul.at (show 0 < [seK s l].length from Nat.zero_lt_one);haveI:=hub.cel;change By J9 u (seK s l) at hub;change Prm pb (seS s l) M9 at hP9;refine as_ (A0 (D5 5) (A4 (A1 (mv_ ?_))));refine A2 (G6 (sz:=1) E kR hru) E ?_;refine A2 (F5 false E E (eqF qD)) E ?_;refine A0 (D2 5 12) ?_;refine C9 E ?_;refine A6 (nx (D5 5) (A1 (mv_ ?_)));refine A2 (H4 (sz:=1) (a:=0) E E kR E hru qD) E ?_;refine A2 (Y9 (u:=u) (hru.mono qS) E kR hu) E ?_;refine as_ (A0 (D5 4) (C0 ?_));exact ⟨_,M9,[],I0 E E,Cg (Cf qP),hP9,hub.mono qS⟩
def wiP(u d:Int)(a g:LN)(u' d':Int)(a' g':LN):Nat->LN
  | 0=>[]
  | 1=>wiN u d a g
  | _=>wiN u d a g++wiN u' d' a' g'
def B3a(u d:Int)(a g:LN)(u' d':Int)(a' g':LN):LN:=wiN u d a g++wiN u' d' a' g'
theorem B7E(fu fd tu td:Int)(va vg vb vh:Value)(a g b h:LN)(A:Mem)(ga:By A va a)(gg:By A vg g)(gb:By A vb b)(gh:By A vh h)(hl:a.length+g.length+b.length+h.length<=1000000):FnX Tryz.prog 18 [.agg #[.int .i64 fu,.int .i64 fd],.agg #[va,vg],.agg #[.int .i64 tu,.int .i64 td],.agg #[vb,vh]] [] A λ q M J=>M=[]∧By J q (B3a fu fd a g tu td b h):=by
 haveI:=ga.cel;haveI:=gg.cel;haveI:=gb.cel;haveI:=gh.cel;refine Cl (N:=48) Tryz.func18 E E E λ w_=>?_;refine A9 (D8 0 1 2 3) (A1 ?_);refine A3 E (bx_ λ b4=>?_);refine A3 E (bx_ λ b5=>?_);refine A3 E (bx_ λ b6=>?_);refine A3 E (bx_ λ b7=>?_);refine as_ (A0 (D8 4 5 6 7) (A1 ?_));refine A2 (F1 (place:=λ x=>#[(0,1)][x]?) (z:=[vS]) (λ _=>by kernel_rfl) e0 bd0) E ?_;refine A3 E (bx_ λ b13=>?_);refine as_ (A0 (E8 4 5 6 7 9) (A4 (A1 ?_)));refine A2 (qw_ 2) E ?_;refine A2 (qw_ 2) E ?_;refine A2 (F1 (place:=λ x=>#[(0,2),(2,2)][x]?) (z:=[.int .i64 0,.int .i64 0,vS,vS]) (λ _=>by kernel_rfl) (eS E (eS E e0)) (bdS 0 2 E qR (bdS 2 2 E qR bd0))) E ?_;refine A2 (qw_ 2) E ?_;refine A2 (qw_ 2) E ?_;refine A2 (F1 (place:=λ x=>#[(0,2),(2,2)][x]?) (z:=[.int .i64 0,.int .i64 0,vS,vS]) (λ _=>by kernel_rfl) (eS E (eS E e0)) (bdS 0 2 E qR (bdS 2 2 E qR bd0))) E ?_;refine A3 E (C5 (e:=112) (sz:=4) (z:=[P5,P5,vS,vS,P5,P5,vS,vS]) kR (eS E (eS E e0)) (bdS 0 4 E qR (bdS 4 4 E qR bd0)) E λ b20=>?_);refine A2 (A0Z (e:=112) E kR) E ?_;refine mv_ (A0 (D8 9 20 21 22) (A8 ?_));refine Y5 (B:=[(b20,blk [.int .i64 fu,.int .i64 fd,va,vg,.int .i64 tu,.int .i64 td,vb,vh] 112)]) qP ?_;refine E5 (α:=Nat×Mem) (λ y=>[(9,(vP b13)),(20,.slice (some ⟨b20,0,none⟩) 2 2),(21,.int .i64 2),(22,(vI y.1))]) (λ y=>y.2) (λ _=>[(b20,blk [.int .i64 fu,.int .i64 fd,va,vg,.int .i64 tu,.int .i64 td,vb,vh] 112)]) (λ y=>y.1<=2∧Wtr b13 (wiP fu fd a g tu td b h y.1) y.2) (λ y=>2 - y.1) (0,[(b13,blk [vS] 111)]) ⟨Am _,Wtr.new⟩ (D8 9 20 21 22) (Cf qP) qS ?_;rintro ⟨i,MW⟩ ⟨hi,hW⟩;dsimp only at hi hW ⊢
 have hwl:(wiP fu fd a g tu td b h i).length<=2000100:=by rcases (by omega:i=0∨i=1∨i=2) with rfl | rfl | rfl <;> simp [wiP,A78] <;> omega
 refine A1 ?_;refine A2 (F0 E E E) E ?_;refine A0 (E8 9 20 21 22 23) (A4 ?_);refine C4 E ?_ ?_ <;> intro hc
 .
  have hlt:i < 2:=by simp at hc; omega
  obtain ⟨u,d,x,z,vx,vz,hr1,hx,hz,hlx,hP⟩:∃ u d x z vx vz,([[.int .i64 fu,.int .i64 fd,va,vg],[.int .i64 tu,.int .i64 td,vb,vh]]:List (List Value))[i]? = some [.int .i64 u,.int .i64 d,vx,vz]∧By A vx x∧By A vz z∧x.length+z.length<=1000000∧wiP fu fd a g tu td b h (i+1)=wiP fu fd a g tu td b h i++wiN u d x z:=by
   rcases (by omega:i=0∨i=1) with rfl | rfl
   . exact ⟨fu,fd,a,g,va,vg,E,ga,gg,by omega,E⟩
   . exact ⟨tu,td,b,h,vb,vh,E,gb,gh,by omega,E⟩
  haveI:=hx.cel;haveI:=hz.cel;have hu64:=B2Z u;have hd64:=B2Z d;refine A6 (nx (D8 9 20 21 22) (A4 (A8 (A1 ?_))));refine A2 (H4 (sz:=4) E E kR E (Co (n:=2) (R:=[(b20,blk [.int .i64 fu,.int .i64 fd,va,vg,.int .i64 tu,.int .i64 td,vb,vh] 112)]) qK qR) hlt) E ?_;refine A2 (A0K (rows:=[[.int .i64 fu,.int .i64 fd,va,vg],[.int .i64 tu,.int .i64 td,vb,vh]]) E kR (Co (n:=2) Cc qR) (by intro r hr; simp at hr; rcases hr with rfl | rfl <;> rfl) qD hr1) E ?_;refine A3 E (C3 (cs:=[.int .i64 0,.int .i64 0,vS,vS]) kR E λ b11=>?_);refine A3 E (A7 (vs:=[.int .i64 u,.int .i64 d,vx,vz]) E E E kR qR (A5 E (A5 E (A5 hx.one (A5 hz.one I7)))) Cs ?_);refine A0 (E8 9 11 20 21 22) ?_;refine X9 (MW) (_) true (.range 19) [(0,0),(1,0),(2,0),(3,1),(4,0),(6,0),(7,0),(8,1),(9,0),(11,0),(12,0),(13,1),(15,0),(16,0),(17,1),(5,2),(10,2),(14,2),(18,2)] kR kR qP λ hs K n0 hKm hKs hKn=>?_;refine km_ hs ?_;refine G7 hs E (qf_ 0 0) E ?_;refine G7 hs E (qf_ 0 0) E ?_;refine K0 hs E hKs ql_ ?_;refine G7 hs E (A0l (k':=.u64) ((u64N u:Nat):Int) E kR (A7i u)) E ?_;refine G7 hs E (qf_ 0 0) E ?_;refine G7 hs E (qf_ 1 1) E ?_;refine K0 hs E hKs ql_ ?_;refine G7 hs E (A0l (k':=.u64) ((u64N d:Nat):Int) E kR (A7i d)) E ?_;refine G7 hs E (qf_ 2 2) E ?_;refine G7 hs E (qf_ 2 0) E ?_;refine K0 hs E hKs ql_ ?_;refine G7 hs E (qf_ 2 2) E ?_;refine G7 hs E (qf_ 3 1) E ?_;refine K0 hs E hKs ql_ ?_
  refine H3 _ _ E E (Ah _) hKm λ w0=>(D0 (Mc:=MW) (R:=_) (aS E (aS E (aS E (a0)))) kR qP (Q4 b13 (u64N u) 4 _ _ _ hW hu64 qD qO) E ?_)
  rintro v31 M31 J31 ⟨rfl,hW31⟩ hKx31
  refine H3 M31 _ E E qP (λ x hx=>hKx31 (hKn E) x (by simpa using hx)) λ w0=>(D0 (Mc:=M31) (R:=_) (aS E (aS E (aS E (a0)))) kR qP (Q4 b13 (u64N d) 4 _ _ _ hW31 hd64 qD (by first | (simp [K4]; done) | (simp [K4]; omega))) E ?_)
  rintro v36 M36 J36 ⟨rfl,hW36⟩ hKx36
  refine H3 M36 _ E E qP (λ x hx=>hKx36 (hKn E) x (by simpa using hx)) λ w0=>(D0 (Mc:=M36) (R:=_) (aS E (aS E (a0))) kR qP (N0 b13 vx x _ _ _ hW36 (hx.mono qS) (by first | (simp [K4]; done) | (simp [K4]; omega))) E ?_)
  rintro v40 M40 J40 ⟨rfl,hW40⟩ hKx40
  refine H3 M40 _ E E qP (λ x hx=>hKx40 (hKn E) x (by simpa using hx)) λ w0=>(D0 (Mc:=M40) (R:=_) (aS E (aS E (a0))) kR qP (N0 b13 vz z _ _ _ hW40 (hz.mono qS) (by first | (simp [K4]; done) | (simp [K4]; omega))) E ?_)
  rintro v44 M44 J44 ⟨rfl,hW44⟩ hKx44;refine A3a (nb (nx (D8 9 20 21 22) (C2 ?_)));refine A2 (D7 ((i+1:Nat):Int) E E (F7 qO qO qO)) E ?_;refine mv_ (C6 ?_);exact rn (i+1,M44) ⟨hlt,hW44.eq (by dsimp only; rw [hP]; simp [wiN,List.append_assoc])⟩ (by dsimp only; omega) (D8 9 20 21 22) (Cf qP) qS
 .
  have hge:i=2:=by simp at hc; omega
  subst hge;refine D9 (te (re (be E (nx (D5 9) (A1 (mv_ ?_))))));refine A3 E (D0 (Mc:=MW) (R:=_) (aS E a0) kR qP (A0g b13 _ _ _ hW qO) E ?_);rintro v47 M47 J47 ⟨hW47,h47⟩;haveI:=h47.cel;refine as_ (A0 (D5 8) (C0 ?_));exact ⟨_,[],[],I0 E E,qZ,E,h47.mono qS⟩
theorem B3b(pb:Nat)(s:Ps)(b:Bn)(va vg vk vs vo:Value)(MP A:Mem)(hP:Prm pb s MP)(hsub:∀ x,x∈MP->x∈A)(har:Ar s.ts)(hn:s.ts.length<=1048576)(ga:By A va b.ia)(gg:By A vg b.ig)(gk:By A vk b.key)(gs:By A vs b.sig)(go:By A vo b.oncek)(hsn:b.signed < 4294967296)(hG:Glb A):FnV Tryz.prog 36 [(vP pb),.agg #[.int .i64 b.user,.int .i64 b.dev,va,vg,(vU b.signed),vk,vs,.bool b.has,(vU b.once),vo]] A (.bool (decide (b.key.length=32) && B7C s b.ig (A9b b.signed b.key) b.sig)):=by
 haveI:=ga.cel;haveI:=gg.cel;haveI:=gk.cel;haveI:=gs.cel;haveI:=go.cel;have hgl:=gk.len;refine Ck (N:=23) Tryz.func36 E E E λ w=>?_;refine A9 (D2 0 1) (A1 ?_);refine A3 E (bx_ λ b3=>?_);refine as_ (A0 (D2 0 3) ?_);refine D1 (.range 19) [(0,0),(1,1),(2,0),(3,0),(4,0),(5,0),(6,0),(7,0),(8,1),(9,0),(10,1),(11,0),(12,1),(14,0),(15,1),(13,2),(16,2),(17,0),(18,0)] kR kR λ hs=>?_;refine C8 hs E (qf_ 5 5) E ?_;refine F9 hs E ql_ E ?_;refine C8 hs E (G6 (sz:=1) E kR gk.rd) E ?_;refine C8 hs E (F5 (decide (b.key.length=32)) E E (C20 _ 32)) E ?_;refine fm_ hs ?_;refine Z9 (t:=9) E (λ hb=>?_) (λ hb=>?_)
 . have hk32:b.key.length=32:=of_decide_eq_true hb;refine H9 hs E E E E qm_ E ?_;refine H9 hs E E E E (qf_ 2 2) E ?_;refine H9 hs E E E E (qf_ 3 1) E ?_;refine Z0 hs E E E E ql_ E ?_;refine H9 hs E E E E (qf_ 4 4) E ?_;refine Z0 hs E E E E ql_ E ?_;refine H9 hs E E E E (qf_ 5 5) E ?_;refine Z0 hs E E E E ql_ E ?_;refine H9 hs E E E E (qf_ 6 6) E ?_;refine Z0 hs E E E E ql_ E ?_;refine A2o E E E E (aS E (aS E a0)) kR (A7f b.signed vk b.key _ hsn (gk.mono qS) qO) E ?_;rintro v18 M18 J18 ⟨rfl,h18⟩;haveI:=h18.cel;refine A2p E E E E (aS E (aS E (aS E (aS E a0)))) kR (B51 pb s vg v18 vs b.ig (A9b b.signed b.key) b.sig MP _ hP (λ x hx=>qS _ (hsub x hx)) har hn (gg.mono qS) (h18.mono qS) (gs.mono qS) hG.up) E ?_;refine C8 hs E (G8 E E) E ?_;refine fa_ hs ?_;refine E3 (D5 4) (C0 ?_);exact ⟨_,[],[],I0 E E,Aa _,by simp,by rw [hb,Bool.true_and],E,E⟩
 . refine L2 hs ?_;refine L2 hs ?_;refine L2 hs ?_;refine W1 hs ?_;refine L2 hs ?_;refine W1 hs ?_;refine L2 hs ?_;refine W1 hs ?_;refine L2 hs ?_;refine W1 hs ?_;refine A6E hs E E E E E E ?_;refine A6E hs E E E E E E ?_;refine C8 hs E (F2 E E) E ?_;refine fa_ hs ?_;refine E3 (D5 4) (C0 ?_);exact ⟨_,[],[],I0 E E,Aa _,by simp,by rw [hb,Bool.false_and],E,E⟩

variable{P:Program}{fn:Func}{v z:Value}
theorem B3c{l:Env}{R:Mem}{t u x b n:Nat}{ty:TypeId}{cs:List Value}{e:TypeId}{fr:Nat×Nat}(h:fn.results=#[.tmp u,.cell t ty,.tmp x])(hv:lk l t=some (vP b))(hu:lk l u=some v)(hx:lk l x=some z)(ht:A5i P ty=some n)
    (hb:(b,Obj.cells cs.toArray e fr)∈R) (hn:cs.length=n):Res P fn l R (.tuple #[v,.agg cs.toArray,z]):=λ N a w ha hw=>by
  obtain ⟨dsc,h1,h2,h3⟩:=R5 ht;have hl:=run_loadVar_row (P:=P) w b e ty cs.toArray fr dsc (hw b _ hb) h1 (by cases dsc <;> simp_all [TypeDesc.isRow]) (by rw [h3,<- hn]; simp);simp [results,h,ha.slot t _ hv,ha.slot u _ hu,ha.slot x _ hx,asAddr,hl]
theorem C3I{l:Env}{R:Mem}{t u x:Nat}{y:Value}(h:fn.results=#[.tmp t,.tmp u,.tmp x])(hv:lk l t=some v)(hu:lk l u=some z)(hx:lk l x=some y):Res P fn l R (.tuple #[v,z,y]):=λ N a w ha hw=>by simp [results,h,ha.slot t _ hv,ha.slot u _ hu,ha.slot x _ hx]
noncomputable def ckB(s:Ps)(b:Bn):Bool:=decide (b.key.length=32) && B7C s b.ig (A9b b.signed b.key) b.sig
def heC(va vg vk:Value)(h:He):List Value:=[va,vg,vk,(vU h.signed),.bool h.has,(vU h.once)]
structure HeR(R:Mem)(h:He)(va vg vk:Value):Prop where
  ia:By R va h.ia
  ig:Byi R vg h.ig
  key:By R vk h.key
  signed:h.signed < 4294967296
  once:h.once < 4294967296
theorem HeR.mono{R R':Mem}{h:He}{va vg vk:Value}(g:HeR R h va vg vk)(hR:∀ x,x∈R->x∈R'):HeR R' h va vg vk:=⟨g.ia.mono hR,g.ig.mono hR,g.key.mono hR,g.signed,g.once⟩
theorem B9E(pb:Nat)(s:Ps)(kb:Nat)(k:Ks)(va vg vq vo vm:Value)(rs ro rm:List (List Value))(b:Bn)(wa wg wk ws wo:Value)(MP A:Mem)(hK:KyR A kb k va vg vq vo vm rs ro rm)(hP:Prm pb s MP)(har:Ar s.ts)(hn:s.ts.length+1000<=1040000)(hk:s.n < 1000000000)(ga:By A wa b.ia)(gg:By A wg b.ig)(gk:By A wk b.key)(gs:By A ws b.sig)(go:By A wo b.oncek)(hsn:b.signed < 4294967296)(hon:b.once < 4294967296)(hG:Glb A):FnX Tryz.prog 17 [(vP pb),(vP kb),.agg #[.int .i64 b.user,.int .i64 b.dev,wa,wg,(vU b.signed),wk,ws,.bool b.has,(vU b.once),wo]] MP A λ q M J=>(ckB s b=true->∃ v p r u,q=.tuple #[v,.agg (heC p r u (stH k b s)).toArray,.int .i64 0]∧Prm pb (stS k b s) M∧By J v (stK k b s)∧HeR (J++A) (stH k b s) p r u)∧(ckB s b=false->q=.tuple #[vS,.agg #[vS,vS,vS,.int .u32 0,.bool false,.int .u32 0],.int .i64 10]∧Prm pb s M):=by
 haveI:=ga.cel;haveI:=gg.cel;haveI:=gk.cel;haveI:=gs.cel;haveI:=go.cel;have f1:=T6 s;have f2:=U6 (G3 s) k.agree b.key;have f3:=U6 (P1 (G3 s) k.agree b.key) (G5 s) b.ia;have f4:=U6 (P1 (P1 (G3 s) k.agree b.key) (G5 s) b.ia) (G5 s) b.key;have f5:=U6 (P1 (P1 (P1 (G3 s) k.agree b.key) (G5 s) b.ia) (G5 s) b.key) (G5 s) b.oncek;refine Cl (N:=74) Tryz.func17 E E E λ w_=>?_;refine A9 (D6 0 1 2) (A1 ?_);refine A3 E (bx_ λ b5=>?_);refine as_ ?_;refine A3 E (C3 (cs:=[vS,vS,vS,.int .u32 0,.bool false,.int .u32 0]) kR E λ b7=>?_);refine as_ (A0 (D8 0 1 5 7) (A4 (A1 (mv_ ?_))));refine A2 (F6 (e:=87) E E kR) E ?_;refine mv_ ?_;refine F3 E E (Cn qm_ E ?_);refine F3 E E (Cn (F6 (e:=102) E E kR) E ?_);refine A2 (F2 E E) E ?_;refine A0 (E8 0 1 5 7 17) ?_;refine C9 E ?_;refine A6 (nx (D8 0 1 5 7) (A4 (A1 (mv_ ?_))));refine A2 (qw_ 10) E ?_;refine E6 (aS E (aS E a0)) kR (B3b pb s b wa wg wk ws wo MP _ hP (by intro z hz; simp [hz]) har qO (ga.mono qS) (gg.mono qS) (gk.mono qS) (gs.mono qS) (go.mono qS) hsn hG.up) E ?_;change XL _ _ _ _ ((21,.bool (ckB s b))::_) _ _;refine A2 (U0 E) E ?_;refine A0 (E8 0 1 5 7 22) ?_;refine C4 E ?_ ?_ <;> intro hc
 .
  have hck:ckB s b=false:=by simpa using hc
  refine A1 ?_;refine A2 (F1 (place:=λ x=>#[(0,2),(2,1),(3,1),(4,1),(5,1)][x]?) (z:=[vS,vS,vS,.int .u32 0,.bool false,.int .u32 0]) (λ _=>by kernel_rfl) e0 bd0) E ?_;refine as_ ?_;refine A3 E (A7 E E Cd kR ln6 al6 Cs ?_);refine as_ (A0 (D6 6 7 8) (C0 (tr ?_)));exact ⟨_,MP,[],B3c (n:=6) E E E E kR Cc qR,Cg (Cf qP),(λ h=>by rw [hck] at h; cases h),λ _=>⟨rfl,hP⟩⟩
 .
  have hck:ckB s b=true:=by simpa using hc
  refine A6 (nx (D8 0 1 5 7) (A1 (mv_ ?_)));refine A3 E (D0 (Mc:=MP) (R:=_) (aS E (a0)) kR qP (W8 pb s MP _ hP qO qO hG.up) E ?_);rintro v25 M25 J25 ⟨hP25,h25⟩;haveI:=h25.cel;refine as_ (A0 (E8 0 1 5 7 9) ?_);refine F8 (M25) (_) true (.range 19) [(0,0),(1,0),(3,0),(4,1),(6,0),(7,0),(8,0),(9,0),(10,1),(12,0),(13,0),(14,0),(15,1),(2,2),(5,2),(11,2),(16,2),(17,2),(18,0)] kR kR qP λ hs K n0 hKm hKs hKn=>?_;refine km_ hs ?_;refine km_ hs ?_;refine G7 hs E (qf_ 5 5) E ?_;refine K0 hs E hKs ql_ ?_;refine km_ hs ?_;refine km_ hs ?_;refine G7 hs E (qf_ 2 2) E ?_;refine G7 hs E (qf_ 2 0) E ?_;refine K0 hs E hKs ql_ ?_;refine km_ hs ?_;refine km_ hs ?_;refine G7 hs E (qf_ 5 5) E ?_;refine K0 hs E hKs ql_ ?_
  refine H3 [] _ rfl rfl (Ah _) (λ _ h=>by cases h) λ w0=>(E2 (aS rfl a0) kR (A9c kb k va vg vq vo vm rs ro rm _ (hK.mono qS)) rfl ?_)
  rintro v28 M28 J28 ⟨rfl,h28⟩ _;haveI:=h28.cel;dsimp only [List.nil_append,List.append_eq]
  refine H3 _ _ E E (Ah _) hKm λ w0=>(D0 (Mc:=M25) (R:=_) (aS E (aS E (aS E (a0)))) kR qP (A0Y pb (G3 s) v28 wk k.agree b.key M25 _ hP25 qO (h28.mono qS) (gk.mono qS) hG.up) E ?_)
  rintro v31 M31 J31 ⟨hP31,h31⟩ hKx31;haveI:=h31.cel
  refine H3 M31 _ E E qP (λ x hx=>hKx31 (hKn E) x (by simpa using hx)) λ w0=>(D0 (Mc:=M31) (R:=_) (aS E (aS E (aS E (a0)))) kR qP (A0Y pb ((P1 (G3 s) k.agree b.key)) v25 wa (G5 s) b.ia M31 _ hP31 qO (h25.mono qS) (ga.mono qS) hG.up) E ?_)
  rintro v37 M37 J37 ⟨hP37,h37⟩ hKx37;haveI:=h37.cel
  refine H3 M37 _ E E qP (λ x hx=>hKx37 (hKn E) x (by simpa using hx)) λ w0=>(D0 (Mc:=M37) (R:=_) (aS E (aS E (aS E (a0)))) kR qP (A0Y pb ((P1 (P1 (G3 s) k.agree b.key) (G5 s) b.ia)) v25 wk (G5 s) b.key M37 _ hP37 qO (h25.mono qS) (gk.mono qS) hG.up) E ?_)
  rintro v42 M42 J42 ⟨hP42,h42⟩ hKx42;haveI:=h42.cel
  refine H3 [] _ rfl rfl (Ah _) (λ _ h=>by cases h) λ w0=>(C5 (e:=28) (sz:=1) (z:=[vS,vS,vS]) kR (eS rfl (eS rfl (eS rfl e0))) (bdS 0 1 rfl qR (bdS 1 1 rfl qR (bdS 2 1 rfl qR bd0))) rfl λ b43=>λ hk43=>?_)
  dsimp only [List.cons_append,List.nil_append,List.append_eq];refine G7 hs E (G4 E) E ?_;refine I3 (H1 0 1 5 7 9 10) ?_;refine P8 (α:=Value×Mem×Mem) (λ y=>[(0,(vP pb)),(1,(vP kb)),(5,(vP b5)),(7,(vP b7)),(9,v25),(10,y.1)]) (λ y=>y.2.1++[(b5,blk [.int .i64 b.user,.int .i64 b.dev,wa,wg,(vU b.signed),wk,ws,.bool b.has,(vU b.once),wo] 61),(b7,blk [vS,vS,vS,.int .u32 0,.bool false,.int .u32 0] 33)]) (λ y=>y.2.2) (λ y=>Prm pb (stA k.agree b s) y.2.1∧LsV (y.2.2++A) y.1 (stL k.agree b s)∧By (y.2.2++A) v25 (G5 s)) ?_ ?_
  .
   refine Y5 (B:=[(b43,blk [v31,v37,v42] 28)]) qP ?_;refine A1 ?_;refine A2 (qf_ 7 7) E ?_;refine A2 ql_ E ?_;refine A0 (N9 0 1 5 7 9 10 45) ?_;refine C4 E ?_ ?_ <;> intro hc
   . refine C2 (mv_ (mv_ (mv_ ?_)));refine A2 (qf_ 9 9) E ?_;refine A2 ql_ E ?_;refine A3 E (D0 (Mc:=M42) (R:=_) (aS E (aS E (aS E (a0)))) kR qP (A0Y pb (P1 (P1 (P1 (G3 s) k.agree b.key) (G5 s) b.ia) (G5 s) b.key) v25 wo (G5 s) b.oncek M42 _ hP42 qO (h25.mono qS) (go.mono qS) hG.up) E ?_);rintro v51 M51 J51 ⟨hP51,h51⟩;haveI:=h51.cel;refine A3 E (C5 (e:=28) (sz:=1) (z:=[vS]) kR (eS E e0) (bdS 0 1 E qR bd0) E λ b52=>?_);refine A3 E (A2B (e:=28) (sz:=1) (by_:=24) (xs:=[v31,v37,v42]) E E kR E (Co (n:=3) Cc qR) (Co (n:=1) Cc qR) qD qD qD E λ v53 B53 hs53=>?_);haveI:=hs53.cel;refine A3Z (B:=B53) qP ?_;refine as_ (C6 ?_);exact jn (v53,M51,_) ⟨by dsimp only; unfold stA stP; rw [hc]; exact hP51,by dsimp only; unfold stL stP; rw [hc]; exact ⟨[v31,v37,v42]++[v51],hs53.rd qS,Lst.cons (h31.mono qS) (Lst.cons (h37.mono qS) (Lst.cons (h42.mono qS) (Lst.cons (h51.mono qS) Lst.nil)))⟩,h25.mono qS⟩ (H1 0 1 5 7 9 10) (Ch qP (Cf qP)) qI
   . refine A6 ?_;exact jn (.slice (some ⟨b43,0,none⟩) 3 3,M42,_) ⟨by dsimp only; unfold stA stP; rw [hc]; exact hP42,by dsimp only; unfold stL stP; rw [hc]; exact ⟨[v31,v37,v42],Co (n:=3) Cc qR,Lst.cons (h31.mono qS) (Lst.cons (h37.mono qS) (Lst.cons (h42.mono qS) Lst.nil))⟩,h25.mono qS⟩ (H1 0 1 5 7 9 10) (Ch qP (Cf qP)) qI
  .
   rintro ⟨lv,MJ,J9⟩ ⟨hPJ,hLJ,he25⟩;dsimp only at hPJ hLJ he25 ⊢;haveI:=hLJ.cel;obtain ⟨hzA,hzI,hzS,hzn,hzL⟩:=B9C k b s;have hI:stI k b s=N8 (idS k (stA k.agree b s)) (G5 s):=rfl;have hH:stH k b s=⟨idA k (stA k.agree b s),idG k (stA k.agree b s),P7 (idS k (stA k.agree b s)) (G5 s),b.signed,b.has,if b.has then b.once else 0⟩:=rfl;rw [hH];have hzi:=A4j k (stA k.agree b s);rw [hI] at hzI;generalize G5 s=e at *
   obtain ⟨sA,hsA⟩:∃ z,stA k.agree b s=z:=⟨_,E⟩
   rw [hsA] at hPJ hzA hI hzi hzI ⊢;refine F8 (MJ) (_) true (.range 12) [(0,0),(1,0),(3,0),(4,0),(6,0),(7,1),(8,0),(9,1),(2,3),(5,3),(10,3),(11,4),(12,2)] kR kR qP λ hs K n0 hKm hKs hKn=>?_;refine km_ hs ?_;refine km_ hs ?_;refine km_ hs ?_;refine km_ hs ?_;refine G7 hs E (qf_ 4 4) E ?_;refine K0 hs E hKs ql_ ?_;refine G7 hs E (qf_ 7 7) E ?_;refine K0 hs E hKs ql_ ?_
   refine A0O [⟨2,56,none,MJ,λ v B R=>Prm pb (idS k sA) B∧∃ p q,v=.agg #[p,q]∧By R p (idA k sA)∧By R q (idG k sA)⟩,⟨5,59,some 2,[],λ v B R=>Prm pb (N8 (idS k sA) e) B∧By R v (P7 (idS k sA) e)⟩,⟨10,64,none,[],λ v B R=>B=[]∧∃ p r u,v=.agg #[p,r,u,(vU b.signed),.bool b.has,(vU 0)]∧By R p (idA k sA)∧By R r (idG k sA)∧By R u (P7 (idS k sA) e)⟩,⟨11,11,none,[],λ v B _=>∃ b,v=(vP b)∧B=[(b,blk [vS,vS,vS,.int .u32 0,.bool false,.int .u32 0] 33)]⟩] ([(b5,blk [.int .i64 b.user,.int .i64 b.dev,wa,wg,(vU b.signed),wk,ws,.bool b.has,(vU b.once),wo] 61),(b7,blk [vS,vS,vS,.int .u32 0,.bool false,.int .u32 0] 33)]) (λ bs=>[bs 5,bs 10,bs 11]) (hKn E) (by simp [U2,A0y]) (show ∀ m∈([MJ,[],[]]:List Mem),∀ x∈m,K x.1 from A5 (hKm) (A5 gn0 (A5 gn0 (I7)))) kR (λ _=>by first | rfl | kernel_rfl)
    (A5 (λ _ _ _ _ h ⟨p1,p,q,e,p2,p3⟩=>⟨p1,p,q,e,p2.mono h,p3.mono h⟩) (A5 (λ _ _ _ _ h ⟨p1,p2⟩=>⟨p1,p2.mono h⟩) (A5 (λ _ _ _ _ h ⟨p1,p,q,u,e,p2,p3,p4⟩=>⟨p1,p,q,u,e,p2.mono h,p3.mono h,p4.mono h⟩) (A5 gM (I7))))) nd_ nd_ dl_
    (gC ?_ (gC ?_ (gC ?_ (gC ?_ (I7))))) ?_
   . intro _ _ R _ _ hb _ _ _;dsimp only [Gc.inp];refine D0 (Mc:=MJ) (R:=[]) (aS E (aS E (a0))) kR qM (A52 pb sA kb k va vg vq vo vm rs ro rm MJ _ (hK.mono (λ x hx=>by have:=hb x (by simp [hx]); simp [this])) hPJ qO (hG.sub (λ x hx=>by have:=hb x (by simp [hx]); simp [this]))) E ?_;rintro v25 M25 J25 ⟨hP25,p,q,rfl,hp,hq⟩;exact ⟨_,E,by simpa using hP25,p,q,E,hp.mono λ x hx=>by simp [hx],hq.mono λ x hx=>by simp [hx]⟩
   . intro vs bs R _ _ hb _ _ ha;dsimp only [Gc.inp];have g2:=gx 0 ha;dsimp only at g2;obtain ⟨hP25,-⟩:=g2;refine D0 (Mc:=bs 2) (R:=[]) (aS E (aS E (a0))) kR qM (A1E pb (idS k sA) v25 e (bs 2) _ hP25 qO (he25.mono (λ x hx=>by have:=hb x (by simp [hx]); simp [this])) (hG.sub (λ x hx=>by have:=hb x (by simp [hx]); simp [this]))) E ?_;rintro v31 M31 J31 ⟨hP31,h31⟩;exact ⟨_,E,by simpa using hP31,h31.mono λ x hx=>by simp [hx]⟩
   . intro _ _ _ _ _ _ _ _ ha;dsimp only [Gc.inp];have g2:=gx 0 ha;dsimp only at g2;have g5:=gx 1 ha;dsimp only at g5;obtain ⟨-,h31⟩:=g5;obtain ⟨-,p,q,e25,hp,hq⟩:=g2;haveI:=h31.cel;haveI:=hp.cel;haveI:=hq.cel;dsimp only [Q0,List.map,List.cons_append,List.nil_append];rw [e25];exact Cn (F1 (place:=λ x=>#[(0,2),(2,1),(3,1),(4,1),(5,1)][x]?) (z:=[vS,vS,vS,.int .u32 0,.bool false,.int .u32 0]) (λ _=>by kernel_rfl) (eS E (eS E (eS E (eS E e0)))) (bdS 0 2 E qR (bdS 2 1 E qR (bdS 3 1 E qR (bdS 4 1 E qR bd0))))) E ⟨_,E,E,p,q,_,E,hp,hq,h31⟩
   .
    intros
    dsimp only [Gc.inp]
    exact C3 (cs:=[vS,vS,vS,.int .u32 0,.bool false,.int .u32 0]) kR E λ b=>⟨_,E,b,E,E⟩
   intro vs bs Jn0 hφ hKK;clear hKK;have g2:=gy 0 hφ;have g5:=gy 1 hφ;have g10:=gy 2 hφ;have g11:=gy 3 hφ;dsimp only at g2 g5 g10 g11;clear hφ;dsimp only [Q0,U2,List.foldr,List.map,List.cons_append,List.nil_append];generalize bs 2=B56,bs 5=B59,bs 10=B64,bs 11=B11,vs 2=u56,vs 5=u59,vs 10=u64,vs 11=u11 at *;obtain ⟨hP59,-⟩:=g5;clear g2;obtain ⟨b11,rfl,rfl⟩:=g11;obtain ⟨rfl,p,r,u,rfl,hp,hr,hu⟩:=g10;haveI:=hp.cel;haveI:=hr.cel;haveI:=hu.cel;refine K5 E E E (A7 (vs:=[p,r,u,(vU b.signed),.bool b.has,(vU 0)]) E E E kR qR (A5 hp.one (A5 hr.one (A5 hu.one al3))) Cs ?_);refine I3 (E8 0 5 7 10 11) (A4 ?_);cases hh:b.has
   .
    refine A1 ?_;refine A2 (qf_ 7 7) E ?_;refine A2 ql_ E ?_;refine A0 (H1 0 5 7 10 11 66) ?_;refine C9 E ?_;refine A6 (nx (D8 0 7 10 11) ?_);refine F8 (B59) (_) true [0,1,2,3,4,6] [(0,0),(1,0),(3,1),(2,2),(4,0),(5,2),(6,0)] kR kR qP λ hs K n0 hKm hKs hKn=>?_;refine km_ hs ?_;refine km_ hs ?_;refine K0 hs E hKs (qw_ 6) ?_
    refine H3 _ _ E E (Ah _) hKm λ w0=>(D0 (Mc:=B59) (R:=_) (aS E (aS E (a0))) kR qP (A4l pb (stI k b s) lv (stL k.agree b s) B59 _ (hI▸hP59) (hLJ.mono qS) qO (by rw [hI]; omega) hG.up) E ?_)
    rintro v72 M72 J72 ⟨hP72,h72⟩ hKx72;haveI:=h72.cel;refine G7 hs E (G4 E) E ?_;refine K5 E E E (A7 (vs:=[p,r,u,(vU b.signed),.bool false,(vU 0)]) E E E kR qR (A5 hp.one (A5 hr.one (A5 hu.one al3))) Cs ?_);refine G7 hs E (G4 E) E ?_;refine I3 (D6 6 7 8) (C0 ?_);refine ⟨_,M72,[],B3c (n:=6) E E E E kR Cc qR,Cg (Cf qP),(λ _=>⟨_,p,r,u,E,hP72,h72.mono qS,hp.mono qS,(hr.mono qS).i,hu.mono qS,hsn,(by decide:0 < 4294967296)⟩),λ h=>by rw [hck] at h; cases h⟩
   .
    refine A1 ?_;refine A2 (qf_ 7 7) E ?_;refine A2 ql_ E ?_;refine A0 (H1 0 5 7 10 11 66) ?_;refine E1 E ?_;refine C2 ?_;refine A2 (qf_ 8 8) E ?_;refine A2 ql_ E ?_;refine A2 (qf_ 5 5) E ?_;refine A3 E (E4 E E E kR Cq Cs ?_);refine A0 (D8 0 7 10 11) ?_;refine F8 (B59) (_) true [0,1,2,3,4,6] [(0,0),(1,0),(3,1),(2,2),(4,0),(5,2),(6,0)] kR kR qP λ hs K n0 hKm hKs hKn=>?_;refine km_ hs ?_;refine km_ hs ?_;refine K0 hs E hKs (qw_ 6) ?_
    refine H3 _ _ E E (Ah _) hKm λ w0=>(D0 (Mc:=B59) (R:=_) (aS E (aS E (a0))) kR qP (A4l pb (stI k b s) lv (stL k.agree b s) B59 _ (hI▸hP59) (hLJ.mono qS) qO (by rw [hI]; omega) hG.up) E ?_)
    rintro v72 M72 J72 ⟨hP72,h72⟩ hKx72;haveI:=h72.cel;refine G7 hs E (G4 E) E ?_;refine K5 E E E (A7 (vs:=[p,r,u,(vU b.signed),.bool true,(vU b.once)]) E E E kR qR (A5 hp.one (A5 hr.one (A5 hu.one al3))) Cs ?_);refine G7 hs E (G4 E) E ?_;refine I3 (D6 6 7 8) (C0 ?_);refine ⟨_,M72,[],B3c (n:=6) E E E E kR Cc qR,Cg (Cf qP),(λ _=>⟨_,p,r,u,E,hP72,h72.mono qS,hp.mono qS,(hr.mono qS).i,hu.mono qS,hsn,hon⟩),λ h=>by rw [hck] at h; cases h⟩

theorem B6o(pb:Nat)(s:Ps)(kb:Nat)(k:Ks)(va vg vq vo vm:Value)(rs ro rm:List (List Value))(h:He)(wa wg wk:Value)(MP A:Mem)(hK:KyR A kb k va vg vq vo vm rs ro rm)(hrise:B9x k.once)(hP:Prm pb s MP)(hn:s.ts.length+1000<=1040000)(gh:HeR A h wa wg wk)(hG:Glb A):FnX Tryz.prog 27 [(vP pb),(vP kb),.agg #[wa,wg,wk,(vU h.signed),.bool h.has,(vU h.once)]] MP A λ q M J=>∃ v o,q=.tuple #[v,o,.int .i64 (if (anR k h s).1.isSome then 0 else 9)]∧Prm pb (anR k h s).2 M∧By J v ((anR k h s).1.elim [] (·.1))∧By J o ((anR k h s).1.elim [] (·.2)):=by
 haveI:=gh.ia.cel;haveI:=gh.ig.cel;haveI:=gh.key.cel;refine Cl (N:=70) Tryz.func27 E E E λ w_=>?_;refine A9 (D6 0 1 2) (A1 ?_);refine A3 E (bx_ λ b5=>?_);refine as_ (as_ (as_ (A0 (D6 0 1 5) (A4 (A1 (mv_ ?_))))));refine A2 (F6 (e:=87) E E kR) E ?_;refine mv_ ?_;refine F3 E E (Cn qm_ E ?_);refine F3 E E (Cn (F6 (e:=102) E E kR) E ?_);refine A2 (F2 E E) E ?_;refine A0 (D8 0 1 5 19) ?_;refine C9 E ?_;refine A6 (nx (D6 0 1 5) (A1 (mv_ ?_)));refine A2 (qf_ 3 3) E ?_;refine A2 ql_ E ?_;refine C7 (aS E (aS E a0)) kR (B6b kb k va vg vq vo vm rs ro rm h.signed _ (hK.mono qS)) E ?_;rintro r24 M24 J24 ⟨rfl,q1,rfl,hq1⟩;haveI:=hq1.cel;refine mv_ ?_;refine A2 (Y8 E) E ?_;refine A2 (Y4 E) E ?_;refine as_ (as_ (A0 (E8 0 1 5 9 10) (A4 ?_)))
 cases hsg:A4H k.signed h.signed with
 | none=>?_
 | some sx=>?_
 . refine A1 (mv_ ?_);refine A2 (U0 E) E ?_;refine A0 (E8 0 1 5 9 28) ?_;refine E1 E ?_;refine A1 (as_ (as_ (as_ (A0 (D6 6 7 8) (C0 (tr ?_))))));exact ⟨_,MP,[],C3I E E E E,Cg (Cf qP),by rw [C18 hsg]; exact ⟨_,_,E,hP,By.nil,By.nil⟩⟩
 .
  rw [hsg] at hq1;change By _ q1 sx at hq1;have f2:=U6 s sx h.ia;have f3:=U6 (P1 s sx h.ia) k.agree h.key;have f4:=U6 (P1 (P1 s sx h.ia) k.agree h.key) sx h.key;refine A1 (mv_ ?_);refine A2 (U0 E) E ?_;refine A0 (E8 0 1 5 9 28) ?_;refine C9 E ?_;refine A6 (nx (D8 0 1 5 9) ?_);refine F8 (MP) (_) true (.range 19) [(0,0),(1,0),(2,0),(3,0),(4,1),(6,0),(7,0),(9,0),(10,1),(12,0),(13,0),(14,0),(15,1),(5,2),(8,2),(11,2),(16,2),(17,2),(18,0)] kR kR qP λ hs K n0 hKm hKs hKn=>?_;refine km_ hs ?_;refine km_ hs ?_;refine G7 hs E (qf_ 0 0) E ?_;refine G7 hs E (qf_ 0 0) E ?_;refine K0 hs E hKs ql_ ?_;refine km_ hs ?_;refine km_ hs ?_;refine G7 hs E (qf_ 2 2) E ?_;refine K0 hs E hKs ql_ ?_;refine km_ hs ?_;refine km_ hs ?_;refine G7 hs E (qf_ 2 2) E ?_;refine K0 hs E hKs ql_ ?_
  refine H3 _ _ E E (Ah _) hKm λ w0=>(D0 (Mc:=MP) (R:=_) (aS E (aS E (aS E (a0)))) kR qP (A0Y pb (s) q1 wa sx h.ia MP _ hP qO (hq1.mono qS) (gh.ia.mono qS) hG.up) E ?_)
  rintro v34 M34 J34 ⟨hP34,h34⟩ hKx34;haveI:=h34.cel
  refine H3 [] _ rfl rfl (Ah _) (λ _ h=>by cases h) λ w0=>(E2 (aS rfl a0) kR (A9c kb k va vg vq vo vm rs ro rm _ (hK.mono qS)) rfl ?_)
  rintro v37 M37 J37 ⟨rfl,h37⟩ _;haveI:=h37.cel;dsimp only [List.nil_append,List.append_eq]
  refine H3 M34 _ E E qP (λ x hx=>hKx34 (hKn E) x (by simpa using hx)) λ w0=>(D0 (Mc:=M34) (R:=_) (aS E (aS E (aS E (a0)))) kR qP (A0Y pb ((P1 s sx h.ia)) v37 wk k.agree h.key M34 _ hP34 qO (h37.mono qS) (gh.key.mono qS) hG.up) E ?_)
  rintro v40 M40 J40 ⟨hP40,h40⟩ hKx40;haveI:=h40.cel
  refine H3 M40 _ E E qP (λ x hx=>hKx40 (hKn E) x (by simpa using hx)) λ w0=>(D0 (Mc:=M40) (R:=_) (aS E (aS E (aS E (a0)))) kR qP (A0Y pb ((P1 (P1 s sx h.ia) k.agree h.key)) q1 wk sx h.key M40 _ hP40 qO (hq1.mono qS) (gh.key.mono qS) hG.up) E ?_)
  rintro v45 M45 J45 ⟨hP45,h45⟩ hKx45;haveI:=h45.cel
  refine H3 [] _ rfl rfl (Ah _) (λ _ h=>by cases h) λ w0=>(C5 (e:=28) (sz:=1) (z:=[vS,vS,vS]) kR (eS rfl (eS rfl (eS rfl e0))) (bdS 0 1 rfl qR (bdS 1 1 rfl qR (bdS 2 1 rfl qR bd0))) rfl λ b46=>λ hk46=>?_)
  dsimp only [List.cons_append,List.nil_append,List.append_eq];refine G7 hs E (G4 E) E ?_;refine I3 (E8 0 1 5 9 11) ?_;refine P8 (α:=Value×Mem×Mem×Option (LN)) (λ y=>[(0,(vP pb)),(9,q1),(11,y.1)]) (λ y=>y.2.1) (λ y=>y.2.2.1) (λ y=>Prm pb (agS s (anP k.agree sx y.2.2.2 h)) y.2.1∧LsV (y.2.2.1++A) y.1 (agK s (anP k.agree sx y.2.2.2 h))∧By y.2.2.1 q1 sx∧anR k h s=anE k.agree sx y.2.2.2 h s) ?_ ?_
  .
   refine Y5 (B:=[(b46,blk [v34,v40,v45] 28)]) qP ?_;refine A1 ?_;refine A2 (qf_ 4 4) E ?_;refine A2 ql_ E ?_;refine A0 (H1 0 1 5 9 11 48) ?_;refine C4 E ?_ ?_ <;> intro hc
   .
    refine A1 (mv_ ?_);refine A2 (qf_ 5 5) E ?_;refine A2 ql_ E ?_;refine C7 (aS E (aS E a0)) kR (C11 kb k va vg vq vo vm rs ro rm h.once _ (hK.mono qS) hrise) E ?_;rintro r53 M53 J53 ⟨rfl,q2,rfl,hq2⟩;haveI:=hq2.cel;refine mv_ ?_;refine A2 (Y8 E) E ?_;refine A2 (Y4 E) E ?_;refine as_ (as_ (A0 (H1 0 5 9 11 12 13) (A4 ?_)))
    cases hog:A4H k.once h.once with
    | none=>?_
    | some ox=>?_
    . refine A1 (mv_ ?_);refine A2 (U0 E) E ?_;refine A0 (H1 0 5 9 11 12 57) ?_;refine E1 E ?_;refine A1 (as_ (as_ (as_ (A0 (D6 6 7 8) (C0 (tr (jr ?_)))))));exact ⟨_,M45,[],C3I E E E E,Cg (Cf qP),by rw [B9D hsg hc hog]; exact ⟨_,_,E,hP45,By.nil,By.nil⟩⟩
    . rw [hog] at hq2;change By _ q2 ox at hq2;refine A1 (mv_ ?_);refine A2 (U0 E) E ?_;refine A0 (H1 0 5 9 11 12 57) ?_;refine C9 E ?_;refine A6 (nx (E8 0 5 9 11 12) (C2 (mv_ (mv_ (mv_ ?_)))));refine A2 (qf_ 2 2) E ?_;refine A2 ql_ E ?_;refine A3 E (D0 (Mc:=M45) (R:=_) (aS E (aS E (aS E (a0)))) kR qP (A0Y pb (P1 (P1 (P1 s sx h.ia) k.agree h.key) sx h.key) q2 wk ox h.key M45 _ hP45 qO (hq2.mono qS) (gh.key.mono qS) hG.up) E ?_);rintro v63 M63 J63 ⟨hP63,h63⟩;haveI:=h63.cel;refine A3 E (C5 (e:=28) (sz:=1) (z:=[vS]) kR (eS E e0) (bdS 0 1 E qR bd0) E λ b64=>?_);refine A3 E (A2B (e:=28) (sz:=1) (by_:=24) (xs:=[v34,v40,v45]) E E kR E (Co (n:=3) Cc qR) (Co (n:=1) Cc qR) qD qD qD E λ v65 B65 hs65=>?_);haveI:=hs65.cel;refine A3Z (B:=B65) qP ?_;refine as_ (C6 ?_);exact jn (v65,M63,_,some ox) ⟨hP63,⟨[v34,v40,v45]++[v63],hs65.rd qS,Lst.cons (h34.mono qS) (Lst.cons (h40.mono qS) (Lst.cons (h45.mono qS) (Lst.cons (h63.mono qS) Lst.nil)))⟩,hq1.mono qS,B2X hsg hc hog⟩ (D6 0 9 11) (Cf qP) qI
   . refine A6 ?_;exact jn (.slice (some ⟨b46,0,none⟩) 3 3,M45,_,none) ⟨hP45,⟨[v34,v40,v45],Co (n:=3) Cc qR,Lst.cons (h34.mono qS) (Lst.cons (h40.mono qS) (Lst.cons (h45.mono qS) Lst.nil))⟩,hq1.mono qS,A9g hsg hc⟩ (D6 0 9 11) (Cf qP) qI
  .
   rintro ⟨lv,MJ,J9,xo⟩ ⟨hPJ,hLJ,hqJ,hR⟩;dsimp only at hPJ hLJ hqJ hR ⊢;haveI:=hLJ.cel;have hzl:(agK s (anP k.agree sx xo h)).length<=4:=by rw [A77]; unfold anP; split <;> simp
   have hzs:=A76 (anP k.agree sx xo h) s;have hz0:(anP k.agree sx xo h).length<=4:=by unfold anP; split <;> simp
   refine A1 (mv_ (mv_ ?_));refine A3 E (D0 (Mc:=MJ) (R:=_) (aS E (aS E (a0))) kR qP (A4l pb _ lv _ MJ _ hPJ (hLJ.mono qS) qO qO hG.up) E ?_);rintro v68 M68 J68 ⟨hP68,h68⟩;haveI:=h68.cel;refine mv_ (as_ (as_ (as_ (A0 (D6 6 7 8) (C0 ?_)))));exact ⟨_,M68,[],C3I E E E E,Cg (Cf qP),by rw [hR]; exact ⟨_,_,E,hP68,h68.mono qS,hqJ.mono qS⟩⟩

theorem D4(pre vs post:List Value):∀ (j:Nat) v,vs[j]? = some v->(pre++(vs++post))[pre.length+j]? = some v:=λ j v h=>by rw [Aq qO,Nat.add_sub_cancel_left,Ak (Ac.1 h).1];exact h
def fl1(b:Bool):Nat:=if b then 1 else 0
def wFl(ws:LN)(b:Bool):LN:=ws++beN (fl1 b) 1
def wB4(ws w:LN):LN:=ws++beN w.length 4++w
def wN4(ws:LN)(n:Nat):LN:=ws++beN n 4
def whW(ws:LN)(u d:Int):LN:=wN4 (wN4 ws (u32N u)) (u32N d)
def idW(ws a g:LN):LN:=wB4 (wB4 ws a) g
def heF(ws:LN)(h:He):LN:=wFl (wN4 (wB4 (idW ws h.ia h.ig) h.key) h.signed) h.has
def heW(ws:LN)(h:He):LN:=if h.has then wN4 (heF ws h) h.once else heF ws h
theorem A0v(ws:LN)(b:Bool):(wFl ws b).length=ws.length+1:=by simp [wFl,K4]
theorem Z3(ws w:LN):(wB4 ws w).length=ws.length+w.length+4:=by simp [wB4,K4]; omega
theorem Z4(ws:LN)(n:Nat):(wN4 ws n).length=ws.length+4:=by simp [wN4,K4]
theorem A0w(ws:LN)(u d:Int):(whW ws u d).length=ws.length+8:=by simp [whW,Z4]
theorem A0G(ws a g:LN):(idW ws a g).length=ws.length+a.length+g.length+8:=by simp [idW,Z3]; omega
theorem B3d(ws:LN)(h:He):(heF ws h).length=ws.length+h.ia.length+h.ig.length+h.key.length+17:=by simp [heF,A0v,Z4,Z3,A0G]; omega
theorem B3e(ws:LN)(h:He):(heW ws h).length<=ws.length+h.ia.length+h.ig.length+h.key.length+21:=by
  have h1:=B3d ws h;unfold heW;split
  . rw [Z4]; omega
  . omega
structure Ev where
  fu:Int
  fd:Int
  tu:Int
  td:Int
  ses:LN
  has:Bool
  he:He
  hk:LN
  hp:Nat
  hn:Nat
  g:LN
def frF(ws:LN)(x:Ev):LN:=wFl (wB4 (whW (whW ws x.fu x.fd) x.tu x.td) x.ses) x.has
def frW(ws:LN)(x:Ev):LN:=if x.has then heW (frF ws x) x.he else frF ws x
theorem B3f(ws:LN)(x:Ev):(frF ws x).length=ws.length+x.ses.length+21:=by simp [frF,A0v,Z3,A0w]; omega
def evC(vs p r u vk vg:Value)(x:Ev):List Value:=[.int .i64 x.fu,.int .i64 x.fd,.int .i64 x.tu,.int .i64 x.td,vs,.bool x.has,p,r,u,(vU x.he.signed),.bool x.he.has,(vU x.he.once),vk,(vU x.hp),(vU x.hn),vg]
structure EvR(R:Mem)(x:Ev)(vs p r u vk vg:Value):Prop where
  ses:By R vs x.ses
  he:HeR R x.he p r u
  hil:x.he.ig.length<=1000000
  hk:By R vk x.hk
  g:By R vg x.g
  hp:x.hp < 4294967296
  hn:x.hn < 4294967296
theorem EvR.mono{R R':Mem}{x:Ev}{vs p r u vk vg:Value}(h:EvR R x vs p r u vk vg)(hR:∀ z,z∈R->z∈R'):EvR R' x vs p r u vk vg:=⟨h.ses.mono hR,h.he.mono hR,h.hil,h.hk.mono hR,h.g.mono hR,h.hp,h.hn⟩
theorem B3g(wb:Nat)(b:Bool)(ws:LN)(MW A:Mem)(hW:Wtr wb ws MW)(hl:ws.length<=100000000):FnX Tryz.prog 123 [(vP wb),.bool b] MW A λ q M J=>q=(vP wb)∧Wtr wb (wFl ws b) M:=by
 refine Cl (N:=10) Tryz.func123 E E E λ w_=>?_;refine A9 (D2 0 1) (A1 (as_ (A0 (D2 0 1) (A4 (A1 (mv_ (A0 (D2 0 5) ?_)))))));refine C4 E ?_ ?_ <;> intro hc
 . obtain rfl:b=true:=hc;refine A1 (mv_ ?_);refine A3 E (D0 (Mc:=MW) (R:=_) (aS E (aS E (aS E a0))) kR qP (Q4 wb 1 1 ws MW _ hW qD qD qO) E ?_);rintro v7 M7 J7 ⟨rfl,hW7⟩;refine as_ (A0 (D5 4) (C0 (tr ?_)));exact ⟨_,M7,[],I0 E E,Cg (Cf qP),E,hW7⟩
 . obtain rfl:b=false:=hc;refine A6 (nx (D5 0) (A1 (mv_ ?_)));refine A3 E (D0 (Mc:=MW) (R:=_) (aS E (aS E (aS E a0))) kR qP (Q4 wb 0 1 ws MW _ hW qD qD qO) E ?_);rintro v9 M9 J9 ⟨rfl,hW9⟩;refine as_ (A0 (D5 4) (C0 ?_));exact ⟨_,M9,[],I0 E E,Cg (Cf qP),E,hW9⟩
theorem B7F(wb:Nat)(u d:Int)(ws:LN)(MW A:Mem)(hW:Wtr wb ws MW)(hl:ws.length<=50000000):FnX Tryz.prog 126 [(vP wb),.agg #[.int .i64 u,.int .i64 d]] MW A λ q M J=>q=.tuple #[]∧Wtr wb (whW ws u d) M:=by
 have hu:=B2Y u;have hd:=B2Y d;refine Cl (N:=15) Tryz.func126 E E E λ w_=>?_;refine A9 (D2 0 1) (A1 ?_);refine A3 E (bx_ λ b3=>?_);refine A0 (D2 0 3) ?_;refine X9 (MW) (_) true (.range 11) [(0,0),(1,0),(2,1),(3,0),(4,0),(6,0),(7,1),(8,0),(9,0),(5,2),(10,2)] kR kR qP λ hs K n0 hKm hKs hKn=>?_;refine km_ hs ?_;refine G7 hs E (qf_ 0 0) E ?_;refine K0 hs E hKs ql_ ?_;refine G7 hs E (A0l (k':=.u32) ((u32N u:Nat):Int) E kR (A7h u)) E ?_;refine G7 hs E (K6 (k':=.u64) (u32N u) E kR (A19 qO)) E ?_;refine G7 hs E (qf_ 1 1) E ?_;refine K0 hs E hKs ql_ ?_;refine G7 hs E (A0l (k':=.u32) ((u32N d:Nat):Int) E kR (A7h d)) E ?_;refine G7 hs E (K6 (k':=.u64) (u32N d) E kR (A19 qO)) E ?_
 refine H3 _ _ E E (Ah _) hKm λ w0=>(D0 (Mc:=MW) (R:=_) (aS E (aS E (aS E (a0)))) kR qP (Q4 wb (u32N u) 4 _ MW _ hW qO qD (by first | omega | (simp [A0v,Z3,Z4,A0w,A0G,K4]; omega))) E ?_)
 rintro v9 M9 J9 ⟨rfl,hW9⟩ hKx9
 refine H3 M9 _ E E qP (λ x hx=>hKx9 (hKn E) x (by simpa using hx)) λ w0=>(D0 (Mc:=M9) (R:=_) (aS E (aS E (aS E (a0)))) kR qP (Q4 wb (u32N d) 4 _ M9 _ hW9 qO qD (by first | omega | (simp [A0v,Z3,Z4,A0w,A0G,K4]; omega))) E ?_)
 rintro v14 M14 J14 ⟨rfl,hW14⟩ hKx14;refine A3a ?_;exact ⟨_,M14,[],A8p E,Cg (Cf qP),E,hW14⟩
theorem B6p(wb:Nat)(va vg:Value)(a g ws:LN)(MW A:Mem)(hW:Wtr wb ws MW)(ha:By A va a)(hg:By A vg g)(hl:ws.length<=50000000):FnX Tryz.prog 122 [(vP wb),.agg #[va,vg]] MW A λ q M J=>q=.tuple #[]∧Wtr wb (idW ws a g) M:=by
 haveI:=ha.cel;haveI:=hg.cel;have hal:=ha.len;have hgl:=hg.len;refine Cl (N:=11) Tryz.func122 E E E λ w_=>?_;refine A9 (D2 0 1) (A1 ?_);refine A3 E (bx_ λ b3=>?_);refine A0 (D2 0 3) ?_;refine X9 (MW) (_) true (.range 7) [(0,0),(1,0),(2,1),(4,0),(5,1),(3,2),(6,2)] kR kR qP λ hs K n0 hKm hKs hKn=>?_;refine km_ hs ?_;refine G7 hs E (qf_ 0 0) E ?_;refine K0 hs E hKs ql_ ?_;refine G7 hs E (qf_ 1 1) E ?_;refine K0 hs E hKs ql_ ?_
 refine H3 _ _ E E (Ah _) hKm λ w0=>(D0 (Mc:=MW) (R:=_) (aS E (aS E (a0))) kR qP (N0 wb va a _ MW _ hW (ha.mono qS) (by first | omega | (simp [A0v,Z3,Z4,A0w,A0G,K4]; omega))) E ?_)
 rintro v7 M7 J7 ⟨rfl,hW7⟩ hKx7
 refine H3 M7 _ E E qP (λ x hx=>hKx7 (hKn E) x (by simpa using hx)) λ w0=>(D0 (Mc:=M7) (R:=_) (aS E (aS E (a0))) kR qP (N0 wb vg g _ M7 _ hW7 (hg.mono qS) (by first | omega | (simp [A0v,Z3,Z4,A0w,A0G,K4]; omega))) E ?_)
 rintro v10 M10 J10 ⟨rfl,hW10⟩ hKx10;refine A3a ?_;exact ⟨_,M10,[],A8p E,Cg (Cf qP),E,hW10⟩
theorem A9h(wb:Nat)(h:He)(p r u:Value)(ws:LN)(MW A:Mem)(hW:Wtr wb ws MW)(gh:HeR A h p r u)(hil:h.ig.length<=1000000)(hl:ws.length<=40000000):FnX Tryz.prog 80 [(vP wb),.agg (heC p r u h).toArray] MW A λ q M J=>q=.tuple #[]∧Wtr wb (heW ws h) M:=by
 haveI:=gh.ia.cel;haveI:=gh.ig.cel;haveI:=gh.key.cel;have hal:=gh.ia.len;have hig:=gh.ig.by qO;have hgl:=hig.len;have hkl:=gh.key.len;have hsl:=gh.signed;have hol:=gh.once;unfold heC;refine Cl (N:=26) Tryz.func80 E E E λ w_=>?_;refine A9 (D2 0 1) (A1 ?_);refine A3 E (bx_ λ b3=>?_);refine A0 (D2 0 3) (A1 (mv_ ?_));refine A2 (qf_ 0 0) E ?_;refine A2 (F4 (n:=2) (vs:=[p,r]) E kR Cc E (D4 [] [p,r] [u,(vU h.signed),.bool h.has,(vU h.once)])) E ?_;refine A3 E (D0 (Mc:=MW) (R:=_) (aS E (aS E (a0))) kR qP (B6p wb p r h.ia h.ig ws MW _ hW (gh.ia.mono qS) (hig.mono qS) qO) E ?_);rintro v7 M7 J7 ⟨rfl,hW7⟩;refine A0 (D2 0 3) ?_;refine F8 (M7) (_) true (.range 11) [(0,0),(1,0),(2,1),(4,0),(5,1),(6,0),(8,0),(9,1),(3,2),(7,2),(10,2)] kR kR qP λ hs K n0 hKm hKs hKn=>?_;refine km_ hs ?_;refine G7 hs E (qf_ 2 2) E ?_;refine K0 hs E hKs ql_ ?_;refine G7 hs E (qf_ 3 3) E ?_;refine K0 hs E hKs ql_ ?_;refine G7 hs E (K6 (k':=.u64) (h.signed) E kR (A19 qO)) E ?_;refine G7 hs E (qf_ 4 4) E ?_;refine K0 hs E hKs ql_ ?_
 refine H3 _ _ E E (Ah _) hKm λ w0=>(D0 (Mc:=M7) (R:=_) (aS E (aS E (a0))) kR qP (N0 wb u h.key _ M7 _ hW7 (gh.key.mono qS) (by first | omega | (simp [A0v,Z3,Z4,A0w,A0G,K4]; omega))) E ?_)
 rintro v11 M11 J11 ⟨rfl,hW11⟩ hKx11
 refine H3 M11 _ E E qP (λ x hx=>hKx11 (hKn E) x (by simpa using hx)) λ w0=>(D0 (Mc:=M11) (R:=_) (aS E (aS E (aS E (a0)))) kR qP (Q4 wb (h.signed) 4 _ M11 _ hW11 qO qD (by first | omega | (simp [A0v,Z3,Z4,A0w,A0G,K4]; omega))) E ?_)
 rintro v15 M15 J15 ⟨rfl,hW15⟩ hKx15
 refine H3 M15 _ E E qP (λ x hx=>hKx15 (hKn E) x (by simpa using hx)) λ w0=>(D0 (Mc:=M15) (R:=_) (aS E (aS E (a0))) kR qP (B3g wb h.has _ M15 _ hW15 (by first | omega | (simp [A0v,Z3,Z4,A0w,A0G,K4]; omega))) E ?_)
 rintro v18 M18 J18 ⟨rfl,hW18⟩ hKx18;refine I3 (D2 0 3) ?_;change Wtr wb (heF ws h) M18 at hW18;have hfl:=B3d ws h;refine A1 ?_;refine A2 (qf_ 4 4) E ?_;refine A2 ql_ E ?_;refine A0 (D6 0 3 20) ?_;refine C4 E ?_ ?_ <;> intro hc
 . have hh:h.has=true:=hc;refine C2 (mv_ ?_);refine A2 (qf_ 5 5) E ?_;refine A2 ql_ E ?_;refine A2 (K6 (k':=.u64) (h.once) E kR (A19 qO)) E ?_;refine A3 E (D0 (Mc:=M18) (R:=_) (aS E (aS E (aS E (a0)))) kR qP (Q4 wb h.once 4 _ M18 _ hW18 qO qD qO) E ?_);rintro v25 M25 J25 ⟨rfl,hW25⟩;refine C6 ?_;exact ⟨_,M25,[],A8p E,Cg (Cf qP),E,by unfold heW; rw [if_pos hh]; exact hW25⟩
 . have hh:h.has=false:=hc;refine A6 ?_;exact ⟨_,M18,[],A8p E,Cg (Cf qP),E,by unfold heW; rw [if_neg (by rw [hh]; decide)]; exact hW18⟩
theorem B9F(h:He)(p r u:Value)(A:Mem)(gh:HeR A h p r u)(hl:h.ia.length+h.ig.length+h.key.length<=1000000):FnX Tryz.prog 45 [.agg (heC p r u h).toArray] [] A λ q M J=>M=[]∧By J q (heW [] h):=by haveI:=gh.ia.cel;haveI:=gh.ig.cel;haveI:=gh.key.cel;have hal:=gh.ia.len;have hig:=gh.ig.by qO;have hgl:=hig.len;have hkl:=gh.key.len;have hsl:=gh.signed;have hol:=gh.once;unfold heC;refine Cl (N:=11) Tryz.func45 E E E λ w_=>?_;refine A9 (D5 0) (A1 ?_);refine A3 E (bx_ λ b1=>?_);refine as_ (A0 (D5 1) (A1 ?_));refine A2 (F1 (place:=λ x=>#[(0,1)][x]?) (z:=[vS]) (λ _=>by kernel_rfl) e0 bd0) E ?_;refine A3 E (bx_ λ b5=>?_);refine as_ (A0 (D2 1 3) (A1 (mv_ ?_)));refine A2 (F4 (n:=6) (vs:=[p,r,u,(vU h.signed),.bool h.has,(vU h.once)]) E kR Cc E (D4 [] [p,r,u,(vU h.signed),.bool h.has,(vU h.once)] [])) E ?_;refine A3 E (D0 (Mc:=[(b5,blk [vS] 111)]) (R:=_) (aS E (aS E (a0))) kR qP (A9h b5 h p r u [] _ _ Wtr.new (gh.mono qS) qO qD) E ?_);rintro v8 M8 J8 ⟨rfl,hW8⟩;have hwl:=B3e [] h;refine A0 (D5 3) (A1 (mv_ ?_));refine A3 E (D0 (Mc:=M8) (R:=_) (aS E a0) kR qP (A0g b5 _ M8 _ hW8 (by simp at hwl; omega)) E ?_);rintro v10 M10 J10 ⟨hW10,h10⟩;haveI:=h10.cel;refine as_ (A0 (D5 2) (C0 ?_));exact ⟨_,[],[],I0 E E,qZ,E,h10.mono qS⟩
theorem B6q(wb:Nat)(x:Ev)(vs p r u vk vg:Value)(ws:LN)(MW A:Mem)(hW:Wtr wb ws MW)(hx:EvR A x vs p r u vk vg)(hl:ws.length<=10000000):FnX Tryz.prog 88 [(vP wb),.agg (evC vs p r u vk vg x).toArray] MW A λ q M J=>q=.tuple #[]∧Wtr wb (frW ws x) M:=by
 haveI:=hx.ses.cel;haveI:=hx.he.ia.cel;haveI:=hx.he.ig.cel;haveI:=hx.he.key.cel;haveI:=hx.hk.cel;haveI:=hx.g.cel;have hsl:=hx.ses.len;unfold evC;refine Cl (N:=25) Tryz.func88 E E E λ w_=>?_;refine A9 (D2 0 1) (A1 ?_);refine A3 E (bx_ λ b3=>?_);refine A0 (D2 0 3) (A1 (mv_ ?_));refine A2 (qf_ 0 0) E ?_;refine A2 (F4 (n:=2) (vs:=[.int .i64 x.fu,.int .i64 x.fd]) E kR Cc E (D4 [] [.int .i64 x.fu,.int .i64 x.fd] [.int .i64 x.tu,.int .i64 x.td,vs,.bool x.has,p,r,u,(vU x.he.signed),.bool x.he.has,(vU x.he.once),vk,(vU x.hp),(vU x.hn),vg])) E ?_;refine A3 E (D0 (Mc:=MW) (R:=_) (aS E (aS E (a0))) kR qP (B7F wb x.fu x.fd ws MW _ hW qO) E ?_);rintro v7 M7 J7 ⟨rfl,hW7⟩;refine A0 (D2 0 3) (A1 (mv_ ?_));refine A2 (qf_ 2 2) E ?_;refine A2 (F4 (n:=2) (vs:=[.int .i64 x.tu,.int .i64 x.td]) E kR Cc E (D4 [.int .i64 x.fu,.int .i64 x.fd] [.int .i64 x.tu,.int .i64 x.td] [vs,.bool x.has,p,r,u,(vU x.he.signed),.bool x.he.has,(vU x.he.once),vk,(vU x.hp),(vU x.hn),vg])) E ?_;refine A3 E (D0 (Mc:=M7) (R:=_) (aS E (aS E (a0))) kR qP (B7F wb x.tu x.td _ M7 _ hW7 (by simp [A0w]; omega)) E ?_);rintro v11 M11 J11 ⟨rfl,hW11⟩;refine A0 (D2 0 3) ?_;refine F8 (M11) (_) true (.range 7) [(0,0),(1,0),(2,1),(4,0),(5,1),(3,2),(6,2)] kR kR qP λ hs K n0 hKm hKs hKn=>?_;refine km_ hs ?_;refine G7 hs E (qf_ 4 4) E ?_;refine K0 hs E hKs ql_ ?_;refine G7 hs E (qf_ 5 5) E ?_;refine K0 hs E hKs ql_ ?_
 refine H3 _ _ E E (Ah _) hKm λ w0=>(D0 (Mc:=M11) (R:=_) (aS E (aS E (a0))) kR qP (N0 wb vs x.ses _ M11 _ hW11 (hx.ses.mono qS) (by first | omega | (simp [A0v,Z3,Z4,A0w,A0G,K4]; omega))) E ?_)
 rintro v15 M15 J15 ⟨rfl,hW15⟩ hKx15
 refine H3 M15 _ E E qP (λ x hx=>hKx15 (hKn E) x (by simpa using hx)) λ w0=>(D0 (Mc:=M15) (R:=_) (aS E (aS E (a0))) kR qP (B3g wb x.has _ M15 _ hW15 (by first | omega | (simp [A0v,Z3,Z4,A0w,A0G,K4]; omega))) E ?_)
 rintro v18 M18 J18 ⟨rfl,hW18⟩ hKx18;refine I3 (D2 0 3) ?_;change Wtr wb (frF ws x) M18 at hW18;have hfl:=B3f ws x;refine A1 ?_;refine A2 (qf_ 5 5) E ?_;refine A2 ql_ E ?_;refine A0 (D6 0 3 20) ?_;refine C4 E ?_ ?_ <;> intro hc
 . have hh:x.has=true:=hc;refine C2 (mv_ ?_);refine A2 (qf_ 6 6) E ?_;refine A2 (F4 (n:=6) (vs:=[p,r,u,(vU x.he.signed),.bool x.he.has,(vU x.he.once)]) E kR Cc E (D4 [.int .i64 x.fu,.int .i64 x.fd,.int .i64 x.tu,.int .i64 x.td,vs,.bool x.has] [p,r,u,(vU x.he.signed),.bool x.he.has,(vU x.he.once)] [vk,(vU x.hp),(vU x.hn),vg])) E ?_;refine A3 E (D0 (Mc:=M18) (R:=_) (aS E (aS E (a0))) kR qP (A9h wb x.he p r u _ M18 _ hW18 (hx.he.mono qS) hx.hil qO) E ?_);rintro v24 M24 J24 ⟨rfl,hW24⟩;refine C6 ?_;exact ⟨_,M24,[],A8p E,Cg (Cf qP),E,by unfold frW; rw [if_pos hh]; exact hW24⟩
 . have hh:x.has=false:=hc;refine A6 ?_;exact ⟨_,M18,[],A8p E,Cg (Cf qP),E,by unfold frW; rw [if_neg (by rw [hh]; decide)]; exact hW18⟩
theorem A79(ws:LN)(x:Ev):(frW ws x).length<=ws.length+x.ses.length+x.he.ia.length+x.he.ig.length+x.he.key.length+42:=by have h1:=B3f ws x;have h2:=B3e (frF ws x) x.he;unfold frW;split <;> omega
theorem B9G(x:Ev)(vs p r u vk vg:Value)(A:Mem)(hx:EvR A x vs p r u vk vg)(hl:x.ses.length+x.he.ia.length+x.he.ig.length+x.he.key.length<=1000000):FnX Tryz.prog 56 [.agg (evC vs p r u vk vg x).toArray] [] A λ q M J=>M=[]∧By J q (frW [] x):=by haveI:=hx.ses.cel;haveI:=hx.he.ia.cel;haveI:=hx.he.ig.cel;haveI:=hx.he.key.cel;haveI:=hx.hk.cel;haveI:=hx.g.cel;have hsl:=hx.ses.len;unfold evC;refine Cl (N:=11) Tryz.func56 E E E λ w_=>?_;refine A9 (D5 0) (A1 ?_);refine A3 E (bx_ λ b1=>?_);refine as_ (A0 (D5 1) (A1 ?_));refine A2 (F1 (place:=λ x=>#[(0,1)][x]?) (z:=[vS]) (λ _=>by kernel_rfl) e0 bd0) E ?_;refine A3 E (bx_ λ b5=>?_);refine as_ (A0 (D2 1 3) (A1 (mv_ ?_)));refine A2 (F4 (n:=16) (vs:=[.int .i64 x.fu,.int .i64 x.fd,.int .i64 x.tu,.int .i64 x.td,vs,.bool x.has,p,r,u,(vU x.he.signed),.bool x.he.has,(vU x.he.once),vk,(vU x.hp),(vU x.hn),vg]) E kR Cc E (D4 [] [.int .i64 x.fu,.int .i64 x.fd,.int .i64 x.tu,.int .i64 x.td,vs,.bool x.has,p,r,u,(vU x.he.signed),.bool x.he.has,(vU x.he.once),vk,(vU x.hp),(vU x.hn),vg] [])) E ?_;refine A3 E (D0 (Mc:=[(b5,blk [vS] 111)]) (R:=_) (aS E (aS E (a0))) kR qP (B6q b5 x vs p r u vk vg [] _ _ Wtr.new (hx.mono qS) qD) E ?_);rintro v8 M8 J8 ⟨rfl,hW8⟩;have hwl:=A79 [] x;refine A0 (D5 3) (A1 (mv_ ?_));refine A3 E (D0 (Mc:=M8) (R:=_) (aS E a0) kR qP (A0g b5 _ M8 _ hW8 (by simp at hwl; omega)) E ?_);rintro v10 M10 J10 ⟨hW10,h10⟩;haveI:=h10.cel;refine as_ (A0 (D5 2) (C0 ?_));exact ⟨_,[],[],I0 E E,qZ,E,h10.mono qS⟩

end Go.Proofs.YtjkpfgjfpbihaaaGreatDoor
namespace Go.Px
open Go.Lib (strCells strCells_length strCells_oneCell)
variable{P:Program}{t u e ty:TypeId}{v:Value}{xs:List Value}
theorem A53{n:Nat}{B R:Mem}{w:World}{s:ByteArray}(ht:A1H P t=some (e,1,1))(hu2:P.underlying u=some .string)
    (hs:Sl 1 v n xs B) (hB:∀ q∈B,q∈R) (hw:Fx R w) (hmax:n+s.size<=maxLen) (hbytes:n+s.size<=140737488355328) :
    ∃ v' w' B',(Builtin.append_ #[t,u] ty #[v,.string s]).run P w=.ok v' w'∧Sl 1 v' (n+s.size) (xs++strCells s) B' ∧
      ((w'=w∧B'=B)∨(∃ (b:Nat) (cs cs':List Value) (e':TypeId),B=[(b,blk cs e')]∧B'=[(b,blk cs' e')]∧w'=w.setRow b cs'.toArray)∨(∃ o',B'=[(w.heap.size,o')]∧w'=w.drew.alloc o')):=by
  obtain ⟨i,z,hu,hi,hz,hzs,his,hib⟩:=T4 ht;have hsmall:n+s.size<=9223372036854775807:=by simp only [maxLen] at hmax; omega
  have hf:=λ w=>Lib.run_firstCells_string (P:=P) w 1 s;have hul:=strCells_length s;generalize hys:strCells s=ys at *;generalize hm:s.size=m at *;by_cases h0:m=0
  . subst h0;obtain rfl:ys=[]:=Bd hul;have hf:=hf w;refine ⟨v,w,B,?_,by simpa using hs,.inl ⟨E,E⟩⟩;rcases hs with ⟨p,rfl,rfl,rfl,rfl⟩ | ⟨b,o,cap,cs,e',rfl,rfl,h1,h2,h3,h4,h5⟩
    . cases p <;> simp [Builtin.append_,run_underlying hu,run_underlying hu2,sizeOf,typeInfo,hi,his,Builtin.lenOf,hm,hf,storeCells]
    . simp [Builtin.append_,run_underlying hu,run_underlying hu2,sizeOf,typeInfo,hi,his,Builtin.lenOf,hm,hf,storeCells,h1]
  . have made:∀ (r:Value) (cap':Nat) (w':World),r=.slice (some ⟨w.heap.size,0,none⟩) (n+m) cap'->n+m<=cap'->cap'<=maxLen->xs.length=n ->
        Sl 1 r (n+m) (xs++ys) [(w.heap.size,.cells (xs.toArray++ys.toArray++Builtin.zeroCells z.cells (cap' - (n+m))) e (0,0))]:=by
      intro r cap' w' hr' hc1 hc2 hxl;refine .inr ⟨w.heap.size,0,cap',(xs.toArray++ys.toArray++Builtin.zeroCells z.cells (cap' - (n+m))).toList,e,hr',by simp [blk],hc1,hc2,?_,?_,?_⟩
      . simp only [Array.length_toList,Array.size_append,List.size_toArray,size_zeroCells,hzs,hxl,hul];omega
      . simp [hxl,hul]
      . intro j u hj;have hlt:j < (xs++ys).length:=(Ac.1 hj).1;rw [Nat.zero_add];simp only [Array.toList_append,List.append_assoc];rw [<- Ap,Ak (by simpa using hlt)];exact hj
    rcases hs with ⟨p,rfl,rfl,rfl,rfl⟩ | ⟨b,o,cap,cs,e',rfl,rfl,h1,h2,h3,h4,h5⟩
    . have hge:=grownCap_ge w (0+m) 0 e;have hcm:grownCap w (0+m) 0 e<=maxLen:=grownCap_le_maxLen w (0+m) 0 e hmax;have hfit:Builtin.nextslicecap (0+m) 0 * i.bytes<=281474976710656:=growslice_fits (by omega) (by rw [hib]; omega)
      cases p with
      | none =>
        have hrn:=run_append_nil_string (P:=P) w t u ty e i z hu hu2 hi hz s (by omega) (by omega) (by rw [hib]; omega)
        have e1:(s.data.map λ b=>Value.int .u8 b.toNat)=ys.toArray:=by rw [<- hys];apply Array.ext';simp [strCells]
        rw [e1,hm] at hrn;rw [Nat.zero_add] at hge hcm;refine ⟨_,_,_,hrn,?_,.inr (.inr ⟨_,E,E⟩)⟩;have:=made _ (grownCap w m 0 e) w (by rw [Nat.zero_add]) (by omega) hcm (by simp);simpa using this
      | some pa =>
        have hrg:=Lib.run_append_grow_string (P:=P) w t u ty e i z hu hu2 hi hz pa 0 0 [] (by simp) (by simp) s (by omega) (by omega) (by rw [hm]; exact hfit);rw [hm,hys] at hrg;refine ⟨_,_,_,hrg,?_,.inr (.inr ⟨_,E,E⟩)⟩;exact made _ _ w E hge hcm (by simp)
    . have hb:=hw b _ (hB _ (List.mem_singleton.2 E));rw [Nat.mul_one] at h3 h4;by_cases hroom:n+m<=cap
      . have hfit:o+n+ys.length<=cs.length:=by omega
        have hst:=run_storeCells_at (P:=P) b (o+n) e' ys 0 cs.toArray w hb (by simpa using hfit) (by rw [<- hys]; exact strCells_oneCell s);simp only [Nat.add_zero] at hst;have hf:=hf w;refine ⟨.slice (some ⟨b,o,none⟩) (n+m) cap,w.setRow b (cs.take (o+n)++ys++cs.drop (o+n+ys.length)).toArray,_,?_,?_,.inr (.inl ⟨b,cs,_,e',E,E,E⟩)⟩
        . simp [Builtin.append_,run_underlying hu,run_underlying hu2,sizeOf,typeInfo,hi,his,Builtin.lenOf,hm,hroom,hf,Addr.add_mid,hst]
        . refine .inr ⟨b,o,cap,_,e',E,E,hroom,h2,?_,?_,?_⟩
          . simp only [List.length_append,List.length_take,List.length_drop];omega
          . simp [h4,hul]
          . intro j q hj;by_cases hjx:j < xs.length
            . rw [Ak hjx] at hj;rw [Ap,Ak (by simp; omega),Cb (by omega)];exact h5 j q hj
            . rw [Aq (by omega)] at hj;have hlt:=(Ac.1 hj).1;have hln:(cs.take (o+n)).length=o+n:=by simp; omega
              rw [Ap,Aq (by omega),Ak (by omega),hln,<- hj];congr 1;omega
      . have hge:=grownCap_ge w (n+m) cap e;have hcm:grownCap w (n+m) cap e<=maxLen:=grownCap_le_maxLen w (n+m) cap e hmax;have hrg:=Lib.run_append_grow_string (P:=P) w t u ty e i z hu hu2 hi hz ⟨b,o,none⟩ n cap xs (by rw [his]; omega) (λ j q hj=>by rw [Addr.add_mid,cell_of_row w b _ cs.toArray e' (0,0) hb]; simpa using h5 j q hj) s (by omega) (by omega) (by rw [hm,hib]; exact growslice_fits (by omega) (by omega));rw [hm,hys] at hrg;refine ⟨_,_,_,hrg,?_,.inr (.inr ⟨_,E,E⟩)⟩;exact made _ _ w E hge hcm h4
variable{ws:List Nat}
theorem A7j(h:∀ x∈ws,x < 256):strCells (txt ws)=nums .u8 ws:=by unfold strCells txt nums;simp only [List.map_map];refine Bt λ x hx=>?_;have:=h x hx;simp [UInt8.toNat_ofNat,Nat.mod_eq_of_lt this]
def B9H(P:Program)(u:TypeId):Bool:=match P.underlying u with
  | some .string=>true
  | _=>false
theorem B6r(h:B9H P u=true):P.underlying u=some .string:=by
  unfold B9H at h;split at h
  . assumption
  . cases h
theorem B3h{C:Cx}{l:Env}{M J:Mem}{K:Env->Mem->Mem->Prop}{d:Nat}{pos:String}{af:Array Edge}{g:Option (Nat×Bool)}{x y:Operand}{n:Nat}{B M0:Mem}(hx:ev l x=some v)(hy:ev l y=some (.string (txt ws)))(ht:A1H C.P t=some (e,1,1))(hu:B9H C.P u=true)
    (hb:∀ c∈ws,c < 256) (hs:Sl 1 v n xs B) (hM:M.Perm (B++M0)) (hbytes:n+ws.length<=140737488355328) (hd:Nat.blt d C.N=true)
    (k:∀ v' B',Sl 1 v' (n+ws.length) (xs++nums .u8 ws) B'->K ((d,v')::l) (B'++M0) J) :
    OpL C ⟨some d,.call { callee:=.builtin .append,args:=#[x,y],argTypes:=#[t,u] },ty,pos,af,g⟩ l M J K:=by
  intro Qp a w ha hw;have hsz:(txt ws).size=ws.length:=A0q ws;obtain ⟨v',w',B',hrun,hsl,hcase⟩:=A53 (P:=C.P) (ty:=ty) (R:=M++(J++C.A)) (s:=txt ws) ht (B6r hu) hs (λ q hq=>by have:=hM.mem_iff.2 (Ae M0 hq); simp [this]) hw.fx (by unfold maxLen; omega) (by omega);rw [A7j hb,hsz] at hsl
  have hexec:(execOp a.eval ⟨some d,.call { callee:=.builtin .append,args:=#[x,y],argTypes:=#[t,u] },ty,pos,af,g⟩).run C.P w=.ok (.value v') w':=by simp [execOp,resolve,invoke,builtin,ha.ev hx,ha.ev hy,hrun]
  unfold Oper.wp;rw [hexec];refine ⟨_,B'++M0,J,ha.put (P2 hd) v',?_,k v' B' hsl⟩;rcases hcase with ⟨rfl,rfl⟩ | ⟨b,cs,cs',e',rfl,rfl,rfl⟩ | ⟨o',rfl,rfl⟩
  . exact hw.perm hM
  . exact (hw.perm hM).setRow (M':=[(b,blk cs' e')]++M0) Upd.hd
  . have h2:St C ((w.heap.size,o')::M) J (w.drew.alloc o'):=St.alloc (w:=w.drew) hw.drew o';have h3:=h2.perm (M':=(w.heap.size,o')::(B++M0)) (List.Perm.cons _ hM);exact h3.drop (List.Sublist.cons_cons _ (List.sublist_append_right B M0)) (λ _ h=>h)
end Go.Px

