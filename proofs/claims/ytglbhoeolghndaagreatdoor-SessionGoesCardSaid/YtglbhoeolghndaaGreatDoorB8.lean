/- Part 8 of the texts of this claim, one behind the other. -/
import Derived.Test.YtglbhoeolghndaaGreatDoorB7
import Derived.Laws.StructEq
import Derived.Lib.AppendStr
set_option linter.unusedVariables false
set_option linter.unusedSimpArgs false
set_option maxRecDepth 100000
open Go.Proofs.Tryz
noncomputable section
namespace Go.Proofs.YtglbhoeolghndaaGreatDoor
open Go.Px
def B7A(a b:Nat):Int:=if a<b then -1 else if b<a then 1 else 0
variable{a b:Nat}
theorem A8Z(h:a<b):B7A a b = -1:=if_pos h
theorem A80(h:b<a):B7A a b=1:=by unfold B7A;rw [if_neg qO,if_pos h]
theorem A81(h:a=b):B7A a b=0:=by unfold B7A;rw [if_neg qO,if_neg qO]
theorem B7B(a b:Nat):I4 .lss .i64 (B7A a b) 0=some (.bool (decide (a<b))):=by
  rcases Nat.lt_trichotomy a b with h|h|h
  . rw [A8Z h,decide_eq_true h];rfl
  . rw [A81 h,decide_eq_false qO];rfl
  . rw [A80 h,decide_eq_false qO];rfl
theorem B7C(a b:Nat):I4 .eql .i64 (B7A a b) 0=some (.bool (decide (a=b))):=by
  rcases Nat.lt_trichotomy a b with h|h|h
  . rw [A8Z h,decide_eq_false qO];rfl
  . rw [A81 h,decide_eq_true h];rfl
  . rw [A80 h,decide_eq_false qO];rfl
theorem lt32(a b:Nat):I4 .lss .u32 ((a:Nat):Int) ((b:Nat):Int)=some (.bool (decide (a<b))):=by
  by_cases h:a<b
  . rw [decide_eq_true h];exact ltT qO
  . rw [decide_eq_false h];exact ltF qO
theorem gt32(a b:Nat):I4 .gtr .u32 ((a:Nat):Int) ((b:Nat):Int)=some (.bool (decide (b<a))):=by
  by_cases h:b<a
  . rw [decide_eq_true h];exact gtT qO
  . rw [decide_eq_false h];exact gtF qO
def C1b(l:List Pr):Prop:=∀(i j:Nat) (x y:Pr),i<j->l[i]? = some x->l[j]? = some y->x.n<y.n
variable{l:List Pr}{n i:Nat}
theorem B7D{x:Pr}(hx:l[i]? = some x)(hn:x.n=n)(h:∀(j:Nat) (y:Pr),j<i->l[j]? = some y->y.n<n):W3 (A5c n) l=(i:Int):=by
  have hil:=(Ac.1 hx).1;refine A1C hil (λj hj=>?_) (by rw [hx];simp [A5c,hn]);have hjl:j<l.length:=by omega
  rw [Ab hjl];have:=h j _ hj (Ab hjl);simp [A5c];omega
theorem B08(h:∀(j:Nat) (y:Pr),l[j]? = some y->y.n≠n):W3 (A5c n) l = -1:=by refine A1D λj hj=>?_;rw [Ab hj];have:=h j _ (Ab hj);simp [A5c,this]
structure BsR(l:List Pr)(n i:Nat)(b:Bool):Prop where
  le:i<=l.length
  lt:∀(j:Nat) (y:Pr),j<i->l[j]? = some y->y.n<n
  ge:∀(j:Nat) (y:Pr),i<=j->l[j]? = some y->n<=y.n
  at_:b=true↔∃x,l[i]? = some x∧x.n=n
theorem BsR.yes(h:BsR l n i true):∃x,l[i]? = some x∧W3 (A5c n) l=(i:Int):=by obtain ⟨x,hx,hn⟩:=h.at_.1 rfl;exact ⟨x,hx,B7D hx hn h.lt⟩
theorem BsR.no(hr:C1b l)(h:BsR l n i false):W3 (A5c n) l = -1:=by
  refine B08 λj y hy hn=>?_;rcases Nat.lt_trichotomy j i with hj|hj|hj
  . have:=h.lt j y hj hy;omega
  . subst hj;have:=h.at_.2 ⟨y,hy,hn⟩;cases this
  . have hjl:=(Ac.1 hy).1;have hil:i<l.length:=by omega
    have h1:=h.ge i _ (Av _) (Ab hil);have h2:=hr i j _ y hj (Ab hil) hy;omega
theorem A8a(x:Int)(A:Mem):FnV prog 129 [.int .u32 x] A (.bool false):=by refine Ck (N:=6) func129 E E E λw=>?_;refine A8 (D4 0) (A1 (aS_ E (A0 (D4 0) (A1 (mV_ E (mV_ E (lQ_ (F5 false E E (neF E)) (as_ (A0 (D4 2) (A9 ?_))))))))));exact ⟨_,[],[],H8 E E,Aa _,by simp,E,E,E⟩
theorem A82(a b:Nat)(A:Mem):FnV prog 92 [(vU a),(vU b)] A (.int .i64 (B7A a b)):=by
 refine Ck (N:=20) func92 E E E λw=>?_;refine A8 (D0 0 1) (A1 (as_ (A0 (D0 0 1) (A1 (mv_ ?_)))));refine E6 (aS E a0) kR (A8a _ _) E ?_;refine as_ (A0 (D6 0 1 5) (A1 (mv_ ?_)));refine E6 (aS E a0) kR (A8a _ _) E ?_;refine as_ (A0 (D7 0 1 5 6) (A3 (A1 (mv_ (A0 (D7 0 1 6 11) ?_)))));refine C7 E ?_;refine A6 (nx (D6 0 1 6) (A3 (A1 (mv_ (A0 (D6 0 1 13) ?_)))));refine C7 E ?_;refine A6 (nx (D0 0 1) (A3 (A1 (mV_ E (mV_ E (lQ_ (F5 (decide (a<b)) E E (lt32 _ _)) (A0 (D6 0 1 16) ?_)))))));refine C3 E ?_ ?_<;>intro hc
 . have hab:a<b:=of_decide_eq_true hc;refine A1 (as_ (A0 (D4 4) (A9 (tr ?_))));exact ⟨_,[],[],H8 E E,Aa _,by simp,by rw [A8Z hab],E,E⟩
 .
  have hab:¬a<b:=of_decide_eq_false hc;refine A6 (nx (D0 0 1) (A3 (A1 (mV_ E (mV_ E (lQ_ (F5 (decide (b<a)) E E (gt32 _ _)) (A0 (D4 19) ?_)))))));refine C3 E ?_ ?_<;>intro hc
  . have hba:b<a:=of_decide_eq_true hc;refine A1 (as_ (A0 (D4 4) (A9 (tr ?_))));exact ⟨_,[],[],H8 E E,Aa _,by simp,by rw [A80 hba],E,E⟩
  . have hba:¬b<a:=of_decide_eq_false hc;refine A6 (nx kn (A1 (as_ (A0 (D4 4) (A9 ?_)))));exact ⟨_,[],[],H8 E E,Aa _,by simp,by rw [A81 qO],E,E⟩
theorem A5O(vs vg:Value)(x:Pr)(n:Nat)(A:Mem)(hs:By A vs x.sec)(hg:By A vg x.sig):FnV prog 91 [.agg #[(vU x.n),vs,vg],(vU n)] A (.int .i64 (B7A x.n n)):=by haveI:=hs.cel;haveI:=hg.cel;refine Ck (N:=9) func91 E E E λw=>?_;refine A8 (D0 0 1) (A1 ?_);refine A2 E (bx_ λb2=>?_);refine aS_ E (A0 (D0 1 2) (A1 (lQ_ (qf_ 0 0) ?_)));refine lQ_ ql_ ?_;refine mv_ ?_;refine E6 (aS E (aS E a0)) kR (A82 x.n n _) E ?_;refine as_ (A0 (D4 4) (A9 ?_));exact ⟨_,[],[],H8 E E,Aa _,by simp,E,E,E⟩
theorem B4g(v:Value)(rows:List (List Value))(l:List Pr)(n:Nat)(A:Mem)(hv:Rd A 3 v l.length rows.flatten)(hR:RwL prR A rows l)(hrise:C1b l)(hl:l.length<=1000000):FnX prog 90 [v,(vU n),.func (.func 91) #[] #[]] [] A λr M J=>M=[]∧J=[]∧∃i b,r=.tuple #[(vI i),.bool b]∧BsR l n i b:=by
  haveI:=hv.cel;refine Ck (N:=49) func90 E E E λw=>?_;refine A8 (D6 0 1 2) (A1 (as_ (as_ (A0 (D6 0 1 2) (A1 (mv_ ?_))))));refine lQ_ (G2 (sz:=3) E kR hv) ?_;refine as_ (A0 (D7 0 1 2 8) (A1 (mv_ (as_ (as_ (A0 (G7 0 1 2 8 9 10) (A3 (A7 ?_))))))));refine E5 (α:=Nat×Nat) (λy=>[(0,v),(1,(vU n)),(2,.func (.func 91) #[] #[]),(8,(vI l.length)),(9,(vI y.1)),(10,(vI y.2))]) (λ_=>[]) (λ_=>[]) (λy=>y.1<=y.2∧y.2<=l.length∧(∀(j:Nat) (z:Pr),j<y.1->l[j]? = some z->z.n<n)∧(∀(j:Nat) (z:Pr),y.2<=j->l[j]? = some z->n<=z.n)) (λy=>y.2-y.1) (0,l.length) ⟨Am _,Av _,λj z h=>by omega,λj z h1 h2=>by have:=(Ac.1 h2).1;omega⟩ (G7 0 1 2 8 9 10) .rfl qI ?_;rintro ⟨lo,hi⟩ ⟨h1,h2,h3,h4⟩;dsimp only at h1 h2 h3 h4 ⊢;refine A3 (A1 (mV_ E (mV_ E (lQ_ (E8 E E E) (A0 (N9 0 1 2 8 9 10 17) ?_)))));refine C3 E ?_ ?_<;>intro hc
  .
    have hlt:lo<hi:=by simp at hc;omega
    obtain ⟨h,hh⟩:∃h,(lo+hi)/2^1=h:=⟨_,E⟩
    have hh1:lo<=h∧h<hi:=by omega
    obtain ⟨x,hx⟩:∃x,l[h]? = some x:=⟨_,Ab qO⟩
    obtain ⟨r,hr,vs,vg,rfl,hs_,hg_,hxn⟩:=hR.get h x hx;haveI:=hs_.cel;haveI:=hg_.cel;refine A6 (nx (G7 0 1 2 8 9 10) (A7 (A1 (mv_ (mv_ ?_)))));refine lQ_ (D5 ((lo+hi:Nat):Int) E E (F7 qO qO qO)) ?_;refine lQ_ (K4 (k':=.u64) (lo+hi) E kR (A3S qO qO)) ?_;refine lQ_ (hh▸A3A (a:=lo+hi) (b:=1) E E E E qD) ?_;refine lQ_ (K4 (k':=.i64) h E kR (A2E qO)) ?_;refine as_ (A0 (N9 0 1 2 8 9 10 11) (A1 (mv_ (mv_ (mv_ ?_)))));refine lQ_ (H2 (sz:=3) E E kR E hv (show h<l.length by omega)) ?_;refine lQ_ (A1t E kR (hv.mono qS) (hR.lens prT) qD hr) ?_;refine mv_ ?_;refine A2 E (A1T E (aS E (aS E a0)) kR (A5O vs vg x n _ (hs_.mono qS) (hg_.mono qS)) E ?_);refine lQ_ (F5 (decide (x.n<n)) E E (B7B _ _)) (A0 (W6 0 1 2 8 9 10 11 31) ?_);refine C3 E ?_ ?_<;>intro hc
    .
      have hxl:x.n<n:=of_decide_eq_true hc;refine C1 (mv_ ?_);refine lQ_ (D5 ((h+1:Nat):Int) E E (F7 qO qO qO)) ?_;refine as_ (C5 (nb ?_))
      exact rn (h+1,hi) ⟨by dsimp only;omega,h2,λj z hj hz=>by
        dsimp only at hj;rcases Nat.lt_or_ge j h with hjh|hjh
        . have:=hrise j h z x hjh hz hx;omega
        . obtain rfl:j=h:=by omega
          rw [hx] at hz;cases hz;exact hxl,h4⟩ (by dsimp only;omega) (G7 0 1 2 8 9 10) .rfl qI
    .
      have hxl:¬x.n<n:=of_decide_eq_false hc;refine C1 (mv_ (as_ (C5 (nb ?_))))
      exact rn (lo,h) ⟨by dsimp only;omega,by dsimp only;omega,h3,λj z hj hz=>by
        dsimp only at hj;rcases Nat.lt_or_ge h j with hjh|hjh
        . have:=hrise h j x z hjh hx hz;omega
        . obtain rfl:j=h:=by omega
          rw [hx] at hz;cases hz;omega⟩ (by dsimp only;omega) (G7 0 1 2 8 9 10) .rfl qI
  .
    have hlt:lo=hi:=by simp at hc;omega
    subst hlt;refine D8 (te (re (be E (nx (F2 0 1 2 8 9) (A1 (mV_ E (mV_ E (mV_ E (lQ_ (E8 E E E) (mv_ ?_))))))))));refine V8 (t:=39) E (λhb=>?_) (λhb=>?_)
    .
      have hlo:lo<l.length:=by simp at hb;omega
      obtain ⟨x,hx⟩:∃x,l[lo]? = some x:=⟨_,Ab hlo⟩
      obtain ⟨r,hr,vs,vg,rfl,hs_,hg_,hxn⟩:=hR.get lo x hx;haveI:=hs_.cel;haveI:=hg_.cel;refine F4 E E (Cn qm_ E ?_);refine F4 E E (Cn qm_ E ?_);refine F4 E E (Cn qm_ E ?_);refine F4 E E (Cn (H2 (sz:=3) E E kR E hv hlo) E ?_);refine F4 E E (Cn (A1t E kR (hv.mono qS) (hR.lens prT) qD hr) E ?_);refine F4 E E (Cn qm_ E ?_);refine F4 E E (A1T E (aS E (aS E a0)) kR (A5O vs vg x n _ (hs_.mono qS) (hg_.mono qS)) E ?_);refine F4 E E (Cn (F5 (decide (x.n=n)) E E (B7C _ _)) E ?_);refine lQ_ (G4 E E) (as_ (as_ (A0 (D0 6 7) (A9 ?_))));exact ⟨_,[],[],A1Z E E E,Aa _,by simp,E,E,lo,_,E,h2,h3,h4,by rw [hx];simp⟩
    .
      have hlo:¬lo<l.length:=by simp at hb;omega
      refine K0 E E E E ?_;refine K0 E E E E ?_;refine K0 E E E E ?_;refine K0 E E E E ?_;refine K0 E E E E ?_;refine K0 E E E E ?_;refine K0 E E E E ?_;refine K0 E E E E ?_;refine lQ_ (E3 E E) (as_ (as_ (A0 (D0 6 7) (A9 ?_))));exact ⟨_,[],[],A1Z E E E,Aa _,by simp,E,E,lo,_,E,h2,h3,h4,by rw [List.getElem?_eq_none qO];simp⟩
theorem C3y(kb:Nat)(k:Ks)(va vg vs vo vm:Value)(rs ro rm:List (List Value))(n:Nat)(A:Mem)(hK:KyR A kb k va vg vs vo vm rs ro rm)(hrise:C1b k.once):FnX prog 63 [(vP kb),(vU n)] [] A λr M J=>M=[]∧∃q,r=.tuple #[q,.bool (A5l k.once n).isSome]∧By J q ((A5l k.once n).getD []):=by
 have hkb:=hK.blk_;haveI:=hK.agree.cel;haveI:=hK.sign.cel;haveI:=hK.signed.cel;haveI:=hK.once.cel;haveI:=hK.met.cel;refine Cl (N:=30) func63 E E E λw_=>?_;refine A8 (D0 0 1) (A1 (aS_ E (aS_ E (A0 (D0 0 1) (A3 (A1 (mV_ E (lQ_ (F6 (e:=79) E E kR) (A0 (D6 0 1 9) ?_)))))))));refine C7 E ?_;refine A6 (nx (D0 0 1) (A1 (mV_ E (lQ_ (E1 E) (lQ_ (qf_ 5 5) ?_)))));refine lQ_ (I0 E kR (mA hkb) qR) ?_;refine mv_ ?_;refine C6 (aS E (aS E (aS E a0))) kR (B4g vo ro k.once n _ (hK.once.mono qS) (hK.onceR.mono prT qS) hrise hK.l2) E ?_;rintro r16 M16 J16 ⟨rfl,rfl,i,b,rfl,hb⟩;refine mV_ E (lQ_ (Z9 E) (lQ_ (Z5 E) (as_ (as_ (A0 (D6 0 6 7) (A3 ?_))))));cases b
 . have hf:=hb.no hrise;refine A1 (mV_ E (lQ_ (U2 E) (A0 (D6 0 6 20) ?_)));refine D9 E ?_;refine A1 (as_ (as_ (A0 (D0 4 5) (A9 (tr ?_)))));exact ⟨_,[],[],A1Z E E E,qZ,E,_,by rw [A6Q hf];rfl,by rw [A6Q hf];exact By.nil⟩
 . obtain ⟨x,hx,hf⟩:=hb.yes;have hil:=(Ac.1 hx).1;obtain ⟨r,hr,vs_,vg_,rfl,hs_,hg_,hxn⟩:=hK.onceR.get i x hx;haveI:=hs_.cel;refine A1 (mV_ E (lQ_ (U2 E) (A0 (D6 0 6 20) ?_)));refine C7 E ?_;refine A6 (nx (D0 0 6) (A1 (mV_ E (lQ_ (E1 E) (lQ_ (qf_ 5 5) ?_)))));refine lQ_ (I0 E kR (mA hkb) qR) ?_;refine mv_ ?_;refine lQ_ (H2 (sz:=3) E E kR E hK.once hil) ?_;refine lQ_ (B2q (off:=1) E hK.once hil kR) ?_;refine lQ_ (B2r (u:=vs_) E (hK.once.mono qS) qO kR (by rw [A2D (hK.onceR.lens prT) hr 1 qD];rfl)) ?_;refine C6 (aS E a0) kR (P9 vs_ x.sec _ (hs_.mono qS)) E ?_;rintro r29 M29 J29 ⟨rfl,h29⟩;haveI:=h29.cel;refine as_ (as_ (A0 (D0 4 5) (A9 ?_)));exact ⟨_,[],[],A1Z E E E,qZ,E,_,by rw [A0i hf hx];rfl,by rw [A0i hf hx];exact h29.mono qS⟩

structure Kys(R:Mem)(kb:Nat)(k:Ks)(M:Mem):Prop where
  ex:∃(va vg vs vo vm:Value) (rs ro rm:List (List Value)) (Bs Bo Bm:Mem),M=(kb,blk [.int .i64 k.user,.int .i64 k.dev,va,vg,vs,vo,(vU k.next),vm] 79)::(Bs++(Bo++Bm)) ∧
    By R va k.agree∧By R vg k.sign∧Sl 3 vs k.signed.length rs.flatten Bs∧RwL prR R rs k.signed∧Sl 3 vo k.once.length ro.flatten Bo∧RwL prR R ro k.once∧Sl 2 vm k.met.length rm.flatten Bm∧RwL nmR R rm k.met∧k.next<4294967296∧k.signed.length<=2∧k.once.length<=100∧k.met.length<=100000
theorem Kys.mono{R R':Mem}{kb:Nat}{k:Ks}{M:Mem}(h:Kys R kb k M)(hR:∀x,x∈R->x∈R'):Kys R' kb k M:=by obtain ⟨va,vg,vs,vo,vm,rs,ro,rm,Bs,Bo,Bm,h1,h2,h3,h4,h5,h6,h7,h8,h9,h10⟩:=h.ex;exact ⟨va,vg,vs,vo,vm,rs,ro,rm,Bs,Bo,Bm,h1,h2.mono hR,h3.mono hR,h4,h5.mono prT hR,h6,h7.mono prT hR,h8,h9.mono nmT hR,h10⟩
theorem Kys.r{R:Mem}{kb:Nat}{k:Ks}{M:Mem}(h:Kys R kb k M):∃va vg vs vo vm rs ro rm,∀R',(∀x,x∈R->x∈R')->(∀x,x∈M->x∈R')->KyR R' kb k va vg vs vo vm rs ro rm:=by obtain ⟨va,vg,vs,vo,vm,rs,ro,rm,Bs,Bo,Bm,rfl,h2,h3,h4,h5,h6,h7,h8,h9,h10,h11,h12,h13⟩:=h.ex;refine ⟨va,vg,vs,vo,vm,rs,ro,rm,λR' hR hM=>⟨hM _ qK,h2.mono hR,h3.mono hR,h4.rd λx hx=>hM x (by simp [hx]),h5.mono prT hR,h6.rd λx hx=>hM x (by simp [hx]),h7.mono prT hR,h8.rd λx hx=>hM x (by simp [hx]),h9.mono nmT hR,by omega,by omega,by omega,by omega⟩⟩
def Y8(k:Ks)(s:Ps):Nat->Ks×Ps
  | 0=>(k,s)
  | i+1=>({ (Y8 k s i).1 with once:=(Y8 k s i).1.once++[⟨(Y8 k s i).1.next,F3 (Y8 k s i).2,[]⟩],next:=(Y8 k s i).1.next+1 },E7 (Y8 k s i).2)
theorem A5P(k:Ks)(s:Ps):∀i,(Y8 k s i).1.once.length=k.once.length+i
  | 0=>rfl
  | i+1=>by simp [Y8,A5P k s i];omega
theorem A1W(k:Ks)(s:Ps):∀i,(Y8 k s i).1.next=k.next+i
  | 0=>rfl
  | i+1=>by simp [Y8,A1W k s i];omega
theorem A96(k:Ks)(s:Ps):∀i,(Y8 k s i).1={ k with once:=(Y8 k s i).1.once,next:=k.next+i }
  | 0=>rfl
  | i+1=>by have h:=A96 k s i;have hn:=A1W k s i;simp only [Y8,hn];rw [h];simp [Nat.add_assoc]
theorem T8(s:Ps):(E7 s).ts.length<=s.ts.length+1∧(E7 s).n=s.n+1:=by
  unfold E7;split
  . exact ⟨by simp,E⟩
  . refine ⟨?_,E⟩;show (add s.ts _).length<=_;unfold add;split<;>simp
theorem A6R(k:Ks)(s:Ps):∀i,(Y8 k s i).2.ts.length<=s.ts.length+i∧(Y8 k s i).2.n=s.n+i
  | 0=>⟨Av _,E⟩
  | i+1=>by have h:=A6R k s i;have h2:=T8 (Y8 k s i).2;simp only [Y8];omega
def A6S(k:Ks)(s:Ps):Ks×Ps:=Y8 k s (4-k.once.length)
theorem C3z(kb pb:Nat)(k:Ks)(s:Ps)(MK MP A:Mem)(hK:Kys A kb k MK)(hP:Prm pb s MP)(hn:s.ts.length+100<=1048576)(hk:s.n<1000000000)(hnx:k.next+100<4000000000)(hG:Glb A):FnX prog 18 [(vP kb),(vP pb)] (MK++MP) A λq M J=>q=.int .i64 ((4-k.once.length:Nat):Int)∧∃MK2 MP2,M=MK2++MP2∧Kys (J++A) kb (A6S k s).1 MK2∧Prm pb (A6S k s).2 MP2:=by
 obtain ⟨va,vg,vs,vo,vm,rs,ro,rm,Bs,Bo,Bm,rfl,hva,hvg,hss,hrs,hso,hro,hsm,hrm,hn1,hn2,hn3,hn4⟩:=hK.ex;haveI:=hva.cel;haveI:=hvg.cel;haveI:=hss.cel;haveI:=hso.cel;haveI:=hsm.cel;refine Cl (N:=42) func18 E E E λw_=>?_;refine A8 (D0 0 1) (A1 (aS_ E (A0 (D0 0 1) (A1 (aS_ E (A0 (D6 0 1 5) (A3 (A7 ?_))))))));refine E5 (α:=Nat×(Value×List (List Value)×Mem)×Mem×Mem) (λy=>[(0,(vP kb)),(1,(vP pb)),(5,(vI y.1))]) (λy=>(kb,blk [.int .i64 k.user,.int .i64 k.dev,va,vg,vs,y.2.1.1,.int .u32 ((k.next+y.1:Nat):Int),vm] 79)::(Bs++(y.2.1.2.2++(Bm++y.2.2.1)))) (λy=>y.2.2.2) (λy=>y.1+k.once.length<=max 4 k.once.length∧Sl 3 y.2.1.1 (k.once.length+y.1) y.2.1.2.1.flatten y.2.1.2.2∧RwL prR (y.2.2.2++A) y.2.1.2.1 (Y8 k s y.1).1.once∧Prm pb (Y8 k s y.1).2 y.2.2.1) (λy=>4-(k.once.length+y.1)) (0,(vo,ro,Bo),MP,[]) ⟨by dsimp only;omega,hso,hro,hP⟩ (D6 0 1 5) (Ch (B:=[_]) qP (Ch qP (Ch qP (Ch qP (Cf qP))))) qI ?_;rintro ⟨i,⟨voi,roi,Boi⟩,MPi,Ji⟩ ⟨hi,hsi,hri,hPi⟩;dsimp only at hi hsi hri hPi ⊢;haveI:=hsi.cel;have hps:=A6R k s i;have hnx:=A1W k s i;have hol:=A5P k s i;refine A3 (A1 (mV_ E (lQ_ (B0w (e:=79) E E kR) (mv_ ?_))));refine F4 E E (Cn qm_ E ?_);refine F4 E E (Cn (E1 E) E ?_);refine F4 E E (Cn (qf_ 5 5) E ?_);refine F4 E E (Cn ql_ E ?_);refine F4 E E (Cn (G2 (sz:=3) E kR (hsi.rd (R:=Boi) λ_ h=>h)) E ?_);refine F4 E E (Cn (E8 E E E) E ?_);refine lQ_ (G4 E E) (A0 (D7 0 1 5 15) ?_);refine C3 E ?_ ?_<;>intro hc
 .
  have hlt:k.once.length+i<4:=by simp at hc;omega
  refine A6 (nx (D6 0 1 5) (A3 (A7 ?_)));refine F8 (MPi) (_) true [0,1,2,3,4,5,6,7,8,9,10,11,12,14,15] (zp 0 [0,0,0,0,1,0,0,0,1,0,2,0,2,2,0,0,2]) kR kR qP λhs K n0 hKm hKs hKn=>?_;refine kM_ E E (kM_ E E (kQ_ E (E1 E) (kQ_ E (qf_ 5 5) ?_)));refine I8 hs E hKs ql_ ?_;refine kM_ E E (kQ_ E (E1 E) (kQ_ E (qf_ 6 6) ?_));refine I8 hs E hKs ql_ ?_;refine km_ ?_
  refine H0 _ _ E E (Ah _) hKm λw0=>(C9 (Mc:=MPi) (R:=_) (aS E a0) kR qP (X3 pb (Y8 k s i).2 MPi _ hPi qO qO hG.up) E ?_)
  rintro v28 M28 J28 ⟨hP28,h28⟩ hKx;haveI:=h28.cel;refine kQ_ E (F0 (place:=λx=>#[(0,1),(1,1),(2,1)][x]?) (z:=[D3,vS,vS]) (λ_=>by kernel_rfl) (eS E (eS E e0)) (bdS 0 1 E qR (bdS 1 1 E qR bd0))) ?_
  refine H0 [] _ rfl rfl (Ah _) (λ_ h=>by cases h) λw0=>(C4 (e:=83) (sz:=3) (z:=[D3,vS,vS]) kR (eS rfl e0) (bdS 0 3 rfl qR bd0) rfl λb30=>λ_=>?_)
  refine A2j (M':=(b30,blk [.int .u32 ((k.next+i:Nat):Int),v28,vS] 83)::(M28++((kb,blk [.int .i64 k.user,.int .i64 k.dev,va,vg,vs,voi,.int .u32 ((k.next+i:Nat):Int),vm] 79)::(Bs++(Boi++(Bm++[])))))) qM ?_;refine K1 E E E (H4 (e:=83) (sz:=3) (by_:=56) E E kR E hsi (Co (n:=1) Cc qR) (by intro c hc;simp only [Cv,Cw,or_false] at hc;rcases hc with rfl|rfl|rfl;rfl;exact h28.one;rfl) qP (by unfold maxLen;omega) qO E λv31 B31 hs31=>?_);haveI:=hs31.cel;refine kQ_ E (E1 E) (kQ_ E (qf_ 5 5) ?_);refine K1 E E E (E4 E E hs31.one kR Cq Cs ?_);refine I1 (D6 0 1 5) (C1 (mV_ E (lQ_ (E1 E) (lQ_ (qf_ 6 6) ?_))));refine lQ_ ql_ ?_;refine lQ_ (A9v 4294967296 (a:=k.next+i) (b:=1) E E E E E E qO) ?_;refine lQ_ (E1 E) (lQ_ (qf_ 6 6) ?_);refine A2 E (E4 E E E kR Cq Cs ?_);refine C5 (nb (nx (D6 0 1 5) (C1 (mv_ ?_))));refine lQ_ (D5 ((i+1:Nat):Int) E E (F7 qO qO qO)) ?_;refine as_ (C5 ?_);exact rn (i+1,(v31,roi++[[.int .u32 ((k.next+i:Nat):Int),v28,vS]],B31),_,_) ⟨by dsimp only;omega,by simpa [Nat.add_assoc] using hs31,(hri.mono prT qS).snoc ⟨v28,vS,by rw [hnx],h28.mono qS,By.nil,by dsimp only;omega⟩,hP28⟩ (by dsimp only;omega) (D6 0 1 5) (Ch (B:=[_]) qP (Ch qP (Ch qP (Ch qP (Cf qP))))) qI
 .
  have hge:4<=k.once.length+i:=by simp at hc;omega
  obtain rfl:i=4-k.once.length:=by omega
  refine D8 (te (re (be E (nx (D4 5) (A1 (mV_ E (aS_ E (A0 (D4 4) (A9 ?_)))))))));have hfe:=A96 k s (4-k.once.length);refine ⟨_,(kb,blk [.int .i64 k.user,.int .i64 k.dev,va,vg,vs,voi,.int .u32 ((k.next+(4-k.once.length):Nat):Int),vm] 79)::(Bs++(Boi++(Bm++MPi))),[],H8 E E,Cg (Ce qM),E,(kb,blk [.int .i64 k.user,.int .i64 k.dev,va,vg,vs,voi,.int .u32 ((k.next+(4-k.once.length):Nat):Int),vm] 79)::(Bs++(Boi++Bm)),MPi,by simp,⟨⟨va,vg,vs,voi,vm,rs,roi,rm,Bs,Boi,Bm,?_⟩⟩,hPi⟩;unfold A6S;rw [hfe];exact ⟨E,hva.mono qS,hvg.mono qS,hss,hrs.mono prT qS,by show Sl 3 voi (Y8 k s (4-k.once.length)).1.once.length _ _;rw [hol];exact hsi,hri,hsm,hrm.mono nmT qS,by dsimp only;omega,hn2,by show (Y8 k s (4-k.once.length)).1.once.length<=100;rw [hol];omega,hn4⟩

end Go.Proofs.YtglbhoeolghndaaGreatDoor
namespace Go.Px
variable{sz:Nat}
theorem B7E{rows:List (List Value)}{r:List Value}(hl:∀r∈rows,r.length=sz)(hr:r.length=sz){j:Nat}(hj:j<rows.length) :
    rows.flatten.take (j*sz)++r++rows.flatten.drop (j*sz+sz)=(rows.set j r).flatten:=by
  rw [show j*sz+sz=(j+1)*sz from by rw [Nat.add_mul,Nat.one_mul],A2C hl,A2B hl,List.set_eq_take_append_cons_drop,if_pos hj];simp
variable{zs:List Value}
section
variable{C:Cx}{l:Env}{M J:Mem}{K:Env->Mem->Mem->Prop}{ty t:TypeId}{pos:String}{af:Array Edge}{g:Option (Nat×Bool)}{x y:Operand}{v:Value}{xs:List Value}{n j sz:Nat}{B M0:Mem}
theorem B7F{r:List Value}(hx:ev l x=some (vAt sz j v))(hy:ev l y=some (.agg r.toArray))(h:Sl sz v n xs B)(hr:r.length=sz)(h1:∀u∈r,u.oneCell'=true)
    (ht:P4 C.P t=some sz) (hj:j<n) (hM:M.Perm (B++M0)) (h2:∀B',Sl sz v n (xs.take (j*sz)++r++xs.drop (j*sz+sz)) B'->K l (B'++M0) J) :
    OpL C ⟨none,.store t x y,ty,pos,af,g⟩ l M J K:=by
  suffices hh:OpL C ⟨none,.store t x y,ty,pos,af,g⟩ l (B++M0) J K from λQp a w ha hw=>hh Qp a w ha (hw.fit (Fit.perm hM) λ_ h=>h)
  clear hM;subst hr;have hjm:j*r.length+r.length<=n*r.length:=by rw [<- Nat.succ_mul];exact Au _ hj
  rcases h with ⟨p,rfl,rfl,hx2,rfl⟩|⟨b,o,cap,cs,e,rfl,rfl,h3,h4,h5,h6,h7⟩
  . omega
  . simp only [vAt,Addr.add_mid] at hx;have hcm:n*r.length<=cap*r.length:=Au _ h3;refine K3 hx hy E ht (by omega) h1 E .hd (h2 [_] (.inr ⟨b,o,cap,_,e,E,E,h3,h4,?_,?_,?_⟩))
    . rw [A1M (by omega)];exact h5
    . rw [A1M (by omega)];exact h6
    . intro q u hq;have hlt:=(Ac.1 hq).1;rw [A1M (by omega)] at hlt;by_cases hq1:q<j*r.length
      . rw [A1l (by omega) hq1] at hq;rw [A1l (by omega) (by omega)];exact h7 q u hq
      . by_cases hq2:q<j*r.length+r.length
        . rw [A1L (by omega) (by omega) hq2] at hq;rw [A1L (by omega) (by omega) (by omega),<- hq];congr 1;omega
        . rw [A7k (by omega) (by omega)] at hq;rw [A7k (by omega) (by omega)];exact h7 q u hq
theorem B7G{e:TypeId}{by_:Nat}(hx:ev l x=some (vLo j sz v))(ht:A10 C.P t=some (e,sz,by_))(hz:zn C.P t (n-j)=some zs)(h:Sl sz v n xs B)
    (h1:∀c∈zs,c.oneCell'=true) (hj:j<n) (hM:M.Perm (B++M0)) (h2:∀B',Sl sz v n (xs.take (j*sz)++zs) B'->K l (B'++M0) J) :
    OpL C ⟨none,.call { callee:=.builtin .clear,args:=#[x],argTypes:=#[t] },ty,pos,af,g⟩ l M J K:=by
  suffices hh:OpL C ⟨none,.call { callee:=.builtin .clear,args:=#[x],argTypes:=#[t] },ty,pos,af,g⟩ l (B++M0) J K from λQp a w ha hw=>hh Qp a w ha (hw.fit (Fit.perm hM) λ_ h=>h)
  clear hM;have hzl:=B8w hz ht;have hjm:j*sz<=n*sz:=Au _ (by omega);rw [Nat.sub_mul] at hzl;rcases h with ⟨p,rfl,rfl,hx2,rfl⟩|⟨b,o,cap,cs,e',rfl,rfl,h3,h4,h5,h6,h7⟩
  . omega
  . have hcm:n*sz<=cap*sz:=Au _ h3;simp only [vLo,if_neg (show ¬cap=j by omega),Option.map_some,Addr.add_mid] at hx;have hnj:(n-j)*sz=zs.length:=by rw [hzl,Nat.sub_mul]
    refine B1z hx ht hz h1 (by rw [hnj];omega) E .hd (h2 [_] (.inr ⟨b,o,cap,_,e',E,E,h3,h4,?_,?_,?_⟩))
    . rw [hnj,A1M (by omega)];exact h5
    . simp;omega
    . intro q u hq;have hlt:=(Ac.1 hq).1;simp at hlt;rw [hnj];by_cases hq1:q<j*sz
      . rw [A1l (by omega) (by omega)];rw [Ak (by simp;omega),Cb hq1] at hq;exact h7 q u hq
      . rw [A1L (by omega) (by omega) (by omega)];rw [Aq (by simp;omega)] at hq;rw [<- hq];congr 1;simp;omega
end
def kpt{β:Type}(p:Nat->Bool)(rows:List β):Nat->List β
  | 0=>[]
  | j+1=>kpt p rows j++(if p j then [] else rows[j]?.toList)
theorem C1c{β:Type}{p:Nat->Bool}{rows:List β}:∀j,(kpt p rows j).length<=j
  | 0=>Av _
  | j+1=>by
    have h:=C1c (p:=p) (rows:=rows) j;simp only [kpt,List.length_append];split
    . simp;omega
    . have:(rows[j]?.toList).length<=1:=by cases rows[j]?<;>simp
      omega
theorem A83{β:Type}{p:Nat->Bool}{rows:List β}:∀j,(∀i,i<j->p i=false)->kpt p rows j=rows.take j
  | 0,_=>by simp [kpt]
  | j+1,h=>by rw [kpt,A83 j λi hi=>h i (by omega),if_neg (by rw [h j (by omega)];decide),Bh]
theorem A5Q{α:Type}(q:α->Bool)(xs:List α):∀j,kpt (λi=>(xs[i]?.map q).getD false) xs j=(xs.take j).filter λx=>!q x
  | 0=>by simp [kpt]
  | j+1=>by
    rw [kpt,A5Q q xs j,Bh,List.filter_append];congr 1
    cases h:xs[j]? with
    | none=>simp
    | some x=>cases hq:q x<;>simp [hq]
theorem RwL.kpt{α:Type}{φ:Mem->α->List Value->Prop}{R:Mem}{rows:List (List Value)}{xs:List α}(h:RwL φ R rows xs)(p:Nat->Bool):∀j,RwL φ R (Px.kpt p rows j) (Px.kpt p xs j)
  | 0=>RwL.nil
  | j+1=>by
    rw [Px.kpt,Px.kpt];refine (RwL.kpt h p j).app ?_;split
    . exact RwL.nil
    . cases hx:xs[j]? with
      | none =>
        have:rows[j]? = none:=by rw [List.getElem?_eq_none_iff] at hx ⊢;rw [h.len];exact hx
        rw [this];exact RwL.nil
      | some x =>
        obtain ⟨r,h1,h2⟩:=h.get j x hx;rw [h1];exact RwL.cons h2 RwL.nil
theorem B7H{α:Type}{cur:List α}{i:Nat}{r:α}(h:i<cur.length):(cur.set i r).take (i+1)=cur.take i++[r]:=by rw [Bh,List.getElem?_set_self h,List.take_set_of_le (Av _)];rfl
theorem Sl.hi_app{n i:Nat}{v:Value}{xs:List Value}{B:Mem}(h:Sl sz v n (xs.take (i*sz)++zs) B)(hx:xs.length=n*sz)(hi:i<=n):Sl sz (vHi i v) i (xs.take (i*sz)) B:=by have h2:=h.hiV i hi;have h3:i*sz<=n*sz:=Au _ hi;rwa [List.take_left' (by rw [Bj];omega)] at h2
structure Dfs(sz:Nat)(p:Nat->Bool)(rows cur:List (List Value))(j i:Nat):Prop where
  jn:j<=rows.length
  ki:i=(kpt p rows j).length
  ij:i<j
  cl:cur.length=rows.length
  ct:cur.take i=kpt p rows j
  cd:cur.drop j=rows.drop j
  cs:∀r∈cur,r.length=sz
  cr:∀r∈cur,r∈rows
section
variable{sz:Nat}{p:Nat->Bool}{rows cur:List (List Value)}{j i i0:Nat}{r:List Value}
theorem Dfs.init(hl:∀r∈rows,r.length=sz)(hi:i0<rows.length)(hp:p i0=true)(hq:∀j,j<i0->p j=false):Dfs sz p rows rows (i0+1) i0:=by
  have hk0:kpt p rows (i0+1)=rows.take i0:=by rw [kpt,hp,A83 i0 hq];simp
  exact ⟨hi,by rw [hk0,Bj];omega,by omega,E,hk0.symm,E,hl,λ_ h=>h⟩
theorem Dfs.at_(h:Dfs sz p rows cur j i)(hr:rows[j]? = some r):cur[j]? = some r:=by have h2:=congrArg (λl=>l[0]?) h.cd;simpa [List.getElem?_drop,hr] using h2
theorem Dfs.keep(h:Dfs sz p rows cur j i)(hr:rows[j]? = some r)(hp:p j=false):Dfs sz p rows (cur.set i r) (j+1) (i+1):=by
  obtain ⟨h1,h2,h3,h4,h5,h6,h7,h8⟩:=h;have hjl:=(Ac.1 hr).1;have hk:kpt p rows (j+1)=kpt p rows j++[r]:=by rw [kpt,hp,hr];rfl
  have hcj:cur.drop (j+1)=rows.drop (j+1):=by rw [<- List.drop_drop,<- List.drop_drop,h6]
  refine ⟨hjl,by rw [hk];simp [<- h2],by omega,by simp [h4],?_,?_,?_,?_⟩
  . rw [B7H (by omega),h5,hk]
  . rw [List.drop_set_of_lt (by omega),hcj]
  . intro x hx;rcases Bf hx with hx|hx
    . exact h7 x hx
    . subst hx;exact h7 x (As (Dfs.at_ ⟨h1,h2,h3,h4,h5,h6,h7,h8⟩ hr))
  . intro x hx;rcases Bf hx with hx|hx
    . exact h8 x hx
    . subst hx;exact As hr
theorem Dfs.skip(h:Dfs sz p rows cur j i)(hjl:j<rows.length)(hp:p j=true):Dfs sz p rows cur (j+1) i:=by
  obtain ⟨h1,h2,h3,h4,h5,h6,h7,h8⟩:=h;have hk:kpt p rows (j+1)=kpt p rows j:=by rw [kpt,hp];simp
  exact ⟨hjl,by rw [hk];exact h2,by omega,h4,by rw [hk];exact h5,by rw [<- List.drop_drop,<- List.drop_drop,h6],h7,h8⟩
end
end Go.Px

namespace Go.Proofs.YtglbhoeolghndaaGreatDoor
open Go.Px
theorem B7I{k:IntKind}(c:Int):I4 .eql k c (-1)=some (.bool (decide (c = -1))):=by
  by_cases h:c = -1
  . rw [decide_eq_true h];exact eqT h
  . rw [decide_eq_false h];exact eqF h
theorem B09(v:Value)(rows:List (List Value))(f:FuncId)(cs:List Value)(p:Nat->Bool)(B A:Mem)(hs:Sl 2 v rows.length rows.flatten B)(hl:∀r∈rows,r.length=2)(h1:∀c∈rows.flatten,c.oneCell'=true)(hn:rows.length<=1099511627776)(hc_:K8 prog f=true)(hf:∀(j:Nat) (r:List Value),rows[j]? = some r->FnV prog f (.agg r.toArray::cs) A (.bool (p j))):FnX prog 39 [v,.func (.func f) #[] cs.toArray] B A λq M J=>Sl 2 q (kpt p rows rows.length).length (kpt p rows rows.length).flatten M:=by
 haveI:=hs.cel;refine Cl (N:=42) func39 E E E λw_=>?_;refine A8 (D0 0 1) (A1 (as_ (A0 (D0 0 1) (A1 (mv_ (mv_ ?_))))));refine E6 (aS E (aS E a0)) kR (B06 v rows f cs p _ (hs.rd λx hx=>by simp [hx]) hl hn hc_ (λj r hr=>B4e (hf j r hr) qS)) E ?_;refine aS_ E (A0 (D6 0 1 5) (A3 (A1 (mV_ E (lQ_ (F5 (decide (A7V p rows.length = -1)) E E (B7I _)) (A0 (D7 0 1 5 12) ?_))))));refine C3 E ?_ ?_<;>intro hc
 .
  have hm1:A7V p rows.length = -1:=of_decide_eq_true hc;have hall:∀i,i<rows.length->p i=false:=by rcases A3k p rows.length with ⟨_,h⟩|⟨i,_,h,_,_⟩;exact h;omega
  refine A1 (mv_ (as_ (A0 (D4 4) (A9 (tr ?_)))));refine ⟨_,B,[],H8 E E,Cg (Cf qP),?_⟩;rw [A83 _ hall,List.take_length];exact hs
 .
  have hne:¬A7V p rows.length = -1:=of_decide_eq_false hc;obtain ⟨i0,hi0,he0,hp0,hq0⟩:∃i,i<rows.length∧A7V p rows.length=(i:Int)∧p i=true∧∀j,j<i->p j=false:=(A3k p rows.length).resolve_left λh=>hne h.1;rw [he0];refine A6 (nx (D6 0 1 5) (A3 (A1 (mv_ ?_))));refine lQ_ (D5 ((i0+1:Nat):Int) E E (F7 qO qO qO)) ?_;refine as_ (A0 (D7 0 1 5 6) (A7 ?_));refine E5 (α:=Nat×Nat×List (List Value)×Mem) (λy=>[(0,v),(1,.func (.func f) #[] cs.toArray),(5,(vI y.2.1)),(6,(vI y.1))]) (λy=>y.2.2.2) (λ_=>[]) (λy=>Dfs 2 p rows y.2.2.1 y.1 y.2.1∧Sl 2 v rows.length y.2.2.1.flatten y.2.2.2) (λy=>rows.length-y.1) (i0+1,i0,rows,B) ⟨Dfs.init hl hi0 hp0 hq0,hs⟩ (D7 0 1 5 6) Fit.rfl qI ?_;rintro ⟨j,i,cur,Bc⟩ ⟨hD,hsc⟩;dsimp only at hD hsc ⊢;have hjn:=hD.jn;have hij:=hD.ij;have hcs:=hD.cs;refine A3 (A1 (mv_ (mv_ ?_)));refine lQ_ (G2 (sz:=2) E kR (hsc.rd (R:=Bc) λ_ h=>h)) ?_;refine lQ_ (E8 E E E) (A0 (F2 0 1 5 6 19) ?_);refine C3 E ?_ ?_<;>intro hc
  .
   have hlt:j<rows.length:=by simp at hc;omega
   obtain ⟨r,hr⟩:∃r,rows[j]? = some r:=⟨_,Ab hlt⟩
   have hrc:cur[j]? = some r:=hD.at_ hr;have hrl:r.length=2:=hcs r (As hrc);have hr1:∀c∈r,c.oneCell'=true:=λc hc=>h1 c (List.mem_flatten.2 ⟨r,As hr,hc⟩)
   obtain ⟨c0_,c1_,rfl⟩:∃c0_ c1_,r=[c0_,c1_]:=by match r,hrl with|[c0_,c1_],_=>exact ⟨c0_,c1_,rfl⟩
   refine A6 (nx (D7 0 1 5 6) (A3 (A7 (A1 (mv_ (mv_ ?_))))));refine lQ_ (H2 (sz:=2) (a:=j) E E kR E (hsc.rd (R:=Bc) λ_ h=>h) hlt) ?_;refine lQ_ (A1t E kR (hsc.rd λx hx=>by simp [hx]) hcs qD hrc) ?_;refine A2 E (C2 (cs:=[D3,vS]) kR E λb7=>?_);refine A2 E (A5 E E E kR qR hr1 Cs ?_);refine A0 (F2 0 1 5 6 7) (A1 (mv_ ?_));refine lQ_ (qw_ 2) ?_;refine A2 E (A1T E (aS E a0) hc_ (B4e (hf j _ hr) qS) E ?_);refine lQ_ (U2 E) (A0 (G7 0 1 5 6 7 29) ?_);refine C3 E ?_ ?_<;>intro hc
   . refine A1 (mv_ (mv_ ?_));refine lQ_ (qw_ 2) ?_;refine lQ_ (H2 (sz:=2) (a:=i) E E kR E (hsc.rd (R:=Bc) λ_ h=>h) qO) ?_;refine A2 E (B7F (sz:=2) (j:=i) E E hsc hrl hr1 kR qO qP λB33 hs33=>?_);refine A0 (D7 0 1 5 6) (C1 (mv_ ?_));refine lQ_ (D5 ((i+1:Nat):Int) E E (F7 qO qO qO)) ?_;refine as_ (C5 (nb (nx (D7 0 1 5 6) (C1 (mv_ ?_)))));refine lQ_ (D5 ((j+1:Nat):Int) E E (F7 qO qO qO)) ?_;refine as_ (C5 ?_);exact rn (j+1,i+1,cur.set i [c0_,c1_],B33) ⟨hD.keep hr (by simpa using hc),by rw [<- B7E hcs E (by have:=hD.cl;omega)];exact hs33⟩ (by dsimp only;omega) (D7 0 1 5 6) (Cf qP) qI
   . refine A6 (nb (nx (D7 0 1 5 6) (C1 (mv_ ?_))));refine lQ_ (D5 ((j+1:Nat):Int) E E (F7 qO qO qO)) ?_;refine as_ (C5 ?_);exact rn (j+1,i,cur,Bc) ⟨hD.skip hlt (by simpa using hc),hsc⟩ (by dsimp only;omega) (D7 0 1 5 6) (Cf qP) qI
  .
   have hge:j=rows.length:=by simp at hc;omega
   subst hge;refine D8 (te (re (be E (nx (D0 0 5) (A1 (mv_ (mv_ ?_)))))));refine lQ_ (A16 (sz:=2) E E kR E (by first|assumption|exact Sl.rd (by assumption) qI|exact By.rd (by assumption)) qO) ?_;refine A2 E (B7G (e:=115) (by_:=32) (zs:=(Builtin.zeroCells #[D3,vS] (rows.length-i)).toList) E kR kR hsc (A2A (by simp [Value.oneCell']) qM _) qO qP λB38 hs38=>?_);refine A0 (D0 0 5) (A1 (mv_ (mv_ ?_)));refine lQ_ (A4r (sz:=2) (a:=i) E E kR E (hs38.rd (R:=B38) λ_ h=>h) qO) ?_;refine as_ (A0 (D4 4) (A9 ?_));refine ⟨_,B38,[],H8 E E,Cg (Cf qP),?_⟩;have h2:=hs38.hi_app (by rw [A53 hcs,hD.cl]) qO;rw [A2C hcs,hD.ct] at h2;rw [<- hD.ki];exact h2

theorem Y9(s:Ps)(w:LN):(H7 s w).ts.length<=s.ts.length+2:=by
  unfold H7;split
  . omega
  . have h1:=R9 (ts:=s.ts) (ws:=w);have h2:=A0P (ts:=rdT s.ts w) (t:=B0V ((rdI s.ts w:Nat):Int));show (add (rdT s.ts w) _).length<=_;omega
theorem A3o(s:Ps)(w:LN):(H7 s w).n=s.n:=by unfold H7;split<;>rfl
theorem B7J(s:Ps)(w m:LN):(B7p s w m).ts.length<=s.ts.length+2:=by
  unfold B7p;split
  . omega
  . have h1:=R9 (ts:=s.ts) (ws:=w);have h2:=A0P (ts:=rdT s.ts w) (t:=B6L ((rdI s.ts w:Nat):Int) m);show (add (rdT s.ts w) (B6L ((rdI s.ts w:Nat):Int) m)).length<=_;omega
theorem C3A(s:Ps)(w m:LN):(B7p s w m).n=s.n:=by unfold B7p;split<;>rfl
theorem B4h(s:Ps)(w:LN):(I6 s w).length=32:=by
  unfold I6;split
  . exact A1F _ _
  . exact A0Q _ qD
def B4i(k:Ks)(s:Ps):Ps:=B7p (H7 (E7 s) (F3 s)) k.sign (A94 k.next (I6 (E7 s) (F3 s)))
def turnP(k:Ks)(s:Ps):Pr:=⟨k.next,F3 s,C3p (H7 (E7 s) (F3 s)) k.sign (A94 k.next (I6 (E7 s) (F3 s)))⟩
def B1a(signed:List Pr)(x:Nm):Bool:=!decide (0<=W3 (A5c x.n) signed)
def A3p(k:Ks)(s:Ps):Ks×Ps :=
  ({ k with signed:=(turnP k s::k.signed).take 2,next:=k.next+1,met:=k.met.filter λx=>!B1a ((turnP k s::k.signed).take 2) x },B4i k s)
variable{l:List Pr}{rows:List (List Value)}
theorem B4j{n b:Nat}{vi:Value}{A:Mem}(hR:RwL prR A rows l)(hvi:Cel vi [vi])(hb:(b,blk [(vU n),vi] 115)∈A) :
    ∀(j:Nat) (r:List Value),rows[j]? = some r->FnV prog 42 (.agg r.toArray::[(vP b)]) A (.bool ((λj=>(l[j]?.map (A5c n)).getD false) j)):=λj r hr=>by
  obtain ⟨x,hx,vs,vg,rfl,hs,hg,_⟩:=hR.of hr;dsimp only;rw [hx];exact A8Y vs vg vi x n b _ hs hg hvi hb
theorem C1d(kb b n:Nat)(c0 c1 c2 c3 vq c5 c6 c7 vi:Value)(sg:List Pr)(rs:List (List Value))(A:Mem)(hb:(b,blk [(vP kb)] 40)∈A)(hkb:(kb,blk [c0,c1,c2,c3,vq,c5,c6,c7] 79)∈A)(hvi:Cel vi [vi])(hv:Rd A 3 vq sg.length rs.flatten)(hR:RwL prR A rs sg)(hl:sg.length<=1000000):FnV prog 40 [.agg #[(vU n),vi],(vP b)] A (.bool (!decide (0<=W3 (A5c n) sg))):=by haveI:=hv.cel;refine Ck (N:=11) func40 E E E λw=>?_;refine A8 (D0 0 1) (A1 ?_);refine A2 E (bx_ λb2=>?_);refine as_ (A0 (D0 1 2) (A1 ?_));refine lQ_ (I0 E kR (mA hb) qR) ?_;refine lQ_ (E1 E) (lQ_ (qf_ 4 4) ?_);refine lQ_ (I0 E kR (mA hkb) qR) ?_;refine lQ_ (A36 (aS E a0)) ?_;refine E6 (aS E (aS E a0)) kR (A6P vq rs 42 [(vP b2)] (λj=>(sg[j]?.map (A5c n)).getD false) _ (by rw [hR.len];exact hv.mono qS) (hR.lens prT) (by rw [hR.len];omega) kR (B4j (hR.mono prT qS) hvi Cc)) E ?_;rw [hR.len];refine lQ_ (U2 E) (as_ (A0 (D4 3) (A9 ?_)));exact ⟨_,[],[],H8 E E,Aa _,by simp,E,E,E⟩
theorem B4k{l:List Nm}{kb b:Nat}{c0 c1 c2 c3 vq c5 c6 c7:Value}{sg:List Pr}{rs:List (List Value)}{A:Mem}(hL:RwL nmR A rows l)(hb:(b,blk [(vP kb)] 40)∈A)(hkb:(kb,blk [c0,c1,c2,c3,vq,c5,c6,c7] 79)∈A)(hv:Rd A 3 vq sg.length rs.flatten)(hR:RwL prR A rs sg)(hl:sg.length<=1000000) :
    ∀(j:Nat) (r:List Value),rows[j]? = some r->FnV prog 40 (.agg r.toArray::[(vP b)]) A (.bool ((λj=>(l[j]?.map (B1a sg)).getD false) j)):=λj r hr=>by
  obtain ⟨x,hx,vi,rfl,hi,_⟩:=hL.of hr;dsimp only;rw [hx];exact C1d kb b x.n c0 c1 c2 c3 vq c5 c6 c7 vi sg rs A hb hkb hi.cel hv hR hl
theorem C3B(kb pb:Nat)(k:Ks)(s:Ps)(MK MP A:Mem)(hK:Kys A kb k MK)(hP:Prm pb s MP)(hn:s.ts.length+100<=1048576)(hk:s.n<1000000000)(hnx:k.next+100<4000000000)(hG:Glb A):FnX prog 17 [(vP kb),(vP pb)] (MK++MP) A λq M J=>∃MK2 MP2,M=MK2++MP2∧Kys (J++A) kb (A3p k s).1 MK2∧Prm pb (A3p k s).2 MP2:=by
 obtain ⟨va,vg,vq,vo,vm,rs,ro,rm,Bs,Bo,Bm,rfl,hva,hvg,hss,hrs,hso,hro,hsm,hrm,hn1,hn2,hn3,hn4⟩:=hK.ex;haveI:=hva.cel;haveI:=hvg.cel;have fl:=T8 s;have pl:=Y9 (E7 s) (F3 s);have pkl:=B4h (E7 s) (F3 s);haveI:=hss.cel;haveI:=hso.cel;haveI:=hsm.cel;refine Cl (N:=68) func17 E E E λw_=>?_;refine A8 (D0 0 1) (A1 ?_);refine A2 E (bx_ λb2=>?_);refine A0 (D0 1 2) (A3 (A1 ?_));refine lQ_ ql_ ?_;refine lQ_ (F6 (e:=79) E E kR) (A0 (D6 1 2 6) ?_);refine C7 E ?_;refine A6 (nx (D0 1 2) ?_);refine F8 (MP) (_) true (.range 8) (zp 0 [1,0,0,1,0,3,3,4,2]) kR kR qP λhs K n0 hKm hKs hKn=>?_;refine I8 hs E hKs ql_ ?_;refine kQ_ E (E1 E) (kQ_ E (qf_ 6 6) ?_);refine I8 hs E hKs ql_ ?_;refine km_ ?_
 refine A0Z [⟨5,12,none,MP,λv B R=>Prm pb (E7 (s)) B∧By R v (F3 (s))⟩,⟨6,13,none,[],λv B R=>B=[]∧∃u,v=.agg [(vU k.next),u,vS].toArray∧By R u (F3 s)⟩,⟨7,4,none,[],λv B _=>∃b,v=(vP b)∧B=[(b,blk [D3,vS,vS] 83)]⟩] ((b2,blk [(vP kb)] 40)::((kb,blk [.int .i64 k.user,.int .i64 k.dev,va,vg,vq,vo,(vU k.next),vm] 79)::(Bs++(Bo++Bm)))) (λbs=>[bs 5,bs 6,bs 7]) (hKn E) (by simp [U1,A0D]) (show ∀m∈([MP,[],[]]:List Mem),∀x∈m,K x.1 from A4 (hKm) (A4 gn0 (A4 gn0 (I5)))) kR (λ_=>by first|rfl|kernel_rfl)
  (A4 (λ_ _ _ _ h hp=>⟨hp.1,hp.2.mono h⟩) (A4 (λ_ _ _ _ h ⟨p1,u,p2,p3⟩=>⟨p1,u,p2,p3.mono h⟩) (A4 (λ_ _ _ _ h hp=>hp) (I5)))) nd_ nd_ dl_
  (gC ?_ (gC ?_ (gC ?_ (I5)))) ?_
 . intro _ _ R _ _ hb _ _ _;dsimp only [Gc.inp];refine C9 (Mc:=MP) (R:=[]) (aS E a0) kR qM (X3 pb (s) MP _ hP qO qO (hG.sub λx hx=>by have:=hb x (by simp [hx]);simp [this])) E ?_;rintro v12 M12 J12 ⟨hP12,h12⟩;exact ⟨_,E,by simpa using hP12,h12.mono λx hx=>by simp [hx]⟩
 . intro _ _ _ _ _ _ _ _ ha;dsimp only [Gc.inp];have g5:=gx 0 ha;dsimp only at g5;obtain ⟨hP12,h12⟩:=g5;haveI:=h12.cel;exact Cn (F0 (place:=λx=>#[(0,1),(1,1),(2,1)][x]?) (z:=[D3,vS,vS]) (λ_=>by kernel_rfl) (eS E (eS E e0)) (bdS 0 1 E qR (bdS 1 1 E qR bd0))) E ⟨_,E,E,_,E,h12⟩
 .
  intros
  dsimp only [Gc.inp]
  exact C2 (cs:=[D3,vS,vS]) kR E λb=>⟨_,E,b,E,E⟩
 intro vs bs Jn0 hφ hKK;clear hKK;have g5:=gy 0 hφ;have g6:=gy 1 hφ;have g7:=gy 2 hφ;dsimp only at g5 g6 g7;clear hφ;dsimp only [P7,U1,List.foldr,List.map,Cu,Ct];generalize bs 5=B12,bs 6=B13,bs 7=B4,vs 5=u12,vs 6=u13,vs 7=u4 at *;obtain ⟨hP12,h12⟩:=g5;obtain ⟨b4,rfl,rfl⟩:=g7;obtain ⟨rfl,u,rfl,h12⟩:=g6;haveI:=h12.cel;refine A2j (M':=B12++((b4,blk [D3,vS,vS] 83)::(b2,blk [(vP kb)] 40)::((kb,blk [.int .i64 k.user,.int .i64 k.dev,va,vg,vq,vo,(vU k.next),vm] 79)::(Bs++(Bo++Bm))))) qM ?_;refine K1 E E E (A5 (vs:=[(vU k.next),u,vS]) E E E kR qR (by intro c hc;simp only [Cv,Cw,or_false] at hc;rcases hc with rfl|rfl|rfl;rfl;exact h12.one;rfl) Cs ?_);refine I1 (D6 1 2 4) ?_;refine F8 (B12) (_) true (.range 14) (zp 0 [0,1,0,0,1,0,1,0,0,1,2,2,2,0,2]) kR kR qP λhs K n0 hKm hKs hKn=>?_;refine km_ ?_;refine I8 hs E hKs ql_ ?_;refine kQ_ E (E1 E) (kQ_ E (qf_ 3 3) ?_);refine I8 hs E hKs ql_ ?_;refine kQ_ E (qf_ 0 0) ?_;refine I8 hs E hKs ql_ ?_;refine kM_ E E (kQ_ E (qf_ 1 1) ?_);refine I8 hs E hKs ql_ ?_
 refine H0 _ _ E E (Ah _) hKm λw0=>(C9 (Mc:=B12) (R:=_) (aS E (aS E a0)) kR qP (A1V pb (E7 s) u (F3 s) B12 _ hP12 qO (h12.mono qS) hG.up) E ?_)
 rintro v24 M24 J24 ⟨hP24,h24⟩ hKx;haveI:=h24.cel;refine A2j (M':=M24++((b4,blk [(vU k.next),u,vS] 83)::(b2,blk [(vP kb)] 40)::((kb,blk [.int .i64 k.user,.int .i64 k.dev,va,vg,vq,vo,(vU k.next),vm] 79)::(Bs++(Bo++Bm))))) qM ?_;generalize hpk:I6 (E7 s) (F3 s)=pk at *;generalize hps:H7 (E7 s) (F3 s)=s2 at *
 refine H0 [] _ rfl rfl (Ah _) (λ_ h=>by cases h) λw0=>(E2 (aS rfl (aS rfl a0)) kR (A79 k.next v24 pk _ qO (h24.mono qS) qO) rfl ?_)
 rintro v25 M25 J25 ⟨rfl,h25⟩ _;haveI:=h25.cel;generalize hms:A94 k.next pk=wm at *;dsimp only [Ct,List.append_eq]
 refine H0 M24 _ E E qP (λx hx=>hKx (hKn E) x (by simpa using hx)) λw0=>(C9 (Mc:=M24) (R:=_) (aS E (aS E (aS E a0))) kR qP (C0Y pb s2 vg v25 k.sign wm M24 _ hP24 qO (hvg.mono qS) (h25.mono qS) hG.up) E ?_)
 rintro v26 M26 J26 ⟨hP26,h26⟩ hKx;haveI:=h26.cel;refine kQ_ E (qf_ 2 2) ?_;refine K1 E E E (E4 E E h26.one kR Cq Cs ?_);refine I1 (D0 2 4) (A1 ?_);refine lQ_ ql_ ?_;refine lQ_ (E1 E) (lQ_ (qf_ 6 6) ?_);refine lQ_ ql_ ?_;refine lQ_ (A9v 4294967296 (a:=k.next) (b:=1) E E E E E E qO) ?_;refine lQ_ (E1 E) (lQ_ (qf_ 6 6) ?_);refine A2 E (E4 E E E kR Cq Cs ?_);refine A0 (D0 2 4) ?_;refine F8 ([]) (_) true (.range 10) [(0,1),(1,1),(3,1),(4,0),(5,0),(6,1),(2,2),(7,2),(8,0),(9,0),(10,2)] kR kR qP λhs K n0 hKm hKs hKn=>?_;refine I8 hs E hKs ql_ ?_;refine I8 hs E hKs (qw_ 3) ?_;refine I8 hs E hKs ql_ ?_;refine kQ_ E (E1 E) (kQ_ E (qf_ 4 4) ?_);refine I8 hs E hKs ql_ ?_
 refine H0 [] _ rfl rfl (Ah _) (λ_ h=>by cases h) λw0=>(C4 (e:=83) (sz:=3) (z:=[D3,vS,vS]) kR (eS rfl e0) (bdS 0 3 rfl qR bd0) rfl λb37=>λhk37=>?_)
 dsimp only [Cu,Ct,List.append_eq]
 refine H0 [(b37,blk [(vU k.next),u,v26] 83)] _ E E qP (λx hx=>hk37 (hKn E) x (by simpa using hx)) λw0=>(H4 (e:=83) (sz:=3) (by_:=56) E E kR E (Sl.fresh (n:=1) (cs:=[(vU k.next),u,v26]) (e:=83) E qD) (hss.rd λx hx=>by simp [hx]) (hrs.ones prT) qP (by unfold maxLen;omega) qO E λv42 B42 hs42=>λ_=>?_)
 haveI:=hs42.cel;refine kQ_ E (E1 E) (kQ_ E (qf_ 4 4) ?_);refine K1 E E E (E4 E E hs42.one kR Cq Cs ?_);refine I1 (D4 2) ?_;refine C8 (.range 14) (zp 0 [1,1,0,0,1,1,0,0,1,0,0,0,0,0,2]) kR kR λhs=>?_;refine fR_ E ql_ ?_;refine fR_ E ql_ ?_;refine fQ_ E (E1 E) (fQ_ E (qf_ 4 4) ?_);refine fR_ E ql_ ?_;refine fR_ E ql_ ?_;refine fQ_ E (E1 E) (fQ_ E (qf_ 4 4) ?_);refine fR_ E ql_ ?_;refine fQ_ E (G2 (sz:=3) E kR (hs42.rd (R:=B42) λ_ h=>h)) ?_;refine fQ_ E (C2r E E) ?_;refine fQ_ E (A4r (sz:=3) (a:=min 2 (1+k.signed.length)) E E kR qO (hs42.rd (R:=B42) λ_ h=>h) qO) ?_;have hs6:=hs42.hiV (min 2 (1+k.signed.length)) qO;generalize vHi (min 2 (1+k.signed.length)) v42=vq6 at *;haveI:=hs6.cel
 obtain ⟨tp,htp⟩:∃tp,turnP k s=tp:=⟨_,E⟩
 have htq:tp=⟨k.next,F3 s,C3p s2 k.sign wm⟩:=by rw [<- htp];unfold turnP;rw [hpk,hps,hms]
 have hrow:prR (J26++(J25++(J24++(Jn0++A)))) tp [(vU k.next),u,v26]:=⟨u,v26,by rw [htq],by rw [htq];exact h12.mono qS,by rw [htq];exact h26.mono qS,by rw [htq];dsimp only;omega⟩
 have hRs:RwL prR (J26++(J25++(J24++(Jn0++A)))) (([(vU k.next),u,v26]::rs).take 2) ((tp::k.signed).take 2):=(RwL.cons hrow (hrs.mono prT qS)).take 2;have hl6:((tp::k.signed).take 2).length=min 2 (1+k.signed.length):=by rw [Bj,List.length_cons];omega
 have hSg:Sl 3 vq6 ((tp::k.signed).take 2).length (([(vU k.next),u,v26]::rs).take 2).flatten B42:=by
  have e1:[(vU k.next),u,v26]++rs.flatten=([(vU k.next),u,v26]::rs).flatten:=rfl;have e2:min 2 (1+k.signed.length)=min 2 ([(vU k.next),u,v26]::rs).length:=by rw [List.length_cons,hrs.len];omega
  rw [e1,A2C ((RwL.cons hrow (hrs.mono prT qS)).lens prT),e2,<- List.take_eq_take_min,<- e2,<- hl6] at hs6;exact hs6
 refine fQ_ E (E1 E) (fQ_ E (qf_ 4 4) ?_);refine G1 E E E (E4 E E hs6.one kR Cq Cs ?_);refine E0 (D4 2) ?_;refine Y5 (Bm) (_) true (.range 9) (zp 0 [1,1,0,0,1,0,2,0,0,2]) kR kR qP λhs K n0 hKm hKs hKn=>?_;refine I8 hs E hKs ql_ ?_;refine I8 hs E hKs ql_ ?_;refine kQ_ E (E1 E) (kQ_ E (qf_ 7 7) ?_);refine I8 hs E hKs ql_ ?_;refine kQ_ E (A36 (aS E a0)) ?_
 refine H0 _ _ E E (Ah _) hKm λw0=>(C9 (Mc:=Bm) (R:=_) (aS E (aS E a0)) kR qP (by rw [<- hrm.len] at hsm;exact B09 vm rm 40 [(vP b2)] (λj=>(k.met[j]?.map (B1a ((tp::k.signed).take 2))).getD false) Bm _ hsm (hrm.lens nmT) (hrm.ones nmT) (by rw [hrm.len];omega) kR (B4k (hrm.mono nmT qS) Cc Cc (hSg.rd λx hx=>by simp [hx]) (hRs.mono prT qS) (by rw [hl6];omega))) E ?_)
 rintro v65 M65 J65 h65 _;haveI:=h65.cel;refine kQ_ E (E1 E) (kQ_ E (qf_ 7 7) ?_);refine K1 E E E (E4 E E h65.one kR Cq Cs ?_);refine A3z ?_;have hkm:=hrm.kpt (λj=>(k.met[j]?.map (B1a ((tp::k.signed).take 2))).getD false) rm.length;rw [A5Q,hrm.len,List.take_length] at hkm;rw [hrm.len] at h65;have htK:A3p k s=({ k with signed:=(tp::k.signed).take 2,next:=k.next+1,met:=k.met.filter λx=>!B1a ((tp::k.signed).take 2) x },B7p s2 k.sign wm):=by unfold A3p B4i;rw [htp,hpk,hps,hms]
 rw [htK];have hkl:(k.met.filter λx=>!B1a ((tp::k.signed).take 2) x).length<=100000:=Az (List.length_filter_le _ _) hn4;refine ⟨_,(kb,blk [.int .i64 k.user,.int .i64 k.dev,va,vg,vq6,vo,.int .u32 ((k.next+1:Nat):Int),v65] 79)::(B42++(Bo++(M65++M26))),[],A9l E,Cg (Ch (B:=[_]) qP (Ch qP (Ch qP (Ch qP (Cf qP))))),(kb,blk [.int .i64 k.user,.int .i64 k.dev,va,vg,vq6,vo,.int .u32 ((k.next+1:Nat):Int),v65] 79)::(B42++(Bo++M65)),M26,by simp,⟨⟨va,vg,vq6,vo,v65,_,ro,_,B42,Bo,M65,E,hva.mono qS,hvg.mono qS,hSg,hRs.mono prT qS,hso,hro.mono prT qS,?_,hkm.mono nmT qS,by dsimp only;omega,by dsimp only;rw [hl6];omega,hn3,hkl⟩⟩,hP26⟩;rw [hkm.len] at h65;exact h65

def idS(k:Ks)(s:Ps):Ps:=H7 (H7 s k.agree) k.sign
def idA(k:Ks)(s:Ps):LN:=I6 s k.agree
def idG(k:Ks)(s:Ps):LN:=C0V (H7 s k.agree) k.sign
theorem A4U(k:Ks)(s:Ps):(idS k s).ts.length<=s.ts.length+4:=by have h1:=Y9 s k.agree;have h2:=Y9 (H7 s k.agree) k.sign;unfold idS;omega
theorem A97(k:Ks)(s:Ps):(A3p k s).2.ts.length<=s.ts.length+5∧(A3p k s).2.n=s.n+1:=by have h1:=T8 s;have h2:=Y9 (E7 s) (F3 s);have h3:=B7J (H7 (E7 s) (F3 s)) k.sign (A94 k.next (I6 (E7 s) (F3 s)));have h4:=C3A (H7 (E7 s) (F3 s)) k.sign (A94 k.next (I6 (E7 s) (F3 s)));have h5:=A3o (E7 s) (F3 s);show (B4i k s).ts.length<=_∧(B4i k s).n=_;unfold B4i;omega
theorem B1b(k:Ks)(s:Ps):(A3p k s).1.next=k.next+1:=rfl
theorem B7K(k:Ks)(s:Ps):(A6S k s).2.ts.length<=s.ts.length+4∧(A6S k s).2.n<=s.n+4∧(A6S k s).1.next<=k.next+4:=by have h1:=A6R k s (4-k.once.length);have h2:=A1W k s (4-k.once.length);unfold A6S;omega
def k0N(u d:Int)(s:Ps):Ks:=⟨u,d,F3 s,F3 (E7 s),[],[],1,[]⟩
def B1s(u d:Int)(s:Ps):Ks×Ps:=A6S (A3p (k0N u d s) (E7 (E7 s))).1 (A3p (k0N u d s) (E7 (E7 s))).2
theorem B4l(u d:Int)(s:Ps):(B1s u d s).2.ts.length<=s.ts.length+11∧(B1s u d s).2.n<=s.n+7∧(B1s u d s).1.next<=6:=by have h1:=T8 s;have h2:=T8 (E7 s);have h3:=A97 (k0N u d s) (E7 (E7 s));have h4:=B7K (A3p (k0N u d s) (E7 (E7 s))).1 (A3p (k0N u d s) (E7 (E7 s))).2;have h5:(A3p (k0N u d s) (E7 (E7 s))).1.next=2:=rfl;unfold B1s;omega
structure Bn where
  user:Int
  dev:Int
  ia:LN
  ig:LN
  signed:Nat
  key:LN
  sig:LN
  has:Bool
  once:Nat
  oncek:LN
def bnR(R:Mem)(x:Bn)(r:List Value):Prop:=∃va vg vk vs vo,r=[.int .i64 x.user,.int .i64 x.dev,va,vg,(vU x.signed),vk,vs,.bool x.has,(vU x.once),vo]∧By R va x.ia∧By R vg x.ig∧By R vk x.key∧By R vs x.sig∧By R vo x.oncek∧x.signed<4294967296∧x.once<4294967296
theorem bnT:RowT 10 bnR:=⟨λR R' x r hR ⟨va,vg,vk,vs,vo,h1,h2,h3,h4,h5,h6,h7⟩=>⟨va,vg,vk,vs,vo,h1,h2.mono hR,h3.mono hR,h4.mono hR,h5.mono hR,h6.mono hR,h7⟩,λR x r ⟨va,vg,vk,vs,vo,h1,_⟩=>by rw [h1];rfl,λR x r ⟨va,vg,vk,vs,vo,h1,h2,h3,h4,h5,h6,_⟩=>by
  rw [h1]
  exact A4 E (A4 E (A4 h2.one (A4 h3.one (A4 E (A4 h4.one (A4 h5.one (A4 E (A4 E (A4 h6.one I5)))))))))⟩
def C3C(k:Ks)(x:Pr)(s:Ps):Bn:=⟨k.user,k.dev,idA k s,idG k s,x.n,I6 (idS k s) x.sec,x.sig,false,0,[]⟩
def A6T(b:Bn)(l:List Pr)(s:Ps):Nat->List Bn×Ps
  | 0=>([b],s)
  | i+1=>match l[i]? with
    | none=>A6T b l s i
    | some o=>((A6T b l s i).1++[{ b with has:=true,once:=o.n,oncek:=I6 (A6T b l s i).2 o.sec }],H7 (A6T b l s i).2 o.sec)
theorem A4V{b:Bn}{s:Ps}{i:Nat}{o:Pr}(h:l[i]? = some o):A6T b l s (i+1)=((A6T b l s i).1++[{ b with has:=true,once:=o.n,oncek:=I6 (A6T b l s i).2 o.sec }],H7 (A6T b l s i).2 o.sec):=by simp only [A6T,h]
theorem A98{b:Bn}{l:List Pr}{s:Ps}:∀ {i:Nat},i<=l.length->(A6T b l s i).1.length=i+1∧(A6T b l s i).2.ts.length<=s.ts.length+2*i
  | 0,_=>⟨E,Av _⟩
  | i+1,h=>by have ih:=A98 (b:=b) (s:=s) (i:=i) (l:=l) qO;rw [A4V (Ab qO)];have h2:=Y9 (A6T b l s i).2 (l[i]'qO).sec;refine ⟨by simp [ih.1],?_⟩;show (H7 _ _).ts.length<=_;omega
def B4m(k:Ks)(s:Ps):List Bn×Ps:=match k.signed with
  | []=>([],s)
  | x::_=>A6T (C3C k x s) k.once (H7 (idS k s) x.sec) k.once.length
theorem A6U(pb:Nat)(s:Ps)(kb:Nat)(k:Ks)(va vg vq vo vm:Value)(rs ro rm:List (List Value))(MP A:Mem)(hK:KyR A kb k va vg vq vo vm rs ro rm)(hP:Prm pb s MP)(hn:s.ts.length+100<=1048576)(hG:Glb A):FnX prog 19 [(vP kb),(vP pb)] MP A λq M J=>Prm pb (idS k s) M∧∃p r,q=.agg #[p,r]∧By J p (idA k s)∧By J r (idG k s):=by
 have hkb:=hK.blk_;haveI:=hK.agree.cel;haveI:=hK.sign.cel;haveI:=hK.signed.cel;haveI:=hK.once.cel;haveI:=hK.met.cel;have pl:=Y9 s k.agree;refine Cl (N:=21) func19 E E E λw_=>?_;refine A8 (D0 0 1) (A1 ?_);refine A2 E (C2 (cs:=[vS,vS]) kR E λb4=>?_);refine A0 (D6 0 1 4) (A3 (A1 (mV_ E (lQ_ (F6 (e:=79) E E kR) (A0 (D7 0 1 4 6) ?_)))));refine C7 E ?_;refine A6 (nx (D6 0 1 4) ?_);refine F8 (MP) (_) true (.range 13) [(0,0),(1,0),(2,0),(3,0),(4,1),(6,0),(7,0),(8,0),(9,0),(10,1),(5,2),(11,2),(12,0),(13,2)] kR kR qP λhs K n0 hKm hKs hKn=>?_;refine kM_ E E (kM_ E E (kQ_ E (E1 E) (kQ_ E (qf_ 2 2) ?_)));refine I8 hs E hKs (I0 E kR (mA hkb) qR) ?_;refine kM_ E E (kM_ E E (kQ_ E (E1 E) (kQ_ E (qf_ 3 3) ?_)));refine I8 hs E hKs (I0 E kR (mA hkb) qR) ?_
 refine H0 _ _ E E (Ah _) hKm λw0=>(C9 (Mc:=MP) (R:=_) (aS E (aS E (a0))) kR qP (A1V pb s va k.agree MP _ hP qO (hK.agree.mono qS) hG.up) E ?_)
 rintro v13 M13 J13 ⟨hP13,h13⟩ hKx13;haveI:=h13.cel
 refine H0 M13 _ E E qP (λx hx=>hKx13 (hKn E) x (by simpa using hx)) λw0=>(C9 (Mc:=M13) (R:=_) (aS E (aS E (a0))) kR qP (B3T pb (H7 s k.agree) vg k.sign M13 _ hP13 qO (hK.sign.mono qS) hG.up) E ?_)
 rintro v19 M19 J19 ⟨hP19,h19⟩ hKx19;haveI:=h19.cel;refine kQ_ E (F0 (place:=λx=>#[(0,1),(1,1)][x]?) (z:=[vS,vS]) (λ_=>by kernel_rfl) (eS E (eS E e0)) (bdS 0 1 E qR (bdS 1 1 E qR bd0))) ?_;refine K1 E E E (A5 (vs:=[v13,v19]) E E E kR qR (A4 h13.one (A4 h19.one I5)) Cs ?_);refine I1 (D4 4) (A9 ?_);exact ⟨_,M19,[],A1d E E kR Cc qR,Cg (Cf qP),hP19,_,_,E,h13.mono qS,h19.mono qS⟩
theorem C3D(u d:Int)(pb:Nat)(s:Ps)(MP A:Mem)(hP:Prm pb s MP)(hn:s.ts.length+200<=1048576)(hk:s.n+100<1000000000)(hG:Glb A):FnX prog 9 [(vP pb),.agg #[.int .i64 u,.int .i64 d]] MP A λq M J=>∃kb MK MP2,q=(vP kb)∧M=MK++MP2∧Kys (J++A) kb (B1s u d s).1 MK∧Prm pb (B1s u d s).2 MP2:=by
 have f1:=T8 s;have f2:=T8 (E7 s);have f3:=A97 (k0N u d s) (E7 (E7 s));refine Cl (N:=20) func9 E E E λw_=>?_;refine A8 (D0 0 1) (A1 ?_);refine A2 E (bx_ λb3=>?_);refine as_ (A0 (D0 0 3) ?_);refine F8 (MP) (_) true (.range 8) [(0,1),(1,0),(3,0),(2,2),(4,2),(5,0),(6,2),(7,0)] kR kR qP λhs K n0 hKm hKs hKn=>?_;refine I8 hs E hKs (qw_ 2) ?_;refine kM_ E E (km_ ?_)
 refine H0 _ _ E E (Ah _) hKm λw0=>(C9 (Mc:=MP) (R:=_) (aS E (a0)) kR qP (X3 pb s MP _ hP qO qO hG.up) E ?_)
 rintro v8 M8 J8 ⟨hP8,h8⟩ hKx8;haveI:=h8.cel
 refine H0 M8 _ E E qP (λx hx=>hKx8 (hKn E) x (by simpa using hx)) λw0=>(C9 (Mc:=M8) (R:=_) (aS E (a0)) kR qP (X3 pb (E7 s) M8 _ hP8 qO qO hG.up) E ?_)
 rintro v10 M10 J10 ⟨hP10,h10⟩ hKx10;haveI:=h10.cel;refine kQ_ E (F0 (place:=λx=>#[(0,2),(2,1),(3,1),(4,1),(5,1),(6,1),(7,1)][x]?) (z:=[P0,P0,vS,vS,vS,vS,D3,vS]) (λ_=>by kernel_rfl) (eS E (eS E (eS E (eS E e0)))) (bdS 0 2 E qR (bdS 2 1 E qR (bdS 3 1 E qR (bdS 6 1 E qR bd0))))) ?_
 refine H0 [] _ rfl rfl (Ah _) (λ_ h=>by cases h) λw0=>(B5X rfl (by first|exact Cd|rfl) rfl λb12=>λhk12=>?_)
 dsimp only [Cu,Ct,List.append_eq];refine kQ_ E (G3 E) (I1 (D0 0 5) (A1 (mv_ (mv_ ?_))));refine A2 E (C9 (Mc:=(b12,blk [.int .i64 u,.int .i64 d,v8,v10,vS,vS,(vU 1),vS] 79)::M10) (R:=_) (aS E (aS E a0)) kR qP (C3B b12 pb (k0N u d s) (E7 (E7 s)) [(b12,blk [.int .i64 u,.int .i64 d,v8,v10,vS,vS,(vU 1),vS] 79)] M10 _ ⟨⟨v8,v10,_,_,_,[],[],[],[],[],[],E,h8.mono qS,h10.mono qS,Sl.nil,RwL.nil,Sl.nil,RwL.nil,Sl.nil,RwL.nil,show 1<4294967296 by decide,Am _,Am _,Am _⟩⟩ hP10 qO qO (show 1+100<4000000000 by decide) hG.up) E ?_);rintro v15 M15 J15 ⟨MK15,MP15,rfl,hK15,hP15⟩;refine A0 (D0 0 5) (A1 (mv_ (mv_ ?_)));refine A2 E (C9 (Mc:=MK15++MP15) (R:=_) (aS E (aS E a0)) kR qP (C3z b12 pb _ _ MK15 MP15 _ (hK15.mono qS) hP15 qO qO (by rw [B1b];show 1+1+100<4000000000;decide) hG.up) E ?_);rintro v18 M18 J18 ⟨rfl,MK18,MP18,rfl,hK18,hP18⟩;refine A0 (D4 5) (A1 (mv_ (as_ (A0 (D4 4) (A9 ?_)))));exact ⟨_,MK18++MP18,[(b3,blk [.int .i64 u,.int .i64 d] 27)],H8 E E,Ch (B:=[_]) qP (Cf qP),_,MK18,MP18,E,E,hK18.mono qS,hP18⟩
theorem B4n(pb:Nat)(s:Ps)(kb:Nat)(k:Ks)(va vg vq vo vm:Value)(rs ro rm:List (List Value))(x:Pr)(sl:List Pr)(MP A:Mem)(hK:KyR A kb k va vg vq vo vm rs ro rm)(hsg:k.signed=x::sl)(hP:Prm pb s MP)(hn:s.ts.length+100<=1048576)(hol:k.once.length<=10)(hG:Glb A):FnX prog 10 [(vP kb),(vP pb)] MP A λq M J=>Prm pb (B4m k s).2 M∧∃rows,Rd J 10 q (B4m k s).1.length rows.flatten∧RwL bnR (J++A) rows (B4m k s).1:=by
 have hkb:=hK.blk_;haveI:=hK.agree.cel;haveI:=hK.sign.cel;haveI:=hK.signed.cel;haveI:=hK.once.cel;haveI:=hK.met.cel;have il:=A4U k s;obtain ⟨r0,hr0,vs_,vg_,rfl,hs_,hg_,hxn⟩:=hK.signedR.get 0 x (by rw [hsg];rfl);haveI:=hs_.cel;haveI:=hg_.cel;refine Cl (N:=62) func10 E E E λw_=>?_;refine A8 (D0 0 1) (A1 (aS_ E (A0 (D0 0 1) (A3 (A1 (mV_ E (lQ_ (F6 (e:=79) E E kR) (A0 (D6 0 1 12) ?_))))))));refine C7 E ?_;refine A6 (nx (D0 0 1) (A1 (mV_ E (lQ_ (E1 E) (lQ_ (qf_ 4 4) ?_)))));refine lQ_ (I0 E kR (mA hkb) qR) ?_;refine lQ_ (H2 (sz:=3) (a:=0) E E kR E hK.signed (by rw [hsg];simp)) ?_;refine lQ_ (A1t E kR (hK.signed.mono qS) (hK.signedR.lens prT) qD hr0) ?_;refine A2 E (C2 (cs:=[D3,vS,vS]) kR E λb5=>?_);refine A2 E (A5 (vs:=[(vU x.n),vs_,vg_]) E E E kR qR (A4 E (A4 hs_.one (A4 hg_.one I5))) Cs ?_);refine A0 (D6 0 1 5) ?_;refine F8 (MP) (_) true (.range 17) [(0,0),(1,0),(2,0),(3,1),(4,0),(5,0),(7,0),(8,1),(9,0),(10,0),(11,1),(13,0),(14,1),(6,3),(12,3),(15,3),(16,4),(17,2)] kR kR qP λhs K n0 hKm hKs hKn=>?_;refine kM_ E E (kQ_ E (E1 E) (kQ_ E (qf_ 0 0) ?_));refine I8 hs E hKs (H9 (n:=2) E kR (mA hkb) Cr) ?_;refine kM_ E E (kM_ E E (kQ_ E (qf_ 0 0) ?_));refine I8 hs E hKs ql_ ?_;refine kM_ E E (kQ_ E (qf_ 1 1) ?_);refine I8 hs E hKs ql_ ?_;refine kQ_ E (qf_ 2 2) ?_;refine I8 hs E hKs ql_ ?_
 refine A0Z [⟨6,25,none,MP,λv B R=>Prm pb (idS k s) B∧∃p q,v=.agg #[p,q]∧By R p (idA k s)∧By R q (idG k s)⟩,⟨12,31,some 6,[],λv B R=>Prm pb (H7 (idS k s) x.sec) B∧By R v (I6 (idS k s) x.sec)⟩,⟨15,34,none,[],λv B R=>B=[]∧∃p q u,v=.agg #[.int .i64 k.user,.int .i64 k.dev,p,q,(vU x.n),u,vg_,.bool false,(vU 0),vS]∧By R p (idA k s)∧By R q (idG k s)∧By R u (I6 (idS k s) x.sec)⟩,⟨16,6,none,[],λv B _=>∃b,v=(vP b)∧B=[(b,blk [P0,P0,vS,vS,D3,vS,vS,.bool false,D3,vS] 65)]⟩] (_) (λbs=>[bs 12,bs 15,bs 16]) (hKn E) (Ah _) (show ∀m∈([MP,[],[]]:List Mem),∀x∈m,K x.1 from A4 (hKm) (A4 gn0 (A4 gn0 (I5)))) kR (λ_=>by first|rfl|kernel_rfl)
  (A4 (λ_ _ _ _ h ⟨p1,p,q,e,p2,p3⟩=>⟨p1,p,q,e,p2.mono h,p3.mono h⟩) (A4 (λ_ _ _ _ h ⟨p1,p2⟩=>⟨p1,p2.mono h⟩) (A4 (λ_ _ _ _ h ⟨p1,p,q,u,e,p2,p3,p4⟩=>⟨p1,p,q,u,e,p2.mono h,p3.mono h,p4.mono h⟩) (A4 (λ_ _ _ _ h hp=>hp) (I5))))) nd_ nd_ dl_
  (gC ?_ (gC ?_ (gC ?_ (gC ?_ (I5))))) ?_
 . intro _ _ R _ _ hb _ _ _;dsimp only [Gc.inp];refine C9 (Mc:=MP) (R:=[]) (aS E (aS E (a0))) kR qM (A6U pb s kb k va vg vq vo vm rs ro rm MP _ (hK.mono (λx hx=>by have:=hb x (by simp [hx]);simp [this])) hP qO (hG.sub (λx hx=>by have:=hb x (by simp [hx]);simp [this]))) E ?_;rintro v25 M25 J25 ⟨hP25,p,q,rfl,hp,hq⟩;exact ⟨_,E,by simpa using hP25,p,q,E,hp.mono λx hx=>by simp [hx],hq.mono λx hx=>by simp [hx]⟩
 . intro vs bs R _ _ hb _ _ ha;dsimp only [Gc.inp];have g6:=gx 0 ha;dsimp only at g6;obtain ⟨hP25,-⟩:=g6;refine C9 (Mc:=bs 6) (R:=[]) (aS E (aS E (a0))) kR qM (A1V pb (idS k s) vs_ x.sec (bs 6) _ hP25 qO (hs_.mono (λx hx=>by have:=hb x (by simp [hx]);simp [this])) (hG.sub (λx hx=>by have:=hb x (by simp [hx]);simp [this]))) E ?_;rintro v31 M31 J31 ⟨hP31,h31⟩;exact ⟨_,E,by simpa using hP31,h31.mono λx hx=>by simp [hx]⟩
 . intro _ _ _ _ _ _ _ _ ha;dsimp only [Gc.inp];have g6:=gx 0 ha;dsimp only at g6;have g12:=gx 1 ha;dsimp only at g12;obtain ⟨-,h31⟩:=g12;obtain ⟨-,p,q,e25,hp,hq⟩:=g6;haveI:=h31.cel;haveI:=hp.cel;haveI:=hq.cel;dsimp only [P7,List.map,Cu,Ct];rw [e25];exact Cn (F0 (place:=λx=>#[(0,2),(2,2),(4,1),(5,1),(6,1),(7,1),(8,1),(9,1)][x]?) (z:=[P0,P0,vS,vS,D3,vS,vS,.bool false,D3,vS]) (λ_=>by kernel_rfl) (eS E (eS E (eS E (eS E (eS E e0))))) (bdS 0 2 E qR (bdS 2 2 E qR (bdS 4 1 E qR (bdS 5 1 E qR (bdS 6 1 E qR bd0)))))) E ⟨_,E,E,p,q,_,E,hp,hq,h31⟩
 .
  intros
  dsimp only [Gc.inp]
  exact C2 (cs:=[P0,P0,vS,vS,D3,vS,vS,.bool false,D3,vS]) kR E λb=>⟨_,E,b,E,E⟩
 intro vs bs Jn0 hφ hKK;clear hKK;have g6:=gy 0 hφ;have g12:=gy 1 hφ;have g15:=gy 2 hφ;have g16:=gy 3 hφ;dsimp only at g6 g12 g15 g16;clear hφ;dsimp only [P7,U1,List.foldr,List.map,Cu,Ct];generalize bs 6=B25,bs 12=B31,bs 15=B34,bs 16=B6,vs 6=u25,vs 12=u31,vs 15=u34,vs 16=u6 at *;obtain ⟨hP31,h31⟩:=g12;clear g6;obtain ⟨b6,rfl,rfl⟩:=g16;obtain ⟨rfl,p,q,u,rfl,hp,hq,hu⟩:=g15;haveI:=hp.cel;haveI:=hq.cel;haveI:=hu.cel
 obtain ⟨bb,hbb⟩:∃bb,C3C k x s=bb:=⟨_,E⟩
 obtain ⟨s2,hs2⟩:∃s2,H7 (idS k s) x.sec=s2:=⟨_,E⟩
 rw [hs2] at hP31;have hs2l:s2.ts.length<=s.ts.length+6:=by have:=Y9 (idS k s) x.sec;rw [hs2] at this;omega
 have hbun:B4m k s=A6T bb k.once s2 k.once.length:=by unfold B4m;rw [hsg,<- hbb,<- hs2]
 rw [hbun]
 have hbr:∀R,(∀y,y∈Jn0++[]++A->y∈R)->bnR R bb [.int .i64 k.user,.int .i64 k.dev,p,q,(vU x.n),u,vg_,.bool false,(vU 0),vS]:=λR hR=>⟨p,q,u,vg_,_,by rw [<- hbb];rfl,by rw [<- hbb];exact hp.mono hR,by rw [<- hbb];exact hq.mono hR,by rw [<- hbb];exact hu.mono hR,by rw [<- hbb];exact hg_.mono λy hy=>hR y (Ai _ hy),by rw [<- hbb];exact By.nil,by rw [<- hbb];exact hxn,by rw [<- hbb];show 0<4294967296;decide⟩
 refine K1 E E E (A5 (vs:=[.int .i64 k.user,.int .i64 k.dev,p,q,(vU x.n),u,vg_,.bool false,(vU 0),vS]) E E E kR qR (A4 E (A4 E (A4 hp.one (A4 hq.one (A4 E (A4 hu.one (A4 hg_.one al3))))))) Cs ?_);refine I1 (D6 0 1 6) ?_;refine A0a (B:=[(b6,blk [.int .i64 k.user,.int .i64 k.dev,p,q,(vU x.n),u,vg_,.bool false,(vU 0),vS] 65)]) qP ?_;refine A1 ?_;refine lQ_ (qw_ 10) ?_;refine A2 E (C4 (e:=65) (sz:=10) (z:=[P0,P0,vS,vS,D3,vS,vS,.bool false,D3,vS]) kR (eS E e0) (bdS 0 10 E qR bd0) E λb36=>?_);refine aS_ E (A0 (D7 0 1 6 7) (A3 (A1 (mV_ E (lQ_ (E1 E) (lQ_ (qf_ 5 5) ?_))))));refine lQ_ (I0 E kR (mA hkb) qR) ?_;refine lQ_ (G2 (sz:=3) E kR hK.once) ?_;refine mv_ (A0 (G7 1 6 7 40 41 42) (A7 ?_));refine E5 (α:=Nat×(Value×List (List Value)×Mem)×Mem×Mem) (λy=>[(1,(vP pb)),(6,(vP b6)),(7,y.2.1.1),(40,vo),(41,(vI k.once.length)),(42,(vI y.1))]) (λy=>y.2.1.2.2++y.2.2.1) (λy=>y.2.2.2) (λy=>y.1<=k.once.length∧Sl 10 y.2.1.1 (y.1+1) y.2.1.2.1.flatten y.2.1.2.2∧RwL bnR (y.2.2.2++A) y.2.1.2.1 (A6T bb k.once s2 y.1).1∧Prm pb (A6T bb k.once s2 y.1).2 y.2.2.1∧(b6,blk [.int .i64 k.user,.int .i64 k.dev,p,q,(vU x.n),u,vg_,.bool false,(vU 0),vS] 65)∈y.2.2.2∧∀z,z∈Jn0++[]++A->z∈y.2.2.2++A) (λy=>k.once.length-y.1) (0,(.slice (some ⟨b36,0,none⟩) 1 1,[[.int .i64 k.user,.int .i64 k.dev,p,q,(vU x.n),u,vg_,.bool false,(vU 0),vS]],[(b36,_)]),B31,_) ⟨Am _,Sl.fresh (n:=1) (cs:=[.int .i64 k.user,.int .i64 k.dev,p,q,(vU x.n),u,vg_,.bool false,(vU 0),vS]) (e:=65) E qD,RwL.cons (hbr _ qS) RwL.nil,hP31,by simp,qS⟩ (G7 1 6 7 40 41 42) (Ch (B:=[_]) qP (Cf qP)) qI ?_;rintro ⟨i,⟨vi,ri,Bi⟩,MPi,Ji⟩ ⟨hi,hsi,hri,hPi,hJb,hJn⟩;dsimp only at hi hsi hri hPi hJb hJn ⊢;haveI:=hsi.cel;have hbl:=A98 (b:=bb) (s:=s2) hi;refine A1 (lQ_ (E8 E E E) (A0 (N9 1 6 7 40 41 42 43) (A3 ?_)));refine C3 E ?_ ?_<;>intro hc
 .
  have hlt:i<k.once.length:=by simp at hc;omega
  obtain ⟨o,ho⟩:∃o,k.once[i]? = some o:=⟨_,Ab hlt⟩
  obtain ⟨r1,hr1,vo1,vo2,rfl,ho1,ho2,hon⟩:=hK.onceR.get i o ho;haveI:=ho1.cel;haveI:=ho2.cel;have hbs:=A4V (b:=bb) (s:=s2) ho;refine A6 (nx (G7 1 6 7 40 41 42) (A3 (A7 (A1 ?_))));refine lQ_ (H2 (sz:=3) E E kR E hK.once hlt) ?_;refine lQ_ (A1t E kR (hK.once.mono qS) (hK.onceR.lens prT) qD hr1) ?_;refine A2 E (C2 (cs:=[D3,vS,vS]) kR E λb9=>?_);refine A2 E (A5 (vs:=[(vU o.n),vo1,vo2]) E E E kR qR (A4 E (A4 ho1.one (A4 ho2.one I5))) Cs ?_);refine A0 (N9 1 6 7 9 40 41 42) (A1 ?_);refine lQ_ (H1 (n:=10) E kR (Ai _ (Ae _ hJb)) qR) ?_;refine A2 E (C2 (cs:=[P0,P0,vS,vS,D3,vS,vS,.bool false,D3,vS]) kR E λb10=>?_);refine A2 E (A5 (vs:=[.int .i64 k.user,.int .i64 k.dev,p,q,(vU x.n),u,vg_,.bool false,(vU 0),vS]) E E E kR qR (A4 E (A4 E (A4 hp.one (A4 hq.one (A4 E (A4 hu.one (A4 hg_.one al3))))))) Cs ?_);refine A0 (W6 1 6 7 9 10 40 41 42) ?_;refine F8 (MPi++[(b10,blk [.int .i64 k.user,.int .i64 k.dev,p,q,(vU x.n),u,vg_,.bool false,(vU 0),vS] 65)]) (_) true [0,1,2,3,4,5,6,7,8,10] [(0,0),(1,1),(2,0),(3,0),(4,1),(6,0),(5,2),(7,2),(8,0),(9,2),(10,0),(11,2)] kR kR qP λhs K n0 hKm hKs hKn=>?_;refine kQ_ E (qf_ 0 0) ?_;refine I8 hs E hKs ql_ ?_;refine kM_ E E (kQ_ E (qf_ 1 1) ?_);refine I8 hs E hKs ql_ ?_;refine kQ_ E (qf_ 7 7) ?_
  refine H0 MPi _ E E qP (λy hy=>hKm y (by simp [hy])) λw0=>(C9 (Mc:=MPi) (R:=_) (aS E (aS E (a0))) kR qP (A1V pb _ vo1 o.sec MPi _ hPi qO (ho1.mono qS) hG.up) E ?_)
  rintro v52 M52 J52 ⟨hP52,h52⟩ hKx52;haveI:=h52.cel
  refine H0 [(b10,blk [.int .i64 k.user,.int .i64 k.dev,p,q,(vU x.n),u,vg_,.bool false,(vU 0),vS] 65)] _ E E qP (λy hy=>hKm y (by simp at hy;simp [hy])) λw0=>(E4 E E E kR Cq Cs ?_)
  intro hkS;dsimp only [Cu,Ct,List.append_eq];refine kQ_ E (qf_ 8 8) ?_;refine K1 E E E (E4 E E E kR Cq Cs ?_);refine kQ_ E (qf_ 9 9) ?_;refine K1 E E E (E4 E E h52.one kR Cq Cs ?_);refine I1 (N9 1 6 7 10 40 41 42) (C1 (mv_ ?_));refine lQ_ (qw_ 10) ?_;refine A2 E (C4 (e:=65) (sz:=10) (z:=[P0,P0,vS,vS,D3,vS,vS,.bool false,D3,vS]) kR (eS E e0) (bdS 0 10 E qR bd0) E λb58=>?_);refine A2 E (H4 (e:=65) (sz:=10) (by_:=152) E E kR E hsi (Co (n:=1) Cc qR) (A4 E (A4 E (A4 hp.one (A4 hq.one (A4 E (A4 hu.one (A4 hg_.one (A4 E (A4 E (A4 h52.one I5)))))))))) qP (by unfold maxLen;omega) qO E λv59 B59 hs59=>?_);refine as_ (C5 (nb (nx (G7 1 6 7 40 41 42) (C1 ?_))));refine lQ_ (D5 ((i+1:Nat):Int) E E (F7 qO qO qO)) ?_;refine mv_ (C5 ?_);exact rn (i+1,(v59,ri++[[.int .i64 k.user,.int .i64 k.dev,p,q,(vU x.n),u,vg_,.bool true,(vU o.n),v52]],B59),M52,_) ⟨by dsimp only;omega,by simpa using hs59,by dsimp only;rw [hbs];exact (hri.mono bnT qS).snoc ⟨p,q,u,vg_,v52,by rw [<- hbb];rfl,by rw [<- hbb];exact hp.mono λz hz=>qS z (hJn z hz),by rw [<- hbb];exact hq.mono λz hz=>qS z (hJn z hz),by rw [<- hbb];exact hu.mono λz hz=>qS z (hJn z hz),by rw [<- hbb];exact hg_.mono qS,h52.mono qS,by rw [<- hbb];exact hxn,hon⟩,by dsimp only;rw [hbs];exact hP52,Ai _ hJb,λz hz=>qS z (hJn z hz)⟩ (by dsimp only;omega) (G7 1 6 7 40 41 42) (Ch qP (Cf qP)) qI
 .
  have hge:i=k.once.length:=by simp at hc;omega
  subst hge;refine D8 (te (re (be E (nx (D4 7) (A1 (mV_ E (aS_ E (A0 (D4 4) (A9 ?_)))))))));exact ⟨_,MPi,Bi,H8 E E,Ch qP (Cf qP),hPi,ri,by rw [hbl.1];exact hsi.rd λx hx=>by simp [hx],hri.mono bnT qS⟩

theorem B4o(h:(l.map (·.n)).Pairwise (· < ·)):C1b l:=by intro i j x y hij hx hy;have h1:=List.pairwise_iff_getElem.1 h i j (by rw [List.length_map];exact (Ac.1 hx).1) (by rw [List.length_map];exact (Ac.1 hy).1) hij;obtain ⟨hi,ei⟩:=Ac.1 hx;obtain ⟨hj,ej⟩:=Ac.1 hy;simp only [List.getElem_map,ei,ej] at h1;exact h1
end Go.Proofs.YtglbhoeolghndaaGreatDoor
namespace Go.Px
def C4C(P:Program)(t:TypeId):Bool:=match P.underlying t with
  | some (.int _)=>true
  | _=>false
def C5j(P:Program)(t:TypeId):Bool :=
  match P.underlying t with
  | some (.struct fs)=>match fs.toList with
    | [f,g]=>f.offset==0&&g.offset==1&&(f.name != "_")&&(g.name != "_")&&C4C P f.type&&C4C P g.type&&!P.stoodInHeld t&&!P.eqGuardType P.depth t
    | _=>false
  | _=>false
variable{P:Program}{t:TypeId}
theorem A8b(h:C4C P t=true):∃k,P.underlying t=some (.int k):=by
  unfold C4C at h;split at h
  . rename_i k hk;exact ⟨k,hk⟩
  . cases h
theorem A0K{k:IntKind}(ht:P.underlying t=some (.int k)){cs:Array Value}{off:Nat}{v:Value}(hv:cs[off]? = some v)(w:World):(part t cs off).run P w=.ok v w:=by simp [part,isAgg,run_underlying ht,hv]
theorem C1e(h:C5j P t=true)(k:IntKind)(a b a' b':Int)(w:World) :
    P.eqGuardType P.depth t=false∧(Op.equalIn 10000 t (.agg #[.int k a,.int k b]) (.agg #[.int k a',.int k b'])).run P w=.ok (a==a'&&b==b') w:=by
  unfold C5j at h;split at h
  . rename_i fs hfs;split at h
    . rename_i f g hfg;simp only [Bool.and_eq_true,beq_iff_eq,bne_iff_ne,Bool.not_eq_true'] at h;obtain ⟨⟨⟨⟨⟨⟨⟨h1,h2⟩,h3⟩,h4⟩,h5⟩,h6⟩,h7⟩,h8⟩:=h;obtain ⟨k1,e1⟩:=A8b h5;obtain ⟨k2,e2⟩:=A8b h6;have hf:P.fieldsOf t=fs:=by unfold Program.fieldsOf;rw [hfs]
      refine ⟨h8,?_⟩;rw [run_equalIn_struct w 9999 t _ _ (by rw [hf];exact hfs) h7,hf,hfg];unfold Op.eqFields;rw [if_pos h3];simp only [Sem.run_bind,A0K e1 (show (#[Value.int k a,.int k b])[f.offset]? = some (.int k a) by rw [h1];rfl),A0K e1 (show (#[Value.int k a',.int k b'])[f.offset]? = some (.int k a') by rw [h1];rfl),Result.andThen_ok,run_equalIn_int w 9998 f.type k k1 a a' e1];by_cases ha:a=a'
      . subst ha;simp only [BEq.rfl,Bool.not_true,Bool.false_eq_true,if_false,Bool.true_and];unfold Op.eqFields;rw [if_pos h4];simp only [Sem.run_bind,A0K e2 (show (#[Value.int k a,.int k b])[g.offset]? = some (.int k b) by rw [h2];rfl),A0K e2 (show (#[Value.int k a,.int k b'])[g.offset]? = some (.int k b') by rw [h2];rfl),Result.andThen_ok,run_equalIn_int w 9998 g.type k k2 b b' e2];by_cases hb:b=b'
        . subst hb;simp [Op.eqFields]
        . have:(b==b')=false:=by simp [hb]
          rw [this];simp
      . have:(a==a')=false:=by simp [ha]
        rw [this];simp
    . cases h
  . cases h
section
variable{P:Program}{R:Mem}{l:Env}{d:Option Nat}{ty t t':TypeId}{pos:String}{af:Array Edge}{g:Option (Nat×Bool)}{x y:Operand}{k:IntKind}{a b a' b':Int}
theorem A6V(hx:ev l x=some (.agg #[.int k a,.int k b]))(hy:ev l y=some (.agg #[.int k a',.int k b']))(ht:C5j P t=true) :
    OpQ P R ⟨d,.binOp .neq t x y t',ty,pos,af,g⟩ l (.bool !(a==a'&&b==b')):=λN A w ha hw=>by
  obtain ⟨h1,h2⟩:=C1e ht k a b a' b' w;simp only [execOp,ha.ev hx,ha.ev hy,Sem.run_bind,run_eqGuard_agg w _ _ _ _ _ _ h1,Result.andThen_ok,run_neq_struct];simp only [h2,Result.andThen_ok,Sem.run_pure]
variable{v u:Value}{xs:List Value}{n j sz off m:Nat}{R':Mem}
end
end Go.Px

namespace Go.Proofs.YtglbhoeolghndaaGreatDoor
open Go.Px
def z32:LN:=List.replicate 32 0
def A2d:LN:=[104,101,108,108,111]
theorem B7L:B256 A2d:=⟨by decide⟩
def agS(s:Ps):List (LN×LN)->Ps
  | []=>s
  | x::r=>agS (L0 s x.1 x.2) r
def agK(s:Ps):List (LN×LN)->List (LN)
  | []=>[]
  | x::r=>A08 s x.1 x.2::agK (L0 s x.1 x.2) r
def seS(s:Ps)(l:List (LN)):Ps:=A34 s z32 l A2d 1
def seK(s:Ps)(l:List (LN)):LN:=(A4z s z32 l A2d 1).getD 0 []
theorem C3E:∀(l:List (LN×LN)) (s:Ps),Ext s (agS s l)
  | [],s=>Ext.refl s
  | x::r,s=>(B4a s x.1 x.2).trans (C3E r _)
theorem A84:∀(l:List (LN×LN)) (s:Ps),(agS s l).ts.length<=s.ts.length+3*l.length∧(agS s l).n=s.n
  | [],s=>⟨Av _,E⟩
  | x::r,s=>by have h1:=A84 r (L0 s x.1 x.2);have h2:=T0 s x.1 x.2;have h3:=B4b s x.1 x.2;rw [List.length_cons];show (agS (L0 s x.1 x.2) r).ts.length<=_∧(agS (L0 s x.1 x.2) r).n=_;omega
theorem A85:∀(l:List (LN×LN)) (s:Ps),(agK s l).length=l.length
  | [],s=>rfl
  | x::r,s=>by show (_::agK _ r).length=_;rw [List.length_cons,A85 r,List.length_cons]
theorem C1f(s:Ps)(l:List (LN)):(seS s l).ts.length<=s.ts.length+l.length+2∧(seS s l).n=s.n:=by have h1:=A2X s z32 l A2d 1;have h2:=(A1B s z32 l A2d 1).2.1;unfold seS;omega
abbrev Tri:=LN×LN×LN
def tb(l:List Tri):List (LN×LN):=l.map λq=>(q.1,q.2.1)
structure He where
  ia:LN
  ig:LN
  key:LN
  signed:Nat
  has:Bool
  once:Nat
def stP(ka e:LN)(b:Bn):List (LN×LN):=(ka,b.key)::(e,b.ia)::(e,b.key)::if b.has then [(e,b.oncek)] else []
def stA(ka:LN)(b:Bn)(s:Ps):Ps:=agS (E7 s) (stP ka (F3 s) b)
def stL(ka:LN)(b:Bn)(s:Ps):List (LN):=agK (E7 s) (stP ka (F3 s) b)
def stI(k:Ks)(b:Bn)(s:Ps):Ps:=H7 (idS k (stA k.agree b s)) (F3 s)
def stS(k:Ks)(b:Bn)(s:Ps):Ps:=seS (stI k b s) (stL k.agree b s)
def stK(k:Ks)(b:Bn)(s:Ps):LN:=seK (stI k b s) (stL k.agree b s)
def stH(k:Ks)(b:Bn)(s:Ps):He:=⟨idA k (stA k.agree b s),idG k (stA k.agree b s),I6 (idS k (stA k.agree b s)) (F3 s),b.signed,b.has,if b.has then b.once else 0⟩
theorem C1g(ka e:LN)(b:Bn):(stP ka e b).length<=4:=by unfold stP;split<;>simp
theorem C1h(k:Ks)(b:Bn)(s:Ps):(stA k.agree b s).ts.length<=s.ts.length+13∧(stI k b s).ts.length<=s.ts.length+19∧(stS k b s).ts.length<=s.ts.length+25∧(stS k b s).n=s.n+1∧(stL k.agree b s).length<=4:=by
  have h1:=T8 s;have h2:=A84 (stP k.agree (F3 s) b) (E7 s);have h3:=C1g k.agree (F3 s) b;have h4:=A4U k (stA k.agree b s);have h5:=Y9 (idS k (stA k.agree b s)) (F3 s);have h6:=C1f (stI k b s) (stL k.agree b s);have h7:=A85 (stP k.agree (F3 s) b) (E7 s);have h8:=A3o (idS k (stA k.agree b s)) (F3 s);have h9:(idS k (stA k.agree b s)).n=(stA k.agree b s).n:=by unfold idS;rw [A3o,A3o]
  have e1:(stA k.agree b s).ts.length=(agS (E7 s) (stP k.agree (F3 s) b)).ts.length:=rfl;have e2:(stA k.agree b s).n=(agS (E7 s) (stP k.agree (F3 s) b)).n:=rfl;have e3:(stI k b s).ts.length=(H7 (idS k (stA k.agree b s)) (F3 s)).ts.length:=rfl;have e4:(stI k b s).n=(H7 (idS k (stA k.agree b s)) (F3 s)).n:=rfl;have e5:(stL k.agree b s).length=(agK (E7 s) (stP k.agree (F3 s) b)).length:=rfl;have e6:(stS k b s).ts.length=(seS (stI k b s) (stL k.agree b s)).ts.length:=rfl;have e7:(stS k b s).n=(seS (stI k b s) (stL k.agree b s)).n:=rfl;omega
def anP(ka sx:LN)(ox:Option (LN))(h:He):List (LN×LN):=(sx,h.ia)::(ka,h.key)::(sx,h.key)::match ox with|none=>[]|some o=>[(o,h.key)]
def anE(ka sx:LN)(ox:Option (LN))(h:He)(s:Ps):Option (LN×LN)×Ps:=(some (seK (agS s (anP ka sx ox h)) (agK s (anP ka sx ox h)),sx),seS (agS s (anP ka sx ox h)) (agK s (anP ka sx ox h)))
def anR(k:Ks)(h:He)(s:Ps):Option (LN×LN)×Ps :=
  match A5l k.signed h.signed with
  | none=>(none,s)
  | some sx=>if h.has then match A5l k.once h.once with
      | none=>(none,agS s (anP k.agree sx none h))
      | some o=>anE k.agree sx (some o) h s
    else anE k.agree sx none h s
variable{k:Ks}{h:He}{s:Ps}
theorem C3F(h1:A5l k.signed h.signed=none):anR k h s=(none,s):=by unfold anR;rw [h1]
variable{sx:LN}
theorem C1i(h1:A5l k.signed h.signed=some sx)(h2:h.has=true)(h3:A5l k.once h.once=none):anR k h s=(none,agS s (anP k.agree sx none h)):=by unfold anR;rw [h1];dsimp only;rw [if_pos h2,h3]
theorem B4p{o:LN}(h1:A5l k.signed h.signed=some sx)(h2:h.has=true)(h3:A5l k.once h.once=some o):anR k h s=anE k.agree sx (some o) h s:=by unfold anR;rw [h1];dsimp only;rw [if_pos h2,h3]
theorem A99(h1:A5l k.signed h.signed=some sx)(h2:h.has=false):anR k h s=anE k.agree sx none h s:=by unfold anR;rw [h1];dsimp only;rw [if_neg (by rw [h2];decide)]
theorem A2t{n:Nat}(h:n<18446744073709551616):IntKind.u64.wrap (n:Int)=(n:Int):=A3S qO qO
def u32N(x:Int):Nat:=(x%4294967296).toNat
theorem B4q(x:Int):u32N x<4294967296:=by unfold u32N;omega
theorem A8c(x:Int):IntKind.u32.wrap x=((u32N x:Nat):Int):=by unfold u32N IntKind.wrap;simp [IntKind.signed,IntKind.bits];omega
def u64N(x:Int):Nat:=(x%18446744073709551616).toNat

theorem A8d(x:Int):IntKind.u64.wrap x=((u64N x:Nat):Int):=by unfold u64N IntKind.wrap;simp [IntKind.signed,IntKind.bits];omega
theorem B4r(x:Int):u64N x<18446744073709551616:=by unfold u64N;omega
def wiN(u d:Int)(a g:LN):LN:=beN (u64N u) 4++beN (u64N d) 4++(beN a.length 4++a)++(beN g.length 4++g)
theorem A86(u d:Int)(a g:LN):(wiN u d a g).length=a.length+g.length+16:=by simp [wiN,K2];omega
theorem C3G{l:List (LN)}:(A4z s z32 l A2d 1)=[seK s l]:=by
  have h:=B3W s z32 l A2d 1;unfold seK
  match h2:A4z s z32 l A2d 1,h with
  | [x],_=>rfl
theorem C3H(A:Mem):FnX prog 80 [] [] A λq M J=>M=[]∧By J q z32:=by refine Cl (N:=2) func80 E E E λw_=>?_;refine A8 kn (A1 (as_ (A0 kn (A1 ?_))));refine A2 E (A0N (by_:=1) (k:=.u8) (e:=5) 32 E E kR E E qD qD E λb1=>?_);refine as_ (A0 (D4 0) (A9 ?_));exact ⟨_,[],[(b1,blk (nums .u8 z32) 5)],H8 E E,Ce (by simp [z32]),E,⟨Co (n:=32) qK qR,by decide,by decide⟩⟩
theorem A4W(pb:Nat)(s:Ps)(lv:Value)(l:List (LN))(MP A:Mem)(hP:Prm pb s MP)(hl:LsV A lv l)(hll:l.length<=1000)(hn:s.ts.length<=1040000)(hG:Glb A):FnX prog 50 [(vP pb),lv] MP A λq M J=>Prm pb (seS s l) M∧By J q (seK s l):=by haveI:=hl.cel;refine Cl (N:=16) func50 E E E λw_=>?_;refine A8 (D0 0 1) (A1 (as_ (A0 (D0 0 1) (A1 (mv_ ?_)))));refine C6 a0 kR (C3H _) E ?_;rintro v7 M7 J7 ⟨rfl,h7⟩;haveI:=h7.cel;refine mv_ ?_;refine A2 E (C9 (Mc:=MP) (R:=_) (aS E (aS E (aS E (aS E (aS E a0))))) kR qP (A2q pb s v7 lv z32 A2d l 1 MP _ hP (h7.mono qS) (hl.mono qS) hll B7L qD qD qD hn hG.up) E ?_);rintro v9 M9 J9 ⟨hP9,hL9⟩;haveI:=hL9.cel;rw [C3G] at hL9;obtain ⟨us,hru,hul⟩:=hL9.ex;change Rd J9 1 v9 1 us at hru;obtain ⟨u,hu,hub⟩:=hul.at (show 0 < [seK s l].length from Nat.zero_lt_one);haveI:=hub.cel;change By J9 u (seK s l) at hub;change Prm pb (seS s l) M9 at hP9;refine as_ (A0 (D4 5) (A3 (A1 (mv_ ?_))));refine lQ_ (G2 (sz:=1) E kR hru) ?_;refine lQ_ (F5 false E E (eqF qD)) ?_;refine A0 (D0 5 12) ?_;refine C7 E ?_;refine A6 (nx (D4 5) (A1 (mv_ ?_)));refine lQ_ (H2 (sz:=1) (a:=0) E E kR E hru qD) ?_;refine lQ_ (Z4 (u:=u) (hru.mono qS) E kR hu) (as_ (A0 (D4 4) (A9 ?_)));exact ⟨_,M9,[],H8 E E,Cg (Cf qP),hP9,hub.mono qS⟩
def wiP(u d:Int)(a g:LN)(u' d':Int)(a' g':LN):Nat->LN
  | 0=>[]
  | 1=>wiN u d a g
  | _=>wiN u d a g++wiN u' d' a' g'
def B4s(u d:Int)(a g:LN)(u' d':Int)(a' g':LN):LN:=wiN u d a g++wiN u' d' a' g'
theorem B9a(fu fd tu td:Int)(va vg vb vh:Value)(a g b h:LN)(A:Mem)(ga:By A va a)(gg:By A vg g)(gb:By A vb b)(gh:By A vh h)(hl:a.length+g.length+b.length+h.length<=1000000):FnX prog 22 [.agg #[.int .i64 fu,.int .i64 fd],.agg #[va,vg],.agg #[.int .i64 tu,.int .i64 td],.agg #[vb,vh]] [] A λq M J=>M=[]∧By J q (B4s fu fd a g tu td b h):=by
 haveI:=ga.cel;haveI:=gg.cel;haveI:=gb.cel;haveI:=gh.cel;refine Cl (N:=48) func22 E E E λw_=>?_;refine A8 (D7 0 1 2 3) (A1 ?_);refine A2 E (bx_ λb4=>?_);refine A2 E (bx_ λb5=>?_);refine A2 E (bx_ λb6=>?_);refine A2 E (bx_ λb7=>?_);refine as_ (A0 (D7 4 5 6 7) (A1 ?_));refine lQ_ (F0 (place:=λx=>#[(0,1)][x]?) (z:=[vS]) (λ_=>by kernel_rfl) e0 bd0) ?_;refine A2 E (bx_ λb13=>?_);refine as_ (A0 (F2 4 5 6 7 9) (A3 (A1 ?_)));refine lQ_ (qw_ 2) ?_;refine lQ_ (qw_ 2) ?_;refine lQ_ (F0 (place:=λx=>#[(0,2),(2,2)][x]?) (z:=[P0,P0,vS,vS]) (λ_=>by kernel_rfl) (eS E (eS E e0)) (bdS 0 2 E qR (bdS 2 2 E qR bd0))) ?_;refine lQ_ (qw_ 2) ?_;refine lQ_ (qw_ 2) ?_;refine lQ_ (F0 (place:=λx=>#[(0,2),(2,2)][x]?) (z:=[P0,P0,vS,vS]) (λ_=>by kernel_rfl) (eS E (eS E e0)) (bdS 0 2 E qR (bdS 2 2 E qR bd0))) ?_;refine A2 E (C4 (e:=127) (sz:=4) (z:=[P0,P0,vS,vS,P0,P0,vS,vS]) kR (eS E (eS E e0)) (bdS 0 4 E qR (bdS 4 4 E qR bd0)) E λb20=>?_);refine lQ_ (A1c (e:=127) E kR) (mv_ (A0 (D7 9 20 21 22) (A7 ?_)));refine A0a (B:=[(b20,blk [.int .i64 fu,.int .i64 fd,va,vg,.int .i64 tu,.int .i64 td,vb,vh] 127)]) qP ?_;refine E5 (α:=Nat×Mem) (λy=>[(9,(vP b13)),(20,.slice (some ⟨b20,0,none⟩) 2 2),(21,.int .i64 2),(22,(vI y.1))]) (λy=>y.2) (λ_=>[(b20,blk [.int .i64 fu,.int .i64 fd,va,vg,.int .i64 tu,.int .i64 td,vb,vh] 127)]) (λy=>y.1<=2∧Wtr b13 (wiP fu fd a g tu td b h y.1) y.2) (λy=>2-y.1) (0,[(b13,blk [vS] 126)]) ⟨Am _,Wtr.new⟩ (D7 9 20 21 22) (Cf qP) qS ?_;rintro ⟨i,MW⟩ ⟨hi,hW⟩;dsimp only at hi hW ⊢
 have hwl:(wiP fu fd a g tu td b h i).length<=2000100:=by rcases (by omega:i=0∨i=1∨i=2) with rfl|rfl|rfl<;>simp [wiP,A86]<;>omega
 refine A1 (lQ_ (E8 E E E) (A0 (F2 9 20 21 22 23) (A3 ?_)));refine C3 E ?_ ?_<;>intro hc
 .
  have hlt:i<2:=by simp at hc;omega
  obtain ⟨u,d,x,z,vx,vz,hr1,hx,hz,hlx,hP⟩:∃u d x z vx vz,([[.int .i64 fu,.int .i64 fd,va,vg],[.int .i64 tu,.int .i64 td,vb,vh]]:List (List Value))[i]? = some [.int .i64 u,.int .i64 d,vx,vz]∧By A vx x∧By A vz z∧x.length+z.length<=1000000∧wiP fu fd a g tu td b h (i+1)=wiP fu fd a g tu td b h i++wiN u d x z:=by
   rcases (by omega:i=0∨i=1) with rfl|rfl
   . exact ⟨fu,fd,a,g,va,vg,E,ga,gg,by omega,E⟩
   . exact ⟨tu,td,b,h,vb,vh,E,gb,gh,by omega,E⟩
  haveI:=hx.cel;haveI:=hz.cel;have hu64:=B4r u;have hd64:=B4r d;refine A6 (nx (D7 9 20 21 22) (A3 (A7 (A1 ?_))));refine lQ_ (H2 (sz:=4) E E kR E (Co (n:=2) (R:=[(b20,blk [.int .i64 fu,.int .i64 fd,va,vg,.int .i64 tu,.int .i64 td,vb,vh] 127)]) qK qR) hlt) ?_;refine lQ_ (A1t (rows:=[[.int .i64 fu,.int .i64 fd,va,vg],[.int .i64 tu,.int .i64 td,vb,vh]]) E kR (Co (n:=2) Cc qR) (by intro r hr;simp at hr;rcases hr with rfl|rfl<;>rfl) qD hr1) ?_;refine A2 E (C2 (cs:=[P0,P0,vS,vS]) kR E λb11=>?_);refine A2 E (A5 (vs:=[.int .i64 u,.int .i64 d,vx,vz]) E E E kR qR (A4 E (A4 E (A4 hx.one (A4 hz.one I5)))) Cs ?_);refine A0 (F2 9 11 20 21 22) ?_;refine Y5 (MW) (_) true (.range 19) [(0,0),(1,0),(2,0),(3,1),(4,0),(6,0),(7,0),(8,1),(9,0),(11,0),(12,0),(13,1),(15,0),(16,0),(17,1),(5,2),(10,2),(14,2),(18,2)] kR kR qP λhs K n0 hKm hKs hKn=>?_;refine kM_ E E (kQ_ E (qf_ 0 0) (kQ_ E (qf_ 0 0) ?_));refine I8 hs E hKs ql_ ?_;refine kQ_ E (Z3 (k':=.u64) ((u64N u:Nat):Int) E kR (A8d u)) (kQ_ E (qf_ 0 0) (kQ_ E (qf_ 1 1) ?_));refine I8 hs E hKs ql_ ?_;refine kQ_ E (Z3 (k':=.u64) ((u64N d:Nat):Int) E kR (A8d d)) (kQ_ E (qf_ 2 2) (kQ_ E (qf_ 2 0) ?_));refine I8 hs E hKs ql_ ?_;refine kQ_ E (qf_ 2 2) (kQ_ E (qf_ 3 1) ?_);refine I8 hs E hKs ql_ ?_
  refine H0 _ _ E E (Ah _) hKm λw0=>(C9 (Mc:=MW) (R:=_) (aS E (aS E (aS E (a0)))) kR qP (Q3 b13 (u64N u) 4 _ _ _ hW hu64 qD qO) E ?_)
  rintro v31 M31 J31 ⟨rfl,hW31⟩ hKx31
  refine H0 M31 _ E E qP (λx hx=>hKx31 (hKn E) x (by simpa using hx)) λw0=>(C9 (Mc:=M31) (R:=_) (aS E (aS E (aS E (a0)))) kR qP (Q3 b13 (u64N d) 4 _ _ _ hW31 hd64 qD (by first|(simp [K2];done)|(simp [K2];omega))) E ?_)
  rintro v36 M36 J36 ⟨rfl,hW36⟩ hKx36
  refine H0 M36 _ E E qP (λx hx=>hKx36 (hKn E) x (by simpa using hx)) λw0=>(C9 (Mc:=M36) (R:=_) (aS E (aS E (a0))) kR qP (N0 b13 vx x _ _ _ hW36 (hx.mono qS) (by first|(simp [K2];done)|(simp [K2];omega))) E ?_)
  rintro v40 M40 J40 ⟨rfl,hW40⟩ hKx40
  refine H0 M40 _ E E qP (λx hx=>hKx40 (hKn E) x (by simpa using hx)) λw0=>(C9 (Mc:=M40) (R:=_) (aS E (aS E (a0))) kR qP (N0 b13 vz z _ _ _ hW40 (hz.mono qS) (by first|(simp [K2];done)|(simp [K2];omega))) E ?_)
  rintro v44 M44 J44 ⟨rfl,hW44⟩ hKx44;refine A3z (nb (nx (D7 9 20 21 22) (C1 ?_)));refine lQ_ (D5 ((i+1:Nat):Int) E E (F7 qO qO qO)) ?_;refine mv_ (C5 ?_);exact rn (i+1,M44) ⟨hlt,hW44.eq (by dsimp only;rw [hP];simp [wiN,List.append_assoc])⟩ (by dsimp only;omega) (D7 9 20 21 22) (Cf qP) qS
 .
  have hge:i=2:=by simp at hc;omega
  subst hge;refine D8 (te (re (be E (nx (D4 9) (A1 (mv_ ?_))))));refine A2 E (C9 (Mc:=MW) (R:=_) (aS E a0) kR qP (A0l b13 _ _ _ hW qO) E ?_);rintro v47 M47 J47 ⟨hW47,h47⟩;haveI:=h47.cel;refine as_ (A0 (D4 8) (A9 ?_));exact ⟨_,[],[],H8 E E,qZ,E,h47.mono qS⟩
theorem B4t(pb:Nat)(s:Ps)(b:Bn)(va vg vk vs vo:Value)(MP A:Mem)(hP:Prm pb s MP)(hsub:∀x,x∈MP->x∈A)(har:Ar s.ts)(hn:s.ts.length<=1048576)(ga:By A va b.ia)(gg:By A vg b.ig)(gk:By A vk b.key)(gs:By A vs b.sig)(go:By A vo b.oncek)(hsn:b.signed<4294967296)(hG:Glb A):FnV prog 47 [(vP pb),.agg #[.int .i64 b.user,.int .i64 b.dev,va,vg,(vU b.signed),vk,vs,.bool b.has,(vU b.once),vo]] A (.bool (decide (b.key.length=32)&&B84 s b.ig (A94 b.signed b.key) b.sig)):=by
 haveI:=ga.cel;haveI:=gg.cel;haveI:=gk.cel;haveI:=gs.cel;haveI:=go.cel;have hgl:=gk.len;refine Ck (N:=23) func47 E E E λw=>?_;refine A8 (D0 0 1) (A1 ?_);refine A2 E (bx_ λb3=>?_);refine as_ (A0 (D0 0 3) ?_);refine C8 (.range 19) [(0,0),(1,1),(2,0),(3,0),(4,0),(5,0),(6,0),(7,0),(8,1),(9,0),(10,1),(11,0),(12,1),(14,0),(15,1),(13,2),(16,2),(17,0),(18,0)] kR kR λhs=>?_;refine fQ_ E (qf_ 5 5) ?_;refine fR_ E ql_ ?_;refine fQ_ E (G2 (sz:=1) E kR gk.rd) ?_;refine fQ_ E (F5 (decide (b.key.length=32)) E E (C4A _ 32)) (fm_ ?_);refine X9 (t:=9) E (λhb=>?_) (λhb=>?_)
 . have hk32:b.key.length=32:=of_decide_eq_true hb;refine fG_ E qm_ (fG_ E (qf_ 2 2) (fG_ E (qf_ 3 1) ?_));refine fH_ E ql_ ?_;refine fG_ E (qf_ 4 4) ?_;refine fH_ E ql_ ?_;refine fG_ E (qf_ 5 5) ?_;refine fH_ E ql_ ?_;refine fG_ E (qf_ 6 6) ?_;refine fH_ E ql_ ?_;refine A2J E E E E (aS E (aS E a0)) kR (A79 b.signed vk b.key _ hsn (gk.mono qS) qO) E ?_;rintro v18 M18 J18 ⟨rfl,h18⟩;haveI:=h18.cel;refine A2K E E E E (aS E (aS E (aS E (aS E a0)))) kR (B7v pb s vg v18 vs b.ig (A94 b.signed b.key) b.sig MP _ hP (λx hx=>qS _ (hsub x hx)) har hn (gg.mono qS) (h18.mono qS) (gs.mono qS) hG.up) E ?_;refine fQ_ E (G4 E E) (fA_ E E (E0 (D4 4) (A9 ?_)));exact ⟨_,[],[],H8 E E,Aa _,by simp,by rw [hb,Bool.true_and],E,E⟩
 . refine K9 hs ?_;refine K9 hs ?_;refine K9 hs ?_;refine W1 hs ?_;refine K9 hs ?_;refine W1 hs ?_;refine K9 hs ?_;refine W1 hs ?_;refine K9 hs ?_;refine W1 hs ?_;refine A7s hs E E E E E E ?_;refine A7s hs E E E E E E ?_;refine fQ_ E (E3 E E) (fA_ E E (E0 (D4 4) (A9 ?_)));exact ⟨_,[],[],H8 E E,Aa _,by simp,by rw [hb,Bool.false_and],E,E⟩

variable{P:Program}{fn:Func}{v z:Value}
theorem B4u{l:Env}{R:Mem}{t u x b n:Nat}{ty:TypeId}{cs:List Value}{e:TypeId}{fr:Nat×Nat}(h:fn.results=#[.tmp u,.cell t ty,.tmp x])(hv:lk l t=some (vP b))(hu:lk l u=some v)(hx:lk l x=some z)(ht:A51 P ty=some n)
    (hb:(b,Obj.cells cs.toArray e fr)∈R) (hn:cs.length=n):Res P fn l R (.tuple #[v,.agg cs.toArray,z]):=λN a w ha hw=>by
  obtain ⟨dsc,h1,h2,h3⟩:=Q8 ht;have hl:=run_loadVar_row (P:=P) w b e ty cs.toArray fr dsc (hw b _ hb) h1 (by cases dsc<;>simp_all [TypeDesc.isRow]) (by rw [h3,<- hn];simp);simp [results,h,ha.slot t _ hv,ha.slot u _ hu,ha.slot x _ hx,asAddr,hl]
theorem C5k{l:Env}{R:Mem}{t u x:Nat}{y:Value}(h:fn.results=#[.tmp t,.tmp u,.tmp x])(hv:lk l t=some v)(hu:lk l u=some z)(hx:lk l x=some y):Res P fn l R (.tuple #[v,z,y]):=λN a w ha hw=>by simp [results,h,ha.slot t _ hv,ha.slot u _ hu,ha.slot x _ hx]
def ckB(s:Ps)(b:Bn):Bool:=decide (b.key.length=32)&&B84 s b.ig (A94 b.signed b.key) b.sig
def heC(va vg vk:Value)(h:He):List Value:=[va,vg,vk,(vU h.signed),.bool h.has,(vU h.once)]
structure HeR(R:Mem)(h:He)(va vg vk:Value):Prop where
  ia:By R va h.ia
  ig:Byi R vg h.ig
  key:By R vk h.key
  signed:h.signed<4294967296
  once:h.once<4294967296
theorem HeR.mono{R R':Mem}{h:He}{va vg vk:Value}(g:HeR R h va vg vk)(hR:∀x,x∈R->x∈R'):HeR R' h va vg vk:=⟨g.ia.mono hR,g.ig.mono hR,g.key.mono hR,g.signed,g.once⟩
theorem C1j(pb:Nat)(s:Ps)(kb:Nat)(k:Ks)(va vg vq vo vm:Value)(rs ro rm:List (List Value))(b:Bn)(wa wg wk ws wo:Value)(MP A:Mem)(hK:KyR A kb k va vg vq vo vm rs ro rm)(hP:Prm pb s MP)(har:Ar s.ts)(hn:s.ts.length+1000<=1040000)(hk:s.n<1000000000)(ga:By A wa b.ia)(gg:By A wg b.ig)(gk:By A wk b.key)(gs:By A ws b.sig)(go:By A wo b.oncek)(hsn:b.signed<4294967296)(hon:b.once<4294967296)(hG:Glb A):FnX prog 21 [(vP pb),(vP kb),.agg #[.int .i64 b.user,.int .i64 b.dev,wa,wg,(vU b.signed),wk,ws,.bool b.has,(vU b.once),wo]] MP A λq M J=>(ckB s b=true->∃v p r u,q=.tuple #[v,.agg (heC p r u (stH k b s)).toArray,P0]∧Prm pb (stS k b s) M∧By J v (stK k b s)∧HeR (J++A) (stH k b s) p r u)∧(ckB s b=false->q=.tuple #[vS,.agg #[vS,vS,vS,D3,.bool false,D3],.int .i64 10]∧Prm pb s M):=by
 haveI:=ga.cel;haveI:=gg.cel;haveI:=gk.cel;haveI:=gs.cel;haveI:=go.cel;have f1:=T8 s;have f2:=T0 (E7 s) k.agree b.key;have f3:=T0 (L0 (E7 s) k.agree b.key) (F3 s) b.ia;have f4:=T0 (L0 (L0 (E7 s) k.agree b.key) (F3 s) b.ia) (F3 s) b.key;have f5:=T0 (L0 (L0 (L0 (E7 s) k.agree b.key) (F3 s) b.ia) (F3 s) b.key) (F3 s) b.oncek;refine Cl (N:=74) func21 E E E λw_=>?_;refine A8 (D6 0 1 2) (A1 ?_);refine A2 E (bx_ λb5=>?_);refine as_ ?_;refine A2 E (C2 (cs:=[vS,vS,vS,D3,.bool false,D3]) kR E λb7=>?_);refine aS_ E (A0 (D7 0 1 5 7) (A3 (A1 (mV_ E (lQ_ (F6 (e:=79) E E kR) (mv_ ?_))))));refine F4 E E (Cn qm_ E ?_);refine F4 E E (Cn (F6 (e:=74) E E kR) E ?_);refine lQ_ (E3 E E) (A0 (F2 0 1 5 7 17) ?_);refine C7 E ?_;refine A6 (nx (D7 0 1 5 7) (A3 (A1 (mv_ ?_))));refine lQ_ (qw_ 10) ?_;refine E6 (aS E (aS E a0)) kR (B4t pb s b wa wg wk ws wo MP _ hP (by intro z hz;simp [hz]) har qO (ga.mono qS) (gg.mono qS) (gk.mono qS) (gs.mono qS) (go.mono qS) hsn hG.up) E ?_;change XL _ _ _ _ ((21,.bool (ckB s b))::_) _ _;refine lQ_ (U2 E) (A0 (F2 0 1 5 7 22) ?_);refine C3 E ?_ ?_<;>intro hc
 .
  have hck:ckB s b=false:=by simpa using hc
  refine A1 ?_;refine lQ_ (F0 (place:=λx=>#[(0,2),(2,1),(3,1),(4,1),(5,1)][x]?) (z:=[vS,vS,vS,D3,.bool false,D3]) (λ_=>by kernel_rfl) e0 bd0) ?_;refine as_ ?_;refine A2 E (A5 E E Cd kR ln6 al6 Cs ?_);refine as_ (A0 (D6 6 7 8) (A9 (tr ?_)));exact ⟨_,MP,[],B4u (n:=6) E E E E kR Cc qR,Cg (Cf qP),(λh=>by rw [hck] at h;cases h),λ_=>⟨rfl,hP⟩⟩
 .
  have hck:ckB s b=true:=by simpa using hc
  refine A6 (nx (D7 0 1 5 7) (A1 (mv_ ?_)));refine A2 E (C9 (Mc:=MP) (R:=_) (aS E (a0)) kR qP (X3 pb s MP _ hP qO qO hG.up) E ?_);rintro v25 M25 J25 ⟨hP25,h25⟩;haveI:=h25.cel;refine as_ (A0 (F2 0 1 5 7 9) ?_);refine F8 (M25) (_) true (.range 19) [(0,0),(1,0),(3,0),(4,1),(6,0),(7,0),(8,0),(9,0),(10,1),(12,0),(13,0),(14,0),(15,1),(2,2),(5,2),(11,2),(16,2),(17,2),(18,0)] kR kR qP λhs K n0 hKm hKs hKn=>?_;refine kM_ E E (kM_ E E (kQ_ E (qf_ 5 5) ?_));refine I8 hs E hKs ql_ ?_;refine kM_ E E (kM_ E E (kQ_ E (qf_ 2 2) (kQ_ E (qf_ 2 0) ?_)));refine I8 hs E hKs ql_ ?_;refine kM_ E E (kM_ E E (kQ_ E (qf_ 5 5) ?_));refine I8 hs E hKs ql_ ?_
  refine H0 [] _ rfl rfl (Ah _) (λ_ h=>by cases h) λw0=>(E2 (aS rfl a0) kR (A95 kb k va vg vq vo vm rs ro rm _ (hK.mono qS)) rfl ?_)
  rintro v28 M28 J28 ⟨rfl,h28⟩ _;haveI:=h28.cel;dsimp only [Ct,List.append_eq]
  refine H0 _ _ E E (Ah _) hKm λw0=>(C9 (Mc:=M25) (R:=_) (aS E (aS E (aS E (a0)))) kR qP (A09 pb (E7 s) v28 wk k.agree b.key M25 _ hP25 qO (h28.mono qS) (gk.mono qS) hG.up) E ?_)
  rintro v31 M31 J31 ⟨hP31,h31⟩ hKx31;haveI:=h31.cel
  refine H0 M31 _ E E qP (λx hx=>hKx31 (hKn E) x (by simpa using hx)) λw0=>(C9 (Mc:=M31) (R:=_) (aS E (aS E (aS E (a0)))) kR qP (A09 pb ((L0 (E7 s) k.agree b.key)) v25 wa (F3 s) b.ia M31 _ hP31 qO (h25.mono qS) (ga.mono qS) hG.up) E ?_)
  rintro v37 M37 J37 ⟨hP37,h37⟩ hKx37;haveI:=h37.cel
  refine H0 M37 _ E E qP (λx hx=>hKx37 (hKn E) x (by simpa using hx)) λw0=>(C9 (Mc:=M37) (R:=_) (aS E (aS E (aS E (a0)))) kR qP (A09 pb ((L0 (L0 (E7 s) k.agree b.key) (F3 s) b.ia)) v25 wk (F3 s) b.key M37 _ hP37 qO (h25.mono qS) (gk.mono qS) hG.up) E ?_)
  rintro v42 M42 J42 ⟨hP42,h42⟩ hKx42;haveI:=h42.cel
  refine H0 [] _ rfl rfl (Ah _) (λ_ h=>by cases h) λw0=>(C4 (e:=22) (sz:=1) (z:=[vS,vS,vS]) kR (eS rfl (eS rfl (eS rfl e0))) (bdS 0 1 rfl qR (bdS 1 1 rfl qR (bdS 2 1 rfl qR bd0))) rfl λb43=>λhk43=>?_)
  dsimp only [Cu,Ct,List.append_eq];refine kQ_ E (G3 E) (I1 (G7 0 1 5 7 9 10) ?_);refine P3 (α:=Value×Mem×Mem) (λy=>[(0,(vP pb)),(1,(vP kb)),(5,(vP b5)),(7,(vP b7)),(9,v25),(10,y.1)]) (λy=>y.2.1++[(b5,blk [.int .i64 b.user,.int .i64 b.dev,wa,wg,(vU b.signed),wk,ws,.bool b.has,(vU b.once),wo] 65),(b7,blk [vS,vS,vS,D3,.bool false,D3] 32)]) (λy=>y.2.2) (λy=>Prm pb (stA k.agree b s) y.2.1∧LsV (y.2.2++A) y.1 (stL k.agree b s)∧By (y.2.2++A) v25 (F3 s)) ?_ ?_
  .
   refine A0a (B:=[(b43,blk [v31,v37,v42] 22)]) qP ?_;refine A1 (lQ_ (qf_ 7 7) ?_);refine lQ_ ql_ ?_;refine A0 (N9 0 1 5 7 9 10 45) ?_;refine C3 E ?_ ?_<;>intro hc
   . refine C1 (mV_ E (mV_ E (mV_ E (lQ_ (qf_ 9 9) ?_))));refine lQ_ ql_ ?_;refine A2 E (C9 (Mc:=M42) (R:=_) (aS E (aS E (aS E (a0)))) kR qP (A09 pb (L0 (L0 (L0 (E7 s) k.agree b.key) (F3 s) b.ia) (F3 s) b.key) v25 wo (F3 s) b.oncek M42 _ hP42 qO (h25.mono qS) (go.mono qS) hG.up) E ?_);rintro v51 M51 J51 ⟨hP51,h51⟩;haveI:=h51.cel;refine A2 E (C4 (e:=22) (sz:=1) (z:=[vS]) kR (eS E e0) (bdS 0 1 E qR bd0) E λb52=>?_);refine A2 E (A2U (e:=22) (sz:=1) (by_:=24) (xs:=[v31,v37,v42]) E E kR E (Co (n:=3) Cc qR) (Co (n:=1) Cc qR) qD qD qD E λv53 B53 hs53=>?_);haveI:=hs53.cel;refine A4w (B:=B53) qP ?_;refine as_ (C5 ?_);exact jn (v53,M51,_) ⟨by dsimp only;unfold stA stP;rw [hc];exact hP51,by dsimp only;unfold stL stP;rw [hc];exact ⟨[v31,v37,v42]++[v51],hs53.rd qS,Lst.cons (h31.mono qS) (Lst.cons (h37.mono qS) (Lst.cons (h42.mono qS) (Lst.cons (h51.mono qS) Lst.nil)))⟩,h25.mono qS⟩ (G7 0 1 5 7 9 10) (Ch qP (Cf qP)) qI
   . refine A6 ?_;exact jn (.slice (some ⟨b43,0,none⟩) 3 3,M42,_) ⟨by dsimp only;unfold stA stP;rw [hc];exact hP42,by dsimp only;unfold stL stP;rw [hc];exact ⟨[v31,v37,v42],Co (n:=3) Cc qR,Lst.cons (h31.mono qS) (Lst.cons (h37.mono qS) (Lst.cons (h42.mono qS) Lst.nil))⟩,h25.mono qS⟩ (G7 0 1 5 7 9 10) (Ch qP (Cf qP)) qI
  .
   rintro ⟨lv,MJ,J9⟩ ⟨hPJ,hLJ,he25⟩;dsimp only at hPJ hLJ he25 ⊢;haveI:=hLJ.cel;obtain ⟨hzA,hzI,hzS,hzn,hzL⟩:=C1h k b s;have hI:stI k b s=H7 (idS k (stA k.agree b s)) (F3 s):=rfl;have hH:stH k b s=⟨idA k (stA k.agree b s),idG k (stA k.agree b s),I6 (idS k (stA k.agree b s)) (F3 s),b.signed,b.has,if b.has then b.once else 0⟩:=rfl;rw [hH];have hzi:=A4U k (stA k.agree b s);rw [hI] at hzI;generalize F3 s=e at *
   obtain ⟨sA,hsA⟩:∃z,stA k.agree b s=z:=⟨_,E⟩
   rw [hsA] at hPJ hzA hI hzi hzI ⊢;refine F8 (MJ) (_) true (.range 12) [(0,0),(1,0),(3,0),(4,0),(6,0),(7,1),(8,0),(9,1),(2,3),(5,3),(10,3),(11,4),(12,2)] kR kR qP λhs K n0 hKm hKs hKn=>?_;refine kM_ E E (kM_ E E (kM_ E E (kM_ E E (kQ_ E (qf_ 4 4) ?_))));refine I8 hs E hKs ql_ ?_;refine kQ_ E (qf_ 7 7) ?_;refine I8 hs E hKs ql_ ?_
   refine A0Z [⟨2,56,none,MJ,λv B R=>Prm pb (idS k sA) B∧∃p q,v=.agg #[p,q]∧By R p (idA k sA)∧By R q (idG k sA)⟩,⟨5,59,some 2,[],λv B R=>Prm pb (H7 (idS k sA) e) B∧By R v (I6 (idS k sA) e)⟩,⟨10,64,none,[],λv B R=>B=[]∧∃p r u,v=.agg #[p,r,u,(vU b.signed),.bool b.has,(vU 0)]∧By R p (idA k sA)∧By R r (idG k sA)∧By R u (I6 (idS k sA) e)⟩,⟨11,11,none,[],λv B _=>∃b,v=(vP b)∧B=[(b,blk [vS,vS,vS,D3,.bool false,D3] 32)]⟩] ([(b5,blk [.int .i64 b.user,.int .i64 b.dev,wa,wg,(vU b.signed),wk,ws,.bool b.has,(vU b.once),wo] 65),(b7,blk [vS,vS,vS,D3,.bool false,D3] 32)]) (λbs=>[bs 5,bs 10,bs 11]) (hKn E) (by simp [U1,A0D]) (show ∀m∈([MJ,[],[]]:List Mem),∀x∈m,K x.1 from A4 (hKm) (A4 gn0 (A4 gn0 (I5)))) kR (λ_=>by first|rfl|kernel_rfl)
    (A4 (λ_ _ _ _ h ⟨p1,p,q,e,p2,p3⟩=>⟨p1,p,q,e,p2.mono h,p3.mono h⟩) (A4 (λ_ _ _ _ h ⟨p1,p2⟩=>⟨p1,p2.mono h⟩) (A4 (λ_ _ _ _ h ⟨p1,p,q,u,e,p2,p3,p4⟩=>⟨p1,p,q,u,e,p2.mono h,p3.mono h,p4.mono h⟩) (A4 gM (I5))))) nd_ nd_ dl_
    (gC ?_ (gC ?_ (gC ?_ (gC ?_ (I5))))) ?_
   . intro _ _ R _ _ hb _ _ _;dsimp only [Gc.inp];refine C9 (Mc:=MJ) (R:=[]) (aS E (aS E (a0))) kR qM (A6U pb sA kb k va vg vq vo vm rs ro rm MJ _ (hK.mono (λx hx=>by have:=hb x (by simp [hx]);simp [this])) hPJ qO (hG.sub (λx hx=>by have:=hb x (by simp [hx]);simp [this]))) E ?_;rintro v25 M25 J25 ⟨hP25,p,q,rfl,hp,hq⟩;exact ⟨_,E,by simpa using hP25,p,q,E,hp.mono λx hx=>by simp [hx],hq.mono λx hx=>by simp [hx]⟩
   . intro vs bs R _ _ hb _ _ ha;dsimp only [Gc.inp];have g2:=gx 0 ha;dsimp only at g2;obtain ⟨hP25,-⟩:=g2;refine C9 (Mc:=bs 2) (R:=[]) (aS E (aS E (a0))) kR qM (A1V pb (idS k sA) v25 e (bs 2) _ hP25 qO (he25.mono (λx hx=>by have:=hb x (by simp [hx]);simp [this])) (hG.sub (λx hx=>by have:=hb x (by simp [hx]);simp [this]))) E ?_;rintro v31 M31 J31 ⟨hP31,h31⟩;exact ⟨_,E,by simpa using hP31,h31.mono λx hx=>by simp [hx]⟩
   . intro _ _ _ _ _ _ _ _ ha;dsimp only [Gc.inp];have g2:=gx 0 ha;dsimp only at g2;have g5:=gx 1 ha;dsimp only at g5;obtain ⟨-,h31⟩:=g5;obtain ⟨-,p,q,e25,hp,hq⟩:=g2;haveI:=h31.cel;haveI:=hp.cel;haveI:=hq.cel;dsimp only [P7,List.map,Cu,Ct];rw [e25];exact Cn (F0 (place:=λx=>#[(0,2),(2,1),(3,1),(4,1),(5,1)][x]?) (z:=[vS,vS,vS,D3,.bool false,D3]) (λ_=>by kernel_rfl) (eS E (eS E (eS E (eS E e0)))) (bdS 0 2 E qR (bdS 2 1 E qR (bdS 3 1 E qR (bdS 4 1 E qR bd0))))) E ⟨_,E,E,p,q,_,E,hp,hq,h31⟩
   .
    intros
    dsimp only [Gc.inp]
    exact C2 (cs:=[vS,vS,vS,D3,.bool false,D3]) kR E λb=>⟨_,E,b,E,E⟩
   intro vs bs Jn0 hφ hKK;clear hKK;have g2:=gy 0 hφ;have g5:=gy 1 hφ;have g10:=gy 2 hφ;have g11:=gy 3 hφ;dsimp only at g2 g5 g10 g11;clear hφ;dsimp only [P7,U1,List.foldr,List.map,Cu,Ct];generalize bs 2=B56,bs 5=B59,bs 10=B64,bs 11=B11,vs 2=u56,vs 5=u59,vs 10=u64,vs 11=u11 at *;obtain ⟨hP59,-⟩:=g5;clear g2;obtain ⟨b11,rfl,rfl⟩:=g11;obtain ⟨rfl,p,r,u,rfl,hp,hr,hu⟩:=g10;haveI:=hp.cel;haveI:=hr.cel;haveI:=hu.cel;refine K1 E E E (A5 (vs:=[p,r,u,(vU b.signed),.bool b.has,(vU 0)]) E E E kR qR (A4 hp.one (A4 hr.one (A4 hu.one al3))) Cs ?_);refine I1 (F2 0 5 7 10 11) (A3 ?_);cases hh:b.has
   .
    refine A1 (lQ_ (qf_ 7 7) ?_);refine lQ_ ql_ ?_;refine A0 (G7 0 5 7 10 11 66) ?_;refine C7 E ?_;refine A6 (nx (D7 0 7 10 11) ?_);refine F8 (B59) (_) true [0,1,2,3,4,6] [(0,0),(1,0),(3,1),(2,2),(4,0),(5,2),(6,0)] kR kR qP λhs K n0 hKm hKs hKn=>?_;refine kM_ E E (km_ ?_);refine I8 hs E hKs (qw_ 6) ?_
    refine H0 _ _ E E (Ah _) hKm λw0=>(C9 (Mc:=B59) (R:=_) (aS E (aS E (a0))) kR qP (A4W pb (stI k b s) lv (stL k.agree b s) B59 _ (hI▸hP59) (hLJ.mono qS) qO (by rw [hI];omega) hG.up) E ?_)
    rintro v72 M72 J72 ⟨hP72,h72⟩ hKx72;haveI:=h72.cel;refine kQ_ E (G3 E) ?_;refine K1 E E E (A5 (vs:=[p,r,u,(vU b.signed),.bool false,(vU 0)]) E E E kR qR (A4 hp.one (A4 hr.one (A4 hu.one al3))) Cs ?_);refine kQ_ E (G3 E) (I1 (D6 6 7 8) (A9 ?_));refine ⟨_,M72,[],B4u (n:=6) E E E E kR Cc qR,Cg (Cf qP),(λ_=>⟨_,p,r,u,E,hP72,h72.mono qS,hp.mono qS,(hr.mono qS).i,hu.mono qS,hsn,(by decide:0<4294967296)⟩),λh=>by rw [hck] at h;cases h⟩
   .
    refine A1 (lQ_ (qf_ 7 7) ?_);refine lQ_ ql_ ?_;refine A0 (G7 0 5 7 10 11 66) ?_;refine D9 E ?_;refine C1 (lQ_ (qf_ 8 8) ?_);refine lQ_ ql_ ?_;refine lQ_ (qf_ 5 5) ?_;refine A2 E (E4 E E E kR Cq Cs ?_);refine A0 (D7 0 7 10 11) ?_;refine F8 (B59) (_) true [0,1,2,3,4,6] [(0,0),(1,0),(3,1),(2,2),(4,0),(5,2),(6,0)] kR kR qP λhs K n0 hKm hKs hKn=>?_;refine kM_ E E (km_ ?_);refine I8 hs E hKs (qw_ 6) ?_
    refine H0 _ _ E E (Ah _) hKm λw0=>(C9 (Mc:=B59) (R:=_) (aS E (aS E (a0))) kR qP (A4W pb (stI k b s) lv (stL k.agree b s) B59 _ (hI▸hP59) (hLJ.mono qS) qO (by rw [hI];omega) hG.up) E ?_)
    rintro v72 M72 J72 ⟨hP72,h72⟩ hKx72;haveI:=h72.cel;refine kQ_ E (G3 E) ?_;refine K1 E E E (A5 (vs:=[p,r,u,(vU b.signed),.bool true,(vU b.once)]) E E E kR qR (A4 hp.one (A4 hr.one (A4 hu.one al3))) Cs ?_);refine kQ_ E (G3 E) (I1 (D6 6 7 8) (A9 ?_));refine ⟨_,M72,[],B4u (n:=6) E E E E kR Cc qR,Cg (Cf qP),(λ_=>⟨_,p,r,u,E,hP72,h72.mono qS,hp.mono qS,(hr.mono qS).i,hu.mono qS,hsn,hon⟩),λh=>by rw [hck] at h;cases h⟩

theorem B7M(pb:Nat)(s:Ps)(kb:Nat)(k:Ks)(va vg vq vo vm:Value)(rs ro rm:List (List Value))(h:He)(wa wg wk:Value)(MP A:Mem)(hK:KyR A kb k va vg vq vo vm rs ro rm)(hrise:C1b k.once)(hP:Prm pb s MP)(hn:s.ts.length+1000<=1040000)(gh:HeR A h wa wg wk)(hG:Glb A):FnX prog 29 [(vP pb),(vP kb),.agg #[wa,wg,wk,(vU h.signed),.bool h.has,(vU h.once)]] MP A λq M J=>∃v o,q=.tuple #[v,o,.int .i64 (if (anR k h s).1.isSome then 0 else 9)]∧Prm pb (anR k h s).2 M∧By J v ((anR k h s).1.elim [] (·.1))∧By J o ((anR k h s).1.elim [] (·.2)):=by
 haveI:=gh.ia.cel;haveI:=gh.ig.cel;haveI:=gh.key.cel;refine Cl (N:=70) func29 E E E λw_=>?_;refine A8 (D6 0 1 2) (A1 ?_);refine A2 E (bx_ λb5=>?_);refine aS_ E (aS_ E (aS_ E (A0 (D6 0 1 5) (A3 (A1 (mV_ E (lQ_ (F6 (e:=79) E E kR) (mv_ ?_))))))));refine F4 E E (Cn qm_ E ?_);refine F4 E E (Cn (F6 (e:=74) E E kR) E ?_);refine lQ_ (E3 E E) (A0 (D7 0 1 5 19) ?_);refine C7 E ?_;refine A6 (nx (D6 0 1 5) (A1 (mV_ E (lQ_ (qf_ 3 3) ?_))));refine lQ_ ql_ ?_;refine C6 (aS E (aS E a0)) kR (B7z kb k va vg vq vo vm rs ro rm h.signed _ (hK.mono qS)) E ?_;rintro r24 M24 J24 ⟨rfl,q1,rfl,hq1⟩;haveI:=hq1.cel;refine mV_ E (lQ_ (Z9 E) (lQ_ (Z5 E) (as_ (as_ (A0 (F2 0 1 5 9 10) (A3 ?_))))))
 cases hsg:A5l k.signed h.signed with
 | none=>?_
 | some sx=>?_
 . refine A1 (mV_ E (lQ_ (U2 E) (A0 (F2 0 1 5 9 28) ?_)));refine D9 E ?_;refine A1 (as_ (as_ (as_ (A0 (D6 6 7 8) (A9 (tr ?_))))));exact ⟨_,MP,[],C5k E E E E,Cg (Cf qP),by rw [C3F hsg];exact ⟨_,_,E,hP,By.nil,By.nil⟩⟩
 .
  rw [hsg] at hq1;change By _ q1 sx at hq1;have f2:=T0 s sx h.ia;have f3:=T0 (L0 s sx h.ia) k.agree h.key;have f4:=T0 (L0 (L0 s sx h.ia) k.agree h.key) sx h.key;refine A1 (mV_ E (lQ_ (U2 E) (A0 (F2 0 1 5 9 28) ?_)));refine C7 E ?_;refine A6 (nx (D7 0 1 5 9) ?_);refine F8 (MP) (_) true (.range 19) [(0,0),(1,0),(2,0),(3,0),(4,1),(6,0),(7,0),(9,0),(10,1),(12,0),(13,0),(14,0),(15,1),(5,2),(8,2),(11,2),(16,2),(17,2),(18,0)] kR kR qP λhs K n0 hKm hKs hKn=>?_;refine kM_ E E (kM_ E E (kQ_ E (qf_ 0 0) (kQ_ E (qf_ 0 0) ?_)));refine I8 hs E hKs ql_ ?_;refine kM_ E E (kM_ E E (kQ_ E (qf_ 2 2) ?_));refine I8 hs E hKs ql_ ?_;refine kM_ E E (kM_ E E (kQ_ E (qf_ 2 2) ?_));refine I8 hs E hKs ql_ ?_
  refine H0 _ _ E E (Ah _) hKm λw0=>(C9 (Mc:=MP) (R:=_) (aS E (aS E (aS E (a0)))) kR qP (A09 pb (s) q1 wa sx h.ia MP _ hP qO (hq1.mono qS) (gh.ia.mono qS) hG.up) E ?_)
  rintro v34 M34 J34 ⟨hP34,h34⟩ hKx34;haveI:=h34.cel
  refine H0 [] _ rfl rfl (Ah _) (λ_ h=>by cases h) λw0=>(E2 (aS rfl a0) kR (A95 kb k va vg vq vo vm rs ro rm _ (hK.mono qS)) rfl ?_)
  rintro v37 M37 J37 ⟨rfl,h37⟩ _;haveI:=h37.cel;dsimp only [Ct,List.append_eq]
  refine H0 M34 _ E E qP (λx hx=>hKx34 (hKn E) x (by simpa using hx)) λw0=>(C9 (Mc:=M34) (R:=_) (aS E (aS E (aS E (a0)))) kR qP (A09 pb ((L0 s sx h.ia)) v37 wk k.agree h.key M34 _ hP34 qO (h37.mono qS) (gh.key.mono qS) hG.up) E ?_)
  rintro v40 M40 J40 ⟨hP40,h40⟩ hKx40;haveI:=h40.cel
  refine H0 M40 _ E E qP (λx hx=>hKx40 (hKn E) x (by simpa using hx)) λw0=>(C9 (Mc:=M40) (R:=_) (aS E (aS E (aS E (a0)))) kR qP (A09 pb ((L0 (L0 s sx h.ia) k.agree h.key)) q1 wk sx h.key M40 _ hP40 qO (hq1.mono qS) (gh.key.mono qS) hG.up) E ?_)
  rintro v45 M45 J45 ⟨hP45,h45⟩ hKx45;haveI:=h45.cel
  refine H0 [] _ rfl rfl (Ah _) (λ_ h=>by cases h) λw0=>(C4 (e:=22) (sz:=1) (z:=[vS,vS,vS]) kR (eS rfl (eS rfl (eS rfl e0))) (bdS 0 1 rfl qR (bdS 1 1 rfl qR (bdS 2 1 rfl qR bd0))) rfl λb46=>λhk46=>?_)
  dsimp only [Cu,Ct,List.append_eq];refine kQ_ E (G3 E) (I1 (F2 0 1 5 9 11) ?_);refine P3 (α:=Value×Mem×Mem×Option (LN)) (λy=>[(0,(vP pb)),(9,q1),(11,y.1)]) (λy=>y.2.1) (λy=>y.2.2.1) (λy=>Prm pb (agS s (anP k.agree sx y.2.2.2 h)) y.2.1∧LsV (y.2.2.1++A) y.1 (agK s (anP k.agree sx y.2.2.2 h))∧By y.2.2.1 q1 sx∧anR k h s=anE k.agree sx y.2.2.2 h s) ?_ ?_
  .
   refine A0a (B:=[(b46,blk [v34,v40,v45] 22)]) qP ?_;refine A1 (lQ_ (qf_ 4 4) ?_);refine lQ_ ql_ ?_;refine A0 (G7 0 1 5 9 11 48) ?_;refine C3 E ?_ ?_<;>intro hc
   .
    refine A1 (mV_ E (lQ_ (qf_ 5 5) ?_));refine lQ_ ql_ ?_;refine C6 (aS E (aS E a0)) kR (C3y kb k va vg vq vo vm rs ro rm h.once _ (hK.mono qS) hrise) E ?_;rintro r53 M53 J53 ⟨rfl,q2,rfl,hq2⟩;haveI:=hq2.cel;refine mV_ E (lQ_ (Z9 E) (lQ_ (Z5 E) (as_ (as_ (A0 (G7 0 5 9 11 12 13) (A3 ?_))))))
    cases hog:A5l k.once h.once with
    | none=>?_
    | some ox=>?_
    . refine A1 (mV_ E (lQ_ (U2 E) (A0 (G7 0 5 9 11 12 57) ?_)));refine D9 E ?_;refine A1 (as_ (as_ (as_ (A0 (D6 6 7 8) (A9 (tr (jr ?_)))))));exact ⟨_,M45,[],C5k E E E E,Cg (Cf qP),by rw [C1i hsg hc hog];exact ⟨_,_,E,hP45,By.nil,By.nil⟩⟩
    . rw [hog] at hq2;change By _ q2 ox at hq2;refine A1 (mV_ E (lQ_ (U2 E) (A0 (G7 0 5 9 11 12 57) ?_)));refine C7 E ?_;refine A6 (nx (F2 0 5 9 11 12) (C1 (mV_ E (mV_ E (mV_ E (lQ_ (qf_ 2 2) ?_))))));refine lQ_ ql_ ?_;refine A2 E (C9 (Mc:=M45) (R:=_) (aS E (aS E (aS E (a0)))) kR qP (A09 pb (L0 (L0 (L0 s sx h.ia) k.agree h.key) sx h.key) q2 wk ox h.key M45 _ hP45 qO (hq2.mono qS) (gh.key.mono qS) hG.up) E ?_);rintro v63 M63 J63 ⟨hP63,h63⟩;haveI:=h63.cel;refine A2 E (C4 (e:=22) (sz:=1) (z:=[vS]) kR (eS E e0) (bdS 0 1 E qR bd0) E λb64=>?_);refine A2 E (A2U (e:=22) (sz:=1) (by_:=24) (xs:=[v34,v40,v45]) E E kR E (Co (n:=3) Cc qR) (Co (n:=1) Cc qR) qD qD qD E λv65 B65 hs65=>?_);haveI:=hs65.cel;refine A4w (B:=B65) qP ?_;refine as_ (C5 ?_);exact jn (v65,M63,_,some ox) ⟨hP63,⟨[v34,v40,v45]++[v63],hs65.rd qS,Lst.cons (h34.mono qS) (Lst.cons (h40.mono qS) (Lst.cons (h45.mono qS) (Lst.cons (h63.mono qS) Lst.nil)))⟩,hq1.mono qS,B4p hsg hc hog⟩ (D6 0 9 11) (Cf qP) qI
   . refine A6 ?_;exact jn (.slice (some ⟨b46,0,none⟩) 3 3,M45,_,none) ⟨hP45,⟨[v34,v40,v45],Co (n:=3) Cc qR,Lst.cons (h34.mono qS) (Lst.cons (h40.mono qS) (Lst.cons (h45.mono qS) Lst.nil))⟩,hq1.mono qS,A99 hsg hc⟩ (D6 0 9 11) (Cf qP) qI
  .
   rintro ⟨lv,MJ,J9,xo⟩ ⟨hPJ,hLJ,hqJ,hR⟩;dsimp only at hPJ hLJ hqJ hR ⊢;haveI:=hLJ.cel;have hzl:(agK s (anP k.agree sx xo h)).length<=4:=by rw [A85];unfold anP;split<;>simp
   have hzs:=A84 (anP k.agree sx xo h) s;have hz0:(anP k.agree sx xo h).length<=4:=by unfold anP;split<;>simp
   refine A1 (mv_ (mv_ ?_));refine A2 E (C9 (Mc:=MJ) (R:=_) (aS E (aS E (a0))) kR qP (A4W pb _ lv _ MJ _ hPJ (hLJ.mono qS) qO qO hG.up) E ?_);rintro v68 M68 J68 ⟨hP68,h68⟩;haveI:=h68.cel;refine mv_ (as_ (as_ (as_ (A0 (D6 6 7 8) (A9 ?_)))));exact ⟨_,M68,[],C5k E E E E,Cg (Cf qP),by rw [hR];exact ⟨_,_,E,hP68,h68.mono qS,hqJ.mono qS⟩⟩

theorem D1(pre vs post:List Value):∀(j:Nat) v,vs[j]? = some v->(pre++(vs++post))[pre.length+j]? = some v:=λj v h=>by rw [Aq qO,Nat.add_sub_cancel_left,Ak (Ac.1 h).1];exact h
def fl1(b:Bool):Nat:=if b then 1 else 0
def wFl(ws:LN)(b:Bool):LN:=ws++beN (fl1 b) 1
def wB4(ws w:LN):LN:=ws++beN w.length 4++w
def wN4(ws:LN)(n:Nat):LN:=ws++beN n 4
def whW(ws:LN)(u d:Int):LN:=wN4 (wN4 ws (u32N u)) (u32N d)
def idW(ws a g:LN):LN:=wB4 (wB4 ws a) g
def heF(ws:LN)(h:He):LN:=wFl (wN4 (wB4 (idW ws h.ia h.ig) h.key) h.signed) h.has
def heW(ws:LN)(h:He):LN:=if h.has then wN4 (heF ws h) h.once else heF ws h
theorem A0y(ws:LN)(b:Bool):(wFl ws b).length=ws.length+1:=by simp [wFl,K2]
theorem Z6(ws w:LN):(wB4 ws w).length=ws.length+w.length+4:=by simp [wB4,K2];omega
theorem Z7(ws:LN)(n:Nat):(wN4 ws n).length=ws.length+4:=by simp [wN4,K2]
theorem A0z(ws:LN)(u d:Int):(whW ws u d).length=ws.length+8:=by simp [whW,Z7]
theorem A0R(ws a g:LN):(idW ws a g).length=ws.length+a.length+g.length+8:=by simp [idW,Z6];omega
theorem B4v(ws:LN)(h:He):(heF ws h).length=ws.length+h.ia.length+h.ig.length+h.key.length+17:=by simp [heF,A0y,Z7,Z6,A0R];omega
theorem B4w(ws:LN)(h:He):(heW ws h).length<=ws.length+h.ia.length+h.ig.length+h.key.length+21:=by
  have h1:=B4v ws h;unfold heW;split
  . rw [Z7];omega
  . omega
structure Ev where
  fu:Int
  fd:Int
  tu:Int
  td:Int
  ses:LN
  has:Bool
  he:He
  hk:LN
  hp:Nat
  hn:Nat
  g:LN
def frF(ws:LN)(x:Ev):LN:=wFl (wB4 (whW (whW ws x.fu x.fd) x.tu x.td) x.ses) x.has
def frW(ws:LN)(x:Ev):LN:=if x.has then heW (frF ws x) x.he else frF ws x
theorem B4x(ws:LN)(x:Ev):(frF ws x).length=ws.length+x.ses.length+21:=by simp [frF,A0y,Z6,A0z];omega
def evC(vs p r u vk vg:Value)(x:Ev):List Value:=[.int .i64 x.fu,.int .i64 x.fd,.int .i64 x.tu,.int .i64 x.td,vs,.bool x.has,p,r,u,(vU x.he.signed),.bool x.he.has,(vU x.he.once),vk,(vU x.hp),(vU x.hn),vg]
structure EvR(R:Mem)(x:Ev)(vs p r u vk vg:Value):Prop where
  ses:By R vs x.ses
  he:HeR R x.he p r u
  hil:x.he.ig.length<=1000000
  hk:By R vk x.hk
  g:By R vg x.g
  hp:x.hp<4294967296
  hn:x.hn<4294967296
theorem EvR.mono{R R':Mem}{x:Ev}{vs p r u vk vg:Value}(h:EvR R x vs p r u vk vg)(hR:∀z,z∈R->z∈R'):EvR R' x vs p r u vk vg:=⟨h.ses.mono hR,h.he.mono hR,h.hil,h.hk.mono hR,h.g.mono hR,h.hp,h.hn⟩
theorem B4y(wb:Nat)(b:Bool)(ws:LN)(MW A:Mem)(hW:Wtr wb ws MW)(hl:ws.length<=100000000):FnX prog 123 [(vP wb),.bool b] MW A λq M J=>q=(vP wb)∧Wtr wb (wFl ws b) M:=by
 refine Cl (N:=10) func123 E E E λw_=>?_;refine A8 (D0 0 1) (A1 (as_ (A0 (D0 0 1) (A3 (A1 (mv_ (A0 (D0 0 5) ?_)))))));refine C3 E ?_ ?_<;>intro hc
 . obtain rfl:b=true:=hc;refine A1 (mv_ ?_);refine A2 E (C9 (Mc:=MW) (R:=_) (aS E (aS E (aS E a0))) kR qP (Q3 wb 1 1 ws MW _ hW qD qD qO) E ?_);rintro v7 M7 J7 ⟨rfl,hW7⟩;refine as_ (A0 (D4 4) (A9 (tr ?_)));exact ⟨_,M7,[],H8 E E,Cg (Cf qP),E,hW7⟩
 . obtain rfl:b=false:=hc;refine A6 (nx (D4 0) (A1 (mv_ ?_)));refine A2 E (C9 (Mc:=MW) (R:=_) (aS E (aS E (aS E a0))) kR qP (Q3 wb 0 1 ws MW _ hW qD qD qO) E ?_);rintro v9 M9 J9 ⟨rfl,hW9⟩;refine as_ (A0 (D4 4) (A9 ?_));exact ⟨_,M9,[],H8 E E,Cg (Cf qP),E,hW9⟩
theorem B9b(wb:Nat)(u d:Int)(ws:LN)(MW A:Mem)(hW:Wtr wb ws MW)(hl:ws.length<=50000000):FnX prog 127 [(vP wb),.agg #[.int .i64 u,.int .i64 d]] MW A λq M J=>q=.tuple #[]∧Wtr wb (whW ws u d) M:=by
 have hu:=B4q u;have hd:=B4q d;refine Cl (N:=15) func127 E E E λw_=>?_;refine A8 (D0 0 1) (A1 ?_);refine A2 E (bx_ λb3=>?_);refine A0 (D0 0 3) ?_;refine Y5 (MW) (_) true (.range 11) [(0,0),(1,0),(2,1),(3,0),(4,0),(6,0),(7,1),(8,0),(9,0),(5,2),(10,2)] kR kR qP λhs K n0 hKm hKs hKn=>?_;refine kM_ E E (kQ_ E (qf_ 0 0) ?_);refine I8 hs E hKs ql_ ?_;refine kQ_ E (Z3 (k':=.u32) ((u32N u:Nat):Int) E kR (A8c u)) ?_;refine kQ_ E (K4 (k':=.u64) (u32N u) E kR (A2t qO)) ?_;refine kQ_ E (qf_ 1 1) ?_;refine I8 hs E hKs ql_ ?_;refine kQ_ E (Z3 (k':=.u32) ((u32N d:Nat):Int) E kR (A8c d)) ?_;refine kQ_ E (K4 (k':=.u64) (u32N d) E kR (A2t qO)) ?_
 refine H0 _ _ E E (Ah _) hKm λw0=>(C9 (Mc:=MW) (R:=_) (aS E (aS E (aS E (a0)))) kR qP (Q3 wb (u32N u) 4 _ MW _ hW qO qD (by first|omega|(simp [A0y,Z6,Z7,A0z,A0R,K2];omega))) E ?_)
 rintro v9 M9 J9 ⟨rfl,hW9⟩ hKx9
 refine H0 M9 _ E E qP (λx hx=>hKx9 (hKn E) x (by simpa using hx)) λw0=>(C9 (Mc:=M9) (R:=_) (aS E (aS E (aS E (a0)))) kR qP (Q3 wb (u32N d) 4 _ M9 _ hW9 qO qD (by first|omega|(simp [A0y,Z6,Z7,A0z,A0R,K2];omega))) E ?_)
 rintro v14 M14 J14 ⟨rfl,hW14⟩ hKx14;refine A3z ?_;exact ⟨_,M14,[],A9l E,Cg (Cf qP),E,hW14⟩
theorem B7N(wb:Nat)(va vg:Value)(a g ws:LN)(MW A:Mem)(hW:Wtr wb ws MW)(ha:By A va a)(hg:By A vg g)(hl:ws.length<=50000000):FnX prog 122 [(vP wb),.agg #[va,vg]] MW A λq M J=>q=.tuple #[]∧Wtr wb (idW ws a g) M:=by
 haveI:=ha.cel;haveI:=hg.cel;have hal:=ha.len;have hgl:=hg.len;refine Cl (N:=11) func122 E E E λw_=>?_;refine A8 (D0 0 1) (A1 ?_);refine A2 E (bx_ λb3=>?_);refine A0 (D0 0 3) ?_;refine Y5 (MW) (_) true (.range 7) [(0,0),(1,0),(2,1),(4,0),(5,1),(3,2),(6,2)] kR kR qP λhs K n0 hKm hKs hKn=>?_;refine kM_ E E (kQ_ E (qf_ 0 0) ?_);refine I8 hs E hKs ql_ ?_;refine kQ_ E (qf_ 1 1) ?_;refine I8 hs E hKs ql_ ?_
 refine H0 _ _ E E (Ah _) hKm λw0=>(C9 (Mc:=MW) (R:=_) (aS E (aS E (a0))) kR qP (N0 wb va a _ MW _ hW (ha.mono qS) (by first|omega|(simp [A0y,Z6,Z7,A0z,A0R,K2];omega))) E ?_)
 rintro v7 M7 J7 ⟨rfl,hW7⟩ hKx7
 refine H0 M7 _ E E qP (λx hx=>hKx7 (hKn E) x (by simpa using hx)) λw0=>(C9 (Mc:=M7) (R:=_) (aS E (aS E (a0))) kR qP (N0 wb vg g _ M7 _ hW7 (hg.mono qS) (by first|omega|(simp [A0y,Z6,Z7,A0z,A0R,K2];omega))) E ?_)
 rintro v10 M10 J10 ⟨rfl,hW10⟩ hKx10;refine A3z ?_;exact ⟨_,M10,[],A9l E,Cg (Cf qP),E,hW10⟩
theorem B0a(wb:Nat)(h:He)(p r u:Value)(ws:LN)(MW A:Mem)(hW:Wtr wb ws MW)(gh:HeR A h p r u)(hil:h.ig.length<=1000000)(hl:ws.length<=40000000):FnX prog 83 [(vP wb),.agg (heC p r u h).toArray] MW A λq M J=>q=.tuple #[]∧Wtr wb (heW ws h) M:=by
 haveI:=gh.ia.cel;haveI:=gh.ig.cel;haveI:=gh.key.cel;have hal:=gh.ia.len;have hig:=gh.ig.by qO;have hgl:=hig.len;have hkl:=gh.key.len;have hsl:=gh.signed;have hol:=gh.once;unfold heC;refine Cl (N:=26) func83 E E E λw_=>?_;refine A8 (D0 0 1) (A1 ?_);refine A2 E (bx_ λb3=>?_);refine A0 (D0 0 3) (A1 (mV_ E (lQ_ (qf_ 0 0) (lQ_ (F1 (n:=2) (vs:=[p,r]) E kR Cc E (D1 [] [p,r] [u,(vU h.signed),.bool h.has,(vU h.once)])) ?_))));refine A2 E (C9 (Mc:=MW) (R:=_) (aS E (aS E (a0))) kR qP (B7N wb p r h.ia h.ig ws MW _ hW (gh.ia.mono qS) (hig.mono qS) qO) E ?_);rintro v7 M7 J7 ⟨rfl,hW7⟩;refine A0 (D0 0 3) ?_;refine F8 (M7) (_) true (.range 11) [(0,0),(1,0),(2,1),(4,0),(5,1),(6,0),(8,0),(9,1),(3,2),(7,2),(10,2)] kR kR qP λhs K n0 hKm hKs hKn=>?_;refine kM_ E E (kQ_ E (qf_ 2 2) ?_);refine I8 hs E hKs ql_ ?_;refine kQ_ E (qf_ 3 3) ?_;refine I8 hs E hKs ql_ ?_;refine kQ_ E (K4 (k':=.u64) (h.signed) E kR (A2t qO)) ?_;refine kQ_ E (qf_ 4 4) ?_;refine I8 hs E hKs ql_ ?_
 refine H0 _ _ E E (Ah _) hKm λw0=>(C9 (Mc:=M7) (R:=_) (aS E (aS E (a0))) kR qP (N0 wb u h.key _ M7 _ hW7 (gh.key.mono qS) (by first|omega|(simp [A0y,Z6,Z7,A0z,A0R,K2];omega))) E ?_)
 rintro v11 M11 J11 ⟨rfl,hW11⟩ hKx11
 refine H0 M11 _ E E qP (λx hx=>hKx11 (hKn E) x (by simpa using hx)) λw0=>(C9 (Mc:=M11) (R:=_) (aS E (aS E (aS E (a0)))) kR qP (Q3 wb (h.signed) 4 _ M11 _ hW11 qO qD (by first|omega|(simp [A0y,Z6,Z7,A0z,A0R,K2];omega))) E ?_)
 rintro v15 M15 J15 ⟨rfl,hW15⟩ hKx15
 refine H0 M15 _ E E qP (λx hx=>hKx15 (hKn E) x (by simpa using hx)) λw0=>(C9 (Mc:=M15) (R:=_) (aS E (aS E (a0))) kR qP (B4y wb h.has _ M15 _ hW15 (by first|omega|(simp [A0y,Z6,Z7,A0z,A0R,K2];omega))) E ?_)
 rintro v18 M18 J18 ⟨rfl,hW18⟩ hKx18;refine I1 (D0 0 3) ?_;change Wtr wb (heF ws h) M18 at hW18;have hfl:=B4v ws h;refine A1 (lQ_ (qf_ 4 4) ?_);refine lQ_ ql_ ?_;refine A0 (D6 0 3 20) ?_;refine C3 E ?_ ?_<;>intro hc
 . have hh:h.has=true:=hc;refine C1 (mV_ E (lQ_ (qf_ 5 5) ?_));refine lQ_ ql_ ?_;refine lQ_ (K4 (k':=.u64) (h.once) E kR (A2t qO)) ?_;refine A2 E (C9 (Mc:=M18) (R:=_) (aS E (aS E (aS E (a0)))) kR qP (Q3 wb h.once 4 _ M18 _ hW18 qO qD qO) E ?_);rintro v25 M25 J25 ⟨rfl,hW25⟩;refine C5 ?_;exact ⟨_,M25,[],A9l E,Cg (Cf qP),E,by unfold heW;rw [if_pos hh];exact hW25⟩
 . have hh:h.has=false:=hc;refine A6 ?_;exact ⟨_,M18,[],A9l E,Cg (Cf qP),E,by unfold heW;rw [if_neg (by rw [hh];decide)];exact hW18⟩
theorem C1k(h:He)(p r u:Value)(A:Mem)(gh:HeR A h p r u)(hl:h.ia.length+h.ig.length+h.key.length<=1000000):FnX prog 55 [.agg (heC p r u h).toArray] [] A λq M J=>M=[]∧By J q (heW [] h):=by haveI:=gh.ia.cel;haveI:=gh.ig.cel;haveI:=gh.key.cel;have hal:=gh.ia.len;have hig:=gh.ig.by qO;have hgl:=hig.len;have hkl:=gh.key.len;have hsl:=gh.signed;have hol:=gh.once;unfold heC;refine Cl (N:=11) func55 E E E λw_=>?_;refine A8 (D4 0) (A1 ?_);refine A2 E (bx_ λb1=>?_);refine as_ (A0 (D4 1) (A1 ?_));refine lQ_ (F0 (place:=λx=>#[(0,1)][x]?) (z:=[vS]) (λ_=>by kernel_rfl) e0 bd0) ?_;refine A2 E (bx_ λb5=>?_);refine aS_ E (A0 (D0 1 3) (A1 (mV_ E (lQ_ (F1 (n:=6) (vs:=[p,r,u,(vU h.signed),.bool h.has,(vU h.once)]) E kR Cc E (D1 [] [p,r,u,(vU h.signed),.bool h.has,(vU h.once)] [])) ?_))));refine A2 E (C9 (Mc:=[(b5,blk [vS] 126)]) (R:=_) (aS E (aS E (a0))) kR qP (B0a b5 h p r u [] _ _ Wtr.new (gh.mono qS) qO qD) E ?_);rintro v8 M8 J8 ⟨rfl,hW8⟩;have hwl:=B4w [] h;refine A0 (D4 3) (A1 (mv_ ?_));refine A2 E (C9 (Mc:=M8) (R:=_) (aS E a0) kR qP (A0l b5 _ M8 _ hW8 (by simp at hwl;omega)) E ?_);rintro v10 M10 J10 ⟨hW10,h10⟩;haveI:=h10.cel;refine as_ (A0 (D4 2) (A9 ?_));exact ⟨_,[],[],H8 E E,qZ,E,h10.mono qS⟩
theorem B7O(wb:Nat)(x:Ev)(vs p r u vk vg:Value)(ws:LN)(MW A:Mem)(hW:Wtr wb ws MW)(hx:EvR A x vs p r u vk vg)(hl:ws.length<=10000000):FnX prog 88 [(vP wb),.agg (evC vs p r u vk vg x).toArray] MW A λq M J=>q=.tuple #[]∧Wtr wb (frW ws x) M:=by
 haveI:=hx.ses.cel;haveI:=hx.he.ia.cel;haveI:=hx.he.ig.cel;haveI:=hx.he.key.cel;haveI:=hx.hk.cel;haveI:=hx.g.cel;have hsl:=hx.ses.len;unfold evC;refine Cl (N:=25) func88 E E E λw_=>?_;refine A8 (D0 0 1) (A1 ?_);refine A2 E (bx_ λb3=>?_);refine A0 (D0 0 3) (A1 (mV_ E (lQ_ (qf_ 0 0) (lQ_ (F1 (n:=2) (vs:=[.int .i64 x.fu,.int .i64 x.fd]) E kR Cc E (D1 [] [.int .i64 x.fu,.int .i64 x.fd] [.int .i64 x.tu,.int .i64 x.td,vs,.bool x.has,p,r,u,(vU x.he.signed),.bool x.he.has,(vU x.he.once),vk,(vU x.hp),(vU x.hn),vg])) ?_))));refine A2 E (C9 (Mc:=MW) (R:=_) (aS E (aS E (a0))) kR qP (B9b wb x.fu x.fd ws MW _ hW qO) E ?_);rintro v7 M7 J7 ⟨rfl,hW7⟩;refine A0 (D0 0 3) (A1 (mV_ E (lQ_ (qf_ 2 2) (lQ_ (F1 (n:=2) (vs:=[.int .i64 x.tu,.int .i64 x.td]) E kR Cc E (D1 [.int .i64 x.fu,.int .i64 x.fd] [.int .i64 x.tu,.int .i64 x.td] [vs,.bool x.has,p,r,u,(vU x.he.signed),.bool x.he.has,(vU x.he.once),vk,(vU x.hp),(vU x.hn),vg])) ?_))));refine A2 E (C9 (Mc:=M7) (R:=_) (aS E (aS E (a0))) kR qP (B9b wb x.tu x.td _ M7 _ hW7 (by simp [A0z];omega)) E ?_);rintro v11 M11 J11 ⟨rfl,hW11⟩;refine A0 (D0 0 3) ?_;refine F8 (M11) (_) true (.range 7) [(0,0),(1,0),(2,1),(4,0),(5,1),(3,2),(6,2)] kR kR qP λhs K n0 hKm hKs hKn=>?_;refine kM_ E E (kQ_ E (qf_ 4 4) ?_);refine I8 hs E hKs ql_ ?_;refine kQ_ E (qf_ 5 5) ?_;refine I8 hs E hKs ql_ ?_
 refine H0 _ _ E E (Ah _) hKm λw0=>(C9 (Mc:=M11) (R:=_) (aS E (aS E (a0))) kR qP (N0 wb vs x.ses _ M11 _ hW11 (hx.ses.mono qS) (by first|omega|(simp [A0y,Z6,Z7,A0z,A0R,K2];omega))) E ?_)
 rintro v15 M15 J15 ⟨rfl,hW15⟩ hKx15
 refine H0 M15 _ E E qP (λx hx=>hKx15 (hKn E) x (by simpa using hx)) λw0=>(C9 (Mc:=M15) (R:=_) (aS E (aS E (a0))) kR qP (B4y wb x.has _ M15 _ hW15 (by first|omega|(simp [A0y,Z6,Z7,A0z,A0R,K2];omega))) E ?_)
 rintro v18 M18 J18 ⟨rfl,hW18⟩ hKx18;refine I1 (D0 0 3) ?_;change Wtr wb (frF ws x) M18 at hW18;have hfl:=B4x ws x;refine A1 (lQ_ (qf_ 5 5) ?_);refine lQ_ ql_ ?_;refine A0 (D6 0 3 20) ?_;refine C3 E ?_ ?_<;>intro hc
 . have hh:x.has=true:=hc;refine C1 (mV_ E (lQ_ (qf_ 6 6) (lQ_ (F1 (n:=6) (vs:=[p,r,u,(vU x.he.signed),.bool x.he.has,(vU x.he.once)]) E kR Cc E (D1 [.int .i64 x.fu,.int .i64 x.fd,.int .i64 x.tu,.int .i64 x.td,vs,.bool x.has] [p,r,u,(vU x.he.signed),.bool x.he.has,(vU x.he.once)] [vk,(vU x.hp),(vU x.hn),vg])) ?_)));refine A2 E (C9 (Mc:=M18) (R:=_) (aS E (aS E (a0))) kR qP (B0a wb x.he p r u _ M18 _ hW18 (hx.he.mono qS) hx.hil qO) E ?_);rintro v24 M24 J24 ⟨rfl,hW24⟩;refine C5 ?_;exact ⟨_,M24,[],A9l E,Cg (Cf qP),E,by unfold frW;rw [if_pos hh];exact hW24⟩
 . have hh:x.has=false:=hc;refine A6 ?_;exact ⟨_,M18,[],A9l E,Cg (Cf qP),E,by unfold frW;rw [if_neg (by rw [hh];decide)];exact hW18⟩
theorem A6W(ws:LN)(x:Ev):(frW ws x).length<=ws.length+x.ses.length+x.he.ia.length+x.he.ig.length+x.he.key.length+42:=by have h1:=B4x ws x;have h2:=B4w (frF ws x) x.he;unfold frW;split<;>omega
theorem C1l(x:Ev)(vs p r u vk vg:Value)(A:Mem)(hx:EvR A x vs p r u vk vg)(hl:x.ses.length+x.he.ia.length+x.he.ig.length+x.he.key.length<=1000000):FnX prog 61 [.agg (evC vs p r u vk vg x).toArray] [] A λq M J=>M=[]∧By J q (frW [] x):=by haveI:=hx.ses.cel;haveI:=hx.he.ia.cel;haveI:=hx.he.ig.cel;haveI:=hx.he.key.cel;haveI:=hx.hk.cel;haveI:=hx.g.cel;have hsl:=hx.ses.len;unfold evC;refine Cl (N:=11) func61 E E E λw_=>?_;refine A8 (D4 0) (A1 ?_);refine A2 E (bx_ λb1=>?_);refine as_ (A0 (D4 1) (A1 ?_));refine lQ_ (F0 (place:=λx=>#[(0,1)][x]?) (z:=[vS]) (λ_=>by kernel_rfl) e0 bd0) ?_;refine A2 E (bx_ λb5=>?_);refine aS_ E (A0 (D0 1 3) (A1 (mV_ E (lQ_ (F1 (n:=16) (vs:=[.int .i64 x.fu,.int .i64 x.fd,.int .i64 x.tu,.int .i64 x.td,vs,.bool x.has,p,r,u,(vU x.he.signed),.bool x.he.has,(vU x.he.once),vk,(vU x.hp),(vU x.hn),vg]) E kR Cc E (D1 [] [.int .i64 x.fu,.int .i64 x.fd,.int .i64 x.tu,.int .i64 x.td,vs,.bool x.has,p,r,u,(vU x.he.signed),.bool x.he.has,(vU x.he.once),vk,(vU x.hp),(vU x.hn),vg] [])) ?_))));refine A2 E (C9 (Mc:=[(b5,blk [vS] 126)]) (R:=_) (aS E (aS E (a0))) kR qP (B7O b5 x vs p r u vk vg [] _ _ Wtr.new (hx.mono qS) qD) E ?_);rintro v8 M8 J8 ⟨rfl,hW8⟩;have hwl:=A6W [] x;refine A0 (D4 3) (A1 (mv_ ?_));refine A2 E (C9 (Mc:=M8) (R:=_) (aS E a0) kR qP (A0l b5 _ M8 _ hW8 (by simp at hwl;omega)) E ?_);rintro v10 M10 J10 ⟨hW10,h10⟩;haveI:=h10.cel;refine as_ (A0 (D4 2) (A9 ?_));exact ⟨_,[],[],H8 E E,qZ,E,h10.mono qS⟩

end Go.Proofs.YtglbhoeolghndaaGreatDoor
namespace Go.Px
open Go.Lib (strCells strCells_length strCells_oneCell)
variable{P:Program}{t u e ty:TypeId}{v:Value}{xs:List Value}
theorem A6X{n:Nat}{B R:Mem}{w:World}{s:ByteArray}(ht:A10 P t=some (e,1,1))(hu2:P.underlying u=some .string)
    (hs:Sl 1 v n xs B) (hB:∀q∈B,q∈R) (hw:Fx R w) (hmax:n+s.size<=maxLen) (hbytes:n+s.size<=140737488355328) :
    ∃v' w' B',(Builtin.append_ #[t,u] ty #[v,.string s]).run P w=.ok v' w'∧Sl 1 v' (n+s.size) (xs++strCells s) B' ∧
      ((w'=w∧B'=B)∨(∃(b:Nat) (cs cs':List Value) (e':TypeId),B=[(b,blk cs e')]∧B'=[(b,blk cs' e')]∧w'=w.setRow b cs'.toArray)∨(∃o',B'=[(w.heap.size,o')]∧w'=w.drew.alloc o')):=by
  obtain ⟨i,z,hu,hi,hz,hzs,his,hib⟩:=T6 ht;have hsmall:n+s.size<=9223372036854775807:=by simp only [maxLen] at hmax;omega
  have hf:=λw=>Lib.run_firstCells_string (P:=P) w 1 s;have hul:=strCells_length s;generalize hys:strCells s=ys at *;generalize hm:s.size=m at *;by_cases h0:m=0
  . subst h0;obtain rfl:ys=[]:=Bd hul;have hf:=hf w;refine ⟨v,w,B,?_,by simpa using hs,.inl ⟨E,E⟩⟩;rcases hs with ⟨p,rfl,rfl,rfl,rfl⟩|⟨b,o,cap,cs,e',rfl,rfl,h1,h2,h3,h4,h5⟩
    . cases p<;>simp [Builtin.append_,run_underlying hu,run_underlying hu2,sizeOf,typeInfo,hi,his,Builtin.lenOf,hm,hf,storeCells]
    . simp [Builtin.append_,run_underlying hu,run_underlying hu2,sizeOf,typeInfo,hi,his,Builtin.lenOf,hm,hf,storeCells,h1]
  . have made:∀(r:Value) (cap':Nat) (w':World),r=.slice (some ⟨w.heap.size,0,none⟩) (n+m) cap'->n+m<=cap'->cap'<=maxLen->xs.length=n ->
        Sl 1 r (n+m) (xs++ys) [(w.heap.size,.cells (xs.toArray++ys.toArray++Builtin.zeroCells z.cells (cap'-(n+m))) e (0,0))]:=by
      intro r cap' w' hr' hc1 hc2 hxl;refine .inr ⟨w.heap.size,0,cap',(xs.toArray++ys.toArray++Builtin.zeroCells z.cells (cap'-(n+m))).toList,e,hr',by simp [blk],hc1,hc2,?_,?_,?_⟩
      . simp only [Array.length_toList,Array.size_append,List.size_toArray,size_zeroCells,hzs,hxl,hul];omega
      . simp [hxl,hul]
      . intro j u hj;have hlt:j<(xs++ys).length:=(Ac.1 hj).1;rw [Nat.zero_add];simp only [Array.toList_append,List.append_assoc];rw [<- Ap,Ak (by simpa using hlt)];exact hj
    rcases hs with ⟨p,rfl,rfl,rfl,rfl⟩|⟨b,o,cap,cs,e',rfl,rfl,h1,h2,h3,h4,h5⟩
    . have hge:=grownCap_ge w (0+m) 0 e;have hcm:grownCap w (0+m) 0 e<=maxLen:=grownCap_le_maxLen w (0+m) 0 e hmax;have hfit:Builtin.nextslicecap (0+m) 0*i.bytes<=281474976710656:=growslice_fits (by omega) (by rw [hib];omega)
      cases p with
      | none =>
        have hrn:=run_append_nil_string (P:=P) w t u ty e i z hu hu2 hi hz s (by omega) (by omega) (by rw [hib];omega)
        have e1:(s.data.map λb=>Value.int .u8 b.toNat)=ys.toArray:=by rw [<- hys];apply Array.ext';simp [strCells]
        rw [e1,hm] at hrn;rw [Nat.zero_add] at hge hcm;refine ⟨_,_,_,hrn,?_,.inr (.inr ⟨_,E,E⟩)⟩;have:=made _ (grownCap w m 0 e) w (by rw [Nat.zero_add]) (by omega) hcm (by simp);simpa using this
      | some pa =>
        have hrg:=Lib.run_append_grow_string (P:=P) w t u ty e i z hu hu2 hi hz pa 0 0 [] (by simp) (by simp) s (by omega) (by omega) (by rw [hm];exact hfit);rw [hm,hys] at hrg;refine ⟨_,_,_,hrg,?_,.inr (.inr ⟨_,E,E⟩)⟩;exact made _ _ w E hge hcm (by simp)
    . have hb:=hw b _ (hB _ (List.mem_singleton.2 E));rw [Nat.mul_one] at h3 h4;by_cases hroom:n+m<=cap
      . have hfit:o+n+ys.length<=cs.length:=by omega
        have hst:=run_storeCells_at (P:=P) b (o+n) e' ys 0 cs.toArray w hb (by simpa using hfit) (by rw [<- hys];exact strCells_oneCell s);simp only [Nat.add_zero] at hst;have hf:=hf w;refine ⟨.slice (some ⟨b,o,none⟩) (n+m) cap,w.setRow b (cs.take (o+n)++ys++cs.drop (o+n+ys.length)).toArray,_,?_,?_,.inr (.inl ⟨b,cs,_,e',E,E,E⟩)⟩
        . simp [Builtin.append_,run_underlying hu,run_underlying hu2,sizeOf,typeInfo,hi,his,Builtin.lenOf,hm,hroom,hf,Addr.add_mid,hst]
        . refine .inr ⟨b,o,cap,_,e',E,E,hroom,h2,?_,?_,?_⟩
          . simp only [List.length_append,List.length_take,List.length_drop];omega
          . simp [h4,hul]
          . intro j q hj;by_cases hjx:j<xs.length
            . rw [Ak hjx] at hj;rw [Ap,Ak (by simp;omega),Cb (by omega)];exact h5 j q hj
            . rw [Aq (by omega)] at hj;have hlt:=(Ac.1 hj).1;have hln:(cs.take (o+n)).length=o+n:=by simp;omega
              rw [Ap,Aq (by omega),Ak (by omega),hln,<- hj];congr 1;omega
      . have hge:=grownCap_ge w (n+m) cap e;have hcm:grownCap w (n+m) cap e<=maxLen:=grownCap_le_maxLen w (n+m) cap e hmax;have hrg:=Lib.run_append_grow_string (P:=P) w t u ty e i z hu hu2 hi hz ⟨b,o,none⟩ n cap xs (by rw [his];omega) (λj q hj=>by rw [Addr.add_mid,cell_of_row w b _ cs.toArray e' (0,0) hb];simpa using h5 j q hj) s (by omega) (by omega) (by rw [hm,hib];exact growslice_fits (by omega) (by omega));rw [hm,hys] at hrg;refine ⟨_,_,_,hrg,?_,.inr (.inr ⟨_,E,E⟩)⟩;exact made _ _ w E hge hcm h4
variable{ws:List Nat}
theorem A8e(h:∀x∈ws,x<256):strCells (txt ws)=nums .u8 ws:=by unfold strCells txt nums;simp only [List.map_map];refine Bt λx hx=>?_;have:=h x hx;simp [UInt8.toNat_ofNat,Nat.mod_eq_of_lt this]
def C1m(P:Program)(u:TypeId):Bool:=match P.underlying u with
  | some .string=>true
  | _=>false
theorem B7P(h:C1m P u=true):P.underlying u=some .string:=by
  unfold C1m at h;split at h
  . assumption
  . cases h
theorem B4z{C:Cx}{l:Env}{M J:Mem}{K:Env->Mem->Mem->Prop}{d:Nat}{pos:String}{af:Array Edge}{g:Option (Nat×Bool)}{x y:Operand}{n:Nat}{B M0:Mem}(hx:ev l x=some v)(hy:ev l y=some (.string (txt ws)))(ht:A10 C.P t=some (e,1,1))(hu:C1m C.P u=true)
    (hb:∀c∈ws,c<256) (hs:Sl 1 v n xs B) (hM:M.Perm (B++M0)) (hbytes:n+ws.length<=140737488355328) (hd:Nat.blt d C.N=true)
    (k:∀v' B',Sl 1 v' (n+ws.length) (xs++nums .u8 ws) B'->K ((d,v')::l) (B'++M0) J) :
    OpL C ⟨some d,.call { callee:=.builtin .append,args:=#[x,y],argTypes:=#[t,u] },ty,pos,af,g⟩ l M J K:=by
  intro Qp a w ha hw;have hsz:(txt ws).size=ws.length:=A0u ws;obtain ⟨v',w',B',hrun,hsl,hcase⟩:=A6X (P:=C.P) (ty:=ty) (R:=M++(J++C.A)) (s:=txt ws) ht (B7P hu) hs (λq hq=>by have:=hM.mem_iff.2 (Ae M0 hq);simp [this]) hw.fx (by unfold maxLen;omega) (by omega);rw [A8e hb,hsz] at hsl
  have hexec:(execOp a.eval ⟨some d,.call { callee:=.builtin .append,args:=#[x,y],argTypes:=#[t,u] },ty,pos,af,g⟩).run C.P w=.ok (.value v') w':=by simp [execOp,resolve,invoke,builtin,ha.ev hx,ha.ev hy,hrun]
  unfold Oper.wp;rw [hexec];refine ⟨_,B'++M0,J,ha.put (P1 hd) v',?_,k v' B' hsl⟩;rcases hcase with ⟨rfl,rfl⟩|⟨b,cs,cs',e',rfl,rfl,rfl⟩|⟨o',rfl,rfl⟩
  . exact hw.perm hM
  . exact (hw.perm hM).setRow (M':=[(b,blk cs' e')]++M0) Upd.hd
  . have h2:St C ((w.heap.size,o')::M) J (w.drew.alloc o'):=St.alloc (w:=w.drew) hw.drew o';have h3:=h2.perm (M':=(w.heap.size,o')::(B++M0)) (List.Perm.cons _ hM);exact h3.drop (List.Sublist.cons_cons _ (List.sublist_append_right B M0)) (λ_ h=>h)
end Go.Px

namespace Go.Proofs.YtglbhoeolghndaaGreatDoor
open Go.Px
def Q0(ws:List (LN)):LN:=(ws.map mark).flatten
variable{ws:List (LN)}
theorem A3F{i:Nat}{w:LN}(h:ws[i]? = some w):Q0 (ws.take (i+1))=Q0 (ws.take i)++mark w:=by unfold Q0;rw [Bh,h];simp
theorem A5R(h:∀w∈ws,∀x∈w,x<256):∀x∈Q0 ws,x<256:=by
  intro x hx;obtain ⟨l,hl,hx⟩:=List.mem_flatten.1 hx;obtain ⟨w,hw,rfl⟩:=List.mem_map.1 hl
  haveI:B256 w:=⟨h w hw⟩
  have hb:B256 (mark w):=inferInstance;exact hb.lt x hx
def B1c(ws:List (LN)):Tm:=B5N (Q0 ws)
def A2u(s:Ps)(ws:List (LN)):Ps:=if s.real then s else { s with ts:=add s.ts (B1c ws) }
variable{s:Ps}
theorem A6Y(h:s.real=true)(ws:List (LN)):A2u s ws=s:=if_pos h
theorem A4X(h:s.real=false)(ws:List (LN)):A2u s ws={ s with ts:=add s.ts (B1c ws) }:=if_neg (by rw [h];decide)
def A25(s:Ps)(ws:List (LN)):LN:=if s.real then Y4 (Q0 ws) else bts ((at_ s.ts (B1c ws):Nat):Int)
theorem A6Z(h:s.real=true)(ws:List (LN)):A25 s ws=Y4 (Q0 ws):=if_pos h
theorem B4A(h:s.real=false)(ws:List (LN)):A25 s ws=bts ((at_ s.ts (B1c ws):Nat):Int):=if_neg (by rw [h];decide)
theorem B7Q{j:Nat}(hr:s.real=false)(ht:Tok s.ts)(h:s.ts[j]? = some (B1c ws)):A2u s ws=s∧A25 s ws=bts ((j:Nat):Int):=by obtain ⟨e3,e4⟩:=B2J ht h;rw [A4X hr,B4A hr,e3,e4];exact ⟨E,E⟩
theorem C3I(pb bt bm:Nat)(s:Ps)(hr:s.real=false)(u:Value)(ws:List (LN))(MP A:Mem)(hP:PrmT pb bt bm s MP)(hn:s.ts.length<=1048576)(hu:LsV A u ws)(hwl0:ws.length<=1000)(hlt0:∀w∈ws,∀x∈w,x<256)(hG:Glb A):FnX prog 54 [(vP pb),u] MP A λq M J=>PrmT pb bt bm (A2u s ws) M∧By J q (A25 s ws):=by
 obtain ⟨sv,B,MT,rfl,hby,hT⟩:=hP.ex;have hmd:md s.real=1:=by rw [hr];rfl
 rw [hmd] at *;haveI:=hby.cel;obtain ⟨⟨ge0,gf0,h0⟩,⟨ge1,gf1,h1⟩,⟨ge4,gf4,h4⟩⟩:=hG;obtain ⟨us,hus,hls⟩:=hu.ex;haveI:=hus.cel;refine Cl (N:=51) func54 E E E λw_=>?_;refine A8 (D0 0 1) (A1 (aS_ E (A0 (D0 0 1) (A3 (A1 (mV_ E (lQ_ (F6 (e:=74) E E kR) (A0 (D6 0 1 12) ?_))))))));refine C7 E ?_;refine A6 (nx (D0 0 1) (A3 (A1 (mV_ E (lQ_ (E1 E) (lQ_ (qf_ 0 0) ?_))))));refine lQ_ ql_ ?_;refine lQ_ (E8 E E E) (A0 (D6 0 1 17) ?_);refine C7 E ?_;refine A6 (nx (D0 0 1) (A1 (as_ (A0 (D6 0 1 8) (A3 (A1 (mv_ ?_)))))));refine lQ_ (G2 (sz:=1) E kR hus) ?_;refine mv_ (A0 (F2 0 8 32 33 34) (A7 ?_));refine E5 (α:=Nat) (λi=>[(0,(vP pb)),(8,.string (txt (Q0 (ws.take i)))),(32,u),(33,(vI ws.length)),(34,(vI i))]) (λ_=>(pb,blk [.int .u8 1,sv,.int .i64 (((s.n:Nat):Int)),(vP bt)] 74)::(B++MT)) (λ_=>[]) (λi=>i<=ws.length∧(Q0 (ws.take i)).length<=i*16777300) (λi=>ws.length-i) 0 ⟨Am _,Am _⟩ (F2 0 8 32 33 34) .rfl qI ?_;rintro i ⟨hi,hml⟩;refine A1 (lQ_ (E8 E E E) (A0 (G7 0 8 32 33 34 35) (A3 ?_)));refine C3 E ?_ ?_<;>intro hc
 .
  have hlt:i<ws.length:=by simp at hc;omega
  obtain ⟨w,hw⟩:∃w,ws[i]? = some w:=⟨_,Ab hlt⟩
  obtain ⟨vi,hvi,hwi⟩:=hls.get i w hw;haveI:=hwi.cel;have hst:=A3F hw;have hmk:=A1P w (by have:=hwi.len;omega);have hwl:=hwi.len;refine A6 (nx (F2 0 8 32 33 34) (A3 (A7 (A1 ?_))));refine lQ_ (H2 (sz:=1) E E kR E hus hlt) ?_;refine lQ_ (Z4 (j:=i) (u:=vi) (hus.mono qS) E kR hvi) (as_ (A0 (G7 0 8 10 32 33 34) (C1 (mv_ (mv_ ?_)))));refine E6 (aS E a0) kR (A2Q vi w _ (hwi.rd.mono qS) (hb:=hwi.b256) qO (mA h4)) E ?_;refine lQ_ (A17 (ws:=Q0 (ws.take i)) (ws':=mark w) E E E E (by have:i*16777300<=1000*16777300:=Au _ qO;omega)) ?_;rw [<- hst];refine as_ (C5 (nb (nx (F2 0 8 32 33 34) (C1 ?_))));refine lQ_ (D5 ((i+1:Nat):Int) E E (F7 qO qO qO)) ?_;refine mv_ (C5 ?_);exact rn (i+1) ⟨hlt,by rw [hst,An,Nat.add_mul];omega⟩ qO (F2 0 8 32 33 34) .rfl qI
 .
  have hge:i=ws.length:=by simp at hc;omega
  subst hge;rw [List.take_length] at hml ⊢;refine D8 (te (re (be E (nx (D0 0 8) (A1 (mV_ E (lQ_ (E1 E) (lQ_ (qf_ 3 3) ?_))))))));refine lQ_ ql_ ?_;refine mv_ ?_;refine lQ_ (F0 (place:=λx=>#[(0,1),(1,1),(2,1),(3,1)][x]?) (z:=[zu8,vS,.string ByteArray.empty,P0]) (λ_=>by kernel_rfl) (eS E (eS E e0)) (bdS 0 1 E qR (bdS 2 1 E qR bd0))) ?_;refine A2 E (C9 (Mc:=MT) (R:=_) (aS E (aS E a0)) kR qP (R8 bt bm s.ts (vS) (B1c ws) MT _ hT hn Rd.nil (A3i (A5R hlt0) (by have:ws.length*16777300<=1000*16777300:=Au _ hwl0;omega)) (mA h4)) E ?_);rintro v49 M49 J49 ⟨rfl,rfl,hT49⟩;refine A2 E (E2 (aS E a0) kR (V2 _ _) E ?_);rintro v50 M50 J50 ⟨rfl,h50⟩;refine as_ (A0 (D4 4) (A9 ?_));exact ⟨_,(pb,blk [.int .u8 1,sv,.int .i64 (((s.n:Nat):Int)),(vP bt)] 74)::(B++M49),[],H8 E E,(Cg (Ch (B:=[_]) qP (Ch qP (Cf qP)))),⟨sv,B,M49,by rw [show md (A2u s ws).real=1 by rw [A4X hr];show md s.real=1;rw [hr];rfl,A4X hr],by rw [A4X hr];exact hby,by rw [A4X hr];exact hT49⟩,by rw [B4A hr];exact h50.mono qS⟩
theorem C3J(pb:Nat)(s:Ps)(hr:s.real=true)(u:Value)(ws:List (LN))(MP A:Mem)(hP:Prm pb s MP)(hu:LsV A u ws)(hwl0:ws.length<=100)(hlt0:∀w∈ws,∀x∈w,x<256)(hG:Glb A):FnX prog 54 [(vP pb),u] MP A λq M J=>Prm pb (A2u s ws) M∧By J q (A25 s ws):=by
 obtain ⟨sv,bt,bm,B,MT,rfl,hby,hT⟩:=hP.ex;have hmd:md s.real=0:=by rw [hr];rfl
 rw [hmd] at *;haveI:=hby.cel;obtain ⟨⟨ge0,gf0,h0⟩,⟨ge1,gf1,h1⟩,⟨ge4,gf4,h4⟩⟩:=hG;obtain ⟨us,hus,hls⟩:=hu.ex;haveI:=hus.cel;refine Cl (N:=51) func54 E E E λw_=>?_;refine A8 (D0 0 1) (A1 (aS_ E (A0 (D0 0 1) (A3 (A1 (mV_ E (lQ_ (F6 (e:=74) E E kR) (A0 (D6 0 1 12) ?_))))))));refine C7 E ?_;refine A6 (nx (D0 0 1) (A3 (A1 (mV_ E (lQ_ (E1 E) (lQ_ (qf_ 0 0) ?_))))));refine lQ_ ql_ ?_;refine lQ_ (E8 E E E) (A0 (D6 0 1 17) ?_);refine D9 E ?_;refine A1 (as_ (A0 (D0 1 5) (A3 (A1 (mv_ ?_)))));refine lQ_ (G2 (sz:=1) E kR hus) ?_;refine mv_ (A0 (D7 5 18 19 20) (A7 ?_));refine E5 (α:=Nat×Value×Mem) (λy=>[(5,y.2.1),(18,u),(19,(vI ws.length)),(20,(vI y.1))]) (λy=>y.2.2++((pb,blk [zu8,sv,.int .i64 (((s.n:Nat):Int)),(vP bt)] 74)::(B++MT))) (λ_=>[]) (λy=>y.1<=ws.length∧(Q0 (ws.take y.1)).length<=y.1*16777300∧Sl 1 y.2.1 (Q0 (ws.take y.1)).length (nums .u8 (Q0 (ws.take y.1))) y.2.2) (λy=>ws.length-y.1) (0,vS,[]) ⟨Am _,Am _,Sl.nil⟩ (D7 5 18 19 20) .rfl qI ?_;rintro ⟨i,va,Ba⟩ ⟨hi,hml,hsa⟩;dsimp only at hi hml hsa ⊢;haveI:=hsa.cel;refine A1 (lQ_ (E8 E E E) (A0 (F2 5 18 19 20 21) (A3 ?_)));refine C3 E ?_ ?_<;>intro hc
 .
  have hlt:i<ws.length:=by simp at hc;omega
  obtain ⟨w,hw⟩:∃w,ws[i]? = some w:=⟨_,Ab hlt⟩
  obtain ⟨vi,hvi,hwi⟩:=hls.get i w hw;haveI:=hwi.cel;have hst:=A3F hw;have hmk:=A1P w (by have:=hwi.len;omega);have hwl:=hwi.len;refine A6 (nx (D7 5 18 19 20) (A3 (A7 (A1 ?_))));refine lQ_ (H2 (sz:=1) E E kR E hus hlt) ?_;refine lQ_ (Z4 (j:=i) (u:=vi) (hus.mono qS) E kR hvi) (as_ (A0 (F2 5 7 18 19 20) (C1 (mv_ (mv_ ?_)))));refine E6 (aS E a0) kR (A2Q vi w _ (hwi.rd.mono qS) (hb:=hwi.b256) qO (mA h4)) E ?_;refine A2 E (B4z (e:=5) (ws:=mark w) E E kR kR (by haveI:=hwi.b256;exact (inferInstance:B256 (mark w)).lt) hsa qP (by have:i*16777300<=100*16777300:=Au _ qO;omega) E λv27 B27 hs27=>?_);haveI:=hs27.cel;refine as_ (C5 (nb (nx (D7 5 18 19 20) (C1 ?_))));refine lQ_ (D5 ((i+1:Nat):Int) E E (F7 qO qO qO)) ?_;refine mv_ (C5 ?_);exact rn (i+1,v27,B27) ⟨hlt,by dsimp only;rw [hst,An,Nat.add_mul];omega,by dsimp only;rw [hst];exact W8 hs27 (by rw [An]) (by rw [H6])⟩ (by dsimp only;omega) (D7 5 18 19 20) (Ce qM) qI
 .
  have hge:i=ws.length:=by simp at hc;omega
  subst hge;rw [List.take_length] at hml hsa;refine D8 (te (re (be E (nx (D4 5) (A1 (mv_ ?_))))));refine A2 E (C4 (e:=22) (sz:=1) (z:=[vS]) kR (eS E e0) (bdS 0 1 E qR bd0) E λb30=>?_);refine C6 (aS E a0) kR (A1O _ [Q0 ws] _ (B1L.of (Co (n:=1) Cc qR) E (.cons (A5R hlt0) (hsa.rd qS) .nil)) (by simp;have:ws.length*16777300<=100*16777300:=Au _ hwl0;omega) qM (mA h0) (mA h1)) E ?_;rintro v31 M31 J31 ⟨rfl,hs31⟩;haveI:=hs31.cel;rw [show [Q0 ws].flatten=Q0 ws by simp] at hs31;refine as_ (A0 (D4 4) (A9 (tr ?_)));exact ⟨_,(pb,blk [zu8,sv,.int .i64 (((s.n:Nat):Int)),(vP bt)] 74)::(B++MT),M31,H8 E E,Cg (Ch qP (Cf qP)),⟨sv,bt,bm,B,MT,by rw [A6Y hr,show md s.real=0 by rw [hr];rfl],by rw [A6Y hr];exact hby,by rw [A6Y hr];exact hT⟩,by rw [A6Z hr];exact ⟨by rw [A0k];exact hs31.rd qS,A7q _,by rw [A0k];decide⟩⟩
theorem C1n(pb:Nat)(s:Ps)(u:Value)(ws:List (LN))(MP A:Mem)(hP:Prm pb s MP)(hn:s.ts.length<=1048576)(hu:LsV A u ws)(hwl0:ws.length<=100)(hlt0:∀w∈ws,∀x∈w,x<256)(hG:Glb A):FnX prog 54 [(vP pb),u] MP A λq M J=>Prm pb (A2u s ws) M∧By J q (A25 s ws):=by
  cases hr:s.real with
  | true=>exact C3J pb s hr u ws MP A hP hu hwl0 hlt0 hG
  | false =>
    obtain ⟨bt,bm,hT⟩:=hP.t
    exact (C3I pb bt bm s hr u ws MP A hT hn hu qO hlt0 hG).mono λq M J h=>⟨h.1.p,h.2⟩

end Go.Proofs.YtglbhoeolghndaaGreatDoor
