/- Part 14 of the texts of this claim, one behind the other. -/
import Derived.Test.YtjkpfgjfpbihaaaGreatDoorB13
set_option linter.unusedVariables false
set_option linter.unusedSimpArgs false
set_option maxRecDepth 100000
namespace Go.Proofs.YtjkpfgjfpbihaaaGreatDoor
open Go.Px
def B6c(a b:Nat):Int:=if a < b then -1 else if b < a then 1 else 0
variable{a b:Nat}
theorem A71(h:a < b):B6c a b = -1:=if_pos h
theorem A72(h:b < a):B6c a b=1:=by unfold B6c; rw [if_neg qO,if_pos h]
theorem A73(h:a=b):B6c a b=0:=by unfold B6c; rw [if_neg qO,if_neg qO]
theorem B6d(a b:Nat):I8 .lss .i64 (B6c a b) 0=some (.bool (decide (a < b))):=by
  rcases Nat.lt_trichotomy a b with h | h | h
  . rw [A71 h,decide_eq_true h]; rfl
  . rw [A73 h,decide_eq_false qO]; rfl
  . rw [A72 h,decide_eq_false qO]; rfl
theorem B6e(a b:Nat):I8 .eql .i64 (B6c a b) 0=some (.bool (decide (a=b))):=by
  rcases Nat.lt_trichotomy a b with h | h | h
  . rw [A71 h,decide_eq_false qO]; rfl
  . rw [A73 h,decide_eq_true h]; rfl
  . rw [A72 h,decide_eq_false qO]; rfl
theorem lt32(a b:Nat):I8 .lss .u32 ((a:Nat):Int) ((b:Nat):Int)=some (.bool (decide (a < b))):=by
  by_cases h:a < b
  . rw [decide_eq_true h]; exact ltT qO
  . rw [decide_eq_false h]; exact ltF qO
theorem gt32(a b:Nat):I8 .gtr .u32 ((a:Nat):Int) ((b:Nat):Int)=some (.bool (decide (b < a))):=by
  by_cases h:b < a
  . rw [decide_eq_true h]; exact gtT qO
  . rw [decide_eq_false h]; exact gtF qO
def B9x(l:List Pr):Prop:=∀ (i j:Nat) (x y:Pr),i < j->l[i]? = some x->l[j]? = some y->x.n < y.n
variable{l:List Pr}{n i:Nat}
theorem B6f{x:Pr}(hx:l[i]? = some x)(hn:x.n=n)(h:∀ (j:Nat) (y:Pr),j < i->l[j]? = some y->y.n < n):V6 (A4x n) l=(i:Int):=by
  have hil:=(Ac.1 hx).1;refine A1n hil (λ j hj=>?_) (by rw [hx]; simp [A4x,hn]);have hjl:j < l.length:=by omega
  rw [Ab hjl];have:=h j _ hj (Ab hjl);simp [A4x]; omega
theorem A99(h:∀ (j:Nat) (y:Pr),l[j]? = some y->y.n≠n):V6 (A4x n) l = -1:=by refine A1o λ j hj=>?_;rw [Ab hj];have:=h j _ (Ab hj);simp [A4x,this]
structure BsR(l:List Pr)(n i:Nat)(b:Bool):Prop where
  le:i<=l.length
  lt:∀ (j:Nat) (y:Pr),j < i->l[j]? = some y->y.n < n
  ge:∀ (j:Nat) (y:Pr),i<=j->l[j]? = some y->n<=y.n
  at_:b=true ↔ ∃ x,l[i]? = some x∧x.n=n
theorem BsR.yes(h:BsR l n i true):∃ x,l[i]? = some x∧V6 (A4x n) l=(i:Int):=by obtain ⟨x,hx,hn⟩:=h.at_.1 rfl;exact ⟨x,hx,B6f hx hn h.lt⟩
theorem BsR.no(hr:B9x l)(h:BsR l n i false):V6 (A4x n) l = -1:=by
  refine A99 λ j y hy hn=>?_;rcases Nat.lt_trichotomy j i with hj | hj | hj
  . have:=h.lt j y hj hy; omega
  . subst hj;have:=h.at_.2 ⟨y,hy,hn⟩;cases this
  . have hjl:=(Ac.1 hy).1;have hil:i < l.length:=by omega
    have h1:=h.ge i _ (Av _) (Ab hil);have h2:=hr i j _ y hj (Ab hil) hy;omega
theorem A7g(x:Int)(A:Mem):FnV Tryz.prog 128 [.int .u32 x] A (.bool false):=by refine Ck (N:=6) Tryz.func128 E E E λ w=>?_;refine A9 (D5 0) (A1 (as_ (A0 (D5 0) (A1 (mv_ (mv_ ?_))))));refine A2 (F5 false E E (neF E)) E ?_;refine as_ (A0 (D5 2) (C0 ?_));exact ⟨_,[],[],I0 E E,Aa _,by simp,E,E,E⟩
theorem A74(a b:Nat)(A:Mem):FnV Tryz.prog 92 [(vU a),(vU b)] A (.int .i64 (B6c a b)):=by
 refine Ck (N:=20) Tryz.func92 E E E λ w=>?_;refine A9 (D2 0 1) (A1 (as_ (A0 (D2 0 1) (A1 (mv_ ?_)))));refine E6 (aS E a0) kR (A7g _ _) E ?_;refine as_ (A0 (D6 0 1 5) (A1 (mv_ ?_)));refine E6 (aS E a0) kR (A7g _ _) E ?_;refine as_ (A0 (D8 0 1 5 6) (A4 (A1 (mv_ (A0 (D8 0 1 6 11) ?_)))));refine C9 E ?_;refine A6 (nx (D6 0 1 6) (A4 (A1 (mv_ (A0 (D6 0 1 13) ?_)))));refine C9 E ?_;refine A6 (nx (D2 0 1) (A4 (A1 (mv_ (mv_ ?_)))));refine A2 (F5 (decide (a < b)) E E (lt32 _ _)) E ?_;refine A0 (D6 0 1 16) ?_;refine C4 E ?_ ?_ <;> intro hc
 . have hab:a < b:=of_decide_eq_true hc;refine A1 (as_ (A0 (D5 4) (C0 (tr ?_))));exact ⟨_,[],[],I0 E E,Aa _,by simp,by rw [A71 hab],E,E⟩
 .
  have hab:¬ a < b:=of_decide_eq_false hc;refine A6 (nx (D2 0 1) (A4 (A1 (mv_ (mv_ ?_)))));refine A2 (F5 (decide (b < a)) E E (gt32 _ _)) E ?_;refine A0 (D5 19) ?_;refine C4 E ?_ ?_ <;> intro hc
  . have hba:b < a:=of_decide_eq_true hc;refine A1 (as_ (A0 (D5 4) (C0 (tr ?_))));exact ⟨_,[],[],I0 E E,Aa _,by simp,by rw [A72 hba],E,E⟩
  . have hba:¬ b < a:=of_decide_eq_false hc;refine A6 (nx kn (A1 (as_ (A0 (D5 4) (C0 ?_)))));exact ⟨_,[],[],I0 E E,Aa _,by simp,by rw [A73 qO],E,E⟩
theorem A48(vs vg:Value)(x:Pr)(n:Nat)(A:Mem)(hs:By A vs x.sec)(hg:By A vg x.sig):FnV Tryz.prog 91 [.agg #[(vU x.n),vs,vg],(vU n)] A (.int .i64 (B6c x.n n)):=by haveI:=hs.cel;haveI:=hg.cel;refine Ck (N:=9) Tryz.func91 E E E λ w=>?_;refine A9 (D2 0 1) (A1 ?_);refine A3 E (bx_ λ b2=>?_);refine as_ (A0 (D2 1 2) (A1 ?_));refine A2 (qf_ 0 0) E ?_;refine A2 ql_ E ?_;refine mv_ ?_;refine E6 (aS E (aS E a0)) kR (A74 x.n n _) E ?_;refine as_ (A0 (D5 4) (C0 ?_));exact ⟨_,[],[],I0 E E,Aa _,by simp,E,E,E⟩
theorem B2O(v:Value)(rows:List (List Value))(l:List Pr)(n:Nat)(A:Mem)(hv:Rd A 3 v l.length rows.flatten)(hR:RwL prR A rows l)(hrise:B9x l)(hl:l.length<=1000000):FnX Tryz.prog 90 [v,(vU n),.func (.func 91) #[] #[]] [] A λ r M J=>M=[]∧J=[]∧∃ i b,r=.tuple #[(vI i),.bool b]∧BsR l n i b:=by
  haveI:=hv.cel;refine Ck (N:=49) Tryz.func90 E E E λ w=>?_;refine A9 (D6 0 1 2) (A1 (as_ (as_ (A0 (D6 0 1 2) (A1 (mv_ ?_))))));refine A2 (G6 (sz:=3) E kR hv) E ?_;refine as_ (A0 (D8 0 1 2 8) (A1 (mv_ (as_ (as_ (A0 (H1 0 1 2 8 9 10) (A4 (A8 ?_))))))));refine E5 (α:=Nat×Nat) (λ y=>[(0,v),(1,(vU n)),(2,.func (.func 91) #[] #[]),(8,(vI l.length)),(9,(vI y.1)),(10,(vI y.2))]) (λ _=>[]) (λ _=>[]) (λ y=>y.1<=y.2∧y.2<=l.length∧(∀ (j:Nat) (z:Pr),j < y.1->l[j]? = some z->z.n < n)∧(∀ (j:Nat) (z:Pr),y.2<=j->l[j]? = some z->n<=z.n)) (λ y=>y.2 - y.1) (0,l.length) ⟨Am _,Av _,λ j z h=>by omega,λ j z h1 h2=>by have:=(Ac.1 h2).1; omega⟩ (H1 0 1 2 8 9 10) .rfl qI ?_;rintro ⟨lo,hi⟩ ⟨h1,h2,h3,h4⟩;dsimp only at h1 h2 h3 h4 ⊢;refine A4 (A1 (mv_ (mv_ ?_)));refine A2 (F0 E E E) E ?_;refine A0 (N9 0 1 2 8 9 10 17) ?_;refine C4 E ?_ ?_ <;> intro hc
  .
    have hlt:lo < hi:=by simp at hc; omega
    obtain ⟨h,hh⟩:∃ h,(lo+hi) / 2 ^ 1=h:=⟨_,E⟩
    have hh1:lo<=h∧h < hi:=by omega
    obtain ⟨x,hx⟩:∃ x,l[h]? = some x:=⟨_,Ab qO⟩
    obtain ⟨r,hr,vs,vg,rfl,hs_,hg_,hxn⟩:=hR.get h x hx;haveI:=hs_.cel;haveI:=hg_.cel;refine A6 (nx (H1 0 1 2 8 9 10) (A8 (A1 (mv_ (mv_ ?_)))));refine A2 (D7 ((lo+hi:Nat):Int) E E (F7 qO qO qO)) E ?_;refine A2 (K6 (k':=.u64) (lo+hi) E kR (A3l qO qO)) E ?_;refine A2 (hh▸A3b (a:=lo+hi) (b:=1) E E E E qD) E ?_;refine A2 (K6 (k':=.i64) h E kR (A2j qO)) E ?_;refine as_ (A0 (N9 0 1 2 8 9 10 11) (A1 (mv_ (mv_ (mv_ ?_)))));refine A2 (H4 (sz:=3) E E kR E hv (show h < l.length by omega)) E ?_;refine A2 (A0K E kR (hv.mono qS) (hR.lens prT) qD hr) E ?_;refine mv_ ?_;refine A3 E (A1C E (aS E (aS E a0)) kR (A48 vs vg x n _ (hs_.mono qS) (hg_.mono qS)) E ?_);refine A2 (F5 (decide (x.n < n)) E E (B6d _ _)) E ?_;refine A0 (W4 0 1 2 8 9 10 11 31) ?_;refine C4 E ?_ ?_ <;> intro hc
    .
      have hxl:x.n < n:=of_decide_eq_true hc;refine C2 (mv_ ?_);refine A2 (D7 ((h+1:Nat):Int) E E (F7 qO qO qO)) E ?_;refine as_ (C6 (nb ?_))
      exact rn (h+1,hi) ⟨by dsimp only; omega,h2,λ j z hj hz=>by
        dsimp only at hj;rcases Nat.lt_or_ge j h with hjh | hjh
        . have:=hrise j h z x hjh hz hx; omega
        . obtain rfl:j=h:=by omega
          rw [hx] at hz; cases hz; exact hxl,h4⟩ (by dsimp only; omega) (H1 0 1 2 8 9 10) .rfl qI
    .
      have hxl:¬ x.n < n:=of_decide_eq_false hc;refine C2 (mv_ (as_ (C6 (nb ?_))))
      exact rn (lo,h) ⟨by dsimp only; omega,by dsimp only; omega,h3,λ j z hj hz=>by
        dsimp only at hj;rcases Nat.lt_or_ge h j with hjh | hjh
        . have:=hrise h j x z hjh hx hz; omega
        . obtain rfl:j=h:=by omega
          rw [hx] at hz; cases hz; omega⟩ (by dsimp only; omega) (H1 0 1 2 8 9 10) .rfl qI
  .
    have hlt:lo=hi:=by simp at hc; omega
    subst hlt;refine D9 (te (re (be E (nx (E8 0 1 2 8 9) (A1 (mv_ (mv_ (mv_ ?_))))))));refine A2 (F0 E E E) E ?_;refine mv_ ?_;refine X3 (t:=39) E (λ hb=>?_) (λ hb=>?_)
    .
      have hlo:lo < l.length:=by simp at hb; omega
      obtain ⟨x,hx⟩:∃ x,l[lo]? = some x:=⟨_,Ab hlo⟩
      obtain ⟨r,hr,vs,vg,rfl,hs_,hg_,hxn⟩:=hR.get lo x hx;haveI:=hs_.cel;haveI:=hg_.cel;refine F3 E E (Cn qm_ E ?_);refine F3 E E (Cn qm_ E ?_);refine F3 E E (Cn qm_ E ?_);refine F3 E E (Cn (H4 (sz:=3) E E kR E hv hlo) E ?_);refine F3 E E (Cn (A0K E kR (hv.mono qS) (hR.lens prT) qD hr) E ?_);refine F3 E E (Cn qm_ E ?_);refine F3 E E (A1C E (aS E (aS E a0)) kR (A48 vs vg x n _ (hs_.mono qS) (hg_.mono qS)) E ?_);refine F3 E E (Cn (F5 (decide (x.n=n)) E E (B6e _ _)) E ?_);refine A2 (G8 E E) E ?_;refine as_ (as_ (A0 (D2 6 7) (C0 ?_)));exact ⟨_,[],[],A1s E E E,Aa _,by simp,E,E,lo,_,E,h2,h3,h4,by rw [hx]; simp⟩
    .
      have hlo:¬ lo < l.length:=by simp at hb; omega
      refine K3 E E E E ?_;refine K3 E E E E ?_;refine K3 E E E E ?_;refine K3 E E E E ?_;refine K3 E E E E ?_;refine K3 E E E E ?_;refine K3 E E E E ?_;refine K3 E E E E ?_;refine A2 (F2 E E) E ?_;refine as_ (as_ (A0 (D2 6 7) (C0 ?_)));exact ⟨_,[],[],A1s E E E,Aa _,by simp,E,E,lo,_,E,h2,h3,h4,by rw [List.getElem?_eq_none qO]; simp⟩
theorem C11(kb:Nat)(k:Ks)(va vg vs vo vm:Value)(rs ro rm:List (List Value))(n:Nat)(A:Mem)(hK:KyR A kb k va vg vs vo vm rs ro rm)(hrise:B9x k.once):FnX Tryz.prog 58 [(vP kb),(vU n)] [] A λ r M J=>M=[]∧∃ q,r=.tuple #[q,.bool (A4H k.once n).isSome]∧By J q ((A4H k.once n).getD []):=by
 have hkb:=hK.blk_;haveI:=hK.agree.cel;haveI:=hK.sign.cel;haveI:=hK.signed.cel;haveI:=hK.once.cel;haveI:=hK.met.cel;refine Cl (N:=30) Tryz.func58 E E E λ w_=>?_;refine A9 (D2 0 1) (A1 (as_ (as_ (A0 (D2 0 1) (A4 (A1 (mv_ ?_)))))));refine A2 (F6 (e:=87) E E kR) E ?_;refine A0 (D6 0 1 9) ?_;refine C9 E ?_;refine A6 (nx (D2 0 1) (A1 (mv_ ?_)));refine A2 (E7 E) E ?_;refine A2 (qf_ 5 5) E ?_;refine A2 (I2 E kR (mA hkb) qR) E ?_;refine mv_ ?_;refine C7 (aS E (aS E (aS E a0))) kR (B2O vo ro k.once n _ (hK.once.mono qS) (hK.onceR.mono prT qS) hrise hK.l2) E ?_;rintro r16 M16 J16 ⟨rfl,rfl,i,b,rfl,hb⟩;refine mv_ ?_;refine A2 (Y8 E) E ?_;refine A2 (Y4 E) E ?_;refine as_ (as_ (A0 (D6 0 6 7) (A4 ?_)));cases b
 . have hf:=hb.no hrise;refine A1 (mv_ ?_);refine A2 (U0 E) E ?_;refine A0 (D6 0 6 20) ?_;refine E1 E ?_;refine A1 (as_ (as_ (A0 (D2 4 5) (C0 (tr ?_)))));exact ⟨_,[],[],A1s E E E,qZ,E,_,by rw [A5Y hf]; rfl,by rw [A5Y hf]; exact By.nil⟩
 . obtain ⟨x,hx,hf⟩:=hb.yes;have hil:=(Ac.1 hx).1;obtain ⟨r,hr,vs_,vg_,rfl,hs_,hg_,hxn⟩:=hK.onceR.get i x hx;haveI:=hs_.cel;refine A1 (mv_ ?_);refine A2 (U0 E) E ?_;refine A0 (D6 0 6 20) ?_;refine C9 E ?_;refine A6 (nx (D2 0 6) (A1 (mv_ ?_)));refine A2 (E7 E) E ?_;refine A2 (qf_ 5 5) E ?_;refine A2 (I2 E kR (mA hkb) qR) E ?_;refine mv_ ?_;refine A2 (H4 (sz:=3) E E kR E hK.once hil) E ?_;refine A2 (B1j (off:=1) E hK.once hil kR) E ?_;refine A2 (B1k (u:=vs_) E (hK.once.mono qS) qO kR (by rw [A3m (hK.onceR.lens prT) hr 1 qD]; rfl)) E ?_;refine C7 (aS E a0) kR (Q1 vs_ x.sec _ (hs_.mono qS)) E ?_;rintro r29 M29 J29 ⟨rfl,h29⟩;haveI:=h29.cel;refine as_ (as_ (A0 (D2 4 5) (C0 ?_)));exact ⟨_,[],[],A1s E E E,qZ,E,_,by rw [A0c hf hx]; rfl,by rw [A0c hf hx]; exact h29.mono qS⟩

structure Kys(R:Mem)(kb:Nat)(k:Ks)(M:Mem):Prop where
  ex:∃ (va vg vs vo vm:Value) (rs ro rm:List (List Value)) (Bs Bo Bm:Mem),M=(kb,blk [.int .i64 k.user,.int .i64 k.dev,va,vg,vs,vo,(vU k.next),vm] 87)::(Bs++(Bo++Bm)) ∧
    By R va k.agree∧By R vg k.sign∧Sl 3 vs k.signed.length rs.flatten Bs∧RwL prR R rs k.signed∧Sl 3 vo k.once.length ro.flatten Bo∧RwL prR R ro k.once∧Sl 2 vm k.met.length rm.flatten Bm∧RwL nmR R rm k.met∧k.next < 4294967296∧k.signed.length<=2∧k.once.length<=100∧k.met.length<=100000
theorem Kys.mono{R R':Mem}{kb:Nat}{k:Ks}{M:Mem}(h:Kys R kb k M)(hR:∀ x,x∈R->x∈R'):Kys R' kb k M:=by obtain ⟨va,vg,vs,vo,vm,rs,ro,rm,Bs,Bo,Bm,h1,h2,h3,h4,h5,h6,h7,h8,h9,h10⟩:=h.ex;exact ⟨va,vg,vs,vo,vm,rs,ro,rm,Bs,Bo,Bm,h1,h2.mono hR,h3.mono hR,h4,h5.mono prT hR,h6,h7.mono prT hR,h8,h9.mono nmT hR,h10⟩
theorem Kys.r{R:Mem}{kb:Nat}{k:Ks}{M:Mem}(h:Kys R kb k M):∃ va vg vs vo vm rs ro rm,∀ R',(∀ x,x∈R->x∈R')->(∀ x,x∈M->x∈R')->KyR R' kb k va vg vs vo vm rs ro rm:=by obtain ⟨va,vg,vs,vo,vm,rs,ro,rm,Bs,Bo,Bm,rfl,h2,h3,h4,h5,h6,h7,h8,h9,h10,h11,h12,h13⟩:=h.ex;refine ⟨va,vg,vs,vo,vm,rs,ro,rm,λ R' hR hM=>⟨hM _ qK,h2.mono hR,h3.mono hR,h4.rd λ x hx=>hM x (by simp [hx]),h5.mono prT hR,h6.rd λ x hx=>hM x (by simp [hx]),h7.mono prT hR,h8.rd λ x hx=>hM x (by simp [hx]),h9.mono nmT hR,by omega,by omega,by omega,by omega⟩⟩
noncomputable def Y6(k:Ks)(s:Ps):Nat->Ks×Ps
  | 0=>(k,s)
  | i+1=>({ (Y6 k s i).1 with once:=(Y6 k s i).1.once++[⟨(Y6 k s i).1.next,G5 (Y6 k s i).2,[]⟩],next:=(Y6 k s i).1.next+1 },G3 (Y6 k s i).2)
theorem A49(k:Ks)(s:Ps):∀ i,(Y6 k s i).1.once.length=k.once.length+i
  | 0=>rfl
  | i+1=>by simp [Y6,A49 k s i]; omega
theorem A1F(k:Ks)(s:Ps):∀ i,(Y6 k s i).1.next=k.next+i
  | 0=>rfl
  | i+1=>by simp [Y6,A1F k s i]; omega
theorem A9d(k:Ks)(s:Ps):∀ i,(Y6 k s i).1={ k with once:=(Y6 k s i).1.once,next:=k.next+i }
  | 0=>rfl
  | i+1=>by have h:=A9d k s i;have hn:=A1F k s i;simp only [Y6,hn];rw [h];simp [Nat.add_assoc]
theorem T6(s:Ps):(G3 s).ts.length<=s.ts.length+1∧(G3 s).n=s.n+1:=by
  unfold G3;split
  . exact ⟨by simp,E⟩
  . refine ⟨?_,E⟩;show (add s.ts _).length<=_;unfold add;split <;> simp
theorem A5Z(k:Ks)(s:Ps):∀ i,(Y6 k s i).2.ts.length<=s.ts.length+i∧(Y6 k s i).2.n=s.n+i
  | 0=>⟨Av _,E⟩
  | i+1=>by have h:=A5Z k s i;have h2:=T6 (Y6 k s i).2;simp only [Y6];omega
noncomputable def A50(k:Ks)(s:Ps):Ks×Ps:=Y6 k s (4 - k.once.length)
theorem C12(kb pb:Nat)(k:Ks)(s:Ps)(MK MP A:Mem)(hK:Kys A kb k MK)(hP:Prm pb s MP)(hn:s.ts.length+100<=1048576)(hk:s.n < 1000000000)(hnx:k.next+100 < 4000000000)(hG:Glb A):FnX Tryz.prog 35 [(vP kb),(vP pb)] (MK++MP) A λ q M J=>q=.int .i64 ((4 - k.once.length:Nat):Int)∧∃ MK2 MP2,M=MK2++MP2∧Kys (J++A) kb (A50 k s).1 MK2∧Prm pb (A50 k s).2 MP2:=by
 obtain ⟨va,vg,vs,vo,vm,rs,ro,rm,Bs,Bo,Bm,rfl,hva,hvg,hss,hrs,hso,hro,hsm,hrm,hn1,hn2,hn3,hn4⟩:=hK.ex;haveI:=hva.cel;haveI:=hvg.cel;haveI:=hss.cel;haveI:=hso.cel;haveI:=hsm.cel;refine Cl (N:=42) Tryz.func35 E E E λ w_=>?_;refine A9 (D2 0 1) (A1 (as_ (A0 (D2 0 1) (A1 (as_ (A0 (D6 0 1 5) (A4 ?_)))))));refine A8 ?_;refine E5 (α:=Nat×(Value×List (List Value)×Mem)×Mem×Mem) (λ y=>[(0,(vP kb)),(1,(vP pb)),(5,(vI y.1))]) (λ y=>(kb,blk [.int .i64 k.user,.int .i64 k.dev,va,vg,vs,y.2.1.1,.int .u32 ((k.next+y.1:Nat):Int),vm] 87)::(Bs++(y.2.1.2.2++(Bm++y.2.2.1)))) (λ y=>y.2.2.2) (λ y=>y.1+k.once.length<=max 4 k.once.length∧Sl 3 y.2.1.1 (k.once.length+y.1) y.2.1.2.1.flatten y.2.1.2.2∧RwL prR (y.2.2.2++A) y.2.1.2.1 (Y6 k s y.1).1.once∧Prm pb (Y6 k s y.1).2 y.2.2.1) (λ y=>4 - (k.once.length+y.1)) (0,(vo,ro,Bo),MP,[]) ⟨by dsimp only; omega,hso,hro,hP⟩ (D6 0 1 5) (Ch (B:=[_]) qP (Ch qP (Ch qP (Ch qP (Cf qP))))) qI ?_;rintro ⟨i,⟨voi,roi,Boi⟩,MPi,Ji⟩ ⟨hi,hsi,hri,hPi⟩;dsimp only at hi hsi hri hPi ⊢;haveI:=hsi.cel;have hps:=A5Z k s i;have hnx:=A1F k s i;have hol:=A49 k s i;refine A4 (A1 (mv_ ?_));refine A2 (A9z (e:=87) E E kR) E ?_;refine mv_ ?_;refine F3 E E (Cn qm_ E ?_);refine F3 E E (Cn (E7 E) E ?_);refine F3 E E (Cn (qf_ 5 5) E ?_);refine F3 E E (Cn ql_ E ?_);refine F3 E E (Cn (G6 (sz:=3) E kR (hsi.rd (R:=Boi) λ _ h=>h)) E ?_);refine F3 E E (Cn (F0 E E E) E ?_);refine A2 (G8 E E) E ?_;refine A0 (D8 0 1 5 15) ?_;refine C4 E ?_ ?_ <;> intro hc
 .
  have hlt:k.once.length+i < 4:=by simp at hc; omega
  refine A6 (nx (D6 0 1 5) (A4 (A8 ?_)));refine F8 (MPi) (_) true [0,1,2,3,4,5,6,7,8,9,10,11,12,14,15] (zp 0 [0,0,0,0,1,0,0,0,1,0,2,0,2,2,0,0,2]) kR kR qP λ hs K n0 hKm hKs hKn=>?_;refine km_ hs ?_;refine km_ hs ?_;refine G7 hs E (E7 E) E ?_;refine G7 hs E (qf_ 5 5) E ?_;refine K0 hs E hKs ql_ ?_;refine km_ hs ?_;refine G7 hs E (E7 E) E ?_;refine G7 hs E (qf_ 6 6) E ?_;refine K0 hs E hKs ql_ ?_;refine km_ hs ?_
  refine H3 _ _ E E (Ah _) hKm λ w0=>(D0 (Mc:=MPi) (R:=_) (aS E a0) kR qP (W8 pb (Y6 k s i).2 MPi _ hPi qO qO hG.up) E ?_)
  rintro v28 M28 J28 ⟨hP28,h28⟩ hKx;haveI:=h28.cel;refine G7 hs E (F1 (place:=λ x=>#[(0,1),(1,1),(2,1)][x]?) (z:=[.int .u32 0,vS,vS]) (λ _=>by kernel_rfl) (eS E (eS E e0)) (bdS 0 1 E qR (bdS 1 1 E qR bd0))) E ?_
  refine H3 [] _ rfl rfl (Ah _) (λ _ h=>by cases h) λ w0=>(C5 (e:=83) (sz:=3) (z:=[.int .u32 0,vS,vS]) kR (eS rfl e0) (bdS 0 3 rfl qR bd0) rfl λ b30=>λ _=>?_)
  refine A1Z (M':=(b30,blk [.int .u32 ((k.next+i:Nat):Int),v28,vS] 83)::(M28++((kb,blk [.int .i64 k.user,.int .i64 k.dev,va,vg,vs,voi,.int .u32 ((k.next+i:Nat):Int),vm] 87)::(Bs++(Boi++(Bm++[])))))) qM ?_;refine K5 E E E (H5 (e:=83) (sz:=3) (by_:=56) E E kR E hsi (Co (n:=1) Cc qR) (by intro c hc; simp only [List.mem_cons,List.not_mem_nil,or_false] at hc; rcases hc with rfl | rfl | rfl; rfl; exact h28.one; rfl) qP (by unfold maxLen; omega) qO E λ v31 B31 hs31=>?_);haveI:=hs31.cel;refine G7 hs E (E7 E) E ?_;refine G7 hs E (qf_ 5 5) E ?_;refine K5 E E E (E4 E E hs31.one kR Cq Cs ?_);refine I3 (D6 0 1 5) (C2 (mv_ ?_));refine A2 (E7 E) E ?_;refine A2 (qf_ 6 6) E ?_;refine A2 ql_ E ?_;refine A2 (A8A 4294967296 (a:=k.next+i) (b:=1) E E E E E E qO) E ?_;refine A2 (E7 E) E ?_;refine A2 (qf_ 6 6) E ?_;refine A3 E (E4 E E E kR Cq Cs ?_);refine C6 (nb (nx (D6 0 1 5) (C2 (mv_ ?_))));refine A2 (D7 ((i+1:Nat):Int) E E (F7 qO qO qO)) E ?_;refine as_ (C6 ?_);exact rn (i+1,(v31,roi++[[.int .u32 ((k.next+i:Nat):Int),v28,vS]],B31),_,_) ⟨by dsimp only; omega,by simpa [Nat.add_assoc] using hs31,(hri.mono prT qS).snoc ⟨v28,vS,by rw [hnx],h28.mono qS,By.nil,by dsimp only; omega⟩,hP28⟩ (by dsimp only; omega) (D6 0 1 5) (Ch (B:=[_]) qP (Ch qP (Ch qP (Ch qP (Cf qP))))) qI
 .
  have hge:4<=k.once.length+i:=by simp at hc; omega
  obtain rfl:i=4 - k.once.length:=by omega
  refine D9 (te (re (be E (nx (D5 5) (A1 (mv_ (as_ (A0 (D5 4) ?_))))))));refine C0 ?_;have hfe:=A9d k s (4 - k.once.length);refine ⟨_,(kb,blk [.int .i64 k.user,.int .i64 k.dev,va,vg,vs,voi,.int .u32 ((k.next+(4 - k.once.length):Nat):Int),vm] 87)::(Bs++(Boi++(Bm++MPi))),[],I0 E E,Cg (Ce qM),E,(kb,blk [.int .i64 k.user,.int .i64 k.dev,va,vg,vs,voi,.int .u32 ((k.next+(4 - k.once.length):Nat):Int),vm] 87)::(Bs++(Boi++Bm)),MPi,by simp,⟨⟨va,vg,vs,voi,vm,rs,roi,rm,Bs,Boi,Bm,?_⟩⟩,hPi⟩;unfold A50;rw [hfe];exact ⟨E,hva.mono qS,hvg.mono qS,hss,hrs.mono prT qS,by show Sl 3 voi (Y6 k s (4 - k.once.length)).1.once.length _ _; rw [hol]; exact hsi,hri,hsm,hrm.mono nmT qS,by dsimp only; omega,hn2,by show (Y6 k s (4 - k.once.length)).1.once.length<=100; rw [hol]; omega,hn4⟩

end Go.Proofs.YtjkpfgjfpbihaaaGreatDoor
namespace Go.Px
variable{sz:Nat}
theorem B6g{rows:List (List Value)}{r:List Value}(hl:∀ r∈rows,r.length=sz)(hr:r.length=sz){j:Nat}(hj:j < rows.length) :
    rows.flatten.take (j * sz)++r++rows.flatten.drop (j * sz+sz)=(rows.set j r).flatten:=by
  rw [show j * sz+sz=(j+1) * sz from by rw [Nat.add_mul,Nat.one_mul],A2i hl,A2h hl,List.set_eq_take_append_cons_drop,if_pos hj];simp
variable{zs:List Value}
section
variable{C:Cx}{l:Env}{M J:Mem}{K:Env->Mem->Mem->Prop}{ty t:TypeId}{pos:String}{af:Array Edge}{g:Option (Nat×Bool)}{x y:Operand}{v:Value}{xs:List Value}{n j sz:Nat}{B M0:Mem}
theorem B6h{r:List Value}(hx:ev l x=some (vAt sz j v))(hy:ev l y=some (.agg r.toArray))(h:Sl sz v n xs B)(hr:r.length=sz)(h1:∀ u∈r,u.oneCell'=true)
    (ht:P4 C.P t=some sz) (hj:j < n) (hM:M.Perm (B++M0)) (h2:∀ B',Sl sz v n (xs.take (j * sz)++r++xs.drop (j * sz+sz)) B'->K l (B'++M0) J) :
    OpL C ⟨none,.store t x y,ty,pos,af,g⟩ l M J K:=by
  suffices hh:OpL C ⟨none,.store t x y,ty,pos,af,g⟩ l (B++M0) J K from λ Qp a w ha hw=>hh Qp a w ha (hw.fit (Fit.perm hM) λ _ h=>h)
  clear hM;subst hr;have hjm:j * r.length+r.length<=n * r.length:=by rw [<- Nat.succ_mul]; exact Au _ hj
  rcases h with ⟨p,rfl,rfl,hx2,rfl⟩ | ⟨b,o,cap,cs,e,rfl,rfl,h3,h4,h5,h6,h7⟩
  . omega
  . simp only [vAt,Addr.add_mid] at hx;have hcm:n * r.length<=cap * r.length:=Au _ h3;refine K9 hx hy E ht (by omega) h1 E .hd (h2 [_] (.inr ⟨b,o,cap,_,e,E,E,h3,h4,?_,?_,?_⟩))
    . rw [A1v (by omega)]; exact h5
    . rw [A1v (by omega)]; exact h6
    . intro q u hq;have hlt:=(Ac.1 hq).1;rw [A1v (by omega)] at hlt;by_cases hq1:q < j * r.length
      . rw [A09 (by omega) hq1] at hq;rw [A09 (by omega) (by omega)];exact h7 q u hq
      . by_cases hq2:q < j * r.length+r.length
        . rw [A1u (by omega) (by omega) hq2] at hq;rw [A1u (by omega) (by omega) (by omega),<- hq];congr 1; omega
        . rw [A6w (by omega) (by omega)] at hq;rw [A6w (by omega) (by omega)];exact h7 q u hq
theorem B6i{e:TypeId}{by_:Nat}(hx:ev l x=some (vLo j sz v))(ht:A1H C.P t=some (e,sz,by_))(hz:zn C.P t (n - j)=some zs)(h:Sl sz v n xs B)
    (h1:∀ c∈zs,c.oneCell'=true) (hj:j < n) (hM:M.Perm (B++M0)) (h2:∀ B',Sl sz v n (xs.take (j * sz)++zs) B'->K l (B'++M0) J) :
    OpL C ⟨none,.call { callee:=.builtin .clear,args:=#[x],argTypes:=#[t] },ty,pos,af,g⟩ l M J K:=by
  suffices hh:OpL C ⟨none,.call { callee:=.builtin .clear,args:=#[x],argTypes:=#[t] },ty,pos,af,g⟩ l (B++M0) J K from λ Qp a w ha hw=>hh Qp a w ha (hw.fit (Fit.perm hM) λ _ h=>h)
  clear hM;have hzl:=B6Y hz ht;have hjm:j * sz<=n * sz:=Au _ (by omega);rw [Nat.sub_mul] at hzl;rcases h with ⟨p,rfl,rfl,hx2,rfl⟩ | ⟨b,o,cap,cs,e',rfl,rfl,h3,h4,h5,h6,h7⟩
  . omega
  . have hcm:n * sz<=cap * sz:=Au _ h3;simp only [vLo,if_neg (show ¬ cap=j by omega),Option.map_some,Addr.add_mid] at hx;have hnj:(n - j) * sz=zs.length:=by rw [hzl,Nat.sub_mul]
    refine B0B hx ht hz h1 (by rw [hnj]; omega) E .hd (h2 [_] (.inr ⟨b,o,cap,_,e',E,E,h3,h4,?_,?_,?_⟩))
    . rw [hnj,A1v (by omega)]; exact h5
    . simp; omega
    . intro q u hq;have hlt:=(Ac.1 hq).1;simp at hlt;rw [hnj];by_cases hq1:q < j * sz
      . rw [A09 (by omega) (by omega)];rw [Ak (by simp; omega),Cb hq1] at hq;exact h7 q u hq
      . rw [A1u (by omega) (by omega) (by omega)];rw [Aq (by simp; omega)] at hq;rw [<- hq];congr 1;simp; omega
end
def kpt{β:Type}(p:Nat->Bool)(rows:List β):Nat->List β
  | 0=>[]
  | j+1=>kpt p rows j++(if p j then [] else rows[j]?.toList)
theorem B9y{β:Type}{p:Nat->Bool}{rows:List β}:∀ j,(kpt p rows j).length<=j
  | 0=>Av _
  | j+1=>by
    have h:=B9y (p:=p) (rows:=rows) j;simp only [kpt,List.length_append];split
    . simp; omega
    . have:(rows[j]?.toList).length<=1:=by cases rows[j]? <;> simp
      omega
theorem A75{β:Type}{p:Nat->Bool}{rows:List β}:∀ j,(∀ i,i < j->p i=false)->kpt p rows j=rows.take j
  | 0,_=>by simp [kpt]
  | j+1,h=>by rw [kpt,A75 j λ i hi=>h i (by omega),if_neg (by rw [h j (by omega)]; decide),Bh]
theorem A5a{α:Type}(q:α->Bool)(xs:List α):∀ j,kpt (λ i=>(xs[i]?.map q).getD false) xs j=(xs.take j).filter λ x=>!q x
  | 0=>by simp [kpt]
  | j+1=>by
    rw [kpt,A5a q xs j,Bh,List.filter_append];congr 1
    cases h:xs[j]? with
    | none=>simp
    | some x=>cases hq:q x <;> simp [hq]
theorem RwL.kpt{α:Type}{φ:Mem->α->List Value->Prop}{R:Mem}{rows:List (List Value)}{xs:List α}(h:RwL φ R rows xs)(p:Nat->Bool):∀ j,RwL φ R (Px.kpt p rows j) (Px.kpt p xs j)
  | 0=>RwL.nil
  | j+1=>by
    rw [Px.kpt,Px.kpt];refine (RwL.kpt h p j).app ?_;split
    . exact RwL.nil
    . cases hx:xs[j]? with
      | none =>
        have:rows[j]? = none:=by rw [List.getElem?_eq_none_iff] at hx ⊢; rw [h.len]; exact hx
        rw [this]; exact RwL.nil
      | some x =>
        obtain ⟨r,h1,h2⟩:=h.get j x hx;rw [h1];exact RwL.cons h2 RwL.nil
theorem B6j{α:Type}{cur:List α}{i:Nat}{r:α}(h:i < cur.length):(cur.set i r).take (i+1)=cur.take i++[r]:=by rw [Bh,List.getElem?_set_self h,List.take_set_of_le (Av _)];rfl
theorem Sl.hi_app{n i:Nat}{v:Value}{xs:List Value}{B:Mem}(h:Sl sz v n (xs.take (i * sz)++zs) B)(hx:xs.length=n * sz)(hi:i<=n):Sl sz (vHi i v) i (xs.take (i * sz)) B:=by have h2:=h.hiV i hi;have h3:i * sz<=n * sz:=Au _ hi;rwa [List.take_left' (by rw [Bj]; omega)] at h2
structure Dfs(sz:Nat)(p:Nat->Bool)(rows cur:List (List Value))(j i:Nat):Prop where
  jn:j<=rows.length
  ki:i=(kpt p rows j).length
  ij:i < j
  cl:cur.length=rows.length
  ct:cur.take i=kpt p rows j
  cd:cur.drop j=rows.drop j
  cs:∀ r∈cur,r.length=sz
  cr:∀ r∈cur,r∈rows
section
variable{sz:Nat}{p:Nat->Bool}{rows cur:List (List Value)}{j i i0:Nat}{r:List Value}
theorem Dfs.init(hl:∀ r∈rows,r.length=sz)(hi:i0 < rows.length)(hp:p i0=true)(hq:∀ j,j < i0->p j=false):Dfs sz p rows rows (i0+1) i0:=by
  have hk0:kpt p rows (i0+1)=rows.take i0:=by rw [kpt,hp,A75 i0 hq]; simp
  exact ⟨hi,by rw [hk0,Bj]; omega,by omega,E,hk0.symm,E,hl,λ _ h=>h⟩
theorem Dfs.at_(h:Dfs sz p rows cur j i)(hr:rows[j]? = some r):cur[j]? = some r:=by have h2:=congrArg (λ l=>l[0]?) h.cd;simpa [List.getElem?_drop,hr] using h2
theorem Dfs.keep(h:Dfs sz p rows cur j i)(hr:rows[j]? = some r)(hp:p j=false):Dfs sz p rows (cur.set i r) (j+1) (i+1):=by
  obtain ⟨h1,h2,h3,h4,h5,h6,h7,h8⟩:=h;have hjl:=(Ac.1 hr).1;have hk:kpt p rows (j+1)=kpt p rows j++[r]:=by rw [kpt,hp,hr]; rfl
  have hcj:cur.drop (j+1)=rows.drop (j+1):=by rw [<- List.drop_drop,<- List.drop_drop,h6]
  refine ⟨hjl,by rw [hk]; simp [<- h2],by omega,by simp [h4],?_,?_,?_,?_⟩
  . rw [B6j (by omega),h5,hk]
  . rw [List.drop_set_of_lt (by omega),hcj]
  . intro x hx;rcases Bf hx with hx | hx
    . exact h7 x hx
    . subst hx; exact h7 x (As (Dfs.at_ ⟨h1,h2,h3,h4,h5,h6,h7,h8⟩ hr))
  . intro x hx;rcases Bf hx with hx | hx
    . exact h8 x hx
    . subst hx; exact As hr
theorem Dfs.skip(h:Dfs sz p rows cur j i)(hjl:j < rows.length)(hp:p j=true):Dfs sz p rows cur (j+1) i:=by
  obtain ⟨h1,h2,h3,h4,h5,h6,h7,h8⟩:=h;have hk:kpt p rows (j+1)=kpt p rows j:=by rw [kpt,hp]; simp
  exact ⟨hjl,by rw [hk]; exact h2,by omega,h4,by rw [hk]; exact h5,by rw [<- List.drop_drop,<- List.drop_drop,h6],h7,h8⟩
end
end Go.Px

namespace Go.Proofs.YtjkpfgjfpbihaaaGreatDoor
open Go.Px
theorem B6k{k:IntKind}(c:Int):I8 .eql k c (-1)=some (.bool (decide (c = -1))):=by
  by_cases h:c = -1
  . rw [decide_eq_true h]; exact eqT h
  . rw [decide_eq_false h]; exact eqF h
theorem B0a(v:Value)(rows:List (List Value))(f:FuncId)(cs:List Value)(p:Nat->Bool)(B A:Mem)(hs:Sl 2 v rows.length rows.flatten B)(hl:∀ r∈rows,r.length=2)(h1:∀ c∈rows.flatten,c.oneCell'=true)(hn:rows.length<=1099511627776)(hc_:L0 Tryz.prog f=true)(hf:∀ (j:Nat) (r:List Value),rows[j]? = some r->FnV Tryz.prog f (.agg r.toArray::cs) A (.bool (p j))):FnX Tryz.prog 68 [v,.func (.func f) #[] cs.toArray] B A λ q M J=>Sl 2 q (kpt p rows rows.length).length (kpt p rows rows.length).flatten M:=by
 haveI:=hs.cel;refine Cl (N:=42) Tryz.func68 E E E λ w_=>?_;refine A9 (D2 0 1) (A1 (as_ (A0 (D2 0 1) (A1 (mv_ (mv_ ?_))))));refine E6 (aS E (aS E a0)) kR (A97 v rows f cs p _ (hs.rd λ x hx=>by simp [hx]) hl hn hc_ (λ j r hr=>B2M (hf j r hr) qS)) E ?_;refine as_ (A0 (D6 0 1 5) (A4 (A1 (mv_ ?_))));refine A2 (F5 (decide (A65 p rows.length = -1)) E E (B6k _)) E ?_;refine A0 (D8 0 1 5 12) ?_;refine C4 E ?_ ?_ <;> intro hc
 .
  have hm1:A65 p rows.length = -1:=of_decide_eq_true hc;have hall:∀ i,i < rows.length->p i=false:=by rcases A2X p rows.length with ⟨_,h⟩ | ⟨i,_,h,_,_⟩; exact h; omega
  refine A1 (mv_ (as_ (A0 (D5 4) (C0 (tr ?_)))));refine ⟨_,B,[],I0 E E,Cg (Cf qP),?_⟩;rw [A75 _ hall,List.take_length];exact hs
 .
  have hne:¬ A65 p rows.length = -1:=of_decide_eq_false hc;obtain ⟨i0,hi0,he0,hp0,hq0⟩:∃ i,i < rows.length∧A65 p rows.length=(i:Int)∧p i=true∧∀ j,j < i->p j=false:=(A2X p rows.length).resolve_left λ h=>hne h.1;rw [he0];refine A6 (nx (D6 0 1 5) (A4 (A1 (mv_ ?_))));refine A2 (D7 ((i0+1:Nat):Int) E E (F7 qO qO qO)) E ?_;refine as_ (A0 (D8 0 1 5 6) (A8 ?_));refine E5 (α:=Nat×Nat×List (List Value)×Mem) (λ y=>[(0,v),(1,.func (.func f) #[] cs.toArray),(5,(vI y.2.1)),(6,(vI y.1))]) (λ y=>y.2.2.2) (λ _=>[]) (λ y=>Dfs 2 p rows y.2.2.1 y.1 y.2.1∧Sl 2 v rows.length y.2.2.1.flatten y.2.2.2) (λ y=>rows.length - y.1) (i0+1,i0,rows,B) ⟨Dfs.init hl hi0 hp0 hq0,hs⟩ (D8 0 1 5 6) Fit.rfl qI ?_;rintro ⟨j,i,cur,Bc⟩ ⟨hD,hsc⟩;dsimp only at hD hsc ⊢;have hjn:=hD.jn;have hij:=hD.ij;have hcs:=hD.cs;refine A4 (A1 (mv_ (mv_ ?_)));refine A2 (G6 (sz:=2) E kR (hsc.rd (R:=Bc) λ _ h=>h)) E ?_;refine A2 (F0 E E E) E ?_;refine A0 (E8 0 1 5 6 19) ?_;refine C4 E ?_ ?_ <;> intro hc
  .
   have hlt:j < rows.length:=by simp at hc; omega
   obtain ⟨r,hr⟩:∃ r,rows[j]? = some r:=⟨_,Ab hlt⟩
   have hrc:cur[j]? = some r:=hD.at_ hr;have hrl:r.length=2:=hcs r (As hrc);have hr1:∀ c∈r,c.oneCell'=true:=λ c hc=>h1 c (List.mem_flatten.2 ⟨r,As hr,hc⟩)
   obtain ⟨c0_,c1_,rfl⟩:∃ c0_ c1_,r=[c0_,c1_]:=by match r,hrl with | [c0_,c1_],_=>exact ⟨c0_,c1_,rfl⟩
   refine A6 (nx (D8 0 1 5 6) (A4 (A8 (A1 (mv_ (mv_ ?_))))));refine A2 (H4 (sz:=2) (a:=j) E E kR E (hsc.rd (R:=Bc) λ _ h=>h) hlt) E ?_;refine A2 (A0K E kR (hsc.rd λ x hx=>by simp [hx]) hcs qD hrc) E ?_;refine A3 E (C3 (cs:=[.int .u32 0,vS]) kR E λ b7=>?_);refine A3 E (A7 E E E kR qR hr1 Cs ?_);refine A0 (E8 0 1 5 6 7) (A1 (mv_ ?_));refine A2 (qw_ 2) E ?_;refine A3 E (A1C E (aS E a0) hc_ (B2M (hf j _ hr) qS) E ?_);refine A2 (U0 E) E ?_;refine A0 (H1 0 1 5 6 7 29) ?_;refine C4 E ?_ ?_ <;> intro hc
   . refine A1 (mv_ (mv_ ?_));refine A2 (qw_ 2) E ?_;refine A2 (H4 (sz:=2) (a:=i) E E kR E (hsc.rd (R:=Bc) λ _ h=>h) qO) E ?_;refine A3 E (B6h (sz:=2) (j:=i) E E hsc hrl hr1 kR qO qP λ B33 hs33=>?_);refine A0 (D8 0 1 5 6) (C2 (mv_ ?_));refine A2 (D7 ((i+1:Nat):Int) E E (F7 qO qO qO)) E ?_;refine as_ (C6 (nb (nx (D8 0 1 5 6) (C2 (mv_ ?_)))));refine A2 (D7 ((j+1:Nat):Int) E E (F7 qO qO qO)) E ?_;refine as_ (C6 ?_);exact rn (j+1,i+1,cur.set i [c0_,c1_],B33) ⟨hD.keep hr (by simpa using hc),by rw [<- B6g hcs E (by have:=hD.cl; omega)]; exact hs33⟩ (by dsimp only; omega) (D8 0 1 5 6) (Cf qP) qI
   . refine A6 (nb (nx (D8 0 1 5 6) (C2 (mv_ ?_))));refine A2 (D7 ((j+1:Nat):Int) E E (F7 qO qO qO)) E ?_;refine as_ (C6 ?_);exact rn (j+1,i,cur,Bc) ⟨hD.skip hlt (by simpa using hc),hsc⟩ (by dsimp only; omega) (D8 0 1 5 6) (Cf qP) qI
  .
   have hge:j=rows.length:=by simp at hc; omega
   subst hge;refine D9 (te (re (be E (nx (D2 0 5) (A1 (mv_ (mv_ ?_)))))));refine A2 (A1M (sz:=2) E E kR E (by first | assumption | exact Sl.rd (by assumption) qI | exact By.rd (by assumption)) qO) E ?_;refine A3 E (B6i (e:=154) (by_:=32) (zs:=(Builtin.zeroCells #[.int .u32 0,vS] (rows.length - i)).toList) E kR kR hsc (A2g (by simp [Value.oneCell']) qM _) qO qP λ B38 hs38=>?_);refine A0 (D2 0 5) (A1 (mv_ (mv_ ?_)));refine A2 (A3T (sz:=2) (a:=i) E E kR E (hs38.rd (R:=B38) λ _ h=>h) qO) E ?_;refine as_ (A0 (D5 4) (C0 ?_));refine ⟨_,B38,[],I0 E E,Cg (Cf qP),?_⟩;have h2:=hs38.hi_app (by rw [A8t hcs,hD.cl]) qO;rw [A2i hcs,hD.ct] at h2;rw [<- hD.ki];exact h2

theorem Y7(s:Ps)(w:LN):(N8 s w).ts.length<=s.ts.length+2:=by
  unfold N8;split
  . omega
  . have h1:=U1 (ts:=s.ts) (ws:=w);have h2:=A14 (ts:=rdT s.ts w) (t:=C0B ((rdI s.ts w:Nat):Int));show (add (rdT s.ts w) _).length<=_;omega
theorem A2Y(s:Ps)(w:LN):(N8 s w).n=s.n:=by unfold N8; split <;> rfl
theorem B6l(s:Ps)(w m:LN):(B5V s w m).ts.length<=s.ts.length+2:=by
  unfold B5V;split
  . omega
  . have h1:=U1 (ts:=s.ts) (ws:=w);have h2:=A14 (ts:=rdT s.ts w) (t:=B5o ((rdI s.ts w:Nat):Int) m);show (add (rdT s.ts w) (B5o ((rdI s.ts w:Nat):Int) m)).length<=_;omega
theorem C13(s:Ps)(w m:LN):(B5V s w m).n=s.n:=by unfold B5V; split <;> rfl
theorem B2P(s:Ps)(w:LN):(P7 s w).length=32:=by
  unfold P7;split
  . exact A4h _ _
  . exact A3Y _ qD
noncomputable def B2Q(k:Ks)(s:Ps):Ps:=B5V (N8 (G3 s) (G5 s)) k.sign (A9b k.next (P7 (G3 s) (G5 s)))
noncomputable def turnP(k:Ks)(s:Ps):Pr:=⟨k.next,G5 s,C1T (N8 (G3 s) (G5 s)) k.sign (A9b k.next (P7 (G3 s) (G5 s)))⟩
def B0b(signed:List Pr)(x:Nm):Bool:=!decide (0<=V6 (A4x x.n) signed)
noncomputable def A2Z(k:Ks)(s:Ps):Ks×Ps :=
  ({ k with signed:=(turnP k s::k.signed).take 2,next:=k.next+1,met:=k.met.filter λ x=>!B0b ((turnP k s::k.signed).take 2) x },B2Q k s)
variable{l:List Pr}{rows:List (List Value)}
theorem B2R{n b:Nat}{vi:Value}{A:Mem}(hR:RwL prR A rows l)(hvi:Cel vi [vi])(hb:(b,blk [(vU n),vi] 154)∈A) :
    ∀ (j:Nat) (r:List Value),rows[j]? = some r->FnV Tryz.prog 71 (.agg r.toArray::[(vP b)]) A (.bool ((λ j=>(l[j]?.map (A4x n)).getD false) j)):=λ j r hr=>by
  obtain ⟨x,hx,vs,vg,rfl,hs,hg,_⟩:=hR.of hr;dsimp only;rw [hx];exact A70 vs vg vi x n b _ hs hg hvi hb
theorem B9z(kb b n:Nat)(c0 c1 c2 c3 vq c5 c6 c7 vi:Value)(sg:List Pr)(rs:List (List Value))(A:Mem)(hb:(b,blk [(vP kb)] 54)∈A)(hkb:(kb,blk [c0,c1,c2,c3,vq,c5,c6,c7] 87)∈A)(hvi:Cel vi [vi])(hv:Rd A 3 vq sg.length rs.flatten)(hR:RwL prR A rs sg)(hl:sg.length<=1000000):FnV Tryz.prog 69 [.agg #[(vU n),vi],(vP b)] A (.bool (!decide (0<=V6 (A4x n) sg))):=by haveI:=hv.cel;refine Ck (N:=11) Tryz.func69 E E E λ w=>?_;refine A9 (D2 0 1) (A1 ?_);refine A3 E (bx_ λ b2=>?_);refine as_ (A0 (D2 1 2) (A1 ?_));refine A2 (I2 E kR (mA hb) qR) E ?_;refine A2 (E7 E) E ?_;refine A2 (qf_ 4 4) E ?_;refine A2 (I2 E kR (mA hkb) qR) E ?_;refine A2 (A3z (aS E a0)) E ?_;refine E6 (aS E (aS E a0)) kR (A5X vq rs 71 [(vP b2)] (λ j=>(sg[j]?.map (A4x n)).getD false) _ (by rw [hR.len]; exact hv.mono qS) (hR.lens prT) (by rw [hR.len]; omega) kR (B2R (hR.mono prT qS) hvi Cc)) E ?_;rw [hR.len];refine A2 (U0 E) E ?_;refine as_ (A0 (D5 3) (C0 ?_));exact ⟨_,[],[],I0 E E,Aa _,by simp,E,E,E⟩
theorem B2S{l:List Nm}{kb b:Nat}{c0 c1 c2 c3 vq c5 c6 c7:Value}{sg:List Pr}{rs:List (List Value)}{A:Mem}(hL:RwL nmR A rows l)(hb:(b,blk [(vP kb)] 54)∈A)(hkb:(kb,blk [c0,c1,c2,c3,vq,c5,c6,c7] 87)∈A)(hv:Rd A 3 vq sg.length rs.flatten)(hR:RwL prR A rs sg)(hl:sg.length<=1000000) :
    ∀ (j:Nat) (r:List Value),rows[j]? = some r->FnV Tryz.prog 69 (.agg r.toArray::[(vP b)]) A (.bool ((λ j=>(l[j]?.map (B0b sg)).getD false) j)):=λ j r hr=>by
  obtain ⟨x,hx,vi,rfl,hi,_⟩:=hL.of hr;dsimp only;rw [hx];exact B9z kb b x.n c0 c1 c2 c3 vq c5 c6 c7 vi sg rs A hb hkb hi.cel hv hR hl
theorem C14(kb pb:Nat)(k:Ks)(s:Ps)(MK MP A:Mem)(hK:Kys A kb k MK)(hP:Prm pb s MP)(hn:s.ts.length+100<=1048576)(hk:s.n < 1000000000)(hnx:k.next+100 < 4000000000)(hG:Glb A):FnX Tryz.prog 34 [(vP kb),(vP pb)] (MK++MP) A λ q M J=>∃ MK2 MP2,M=MK2++MP2∧Kys (J++A) kb (A2Z k s).1 MK2∧Prm pb (A2Z k s).2 MP2:=by
 obtain ⟨va,vg,vq,vo,vm,rs,ro,rm,Bs,Bo,Bm,rfl,hva,hvg,hss,hrs,hso,hro,hsm,hrm,hn1,hn2,hn3,hn4⟩:=hK.ex;haveI:=hva.cel;haveI:=hvg.cel;have fl:=T6 s;have pl:=Y7 (G3 s) (G5 s);have pkl:=B2P (G3 s) (G5 s);haveI:=hss.cel;haveI:=hso.cel;haveI:=hsm.cel;refine Cl (N:=68) Tryz.func34 E E E λ w_=>?_;refine A9 (D2 0 1) (A1 ?_);refine A3 E (bx_ λ b2=>?_);refine A0 (D2 1 2) (A4 (A1 ?_));refine A2 ql_ E ?_;refine A2 (F6 (e:=87) E E kR) E ?_;refine A0 (D6 1 2 6) ?_;refine C9 E ?_;refine A6 (nx (D2 1 2) ?_);refine F8 (MP) (_) true (.range 8) (zp 0 [1,0,0,1,0,3,3,4,2]) kR kR qP λ hs K n0 hKm hKs hKn=>?_;refine K0 hs E hKs ql_ ?_;refine G7 hs E (E7 E) E ?_;refine G7 hs E (qf_ 6 6) E ?_;refine K0 hs E hKs ql_ ?_;refine km_ hs ?_
 refine A0O [⟨5,12,none,MP,λ v B R=>Prm pb (G3 (s)) B∧By R v (G5 (s))⟩,⟨6,13,none,[],λ v B R=>B=[]∧∃ u,v=.agg [(vU k.next),u,vS].toArray∧By R u (G5 s)⟩,⟨7,4,none,[],λ v B _=>∃ b,v=(vP b)∧B=[(b,blk [.int .u32 0,vS,vS] 83)]⟩] ((b2,blk [(vP kb)] 54)::((kb,blk [.int .i64 k.user,.int .i64 k.dev,va,vg,vq,vo,(vU k.next),vm] 87)::(Bs++(Bo++Bm)))) (λ bs=>[bs 5,bs 6,bs 7]) (hKn E) (by simp [U2,A0y]) (show ∀ m∈([MP,[],[]]:List Mem),∀ x∈m,K x.1 from A5 (hKm) (A5 gn0 (A5 gn0 (I7)))) kR (λ _=>by first | rfl | kernel_rfl)
  (A5 (λ _ _ _ _ h hp=>⟨hp.1,hp.2.mono h⟩) (A5 (λ _ _ _ _ h ⟨p1,u,p2,p3⟩=>⟨p1,u,p2,p3.mono h⟩) (A5 (λ _ _ _ _ h hp=>hp) (I7)))) nd_ nd_ dl_
  (gC ?_ (gC ?_ (gC ?_ (I7)))) ?_
 . intro _ _ R _ _ hb _ _ _;dsimp only [Gc.inp];refine D0 (Mc:=MP) (R:=[]) (aS E a0) kR qM (W8 pb (s) MP _ hP qO qO (hG.sub λ x hx=>by have:=hb x (by simp [hx]); simp [this])) E ?_;rintro v12 M12 J12 ⟨hP12,h12⟩;exact ⟨_,E,by simpa using hP12,h12.mono λ x hx=>by simp [hx]⟩
 . intro _ _ _ _ _ _ _ _ ha;dsimp only [Gc.inp];have g5:=gx 0 ha;dsimp only at g5;obtain ⟨hP12,h12⟩:=g5;haveI:=h12.cel;exact Cn (F1 (place:=λ x=>#[(0,1),(1,1),(2,1)][x]?) (z:=[.int .u32 0,vS,vS]) (λ _=>by kernel_rfl) (eS E (eS E e0)) (bdS 0 1 E qR (bdS 1 1 E qR bd0))) E ⟨_,E,E,_,E,h12⟩
 .
  intros
  dsimp only [Gc.inp]
  exact C3 (cs:=[.int .u32 0,vS,vS]) kR E λ b=>⟨_,E,b,E,E⟩
 intro vs bs Jn0 hφ hKK;clear hKK;have g5:=gy 0 hφ;have g6:=gy 1 hφ;have g7:=gy 2 hφ;dsimp only at g5 g6 g7;clear hφ;dsimp only [Q0,U2,List.foldr,List.map,List.cons_append,List.nil_append];generalize bs 5=B12,bs 6=B13,bs 7=B4,vs 5=u12,vs 6=u13,vs 7=u4 at *;obtain ⟨hP12,h12⟩:=g5;obtain ⟨b4,rfl,rfl⟩:=g7;obtain ⟨rfl,u,rfl,h12⟩:=g6;haveI:=h12.cel;refine A1Z (M':=B12++((b4,blk [.int .u32 0,vS,vS] 83)::(b2,blk [(vP kb)] 54)::((kb,blk [.int .i64 k.user,.int .i64 k.dev,va,vg,vq,vo,(vU k.next),vm] 87)::(Bs++(Bo++Bm))))) qM ?_;refine K5 E E E (A7 (vs:=[(vU k.next),u,vS]) E E E kR qR (by intro c hc; simp only [List.mem_cons,List.not_mem_nil,or_false] at hc; rcases hc with rfl | rfl | rfl; rfl; exact h12.one; rfl) Cs ?_);refine I3 (D6 1 2 4) ?_;refine F8 (B12) (_) true (.range 14) (zp 0 [0,1,0,0,1,0,1,0,0,1,2,2,2,0,2]) kR kR qP λ hs K n0 hKm hKs hKn=>?_;refine km_ hs ?_;refine K0 hs E hKs ql_ ?_;refine G7 hs E (E7 E) E ?_;refine G7 hs E (qf_ 3 3) E ?_;refine K0 hs E hKs ql_ ?_;refine G7 hs E (qf_ 0 0) E ?_;refine K0 hs E hKs ql_ ?_;refine km_ hs ?_;refine G7 hs E (qf_ 1 1) E ?_;refine K0 hs E hKs ql_ ?_
 refine H3 _ _ E E (Ah _) hKm λ w0=>(D0 (Mc:=B12) (R:=_) (aS E (aS E a0)) kR qP (A1E pb (G3 s) u (G5 s) B12 _ hP12 qO (h12.mono qS) hG.up) E ?_)
 rintro v24 M24 J24 ⟨hP24,h24⟩ hKx;haveI:=h24.cel;refine A1Z (M':=M24++((b4,blk [(vU k.next),u,vS] 83)::(b2,blk [(vP kb)] 54)::((kb,blk [.int .i64 k.user,.int .i64 k.dev,va,vg,vq,vo,(vU k.next),vm] 87)::(Bs++(Bo++Bm))))) qM ?_;generalize hpk:P7 (G3 s) (G5 s)=pk at *;generalize hps:N8 (G3 s) (G5 s)=s2 at *
 refine H3 [] _ rfl rfl (Ah _) (λ _ h=>by cases h) λ w0=>(E2 (aS rfl (aS rfl a0)) kR (A7f k.next v24 pk _ qO (h24.mono qS) qO) rfl ?_)
 rintro v25 M25 J25 ⟨rfl,h25⟩ _;haveI:=h25.cel;generalize hms:A9b k.next pk=wm at *;dsimp only [List.nil_append,List.append_eq]
 refine H3 M24 _ E E qP (λ x hx=>hKx (hKn E) x (by simpa using hx)) λ w0=>(D0 (Mc:=M24) (R:=_) (aS E (aS E (aS E a0))) kR qP (B9q pb s2 vg v25 k.sign wm M24 _ hP24 qO (hvg.mono qS) (h25.mono qS) hG.up) E ?_)
 rintro v26 M26 J26 ⟨hP26,h26⟩ hKx;haveI:=h26.cel;refine G7 hs E (qf_ 2 2) E ?_;refine K5 E E E (E4 E E h26.one kR Cq Cs ?_);refine I3 (D2 2 4) (A1 ?_);refine A2 ql_ E ?_;refine A2 (E7 E) E ?_;refine A2 (qf_ 6 6) E ?_;refine A2 ql_ E ?_;refine A2 (A8A 4294967296 (a:=k.next) (b:=1) E E E E E E qO) E ?_;refine A2 (E7 E) E ?_;refine A2 (qf_ 6 6) E ?_;refine A3 E (E4 E E E kR Cq Cs ?_);refine A0 (D2 2 4) ?_;refine F8 ([]) (_) true (.range 10) [(0,1),(1,1),(3,1),(4,0),(5,0),(6,1),(2,2),(7,2),(8,0),(9,0),(10,2)] kR kR qP λ hs K n0 hKm hKs hKn=>?_;refine K0 hs E hKs ql_ ?_;refine K0 hs E hKs (qw_ 3) ?_;refine K0 hs E hKs ql_ ?_;refine G7 hs E (E7 E) E ?_;refine G7 hs E (qf_ 4 4) E ?_;refine K0 hs E hKs ql_ ?_
 refine H3 [] _ rfl rfl (Ah _) (λ _ h=>by cases h) λ w0=>(C5 (e:=83) (sz:=3) (z:=[.int .u32 0,vS,vS]) kR (eS rfl e0) (bdS 0 3 rfl qR bd0) rfl λ b37=>λ hk37=>?_)
 dsimp only [List.cons_append,List.nil_append,List.append_eq]
 refine H3 [(b37,blk [(vU k.next),u,v26] 83)] _ E E qP (λ x hx=>hk37 (hKn E) x (by simpa using hx)) λ w0=>(H5 (e:=83) (sz:=3) (by_:=56) E E kR E (Sl.fresh (n:=1) (cs:=[(vU k.next),u,v26]) (e:=83) E qD) (hss.rd λ x hx=>by simp [hx]) (hrs.ones prT) qP (by unfold maxLen; omega) qO E λ v42 B42 hs42=>λ _=>?_)
 haveI:=hs42.cel;refine G7 hs E (E7 E) E ?_;refine G7 hs E (qf_ 4 4) E ?_;refine K5 E E E (E4 E E hs42.one kR Cq Cs ?_);refine I3 (D5 2) ?_;refine D1 (.range 14) (zp 0 [1,1,0,0,1,1,0,0,1,0,0,0,0,0,2]) kR kR λ hs=>?_;refine F9 hs E ql_ E ?_;refine F9 hs E ql_ E ?_;refine C8 hs E (E7 E) E ?_;refine C8 hs E (qf_ 4 4) E ?_;refine F9 hs E ql_ E ?_;refine F9 hs E ql_ E ?_;refine C8 hs E (E7 E) E ?_;refine C8 hs E (qf_ 4 4) E ?_;refine F9 hs E ql_ E ?_;refine C8 hs E (G6 (sz:=3) E kR (hs42.rd (R:=B42) λ _ h=>h)) E ?_;refine C8 hs E (C0K E E) E ?_;refine C8 hs E (A3T (sz:=3) (a:=min 2 (1+k.signed.length)) E E kR qO (hs42.rd (R:=B42) λ _ h=>h) qO) E ?_;have hs6:=hs42.hiV (min 2 (1+k.signed.length)) qO;generalize vHi (min 2 (1+k.signed.length)) v42=vq6 at *;haveI:=hs6.cel
 obtain ⟨tp,htp⟩:∃ tp,turnP k s=tp:=⟨_,E⟩
 have htq:tp=⟨k.next,G5 s,C1T s2 k.sign wm⟩:=by rw [<- htp]; unfold turnP; rw [hpk,hps,hms]
 have hrow:prR (J26++(J25++(J24++(Jn0++A)))) tp [(vU k.next),u,v26]:=⟨u,v26,by rw [htq],by rw [htq]; exact h12.mono qS,by rw [htq]; exact h26.mono qS,by rw [htq]; dsimp only; omega⟩
 have hRs:RwL prR (J26++(J25++(J24++(Jn0++A)))) (([(vU k.next),u,v26]::rs).take 2) ((tp::k.signed).take 2):=(RwL.cons hrow (hrs.mono prT qS)).take 2;have hl6:((tp::k.signed).take 2).length=min 2 (1+k.signed.length):=by rw [Bj,List.length_cons]; omega
 have hSg:Sl 3 vq6 ((tp::k.signed).take 2).length (([(vU k.next),u,v26]::rs).take 2).flatten B42:=by
  have e1:[(vU k.next),u,v26]++rs.flatten=([(vU k.next),u,v26]::rs).flatten:=rfl;have e2:min 2 (1+k.signed.length)=min 2 ([(vU k.next),u,v26]::rs).length:=by rw [List.length_cons,hrs.len]; omega
  rw [e1,A2i ((RwL.cons hrow (hrs.mono prT qS)).lens prT),e2,<- List.take_eq_take_min,<- e2,<- hl6] at hs6;exact hs6
 refine C8 hs E (E7 E) E ?_;refine C8 hs E (qf_ 4 4) E ?_;refine G1 E E E (E4 E E hs6.one kR Cq Cs ?_);refine E3 (D5 2) ?_;refine X9 (Bm) (_) true (.range 9) (zp 0 [1,1,0,0,1,0,2,0,0,2]) kR kR qP λ hs K n0 hKm hKs hKn=>?_;refine K0 hs E hKs ql_ ?_;refine K0 hs E hKs ql_ ?_;refine G7 hs E (E7 E) E ?_;refine G7 hs E (qf_ 7 7) E ?_;refine K0 hs E hKs ql_ ?_;refine G7 hs E (A3z (aS E a0)) E ?_
 refine H3 _ _ E E (Ah _) hKm λ w0=>(D0 (Mc:=Bm) (R:=_) (aS E (aS E a0)) kR qP (by rw [<- hrm.len] at hsm; exact B0a vm rm 69 [(vP b2)] (λ j=>(k.met[j]?.map (B0b ((tp::k.signed).take 2))).getD false) Bm _ hsm (hrm.lens nmT) (hrm.ones nmT) (by rw [hrm.len]; omega) kR (B2S (hrm.mono nmT qS) Cc Cc (hSg.rd λ x hx=>by simp [hx]) (hRs.mono prT qS) (by rw [hl6]; omega))) E ?_)
 rintro v65 M65 J65 h65 _;haveI:=h65.cel;refine G7 hs E (E7 E) E ?_;refine G7 hs E (qf_ 7 7) E ?_;refine K5 E E E (E4 E E h65.one kR Cq Cs ?_);refine A3a ?_;have hkm:=hrm.kpt (λ j=>(k.met[j]?.map (B0b ((tp::k.signed).take 2))).getD false) rm.length;rw [A5a,hrm.len,List.take_length] at hkm;rw [hrm.len] at h65;have htK:A2Z k s=({ k with signed:=(tp::k.signed).take 2,next:=k.next+1,met:=k.met.filter λ x=>!B0b ((tp::k.signed).take 2) x },B5V s2 k.sign wm):=by unfold A2Z B2Q; rw [htp,hpk,hps,hms]
 rw [htK];have hkl:(k.met.filter λ x=>!B0b ((tp::k.signed).take 2) x).length<=100000:=Az (List.length_filter_le _ _) hn4;refine ⟨_,(kb,blk [.int .i64 k.user,.int .i64 k.dev,va,vg,vq6,vo,.int .u32 ((k.next+1:Nat):Int),v65] 87)::(B42++(Bo++(M65++M26))),[],A8p E,Cg (Ch (B:=[_]) qP (Ch qP (Ch qP (Ch qP (Cf qP))))),(kb,blk [.int .i64 k.user,.int .i64 k.dev,va,vg,vq6,vo,.int .u32 ((k.next+1:Nat):Int),v65] 87)::(B42++(Bo++M65)),M26,by simp,⟨⟨va,vg,vq6,vo,v65,_,ro,_,B42,Bo,M65,E,hva.mono qS,hvg.mono qS,hSg,hRs.mono prT qS,hso,hro.mono prT qS,?_,hkm.mono nmT qS,by dsimp only; omega,by dsimp only; rw [hl6]; omega,hn3,hkl⟩⟩,hP26⟩;rw [hkm.len] at h65;exact h65

noncomputable def idS(k:Ks)(s:Ps):Ps:=N8 (N8 s k.agree) k.sign
noncomputable def idA(k:Ks)(s:Ps):LN:=P7 s k.agree
noncomputable def idG(k:Ks)(s:Ps):LN:=C1S (N8 s k.agree) k.sign
theorem A4j(k:Ks)(s:Ps):(idS k s).ts.length<=s.ts.length+4:=by have h1:=Y7 s k.agree;have h2:=Y7 (N8 s k.agree) k.sign;unfold idS; omega
theorem A9e(k:Ks)(s:Ps):(A2Z k s).2.ts.length<=s.ts.length+5∧(A2Z k s).2.n=s.n+1:=by have h1:=T6 s;have h2:=Y7 (G3 s) (G5 s);have h3:=B6l (N8 (G3 s) (G5 s)) k.sign (A9b k.next (P7 (G3 s) (G5 s)));have h4:=C13 (N8 (G3 s) (G5 s)) k.sign (A9b k.next (P7 (G3 s) (G5 s)));have h5:=A2Y (G3 s) (G5 s);show (B2Q k s).ts.length<=_∧(B2Q k s).n=_;unfold B2Q;omega
theorem B0c(k:Ks)(s:Ps):(A2Z k s).1.next=k.next+1:=rfl
theorem B6m(k:Ks)(s:Ps):(A50 k s).2.ts.length<=s.ts.length+4∧(A50 k s).2.n<=s.n+4∧(A50 k s).1.next<=k.next+4:=by have h1:=A5Z k s (4 - k.once.length);have h2:=A1F k s (4 - k.once.length);unfold A50;omega
def k0N(u d:Int)(s:Ps):Ks:=⟨u,d,G5 s,G5 (G3 s),[],[],1,[]⟩
noncomputable def B0v(u d:Int)(s:Ps):Ks×Ps:=A50 (A2Z (k0N u d s) (G3 (G3 s))).1 (A2Z (k0N u d s) (G3 (G3 s))).2
theorem B2T(u d:Int)(s:Ps):(B0v u d s).2.ts.length<=s.ts.length+11∧(B0v u d s).2.n<=s.n+7∧(B0v u d s).1.next<=6:=by have h1:=T6 s;have h2:=T6 (G3 s);have h3:=A9e (k0N u d s) (G3 (G3 s));have h4:=B6m (A2Z (k0N u d s) (G3 (G3 s))).1 (A2Z (k0N u d s) (G3 (G3 s))).2;have h5:(A2Z (k0N u d s) (G3 (G3 s))).1.next=2:=rfl;unfold B0v;omega
structure Bn where
  user:Int
  dev:Int
  ia:LN
  ig:LN
  signed:Nat
  key:LN
  sig:LN
  has:Bool
  once:Nat
  oncek:LN
def bnR(R:Mem)(x:Bn)(r:List Value):Prop:=∃ va vg vk vs vo,r=[.int .i64 x.user,.int .i64 x.dev,va,vg,(vU x.signed),vk,vs,.bool x.has,(vU x.once),vo]∧By R va x.ia∧By R vg x.ig∧By R vk x.key∧By R vs x.sig∧By R vo x.oncek∧x.signed < 4294967296∧x.once < 4294967296
theorem bnT:RowT 10 bnR:=⟨λ R R' x r hR ⟨va,vg,vk,vs,vo,h1,h2,h3,h4,h5,h6,h7⟩=>⟨va,vg,vk,vs,vo,h1,h2.mono hR,h3.mono hR,h4.mono hR,h5.mono hR,h6.mono hR,h7⟩,λ R x r ⟨va,vg,vk,vs,vo,h1,_⟩=>by rw [h1]; rfl,λ R x r ⟨va,vg,vk,vs,vo,h1,h2,h3,h4,h5,h6,_⟩=>by
  rw [h1]
  exact A5 E (A5 E (A5 h2.one (A5 h3.one (A5 E (A5 h4.one (A5 h5.one (A5 E (A5 E (A5 h6.one I7)))))))))⟩
noncomputable def C15(k:Ks)(x:Pr)(s:Ps):Bn:=⟨k.user,k.dev,idA k s,idG k s,x.n,P7 (idS k s) x.sec,x.sig,false,0,[]⟩
noncomputable def A51(b:Bn)(l:List Pr)(s:Ps):Nat->List Bn×Ps
  | 0=>([b],s)
  | i+1=>match l[i]? with
    | none=>A51 b l s i
    | some o=>((A51 b l s i).1++[{ b with has:=true,once:=o.n,oncek:=P7 (A51 b l s i).2 o.sec }],N8 (A51 b l s i).2 o.sec)
theorem A4k{b:Bn}{s:Ps}{i:Nat}{o:Pr}(h:l[i]? = some o):A51 b l s (i+1)=((A51 b l s i).1++[{ b with has:=true,once:=o.n,oncek:=P7 (A51 b l s i).2 o.sec }],N8 (A51 b l s i).2 o.sec):=by simp only [A51,h]
theorem A9f{b:Bn}{l:List Pr}{s:Ps}:∀ {i:Nat},i<=l.length->(A51 b l s i).1.length=i+1∧(A51 b l s i).2.ts.length<=s.ts.length+2 * i
  | 0,_=>⟨E,Av _⟩
  | i+1,h=>by have ih:=A9f (b:=b) (s:=s) (i:=i) (l:=l) qO;rw [A4k (Ab qO)];have h2:=Y7 (A51 b l s i).2 (l[i]'qO).sec;refine ⟨by simp [ih.1],?_⟩;show (N8 _ _).ts.length<=_;omega
noncomputable def B2U(k:Ks)(s:Ps):List Bn×Ps:=match k.signed with
  | []=>([],s)
  | x::_=>A51 (C15 k x s) k.once (N8 (idS k s) x.sec) k.once.length
theorem A52(pb:Nat)(s:Ps)(kb:Nat)(k:Ks)(va vg vq vo vm:Value)(rs ro rm:List (List Value))(MP A:Mem)(hK:KyR A kb k va vg vq vo vm rs ro rm)(hP:Prm pb s MP)(hn:s.ts.length+100<=1048576)(hG:Glb A):FnX Tryz.prog 20 [(vP kb),(vP pb)] MP A λ q M J=>Prm pb (idS k s) M∧∃ p r,q=.agg #[p,r]∧By J p (idA k s)∧By J r (idG k s):=by
 have hkb:=hK.blk_;haveI:=hK.agree.cel;haveI:=hK.sign.cel;haveI:=hK.signed.cel;haveI:=hK.once.cel;haveI:=hK.met.cel;have pl:=Y7 s k.agree;refine Cl (N:=21) Tryz.func20 E E E λ w_=>?_;refine A9 (D2 0 1) (A1 ?_);refine A3 E (C3 (cs:=[vS,vS]) kR E λ b4=>?_);refine A0 (D6 0 1 4) (A4 (A1 (mv_ ?_)));refine A2 (F6 (e:=87) E E kR) E ?_;refine A0 (D8 0 1 4 6) ?_;refine C9 E ?_;refine A6 (nx (D6 0 1 4) ?_);refine F8 (MP) (_) true (.range 13) [(0,0),(1,0),(2,0),(3,0),(4,1),(6,0),(7,0),(8,0),(9,0),(10,1),(5,2),(11,2),(12,0),(13,2)] kR kR qP λ hs K n0 hKm hKs hKn=>?_;refine km_ hs ?_;refine km_ hs ?_;refine G7 hs E (E7 E) E ?_;refine G7 hs E (qf_ 2 2) E ?_;refine K0 hs E hKs (I2 E kR (mA hkb) qR) ?_;refine km_ hs ?_;refine km_ hs ?_;refine G7 hs E (E7 E) E ?_;refine G7 hs E (qf_ 3 3) E ?_;refine K0 hs E hKs (I2 E kR (mA hkb) qR) ?_
 refine H3 _ _ E E (Ah _) hKm λ w0=>(D0 (Mc:=MP) (R:=_) (aS E (aS E (a0))) kR qP (A1E pb s va k.agree MP _ hP qO (hK.agree.mono qS) hG.up) E ?_)
 rintro v13 M13 J13 ⟨hP13,h13⟩ hKx13;haveI:=h13.cel
 refine H3 M13 _ E E qP (λ x hx=>hKx13 (hKn E) x (by simpa using hx)) λ w0=>(D0 (Mc:=M13) (R:=_) (aS E (aS E (a0))) kR qP (B2D pb (N8 s k.agree) vg k.sign M13 _ hP13 qO (hK.sign.mono qS) hG.up) E ?_)
 rintro v19 M19 J19 ⟨hP19,h19⟩ hKx19;haveI:=h19.cel;refine G7 hs E (F1 (place:=λ x=>#[(0,1),(1,1)][x]?) (z:=[vS,vS]) (λ _=>by kernel_rfl) (eS E (eS E e0)) (bdS 0 1 E qR (bdS 1 1 E qR bd0))) E ?_;refine K5 E E E (A7 (vs:=[v13,v19]) E E E kR qR (A5 h13.one (A5 h19.one I7)) Cs ?_);refine I3 (D5 4) (C0 ?_);exact ⟨_,M19,[],A00 E E kR Cc qR,Cg (Cf qP),hP19,_,_,E,h13.mono qS,h19.mono qS⟩
theorem C16(u d:Int)(pb:Nat)(s:Ps)(MP A:Mem)(hP:Prm pb s MP)(hn:s.ts.length+200<=1048576)(hk:s.n+100 < 1000000000)(hG:Glb A):FnX Tryz.prog 16 [(vP pb),.agg #[.int .i64 u,.int .i64 d]] MP A λ q M J=>∃ kb MK MP2,q=(vP kb)∧M=MK++MP2∧Kys (J++A) kb (B0v u d s).1 MK∧Prm pb (B0v u d s).2 MP2:=by
 have f1:=T6 s;have f2:=T6 (G3 s);have f3:=A9e (k0N u d s) (G3 (G3 s));refine Cl (N:=20) Tryz.func16 E E E λ w_=>?_;refine A9 (D2 0 1) (A1 ?_);refine A3 E (bx_ λ b3=>?_);refine as_ (A0 (D2 0 3) ?_);refine F8 (MP) (_) true (.range 8) [(0,1),(1,0),(3,0),(2,2),(4,2),(5,0),(6,2),(7,0)] kR kR qP λ hs K n0 hKm hKs hKn=>?_;refine K0 hs E hKs (qw_ 2) ?_;refine km_ hs ?_;refine km_ hs ?_
 refine H3 _ _ E E (Ah _) hKm λ w0=>(D0 (Mc:=MP) (R:=_) (aS E (a0)) kR qP (W8 pb s MP _ hP qO qO hG.up) E ?_)
 rintro v8 M8 J8 ⟨hP8,h8⟩ hKx8;haveI:=h8.cel
 refine H3 M8 _ E E qP (λ x hx=>hKx8 (hKn E) x (by simpa using hx)) λ w0=>(D0 (Mc:=M8) (R:=_) (aS E (a0)) kR qP (W8 pb (G3 s) M8 _ hP8 qO qO hG.up) E ?_)
 rintro v10 M10 J10 ⟨hP10,h10⟩ hKx10;haveI:=h10.cel;refine G7 hs E (F1 (place:=λ x=>#[(0,2),(2,1),(3,1),(4,1),(5,1),(6,1),(7,1)][x]?) (z:=[P5,P5,vS,vS,vS,vS,D3,vS]) (λ _=>by kernel_rfl) (eS E (eS E (eS E (eS E e0)))) (bdS 0 2 E qR (bdS 2 1 E qR (bdS 3 1 E qR (bdS 6 1 E qR bd0))))) E ?_
 refine H3 [] _ rfl rfl (Ah _) (λ _ h=>by cases h) λ w0=>(B4u rfl (by first | exact Cd | rfl) rfl λ b12=>λ hk12=>?_)
 dsimp only [List.cons_append,List.nil_append,List.append_eq];refine G7 hs E (G4 E) E ?_;refine I3 (D2 0 5) (A1 (mv_ (mv_ ?_)));refine A3 E (D0 (Mc:=(b12,blk [.int .i64 u,.int .i64 d,v8,v10,vS,vS,(vU 1),vS] 87)::M10) (R:=_) (aS E (aS E a0)) kR qP (C14 b12 pb (k0N u d s) (G3 (G3 s)) [(b12,blk [.int .i64 u,.int .i64 d,v8,v10,vS,vS,(vU 1),vS] 87)] M10 _ ⟨⟨v8,v10,_,_,_,[],[],[],[],[],[],E,h8.mono qS,h10.mono qS,Sl.nil,RwL.nil,Sl.nil,RwL.nil,Sl.nil,RwL.nil,show 1 < 4294967296 by decide,Am _,Am _,Am _⟩⟩ hP10 qO qO (show 1+100 < 4000000000 by decide) hG.up) E ?_);rintro v15 M15 J15 ⟨MK15,MP15,rfl,hK15,hP15⟩;refine A0 (D2 0 5) (A1 (mv_ (mv_ ?_)));refine A3 E (D0 (Mc:=MK15++MP15) (R:=_) (aS E (aS E a0)) kR qP (C12 b12 pb _ _ MK15 MP15 _ (hK15.mono qS) hP15 qO qO (by rw [B0c]; show 1+1+100 < 4000000000; decide) hG.up) E ?_);rintro v18 M18 J18 ⟨rfl,MK18,MP18,rfl,hK18,hP18⟩;refine A0 (D5 5) (A1 (mv_ (as_ (A0 (D5 4) (C0 ?_)))));exact ⟨_,MK18++MP18,[(b3,blk [.int .i64 u,.int .i64 d] 27)],I0 E E,Ch (B:=[_]) qP (Cf qP),_,MK18,MP18,E,E,hK18.mono qS,hP18⟩
theorem B2V(pb:Nat)(s:Ps)(kb:Nat)(k:Ks)(va vg vq vo vm:Value)(rs ro rm:List (List Value))(x:Pr)(sl:List Pr)(MP A:Mem)(hK:KyR A kb k va vg vq vo vm rs ro rm)(hsg:k.signed=x::sl)(hP:Prm pb s MP)(hn:s.ts.length+100<=1048576)(hol:k.once.length<=10)(hG:Glb A):FnX Tryz.prog 10 [(vP kb),(vP pb)] MP A λ q M J=>Prm pb (B2U k s).2 M∧∃ rows,Rd J 10 q (B2U k s).1.length rows.flatten∧RwL bnR (J++A) rows (B2U k s).1:=by
 have hkb:=hK.blk_;haveI:=hK.agree.cel;haveI:=hK.sign.cel;haveI:=hK.signed.cel;haveI:=hK.once.cel;haveI:=hK.met.cel;have il:=A4j k s;obtain ⟨r0,hr0,vs_,vg_,rfl,hs_,hg_,hxn⟩:=hK.signedR.get 0 x (by rw [hsg]; rfl);haveI:=hs_.cel;haveI:=hg_.cel;refine Cl (N:=62) Tryz.func10 E E E λ w_=>?_;refine A9 (D2 0 1) (A1 (as_ (A0 (D2 0 1) (A4 (A1 (mv_ ?_))))));refine A2 (F6 (e:=87) E E kR) E ?_;refine A0 (D6 0 1 12) ?_;refine C9 E ?_;refine A6 (nx (D2 0 1) (A1 (mv_ ?_)));refine A2 (E7 E) E ?_;refine A2 (qf_ 4 4) E ?_;refine A2 (I2 E kR (mA hkb) qR) E ?_;refine A2 (H4 (sz:=3) (a:=0) E E kR E hK.signed (by rw [hsg]; simp)) E ?_;refine A2 (A0K E kR (hK.signed.mono qS) (hK.signedR.lens prT) qD hr0) E ?_;refine A3 E (C3 (cs:=[.int .u32 0,vS,vS]) kR E λ b5=>?_);refine A3 E (A7 (vs:=[(vU x.n),vs_,vg_]) E E E kR qR (A5 E (A5 hs_.one (A5 hg_.one I7))) Cs ?_);refine A0 (D6 0 1 5) ?_;refine F8 (MP) (_) true (.range 17) [(0,0),(1,0),(2,0),(3,1),(4,0),(5,0),(7,0),(8,1),(9,0),(10,0),(11,1),(13,0),(14,1),(6,3),(12,3),(15,3),(16,4),(17,2)] kR kR qP λ hs K n0 hKm hKs hKn=>?_;refine km_ hs ?_;refine G7 hs E (E7 E) E ?_;refine G7 hs E (qf_ 0 0) E ?_;refine K0 hs E hKs (I1 (n:=2) E kR (mA hkb) Cr) ?_;refine km_ hs ?_;refine km_ hs ?_;refine G7 hs E (qf_ 0 0) E ?_;refine K0 hs E hKs ql_ ?_;refine km_ hs ?_;refine G7 hs E (qf_ 1 1) E ?_;refine K0 hs E hKs ql_ ?_;refine G7 hs E (qf_ 2 2) E ?_;refine K0 hs E hKs ql_ ?_
 refine A0O [⟨6,25,none,MP,λ v B R=>Prm pb (idS k s) B∧∃ p q,v=.agg #[p,q]∧By R p (idA k s)∧By R q (idG k s)⟩,⟨12,31,some 6,[],λ v B R=>Prm pb (N8 (idS k s) x.sec) B∧By R v (P7 (idS k s) x.sec)⟩,⟨15,34,none,[],λ v B R=>B=[]∧∃ p q u,v=.agg #[.int .i64 k.user,.int .i64 k.dev,p,q,(vU x.n),u,vg_,.bool false,(vU 0),vS]∧By R p (idA k s)∧By R q (idG k s)∧By R u (P7 (idS k s) x.sec)⟩,⟨16,6,none,[],λ v B _=>∃ b,v=(vP b)∧B=[(b,blk [.int .i64 0,.int .i64 0,vS,vS,.int .u32 0,vS,vS,.bool false,.int .u32 0,vS] 61)]⟩] (_) (λ bs=>[bs 12,bs 15,bs 16]) (hKn E) (Ah _) (show ∀ m∈([MP,[],[]]:List Mem),∀ x∈m,K x.1 from A5 (hKm) (A5 gn0 (A5 gn0 (I7)))) kR (λ _=>by first | rfl | kernel_rfl)
  (A5 (λ _ _ _ _ h ⟨p1,p,q,e,p2,p3⟩=>⟨p1,p,q,e,p2.mono h,p3.mono h⟩) (A5 (λ _ _ _ _ h ⟨p1,p2⟩=>⟨p1,p2.mono h⟩) (A5 (λ _ _ _ _ h ⟨p1,p,q,u,e,p2,p3,p4⟩=>⟨p1,p,q,u,e,p2.mono h,p3.mono h,p4.mono h⟩) (A5 (λ _ _ _ _ h hp=>hp) (I7))))) nd_ nd_ dl_
  (gC ?_ (gC ?_ (gC ?_ (gC ?_ (I7))))) ?_
 . intro _ _ R _ _ hb _ _ _;dsimp only [Gc.inp];refine D0 (Mc:=MP) (R:=[]) (aS E (aS E (a0))) kR qM (A52 pb s kb k va vg vq vo vm rs ro rm MP _ (hK.mono (λ x hx=>by have:=hb x (by simp [hx]); simp [this])) hP qO (hG.sub (λ x hx=>by have:=hb x (by simp [hx]); simp [this]))) E ?_;rintro v25 M25 J25 ⟨hP25,p,q,rfl,hp,hq⟩;exact ⟨_,E,by simpa using hP25,p,q,E,hp.mono λ x hx=>by simp [hx],hq.mono λ x hx=>by simp [hx]⟩
 . intro vs bs R _ _ hb _ _ ha;dsimp only [Gc.inp];have g6:=gx 0 ha;dsimp only at g6;obtain ⟨hP25,-⟩:=g6;refine D0 (Mc:=bs 6) (R:=[]) (aS E (aS E (a0))) kR qM (A1E pb (idS k s) vs_ x.sec (bs 6) _ hP25 qO (hs_.mono (λ x hx=>by have:=hb x (by simp [hx]); simp [this])) (hG.sub (λ x hx=>by have:=hb x (by simp [hx]); simp [this]))) E ?_;rintro v31 M31 J31 ⟨hP31,h31⟩;exact ⟨_,E,by simpa using hP31,h31.mono λ x hx=>by simp [hx]⟩
 . intro _ _ _ _ _ _ _ _ ha;dsimp only [Gc.inp];have g6:=gx 0 ha;dsimp only at g6;have g12:=gx 1 ha;dsimp only at g12;obtain ⟨-,h31⟩:=g12;obtain ⟨-,p,q,e25,hp,hq⟩:=g6;haveI:=h31.cel;haveI:=hp.cel;haveI:=hq.cel;dsimp only [Q0,List.map,List.cons_append,List.nil_append];rw [e25];exact Cn (F1 (place:=λ x=>#[(0,2),(2,2),(4,1),(5,1),(6,1),(7,1),(8,1),(9,1)][x]?) (z:=[P5,P5,vS,vS,D3,vS,vS,.bool false,D3,vS]) (λ _=>by kernel_rfl) (eS E (eS E (eS E (eS E (eS E e0))))) (bdS 0 2 E qR (bdS 2 2 E qR (bdS 4 1 E qR (bdS 5 1 E qR (bdS 6 1 E qR bd0)))))) E ⟨_,E,E,p,q,_,E,hp,hq,h31⟩
 .
  intros
  dsimp only [Gc.inp]
  exact C3 (cs:=[P5,P5,vS,vS,D3,vS,vS,.bool false,D3,vS]) kR E λ b=>⟨_,E,b,E,E⟩
 intro vs bs Jn0 hφ hKK;clear hKK;have g6:=gy 0 hφ;have g12:=gy 1 hφ;have g15:=gy 2 hφ;have g16:=gy 3 hφ;dsimp only at g6 g12 g15 g16;clear hφ;dsimp only [Q0,U2,List.foldr,List.map,List.cons_append,List.nil_append];generalize bs 6=B25,bs 12=B31,bs 15=B34,bs 16=B6,vs 6=u25,vs 12=u31,vs 15=u34,vs 16=u6 at *;obtain ⟨hP31,h31⟩:=g12;clear g6;obtain ⟨b6,rfl,rfl⟩:=g16;obtain ⟨rfl,p,q,u,rfl,hp,hq,hu⟩:=g15;haveI:=hp.cel;haveI:=hq.cel;haveI:=hu.cel
 obtain ⟨bb,hbb⟩:∃ bb,C15 k x s=bb:=⟨_,E⟩
 obtain ⟨s2,hs2⟩:∃ s2,N8 (idS k s) x.sec=s2:=⟨_,E⟩
 rw [hs2] at hP31;have hs2l:s2.ts.length<=s.ts.length+6:=by have:=Y7 (idS k s) x.sec; rw [hs2] at this; omega
 have hbun:B2U k s=A51 bb k.once s2 k.once.length:=by unfold B2U; rw [hsg,<- hbb,<- hs2]
 rw [hbun]
 have hbr:∀ R,(∀ y,y∈Jn0++[]++A->y∈R)->bnR R bb [.int .i64 k.user,.int .i64 k.dev,p,q,(vU x.n),u,vg_,.bool false,(vU 0),vS]:=λ R hR=>⟨p,q,u,vg_,_,by rw [<- hbb]; rfl,by rw [<- hbb]; exact hp.mono hR,by rw [<- hbb]; exact hq.mono hR,by rw [<- hbb]; exact hu.mono hR,by rw [<- hbb]; exact hg_.mono λ y hy=>hR y (Ai _ hy),by rw [<- hbb]; exact By.nil,by rw [<- hbb]; exact hxn,by rw [<- hbb]; show 0 < 4294967296; decide⟩
 refine K5 E E E (A7 (vs:=[.int .i64 k.user,.int .i64 k.dev,p,q,(vU x.n),u,vg_,.bool false,(vU 0),vS]) E E E kR qR (A5 E (A5 E (A5 hp.one (A5 hq.one (A5 E (A5 hu.one (A5 hg_.one al3))))))) Cs ?_);refine I3 (D6 0 1 6) ?_;refine Y5 (B:=[(b6,blk [.int .i64 k.user,.int .i64 k.dev,p,q,(vU x.n),u,vg_,.bool false,(vU 0),vS] 61)]) qP ?_;refine A1 ?_;refine A2 (qw_ 10) E ?_;refine A3 E (C5 (e:=61) (sz:=10) (z:=[P5,P5,vS,vS,D3,vS,vS,.bool false,D3,vS]) kR (eS E e0) (bdS 0 10 E qR bd0) E λ b36=>?_);refine as_ (A0 (D8 0 1 6 7) (A4 (A1 (mv_ ?_))));refine A2 (E7 E) E ?_;refine A2 (qf_ 5 5) E ?_;refine A2 (I2 E kR (mA hkb) qR) E ?_;refine A2 (G6 (sz:=3) E kR hK.once) E ?_;refine mv_ (A0 (H1 1 6 7 40 41 42) (A8 ?_));refine E5 (α:=Nat×(Value×List (List Value)×Mem)×Mem×Mem) (λ y=>[(1,(vP pb)),(6,(vP b6)),(7,y.2.1.1),(40,vo),(41,(vI k.once.length)),(42,(vI y.1))]) (λ y=>y.2.1.2.2++y.2.2.1) (λ y=>y.2.2.2) (λ y=>y.1<=k.once.length∧Sl 10 y.2.1.1 (y.1+1) y.2.1.2.1.flatten y.2.1.2.2∧RwL bnR (y.2.2.2++A) y.2.1.2.1 (A51 bb k.once s2 y.1).1∧Prm pb (A51 bb k.once s2 y.1).2 y.2.2.1∧(b6,blk [.int .i64 k.user,.int .i64 k.dev,p,q,(vU x.n),u,vg_,.bool false,(vU 0),vS] 61)∈y.2.2.2∧∀ z,z∈Jn0++[]++A->z∈y.2.2.2++A) (λ y=>k.once.length - y.1) (0,(.slice (some ⟨b36,0,none⟩) 1 1,[[.int .i64 k.user,.int .i64 k.dev,p,q,(vU x.n),u,vg_,.bool false,(vU 0),vS]],[(b36,_)]),B31,_) ⟨Am _,Sl.fresh (n:=1) (cs:=[.int .i64 k.user,.int .i64 k.dev,p,q,(vU x.n),u,vg_,.bool false,(vU 0),vS]) (e:=61) E qD,RwL.cons (hbr _ qS) RwL.nil,hP31,by simp,qS⟩ (H1 1 6 7 40 41 42) (Ch (B:=[_]) qP (Cf qP)) qI ?_;rintro ⟨i,⟨vi,ri,Bi⟩,MPi,Ji⟩ ⟨hi,hsi,hri,hPi,hJb,hJn⟩;dsimp only at hi hsi hri hPi hJb hJn ⊢;haveI:=hsi.cel;have hbl:=A9f (b:=bb) (s:=s2) hi;refine A1 ?_;refine A2 (F0 E E E) E ?_;refine A0 (N9 1 6 7 40 41 42 43) (A4 ?_);refine C4 E ?_ ?_ <;> intro hc
 .
  have hlt:i < k.once.length:=by simp at hc; omega
  obtain ⟨o,ho⟩:∃ o,k.once[i]? = some o:=⟨_,Ab hlt⟩
  obtain ⟨r1,hr1,vo1,vo2,rfl,ho1,ho2,hon⟩:=hK.onceR.get i o ho;haveI:=ho1.cel;haveI:=ho2.cel;have hbs:=A4k (b:=bb) (s:=s2) ho;refine A6 (nx (H1 1 6 7 40 41 42) (A4 (A8 (A1 ?_))));refine A2 (H4 (sz:=3) E E kR E hK.once hlt) E ?_;refine A2 (A0K E kR (hK.once.mono qS) (hK.onceR.lens prT) qD hr1) E ?_;refine A3 E (C3 (cs:=[.int .u32 0,vS,vS]) kR E λ b9=>?_);refine A3 E (A7 (vs:=[(vU o.n),vo1,vo2]) E E E kR qR (A5 E (A5 ho1.one (A5 ho2.one I7))) Cs ?_);refine A0 (N9 1 6 7 9 40 41 42) (A1 ?_);refine A2 (H6 (n:=10) E kR (Ai _ (Ae _ hJb)) qR) E ?_;refine A3 E (C3 (cs:=[P5,P5,vS,vS,D3,vS,vS,.bool false,D3,vS]) kR E λ b10=>?_);refine A3 E (A7 (vs:=[.int .i64 k.user,.int .i64 k.dev,p,q,(vU x.n),u,vg_,.bool false,(vU 0),vS]) E E E kR qR (A5 E (A5 E (A5 hp.one (A5 hq.one (A5 E (A5 hu.one (A5 hg_.one al3))))))) Cs ?_);refine A0 (W4 1 6 7 9 10 40 41 42) ?_;refine F8 (MPi++[(b10,blk [.int .i64 k.user,.int .i64 k.dev,p,q,(vU x.n),u,vg_,.bool false,(vU 0),vS] 61)]) (_) true [0,1,2,3,4,5,6,7,8,10] [(0,0),(1,1),(2,0),(3,0),(4,1),(6,0),(5,2),(7,2),(8,0),(9,2),(10,0),(11,2)] kR kR qP λ hs K n0 hKm hKs hKn=>?_;refine G7 hs E (qf_ 0 0) E ?_;refine K0 hs E hKs ql_ ?_;refine km_ hs ?_;refine G7 hs E (qf_ 1 1) E ?_;refine K0 hs E hKs ql_ ?_;refine G7 hs E (qf_ 7 7) E ?_
  refine H3 MPi _ E E qP (λ y hy=>hKm y (by simp [hy])) λ w0=>(D0 (Mc:=MPi) (R:=_) (aS E (aS E (a0))) kR qP (A1E pb _ vo1 o.sec MPi _ hPi qO (ho1.mono qS) hG.up) E ?_)
  rintro v52 M52 J52 ⟨hP52,h52⟩ hKx52;haveI:=h52.cel
  refine H3 [(b10,blk [.int .i64 k.user,.int .i64 k.dev,p,q,(vU x.n),u,vg_,.bool false,(vU 0),vS] 61)] _ E E qP (λ y hy=>hKm y (by simp at hy; simp [hy])) λ w0=>(E4 E E E kR Cq Cs ?_)
  intro hkS;dsimp only [List.cons_append,List.nil_append,List.append_eq];refine G7 hs E (qf_ 8 8) E ?_;refine K5 E E E (E4 E E E kR Cq Cs ?_);refine G7 hs E (qf_ 9 9) E ?_;refine K5 E E E (E4 E E h52.one kR Cq Cs ?_);refine I3 (N9 1 6 7 10 40 41 42) (C2 (mv_ ?_));refine A2 (qw_ 10) E ?_;refine A3 E (C5 (e:=61) (sz:=10) (z:=[P5,P5,vS,vS,D3,vS,vS,.bool false,D3,vS]) kR (eS E e0) (bdS 0 10 E qR bd0) E λ b58=>?_);refine A3 E (H5 (e:=61) (sz:=10) (by_:=152) E E kR E hsi (Co (n:=1) Cc qR) (A5 E (A5 E (A5 hp.one (A5 hq.one (A5 E (A5 hu.one (A5 hg_.one (A5 E (A5 E (A5 h52.one I7)))))))))) qP (by unfold maxLen; omega) qO E λ v59 B59 hs59=>?_);refine as_ (C6 (nb (nx (H1 1 6 7 40 41 42) (C2 ?_))));refine A2 (D7 ((i+1:Nat):Int) E E (F7 qO qO qO)) E ?_;refine mv_ (C6 ?_);exact rn (i+1,(v59,ri++[[.int .i64 k.user,.int .i64 k.dev,p,q,(vU x.n),u,vg_,.bool true,(vU o.n),v52]],B59),M52,_) ⟨by dsimp only; omega,by simpa using hs59,by dsimp only; rw [hbs]; exact (hri.mono bnT qS).snoc ⟨p,q,u,vg_,v52,by rw [<- hbb]; rfl,by rw [<- hbb]; exact hp.mono λ z hz=>qS z (hJn z hz),by rw [<- hbb]; exact hq.mono λ z hz=>qS z (hJn z hz),by rw [<- hbb]; exact hu.mono λ z hz=>qS z (hJn z hz),by rw [<- hbb]; exact hg_.mono qS,h52.mono qS,by rw [<- hbb]; exact hxn,hon⟩,by dsimp only; rw [hbs]; exact hP52,Ai _ hJb,λ z hz=>qS z (hJn z hz)⟩ (by dsimp only; omega) (H1 1 6 7 40 41 42) (Ch qP (Cf qP)) qI
 .
  have hge:i=k.once.length:=by simp at hc; omega
  subst hge;refine D9 (te (re (be E (nx (D5 7) (A1 (mv_ (as_ (A0 (D5 4) ?_))))))));refine C0 ?_;exact ⟨_,MPi,Bi,I0 E E,Ch qP (Cf qP),hPi,ri,by rw [hbl.1]; exact hsi.rd λ x hx=>by simp [hx],hri.mono bnT qS⟩

theorem B2W(h:(l.map (·.n)).Pairwise (· < ·)):B9x l:=by intro i j x y hij hx hy;have h1:=List.pairwise_iff_getElem.1 h i j (by rw [List.length_map]; exact (Ac.1 hx).1) (by rw [List.length_map]; exact (Ac.1 hy).1) hij;obtain ⟨hi,ei⟩:=Ac.1 hx;obtain ⟨hj,ej⟩:=Ac.1 hy;simp only [List.getElem_map,ei,ej] at h1;exact h1
end Go.Proofs.YtjkpfgjfpbihaaaGreatDoor
