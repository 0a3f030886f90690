/- Part 12 of the texts of this claim, one behind the other. -/
import Derived.Test.YtgpjndfgjjlhaaaGreatDoorB11
set_option linter.unusedVariables false
set_option linter.unusedSimpArgs false
set_option maxRecDepth 100000
noncomputable section
namespace Go.Proofs.YtgpjndfgjjlhaaaGreatDoor
open Go.Px
def ixB(s:Ps)(w:LN)(c:Nat->Bool):Bool:=(List.range s.ts.length).any λi=>w==bts ((i:Nat):Int)&&c i
variable{s:Ps}{w:LN}
theorem A55{c:Nat->Bool}(h:ixB s w c=true):∃i,i<s.ts.length∧w=bts ((i:Nat):Int)∧c i=true:=by obtain ⟨i,h1,h2⟩:=List.any_eq_true.1 h;rw [Bool.and_eq_true] at h2;exact ⟨i,List.mem_range.1 h1,eq_of_beq h2.1,h2.2⟩
def tqB(t u:Tm):Bool:=t.kind==u.kind&&t.of==u.of&&t.text==u.text&&t.n==u.n
theorem B5M{i:Nat}{u:Tm}(hi:i<s.ts.length)(h:tqB (s.ts.getD i (B1z 0)) u=true):s.ts[i]? = some u:=by rw [Aj,Ab hi] at h;rw [Ab hi];simp only [tqB,Option.getD_some,Bool.and_eq_true,beq_iff_eq] at h;obtain ⟨⟨⟨a,b⟩,c⟩,d⟩:=h;generalize s.ts[i]=t at a b c d;obtain ⟨k,of,tx,n⟩:=t;obtain ⟨k',of',tx',n'⟩:=u;dsimp only at a b c d;rw [a,b,c,d]
def kkB(s:Ps)(w:LN):Bool:=ixB s w (λ_=>true)&&(w.all (λx=>Nat.ble x 255)&&Nat.beq w.length 32)
theorem A3e(h:kkB s w=true):KK s w:=by simp only [kkB,Bool.and_eq_true] at h;obtain ⟨i,h1,h2,-⟩:=A55 h.1;exact ⟨λ_=>⟨i,h1,h2⟩,λx hx=>by have:=Nat.le_of_ble_eq_true (List.all_eq_true.1 h.2.1 x hx);omega,Nat.eq_of_beq_eq_true h.2.2⟩
def puB(s:Ps)(w p:LN):Bool:=ixB s w λi=>ixB s p λj=>tqB (s.ts.getD j (B1z 0)) (B0Z ((i:Nat):Int))
theorem B9y{p:LN}(hr:s.real=false)(h:puB s w p=true):T0 s w p:=by obtain ⟨i,h1,h2,h3⟩:=A55 h;obtain ⟨j,k1,k2,k3⟩:=A55 h3;unfold T0;rw [if_neg (by rw [hr];decide)];exact ⟨i,j,h1,h2,B5M k1 k3,k2⟩
def frB(s:Ps)(w:LN)(n:Nat):Bool:=ixB s w λi=>tqB (s.ts.getD i (B1z 0)) (B1z n)
theorem B5N{n:Nat}(hl:s.ts.length<=1000)(h:frB s w n=true):FrT s w n:=by obtain ⟨i,h1,h2,h3⟩:=A55 h;exact ⟨i,by omega,h2,B5M h1 h3⟩
def trB(s:Ps)(root a b R C:LN):Bool:=ixB s a λi=>ixB s b λj=>(List.range s.ts.length).any λm=>tqB (s.ts.getD m (B1z 0)) (B85 i j)&&Fo.f (bts ((m:Nat):Int)) λk=>Fo.f (A5f s root [k] A2u 2) λL=>Nat.beq (A39 s root [k] A2u 2).ts.length s.ts.length&&(L.getD 0 []==R&&(L.getD 1 []==C&&(kkB s root&&kkB s k)))
theorem C4l{root a b R C:LN}(hr:s.real=false)(h:trB s root a b R C=true):TrnAt s root a b R C:=by
  obtain ⟨i,h1,h2,h3⟩:=A55 h;obtain ⟨j,k1,k2,k3⟩:=A55 h3;obtain ⟨m,m1,m2⟩:=List.any_eq_true.1 k3;have m1:=List.mem_range.1 m1;simp only [Fo.e,Bool.and_eq_true,beq_iff_eq] at m2;obtain ⟨n1,n2,n3,n4,n5,n6⟩:=m2;refine ⟨bts ((m:Nat):Int),_,(A3l.f hr).2 ⟨i,j,m,h1,k1,h2,k2,B5M m1 n1,E⟩,⟨?_,E,λw hw=>?_⟩,n3,n4⟩
  . have he:=(A8a s root [bts ((m:Nat):Int)] A2u 2).p;obtain ⟨l,e⟩:=he.ts;have n2:=Nat.eq_of_beq_eq_true n2;have e2:l=[]:=Bd (by rw [e,An] at n2;omega);rw [e2,List.append_nil] at e;rw [A3K hr] at e ⊢;dsimp only at e;rw [e]
  . rcases List.mem_cons.1 hw with rfl|hw
    . exact A3e n5
    . rw [List.mem_singleton.1 hw];exact A3e n6
def lkB(L:List (LN×LN))(s:Ps)(p q:Rsd)(o:LN):Bool:=!s.real&&(((s.ts.all tmQ&&Fo.f (s.ts.map tcd) ndC)&&C10 L s.ts)&&((kkB s p.own&&(kkB s p.root&&(kkB s p.sk&&(kkB s q.own&&(kkB s q.root&&(kkB s q.sk&&kkB s o))))))&&(trB s p.root p.own q.own q.root q.sk&&(puB s p.own q.their&&(puB s o p.their&&(frB s o 10&&(frB s p.own (s.n-1)&&(frB s q.own s.n&&(q.tk==p.sk&&(Nat.beq q.tn p.sn&&(Nat.beq q.sn 0&&(Nat.ble p.sn 1&&(p.sks.isEmpty&&(q.sks.isEmpty&&(p.tk.isEmpty&&(Nat.ble p.prev 1&&(Nat.ble q.prev 1&&(Nat.ble p.tn 1&&(Nat.ble s.ts.length 560&&(Nat.ble s.n 100&&Nat.ble 17 s.n))))))))))))))))))))
theorem C4m{L:List (LN×LN)}{p q:Rsd}{o:LN}(h:lkB L s p q o=true):LTe 0 s p q:=by
  simp only [lkB,Bool.and_eq_true,Bool.not_eq_true',beq_iff_eq,List.isEmpty_iff] at h;obtain ⟨hr,⟨ht,hs⟩,⟨k1,k2,k3,k4,k5,k6,k7⟩,t1,u1,u2,f1,f2,f3,e1,e2,e3,e4,e5,e6,e7,e8,e9,e10,e11,e12,e13⟩:=h;have e2:=Nat.eq_of_beq_eq_true e2;have e3:=Nat.eq_of_beq_eq_true e3;have e4:=Nat.le_of_ble_eq_true e4;have e8:=Nat.le_of_ble_eq_true e8;have e9:=Nat.le_of_ble_eq_true e9;have e10:=Nat.le_of_ble_eq_true e10;have e11:=Nat.le_of_ble_eq_true e11;have e12:=Nat.le_of_ble_eq_true e12;have e13:=Nat.le_of_ble_eq_true e13;have k1:=A3e k1;have k3:=A3e k3;have k6:=A3e k6;have u1:=B9y hr u1;have u2:=B9y hr u2;have c32:∀ {w:LN},KK s w->w≠[]:=λhw e=>by have:=hw.2.2;rw [e] at this;cases this
  exact ⟨o,10,s.n-1,s.n,hr,⟨A9j (by rw [Bool.and_eq_true];exact ⟨allQ ht.1,ht.2⟩),A7d L hs⟩,⟨k1,A3e k2,.inr k3,.inl e7,.inr ⟨o,(A3e k7).2,u2⟩,λx hx=>by (rw [e5] at hx;cases hx),λh=>absurd e7 h⟩,
    ⟨A3e k4,A3e k5,.inr k6,.inr (by rw [e1];exact k3),.inr ⟨p.own,k1.2,u1⟩,λx hx=>by (rw [e6] at hx;cases hx),λ_=>c32 u1.kk⟩,C4l hr t1,u1,u2,B5N qO f1,B5N qO f2,B5N qO f3,by omega,by omega,by omega,e1,e2,e3,by omega,c32 k3,c32 k6,e5,e6,.inl e7,by omega,by omega,by omega,by omega,by omega⟩
def wtB(w:LN):Bool:=w.all (λx=>Nat.ble x 255)&&Nat.ble w.length 1000
theorem C4n(h:wtB w=true):WT w:=by rw [wtB,Bool.and_eq_true] at h;exact ⟨λx hx=>by have:=Nat.le_of_ble_eq_true (List.all_eq_true.1 h.1 x hx);omega,Nat.le_of_ble_eq_true h.2⟩
def sqB(x t:Ses):Bool:=t.id==x.id&&(t.wi==x.wi&&(Nat.beq t.id.length 32&&(Nat.ble t.wi.length 1000&&wtB (wG true t))))
theorem C4o{x t:Ses}(h:sqB x t=true)(he:t.he=he0):SQ WT x t:=by simp only [sqB,Bool.and_eq_true,beq_iff_eq] at h;obtain ⟨h1,h2,h3,h4,h5⟩:=h;exact ⟨h1,h2,Nat.eq_of_beq_eq_true h3,Nat.le_of_ble_eq_true h4,by rw [he];exact (by decide:0+0+0<=1000),C4n h5⟩
def pfB:List Tm->List Tm->Bool
  | [],_=>true
  | t::l,u::m=>tqB t u&&pfB l m
  | _::_,[]=>false
theorem B9z:∀ {l m:List Tm},pfB l m=true->∃r,m=l++r
  | [],m,_=>⟨m,E⟩
  | t::l,u::m,h=>by simp only [pfB,tqB,Bool.and_eq_true,beq_iff_eq] at h;obtain ⟨⟨⟨⟨a,b⟩,c⟩,d⟩,h⟩:=h;obtain ⟨r,rfl⟩:=B9z h;obtain ⟨k,of,tx,n⟩:=t;obtain ⟨k',of',tx',n'⟩:=u;dsimp only at a b c d;rw [a,b,c,d];exact ⟨r,E⟩
  | _::_,[],h=>by cases h
def C52(A B:Ks)(s:Ps)(I:List (LN))(L:List (LN×LN))(c:Ps->List (LN)->List (LN×LN)->Bool):Bool:=Fo.f (A7k B s) λU=>Fo.f (U.1.getD 0 rcO) λy=>Fo.f (sX A y U.2) λx=>Fo.f (sD A y U.2) λd=>decide (C37 A U y∧SnF d x 0 1 1 1∧s.ts.length<=900∧s.n<=100)&&(Fo.f (evS d x x.he 0 1 1 1 B1E) λe=>Fo.f (wiW x x.he 0 1 1 1) λw=>Fo.f (W5 d x.r w B1E) λs'=>Fo.f (W9 x (K3 d x.r)) λx'=>Fo.f (L++[(alW w e.hk e.hp e.hn,B1E)]) λL'=>C5Z L' B e s' B1E λX O=>Fo.f (Q7 X O.2) λt=>lkB L' O.1 x'.r t.r X.r.own&&(sqB x' t&&(I.all (λi=>!(i==x'.id))&&(pfB s.ts O.1.ts&&(s.seed==O.1.seed&&(Nat.ble s.n O.1.n&&c O.1 (I++[x'.id]) L'))))))
def C4Q(A B:Ks):Nat->Ps->List (LN)->List (LN×LN)->Bool
  | 0,_,_,_=>true
  | n+1,s,I,L=>C52 A B s I L (C4Q A B n)
theorem C16{A B:Ks}(n:Nat):∀(s:Ps) (l:List (Ses×Ses)) (L:List (LN×LN)),s.real=false->C4Q A B n s (l.map (·.1.id)) L=true->Nam l->(∀y∈l,SQ WT y.1 y.2∧LTe 0 s y.1.r y.2.r)->OlP A B n s l:=by
  induction n with
  | zero=>exact λ_ _ _ _ _ _ _=>trivial
  | succ n ih =>
    intro s l L hr h hn hl;replace h:C52 A B s (l.map (·.1.id)) L (C4Q A B n)=true:=h;unfold C52 at h;simp only [Fo.e] at h;rw [Bool.and_eq_true,decide_eq_true_eq] at h;obtain ⟨⟨h1,h2,h3,h4⟩,h⟩:=h;obtain ⟨c1,h⟩:=C11 (e:=olE A B s) (s:=olS A B s) h;simp only [Fo.e,Bool.and_eq_true,beq_iff_eq] at h;obtain ⟨k1,k2,k3,k4,k5,k6,h⟩:=h;have k1:LTe 0 (anO B (olE A B s) (olS A B s)).1 (olZ A B s).r (Q7 (anX B (olE A B s) (olS A B s)) (anO B (olE A B s) (olS A B s)).2).r:=C4m k1;have g:=k1.g;have k2:SQ WT (olZ A B s) (Q7 (anX B (olE A B s) (olS A B s)) (anO B (olE A B s) (olS A B s)).2):=C4o k2 rfl
    have hE:Ext s (anO B (olE A B s) (olS A B s)).1:=⟨⟨g.re.trans hr.symm,B9z k4⟩,k5.symm,Nat.le_of_ble_eq_true k6⟩
    have hN:Nam (l++[(olZ A B s,Q7 (anX B (olE A B s) (olS A B s)) (anO B (olE A B s) (olS A B s)).2)]):=by
      refine ⟨λy hy=>?_,?_⟩
      . rcases List.mem_append.1 hy with hy|hy
        . exact hn.a y hy
        . rw [List.mem_singleton.1 hy];exact ⟨k2.id.symm,E,E⟩
      . rw [List.map_append,List.map_singleton];refine List.nodup_append.2 ⟨hn.d,List.pairwise_singleton _ _,λa ha b hb e=>?_⟩;rw [List.mem_singleton.1 hb] at e;have:=List.all_eq_true.1 k3 a ha;rw [e] at this;change (!((olZ A B s).id==(olZ A B s).id))=true at this;rw [beq_self_eq_true] at this;cases this
    have hl':∀y∈l++[(olZ A B s,Q7 (anX B (olE A B s) (olS A B s)) (anO B (olE A B s) (olS A B s)).2)],SQ WT y.1 y.2∧LTe 0 (anO B (olE A B s) (olS A B s)).1 y.1.r y.2.r:=λy hy=>by
      rcases List.mem_append.1 hy with hy|hy
      . obtain ⟨q1,q2⟩:=hl y hy;exact ⟨q1,q2.ext hE g (Av _) qD⟩
      . rw [List.mem_singleton.1 hy];exact ⟨k2,k1⟩
    refine ⟨_,_,_,⟨⟨h3,h4⟩,h1,h2,E,_,_,_,_,C39 c1,E⟩,hN,B0v lo_t 12 0 _ _ g (λj x t hj=>?_) qD,ih _ _ _ g.re (by rw [List.map_append];exact h) hN hl'⟩;obtain ⟨q1,q2⟩:=hl' _ (As hj);exact ⟨q1,lo_t.ks (.inl q2),λ_=>.inl q2⟩

end Go.Proofs.YtgpjndfgjjlhaaaGreatDoor
