/- Part 8 of the texts of this claim, one behind the other. -/
import Derived.Test.YtgpjndfgjjlhaaaGreatDoorB7
import Derived.Laws.StructEq
set_option linter.unusedVariables false
set_option linter.unusedSimpArgs false
set_option maxRecDepth 100000
open Go.Proofs.Tryz
noncomputable section
namespace Go.Proofs.YtgpjndfgjjlhaaaGreatDoor
open Go.Px
theorem B4s{P:Program}{f:FuncId}{args:List Value}{A A':Mem}{v:Value}(h:FnV P f args A v)(hs:∀x,x∈A->x∈A'):FnV P f args A' v:=by
  intro w hw;refine Calls.mono (h w ⟨hw.os,hw.tape,hw.output,hw.size,hw.frame,λb o hb=>hw.mem b o (by simpa using hs _ (by simpa using hb)),hw.nodup,hw.own,hw.sepJ,λb o hb=>hw.sepA b o (hs _ hb),hw.old⟩) ?_;rintro e w' ⟨r,M',J',rfl,⟨rfl,rfl,rfl⟩,h2⟩;refine ⟨_,[],[],E,⟨E,E,E⟩,⟨h2.os,h2.tape,h2.output,h2.size,h2.frame,λb o hb=>?_,h2.nodup,h2.own,h2.sepJ,λb o hb=>hw.sepA b o hb,h2.old⟩⟩;have hb':(b,o)∈A':=by simpa using hb
  have h3:=h2.frame b (hw.sepA b o hb').2 qM;rw [h3];exact hw.mem b o (by simpa using hb')
structure Pr where
  n:Nat
  sec:LN
  sig:LN
structure Nm where
  n:Nat
  id:LN
def prR(R:Mem)(x:Pr)(r:List Value):Prop:=∃vs vg,r=[(vU x.n),vs,vg]∧By R vs x.sec∧By R vg x.sig∧x.n<4294967296
theorem prT:RowT 3 prR:=⟨λR R' x r hR ⟨vo,vk,h1,h2,h3,h4⟩=>⟨vo,vk,h1,h2.mono hR,h3.mono hR,h4⟩,λR x r ⟨vo,vk,h1,_⟩=>by rw [h1];rfl,λR x r ⟨vo,vk,h1,h2,h3,_⟩ c hc=>by
  rw [h1] at hc;simp only [Cz,Da,or_false] at hc;rcases hc with rfl|rfl|rfl
  . rfl
  . exact h2.one
  . exact h3.one⟩
def nmR(R:Mem)(x:Nm)(r:List Value):Prop:=∃vi,r=[(vU x.n),vi]∧By R vi x.id∧x.n<4294967296
theorem nmT:RowT 2 nmR:=⟨λR R' x r hR ⟨vi,h1,h2,h4⟩=>⟨vi,h1,h2.mono hR,h4⟩,λR x r ⟨vi,h1,_⟩=>by rw [h1];rfl,λR x r ⟨vi,h1,h2,_⟩ c hc=>by
  rw [h1] at hc;simp only [Cz,Da,or_false] at hc;rcases hc with rfl|rfl
  . rfl
  . exact h2.one⟩
theorem eq32(a b:Nat):H8 .eql .u32 ((a:Nat):Int) ((b:Nat):Int)=some (.bool (decide (a=b))):=by
  by_cases h:a=b
  . rw [decide_eq_true h];exact eqT qO
  . rw [decide_eq_false h];exact eqF qO
theorem A5U(v:Value)(rows:List (List Value))(f:FuncId)(cs:List Value)(p:Nat->Bool)(A:Mem)(hv:Rd A 3 v rows.length rows.flatten)(hl:∀r∈rows,r.length=3)(hn:rows.length<=1099511627776)(hc_:K1 prog f=true)(hf:∀(j:Nat) (r:List Value),rows[j]? = some r->FnV prog f (.agg r.toArray::cs) A (.bool (p j))):FnV prog 80 [v,.func (.func f) #[] cs.toArray] A (.int .i64 (A7i p rows.length)):=by
 haveI:=hv.cel;refine Cn (N:=19) func80 E E E λw=>?_;refine A8 (D0 0 1) (A1 (as_ (A0 (D0 0 1) (A3 (A1 (mv_ ?_))))));refine lQ_ (F8 (sz:=3) E kR hv) ?_;refine mv_ (A0 (D7 0 1 7 8) (A6 ?_));refine E0 (α:=Nat) (λi=>[(0,v),(1,.func (.func f) #[] cs.toArray),(7,(vI rows.length)),(8,.int .i64 (i:Int))]) (λ_=>[]) (λ_=>[]) (λi=>i<=rows.length∧∀j,j<i->p j=false) (λi=>rows.length-i) 0 ⟨Am _,λj h=>absurd h (Nat.not_lt_zero j)⟩ (D7 0 1 7 8) .rfl qI ?_;rintro i ⟨hi,hp⟩;refine A1 (lQ_ (E3 E E E) (A0 (E9 0 1 7 8 9) (A3 ?_)));refine C2 E ?_ ?_<;>intro hc
 .
  have hlt:i<rows.length:=by simp at hc;omega
  obtain ⟨r,hr⟩:∃r,rows[i]? = some r:=⟨_,Ab hlt⟩
  refine A4 (nx (D7 0 1 7 8) (A3 (A6 (A1 (mV_ E (aS_ E (A0 (E9 0 1 5 7 8) (A1 (mv_ (mv_ (mv_ ?_)))))))))));refine lQ_ (G4 (sz:=3) E E kR E hv hlt) ?_;refine lQ_ (A0y E kR (hv.mono qS) hl qD hr) ?_;refine A2 E (A1f E (aS E a0) hc_ (hf i r hr) E ?_);refine A0 (G9 0 1 5 7 8 16) ?_;refine C2 E ?_ ?_<;>intro hc
  . refine A1 (mV_ E (aS_ E (A0 (D1 4) (A9 (br (tr (rr (br (tr ?_)))))))));exact ⟨_,[],[],H2 E E,Aa _,by simp,by rw [A0D hlt hp hc],E,E⟩
  . refine A4 (nb (nx (D7 0 1 7 8) (C1 ?_)));refine lQ_ (I9 (b:=1) E E E E qO) ?_;refine mv_ (C5 ?_);exact rn (i+1) ⟨hlt,λj hj=>by rcases Nat.lt_succ_iff_lt_or_eq.1 hj with h|h;exact hp j h;rw [h];exact hc⟩ qO (D7 0 1 7 8) .rfl qI
 .
  have hge:i=rows.length:=by simp at hc;omega
  subst hge;refine D6 (te (re (be E (nx kn (A1 (aS_ E (A0 (D1 4) (A9 ?_))))))));exact ⟨_,[],[],H2 E E,Aa _,by simp,by rw [A0E hp],E,E⟩
theorem B1b(v:Value)(rows:List (List Value))(f:FuncId)(cs:List Value)(p:Nat->Bool)(A:Mem)(hv:Rd A 2 v rows.length rows.flatten)(hl:∀r∈rows,r.length=2)(hn:rows.length<=1099511627776)(hc_:K1 prog f=true)(hf:∀(j:Nat) (r:List Value),rows[j]? = some r->FnV prog f (.agg r.toArray::cs) A (.bool (p j))):FnV prog 79 [v,.func (.func f) #[] cs.toArray] A (.int .i64 (A7i p rows.length)):=by
 haveI:=hv.cel;refine Cn (N:=19) func79 E E E λw=>?_;refine A8 (D0 0 1) (A1 (as_ (A0 (D0 0 1) (A3 (A1 (mv_ ?_))))));refine lQ_ (F8 (sz:=2) E kR hv) ?_;refine mv_ (A0 (D7 0 1 7 8) (A6 ?_));refine E0 (α:=Nat) (λi=>[(0,v),(1,.func (.func f) #[] cs.toArray),(7,(vI rows.length)),(8,.int .i64 (i:Int))]) (λ_=>[]) (λ_=>[]) (λi=>i<=rows.length∧∀j,j<i->p j=false) (λi=>rows.length-i) 0 ⟨Am _,λj h=>absurd h (Nat.not_lt_zero j)⟩ (D7 0 1 7 8) .rfl qI ?_;rintro i ⟨hi,hp⟩;refine A1 (lQ_ (E3 E E E) (A0 (E9 0 1 7 8 9) (A3 ?_)));refine C2 E ?_ ?_<;>intro hc
 .
  have hlt:i<rows.length:=by simp at hc;omega
  obtain ⟨r,hr⟩:∃r,rows[i]? = some r:=⟨_,Ab hlt⟩
  refine A4 (nx (D7 0 1 7 8) (A3 (A6 (A1 (mV_ E (aS_ E (A0 (E9 0 1 5 7 8) (A1 (mv_ (mv_ (mv_ ?_)))))))))));refine lQ_ (G4 (sz:=2) E E kR E hv hlt) ?_;refine lQ_ (A0y E kR (hv.mono qS) hl qD hr) ?_;refine A2 E (A1f E (aS E a0) hc_ (hf i r hr) E ?_);refine A0 (G9 0 1 5 7 8 16) ?_;refine C2 E ?_ ?_<;>intro hc
  . refine A1 (mV_ E (aS_ E (A0 (D1 4) (A9 (br (tr (rr (br (tr ?_)))))))));exact ⟨_,[],[],H2 E E,Aa _,by simp,by rw [A0D hlt hp hc],E,E⟩
  . refine A4 (nb (nx (D7 0 1 7 8) (C1 ?_)));refine lQ_ (I9 (b:=1) E E E E qO) ?_;refine mv_ (C5 ?_);exact rn (i+1) ⟨hlt,λj hj=>by rcases Nat.lt_succ_iff_lt_or_eq.1 hj with h|h;exact hp j h;rw [h];exact hc⟩ qO (D7 0 1 7 8) .rfl qI
 .
  have hge:i=rows.length:=by simp at hc;omega
  subst hge;refine D6 (te (re (be E (nx kn (A1 (aS_ E (A0 (D1 4) (A9 ?_))))))));exact ⟨_,[],[],H2 E E,Aa _,by simp,by rw [A0E hp],E,E⟩
theorem P8(v:Value)(w:LN)(A:Mem)(h:By A v w):FnX prog 26 [v] [] A λr M J=>M=[]∧By J r w:=by
 haveI:=h.cel;have hwl:=h.len;refine Co (N:=8) func26 E E E λw_=>?_;refine A8 (D1 0) (A1 (as_ (A0 (D1 0) (A3 (A1 (mv_ ?_))))));refine lQ_ (A1C (e:=5) E kR (by first|assumption|exact Sl.rd (by assumption) qI|exact By.rd (by assumption))) ?_;refine A0 (D0 0 4) ?_;refine C2 E ?_ ?_<;>intro hc
 . have h0:=h.rd.isNil hc;obtain rfl:w=[]:=Bd h0;refine A1 (as_ (A0 (D1 2) (A9 (tr ?_))));exact ⟨_,[],[],H2 E E,qZ,E,By.nil⟩
 . refine A4 (nx (D1 0) (A1 ?_));refine A2 E (C4 (e:=5) (sz:=1) (z:=[]) kR e0 bd0 E λb5=>?_);refine mv_ ?_;refine A2 E (G6 (e:=5) (sz:=1) (by_:=1) E E kR E (Sl.fresh (n:=0) (cs:=[]) (e:=5) E qD) (h.rd.mono qS) E7 qP (by unfold maxLen;omega) qO E λv7 B7 hs7=>?_);refine as_ (A0 (D1 2) (A9 ?_));exact ⟨_,[],B7,H2 E E,Cj qP qZ,E,⟨A0J (hs7.rd λx hx=>by simp [hx]) qO qM,h.lt,h.len⟩⟩
theorem A0F(va vb:Value)(a b:LN)(A:Mem)(ha:By A va a)(hb:By A vb b):FnV prog 31 [va,vb] A (.bool (decide (a=b))):=by haveI:=ha.cel;haveI:=hb.cel;refine Cn (N:=10) func31 E E E λw=>?_;refine A8 (D0 0 1) (A1 (aS_ E (A0 (D0 0 1) (A1 (mV_ E (lQ_ (P2 E kR (ha.rd.mono qS)) (mV_ E (lQ_ (P2 E kR (hb.rd.mono qS)) (lQ_ (C2G E E E E ha.lt hb.lt) (as_ (A0 (D1 4) (A9 ?_))))))))))));exact ⟨_,[],[],H2 E E,Aa _,by simp,E,E,E⟩
theorem B7G{k:IntKind}(c:Int):H8 .geq k c 0=some (.bool (decide (0<=c))):=by
  by_cases h:0<=c
  . rw [decide_eq_true h];exact geT h
  . rw [decide_eq_false h];exact geF qO
theorem A6V(v:Value)(rows:List (List Value))(f:FuncId)(cs:List Value)(p:Nat->Bool)(A:Mem)(hv:Rd A 3 v rows.length rows.flatten)(hl:∀r∈rows,r.length=3)(hn:rows.length<=1099511627776)(hc_:K1 prog f=true)(hf:∀(j:Nat) (r:List Value),rows[j]? = some r->FnV prog f (.agg r.toArray::cs) A (.bool (p j))):FnV prog 44 [v,.func (.func f) #[] cs.toArray] A (.bool (decide (0<=A7i p rows.length))):=by haveI:=hv.cel;refine Cn (N:=9) func44 E E E λw=>?_;refine A8 (D0 0 1) (A1 (as_ (A0 (D0 0 1) (A1 (mv_ (mv_ ?_))))));refine D8 (aS E (aS E a0)) kR (A5U v rows f cs p _ (hv.mono qS) hl hn hc_ (λj r hr=>B4s (hf j r hr) qS)) E ?_;refine lQ_ (F6 (decide (0<=A7i p rows.length)) E E (B7G _)) (as_ (A0 (D1 4) (A9 ?_)));exact ⟨_,[],[],H2 E E,Aa _,by simp,E,E,E⟩
theorem B1c(vs vg:Value)(x:Pr)(n b:Nat)(A:Mem)(hs:By A vs x.sec)(hg:By A vg x.sig)(hb:(b,blk [(vU n)] 40)∈A):FnV prog 136 [.agg #[(vU x.n),vs,vg],(vP b)] A (.bool (decide (x.n=n))):=by haveI:=hs.cel;haveI:=hg.cel;refine Cn (N:=8) func136 E E E λw=>?_;refine A8 (D0 0 1) (A1 ?_);refine A2 E (bx_ λb2=>?_);refine aS_ E (A0 (D0 1 2) (A1 (lQ_ (qf_ 0 0) ?_)));refine lQ_ ql_ ?_;refine lQ_ (H1 E kR (mA hb) qR) ?_;refine lQ_ (F6 (decide (x.n=n)) E E (eq32 _ _)) (as_ (A0 (D1 3) (A9 ?_)));exact ⟨_,[],[],H2 E E,Aa _,by simp,E,E,E⟩
theorem A80(vs vg vi:Value)(x:Pr)(n b:Nat)(A:Mem)(hs:By A vs x.sec)(hg:By A vg x.sig)(hvi:Cel vi [vi])(hb:(b,blk [(vU n),vi] 116)∈A):FnV prog 45 [.agg #[(vU x.n),vs,vg],(vP b)] A (.bool (decide (x.n=n))):=by haveI:=hs.cel;haveI:=hg.cel;refine Cn (N:=9) func45 E E E λw=>?_;refine A8 (D0 0 1) (A1 ?_);refine A2 E (bx_ λb2=>?_);refine aS_ E (A0 (D0 1 2) (A1 (lQ_ (qf_ 0 0) ?_)));refine lQ_ ql_ ?_;refine lQ_ (qf_ 0 0) ?_;refine lQ_ (H1 E kR (mA hb) qR) ?_;refine lQ_ (F6 (decide (x.n=n)) E E (eq32 _ _)) (as_ (A0 (D1 3) (A9 ?_)));exact ⟨_,[],[],H2 E E,Aa _,by simp,E,E,E⟩

structure Ks where
  user:Int
  dev:Int
  agree:LN
  sign:LN
  signed:List Pr
  once:List Pr
  next:Nat
  met:List Nm
def A5g(n:Nat)(x:Pr):Bool:=decide (x.n=n)
def A5r(l:List Pr)(n:Nat):Option (LN):=if P0 (A5g n) l<0 then none else (l[(P0 (A5g n) l).toNat]?).map (·.sec)
variable{l:List Pr}{n:Nat}
theorem A6W(h:P0 (A5g n) l = -1):A5r l n=none:=if_pos (by rw [h];decide)
variable{i:Nat}
theorem A0k{x:Pr}(h:P0 (A5g n) l=(i:Int))(hx:l[i]? = some x):A5r l n=some x.sec:=by unfold A5r;rw [h,if_neg qO,Int.toNat_natCast,hx];rfl
structure KyR(R:Mem)(kb:Nat)(k:Ks)(va vg vs vo vm:Value)(rs ro rm:List (List Value)):Prop where
  blk_:(kb,blk [.int .i64 k.user,.int .i64 k.dev,va,vg,vs,vo,(vU k.next),vm] 77)∈R
  agree:By R va k.agree
  sign:By R vg k.sign
  signed:Rd R 3 vs k.signed.length rs.flatten
  signedR:RwL prR R rs k.signed
  once:Rd R 3 vo k.once.length ro.flatten
  onceR:RwL prR R ro k.once
  met:Rd R 2 vm k.met.length rm.flatten
  metR:RwL nmR R rm k.met
  next:k.next<4294967296
  l1:k.signed.length<=1000000
  l2:k.once.length<=1000000
  l3:k.met.length<=1000000
theorem KyR.mono{R R':Mem}{kb:Nat}{k:Ks}{va vg vs vo vm:Value}{rs ro rm:List (List Value)}(h:KyR R kb k va vg vs vo vm rs ro rm)(hR:∀x,x∈R->x∈R'):KyR R' kb k va vg vs vo vm rs ro rm :=
  ⟨hR _ h.blk_,h.agree.mono hR,h.sign.mono hR,h.signed.mono hR,h.signedR.mono prT hR,h.once.mono hR,h.onceR.mono prT hR,h.met.mono hR,h.metR.mono nmT hR,h.next,h.l1,h.l2,h.l3⟩
variable{b:Nat}
theorem B4t{rows:List (List Value)}{A:Mem}(hR:RwL prR A rows l)(hb:(b,blk [(vU n)] 40)∈A) :
    ∀(j:Nat) (r:List Value),rows[j]? = some r->FnV prog 136 (.agg r.toArray::[(vP b)]) A (.bool ((λj=>(l[j]?.map (A5g n)).getD false) j)):=λj r hr=>by
  obtain ⟨x,hx,vs,vg,rfl,hs,hg,_⟩:=hR.of hr;dsimp only;rw [hx];exact B1c vs vg x n b _ hs hg hb
theorem C3w(v:Value)(rows:List (List Value))(l:List Pr)(n:Nat)(A:Mem)(hv:Rd A 3 v l.length rows.flatten)(hR:RwL prR A rows l)(hl:l.length<=1000000):FnX prog 96 [v,(vU n)] [] A λr M J=>M=[]∧∃q,r=.tuple #[q,.bool (A5r l n).isSome]∧By J q ((A5r l n).getD []):=by
 haveI:=hv.cel;refine Co (N:=18) func96 E E E λw_=>?_;refine A8 (D0 0 1) (A1 ?_);refine A2 E (bx_ λb3=>?_);refine aS_ E (aS_ E (A0 (D0 0 3) (A1 (mV_ E (lQ_ (A21 (aS E a0)) ?_)))));refine D8 (aS E (aS E a0)) kR (A5U v rows 136 [(vP b3)] (λj=>(l[j]?.map (A5g n)).getD false) _ (by rw [hR.len];exact hv.mono qS) (hR.lens prT) (by rw [hR.len];omega) kR (B4t (hR.mono prT qS) Ce)) E ?_;rw [hR.len,show A7i (λj=>(l[j]?.map (A5g n)).getD false) l.length=P0 (A5g n) l from rfl];refine aS_ E (A0 (D0 0 6) (A3 (A1 (mV_ E (lQ_ (E3 E E E) (A0 (D5 0 6 11) ?_))))));refine C2 E ?_ ?_<;>intro hc
 .
  have hf:P0 (A5g n) l = -1:=by
   obtain ⟨hf,hz⟩|⟨i,x,hf,hxi,hq,hmin⟩:=N8 (A5g n) l
   . exact hf
   . rw [hf] at hc;(simp at hc)<;>omega
  refine A1 (as_ (as_ (A0 (D0 4 5) (A9 (tr ?_)))));exact ⟨_,[],[],A2w E E E,qZ,E,_,by rw [A6W hf];rfl,by rw [A6W hf];exact By.nil⟩
 .
  obtain ⟨hf,hz⟩|⟨i,x,hf,hxi,hq,hmin⟩:=N8 (A5g n) l
  . rw [hf] at hc;simp at hc
  have hil:=(Ac.1 hxi).1;rw [hf];obtain ⟨r,hr,vs,vg,rfl,hs,hg,hxn⟩:=hR.get i x hxi;haveI:=hs.cel;refine A4 (nx (D0 0 6) (A1 (mv_ (mv_ ?_))));refine lQ_ (G4 (sz:=3) E E kR E hv hil) ?_;refine lQ_ (B2G (off:=1) E hv hil kR) ?_;refine lQ_ (B2H (u:=vs) E (hv.mono qS) qO kR (by rw [A2D (hR.lens prT) hr 1 qD];rfl)) ?_;refine C6 (aS E a0) kR (P8 vs x.sec _ (hs.mono qS)) E ?_;rintro v17 M17 J17 ⟨rfl,h17⟩;haveI:=h17.cel;refine as_ (as_ (A0 (D0 4 5) (A9 ?_)));exact ⟨_,[],[],A2w E E E,qZ,E,_,by rw [A0k hf hxi];rfl,by rw [A0k hf hxi];exact h17.mono qS⟩
theorem B7H(kb:Nat)(k:Ks)(va vg vs vo vm:Value)(rs ro rm:List (List Value))(n:Nat)(A:Mem)(hK:KyR A kb k va vg vs vo vm rs ro rm):FnX prog 65 [(vP kb),(vU n)] [] A λr M J=>M=[]∧∃q,r=.tuple #[q,.bool (A5r k.signed n).isSome]∧By J q ((A5r k.signed n).getD []):=by have hkb:=hK.blk_;haveI:=hK.agree.cel;haveI:=hK.sign.cel;haveI:=hK.signed.cel;haveI:=hK.once.cel;haveI:=hK.met.cel;refine Co (N:=16) func65 E E E λw_=>?_;refine A8 (D0 0 1) (A1 (aS_ E (aS_ E (A0 (D0 0 1) (A3 (A1 (mV_ E (lQ_ (F0 (e:=77) E E kR) (A0 (D5 0 1 7) ?_)))))))));refine C7 E ?_;refine A4 (nx (D0 0 1) (A1 (mV_ E (lQ_ (F4 E) (lQ_ (qf_ 4 4) ?_)))));refine lQ_ (H1 E kR (mA hkb) qR) ?_;refine mv_ ?_;refine C6 (aS E (aS E a0)) kR (C3w vs rs k.signed n _ (hK.signed.mono qS) (hK.signedR.mono prT qS) hK.l1) E ?_;rintro r13 M13 J13 ⟨rfl,q,rfl,hq⟩;haveI:=hq.cel;refine lQ_ (A0x E) (lQ_ (A0n E) (as_ (as_ (A0 (D0 4 5) (A9 ?_)))));exact ⟨_,[],[],A2w E E E,qZ,E,_,E,hq.mono qS⟩
theorem C3x(kb:Nat)(k:Ks)(va vg vs vo vm:Value)(rs ro rm:List (List Value))(A:Mem)(hK:KyR A kb k va vg vs vo vm rs ro rm):FnV prog 23 [(vP kb)] A (.agg #[.int .i64 k.user,.int .i64 k.dev]):=by have hkb:=hK.blk_;haveI:=hK.agree.cel;haveI:=hK.sign.cel;haveI:=hK.signed.cel;haveI:=hK.once.cel;haveI:=hK.met.cel;refine Cn (N:=10) func23 E E E λw=>?_;refine A8 (D1 0) (A1 ?_);refine A2 E (C3 (cs:=[U7,U7]) kR E λb2=>?_);refine A0 (D0 0 2) (A3 (A1 (mV_ E (lQ_ (F0 (e:=77) E E kR) (A0 (D5 0 2 4) ?_)))));refine C7 E ?_;refine A4 (nx (D0 0 2) (A1 (mV_ E (lQ_ (F4 E) (lQ_ (qf_ 0 0) (lQ_ (H7 (n:=2) E kR (mA hkb) Cu) ?_))))));refine A2 E (A5 E E Cf kR ln2 al2 Cv ?_);refine A0 (D1 2) (A9 ?_);exact ⟨_,[],[],A1l E E kR Ce qR,Aa _,by simp,E,E,E⟩
theorem A98(kb:Nat)(k:Ks)(va vg vs vo vm:Value)(rs ro rm:List (List Value))(A:Mem)(hK:KyR A kb k va vg vs vo vm rs ro rm):FnX prog 52 [(vP kb)] [] A λr M J=>M=[]∧By J r k.agree:=by have hkb:=hK.blk_;haveI:=hK.agree.cel;haveI:=hK.sign.cel;haveI:=hK.signed.cel;haveI:=hK.once.cel;haveI:=hK.met.cel;refine Co (N:=10) func52 E E E λw_=>?_;refine A8 (D1 0) (A1 (aS_ E (A0 (D1 0) (A3 (A1 (mV_ E (lQ_ (F0 (e:=77) E E kR) (A0 (D0 0 4) ?_))))))));refine C7 E ?_;refine A4 (nx (D1 0) (A1 (mV_ E (lQ_ (F4 E) (lQ_ (qf_ 2 2) ?_)))));refine lQ_ (H1 E kR (mA hkb) qR) ?_;refine C6 (aS E a0) kR (P8 va k.agree _ (hK.agree.mono qS)) E ?_;rintro r9 M9 J9 ⟨rfl,h9⟩;haveI:=h9.cel;refine as_ (A0 (D1 2) (A9 ?_));exact ⟨_,[],[],H2 E E,qZ,E,h9.mono qS⟩

def B7I(a b:Nat):Int:=if a<b then -1 else if b<a then 1 else 0
variable{a:Nat}
theorem A81(h:a<b):B7I a b = -1:=if_pos h
theorem A82(h:b<a):B7I a b=1:=by unfold B7I;rw [if_neg qO,if_pos h]
theorem A83(h:a=b):B7I a b=0:=by unfold B7I;rw [if_neg qO,if_neg qO]
theorem B7J(a b:Nat):H8 .lss .i64 (B7I a b) 0=some (.bool (decide (a<b))):=by
  rcases Nat.lt_trichotomy a b with h|h|h
  . rw [A81 h,decide_eq_true h];rfl
  . rw [A83 h,decide_eq_false qO];rfl
  . rw [A82 h,decide_eq_false qO];rfl
theorem B7K(a b:Nat):H8 .eql .i64 (B7I a b) 0=some (.bool (decide (a=b))):=by
  rcases Nat.lt_trichotomy a b with h|h|h
  . rw [A81 h,decide_eq_false qO];rfl
  . rw [A83 h,decide_eq_true h];rfl
  . rw [A82 h,decide_eq_false qO];rfl
theorem lt32(a b:Nat):H8 .lss .u32 ((a:Nat):Int) ((b:Nat):Int)=some (.bool (decide (a<b))):=by
  by_cases h:a<b
  . rw [decide_eq_true h];exact ltT qO
  . rw [decide_eq_false h];exact ltF qO
theorem gt32(a b:Nat):H8 .gtr .u32 ((a:Nat):Int) ((b:Nat):Int)=some (.bool (decide (b<a))):=by
  by_cases h:b<a
  . rw [decide_eq_true h];exact gtT qO
  . rw [decide_eq_false h];exact gtF qO
def C2k(l:List Pr):Prop:=∀(i j:Nat) (x y:Pr),i<j->l[i]? = some x->l[j]? = some y->x.n<y.n
theorem B7L{x:Pr}(hx:l[i]? = some x)(hn:x.n=n)(h:∀(j:Nat) (y:Pr),j<i->l[j]? = some y->y.n<n):P0 (A5g n) l=(i:Int):=by
  have hil:=(Ac.1 hx).1;refine A0D hil (λj hj=>?_) (by rw [hx];simp [A5g,hn]);have hjl:j<l.length:=by omega
  rw [Ab hjl];have:=h j _ hj (Ab hjl);simp [A5g];omega
theorem B1d(h:∀(j:Nat) (y:Pr),l[j]? = some y->y.n≠n):P0 (A5g n) l = -1:=by refine A0E λj hj=>?_;rw [Ab hj];have:=h j _ (Ab hj);simp [A5g,this]
structure BsR(l:List Pr)(n i:Nat)(b:Bool):Prop where
  le:i<=l.length
  lt:∀(j:Nat) (y:Pr),j<i->l[j]? = some y->y.n<n
  ge:∀(j:Nat) (y:Pr),i<=j->l[j]? = some y->n<=y.n
  at_:b=true↔∃x,l[i]? = some x∧x.n=n
theorem BsR.yes(h:BsR l n i true):∃x,l[i]? = some x∧P0 (A5g n) l=(i:Int):=by obtain ⟨x,hx,hn⟩:=h.at_.1 rfl;exact ⟨x,hx,B7L hx hn h.lt⟩
theorem BsR.no(hr:C2k l)(h:BsR l n i false):P0 (A5g n) l = -1:=by
  refine B1d λj y hy hn=>?_;rcases Nat.lt_trichotomy j i with hj|hj|hj
  . have:=h.lt j y hj hy;omega
  . subst hj;have:=h.at_.2 ⟨y,hy,hn⟩;cases this
  . have hjl:=(Ac.1 hy).1;have hil:i<l.length:=by omega
    have h1:=h.ge i _ (Av _) (Ab hil);have h2:=hr i j _ y hj (Ab hil) hy;omega
theorem A8e(x:Int)(A:Mem):FnV prog 137 [.int .u32 x] A (.bool false):=by refine Cn (N:=6) func137 E E E λw=>?_;refine A8 (D1 0) (A1 (aS_ E (A0 (D1 0) (A1 (mV_ E (mV_ E (lQ_ (F6 false E E (neF E)) (as_ (A0 (D1 2) (A9 ?_))))))))));exact ⟨_,[],[],H2 E E,Aa _,by simp,E,E,E⟩
theorem A84(a b:Nat)(A:Mem):FnV prog 99 [(vU a),(vU b)] A (.int .i64 (B7I a b)):=by
 refine Cn (N:=20) func99 E E E λw=>?_;refine A8 (D0 0 1) (A1 (as_ (A0 (D0 0 1) (A1 (mv_ ?_)))));refine D8 (aS E a0) kR (A8e _ _) E ?_;refine as_ (A0 (D5 0 1 5) (A1 (mv_ ?_)));refine D8 (aS E a0) kR (A8e _ _) E ?_;refine as_ (A0 (D7 0 1 5 6) (A3 (A1 (mv_ (A0 (D7 0 1 6 11) ?_)))));refine C7 E ?_;refine A4 (nx (D5 0 1 6) (A3 (A1 (mv_ (A0 (D5 0 1 13) ?_)))));refine C7 E ?_;refine A4 (nx (D0 0 1) (A3 (A1 (mV_ E (mV_ E (lQ_ (F6 (decide (a<b)) E E (lt32 _ _)) (A0 (D5 0 1 16) ?_)))))));refine C2 E ?_ ?_<;>intro hc
 . have hab:a<b:=of_decide_eq_true hc;refine A1 (as_ (A0 (D1 4) (A9 (tr ?_))));exact ⟨_,[],[],H2 E E,Aa _,by simp,by rw [A81 hab],E,E⟩
 .
  have hab:¬a<b:=of_decide_eq_false hc;refine A4 (nx (D0 0 1) (A3 (A1 (mV_ E (mV_ E (lQ_ (F6 (decide (b<a)) E E (gt32 _ _)) (A0 (D1 19) ?_)))))));refine C2 E ?_ ?_<;>intro hc
  . have hba:b<a:=of_decide_eq_true hc;refine A1 (as_ (A0 (D1 4) (A9 (tr ?_))));exact ⟨_,[],[],H2 E E,Aa _,by simp,by rw [A82 hba],E,E⟩
  . have hba:¬b<a:=of_decide_eq_false hc;refine A4 (nx kn (A1 (as_ (A0 (D1 4) (A9 ?_)))));exact ⟨_,[],[],H2 E E,Aa _,by simp,by rw [A83 qO],E,E⟩
theorem A5V(vs vg:Value)(x:Pr)(n:Nat)(A:Mem)(hs:By A vs x.sec)(hg:By A vg x.sig):FnV prog 98 [.agg #[(vU x.n),vs,vg],(vU n)] A (.int .i64 (B7I x.n n)):=by haveI:=hs.cel;haveI:=hg.cel;refine Cn (N:=9) func98 E E E λw=>?_;refine A8 (D0 0 1) (A1 ?_);refine A2 E (bx_ λb2=>?_);refine aS_ E (A0 (D0 1 2) (A1 (lQ_ (qf_ 0 0) ?_)));refine lQ_ ql_ ?_;refine mv_ ?_;refine D8 (aS E (aS E a0)) kR (A84 x.n n _) E ?_;refine as_ (A0 (D1 4) (A9 ?_));exact ⟨_,[],[],H2 E E,Aa _,by simp,E,E,E⟩
theorem B4u(v:Value)(rows:List (List Value))(l:List Pr)(n:Nat)(A:Mem)(hv:Rd A 3 v l.length rows.flatten)(hR:RwL prR A rows l)(hrise:C2k l)(hl:l.length<=1000000):FnX prog 97 [v,(vU n),.func (.func 98) #[] #[]] [] A λr M J=>M=[]∧J=[]∧∃i b,r=.tuple #[(vI i),.bool b]∧BsR l n i b:=by
  haveI:=hv.cel;refine Cn (N:=49) func97 E E E λw=>?_;refine A8 (D5 0 1 2) (A1 (as_ (as_ (A0 (D5 0 1 2) (A1 (mv_ ?_))))));refine lQ_ (F8 (sz:=3) E kR hv) ?_;refine as_ (A0 (D7 0 1 2 8) (A1 (mv_ (as_ (as_ (A0 (G9 0 1 2 8 9 10) (A3 (A6 ?_))))))));refine E0 (α:=Nat×Nat) (λy=>[(0,v),(1,(vU n)),(2,.func (.func 98) #[] #[]),(8,(vI l.length)),(9,(vI y.1)),(10,(vI y.2))]) (λ_=>[]) (λ_=>[]) (λy=>y.1<=y.2∧y.2<=l.length∧(∀(j:Nat) (z:Pr),j<y.1->l[j]? = some z->z.n<n)∧(∀(j:Nat) (z:Pr),y.2<=j->l[j]? = some z->n<=z.n)) (λy=>y.2-y.1) (0,l.length) ⟨Am _,Av _,λj z h=>by omega,λj z h1 h2=>by have:=(Ac.1 h2).1;omega⟩ (G9 0 1 2 8 9 10) .rfl qI ?_;rintro ⟨lo,hi⟩ ⟨h1,h2,h3,h4⟩;dsimp only at h1 h2 h3 h4 ⊢;refine A3 (A1 (mV_ E (mV_ E (lQ_ (E3 E E E) (A0 (N1 0 1 2 8 9 10 17) ?_)))));refine C2 E ?_ ?_<;>intro hc
  .
    have hlt:lo<hi:=by simp at hc;omega
    obtain ⟨h,hh⟩:∃h,(lo+hi)/2^1=h:=⟨_,E⟩
    have hh1:lo<=h∧h<hi:=by omega
    obtain ⟨x,hx⟩:∃x,l[h]? = some x:=⟨_,Ab qO⟩
    obtain ⟨r,hr,vs,vg,rfl,hs_,hg_,hxn⟩:=hR.get h x hx;haveI:=hs_.cel;haveI:=hg_.cel;refine A4 (nx (G9 0 1 2 8 9 10) (A6 (A1 (mv_ (mv_ ?_)))));refine lQ_ (D2 ((lo+hi:Nat):Int) E E (F5 qO qO qO)) ?_;refine lQ_ (K2 (k':=.u64) (lo+hi) E kR (A3X qO qO)) ?_;refine lQ_ (hh▸A3H (a:=lo+hi) (b:=1) E E E E qD) ?_;refine lQ_ (K2 (k':=.i64) h E kR (A2E qO)) ?_;refine as_ (A0 (N1 0 1 2 8 9 10 11) (A1 (mv_ (mv_ (mv_ ?_)))));refine lQ_ (G4 (sz:=3) E E kR E hv (show h<l.length by omega)) ?_;refine lQ_ (A0y E kR (hv.mono qS) (hR.lens prT) qD hr) ?_;refine mv_ ?_;refine A2 E (A1f E (aS E (aS E a0)) kR (A5V vs vg x n _ (hs_.mono qS) (hg_.mono qS)) E ?_);refine lQ_ (F6 (decide (x.n<n)) E E (B7J _ _)) (A0 (V4 0 1 2 8 9 10 11 31) ?_);refine C2 E ?_ ?_<;>intro hc
    .
      have hxl:x.n<n:=of_decide_eq_true hc;refine C1 (mv_ ?_);refine lQ_ (D2 ((h+1:Nat):Int) E E (F5 qO qO qO)) ?_;refine as_ (C5 (nb ?_))
      exact rn (h+1,hi) ⟨by dsimp only;omega,h2,λj z hj hz=>by
        dsimp only at hj;rcases Nat.lt_or_ge j h with hjh|hjh
        . have:=hrise j h z x hjh hz hx;omega
        . obtain rfl:j=h:=by omega
          rw [hx] at hz;cases hz;exact hxl,h4⟩ (by dsimp only;omega) (G9 0 1 2 8 9 10) .rfl qI
    .
      have hxl:¬x.n<n:=of_decide_eq_false hc;refine C1 (mv_ (as_ (C5 (nb ?_))))
      exact rn (lo,h) ⟨by dsimp only;omega,by dsimp only;omega,h3,λj z hj hz=>by
        dsimp only at hj;rcases Nat.lt_or_ge h j with hjh|hjh
        . have:=hrise h j x z hjh hx hz;omega
        . obtain rfl:j=h:=by omega
          rw [hx] at hz;cases hz;omega⟩ (by dsimp only;omega) (G9 0 1 2 8 9 10) .rfl qI
  .
    have hlt:lo=hi:=by simp at hc;omega
    subst hlt;refine D6 (te (re (be E (nx (E9 0 1 2 8 9) (A1 (mV_ E (mV_ E (mV_ E (lQ_ (E3 E E E) (mv_ ?_))))))))));refine Y0 (t:=39) E (λhb=>?_) (λhb=>?_)
    .
      have hlo:lo<l.length:=by simp at hb;omega
      obtain ⟨x,hx⟩:∃x,l[lo]? = some x:=⟨_,Ab hlo⟩
      obtain ⟨r,hr,vs,vg,rfl,hs_,hg_,hxn⟩:=hR.get lo x hx;haveI:=hs_.cel;haveI:=hg_.cel;refine G1 E E (Cp qm_ E ?_);refine G1 E E (Cp qm_ E ?_);refine G1 E E (Cp qm_ E ?_);refine G1 E E (Cp (G4 (sz:=3) E E kR E hv hlo) E ?_);refine G1 E E (Cp (A0y E kR (hv.mono qS) (hR.lens prT) qD hr) E ?_);refine G1 E E (Cp qm_ E ?_);refine G1 E E (A1f E (aS E (aS E a0)) kR (A5V vs vg x n _ (hs_.mono qS) (hg_.mono qS)) E ?_);refine G1 E E (Cp (F6 (decide (x.n=n)) E E (B7K _ _)) E ?_);refine lQ_ (H6 E E) (as_ (as_ (A0 (D0 6 7) (A9 ?_))));exact ⟨_,[],[],A2w E E E,Aa _,by simp,E,E,lo,_,E,h2,h3,h4,by rw [hx];simp⟩
    .
      have hlo:¬lo<l.length:=by simp at hb;omega
      refine K0 E E E E ?_;refine K0 E E E E ?_;refine K0 E E E E ?_;refine K0 E E E E ?_;refine K0 E E E E ?_;refine K0 E E E E ?_;refine K0 E E E E ?_;refine K0 E E E E ?_;refine lQ_ (E8 E E) (as_ (as_ (A0 (D0 6 7) (A9 ?_))));exact ⟨_,[],[],A2w E E E,Aa _,by simp,E,E,lo,_,E,h2,h3,h4,by rw [List.getElem?_eq_none qO];simp⟩
theorem C3y(kb:Nat)(k:Ks)(va vg vs vo vm:Value)(rs ro rm:List (List Value))(n:Nat)(A:Mem)(hK:KyR A kb k va vg vs vo vm rs ro rm)(hrise:C2k k.once):FnX prog 66 [(vP kb),(vU n)] [] A λr M J=>M=[]∧∃q,r=.tuple #[q,.bool (A5r k.once n).isSome]∧By J q ((A5r k.once n).getD []):=by
 have hkb:=hK.blk_;haveI:=hK.agree.cel;haveI:=hK.sign.cel;haveI:=hK.signed.cel;haveI:=hK.once.cel;haveI:=hK.met.cel;refine Co (N:=30) func66 E E E λw_=>?_;refine A8 (D0 0 1) (A1 (aS_ E (aS_ E (A0 (D0 0 1) (A3 (A1 (mV_ E (lQ_ (F0 (e:=77) E E kR) (A0 (D5 0 1 9) ?_)))))))));refine C7 E ?_;refine A4 (nx (D0 0 1) (A1 (mV_ E (lQ_ (F4 E) (lQ_ (qf_ 5 5) ?_)))));refine lQ_ (H1 E kR (mA hkb) qR) ?_;refine mv_ ?_;refine C6 (aS E (aS E (aS E a0))) kR (B4u vo ro k.once n _ (hK.once.mono qS) (hK.onceR.mono prT qS) hrise hK.l2) E ?_;rintro r16 M16 J16 ⟨rfl,rfl,i,b,rfl,hb⟩;refine mV_ E (lQ_ (A0x E) (lQ_ (A0n E) (as_ (as_ (A0 (D5 0 6 7) (A3 ?_))))));cases b
 . have hf:=hb.no hrise;refine A1 (mV_ E (lQ_ (V7 E) (A0 (D5 0 6 20) ?_)));refine E2 E ?_;refine A1 (as_ (as_ (A0 (D0 4 5) (A9 (tr ?_)))));exact ⟨_,[],[],A2w E E E,qZ,E,_,by rw [A6W hf];rfl,by rw [A6W hf];exact By.nil⟩
 . obtain ⟨x,hx,hf⟩:=hb.yes;have hil:=(Ac.1 hx).1;obtain ⟨r,hr,vs_,vg_,rfl,hs_,hg_,hxn⟩:=hK.onceR.get i x hx;haveI:=hs_.cel;refine A1 (mV_ E (lQ_ (V7 E) (A0 (D5 0 6 20) ?_)));refine C7 E ?_;refine A4 (nx (D0 0 6) (A1 (mV_ E (lQ_ (F4 E) (lQ_ (qf_ 5 5) ?_)))));refine lQ_ (H1 E kR (mA hkb) qR) ?_;refine mv_ ?_;refine lQ_ (G4 (sz:=3) E E kR E hK.once hil) ?_;refine lQ_ (B2G (off:=1) E hK.once hil kR) ?_;refine lQ_ (B2H (u:=vs_) E (hK.once.mono qS) qO kR (by rw [A2D (hK.onceR.lens prT) hr 1 qD];rfl)) ?_;refine C6 (aS E a0) kR (P8 vs_ x.sec _ (hs_.mono qS)) E ?_;rintro r29 M29 J29 ⟨rfl,h29⟩;haveI:=h29.cel;refine as_ (as_ (A0 (D0 4 5) (A9 ?_)));exact ⟨_,[],[],A2w E E E,qZ,E,_,by rw [A0k hf hx];rfl,by rw [A0k hf hx];exact h29.mono qS⟩

structure Kys(R:Mem)(kb:Nat)(k:Ks)(M:Mem):Prop where
  ex:∃(va vg vs vo vm:Value) (rs ro rm:List (List Value)) (Bs Bo Bm:Mem),M=(kb,blk [.int .i64 k.user,.int .i64 k.dev,va,vg,vs,vo,(vU k.next),vm] 77)::(Bs++(Bo++Bm)) ∧
    By R va k.agree∧By R vg k.sign∧Sl 3 vs k.signed.length rs.flatten Bs∧RwL prR R rs k.signed∧Sl 3 vo k.once.length ro.flatten Bo∧RwL prR R ro k.once∧Sl 2 vm k.met.length rm.flatten Bm∧RwL nmR R rm k.met∧k.next<4294967296∧k.signed.length<=2∧k.once.length<=100∧k.met.length<=100000
theorem Kys.mono{R R':Mem}{kb:Nat}{k:Ks}{M:Mem}(h:Kys R kb k M)(hR:∀x,x∈R->x∈R'):Kys R' kb k M:=by obtain ⟨va,vg,vs,vo,vm,rs,ro,rm,Bs,Bo,Bm,h1,h2,h3,h4,h5,h6,h7,h8,h9,h10⟩:=h.ex;exact ⟨va,vg,vs,vo,vm,rs,ro,rm,Bs,Bo,Bm,h1,h2.mono hR,h3.mono hR,h4,h5.mono prT hR,h6,h7.mono prT hR,h8,h9.mono nmT hR,h10⟩
theorem Kys.r{R:Mem}{kb:Nat}{k:Ks}{M:Mem}(h:Kys R kb k M):∃va vg vs vo vm rs ro rm,∀R',(∀x,x∈R->x∈R')->(∀x,x∈M->x∈R')->KyR R' kb k va vg vs vo vm rs ro rm:=by obtain ⟨va,vg,vs,vo,vm,rs,ro,rm,Bs,Bo,Bm,rfl,h2,h3,h4,h5,h6,h7,h8,h9,h10,h11,h12,h13⟩:=h.ex;refine ⟨va,vg,vs,vo,vm,rs,ro,rm,λR' hR hM=>⟨hM _ qK,h2.mono hR,h3.mono hR,h4.rd λx hx=>hM x (by simp [hx]),h5.mono prT hR,h6.rd λx hx=>hM x (by simp [hx]),h7.mono prT hR,h8.rd λx hx=>hM x (by simp [hx]),h9.mono nmT hR,by omega,by omega,by omega,by omega⟩⟩
def Z5(k:Ks)(s:Ps):Nat->Ks×Ps
  | 0=>(k,s)
  | i+1=>({ (Z5 k s i).1 with once:=(Z5 k s i).1.once++[⟨(Z5 k s i).1.next,F3 (Z5 k s i).2,[]⟩],next:=(Z5 k s i).1.next+1 },E5 (Z5 k s i).2)
theorem A5W(k:Ks)(s:Ps):∀i,(Z5 k s i).1.once.length=k.once.length+i
  | 0=>rfl
  | i+1=>by simp [Z5,A5W k s i];omega
theorem A1X(k:Ks)(s:Ps):∀i,(Z5 k s i).1.next=k.next+i
  | 0=>rfl
  | i+1=>by simp [Z5,A1X k s i];omega
theorem A99(k:Ks)(s:Ps):∀i,(Z5 k s i).1={ k with once:=(Z5 k s i).1.once,next:=k.next+i }
  | 0=>rfl
  | i+1=>by have h:=A99 k s i;have hn:=A1X k s i;simp only [Z5,hn];rw [h];simp [Nat.add_assoc]
theorem T7(s:Ps):(E5 s).ts.length<=s.ts.length+1∧(E5 s).n=s.n+1:=by
  unfold E5;split
  . exact ⟨by simp,E⟩
  . refine ⟨?_,E⟩;show (add s.ts _).length<=_;unfold add;split<;>simp
theorem A6X(k:Ks)(s:Ps):∀i,(Z5 k s i).2.ts.length<=s.ts.length+i∧(Z5 k s i).2.n=s.n+i
  | 0=>⟨Av _,E⟩
  | i+1=>by have h:=A6X k s i;have h2:=T7 (Z5 k s i).2;simp only [Z5];omega
def A6Y(k:Ks)(s:Ps):Ks×Ps:=Z5 k s (4-k.once.length)
theorem C3z(kb pb:Nat)(k:Ks)(s:Ps)(MK MP A:Mem)(hK:Kys A kb k MK)(hP:Prm pb s MP)(hn:s.ts.length+100<=1048576)(hk:s.n<1000000000)(hnx:k.next+100<4000000000)(hG:Glb A):FnX prog 18 [(vP kb),(vP pb)] (MK++MP) A λq M J=>q=.int .i64 ((4-k.once.length:Nat):Int)∧∃MK2 MP2,M=MK2++MP2∧Kys (J++A) kb (A6Y k s).1 MK2∧Prm pb (A6Y k s).2 MP2:=by
 obtain ⟨va,vg,vs,vo,vm,rs,ro,rm,Bs,Bo,Bm,rfl,hva,hvg,hss,hrs,hso,hro,hsm,hrm,hn1,hn2,hn3,hn4⟩:=hK.ex;haveI:=hva.cel;haveI:=hvg.cel;haveI:=hss.cel;haveI:=hso.cel;haveI:=hsm.cel;refine Co (N:=42) func18 E E E λw_=>?_;refine A8 (D0 0 1) (A1 (aS_ E (A0 (D0 0 1) (A1 (aS_ E (A0 (D5 0 1 5) (A3 (A6 ?_))))))));refine E0 (α:=Nat×(Value×List (List Value)×Mem)×Mem×Mem) (λy=>[(0,(vP kb)),(1,(vP pb)),(5,(vI y.1))]) (λy=>(kb,blk [.int .i64 k.user,.int .i64 k.dev,va,vg,vs,y.2.1.1,.int .u32 ((k.next+y.1:Nat):Int),vm] 77)::(Bs++(y.2.1.2.2++(Bm++y.2.2.1)))) (λy=>y.2.2.2) (λy=>y.1+k.once.length<=max 4 k.once.length∧Sl 3 y.2.1.1 (k.once.length+y.1) y.2.1.2.1.flatten y.2.1.2.2∧RwL prR (y.2.2.2++A) y.2.1.2.1 (Z5 k s y.1).1.once∧Prm pb (Z5 k s y.1).2 y.2.2.1) (λy=>4-(k.once.length+y.1)) (0,(vo,ro,Bo),MP,[]) ⟨by dsimp only;omega,hso,hro,hP⟩ (D5 0 1 5) (Cj (B:=[_]) qP (Cj qP (Cj qP (Cj qP (Ch qP))))) qI ?_;rintro ⟨i,⟨voi,roi,Boi⟩,MPi,Ji⟩ ⟨hi,hsi,hri,hPi⟩;dsimp only at hi hsi hri hPi ⊢;haveI:=hsi.cel;have hps:=A6X k s i;have hnx:=A1X k s i;have hol:=A5W k s i;refine A3 (A1 (mV_ E (lQ_ (B0z (e:=77) E E kR) (mv_ ?_))));refine G1 E E (Cp qm_ E ?_);refine G1 E E (Cp (F4 E) E ?_);refine G1 E E (Cp (qf_ 5 5) E ?_);refine G1 E E (Cp ql_ E ?_);refine G1 E E (Cp (F8 (sz:=3) E kR (hsi.rd (R:=Boi) λ_ h=>h)) E ?_);refine G1 E E (Cp (E3 E E E) E ?_);refine lQ_ (H6 E E) (A0 (D7 0 1 5 15) ?_);refine C2 E ?_ ?_<;>intro hc
 .
  have hlt:k.once.length+i<4:=by simp at hc;omega
  refine A4 (nx (D5 0 1 5) (A3 (A6 ?_)));refine F9 (MPi) (_) true [0,1,2,3,4,5,6,7,8,9,10,11,12,14,15] (zp 0 [0,0,0,0,1,0,0,0,1,0,2,0,2,2,0,0,2]) kR kR qP λhs K n0 hKm hKs hKn=>?_;refine kM_ E E (kM_ E E (kQ_ E (F4 E) (kQ_ E (qf_ 5 5) ?_)));refine I8 hs E hKs ql_ ?_;refine kM_ E E (kQ_ E (F4 E) (kQ_ E (qf_ 6 6) ?_));refine I8 hs E hKs ql_ ?_;refine km_ ?_
  refine G8 _ _ E E (Ah _) hKm λw0=>(C8 (Mc:=MPi) (R:=_) (aS E a0) kR qP (X5 pb (Z5 k s i).2 MPi _ hPi qO qO hG.up) E ?_)
  rintro v28 M28 J28 ⟨hP28,h28⟩ hKx;haveI:=h28.cel;refine kQ_ E (E6 (place:=λx=>#[(0,1),(1,1),(2,1)][x]?) (z:=[D3,vS,vS]) (λ_=>by kernel_rfl) (eS E (eS E e0)) (bdS 0 1 E qR (bdS 1 1 E qR bd0))) ?_
  refine G8 [] _ rfl rfl (Ah _) (λ_ h=>by cases h) λw0=>(C4 (e:=81) (sz:=3) (z:=[D3,vS,vS]) kR (eS rfl e0) (bdS 0 3 rfl qR bd0) rfl λb30=>λ_=>?_)
  refine A2h (M':=(b30,blk [.int .u32 ((k.next+i:Nat):Int),v28,vS] 81)::(M28++((kb,blk [.int .i64 k.user,.int .i64 k.dev,va,vg,vs,voi,.int .u32 ((k.next+i:Nat):Int),vm] 77)::(Bs++(Boi++(Bm++[])))))) qM ?_;refine K6 E E E (G6 (e:=81) (sz:=3) (by_:=56) E E kR E hsi (Cr (n:=1) Ce qR) (by intro c hc;simp only [Cz,Da,or_false] at hc;rcases hc with rfl|rfl|rfl;rfl;exact h28.one;rfl) qP (by unfold maxLen;omega) qO E λv31 B31 hs31=>?_);haveI:=hs31.cel;refine kQ_ E (F4 E) (kQ_ E (qf_ 5 5) ?_);refine K6 E E E (E1 E E hs31.one kR Ct Cv ?_);refine I0 (D5 0 1 5) (C1 (mV_ E (lQ_ (F4 E) (lQ_ (qf_ 6 6) ?_))));refine lQ_ ql_ ?_;refine lQ_ (A9x 4294967296 (a:=k.next+i) (b:=1) E E E E E E qO) ?_;refine lQ_ (F4 E) (lQ_ (qf_ 6 6) ?_);refine A2 E (E1 E E E kR Ct Cv ?_);refine C5 (nb (nx (D5 0 1 5) (C1 (mv_ ?_))));refine lQ_ (D2 ((i+1:Nat):Int) E E (F5 qO qO qO)) ?_;refine as_ (C5 ?_);exact rn (i+1,(v31,roi++[[.int .u32 ((k.next+i:Nat):Int),v28,vS]],B31),_,_) ⟨by dsimp only;omega,by simpa [Nat.add_assoc] using hs31,(hri.mono prT qS).snoc ⟨v28,vS,by rw [hnx],h28.mono qS,By.nil,by dsimp only;omega⟩,hP28⟩ (by dsimp only;omega) (D5 0 1 5) (Cj (B:=[_]) qP (Cj qP (Cj qP (Cj qP (Ch qP))))) qI
 .
  have hge:4<=k.once.length+i:=by simp at hc;omega
  obtain rfl:i=4-k.once.length:=by omega
  refine D6 (te (re (be E (nx (D1 5) (A1 (mV_ E (aS_ E (A0 (D1 4) (A9 ?_)))))))));have hfe:=A99 k s (4-k.once.length);refine ⟨_,(kb,blk [.int .i64 k.user,.int .i64 k.dev,va,vg,vs,voi,.int .u32 ((k.next+(4-k.once.length):Nat):Int),vm] 77)::(Bs++(Boi++(Bm++MPi))),[],H2 E E,Ci (Cg qM),E,(kb,blk [.int .i64 k.user,.int .i64 k.dev,va,vg,vs,voi,.int .u32 ((k.next+(4-k.once.length):Nat):Int),vm] 77)::(Bs++(Boi++Bm)),MPi,by simp,⟨⟨va,vg,vs,voi,vm,rs,roi,rm,Bs,Boi,Bm,?_⟩⟩,hPi⟩;unfold A6Y;rw [hfe];exact ⟨E,hva.mono qS,hvg.mono qS,hss,hrs.mono prT qS,by show Sl 3 voi (Z5 k s (4-k.once.length)).1.once.length _ _;rw [hol];exact hsi,hri,hsm,hrm.mono nmT qS,by dsimp only;omega,hn2,by show (Z5 k s (4-k.once.length)).1.once.length<=100;rw [hol];omega,hn4⟩

end Go.Proofs.YtgpjndfgjjlhaaaGreatDoor
namespace Go.Px
variable{sz:Nat}
theorem B0a{rows:List (List Value)}{r:List Value}(hl:∀r∈rows,r.length=sz)(hr:r.length=sz){j:Nat}(hj:j<rows.length) :
    rows.flatten.take (j*sz)++r++rows.flatten.drop (j*sz+sz)=(rows.set j r).flatten:=by
  rw [show j*sz+sz=(j+1)*sz from by rw [Nat.add_mul,Nat.one_mul],A1u hl,A2C hl,List.set_eq_take_append_cons_drop,if_pos hj];simp
variable{zs:List Value}
section
variable{C:Cx}{l:Env}{M J:Mem}{K:Env->Mem->Mem->Prop}{ty t:TypeId}{pos:String}{af:Array Edge}{g:Option (Nat×Bool)}{x y:Operand}{v:Value}{xs:List Value}{n j sz:Nat}{B M0:Mem}
theorem B0b{r:List Value}(hx:ev l x=some (vAt sz j v))(hy:ev l y=some (.agg r.toArray))(h:Sl sz v n xs B)(hr:r.length=sz)(h1:∀u∈r,u.oneCell'=true)
    (ht:N2 C.P t=some sz) (hj:j<n) (hM:M.Perm (B++M0)) (h2:∀B',Sl sz v n (xs.take (j*sz)++r++xs.drop (j*sz+sz)) B'->K l (B'++M0) J) :
    OpL C ⟨none,.store t x y,ty,pos,af,g⟩ l M J K:=by
  suffices hh:OpL C ⟨none,.store t x y,ty,pos,af,g⟩ l (B++M0) J K from λQp a w ha hw=>hh Qp a w ha (hw.fit (Fit.perm hM) λ_ h=>h)
  clear hM;subst hr;have hjm:j*r.length+r.length<=n*r.length:=by rw [<- Nat.succ_mul];exact Au _ hj
  rcases h with ⟨p,rfl,rfl,hx2,rfl⟩|⟨b,o,cap,cs,e,rfl,rfl,h3,h4,h5,h6,h7⟩
  . omega
  . simp only [vAt,Addr.add_mid] at hx;have hcm:n*r.length<=cap*r.length:=Au _ h3;refine P1 hx hy E ht (by omega) h1 E .hd (h2 [_] (.inr ⟨b,o,cap,_,e,E,E,h3,h4,?_,?_,?_⟩))
    . rw [X3 (by omega)];exact h5
    . rw [X3 (by omega)];exact h6
    . intro q u hq;have hlt:=(Ac.1 hq).1;rw [X3 (by omega)] at hlt;by_cases hq1:q<j*r.length
      . rw [W1 (by omega) hq1] at hq;rw [W1 (by omega) (by omega)];exact h7 q u hq
      . by_cases hq2:q<j*r.length+r.length
        . rw [X0 (by omega) (by omega) hq2] at hq;rw [X0 (by omega) (by omega) (by omega),<- hq];congr 1;omega
        . rw [A2B (by omega) (by omega)] at hq;rw [A2B (by omega) (by omega)];exact h7 q u hq
theorem B7M{e:TypeId}{by_:Nat}(hx:ev l x=some (vLo j sz v))(ht:A1t C.P t=some (e,sz,by_))(hz:zn C.P t (n-j)=some zs)(h:Sl sz v n xs B)
    (h1:∀c∈zs,c.oneCell'=true) (hj:j<n) (hM:M.Perm (B++M0)) (h2:∀B',Sl sz v n (xs.take (j*sz)++zs) B'->K l (B'++M0) J) :
    OpL C ⟨none,.call { callee:=.builtin .clear,args:=#[x],argTypes:=#[t] },ty,pos,af,g⟩ l M J K:=by
  suffices hh:OpL C ⟨none,.call { callee:=.builtin .clear,args:=#[x],argTypes:=#[t] },ty,pos,af,g⟩ l (B++M0) J K from λQp a w ha hw=>hh Qp a w ha (hw.fit (Fit.perm hM) λ_ h=>h)
  clear hM;have hzl:=B8t hz ht;have hjm:j*sz<=n*sz:=Au _ (by omega);rw [Nat.sub_mul] at hzl;rcases h with ⟨p,rfl,rfl,hx2,rfl⟩|⟨b,o,cap,cs,e',rfl,rfl,h3,h4,h5,h6,h7⟩
  . omega
  . have hcm:n*sz<=cap*sz:=Au _ h3;simp only [vLo,if_neg (show ¬cap=j by omega),Option.map_some,Addr.add_mid] at hx;have hnj:(n-j)*sz=zs.length:=by rw [hzl,Nat.sub_mul]
    refine A8y hx ht hz h1 (by rw [hnj];omega) E .hd (h2 [_] (.inr ⟨b,o,cap,_,e',E,E,h3,h4,?_,?_,?_⟩))
    . rw [hnj,X3 (by omega)];exact h5
    . simp;omega
    . intro q u hq;have hlt:=(Ac.1 hq).1;simp at hlt;rw [hnj];by_cases hq1:q<j*sz
      . rw [W1 (by omega) (by omega)];rw [Ak (by simp;omega),Cd hq1] at hq;exact h7 q u hq
      . rw [X0 (by omega) (by omega) (by omega)];rw [Aq (by simp;omega)] at hq;rw [<- hq];congr 1;simp;omega
end
def kpt{β:Type}(p:Nat->Bool)(rows:List β):Nat->List β
  | 0=>[]
  | j+1=>kpt p rows j++(if p j then [] else rows[j]?.toList)
theorem C05{β:Type}{p:Nat->Bool}{rows:List β}:∀j,(kpt p rows j).length<=j
  | 0=>Av _
  | j+1=>by
    have h:=C05 (p:=p) (rows:=rows) j;simp only [kpt,List.length_append];split
    . simp;omega
    . have:(rows[j]?.toList).length<=1:=by cases rows[j]?<;>simp
      omega
theorem A85{β:Type}{p:Nat->Bool}{rows:List β}:∀j,(∀i,i<j->p i=false)->kpt p rows j=rows.take j
  | 0,_=>by simp [kpt]
  | j+1,h=>by rw [kpt,A85 j λi hi=>h i (by omega),if_neg (by rw [h j (by omega)];decide),Bh]
theorem A5X{α:Type}(q:α->Bool)(xs:List α):∀j,kpt (λi=>(xs[i]?.map q).getD false) xs j=(xs.take j).filter λx=>!q x
  | 0=>by simp [kpt]
  | j+1=>by
    rw [kpt,A5X q xs j,Bh,List.filter_append];congr 1
    cases h:xs[j]? with
    | none=>simp
    | some x=>cases hq:q x<;>simp [hq]
theorem RwL.kpt{α:Type}{φ:Mem->α->List Value->Prop}{R:Mem}{rows:List (List Value)}{xs:List α}(h:RwL φ R rows xs)(p:Nat->Bool):∀j,RwL φ R (Px.kpt p rows j) (Px.kpt p xs j)
  | 0=>RwL.nil
  | j+1=>by
    rw [Px.kpt,Px.kpt];refine (RwL.kpt h p j).app ?_;split
    . exact RwL.nil
    . cases hx:xs[j]? with
      | none =>
        have:rows[j]? = none:=by rw [List.getElem?_eq_none_iff] at hx ⊢;rw [h.len];exact hx
        rw [this];exact RwL.nil
      | some x =>
        obtain ⟨r,h1,h2⟩:=h.get j x hx;rw [h1];exact RwL.cons h2 RwL.nil
theorem B7N{α:Type}{cur:List α}{i:Nat}{r:α}(h:i<cur.length):(cur.set i r).take (i+1)=cur.take i++[r]:=by rw [Bh,List.getElem?_set_self h,List.take_set_of_le (Av _)];rfl
theorem Sl.hi_app{n i:Nat}{v:Value}{xs:List Value}{B:Mem}(h:Sl sz v n (xs.take (i*sz)++zs) B)(hx:xs.length=n*sz)(hi:i<=n):Sl sz (vHi i v) i (xs.take (i*sz)) B:=by have h2:=h.hiV i hi;have h3:i*sz<=n*sz:=Au _ hi;rwa [List.take_left' (by rw [Bj];omega)] at h2
structure Dfs(sz:Nat)(p:Nat->Bool)(rows cur:List (List Value))(j i:Nat):Prop where
  jn:j<=rows.length
  ki:i=(kpt p rows j).length
  ij:i<j
  cl:cur.length=rows.length
  ct:cur.take i=kpt p rows j
  cd:cur.drop j=rows.drop j
  cs:∀r∈cur,r.length=sz
  cr:∀r∈cur,r∈rows
section
variable{sz:Nat}{p:Nat->Bool}{rows cur:List (List Value)}{j i i0:Nat}{r:List Value}
theorem Dfs.init(hl:∀r∈rows,r.length=sz)(hi:i0<rows.length)(hp:p i0=true)(hq:∀j,j<i0->p j=false):Dfs sz p rows rows (i0+1) i0:=by
  have hk0:kpt p rows (i0+1)=rows.take i0:=by rw [kpt,hp,A85 i0 hq];simp
  exact ⟨hi,by rw [hk0,Bj];omega,by omega,E,hk0.symm,E,hl,λ_ h=>h⟩
theorem Dfs.at_(h:Dfs sz p rows cur j i)(hr:rows[j]? = some r):cur[j]? = some r:=by have h2:=congrArg (λl=>l[0]?) h.cd;simpa [List.getElem?_drop,hr] using h2
theorem Dfs.keep(h:Dfs sz p rows cur j i)(hr:rows[j]? = some r)(hp:p j=false):Dfs sz p rows (cur.set i r) (j+1) (i+1):=by
  obtain ⟨h1,h2,h3,h4,h5,h6,h7,h8⟩:=h;have hjl:=(Ac.1 hr).1;have hk:kpt p rows (j+1)=kpt p rows j++[r]:=by rw [kpt,hp,hr];rfl
  have hcj:cur.drop (j+1)=rows.drop (j+1):=by rw [<- List.drop_drop,<- List.drop_drop,h6]
  refine ⟨hjl,by rw [hk];simp [<- h2],by omega,by simp [h4],?_,?_,?_,?_⟩
  . rw [B7N (by omega),h5,hk]
  . rw [List.drop_set_of_lt (by omega),hcj]
  . intro x hx;rcases Bf hx with hx|hx
    . exact h7 x hx
    . subst hx;exact h7 x (As (Dfs.at_ ⟨h1,h2,h3,h4,h5,h6,h7,h8⟩ hr))
  . intro x hx;rcases Bf hx with hx|hx
    . exact h8 x hx
    . subst hx;exact As hr
theorem Dfs.skip(h:Dfs sz p rows cur j i)(hjl:j<rows.length)(hp:p j=true):Dfs sz p rows cur (j+1) i:=by
  obtain ⟨h1,h2,h3,h4,h5,h6,h7,h8⟩:=h;have hk:kpt p rows (j+1)=kpt p rows j:=by rw [kpt,hp];simp
  exact ⟨hjl,by rw [hk];exact h2,by omega,h4,by rw [hk];exact h5,by rw [<- List.drop_drop,<- List.drop_drop,h6],h7,h8⟩
end
end Go.Px

namespace Go.Proofs.YtgpjndfgjjlhaaaGreatDoor
open Go.Px
theorem B7O{k:IntKind}(c:Int):H8 .eql k c (-1)=some (.bool (decide (c = -1))):=by
  by_cases h:c = -1
  . rw [decide_eq_true h];exact eqT h
  . rw [decide_eq_false h];exact eqF h
theorem B1e(v:Value)(rows:List (List Value))(f:FuncId)(cs:List Value)(p:Nat->Bool)(B A:Mem)(hs:Sl 2 v rows.length rows.flatten B)(hl:∀r∈rows,r.length=2)(h1:∀c∈rows.flatten,c.oneCell'=true)(hn:rows.length<=1099511627776)(hc_:K1 prog f=true)(hf:∀(j:Nat) (r:List Value),rows[j]? = some r->FnV prog f (.agg r.toArray::cs) A (.bool (p j))):FnX prog 42 [v,.func (.func f) #[] cs.toArray] B A λq M J=>Sl 2 q (kpt p rows rows.length).length (kpt p rows rows.length).flatten M:=by
 haveI:=hs.cel;refine Co (N:=42) func42 E E E λw_=>?_;refine A8 (D0 0 1) (A1 (as_ (A0 (D0 0 1) (A1 (mv_ (mv_ ?_))))));refine D8 (aS E (aS E a0)) kR (B1b v rows f cs p _ (hs.rd λx hx=>by simp [hx]) hl hn hc_ (λj r hr=>B4s (hf j r hr) qS)) E ?_;refine aS_ E (A0 (D5 0 1 5) (A3 (A1 (mV_ E (lQ_ (F6 (decide (A7i p rows.length = -1)) E E (B7O _)) (A0 (D7 0 1 5 12) ?_))))));refine C2 E ?_ ?_<;>intro hc
 .
  have hm1:A7i p rows.length = -1:=of_decide_eq_true hc;have hall:∀i,i<rows.length->p i=false:=by rcases A3i p rows.length with ⟨_,h⟩|⟨i,_,h,_,_⟩;exact h;omega
  refine A1 (mv_ (as_ (A0 (D1 4) (A9 (tr ?_)))));refine ⟨_,B,[],H2 E E,Ci (Ch qP),?_⟩;rw [A85 _ hall,List.take_length];exact hs
 .
  have hne:¬A7i p rows.length = -1:=of_decide_eq_false hc;obtain ⟨i0,hi0,he0,hp0,hq0⟩:∃i,i<rows.length∧A7i p rows.length=(i:Int)∧p i=true∧∀j,j<i->p j=false:=(A3i p rows.length).resolve_left λh=>hne h.1;rw [he0];refine A4 (nx (D5 0 1 5) (A3 (A1 (mv_ ?_))));refine lQ_ (D2 ((i0+1:Nat):Int) E E (F5 qO qO qO)) ?_;refine as_ (A0 (D7 0 1 5 6) (A6 ?_));refine E0 (α:=Nat×Nat×List (List Value)×Mem) (λy=>[(0,v),(1,.func (.func f) #[] cs.toArray),(5,(vI y.2.1)),(6,(vI y.1))]) (λy=>y.2.2.2) (λ_=>[]) (λy=>Dfs 2 p rows y.2.2.1 y.1 y.2.1∧Sl 2 v rows.length y.2.2.1.flatten y.2.2.2) (λy=>rows.length-y.1) (i0+1,i0,rows,B) ⟨Dfs.init hl hi0 hp0 hq0,hs⟩ (D7 0 1 5 6) Fit.rfl qI ?_;rintro ⟨j,i,cur,Bc⟩ ⟨hD,hsc⟩;dsimp only at hD hsc ⊢;have hjn:=hD.jn;have hij:=hD.ij;have hcs:=hD.cs;refine A3 (A1 (mv_ (mv_ ?_)));refine lQ_ (F8 (sz:=2) E kR (hsc.rd (R:=Bc) λ_ h=>h)) ?_;refine lQ_ (E3 E E E) (A0 (E9 0 1 5 6 19) ?_);refine C2 E ?_ ?_<;>intro hc
  .
   have hlt:j<rows.length:=by simp at hc;omega
   obtain ⟨r,hr⟩:∃r,rows[j]? = some r:=⟨_,Ab hlt⟩
   have hrc:cur[j]? = some r:=hD.at_ hr;have hrl:r.length=2:=hcs r (As hrc);have hr1:∀c∈r,c.oneCell'=true:=λc hc=>h1 c (List.mem_flatten.2 ⟨r,As hr,hc⟩)
   obtain ⟨c0_,c1_,rfl⟩:∃c0_ c1_,r=[c0_,c1_]:=by match r,hrl with|[c0_,c1_],_=>exact ⟨c0_,c1_,rfl⟩
   refine A4 (nx (D7 0 1 5 6) (A3 (A6 (A1 (mv_ (mv_ ?_))))));refine lQ_ (G4 (sz:=2) (a:=j) E E kR E (hsc.rd (R:=Bc) λ_ h=>h) hlt) ?_;refine lQ_ (A0y E kR (hsc.rd λx hx=>by simp [hx]) hcs qD hrc) ?_;refine A2 E (C3 (cs:=[D3,vS]) kR E λb7=>?_);refine A2 E (A5 E E E kR qR hr1 Cv ?_);refine A0 (E9 0 1 5 6 7) (A1 (mv_ ?_));refine lQ_ (qw_ 2) ?_;refine A2 E (A1f E (aS E a0) hc_ (B4s (hf j _ hr) qS) E ?_);refine lQ_ (V7 E) (A0 (G9 0 1 5 6 7 29) ?_);refine C2 E ?_ ?_<;>intro hc
   . refine A1 (mv_ (mv_ ?_));refine lQ_ (qw_ 2) ?_;refine lQ_ (G4 (sz:=2) (a:=i) E E kR E (hsc.rd (R:=Bc) λ_ h=>h) qO) ?_;refine A2 E (B0b (sz:=2) (j:=i) E E hsc hrl hr1 kR qO qP λB33 hs33=>?_);refine A0 (D7 0 1 5 6) (C1 (mv_ ?_));refine lQ_ (D2 ((i+1:Nat):Int) E E (F5 qO qO qO)) ?_;refine as_ (C5 (nb (nx (D7 0 1 5 6) (C1 (mv_ ?_)))));refine lQ_ (D2 ((j+1:Nat):Int) E E (F5 qO qO qO)) ?_;refine as_ (C5 ?_);exact rn (j+1,i+1,cur.set i [c0_,c1_],B33) ⟨hD.keep hr (by simpa using hc),by rw [<- B0a hcs E (by have:=hD.cl;omega)];exact hs33⟩ (by dsimp only;omega) (D7 0 1 5 6) (Ch qP) qI
   . refine A4 (nb (nx (D7 0 1 5 6) (C1 (mv_ ?_))));refine lQ_ (D2 ((j+1:Nat):Int) E E (F5 qO qO qO)) ?_;refine as_ (C5 ?_);exact rn (j+1,i,cur,Bc) ⟨hD.skip hlt (by simpa using hc),hsc⟩ (by dsimp only;omega) (D7 0 1 5 6) (Ch qP) qI
  .
   have hge:j=rows.length:=by simp at hc;omega
   subst hge;refine D6 (te (re (be E (nx (D0 0 5) (A1 (mv_ (mv_ ?_)))))));refine lQ_ (Z0 (sz:=2) E E kR E (by first|assumption|exact Sl.rd (by assumption) qI|exact By.rd (by assumption)) qO) ?_;refine A2 E (B7M (e:=116) (by_:=32) (zs:=(Builtin.zeroCells #[D3,vS] (rows.length-i)).toList) E kR kR hsc (A08 (by simp [Value.oneCell']) qM _) qO qP λB38 hs38=>?_);refine A0 (D0 0 5) (A1 (mv_ (mv_ ?_)));refine lQ_ (A3I (sz:=2) (a:=i) E E kR E (hs38.rd (R:=B38) λ_ h=>h) qO) ?_;refine as_ (A0 (D1 4) (A9 ?_));refine ⟨_,B38,[],H2 E E,Ci (Ch qP),?_⟩;have h2:=hs38.hi_app (by rw [A6b hcs,hD.cl]) qO;rw [A1u hcs,hD.ct] at h2;rw [<- hD.ki];exact h2

theorem Z6(s:Ps)(w:LN):(H3 s w).ts.length<=s.ts.length+2:=by
  unfold H3;split
  . omega
  . have h1:=S9 (ts:=s.ts) (ws:=w);have h2:=A0T (ts:=rdT s.ts w) (t:=B0Z ((rdI s.ts w:Nat):Int));show (add (rdT s.ts w) _).length<=_;omega
theorem A3o(s:Ps)(w:LN):(H3 s w).n=s.n:=by unfold H3;split<;>rfl
theorem B7P(s:Ps)(w m:LN):(B7x s w m).ts.length<=s.ts.length+2:=by
  unfold B7x;split
  . omega
  . have h1:=S9 (ts:=s.ts) (ws:=w);have h2:=A0T (ts:=rdT s.ts w) (t:=B6T ((rdI s.ts w:Nat):Int) m);show (add (rdT s.ts w) (B6T ((rdI s.ts w:Nat):Int) m)).length<=_;omega
theorem C3A(s:Ps)(w m:LN):(B7x s w m).n=s.n:=by unfold B7x;split<;>rfl
theorem B4v(s:Ps)(w:LN):(I5 s w).length=32:=by
  unfold I5;split
  . exact A1M _ _
  . exact A0U _ qD
def B4w(k:Ks)(s:Ps):Ps:=B7x (H3 (E5 s) (F3 s)) k.sign (A97 k.next (I5 (E5 s) (F3 s)))
def turnP(k:Ks)(s:Ps):Pr:=⟨k.next,F3 s,C3p (H3 (E5 s) (F3 s)) k.sign (A97 k.next (I5 (E5 s) (F3 s)))⟩
def B1f(signed:List Pr)(x:Nm):Bool:=!decide (0<=P0 (A5g x.n) signed)
def A3p(k:Ks)(s:Ps):Ks×Ps :=
  ({ k with signed:=(turnP k s::k.signed).take 2,next:=k.next+1,met:=k.met.filter λx=>!B1f ((turnP k s::k.signed).take 2) x },B4w k s)
variable{l:List Pr}{rows:List (List Value)}
theorem B4x{n b:Nat}{vi:Value}{A:Mem}(hR:RwL prR A rows l)(hvi:Cel vi [vi])(hb:(b,blk [(vU n),vi] 116)∈A) :
    ∀(j:Nat) (r:List Value),rows[j]? = some r->FnV prog 45 (.agg r.toArray::[(vP b)]) A (.bool ((λj=>(l[j]?.map (A5g n)).getD false) j)):=λj r hr=>by
  obtain ⟨x,hx,vs,vg,rfl,hs,hg,_⟩:=hR.of hr;dsimp only;rw [hx];exact A80 vs vg vi x n b _ hs hg hvi hb
theorem C06(kb b n:Nat)(c0 c1 c2 c3 vq c5 c6 c7 vi:Value)(sg:List Pr)(rs:List (List Value))(A:Mem)(hb:(b,blk [(vP kb)] 30)∈A)(hkb:(kb,blk [c0,c1,c2,c3,vq,c5,c6,c7] 77)∈A)(hvi:Cel vi [vi])(hv:Rd A 3 vq sg.length rs.flatten)(hR:RwL prR A rs sg)(hl:sg.length<=1000000):FnV prog 43 [.agg #[(vU n),vi],(vP b)] A (.bool (!decide (0<=P0 (A5g n) sg))):=by haveI:=hv.cel;refine Cn (N:=11) func43 E E E λw=>?_;refine A8 (D0 0 1) (A1 ?_);refine A2 E (bx_ λb2=>?_);refine as_ (A0 (D0 1 2) (A1 ?_));refine lQ_ (H1 E kR (mA hb) qR) ?_;refine lQ_ (F4 E) (lQ_ (qf_ 4 4) ?_);refine lQ_ (H1 E kR (mA hkb) qR) ?_;refine lQ_ (A21 (aS E a0)) ?_;refine D8 (aS E (aS E a0)) kR (A6V vq rs 45 [(vP b2)] (λj=>(sg[j]?.map (A5g n)).getD false) _ (by rw [hR.len];exact hv.mono qS) (hR.lens prT) (by rw [hR.len];omega) kR (B4x (hR.mono prT qS) hvi Ce)) E ?_;rw [hR.len];refine lQ_ (V7 E) (as_ (A0 (D1 3) (A9 ?_)));exact ⟨_,[],[],H2 E E,Aa _,by simp,E,E,E⟩
theorem B4y{l:List Nm}{kb b:Nat}{c0 c1 c2 c3 vq c5 c6 c7:Value}{sg:List Pr}{rs:List (List Value)}{A:Mem}(hL:RwL nmR A rows l)(hb:(b,blk [(vP kb)] 30)∈A)(hkb:(kb,blk [c0,c1,c2,c3,vq,c5,c6,c7] 77)∈A)(hv:Rd A 3 vq sg.length rs.flatten)(hR:RwL prR A rs sg)(hl:sg.length<=1000000) :
    ∀(j:Nat) (r:List Value),rows[j]? = some r->FnV prog 43 (.agg r.toArray::[(vP b)]) A (.bool ((λj=>(l[j]?.map (B1f sg)).getD false) j)):=λj r hr=>by
  obtain ⟨x,hx,vi,rfl,hi,_⟩:=hL.of hr;dsimp only;rw [hx];exact C06 kb b x.n c0 c1 c2 c3 vq c5 c6 c7 vi sg rs A hb hkb hi.cel hv hR hl
theorem C3B(kb pb:Nat)(k:Ks)(s:Ps)(MK MP A:Mem)(hK:Kys A kb k MK)(hP:Prm pb s MP)(hn:s.ts.length+100<=1048576)(hk:s.n<1000000000)(hnx:k.next+100<4000000000)(hG:Glb A):FnX prog 17 [(vP kb),(vP pb)] (MK++MP) A λq M J=>∃MK2 MP2,M=MK2++MP2∧Kys (J++A) kb (A3p k s).1 MK2∧Prm pb (A3p k s).2 MP2:=by
 obtain ⟨va,vg,vq,vo,vm,rs,ro,rm,Bs,Bo,Bm,rfl,hva,hvg,hss,hrs,hso,hro,hsm,hrm,hn1,hn2,hn3,hn4⟩:=hK.ex;haveI:=hva.cel;haveI:=hvg.cel;have fl:=T7 s;have pl:=Z6 (E5 s) (F3 s);have pkl:=B4v (E5 s) (F3 s);haveI:=hss.cel;haveI:=hso.cel;haveI:=hsm.cel;refine Co (N:=68) func17 E E E λw_=>?_;refine A8 (D0 0 1) (A1 ?_);refine A2 E (bx_ λb2=>?_);refine A0 (D0 1 2) (A3 (A1 ?_));refine lQ_ ql_ ?_;refine lQ_ (F0 (e:=77) E E kR) (A0 (D5 1 2 6) ?_);refine C7 E ?_;refine A4 (nx (D0 1 2) ?_);refine F9 (MP) (_) true (.range 8) (zp 0 [1,0,0,1,0,3,3,4,2]) kR kR qP λhs K n0 hKm hKs hKn=>?_;refine I8 hs E hKs ql_ ?_;refine kQ_ E (F4 E) (kQ_ E (qf_ 6 6) ?_);refine I8 hs E hKs ql_ ?_;refine km_ ?_
 refine A03 [⟨5,12,none,MP,λv B R=>Prm pb (E5 (s)) B∧By R v (F3 (s))⟩,⟨6,13,none,[],λv B R=>B=[]∧∃u,v=.agg [(vU k.next),u,vS].toArray∧By R u (F3 s)⟩,⟨7,4,none,[],λv B _=>∃b,v=(vP b)∧B=[(b,blk [D3,vS,vS] 81)]⟩] ((b2,blk [(vP kb)] 30)::((kb,blk [.int .i64 k.user,.int .i64 k.dev,va,vg,vq,vo,(vU k.next),vm] 77)::(Bs++(Bo++Bm)))) (λbs=>[bs 5,bs 6,bs 7]) (hKn E) (by simp [X6,A1e]) (show ∀m∈([MP,[],[]]:List Mem),∀x∈m,K x.1 from A7 (hKm) (A7 gn0 (A7 gn0 (K5)))) kR (λ_=>by first|rfl|kernel_rfl)
  (A7 (λ_ _ _ _ h hp=>⟨hp.1,hp.2.mono h⟩) (A7 (λ_ _ _ _ h ⟨p1,u,p2,p3⟩=>⟨p1,u,p2,p3.mono h⟩) (A7 (λ_ _ _ _ h hp=>hp) (K5)))) nd_ nd_ dl_
  (gC ?_ (gC ?_ (gC ?_ (K5)))) ?_
 . intro _ _ R _ _ hb _ _ _;dsimp only [Gc.inp];refine C8 (Mc:=MP) (R:=[]) (aS E a0) kR qM (X5 pb (s) MP _ hP qO qO (hG.sub λx hx=>by have:=hb x (by simp [hx]);simp [this])) E ?_;rintro v12 M12 J12 ⟨hP12,h12⟩;exact ⟨_,E,by simpa using hP12,h12.mono λx hx=>by simp [hx]⟩
 . intro _ _ _ _ _ _ _ _ ha;dsimp only [Gc.inp];have g5:=gx 0 ha;dsimp only at g5;obtain ⟨hP12,h12⟩:=g5;haveI:=h12.cel;exact Cp (E6 (place:=λx=>#[(0,1),(1,1),(2,1)][x]?) (z:=[D3,vS,vS]) (λ_=>by kernel_rfl) (eS E (eS E e0)) (bdS 0 1 E qR (bdS 1 1 E qR bd0))) E ⟨_,E,E,_,E,h12⟩
 .
  intros
  dsimp only [Gc.inp]
  exact C3 (cs:=[D3,vS,vS]) kR E λb=>⟨_,E,b,E,E⟩
 intro vs bs Jn0 hφ hKK;clear hKK;have g5:=gy 0 hφ;have g6:=gy 1 hφ;have g7:=gy 2 hφ;dsimp only at g5 g6 g7;clear hφ;dsimp only [Q9,X6,List.foldr,List.map,Cy,Cw];generalize bs 5=B12,bs 6=B13,bs 7=B4,vs 5=u12,vs 6=u13,vs 7=u4 at *;obtain ⟨hP12,h12⟩:=g5;obtain ⟨b4,rfl,rfl⟩:=g7;obtain ⟨rfl,u,rfl,h12⟩:=g6;haveI:=h12.cel;refine A2h (M':=B12++((b4,blk [D3,vS,vS] 81)::(b2,blk [(vP kb)] 30)::((kb,blk [.int .i64 k.user,.int .i64 k.dev,va,vg,vq,vo,(vU k.next),vm] 77)::(Bs++(Bo++Bm))))) qM ?_;refine K6 E E E (A5 (vs:=[(vU k.next),u,vS]) E E E kR qR (by intro c hc;simp only [Cz,Da,or_false] at hc;rcases hc with rfl|rfl|rfl;rfl;exact h12.one;rfl) Cv ?_);refine I0 (D5 1 2 4) ?_;refine F9 (B12) (_) true (.range 14) (zp 0 [0,1,0,0,1,0,1,0,0,1,2,2,2,0,2]) kR kR qP λhs K n0 hKm hKs hKn=>?_;refine km_ ?_;refine I8 hs E hKs ql_ ?_;refine kQ_ E (F4 E) (kQ_ E (qf_ 3 3) ?_);refine I8 hs E hKs ql_ ?_;refine kQ_ E (qf_ 0 0) ?_;refine I8 hs E hKs ql_ ?_;refine kM_ E E (kQ_ E (qf_ 1 1) ?_);refine I8 hs E hKs ql_ ?_
 refine G8 _ _ E E (Ah _) hKm λw0=>(C8 (Mc:=B12) (R:=_) (aS E (aS E a0)) kR qP (A1W pb (E5 s) u (F3 s) B12 _ hP12 qO (h12.mono qS) hG.up) E ?_)
 rintro v24 M24 J24 ⟨hP24,h24⟩ hKx;haveI:=h24.cel;refine A2h (M':=M24++((b4,blk [(vU k.next),u,vS] 81)::(b2,blk [(vP kb)] 30)::((kb,blk [.int .i64 k.user,.int .i64 k.dev,va,vg,vq,vo,(vU k.next),vm] 77)::(Bs++(Bo++Bm))))) qM ?_;generalize hpk:I5 (E5 s) (F3 s)=pk at *;generalize hps:H3 (E5 s) (F3 s)=s2 at *
 refine G8 [] _ rfl rfl (Ah _) (λ_ h=>by cases h) λw0=>(D9 (aS rfl (aS rfl a0)) kR (A8d k.next v24 pk _ qO (h24.mono qS) qO) rfl ?_)
 rintro v25 M25 J25 ⟨rfl,h25⟩ _;haveI:=h25.cel;generalize hms:A97 k.next pk=wm at *;dsimp only [Cw,List.append_eq]
 refine G8 M24 _ E E qP (λx hx=>hKx (hKn E) x (by simpa using hx)) λw0=>(C8 (Mc:=M24) (R:=_) (aS E (aS E (aS E a0))) kR qP (C0S pb s2 vg v25 k.sign wm M24 _ hP24 qO (hvg.mono qS) (h25.mono qS) hG.up) E ?_)
 rintro v26 M26 J26 ⟨hP26,h26⟩ hKx;haveI:=h26.cel;refine kQ_ E (qf_ 2 2) ?_;refine K6 E E E (E1 E E h26.one kR Ct Cv ?_);refine I0 (D0 2 4) (A1 ?_);refine lQ_ ql_ ?_;refine lQ_ (F4 E) (lQ_ (qf_ 6 6) ?_);refine lQ_ ql_ ?_;refine lQ_ (A9x 4294967296 (a:=k.next) (b:=1) E E E E E E qO) ?_;refine lQ_ (F4 E) (lQ_ (qf_ 6 6) ?_);refine A2 E (E1 E E E kR Ct Cv ?_);refine A0 (D0 2 4) ?_;refine F9 ([]) (_) true (.range 10) [(0,1),(1,1),(3,1),(4,0),(5,0),(6,1),(2,2),(7,2),(8,0),(9,0),(10,2)] kR kR qP λhs K n0 hKm hKs hKn=>?_;refine I8 hs E hKs ql_ ?_;refine I8 hs E hKs (qw_ 3) ?_;refine I8 hs E hKs ql_ ?_;refine kQ_ E (F4 E) (kQ_ E (qf_ 4 4) ?_);refine I8 hs E hKs ql_ ?_
 refine G8 [] _ rfl rfl (Ah _) (λ_ h=>by cases h) λw0=>(C4 (e:=81) (sz:=3) (z:=[D3,vS,vS]) kR (eS rfl e0) (bdS 0 3 rfl qR bd0) rfl λb37=>λhk37=>?_)
 dsimp only [Cy,Cw,List.append_eq]
 refine G8 [(b37,blk [(vU k.next),u,v26] 81)] _ E E qP (λx hx=>hk37 (hKn E) x (by simpa using hx)) λw0=>(G6 (e:=81) (sz:=3) (by_:=56) E E kR E (Sl.fresh (n:=1) (cs:=[(vU k.next),u,v26]) (e:=81) E qD) (hss.rd λx hx=>by simp [hx]) (hrs.ones prT) qP (by unfold maxLen;omega) qO E λv42 B42 hs42=>λ_=>?_)
 haveI:=hs42.cel;refine kQ_ E (F4 E) (kQ_ E (qf_ 4 4) ?_);refine K6 E E E (E1 E E hs42.one kR Ct Cv ?_);refine I0 (D1 2) ?_;refine C9 (.range 14) (zp 0 [1,1,0,0,1,1,0,0,1,0,0,0,0,0,2]) kR kR λhs=>?_;refine fR_ E ql_ ?_;refine fR_ E ql_ ?_;refine fQ_ E (F4 E) (fQ_ E (qf_ 4 4) ?_);refine fR_ E ql_ ?_;refine fR_ E ql_ ?_;refine fQ_ E (F4 E) (fQ_ E (qf_ 4 4) ?_);refine fR_ E ql_ ?_;refine fQ_ E (F8 (sz:=3) E kR (hs42.rd (R:=B42) λ_ h=>h)) ?_;refine fQ_ E (C2r E E) ?_;refine fQ_ E (A3I (sz:=3) (a:=min 2 (1+k.signed.length)) E E kR qO (hs42.rd (R:=B42) λ_ h=>h) qO) ?_;have hs6:=hs42.hiV (min 2 (1+k.signed.length)) qO;generalize vHi (min 2 (1+k.signed.length)) v42=vq6 at *;haveI:=hs6.cel
 obtain ⟨tp,htp⟩:∃tp,turnP k s=tp:=⟨_,E⟩
 have htq:tp=⟨k.next,F3 s,C3p s2 k.sign wm⟩:=by rw [<- htp];unfold turnP;rw [hpk,hps,hms]
 have hrow:prR (J26++(J25++(J24++(Jn0++A)))) tp [(vU k.next),u,v26]:=⟨u,v26,by rw [htq],by rw [htq];exact h12.mono qS,by rw [htq];exact h26.mono qS,by rw [htq];dsimp only;omega⟩
 have hRs:RwL prR (J26++(J25++(J24++(Jn0++A)))) (([(vU k.next),u,v26]::rs).take 2) ((tp::k.signed).take 2):=(RwL.cons hrow (hrs.mono prT qS)).take 2;have hl6:((tp::k.signed).take 2).length=min 2 (1+k.signed.length):=by rw [Bj,List.length_cons];omega
 have hSg:Sl 3 vq6 ((tp::k.signed).take 2).length (([(vU k.next),u,v26]::rs).take 2).flatten B42:=by
  have e1:[(vU k.next),u,v26]++rs.flatten=([(vU k.next),u,v26]::rs).flatten:=rfl;have e2:min 2 (1+k.signed.length)=min 2 ([(vU k.next),u,v26]::rs).length:=by rw [List.length_cons,hrs.len];omega
  rw [e1,A1u ((RwL.cons hrow (hrs.mono prT qS)).lens prT),e2,<- List.take_eq_take_min,<- e2,<- hl6] at hs6;exact hs6
 refine fQ_ E (F4 E) (fQ_ E (qf_ 4 4) ?_);refine G3 E E E (E1 E E hs6.one kR Ct Cv ?_);refine E4 (D1 2) ?_;refine Y8 (Bm) (_) true (.range 9) (zp 0 [1,1,0,0,1,0,2,0,0,2]) kR kR qP λhs K n0 hKm hKs hKn=>?_;refine I8 hs E hKs ql_ ?_;refine I8 hs E hKs ql_ ?_;refine kQ_ E (F4 E) (kQ_ E (qf_ 7 7) ?_);refine I8 hs E hKs ql_ ?_;refine kQ_ E (A21 (aS E a0)) ?_
 refine G8 _ _ E E (Ah _) hKm λw0=>(C8 (Mc:=Bm) (R:=_) (aS E (aS E a0)) kR qP (by rw [<- hrm.len] at hsm;exact B1e vm rm 43 [(vP b2)] (λj=>(k.met[j]?.map (B1f ((tp::k.signed).take 2))).getD false) Bm _ hsm (hrm.lens nmT) (hrm.ones nmT) (by rw [hrm.len];omega) kR (B4y (hrm.mono nmT qS) Ce Ce (hSg.rd λx hx=>by simp [hx]) (hRs.mono prT qS) (by rw [hl6];omega))) E ?_)
 rintro v65 M65 J65 h65 _;haveI:=h65.cel;refine kQ_ E (F4 E) (kQ_ E (qf_ 7 7) ?_);refine K6 E E E (E1 E E h65.one kR Ct Cv ?_);refine A3G ?_;have hkm:=hrm.kpt (λj=>(k.met[j]?.map (B1f ((tp::k.signed).take 2))).getD false) rm.length;rw [A5X,hrm.len,List.take_length] at hkm;rw [hrm.len] at h65;have htK:A3p k s=({ k with signed:=(tp::k.signed).take 2,next:=k.next+1,met:=k.met.filter λx=>!B1f ((tp::k.signed).take 2) x },B7x s2 k.sign wm):=by unfold A3p B4w;rw [htp,hpk,hps,hms]
 rw [htK];have hkl:(k.met.filter λx=>!B1f ((tp::k.signed).take 2) x).length<=100000:=Az (List.length_filter_le _ _) hn4;refine ⟨_,(kb,blk [.int .i64 k.user,.int .i64 k.dev,va,vg,vq6,vo,.int .u32 ((k.next+1:Nat):Int),v65] 77)::(B42++(Bo++(M65++M26))),[],A8v E,Ci (Cj (B:=[_]) qP (Cj qP (Cj qP (Cj qP (Ch qP))))),(kb,blk [.int .i64 k.user,.int .i64 k.dev,va,vg,vq6,vo,.int .u32 ((k.next+1:Nat):Int),v65] 77)::(B42++(Bo++M65)),M26,by simp,⟨⟨va,vg,vq6,vo,v65,_,ro,_,B42,Bo,M65,E,hva.mono qS,hvg.mono qS,hSg,hRs.mono prT qS,hso,hro.mono prT qS,?_,hkm.mono nmT qS,by dsimp only;omega,by dsimp only;rw [hl6];omega,hn3,hkl⟩⟩,hP26⟩;rw [hkm.len] at h65;exact h65

def idS(k:Ks)(s:Ps):Ps:=H3 (H3 s k.agree) k.sign
def idA(k:Ks)(s:Ps):LN:=I5 s k.agree
def idG(k:Ks)(s:Ps):LN:=C0P (H3 s k.agree) k.sign
theorem A4W(k:Ks)(s:Ps):(idS k s).ts.length<=s.ts.length+4:=by have h1:=Z6 s k.agree;have h2:=Z6 (H3 s k.agree) k.sign;unfold idS;omega
theorem B0c(k:Ks)(s:Ps):(A3p k s).2.ts.length<=s.ts.length+5∧(A3p k s).2.n=s.n+1:=by have h1:=T7 s;have h2:=Z6 (E5 s) (F3 s);have h3:=B7P (H3 (E5 s) (F3 s)) k.sign (A97 k.next (I5 (E5 s) (F3 s)));have h4:=C3A (H3 (E5 s) (F3 s)) k.sign (A97 k.next (I5 (E5 s) (F3 s)));have h5:=A3o (E5 s) (F3 s);show (B4w k s).ts.length<=_∧(B4w k s).n=_;unfold B4w;omega
theorem B1g(k:Ks)(s:Ps):(A3p k s).1.next=k.next+1:=rfl
theorem B7Q(k:Ks)(s:Ps):(A6Y k s).2.ts.length<=s.ts.length+4∧(A6Y k s).2.n<=s.n+4∧(A6Y k s).1.next<=k.next+4:=by have h1:=A6X k s (4-k.once.length);have h2:=A1X k s (4-k.once.length);unfold A6Y;omega
def k0N(u d:Int)(s:Ps):Ks:=⟨u,d,F3 s,F3 (E5 s),[],[],1,[]⟩
def B4z(u d:Int)(s:Ps):Ks×Ps:=A6Y (A3p (k0N u d s) (E5 (E5 s))).1 (A3p (k0N u d s) (E5 (E5 s))).2
theorem B4A(u d:Int)(s:Ps):(B4z u d s).2.ts.length<=s.ts.length+11∧(B4z u d s).2.n<=s.n+7∧(B4z u d s).1.next<=6:=by have h1:=T7 s;have h2:=T7 (E5 s);have h3:=B0c (k0N u d s) (E5 (E5 s));have h4:=B7Q (A3p (k0N u d s) (E5 (E5 s))).1 (A3p (k0N u d s) (E5 (E5 s))).2;have h5:(A3p (k0N u d s) (E5 (E5 s))).1.next=2:=rfl;unfold B4z;omega
structure Bn where
  user:Int
  dev:Int
  ia:LN
  ig:LN
  signed:Nat
  key:LN
  sig:LN
  has:Bool
  once:Nat
  oncek:LN
def bnR(R:Mem)(x:Bn)(r:List Value):Prop:=∃va vg vk vs vo,r=[.int .i64 x.user,.int .i64 x.dev,va,vg,(vU x.signed),vk,vs,.bool x.has,(vU x.once),vo]∧By R va x.ia∧By R vg x.ig∧By R vk x.key∧By R vs x.sig∧By R vo x.oncek∧x.signed<4294967296∧x.once<4294967296
theorem bnT:RowT 10 bnR:=⟨λR R' x r hR ⟨va,vg,vk,vs,vo,h1,h2,h3,h4,h5,h6,h7⟩=>⟨va,vg,vk,vs,vo,h1,h2.mono hR,h3.mono hR,h4.mono hR,h5.mono hR,h6.mono hR,h7⟩,λR x r ⟨va,vg,vk,vs,vo,h1,_⟩=>by rw [h1];rfl,λR x r ⟨va,vg,vk,vs,vo,h1,h2,h3,h4,h5,h6,_⟩=>by
  rw [h1]
  exact A7 E (A7 E (A7 h2.one (A7 h3.one (A7 E (A7 h4.one (A7 h5.one (A7 E (A7 E (A7 h6.one K5)))))))))⟩
def C3C(k:Ks)(x:Pr)(s:Ps):Bn:=⟨k.user,k.dev,idA k s,idG k s,x.n,I5 (idS k s) x.sec,x.sig,false,0,[]⟩
def A6Z(b:Bn)(l:List Pr)(s:Ps):Nat->List Bn×Ps
  | 0=>([b],s)
  | i+1=>match l[i]? with
    | none=>A6Z b l s i
    | some o=>((A6Z b l s i).1++[{ b with has:=true,once:=o.n,oncek:=I5 (A6Z b l s i).2 o.sec }],H3 (A6Z b l s i).2 o.sec)
theorem A4X{b:Bn}{s:Ps}{i:Nat}{o:Pr}(h:l[i]? = some o):A6Z b l s (i+1)=((A6Z b l s i).1++[{ b with has:=true,once:=o.n,oncek:=I5 (A6Z b l s i).2 o.sec }],H3 (A6Z b l s i).2 o.sec):=by simp only [A6Z,h]
theorem B0d{b:Bn}{l:List Pr}{s:Ps}:∀ {i:Nat},i<=l.length->(A6Z b l s i).1.length=i+1∧(A6Z b l s i).2.ts.length<=s.ts.length+2*i
  | 0,_=>⟨E,Av _⟩
  | i+1,h=>by have ih:=B0d (b:=b) (s:=s) (i:=i) (l:=l) qO;rw [A4X (Ab qO)];have h2:=Z6 (A6Z b l s i).2 (l[i]'qO).sec;refine ⟨by simp [ih.1],?_⟩;show (H3 _ _).ts.length<=_;omega
def A7k(k:Ks)(s:Ps):List Bn×Ps:=match k.signed with
  | []=>([],s)
  | x::_=>A6Z (C3C k x s) k.once (H3 (idS k s) x.sec) k.once.length
theorem A60(pb:Nat)(s:Ps)(kb:Nat)(k:Ks)(va vg vq vo vm:Value)(rs ro rm:List (List Value))(MP A:Mem)(hK:KyR A kb k va vg vq vo vm rs ro rm)(hP:Prm pb s MP)(hn:s.ts.length+100<=1048576)(hG:Glb A):FnX prog 19 [(vP kb),(vP pb)] MP A λq M J=>Prm pb (idS k s) M∧∃p r,q=.agg #[p,r]∧By J p (idA k s)∧By J r (idG k s):=by
 have hkb:=hK.blk_;haveI:=hK.agree.cel;haveI:=hK.sign.cel;haveI:=hK.signed.cel;haveI:=hK.once.cel;haveI:=hK.met.cel;have pl:=Z6 s k.agree;refine Co (N:=21) func19 E E E λw_=>?_;refine A8 (D0 0 1) (A1 ?_);refine A2 E (C3 (cs:=[vS,vS]) kR E λb4=>?_);refine A0 (D5 0 1 4) (A3 (A1 (mV_ E (lQ_ (F0 (e:=77) E E kR) (A0 (D7 0 1 4 6) ?_)))));refine C7 E ?_;refine A4 (nx (D5 0 1 4) ?_);refine F9 (MP) (_) true (.range 13) [(0,0),(1,0),(2,0),(3,0),(4,1),(6,0),(7,0),(8,0),(9,0),(10,1),(5,2),(11,2),(12,0),(13,2)] kR kR qP λhs K n0 hKm hKs hKn=>?_;refine kM_ E E (kM_ E E (kQ_ E (F4 E) (kQ_ E (qf_ 2 2) ?_)));refine I8 hs E hKs (H1 E kR (mA hkb) qR) ?_;refine kM_ E E (kM_ E E (kQ_ E (F4 E) (kQ_ E (qf_ 3 3) ?_)));refine I8 hs E hKs (H1 E kR (mA hkb) qR) ?_
 refine G8 _ _ E E (Ah _) hKm λw0=>(C8 (Mc:=MP) (R:=_) (aS E (aS E (a0))) kR qP (A1W pb s va k.agree MP _ hP qO (hK.agree.mono qS) hG.up) E ?_)
 rintro v13 M13 J13 ⟨hP13,h13⟩ hKx13;haveI:=h13.cel
 refine G8 M13 _ E E qP (λx hx=>hKx13 (hKn E) x (by simpa using hx)) λw0=>(C8 (Mc:=M13) (R:=_) (aS E (aS E (a0))) kR qP (B4i pb (H3 s k.agree) vg k.sign M13 _ hP13 qO (hK.sign.mono qS) hG.up) E ?_)
 rintro v19 M19 J19 ⟨hP19,h19⟩ hKx19;haveI:=h19.cel;refine kQ_ E (E6 (place:=λx=>#[(0,1),(1,1)][x]?) (z:=[vS,vS]) (λ_=>by kernel_rfl) (eS E (eS E e0)) (bdS 0 1 E qR (bdS 1 1 E qR bd0))) ?_;refine K6 E E E (A5 (vs:=[v13,v19]) E E E kR qR (A7 h13.one (A7 h19.one K5)) Cv ?_);refine I0 (D1 4) (A9 ?_);exact ⟨_,M19,[],A1l E E kR Ce qR,Ci (Ch qP),hP19,_,_,E,h13.mono qS,h19.mono qS⟩
theorem C3D(u d:Int)(pb:Nat)(s:Ps)(MP A:Mem)(hP:Prm pb s MP)(hn:s.ts.length+200<=1048576)(hk:s.n+100<1000000000)(hG:Glb A):FnX prog 5 [(vP pb),.agg #[.int .i64 u,.int .i64 d]] MP A λq M J=>∃kb MK MP2,q=(vP kb)∧M=MK++MP2∧Kys (J++A) kb (B4z u d s).1 MK∧Prm pb (B4z u d s).2 MP2:=by
 have f1:=T7 s;have f2:=T7 (E5 s);have f3:=B0c (k0N u d s) (E5 (E5 s));refine Co (N:=20) func5 E E E λw_=>?_;refine A8 (D0 0 1) (A1 ?_);refine A2 E (bx_ λb3=>?_);refine as_ (A0 (D0 0 3) ?_);refine F9 (MP) (_) true (.range 8) [(0,1),(1,0),(3,0),(2,2),(4,2),(5,0),(6,2),(7,0)] kR kR qP λhs K n0 hKm hKs hKn=>?_;refine I8 hs E hKs (qw_ 2) ?_;refine kM_ E E (km_ ?_)
 refine G8 _ _ E E (Ah _) hKm λw0=>(C8 (Mc:=MP) (R:=_) (aS E (a0)) kR qP (X5 pb s MP _ hP qO qO hG.up) E ?_)
 rintro v8 M8 J8 ⟨hP8,h8⟩ hKx8;haveI:=h8.cel
 refine G8 M8 _ E E qP (λx hx=>hKx8 (hKn E) x (by simpa using hx)) λw0=>(C8 (Mc:=M8) (R:=_) (aS E (a0)) kR qP (X5 pb (E5 s) M8 _ hP8 qO qO hG.up) E ?_)
 rintro v10 M10 J10 ⟨hP10,h10⟩ hKx10;haveI:=h10.cel;refine kQ_ E (E6 (place:=λx=>#[(0,2),(2,1),(3,1),(4,1),(5,1),(6,1),(7,1)][x]?) (z:=[U7,U7,vS,vS,vS,vS,D3,vS]) (λ_=>by kernel_rfl) (eS E (eS E (eS E (eS E e0)))) (bdS 0 2 E qR (bdS 2 1 E qR (bdS 3 1 E qR (bdS 6 1 E qR bd0))))) ?_
 refine G8 [] _ rfl rfl (Ah _) (λ_ h=>by cases h) λw0=>(B6e rfl (by first|exact Cf|rfl) rfl λb12=>λhk12=>?_)
 dsimp only [Cy,Cw,List.append_eq];refine kQ_ E (G2 E) (I0 (D0 0 5) (A1 (mv_ (mv_ ?_))));refine A2 E (C8 (Mc:=(b12,blk [.int .i64 u,.int .i64 d,v8,v10,vS,vS,(vU 1),vS] 77)::M10) (R:=_) (aS E (aS E a0)) kR qP (C3B b12 pb (k0N u d s) (E5 (E5 s)) [(b12,blk [.int .i64 u,.int .i64 d,v8,v10,vS,vS,(vU 1),vS] 77)] M10 _ ⟨⟨v8,v10,_,_,_,[],[],[],[],[],[],E,h8.mono qS,h10.mono qS,Sl.nil,RwL.nil,Sl.nil,RwL.nil,Sl.nil,RwL.nil,show 1<4294967296 by decide,Am _,Am _,Am _⟩⟩ hP10 qO qO (show 1+100<4000000000 by decide) hG.up) E ?_);rintro v15 M15 J15 ⟨MK15,MP15,rfl,hK15,hP15⟩;refine A0 (D0 0 5) (A1 (mv_ (mv_ ?_)));refine A2 E (C8 (Mc:=MK15++MP15) (R:=_) (aS E (aS E a0)) kR qP (C3z b12 pb _ _ MK15 MP15 _ (hK15.mono qS) hP15 qO qO (by rw [B1g];show 1+1+100<4000000000;decide) hG.up) E ?_);rintro v18 M18 J18 ⟨rfl,MK18,MP18,rfl,hK18,hP18⟩;refine A0 (D1 5) (A1 (mv_ (as_ (A0 (D1 4) (A9 ?_)))));exact ⟨_,MK18++MP18,[(b3,blk [.int .i64 u,.int .i64 d] 28)],H2 E E,Cj (B:=[_]) qP (Ch qP),_,MK18,MP18,E,E,hK18.mono qS,hP18⟩
theorem B4B(pb:Nat)(s:Ps)(kb:Nat)(k:Ks)(va vg vq vo vm:Value)(rs ro rm:List (List Value))(x:Pr)(sl:List Pr)(MP A:Mem)(hK:KyR A kb k va vg vq vo vm rs ro rm)(hsg:k.signed=x::sl)(hP:Prm pb s MP)(hn:s.ts.length+100<=1048576)(hol:k.once.length<=10)(hG:Glb A):FnX prog 6 [(vP kb),(vP pb)] MP A λq M J=>Prm pb (A7k k s).2 M∧∃rows,Rd J 10 q (A7k k s).1.length rows.flatten∧RwL bnR (J++A) rows (A7k k s).1:=by
 have hkb:=hK.blk_;haveI:=hK.agree.cel;haveI:=hK.sign.cel;haveI:=hK.signed.cel;haveI:=hK.once.cel;haveI:=hK.met.cel;have il:=A4W k s;obtain ⟨r0,hr0,vs_,vg_,rfl,hs_,hg_,hxn⟩:=hK.signedR.get 0 x (by rw [hsg];rfl);haveI:=hs_.cel;haveI:=hg_.cel;refine Co (N:=62) func6 E E E λw_=>?_;refine A8 (D0 0 1) (A1 (aS_ E (A0 (D0 0 1) (A3 (A1 (mV_ E (lQ_ (F0 (e:=77) E E kR) (A0 (D5 0 1 12) ?_))))))));refine C7 E ?_;refine A4 (nx (D0 0 1) (A1 (mV_ E (lQ_ (F4 E) (lQ_ (qf_ 4 4) ?_)))));refine lQ_ (H1 E kR (mA hkb) qR) ?_;refine lQ_ (G4 (sz:=3) (a:=0) E E kR E hK.signed (by rw [hsg];simp)) ?_;refine lQ_ (A0y E kR (hK.signed.mono qS) (hK.signedR.lens prT) qD hr0) ?_;refine A2 E (C3 (cs:=[D3,vS,vS]) kR E λb5=>?_);refine A2 E (A5 (vs:=[(vU x.n),vs_,vg_]) E E E kR qR (A7 E (A7 hs_.one (A7 hg_.one K5))) Cv ?_);refine A0 (D5 0 1 5) ?_;refine F9 (MP) (_) true (.range 17) [(0,0),(1,0),(2,0),(3,1),(4,0),(5,0),(7,0),(8,1),(9,0),(10,0),(11,1),(13,0),(14,1),(6,3),(12,3),(15,3),(16,4),(17,2)] kR kR qP λhs K n0 hKm hKs hKn=>?_;refine kM_ E E (kQ_ E (F4 E) (kQ_ E (qf_ 0 0) ?_));refine I8 hs E hKs (H7 (n:=2) E kR (mA hkb) Cu) ?_;refine kM_ E E (kM_ E E (kQ_ E (qf_ 0 0) ?_));refine I8 hs E hKs ql_ ?_;refine kM_ E E (kQ_ E (qf_ 1 1) ?_);refine I8 hs E hKs ql_ ?_;refine kQ_ E (qf_ 2 2) ?_;refine I8 hs E hKs ql_ ?_
 refine A03 [⟨6,25,none,MP,λv B R=>Prm pb (idS k s) B∧∃p q,v=.agg #[p,q]∧By R p (idA k s)∧By R q (idG k s)⟩,⟨12,31,some 6,[],λv B R=>Prm pb (H3 (idS k s) x.sec) B∧By R v (I5 (idS k s) x.sec)⟩,⟨15,34,none,[],λv B R=>B=[]∧∃p q u,v=.agg #[.int .i64 k.user,.int .i64 k.dev,p,q,(vU x.n),u,vg_,.bool false,(vU 0),vS]∧By R p (idA k s)∧By R q (idG k s)∧By R u (I5 (idS k s) x.sec)⟩,⟨16,6,none,[],λv B _=>∃b,v=(vP b)∧B=[(b,blk [U7,U7,vS,vS,D3,vS,vS,.bool false,D3,vS] 53)]⟩] (_) (λbs=>[bs 12,bs 15,bs 16]) (hKn E) (Ah _) (show ∀m∈([MP,[],[]]:List Mem),∀x∈m,K x.1 from A7 (hKm) (A7 gn0 (A7 gn0 (K5)))) kR (λ_=>by first|rfl|kernel_rfl)
  (A7 (λ_ _ _ _ h ⟨p1,p,q,e,p2,p3⟩=>⟨p1,p,q,e,p2.mono h,p3.mono h⟩) (A7 (λ_ _ _ _ h ⟨p1,p2⟩=>⟨p1,p2.mono h⟩) (A7 (λ_ _ _ _ h ⟨p1,p,q,u,e,p2,p3,p4⟩=>⟨p1,p,q,u,e,p2.mono h,p3.mono h,p4.mono h⟩) (A7 (λ_ _ _ _ h hp=>hp) (K5))))) nd_ nd_ dl_
  (gC ?_ (gC ?_ (gC ?_ (gC ?_ (K5))))) ?_
 . intro _ _ R _ _ hb _ _ _;dsimp only [Gc.inp];refine C8 (Mc:=MP) (R:=[]) (aS E (aS E (a0))) kR qM (A60 pb s kb k va vg vq vo vm rs ro rm MP _ (hK.mono (λx hx=>by have:=hb x (by simp [hx]);simp [this])) hP qO (hG.sub (λx hx=>by have:=hb x (by simp [hx]);simp [this]))) E ?_;rintro v25 M25 J25 ⟨hP25,p,q,rfl,hp,hq⟩;exact ⟨_,E,by simpa using hP25,p,q,E,hp.mono λx hx=>by simp [hx],hq.mono λx hx=>by simp [hx]⟩
 . intro vs bs R _ _ hb _ _ ha;dsimp only [Gc.inp];have g6:=gx 0 ha;dsimp only at g6;obtain ⟨hP25,-⟩:=g6;refine C8 (Mc:=bs 6) (R:=[]) (aS E (aS E (a0))) kR qM (A1W pb (idS k s) vs_ x.sec (bs 6) _ hP25 qO (hs_.mono (λx hx=>by have:=hb x (by simp [hx]);simp [this])) (hG.sub (λx hx=>by have:=hb x (by simp [hx]);simp [this]))) E ?_;rintro v31 M31 J31 ⟨hP31,h31⟩;exact ⟨_,E,by simpa using hP31,h31.mono λx hx=>by simp [hx]⟩
 . intro _ _ _ _ _ _ _ _ ha;dsimp only [Gc.inp];have g6:=gx 0 ha;dsimp only at g6;have g12:=gx 1 ha;dsimp only at g12;obtain ⟨-,h31⟩:=g12;obtain ⟨-,p,q,e25,hp,hq⟩:=g6;haveI:=h31.cel;haveI:=hp.cel;haveI:=hq.cel;dsimp only [Q9,List.map,Cy,Cw];rw [e25];exact Cp (E6 (place:=λx=>#[(0,2),(2,2),(4,1),(5,1),(6,1),(7,1),(8,1),(9,1)][x]?) (z:=[U7,U7,vS,vS,D3,vS,vS,.bool false,D3,vS]) (λ_=>by kernel_rfl) (eS E (eS E (eS E (eS E (eS E e0))))) (bdS 0 2 E qR (bdS 2 2 E qR (bdS 4 1 E qR (bdS 5 1 E qR (bdS 6 1 E qR bd0)))))) E ⟨_,E,E,p,q,_,E,hp,hq,h31⟩
 .
  intros
  dsimp only [Gc.inp]
  exact C3 (cs:=[U7,U7,vS,vS,D3,vS,vS,.bool false,D3,vS]) kR E λb=>⟨_,E,b,E,E⟩
 intro vs bs Jn0 hφ hKK;clear hKK;have g6:=gy 0 hφ;have g12:=gy 1 hφ;have g15:=gy 2 hφ;have g16:=gy 3 hφ;dsimp only at g6 g12 g15 g16;clear hφ;dsimp only [Q9,X6,List.foldr,List.map,Cy,Cw];generalize bs 6=B25,bs 12=B31,bs 15=B34,bs 16=B6,vs 6=u25,vs 12=u31,vs 15=u34,vs 16=u6 at *;obtain ⟨hP31,h31⟩:=g12;clear g6;obtain ⟨b6,rfl,rfl⟩:=g16;obtain ⟨rfl,p,q,u,rfl,hp,hq,hu⟩:=g15;haveI:=hp.cel;haveI:=hq.cel;haveI:=hu.cel
 obtain ⟨bb,hbb⟩:∃bb,C3C k x s=bb:=⟨_,E⟩
 obtain ⟨s2,hs2⟩:∃s2,H3 (idS k s) x.sec=s2:=⟨_,E⟩
 rw [hs2] at hP31;have hs2l:s2.ts.length<=s.ts.length+6:=by have:=Z6 (idS k s) x.sec;rw [hs2] at this;omega
 have hbun:A7k k s=A6Z bb k.once s2 k.once.length:=by unfold A7k;rw [hsg,<- hbb,<- hs2]
 rw [hbun]
 have hbr:∀R,(∀y,y∈Jn0++[]++A->y∈R)->bnR R bb [.int .i64 k.user,.int .i64 k.dev,p,q,(vU x.n),u,vg_,.bool false,(vU 0),vS]:=λR hR=>⟨p,q,u,vg_,_,by rw [<- hbb];rfl,by rw [<- hbb];exact hp.mono hR,by rw [<- hbb];exact hq.mono hR,by rw [<- hbb];exact hu.mono hR,by rw [<- hbb];exact hg_.mono λy hy=>hR y (Ai _ hy),by rw [<- hbb];exact By.nil,by rw [<- hbb];exact hxn,by rw [<- hbb];show 0<4294967296;decide⟩
 refine K6 E E E (A5 (vs:=[.int .i64 k.user,.int .i64 k.dev,p,q,(vU x.n),u,vg_,.bool false,(vU 0),vS]) E E E kR qR (A7 E (A7 E (A7 hp.one (A7 hq.one (A7 E (A7 hu.one (A7 hg_.one al3))))))) Cv ?_);refine I0 (D5 0 1 6) ?_;refine Z4 (B:=[(b6,blk [.int .i64 k.user,.int .i64 k.dev,p,q,(vU x.n),u,vg_,.bool false,(vU 0),vS] 53)]) qP ?_;refine A1 ?_;refine lQ_ (qw_ 10) ?_;refine A2 E (C4 (e:=53) (sz:=10) (z:=[U7,U7,vS,vS,D3,vS,vS,.bool false,D3,vS]) kR (eS E e0) (bdS 0 10 E qR bd0) E λb36=>?_);refine aS_ E (A0 (D7 0 1 6 7) (A3 (A1 (mV_ E (lQ_ (F4 E) (lQ_ (qf_ 5 5) ?_))))));refine lQ_ (H1 E kR (mA hkb) qR) ?_;refine lQ_ (F8 (sz:=3) E kR hK.once) ?_;refine mv_ (A0 (G9 1 6 7 40 41 42) (A6 ?_));refine E0 (α:=Nat×(Value×List (List Value)×Mem)×Mem×Mem) (λy=>[(1,(vP pb)),(6,(vP b6)),(7,y.2.1.1),(40,vo),(41,(vI k.once.length)),(42,(vI y.1))]) (λy=>y.2.1.2.2++y.2.2.1) (λy=>y.2.2.2) (λy=>y.1<=k.once.length∧Sl 10 y.2.1.1 (y.1+1) y.2.1.2.1.flatten y.2.1.2.2∧RwL bnR (y.2.2.2++A) y.2.1.2.1 (A6Z bb k.once s2 y.1).1∧Prm pb (A6Z bb k.once s2 y.1).2 y.2.2.1∧(b6,blk [.int .i64 k.user,.int .i64 k.dev,p,q,(vU x.n),u,vg_,.bool false,(vU 0),vS] 53)∈y.2.2.2∧∀z,z∈Jn0++[]++A->z∈y.2.2.2++A) (λy=>k.once.length-y.1) (0,(.slice (some ⟨b36,0,none⟩) 1 1,[[.int .i64 k.user,.int .i64 k.dev,p,q,(vU x.n),u,vg_,.bool false,(vU 0),vS]],[(b36,_)]),B31,_) ⟨Am _,Sl.fresh (n:=1) (cs:=[.int .i64 k.user,.int .i64 k.dev,p,q,(vU x.n),u,vg_,.bool false,(vU 0),vS]) (e:=53) E qD,RwL.cons (hbr _ qS) RwL.nil,hP31,by simp,qS⟩ (G9 1 6 7 40 41 42) (Cj (B:=[_]) qP (Ch qP)) qI ?_;rintro ⟨i,⟨vi,ri,Bi⟩,MPi,Ji⟩ ⟨hi,hsi,hri,hPi,hJb,hJn⟩;dsimp only at hi hsi hri hPi hJb hJn ⊢;haveI:=hsi.cel;have hbl:=B0d (b:=bb) (s:=s2) hi;refine A1 (lQ_ (E3 E E E) (A0 (N1 1 6 7 40 41 42 43) (A3 ?_)));refine C2 E ?_ ?_<;>intro hc
 .
  have hlt:i<k.once.length:=by simp at hc;omega
  obtain ⟨o,ho⟩:∃o,k.once[i]? = some o:=⟨_,Ab hlt⟩
  obtain ⟨r1,hr1,vo1,vo2,rfl,ho1,ho2,hon⟩:=hK.onceR.get i o ho;haveI:=ho1.cel;haveI:=ho2.cel;have hbs:=A4X (b:=bb) (s:=s2) ho;refine A4 (nx (G9 1 6 7 40 41 42) (A3 (A6 (A1 ?_))));refine lQ_ (G4 (sz:=3) E E kR E hK.once hlt) ?_;refine lQ_ (A0y E kR (hK.once.mono qS) (hK.onceR.lens prT) qD hr1) ?_;refine A2 E (C3 (cs:=[D3,vS,vS]) kR E λb9=>?_);refine A2 E (A5 (vs:=[(vU o.n),vo1,vo2]) E E E kR qR (A7 E (A7 ho1.one (A7 ho2.one K5))) Cv ?_);refine A0 (N1 1 6 7 9 40 41 42) (A1 ?_);refine lQ_ (H0 (n:=10) E kR (Ai _ (Ae _ hJb)) qR) ?_;refine A2 E (C3 (cs:=[U7,U7,vS,vS,D3,vS,vS,.bool false,D3,vS]) kR E λb10=>?_);refine A2 E (A5 (vs:=[.int .i64 k.user,.int .i64 k.dev,p,q,(vU x.n),u,vg_,.bool false,(vU 0),vS]) E E E kR qR (A7 E (A7 E (A7 hp.one (A7 hq.one (A7 E (A7 hu.one (A7 hg_.one al3))))))) Cv ?_);refine A0 (V4 1 6 7 9 10 40 41 42) ?_;refine F9 (MPi++[(b10,blk [.int .i64 k.user,.int .i64 k.dev,p,q,(vU x.n),u,vg_,.bool false,(vU 0),vS] 53)]) (_) true [0,1,2,3,4,5,6,7,8,10] [(0,0),(1,1),(2,0),(3,0),(4,1),(6,0),(5,2),(7,2),(8,0),(9,2),(10,0),(11,2)] kR kR qP λhs K n0 hKm hKs hKn=>?_;refine kQ_ E (qf_ 0 0) ?_;refine I8 hs E hKs ql_ ?_;refine kM_ E E (kQ_ E (qf_ 1 1) ?_);refine I8 hs E hKs ql_ ?_;refine kQ_ E (qf_ 7 7) ?_
  refine G8 MPi _ E E qP (λy hy=>hKm y (by simp [hy])) λw0=>(C8 (Mc:=MPi) (R:=_) (aS E (aS E (a0))) kR qP (A1W pb _ vo1 o.sec MPi _ hPi qO (ho1.mono qS) hG.up) E ?_)
  rintro v52 M52 J52 ⟨hP52,h52⟩ hKx52;haveI:=h52.cel
  refine G8 [(b10,blk [.int .i64 k.user,.int .i64 k.dev,p,q,(vU x.n),u,vg_,.bool false,(vU 0),vS] 53)] _ E E qP (λy hy=>hKm y (by simp at hy;simp [hy])) λw0=>(E1 E E E kR Ct Cv ?_)
  intro hkS;dsimp only [Cy,Cw,List.append_eq];refine kQ_ E (qf_ 8 8) ?_;refine K6 E E E (E1 E E E kR Ct Cv ?_);refine kQ_ E (qf_ 9 9) ?_;refine K6 E E E (E1 E E h52.one kR Ct Cv ?_);refine I0 (N1 1 6 7 10 40 41 42) (C1 (mv_ ?_));refine lQ_ (qw_ 10) ?_;refine A2 E (C4 (e:=53) (sz:=10) (z:=[U7,U7,vS,vS,D3,vS,vS,.bool false,D3,vS]) kR (eS E e0) (bdS 0 10 E qR bd0) E λb58=>?_);refine A2 E (G6 (e:=53) (sz:=10) (by_:=152) E E kR E hsi (Cr (n:=1) Ce qR) (A7 E (A7 E (A7 hp.one (A7 hq.one (A7 E (A7 hu.one (A7 hg_.one (A7 E (A7 E (A7 h52.one K5)))))))))) qP (by unfold maxLen;omega) qO E λv59 B59 hs59=>?_);refine as_ (C5 (nb (nx (G9 1 6 7 40 41 42) (C1 ?_))));refine lQ_ (D2 ((i+1:Nat):Int) E E (F5 qO qO qO)) ?_;refine mv_ (C5 ?_);exact rn (i+1,(v59,ri++[[.int .i64 k.user,.int .i64 k.dev,p,q,(vU x.n),u,vg_,.bool true,(vU o.n),v52]],B59),M52,_) ⟨by dsimp only;omega,by simpa using hs59,by dsimp only;rw [hbs];exact (hri.mono bnT qS).snoc ⟨p,q,u,vg_,v52,by rw [<- hbb];rfl,by rw [<- hbb];exact hp.mono λz hz=>qS z (hJn z hz),by rw [<- hbb];exact hq.mono λz hz=>qS z (hJn z hz),by rw [<- hbb];exact hu.mono λz hz=>qS z (hJn z hz),by rw [<- hbb];exact hg_.mono qS,h52.mono qS,by rw [<- hbb];exact hxn,hon⟩,by dsimp only;rw [hbs];exact hP52,Ai _ hJb,λz hz=>qS z (hJn z hz)⟩ (by dsimp only;omega) (G9 1 6 7 40 41 42) (Cj qP (Ch qP)) qI
 .
  have hge:i=k.once.length:=by simp at hc;omega
  subst hge;refine D6 (te (re (be E (nx (D1 7) (A1 (mV_ E (aS_ E (A0 (D1 4) (A9 ?_)))))))));exact ⟨_,MPi,Bi,H2 E E,Cj qP (Ch qP),hPi,ri,by rw [hbl.1];exact hsi.rd λx hx=>by simp [hx],hri.mono bnT qS⟩

end Go.Proofs.YtgpjndfgjjlhaaaGreatDoor
namespace Go.Px
def C5t(P:Program)(t tn:TypeId):Option (TypeId×List Value×Nat) :=
  match P.underlying tn with
  | some (.int _)=>match P.underlying t with
    | some (.slice e)=>match P.info? e with
      | some i=>match i.zero with
        | some z=>if i.size=z.cells.size∧0<i.size then some (e,z.cells.toList,i.bytes) else none
        | none=>none
      | none=>none
    | _=>none
  | _=>none
theorem A2c(zs:Array Value)(n:Nat):(Builtin.zeroCells zs n).size=n*zs.size:=by simp [Builtin.zeroCells]
section z
variable{C:Cx}{l:Env}{M J:Mem}{K:Env->Mem->Mem->Prop}{d:Nat}{ty t tn e:TypeId}{pos:String}{af:Array Edge}{g:Option (Nat×Bool)}{x y:Operand}
end z
theorem C3E{P:Program}{R:Mem}{l:Env}{d:Option Nat}{ty:TypeId}{pos:String}{af:Array Edge}{g:Option (Nat×Bool)}{x:Operand}{t e:TypeId}{p:Option Addr}{n c:Nat}(hx:ev l x=some (.slice p n c))(hu:P.underlying t=some (.slice e)) :
    OpQ P R ⟨d,.call { callee:=.builtin .cap,args:=#[x],argTypes:=#[t] },ty,pos,af,g⟩ l (.int .i64 c):=λN a w ha hw=>by
  simp [execOp,resolve,invoke,builtin,Builtin.cap_,ha.ev hx,run_underlying hu,goInt]
end Go.Px

namespace Go.Proofs.YtgpjndfgjjlhaaaGreatDoor
open Go.Px
theorem C07{l:List Pr}(h:(l.map (·.n)).Pairwise (· < ·)):C2k l:=by intro i j x y hij hx hy;have h1:=List.pairwise_iff_getElem.1 h i j (by rw [List.length_map];exact (Ac.1 hx).1) (by rw [List.length_map];exact (Ac.1 hy).1) hij;obtain ⟨hi,ei⟩:=Ac.1 hx;obtain ⟨hj,ej⟩:=Ac.1 hy;simp only [List.getElem_map,ei,ej] at h1;exact h1
def z32:LN:=List.replicate 32 0
def A2d:LN:=[104,101,108,108,111]
theorem B7R:B256 A2d:=⟨by decide⟩
def agS(s:Ps):List (LN×LN)->Ps
  | []=>s
  | x::r=>agS (K7 s x.1 x.2) r
def agK(s:Ps):List (LN×LN)->List (LN)
  | []=>[]
  | x::r=>A1g s x.1 x.2::agK (K7 s x.1 x.2) r
def seS(s:Ps)(l:List (LN)):Ps:=A39 s z32 l A2d 1
def seK(s:Ps)(l:List (LN)):LN:=(A5f s z32 l A2d 1).getD 0 []
theorem C3F:∀(l:List (LN×LN)) (s:Ps),Ext s (agS s l)
  | [],s=>Ext.refl s
  | x::r,s=>(B4o s x.1 x.2).trans (C3F r _)
theorem A86:∀(l:List (LN×LN)) (s:Ps),(agS s l).ts.length<=s.ts.length+3*l.length∧(agS s l).n=s.n
  | [],s=>⟨Av _,E⟩
  | x::r,s=>by have h1:=A86 r (K7 s x.1 x.2);have h2:=T3 s x.1 x.2;have h3:=B4p s x.1 x.2;rw [List.length_cons];show (agS (K7 s x.1 x.2) r).ts.length<=_∧(agS (K7 s x.1 x.2) r).n=_;omega
theorem A87:∀(l:List (LN×LN)) (s:Ps),(agK s l).length=l.length
  | [],s=>rfl
  | x::r,s=>by show (_::agK _ r).length=_;rw [List.length_cons,A87 r,List.length_cons]
theorem C08(s:Ps)(l:List (LN)):(seS s l).ts.length<=s.ts.length+l.length+2∧(seS s l).n=s.n:=by have h1:=A2W s z32 l A2d 1;have h2:=(A1J s z32 l A2d 1).2.1;unfold seS;omega
abbrev Tri:=LN×LN×LN
def tb(l:List Tri):List (LN×LN):=l.map λq=>(q.1,q.2.1)
structure He where
  ia:LN
  ig:LN
  key:LN
  signed:Nat
  has:Bool
  once:Nat
def stP(ka e:LN)(b:Bn):List (LN×LN):=(ka,b.key)::(e,b.ia)::(e,b.key)::if b.has then [(e,b.oncek)] else []
def stA(ka:LN)(b:Bn)(s:Ps):Ps:=agS (E5 s) (stP ka (F3 s) b)
def stL(ka:LN)(b:Bn)(s:Ps):List (LN):=agK (E5 s) (stP ka (F3 s) b)
def stI(k:Ks)(b:Bn)(s:Ps):Ps:=H3 (idS k (stA k.agree b s)) (F3 s)
def stS(k:Ks)(b:Bn)(s:Ps):Ps:=seS (stI k b s) (stL k.agree b s)
def stK(k:Ks)(b:Bn)(s:Ps):LN:=seK (stI k b s) (stL k.agree b s)
def stH(k:Ks)(b:Bn)(s:Ps):He:=⟨idA k (stA k.agree b s),idG k (stA k.agree b s),I5 (idS k (stA k.agree b s)) (F3 s),b.signed,b.has,if b.has then b.once else 0⟩
theorem C09(ka e:LN)(b:Bn):(stP ka e b).length<=4:=by unfold stP;split<;>simp
theorem C1a(k:Ks)(b:Bn)(s:Ps):(stA k.agree b s).ts.length<=s.ts.length+13∧(stI k b s).ts.length<=s.ts.length+19∧(stS k b s).ts.length<=s.ts.length+25∧(stS k b s).n=s.n+1∧(stL k.agree b s).length<=4:=by
  have h1:=T7 s;have h2:=A86 (stP k.agree (F3 s) b) (E5 s);have h3:=C09 k.agree (F3 s) b;have h4:=A4W k (stA k.agree b s);have h5:=Z6 (idS k (stA k.agree b s)) (F3 s);have h6:=C08 (stI k b s) (stL k.agree b s);have h7:=A87 (stP k.agree (F3 s) b) (E5 s);have h8:=A3o (idS k (stA k.agree b s)) (F3 s);have h9:(idS k (stA k.agree b s)).n=(stA k.agree b s).n:=by unfold idS;rw [A3o,A3o]
  have e1:(stA k.agree b s).ts.length=(agS (E5 s) (stP k.agree (F3 s) b)).ts.length:=rfl;have e2:(stA k.agree b s).n=(agS (E5 s) (stP k.agree (F3 s) b)).n:=rfl;have e3:(stI k b s).ts.length=(H3 (idS k (stA k.agree b s)) (F3 s)).ts.length:=rfl;have e4:(stI k b s).n=(H3 (idS k (stA k.agree b s)) (F3 s)).n:=rfl;have e5:(stL k.agree b s).length=(agK (E5 s) (stP k.agree (F3 s) b)).length:=rfl;have e6:(stS k b s).ts.length=(seS (stI k b s) (stL k.agree b s)).ts.length:=rfl;have e7:(stS k b s).n=(seS (stI k b s) (stL k.agree b s)).n:=rfl;omega
def anP(ka sx:LN)(ox:Option (LN))(h:He):List (LN×LN):=(sx,h.ia)::(ka,h.key)::(sx,h.key)::match ox with|none=>[]|some o=>[(o,h.key)]
def anE(ka sx:LN)(ox:Option (LN))(h:He)(s:Ps):Option (LN×LN)×Ps:=(some (seK (agS s (anP ka sx ox h)) (agK s (anP ka sx ox h)),sx),seS (agS s (anP ka sx ox h)) (agK s (anP ka sx ox h)))
def anR(k:Ks)(h:He)(s:Ps):Option (LN×LN)×Ps :=
  match A5r k.signed h.signed with
  | none=>(none,s)
  | some sx=>if h.has then match A5r k.once h.once with
      | none=>(none,agS s (anP k.agree sx none h))
      | some o=>anE k.agree sx (some o) h s
    else anE k.agree sx none h s
variable{k:Ks}{h:He}{s:Ps}
theorem C3G(h1:A5r k.signed h.signed=none):anR k h s=(none,s):=by unfold anR;rw [h1]
variable{sx:LN}
theorem C1b(h1:A5r k.signed h.signed=some sx)(h2:h.has=true)(h3:A5r k.once h.once=none):anR k h s=(none,agS s (anP k.agree sx none h)):=by unfold anR;rw [h1];dsimp only;rw [if_pos h2,h3]
theorem B4C{o:LN}(h1:A5r k.signed h.signed=some sx)(h2:h.has=true)(h3:A5r k.once h.once=some o):anR k h s=anE k.agree sx (some o) h s:=by unfold anR;rw [h1];dsimp only;rw [if_pos h2,h3]
theorem B0e(h1:A5r k.signed h.signed=some sx)(h2:h.has=false):anR k h s=anE k.agree sx none h s:=by unfold anR;rw [h1];dsimp only;rw [if_neg (by rw [h2];decide)]
theorem A2r{n:Nat}(h:n<18446744073709551616):IntKind.u64.wrap (n:Int)=(n:Int):=A3X qO qO
def u32N(x:Int):Nat:=(x%4294967296).toNat
theorem B4D(x:Int):u32N x<4294967296:=by unfold u32N;omega
theorem A8f(x:Int):IntKind.u32.wrap x=((u32N x:Nat):Int):=by unfold u32N IntKind.wrap;simp [IntKind.signed,IntKind.bits];omega
def u64N(x:Int):Nat:=(x%18446744073709551616).toNat

theorem A8g(x:Int):IntKind.u64.wrap x=((u64N x:Nat):Int):=by unfold u64N IntKind.wrap;simp [IntKind.signed,IntKind.bits];omega
theorem B4E(x:Int):u64N x<18446744073709551616:=by unfold u64N;omega
def wiN(u d:Int)(a g:LN):LN:=beN (u64N u) 4++beN (u64N d) 4++(beN a.length 4++a)++(beN g.length 4++g)
theorem A88(u d:Int)(a g:LN):(wiN u d a g).length=a.length+g.length+16:=by simp [wiN,I7];omega
theorem C3H{l:List (LN)}:(A5f s z32 l A2d 1)=[seK s l]:=by
  have h:=B4k s z32 l A2d 1;unfold seK
  match h2:A5f s z32 l A2d 1,h with
  | [x],_=>rfl
theorem C3I(A:Mem):FnX prog 87 [] [] A λq M J=>M=[]∧By J q z32:=by refine Co (N:=2) func87 E E E λw_=>?_;refine A8 kn (A1 (as_ (A0 kn (A1 ?_))));refine A2 E (A0S (by_:=1) (k:=.u8) (e:=5) 32 E E kR E E qD qD E λb1=>?_);refine as_ (A0 (D1 0) (A9 ?_));exact ⟨_,[],[(b1,blk (nums .u8 z32) 5)],H2 E E,Cg (by simp [z32]),E,⟨Cr (n:=32) qK qR,by decide,by decide⟩⟩
theorem A4Y(pb:Nat)(s:Ps)(lv:Value)(l:List (LN))(MP A:Mem)(hP:Prm pb s MP)(hl:LsV A lv l)(hll:l.length<=1000)(hn:s.ts.length<=1040000)(hG:Glb A):FnX prog 53 [(vP pb),lv] MP A λq M J=>Prm pb (seS s l) M∧By J q (seK s l):=by haveI:=hl.cel;refine Co (N:=16) func53 E E E λw_=>?_;refine A8 (D0 0 1) (A1 (as_ (A0 (D0 0 1) (A1 (mv_ ?_)))));refine C6 a0 kR (C3I _) E ?_;rintro v7 M7 J7 ⟨rfl,h7⟩;haveI:=h7.cel;refine mv_ ?_;refine A2 E (C8 (Mc:=MP) (R:=_) (aS E (aS E (aS E (aS E (aS E a0))))) kR qP (A2o pb s v7 lv z32 A2d l 1 MP _ hP (h7.mono qS) (hl.mono qS) hll B7R qD qD qD hn hG.up) E ?_);rintro v9 M9 J9 ⟨hP9,hL9⟩;haveI:=hL9.cel;rw [C3H] at hL9;obtain ⟨us,hru,hul⟩:=hL9.ex;change Rd J9 1 v9 1 us at hru;obtain ⟨u,hu,hub⟩:=hul.at (show 0 < [seK s l].length from Nat.zero_lt_one);haveI:=hub.cel;change By J9 u (seK s l) at hub;change Prm pb (seS s l) M9 at hP9;refine as_ (A0 (D1 5) (A3 (A1 (mv_ ?_))));refine lQ_ (F8 (sz:=1) E kR hru) ?_;refine lQ_ (F6 false E E (eqF qD)) ?_;refine A0 (D0 5 12) ?_;refine C7 E ?_;refine A4 (nx (D1 5) (A1 (mv_ ?_)));refine lQ_ (G4 (sz:=1) (a:=0) E E kR E hru qD) ?_;refine lQ_ (Z8 (u:=u) (hru.mono qS) E kR hu) (as_ (A0 (D1 4) (A9 ?_)));exact ⟨_,M9,[],H2 E E,Ci (Ch qP),hP9,hub.mono qS⟩
def wiP(u d:Int)(a g:LN)(u' d':Int)(a' g':LN):Nat->LN
  | 0=>[]
  | 1=>wiN u d a g
  | _=>wiN u d a g++wiN u' d' a' g'
def B1h(u d:Int)(a g:LN)(u' d':Int)(a' g':LN):LN:=wiN u d a g++wiN u' d' a' g'
theorem B88(fu fd tu td:Int)(va vg vb vh:Value)(a g b h:LN)(A:Mem)(ga:By A va a)(gg:By A vg g)(gb:By A vb b)(gh:By A vh h)(hl:a.length+g.length+b.length+h.length<=1000000):FnX prog 22 [.agg #[.int .i64 fu,.int .i64 fd],.agg #[va,vg],.agg #[.int .i64 tu,.int .i64 td],.agg #[vb,vh]] [] A λq M J=>M=[]∧By J q (B1h fu fd a g tu td b h):=by
 haveI:=ga.cel;haveI:=gg.cel;haveI:=gb.cel;haveI:=gh.cel;refine Co (N:=48) func22 E E E λw_=>?_;refine A8 (D7 0 1 2 3) (A1 ?_);refine A2 E (bx_ λb4=>?_);refine A2 E (bx_ λb5=>?_);refine A2 E (bx_ λb6=>?_);refine A2 E (bx_ λb7=>?_);refine as_ (A0 (D7 4 5 6 7) (A1 ?_));refine lQ_ (E6 (place:=λx=>#[(0,1)][x]?) (z:=[vS]) (λ_=>by kernel_rfl) e0 bd0) ?_;refine A2 E (bx_ λb13=>?_);refine as_ (A0 (E9 4 5 6 7 9) (A3 (A1 ?_)));refine lQ_ (qw_ 2) ?_;refine lQ_ (qw_ 2) ?_;refine lQ_ (E6 (place:=λx=>#[(0,2),(2,2)][x]?) (z:=[U7,U7,vS,vS]) (λ_=>by kernel_rfl) (eS E (eS E e0)) (bdS 0 2 E qR (bdS 2 2 E qR bd0))) ?_;refine lQ_ (qw_ 2) ?_;refine lQ_ (qw_ 2) ?_;refine lQ_ (E6 (place:=λx=>#[(0,2),(2,2)][x]?) (z:=[U7,U7,vS,vS]) (λ_=>by kernel_rfl) (eS E (eS E e0)) (bdS 0 2 E qR (bdS 2 2 E qR bd0))) ?_;refine A2 E (C4 (e:=127) (sz:=4) (z:=[U7,U7,vS,vS,U7,U7,vS,vS]) kR (eS E (eS E e0)) (bdS 0 4 E qR (bdS 4 4 E qR bd0)) E λb20=>?_);refine lQ_ (A0r (e:=127) E kR) (mv_ (A0 (D7 9 20 21 22) (A6 ?_)));refine Z4 (B:=[(b20,blk [.int .i64 fu,.int .i64 fd,va,vg,.int .i64 tu,.int .i64 td,vb,vh] 127)]) qP ?_;refine E0 (α:=Nat×Mem) (λy=>[(9,(vP b13)),(20,.slice (some ⟨b20,0,none⟩) 2 2),(21,.int .i64 2),(22,(vI y.1))]) (λy=>y.2) (λ_=>[(b20,blk [.int .i64 fu,.int .i64 fd,va,vg,.int .i64 tu,.int .i64 td,vb,vh] 127)]) (λy=>y.1<=2∧Wtr b13 (wiP fu fd a g tu td b h y.1) y.2) (λy=>2-y.1) (0,[(b13,blk [vS] 126)]) ⟨Am _,Wtr.new⟩ (D7 9 20 21 22) (Ch qP) qS ?_;rintro ⟨i,MW⟩ ⟨hi,hW⟩;dsimp only at hi hW ⊢
 have hwl:(wiP fu fd a g tu td b h i).length<=2000100:=by rcases (by omega:i=0∨i=1∨i=2) with rfl|rfl|rfl<;>simp [wiP,A88]<;>omega
 refine A1 (lQ_ (E3 E E E) (A0 (E9 9 20 21 22 23) (A3 ?_)));refine C2 E ?_ ?_<;>intro hc
 .
  have hlt:i<2:=by simp at hc;omega
  obtain ⟨u,d,x,z,vx,vz,hr1,hx,hz,hlx,hP⟩:∃u d x z vx vz,([[.int .i64 fu,.int .i64 fd,va,vg],[.int .i64 tu,.int .i64 td,vb,vh]]:List (List Value))[i]? = some [.int .i64 u,.int .i64 d,vx,vz]∧By A vx x∧By A vz z∧x.length+z.length<=1000000∧wiP fu fd a g tu td b h (i+1)=wiP fu fd a g tu td b h i++wiN u d x z:=by
   rcases (by omega:i=0∨i=1) with rfl|rfl
   . exact ⟨fu,fd,a,g,va,vg,E,ga,gg,by omega,E⟩
   . exact ⟨tu,td,b,h,vb,vh,E,gb,gh,by omega,E⟩
  haveI:=hx.cel;haveI:=hz.cel;have hu64:=B4E u;have hd64:=B4E d;refine A4 (nx (D7 9 20 21 22) (A3 (A6 (A1 ?_))));refine lQ_ (G4 (sz:=4) E E kR E (Cr (n:=2) (R:=[(b20,blk [.int .i64 fu,.int .i64 fd,va,vg,.int .i64 tu,.int .i64 td,vb,vh] 127)]) qK qR) hlt) ?_;refine lQ_ (A0y (rows:=[[.int .i64 fu,.int .i64 fd,va,vg],[.int .i64 tu,.int .i64 td,vb,vh]]) E kR (Cr (n:=2) Ce qR) (by intro r hr;simp at hr;rcases hr with rfl|rfl<;>rfl) qD hr1) ?_;refine A2 E (C3 (cs:=[U7,U7,vS,vS]) kR E λb11=>?_);refine A2 E (A5 (vs:=[.int .i64 u,.int .i64 d,vx,vz]) E E E kR qR (A7 E (A7 E (A7 hx.one (A7 hz.one K5)))) Cv ?_);refine A0 (E9 9 11 20 21 22) ?_;refine Y8 (MW) (_) true (.range 19) [(0,0),(1,0),(2,0),(3,1),(4,0),(6,0),(7,0),(8,1),(9,0),(11,0),(12,0),(13,1),(15,0),(16,0),(17,1),(5,2),(10,2),(14,2),(18,2)] kR kR qP λhs K n0 hKm hKs hKn=>?_;refine kM_ E E (kQ_ E (qf_ 0 0) (kQ_ E (qf_ 0 0) ?_));refine I8 hs E hKs ql_ ?_;refine kQ_ E (A0R (k':=.u64) ((u64N u:Nat):Int) E kR (A8g u)) (kQ_ E (qf_ 0 0) (kQ_ E (qf_ 1 1) ?_));refine I8 hs E hKs ql_ ?_;refine kQ_ E (A0R (k':=.u64) ((u64N d:Nat):Int) E kR (A8g d)) (kQ_ E (qf_ 2 2) (kQ_ E (qf_ 2 0) ?_));refine I8 hs E hKs ql_ ?_;refine kQ_ E (qf_ 2 2) (kQ_ E (qf_ 3 1) ?_);refine I8 hs E hKs ql_ ?_
  refine G8 _ _ E E (Ah _) hKm λw0=>(C8 (Mc:=MW) (R:=_) (aS E (aS E (aS E (a0)))) kR qP (Q0 b13 (u64N u) 4 _ _ _ hW hu64 qD qO) E ?_)
  rintro v31 M31 J31 ⟨rfl,hW31⟩ hKx31
  refine G8 M31 _ E E qP (λx hx=>hKx31 (hKn E) x (by simpa using hx)) λw0=>(C8 (Mc:=M31) (R:=_) (aS E (aS E (aS E (a0)))) kR qP (Q0 b13 (u64N d) 4 _ _ _ hW31 hd64 qD (by first|(simp [I7];done)|(simp [I7];omega))) E ?_)
  rintro v36 M36 J36 ⟨rfl,hW36⟩ hKx36
  refine G8 M36 _ E E qP (λx hx=>hKx36 (hKn E) x (by simpa using hx)) λw0=>(C8 (Mc:=M36) (R:=_) (aS E (aS E (a0))) kR qP (L8 b13 vx x _ _ _ hW36 (hx.mono qS) (by first|(simp [I7];done)|(simp [I7];omega))) E ?_)
  rintro v40 M40 J40 ⟨rfl,hW40⟩ hKx40
  refine G8 M40 _ E E qP (λx hx=>hKx40 (hKn E) x (by simpa using hx)) λw0=>(C8 (Mc:=M40) (R:=_) (aS E (aS E (a0))) kR qP (L8 b13 vz z _ _ _ hW40 (hz.mono qS) (by first|(simp [I7];done)|(simp [I7];omega))) E ?_)
  rintro v44 M44 J44 ⟨rfl,hW44⟩ hKx44;refine A3G (nb (nx (D7 9 20 21 22) (C1 ?_)));refine lQ_ (D2 ((i+1:Nat):Int) E E (F5 qO qO qO)) ?_;refine mv_ (C5 ?_);exact rn (i+1,M44) ⟨hlt,hW44.eq (by dsimp only;rw [hP];simp [wiN,List.append_assoc])⟩ (by dsimp only;omega) (D7 9 20 21 22) (Ch qP) qS
 .
  have hge:i=2:=by simp at hc;omega
  subst hge;refine D6 (te (re (be E (nx (D1 9) (A1 (mv_ ?_))))));refine A2 E (C8 (Mc:=MW) (R:=_) (aS E a0) kR qP (A0o b13 _ _ _ hW qO) E ?_);rintro v47 M47 J47 ⟨hW47,h47⟩;haveI:=h47.cel;refine as_ (A0 (D1 8) (A9 ?_));exact ⟨_,[],[],H2 E E,qZ,E,h47.mono qS⟩
theorem B4F(pb:Nat)(s:Ps)(b:Bn)(va vg vk vs vo:Value)(MP A:Mem)(hP:Prm pb s MP)(hsub:∀x,x∈MP->x∈A)(har:Ar s.ts)(hn:s.ts.length<=1048576)(ga:By A va b.ia)(gg:By A vg b.ig)(gk:By A vk b.key)(gs:By A vs b.sig)(go:By A vo b.oncek)(hsn:b.signed<4294967296)(hG:Glb A):FnV prog 50 [(vP pb),.agg #[.int .i64 b.user,.int .i64 b.dev,va,vg,(vU b.signed),vk,vs,.bool b.has,(vU b.once),vo]] A (.bool (decide (b.key.length=32)&&B81 s b.ig (A97 b.signed b.key) b.sig)):=by
 haveI:=ga.cel;haveI:=gg.cel;haveI:=gk.cel;haveI:=gs.cel;haveI:=go.cel;have hgl:=gk.len;refine Cn (N:=23) func50 E E E λw=>?_;refine A8 (D0 0 1) (A1 ?_);refine A2 E (bx_ λb3=>?_);refine as_ (A0 (D0 0 3) ?_);refine C9 (.range 19) [(0,0),(1,1),(2,0),(3,0),(4,0),(5,0),(6,0),(7,0),(8,1),(9,0),(10,1),(11,0),(12,1),(14,0),(15,1),(13,2),(16,2),(17,0),(18,0)] kR kR λhs=>?_;refine fQ_ E (qf_ 5 5) ?_;refine fR_ E ql_ ?_;refine fQ_ E (F8 (sz:=1) E kR gk.rd) ?_;refine fQ_ E (F6 (decide (b.key.length=32)) E E (C4L _ 32)) (fm_ ?_);refine A0h (t:=9) E (λhb=>?_) (λhb=>?_)
 . have hk32:b.key.length=32:=of_decide_eq_true hb;refine fG_ E qm_ (fG_ E (qf_ 2 2) (fG_ E (qf_ 3 1) ?_));refine fH_ E ql_ ?_;refine fG_ E (qf_ 4 4) ?_;refine fH_ E ql_ ?_;refine fG_ E (qf_ 5 5) ?_;refine fH_ E ql_ ?_;refine fG_ E (qf_ 6 6) ?_;refine fH_ E ql_ ?_;refine A2J E E E E (aS E (aS E a0)) kR (A8d b.signed vk b.key _ hsn (gk.mono qS) qO) E ?_;rintro v18 M18 J18 ⟨rfl,h18⟩;haveI:=h18.cel;refine A2K E E E E (aS E (aS E (aS E (aS E a0)))) kR (B7D pb s vg v18 vs b.ig (A97 b.signed b.key) b.sig MP _ hP (λx hx=>qS _ (hsub x hx)) har hn (gg.mono qS) (h18.mono qS) (gs.mono qS) hG.up) E ?_;refine fQ_ E (H6 E E) (fA_ E E (E4 (D1 4) (A9 ?_)));exact ⟨_,[],[],H2 E E,Aa _,by simp,by rw [hb,Bool.true_and],E,E⟩
 . refine L0 hs ?_;refine L0 hs ?_;refine L0 hs ?_;refine W3 hs ?_;refine L0 hs ?_;refine W3 hs ?_;refine L0 hs ?_;refine W3 hs ?_;refine L0 hs ?_;refine W3 hs ?_;refine A7x hs E E E E E E ?_;refine A7x hs E E E E E E ?_;refine fQ_ E (E8 E E) (fA_ E E (E4 (D1 4) (A9 ?_)));exact ⟨_,[],[],H2 E E,Aa _,by simp,by rw [hb,Bool.false_and],E,E⟩

variable{P:Program}{fn:Func}{v z:Value}
theorem B4G{l:Env}{R:Mem}{t u x b n:Nat}{ty:TypeId}{cs:List Value}{e:TypeId}{fr:Nat×Nat}(h:fn.results=#[.tmp u,.cell t ty,.tmp x])(hv:lk l t=some (vP b))(hu:lk l u=some v)(hx:lk l x=some z)(ht:A59 P ty=some n)
    (hb:(b,Obj.cells cs.toArray e fr)∈R) (hn:cs.length=n):Res P fn l R (.tuple #[v,.agg cs.toArray,z]):=λN a w ha hw=>by
  obtain ⟨dsc,h1,h2,h3⟩:=R5 ht;have hl:=run_loadVar_row (P:=P) w b e ty cs.toArray fr dsc (hw b _ hb) h1 (by cases dsc<;>simp_all [TypeDesc.isRow]) (by rw [h3,<- hn];simp);simp [results,h,ha.slot t _ hv,ha.slot u _ hu,ha.slot x _ hx,asAddr,hl]
theorem C5u{l:Env}{R:Mem}{t u x:Nat}{y:Value}(h:fn.results=#[.tmp t,.tmp u,.tmp x])(hv:lk l t=some v)(hu:lk l u=some z)(hx:lk l x=some y):Res P fn l R (.tuple #[v,z,y]):=λN a w ha hw=>by simp [results,h,ha.slot t _ hv,ha.slot u _ hu,ha.slot x _ hx]
def ckB(s:Ps)(b:Bn):Bool:=decide (b.key.length=32)&&B81 s b.ig (A97 b.signed b.key) b.sig
def heC(va vg vk:Value)(h:He):List Value:=[va,vg,vk,(vU h.signed),.bool h.has,(vU h.once)]
structure HeR(R:Mem)(h:He)(va vg vk:Value):Prop where
  ia:By R va h.ia
  ig:Byi R vg h.ig
  key:By R vk h.key
  signed:h.signed<4294967296
  once:h.once<4294967296
theorem HeR.mono{R R':Mem}{h:He}{va vg vk:Value}(g:HeR R h va vg vk)(hR:∀x,x∈R->x∈R'):HeR R' h va vg vk:=⟨g.ia.mono hR,g.ig.mono hR,g.key.mono hR,g.signed,g.once⟩
theorem C1c(pb:Nat)(s:Ps)(kb:Nat)(k:Ks)(va vg vq vo vm:Value)(rs ro rm:List (List Value))(b:Bn)(wa wg wk ws wo:Value)(MP A:Mem)(hK:KyR A kb k va vg vq vo vm rs ro rm)(hP:Prm pb s MP)(har:Ar s.ts)(hn:s.ts.length+1000<=1040000)(hk:s.n<1000000000)(ga:By A wa b.ia)(gg:By A wg b.ig)(gk:By A wk b.key)(gs:By A ws b.sig)(go:By A wo b.oncek)(hsn:b.signed<4294967296)(hon:b.once<4294967296)(hG:Glb A):FnX prog 21 [(vP pb),(vP kb),.agg #[.int .i64 b.user,.int .i64 b.dev,wa,wg,(vU b.signed),wk,ws,.bool b.has,(vU b.once),wo]] MP A λq M J=>(ckB s b=true->∃v p r u,q=.tuple #[v,.agg (heC p r u (stH k b s)).toArray,U7]∧Prm pb (stS k b s) M∧By J v (stK k b s)∧HeR (J++A) (stH k b s) p r u)∧(ckB s b=false->q=.tuple #[vS,.agg #[vS,vS,vS,D3,.bool false,D3],.int .i64 10]∧Prm pb s M):=by
 haveI:=ga.cel;haveI:=gg.cel;haveI:=gk.cel;haveI:=gs.cel;haveI:=go.cel;have f1:=T7 s;have f2:=T3 (E5 s) k.agree b.key;have f3:=T3 (K7 (E5 s) k.agree b.key) (F3 s) b.ia;have f4:=T3 (K7 (K7 (E5 s) k.agree b.key) (F3 s) b.ia) (F3 s) b.key;have f5:=T3 (K7 (K7 (K7 (E5 s) k.agree b.key) (F3 s) b.ia) (F3 s) b.key) (F3 s) b.oncek;refine Co (N:=74) func21 E E E λw_=>?_;refine A8 (D5 0 1 2) (A1 ?_);refine A2 E (bx_ λb5=>?_);refine as_ ?_;refine A2 E (C3 (cs:=[vS,vS,vS,D3,.bool false,D3]) kR E λb7=>?_);refine aS_ E (A0 (D7 0 1 5 7) (A3 (A1 (mV_ E (lQ_ (F0 (e:=77) E E kR) (mv_ ?_))))));refine G1 E E (Cp qm_ E ?_);refine G1 E E (Cp (F0 (e:=72) E E kR) E ?_);refine lQ_ (E8 E E) (A0 (E9 0 1 5 7 17) ?_);refine C7 E ?_;refine A4 (nx (D7 0 1 5 7) (A3 (A1 (mv_ ?_))));refine lQ_ (qw_ 10) ?_;refine D8 (aS E (aS E a0)) kR (B4F pb s b wa wg wk ws wo MP _ hP (by intro z hz;simp [hz]) har qO (ga.mono qS) (gg.mono qS) (gk.mono qS) (gs.mono qS) (go.mono qS) hsn hG.up) E ?_;change XL _ _ _ _ ((21,.bool (ckB s b))::_) _ _;refine lQ_ (V7 E) (A0 (E9 0 1 5 7 22) ?_);refine C2 E ?_ ?_<;>intro hc
 .
  have hck:ckB s b=false:=by simpa using hc
  refine A1 ?_;refine lQ_ (E6 (place:=λx=>#[(0,2),(2,1),(3,1),(4,1),(5,1)][x]?) (z:=[vS,vS,vS,D3,.bool false,D3]) (λ_=>by kernel_rfl) e0 bd0) ?_;refine as_ ?_;refine A2 E (A5 E E Cf kR ln6 al6 Cv ?_);refine as_ (A0 (D5 6 7 8) (A9 (tr ?_)));exact ⟨_,MP,[],B4G (n:=6) E E E E kR Ce qR,Ci (Ch qP),(λh=>by rw [hck] at h;cases h),λ_=>⟨rfl,hP⟩⟩
 .
  have hck:ckB s b=true:=by simpa using hc
  refine A4 (nx (D7 0 1 5 7) (A1 (mv_ ?_)));refine A2 E (C8 (Mc:=MP) (R:=_) (aS E (a0)) kR qP (X5 pb s MP _ hP qO qO hG.up) E ?_);rintro v25 M25 J25 ⟨hP25,h25⟩;haveI:=h25.cel;refine as_ (A0 (E9 0 1 5 7 9) ?_);refine F9 (M25) (_) true (.range 19) [(0,0),(1,0),(3,0),(4,1),(6,0),(7,0),(8,0),(9,0),(10,1),(12,0),(13,0),(14,0),(15,1),(2,2),(5,2),(11,2),(16,2),(17,2),(18,0)] kR kR qP λhs K n0 hKm hKs hKn=>?_;refine kM_ E E (kM_ E E (kQ_ E (qf_ 5 5) ?_));refine I8 hs E hKs ql_ ?_;refine kM_ E E (kM_ E E (kQ_ E (qf_ 2 2) (kQ_ E (qf_ 2 0) ?_)));refine I8 hs E hKs ql_ ?_;refine kM_ E E (kM_ E E (kQ_ E (qf_ 5 5) ?_));refine I8 hs E hKs ql_ ?_
  refine G8 [] _ rfl rfl (Ah _) (λ_ h=>by cases h) λw0=>(D9 (aS rfl a0) kR (A98 kb k va vg vq vo vm rs ro rm _ (hK.mono qS)) rfl ?_)
  rintro v28 M28 J28 ⟨rfl,h28⟩ _;haveI:=h28.cel;dsimp only [Cw,List.append_eq]
  refine G8 _ _ E E (Ah _) hKm λw0=>(C8 (Mc:=M25) (R:=_) (aS E (aS E (aS E (a0)))) kR qP (A1h pb (E5 s) v28 wk k.agree b.key M25 _ hP25 qO (h28.mono qS) (gk.mono qS) hG.up) E ?_)
  rintro v31 M31 J31 ⟨hP31,h31⟩ hKx31;haveI:=h31.cel
  refine G8 M31 _ E E qP (λx hx=>hKx31 (hKn E) x (by simpa using hx)) λw0=>(C8 (Mc:=M31) (R:=_) (aS E (aS E (aS E (a0)))) kR qP (A1h pb ((K7 (E5 s) k.agree b.key)) v25 wa (F3 s) b.ia M31 _ hP31 qO (h25.mono qS) (ga.mono qS) hG.up) E ?_)
  rintro v37 M37 J37 ⟨hP37,h37⟩ hKx37;haveI:=h37.cel
  refine G8 M37 _ E E qP (λx hx=>hKx37 (hKn E) x (by simpa using hx)) λw0=>(C8 (Mc:=M37) (R:=_) (aS E (aS E (aS E (a0)))) kR qP (A1h pb ((K7 (K7 (E5 s) k.agree b.key) (F3 s) b.ia)) v25 wk (F3 s) b.key M37 _ hP37 qO (h25.mono qS) (gk.mono qS) hG.up) E ?_)
  rintro v42 M42 J42 ⟨hP42,h42⟩ hKx42;haveI:=h42.cel
  refine G8 [] _ rfl rfl (Ah _) (λ_ h=>by cases h) λw0=>(C4 (e:=22) (sz:=1) (z:=[vS,vS,vS]) kR (eS rfl (eS rfl (eS rfl e0))) (bdS 0 1 rfl qR (bdS 1 1 rfl qR (bdS 2 1 rfl qR bd0))) rfl λb43=>λhk43=>?_)
  dsimp only [Cy,Cw,List.append_eq];refine kQ_ E (G2 E) (I0 (G9 0 1 5 7 9 10) ?_);refine P3 (α:=Value×Mem×Mem) (λy=>[(0,(vP pb)),(1,(vP kb)),(5,(vP b5)),(7,(vP b7)),(9,v25),(10,y.1)]) (λy=>y.2.1++[(b5,blk [.int .i64 b.user,.int .i64 b.dev,wa,wg,(vU b.signed),wk,ws,.bool b.has,(vU b.once),wo] 53),(b7,blk [vS,vS,vS,D3,.bool false,D3] 42)]) (λy=>y.2.2) (λy=>Prm pb (stA k.agree b s) y.2.1∧LsV (y.2.2++A) y.1 (stL k.agree b s)∧By (y.2.2++A) v25 (F3 s)) ?_ ?_
  .
   refine Z4 (B:=[(b43,blk [v31,v37,v42] 22)]) qP ?_;refine A1 (lQ_ (qf_ 7 7) ?_);refine lQ_ ql_ ?_;refine A0 (N1 0 1 5 7 9 10 45) ?_;refine C2 E ?_ ?_<;>intro hc
   . refine C1 (mV_ E (mV_ E (mV_ E (lQ_ (qf_ 9 9) ?_))));refine lQ_ ql_ ?_;refine A2 E (C8 (Mc:=M42) (R:=_) (aS E (aS E (aS E (a0)))) kR qP (A1h pb (K7 (K7 (K7 (E5 s) k.agree b.key) (F3 s) b.ia) (F3 s) b.key) v25 wo (F3 s) b.oncek M42 _ hP42 qO (h25.mono qS) (go.mono qS) hG.up) E ?_);rintro v51 M51 J51 ⟨hP51,h51⟩;haveI:=h51.cel;refine A2 E (C4 (e:=22) (sz:=1) (z:=[vS]) kR (eS E e0) (bdS 0 1 E qR bd0) E λb52=>?_);refine A2 E (A2U (e:=22) (sz:=1) (by_:=24) (xs:=[v31,v37,v42]) E E kR E (Cr (n:=3) Ce qR) (Cr (n:=1) Ce qR) qD qD qD E λv53 B53 hs53=>?_);haveI:=hs53.cel;refine A3J (B:=B53) qP ?_;refine as_ (C5 ?_);exact jn (v53,M51,_) ⟨by dsimp only;unfold stA stP;rw [hc];exact hP51,by dsimp only;unfold stL stP;rw [hc];exact ⟨[v31,v37,v42]++[v51],hs53.rd qS,Lst.cons (h31.mono qS) (Lst.cons (h37.mono qS) (Lst.cons (h42.mono qS) (Lst.cons (h51.mono qS) Lst.nil)))⟩,h25.mono qS⟩ (G9 0 1 5 7 9 10) (Cj qP (Ch qP)) qI
   . refine A4 ?_;exact jn (.slice (some ⟨b43,0,none⟩) 3 3,M42,_) ⟨by dsimp only;unfold stA stP;rw [hc];exact hP42,by dsimp only;unfold stL stP;rw [hc];exact ⟨[v31,v37,v42],Cr (n:=3) Ce qR,Lst.cons (h31.mono qS) (Lst.cons (h37.mono qS) (Lst.cons (h42.mono qS) Lst.nil))⟩,h25.mono qS⟩ (G9 0 1 5 7 9 10) (Cj qP (Ch qP)) qI
  .
   rintro ⟨lv,MJ,J9⟩ ⟨hPJ,hLJ,he25⟩;dsimp only at hPJ hLJ he25 ⊢;haveI:=hLJ.cel;obtain ⟨hzA,hzI,hzS,hzn,hzL⟩:=C1a k b s;have hI:stI k b s=H3 (idS k (stA k.agree b s)) (F3 s):=rfl;have hH:stH k b s=⟨idA k (stA k.agree b s),idG k (stA k.agree b s),I5 (idS k (stA k.agree b s)) (F3 s),b.signed,b.has,if b.has then b.once else 0⟩:=rfl;rw [hH];have hzi:=A4W k (stA k.agree b s);rw [hI] at hzI;generalize F3 s=e at *
   obtain ⟨sA,hsA⟩:∃z,stA k.agree b s=z:=⟨_,E⟩
   rw [hsA] at hPJ hzA hI hzi hzI ⊢;refine F9 (MJ) (_) true (.range 12) [(0,0),(1,0),(3,0),(4,0),(6,0),(7,1),(8,0),(9,1),(2,3),(5,3),(10,3),(11,4),(12,2)] kR kR qP λhs K n0 hKm hKs hKn=>?_;refine kM_ E E (kM_ E E (kM_ E E (kM_ E E (kQ_ E (qf_ 4 4) ?_))));refine I8 hs E hKs ql_ ?_;refine kQ_ E (qf_ 7 7) ?_;refine I8 hs E hKs ql_ ?_
   refine A03 [⟨2,56,none,MJ,λv B R=>Prm pb (idS k sA) B∧∃p q,v=.agg #[p,q]∧By R p (idA k sA)∧By R q (idG k sA)⟩,⟨5,59,some 2,[],λv B R=>Prm pb (H3 (idS k sA) e) B∧By R v (I5 (idS k sA) e)⟩,⟨10,64,none,[],λv B R=>B=[]∧∃p r u,v=.agg #[p,r,u,(vU b.signed),.bool b.has,(vU 0)]∧By R p (idA k sA)∧By R r (idG k sA)∧By R u (I5 (idS k sA) e)⟩,⟨11,11,none,[],λv B _=>∃b,v=(vP b)∧B=[(b,blk [vS,vS,vS,D3,.bool false,D3] 42)]⟩] ([(b5,blk [.int .i64 b.user,.int .i64 b.dev,wa,wg,(vU b.signed),wk,ws,.bool b.has,(vU b.once),wo] 53),(b7,blk [vS,vS,vS,D3,.bool false,D3] 42)]) (λbs=>[bs 5,bs 10,bs 11]) (hKn E) (by simp [X6,A1e]) (show ∀m∈([MJ,[],[]]:List Mem),∀x∈m,K x.1 from A7 (hKm) (A7 gn0 (A7 gn0 (K5)))) kR (λ_=>by first|rfl|kernel_rfl)
    (A7 (λ_ _ _ _ h ⟨p1,p,q,e,p2,p3⟩=>⟨p1,p,q,e,p2.mono h,p3.mono h⟩) (A7 (λ_ _ _ _ h ⟨p1,p2⟩=>⟨p1,p2.mono h⟩) (A7 (λ_ _ _ _ h ⟨p1,p,q,u,e,p2,p3,p4⟩=>⟨p1,p,q,u,e,p2.mono h,p3.mono h,p4.mono h⟩) (A7 gM (K5))))) nd_ nd_ dl_
    (gC ?_ (gC ?_ (gC ?_ (gC ?_ (K5))))) ?_
   . intro _ _ R _ _ hb _ _ _;dsimp only [Gc.inp];refine C8 (Mc:=MJ) (R:=[]) (aS E (aS E (a0))) kR qM (A60 pb sA kb k va vg vq vo vm rs ro rm MJ _ (hK.mono (λx hx=>by have:=hb x (by simp [hx]);simp [this])) hPJ qO (hG.sub (λx hx=>by have:=hb x (by simp [hx]);simp [this]))) E ?_;rintro v25 M25 J25 ⟨hP25,p,q,rfl,hp,hq⟩;exact ⟨_,E,by simpa using hP25,p,q,E,hp.mono λx hx=>by simp [hx],hq.mono λx hx=>by simp [hx]⟩
   . intro vs bs R _ _ hb _ _ ha;dsimp only [Gc.inp];have g2:=gx 0 ha;dsimp only at g2;obtain ⟨hP25,-⟩:=g2;refine C8 (Mc:=bs 2) (R:=[]) (aS E (aS E (a0))) kR qM (A1W pb (idS k sA) v25 e (bs 2) _ hP25 qO (he25.mono (λx hx=>by have:=hb x (by simp [hx]);simp [this])) (hG.sub (λx hx=>by have:=hb x (by simp [hx]);simp [this]))) E ?_;rintro v31 M31 J31 ⟨hP31,h31⟩;exact ⟨_,E,by simpa using hP31,h31.mono λx hx=>by simp [hx]⟩
   . intro _ _ _ _ _ _ _ _ ha;dsimp only [Gc.inp];have g2:=gx 0 ha;dsimp only at g2;have g5:=gx 1 ha;dsimp only at g5;obtain ⟨-,h31⟩:=g5;obtain ⟨-,p,q,e25,hp,hq⟩:=g2;haveI:=h31.cel;haveI:=hp.cel;haveI:=hq.cel;dsimp only [Q9,List.map,Cy,Cw];rw [e25];exact Cp (E6 (place:=λx=>#[(0,2),(2,1),(3,1),(4,1),(5,1)][x]?) (z:=[vS,vS,vS,D3,.bool false,D3]) (λ_=>by kernel_rfl) (eS E (eS E (eS E (eS E e0)))) (bdS 0 2 E qR (bdS 2 1 E qR (bdS 3 1 E qR (bdS 4 1 E qR bd0))))) E ⟨_,E,E,p,q,_,E,hp,hq,h31⟩
   .
    intros
    dsimp only [Gc.inp]
    exact C3 (cs:=[vS,vS,vS,D3,.bool false,D3]) kR E λb=>⟨_,E,b,E,E⟩
   intro vs bs Jn0 hφ hKK;clear hKK;have g2:=gy 0 hφ;have g5:=gy 1 hφ;have g10:=gy 2 hφ;have g11:=gy 3 hφ;dsimp only at g2 g5 g10 g11;clear hφ;dsimp only [Q9,X6,List.foldr,List.map,Cy,Cw];generalize bs 2=B56,bs 5=B59,bs 10=B64,bs 11=B11,vs 2=u56,vs 5=u59,vs 10=u64,vs 11=u11 at *;obtain ⟨hP59,-⟩:=g5;clear g2;obtain ⟨b11,rfl,rfl⟩:=g11;obtain ⟨rfl,p,r,u,rfl,hp,hr,hu⟩:=g10;haveI:=hp.cel;haveI:=hr.cel;haveI:=hu.cel;refine K6 E E E (A5 (vs:=[p,r,u,(vU b.signed),.bool b.has,(vU 0)]) E E E kR qR (A7 hp.one (A7 hr.one (A7 hu.one al3))) Cv ?_);refine I0 (E9 0 5 7 10 11) (A3 ?_);cases hh:b.has
   .
    refine A1 (lQ_ (qf_ 7 7) ?_);refine lQ_ ql_ ?_;refine A0 (G9 0 5 7 10 11 66) ?_;refine C7 E ?_;refine A4 (nx (D7 0 7 10 11) ?_);refine F9 (B59) (_) true [0,1,2,3,4,6] [(0,0),(1,0),(3,1),(2,2),(4,0),(5,2),(6,0)] kR kR qP λhs K n0 hKm hKs hKn=>?_;refine kM_ E E (km_ ?_);refine I8 hs E hKs (qw_ 6) ?_
    refine G8 _ _ E E (Ah _) hKm λw0=>(C8 (Mc:=B59) (R:=_) (aS E (aS E (a0))) kR qP (A4Y pb (stI k b s) lv (stL k.agree b s) B59 _ (hI▸hP59) (hLJ.mono qS) qO (by rw [hI];omega) hG.up) E ?_)
    rintro v72 M72 J72 ⟨hP72,h72⟩ hKx72;haveI:=h72.cel;refine kQ_ E (G2 E) ?_;refine K6 E E E (A5 (vs:=[p,r,u,(vU b.signed),.bool false,(vU 0)]) E E E kR qR (A7 hp.one (A7 hr.one (A7 hu.one al3))) Cv ?_);refine kQ_ E (G2 E) (I0 (D5 6 7 8) (A9 ?_));refine ⟨_,M72,[],B4G (n:=6) E E E E kR Ce qR,Ci (Ch qP),(λ_=>⟨_,p,r,u,E,hP72,h72.mono qS,hp.mono qS,(hr.mono qS).i,hu.mono qS,hsn,(by decide:0<4294967296)⟩),λh=>by rw [hck] at h;cases h⟩
   .
    refine A1 (lQ_ (qf_ 7 7) ?_);refine lQ_ ql_ ?_;refine A0 (G9 0 5 7 10 11 66) ?_;refine E2 E ?_;refine C1 (lQ_ (qf_ 8 8) ?_);refine lQ_ ql_ ?_;refine lQ_ (qf_ 5 5) ?_;refine A2 E (E1 E E E kR Ct Cv ?_);refine A0 (D7 0 7 10 11) ?_;refine F9 (B59) (_) true [0,1,2,3,4,6] [(0,0),(1,0),(3,1),(2,2),(4,0),(5,2),(6,0)] kR kR qP λhs K n0 hKm hKs hKn=>?_;refine kM_ E E (km_ ?_);refine I8 hs E hKs (qw_ 6) ?_
    refine G8 _ _ E E (Ah _) hKm λw0=>(C8 (Mc:=B59) (R:=_) (aS E (aS E (a0))) kR qP (A4Y pb (stI k b s) lv (stL k.agree b s) B59 _ (hI▸hP59) (hLJ.mono qS) qO (by rw [hI];omega) hG.up) E ?_)
    rintro v72 M72 J72 ⟨hP72,h72⟩ hKx72;haveI:=h72.cel;refine kQ_ E (G2 E) ?_;refine K6 E E E (A5 (vs:=[p,r,u,(vU b.signed),.bool true,(vU b.once)]) E E E kR qR (A7 hp.one (A7 hr.one (A7 hu.one al3))) Cv ?_);refine kQ_ E (G2 E) (I0 (D5 6 7 8) (A9 ?_));refine ⟨_,M72,[],B4G (n:=6) E E E E kR Ce qR,Ci (Ch qP),(λ_=>⟨_,p,r,u,E,hP72,h72.mono qS,hp.mono qS,(hr.mono qS).i,hu.mono qS,hsn,hon⟩),λh=>by rw [hck] at h;cases h⟩

theorem B7S(pb:Nat)(s:Ps)(kb:Nat)(k:Ks)(va vg vq vo vm:Value)(rs ro rm:List (List Value))(h:He)(wa wg wk:Value)(MP A:Mem)(hK:KyR A kb k va vg vq vo vm rs ro rm)(hrise:C2k k.once)(hP:Prm pb s MP)(hn:s.ts.length+1000<=1040000)(gh:HeR A h wa wg wk)(hG:Glb A):FnX prog 29 [(vP pb),(vP kb),.agg #[wa,wg,wk,(vU h.signed),.bool h.has,(vU h.once)]] MP A λq M J=>∃v o,q=.tuple #[v,o,.int .i64 (if (anR k h s).1.isSome then 0 else 9)]∧Prm pb (anR k h s).2 M∧By J v ((anR k h s).1.elim [] (·.1))∧By J o ((anR k h s).1.elim [] (·.2)):=by
 haveI:=gh.ia.cel;haveI:=gh.ig.cel;haveI:=gh.key.cel;refine Co (N:=70) func29 E E E λw_=>?_;refine A8 (D5 0 1 2) (A1 ?_);refine A2 E (bx_ λb5=>?_);refine aS_ E (aS_ E (aS_ E (A0 (D5 0 1 5) (A3 (A1 (mV_ E (lQ_ (F0 (e:=77) E E kR) (mv_ ?_))))))));refine G1 E E (Cp qm_ E ?_);refine G1 E E (Cp (F0 (e:=72) E E kR) E ?_);refine lQ_ (E8 E E) (A0 (D7 0 1 5 19) ?_);refine C7 E ?_;refine A4 (nx (D5 0 1 5) (A1 (mV_ E (lQ_ (qf_ 3 3) ?_))));refine lQ_ ql_ ?_;refine C6 (aS E (aS E a0)) kR (B7H kb k va vg vq vo vm rs ro rm h.signed _ (hK.mono qS)) E ?_;rintro r24 M24 J24 ⟨rfl,q1,rfl,hq1⟩;haveI:=hq1.cel;refine mV_ E (lQ_ (A0x E) (lQ_ (A0n E) (as_ (as_ (A0 (E9 0 1 5 9 10) (A3 ?_))))))
 cases hsg:A5r k.signed h.signed with
 | none=>?_
 | some sx=>?_
 . refine A1 (mV_ E (lQ_ (V7 E) (A0 (E9 0 1 5 9 28) ?_)));refine E2 E ?_;refine A1 (as_ (as_ (as_ (A0 (D5 6 7 8) (A9 (tr ?_))))));exact ⟨_,MP,[],C5u E E E E,Ci (Ch qP),by rw [C3G hsg];exact ⟨_,_,E,hP,By.nil,By.nil⟩⟩
 .
  rw [hsg] at hq1;change By _ q1 sx at hq1;have f2:=T3 s sx h.ia;have f3:=T3 (K7 s sx h.ia) k.agree h.key;have f4:=T3 (K7 (K7 s sx h.ia) k.agree h.key) sx h.key;refine A1 (mV_ E (lQ_ (V7 E) (A0 (E9 0 1 5 9 28) ?_)));refine C7 E ?_;refine A4 (nx (D7 0 1 5 9) ?_);refine F9 (MP) (_) true (.range 19) [(0,0),(1,0),(2,0),(3,0),(4,1),(6,0),(7,0),(9,0),(10,1),(12,0),(13,0),(14,0),(15,1),(5,2),(8,2),(11,2),(16,2),(17,2),(18,0)] kR kR qP λhs K n0 hKm hKs hKn=>?_;refine kM_ E E (kM_ E E (kQ_ E (qf_ 0 0) (kQ_ E (qf_ 0 0) ?_)));refine I8 hs E hKs ql_ ?_;refine kM_ E E (kM_ E E (kQ_ E (qf_ 2 2) ?_));refine I8 hs E hKs ql_ ?_;refine kM_ E E (kM_ E E (kQ_ E (qf_ 2 2) ?_));refine I8 hs E hKs ql_ ?_
  refine G8 _ _ E E (Ah _) hKm λw0=>(C8 (Mc:=MP) (R:=_) (aS E (aS E (aS E (a0)))) kR qP (A1h pb (s) q1 wa sx h.ia MP _ hP qO (hq1.mono qS) (gh.ia.mono qS) hG.up) E ?_)
  rintro v34 M34 J34 ⟨hP34,h34⟩ hKx34;haveI:=h34.cel
  refine G8 [] _ rfl rfl (Ah _) (λ_ h=>by cases h) λw0=>(D9 (aS rfl a0) kR (A98 kb k va vg vq vo vm rs ro rm _ (hK.mono qS)) rfl ?_)
  rintro v37 M37 J37 ⟨rfl,h37⟩ _;haveI:=h37.cel;dsimp only [Cw,List.append_eq]
  refine G8 M34 _ E E qP (λx hx=>hKx34 (hKn E) x (by simpa using hx)) λw0=>(C8 (Mc:=M34) (R:=_) (aS E (aS E (aS E (a0)))) kR qP (A1h pb ((K7 s sx h.ia)) v37 wk k.agree h.key M34 _ hP34 qO (h37.mono qS) (gh.key.mono qS) hG.up) E ?_)
  rintro v40 M40 J40 ⟨hP40,h40⟩ hKx40;haveI:=h40.cel
  refine G8 M40 _ E E qP (λx hx=>hKx40 (hKn E) x (by simpa using hx)) λw0=>(C8 (Mc:=M40) (R:=_) (aS E (aS E (aS E (a0)))) kR qP (A1h pb ((K7 (K7 s sx h.ia) k.agree h.key)) q1 wk sx h.key M40 _ hP40 qO (hq1.mono qS) (gh.key.mono qS) hG.up) E ?_)
  rintro v45 M45 J45 ⟨hP45,h45⟩ hKx45;haveI:=h45.cel
  refine G8 [] _ rfl rfl (Ah _) (λ_ h=>by cases h) λw0=>(C4 (e:=22) (sz:=1) (z:=[vS,vS,vS]) kR (eS rfl (eS rfl (eS rfl e0))) (bdS 0 1 rfl qR (bdS 1 1 rfl qR (bdS 2 1 rfl qR bd0))) rfl λb46=>λhk46=>?_)
  dsimp only [Cy,Cw,List.append_eq];refine kQ_ E (G2 E) (I0 (E9 0 1 5 9 11) ?_);refine P3 (α:=Value×Mem×Mem×Option (LN)) (λy=>[(0,(vP pb)),(9,q1),(11,y.1)]) (λy=>y.2.1) (λy=>y.2.2.1) (λy=>Prm pb (agS s (anP k.agree sx y.2.2.2 h)) y.2.1∧LsV (y.2.2.1++A) y.1 (agK s (anP k.agree sx y.2.2.2 h))∧By y.2.2.1 q1 sx∧anR k h s=anE k.agree sx y.2.2.2 h s) ?_ ?_
  .
   refine Z4 (B:=[(b46,blk [v34,v40,v45] 22)]) qP ?_;refine A1 (lQ_ (qf_ 4 4) ?_);refine lQ_ ql_ ?_;refine A0 (G9 0 1 5 9 11 48) ?_;refine C2 E ?_ ?_<;>intro hc
   .
    refine A1 (mV_ E (lQ_ (qf_ 5 5) ?_));refine lQ_ ql_ ?_;refine C6 (aS E (aS E a0)) kR (C3y kb k va vg vq vo vm rs ro rm h.once _ (hK.mono qS) hrise) E ?_;rintro r53 M53 J53 ⟨rfl,q2,rfl,hq2⟩;haveI:=hq2.cel;refine mV_ E (lQ_ (A0x E) (lQ_ (A0n E) (as_ (as_ (A0 (G9 0 5 9 11 12 13) (A3 ?_))))))
    cases hog:A5r k.once h.once with
    | none=>?_
    | some ox=>?_
    . refine A1 (mV_ E (lQ_ (V7 E) (A0 (G9 0 5 9 11 12 57) ?_)));refine E2 E ?_;refine A1 (as_ (as_ (as_ (A0 (D5 6 7 8) (A9 (tr (jr ?_)))))));exact ⟨_,M45,[],C5u E E E E,Ci (Ch qP),by rw [C1b hsg hc hog];exact ⟨_,_,E,hP45,By.nil,By.nil⟩⟩
    . rw [hog] at hq2;change By _ q2 ox at hq2;refine A1 (mV_ E (lQ_ (V7 E) (A0 (G9 0 5 9 11 12 57) ?_)));refine C7 E ?_;refine A4 (nx (E9 0 5 9 11 12) (C1 (mV_ E (mV_ E (mV_ E (lQ_ (qf_ 2 2) ?_))))));refine lQ_ ql_ ?_;refine A2 E (C8 (Mc:=M45) (R:=_) (aS E (aS E (aS E (a0)))) kR qP (A1h pb (K7 (K7 (K7 s sx h.ia) k.agree h.key) sx h.key) q2 wk ox h.key M45 _ hP45 qO (hq2.mono qS) (gh.key.mono qS) hG.up) E ?_);rintro v63 M63 J63 ⟨hP63,h63⟩;haveI:=h63.cel;refine A2 E (C4 (e:=22) (sz:=1) (z:=[vS]) kR (eS E e0) (bdS 0 1 E qR bd0) E λb64=>?_);refine A2 E (A2U (e:=22) (sz:=1) (by_:=24) (xs:=[v34,v40,v45]) E E kR E (Cr (n:=3) Ce qR) (Cr (n:=1) Ce qR) qD qD qD E λv65 B65 hs65=>?_);haveI:=hs65.cel;refine A3J (B:=B65) qP ?_;refine as_ (C5 ?_);exact jn (v65,M63,_,some ox) ⟨hP63,⟨[v34,v40,v45]++[v63],hs65.rd qS,Lst.cons (h34.mono qS) (Lst.cons (h40.mono qS) (Lst.cons (h45.mono qS) (Lst.cons (h63.mono qS) Lst.nil)))⟩,hq1.mono qS,B4C hsg hc hog⟩ (D5 0 9 11) (Ch qP) qI
   . refine A4 ?_;exact jn (.slice (some ⟨b46,0,none⟩) 3 3,M45,_,none) ⟨hP45,⟨[v34,v40,v45],Cr (n:=3) Ce qR,Lst.cons (h34.mono qS) (Lst.cons (h40.mono qS) (Lst.cons (h45.mono qS) Lst.nil))⟩,hq1.mono qS,B0e hsg hc⟩ (D5 0 9 11) (Ch qP) qI
  .
   rintro ⟨lv,MJ,J9,xo⟩ ⟨hPJ,hLJ,hqJ,hR⟩;dsimp only at hPJ hLJ hqJ hR ⊢;haveI:=hLJ.cel;have hzl:(agK s (anP k.agree sx xo h)).length<=4:=by rw [A87];unfold anP;split<;>simp
   have hzs:=A86 (anP k.agree sx xo h) s;have hz0:(anP k.agree sx xo h).length<=4:=by unfold anP;split<;>simp
   refine A1 (mv_ (mv_ ?_));refine A2 E (C8 (Mc:=MJ) (R:=_) (aS E (aS E (a0))) kR qP (A4Y pb _ lv _ MJ _ hPJ (hLJ.mono qS) qO qO hG.up) E ?_);rintro v68 M68 J68 ⟨hP68,h68⟩;haveI:=h68.cel;refine mv_ (as_ (as_ (as_ (A0 (D5 6 7 8) (A9 ?_)))));exact ⟨_,M68,[],C5u E E E E,Ci (Ch qP),by rw [hR];exact ⟨_,_,E,hP68,h68.mono qS,hqJ.mono qS⟩⟩

theorem D4(pre vs post:List Value):∀(j:Nat) v,vs[j]? = some v->(pre++(vs++post))[pre.length+j]? = some v:=λj v h=>by rw [Aq qO,Nat.add_sub_cancel_left,Ak (Ac.1 h).1];exact h
def fl1(b:Bool):Nat:=if b then 1 else 0
def wFl(ws:LN)(b:Bool):LN:=ws++beN (fl1 b) 1
def wB4(ws w:LN):LN:=ws++beN w.length 4++w
def wN4(ws:LN)(n:Nat):LN:=ws++beN n 4
def whW(ws:LN)(u d:Int):LN:=wN4 (wN4 ws (u32N u)) (u32N d)
def idW(ws a g:LN):LN:=wB4 (wB4 ws a) g
def heF(ws:LN)(h:He):LN:=wFl (wN4 (wB4 (idW ws h.ia h.ig) h.key) h.signed) h.has
def heW(ws:LN)(h:He):LN:=if h.has then wN4 (heF ws h) h.once else heF ws h
theorem A0G(ws:LN)(b:Bool):(wFl ws b).length=ws.length+1:=by simp [wFl,I7]
theorem A0a(ws w:LN):(wB4 ws w).length=ws.length+w.length+4:=by simp [wB4,I7];omega
theorem A0b(ws:LN)(n:Nat):(wN4 ws n).length=ws.length+4:=by simp [wN4,I7]
theorem A0H(ws:LN)(u d:Int):(whW ws u d).length=ws.length+8:=by simp [whW,A0b]
theorem A0V(ws a g:LN):(idW ws a g).length=ws.length+a.length+g.length+8:=by simp [idW,A0a];omega
theorem B4H(ws:LN)(h:He):(heF ws h).length=ws.length+h.ia.length+h.ig.length+h.key.length+17:=by simp [heF,A0G,A0b,A0a,A0V];omega
theorem B4I(ws:LN)(h:He):(heW ws h).length<=ws.length+h.ia.length+h.ig.length+h.key.length+21:=by
  have h1:=B4H ws h;unfold heW;split
  . rw [A0b];omega
  . omega
structure Ev where
  fu:Int
  fd:Int
  tu:Int
  td:Int
  ses:LN
  has:Bool
  he:He
  hk:LN
  hp:Nat
  hn:Nat
  g:LN
def frF(ws:LN)(x:Ev):LN:=wFl (wB4 (whW (whW ws x.fu x.fd) x.tu x.td) x.ses) x.has
def frW(ws:LN)(x:Ev):LN:=if x.has then heW (frF ws x) x.he else frF ws x
theorem B4J(ws:LN)(x:Ev):(frF ws x).length=ws.length+x.ses.length+21:=by simp [frF,A0G,A0a,A0H];omega
def evC(vs p r u vk vg:Value)(x:Ev):List Value:=[.int .i64 x.fu,.int .i64 x.fd,.int .i64 x.tu,.int .i64 x.td,vs,.bool x.has,p,r,u,(vU x.he.signed),.bool x.he.has,(vU x.he.once),vk,(vU x.hp),(vU x.hn),vg]
structure EvR(R:Mem)(x:Ev)(vs p r u vk vg:Value):Prop where
  ses:By R vs x.ses
  he:HeR R x.he p r u
  hil:x.he.ig.length<=1000000
  hk:By R vk x.hk
  g:By R vg x.g
  hp:x.hp<4294967296
  hn:x.hn<4294967296
theorem EvR.mono{R R':Mem}{x:Ev}{vs p r u vk vg:Value}(h:EvR R x vs p r u vk vg)(hR:∀z,z∈R->z∈R'):EvR R' x vs p r u vk vg:=⟨h.ses.mono hR,h.he.mono hR,h.hil,h.hk.mono hR,h.g.mono hR,h.hp,h.hn⟩
theorem B4K(wb:Nat)(b:Bool)(ws:LN)(MW A:Mem)(hW:Wtr wb ws MW)(hl:ws.length<=100000000):FnX prog 131 [(vP wb),.bool b] MW A λq M J=>q=(vP wb)∧Wtr wb (wFl ws b) M:=by
 refine Co (N:=10) func131 E E E λw_=>?_;refine A8 (D0 0 1) (A1 (as_ (A0 (D0 0 1) (A3 (A1 (mv_ (A0 (D0 0 5) ?_)))))));refine C2 E ?_ ?_<;>intro hc
 . obtain rfl:b=true:=hc;refine A1 (mv_ ?_);refine A2 E (C8 (Mc:=MW) (R:=_) (aS E (aS E (aS E a0))) kR qP (Q0 wb 1 1 ws MW _ hW qD qD qO) E ?_);rintro v7 M7 J7 ⟨rfl,hW7⟩;refine as_ (A0 (D1 4) (A9 (tr ?_)));exact ⟨_,M7,[],H2 E E,Ci (Ch qP),E,hW7⟩
 . obtain rfl:b=false:=hc;refine A4 (nx (D1 0) (A1 (mv_ ?_)));refine A2 E (C8 (Mc:=MW) (R:=_) (aS E (aS E (aS E a0))) kR qP (Q0 wb 0 1 ws MW _ hW qD qD qO) E ?_);rintro v9 M9 J9 ⟨rfl,hW9⟩;refine as_ (A0 (D1 4) (A9 ?_));exact ⟨_,M9,[],H2 E E,Ci (Ch qP),E,hW9⟩
theorem B89(wb:Nat)(u d:Int)(ws:LN)(MW A:Mem)(hW:Wtr wb ws MW)(hl:ws.length<=50000000):FnX prog 135 [(vP wb),.agg #[.int .i64 u,.int .i64 d]] MW A λq M J=>q=.tuple #[]∧Wtr wb (whW ws u d) M:=by
 have hu:=B4D u;have hd:=B4D d;refine Co (N:=15) func135 E E E λw_=>?_;refine A8 (D0 0 1) (A1 ?_);refine A2 E (bx_ λb3=>?_);refine A0 (D0 0 3) ?_;refine Y8 (MW) (_) true (.range 11) [(0,0),(1,0),(2,1),(3,0),(4,0),(6,0),(7,1),(8,0),(9,0),(5,2),(10,2)] kR kR qP λhs K n0 hKm hKs hKn=>?_;refine kM_ E E (kQ_ E (qf_ 0 0) ?_);refine I8 hs E hKs ql_ ?_;refine kQ_ E (A0R (k':=.u32) ((u32N u:Nat):Int) E kR (A8f u)) ?_;refine kQ_ E (K2 (k':=.u64) (u32N u) E kR (A2r qO)) ?_;refine kQ_ E (qf_ 1 1) ?_;refine I8 hs E hKs ql_ ?_;refine kQ_ E (A0R (k':=.u32) ((u32N d:Nat):Int) E kR (A8f d)) ?_;refine kQ_ E (K2 (k':=.u64) (u32N d) E kR (A2r qO)) ?_
 refine G8 _ _ E E (Ah _) hKm λw0=>(C8 (Mc:=MW) (R:=_) (aS E (aS E (aS E (a0)))) kR qP (Q0 wb (u32N u) 4 _ MW _ hW qO qD (by first|omega|(simp [A0G,A0a,A0b,A0H,A0V,I7];omega))) E ?_)
 rintro v9 M9 J9 ⟨rfl,hW9⟩ hKx9
 refine G8 M9 _ E E qP (λx hx=>hKx9 (hKn E) x (by simpa using hx)) λw0=>(C8 (Mc:=M9) (R:=_) (aS E (aS E (aS E (a0)))) kR qP (Q0 wb (u32N d) 4 _ M9 _ hW9 qO qD (by first|omega|(simp [A0G,A0a,A0b,A0H,A0V,I7];omega))) E ?_)
 rintro v14 M14 J14 ⟨rfl,hW14⟩ hKx14;refine A3G ?_;exact ⟨_,M14,[],A8v E,Ci (Ch qP),E,hW14⟩
theorem B7T(wb:Nat)(va vg:Value)(a g ws:LN)(MW A:Mem)(hW:Wtr wb ws MW)(ha:By A va a)(hg:By A vg g)(hl:ws.length<=50000000):FnX prog 130 [(vP wb),.agg #[va,vg]] MW A λq M J=>q=.tuple #[]∧Wtr wb (idW ws a g) M:=by
 haveI:=ha.cel;haveI:=hg.cel;have hal:=ha.len;have hgl:=hg.len;refine Co (N:=11) func130 E E E λw_=>?_;refine A8 (D0 0 1) (A1 ?_);refine A2 E (bx_ λb3=>?_);refine A0 (D0 0 3) ?_;refine Y8 (MW) (_) true (.range 7) [(0,0),(1,0),(2,1),(4,0),(5,1),(3,2),(6,2)] kR kR qP λhs K n0 hKm hKs hKn=>?_;refine kM_ E E (kQ_ E (qf_ 0 0) ?_);refine I8 hs E hKs ql_ ?_;refine kQ_ E (qf_ 1 1) ?_;refine I8 hs E hKs ql_ ?_
 refine G8 _ _ E E (Ah _) hKm λw0=>(C8 (Mc:=MW) (R:=_) (aS E (aS E (a0))) kR qP (L8 wb va a _ MW _ hW (ha.mono qS) (by first|omega|(simp [A0G,A0a,A0b,A0H,A0V,I7];omega))) E ?_)
 rintro v7 M7 J7 ⟨rfl,hW7⟩ hKx7
 refine G8 M7 _ E E qP (λx hx=>hKx7 (hKn E) x (by simpa using hx)) λw0=>(C8 (Mc:=M7) (R:=_) (aS E (aS E (a0))) kR qP (L8 wb vg g _ M7 _ hW7 (hg.mono qS) (by first|omega|(simp [A0G,A0a,A0b,A0H,A0V,I7];omega))) E ?_)
 rintro v10 M10 J10 ⟨rfl,hW10⟩ hKx10;refine A3G ?_;exact ⟨_,M10,[],A8v E,Ci (Ch qP),E,hW10⟩
theorem B0f(wb:Nat)(h:He)(p r u:Value)(ws:LN)(MW A:Mem)(hW:Wtr wb ws MW)(gh:HeR A h p r u)(hil:h.ig.length<=1000000)(hl:ws.length<=40000000):FnX prog 90 [(vP wb),.agg (heC p r u h).toArray] MW A λq M J=>q=.tuple #[]∧Wtr wb (heW ws h) M:=by
 haveI:=gh.ia.cel;haveI:=gh.ig.cel;haveI:=gh.key.cel;have hal:=gh.ia.len;have hig:=gh.ig.by qO;have hgl:=hig.len;have hkl:=gh.key.len;have hsl:=gh.signed;have hol:=gh.once;unfold heC;refine Co (N:=26) func90 E E E λw_=>?_;refine A8 (D0 0 1) (A1 ?_);refine A2 E (bx_ λb3=>?_);refine A0 (D0 0 3) (A1 (mV_ E (lQ_ (qf_ 0 0) (lQ_ (F2 (n:=2) (vs:=[p,r]) E kR Ce E (D4 [] [p,r] [u,(vU h.signed),.bool h.has,(vU h.once)])) ?_))));refine A2 E (C8 (Mc:=MW) (R:=_) (aS E (aS E (a0))) kR qP (B7T wb p r h.ia h.ig ws MW _ hW (gh.ia.mono qS) (hig.mono qS) qO) E ?_);rintro v7 M7 J7 ⟨rfl,hW7⟩;refine A0 (D0 0 3) ?_;refine F9 (M7) (_) true (.range 11) [(0,0),(1,0),(2,1),(4,0),(5,1),(6,0),(8,0),(9,1),(3,2),(7,2),(10,2)] kR kR qP λhs K n0 hKm hKs hKn=>?_;refine kM_ E E (kQ_ E (qf_ 2 2) ?_);refine I8 hs E hKs ql_ ?_;refine kQ_ E (qf_ 3 3) ?_;refine I8 hs E hKs ql_ ?_;refine kQ_ E (K2 (k':=.u64) (h.signed) E kR (A2r qO)) ?_;refine kQ_ E (qf_ 4 4) ?_;refine I8 hs E hKs ql_ ?_
 refine G8 _ _ E E (Ah _) hKm λw0=>(C8 (Mc:=M7) (R:=_) (aS E (aS E (a0))) kR qP (L8 wb u h.key _ M7 _ hW7 (gh.key.mono qS) (by first|omega|(simp [A0G,A0a,A0b,A0H,A0V,I7];omega))) E ?_)
 rintro v11 M11 J11 ⟨rfl,hW11⟩ hKx11
 refine G8 M11 _ E E qP (λx hx=>hKx11 (hKn E) x (by simpa using hx)) λw0=>(C8 (Mc:=M11) (R:=_) (aS E (aS E (aS E (a0)))) kR qP (Q0 wb (h.signed) 4 _ M11 _ hW11 qO qD (by first|omega|(simp [A0G,A0a,A0b,A0H,A0V,I7];omega))) E ?_)
 rintro v15 M15 J15 ⟨rfl,hW15⟩ hKx15
 refine G8 M15 _ E E qP (λx hx=>hKx15 (hKn E) x (by simpa using hx)) λw0=>(C8 (Mc:=M15) (R:=_) (aS E (aS E (a0))) kR qP (B4K wb h.has _ M15 _ hW15 (by first|omega|(simp [A0G,A0a,A0b,A0H,A0V,I7];omega))) E ?_)
 rintro v18 M18 J18 ⟨rfl,hW18⟩ hKx18;refine I0 (D0 0 3) ?_;change Wtr wb (heF ws h) M18 at hW18;have hfl:=B4H ws h;refine A1 (lQ_ (qf_ 4 4) ?_);refine lQ_ ql_ ?_;refine A0 (D5 0 3 20) ?_;refine C2 E ?_ ?_<;>intro hc
 . have hh:h.has=true:=hc;refine C1 (mV_ E (lQ_ (qf_ 5 5) ?_));refine lQ_ ql_ ?_;refine lQ_ (K2 (k':=.u64) (h.once) E kR (A2r qO)) ?_;refine A2 E (C8 (Mc:=M18) (R:=_) (aS E (aS E (aS E (a0)))) kR qP (Q0 wb h.once 4 _ M18 _ hW18 qO qD qO) E ?_);rintro v25 M25 J25 ⟨rfl,hW25⟩;refine C5 ?_;exact ⟨_,M25,[],A8v E,Ci (Ch qP),E,by unfold heW;rw [if_pos hh];exact hW25⟩
 . have hh:h.has=false:=hc;refine A4 ?_;exact ⟨_,M18,[],A8v E,Ci (Ch qP),E,by unfold heW;rw [if_neg (by rw [hh];decide)];exact hW18⟩
theorem C1d(h:He)(p r u:Value)(A:Mem)(gh:HeR A h p r u)(hl:h.ia.length+h.ig.length+h.key.length<=1000000):FnX prog 58 [.agg (heC p r u h).toArray] [] A λq M J=>M=[]∧By J q (heW [] h):=by haveI:=gh.ia.cel;haveI:=gh.ig.cel;haveI:=gh.key.cel;have hal:=gh.ia.len;have hig:=gh.ig.by qO;have hgl:=hig.len;have hkl:=gh.key.len;have hsl:=gh.signed;have hol:=gh.once;unfold heC;refine Co (N:=11) func58 E E E λw_=>?_;refine A8 (D1 0) (A1 ?_);refine A2 E (bx_ λb1=>?_);refine as_ (A0 (D1 1) (A1 ?_));refine lQ_ (E6 (place:=λx=>#[(0,1)][x]?) (z:=[vS]) (λ_=>by kernel_rfl) e0 bd0) ?_;refine A2 E (bx_ λb5=>?_);refine aS_ E (A0 (D0 1 3) (A1 (mV_ E (lQ_ (F2 (n:=6) (vs:=[p,r,u,(vU h.signed),.bool h.has,(vU h.once)]) E kR Ce E (D4 [] [p,r,u,(vU h.signed),.bool h.has,(vU h.once)] [])) ?_))));refine A2 E (C8 (Mc:=[(b5,blk [vS] 126)]) (R:=_) (aS E (aS E (a0))) kR qP (B0f b5 h p r u [] _ _ Wtr.new (gh.mono qS) qO qD) E ?_);rintro v8 M8 J8 ⟨rfl,hW8⟩;have hwl:=B4I [] h;refine A0 (D1 3) (A1 (mv_ ?_));refine A2 E (C8 (Mc:=M8) (R:=_) (aS E a0) kR qP (A0o b5 _ M8 _ hW8 (by simp at hwl;omega)) E ?_);rintro v10 M10 J10 ⟨hW10,h10⟩;haveI:=h10.cel;refine as_ (A0 (D1 2) (A9 ?_));exact ⟨_,[],[],H2 E E,qZ,E,h10.mono qS⟩
theorem B7U(wb:Nat)(x:Ev)(vs p r u vk vg:Value)(ws:LN)(MW A:Mem)(hW:Wtr wb ws MW)(hx:EvR A x vs p r u vk vg)(hl:ws.length<=10000000):FnX prog 95 [(vP wb),.agg (evC vs p r u vk vg x).toArray] MW A λq M J=>q=.tuple #[]∧Wtr wb (frW ws x) M:=by
 haveI:=hx.ses.cel;haveI:=hx.he.ia.cel;haveI:=hx.he.ig.cel;haveI:=hx.he.key.cel;haveI:=hx.hk.cel;haveI:=hx.g.cel;have hsl:=hx.ses.len;unfold evC;refine Co (N:=25) func95 E E E λw_=>?_;refine A8 (D0 0 1) (A1 ?_);refine A2 E (bx_ λb3=>?_);refine A0 (D0 0 3) (A1 (mV_ E (lQ_ (qf_ 0 0) (lQ_ (F2 (n:=2) (vs:=[.int .i64 x.fu,.int .i64 x.fd]) E kR Ce E (D4 [] [.int .i64 x.fu,.int .i64 x.fd] [.int .i64 x.tu,.int .i64 x.td,vs,.bool x.has,p,r,u,(vU x.he.signed),.bool x.he.has,(vU x.he.once),vk,(vU x.hp),(vU x.hn),vg])) ?_))));refine A2 E (C8 (Mc:=MW) (R:=_) (aS E (aS E (a0))) kR qP (B89 wb x.fu x.fd ws MW _ hW qO) E ?_);rintro v7 M7 J7 ⟨rfl,hW7⟩;refine A0 (D0 0 3) (A1 (mV_ E (lQ_ (qf_ 2 2) (lQ_ (F2 (n:=2) (vs:=[.int .i64 x.tu,.int .i64 x.td]) E kR Ce E (D4 [.int .i64 x.fu,.int .i64 x.fd] [.int .i64 x.tu,.int .i64 x.td] [vs,.bool x.has,p,r,u,(vU x.he.signed),.bool x.he.has,(vU x.he.once),vk,(vU x.hp),(vU x.hn),vg])) ?_))));refine A2 E (C8 (Mc:=M7) (R:=_) (aS E (aS E (a0))) kR qP (B89 wb x.tu x.td _ M7 _ hW7 (by simp [A0H];omega)) E ?_);rintro v11 M11 J11 ⟨rfl,hW11⟩;refine A0 (D0 0 3) ?_;refine F9 (M11) (_) true (.range 7) [(0,0),(1,0),(2,1),(4,0),(5,1),(3,2),(6,2)] kR kR qP λhs K n0 hKm hKs hKn=>?_;refine kM_ E E (kQ_ E (qf_ 4 4) ?_);refine I8 hs E hKs ql_ ?_;refine kQ_ E (qf_ 5 5) ?_;refine I8 hs E hKs ql_ ?_
 refine G8 _ _ E E (Ah _) hKm λw0=>(C8 (Mc:=M11) (R:=_) (aS E (aS E (a0))) kR qP (L8 wb vs x.ses _ M11 _ hW11 (hx.ses.mono qS) (by first|omega|(simp [A0G,A0a,A0b,A0H,A0V,I7];omega))) E ?_)
 rintro v15 M15 J15 ⟨rfl,hW15⟩ hKx15
 refine G8 M15 _ E E qP (λx hx=>hKx15 (hKn E) x (by simpa using hx)) λw0=>(C8 (Mc:=M15) (R:=_) (aS E (aS E (a0))) kR qP (B4K wb x.has _ M15 _ hW15 (by first|omega|(simp [A0G,A0a,A0b,A0H,A0V,I7];omega))) E ?_)
 rintro v18 M18 J18 ⟨rfl,hW18⟩ hKx18;refine I0 (D0 0 3) ?_;change Wtr wb (frF ws x) M18 at hW18;have hfl:=B4J ws x;refine A1 (lQ_ (qf_ 5 5) ?_);refine lQ_ ql_ ?_;refine A0 (D5 0 3 20) ?_;refine C2 E ?_ ?_<;>intro hc
 . have hh:x.has=true:=hc;refine C1 (mV_ E (lQ_ (qf_ 6 6) (lQ_ (F2 (n:=6) (vs:=[p,r,u,(vU x.he.signed),.bool x.he.has,(vU x.he.once)]) E kR Ce E (D4 [.int .i64 x.fu,.int .i64 x.fd,.int .i64 x.tu,.int .i64 x.td,vs,.bool x.has] [p,r,u,(vU x.he.signed),.bool x.he.has,(vU x.he.once)] [vk,(vU x.hp),(vU x.hn),vg])) ?_)));refine A2 E (C8 (Mc:=M18) (R:=_) (aS E (aS E (a0))) kR qP (B0f wb x.he p r u _ M18 _ hW18 (hx.he.mono qS) hx.hil qO) E ?_);rintro v24 M24 J24 ⟨rfl,hW24⟩;refine C5 ?_;exact ⟨_,M24,[],A8v E,Ci (Ch qP),E,by unfold frW;rw [if_pos hh];exact hW24⟩
 . have hh:x.has=false:=hc;refine A4 ?_;exact ⟨_,M18,[],A8v E,Ci (Ch qP),E,by unfold frW;rw [if_neg (by rw [hh];decide)];exact hW18⟩
theorem A61(ws:LN)(x:Ev):(frW ws x).length<=ws.length+x.ses.length+x.he.ia.length+x.he.ig.length+x.he.key.length+42:=by have h1:=B4J ws x;have h2:=B4I (frF ws x) x.he;unfold frW;split<;>omega
theorem C1e(x:Ev)(vs p r u vk vg:Value)(A:Mem)(hx:EvR A x vs p r u vk vg)(hl:x.ses.length+x.he.ia.length+x.he.ig.length+x.he.key.length<=1000000):FnX prog 64 [.agg (evC vs p r u vk vg x).toArray] [] A λq M J=>M=[]∧By J q (frW [] x):=by haveI:=hx.ses.cel;haveI:=hx.he.ia.cel;haveI:=hx.he.ig.cel;haveI:=hx.he.key.cel;haveI:=hx.hk.cel;haveI:=hx.g.cel;have hsl:=hx.ses.len;unfold evC;refine Co (N:=11) func64 E E E λw_=>?_;refine A8 (D1 0) (A1 ?_);refine A2 E (bx_ λb1=>?_);refine as_ (A0 (D1 1) (A1 ?_));refine lQ_ (E6 (place:=λx=>#[(0,1)][x]?) (z:=[vS]) (λ_=>by kernel_rfl) e0 bd0) ?_;refine A2 E (bx_ λb5=>?_);refine aS_ E (A0 (D0 1 3) (A1 (mV_ E (lQ_ (F2 (n:=16) (vs:=[.int .i64 x.fu,.int .i64 x.fd,.int .i64 x.tu,.int .i64 x.td,vs,.bool x.has,p,r,u,(vU x.he.signed),.bool x.he.has,(vU x.he.once),vk,(vU x.hp),(vU x.hn),vg]) E kR Ce E (D4 [] [.int .i64 x.fu,.int .i64 x.fd,.int .i64 x.tu,.int .i64 x.td,vs,.bool x.has,p,r,u,(vU x.he.signed),.bool x.he.has,(vU x.he.once),vk,(vU x.hp),(vU x.hn),vg] [])) ?_))));refine A2 E (C8 (Mc:=[(b5,blk [vS] 126)]) (R:=_) (aS E (aS E (a0))) kR qP (B7U b5 x vs p r u vk vg [] _ _ Wtr.new (hx.mono qS) qD) E ?_);rintro v8 M8 J8 ⟨rfl,hW8⟩;have hwl:=A61 [] x;refine A0 (D1 3) (A1 (mv_ ?_));refine A2 E (C8 (Mc:=M8) (R:=_) (aS E a0) kR qP (A0o b5 _ M8 _ hW8 (by simp at hwl;omega)) E ?_);rintro v10 M10 J10 ⟨hW10,h10⟩;haveI:=h10.cel;refine as_ (A0 (D1 2) (A9 ?_));exact ⟨_,[],[],H2 E E,qZ,E,h10.mono qS⟩

end Go.Proofs.YtgpjndfgjjlhaaaGreatDoor
