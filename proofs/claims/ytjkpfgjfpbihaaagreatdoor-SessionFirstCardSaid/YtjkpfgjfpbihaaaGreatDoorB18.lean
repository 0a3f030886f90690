/- Part 18 of the texts of this claim, one behind the other. -/
import Derived.Test.YtjkpfgjfpbihaaaGreatDoorB17
set_option linter.unusedVariables false
set_option linter.unusedSimpArgs false
set_option maxRecDepth 100000
namespace Go.Px
open Go.RowKit
variable{P:Program}
theorem A7n(w:World)(t ti ty e:TypeId)(k:IntKind)(i:TypeInfo)(z:Value)(ht:P.underlying t=some (.slice e))(hti:P.underlying ti=some (.int k))(hi:P.info? e=some i)(hz:i.zero=some z)(hsz:i.size=1)(hby:i.bytes=1)
    (n:Nat) (h0:0 < n) (hn9:n<=1000000) :
    (Builtin.append_ #[t,ti] ty #[.slice none 0 0,.int .i64 (n:Int)]).run P w =
      .ok (.slice (some ⟨w.heap.size,0,none⟩) n (grownCap w n 0 e)) (w.drew.alloc (.cells (Builtin.zeroCells z.cells n++Builtin.zeroCells z.cells (grownCap w n 0 e - n)) e)):=by
  have hn:n≠0:=by omega
  have hw:IntKind.i64.wrap (n:Int)=(n:Int):=by unfold IntKind.wrap; simp [IntKind.signed,IntKind.bits]; omega
  have h1:¬ ((n:Int) < 0):=by omega
  have h2:¬ (281474976710656 < (n:Int)):=by omega
  have h63':¬ (9223372036854775807 < (n:Int)):=by omega
  have h48':¬ (281474976710656 < Builtin.nextslicecap n 0):=by rw [nextslicecap_zero h0]; omega
  simp [Builtin.append_,run_underlying ht,run_underlying hti,sizeOf,typeInfo,zeroValue,hi,hz,hsz,hby,hn,hw,h1,h2,asInt,asIntOf,h63',h48',Question.forced,run_firstCells_none,newRow,grownCap]
theorem A2N(w:World)(t ti ty e:TypeId)(k:IntKind)(i:TypeInfo)(z:Value)(ht:P.underlying t=some (.slice e))(hti:P.underlying ti=some (.int k))(hi:P.info? e=some i)(hz:i.zero=some z)(hsz:i.size=1)(hby:i.bytes=1)
    (b:Addr) (sLen sCap:Nat) (olds:List Value) (hlo:olds.length=sLen * 1) (holds:∀ j v,olds[j]? = some v->w.cell? (b.add j)=some v)
    (n:Nat) (h0:0 < n) (hn9:n<=1000000) (hg:sCap < sLen+n) (hs9:sLen<=1000000000) :
    (Builtin.append_ #[t,ti] ty #[.slice (some b) sLen sCap,.int .i64 (n:Int)]).run P w =
      .ok (.slice (some ⟨w.heap.size,0,none⟩) (sLen+n) (grownCap w (sLen+n) sCap e)) (w.drew.alloc (.cells (olds.toArray++Builtin.zeroCells z.cells n++Builtin.zeroCells z.cells (grownCap w (sLen+n) sCap e - (sLen+n))) e)):=by
  have hn0:n≠0:=by omega
  have hn:¬ (sLen+n<=sCap):=by omega
  have hw:IntKind.i64.wrap (n:Int)=(n:Int):=by unfold IntKind.wrap; simp [IntKind.signed,IntKind.bits]; omega
  have h1:¬ ((n:Int) < 0):=by omega
  have h2:¬ (281474976710656 < (n:Int)):=by omega
  have h63':¬ (9223372036854775807 < ((sLen:Int)+(n:Int))):=by omega
  have hfit:Builtin.nextslicecap (sLen+n) sCap * 1<=281474976710656:=growslice_fits (by omega) (by omega);have h48':¬ (281474976710656 < Builtin.nextslicecap (sLen+n) sCap):=by omega
  have hfo:=run_firstCells_some (P:=P) w.drew 1 sLen b sLen sCap olds hlo (by simpa using holds);simp [Builtin.append_,run_underlying ht,run_underlying hti,sizeOf,typeInfo,zeroValue,hi,hz,hsz,hby,hn0,hn,hw,h1,h2,asInt,asIntOf,h63',h48',Question.forced,hfo,newRow,grownCap]
theorem X0(z0:Value)(m:Nat):Builtin.zeroCells #[z0] m=(List.replicate m z0).toArray:=by
  unfold Builtin.zeroCells;apply Array.ext
  . simp
  . intro i h1 h2;simp [Nat.mod_one]
theorem A6b(w:World)(t ti ty e:TypeId)(k:IntKind)(i:TypeInfo)(z z0:Value)(ht:P.underlying t=some (.slice e))(hti:P.underlying ti=some (.int k))(hi:P.info? e=some i)(hz:i.zero=some z)(hzc:z.cells=#[z0])(hsz:i.size=1)(hby:i.bytes=1)
    (b o sLen sCap n:Nat) (cs:List Value) (e':TypeId) (hb:w.heap[b]? = some (.cells cs.toArray e' (0,0))) (h0:0 < n) (hn9:n<=1000000) (hg:sLen+n<=sCap) (hfit:o+sLen+n<=cs.length) (h1c:z0.oneCell'=true) :
    (Builtin.append_ #[t,ti] ty #[.slice (some ⟨b,o,none⟩) sLen sCap,.int .i64 (n:Int)]).run P w =
      .ok (.slice (some ⟨b,o,none⟩) (sLen+n) sCap) (w.setRow b (cs.take (o+sLen)++List.replicate n z0++cs.drop (o+sLen+n)).toArray):=by
  have hn0:n≠0:=by omega
  have hw:IntKind.i64.wrap (n:Int)=(n:Int):=by unfold IntKind.wrap; simp [IntKind.signed,IntKind.bits]; omega
  have h1:¬ ((n:Int) < 0):=by omega
  have h2:¬ (281474976710656 < (n:Int)):=by omega
  have hst:=run_storeCells_at (P:=P) b (o+sLen) e' (List.replicate n z0) 0 cs.toArray w hb (by simpa using hfit) (λ u hu=>by rw [(List.mem_replicate.1 hu).2]; exact h1c);simp only [Nat.add_zero,List.length_replicate] at hst;simp [Builtin.append_,run_underlying ht,run_underlying hti,sizeOf,typeInfo,zeroValue,hi,hz,hzc,X0,hsz,hby,hn0,hg,hw,h1,h2,asInt,asIntOf,Addr.add_mid,hst]
theorem A5e(w:World)(t ti ty e:TypeId)(k:IntKind)(i:TypeInfo)(ht:P.underlying t=some (.slice e))(hti:P.underlying ti=some (.int k))(hi:P.info? e=some i)(hsz:i.size=1)(hby:i.bytes=1)(p:Option Addr)(sLen sCap:Nat)(hg:sLen<=sCap) :
    (Builtin.append_ #[t,ti] ty #[.slice p sLen sCap,.int .i64 ((0:Nat):Int)]).run P w=.ok (.slice p sLen sCap) w:=by
  have hw:IntKind.i64.wrap 0=0:=by rfl
  cases p <;> simp [Builtin.append_,run_underlying ht,run_underlying hti,sizeOf,typeInfo,hi,hsz,hby,hw,hg,asInt,asIntOf,storeCells]
variable{t ti e:TypeId}{k:IntKind}{v z0:Value}{xs:List Value}
theorem A8d{ty:TypeId}{n m:Nat}{B R:Mem}{w:World}(ht:A1H P t=some (e,1,1))(hti:P.underlying ti=some (.int k))(hzr:((P.info? e).bind (·.zero)).map (·.cells)=some #[z0])(h1c:z0.oneCell'=true)
    (hs:Sl 1 v n xs B) (hB:∀ q,q∈B->q∈R) (hw:Fx R w) (hm9:m<=1000000) (hs9:n<=1000000000) :
    ∃ v' w' B',(Builtin.append_ #[t,ti] ty #[v,.int .i64 (m:Int)]).run P w=.ok v' w'∧Sl 1 v' (n+m) (xs++List.replicate m z0) B' ∧
      ((w'=w∧B'=B) ∨
       (∃ (b:Nat) (cs cs':List Value) (e':TypeId),B=[(b,blk cs e')]∧B'=[(b,blk cs' e')]∧w'=w.setRow b cs'.toArray) ∨
       (∃ o',B'=[(w.heap.size,o')]∧w'=w.drew.alloc o')):=by
  obtain ⟨i,z,hu,hi,hz,hzs,his,hib⟩:=T4 ht
  have hzc:z.cells=#[z0]:=by rw [hi,Option.bind_some,hz,Option.map_some] at hzr;exact Ca hzr
  by_cases hm:m=0
  . subst hm;rcases hs with ⟨p,rfl,rfl,rfl,rfl⟩ | ⟨b,o,cap,cs,e',rfl,rfl,h1,h2,h3,h4,h5⟩
    . exact ⟨_,w,[],A5e w t ti ty e k i hu hti hi his hib p 0 0 (Av _),by rw [List.replicate_zero,List.append_nil]; exact .inl ⟨p,E,E,E,E⟩,.inl ⟨E,E⟩⟩
    . exact ⟨_,w,_,A5e w t ti ty e k i hu hti hi his hib _ n cap h1,by rw [List.replicate_zero,List.append_nil]; exact .inr ⟨b,o,cap,cs,e',E,E,h1,h2,h3,h4,h5⟩,.inl ⟨E,E⟩⟩
  . have h0:0 < m:=by omega
    have hmax:n+m<=maxLen:=by unfold maxLen; omega
    have made:∀ (r:Value) (cap':Nat),r=.slice (some ⟨w.heap.size,0,none⟩) (n+m) cap'->n+m<=cap'->cap'<=maxLen->xs.length=n * 1 ->
        Sl 1 r (n+m) (xs++List.replicate m z0) [(w.heap.size,.cells (xs.toArray++(List.replicate m z0).toArray++(List.replicate (cap' - (n+m)) z0).toArray) e (0,0))]:=by
      intro r cap' hr' hc1 hc2 hxl;refine .inr ⟨w.heap.size,0,cap',xs++List.replicate m z0++List.replicate (cap' - (n+m)) z0,e,hr',by simp [blk],hc1,hc2,?_,?_,?_⟩
      . simp; omega
      . simp; omega
      . intro j u hj;have hlt:j < (xs++List.replicate m z0).length:=(Ac.1 hj).1;rw [Nat.zero_add,Ak hlt];exact hj
    rcases hs with ⟨p,rfl,rfl,rfl,rfl⟩ | ⟨b,o,cap,cs,e',rfl,rfl,h1,h2,h3,h4,h5⟩
    . have hge:=grownCap_ge w (0+m) 0 e;have hcm:grownCap w (0+m) 0 e<=maxLen:=grownCap_le_maxLen w (0+m) 0 e hmax
      cases p with
      | none =>
        have hrn:=A7n (P:=P) w t ti ty e k i z hu hti hi hz his hib m h0 hm9;rw [hzc,X0,X0] at hrn;rw [Nat.zero_add] at hge hcm;refine ⟨_,_,_,hrn,?_,.inr (.inr ⟨_,E,E⟩)⟩;have:=made _ (grownCap w m 0 e) (by rw [Nat.zero_add]) (by omega) hcm (by simp);simpa using this
      | some pa =>
        have hrg:=A2N (P:=P) w t ti ty e k i z hu hti hi hz his hib pa 0 0 [] (by simp) (by simp) m h0 hm9 (by omega) (by omega);rw [hzc,X0,X0] at hrg;refine ⟨_,_,_,hrg,?_,.inr (.inr ⟨_,E,E⟩)⟩;exact made _ _ E hge hcm (by simp)
    . have hb:=hw b _ (hB _ (List.mem_singleton.2 E));by_cases hroom:n+m<=cap
      . have hrr:=A6b (P:=P) w t ti ty e k i z z0 hu hti hi hz hzc his hib b o n cap m cs e' hb h0 hm9 hroom (by omega) h1c;refine ⟨_,_,_,hrr,?_,.inr (.inl ⟨b,cs,_,e',E,E,E⟩)⟩;refine .inr ⟨b,o,cap,_,e',E,E,hroom,h2,?_,?_,?_⟩
        . simp only [List.length_append,List.length_take,List.length_drop,List.length_replicate];omega
        . simp; omega
        . intro j q hj;by_cases hjx:j < xs.length
          . rw [Ak hjx] at hj;rw [Ap,Ak (by simp; omega),Cb (by omega)];exact h5 j q hj
          . rw [Aq (by omega)] at hj;have hlt:=(Ac.1 hj).1;have hln:(cs.take (o+n)).length=o+n:=by simp; omega
            rw [Ap,Aq (by omega),Ak (by rw [hln]; rw [List.length_replicate] at hlt ⊢; omega),hln,<- hj];congr 1;omega
      . have hge:=grownCap_ge w (n+m) cap e;have hcm:grownCap w (n+m) cap e<=maxLen:=grownCap_le_maxLen w (n+m) cap e hmax;have hrg:=A2N (P:=P) w t ti ty e k i z hu hti hi hz his hib ⟨b,o,none⟩ n cap xs h4 (λ j q hj=>by rw [Addr.add_mid,cell_of_row w b _ cs.toArray e' (0,0) hb]; simpa using h5 j q hj) m h0 hm9 (by omega) hs9;rw [hzc,X0,X0] at hrg;refine ⟨_,_,_,hrg,?_,.inr (.inr ⟨_,E,E⟩)⟩;exact made _ _ E hge hcm h4
section append
variable{C:Cx}{l:Env}{M J:Mem}{K:Env->Mem->Mem->Prop}{d:Nat}{ty:TypeId}{pos:String}{af:Array Edge}{g:Option (Nat×Bool)}{x y:Operand}
theorem B3D{n m:Nat}{B M0:Mem}(hx:ev l x=some v)(hy:ev l y=some (.int .i64 (m:Int)))(ht:A1H C.P t=some (e,1,1))(hti:C.P.underlying ti=some (.int k))(hzr:((C.P.info? e).bind (·.zero)).map (·.cells)=some #[z0])(h1c:z0.oneCell'=true)
    (hs:Sl 1 v n xs B) (hM:M.Perm (B++M0)) (hm9:m<=1000000) (hs9:n<=1000000000) (hd:Nat.blt d C.N=true)
    (kk:∀ v' B',Sl 1 v' (n+m) (xs++List.replicate m z0) B'->K ((d,v')::l) (B'++M0) J) :
    OpL C ⟨some d,.call { callee:=.builtin .append,args:=#[x,y],argTypes:=#[t,ti] },ty,pos,af,g⟩ l M J K:=by
  intro Qp a w ha hw;obtain ⟨v',w',B',hrun,hsl,hcase⟩:=A8d (P:=C.P) (ty:=ty) (R:=M++(J++C.A)) ht hti hzr h1c hs (λ q hq=>by have:=hM.mem_iff.2 (Ae M0 hq); simp [this]) hw.fx hm9 hs9
  have hexec:(execOp a.eval ⟨some d,.call { callee:=.builtin .append,args:=#[x,y],argTypes:=#[t,ti] },ty,pos,af,g⟩).run C.P w=.ok (.value v') w':=by simp [execOp,resolve,invoke,builtin,ha.ev hx,ha.ev hy,hrun]
  unfold Oper.wp;rw [hexec];refine ⟨_,B'++M0,J,ha.put (P2 hd) v',?_,kk v' B' hsl⟩;rcases hcase with ⟨rfl,rfl⟩ | ⟨b,cs,cs',e',rfl,rfl,rfl⟩ | ⟨o',rfl,rfl⟩
  . exact hw.perm hM
  . exact (hw.perm hM).setRow (M':=[(b,blk cs' e')]++M0) Upd.hd
  . have h2:St C ((w.heap.size,o')::M) J (w.drew.alloc o'):=St.alloc (w:=w.drew) hw.drew o';have h3:=h2.perm (M':=(w.heap.size,o')::(B++M0)) (List.Perm.cons _ hM);exact h3.drop (List.Sublist.cons_cons _ (List.sublist_append_right B M0)) (λ _ h=>h)
end append
end Go.Px

namespace Go.Proofs.YtjkpfgjfpbihaaaGreatDoor
open Go.Px
def B0k(p:LN):LN:=p++List.replicate ((16 - p.length % 16) % 16) 0
theorem A9p(p:LN):(B0k p).length=p.length+(16 - p.length % 16) % 16:=by simp [B0k]
theorem C2k(v:Value)(p:LN)(B A:Mem)(hs:Sl 1 v p.length (nums .u8 p) B)(hl:p.length<=100000000):FnX Tryz.prog 160 [v] B A λ q M J=>Sl 1 q (B0k p).length (nums .u8 (B0k p)) M:=by haveI:=hs.cel;refine Cl (N:=10) Tryz.func160 E E E λ w_=>?_;refine A9 (D5 0) (A1 (as_ (A0 (D5 0) (A1 (mv_ (mv_ ?_))))));refine A2 (G6 (sz:=1) E kR (hs.rd (R:=B) λ _ h=>h)) E ?_;refine A2 (T8 (a:=p.length) (b:=16) E E E E qD) E ?_;refine A2 (D7 ((16 - p.length % 16:Nat):Int) E E (W5 qO qO qO)) E ?_;refine A2 (T8 (a:=16 - p.length % 16) (b:=16) E E E E qD) E ?_;refine A3 E (B3D (e:=5) (k:=.i64) (z0:=.int .u8 0) E E kR kR kR E hs qP qO qO E ?_);intro v9 B9 hs9;haveI:=hs9.cel;refine as_ (A0 (D5 2) (C0 ?_));exact ⟨_,B9,[],I0 E E,Cg (Cf qP),W6 hs9 (by rw [A9p]) (by simp [B0k,nums])⟩
theorem B7P(v:Value)(w:LN)(n:Nat)(A:Mem)(hv:By A v w)(hn:n<=16777216):FnX Tryz.prog 161 [v,.int .i64 (n:Int)] [] A λ q M J=>Sl 1 q n (nums .u8 (I5 w n)) M:=by haveI:=hv.cel;have hvl:=hv.len;refine Cl (N:=12) Tryz.func161 E E E λ w_=>?_;refine A9 (D2 0 1) (A1 (as_ (A0 (D2 0 1) (A1 (mv_ ?_)))));refine A3 E (A0F (by_:=1) (k:=.u8) (e:=5) n E E kR E E qO qO E λ b7=>?_);refine as_ (A0 (D2 0 5) (A1 (mv_ (mv_ ?_))));refine A3 E (A30 (e:=5) (us:=w) (ws:=List.replicate n 0) (ws':=I5 w n) (by_:=1) E E kR (hv.rd.mono qS) qM (by simp [I5]) Cs E ?_);refine A0 (D5 5) (A1 (mv_ (as_ (A0 (D5 4) (C0 ?_)))));refine ⟨_,[(b7,blk (nums .u8 (I5 w n)) 5)],[],I0 E E,Ce qM,?_⟩;exact .inr ⟨b7,0,n,_,_,E,E,Av _,by unfold maxLen; omega,by simp [nums,L7],by simp [nums,L7],λ j u h=>by rwa [Nat.zero_add]⟩

def clA(r:LN):Nat->LN
  | 0=>r
  | i+1=>(clA r i).set (4 * i+3) ((clA r i).getD (4 * i+3) 0 &&& 15)
def clB(r:LN):Nat->LN
  | 0=>r
  | i+1=>(clB r i).set (4 * i+4) ((clB r i).getD (4 * i+4) 0 &&& 252)
def adS(l x:LN):Nat->LN
  | 0=>l
  | i+1=>(adS l x i).set i (((adS l x i).getD i 0+x.getD i 0) % 18446744073709551616)
def tgN(by_:LN):Nat->LN->LN->LN
  | 0,l,_=>l
  | f+1,l,p=>if p.length=0 then l else tgN by_ f (A4I (adS l (ptN (p.take 16++[1])) 5) by_) (p.drop 16)
def B9Y(K p:LN):LN:=C22 (tgN (ptN (clB (clA (I5 K 16) 4) 3)) p.length [0,0,0,0,0] p) (K.drop 16)
theorem A6c(by_:LN):∀ (f:Nat) (l p:LN),p.length<=f->tgN by_ f l p=tgN by_ p.length l p
  | 0,l,p,h=>by rw [show p.length=0 by omega]
  | f+1,l,p,h=>by
    by_cases h0:p.length=0
    . rw [h0]; show (if p.length=0 then l else _)=_; rw [if_pos h0]; rfl
    . have hd:(p.drop 16).length<=f:=by rw [Bg]; omega
      obtain ⟨m,hm⟩:∃ m,p.length=m+1:=⟨p.length - 1,by omega⟩
      have hd2:(p.drop 16).length<=m:=by rw [Bg]; omega
      have e1:tgN by_ (f+1) l p=tgN by_ f (A4I (adS l (ptN (p.take 16++[1])) 5) by_) (p.drop 16):=if_neg h0;have e2:tgN by_ (m+1) l p=tgN by_ m (A4I (adS l (ptN (p.take 16++[1])) 5) by_) (p.drop 16):=if_neg h0;rw [e1,hm,e2,A6c by_ f _ _ hd,A6c by_ m _ _ hd2]
theorem B6H(by_ l p:LN)(h0:¬ p.length=0):tgN by_ p.length l p=tgN by_ (p.drop 16).length (A4I (adS l (ptN (p.take 16++[1])) 5) by_) (p.drop 16):=by
  obtain ⟨m,hm⟩:∃ m,p.length=m+1:=⟨p.length - 1,by omega⟩
  have e2:tgN by_ (m+1) l p=tgN by_ m (A4I (adS l (ptN (p.take 16++[1])) 5) by_) (p.drop 16):=if_neg h0;rw [hm,e2,A6c by_ m _ _ (by rw [Bg]; omega)]
theorem B9Z(by_ l p:LN)(h0:p.length=0):tgN by_ p.length l p=l:=by rw [h0]; rfl
theorem B3E(r:LN):∀ i,(clA r i).length=r.length
  | 0=>rfl
  | i+1=>by show ((clA r i).set _ _).length=_; rw [Bk,B3E r i]
theorem B3F(r:LN):∀ i,(clB r i).length=r.length
  | 0=>rfl
  | i+1=>by show ((clB r i).set _ _).length=_; rw [Bk,B3F r i]
theorem and8{x k:Nat}(h:x < 256):x &&& k < 256:=Be Nat.and_le_left h
theorem set8{l:LN}(h:∀ x∈l,x < 256)(i x:Nat)(hx:x < 256):∀ y∈l.set i x,y < 256:=λ y hy=>by rcases Bf hy with h1 | rfl; exact h y h1; exact hx
theorem B3G{r:LN}(h:∀ x∈r,x < 256):∀ i,∀ x∈clA r i,x < 256
  | 0=>h
  | i+1=>set8 (B3G h i) _ _ (and8 (A07 (B3G h i) _))
theorem B3H{r:LN}(h:∀ x∈r,x < 256):∀ i,∀ x∈clB r i,x < 256
  | 0=>h
  | i+1=>set8 (B3H h i) _ _ (and8 (A07 (B3H h i) _))
theorem B7Q{l:LN}(h:L5 l)(x:LN):∀ i,L5 (adS l x i)
  | 0=>h
  | i+1=>(B7Q h x i).set _ _ (Ad _ qD)
theorem C2l(v:Value)(w:LN)(n:Nat)(A:Mem)(hv:By A v w)(hn:n<=16777216):FnX Tryz.prog 161 [v,.int .i64 (n:Int)] [] A λ q M J=>∃ b,q=.slice (some ⟨b,0,none⟩) n n∧M=[(b,blk (nums .u8 (I5 w n)) 5)]∧J=[]:=by haveI:=hv.cel;have hvl:=hv.len;refine Cl (N:=12) Tryz.func161 E E E λ w_=>?_;refine A9 (D2 0 1) (A1 (as_ (A0 (D2 0 1) (A1 (mv_ ?_)))));refine A3 E (A0F (by_:=1) (k:=.u8) (e:=5) n E E kR E E qO qO E λ b7=>?_);refine as_ (A0 (D2 0 5) (A1 (mv_ (mv_ ?_))));refine A3 E (A30 (e:=5) (us:=w) (ws:=List.replicate n 0) (ws':=I5 w n) (by_:=1) E E kR (hv.rd.mono qS) qM (by simp [I5]) Cs E ?_);refine A0 (D5 5) (A1 (mv_ (as_ (A0 (D5 4) (C0 ?_)))));exact ⟨_,[(b7,blk (nums .u8 (I5 w n)) 5)],[],I0 E E,Ce qM,b7,E,E,E⟩

theorem C3M(q:LN){m:Nat}(h:min 16 q.length=m):I5 q m=q.take 16∧q.drop m=q.drop 16∧(q.take 16).length=m:=by
  refine ⟨?_,?_,by rw [Bj]; exact h⟩
  . unfold I5;rw [show m - q.length=0 by omega,List.replicate_zero,List.append_nil];by_cases h1:16<=q.length
    . rw [show m=16 by omega]
    . rw [show m=q.length by omega,List.take_length,Aw qO]
  . by_cases h1:16<=q.length
    . rw [show m=16 by omega]
    . rw [show m=q.length by omega,List.drop_length,Bv qO]
set_option maxHeartbeats 1000000 in
theorem C2m(v vp:Value)(kw p:LN)(A:Mem)(hk:By A v kw)(hp:By A vp p):FnX Tryz.prog 162 [v,vp] [] A λ q M J=>M=[]∧By J q (B9Y (I5 kw 32) p):=by
 haveI:=hk.cel;haveI:=hp.cel;refine Cl (N:=80) Tryz.func162 E E E λ w_=>?_;refine A9 (D2 0 1) (A1 (as_ (A0 (D2 0 1) (A1 (mv_ ?_)))));refine C7 (aS E (aS E a0)) kR (A4s v kw 32 _ (hk.mono qS) qD) E ?_;rintro v16 M16 J16 ⟨rfl,h16⟩;haveI:=h16.cel;have hkl:=L7 kw 32;generalize I5 kw 32=K at *;have hfl:=L7 K 16;have hflt:=A2V h16.lt 16;refine as_ (A0 (D2 0 1) (A1 (mv_ ?_)));refine C7 (aS E (aS E a0)) kR (C2l v16 K 16 _ (h16.mono qS) qD) E ?_;rintro v18 M18 J18 ⟨b18,rfl,rfl,rfl⟩;refine as_ (A0 (D6 0 1 5) (A4 (A1 ?_)));refine A3 E (C5 (e:=3) (sz:=1) (z:=[P5,P5,P5,P5]) kR (eS E (eS E (eS E (eS E e0)))) (bdS 0 1 E qR (bdS 1 1 E qR (bdS 2 1 E qR (bdS 3 1 E qR bd0)))) E λ b19=>?_);refine A2 (A0Z (e:=3) E kR) E ?_;refine mv_ (A0 (H1 0 1 5 19 20 21) (A8 ?_));refine Y5 (B:=[(b19,blk [.int .i64 3,.int .i64 7,.int .i64 11,.int .i64 15] 3)]) qP ?_;refine E5 (α:=Nat) (λ i=>[(0,v16),(1,vp),(5,.slice (some ⟨b18,0,none⟩) 16 16),(19,.slice (some ⟨b19,0,none⟩) 4 4),(20,.int .i64 4),(21,(vI i))]) (λ i=>[(b18,blk (nums .u8 (clA (I5 K 16) i)) 5)]) (λ _=>_) (λ i=>i<=4) (λ i=>4 - i) 0 (Am _) (H1 0 1 5 19 20 21) (Ce E) qI ?_;rintro i hi
 try dsimp only at hi ⊢
 have hal:=B3E (I5 K 16) i;have halt:=B3G hflt i;refine A1 ?_;refine A2 (F0 E E E) E ?_;refine A0 (N9 0 1 5 19 20 21 22) (A4 ?_);refine C4 E ?_ ?_ <;> intro hc
 .
  have hlt:i < 4:=by simp at hc; omega
  refine A6 (nx (H1 0 1 5 19 20 21) (A4 (A8 (A1 ?_))));refine A2 (L8 (e:=3) (i:=i) (sz:=1) E E kR kR E hlt) E ?_;refine A2 (I2 (v:=.int .i64 ((4 * i+3:Nat):Int)) rfl kR Cc (by rcases (by omega:i=0∨i=1∨i=2∨i=3) with rfl | rfl | rfl | rfl <;> rfl)) E ?_;refine as_ (A0 (N9 0 1 5 7 19 20 21) (C2 (mv_ (mv_ ?_))));refine A2 (L8 (e:=5) (i:=4 * i+3) (sz:=1) E E kR kR E qO) E ?_;refine A2 (I6 (4 * i+3) E kR Cc qO qO) E ?_;refine A2 (A4C (b:=15) E E E (by show _ < 256; exact A07 halt _) qD) E ?_;refine A2 (L8 (e:=5) (i:=4 * i+3) (sz:=1) E E kR kR E qO) E ?_;refine A3 E (K8 (4 * i+3) E E kR qO qO Cs ?_);refine C6 (nb (nx (H1 0 1 5 19 20 21) (C2 ?_)));refine A2 (D7 ((i+1:Nat):Int) E E (F7 qO qO qO)) E ?_;refine mv_ (C6 ?_);exact rn (i+1) qO qO (H1 0 1 5 19 20 21) (Ce E) qI
 .
  obtain rfl:i=4:=by simp at hc; omega
  refine D9 (te (re (be E (nx (D6 0 1 5) (A4 (A1 ?_))))));refine A3 E (C5 (e:=3) (sz:=1) (z:=[P5,P5,P5]) kR (eS E (eS E (eS E e0))) (bdS 0 1 E qR (bdS 1 1 E qR (bdS 2 1 E qR bd0))) E λ b32=>?_);refine A2 (A0Z (e:=3) E kR) E ?_;refine mv_ (A0 (H1 0 1 5 32 33 34) (A8 ?_));refine Y5 (B:=[(b32,blk [.int .i64 4,.int .i64 8,.int .i64 12] 3)]) qP ?_;refine E5 (α:=Nat) (λ i=>[(0,v16),(1,vp),(5,.slice (some ⟨b18,0,none⟩) 16 16),(32,.slice (some ⟨b32,0,none⟩) 3 3),(33,.int .i64 3),(34,(vI i))]) (λ i=>[(b18,blk (nums .u8 (clB (clA (I5 K 16) 4) i)) 5)]) (λ _=>_) (λ i=>i<=3) (λ i=>3 - i) 0 (Am _) (H1 0 1 5 32 33 34) (Ce E) qI ?_;rintro i hi2
  try dsimp only at hi2 ⊢
  have hbl:=B3F (clA (I5 K 16) 4) i;have hblt:=B3H halt i;refine A1 ?_;refine A2 (F0 E E E) E ?_;refine A0 (N9 0 1 5 32 33 34 35) (A4 ?_);refine C4 E ?_ ?_ <;> intro hc
  .
   have hlt:i < 3:=by simp at hc; omega
   refine A6 (nx (H1 0 1 5 32 33 34) (A4 (A8 (A1 ?_))));refine A2 (L8 (e:=3) (i:=i) (sz:=1) E E kR kR E hlt) E ?_;refine A2 (I2 (v:=.int .i64 ((4 * i+4:Nat):Int)) rfl kR Cc (by rcases (by omega:i=0∨i=1∨i=2) with rfl | rfl | rfl <;> rfl)) E ?_;refine as_ (A0 (N9 0 1 5 9 32 33 34) (C2 (mv_ (mv_ ?_))));refine A2 (L8 (e:=5) (i:=4 * i+4) (sz:=1) E E kR kR E qO) E ?_;refine A2 (I6 (4 * i+4) E kR Cc qO qO) E ?_;refine A2 (A4C (b:=252) E E E (by show _ < 256; exact A07 hblt _) qD) E ?_;refine A2 (L8 (e:=5) (i:=4 * i+4) (sz:=1) E E kR kR E qO) E ?_;refine A3 E (K8 (4 * i+4) E E kR qO qO Cs ?_);refine C6 (nb (nx (H1 0 1 5 32 33 34) (C2 ?_)));refine A2 (D7 ((i+1:Nat):Int) E E (F7 qO qO qO)) E ?_;refine mv_ (C6 ?_);exact rn (i+1) qO qO (H1 0 1 5 32 33 34) (Ce E) qI
  .
   obtain rfl:i=3:=by simp at hc; omega
   refine D9 (te (re (be E (nx (D6 0 1 5) ?_))));refine Y5 (B:=[(b18,blk (nums .u8 (clB (clA (I5 K 16) 4) 3)) 5)]) qP ?_;unfold B9Y
   obtain ⟨R,hRe⟩:∃ z,clB (clA (I5 K 16) 4) 3=z:=⟨_,E⟩
   rw [hRe] at hbl hblt ⊢;have hRl:R.length=16:=by omega
   have hrB:By [(b18,blk (nums .u8 R) 5)] (.slice (some ⟨b18,0,none⟩) 16 16) R:=⟨by rw [hRl]; exact Co (n:=16) qK (by simp [nums,hRl]),hblt,by omega⟩
   refine A1 (mv_ ?_);refine E6 (aS E a0) kR (B3A (.slice (some ⟨b18,0,none⟩) 16 16) R _ (hrB.mono qS) qO) E ?_;refine A3 E (C3 (cs:=[C1,C1,C1,C1,C1]) kR E λ b10=>?_);refine A3 E (A7 (vs:=nums .u64 (ptN R)) E E E (by rw [nums_len,(A2M R).len]; kernel_rfl) (by rw [nums_len,(A2M R).len]; rfl) E9 Cs ?_);refine A0 (D6 0 1 10) (A1 ?_);refine A3 E (C3 (cs:=[C1,C1,C1,C1,C1]) kR E λ b11=>?_);refine A0 (D8 0 1 10 11) (A4 (A8 ?_));refine E5 (α:=Value×LN×LN) (λ y=>[(0,v16),(1,y.1),(10,(vP b10)),(11,(vP b11))]) (λ y=>[(b11,blk (nums .u64 y.2.2) 190),(b10,blk (nums .u64 (ptN R)) 190)]) (λ _=>_) (λ y=>By A y.1 y.2.1∧L5 y.2.2∧tgN (ptN R) y.2.1.length y.2.2 y.2.1=tgN (ptN R) p.length [0,0,0,0,0] p) (λ y=>y.2.1.length) (vp,p,[0,0,0,0,0]) ⟨hp,L5.z,E⟩ (D8 0 1 10 11) (Ce E) qI ?_;rintro ⟨u,q,l⟩ ⟨hq,hl5,hT⟩;dsimp only at hq hl5 hT ⊢;haveI:=hq.cel;refine A4 (A1 (mv_ ?_));refine A2 (G6 (sz:=1) E kR hq.rd) E ?_;refine A2 (F0 E E E) E ?_;refine A0 (E8 0 1 10 11 49) ?_;refine C4 E ?_ ?_ <;> intro hc
   .
    have h0:¬ q.length=0:=by simp at hc; omega
    have hql:=hq.len
    obtain ⟨m,hm⟩:∃ m,min 16 q.length=m:=⟨_,E⟩
    obtain ⟨hfm,hdr,htl⟩:=C3M q hm
    obtain ⟨Q,hQe⟩:∃ z,q.take 16++[1]=z:=⟨_,E⟩
    have hQl:m+1=Q.length:=by rw [<- hQe,An,htl]; rfl
    have hQt:∀ x∈Q,x < 256:=λ x hx=>by rw [<- hQe] at hx; rcases List.mem_append.1 hx with h | h; exact hq.lt x (Bw h); rw [List.mem_singleton.1 h]; decide
    refine A6 (nx (D8 0 1 10 11) (A8 (A1 (mv_ ?_))));refine A2 (G6 (sz:=1) E kR hq.rd) E ?_;refine A2 (A4M ((m:Nat):Int) E E (by split <;> omega)) E ?_;refine as_ (A0 (E8 0 1 10 11 12) (A4 (A1 (mv_ (mv_ ?_)))));refine C7 (aS E (aS E a0)) kR (B7P u q m _ (hq.mono qS) qO) E ?_;rintro v55 M55 J55 hs55;haveI:=hs55.cel;refine A3 E (C5 (e:=5) (sz:=1) (z:=[.int .u8 0]) kR (eS E e0) (bdS 0 1 E qR bd0) E λ b56=>?_);refine A3 E (H5 (e:=5) (sz:=1) (by_:=1) E E kR E hs55 (Co (n:=1) (cs:=nums .u8 [1]) Cc qR) E9 qP (by unfold maxLen; omega) qO E λ v57 B57 hs57=>?_);haveI:=hs57.cel
    have hby:By B57 v57 Q:=⟨A0x (hs57.rd λ _ h=>h) (by rw [hQl]) (by rw [hfm,<- H8,hQe]),hQt,by omega⟩
    refine E6 (aS E a0) kR (B3A v57 Q _ (hby.mono qS) qO) E ?_;refine mv_ (A0 (N9 0 1 10 11 12 58 59) (A8 ?_));refine E5 (α:=Nat) (λ k=>[(0,v16),(1,u),(10,(vP b10)),(11,(vP b11)),(12,(vI m)),(58,.agg (nums .u64 (ptN Q)).toArray),(59,(vI k))]) (λ k=>[(b11,blk (nums .u64 (adS l (ptN Q) k)) 190),(b10,blk (nums .u64 (ptN R)) 190)]) (λ _=>_) (λ k=>k<=5) (λ k=>5 - k) 0 (Am _) (N9 0 1 10 11 12 58 59) (Ch (B:=[(b11,blk (nums .u64 l) 190)]) qP (Ch (B:=[(b10,blk (nums .u64 (ptN R)) 190)]) qP qZ)) qI ?_;rintro k hk5
    try dsimp only at hk5 ⊢
    have hok:=B7Q hl5 (ptN Q) k;refine A1 ?_;refine A2 (F0 E E E) E ?_;refine A0 (W4 0 1 10 11 12 58 59 60) (A4 ?_);refine C4 E ?_ ?_ <;> intro hc
    .
     have hlt:k < 5:=by simp at hc; omega
     refine A6 (nx (N9 0 1 10 11 12 58 59) (A4 (A8 (A1 (mv_ ?_)))));refine A2 (A5o (m:=5) (e:=115) (j:=k) (cs:=nums .u64 (ptN Q)) (u:=.int .u64 (((ptN Q).getD k 0:Nat):Int)) E E kR kR kR E qO (V9 (by rw [(A2M Q).len]; omega))) E ?_;refine as_ (as_ (A0 (A0m 0 1 10 11 12 13 14 58 59) (C2 (mv_ ?_))));refine A2 (E0 (e:=115) (n:=5) (sz:=1) (i:=k) (k) E E kR kR E qO qO) E ?_;refine A2 (I6 (k) E kR Cc E (by rw [hok.len]; omega)) E ?_;refine mv_ ?_;refine A2 (H2 18446744073709551616 E E E E E E) E ?_;refine A2 (E0 (e:=115) (n:=5) (sz:=1) (i:=k) (k) E E kR kR E qO qO) E ?_;refine A3 E (K8 (k) E E kR E (by rw [hok.len]; omega) Cs ?_);refine C6 (nb (nx (N9 0 1 10 11 12 58 59) (C2 ?_)));refine A2 (D7 ((k+1:Nat):Int) E E (F7 qO qO qO)) E ?_;refine mv_ (C6 ?_);exact rn (k+1) hlt qO (N9 0 1 10 11 12 58 59) (Ce E) qI
    .
     obtain rfl:k=5:=by simp at hc; omega
     refine D9 (te (re (be E (nx (E8 0 1 10 11 12) (A1 ?_)))));refine A2 (H6 (n:=5) (cs:=nums .u64 (adS l (ptN Q) 5)) E kR Cc (by rw [nums_len]; exact hok.len)) E ?_;refine A2 (H6 (n:=5) (cs:=nums .u64 (ptN R)) E kR Cc (by rw [nums_len]; exact (A2M R).len)) E ?_;refine E6 (aS E (aS E a0)) kR (B9X (adS l (ptN Q) 5) (ptN R) _ hok (A2M R)) E ?_;refine A3 E (A7 (vs:=nums .u64 (A4I (adS l (ptN Q) 5) (ptN R))) E E E (by rw [nums_len,(A1G _ _).len]; kernel_rfl) (by rw [nums_len,nums_len,(A1G _ _).len,hok.len]) E9 Cs ?_);refine A0 (E8 0 1 10 11 12) (C2 (mv_ (mv_ ?_)));refine A2 (A1M (sz:=1) (a:=m) E E kR E hq.rd qO) E ?_;have h75:=hq.lo m qO;haveI:=h75.cel;have hst:=B6H (ptN R) l q h0;have hS:=A1G (adS l (ptN Q) 5) (ptN R);rw [hQe,<- hdr] at hst;generalize A4I (adS l (ptN Q) 5) (ptN R)=S at *;have hst2:=hst.symm.trans hT;refine as_ (C6 (nb ?_));exact rn (vLo m 1 u,q.drop m,S) ⟨h75,hS,hst2⟩ (by dsimp only; rw [Bg]; omega) (D8 0 1 10 11) (Ce E) (λ _ h=>Ai _ h)
   .
    have h0:q.length=0:=by have h:=of_decide_eq_false hc; omega
    rw [B9Z _ _ _ h0] at hT;rw [<- hT];refine D9 (te (re (be E (nx (D2 0 11) ?_))));refine D1 [0,1,2,3,4] (zp 0 [1,0,0,2,0]) kR kR λ hs=>?_;refine F9 hs E (H6 (n:=5) (cs:=nums .u64 l) E kR Cc (by rw [nums_len]; exact hl5.len)) E ?_;refine fm_ hs ?_;refine C8 hs E (A1M (sz:=1) (a:=16) E E kR E h16.rd qO) E ?_;have h78:=h16.lo 16 qO;haveI:=h78.cel;refine G9 E (aS E (aS E a0)) kR (C3L l (K.drop 16) _ _ hl5 (h78.mono qS) (by rw [Bg]; omega)) E ?_;rintro v79 M79 J79 ⟨rfl,h79⟩;haveI:=h79.cel;refine fa_ hs ?_;refine E3 (D5 4) (C0 ?_);exact ⟨_,[],[],I0 E E,qZ,E,h79.mono qS⟩

theorem B3I(w:LN):I5 w w.length=w:=by unfold I5; rw [List.take_length,Nat.sub_self]; simp
def mcN(wa o:LN):LN:=B0k (B0k wa++o)
def nlO(wa o:LN)(i:Nat):Nat:=if i=0 then wa.length else o.length
def mcO(wa o:LN):Nat->LN
  | 0=>mcN wa o
  | i+1=>mcO wa o i++A8Q (nlO wa o i)
def A8e(K N wa o:LN):LN:=B9Y (I5 ((C0E K 0 N).take 32) 32) (mcO wa o 2)
def T9(K N wa p:LN):LN:=A59 K 1 N p++A8e K N wa (A59 K 1 N p)
def Z6(K N wa g:LN):Option (LN):=if g.length < 16 then none else if A8e K N wa (g.take (g.length - 16))=g.drop (g.length - 16) then some (A59 K 1 N (g.take (g.length - 16))) else none
theorem A4v(K N wa o:LN):(A8e K N wa o).length=16:=B6G _ _
theorem A1q(K N wa p:LN):Z6 K N wa (T9 K N wa p)=some p:=by
  have h1:=A0d K 1 N p;have h2:=A4v K N wa (A59 K 1 N p);have h3:(T9 K N wa p).length - 16=(A59 K 1 N p).length:=by unfold T9; rw [An]; omega
  have h4:¬ (T9 K N wa p).length < 16:=by unfold T9; rw [An]; omega
  have h5:(T9 K N wa p).take (A59 K 1 N p).length=A59 K 1 N p:=by unfold T9; rw [List.take_left]
  have h6:(T9 K N wa p).drop (A59 K 1 N p).length=A8e K N wa (A59 K 1 N p):=by unfold T9; rw [List.drop_left]
  unfold Z6;rw [if_neg h4,h3,h5,h6,if_pos E,B0j]
theorem A8f(p:LN):(B0k p).length<=p.length+16:=by rw [A9p]; omega
theorem B90(wa o:LN):(mcN wa o).length<=wa.length+o.length+32:=by have h1:=A8f (B0k wa++o);have h2:=A8f wa;rw [An] at h1;unfold mcN; omega
theorem A9q(n:Nat):(A8Q n).length=8:=by simp [A8Q]
theorem B3J(wa o:LN):∀ i,(mcO wa o i).length=(mcN wa o).length+8 * i
  | 0=>rfl
  | i+1=>by show (mcO wa o i++A8Q _).length=_; rw [An,B3J wa o i,A9q]; omega
theorem B3K{p:LN}(h:∀ x∈p,x < 256):∀ x∈B0k p,x < 256:=λ x hx=>by
  rcases List.mem_append.1 hx with h1 | h1
  . exact h x h1
  . rw [(List.mem_replicate.1 h1).2]; decide
theorem B7R{wa o:LN}(hw:∀ x∈wa,x < 256)(ho:∀ x∈o,x < 256):∀ i,∀ x∈mcO wa o i,x < 256
  | 0=>B3K λ x hx=>(List.mem_append.1 hx).elim (B3K hw x) (ho x)
  | i+1=>λ x hx=>(List.mem_append.1 hx).elim (B7R hw ho i x) (B1t _ x)
variable{w:LN}
theorem _root_.Go.Px.By.hi{R:Mem}{v:Value}(h:By R v w)(k:Nat)(hk:k<=w.length):By R (vHi k v) (w.take k):=by refine ⟨?_,λ x hx=>h.lt x (Bw hx),by rw [Bj]; have:=h.len; omega⟩;have h1:=h.rd.hiV k hk;rw [Bj,Nat.min_eq_left hk];simpa [nums] using h1
theorem B7S(v vn v2 v3:Value)(kw nw wa o:LN)(A:Mem)(hk:By A v kw)(hno:By A vn nw)(hw:By A v2 wa)(ho:By A v3 o)(hl:wa.length+o.length<=16000000):FnX Tryz.prog 125 [v,vn,v2,v3] [] A λ q M J=>M=[]∧By J q (A8e (I5 kw 32) (I5 nw 12) wa o):=by
 haveI:=hk.cel;haveI:=hno.cel;haveI:=hw.cel;haveI:=ho.cel;refine Cl (N:=51) Tryz.func125 E E E λ w_=>?_;refine A9 (D8 0 1 2 3) (A1 (as_ (A0 (D8 0 1 2 3) (A1 (mv_ (mv_ ?_))))));refine A2 (G6 (sz:=1) E kR hw.rd) E ?_;refine C7 (aS E (aS E a0)) kR (B7P v2 wa wa.length _ (hw.mono qS) qO) E ?_;rintro v16 M16 J16 hs16;haveI:=hs16.cel;rw [B3I] at hs16;refine A3 E (D0 (Mc:=M16) (R:=_) (aS E a0) kR qP (C2k v16 wa M16 _ hs16 qO) E ?_);rintro v17 M17 J17 hs17;haveI:=hs17.cel;have hp1:=A8f wa;refine as_ (A0 (E8 0 1 2 3 9) (A1 (mv_ (mv_ ?_))));refine A3 E (H5 (e:=5) (sz:=1) (by_:=1) E E kR E hs17 (ho.rd.mono qS) E9 qP (by unfold maxLen; omega) qO E λ v20 B20 hs20=>?_);haveI:=hs20.cel;replace hs20:Sl 1 v20 (B0k wa++o).length (nums .u8 (B0k wa++o)) B20:=W6 hs20 (by rw [An]) (by rw [H8]);have hml:(mcN wa o).length<=_:=B90 wa o;refine A3 E (D0 (Mc:=B20) (R:=_) (aS E a0) kR qP (C2k v20 (B0k wa++o) B20 _ hs20 (by rw [An]; omega)) E ?_);rintro v21 M21 J21 hs21;haveI:=hs21.cel;change Sl 1 v21 (mcO wa o 0).length (nums .u8 (mcO wa o 0)) M21 at hs21;refine as_ (A0 (E8 0 1 2 3 9) (A4 (A1 (mv_ ?_))));refine A2 (G6 (sz:=1) E kR hw.rd) E ?_;refine mv_ ?_;refine A2 (G6 (sz:=1) E kR ho.rd) E ?_;refine A3 E (C5 (e:=3) (sz:=1) (z:=[.int .i64 0,.int .i64 0]) kR (eS E (eS E e0)) (bdS 0 1 E qR (bdS 1 1 E qR bd0)) E λ b26=>?_);refine A2 (A0Z (e:=3) E kR) E ?_;refine mv_ (A0 (H1 0 1 9 26 27 28) (A8 ?_));refine Y5 (B:=[(b26,blk [(vI wa.length),(vI o.length)] 3)]) qP ?_;refine E5 (α:=Nat×Value×Mem) (λ y=>[(0,v),(1,vn),(9,y.2.1),(26,.slice (some ⟨b26,0,none⟩) 2 2),(27,.int .i64 2),(28,(vI y.1))]) (λ y=>y.2.2) (λ _=>_) (λ y=>y.1<=2∧Sl 1 y.2.1 (mcO wa o y.1).length (nums .u8 (mcO wa o y.1)) y.2.2) (λ y=>2 - y.1) (0,v21,M21) ⟨Am _,hs21⟩ (H1 0 1 9 26 27 28) (Ce qM) qI ?_;rintro ⟨i,u,B⟩ ⟨hi,hsl⟩;dsimp only at hi hsl ⊢;haveI:=hsl.cel;have hil:=B3J wa o i;refine A1 ?_;refine A2 (F0 E E E) E ?_;refine A0 (N9 0 1 9 26 27 28 29) (A4 ?_);refine C4 E ?_ ?_ <;> intro hc
 .
  have hlt:i < 2:=by simp at hc; omega
  have hnl:nlO wa o i<=16000000:=by unfold nlO; split <;> omega
  refine A6 (nx (H1 0 1 9 26 27 28) (A4 (A8 (A1 ?_))));refine A2 (L8 (e:=3) (i:=i) (sz:=1) E E kR kR E hlt) E ?_;refine A2 (I2 (v:=.int .i64 ((nlO wa o i:Nat):Int)) rfl kR Cc (by rcases (by omega:i=0∨i=1) with rfl | rfl <;> rfl)) E ?_;refine as_ (A0 (N9 0 1 9 11 26 27 28) (A1 (mv_ (A0 (W4 0 1 9 11 26 27 28 32) (A8 ?_)))))
  obtain ⟨n,hne⟩:∃ z,nlO wa o i=z:=⟨_,E⟩
  rw [hne] at hnl ⊢
  obtain ⟨q,hqe⟩:∃ z,mcO wa o i=z:=⟨_,E⟩
  rw [hqe] at hil hsl;refine E5 (α:=Nat×Value×Mem) (λ y=>[(0,v),(1,vn),(9,y.2.1),(11,(vI n)),(26,.slice (some ⟨b26,0,none⟩) 2 2),(27,.int .i64 2),(28,(vI i)),(32,(vI y.1))]) (λ y=>y.2.2) (λ _=>_) (λ y=>y.1<=8∧Sl 1 y.2.1 (q.length+y.1) (nums .u8 (q++(List.range y.1).map (byt ((n:Nat):Int)))) y.2.2) (λ y=>8 - y.1) (0,u,B) ⟨Am _,W6 hsl E qM⟩ (W4 0 1 9 11 26 27 28 32) .rfl qI ?_;rintro ⟨k,u2,B2⟩ ⟨hk8,hsl2⟩;dsimp only at hk8 hsl2 ⊢;haveI:=hsl2.cel;refine A1 ?_;refine A2 (F0 E E E) E ?_;refine A0 (A0m 0 1 9 11 26 27 28 32 33) (A4 ?_);refine C4 E ?_ ?_ <;> intro hc
  .
   have hlt2:k < 8:=by simp at hc; omega
   refine A6 (nx (W4 0 1 9 11 26 27 28 32) (A4 (A8 (A1 (mv_ (as_ (A0 (A0m 0 1 9 11 12 26 27 28 32) (C2 ?_))))))));refine mv_ (mv_ (mv_ ?_));refine A2 (A03 (a:=8) E E E E qO) E ?_;refine A2 (B1o (k:=k) E E E hlt2) E ?_;refine A2 (B1p E kR) E ?_;refine A3 E (C5 (e:=5) (sz:=1) (z:=[.int .u8 0]) kR (eS E e0) (bdS 0 1 E qR bd0) E λ b41=>?_);refine A3 E (H5 (e:=5) (sz:=1) (by_:=1) E E kR E hsl2 (Co (n:=1) (cs:=nums .u8 [byt ((n:Nat):Int) k]) Cc qR) E9 qP (by unfold maxLen; omega) qO E λ v42 B42 hs42=>?_);haveI:=hs42.cel;refine as_ (C6 (nb (nx (W4 0 1 9 11 26 27 28 32) (C2 ?_))));refine A2 (D7 ((k+1:Nat):Int) E E (F7 qO qO qO)) E ?_;refine mv_ (C6 ?_);exact rn (k+1,v42,B42) ⟨by dsimp only; omega,W6 hs42 (by dsimp only; omega) (by dsimp only; rw [List.range_succ,List.map_append,<- Ap,H8 (ws:=q++List.map (byt ((n:Nat):Int)) (List.range k))]; rfl)⟩ (by dsimp only; omega) (W4 0 1 9 11 26 27 28 32) (Ci (Ay _ _)) qI
  .
   obtain rfl:k=8:=by simp at hc; omega
   refine D9 (te (re (be E (nb (nx (H1 0 1 9 26 27 28) (C2 ?_))))));refine A2 (D7 ((i+1:Nat):Int) E E (F7 qO qO qO)) E ?_;refine mv_ (C6 ?_);exact rn (i+1,u2,B2) ⟨by dsimp only; omega,by have e:mcO wa o (i+1)=q++A8Q n:=(by rw [<- hqe,<- hne]; rfl); dsimp only; rw [e]; exact W6 hsl2 (by rw [An,A9q]) E⟩ (by dsimp only; omega) (H1 0 1 9 26 27 28) .rfl qI
 .
  obtain rfl:i=2:=by simp at hc; omega
  refine D9 (te (re (be E (nx (D6 0 1 9) (A1 (mv_ (mv_ ?_)))))));refine C7 (aS E (aS E (aS E a0))) kR (B3x v vn kw nw 0 _ (hk.mono qS) (hno.mono qS) qD) E ?_;rintro v47 M47 J47 ⟨rfl,h47⟩;haveI:=h47.cel;have hbl:(C0E (I5 kw 32) 0 (I5 nw 12)).length=64:=A4t _ _ _;have h48:=h47.hi 32 qO;haveI:=h48.cel;refine A2 (A3T (sz:=1) (a:=32) E E kR E h47.rd qO) E ?_;refine mv_ ?_;refine A3Z (B:=B) qP ?_
  have hby:By B u (mcO wa o 2):=⟨hsl.rd λ _ h=>h,B7R hw.lt ho.lt 2,by omega⟩
  refine C7 (aS E (aS E a0)) kR (C2m (vHi 32 v47) u ((C0E (I5 kw 32) 0 (I5 nw 12)).take 32) (mcO wa o 2) _ (h48.mono qS) (hby.mono qS)) E ?_;rintro v50 M50 J50 ⟨rfl,h50⟩;haveI:=h50.cel;refine as_ (A0 (D5 8) (C0 ?_));exact ⟨_,[],[],I0 E E,qZ,E,h50.mono qS⟩
theorem B91(v vn v2 v3:Value)(kw nw wa o:LN)(A:Mem)(hk:By A v kw)(hno:By A vn nw)(hw:By A v2 wa)(ho:By A v3 o)(hl:wa.length+o.length<=16000000):FnX Tryz.prog 85 [v,vn,v2,v3] [] A λ q M J=>M=[]∧By J q (T9 (I5 kw 32) (I5 nw 12) wa o):=by haveI:=hk.cel;haveI:=hno.cel;haveI:=hw.cel;haveI:=ho.cel;refine Cl (N:=21) Tryz.func85 E E E λ w_=>?_;refine A9 (D8 0 1 2 3) (A1 (as_ (A0 (D8 0 1 2 3) (A1 (mv_ (mv_ (mv_ ?_)))))));refine C7 (aS E (aS E (aS E (aS E a0)))) kR (A9n v vn v3 kw nw o 1 _ (hk.mono qS) (hno.mono qS) (ho.mono qS) qD) E ?_;rintro v13 M13 J13 ⟨b13,rfl,rfl,h13⟩;have hsl:=A0d (I5 kw 32) 1 (I5 nw 12) o;refine as_ (A0 (D8 0 1 2 9) (A1 (mv_ (mv_ (mv_ (mv_ (mv_ ?_)))))));refine C7 (aS E (aS E (aS E (aS E a0)))) kR (B7S v vn v2 _ kw nw wa (A59 (I5 kw 32) 1 (I5 nw 12) o) _ (hk.mono qS) (hno.mono qS) (hw.mono qS) (h13.mono qS) qO) E ?_;rintro v19 M19 J19 ⟨rfl,h19⟩;haveI:=h19.cel;have htl:=A4v (I5 kw 32) (I5 nw 12) wa (A59 (I5 kw 32) 1 (I5 nw 12) o);refine A3 E (A2B (e:=5) (sz:=1) (by_:=1) E E kR E (A0x (h13.rd.mono qS) hsl E) (h19.rd.mono qS) qO (by unfold maxLen; omega) qO E λ v20 B20 hs20=>?_);haveI:=hs20.cel;refine as_ (A0 (D5 8) (C0 ?_));exact ⟨_,[],B20,I0 E E,Ch qP qZ,E,⟨A0x (hs20.rd λ x hx=>by simp [hx]) (by unfold T9; rw [An,hsl]) (by unfold T9; rw [H8]),λ x hx=>(List.mem_append.1 hx).elim (h13.lt x) (h19.lt x),by unfold T9; rw [An]; omega⟩⟩
theorem B92(v vn v2 v3:Value)(kw nw wa o:LN)(A:Mem)(hk:By A v kw)(hno:By A vn nw)(hw:By A v2 wa)(ho:By A v3 o)(h16:o.length < 16):FnX Tryz.prog 95 [v,vn,v2,v3] [] A λ q M J=>M=[]∧∃ u,q=.tuple #[u,.bool (Z6 (I5 kw 32) (I5 nw 12) wa o).isSome]∧By J u ((Z6 (I5 kw 32) (I5 nw 12) wa o).getD []):=by
 haveI:=hk.cel;haveI:=hno.cel;haveI:=hw.cel;haveI:=ho.cel;refine Cl (N:=37) Tryz.func95 E E E λ w_=>?_;refine A9 (D8 0 1 2 3) (A1 (as_ (as_ (A0 (D8 0 1 2 3) (A1 (mv_ ?_))))));refine A2 (G6 (sz:=1) E kR ho.rd) E ?_;refine A2 (D7 (((o.length:Nat):Int) - 16) E E (W5 qO qO qO)) E ?_;refine as_ (A0 (E8 0 1 2 3 10) (A4 ?_));refine D1 (.range 17) [(0,0),(1,0),(2,0),(3,0),(4,0),(5,0),(6,0),(7,0),(8,0),(11,0),(12,0),(13,0),(14,1),(9,2),(10,1),(15,0),(16,0)] kR kR λ hs=>?_;refine fm_ hs ?_;refine C8 hs E (F5 true E E (ltT qO)) E ?_;refine fm_ hs ?_;refine L2 hs ?_;refine L2 hs ?_;refine L2 hs ?_;refine L2 hs ?_;refine L2 hs ?_;refine L2 hs ?_;refine L2 hs ?_;refine L2 hs ?_;refine L2 hs ?_;refine W1 hs ?_;refine A6E hs E E E E E E ?_;refine W1 hs ?_;refine L2 hs ?_;refine C8 hs E (G8 E E) E ?_;refine E3 (E8 0 1 3 10 30) ?_;refine E1 E ?_;refine A1 (as_ (as_ (A0 (D2 8 9) (C0 (tr ?_)))));refine ⟨_,[],[],A1s E E E,qZ,E,vS,?_,?_⟩
 . unfold Z6; rw [if_pos h16]; rfl
 . unfold Z6; rw [if_pos h16]; exact By.nil
theorem B93(v vn v2 v3:Value)(kw nw wa o:LN)(A:Mem)(hk:By A v kw)(hno:By A vn nw)(hw:By A v2 wa)(ho:By A v3 o)(hl:wa.length+o.length<=16000000)(h16:¬ o.length < 16):FnX Tryz.prog 95 [v,vn,v2,v3] [] A λ q M J=>M=[]∧∃ u,q=.tuple #[u,.bool (Z6 (I5 kw 32) (I5 nw 12) wa o).isSome]∧By J u ((Z6 (I5 kw 32) (I5 nw 12) wa o).getD []):=by
 haveI:=hk.cel;haveI:=hno.cel;haveI:=hw.cel;haveI:=ho.cel;refine Cl (N:=37) Tryz.func95 E E E λ w_=>?_;refine A9 (D8 0 1 2 3) (A1 (as_ (as_ (A0 (D8 0 1 2 3) (A1 (mv_ ?_))))));refine A2 (G6 (sz:=1) E kR ho.rd) E ?_;refine A2 (D7 ((o.length - 16:Nat):Int) E E (W5 qO qO qO)) E ?_;have hhi:=ho.hi (o.length - 16) qO;have hlo:=ho.lo (o.length - 16) qO;haveI:=hhi.cel;haveI:=hlo.cel;refine as_ (A0 (E8 0 1 2 3 10) (A4 ?_));refine D1 (.range 17) [(0,0),(1,0),(2,0),(3,0),(4,0),(5,0),(6,0),(7,0),(8,0),(11,0),(12,0),(13,0),(14,1),(9,2),(10,1),(15,0),(16,0)] kR kR λ hs=>?_;refine fm_ hs ?_;refine C8 hs E (F5 false E E (ltF qO)) E ?_;refine fm_ hs ?_;refine H9 hs E E E E qm_ E ?_;refine H9 hs E E E E qm_ E ?_;refine H9 hs E E E E qm_ E ?_;refine H9 hs E E E E qm_ E ?_;refine H9 hs E E E E qm_ E ?_;refine H9 hs E E E E (A3T (sz:=1) (a:=o.length - 16) E E kR E ho.rd qO) E ?_;refine H9 hs E E E E qm_ E ?_;refine H9 hs E E E E qm_ E ?_;refine H9 hs E E E E (A1M (sz:=1) (a:=o.length - 16) E E kR E ho.rd qO) E ?_;refine Z0 hs E E E E (N5 E kR (hlo.rd.mono qS)) E ?_;refine A2o E E E E (aS E (aS E (aS E (aS E a0)))) kR (B7S v vn v2 (vHi (o.length - 16) v3) kw nw wa (o.take (o.length - 16)) _ (hk.mono qS) (hno.mono qS) (hw.mono qS) (hhi.mono qS) (by rw [Bj]; omega)) E ?_;rintro v23 M23 J23 ⟨rfl,h23⟩;haveI:=h23.cel;refine Z0 hs E E E E (N5 E kR (h23.rd.mono qS)) E ?_;refine H9 hs E E E E (B02 E E E E h23.lt hlo.lt) E ?_;refine C8 hs E (F2 E E) E ?_;refine E3 (E8 0 1 3 10 30) ?_;refine C4 E ?_ ?_ <;> intro hc
 .
  have hne:¬ A8e (I5 kw 32) (I5 nw 12) wa (o.take (o.length - 16))=o.drop (o.length - 16):=by simpa using hc
  have he:Z6 (I5 kw 32) (I5 nw 12) wa o=none:=by unfold Z6; rw [if_neg h16,if_neg hne]
  refine A1 (as_ (as_ (A0 (D2 8 9) (C0 (tr ?_)))));exact ⟨_,[],[],A1s E E E,qZ,E,vS,by rw [he]; rfl,by rw [he]; exact By.nil⟩
 .
  have heq:A8e (I5 kw 32) (I5 nw 12) wa (o.take (o.length - 16))=o.drop (o.length - 16):=by simpa using hc
  have he:Z6 (I5 kw 32) (I5 nw 12) wa o=some (A59 (I5 kw 32) 1 (I5 nw 12) (o.take (o.length - 16))):=by unfold Z6; rw [if_neg h16,if_pos heq]
  refine A6 (nx (D8 0 1 3 10) (A1 (mv_ (mv_ (mv_ (mv_ ?_))))));refine A2 (A3T (sz:=1) (a:=o.length - 16) E E kR E ho.rd qO) E ?_;refine C7 (aS E (aS E (aS E (aS E a0)))) kR (B6D v vn (vHi (o.length - 16) v3) kw nw (o.take (o.length - 16)) 1 _ (hk.mono qS) (hno.mono qS) (hhi.mono qS) qD) E ?_;rintro v36 M36 J36 ⟨rfl,h36⟩;haveI:=h36.cel;refine as_ (as_ (A0 (D2 8 9) (C0 ?_)));exact ⟨_,[],[],A1s E E E,qZ,E,v36,by rw [he]; rfl,by rw [he]; exact h36.mono qS⟩
theorem B94(v vn v2 v3:Value)(kw nw wa o:LN)(A:Mem)(hk:By A v kw)(hno:By A vn nw)(hw:By A v2 wa)(ho:By A v3 o)(hl:wa.length+o.length<=16000000):FnX Tryz.prog 95 [v,vn,v2,v3] [] A λ q M J=>M=[]∧∃ u,q=.tuple #[u,.bool (Z6 (I5 kw 32) (I5 nw 12) wa o).isSome]∧By J u ((Z6 (I5 kw 32) (I5 nw 12) wa o).getD []):=by
  by_cases h:o.length < 16
  . exact B92 v vn v2 v3 kw nw wa o A hk hno hw ho h
  . exact B93 v vn v2 v3 kw nw wa o A hk hno hw ho hl h

def n12:LN:=List.replicate 12 0
theorem B3L(w:LN):I5 (I5 w 32) 32=I5 w 32:=B2H (L7 w 32)
variable{a b:LN}
theorem A9r{x y:LN}(ha:a.length < 18446744073709551616)(hb:b.length < 18446744073709551616)(h:mark a++x=mark b++y):a=b∧x=y:=by
  unfold mark at h;rw [Ap,Ap] at h;obtain ⟨h1,h2⟩:=A5y (A0r (.inr E)) (A0r (.inr E)) (show dec a.length++58::(a++x)=dec b.length++58::(b++y) from h)
  have h3:a.length=b.length:=by have:=congrArg dv h1;rwa [A1k ha,A1k hb] at this
  exact List.append_inj h2 h3
theorem B3M{x:Int}(h:Tmo (A6n x a b)):a.length < 18446744073709551616∧b.length < 18446744073709551616:=by
  have h1:(mark a++mark b).length<=1099511627776:=h.tl;rw [An] at h1;have h2:a.length<=(mark a).length:=by simp [mark]; omega
  have h3:b.length<=(mark b).length:=by simp [mark]; omega
  omega
theorem A9s{x y:Int}{c d:LN}(h1:Tmo (A6n x a b))(h2:Tmo (A6n y c d))(h:A6n x a b=A6n y c d):x=y∧a=c∧b=d:=by
  obtain ⟨l1,l2⟩:=B3M h1;obtain ⟨l3,l4⟩:=B3M h2;unfold A6n at h;injection h with h1 h2 h3 h4
  obtain ⟨h5,h6⟩:=A9r l1 l3 h3;obtain ⟨h7,-⟩:=A9r (x:=[]) (y:=[]) l2 l4 (by rw [List.append_nil,List.append_nil]; exact h6);exact ⟨(List.cons.inj h2).1,h5,h7⟩
def A8g(ts:List Tm)(w wa wg t:LN):Prop:=wg.length=32∧∃ i j:Nat,plc wg ts.length=some i∧plc w ts.length=some j∧ts[i]? = some (A6n ((j:Nat):Int) wa t)
theorem A8g.inj{ts:List Tm}(ht:Tok ts){w wa wg t t':LN}(h:A8g ts w wa wg t)(h':A8g ts w wa wg t'):t=t':=by obtain ⟨-,i,j,h1,h2,h3⟩:=h;obtain ⟨-,i',j',g1,g2,g3⟩:=h';rw [h1] at g1;obtain rfl:=Ca g1;rw [h3] at g3;have m1:=ht.tmo _ (As h3);have e:=Ca g3;exact (A9s m1 (e▸m1) e).2.2
open Classical in
noncomputable def B3N(ts:List Tm)(w wa wg:LN):Option (LN):=if h:∃ t,A8g ts w wa wg t then some (Classical.choose h) else none
variable{ts:List Tm}
theorem A2O(ht:Tok ts){wa wg t:LN}(h:A8g ts w wa wg t):B3N ts w wa wg=some t:=by
  unfold B3N
  have h2:∃ t,A8g ts w wa wg t:=⟨t,h⟩
  rw [dif_pos h2,(Classical.choose_spec h2).inj ht h]
theorem A2P{wa wg:LN}(h:∀ t,¬ A8g ts w wa wg t):B3N ts w wa wg=none:=dif_neg λ ⟨t,ht⟩=>h t ht
noncomputable def A3g(s:Ps)(w wa wg:LN):Option (LN):=if s.real then Z6 (I5 w 32) n12 wa wg else B3N s.ts w wa wg
variable{s:Ps}
theorem A7o(h:s.real=true)(w wa wg:LN):A3g s w wa wg=Z6 (I5 w 32) n12 wa wg:=if_pos h
theorem A2Q(h:s.real=false)(w wa wg:LN):A3g s w wa wg=B3N s.ts w wa wg:=if_neg (by rw [h]; decide)
def C23(s:Ps)(w wa wb:LN):Ps:=if s.real then s else B8K s w λ x=>A6n x wa wb
def C24(s:Ps)(w wa wb:LN):LN:=if s.real then T9 (I5 w 32) n12 wa wb else C1m s w λ x=>A6n x wa wb
theorem C2n(h:s.real=true)(w wa wb:LN):C23 s w wa wb=s:=if_pos h
theorem C2o(h:s.real=false)(w wa wb:LN):C23 s w wa wb=B8K s w λ x=>A6n x wa wb:=if_neg (by rw [h]; decide)
theorem B7T(h:s.real=true)(w wa wb:LN):C24 s w wa wb=T9 (I5 w 32) n12 wa wb:=if_pos h
theorem C2p(h:s.real=false)(w wa wb:LN):C24 s w wa wb=C1m s w λ x=>A6n x wa wb:=if_neg (by rw [h]; decide)
def A3j(ts:List Tm):Prop:=∀ t∈ts,t.kind=6->∃ x a b,t=A6n x a b∧(∀ y∈b,y < 256)∧b.length<=16777216
theorem A3j.nil:A3j []:=λ t h=>by cases h
set_option maxHeartbeats 1000000 in
theorem B96(pb bt bm:Nat)(s:Ps)(hr:s.real=false)(v v2 v3:Value)(w wa wg:LN)(j:Nat)(MP A:Mem)(hP:PrmT pb bt bm s MP)(hMP:∀ x,x∈MP->x∈A)(hn:s.ts.length<=1048576)(hSel:A3j s.ts)(hv:By A v w)(h2:By A v2 wa)(h3:By A v3 wg)(hj:plc w s.ts.length=some j)(hG:Glb A):FnX Tryz.prog 60 [(vP pb),v,v2,v3] [] A λ q M J=>M=[]∧∃ u,q=.tuple #[u,.bool (A3g s w wa wg).isSome]∧By J u ((A3g s w wa wg).getD []):=by
 obtain ⟨sv,B,MT,rfl,hby,hT⟩:=hP.ex;have hmd:md s.real=1:=by rw [hr]; rfl
 have hpb:=hMP _ qK;rw [hmd] at hpb;have hsub:∀ x,x∈MT->x∈A:=λ x hx=>hMP x (by simp [hx]);obtain ⟨⟨ge0,gf0,h0⟩,⟨ge1,gf1,h1⟩,⟨ge4,gf4,h4⟩⟩:=hG;haveI:=hv.cel;haveI:=h2.cel;haveI:=h3.cel;haveI:=hby.cel;have h2l:=h2.len;refine Cl (N:=96) Tryz.func60 E E E λ w_=>?_;refine A9 (D8 0 1 2 3) (A1 (as_ (as_ (A0 (D8 0 1 2 3) (A4 (A1 (mv_ ?_)))))));refine A2 (F6 (e:=102) E E kR) E ?_;refine A0 (E8 0 1 2 3 17) ?_;refine C9 E ?_;refine A6 (nx (D8 0 1 2 3) (A4 (A1 (mv_ ?_))));refine A2 (E7 E) E ?_;refine A2 (qf_ 0 0) E ?_;refine A2 (I2 E kR (mA hpb) qR) E ?_;refine A2 (F5 false E E (eqF qD)) E ?_;refine A0 (E8 0 1 2 3 22) ?_;refine C9 E ?_;refine A6 (nx (D8 0 1 2 3) (A1 (mv_ ?_)));refine A2 (E7 E) E ?_;refine A2 (qf_ 3 3) E ?_;refine A2 (I2 E kR (mA hpb) qR) E ?_;refine mv_ ?_;refine E6 (aS E (aS E a0)) kR (A0L bt bm s.ts v3 wg MT _ hT (λ x hx=>qS _ (hsub x hx)) hn (h3.rd.mono qS) h3.lt h3.max) E ?_
 obtain ⟨i,hie⟩:∃ z,(plc wg s.ts.length).getD 0=z:=⟨_,E⟩
 rw [hie];refine mv_ ?_;refine A2 (Y8 E) E ?_;refine A2 (Y4 E) E ?_;refine as_ (as_ (A0 (H1 0 1 2 3 10 11) (A1 (mv_ ?_))));refine A2 (E7 E) E ?_;refine A2 (qf_ 3 3) E ?_;refine A2 (I2 E kR (mA hpb) qR) E ?_;refine mv_ ?_;refine C7 (aS E (aS E a0)) kR (A2w bt bm s.ts _ MT _ hT (λ x hx=>qS _ (hsub x hx))) E ?_;rintro v46 M46 J46 ⟨rfl,rfl,c46,ok46,rfl,hg1,hg2⟩;obtain ⟨vo,t,rfl,hvo,hz,htk,hok,hno⟩:=A2z hT.tok.tmo hg1 hg2;haveI:=hvo.cel;refine mv_ ?_;refine A2 (Y8 E) E ?_;refine A2 (Y4 E) E ?_;refine A3 E (C3 (cs:=[.int .u8 0,vS,.string ByteArray.empty,.int .i64 0]) kR E λ b12=>?_);refine A3 E (A7 (vs:=tmc t.kind vo t.text t.n) E E E kR qR (by intro c hc; simp only [tmc,List.mem_cons,List.not_mem_nil,or_false] at hc; rcases hc with rfl | rfl | rfl | rfl <;> first | rfl | exact hvo.one) Cs ?_);dsimp only [tmc];refine as_ (A0 (H1 0 1 2 3 11 12) (A4 ?_));refine F8 ([]) (_) true (.range 22) (zp 0 [0,0,0,0,0,0,0,0,0,1,0,0,0,0,1,0,1,0,0,2,0,0]) kR kR qP λ hs K n0 hKm hKs hKn=>?_;refine km_ hs ?_;refine G7 hs E (U0 E) E ?_;refine km_ hs ?_;refine A3q (t:=51) E (λ hb=>?_) (λ hb=>?_)
 .
  have hpn:plc wg s.ts.length=none:=by cases hq:plc wg s.ts.length with | none=>rfl | some z=>rw [hq] at hb; cases hb
  have hno_:A3g s w wa wg=none:=(A2Q hr _ _ _).trans (A2P λ t_ ⟨z0,z1,z2,z3,z4,z5⟩=>by rw [hpn] at z3; cases z3);refine A0o hs E E E E E E ?_;refine A0o hs E E E E E E ?_;refine A0o hs E E E E E E ?_;refine G7 hs E (G8 E E) E ?_;refine km_ hs ?_;refine A0o hs E E E E E E ?_;refine A5u hs E E E E E E ?_;refine A0o hs E E E E E E ?_;refine G7 hs E (G8 E E) E ?_;refine km_ hs ?_;refine A0o hs E E E E E E ?_;refine A5u hs E E E E E E ?_;refine A0o hs E E E E E E ?_;refine A5u hs E E E E E E ?_;refine A0o hs E E E E E E ?_;refine A0o hs E E E E E E ?_;refine B4L E E E E E E ?_;refine A0o hs E E E E E E ?_;refine G7 hs E (G8 E E) E ?_;refine I3 (D6 2 12 70) ?_;refine E1 E ?_;refine A1 (as_ (as_ (A0 (D2 8 9) (C0 (tr ?_)))));exact ⟨_,[],[],A1s E E E,qZ,E,vS,by rw [hno_]; rfl,by rw [hno_]; exact By.nil⟩
 .
  have hi:plc wg s.ts.length=some i:=by cases hq:plc wg s.ts.length with | none=>rw [hq] at hb; cases hb | some z=>rw [hq] at hie; exact congrArg some hie
  have hil:=(A8O hi).1;have hok2:ok46=true:=(hg1 ⟨by omega,by omega⟩).1;obtain ⟨-,ht2⟩:=hok hok2;rw [Int.toNat_natCast] at ht2;refine A3R hs E E E E qm_ E ?_;refine A3R hs E E E E (G6 (sz:=1) E kR h3.rd) E ?_;refine A3R hs E E E E (F0 E E E) E ?_;refine G7 hs E (F2 E E) E ?_;refine km_ hs ?_;refine A3q (t:=56) E (λ hb=>?_) (λ hb=>?_)
  .
   have h32:wg.length≠32:=by intro e; rw [e] at hb; exact absurd hb qD
   have hno_:A3g s w wa wg=none:=(A2Q hr _ _ _).trans (A2P λ t_ ⟨z0,z1,z2,z3,z4,z5⟩=>h32 z0);refine A0o hs E E E E E E ?_;refine A5u hs E E E E E E ?_;refine A0o hs E E E E E E ?_;refine G7 hs E (G8 E E) E ?_;refine km_ hs ?_;refine A0o hs E E E E E E ?_;refine A5u hs E E E E E E ?_;refine A0o hs E E E E E E ?_;refine A5u hs E E E E E E ?_;refine A0o hs E E E E E E ?_;refine A0o hs E E E E E E ?_;refine B4L E E E E E E ?_;refine A0o hs E E E E E E ?_;refine G7 hs E (G8 E E) E ?_;refine I3 (D6 2 12 70) ?_;refine E1 E ?_;refine A1 (as_ (as_ (A0 (D2 8 9) (C0 (tr ?_)))));exact ⟨_,[],[],A1s E E E,qZ,E,vS,by rw [hno_]; rfl,by rw [hno_]; exact By.nil⟩
  .
   have h32:wg.length=32:=by simp at hb; omega
   refine A3R hs E E E E (qf_ 0 0) E ?_;refine B4K hs E E E E (by first | exact λ x hx=>by rw [Ap]; exact Ai _ hx | exact qS) hKs ql_ E ?_;refine A3R hs E E E E (F0 E E E) E ?_;refine G7 hs E (F2 E E) E ?_;refine km_ hs ?_;refine A3q (t:=61) E (λ hb=>?_) (λ hb=>?_)
   .
    have hk6:t.kind≠6:=by intro e; rw [e] at hb; exact absurd hb qD
    have hno_:A3g s w wa wg=none:=(A2Q hr _ _ _).trans (A2P λ t_ ⟨z0,z1,z2,z3,z4,z5⟩=>by rw [hi] at z3; obtain rfl:=Ca z3; rw [ht2] at z5; rw [Ca z5] at hk6; exact hk6 E);refine A0o hs E E E E E E ?_;refine A5u hs E E E E E E ?_;refine A0o hs E E E E E E ?_;refine A5u hs E E E E E E ?_;refine A0o hs E E E E E E ?_;refine A0o hs E E E E E E ?_;refine B4L E E E E E E ?_;refine A0o hs E E E E E E ?_;refine G7 hs E (G8 E E) E ?_;refine I3 (D6 2 12 70) ?_;refine E1 E ?_;refine A1 (as_ (as_ (A0 (D2 8 9) (C0 (tr ?_)))));exact ⟨_,[],[],A1s E E E,qZ,E,vS,by rw [hno_]; rfl,by rw [hno_]; exact By.nil⟩
   .
    have hk6:t.kind=6:=by simp at hb; omega
    obtain ⟨x,a,b,rfl,hb256,hbl⟩:=hSel t (As ht2) hk6;have hmt:=hT.tok.tmo _ (As ht2);have hmb:B256 (A05 [a,b]):=B3j a b▸hmt.text;have hml:(A05 [a,b]).length<=1099511627776:=B3j a b▸hmt.tl;replace hvo:Rd A 1 vo 1 (A1J [x]):=hvo;refine A3R hs E E E E (qf_ 1 1) E ?_;refine B4K hs E E E E (by first | exact λ x hx=>by rw [Ap]; exact Ai _ hx | exact qS) hKs ql_ E ?_;refine A3R hs E E E E (H4 (sz:=1) (a:=0) E E kR E hvo (show 0 < 1 by decide)) E ?_;refine B4K hs E E E E (by first | exact λ x hx=>by rw [Ap]; exact Ai _ hx | exact qS) hKs (Y9 (j:=0) (u:=.int .i64 x) (hvo.mono qS) E kR qR) E ?_;refine A3R hs E E E E qm_ E ?_;refine A3R hs E E E E qm_ E ?_
    refine C0S [] _ rfl rfl rfl rfl (Ah _) (λ _ h=>by cases h) λ w0=>(R8 (aS rfl (aS rfl a0)) kR (B6u pb bt bm 1 _ sv s.ts v w j MT _ hT (λ x hx=>qS _ (hsub x hx)) (qS _ hpb) hn (hv.mono qS) hj) rfl λ _=>?_)
    dsimp only [List.nil_append,List.append_eq];refine A3R hs E E E E (F0 E E E) E ?_;refine G7 hs E (F2 E E) E ?_;refine I3 (D6 2 12 70) ?_;refine C4 E ?_ ?_ <;> intro hc
    .
     have hxj:x≠((j:Nat):Int):=by intro e; rw [e] at hc; simp [I8] at hc
     have hno_:A3g s w wa wg=none:=(A2Q hr _ _ _).trans (A2P λ t_ ⟨z0,z1,z2,z3,z4,z5⟩=>by rw [hi] at z3; obtain rfl:=Ca z3; rw [hj] at z4; obtain rfl:=Ca z4; rw [ht2] at z5; exact hxj (List.cons.inj (Tm.mk.inj (Ca z5)).2.1).1);refine A1 (as_ (as_ (A0 (D2 8 9) (C0 (tr ?_)))));exact ⟨_,[],[],A1s E E E,qZ,E,vS,by rw [hno_]; rfl,by rw [hno_]; exact By.nil⟩
    .
     obtain rfl:x=((j:Nat):Int):=by simp [I8] at hc; exact hc
     refine A6 (nx (D2 2 12) (A1 ?_));refine A2 (qf_ 2 2) E ?_;refine A2 ql_ E ?_;rw [show (A6n ((j:Nat):Int) a b).text=A05 [a,b] from B3j a b];refine C7 (aS E a0) kR (A9Q [a,b] hmb hml _ (qS _ h4)) E ?_;rintro r74 M74 J74 ⟨rfl,v74,rfl,hsl⟩;haveI:=hsl.cel;refine mv_ ?_;refine A2 (Y8 E) E ?_;refine A2 (Y4 E) E ?_;refine as_ (as_ (A0 (D6 2 14 15) (A4 ?_)));refine Y5 (B:=M74) qP ?_;have hrd:=hsl.rd (R:=M74) λ _ h=>h;refine D1 (.range 15) (zp 0 [0,0,0,0,0,0,0,0,0,0,1,0,1,0,0]) kR kR λ hs=>?_;refine fm_ hs ?_;refine C8 hs E (F5 false E E (neF E)) E ?_;refine fm_ hs ?_;refine H9 hs E E E E qm_ E ?_;refine H9 hs E E E E (G6 (sz:=1) E kR hrd) E ?_;refine H9 hs E E E E (F5 false E E (neF E)) E ?_;refine C8 hs E (F2 E E) E ?_;refine fm_ hs ?_;refine H9 hs E E E E qm_ E ?_;refine H9 hs E E E E (H4 (sz:=1) (a:=0) E E kR E hrd (show _ < 2 by decide)) E ?_;refine Z0 hs E E E E (Y9 (j:=0) (u:=.string (txt a)) (hrd.mono qS) E kR qR) E ?_;refine H9 hs E E E E qm_ E ?_;refine Z0 hs E E E E (N5 E kR (h2.rd.mono qS)) E ?_;have ha256:∀ y∈a,y < 256:=λ y hy=>hmb.lt y (by simp [A05,mark,hy]);refine H9 hs E E E E (B02 E E E E ha256 h2.lt) E ?_;refine C8 hs E (F2 E E) E ?_;refine E3 (D2 14 91) ?_;refine C4 E ?_ ?_ <;> intro hc
     .
      have hne:a≠wa:=by simpa using hc
      have hno_:A3g s w wa wg=none:=(A2Q hr _ _ _).trans (A2P λ t_ ⟨z0,z1,z2,z3,z4,z5⟩=>by rw [hi] at z3; obtain rfl:=Ca z3; rw [ht2] at z5; have e5:=Ca z5; exact hne (A9s hmt (e5▸hmt) e5).2.1);refine A1 (as_ (as_ (A0 (D2 8 9) (C0 (tr ?_)))));exact ⟨_,[],[],A1s E E E,qZ,E,vS,by rw [hno_]; rfl,by rw [hno_]; exact By.nil⟩
     .
      obtain rfl:a=wa:=by simpa using hc
      have hye:A3g s w a wg=some b:=(A2Q hr _ _ _).trans (A2O hT.tok ⟨h32,i,j,hi,hj,ht2⟩);refine A6 (nx (D5 14) (A1 (mv_ ?_)));refine A2 (H4 (sz:=1) (a:=1) E E kR E hrd (show _ < 2 by decide)) E ?_;refine A2 (Y9 (j:=1) (u:=.string (txt b)) (hrd.mono qS) E kR qR) E ?_;refine A3 E (A1i (e:=5) E E hb256 kR kR kR E λ v95 B95 hs95=>?_);refine A3Z (B:=B95) qP ?_;refine as_ (as_ (A0 (D2 8 9) (C0 ?_)));exact ⟨_,[],[],A1s E E E,qZ,E,_,by rw [hye]; rfl,by rw [hye]; exact ⟨hs95.mono qS,hb256,hbl⟩⟩
theorem B3O(A:Mem):FnX Tryz.prog 86 [] [] A λ q M J=>M=[]∧By J q n12:=by refine Cl (N:=2) Tryz.func86 E E E λ w_=>?_;refine A9 kn (A1 (as_ (A0 kn (A1 ?_))));refine A3 E (B0Z (a:=12) (e:=5) (k:=.u8) (by_:=1) E E kR E E qO qO E λ v1 B1 hs1=>?_);refine as_ (A0 (D5 0) (C0 ?_));exact ⟨_,[],B1,I0 E E,Ch qP qZ,E,⟨hs1.rd λ x hx=>by simp [hx],qD,qD⟩⟩
theorem B97(pb:Nat)(s:Ps)(hr:s.real=true)(v v2 v3:Value)(w wa wb:LN)(MP A:Mem)(hP:Prm pb s MP)(hv:By A v w)(h2:By A v2 wa)(h3:By A v3 wb)(hl:wa.length+wb.length<=16000000):FnX Tryz.prog 54 [(vP pb),v,v2,v3] MP A λ q M J=>Prm pb s M∧By J q (T9 (I5 w 32) n12 wa wb):=by obtain ⟨sv,bt,bm,B,MT,rfl,hby,hT⟩:=hP.ex;haveI:=hv.cel;haveI:=hby.cel;haveI:=h2.cel;haveI:=h3.cel;refine Cl (N:=38) Tryz.func54 E E E λ w_=>?_;refine A9 (D8 0 1 2 3) (A1 (as_ (A0 (D8 0 1 2 3) (A4 (A1 (mv_ ?_))))));refine A2 (F6 (e:=102) E E kR) E ?_;refine A0 (E8 0 1 2 3 10) ?_;refine C9 E ?_;refine A6 (nx (D8 0 1 2 3) (A4 (A1 (mv_ ?_))));refine A2 (E7 E) E ?_;refine A2 (qf_ 0 0) E ?_;refine A2 ql_ E ?_;refine A2 (F5 true E E (eqT (by rw [hr]; rfl))) E ?_;refine A0 (E8 0 1 2 3 15) ?_;refine E1 E ?_;refine A1 (mv_ ?_);refine C7 (aS E (aS E a0)) kR (X6 v w 32 _ (hv.mono qS) qD) E ?_;rintro r1 M1 J1 ⟨rfl,k1⟩;haveI:=k1.cel;refine C7 a0 kR (B3O _) E ?_;rintro r2 M2 J2 ⟨rfl,k2⟩;haveI:=k2.cel;refine mv_ (mv_ ?_);refine C7 (aS E (aS E (aS E (aS E a0)))) kR (B91 r1 r2 v2 v3 (I5 w 32) n12 wa wb _ (k1.mono qS) (k2.mono qS) (h2.mono qS) (h3.mono qS) hl) E ?_;rintro r3 M3 J3 ⟨rfl,k3⟩;rw [B3L,show I5 n12 12=n12 from rfl] at k3;haveI:=k3.cel;refine as_ (A0 (D5 8) (C0 (tr ?_)));exact ⟨_,(pb,blk [.int .u8 (md s.real),sv,.int .i64 (((s.n:Nat):Int)),(vP bt)] 102)::(B++MT),[],I0 E E,(Cg (Ch (B:=[_]) qP (Ch qP (Cf qP)))),⟨sv,bt,bm,B,MT,E,hby,hT⟩,k3.mono qS⟩
theorem B98(pb:Nat)(s:Ps)(hr:s.real=true)(v v2 v3:Value)(w wa wg:LN)(MP A:Mem)(hP:Prm pb s MP)(hMP:∀ x,x∈MP->x∈A)(hv:By A v w)(h2:By A v2 wa)(h3:By A v3 wg)(hl:wa.length+wg.length<=16000000):FnX Tryz.prog 60 [(vP pb),v,v2,v3] [] A λ q M J=>M=[]∧∃ u,q=.tuple #[u,.bool (A3g s w wa wg).isSome]∧By J u ((A3g s w wa wg).getD []):=by obtain ⟨sv,bt,bm,B,MT,rfl,hby,hT⟩:=hP.ex;have hpb:=hMP _ qK;haveI:=hv.cel;haveI:=hby.cel;haveI:=h2.cel;haveI:=h3.cel;refine Cl (N:=96) Tryz.func60 E E E λ w_=>?_;refine A9 (D8 0 1 2 3) (A1 (as_ (as_ (A0 (D8 0 1 2 3) (A4 (A1 (mv_ ?_)))))));refine A2 (F6 (e:=102) E E kR) E ?_;refine A0 (E8 0 1 2 3 17) ?_;refine C9 E ?_;refine A6 (nx (D8 0 1 2 3) (A4 (A1 (mv_ ?_))));refine A2 (E7 E) E ?_;refine A2 (qf_ 0 0) E ?_;refine A2 (I2 E kR (mA hpb) qR) E ?_;refine A2 (F5 true E E (eqT (by rw [hr]; rfl))) E ?_;refine A0 (E8 0 1 2 3 22) ?_;refine E1 E ?_;refine A1 (mv_ ?_);refine C7 (aS E (aS E a0)) kR (X6 v w 32 _ (hv.mono qS) qD) E ?_;rintro r1 M1 J1 ⟨rfl,k1⟩;haveI:=k1.cel;refine C7 a0 kR (B3O _) E ?_;rintro r2 M2 J2 ⟨rfl,k2⟩;haveI:=k2.cel;refine mv_ (mv_ ?_);refine C7 (aS E (aS E (aS E (aS E a0)))) kR (B94 r1 r2 v2 v3 (I5 w 32) n12 wa wg _ (k1.mono qS) (k2.mono qS) (h2.mono qS) (h3.mono qS) hl) E ?_;rintro r3 M3 J3 ⟨rfl,u3,rfl,k3⟩;rw [B3L,show I5 n12 12=n12 from rfl] at k3 ⊢;haveI:=k3.cel;refine A2 (Y8 E) E ?_;refine A2 (Y4 E) E ?_;refine as_ (as_ (A0 (D2 8 9) (C0 (tr ?_))));exact ⟨_,[],[],A1s E E E,qZ,E,u3,by rw [A7o hr],by rw [A7o hr]; exact k3.mono qS⟩
theorem B99(pb:Nat)(s:Ps)(v v2 v3:Value)(w wa wb:LN)(MP A:Mem)(hP:Prm pb s MP)(hn:s.ts.length < 1048576)(hv:By A v w)(hya:By A v2 wa)(hyb:By A v3 wb)(hl:wa.length+wb.length<=16000000)(hG:Glb A):FnX Tryz.prog 54 [(vP pb),v,v2,v3] MP A λ q M J=>Prm pb (C23 s w wa wb) M∧By J q (C24 s w wa wb):=by
  cases hr:s.real with
  | true=>rw [C2n hr,B7T hr]; exact B97 pb s hr v v2 v3 w wa wb MP A hP hv hya hyb hl
  | false =>
    rw [C2o hr,C2p hr];obtain ⟨bt,bm,hT⟩:=hP.t
    exact (B1z pb bt bm s hr v v2 v3 w wa wb MP A hT hn hv hya hyb hG).mono λ q M J h=>⟨h.1.p,h.2⟩
theorem B3P(pb:Nat)(s:Ps)(v v2 v3:Value)(w wa wg:LN)(MP A:Mem)(hP:Prm pb s MP)(hMP:∀ x,x∈MP->x∈A)(hn:s.ts.length<=1048576)(hSel:A3j s.ts)(hv:By A v w)(h2:By A v2 wa)(h3:By A v3 wg)(hj:Kok s w)(hl:wa.length+wg.length<=16000000)(hG:Glb A):FnX Tryz.prog 60 [(vP pb),v,v2,v3] [] A λ q M J=>M=[]∧∃ u,q=.tuple #[u,.bool (A3g s w wa wg).isSome]∧By J u ((A3g s w wa wg).getD []):=by
  cases hr:s.real with
  | true=>exact B98 pb s hr v v2 v3 w wa wg MP A hP hMP hv h2 h3 hl
  | false =>
    obtain ⟨bt,bm,hT⟩:=hP.t;obtain ⟨i,hi,rfl⟩:=hj hr;exact B96 pb bt bm s hr v v2 v3 _ wa wg i MP A hT hMP hn hSel hv h2 h3 (by rw [B8E,show u64 ((i:Nat):Int)=i by unfold u64; omega,if_pos hi]) hG

end Go.Proofs.YtjkpfgjfpbihaaaGreatDoor
namespace Go.Px
theorem FnX.amb{P:Program}{f:FuncId}{args:List Value}{M A A':Mem}{post:Value->Mem->Mem->Prop}(hA:∀ x,x∈A->x∈A')(h:FnX P f args M A post):FnX P f args M A' post:=by
  intro w hw
  have h1:St ⟨P,w,M.map Prod.fst,A,0⟩ M [] w:=⟨hw.os,hw.tape,hw.output,hw.size,hw.frame,λ b o hb=>hw.mem b o (by
    rcases List.mem_append.1 hb with hb | hb
    . exact Ae _ hb
    . exact Ai _ (hA _ hb)),hw.nodup,hw.own,hw.sepJ,λ b o hb=>hw.sepA b o (hA _ hb),hw.old⟩
  refine Calls.mono (h w h1) ?_;rintro e w' ⟨r,M',J',rfl,hp,hs⟩;refine ⟨r,M',J',E,hp,⟨hs.os,hs.tape,hs.output,hs.size,hs.frame,λ b o hb=>?_,hs.nodup,hs.own,hs.sepJ,hw.sepA,hs.old⟩⟩;rcases List.mem_append.1 hb with hb | hb
  . exact hs.mem b o (Ae _ hb)
  . rcases List.mem_append.1 hb with hb | hb
    . exact hs.mem b o (Ai _ (Ae _ hb))
    . have h2:=hw.sepA b o hb;rw [hs.frame b h2.2 h2.1];exact hw.mem b o (Ai _ hb)
end Go.Px

