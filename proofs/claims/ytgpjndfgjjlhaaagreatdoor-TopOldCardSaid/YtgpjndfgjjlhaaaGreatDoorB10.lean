/- Part 10 of the texts of this claim, one behind the other. -/
import Derived.Test.YtgpjndfgjjlhaaaGreatDoorB9
set_option linter.unusedVariables false
set_option linter.unusedSimpArgs false
set_option maxRecDepth 100000
open Go.Proofs.Tryz
noncomputable section
namespace Go.Px
open Go.RowKit
variable{P:Program}
theorem A8i(w:World)(t ti ty e:TypeId)(k:IntKind)(i:TypeInfo)(z:Value)(ht:P.underlying t=some (.slice e))(hti:P.underlying ti=some (.int k))(hi:P.info? e=some i)(hz:i.zero=some z)(hsz:i.size=1)(hby:i.bytes=1)
    (n:Nat) (h0:0<n) (hn9:n<=1000000) :
    (Builtin.append_ #[t,ti] ty #[.slice none 0 0,.int .i64 (n:Int)]).run P w =
      .ok (.slice (some ⟨w.heap.size,0,none⟩) n (grownCap w n 0 e)) (w.drew.alloc (.cells (Builtin.zeroCells z.cells n++Builtin.zeroCells z.cells (grownCap w n 0 e-n)) e)):=by
  have hn:n≠0:=by omega
  have hw:IntKind.i64.wrap (n:Int)=(n:Int):=by unfold IntKind.wrap;simp [IntKind.signed,IntKind.bits];omega
  have h1:¬((n:Int)<0):=by omega
  have h2:¬(281474976710656<(n:Int)):=by omega
  have h63':¬(9223372036854775807<(n:Int)):=by omega
  have h48':¬(281474976710656<Builtin.nextslicecap n 0):=by rw [nextslicecap_zero h0];omega
  simp [Builtin.append_,run_underlying ht,run_underlying hti,sizeOf,typeInfo,zeroValue,hi,hz,hsz,hby,hn,hw,h1,h2,asInt,asIntOf,h63',h48',Question.forced,run_firstCells_none,newRow,grownCap]
theorem A28(w:World)(t ti ty e:TypeId)(k:IntKind)(i:TypeInfo)(z:Value)(ht:P.underlying t=some (.slice e))(hti:P.underlying ti=some (.int k))(hi:P.info? e=some i)(hz:i.zero=some z)(hsz:i.size=1)(hby:i.bytes=1)
    (b:Addr) (sLen sCap:Nat) (olds:List Value) (hlo:olds.length=sLen*1) (holds:∀j v,olds[j]? = some v->w.cell? (b.add j)=some v)
    (n:Nat) (h0:0<n) (hn9:n<=1000000) (hg:sCap<sLen+n) (hs9:sLen<=1000000000) :
    (Builtin.append_ #[t,ti] ty #[.slice (some b) sLen sCap,.int .i64 (n:Int)]).run P w =
      .ok (.slice (some ⟨w.heap.size,0,none⟩) (sLen+n) (grownCap w (sLen+n) sCap e)) (w.drew.alloc (.cells (olds.toArray++Builtin.zeroCells z.cells n++Builtin.zeroCells z.cells (grownCap w (sLen+n) sCap e-(sLen+n))) e)):=by
  have hn0:n≠0:=by omega
  have hn:¬(sLen+n<=sCap):=by omega
  have hw:IntKind.i64.wrap (n:Int)=(n:Int):=by unfold IntKind.wrap;simp [IntKind.signed,IntKind.bits];omega
  have h1:¬((n:Int)<0):=by omega
  have h2:¬(281474976710656<(n:Int)):=by omega
  have h63':¬(9223372036854775807<((sLen:Int)+(n:Int))):=by omega
  have hfit:Builtin.nextslicecap (sLen+n) sCap*1<=281474976710656:=growslice_fits (by omega) (by omega);have h48':¬(281474976710656<Builtin.nextslicecap (sLen+n) sCap):=by omega
  have hfo:=run_firstCells_some (P:=P) w.drew 1 sLen b sLen sCap olds hlo (by simpa using holds);simp [Builtin.append_,run_underlying ht,run_underlying hti,sizeOf,typeInfo,zeroValue,hi,hz,hsz,hby,hn0,hn,hw,h1,h2,asInt,asIntOf,h63',h48',Question.forced,hfo,newRow,grownCap]
theorem X8(z0:Value)(m:Nat):Builtin.zeroCells #[z0] m=(List.replicate m z0).toArray:=by
  unfold Builtin.zeroCells;apply Array.ext
  . simp
  . intro i h1 h2;simp [Nat.mod_one]
theorem A7a(w:World)(t ti ty e:TypeId)(k:IntKind)(i:TypeInfo)(z z0:Value)(ht:P.underlying t=some (.slice e))(hti:P.underlying ti=some (.int k))(hi:P.info? e=some i)(hz:i.zero=some z)(hzc:z.cells=#[z0])(hsz:i.size=1)(hby:i.bytes=1)
    (b o sLen sCap n:Nat) (cs:List Value) (e':TypeId) (hb:w.heap[b]? = some (.cells cs.toArray e' (0,0))) (h0:0<n) (hn9:n<=1000000) (hg:sLen+n<=sCap) (hfit:o+sLen+n<=cs.length) (h1c:z0.oneCell'=true) :
    (Builtin.append_ #[t,ti] ty #[.slice (some ⟨b,o,none⟩) sLen sCap,.int .i64 (n:Int)]).run P w =
      .ok (.slice (some ⟨b,o,none⟩) (sLen+n) sCap) (w.setRow b (cs.take (o+sLen)++List.replicate n z0++cs.drop (o+sLen+n)).toArray):=by
  have hn0:n≠0:=by omega
  have hw:IntKind.i64.wrap (n:Int)=(n:Int):=by unfold IntKind.wrap;simp [IntKind.signed,IntKind.bits];omega
  have h1:¬((n:Int)<0):=by omega
  have h2:¬(281474976710656<(n:Int)):=by omega
  have hst:=run_storeCells_at (P:=P) b (o+sLen) e' (List.replicate n z0) 0 cs.toArray w hb (by simpa using hfit) (λu hu=>by rw [(List.mem_replicate.1 hu).2];exact h1c);simp only [Nat.add_zero,List.length_replicate] at hst;simp [Builtin.append_,run_underlying ht,run_underlying hti,sizeOf,typeInfo,zeroValue,hi,hz,hzc,X8,hsz,hby,hn0,hg,hw,h1,h2,asInt,asIntOf,Addr.add_mid,hst]
theorem A52(w:World)(t ti ty e:TypeId)(k:IntKind)(i:TypeInfo)(ht:P.underlying t=some (.slice e))(hti:P.underlying ti=some (.int k))(hi:P.info? e=some i)(hsz:i.size=1)(hby:i.bytes=1)(p:Option Addr)(sLen sCap:Nat)(hg:sLen<=sCap) :
    (Builtin.append_ #[t,ti] ty #[.slice p sLen sCap,(vI 0)]).run P w=.ok (.slice p sLen sCap) w:=by
  have hw:IntKind.i64.wrap 0=0:=by rfl
  cases p<;>simp [Builtin.append_,run_underlying ht,run_underlying hti,sizeOf,typeInfo,hi,hsz,hby,hw,hg,asInt,asIntOf,storeCells]
variable{t ti e:TypeId}{k:IntKind}{v z0:Value}{xs:List Value}
theorem A9b{ty:TypeId}{n m:Nat}{B R:Mem}{w:World}(ht:A1t P t=some (e,1,1))(hti:P.underlying ti=some (.int k))(hzr:((P.info? e).bind (·.zero)).map (·.cells)=some #[z0])(h1c:z0.oneCell'=true)
    (hs:Sl 1 v n xs B) (hB:∀q,q∈B->q∈R) (hw:Fx R w) (hm9:m<=1000000) (hs9:n<=1000000000) :
    ∃v' w' B',(Builtin.append_ #[t,ti] ty #[v,.int .i64 (m:Int)]).run P w=.ok v' w'∧Sl 1 v' (n+m) (xs++List.replicate m z0) B' ∧
      ((w'=w∧B'=B) ∨
       (∃(b:Nat) (cs cs':List Value) (e':TypeId),B=[(b,blk cs e')]∧B'=[(b,blk cs' e')]∧w'=w.setRow b cs'.toArray) ∨
       (∃o',B'=[(w.heap.size,o')]∧w'=w.drew.alloc o')):=by
  obtain ⟨i,z,hu,hi,hz,hzs,his,hib⟩:=Q1 ht
  have hzc:z.cells=#[z0]:=by rw [hi,Option.bind_some,hz,Option.map_some] at hzr;exact Cc hzr
  by_cases hm:m=0
  . subst hm;rcases hs with ⟨p,rfl,rfl,rfl,rfl⟩|⟨b,o,cap,cs,e',rfl,rfl,h1,h2,h3,h4,h5⟩
    . exact ⟨_,w,[],A52 w t ti ty e k i hu hti hi his hib p 0 0 (Av _),by rw [List.replicate_zero,List.append_nil];exact .inl ⟨p,E,E,E,E⟩,.inl ⟨E,E⟩⟩
    . exact ⟨_,w,_,A52 w t ti ty e k i hu hti hi his hib _ n cap h1,by rw [List.replicate_zero,List.append_nil];exact .inr ⟨b,o,cap,cs,e',E,E,h1,h2,h3,h4,h5⟩,.inl ⟨E,E⟩⟩
  . have h0:0<m:=by omega
    have hmax:n+m<=maxLen:=by unfold maxLen;omega
    have made:∀(r:Value) (cap':Nat),r=.slice (some ⟨w.heap.size,0,none⟩) (n+m) cap'->n+m<=cap'->cap'<=maxLen->xs.length=n*1 ->
        Sl 1 r (n+m) (xs++List.replicate m z0) [(w.heap.size,.cells (xs.toArray++(List.replicate m z0).toArray++(List.replicate (cap'-(n+m)) z0).toArray) e (0,0))]:=by
      intro r cap' hr' hc1 hc2 hxl;refine .inr ⟨w.heap.size,0,cap',xs++List.replicate m z0++List.replicate (cap'-(n+m)) z0,e,hr',by simp [blk],hc1,hc2,?_,?_,?_⟩
      . simp;omega
      . simp;omega
      . intro j u hj;have hlt:j<(xs++List.replicate m z0).length:=(Ac.1 hj).1;rw [Nat.zero_add,Ak hlt];exact hj
    rcases hs with ⟨p,rfl,rfl,rfl,rfl⟩|⟨b,o,cap,cs,e',rfl,rfl,h1,h2,h3,h4,h5⟩
    . have hge:=grownCap_ge w (0+m) 0 e;have hcm:grownCap w (0+m) 0 e<=maxLen:=grownCap_le_maxLen w (0+m) 0 e hmax
      cases p with
      | none =>
        have hrn:=A8i (P:=P) w t ti ty e k i z hu hti hi hz his hib m h0 hm9;rw [hzc,X8,X8] at hrn;rw [Nat.zero_add] at hge hcm;refine ⟨_,_,_,hrn,?_,.inr (.inr ⟨_,E,E⟩)⟩;have:=made _ (grownCap w m 0 e) (by rw [Nat.zero_add]) (by omega) hcm (by simp);simpa using this
      | some pa =>
        have hrg:=A28 (P:=P) w t ti ty e k i z hu hti hi hz his hib pa 0 0 [] (by simp) (by simp) m h0 hm9 (by omega) (by omega);rw [hzc,X8,X8] at hrg;refine ⟨_,_,_,hrg,?_,.inr (.inr ⟨_,E,E⟩)⟩;exact made _ _ E hge hcm (by simp)
    . have hb:=hw b _ (hB _ (List.mem_singleton.2 E));by_cases hroom:n+m<=cap
      . have hrr:=A7a (P:=P) w t ti ty e k i z z0 hu hti hi hz hzc his hib b o n cap m cs e' hb h0 hm9 hroom (by omega) h1c;refine ⟨_,_,_,hrr,?_,.inr (.inl ⟨b,cs,_,e',E,E,E⟩)⟩;refine .inr ⟨b,o,cap,_,e',E,E,hroom,h2,?_,?_,?_⟩
        . simp only [List.length_append,List.length_take,List.length_drop,List.length_replicate];omega
        . simp;omega
        . intro j q hj;by_cases hjx:j<xs.length
          . rw [Ak hjx] at hj;rw [Ap,Ak (by simp;omega),Cd (by omega)];exact h5 j q hj
          . rw [Aq (by omega)] at hj;have hlt:=(Ac.1 hj).1;have hln:(cs.take (o+n)).length=o+n:=by simp;omega
            rw [Ap,Aq (by omega),Ak (by rw [hln];rw [List.length_replicate] at hlt ⊢;omega),hln,<- hj];congr 1;omega
      . have hge:=grownCap_ge w (n+m) cap e;have hcm:grownCap w (n+m) cap e<=maxLen:=grownCap_le_maxLen w (n+m) cap e hmax;have hrg:=A28 (P:=P) w t ti ty e k i z hu hti hi hz his hib ⟨b,o,none⟩ n cap xs h4 (λj q hj=>by rw [Addr.add_mid,cell_of_row w b _ cs.toArray e' (0,0) hb];simpa using h5 j q hj) m h0 hm9 (by omega) hs9;rw [hzc,X8,X8] at hrg;refine ⟨_,_,_,hrg,?_,.inr (.inr ⟨_,E,E⟩)⟩;exact made _ _ E hge hcm h4
section append
variable{C:Cx}{l:Env}{M J:Mem}{K:Env->Mem->Mem->Prop}{d:Nat}{ty:TypeId}{pos:String}{af:Array Edge}{g:Option (Nat×Bool)}{x y:Operand}
theorem B5g{n m:Nat}{B M0:Mem}(hx:ev l x=some v)(hy:ev l y=some (.int .i64 (m:Int)))(ht:A1t C.P t=some (e,1,1))(hti:C.P.underlying ti=some (.int k))(hzr:((C.P.info? e).bind (·.zero)).map (·.cells)=some #[z0])(h1c:z0.oneCell'=true)
    (hs:Sl 1 v n xs B) (hM:M.Perm (B++M0)) (hm9:m<=1000000) (hs9:n<=1000000000) (hd:Nat.blt d C.N=true)
    (kk:∀v' B',Sl 1 v' (n+m) (xs++List.replicate m z0) B'->K ((d,v')::l) (B'++M0) J) :
    OpL C ⟨some d,.call { callee:=.builtin .append,args:=#[x,y],argTypes:=#[t,ti] },ty,pos,af,g⟩ l M J K:=by
  intro Qp a w ha hw;obtain ⟨v',w',B',hrun,hsl,hcase⟩:=A9b (P:=C.P) (ty:=ty) (R:=M++(J++C.A)) ht hti hzr h1c hs (λq hq=>by have:=hM.mem_iff.2 (Ae M0 hq);simp [this]) hw.fx hm9 hs9
  have hexec:(execOp a.eval ⟨some d,.call { callee:=.builtin .append,args:=#[x,y],argTypes:=#[t,ti] },ty,pos,af,g⟩).run C.P w=.ok (.value v') w':=by simp [execOp,resolve,invoke,builtin,ha.ev hx,ha.ev hy,hrun]
  unfold Oper.wp;rw [hexec];refine ⟨_,B'++M0,J,ha.put (L7 hd) v',?_,kk v' B' hsl⟩;rcases hcase with ⟨rfl,rfl⟩|⟨b,cs,cs',e',rfl,rfl,rfl⟩|⟨o',rfl,rfl⟩
  . exact hw.perm hM
  . exact (hw.perm hM).setRow (M':=[(b,blk cs' e')]++M0) Upd.hd
  . have h2:St C ((w.heap.size,o')::M) J (w.drew.alloc o'):=St.alloc (w:=w.drew) hw.drew o';have h3:=h2.perm (M':=(w.heap.size,o')::(B++M0)) (List.Perm.cons _ hM);exact h3.drop (List.Sublist.cons_cons _ (List.sublist_append_right B M0)) (λ_ h=>h)
end append
end Go.Px

namespace Go.Proofs.YtgpjndfgjjlhaaaGreatDoor
open Go.Px
def B1p(p:LN):LN:=p++List.replicate ((16-p.length%16)%16) 0
theorem B0m(p:LN):(B1p p).length=p.length+(16-p.length%16)%16:=by simp [B1p]
theorem C3T(v:Value)(p:LN)(B A:Mem)(hs:Sl 1 v p.length (nums .u8 p) B)(hl:p.length<=100000000):FnX prog 168 [v] B A λq M J=>Sl 1 q (B1p p).length (nums .u8 (B1p p)) M:=by haveI:=hs.cel;refine Co (N:=10) func168 E E E λw_=>?_;refine A8 (D1 0) (A1 (as_ (A0 (D1 0) (A1 (mv_ (mv_ ?_))))));refine lQ_ (F8 (sz:=1) E kR (hs.rd (R:=B) λ_ h=>h)) ?_;refine lQ_ (V5 (a:=p.length) (b:=16) E E E E qD) ?_;refine lQ_ (D2 ((16-p.length%16:Nat):Int) E E (V6 qO qO qO)) ?_;refine lQ_ (V5 (a:=16-p.length%16) (b:=16) E E E E qD) ?_;refine A2 E (B5g (e:=5) (k:=.i64) (z0:=.int .u8 0) E E kR kR kR E hs qP qO qO E ?_);intro v9 B9 hs9;haveI:=hs9.cel;refine as_ (A0 (D1 2) (A9 ?_));exact ⟨_,B9,[],H2 E E,Ci (Ch qP),W6 hs9 (by rw [B0m]) (by simp [B1p,nums])⟩
theorem B9i(v:Value)(w:LN)(n:Nat)(A:Mem)(hv:By A v w)(hn:n<=16777216):FnX prog 169 [v,.int .i64 (n:Int)] [] A λq M J=>Sl 1 q n (nums .u8 (H5 w n)) M:=by haveI:=hv.cel;have hvl:=hv.len;refine Co (N:=12) func169 E E E λw_=>?_;refine A8 (D0 0 1) (A1 (as_ (A0 (D0 0 1) (A1 (mv_ ?_)))));refine A2 E (A0S (by_:=1) (k:=.u8) (e:=5) n E E kR E E qO qO E λb7=>?_);refine as_ (A0 (D0 0 5) (A1 (mv_ (mv_ ?_))));refine A2 E (A4A (e:=5) (us:=w) (ws:=List.replicate n 0) (ws':=H5 w n) (by_:=1) E E kR (hv.rd.mono qS) qM (by simp [H5]) Cv E ?_);refine A0 (D1 5) (A1 (mv_ (as_ (A0 (D1 4) (A9 ?_)))));refine ⟨_,[(b7,blk (nums .u8 (H5 w n)) 5)],[],H2 E E,Cg qM,?_⟩;exact .inr ⟨b7,0,n,_,_,E,E,Av _,by unfold maxLen;omega,by simp [nums,L4],by simp [nums,L4],λj u h=>by rwa [Nat.zero_add]⟩

def clA(r:LN):Nat->LN
  | 0=>r
  | i+1=>(clA r i).set (4*i+3) ((clA r i).getD (4*i+3) 0 &&& 15)
def clB(r:LN):Nat->LN
  | 0=>r
  | i+1=>(clB r i).set (4*i+4) ((clB r i).getD (4*i+4) 0 &&& 252)
def adS(l x:LN):Nat->LN
  | 0=>l
  | i+1=>(adS l x i).set i (((adS l x i).getD i 0+x.getD i 0)%18446744073709551616)
def tgN(by_:LN):Nat->LN->LN->LN
  | 0,l,_=>l
  | f+1,l,p=>if p.length=0 then l else tgN by_ f (A5t (adS l (ptN (p.take 16++[1])) 5) by_) (p.drop 16)
def C1s(K p:LN):LN:=C4N (tgN (ptN (clB (clA (H5 K 16) 4) 3)) p.length [0,0,0,0,0] p) (K.drop 16)
theorem A7b(by_:LN):∀(f:Nat) (l p:LN),p.length<=f->tgN by_ f l p=tgN by_ p.length l p
  | 0,l,p,h=>by rw [show p.length=0 by omega]
  | f+1,l,p,h=>by
    by_cases h0:p.length=0
    . rw [h0];show (if p.length=0 then l else _)=_;rw [if_pos h0];rfl
    . have hd:(p.drop 16).length<=f:=by rw [Bg];omega
      obtain ⟨m,hm⟩:∃m,p.length=m+1:=⟨p.length-1,by omega⟩
      have hd2:(p.drop 16).length<=m:=by rw [Bg];omega
      have e1:tgN by_ (f+1) l p=tgN by_ f (A5t (adS l (ptN (p.take 16++[1])) 5) by_) (p.drop 16):=if_neg h0;have e2:tgN by_ (m+1) l p=tgN by_ m (A5t (adS l (ptN (p.take 16++[1])) 5) by_) (p.drop 16):=if_neg h0;rw [e1,hm,e2,A7b by_ f _ _ hd,A7b by_ m _ _ hd2]
theorem B8c(by_ l p:LN)(h0:¬p.length=0):tgN by_ p.length l p=tgN by_ (p.drop 16).length (A5t (adS l (ptN (p.take 16++[1])) 5) by_) (p.drop 16):=by
  obtain ⟨m,hm⟩:∃m,p.length=m+1:=⟨p.length-1,by omega⟩
  have e2:tgN by_ (m+1) l p=tgN by_ m (A5t (adS l (ptN (p.take 16++[1])) 5) by_) (p.drop 16):=if_neg h0;rw [hm,e2,A7b by_ m _ _ (by rw [Bg];omega)]
theorem C1t(by_ l p:LN)(h0:p.length=0):tgN by_ p.length l p=l:=by rw [h0];rfl
theorem B5h(r:LN):∀i,(clA r i).length=r.length
  | 0=>rfl
  | i+1=>by show ((clA r i).set _ _).length=_;rw [Bk,B5h r i]
theorem B5i(r:LN):∀i,(clB r i).length=r.length
  | 0=>rfl
  | i+1=>by show ((clB r i).set _ _).length=_;rw [Bk,B5i r i]
theorem and8{x k:Nat}(h:x<256):x &&& k<256:=Be Nat.and_le_left h
theorem set8{l:LN}(h:∀x∈l,x<256)(i x:Nat)(hx:x<256):∀y∈l.set i x,y<256:=λy hy=>by rcases Bf hy with h1|rfl;exact h y h1;exact hx
theorem B5j{r:LN}(h:∀x∈r,x<256):∀i,∀x∈clA r i,x<256
  | 0=>h
  | i+1=>set8 (B5j h i) _ _ (and8 (A1j (B5j h i) _))
theorem B5k{r:LN}(h:∀x∈r,x<256):∀i,∀x∈clB r i,x<256
  | 0=>h
  | i+1=>set8 (B5k h i) _ _ (and8 (A1j (B5k h i) _))
theorem B9j{l:LN}(h:L5 l)(x:LN):∀i,L5 (adS l x i)
  | 0=>h
  | i+1=>(B9j h x i).set _ _ (Ad _ qD)
theorem C3U(v:Value)(w:LN)(n:Nat)(A:Mem)(hv:By A v w)(hn:n<=16777216):FnX prog 169 [v,.int .i64 (n:Int)] [] A λq M J=>∃b,q=.slice (some ⟨b,0,none⟩) n n∧M=[(b,blk (nums .u8 (H5 w n)) 5)]∧J=[]:=by haveI:=hv.cel;have hvl:=hv.len;refine Co (N:=12) func169 E E E λw_=>?_;refine A8 (D0 0 1) (A1 (as_ (A0 (D0 0 1) (A1 (mv_ ?_)))));refine A2 E (A0S (by_:=1) (k:=.u8) (e:=5) n E E kR E E qO qO E λb7=>?_);refine as_ (A0 (D0 0 5) (A1 (mv_ (mv_ ?_))));refine A2 E (A4A (e:=5) (us:=w) (ws:=List.replicate n 0) (ws':=H5 w n) (by_:=1) E E kR (hv.rd.mono qS) qM (by simp [H5]) Cv E ?_);refine A0 (D1 5) (A1 (mv_ (as_ (A0 (D1 4) (A9 ?_)))));exact ⟨_,[(b7,blk (nums .u8 (H5 w n)) 5)],[],H2 E E,Cg qM,b7,E,E,E⟩

theorem C5A(q:LN){m:Nat}(h:min 16 q.length=m):H5 q m=q.take 16∧q.drop m=q.drop 16∧(q.take 16).length=m:=by
  refine ⟨?_,?_,by rw [Bj];exact h⟩
  . unfold H5;rw [show m-q.length=0 by omega,List.replicate_zero,List.append_nil];by_cases h1:16<=q.length
    . rw [show m=16 by omega]
    . rw [show m=q.length by omega,List.take_length,Aw qO]
  . by_cases h1:16<=q.length
    . rw [show m=16 by omega]
    . rw [show m=q.length by omega,List.drop_length,Bx qO]
set_option maxHeartbeats 1000000 in
theorem C3V(v vp:Value)(kw p:LN)(A:Mem)(hk:By A v kw)(hp:By A vp p):FnX prog 170 [v,vp] [] A λq M J=>M=[]∧By J q (C1s (H5 kw 32) p):=by
 haveI:=hk.cel;haveI:=hp.cel;refine Co (N:=80) func170 E E E λw_=>?_;refine A8 (D0 0 1) (A1 (as_ (A0 (D0 0 1) (A1 (mv_ ?_)))));refine C6 (aS E (aS E a0)) kR (A45 v kw 32 _ (hk.mono qS) qD) E ?_;rintro v16 M16 J16 ⟨rfl,h16⟩;haveI:=h16.cel;have hkl:=L4 kw 32;generalize H5 kw 32=K at *;have hfl:=L4 K 16;have hflt:=A3h h16.lt 16;refine as_ (A0 (D0 0 1) (A1 (mv_ ?_)));refine C6 (aS E (aS E a0)) kR (C3U v16 K 16 _ (h16.mono qS) qD) E ?_;rintro v18 M18 J18 ⟨b18,rfl,rfl,rfl⟩;refine as_ (A0 (D5 0 1 5) (A3 (A1 ?_)));refine A2 E (C4 (e:=3) (sz:=1) (z:=[U7,U7,U7,U7]) kR (eS E (eS E (eS E (eS E e0)))) (bdS 0 1 E qR (bdS 1 1 E qR (bdS 2 1 E qR (bdS 3 1 E qR bd0)))) E λb19=>?_);refine lQ_ (A0r (e:=3) E kR) (mv_ (A0 (G9 0 1 5 19 20 21) (A6 ?_)));refine Z4 (B:=[(b19,blk [.int .i64 3,.int .i64 7,.int .i64 11,.int .i64 15] 3)]) qP ?_;refine E0 (α:=Nat) (λi=>[(0,v16),(1,vp),(5,.slice (some ⟨b18,0,none⟩) 16 16),(19,.slice (some ⟨b19,0,none⟩) 4 4),(20,.int .i64 4),(21,(vI i))]) (λi=>[(b18,blk (nums .u8 (clA (H5 K 16) i)) 5)]) (λ_=>_) (λi=>i<=4) (λi=>4-i) 0 (Am _) (G9 0 1 5 19 20 21) (Cg E) qI ?_;rintro i hi
 try dsimp only at hi ⊢
 have hal:=B5h (H5 K 16) i;have halt:=B5j hflt i;refine A1 (lQ_ (E3 E E E) (A0 (N1 0 1 5 19 20 21 22) (A3 ?_)));refine C2 E ?_ ?_<;>intro hc
 .
  have hlt:i<4:=by simp at hc;omega
  refine A4 (nx (G9 0 1 5 19 20 21) (A3 (A6 (A1 ?_))));refine lQ_ (L6 (e:=3) (i:=i) (sz:=1) E E kR kR E hlt) ?_;refine lQ_ (H1 (v:=.int .i64 ((4*i+3:Nat):Int)) rfl kR Ce (by rcases (by omega:i=0∨i=1∨i=2∨i=3) with rfl|rfl|rfl|rfl<;>rfl)) ?_;refine as_ (A0 (N1 0 1 5 7 19 20 21) (C1 (mv_ (mv_ ?_))));refine lQ_ (L6 (e:=5) (i:=4*i+3) (sz:=1) E E kR kR E qO) ?_;refine lQ_ (H9 (4*i+3) E kR Ce qO qO) ?_;refine lQ_ (A5l (b:=15) E E E (by show _<256;exact A1j halt _) qD) ?_;refine lQ_ (L6 (e:=5) (i:=4*i+3) (sz:=1) E E kR kR E qO) ?_;refine A2 E (K4 (4*i+3) E E kR qO qO Cv ?_);refine C5 (nb (nx (G9 0 1 5 19 20 21) (C1 ?_)));refine lQ_ (D2 ((i+1:Nat):Int) E E (F5 qO qO qO)) ?_;refine mv_ (C5 ?_);exact rn (i+1) qO qO (G9 0 1 5 19 20 21) (Cg E) qI
 .
  obtain rfl:i=4:=by simp at hc;omega
  refine D6 (te (re (be E (nx (D5 0 1 5) (A3 (A1 ?_))))));refine A2 E (C4 (e:=3) (sz:=1) (z:=[U7,U7,U7]) kR (eS E (eS E (eS E e0))) (bdS 0 1 E qR (bdS 1 1 E qR (bdS 2 1 E qR bd0))) E λb32=>?_);refine lQ_ (A0r (e:=3) E kR) (mv_ (A0 (G9 0 1 5 32 33 34) (A6 ?_)));refine Z4 (B:=[(b32,blk [.int .i64 4,.int .i64 8,.int .i64 12] 3)]) qP ?_;refine E0 (α:=Nat) (λi=>[(0,v16),(1,vp),(5,.slice (some ⟨b18,0,none⟩) 16 16),(32,.slice (some ⟨b32,0,none⟩) 3 3),(33,.int .i64 3),(34,(vI i))]) (λi=>[(b18,blk (nums .u8 (clB (clA (H5 K 16) 4) i)) 5)]) (λ_=>_) (λi=>i<=3) (λi=>3-i) 0 (Am _) (G9 0 1 5 32 33 34) (Cg E) qI ?_;rintro i hi2
  try dsimp only at hi2 ⊢
  have hbl:=B5i (clA (H5 K 16) 4) i;have hblt:=B5k halt i;refine A1 (lQ_ (E3 E E E) (A0 (N1 0 1 5 32 33 34 35) (A3 ?_)));refine C2 E ?_ ?_<;>intro hc
  .
   have hlt:i<3:=by simp at hc;omega
   refine A4 (nx (G9 0 1 5 32 33 34) (A3 (A6 (A1 ?_))));refine lQ_ (L6 (e:=3) (i:=i) (sz:=1) E E kR kR E hlt) ?_;refine lQ_ (H1 (v:=.int .i64 ((4*i+4:Nat):Int)) rfl kR Ce (by rcases (by omega:i=0∨i=1∨i=2) with rfl|rfl|rfl<;>rfl)) ?_;refine as_ (A0 (N1 0 1 5 9 32 33 34) (C1 (mv_ (mv_ ?_))));refine lQ_ (L6 (e:=5) (i:=4*i+4) (sz:=1) E E kR kR E qO) ?_;refine lQ_ (H9 (4*i+4) E kR Ce qO qO) ?_;refine lQ_ (A5l (b:=252) E E E (by show _<256;exact A1j hblt _) qD) ?_;refine lQ_ (L6 (e:=5) (i:=4*i+4) (sz:=1) E E kR kR E qO) ?_;refine A2 E (K4 (4*i+4) E E kR qO qO Cv ?_);refine C5 (nb (nx (G9 0 1 5 32 33 34) (C1 ?_)));refine lQ_ (D2 ((i+1:Nat):Int) E E (F5 qO qO qO)) ?_;refine mv_ (C5 ?_);exact rn (i+1) qO qO (G9 0 1 5 32 33 34) (Cg E) qI
  .
   obtain rfl:i=3:=by simp at hc;omega
   refine D6 (te (re (be E (nx (D5 0 1 5) ?_))));refine Z4 (B:=[(b18,blk (nums .u8 (clB (clA (H5 K 16) 4) 3)) 5)]) qP ?_;unfold C1s
   obtain ⟨R,hRe⟩:∃z,clB (clA (H5 K 16) 4) 3=z:=⟨_,E⟩
   rw [hRe] at hbl hblt ⊢;have hRl:R.length=16:=by omega
   have hrB:By [(b18,blk (nums .u8 R) 5)] (.slice (some ⟨b18,0,none⟩) 16 16) R:=⟨by rw [hRl];exact Cr (n:=16) qK (by simp [nums,hRl]),hblt,by omega⟩
   refine A1 (mv_ ?_);refine D8 (aS E a0) kR (B5d (.slice (some ⟨b18,0,none⟩) 16 16) R _ (hrB.mono qS) qO) E ?_;refine A2 E (C3 (cs:=[C0,C0,C0,C0,C0]) kR E λb10=>?_);refine A2 E (A5 (vs:=nums .u64 (ptN R)) E E E (by rw [nums_len,(A27 R).len];kernel_rfl) (by rw [nums_len,(A27 R).len];rfl) E7 Cv ?_);refine A0 (D5 0 1 10) (A1 ?_);refine A2 E (C3 (cs:=[C0,C0,C0,C0,C0]) kR E λb11=>?_);refine A0 (D7 0 1 10 11) (A3 (A6 ?_));refine E0 (α:=Value×LN×LN) (λy=>[(0,v16),(1,y.1),(10,(vP b10)),(11,(vP b11))]) (λy=>[(b11,blk (nums .u64 y.2.2) 192),(b10,blk (nums .u64 (ptN R)) 192)]) (λ_=>_) (λy=>By A y.1 y.2.1∧L5 y.2.2∧tgN (ptN R) y.2.1.length y.2.2 y.2.1=tgN (ptN R) p.length [0,0,0,0,0] p) (λy=>y.2.1.length) (vp,p,[0,0,0,0,0]) ⟨hp,L5.z,E⟩ (D7 0 1 10 11) (Cg E) qI ?_;rintro ⟨u,q,l⟩ ⟨hq,hl5,hT⟩;dsimp only at hq hl5 hT ⊢;haveI:=hq.cel;refine A3 (A1 (mv_ ?_));refine lQ_ (F8 (sz:=1) E kR hq.rd) ?_;refine lQ_ (E3 E E E) (A0 (E9 0 1 10 11 49) ?_);refine C2 E ?_ ?_<;>intro hc
   .
    have h0:¬q.length=0:=by simp at hc;omega
    have hql:=hq.len
    obtain ⟨m,hm⟩:∃m,min 16 q.length=m:=⟨_,E⟩
    obtain ⟨hfm,hdr,htl⟩:=C5A q hm
    obtain ⟨Q,hQe⟩:∃z,q.take 16++[1]=z:=⟨_,E⟩
    have hQl:m+1=Q.length:=by rw [<- hQe,An,htl];rfl
    have hQt:∀x∈Q,x<256:=λx hx=>by rw [<- hQe] at hx;rcases List.mem_append.1 hx with h|h;exact hq.lt x (Bz h);rw [List.mem_singleton.1 h];decide
    refine A4 (nx (D7 0 1 10 11) (A6 (A1 (mv_ ?_))));refine lQ_ (F8 (sz:=1) E kR hq.rd) ?_;refine lQ_ (A4i ((m:Nat):Int) E E (by split<;>omega)) ?_;refine as_ (A0 (E9 0 1 10 11 12) (A3 (A1 (mv_ (mv_ ?_)))));refine C6 (aS E (aS E a0)) kR (B9i u q m _ (hq.mono qS) qO) E ?_;rintro v55 M55 J55 hs55;haveI:=hs55.cel;refine A2 E (C4 (e:=5) (sz:=1) (z:=[zu8]) kR (eS E e0) (bdS 0 1 E qR bd0) E λb56=>?_);refine A2 E (G6 (e:=5) (sz:=1) (by_:=1) E E kR E hs55 (Cr (n:=1) (cs:=nums .u8 [1]) Ce qR) E7 qP (by unfold maxLen;omega) qO E λv57 B57 hs57=>?_);haveI:=hs57.cel
    have hby:By B57 v57 Q:=⟨A0J (hs57.rd λ_ h=>h) (by rw [hQl]) (by rw [hfm,<- H4,hQe]),hQt,by omega⟩
    refine D8 (aS E a0) kR (B5d v57 Q _ (hby.mono qS) qO) E ?_;refine mv_ (A0 (N1 0 1 10 11 12 58 59) (A6 ?_));refine E0 (α:=Nat) (λk=>[(0,v16),(1,u),(10,(vP b10)),(11,(vP b11)),(12,(vI m)),(58,.agg (nums .u64 (ptN Q)).toArray),(59,(vI k))]) (λk=>[(b11,blk (nums .u64 (adS l (ptN Q) k)) 192),(b10,blk (nums .u64 (ptN R)) 192)]) (λ_=>_) (λk=>k<=5) (λk=>5-k) 0 (Am _) (N1 0 1 10 11 12 58 59) (Cj (B:=[(b11,blk (nums .u64 l) 192)]) qP (Cj (B:=[(b10,blk (nums .u64 (ptN R)) 192)]) qP qZ)) qI ?_;rintro k hk5
    try dsimp only at hk5 ⊢
    have hok:=B9j hl5 (ptN Q) k;refine A1 (lQ_ (E3 E E E) (A0 (V4 0 1 10 11 12 58 59 60) (A3 ?_)));refine C2 E ?_ ?_<;>intro hc
    .
     have hlt:k<5:=by simp at hc;omega
     refine A4 (nx (N1 0 1 10 11 12 58 59) (A3 (A6 (A1 (mv_ ?_)))));refine lQ_ (A6g (m:=5) (e:=130) (j:=k) (cs:=nums .u64 (ptN Q)) (u:=(vW ((ptN Q).getD k 0))) E E kR kR kR E qO (W2 (by rw [(A27 Q).len];omega))) ?_;refine as_ (as_ (A0 (Q4 0 1 10 11 12 13 14 58 59) (C1 (mv_ ?_))));refine lQ_ (F1 (e:=130) (n:=5) (sz:=1) (i:=k) (k) E E kR kR E qO qO) ?_;refine lQ_ (H9 (k) E kR Ce E (by rw [hok.len];omega)) ?_;refine mV_ E (lQ_ (G7 18446744073709551616 E E E E E E) ?_);refine lQ_ (F1 (e:=130) (n:=5) (sz:=1) (i:=k) (k) E E kR kR E qO qO) ?_;refine A2 E (K4 (k) E E kR E (by rw [hok.len];omega) Cv ?_);refine C5 (nb (nx (N1 0 1 10 11 12 58 59) (C1 ?_)));refine lQ_ (D2 ((k+1:Nat):Int) E E (F5 qO qO qO)) ?_;refine mv_ (C5 ?_);exact rn (k+1) hlt qO (N1 0 1 10 11 12 58 59) (Cg E) qI
    .
     obtain rfl:k=5:=by simp at hc;omega
     refine D6 (te (re (be E (nx (E9 0 1 10 11 12) (A1 ?_)))));refine lQ_ (H0 (n:=5) (cs:=nums .u64 (adS l (ptN Q) 5)) E kR Ce (by rw [nums_len];exact hok.len)) ?_;refine lQ_ (H0 (n:=5) (cs:=nums .u64 (ptN R)) E kR Ce (by rw [nums_len];exact (A27 R).len)) ?_;refine D8 (aS E (aS E a0)) kR (C1r (adS l (ptN Q) 5) (ptN R) _ hok (A27 R)) E ?_;refine A2 E (A5 (vs:=nums .u64 (A5t (adS l (ptN Q) 5) (ptN R))) E E E (by rw [nums_len,(A1Y _ _).len];kernel_rfl) (by rw [nums_len,nums_len,(A1Y _ _).len,hok.len]) E7 Cv ?_);refine A0 (E9 0 1 10 11 12) (C1 (mv_ (mv_ ?_)));refine lQ_ (Z0 (sz:=1) (a:=m) E E kR E hq.rd qO) ?_;have h75:=hq.lo m qO;haveI:=h75.cel;have hst:=B8c (ptN R) l q h0;have hS:=A1Y (adS l (ptN Q) 5) (ptN R);rw [hQe,<- hdr] at hst;generalize A5t (adS l (ptN Q) 5) (ptN R)=S at *;have hst2:=hst.symm.trans hT;refine as_ (C5 (nb ?_));exact rn (vLo m 1 u,q.drop m,S) ⟨h75,hS,hst2⟩ (by dsimp only;rw [Bg];omega) (D7 0 1 10 11) (Cg E) (λ_ h=>Ai _ h)
   .
    have h0:q.length=0:=by have h:=of_decide_eq_false hc;omega
    rw [C1t _ _ _ h0] at hT;rw [<- hT];refine D6 (te (re (be E (nx (D0 0 11) ?_))));refine C9 [0,1,2,3,4] (zp 0 [1,0,0,2,0]) kR kR λhs=>?_;refine fR_ E (H0 (n:=5) (cs:=nums .u64 l) E kR Ce (by rw [nums_len];exact hl5.len)) ?_;refine fm_ ?_;refine fQ_ E (Z0 (sz:=1) (a:=16) E E kR E h16.rd qO) ?_;have h78:=h16.lo 16 qO;haveI:=h78.cel;refine G5 E (aS E (aS E a0)) kR (C5z l (K.drop 16) _ _ hl5 (h78.mono qS) (by rw [Bg];omega)) E ?_;rintro v79 M79 J79 ⟨rfl,h79⟩;haveI:=h79.cel;refine fA_ E E (E4 (D1 4) (A9 ?_));exact ⟨_,[],[],H2 E E,qZ,E,h79.mono qS⟩

theorem B5l(w:LN):H5 w w.length=w:=by unfold H5;rw [List.take_length,Nat.sub_self];simp
def mcN(wa o:LN):LN:=B1p (B1p wa++o)
def nlO(wa o:LN)(i:Nat):Nat:=if i=0 then wa.length else o.length
def mcO(wa o:LN):Nat->LN
  | 0=>mcN wa o
  | i+1=>mcO wa o i++A9K (nlO wa o i)
def A9c(K N wa o:LN):LN:=C1s (H5 ((C2l K 0 N).take 32) 32) (mcO wa o 2)
def U1(K N wa p:LN):LN:=A68 K 1 N p++A9c K N wa (A68 K 1 N p)
def A0d(K N wa g:LN):Option (LN):=if g.length<16 then none else if A9c K N wa (g.take (g.length-16))=g.drop (g.length-16) then some (A68 K 1 N (g.take (g.length-16))) else none
theorem A48(K N wa o:LN):(A9c K N wa o).length=16:=B8b _ _
theorem A0Q(K N wa p:LN):A0d K N wa (U1 K N wa p)=some p:=by
  have h1:=A0l K 1 N p;have h2:=A48 K N wa (A68 K 1 N p);have h3:(U1 K N wa p).length-16=(A68 K 1 N p).length:=by unfold U1;rw [An];omega
  have h4:¬(U1 K N wa p).length<16:=by unfold U1;rw [An];omega
  have h5:(U1 K N wa p).take (A68 K 1 N p).length=A68 K 1 N p:=by unfold U1;rw [List.take_left]
  have h6:(U1 K N wa p).drop (A68 K 1 N p).length=A9c K N wa (A68 K 1 N p):=by unfold U1;rw [List.drop_left]
  unfold A0d;rw [if_neg h4,h3,h5,h6,if_pos E,B1o]
theorem A9d(p:LN):(B1p p).length<=p.length+16:=by rw [B0m];omega
theorem C1u(wa o:LN):(mcN wa o).length<=wa.length+o.length+32:=by have h1:=A9d (B1p wa++o);have h2:=A9d wa;rw [An] at h1;unfold mcN;omega
theorem B0n(n:Nat):(A9K n).length=8:=by simp [A9K]
theorem B5m(wa o:LN):∀i,(mcO wa o i).length=(mcN wa o).length+8*i
  | 0=>rfl
  | i+1=>by show (mcO wa o i++A9K _).length=_;rw [An,B5m wa o i,B0n];omega
theorem B5n{p:LN}(h:∀x∈p,x<256):∀x∈B1p p,x<256:=λx hx=>by
  rcases List.mem_append.1 hx with h1|h1
  . exact h x h1
  . rw [(List.mem_replicate.1 h1).2];decide
theorem B9k{wa o:LN}(hw:∀x∈wa,x<256)(ho:∀x∈o,x<256):∀i,∀x∈mcO wa o i,x<256
  | 0=>B5n λx hx=>(List.mem_append.1 hx).elim (B5n hw x) (ho x)
  | i+1=>λx hx=>(List.mem_append.1 hx).elim (B9k hw ho i x) (B2T _ x)
variable{w:LN}
theorem _root_.Go.Px.By.hi{R:Mem}{v:Value}(h:By R v w)(k:Nat)(hk:k<=w.length):By R (vHi k v) (w.take k):=by refine ⟨?_,λx hx=>h.lt x (Bz hx),by rw [Bj];have:=h.len;omega⟩;have h1:=h.rd.hiV k hk;rw [Bj,Nat.min_eq_left hk];simpa [nums] using h1
theorem B9l(v vn v2 v3:Value)(kw nw wa o:LN)(A:Mem)(hk:By A v kw)(hno:By A vn nw)(hw:By A v2 wa)(ho:By A v3 o)(hl:wa.length+o.length<=16000000):FnX prog 134 [v,vn,v2,v3] [] A λq M J=>M=[]∧By J q (A9c (H5 kw 32) (H5 nw 12) wa o):=by
 haveI:=hk.cel;haveI:=hno.cel;haveI:=hw.cel;haveI:=ho.cel;refine Co (N:=51) func134 E E E λw_=>?_;refine A8 (D7 0 1 2 3) (A1 (as_ (A0 (D7 0 1 2 3) (A1 (mv_ (mv_ ?_))))));refine lQ_ (F8 (sz:=1) E kR hw.rd) ?_;refine C6 (aS E (aS E a0)) kR (B9i v2 wa wa.length _ (hw.mono qS) qO) E ?_;rintro v16 M16 J16 hs16;haveI:=hs16.cel;rw [B5l] at hs16;refine A2 E (C8 (Mc:=M16) (R:=_) (aS E a0) kR qP (C3T v16 wa M16 _ hs16 qO) E ?_);rintro v17 M17 J17 hs17;haveI:=hs17.cel;have hp1:=A9d wa;refine as_ (A0 (E9 0 1 2 3 9) (A1 (mv_ (mv_ ?_))));refine A2 E (G6 (e:=5) (sz:=1) (by_:=1) E E kR E hs17 (ho.rd.mono qS) E7 qP (by unfold maxLen;omega) qO E λv20 B20 hs20=>?_);haveI:=hs20.cel;replace hs20:Sl 1 v20 (B1p wa++o).length (nums .u8 (B1p wa++o)) B20:=W6 hs20 (by rw [An]) (by rw [H4]);have hml:(mcN wa o).length<=_:=C1u wa o;refine A2 E (C8 (Mc:=B20) (R:=_) (aS E a0) kR qP (C3T v20 (B1p wa++o) B20 _ hs20 (by rw [An];omega)) E ?_);rintro v21 M21 J21 hs21;haveI:=hs21.cel;change Sl 1 v21 (mcO wa o 0).length (nums .u8 (mcO wa o 0)) M21 at hs21;refine as_ (A0 (E9 0 1 2 3 9) (A3 (A1 (mv_ ?_))));refine lQ_ (F8 (sz:=1) E kR hw.rd) ?_;refine mv_ ?_;refine lQ_ (F8 (sz:=1) E kR ho.rd) ?_;refine A2 E (C4 (e:=3) (sz:=1) (z:=[U7,U7]) kR (eS E (eS E e0)) (bdS 0 1 E qR (bdS 1 1 E qR bd0)) E λb26=>?_);refine lQ_ (A0r (e:=3) E kR) (mv_ (A0 (G9 0 1 9 26 27 28) (A6 ?_)));refine Z4 (B:=[(b26,blk [(vI wa.length),(vI o.length)] 3)]) qP ?_;refine E0 (α:=Nat×Value×Mem) (λy=>[(0,v),(1,vn),(9,y.2.1),(26,.slice (some ⟨b26,0,none⟩) 2 2),(27,.int .i64 2),(28,(vI y.1))]) (λy=>y.2.2) (λ_=>_) (λy=>y.1<=2∧Sl 1 y.2.1 (mcO wa o y.1).length (nums .u8 (mcO wa o y.1)) y.2.2) (λy=>2-y.1) (0,v21,M21) ⟨Am _,hs21⟩ (G9 0 1 9 26 27 28) (Cg qM) qI ?_;rintro ⟨i,u,B⟩ ⟨hi,hsl⟩;dsimp only at hi hsl ⊢;haveI:=hsl.cel;have hil:=B5m wa o i;refine A1 (lQ_ (E3 E E E) (A0 (N1 0 1 9 26 27 28 29) (A3 ?_)));refine C2 E ?_ ?_<;>intro hc
 .
  have hlt:i<2:=by simp at hc;omega
  have hnl:nlO wa o i<=16000000:=by unfold nlO;split<;>omega
  refine A4 (nx (G9 0 1 9 26 27 28) (A3 (A6 (A1 ?_))));refine lQ_ (L6 (e:=3) (i:=i) (sz:=1) E E kR kR E hlt) ?_;refine lQ_ (H1 (v:=(vI (nlO wa o i))) rfl kR Ce (by rcases (by omega:i=0∨i=1) with rfl|rfl<;>rfl)) ?_;refine as_ (A0 (N1 0 1 9 11 26 27 28) (A1 (mv_ (A0 (V4 0 1 9 11 26 27 28 32) (A6 ?_)))))
  obtain ⟨n,hne⟩:∃z,nlO wa o i=z:=⟨_,E⟩
  rw [hne] at hnl ⊢
  obtain ⟨q,hqe⟩:∃z,mcO wa o i=z:=⟨_,E⟩
  rw [hqe] at hil hsl;refine E0 (α:=Nat×Value×Mem) (λy=>[(0,v),(1,vn),(9,y.2.1),(11,(vI n)),(26,.slice (some ⟨b26,0,none⟩) 2 2),(27,.int .i64 2),(28,(vI i)),(32,(vI y.1))]) (λy=>y.2.2) (λ_=>_) (λy=>y.1<=8∧Sl 1 y.2.1 (q.length+y.1) (nums .u8 (q++(List.range y.1).map (byt ((n:Nat):Int)))) y.2.2) (λy=>8-y.1) (0,u,B) ⟨Am _,W6 hsl E qM⟩ (V4 0 1 9 11 26 27 28 32) .rfl qI ?_;rintro ⟨k,u2,B2⟩ ⟨hk8,hsl2⟩;dsimp only at hk8 hsl2 ⊢;haveI:=hsl2.cel;refine A1 (lQ_ (E3 E E E) (A0 (Q4 0 1 9 11 26 27 28 32 33) (A3 ?_)));refine C2 E ?_ ?_<;>intro hc
  .
   have hlt2:k<8:=by simp at hc;omega
   refine A4 (nx (V4 0 1 9 11 26 27 28 32) (A3 (A6 (A1 (mV_ E (aS_ E (A0 (Q4 0 1 9 11 12 26 27 28 32) (C1 (mv_ (mv_ (mv_ ?_)))))))))));refine lQ_ (A1o (a:=8) E E E E qO) ?_;refine lQ_ (B2L (k:=k) E E E hlt2) ?_;refine lQ_ (B2M E kR) ?_;refine A2 E (C4 (e:=5) (sz:=1) (z:=[zu8]) kR (eS E e0) (bdS 0 1 E qR bd0) E λb41=>?_);refine A2 E (G6 (e:=5) (sz:=1) (by_:=1) E E kR E hsl2 (Cr (n:=1) (cs:=nums .u8 [byt ((n:Nat):Int) k]) Ce qR) E7 qP (by unfold maxLen;omega) qO E λv42 B42 hs42=>?_);haveI:=hs42.cel;refine as_ (C5 (nb (nx (V4 0 1 9 11 26 27 28 32) (C1 ?_))));refine lQ_ (D2 ((k+1:Nat):Int) E E (F5 qO qO qO)) ?_;refine mv_ (C5 ?_);exact rn (k+1,v42,B42) ⟨by dsimp only;omega,W6 hs42 (by dsimp only;omega) (by dsimp only;rw [List.range_succ,List.map_append,<- Ap,H4 (ws:=q++List.map (byt ((n:Nat):Int)) (List.range k))];rfl)⟩ (by dsimp only;omega) (V4 0 1 9 11 26 27 28 32) (Ck (Ay _ _)) qI
  .
   obtain rfl:k=8:=by simp at hc;omega
   refine D6 (te (re (be E (nb (nx (G9 0 1 9 26 27 28) (C1 ?_))))));refine lQ_ (D2 ((i+1:Nat):Int) E E (F5 qO qO qO)) ?_;refine mv_ (C5 ?_);exact rn (i+1,u2,B2) ⟨by dsimp only;omega,by have e:mcO wa o (i+1)=q++A9K n:=(by rw [<- hqe,<- hne];rfl);dsimp only;rw [e];exact W6 hsl2 (by rw [An,B0n]) E⟩ (by dsimp only;omega) (G9 0 1 9 26 27 28) .rfl qI
 .
  obtain rfl:i=2:=by simp at hc;omega
  refine D6 (te (re (be E (nx (D5 0 1 9) (A1 (mv_ (mv_ ?_)))))));refine C6 (aS E (aS E (aS E a0))) kR (B46 v vn kw nw 0 _ (hk.mono qS) (hno.mono qS) qD) E ?_;rintro v47 M47 J47 ⟨rfl,h47⟩;haveI:=h47.cel;have hbl:(C2l (H5 kw 32) 0 (H5 nw 12)).length=64:=A46 _ _ _;have h48:=h47.hi 32 qO;haveI:=h48.cel;refine lQ_ (A3I (sz:=1) (a:=32) E E kR E h47.rd qO) ?_;refine mv_ ?_;refine A3J (B:=B) qP ?_
  have hby:By B u (mcO wa o 2):=⟨hsl.rd λ_ h=>h,B9k hw.lt ho.lt 2,by omega⟩
  refine C6 (aS E (aS E a0)) kR (C3V (vHi 32 v47) u ((C2l (H5 kw 32) 0 (H5 nw 12)).take 32) (mcO wa o 2) _ (h48.mono qS) (hby.mono qS)) E ?_;rintro v50 M50 J50 ⟨rfl,h50⟩;haveI:=h50.cel;refine as_ (A0 (D1 8) (A9 ?_));exact ⟨_,[],[],H2 E E,qZ,E,h50.mono qS⟩
theorem C1v(v vn v2 v3:Value)(kw nw wa o:LN)(A:Mem)(hk:By A v kw)(hno:By A vn nw)(hw:By A v2 wa)(ho:By A v3 o)(hl:wa.length+o.length<=16000000):FnX prog 92 [v,vn,v2,v3] [] A λq M J=>M=[]∧By J q (U1 (H5 kw 32) (H5 nw 12) wa o):=by haveI:=hk.cel;haveI:=hno.cel;haveI:=hw.cel;haveI:=ho.cel;refine Co (N:=21) func92 E E E λw_=>?_;refine A8 (D7 0 1 2 3) (A1 (as_ (A0 (D7 0 1 2 3) (A1 (mv_ (mv_ (mv_ ?_)))))));refine C6 (aS E (aS E (aS E (aS E a0)))) kR (B0k v vn v3 kw nw o 1 _ (hk.mono qS) (hno.mono qS) (ho.mono qS) qD) E ?_;rintro v13 M13 J13 ⟨b13,rfl,rfl,h13⟩;have hsl:=A0l (H5 kw 32) 1 (H5 nw 12) o;refine as_ (A0 (D7 0 1 2 9) (A1 (mv_ (mv_ (mv_ (mv_ (mv_ ?_)))))));refine C6 (aS E (aS E (aS E (aS E a0)))) kR (B9l v vn v2 _ kw nw wa (A68 (H5 kw 32) 1 (H5 nw 12) o) _ (hk.mono qS) (hno.mono qS) (hw.mono qS) (h13.mono qS) qO) E ?_;rintro v19 M19 J19 ⟨rfl,h19⟩;haveI:=h19.cel;have htl:=A48 (H5 kw 32) (H5 nw 12) wa (A68 (H5 kw 32) 1 (H5 nw 12) o);refine A2 E (A2U (e:=5) (sz:=1) (by_:=1) E E kR E (A0J (h13.rd.mono qS) hsl E) (h19.rd.mono qS) qO (by unfold maxLen;omega) qO E λv20 B20 hs20=>?_);haveI:=hs20.cel;refine as_ (A0 (D1 8) (A9 ?_));exact ⟨_,[],B20,H2 E E,Cj qP qZ,E,⟨A0J (hs20.rd λx hx=>by simp [hx]) (by unfold U1;rw [An,hsl]) (by unfold U1;rw [H4]),λx hx=>(List.mem_append.1 hx).elim (h13.lt x) (h19.lt x),by unfold U1;rw [An];omega⟩⟩
theorem C1w(v vn v2 v3:Value)(kw nw wa o:LN)(A:Mem)(hk:By A v kw)(hno:By A vn nw)(hw:By A v2 wa)(ho:By A v3 o)(h16:o.length<16):FnX prog 102 [v,vn,v2,v3] [] A λq M J=>M=[]∧∃u,q=.tuple #[u,.bool (A0d (H5 kw 32) (H5 nw 12) wa o).isSome]∧By J u ((A0d (H5 kw 32) (H5 nw 12) wa o).getD []):=by
 haveI:=hk.cel;haveI:=hno.cel;haveI:=hw.cel;haveI:=ho.cel;refine Co (N:=37) func102 E E E λw_=>?_;refine A8 (D7 0 1 2 3) (A1 (as_ (as_ (A0 (D7 0 1 2 3) (A1 (mv_ ?_))))));refine lQ_ (F8 (sz:=1) E kR ho.rd) ?_;refine lQ_ (D2 (((o.length:Nat):Int)-16) E E (V6 qO qO qO)) ?_;refine as_ (A0 (E9 0 1 2 3 10) (A3 ?_));refine C9 (.range 17) [(0,0),(1,0),(2,0),(3,0),(4,0),(5,0),(6,0),(7,0),(8,0),(11,0),(12,0),(13,0),(14,1),(9,2),(10,1),(15,0),(16,0)] kR kR λhs=>?_;refine fm_ ?_;refine fQ_ E (F6 true E E (ltT qO)) ?_;refine fm_ ?_;refine L0 hs ?_;refine L0 hs ?_;refine L0 hs ?_;refine L0 hs ?_;refine L0 hs ?_;refine L0 hs ?_;refine L0 hs ?_;refine L0 hs ?_;refine L0 hs ?_;refine W3 hs ?_;refine A7x hs E E E E E E ?_;refine W3 hs ?_;refine L0 hs ?_;refine fQ_ E (H6 E E) (E4 (E9 0 1 3 10 30) ?_);refine E2 E ?_;refine A1 (as_ (as_ (A0 (D0 8 9) (A9 (tr ?_)))));refine ⟨_,[],[],A2w E E E,qZ,E,vS,?_,?_⟩
 . unfold A0d;rw [if_pos h16];rfl
 . unfold A0d;rw [if_pos h16];exact By.nil
theorem C1x(v vn v2 v3:Value)(kw nw wa o:LN)(A:Mem)(hk:By A v kw)(hno:By A vn nw)(hw:By A v2 wa)(ho:By A v3 o)(hl:wa.length+o.length<=16000000)(h16:¬o.length<16):FnX prog 102 [v,vn,v2,v3] [] A λq M J=>M=[]∧∃u,q=.tuple #[u,.bool (A0d (H5 kw 32) (H5 nw 12) wa o).isSome]∧By J u ((A0d (H5 kw 32) (H5 nw 12) wa o).getD []):=by
 haveI:=hk.cel;haveI:=hno.cel;haveI:=hw.cel;haveI:=ho.cel;refine Co (N:=37) func102 E E E λw_=>?_;refine A8 (D7 0 1 2 3) (A1 (as_ (as_ (A0 (D7 0 1 2 3) (A1 (mv_ ?_))))));refine lQ_ (F8 (sz:=1) E kR ho.rd) ?_;refine lQ_ (D2 ((o.length-16:Nat):Int) E E (V6 qO qO qO)) ?_;have hhi:=ho.hi (o.length-16) qO;have hlo:=ho.lo (o.length-16) qO;haveI:=hhi.cel;haveI:=hlo.cel;refine as_ (A0 (E9 0 1 2 3 10) (A3 ?_));refine C9 (.range 17) [(0,0),(1,0),(2,0),(3,0),(4,0),(5,0),(6,0),(7,0),(8,0),(11,0),(12,0),(13,0),(14,1),(9,2),(10,1),(15,0),(16,0)] kR kR λhs=>?_;refine fm_ ?_;refine fQ_ E (F6 false E E (ltF qO)) ?_;refine fM_ E E (fG_ E qm_ (fG_ E qm_ (fG_ E qm_ (fG_ E qm_ (fG_ E qm_ ?_)))));refine fG_ E (A3I (sz:=1) (a:=o.length-16) E E kR E ho.rd qO) ?_;refine fG_ E qm_ (fG_ E qm_ ?_);refine fG_ E (Z0 (sz:=1) (a:=o.length-16) E E kR E ho.rd qO) ?_;refine fH_ E (P2 E kR (hlo.rd.mono qS)) ?_;refine A2J E E E E (aS E (aS E (aS E (aS E a0)))) kR (B9l v vn v2 (vHi (o.length-16) v3) kw nw wa (o.take (o.length-16)) _ (hk.mono qS) (hno.mono qS) (hw.mono qS) (hhi.mono qS) (by rw [Bj];omega)) E ?_;rintro v23 M23 J23 ⟨rfl,h23⟩;haveI:=h23.cel;refine fH_ E (P2 E kR (h23.rd.mono qS)) (fG_ E (A8H E E E E h23.lt hlo.lt) (fQ_ E (E8 E E) (E4 (E9 0 1 3 10 30) ?_)));refine C2 E ?_ ?_<;>intro hc
 .
  have hne:¬A9c (H5 kw 32) (H5 nw 12) wa (o.take (o.length-16))=o.drop (o.length-16):=by simpa using hc
  have he:A0d (H5 kw 32) (H5 nw 12) wa o=none:=by unfold A0d;rw [if_neg h16,if_neg hne]
  refine A1 (as_ (as_ (A0 (D0 8 9) (A9 (tr ?_)))));exact ⟨_,[],[],A2w E E E,qZ,E,vS,by rw [he];rfl,by rw [he];exact By.nil⟩
 .
  have heq:A9c (H5 kw 32) (H5 nw 12) wa (o.take (o.length-16))=o.drop (o.length-16):=by simpa using hc
  have he:A0d (H5 kw 32) (H5 nw 12) wa o=some (A68 (H5 kw 32) 1 (H5 nw 12) (o.take (o.length-16))):=by unfold A0d;rw [if_neg h16,if_pos heq]
  refine A4 (nx (D7 0 1 3 10) (A1 (mv_ (mv_ (mv_ (mv_ ?_))))));refine lQ_ (A3I (sz:=1) (a:=o.length-16) E E kR E ho.rd qO) ?_;refine C6 (aS E (aS E (aS E (aS E a0)))) kR (B78 v vn (vHi (o.length-16) v3) kw nw (o.take (o.length-16)) 1 _ (hk.mono qS) (hno.mono qS) (hhi.mono qS) qD) E ?_;rintro v36 M36 J36 ⟨rfl,h36⟩;haveI:=h36.cel;refine as_ (as_ (A0 (D0 8 9) (A9 ?_)));exact ⟨_,[],[],A2w E E E,qZ,E,v36,by rw [he];rfl,by rw [he];exact h36.mono qS⟩
theorem C1y(v vn v2 v3:Value)(kw nw wa o:LN)(A:Mem)(hk:By A v kw)(hno:By A vn nw)(hw:By A v2 wa)(ho:By A v3 o)(hl:wa.length+o.length<=16000000):FnX prog 102 [v,vn,v2,v3] [] A λq M J=>M=[]∧∃u,q=.tuple #[u,.bool (A0d (H5 kw 32) (H5 nw 12) wa o).isSome]∧By J u ((A0d (H5 kw 32) (H5 nw 12) wa o).getD []):=by
  by_cases h:o.length<16
  . exact C1w v vn v2 v3 kw nw wa o A hk hno hw ho h
  . exact C1x v vn v2 v3 kw nw wa o A hk hno hw ho hl h

def n12:LN:=List.replicate 12 0
theorem B5o(w:LN):H5 (H5 w 32) 32=H5 w 32:=A6U (L4 w 32)
variable{a b:LN}
theorem B0o{x y:LN}(ha:a.length<18446744073709551616)(hb:b.length<18446744073709551616)(h:mark a++x=mark b++y):a=b∧x=y:=by
  unfold mark at h;rw [Ap,Ap] at h;obtain ⟨h1,h2⟩:=A6p (A0A (.inr E)) (A0A (.inr E)) (show dec a.length++58::(a++x)=dec b.length++58::(b++y) from h)
  have h3:a.length=b.length:=by have:=congrArg dv h1;rwa [A1E ha,A1E hb] at this
  exact List.append_inj h2 h3
theorem B5p{x:Int}(h:Tmo (A3M x a b)):a.length<18446744073709551616∧b.length<18446744073709551616:=by
  have h1:(mark a++mark b).length<=1099511627776:=h.tl;rw [An] at h1;have h2:a.length<=(mark a).length:=by simp [mark];omega
  have h3:b.length<=(mark b).length:=by simp [mark];omega
  omega
theorem B0p{x y:Int}{c d:LN}(h1:Tmo (A3M x a b))(h2:Tmo (A3M y c d))(h:A3M x a b=A3M y c d):x=y∧a=c∧b=d:=by
  obtain ⟨l1,l2⟩:=B5p h1;obtain ⟨l3,l4⟩:=B5p h2;unfold A3M at h;injection h with h1 h2 h3 h4
  obtain ⟨h5,h6⟩:=B0o l1 l3 h3;obtain ⟨h7,-⟩:=B0o (x:=[]) (y:=[]) l2 l4 (by rw [List.append_nil,List.append_nil];exact h6);exact ⟨(List.cons.inj h2).1,h5,h7⟩
def A9e(ts:List Tm)(w wa wg t:LN):Prop:=wg.length=32∧∃i j:Nat,plc wg ts.length=some i∧plc w ts.length=some j∧ts[i]? = some (A3M ((j:Nat):Int) wa t)
theorem A9e.inj{ts:List Tm}(ht:Tok ts){w wa wg t t':LN}(h:A9e ts w wa wg t)(h':A9e ts w wa wg t'):t=t':=by obtain ⟨-,i,j,h1,h2,h3⟩:=h;obtain ⟨-,i',j',g1,g2,g3⟩:=h';rw [h1] at g1;obtain rfl:=Cc g1;rw [h3] at g3;have m1:=ht.tmo _ (As h3);have e:=Cc g3;exact (B0p m1 (e▸m1) e).2.2
open Classical in
def B5q(ts:List Tm)(w wa wg:LN):Option (LN):=if h:∃t,A9e ts w wa wg t then some (Classical.choose h) else none
variable{ts:List Tm}{wa:LN}
theorem A49(ht:Tok ts){wg t:LN}(h:A9e ts w wa wg t):B5q ts w wa wg=some t:=by
  unfold B5q
  have h2:∃t,A9e ts w wa wg t:=⟨t,h⟩
  rw [dif_pos h2,(Classical.choose_spec h2).inj ht h]
theorem A29{wg:LN}(h:∀t,¬A9e ts w wa wg t):B5q ts w wa wg=none:=dif_neg λ⟨t,ht⟩=>h t ht
def A3a(s:Ps)(w wa wg:LN):Option (LN):=if s.real then A0d (H5 w 32) n12 wa wg else B5q s.ts w wa wg
variable{s:Ps}
theorem A53(h:s.real=true)(w wa wg:LN):A3a s w wa wg=A0d (H5 w 32) n12 wa wg:=if_pos h
theorem A3Q(h:s.real=false)(w wa wg:LN):A3a s w wa wg=B5q s.ts w wa wg:=if_neg (by rw [h];decide)
def B1D(s:Ps)(w wa wb:LN):Ps:=if s.real then s else B5Z s w λx=>A3M x wa wb
def C1z(s:Ps)(w wa wb:LN):LN:=if s.real then U1 (H5 w 32) n12 wa wb else B6U s w λx=>A3M x wa wb
theorem B9m(h:s.real=true)(w wa wb:LN):B1D s w wa wb=s:=if_pos h
theorem B9n(h:s.real=false)(w wa wb:LN):B1D s w wa wb=B5Z s w λx=>A3M x wa wb:=if_neg (by rw [h];decide)
theorem B0q(h:s.real=true)(w wa wb:LN):C1z s w wa wb=U1 (H5 w 32) n12 wa wb:=if_pos h
theorem B9o(h:s.real=false)(w wa wb:LN):C1z s w wa wb=B6U s w λx=>A3M x wa wb:=if_neg (by rw [h];decide)
def X9(ts:List Tm):Prop:=∀t∈ts,t.kind=6->∃x a b,t=A3M x a b∧(∀y∈b,y<256)∧b.length<=16777216
theorem X9.nil:X9 []:=λt h=>by cases h
theorem X9.add{ts:List Tm}(h:X9 ts){t:Tm}(ht:t.kind=6->∃x a b,t=A3M x a b∧(∀y∈b,y<256)∧b.length<=16777216):X9 (add ts t):=by
  unfold Go.Proofs.YtgpjndfgjjlhaaaGreatDoor.add;split
  . exact h
  . intro u hu hk;rcases List.mem_append.1 hu with hu|hu
    . exact h u hu hk
    . rw [List.mem_singleton.1 hu] at hk ⊢;exact ht hk
theorem X9.not(h:X9 ts){t:Tm}(ht:t.kind≠6):X9 (Go.Proofs.YtgpjndfgjjlhaaaGreatDoor.add ts t):=h.add λhk=>absurd hk ht
theorem X9.rd(h:X9 ts)(w:LN):X9 (rdT ts w):=by
  unfold rdT;split
  . exact h
  . exact h.not (show (2:Nat)≠6 by decide)
theorem C1A{s':Ps}{wb:LN}(ht:Tok s.ts)(hw:Kok s w)(ha:∀x∈wa,x<256)(hb:∀x∈wb,x<256)(la:wa.length<=16777216)(lb:wb.length<=16777216)(he:Pext (B1D s w wa wb) s')(ht':Tok s'.ts)(hl:s'.ts.length<=1048576):A3a s' w wa (C1z s w wa wb)=some wb:=by
  cases hr:s.real with
  | true =>
    rw [B9m hr] at he;rw [A53 (he.real.trans hr),B0q hr,A0Q]
  | false =>
    rw [B9n hr] at he;have hr':s'.real=false:=he.real.trans hr;obtain ⟨l,e⟩:=he.ts;obtain ⟨i,hi,rfl⟩:=hw hr
    have hlen:s.ts.length<=1048576:=by
      have hge:∃l,add (rdT s.ts (bts ((i:Nat):Int))) (A3M ((rdI s.ts (bts ((i:Nat):Int)):Nat):Int) wa wb)=rdT s.ts (bts ((i:Nat):Int))++l:=A6S _ _;obtain ⟨lx,hge⟩:=hge;have:=congrArg List.length hge;rw [An] at this;have h2:=B2Y (ts:=s.ts) (w:=bts ((i:Nat):Int));have h3:s'.ts.length=(add (rdT s.ts (bts ((i:Nat):Int))) (A3M ((rdI s.ts (bts ((i:Nat):Int)):Nat):Int) wa wb)).length+l.length:=by rw [e,An];rfl
      omega
    obtain ⟨a1,a2⟩:=A4E hi hlen;rw [A3Q hr',B9o hr];unfold B5Z at e;unfold B6U;dsimp only at e;rw [a1,a2] at e ⊢;obtain ⟨l0,g1,g2,g3,g4⟩:=A4C (B3e (x:=((i:Nat):Int)) (by unfold i64;omega) ha hb la lb) ht;have g5:s'.ts[at_ s.ts (A3M ((i:Nat):Int) wa wb)]? = some (A3M ((i:Nat):Int) wa wb):=by rw [e];exact A4D g3
    have g6:=(Ac.1 g5).1;refine A49 ht' ⟨A0U _ qD,_,i,?_,?_,g5⟩
    . rw [A2m,show ∀z:Nat,z<s'.ts.length->u64 ((z:Nat):Int)=z from λz hz=>by unfold u64;omega,if_pos g6];exact g6
    . have hi':i<s'.ts.length:=by rw [e,g1,An,An];omega
      rw [A2m,show u64 ((i:Nat):Int)=i by unfold u64;omega,if_pos hi']
set_option maxHeartbeats 1000000 in
theorem C1B(pb bt bm:Nat)(s:Ps)(hr:s.real=false)(v v2 v3:Value)(w wa wg:LN)(j:Nat)(MP A:Mem)(hP:PrmT pb bt bm s MP)(hMP:∀x,x∈MP->x∈A)(hn:s.ts.length<=1048576)(hSel:X9 s.ts)(hv:By A v w)(h2:By A v2 wa)(h3:By A v3 wg)(hj:plc w s.ts.length=some j)(hG:Glb A):FnX prog 68 [(vP pb),v,v2,v3] [] A λq M J=>M=[]∧∃u,q=.tuple #[u,.bool (A3a s w wa wg).isSome]∧By J u ((A3a s w wa wg).getD []):=by
 obtain ⟨sv,B,MT,rfl,hby,hT⟩:=hP.ex;have hmd:md s.real=1:=by rw [hr];rfl
 have hpb:=hMP _ qK;rw [hmd] at hpb;have hsub:∀x,x∈MT->x∈A:=λx hx=>hMP x (by simp [hx]);obtain ⟨⟨ge0,gf0,h0⟩,⟨ge1,gf1,h1⟩,⟨ge4,gf4,h4⟩⟩:=hG;haveI:=hv.cel;haveI:=h2.cel;haveI:=h3.cel;haveI:=hby.cel;have h2l:=h2.len;refine Co (N:=96) func68 E E E λw_=>?_;refine A8 (D7 0 1 2 3) (A1 (aS_ E (aS_ E (A0 (D7 0 1 2 3) (A3 (A1 (mV_ E (lQ_ (F0 (e:=72) E E kR) (A0 (E9 0 1 2 3 17) ?_)))))))));refine C7 E ?_;refine A4 (nx (D7 0 1 2 3) (A3 (A1 (mV_ E (lQ_ (F4 E) (lQ_ (qf_ 0 0) ?_))))));refine lQ_ (H1 E kR (mA hpb) qR) ?_;refine lQ_ (F6 false E E (eqF qD)) ?_;refine A0 (E9 0 1 2 3 22) ?_;refine C7 E ?_;refine A4 (nx (D7 0 1 2 3) (A1 (mV_ E (lQ_ (F4 E) (lQ_ (qf_ 3 3) ?_)))));refine lQ_ (H1 E kR (mA hpb) qR) ?_;refine mv_ ?_;refine D8 (aS E (aS E a0)) kR (A00 bt bm s.ts v3 wg MT _ hT (λx hx=>qS _ (hsub x hx)) hn (h3.rd.mono qS) h3.lt h3.max) E ?_
 obtain ⟨i,hie⟩:∃z,(plc wg s.ts.length).getD 0=z:=⟨_,E⟩
 rw [hie];refine mV_ E (lQ_ (A0x E) (lQ_ (A0n E) (aS_ E (aS_ E (A0 (G9 0 1 2 3 10 11) (A1 (mV_ E (lQ_ (F4 E) (lQ_ (qf_ 3 3) ?_)))))))));refine lQ_ (H1 E kR (mA hpb) qR) ?_;refine mv_ ?_;refine C6 (aS E (aS E a0)) kR (A2R bt bm s.ts _ MT _ hT (λx hx=>qS _ (hsub x hx))) E ?_;rintro v46 M46 J46 ⟨rfl,rfl,c46,ok46,rfl,hg1,hg2⟩;obtain ⟨vo,t,rfl,hvo,hz,htk,hok,hno⟩:=A2S hT.tok.tmo hg1 hg2;haveI:=hvo.cel;refine mV_ E (lQ_ (A0x E) (lQ_ (A0n E) ?_));refine A2 E (C3 (cs:=[zu8,vS,.string ByteArray.empty,U7]) kR E λb12=>?_);refine A2 E (A5 (vs:=tmc t.kind vo t.text t.n) E E E kR qR (by intro c hc;simp only [tmc,Cz,Da,or_false] at hc;rcases hc with rfl|rfl|rfl|rfl<;>first|rfl|exact hvo.one) Cv ?_);dsimp only [tmc];refine as_ (A0 (G9 0 1 2 3 11 12) (A3 ?_));refine F9 ([]) (_) true (.range 22) (zp 0 [0,0,0,0,0,0,0,0,0,1,0,0,0,0,1,0,1,0,0,2,0,0]) kR kR qP λhs K n0 hKm hKs hKn=>?_;refine kM_ E E (kQ_ E (V7 E) (km_ ?_));refine A31 (t:=51) E (λhb=>?_) (λhb=>?_)
 .
  have hpn:plc wg s.ts.length=none:=by cases hq:plc wg s.ts.length with|none=>rfl|some z=>rw [hq] at hb;cases hb
  have hno_:A3a s w wa wg=none:=(A3Q hr _ _ _).trans (A29 λt_ ⟨z0,z1,z2,z3,z4,z5⟩=>by rw [hpn] at z3;cases z3);refine A0u hs E E E E E E ?_;refine A0u hs E E E E E E ?_;refine A0u hs E E E E E E ?_;refine kQ_ E (H6 E E) (km_ ?_);refine A0u hs E E E E E E ?_;refine A6l hs E E E E E E ?_;refine A0u hs E E E E E E ?_;refine kQ_ E (H6 E E) (km_ ?_);refine A0u hs E E E E E E ?_;refine A6l hs E E E E E E ?_;refine A0u hs E E E E E E ?_;refine A6l hs E E E E E E ?_;refine A0u hs E E E E E E ?_;refine A0u hs E E E E E E ?_;refine B6v E E E E E E ?_;refine A0u hs E E E E E E ?_;refine kQ_ E (H6 E E) (I0 (D5 2 12 70) ?_);refine E2 E ?_;refine A1 (as_ (as_ (A0 (D0 8 9) (A9 (tr ?_)))));exact ⟨_,[],[],A2w E E E,qZ,E,vS,by rw [hno_];rfl,by rw [hno_];exact By.nil⟩
 .
  have hi:plc wg s.ts.length=some i:=by cases hq:plc wg s.ts.length with|none=>rw [hq] at hb;cases hb|some z=>rw [hq] at hie;exact congrArg some hie
  have hil:=(A7O hi).1;have hok2:ok46=true:=(hg1 ⟨by omega,by omega⟩).1;obtain ⟨-,ht2⟩:=hok hok2;rw [Int.toNat_natCast] at ht2;refine A4t hs E E E E qm_ E ?_;refine A4t hs E E E E (F8 (sz:=1) E kR h3.rd) E ?_;refine A4t hs E E E E (E3 E E E) E ?_;refine kQ_ E (E8 E E) (km_ ?_);refine A31 (t:=56) E (λhb=>?_) (λhb=>?_)
  .
   have h32:wg.length≠32:=by intro e;rw [e] at hb;exact absurd hb qD
   have hno_:A3a s w wa wg=none:=(A3Q hr _ _ _).trans (A29 λt_ ⟨z0,z1,z2,z3,z4,z5⟩=>h32 z0);refine A0u hs E E E E E E ?_;refine A6l hs E E E E E E ?_;refine A0u hs E E E E E E ?_;refine kQ_ E (H6 E E) (km_ ?_);refine A0u hs E E E E E E ?_;refine A6l hs E E E E E E ?_;refine A0u hs E E E E E E ?_;refine A6l hs E E E E E E ?_;refine A0u hs E E E E E E ?_;refine A0u hs E E E E E E ?_;refine B6v E E E E E E ?_;refine A0u hs E E E E E E ?_;refine kQ_ E (H6 E E) (I0 (D5 2 12 70) ?_);refine E2 E ?_;refine A1 (as_ (as_ (A0 (D0 8 9) (A9 (tr ?_)))));exact ⟨_,[],[],A2w E E E,qZ,E,vS,by rw [hno_];rfl,by rw [hno_];exact By.nil⟩
  .
   have h32:wg.length=32:=by simp at hb;omega
   refine A4t hs E E E E (qf_ 0 0) E ?_;refine B6u hs E E E E (by first|exact λx hx=>by rw [Ap];exact Ai _ hx|exact qS) hKs ql_ E ?_;refine A4t hs E E E E (E3 E E E) E ?_;refine kQ_ E (E8 E E) (km_ ?_);refine A31 (t:=61) E (λhb=>?_) (λhb=>?_)
   .
    have hk6:t.kind≠6:=by intro e;rw [e] at hb;exact absurd hb qD
    have hno_:A3a s w wa wg=none:=(A3Q hr _ _ _).trans (A29 λt_ ⟨z0,z1,z2,z3,z4,z5⟩=>by rw [hi] at z3;obtain rfl:=Cc z3;rw [ht2] at z5;rw [Cc z5] at hk6;exact hk6 E);refine A0u hs E E E E E E ?_;refine A6l hs E E E E E E ?_;refine A0u hs E E E E E E ?_;refine A6l hs E E E E E E ?_;refine A0u hs E E E E E E ?_;refine A0u hs E E E E E E ?_;refine B6v E E E E E E ?_;refine A0u hs E E E E E E ?_;refine kQ_ E (H6 E E) (I0 (D5 2 12 70) ?_);refine E2 E ?_;refine A1 (as_ (as_ (A0 (D0 8 9) (A9 (tr ?_)))));exact ⟨_,[],[],A2w E E E,qZ,E,vS,by rw [hno_];rfl,by rw [hno_];exact By.nil⟩
   .
    have hk6:t.kind=6:=by simp at hb;omega
    obtain ⟨x,a,b,rfl,hb256,hbl⟩:=hSel t (As ht2) hk6;have hmt:=hT.tok.tmo _ (As ht2);have hmb:B256 (A1p [a,b]):=B4N a b▸hmt.text;have hml:(A1p [a,b]).length<=1099511627776:=B4N a b▸hmt.tl;replace hvo:Rd A 1 vo 1 (A13 [x]):=hvo;refine A4t hs E E E E (qf_ 1 1) E ?_;refine B6u hs E E E E (by first|exact λx hx=>by rw [Ap];exact Ai _ hx|exact qS) hKs ql_ E ?_;refine A4t hs E E E E (G4 (sz:=1) (a:=0) E E kR E hvo (show 0<1 by decide)) E ?_;refine B6u hs E E E E (by first|exact λx hx=>by rw [Ap];exact Ai _ hx|exact qS) hKs (Z8 (j:=0) (u:=.int .i64 x) (hvo.mono qS) E kR qR) E ?_;refine A4t hs E E E E qm_ E ?_;refine A4t hs E E E E qm_ E ?_
    refine C2z [] _ rfl rfl rfl rfl (Ah _) (λ_ h=>by cases h) λw0=>(R8 (aS rfl (aS rfl a0)) kR (B7Y pb bt bm 1 _ sv s.ts v w j MT _ hT (λx hx=>qS _ (hsub x hx)) (qS _ hpb) hn (hv.mono qS) hj) rfl λ_=>?_)
    dsimp only [Cw,List.append_eq];refine A4t hs E E E E (E3 E E E) E ?_;refine kQ_ E (E8 E E) (I0 (D5 2 12 70) ?_);refine C2 E ?_ ?_<;>intro hc
    .
     have hxj:x≠((j:Nat):Int):=by intro e;rw [e] at hc;simp [H8] at hc
     have hno_:A3a s w wa wg=none:=(A3Q hr _ _ _).trans (A29 λt_ ⟨z0,z1,z2,z3,z4,z5⟩=>by rw [hi] at z3;obtain rfl:=Cc z3;rw [hj] at z4;obtain rfl:=Cc z4;rw [ht2] at z5;exact hxj (List.cons.inj (Tm.mk.inj (Cc z5)).2.1).1);refine A1 (as_ (as_ (A0 (D0 8 9) (A9 (tr ?_)))));exact ⟨_,[],[],A2w E E E,qZ,E,vS,by rw [hno_];rfl,by rw [hno_];exact By.nil⟩
    .
     obtain rfl:x=((j:Nat):Int):=by simp [H8] at hc;exact hc
     refine A4 (nx (D0 2 12) (A1 (lQ_ (qf_ 2 2) ?_)));refine lQ_ ql_ ?_;rw [show (A3M ((j:Nat):Int) a b).text=A1p [a,b] from B4N a b];refine C6 (aS E a0) kR (B0R [a,b] hmb hml _ (qS _ h4)) E ?_;rintro r74 M74 J74 ⟨rfl,v74,rfl,hsl⟩;haveI:=hsl.cel;refine mV_ E (lQ_ (A0x E) (lQ_ (A0n E) (as_ (as_ (A0 (D5 2 14 15) (A3 ?_))))));refine Z4 (B:=M74) qP ?_;have hrd:=hsl.rd (R:=M74) λ_ h=>h;refine C9 (.range 15) (zp 0 [0,0,0,0,0,0,0,0,0,0,1,0,1,0,0]) kR kR λhs=>?_;refine fM_ E E (fQ_ E (F6 false E E (neF E)) (fM_ E E (fG_ E qm_ ?_)));refine fG_ E (F8 (sz:=1) E kR hrd) ?_;refine fG_ E (F6 false E E (neF E)) (fQ_ E (E8 E E) (fM_ E E (fG_ E qm_ ?_)));refine fG_ E (G4 (sz:=1) (a:=0) E E kR E hrd (show _<2 by decide)) ?_;refine fH_ E (Z8 (j:=0) (u:=.string (txt a)) (hrd.mono qS) E kR qR) ?_;refine fG_ E qm_ (fH_ E (P2 E kR (h2.rd.mono qS)) ?_);have ha256:∀y∈a,y<256:=λy hy=>hmb.lt y (by simp [A1p,mark,hy]);refine fG_ E (A8H E E E E ha256 h2.lt) (fQ_ E (E8 E E) (E4 (D0 14 91) ?_));refine C2 E ?_ ?_<;>intro hc
     .
      have hne:a≠wa:=by simpa using hc
      have hno_:A3a s w wa wg=none:=(A3Q hr _ _ _).trans (A29 λt_ ⟨z0,z1,z2,z3,z4,z5⟩=>by rw [hi] at z3;obtain rfl:=Cc z3;rw [ht2] at z5;have e5:=Cc z5;exact hne (B0p hmt (e5▸hmt) e5).2.1);refine A1 (as_ (as_ (A0 (D0 8 9) (A9 (tr ?_)))));exact ⟨_,[],[],A2w E E E,qZ,E,vS,by rw [hno_];rfl,by rw [hno_];exact By.nil⟩
     .
      obtain rfl:a=wa:=by simpa using hc
      have hye:A3a s w a wg=some b:=(A3Q hr _ _ _).trans (A49 hT.tok ⟨h32,i,j,hi,hj,ht2⟩);refine A4 (nx (D1 14) (A1 (mv_ ?_)));refine lQ_ (G4 (sz:=1) (a:=1) E E kR E hrd (show _<2 by decide)) ?_;refine lQ_ (Z8 (j:=1) (u:=.string (txt b)) (hrd.mono qS) E kR qR) ?_;refine A2 E (A4v (e:=5) E E hb256 kR kR kR E λv95 B95 hs95=>?_);refine A3J (B:=B95) qP ?_;refine as_ (as_ (A0 (D0 8 9) (A9 ?_)));exact ⟨_,[],[],A2w E E E,qZ,E,_,by rw [hye];rfl,by rw [hye];exact ⟨hs95.mono qS,hb256,hbl⟩⟩
theorem B5r(A:Mem):FnX prog 93 [] [] A λq M J=>M=[]∧By J q n12:=by refine Co (N:=2) func93 E E E λw_=>?_;refine A8 kn (A1 (as_ (A0 kn (A1 ?_))));refine A2 E (B2k (a:=12) (e:=5) (k:=.u8) (by_:=1) E E kR E E qO qO E λv1 B1 hs1=>?_);refine as_ (A0 (D1 0) (A9 ?_));exact ⟨_,[],B1,H2 E E,Cj qP qZ,E,⟨hs1.rd λx hx=>by simp [hx],qD,qD⟩⟩
theorem C1C(pb:Nat)(s:Ps)(hr:s.real=true)(v v2 v3:Value)(w wa wb:LN)(MP A:Mem)(hP:Prm pb s MP)(hv:By A v w)(h2:By A v2 wa)(h3:By A v3 wb)(hl:wa.length+wb.length<=16000000):FnX prog 62 [(vP pb),v,v2,v3] MP A λq M J=>Prm pb s M∧By J q (U1 (H5 w 32) n12 wa wb):=by obtain ⟨sv,bt,bm,B,MT,rfl,hby,hT⟩:=hP.ex;haveI:=hv.cel;haveI:=hby.cel;haveI:=h2.cel;haveI:=h3.cel;refine Co (N:=38) func62 E E E λw_=>?_;refine A8 (D7 0 1 2 3) (A1 (aS_ E (A0 (D7 0 1 2 3) (A3 (A1 (mV_ E (lQ_ (F0 (e:=72) E E kR) (A0 (E9 0 1 2 3 10) ?_))))))));refine C7 E ?_;refine A4 (nx (D7 0 1 2 3) (A3 (A1 (mV_ E (lQ_ (F4 E) (lQ_ (qf_ 0 0) ?_))))));refine lQ_ ql_ ?_;refine lQ_ (F6 true E E (eqT (by rw [hr];rfl))) ?_;refine A0 (E9 0 1 2 3 15) ?_;refine E2 E ?_;refine A1 (mv_ ?_);refine C6 (aS E (aS E a0)) kR (Y5 v w 32 _ (hv.mono qS) qD) E ?_;rintro r1 M1 J1 ⟨rfl,k1⟩;haveI:=k1.cel;refine C6 a0 kR (B5r _) E ?_;rintro r2 M2 J2 ⟨rfl,k2⟩;haveI:=k2.cel;refine mv_ (mv_ ?_);refine C6 (aS E (aS E (aS E (aS E a0)))) kR (C1v r1 r2 v2 v3 (H5 w 32) n12 wa wb _ (k1.mono qS) (k2.mono qS) (h2.mono qS) (h3.mono qS) hl) E ?_;rintro r3 M3 J3 ⟨rfl,k3⟩;rw [B5o,show H5 n12 12=n12 from rfl] at k3;haveI:=k3.cel;refine as_ (A0 (D1 8) (A9 (tr ?_)));exact ⟨_,(pb,blk [.int .u8 (md s.real),sv,.int .i64 (((s.n:Nat):Int)),(vP bt)] 72)::(B++MT),[],H2 E E,(Ci (Cj (B:=[_]) qP (Cj qP (Ch qP)))),⟨sv,bt,bm,B,MT,E,hby,hT⟩,k3.mono qS⟩
theorem C1D(pb:Nat)(s:Ps)(hr:s.real=true)(v v2 v3:Value)(w wa wg:LN)(MP A:Mem)(hP:Prm pb s MP)(hMP:∀x,x∈MP->x∈A)(hv:By A v w)(h2:By A v2 wa)(h3:By A v3 wg)(hl:wa.length+wg.length<=16000000):FnX prog 68 [(vP pb),v,v2,v3] [] A λq M J=>M=[]∧∃u,q=.tuple #[u,.bool (A3a s w wa wg).isSome]∧By J u ((A3a s w wa wg).getD []):=by obtain ⟨sv,bt,bm,B,MT,rfl,hby,hT⟩:=hP.ex;have hpb:=hMP _ qK;haveI:=hv.cel;haveI:=hby.cel;haveI:=h2.cel;haveI:=h3.cel;refine Co (N:=96) func68 E E E λw_=>?_;refine A8 (D7 0 1 2 3) (A1 (aS_ E (aS_ E (A0 (D7 0 1 2 3) (A3 (A1 (mV_ E (lQ_ (F0 (e:=72) E E kR) (A0 (E9 0 1 2 3 17) ?_)))))))));refine C7 E ?_;refine A4 (nx (D7 0 1 2 3) (A3 (A1 (mV_ E (lQ_ (F4 E) (lQ_ (qf_ 0 0) ?_))))));refine lQ_ (H1 E kR (mA hpb) qR) ?_;refine lQ_ (F6 true E E (eqT (by rw [hr];rfl))) ?_;refine A0 (E9 0 1 2 3 22) ?_;refine E2 E ?_;refine A1 (mv_ ?_);refine C6 (aS E (aS E a0)) kR (Y5 v w 32 _ (hv.mono qS) qD) E ?_;rintro r1 M1 J1 ⟨rfl,k1⟩;haveI:=k1.cel;refine C6 a0 kR (B5r _) E ?_;rintro r2 M2 J2 ⟨rfl,k2⟩;haveI:=k2.cel;refine mv_ (mv_ ?_);refine C6 (aS E (aS E (aS E (aS E a0)))) kR (C1y r1 r2 v2 v3 (H5 w 32) n12 wa wg _ (k1.mono qS) (k2.mono qS) (h2.mono qS) (h3.mono qS) hl) E ?_;rintro r3 M3 J3 ⟨rfl,u3,rfl,k3⟩;rw [B5o,show H5 n12 12=n12 from rfl] at k3 ⊢;haveI:=k3.cel;refine lQ_ (A0x E) (lQ_ (A0n E) (as_ (as_ (A0 (D0 8 9) (A9 (tr ?_))))));exact ⟨_,[],[],A2w E E E,qZ,E,u3,by rw [A53 hr],by rw [A53 hr];exact k3.mono qS⟩
theorem C1E(pb:Nat)(s:Ps)(v v2 v3:Value)(w wa wb:LN)(MP A:Mem)(hP:Prm pb s MP)(hn:s.ts.length<1048576)(hv:By A v w)(hya:By A v2 wa)(hyb:By A v3 wb)(hl:wa.length+wb.length<=16000000)(hG:Glb A):FnX prog 62 [(vP pb),v,v2,v3] MP A λq M J=>Prm pb (B1D s w wa wb) M∧By J q (C1z s w wa wb):=by
  cases hr:s.real with
  | true=>rw [B9m hr,B0q hr];exact C1C pb s hr v v2 v3 w wa wb MP A hP hv hya hyb hl
  | false =>
    rw [B9n hr,B9o hr];obtain ⟨bt,bm,hT⟩:=hP.t
    exact (B3f pb bt bm s hr v v2 v3 w wa wb MP A hT hn hv hya hyb hG).mono λq M J h=>⟨h.1.p,h.2⟩
theorem B5s(pb:Nat)(s:Ps)(v v2 v3:Value)(w wa wg:LN)(MP A:Mem)(hP:Prm pb s MP)(hMP:∀x,x∈MP->x∈A)(hn:s.ts.length<=1048576)(hSel:X9 s.ts)(hv:By A v w)(h2:By A v2 wa)(h3:By A v3 wg)(hj:Kok s w)(hl:wa.length+wg.length<=16000000)(hG:Glb A):FnX prog 68 [(vP pb),v,v2,v3] [] A λq M J=>M=[]∧∃u,q=.tuple #[u,.bool (A3a s w wa wg).isSome]∧By J u ((A3a s w wa wg).getD []):=by
  cases hr:s.real with
  | true=>exact C1D pb s hr v v2 v3 w wa wg MP A hP hMP hv h2 h3 hl
  | false =>
    obtain ⟨bt,bm,hT⟩:=hP.t;obtain ⟨i,hi,rfl⟩:=hj hr;exact C1B pb bt bm s hr v v2 v3 _ wa wg i MP A hT hMP hn hSel hv h2 h3 (by rw [A2m,show u64 ((i:Nat):Int)=i by unfold u64;omega,if_pos hi]) hG

end Go.Proofs.YtgpjndfgjjlhaaaGreatDoor
namespace Go.Px
theorem FnX.amb{P:Program}{f:FuncId}{args:List Value}{M A A':Mem}{post:Value->Mem->Mem->Prop}(hA:∀x,x∈A->x∈A')(h:FnX P f args M A post):FnX P f args M A' post:=by
  intro w hw
  have h1:St ⟨P,w,M.map Prod.fst,A,0⟩ M [] w:=⟨hw.os,hw.tape,hw.output,hw.size,hw.frame,λb o hb=>hw.mem b o (by
    rcases List.mem_append.1 hb with hb|hb
    . exact Ae _ hb
    . exact Ai _ (hA _ hb)),hw.nodup,hw.own,hw.sepJ,λb o hb=>hw.sepA b o (hA _ hb),hw.old⟩
  refine Calls.mono (h w h1) ?_;rintro e w' ⟨r,M',J',rfl,hp,hs⟩;refine ⟨r,M',J',E,hp,⟨hs.os,hs.tape,hs.output,hs.size,hs.frame,λb o hb=>?_,hs.nodup,hs.own,hs.sepJ,hw.sepA,hs.old⟩⟩;rcases List.mem_append.1 hb with hb|hb
  . exact hs.mem b o (Ae _ hb)
  . rcases List.mem_append.1 hb with hb|hb
    . exact hs.mem b o (Ai _ (Ae _ hb))
    . have h2:=hw.sepA b o hb;rw [hs.frame b h2.2 h2.1];exact hw.mem b o (Ai _ hb)
end Go.Px

namespace Go.Proofs.YtgpjndfgjjlhaaaGreatDoor
open Go.Px
variable{P:Program}{fn:Func}{R:Mem}{v z:Value}
theorem C1F{l:Env}{t1 t2 u x b1 b2 n1 n2:Nat}{y1 y2:TypeId}{c1 c2:List Value}{e1 e2:TypeId}{f1 f2:Nat×Nat}(h:fn.results=#[.cell t1 y1,.cell t2 y2,.tmp u,.tmp x])(h1:lk l t1=some (vP b1))(h2:lk l t2=some (vP b2))(hu:lk l u=some v)(hx:lk l x=some z)(ht1:A59 P y1=some n1)(ht2:A59 P y2=some n2)
    (hb1:(b1,Obj.cells c1.toArray e1 f1)∈R) (hb2:(b2,Obj.cells c2.toArray e2 f2)∈R) (hn1:c1.length=n1) (hn2:c2.length=n2):Res P fn l R (.tuple #[.agg c1.toArray,.agg c2.toArray,v,z]):=λN a w ha hw=>by
  obtain ⟨d1,g1,g2,g3⟩:=R5 ht1;obtain ⟨d2,k1,k2,k3⟩:=R5 ht2;have l1:=run_loadVar_row (P:=P) w b1 e1 y1 c1.toArray f1 d1 (hw b1 _ hb1) g1 (by cases d1<;>simp_all [TypeDesc.isRow]) (by rw [g3,<- hn1];simp);have l2:=run_loadVar_row (P:=P) w b2 e2 y2 c2.toArray f2 d2 (hw b2 _ hb2) k1 (by cases d2<;>simp_all [TypeDesc.isRow]) (by rw [k3,<- hn2];simp);simp [results,h,ha.slot t1 _ h1,ha.slot t2 _ h2,ha.slot u _ hu,ha.slot x _ hx,asAddr,l1,l2]
def K3(s:Ps)(r:Rsd):Rsd:={ r with sk:=A1i (H3 s r.own) r.sk,sn:=(r.sn+1)%4294967296 }
def B1q(s:Ps)(r:Rsd)(w:LN):LN:=A50 w (A67 (I5 s r.own) r.prev r.sn)
def W5(s:Ps)(r:Rsd)(w t:LN):Ps:=B1D (Z7 (H3 s r.own) r.sk) (X7 (H3 s r.own) r.sk) (B1q s r w) t
def A3b(s:Ps)(r:Rsd)(w t:LN):LN:=C1z (Z7 (H3 s r.own) r.sk) (X7 (H3 s r.own) r.sk) (B1q s r w) t
theorem A06(s:Ps)(key:LN):(Z7 s key).ts.length<=s.ts.length+3∧(Z7 s key).n=s.n∧(Z7 s key).real=s.real:=by have h1:=A2W s key [] A3W 2;have h2:=A1J s key [] A3W 2;have e:([]:List (LN)).length=0:=rfl;unfold Z7;exact ⟨by omega,h2.2.1,h2.1⟩
theorem B5t(pb:Nat)(s:Ps)(r:Rsd)(vo vt vr vk vl vs vw vx:Value)(w tx:LN)(MP A:Mem)(hP:Prm pb s MP)(hn:s.ts.length+200<=1040000)(hr:RsR A r vo vt vr vk vl vs)(hsk:0<r.sk.length)(hw:By A vw w)(hwl:w.length<=1000000)(hx:By A vx tx)(hxl:tx.length<=1000000)(hG:Glb A):FnX prog 27 [(vP pb),.agg (rsC vo vt vr vk vl vs r).toArray,vw,vx] MP A λq M J=>∃q1 q2 q3,q=.tuple #[q1,.agg #[q2,(vU r.prev),(vU r.sn)],q3,U7]∧Prm pb (W5 s r w tx) M∧RsV (J++A) q1 (K3 s r)∧By (J++A) q2 (I5 s r.own)∧By (J++A) q3 (A3b s r w tx):=by
 haveI:=hr.own.cel;haveI:=hr.their.cel;haveI:=hr.root.cel;haveI:=hr.sk.cel;haveI:=hr.tk.cel;haveI:=hw.cel;haveI:=hx.cel;have hst:=hr.st;obtain ⟨sb,u0,rows0,rfl,hsb,hrd0,hrw0⟩:=hst;have f1:=A3r s r.own;have f2:=A06 (H3 s r.own) r.sk;have f3:=C1h s r.own;unfold rsC;refine Co (N:=52) func27 E E E λw_=>?_;refine A8 (D7 0 1 2 3) (A1 ?_);refine A2 E (bx_ λb5=>?_);refine A2 E (C3 (cs:=[vS,vS,vS,vS,D3,vS,D3,D3,.pointer none]) kR E λb8=>?_);refine A2 E (C3 (cs:=[vS,D3,D3]) kR E λb9=>?_);refine aS_ E (aS_ E (A0 (G9 0 2 3 5 8 9) (A3 (A1 (lQ_ (qf_ 3 3) (lQ_ (qf_ 3 0) ?_))))));refine lQ_ ql_ ?_;refine lQ_ (F8 (sz:=1) E kR hr.sk.rd) ?_;refine lQ_ (F6 false E E (eqF qO)) ?_;refine A0 (N1 0 2 3 5 8 9 19) ?_;refine C7 E ?_;refine A4 (nx (G9 0 2 3 5 8 9) ?_);refine F9 (MP) (_) true (.range 11) [(0,0),(1,0),(2,1),(4,0),(5,1),(6,0),(7,0),(8,1),(3,3),(9,3),(10,4),(11,2)] kR kR qP λhs K n0 hKm hKs hKn=>?_;refine kM_ E E (kQ_ E (qf_ 0 0) ?_);refine I8 hs E hKs ql_ ?_;refine kQ_ E (qf_ 7 7) ?_;refine I8 hs E hKs ql_ ?_;refine kQ_ E (qf_ 3 3) (kQ_ E (qf_ 4 1) ?_);refine I8 hs E hKs ql_ ?_
 refine A03 [⟨3,25,none,MP,λv B R=>Prm pb (H3 s r.own) B∧By R v (I5 s r.own)⟩,⟨9,31,none,[],λv B R=>B=[]∧∃u,v=.agg #[u,(vU r.prev),(vU r.sn)]∧By R u (I5 s r.own)⟩,⟨10,12,none,[],λv B _=>∃b,v=(vP b)∧B=[(b,blk [vS,D3,D3] 55)]⟩] ([(b9,blk [vS,D3,D3] 55),(b8,blk [vS,vS,vS,vS,D3,vS,D3,D3,.pointer none] 47),(b5,blk [vo,vt,vr,vk,(vU r.sn),vl,(vU r.tn),(vU r.prev),(vP sb)] 47)]) (λbs=>[bs 3,bs 9,bs 10]) (hKn E) (by simp [X6,A1e]) (show ∀m∈([MP,[],[]]:List Mem),∀x∈m,K x.1 from A7 (hKm) (A7 gn0 (A7 gn0 (K5)))) kR (λ_=>by first|rfl|kernel_rfl)
  (A7 (λ_ _ _ _ h ⟨p1,p2⟩=>⟨p1,p2.mono h⟩) (A7 (λ_ _ _ _ h ⟨p1,u,e,p2⟩=>⟨p1,u,e,p2.mono h⟩) (A7 gM (K5)))) nd_ nd_ dl_
  (gC ?_ (gC ?_ (gC ?_ (K5)))) ?_
 . intro _ _ R _ _ hb _ _ _;dsimp only [Gc.inp];refine C8 (Mc:=MP) (R:=[]) (aS E (aS E (a0))) kR qM (A1W pb s vo r.own MP _ hP qO (hr.own.mono (λx hx=>by have:=hb x (by simp [hx]);simp [this])) (hG.sub (λx hx=>by have:=hb x (by simp [hx]);simp [this]))) E ?_;rintro v25 M25 J25 ⟨hP25,h25⟩;exact ⟨_,E,by simpa using hP25,h25.mono λx hx=>by simp [hx]⟩
 . intro _ _ _ _ _ _ _ _ ha;dsimp only [Gc.inp];have g3:=gx 0 ha;dsimp only at g3;obtain ⟨-,h25⟩:=g3;haveI:=h25.cel;dsimp only [Q9,List.map,Cy,Cw];exact Cp (E6 (place:=λx=>#[(0,1),(1,1),(2,1)][x]?) (z:=[vS,D3,D3]) (λ_=>by kernel_rfl) (eS E (eS E (eS E e0))) (bdS 0 1 E qR (bdS 1 1 E qR (bdS 2 1 E qR bd0)))) E ⟨_,E,E,_,E,h25⟩
 .
  intros
  dsimp only [Gc.inp]
  exact C3 (cs:=[vS,D3,D3]) kR E λb=>⟨_,E,b,E,E⟩
 intro vs bs Jn0 hφ hKK;clear hKK;have g3:=gy 0 hφ;have g9:=gy 1 hφ;have g10:=gy 2 hφ;dsimp only at g3 g9 g10;clear hφ;dsimp only [Q9,X6,List.foldr,List.map,Cy,Cw];generalize bs 3=B25,bs 9=B31,bs 10=B12,vs 3=u25,vs 9=u31,vs 10=u12 at *;obtain ⟨hP25,-⟩:=g3;obtain ⟨rfl,v25,rfl,h25⟩:=g9;obtain ⟨b12,rfl,rfl⟩:=g10;haveI:=h25.cel;refine K6 E E E (A5 (vs:=[v25,(vU r.prev),(vU r.sn)]) E E E kR qR (A7 h25.one al2) Cv ?_);refine I0 (N1 0 2 3 5 8 9 12) (A1 ?_);refine lQ_ (qw_ 9) ?_;refine C6 (aS E a0) kR (FnX.amb qS (A9a r vo vt vr vk vl _ A hr)) E ?_;rintro v33 M33 J33 ⟨cb,rfl,hSt⟩;obtain ⟨u5,rows5,BS,rfl,hs5,hw5⟩:=hSt.ex;unfold rsC;refine A2 E (A5 (vs:=[vo,vt,vr,vk,(vU r.sn),vl,(vU r.tn),(vU r.prev),(vP cb)]) E E E kR qR (A7 hr.own.one (A7 hr.their.one (A7 hr.root.one (A7 hr.sk.one (A7 E (A7 hr.tk.one al3)))))) Cv ?_);refine A0 (N1 0 2 3 5 8 9 12) ?_;refine Z4 (B:=(cb,blk [u5] 136)::BS) qP ?_;have hrd5:=hs5.rd (R:=BS) λ_ h=>h;refine A1 (mV_ E (lQ_ (qf_ 3 3) ?_));refine lQ_ (H7 (n:=2) E kR (by first|exact Ce|exact mA (by assumption)) Cu) ?_;refine A2 E (C8 (Mc:=B25) (R:=_) (aS E (aS E (a0))) kR qP (A43 pb (H3 s r.own) vk r.sk r.sn B25 _ hP25 (hr.sk.mono qS) qO hG.up) E ?_);rintro v38 M38 J38 ⟨k1,k2,rfl,hP38,hb1,hb2⟩;haveI:=hb1.cel;haveI:=hb2.cel;refine mV_ E (lQ_ (A0x E) (lQ_ (A0n E) ?_));refine A2 E (C3 (cs:=[vS,D3]) kR E λb14=>?_);refine as_ ?_;refine A2 E (A5 (vs:=[k2,.int .u32 (((r.sn+1)%4294967296:Nat):Int)]) E E E kR qR (A7 hb2.one (A7 E K5)) Cv ?_);refine A0 (Q4 0 2 3 5 8 9 12 13 14) (A1 ?_);refine lQ_ (qw_ 2) ?_;refine lQ_ (qf_ 3 3) ?_;refine A2 E (P1 (vs:=[k2,.int .u32 (((r.sn+1)%4294967296:Nat):Int)]) (cs':=[vo,vt,vr,k2,.int .u32 (((r.sn+1)%4294967296:Nat):Int),vl,(vU r.tn),(vU r.prev),(vP cb)]) E E E kR (by exact (show 3+2<=9 by decide)) (A7 hb2.one (A7 E K5)) E Cv ?_);refine A0 (V4 0 2 3 5 8 9 12 13) ?_;refine F9 (M38++[(b8,blk [vS,vS,vS,vS,D3,vS,D3,D3,.pointer none] 47)]) (_) true [0,1,2,3,4,5,6,7,8,9,11,12] [(0,1),(1,1),(2,0),(3,0),(4,0),(5,1),(7,0),(6,2),(8,2),(9,2),(10,2),(11,0),(12,0)] kR kR qP λhs K n0 hKm hKs hKn=>?_;refine I8 hs E hKs (qw_ 9) ?_;refine I8 hs E hKs (qw_ 3) ?_;refine kM_ E E (kM_ E E (km_ ?_));refine I8 hs E hKs (qw_ 3) ?_;refine km_ ?_
 refine G8 [] _ rfl rfl (Ah _) (λ_ h=>by cases h) λw0=>(D9 (aS rfl (aS rfl a0)) kR (B4V vw v25 w (I5 s r.own) r.prev r.sn _ (hw.mono qS) (h25.mono qS) qO hr.prev hr.sn) rfl ?_)
 rintro v49 M49 J49 ⟨rfl,h49⟩ _;haveI:=h49.cel;dsimp only [Cw,List.append_eq]
 refine G8 M38 _ E E qP (λx hx=>hKm x (Ae _ hx)) λw0=>(C8 (Mc:=M38) (R:=_) (aS E (aS E (aS E (aS E (a0))))) kR qP (C1E pb (Z7 (H3 s r.own) r.sk) k1 v49 vx (X7 (H3 s r.own) r.sk) (B1q s r w) tx M38 _ hP38 qO (hb1.mono qS) (h49.mono qS) (hx.mono qS) (by unfold B1q;rw [A3s,A26];omega) hG.up) E ?_)
 rintro v51 M51 J51 ⟨hP51,h51⟩ hKx51;haveI:=h51.cel
 refine G8 [(b8,blk [vS,vS,vS,vS,D3,vS,D3,D3,.pointer none] 47)] _ E E qP (λx hx=>hKm x (Ai _ hx)) λw0=>(A5 (vs:=[vo,vt,vr,k2,.int .u32 (((r.sn+1)%4294967296:Nat):Int),vl,(vU r.tn),(vU r.prev),(vP cb)]) E E E kR qR (A7 hr.own.one (A7 hr.their.one (A7 hr.root.one (A7 hb2.one (A7 E (A7 hr.tk.one al3)))))) Cv ?_)
 intro _;dsimp only [Cy,Cw,List.append_eq];refine K6 E E E (A5 (vs:=[v25,(vU r.prev),(vU r.sn)]) E E E kR qR (A7 h25.one al2) Cv ?_);refine kQ_ E (G2 E) (kQ_ E (G2 E) (I0 (D7 8 9 10 11) (A9 ?_)));exact ⟨_,M51,[],C1F (n1:=9) (n2:=3) E E E E E kR kR Ce Ce qR qR,Ci (Ch qP),_,v25,v51,E,hP51,⟨vo,vt,vr,k2,vl,_,E,⟨hr.own.mono qS,hr.their.mono qS,hr.root.mono qS,hb2.mono qS,hr.tk.mono qS,⟨cb,u5,rows5,E,by simp,hrd5.mono qS,hw5.mono skT qS⟩,Ad _ qD,hr.tn,hr.prev,hr.sks⟩⟩,h25.mono qS,h51.mono qS⟩

def ahE(N n:Nat):Int:=if n<N then 8 else if 16<n-N then 7 else 0
def ahX(s:Ps)(key:LN)(N n:Nat)(of:LN)(sks:List Skp):Ast:=if ahE N n=0 then rep (aSt of) (n-N) (s,key,N,sks) else (s,key,N,sks)
variable{N n:Nat}
theorem B5u(h:ahE N n=0):N<=n∧n-N<=16:=by
  unfold ahE at h;split at h
  . cases h
  . split at h
    . cases h
    . omega
theorem A3u(h1:N<=n)(h2:n-N<=16):ahE N n=0:=by unfold ahE;rw [if_neg qO,if_neg qO]
variable{s:Ps}{key:LN}
theorem B5v{of:LN}{sks:List Skp}(h:ahE N n≠0):ahX s key N n of sks=(s,key,N,sks):=if_neg h
theorem A1k{of:LN}{sks:List Skp}(h:ahE N n=0):ahX s key N n of sks=rep (aSt of) (n-N) (s,key,N,sks):=if_pos h
theorem C3W(of:LN)(i:Nat)(x:Ast):(rep (aSt of) i x).1.n=x.1.n∧(rep (aSt of) i x).1.real=x.1.real:=by
  induction i with
  | zero=>exact ⟨E,E⟩
  | succ i ih =>
    have h:=A06 (rep (aSt of) i x).1 (rep (aSt of) i x).2.1;exact ⟨h.2.1.trans ih.1,h.2.2.trans ih.2⟩
theorem C1G(s:Ps)(key:LN)(N n:Nat)(of:LN)(sks:List Skp)(hN:N<4294967296)(hn:n<4294967296)(hl:sks.length<=1000) :
    (ahX s key N n of sks).1.ts.length<=s.ts.length+48∧(ahX s key N n of sks).1.n=s.n∧(ahX s key N n of sks).2.2.1<4294967296∧(ahX s key N n of sks).2.2.2.length<=1000:=by
  by_cases h:ahE N n=0
  . obtain ⟨h1,h2⟩:=B5u h;rw [A1k h];have a:=B4T of (n-N) (s,key,N,sks);have b:=C3W of (n-N) (s,key,N,sks);have c:=B75 of (n-N) (s,key,N,sks);have d:=B9c of (n-N) (s,key,N,sks) hl;dsimp only at a b c d;exact ⟨by omega,b.1,by omega,d⟩
  . rw [B5v h];exact ⟨by dsimp only;omega,E,hN,hl⟩
theorem B5w(pb sb:Nat)(s:Ps)(kv vof:Value)(key of:LN)(N n:Nat)(sks:List Skp)(R MP MS A:Mem)(hP:Prm pb s MP)(hS:Sto R sb sks MS)(hR:∀x,x∈R->x∈A)(hk:By R kv key)(hof:By R vof of)(hl:sks.length<=1000)(hn32:n<4294967296)(hn:s.ts.length<=1000000)(hG:Glb A) :
    FnX prog 70 [(vP pb),.agg #[kv,(vU N)],vof,(vU n),(vP sb)] (MP++MS) A λq M J=>∃MP' MS' kv',M=MP'++MS'∧q=.tuple #[.agg #[kv',(vU ((ahX s key N n of sks).2.2.1))],.int .i64 (ahE N n)]∧Prm pb (ahX s key N n of sks).1 MP'∧Sto (J++R) sb (ahX s key N n of sks).2.2.2 MS'∧By (J++R) kv' (ahX s key N n of sks).2.1:=by
  by_cases h:ahE N n=0
  . obtain ⟨h1,h2⟩:=B5u h;rw [A1k h,h];exact B1l pb sb s kv vof key of N n sks R MP MS A hP hS hR hk hof hl h1 h2 hn32 hn hG
  . rw [B5v h];unfold ahE at h ⊢;by_cases h1:n<N
    . rw [if_pos h1];refine (FnV.frame (B1m _ _ kv vof key of N n _ (hk.mono λx hx=>Ai _ (hR x hx)) (hof.mono λx hx=>Ai _ (hR x hx)) h1)).mono λq M J ⟨e1,e2,e3⟩=>?_;subst e1;subst e2;subst e3;exact ⟨MP,MS,kv,E,E,hP,hS,hk⟩
    . rw [if_neg h1] at h ⊢;by_cases h2:16<n-N
      . rw [if_pos h2];refine (FnV.frame (B1n _ _ kv vof key of N n _ (hk.mono λx hx=>Ai _ (hR x hx)) (hof.mono λx hx=>Ai _ (hR x hx)) qO hn32 h2)).mono λq M J ⟨e1,e2,e3⟩=>?_;subst e1;subst e2;subst e3;exact ⟨MP,MS,kv,E,E,hP,hS,hk⟩
      . rw [if_neg h2] at h;exact absurd E h
def alW(w hk:LN)(hp hn:Nat):LN:=A50 w (A67 hk hp hn)
def A0W(r:Rsd)(hk:LN):Bool:=!(decide (hk=r.their))||decide (r.tk=[])
def opA(s:Ps)(r:Rsd)(hp:Nat):Ast:=if r.tk=[] then (s,r.tk,r.tn,r.sks) else ahX s r.tk r.tn hp r.their r.sks
def A9f(r:Rsd)(hp:Nat):Int:=if r.tk=[] then 0 else ahE r.tn hp
def C1H(x:Ast)(r:Rsd)(hk:LN):Ps×Rsd:=(A44 x.1 r.root r.own hk,⟨r.own,hk,A89 x.1 r.root r.own hk,r.sk,r.sn,A8s x.1 r.root r.own hk,0,r.prev,x.2.2.2⟩)
def opB(s:Ps)(r:Rsd)(hk:LN)(hp:Nat):Ps×Rsd:=if A0W r hk=true then C1H (opA s r hp) r hk else (s,r)
def opC(x:Ps×Rsd)(hn:Nat):Ast:=ahX x.1 x.2.tk x.2.tn hn x.2.their x.2.sks
def opD(x:Ps×Rsd)(hn:Nat):Ps:=Z7 (opC x hn).1 (opC x hn).2.1
def A5u(x:Ps×Rsd)(hn:Nat):LN:=X7 (opC x hn).1 (opC x hn).2.1
def opG(r:Rsd)(x:Ps×Rsd)(hn:Nat):Rsd:=⟨r.own,x.2.their,x.2.root,r.sk,r.sn,A1i (opC x hn).1 (opC x hn).2.1,((opC x hn).2.2.1+1)%4294967296,r.prev,(opC x hn).2.2.2⟩
def opF(s:Ps)(r:Rsd):Ps×Rsd:=(A44 (E5 s) r.root (F3 s) r.their,⟨F3 s,r.their,A89 (E5 s) r.root (F3 s) r.their,A8s (E5 s) r.root (F3 s) r.their,0,r.tk,r.tn,r.sn,r.sks⟩)
def opZ(b:Bool)(s:Ps)(r:Rsd):Ps×Rsd:=if b=true then opF s r else (s,r)
def T8(s:Ps)(r:Rsd)(w hk:LN)(hp hn:Nat)(g:LN):Ps×Rsd×Int×LN :=
  match A5s r.sks hk hn with
  | some k=>match A3a s k (alW w hk hp hn) g with
    | none=>(s,r,6,[])
    | some t=>(s,⟨r.own,r.their,r.root,r.sk,r.sn,r.tk,r.tn,r.prev,A5Z r.sks hk hn⟩,0,t)
  | none=>if A0W r hk=true∧A9f r hp≠0 then ((opA s r hp).1,r,A9f r hp,[]) else
    if ahE (opB s r hk hp).2.tn hn≠0 then ((opC (opB s r hk hp) hn).1,r,ahE (opB s r hk hp).2.tn hn,[]) else
    match A3a (opD (opB s r hk hp) hn) (A5u (opB s r hk hp) hn) (alW w hk hp hn) g with
    | none=>(opD (opB s r hk hp) hn,r,6,[])
    | some t=>((opZ (A0W r hk) (opD (opB s r hk hp) hn) (opG r (opB s r hk hp) hn)).1,(opZ (A0W r hk) (opD (opB s r hk hp) hn) (opG r (opB s r hk hp) hn)).2,0,t)
variable{x:Ps×Rsd}
section
variable{s:Ps}{r:Rsd}{w hk:LN}{hp hn:Nat}{g t k:LN}
theorem C3X(h:A5s r.sks hk hn=some k)(h2:A3a s k (alW w hk hp hn) g=none):T8 s r w hk hp hn g=(s,r,6,[]):=by unfold T8;rw [h];dsimp only;rw [h2]
theorem C1I(h:A5s r.sks hk hn=some k)(h2:A3a s k (alW w hk hp hn) g=some t):T8 s r w hk hp hn g=(s,⟨r.own,r.their,r.root,r.sk,r.sn,r.tk,r.tn,r.prev,A5Z r.sks hk hn⟩,0,t):=by unfold T8;rw [h];dsimp only;rw [h2]
theorem C1J(h:A5s r.sks hk hn=none)(h1:A0W r hk=true)(h2:A9f r hp≠0):T8 s r w hk hp hn g=((opA s r hp).1,r,A9f r hp,[]):=by unfold T8;rw [h];dsimp only;rw [if_pos ⟨h1,h2⟩]
theorem oR_n(h:A5s r.sks hk hn=none)(hx:opB s r hk hp=x)(h1:A0W r hk=true->A9f r hp=0)(h2:ahE x.2.tn hn≠0):T8 s r w hk hp hn g=((opC x hn).1,r,ahE x.2.tn hn,[]):=by unfold T8;rw [h];dsimp only;rw [if_neg (λh3=>h3.2 (h1 h3.1)),hx,if_pos h2]
theorem C5B(h:A5s r.sks hk hn=none)(hx:opB s r hk hp=x)(h1:A0W r hk=true->A9f r hp=0)(h2:ahE x.2.tn hn=0)(h3:A3a (opD x hn) (A5u x hn) (alW w hk hp hn) g=none):T8 s r w hk hp hn g=(opD x hn,r,6,[]):=by unfold T8;rw [h];dsimp only;rw [if_neg (λh3=>h3.2 (h1 h3.1)),hx,if_neg (λh=>h h2),h3]
theorem A3R(h:A5s r.sks hk hn=none)(hx:opB s r hk hp=x)(h1:A0W r hk=true->A9f r hp=0)(h2:ahE x.2.tn hn=0)(h3:A3a (opD x hn) (A5u x hn) (alW w hk hp hn) g=some t):T8 s r w hk hp hn g=((opZ (A0W r hk) (opD x hn) (opG r x hn)).1,(opZ (A0W r hk) (opD x hn) (opG r x hn)).2,0,t):=by unfold T8;rw [h];dsimp only;rw [if_neg (λh3=>h3.2 (h1 h3.1)),hx,if_neg (λh=>h h2),h3]
end
theorem A3S{l:Env}{t u x b:Nat}{ty:TypeId}{cs:List Value}{e:TypeId}{fr:Nat×Nat}(h:fn.results=#[.cell t ty,.tmp u,.tmp x])(hv:lk l t=some (vP b))(hu:lk l u=some v)(hx:lk l x=some z)(ht:A59 P ty=some n)
    (hb:(b,Obj.cells cs.toArray e fr)∈R) (hn:cs.length=n):Res P fn l R (.tuple #[.agg cs.toArray,v,z]):=λN a w ha hw=>by
  obtain ⟨dsc,h1,h2,h3⟩:=R5 ht;have hl:=run_loadVar_row (P:=P) w b e ty cs.toArray fr dsc (hw b _ hb) h1 (by cases dsc<;>simp_all [TypeDesc.isRow]) (by rw [h3,<- hn];simp);simp [results,h,ha.slot t _ hv,ha.slot u _ hu,ha.slot x _ hx,asAddr,hl]

variable{r:Rsd}{hp:Nat}
theorem B5x{hk:LN}(h:A0W r hk=true):opB s r hk hp=C1H (opA s r hp) r hk:=if_pos h
theorem B5y{hk:LN}(h:A0W r hk=false):opB s r hk hp=(s,r):=if_neg (by rw [h];decide)
theorem B0r(h:r.tk=[]):opA s r hp=(s,r.tk,r.tn,r.sks):=if_pos h
theorem A5a(h:r.tk≠[]):opA s r hp=ahX s r.tk r.tn hp r.their r.sks:=if_neg h
theorem A9g(h:r.tk=[]):A9f r hp=0:=if_pos h
theorem A3c(h:r.tk≠[]):A9f r hp=ahE r.tn hp:=if_neg h
theorem C1K{b:Bool}(h:b=true)(s:Ps)(r:Rsd):opZ b s r=opF s r:=if_pos h
theorem C1L{b:Bool}(h:b=false)(s:Ps)(r:Rsd):opZ b s r=(s,r):=if_neg (by rw [h];decide)
theorem C1M(s:Ps)(r:Rsd)(hp:Nat)(hN:r.tn<4294967296)(hn:hp<4294967296)(hl:r.sks.length<=1000) :
    (opA s r hp).1.ts.length<=s.ts.length+48∧(opA s r hp).1.n=s.n∧(opA s r hp).2.2.1<4294967296∧(opA s r hp).2.2.2.length<=1000:=by
  unfold opA;split
  . exact ⟨by dsimp only;omega,E,hN,hl⟩
  . exact C1G s r.tk r.tn hp r.their r.sks hN hn hl
theorem len0{l:LN}:(decide ((l.length:Int)=0))=decide (l=[]):=by
  cases l with
  | nil=>rfl
  | cons a l=>simp only [List.length_cons];rw [decide_eq_false qO,decide_eq_false qM]
set_option maxHeartbeats 2000000 in
theorem C1N(pb:Nat)(s:Ps)(r:Rsd)(vo vt vr vk vl vs vw vh vg:Value)(w hk g:LN)(hp hn:Nat)(MP A:Mem)(hP:Prm pb s MP)(hl:s.ts.length+500<=1000000)(hsn:s.n<1000000000)(hr:RsR A r vo vt vr vk vl vs)(hw:By A vw w)(hh:By A vh hk)(hwl:w.length+hk.length<=1000000)(hhp:hp<4294967296)(hhn:hn<4294967296)(hg:By A vg g)(hgl:g.length<=10000000)(hSel:X9 s.ts)(hK1:∀k,A5s r.sks hk hn=some k->Kok s k)(hS2:X9 (opD (opB s r hk hp) hn).ts)(hK2:Kok (opD (opB s r hk hp) hn) (A5u (opB s r hk hp) hn))(hG:Glb A):FnX prog 32 [(vP pb),.agg (rsC vo vt vr vk vl vs r).toArray,vw,.agg #[vh,(vU hp),(vU hn)],vg] MP A λq M J=>∃q1 q2,q=.tuple #[q1,q2,.int .i64 (T8 s r w hk hp hn g).2.2.1]∧Prm pb (T8 s r w hk hp hn g).1 M∧RsV (J++A) q1 (T8 s r w hk hp hn g).2.1∧By (J++A) q2 (T8 s r w hk hp hn g).2.2.2:=by
 haveI:=hr.own.cel;haveI:=hr.their.cel;haveI:=hr.root.cel;haveI:=hr.sk.cel;haveI:=hr.tk.cel;haveI:=hw.cel;haveI:=hh.cel;haveI:=hg.cel;have hst:=hr.st;obtain ⟨sb,u0,rows0,rfl,hsb,hrd0,hrw0⟩:=hst;unfold rsC;refine Co (N:=181) func32 E E E λw_=>?_;refine A8 (E9 0 1 2 3 4) (A1 ?_);refine A2 E (bx_ λb6=>?_);refine A2 E (bx_ λb8=>?_);refine A2 E (C3 (cs:=[vS,vS,vS,vS,D3,vS,D3,D3,.pointer none]) kR E λb10=>?_);refine as_ (as_ (A0 (G9 0 2 4 6 8 10) (A1 (mv_ ?_))));refine lQ_ (qw_ 3) ?_;refine C6 (aS E (aS E a0)) kR (B4V vw vh w hk hp hn _ (hw.mono qS) (hh.mono qS) qO hhp hhn) E ?_;rintro v31 M31 J31 ⟨rfl,h31⟩;haveI:=h31.cel;change By _ v31 (alW w hk hp hn) at h31;have hal:(alW w hk hp hn).length<=2000000:=by unfold alW;rw [A3s,A26];omega
 refine aS_ E (A0 (G9 0 4 6 8 10 13) (A3 (A1 (lQ_ (qf_ 8 8) ?_))));refine lQ_ ql_ ?_;refine lQ_ (qf_ 0 0) ?_;refine lQ_ ql_ ?_;refine lQ_ (qf_ 2 2) ?_;refine lQ_ ql_ ?_;refine C6 (aS E (aS E (aS E a0))) kR (B73 sb u0 vh rows0 r.sks hk hn _ (mA hsb) (hrd0.mono qS) (hrw0.mono skT qS) (by have:=hr.sks;omega) (hh.mono qS)) E ?_;rintro v39 M39 J39 ⟨rfl,u39,rfl,h39⟩;haveI:=h39.cel;refine mV_ E (lQ_ (A0x E) (lQ_ (A0n E) (as_ (as_ (A0 (V4 0 4 6 8 10 13 14 15) (A1 (mv_ (A0 (V4 0 4 6 8 10 13 14 42) ?_))))))));refine C2 E ?_ ?_<;>intro hc
 .
  obtain ⟨k,hgk⟩:∃k,A5s r.sks hk hn=some k:=Option.isSome_iff_exists.1 hc;rw [hgk,Option.getD_some] at h39;refine A1 (mv_ (mv_ (mv_ (mv_ ?_))));refine C6 (aS E (aS E (aS E (aS E a0)))) kR (B5s pb s u39 v31 vg k (alW w hk hp hn) g MP _ hP (by intro x hx;simp [hx]) qO hSel (h39.mono qS) (h31.mono qS) (hg.mono qS) (hK1 k hgk) qO hG.up) E ?_;rintro v48 M48 J48 ⟨rfl,u48,rfl,h48⟩;haveI:=h48.cel;refine mV_ E (lQ_ (A0x E) (lQ_ (A0n E) (aS_ E (aS_ E (A0 (E9 6 8 10 16 17) (A3 (A1 (mV_ E (lQ_ (V7 E) (A0 (E9 6 8 10 16 52) ?_))))))))));refine C2 E ?_ ?_<;>intro hc
  .
   have hno:A3a s k (alW w hk hp hn) g=none:=by simpa using hc
   refine A1 ?_;refine lQ_ (qw_ 9) ?_;refine A2 E (A5 (vs:=[vo,vt,vr,vk,(vU r.sn),vl,(vU r.tn),(vU r.prev),(vP sb)]) E E E kR qR (A7 hr.own.one (A7 hr.their.one (A7 hr.root.one (A7 hr.sk.one (A7 E (A7 hr.tk.one al3)))))) Cv ?_);refine as_ (as_ (A0 (D5 10 11 12) (A9 (tr (tr ?_)))));rw [C3X hgk hno];exact ⟨_,MP,[],A3S (n:=9) E E E E kR Ce qR,Ci (Ch qP),_,_,E,hP,⟨vo,vt,vr,vk,vl,_,E,hr.mono qS⟩,By.nil⟩
  .
   obtain ⟨t,hot⟩:∃t,A3a s k (alW w hk hp hn) g=some t:=by
    cases hq:A3a s k (alW w hk hp hn) g with
    | none=>rw [hq] at hc;cases hc
    | some t=>exact ⟨t,E⟩
   rw [hot,Option.getD_some] at h48;refine A4 (nx (D7 6 8 10 16) (A1 ?_));refine lQ_ (qw_ 9) ?_;refine C6 (aS E a0) kR (FnX.amb qS (A9a r vo vt vr vk vl _ A hr)) E ?_;rintro v66 M66 J66 ⟨cb,rfl,hSt⟩;unfold rsC;refine A2 E (C3 (cs:=[vS,vS,vS,vS,D3,vS,D3,D3,.pointer none]) kR E λb18=>?_);refine A2 E (A5 (vs:=[vo,vt,vr,vk,(vU r.sn),vl,(vU r.tn),(vU r.prev),(vP cb)]) E E E kR qR (A7 hr.own.one (A7 hr.their.one (A7 hr.root.one (A7 hr.sk.one (A7 E (A7 hr.tk.one al3)))))) Cv ?_);refine A0 (D7 8 10 16 18) (A1 (lQ_ (qf_ 8 8) ?_));refine lQ_ ql_ ?_;refine lQ_ (qf_ 0 0) ?_;refine lQ_ ql_ ?_;refine lQ_ (qf_ 2 2) ?_;refine lQ_ ql_ ?_;refine A2 E (C8 (Mc:=M66) (R:=_) (aS E (aS E (aS E (a0)))) kR qP (B4Q cb vh r.sks hk hn A M66 _ hSt qS (by have:=hr.sks;omega) hh) E ?_);rintro v62 M62 J62 ⟨rfl,hSt2⟩;obtain ⟨u5,rows5,BS5,rfl,hs5,hw5⟩:=hSt2.ex;have hrd5:=hs5.rd (R:=BS5) λ_ h=>h;refine A0 (D5 10 16 18) ?_;refine Z4 (B:=(cb,blk [u5] 136)::BS5) qP ?_;refine A1 ?_;refine lQ_ (qw_ 9) ?_;refine mv_ ?_;refine A2 E (A5 (vs:=[vo,vt,vr,vk,(vU r.sn),vl,(vU r.tn),(vU r.prev),(vP cb)]) E E E kR qR (A7 hr.own.one (A7 hr.their.one (A7 hr.root.one (A7 hr.sk.one (A7 E (A7 hr.tk.one al3)))))) Cv ?_);refine as_ (as_ (A0 (D5 10 11 12) (A9 (tr ?_))));rw [C1I hgk hot];exact ⟨_,MP,[],A3S (n:=9) E E E E kR Ce qR,Ci (Ch qP),_,u48,E,hP,⟨vo,vt,vr,vk,vl,_,E,⟨hr.own.mono qS,hr.their.mono qS,hr.root.mono qS,hr.sk.mono qS,hr.tk.mono qS,⟨cb,u5,rows5,E,by simp,hrd5.mono qS,hw5.mono skT qS⟩,hr.sn,hr.tn,hr.prev,Az (A65 _ _ _) hr.sks⟩⟩,h48.mono qS⟩
 .
  have hgn:A5s r.sks hk hn=none:=by simpa using hc
  refine A4 (nx (G9 0 4 6 8 10 13) (A1 ?_));refine lQ_ (qw_ 9) ?_;refine C6 (aS E a0) kR (FnX.amb qS (A9a r vo vt vr vk vl _ A hr)) E ?_;rintro v66 M66 J66 ⟨cb,rfl,hSt⟩;unfold rsC;refine A2 E (C3 (cs:=[vS,vS,vS,vS,D3,vS,D3,D3,.pointer none]) kR E λb19=>?_);refine A2 E (A5 (vs:=[vo,vt,vr,vk,(vU r.sn),vl,(vU r.tn),(vU r.prev),(vP cb)]) E E E kR qR (A7 hr.own.one (A7 hr.their.one (A7 hr.root.one (A7 hr.sk.one (A7 E (A7 hr.tk.one al3)))))) Cv ?_);refine A0 (N1 0 4 6 8 10 13 19) ?_;refine P3 (α:=Mem) (λ_=>[(0,(vP pb)),(4,vg),(6,(vP b6)),(8,(vP b8)),(10,(vP b10)),(13,v31),(19,(vP b19)),(20,.bool (A0W r hk))]) (λ_=>[(b19,blk [vo,vt,vr,vk,(vU r.sn),vl,(vU r.tn),(vU r.prev),(vP cb)] 47),(b10,blk [vS,vS,vS,vS,D3,vS,D3,D3,.pointer none] 47),(b8,blk [vh,(vU hp),(vU hn)] 55),(b6,blk [vo,vt,vr,vk,(vU r.sn),vl,(vU r.tn),(vU r.prev),(vP sb)] 47)]++(MP++M66)) (λJ=>J) (λJ=>By (J++A) v31 (alW w hk hp hn)) ?_ ?_
  .
   refine C1 (lQ_ (qf_ 0 0) ?_);refine lQ_ ql_ ?_;refine lQ_ (qf_ 1 1) ?_;refine lQ_ ql_ ?_;refine D8 (aS E (aS E a0)) kR (A0F vh vt hk r.their _ (hh.mono qS) (hr.their.mono qS)) E ?_;refine lQ_ (V7 E) (mv_ ?_);refine Y0 (t:=73) E (λhb=>?_) (λhb=>?_)
   . refine K0 E E E E ?_;refine K0 E E E E ?_;refine K0 E E E E ?_;refine K0 E E E E ?_;refine K0 E E E E ?_;refine lQ_ (H6 E E) (as_ (C5 ?_));exact jn _ (h31.mono qS) (kq 0 (kq 4 (kq 6 (kq 8 (kq 10 (kq 13 (kq 19 (kp 20 (by unfold A0W;rw [hb];rfl) kn)))))))) (Cj (B:=[(b19,blk [vo,vt,vr,vk,(vU r.sn),vl,(vU r.tn),(vU r.prev),(vP cb)] 47)]) qP (Cj (B:=[(b10,blk [vS,vS,vS,vS,D3,vS,D3,D3,.pointer none] 47)]) qP (Cj (B:=[(b8,blk [vh,(vU hp),(vU hn)] 55)]) qP (Cj (B:=[(b6,blk [vo,vt,vr,vk,(vU r.sn),vl,(vU r.tn),(vU r.prev),(vP sb)] 47)]) qP (Cj (B:=MP) qP (Ch qP)))))) qI
   . refine G1 E E (Cp (qf_ 5 5) E ?_);refine G1 E E (Cp (qf_ 5 0) E ?_);refine G1 E E (Cp ql_ E ?_);refine G1 E E (Cp (F8 (sz:=1) E kR hr.tk.rd) E ?_);refine G1 E E (Cp (E3 E E E) E ?_);refine lQ_ (E8 E E) (as_ (C5 ?_));exact jn _ (h31.mono qS) (kq 0 (kq 4 (kq 6 (kq 8 (kq 10 (kq 13 (kq 19 (kp 20 (by unfold A0W;rw [hb,Bool.false_or,<- len0];rfl) kn)))))))) (Cj (B:=[(b19,blk [vo,vt,vr,vk,(vU r.sn),vl,(vU r.tn),(vU r.prev),(vP cb)] 47)]) qP (Cj (B:=[(b10,blk [vS,vS,vS,vS,D3,vS,D3,D3,.pointer none] 47)]) qP (Cj (B:=[(b8,blk [vh,(vU hp),(vU hn)] 55)]) qP (Cj (B:=[(b6,blk [vo,vt,vr,vk,(vU r.sn),vl,(vU r.tn),(vU r.prev),(vP sb)] 47)]) qP (Cj (B:=MP) qP (Ch qP)))))) qI
  .
   rintro J12 h31
   try dsimp only at h31 ⊢
   haveI:=h31.cel;have hab:=C1M s r hp hr.tn hhp hr.sks
   obtain ⟨x,hx0⟩:∃z,opB s r hk hp=z:=⟨_,E⟩
   refine P3 (α:=Mem×Mem×Mem×Value×Value×Value) (λy=>[(0,(vP pb)),(4,vg),(6,(vP b6)),(8,(vP b8)),(10,(vP b10)),(13,v31),(19,(vP b19)),(20,.bool (A0W r hk))]) (λy=>[(b19,blk [vo,y.2.2.2.1,y.2.2.2.2.1,vk,(vU r.sn),y.2.2.2.2.2,(vU x.2.tn),(vU r.prev),(vP cb)] 47),(b10,blk [vS,vS,vS,vS,D3,vS,D3,D3,.pointer none] 47),(b8,blk [vh,(vU hp),(vU hn)] 55),(b6,blk [vo,vt,vr,vk,(vU r.sn),vl,(vU r.tn),(vU r.prev),(vP sb)] 47)]++(y.1++y.2.1)) (λy=>y.2.2.1) (λy=>Prm pb x.1 y.1∧Sto (y.2.2.1++A) cb x.2.sks y.2.1∧By (y.2.2.1++A) y.2.2.2.1 x.2.their∧By (y.2.2.1++A) y.2.2.2.2.1 x.2.root∧By (y.2.2.1++A) y.2.2.2.2.2 x.2.tk∧By (y.2.2.1++A) v31 (alW w hk hp hn)∧(A0W r hk=true->A9f r hp=0)) ?_ ?_
   .
    refine A1 (mv_ (A0 (Q4 0 4 6 8 10 13 19 20 80) ?_));refine C2 E ?_ ?_<;>intro hc
    .
     have hfr:A0W r hk=true:=hc;refine P3 (α:=Mem×Mem×Mem×Value) (λy=>[(0,(vP pb)),(4,vg),(6,(vP b6)),(8,(vP b8)),(10,(vP b10)),(13,v31),(19,(vP b19)),(20,.bool (A0W r hk))]) (λy=>[(b19,blk [vo,vt,vr,vk,(vU r.sn),y.2.2.2,(vU ((opA s r hp).2.2.1)),(vU r.prev),(vP cb)] 47),(b10,blk [vS,vS,vS,vS,D3,vS,D3,D3,.pointer none] 47),(b8,blk [vh,(vU hp),(vU hn)] 55),(b6,blk [vo,vt,vr,vk,(vU r.sn),vl,(vU r.tn),(vU r.prev),(vP sb)] 47)]++(y.1++y.2.1)) (λy=>y.2.2.1) (λy=>Prm pb (opA s r hp).1 y.1∧Sto (y.2.2.1++A) cb (opA s r hp).2.2.2 y.2.1∧By (y.2.2.1++A) y.2.2.2 (opA s r hp).2.1∧By (y.2.2.1++A) v31 (alW w hk hp hn)∧A9f r hp=0) ?_ ?_
     .
      refine A1 (lQ_ (qf_ 5 5) (lQ_ (qf_ 5 0) ?_));refine lQ_ ql_ ?_;refine lQ_ (F8 (sz:=1) E kR hr.tk.rd) ?_;refine lQ_ (E3 E E E) (A0 (Q4 0 4 6 8 10 13 19 20 85) ?_);refine C2 E ?_ ?_<;>intro hc
      .
       have htk:r.tk≠[]:=by intro e;rw [e] at hc;simp [H8] at hc
       rw [A5a htk,A3c htk] at *;refine A1 (mV_ E (lQ_ (qf_ 5 5) ?_));refine lQ_ (H7 (n:=2) E kR (by first|exact Ce|exact mA (by assumption)) Cu) ?_;refine lQ_ (qf_ 1 1) ?_;refine lQ_ ql_ ?_;refine lQ_ (qf_ 1 1) ?_;refine lQ_ ql_ ?_;refine lQ_ (qf_ 8 8) ?_;refine lQ_ ql_ ?_;refine A2 E (C8 (Mc:=MP++M66) (R:=_) (aS E (aS E (aS E (aS E (aS E (a0)))))) kR qP (B5w pb cb s vl vt r.tk r.their r.tn hp r.sks A MP M66 _ hP hSt qS hr.tk hr.their hr.sks hhp qO hG.up) E ?_);rintro v96 M96 J96 ⟨MP1,MS1,ka,rfl,rfl,hP1,hSt1,ka_⟩;haveI:=ka_.cel;refine mV_ E (lQ_ (A0x E) (lQ_ (A0n E) ?_));refine A2 E (C3 (cs:=[vS,D3]) kR E λb21=>?_);refine A2 E (A5 (vs:=[ka,(vU ((ahX s r.tk r.tn hp r.their r.sks).2.2.1))]) E E E kR qR (A7 ka_.one (A7 E K5)) Cv ?_);refine aS_ E (A0 (kq 0 (Q4 4 6 8 10 13 19 20 21 22)) (A3 (A1 (mV_ E (lQ_ (E3 E E E) (A0 (kq 0 (kq 4 (Q4 6 8 10 13 19 20 21 22 100))) ?_))))));refine C2 E ?_ ?_<;>intro hc
       .
        have hE:ahE r.tn hp≠0:=by intro e;rw [e] at hc;simp [H8] at hc
        refine A1 ?_;refine lQ_ (qw_ 9) ?_;refine mv_ ?_;refine A2 E (A5 (vs:=[vo,vt,vr,vk,(vU r.sn),vl,(vU r.tn),(vU r.prev),(vP sb)]) E E E kR qR (A7 hr.own.one (A7 hr.their.one (A7 hr.root.one (A7 hr.sk.one (A7 E (A7 hr.tk.one al3)))))) Cv ?_);refine as_ (as_ (A0 (D5 10 11 12) (A9 (tr (jr (jr ?_))))));rw [C1J hgn hfr (by rw [A3c htk];exact hE),A3c htk,A5a htk];exact ⟨_,MP1,[],A3S (n:=9) E E E E kR Ce qR,Ci (Ch qP),_,_,E,hP1,⟨vo,vt,vr,vk,vl,_,E,hr.mono qS⟩,By.nil⟩
       .
        have hE:ahE r.tn hp=0:=by simpa [H8] using hc
        refine A4 (nx (Q4 0 4 6 8 10 13 19 20 21) (C1 ?_));refine lQ_ (qw_ 2) ?_;refine lQ_ (qf_ 5 5) ?_;refine A2 E (P1 (vs:=[ka,(vU ((ahX s r.tk r.tn hp r.their r.sks).2.2.1))]) (cs':=[vo,vt,vr,vk,(vU r.sn),ka,(vU ((ahX s r.tk r.tn hp r.their r.sks).2.2.1)),(vU r.prev),(vP cb)]) E E E kR (by exact (show 5+2<=9 by decide)) (A7 ka_.one (A7 E K5)) E Cv ?_);refine C5 ?_;exact jn (MP1,MS1,J96++J12,ka) ⟨hP1,hSt1.mono qS,ka_.mono qS,h31.mono qS,hE⟩ (V4 0 4 6 8 10 13 19 20) (Cj (B:=[(b19,blk [vo,vt,vr,vk,(vU r.sn),ka,(vU ((ahX s r.tk r.tn hp r.their r.sks).2.2.1)),(vU r.prev),(vP cb)] 47)]) qP (Cj (B:=[(b10,blk [vS,vS,vS,vS,D3,vS,D3,D3,.pointer none] 47)]) qP (Cj (B:=[(b8,blk [vh,(vU hp),(vU hn)] 55)]) qP (Cj (B:=[(b6,blk [vo,vt,vr,vk,(vU r.sn),vl,(vU r.tn),(vU r.prev),(vP sb)] 47)]) qP (Cj (B:=MP1) qP (Ch qP)))))) qI
      .
       have htk:r.tk=[]:=by cases hq:r.tk with|nil=>rfl|cons a l=>rw [hq] at hc;simp [H8] at hc
       refine A4 ?_;rw [B0r htk,A9g htk];exact jn (MP,M66,J12,vl) ⟨hP,hSt.mono qS,hr.tk.mono qS,h31,E⟩ (V4 0 4 6 8 10 13 19 20) (Cj (B:=[(b19,blk [vo,vt,vr,vk,(vU r.sn),vl,(vU r.tn),(vU r.prev),(vP cb)] 47)]) qP (Cj (B:=[(b10,blk [vS,vS,vS,vS,D3,vS,D3,D3,.pointer none] 47)]) qP (Cj (B:=[(b8,blk [vh,(vU hp),(vU hn)] 55)]) qP (Cj (B:=[(b6,blk [vo,vt,vr,vk,(vU r.sn),vl,(vU r.tn),(vU r.prev),(vP sb)] 47)]) qP (Cj (B:=MP) qP (Ch qP)))))) qI
     .
      rintro ⟨MP1,MS1,J18,ka⟩ ⟨hP1,hSt1,ka_,h31,hAE⟩;dsimp only at hP1 hSt1 ka_ h31 ⊢;haveI:=h31.cel;haveI:=ka_.cel
      obtain ⟨xa,hxa⟩:∃z,opA s r hp=z:=⟨_,E⟩
      rw [hxa] at hP1 hSt1 ka_ hab ⊢;have htl:=A25 xa.1 r.root r.own hk;refine A1 (mV_ E (lQ_ (qf_ 2 2) ?_));refine lQ_ ql_ ?_;refine lQ_ (qf_ 0 0) ?_;refine lQ_ ql_ ?_;refine lQ_ (qf_ 0 0) ?_;refine lQ_ ql_ ?_;refine A2 E (C8 (Mc:=MP1) (R:=_) (aS E (aS E (aS E (aS E (a0))))) kR qP (B4U pb xa.1 vr vo vh r.root r.own hk MP1 _ hP1 qO (hr.root.mono qS) (hr.own.mono qS) (hh.mono qS) hG.up) E ?_);rintro v113 M113 J113 ⟨y0,y1,rfl,hP113,gy0,gy1⟩;haveI:=gy0.cel;haveI:=gy1.cel;refine mV_ E (lQ_ (A0x E) (lQ_ (A0n E) (lQ_ (qf_ 2 2) ?_)));refine A2 E (E1 E E gy0.one kR Ct Cv ?_);refine lQ_ (qf_ 5 5) ?_;refine A2 E (P1 (vs:=[y1,(vU 0)]) (cs':=[vo,vt,y0,vk,(vU r.sn),y1,(vU 0),(vU r.prev),(vP cb)]) E E E kR (by exact (show 5+2<=9 by decide)) (A7 gy1.one (A7 E K5)) E Cv ?_);refine A0 (V4 0 4 6 8 10 13 19 20) (C1 (lQ_ (qf_ 0 0) ?_));refine lQ_ ql_ ?_;refine C6 (aS E a0) kR (P8 vh hk _ (hh.mono qS)) E ?_;rintro v120 M120 J120 ⟨rfl,h120⟩;haveI:=h120.cel;refine lQ_ (qf_ 1 1) ?_;refine A2 E (E1 E E h120.one kR Ct Cv ?_);refine C5 ?_;have e:x=C1H xa r hk:=by rw [<- hx0,B5x hfr,hxa]
      rw [e];exact jn (M113,MS1,J120++(J113++J18),v120,y0,y1) ⟨hP113,hSt1.mono qS,h120.mono qS,gy0.mono qS,gy1.mono qS,h31.mono qS,λ_=>hAE⟩ (V4 0 4 6 8 10 13 19 20) (Cj (B:=[(b19,blk [vo,v120,y0,vk,(vU r.sn),y1,(vU 0),(vU r.prev),(vP cb)] 47)]) qP (Cj (B:=[(b10,blk [vS,vS,vS,vS,D3,vS,D3,D3,.pointer none] 47)]) qP (Cj (B:=[(b8,blk [vh,(vU hp),(vU hn)] 55)]) qP (Cj (B:=[(b6,blk [vo,vt,vr,vk,(vU r.sn),vl,(vU r.tn),(vU r.prev),(vP sb)] 47)]) qP (Cj (B:=M113) qP (Ch qP)))))) qI
    .
     have hfr:A0W r hk=false:=hc;refine A4 ?_;have e:x=(s,r):=by rw [<- hx0,B5y hfr]
     rw [e];exact jn (MP,M66,J12,vt,vr,vl) ⟨hP,hSt.mono qS,hr.their.mono qS,hr.root.mono qS,hr.tk.mono qS,h31,λh=>by rw [hfr] at h;cases h⟩ (V4 0 4 6 8 10 13 19 20) (Cj (B:=[(b19,blk [vo,vt,vr,vk,(vU r.sn),vl,(vU r.tn),(vU r.prev),(vP cb)] 47)]) qP (Cj (B:=[(b10,blk [vS,vS,vS,vS,D3,vS,D3,D3,.pointer none] 47)]) qP (Cj (B:=[(b8,blk [vh,(vU hp),(vU hn)] 55)]) qP (Cj (B:=[(b6,blk [vo,vt,vr,vk,(vU r.sn),vl,(vU r.tn),(vU r.prev),(vP sb)] 47)]) qP (Cj (B:=MP) qP (Ch qP)))))) qI
   .
    have hxb:x.1.ts.length<=s.ts.length+55∧x.1.n=s.n∧x.2.tn<4294967296∧x.2.sks.length<=1000:=by
     have hab:=C1M s r hp hr.tn hhp hr.sks;have htl:=A25 (opA s r hp).1 r.root r.own hk
     cases hf:A0W r hk with
     | true=>rw [<- hx0,B5x hf];exact ⟨by show (A44 _ _ _ _).ts.length<=_;omega,htl.2.trans hab.2.1,(show 0<4294967296 by decide),hab.2.2.2⟩
     | false=>rw [<- hx0,B5y hf];exact ⟨Nat.le_add_right _ _,E,hr.tn,hr.sks⟩
    have hcb:=C1G x.1 x.2.tk x.2.tn hn x.2.their x.2.sks hxb.2.2.1 hhn hxb.2.2.2;change (opC x hn).1.ts.length<=_∧(opC x hn).1.n=_∧(opC x hn).2.2.1<_∧(opC x hn).2.2.2.length<=_ at hcb;have hsl:=A06 (opC x hn).1 (opC x hn).2.1;change (opD x hn).ts.length<=_∧(opD x hn).n=_∧_ at hsl;have hfl:=A66 (opD x hn);rintro ⟨MP2,MS2,J20,zt,zr,zk⟩ ⟨hP2,hSt2,zt_,zr_,zk_,h31,hF0⟩;dsimp only at hP2 hSt2 zt_ zr_ zk_ h31 ⊢;haveI:=h31.cel;haveI:=zt_.cel;haveI:=zr_.cel;haveI:=zk_.cel;refine A1 (mV_ E (lQ_ (qf_ 5 5) ?_));refine lQ_ (H7 (n:=2) E kR (by first|exact Ce|exact mA (by assumption)) Cu) ?_;refine lQ_ (qf_ 1 1) ?_;refine lQ_ ql_ ?_;refine lQ_ (qf_ 2 2) ?_;refine lQ_ ql_ ?_;refine lQ_ (qf_ 8 8) ?_;refine lQ_ ql_ ?_;refine A2 E (C8 (Mc:=MP2++MS2) (R:=_) (aS E (aS E (aS E (aS E (aS E (a0)))))) kR qP (B5w pb cb x.1 zk zt x.2.tk x.2.their x.2.tn hn x.2.sks (J20++A) MP2 MS2 _ hP2 hSt2 qS zk_ zt_ hxb.2.2.2 hhn qO hG.up) E ?_);rintro v132 M132 J132 ⟨MP3,MS3,kv,rfl,rfl,hP3,hSt3,gkv⟩;haveI:=gkv.cel;change Prm pb (opC x hn).1 MP3 at hP3;change Sto _ cb (opC x hn).2.2.2 MS3 at hSt3;change By _ kv (opC x hn).2.1 at gkv;change XL _ _ _ _ ((132,.tuple #[.agg #[kv,(vU ((opC x hn).2.2.1))],.int .i64 (ahE x.2.tn hn)])::_) _ _;refine mV_ E (lQ_ (A0x E) (lQ_ (A0n E) ?_));refine A2 E (C3 (cs:=[vS,D3]) kR E λb23=>?_);refine A2 E (A5 (vs:=[kv,(vU ((opC x hn).2.2.1))]) E E E kR qR (A7 gkv.one (A7 E K5)) Cv ?_);refine aS_ E (A0 (Q4 0 4 6 10 13 19 20 23 24) (A3 (A1 (mV_ E (lQ_ (E3 E E E) (A0 (kq 0 (Q4 4 6 10 13 19 20 23 24 136)) ?_))))));refine C2 E ?_ ?_<;>intro hc
    .
     have hE2:ahE x.2.tn hn≠0:=by intro e;rw [e] at hc;simp [H8] at hc
     refine A1 ?_;refine lQ_ (qw_ 9) ?_;refine mv_ ?_;refine A2 E (A5 (vs:=[vo,vt,vr,vk,(vU r.sn),vl,(vU r.tn),(vU r.prev),(vP sb)]) E E E kR qR (A7 hr.own.one (A7 hr.their.one (A7 hr.root.one (A7 hr.sk.one (A7 E (A7 hr.tk.one al3)))))) Cv ?_);refine as_ (as_ (A0 (D5 10 11 12) (A9 (tr ?_))));rw [oR_n hgn hx0 hF0 hE2];exact ⟨_,MP3,[],A3S (n:=9) E E E E kR Ce qR,Ci (Ch qP),_,_,E,hP3,⟨vo,vt,vr,vk,vl,_,E,hr.mono qS⟩,By.nil⟩
    .
     have hE2:ahE x.2.tn hn=0:=by simpa [H8] using hc
     refine A4 (nx (V4 0 4 6 10 13 19 20 23) (A1 (mv_ ?_)));refine lQ_ (qw_ 2) ?_;refine A2 E (C8 (Mc:=MP3) (R:=_) (aS E (aS E (a0))) kR qP (A43 pb (opC x hn).1 kv (opC x hn).2.1 (opC x hn).2.2.1 MP3 _ hP3 (gkv.mono qS) qO hG.up) E ?_);rintro v142 M142 J142 ⟨k1,k2,rfl,hP142,gk1,gk2⟩;haveI:=gk1.cel;haveI:=gk2.cel;change Prm pb (opD x hn) M142 at hP142;change By _ k1 (A5u x hn) at gk1;refine mV_ E (lQ_ (A0x E) (lQ_ (A0n E) ?_));refine A2 E (C3 (cs:=[vS,D3]) kR E λb26=>?_);refine as_ ?_;refine A2 E (A5 (vs:=[k2,.int .u32 ((((opC x hn).2.2.1+1)%4294967296:Nat):Int)]) E E E kR qR (A7 gk2.one (A7 E K5)) Cv ?_);refine A0 (Q4 0 4 6 10 13 19 20 25 26) (A1 (mv_ (mv_ (mv_ (mv_ ?_)))));refine C6 (aS E (aS E (aS E (aS E a0)))) kR (B5s pb (opD x hn) k1 v31 vg (A5u x hn) (alW w hk hp hn) g M142 _ hP142 (by intro x hx;simp [hx]) qO (hx0▸hS2) (gk1.mono qS) (h31.mono qS) (hg.mono qS) (hx0▸hK2) qO hG.up) E ?_;rintro v150 M150 J150 ⟨rfl,u150,rfl,h150⟩;haveI:=h150.cel;refine mV_ E (lQ_ (A0x E) (lQ_ (A0n E) (aS_ E (aS_ E (A0 (V4 0 6 10 19 20 26 27 28) (A3 (A1 (mV_ E (lQ_ (V7 E) (A0 (V4 0 6 10 19 20 26 27 154) ?_))))))))));refine C2 E ?_ ?_<;>intro hc
     .
      have hno:A3a (opD x hn) (A5u x hn) (alW w hk hp hn) g=none:=by simpa using hc
      refine A1 ?_;refine lQ_ (qw_ 9) ?_;refine A2 E (A5 (vs:=[vo,vt,vr,vk,(vU r.sn),vl,(vU r.tn),(vU r.prev),(vP sb)]) E E E kR qR (A7 hr.own.one (A7 hr.their.one (A7 hr.root.one (A7 hr.sk.one (A7 E (A7 hr.tk.one al3)))))) Cv ?_);refine as_ (as_ (A0 (D5 10 11 12) (A9 (tr ?_))));rw [C5B hgn hx0 hF0 hE2 hno];exact ⟨_,M142,[],A3S (n:=9) E E E E kR Ce qR,Ci (Ch qP),_,_,E,hP142,⟨vo,vt,vr,vk,vl,_,E,hr.mono qS⟩,By.nil⟩
     .
      obtain ⟨t,hot⟩:∃t,A3a (opD x hn) (A5u x hn) (alW w hk hp hn) g=some t:=by
       cases hq:A3a (opD x hn) (A5u x hn) (alW w hk hp hn) g with
       | none=>rw [hq] at hc;cases hc
       | some t=>exact ⟨t,E⟩
      rw [hot,Option.getD_some] at h150;refine A4 (nx (G9 0 10 19 20 26 27) (A1 ?_));refine lQ_ (qw_ 2) ?_;refine lQ_ (qf_ 5 5) ?_;refine A2 E (P1 (vs:=[k2,.int .u32 ((((opC x hn).2.2.1+1)%4294967296:Nat):Int)]) (cs':=[vo,zt,zr,vk,(vU r.sn),k2,.int .u32 ((((opC x hn).2.2.1+1)%4294967296:Nat):Int),(vU r.prev),(vP cb)]) E E E kR (by exact (show 5+2<=9 by decide)) (A7 gk2.one (A7 E K5)) E Cv ?_);refine A0 (E9 0 10 19 20 27) (A3 (A1 (mv_ (A0 (E9 0 10 19 27 158) ?_))));refine C2 E ?_ ?_<;>intro hc
      .
       have hf:A0W r hk=true:=hc;refine F9 (M142) (_) true [0,1,2,3,4,5,7] [(0,0),(1,0),(2,1),(3,0),(5,0),(4,2),(6,2),(7,0),(8,2)] kR kR qP λhs K n0 hKm hKs hKn=>?_;refine kQ_ E (qf_ 3 3) (kQ_ E (qf_ 4 1) ?_);refine I8 hs E hKs ql_ ?_;refine kM_ E E (kQ_ E (qf_ 7 7) ?_)
       refine G8 _ _ E E (Ah _) hKm λw0=>(C8 (Mc:=M142) (R:=_) (aS E (a0)) kR qP (X5 pb (opD x hn) M142 _ hP142 qO qO hG.up) E ?_)
       rintro v163 M163 J163 ⟨hP163,h163⟩ hKx163;haveI:=h163.cel;refine K6 E E E (E1 E E E kR Ct Cv ?_);refine kQ_ E (qf_ 0 0) ?_;refine K6 E E E (E1 E E h163.one kR Ct Cv ?_);refine I0 (D7 0 10 19 27) (C1 (mV_ E (lQ_ (qf_ 2 2) ?_)));refine lQ_ ql_ ?_;refine lQ_ (qf_ 0 0) ?_;refine lQ_ ql_ ?_;refine lQ_ (qf_ 1 1) ?_;refine lQ_ ql_ ?_;refine A2 E (C8 (Mc:=M163) (R:=_) (aS E (aS E (aS E (aS E (a0))))) kR qP (B4U pb (E5 (opD x hn)) zr v163 zt x.2.root (F3 (opD x hn)) x.2.their M163 _ hP163 qO (zr_.mono qS) (h163.mono qS) (zt_.mono qS) hG.up) E ?_);rintro v174 M174 J174 ⟨c0,c1,rfl,hP174,gc0,gc1⟩;haveI:=gc0.cel;haveI:=gc1.cel;refine mV_ E (lQ_ (A0x E) (lQ_ (A0n E) (lQ_ (qf_ 2 2) ?_)));refine A2 E (E1 E E gc0.one kR Ct Cv ?_);refine lQ_ (qf_ 3 3) ?_;refine A2 E (P1 (vs:=[c1,(vU 0)]) (cs':=[v163,zt,c0,c1,(vU 0),k2,.int .u32 ((((opC x hn).2.2.1+1)%4294967296:Nat):Int),(vU r.sn),(vP cb)]) E E E kR (by exact (show 3+2<=9 by decide)) (A7 gc1.one (A7 E K5)) E Cv ?_);refine A0 (D5 10 19 27) ?_;obtain ⟨u5,rows5,BS5,rfl,hs5,hw5⟩:=hSt3.ex;have hrd5:=hs5.rd (R:=BS5) λ_ h=>h;refine Z4 (B:=(cb,blk [u5] 136)::BS5) qP ?_;refine A1 ?_;refine lQ_ (qw_ 9) ?_;refine mv_ ?_;refine A2 E (A5 (vs:=[v163,zt,c0,c1,(vU 0),k2,.int .u32 ((((opC x hn).2.2.1+1)%4294967296:Nat):Int),(vU r.sn),(vP cb)]) E E E kR qR (A7 h163.one (A7 zt_.one (A7 gc0.one (A7 gc1.one (A7 E (A7 gk2.one al3)))))) Cv ?_);refine as_ (as_ (A0 (D5 10 11 12) (A9 ?_)));rw [A3R hgn hx0 hF0 hE2 hot,C1K hf];exact ⟨_,M174,[],A3S (n:=9) E E E E kR Ce qR,Ci (Ch qP),_,u150,E,hP174,⟨v163,zt,c0,c1,k2,_,E,⟨h163.mono qS,zt_.mono qS,gc0.mono qS,gc1.mono qS,gk2.mono qS,⟨cb,u5,rows5,E,by simp,hrd5.mono qS,hw5.mono skT qS⟩,(show 0<4294967296 by decide),Ad _ qD,hr.sn,hcb.2.2.2⟩⟩,h150.mono qS⟩
      . have hf:A0W r hk=false:=hc;refine A4 (nx (D5 10 19 27) ?_);obtain ⟨u5,rows5,BS5,rfl,hs5,hw5⟩:=hSt3.ex;have hrd5:=hs5.rd (R:=BS5) λ_ h=>h;refine Z4 (B:=(cb,blk [u5] 136)::BS5) qP ?_;refine A1 ?_;refine lQ_ (qw_ 9) ?_;refine mv_ ?_;refine A2 E (A5 (vs:=[vo,zt,zr,vk,(vU r.sn),k2,.int .u32 ((((opC x hn).2.2.1+1)%4294967296:Nat):Int),(vU r.prev),(vP cb)]) E E E kR qR (A7 hr.own.one (A7 zt_.one (A7 zr_.one (A7 hr.sk.one (A7 E (A7 gk2.one al3)))))) Cv ?_);refine as_ (as_ (A0 (D5 10 11 12) (A9 ?_)));rw [A3R hgn hx0 hF0 hE2 hot,C1L hf];exact ⟨_,M142,[],A3S (n:=9) E E E E kR Ce qR,Ci (Ch qP),_,u150,E,hP142,⟨vo,zt,zr,vk,k2,_,E,⟨hr.own.mono qS,zt_.mono qS,zr_.mono qS,hr.sk.mono qS,gk2.mono qS,⟨cb,u5,rows5,E,by simp,hrd5.mono qS,hw5.mono skT qS⟩,hr.sn,Ad _ qD,hr.prev,hcb.2.2.2⟩⟩,h150.mono qS⟩

theorem StF.cel{sks:List Skp}(h:StF R v sks):Cel v [v]:=by obtain ⟨sb,u,rows,rfl,_⟩:=h;infer_instance
def B9p:LN:=[115,101,115,115,105,111,110]
structure Ses where
  id:LN
  wi:LN
  he:He
  tell:Bool
  r:Rsd
def seC(vi vw p r u vo vt vr vk vl vs:Value)(x:Ses):List Value:=[vi,vw,p,r,u,(vU x.he.signed),.bool x.he.has,(vU x.he.once),.bool x.tell,vo,vt,vr,vk,(vU x.r.sn),vl,(vU x.r.tn),(vU x.r.prev),vs]
abbrev Zc(vi vw p r u vo vt vr vk vl vs:Value)(x:Ses):List Value:=[vi,vw,p,r,u,(vU x.he.signed),.bool x.he.has,(vU x.he.once),.bool x.tell,vo,vt,vr,vk,(vU x.r.sn),vl,(vU x.r.tn),(vU x.r.prev),vs]
abbrev Zd(vs p r u vk vg:Value)(x:Ev):List Value:=[.int .i64 x.fu,.int .i64 x.fd,.int .i64 x.tu,.int .i64 x.td,vs,.bool x.has,p,r,u,(vU x.he.signed),.bool x.he.has,(vU x.he.once),vk,(vU x.hp),(vU x.hn),vg]
abbrev Zb(vi vw p r u:Value)(x:Ses):List Value:=[vi,vw,p,r,u,(vU x.he.signed),.bool x.he.has,(vU x.he.once),.bool x.tell]
abbrev Ze:List Value:=[vS,vS,vS,vS,vS,D3,.bool false,D3,.bool false,vS,vS,vS,vS,D3,vS,D3,D3,.pointer none]
abbrev Zf:List Value:=[U7,U7,U7,U7,vS,.bool false,vS,vS,vS,D3,.bool false,D3,vS,D3,D3,vS]
abbrev Zh:List Value:=[vS,vS,vS,D3,.bool false,D3,.bool false]
abbrev Zg(a b c:Nat):List Value:=[(vP a),(vP b),(vP c),U7,.int .i64 1,.int .i64 1,.int .i64 1]
structure SeR(R:Mem)(x:Ses)(vi vw p r u vo vt vr vk vl vs:Value):Prop where
  id:By R vi x.id
  wi:By R vw x.wi
  he:HeR R x.he p r u
  hil:x.he.ig.length<=1000000
  r:RsR R x.r vo vt vr vk vl vs
theorem SeR.mono{R R':Mem}{x:Ses}{vi vw p r u vo vt vr vk vl vs:Value}(h:SeR R x vi vw p r u vo vt vr vk vl vs)(hR:∀z,z∈R->z∈R'):SeR R' x vi vw p r u vo vt vr vk vl vs:=⟨h.id.mono hR,h.wi.mono hR,h.he.mono hR,h.hil,h.r.mono hR⟩
theorem B8d(v:Value)(w:LN)(A:Mem)(h:By A v w):FnX prog 26 [v] [] A λr M J=>Sl 1 r w.length (nums .u8 w) M:=by
 haveI:=h.cel;have hwl:=h.len;refine Co (N:=8) func26 E E E λw_=>?_;refine A8 (D1 0) (A1 (as_ (A0 (D1 0) (A3 (A1 (mv_ ?_))))));refine lQ_ (A1C (e:=5) E kR (by first|assumption|exact Sl.rd (by assumption) qI|exact By.rd (by assumption))) ?_;refine A0 (D0 0 4) ?_;refine C2 E ?_ ?_<;>intro hc
 . have h0:=h.rd.isNil hc;obtain rfl:w=[]:=Bd h0;refine A1 (as_ (A0 (D1 2) (A9 (tr ?_))));exact ⟨_,[],[],H2 E E,qZ,Sl.nil⟩
 . refine A4 (nx (D1 0) (A1 ?_));refine A2 E (C4 (e:=5) (sz:=1) (z:=[]) kR e0 bd0 E λb5=>?_);refine mv_ ?_;refine A2 E (G6 (e:=5) (sz:=1) (by_:=1) E E kR E (Sl.fresh (n:=0) (cs:=[]) (e:=5) E qD) (h.rd.mono qS) E7 qP (by unfold maxLen;omega) qO E λv7 B7 hs7=>?_);refine as_ (A0 (D1 2) (A9 ?_));exact ⟨_,B7,[],H2 E E,Ci (Ch qP),W6 hs7 qO qM⟩
theorem B9q(pb:Nat)(s:Ps)(vw:Value)(w:LN)(h:He)(p r u:Value)(MP A:Mem)(hP:Prm pb s MP)(hn:s.ts.length<=1040000)(hw:By A vw w)(gh:HeR A h p r u)(hil:h.ig.length<=1000000)(hl:h.ia.length+h.ig.length+h.key.length<=1000000)(hG:Glb A):FnX prog 24 [(vP pb),vw,.agg (heC p r u h).toArray] MP A λq M J=>Prm pb (A2s s [B9p,w,heW [] h]) M∧By J q (A3q s [B9p,w,heW [] h]):=by haveI:=hw.cel;haveI:=gh.ia.cel;haveI:=gh.ig.cel;haveI:=gh.key.cel;unfold heC;refine Co (N:=15) func24 E E E λw_=>?_;refine A8 (D5 0 1 2) (A1 ?_);refine A2 E (bx_ λb5=>?_);refine as_ (A0 (D5 0 1 5) (A1 (mv_ ?_)));refine A2 E (C4 (e:=5) (sz:=1) (z:=[zu8,zu8,zu8,zu8,zu8,zu8,zu8]) kR (eS E (eS E (eS E (eS E (eS E (eS E (eS E e0))))))) (bdS 0 1 E qR (bdS 1 1 E qR (bdS 2 1 E qR (bdS 3 1 E qR (bdS 4 1 E qR (bdS 5 1 E qR (bdS 6 1 E qR bd0))))))) E λb8=>?_);refine A2 E (A3E E kR Cv E ?_);refine A3J (B:=[_]) (PickC.sing).perm ?_;refine mV_ E (lQ_ (F2 (n:=6) (vs:=[p,r,u,(vU h.signed),.bool h.has,(vU h.once)]) E kR Ce E (D4 [] [p,r,u,(vU h.signed),.bool h.has,(vU h.once)] [])) ?_);refine C6 (aS E a0) kR (C1d h p r u _ (gh.mono qS) qO) E ?_;rintro v12 M12 J12 ⟨rfl,h12⟩;haveI:=h12.cel;refine A2 E (C4 (e:=22) (sz:=1) (z:=[vS,vS,vS]) kR (eS E (eS E (eS E e0))) (bdS 0 1 E qR (bdS 1 1 E qR (bdS 2 1 E qR bd0))) E λb13=>?_);refine A2 E (C8 (Mc:=MP) (R:=_) (aS E (aS E (a0))) kR qP (C1g pb s _ [B9p,w,heW [] h] MP _ hP qO ⟨_,Cr (n:=3) Ce qR,Lst.cons ⟨Cr (n:=7) (cs:=nums .u8 B9p) Ce qR,by decide,by decide⟩ (Lst.cons (hw.mono qS) (Lst.cons (h12.mono qS) Lst.nil))⟩ (show 3<=100 by decide) (λz hz=>by simp only [Cz,Da,or_false] at hz;rcases hz with rfl|rfl|rfl;decide;exact hw.lt;exact h12.lt) hG.up) E ?_);rintro v14 M14 J14 ⟨hP14,h14⟩;haveI:=h14.cel;refine as_ (A0 (D1 6) (A9 ?_));exact ⟨_,M14,[],H2 E E,Ci (Ch qP),hP14,h14.mono qS⟩
theorem A7c(x:Ses)(vi vw p0 r0 u0 vo vt vr vk0 vl vst:Value)(e:Ev)(vs p r u vk vg:Value)(A:Mem)(hx:SeR A x vi vw p0 r0 u0 vo vt vr vk0 vl vst)(he_:EvR A e vs p r u vk vg)(hwi:x.wi.length<=1000000)(hl:e.ses.length+e.he.ia.length+e.he.ig.length+e.he.key.length<=1000000):FnX prog 28 [.agg (seC vi vw p0 r0 u0 vo vt vr vk0 vl vst x).toArray,.agg (evC vs p r u vk vg e).toArray] [] A λq M J=>M=[]∧By J q (x.wi++frW [] e):=by haveI:=he_.ses.cel;haveI:=he_.he.ia.cel;haveI:=he_.he.ig.cel;haveI:=he_.he.key.cel;haveI:=he_.hk.cel;haveI:=he_.g.cel;haveI:=hx.id.cel;haveI:=hx.wi.cel;haveI:=hx.he.ia.cel;haveI:=hx.he.ig.cel;haveI:=hx.he.key.cel;haveI:=hx.r.own.cel;haveI:=hx.r.their.cel;haveI:=hx.r.root.cel;haveI:=hx.r.sk.cel;haveI:=hx.r.tk.cel;haveI:=hx.r.st.cel;unfold seC evC;refine Co (N:=11) func28 E E E λw_=>?_;refine A8 (D0 0 1) (A1 ?_);refine A2 E (bx_ λb2=>?_);refine A2 E (bx_ λb3=>?_);refine as_ (A0 (D0 2 3) ?_);refine C9 [0,1,2,3,4,6] [(0,0),(1,1),(3,1),(2,2),(4,2),(5,2),(6,0)] kR kR λhs=>?_;refine fQ_ E (qf_ 1 1) ?_;refine fR_ E ql_ ?_;refine fR_ E (F2 (n:=16) (vs:=(Zd vs p r u vk vg e)) E kR Ce E (D4 [] (Zd vs p r u vk vg e) [])) ?_;refine G5 E (aS E a0) kR (B8d vw x.wi _ (hx.wi.mono qS)) E ?_;rintro v7 M7 J7 hs7;haveI:=hs7.cel;refine G5 E (aS E a0) kR (C1e e vs p r u vk vg _ (he_.mono qS) qO) E ?_;rintro v9 M9 J9 ⟨rfl,h9⟩;haveI:=h9.cel;have h9l:=A61 [] e;have hwl:=hx.wi.len;refine G3 E E E (G6 (e:=5) (sz:=1) (by_:=1) E E kR E hs7 (h9.rd.mono qS) E7 qP (by unfold maxLen;simp at h9l;omega) (by simp at h9l;omega) E λv10 B10 hs10=>?_);haveI:=hs10.cel;refine fA_ E E (E4 (D1 4) (A9 ?_));exact ⟨_,[],B10,H2 E E,Cj qP qZ,E,⟨A0J (hs10.rd λz hz=>by simp [hz]) (by rw [An]) (by rw [H4]),(λz hz=>(List.mem_append.1 hz).elim (hx.wi.lt z) (h9.lt z)),by rw [An];simp at h9l;omega⟩⟩

structure OpnH(s:Ps)(r:Rsd)(hk:LN)(hp hn:Nat):Prop where
  sel:X9 s.ts
  k1:∀k,A5s r.sks hk hn=some k->Kok s k
  s2:X9 (opD (opB s r hk hp) hn).ts
  k2:Kok (opD (opB s r hk hp) hn) (A5u (opB s r hk hp) hn)
def K32(w:LN):Prop:=(∀x∈w,x<256)∧w.length=32
def KK(s:Ps)(w:LN):Prop:=Kok s w∧K32 w
structure GS(s:Ps):Prop where
  tok:Tok s.ts
  sel:X9 s.ts
theorem KK.ext{s s':Ps}{w:LN}(h:KK s w)(he:Pext s s'):KK s' w:=⟨h.1.ext he,h.2⟩
theorem KK.rok{s:Ps}{w:LN}(h:KK s w):s.real=false->Rok s.ts w:=h.1.rok
theorem A9h(i:Int):K32 (bts i):=⟨B6J _,A0U _ qD⟩
theorem B8e(s:Ps):K32 (F3 s):=by
  cases hr:s.real with
  | true =>
    rw [A6A hr,B4q,A6O];exact ⟨A4r _ _,A09 _ _⟩
  | false=>rw [A38 hr];exact A9h _
theorem X9.fresh(h:X9 s.ts):X9 (E5 s).ts:=by
  cases hr:s.real with
  | true=>rw [A6z hr];exact h
  | false=>rw [A2V hr];exact h.not (show (1:Nat)≠6 by decide)
theorem X9.pub(h:X9 s.ts)(w:LN):X9 (H3 s w).ts:=by
  unfold H3;split
  . exact h
  . exact (h.rd w).not (show (3:Nat)≠6 by decide)
theorem C5C(ts:List Tm)(s o:Int):(agT ts s o).kind=4:=by unfold agT;split<;>(try split)<;>(try split)<;>rfl
theorem X9.agr(h:X9 s.ts)(a B:LN):X9 (K7 s a B).ts:=by
  unfold K7;split
  . exact h
  . exact ((h.rd a).rd B).not (by rw [C5C];decide)
theorem X9.der(h:X9 s.ts)(key:LN)(ws:List (LN))(lb:LN)(n:Nat):X9 (A39 s key ws lb n).ts:=by
  cases hr:s.real with
  | true=>rw [A5N hr];exact h
  | false =>
    rw [A3K hr]
    have h1:∀(ws:List (LN)) (st:List Tm×List Int),X9 st.1->X9 (ws.foldl A0I st).1:=by
      intro ws
      induction ws with
      | nil=>intro st h;exact h
      | cons w ws ih=>intro st h;exact ih _ (h.rd w)
    have h2:∀(ts:List Tm) (ofs:List Int) (n:Nat),X9 ts->X9 (N6 ts ofs lb n).1:=by
      intro ts ofs n
      induction n with
      | zero=>exact id
      | succ n ih =>
        intro h;rw [show N6 ts ofs lb (n+1)=B1B ofs lb (N6 ts ofs lb n) n from Q2 n];exact (ih h).not (show (5:Nat)≠6 by decide)
    exact h2 _ _ n (h1 (key::ws) (s.ts,[]) h)
theorem B5z(h:GS s)(hn:s.n<1000000000):GS (E5 s)∧KK (E5 s) (F3 s):=by
  obtain ⟨h1,h2⟩:=B3c h.tok qO;refine ⟨⟨?_,h.sel.fresh⟩,h1,B8e s⟩
  cases hr:s.real with
  | true=>rw [A6z hr];exact h.tok
  | false=>exact h2 hr
theorem B5A{w:LN}(h:GS s)(hw:KK s w)(hl:s.ts.length<=1040000):GS (H3 s w)∧T0 (H3 s w) w (I5 s w):=by obtain ⟨h1,-,h3⟩:=C3t hw.1 h.tok qO;exact ⟨⟨h3,h.sel.pub w⟩,h1⟩
variable{b B:LN}
theorem T0.k32(h:T0 s b B):K32 B:=by
  unfold T0 at h;split at h
  . rw [h];exact ⟨B4c _ _,A1M _ _⟩
  . obtain ⟨i,j,-,-,-,rfl⟩:=h;exact A9h _
theorem T0.kk(h:T0 s b B):KK s B:=⟨h.kok.2,h.k32⟩
variable{a:LN}
theorem A3l.kk{k:LN}(h:A3l s a b k):KK s k:=by
  cases hr:s.real with
  | true =>
    rw [A3l.t hr] at h;exact ⟨λh2=>(by rw [hr] at h2;cases h2),by rw [h.1];exact ⟨B4c _ _,A1M _ _⟩⟩
  | false =>
    rw [A3l.f hr] at h;obtain ⟨i,j,m,-,-,-,-,h5,rfl⟩:=h;exact ⟨λ_=>⟨m,(Ac.1 h5).1,E⟩,A9h _⟩
theorem C5D(h:GS s)(ha:KK s a)(hB:T0 s b B)(hb:K32 b)(hl:s.ts.length<=1040000):GS (K7 s a B)∧A3l (K7 s a B) a b (A1g s a B):=by obtain ⟨h1,h2⟩:=C3u ha.1 hB h.tok qO ha.2.1 hb.1;exact ⟨⟨h2,h.sel.agr a B⟩,h1⟩
def B5B(s:Ps)(key:LN)(ws:List (LN))(lb:LN)(n:Nat)(L:List (LN)):Prop:=A39 s key ws lb n=s∧A5f s key ws lb n=L∧∀w∈key::ws,KK s w
theorem C3Y{lb:LN}{ws:List (LN)}(h:GS s)(hk:∀w∈key::ws,KK s w)(hb:B256 lb)(hbl:lb.length<=1000)(hn:n<=8)(hl:s.ts.length+ws.length<=1040000) :
    GS (A39 s key ws lb n)∧(∀i,i<n->KK (A39 s key ws lb n) ((A5f s key ws lb n).getD i []))∧B5B (A39 s key ws lb n) key ws lb n (A5f s key ws lb n):=by
  have hr:s.real=false->∀w∈key::ws,Rok s.ts w:=λhr w hw=>(hk w hw).rok hr;have ht:=C0V h.tok hr hb hbl (show n<=100 by omega) qO;have he:=A8a s key ws lb n;have hlen:=A2W s key ws lb n;obtain ⟨a,b⟩:=A8b h.tok hr hb hbl (show n<=100 by omega) qO (Pext.refl _) ht qO;exact ⟨⟨ht,h.sel.der _ _ _ _⟩,λi hi=>⟨C0W h.tok hr hb hbl qO qO hi,C0Y hn hi⟩,a,b,λw hw=>(hk w hw).ext he.p⟩
theorem B5B.ext{s s':Ps}{key lb:LN}{ws:List (LN)}{n:Nat}{L:List (LN)}(h:B5B s key ws lb n L)(he:Pext s s')(hg:GS s)(hg':GS s')(hb:B256 lb)(hbl:lb.length<=1000)(hn:n<=8)(hl:s'.ts.length+ws.length<=1040000):B5B s' key ws lb n L:=by
  obtain ⟨l,e⟩:=he.ts;have hle:s.ts.length<=s'.ts.length:=by rw [e,An];omega
  have hr:s.real=false->∀w∈key::ws,Rok s.ts w:=λhr w hw=>(h.2.2 w hw).rok hr;obtain ⟨a,b⟩:=A8b hg.tok hr hb hbl (show n<=100 by omega) qO (by rw [h.1];exact he) hg'.tok qO;exact ⟨a,b.trans h.2.1,λw hw=>(h.2.2 w hw).ext he⟩
theorem B5C:B256 A2u:=⟨by decide⟩
theorem B5D:B256 A3W:=⟨by decide⟩
structure TrnAt(s:Ps)(root a b R C:LN):Prop where
  ex:∃k L,A3l s a b k∧B5B s root [k] A2u 2 L∧L.getD 0 []=R∧L.getD 1 []=C
theorem B5E(s:Ps)(root sec pub:LN):Ext s (A44 s root sec pub):=(B4o s sec pub).trans (A8a _ _ _ _ _)
theorem C3Z(s:Ps)(a B:LN):(K7 s a B).ts.length<=s.ts.length+3:=T3 s a B
theorem C1O{root:LN}(h:GS s)(hr:KK s root)(ha:KK s a)(hB:T0 s b B)(hb:K32 b)(hl:s.ts.length<=1030000) :
    GS (A44 s root a B)∧KK (A44 s root a B) (A89 s root a B)∧KK (A44 s root a B) (A8s s root a B)∧TrnAt (A44 s root a B) root a b (A89 s root a B) (A8s s root a B):=by
  obtain ⟨h1,h2⟩:=C5D h ha hB hb qO;have hle:=C3Z s a B
  obtain ⟨g1,g2,g3⟩:=C3Y (key:=root) (ws:=[A1g s a B]) (lb:=A2u) (n:=2) h1 (λw hw=>by
    rcases List.mem_cons.1 hw with rfl|hw
    . exact hr.ext (B4o s a B).p
    . rw [List.mem_singleton.1 hw];exact h2.kk) B5C qD qD (by show _+1<=_;omega)
  exact ⟨g1,g2 0 qD,g2 1 qD,⟨_,_,h2.ext (A8a _ _ _ _ _).p,g3,E,E⟩⟩
theorem TrnAt.ext{s s':Ps}{root a b R C:LN}(h:TrnAt s root a b R C)(he:Pext s s')(hg:GS s)(hg':GS s')(hl:s'.ts.length<=1030000):TrnAt s' root a b R C:=by obtain ⟨k,L,h1,h2,h3,h4⟩:=h.ex;exact ⟨k,L,h1.ext he,h2.ext he hg hg' B5C qD qD (by show _+1<=_;omega),h3,h4⟩
theorem TrnAt.eq{s:Ps}{root a b B R C:LN}(h:TrnAt s root a b R C)(hB:T0 s b B)(hg:GS s)(hl:s.ts.length<=1030000):A44 s root a B=s∧A89 s root a B=R∧A8s s root a B=C:=by obtain ⟨k,L,h1,h2,h3,h4⟩:=h.ex;obtain ⟨e1,e2⟩:=h1.eq hB hg.tok qO;unfold A89 A8s C3L A44;rw [e1,e2,h2.1,h2.2.1];exact ⟨E,h3,h4⟩
def A5b(s:Ps)(c k c':LN):Prop:=∃L,B5B s c [] A3W 2 L∧L.getD 0 []=k∧L.getD 1 []=c'
theorem A54{c:LN}(h:GS s)(hc:KK s c)(hl:s.ts.length<=1030000):GS (Z7 s c)∧KK (Z7 s c) (X7 s c)∧KK (Z7 s c) (A1i s c)∧A5b (Z7 s c) c (X7 s c) (A1i s c):=by obtain ⟨g1,g2,g3⟩:=C3Y (key:=c) (ws:=[]) (lb:=A3W) (n:=2) h (λw hw=>by rw [List.mem_singleton.1 hw];exact hc) B5D qD qD (by show _+0<=_;omega);exact ⟨g1,g2 0 qD,g2 1 qD,_,g3,E,E⟩
theorem A9i(s:Ps)(c:LN):Ext s (Z7 s c):=A8a _ _ _ _ _
theorem A5b.ext{s s':Ps}{c k c':LN}(h:A5b s c k c')(he:Pext s s')(hg:GS s)(hg':GS s')(hl:s'.ts.length<=1030000):A5b s' c k c':=by obtain ⟨L,h1,h2,h3⟩:=h;exact ⟨L,h1.ext he hg hg' B5D qD qD (by show _+0<=_;omega),h2,h3⟩
theorem A5b.eq{c k c':LN}(h:A5b s c k c'):Z7 s c=s∧X7 s c=k∧A1i s c=c':=by obtain ⟨L,h1,h2,h3⟩:=h;unfold X7 A1i C5v Z7;rw [h1.1,h1.2.1];exact ⟨E,h2,h3⟩
theorem C30(s:Ps)(w a b:LN):Ext s (B1D s w a b):=by
  unfold B1D;split
  . exact Ext.refl s
  . exact ⟨⟨E,A93 _ _ _⟩,E,Av _⟩
theorem C5E{w:LN}(h:GS s)(hw:KK s w)(ha:∀x∈a,x<256)(hb:∀x∈b,x<256)(la:a.length<=16777216)(lb:b.length<=16777216)(hl:s.ts.length<=1030000):GS (B1D s w a b):=by
  unfold B1D;split
  . exact h
  . rename_i hr;obtain ⟨i,hi,rfl⟩:=hw.1 (by cases hq:s.real with|true=>exact absurd hq hr|false=>rfl);obtain ⟨e1,e2⟩:=C5s hi qO λx=>A3M x a b;rw [e1];obtain ⟨l,g1,g2,g3,g4⟩:=A4C (B3e (x:=((i:Nat):Int)) (A6T qO) ha hb la lb) h.tok;exact ⟨g4,h.sel.add λ_=>⟨_,a,b,E,hb,lb⟩⟩
theorem B0s(s:Ps)(w a b:LN):(B1D s w a b).ts.length<=s.ts.length+2∧(B1D s w a b).n=s.n:=by
  unfold B1D;split
  . exact ⟨by omega,E⟩
  . refine ⟨?_,E⟩;have h1:=S9 (ts:=s.ts) (ws:=w);have h2:=A0T (ts:=rdT s.ts w) (t:=A3M ((rdI s.ts w:Nat):Int) a b);show (add (rdT s.ts w) (A3M ((rdI s.ts w:Nat):Int) a b)).length<=_;omega

def he0:He:=⟨[],[],[],0,false,0⟩
def Q7(x:Ses)(r2:Rsd):Ses:=⟨x.id,x.wi,he0,false,r2⟩
theorem B8f:HeR R he0 (vS) (vS) (vS):=⟨By.nil,By.nil.i,By.nil,by decide,by decide⟩
set_option maxHeartbeats 1000000 in
theorem B5F(pb:Nat)(s:Ps)(x:Ses)(vi vw p0 r0 u0 vo vt vr vk0 vl vst:Value)(e:Ev)(vz p r u vk vg:Value)(s2:Ps)(r2:Rsd)(tx:LN)(MP A:Mem)(hP:Prm pb s MP)(hn_:s.ts.length+500<=1000000)(hsn:s.n<1000000000)(hx:SeR A x vi vw p0 r0 u0 vo vt vr vk0 vl vst)(he_:EvR A e vz p r u vk vg)(hid:x.id=e.ses)(hwi:x.wi.length<=1000000)(hel:e.ses.length+e.he.ia.length+e.he.ig.length+e.he.key.length<=1000000)(hfl:(x.wi++frW [] e).length+e.hk.length<=1000000)(hgl:e.g.length<=10000000)(hO:OpnH s x.r e.hk e.hp e.hn)(hoz:T8 s x.r (x.wi++frW [] e) e.hk e.hp e.hn e.g=(s2,r2,0,tx))(hG:Glb A):FnX prog 10 [(vP pb),.agg (seC vi vw p0 r0 u0 vo vt vr vk0 vl vst x).toArray,.agg (evC vz p r u vk vg e).toArray] MP A λq M J=>∃wo wt wr wk wl wq q2,q=.tuple #[.agg (seC vi vw (vS) (vS) (vS) wo wt wr wk wl wq (Q7 x r2)).toArray,q2,U7]∧Prm pb s2 M∧SeR (J++A) (Q7 x r2) vi vw (vS) (vS) (vS) wo wt wr wk wl wq∧By (J++A) q2 tx:=by
 haveI:=he_.ses.cel;haveI:=he_.he.ia.cel;haveI:=he_.he.ig.cel;haveI:=he_.he.key.cel;haveI:=he_.hk.cel;haveI:=he_.g.cel;haveI:=hx.id.cel;haveI:=hx.wi.cel;haveI:=hx.he.ia.cel;haveI:=hx.he.ig.cel;haveI:=hx.he.key.cel;haveI:=hx.r.own.cel;haveI:=hx.r.their.cel;haveI:=hx.r.root.cel;haveI:=hx.r.sk.cel;haveI:=hx.r.tk.cel;haveI:=hx.r.st.cel;unfold seC evC;refine Co (N:=45) func10 E E E λw_=>?_;refine A8 (D5 0 1 2) (A1 ?_);refine A2 E (bx_ λb4=>?_);refine A2 E (bx_ λb5=>?_);refine A2 E (C3 (cs:=[vS,vS,vS,vS,vS,D3,.bool false,D3,.bool false,vS,vS,vS,vS,D3,vS,D3,D3,.pointer none]) kR E λb6=>?_);refine aS_ E (aS_ E (A0 (D7 0 4 5 6) (A3 (A1 (lQ_ (qf_ 0 0) ?_)))));refine lQ_ ql_ ?_;refine lQ_ (qf_ 4 4) ?_;refine lQ_ ql_ ?_;refine D8 (aS E (aS E a0)) kR (A0F vi vz x.id e.ses _ (hx.id.mono qS) (he_.ses.mono qS)) E ?_;rw [decide_eq_true hid];refine lQ_ (V7 E) (A0 (E9 0 4 5 6 17) ?_);refine C7 E ?_;refine A4 (nx (D7 0 4 5 6) ?_);refine F9 (MP) (_) true [0,1,2,3,4,5,6,7,8,9,10,11,12,13,14,15,17,18] [(0,0),(1,0),(2,1),(3,1),(4,1),(6,0),(7,1),(8,0),(9,1),(5,8),(10,8),(11,8),(12,8),(15,8),(13,9),(14,10),(16,2),(17,0),(18,0)] kR kR qP λhs K n0 hKm hKs hKn=>?_;refine kM_ E E (kQ_ E (qf_ 9 9) ?_);refine I8 hs E hKs (F2 (n:=9) (vs:=(Za vo vt vr vk0 vl vst x.r)) E kR Ce E (D4 (Zb vi vw p0 r0 u0 x) (Za vo vt vr vk0 vl vst x.r) [])) ?_;refine I8 hs E hKs (F2 (n:=18) (vs:=(Zc vi vw p0 r0 u0 vo vt vr vk0 vl vst x)) E kR Ce E (D4 [] (Zc vi vw p0 r0 u0 vo vt vr vk0 vl vst x) [])) ?_;refine I8 hs E hKs (F2 (n:=16) (vs:=(Zd vz p r u vk vg e)) E kR Ce E (D4 [] (Zd vz p r u vk vg e) [])) ?_;refine kQ_ E (qf_ 12 12) ?_;refine I8 hs E hKs (F2 (n:=3) (vs:=[vk,(vU e.hp),(vU e.hn)]) E kR Ce E (D4 [.int .i64 e.fu,.int .i64 e.fd,.int .i64 e.tu,.int .i64 e.td,vz,.bool e.has,p,r,u,(vU e.he.signed),.bool e.he.has,(vU e.he.once)] [vk,(vU e.hp),(vU e.hn)] [vg])) ?_;refine kQ_ E (qf_ 15 15) ?_;refine I8 hs E hKs ql_ ?_
 refine A04 [⟨5,25,none,[],λv B R=>B=[]∧By R v (x.wi++frW [] e)⟩,⟨10,30,none,MP,λv B R=>∃q1 q2,v=.tuple #[q1,q2,U7]∧Prm pb s2 B∧RsV R q1 r2∧By R q2 tx⟩,⟨11,19,none,[],λv B R=>B=[]∧∃q1 q2,v=.tuple #[q1,q2,U7]∧RsV R q1 r2∧By R q2 tx⟩,⟨12,31,none,[],λv B R=>B=[]∧RsV R v r2⟩,⟨15,9,none,[],λv B _=>∃b,v=(vP b)∧B=[(b,blk [vS,vS,vS,vS,D3,vS,D3,D3,.pointer none] 47)]⟩] [⟨13,32,none,[],λv B R=>B=[]∧By R v tx⟩,⟨14,33,none,[],λv B R=>B=[]∧v=.int .i64 0⟩] ([(b6,blk Ze 49),(b5,blk (Zd vz p r u vk vg e) 57),(b4,blk (Zc vi vw p0 r0 u0 vo vt vr vk0 vl vst x) 49)]) (λbs=>[bs 5,bs 10,bs 11,bs 12,bs 15,bs 13,bs 14]) (hKn E) (by simp [X6,A1e]) (show ∀m∈([[],MP,[],[],[],[],[]]:List Mem),∀x∈m,K x.1 from A7 gn0 (A7 (hKm) (A7 gn0 (A7 gn0 (A7 gn0 (A7 gn0 (A7 gn0 (K5)))))))) kR (λ_=>by first|rfl|kernel_rfl)
  (A7 (λ_ _ _ _ h hp=>⟨hp.1,hp.2.mono h⟩) (A7 (λ_ _ _ _ h ⟨q1,q2,e_,p1,p2,p3⟩=>⟨q1,q2,e_,p1,p2.mono h,p3.mono h⟩) (A7 (λ_ _ _ _ h ⟨e0,q1,q2,e_,p2,p3⟩=>⟨e0,q1,q2,e_,p2.mono h,p3.mono h⟩) (A7 (λ_ _ _ _ h hp=>⟨hp.1,hp.2.mono h⟩) (A7 gM (A7 (λ_ _ _ _ h hp=>⟨hp.1,hp.2.mono h⟩) (A7 gM (K5)))))))) nd_ nd_ dl_
  hs (List.cons_ne_nil _ _) (gC ?_ (gC ?_ (gC ?_ (gC ?_ (gC ?_ (K5)))))) (A7 ⟨E,E,_,_,_,_,E,λvs bs Rj hj ha=>?_⟩ (A7 ⟨E,E,_,_,_,_,E,λvs bs Rj hj ha=>?_⟩ (K5))) ?_
 . intro _ _ _ Rj _ _ hj hjr _;dsimp only [Gc.inp];refine D9 (aS E (aS E a0)) kR (FnX.amb (A:=Rj) (λx hx=>by have:=hjr x hx;simp [this]) (A7c x vi vw p0 r0 u0 vo vt vr vk0 vl vst e vz p r u vk vg Rj (hx.mono (λx hx=>hj x (qS x hx))) (he_.mono (λx hx=>hj x (qS x hx))) hwi hel)) E ?_;rintro r M1 J1 ⟨rfl,hh⟩;exact ⟨_,E,E,hh.mono λx hx=>by simp [hx]⟩
 . intro _ _ R Rj _ _ hj hjr ha;dsimp only [Gc.inp];have g5:=gx 0 ha;dsimp only at g5;obtain ⟨-,h5⟩:=g5;haveI:=h5.cel;refine C8 (Mc:=MP) (R:=[]) (aS E (aS E (aS E (aS E (aS E (a0)))))) kR qM (FnX.amb (A:=Rj) (λx hx=>by have:=hjr x hx;simp [this]) (C1N pb s x.r vo vt vr vk0 vl vst _ vk vg (x.wi++frW [] e) e.hk e.g e.hp e.hn MP Rj hP hn_ hsn (hx.r.mono (λx hx=>hj x (qS x hx))) h5 (he_.hk.mono (λx hx=>hj x (qS x hx))) hfl he_.hp he_.hn (he_.g.mono (λx hx=>hj x (qS x hx))) hgl hO.sel hO.k1 hO.s2 hO.k2 (hG.sub (λx hx=>hj x (qS x hx))))) E ?_;rintro v27 M27 J27 ⟨q1,q2,rfl,hP27,p2,p3⟩;rw [hoz] at hP27 p2 p3 ⊢;exact ⟨_,E,q1,q2,E,by simpa using hP27,p2.mono (λx hx=>by simpa using hx),p3.mono (λx hx=>by simpa using hx)⟩
 . intro _ _ _ _ _ _ _ _ ha;dsimp only [Gc.inp];have g10:=gx 1 ha;dsimp only at g10;obtain ⟨q1,q2,e_,-,k⟩:=g10;exact Cp qm_ E ⟨_,E,E,q1,q2,e_,k⟩
 . intro vs bs _ _ _ _ _ _ ha;dsimp only [Gc.inp];have g11:=gx 2 ha;dsimp only at g11;obtain ⟨-,q1,q2,e_,k,-⟩:=g11;exact Cp (I3 (vs:=#[q1,q2,U7]) (by rw [<- e_];rfl) E) E ⟨_,E,E,k⟩
 .
  intros
  dsimp only [Gc.inp]
  exact C3 (cs:=[vS,vS,vS,vS,D3,vS,D3,D3,.pointer none]) kR E λb=>⟨_,E,b,E,E⟩
 . have g11:=gx 2 ha;dsimp only at g11;obtain ⟨-,q1,q2,e_,-,k⟩:=g11;exact ⟨_,I3 (vs:=#[q1,q2,U7]) (by rw [<- e_];rfl) E,E,k⟩
 . have g11:=gx 2 ha;dsimp only at g11;obtain ⟨-,q1,q2,e_,-⟩:=g11;exact ⟨_,I3 (vs:=#[q1,q2,U7]) (by rw [<- e_];rfl) E,E,E⟩
 intro vs bs Jn0 hφ hKK;clear hKK;have g5:=gy 0 hφ;have g10:=gy 1 hφ;have g11:=gy 2 hφ;have g12:=gy 3 hφ;have g15:=gy 4 hφ;have g13:=gy 5 hφ;have g14:=gy 6 hφ;dsimp only at g5 g10 g11 g12 g15 g13 g14;clear hφ;dsimp only [Q9,X6,List.foldr,List.map,Cy,Cw];generalize bs 5=B25,bs 10=B30,bs 11=B19,bs 12=B31,bs 15=B9,bs 13=B32,bs 14=B33,vs 5=u25,vs 10=u30,vs 11=u19,vs 12=u31,vs 15=u9,vs 13=u32,vs 14=u33 at *;obtain ⟨-,-,-,hP27,-⟩:=g10;clear g11;obtain ⟨rfl,h25⟩:=g5;obtain ⟨rfl,wo,wt,wr,wk,wl,wq,rfl,hn1⟩:=g12;obtain ⟨rfl,h29⟩:=g13;obtain ⟨rfl,rfl⟩:=g14;obtain ⟨b9,rfl,rfl⟩:=g15;haveI:=hn1.own.cel;haveI:=hn1.their.cel;haveI:=hn1.root.cel;haveI:=hn1.sk.cel;haveI:=hn1.tk.cel;haveI:=hn1.st.cel;haveI:=h29.cel;unfold rsC;refine K6 E E E (A5 (vs:=(Za wo wt wr wk wl wq r2)) E E E kR qR (A7 hn1.own.one (A7 hn1.their.one (A7 hn1.root.one (A7 hn1.sk.one (A7 E (A7 hn1.tk.one (A7 E (A7 E (A7 hn1.st.one K5))))))))) Cv ?_);refine kQ_ E (G2 E) (kQ_ E (G2 E) (I0 (E9 4 6 9 10 11) (A3 (A1 (mV_ E (lQ_ (F6 false E E (neF E)) (A0 (G9 4 6 9 10 11 35) ?_)))))));refine C7 E ?_;refine A4 (nx (D7 4 6 9 10) (A1 (lQ_ (F2 (n:=9) (vs:=(Za wo wt wr wk wl wq r2)) E kR Ce E (D4 [] (Za wo wt wr wk wl wq r2) [])) ?_)));refine lQ_ (E6 (place:=λx=>#[(0,2),(2,1),(3,1),(4,1),(5,1)][x]?) (z:=[vS,vS,vS,D3,.bool false,D3]) (λ_=>by kernel_rfl) e0 bd0) ?_;refine lQ_ (qf_ 9 9) ?_;refine A2 E (P1 (vs:=(Za wo wt wr wk wl wq r2)) (cs':=[vi,vw,p0,r0,u0,(vU x.he.signed),.bool x.he.has,(vU x.he.once),.bool x.tell,wo,wt,wr,wk,(vU r2.sn),wl,(vU r2.tn),(vU r2.prev),wq]) E E E kR (by exact (show 9+9<=18 by decide)) (A7 hn1.own.one (A7 hn1.their.one (A7 hn1.root.one (A7 hn1.sk.one (A7 E (A7 hn1.tk.one (A7 E (A7 E (A7 hn1.st.one K5))))))))) E Cv ?_);refine lQ_ (qf_ 8 8) ?_;refine A2 E (E1 E E E kR Ct Cv ?_);refine lQ_ (qf_ 2 2) ?_;refine A2 E (P1 (vs:=[vS,vS,vS,D3,.bool false,D3]) (cs':=[vi,vw,vS,vS,vS,D3,.bool false,D3,.bool false,wo,wt,wr,wk,(vU r2.sn),wl,(vU r2.tn),(vU r2.prev),wq]) E E E kR (by exact (show 2+6<=18 by decide)) al6 E Cv ?_);refine A0 (D5 4 6 10) (A1 (lQ_ (F2 (n:=18) (vs:=[vi,vw,vS,vS,vS,D3,.bool false,D3,.bool false,wo,wt,wr,wk,(vU r2.sn),wl,(vU r2.tn),(vU r2.prev),wq]) E kR Ce E (D4 [] [vi,vw,vS,vS,vS,D3,.bool false,D3,.bool false,wo,wt,wr,wk,(vU r2.sn),wl,(vU r2.tn),(vU r2.prev),wq] [])) (mv_ ?_)));refine A2 E (A5 (vs:=[vi,vw,vS,vS,vS,D3,.bool false,D3,.bool false,wo,wt,wr,wk,(vU r2.sn),wl,(vU r2.tn),(vU r2.prev),wq]) E E E kR qR (A7 hx.id.one (A7 hx.wi.one (A7 E (A7 E (A7 E (A7 E (A7 E (A7 E (A7 E (A7 hn1.own.one (A7 hn1.their.one (A7 hn1.root.one (A7 hn1.sk.one (A7 E (A7 hn1.tk.one (A7 E (A7 E (A7 hn1.st.one K5)))))))))))))))))) Cv ?_);refine as_ (as_ (A0 (D5 6 7 8) (A9 ?_)));exact ⟨_,B30,[],A3S (n:=18) E E E E kR Ce qR,Ci (Ch qP),wo,wt,wr,wk,wl,wq,_,E,hP27,⟨hx.id.mono qS,hx.wi.mono qS,B8f,(show 0<=1000000 by decide),hn1.mono qS⟩,h29.mono qS⟩

end Go.Proofs.YtgpjndfgjjlhaaaGreatDoor
