/- Part 9 of the texts of this claim, one behind the other. -/
import Derived.Test.YtgpjndfgjjlhaaaGreatDoorB8
import Derived.Lib.AppendStr
set_option linter.unusedVariables false
set_option linter.unusedSimpArgs false
set_option maxRecDepth 100000
open Go.Proofs.Tryz
noncomputable section
namespace Go.Px
open Go.Lib (strCells strCells_length strCells_oneCell)
variable{P:Program}{t u e ty:TypeId}{v:Value}{xs:List Value}
theorem A62{n:Nat}{B R:Mem}{w:World}{s:ByteArray}(ht:A1t P t=some (e,1,1))(hu2:P.underlying u=some .string)
    (hs:Sl 1 v n xs B) (hB:∀q∈B,q∈R) (hw:Fx R w) (hmax:n+s.size<=maxLen) (hbytes:n+s.size<=140737488355328) :
    ∃v' w' B',(Builtin.append_ #[t,u] ty #[v,.string s]).run P w=.ok v' w'∧Sl 1 v' (n+s.size) (xs++strCells s) B' ∧
      ((w'=w∧B'=B)∨(∃(b:Nat) (cs cs':List Value) (e':TypeId),B=[(b,blk cs e')]∧B'=[(b,blk cs' e')]∧w'=w.setRow b cs'.toArray)∨(∃o',B'=[(w.heap.size,o')]∧w'=w.drew.alloc o')):=by
  obtain ⟨i,z,hu,hi,hz,hzs,his,hib⟩:=Q1 ht;have hsmall:n+s.size<=9223372036854775807:=by simp only [maxLen] at hmax;omega
  have hf:=λw=>Lib.run_firstCells_string (P:=P) w 1 s;have hul:=strCells_length s;generalize hys:strCells s=ys at *;generalize hm:s.size=m at *;by_cases h0:m=0
  . subst h0;obtain rfl:ys=[]:=Bd hul;have hf:=hf w;refine ⟨v,w,B,?_,by simpa using hs,.inl ⟨E,E⟩⟩;rcases hs with ⟨p,rfl,rfl,rfl,rfl⟩|⟨b,o,cap,cs,e',rfl,rfl,h1,h2,h3,h4,h5⟩
    . cases p<;>simp [Builtin.append_,run_underlying hu,run_underlying hu2,sizeOf,typeInfo,hi,his,Builtin.lenOf,hm,hf,storeCells]
    . simp [Builtin.append_,run_underlying hu,run_underlying hu2,sizeOf,typeInfo,hi,his,Builtin.lenOf,hm,hf,storeCells,h1]
  . have made:∀(r:Value) (cap':Nat) (w':World),r=.slice (some ⟨w.heap.size,0,none⟩) (n+m) cap'->n+m<=cap'->cap'<=maxLen->xs.length=n ->
        Sl 1 r (n+m) (xs++ys) [(w.heap.size,.cells (xs.toArray++ys.toArray++Builtin.zeroCells z.cells (cap'-(n+m))) e (0,0))]:=by
      intro r cap' w' hr' hc1 hc2 hxl;refine .inr ⟨w.heap.size,0,cap',(xs.toArray++ys.toArray++Builtin.zeroCells z.cells (cap'-(n+m))).toList,e,hr',by simp [blk],hc1,hc2,?_,?_,?_⟩
      . simp only [Array.length_toList,Array.size_append,List.size_toArray,size_zeroCells,hzs,hxl,hul];omega
      . simp [hxl,hul]
      . intro j u hj;have hlt:j<(xs++ys).length:=(Ac.1 hj).1;rw [Nat.zero_add];simp only [Array.toList_append,List.append_assoc];rw [<- Ap,Ak (by simpa using hlt)];exact hj
    rcases hs with ⟨p,rfl,rfl,rfl,rfl⟩|⟨b,o,cap,cs,e',rfl,rfl,h1,h2,h3,h4,h5⟩
    . have hge:=grownCap_ge w (0+m) 0 e;have hcm:grownCap w (0+m) 0 e<=maxLen:=grownCap_le_maxLen w (0+m) 0 e hmax;have hfit:Builtin.nextslicecap (0+m) 0*i.bytes<=281474976710656:=growslice_fits (by omega) (by rw [hib];omega)
      cases p with
      | none =>
        have hrn:=run_append_nil_string (P:=P) w t u ty e i z hu hu2 hi hz s (by omega) (by omega) (by rw [hib];omega)
        have e1:(s.data.map λb=>Value.int .u8 b.toNat)=ys.toArray:=by rw [<- hys];apply Array.ext';simp [strCells]
        rw [e1,hm] at hrn;rw [Nat.zero_add] at hge hcm;refine ⟨_,_,_,hrn,?_,.inr (.inr ⟨_,E,E⟩)⟩;have:=made _ (grownCap w m 0 e) w (by rw [Nat.zero_add]) (by omega) hcm (by simp);simpa using this
      | some pa =>
        have hrg:=Lib.run_append_grow_string (P:=P) w t u ty e i z hu hu2 hi hz pa 0 0 [] (by simp) (by simp) s (by omega) (by omega) (by rw [hm];exact hfit);rw [hm,hys] at hrg;refine ⟨_,_,_,hrg,?_,.inr (.inr ⟨_,E,E⟩)⟩;exact made _ _ w E hge hcm (by simp)
    . have hb:=hw b _ (hB _ (List.mem_singleton.2 E));rw [Nat.mul_one] at h3 h4;by_cases hroom:n+m<=cap
      . have hfit:o+n+ys.length<=cs.length:=by omega
        have hst:=run_storeCells_at (P:=P) b (o+n) e' ys 0 cs.toArray w hb (by simpa using hfit) (by rw [<- hys];exact strCells_oneCell s);simp only [Nat.add_zero] at hst;have hf:=hf w;refine ⟨.slice (some ⟨b,o,none⟩) (n+m) cap,w.setRow b (cs.take (o+n)++ys++cs.drop (o+n+ys.length)).toArray,_,?_,?_,.inr (.inl ⟨b,cs,_,e',E,E,E⟩)⟩
        . simp [Builtin.append_,run_underlying hu,run_underlying hu2,sizeOf,typeInfo,hi,his,Builtin.lenOf,hm,hroom,hf,Addr.add_mid,hst]
        . refine .inr ⟨b,o,cap,_,e',E,E,hroom,h2,?_,?_,?_⟩
          . simp only [List.length_append,List.length_take,List.length_drop];omega
          . simp [h4,hul]
          . intro j q hj;by_cases hjx:j<xs.length
            . rw [Ak hjx] at hj;rw [Ap,Ak (by simp;omega),Cd (by omega)];exact h5 j q hj
            . rw [Aq (by omega)] at hj;have hlt:=(Ac.1 hj).1;have hln:(cs.take (o+n)).length=o+n:=by simp;omega
              rw [Ap,Aq (by omega),Ak (by omega),hln,<- hj];congr 1;omega
      . have hge:=grownCap_ge w (n+m) cap e;have hcm:grownCap w (n+m) cap e<=maxLen:=grownCap_le_maxLen w (n+m) cap e hmax;have hrg:=Lib.run_append_grow_string (P:=P) w t u ty e i z hu hu2 hi hz ⟨b,o,none⟩ n cap xs (by rw [his];omega) (λj q hj=>by rw [Addr.add_mid,cell_of_row w b _ cs.toArray e' (0,0) hb];simpa using h5 j q hj) s (by omega) (by omega) (by rw [hm,hib];exact growslice_fits (by omega) (by omega));rw [hm,hys] at hrg;refine ⟨_,_,_,hrg,?_,.inr (.inr ⟨_,E,E⟩)⟩;exact made _ _ w E hge hcm h4
variable{ws:List Nat}
theorem A8h(h:∀x∈ws,x<256):strCells (txt ws)=nums .u8 ws:=by unfold strCells txt nums;simp only [List.map_map];refine Bv λx hx=>?_;have:=h x hx;simp [UInt8.toNat_ofNat,Nat.mod_eq_of_lt this]
def C1f(P:Program)(u:TypeId):Bool:=match P.underlying u with
  | some .string=>true
  | _=>false
theorem B7V(h:C1f P u=true):P.underlying u=some .string:=by
  unfold C1f at h;split at h
  . assumption
  . cases h
theorem B4L{C:Cx}{l:Env}{M J:Mem}{K:Env->Mem->Mem->Prop}{d:Nat}{pos:String}{af:Array Edge}{g:Option (Nat×Bool)}{x y:Operand}{n:Nat}{B M0:Mem}(hx:ev l x=some v)(hy:ev l y=some (.string (txt ws)))(ht:A1t C.P t=some (e,1,1))(hu:C1f C.P u=true)
    (hb:∀c∈ws,c<256) (hs:Sl 1 v n xs B) (hM:M.Perm (B++M0)) (hbytes:n+ws.length<=140737488355328) (hd:Nat.blt d C.N=true)
    (k:∀v' B',Sl 1 v' (n+ws.length) (xs++nums .u8 ws) B'->K ((d,v')::l) (B'++M0) J) :
    OpL C ⟨some d,.call { callee:=.builtin .append,args:=#[x,y],argTypes:=#[t,u] },ty,pos,af,g⟩ l M J K:=by
  intro Qp a w ha hw;have hsz:(txt ws).size=ws.length:=A0z ws;obtain ⟨v',w',B',hrun,hsl,hcase⟩:=A62 (P:=C.P) (ty:=ty) (R:=M++(J++C.A)) (s:=txt ws) ht (B7V hu) hs (λq hq=>by have:=hM.mem_iff.2 (Ae M0 hq);simp [this]) hw.fx (by unfold maxLen;omega) (by omega);rw [A8h hb,hsz] at hsl
  have hexec:(execOp a.eval ⟨some d,.call { callee:=.builtin .append,args:=#[x,y],argTypes:=#[t,u] },ty,pos,af,g⟩).run C.P w=.ok (.value v') w':=by simp [execOp,resolve,invoke,builtin,ha.ev hx,ha.ev hy,hrun]
  unfold Oper.wp;rw [hexec];refine ⟨_,B'++M0,J,ha.put (L7 hd) v',?_,k v' B' hsl⟩;rcases hcase with ⟨rfl,rfl⟩|⟨b,cs,cs',e',rfl,rfl,rfl⟩|⟨o',rfl,rfl⟩
  . exact hw.perm hM
  . exact (hw.perm hM).setRow (M':=[(b,blk cs' e')]++M0) Upd.hd
  . have h2:St C ((w.heap.size,o')::M) J (w.drew.alloc o'):=St.alloc (w:=w.drew) hw.drew o';have h3:=h2.perm (M':=(w.heap.size,o')::(B++M0)) (List.Perm.cons _ hM);exact h3.drop (List.Sublist.cons_cons _ (List.sublist_append_right B M0)) (λ_ h=>h)
end Go.Px

namespace Go.Proofs.YtgpjndfgjjlhaaaGreatDoor
open Go.Px
def P5(ws:List (LN)):LN:=(ws.map mark).flatten
variable{ws:List (LN)}{i:Nat}
theorem A3P{w:LN}(h:ws[i]? = some w):P5 (ws.take (i+1))=P5 (ws.take i)++mark w:=by unfold P5;rw [Bh,h];simp
theorem A5Y(h:∀w∈ws,∀x∈w,x<256):∀x∈P5 ws,x<256:=by
  intro x hx;obtain ⟨l,hl,hx⟩:=List.mem_flatten.1 hx;obtain ⟨w,hw,rfl⟩:=List.mem_map.1 hl
  haveI:B256 w:=⟨h w hw⟩
  have hb:B256 (mark w):=inferInstance;exact hb.lt x hx
def B1i(ws:List (LN)):Tm:=B5Y (P5 ws)
def A2s(s:Ps)(ws:List (LN)):Ps:=if s.real then s else { s with ts:=add s.ts (B1i ws) }
variable{s:Ps}
theorem A63(h:s.real=true)(ws:List (LN)):A2s s ws=s:=if_pos h
theorem A4Z(h:s.real=false)(ws:List (LN)):A2s s ws={ s with ts:=add s.ts (B1i ws) }:=if_neg (by rw [h];decide)
def A3q(s:Ps)(ws:List (LN)):LN:=if s.real then Y7 (P5 ws) else bts ((at_ s.ts (B1i ws):Nat):Int)
theorem A40(h:s.real=true)(ws:List (LN)):A3q s ws=Y7 (P5 ws):=if_pos h
theorem B4M(h:s.real=false)(ws:List (LN)):A3q s ws=bts ((at_ s.ts (B1i ws):Nat):Int):=if_neg (by rw [h];decide)
theorem B7W{j:Nat}(hr:s.real=false)(ht:Tok s.ts)(h:s.ts[j]? = some (B1i ws)):A2s s ws=s∧A3q s ws=bts ((j:Nat):Int):=by obtain ⟨e3,e4⟩:=B3a ht h;rw [A4Z hr,B4M hr,e3,e4];exact ⟨E,E⟩
theorem C3J(pb bt bm:Nat)(s:Ps)(hr:s.real=false)(u:Value)(ws:List (LN))(MP A:Mem)(hP:PrmT pb bt bm s MP)(hn:s.ts.length<=1048576)(hu:LsV A u ws)(hwl0:ws.length<=1000)(hlt0:∀w∈ws,∀x∈w,x<256)(hG:Glb A):FnX prog 57 [(vP pb),u] MP A λq M J=>PrmT pb bt bm (A2s s ws) M∧By J q (A3q s ws):=by
 obtain ⟨sv,B,MT,rfl,hby,hT⟩:=hP.ex;have hmd:md s.real=1:=by rw [hr];rfl
 rw [hmd] at *;haveI:=hby.cel;obtain ⟨⟨ge0,gf0,h0⟩,⟨ge1,gf1,h1⟩,⟨ge4,gf4,h4⟩⟩:=hG;obtain ⟨us,hus,hls⟩:=hu.ex;haveI:=hus.cel;refine Co (N:=51) func57 E E E λw_=>?_;refine A8 (D0 0 1) (A1 (aS_ E (A0 (D0 0 1) (A3 (A1 (mV_ E (lQ_ (F0 (e:=72) E E kR) (A0 (D5 0 1 12) ?_))))))));refine C7 E ?_;refine A4 (nx (D0 0 1) (A3 (A1 (mV_ E (lQ_ (F4 E) (lQ_ (qf_ 0 0) ?_))))));refine lQ_ ql_ ?_;refine lQ_ (E3 E E E) (A0 (D5 0 1 17) ?_);refine C7 E ?_;refine A4 (nx (D0 0 1) (A1 (as_ (A0 (D5 0 1 8) (A3 (A1 (mv_ ?_)))))));refine lQ_ (F8 (sz:=1) E kR hus) ?_;refine mv_ (A0 (E9 0 8 32 33 34) (A6 ?_));refine E0 (α:=Nat) (λi=>[(0,(vP pb)),(8,.string (txt (P5 (ws.take i)))),(32,u),(33,(vI ws.length)),(34,(vI i))]) (λ_=>(pb,blk [.int .u8 1,sv,.int .i64 (((s.n:Nat):Int)),(vP bt)] 72)::(B++MT)) (λ_=>[]) (λi=>i<=ws.length∧(P5 (ws.take i)).length<=i*16777300) (λi=>ws.length-i) 0 ⟨Am _,Am _⟩ (E9 0 8 32 33 34) .rfl qI ?_;rintro i ⟨hi,hml⟩;refine A1 (lQ_ (E3 E E E) (A0 (G9 0 8 32 33 34 35) (A3 ?_)));refine C2 E ?_ ?_<;>intro hc
 .
  have hlt:i<ws.length:=by simp at hc;omega
  obtain ⟨w,hw⟩:∃w,ws[i]? = some w:=⟨_,Ab hlt⟩
  obtain ⟨vi,hvi,hwi⟩:=hls.get i w hw;haveI:=hwi.cel;have hst:=A3P hw;have hmk:=A1R w (by have:=hwi.len;omega);have hwl:=hwi.len;refine A4 (nx (E9 0 8 32 33 34) (A3 (A6 (A1 ?_))));refine lQ_ (G4 (sz:=1) E E kR E hus hlt) ?_;refine lQ_ (Z8 (j:=i) (u:=vi) (hus.mono qS) E kR hvi) (as_ (A0 (G9 0 8 10 32 33 34) (C1 (mv_ (mv_ ?_)))));refine D8 (aS E a0) kR (A2Q vi w _ (hwi.rd.mono qS) (hb:=hwi.b256) qO (mA h4)) E ?_;refine lQ_ (A17 (ws:=P5 (ws.take i)) (ws':=mark w) E E E E (by have:i*16777300<=1000*16777300:=Au _ qO;omega)) ?_;rw [<- hst];refine as_ (C5 (nb (nx (E9 0 8 32 33 34) (C1 ?_))));refine lQ_ (D2 ((i+1:Nat):Int) E E (F5 qO qO qO)) ?_;refine mv_ (C5 ?_);exact rn (i+1) ⟨hlt,by rw [hst,An,Nat.add_mul];omega⟩ qO (E9 0 8 32 33 34) .rfl qI
 .
  have hge:i=ws.length:=by simp at hc;omega
  subst hge;rw [List.take_length] at hml ⊢;refine D6 (te (re (be E (nx (D0 0 8) (A1 (mV_ E (lQ_ (F4 E) (lQ_ (qf_ 3 3) ?_))))))));refine lQ_ ql_ ?_;refine mv_ ?_;refine lQ_ (E6 (place:=λx=>#[(0,1),(1,1),(2,1),(3,1)][x]?) (z:=[zu8,vS,.string ByteArray.empty,U7]) (λ_=>by kernel_rfl) (eS E (eS E e0)) (bdS 0 1 E qR (bdS 2 1 E qR bd0))) ?_;refine A2 E (C8 (Mc:=MT) (R:=_) (aS E (aS E a0)) kR qP (R9 bt bm s.ts (vS) (B1i ws) MT _ hT hn Rd.nil (A3g (A5Y hlt0) (by have:ws.length*16777300<=1000*16777300:=Au _ hwl0;omega)) (mA h4)) E ?_);rintro v49 M49 J49 ⟨rfl,rfl,hT49⟩;refine A2 E (D9 (aS E a0) kR (V2 _ _) E ?_);rintro v50 M50 J50 ⟨rfl,h50⟩;refine as_ (A0 (D1 4) (A9 ?_));exact ⟨_,(pb,blk [.int .u8 1,sv,.int .i64 (((s.n:Nat):Int)),(vP bt)] 72)::(B++M49),[],H2 E E,(Ci (Cj (B:=[_]) qP (Cj qP (Ch qP)))),⟨sv,B,M49,by rw [show md (A2s s ws).real=1 by rw [A4Z hr];show md s.real=1;rw [hr];rfl,A4Z hr],by rw [A4Z hr];exact hby,by rw [A4Z hr];exact hT49⟩,by rw [B4M hr];exact h50.mono qS⟩
theorem C3K(pb:Nat)(s:Ps)(hr:s.real=true)(u:Value)(ws:List (LN))(MP A:Mem)(hP:Prm pb s MP)(hu:LsV A u ws)(hwl0:ws.length<=100)(hlt0:∀w∈ws,∀x∈w,x<256)(hG:Glb A):FnX prog 57 [(vP pb),u] MP A λq M J=>Prm pb (A2s s ws) M∧By J q (A3q s ws):=by
 obtain ⟨sv,bt,bm,B,MT,rfl,hby,hT⟩:=hP.ex;have hmd:md s.real=0:=by rw [hr];rfl
 rw [hmd] at *;haveI:=hby.cel;obtain ⟨⟨ge0,gf0,h0⟩,⟨ge1,gf1,h1⟩,⟨ge4,gf4,h4⟩⟩:=hG;obtain ⟨us,hus,hls⟩:=hu.ex;haveI:=hus.cel;refine Co (N:=51) func57 E E E λw_=>?_;refine A8 (D0 0 1) (A1 (aS_ E (A0 (D0 0 1) (A3 (A1 (mV_ E (lQ_ (F0 (e:=72) E E kR) (A0 (D5 0 1 12) ?_))))))));refine C7 E ?_;refine A4 (nx (D0 0 1) (A3 (A1 (mV_ E (lQ_ (F4 E) (lQ_ (qf_ 0 0) ?_))))));refine lQ_ ql_ ?_;refine lQ_ (E3 E E E) (A0 (D5 0 1 17) ?_);refine E2 E ?_;refine A1 (as_ (A0 (D0 1 5) (A3 (A1 (mv_ ?_)))));refine lQ_ (F8 (sz:=1) E kR hus) ?_;refine mv_ (A0 (D7 5 18 19 20) (A6 ?_));refine E0 (α:=Nat×Value×Mem) (λy=>[(5,y.2.1),(18,u),(19,(vI ws.length)),(20,(vI y.1))]) (λy=>y.2.2++((pb,blk [zu8,sv,.int .i64 (((s.n:Nat):Int)),(vP bt)] 72)::(B++MT))) (λ_=>[]) (λy=>y.1<=ws.length∧(P5 (ws.take y.1)).length<=y.1*16777300∧Sl 1 y.2.1 (P5 (ws.take y.1)).length (nums .u8 (P5 (ws.take y.1))) y.2.2) (λy=>ws.length-y.1) (0,vS,[]) ⟨Am _,Am _,Sl.nil⟩ (D7 5 18 19 20) .rfl qI ?_;rintro ⟨i,va,Ba⟩ ⟨hi,hml,hsa⟩;dsimp only at hi hml hsa ⊢;haveI:=hsa.cel;refine A1 (lQ_ (E3 E E E) (A0 (E9 5 18 19 20 21) (A3 ?_)));refine C2 E ?_ ?_<;>intro hc
 .
  have hlt:i<ws.length:=by simp at hc;omega
  obtain ⟨w,hw⟩:∃w,ws[i]? = some w:=⟨_,Ab hlt⟩
  obtain ⟨vi,hvi,hwi⟩:=hls.get i w hw;haveI:=hwi.cel;have hst:=A3P hw;have hmk:=A1R w (by have:=hwi.len;omega);have hwl:=hwi.len;refine A4 (nx (D7 5 18 19 20) (A3 (A6 (A1 ?_))));refine lQ_ (G4 (sz:=1) E E kR E hus hlt) ?_;refine lQ_ (Z8 (j:=i) (u:=vi) (hus.mono qS) E kR hvi) (as_ (A0 (E9 5 7 18 19 20) (C1 (mv_ (mv_ ?_)))));refine D8 (aS E a0) kR (A2Q vi w _ (hwi.rd.mono qS) (hb:=hwi.b256) qO (mA h4)) E ?_;refine A2 E (B4L (e:=5) (ws:=mark w) E E kR kR (by haveI:=hwi.b256;exact (inferInstance:B256 (mark w)).lt) hsa qP (by have:i*16777300<=100*16777300:=Au _ qO;omega) E λv27 B27 hs27=>?_);haveI:=hs27.cel;refine as_ (C5 (nb (nx (D7 5 18 19 20) (C1 ?_))));refine lQ_ (D2 ((i+1:Nat):Int) E E (F5 qO qO qO)) ?_;refine mv_ (C5 ?_);exact rn (i+1,v27,B27) ⟨hlt,by dsimp only;rw [hst,An,Nat.add_mul];omega,by dsimp only;rw [hst];exact W6 hs27 (by rw [An]) (by rw [H4])⟩ (by dsimp only;omega) (D7 5 18 19 20) (Cg qM) qI
 .
  have hge:i=ws.length:=by simp at hc;omega
  subst hge;rw [List.take_length] at hml hsa;refine D6 (te (re (be E (nx (D1 5) (A1 (mv_ ?_))))));refine A2 E (C4 (e:=22) (sz:=1) (z:=[vS]) kR (eS E e0) (bdS 0 1 E qR bd0) E λb30=>?_);refine C6 (aS E a0) kR (A1Q _ [P5 ws] _ (B1X.of (Cr (n:=1) Ce qR) E (.cons (A5Y hlt0) (hsa.rd qS) .nil)) (by simp;have:ws.length*16777300<=100*16777300:=Au _ hwl0;omega) qM (mA h0) (mA h1)) E ?_;rintro v31 M31 J31 ⟨rfl,hs31⟩;haveI:=hs31.cel;rw [show [P5 ws].flatten=P5 ws by simp] at hs31;refine as_ (A0 (D1 4) (A9 (tr ?_)));exact ⟨_,(pb,blk [zu8,sv,.int .i64 (((s.n:Nat):Int)),(vP bt)] 72)::(B++MT),M31,H2 E E,Ci (Cj qP (Ch qP)),⟨sv,bt,bm,B,MT,by rw [A63 hr,show md s.real=0 by rw [hr];rfl],by rw [A63 hr];exact hby,by rw [A63 hr];exact hT⟩,by rw [A40 hr];exact ⟨by rw [A0m];exact hs31.rd qS,A7v _,by rw [A0m];decide⟩⟩
theorem C1g(pb:Nat)(s:Ps)(u:Value)(ws:List (LN))(MP A:Mem)(hP:Prm pb s MP)(hn:s.ts.length<=1048576)(hu:LsV A u ws)(hwl0:ws.length<=100)(hlt0:∀w∈ws,∀x∈w,x<256)(hG:Glb A):FnX prog 57 [(vP pb),u] MP A λq M J=>Prm pb (A2s s ws) M∧By J q (A3q s ws):=by
  cases hr:s.real with
  | true=>exact C3K pb s hr u ws MP A hP hu hwl0 hlt0 hG
  | false =>
    obtain ⟨bt,bm,hT⟩:=hP.t
    exact (C3J pb bt bm s hr u ws MP A hT hn hu qO hlt0 hG).mono λq M J h=>⟨h.1.p,h.2⟩

theorem B4N(a b:LN):mark a++mark b=A1p [a,b]:=by simp [A1p]
theorem B7X(bt bm:Nat)(ts:List Tm)(v:Value)(w:LN)(j:Nat)(MT A:Mem)(hT:Tab bt bm ts MT)(hsub:∀x,x∈MT->x∈A)(hn:ts.length<=1048576)(hv:By A v w)(hj:plc w ts.length=some j):FnV prog 83 [(vP bt),v] A (vI j):=by haveI:=hv.cel;refine Cn (N:=20) func83 E E E λw_=>?_;refine A8 (D0 0 1) (A1 (as_ (A0 (D0 0 1) (A3 (A1 (mv_ (mv_ ?_)))))));refine D8 (aS E (aS E a0)) kR (A00 bt bm ts v w MT _ hT (λx hx=>qS _ (hsub x hx)) hn (hv.rd.mono qS) hv.lt hv.max) E ?_;rw [hj,Option.getD_some,Option.isSome_some];refine mV_ E (lQ_ (A0x E) (lQ_ (A0n E) (as_ (as_ (A0 (D7 0 1 5 6) (A1 (mv_ (A0 (D7 0 1 5 13) ?_))))))));refine E2 E ?_;refine A1 (mv_ (as_ (A0 (D1 4) (A9 (tr ?_)))));exact ⟨_,[],[],H2 E E,Aa _,by simp,E,E,E⟩
theorem B7Y(pb bt bm:Nat)(m k:Int)(sv:Value)[hsv:Cel sv [sv]](ts:List Tm)(v:Value)(w:LN)(j:Nat)(MT A:Mem)(hT:Tab bt bm ts MT)(hsub:∀x,x∈MT->x∈A)(hpb:(pb,blk [.int .u8 m,sv,.int .i64 k,(vP bt)] 72)∈A)(hn:ts.length<=1048576)(hv:By A v w)(hj:plc w ts.length=some j):FnV prog 49 [(vP pb),v] A (vI j):=by haveI:=hv.cel;refine Cn (N:=11) func49 E E E λw_=>?_;refine A8 (D0 0 1) (A1 (aS_ E (A0 (D0 0 1) (A1 (mV_ E (lQ_ (F4 E) (lQ_ (qf_ 3 3) ?_)))))));refine lQ_ (H1 E kR (mA hpb) qR) ?_;refine mv_ ?_;refine D8 (aS E (aS E a0)) kR (B7X bt bm ts v w j MT _ hT (λx hx=>qS _ (hsub x hx)) hn (hv.mono qS) hj) E ?_;refine as_ (A0 (D1 4) (A9 ?_));exact ⟨_,[],[],H2 E E,Aa _,by simp,E,E,E⟩

theorem A2t(v:Value)(w:LN)(A:Mem)(h:By A v w):FnX prog 101 [v] [] A λr M J=>M=[]∧By J r w:=by
 haveI:=h.cel;have hwl:=h.len;refine Co (N:=8) func101 E E E λw_=>?_;refine A8 (D1 0) (A1 (as_ (A0 (D1 0) (A3 (A1 (mv_ ?_))))));refine lQ_ (A1C (e:=5) E kR (by first|assumption|exact Sl.rd (by assumption) qI|exact By.rd (by assumption))) ?_;refine A0 (D0 0 4) ?_;refine C2 E ?_ ?_<;>intro hc
 . have h0:=h.rd.isNil hc;obtain rfl:w=[]:=Bd h0;refine A1 (as_ (A0 (D1 2) (A9 (tr ?_))));exact ⟨_,[],[],H2 E E,qZ,E,By.nil⟩
 . refine A4 (nx (D1 0) (A1 ?_));refine A2 E (C4 (e:=5) (sz:=1) (z:=[]) kR e0 bd0 E λb5=>?_);refine mv_ ?_;refine A2 E (G6 (e:=5) (sz:=1) (by_:=1) E E kR E (Sl.fresh (n:=0) (cs:=[]) (e:=5) E qD) (h.rd.mono qS) E7 qP (by unfold maxLen;omega) qO E λv7 B7 hs7=>?_);refine as_ (A0 (D1 2) (A9 ?_));exact ⟨_,[],B7,H2 E E,Cj qP qZ,E,⟨A0J (hs7.rd λx hx=>by simp [hx]) qO qM,h.lt,h.len⟩⟩
theorem B1j(v:Value)(rows:List (List Value))(f:FuncId)(cs:List Value)(p:Nat->Bool)(A:Mem)(hv:Rd A 3 v rows.length rows.flatten)(hl:∀r∈rows,r.length=3)(hn:rows.length<=1099511627776)(hc_:K1 prog f=true)(hf:∀(j:Nat) (r:List Value),rows[j]? = some r->FnV prog f (.agg r.toArray::cs) A (.bool (p j))):FnV prog 138 [v,.func (.func f) #[] cs.toArray] A (.int .i64 (A7i p rows.length)):=by
 haveI:=hv.cel;refine Cn (N:=19) func138 E E E λw=>?_;refine A8 (D0 0 1) (A1 (as_ (A0 (D0 0 1) (A3 (A1 (mv_ ?_))))));refine lQ_ (F8 (sz:=3) E kR hv) ?_;refine mv_ (A0 (D7 0 1 7 8) (A6 ?_));refine E0 (α:=Nat) (λi=>[(0,v),(1,.func (.func f) #[] cs.toArray),(7,(vI rows.length)),(8,.int .i64 (i:Int))]) (λ_=>[]) (λ_=>[]) (λi=>i<=rows.length∧∀j,j<i->p j=false) (λi=>rows.length-i) 0 ⟨Am _,λj h=>absurd h (Nat.not_lt_zero j)⟩ (D7 0 1 7 8) .rfl qI ?_;rintro i ⟨hi,hp⟩;refine A1 (lQ_ (E3 E E E) (A0 (E9 0 1 7 8 9) (A3 ?_)));refine C2 E ?_ ?_<;>intro hc
 .
  have hlt:i<rows.length:=by simp at hc;omega
  obtain ⟨r,hr⟩:∃r,rows[i]? = some r:=⟨_,Ab hlt⟩
  refine A4 (nx (D7 0 1 7 8) (A3 (A6 (A1 (mV_ E (aS_ E (A0 (E9 0 1 5 7 8) (A1 (mv_ (mv_ (mv_ ?_)))))))))));refine lQ_ (G4 (sz:=3) E E kR E hv hlt) ?_;refine lQ_ (A0y E kR (hv.mono qS) hl qD hr) ?_;refine A2 E (A1f E (aS E a0) hc_ (hf i r hr) E ?_);refine A0 (G9 0 1 5 7 8 16) ?_;refine C2 E ?_ ?_<;>intro hc
  . refine A1 (mV_ E (aS_ E (A0 (D1 4) (A9 (br (tr (rr (br (tr ?_)))))))));exact ⟨_,[],[],H2 E E,Aa _,by simp,by rw [A0D hlt hp hc],E,E⟩
  . refine A4 (nb (nx (D7 0 1 7 8) (C1 ?_)));refine lQ_ (I9 (b:=1) E E E E qO) ?_;refine mv_ (C5 ?_);exact rn (i+1) ⟨hlt,λj hj=>by rcases Nat.lt_succ_iff_lt_or_eq.1 hj with h|h;exact hp j h;rw [h];exact hc⟩ qO (D7 0 1 7 8) .rfl qI
 .
  have hge:i=rows.length:=by simp at hc;omega
  subst hge;refine D6 (te (re (be E (nx kn (A1 (aS_ E (A0 (D1 4) (A9 ?_))))))));exact ⟨_,[],[],H2 E E,Aa _,by simp,by rw [A0E hp],E,E⟩
theorem A41(b o cap n i j:Nat)(cs xs:List Value)(e:TypeId)(A:Mem)(hn:n<=cap)(hcap:cap<=maxLen)(hfit:o+cap*3<=cs.length)(hl:xs.length=n*3)(hx:∀j u,xs[j]? = some u->cs[o+j]? = some u)
    (h1:∀c∈xs,c.oneCell'=true) (hij:i<j) (hjn:j<=n) :
    FnX prog 106 [.slice (some ⟨b,o,none⟩) n cap,.int .i64 i,.int .i64 j] [(b,blk cs e)] A
      λv M J=>J=[]∧Sl 3 v (n-(j-i)) (xs.take (i*3)++xs.drop (j*3)) M:=by
  refine Cn (N:=33) func106 E E E λw=>?_;refine A8 (D5 0 1 2) (A1 (aS_ E (A0 (D5 0 1 2) (A1 (mV_ E (mV_ E (mV_ E (mV_ E (lQ_ (A0r (e:=176) E kR) ?_)))))))));refine lQ_ (A2f (e:=176) (sz:=3) E kR kR (o1 i E E) (o1 j E E) (o1 n E E) qM (by simp;omega) (by simp;omega) (by simp;omega)) ?_;refine A0 (D5 0 1 2) (A3 (A1 (mV_ E (mV_ E (lQ_ (E3 E E E) (A0 (D7 0 1 2 16) ?_))))));refine C2 E ?_ ?_<;>intro hc
  . simp at hc;omega
  .
    refine A4 (nx (D5 0 1 2) (A1 (mV_ E (lQ_ (A0r (e:=176) E kR) (as_ (A0 (D7 0 1 2 7) ?_))))));refine A1r ([]) [] [(0,0),(1,0),(2,0),(3,0),(4,0),(5,0),(6,2),(7,0)] kR kR qM λhs=>?_;refine K9 hs E qm_ E ?_;refine K9 hs E qm_ E ?_;refine K9 hs E (A7p (h:=i) (e:=176) (sz:=3) E E kR kR E qO) E ?_;refine K9 hs E qm_ E ?_;refine K9 hs E qm_ E ?_;refine K9 hs E (A9q (h:=j) (e:=176) (sz:=3) E E kR kR E qO qO) E ?_;refine A10 E E E (A7o (e:=176) (sz:=3) (by_:=56) (m:=n-j) (cs:=cs) E E kR ((Rd.lo ⟨_,cap,E,hl,hn,.inr ⟨b,o,cs,e,(0,0),E,m0,hx⟩⟩ j hjn)) (λc hc=>h1 c (List.mem_of_mem_drop hc)) qO hfit E Cv E ?_);refine K9 hs E (G2 E) E ?_;refine A3z (D0 0 7) ?_;refine A1 (mV_ E (mV_ E (lQ_ (A0r (e:=176) E kR) (mv_ ?_))));refine lQ_ (B1L (lo:=i+(n-j)) (hi:=n) (e:=176) (sz:=3) E E E kR kR E E qO qO qO) ?_;refine A2 E (A8y (e:=176) (sz:=3) (by_:=56) (zs:=(Builtin.zeroCells #[vS,D3,vS] (n-(i+(n-j)))).toList) E kR kR (A08 (by simp [Value.oneCell']) qM _) ?h1 E Cv ?_)
    case h1=>simp [hl];omega
    refine A0 (D1 0) (A1 (mv_ (as_ (A0 (D1 6) (A9 ?_)))));refine ⟨_,_,[],H2 E E,Ao _,by simp,E,?_⟩;show Sl 3 _ (n-(j-i)) _ _;rw [show n-(j-i)=i+(n-j) from by omega];have hd:(xs.drop (j*3)).length=(n-j)*3:=by simp [hl];omega
    refine .inr ⟨b,o,cap,_,e,E,E,by omega,hcap,?_,?_,?_⟩
    . simp [hl,Builtin.zeroCells];omega
    . simp [hl];omega
    . intro q u hq;have hlt:q<(i+(n-j))*3:=by have:=(Ac.1 hq).1;simp [hl] at this;omega
      rw [W1 (by simp [hl];omega) qO];by_cases hqi:q<i*3
      . rw [W1 qO qO];rw [Ak (by simp [hl];omega),Cd hqi] at hq;exact hx q u hq
      . rw [X0 qO qO qO];rw [Aq (by simp [hl];omega)] at hq;rw [<- hq];congr 1;simp [hl];omega
theorem B1k(v:Value)(n:Nat)(xs:List Value)(A:Mem)(h:Rd A 3 v n xs)(h1:∀c∈xs,c.oneCell'=true)(hn:n<=1099511627776):FnX prog 166 [v] [] A λr M J=>Sl 3 r n xs M:=by
 haveI:=h.cel;refine Co (N:=8) func166 E E E λw_=>?_;refine A8 (D1 0) (A1 (as_ (A0 (D1 0) (A3 (A1 (mv_ ?_))))));refine lQ_ (A1C (e:=176) E kR (by first|assumption|exact Sl.rd (by assumption) qI|exact By.rd (by assumption))) ?_;refine A0 (D0 0 4) ?_;refine C2 E ?_ ?_<;>intro hc
 . have h0:=h.isNil hc;subst h0;obtain rfl:xs=[]:=Bd (by have:=h.len;omega);refine A1 (as_ (A0 (D1 2) (A9 (tr ?_))));exact ⟨_,[],[],H2 E E,qZ,Sl.nil⟩
 . refine A4 (nx (D1 0) (A1 ?_));refine A2 E (C4 (e:=176) (sz:=3) (z:=[]) kR e0 bd0 E λb5=>?_);refine mv_ ?_;refine A2 E (G6 (e:=176) (sz:=3) (by_:=56) E E kR E (Sl.fresh (n:=0) (cs:=[]) (e:=176) E qD) (Rd.mono h qS) h1 qP (by unfold maxLen;omega) qO E λv7 B7 hs7=>?_);refine as_ (A0 (D1 2) (A9 ?_));exact ⟨_,B7,[],H2 E E,Ci (Ch qP),by simpa using hs7⟩

structure Skp where
  of:LN
  n:Nat
  key:LN
deriving DecidableEq
def skR(R:Mem)(s:Skp)(r:List Value):Prop:=∃vo vk,r=[vo,(vU s.n),vk]∧By R vo s.of∧By R vk s.key∧s.n<4294967296
theorem skT:RowT 3 skR:=⟨λR R' x r hR ⟨vo,vk,h1,h2,h3,h4⟩=>⟨vo,vk,h1,h2.mono hR,h3.mono hR,h4⟩,λR x r ⟨vo,vk,h1,_⟩=>by rw [h1];rfl,λR x r ⟨vo,vk,h1,h2,h3,_⟩ c hc=>by
  rw [h1] at hc;simp only [Cz,Da,or_false] at hc;rcases hc with rfl|rfl|rfl
  . exact h2.one
  . rfl
  . exact h3.one⟩
structure Sto(R:Mem)(sb:Nat)(sks:List Skp)(M:Mem):Prop where
  ex:∃v rows B,M=(sb,blk [v] 136)::B∧Sl 3 v sks.length rows.flatten B∧RwL skR R rows sks
theorem Sto.mono{R R':Mem}{sb:Nat}{sks:List Skp}{M:Mem}(h:Sto R sb sks M)(hR:∀x,x∈R->x∈R'):Sto R' sb sks M:=by obtain ⟨v,rows,B,h1,h2,h3⟩:=h.ex;exact ⟨v,rows,B,h1,h2,h3.mono skT hR⟩
def tst(of:LN)(n:Nat)(s:Skp):Bool:=decide (s.n=n)&&decide (s.of=of)
def A5Z(sks:List Skp)(of:LN)(n:Nat):List Skp:=if P0 (tst of n) sks<0 then sks else sks.eraseIdx (P0 (tst of n) sks).toNat
def B9a(sks:List Skp)(x:Skp):List Skp:=(A5Z sks x.of x.n++[x]).drop ((A5Z sks x.of x.n++[x]).length-32)
variable{of:LN}{n:Nat}
theorem A64{sks:List Skp}(h:P0 (tst of n) sks = -1):A5Z sks of n=sks:=if_pos (by rw [h];decide)
theorem A4c{sks:List Skp}(h:P0 (tst of n) sks=(i:Int)):A5Z sks of n=sks.eraseIdx i:=by unfold A5Z;rw [h,if_neg qO,Int.toNat_natCast]
theorem A65(sks:List Skp)(of:LN)(n:Nat):(A5Z sks of n).length<=sks.length:=by
  unfold A5Z;split
  . exact Av _
  . exact List.length_eraseIdx_le _ _
theorem B7Z(sks:List Skp)(x:Skp):(B9a sks x).length<=32:=by unfold B9a;rw [Bg];omega
theorem B70(vo vk vof:Value)(s:Skp)(of:LN)(n:Nat)(b4 b5:Nat)(A:Mem)(ho:By A vo s.of)(hk:By A vk s.key)(hof:By A vof of)(hb5:(b5,blk [(vU n)] 40)∈A)(hb4:(b4,blk [vof] 22)∈A):FnV prog 139 [.agg #[vo,(vU s.n),vk],(vP b5),(vP b4)] A (.bool (tst of n s)):=by
 haveI:=ho.cel;haveI:=hk.cel;haveI:=hof.cel;refine Cn (N:=15) func139 E E E λw=>?_;refine A8 (D5 0 1 2) (A1 ?_);refine A2 E (bx_ λb3=>?_);refine aS_ E (A0 (D5 1 2 3) (A1 (lQ_ (qf_ 1 1) ?_)));refine lQ_ ql_ ?_;refine lQ_ (H1 E kR (mA hb5) qR) ?_;refine lQ_ (E3 E E E) (mv_ ?_);refine Y0 (t:=9) E (λhb=>?_) (λhb=>?_)
 .
  have hnn:s.n=n:=by simp at hb;omega
  refine G1 E E (Cp (qf_ 0 0) E ?_);refine G1 E E (Cp ql_ E ?_);refine G1 E E (Cp (H1 E kR (mA hb4) qR) E ?_);refine A7y E E (aS E (aS E a0)) kR (A0F vo vof s.of of _ (ho.mono qS) (hof.mono qS)) E ?_;refine lQ_ (H6 E E) (as_ (A0 (D1 4) (A9 ?_)));exact ⟨_,[],[],H2 E E,Aa _,by simp,by unfold tst;rw [hnn];simp,E,E⟩
 .
  have hnn:s.n≠n:=by simp at hb;omega
  refine K0 E E E E ?_;refine K0 E E E E ?_;refine K0 E E E E ?_;refine K0 E E E E ?_;refine lQ_ (E8 E E) (as_ (A0 (D1 4) (A9 ?_)));exact ⟨_,[],[],H2 E E,Aa _,by simp,by unfold tst;simp [hnn],E,E⟩
theorem B71{vof:Value}{sks:List Skp}{rows:List (List Value)}{b4 b5:Nat}{A:Mem}(hR:RwL skR A rows sks)(hof:By A vof of)(hb5:(b5,blk [(vU n)] 40)∈A)(hb4:(b4,blk [vof] 22)∈A) :
    ∀(j:Nat) (r:List Value),rows[j]? = some r->FnV prog 139 (.agg r.toArray::[(vP b5),(vP b4)]) A (.bool ((λj=>(sks[j]?.map (tst of n)).getD false) j)):=λj r hr=>by
  obtain ⟨s,hs,vo,vk,rfl,ho,hk,_⟩:=hR.of hr;dsimp only;rw [hs];exact B70 vo vk vof s of n b4 b5 _ ho hk hof hb5 hb4
theorem A42(sb:Nat)(v vof:Value)(rows:List (List Value))(sks:List Skp)(of:LN)(n:Nat)(A:Mem)(hsb:(sb,blk [v] 136)∈A)(hv:Rd A 3 v sks.length rows.flatten)(hR:RwL skR A rows sks)(hl:sks.length<=1000000)(hof:By A vof of):FnV prog 100 [(vP sb),vof,(vU n)] A (.int .i64 (P0 (tst of n) sks)):=by haveI:=hof.cel;haveI:=hv.cel;refine Cn (N:=15) func100 E E E λw=>?_;refine A8 (D5 0 1 2) (A1 ?_);refine A2 E (bx_ λb4=>?_);refine A2 E (bx_ λb5=>?_);refine aS_ E (A0 (D5 0 4 5) (A3 (A1 (mV_ E (lQ_ (F0 (e:=136) E E kR) (A0 (D7 0 4 5 8) ?_))))));refine C7 E ?_;refine A4 (nx (D5 0 4 5) (A1 (mV_ E (lQ_ (F4 E) (lQ_ (qf_ 0 0) ?_)))));refine lQ_ (H1 E kR (mA hsb) qR) ?_;refine lQ_ (A21 (aS E (aS E a0))) ?_;refine D8 (aS E (aS E a0)) kR (B1j v rows 139 [(vP b5),(vP b4)] (λj=>(sks[j]?.map (tst of n)).getD false) _ (by rw [hR.len];exact hv.mono qS) (hR.lens skT) (by rw [hR.len];omega) kR (B71 (hR.mono skT qS) (hof.mono qS) qM qM)) E ?_;refine as_ (A0 (D1 6) (A9 ?_));exact ⟨_,[],[],H2 E E,Aa _,by simp,by rw [hR.len];rfl,E,E⟩

variable{R:Mem}
theorem B4O{M B B':Mem}(h:M.Perm (B++R))(hs:B'.Sublist B):Fit M B':=⟨_,h,hs.trans (Ay _ _)⟩
variable{v:Value}
theorem Sl.cast{sz n':Nat}{xs xs':List Value}{B:Mem}(h:Sl sz v n xs B)(h1:n=n')(h2:xs=xs'):Sl sz v n' xs' B:=by subst h1;subst h2;exact h
def A5s(sks:List Skp)(of:LN)(n:Nat):Option (LN):=if P0 (tst of n) sks<0 then none else (sks[(P0 (tst of n) sks).toNat]?).map (·.key)
theorem B4P{sks:List Skp}(h:P0 (tst of n) sks = -1):A5s sks of n=none:=if_pos (by rw [h];decide)
theorem B0g{sks:List Skp}{x:Skp}(h:P0 (tst of n) sks=(i:Int))(hx:sks[i]? = some x):A5s sks of n=some x.key:=by unfold A5s;rw [h,if_neg qO,Int.toNat_natCast,hx];rfl
theorem B72(sb:Nat)(vof vk:Value)(sks:List Skp)(of key:LN)(n:Nat)(R MS A:Mem)(hS:Sto R sb sks MS)(hR:∀x,x∈R->x∈A)(hl:sks.length<=1000000)(hof:By R vof of)(hk:By R vk key)(hn:n<4294967296):FnX prog 107 [(vP sb),.agg #[vof,(vU n),vk]] MS A λq M J=>q=.tuple #[]∧Sto (J++R) sb (B9a sks ⟨of,n,key⟩) M:=by
  obtain ⟨v,rows,B,rfl,hsl,hrw⟩:=hS.ex;haveI:=hsl.cel;haveI:=hof.cel;haveI:=hk.cel;refine Co (N:=59) func107 E E E λw_=>?_;refine A8 (D0 0 1) (A1 ?_);refine A2 E (bx_ λb3=>?_);refine A0 (D0 0 3) (A3 (A1 (mV_ E (lQ_ (F0 (e:=136) E E kR) (A0 (D5 0 3 6) ?_)))));refine C7 E ?_;refine A4 (nx (D0 0 3) ?_);refine P3 (α:=Value×List (List Value)×Mem) (λx=>[(0,(vP sb)),(3,(vP b3))]) (λx=>(b3,blk [vof,(vU n),vk] 176)::(sb,blk [x.1] 136)::x.2.2) (λ_=>[]) (λx=>Sl 3 x.1 (A5Z sks of n).length x.2.1.flatten x.2.2∧RwL skR R x.2.1 (A5Z sks of n)) ?_ ?_
  .
    refine A1 (mV_ E (lQ_ (qf_ 0 0) ?_));refine lQ_ ql_ ?_;refine lQ_ (qf_ 1 1) ?_;refine lQ_ ql_ ?_;refine D8 (aS E (aS E (aS E a0))) kR (A42 sb v vof rows sks of n _ qM (hsl.rd qS) (hrw.mono skT (λx hx=>mA (hR x hx))) hl (hof.mono (λx hx=>mA (hR x hx)))) E ?_;refine aS_ E (A0 (D5 0 3 4) (A1 (mV_ E (lQ_ (E3 E E E) (A0 (D7 0 3 4 14) ?_)))));refine C2 E ?_ ?_<;>intro hc
    .
      obtain ⟨hf,hz⟩|⟨i,x,hf,hxi,hq,hmin⟩:=N8 (tst of n) sks
      . rw [hf] at hc;simp at hc
      have hil:=(Ac.1 hxi).1;rw [hf];obtain ⟨p,rfl,h0,_,_⟩|⟨b,o,cap,cs,e,rfl,rfl,g1,g2,g3,g4,g5⟩:=hsl
      . omega
      refine C1 (mV_ E (mV_ E (lQ_ (F4 E) (lQ_ (qf_ 0 0) ?_))));refine lQ_ ql_ ?_;refine mv_ (mv_ ?_);refine lQ_ (I9 (b:=1) E E E E qO) ?_;refine A2 E (C8 (Mc:=[(b,blk cs e)]) (R:=_) (aS E (aS E (aS E a0))) kR qP (A41 b o cap sks.length i (i+1) cs rows.flatten e _ g1 g2 g3 g4 g5 (hrw.ones skT) qO qO) E ?_);rintro v23 M23 J23 ⟨rfl,hs23⟩
      have hsd:Sl 3 v23 (sks.eraseIdx i).length (rows.take i++rows.drop (i+1)).flatten M23:=by have h:=hs23;rw [A3j (hrw.lens skT)] at h;exact Sl.cast h (by rw [List.length_eraseIdx,if_pos hil];omega) rfl
      haveI:=hsd.cel;refine lQ_ (F4 E) (lQ_ (qf_ 0 0) ?_);refine A2 E (E1 E E hsd.one kR Ct Cv ?_);refine C5 ?_;exact jn (v23,rows.take i++rows.drop (i+1),M23) ⟨by rw [A4c hf];exact hsd,by rw [A4c hf];exact hrw.erase i⟩ (D0 0 3) (Cj (B:=[_]) qP (Cj (B:=[_]) qP (Ch qP))) (λ_ h=>by cases h)
    .
      have hf:P0 (tst of n) sks = -1:=by
        obtain ⟨hf,hz⟩|⟨i,x,hf,hxi,hq,hmin⟩:=N8 (tst of n) sks
        . exact hf
        . rw [hf] at hc;(simp at hc)<;>omega
      refine A4 ?_;exact jn (v,rows,B) ⟨by rw [A64 hf];exact hsl,by rw [A64 hf];exact hrw⟩ (D0 0 3) .rfl qI
  .
    rintro ⟨v1,rows1,B1⟩ ⟨hsl1,hrw1⟩;dsimp only at hsl1 hrw1 ⊢;haveI:=hsl1.cel;have hdl:=A65 sks of n;have hdd:B9a sks ⟨of,n,key⟩=List.drop ((A5Z sks of n++[(⟨of,n,key⟩:Skp)]).length-32) (A5Z sks of n++[(⟨of,n,key⟩:Skp)]):=rfl;generalize A5Z sks of n=ds at *;rw [An,List.length_singleton] at hdd;refine C9 [0,1,2,3,4,5,6,7,8,9,10,11,12,13,14,16,17] [(0,0),(1,0),(2,0),(3,0),(4,1),(5,0),(6,1),(8,0),(9,1),(10,0),(11,1),(7,2),(12,2),(13,0),(14,2),(15,2),(16,0),(17,0),(18,2)] kR kR λhs=>?_;refine fM_ E E (fM_ E E (fQ_ E (F4 E) (fQ_ E (qf_ 0 0) ?_)));refine fR_ E ql_ ?_;refine fQ_ E (qf_ 0 0) ?_;refine fR_ E ql_ ?_;refine fQ_ E (qf_ 1 1) ?_;refine fR_ E ql_ ?_;refine fQ_ E (qf_ 2 2) ?_;refine fR_ E ql_ ?_;refine G5 E (aS E a0) kR (A2t vof of _ (hof.mono (λx hx=>mA (hR x hx)))) E ?_;rintro v33 M33 J33 ⟨rfl,h33⟩;haveI:=h33.cel;refine G5 E (aS E a0) kR (A2t vk key _ (hk.mono (λx hx=>mA (hR x hx)))) E ?_;rintro v38 M38 J38 ⟨rfl,h38⟩;haveI:=h38.cel;refine fQ_ E (E6 (place:=λx=>#[(0,1),(1,1),(2,1)][x]?) (z:=[vS,D3,vS]) (λ_=>by kernel_rfl) (eS E (eS E (eS E e0))) (bdS 0 1 E qR (bdS 1 1 E qR (bdS 2 1 E qR bd0)))) ?_
    refine B2h E E λ_=>(C4 (e:=176) (sz:=3) (z:=[vS,D3,vS]) kR (eS E e0) (bdS 0 3 E qR bd0) E λb40=>?_)
    refine G3 E E E (G6 (e:=176) (sz:=3) (by_:=56) E E kR E hsl1 (Cr (n:=1) Ce qR) (by intro c hc;simp only [Cz,Da,or_false] at hc;rcases hc with rfl|rfl|rfl;exact h33.one;rfl;exact h38.one) qP (by unfold maxLen;omega) qO E λv41 B41 hs41=>?_);haveI:=hs41.cel;refine fQ_ E (F4 E) (fQ_ E (qf_ 0 0) ?_);refine G3 E E E (E1 E E hs41.one kR Ct Cv ?_);obtain ⟨B42,hsub42,hs42⟩:=hs41.loV (ds.length+1-32) qO;refine E4 (D1 0) ?_;refine I1 (.range 15) (zp 0 [0,0,0,0,1,0,0,0,1,0,0,0,0,0,0,2]) kR kR λhs=>?_;refine fM_ E E (fM_ E E (fQ_ E (F4 E) (fQ_ E (qf_ 0 0) ?_)));refine fR_ E ql_ ?_;refine fM_ E E (fQ_ E (F4 E) (fQ_ E (qf_ 0 0) ?_));refine fR_ E ql_ ?_;refine fQ_ E (F8 (sz:=3) E kR (hs41.rd (R:=B41) λ_ h=>h)) ?_;refine fQ_ E (D2 (((ds.length+1:Nat):Int)-32) E E (V6 qO qO qO)) ?_;refine fQ_ E (B1N (((ds.length+1-32:Nat)):Int) E E (by split<;>omega)) ?_;refine fQ_ E (Z0 (sz:=3) (a:=ds.length+1-32) E E kR E (hs41.rd (R:=B41) λ_ h=>h) qO) ?_;refine fQ_ E (F4 E) (fQ_ E (qf_ 0 0) ?_);refine G3 E E E (E1 E E hs42.one kR Ct Cv ?_);refine U0 ?_;refine ⟨_,(sb,blk [vLo (ds.length+1-32) 3 v41] 136)::B42,[],A8v E,Ci (Cj (B:=[_]) qP (B4O (B:=B41) qP hsub42)),E,⟨_,(rows1++[[v33,(vU n),v38]]).drop (ds.length+1-32),B42,E,?_,?_⟩⟩
    . refine Sl.cast hs42 ?_ ?_
      . rw [hdd,Bg,An,List.length_singleton]
      . rw [<- A2C (s:=3) (by intro r hr;rcases List.mem_append.1 hr with h|h;exact hrw1.lens skT r h;rw [List.mem_singleton.1 h];rfl)];simp
    . rw [hdd];refine (RwL.snoc (x:=(⟨of,n,key⟩:Skp)) (r:=[v33,(vU n),v38]) (hrw1.mono skT (λx hx=>Ai _ hx)) ⟨v33,v38,E,h33.mono (λx hx=>?_),h38.mono (λx hx=>?_),hn⟩).drop _<;>simp [hx]
theorem B73(sb:Nat)(v vof:Value)(rows:List (List Value))(sks:List Skp)(of:LN)(n:Nat)(A:Mem)(hsb:(sb,blk [v] 136)∈A)(hv:Rd A 3 v sks.length rows.flatten)(hrw:RwL skR A rows sks)(hl:sks.length<=1000000)(hof:By A vof of):FnX prog 67 [(vP sb),vof,(vU n)] [] A λq M J=>M=[]∧∃u,q=.tuple #[u,.bool (A5s sks of n).isSome]∧By J u ((A5s sks of n).getD []):=by
 haveI:=hof.cel;haveI:=hv.cel;refine Co (N:=24) func67 E E E λw_=>?_;refine A8 (D5 0 1 2) (A1 (as_ (as_ (A0 (D5 0 1 2) (A1 (mv_ (mv_ (mv_ ?_))))))));refine D8 (aS E (aS E (aS E a0))) kR (A42 sb v vof rows sks of n _ (mA hsb) (hv.mono qS) (hrw.mono skT qS) hl (hof.mono qS)) E ?_;refine aS_ E (A0 (D0 0 8) (A3 (A1 (mV_ E (lQ_ (E3 E E E) (A0 (D5 0 8 14) ?_))))));refine C2 E ?_ ?_<;>intro hc
 .
  have hf:P0 (tst of n) sks = -1:=by
   obtain ⟨hf,hz⟩|⟨i,x,hf,hxi,hq,hmin⟩:=N8 (tst of n) sks
   . exact hf
   . rw [hf] at hc;(simp at hc)<;>omega
  refine A1 (as_ (as_ (A0 (D0 6 7) (A9 (tr ?_)))));exact ⟨_,[],[],A2w E E E,qZ,E,_,by rw [B4P hf];rfl,by rw [B4P hf];exact By.nil⟩
 .
  obtain ⟨hf,hz⟩|⟨i,x,hf,hxi,hq,hmin⟩:=N8 (tst of n) sks
  . rw [hf] at hc;simp at hc
  have hil:=(Ac.1 hxi).1;rw [hf];obtain ⟨r,hr,vo,vk,rfl,ho,hk,hn⟩:=hrw.get i x hxi;haveI:=hk.cel;refine A4 (nx (D0 0 8) (A1 (mV_ E (lQ_ (F4 E) (lQ_ (qf_ 0 0) ?_)))));refine lQ_ (H1 E kR (mA hsb) qR) ?_;refine mv_ ?_;refine lQ_ (G4 (sz:=3) E E kR E hv hil) ?_;refine lQ_ (B2G (off:=2) E hv hil kR) ?_;refine lQ_ (B2H (u:=vk) E (hv.mono qS) qO kR (by rw [A2D (hrw.lens skT) hr 2 qD];rfl)) ?_;refine C6 (aS E a0) kR (A2t vk x.key _ (hk.mono qS)) E ?_;rintro v23 M23 J23 ⟨rfl,h23⟩;haveI:=h23.cel;refine as_ (as_ (A0 (D0 6 7) (A9 ?_)));exact ⟨_,[],[],A2w E E E,qZ,E,_,by rw [B0g hf hxi];rfl,by rw [B0g hf hxi];exact h23.mono qS⟩
theorem B4Q(sb:Nat)(vof:Value)(sks:List Skp)(of:LN)(n:Nat)(R MS A:Mem)(hS:Sto R sb sks MS)(hR:∀x,x∈R->x∈A)(hl:sks.length<=1000000)(hof:By R vof of):FnX prog 69 [(vP sb),vof,(vU n)] MS A λq M J=>q=.bool (decide (P0 (tst of n) sks >= 0))∧Sto R sb (A5Z sks of n) M:=by
 obtain ⟨v,rows,B,rfl,hsl,hrw⟩:=hS.ex;haveI:=hsl.cel;haveI:=hof.cel;refine Co (N:=27) func69 E E E λw_=>?_;refine A8 (D5 0 1 2) (A1 (as_ (A0 (D5 0 1 2) (A1 (mv_ (mv_ (mv_ ?_)))))));refine D8 (aS E (aS E (aS E a0))) kR (A42 sb v vof rows sks of n _ qM (hsl.rd qS) (hrw.mono skT (λx hx=>mA (hR x hx))) hl (hof.mono (λx hx=>mA (hR x hx)))) E ?_;refine as_ (A0 (D0 0 7) ?_);refine P3 (α:=Value×List (List Value)×Mem) (λx=>[(7,.int .i64 (P0 (tst of n) sks))]) (λx=>(sb,blk [x.1] 136)::x.2.2) (λ_=>[]) (λx=>Sl 3 x.1 (A5Z sks of n).length x.2.1.flatten x.2.2∧RwL skR R x.2.1 (A5Z sks of n)) ?_ ?_
 .
  refine A1 (mV_ E (lQ_ (E3 E E E) (A0 (D5 0 7 13) ?_)));refine C2 E ?_ ?_<;>intro hc
  .
   obtain ⟨hf,hz⟩|⟨i,x,hf,hxi,hq,hmin⟩:=N8 (tst of n) sks
   . rw [hf] at hc;simp at hc
   have hil:=(Ac.1 hxi).1;rw [hf];obtain ⟨p,rfl,h0,_,_⟩|⟨b,o,cap,cs,e,rfl,rfl,g1,g2,g3,g4,g5⟩:=hsl
   . omega
   refine C1 (mV_ E (mV_ E (lQ_ (F4 E) (lQ_ (qf_ 0 0) ?_))));refine lQ_ ql_ ?_;refine mv_ (mv_ ?_);refine lQ_ (I9 (b:=1) E E E E qO) ?_;refine A2 E (C8 (Mc:=[(b,blk cs e)]) (R:=_) (aS E (aS E (aS E a0))) kR qP (A41 b o cap sks.length i (i+1) cs rows.flatten e _ g1 g2 g3 g4 g5 (hrw.ones skT) qO qO) E ?_);rintro v22 M22 J22 ⟨rfl,hs22⟩
   have hsd:Sl 3 v22 (sks.eraseIdx i).length (rows.take i++rows.drop (i+1)).flatten M22:=by have h:=hs22;rw [A3j (hrw.lens skT)] at h;exact Sl.cast h (by rw [List.length_eraseIdx,if_pos hil];omega) rfl
   haveI:=hsd.cel;refine lQ_ (F4 E) (lQ_ (qf_ 0 0) ?_);refine A2 E (E1 E E hsd.one kR Ct Cv ?_);refine C5 ?_;exact jn (v22,rows.take i++rows.drop (i+1),M22) ⟨by rw [A4c hf];exact hsd,by rw [A4c hf];exact hrw.erase i⟩ (D1 7) (Cj (B:=[_]) qP (Ch qP)) (λ_ h=>by cases h)
  .
   have hf:P0 (tst of n) sks = -1:=by
    obtain ⟨hf,hz⟩|⟨i,x,hf,hxi,hq,hmin⟩:=N8 (tst of n) sks
    . exact hf
    . rw [hf] at hc;(simp at hc)<;>omega
   refine A4 ?_;exact jn (v,rows,B) ⟨by rw [A64 hf];exact hsl,by rw [A64 hf];exact hrw⟩ (D1 7) .rfl qI
 . rintro ⟨v1,rows1,B1⟩ ⟨hsl1,hrw1⟩;dsimp only at hsl1 hrw1 ⊢;refine A1 (mV_ E (lQ_ (E3 E E E) (as_ (A0 (D1 6) (A9 ?_)))));exact ⟨_,_,[],H2 E E,Ci .rfl,E,⟨v1,rows1,B1,E,hsl1,hrw1⟩⟩
theorem B74(sb k:Nat)(v:Value)(xs:List Value)(A:Mem)(hsb:(sb,blk [v] 136)∈A)(hv:Rd A 3 v k xs)(h1:∀c∈xs,c.oneCell'=true)(hk:k<=1099511627776):FnX prog 132 [(vP sb)] [] A λq M J=>Sl 3 q k xs M:=by haveI:=hv.cel;refine Co (N:=10) func132 E E E λw_=>?_;refine A8 (D1 0) (A1 (aS_ E (A0 (D1 0) (A3 (A1 (mV_ E (lQ_ (F0 (e:=136) E E kR) (A0 (D0 0 4) ?_))))))));refine C7 E ?_;refine A4 (nx (D1 0) (A1 (mV_ E (lQ_ (F4 E) (lQ_ (qf_ 0 0) ?_)))));refine lQ_ (H1 E kR (mA hsb) qR) ?_;refine C6 (aS E a0) kR (B1k v k xs _ (hv.mono qS) h1 hk) E ?_;rintro v9 M9 J9 hs9;haveI:=hs9.cel;refine as_ (A0 (D1 2) (A9 ?_));exact ⟨_,M9,[],H2 E E,Ci (Ch qP),hs9⟩
theorem B4R(sb k:Nat)(v:Value)(xs:List Value)(A:Mem)(hsb:(sb,blk [v] 136)∈A)(hv:Rd A 3 v k xs)(h1:∀c∈xs,c.oneCell'=true)(hk:k<=1099511627776):FnX prog 91 [(vP sb)] [] A λq M J=>∃cb u B,q=(vP cb)∧M=(cb,blk [u] 136)::B∧Sl 3 u k xs B:=by refine Co (N:=7) func91 E E E λw_=>?_;refine A8 (D1 0) (A1 (as_ (A0 (D1 0) (A1 (mv_ ?_)))));refine C6 (aS E a0) kR (B74 sb k v xs _ (mA hsb) (hv.mono qS) h1 hk) E ?_;rintro v4 M4 J4 hs4;haveI:=hs4.cel;refine lQ_ (E6 (place:=λx=>#[(0,1)][x]?) (z:=[vS]) (λ_=>by kernel_rfl) (eS E e0) (bdS 0 1 E qR bd0)) ?_;refine A2 E (bx_ λb6=>?_);refine as_ (A0 (D1 2) (A9 ?_));exact ⟨_,(b6,_)::M4,[],H2 E E,Ci (Cj (B:=[_]) qP (Ch qP)),b6,v4,M4,E,E,hs4⟩

def A3W:LN:=[115,116,101,112]
def Z7(s:Ps)(key:LN):Ps:=A39 s key [] A3W 2
def C5v(s:Ps)(key:LN):List (LN):=A5f s key [] A3W 2
def X7(s:Ps)(key:LN):LN:=(C5v s key).getD 0 []
def A1i(s:Ps)(key:LN):LN:=(C5v s key).getD 1 []
theorem B0h(s:Ps)(key:LN)(ws:List (LN))(lb:LN)(n:Nat):(A5f s key ws lb n).length=n:=by
  unfold A5f;split
  . exact A6C _ _
  . exact (A1I _ _ _ _).1
theorem B4S{ls:List (LN)}(h:LsV R v ls)(hl:ls.length=2):∃vs u0 u1,Rd R 1 v 2 vs∧vs[0]? = some u0∧vs[1]? = some u1∧By R u0 (ls.getD 0 [])∧By R u1 (ls.getD 1 []):=by
  obtain ⟨vs,h1,h2⟩:=h.ex;obtain ⟨u0,a0,b0⟩:=h2.at (j:=0) qO;obtain ⟨u1,a1,b1⟩:=h2.at (j:=1) qO;rw [hl] at h1;refine ⟨vs,u0,u1,h1,a0,a1,?_,?_⟩
  . rw [Aj,Ab qO];exact b0
  . rw [Aj,Ab qO];exact b1
variable{b:Nat}
theorem B9b{P:Program}{fn:Func}{l:Env}{t u:Nat}{ty:TypeId}{cs:List Value}{e:TypeId}{fr:Nat×Nat}(h:fn.results=#[.tmp u,.cell t ty])(hv:lk l t=some (vP b))(hu:lk l u=some v)(ht:A59 P ty=some n)
    (hb:(b,Obj.cells cs.toArray e fr)∈R) (hn:cs.length=n):Res P fn l R (.tuple #[v,.agg cs.toArray]):=λN a w ha hw=>by
  obtain ⟨dsc,h1,h2,h3⟩:=R5 ht;have hl:=run_loadVar_row (P:=P) w b e ty cs.toArray fr dsc (hw b _ hb) h1 (by cases dsc<;>simp_all [TypeDesc.isRow]) (by rw [h3,<- hn];simp);simp [results,h,ha.slot t _ hv,ha.slot u _ hu,asAddr,hl]
theorem A43(pb:Nat)(s:Ps)(kv:Value)(key:LN)(n:Nat)(MP A:Mem)(hP:Prm pb s MP)(hk:By A kv key)(hn:s.ts.length<=1040000)(hG:Glb A):FnX prog 61 [(vP pb),.agg #[kv,(vU n)]] MP A λq M J=>∃v1 v2,q=.tuple #[v1,.agg #[v2,.int .u32 (((n+1)%4294967296:Nat):Int)]]∧Prm pb (Z7 s key) M∧By J v1 (X7 s key)∧By J v2 (A1i s key):=by haveI:=hk.cel;refine Co (N:=25) func61 E E E λw_=>?_;refine A8 (D0 0 1) (A1 ?_);refine A2 E (B6e E Cf E λb3=>?_);refine as_ ?_;refine A2 E (C3 (cs:=[vS,D3]) kR E λb5=>?_);refine A0 (D5 0 3 5) (A1 (mV_ E (lQ_ (qf_ 0 0) ?_)));refine lQ_ (H1 (v:=kv) E kR Ce qR) ?_;refine A2 E (C8 (Mc:=MP) (R:=_) (aS E (aS E (aS E (aS E (aS E a0))))) kR qP (A2o pb s kv (vS) key A3W [] 2 MP _ hP (hk.mono qS) LsV.nil qD ⟨by decide⟩ qD qD qD hn hG.up) E ?_);rintro v10 M10 J10 ⟨hP10,hL10⟩;have hlen:=B0h s key [] A3W 2;obtain ⟨us,u0,u1,hr,hu0,hu1,hb0,hb1⟩:=B4S hL10 hlen;haveI:=hr.cel;haveI:=hb0.cel;haveI:=hb1.cel;refine as_ (A0 (D5 3 5 6) (A3 (A1 (mv_ ?_))));refine lQ_ (F8 (sz:=1) E kR hr) ?_;refine lQ_ (F6 false E E (neF E)) (A0 (D7 3 5 6 13) ?_);refine C7 E ?_;refine A4 (nx (D5 3 5 6) ?_);refine C9 (.range 11) (zp 0 [0,0,1,0,0,1,0,1,0,0,0,2]) kR kR λhs=>?_;refine fm_ ?_;refine fQ_ E (G4 (sz:=1) (a:=0) E E kR E hr qD) ?_;refine fR_ E (Z8 (u:=u0) (hr.mono qS) E kR hu0) (fm_ ?_);refine fQ_ E (G4 (sz:=1) (a:=1) E E kR E hr qD) ?_;refine fR_ E (Z8 (u:=u1) (hr.mono qS) E kR hu1) (fQ_ E (qf_ 1 1) ?_);refine fR_ E ql_ ?_;refine fQ_ E (G7 4294967296 (b:=1) E E E E E E) ?_;refine fQ_ E (E6 (place:=λx=>#[(0,1),(1,1)][x]?) (z:=[vS,D3]) (λ_=>by kernel_rfl) (eS E (eS E e0)) (bdS 0 1 E qR (bdS 1 1 E qR bd0))) ?_;refine fa_ ?_;refine G3 E E E (A5 E E Cf kR qR (by intro c hc;simp only [Cz,Da,or_false] at hc;rcases hc with rfl|rfl;exact hb1.one;rfl) Cv ?_);refine E4 (D0 4 5) (A9 ?_);refine ⟨_,M10,[],B9b (n:=2) E E E kR Ce qR,Ci (Ch qP),u0,u1,E,hP10,hb0.mono (λx hx=>by simp [hx]),hb1.mono (λx hx=>by simp [hx])⟩

theorem up2{X J A:Mem}(hR:∀x,x∈R->x∈A):∀x,x∈J++R->x∈X++(J++A):=λx hx=>Ai _ ((List.mem_append.1 hx).elim (λh=>Ae _ h) (λh=>Ai _ (hR x h)))
def rep{α:Type}(f:α->α):Nat->α->α
  | 0,x=>x
  | k+1,x=>f (rep f k x)
abbrev Ast:=Ps×LN×Nat×List Skp
def aSt(of:LN)(x:Ast):Ast:=(Z7 x.1 x.2.1,A1i x.1 x.2.1,x.2.2.1+1,B9a x.2.2.2 ⟨of,x.2.2.1,X7 x.1 x.2.1⟩)
theorem B75(of:LN)(i:Nat)(x:Ast):(rep (aSt of) i x).2.2.1=x.2.2.1+i:=by
  induction i with
  | zero=>rfl
  | succ i ih=>show (rep (aSt of) i x).2.2.1+1=_;rw [ih];rfl
theorem B4T(of:LN)(i:Nat)(x:Ast):(rep (aSt of) i x).1.ts.length<=x.1.ts.length+3*i:=by
  induction i with
  | zero=>exact Av _
  | succ i ih =>
    show (Z7 (rep (aSt of) i x).1 (rep (aSt of) i x).2.1).ts.length<=_;have:=A2W (rep (aSt of) i x).1 (rep (aSt of) i x).2.1 [] A3W 2;unfold Z7;simp at this;omega
theorem B9c(of:LN)(i:Nat)(x:Ast)(h:x.2.2.2.length<=1000):(rep (aSt of) i x).2.2.2.length<=1000:=by
  cases i with
  | zero=>exact h
  | succ i=>exact Az (B7Z _ _) qD
theorem B1l(pb sb:Nat)(s:Ps)(kv vof:Value)(key of:LN)(N n:Nat)(sks:List Skp)(R MP MS A:Mem)(hP:Prm pb s MP)(hS:Sto R sb sks MS)(hR:∀x,x∈R->x∈A)(hk:By R kv key)(hof:By R vof of)(hl:sks.length<=1000)(hNn:N<=n)(h16:n-N<=16)(hn32:n<4294967296)(hn:s.ts.length<=1000000)(hG:Glb A):FnX prog 70 [(vP pb),.agg #[kv,(vU N)],vof,(vU n),(vP sb)] (MP++MS) A λq M J=>∃MP' MS' kv',M=MP'++MS'∧q=.tuple #[.agg #[kv',(vU ((rep (aSt of) (n-N) (s,key,N,sks)).2.2.1))],U7]∧Prm pb (rep (aSt of) (n-N) (s,key,N,sks)).1 MP'∧Sto (J++R) sb (rep (aSt of) (n-N) (s,key,N,sks)).2.2.2 MS'∧By (J++R) kv' (rep (aSt of) (n-N) (s,key,N,sks)).2.1:=by
 haveI:=hk.cel;haveI:=hof.cel;refine Co (N:=51) func70 E E E λw_=>?_;refine A8 (E9 0 1 2 3 4) (A1 ?_);refine A2 E (bx_ λb6=>?_);refine A2 E (C3 (cs:=[vS,D3]) kR E λb10=>?_);refine aS_ E (A0 (G9 0 2 3 4 6 10) (A3 (A6 (A1 (mV_ E (lQ_ (qf_ 1 1) ?_))))));refine lQ_ ql_ ?_;refine lQ_ (F6 false E E (ltF qO)) ?_;refine as_ (A0 (N1 0 2 3 4 6 10 14) ?_);refine C7 E ?_;refine A1 (mV_ E (lQ_ (qf_ 1 1) ?_));refine lQ_ ql_ ?_;refine lQ_ (D2 (((n-N:Nat)):Int) E E (by simp only [H8];rw [A9r qO qO];congr 2;omega)) ?_;refine lQ_ (F6 false E E (gtF qO)) ?_;refine as_ (A0 (N1 0 2 3 4 6 10 20) ?_);refine C7 E ?_;refine A4 (nb (nx (G9 0 2 3 4 6 10) (A3 (A6 ?_))));refine E0 (α:=Nat×Mem×Mem×Value×Mem) (λx=>[(0,(vP pb)),(2,vof),(3,(vU n)),(4,(vP sb)),(6,(vP b6)),(10,(vP b10))]) (λx=>x.2.1++(x.2.2.1++[(b6,blk [x.2.2.2.1,.int .u32 ((N+x.1:Nat):Int)] 44),(b10,blk [vS,D3] 44)])) (λx=>x.2.2.2.2) (λx=>x.1<=n-N∧Prm pb (rep (aSt of) x.1 (s,key,N,sks)).1 x.2.1∧Sto (x.2.2.2.2++R) sb (rep (aSt of) x.1 (s,key,N,sks)).2.2.2 x.2.2.1∧By (x.2.2.2.2++R) x.2.2.2.1 (rep (aSt of) x.1 (s,key,N,sks)).2.1) (λx=>n-N-x.1) ⟨0,MP,MS,kv,[]⟩ ⟨Am _,hP,hS,hk⟩ (G9 0 2 3 4 6 10) (Cj qP (Cj qP (Cj (B:=[_]) qP (Ch qP)))) (λ_ h=>by cases h) ?_;rintro ⟨i,MPi,MSi,kvi,Ji⟩ ⟨hi,hPi,hSi,hki⟩;dsimp only at hi hPi hSi hki ⊢;haveI:=hki.cel;have hts:=B4T of i (s,key,N,sks);have hsk:=B9c of i (s,key,N,sks) hl;dsimp only at hts hsk;refine A3 (A1 (lQ_ (qf_ 1 1) ?_));refine lQ_ ql_ ?_;refine mV_ E (lQ_ (E3 E E E) (A0 (N1 0 2 3 4 6 10 30) ?_));refine C2 E ?_ ?_<;>intro hc
 .
  have hlt:i<n-N:=by simp at hc;omega
  refine A4 (nx (G9 0 2 3 4 6 10) (A6 (A1 (aS_ E (A0 (G9 0 2 3 4 6 10) (A1 (lQ_ (qf_ 1 1) ?_)))))));refine lQ_ ql_ ?_;refine as_ (A0 (N1 0 2 3 4 6 10 13) (A3 (A1 (mv_ ?_))));refine lQ_ (qw_ 2) ?_;refine A2 E (C8 (Mc:=MPi) (R:=_) (aS E (aS E a0)) kR qP (A43 pb (rep (aSt of) i (s,key,N,sks)).1 kvi (rep (aSt of) i (s,key,N,sks)).2.1 (N+i) MPi _ hPi (hki.mono (up2 hR)) qO hG.up) E ?_);rintro v36 M36 J36 ⟨v1,v2,rfl,hP36,hb1,hb2⟩;haveI:=hb1.cel;haveI:=hb2.cel;rw [Af (show N+i+1<4294967296 by omega),show N+i+1=N+(i+1) from rfl];refine mV_ E (lQ_ (A0x E) (lQ_ (A0n E) (as_ ?_)));refine A2 E (A5 E E Cf kR qR (by intro c hc;simp only [Cz,Da,or_false] at hc;rcases hc with rfl|rfl;exact hb2.one;rfl) Cv ?_);refine A0 (V4 0 2 3 4 6 10 12 13) (A1 (lQ_ (qf_ 1 1) ?_));refine lQ_ ql_ ?_;refine mv_ ?_;refine lQ_ (F6 false E E (eqF qO)) ?_;refine A0 (Q4 0 2 3 4 6 10 12 13 42) ?_;refine C7 E ?_;refine A4 (nx (V4 0 2 3 4 6 10 12 13) (C1 (mv_ (mv_ (mv_ (mv_ ?_))))));refine lQ_ (E6 (place:=λx=>#[(0,1),(1,1),(2,1)][x]?) (z:=[vS,D3,vS]) (λ_=>by kernel_rfl) (eS E (eS E (eS E e0))) (bdS 0 1 E qR (bdS 1 1 E qR (bdS 2 1 E qR bd0)))) ?_;refine A2 E (C8 (Mc:=MSi) (R:=_) (aS E (aS E a0)) kR qP (B72 sb vof v1 (rep (aSt of) i (s,key,N,sks)).2.2.2 of (X7 (rep (aSt of) i (s,key,N,sks)).1 (rep (aSt of) i (s,key,N,sks)).2.1) (N+i) ((J36++Ji)++R) MSi _ (hSi.mono (λx hx=>by simp only [List.mem_append] at hx ⊢;rcases hx with h|h<;>simp [h])) (up2 hR) qO (hof.mono (λx hx=>Ai _ hx)) (hb1.mono (λx hx=>by simp [hx])) qO) E ?_);rintro v49 M49 J49 ⟨rfl,hS49⟩;refine C5 (nb ?_);exact rn ⟨i+1,M36,M49,v2,J49++(J36++Ji)⟩ ⟨by dsimp only;omega,hP36,(by have h:=hS49;rw [<- B75 of i (s,key,N,sks)] at h;exact h.mono (λx hx=>by simp only [List.mem_append] at hx ⊢;rcases hx with h|h|h<;>simp [h]):Sto ((J49++(J36++Ji))++R) sb _ M49),hb2.mono (λx hx=>by simp [hx])⟩ (by dsimp only;omega) (G9 0 2 3 4 6 10) (Cj qP (Cj qP (Cj (B:=[_]) qP (Ch qP)))) qI
 .
  have hge:i=n-N:=by simp at hc;omega
  subst hge;refine D6 (te (re (be E (nx (D0 6 10) (A1 ?_)))));refine lQ_ (qw_ 2) ?_;refine A2 E (A5 E E Cf kR qR (by intro c hc;simp only [Cz,Da,or_false] at hc;rcases hc with rfl|rfl;exact hki.one;rfl) Cv ?_);refine as_ (A0 (D0 10 11) (A9 ?_));refine ⟨_,MPi++MSi,[],A0e (n:=2) E E E kR Ce qR,Ci (Cj qP (Ch qP)),MPi,MSi,kvi,E,?_,hPi,hSi,hki⟩;rw [B75]
theorem B1m(pv sv kv vof:Value)(key of:LN)(N n:Nat)(A:Mem)(hk:By A kv key)(hof:By A vof of)(hNn:n<N):FnV prog 70 [pv,.agg #[kv,(vU N)],vof,(vU n),sv] A (.tuple #[.agg #[kv,(vU N)],.int .i64 8]):=by haveI:=hk.cel;haveI:=hof.cel;refine Cn (N:=51) func70 E E E λw=>?_;refine A8 (E9 0 1 2 3 4) (A1 ?_);refine A2 E (bx_ λb6=>?_);refine A2 E (C3 (cs:=[vS,D3]) kR E λb10=>?_);refine aS_ E (A0 (G9 0 2 3 4 6 10) (A3 (A6 (A1 (mV_ E (lQ_ (qf_ 1 1) ?_))))));refine lQ_ ql_ ?_;refine lQ_ (F6 true E E (ltT qO)) ?_;refine as_ (A0 (N1 0 2 3 4 6 10 14) ?_);refine E2 E ?_;refine A1 ?_;refine lQ_ (qw_ 2) ?_;refine A2 E (A5 E E Cf kR qR (by intro c hc;simp only [Cz,Da,or_false] at hc;rcases hc with rfl|rfl;exact hk.one;rfl) Cv ?_);refine as_ (A0 (D0 10 11) (A9 (br (tr ?_))));exact ⟨_,[],[],A0e (n:=2) E E E kR Ce qR,Aa _,by simp,E,E,E⟩
theorem B1n(pv sv kv vof:Value)(key of:LN)(N n:Nat)(A:Mem)(hk:By A kv key)(hof:By A vof of)(hNn:N<=n)(hn32:n<4294967296)(h16:16<n-N):FnV prog 70 [pv,.agg #[kv,(vU N)],vof,(vU n),sv] A (.tuple #[.agg #[kv,(vU N)],.int .i64 7]):=by haveI:=hk.cel;haveI:=hof.cel;refine Cn (N:=51) func70 E E E λw=>?_;refine A8 (E9 0 1 2 3 4) (A1 ?_);refine A2 E (bx_ λb6=>?_);refine A2 E (C3 (cs:=[vS,D3]) kR E λb10=>?_);refine aS_ E (A0 (G9 0 2 3 4 6 10) (A3 (A6 (A1 (mV_ E (lQ_ (qf_ 1 1) ?_))))));refine lQ_ ql_ ?_;refine lQ_ (F6 false E E (ltF qO)) ?_;refine as_ (A0 (N1 0 2 3 4 6 10 14) ?_);refine C7 E ?_;refine A1 (mV_ E (lQ_ (qf_ 1 1) ?_));refine lQ_ ql_ ?_;refine lQ_ (D2 (((n-N:Nat)):Int) E E (by simp only [H8];rw [A9r qO qO];congr 2;omega)) ?_;refine lQ_ (F6 true E E (gtT qO)) ?_;refine as_ (A0 (N1 0 2 3 4 6 10 20) ?_);refine E2 E ?_;refine A1 ?_;refine lQ_ (qw_ 2) ?_;refine A2 E (A5 E E Cf kR qR (by intro c hc;simp only [Cz,Da,or_false] at hc;rcases hc with rfl|rfl;exact hk.one;rfl) Cv ?_);refine as_ (A0 (D0 10 11) (A9 (br (tr ?_))));exact ⟨_,[],[],A0e (n:=2) E E E kR Ce qR,Aa _,by simp,E,E,E⟩

theorem A66(s:Ps):(E5 s).ts.length<=s.ts.length+1∧(E5 s).n=s.n+1:=by
  unfold E5;split
  . exact ⟨by simp,E⟩
  . refine ⟨?_,E⟩;show (add s.ts _).length<=_;unfold add;split<;>simp
theorem A3r(s:Ps)(w:LN):(H3 s w).ts.length<=s.ts.length+2:=by
  unfold H3;split
  . omega
  . have h1:=S9 (ts:=s.ts) (ws:=w);have h2:=A0T (ts:=rdT s.ts w) (t:=B0Z ((rdI s.ts w:Nat):Int));show (add (rdT s.ts w) _).length<=_;omega
theorem C5w(s:Ps)(w:LN):(H3 s w).n=s.n:=by unfold H3;split<;>rfl
theorem C1h(s:Ps)(w:LN):(I5 s w).length=32:=by
  unfold I5;split
  . exact A1M _ _
  . exact A0U _ qD
def A2u:LN:=[114,111,111,116]
def A44(s:Ps)(root sec pub:LN):Ps:=A39 (K7 s sec pub) root [A1g s sec pub] A2u 2
def C3L(s:Ps)(root sec pub:LN):List (LN):=A5f (K7 s sec pub) root [A1g s sec pub] A2u 2
def A89(s:Ps)(root sec pub:LN):LN:=(C3L s root sec pub).getD 0 []
def A8s(s:Ps)(root sec pub:LN):LN:=(C3L s root sec pub).getD 1 []
theorem A25(s:Ps)(root sec pub:LN):(A44 s root sec pub).ts.length<=s.ts.length+7∧(A44 s root sec pub).n=s.n:=by have h1:=T3 s sec pub;have h2:=A2W (K7 s sec pub) root [A1g s sec pub] A2u 2;have h3:=B4p s sec pub;have h4:=(A1J (K7 s sec pub) root [A1g s sec pub] A2u 2).2.1;have e:[A1g s sec pub].length=1:=rfl;unfold A44;omega
structure Rsd where
  own:LN
  their:LN
  root:LN
  sk:LN
  sn:Nat
  tk:LN
  tn:Nat
  prev:Nat
  sks:List Skp
def StF(R:Mem)(v:Value)(sks:List Skp):Prop:=∃sb u rows,v=(vP sb)∧(sb,blk [u] 136)∈R∧Rd R 3 u sks.length rows.flatten∧RwL skR R rows sks
theorem StF.mono{R R':Mem}{v:Value}{sks:List Skp}(h:StF R v sks)(hR:∀x,x∈R->x∈R'):StF R' v sks:=by obtain ⟨sb,u,rows,h1,h2,h3,h4⟩:=h;exact ⟨sb,u,rows,h1,hR _ h2,h3.mono hR,h4.mono skT hR⟩
def rsC(vo vt vr vk vl vs:Value)(r:Rsd):List Value:=[vo,vt,vr,vk,(vU r.sn),vl,(vU r.tn),(vU r.prev),vs]
abbrev Za(vo vt vr vk vl vs:Value)(r:Rsd):List Value:=[vo,vt,vr,vk,(vU r.sn),vl,(vU r.tn),(vU r.prev),vs]
structure RsR(R:Mem)(r:Rsd)(vo vt vr vk vl vs:Value):Prop where
  own:By R vo r.own
  their:By R vt r.their
  root:By R vr r.root
  sk:By R vk r.sk
  tk:By R vl r.tk
  st:StF R vs r.sks
  sn:r.sn<4294967296
  tn:r.tn<4294967296
  prev:r.prev<4294967296
  sks:r.sks.length<=1000
theorem RsR.mono{R R':Mem}{r:Rsd}{vo vt vr vk vl vs:Value}(h:RsR R r vo vt vr vk vl vs)(hR:∀x,x∈R->x∈R'):RsR R' r vo vt vr vk vl vs :=
  ⟨h.own.mono hR,h.their.mono hR,h.root.mono hR,h.sk.mono hR,h.tk.mono hR,h.st.mono hR,h.sn,h.tn,h.prev,h.sks⟩
theorem StF.one{sks:List Skp}(h:StF R v sks):v.oneCell'=true:=by obtain ⟨sb,u,rows,rfl,_⟩:=h;rfl
theorem StF.new(h:(b,blk [vS] 136)∈R):StF R (vP b) []:=⟨b,_,[],E,h,Rd.nil,RwL.nil⟩
def RsV(R:Mem)(v:Value)(r:Rsd):Prop:=∃vo vt vr vk vl vs,v=.agg (rsC vo vt vr vk vl vs r).toArray∧RsR R r vo vt vr vk vl vs
theorem RsV.mono{R R':Mem}{v:Value}{r:Rsd}(h:RsV R v r)(hR:∀x,x∈R->x∈R'):RsV R' v r:=by obtain ⟨vo,vt,vr,vk,vl,vs,e,g⟩:=h;exact ⟨vo,vt,vr,vk,vl,vs,e,g.mono hR⟩
def C1i(s:Ps)(sec their:LN):Rsd:=⟨F3 s,their,A89 (E5 s) sec (F3 s) their,A8s (E5 s) sec (F3 s) their,0,[],0,0,[]⟩
def C5x(s:Ps)(sec their:LN):Ps:=A44 (E5 s) sec (F3 s) their
def A14(sec own:LN):Rsd:=⟨own,[],sec,[],0,[],0,0,[]⟩
theorem B4U(pb:Nat)(s:Ps)(v1 v2 v3:Value)(root sec pub:LN)(MP A:Mem)(hP:Prm pb s MP)(hn:s.ts.length+100<=1040000)(h1:By A v1 root)(h2:By A v2 sec)(h3:By A v3 pub)(hG:Glb A):FnX prog 59 [(vP pb),v1,v2,v3] MP A λq M J=>∃u0 u1,q=.tuple #[u0,.agg #[u1,(vU 0)]]∧Prm pb (A44 s root sec pub) M∧By J u0 (A89 s root sec pub)∧By J u1 (A8s s root sec pub):=by haveI:=h1.cel;haveI:=h2.cel;haveI:=h3.cel;have hal:=T3 s sec pub;refine Co (N:=30) func59 E E E λw_=>?_;refine A8 (D7 0 1 2 3) (A1 (as_ ?_));refine A2 E (C3 (cs:=[vS,D3]) kR E λb9=>?_);refine A0 (E9 0 1 2 3 9) (A1 (mv_ (mv_ (mv_ (mv_ (mv_ ?_))))));refine A2 E (C8 (Mc:=MP) (R:=_) (aS E (aS E (aS E (a0)))) kR qP (A1h pb s v2 v3 sec pub MP _ hP qO (h2.mono qS) (h3.mono qS) hG.up) E ?_);rintro v16 M16 J16 ⟨hP16,h16⟩;haveI:=h16.cel;refine A2 E (C4 (e:=22) (sz:=1) (z:=[vS]) kR (eS E e0) (bdS 0 1 E qR bd0) E λb17=>?_);refine A2 E (C8 (Mc:=M16) (R:=_) (aS E (aS E (aS E (aS E (aS E (a0)))))) kR qP (A2o pb (K7 s sec pub) v1 (.slice (some ⟨b17,0,none⟩) 1 1) root A2u [A1g s sec pub] 2 M16 _ hP16 (h1.mono qS) ⟨[v16],Cr (n:=1) Ce qR,Lst.cons (h16.mono qS) Lst.nil⟩ (show 1<=1000 by decide) ⟨by decide⟩ qD qD qD qO hG.up) E ?_);rintro v18 M18 J18 ⟨hP18,hL18⟩;have hlen:=B0h (K7 s sec pub) root [A1g s sec pub] A2u 2;obtain ⟨us,u0,u1,hr,hu0,hu1,hb0,hb1⟩:=B4S hL18 hlen;haveI:=hr.cel;haveI:=hb0.cel;haveI:=hb1.cel;refine as_ (A0 (D0 9 10) (A3 (A1 (mv_ ?_))));refine lQ_ (F8 (sz:=1) E kR hr) ?_;refine lQ_ (F6 false E E (neF E)) (A0 (D5 9 10 21) ?_);refine C7 E ?_;refine A4 (nx (D0 9 10) ?_);refine C9 (.range 8) (zp 0 [0,0,1,0,0,1,0,0,2]) kR kR λhs=>?_;refine fm_ ?_;refine fQ_ E (G4 (sz:=1) (a:=0) E E kR E hr qD) ?_;refine fR_ E (Z8 (u:=u0) (hr.mono qS) E kR hu0) (fm_ ?_);refine fQ_ E (G4 (sz:=1) (a:=1) E E kR E hr qD) ?_;refine fR_ E (Z8 (u:=u1) (hr.mono qS) E kR hu1) ?_;refine fQ_ E (E6 (place:=λx=>#[(0,1),(1,1)][x]?) (z:=[vS,D3]) (λ_=>by kernel_rfl) (eS E e0) (bdS 0 1 E qR bd0)) ?_;refine fa_ ?_;refine G3 E E E (A5 E E Cf kR qR (by intro c hc;simp only [Cz,Da,or_false] at hc;rcases hc with rfl|rfl;exact hb1.one;rfl) Cv ?_);refine E4 (D0 8 9) (A9 ?_);exact ⟨_,M18,[],B9b (n:=2) E E E kR Ce qR,Ci (Ch qP),u0,u1,E,hP18,hb0.mono (λx hx=>by simp [hx]),hb1.mono (λx hx=>by simp [hx])⟩

def A67(k:LN)(p n:Nat):LN:=((beN k.length 4++k)++beN p 4)++beN n 4
theorem A26(k:LN)(p n:Nat):(A67 k p n).length=k.length+12:=by simp [A67,I7];omega
def A50(w h:LN):LN:=((beN w.length 4++w)++beN h.length 4)++h
theorem A3s(w h:LN):(A50 w h).length=w.length+h.length+8:=by simp [A50,I7];omega
theorem C1j(pb:Nat)(s:Ps)(v1 v2:Value)(sec their:LN)(MP A:Mem)(hP:Prm pb s MP)(hn:s.ts.length+200<=1040000)(hk:s.n<1000000000)(h1:By A v1 sec)(h2:By A v2 their)(hG:Glb A):FnX prog 25 [(vP pb),v1,v2] MP A λq M J=>Prm pb (C5x s sec their) M∧RsV (J++A) q (C1i s sec their):=by haveI:=h1.cel;haveI:=h2.cel;have hfl:=A66 s;refine Co (N:=27) func25 E E E λw_=>?_;refine A8 (D5 0 1 2) (A1 ?_);refine A2 E (C3 (cs:=[vS,vS,vS,vS,D3,vS,D3,D3,.pointer none]) kR E λb6=>?_);refine A0 (D7 0 1 2 6) (A1 (mv_ ?_));refine A2 E (C8 (Mc:=MP) (R:=_) (aS E (a0)) kR qP (X5 pb s MP _ hP qO qO hG.up) E ?_);rintro v9 M9 J9 ⟨hP9,h9⟩;haveI:=h9.cel;refine mv_ ?_;refine C6 (aS E a0) kR (P8 v2 their _ (h2.mono qS)) E ?_;rintro v11 M11 J11 ⟨rfl,h11⟩;haveI:=h11.cel;refine lQ_ (E6 (place:=λx=>#[(0,1)][x]?) (z:=[vS]) (λ_=>by kernel_rfl) e0 bd0) ?_;refine A2 E (bx_ λb13=>?_);refine lQ_ (E6 (place:=λx=>#[(0,1),(1,1),(2,1),(3,2),(5,2),(7,1),(8,1)][x]?) (z:=[vS,vS,vS,vS,D3,vS,D3,D3,.pointer none]) (λ_=>by kernel_rfl) (eS E (eS E (eS E e0))) (bdS 0 1 E qR (bdS 1 1 E qR (bdS 8 1 E qR bd0)))) ?_;refine A2 E (C3 (cs:=[vS,vS,vS,vS,D3,vS,D3,D3,.pointer none]) kR E λb7=>?_);refine A2 E (A5 (vs:=[v9,v11,vS,vS,D3,vS,D3,D3,(vP b13)]) E E E kR qR (A7 h9.one (A7 h11.one (A7 E al6))) Cv ?_);refine A0 (E9 0 1 2 6 7) (A1 (mV_ E (mV_ E (lQ_ (qf_ 0 0) ?_))));refine lQ_ ql_ ?_;refine mv_ ?_;refine A2 E (C8 (Mc:=M9) (R:=_) (aS E (aS E (aS E (aS E (a0))))) kR qP (B4U pb (E5 s) v1 v9 v2 sec (F3 s) their M9 _ hP9 qO (h1.mono qS) (h9.mono qS) (h2.mono qS) hG.up) E ?_);rintro v21 M21 J21 ⟨u0,u1,rfl,hP21,g0,g1⟩;haveI:=g0.cel;haveI:=g1.cel;refine mV_ E (lQ_ (A0x E) (lQ_ (A0n E) (lQ_ (qf_ 2 2) ?_)));refine A2 E (E1 E E g0.one kR Ct Cv ?_);refine lQ_ (qf_ 3 3) ?_;refine A2 E (P1 (vs:=[u1,D3]) (cs':=[v9,v11,u0,u1,D3,vS,D3,D3,(vP b13)]) E E E kR (by exact (show 3+2<=9 by decide)) (A7 g1.one (A7 E K5)) E Cv ?_);refine A0 (D0 6 7) ?_;refine Z4 (B:=[(b13,blk [vS] 136)]) qP ?_;refine A1 ?_;refine lQ_ (qw_ 9) ?_;refine A2 E (A5 (vs:=[v9,v11,u0,u1,D3,vS,D3,D3,(vP b13)]) E E E kR qR (A7 h9.one (A7 h11.one (A7 g0.one (A7 g1.one al5)))) Cv ?_);refine A0 (D1 6) (A9 ?_);exact ⟨_,M21,[],A1l (n:=9) E E kR Ce qR,Ci (Ch qP),hP21,v9,v11,u0,u1,vS,_,E,⟨h9.mono qS,h11.mono qS,g0.mono qS,g1.mono qS,By.nil,StF.new qM,(show 0<4294967296 by decide),(show 0<4294967296 by decide),(show 0<4294967296 by decide),(show 0<=1000 by decide)⟩⟩
theorem C1k(v1 v2:Value)(sec own:LN)(A:Mem)(h1:By A v1 sec)(h2:By A v2 own):FnX prog 30 [v1,v2] [] A λq M J=>M=[]∧RsV (J++A) q (A14 sec own):=by haveI:=h1.cel;haveI:=h2.cel;refine Co (N:=12) func30 E E E λw_=>?_;refine A8 (D0 0 1) (A1 ?_);refine A2 E (C3 (cs:=[vS,vS,vS,vS,D3,vS,D3,D3,.pointer none]) kR E λb4=>?_);refine A0 (D5 0 1 4) (A1 (mv_ ?_));refine C6 (aS E a0) kR (P8 v2 own _ (h2.mono qS)) E ?_;rintro v6 M6 J6 ⟨rfl,h6⟩;haveI:=h6.cel;refine mv_ ?_;refine C6 (aS E a0) kR (P8 v1 sec _ (h1.mono qS)) E ?_;rintro v8 M8 J8 ⟨rfl,h8⟩;haveI:=h8.cel;refine lQ_ (E6 (place:=λx=>#[(0,1)][x]?) (z:=[vS]) (λ_=>by kernel_rfl) e0 bd0) ?_;refine A2 E (bx_ λb10=>?_);refine lQ_ (E6 (place:=λx=>#[(0,1),(1,1),(2,1),(3,2),(5,2),(7,1),(8,1)][x]?) (z:=[vS,vS,vS,vS,D3,vS,D3,D3,.pointer none]) (λ_=>by kernel_rfl) (eS E (eS E (eS E e0))) (bdS 0 1 E qR (bdS 2 1 E qR (bdS 8 1 E qR bd0)))) ?_;refine A2 E (A5 (vs:=[v6,vS,v8,vS,D3,vS,D3,D3,(vP b10)]) E E E kR qR (A7 h6.one (A7 E (A7 h8.one al6))) Cv ?_);refine A0 (D1 4) (A9 ?_);exact ⟨_,[],[(b10,blk [vS] 136)],A1l (n:=9) E E kR Ce qR,Cj (B:=[_]) qP qZ,E,v6,vS,v8,vS,vS,_,E,⟨h6.mono qS,By.nil,h8.mono qS,By.nil,By.nil,StF.new qM,(show 0<4294967296 by decide),(show 0<4294967296 by decide),(show 0<4294967296 by decide),(show 0<=1000 by decide)⟩⟩
theorem A9a(r:Rsd)(vo vt vr vk vl vs:Value)(A:Mem)(hr:RsR A r vo vt vr vk vl vs):FnX prog 60 [.agg (rsC vo vt vr vk vl vs r).toArray] [] A λq M J=>∃cb,q=.agg (rsC vo vt vr vk vl (vP cb) r).toArray∧Sto A cb r.sks M:=by haveI:=hr.own.cel;haveI:=hr.their.cel;haveI:=hr.root.cel;haveI:=hr.sk.cel;haveI:=hr.tk.cel;obtain ⟨sb,u,rows,rfl,hsb,hrd,hrw⟩:=hr.st;have hsl:=hr.sks;unfold rsC;refine Co (N:=8) func60 E E E λw_=>?_;refine A8 (D1 0) (A1 ?_);refine A2 E (bx_ λb1=>?_);refine A2 E (C3 (cs:=[vS,vS,vS,vS,D3,vS,D3,D3,.pointer none]) kR E λb2=>?_);refine A0 (D0 1 2) (A1 (lQ_ (qf_ 8 8) ?_));refine lQ_ ql_ ?_;refine C6 (aS E a0) kR (B4R sb _ u rows.flatten _ (mA hsb) (hrd.mono qS) (hrw.ones skT) qO) E ?_;rintro v5 M5 J5 ⟨cb,u5,B5,rfl,rfl,hs5⟩;refine lQ_ (qf_ 8 8) ?_;refine A2 E (E1 E E E kR Ct Cv ?_);refine A0 (D0 1 2) (A1 ?_);refine lQ_ (qw_ 9) ?_;refine A2 E (A5 (vs:=[vo,vt,vr,vk,(vU r.sn),vl,(vU r.tn),(vU r.prev),(vP cb)]) E E E kR qR (A7 hr.own.one (A7 hr.their.one (A7 hr.root.one (A7 hr.sk.one (A7 E (A7 hr.tk.one al3)))))) Cv ?_);refine A0 (D1 2) (A9 ?_);exact ⟨_,(cb,blk [u5] 136)::B5,[],A1l (n:=9) E E kR Ce qR,Ci (Cj (B:=[_]) qP (Ch qP)),cb,E,⟨u5,rows,B5,E,hs5,hrw⟩⟩
theorem B76(vk:Value)(k:LN)(p n:Nat)(A:Mem)(hk:By A vk k)(hl:k.length<=16000000)(hp:p<4294967296)(hn:n<4294967296):FnX prog 94 [.agg #[vk,(vU p),(vU n)]] [] A λq M J=>M=[]∧By J q (A67 k p n):=by
 haveI:=hk.cel;refine Co (N:=19) func94 E E E λw_=>?_;refine A8 (D1 0) (A1 ?_);refine A2 E (bx_ λb1=>?_);refine as_ (A0 (D1 1) (A1 ?_));refine lQ_ (E6 (place:=λx=>#[(0,1)][x]?) (z:=[vS]) (λ_=>by kernel_rfl) e0 bd0) ?_;refine A2 E (bx_ λb5=>?_);refine as_ (A0 (D0 1 3) ?_);refine F9 ([(b5,blk [vS] 126)]) (_) true (.range 14) [(0,0),(1,0),(2,1),(4,0),(5,1),(6,0),(8,0),(9,1),(10,0),(3,2),(7,2),(11,2),(12,2),(13,0)] kR kR qP λhs K n0 hKm hKs hKn=>?_;refine kM_ E E (kQ_ E (qf_ 0 0) ?_);refine I8 hs E hKs ql_ ?_;refine kQ_ E (qf_ 1 1) ?_;refine I8 hs E hKs ql_ ?_;refine kQ_ E (K2 (k':=.u64) p E kR (A2r qO)) ?_;refine kQ_ E (qf_ 2 2) ?_;refine I8 hs E hKs ql_ ?_;refine kQ_ E (K2 (k':=.u64) n E kR (A2r qO)) ?_
 refine G8 _ _ E E (Ah _) hKm λw0=>(C8 (Mc:=[(b5,blk [vS] 126)]) (R:=_) (aS E (aS E (a0))) kR qP (L8 b5 vk k [] _ _ Wtr.new (hk.mono qS) qD) E ?_)
 rintro v9 M9 J9 ⟨rfl,hW9⟩ hKx9
 refine G8 M9 _ E E qP (λx hx=>hKx9 (hKn E) x (by simpa using hx)) λw0=>(C8 (Mc:=M9) (R:=_) (aS E (aS E (aS E (a0)))) kR qP (Q0 b5 p 4 _ _ _ hW9 qO qD (by simp [I7];omega)) E ?_)
 rintro v13 M13 J13 ⟨rfl,hW13⟩ hKx13
 refine G8 M13 _ E E qP (λx hx=>hKx13 (hKn E) x (by simpa using hx)) λw0=>(C8 (Mc:=M13) (R:=_) (aS E (aS E (aS E (a0)))) kR qP (Q0 b5 n 4 _ _ _ hW13 qO qD (by simp [I7];omega)) E ?_)
 rintro v17 M17 J17 ⟨rfl,hW17⟩ hKx17
 refine G8 M17 _ E E qP (λx hx=>hKx17 (hKn E) x (by simpa using hx)) λw0=>(C8 (Mc:=M17) (R:=_) (aS E (a0)) kR qP (A0o b5 _ M17 _ hW17 (by simp [I7];omega)) E ?_)
 rintro v18 M18 J18 ⟨hW18,h18⟩ hKx18;haveI:=h18.cel;refine kQ_ E (G2 E) (I0 (D1 2) (A9 ?_));exact ⟨_,[],[],H2 E E,qZ,E,h18.mono qS⟩
theorem B4V(vw vk:Value)(w k:LN)(p n:Nat)(A:Mem)(hw:By A vw w)(hk:By A vk k)(hl:w.length+k.length<=16000000)(hp:p<4294967296)(hn:n<4294967296):FnX prog 63 [vw,.agg #[vk,(vU p),(vU n)]] [] A λq M J=>M=[]∧By J q (A50 w (A67 k p n)):=by
 haveI:=hw.cel;haveI:=hk.cel;refine Co (N:=15) func63 E E E λw_=>?_;refine A8 (D0 0 1) (A1 ?_);refine A2 E (bx_ λb3=>?_);refine as_ (A0 (D0 0 3) (A1 ?_));refine lQ_ (E6 (place:=λx=>#[(0,1)][x]?) (z:=[vS]) (λ_=>by kernel_rfl) e0 bd0) ?_;refine A2 E (bx_ λb7=>?_);refine as_ (A0 (D5 0 3 5) ?_);refine F9 ([(b7,blk [vS] 126)]) (_) true (.range 8) [(0,0),(1,0),(3,1),(2,2),(4,2),(5,2),(6,2),(7,0)] kR kR qP λhs K n0 hKm hKs hKn=>?_;refine kM_ E E (km_ ?_);refine I8 hs E hKs (qw_ 3) ?_
 refine G8 _ _ E E (Ah _) hKm λw0=>(C8 (Mc:=[(b7,blk [vS] 126)]) (R:=_) (aS E (aS E (a0))) kR qP (L8 b7 vw w [] _ _ Wtr.new (hw.mono qS) qD) E ?_)
 rintro v10 M10 J10 ⟨rfl,hW10⟩ hKx10
 refine G8 [] _ rfl rfl (Ah _) (λ_ h=>by cases h) λw0=>(D9 (aS rfl a0) kR (B76 vk k p n _ (hk.mono qS) qO hp hn) rfl ?_)
 rintro v12 M12 J12 ⟨rfl,h12⟩ _;haveI:=h12.cel;dsimp only [Cw,List.append_eq]
 refine G8 M10 _ E E qP (λx hx=>hKx10 (hKn E) x (by simpa using hx)) λw0=>(C8 (Mc:=M10) (R:=_) (aS E (aS E (a0))) kR qP (L8 b7 v12 (A67 k p n) _ _ _ hW10 (h12.mono qS) (by simp [I7];omega)) E ?_)
 rintro v13 M13 J13 ⟨rfl,hW13⟩ hKx13
 refine G8 M13 _ E E qP (λx hx=>hKx13 (hKn E) x (by simpa using hx)) λw0=>(C8 (Mc:=M13) (R:=_) (aS E (a0)) kR qP (A0o b7 _ M13 _ hW13 (by simp [I7,A26];omega)) E ?_)
 rintro v14 M14 J14 ⟨hW14,h14⟩ hKx14;haveI:=h14.cel;refine kQ_ E (G2 E) (I0 (D1 4) (A9 ?_));exact ⟨_,[],[],H2 E E,qZ,E,h14.mono qS⟩

def rolN(x n:Nat):Nat:=(x <<< n)%4294967296 ||| x >>> (32-n)
theorem C1l{x:Nat}(hx:x<4294967296):rolN x n<4294967296:=B5X U9 (B1T hx)
def wrdN(p:LN):Nat:=((p.getD 0 0 ||| (p.getD 1 0 <<< 8)%4294967296) ||| (p.getD 2 0 <<< 16)%4294967296) ||| (p.getD 3 0 <<< 24)%4294967296
variable{p:LN}
theorem A1j(h:∀x∈p,x<256)(i:Nat):p.getD i 0<256:=by
  rw [Aj]
  cases hq:p[i]? with
  | none=>decide
  | some x=>exact h x (As hq)
theorem B4W(h:∀x∈p,x<256):wrdN p<4294967296:=B5X (B5X (B5X (by have:=A1j h 0;omega) U9) U9) U9
theorem A4d(x n:Nat)(A:Mem)(hx:x<4294967296)(h0:0<n)(hn:n<32):FnV prog 165 [(vU x),(vI n)] A (vU (rolN x n)):=by refine Cn (N:=17) func165 E E E λw=>?_;refine A8 (D0 0 1) (A1 (as_ (A0 (D0 0 1) (A1 (mv_ ?_)))));refine lQ_ (K2 (k':=.u64) n E kR (A2r qO)) ?_;refine lQ_ (D2 ((n:Nat):Int) E E ((C4Z (k:=.u64) (b:=31) E (by show _<2^64;omega) qD).trans (by rw [Nat.and_two_pow_sub_one_eq_mod _ 5,Af qO]))) ?_;refine as_ (A0 (D0 0 5) (A1 (mv_ (mv_ ?_))));refine lQ_ (A1w n E E E qO) ?_;refine mv_ (mv_ ?_);refine lQ_ (D2 ((32-n:Nat):Int) E E ((C4Y (k:=.u64) (a:=32) (b:=n) E (32-n) (by show _<=2^64;omega) (by show (32+(18446744073709551616-n))%18446744073709551616=32-n;omega)))) ?_;refine lQ_ (T9 (32-n) E E E (by show 32-n<=32;omega)) ?_;refine lQ_ (A3B E E U9 (B1T hx)) (as_ (A0 (D1 4) (A9 ?_)));exact ⟨_,[],[],H2 E E,Aa _,by simp,E,E,E⟩
theorem A4e(h:n<256):IntKind.u32.wrap (n:Int)=(n:Int):=by unfold IntKind.wrap;simp [IntKind.signed,IntKind.bits];omega
theorem B9d(v:Value)(w:LN)(A:Mem)(hv:By A v w)(hl:4<=w.length):FnV prog 191 [v] A (vU (wrdN w)):=by haveI:=hv.cel;refine Cn (N:=25) func191 E E E λw_=>?_;refine A8 (D1 0) (A1 (as_ (A0 (D1 0) ?_)));refine C9 (.range 23) (zp 0 [0,0,1,0,0,0,1,0,0,0,0,0,1,0,0,0,0,0,1,0,0,0,0]) kR kR λhs=>?_;refine fm_ ?_;refine fQ_ E (G4 (sz:=1) (a:=0) E E kR E hv.rd qO) ?_;refine fR_ E (Z9 (k:=.u8) E kR (hv.rd.mono qS) qO) ?_;refine fQ_ E (K2 (k':=.u32) (w.getD 0 0) E kR (A4e (A1j hv.lt 0))) (fm_ ?_);refine fQ_ E (G4 (sz:=1) (a:=1) E E kR E hv.rd qO) ?_;refine fR_ E (Z9 (k:=.u8) E kR (hv.rd.mono qS) qO) ?_;refine fQ_ E (K2 (k':=.u32) (w.getD 1 0) E kR (A4e (A1j hv.lt 1))) ?_;refine fQ_ E (A1w 8 E E E qD) ?_;refine fQ_ E (A3B E E (by have:=A1j hv.lt 0;omega) U9) ?_;refine fm_ ?_;refine fQ_ E (G4 (sz:=1) (a:=2) E E kR E hv.rd qO) ?_;refine fR_ E (Z9 (k:=.u8) E kR (hv.rd.mono qS) qO) ?_;refine fQ_ E (K2 (k':=.u32) (w.getD 2 0) E kR (A4e (A1j hv.lt 2))) ?_;refine fQ_ E (A1w 16 E E E qD) ?_;refine fQ_ E (A3B E E (B5X (by have:=A1j hv.lt 0;omega) U9) U9) ?_;refine fm_ ?_;refine fQ_ E (G4 (sz:=1) (a:=3) E E kR E hv.rd qO) ?_;refine fR_ E (Z9 (k:=.u8) E kR (hv.rd.mono qS) qO) ?_;refine fQ_ E (K2 (k':=.u32) (w.getD 3 0) E kR (A4e (A1j hv.lt 3))) ?_;refine fQ_ E (A1w 24 E E E qD) ?_;refine fQ_ E (A3B E E (B5X (B5X (by have:=A1j hv.lt 0;omega) U9) U9) U9) ?_;refine fA_ E E (E4 (D1 2) (A9 ?_));exact ⟨_,[],[],H2 E E,Aa _,by simp,E,E,E⟩
theorem A45(v:Value)(w:LN)(n:Nat)(A:Mem)(hv:By A v w)(hn:n<=16000000):FnX prog 169 [v,.int .i64 (n:Int)] [] A λq M J=>M=[]∧By J q (H5 w n):=by haveI:=hv.cel;have hvl:=hv.len;refine Co (N:=12) func169 E E E λw_=>?_;refine A8 (D0 0 1) (A1 (as_ (A0 (D0 0 1) (A1 (mv_ ?_)))));refine A2 E (A0S (by_:=1) (k:=.u8) (e:=5) n E E kR E E qO qO E λb7=>?_);refine as_ (A0 (D0 0 5) (A1 (mv_ (mv_ ?_))));refine A2 E (A4A (e:=5) (us:=w) (ws:=List.replicate n 0) (ws':=H5 w n) (by_:=1) E E kR (hv.rd.mono qS) qM (by simp [H5]) Cv E ?_);refine A0 (D1 5) (A1 (mv_ (as_ (A0 (D1 4) (A9 ?_)))));refine ⟨_,[],[(b7,blk (nums .u8 (H5 w n)) 5)],H2 E E,Cg qM,⟨E,⟨?_,A3h hv.lt n,by rw [L4];omega⟩⟩⟩;rw [L4];exact Cr (n:=n) qK (by simp [L4])

def adW(S:LN)(a b:Nat):LN:=S.set a ((S.getD a 0+S.getD b 0)%4294967296)
def xrW(S:LN)(d a n:Nat):LN:=S.set d (rolN (S.getD d 0 ^^^ S.getD a 0) n)
def C3M(S:LN)(a b c d:Nat):LN:=xrW (adW (xrW (adW (xrW (adW (xrW (adW S a b) d a 16) c d) b c 12) a b) d a 8) c d) b c 7
structure W16(S:LN):Prop where
  len:S.length=16
  lt:∀x∈S,x<4294967296
variable{S:LN}
theorem W16.get(h:W16 S)(i:Nat):S.getD i 0<4294967296:=by
  rw [Aj]
  cases hq:S[i]? with
  | none=>decide
  | some x=>exact h.lt x (As hq)
theorem W16.set{S:LN}(h:W16 S)(i x:Nat)(hx:x<4294967296):W16 (S.set i x):=⟨by rw [Bk];exact h.len,λy hy=>by rcases Bf hy with h1|rfl;exact h.lt y h1;exact hx⟩
theorem xor32{a:Nat}(ha:a<4294967296)(hb:b<4294967296):a ^^^ b<4294967296:=Nat.xor_lt_two_pow (n:=32) ha hb
theorem W16.ad(h:W16 S)(a b:Nat):W16 (adW S a b):=h.set _ _ (Ad _ qD)
theorem W16.xr(h:W16 S)(d a n:Nat):W16 (xrW S d a n):=h.set _ _ (C1l (xor32 (h.get d) (h.get a)))
theorem W16.trn(h:W16 S)(a b c d:Nat):W16 (C3M S a b c d):=(((((((h.ad a b).xr d a 16).ad c d).xr b c 12).ad a b).xr d a 8).ad c d).xr b c 7
theorem B4X(sb:Nat)(S0:LN)(a b c d:Nat)(A:Mem)(hS0:W16 S0)(ha_:a<16)(hb_:b<16)(hc_:c<16)(hd_:d<16):FnX prog 192 [(vP sb),(vI a),(vI b),(vI c),(vI d)] [(sb,blk (nums .u32 S0) 269)] A λq M J=>q=.tuple #[]∧M=[(sb,blk (nums .u32 (C3M S0 a b c d)) 269)]∧J=[]:=by
 refine Co (N:=126) func192 E E E λw_=>?_;refine A8 (E9 0 1 2 3 4) ?_;refine C9 (.range 13) (zp 0 [0,0,0,0,1,0,0,0,0,1,0,0,0,2]) kR kR λhs=>?_;refine fM_ E E (fM_ E E (fQ_ E (F4 E) ?_));refine fQ_ E (F1 (e:=40) (n:=16) (sz:=1) (i:=a) a E E kR kR E ha_ qO) ?_;refine fR_ E (H9 a E kR Ce E (by rw [hS0.len];exact ha_)) ?_;refine fM_ E E (fM_ E E (fQ_ E (F4 E) ?_));refine fQ_ E (F1 (e:=40) (n:=16) (sz:=1) (i:=b) b E E kR kR E hb_ qO) ?_;refine fR_ E (H9 b E kR Ce E (by rw [hS0.len];exact hb_)) ?_;refine fQ_ E (G7 4294967296 E E E E E E) (fQ_ E (F4 E) ?_);refine fQ_ E (F1 (e:=40) (n:=16) (sz:=1) (i:=a) a E E kR kR E ha_ qO) ?_;refine G3 E E E (K4 a E E kR E (by rw [hS0.len];exact ha_) Cv ?_);refine E4 (E9 0 1 2 3 4) ?_;have hS1:=hS0.ad a b;change W16 (S0.set a ((S0.getD a 0+S0.getD b 0)%4294967296)) at hS1
 obtain ⟨S1,e1⟩:∃z,S0.set a ((S0.getD a 0+S0.getD b 0)%4294967296)=z:=⟨_,E⟩
 rw [e1] at hS1 ⊢;change adW S0 a b=S1 at e1;refine C9 (.range 16) [(0,0),(1,0),(2,0),(3,0),(4,0),(5,0),(6,1),(7,0),(8,0),(9,0),(10,0),(11,1),(12,0),(14,0),(13,2),(15,0),(16,2)] kR kR λhs=>?_;refine fM_ E E (fM_ E E (fM_ E E (fM_ E E (fQ_ E (F4 E) ?_))));refine fQ_ E (F1 (e:=40) (n:=16) (sz:=1) (i:=d) d E E kR kR E hd_ qO) ?_;refine fR_ E (H9 d E kR Ce E (by rw [hS1.len];exact hd_)) ?_;refine fM_ E E (fM_ E E (fQ_ E (F4 E) ?_));refine fQ_ E (F1 (e:=40) (n:=16) (sz:=1) (i:=a) a E E kR kR E ha_ qO) ?_;refine fR_ E (H9 a E kR Ce E (by rw [hS1.len];exact ha_)) ?_;refine fQ_ E (U8 E E (hS1.get _) (hS1.get _)) (fQ_ E (F4 E) ?_);refine N3 E (aS E (aS E a0)) kR (A4d _ 16 _ (xor32 (hS1.get _) (hS1.get _)) qD qD) E ?_;refine fQ_ E (F1 (e:=40) (n:=16) (sz:=1) (i:=d) d E E kR kR E hd_ qO) ?_;refine G3 E E E (K4 d E E kR E (by rw [hS1.len];exact hd_) Cv ?_);refine E4 (E9 0 1 2 3 4) ?_;have hS2:=hS1.xr d a 16;change W16 (S1.set d (rolN (S1.getD d 0 ^^^ S1.getD a 0) 16)) at hS2
 obtain ⟨S2,e2⟩:∃z,S1.set d (rolN (S1.getD d 0 ^^^ S1.getD a 0) 16)=z:=⟨_,E⟩
 rw [e2] at hS2 ⊢;change xrW S1 d a 16=S2 at e2;refine C9 (.range 13) (zp 0 [0,0,0,0,1,0,0,0,0,1,0,0,0,2]) kR kR λhs=>?_;refine fM_ E E (fM_ E E (fQ_ E (F4 E) ?_));refine fQ_ E (F1 (e:=40) (n:=16) (sz:=1) (i:=c) c E E kR kR E hc_ qO) ?_;refine fR_ E (H9 c E kR Ce E (by rw [hS2.len];exact hc_)) ?_;refine fM_ E E (fM_ E E (fQ_ E (F4 E) ?_));refine fQ_ E (F1 (e:=40) (n:=16) (sz:=1) (i:=d) d E E kR kR E hd_ qO) ?_;refine fR_ E (H9 d E kR Ce E (by rw [hS2.len];exact hd_)) ?_;refine fQ_ E (G7 4294967296 E E E E E E) (fQ_ E (F4 E) ?_);refine fQ_ E (F1 (e:=40) (n:=16) (sz:=1) (i:=c) c E E kR kR E hc_ qO) ?_;refine G3 E E E (K4 c E E kR E (by rw [hS2.len];exact hc_) Cv ?_);refine E4 (E9 0 1 2 3 4) ?_;have hS3:=hS2.ad c d;change W16 (S2.set c ((S2.getD c 0+S2.getD d 0)%4294967296)) at hS3
 obtain ⟨S3,e3⟩:∃z,S2.set c ((S2.getD c 0+S2.getD d 0)%4294967296)=z:=⟨_,E⟩
 rw [e3] at hS3 ⊢;change adW S2 c d=S3 at e3;refine C9 (.range 16) [(0,0),(1,0),(2,0),(3,0),(4,0),(5,0),(6,1),(7,0),(8,0),(9,0),(10,0),(11,1),(12,0),(14,0),(13,2),(15,0),(16,2)] kR kR λhs=>?_;refine fM_ E E (fM_ E E (fM_ E E (fM_ E E (fQ_ E (F4 E) ?_))));refine fQ_ E (F1 (e:=40) (n:=16) (sz:=1) (i:=b) b E E kR kR E hb_ qO) ?_;refine fR_ E (H9 b E kR Ce E (by rw [hS3.len];exact hb_)) ?_;refine fM_ E E (fM_ E E (fQ_ E (F4 E) ?_));refine fQ_ E (F1 (e:=40) (n:=16) (sz:=1) (i:=c) c E E kR kR E hc_ qO) ?_;refine fR_ E (H9 c E kR Ce E (by rw [hS3.len];exact hc_)) ?_;refine fQ_ E (U8 E E (hS3.get _) (hS3.get _)) (fQ_ E (F4 E) ?_);refine N3 E (aS E (aS E a0)) kR (A4d _ 12 _ (xor32 (hS3.get _) (hS3.get _)) qD qD) E ?_;refine fQ_ E (F1 (e:=40) (n:=16) (sz:=1) (i:=b) b E E kR kR E hb_ qO) ?_;refine G3 E E E (K4 b E E kR E (by rw [hS3.len];exact hb_) Cv ?_);refine E4 (E9 0 1 2 3 4) ?_;have hS4:=hS3.xr b c 12;change W16 (S3.set b (rolN (S3.getD b 0 ^^^ S3.getD c 0) 12)) at hS4
 obtain ⟨S4,e4⟩:∃z,S3.set b (rolN (S3.getD b 0 ^^^ S3.getD c 0) 12)=z:=⟨_,E⟩
 rw [e4] at hS4 ⊢;change xrW S3 b c 12=S4 at e4;refine C9 (.range 13) (zp 0 [0,0,0,0,1,0,0,0,0,1,0,0,0,2]) kR kR λhs=>?_;refine fM_ E E (fM_ E E (fQ_ E (F4 E) ?_));refine fQ_ E (F1 (e:=40) (n:=16) (sz:=1) (i:=a) a E E kR kR E ha_ qO) ?_;refine fR_ E (H9 a E kR Ce E (by rw [hS4.len];exact ha_)) ?_;refine fM_ E E (fM_ E E (fQ_ E (F4 E) ?_));refine fQ_ E (F1 (e:=40) (n:=16) (sz:=1) (i:=b) b E E kR kR E hb_ qO) ?_;refine fR_ E (H9 b E kR Ce E (by rw [hS4.len];exact hb_)) ?_;refine fQ_ E (G7 4294967296 E E E E E E) (fQ_ E (F4 E) ?_);refine fQ_ E (F1 (e:=40) (n:=16) (sz:=1) (i:=a) a E E kR kR E ha_ qO) ?_;refine G3 E E E (K4 a E E kR E (by rw [hS4.len];exact ha_) Cv ?_);refine E4 (E9 0 1 2 3 4) ?_;have hS5:=hS4.ad a b;change W16 (S4.set a ((S4.getD a 0+S4.getD b 0)%4294967296)) at hS5
 obtain ⟨S5,e5⟩:∃z,S4.set a ((S4.getD a 0+S4.getD b 0)%4294967296)=z:=⟨_,E⟩
 rw [e5] at hS5 ⊢;change adW S4 a b=S5 at e5;refine C9 (.range 16) [(0,0),(1,0),(2,0),(3,0),(4,0),(5,0),(6,1),(7,0),(8,0),(9,0),(10,0),(11,1),(12,0),(14,0),(13,2),(15,0),(16,2)] kR kR λhs=>?_;refine fM_ E E (fM_ E E (fM_ E E (fM_ E E (fQ_ E (F4 E) ?_))));refine fQ_ E (F1 (e:=40) (n:=16) (sz:=1) (i:=d) d E E kR kR E hd_ qO) ?_;refine fR_ E (H9 d E kR Ce E (by rw [hS5.len];exact hd_)) ?_;refine fM_ E E (fM_ E E (fQ_ E (F4 E) ?_));refine fQ_ E (F1 (e:=40) (n:=16) (sz:=1) (i:=a) a E E kR kR E ha_ qO) ?_;refine fR_ E (H9 a E kR Ce E (by rw [hS5.len];exact ha_)) ?_;refine fQ_ E (U8 E E (hS5.get _) (hS5.get _)) (fQ_ E (F4 E) ?_);refine N3 E (aS E (aS E a0)) kR (A4d _ 8 _ (xor32 (hS5.get _) (hS5.get _)) qD qD) E ?_;refine fQ_ E (F1 (e:=40) (n:=16) (sz:=1) (i:=d) d E E kR kR E hd_ qO) ?_;refine G3 E E E (K4 d E E kR E (by rw [hS5.len];exact hd_) Cv ?_);refine E4 (D7 0 2 3 4) ?_;have hS6:=hS5.xr d a 8;change W16 (S5.set d (rolN (S5.getD d 0 ^^^ S5.getD a 0) 8)) at hS6
 obtain ⟨S6,e6⟩:∃z,S5.set d (rolN (S5.getD d 0 ^^^ S5.getD a 0) 8)=z:=⟨_,E⟩
 rw [e6] at hS6 ⊢;change xrW S5 d a 8=S6 at e6;refine C9 (.range 13) (zp 0 [0,0,0,0,1,0,0,0,0,1,0,0,0,2]) kR kR λhs=>?_;refine fM_ E E (fM_ E E (fQ_ E (F4 E) ?_));refine fQ_ E (F1 (e:=40) (n:=16) (sz:=1) (i:=c) c E E kR kR E hc_ qO) ?_;refine fR_ E (H9 c E kR Ce E (by rw [hS6.len];exact hc_)) ?_;refine fM_ E E (fM_ E E (fQ_ E (F4 E) ?_));refine fQ_ E (F1 (e:=40) (n:=16) (sz:=1) (i:=d) d E E kR kR E hd_ qO) ?_;refine fR_ E (H9 d E kR Ce E (by rw [hS6.len];exact hd_)) ?_;refine fQ_ E (G7 4294967296 E E E E E E) (fQ_ E (F4 E) ?_);refine fQ_ E (F1 (e:=40) (n:=16) (sz:=1) (i:=c) c E E kR kR E hc_ qO) ?_;refine G3 E E E (K4 c E E kR E (by rw [hS6.len];exact hc_) Cv ?_);refine E4 (D5 0 2 3) ?_;have hS7:=hS6.ad c d;change W16 (S6.set c ((S6.getD c 0+S6.getD d 0)%4294967296)) at hS7
 obtain ⟨S7,e7⟩:∃z,S6.set c ((S6.getD c 0+S6.getD d 0)%4294967296)=z:=⟨_,E⟩
 rw [e7] at hS7 ⊢;change adW S6 c d=S7 at e7;refine I1 (.range 16) [(0,0),(1,0),(2,0),(3,0),(4,0),(5,0),(6,1),(7,0),(8,0),(9,0),(10,0),(11,1),(12,0),(14,0),(13,2),(15,0),(16,2)] kR kR λhs=>?_;refine fM_ E E (fM_ E E (fM_ E E (fM_ E E (fQ_ E (F4 E) ?_))));refine fQ_ E (F1 (e:=40) (n:=16) (sz:=1) (i:=b) b E E kR kR E hb_ qO) ?_;refine fR_ E (H9 b E kR Ce E (by rw [hS7.len];exact hb_)) ?_;refine fM_ E E (fM_ E E (fQ_ E (F4 E) ?_));refine fQ_ E (F1 (e:=40) (n:=16) (sz:=1) (i:=c) c E E kR kR E hc_ qO) ?_;refine fR_ E (H9 c E kR Ce E (by rw [hS7.len];exact hc_)) ?_;refine fQ_ E (U8 E E (hS7.get _) (hS7.get _)) (fQ_ E (F4 E) ?_);refine N3 E (aS E (aS E a0)) kR (A4d _ 7 _ (xor32 (hS7.get _) (hS7.get _)) qD qD) E ?_;refine fQ_ E (F1 (e:=40) (n:=16) (sz:=1) (i:=b) b E E kR kR E hb_ qO) ?_;refine G3 E E E (K4 b E E kR E (by rw [hS7.len];exact hb_) Cv ?_);refine U0 ?_;exact ⟨_,[(sb,blk (nums .u32 (S7.set b (rolN (S7.getD b 0 ^^^ S7.getD c 0) 7))) 269)],[],A8v E,Cg qM,E,by unfold C3M;rw [e1,e2,e3,e4,e5,e6,e7];rfl,E⟩

def cstW:LN:=[1634760805,857760878,2036477234,1797285236,0,0,0,0,0,0,0,0,0,0,0,0]
def kyW(K:LN):Nat->LN
  | 0=>cstW
  | i+1=>(kyW K i).set (4+i) (wrdN (K.drop (4*i)))
def nnW(K:LN)(n:Nat)(N:LN):Nat->LN
  | 0=>(kyW K 8).set 12 n
  | i+1=>(nnW K n N i).set (13+i) (wrdN (N.drop (4*i)))
def rdA(S:LN):Nat->LN
  | 0=>S
  | i+1=>C3M (rdA S i) i (4+i) (8+i) (12+i)
def rdB(S:LN):Nat->LN
  | 0=>S
  | i+1=>C3M (rdB S i) i (4+(i+1)%4) (8+(i+2)%4) (12+(i+3)%4)
def rdW(S:LN):Nat->LN
  | 0=>S
  | k+1=>rdB (rdA (rdW S k) 4) 4
def le4(x:Nat):LN:=[x%256,x >>> 8%256,x >>> 16%256,x >>> 24%256]
def otW(W S:LN):Nat->LN
  | 0=>[]
  | i+1=>otW W S i++le4 ((W.getD i 0+S.getD i 0)%4294967296)
def C2l(K:LN)(n:Nat)(N:LN):LN:=otW (rdW (nnW K n N 3) 10) (nnW K n N 3) 16
theorem C1m(h:∀x∈p,x<256)(k:Nat):∀x∈p.drop k,x<256:=λx hx=>h x (List.mem_of_mem_drop hx)
theorem B4Y{K:LN}(h:∀x∈K,x<256):∀i,W16 (kyW K i)
  | 0=>⟨E,by show ∀x∈cstW,x<4294967296;decide⟩
  | i+1=>(B4Y h i).set _ _ (B4W (C1m h _))
theorem B9e{K N:LN}{n:Nat}(h:∀x∈K,x<256)(hn:n<4294967296)(h2:∀x∈N,x<256):∀i,W16 (nnW K n N i)
  | 0=>(B4Y h 8).set _ _ hn
  | i+1=>(B9e h hn h2 i).set _ _ (B4W (C1m h2 _))
theorem B0i{S:LN}(h:W16 S):∀i,W16 (rdA S i)
  | 0=>h
  | i+1=>(B0i h i).trn _ _ _ _
theorem B4Z{S:LN}(h:W16 S):∀i,W16 (rdB S i)
  | 0=>h
  | i+1=>(B4Z h i).trn _ _ _ _
theorem B9f{S:LN}(h:W16 S):∀i,W16 (rdW S i)
  | 0=>h
  | i+1=>B4Z (B0i (B9f h i) 4) 4
theorem A46(W S:LN):∀i,(otW W S i).length=4*i
  | 0=>rfl
  | i+1=>by show (otW W S i++le4 _).length=_;rw [An,A46 W S i];simp [le4];omega
theorem C3N(x:Nat):∀y∈le4 x,y<256:=by intro y hy;simp only [le4,Cz,Da,or_false] at hy;rcases hy with rfl|rfl|rfl|rfl<;>exact Ad _ qD
theorem B44(W S:LN):∀i,∀x∈otW W S i,x<256
  | 0=>λx hx=>by cases hx
  | i+1=>λx hx=>(List.mem_append.1 hx).elim (B44 W S i x) (C3N _ x)
theorem _root_.Go.Px.By.lo{w:LN}(h:By R v w)(k:Nat)(hk:k<=w.length):By R (vLo k 1 v) (w.drop k):=by refine ⟨?_,C1m h.lt k,by rw [Bg];have:=h.len;omega⟩;have h1:=h.rd.loV k hk;rw [Bg];simpa [nums] using h1
theorem B46(v vn:Value)(kw nw:LN)(n:Nat)(A:Mem)(hk:By A v kw)(hno:By A vn nw)(hn:n<4294967296):FnX prog 167 [v,(vU n),vn] [] A λq M J=>M=[]∧By J q (C2l (H5 kw 32) n (H5 nw 12)):=by
 haveI:=hk.cel;haveI:=hno.cel;refine Co (N:=107) func167 E E E λw_=>?_;refine A8 (D5 0 1 2) (A1 (as_ (A0 (D5 0 1 2) (A1 (mv_ ?_)))));refine C6 (aS E (aS E a0)) kR (A45 v kw 32 _ (hk.mono qS) qD) E ?_;rintro v17 M17 J17 ⟨rfl,h17⟩;haveI:=h17.cel;have hkl:=L4 kw 32;generalize H5 kw 32=K at *;have hKl:=h17.lt;refine mv_ ?_;refine C6 (aS E (aS E a0)) kR (A45 vn nw 12 _ (hno.mono qS) qD) E ?_;rintro v19 M19 J19 ⟨rfl,h19⟩;haveI:=h19.cel;have hnl:=L4 nw 12;generalize H5 nw 12=N at *;have hNl:=h19.lt;refine as_ (as_ (A0 (D5 0 1 2) (A1 ?_)));refine lQ_ (E6 (place:=λi=>some (i*1,1)) (z:=[D3,D3,D3,D3,D3,D3,D3,D3,D3,D3,D3,D3,D3,D3,D3,D3]) (λ_=>by kernel_rfl) (eS E (eS E (eS E (eS E e0)))) (bdS 0 1 E qR (bdS 1 1 E qR (bdS 2 1 E qR (bdS 3 1 E qR bd0))))) ?_;refine A2 E (C3 (cs:=[D3,D3,D3,D3,D3,D3,D3,D3,D3,D3,D3,D3,D3,D3,D3,D3]) kR E λb7=>?_);refine A2 E (A5 (vs:=nums .u32 (kyW K 0)) E E E kR qR E7 Cv ?_);refine A0 (D7 0 1 2 7) (A3 (A1 (mv_ (A0 (E9 0 1 2 7 21) (A6 ?_)))));refine E0 (α:=Nat) (λi=>[(0,v17),(1,(vU n)),(2,v19),(7,(vP b7)),(21,(vI i))]) (λi=>[(b7,blk (nums .u32 (kyW K i)) 269)]) (λ_=>_) (λi=>i<=8) (λi=>8-i) 0 (Am _) (E9 0 1 2 7 21) (Cg E) qI ?_;rintro i hii
 try dsimp only at hii ⊢
 have hok:=B4Y hKl i;refine A1 (lQ_ (E3 E E E) (A0 (G9 0 1 2 7 21 22) (A3 ?_)));refine C2 E ?_ ?_<;>intro hc
 .
  have hlt:i<8:=by simp at hc;omega
  refine A4 (nx (E9 0 1 2 7 21) (A3 (A6 (A1 (mV_ E (aS_ E (A0 (G9 0 1 2 7 8 21) (C1 (mv_ ?_)))))))));refine lQ_ (D2 ((4+i:Nat):Int) E E (F5 qO qO qO)) ?_;refine mv_ (mv_ ?_);refine lQ_ (D2 ((4*i:Nat):Int) E E (A11 qO qO qO)) ?_;refine lQ_ (Z0 (sz:=1) (a:=4*i) E E kR E h17.rd qO) ?_;have h29:=h17.lo (4*i) qO;haveI:=h29.cel;refine D8 (aS E a0) kR (B9d (vLo (4*i) 1 v17) (K.drop (4*i)) _ (h29.mono qS) (by rw [Bg];omega)) E ?_;refine lQ_ (F1 (e:=40) (n:=16) (sz:=1) (i:=4+i) (4+i) E E kR kR E qO qO) ?_;refine A2 E (K4 (4+i) E E kR E (by rw [hok.len];omega) Cv ?_);refine C5 (nb (nx (E9 0 1 2 7 21) (C1 ?_)));refine lQ_ (D2 ((i+1:Nat):Int) E E (F5 qO qO qO)) ?_;refine mv_ (C5 ?_);exact rn (i+1) qO qO (E9 0 1 2 7 21) (Cg E) qI
 .
  obtain rfl:i=8:=by simp at hc;omega
  refine D6 (te (re (be E (nx (D5 1 2 7) (A1 (mv_ ?_))))));refine lQ_ (F1 (e:=40) (n:=16) (sz:=1) (i:=12) (12) E E kR kR E qO qO) ?_;refine A2 E (K4 12 E E kR E (by rw [hok.len];omega) Cv ?_);refine A0 (D0 2 7) (A3 (A1 (mv_ (A0 (D5 2 7 35) (A6 ?_)))));refine E0 (α:=Nat) (λi=>[(2,v19),(7,(vP b7)),(35,(vI i))]) (λi=>[(b7,blk (nums .u32 (nnW K n N i)) 269)]) (λ_=>_) (λi=>i<=3) (λi=>3-i) 0 (Am _) (D5 2 7 35) (Cg E) qI ?_;rintro j hij
  try dsimp only at hij ⊢
  have hok2:=B9e hKl hn hNl j;refine A1 (lQ_ (E3 E E E) (A0 (D7 2 7 35 36) (A3 ?_)));refine C2 E ?_ ?_<;>intro hc
  .
   have hlt:j<3:=by simp at hc;omega
   refine A4 (nx (D5 2 7 35) (A3 (A6 (A1 (mV_ E (aS_ E (A0 (D7 2 7 9 35) (C1 (mv_ ?_)))))))));refine lQ_ (D2 ((13+j:Nat):Int) E E (F5 qO qO qO)) ?_;refine mv_ (mv_ ?_);refine lQ_ (D2 ((4*j:Nat):Int) E E (A11 qO qO qO)) ?_;refine lQ_ (Z0 (sz:=1) (a:=4*j) E E kR E h19.rd qO) ?_;have h43:=h19.lo (4*j) qO;haveI:=h43.cel;refine D8 (aS E a0) kR (B9d (vLo (4*j) 1 v19) (N.drop (4*j)) _ (h43.mono qS) (by rw [Bg];omega)) E ?_;refine lQ_ (F1 (e:=40) (n:=16) (sz:=1) (i:=13+j) (13+j) E E kR kR E qO qO) ?_;refine A2 E (K4 (13+j) E E kR E (by rw [hok2.len];omega) Cv ?_);refine C5 (nb (nx (D5 2 7 35) (C1 ?_)));refine lQ_ (D2 ((j+1:Nat):Int) E E (F5 qO qO qO)) ?_;refine mv_ (C5 ?_);exact rn (j+1) qO qO (D5 2 7 35) (Cg E) qI
  .
   obtain rfl:j=3:=by simp at hc;omega
   unfold C2l
   obtain ⟨S,hSe⟩:∃z,nnW K n N 3=z:=⟨_,E⟩
   rw [hSe] at hok2 ⊢;refine D6 (te (re (be E (nx (D1 7) (A1 ?_)))));refine lQ_ (H0 (n:=16) (cs:=nums .u32 S) E kR Ce (by rw [nums_len];exact hok2.len)) ?_;refine A2 E (C3 (cs:=[D3,D3,D3,D3,D3,D3,D3,D3,D3,D3,D3,D3,D3,D3,D3,D3]) kR E λb10=>?_);refine A2 E (A5 (vs:=nums .u32 S) E E E (by rw [nums_len,hok2.len];kernel_rfl) (by rw [nums_len,hok2.len];rfl) E7 Cv ?_);refine A0 (D0 7 10) (A3 (A1 (mv_ (A0 (D5 7 10 48) (A6 ?_)))));refine E0 (α:=Nat) (λi=>[(7,(vP b7)),(10,(vP b10)),(48,(vI i))]) (λi=>[(b10,blk (nums .u32 (rdW S i)) 269),(b7,blk (nums .u32 S) 269)]) (λ_=>_) (λi=>i<=10) (λi=>10-i) 0 (Am _) (D5 7 10 48) (Cg E) qI ?_;rintro k hik
   try dsimp only at hik ⊢
   have hok3:=B9f hok2 k;refine A1 (lQ_ (E3 E E E) (A0 (D7 7 10 48 49) (A3 ?_)));refine C2 E ?_ ?_<;>intro hc
   .
    have hlt:k<10:=by simp at hc;omega
    refine A4 (nx (D5 7 10 48) (A3 (A6 (A3 (A1 (mV_ E (A0 (D7 7 10 48 50) (A6 ?_))))))));refine E0 (α:=Nat) (λi=>[(7,(vP b7)),(10,(vP b10)),(48,(vI k)),(50,(vI i))]) (λi=>[(b10,blk (nums .u32 (rdA (rdW S k) i)) 269),(b7,blk (nums .u32 S) 269)]) (λ_=>_) (λi=>i<=4) (λi=>4-i) 0 (Am _) (D7 7 10 48 50) (Cg E) qI ?_;rintro a hia
    try dsimp only at hia ⊢
    have hok:=B0i hok3 a;refine A1 (lQ_ (E3 E E E) (A0 (E9 7 10 48 50 51) (A3 ?_)));refine C2 E ?_ ?_<;>intro hc
    .
     have hlt2:a<4:=by simp at hc;omega
     refine A4 (nx (D7 7 10 48 50) (A3 (A6 (A1 (mV_ E (aS_ E (A0 (E9 7 10 11 48 50) (C1 (mv_ (mv_ ?_))))))))));refine lQ_ (D2 ((4+a:Nat):Int) E E (F5 qO qO qO)) ?_;refine mv_ ?_;refine lQ_ (D2 ((8+a:Nat):Int) E E (F5 qO qO qO)) ?_;refine mv_ ?_;refine lQ_ (D2 ((12+a:Nat):Int) E E (F5 qO qO qO)) ?_;refine A2 E (C8 (Mc:=[(b10,blk (nums .u32 (rdA (rdW S k) a)) 269)]) (R:=_) (aS E (aS E (aS E (aS E (aS E a0))))) kR qP (B4X b10 (rdA (rdW S k) a) (a) (4+a) (8+a) (12+a) _ hok qO qO qO qO) E ?_);rintro vt Mt Jt ⟨rfl,rfl,rfl⟩;refine C5 (nb (nx (D7 7 10 48 50) (C1 ?_)));refine lQ_ (D2 ((a+1:Nat):Int) E E (F5 qO qO qO)) ?_;refine mv_ (C5 ?_);exact rn (a+1) qO qO (D7 7 10 48 50) (Cg E) qI
    .
     obtain rfl:a=4:=by simp at hc;omega
     refine D6 (te (re (be E (nx (D5 7 10 48) (A1 (mV_ E (A0 (D7 7 10 48 62) (A6 ?_))))))));refine E0 (α:=Nat) (λi=>[(7,(vP b7)),(10,(vP b10)),(48,(vI k)),(62,(vI i))]) (λi=>[(b10,blk (nums .u32 (rdB (rdA (rdW S k) 4) i)) 269),(b7,blk (nums .u32 S) 269)]) (λ_=>_) (λi=>i<=4) (λi=>4-i) 0 (Am _) (D7 7 10 48 62) (Cg E) qI ?_;rintro b hib
     try dsimp only at hib ⊢
     have hok:=B4Z (B0i hok3 4) b;refine A1 (lQ_ (E3 E E E) (A0 (E9 7 10 48 62 63) (A3 ?_)));refine C2 E ?_ ?_<;>intro hc
     .
      have hlt2:b<4:=by simp at hc;omega
      refine A4 (nx (D7 7 10 48 62) (A3 (A6 (A1 (mV_ E (aS_ E (A0 (E9 7 10 12 48 62) (C1 (mv_ (mv_ ?_))))))))));refine lQ_ (D2 ((b+1:Nat):Int) E E (F5 qO qO qO)) ?_;refine lQ_ (V5 (a:=b+1) (b:=4) E E E E qD) ?_;refine lQ_ (D2 ((4+(b+1)%4:Nat):Int) E E (F5 qO qO qO)) ?_;refine mv_ ?_;refine lQ_ (D2 ((b+2:Nat):Int) E E (F5 qO qO qO)) ?_;refine lQ_ (V5 (a:=b+2) (b:=4) E E E E qD) ?_;refine lQ_ (D2 ((8+(b+2)%4:Nat):Int) E E (F5 qO qO qO)) ?_;refine mv_ ?_;refine lQ_ (D2 ((b+3:Nat):Int) E E (F5 qO qO qO)) ?_;refine lQ_ (V5 (a:=b+3) (b:=4) E E E E qD) ?_;refine lQ_ (D2 ((12+(b+3)%4:Nat):Int) E E (F5 qO qO qO)) ?_;refine A2 E (C8 (Mc:=[(b10,blk (nums .u32 (rdB (rdA (rdW S k) 4) b)) 269)]) (R:=_) (aS E (aS E (aS E (aS E (aS E a0))))) kR qP (B4X b10 (rdB (rdA (rdW S k) 4) b) (b) (4+(b+1)%4) (8+(b+2)%4) (12+(b+3)%4) _ hok qO qO qO qO) E ?_);rintro vt Mt Jt ⟨rfl,rfl,rfl⟩;refine C5 (nb (nx (D7 7 10 48 62) (C1 ?_)));refine lQ_ (D2 ((b+1:Nat):Int) E E (F5 qO qO qO)) ?_;refine mv_ (C5 ?_);exact rn (b+1) qO qO (D7 7 10 48 62) (Cg E) qI
     .
      obtain rfl:b=4:=by simp at hc;omega
      refine D6 (te (re (be E (nb (nx (D5 7 10 48) (C1 ?_))))));refine lQ_ (D2 ((k+1:Nat):Int) E E (F5 qO qO qO)) ?_;refine mv_ (C5 ?_);exact rn (k+1) qO qO (D5 7 10 48) (Cg E) qI
   .
    obtain rfl:k=10:=by simp at hc;omega
    obtain ⟨W,hWe⟩:∃z,rdW S 10=z:=⟨_,E⟩
    rw [hWe] at hok3 ⊢;refine D6 (te (re (be E (nx (D0 7 10) (A1 (aS_ E (A0 (D5 7 10 13) (A3 (A1 (mv_ (A0 (D7 7 10 13 81) (A6 ?_))))))))))));refine E0 (α:=Nat×Value×Mem) (λy=>[(7,(vP b7)),(10,(vP b10)),(13,y.2.1),(81,(vI y.1))]) (λy=>y.2.2++[(b10,blk (nums .u32 W) 269),(b7,blk (nums .u32 S) 269)]) (λ_=>_) (λy=>y.1<=16∧Sl 1 y.2.1 (4*y.1) (nums .u8 (otW W S y.1)) y.2.2) (λy=>16-y.1) (0,vS,[]) ⟨Am _,Sl.nil⟩ (D7 7 10 13 81) (Cg qM) qI ?_;rintro ⟨i,u,B⟩ ⟨hi,hsl⟩;dsimp only at hi hsl ⊢;haveI:=hsl.cel;refine A1 (lQ_ (E3 E E E) (A0 (E9 7 10 13 81 82) (A3 ?_)));refine C2 E ?_ ?_<;>intro hc
    .
     have hlt:i<16:=by simp at hc;omega
     refine A4 (nx (D7 7 10 13 81) (A3 (A6 (A1 (mv_ (as_ (A0 (E9 7 10 13 14 81) ?_)))))));refine C9 (.range 8) (zp 0 [0,0,1,0,0,1,0,0]) kR kR λhs=>?_;refine fm_ ?_;refine fQ_ E (F1 (e:=40) (n:=16) (sz:=1) (i:=i) (i) E E kR kR E qO qO) ?_;refine fR_ E (H9 i E kR Ce E (by rw [hok3.len];omega)) ?_;refine fm_ ?_;refine fQ_ E (F1 (e:=40) (n:=16) (sz:=1) (i:=i) (i) E E kR kR E qO qO) ?_;refine fR_ E (H9 i E kR Ce E (by rw [hok2.len];omega)) ?_;refine fQ_ E (G7 4294967296 E E E E E E) ?_
     obtain ⟨x,hx⟩:∃x,(W.getD i 0+S.getD i 0)%4294967296=x:=⟨_,E⟩
     rw [hx];refine fA_ E E (E4 (E9 7 10 13 15 81) (C1 (mV_ E (mV_ E (lQ_ (A12 E kR) (mv_ ?_))))));refine lQ_ (T9 8 E E E qD) ?_;refine lQ_ (A12 E kR) (mv_ ?_);refine lQ_ (T9 16 E E E qD) ?_;refine lQ_ (A12 E kR) (mv_ ?_);refine lQ_ (T9 24 E E E qD) ?_;refine lQ_ (A12 E kR) ?_;refine A2 E (C4 (e:=5) (sz:=1) (z:=[zu8,zu8,zu8,zu8]) kR (eS E (eS E (eS E (eS E e0)))) (bdS 0 1 E qR (bdS 1 1 E qR (bdS 2 1 E qR (bdS 3 1 E qR bd0)))) E λb103=>?_);refine A2 E (G6 (e:=5) (sz:=1) (by_:=1) E E kR E hsl (Cr (n:=4) (cs:=nums .u8 (le4 x)) Ce qR) E7 qP (by unfold maxLen;omega) qO E λv104 B104 hs104=>?_);haveI:=hs104.cel;refine as_ (C5 (nb (nx (D7 7 10 13 81) (C1 ?_))));refine lQ_ (D2 ((i+1:Nat):Int) E E (F5 qO qO qO)) ?_;refine mv_ (C5 ?_);exact rn (i+1,v104,B104) ⟨by dsimp only;omega,by dsimp only;show Sl 1 v104 (4*(i+1)) (nums .u8 (otW W S i++le4 ((W.getD i 0+S.getD i 0)%4294967296))) B104;rw [hx];exact W6 hs104 qO (by simp [nums])⟩ (by dsimp only;omega) (D7 7 10 13 81) (Cj qP (Ch qP)) qI
    .
     obtain rfl:i=16:=by simp at hc;omega
     refine D6 (te (re (be E (nx (D1 13) (A1 (mV_ E (aS_ E (A0 (D1 6) (A9 ?_)))))))));exact ⟨_,[],B,H2 E E,Cj qP qZ,E,⟨A0J (hsl.rd λx hx=>by simp [hx]) (by rw [A46]) E,B44 W S 16,by rw [A46];decide⟩⟩

def bkN(K:LN)(n:Nat)(N:LN)(q:Nat):LN:=C2l K ((n+q)%4294967296) N
def stW(K:LN)(n:Nat)(N p:LN):Nat->LN
  | 0=>List.replicate p.length 0
  | i+1=>(stW K n N p i).set i (p.getD i 0 ^^^ (bkN K n N (i/64)).getD (i%64) 0)
def A68(K:LN)(n:Nat)(N p:LN):LN:=stW K n N p p.length
theorem A69(K:LN)(n:Nat)(N p:LN):∀i,(stW K n N p i).length=p.length
  | 0=>by simp [stW]
  | i+1=>by show ((stW K n N p i).set _ _).length=_;rw [Bk,A69 K n N p i]
theorem A0l(K:LN)(n:Nat)(N p:LN):(A68 K n N p).length=p.length:=A69 _ _ _ _ _
theorem C1n(K:LN)(n:Nat)(N:LN)(q:Nat):(bkN K n N q).length=64:=A46 _ _ _
theorem C3O(K:LN)(n:Nat)(N:LN)(q:Nat):∀x∈bkN K n N q,x<256:=B44 _ _ _
theorem xor8{a:Nat}(ha:a<256)(hb:b<256):a ^^^ b<256:=Nat.xor_lt_two_pow (n:=8) ha hb
theorem B9g{K N p:LN}{n:Nat}(h:∀x∈p,x<256):∀i,∀x∈stW K n N p i,x<256
  | 0=>λx hx=>by rw [show stW K n N p 0=List.replicate p.length 0 from rfl] at hx;rw [(List.mem_replicate.1 hx).2];decide
  | i+1=>λx hx=>by
    rcases Bf hx with h1|rfl
    . exact B9g h i x h1
    . exact xor8 (A1j h i) (A1j (C3O _ _ _ _) _)
theorem B5a(K:LN)(n:Nat)(N p:LN):∀i j,j<p.length->(stW K n N p i).getD j 0=if j<i then p.getD j 0 ^^^ (bkN K n N (j/64)).getD (j%64) 0 else 0
  | 0,j,hj=>by show (List.replicate p.length 0).getD j 0=_;rw [if_neg qO,Aj,List.getElem?_replicate,if_pos hj];rfl
  | i+1,j,hj=>by
    show ((stW K n N p i).set i _).getD j 0=_;rw [Aj,List.getElem?_set,A69];by_cases h:i=j
    . subst h;rw [if_pos E,if_pos hj,if_pos qO];rfl
    . rw [if_neg h,<- Aj,B5a K n N p i j hj];by_cases h2:j<i
      . rw [if_pos h2,if_pos qO]
      . rw [if_neg h2,if_neg qO]
theorem B0j(K:LN)(n:Nat)(N p:LN){j:Nat}(hj:j<p.length):(A68 K n N p).getD j 0=p.getD j 0 ^^^ (bkN K n N (j/64)).getD (j%64) 0:=by unfold A68;rw [B5a _ _ _ _ _ _ hj,if_pos hj]
theorem B1o(K:LN)(n:Nat)(N p:LN):A68 K n N (A68 K n N p)=p:=by
  refine List.ext_getElem (by rw [A0l,A0l]) λj h1 h2=>?_;have e:∀(l:LN) (h:j<l.length),l[j]=l.getD j 0:=λl h=>by rw [Aj,Ab h];rfl
  rw [e _ h1,e _ h2,B0j _ _ _ _ (by rw [A0l];exact h2),B0j _ _ _ _ h2,Nat.xor_assoc,Nat.xor_self,Nat.xor_zero]
theorem C3P(h:i<9223372036854775808):IntKind.i64.wrap (((i:Nat):Int).tdiv 64)=((i/64:Nat):Int):=by rw [show ((i:Nat):Int).tdiv 64=((i/64:Nat):Int) from rfl];unfold IntKind.wrap;simp [IntKind.signed,IntKind.bits];omega
theorem C1o(h:n<4294967296):IntKind.u32.wrap (n:Int)=(n:Int):=by unfold IntKind.wrap;simp [IntKind.signed,IntKind.bits];omega
theorem B0k(v vn vp:Value)(kw nw p:LN)(n:Nat)(A:Mem)(hk:By A v kw)(hno:By A vn nw)(hp:By A vp p)(hn:n<4294967296):FnX prog 133 [v,(vU n),vn,vp] [] A λq M J=>∃b,q=.slice (some ⟨b,0,none⟩) p.length p.length∧M=[]∧By J q (A68 (H5 kw 32) n (H5 nw 12) p):=by
 haveI:=hk.cel;haveI:=hno.cel;haveI:=hp.cel;have hpl:=hp.len;refine Co (N:=46) func133 E E E λw_=>?_;refine A8 (D7 0 1 2 3) (A1 (as_ (A0 (D7 0 1 2 3) (A1 (mv_ ?_)))));refine lQ_ (F8 (sz:=1) E kR hp.rd) ?_;refine A2 E (A0S (by_:=1) (k:=.u8) (e:=5) p.length E E kR E E qO qO E λb14=>?_);refine as_ (A0 (E9 0 1 2 3 9) (A1 (as_ (A0 (G9 0 1 2 3 9 10) (A3 (A1 (mv_ ?_)))))));refine lQ_ (F8 (sz:=1) E kR hp.rd) ?_;refine mv_ (A0 (V4 0 1 2 3 9 10 16 17) (A6 ?_));refine E0 (α:=Nat×Value×Mem) (λy=>[(0,v),(1,(vU n)),(2,vn),(3,vp),(9,.slice (some ⟨b14,0,none⟩) p.length p.length),(10,y.2.1),(16,(vI p.length)),(17,(vI y.1))]) (λy=>[(b14,blk (nums .u8 (stW (H5 kw 32) n (H5 nw 12) p y.1)) 5)]) (λy=>y.2.2) (λy=>y.1<=p.length∧∃w,By (y.2.2++A) y.2.1 w∧(y.1%64≠0->w=bkN (H5 kw 32) n (H5 nw 12) (y.1/64))) (λy=>p.length-y.1) (0,vS,[]) ⟨Am _,[],By.nil,λh=>absurd E h⟩ (V4 0 1 2 3 9 10 16 17) (Cg E) qS ?_;rintro ⟨i,vb,Jb⟩ ⟨hi,wb,hvb,hwb⟩;dsimp only at hi hvb hwb ⊢;haveI:=hvb.cel;have hsl:=A69 (H5 kw 32) n (H5 nw 12) p i;refine A1 (lQ_ (E3 E E E) (A0 (Q4 0 1 2 3 9 10 16 17 18) (A3 ?_)));refine C2 E ?_ ?_<;>intro hc
 .
  have hlt:i<p.length:=by simp at hc;omega
  refine A4 (nx (V4 0 1 2 3 9 10 16 17) (A3 (A6 (A1 (mv_ (as_ (A0 (Q4 0 1 2 3 9 10 11 16 17) ?_)))))));refine P3 (α:=Value×Mem) (λy=>[(0,v),(1,(vU n)),(2,vn),(3,vp),(9,.slice (some ⟨b14,0,none⟩) p.length p.length),(10,y.1),(11,(vI i)),(16,(vI p.length)),(17,(vI i))]) (λy=>[(b14,blk (nums .u8 (stW (H5 kw 32) n (H5 nw 12) p i)) 5)]) (λy=>y.2) (λy=>By (y.2++A) y.1 (bkN (H5 kw 32) n (H5 nw 12) (i/64))) ?_ ?_
  .
   refine A1 (mv_ ?_);refine lQ_ (V5 (a:=i) (b:=64) E E E E qD) ?_;refine lQ_ (E3 E E E) (A0 (kq 0 (Q4 1 2 3 9 10 11 16 17 22)) ?_);refine C2 E ?_ ?_<;>intro hc
   .
    have h0:i%64=0:=by simp at hc;omega
    refine C1 (mv_ (mv_ (mv_ ?_)));refine lQ_ (C2C ((i/64:Nat):Int) E E qD (C3P qO)) ?_;refine lQ_ (A0R (k':=.u32) ((i/64:Nat):Int) E kR (C1o qO)) ?_;refine lQ_ (G7 4294967296 E E E E E E) (mv_ ?_);refine C6 (aS E (aS E (aS E a0))) kR (B46 v vn kw nw ((n+i/64)%4294967296) _ (hk.mono qS) (hno.mono qS) (Ad _ qD)) E ?_;rintro v30 M30 J30 ⟨rfl,h30⟩;haveI:=h30.cel;refine as_ (C5 ?_);exact jn (v30,J30++Jb) (h30.mono qS) (Q4 0 1 2 3 9 10 11 16 17) (Cg E) (λ_ h=>by simpa using h)
   .
    have h0:i%64≠0:=by simp at hc;omega
    refine A4 ?_;exact jn (vb,Jb) (hwb h0▸hvb) (Q4 0 1 2 3 9 10 11 16 17) (Cg E) qI
  .
   rintro ⟨v2,J2⟩ hb2
   try dsimp only at hb2 ⊢
   haveI:=hb2.cel;have hbl:=C1n (H5 kw 32) n (H5 nw 12) (i/64);have hm:=Ad i (by decide:0<64);refine I1 (.range 13) (zp 0 [0,0,0,0,0,1,0,0,0,0,1,0,0,2]) kR kR λhs=>?_;refine fM_ E E (fM_ E E (fM_ E E (fm_ ?_)));refine fQ_ E (G4 (sz:=1) (a:=i) E E kR E hp.rd hlt) ?_;refine fR_ E (Z9 (k:=.u8) E kR (hp.rd.mono qS) hlt) ?_;refine fM_ E E (fm_ ?_);refine fQ_ E (V5 (a:=i) (b:=64) E E E E qD) ?_;refine fQ_ E (G4 (sz:=1) (a:=i%64) E E kR E hb2.rd qO) ?_;refine fR_ E (Z9 (k:=.u8) E kR (hb2.rd.mono qS) qO) ?_;refine fQ_ E (B1R E E (A1j hp.lt _) (A1j hb2.lt _)) ?_;refine fQ_ E (L6 (e:=5) (i:=i) (sz:=1) E E kR kR E hlt) ?_;refine G3 E E E (K4 i E E kR qO qO Cv ?_);refine U0 (nb (nx (V4 0 1 2 3 9 10 16 17) (C1 ?_)));refine lQ_ (D2 ((i+1:Nat):Int) E E (F5 qO qO qO)) ?_;refine mv_ (C5 ?_);exact rn (i+1,v2,J2) ⟨hlt,_,hb2,λh=>by rw [show (i+1)/64=i/64 by omega]⟩ (by dsimp only;omega) (V4 0 1 2 3 9 10 16 17) (Cg E) qI
 .
  obtain rfl:i=p.length:=by simp at hc;omega
  refine D6 (te (re (be E (nx (D1 9) (A1 (mV_ E (aS_ E (A0 (D1 8) (A9 ?_)))))))));refine ⟨_,[],[(b14,blk (nums .u8 (stW (H5 kw 32) n (H5 nw 12) p p.length)) 5)],H2 E E,Cg qM,b14,E,E,⟨?_,B9g hp.lt _,by rw [A0l];exact hp.len⟩⟩;rw [A0l];exact Cr (n:=p.length) qK (by simp [nums,A0l])
theorem B78(v vn vp:Value)(kw nw p:LN)(n:Nat)(A:Mem)(hk:By A v kw)(hno:By A vn nw)(hp:By A vp p)(hn:n<4294967296):FnX prog 133 [v,(vU n),vn,vp] [] A λq M J=>M=[]∧By J q (A68 (H5 kw 32) n (H5 nw 12) p) :=
  (B0k v vn vp kw nw p n A hk hno hp hn).mono λq M J ⟨_,_,h1,h2⟩=>⟨h1,h2⟩

structure L5(l:LN):Prop where
  len:l.length=5
  lt:∀x∈l,x<18446744073709551616
theorem L5.get{l:LN}(h:L5 l)(i:Nat):l.getD i 0<18446744073709551616:=by
  rw [Aj]
  cases hq:l[i]? with
  | none=>decide
  | some x=>exact h.lt x (As hq)
theorem L5.set{l:LN}(h:L5 l)(i x:Nat)(hx:x<18446744073709551616):L5 (l.set i x):=⟨by rw [Bk];exact h.len,λy hy=>by rcases Bf hy with h1|rfl;exact h.lt y h1;exact hx⟩
def cy1(l:LN)(c i:Nat):LN:=l.set i ((l.getD i 0+c)%18446744073709551616)
def cyS(a:LN):Nat->LN×Nat
  | 0=>(a,0)
  | i+1=>((cy1 (cyS a i).1 (cyS a i).2 i).set i ((cy1 (cyS a i).1 (cyS a i).2 i).getD i 0 &&& 67108863),(cy1 (cyS a i).1 (cyS a i).2 i).getD i 0 >>> 26)
def cyN(a:LN):LN:=(cyS a 5).1.set 0 (((cyS a 5).1.getD 0 0+5*(cyS a 5).2%18446744073709551616)%18446744073709551616)
theorem L5.c1{l:LN}(h:L5 l)(c i:Nat):L5 (cy1 l c i):=h.set _ _ (Ad _ qD)
theorem B79(x:Nat):x &&& 67108863<18446744073709551616:=Be Nat.and_le_right qD
theorem B8a{x:Nat}(h:x<18446744073709551616)(k:Nat):x >>> k<18446744073709551616:=by rw [Cb];exact Be (Nat.div_le_self _ _) h
theorem B0l{a:LN}(h:L5 a):∀i,L5 (cyS a i).1∧(cyS a i).2<18446744073709551616
  | 0=>⟨h,(show 0<18446744073709551616 by decide)⟩
  | i+1=>⟨((B0l h i).1.c1 _ _).set _ _ (B79 _),B8a (((B0l h i).1.c1 _ _).get _) _⟩
variable{a:LN}
theorem W4(h:L5 a):L5 (cyN a):=(B0l h 5).1.set _ _ (Ad _ qD)
theorem A47(a:LN)(A:Mem)(ha:L5 a):FnV prog 211 [.agg (nums .u64 a).toArray] A (.agg (nums .u64 (cyN a)).toArray):=by
 refine Cn (N:=31) func211 E E E λw=>?_;refine A8 (D1 0) (A1 ?_);refine A2 E (bx_ λb1=>?_);refine A2 E (C3 (cs:=[C0,C0,C0,C0,C0]) kR E λb2=>?_);refine A0 (D0 1 2) (A1 (aS_ E (A0 (D5 1 2 3) (A3 (A1 (mV_ E (A0 (D7 1 2 3 5) (A6 ?_))))))));refine E0 (α:=Nat) (λi=>[(1,(vP b1)),(2,(vP b2)),(3,(vW ((cyS a i).2))),(5,(vI i))]) (λi=>[(b2,blk [C0,C0,C0,C0,C0] 192),(b1,blk (nums .u64 (cyS a i).1) 192)]) (λ_=>_) (λi=>i<=5) (λi=>5-i) 0 (Am _) (D7 1 2 3 5) (Cg E) qI ?_;rintro i hi
 try dsimp only at hi ⊢
 obtain ⟨hok,hcl⟩:=B0l ha i;have hk1:=hok.c1 (cyS a i).2 i;refine A1 (lQ_ (E3 E E E) (A0 (E9 1 2 3 5 6) (A3 ?_)));refine C2 E ?_ ?_<;>intro hc
 .
  have hlt:i<5:=by simp at hc;omega
  refine A4 (nx (D7 1 2 3 5) (A3 (A6 (A1 (mV_ E (aS_ E (A0 (E9 1 2 3 4 5) (A1 (mv_ ?_)))))))));refine lQ_ (F1 (e:=130) (n:=5) (sz:=1) (i:=i) (i) E E kR kR E qO qO) ?_;refine lQ_ (H9 (i) E kR Ce E (by rw [hok.len];omega)) ?_;refine mV_ E (lQ_ (G7 18446744073709551616 E E E E E E) ?_);refine lQ_ (F1 (e:=130) (n:=5) (sz:=1) (i:=i) (i) E E kR kR E qO qO) ?_;refine A2 E (K4 (i) E E kR E (by rw [hok.len];omega) Cv ?_);change XL _ _ _ _ _ [(b2,blk [C0,C0,C0,C0,C0] 192),(b1,blk (nums .u64 (cy1 (cyS a i).1 (cyS a i).2 i)) 192)] _;refine A0 (D7 1 2 4 5) (A1 (mv_ ?_));refine lQ_ (F1 (e:=130) (n:=5) (sz:=1) (i:=i) (i) E E kR kR E qO qO) ?_;refine lQ_ (H9 (i) E kR Ce E (by rw [hk1.len];omega)) ?_;refine lQ_ (T9 26 E E E qD) ?_;refine as_ (A0 (E9 1 2 3 4 5) (C1 (mv_ ?_)));refine lQ_ (F1 (e:=130) (n:=5) (sz:=1) (i:=i) (i) E E kR kR E qO qO) ?_;refine lQ_ (H9 (i) E kR Ce E (by rw [hk1.len];omega)) ?_;refine lQ_ (A5l (b:=67108863) E E E (by show _<18446744073709551616;exact hk1.get _) qD) ?_;refine lQ_ (F1 (e:=130) (n:=5) (sz:=1) (i:=i) (i) E E kR kR E qO qO) ?_;refine A2 E (K4 (i) E E kR E (by rw [hk1.len];omega) Cv ?_);refine C5 (nb (nx (D7 1 2 3 5) (C1 ?_)));refine lQ_ (D2 ((i+1:Nat):Int) E E (F5 qO qO qO)) ?_;refine mv_ (C5 ?_);exact rn (i+1) qO qO (D7 1 2 3 5) (Cg E) qI
 .
  obtain rfl:i=5:=by simp at hc;omega
  refine D6 (te (re (be E (nx (D5 1 2 3) (A1 ?_)))));refine lQ_ (F1 (e:=130) (n:=5) (sz:=1) (i:=0) (0) E E kR kR E qO qO) ?_;refine lQ_ (H9 (0) E kR Ce E (by rw [hok.len];omega)) ?_;refine mV_ E (lQ_ (P9 18446744073709551616 E E E E E E) (lQ_ (G7 18446744073709551616 E E E E E E) ?_));refine lQ_ (F1 (e:=130) (n:=5) (sz:=1) (i:=0) (0) E E kR kR E qO qO) ?_;refine A2 E (K4 (0) E E kR E (by rw [hok.len];omega) Cv ?_);refine A0 (D0 1 2) ?_;refine A0X (M':=[(b2,blk [C0,C0,C0,C0,C0] 192),(b1,blk (nums .u64 (cyN a)) 192)]) (Cg E) qI ?_;refine A1 ?_;refine lQ_ (H0 (n:=5) (cs:=nums .u64 (cyN a)) E kR Ce (by rw [nums_len];exact (W4 ha).len)) ?_;refine A2 E (A5 (vs:=nums .u64 (cyN a)) E E E (by rw [nums_len,(W4 ha).len];kernel_rfl) (by rw [nums_len,(W4 ha).len];rfl) E7 Cv ?_);refine A0 (D1 2) (A9 ?_);exact ⟨_,[],[],A1l (n:=5) E E kR Ce (by rw [nums_len,(W4 ha).len]),Aa _,by simp,E,E,E⟩

def xI(p:LN)(i:Nat):Nat:=p.getD i 0 <<< (8*i%26)%18446744073709551616
def pt1(S:LN)(x k:Nat):LN:=S.set k ((S.getD k 0+(x &&& 67108863))%18446744073709551616)
def pt2(S:LN)(x k:Nat):LN:=if k<4 then S.set (k+1) ((S.getD (k+1) 0+x >>> 26)%18446744073709551616) else S
def ptS(p:LN):Nat->LN
  | 0=>[0,0,0,0,0]
  | i+1=>pt2 (pt1 (ptS p i) (xI p i) (8*i/26)) (xI p i) (8*i/26)
def ptN(p:LN):LN:=ptS p p.length
theorem C1p(h:8*i/26<4):ptS p (i+1)=(pt1 (ptS p i) (xI p i) (8*i/26)).set (8*i/26+1) (((pt1 (ptS p i) (xI p i) (8*i/26)).getD (8*i/26+1) 0+xI p i >>> 26)%18446744073709551616):=if_pos h
theorem C3Q(h:¬ 8*i/26<4):ptS p (i+1)=pt1 (ptS p i) (xI p i) (8*i/26):=if_neg h
theorem L5.p1(h:L5 S)(x k:Nat):L5 (pt1 S x k):=h.set _ _ (Ad _ qD)
theorem L5.p2(h:L5 S)(x k:Nat):L5 (pt2 S x k):=by
  unfold pt2;split
  . exact h.set _ _ (Ad _ qD)
  . exact h
theorem L5.z:L5 [0,0,0,0,0]:=⟨E,by decide⟩
theorem B5c(p:LN):∀i,L5 (ptS p i)
  | 0=>L5.z
  | i+1=>((B5c p i).p1 _ _).p2 _ _
theorem A27(p:LN):L5 (ptN p):=B5c p _
theorem C5y(p:LN)(i:Nat):xI p i<18446744073709551616:=Ad _ qD
theorem B5d(v:Value)(p:LN)(A:Mem)(hp:By A v p)(hl:p.length<=17):FnV prog 193 [v] A (.agg (nums .u64 (ptN p)).toArray):=by
 haveI:=hp.cel;refine Cn (N:=43) func193 E E E λw=>?_;refine A8 (D1 0) (A1 ?_);refine A2 E (C3 (cs:=[C0,C0,C0,C0,C0]) kR E λb2=>?_);refine A0 (D0 0 2) (A1 ?_);refine A2 E (C3 (cs:=[C0,C0,C0,C0,C0]) kR E λb3=>?_);refine A0 (D5 0 2 3) (A3 (A1 (mv_ ?_)));refine lQ_ (F8 (sz:=1) E kR hp.rd) ?_;refine mv_ (A0 (E9 2 3 8 9 10) (A6 ?_));refine E0 (α:=Nat) (λi=>[(2,(vP b2)),(3,(vP b3)),(8,v),(9,(vI p.length)),(10,(vI i))]) (λi=>[(b3,blk (nums .u64 (ptS p i)) 192),(b2,blk [C0,C0,C0,C0,C0] 192)]) (λ_=>_) (λi=>i<=p.length) (λi=>p.length-i) 0 (Am _) (E9 2 3 8 9 10) (Cg E) qI ?_;rintro i hi
 try dsimp only at hi ⊢
 have hok:=B5c p i;have hk1:=hok.p1 (xI p i) (8*i/26);refine A1 (lQ_ (E3 E E E) (A0 (G9 2 3 8 9 10 11) (A3 ?_)));refine C2 E ?_ ?_<;>intro hc
 .
  have hlt:i<p.length:=by simp at hc;omega
  have hk5:8*i/26<5:=by omega
  refine A4 (nx (E9 2 3 8 9 10) ?_);refine P3 (α:=Unit) (λ_=>[(2,(vP b2)),(3,(vP b3)),(8,v),(9,(vI p.length)),(10,(vI i))]) (λ_=>[(b3,blk (nums .u64 (ptS p (i+1))) 192),(b2,blk [C0,C0,C0,C0,C0] 192)]) (λ_=>[]) (λ_=>True) ?_ ?_
  .
   refine A6 (A1 (mv_ ?_));refine lQ_ (G4 (sz:=1) (a:=i) E E kR E hp.rd hlt) ?_;refine lQ_ (Z9 (k:=.u8) E kR (hp.rd.mono qS) hlt) ?_;refine as_ (as_ (A0 (N1 2 3 4 5 8 9 10) ?_));refine C9 (.range 11) (zp 0 [0,0,0,0,0,0,0,0,0,0,0]) kR kR λhs=>?_;refine fm_ ?_;refine fQ_ E (D2 ((8*i:Nat):Int) E E (A11 qO qO qO)) ?_;refine fQ_ E (B8A (a:=8*i) (b:=26) E E E E qD qO) ?_;refine fm_ ?_;refine fQ_ E (A15 (k':=.u64) E kR (by show _<9223372036854775808;have:=A1j hp.lt i;omega)) ?_;refine fm_ ?_;refine fQ_ E (D2 ((8*i:Nat):Int) E E (A11 qO qO qO)) ?_;refine fQ_ E (V5 (a:=8*i) (b:=26) E E E E qD) ?_;refine fQ_ E (A3A E (8*i%26) E E E (by show _<=64;omega)) ?_;refine fA_ E E (fA_ E E (E4 (N1 2 3 6 7 8 9 10) (A1 (mv_ ?_))));refine lQ_ (F1 (e:=130) (n:=5) (sz:=1) (i:=8*i/26) (8*i/26) E E kR kR E qO qO) ?_;refine lQ_ (H9 (8*i/26) E kR Ce E (by rw [hok.len];omega)) ?_;refine mv_ ?_;refine lQ_ (A5l (a:=xI p i) (b:=67108863) E E E (C5y p i) qD) ?_;refine lQ_ (G7 18446744073709551616 E E E E E E) ?_;refine lQ_ (F1 (e:=130) (n:=5) (sz:=1) (i:=8*i/26) (8*i/26) E E kR kR E qO qO) ?_;refine A2 E (K4 (8*i/26) E E kR E (by rw [hok.len];omega) Cv ?_);refine A0 (N1 2 3 6 7 8 9 10) (A1 (mV_ E (lQ_ (E3 E E E) (A0 (V4 2 3 6 7 8 9 10 32) ?_))));refine C2 E ?_ ?_<;>intro hc
   .
    have h4:8*i/26<4:=by simp at hc;omega
    refine C1 (mv_ ?_);refine lQ_ (D2 ((8*i/26+1:Nat):Int) E E (F5 qO qO qO)) ?_;refine lQ_ (F1 (e:=130) (n:=5) (sz:=1) (i:=8*i/26+1) (8*i/26+1) E E kR kR E qO qO) ?_;refine lQ_ (H9 (8*i/26+1) E kR Ce E (by have h:=hk1.len;unfold pt1 at h;omega)) ?_;refine mv_ ?_;refine lQ_ (T9 (a:=xI p i) 26 E E E qD) ?_;refine lQ_ (G7 18446744073709551616 E E E E E E) ?_;refine lQ_ (F1 (e:=130) (n:=5) (sz:=1) (i:=8*i/26+1) (8*i/26+1) E E kR kR E qO qO) ?_;refine A2 E (K4 (8*i/26+1) E E kR E (by have h:=hk1.len;unfold pt1 at h;omega) Cv ?_);refine C5 (nb ?_);exact jn () trivial (E9 2 3 8 9 10) (Cg (by rw [C1p h4];rfl)) qI
   .
    have h4:¬ 8*i/26<4:=by simp at hc;omega
    refine A4 (nb ?_);exact jn () trivial (E9 2 3 8 9 10) (Cg (by rw [C3Q h4];rfl)) qI
  . rintro _ -;refine C1 ?_;refine lQ_ (D2 ((i+1:Nat):Int) E E (F5 qO qO qO)) ?_;refine mv_ (C5 ?_);exact rn (i+1) hlt qO (E9 2 3 8 9 10) (Cg E) qI
 .
  obtain rfl:i=p.length:=by simp at hc;omega
  refine D6 (te (re (be E (nx (D0 2 3) (A1 ?_)))));refine lQ_ (H0 (n:=5) (cs:=nums .u64 (ptS p p.length)) E kR Ce (by rw [nums_len];exact (A27 p).len)) ?_;refine A2 E (A5 (vs:=nums .u64 (ptN p)) E E E (by rw [nums_len,(A27 p).len];kernel_rfl) (by rw [nums_len,(A27 p).len];rfl) E7 Cv ?_);refine A0 (D1 2) (A9 ?_);exact ⟨_,[],[],A1l (n:=5) E E kR Ce (by rw [nums_len,(A27 p).len]),Aa _,by simp,E,E,E⟩

def ml1(S:LN)(x y i k:Nat):LN :=
  if i+k<5 then S.set (i+k) ((S.getD (i+k) 0+x*y%18446744073709551616)%18446744073709551616)
  else S.set (i+k-5) ((S.getD (i+k-5) 0+5*x%18446744073709551616*y%18446744073709551616)%18446744073709551616)
def mlK(a b:LN)(i:Nat)(S:LN):Nat->LN
  | 0=>S
  | k+1=>ml1 (mlK a b i S k) (a.getD i 0) (b.getD k 0) i k
def mlI(a b:LN):Nat->LN
  | 0=>[0,0,0,0,0]
  | i+1=>mlK a b i (mlI a b i) 5
def A5t(a b:LN):LN:=cyN (cyN (mlI a b 5))
theorem L5.m1(h:L5 S)(x y i k:Nat):L5 (ml1 S x y i k):=by unfold ml1;split<;>exact h.set _ _ (Ad _ qD)
theorem B5e{a b S:LN}{i:Nat}(h:L5 S):∀k,L5 (mlK a b i S k)
  | 0=>h
  | k+1=>(B5e h k).m1 _ _ _ _
theorem A51(a b:LN):∀i,L5 (mlI a b i)
  | 0=>L5.z
  | i+1=>B5e (A51 a b i) 5
theorem A1Y(a b:LN):L5 (A5t a b):=W4 (W4 (A51 a b 5))
theorem C1q{b:LN}{k:Nat}(h:i+k<5):mlK a b i S (k+1)=(mlK a b i S k).set (i+k) (((mlK a b i S k).getD (i+k) 0+a.getD i 0*b.getD k 0%18446744073709551616)%18446744073709551616):=if_pos h
theorem C3R{b:LN}{k:Nat}(h:¬i+k<5):mlK a b i S (k+1)=(mlK a b i S k).set (i+k-5) (((mlK a b i S k).getD (i+k-5) 0+5*a.getD i 0%18446744073709551616*b.getD k 0%18446744073709551616)%18446744073709551616):=if_neg h
theorem C1r(a b:LN)(A:Mem)(ha:L5 a)(hb:L5 b):FnV prog 194 [.agg (nums .u64 a).toArray,.agg (nums .u64 b).toArray] A (.agg (nums .u64 (A5t a b)).toArray):=by
 refine Cn (N:=51) func194 E E E λw=>?_;refine A8 (D0 0 1) (A1 ?_);refine A2 E (bx_ λb2=>?_);refine A2 E (bx_ λb3=>?_);refine A2 E (C3 (cs:=[C0,C0,C0,C0,C0]) kR E λb4=>?_);refine A0 (D5 2 3 4) (A1 ?_);refine A2 E (C3 (cs:=[C0,C0,C0,C0,C0]) kR E λb5=>?_);refine A0 (D7 2 3 4 5) (A3 (A1 ?_));refine lQ_ (H0 (n:=5) (cs:=nums .u64 a) E kR Ce (by rw [nums_len];exact ha.len)) ?_;refine mv_ (A0 (E9 3 4 5 10 11) (A6 ?_));refine E0 (α:=Nat) (λi=>[(3,(vP b3)),(4,(vP b4)),(5,(vP b5)),(10,.agg (nums .u64 a).toArray),(11,(vI i))]) (λi=>[(b5,blk (nums .u64 (mlI a b i)) 192),(b4,blk [C0,C0,C0,C0,C0] 192),(b3,blk (nums .u64 b) 192),(b2,blk (nums .u64 a) 192)]) (λ_=>_) (λi=>i<=5) (λi=>5-i) 0 (Am _) (E9 3 4 5 10 11) (Cg E) qI ?_;rintro i hi
 try dsimp only at hi ⊢
 have hok:=A51 a b i;refine A1 (lQ_ (E3 E E E) (A0 (G9 3 4 5 10 11 12) (A3 ?_)));refine C2 E ?_ ?_<;>intro hc
 .
  have hlt:i<5:=by simp at hc;omega
  refine A4 (nx (E9 3 4 5 10 11) (A3 (A6 (A1 (mv_ ?_)))));refine lQ_ (A6g (m:=5) (e:=130) (j:=i) (cs:=nums .u64 a) (u:=(vW (a.getD i 0))) E E kR kR kR E qO (W2 (by rw [ha.len];omega))) ?_;refine as_ (as_ (A0 (N1 3 4 5 6 7 10 11) (A1 ?_)));refine lQ_ (H0 (n:=5) (cs:=nums .u64 b) E kR Ce (by rw [nums_len];exact hb.len)) ?_;refine mv_ (A0 (Q4 3 4 5 6 7 10 11 15 16) (A6 ?_));refine E0 (α:=Nat) (λk=>[(3,(vP b3)),(4,(vP b4)),(5,(vP b5)),(10,.agg (nums .u64 a).toArray),(11,(vI i)),(6,(vI i)),(7,(vW (a.getD i 0))),(15,.agg (nums .u64 b).toArray),(16,(vI k))]) (λk=>[(b5,blk (nums .u64 (mlK a b i (mlI a b i) k)) 192),(b4,blk [C0,C0,C0,C0,C0] 192),(b3,blk (nums .u64 b) 192),(b2,blk (nums .u64 a) 192)]) (λ_=>_) (λk=>k<=5) (λk=>5-k) 0 (Am _) (Q4 3 4 5 10 11 6 7 15 16) (Cg E) qI ?_;rintro k hk
  try dsimp only at hk ⊢
  have hok2:=B5e (a:=a) (b:=b) (i:=i) hok k;refine A1 (lQ_ (E3 E E E) (A0 (kq 3 (Q4 4 5 6 7 10 11 15 16 17)) (A3 ?_)));refine C2 E ?_ ?_<;>intro hc
  .
   have hlt2:k<5:=by simp at hc;omega
   refine A4 (nx (Q4 3 4 5 6 7 10 11 15 16) ?_);refine P3 (α:=Unit) (λ_=>[(3,(vP b3)),(4,(vP b4)),(5,(vP b5)),(10,.agg (nums .u64 a).toArray),(11,(vI i)),(6,(vI i)),(7,(vW (a.getD i 0))),(15,.agg (nums .u64 b).toArray),(16,(vI k)),(8,(vI k)),(9,(vW (b.getD k 0)))]) (λ_=>[(b5,blk (nums .u64 (mlK a b i (mlI a b i) (k+1))) 192),(b4,blk [C0,C0,C0,C0,C0] 192),(b3,blk (nums .u64 b) 192),(b2,blk (nums .u64 a) 192)]) (λ_=>[]) (λ_=>True) ?_ ?_
   .
    refine A6 (A1 (mv_ ?_));refine lQ_ (A6g (m:=5) (e:=130) (j:=k) (cs:=nums .u64 b) (u:=(vW (b.getD k 0))) E E kR kR kR E qO (W2 (by rw [hb.len];omega))) ?_;refine aS_ E (aS_ E (A0 (kq 3 (kq 4 (Q4 5 6 7 8 9 10 11 15 16))) (A1 (mv_ (mv_ ?_)))));refine lQ_ (D2 ((i+k:Nat):Int) E E (F5 qO qO qO)) ?_;refine lQ_ (E3 E E E) (A0 (kq 3 (kq 4 (kq 5 (Q4 6 7 8 9 10 11 15 16 23)))) ?_);refine C2 E ?_ ?_<;>intro hc
    .
     have h5:i+k<5:=by simp at hc;omega
     refine C1 (mv_ (mv_ ?_));refine lQ_ (D2 ((i+k:Nat):Int) E E (F5 qO qO qO)) ?_;refine lQ_ (F1 (e:=130) (n:=5) (sz:=1) (i:=i+k) (i+k) E E kR kR E qO qO) ?_;refine lQ_ (H9 (i+k) E kR Ce E (by rw [hok2.len];omega)) ?_;refine mV_ E (mV_ E (lQ_ (P9 18446744073709551616 E E E E E E) (lQ_ (G7 18446744073709551616 E E E E E E) ?_)));refine lQ_ (F1 (e:=130) (n:=5) (sz:=1) (i:=i+k) (i+k) E E kR kR E qO qO) ?_;refine A2 E (K4 (i+k) E E kR E (by rw [hok2.len];omega) Cv ?_);refine C5 (nb ?_);exact jn () trivial (kq 3 (kq 4 (Q4 5 10 11 6 7 15 16 8 9))) (Cg (by rw [C1q h5])) qI
    .
     have h5:¬i+k<5:=by simp at hc;omega
     refine C1 (mv_ (mv_ ?_));refine lQ_ (D2 ((i+k:Nat):Int) E E (F5 qO qO qO)) ?_;refine lQ_ (D2 ((i+k-5:Nat):Int) E E (V6 qO qO qO)) ?_;refine lQ_ (F1 (e:=130) (n:=5) (sz:=1) (i:=i+k-5) (i+k-5) E E kR kR E qO qO) ?_;refine lQ_ (H9 (i+k-5) E kR Ce E (by rw [hok2.len];omega)) ?_;refine mV_ E (lQ_ (P9 18446744073709551616 E E E E E E) (mV_ E (lQ_ (P9 18446744073709551616 E E E E E E) (lQ_ (G7 18446744073709551616 E E E E E E) ?_))));refine lQ_ (F1 (e:=130) (n:=5) (sz:=1) (i:=i+k-5) (i+k-5) E E kR kR E qO qO) ?_;refine A2 E (K4 (i+k-5) E E kR E (by rw [hok2.len];omega) Cv ?_);refine C5 (nb ?_);exact jn () trivial (kq 3 (kq 4 (Q4 5 10 11 6 7 15 16 8 9))) (Cg (by rw [C3R h5])) qI
   . rintro _ -;refine C1 ?_;refine lQ_ (D2 ((k+1:Nat):Int) E E (F5 qO qO qO)) ?_;refine mv_ (C5 ?_);exact rn (k+1) hlt2 qO (Q4 3 4 5 10 11 6 7 15 16) (Cg E) qI
  .
   obtain rfl:k=5:=by simp at hc;omega
   refine D6 (te (re (be E (nb (nx (E9 3 4 5 10 11) (C1 ?_))))));refine lQ_ (D2 ((i+1:Nat):Int) E E (F5 qO qO qO)) ?_;refine mv_ (C5 ?_);exact rn (i+1) hlt qO (E9 3 4 5 10 11) (Cg E) qI
 .
  obtain rfl:i=5:=by simp at hc;omega
  refine D6 (te (re (be E (nx (D0 4 5) (A1 ?_)))));refine lQ_ (H0 (n:=5) (cs:=nums .u64 (mlI a b 5)) E kR Ce (by rw [nums_len];exact (A51 a b 5).len)) ?_;refine D8 (aS E a0) kR (A47 (mlI a b 5) _ (A51 a b 5)) E ?_;refine D8 (aS E a0) kR (A47 (cyN (mlI a b 5)) _ (W4 (A51 a b 5))) E ?_;refine A2 E (A5 (vs:=nums .u64 (A5t a b)) E E E (by rw [nums_len,(A1Y a b).len];kernel_rfl) (by rw [nums_len,(A1Y a b).len];rfl) E7 Cv ?_);refine A0 (D1 4) (A9 ?_);exact ⟨_,[],[],A1l (n:=5) E E kR Ce (by rw [nums_len,(A1Y a b).len]),Aa _,by simp,E,E,E⟩

def em1(S:LN)(i:Nat):LN:=S.set (i+1) ((S.getD (i+1) 0+S.getD i 0 >>> 26)%18446744073709551616)
def emS(a:LN):Nat->LN
  | 0=>a.set 0 ((a.getD 0 0+5)%18446744073709551616)
  | i+1=>(em1 (emS a i) i).set i ((em1 (emS a i) i).getD i 0 &&& 67108863)
def enF(a:LN):LN:=if 0<(emS a 4).getD 4 0 >>> 26 then (emS a 4).set 4 ((emS a 4).getD 4 0 &&& 67108863) else a
def exN(f:LN)(i:Nat):Nat:=if 8*i/26<4 then f.getD (8*i/26) 0 >>> (8*i%26) ||| f.getD (8*i/26+1) 0 <<< (26-8*i%26)%18446744073709551616 else f.getD (8*i/26) 0 >>> (8*i%26)
def ecN(f o:LN)(c i:Nat):Nat:=(c+((exN f i &&& 255)+o.getD i 0)%18446744073709551616)%18446744073709551616
def eoS(f o:LN):Nat->LN×Nat
  | 0=>(List.replicate 16 0,0)
  | i+1=>((eoS f o i).1.set i (ecN f o (eoS f o i).2 i%256),ecN f o (eoS f o i).2 i >>> 8)
def C4N(a o:LN):LN:=(eoS (enF (cyN (cyN (cyN a)))) o 16).1
theorem L5.e1(h:L5 S)(i:Nat):L5 (em1 S i):=h.set _ _ (Ad _ qD)
theorem B5f{a:LN}(h:L5 a):∀i,L5 (emS a i)
  | 0=>h.set _ _ (Ad _ qD)
  | i+1=>((B5f h i).e1 i).set _ _ (B79 _)
theorem C3S(h:L5 a):L5 (enF a):=by
  unfold enF;split
  . exact (B5f h 4).set _ _ (B79 _)
  . exact h
theorem A3t(f o:LN):∀i,(eoS f o i).1.length=16
  | 0=>by simp [eoS]
  | i+1=>by show ((eoS f o i).1.set _ _).length=_;rw [Bk,A3t f o i]
theorem B9h(f o:LN):∀i,∀x∈(eoS f o i).1,x<256
  | 0=>λx hx=>by rw [show (eoS f o 0).1=List.replicate 16 0 from rfl] at hx;rw [(List.mem_replicate.1 hx).2];decide
  | i+1=>λx hx=>by
    rcases Bf hx with h1|rfl
    . exact B9h f o i x h1
    . exact Ad _ qD
theorem B8b(a o:LN):(C4N a o).length=16:=A3t _ _ _
theorem C5z(a o:LN)(v:Value)(A:Mem)(ha:L5 a)(ho:By A v o)(hol:o.length=16):FnX prog 195 [.agg (nums .u64 a).toArray,v] [] A λq M J=>M=[]∧By J q (C4N a o):=by
 haveI:=ho.cel;refine Co (N:=97) func195 E E E λw_=>?_;refine A8 (D0 0 1) (A1 ?_);refine A2 E (bx_ λb2=>?_);refine as_ (A0 (D0 1 2) (A1 ?_));refine lQ_ (H0 (n:=5) (cs:=nums .u64 a) E kR Ce (by rw [nums_len];exact ha.len)) ?_;refine D8 (aS E a0) kR (A47 a _ ha) E ?_;refine D8 (aS E a0) kR (A47 (cyN a) _ (W4 ha)) E ?_;refine D8 (aS E a0) kR (A47 (cyN (cyN a)) _ (W4 (W4 ha))) E ?_;refine A2 E (A5 (vs:=nums .u64 (cyN (cyN (cyN a)))) E E E (by rw [nums_len,(W4 (W4 (W4 ha))).len];kernel_rfl) (by rw [nums_len,nums_len,ha.len,(W4 (W4 (W4 ha))).len]) E7 Cv ?_);refine A0 (D0 1 2) ?_;unfold C4N
 obtain ⟨e,he⟩:∃z,cyN (cyN (cyN a))=z:=⟨_,E⟩
 have hok:=W4 (W4 (W4 ha));rw [he] at hok ⊢;refine A1 ?_;refine lQ_ (H0 (n:=5) (cs:=nums .u64 e) E kR Ce (by rw [nums_len];exact hok.len)) ?_;refine A2 E (C3 (cs:=[C0,C0,C0,C0,C0]) kR E λb5=>?_);refine A2 E (A5 (vs:=nums .u64 e) E E E (by rw [nums_len,hok.len];kernel_rfl) (by rw [nums_len,hok.len];rfl) E7 Cv ?_);refine A0 (D5 1 2 5) (A1 ?_);refine lQ_ (F1 (e:=130) (n:=5) (sz:=1) (i:=0) (0) E E kR kR E qO qO) ?_;refine lQ_ (H9 (0) E kR Ce E (by rw [hok.len];omega)) ?_;refine lQ_ (G7 18446744073709551616 (b:=5) E E E E E E) ?_;refine lQ_ (F1 (e:=130) (n:=5) (sz:=1) (i:=0) (0) E E kR kR E qO qO) ?_;refine A2 E (K4 (0) E E kR E (by rw [hok.len];omega) Cv ?_);refine A0 (D5 1 2 5) (A3 (A1 (mv_ (A0 (D7 1 2 5 21) (A6 ?_)))));refine E0 (α:=Nat) (λi=>[(1,v),(2,(vP b2)),(5,(vP b5)),(21,(vI i))]) (λi=>[(b5,blk (nums .u64 (emS e i)) 192),(b2,blk (nums .u64 e) 192)]) (λ_=>_) (λi=>i<=4) (λi=>4-i) 0 (Am _) (D7 1 2 5 21) (Cg E) qI ?_;rintro i hi
 try dsimp only at hi ⊢
 have hm:=B5f hok i;have hm1:=hm.e1 i;refine A1 (lQ_ (E3 E E E) (A0 (E9 1 2 5 21 22) (A3 ?_)));refine C2 E ?_ ?_<;>intro hc
 .
  have hlt:i<4:=by simp at hc;omega
  refine A4 (nx (D7 1 2 5 21) (A3 (A6 (A1 (mv_ (as_ (A0 (E9 1 2 5 6 21) ?_)))))));refine C9 (.range 10) (zp 0 [0,0,0,1,0,0,1,0,0,0,2]) kR kR λhs=>?_;refine fm_ ?_;refine fQ_ E (D2 ((i+1:Nat):Int) E E (F5 qO qO qO)) ?_;refine fQ_ E (F1 (e:=130) (n:=5) (sz:=1) (i:=i+1) (i+1) E E kR kR E qO qO) ?_;refine fR_ E (H9 (i+1) E kR Ce E (by rw [hm.len];omega)) ?_;refine fm_ ?_;refine fQ_ E (F1 (e:=130) (n:=5) (sz:=1) (i:=i) (i) E E kR kR E qO qO) ?_;refine fR_ E (H9 (i) E kR Ce E (by rw [hm.len];omega)) ?_;refine fQ_ E (T9 26 E E E qD) ?_;refine fQ_ E (G7 18446744073709551616 E E E E E E) ?_;refine fQ_ E (F1 (e:=130) (n:=5) (sz:=1) (i:=i+1) (i+1) E E kR kR E qO qO) ?_;refine G3 E E E (K4 (i+1) E E kR E (by rw [hm.len];omega) Cv ?_);refine E4 (E9 1 2 5 6 21) (C1 (mv_ ?_));refine lQ_ (F1 (e:=130) (n:=5) (sz:=1) (i:=i) (i) E E kR kR E qO qO) ?_;refine lQ_ (H9 (i) E kR Ce E (by have h:=hm1.len;unfold em1 at h;omega)) ?_;refine lQ_ (A5l (b:=67108863) E E E (by show _<18446744073709551616;exact hm1.get _) qD) ?_;refine lQ_ (F1 (e:=130) (n:=5) (sz:=1) (i:=i) (i) E E kR kR E qO qO) ?_;refine A2 E (K4 (i) E E kR E (by have h:=hm1.len;unfold em1 at h;omega) Cv ?_);refine C5 (nb (nx (D7 1 2 5 21) (C1 ?_)));refine lQ_ (D2 ((i+1:Nat):Int) E E (F5 qO qO qO)) ?_;refine mv_ (C5 ?_);exact rn (i+1) qO qO (D7 1 2 5 21) (Cg E) qI
 .
  obtain rfl:i=4:=by simp at hc;omega
  refine D6 (te (re (be E (nx (D5 1 2 5) ?_))));refine P3 (α:=LN) (λ_=>[(1,v),(2,(vP b2))]) (λS=>[(b5,blk (nums .u64 S) 192),(b2,blk (nums .u64 (enF e)) 192)]) (λ_=>[]) (λ_=>True) ?_ ?_
  .
   refine A1 ?_;refine lQ_ (F1 (e:=130) (n:=5) (sz:=1) (i:=4) (4) E E kR kR E qO qO) ?_;refine lQ_ (H9 (4) E kR Ce E (by rw [hm.len];omega)) ?_;refine lQ_ (T9 26 E E E qD) ?_;refine lQ_ (E3 E E E) (A0 (D7 1 2 5 43) ?_);refine C2 E ?_ ?_<;>intro hc
   .
    have h0:0<(emS e 4).getD 4 0 >>> 26:=by have:=of_decide_eq_true hc;omega
    refine A1 ?_;refine lQ_ (F1 (e:=130) (n:=5) (sz:=1) (i:=4) (4) E E kR kR E qO qO) ?_;refine lQ_ (H9 (4) E kR Ce E (by rw [hm.len];omega)) ?_;refine lQ_ (A5l (b:=67108863) E E E (by show _<18446744073709551616;exact hm.get _) qD) ?_;refine lQ_ (F1 (e:=130) (n:=5) (sz:=1) (i:=4) (4) E E kR kR E qO qO) ?_;refine A2 E (K4 (4) E E kR E (by rw [hm.len];omega) Cv ?_);refine A0 (D5 1 2 5) ?_;have hm2:=hm.set 4 ((emS e 4).getD 4 0 &&& 67108863) (B79 _);refine C1 ?_;refine lQ_ (H0 (n:=5) (cs:=nums .u64 ((emS e 4).set 4 ((emS e 4).getD 4 0 &&& 67108863))) E kR Ce (by rw [nums_len];exact hm2.len)) ?_;refine A2 E (A5 (vs:=nums .u64 ((emS e 4).set 4 ((emS e 4).getD 4 0 &&& 67108863))) E E E (by rw [nums_len,hm2.len];kernel_rfl) (by rw [nums_len,nums_len,hok.len,hm2.len]) E7 Cv ?_);refine C5 ?_;exact jn ((emS e 4).set 4 ((emS e 4).getD 4 0 &&& 67108863)) trivial (D0 1 2) (Cg (by rw [show enF e=_ from if_pos h0])) qI
   .
    have h0:¬ 0<(emS e 4).getD 4 0 >>> 26:=by have:=of_decide_eq_false hc;omega
    refine A4 ?_;exact jn (emS e 4) trivial (D0 1 2) (Cg (by rw [show enF e=e from if_neg h0])) qI
  .
   rintro Sx -;have hf:=C3S hok
   obtain ⟨f,hfe⟩:∃z,enF e=z:=⟨_,E⟩
   rw [hfe] at hf ⊢;refine A1 ?_;refine A2 E (A0S (by_:=1) (k:=.u8) (e:=5) 16 E E kR E E qD qD E λb49=>?_);refine aS_ E (A0 (D5 1 2 7) (A1 (aS_ E (A0 (D7 1 2 7 8) (A3 (A1 (mV_ E (lQ_ (A0r (e:=5) E kR) (mv_ (A0 (G9 1 2 7 8 51 52) (A6 ?_)))))))))));refine E0 (α:=Nat) (λi=>[(1,v),(2,(vP b2)),(7,.slice (some ⟨b49,0,none⟩) 16 16),(8,(vW ((eoS f o i).2))),(51,.int .i64 16),(52,(vI i))]) (λi=>[(b49,blk (nums .u8 (eoS f o (i)).1) 5),(b2,blk (nums .u64 f) 192)]) (λ_=>[]) (λi=>i<=16) (λi=>16-i) 0 (Am _) (G9 1 2 7 8 51 52) (Cj (B:=[(b49,blk (nums .u8 (List.replicate 16 0)) 5)]) qP (Cj (B:=[(b2,blk (nums .u64 f) 192)]) qP qZ)) qI ?_;rintro i hi
   try dsimp only at hi ⊢
   have hol:=A3t f o i;refine A1 (lQ_ (E3 E E E) (A0 (N1 1 2 7 8 51 52 53) (A3 ?_)));refine C2 E ?_ ?_<;>intro hc
   .
    have hlt:i<16:=by simp at hc;omega
    have hk5:8*i/26<5:=by omega
    refine A4 (nx (G9 1 2 7 8 51 52) (A3 (A6 (A1 (mV_ E (aS_ E (A0 (N1 1 2 7 8 9 51 52) (A1 (mv_ ?_)))))))));refine lQ_ (D2 ((8*i:Nat):Int) E E (A11 qO qO qO)) ?_;refine lQ_ (B8A (a:=8*i) (b:=26) E E E E qD qO) ?_;refine as_ (A0 (V4 1 2 7 8 9 10 51 52) (A1 (mv_ ?_)));refine lQ_ (F1 (e:=130) (n:=5) (sz:=1) (i:=8*i/26) (8*i/26) E E kR kR E qO qO) ?_;refine lQ_ (H9 (8*i/26) E kR Ce E (by rw [hf.len];omega)) ?_;refine mv_ ?_;refine lQ_ (D2 ((8*i:Nat):Int) E E (A11 qO qO qO)) ?_;refine lQ_ (V5 (a:=8*i) (b:=26) E E E E qD) ?_;refine lQ_ (T9 (8*i%26) E E E (by show _<=64;omega)) ?_;refine as_ (A0 (Q4 1 2 7 8 9 10 11 51 52) ?_);refine P3 (α:=Unit) (λ_=>[(1,v),(2,(vP b2)),(7,.slice (some ⟨b49,0,none⟩) 16 16),(8,(vW ((eoS f o i).2))),(51,.int .i64 16),(52,(vI i)),(9,(vI i)),(11,(vW (exN f i)))]) (λ_=>[(b49,blk (nums .u8 (eoS f o (i)).1) 5),(b2,blk (nums .u64 f) 192)]) (λ_=>[]) (λ_=>True) ?_ ?_
    .
     refine A1 (mV_ E (lQ_ (E3 E E E) (A0 (kq 1 (Q4 2 7 8 9 10 11 51 52 66)) ?_)));refine C2 E ?_ ?_<;>intro hc
     .
      have h4:8*i/26<4:=by simp at hc;omega
      refine C1 (mv_ (mv_ ?_));refine lQ_ (D2 ((8*i/26+1:Nat):Int) E E (F5 qO qO qO)) ?_;refine lQ_ (F1 (e:=130) (n:=5) (sz:=1) (i:=8*i/26+1) (8*i/26+1) E E kR kR E qO qO) ?_;refine lQ_ (H9 (8*i/26+1) E kR Ce E (by rw [hf.len];omega)) ?_;refine mv_ ?_;refine lQ_ (D2 ((8*i:Nat):Int) E E (A11 qO qO qO)) ?_;refine lQ_ (V5 (a:=8*i) (b:=26) E E E E qD) ?_;refine lQ_ (D2 ((26-8*i%26:Nat):Int) E E (V6 qO qO qO)) ?_;refine lQ_ (A3A E (26-8*i%26) E E E (by show _<=64;omega)) ?_;refine lQ_ (B6k E E E (by show _<18446744073709551616;exact B8a (hf.get _) _) (by show _<18446744073709551616;exact Ad _ qD)) ?_;refine as_ (C5 ?_);exact jn () trivial (kq 1 (kq 2 (kq 7 (kq 8 (kq 51 (kq 52 (kq 9 (kp 11 (by rw [show exN f i=_ from if_pos h4];rfl) kn)))))))) (Cg E) qI
     .
      have h4:¬ 8*i/26<4:=by simp at hc;omega
      refine A4 ?_;exact jn () trivial (kq 1 (kq 2 (kq 7 (kq 8 (kq 51 (kq 52 (kq 9 (kp 11 (by rw [show exN f i=_ from if_neg h4];rfl) kn)))))))) (Cg E) qI
    .
     rintro _ -
     have hex:exN f i<18446744073709551616:=by
      unfold exN;split
      . exact Nat.or_lt_two_pow (n:=64) (B8a (hf.get _) _) (Ad _ qD)
      . exact B8a (hf.get _) _
     refine A1 (mv_ (mv_ ?_));refine lQ_ (A5l (a:=exN f i) (b:=255) E E E hex qD) ?_;refine mv_ (mv_ ?_);refine lQ_ (G4 (sz:=1) (a:=i) E E kR E ho.rd qO) ?_;refine lQ_ (Z9 (k:=.u8) E kR (ho.rd.mono qS) qO) ?_;refine lQ_ (A15 (k':=.u64) E kR (by show _<9223372036854775808;have:=A1j ho.lt i;omega)) ?_;refine lQ_ (G7 18446744073709551616 E E E E E E) (lQ_ (G7 18446744073709551616 E E E E E E) (aS_ E (A0 (N1 1 2 7 8 9 51 52) (A1 (mV_ E (mV_ E (mV_ E (lQ_ (A12 E kR) ?_))))))));refine lQ_ (L6 (e:=5) (i:=i) (sz:=1) E E kR kR E hlt) ?_;refine A2 E (K4 i E E kR qO qO Cv ?_);refine A0 (G9 1 2 7 8 51 52) (C1 (mv_ ?_));refine lQ_ (T9 8 E E E qD) ?_;refine as_ (C5 (nb (nx (G9 1 2 7 8 51 52) (C1 ?_))));refine lQ_ (D2 ((i+1:Nat):Int) E E (F5 qO qO qO)) ?_;refine mv_ (C5 ?_);exact rn (i+1) qO qO (G9 1 2 7 8 51 52) (Cg E) qI
   .
    obtain rfl:i=16:=by simp at hc;omega
    refine D6 (te (re (be E (nx (D1 7) (A1 (mV_ E (aS_ E (A0 (D1 4) (A9 ?_)))))))));refine ⟨_,[],[(b49,blk (nums .u8 (eoS f o 16).1) 5)],H2 E E,Cj (B:=[_]) qP qZ,E,⟨?_,B9h f o 16,by rw [A3t];decide⟩⟩;rw [A3t];exact Cr (n:=16) qK (by simp [nums,A3t])

end Go.Proofs.YtgpjndfgjjlhaaaGreatDoor
