/- Part 1 of the texts of this claim, one behind the other. -/
import Derived.WalkKit
import Derived.OrdersHeld
import Derived.Deep.LoopGhost
import Derived.Deep.MidRow
set_option linter.unusedVariables false
set_option linter.unusedSimpArgs false
set_option maxRecDepth 100000
namespace Go
theorem E{α:Sort _}{a:α}:a=a:=rfl
abbrev Aa:=@List.nil_sublist
abbrev Ab:=@List.getElem?_eq_getElem
abbrev Ac:=@List.getElem?_eq_some_iff
abbrev Ad:=@Nat.mod_lt
abbrev Ae:=@List.mem_append_left
abbrev Af:=@Nat.mod_eq_of_lt
abbrev Ah:=@List.Perm.refl
abbrev Ai:=@List.mem_append_right
abbrev Aj:=@List.getD_eq_getElem?_getD
abbrev Ak:=@List.getElem?_append_left
abbrev Al:=@List.mem_map_of_mem
abbrev Am:=@Nat.zero_le
abbrev An:=@List.length_append
abbrev Ao:=@List.Sublist.refl
abbrev Ap:=@List.append_assoc
abbrev Aq:=@List.getElem?_append_right
abbrev As:=@List.mem_of_getElem?
abbrev Au:=@Nat.mul_le_mul_right
abbrev Av:=@Nat.le_refl
abbrev Aw:=@List.take_of_length_le
abbrev Ax:=@List.mem_cons_self
abbrev Ay:=@List.sublist_append_left
abbrev Az:=@Nat.le_trans
abbrev Bb:=@List.mem_cons_of_mem
abbrev Bd:=@List.eq_nil_of_length_eq_zero
abbrev Be:=@Nat.lt_of_le_of_lt
abbrev Bf:=@List.mem_or_eq_of_mem_set
abbrev Bg:=@List.length_drop
abbrev Bh:=@List.take_add_one
abbrev Bj:=@List.length_take
abbrev Bk:=@List.length_set
abbrev Bp:=@Nat.lt_of_lt_of_le
abbrev Br:=@Nat.pow_le_pow_right
abbrev Bu:=@List.drop_eq_getElem_cons
abbrev Bv:=@List.map_congr_left
abbrev Bw:=@Nat.div_div_eq_div_mul
abbrev Bx:=@List.drop_of_length_le
abbrev Bz:=@List.mem_of_mem_take
abbrev Ca:=@Nat.two_pow_pos
abbrev Cb:=@Nat.shiftRight_eq_div_pow
abbrev Cc:=@Option.some.inj
abbrev Cd:=@List.getElem?_take_of_lt
abbrev vW(n:Nat):Go.Value:=.int .u64 (n:Int)
theorem Cw{α:Type _}(l:List α):[]++l=l:=rfl
theorem Cy{α:Type _}(a:α)(l r:List α):a::l++r=a::(l++r):=rfl
theorem Cz{α:Type _}{a b:α}{l:List α}:a∈b::l↔a=b∨a∈l:=List.mem_cons
theorem Da{α:Type _}{a:α}:¬a∈([]:List α):=List.not_mem_nil
end Go
namespace Go.Px
abbrev Env:=List (Nat×Value)
abbrev Mem:=List (Nat×Obj)
def lk:Env->Nat->Option Value
  | [],_=>none
  | (j,v)::r,i=>bif Nat.beq j i then some v else lk r i
def ev(l:Env):Operand->Option Value
  | .tmp t=>lk l t
  | .const v=>some v
  | .global g=>some (.pointer (some ⟨g,0,none⟩))
  | .func f=>some (.func (.func f) #[] #[])
structure Ag(N:Nat)(l:Env)(a:Act):Prop where
  defers:a.defers=[]
  size:a.tmps.size=N
  slot:∀i v,lk l i=some v->a.tmps[i]? = some v
theorem Ag.ev{N:Nat}{l:Env}{a:Act}(h:Ag N l a){x:Operand}{v:Value}(hx:ev l x=some v):a.eval x=v:=by
  cases x with
  | tmp t=>have:=h.slot t v hx;simp [Act.eval,this]
  | const u=>simpa [Px.ev,Act.eval] using hx
  | global g=>simpa [Px.ev,Act.eval] using hx
  | func f=>simpa [Px.ev,Act.eval] using hx
variable{i j:Nat}
theorem A0p(h:i≠j):Nat.beq i j=false:=by rw [<- Bool.not_eq_true,Nat.beq_eq];exact h
theorem Ag.put{N:Nat}{l:Env}{a:Act}(h:Ag N l a){d:Nat}(hd:d<N)(v:Value):Ag N ((d,v)::l) (a.put (some d) v) where
  defers:=h.defers
  size:=by simp [Act.put,h.size]
  slot:=by
    intro i u hi;simp only [lk] at hi;by_cases e:d=i
    . subst e;simp at hi;subst hi;simp [Act.put,h.size,hd]
    . simp only [A0p e,cond_false] at hi;have:=h.slot i u hi;simp only [Act.put];rw [Array.getElem?_setIfInBounds_ne e];exact this
variable{N:Nat}{l l':Env}
theorem Ag.sub{a:Act}(h:Ag N l a)(hs:∀i v,lk l' i=some v->lk l i=some v):Ag N l' a :=
  ⟨h.defers,h.size,λi v hi=>h.slot i v (hs i v hi)⟩
variable{b:Nat}
theorem L7{a:Nat}(h:Nat.blt a b=true):a<b:=by simpa [Nat.blt,Nat.lt_iff_add_one_le] using h
inductive Keep(l:Env):Env->Prop
  | nil:Keep l []
  | cons {k:Nat} {v:Value} {l':Env} (h:lk l k=some v) (r:Keep l l'):Keep l ((k,v)::l')
theorem kn:Keep l []:=.nil
variable{v:Value}
theorem kp(k:Nat)(h:lk l k=some v)(r:Keep l l'):Keep l ((k,v)::l'):=.cons h r
theorem Keep.lk{l l':Env}(h:Keep l l'):∀i v,Px.lk l' i=some v->Px.lk l i=some v:=by
  induction h with
  | nil=>intro i v hi;cases hi
  | cons h r ih =>
    rename_i k u l';intro i v hi;simp only [Px.lk] at hi;by_cases e:k=i
    . subst e;simp at hi;subst hi;exact h
    . simp only [A0p e,cond_false] at hi;exact ih i v hi
structure Cx where
  P:Program
  w:World
  F:List Nat
  A:Mem
  N:Nat
structure St(C:Cx)(M J:Mem)(w:World):Prop where
  os:w.os=C.w.os
  tape:w.tape=C.w.tape
  output:w.output=C.w.output
  size:C.w.heap.size<=w.heap.size
  frame:∀k,k<C.w.heap.size->k∉C.F->w.heap[k]? = C.w.heap[k]?
  mem:∀b o,(b,o)∈M++(J++C.A)->w.heap[b]? = some o
  nodup:(M.map Prod.fst).Nodup
  own:∀b o,(b,o)∈M++J->b∈C.F∨C.w.heap.size<=b
  sepJ:∀b o,(b,o)∈J->b∉M.map Prod.fst
  sepA:∀b o,(b,o)∈C.A->b∉C.F∧b<C.w.heap.size
  old:∀k∈C.F,k<C.w.heap.size
def Fx(R:Mem)(w:World):Prop:=∀b o,(b,o)∈R->w.heap[b]? = some o
variable{C:Cx}{M J:Mem}{w:World}
theorem St.fx(h:St C M J w):Fx (M++(J++C.A)) w:=h.mem
theorem St.drew(h:St C M J w):St C M J { w with drawn:=w.drawn+1 } :=
  ⟨h.os,h.tape,h.output,h.size,h.frame,h.mem,h.nodup,h.own,h.sepJ,h.sepA,h.old⟩
theorem T4{o:Obj}(h:w.heap[b]? = some o):b<w.heap.size:=(Array.getElem?_eq_some_iff.1 h).1
theorem St.lt(h:St C M J w){o:Obj}(hb:(b,o)∈M++(J++C.A)):b<w.heap.size:=T4 (h.mem b o hb)
abbrev XQ:=Exit->Env->Mem->Mem->Prop
def A8n(C:Cx)(Q:XQ):Exit->Act->World->Prop :=
  λe a w=>∃l M J,Ag C.N l a∧St C M J w∧Q e l M J
def XC(C:Cx)(c:Code)(Q:XQ)(l:Env)(M J:Mem):Prop :=
  ∀a w,Ag C.N l a->St C M J w->c.wp C.P (A8n C Q) a w
def XL(C:Cx)(ops:Array Oper)(rest:List Oper)(Q:XQ)(l:Env)(M J:Mem):Prop :=
  ∀a w,Ag C.N l a->St C M J w->wpList C.P ops (A8n C Q) rest a w
variable{c1 c2 y:Code}{id:Nat}{M' J':Mem}{α:Type}{os:List Oper}{ops:Array Oper}
section control
variable{C:Cx}{Q:XQ}{l:Env}{M J:Mem}
def A3U(C:Cx)(c:Code)(Q:XQ):XQ
  | .normal,l,M,J=>XC C c Q l M J
  | e,l,M,J=>Q e l M J
theorem A3(h:XC C c1 (A3U C c2 Q) l M J):XC C (.seq c1 c2) Q l M J:=by intro a w ha hw;refine wp_seq (Code.wp_mono ?_ (h a w ha hw));rintro e a' w' ⟨l',M',J',ha',hw',hq⟩;cases e<;>first|exact hq a' w' ha' hw'|exact ⟨l',M',J',ha',hw',hq⟩
theorem A9(h:Q .ret l M J):XC C .ret Q l M J:=λa w ha hw=>wp_ret ⟨l,M,J,ha,hw,h⟩
theorem A4(h:Q .normal l M J):XC C .skip Q l M J:=λa w ha hw=>wp_skip ⟨l,M,J,ha,hw,h⟩
theorem D6(h:Q (.exit id) l M J):XC C (.exit id) Q l M J:=λa w ha hw=>wp_exit ⟨l,M,J,ha,hw,h⟩
theorem C2{c:Operand}{x:Code}{t:Bool}(hc:ev l c=some (.bool t))(ht:t=true->XC C x Q l M J)(hf:t=false->XC C y Q l M J) :
    XC C (.cond c x y) Q l M J:=λa w ha hw =>
  wp_cond_split (ha.ev hc) (λh=>ht h a w ha hw) (λh=>hf h a w ha hw)
theorem E2{c:Operand}{x:Code}(hc:ev l c=some (.bool true))(ht:XC C x Q l M J):XC C (.cond c x y) Q l M J :=
  C2 hc (λ_=>ht) (λh=>by cases h)
theorem C7{c:Operand}{x:Code}(hc:ev l c=some (.bool false))(hf:XC C y Q l M J):XC C (.cond c x y) Q l M J :=
  C2 hc (λh=>by cases h) (λ_=>hf)
def A5v(id:Nat)(Q:XQ):XQ
  | .exit id',l,M,J=>bif Nat.beq id' id then Q .normal l M J else Q (.exit id') l M J
  | e,l,M,J=>Q e l M J
theorem A6{c:Code}(h:XC C c (A5v id Q) l M J):XC C (.block id c) Q l M J:=by
  intro a w ha hw;refine wp_block (Code.wp_mono ?_ (h a w ha hw));rintro e a' w' ⟨l',M',J',ha',hw',hq⟩;cases e<;>try exact ⟨l',M',J',ha',hw',hq⟩
  rename_i id';simp only [A5v] at hq;simp only [Exit.inBlock];by_cases e:id'=id
  . subst e;rw [show Nat.beq id' id'=true from by simp] at hq;simp only [if_true];exact ⟨l',M',J',ha',hw',hq⟩
  . rw [A0p e] at hq;rw [if_neg e];exact ⟨l',M',J',ha',hw',hq⟩
def Fit(M M':Mem):Prop:=∃M1,M.Perm M1∧M'.Sublist M1
theorem Fit.rfl{M:Mem}:Fit M M:=⟨M,.refl _,List.Sublist.refl _⟩
theorem Fit.perm{M:Mem}(h:M.Perm M'):Fit M M':=⟨M',h,List.Sublist.refl _⟩
theorem Fit.sub{M:Mem}(h:M'.Sublist M):Fit M M':=⟨M,.refl _,h⟩
def A9m(L:α->Env)(MM JJ:α->Mem)(p:α->Prop)(μ:α->Nat)(x:α)(Q:XQ):XQ
  | .normal,l,M,J=>∃y,p y∧μ y<μ x∧Keep l (L y)∧Fit M (MM y)∧∀q,q∈JJ y->q∈J
  | e,l,M,J=>Q e l M J
def B9E(L:α->Env)(MM JJ:α->Mem)(p:α->Prop)(Q:XQ):XQ
  | .normal,l,M,J=>∃y,p y∧Keep l (L y)∧Fit M (MM y)∧∀q,q∈JJ y->q∈J
  | e,l,M,J=>Q e l M J
theorem St.fit{M J:Mem}(h:St C M J w)(hM:Fit M M')(hJ:∀q,q∈J'->q∈J):St C M' J' w:=by
  obtain ⟨M1,h1,h2⟩:=hM;have hk:=h1.map Prod.fst;have hmem:∀x,x∈M'->x∈M:=λx hx=>h1.mem_iff.2 (h2.subset hx);refine ⟨h.os,h.tape,h.output,h.size,h.frame,?_,(h2.map Prod.fst).nodup (hk.nodup_iff.1 h.nodup),?_,?_,h.sepA,h.old⟩
  . intro c oc hc;refine h.mem c oc ?_;simp only [List.mem_append] at hc ⊢;rcases hc with hc|hc|hc
    . exact .inl (hmem _ hc)
    . exact .inr (.inl (hJ _ hc))
    . exact .inr (.inr hc)
  . intro c oc hc;refine h.own c oc ?_;simp only [List.mem_append] at hc ⊢;rcases hc with hc|hc
    . exact .inl (hmem _ hc)
    . exact .inr (hJ _ hc)
  . intro c oc hc hm;exact h.sepJ c oc (hJ _ hc) (hk.mem_iff.2 ((h2.map Prod.fst).subset hm))
theorem A0X{c:Code}(hM:Fit M M')(hJ:∀q,q∈J'->q∈J)(h:XC C c Q l M' J'):XC C c Q l M J:=λa w ha hw=>h a w ha (hw.fit hM hJ)
theorem E0{c:Code}(L:α->Env)(MM JJ:α->Mem)(p:α->Prop)(μ:α->Nat)(x0:α)(h0:p x0)(hl:Keep l (L x0))(hM:Fit M (MM x0))(hJ:∀q,q∈JJ x0->q∈J)
    (round:∀x,p x->XC C c (A9m L MM JJ p μ x Q) (L x) (MM x) (JJ x)):XC C (.loop c) Q l M J:=by
  intro a w ha hw;refine wp_loop_ghost (λn a w=>∃x,μ x=n∧p x∧Ag C.N (L x) a∧St C (MM x) (JJ x) w) (μ x0) ⟨x0,E,h0,ha.sub hl.lk,hw.fit hM hJ⟩ ?_;rintro n a w ⟨x,rfl,hp,ha,hw⟩;refine Code.wp_mono ?_ (round x hp a w ha hw);rintro e a' w' ⟨l',M',J',ha',hw',hq⟩
  cases e with
  | normal =>
    obtain ⟨y,hy,hlt,hk,h1,h2⟩:=hq;exact ⟨μ y,hlt,y,E,hy,ha'.sub hk.lk,hw'.fit h1 h2⟩
  | _=>exact ⟨l',M',J',ha',hw',hq⟩
theorem P3(L:α->Env)(MM JJ:α->Mem)(p:α->Prop)(h1:XC C c1 (B9E L MM JJ p Q) l M J)(h2:∀x,p x->XC C c2 Q (L x) (MM x) (JJ x)):XC C (.seq c1 c2) Q l M J:=by
  intro a w ha hw;refine wp_seq (Code.wp_mono ?_ (h1 a w ha hw));rintro e a' w' ⟨l',M',J',ha',hw',hq⟩
  cases e with
  | normal =>
    obtain ⟨y,hy,hk,g1,g2⟩:=hq;exact h2 y hy a' w' (ha'.sub hk.lk) (hw'.fit g1 g2)
  | _=>exact ⟨l',M',J',ha',hw',hq⟩
theorem A8{c:Code}(hk:Keep l l')(h:XC C c Q l' M J):XC C c Q l M J:=λa w ha hw=>h a w (ha.sub hk.lk) hw
theorem A1(h:XL C os.toArray os (A3U C c2 Q) l M J):XC C (.seq (.region id os.toArray false) c2) Q l M J :=
  A3 λa w ha hw=>wp_region_lit (h a w ha hw)
theorem C1(h:XL C os.toArray os Q l M J):XC C (.region id os.toArray false) Q l M J :=
  λa w ha hw=>wp_region_lit (h a w ha hw)
theorem C5(h:Q .normal l M J):XL C ops [] Q l M J:=λa w ha hw=>⟨l,M,J,ha,hw,h⟩
theorem A0{c:Code}(hk:Keep l l')(h:XC C c Q l' M J):XL C ops [] (A3U C c Q) l M J:=C5 (A8 hk h)
end control
def OpQ(P:Program)(R:Mem)(o:Oper)(l:Env)(v:Value):Prop :=
  ∀N a w,Ag N l a->Fx R w->(execOp a.eval o).run P w=.ok (.value v) w
def OpL(C:Cx)(o:Oper)(l:Env)(M J:Mem)(K:Env->Mem->Mem->Prop):Prop :=
  ∀Qp a w,Ag C.N l a->St C M J w->o.wp C.P a w (λa' w'=>∃l' M' J',Ag C.N l' a'∧St C M' J' w'∧K l' M' J') Qp
variable{d:Nat}{op:Op}{ty:TypeId}{pos:String}{af:Array Edge}{g:Option (Nat×Bool)}{K:Env->Mem->Mem->Prop}{b':Bool}
section ops
variable{C:Cx}{Q:XQ}{l:Env}{M J:Mem}{ops:Array Oper}{rest:List Oper}
theorem OpQ.opL
    (h:OpQ C.P (M++(J++C.A)) ⟨some d,op,ty,pos,af,g⟩ l v) (hd:Nat.blt d C.N=true) (k:K ((d,v)::l) M J):OpL C ⟨some d,op,ty,pos,af,g⟩ l M J K:=by
  intro Qp a w ha hw;unfold Oper.wp;rw [h C.N a w ha hw.fx];exact ⟨_,M,J,ha.put (L7 hd) v,hw,k⟩
theorem A2{o:Oper}(hg:o.guard=none)(h:OpL C o l M J (λl' M' J'=>XL C ops rest Q l' M' J')):XL C ops (o::rest) Q l M J:=by intro a w ha hw;refine wpList_plain hg λK hK=>?_;refine Oper.wp_mono ?_ (h _ a w ha hw);rintro a' w' ⟨l',M',J',ha',hw',hk⟩;exact hK a' w' (hk a' w' ha' hw')
theorem C2o
    (h:OpQ C.P (M++(J++C.A)) ⟨some d,op,ty,pos,af,none⟩ l v) (hd:Nat.blt d C.N=true) (k:XL C ops rest Q ((d,v)::l) M J) :
    XL C ops (⟨some d,op,ty,pos,af,none⟩::rest) Q l M J:=A2 E (h.opL hd k)
theorem G1{d:Option Nat}{t:Nat}{b:Bool}
    (ht:(ops[j]?).bind (·.dst)=some t) (hl:lk l t=some (.bool b)) (h:OpL C ⟨d,op,ty,pos,af,some (j,b)⟩ l M J (λl' M' J'=>XL C ops rest Q l' M' J')) :
    XL C ops (⟨d,op,ty,pos,af,some (j,b)⟩::rest) Q l M J:=by
  intro a w ha hw;refine wpList_step λK hK=>?_;have hs:=ha.slot _ _ hl
  have hw':Region.wanted ⟨d,op,ty,pos,af,some (j,b)⟩ (yielded ops a.tmps)=true:=by simp only [Region.wanted,yielded,ht,Option.bind_some,hs];simp
  rw [if_pos hw'];refine Oper.wp_mono ?_ (h _ a w ha hw);rintro a' w' ⟨l',M',J',ha',hw',hk⟩;exact hK a' w' (hk a' w' ha' hw')
theorem K0{t:Nat}{b:Bool}
    (ht:(ops[j]?).bind (·.dst)=some t) (hl:lk l t=some (.bool b')) (hb:(b'==b)=false) (hd:Nat.blt d C.N=true) (h:XL C ops rest Q ((d,undef)::l) M J) :
    XL C ops (⟨some d,op,ty,pos,af,some (j,b)⟩::rest) Q l M J:=by
  intro a w ha hw;refine wpList_step λK hK=>?_;have hs:=ha.slot _ _ hl
  have hw':Region.wanted ⟨some d,op,ty,pos,af,some (j,b)⟩ (yielded ops a.tmps)=false:=by simp only [Region.wanted,yielded,ht,Option.bind_some,hs];cases b<;>cases b'<;>simp_all
  rw [if_neg (by simp [hw'])];exact hK _ _ (h _ w (ha.put (L7 hd) undef) hw)
theorem B6a{t:Nat}{b:Bool}
    (ht:(ops[j]?).bind (·.dst)=some t) (hl:lk l t=some undef) (hd:Nat.blt d C.N=true) (h:XL C ops rest Q ((d,undef)::l) M J) :
    XL C ops (⟨some d,op,ty,pos,af,some (j,b)⟩::rest) Q l M J:=by
  intro a w ha hw;refine wpList_step λK hK=>?_;have hs:=ha.slot _ _ hl
  have hw':Region.wanted ⟨some d,op,ty,pos,af,some (j,b)⟩ (yielded ops a.tmps)=false:=by simp only [Region.wanted,yielded,ht,Option.bind_some,hs];simp [undef]
  rw [if_neg (by simp [hw'])];exact hK _ _ (h _ w (ha.put (L7 hd) undef) hw)
end ops
variable{a:Int}{o c off n:Nat}{t t' e s:TypeId}{p:Option Addr}{k k':IntKind}{ts:Array TypeId}
section quiet
variable{P:Program}{R:Mem}{l:Env}{d:Option Nat}{ty:TypeId}{pos:String}{af:Array Edge}{g:Option (Nat×Bool)}{x y:Operand}
theorem A9n(h:ev l x=some v):OpQ P R ⟨d,.move x,ty,pos,af,g⟩ l v:=λN a w ha hw=>by simp [execOp,ha.ev h]
theorem G2(h:ev l x=some v):OpQ P R ⟨d,.assign x,ty,pos,af,g⟩ l v:=λN a w ha hw=>by simp [execOp,ha.ev h]
theorem H6{c:Operand}(hc:ev l c=some (.bool true))(h:ev l x=some v):OpQ P R ⟨d,.pick c x y,ty,pos,af,g⟩ l v:=λN a w ha hw=>by simp [execOp,ha.ev h,ha.ev hc,asBool]
theorem E8{c:Operand}(hc:ev l c=some (.bool false))(h:ev l y=some v):OpQ P R ⟨d,.pick c x y,ty,pos,af,g⟩ l v:=λN a w ha hw=>by simp [execOp,ha.ev h,ha.ev hc,asBool]
theorem F4{p:Addr}(h:ev l x=some (.pointer (some p))):OpQ P R ⟨d,.nilCheck x,ty,pos,af,g⟩ l (.pointer (some p)):=λN a w ha hw=>by simp [execOp,ha.ev h]
def H8(op:BinOp)(k:IntKind)(a b:Int):Option Value :=
  match op with
  | .add=>some (.int k (k.wrap (a+b)))
  | .sub=>some (.int k (k.wrap (a-b)))
  | .mul=>some (.int k (k.wrap (a*b)))
  | .and=>some (.int k (k.wrap (BitVec.ofInt k.bits a &&& BitVec.ofInt k.bits b).toNat))
  | .or=>some (.int k (k.wrap (BitVec.ofInt k.bits a ||| BitVec.ofInt k.bits b).toNat))
  | .xor=>some (.int k (k.wrap (BitVec.ofInt k.bits a ^^^ BitVec.ofInt k.bits b).toNat))
  | .andNot=>some (.int k (k.wrap (BitVec.ofInt k.bits a &&& ~~~(BitVec.ofInt k.bits b)).toNat))
  | .eql=>some (.bool (a==b))
  | .neq=>some (.bool (a != b))
  | .lss=>some (.bool (decide (a<b)))
  | .leq=>some (.bool (decide (a<=b)))
  | .gtr=>some (.bool (decide (a > b)))
  | .geq=>some (.bool (decide (a >= b)))
  | _=>none
theorem A0q(op:BinOp)(t:TypeId)(x y:Operand)(k k':IntKind)(a b:Int)(w:World):(eqGuard op t x y (.int k a) (.int k' b)).run P w=.ok () w:=by cases op<;>simp [eqGuard]
theorem E3{op:BinOp}{b:Int}(hx:ev l x=some (.int k a))(hy:ev l y=some (.int k b))(hv:H8 op k a b=some v) :
    OpQ P R ⟨d,.binOp op t x y t',ty,pos,af,g⟩ l v:=λN A w ha hw=>by
  simp only [execOp,ha.ev hx,ha.ev hy,Sem.run_bind,A0q,Result.andThen_ok]
  cases op<;>simp only [H8,Option.some.injEq,reduceCtorEq] at hv<;>subst hv <;>
    simp [binOp,Op.intArith,Op.intBits,Op.intCmp]
theorem C2p{b:Int}(hx:ev l x=some (.int k a))(hy:ev l y=some (.int k b))(hb:b≠0) :
    OpQ P R ⟨d,.binOp .quo t x y t',ty,pos,af,g⟩ l (.int k (k.wrap (a.tdiv b))):=λN A w ha hw=>by
  simp only [execOp,ha.ev hx,ha.ev hy,Sem.run_bind,A0q,Result.andThen_ok];simp [binOp,Op.intDiv,hb]
theorem C4T{b:Int}(hx:ev l x=some (.int k a))(hy:ev l y=some (.int k b))(hb:b≠0) :
    OpQ P R ⟨d,.binOp .rem t x y t',ty,pos,af,g⟩ l (.int k (a.tmod b)):=λN A w ha hw=>by
  simp only [execOp,ha.ev hx,ha.ev hy,Sem.run_bind,A0q,Result.andThen_ok];simp [binOp,Op.intDiv,hb]
theorem C4U{b:Int}(hx:ev l x=some (.int k a))(hy:ev l y=some (.int k' b))(hb:0<=b) :
    OpQ P R ⟨d,.binOp .shl t x y t',ty,pos,af,g⟩ l (.int k (k.wrap (a*2^(min b.toNat k.bits)))):=λN A w ha hw=>by
  simp only [execOp,ha.ev hx,ha.ev hy,Sem.run_bind,A0q,Result.andThen_ok];have:¬b<0:=by omega
  simp [binOp,Op.shift,this]
theorem C2q{b:Int}(hx:ev l x=some (.int k a))(hy:ev l y=some (.int k' b))(hb:0<=b) :
    OpQ P R ⟨d,.binOp .shr t x y t',ty,pos,af,g⟩ l (.int k (a.fdiv (2^(min b.toNat k.bits)))):=λN A w ha hw=>by
  simp only [execOp,ha.ev hx,ha.ev hy,Sem.run_bind,A0q,Result.andThen_ok];have:¬b<0:=by omega
  simp [binOp,Op.shift,this]
theorem V7{b:Bool}(hx:ev l x=some (.bool b)):OpQ P R ⟨d,.unOp .not t x,ty,pos,af,g⟩ l (.bool !b):=λN A w ha hw=>by simp [execOp,ha.ev hx,Op.unary]
theorem C4V(hx:ev l x=some (.int k a)):OpQ P R ⟨d,.unOp .neg t x,ty,pos,af,g⟩ l (.int k (k.wrap (0-a))):=λN A w ha hw=>by simp [execOp,ha.ev hx,Op.unary,Op.intArith]
theorem C4W(hx:ev l x=some (.int k a)) :
    OpQ P R ⟨d,.unOp .xor t x,ty,pos,af,g⟩ l (.int k (k.wrap (BitVec.ofInt k.bits (if k.signed then -1 else k.max) ^^^ BitVec.ofInt k.bits a).toNat)):=λN A w ha hw=>by
  simp [execOp,ha.ev hx,Op.unary,Op.intBits]
theorem B1F{a b:ByteArray}(hx:ev l x=some (.string a))(hy:ev l y=some (.string b)) :
    OpQ P R ⟨d,.binOp .eql t x y t',ty,pos,af,g⟩ l (.bool (a.toList==b.toList)):=λN A w ha hw=>by
  simp [execOp,ha.ev hx,ha.ev hy,eqGuard,binOp,Op.stringOp]
theorem B9F{a b:ByteArray}(hx:ev l x=some (.string a))(hy:ev l y=some (.string b)) :
    OpQ P R ⟨d,.binOp .neq t x y t',ty,pos,af,g⟩ l (.bool !(a.toList==b.toList)):=λN A w ha hw=>by
  simp [execOp,ha.ev hx,ha.ev hy,eqGuard,binOp,Op.stringOp]
theorem B6b{a b:ByteArray}(hx:ev l x=some (.string a))(hy:ev l y=some (.string b))(hs:a.size+b.size<=9223372036854775807) :
    OpQ P R ⟨d,.binOp .add t x y t',ty,pos,af,g⟩ l (.string (a++b)):=λN A w ha hw=>by
  have:(a.size:Int)+b.size<=9223372036854775807:=by omega
  simp only [execOp,ha.ev hx,ha.ev hy,Sem.run_bind];simp [eqGuard,binOp,Op.stringOp,this]
theorem A0Y(t e:TypeId)(p:Option Addr)(w:World)(h:P.underlying t=some (.pointer e)):(Op.equal t (.pointer p) (.pointer none)).run P w=.ok p.isNone w:=by show (Op.equalIn (9999+1) t (.pointer p) (.pointer none)).run P w=.ok p.isNone w;rw [Op.equalIn];cases p<;>simp [run_underlying h]
theorem A7l(op:BinOp)(t:TypeId)(x y:Operand)(a b:Bool)(w:World):(eqGuard op t x y (.bool a) (.bool b)).run P w=.ok () w:=by cases op<;>simp [eqGuard]
theorem A4h(op:BinOp)(t:TypeId)(x y:Operand)(a b:Option Addr)(w:World):(eqGuard op t x y (.pointer a) (.pointer b)).run P w=.ok () w:=by cases op<;>simp [eqGuard]
theorem A57{a b:Bool}(hx:ev l x=some (.bool a))(hy:ev l y=some (.bool b))(hu:P.underlying t=some .bool) :
    OpQ P R ⟨d,.binOp .neq t x y t',ty,pos,af,g⟩ l (.bool !(a==b)):=λN A w ha hw=>by
  simp only [execOp,ha.ev hx,ha.ev hy,Sem.run_bind,A7l,Result.andThen_ok,binOp,run_equal_bool w t a b hu,Sem.run_pure]
theorem B1G{a b:Bool}(r:Bool)(hx:ev l x=some (.bool a))(hy:ev l y=some (.bool b))(hu:P.underlying t=some .bool)(h:(!(a==b))=r) :
    OpQ P R ⟨d,.binOp .neq t x y t',ty,pos,af,g⟩ l (.bool r):=h▸A57 hx hy hu
theorem F0(hx:ev l x=some (.pointer p))(hy:ev l y=some (.pointer none))(hu:P.underlying t=some (.pointer e)) :
    OpQ P R ⟨d,.binOp .eql t x y t',ty,pos,af,g⟩ l (.bool p.isNone):=λN A w ha hw=>by
  simp only [execOp,ha.ev hx,ha.ev hy,Sem.run_bind,A4h,Result.andThen_ok,binOp,A0Y t e p w hu,Sem.run_pure]
theorem B0z(hx:ev l x=some (.pointer p))(hy:ev l y=some (.pointer none))(hu:P.underlying t=some (.pointer e)) :
    OpQ P R ⟨d,.binOp .neq t x y t',ty,pos,af,g⟩ l (.bool !p.isNone):=λN A w ha hw=>by
  simp only [execOp,ha.ev hx,ha.ev hy,Sem.run_bind,A4h,Result.andThen_ok,binOp,A0Y t e p w hu,Sem.run_pure]
def A58(P:Program)(s t:TypeId):Option IntKind :=
  match P.underlying s,P.underlying t with
  | some _,some (.int k)=>some k
  | _,_=>none
theorem B8s(hx:ev l x=some (.int k a))(hc:A58 P s t=some k') :
    OpQ P R ⟨d,.convert s t x,ty,pos,af,g⟩ l (.int k' (k'.wrap a)):=λN A w ha hw=>by
  unfold A58 at hc;split at hc
  . rename_i e1 e2;simp only [Option.some.injEq] at hc;subst hc;simp only [execOp,ha.ev hx,convert,Sem.run_bind,run_underlying e1,run_underlying e2,Result.andThen_ok];simp [Conv.intToInt]
  . cases hc
def A2y(P:Program)(s:TypeId)(f:Nat):Option Nat :=
  match P.underlying s with
  | some (.struct fs)=>match fs[f]? with
    | some fd=>match P.info? fd.type with
      | some i=>if i.size=0 then none else some fd.offset
      | none=>none
    | none=>none
  | _=>none
theorem A8t{f:Nat}(hx:ev l x=some (.pointer (some ⟨b,o,none⟩)))(hf:A2y P s f=some off) :
    OpQ P R ⟨d,.fieldAddr s x f,ty,pos,af,g⟩ l (.pointer (some ⟨b,o+off,none⟩)):=λN A w ha hw=>by
  unfold A2y at hf;split at hf<;>try cases hf
  rename_i fs hu;split at hf<;>try cases hf
  rename_i fd hfd;split at hf<;>try cases hf
  rename_i i hi;split at hf<;>simp only [Option.some.injEq,reduceCtorEq] at hf;rename_i hz;subst hf;simp only [execOp,ha.ev hx,Instr.fieldAt,Sem.run_bind,run_underlying hu,Result.andThen_ok,hfd,Instr.sureAddr,Sem.run_pure];simp [fieldPlace,sizeOf,typeInfo,hi,hz,Addr.add_mid]
theorem A3x(off':Nat){f:Nat}(hx:ev l x=some (.pointer (some ⟨b,o,none⟩)))(hf:A2y P s f=some off)(h:o+off=off') :
    OpQ P R ⟨d,.fieldAddr s x f,ty,pos,af,g⟩ l (.pointer (some ⟨b,off',none⟩)):=h▸A8t hx hf
theorem A0r(hx:ev l x=some (.slice p n c))(hu:P.underlying t=some (.slice e)) :
    OpQ P R ⟨d,.call { callee:=.builtin .len,args:=#[x],argTypes:=#[t] },ty,pos,af,g⟩ l (.int .i64 n):=λN A w ha hw=>by
  simp [execOp,resolve,invoke,builtin,Builtin.len_,ha.ev hx,run_underlying hu,goInt]
theorem B6c{s:ByteArray}(hx:ev l x=some (.string s))(hu:P.underlying t=some .string) :
    OpQ P R ⟨d,.call { callee:=.builtin .len,args:=#[x],argTypes:=#[t] },ty,pos,af,g⟩ l (.int .i64 s.size):=λN A w ha hw=>by
  simp [execOp,resolve,invoke,builtin,Builtin.len_,ha.ev hx,run_underlying hu,goInt]
theorem C4X{b:Int}(hx:ev l x=some (.int k a))(hy:ev l y=some (.int k b)) :
    OpQ P R ⟨d,.call { callee:=.builtin .max,args:=#[x,y],argTypes:=ts },ty,pos,af,g⟩ l (.int k (if b > a then b else a)):=λN A w ha hw=>by
  simp [execOp,resolve,invoke,builtin,Builtin.max_,Builtin.max2,ha.ev hx,ha.ev hy]
theorem C2r{b:Int}(hx:ev l x=some (.int k a))(hy:ev l y=some (.int k b)) :
    OpQ P R ⟨d,.call { callee:=.builtin .min,args:=#[x,y],argTypes:=ts },ty,pos,af,g⟩ l (.int k (if b<a then b else a)):=λN A w ha hw=>by
  simp [execOp,resolve,invoke,builtin,Builtin.min_,Builtin.min2,ha.ev hx,ha.ev hy]
theorem I3{vs:Array Value}(hx:ev l x=some (.tuple vs))(hi:vs[i]? = some v) :
    OpQ P R ⟨d,.extract x i,ty,pos,af,g⟩ l v:=λN A w ha hw=>by
  simp [execOp,Instr.extract,ha.ev hx,hi]
end quiet
abbrev blk(cs:List Value)(e:TypeId):Obj:=.cells cs.toArray e (0,0)
theorem A7m(w:World)(o:Obj)(i:Nat)(h:i<w.heap.size):(w.alloc o).heap[i]? = w.heap[i]?:=by show (w.heap.push o)[i]? = w.heap[i]?;rw [Array.getElem?_push,if_neg (Nat.ne_of_lt h)]
variable{o':Obj}{w':World}
section mem
variable{C:Cx}{M J:Mem}{w:World}
theorem St.alloc(h:St C M J w)(o:Obj):St C ((w.heap.size,o)::M) J (w.alloc o) where
  os:=h.os
  tape:=h.tape
  output:=h.output
  size:=Az h.size (by simp)
  frame:=λk hk hF=>by rw [A7m w o k (Bp hk h.size)];exact h.frame k hk hF
  mem:=by
    intro b o' hb;rcases List.mem_cons.1 hb with e|hb
    . cases e;exact heap_alloc_new w o
    . rw [A7m w o b (h.lt hb)];exact h.mem b o' hb
  nodup:=by simp only [List.map_cons,List.nodup_cons];refine ⟨λhm=>?_,h.nodup⟩;obtain ⟨x,hx,e⟩:=List.mem_map.1 hm;have:=h.lt (b:=x.1) (o:=x.2) (Ae _ hx);omega
  own:=by
    intro b o' hb;rcases List.mem_cons.1 hb with e|hb
    . cases e;exact .inr h.size
    . exact h.own b o' hb
  sepJ:=by
    intro b o' hb hm;simp only [List.map_cons,Cz] at hm;rcases hm with e|hm
    . have:=h.lt (Ai M (Ae C.A hb));omega
    . exact h.sepJ b o' hb hm
  sepA:=h.sepA
  old:=h.old
inductive Upd:Mem->Nat->Obj->Obj->Mem->Prop
  | hd {b:Nat} {o o':Obj} {r:Mem}:Upd ((b,o)::r) b o o' ((b,o')::r)
  | tl {b:Nat} {o o':Obj} {x:Nat×Obj} {r r':Mem} (h:Upd r b o o' r'):Upd (x::r) b o o' (x::r')
theorem Upd.mem{M:Mem}{o:Obj}(h:Upd M b o o' M'):(b,o)∈M:=by
  induction h with
  | hd=>simp
  | tl _ ih=>exact Bb _ ih
theorem Upd.keys{M:Mem}{o:Obj}(h:Upd M b o o' M'):M'.map Prod.fst=M.map Prod.fst:=by
  induction h with
  | hd=>rfl
  | tl _ ih=>simp [ih]
theorem Upd.new{M:Mem}{o:Obj}(h:Upd M b o o' M')(hn:(M.map Prod.fst).Nodup):∀x,x∈M'->x=(b,o')∨(x∈M∧x.1≠b):=by
  induction h with
  | hd =>
    intro x hx;rcases List.mem_cons.1 hx with e|hx
    . exact .inl e
    . refine .inr ⟨Bb _ hx,λe=>?_⟩;simp only [List.map_cons,List.nodup_cons] at hn;exact hn.1 (e▸Al hx)
  | tl h ih =>
    rename_i b o o' y r r';intro x hx;simp only [List.map_cons,List.nodup_cons] at hn;rcases List.mem_cons.1 hx with e|hx
    . subst e;refine .inr ⟨Ax,λe=>hn.1 ?_⟩;rw [e];exact Al (f:=Prod.fst) h.mem
    . rcases ih hn.2 x hx with h1|⟨h1,h2⟩
      . exact .inl h1
      . exact .inr ⟨Bb _ h1,h2⟩
theorem St.upd(h:St C M J w){o:Obj}(hu:Upd M b o o' M')(h1:w'.heap[b]? = some o')(h2:∀k,k≠b->w'.heap[k]? = w.heap[k]?)
    (hsz:w'.heap.size=w.heap.size) (hos:w'.os=w.os) (htp:w'.tape=w.tape) (hout:w'.output=w.output):St C M' J w':=by
  have hbM:b∈M.map Prod.fst:=Al (f:=Prod.fst) hu.mem;have hb:=h.own b o (Ae _ hu.mem)
  have hnJA:∀c oc,(c,oc)∈J++C.A->c≠b:=by
    intro c oc hc e;subst e;rcases List.mem_append.1 hc with hc|hc
    . exact h.sepJ _ _ hc hbM
    . have:=h.sepA _ _ hc;rcases hb with hb|hb
      . exact this.1 hb
      . omega
  have hmk:∀c oc,(c,oc)∈M'->c∈M.map Prod.fst:=λc oc hc=>by rw [<- hu.keys];exact Al (f:=Prod.fst) hc
  refine ⟨hos.trans h.os,htp.trans h.tape,hout.trans h.output,by rw [hsz];exact h.size,?_,?_,by rw [hu.keys];exact h.nodup,?_,by rw [hu.keys];exact h.sepJ,h.sepA,h.old⟩
  . intro k hk hF
    have:k≠b:=by
      intro e;subst e;rcases hb with hb|hb
      . exact hF hb
      . omega
    rw [h2 k this];exact h.frame k hk hF
  . intro c oc hc;rcases List.mem_append.1 hc with hc|hc
    . rcases hu.new h.nodup (c,oc) hc with e|⟨hm,hne⟩
      . cases e;exact h1
      . rw [h2 c hne];exact h.mem c oc (Ae _ hm)
    . rw [h2 c (hnJA c oc hc)];exact h.mem c oc (Ai _ hc)
  . intro c oc hc;rcases List.mem_append.1 hc with hc|hc
    . obtain ⟨x,hx,e⟩:=List.mem_map.1 (hmk c oc hc);obtain ⟨x1,x2⟩:=x;simp only at e;subst e;exact h.own x1 x2 (Ae _ hx)
    . exact h.own c oc (Ai _ hc)
theorem St.setRow(h:St C M J w){M':Mem}{b:Nat}{cur cs:Array Value}{e:TypeId}{fr:Nat×Nat}(hu:Upd M b (.cells cur e fr) (.cells cs e fr) M'):St C M' J (w.setRow b cs):=by have hb:=h.mem _ _ (Ae _ hu.mem);exact h.upd hu (setRow_heap w b cur cs e fr hb) (λk hk=>setRow_other w b k cs hk) (by simp) E E rfl
theorem St.freeze{x:Nat×Obj}(h:St C (x::M) J w):St C M (x::J) w:=by
  obtain ⟨b,o⟩:=x;have hn:=h.nodup;simp only [List.map_cons,List.nodup_cons] at hn;refine ⟨h.os,h.tape,h.output,h.size,h.frame,?_,hn.2,?_,?_,h.sepA,h.old⟩
  . intro c oc hc;refine h.mem c oc ?_;simp only [List.mem_append,Cz,Cy] at hc ⊢;rcases hc with hc|hc|hc|hc
    . exact .inr (.inl hc)
    . exact .inl hc
    . exact .inr (.inr (.inl hc))
    . exact .inr (.inr (.inr hc))
  . intro c oc hc;refine h.own c oc ?_;simp only [List.mem_append,Cz,Cy] at hc ⊢;rcases hc with hc|hc|hc
    . exact .inr (.inl hc)
    . exact .inl hc
    . exact .inr (.inr hc)
  . intro c oc hc hm;rcases List.mem_cons.1 hc with e|hc
    . cases e;exact hn.1 hm
    . exact h.sepJ c oc hc (Bb _ hm)
theorem St.drop(h:St C M J w)(hM:M'.Sublist M)(hJ:∀x,x∈J'->x∈J):St C M' J' w:=by
  refine ⟨h.os,h.tape,h.output,h.size,h.frame,?_,(hM.map Prod.fst).nodup h.nodup,?_,?_,h.sepA,h.old⟩
  . intro c oc hc;refine h.mem c oc ?_;simp only [List.mem_append] at hc ⊢;rcases hc with hc|hc|hc
    . exact .inl (hM.subset hc)
    . exact .inr (.inl (hJ _ hc))
    . exact .inr (.inr hc)
  . intro c oc hc;refine h.own c oc ?_;simp only [List.mem_append] at hc ⊢;rcases hc with hc|hc
    . exact .inl (hM.subset hc)
    . exact .inr (hJ _ hc)
  . intro c oc hc hm;exact h.sepJ c oc (hJ _ hc) ((hM.map Prod.fst).subset hm)
theorem St.perm(h:St C M J w)(hp:M.Perm M'):St C M' J w:=by
  have hk:=hp.map Prod.fst;refine ⟨h.os,h.tape,h.output,h.size,h.frame,?_,hk.nodup_iff.1 h.nodup,?_,?_,h.sepA,h.old⟩
  . intro c oc hc;refine h.mem c oc ?_;simp only [List.mem_append] at hc ⊢;rcases hc with hc|hc
    . exact .inl (hp.mem_iff.2 hc)
    . exact .inr hc
  . intro c oc hc;refine h.own c oc ?_;simp only [List.mem_append] at hc ⊢;rcases hc with hc|hc
    . exact .inl (hp.mem_iff.2 hc)
    . exact .inr hc
  . intro c oc hc hm;exact h.sepJ c oc hc (hk.mem_iff.2 hm)
end mem
section memjudge
variable{C:Cx}{Q:XQ}{l:Env}{M J:Mem}{ops:Array Oper}{rest:List Oper}
end memjudge
section places
variable{α:Type}{x y z u v t:α}{r s:List α}
theorem m0:x∈(x::r)++s:=by simp
theorem m1:x∈(y::x::r)++s:=by simp
theorem m2:x∈(z::y::x::r)++s:=by simp
theorem m3:x∈(u::z::y::x::r)++s:=by simp
theorem m4:x∈(v::u::z::y::x::r)++s:=by simp
theorem m5:x∈(t::v::u::z::y::x::r)++s:=by simp
theorem mA{M J:List α}(h:x∈r):x∈M++(J++r):=Ai _ (Ai _ h)
end places
def A0s(P:Program)(t:TypeId):Bool :=
  match P.underlying t with
  | none|some (.struct _)|some (.array _ _)=>false
  | _=>true
def A59(P:Program)(t:TypeId):Option Nat :=
  match P.underlying t,P.info? t with
  | some (.struct _),some i=>some i.size
  | some (.array _ _),some i=>some i.size
  | _,_=>none
def N2(P:Program)(t:TypeId):Option Nat:=(P.info? t).map (·.size)
variable{P:Program}
theorem A3y(h:A0s P t=true)(w:World):(isAgg t).run P w=.ok false w:=by
  unfold A0s at h
  cases hu:P.underlying t with
  | none=>simp [hu] at h
  | some dsc =>
    rw [hu] at h;unfold isAgg;rw [Sem.run_bind,run_underlying hu w];cases dsc<;>simp_all
theorem R5(h:A59 P t=some n):∃dsc,P.underlying t=some dsc∧dsc.isRow=true∧(P.info? t).map (·.size)=some n:=by unfold A59 at h;split at h<;>simp_all [TypeDesc.isRow]
variable{vs cs:List Value}{fr:Nat×Nat}{sz:Nat}{ii:Int}
section loads
variable{P:Program}{R:Mem}{l:Env}{d:Option Nat}{ty:TypeId}{pos:String}{af:Array Edge}{g:Option (Nat×Bool)}{x y:Operand}
theorem A2e{R:Mem}(hw:Fx R w){cs:Array Value}(hb:(b,Obj.cells cs e fr)∈R)(o:Nat):w.cell? ⟨b,o,none⟩=cs[o]? :=
  cell_of_row w b o cs e fr (hw b _ hb)
theorem H1(hx:ev l x=some (.pointer (some ⟨b,o,none⟩)))(ht:A0s P t=true)
    (hb:(b,Obj.cells cs.toArray e fr)∈R) (hv:cs[o]? = some v):OpQ P R ⟨d,.load t x,ty,pos,af,g⟩ l v:=λN A w ha hw=>by
  have hc:w.cell? ⟨b,o,none⟩=some v:=by rw [A2e hw hb];simpa using hv
  simp only [execOp,ha.ev hx,Instr.loadAt,Instr.sureAddr,Sem.run_bind,Sem.run_pure,Result.andThen_ok,loadVar,A3y ht];simp [load,Sem.run,hc]
theorem F2(hx:ev l x=some (.pointer (some ⟨b,o,none⟩)))(ht:A59 P t=some n)
    (hb:(b,Obj.cells cs.toArray e fr)∈R) (hn:vs.length=n) (hv:∀j v,vs[j]? = some v->cs[o+j]? = some v):OpQ P R ⟨d,.load t x,ty,pos,af,g⟩ l (.agg vs.toArray):=λN A w ha hw=>by
  obtain ⟨dsc,h1,h2,h3⟩:=R5 ht;have hc:w.rangeAt b o vs:=λj v hj=>by rw [A2e hw hb];simpa using hv j v hj
  simp only [execOp,ha.ev hx,Instr.loadAt,Instr.sureAddr,Sem.run_bind,Sem.run_pure,Result.andThen_ok,run_loadVar_mid w b o t vs dsc hc h1 h2 (by rw [h3,hn])]
theorem H0(hx:ev l x=some (.pointer (some ⟨b,0,none⟩)))(ht:A59 P t=some n)
    (hb:(b,Obj.cells cs.toArray e fr)∈R) (hn:cs.length=n):OpQ P R ⟨d,.load t x,ty,pos,af,g⟩ l (.agg cs.toArray) :=
  F2 hx ht hb hn (λj v h=>by rwa [Nat.zero_add])
theorem L6(hx:ev l x=some (.slice (some ⟨b,o,none⟩) n c))(hy:ev l y=some (.int k ii))
    (hu:P.underlying t=some (.slice e)) (hs:N2 P e=some sz) (hi:ii=i) (hlt:i<n) :
    OpQ P R ⟨d,.indexAddr t x y,ty,pos,af,g⟩ l (.pointer (some ⟨b,o+i*sz,none⟩)):=λN A w ha hw=>by
  subst hi;unfold N2 at hs
  cases hq:P.info? e with
  | none=>simp [hq] at hs
  | some inf =>
    simp only [hq,Option.map_some,Option.some.injEq] at hs;subst hs;simp only [execOp,ha.ev hx,ha.ev hy,Instr.indexAt,asIntOf,Sem.run_bind,Sem.run_pure,Result.andThen_ok,run_underlying hu]
    have h1:(0:Int)<=(i:Int)∧(i:Int)<(n:Int):=⟨by omega,by omega⟩
    simp [h1,sizeOf,typeInfo,hq,Addr.add_mid]
theorem F7(hx:ev l x=some (.pointer (some ⟨b,o,none⟩)))(hy:ev l y=some (.int k ii))
    (hu:P.underlying t=some (.array n e)) (hs:N2 P e=some sz) (hi:ii=i) (hlt:i<n) :
    OpQ P R ⟨d,.indexAddr t x y,ty,pos,af,g⟩ l (.pointer (some ⟨b,o+i*sz,none⟩)):=λN A w ha hw=>by
  subst hi;unfold N2 at hs
  cases hq:P.info? e with
  | none=>simp [hq] at hs
  | some inf =>
    simp only [hq,Option.map_some,Option.some.injEq] at hs;subst hs;simp only [execOp,ha.ev hx,ha.ev hy,Instr.indexAt,asIntOf,Sem.run_bind,Sem.run_pure,Result.andThen_ok,run_underlying hu,Instr.sureAddr]
    have h1:(0:Int)<=(i:Int)∧(i:Int)<(n:Int):=⟨by omega,by omega⟩
    simp [h1,sizeOf,typeInfo,hq,Addr.add_mid]
end loads
inductive SetL:List Value->Nat->Value->List Value->Prop
  | hd {x v:Value} {r:List Value}:SetL (x::r) 0 v (v::r)
  | tl {x v:Value} {r r':List Value} {n:Nat} (h:SetL r n v r'):SetL (x::r) (n+1) v (x::r')
variable{cs':List Value}
theorem SetL.eq(h:SetL cs o v cs'):cs'=cs.set o v∧o<cs.length:=by
  induction h with
  | hd=>simp
  | tl _ ih=>simp [ih.1,ih.2]
theorem s0{x:Value}{r:List Value}:SetL (x::r) 0 v (v::r):=.hd
theorem u0{o:Obj}{r:Mem}:Upd ((b,o)::r) b o o' ((b,o')::r):=.hd
variable{B:Mem}
theorem uB{o:Obj}{r r':Mem}(h:Upd r b o o' r'):Upd (B++r) b o o' (B++r'):=by
  induction B with
  | nil=>exact h
  | cons x B ih=>exact .tl ih
def zc(P:Program)(t:TypeId):Option (List Value):=((P.info? t).bind (·.zero)).map (λz=>z.cells.toList)
theorem A1O(w:World)(e:TypeId)(cs:Array Value):(newRow e cs).run P w=.ok ⟨w.heap.size,0,none⟩ (w.alloc (.cells cs e)):=by rfl
theorem B6d(h:zc P t=some cs)(w:World):∃z:Value,(zeroValue t).run P w=.ok z w∧z.cells=cs.toArray:=by
  unfold zc at h
  cases hi:P.info? t with
  | none=>simp [hi] at h
  | some i =>
    cases hz:i.zero with
    | none=>simp [hi,hz] at h
    | some z =>
      refine ⟨z,by simp [zeroValue,typeInfo,hi,hz],?_⟩;simp [hi,hz] at h;rw [<- h]
section loud
variable{C:Cx}{l:Env}{M J:Mem}{K:Env->Mem->Mem->Prop}{d:Nat}{ty:TypeId}{pos:String}{af:Array Edge}{g:Option (Nat×Bool)}{x y:Operand}
theorem C3(hz:zc C.P t=some cs)(hd:Nat.blt d C.N=true)(k:∀b,K ((d,.pointer (some ⟨b,0,none⟩))::l) ((b,blk cs t)::M) J) :
    OpL C ⟨some d,.alloc t,ty,pos,af,g⟩ l M J K:=by
  intro Qp a w ha hw;obtain ⟨z,hz1,hz2⟩:=B6d hz w;unfold Oper.wp;simp only [execOp,Instr.alloc,Sem.run_bind,hz1,Result.andThen_ok,newVar,hz2,A1O,Sem.run_pure];exact ⟨_,_,J,ha.put (L7 hd) _,hw.alloc _,k _⟩
theorem B6e(hx:ev l x=some v)(hcs:v.cells=cs.toArray)(hd:Nat.blt d C.N=true)
    (k:∀b,K ((d,.pointer (some ⟨b,0,none⟩))::l) ((b,blk cs t)::M) J):OpL C ⟨some d,.box t x,ty,pos,af,g⟩ l M J K:=by
  intro Qp a w ha hw;unfold Oper.wp;simp only [execOp,Instr.box,ha.ev hx,Sem.run_bind,newVar,hcs,A1O,Result.andThen_ok,Sem.run_pure];exact ⟨_,_,J,ha.put (L7 hd) _,hw.alloc _,k _⟩
theorem E1(hx:ev l x=some (.pointer (some ⟨b,o,none⟩)))(hy:ev l y=some v)(h1:v.oneCell'=true)
    (ht:N2 C.P t=some 1) (hs:SetL cs o v cs') (hu:Upd M b (blk cs e) (blk cs' e) M') (k:K l M' J) :
    OpL C ⟨none,.store t x y,ty,pos,af,g⟩ l M J K:=by
  intro Qp a w ha hw;obtain ⟨rfl,hlt⟩:=hs.eq;have hb:=hw.mem _ _ (Ae _ hu.mem);unfold N2 at ht
  cases hq:C.P.info? t with
  | none=>simp [hq] at ht
  | some inf =>
    simp only [hq,Option.map_some,Option.some.injEq] at ht;have hv:v.cells=#[v]:=by cases v<;>simp_all [Value.oneCell',Value.cells]
    have hcell:w.cell? ⟨b,o,none⟩=some cs[o]:=by rw [cell_of_row w b o _ e (0,0) hb];simp [hlt]
    have hfro:w.frozen? ⟨b,o,none⟩=false:=by simp [World.frozen?,hb]
    have hst:(store (⟨b,o,none⟩:Addr) v).run C.P w=.ok () (w.setRow b (cs.toArray.setIfInBounds o v)):=by rw [run_store C.P w _ v _ h1,hcell];simp [hfro,setCell_eq_setRow w b o _ e (0,0) v hb]
    have hrun:(execOp a.eval ⟨none,.store t x y,ty,pos,af,g⟩).run C.P w=.ok .skip (w.setRow b (cs.toArray.setIfInBounds o v)):=by simp only [execOp,ha.ev hx,ha.ev hy,Instr.storeAt,Instr.sureAddr,Sem.run_bind,Sem.run_pure,Result.andThen_ok,storeVar,sizeOf,typeInfo,hv];simp [program,Sem.run,hq,ht,storeCells,Addr.add,hst]
    unfold Oper.wp;rw [hrun];refine ⟨l,M',J,ha,?_,k⟩;have:=hw.setRow hu;simpa using this
theorem A5(hx:ev l x=some (.pointer (some ⟨b,0,none⟩)))(hy:ev l y=some v)(hv:v.cells=vs.toArray)
    (ht:N2 C.P t=some vs.length) (hl:cs.length=vs.length) (h1:∀u∈vs,u.oneCell'=true) (hu:Upd M b (blk cs e) (blk vs e) M') (k:K l M' J) :
    OpL C ⟨none,.store t x y,ty,pos,af,g⟩ l M J K:=by
  intro Qp a w ha hw;have hb:=hw.mem _ _ (Ae _ hu.mem);have hst:=run_storeCells_at (P:=C.P) b 0 e vs 0 cs.toArray w hb (by simp [hl]) h1;unfold N2 at ht
  cases hq:C.P.info? t with
  | none=>simp [hq] at ht
  | some inf =>
    simp only [hq,Option.map_some,Option.some.injEq] at ht;simp only [Nat.zero_add,List.take_zero,Cw,<- hl,List.drop_length,List.append_nil] at hst
    have hrun:(execOp a.eval ⟨none,.store t x y,ty,pos,af,g⟩).run C.P w=.ok .skip (w.setRow b vs.toArray):=by simp only [execOp,ha.ev hx,ha.ev hy,Instr.storeAt,Instr.sureAddr,Sem.run_bind,Sem.run_pure,Result.andThen_ok,storeVar,sizeOf,typeInfo,hv];simp [program,Sem.run,hq,ht,hst]
    unfold Oper.wp;rw [hrun];exact ⟨l,M',J,ha,hw.setRow hu,k⟩
theorem P1(hx:ev l x=some (.pointer (some ⟨b,o,none⟩)))(hy:ev l y=some v)(hv:v.cells=vs.toArray)
    (ht:N2 C.P t=some vs.length) (hl:o+vs.length<=cs.length) (h1:∀u∈vs,u.oneCell'=true) (hs:cs.take o++vs++cs.drop (o+vs.length)=cs') (hu:Upd M b (blk cs e) (blk cs' e) M') (k:K l M' J) :
    OpL C ⟨none,.store t x y,ty,pos,af,g⟩ l M J K:=by
  intro Qp a w ha hw;subst hs;have hb:=hw.mem _ _ (Ae _ hu.mem);have hst:=run_storeCells_at (P:=C.P) b o e vs 0 cs.toArray w hb (by simpa using hl) h1;unfold N2 at ht
  cases hq:C.P.info? t with
  | none=>simp [hq] at ht
  | some inf =>
    simp only [hq,Option.map_some,Option.some.injEq] at ht;simp only [Nat.add_zero] at hst
    have hrun:(execOp a.eval ⟨none,.store t x y,ty,pos,af,g⟩).run C.P w=.ok .skip (w.setRow b (cs.take o++vs++cs.drop (o+vs.length)).toArray):=by simp only [execOp,ha.ev hx,ha.ev hy,Instr.storeAt,Instr.sureAddr,Sem.run_bind,Sem.run_pure,Result.andThen_ok,storeVar,sizeOf,typeInfo,hv];simp [program,Sem.run,hq,ht,hst]
    unfold Oper.wp;rw [hrun];exact ⟨l,M',J,ha,hw.setRow hu,k⟩
end loud
def FnX(P:Program)(f:FuncId)(args:List Value)(M A:Mem)(post:Value->Mem->Mem->Prop):Prop :=
  ∀w,St ⟨P,w,M.map Prod.fst,A,0⟩ M [] w->Calls P f args.toArray w λe w'=>∃v M' J,e=.returned v∧post v M' J∧St ⟨P,w,M.map Prod.fst,A,0⟩ M' J w'
variable{A:Mem}{m:Nat}
theorem St.cx{w0:World}{F:List Nat}(h:St ⟨P,w0,F,A,n⟩ M J w):St ⟨P,w0,F,A,m⟩ M J w :=
  ⟨h.os,h.tape,h.output,h.size,h.frame,h.mem,h.nodup,h.own,h.sepJ,h.sepA,h.old⟩
def Res(P:Program)(fn:Func)(l:Env)(R:Mem)(v:Value):Prop :=
  ∀N a w,Ag N l a->Fx R w->(results fn a.tmps).run P w=.ok v w
def retX(P:Program)(fn:Func)(A:Mem)(post:Value->Mem->Mem->Prop):XQ
  | .ret,l,M,J=>∃v M' J',Res P fn l (M++(J++A)) v∧M'.Sublist M∧(∀x,x∈J'->x∈J)∧post v M' J'
  | .normal,l,M,J=>∃v M' J',Res P fn l (M++(J++A)) v∧M'.Sublist M∧(∀x,x∈J'->x∈J)∧post v M' J'
  | _,_,_,_=>False
def C2s:List Value->Nat->Env
  | [],_=>[]
  | v::r,i=>(i,v)::C2s r (i+1)
theorem A8u:∀(vs:List Value) (k i:Nat) (v:Value),lk (C2s vs k) i=some v->k<=i∧vs[i-k]? = some v
  | [],_,_,_,h=>by cases h
  | u::r,k,i,v,h=>by
    simp only [C2s,lk] at h;by_cases e:k=i
    . subst e;simp at h;subst h;simp
    . simp only [A0p e,cond_false] at h;have:=A8u r (k+1) i v h;refine ⟨by omega,?_⟩;rw [show i-k=(i-(k+1))+1 from by omega];simpa using this.2
variable{f:FuncId}{args:List Value}{post:Value->Mem->Mem->Prop}
theorem FnX.enter{fn:Func}{c:Code}
    (hf:P.funcs[f]? = some fn) (hb:fn.body=some c) (hn:fn.ntmps=N) (hN:Nat.ble args.length N=true)
    (h:∀w,XC ⟨P,w,M.map Prod.fst,A,N⟩ c (retX P fn A post) (C2s args 0) M []):FnX P f args M A post:=by
  intro w hw;refine calls_of_wp hf hb ?_;have hle:args.length<=N:=by simpa using hN
  refine Code.wp_mono ?_ (h w _ w ?_ hw.cx)
  . rintro e a' w' ⟨l,M',J,ha,hw',hq⟩;cases e<;>first|exact hq.elim|skip
    all_goals
      obtain ⟨v,M2,J2,hv,hM2,hJ2,hp⟩:=hq;exact ⟨ha.defers,v,hv N a' w' ha hw'.fx,v,M2,J2,E,hp,(hw'.drop hM2 hJ2).cx⟩
  . refine ⟨E,by simp [hn];omega,?_⟩;intro i v hi;obtain ⟨_,h2⟩:=A8u args 0 i v hi;simp only [Nat.sub_zero] at h2;have hlt:i<args.length:=(Ac.1 h2).1;rw [Array.getElem?_append_left (by simpa using hlt)];simpa using h2
section results
variable{P:Program}{fn:Func}{l:Env}{R:Mem}
theorem A8v(h:fn.results=#[]):Res P fn l R (.tuple #[]):=λN a w ha hw=>results_none h a.tmps P w
theorem H2{t:Nat}(h:fn.results=#[.tmp t])(hv:lk l t=some v):Res P fn l R v:=λN a w ha hw=>by rw [results_tmp h a.tmps P w];simp [ha.slot t v hv]
theorem A2w{t u:Nat}{v':Value}(h:fn.results=#[.tmp t,.tmp u])(hv:lk l t=some v)(hv':lk l u=some v'):Res P fn l R (.tuple #[v,v']):=λN a w ha hw=>by rw [results_tmp2 h a.tmps P w];simp [ha.slot t v hv,ha.slot u v' hv']
theorem A1l{t:Nat}(h:fn.results=#[.cell t ty])(hv:lk l t=some (.pointer (some ⟨b,0,none⟩)))(ht:A59 P ty=some n)
    (hb:(b,Obj.cells cs.toArray e fr)∈R) (hn:cs.length=n):Res P fn l R (.agg cs.toArray):=λN a w ha hw=>by
  obtain ⟨dsc,h1,h2,h3⟩:=R5 ht;exact results_cell_row h a.tmps w b e cs.toArray fr dsc (by simp [ha.slot t _ hv]) (hw b _ hb) h1 (by cases dsc<;>simp_all [TypeDesc.isRow]) (by rw [h3,<- hn];simp)
theorem A0e{t u:Nat}(h:fn.results=#[.cell t ty,.tmp u])(hv:lk l t=some (.pointer (some ⟨b,0,none⟩)))(hu:lk l u=some v)(ht:A59 P ty=some n)
    (hb:(b,Obj.cells cs.toArray e fr)∈R) (hn:cs.length=n):Res P fn l R (.tuple #[.agg cs.toArray,v]):=λN a w ha hw=>by
  obtain ⟨dsc,h1,h2,h3⟩:=R5 ht;have hl:=run_loadVar_row (P:=P) w b e ty cs.toArray fr dsc (hw b _ hb) h1 (by cases dsc<;>simp_all [TypeDesc.isRow]) (by rw [h3,<- hn];simp);simp [results,h,ha.slot t _ hv,ha.slot u _ hu,asAddr,hl]
end results
inductive Evs(l:Env):List Operand->List Value->Prop
  | nil:Evs l [] []
  | cons {x:Operand} {v:Value} {xs:List Operand} {vs:List Value} (h:ev l x=some v) (r:Evs l xs vs):Evs l (x::xs) (v::vs)
theorem a0:Evs l [] []:=.nil
variable{x:Operand}
theorem aS{xs:List Operand}(h:ev l x=some v)(r:Evs l xs vs):Evs l (x::xs) (v::vs):=.cons h r
theorem Evs.map{l:Env}{xs:List Operand}{vs:List Value}(h:Evs l xs vs){N:Nat}{a:Act}(ha:Ag N l a):xs.map a.eval=vs:=by
  induction h with
  | nil=>rfl
  | cons h _ ih=>simp [ha.ev h,ih]
def K1(P:Program)(f:FuncId):Bool :=
  match P.funcs[f]? with
  | some fn=>fn.body.isSome&&!(fn.name == "runtime.NumGoroutine")
  | none=>false
theorem A9o(hc:K1 P f=true)(args:Array Value)(w:World):(callFunc f args).run P w=.ok (.enter f args) w:=by
  unfold K1 at hc;split at hc
  . rename_i fn hfn;simp only [Bool.and_eq_true,Bool.not_eq_true',Option.isSome_iff_exists] at hc;obtain ⟨⟨c,hb⟩,hn⟩:=hc;simp only [callFunc,program,bind,Sem.bind,Sem.run,hfn];simp [hn,hb,pure]
  . cases hc
variable{Mc R:Mem}
theorem St.callee(h:St C M J w)(hM:M.Perm (Mc++R)):St ⟨C.P,w,Mc.map Prod.fst,R++(J++C.A),0⟩ Mc [] w:=by
  have h':=h.perm hM;have hn:=h'.nodup;simp only [List.map_append,List.nodup_append] at hn;refine ⟨E,E,E,Av _,λ_ _ _=>rfl,?_,hn.1,?_,?_,?_,?_⟩
  . intro b o hb;refine h'.mem b o ?_;simp only [List.mem_append,Cw] at hb ⊢;rcases hb with hb|hb|hb|hb<;>simp [hb]
  . intro b o hb;rw [List.append_nil] at hb;exact .inl (Al (f:=Prod.fst) hb)
  . intro b o hb;cases hb
  . intro b o hb;refine ⟨λhm=>?_,?_⟩
    . simp only [List.mem_append] at hb;rcases hb with hb|hb|hb
      . exact hn.2.2 b hm b (Al (f:=Prod.fst) hb) rfl
      . exact h'.sepJ b o hb (by simp only [List.map_append,List.mem_append];exact .inl hm)
      . have h1:=h.sepA b o hb;obtain ⟨x,hx,e⟩:=List.mem_map.1 hm;obtain ⟨x1,x2⟩:=x;simp only at e;subst e;rcases h'.own x1 x2 (by simp [hx]) with h2|h2
        . exact h1.1 h2
        . omega
    . refine T4 (h'.mem b o ?_);simp only [List.mem_append] at hb ⊢;rcases hb with hb|hb|hb<;>simp [hb]
  . intro k hk;obtain ⟨x,hx,e⟩:=List.mem_map.1 hk;obtain ⟨x1,x2⟩:=x;simp only at e;subst e;exact T4 (h'.mem x1 x2 (by simp [hx]))
theorem St.back(h:St C M J w)(hM:M.Perm (Mc++R))(hc:St ⟨C.P,w,Mc.map Prod.fst,R++(J++C.A),0⟩ M' J' w') :
    St C (M'++R) (J'++J) w':=by
  have h':=h.perm hM;have hn:=h'.nodup;simp only [List.map_append,List.nodup_append] at hn;have hcal:=h.callee hM
  have hMc:∀b,b∈Mc.map Prod.fst->b∈C.F∨C.w.heap.size<=b:=by intro b hb;obtain ⟨x,hx,e⟩:=List.mem_map.1 hb;obtain ⟨x1,x2⟩:=x;simp only at e;subst e;exact h'.own x1 x2 (by simp [hx])
  have hR:∀b o,(b,o)∈R->b∉Mc.map Prod.fst∧b<w.heap.size:=λb o hb=>hcal.sepA b o (by simp [hb]);have hJ:∀b o,(b,o)∈J->b∉Mc.map Prod.fst∧b<w.heap.size:=λb o hb=>hcal.sepA b o (by simp [hb]);have hnew:∀b o,(b,o)∈M'++J'->b∈Mc.map Prod.fst∨w.heap.size<=b:=hc.own;refine ⟨hc.os.trans h.os,hc.tape.trans h.tape,hc.output.trans h.output,Az h.size hc.size,?_,?_,?_,?_,?_,h.sepA,h.old⟩
  . intro k hk hF
    have hk':k∉Mc.map Prod.fst:=λhm=>by
      rcases hMc k hm with h1|h1
      . exact hF h1
      . omega
    rw [hc.frame k (Bp hk h.size) hk'];exact h.frame k hk hF
  . intro b o hb;refine hc.mem b o ?_;simp only [List.mem_append] at hb ⊢;rcases hb with (hb|hb)|(hb|hb)|hb<;>simp [hb]
  . simp only [List.map_append,List.nodup_append];refine ⟨hc.nodup,hn.2.1,?_⟩;intro b hb b' hb' e;subst e;obtain ⟨x,hx,e1⟩:=List.mem_map.1 hb;obtain ⟨y,hy,e2⟩:=List.mem_map.1 hb';obtain ⟨x1,x2⟩:=x;obtain ⟨y1,y2⟩:=y;simp only at e1 e2;subst e1;subst e2;have h1:=hR y1 y2 hy;rcases hnew y1 x2 (by simp [hx]) with h2|h2
    . exact h1.1 h2
    . omega
  . intro b o hb;simp only [List.mem_append] at hb;rcases hb with (hb|hb)|(hb|hb)
    . rcases hnew b o (by simp [hb]) with h1|h1
      . exact hMc b h1
      . exact .inr (Az h.size h1)
    . exact h'.own b o (by simp [hb])
    . rcases hnew b o (by simp [hb]) with h1|h1
      . exact hMc b h1
      . exact .inr (Az h.size h1)
    . exact h.own b o (by simp [hb])
  . intro b o hb hm;simp only [List.map_append,List.mem_append] at hm hb;rcases hb with hb|hb
    . rcases hm with hm|hm
      . exact hc.sepJ b o hb hm
      . obtain ⟨y,hy,e2⟩:=List.mem_map.1 hm;obtain ⟨y1,y2⟩:=y;simp only at e2;subst e2;have h1:=hR y1 y2 hy;rcases hnew y1 o (by simp [hb]) with h2|h2
        . exact h1.1 h2
        . omega
    . rcases hm with hm|hm
      . obtain ⟨y,hy,e2⟩:=List.mem_map.1 hm;obtain ⟨y1,y2⟩:=y;simp only at e2;subst e2;have h1:=hJ y1 o hb;rcases hnew y1 y2 (by simp [hy]) with h2|h2
        . exact h1.1 h2
        . omega
      . exact h'.sepJ b o hb (by simp only [List.map_append,List.mem_append];exact .inr hm)
section call
variable{C:Cx}{l:Env}{M J:Mem}{K:Env->Mem->Mem->Prop}{d:Nat}{ty:TypeId}{pos:String}{af:Array Edge}{g:Option (Nat×Bool)}
theorem C8{xs:List Operand}(hx:Evs l xs vs)(hc:K1 C.P f=true)
    (hM:M.Perm (Mc++R)) (hf:FnX C.P f vs Mc (R++(J++C.A)) post) (hd:Nat.blt d C.N=true) (k:∀v M' J',post v M' J'->K ((d,v)::l) (M'++R) (J'++J)) :
    OpL C ⟨some d,.call { callee:=.value (.func f),args:=xs.toArray,argTypes:=ts },ty,pos,af,g⟩ l M J K:=by
  intro Qp a w ha hw
  have hrun:(execOp a.eval ⟨some d,.call { callee:=.value (.func f),args:=xs.toArray,argTypes:=ts },ty,pos,af,g⟩).run C.P w=.ok (.enter f vs.toArray) w:=by
    have e:xs.toArray.map a.eval=vs.toArray:=by simp [hx.map ha]
    simp only [execOp,resolve,e,Sem.run_bind];simp [Act.eval,Deferred.ofValue,invoke,A9o hc]
  unfold Oper.wp;rw [hrun];refine Calls.mono (hf w (hw.callee hM)) ?_;rintro e w' ⟨v,M',J',rfl,hp,hs⟩;exact ⟨_,_,_,ha.put (L7 hd) v,hw.back hM hs,k v M' J' hp⟩
end call
variable{listed:Array Bool}{oi:Oper}
section draws
variable{P:Program}{ops:Array Oper}{Q:Exit->Act->World->Prop}{S:World->World->Prop}{T:World->Prop}{need:Nat->Bool}
def A0K(P:Program)(ops:Array Oper)(Q:Exit->Act->World->Prop)(S:World->World->Prop)(need:Nat->Bool):Nat->Array Bool->Act->World->Prop
  | 0,listed,a,w=>Region.ready .any ops listed=[]∧Q .normal a w
  | fuel+1,listed,a,w =>
    (Region.ready .any ops listed=[]->Q .normal a w) ∧
    ∀i∈Region.ready .any ops listed,wpOp P ops Q i (λa' w'=>(need i=true->S w w')∧A0K P ops Q S need fuel (listed.setIfInBounds i true) a' w') a w
theorem A1P:∀(fuel:Nat) (listed:Array Bool) (a:Act) (w:World),A0K P ops Q S need fuel listed a w->wpAny P .any ops Q fuel listed a w
  | 0,_,_,_,h=>h
  | fuel+1,_,_,_,h=>⟨h.1,λi hi=>wpOp_mono (λa' w' h'=>A1P fuel _ a' w' h'.2) (h.2 i hi)⟩
def anc(ops:Array Oper):Nat->Nat->Nat->Bool
  | 0,_,_=>false
  | n+1,j,i=>match ops[j]? with
    | some oj=>oj.after.any λe=>Region.binds .any e&&(e.on==i||(Nat.blt i e.on&&anc ops n e.on i))
    | none=>false
def R6(ops:Array Oper)(listed:Array Bool):Prop :=
  ∀j oj,ops[j]? = some oj->listed.getD j false=true->∀e∈oj.after,Region.binds .any e=true->listed.getD e.on false=true
theorem A5w{listed:Array Bool}(hc:R6 ops listed):∀(n j i:Nat),anc ops n j i=true->listed.getD j false=true->listed.getD i false=true
  | 0,_,_,h,_=>by cases h
  | n+1,j,i,h,hj=>by
    unfold anc at h;split at h
    . rename_i oj hoj;obtain ⟨e,he,hb⟩:=Array.any_eq_true'.1 h;simp only [Bool.and_eq_true,Bool.or_eq_true,beq_iff_eq] at hb;have h1:=hc j oj hoj hj e he hb.1;rcases hb.2 with h2|⟨_,h2⟩
      . rwa [h2] at h1
      . exact A5w hc n e.on i h2 h1
    . cases h
theorem R7(hc:R6 ops listed)(h:anc ops n j i=true)(hj:j∈Region.ready .any ops listed):listed.getD i false=true:=by
  cases n with
  | zero=>cases h
  | succ n =>
    obtain ⟨_,oj,hoj,hall⟩:=mem_ready.1 hj;unfold anc at h;simp only [hoj] at h;obtain ⟨e,he,hb⟩:=Array.any_eq_true'.1 h;simp only [Bool.and_eq_true,Bool.or_eq_true,beq_iff_eq] at hb;have h1:=hall e he hb.1;rcases hb.2 with h2|h2
    . rwa [h2] at h1
    . exact A5w hc n e.on i h2.2 h1
theorem A5x(h:listed.getD m false=true):(listed.setIfInBounds j true).getD m false=true:=by
  by_cases e:j=m
  . subst e
    have hlt:j<listed.size:=by
      rcases Nat.lt_or_ge j listed.size with h'|h'
      . exact h'
      . simp [Array.getElem?_eq_none h'] at h
    simp [hlt]
  . rw [getD_set_ne false e];exact h
theorem I6(hc:R6 ops listed)(hj:j∈Region.ready .any ops listed):R6 ops (listed.setIfInBounds j true):=by
  intro m om hm hl e he hb;obtain ⟨_,oj,hoj,hall⟩:=mem_ready.1 hj;by_cases ejm:j=m
  . subst ejm;rw [hoj] at hm;cases hm;exact A5x (hall e he hb)
  . rw [getD_set_ne false ejm] at hl;exact A5x (hc m om hm hl e he hb)
theorem U5(h0:listed.getD i true=false)(h1:listed.getD i false=true):False:=by
  rcases Nat.lt_or_ge i listed.size with h'|h'
  . simp [h'] at h0 h1;rw [h0] at h1;cases h1
  . simp [Array.getElem?_eq_none h'] at h1
theorem Y6(hi:ops[i]? = some oi)(hsel:∀(j:Nat) (o:Oper) cs b,ops[j]? = some o->o.op≠.select cs b)
    (hQ:∀c a w,Q (.panic c) (a.put oi.dst v) w->Q (.panic c) a w) (hre:∀w,S w w) :
    ∀(fuel:Nat) (listed:Array Bool) (a:Act) (w:World),R6 ops listed ->
      (∀j oj,ops[j]? = some oj->j≠i->listed.getD j true=false->(∀e∈oj.after,Region.binds .any e=true->e.on≠i)->oi.apart ops oj=true) ->
      (∀j,j<ops.size->j≠i->listed.getD j true=false->anc ops N j i=true∨∀w w',T w->(need j=true->S w w')->T w') ->
      i∈Region.ready .any ops listed->YieldsIf P ops T oi v a->T w ->
      A0K P ops Q S need fuel (listed.setIfInBounds i true) (a.put oi.dst v) w->A0K P ops Q S need (fuel+1) listed a w:=by
  intro fuel
  induction fuel with
  | zero =>
    intro listed a w _ _ _ hr hy hT H;refine ⟨λh=>(by rw [h] at hr;cases hr),λj hj=>?_⟩;by_cases hji:j=i
    . subst hji;exact hy.wpOp hi hT ⟨λ_=>hre _,H⟩
    . have:=ready_mono hj hji;rw [H.1] at this;cases this
  | succ fuel ih =>
    intro listed a w hcl hfree hst hr hy hT H;refine ⟨λh=>(by rw [h] at hr;cases hr),λj hj=>?_⟩;by_cases hji:j=i
    . subst hji;exact hy.wpOp hi hT ⟨λ_=>hre _,H⟩
    . have h1:=H.2 j (ready_mono hj hji);obtain ⟨hjun,oj,hoj,hall⟩:=mem_ready.1 hj;have h0:=(mem_ready.1 hr).1
      have hT':∀w w',T w->(need j=true->S w w')->T w':=by
        rcases hst j (Array.getElem?_eq_some_iff.1 hoj).1 hji hjun with h|h
        . exact (U5 h0 (R7 hcl h hj)).elim
        . exact h
      have hnot:∀e∈oj.after,Region.binds .any e=true->e.on≠i:=λe he hb heq=>by have h1:=hall e he hb;rw [heq] at h1;exact U5 h0 h1
      have h2:=wpOp_putIf hoj (hfree j oj hoj hji hjun hnot) (λcs b=>hsel i oi cs b hi) (λcs b=>hsel j oj cs b hoj) hQ hy h1
      have hfree':∀m om,ops[m]? = some om->m≠i->(listed.setIfInBounds j true).getD m true=false ->
          (∀e∈om.after,Region.binds .any e=true->e.on≠i)->oi.apart ops om=true:=λm om hm hmi hun hno=>by
        refine hfree m om hm hmi ?_ hno;by_cases hjm:j=m
        . subst hjm;exact hjun
        . rw [getD_set_ne true hjm] at hun;exact hun
      have hst':∀m,m<ops.size->m≠i->(listed.setIfInBounds j true).getD m true=false->anc ops N m i=true∨∀w w',T w->(need m=true->S w w')->T w':=λm hmz hmi hun=>by
        refine hst m hmz hmi ?_;by_cases hjm:j=m
        . subst hjm;exact hjun
        . rw [getD_set_ne true hjm] at hun;exact hun
      refine wpOp_mono (λa' w' h3=>?_) h2;obtain ⟨hy',hS',h4⟩:=h3;have hT'':T w':=hT' w w' hT hS';refine ⟨hS',ih (listed.setIfInBounds j true) a' w' (I6 hcl hj) hfree' hst' (ready_mono hr (Ne.symm hji)) hy' hT'' ?_⟩;rw [Array.setIfInBounds_comm _ _ hji];exact h4
def B1H(ops:Array Oper)(nd:List Nat)(listed:Array Bool)(i:Nat):Bool :=
  (List.range ops.size).all λj=>j==i||listed.getD j true||nd.contains j||anc ops ops.size j i
def grp:List (Nat×Nat)->List Nat
  | (i,3)::r=>i::grp r
  | (i,4)::_=>[i]
  | _=>[]
def A5i(ops:Array Oper)(listed:Array Bool)(i:Nat):Bool :=
  match ops[i]? with
  | none=>false
  | some oi=>(List.range ops.size).all λj=>j==i||listed.getD j true||anc ops ops.size i j||match ops[j]? with
      | some oj=>oj.after.any (λe=>Region.binds .any e&&e.on==i)||oi.apart ops oj
      | none=>true
theorem B0A(hi:ops[i]? = some oi)(h:A5i ops listed i=true)(j:Nat)(oj:Oper)
    (hj:ops[j]? = some oj) (hne:j≠i) (hun:listed.getD j true=false) (hna:anc ops ops.size i j=false) (hno:∀e∈oj.after,Region.binds .any e=true->e.on≠i) :
    oi.apart ops oj=true:=by
  simp only [A5i,hi,List.all_eq_true,List.mem_range] at h;have h1:=h j (Array.getElem?_eq_some_iff.1 hj).1;simp only [hj,Bool.or_eq_true,beq_iff_eq,hne,false_or,hun,hna,Bool.false_eq_true] at h1;rcases h1 with h1|h1
  . obtain ⟨e,he,hb⟩:=Array.any_eq_true'.1 h1;simp only [Bool.and_eq_true,beq_iff_eq] at hb;exact absurd hb.2 (hno e he hb.1)
  . exact h1
def grq:List (Nat×Nat)->List Nat
  | (i,6)::r=>i::grq r
  | (i,7)::_=>[i]
  | _=>[]
def lsq:List (Nat×Nat)->Nat
  | (_,6)::r=>lsq r
  | (i,_)::_=>i
  | []=>0
def grz:List (Nat×Nat)->List Nat
  | (i,8)::r=>i::grz r
  | (i,9)::r=>i::grz r
  | (i,10)::_=>[i]
  | _=>[]
def qsz:List (Nat×Nat)->List Nat
  | (_,8)::r=>qsz r
  | (i,9)::r=>i::qsz r
  | (i,10)::_=>[i]
  | _=>[]
def A8w(ops:Array Oper)(listed:Array Bool)(is:List Nat)(i:Nat):Bool :=
  (Region.ready .any ops listed).contains i&&(List.range ops.size).all λj=>listed.getD j true||is.contains j||anc ops ops.size j i
def K8(ops:Array Oper)(nd:List Nat):List (Nat×Nat)->Array Bool->Bool
  | [],listed=>(Region.ready .any ops listed).isEmpty
  | (i,0)::r,listed=>(Region.ready .any ops listed).contains i&&Region.free .any ops listed i&&K8 ops nd r (listed.setIfInBounds i true)
  | (i,1)::r,listed=>(Region.ready .any ops listed).contains i&&Region.free .any ops listed i&&B1H ops nd listed i&&K8 ops nd r (listed.setIfInBounds i true)
  | (i,3)::r,listed=>A8w ops listed (i::grp r) i&&K8 ops nd r (listed.setIfInBounds i true)
  | (i,4)::r,listed=>A8w ops listed [i] i&&K8 ops nd r (listed.setIfInBounds i true)
  | (i,6)::r,listed=>A8w ops listed (i::grq r) i&&A5i ops listed (lsq r)&&K8 ops nd r (listed.setIfInBounds i true)
  | (i,7)::r,listed=>(Region.ready .any ops listed).contains i&&A5i ops listed i&&K8 ops nd r (listed.setIfInBounds i true)
  | (i,8)::r,listed=>A8w ops listed (i::grz r) i&&(qsz r).all (A5i ops listed)&&K8 ops nd r (listed.setIfInBounds i true)
  | (i,9)::r,listed=>(Region.ready .any ops listed).contains i&&(i::qsz r).all (A5i ops listed)&&K8 ops nd r (listed.setIfInBounds i true)
  | (i,10)::r,listed=>(Region.ready .any ops listed).contains i&&A5i ops listed i&&K8 ops nd r (listed.setIfInBounds i true)
  | (i,_)::r,listed=>(Region.ready .any ops listed==[i])&&K8 ops nd r (listed.setIfInBounds i true)
theorem A8x{nd:List Nat}(h:B1H ops nd listed i=true)(j:Nat)(hlt:j<ops.size)(hji:j≠i)(hun:listed.getD j true=false):anc ops ops.size j i=true∨∀w w',T w->(nd.contains j=true->T w->T w')->T w':=by
  have h1:=List.all_eq_true.1 h j (List.mem_range.2 hlt);simp only [Bool.or_eq_true,beq_iff_eq,hji,hun,false_or,Bool.false_eq_true] at h1;rcases h1 with h1|h1
  . exact .inr λw w' hS hw=>hw h1 hS
  . exact .inl h1
def T5(Q:Exit->Act->World->Prop):Exit->Act->World->Prop
  | .panic _,_,_=>False
  | e,a,w=>Q e a w
end draws
def nth:List Oper->Nat->Option Oper
  | [],_=>none
  | o::_,0=>some o
  | _::r,n+1=>nth r n
theorem W8:∀(os:List Oper) (i:Nat),nth os i=os[i]?
  | [],i=>by simp [nth]
  | o::r,0=>by simp [nth]
  | o::r,n+1=>by simp [nth,W8 r n]
def reads:List (Nat×Nat)->Bool
  | []=>false
  | (_,1)::_=>true
  | _::r=>reads r
def XP(C:Cx)(os:List Oper)(Q:XQ)(R:Mem)(nd:List Nat)(plan:List (Nat×Nat))(l:Env)(M J:Mem):Prop :=
  ∀listed,R6 os.toArray listed->K8 os.toArray nd plan listed=true->∀a w,Ag C.N l a->St C M J w->(reads plan=true->Fx R w) ->
    A0K C.P os.toArray (T5 (A8n C Q)) (λw w'=>Fx R w->Fx R w') nd.contains plan.length listed a w
section plan
variable{C:Cx}{Q:XQ}{l:Env}{M J:Mem}{os:List Oper}{R:Mem}{nd:List Nat}{plan:List (Nat×Nat)}
def A0f(os:List Oper)(nd:List Nat)(plan:List (Nat×Nat)):Bool :=
  Region.noSelect os.toArray&&(plan.length==os.length)&&K8 os.toArray nd plan (Array.replicate os.length false)
theorem A2z(R:Mem)(nd:List Nat)(plan:List (Nat×Nat))(hm:C.P.follows .mixedOrders=true)(hp:A0f os nd plan=true)(hR:∀x,x∈R->x∈M++(J++C.A))
    (h:Region.noSelect os.toArray=true->XP C os Q R nd plan l M J):XC C (.region id os.toArray true) Q l M J:=by
  intro a w ha hw;simp only [A0f,Bool.and_eq_true,beq_iff_eq] at hp;obtain ⟨⟨h1,h3⟩,h4⟩:=hp;refine Code.wp_mono (Q:=T5 (A8n C Q)) (λe a w h=>by cases e<;>first|exact h|exact h.elim) ?_;refine wp_region_any hm (A1P (S:=λw w'=>Fx R w->Fx R w') (need:=nd.contains) _ _ _ _ ?_);have:=h h1 (Array.replicate os.length false) (λj oj _ hl=>by simp [Array.getElem?_replicate] at hl;split at hl<;>simp at hl) h4 a _ ha hw.drew (λ_ b o hb=>hw.fx b o (hR _ hb));rw [h3] at this;simpa using this
theorem A1r(R:Mem)(nd:List Nat)(plan:List (Nat×Nat))(hm:C.P.follows .mixedOrders=true)(hp:A0f os nd plan=true)(hR:∀x,x∈R->x∈M++(J++C.A))
    (h:Region.noSelect os.toArray=true->XP C os (A3U C c2 Q) R nd plan l M J):XC C (.seq (.region id os.toArray true) c2) Q l M J :=
  A3 (A2z R nd plan hm hp hR h)
theorem A7n(h:Q .normal l M J):XP C os Q R nd [] l M J:=by intro listed hcl hp a w ha hw hf;simp only [K8,List.isEmpty_iff] at hp;exact ⟨hp,l,M,J,ha,hw,h⟩
theorem A3z{c:Code}(hk:Keep l l')(h:XC C c Q l' M J):XP C os (A3U C c Q) R nd [] l M J:=A7n (A8 hk h)
theorem B6f(hs:Region.noSelect os.toArray=true)
    (hget:nth os i=some ⟨some d,op,ty,pos,af,g⟩)
    (hy:∀a,Ag C.N l a->YieldsIf C.P os.toArray (Fx R) ⟨some d,op,ty,pos,af,g⟩ v a) (hd:Nat.blt d C.N=true)
    (h:XP C os Q R nd plan ((d,v)::l) M J):XP C os Q R nd ((i,1)::plan) l M J:=by
  intro listed hcl hp a w ha hw hf;simp only [K8,Bool.and_eq_true] at hp;obtain ⟨⟨⟨h1,h2⟩,h5⟩,h4⟩:=hp;have hf:=hf rfl;have hi:os.toArray[i]? = some ⟨some d,op,ty,pos,af,g⟩:=by rw [W8] at hget;simpa using hget
  have hr:i∈Region.ready .any os.toArray listed:=by simpa using h1
  exact Y6 (S:=λw w'=>Fx R w->Fx R w') (T:=Fx R) (N:=os.toArray.size) hi (Region.noSelect_spec hs) (λ_ _ _ h=>h) (λ_ h=>h) _ listed a w hcl (Region.free_spec hi h2) (A8x h5) hr (hy a ha) hf
    (h _ (I6 hcl hr) h4 _ w (ha.put (L7 hd) v) hw (λ_=>hf))
theorem B6g(hs:Region.noSelect os.toArray=true)
    (hget:nth os i=some ⟨some d,op,ty,pos,af,g⟩)
    (hy:∀a,Ag C.N l a->YieldsIf C.P os.toArray (λ_=>True) ⟨some d,op,ty,pos,af,g⟩ v a) (hd:Nat.blt d C.N=true)
    (h:XP C os Q R nd plan ((d,v)::l) M J):XP C os Q R nd ((i,0)::plan) l M J:=by
  intro listed hcl hp a w ha hw hf;simp only [K8,Bool.and_eq_true] at hp;obtain ⟨⟨h1,h2⟩,h4⟩:=hp;have hi:os.toArray[i]? = some ⟨some d,op,ty,pos,af,g⟩:=by rw [W8] at hget;simpa using hget
  have hr:i∈Region.ready .any os.toArray listed:=by simpa using h1
  exact Y6 (S:=λw w'=>Fx R w->Fx R w') (T:=λ_=>True) (N:=0) hi (Region.noSelect_spec hs) (λ_ _ _ h=>h) (λ_ h=>h) _ listed a w hcl (Region.free_spec hi h2) (λ_ _ _ _=>.inr λ_ _ _ _=>trivial) hr (hy a ha) trivial
    (h _ (I6 hcl hr) h4 _ w (ha.put (L7 hd) v) hw (λhrd=>hf hrd))
theorem K9(hs:Region.noSelect os.toArray=true)
    (hget:nth os i=some ⟨some d,op,ty,pos,af,none⟩) (hq:OpQ C.P [] ⟨some d,op,ty,pos,af,none⟩ l v) (hd:Nat.blt d C.N=true)
    (h:XP C os Q R nd plan ((d,v)::l) M J):XP C os Q R nd ((i,0)::plan) l M J :=
  B6g hs hget (λa ha=>.inl ⟨rfl,λw hw=>hq C.N a w ha (λ_ _ hb=>by cases hb)⟩) hd h
theorem A5j(hs:Region.noSelect os.toArray=true)
    (hget:nth os i=some ⟨some d,op,ty,pos,af,none⟩) (hq:OpQ C.P R ⟨some d,op,ty,pos,af,none⟩ l v) (hd:Nat.blt d C.N=true)
    (h:XP C os Q R nd plan ((d,v)::l) M J):XP C os Q R nd ((i,1)::plan) l M J :=
  B6f hs hget (λa ha=>.inl ⟨E,λw hw=>hq C.N a w ha hw⟩) hd h
theorem OpL.mono{o:Oper}{K':Env->Mem->Mem->Prop}(h:OpL C o l M J K)(hk:∀l M J,K l M J->K' l M J):OpL C o l M J K':=λQp a w ha hw =>
  Oper.wp_mono (λa' w' ⟨l',M',J',h1,h2,h3⟩=>⟨l',M',J',h1,h2,hk _ _ _ h3⟩) (h Qp a w ha hw)
theorem B1I{o:Oper}(hget:nth os i=some o)(hg:o.guard=none)
    (h:OpL C o l M J (λl' M' J'=>((nd.contains i||reads plan)=true->∀x,x∈R->x∈M'++(J'++C.A))∧XP C os Q R nd plan l' M' J')) :
    XP C os Q R nd ((i,2)::plan) l M J:=by
  intro listed hcl hp a w ha hw hf;simp only [K8,Bool.and_eq_true,beq_iff_eq] at hp;obtain ⟨h1,h2⟩:=hp;have hi:os.toArray[i]? = some o:=by rw [W8] at hget;simpa using hget
  refine ⟨λh0=>(by rw [h1] at h0;cases h0),λj hj=>?_⟩;have hr:=hj;rw [h1] at hj;simp only [List.mem_singleton] at hj;subst hj;unfold wpOp;simp only [hi];rw [if_pos (by simp [Region.wanted,hg])];refine .inl (Oper.wp_mono ?_ (h _ a w ha hw));rintro a' w' ⟨l',M',J',ha',hw',hk,hx⟩;refine ⟨λhn _ b o hb=>hw'.fx b o (hk (by rw [show nd.contains j=true from hn];rfl) _ hb),hx _ (I6 hcl hr) h2 a' w' ha' hw' λhany b o hb=>hw'.fx b o (hk (by simp [hany]) _ hb)⟩
theorem B6h{o:Oper}(hget:nth os i=some o)(hg:o.guard=none)
    (h:OpL C o l M J (λl' M' J'=>(∀x,x∈R->x∈M'++(J'++C.A))∧XP C os Q R nd plan l' M' J')):XP C os Q R nd ((i,2)::plan) l M J :=
  B1I hget hg (h.mono λl' M' J' hh=>⟨λ_=>hh.1,hh.2⟩)
theorem A10{o:Oper}(hget:nth os i=some o)(hg:o.guard=none)(hi:(nd.contains i||reads plan)=false)
    (h:OpL C o l M J (λl' M' J'=>XP C os Q R nd plan l' M' J')):XP C os Q R nd ((i,2)::plan) l M J :=
  B1I hget hg (h.mono λl' M' J' hh=>⟨(λhany=>by rw [hi] at hany;cases hany),hh⟩)
end plan
class At(R:Mem)(b:Nat)(o:outParam Obj):Prop where
  mem:(b,o)∈R
instance At.hd{b:Nat}{o:Obj}{r:Mem}:At ((b,o)::r) b o:=⟨List.mem_cons_self⟩
instance(priority:=low) At.tl{b:Nat}{o:Obj}{x:Nat×Obj}{r:Mem}[h:At r b o]:At (x::r) b o:=⟨Bb _ h.mem⟩
instance At.left{b:Nat}{o:Obj}{r s:Mem}[h:At r b o]:At (r++s) b o:=⟨List.mem_append_left _ h.mem⟩
instance(priority:=low) At.right{b:Nat}{o:Obj}{r s:Mem}[h:At s b o]:At (r++s) b o:=⟨Ai _ h.mem⟩
theorem At.three{o:Obj}(h:At (M++J) b o):(b,o)∈M++(J++A):=by
  have:=h.mem;simp only [List.mem_append] at this ⊢;rcases this with h|h
  . exact .inl h
  . exact .inr (.inl h)
class UpC(M:Mem)(b:Nat)(o:outParam Obj)(o':Obj)(M':outParam Mem):Prop where
  upd:Upd M b o o' M'
instance UpC.hd{b:Nat}{o o':Obj}{r:Mem}:UpC ((b,o)::r) b o o' ((b,o')::r):=⟨.hd⟩
instance(priority:=low) UpC.tl{b:Nat}{o o':Obj}{x:Nat×Obj}{r r':Mem}[h:UpC r b o o' r']:UpC (x::r) b o o' (x::r'):=⟨.tl h.upd⟩
instance(priority:=low) UpC.past{b:Nat}{o o':Obj}{B r r':Mem}[h:UpC r b o o' r']:UpC (B++r) b o o' (B++r'):=⟨uB h.upd⟩
class SetC(cs:List Value)(o:Nat)(v:Value)(cs':outParam (List Value)):Prop where
  set:SetL cs o v cs'
instance SetC.hd{x v:Value}{r:List Value}:SetC (x::r) 0 v (v::r):=⟨.hd⟩
instance SetC.tl{x v:Value}{r r':List Value}{n:Nat}[h:SetC r n v r']:SetC (x::r) (n+1) v (x::r'):=⟨.tl h.set⟩
section byinst
variable{C:Cx}{Q:XQ}{l:Env}{M J:Mem}{ops:Array Oper}{rest:List Oper}{d:Nat}{ty:TypeId}{pos:String}{af:Array Edge}{x y:Operand}
theorem A1s(hx:ev l x=some (.pointer (some ⟨b,o,none⟩)))(ht:A0s C.P t=true)
    [hb:At (M++J) b (Obj.cells cs.toArray e fr)] (hv:cs[o]? = some v) (hd:Nat.blt d C.N=true) (k:XL C ops rest Q ((d,v)::l) M J) :
    XL C ops (⟨some d,.load t x,ty,pos,af,none⟩::rest) Q l M J :=
  C2o (H1 hx ht hb.three hv) hd k
theorem B1J(hx:ev l x=some (.pointer (some ⟨b,0,none⟩)))(ht:A59 C.P t=some n)
    [hb:At (M++J) b (Obj.cells cs.toArray e fr)] (hn:cs.length=n) (hd:Nat.blt d C.N=true) (k:XL C ops rest Q ((d,.agg cs.toArray)::l) M J) :
    XL C ops (⟨some d,.load t x,ty,pos,af,none⟩::rest) Q l M J :=
  C2o (H0 hx ht hb.three hn) hd k
theorem A9p(hx:ev l x=some (.pointer (some ⟨b,0,none⟩)))(hy:ev l y=some (.agg vs.toArray))
    (ht:N2 C.P t=some vs.length) [hb:At M b (blk cs e)] (hl:cs.length=vs.length) (h1:∀u∈vs,u.oneCell'=true) [hu:UpC M b (blk cs e) (blk vs e) M'] (k:XL C ops rest Q l M' J) :
    XL C ops (⟨none,.store t x y,ty,pos,af,none⟩::rest) Q l M J:=A2 E (A5 hx hy E ht hl h1 hu.upd k)
end byinst
variable{Q:XQ}
theorem nx{c:Code}(hk:Keep l l')(h:XC C c Q l' M J):A3U C c Q .normal l M J:=A8 hk h
theorem nb(h:Q .normal l M J):A5v id Q .normal l M J:=h
theorem te{c:Code}(h:Q (.exit i) l M J):A3U C c Q (.exit i) l M J:=h
theorem tr{c:Code}(h:Q .ret l M J):A3U C c Q .ret l M J:=h
theorem br(h:Q .ret l M J):A5v id Q .ret l M J:=h
theorem be(e:Nat.beq i id=true)(h:Q .normal l M J):A5v id Q (.exit i) l M J:=by show (bif Nat.beq i id then _ else _);rw [e];exact h
theorem bo(e:Nat.beq i id=false)(h:Q (.exit i) l M J):A5v id Q (.exit i) l M J:=by show (bif Nat.beq i id then _ else _);rw [e];exact h
theorem re{L:α->Env}{MM JJ:α->Mem}{p:α->Prop}{μ:α->Nat}{x:α}(h:Q (.exit i) l M J):A9m L MM JJ p μ x Q (.exit i) l M J:=h
theorem rr{L:α->Env}{MM JJ:α->Mem}{p:α->Prop}{μ:α->Nat}{x:α}(h:Q .ret l M J):A9m L MM JJ p μ x Q .ret l M J:=h
theorem rn{L:α->Env}{MM JJ:α->Mem}{p:α->Prop}{μ:α->Nat}{x:α}(y:α)(hp:p y)(hμ:μ y<μ x)(hk:Keep l (L y))(hM:Fit M (MM y))(hJ:∀q,q∈JJ y->q∈J) :
    A9m L MM JJ p μ x Q .normal l M J:=⟨y,hp,hμ,hk,hM,hJ⟩
theorem jn{L:α->Env}{MM JJ:α->Mem}{p:α->Prop}(y:α)(hp:p y)(hk:Keep l (L y))(hM:Fit M (MM y))(hJ:∀q,q∈JJ y->q∈J) :
    B9E L MM JJ p Q .normal l M J:=⟨y,hp,hk,hM,hJ⟩
theorem jr{L:α->Env}{MM JJ:α->Mem}{p:α->Prop}(h:Q .ret l M J):B9E L MM JJ p Q .ret l M J:=h
def Rd(R:Mem)(sz:Nat)(v:Value)(n:Nat)(xs:List Value):Prop :=
  ∃p cap,v=.slice p n cap∧xs.length=n*sz∧n<=cap∧(n=0∨∃(b o:Nat) (cs:List Value) (e:TypeId) (fr:Nat×Nat),p=some ⟨b,o,none⟩∧(b,Obj.cells cs.toArray e fr)∈R∧∀j u,xs[j]? = some u->cs[o+j]? = some u)
def Sl(sz:Nat)(v:Value)(n:Nat)(xs:List Value)(B:Mem):Prop :=
  (∃p,v=.slice p 0 0∧n=0∧xs=[]∧B=[]) ∨
  ∃(b o cap:Nat) (cs:List Value) (e:TypeId),v=.slice (some ⟨b,o,none⟩) n cap∧B=[(b,blk cs e)]∧n<=cap∧cap<=maxLen∧o+cap*sz<=cs.length∧xs.length=n*sz∧(∀j u,xs[j]? = some u->cs[o+j]? = some u)
variable{xs:List Value}
theorem Rd.mono{R':Mem}(h:Rd R sz v n xs)(hR:∀x,x∈R->x∈R'):Rd R' sz v n xs:=by obtain ⟨p,cap,h1,h2,h3,h4⟩:=h;refine ⟨p,cap,h1,h2,h3,h4.imp id ?_⟩;rintro ⟨b,o,cs,e,fr,g1,g2,g3⟩;exact ⟨b,o,cs,e,fr,g1,hR _ g2,g3⟩
theorem Sl.rd(h:Sl sz v n xs B)(hR:∀x,x∈B->x∈R):Rd R sz v n xs:=by
  rcases h with ⟨p,rfl,rfl,rfl,rfl⟩|⟨b,o,cap,cs,e,rfl,rfl,h1,h2,h3,h4,h5⟩
  . exact ⟨p,0,E,by simp,Av _,.inl E⟩
  . exact ⟨_,cap,E,h4,h1,.inr ⟨b,o,cs,e,(0,0),E,hR _ (List.mem_singleton.2 E),h5⟩⟩
theorem Sl.nil:Sl sz (.slice none 0 0) 0 [] []:=.inl ⟨none,E,E,E,E⟩
theorem Rd.nil:Rd R sz (.slice none 0 0) 0 []:=⟨none,0,E,by simp,Nat.le_refl _,.inl E⟩
theorem Sl.len(h:Sl sz v n xs B):xs.length=n*sz:=by
  rcases h with ⟨p,rfl,rfl,rfl,rfl⟩|⟨b,o,cap,cs,e,rfl,rfl,h1,h2,h3,h4,h5⟩
  . simp
  . exact h4
variable{cap:Nat}
theorem A2A{c2:Nat}(h:Rd R sz (.slice p n cap) n xs)(hw:Fx R w) :
    (Builtin.firstCells sz n (.slice p m c2)).run P w=.ok xs.toArray w:=by
  obtain ⟨p',cap',e,h1,h3,h2⟩:=h;cases e;by_cases hn:n=0
  . subst hn;have:xs=[]:=Bd (by simpa using h1);subst this;cases p<;>simp [Builtin.firstCells,loadCells,loadCellsFrom]
  . rcases h2 with h2|⟨b,o,cs,e,fr,rfl,hb,hx⟩
    . exact absurd h2 hn
    . have:=run_loadCells_list (P:=P) w ⟨b,o,none⟩ xs (λj v hv=>by rw [Addr.add_mid,A2e hw hb];simpa using hx j v hv);rw [h1] at this;simpa [Builtin.firstCells] using this
def A1t(P:Program)(t:TypeId):Option (TypeId×Nat×Nat) :=
  match P.underlying t with
  | some (.slice e)=>match P.info? e with
    | some i=>match i.zero with
      | some z=>if z.cells.size=i.size then some (e,i.size,i.bytes) else none
      | none=>none
    | none=>none
  | _=>none
variable{by_:Nat}
theorem Q1(h:A1t P t=some (e,sz,by_)) :
    ∃i z,P.underlying t=some (.slice e)∧P.info? e=some i∧i.zero=some z∧z.cells.size=sz∧i.size=sz∧i.bytes=by_:=by
  unfold A1t at h;split at h<;>try cases h
  rename_i e' hu;split at h<;>try cases h
  rename_i i hi;split at h<;>try cases h
  rename_i z hz;split at h<;>simp only [Option.some.injEq,Prod.mk.injEq,reduceCtorEq] at h;rename_i hs;obtain ⟨rfl,rfl,rfl⟩:=h;exact ⟨i,z,hu,hi,hz,hs,E,E⟩
variable{u:Value}{ys:List Value}
theorem A6a(ht:A1t P t=some (e,sz,by_))(hszp:0<sz)
    (hs:Sl sz v n xs B) (hB:∀q,q∈B->q∈R) (hr:Rd R sz u m ys) (hw:Fx R w) (h1c:∀c∈ys,c.oneCell'=true) (hmax:n+m<=maxLen) (hbytes:(n+m)*by_<=140737488355328) :
    ∃v' w' B',(Builtin.append_ #[t,t] ty #[v,u]).run P w=.ok v' w'∧Sl sz v' (n+m) (xs++ys) B' ∧
      ((w'=w∧B'=B) ∨
       (∃(b:Nat) (cs cs':List Value) (e':TypeId),B=[(b,blk cs e')]∧B'=[(b,blk cs' e')]∧w'=w.setRow b cs'.toArray) ∨
       (∃o',B'=[(w.heap.size,o')]∧w'=w.drew.alloc o')):=by
  obtain ⟨i,z,hu,hi,hz,hzs,his,hib⟩:=Q1 ht;obtain ⟨pu,cu,rfl,hul,huc,hub⟩:=hr
  have hru:Rd R sz (.slice pu m cu) m ys:=⟨pu,cu,E,hul,huc,hub⟩
  have hsmall:n+m<=9223372036854775807:=by simp only [maxLen] at hmax;omega
  subst his;subst hib;by_cases hm:m=0
  . subst hm;have hys:ys=[]:=Bd (by simpa using hul);subst hys;have hf:=A2A (P:=P) (m:=0) (c2:=cu) hru hw;refine ⟨v,w,B,?_,by simpa using hs,.inl ⟨E,E⟩⟩;rcases hs with ⟨p,rfl,rfl,rfl,rfl⟩|⟨b,o,cap,cs,e',rfl,rfl,h1,h2,h3,h4,h5⟩
    . cases p<;>simp [Builtin.append_,run_underlying hu,sizeOf,typeInfo,hi,Builtin.lenOf,hf,storeCells]
    . simp [Builtin.append_,run_underlying hu,sizeOf,typeInfo,hi,Builtin.lenOf,hf,storeCells,h1]
  . obtain ⟨bu,ou,csu,eu,fru,rfl,hbu,hxu⟩:∃(b o:Nat) (cs:List Value) (e:TypeId) (fr:Nat×Nat),pu=some ⟨b,o,none⟩∧(b,Obj.cells cs.toArray e fr)∈R∧∀j u,ys[j]? = some u->cs[o+j]? = some u:=by
      rcases hub with h|h
      . exact absurd h hm
      . exact h
    have hnews:∀j u,ys[j]? = some u->w.cell? ((⟨bu,ou,none⟩:Addr).add j)=some u:=λj u hj=>by rw [Addr.add_mid,A2e hw hbu];simpa using hxu j u hj
    have made:∀(r:Value) (cap':Nat) (w':World),r=.slice (some ⟨w.heap.size,0,none⟩) (n+m) cap'->n+m<=cap'->cap'<=maxLen->xs.length=n*i.size ->
        Sl i.size r (n+m) (xs++ys) [(w.heap.size,.cells (xs.toArray++ys.toArray++Builtin.zeroCells z.cells (cap'-(n+m))) e (0,0))]:=by
      intro r cap' w' hr' hc1 hc2 hxl;refine .inr ⟨w.heap.size,0,cap',(xs.toArray++ys.toArray++Builtin.zeroCells z.cells (cap'-(n+m))).toList,e,hr',by simp [blk],hc1,hc2,?_,?_,?_⟩
      . simp only [Array.length_toList,Array.size_append,List.size_toArray,size_zeroCells,hzs,hxl,hul,<- Nat.add_mul,Nat.zero_add];refine Au _ ?_;omega
      . simp [hxl,hul,Nat.add_mul]
      . intro j u hj;have hlt:j<(xs++ys).length:=(Ac.1 hj).1;rw [Nat.zero_add];simp only [Array.toList_append,List.append_assoc];rw [<- Ap,Ak (by simpa using hlt)];exact hj
    rcases hs with ⟨p,rfl,rfl,rfl,rfl⟩|⟨b,o,cap,cs,e',rfl,rfl,h1,h2,h3,h4,h5⟩
    . have hge:=grownCap_ge w (0+m) 0 e;have hcm:grownCap w (0+m) 0 e<=maxLen:=grownCap_le_maxLen w (0+m) 0 e hmax;have hfit:Builtin.nextslicecap (0+m) 0*i.bytes<=281474976710656:=growslice_fits (by omega) hbytes
      cases p with
      | none =>
        have hrn:=run_append_nil (P:=P) w t ty e i z hu hi hz ⟨bu,ou,none⟩ m cu ys hul hnews (by omega) (by omega) (by simp at hbytes;omega);rw [Nat.zero_add] at hge hcm;refine ⟨_,_,_,hrn,?_,.inr (.inr ⟨_,E,E⟩)⟩;have:=made _ (grownCap w m 0 e) w (by rw [Nat.zero_add]) (by omega) hcm (by simp);simpa using this
      | some pa =>
        have hrg:=run_append_grow (P:=P) w t ty e i z hu hi hz pa 0 0 [] (by simp) (by simp) ⟨bu,ou,none⟩ m cu ys hul hnews (by omega) (by omega) hfit;refine ⟨_,_,_,hrg,?_,.inr (.inr ⟨_,E,E⟩)⟩;exact made _ _ w E hge hcm (by simp)
    . have hb:=hw b _ (hB _ (List.mem_singleton.2 E));by_cases hroom:n+m<=cap
      . have hfc:=run_firstCells_some (P:=P) w i.size m ⟨bu,ou,none⟩ m cu ys hul hnews
        have hfit:o+n*i.size+ys.length<=cs.length:=by
          have:n*i.size+ys.length<=cap*i.size:=by rw [hul,<- Nat.add_mul];exact Au _ hroom
          omega
        have hst:=run_storeCells_at (P:=P) b (o+n*i.size) e' ys 0 cs.toArray w hb (by simpa using hfit) h1c;simp only [Nat.add_zero] at hst;refine ⟨.slice (some ⟨b,o,none⟩) (n+m) cap,w.setRow b (cs.take (o+n*i.size)++ys++cs.drop (o+n*i.size+ys.length)).toArray,_,?_,?_,.inr (.inl ⟨b,cs,_,e',E,E,E⟩)⟩
        . simp [Builtin.append_,run_underlying hu,sizeOf,typeInfo,hi,Builtin.lenOf,hroom,hfc,Addr.add_mid,hst]
        . refine .inr ⟨b,o,cap,_,e',E,E,hroom,h2,?_,?_,?_⟩
          . simp only [List.length_append,List.length_take,List.length_drop];omega
          . simp [h4,hul,Nat.add_mul]
          . intro j q hj;by_cases hjx:j<xs.length
            . rw [Ak hjx] at hj;rw [Ap,Ak (by simp;omega),Cd (by omega)];exact h5 j q hj
            . rw [Aq (by omega)] at hj;have hlt:=(Ac.1 hj).1;have hln:(cs.take (o+n*i.size)).length=o+n*i.size:=by simp;omega
              rw [Ap,Aq (by omega),Ak (by omega),hln,<- hj];congr 1;omega
      . have hge:=grownCap_ge w (n+m) cap e;have hcm:grownCap w (n+m) cap e<=maxLen:=grownCap_le_maxLen w (n+m) cap e hmax;have hrg:=run_append_grow (P:=P) w t ty e i z hu hi hz ⟨b,o,none⟩ n cap xs h4 (λj q hj=>by rw [Addr.add_mid,cell_of_row w b _ cs.toArray e' (0,0) hb];simpa using h5 j q hj) ⟨bu,ou,none⟩ m cu ys hul hnews (by omega) (by omega) (growslice_fits (by omega) hbytes);refine ⟨_,_,_,hrg,?_,.inr (.inr ⟨_,E,E⟩)⟩;exact made _ _ w E hge hcm h4
section append
variable{C:Cx}{l:Env}{M J:Mem}{K:Env->Mem->Mem->Prop}{d:Nat}{ty:TypeId}{pos:String}{af:Array Edge}{g:Option (Nat×Bool)}{x y:Operand}
theorem V8{M0:Mem}(hx:ev l x=some v)(hy:ev l y=some u)(ht:A1t C.P t=some (e,sz,by_))(hsz:Nat.blt 0 sz=true)
    (hs:Sl sz v n xs B) (hr:Rd (M++(J++C.A)) sz u m ys) (h1c:∀c∈ys,c.oneCell'=true) (hM:M.Perm (B++M0)) (hmax:n+m<=maxLen) (hbytes:(n+m)*by_<=140737488355328) (hd:Nat.blt d C.N=true)
    (k:∀v' B',Sl sz v' (n+m) (xs++ys) B'->K ((d,v')::l) (B'++M0) J) :
    OpL C ⟨some d,.call { callee:=.builtin .append,args:=#[x,y],argTypes:=#[t,t] },ty,pos,af,g⟩ l M J K:=by
  intro Qp a w ha hw;obtain ⟨v',w',B',hrun,hsl,hcase⟩:=A6a (P:=C.P) (ty:=ty) (R:=M++(J++C.A)) ht (L7 hsz) hs (λq hq=>by have:=hM.mem_iff.2 (Ae M0 hq);simp [this]) hr hw.fx h1c hmax hbytes
  have hexec:(execOp a.eval ⟨some d,.call { callee:=.builtin .append,args:=#[x,y],argTypes:=#[t,t] },ty,pos,af,g⟩).run C.P w=.ok (.value v') w':=by simp [execOp,resolve,invoke,builtin,ha.ev hx,ha.ev hy,hrun]
  unfold Oper.wp;rw [hexec];refine ⟨_,B'++M0,J,ha.put (L7 hd) v',?_,k v' B' hsl⟩;rcases hcase with ⟨rfl,rfl⟩|⟨b,cs,cs',e',rfl,rfl,rfl⟩|⟨o',rfl,rfl⟩
  . exact hw.perm hM
  . exact (hw.perm hM).setRow (M':=[(b,blk cs' e')]++M0) Upd.hd
  . have h2:St C ((w.heap.size,o')::M) J (w.drew.alloc o'):=St.alloc (w:=w.drew) hw.drew o';have h3:=h2.perm (M':=(w.heap.size,o')::(B++M0)) (List.Perm.cons _ hM);exact h3.drop (List.Sublist.cons_cons _ (List.sublist_append_right B M0)) (λ_ h=>h)
end append
class Cel(v:Value)(vs:outParam (List Value)):Prop where
  cel:v.cells=vs.toArray
instance{vs:List Value}:Cel (.agg vs.toArray) vs:=⟨E⟩
instance{k:IntKind}{n:Int}:Cel (.int k n) [.int k n]:=⟨E⟩
instance{b:Bool}:Cel (.bool b) [.bool b]:=⟨E⟩
instance{s:ByteArray}:Cel (.string s) [.string s]:=⟨E⟩
instance{p:Option Addr}:Cel (.pointer p) [.pointer p]:=⟨E⟩
instance{p:Option Addr}{n c:Nat}:Cel (.slice p n c) [.slice p n c]:=⟨E⟩
instance{r:Option Nat}:Cel (.map r) [.map r]:=⟨E⟩
class SetR(z:List Value)(off:Nat)(vs:List Value)(z':outParam (List Value)):Prop where
  set:off+vs.length<=z.length∧z'=z.take off++vs++z.drop (off+vs.length)
instance SetR.nil{r:List Value}:SetR r 0 [] r:=⟨by simp⟩
instance SetR.put{x v:Value}{r vs r':List Value}[h:SetR r 0 vs r']:SetR (x::r) 0 (v::vs) (v::r'):=⟨by
  obtain ⟨h1,h2⟩:=h.set;simp only [Nat.zero_add,List.take_zero,Cw] at h1 h2;subst h2
  simp [h1]⟩
instance SetR.skip{x:Value}{r vs r':List Value}{n:Nat}[h:SetR r n vs r']:SetR (x::r) (n+1) vs (x::r'):=⟨by
  obtain ⟨h1,h2⟩:=h.set;subst h2;refine ⟨by simp;omega,?_⟩;rw [show n+1+vs.length=(n+vs.length)+1 from by omega]
  simp⟩
theorem B1K(vs:List Value):∀(cs:List Value) (off k:Nat),off+k+vs.length<=cs.length ->
    (vs.zipIdx k).foldl (λ(cs:Array Value) x=>cs.setIfInBounds (off+x.2) x.1) cs.toArray=(cs.take (off+k)++vs++cs.drop (off+k+vs.length)).toArray:=by
  induction vs with
  | nil=>intro cs off k h;simp
  | cons v vs ih =>
    intro cs off k h;simp only [List.length_cons] at h;simp only [List.zipIdx_cons,List.foldl_cons,List.setIfInBounds_toArray];rw [ih (cs.set (off+k) v) off (k+1) (by simp;omega)];have e:=list_seg_step cs (off+k) v vs (by omega);simp only [Nat.add_assoc] at e ⊢;congr 1
variable{place:Nat->Option (Nat×Nat)}{z z':List Value}
theorem B6i{rest:List (Nat×Value)}(hp:place i=some (off,sz))(hv:v.cells=vs.toArray)(hsz:vs.length=sz)
    (hs:SetR z off vs z'):Instr.fill place z.toArray ((i,v)::rest)=Instr.fill place z'.toArray rest:=by
  obtain ⟨h1,h2⟩:=hs.set;have hf:=B1K vs z off 0 (by simpa using h1);simp only [Nat.add_zero] at hf;rw [Instr.fill];simp only [hp,hv]
  have c1:((vs.toArray.size != sz)||decide (off+vs.toArray.size > z.toArray.size))=false:=by simp [hsz];omega
  simp only [List.size_toArray] at c1;simp only [ne_eq,List.size_toArray];have e:vs.toArray.zipIdx=(vs.zipIdx 0).toArray:=by simp
  rw [e,List.foldl_toArray',hf,<- h2]
  . rw [if_neg];simp [hsz];omega
  . simp
inductive Bld(place:Nat->Option (Nat×Nat)):List Value->List (Nat×Value)->List Value->Prop
  | nil {z:List Value}:Bld place z [] z
  | cons {z z' cs:List Value} {i off sz:Nat} {v:Value} {vs:List Value} {r:List (Nat×Value)} (hp:place i=some (off,sz)) (hv:v.cells=vs.toArray) (hsz:vs.length=sz) (hs:SetR z off vs z') (h:Bld place z' r cs) :
      Bld place z ((i,v)::r) cs
theorem Bld.fill{place:Nat->Option (Nat×Nat)}{z cs:List Value}{ps:List (Nat×Value)}(h:Bld place z ps cs):Instr.fill place z.toArray ps=some cs.toArray:=by
  induction h with
  | nil=>rfl
  | cons hp hv hsz hs _ ih=>rw [B6i hp hv hsz hs];exact ih
inductive EvB(l:Env):List (Nat×Operand)->List (Nat×Value)->Prop
  | nil:EvB l [] []
  | cons {i:Nat} {x:Operand} {v:Value} {xs:List (Nat×Operand)} {vs:List (Nat×Value)} (h:ev l x=some v) (r:EvB l xs vs):EvB l ((i,x)::xs) ((i,v)::vs)
theorem e0:EvB l [] []:=.nil
theorem eS{xs:List (Nat×Operand)}{vs:List (Nat×Value)}(h:ev l x=some v)(r:EvB l xs vs):EvB l ((i,x)::xs) ((i,v)::vs):=.cons h r
theorem EvB.map{l:Env}{xs:List (Nat×Operand)}{vs:List (Nat×Value)}(h:EvB l xs vs){N:Nat}{a:Act}(ha:Ag N l a):xs.map (λ(i,x)=>(i,a.eval x))=vs:=by
  induction h with
  | nil=>rfl
  | cons h _ ih=>simp [ha.ev h];exact ih
theorem bd0:Bld place z [] z:=.nil
theorem bdS(off sz:Nat){r:List (Nat×Value)}(hp:place i=some (off,sz))[hv:Cel v vs][hs:SetR z off vs z'](hsz:vs.length=sz)
    (h:Bld place z' r cs):Bld place z ((i,v)::r) cs:=.cons hp hv.cel hsz hs h
variable{ps:List (Nat×Operand)}
section build
variable{P:Program}{R:Mem}{l:Env}{d:Option Nat}{ty:TypeId}{pos:String}{af:Array Edge}{g:Option (Nat×Bool)}
theorem E6{vs:List (Nat×Value)}(hb:∀parts,P.built t parts=Instr.fill place z.toArray parts)(hp:EvB l ps vs)
    (h:Bld place z vs cs):OpQ P R ⟨d,.build t ps.toArray,ty,pos,af,g⟩ l (.agg cs.toArray):=λN a w ha hw=>by
  have e:(ps.toArray.map λ(i,x)=>(i,a.eval x))=vs.toArray:=by rw [List.map_toArray,hp.map ha]
  have hr:=run_build (P:=P) w t vs.toArray cs.toArray (by rw [hb];exact h.fill);simp only [execOp,e,Sem.run_bind,hr,Result.andThen_ok,Sem.run_pure]
def zsl(P:Program)(t:TypeId)(len:Nat):Option (TypeId×Nat×List Value) :=
  match P.underlying t with
  | some (.slice e)=>match P.info? e with
    | some i=>match i.zero with
      | some z=>if len*i.size > 2^24 then none else some (e,i.size,((Array.range (len*i.size)).map (λj=>(if len*i.size=0 then #[] else z.cells)[j%(if len*i.size=0 then #[] else z.cells).size]!)).toList)
      | none=>none
    | none=>none
  | _=>none
theorem C4{d:Nat}{len:Nat}{vs:List (Nat×Value)}(hz:zsl C.P t len=some (e,sz,z))(hp:EvB l ps vs)
    (h:Bld (λi=>some (i*sz,sz)) z vs cs) (hd:Nat.blt d C.N=true) (k:∀b,K ((d,.slice (some ⟨b,0,none⟩) len len)::l) ((b,blk cs e)::M) J) :
    OpL C ⟨some d,.buildSlice t len ps.toArray,ty,pos,af,g⟩ l M J K:=by
  intro Qp a w ha hw;unfold zsl at hz;split at hz<;>try cases hz
  rename_i e' hu;split at hz<;>try cases hz
  rename_i i hi;split at hz<;>try cases hz
  rename_i zv hzv;split at hz<;>simp only [Option.some.injEq,Prod.mk.injEq,reduceCtorEq] at hz;rename_i hlen;obtain ⟨rfl,rfl,rfl⟩:=hz;have e1:(ps.toArray.map λ(i,x)=>(i,a.eval x))=vs.toArray:=by rw [List.map_toArray,hp.map ha]
  have hfill:=h.fill;rw [Array.toArray_toList] at hfill
  have hrun:(Instr.buildSlice t len vs.toArray).run C.P w=.ok (.slice (some ⟨w.heap.size,0,none⟩) len len) (w.alloc (.cells cs.toArray e')):=by
    by_cases h0:len*i.size=0
    . simp only [h0,if_true] at hfill;have hfill:Instr.fill (λj=>some (j*i.size,i.size)) #[] vs=some cs.toArray:=by simpa [Array.range_zero'] using hfill
      simp [Array.range_zero',Instr.buildSlice,run_underlying hu,sizeOf,typeInfo,hi,h0,hfill,A1O]
    . simp only [h0,if_false] at hfill;have hlen':¬ 16777216<len*i.size:=by simpa using hlen
      simp [Instr.buildSlice,run_underlying hu,sizeOf,typeInfo,hi,h0,hlen',zeroValue,hzv,hfill,A1O]
  unfold Oper.wp;simp only [execOp,e1,Sem.run_bind,hrun,Result.andThen_ok,Sem.run_pure];exact ⟨_,_,J,ha.put (L7 hd) _,hw.alloc _,k _⟩
end build
inductive EvO(l:Env):Option Operand->Option Nat->Prop
  | none:EvO l none none
  | some {x:Operand} {k:IntKind} {i:Int} {n:Nat} (h:ev l x=some (.int k i)) (hi:i=n):EvO l (some x) (some n)
theorem o0:EvO l none none:=.none
theorem o1{i:Int}(n:Nat)(h:ev l x=some (.int k i))(hi:i=n):EvO l (some x) (some n):=.some h hi
theorem A5k{y:Nat}{c:BoundsCode}(h:n<=y)(w:World):(Instr.sliceBound (.int k n) y c).run P w=.ok n w:=by
  have:(0:Int)<=(n:Int)∧(n:Int)<=(y:Int):=⟨by omega,by omega⟩
  simp [Instr.sliceBound,asIntOf,this]
variable{mx:Option Operand}{nl nh nm:Option Nat}
theorem V9{lo hi:Option Operand}{a:Act}(ha:Ag N l a)(h1:EvO l lo nl)(h2:EvO l hi nh)(h3:EvO l mx nm)(b:Bool)(len cap:Nat)(w:World)
    (hm:nm.getD cap<=cap) (hh:nh.getD len<=nm.getD cap) (hl:nl.getD 0<=nh.getD len) (hmh:nm.isSome=true->nh.isSome=true) :
    (Instr.sliceBounds b len cap (lo.map a.eval) (hi.map a.eval) (mx.map a.eval)).run P w=.ok (nl.getD 0,nh.getD len,nm.getD cap) w:=by
  cases h1<;>cases h2<;>cases h3 <;>
    simp_all [Instr.sliceBounds,Ag.ev ha,A5k]
section slices
variable{P:Program}{R:Mem}{l:Env}{d:Option Nat}{ty:TypeId}{pos:String}{af:Array Edge}{g:Option (Nat×Bool)}{x:Operand}
theorem A2f{lo hi:Option Operand}(hx:ev l x=some (.slice p n c))(hu:P.underlying t=some (.slice e))(hs:N2 P e=some sz)
    (h1:EvO l lo nl) (h2:EvO l hi nh) (h3:EvO l mx nm) (hmh:nm.isSome=true->nh.isSome=true) (hm:nm.getD c<=c) (hh:nh.getD n<=nm.getD c) (hl:nl.getD 0<=nh.getD n) :
    OpQ P R ⟨d,.slice t x lo hi mx,ty,pos,af,g⟩ l (.slice (if nm.getD c=nl.getD 0 then p else p.map (·.add (nl.getD 0*sz))) (nh.getD n-nl.getD 0) (nm.getD c-nl.getD 0)):=λN a w ha hw=>by
  unfold N2 at hs
  cases hq:P.info? e with
  | none=>simp [hq] at hs
  | some inf =>
    simp only [hq,Option.map_some,Option.some.injEq] at hs;subst hs;simp only [execOp,ha.ev hx,Instr.sliceAt,Sem.run_bind,run_underlying hu,Result.andThen_ok,Instr.slice,V9 ha h1 h2 h3 true n c w hm hh hl hmh];simp [sizeOf,typeInfo,hq]
end slices
variable{e':TypeId}{zs:List Value}
section more
variable{C:Cx}{l:Env}{M J:Mem}{K:Env->Mem->Mem->Prop}{ty:TypeId}{pos:String}{af:Array Edge}{g:Option (Nat×Bool)}{x y:Operand}
theorem A7o(hx:ev l x=some (.slice (some ⟨b,o,none⟩) n cap))(hy:ev l y=some u)(ht:A1t C.P t=some (e,sz,by_))
    (hr:Rd (M++(J++C.A)) sz u m ys) (h1c:∀c∈ys,c.oneCell'=true) (hroom:n+m<=cap) (hfit:o+cap*sz<=cs.length) (hcs:cs.take (o+n*sz)++ys++cs.drop (o+(n+m)*sz)=cs') (hu:Upd M b (blk cs e') (blk cs' e') M')
    (hd:Nat.blt d C.N=true) (k:K ((d,.slice (some ⟨b,o,none⟩) (n+m) cap)::l) M' J) :
    OpL C ⟨some d,.call { callee:=.builtin .append,args:=#[x,y],argTypes:=#[t,t] },ty,pos,af,g⟩ l M J K:=by
  intro Qp a w ha hw;obtain ⟨i,z,hut,hi,hz,hzs,his,hib⟩:=Q1 ht;subst his;obtain ⟨pu,cu,rfl,hul,huc,hub⟩:=hr
  have hru:Rd (M++(J++C.A)) i.size (.slice pu m cu) m ys:=⟨pu,cu,E,hul,huc,hub⟩
  have hb:=hw.mem _ _ (Ae _ hu.mem);have hf:=A2A (P:=C.P) (m:=m) (c2:=cu) hru hw.fx
  have hfit':o+n*i.size+ys.length<=cs.length:=by
    have:n*i.size+ys.length<=cap*i.size:=by rw [hul,<- Nat.add_mul];exact Au _ hroom
    omega
  have hst:=run_storeCells_at (P:=C.P) b (o+n*i.size) e' ys 0 cs.toArray w hb (by simpa using hfit') h1c;simp only [Nat.add_zero,hul,Nat.add_assoc,<- Nat.add_mul] at hst;rw [hcs] at hst
  have hrun:(execOp a.eval ⟨some d,.call { callee:=.builtin .append,args:=#[x,y],argTypes:=#[t,t] },ty,pos,af,g⟩).run C.P w=.ok (.value (.slice (some ⟨b,o,none⟩) (n+m) cap)) (w.setRow b cs'.toArray):=by simp [execOp,resolve,invoke,builtin,ha.ev hx,ha.ev hy,Builtin.append_,run_underlying hut,sizeOf,typeInfo,hi,Builtin.lenOf,hroom,hf,Addr.add_mid,hst]
  unfold Oper.wp;rw [hrun];exact ⟨_,M',J,ha.put (L7 hd) _,hw.setRow hu,k⟩
def zn(P:Program)(t:TypeId)(n:Nat):Option (List Value) :=
  match P.underlying t with
  | some (.slice e)=>match P.info? e with
    | some i=>match i.zero with
      | some z=>some (Builtin.zeroCells z.cells n).toList
      | none=>none
    | none=>none
  | _=>none
theorem B8t(h:zn P t n=some zs)(ht:A1t P t=some (e,sz,by_)):zs.length=n*sz:=by obtain ⟨i,z,hu,hi,hz,hzs,his,hib⟩:=Q1 ht;unfold zn at h;simp only [hu,hi,hz,Option.some.injEq] at h;subst h;rw [Array.length_toList,size_zeroCells,hzs]
theorem A8y(hx:ev l x=some (.slice (some ⟨b,o,none⟩) n cap))(ht:A1t C.P t=some (e,sz,by_))(hz:zn C.P t n=some zs)
    (h1:∀c∈zs,c.oneCell'=true) (hfit:o+n*sz<=cs.length) (hcs:cs.take o++zs++cs.drop (o+n*sz)=cs') (hu:Upd M b (blk cs e') (blk cs' e') M') (k:K l M' J) :
    OpL C ⟨none,.call { callee:=.builtin .clear,args:=#[x],argTypes:=#[t] },ty,pos,af,g⟩ l M J K:=by
  intro Qp a w ha hw;have hzl:=B8t hz ht;obtain ⟨i,z,hut,hi,hzz,hzs,his,hib⟩:=Q1 ht;subst his;have hb:=hw.mem _ _ (Ae _ hu.mem);unfold zn at hz;simp only [hut,hi,hzz,Option.some.injEq] at hz;have hst:=run_storeCells_at (P:=C.P) b o e' zs 0 cs.toArray w hb (by simpa [hzl] using hfit) h1;simp only [Nat.add_zero,hzl] at hst;rw [hcs] at hst;unfold Oper.wp;by_cases hn:n=0
  . subst hn;have hzs0:zs=[]:=Bd (by simpa using hzl)
    have hrun:(execOp a.eval ⟨none,.call { callee:=.builtin .clear,args:=#[x],argTypes:=#[t] },ty,pos,af,g⟩).run C.P w=.ok (.value (.tuple #[])) w:=by simp [execOp,resolve,invoke,builtin,ha.ev hx,Builtin.clear_,run_underlying hut]
    rw [hrun];subst hzs0;have e1:cs'=cs:=by rw [<- hcs];simp
    subst e1;have hMM:w=w.setRow b cs'.toArray:=by rw [setRow_self w b cs'.toArray e' (0,0) hb]
    refine ⟨l,M',J,ha,?_,k⟩;rw [hMM];exact hw.setRow hu
  . have hrun:(execOp a.eval ⟨none,.call { callee:=.builtin .clear,args:=#[x],argTypes:=#[t] },ty,pos,af,g⟩).run C.P w=.ok (.value (.tuple #[])) (w.setRow b cs'.toArray):=by
      obtain ⟨n',rfl⟩:∃n',n=n'+1:=⟨n-1,by omega⟩
      simp [execOp,resolve,invoke,builtin,ha.ev hx,Builtin.clear_,run_underlying hut,zeroValue,typeInfo,hi,hzz,hz,hst]
    rw [hrun];exact ⟨l,M',J,ha,hw.setRow hu,k⟩
end more
theorem Rd.part(h:Rd R sz (.slice p n c) n xs)(lo hi m:Nat)(h1:lo<=hi)(h2:hi<=n)(h3:hi<=m) :
    Rd R sz (.slice (if m=lo then p else p.map (·.add (lo*sz))) (hi-lo) (m-lo)) (hi-lo) ((xs.drop (lo*sz)).take ((hi-lo)*sz)):=by
  obtain ⟨p',c',e,hl,hc,hb⟩:=h;cases e;have hle:hi*sz<=n*sz:=Au _ h2;have hle':lo*sz<=hi*sz:=Au _ h1;refine ⟨_,_,E,?_,by omega,?_⟩
  . simp only [List.length_take,List.length_drop,hl,Nat.sub_mul];omega
  . by_cases he:hi=lo
    . left;omega
    . right;rcases hb with hb|⟨b,o,cs,e,fr,rfl,hb,hx⟩
      . omega
      . refine ⟨b,o+lo*sz,cs,e,fr,?_,hb,?_⟩
        . rw [if_neg (by omega)];simp [Addr.add_mid]
        . intro j u hj;rw [List.getElem?_take] at hj;split at hj
          . rw [List.getElem?_drop] at hj;rw [Nat.add_assoc];exact hx _ u hj
          . cases hj
theorem Sl.hi(h:Sl sz (.slice p n c) n xs B)(k:Nat)(hk:k<=n):Sl sz (.slice p k c) k (xs.take (k*sz)) B:=by
  rcases h with ⟨p',e,rfl,rfl,rfl⟩|⟨b,o,cap,cs,e,hv,rfl,h1,h2,h3,h4,h5⟩
  . cases e;obtain rfl:k=0:=by omega
    exact .inl ⟨p,E,E,by simp,E⟩
  . cases hv;have hle:k*sz<=n*sz:=Au _ hk;refine .inr ⟨b,o,c,cs,e,E,E,by omega,h2,h3,by rw [Bj,h4];omega,?_⟩;intro j u hj;rw [List.getElem?_take] at hj;split at hj
    . exact h5 j u hj
    . cases hj
theorem Sl.lo(h:Sl sz (.slice p n c) n xs B)(k:Nat)(hk:k<=n) :
    ∃B',B'.Sublist B∧Sl sz (.slice (if c=k then p else p.map (·.add (k*sz))) (n-k) (c-k)) (n-k) (xs.drop (k*sz)) B':=by
  rcases h with ⟨p',e,rfl,rfl,rfl⟩|⟨b,o,cap,cs,e,hv,rfl,h1,h2,h3,h4,h5⟩
  . cases e;obtain rfl:k=0:=by omega
    exact ⟨[],Ao _,.inl ⟨_,E,E,by simp,E⟩⟩
  . cases hv;by_cases hc:c=k
    . have hn:n=k:=by omega
      refine ⟨[],Aa _,.inl ⟨some ⟨b,o,none⟩,?_,by omega,?_,E⟩⟩
      . subst hc;simp;omega
      . rw [hn] at h4;simp [<- h4]
    . have hle:k*sz<=n*sz:=Au _ hk;have hle2:k*sz<=c*sz:=Au _ (by omega);refine ⟨_,Ao _,.inr ⟨b,o+k*sz,c-k,cs,e,?_,E,by omega,by omega,?_,?_,?_⟩⟩
      . rw [if_neg hc];simp [Addr.add_mid]
      . rw [Nat.sub_mul];omega
      . simp [h4,Nat.sub_mul]
      . intro j u hj;rw [List.getElem?_drop] at hj;rw [Nat.add_assoc];exact h5 _ u hj
theorem Sl.val(h:Sl sz v n xs B):∃p c,v=.slice p n c∧n<=c:=by
  rcases h with ⟨p,rfl,rfl,rfl,rfl⟩|⟨b,o,cap,cs,e,rfl,rfl,h1,h2,h3,h4,h5⟩
  . exact ⟨p,0,E,Av _⟩
  . exact ⟨_,cap,E,h1⟩
variable{h:Nat}{i':Int}
section slices2
variable{P:Program}{R:Mem}{l:Env}{d:Option Nat}{ty:TypeId}{pos:String}{af:Array Edge}{g:Option (Nat×Bool)}{x y:Operand}
theorem A7p{i:Int}(hx:ev l x=some (.slice p n c))(hy:ev l y=some (.int k i))(hu:P.underlying t=some (.slice e))(hs:N2 P e=some sz)(hi:i=h)(hh:h<=c) :
    OpQ P R ⟨d,.slice t x none (some y) none,ty,pos,af,g⟩ l (.slice p h c):=by
  have:=A2f (R:=R) (d:=d) (ty:=ty) (pos:=pos) (af:=af) (g:=g) hx hu hs o0 (o1 h hy hi) o0 (by simp) (by simp) (by simpa using hh) (by simp)
  cases p with
  | none=>simpa using this
  | some a=>simpa [Addr.add] using this
theorem A9q{i:Int}(hx:ev l x=some (.slice p n c))(hy:ev l y=some (.int k i))(hu:P.underlying t=some (.slice e))(hs:N2 P e=some sz)(hi:i=h)(hh:h<=n)(hc:n<=c) :
    OpQ P R ⟨d,.slice t x (some y) none none,ty,pos,af,g⟩ l (.slice (if c=h then p else p.map (·.add (h*sz))) (n-h) (c-h)):=by
  have:=A2f (R:=R) (d:=d) (ty:=ty) (pos:=pos) (af:=af) (g:=g) hx hu hs (o1 h hy hi) o0 o0 (by simp) (by simp) (by simpa using hc) (by simpa using hh);simpa using this
theorem B8u{lo hi:Nat}{i:Int}{z:Operand}(hx:ev l x=some (.slice p n c))(hy:ev l y=some (.int k i))(hz:ev l z=some (.int k' i'))(hu:P.underlying t=some (.slice e))(hs:N2 P e=some sz)
    (h1:i=lo) (h2:i'=hi) (hh:lo<=hi) (hc:hi<=c) :
    OpQ P R ⟨d,.slice t x (some y) (some z) none,ty,pos,af,g⟩ l (.slice (if c=lo then p else p.map (·.add (lo*sz))) (hi-lo) (c-lo)):=by
  have:=A2f (R:=R) (d:=d) (ty:=ty) (pos:=pos) (af:=af) (g:=g) hx hu hs (o1 lo hy h1) (o1 hi hz h2) o0 (by simp) (by simp) (by simpa using hc) (by simpa using hh);simpa using this
end slices2
theorem Rd.lo(h:Rd R sz (.slice p n c) n xs)(k:Nat)(hk:k<=n) :
    Rd R sz (.slice (if c=k then p else p.map (·.add (k*sz))) (n-k) (c-k)) (n-k) (xs.drop (k*sz)):=by
  have hc:n<=c:=by obtain ⟨p',c',e,hl,hc,hb⟩:=h;cases e;exact hc
  have hl:xs.length=n*sz:=by obtain ⟨p',c',e,hl,hc,hb⟩:=h;exact hl
  have:=h.part k n c hk (Av _) hc;rwa [Aw (by simp [hl,Nat.sub_mul])] at this
theorem Rd.hi(h:Rd R sz (.slice p n c) n xs)(k:Nat)(hk:k<=n) :
    Rd R sz (.slice p k c) k (xs.take (k*sz)):=by
  obtain ⟨p',c',e,hl,hc,hb⟩:=h;cases e;have hle:k*sz<=n*sz:=Au _ hk;refine ⟨p,c,E,by rw [Bj,hl];omega,by omega,?_⟩;rcases hb with hb|⟨b,o,cs,e,fr,rfl,hb,hx⟩
  . left;omega
  . right;refine ⟨b,o,cs,e,fr,E,hb,?_⟩;intro j u hj;rw [List.getElem?_take] at hj;split at hj
    . exact hx j u hj
    . cases hj
section slices3
variable{P:Program}{R:Mem}{l:Env}{d:Option Nat}{ty:TypeId}{pos:String}{af:Array Edge}{g:Option (Nat×Bool)}{x y:Operand}
theorem B1L{lo hi:Nat}{i:Int}{z:Operand}(hx:ev l x=some (.slice (some ⟨b,o,none⟩) n c))(hy:ev l y=some (.int k i))(hz:ev l z=some (.int k' i'))(hu:P.underlying t=some (.slice e))(hs:N2 P e=some sz)
    (h1:i=lo) (h2:i'=hi) (hh:lo<=hi) (hc:hi<=c) (hlt:lo<c) :
    OpQ P R ⟨d,.slice t x (some y) (some z) none,ty,pos,af,g⟩ l (.slice (some ⟨b,o+lo*sz,none⟩) (hi-lo) (c-lo)):=by
  have:=B8u (R:=R) (d:=d) (ty:=ty) (pos:=pos) (af:=af) (g:=g) hx hy hz hu hs h1 h2 hh hc;rw [if_neg (by omega)] at this;simpa [Addr.add_mid] using this
theorem B9G{i:Int}(hx:ev l x=some (.slice (some ⟨b,o,none⟩) n c))(hy:ev l y=some (.int k i))(hu:P.underlying t=some (.slice e))(hs:N2 P e=some sz)(hi:i=h)(hh:h<=n)(hc:n<=c)(hlt:h<c) :
    OpQ P R ⟨d,.slice t x (some y) none none,ty,pos,af,g⟩ l (.slice (some ⟨b,o+h*sz,none⟩) (n-h) (c-h)):=by
  have:=A9q (R:=R) (d:=d) (ty:=ty) (pos:=pos) (af:=af) (g:=g) hx hy hu hs hi hh hc;rw [if_neg (by omega)] at this;simpa [Addr.add_mid] using this
end slices3
theorem W1{cs ys:List α}{a k:Nat}(ha:a<=cs.length)(hk:k<a):(cs.take a++ys++cs.drop c)[k]? = cs[k]?:=by rw [Ap,Ak (by simp;omega),Cd hk]
theorem X0{cs ys:List α}{a k:Nat}(ha:a<=cs.length)(hk:a<=k)(hk2:k<a+ys.length):(cs.take a++ys++cs.drop c)[k]? = ys[k-a]?:=by
  have hl:(cs.take a).length=a:=by simp;omega
  rw [Ap,Aq (by omega),Ak (by omega),hl]
theorem A2B{cs ys:List α}{a k:Nat}(ha:a+ys.length<=cs.length)(hk:a+ys.length<=k):(cs.take a++ys++cs.drop (a+ys.length))[k]? = cs[k]?:=by
  have hl:(cs.take a).length=a:=by simp;omega
  rw [Ap,Aq (by omega),Aq (by omega),hl,List.getElem?_drop];congr 1;omega
theorem X3{cs ys:List α}{a:Nat}(ha:a+ys.length<=cs.length):(cs.take a++ys++cs.drop (a+ys.length)).length=cs.length:=by simp;omega
theorem A08{z:Array Value}(hz:∀c∈z,c.oneCell'=true)(h0:0<z.size)(n:Nat):∀c∈(Builtin.zeroCells z n).toList,c.oneCell'=true:=by intro c hc;simp only [Builtin.zeroCells,Array.toList_map,List.mem_map] at hc;obtain ⟨i,_,rfl⟩:=hc;have:i%z.size<z.size:=Ad _ h0;rw [getElem!_pos z (i%z.size) this];exact hz _ (Array.getElem_mem this)
def FnV(P:Program)(f:FuncId)(args:List Value)(A:Mem)(v:Value):Prop:=FnX P f args [] A λr M J=>r=v∧M=[]∧J=[]
theorem R8{xs:List Operand}(hx:Evs l xs vs)(hc:K1 C.P f=true)
    (hf:FnV C.P f vs (M++(J++C.A)) v) (hd:Nat.blt d C.N=true) (k:K ((d,v)::l) M J) :
    OpL C ⟨some d,.call { callee:=.value (.func f),args:=xs.toArray,argTypes:=ts },ty,pos,af,g⟩ l M J K :=
  C8 (Mc:=[]) (R:=M) hx hc (Ah _) hf hd (by rintro _ _ _ ⟨rfl,rfl,rfl⟩;exact k)
variable{rest:List Oper}
theorem B6j{xs:List Operand}(hx:Evs l xs vs)(hc:K1 C.P f=true)
    (hf:FnV C.P f vs (M++(J++C.A)) v) (hd:Nat.blt d C.N=true) (k:XL C ops rest Q ((d,v)::l) M J) :
    XL C ops (⟨some d,.call { callee:=.value (.func f),args:=xs.toArray,argTypes:=ts },ty,pos,af,none⟩::rest) Q l M J:=A2 E (R8 hx hc hf hd k)
theorem B8v(hk:k.signed=false){x:Int}(h0:0<=x)(h1:x<2^k.bits):k.wrap x=x:=by unfold IntKind.wrap;simp only [hk,Bool.false_and,Bool.false_eq_true,if_false];exact Int.emod_eq_of_lt h0 h1
theorem A3X{x:Int}(h0:0<=x)(h1:x<18446744073709551616):IntKind.u64.wrap x=x:=B8v E h0 (by simpa [IntKind.bits] using h1)
theorem A9r{x:Int}(h0:0<=x)(h1:x<4294967296):IntKind.u32.wrap x=x:=B8v E h0 (by simpa [IntKind.bits] using h1)
theorem wrap_i64{x:Int}(h0:-9223372036854775808<=x)(h1:x<9223372036854775808):IntKind.i64.wrap x=x:=by
  unfold IntKind.wrap;simp only [IntKind.signed,IntKind.bits,Bool.true_and];have e:(2:Int)^64=18446744073709551616:=by decide
  have e':(2:Int)^(64-1)=9223372036854775808:=by decide
  simp only [e,e'];by_cases hx:0<=x
  . rw [Int.emod_eq_of_lt hx (by omega)];have:¬x >= 9223372036854775808:=by omega
    simp [this]
  . have hm:x%18446744073709551616=x+18446744073709551616:=by rw [<- Int.add_emod_right,Int.emod_eq_of_lt (by omega) (by omega)]
    rw [hm];have:x+18446744073709551616 >= 9223372036854775808:=by omega
    simp [this]
theorem Y0{t:Nat}{b:Bool}(hl:lk l t=some (.bool b))(h1:b=true->XL C ops rest Q ((t,.bool true)::l) M J)(h2:b=false->XL C ops rest Q ((t,.bool false)::l) M J) :
    XL C ops rest Q l M J:=by
  intro a w ha hw
  have key:∀b',b=b'->Ag C.N ((t,.bool b')::l) a:=by
    rintro b' rfl;refine ha.sub ?_;intro i v hi;simp only [lk] at hi;by_cases e:t=i
    . subst e;simp at hi;subst hi;exact hl
    . simpa only [A0p e,cond_false] using hi
  cases b
  . exact h2 E a w (key _ E) hw
  . exact h1 E a w (key _ E) hw
variable{oj:Oper}
section planguards
variable{C:Cx}{Q:XQ}{l:Env}{M J:Mem}{os:List Oper}{R:Mem}{nd:List Nat}{plan:List (Nat×Nat)}
theorem B1M{i t:Nat}{b:Bool}{a:Act}(ha:Ag N l a)(hj:nth os j=some oj)(ht:oj.dst=some t)(hl:lk l t=some (.bool b)) :
    Region.wanted ⟨some d,op,ty,pos,af,some (j,b)⟩ (yielded os.toArray a.tmps)=true:=by
  have hj':os.toArray[j]? = some oj:=by rw [W8] at hj;simpa using hj
  simp only [Region.wanted,yielded,hj',Option.bind_some,ht,ha.slot _ _ hl];simp
theorem A8z{i t:Nat}{b:Bool}{a:Act}(ha:Ag N l a)(hj:nth os j=some oj)(ht:oj.dst=some t)(hl:lk l t=some (.bool b'))(hb:(b'==b)=false) :
    Region.wanted ⟨some d,op,ty,pos,af,some (j,b)⟩ (yielded os.toArray a.tmps)=false:=by
  have hj':os.toArray[j]? = some oj:=by rw [W8] at hj;simpa using hj
  simp only [Region.wanted,yielded,hj',Option.bind_some,ht,ha.slot _ _ hl];cases b<;>cases b'<;>simp_all
end planguards
variable{r:Int}
section known
variable{P:Program}{R:Mem}{l:Env}{d:Option Nat}{ty t t':TypeId}{pos:String}{af:Array Edge}{g:Option (Nat×Bool)}{x y:Operand}{k:IntKind}{a b:Int}
theorem F6{op:BinOp}(r:Bool)(hx:ev l x=some (.int k a))(hy:ev l y=some (.int k b))(h:H8 op k a b=some (.bool r)):OpQ P R ⟨d,.binOp op t x y t',ty,pos,af,g⟩ l (.bool r):=E3 hx hy h
theorem D2{op:BinOp}(r:Int)(hx:ev l x=some (.int k a))(hy:ev l y=some (.int k b))(h:H8 op k a b=some (.int k r)):OpQ P R ⟨d,.binOp op t x y t',ty,pos,af,g⟩ l (.int k r):=E3 hx hy h
theorem F5{a b:Int}(h:a+b=r)(h0:-9223372036854775808<=r)(h1:r<9223372036854775808):H8 .add .i64 a b=some (.int .i64 r):=by simp only [H8,h,wrap_i64 h0 h1]
theorem V6{a b:Int}(h:a-b=r)(h0:-9223372036854775808<=r)(h1:r<9223372036854775808):H8 .sub .i64 a b=some (.int .i64 r):=by simp only [H8,h,wrap_i64 h0 h1]
theorem A11{a b:Int}(h:a*b=r)(h0:-9223372036854775808<=r)(h1:r<9223372036854775808):H8 .mul .i64 a b=some (.int .i64 r):=by simp only [H8,h,wrap_i64 h0 h1]
theorem A0R(r:Int)(hx:ev l x=some (.int k a))(hc:A58 P s t=some k')(h:k'.wrap a=r):OpQ P R ⟨d,.convert s t x,ty,pos,af,g⟩ l (.int k' r):=h▸B8s hx hc
end known
section picks
variable{x y z u v g:Nat×Obj}{r:Mem}
theorem pkB{r:Mem}:(x::(B++r)).Perm (B++(x::r)):=List.perm_middle.symm
end picks
theorem FnX.mono{P:Program}{f:FuncId}{args:List Value}{M A:Mem}{post post':Value->Mem->Mem->Prop}(h:FnX P f args M A post)(hp:∀v M J,post v M J->post' v M J):FnX P f args M A post':=λw hw =>
  Calls.mono (h w hw) λe w' ⟨v,M',J,h1,h2,h3⟩=>⟨v,M',J,h1,hp _ _ _ h2,h3⟩
theorem SetR.all(h:vs.length=z.length):SetR z 0 vs vs:=⟨by omega,by simp [h]⟩
theorem Rd.whole(hb:(b,Obj.cells cs.toArray e fr)∈R)(hl:cs.length=n*sz):Rd R sz (.slice (some ⟨b,0,none⟩) n n) n cs :=
  ⟨_,n,E,hl,Av _,.inr ⟨b,0,cs,e,fr,E,hb,λj u h=>by rwa [Nat.zero_add]⟩⟩
theorem B1N{d:Option Nat}{y:Operand}{b:Int}(r:Int)(hx:ev l x=some (.int k a))(hy:ev l y=some (.int k b))
    (h:(if b > a then b else a)=r):OpQ P R ⟨d,.call { callee:=.builtin .max,args:=#[x,y],argTypes:=ts },ty,pos,af,g⟩ l (.int k r):=h▸C4X hx hy
theorem A4i{d:Option Nat}{y:Operand}{b:Int}(r:Int)(hx:ev l x=some (.int k a))(hy:ev l y=some (.int k b))
    (h:(if b<a then b else a)=r):OpQ P R ⟨d,.call { callee:=.builtin .min,args:=#[x,y],argTypes:=ts },ty,pos,af,g⟩ l (.int k r):=h▸C2r hx hy
theorem A6b{rows:List (List α)}{s:Nat}(h:∀r∈rows,r.length=s):rows.flatten.length=rows.length*s:=by
  induction rows with
  | nil=>simp
  | cons r rows ih =>
    have h1:=h r (by simp);have h2:=ih (λq hq=>h q (by simp [hq]));simp [h1,h2,Nat.add_mul];omega
theorem A2C{rows:List (List α)}{s:Nat}(h:∀r∈rows,r.length=s)(k:Nat):rows.flatten.drop (k*s)=(rows.drop k).flatten:=by
  induction rows generalizing k with
  | nil=>simp
  | cons r rows ih =>
    cases k with
    | zero=>simp
    | succ k =>
      have h1:=h r (by simp);have h2:=ih (λq hq=>h q (by simp [hq])) k;rw [List.flatten_cons,List.drop_append,List.drop_eq_nil_of_le (by rw [h1,Nat.add_mul];omega),h1,show (k+1)*s-s=k*s from by rw [Nat.add_mul];omega,h2];simp
theorem A1u{rows:List (List α)}{s:Nat}(h:∀r∈rows,r.length=s)(k:Nat):rows.flatten.take (k*s)=(rows.take k).flatten:=by
  induction rows generalizing k with
  | nil=>simp
  | cons r rows ih =>
    cases k with
    | zero=>simp
    | succ k =>
      have h1:=h r (by simp);have h2:=ih (λq hq=>h q (by simp [hq])) k;rw [List.flatten_cons,List.take_append,Aw (by rw [h1,Nat.add_mul];omega),h1,show (k+1)*s-s=k*s from by rw [Nat.add_mul];omega,h2];simp
theorem A2D{rows:List (List α)}{s:Nat}(h:∀r∈rows,r.length=s){k:Nat}{r:List α}(hk:rows[k]? = some r)(j:Nat)(hj:j<s):rows.flatten[k*s+j]? = r[j]?:=by
  have h1:=A2C h k
  have hlt:=(Ac.1 hk)
  rw [<- List.getElem?_drop,h1];obtain ⟨hlt,he⟩:=hlt;rw [Bu hlt,List.flatten_cons,Ak (by rw [he,h r (As hk)];exact hj),he]
theorem FnV.calls(h:FnV P f args A v)(hA:Fx A w) :
    Calls P f args.toArray w λe w'=>e=.returned v∧RowKit.Below w.heap.size w w':=by
  refine Calls.mono (h w ⟨E,E,E,Av _,λ_ _ _=>rfl,(λb o hb=>hA b o (by simpa using hb)),by simp,by simp,by simp,λb o hb=>⟨by simp,T4 (hA b o hb)⟩,by simp⟩) ?_;rintro e w' ⟨r,M,J,rfl,⟨rfl,rfl,rfl⟩,hs⟩;exact ⟨E,hs.os,hs.tape,hs.output,hs.size,λk hk=>hs.frame k hk (by simp)⟩
theorem eqT{b:Int}(h:a=b):H8 .eql k a b=some (.bool true):=by simp [H8];exact h
theorem eqF{b:Int}(h:a≠b):H8 .eql k a b=some (.bool false):=by simp [H8];exact h
theorem neT{b:Int}(h:a≠b):H8 .neq k a b=some (.bool true):=by simp [H8];exact h
theorem neF{b:Int}(h:a=b):H8 .neq k a b=some (.bool false):=by simp [H8];exact h
theorem ltT{b:Int}(h:a<b):H8 .lss k a b=some (.bool true):=by simp [H8];omega
theorem ltF{b:Int}(h:b<=a):H8 .lss k a b=some (.bool false):=by simp [H8];omega
theorem leT{b:Int}(h:a<=b):H8 .leq k a b=some (.bool true):=by simp [H8];omega
theorem leF{b:Int}(h:b<a):H8 .leq k a b=some (.bool false):=by simp [H8];omega
theorem gtT{b:Int}(h:b<a):H8 .gtr k a b=some (.bool true):=by simp [H8];omega
theorem gtF{b:Int}(h:a<=b):H8 .gtr k a b=some (.bool false):=by simp [H8];omega
theorem geT{b:Int}(h:b<=a):H8 .geq k a b=some (.bool true):=by simp [H8];omega
theorem geF{b:Int}(h:a<b):H8 .geq k a b=some (.bool false):=by simp [H8];omega
theorem FnV.frame(h:FnV P f args (M++A) v):FnX P f args M A λr M' J=>r=v∧M'=M∧J=[]:=by intro w hw;have h1:=hw.callee (Mc:=[]) (R:=M) (Ah _);refine Calls.mono (h w h1) ?_;rintro e w' ⟨r,M',J',rfl,⟨rfl,rfl,rfl⟩,hs⟩;have h2:=hw.back (Mc:=[]) (R:=M) (Ah _) hs;exact ⟨_,M,[],E,⟨E,E,E⟩,h2⟩
end Go.Px

/- Short forms. -/
namespace Go.Px
variable{p:Prop}
section
variable{C:Cx}{Q:XQ}{l l':Env}{M J:Mem}{ops:Array Oper}{rest:List Oper}{K:Env->Mem->Mem->Prop}{P:Program}{R:Mem}{d:Option Nat}{D:Nat}{ty t e s:TypeId}{pos:String}{af:Array Edge}{g:Option (Nat×Bool)}{x y:Operand}{v:Value}{b o n f:Nat}{cs vs:List Value}{fr:Nat×Nat}
theorem lQ_{op:Op}(h:OpQ C.P (M++(J++C.A)) ⟨some D,op,ty,pos,af,none⟩ l v)(k:XL C ops rest Q ((D,v)::l) M J)(hd:Nat.blt D C.N=true:=by exact E):XL C ops (⟨some D,op,ty,pos,af,none⟩::rest) Q l M J:=C2o h hd k
theorem mv_(k:XL C ops rest Q ((D,v)::l) M J)(h:ev l x=some v:=by exact E)(hd:Nat.blt D C.N=true:=by exact E):XL C ops (⟨some D,.move x,ty,pos,af,none⟩::rest) Q l M J:=C2o (A9n h) hd k
theorem as_(k:XL C ops rest Q ((D,v)::l) M J)(h:ev l x=some v:=by exact E)(hd:Nat.blt D C.N=true:=by exact E):XL C ops (⟨some D,.assign x,ty,pos,af,none⟩::rest) Q l M J:=C2o (G2 h) hd k
theorem mV_(h:ev l x=some v)(k:XL C ops rest Q ((D,v)::l) M J)(hd:Nat.blt D C.N=true:=by exact E):XL C ops (⟨some D,.move x,ty,pos,af,none⟩::rest) Q l M J:=mv_ k h hd
theorem aS_(h:ev l x=some v)(k:XL C ops rest Q ((D,v)::l) M J)(hd:Nat.blt D C.N=true:=by exact E):XL C ops (⟨some D,.assign x,ty,pos,af,none⟩::rest) Q l M J:=as_ k h hd
theorem qm_(h:ev l x=some v:=by exact E):OpQ P R ⟨d,.move x,ty,pos,af,g⟩ l v:=A9n h
theorem ql_(hx:ev l x=some (.pointer (some ⟨b,o,none⟩)):=by exact E)(ht:A0s P t=true:=by kernel_rfl)(hb:(b,Obj.cells cs.toArray e fr)∈R:=by first|exact At.mem|exact mA (by assumption))(hv:cs[o]? = some v:=by rfl):OpQ P R ⟨d,.load t x,ty,pos,af,g⟩ l v:=H1 hx ht hb hv
theorem qw_(n:Nat)(hx:ev l x=some (.pointer (some ⟨b,0,none⟩)):=by exact E)(ht:A59 P t=some n:=by kernel_rfl)(hb:(b,Obj.cells cs.toArray e fr)∈R:=by first|exact At.mem|exact mA (by assumption))(hn:cs.length=n:=by rfl):OpQ P R ⟨d,.load t x,ty,pos,af,g⟩ l (.agg cs.toArray):=H0 hx ht hb hn
theorem qf_(off' off:Nat)(hx:ev l x=some (.pointer (some ⟨b,o,none⟩)):=by exact E)(hf:A2y P s f=some off:=by kernel_rfl)(h:o+off=off':=by exact E):OpQ P R ⟨d,.fieldAddr s x f,ty,pos,af,g⟩ l (.pointer (some ⟨b,off',none⟩)):=A3x off' hx hf h
theorem bx_{p:TypeId}(k:∀b,K ((D,.pointer (some ⟨b,0,none⟩))::l) ((b,blk cs p)::M) J)(hx:ev l x=some v:=by exact E)(hcs:v.cells=cs.toArray:=by first|exact Cel.cel|rfl)(hd:Nat.blt D C.N=true:=by exact E):OpL C ⟨some D,.box p x,ty,pos,af,g⟩ l M J K:=B6e hx hcs hd k
abbrev vP(b:Nat):Value:=.pointer (some ⟨b,0,none⟩)
abbrev vU(n:Nat):Value:=.int .u32 (n:Int)
abbrev vI(n:Nat):Value:=.int .i64 (n:Int)
abbrev vS:Value:=.slice none 0 0
theorem qO(h:p:=by omega):p:=h
theorem qD(h:p:=by decide):p:=h
theorem qR(h:p:=by rfl):p:=h
theorem qK{α:Type _}{a:α}{l:List α}:a∈a::l:=Ax
theorem qM(h:p:=by simp):p:=h
theorem qI{α:Sort _}{p:α->Prop}:∀x,p x->p x:=λ_ h=>h
abbrev LN:=List Nat
theorem kR(h:p:=by kernel_rfl):p:=h
theorem kq(k:Nat)(r:Keep l l')(h:lk l k=some v:=by exact E):Keep l ((k,v)::l'):=.cons h r
end
variable{v0 v1 v2 v3 v4 v5 v6 v7:Value}
section
variable{l:Env}
theorem D1(a0:Nat)(h0:lk l a0=some v0:=by exact E):Keep l [(a0,v0)]:=.cons h0 .nil
theorem D0(a0 a1:Nat)(h0:lk l a0=some v0:=by exact E)(h1:lk l a1=some v1:=by exact E):Keep l [(a0,v0),(a1,v1)]:=.cons h0 (.cons h1 .nil)
theorem D5(a0 a1 a2:Nat)(h0:lk l a0=some v0:=by exact E)(h1:lk l a1=some v1:=by exact E)(h2:lk l a2=some v2:=by exact E):Keep l [(a0,v0),(a1,v1),(a2,v2)]:=.cons h0 (.cons h1 (.cons h2 .nil))
theorem D7(a0 a1 a2 a3:Nat)(h0:lk l a0=some v0:=by exact E)(h1:lk l a1=some v1:=by exact E)(h2:lk l a2=some v2:=by exact E)(h3:lk l a3=some v3:=by exact E):Keep l [(a0,v0),(a1,v1),(a2,v2),(a3,v3)]:=.cons h0 (.cons h1 (.cons h2 (.cons h3 .nil)))
theorem E9(a0 a1 a2 a3 a4:Nat)(h0:lk l a0=some v0:=by exact E)(h1:lk l a1=some v1:=by exact E)(h2:lk l a2=some v2:=by exact E)(h3:lk l a3=some v3:=by exact E)(h4:lk l a4=some v4:=by exact E):Keep l [(a0,v0),(a1,v1),(a2,v2),(a3,v3),(a4,v4)]:=.cons h0 (.cons h1 (.cons h2 (.cons h3 (.cons h4 .nil))))
theorem G9(a0 a1 a2 a3 a4 a5:Nat)(h0:lk l a0=some v0:=by exact E)(h1:lk l a1=some v1:=by exact E)(h2:lk l a2=some v2:=by exact E)(h3:lk l a3=some v3:=by exact E)(h4:lk l a4=some v4:=by exact E)(h5:lk l a5=some v5:=by exact E):Keep l [(a0,v0),(a1,v1),(a2,v2),(a3,v3),(a4,v4),(a5,v5)]:=.cons h0 (.cons h1 (.cons h2 (.cons h3 (.cons h4 (.cons h5 .nil)))))
theorem N1(a0 a1 a2 a3 a4 a5 a6:Nat)(h0:lk l a0=some v0:=by exact E)(h1:lk l a1=some v1:=by exact E)(h2:lk l a2=some v2:=by exact E)(h3:lk l a3=some v3:=by exact E)(h4:lk l a4=some v4:=by exact E)(h5:lk l a5=some v5:=by exact E)(h6:lk l a6=some v6:=by exact E):Keep l [(a0,v0),(a1,v1),(a2,v2),(a3,v3),(a4,v4),(a5,v5),(a6,v6)]:=.cons h0 (.cons h1 (.cons h2 (.cons h3 (.cons h4 (.cons h5 (.cons h6 .nil))))))
theorem V4(a0 a1 a2 a3 a4 a5 a6 a7:Nat)(h0:lk l a0=some v0:=by exact E)(h1:lk l a1=some v1:=by exact E)(h2:lk l a2=some v2:=by exact E)(h3:lk l a3=some v3:=by exact E)(h4:lk l a4=some v4:=by exact E)(h5:lk l a5=some v5:=by exact E)(h6:lk l a6=some v6:=by exact E)(h7:lk l a7=some v7:=by exact E):Keep l [(a0,v0),(a1,v1),(a2,v2),(a3,v3),(a4,v4),(a5,v5),(a6,v6),(a7,v7)]:=.cons h0 (.cons h1 (.cons h2 (.cons h3 (.cons h4 (.cons h5 (.cons h6 (.cons h7 .nil)))))))
theorem Q4{v8:Value}(a0 a1 a2 a3 a4 a5 a6 a7 a8:Nat)(h0:lk l a0=some v0:=by exact E)(h1:lk l a1=some v1:=by exact E)(h2:lk l a2=some v2:=by exact E)(h3:lk l a3=some v3:=by exact E)(h4:lk l a4=some v4:=by exact E)(h5:lk l a5=some v5:=by exact E)(h6:lk l a6=some v6:=by exact E)(h7:lk l a7=some v7:=by exact E)(h8:lk l a8=some v8:=by exact E):Keep l [(a0,v0),(a1,v1),(a2,v2),(a3,v3),(a4,v4),(a5,v5),(a6,v6),(a7,v7),(a8,v8)]:=.cons h0 (.cons h1 (.cons h2 (.cons h3 (.cons h4 (.cons h5 (.cons h6 (.cons h7 (.cons h8 .nil))))))))
end
abbrev zu8:Value:=.int .u8 0
abbrev D3:Value:=.int .u32 0
abbrev C0:Value:=.int .u64 0
abbrev U7:Value:=.int .i64 0
end Go.Px

namespace Go.Px
variable{k:IntKind}
theorem T6(hk:k.signed=false)(n:Nat):k.wrap (n:Int)=((n%2^k.bits:Nat):Int):=by unfold IntKind.wrap;simp only [hk,Bool.false_and,Bool.false_eq_true,if_false];rw [Int.natCast_emod];simp
theorem C2t(n:Nat):IntKind.u8.wrap (n:Int)=((n%256:Nat):Int):=T6 E n
theorem C2u(n:Nat):IntKind.u32.wrap (n:Int)=((n%4294967296:Nat):Int):=T6 E n
theorem A9s(n:Nat):IntKind.u64.wrap (n:Int)=((n%18446744073709551616:Nat):Int):=T6 E n
variable{n:Nat}
theorem A2E(h:n<9223372036854775808):IntKind.i64.wrap (n:Int)=(n:Int):=wrap_i64 (by omega) (by omega)
section ops
variable{k:IntKind}{a b:Nat}
theorem addU(hk:k.signed=false)(r:Nat)(h:(a+b)%2^k.bits=r):H8 .add k (a:Int) (b:Int)=some (.int k (r:Int)):=by simp only [H8];rw [show (a:Int)+b=((a+b:Nat):Int) from by omega,T6 hk,h]
theorem mulU(hk:k.signed=false)(r:Nat)(h:(a*b)%2^k.bits=r):H8 .mul k (a:Int) (b:Int)=some (.int k (r:Int)):=by simp only [H8];rw [show (a:Int)*b=((a*b:Nat):Int) from by simp,T6 hk,h]
theorem C4Y(hk:k.signed=false)(r:Nat)(hb:b<=2^k.bits)(h:(a+(2^k.bits-b))%2^k.bits=r):H8 .sub k (a:Int) (b:Int)=some (.int k (r:Int)):=by
  simp only [H8];have e:(a:Int)-b=((a+(2^k.bits-b):Nat):Int)-(2^k.bits:Nat):=by omega
  have e2:k.wrap ((a:Int)-b)=k.wrap ((a+(2^k.bits-b):Nat):Int):=by unfold IntKind.wrap;simp only [hk,Bool.false_and,Bool.false_eq_true,if_false];rw [e];simp
  rw [e2,T6 hk,h]
theorem A7q(n m:Nat):BitVec.ofInt n (m:Int)=BitVec.ofNat n m:=by apply BitVec.eq_of_toNat_eq;simp
theorem C4Z(hk:k.signed=false)(ha:a<2^k.bits)(hb:b<2^k.bits):H8 .and k (a:Int) (b:Int)=some (.int k ((a &&& b:Nat):Int)):=by simp only [H8,A7q];rw [BitVec.toNat_and,BitVec.toNat_ofNat,BitVec.toNat_ofNat,Af ha,Af hb,T6 hk,Af (Be Nat.and_le_left ha)]
theorem orU(hk:k.signed=false)(ha:a<2^k.bits)(hb:b<2^k.bits):H8 .or k (a:Int) (b:Int)=some (.int k ((a ||| b:Nat):Int)):=by simp only [H8,A7q];rw [BitVec.toNat_or,BitVec.toNat_ofNat,BitVec.toNat_ofNat,Af ha,Af hb,T6 hk,Af (Nat.or_lt_two_pow ha hb)]
theorem xorU(hk:k.signed=false)(ha:a<2^k.bits)(hb:b<2^k.bits):H8 .xor k (a:Int) (b:Int)=some (.int k ((a ^^^ b:Nat):Int)):=by simp only [H8,A7q];rw [BitVec.toNat_xor,BitVec.toNat_ofNat,BitVec.toNat_ofNat,Af ha,Af hb,T6 hk,Af (Nat.xor_lt_two_pow ha hb)]
end ops
variable{s:TypeId}
section rules
variable{P:Program}{R:Mem}{l:Env}{d:Option Nat}{ty t t':TypeId}{pos:String}{af:Array Edge}{g:Option (Nat×Bool)}{x y:Operand}{k k':IntKind}{a b:Nat}
theorem A0t(hx:ev l x=some (.int .u32 (a:Int)))(hy:ev l y=some (.int .u32 (b:Int))):OpQ P R ⟨d,.binOp .add t x y t',ty,pos,af,g⟩ l (.int .u32 (((a+b)%4294967296:Nat):Int)):=E3 hx hy (addU E _ E)
theorem A5l(hk:k.signed=false)(hx:ev l x=some (.int k (a:Int)))(hy:ev l y=some (.int k (b:Int)))(ha:a<2^k.bits)(hb:b<2^k.bits):OpQ P R ⟨d,.binOp .and t x y t',ty,pos,af,g⟩ l (.int k ((a &&& b:Nat):Int)):=E3 hx hy (C4Z hk ha hb)
theorem B6k(hk:k.signed=false)(hx:ev l x=some (.int k (a:Int)))(hy:ev l y=some (.int k (b:Int)))(ha:a<2^k.bits)(hb:b<2^k.bits):OpQ P R ⟨d,.binOp .or t x y t',ty,pos,af,g⟩ l (.int k ((a ||| b:Nat):Int)):=E3 hx hy (orU hk ha hb)
theorem C2v(hk:k.signed=false)(hx:ev l x=some (.int k (a:Int)))(hy:ev l y=some (.int k (b:Int)))(ha:a<2^k.bits)(hb:b<2^k.bits):OpQ P R ⟨d,.binOp .xor t x y t',ty,pos,af,g⟩ l (.int k ((a ^^^ b:Nat):Int)):=E3 hx hy (xorU hk ha hb)
theorem T9(s:Nat)(hx:ev l x=some (.int k (a:Int))){i:Int}(hy:ev l y=some (.int k' i))(hi:i=s)(hs:s<=k.bits):OpQ P R ⟨d,.binOp .shr t x y t',ty,pos,af,g⟩ l (.int k ((a >>> s:Nat):Int)):=by
  subst hi;have:=C2q (P:=P) (R:=R) (d:=d) (ty:=ty) (pos:=pos) (af:=af) (g:=g) (t:=t) (t':=t') hx hy (by omega);rw [Int.toNat_natCast,Nat.min_eq_left hs] at this
  have e:(a:Int).fdiv (2^s)=((a >>> s:Nat):Int):=by rw [Int.fdiv_eq_ediv_of_nonneg _ (Int.pow_nonneg (by decide)),Cb,Int.natCast_ediv];simp
  rwa [e] at this
theorem A3A(hk:k.signed=false)(s:Nat)(hx:ev l x=some (.int k (a:Int))){i:Int}(hy:ev l y=some (.int k' i))(hi:i=s)(hs:s<=k.bits):OpQ P R ⟨d,.binOp .shl t x y t',ty,pos,af,g⟩ l (.int k (((a <<< s)%2^k.bits:Nat):Int)):=by subst hi;have:=C4U (P:=P) (R:=R) (d:=d) (ty:=ty) (pos:=pos) (af:=af) (g:=g) (t:=t) (t':=t') hx hy (by omega);rw [Int.toNat_natCast,Nat.min_eq_left hs,show (a:Int)*2^s=((a <<< s:Nat):Int) from by rw [Nat.shiftLeft_eq];simp,T6 hk] at this;exact this
theorem C2w(hk:k.signed=false)(hx:ev l x=some (.int k (a:Int)))(ha:a<2^k.bits):OpQ P R ⟨d,.unOp .xor t x,ty,pos,af,g⟩ l (.int k (((2^k.bits-1) ^^^ a:Nat):Int)):=by
  have:=C4W (P:=P) (R:=R) (d:=d) (ty:=ty) (pos:=pos) (af:=af) (g:=g) (t:=t) hx
  have e:(if k.signed=true then -1 else k.max:Int)=((2^k.bits-1:Nat):Int):=by simp only [hk,Bool.false_eq_true,if_false,IntKind.max];cases k<;>simp_all [IntKind.bits,IntKind.signed]
  have h2:2^k.bits-1<2^k.bits:=Nat.sub_lt (Ca _) (by decide);rw [e,A7q,A7q,BitVec.toNat_xor,BitVec.toNat_ofNat,BitVec.toNat_ofNat,Af ha,Af h2,T6 hk,Af (Nat.xor_lt_two_pow h2 ha)] at this;exact this
theorem K2(r:Nat)(hx:ev l x=some (.int k (a:Int)))(hc:A58 P s t=some k')(h:k'.wrap (a:Int)=(r:Int)):OpQ P R ⟨d,.convert s t x,ty,pos,af,g⟩ l (.int k' (r:Int)):=A0R _ hx hc h
theorem B1O(hx:ev l x=some (.int k (a:Int)))(hy:ev l y=some (.int k (b:Int)))(hb:b≠0):OpQ P R ⟨d,.binOp .rem t x y t',ty,pos,af,g⟩ l (.int k ((a%b:Nat):Int)):=by have:=C4T (P:=P) (R:=R) (d:=d) (ty:=ty) (pos:=pos) (af:=af) (g:=g) (t:=t) (t':=t') hx hy (by omega);rw [Int.tmod_eq_emod_of_nonneg (by omega),<- Int.natCast_emod] at this;exact this
theorem B1P(hx:ev l x=some (.int k (a:Int)))(hy:ev l y=some (.int k (b:Int)))(hb:b≠0)(h:k.wrap ((a/b:Nat):Int)=((a/b:Nat):Int)):OpQ P R ⟨d,.binOp .quo t x y t',ty,pos,af,g⟩ l (.int k ((a/b:Nat):Int)):=by have:=C2p (P:=P) (R:=R) (d:=d) (ty:=ty) (pos:=pos) (af:=af) (g:=g) (t:=t) (t':=t') hx hy (by omega);rw [Int.tdiv_eq_ediv_of_nonneg (by omega),<- Int.natCast_ediv,h] at this;exact this
end rules
def nums(k:IntKind)(ws:List Nat):List Value:=ws.map λn:Nat=>Value.int k (n:Int)
variable{i:Nat}
section nums
variable{k:IntKind}{ws us:List Nat}
@[simp] theorem nums_len:(nums k ws).length=ws.length:=by simp [nums]
theorem H4:nums k (ws++us)=nums k ws++nums k us:=by simp [nums]
theorem A1v(n:Nat):nums k (ws.take n)=(nums k ws).take n:=by simp [nums,List.map_take]
theorem A0Z(n:Nat):nums k (ws.drop n)=(nums k ws).drop n:=by simp [nums,List.map_drop]
theorem A6c(i n:Nat):nums k (ws.set i n)=(nums k ws).set i (.int k (n:Int)):=by simp [nums,List.map_set]
theorem E7:∀c∈nums k ws,c.oneCell'=true:=by intro c hc;obtain ⟨n,_,rfl⟩:=List.mem_map.1 hc;rfl
theorem W2(h:i<ws.length):(nums k ws)[i]? = some (.int k ((ws.getD i 0:Nat):Int)):=by simp [nums,List.getElem?_eq_getElem h,List.getD]
theorem getD_lt{ws:List Nat}{b:Nat}(h:∀n∈ws,n<b)(hb:0<b):ws.getD i 0<b:=by
  rw [List.getD]
  cases hi:ws[i]? with
  | none=>exact hb
  | some n=>exact h n (As hi)
end nums
variable{M':Mem}
theorem Fit.eq{M:Mem}(h:M=M'):Fit M M':=h▸.rfl
theorem A3Y{v:Value}:∀ {cs:List Value} {o:Nat},o<cs.length->SetL cs o v (cs.set o v)
  | [],_,h=>by simp at h
  | x::r,0,_=>.hd
  | x::r,o+1,h=>.tl (A3Y (by simpa using h))
variable{ws:List Nat}
theorem A3Z{us:List Nat}(h:i<ws.length):(ws++us).getD i 0=ws.getD i 0:=by simp [List.getD,List.getElem?_append_left h]
theorem B1Q{x:Nat}(h:ws.length=i)(hi:i<n):(ws++List.replicate (n-i) 0).set i x=(ws++[x])++List.replicate (n-(i+1)) 0:=by rw [List.set_append_right _ _ (by omega),h,Nat.sub_self,show n-i=(n-(i+1))+1 by omega,List.replicate_succ];simp
variable{e:TypeId}
section rules2
variable{P:Program}{R:Mem}{l:Env}{d:Option Nat}{ty t t':TypeId}{pos:String}{af:Array Edge}{g:Option (Nat×Bool)}{x y:Operand}{k k':IntKind}{a b:Nat}
theorem A4j(hx:ev l x=some (.int .u32 (a:Int)))(hy:ev l y=some (.int .u32 (b:Int)))(ha:a<4294967296)(hb:b<4294967296):OpQ P R ⟨d,.binOp .and t x y t',ty,pos,af,g⟩ l (.int .u32 ((a &&& b:Nat):Int)):=A5l E hx hy ha hb
theorem A3B(hx:ev l x=some (.int .u32 (a:Int)))(hy:ev l y=some (.int .u32 (b:Int)))(ha:a<4294967296)(hb:b<4294967296):OpQ P R ⟨d,.binOp .or t x y t',ty,pos,af,g⟩ l (.int .u32 ((a ||| b:Nat):Int)):=B6k E hx hy ha hb
theorem U8(hx:ev l x=some (.int .u32 (a:Int)))(hy:ev l y=some (.int .u32 (b:Int)))(ha:a<4294967296)(hb:b<4294967296):OpQ P R ⟨d,.binOp .xor t x y t',ty,pos,af,g⟩ l (.int .u32 ((a ^^^ b:Nat):Int)):=C2v E hx hy ha hb
theorem B9H(hx:ev l x=some (.int .u32 (a:Int)))(ha:a<4294967296):OpQ P R ⟨d,.unOp .xor t x,ty,pos,af,g⟩ l (.int .u32 ((4294967295 ^^^ a:Nat):Int)):=C2w (k:=.u32) E hx ha
theorem A1w(s:Nat)(hx:ev l x=some (.int .u32 (a:Int))){i:Int}(hy:ev l y=some (.int k' i))(hi:i=s)(hs:s<=32):OpQ P R ⟨d,.binOp .shl t x y t',ty,pos,af,g⟩ l (.int .u32 (((a <<< s)%4294967296:Nat):Int)):=A3A (k:=.u32) E s hx hy hi hs
theorem B1R(hx:ev l x=some (.int .u8 (a:Int)))(hy:ev l y=some (.int .u8 (b:Int)))(ha:a<256)(hb:b<256):OpQ P R ⟨d,.binOp .xor t x y t',ty,pos,af,g⟩ l (.int .u8 ((a ^^^ b:Nat):Int)):=C2v E hx hy ha hb
theorem A12(hx:ev l x=some (.int k (a:Int)))(hc:A58 P s t=some .u8):OpQ P R ⟨d,.convert s t x,ty,pos,af,g⟩ l (.int .u8 ((a%256:Nat):Int)):=K2 _ hx hc (C2t a)
theorem A9t(hx:ev l x=some (.int k (a:Int)))(hc:A58 P s t=some .u32):OpQ P R ⟨d,.convert s t x,ty,pos,af,g⟩ l (.int .u32 ((a%4294967296:Nat):Int)):=K2 _ hx hc (C2u a)
theorem B1S(hx:ev l x=some (.int k (a:Int)))(hc:A58 P s t=some .u64):OpQ P R ⟨d,.convert s t x,ty,pos,af,g⟩ l (.int .u64 ((a%18446744073709551616:Nat):Int)):=K2 _ hx hc (A9s a)
theorem A15(hx:ev l x=some (.int k (a:Int)))(hc:A58 P s t=some k')(h:a<2^(k'.bits-1)):OpQ P R ⟨d,.convert s t x,ty,pos,af,g⟩ l (.int k' (a:Int)):=by
  refine K2 _ hx hc ?_;have h2:2^k'.bits=2*2^(k'.bits-1):=by cases k'<;>rfl
  cases hs:k'.signed with
  | false=>rw [T6 hs,Af (by omega)]
  | true =>
    have h3:(2:Int)^k'.bits=2*((2^(k'.bits-1):Nat):Int):=by
      have e0:(2:Int)^k'.bits=((2^k'.bits:Nat):Int):=by simp
      rw [e0,h2];omega
    unfold IntKind.wrap;have e1:(a:Int)%2^k'.bits=a:=Int.emod_eq_of_lt (by omega) (by rw [h3];omega);simp only [e1,hs,Bool.true_and]
    have e2:¬((2:Int)^(k'.bits-1)<=(a:Int)):=by
      have:((2^(k'.bits-1):Nat):Int)=2^(k'.bits-1):=by simp
      omega
    simp [e2]
theorem H9{k:IntKind}{fr:Nat×Nat}{b o:Nat}(i:Nat)(hx:ev l x=some (.pointer (some ⟨b,o,none⟩)))(ht:A0s P t=true)(hb:(b,Obj.cells (nums k ws).toArray e fr)∈R)(ho:o=i)(hi:i<ws.length) :
    OpQ P R ⟨d,.load t x,ty,pos,af,g⟩ l (.int k ((ws.getD i 0:Nat):Int)):=H1 hx ht hb (by rw [ho];exact W2 hi)
end rules2
theorem K4{C:Cx}{l:Env}{M J:Mem}{K:Env->Mem->Mem->Prop}{ty t:TypeId}{pos:String}{af:Array Edge}{g:Option (Nat×Bool)}{x y:Operand}{b o:Nat}(i:Nat)
    (hx:ev l x=some (.pointer (some ⟨b,o,none⟩))) (hy:ev l y=some (.int k (n:Int))) (ht:N2 C.P t=some 1) (ho:o=i) (hi:i<ws.length) (hu:Upd M b (blk (nums k ws) e) (blk (nums k (ws.set i n)) e) M') (h:K l M' J) :
    OpL C ⟨none,.store t x y,ty,pos,af,g⟩ l M J K :=
  E1 hx hy E ht (cs':=nums k (ws.set i n)) (by rw [A6c,ho];exact A3Y (by simpa using hi)) hu h
theorem Rd.nums{R:Mem}{k:IntKind}{ws:List Nat}{v:Value}{n:Nat}(h:Rd R 1 v n (nums k ws))(hn:0<n) :
    ∃b o c cs e fr,v=.slice (some ⟨b,o,none⟩) n c∧(b,Obj.cells (List.toArray cs) e fr)∈R∧∀i,i<n->cs[o+i*1]? = some (.int k ((ws.getD i 0:Nat):Int)):=by
  obtain ⟨p,c,rfl,hl,hc,hb⟩:=h;rcases hb with hb|⟨b,o,cs,e,fr,rfl,hb,hx⟩
  . omega
  . refine ⟨b,o,c,cs,e,fr,E,hb,λi hi=>?_⟩;rw [Nat.mul_one];simp at hl;exact hx i _ (W2 (by omega))
end Go.Px

