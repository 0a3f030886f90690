/- Part 7 of the texts of this claim, one behind the other. -/
import Derived.Test.YtjkpfgjfpbihaaaGreatDoorB6
import Derived.WalkKit
import Derived.ProofKit
import Derived.OpenShut
import Derived.ShutString
import Derived.ChangeOld
import Derived.Below
set_option linter.unusedVariables false
set_option linter.unusedSimpArgs false
set_option maxRecDepth 100000
namespace Go.Px
theorem wf_u{k:IntKind}(hk:k.signed=false){n:Int}(h:(Lit.int k n).wf=true):0<=n∧n < 2 ^ k.bits:=by cases k <;> simp_all [Lit.wf,IntKind.min,IntKind.max,IntKind.bits,IntKind.signed] <;> omega
end Go.Px

namespace Go.Px
open Go.ChangeShapes Go.WideShapes Go.ChangeAt Go.RowKit
def B5g(w:World):Mem:=(List.range w.heap.size).filterMap λ b=>(w.heap[b]?).map λ o=>(b,o)
theorem A2A{w:World}{b:Nat}{o:Obj}:(b,o)∈B5g w ↔ w.heap[b]? = some o:=by
  simp only [B5g,List.mem_filterMap,List.mem_range,Option.map_eq_some_iff,Prod.mk.injEq];constructor
  . rintro ⟨x,_,y,h,rfl,rfl⟩; exact h
  . intro h; exact ⟨b,T0 h,o,h,E,E⟩
theorem heapA_fx(w:World):Fx (B5g w) w:=λ b o h=>A2A.1 h
section
variable{H:Type}{enc:TypeId×Value->H}{P:Program}{w:World}{spare:Nat->Bool}{held:Bool}{fuel:Nat}{t e:TypeId}{cs:List Value}{x:DataW H×List MemPlace}{v:Value}{d:DataW H}{p:List MemPlace}{r:Reach}{base:Nat}{k:IntKind}
theorem B1s(hk:k.signed=false){n:Int}(h:(Lit.int k n).wf=true):∃ m:Nat,n=(m:Int)∧m < 2 ^ k.bits:=by
  obtain ⟨h1,h2⟩:=wf_u hk h;obtain ⟨m,rfl⟩:=Int.eq_ofNat_of_zero_le h1;refine ⟨m,E,?_⟩;have h3:((m:Nat):Int) < ((2 ^ k.bits:Nat):Int):=by simpa using h2
  exact Int.ofNat_lt.1 h3
theorem inU(ht:P.underlying t=some (.int k))(hk:k.signed=false)(hv:Value.okWide P w r base t v)(h:DataW.Trod enc P w 0 spare held t v d p):∃ n:Nat,v=.int k (n:Int)∧n < 2 ^ k.bits:=by obtain ⟨n,rfl⟩:=okWide_int ht hv;obtain ⟨f,hf⟩:=h;obtain ⟨m,h1,_,h2⟩:=DataW.trod_int ht hf;obtain ⟨q,rfl,h3⟩:=B1s hk h2;exact ⟨q,by simpa [Value.cells] using h1,h3⟩
end
end Go.Px

namespace Go.Px
variable{c:Code}
section
variable{C:Cx}{Q:XQ}{l:Env}{M J B R M':Mem}{w:World}
theorem St.freezes(h:St C (B++M) J w):St C M (B++J) w:=by
  induction B generalizing J with
  | nil=>exact h
  | cons x B ih =>
    have h1:=ih (J:=x::J) (St.freeze (by simpa using h));refine h1.drop (Ao _) λ y hy=>?_;simp only [List.cons_append,List.mem_cons,List.mem_append] at hy ⊢;rcases hy with h | h | h <;> simp [h]
theorem St.frz(hp:M.Perm (B++M'))(h:St C M J w):St C M' (B++J) w:=(h.perm hp).freezes
theorem Y5(hp:M.Perm (B++M'))(h:XC C c Q l M' (B++J)):XC C c Q l M J:=λ a w ha hw=>h a w ha (hw.frz hp)
theorem A3Z{ops:Array Oper}{rest:List Oper}(hp:M.Perm (B++M'))(h:XL C ops rest Q l M' (B++J)):XL C ops rest Q l M J:=λ a w ha hw=>h a w ha (hw.frz hp)
end
variable{P:Program}{f:FuncId}{args:List Value}
theorem FnX.frz0{A:Mem}{φ:Value->Mem->Prop}(h:FnX P f args [] A λ r M J=>J=[]∧φ r M):FnX P f args [] A λ r M J=>M=[]∧φ r J:=by intro w hw;refine Calls.mono (h w hw) ?_;rintro e w' ⟨v,M',J,rfl,⟨rfl,hq⟩,hs⟩;exact ⟨v,[],M',E,⟨E,hq⟩,by have:=St.frz (B:=M') (M':=[]) (by simp) hs; simpa using this⟩
structure By(R:Mem)(v:Value)(w:List Nat):Prop where
  rd:Rd R 1 v w.length (nums .u8 w)
  lt:∀ x∈w,x < 256
  len:w.length<=16777216
theorem By.mono{R R':Mem}{v:Value}{w:List Nat}(h:By R v w)(hR:∀ x,x∈R->x∈R'):By R' v w:=⟨h.rd.mono hR,h.lt,h.len⟩
variable{R:Mem}{v:Value}{w:List Nat}
theorem By.b256(h:By R v w):B256 w:=⟨h.lt⟩
theorem By.one{R:Mem}{v:Value}{w:List Nat}(h:By R v w):v.oneCell'=true:=h.rd.one
theorem By.cel{R:Mem}{v:Value}{w:List Nat}(h:By R v w):Cel v [v]:=h.rd.cel
theorem By.nil{R:Mem}:By R (.slice none 0 0) []:=⟨Rd.nil,(λ x h=>by cases h),by decide⟩
theorem By.max(h:By R v w):w.length<=maxLen:=Az h.len (by unfold maxLen; omega)
structure Lst(R:Mem)(vs:List Value)(ls:List (List Nat)):Prop where
  len:vs.length=ls.length
  get:∀ (j:Nat) (w:List Nat),ls[j]? = some w->∃ v,vs[j]? = some v∧By R v w
theorem Lst.mono{R R':Mem}{vs:List Value}{ls:List (List Nat)}(h:Lst R vs ls)(hR:∀ x,x∈R->x∈R'):Lst R' vs ls:=⟨h.len,λ j w hj=>by
  obtain ⟨v,h1,h2⟩:=h.get j w hj
  exact ⟨v,h1,h2.mono hR⟩⟩
variable{vs:List Value}{ls:List (List Nat)}
theorem Lst.at(h:Lst R vs ls){j:Nat}(hj:j < ls.length):∃ v,vs[j]? = some v∧By R v ls[j]:=h.get j ls[j] (Ab hj)
theorem Lst.nil:Lst R [] []:=⟨E,λ j w h=>by simp at h⟩
theorem Lst.cons(hv:By R v w)(h:Lst R vs ls):Lst R (v::vs) (w::ls):=⟨by simp [h.len],λ j u hj=>by
  cases j with
  | zero=>simp at hj; subst hj; exact ⟨v,E,hv⟩
  | succ j=>exact h.get j u hj⟩
theorem Lst.snoc(h:Lst R vs ls)(hv:By R v w):Lst R (vs++[v]) (ls++[w]):=⟨by simp [h.len],λ j u hj=>by
  by_cases hlt:j < ls.length
  . rw [Ak hlt] at hj;obtain ⟨v',h1,h2⟩:=h.get j u hj;exact ⟨v',by rw [Ak (Ac.1 h1).1]; exact h1,h2⟩
  . rw [Aq (by omega)] at hj
    have hj0:j=ls.length:=by have:=(Ac.1 hj).1;simp at this; omega
    subst hj0;simp at hj;subst hj
    exact ⟨v,by rw [Aq (by rw [h.len]; omega),h.len]; simp,hv⟩⟩
structure LsV(R:Mem)(v:Value)(ls:List (List Nat)):Prop where
  ex:∃ vs,Rd R 1 v ls.length vs∧Lst R vs ls
theorem LsV.mono{R R':Mem}{v:Value}{ls:List (List Nat)}(h:LsV R v ls)(hR:∀ x,x∈R->x∈R'):LsV R' v ls:=by obtain ⟨vs,h1,h2⟩:=h.ex;exact ⟨vs,h1.mono hR,h2.mono hR⟩
theorem LsV.nil{R:Mem}:LsV R (.slice none 0 0) []:=⟨[],Rd.nil,Lst.nil⟩
theorem LsV.cel{R:Mem}{v:Value}{ls:List (List Nat)}(h:LsV R v ls):Cel v [v]:=by obtain ⟨vs,h1,_⟩:=h.ex;exact h1.cel
variable{b by_:Nat}{u:Value}{M':Mem}
section loud
variable{C:Cx}{l:Env}{M J:Mem}{K:Env->Mem->Mem->Prop}{d:Nat}{ty t e:TypeId}{pos:String}{af:Array Edge}{g:Option (Nat×Bool)}{x y:Operand}
theorem A30{m n:Nat}{k:IntKind}{ws us ws':List Nat}{e':TypeId}(hx:ev l x=some (.slice (some ⟨b,0,none⟩) m m))(hy:ev l y=some u)(ht:A1H C.P t=some (e,1,by_))
    (hr:Rd (M++(J++C.A)) 1 u n (nums k us)) (hm:ws.length=m) (hw':ws'=us.take m++ws.drop n) (hu:Upd M b (blk (nums k ws) e') (blk (nums k ws') e') M') (hd:Nat.blt d C.N=true) (h:K ((d,.int .i64 ((min n m:Nat):Int))::l) M' J) :
    OpL C ⟨some d,.call { callee:=.builtin .copy,args:=#[x,y],argTypes:=#[t,t] },ty,pos,af,g⟩ l M J K:=by
  intro Qp a w ha hw;obtain ⟨i,z,hut,hi,hz,hzs,his,hib⟩:=T4 ht;obtain ⟨pu,cu,rfl,hul,huc,hub⟩:=hr
  have hru:Rd (M++(J++C.A)) 1 (.slice pu n cu) n (nums k us):=⟨pu,cu,E,hul,huc,hub⟩
  have hb:=hw.mem _ _ (Ae _ hu.mem);have hf:=A3k (P:=C.P) (m:=n) (c2:=cu) (hru.hi (min n m) (Nat.min_le_left _ _)) hw.fx;have hus:us.length=n:=by simpa using hul
  rw [Nat.mul_one,show (nums k us).take (min n m)=nums k (us.take (min n m)) by simp [nums]] at hf;have hst:=run_storeCells_at (P:=C.P) b 0 e' (nums k (us.take (min n m))) 0 (nums k ws).toArray w hb (by simp [hus,hm]; omega) E9;simp only [Nat.add_zero,Nat.zero_add,List.take_zero,List.nil_append,nums_len,List.length_take,hus] at hst;rw [<- A0J,<- H8] at hst
  have e1:us.take (min n m)++ws.drop (min (min n m) n)=ws':=by
    rw [hw'];rcases Nat.le_total m n with h | h
    . rw [Nat.min_eq_right h,Nat.min_eq_left h,Bv (l:=ws) (i:=m) (by omega),Bv (l:=ws) (i:=n) (by omega)]
    . rw [Nat.min_eq_left h,Nat.min_self,Aw (l:=us) (i:=n) (by omega),Aw (l:=us) (i:=m) (by omega)]
  rw [e1] at hst
  have hrun:(execOp a.eval ⟨some d,.call { callee:=.builtin .copy,args:=#[x,y],argTypes:=#[t,t] },ty,pos,af,g⟩).run C.P w=.ok (.value (.int .i64 ((min n m:Nat):Int))) (w.setRow b (nums k ws').toArray):=by simp [execOp,resolve,invoke,builtin,ha.ev hx,ha.ev hy,Builtin.copy_,run_underlying hut,sizeOf,typeInfo,hi,his,Builtin.lenOf,hf,hst,goInt]
  unfold Oper.wp;rw [hrun];exact ⟨_,M',J,ha.put (P2 hd) _,hw.setRow hu,h⟩
theorem A2B{sz n m o:Nat}{xs ys:List Value}(hx:ev l x=some (.slice (some ⟨b,o,none⟩) n n))(hy:ev l y=some u)(ht:A1H C.P t=some (e,sz,by_))(hsz:Nat.blt 0 sz=true)
    (hs:Rd (M++(J++C.A)) sz (.slice (some ⟨b,o,none⟩) n n) n xs) (hr:Rd (M++(J++C.A)) sz u m ys) (hm:0 < m) (hmax:n+m<=maxLen) (hbytes:(n+m) * by_<=140737488355328) (hd:Nat.blt d C.N=true)
    (k:∀ v' B',Sl sz v' (n+m) (xs++ys) B'->K ((d,v')::l) (B'++M) J) :
    OpL C ⟨some d,.call { callee:=.builtin .append,args:=#[x,y],argTypes:=#[t,t] },ty,pos,af,g⟩ l M J K:=by
  intro Qp a w ha hw;obtain ⟨i,z,hu,hi,hz,hzs,his,hib⟩:=T4 ht;obtain ⟨pu,cu,rfl,hul,huc,hub⟩:=hr;obtain ⟨p',c',e',hxl,hcc,hxb⟩:=hs;cases e';subst his; subst hib
  obtain ⟨bu,ou,csu,eu,fru,rfl,hbu,hxu⟩:∃ (b o:Nat) (cs:List Value) (e:TypeId) (fr:Nat×Nat),pu=some ⟨b,o,none⟩∧(b,Obj.cells cs.toArray e fr)∈M++(J++C.A)∧∀ j u,ys[j]? = some u->cs[o+j]? = some u:=by
    rcases hub with h | h
    . omega
    . exact h
  have hnews:∀ j u,ys[j]? = some u->w.cell? ((⟨bu,ou,none⟩:Addr).add j)=some u:=λ j u hj=>by rw [Addr.add_mid,A1V hw.fx hbu]; simpa using hxu j u hj
  have holds:∀ j u,xs[j]? = some u->w.cell? ((⟨b,o,none⟩:Addr).add j)=some u:=λ j u hj=>by
    rcases hxb with h | ⟨b2,o2,cs2,e2,f2,h1,h2,h3⟩
    . subst h;have:xs=[]:=Bd (by simpa using hxl);subst this; simp at hj
    . cases h1;rw [Addr.add_mid,A1V hw.fx h2]; simpa using h3 j u hj
  have hsmall:n+m<=9223372036854775807:=by simp only [maxLen] at hmax; omega
  have hge:=grownCap_ge w (n+m) n e;have hcm:grownCap w (n+m) n e<=maxLen:=grownCap_le_maxLen w (n+m) n e hmax;have hrg:=run_append_grow (P:=C.P) w t ty e i z hu hi hz ⟨b,o,none⟩ n n xs hxl holds ⟨bu,ou,none⟩ m cu ys hul hnews (by omega) (by omega) (growslice_fits (by omega) hbytes)
  have hexec:(execOp a.eval ⟨some d,.call { callee:=.builtin .append,args:=#[x,y],argTypes:=#[t,t] },ty,pos,af,g⟩).run C.P w=.ok (.value (.slice (some ⟨w.heap.size,0,none⟩) (n+m) (grownCap w (n+m) n e))) (w.drew.alloc (.cells (xs.toArray++ys.toArray++Builtin.zeroCells z.cells (grownCap w (n+m) n e - (n+m))) e (0,0))):=by simp [execOp,resolve,invoke,builtin,ha.ev hx,ha.ev hy,hrg]
  unfold Oper.wp;rw [hexec]
  have hsl:Sl i.size (.slice (some ⟨w.heap.size,0,none⟩) (n+m) (grownCap w (n+m) n e)) (n+m) (xs++ys) [(w.heap.size,.cells (xs.toArray++ys.toArray++Builtin.zeroCells z.cells (grownCap w (n+m) n e - (n+m))) e (0,0))]:=by
    refine .inr ⟨w.heap.size,0,_,(xs.toArray++ys.toArray++Builtin.zeroCells z.cells (grownCap w (n+m) n e - (n+m))).toList,e,E,by simp [blk],hge,hcm,?_,?_,?_⟩
    . simp only [Array.length_toList,Array.size_append,List.size_toArray,size_zeroCells,hzs,hxl,hul,<- Nat.add_mul,Nat.zero_add];refine Au _ ?_;omega
    . simp [hxl,hul,Nat.add_mul]
    . intro j u hj;have hlt:j < (xs++ys).length:=(Ac.1 hj).1;rw [Nat.zero_add];simp only [Array.toList_append,List.append_assoc];rw [<- Ap,Ak (by simpa using hlt)];exact hj
  exact ⟨_,_,J,ha.put (P2 hd) _,St.alloc (w:=w.drew) hw.drew _,k _ _ hsl⟩
end loud
def retZ(P:Program)(fn:Func)(A:Mem)(post:Value->Mem->Mem->Prop):XQ
  | .ret,l,M,J=>∃ v M' B,Res P fn l (M++(J++A)) v∧Fit M (B++M')∧post v M' (B++J)
  | .normal,l,M,J=>∃ v M' B,Res P fn l (M++(J++A)) v∧Fit M (B++M')∧post v M' (B++J)
  | _,_,_,_=>False
variable{M:Mem}
theorem FnX.enterZ{fn:Func}{N:Nat}{A:Mem}{post:Value->Mem->Mem->Prop}
    (hf:P.funcs[f]? = some fn) (hb:fn.body=some c) (hn:fn.ntmps=N) (hN:Nat.ble args.length N=true)
    (h:∀ w,XC ⟨P,w,M.map Prod.fst,A,N⟩ c (retZ P fn A post) (C0L args 0) M []):FnX P f args M A post:=by
  intro w hw;refine calls_of_wp hf hb ?_;have hle:args.length<=N:=by simpa using hN
  refine Code.wp_mono ?_ (h w _ w ?_ hw.cx)
  . rintro e a' w' ⟨l,M',J,ha,hw',hq⟩;cases e <;> first | exact hq.elim | skip
    all_goals
      obtain ⟨v,M2,B,hv,hM2,hp⟩:=hq;exact ⟨ha.defers,v,hv N a' w' ha hw'.fx,v,M2,B++J,E,hp,(hw'.fit hM2 (λ _ h=>h)).freezes.cx⟩
  . refine ⟨E,by simp [hn]; omega,?_⟩;intro i v hi;obtain ⟨_,h2⟩:=A7B args 0 i v hi;simp only [Nat.sub_zero] at h2;have hlt:i < args.length:=(Ac.1 h2).1;rw [Array.getElem?_append_left (by simpa using hlt)];simpa using h2
theorem Fit.nil:Fit M ([]++[]):=Fit.sub (List.nil_sublist _)
theorem Fit.none(h:Fit M M'):Fit M ([]++M'):=h
instance PickC.two{M X Y R1 R:Mem}[h1:PickC M X R1][h2:PickC R1 Y R]:PickC M (X++Y) R:=⟨h1.perm.trans (by rw [Ap]; exact h2.perm.append_left X)⟩
instance(priority:=50) PickC.left{D M B R:Mem}[h:PickC D B R]:PickC (D++M) B (R++M):=⟨(List.Perm.append_right M h.perm).trans (by rw [Ap])⟩
instance(priority:=60) PickC.consB{M B R1 R:Mem}{x:Nat×Obj}[h1:PickC M [x] R1][h2:PickC R1 B R]:PickC M (x::B) R:=⟨h1.perm.trans (List.Perm.cons x h2.perm)⟩
theorem uL{B B' r:Mem}{o o':Obj}(h:Upd B b o o' B'):Upd (B++r) b o o' (B'++r):=by
  induction h with
  | hd=>exact .hd
  | tl _ ih=>exact .tl ih
instance(priority:=50) UpC.lft{b:Nat}{o o':Obj}{B B' r:Mem}[h:UpC B b o o' B']:UpC (B++r) b o o' (B'++r):=⟨uL h.upd⟩
end Go.Px

namespace Go.Proofs.YtjkpfgjfpbihaaaGreatDoor
open Go.Px
structure Glb(A:Mem):Prop where
  first:∃ e f,(0,Obj.cells (nums .u32 A27.list).toArray e f)∈A
  round:∃ e f,(1,Obj.cells (nums .u32 A2c).toArray e f)∈A
  pow:∃ e f,(4,Obj.cells (nums .u64 A0B).toArray e f)∈A
theorem Glb.sub{A A':Mem}(h:Glb A)(hs:∀ x,x∈A->x∈A'):Glb A':=by obtain ⟨⟨a,b,c⟩,⟨d,e,f⟩,⟨g,h,i⟩⟩:=h;exact ⟨⟨a,b,hs _ c⟩,⟨d,e,hs _ f⟩,⟨g,h,hs _ i⟩⟩
variable{M:Mem}
theorem Glb.up{J A:Mem}(h:Glb A):Glb (M++(J++A)):=h.sub λ _ h=>mA h
structure Ps where
  real:Bool
  seed:LN
  n:Nat
  ts:List Tm
def md(b:Bool):Int:=if b then 0 else 1
structure Prm(pb:Nat)(s:Ps)(M:Mem):Prop where
  ex:∃ (sv:Value) (bt bm:Nat) (B MT:Mem),M=(pb,blk [.int .u8 (md s.real),sv,(vI s.n),(vP bt)] 102)::(B++MT)∧By B sv s.seed∧Tab bt bm s.ts MT
def I5(w:LN)(n:Nat):LN:=w.take n++List.replicate (n - w.length) 0
theorem L7(w:LN)(n:Nat):(I5 w n).length=n:=by simp [I5]; omega
variable{w:LN}
theorem A2V(h:∀ x∈w,x < 256)(n:Nat):∀ x∈I5 w n,x < 256:=by
  intro x hx;rcases List.mem_append.1 hx with h1 | h1
  . exact h x (Bw h1)
  . rw [(List.mem_replicate.1 h1).2]; decide
def A8Q(n:Nat):LN:=(List.range 8).map (byt ((n:Nat):Int))
def B4m(seed:LN)(n:Nat):LN:=Z5 (A7y [] seed) ([107,101,121]++A8Q n) 32
def C0z(n:Nat):Tm:=⟨1,[],[],(n:Int)⟩
def G3(s:Ps):Ps:=if s.real then { s with n:=s.n+1 } else { s with n:=s.n+1,ts:=add s.ts (C0z (s.n+1)) }
def G5(s:Ps):LN:=if s.real then B4m s.seed (s.n+1) else bts ((at_ s.ts (C0z (s.n+1)):Nat):Int)
variable{s:Ps}
theorem B5h(h:s.real=true):G3 s={ s with n:=s.n+1 }:=if_pos h
theorem B5i(h:s.real=false):G3 s={ s with n:=s.n+1,ts:=add s.ts (C0z (s.n+1)) }:=if_neg (by rw [h]; decide)
theorem A8R(h:s.real=true):G5 s=B4m s.seed (s.n+1):=if_pos h
theorem B5j(h:s.real=false):G5 s=bts ((at_ s.ts (C0z (s.n+1)):Nat):Int):=if_neg (by rw [h]; decide)
theorem B1t(n:Nat):∀ x∈A8Q n,x < 256:=by intro x hx;obtain ⟨k,_,rfl⟩:=List.mem_map.1 hx;exact B7k _ _
theorem A6W(key info:LN)(n:Int):∀ x∈Z5 key info n,x < 256:=λ x hx=>B0V _ _ _ x (Bw hx)
theorem B1u(key info:LN)(n:Int):(Z5 key info n).length<=n.toNat:=by unfold Z5; exact List.length_take_le _ _
variable{n:Nat}
theorem B5k(h:n<=1099511627776):Tmo (C0z n):=⟨show 1 < 256 by decide,show i64 (n:Int) by unfold i64; omega,λ i hi=>(List.not_mem_nil hi).elim,show 0<=1048576 by decide,⟨λ x hx=>(List.not_mem_nil hx).elim⟩,show 0<=1099511627776 by decide⟩
theorem C1d{R:Mem}{v:Value}{i:Int}(h:Rd R 1 v 32 (nums .u8 (bts i))):By R v (bts i):=⟨by rw [show (bts i).length=32 from A3Y i qO]; exact h,C3t i,by rw [show (bts i).length=32 from A3Y i qO]; decide⟩
theorem V4(i:Int)(A:Mem):FnX Tryz.prog 49 [.int .i64 i] [] A λ r M J=>M=[]∧By J r (bts i) :=
  ((A9S i A).mono (post':=λ r M J=>J=[]∧By M r (bts i)) λ v M J ⟨h1,h2⟩=>⟨h1,C1d (h2.rd λ _ h=>h)⟩).frz0
theorem B1v(r:Bool)(v:Value)(seed:LN)(A:Mem)(hv:By A v seed):FnX Tryz.prog 15 [.int .u8 (md r),v] [] A λ q M J=>∃ pb,q=.tuple #[(vP pb),.int .i64 0]∧Prm pb ⟨r,seed,0,[]⟩ M:=by
 haveI:=hv.cel;have hvl:=hv.len;refine FnX.enterZ (N:=18) Tryz.func15 E E E λ w_=>?_;refine A9 (D2 0 1) (A1 (as_ (as_ (A0 (D2 0 1) (A4 ?_)))));cases r
 . refine A1 (mv_ ?_);refine A2 (F5 true E E (neT qD)) E ?_;refine mv_ ?_;refine F3 E E (Cn qm_ E ?_);refine F3 E E (Cn (F5 false E E (neF qR)) E ?_);refine A2 (G8 E E) E ?_;refine A0 (D6 0 1 11) ?_;refine C9 E ?_;refine A6 (nx (D2 0 1) (A1 (mv_ (mv_ ?_))));refine A3 E (H5 (e:=5) (sz:=1) (by_:=1) E E kR E Sl.nil (hv.rd.mono qS) E9 qP (by unfold maxLen; omega) qO E λ v14 B14 hs14=>?_);haveI:=hs14.cel;refine C7 a0 kR (A6U _) E ?_;rintro v15 M15 J15 ⟨rfl,bt,bm,rfl,hT0⟩;refine A2 (F1 (place:=λ x=>#[(0,1),(1,1),(2,1),(3,1)][x]?) (z:=[.int .u8 0,vS,.int .i64 0,.pointer none]) (λ _=>by kernel_rfl) (eS E (eS E (eS E e0))) (bdS 0 1 E qR (bdS 1 1 E qR (bdS 3 1 E qR bd0)))) E ?_;refine A3 E (bx_ λ b17=>?_);refine as_ (as_ (A0 (D2 4 5) (C0 ?_)));refine ⟨_,(b17,_)::(B14++M15),[],A1s E E E,Fit.none (Ch (B:=[_]) qP (Ch qP (Cf qP))),_,E,⟨v14,bt,bm,B14,M15,E,⟨?_,hv.lt,hv.len⟩,hT0⟩⟩;have h:=hs14.rd (R:=B14) λ _ h=>h;simpa using h
 . refine A1 (mv_ ?_);refine A2 (F5 false E E (neF qR)) E ?_;refine mv_ ?_;refine K3 E E E E ?_;refine K3 E E E E ?_;refine A2 (F2 E E) E ?_;refine A0 (D6 0 1 11) ?_;refine C9 E ?_;refine A6 (nx (D2 0 1) (A1 (mv_ (mv_ ?_))));refine A3 E (H5 (e:=5) (sz:=1) (by_:=1) E E kR E Sl.nil (hv.rd.mono qS) E9 qP (by unfold maxLen; omega) qO E λ v14 B14 hs14=>?_);haveI:=hs14.cel;refine C7 a0 kR (A6U _) E ?_;rintro v15 M15 J15 ⟨rfl,bt,bm,rfl,hT0⟩;refine A2 (F1 (place:=λ x=>#[(0,1),(1,1),(2,1),(3,1)][x]?) (z:=[.int .u8 0,vS,.int .i64 0,.pointer none]) (λ _=>by kernel_rfl) (eS E (eS E (eS E e0))) (bdS 0 1 E qR (bdS 1 1 E qR (bdS 3 1 E qR bd0)))) E ?_;refine A3 E (bx_ λ b17=>?_);refine as_ (as_ (A0 (D2 4 5) (C0 ?_)));refine ⟨_,(b17,_)::(B14++M15),[],A1s E E E,Fit.none (Ch (B:=[_]) qP (Ch qP (Cf qP))),_,E,⟨v14,bt,bm,B14,M15,E,⟨?_,hv.lt,hv.len⟩,hT0⟩⟩;have h:=hs14.rd (R:=B14) λ _ h=>h;simpa using h
theorem X6(v:Value)(w:LN)(n:Nat)(A:Mem)(hv:By A v w)(hn:n<=1000):FnX Tryz.prog 48 [v,.int .i64 (n:Int)] [] A λ q M J=>M=[]∧By J q (I5 w n):=by haveI:=hv.cel;have hvl:=hv.len;refine FnX.enterZ (N:=12) Tryz.func48 E E E λ w_=>?_;refine A9 (D2 0 1) (A1 (as_ (A0 (D2 0 1) (A1 (mv_ ?_)))));refine A3 E (A0F (by_:=1) (k:=.u8) (e:=5) n E E kR E E qO qO E λ b7=>?_);refine as_ (A0 (D2 0 5) (A1 (mv_ (mv_ ?_))));refine A3 E (A30 (e:=5) (us:=w) (ws:=List.replicate n 0) (ws':=I5 w n) (by_:=1) E E kR (hv.rd.mono qS) qM (by simp [I5]) Cs E ?_);refine A0 (D5 5) (A1 (mv_ (as_ (A0 (D5 4) (C0 ?_)))));refine ⟨_,[],[(b7,blk (nums .u8 (I5 w n)) 5)],I0 E E,Ce qM,⟨E,⟨?_,A2V hv.lt n,by rw [L7]; omega⟩⟩⟩;rw [L7];exact Co (n:=n) qK (by simp [L7])
theorem A40(pb:Nat)(s:Ps)(v:Value)(w:LN)(MP A:Mem)(hP:Prm pb s MP)(hn:s.ts.length<=1048576)(hv:By A v w)(hG:Glb A):FnX Tryz.prog 51 [(vP pb),v] MP A λ q M J=>q=.int .i64 ((rdI s.ts w:Nat):Int)∧Prm pb { s with ts:=rdT s.ts w } M:=by obtain ⟨sv,bt,bm,B,MT,rfl,hby,hT⟩:=hP.ex;obtain ⟨⟨ge0,gf0,h0⟩,⟨ge1,gf1,h1⟩,⟨ge4,gf4,h4⟩⟩:=hG;haveI:=hv.cel;have hvl:=hv.len;refine FnX.enterZ (N:=11) Tryz.func51 E E E λ w_=>?_;refine A9 (D2 0 1) (A1 (as_ (A0 (D2 0 1) (A1 (mv_ ?_)))));refine A2 (E7 E) E ?_;refine A2 (qf_ 3 3) E ?_;refine A2 ql_ E ?_;refine mv_ ?_;refine A3 E (D0 (Mc:=MT) (R:=_) (aS E (aS E a0)) kR qP (A6V bt bm s.ts v w MT _ hT hn (hv.rd.mono qS) hv.lt qO (mA h4)) E ?_);rintro v10 M10 J10 ⟨rfl,rfl,hT10⟩;refine as_ (A0 (D5 4) (C0 ?_));exact ⟨_,(pb,blk [.int .u8 (md s.real),sv,.int .i64 (((s.n:Nat):Int)),(vP bt)] 102)::(B++M10),[],I0 E E,(Fit.none (Ch (B:=[_]) qP (Ch qP (Cf qP)))),E,⟨sv,bt,bm,B,M10,E,hby,hT10⟩⟩
theorem W8(pb:Nat)(s:Ps)(MP A:Mem)(hP:Prm pb s MP)(hn:s.ts.length<=1048576)(hk:s.n < 1099511627776)(hG:Glb A):FnX Tryz.prog 33 [(vP pb)] MP A λ q M J=>Prm pb (G3 s) M∧By J q (G5 s):=by
 obtain ⟨sv,bt,bm,B,MT,rfl,hby,hT⟩:=hP.ex;obtain ⟨⟨ge0,gf0,h0⟩,⟨ge1,gf1,h1⟩,⟨ge4,gf4,h4⟩⟩:=hG;haveI:=hby.cel;refine FnX.enterZ (N:=55) Tryz.func33 E E E λ w_=>?_;refine A9 (D5 0) (A1 (as_ (A0 (D5 0) (A4 (A1 (mv_ ?_))))));refine A2 (F6 (e:=102) E E kR) E ?_;refine A0 (D2 0 6) ?_;refine C9 E ?_;refine A6 (nx (D5 0) (A1 (mv_ ?_)));refine A2 (E7 E) E ?_;refine A2 (qf_ 2 2) E ?_;refine A2 ql_ E ?_;refine A2 (K7 (b:=1) E E E E qO) E ?_;refine A2 (E7 E) E ?_;refine A2 (qf_ 2 2) E ?_;refine A3 E (E4 E E E kR Cq Cs ?_);refine A0 (D5 0) (A4 (A1 (mv_ ?_)));refine A2 (E7 E) E ?_;refine A2 (qf_ 0 0) E ?_;refine A2 ql_ E ?_;refine A2 (F0 E E E) E ?_;refine A0 (D2 0 18) ?_;refine C4 E ?_ ?_ <;> intro hc
 .
  have hr:s.real=true:=by cases hq:s.real with | true=>rfl | false=>rw [hq] at hc; exact absurd hc qD
  refine A1 (as_ (A0 (D2 0 3) (A4 (A1 (mv_ (A0 (D6 0 3 19) (A8 ?_)))))));refine E5 (α:=Nat×Value×Mem) (λ x=>[(0,(vP pb)),(3,x.2.1),(19,(vI x.1))]) (λ x=>x.2.2++((pb,blk [.int .u8 (md s.real),sv,.int .i64 (((s.n+1:Nat):Int)),(vP bt)] 102)::(B++MT))) (λ _=>[]) (λ x=>x.1<=8∧Sl 1 x.2.1 x.1 (nums .u8 ((List.range x.1).map (byt ((s.n+1:Nat):Int)))) x.2.2) (λ x=>8 - x.1) ⟨0,vS,[]⟩ ⟨Am _,Sl.nil⟩ (D6 0 3 19) .rfl qI ?_;rintro ⟨i,v3,B3⟩ ⟨hi,hs3⟩;dsimp only at hi hs3 ⊢;haveI:=hs3.cel;refine A1 ?_;refine A2 (F0 E E E) E ?_;refine A0 (D8 0 3 19 20) (A4 ?_);refine C4 E ?_ ?_ <;> intro hc
  .
   have hlt:i < 8:=by simp at hc; omega
   refine A6 (nx (D6 0 3 19) (A4 (A8 (A1 (mv_ (as_ (A0 (D8 0 3 4 19) (C2 ?_))))))));refine mv_ (mv_ ?_);refine A2 (E7 E) E ?_;refine A2 (qf_ 2 2) E ?_;refine A2 ql_ E ?_;refine mv_ ?_;refine A2 (A03 (a:=8) E E E E qO) E ?_;refine A2 (B1o (k:=i) E E E hlt) E ?_;refine A2 (B1p E kR) E ?_;refine A3 E (C5 (e:=5) (sz:=1) (z:=[.int .u8 0]) kR (eS E e0) (bdS 0 1 E qR bd0) E λ b31=>?_);refine A3 E (H5 (e:=5) (sz:=1) (by_:=1) E E kR E (by first | assumption | exact Sl.nil) (Co (n:=1) Cc qR) (by first | (simp [Value.oneCell']; done) | (intro c hc; simp only [List.mem_singleton] at hc; subst hc; first | exact Rd.one (by assumption) | exact Sl.one (by assumption))) qP (by unfold maxLen; omega) qO E λ v32 B32 hs32=>?_);refine as_ (C6 (nb (nx (D6 0 3 19) (C2 ?_))));refine A2 (K7 (b:=1) E E E E qO) E ?_;refine mv_ (C6 ?_);exact rn ⟨i+1,v32,B32⟩ ⟨by dsimp only; omega,by dsimp only; rw [List.range_succ,List.map_append,H8]; exact hs32⟩ (by dsimp only; omega) (D6 0 3 19) (Ch qP (Ch (B:=[_]) qP (Cf qP))) (λ _ h=>by cases h)
  .
   have hge:i=8:=by simp at hc; omega
   subst hge;refine D9 (te (re (be E (nx (D2 0 3) (A1 (mv_ ?_))))));refine A2 (E7 E) E ?_;refine A2 (qf_ 1 1) E ?_;refine A2 ql_ E ?_;refine C7 (aS rfl (aS rfl a0)) kR ((A29 (vS) sv [] s.seed _ Rd.nil (λ x h=>by cases h) qM (hby.rd.mono qS) hby.lt (by have:=hby.len; omega) (mA h0) (mA h1)).frz0) E ?_;rintro v38 M38 J38 ⟨rfl,h38⟩;refine A3 E (C5 (e:=5) (sz:=1) (z:=[zu8,zu8,zu8]) kR (eS E (eS E (eS E e0))) (bdS 0 1 E qR (bdS 1 1 E qR (bdS 2 1 E qR bd0))) E λ b39=>?_);refine A3 E (A3N E kR Cs E ?_);refine mv_ ?_;refine A3 E (A2B (e:=5) (sz:=1) (by_:=1) (xs:=nums .u8 [107,101,121]) E E kR E (Co (n:=3) Cc qR) (hs3.rd qS) qD qD qD E λ v42 B42 hs42=>?_);have hs42:Sl 1 v42 ([107,101,121]++A8Q (s.n+1)).length (nums .u8 ([107,101,121]++A8Q (s.n+1))) B42:=W6 hs42 (by simp [A8Q]) (by rw [H8]; rfl);refine C7 (aS E (aS E (aS E a0))) kR ((A3Q v38 v42 (A7y [] s.seed) ([107,101,121]++A8Q (s.n+1)) 32 _ (by rw [A1x]; exact (h38.rd qS)) (A5r _ _) (by rw [A1x]; decide) (hs42.rd qS) (λ x hx=>by rcases List.mem_append.1 hx with h | h; (simp at h; omega); exact B1t _ x h) (by simp [A8Q]) qD qD (mA h0) (mA h1)).frz0) E ?_;rintro v43 M43 J43 ⟨rfl,h43⟩;refine as_ (A0 (D5 2) (C0 (tr ?_)));exact ⟨_,(pb,blk [.int .u8 (md s.real),sv,.int .i64 (((s.n+1:Nat):Int)),(vP bt)] 102)::(B++MT),[],I0 E E,(Fit.none (Ch (B:=[_]) qP (Ch qP (Cf qP)))),by rw [B5h hr]; exact ⟨sv,bt,bm,B,MT,E,hby,hT⟩,by rw [A8R hr]; exact ⟨h43.mono qS,A6W _ _ _,Az (B1u _ _ _) qD⟩⟩
 .
  have hr:s.real=false:=by cases hq:s.real with | false=>rfl | true=>rw [hq] at hc; exact absurd hc qD
  refine A6 (nx (D5 0) ?_);refine D1 [0,1,2,3,4,5,6,7,8,11] (zp 0 [0,0,0,1,0,0,0,1,0,2,2,0]) kR kR λ hs=>?_;refine fm_ hs ?_;refine C8 hs E (E7 E) E ?_;refine C8 hs E (qf_ 3 3) E ?_;refine F9 hs E ql_ E ?_;refine fm_ hs ?_;refine C8 hs E (E7 E) E ?_;refine C8 hs E (qf_ 2 2) E ?_;refine F9 hs E ql_ E ?_;refine C8 hs E (F1 (place:=λ x=>#[(0,1),(1,1),(2,1),(3,1)][x]?) (z:=[.int .u8 0,vS,.string ByteArray.empty,.int .i64 0]) (λ _=>by kernel_rfl) (eS E (eS E e0)) (bdS 0 1 E qR (bdS 3 1 E qR bd0))) E ?_;refine G1 E E E (D0 (Mc:=MT) (R:=_) (aS E (aS E a0)) kR qP (S9 bt bm s.ts (vS) (C0z (s.n+1)) MT _ hT hn Rd.nil (B5k qO) (mA h4)) E ?_);rintro v53 M53 J53 ⟨rfl,rfl,hT53⟩;refine G1 E E E (E2 (aS E a0) kR (V4 _ _) E ?_);rintro v54 M54 J54 ⟨rfl,h54⟩;refine fa_ hs ?_;refine E3 (D5 2) (C0 ?_);exact ⟨_,(pb,blk [.int .u8 (md s.real),sv,.int .i64 (((s.n+1:Nat):Int)),(vP bt)] 102)::(B++M53),[],I0 E E,(Fit.none (Ch (B:=[_]) qP (Ch qP (Cf qP)))),by rw [B5i hr]; exact ⟨sv,bt,bm,B,M53,E,hby,hT53⟩,by rw [B5j hr]; exact h54.mono qS⟩

def B0r(ws:List (LN)):LN:=ws.flatMap λ w=>I5 w 32
def A8S(key:LN)(ws:List (LN))(lb:LN)(n:Nat):LN:=Z5 (A7y (I5 key 32) (B0r ws)) lb ((32 * n:Nat):Int)
def C0A(b:LN)(n:Nat):List (LN):=(List.range n).map λ i=>(b.take (32 * i+32)).drop (32 * i)
def drv(ofs:List Int)(lb:LN)(i:Nat):Tm:=⟨5,ofs,lb,(i:Int)⟩
def A41(st:List Tm×List Int)(w:LN):List Tm×List Int:=(rdT st.1 w,st.2++[((rdI st.1 w:Nat):Int)])
def A31(ts:List Tm)(key:LN)(ws:List (LN)):List Tm×List Int:=ws.foldl A41 (A41 (ts,[]) key)
def C1e(ofs:List Int)(lb:LN)(st:List Tm×List (LN))(i:Nat):List Tm×List (LN):=(add st.1 (drv ofs lb i),st.2++[bts ((at_ st.1 (drv ofs lb i):Nat):Int)])
def A15(ts:List Tm)(ofs:List Int)(lb:LN)(n:Nat):List Tm×List (LN):=(List.range n).foldl (C1e ofs lb) (ts,[])
def B4n(ts:List Tm)(key:LN)(ws:List (LN))(lb:LN)(n:Nat):List Tm×List (LN):=A15 (A31 ts key ws).1 (A31 ts key ws).2 lb n
def B0s(s:Ps)(key:LN)(ws:List (LN))(lb:LN)(n:Nat):Ps:=if s.real then s else { s with ts:=(B4n s.ts key ws lb n).1 }
def B0t(s:Ps)(key:LN)(ws:List (LN))(lb:LN)(n:Nat):List (LN):=if s.real then C0A (A8S key ws lb n) n else (B4n s.ts key ws lb n).2
variable{key lb:LN}{ws:List (LN)}
theorem B7m(h:s.real=true):B0s s key ws lb n=s:=if_pos h
theorem C1f(h:s.real=false):B0s s key ws lb n={ s with ts:=(B4n s.ts key ws lb n).1 }:=if_neg (by rw [h]; decide)
theorem A6X(h:s.real=true):B0t s key ws lb n=C0A (A8S key ws lb n) n:=if_pos h
theorem B7n(h:s.real=false):B0t s key ws lb n=(B4n s.ts key ws lb n).2:=if_neg (by rw [h]; decide)
theorem B8I(h:∀ w∈ws,∀ x∈w,x < 256):∀ x∈B0r ws,x < 256:=by intro x hx;obtain ⟨w,hw,hx⟩:=List.mem_flatMap.1 hx;exact A2V (h w hw) 32 x hx
theorem B5l(ws:List (LN)):(B0r ws).length=32 * ws.length:=by
  induction ws with
  | nil=>rfl
  | cons w ws ih =>
    have:B0r (w::ws)=I5 w 32++B0r ws:=rfl;rw [this,An,ih,L7,List.length_cons]; omega
variable{i:Nat}
theorem B1w(h:i < ws.length):B0r (ws.take (i+1))=B0r (ws.take i)++I5 ws[i] 32:=by unfold B0r;rw [Bh,Ab h,List.flatMap_append]; simp
variable{β:Type}
theorem B1x{α:Type}{f:β->α->β}{b:β}{l:List α}(h:i < l.length):(l.take (i+1)).foldl f b=f ((l.take i).foldl f b) l[i]:=by rw [Bh,Ab h,List.foldl_append]; rfl
theorem A2W{f:β->Nat->β}{b:β}(i:Nat):(List.range (i+1)).foldl f b=f ((List.range i).foldl f b) i:=by rw [List.range_succ,List.foldl_append]; rfl
variable{ts:List Tm}
theorem B7o(hw:∀ x∈w,x < 256)(hl:w.length<=1099511627776)(hts:∀ t∈ts,Tmo t):rdI ts w < (rdT ts w).length:=by
  cases hp:plc w ts.length with
  | some j =>
    obtain ⟨h1,h2⟩:=A2x hp;rw [h1,h2]; exact (A8O hp).1
  | none =>
    obtain ⟨h1,h2⟩:=A2y hp;rw [h1,h2]
    cases hq:pos ts (B46 w) with
    | some j =>
      obtain ⟨h3,h4⟩:=A8P hq;rw [h3,h4];exact (Ac.1 (A8K (A5F hw hl) hts hq)).1
    | none =>
      obtain ⟨h3,h4⟩:=B5a hq;rw [h3,h4]; simp
theorem B8J(hw:∀ x∈w,x < 256)(hl:w.length<=1099511627776)(hts:∀ t∈ts,Tmo t):∀ t∈rdT ts w,Tmo t:=by
  cases hp:plc w ts.length with
  | some j=>rw [(A2x hp).1]; exact hts
  | none =>
    rw [(A2y hp).1];unfold add;split
    . exact hts
    . intro t ht;rcases List.mem_append.1 ht with h | h
      . exact hts t h
      . rw [List.mem_singleton.1 h]; exact A5F hw hl
theorem C1g{ofs:List Int}(ho:∀ x∈ofs,i64 x)(hl:ofs.length<=1048576)(hb:B256 lb)(hbl:lb.length<=1099511627776)(hi:i<=100):Tmo (drv ofs lb i):=⟨show 5 < 256 by decide,show i64 (i:Int) by unfold i64; omega,ho,hl,hb,hbl⟩
structure RdOk(n0 k:Nat)(st:List Tm×List Int):Prop where
  len:st.1.length<=n0+k
  ofl:st.2.length=k
  of:∀ x∈st.2,0<=x∧x < (st.1.length:Int)
  tmo:∀ t∈st.1,Tmo t
theorem C1h:ts.length<=(rdT ts w).length:=by
  cases hp:plc w ts.length with
  | some j=>rw [(A2x hp).1]; exact Av _
  | none =>
    rw [(A2y hp).1];unfold add;split <;> simp
theorem RdOk.step{n0 k:Nat}{st:List Tm×List Int}(h:RdOk n0 k st)(hw:∀ x∈w,x < 256)(hl:w.length<=1099511627776):RdOk n0 (k+1) (A41 st w):=by
  refine ⟨?_,by simp [A41,h.ofl],?_,B8J hw hl h.tmo⟩
  . have:=U1 (ts:=st.1) (ws:=w);have:=h.len;show (rdT st.1 w).length<=_;omega
  . intro x hx;have hge:=C1h (ts:=st.1) (w:=w);have hlt:=B7o (ts:=st.1) hw hl h.tmo;show 0<=x∧x < (((rdT st.1 w).length:Nat):Int);rcases List.mem_append.1 hx with h1 | h1
    . have:=h.of x h1; omega
    . rw [List.mem_singleton.1 h1]; omega
theorem A5G(b:LN)(n:Nat):(C0A b n).length=n:=by simp [C0A]
theorem A2C(ts:List Tm)(ofs:List Int)(lb:LN)(n:Nat):(A15 ts ofs lb n).2.length=n∧(A15 ts ofs lb n).1.length<=ts.length+n:=by
  induction n with
  | zero=>exact ⟨E,Av _⟩
  | succ n ih =>
    have e:A15 ts ofs lb (n+1)=C1e ofs lb (A15 ts ofs lb n) n:=A2W n;rw [e];refine ⟨by simp [C1e,ih.1],?_⟩;have:=A14 (ts:=(A15 ts ofs lb n).1) (t:=drv ofs lb n);show (add _ _).length<=_;omega
theorem B5m(key:LN)(ws:List (LN))(lb:LN)(hn:n<=8):(A8S key ws lb n).length=32 * n:=by unfold A8S;rw [A0f];omega
theorem B1y(l:List Int)(x:Int):A1J (l++[x])=A1J l++[.int .i64 x]:=by simp [A1J]
theorem A16(pb:Nat)(s:Ps)(kv wv:Value)(key lb:LN)(ws:List (LN))(n:Nat)(MP A:Mem)(hP:Prm pb s MP)(hk:By A kv key)(hw:LsV A wv ws)(hwn:ws.length<=1000)(hlb:B256 lb)(hll:lb.length<=1000)(hn0:1<=n)(hn8:n<=8)(hn:s.ts.length<=1040000)(hG:Glb A):FnX Tryz.prog 75 [(vP pb),kv,wv,.string (txt lb),.int .i64 (n:Int)] MP A λ q M J=>Prm pb (B0s s key ws lb n) M∧LsV J q (B0t s key ws lb n):=by
 obtain ⟨sv,bt,bm,B,MT,rfl,hby,hT⟩:=hP.ex;have hGG:=hG;obtain ⟨⟨ge0,gf0,h0⟩,⟨ge1,gf1,h1⟩,⟨ge4,gf4,h4⟩⟩:=hGG;haveI:=hby.cel;haveI:=hk.cel;obtain ⟨wvs,hwr,hwl⟩:=hw.ex;haveI:=hwr.cel
 have hw256:∀ w∈ws,∀ x∈w,x < 256:=λ w hw=>by obtain ⟨j,hj⟩:=List.getElem?_of_mem hw;obtain ⟨v,_,h⟩:=hwl.get j w hj;exact h.lt
 have hTmo:∀ t∈s.ts,Tmo t:=by obtain ⟨_,_,_,_,_,_,_,_,_,_,_,h,_⟩:=hT;exact h
 refine FnX.enterZ (N:=108) Tryz.func75 E E E λ w_=>?_;refine A9 (E8 0 1 2 3 4) (A1 (as_ (A0 (E8 0 1 2 3 4) (A1 (as_ (A0 (H1 0 1 2 3 4 11) (A4 ?_)))))));refine A1 (mv_ ?_);refine A2 (F6 (e:=102) E E kR) E ?_;refine mv_ ?_;refine F3 E E (Cn qm_ E ?_);refine F3 E E (Cn (F5 false E E (ltF qO)) E ?_);refine A2 (F2 E E) E ?_;refine A0 (N9 0 1 2 3 4 11 26) ?_;refine C9 E ?_;refine A6 (nx (H1 0 1 2 3 4 11) (A4 (A1 (mv_ ?_))));refine A2 (E7 E) E ?_;refine A2 (qf_ 0 0) E ?_;refine A2 ql_ E ?_;refine A2 (F0 E E E) E ?_;refine A0 (N9 0 1 2 3 4 11 32) ?_;refine C4 E ?_ ?_ <;> intro hc
 .
  have hr:s.real=true:=by cases hq:s.real with | true=>rfl | false=>rw [hq] at hc; exact absurd hc qD
  refine A1 (as_ (A0 (H1 1 2 3 4 11 12) (A4 (A1 (mv_ ?_)))));refine A2 (G6 (sz:=1) E kR hwr) E ?_;refine mv_ (A0 (W4 1 3 4 11 12 33 34 35) (A8 ?_));refine E5 (α:=Nat×Value×Mem×Mem) (λ x=>[(1,kv),(3,.string (txt lb)),(4,.int .i64 (n:Int)),(11,vS),(12,x.2.1),(33,wv),(34,(vI ws.length)),(35,(vI x.1))]) (λ x=>x.2.2.1++((pb,blk [.int .u8 (md s.real),sv,.int .i64 (((s.n:Nat):Int)),(vP bt)] 102)::(B++MT))) (λ x=>x.2.2.2) (λ x=>x.1<=ws.length∧Sl 1 x.2.1 (B0r (ws.take x.1)).length (nums .u8 (B0r (ws.take x.1))) x.2.2.1) (λ x=>ws.length - x.1) ⟨0,vS,[],[]⟩ ⟨Am _,Sl.nil⟩ (W4 1 3 4 11 12 33 34 35) .rfl qI ?_;rintro ⟨i,v12,B12,J12⟩ ⟨hi,hs12⟩;dsimp only at hi hs12 ⊢;haveI:=hs12.cel;have hfl:=B5l (ws.take i);rw [Bj] at hfl;refine A1 ?_;refine A2 (F0 E E E) E ?_;refine A0 (A0m 1 3 4 11 12 33 34 35 36) (A4 ?_);refine C4 E ?_ ?_ <;> intro hc
  .
   have hlt:i < ws.length:=by simp at hc; omega
   obtain ⟨v,hvi,hvb⟩:=hwl.at hlt;haveI:=hvb.cel;have hft:=B1w hlt;refine A6 (nx (W4 1 3 4 11 12 33 34 35) (A4 (A8 (A1 ?_))));refine A2 (H4 (sz:=1) E E kR E hwr hlt) E ?_;refine A2 (Y9 (u:=v) (hwr.mono qS) E kR hvi) E ?_;refine as_ (A0 (A0m 1 3 4 11 12 14 33 34 35) (C2 (mv_ (mv_ ?_))));refine C7 (aS E (aS E a0)) kR (X6 v ws[i] 32 _ (hvb.mono qS) qD) E ?_;rintro v41 M41 J41 ⟨rfl,hb41⟩;have hb41r:=hb41.rd;rw [L7] at hb41r;refine A3 E (H5 (e:=5) (sz:=1) (by_:=1) E E kR E hs12 (hb41r.mono qS) E9 qP (by unfold maxLen; omega) qO E λ v42 B42 hs42=>?_);refine as_ (C6 (nb (nx (W4 1 3 4 11 12 33 34 35) (C2 ?_))));refine A2 (K7 (b:=1) E E E E qO) E ?_;refine mv_ (C6 ?_);exact rn ⟨i+1,v42,B42,_⟩ ⟨by dsimp only; omega,W6 hs42 (by dsimp only; rw [hft,An,L7]) (by dsimp only; rw [hft,H8])⟩ (by dsimp only; omega) (W4 1 3 4 11 12 33 34 35) (Ch qP (Ch (B:=[_]) qP (Ch qP (Cf qP)))) qI
  .
   have hge:i=ws.length:=by simp at hc; omega
   subst hge;rw [List.take_length] at hs12 hfl;refine D9 (te (re (be E (nx (E8 1 3 4 11 12) (A1 (mv_ ?_))))));refine C7 (aS E (aS E a0)) kR (X6 kv key 32 _ (hk.mono qS) qD) E ?_;rintro v45 M45 J45 ⟨rfl,hb45⟩;refine mv_ ?_;refine C7 (aS E (aS E a0)) kR ((A29 v45 v12 (I5 key 32) (B0r ws) _ (hb45.rd.mono qS) hb45.lt (by rw [L7]; decide) (hs12.rd qS) (B8I hw256) qO (mA h0) (mA h1)).frz0) E ?_;rintro v47 M47 J47 ⟨rfl,h47⟩;refine mv_ ?_;refine A3 E (A1i (e:=5) E E hlb.lt kR kR kR E λ v49 B49 hs49=>?_);refine A3Z (B:=B49) qP ?_;refine mv_ ?_;refine A2 (A4M (n:Int) E E (by split <;> omega)) E ?_;refine A2 (A03 (a:=32) E E E E qO) E ?_;refine C7 (aS E (aS E (aS E a0))) kR ((A3Q v47 v49 (A7y (I5 key 32) (B0r ws)) lb ((32 * n:Nat):Int) _ (by rw [A1x]; exact (h47.rd qS)) (A5r _ _) (by rw [A1x]; decide) (hs49.mono qS) hlb.lt qO qO qO (mA h0) (mA h1)).frz0) E ?_;rintro v53 M53 J53 ⟨rfl,h53⟩;have hbl:=B5m key ws lb hn8;change Rd J53 1 v53 (A8S key ws lb n).length (nums .u8 (A8S key ws lb n)) at h53;rw [hbl] at h53;haveI:=h53.cel;have hb256:∀ x∈A8S key ws lb n,x < 256:=A6W _ _ _;generalize hbigE:A8S key ws lb n=big at *;refine as_ (A0 (D6 4 11 15) (A4 (A1 (mv_ ?_))));refine A2 (A4M (n:Int) E E (by split <;> omega)) E ?_;refine mv_ (A0 (D8 11 15 55 56) (A8 ?_));refine E5 (α:=Nat×Value×List Value×Mem) (λ x=>[(11,x.2.1),(15,v53),(55,.int .i64 (n:Int)),(56,(vI x.1))]) (λ x=>x.2.2.2++((pb,blk [.int .u8 (md s.real),sv,.int .i64 (((s.n:Nat):Int)),(vP bt)] 102)::(B++MT))) (λ _=>J53) (λ x=>x.1<=n∧Sl 1 x.2.1 x.1 x.2.2.1 x.2.2.2∧Lst J53 x.2.2.1 ((List.range x.1).map λ i=>(big.take (32 * i+32)).drop (32 * i))) (λ x=>n - x.1) ⟨0,vS,[],[]⟩ ⟨Am _,Sl.nil,Lst.nil⟩ (D8 11 15 55 56) (Fit.none (Ch (B:=[_]) qP (Ch qP (Cf qP)))) (λ x hx=>qS x hx) ?_;rintro ⟨i,v11,vs11,B11⟩ ⟨hi,hs11,hl11⟩;dsimp only at hi hs11 hl11 ⊢;haveI:=hs11.cel;refine A1 ?_;refine A2 (F0 E E E) E ?_;refine A0 (E8 11 15 55 56 57) (A4 ?_);refine C4 E ?_ ?_ <;> intro hc
   .
    have hlt:i < n:=by simp at hc; omega
    refine A6 (nx (D8 11 15 55 56) (A4 (A8 (A1 (mv_ (as_ (A0 (E8 11 15 16 55 56) (C2 ?_))))))));refine mv_ (mv_ (mv_ ?_));refine A2 (A03 (a:=32) E E E E qO) E ?_;refine mv_ ?_;refine A2 (A03 (a:=32) E E E E qO) E ?_;refine A2 (K7 (b:=32) E E E E qO) E ?_;refine A2 (C0W (sz:=1) (a:=32 * i) (b:=32 * i+32) E E E kR E E h53 qO qO) E ?_;have hpt:=(h53.hiV (32 * i+32) qO).loV (32 * i) qO;rw [Nat.mul_one,Nat.mul_one,<- A1a,<- A0J] at hpt;generalize vLo (32 * i) 1 (vHi (32 * i+32) v53)=vp at *;haveI:=hpt.cel
    have hpb:By J53 vp ((big.take (32 * i+32)).drop (32 * i)):=⟨by rw [Bg,Bj,hbl,Nat.min_eq_left qO]; exact hpt,λ x hx=>hb256 x (Bw (List.mem_of_mem_drop hx)),by rw [Bg,Bj,hbl]; omega⟩
    refine A3 E (C5 (e:=28) (sz:=1) (z:=[vS]) kR (eS E e0) (bdS 0 1 E qR bd0) E λ b67=>?_);refine A3 E (H5 (e:=28) (sz:=1) (by_:=24) E E kR E hs11 (Co (n:=1) Cc qR) (by intro c hc; rw [List.mem_singleton.1 hc]; exact hpt.one) qP (by unfold maxLen; omega) qO E λ v68 B68 hs68=>?_);refine as_ (C6 (nb (nx (D8 11 15 55 56) (C2 ?_))));refine A2 (K7 (b:=1) E E E E qO) E ?_;refine mv_ (C6 ?_);exact rn ⟨i+1,v68,vs11++[vp],B68⟩ ⟨by dsimp only; omega,hs68,by dsimp only; rw [List.range_succ,List.map_append]; exact hl11.snoc hpb⟩ (by dsimp only; omega) (D8 11 15 55 56) (Ch qP (Ch (B:=[_]) qP (Ch qP (Cf qP)))) (λ x hx=>qS x hx)
   .
    have hge:i=n:=by simp at hc; omega
    subst hge;refine D9 (te (re (be E (nx (D5 11) (A1 (mv_ (as_ (A0 (D5 10) ?_))))))));refine C0 (tr ?_);exact ⟨_,(pb,blk [.int .u8 (md s.real),sv,.int .i64 (((s.n:Nat):Int)),(vP bt)] 102)::(B++MT),B11,I0 E E,(Ch qP (Ch (B:=[_]) qP (Ch qP (Cf qP)))),by rw [B7m hr]; exact ⟨sv,bt,bm,B,MT,E,hby,hT⟩,by rw [A6X hr,hbigE]; exact ⟨vs11,by rw [A5G]; exact hs11.rd qS,hl11.mono qS⟩⟩
 .
  have hr:s.real=false:=by cases hq:s.real with | false=>rfl | true=>rw [hq] at hc; exact absurd hc qD
  refine A6 (nx (H1 0 1 2 3 4 11) (A1 (mv_ (mv_ ?_))));refine A3 E (D0 (Mc:=(pb,blk [.int .u8 (md s.real),sv,.int .i64 (((s.n:Nat):Int)),(vP bt)] 102)::(B++MT)) (R:=_) (aS E (aS E a0)) kR qP (A40 pb s kv key _ _ hP qO (hk.mono qS) hG.up) E ?_);rintro v73 M73 J73 ⟨rfl,hP73⟩
  have hst0:RdOk s.ts.length 0 (s.ts,[]):=⟨Av _,rfl,(λ x hx=>by cases hx),hTmo⟩
  have hst:=hst0.step hk.lt (by have:=hk.len; omega);refine A3 E (C5 (e:=3) (sz:=1) (z:=[.int .i64 0]) kR (eS E e0) (bdS 0 1 E qR bd0) E λ b74=>?_);refine as_ (A0 (H1 0 2 3 4 11 17) (A4 (A1 (mv_ ?_))));refine A2 (G6 (sz:=1) E kR hwr) E ?_;refine mv_ (A0 (W4 0 3 4 11 17 75 76 77) (A8 ?_));refine E5 (α:=Nat×Value×Mem×Mem) (λ x=>[(0,(vP pb)),(3,.string (txt lb)),(4,.int .i64 (n:Int)),(11,vS),(17,x.2.1),(75,wv),(76,(vI ws.length)),(77,(vI x.1))]) (λ x=>x.2.2.1++x.2.2.2) (λ x=>[]) (λ x=>x.1<=ws.length∧RdOk s.ts.length (1+x.1) ((ws.take x.1).foldl A41 (A41 (s.ts,[]) key))∧Sl 1 x.2.1 (1+x.1) (A1J ((ws.take x.1).foldl A41 (A41 (s.ts,[]) key)).2) x.2.2.1∧Prm pb { s with ts:=((ws.take x.1).foldl A41 (A41 (s.ts,[]) key)).1 } x.2.2.2) (λ x=>ws.length - x.1) ⟨0,.slice (some ⟨b74,0,none⟩) 1 1,[(b74,_)],M73⟩ ⟨Am _,hst,Sl.fresh (n:=1) (sz:=1) (cs:=A1J [((rdI s.ts key:Nat):Int)]) (e:=3) qR qD,hP73⟩ (W4 0 3 4 11 17 75 76 77) (Ch (B:=[(b74,blk [.int .i64 ((rdI s.ts key:Nat):Int)] 3)]) qP (Cf (B:=M73) qP)) (λ _ h=>by cases h) ?_;rintro ⟨i,v17,B17,MR⟩ ⟨hi,hok,hs17,hPR⟩;dsimp only at hi hok hs17 hPR ⊢;haveI:=hs17.cel;refine A1 ?_;refine A2 (F0 E E E) E ?_;refine A0 (A0m 0 3 4 11 17 75 76 77 78) (A4 ?_);refine C4 E ?_ ?_ <;> intro hc
  .
   have hlt:i < ws.length:=by simp at hc; omega
   obtain ⟨v,hvi,hvb⟩:=hwl.at hlt;haveI:=hvb.cel;have hft:=B1x (f:=A41) (b:=A41 (s.ts,[]) key) hlt;have hok2:=hok.step hvb.lt (by have:=hvb.len; omega);rw [<- hft] at hok2;have hokl:=hok.len;refine A6 (nx (W4 0 3 4 11 17 75 76 77) (A4 (A8 (A1 ?_))));refine A2 (H4 (sz:=1) E E kR E hwr hlt) E ?_;refine A2 (Y9 (u:=v) (hwr.mono qS) E kR hvi) E ?_;refine as_ (A0 (A0m 0 3 4 11 17 19 75 76 77) (C2 (mv_ (mv_ (mv_ ?_)))));refine A3 E (D0 (Mc:=MR) (R:=_) (aS E (aS E a0)) kR qP (A40 pb _ v ws[i] _ _ hPR (by dsimp only; omega) (hvb.mono qS) hG.up) E ?_);rintro v84 M84 J84 ⟨rfl,hP84⟩;refine A3 E (C5 (e:=3) (sz:=1) (z:=[.int .i64 0]) kR (eS E e0) (bdS 0 1 E qR bd0) E λ b85=>?_);refine A3 E (H5 (e:=3) (sz:=1) (by_:=8) E E kR E hs17 (Co (n:=1) Cc qR) (by simp [Value.oneCell']) qP (by unfold maxLen; omega) qO E λ v86 B86 hs86=>?_);refine as_ (C6 (nb (nx (W4 0 3 4 11 17 75 76 77) (C2 ?_))));refine A2 (K7 (b:=1) E E E E qO) E ?_;refine mv_ (C6 ?_);exact rn ⟨i+1,v86,B86,M84⟩ ⟨by dsimp only; omega,hok2,(by dsimp only; rw [hft,show A41 _ ws[i]=(_,_++[_]) from rfl]; dsimp only; rw [B1y]; exact hs86),(by dsimp only; rw [hft]; exact hP84)⟩ (by dsimp only; omega) (W4 0 3 4 11 17 75 76 77) (Ch qP (Cf qP)) (λ _ h=>by cases h)
  .
   have hge:i=ws.length:=by simp at hc; omega
   subst hge;rw [List.take_length] at hok hs17 hPR;change RdOk _ _ (A31 s.ts key ws) at hok;change Sl _ _ _ (A1J (A31 s.ts key ws).2) _ at hs17;change Prm _ { s with ts:=(A31 s.ts key ws).1 } _ at hPR;refine D9 (te (re (be E (nx (E8 0 3 4 11 17) (A4 (A1 (mv_ ?_)))))));refine A2 (A4M (n:Int) E E (by split <;> omega)) E ?_;refine mv_ (A0 (H1 0 3 11 17 89 90) (A8 ?_));have hokl:=hok.len;have hokf:=hok.ofl;have hoki:∀ x∈(A31 s.ts key ws).2,i64 x:=λ x hx=>by have:=hok.of x hx; unfold i64; omega
   generalize hra:(A31 s.ts key ws).1=tr at *;generalize hof:(A31 s.ts key ws).2=ofs at *;refine E5 (α:=Nat×Value×List Value×Mem×Mem×Mem) (λ x=>[(0,(vP pb)),(3,.string (txt lb)),(11,x.2.1),(17,v17),(89,.int .i64 (n:Int)),(90,(vI x.1))]) (λ x=>x.2.2.2.1++(B17++x.2.2.2.2.1)) (λ x=>x.2.2.2.2.2) (λ x=>x.1<=n∧Sl 1 x.2.1 x.1 x.2.2.1 x.2.2.2.1∧Lst x.2.2.2.2.2 x.2.2.1 (A15 tr ofs lb x.1).2∧Prm pb { s with ts:=(A15 tr ofs lb x.1).1 } x.2.2.2.2.1) (λ x=>n - x.1) ⟨0,vS,[],[],MR,[]⟩ ⟨Am _,Sl.nil,Lst.nil,hPR⟩ (H1 0 3 11 17 89 90) .rfl (λ _ h=>by cases h) ?_;rintro ⟨i,v11,vs11,B11,MQ,JQ⟩ ⟨hi,hs11,hl11,hPQ⟩;dsimp only at hi hs11 hl11 hPQ ⊢;haveI:=hs11.cel;obtain ⟨hpl2,hpl1⟩:=A2C tr ofs lb i;refine A1 ?_;refine A2 (F0 E E E) E ?_;refine A0 (N9 0 3 11 17 89 90 91) (A4 ?_);refine C4 E ?_ ?_ <;> intro hc
   .
    have hlt:i < n:=by simp at hc; omega
    obtain ⟨sv2,bt2,bm2,B2,MT2,rfl,hby2,hT2⟩:=hPQ.ex;dsimp only at hpl1 hT2 hby2 ⊢;have hor:=hs17.rd (R:=B17) λ _ h=>h;rw [hokf.symm] at hor;have hor:Rd B17 1 v17 ofs.length (A1J ofs):=A0x hor qO rfl;refine A6 (nx (H1 0 3 11 17 89 90) (A4 (A8 (A1 (mv_ (as_ (A0 (N9 0 3 11 17 20 89 90) (C2 ?_))))))));refine mv_ (mv_ ?_);refine A2 (E7 E) E ?_;refine A2 (qf_ 3 3) E ?_;refine A2 ql_ E ?_;refine mv_ (mv_ (mv_ ?_));refine A2 (F1 (place:=λ x=>#[(0,1),(1,1),(2,1),(3,1)][x]?) (z:=[.int .u8 0,vS,.string ByteArray.empty,.int .i64 0]) (λ _=>by kernel_rfl) (eS E (eS E (eS E (eS E e0)))) (bdS 0 1 E qR (bdS 1 1 E qR (bdS 2 1 E qR (bdS 3 1 E qR bd0))))) E ?_;refine A3 E (D0 (Mc:=MT2) (R:=_) (aS E (aS E a0)) kR qP (S9 bt2 bm2 (A15 tr ofs lb i).1 v17 (drv ofs lb i) MT2 _ hT2 qO (hor.mono qS) (C1g hoki qO hlb qO qO) (mA h4)) E ?_);rintro v102 M102 J102 ⟨rfl,rfl,hT102⟩;refine C7 (aS E a0) kR (V4 _ _) E ?_;rintro v103 M103 J103 ⟨rfl,hb103⟩;haveI:=hb103.cel;refine A3 E (C5 (e:=28) (sz:=1) (z:=[vS]) kR (eS E e0) (bdS 0 1 E qR bd0) E λ b104=>?_);refine A3 E (H5 (e:=28) (sz:=1) (by_:=24) E E kR E hs11 (Co (n:=1) Cc qR) (by intro c hc; rw [List.mem_singleton.1 hc]; exact hb103.one) qP (by unfold maxLen; omega) qO E λ v105 B105 hs105=>?_);refine as_ (C6 (nb (nx (H1 0 3 11 17 89 90) (C2 ?_))));refine A2 (K7 (b:=1) E E E E qO) E ?_;refine mv_ (C6 ?_);exact rn ⟨i+1,v105,vs11++[v103],B105,(pb,blk [.int .u8 (md s.real),sv2,.int .i64 (((s.n:Nat):Int)),(vP bt2)] 102)::(B2++M102),J103++JQ⟩ ⟨by dsimp only; omega,hs105,(by dsimp only; rw [show A15 tr ofs lb (i+1)=C1e ofs lb (A15 tr ofs lb i) i from A2W i]; exact (hl11.mono qS).snoc (hb103.mono qS)),(by dsimp only; rw [show A15 tr ofs lb (i+1)=C1e ofs lb (A15 tr ofs lb i) i from A2W i]; exact ⟨sv2,bt2,bm2,B2,M102,E,hby2,hT102⟩)⟩ (by dsimp only; omega) (H1 0 3 11 17 89 90) (Ch qP (Ch qP (Ch (B:=[_]) qP (Ch qP (Cf qP))))) qI
   .
    have hge:i=n:=by simp at hc; omega
    subst hge;refine D9 (te (re (be E (nx (D5 11) (A1 (mv_ (as_ (A0 (D5 10) ?_))))))));refine C0 ?_;exact ⟨_,MQ,B11,I0 E E,(Ch qP (Cf qP)),by rw [C1f hr,show B4n s.ts key ws lb i=A15 tr ofs lb i by unfold B4n; rw [hra,hof]]; exact hPQ,by rw [B7n hr,show B4n s.ts key ws lb i=A15 tr ofs lb i by unfold B4n; rw [hra,hof]]; exact ⟨vs11,by rw [hpl2]; exact hs11.rd qS,hl11.mono qS⟩⟩

structure Tok(ts:List Tm):Prop where
  tmo:∀ t∈ts,Tmo t
  nd:ts.Nodup
variable{bt bm:Nat}
theorem Tab.tok(h:Tab bt bm ts M):Tok ts:=by obtain ⟨_,_,_,_,_,_,_,_,_,_,_,h1,h2⟩:=h;exact ⟨h1,h2⟩
theorem C3w{t:Tm}(h:Tok ts)(ht:ts[i]? = some t):add ts t=ts∧at_ ts t=i:=A8P (C03 h.tmo h.nd ht)
def Good(ts:List Tm)(w:LN):Prop:=∃ i,i < ts.length∧w=bts ((i:Nat):Int)
def Kok(s:Ps)(w:LN):Prop:=s.real=false->Good s.ts w
structure Pext(s s':Ps):Prop where
  real:s'.real=s.real
  ts:∃ l,s'.ts=s.ts++l
theorem Pext.refl(s:Ps):Pext s s:=⟨E,[],by simp⟩
theorem Pext.trans{a b c:Ps}(h1:Pext a b)(h2:Pext b c):Pext a c:=by obtain ⟨l1,e1⟩:=h1.ts;obtain ⟨l2,e2⟩:=h2.ts;exact ⟨h2.real.trans h1.real,l1++l2,by rw [e2,e1,Ap]⟩
theorem A9V(ws:List (LN))(st:List Tm×List Int):(ws.foldl A41 st).1.length<=st.1.length+ws.length:=by
  induction ws generalizing st with
  | nil=>exact Av _
  | cons w ws ih =>
    have h1:=ih (A41 st w);have h2:=U1 (ts:=st.1) (ws:=w);have h3:(A41 st w).1.length=(rdT st.1 w).length:=rfl;rw [List.foldl_cons,List.length_cons]; omega
theorem A3x(s:Ps)(key:LN)(ws:List (LN))(lb:LN)(n:Nat):(B0s s key ws lb n).ts.length<=s.ts.length+1+ws.length+n:=by
  unfold B0s;split
  . omega
  . have h1:=(A2C (A31 s.ts key ws).1 (A31 s.ts key ws).2 lb n).2;have h2:=A9V ws (A41 (s.ts,[]) key);have h3:=U1 (ts:=s.ts) (ws:=key);have h4:(A41 (s.ts,[]) key).1.length=(rdT s.ts key).length:=rfl;show (B4n s.ts key ws lb n).1.length<=_
    have h5:(A31 s.ts key ws).1.length<=s.ts.length+1+ws.length:=by show (ws.foldl A41 (A41 (s.ts,[]) key)).1.length<=_;omega
    unfold B4n;omega
theorem A32(s:Ps)(key:LN)(ws:List (LN))(lb:LN)(n:Nat):(B0s s key ws lb n).real=s.real∧(B0s s key ws lb n).n=s.n∧(B0s s key ws lb n).seed=s.seed:=by unfold B0s;split <;> exact ⟨E,E,E⟩

structure PrmT(pb bt bm:Nat)(s:Ps)(M:Mem):Prop where
  ex:∃ (sv:Value) (B MT:Mem),M=(pb,blk [.int .u8 (md s.real),sv,(vI s.n),(vP bt)] 102)::(B++MT)∧By B sv s.seed∧Tab bt bm s.ts MT
variable{pb:Nat}
theorem PrmT.p(h:PrmT pb bt bm s M):Prm pb s M:=by obtain ⟨sv,B,MT,h1,h2,h3⟩:=h.ex;exact ⟨sv,bt,bm,B,MT,h1,h2,h3⟩
theorem Prm.t(h:Prm pb s M):∃ bt bm,PrmT pb bt bm s M:=by obtain ⟨sv,bt,bm,B,MT,h1,h2,h3⟩:=h.ex;exact ⟨bt,bm,sv,B,MT,h1,h2,h3⟩
def C0B(x:Int):Tm:=⟨3,[x],[],0⟩
def C1i(s:Ps)(w:LN):Ps:={ s with ts:=add (rdT s.ts w) (C0B ((rdI s.ts w:Nat):Int)) }
def C1j(s:Ps)(w:LN):LN:=bts ((at_ (rdT s.ts w) (C0B ((rdI s.ts w:Nat):Int)):Nat):Int)
def C1k(s:Ps)(w u:LN):Ps:={ s with ts:=add (rdT (rdT s.ts w) u) (agT (rdT (rdT s.ts w) u) ((rdI s.ts w:Nat):Int) ((rdI (rdT s.ts w) u:Nat):Int)) }
def C2U(s:Ps)(w u:LN):LN:=bts ((at_ (rdT (rdT s.ts w) u) (agT (rdT (rdT s.ts w) u) ((rdI s.ts w:Nat):Int) ((rdI (rdT s.ts w) u:Nat):Int)):Nat):Int)
variable{x:Int}
theorem C1l(h:i64 x):Tmo (C0B x):=⟨show 3 < 256 by decide,show i64 (0:Int) by unfold i64; omega,λ i hi=>by rw [List.mem_singleton.1 hi]; exact h,show 1<=1048576 by decide,⟨λ x hx=>(List.not_mem_nil hx).elim⟩,show 0<=1099511627776 by decide⟩
theorem A33(hw:∀ x∈w,x < 256)(hl:w.length<=1099511627776)(hts:∀ t∈ts,Tmo t)(hn:ts.length<=1048576):i64 ((rdI ts w:Nat):Int):=by have h1:=B7o hw hl hts;have h2:(rdT ts w).length<=ts.length+1:=U1;unfold i64; omega
theorem A0s(pb bt bm:Nat)(m k:Int)(sv:Value)[hsv:Cel sv [sv]](ts:List Tm)(v:Value)(w:LN)(MT A:Mem)(hT:Tab bt bm ts MT)(hpb:(pb,blk [.int .u8 m,sv,.int .i64 k,(vP bt)] 102)∈A)(hn:ts.length<=1048576)(hv:By A v w){e4:TypeId}{f4:Nat×Nat}(h4:(4,Obj.cells (nums .u64 A0B).toArray e4 f4)∈A):FnX Tryz.prog 51 [(vP pb),v] MT A λ q M J=>q=.int .i64 ((rdI ts w:Nat):Int)∧Tab bt bm (rdT ts w) M:=by haveI:=hv.cel;have hvl:=hv.len;refine FnX.enterZ (N:=11) Tryz.func51 E E E λ w_=>?_;refine A9 (D2 0 1) (A1 (as_ (A0 (D2 0 1) (A1 (mv_ ?_)))));refine A2 (E7 E) E ?_;refine A2 (qf_ 3 3) E ?_;refine A2 ql_ E ?_;refine mv_ ?_;refine A3 E (D0 (Mc:=MT) (R:=_) (aS E (aS E a0)) kR qP (A6V bt bm ts v w MT _ hT hn (hv.rd.mono qS) hv.lt (by have:=hv.len; omega) (qS _ h4)) E ?_);rintro v10 M10 J10 ⟨rfl,rfl,hT10⟩;refine as_ (A0 (D5 4) (C0 ?_));exact ⟨_,M10,[],I0 E E,Fit.none (Cf qP),E,hT10⟩
theorem A7O(pb bt bm:Nat)(s:Ps)(hr:s.real=false)(v:Value)(w:LN)(MP A:Mem)(hP:PrmT pb bt bm s MP)(hn:s.ts.length < 1048576)(hv:By A v w)(hG:Glb A):FnX Tryz.prog 23 [(vP pb),v] MP A λ q M J=>PrmT pb bt bm (C1i s w) M∧By J q (C1j s w):=by
 obtain ⟨sv,B,MT,rfl,hby,hT⟩:=hP.ex;have hmd:md s.real=1:=by rw [hr]; rfl
 rw [hmd] at *;obtain ⟨⟨ge0,gf0,h0⟩,⟨ge1,gf1,h1⟩,⟨ge4,gf4,h4⟩⟩:=hG;haveI:=hv.cel;haveI:=hby.cel;have hvl:=hv.len;refine FnX.enterZ (N:=26) Tryz.func23 E E E λ w_=>?_;refine A9 (D2 0 1) (A1 (as_ (A0 (D2 0 1) (A4 (A1 (mv_ ?_))))));refine A2 (F6 (e:=102) E E kR) E ?_;refine A0 (D6 0 1 6) ?_;refine C9 E ?_;refine A6 (nx (D2 0 1) (A4 (A1 (mv_ ?_))));refine A2 (E7 E) E ?_;refine A2 (qf_ 0 0) E ?_;refine A2 ql_ E ?_;refine A2 (F5 false E E (eqF qD)) E ?_;refine A0 (D6 0 1 11) ?_;refine C9 E ?_;refine A6 (nx (D2 0 1) ?_);refine F8 (MT) (_) true [0,1,2,3,4,5,6,7,8,11] (zp 0 [0,0,0,1,0,0,2,2,0,2,2,0]) kR kR qP λ hs K n0 hKm hKs hKn=>?_;refine km_ hs ?_;refine G7 hs E (E7 E) E ?_;refine G7 hs E (qf_ 3 3) E ?_;refine K0 hs E hKs ql_ ?_;refine km_ hs ?_;refine km_ hs ?_
 refine H3 _ _ E E (Ah _) hKm λ w0=>(D0 (Mc:=MT) (R:=_) (aS E (aS E a0)) kR qP (A0s pb bt bm 1 _ sv s.ts v w MT _ hT Cc qO (hv.mono qS) (qS _ h4)) E ?_)
 rintro v21 M21 J21 ⟨rfl,hT21⟩ hKx
 refine H3 [] _ rfl rfl (Ah _) (λ _ h=>by cases h) λ w0=>(C5 (e:=3) (sz:=1) (z:=[.int .i64 0]) kR (eS rfl e0) (bdS 0 1 rfl qR bd0) rfl λ b22=>λ _=>?_)
 refine A1Z (M':=(b22,blk [.int .i64 ((rdI s.ts w:Nat):Int)] 3)::(M21++((pb,blk [.int .u8 1,sv,.int .i64 (((s.n:Nat):Int)),(vP bt)] 102)::(B++[])))) qM ?_;refine G7 hs E (F1 (place:=λ x=>#[(0,1),(1,1),(2,1),(3,1)][x]?) (z:=[.int .u8 0,vS,.string ByteArray.empty,.int .i64 0]) (λ _=>by kernel_rfl) (eS E (eS E e0)) (bdS 0 1 E qR (bdS 1 1 E qR bd0))) E ?_;refine K5 E E E (D0 (Mc:=M21) (R:=_) (aS E (aS E a0)) kR qP (S9 bt bm (rdT s.ts w) _ (C0B ((rdI s.ts w:Nat):Int)) M21 _ hT21 (by have:=U1 (ts:=s.ts) (ws:=w); omega) (Co (n:=1) Cc qR) (C1l (A33 hv.lt qO hT.tok.tmo qO)) (qS _ h4)) E ?_);rintro v24 M24 J24 ⟨rfl,rfl,hT24⟩;refine K5 E E E (E2 (aS E a0) kR (V4 _ _) E ?_);rintro v25 M25 J25 ⟨rfl,h25⟩;refine G7 hs E (G4 E) E ?_;refine I3 (D5 4) (C0 ?_);exact ⟨_,(pb,blk [.int .u8 1,sv,.int .i64 (((s.n:Nat):Int)),(vP bt)] 102)::(B++M24),[],I0 E E,(Fit.none (Ch (B:=[_]) qP (Ch qP (Cf qP)))),⟨sv,B,M24,by rw [show md (C1i s w).real=1 by show md s.real=1; rw [hr]; rfl]; rfl,hby,hT24⟩,h25.mono qS⟩
theorem A7P(pb bt bm:Nat)(s:Ps)(hr:s.real=false)(v v2:Value)(w u:LN)(MP A:Mem)(hP:PrmT pb bt bm s MP)(hn:s.ts.length+1 < 1048576)(hv:By A v w)(hu:By A v2 u)(hG:Glb A):FnX Tryz.prog 37 [(vP pb),v,v2] MP A λ q M J=>PrmT pb bt bm (C1k s w u) M∧By J q (C2U s w u):=by
 obtain ⟨sv,B,MT,rfl,hby,hT⟩:=hP.ex;have hmd:md s.real=1:=by rw [hr]; rfl
 rw [hmd] at *;obtain ⟨⟨ge0,gf0,h0⟩,⟨ge1,gf1,h1⟩,⟨ge4,gf4,h4⟩⟩:=hG;haveI:=hv.cel;haveI:=hu.cel;haveI:=hby.cel;have hvl:=hv.len;have hul:=hu.len;refine FnX.enterZ (N:=31) Tryz.func37 E E E λ w_=>?_;refine A9 (D6 0 1 2) (A1 (as_ (A0 (D6 0 1 2) (A4 (A1 (mv_ ?_))))));refine A2 (F6 (e:=102) E E kR) E ?_;refine A0 (D8 0 1 2 8) ?_;refine C9 E ?_;refine A6 (nx (D6 0 1 2) (A4 (A1 (mv_ ?_))));refine A2 (E7 E) E ?_;refine A2 (qf_ 0 0) E ?_;refine A2 ql_ E ?_;refine A2 (F5 false E E (eqF qD)) E ?_;refine A0 (D8 0 1 2 13) ?_;refine C9 E ?_;refine A6 (nx (D6 0 1 2) ?_);refine F8 (MT) (_) true [0,1,2,3,4,5,6,7,8,9,12] [(0,0),(1,0),(2,0),(3,1),(4,0),(5,0),(7,0),(8,0),(6,2),(9,2),(10,2),(11,2),(12,0)] kR kR qP λ hs K n0 hKm hKs hKn=>?_;refine km_ hs ?_;refine G7 hs E (E7 E) E ?_;refine G7 hs E (qf_ 3 3) E ?_;refine K0 hs E hKs ql_ ?_;refine km_ hs ?_;refine km_ hs ?_;refine km_ hs ?_;refine km_ hs ?_
 refine H3 _ _ E E (Ah _) hKm λ w0=>(D0 (Mc:=MT) (R:=_) (aS E (aS E a0)) kR qP (A0s pb bt bm 1 _ sv s.ts v w MT _ hT Cc qO (hv.mono qS) (qS _ h4)) E ?_)
 rintro v25 M25 J25 ⟨rfl,hT25⟩ hKx
 refine H3 (M25++[]) _ E E qP (hKx (hKn E)) λ w0=>(D0 (Mc:=M25) (R:=_) (aS E (aS E a0)) kR qP (A0s pb bt bm 1 _ sv (rdT s.ts w) v2 u M25 _ hT25 Cc (by have:=U1 (ts:=s.ts) (ws:=w); omega) (hu.mono qS) (qS _ h4)) E ?_)
 rintro v28 M28 J28 ⟨rfl,hT28⟩ hKy;refine K5 E E E (D0 (Mc:=M28) (R:=_) (aS E (aS E (aS E a0))) kR qP (A9U bt bm (rdT (rdT s.ts w) u) _ _ M28 _ hT28 (by have:=U1 (ts:=s.ts) (ws:=w); have:=U1 (ts:=rdT s.ts w) (ws:=u); omega) (A33 hv.lt qO hT.tok.tmo qO) (A33 hu.lt qO hT25.tok.tmo (by have:=U1 (ts:=s.ts) (ws:=w); omega)) (qS _ h4)) E ?_);rintro v29 M29 J29 ⟨rfl,rfl,hT29⟩;refine K5 E E E (E2 (aS E a0) kR (V4 _ _) E ?_);rintro v30 M30 J30 ⟨rfl,h30⟩;refine G7 hs E (G4 E) E ?_;refine I3 (D5 6) (C0 ?_);exact ⟨_,(pb,blk [.int .u8 1,sv,.int .i64 (((s.n:Nat):Int)),(vP bt)] 102)::(B++M29),[],I0 E E,(Fit.none (Ch (B:=[_]) qP (Ch qP (Cf qP)))),⟨sv,B,M29,by rw [show md (C1k s w u).real=1 by show md s.real=1; rw [hr]; rfl]; rfl,hby,hT29⟩,h30.mono qS⟩
theorem A8T(pb:Nat)(s:Ps)(hr:s.real=false)(v:Value)(w:LN)(MP A:Mem)(hP:Prm pb s MP)(hn:s.ts.length < 1048576)(hv:By A v w)(hG:Glb A):FnX Tryz.prog 23 [(vP pb),v] MP A λ q M J=>Prm pb (C1i s w) M∧By J q (C1j s w):=by
  obtain ⟨bt,bm,h⟩:=hP.t
  exact (A7O pb bt bm s hr v w MP A h hn hv hG).mono λ q M J ⟨h1,h2⟩=>⟨h1.p,h2⟩
theorem B5n(pb:Nat)(s:Ps)(hr:s.real=false)(v v2:Value)(w u:LN)(MP A:Mem)(hP:Prm pb s MP)(hn:s.ts.length+1 < 1048576)(hv:By A v w)(hu:By A v2 u)(hG:Glb A):FnX Tryz.prog 37 [(vP pb),v,v2] MP A λ q M J=>Prm pb (C1k s w u) M∧By J q (C2U s w u):=by
  obtain ⟨bt,bm,h⟩:=hP.t
  exact (A7P pb bt bm s hr v v2 w u MP A h hn hv hu hG).mono λ q M J ⟨h1,h2⟩=>⟨h1.p,h2⟩

def A6n(x:Int)(a b:LN):Tm:=⟨6,[x],mark a++mark b,0⟩
def B5o(x:Int)(m:LN):Tm:=⟨7,[x],m,0⟩
def B8K(s:Ps)(w:LN)(f:Int->Tm):Ps:={ s with ts:=add (rdT s.ts w) (f ((rdI s.ts w:Nat):Int)) }
def C1m(s:Ps)(w:LN)(f:Int->Tm):LN:=bts ((at_ (rdT s.ts w) (f ((rdI s.ts w:Nat):Int)):Nat):Int)
theorem C1n(h:i64 x){a b:LN}(ha:∀ y∈a,y < 256)(hb:∀ y∈b,y < 256)(la:a.length<=16777216)(lb:b.length<=16777216):Tmo (A6n x a b):=by
  haveI:B256 a:=⟨ha⟩
  haveI:B256 b:=⟨hb⟩
  have h1:=A1y a qO;have h2:=A1y b qO;exact ⟨show 6 < 256 by decide,show i64 (0:Int) by unfold i64; omega,λ i hi=>by rw [List.mem_singleton.1 hi]; exact h,show 1<=1048576 by decide,inferInstanceAs (B256 (mark a++mark b)),by show (mark a++mark b).length<=_; rw [An]; omega⟩
theorem C1o(h:i64 x){m:LN}(hm:∀ y∈m,y < 256)(lm:m.length<=16777216):Tmo (B5o x m) :=
  ⟨show 7 < 256 by decide,show i64 (0:Int) by unfold i64; omega,λ i hi=>by rw [List.mem_singleton.1 hi]; exact h,show 1<=1048576 by decide,⟨hm⟩,show m.length<=1099511627776 by omega⟩
theorem B1z(pb bt bm:Nat)(s:Ps)(hr:s.real=false)(v v2 v3:Value)(w wa wb:LN)(MP A:Mem)(hP:PrmT pb bt bm s MP)(hn:s.ts.length < 1048576)(hv:By A v w)(hya:By A v2 wa)(hyb:By A v3 wb)(hG:Glb A):FnX Tryz.prog 54 [(vP pb),v,v2,v3] MP A λ q M J=>PrmT pb bt bm (B8K s w λ x=>A6n x wa wb) M∧By J q (C1m s w λ x=>A6n x wa wb):=by
 obtain ⟨sv,B,MT,rfl,hby,hT⟩:=hP.ex;have hmd:md s.real=1:=by rw [hr]; rfl
 rw [hmd] at *;obtain ⟨⟨ge0,gf0,h0⟩,⟨ge1,gf1,h1⟩,⟨ge4,gf4,h4⟩⟩:=hG;haveI:=hv.cel;haveI:=hya.cel;haveI:=hyb.cel;haveI:=hby.cel;have hvl:=hv.len;have hal:=hya.len;have hbl:=hyb.len;refine FnX.enterZ (N:=38) Tryz.func54 E E E λ w_=>?_;refine A9 (D8 0 1 2 3) (A1 (as_ (A0 (D8 0 1 2 3) (A4 (A1 (mv_ ?_))))));refine A2 (F6 (e:=102) E E kR) E ?_;refine A0 (E8 0 1 2 3 10) ?_;refine C9 E ?_;refine A6 (nx (D8 0 1 2 3) (A4 (A1 (mv_ ?_))));refine A2 (E7 E) E ?_;refine A2 (qf_ 0 0) E ?_;refine A2 ql_ E ?_;refine A2 (F5 false E E (eqF qD)) E ?_;refine A0 (E8 0 1 2 3 15) ?_;refine C9 E ?_;refine A6 (nx (D8 0 1 2 3) ?_);refine F8 (MT) (_) true [0,1,2,3,4,5,6,7,8,9,10,11,12,13,16] [(0,0),(1,0),(2,0),(3,1),(4,0),(5,0),(8,0),(10,0),(6,2),(7,3),(9,3),(11,3),(12,4),(13,0),(14,2),(15,2),(16,0)] kR kR qP λ hs K n0 hKm hKs hKn=>?_;refine km_ hs ?_;refine G7 hs E (E7 E) E ?_;refine G7 hs E (qf_ 3 3) E ?_;refine K0 hs E hKs ql_ ?_;refine km_ hs ?_;refine km_ hs ?_;refine km_ hs ?_;refine km_ hs ?_
 refine H3 _ _ E E (Ah _) hKm λ w0=>(D0 (Mc:=MT) (R:=_) (aS E (aS E a0)) kR qP (A0s pb bt bm 1 _ sv s.ts v w MT _ hT Cc qO (hv.mono qS) (qS _ h4)) E ?_)
 rintro v28 M28 J28 ⟨rfl,hT28⟩ hKx
 refine A6L [⟨7,29,λ v B _=>∃ b,v=.slice (some ⟨b,0,none⟩) 1 1∧B=[(b,blk [.int .i64 ((rdI s.ts w:Nat):Int)] 3)]⟩,⟨9,31,λ v B _=>B=[]∧v=.string (txt (mark wa))⟩,⟨11,33,λ v B _=>B=[]∧v=.string (txt (mark wb))⟩,⟨12,34,λ v B _=>B=[]∧v=.string (txt (mark wa++mark wb))⟩]
  gA nd_ nd_ dl_
  (gO ?_ (gO ?_ (gO ?_ (gO ?_ (I7))))) ?_
 .
  intros
  exact C5 (e:=3) (sz:=1) (z:=[.int .i64 0]) kR (eS E e0) (bdS 0 1 E qR bd0) E λ b=>⟨_,E,b,E,E⟩
 . intro _ _ _ _ hb _;exact R8 (aS E a0) kR (A2v v2 wa _ (hya.rd.mono λ x hx=>hb _ (qS x hx)) (hb:=hya.b256) (by have:=hya.len; omega) (hb _ (qS _ h4))) E ⟨_,E,E,E⟩
 . intro _ _ _ _ hb _;exact R8 (aS E a0) kR (A2v v3 wb _ (hyb.rd.mono λ x hx=>hb _ (qS x hx)) (hb:=hyb.b256) (by have:=hyb.len; omega) (hb _ (qS _ h4))) E ⟨_,E,E,E⟩
 . intro _ _ _ _ _ ha;have g9:=gx 1 ha;dsimp only at g9;have g11:=gx 2 ha;dsimp only at g11;obtain ⟨-,h9⟩:=g9;obtain ⟨-,h11⟩:=g11;exact Cn (A1N (ws:=mark wa) (ws':=mark wb) (by rw [<- h9]; rfl) (by rw [<- h11]; rfl) E E (by have h1:=A1y wa qO; have h2:=A1y wb qO; omega)) E ⟨_,E,E,E⟩
 intro vs bs Jn0 hφ;have g7:=gy 0 hφ;have g9:=gy 1 hφ;have g11:=gy 2 hφ;have g12:=gy 3 hφ;dsimp only at g7 g9 g11 g12;clear hφ;dsimp only [V2,Q6,List.map,List.flatten,List.cons_append,List.nil_append];generalize bs 7=B29,bs 9=B31,bs 11=B33,bs 12=B34,vs 7=u29,vs 9=u31,vs 11=u33,vs 12=u34 at *;obtain ⟨b29,rfl,rfl⟩:=g7;obtain ⟨rfl,rfl⟩:=g9;obtain ⟨rfl,rfl⟩:=g11;obtain ⟨rfl,rfl⟩:=g12;dsimp only [List.append_eq,List.nil_append,List.cons_append];refine G7 hs E (F1 (place:=λ x=>#[(0,1),(1,1),(2,1),(3,1)][x]?) (z:=[.int .u8 0,vS,.string ByteArray.empty,.int .i64 0]) (λ _=>by kernel_rfl) (eS E (eS E (eS E e0))) (bdS 0 1 E qR (bdS 1 1 E qR (bdS 2 1 E qR bd0)))) E ?_;refine K5 E E E (D0 (Mc:=M28) (R:=_) (aS E (aS E a0)) kR qP (S9 bt bm (rdT s.ts w) _ (A6n ((rdI s.ts w:Nat):Int) wa wb) M28 _ hT28 (by have:=U1 (ts:=s.ts) (ws:=w); omega) (Co (n:=1) Cc qR) (C1n (A33 hv.lt qO hT.tok.tmo qO) hya.lt hyb.lt hya.len hyb.len) (qS _ h4)) E ?_);rintro v36 M36 J36 ⟨rfl,rfl,hT36⟩;refine K5 E E E (E2 (aS E a0) kR (V4 _ _) E ?_);rintro v37 M37 J37 ⟨rfl,h37⟩;refine G7 hs E (G4 E) E ?_;refine I3 (D5 8) (C0 ?_);exact ⟨_,(pb,blk [.int .u8 1,sv,.int .i64 (((s.n:Nat):Int)),(vP bt)] 102)::(B++M36),[],I0 E E,(Fit.none (Ch (B:=[_]) qP (Ch qP (Cf qP)))),⟨sv,B,M36,by rw [show md (B8K s w (λ x=>A6n x wa wb)).real=1 by show md s.real=1; rw [hr]; rfl]; rfl,hby,hT36⟩,h37.mono qS⟩
theorem B1A(pb bt bm:Nat)(s:Ps)(hr:s.real=false)(v v2:Value)(w wm:LN)(MP A:Mem)(hP:PrmT pb bt bm s MP)(hn:s.ts.length < 1048576)(hv:By A v w)(hm:By A v2 wm)(hG:Glb A):FnX Tryz.prog 66 [(vP pb),v,v2] MP A λ q M J=>PrmT pb bt bm (B8K s w λ x=>B5o x wm) M∧By J q (I5 (C1m s w λ x=>B5o x wm) 64):=by
 obtain ⟨sv,B,MT,rfl,hby,hT⟩:=hP.ex;have hmd:md s.real=1:=by rw [hr]; rfl
 rw [hmd] at *;obtain ⟨⟨ge0,gf0,h0⟩,⟨ge1,gf1,h1⟩,⟨ge4,gf4,h4⟩⟩:=hG;haveI:=hv.cel;haveI:=hm.cel;haveI:=hby.cel;have hvl:=hv.len;have hml:=hm.len;refine FnX.enterZ (N:=32) Tryz.func66 E E E λ w_=>?_;refine A9 (D6 0 1 2) (A1 (as_ (A0 (D6 0 1 2) (A4 (A1 (mv_ ?_))))));refine A2 (F6 (e:=102) E E kR) E ?_;refine A0 (D8 0 1 2 8) ?_;refine C9 E ?_;refine A6 (nx (D6 0 1 2) (A4 (A1 (mv_ ?_))));refine A2 (E7 E) E ?_;refine A2 (qf_ 0 0) E ?_;refine A2 ql_ E ?_;refine A2 (F5 false E E (eqF qD)) E ?_;refine A0 (D8 0 1 2 13) ?_;refine C9 E ?_;refine A6 (nx (D6 0 1 2) ?_);refine F8 (MT) (_) true [0,1,2,3,4,5,6,7,8,9,10,14] [(0,0),(1,0),(2,0),(3,1),(4,0),(5,0),(8,0),(9,1),(6,2),(7,2),(10,0),(11,2),(12,2),(13,2),(14,0)] kR kR qP λ hs K n0 hKm hKs hKn=>?_;refine km_ hs ?_;refine G7 hs E (E7 E) E ?_;refine G7 hs E (qf_ 3 3) E ?_;refine K0 hs E hKs ql_ ?_;refine km_ hs ?_;refine km_ hs ?_;refine km_ hs ?_;refine K0 hs E hKs (N5 E kR (hm.rd.mono qS)) ?_
 refine H3 _ _ E E (Ah _) hKm λ w0=>(D0 (Mc:=MT) (R:=_) (aS E (aS E a0)) kR qP (A0s pb bt bm 1 _ sv s.ts v w MT _ hT Cc qO (hv.mono qS) (qS _ h4)) E ?_)
 rintro v24 M24 J24 ⟨rfl,hT24⟩ hKx
 refine H3 [] _ rfl rfl (Ah _) (λ _ h=>by cases h) λ w0=>(C5 (e:=3) (sz:=1) (z:=[.int .i64 0]) kR (eS rfl e0) (bdS 0 1 rfl qR bd0) rfl λ b25=>λ _=>?_)
 refine A1Z (M':=(b25,blk [.int .i64 ((rdI s.ts w:Nat):Int)] 3)::(M24++((pb,blk [.int .u8 1,sv,.int .i64 (((s.n:Nat):Int)),(vP bt)] 102)::(B++[])))) qM ?_;refine G7 hs E (F1 (place:=λ x=>#[(0,1),(1,1),(2,1),(3,1)][x]?) (z:=[.int .u8 0,vS,.string ByteArray.empty,.int .i64 0]) (λ _=>by kernel_rfl) (eS E (eS E (eS E e0))) (bdS 0 1 E qR (bdS 1 1 E qR (bdS 2 1 E qR bd0)))) E ?_;refine K5 E E E (D0 (Mc:=M24) (R:=_) (aS E (aS E a0)) kR qP (S9 bt bm (rdT s.ts w) _ (B5o ((rdI s.ts w:Nat):Int) wm) M24 _ hT24 (by have:=U1 (ts:=s.ts) (ws:=w); omega) (Co (n:=1) Cc qR) (C1o (A33 hv.lt qO hT.tok.tmo qO) hm.lt hm.len) (qS _ h4)) E ?_);rintro v29 M29 J29 ⟨rfl,rfl,hT29⟩;refine K5 E E E (E2 (aS E a0) kR (V4 _ _) E ?_);rintro v30 M30 J30 ⟨rfl,h30⟩;haveI:=h30.cel;refine K5 E E E (E2 (aS E (aS E a0)) kR (X6 v30 _ 64 _ (h30.mono qS) qD) E ?_);rintro v31 M31 J31 ⟨rfl,h31⟩;refine G7 hs E (G4 E) E ?_;refine I3 (D5 6) (C0 ?_);exact ⟨_,(pb,blk [.int .u8 1,sv,.int .i64 (((s.n:Nat):Int)),(vP bt)] 102)::(B++M29),[],I0 E E,(Fit.none (Ch (B:=[_]) qP (Ch qP (Cf qP)))),⟨sv,B,M29,by rw [show md (B8K s w (λ x=>B5o x wm)).real=1 by show md s.real=1; rw [hr]; rfl]; rfl,hby,hT29⟩,h31.mono qS⟩

end Go.Proofs.YtjkpfgjfpbihaaaGreatDoor
