/- Part 3 of the texts of this claim, one behind the other. -/
import Derived.Test.YtglbhoeolghndaaGreatDoorB2
import Derived.Laws.Externs
import Derived.Lib.ConvBytes
import Derived.Test.YtglbhoeolghndaaGreatDoorRows
import Derived.MapKept
set_option linter.unusedVariables false
set_option linter.unusedSimpArgs false
set_option maxRecDepth 100000
open Go.Proofs.Tryz
namespace Go.Px
variable{e:TypeId}{o:Nat}
section rules
variable{P:Program}{R:Mem}{l:Env}{d:Option Nat}{ty t t':TypeId}{pos:String}{af:Array Edge}{g:Option (Nat×Bool)}{x y:Operand}{k k':IntKind}{i j:Int}{a b:Nat}
theorem G8(m:Nat)(hk:k.signed=false)(hm:2^k.bits=m)(hx:ev l x=some (.int k i))(hy:ev l y=some (.int k j))(hi:i=(a:Int))(hj:j=(b:Int)) :
    OpQ P R ⟨d,.binOp .add t x y t',ty,pos,af,g⟩ l (.int k (((a+b)%m:Nat):Int)):=by
  subst hi;subst hj;exact E8 hx hy (addU hk _ (by rw [hm]))
theorem Q2(m:Nat)(hk:k.signed=false)(hm:2^k.bits=m)(hx:ev l x=some (.int k i))(hy:ev l y=some (.int k j))(hi:i=(a:Int))(hj:j=(b:Int)) :
    OpQ P R ⟨d,.binOp .mul t x y t',ty,pos,af,g⟩ l (.int k (((a*b)%m:Nat):Int)):=by
  subst hi;subst hj;exact E8 hx hy (mulU hk _ (by rw [hm]))
theorem A2P(m:Nat)(hk:k.signed=false)(hm:2^k.bits=m)(hx:ev l x=some (.int k i))(hy:ev l y=some (.int k j))(hi:i=(a:Int))(hj:j=(b:Int))(hb:b<=m) :
    OpQ P R ⟨d,.binOp .sub t x y t',ty,pos,af,g⟩ l (.int k (((a+(m-b))%m:Nat):Int)):=by
  subst hi;subst hj;subst hm;exact E8 hx hy (C4O hk _ hb E)
theorem A9v(m:Nat)(hk:k.signed=false)(hm:2^k.bits=m)(hx:ev l x=some (.int k i))(hy:ev l y=some (.int k j))(hi:i=(a:Int))(hj:j=(b:Int))(h:a+b<m) :
    OpQ P R ⟨d,.binOp .add t x y t',ty,pos,af,g⟩ l (.int k ((a+b:Nat):Int)):=by
  have:=G8 (P:=P) (R:=R) (d:=d) (ty:=ty) (pos:=pos) (af:=af) (g:=g) (t:=t) (t':=t') m hk hm hx hy hi hj;rwa [Af h] at this
theorem B8E(m:Nat)(hk:k.signed=false)(hm:2^k.bits=m)(hx:ev l x=some (.int k i))(hy:ev l y=some (.int k j))(hi:i=(a:Int))(hj:j=(b:Int))(ha:a<m)(h:b<=a) :
    OpQ P R ⟨d,.binOp .sub t x y t',ty,pos,af,g⟩ l (.int k ((a-b:Nat):Int)):=by
  have:=A2P (P:=P) (R:=R) (d:=d) (ty:=ty) (pos:=pos) (af:=af) (g:=g) (t:=t) (t':=t') m hk hm hx hy hi hj (by omega);rwa [show a+(m-b)=(a-b)+m by omega,Nat.add_mod_right,Af (by omega)] at this
theorem P5(s D:Nat)(hD:2^s=D)(hx:ev l x=some (.int k (a:Int)))(hy:ev l y=some (.int k' i))(hi:i=s)(hs:s<=k.bits):OpQ P R ⟨d,.binOp .shr t x y t',ty,pos,af,g⟩ l (.int k ((a/D:Nat):Int)):=by have:=T9 (P:=P) (R:=R) (d:=d) (ty:=ty) (pos:=pos) (af:=af) (g:=g) (t:=t) (t':=t') s hx hy hi hs;rwa [Bz,hD] at this
theorem C2B(s D m:Nat)(hk:k.signed=false)(hD:2^s=D)(hm:2^k.bits=m)(hx:ev l x=some (.int k (a:Int)))(hy:ev l y=some (.int k' i))(hi:i=s)(hs:s<=k.bits):OpQ P R ⟨d,.binOp .shl t x y t',ty,pos,af,g⟩ l (.int k ((a*D%m:Nat):Int)):=by have:=A3u (P:=P) (R:=R) (d:=d) (ty:=ty) (pos:=pos) (af:=af) (g:=g) (t:=t) (t':=t') hk s hx hy hi hs;rwa [Nat.shiftLeft_eq,hD,hm] at this
theorem N5(s D:Nat)(hk:k.signed=false)(hD:2^s=D)(hx:ev l x=some (.int k (a:Int)))(hy:ev l y=some (.int k j))(hj:j=((D-1:Nat):Int))(ha:a<2^k.bits)(hs:s<=k.bits):OpQ P R ⟨d,.binOp .and t x y t',ty,pos,af,g⟩ l (.int k ((a%D:Nat):Int)):=by subst hj;subst hD;have h2:2^s-1<2^k.bits:=Bp (Nat.sub_lt (Bx _) (by decide)) (Bq (by decide) hs);have:=A5g (P:=P) (R:=R) (d:=d) (ty:=ty) (pos:=pos) (af:=af) (g:=g) (t:=t) (t':=t') hk hx hy ha h2;rwa [Nat.and_two_pow_sub_one_eq_mod] at this
theorem A1r(D:Nat)(hx:ev l x=some (.int k (a:Int)))(hy:ev l y=some (.int k j))(hj:j=(D:Int))(hD:D≠0)(h:k.wrap ((a/D:Nat):Int)=((a/D:Nat):Int)):OpQ P R ⟨d,.binOp .quo t x y t',ty,pos,af,g⟩ l (.int k ((a/D:Nat):Int)):=by subst hj;exact B1D hx hy hD h
theorem A1s(D:Nat)(hx:ev l x=some (.int k (a:Int)))(hy:ev l y=some (.int k j))(hj:j=(D:Int))(hD:D≠0):OpQ P R ⟨d,.binOp .rem t x y t',ty,pos,af,g⟩ l (.int k ((a%D:Nat):Int)):=by subst hj;exact B1C hx hy hD
theorem D2(off:Nat){t:TypeId}{b n i sz:Nat}{k:IntKind}{ii:Int}(hx:ev l x=some (.pointer (some ⟨b,o,none⟩)))(hy:ev l y=some (.int k ii))
    (hu:P.underlying t=some (.array n e)) (hs:P4 P e=some sz) (hi:ii=i) (hlt:i<n) (ho:o+i*sz=off) :
    OpQ P R ⟨d,.indexAddr t x y,ty,pos,af,g⟩ l (.pointer (some ⟨b,off,none⟩)):=ho▸F9 hx hy hu hs hi hlt
theorem C2C(r:Int)(hx:ev l x=some (.int k i))(hy:ev l y=some (.int k j))(hj:j≠0)(h:k.wrap (i.tdiv j)=r):OpQ P R ⟨d,.binOp .quo t x y t',ty,pos,af,g⟩ l (.int k r):=h▸C2p hx hy hj
end rules
class TakeC(cs:List Value)(o n:Nat)(vs:outParam (List Value)):Prop where
  take:vs.length=n∧∀j v,vs[j]? = some v->cs[o+j]? = some v
instance TakeC.nil{cs:List Value}:TakeC cs 0 0 []:=⟨E,λj v h=>by simp at h⟩
instance TakeC.put{x:Value}{r vs:List Value}{n:Nat}[h:TakeC r 0 n vs]:TakeC (x::r) 0 (n+1) (x::vs):=⟨by simp [h.take.1],λj v hv=>by
  cases j with
  | zero=>simpa using hv
  | succ j=>have:=h.take.2 j v (by simpa using hv);rw [Nat.zero_add] at this ⊢;simpa using this⟩
instance TakeC.skip{x:Value}{r vs:List Value}{o n:Nat}[h:TakeC r o n vs]:TakeC (x::r) (o+1) n vs:=⟨h.take.1,λj v hv=>by
  have:=h.take.2 j v hv
  rw [show o+1+j=(o+j)+1 by omega];simpa using this⟩
variable{P:Program}{l:Env}{d:Option Nat}{ty t:TypeId}{af:Array Edge}{g:Option (Nat×Bool)}{x:Operand}{b:Nat}{cs vs:List Value}
theorem H9{R:Mem}{pos:String}{n:Nat}{fr:Nat×Nat}(hx:ev l x=some (.pointer (some ⟨b,o,none⟩)))(ht:A51 P t=some n)
    (hb:(b,Obj.cells cs.toArray e fr)∈R) (h:vs.length=n∧∀j v,vs[j]? = some v->cs[o+j]? = some v):OpQ P R ⟨d,.load t x,ty,pos,af,g⟩ l (.agg vs.toArray):=F1 hx ht hb h.1 h.2
variable{y:Operand}
theorem A30{C:Cx}{M J:Mem}{K:Env->Mem->Mem->Prop}{pos:String}{cs':List Value}{M':Mem}(hx:ev l x=some (.pointer (some ⟨b,o,none⟩)))(hy:ev l y=some (.agg vs.toArray))
    (ht:P4 C.P t=some vs.length) (h1:∀u∈vs,u.oneCell'=true) [hs:SetR cs o vs cs'] (hu:Upd M b (blk cs e) (blk cs' e) M') (k:K l M' J) :
    OpL C ⟨none,.store t x y,ty,pos,af,g⟩ l M J K:=K3 hx hy E ht hs.set.1 h1 hs.set.2.symm hu k
section tuples
variable{P:Program}{R:Mem}{l:Env}{d:Option Nat}{ty:TypeId}{pos:String}{af:Array Edge}{g:Option (Nat×Bool)}{x:Operand}{a b c e:Value}{r:List Value}
theorem Z9(hx:ev l x=some (.tuple (a::r).toArray)):OpQ P R ⟨d,.extract x 0,ty,pos,af,g⟩ l a:=G6 hx rfl
theorem Z5(hx:ev l x=some (.tuple (a::b::r).toArray)):OpQ P R ⟨d,.extract x 1,ty,pos,af,g⟩ l b:=G6 hx rfl
theorem B9Z(hx:ev l x=some (.tuple (a::b::c::r).toArray)):OpQ P R ⟨d,.extract x 2,ty,pos,af,g⟩ l c:=G6 hx rfl
theorem q_x3(hx:ev l x=some (.tuple (a::b::c::e::r).toArray)):OpQ P R ⟨d,.extract x 3,ty,pos,af,g⟩ l e:=G6 hx rfl
end tuples
theorem A7u{R:Mem}{pos:String}{z:Operand}{f:FuncId}{fn:Func}{ts:Array TypeId}{a c:Nat}{i j k:Int}(hf:P.funcs[f]? = some fn)
    (h1:fn.body.isNone=true) (h2:(fn.name == "runtime.NumGoroutine")=false) (h3:Extern.findNext fn=none) (h4:Extern.find fn=some add64Entry)
    (hx:ev l x=some (.int .u64 i)) (hy:ev l y=some (.int .u64 j)) (hz:ev l z=some (.int .u64 k)) (hc:c<=1) (hi:i=(a:Int):=by rfl) (hj:j=(b:Int):=by rfl) (hk:k=(c:Int):=by rfl) :
    OpQ P R ⟨d,.call { callee:=.value (.func f),args:=#[x,y,z],argTypes:=ts },ty,pos,af,g⟩ l (.tuple #[.int .u64 (((a+b+c)%18446744073709551616:Nat):Int),.int .u64 (((a+b+c)/18446744073709551616:Nat):Int)]):=λN A w ha hw=>by
  subst hi;subst hj;subst hk
  have hcall:(callFunc f #[.int .u64 (a:Int),.int .u64 (b:Int),.int .u64 (c:Int)]).run P w=.ok (.value (.tuple #[.int .u64 (((a+b+c)%18446744073709551616:Nat):Int),.int .u64 (((a+b+c)/18446744073709551616:Nat):Int)])) w:=by rw [run_callFunc_extern hf h2 h1 h3 (e:=add64Entry) h4,run_add64 a b c (by omega) (by omega) (by omega) (by omega)];simp only [Result.andThen];congr 5<;>omega
  have e:(#[x,y,z]:Array Operand).map A.eval=#[.int .u64 (a:Int),.int .u64 (b:Int),.int .u64 (c:Int)]:=by simp [ha.ev hx,ha.ev hy,ha.ev hz]
  simp only [execOp,resolve,e,Sem.run_bind];simp only [Act.eval,Deferred.ofValue,invoke,Sem.run_pure,Result.andThen_ok,Array.append_empty,Array.empty_append,hcall]
end Go.Px

namespace Go.Px
theorem qi_{P:Program}{R:Mem}{l:Env}{d:Option Nat}{ty t:TypeId}{pos:String}{af:Array Edge}{g:Option (Nat×Bool)}{x y:Operand}{b o:Nat}{k:IntKind}{ii:Int}(off:Nat)(e:TypeId)(n sz i:Nat)(hx:ev l x=some (.pointer (some ⟨b,o,none⟩)):=by exact E)(hy:ev l y=some (.int k ii):=by exact E)
    (hu:P.underlying t=some (.array n e):=by kernel_rfl) (hs:P4 P e=some sz:=by kernel_rfl) (hi:ii=i:=by exact E) (hlt:i<n:=by decide) (ho:o+i*sz=off:=by exact E) :
    OpQ P R ⟨d,.indexAddr t x y,ty,pos,af,g⟩ l (.pointer (some ⟨b,off,none⟩)):=D2 off hx hy hu hs hi hlt ho
end Go.Px

namespace Go.Px
class PickC(M:Mem)(B:Mem)(R:outParam Mem):Prop where
  perm:M.Perm (B++R)
instance(priority:=low) PickC.nil{M:Mem}:PickC M [] M:=⟨.refl _⟩
instance(priority:=high) PickC.here{B M:Mem}:PickC (B++M) B M:=⟨.refl _⟩
instance PickC.sing{x:Nat×Obj}{M:Mem}:PickC (x::M) [x] M:=⟨.refl _⟩
instance(priority:=low) PickC.cons{x:Nat×Obj}{M B R:Mem}[h:PickC M B R]:PickC (x::M) B (x::R):=⟨(List.Perm.cons x h.perm).trans List.perm_middle.symm⟩
instance(priority:=low) PickC.app{D M B R:Mem}[h:PickC M B R]:PickC (D++M) B (D++R):=⟨(List.Perm.append_left D h.perm).trans (List.perm_append_comm_assoc D B R)⟩
instance PickC.whole{B:Mem}:PickC B B []:=⟨by simp⟩
class SubC(X Y:Mem):Prop where
  sub:∀x,x∈X->x∈Y
instance(priority:=high) SubC.same{X:Mem}:SubC X X:=⟨λ_ h=>h⟩
instance(priority:=high) SubC.here{X Y:Mem}:SubC X (X++Y):=⟨λ_ h=>Ae _ h⟩
instance SubC.left{X Y Z:Mem}[h:SubC X Y]:SubC X (Y++Z):=⟨λ_ hx=>Ae _ (h.sub _ hx)⟩
instance(priority:=low) SubC.right{X Y Z:Mem}[h:SubC X Z]:SubC X (Y++Z):=⟨λ_ hx=>Ai _ (h.sub _ hx)⟩
instance(priority:=low) SubC.tail{X Y:Mem}{y:Nat×Obj}[h:SubC X Y]:SubC X (y::Y):=⟨λ_ hx=>Bb _ (h.sub _ hx)⟩
instance SubC.nil{Y:Mem}:SubC [] Y:=⟨λ_ h=>by simp at h⟩
variable{B R:Mem}
theorem Fit.pick{M M':Mem}(h:M.Perm (B++R))(hr:Fit R M'):Fit M (B++M'):=by obtain ⟨M1,h1,h2⟩:=hr;exact ⟨B++M1,h.trans (h1.append_left B),List.Sublist.append (List.Sublist.refl _) h2⟩
theorem Fit.last{M:Mem}(h:M.Perm (B++R)):Fit M B:=⟨_,h,List.sublist_append_left _ _⟩
variable{e:TypeId}{o:Nat}{ws:List Nat}
section rules
variable{P:Program}{R R':Mem}{l:Env}{d:Option Nat}{ty t t':TypeId}{pos:String}{af:Array Edge}{g:Option (Nat×Bool)}{x y z:Operand}{k k':IntKind}{i j i':Int}{a b:Nat}{v:Value}{sz n:Nat}{xs:List Value}
theorem K5(hx:ev l x=some (.int .i64 i))(hy:ev l y=some (.int .i64 j))(hi:i=(a:Int))(hj:j=(b:Int))(h:a+b<9223372036854775808):OpQ P R ⟨d,.binOp .add t x y t',ty,pos,af,g⟩ l (.int .i64 ((a+b:Nat):Int)):=by subst hi;subst hj;exact D5 _ hx hy (F7 (by omega) (by omega) (by omega))
theorem Q7(hx:ev l x=some (.int .i64 i))(hy:ev l y=some (.int .i64 j))(hi:i=(a:Int))(hj:j=(b:Int))(h:b<=a)(h2:a<9223372036854775808):OpQ P R ⟨d,.binOp .sub t x y t',ty,pos,af,g⟩ l (.int .i64 ((a-b:Nat):Int)):=by subst hi;subst hj;exact D5 _ hx hy (W7 (by omega) (by omega) (by omega))
theorem A1g(hx:ev l x=some (.int .i64 i))(hy:ev l y=some (.int .i64 j))(hi:i=(a:Int))(hj:j=(b:Int))(h:a*b<9223372036854775808):OpQ P R ⟨d,.binOp .mul t x y t',ty,pos,af,g⟩ l (.int .i64 ((a*b:Nat):Int)):=by subst hi;subst hj;exact D5 _ hx hy (A11 (by simp) (by omega) (by omega))
theorem V5(hx:ev l x=some (.int k i))(hy:ev l y=some (.int k j))(hi:i=(a:Int))(hj:j=(b:Int))(hb:0<b):OpQ P R ⟨d,.binOp .rem t x y t',ty,pos,af,g⟩ l (.int k ((a%b:Nat):Int)):=by subst hi;subst hj;exact B1C hx hy (by omega)
theorem B8F(hx:ev l x=some (.int .i64 i))(hy:ev l y=some (.int .i64 j))(hi:i=(a:Int))(hj:j=(b:Int))(hb:0<b)(h:a<9223372036854775808):OpQ P R ⟨d,.binOp .quo t x y t',ty,pos,af,g⟩ l (.int .i64 ((a/b:Nat):Int)):=by subst hi;subst hj;exact B1D hx hy (by omega) (A2E (Be (Nat.div_le_self a b) h))
theorem A4q{m:Nat}(hk:k.signed=false)(hm:2^k.bits=m)(hx:ev l x=some (.int k i))(hy:ev l y=some (.int k j))(hi:i=(a:Int))(hj:j=(b:Int))(hb:0<b)(h:a<m):OpQ P R ⟨d,.binOp .quo t x y t',ty,pos,af,g⟩ l (.int k ((a/b:Nat):Int)):=by subst hi;subst hj;exact B1D hx hy (by omega) (by rw [T7 hk,hm,Af (Be (Nat.div_le_self a b) h)])
theorem A3A(hx:ev l x=some (.int k i))(hy:ev l y=some (.int k' j))(hi:i=(a:Int))(hj:j=(b:Int))(hs:b<=k.bits):OpQ P R ⟨d,.binOp .shr t x y t',ty,pos,af,g⟩ l (.int k ((a/2^b:Nat):Int)):=by subst hi;subst hj;rw [<- Bz];exact T9 b hx hy E hs
theorem C2D(m:Nat)(hk:k.signed=false)(hm:2^k.bits=m)(hx:ev l x=some (.int k i))(hy:ev l y=some (.int k' j))(hi:i=(a:Int))(hj:j=(b:Int))(hs:b<=k.bits):OpQ P R ⟨d,.binOp .shl t x y t',ty,pos,af,g⟩ l (.int k ((a*2^b%m:Nat):Int)):=by subst hi;subst hj;subst hm;rw [<- Nat.shiftLeft_eq];exact A3u hk b hx hy E hs
theorem G2(hx:ev l x=some v)(hu:slE P t=some sz)(h:Rd R' sz v n xs) :
    OpQ P R ⟨d,.call { callee:=.builtin .len,args:=#[x],argTypes:=#[t] },ty,pos,af,g⟩ l (.int .i64 n):=A1f h hx hu
theorem A4r(hx:ev l x=some v)(hy:ev l y=some (.int k i))(hu:slE P t=some sz)(hi:i=(a:Int))(h:Rd R' sz v n xs)(hj:a<=n) :
    OpQ P R ⟨d,.slice t x none (some y) none,ty,pos,af,g⟩ l (vHi a v):=B9S h hx hy hu a hi hj
theorem A16(hx:ev l x=some v)(hy:ev l y=some (.int k i))(hu:slE P t=some sz)(hi:i=(a:Int))(h:Rd R' sz v n xs)(hj:a<=n) :
    OpQ P R ⟨d,.slice t x (some y) none none,ty,pos,af,g⟩ l (vLo a sz v):=B9T h hx hy hu a hi hj
theorem C2E(hx:ev l x=some v)(hy:ev l y=some (.int k i))(hz:ev l z=some (.int k' i'))(hu:slE P t=some sz)(hi:i=(a:Int))(hi':i'=(b:Int))(h:Rd R' sz v n xs)(hab:a<=b)(hb:b<=n) :
    OpQ P R ⟨d,.slice t x (some y) (some z) none,ty,pos,af,g⟩ l (vLo a sz (vHi b v)):=C4Q h hx hy hz hu a b hi hi' hab hb
theorem A6f{b n sz:Nat}{lo hi mx:Option Operand}{nl nh nm:Option Nat}(hx:ev l x=some (.pointer (some ⟨b,o,none⟩)))(hu:P.underlying t=some (.array n e))(hs:P4 P e=some sz)
    (h1:EvO l lo nl) (h2:EvO l hi nh) (h3:EvO l mx nm) (hmh:nm.isSome=true->nh.isSome=true) (hm:nm.getD n<=n) (hh:nh.getD n<=nm.getD n) (hl:nl.getD 0<=nh.getD n) :
    OpQ P R ⟨d,.slice t x lo hi mx,ty,pos,af,g⟩ l (.slice (some (if nm.getD n=nl.getD 0 then ⟨b,o,none⟩ else ⟨b,o+nl.getD 0*sz,none⟩)) (nh.getD n-nl.getD 0) (nm.getD n-nl.getD 0)):=λN a w ha hw=>by
  unfold P4 at hs
  cases hq:P.info? e with
  | none=>simp [hq] at hs
  | some inf =>
    simp only [hq,Option.map_some,Option.some.injEq] at hs;subst hs;simp only [execOp,ha.ev hx,Instr.sliceAt,Sem.run_bind,run_underlying hu,Result.andThen_ok,Instr.sureAddr,Sem.run_pure,V7 ha h1 h2 h3 false n n w hm hh hl hmh];simp [sizeOf,typeInfo,hq,Addr.add];by_cases h0:nl.getD 0*inf.size=0<;>simp [h0]
theorem B1W{b n sz:Nat}(hx:ev l x=some (.pointer (some ⟨b,o,none⟩)))(hu:P.underlying t=some (.array n e))(hs:P4 P e=some sz) :
    OpQ P R ⟨d,.slice t x none none none,ty,pos,af,g⟩ l (.slice (some ⟨b,o,none⟩) n n):=by
  have:=A6f (R:=R) (d:=d) (ty:=ty) (pos:=pos) (af:=af) (g:=g) hx hu hs o0 o0 o0 (by simp) (by simp) (by simp) (by simp);simpa using this
theorem A8E(lo hi:Nat){b n sz:Nat}(hx:ev l x=some (.pointer (some ⟨b,o,none⟩)))(hu:P.underlying t=some (.array n e))(hs:P4 P e=some sz)(hy:ev l y=some (.int k i))(hz:ev l z=some (.int k' i'))(hi1:i=(lo:Int))(hi2:i'=(hi:Int))(h0:lo<n)(h1:lo<=hi)(h2:hi<=n) :
    OpQ P R ⟨d,.slice t x (some y) (some z) none,ty,pos,af,g⟩ l (.slice (some ⟨b,o+lo*sz,none⟩) (hi-lo) (n-lo)):=by
  have:=A6f (R:=R) (d:=d) (ty:=ty) (pos:=pos) (af:=af) (g:=g) hx hu hs (o1 lo hy hi1) (o1 hi hz hi2) o0 (by simp) (by simp) (by simpa using h2) (by simpa using h1);rw [if_neg (by simp;omega)] at this;simpa using this
theorem B90(hi:Nat){b n sz:Nat}(hx:ev l x=some (.pointer (some ⟨b,o,none⟩)))(hu:P.underlying t=some (.array n e))(hs:P4 P e=some sz)(hz:ev l z=some (.int k' i'))(hi2:i'=(hi:Int))(h2:hi<=n) :
    OpQ P R ⟨d,.slice t x none (some z) none,ty,pos,af,g⟩ l (.slice (some ⟨b,o,none⟩) hi n):=by
  have:=A6f (R:=R) (d:=d) (ty:=ty) (pos:=pos) (af:=af) (g:=g) hx hu hs o0 (o1 hi hz hi2) o0 (by simp) (by simp) (by simpa using h2) (by simp);simpa using this
theorem Rd.mid{R:Mem}{b n cap:Nat}{cs:List Value}{fr:Nat×Nat}(hb:(b,Obj.cells cs.toArray e fr)∈R)(h:o+n<=cs.length)(hc:n<=cap):Rd R 1 (.slice (some ⟨b,o,none⟩) n cap) n ((cs.drop o).take n):=by
  refine ⟨_,cap,E,by simp;omega,hc,.inr ⟨b,o,cs,e,fr,E,hb,λj u hj=>?_⟩⟩;have hjn:j<n:=by have:=(Ac.1 hj).1;simp at this;omega
  rw [Cb hjn,List.getElem?_drop] at hj;exact hj
theorem H2(hx:ev l x=some v)(hy:ev l y=some (.int k i))(hu:slE P t=some sz)(hi:i=(a:Int))(h:Rd R' sz v n xs)(hj:a<n) :
    OpQ P R ⟨d,.indexAddr t x y,ty,pos,af,g⟩ l (vAt sz a v):=B6f h hx hy hu a hi hj
theorem A0O(hx:ev l x=some (vAt 1 a v))(ht:A0p P t=true)(h:Rd R 1 v n (nums k ws))(hj:a<n):OpQ P R ⟨d,.load t x,ty,pos,af,g⟩ l (.int k ((ws.getD a 0:Nat):Int)):=A5t h hx ht hj
theorem Rd.one{R:Mem}{v:Value}{n sz:Nat}{xs:List Value}(h:Rd R sz v n xs):v.oneCell'=true:=by obtain ⟨p,c,rfl,_⟩:=h;rfl
theorem Sl.one{v:Value}{n sz:Nat}{xs:List Value}(h:Sl sz v n xs B):v.oneCell'=true:=by obtain ⟨p,c,rfl,_⟩:=h.val;rfl
theorem A1t{rows:List (List Value)}{r:List Value}(hx:ev l x=some (vAt sz a v))(ht:A51 P t=some sz)(h:Rd R sz v n rows.flatten)(hl:∀r∈rows,r.length=sz)(hs:0<sz)(hr:rows[a]? = some r):OpQ P R ⟨d,.load t x,ty,pos,af,g⟩ l (.agg r.toArray):=by
  obtain ⟨p,c,rfl,h2,h3,h4⟩:=h;have hal:=(Ac.1 hr).1;have hfl:=A53 hl;rcases h4 with rfl|⟨b,o,cs,e',fr,rfl,hb,hx'⟩
  . rw [h2,Nat.zero_mul] at hfl;have:=Nat.mul_pos (show 0<rows.length by omega) hs;omega
  . simp only [vAt,Addr.add_mid] at hx;refine F1 hx ht hb (hl r (As hr)) λj u hj=>?_;have hjl:j<sz:=by have:=(Ac.1 hj).1;rwa [hl r (As hr)] at this
    rw [Nat.add_assoc];exact hx' _ _ (by rw [A2D hl hr j hjl];exact hj)
theorem L3{s:TypeId}(hx:ev l x=some v)(hc:B1J P s t=true)(h:Rd R 1 v n (nums .u8 ws)):OpQ P R ⟨d,.convert s t x,ty,pos,af,g⟩ l (.string (txt ws)):=A4j h hx hc
end rules
variable{v:Value}{M0:Mem}{by_:Nat}
section loud
variable{C:Cx}{l:Env}{M J:Mem}{K:Env->Mem->Mem->Prop}{d:Nat}{ty t e:TypeId}{pos:String}{af:Array Edge}{g:Option (Nat×Bool)}{x y:Operand}{k:IntKind}
theorem B8G{n a u:Nat}{i:Int}(hx:ev l x=some (vAt 1 a v))(hy:ev l y=some (.int k i))(hi:i=(u:Int))(ht:P4 C.P t=some 1)(h:Sl 1 v n (nums k ws) B)(hj:a<n)(hM:M.Perm (B++M0))(h2:∀B',Sl 1 v n (nums k (ws.set a u)) B'->K l (B'++M0) J) :
    OpL C ⟨none,.store t x y,ty,pos,af,g⟩ l M J K:=C4R h hx (hi▸hy) ht hj hM h2
theorem H4{sz n m:Nat}{u:Value}{xs ys:List Value}(hx:ev l x=some v)(hy:ev l y=some u)(ht:A10 C.P t=some (e,sz,by_))(hsz:Nat.blt 0 sz=true)
    (hs:Sl sz v n xs B) (hr:Rd (M++(J++C.A)) sz u m ys) (h1c:∀c∈ys,c.oneCell'=true) (hM:M.Perm (B++M0)) (hmax:n+m<=maxLen) (hbytes:(n+m)*by_<=140737488355328) (hd:Nat.blt d C.N=true)
    (k:∀v' B',Sl sz v' (n+m) (xs++ys) B'->K ((d,v')::l) (B'++M0) J) :
    OpL C ⟨some d,.call { callee:=.builtin .append,args:=#[x,y],argTypes:=#[t,t] },ty,pos,af,g⟩ l M J K:=V6 hx hy ht hsz hs hr h1c hM hmax hbytes hd k
theorem B1X{kl kc:IntKind}{i j:Int}{a:Nat}(hx:ev l x=some (.int kl i))(hy:ev l y=some (.int kc j))(ht:mkT C.P t=some (e,k,by_))(hi:i=(a:Int))(hj:j=(a:Int))
    (hb:by_*a<=281474976710656) (hn:a<=140737488355328) (hd:Nat.blt d C.N=true) (h:∀v B,Sl 1 v a (nums k (List.replicate a 0)) B->K ((d,v)::l) (B++M) J) :
    OpL C ⟨some d,.makeSlice t x y,ty,pos,af,g⟩ l M J K:=A0N a hx hy ht hi hj hb (by omega) hd λb=>h _ _ (Sl.fresh (by simp) (by unfold maxLen;omega))
theorem B1Y{f:FuncId}{xs:List Operand}{vs:List Value}{ts:Array TypeId}{Mc:Mem}{post:Value->Mem->Mem->Prop}(hx:Evs l xs vs)(hc:K8 C.P f=true)(hf:FnX C.P f vs Mc (R++(J++C.A)) post)(hM:M.Perm (Mc++R))(hd:Nat.blt d C.N=true)
    (k:∀r M' J',post r M' J'->K ((d,r)::l) (M'++R) (J'++J)):OpL C ⟨some d,.call { callee:=.value (.func f),args:=xs.toArray,argTypes:=ts },ty,pos,af,g⟩ l M J K:=C9 hx hc hM hf hd k
end loud
end Go.Px

namespace Go.Px
theorem qP{M B R:Mem}[h:PickC M B R]:M.Perm (B++R):=h.perm
theorem qZ{M:Mem}:Fit M []:=Ci (Aa _)
theorem qS{X Y:Mem}[h:SubC X Y]:∀x,x∈X->x∈Y:=h.sub
end Go.Px

namespace Go.Px
theorem A0u(p:List Nat):(txt p).size=p.length:=by simp [txt,ByteArray.size]
theorem B91{ws:List Nat}(h:∀x∈ws,x<256){j:Nat}(hj:j<ws.length):(txt ws)[j]? = some (UInt8.ofNat (ws.getD j 0)):=by
  have h2:j<(txt ws).size:=by rw [A0u];exact hj
  rw [getElem?_pos (txt ws) j h2];congr 1;show ((ws.map UInt8.ofNat).toArray)[j]'_=_;simp only [List.getD,List.getElem?_eq_getElem hj,Option.getD_some];have:∀(l:List Nat) (h:j<l.length) (h':j<(l.map UInt8.ofNat).toArray.size),(l.map UInt8.ofNat).toArray[j]=UInt8.ofNat l[j]:=λl h h'=>by simp
  exact this ws hj _
variable{a:List Nat}
theorem B1Z{b:List Nat}(ha:∀x∈a,x<256)(hb:∀x∈b,x<256):((txt a).toList==(txt b).toList)=decide (a=b):=by
  have e:∀w:List Nat,(txt w).toList=w.map UInt8.ofNat:=λw=>by rw [ByteArray.toList_eq]<;>simp [txt]
  by_cases h:a=b
  . subst h;simp
  . rw [decide_eq_false h];rw [e,e,beq_eq_false_iff_ne];intro hc;exact h (A8C ha hb (by unfold txt;rw [hc]))
theorem A8F(ws:List Nat)(lo hi:Nat):(txt ws).extract lo hi=txt ((ws.take hi).drop lo):=by apply ByteArray.ext;simp [txt,ByteArray.data_extract,List.map_take,List.map_drop,List.extract_eq_take_drop,List.drop_take]
section
variable{P:Program}{R:Mem}{l:Env}{d:Option Nat}{ty s t t' e:TypeId}{pos:String}{af:Array Edge}{g:Option (Nat×Bool)}{x y z:Operand}{v:Value}{n a b:Nat}{k k':IntKind}{i i':Int}{S S':ByteArray}{ws ws':List Nat}
theorem A5w(hx:ev l x=some (.string S))(hS:S=txt ws)(hu:P.underlying t=some .string):OpQ P R ⟨d,.call { callee:=.builtin .len,args:=#[x],argTypes:=#[t] },ty,pos,af,g⟩ l (vI ws.length):=by have:=B5V (P:=P) (R:=R) (d:=d) (ty:=ty) (pos:=pos) (af:=af) (g:=g) hx hu;rwa [hS,A0u] at this
theorem A7v(hx:ev l x=some (.string S))(hS:S=txt ws)(h256:∀x∈ws,x<256)(hy:ev l y=some (.int k i))(hu:P.underlying t=some .string)(hi:i=(a:Int))(ha:a<ws.length) :
    OpQ P R ⟨d,.index t x y,ty,pos,af,g⟩ l (.int .u8 ((ws.getD a 0:Nat):Int)):=λN A w hA hw=>by
  subst hi;subst hS;have h1:=getD_lt (i:=a) h256 (by decide);simp only [execOp,hA.ev hx,hA.ev hy,Instr.index,asIntOf,Sem.run_bind,Sem.run_pure,run_underlying hu,Result.andThen_ok,Int.toNat_natCast,B91 h256 ha,if_pos (Int.natCast_nonneg a)]
  have:(UInt8.ofNat (ws.getD a 0)).toNat=ws.getD a 0:=by generalize ws.getD a 0=c at h1;simp;omega
  simp only [this,Sem.run_pure]
theorem B92{lo hi:Option Operand}{nl nh:Option Nat}(hx:ev l x=some (.string S))(hS:S=txt ws)(hu:P.underlying t=some .string)(h1:EvO l lo nl)(h2:EvO l hi nh)(hh:nh.getD ws.length<=ws.length)(hl:nl.getD 0<=nh.getD ws.length) :
    OpQ P R ⟨d,.slice t x lo hi none,ty,pos,af,g⟩ l (.string (txt ((ws.take (nh.getD ws.length)).drop (nl.getD 0)))):=λN A w hA hw=>by
  subst hS;have hb:=V7 (P:=P) (lo:=lo) (hi:=hi) (mx:=none) hA h1 h2 o0 false ws.length ws.length w (by simp) (by simpa using hh) (by simpa using hl) (by simp);simp only [Option.map_none] at hb;simp only [execOp,hA.ev hx,Instr.sliceAt,Sem.run_bind,run_underlying hu,Result.andThen_ok,Instr.slice,Option.map_none,Option.isSome_none,Bool.false_eq_true,if_false,A0u,hb];simp [A8F]
theorem C2F(hx:ev l x=some (.string S))(hS:S=txt ws)(hy:ev l y=some (.int k i))(hu:P.underlying t=some .string)(hi:i=(a:Int))(h:a<=ws.length):OpQ P R ⟨d,.slice t x none (some y) none,ty,pos,af,g⟩ l (.string (txt (ws.take a))):=by have:=B92 (P:=P) (R:=R) (d:=d) (ty:=ty) (pos:=pos) (af:=af) (g:=g) hx hS hu o0 (o1 a hy hi) (by simpa using h) (by simp);simpa using this
theorem C40(hx:ev l x=some (.string S))(hS:S=txt ws)(hy:ev l y=some (.int k i))(hu:P.underlying t=some .string)(hi:i=(a:Int))(h:a<=ws.length):OpQ P R ⟨d,.slice t x (some y) none none,ty,pos,af,g⟩ l (.string (txt (ws.drop a))):=by have:=B92 (P:=P) (R:=R) (d:=d) (ty:=ty) (pos:=pos) (af:=af) (g:=g) hx hS hu (o1 a hy hi) o0 (by simp) (by simpa using h);simpa using this
theorem B93(hx:ev l x=some (.string S))(hS:S=txt ws)(hy:ev l y=some (.int k i))(hz:ev l z=some (.int k' i'))(hu:P.underlying t=some .string)(hi:i=(a:Int))(hi':i'=(b:Int))(hab:a<=b)(h:b<=ws.length):OpQ P R ⟨d,.slice t x (some y) (some z) none,ty,pos,af,g⟩ l (.string (txt ((ws.take b).drop a))):=by have:=B92 (P:=P) (R:=R) (d:=d) (ty:=ty) (pos:=pos) (af:=af) (g:=g) hx hS hu (o1 a hy hi) (o1 b hz hi') (by simpa using h) (by simpa using hab);simpa using this
theorem A17(hx:ev l x=some (.string S))(hy:ev l y=some (.string S'))(hS:S=txt ws)(hS':S'=txt ws')(h:ws.length+ws'.length<=9223372036854775807):OpQ P R ⟨d,.binOp .add t x y t',ty,pos,af,g⟩ l (.string (txt (ws++ws'))):=by subst hS;subst hS';have:=B5U (P:=P) (R:=R) (d:=d) (ty:=ty) (pos:=pos) (af:=af) (g:=g) (t:=t) (t':=t') hx hy (by rw [A0u,A0u];exact h);rwa [B0A] at this
theorem C2G(hx:ev l x=some (.string S))(hy:ev l y=some (.string S'))(hS:S=txt ws)(hS':S'=txt ws')(h:∀x∈ws,x<256)(h':∀x∈ws',x<256):OpQ P R ⟨d,.binOp .eql t x y t',ty,pos,af,g⟩ l (.bool (decide (ws=ws'))):=by subst hS;subst hS';have:=A8u (P:=P) (R:=R) (d:=d) (ty:=ty) (pos:=pos) (af:=af) (g:=g) (t:=t) (t':=t') hx hy;rwa [B1Z h h'] at this
theorem A8G(hx:ev l x=some (.string S))(hy:ev l y=some (.string S'))(hS:S=txt ws)(hS':S'=txt ws')(h:∀x∈ws,x<256)(h':∀x∈ws',x<256):OpQ P R ⟨d,.binOp .neq t x y t',ty,pos,af,g⟩ l (.bool !(decide (ws=ws'))):=by subst hS;subst hS';have:=B9K (P:=P) (R:=R) (d:=d) (ty:=ty) (pos:=pos) (af:=af) (g:=g) (t:=t) (t':=t') hx hy;rwa [B1Z h h'] at this
end
class B256(ws:List Nat):Prop where
  lt:∀x∈ws,x<256
instance B256.app{a b:List Nat}[ha:B256 a][hb:B256 b]:B256 (a++b):=⟨λx h=>(List.mem_append.1 h).elim (ha.lt x) (hb.lt x)⟩
instance B256.drop{a:List Nat}{n:Nat}[ha:B256 a]:B256 (a.drop n):=⟨λx h=>ha.lt x (List.mem_of_mem_drop h)⟩
theorem B256.cons{x:Nat}(hx:x<256)(ha:B256 a):B256 (x::a):=⟨λy h=>(List.mem_cons.1 h).elim (λh=>h▸hx) (ha.lt y)⟩
def isNil:Value->Bool
  | .slice none _ _=>true
  | _=>false
section
variable{P:Program}{R R':Mem}{l:Env}{d:Option Nat}{ty t t' e:TypeId}{pos:String}{af:Array Edge}{g:Option (Nat×Bool)}{x y:Operand}{v:Value}{n sz:Nat}{xs:List Value}{ms:Array (String×TypeId)}
def C41(P:Program)(t:TypeId):Bool :=
  match P.underlying t with
  | some (.interface _)=>true
  | _=>false
theorem B2a(h:C41 P t=true):∃ms,P.underlying t=some (.interface ms):=by
  unfold C41 at h;split at h
  . exact ⟨_,by assumption⟩
  . cases h
theorem B2b(w:World)(h:P.underlying t=some (.interface ms)):(Op.equal t .nilIface .nilIface).run P w=.ok true w:=by show (Op.equalIn (9999+1) t .nilIface .nilIface).run P w=.ok true w;rw [Op.equalIn];simp [run_underlying h]
theorem B2c(hx:ev l x=some .nilIface)(hi:C41 P t=true):OpQ P R ⟨d,.binOp .neq t x (.const .nilIface) t',ty,pos,af,g⟩ l (.bool false):=λN a w ha hw=>by obtain ⟨ms,hu⟩:=B2a hi;have hy:a.eval (.const .nilIface)=.nilIface:=rfl;simp only [execOp,ha.ev hx,hy,Sem.run_bind];simp [eqGuard,binOp,B2b w hu]
theorem Rd.isNil{R:Mem}(h:Rd R sz v n xs)(hn:Px.isNil v=true):n=0:=by
  obtain ⟨p,c,rfl,_,_,h4⟩:=h;rcases h4 with h4|⟨b,o,cs,e',fr,rfl,_⟩
  . exact h4
  . cases hn
theorem A1u(hx:ev l x=some v)(hu:P.underlying t=some (.slice e))(h:Rd R' sz v n xs):OpQ P R ⟨d,.binOp .eql t x (.const (.slice none 0 0)) t',ty,pos,af,g⟩ l (.bool (isNil v)):=λN a w ha hw=>by
  have hy:a.eval (.const (.slice none 0 0))=.slice none 0 0:=rfl;obtain ⟨p,c,rfl,_⟩:=h;simp only [execOp,ha.ev hx,hy,Sem.run_bind]
  have:(Op.equal t (.slice p n c) (.slice none 0 0)).run P w=.ok p.isNone w:=by show (Op.equalIn (9999+1) t (.slice p n c) (.slice none 0 0)).run P w=.ok p.isNone w;rw [Op.equalIn];cases p<;>simp [run_underlying hu]
  simp [eqGuard,binOp,this];cases p<;>rfl
end
section
variable{C:Cx}{l:Env}{M J:Mem}{K:Env->Mem->Mem->Prop}{d:Nat}{s t e ty:TypeId}{pos:String}{af:Array Edge}{g:Option (Nat×Bool)}{x y:Operand}{ws:List Nat}{S:ByteArray}
theorem A0V(hx:ev l x=some (.string S))(hS:S=txt ws)(h256:∀x∈ws,x<256)(hs:C.P.underlying s=some .string)(ht:C.P.underlying t=some (.slice e))(he:C.P.underlying e=some (.int .u8))(hd:Nat.blt d C.N=true)
    (k:∀v B,Rd B 1 v ws.length (nums .u8 ws)->K ((d,v)::l) (B++M) J):OpL C ⟨some d,.convert s t x,ty,pos,af,g⟩ l M J K:=by
  subst hS;intro Qp a w ha hw;unfold Oper.wp;simp only [execOp,ha.ev hx,Sem.run_bind,Lib.run_convert_string_bytes w s t e (txt ws) hs ht he,Result.andThen_ok,Sem.run_pure];have hsz:(txt ws).size=ws.length:=A0u ws
  have e1:Lib.bytesWorld w e (txt ws)=w.drew.alloc (.cells (Lib.bytesCells w e (txt ws)) e ((Lib.bytesCells w e (txt ws)).size,(Lib.bytesCells w e (txt ws)).size+1)):=by
    have hh:(Lib.bytesWorld w e (txt ws)).heap=(w.drew.alloc (.cells (Lib.bytesCells w e (txt ws)) e ((Lib.bytesCells w e (txt ws)).size,(Lib.bytesCells w e (txt ws)).size+1))).heap:=by
      apply Array.ext_getElem?;intro i;rcases Nat.lt_trichotomy i w.heap.size with h|h|h
      . rw [Lib.bytesWorld_at_old w e _ i h];simp [World.alloc,World.drew,Array.getElem?_push,-World.alloc_eq,-World.drew_eq];omega
      . subst h;rw [Lib.bytesWorld_at_new];simp [World.alloc,World.drew,-World.alloc_eq,-World.drew_eq]
      . rw [Array.getElem?_eq_none (by rw [Lib.bytesWorld_size];omega),Array.getElem?_eq_none (by simp [World.alloc,World.drew,-World.alloc_eq,-World.drew_eq];omega)]
    have:Lib.bytesWorld w e (txt ws)={ w.drew with heap:=(Lib.bytesWorld w e (txt ws)).heap }:=rfl;rw [this,hh];rfl
  rw [e1];have hg:ws.length<=grownCap w (txt ws).size 0 e:=hsz▸grownCap_ge w (txt ws).size 0 e;refine ⟨_,_,J,ha.put (P1 hd) _,hw.drew.alloc _,k _ [(_,_)] ⟨some ⟨w.heap.size,0,none⟩,grownCap w (txt ws).size 0 e,by rw [hsz],by simp,hg,.inr ⟨w.heap.size,0,(Lib.bytesCells w e (txt ws)).toList,e,_,E,List.mem_singleton.2 E,λj u hj=>?_⟩⟩⟩;have hjl:j<ws.length:=by have:=(Ac.1 hj).1;simpa using this
  rw [V9 hjl] at hj;cases hj;have h1:=getD_lt (i:=j) h256 (by decide);rw [Nat.zero_add,Array.getElem?_toList];unfold Lib.bytesCells;rw [Array.getElem?_append_left (by simpa [txt] using hjl)];simp [txt,hjl,List.getD];have:ws[j]?.getD 0<256:=h1;rw [Ab hjl] at this;simp at this;omega
end
end Go.Px

namespace Go.Px
def ndF:Nat->Nat->Nat
  | 0,_=>1
  | f+1,u=>if u<10 then 1 else ndF f (u/10)+1
def nd10(u:Nat):Nat:=ndF 64 u
def dgs(n u:Nat):List Nat:=(List.range n).map λj=>48+u/10^(n-1-j)%10
def dec(u:Nat):List Nat:=dgs (nd10 u) u
def dv(l:List Nat):Nat:=l.foldl (λa c=>a*10+(c-48)) 0
theorem A4s:∀f u,1<=ndF f u
  | 0,_=>Av _
  | f+1,u=>by unfold ndF;split<;>omega
theorem A7w:∀f u,u<10^(f+1)->u<10^ndF f u
  | 0,u,h=>by simpa [ndF] using h
  | f+1,u,h=>by
    unfold ndF;split
    . simpa using by assumption
    . have h1:u/10<10^(f+1):=Nat.div_lt_of_lt_mul (by rw [<- Nat.pow_succ'];exact h);have:=A7w f (u/10) h1;rw [Nat.pow_succ];omega
theorem A9w:∀f u,10<=u->10^(ndF f u-1)<=u
  | 0,u,h=>by simp [ndF];omega
  | f+1,u,h=>by
    unfold ndF;rw [if_neg (by omega),Nat.add_sub_cancel];by_cases h2:10<=u/10
    . have h3:=A9w f (u/10) h2;have h4:=A4s f (u/10);rw [show ndF f (u/10)=(ndF f (u/10)-1)+1 by omega,Nat.pow_succ];omega
    . have:ndF f (u/10)=1:=by
        cases f with
        | zero=>rfl
        | succ f=>unfold ndF;rw [if_pos (by omega)]
      rw [this];simpa using h
variable{u:Nat}
theorem A7x{n:Nat}(hn:0<n)(h:u<10^n)(h2:n=1∨10^(n-1)<=u)(hu:u<18446744073709551616):nd10 u=n:=by
  have h1:u<10^nd10 u:=A7w 64 u (Nat.lt_trans hu (by decide));have h0:1<=nd10 u:=A4s 64 u;by_cases h10:10<=u
  . have h3:10^(nd10 u-1)<=u:=A9w 64 u h10
    have h4:10^(n-1)<=u:=by
      rcases h2 with rfl|h2
      . simp;omega
      . exact h2
    have a:nd10 u-1<n:=(Nat.pow_lt_pow_iff_right (by decide:1<10)).1 (Be h3 h);have b:n-1<nd10 u:=(Nat.pow_lt_pow_iff_right (by decide:1<10)).1 (Be h4 h1);omega
  . have hd:nd10 u=1:=by unfold nd10 ndF;rw [if_pos (by omega)]
    rcases h2 with rfl|h2
    . exact hd
    . have:10^(n-1)<10^1:=by omega
      have:=(Nat.pow_lt_pow_iff_right (by decide:1<10)).1 this;omega
theorem A1v(hu:u<18446744073709551616):nd10 u<=20:=by
  by_cases h10:10<=u
  . have h3:10^(nd10 u-1)<=u:=A9w 64 u h10;have:10^(nd10 u-1)<10^20:=Be h3 (Nat.lt_trans hu (by decide));have:=(Nat.pow_lt_pow_iff_right (by decide:1<10)).1 this;omega
  . have hd:nd10 u=1:=by unfold nd10 ndF;rw [if_pos (by omega)]
    omega
theorem A2k(n u:Nat):(dgs n u).length=n:=by simp [dgs]
variable{c:Nat}
theorem B94{n:Nat}(h:c∈dgs n u):48<=c∧c<58:=by simp only [dgs,List.mem_map] at h;obtain ⟨j,_,rfl⟩:=h;omega
theorem B6t(n u:Nat):dgs (n+1) u=dgs n (u/10)++[48+u%10]:=by
  unfold dgs;rw [List.range_succ,List.map_append];congr 1
  . apply Bt;intro j hj;have:=List.mem_range.1 hj;rw [Bu,<- Nat.pow_succ'];congr 4;omega
  . simp
theorem B8H(l:List Nat)(c:Nat):dv (l++[c])=dv l*10+(c-48):=by simp [dv]
theorem B8I:∀n u,dv (dgs n u)=u%10^n
  | 0,u=>by simp [dgs,dv,Nat.mod_one]
  | n+1,u=>by rw [B6t,B8H,B8I n,Nat.pow_succ',Nat.mod_mul];omega
theorem A1w(hu:u<18446744073709551616):dv (dec u)=u:=by unfold dec nd10;rw [B8I,Af (A7w 64 u (Nat.lt_trans hu (by decide)))]
theorem A1x(h:c∈dec u):48<=c∧c<58:=B94 h
theorem A2l(u:Nat):(dec u).length=nd10 u:=A2k _ _
def A18(i:Int):List Nat:=if i<0 then 45::dec i.natAbs else dec i.natAbs
variable{i:Int}
theorem A6g(h:c∈A18 i):c=45∨(48<=c∧c<58):=by
  unfold A18 at h;split at h
  . rcases List.mem_cons.1 h with h|h
    . exact .inl h
    . exact .inr (A1x h)
  . exact .inr (A1x h)
theorem A9x{j:Int}(hi:i.natAbs<18446744073709551616)(hj:j.natAbs<18446744073709551616)(h:A18 i=A18 j):i=j:=by
  have head:∀(u:Nat) (l:List Nat),dec u≠45::l:=by
    intro u l e;have:45∈dec u:=by rw [e];exact Ax
    have:=A1x this;omega
  unfold A18 at h;split at h<;>split at h
  . have:=congrArg dv (List.cons.inj h).2;rw [A1w hi,A1w hj] at this;omega
  . exact absurd h.symm (head _ _)
  . exact absurd h (head _ _)
  . have:=congrArg dv h;rw [A1w hi,A1w hj] at this;omega
theorem A31(h:i.natAbs<18446744073709551616):(A18 i).length<=21:=by have:=A1v h;unfold A18;split<;>simp [A2l]<;>omega
def B1n(f:List Nat)(fs:List (List Nat)):List Nat:=f++fs.flatMap (λx=>32::x)
theorem A6h{c:Nat}:∀ {a b x y:List Nat},c∉a->c∉b->a++c::x=b++c::y->a=b∧x=y
  | [],[],x,y,_,_,h=>⟨E,(List.cons.inj h).2⟩
  | [],b::bs,x,y,_,hb,h=>by have:=(List.cons.inj h).1;exact absurd (this▸Ax) hb
  | a::as_,[],x,y,ha,_,h=>by have:=(List.cons.inj h).1;exact absurd (this▸Ax) ha
  | a::as_,b::bs,x,y,ha,hb,h=>by obtain ⟨h1,h2⟩:=List.cons.inj h;obtain ⟨h3,h4⟩:=A6h (λh=>ha (Bb _ h)) (λh=>hb (Bb _ h)) h2;exact ⟨by rw [h1,h3],h4⟩
theorem A9y:∀ {fs gs:List (List Nat)} {f g:List Nat},32∉f->32∉g->(∀x∈fs,32∉x)->(∀x∈gs,32∉x)->B1n f fs=B1n g gs->f=g∧fs=gs
  | [],[],f,g,_,_,_,_,h=>⟨by simpa [B1n] using h,E⟩
  | [],y::gs,f,g,hf,hg,_,_,h=>by
    have:32∈f:=by
      have e:f=g++32::(y++gs.flatMap λx=>32::x):=by simpa [B1n] using h
      rw [e];simp
    exact absurd this hf
  | y::fs,[],f,g,hf,hg,_,_,h=>by
    have:32∈g:=by
      have e:f++32::(y++fs.flatMap λx=>32::x)=g:=by simpa [B1n] using h
      rw [<- e];simp
    exact absurd this hg
  | y::fs,z::gs,f,g,hf,hg,h1,h2,h=>by
    have e:f++32::B1n y fs=g++32::B1n z gs:=by simpa [B1n] using h
    obtain ⟨a,b⟩:=A6h hf hg e;obtain ⟨c,d⟩:=A9y (h1 y (by simp)) (h2 z (by simp)) (λx hx=>h1 x (by simp [hx])) (λx hx=>h2 x (by simp [hx])) b;exact ⟨a,by rw [c,d]⟩
structure Tm where
  kind:Nat
  of:List Int
  text:List Nat
  n:Int
def Tm.nm(t:Tm):List Nat:=B1n (dec t.kind) (A18 t.n::t.of.map A18)++58::t.text
structure Tm.ok(t:Tm):Prop where
  kind:t.kind<256
  n:t.n.natAbs<18446744073709551616
  of:∀i∈t.of,i.natAbs<18446744073709551616
  text:∀c∈t.text,c<256
theorem A0F(h:c=32∨c=58):c∉A18 i:=λhc=>by have:=A6g hc;omega
theorem A0v(h:c=32∨c=58):c∉dec u:=λhc=>by have:=A1x hc;omega
theorem Tm.nm_inj{s t:Tm}(hs:s.ok)(ht:t.ok)(h:s.nm=t.nm):s=t:=by
  have no58:∀(u:Tm),58∉B1n (dec u.kind) (A18 u.n::u.of.map A18):=by
    intro u hc;simp only [B1n,List.mem_append,List.mem_flatMap,Cv,List.mem_map] at hc;rcases hc with hc|⟨x,hx,hc⟩
    . exact A0v (.inr E) hc
    . rcases hc with hc|hc
      . omega
      . rcases hx with rfl|⟨i,_,rfl⟩
        . exact A0F (.inr E) hc
        . exact A0F (.inr E) hc
  have no32:∀(u:Tm),∀x∈A18 u.n::u.of.map A18,32∉x:=by
    intro u x hx;rcases List.mem_cons.1 hx with rfl|hx
    . exact A0F (.inl E)
    . obtain ⟨i,_,rfl⟩:=List.mem_map.1 hx;exact A0F (.inl E)
  obtain ⟨h1,h2⟩:=A6h (no58 s) (no58 t) h;obtain ⟨h3,h4⟩:=A9y (A0v (.inl E)) (A0v (.inl E)) (no32 s) (no32 t) h1;obtain ⟨h5,h6⟩:=List.cons.inj h4
  have e1:s.kind=t.kind:=by have:=congrArg dv h3;have a:=hs.kind;have b:=ht.kind;rwa [A1w (by omega),A1w (by omega)] at this
  have e2:=A9x hs.n ht.n h5
  have e3:s.of=t.of:=by
    have a:=hs.of;have b:=ht.of;generalize s.of=l at h6 a;generalize t.of=m at h6 b;clear h4 h1 h h3 h5 h2
    induction l generalizing m with
    | nil=>cases m with
      | nil=>rfl
      | cons y m=>simp at h6
    | cons x l ih =>
      cases m with
      | nil=>simp at h6
      | cons y m =>
        simp only [List.map_cons,List.cons.injEq] at h6;rw [A9x (a x (by simp)) (b y (by simp)) h6.1,ih (λi hi=>a i (by simp [hi])) m h6.2 (λi hi=>b i (by simp [hi]))]
  cases s;cases t
  simp_all
end Go.Px

namespace Go.Px
structure Gw where
  i:Nat
  d:Nat
  φ:Value->Mem->Mem->Prop
def V0(G:List Gw)(vs:Nat->Value):Env:=G.map λg=>(g.d,vs g.i)
def A19(φ:Value->Mem->Mem->Prop):Prop:=∀v B R R',(∀x∈R,x∈R')->φ v B R->φ v B R'
def toG(G:List Gw):List Gm:=G.map λg=>⟨g.i,g.d,λ_ _=>True⟩
theorem C42(G:List Gw):(toG G).map (·.i)=G.map (·.i):=by simp [toG]
theorem C43(G:List Gw):(toG G).map (·.d)=G.map (·.d):=by simp [toG]
theorem B2d(G:List Gw)(vs:Nat->Value):A3O (toG G) vs=V0 G vs:=by simp [A3O,V0,toG]
variable{G:List Gw}
theorem B8J(h:(G.map (·.i)).Nodup){g g':Gw}(hg:g∈G)(hg':g'∈G)(e:g.i=g'.i):g=g':=by
  induction G with
  | nil=>cases hg
  | cons x G ih =>
    simp only [List.map_cons,List.nodup_cons] at h;rcases List.mem_cons.1 hg with h1|h1<;>rcases List.mem_cons.1 hg' with h2|h2
    . rw [h1,h2]
    . exact absurd (by rw [<- h1,e];exact Al (f:=Gw.i) h2) h.1
    . exact absurd (by rw [<- h2,<- e];exact Al (f:=Gw.i) h1) h.1
    . exact ih h.2 h1 h2
theorem A6i{X:List Nat}:∀ {Y:List Nat},X.Nodup->Y.Nodup->(∀x,x∈X↔x∈Y)->X.Perm Y:=by
  induction X with
  | nil =>
    intro Y _ _ h
    cases Y with
    | nil=>exact .refl _
    | cons y Y=>exact absurd ((h y).2 Ax) (by simp)
  | cons x X ih =>
    intro Y hX hY h;simp only [List.nodup_cons] at hX;have hx:x∈Y:=(h x).1 Ax;refine List.Perm.trans (List.Perm.cons x (ih hX.2 (hY.erase x) λz=>?_)) (List.perm_cons_erase hx).symm;constructor
    . intro hz;exact (List.mem_erase_of_ne (λe:z=x=>hX.1 (by rw [<- e];exact hz))).2 ((h z).1 (Bb _ hz))
    . intro hz;have hne:z≠x:=λe=>by rw [e] at hz;exact (List.Nodup.not_mem_erase hY) hz
      rcases List.mem_cons.1 ((h z).2 (List.mem_of_mem_erase hz)) with e|hm
      . exact absurd e hne
      . exact hm
section group
variable{C:Cx}{Q:XQ}{l:Env}{M J:Mem}{os:List Oper}{K:Nat->Prop}{n0:Nat}{nd:List Nat}{plan:List (Nat×Nat)}
def Q6(X:List Nat)(bs:Nat->Mem):Mem:=(X.map bs).flatten
def B0F(C:Cx)(os:List Oper)(l:Env)(M J:Mem)(G:List Gw)(g:Gw):Prop :=
  ∃o,nth os g.i=some o∧∀(vs:Nat->Value) (bs:Nat->Mem) (R:Mem) (w:World),(∀x∈M++(J++C.A),x∈R)->(∀g'∈G,anc os.toArray os.toArray.size g.i g'.i=true->g'.φ (vs g'.i) (bs g'.i) R) ->
    B6p os (V0 G vs++l) o∧OpL ⟨C.P,w,[],R,C.N⟩ o (V0 G vs++l) [] [] (λl' M' J'=>∃v,l'=(g.d,v)::(V0 G vs++l)∧g.φ v M' (M'++(J'++R)))
theorem B2e(hmono:∀g∈G,A19 g.φ)(hd:(G.map (·.d)).Nodup)(hi:(G.map (·.i)).Nodup)(hob:∀g∈G,B0F C os l M J G g){A B:Array Bool}(hok:GOk os.toArray A (G.map (·.i)) B)
    (hfin:∀(vs:Nat->Value) (bs:Nat->Mem) Jn a w,(∀g∈G,g.φ (vs g.i) (bs g.i) ((Q6 (G.map (·.i)) bs++M)++((Jn++J)++C.A)))->(∀g∈G,∀x∈bs g.i,n0<=x.1)->Ag C.N (V0 G vs++l) a->St C (Q6 (G.map (·.i)) bs++M) (Jn++J) w->n0<=w.heap.size->A0E C.P os.toArray (T5 (A8q C Q)) (Sk K) nd.contains plan.length B a w) :
    ∀(n:Nat) (X:List Nat) (vs:Nat->Value) (bs:Nat->Mem) (Jn:Mem) (a:Act) (w:World),X.Nodup->(∀i∈X,i∈G.map (·.i))->n+X.length=G.length->Q9 os.toArray (mark A X) ->
      (∀g∈G,g.i∈X->g.φ (vs g.i) (bs g.i) ((Q6 X bs++M)++((Jn++J)++C.A)))->(∀i∈X,∀x∈bs i,n0<=x.1)->Ag C.N (V0 G vs++l) a->St C (Q6 X bs++M) (Jn++J) w->n0<=w.heap.size ->
      A0E C.P os.toArray (T5 (A8q C Q)) (Sk K) nd.contains (n+plan.length) (mark A X) a w:=by
  intro n
  induction n with
  | zero =>
    intro X vs bs Jn a w hnd hX hlen hcl hφ hN ha hw hn
    have hall:∀i,i∈X↔i∈G.map (·.i):=λi=>⟨hX i,A2N hnd hX (by simp;omega) i⟩
    have hperm:(Q6 X bs++M).Perm (Q6 (G.map (·.i)) bs++M):=List.Perm.append_right _ (List.Perm.flatten ((A6i hnd hi hall).map bs));rw [Nat.zero_add,A6e hall,<- hok.mark];refine hfin vs bs Jn a w (λg hg=>hmono g hg _ _ _ _ (λx hx=>?_) (hφ g hg ((hall _).2 (Al (f:=Gw.i) hg)))) (λg hg=>hN g.i ((hall _).2 (Al (f:=Gw.i) hg))) ha (hw.perm hperm) hn;rcases List.mem_append.1 hx with h|h
    . exact Ae _ (hperm.mem_iff.1 h)
    . exact Ai _ h
  | succ n ih =>
    intro X vs bs Jn a w hnd hX hlen hcl hφ hN ha hw hn
    have hmiss:∃k∈G.map (·.i),k∉X:=by apply Classical.byContradiction;intro hno;have hs:∀k∈G.map (·.i),k∈X:=λk hk=>Classical.byContradiction λh=>hno ⟨k,hk,h⟩;have:=A2M hi hs;simp at this;omega
    obtain ⟨k,hkG,hkX⟩:=hmiss
    have hun:∀i∈G.map (·.i),A.getD i true=false:=by
      have:∀ {is A B},GOk os.toArray A is B->∀i∈is,A.getD i true=false:=by
        intro is A B h
        induction h with
        | nil=>intro i hi;cases hi
        | @cons A B i r hr ho h ih =>
          intro k hk;rcases List.mem_cons.1 hk with rfl|hk
          . exact L2 hr
          . have h2:=ih k hk;by_cases e:i=k
            . subst e;exact L2 hr
            . rwa [getD_set_ne true e] at h2
      exact this hok
    have hkun:(mark A X).getD k true=false:=I7.2 ⟨hun k hkG,λh=>hkX h.1⟩;rw [show n+1+plan.length=(n+plan.length)+1 by omega];refine ⟨λh0=>?_,λi hir=>?_⟩
    . obtain ⟨i,hir⟩:=hok.first (A1p A X) (λj hj=>A1q hj) hkG hkun;rw [h0] at hir;cases hir
    . have hiG:i∈G.map (·.i):=by apply Classical.byContradiction;intro hno;have h1:=I7.1 (L2 hir);have h2:=hok.outer k hkG i (A3X hir) h1.1 hno;exact U6 hkun (R5 hcl h2 hir)
      obtain ⟨g,hg,rfl⟩:=List.mem_map.1 hiG;have hiX:g.i∉X:=λh=>(I7.1 (L2 hir)).2 ⟨h,Y7 (hun _ hiG)⟩;obtain ⟨o,hget,howe⟩:=hob g hg;have hi':os.toArray[g.i]? = some o:=by rw [X0] at hget;simpa using hget
      obtain ⟨hask,hop⟩:=howe vs bs ((Q6 X bs++M)++((Jn++J)++C.A)) w (λx hx=>by simp only [List.mem_append] at hx ⊢;rcases hx with h|h|h<;>simp [h]) (λg' hg' hanc=>hφ g' hg' (by
        have h3:=R5 hcl hanc hir;rcases A0t h3 with h4|h4
        . exact (U6 (hun _ (Al (f:=Gw.i) hg')) h4).elim
        . exact h4))
      unfold wpOp;simp only [hi'];rw [if_pos (hask.wanted ha)];have hcal:=hw.callee (Mc:=[]) (R:=Q6 X bs++M) (.refl _);refine .inl (Oper.wp_mono ?_ (hop _ a w ha hcal.cx));rintro a' w' ⟨l',M',J',ha',hs',v,rfl,hφv⟩;have hsz:w.heap.size<=w'.heap.size:=hs'.size;have hb:=hw.back (Mc:=[]) (R:=Q6 X bs++M) (.refl _) hs'.cx
      let bs':Nat->Mem:=λk=>if k=g.i then M' else bs k
      have hown:Q6 (X++[g.i]) bs'=Q6 X bs++M':=by
        have e1:X.map bs'=X.map bs:=Bt λx hx=>by have:x≠g.i:=λe=>hiX (e▸hx);simp [bs',this]
        simp [Q6,List.map_append,e1,bs']
      have hperm:(M'++(Q6 X bs++M)).Perm (Q6 (X++[g.i]) bs'++M):=by rw [hown,<- Ap];exact List.Perm.append_right _ List.perm_append_comm
      have hfr2:St C (Q6 (X++[g.i]) bs'++M) ((J'++Jn)++J) w':=(hb.perm hperm).drop (Ao _) λx hx=>by simp only [List.mem_append] at hx ⊢;rcases hx with (h|h)|h<;>simp [h]
      refine ⟨λ_ b hb' hnk=>hs'.frame b hb' (by simp),?_⟩;rw [<- U3];have henv:=A2O (N:=C.N) (G:=toG G) (l:=l) (vs:=vs) (g:=⟨g.i,g.d,λ_ _=>True⟩) (a:=a') (v:=v) (Al (f:=λg:Gw=>(⟨g.i,g.d,λ_ _=>True⟩:Gm)) hg) (by rw [C43];exact hd) (by rw [C42];exact hi) (by rw [B2d];exact ha');rw [B2d] at henv;refine ih (X++[g.i]) (λk=>if k=g.i then v else vs k) bs' (J'++Jn) a' w' ?_ ?_ (by simp;omega) ?_ ?_ ?_ henv hfr2 (Az hn hsz)
      . rw [List.nodup_append];exact ⟨hnd,by simp,λx hx y hy e=>hiX (by simp at hy;subst hy;exact e▸hx)⟩
      . intro j hj;rcases List.mem_append.1 hj with hj|hj
        . exact hX j hj
        . simp at hj;subst hj;exact hiG
      . rw [U3];exact I9 hcl hir
      . intro g' hg' hm;rw [hown];by_cases e:g'.i=g.i
        . have:g'=g:=B8J hi hg' hg e;subst this;simp only [if_true,bs'];exact hmono g' hg' _ _ _ _ (λx hx=>by simp only [List.mem_append] at hx ⊢;rcases hx with h|h|(h|h)|(h|h)|h<;>simp [h]) hφv
        . simp only [e,if_false,bs'];have hm':g'.i∈X:=by simpa [e] using hm
          exact hmono g' hg' _ _ _ _ (λx hx=>by simp only [List.mem_append] at hx ⊢;rcases hx with (h|h)|(h|h)|h<;>simp [h]) (hφ g' hg' hm')
      . intro k hk x hx;by_cases e:k=g.i
        . subst e;simp only [if_true,bs'] at hx;rcases hs'.own x.1 x.2 (by simp [hx]) with h6|h6
          . cases h6
          . exact Az hn h6
        . simp only [e,if_false,bs'] at hx;have hk':k∈X:=by simpa [e] using hk
          exact hN k hk' x hx
theorem A7y(G:List Gw)(hmono:∀g∈G,A19 g.φ)(hd:(G.map (·.d)).Nodup)(hi:(G.map (·.i)).Nodup)(hdN:∀g∈G,g.d<C.N)(hob:∀g∈G,B0F C os l M J G g)
    (h:∀(vs:Nat->Value) (bs:Nat->Mem) Jn,(∀g∈G,g.φ (vs g.i) (bs g.i) ((Q6 (G.map (·.i)) bs++M)++((Jn++J)++C.A)))->(∀g∈G,∀x∈bs g.i,n0<=x.1)->XK C os Q K n0 nd plan (V0 G vs++l) (Q6 (G.map (·.i)) bs++M) (Jn++J)):XK C os Q K n0 nd (enc (G.map (·.i))++plan) l M J:=by
  intro listed hcl hp a w ha hw hn;obtain ⟨B,hok,hp2⟩:=A9u hp
  have hBcl:Q9 os.toArray B:=by
    have:∀ {A is B},GOk os.toArray A is B->Q9 os.toArray A->Q9 os.toArray B:=by
      intro A is B h
      induction h with
      | nil=>exact id
      | cons hr _ _ ih=>exact λhc=>ih (I9 hc hr)
    exact this hok hcl
  have hlen:(enc (G.map (·.i))++plan).length=G.length+plan.length:=by
    have:∀is:List Nat,(enc is).length=is.length:=by
      intro is
      induction is with
      | nil=>rfl
      | cons i r ih=>cases r with
        | nil=>rfl
        | cons j r=>simp only [enc,List.length_cons] at ih ⊢;rw [ih]
    simp [this]
  rw [hlen]
  let vs:Nat->Value:=λk=>match G.find? (λg=>g.i==k) with
    | some g=>(a.tmps[g.d]?).getD undef
    | none=>undef
  have hag:Ag C.N (V0 G vs++l) a:=by
    refine ⟨ha.defers,ha.size,?_⟩;intro k u hk
    have key:∀G':List Gw,(∀g∈G',g∈G)->lk (V0 G' vs++l) k=some u->a.tmps[k]? = some u:=by
      intro G'
      induction G' with
      | nil=>intro _ h;exact ha.slot k u h
      | cons g G' ih =>
        intro hs h;simp only [V0,List.map_cons,Cu,lk] at h;by_cases e:g.d=k
        . subst e;simp at h
          have hf:G.find? (λx=>x.i==g.i)=some g:=by
            have hgG:=hs g Ax
            cases hq:G.find? (λx=>x.i==g.i) with
            | none=>have:=List.find?_eq_none.1 hq g hgG;simp at this
            | some x =>
              have h1:=List.find?_some hq;have h2:=List.mem_of_find?_eq_some hq;rw [B8J hi h2 hgG (by simpa using h1)]
          have hlt:g.d<a.tmps.size:=by rw [ha.size];exact hdN g (hs g Ax)
          rw [<- h];show a.tmps[g.d]? = some (vs g.i);simp only [vs,hf,Array.getElem?_eq_getElem hlt,Option.getD_some]
        . simp only [A0m e,cond_false] at h;exact ih (λx hx=>hs x (Bb _ hx)) h
    exact key G (λ_ h=>h) hk
  exact B2e (n0:=n0) (K:=K) hmono hd hi hob hok (λvs bs Jn a w hφ hN ha hw hn=>h vs bs Jn hφ hN B hBcl hp2 a w ha hw hn) G.length [] vs (λ_=>[]) [] a w .nil (λ_ h=>by cases h) (by simp) hcl (λ_ _ h=>by cases h) (λ_ h=>by cases h) hag hw hn
theorem A7z(G:List Gw)(hmono:∀g∈G,A19 g.φ)(hd:(G.map (·.d)).Nodup)(hi:(G.map (·.i)).Nodup)(hdN:∀g∈G,g.d<C.N)(hob:∀g∈G,B0F C os l M J G g)
    (h:∀(vs:Nat->Value) (bs:Nat->Mem) Jn,(∀g∈G,g.φ (vs g.i) (bs g.i) ((Q6 (G.map (·.i)) bs++M)++((Jn++J)++C.A)))->XK C os Q K n0 nd plan (V0 G vs++l) (Q6 (G.map (·.i)) bs++M) (Jn++J)):XK C os Q K n0 nd (enc (G.map (·.i))++plan) l M J:=A7y G hmono hd hi hdN hob λvs bs Jn hφ _=>h vs bs Jn hφ
theorem N6(G:List Gw)(hmono:∀g∈G,A19 g.φ)(hd:(G.map (·.d)).Nodup)(hi:(G.map (·.i)).Nodup)(hdN:∀g∈G,g.d<C.N)(hob:∀g∈G,B0F C os l M J G g)
    (h:∀(vs:Nat->Value) (bs:Nat->Mem) Jn,(∀g∈G,g.φ (vs g.i) (bs g.i) ((Q6 (G.map (·.i)) bs++M)++((Jn++J)++C.A)))->XF C os Q nd plan (V0 G vs++l) (Q6 (G.map (·.i)) bs++M) (Jn++J)):XF C os Q nd (enc (G.map (·.i))++plan) l M J:=A7z G hmono hd hi hdN hob h
end group
theorem gM{φ:Value->Mem->Mem->Prop}(h:A19 φ:=by exact λ_ _ _ _ _ h=>h):A19 φ:=h
theorem gO{C:Cx}{os:List Oper}{l:Env}{M J:Mem}{Gs:List Gw}{g:Gw}{o:Oper}(h:∀(vs:Nat->Value) (bs:Nat->Mem) (R:Mem) (w:World),(∀x∈M++(J++C.A),x∈R)->(∀g'∈G,anc os.toArray os.toArray.size g.i g'.i=true->g'.φ (vs g'.i) (bs g'.i) R)->OpL ⟨C.P,w,[],R,C.N⟩ o (V0 G vs++l) [] [] (λl' M' J'=>∃v,l'=(g.d,v)::(V0 G vs++l)∧g.φ v M' (M'++(J'++R))))
    (t:∀g∈Gs,B0F C os l M J G g) (ho:nth os g.i=some o:=by exact E) (hg:o.guard=none:=by exact E):∀x∈g::Gs,B0F C os l M J G x:=A4 ⟨o,ho,λvs bs R w hb ha=>⟨.inl hg,h vs bs R w hb ha⟩⟩ t
end Go.Px

namespace Go.Proofs.YtglbhoeolghndaaGreatDoor
open Go.Px
def C2H:LN:=(List.range 256).map λc=>if c=0 then 0 else c.log2+1
theorem B6u:∀x∈C2H,x<256:=by decide +kernel
set_option maxRecDepth 10000 in
theorem B6v:∀c:Fin 256,c.val<2^(C2H.getD c 0)∧C2H.getD c 0<=8∧(0<c.val->2^(C2H.getD c 0-1)<=c.val):=by decide +kernel
variable{x n:Nat}
theorem B6w{y T:Nat}(h:x/2^n=y)(h1:y<2^T):x<2^(n+T):=by rw [Nat.pow_add];have:=(Nat.div_lt_iff_lt_mul (Bx n)).1 (h▸h1);rwa [Nat.mul_comm] at this
theorem B2f{y T:Nat}(h:x/2^n=y)(hy:0<y)(hT:2^(T-1)<=y)(h1:y<2^T):2^(n+T-1)<=x:=by
  have h0:T≠0:=by rintro rfl;simp at h1;omega
  rw [show n+T-1=n+(T-1) by omega,Nat.pow_add];have:=Nat.div_mul_le_self x (2^n);rw [h] at this;exact Az (by rw [Nat.mul_comm];exact Au _ hT) this
def A6j:LN:=(List.range 100).flatMap λp=>[48+p/10,48+p%10]
theorem A5x:∀x∈A6j,x<256:=by decide +kernel
theorem A5y:∀p:Fin 100,A6j.getD (2*p.val) 0=48+p.val/10∧A6j.getD (2*p.val+1) 0=48+p.val%10:=by decide +kernel
theorem A3h:A6j.length=200:=by decide +kernel
def A0G:LN:=(List.range 20).map λi=>10^i
theorem A7A:∀n:Fin 65,2^n.val<=10^(n.val*78913/262144+1)∧n.val*78913/262144<=19∧(n.val*78913/262144=0∨10^(n.val*78913/262144-1)<=2^(n.val-1)):=by decide +kernel
theorem B2g:∀t:Fin 20,A0G.getD t 0=10^t.val:=by decide +kernel
theorem C2I(h0:0<x)(hn:n<=64)(h1:x<2^n)(h2:2^(n-1)<=x):n*78913/262144+(if 10^(n*78913/262144)<=x then 1 else 0)=nd10 x:=by
  obtain ⟨a,b,c⟩:=A7A ⟨n,by omega⟩;simp only at a b c;have hx:x<18446744073709551616:=Bp h1 (Bq qD hn:2^n<=2^64);generalize n*78913/262144=t at *;split
  . rename_i h;exact (A7x qO (Bp h1 a) (.inr (by simpa using h)) hx).symm
  . rename_i h;have ht:t≠0:=by rintro rfl;simp at h;omega
    rw [Nat.add_zero];refine (A7x qO qO (.inr ?_) hx).symm;rcases c with c|c
    . exact absurd c ht
    . exact Az c h2
theorem B6x(k u:Nat):dgs (k+1) u=(48+u/10^k%10)::dgs k u:=by unfold dgs;rw [show List.range (k+1)=0::(List.range k).map (· + 1) from List.range_succ_eq_map,List.map_cons,List.map_map];congr 1;apply Bt;intro j hj;have:=List.mem_range.1 hj;simp only [Function.comp];congr 4;omega
variable{xs r:LN}{o m k u:Nat}
theorem A4t(hm:0<m)(hl:o+m<=xs.length):(xs.take (o+m)++(dgs k u++r)).set (o+(m-1)) (48+u/10^k%10)=xs.take (o+(m-1))++(dgs (k+1) u++r):=by
  have e:xs.take (o+m)=xs.take (o+(m-1))++[xs[o+(m-1)]'qO]:=by rw [show o+m=(o+(m-1))+1 by omega,Bh,Ab qO];rfl
  rw [e,B6x,Ap,List.set_append_right _ _ (by rw [Bj];omega),Bj,Nat.min_eq_left qO,Nat.sub_self];simp
theorem A2m{p:Nat}(hm:2<=m)(hl:o+m<=xs.length)(hp:p=u/10^k%100):((xs.take (o+m)++(dgs k u++r)).set (o+(m-1)) (48+p%10)).set (o+(m-2)) (48+p/10)=xs.take (o+(m-2))++(dgs (k+2) u++r):=by have h1:=A4t (xs:=xs) (r:=r) (o:=o) (m:=m) (k:=k) (u:=u) qO hl;have h2:=A4t (xs:=xs) (r:=r) (o:=o) (m:=m-1) (k:=k+1) (u:=u) qO qO;rw [show 48+p%10=48+u/10^k%10 by omega,h1];rw [show m-1-1=m-2 by omega] at h2;rw [show 48+p/10=48+u/10^(k+1)%10 by rw [Nat.pow_succ,<- Bu];omega,h2]
theorem V1(hl:o+m<=xs.length):(xs.take (o+m)++(dgs k u++r)).length=o+m+(k+r.length):=by simp [A2k];omega
theorem A5z(x:Nat)(hx:x<18446744073709551616)(A:Mem):FnX prog 181 [.int .u64 (x:Int)] [] A λr M J=>M=[]∧J=[]∧∃n:Nat,r=.int .i64 (n:Int)∧n<=64∧x<2^n∧(0<x->2^(n-1)<=x):=by
 refine Ck (N:=25) func181 E E E λw=>?_;refine A8 (D4 0) (A1 (as_ (A0 (D0 0 2) ?_)));refine P3 (α:=Nat×Nat) (λs=>[(0,.int .u64 (s.1:Int)),(2,.int .i64 (s.2:Int))]) (λ_=>[]) (λ_=>[]) (λs=>x/2^s.2=s.1∧s.1<4294967296∧s.2<=32∧(s.2=0∨0<s.1)) ?_ ?_
 .
  refine A1 (mV_ E (lQ_ (E8 E E E) (A0 (D6 0 2 4) ?_)));refine C3 E ?_ ?_<;>intro hc
  .
   have hge:4294967296<=x:=by simp at hc;omega
   refine A1 (mv_ ?_);refine lQ_ (P5 32 4294967296 E E E E qD) ?_;refine as_ (A0 (D4 0) (C1 (as_ (C5 ?_))));exact jn (x/4294967296,32) ⟨E,by dsimp only;omega,by dsimp only;omega,.inr (by dsimp only;omega)⟩ (D0 0 2) .rfl qI
  .
   have hlt:x<4294967296:=by simp at hc;omega
   refine A6 ?_;exact jn (x,0) ⟨by simp,hlt,by dsimp only;omega,.inl E⟩ (D0 0 2) .rfl qI
 .
  rintro ⟨y,n⟩ ⟨hy,hyb,hn,h0⟩;dsimp only at hy hyb hn h0 ⊢;refine P3 (α:=Nat×Nat) (λs=>[(0,.int .u64 (s.1:Int)),(2,.int .i64 (s.2:Int))]) (λ_=>[]) (λ_=>[]) (λs=>x/2^s.2=s.1∧s.1<65536∧s.2<=48∧(s.2=0∨0<s.1)) ?_ ?_
  .
   refine A1 (mV_ E (lQ_ (E8 E E E) (A0 (D6 0 2 8) ?_)));refine C3 E ?_ ?_<;>intro hc
   .
    have hge:65536<=y:=by simp at hc;omega
    refine A1 (mv_ ?_);refine lQ_ (P5 16 65536 E E E E qD) ?_;refine as_ (A0 (D0 0 2) (C1 (mv_ ?_)));refine lQ_ (K5 (b:=16) E E E E qO) ?_;refine as_ (C5 ?_);exact jn (y/65536,n+16) ⟨by dsimp only;rw [Nat.pow_add,<- Bu,hy],by dsimp only;omega,by dsimp only;omega,.inr (by dsimp only;omega)⟩ (D0 0 2) .rfl qI
   .
    have hlt:y<65536:=by simp at hc;omega
    refine A6 ?_;exact jn (y,n) ⟨hy,hlt,by dsimp only;omega,h0⟩ (D0 0 2) .rfl qI
  .
   clear hy hyb hn h0;rintro ⟨y,n⟩ ⟨hy,hyb,hn,h0⟩;dsimp only at hy hyb hn h0 ⊢;refine P3 (α:=Nat×Nat) (λs=>[(0,.int .u64 (s.1:Int)),(2,.int .i64 (s.2:Int))]) (λ_=>[]) (λ_=>[]) (λs=>x/2^s.2=s.1∧s.1<256∧s.2<=56∧(s.2=0∨0<s.1)) ?_ ?_
   .
    refine A1 (mV_ E (lQ_ (E8 E E E) (A0 (D6 0 2 14) ?_)));refine C3 E ?_ ?_<;>intro hc
    .
     have hge:256<=y:=by simp at hc;omega
     refine A1 (mv_ ?_);refine lQ_ (P5 8 256 E E E E qD) ?_;refine as_ (A0 (D0 0 2) (C1 (mv_ ?_)));refine lQ_ (K5 (b:=8) E E E E qO) ?_;refine as_ (C5 ?_);exact jn (y/256,n+8) ⟨by dsimp only;rw [Nat.pow_add,<- Bu,hy],by dsimp only;omega,by dsimp only;omega,.inr (by dsimp only;omega)⟩ (D0 0 2) .rfl qI
    .
     have hlt:y<256:=by simp at hc;omega
     refine A6 ?_;exact jn (y,n) ⟨hy,hlt,by dsimp only;omega,h0⟩ (D0 0 2) .rfl qI
   .
    clear hy hyb hn h0;rintro ⟨y,n⟩ ⟨hy,hyb,hn,h0⟩;dsimp only at hy hyb hn h0 ⊢;obtain ⟨k1,k2,k3⟩:=B6v ⟨y,hyb⟩;simp only at k1 k2 k3;refine A1 (mV_ E (mV_ E (lQ_ ((Af hyb:y%256=y)▸A12 E kR) ?_)));refine lQ_ (A7v (ws:=C2H) (a:=y) E kR B6u E kR E (by show _<256;omega)) ?_;refine lQ_ (A14 (k':=.i64) E kR (by show _<9223372036854775808;omega)) ?_;refine lQ_ (K5 E E E E qO) ?_;refine as_ (A0 (D4 2) (A9 ?_));refine ⟨_,[],[],H8 E E,Aa _,by simp,E,E,n+C2H.getD y 0,E,by omega,B6w hy k1,λhx=>?_⟩
    have hy0:0<y:=by
     rcases h0 with rfl|h0
     . rw [<- hy];simpa using hx
     . exact h0
    exact B2f hy hy0 (k3 hy0) k1
theorem B0G(n:Nat)(hn:n<=64)(A:Mem):FnV prog 206 [.int .i64 (n:Int)] A (.int .i64 ((n*78913/2^18:Nat):Int)):=by refine Ck (N:=6) func206 E E E λw=>?_;refine A8 (D4 0) (A1 (as_ (A0 (D4 0) (A1 (mv_ ?_)))));refine lQ_ (A1g (b:=78913) E E E E qO) ?_;refine lQ_ (A3A (b:=18) E E E E (by show _<=64;omega)) ?_;refine as_ (A0 (D4 2) (A9 ?_));exact ⟨_,[],[],H8 E E,Aa _,by simp,E,E,E⟩
theorem B0H(b:Bool)(A:Mem):FnV prog 207 [.bool b] A (vI (if b=true then 1 else 0)):=by
 refine Ck (N:=4) func207 E E E λw=>?_;refine A8 (D4 0) (A1 (as_ (A0 (D4 0) (A3 (A1 (mv_ (A0 (D4 3) ?_)))))));refine C3 E ?_ ?_<;>intro hc
 . subst hc;refine A1 (as_ (A0 (D4 2) (A9 (tr ?_))));exact ⟨_,[],[],H8 E E,Aa _,by simp,E,E,E⟩
 . subst hc;refine A6 (nx kn (A1 (as_ (A0 (D4 2) (A9 ?_)))));exact ⟨_,[],[],H8 E E,Aa _,by simp,E,E,E⟩
variable{e4:TypeId}{f4:Nat×Nat}
theorem A2a(x:Nat)(h0:0<x)(hx:x<18446744073709551616)(A:Mem)(h4:(4,Obj.cells (nums .u64 A0G).toArray e4 f4)∈A):FnV prog 193 [.int .u64 (x:Int)] A (vI (nd10 x)):=by refine Ck (N:=15) func193 E E E λw=>?_;refine A8 (D4 0) (A1 (as_ (A0 (D4 0) (A1 (mv_ ?_)))));refine C6 (aS E a0) kR (A5z x hx _) E ?_;rintro r5 M5 J5 ⟨rfl,rfl,n,rfl,hn,h1,h2⟩;replace h2:=h2 h0;have hnd:=C2I h0 hn h1 h2;obtain ⟨-,k2,-⟩:=A7A ⟨n,by omega⟩;simp only at k2;refine E6 (aS E a0) kR (B0G n hn _) E ?_;rw [show (2:Nat)^18=262144 from rfl];have k4:=B2g ⟨n*78913/262144,by omega⟩;simp only at k4;generalize n*78913/262144=t at *;refine as_ (A0 (D0 0 3) (A1 (mv_ (mv_ (mv_ ?_)))));refine lQ_ (F9 (e:=130) (n:=20) (sz:=1) (i:=t) E E kR kR E qO) ?_;refine lQ_ (I3 t E kR (mA h4) qO (by show _<20;omega)) ?_;refine lQ_ (F5 (decide (10^t<=x)) E E (by rw [k4,<- decide_eq_decide.2 (show (((10^t:Nat):Int)<=(x:Int))↔10^t<=x from Int.ofNat_le)];rfl)) ?_;refine E6 (aS E a0) kR (B0H _ _) E ?_;refine lQ_ (K5 E E E E (by split<;>omega)) ?_;refine as_ (A0 (D4 2) (A9 ?_));refine ⟨_,[],[],H8 E E,Aa _,by simp,?_,E,E⟩;rw [<- hnd];simp only [decide_eq_true_eq]
section
variable{P:Program}{R:Mem}{l:Env}{d:Option Nat}{ty t:TypeId}{pos:String}{af:Array Edge}{g:Option (Nat×Bool)}{x y:Operand}{S:ByteArray}{k:IntKind}{i:Int}{p:Nat}
theorem A04(hx:ev l x=some (.string S))(hS:S=txt A6j)(hy:ev l y=some (.int k i))(hu:P.underlying t=some .string)(hi:i=((2*p:Nat):Int))(hp:p<100):OpQ P R ⟨d,.index t x y,ty,pos,af,g⟩ l (.int .u8 ((48+p/10:Nat):Int)) :=
  (A5y ⟨p,hp⟩).1▸A7v hx hS A5x hy hu hi (by rw [A3h];omega)
theorem A05(hx:ev l x=some (.string S))(hS:S=txt A6j)(hy:ev l y=some (.int k i))(hu:P.underlying t=some .string)(hi:i=((2*p+1:Nat):Int))(hp:p<100):OpQ P R ⟨d,.index t x y,ty,pos,af,g⟩ l (.int .u8 ((48+p%10:Nat):Int)) :=
  (A5y ⟨p,hp⟩).2▸A7v hx hS A5x hy hu hi (by rw [A3h];omega)
end
theorem A2n(u a b:Nat):u/10^(a+b)=u/10^a/10^b:=by rw [Nat.pow_add,Bu]
theorem A6k(hu:u<10^n)(hm:m<=n):u/10^(n-m)<10^m:=by rw [Nat.div_lt_iff_lt_mul (Nat.pow_pos qD),<- Nat.pow_add];rwa [show m+(n-m)=n by omega]
theorem A7B(b o n cap u:Nat)(xs:LN)(e:TypeId)(hn:0<n)(hn20:n<=20)(hxs:o+n<=xs.length)(hu:u<10^n)(hu64:u<18446744073709551616)(A:Mem):FnX prog 194 [.slice (some ⟨b,o,none⟩) n cap,.int .u64 (u:Int)] [(b,blk (nums .u8 xs) e)] A λr M J=>J=[]∧M=[(b,blk (nums .u8 (xs.take o++(dgs n u++xs.drop (o+n)))) e)]:=by
 refine Ck (N:=167) func194 E E E λw=>?_;refine A8 (D0 0 1) (A1 (mV_ E (lQ_ (A1c (e:=5) E kR) (as_ (A0 (D6 0 1 4) (A3 (A7 ?_)))))));refine E5 (α:=Nat) (λm=>[(0,.slice (some ⟨b,o,none⟩) n cap),(1,.int .u64 ((u/10^(n-m):Nat):Int)),(4,.int .i64 (m:Int))]) (λm=>[(b,blk (nums .u8 (xs.take (o+m)++(dgs (n-m) u++xs.drop (o+n)))) e)]) (λ_=>[]) (λm=>m<=n) (λm=>m) n (Av _) (kq 0 (kp 1 (by rw [Nat.sub_self,Nat.pow_zero,Nat.div_one];rfl) (D4 4))) (Ce (by simp [dgs])) qI ?_;rintro m hm;have hb:=A6k hu hm;refine A3 (A1 (mV_ E (lQ_ (E8 E E E) (A0 (D7 0 1 4 20) ?_))));refine C3 E ?_ ?_<;>intro hc
 .
  have hm8:8<=m:=by simp at hc;omega
  obtain ⟨k,hk⟩:∃k,k=n-m:=⟨_,E⟩
  rw [<- hk];have hkm:k+m=n:=by omega
  obtain ⟨v,hv⟩:∃v,v=u/10^k:=⟨_,E⟩
  rw [<- hv];have hv64:v<18446744073709551616:=by rw [hv];exact Be (Nat.div_le_self _ _) hu64
  refine A6 (nx (D6 0 1 4) (A7 (A1 (mv_ ?_))));refine lQ_ (V5 (b:=100000000) E E E E qO) ?_;refine lQ_ (A9q E kR) ?_;rw [show v%100000000%4294967296=v%100000000 by omega]
  obtain ⟨y,hy⟩:∃y,y=v%100000000:=⟨_,E⟩
  rw [<- hy];have hy8:y<100000000:=by omega
  refine as_ (A0 (D7 0 1 4 5) (A1 (mv_ ?_)));refine lQ_ (A4q (b:=100000000) (m:=18446744073709551616) E E E E E E qO qO) ?_;refine as_ (A0 (D7 0 1 4 5) (A1 (mv_ ?_)));refine lQ_ (A4q (b:=10000) (m:=4294967296) E E E E E E qO qO) ?_;refine mv_ ?_;refine lQ_ (V5 (b:=10000) E E E E qO) ?_;refine as_ (as_ (A0 (F2 0 1 4 6 7) (A1 (mv_ ?_))));refine lQ_ (A4q (b:=100) (m:=4294967296) E E E E E E qO qO) ?_;refine lQ_ (Q2 4294967296 (b:=2) E E E E E E) (mv_ ?_);refine lQ_ (V5 (b:=100) E E E E qO) ?_;refine lQ_ (Q2 4294967296 (b:=2) E E E E E E) (as_ (as_ (A0 (G7 0 1 4 6 8 9) (A1 (mv_ ?_)))));refine lQ_ (A4q (b:=100) (m:=4294967296) E E E E E E qO qO) ?_;refine lQ_ (Q2 4294967296 (b:=2) E E E E E E) (mv_ ?_);refine lQ_ (V5 (b:=100) E E E E qO) ?_;refine lQ_ (Q2 4294967296 (b:=2) E E E E E E) (as_ (as_ (A0 (N9 0 1 4 8 9 10 11) ?_)));refine C8 [0,1,2,3,4,5,6,7,8,9,10,11,13] (zp 0 [0,0,0,0,0,0,0,0,0,0,0,0,2,0,2]) kR kR λhs=>?_;refine fM_ E E (fm_ ?_);refine fQ_ E (Q7 (b:=1) E E E E qO qO) ?_;refine fM_ E E (fm_ ?_);refine fQ_ E (Q7 (b:=2) E E E E qO qO) ?_;refine fM_ E E (fQ_ E (G8 4294967296 (b:=1) E E E E E E) ?_);refine fQ_ E (A05 (p:=(y%10000%100)) E kR E kR qO qO) ?_;refine fm_ ?_;refine fQ_ E (A04 (p:=(y%10000%100)) E kR E kR qO qO) ?_;refine fQ_ E (L8 (e:=5) (sz:=1) (i:=m-1) E E kR kR qO qO) ?_;refine G1 E E E (K6 (o+(m-1)) E E kR qO (by rw [V1 qO];omega) Cs ?_);refine fQ_ E (L8 (e:=5) (sz:=1) (i:=m-2) E E kR kR qO qO) ?_;refine G1 E E E (K6 (o+(m-2)) E E kR qO (by rw [Bk,V1 qO];omega) Cs ?_);rw [A2m qO qO (by rw [<- hv];omega)];refine E0 (G7 0 1 4 8 10 11) ?_;refine C8 [0,1,2,3,4,5,6,7,8,9,10,11,13] (zp 0 [0,0,0,0,0,0,0,0,0,0,0,0,2,0,2]) kR kR λhs=>?_;refine fM_ E E (fm_ ?_);refine fQ_ E (Q7 (b:=3) E E E E qO qO) ?_;refine fM_ E E (fm_ ?_);refine fQ_ E (Q7 (b:=4) E E E E qO qO) ?_;refine fM_ E E (fQ_ E (G8 4294967296 (b:=1) E E E E E E) ?_);refine fQ_ E (A05 (p:=(y%10000/100)) E kR E kR qO qO) ?_;refine fm_ ?_;refine fQ_ E (A04 (p:=(y%10000/100)) E kR E kR qO qO) ?_;refine fQ_ E (L8 (e:=5) (sz:=1) (i:=(m-2)-1) E E kR kR qO qO) ?_;refine G1 E E E (K6 (o+((m-2)-1)) E E kR qO (by rw [V1 qO];omega) Cs ?_);refine fQ_ E (L8 (e:=5) (sz:=1) (i:=(m-2)-2) E E kR kR qO qO) ?_;refine G1 E E E (K6 (o+((m-2)-2)) E E kR qO (by rw [Bk,V1 qO];omega) Cs ?_);rw [A2m qO qO (by rw [A2n,<- hv];omega)];refine E0 (F2 0 1 4 10 11) ?_;refine C8 [0,1,2,3,4,5,6,7,8,9,10,11,13] (zp 0 [0,0,0,0,0,0,0,0,0,0,0,0,2,0,2]) kR kR λhs=>?_;refine fM_ E E (fm_ ?_);refine fQ_ E (Q7 (b:=5) E E E E qO qO) ?_;refine fM_ E E (fm_ ?_);refine fQ_ E (Q7 (b:=6) E E E E qO qO) ?_;refine fM_ E E (fQ_ E (G8 4294967296 (b:=1) E E E E E E) ?_);refine fQ_ E (A05 (p:=(y/10000%100)) E kR E kR qO qO) ?_;refine fm_ ?_;refine fQ_ E (A04 (p:=(y/10000%100)) E kR E kR qO qO) ?_;refine fQ_ E (L8 (e:=5) (sz:=1) (i:=(m-2-2)-1) E E kR kR qO qO) ?_;refine G1 E E E (K6 (o+((m-2-2)-1)) E E kR qO (by rw [V1 qO];omega) Cs ?_);refine fQ_ E (L8 (e:=5) (sz:=1) (i:=(m-2-2)-2) E E kR kR qO qO) ?_;refine G1 E E E (K6 (o+((m-2-2)-2)) E E kR qO (by rw [Bk,V1 qO];omega) Cs ?_);rw [A2m qO qO (by rw [show k+2+2=k+4 by omega,A2n,<- hv];omega)];refine E0 (D7 0 1 4 10) ?_
  refine C8 [0,1,2,3,4,5,6,7,8,9,10,11,13] (zp 0 [0,0,0,0,0,0,0,0,0,0,0,0,2,0,2]) kR kR λhs=>?_;refine fM_ E E (fm_ ?_);refine fQ_ E (Q7 (b:=7) E E E E qO qO) ?_;refine fM_ E E (fm_ ?_);refine fQ_ E (Q7 (b:=8) E E E E qO qO) ?_;refine fM_ E E (fQ_ E (G8 4294967296 (b:=1) E E E E E E) ?_);refine fQ_ E (A05 (p:=(y/10000/100)) E kR E kR qO qO) ?_;refine fm_ ?_;refine fQ_ E (A04 (p:=(y/10000/100)) E kR E kR qO qO) ?_;refine fQ_ E (L8 (e:=5) (sz:=1) (i:=(m-2-2-2)-1) E E kR kR qO qO) ?_;refine G1 E E E (K6 (o+((m-2-2-2)-1)) E E kR qO (by rw [V1 qO];omega) Cs ?_);refine fQ_ E (L8 (e:=5) (sz:=1) (i:=(m-2-2-2)-2) E E kR kR qO qO) ?_;refine G1 E E E (K6 (o+((m-2-2-2)-2)) E E kR qO (by rw [Bk,V1 qO];omega) Cs ?_);rw [A2m qO qO (by rw [show k+2+2+2=k+6 by omega,A2n,<- hv];omega)];refine E0 (D6 0 1 4) (C1 (mv_ ?_));refine lQ_ (Q7 (b:=8) E E E E qO qO) ?_;refine as_ (C5 (nb ?_));exact rn (m-8) qO qO (kq 0 (kp 1 (by rw [show n-(m-8)=k+8 by omega,A2n,<- hv];rfl) (D4 4))) (Ce (by rw [show n-(m-8)=k+8 by omega,show m-2-2-2-2=m-8 by omega,show k+2+2+2+2=k+8 by omega])) qI
 .
  have hm8:m<8:=by simp at hc;omega
  refine D8 (te (re (be E (nx (D6 0 1 4) ?_))))
  obtain ⟨k,hk⟩:∃k,k=n-m:=⟨_,E⟩
  rw [<- hk];have hkm:k+m=n:=by omega
  obtain ⟨v,hv⟩:∃v,v=u/10^k:=⟨_,E⟩
  rw [<- hv];rw [<- hk,<- hv] at hb;have hb7:v<10000000:=Bp hb (Bq qD qO:10^m<=10^7);refine A1 (mV_ E (lQ_ (A9q E kR) (as_ ?_)));rw [show v%4294967296=v by omega];refine A0 (D6 0 4 12) ?_;refine P3 (α:=Nat) (λm=>[(0,.slice (some ⟨b,o,none⟩) n cap),(4,.int .i64 (m:Int)),(12,.int .u32 ((u/10^(n-m):Nat):Int))]) (λm=>[(b,blk (nums .u8 (xs.take (o+m)++(dgs (n-m) u++xs.drop (o+n)))) e)]) (λ_=>[]) (λm=>m<=n∧m<4) ?_ ?_
  .
   refine A1 (mV_ E (lQ_ (E8 E E E) (A0 (D7 0 4 12 99) ?_)));refine C3 E ?_ ?_<;>intro hc
   .
    have hm4:4<=m:=by simp at hc;omega
    refine A1 (mv_ ?_);refine lQ_ (V5 (b:=10000) E E E E qO) ?_;refine as_ (A0 (D7 0 4 12 13) (A1 (mv_ ?_)));refine lQ_ (A4q (b:=10000) (m:=4294967296) E E E E E E qO qO) ?_;refine as_ (A0 (D7 0 4 12 13) (A1 (mv_ ?_)));refine lQ_ (A4q (b:=100) (m:=4294967296) E E E E E E qO qO) ?_;refine lQ_ (Q2 4294967296 (b:=2) E E E E E E) (mv_ ?_);refine lQ_ (V5 (b:=100) E E E E qO) ?_;refine lQ_ (Q2 4294967296 (b:=2) E E E E E E) (as_ (as_ (A0 (F2 0 4 12 14 15) ?_)));refine C8 [0,1,2,3,4,5,6,7,8,9,10,11,13] (zp 0 [0,0,0,0,0,0,0,0,0,0,0,0,2,0,2]) kR kR λhs=>?_;refine fM_ E E (fm_ ?_);refine fQ_ E (Q7 (b:=1) E E E E qO qO) ?_;refine fM_ E E (fm_ ?_);refine fQ_ E (Q7 (b:=2) E E E E qO qO) ?_;refine fM_ E E (fQ_ E (G8 4294967296 (b:=1) E E E E E E) ?_);refine fQ_ E (A05 (p:=(v%10000%100)) E kR E kR qO qO) ?_;refine fm_ ?_;refine fQ_ E (A04 (p:=(v%10000%100)) E kR E kR qO qO) ?_;refine fQ_ E (L8 (e:=5) (sz:=1) (i:=m-1) E E kR kR qO qO) ?_;refine G1 E E E (K6 (o+(m-1)) E E kR qO (by rw [V1 qO];omega) Cs ?_);refine fQ_ E (L8 (e:=5) (sz:=1) (i:=m-2) E E kR kR qO qO) ?_;refine G1 E E E (K6 (o+(m-2)) E E kR qO (by rw [Bk,V1 qO];omega) Cs ?_);rw [A2m qO qO (by rw [<- hv];omega)];refine E0 (D7 0 4 12 14) ?_;refine C8 [0,1,2,3,4,5,6,7,8,9,10,11,13] (zp 0 [0,0,0,0,0,0,0,0,0,0,0,0,2,0,2]) kR kR λhs=>?_;refine fM_ E E (fm_ ?_);refine fQ_ E (Q7 (b:=3) E E E E qO qO) ?_;refine fM_ E E (fm_ ?_);refine fQ_ E (Q7 (b:=4) E E E E qO qO) ?_;refine fM_ E E (fQ_ E (G8 4294967296 (b:=1) E E E E E E) ?_);refine fQ_ E (A05 (p:=(v%10000/100)) E kR E kR qO qO) ?_;refine fm_ ?_;refine fQ_ E (A04 (p:=(v%10000/100)) E kR E kR qO qO) ?_;refine fQ_ E (L8 (e:=5) (sz:=1) (i:=(m-2)-1) E E kR kR qO qO) ?_;refine G1 E E E (K6 (o+((m-2)-1)) E E kR qO (by rw [V1 qO];omega) Cs ?_);refine fQ_ E (L8 (e:=5) (sz:=1) (i:=(m-2)-2) E E kR kR qO qO) ?_;refine G1 E E E (K6 (o+((m-2)-2)) E E kR qO (by rw [Bk,V1 qO];omega) Cs ?_);rw [A2m qO qO (by rw [A2n,<- hv];omega)];refine E0 (D6 0 4 12) (C1 (mv_ ?_));refine lQ_ (Q7 (b:=4) E E E E qO qO) ?_;refine as_ (C5 ?_);exact jn (m-4) ⟨by omega,by omega⟩ (kq 0 (kq 4 (kp 12 (by rw [show n-(m-4)=k+4 by omega,A2n,<- hv];rfl) kn))) (Ce (by rw [show n-(m-4)=k+4 by omega,show m-2-2=m-4 by omega,show k+2+2=k+4 by omega])) qI
   .
    have hm4:m<4:=by simp at hc;omega
    refine A6 ?_;exact jn m ⟨hm,hm4⟩ (kq 0 (kq 4 (kp 12 (by rw [<- hk,<- hv];rfl) kn))) (Ce (by rw [<- hk])) qI
  .
   rintro m2 ⟨hm2,hm24⟩;have hb2:=A6k hu hm2
   obtain ⟨k2,hk2⟩:∃k,k=n-m2:=⟨_,E⟩
   rw [<- hk2];have hkm2:k2+m2=n:=by omega
   obtain ⟨v2,hv2⟩:∃v,v=u/10^k2:=⟨_,E⟩
   rw [<- hv2];rw [<- hk2,<- hv2] at hb2;have hb27:v2<1000:=Bp hb2 (Bq qD qO:10^m2<=10^3);refine P3 (α:=Nat) (λm=>[(0,.slice (some ⟨b,o,none⟩) n cap),(4,.int .i64 (m:Int)),(12,.int .u32 ((u/10^(n-m):Nat):Int))]) (λm=>[(b,blk (nums .u8 (xs.take (o+m)++(dgs (n-m) u++xs.drop (o+n)))) e)]) (λ_=>[]) (λm=>m<=n∧m<2) ?_ ?_
   .
    refine A1 (mV_ E (lQ_ (E8 E E E) (A0 (D7 0 4 12 139) ?_)));refine C3 E ?_ ?_<;>intro hc
    .
     have hm22:2<=m2:=by simp at hc;omega
     refine A1 (mv_ ?_);refine lQ_ (V5 (b:=100) E E E E qO) ?_;refine lQ_ (Q2 4294967296 (b:=2) E E E E E E) (as_ (A0 (D7 0 4 12 16) (A1 (mv_ ?_))));refine lQ_ (A4q (b:=100) (m:=4294967296) E E E E E E qO qO) ?_;refine as_ (A0 (D7 0 4 12 16) ?_);refine C8 [0,1,2,3,4,5,6,7,8,9,10,11,13] (zp 0 [0,0,0,0,0,0,0,0,0,0,0,0,2,0,2]) kR kR λhs=>?_;refine fM_ E E (fm_ ?_);refine fQ_ E (Q7 (b:=1) E E E E qO qO) ?_;refine fM_ E E (fm_ ?_);refine fQ_ E (Q7 (b:=2) E E E E qO qO) ?_;refine fM_ E E (fQ_ E (G8 4294967296 (b:=1) E E E E E E) ?_);refine fQ_ E (A05 (p:=(v2%100)) E kR E kR qO qO) ?_;refine fm_ ?_;refine fQ_ E (A04 (p:=(v2%100)) E kR E kR qO qO) ?_;refine fQ_ E (L8 (e:=5) (sz:=1) (i:=m2-1) E E kR kR qO qO) ?_;refine G1 E E E (K6 (o+(m2-1)) E E kR qO (by rw [V1 qO];omega) Cs ?_);refine fQ_ E (L8 (e:=5) (sz:=1) (i:=m2-2) E E kR kR qO qO) ?_;refine G1 E E E (K6 (o+(m2-2)) E E kR qO (by rw [Bk,V1 qO];omega) Cs ?_);rw [A2m qO qO (by rw [<- hv2])];refine E0 (D6 0 4 12) (C1 (mv_ ?_));refine lQ_ (Q7 (b:=2) E E E E qO qO) ?_;refine as_ (C5 ?_);exact jn (m2-2) ⟨by omega,by omega⟩ (kq 0 (kq 4 (kp 12 (by rw [show n-(m2-2)=k2+2 by omega,A2n,<- hv2];rfl) kn))) (Ce (by rw [show n-(m2-2)=k2+2 by omega])) qI
    .
     have hm22:m2<2:=by simp at hc;omega
     refine A6 ?_;exact jn m2 ⟨hm2,hm22⟩ (kq 0 (kq 4 (kp 12 (by rw [<- hk2,<- hv2];rfl) kn))) (Ce (by rw [<- hk2])) qI
   .
    rintro m3 ⟨hm3,hm32⟩;have hb3:=A6k hu hm3;refine A1 (mV_ E (lQ_ (E8 E E E) (A0 (D6 0 12 161) ?_)));refine C3 E ?_ ?_<;>intro hc
    .
     obtain rfl:m3=1:=by simp at hc;omega
     obtain ⟨k3,hk3⟩:∃k,k=n-1:=⟨_,E⟩
     rw [<- hk3];have hkm3:k3+1=n:=by omega
     obtain ⟨v3,hv3⟩:∃v,v=u/10^k3:=⟨_,E⟩
     rw [<- hv3];rw [<- hk3,<- hv3] at hb3;have hb37:v3<10:=by simpa using hb3
     refine C1 (mV_ E (mV_ E (lQ_ (G8 4294967296 (a:=48) E E E E E E) (lQ_ (A12 E kR) ?_))));rw [show (48+v3)%4294967296%256=48+u/10^k3%10 by rw [<- hv3];omega];refine lQ_ (L8 (e:=5) (sz:=1) (i:=0) E E kR kR E qO) ?_;refine A2 E (K6 (o+(1-1)) E E kR qO (by rw [V1 qO];omega) Cs ?_);rw [A4t qO qO];refine C5 ?_;exact ⟨_,[(b,_)],[],A9l E,Ao _,by simp,E,by rw [hkm3];rfl⟩
    .
     obtain rfl:m3=0:=by simp at hc;omega
     refine A6 ?_;exact ⟨_,[(b,_)],[],A9l E,Ao _,by simp,E,E⟩

def B96:LN:=[48,49,50,51,52,53,54,55,56,57,97,98,99,100,101,102,103,104,105,106,107,108,109,110,111,112,113,114,115,116,117,118,119,120,121,122]
theorem B0I:∀i:Fin 10,(B96.take (i.val+1)).drop i.val=dec i.val:=by decide +kernel
theorem A8H:∀i:Fin 100,10<=i.val->(A6j.take (i.val*2+2)).drop (i.val*2)=dec i.val:=by decide +kernel
theorem B6y(h0:0<n)(h:n<=9223372036854775808):IntKind.u64.wrap (-(n:Int))=((18446744073709551616-n:Nat):Int):=by simp [IntKind.wrap,IntKind.bits,IntKind.signed];omega
theorem B2h(h0:0<n)(h:n<=9223372036854775808):IntKind.u64.wrap (0-((18446744073709551616-n:Nat):Int))=(n:Int):=by simp [IntKind.wrap,IntKind.bits,IntKind.signed];omega
theorem B97(h:nd10 n<=20):(((List.replicate 24 0).take 1++(dgs (nd10 n) n++(List.replicate 24 0).drop (1+nd10 n))).drop 1).take (nd10 n)=dec n:=by rw [List.drop_append_of_le_length qM];simp [dec];rw [List.take_append_of_le_length (by rw [A2k];omega),Aw (by rw [A2k];omega)]
theorem B98(h:nd10 n<=20):(((List.replicate 24 0).take 1++(dgs (nd10 n) n++(List.replicate 24 0).drop (1+nd10 n))).set 0 45).take (1+nd10 n)=45::dec n:=by simp only [List.replicate,List.take,Cu,Ct,List.set_cons_zero];rw [Nat.add_comm 1,List.take_succ_cons,List.take_append_of_le_length (by rw [A2k];omega),Aw (by rw [A2k];omega)];rfl
theorem A9z{k:IntKind}(ws:LN)(o n:Nat):((nums k ws).drop o).take n=nums k ((ws.drop o).take n):=by simp [nums,List.map_drop,List.map_take]
theorem A4u(h:nd10 n<=20):((List.replicate 24 0).take 1++(dgs (nd10 n) n++(List.replicate 24 0).drop (1+nd10 n))).length=24:=by simp [A2k];omega
theorem A7C(i:Nat)(hi:i<100)(A:Mem):FnV prog 192 [.int .i64 (i:Int)] A (.string (txt (dec i))):=by
 refine Ck (N:=15) func192 E E E λw=>?_;refine A8 (D4 0) (A1 (aS_ E (A0 (D4 0) (A3 (A1 (mV_ E (lQ_ (E8 E E E) (A0 (D0 0 4) ?_))))))));refine C3 E ?_ ?_<;>intro hc
 .
  have hlt:i<10:=by simp at hc;omega
  refine A1 (mv_ (mv_ ?_));refine lQ_ (K5 (b:=1) E E E E qO) ?_;refine lQ_ (B0I ⟨i,hlt⟩▸B93 (ws:=B96) (a:=i) (b:=i+1) E kR E E kR E E qO (by show _<=36;omega)) ?_;refine as_ (A0 (D4 2) (A9 (tr ?_)));exact ⟨_,[],[],H8 E E,Aa _,by simp,E,E,E⟩
 .
  have hge:10<=i:=by simp at hc;omega
  refine A6 (nx (D4 0) (A1 (mv_ ?_)));refine lQ_ (A1g (b:=2) E E E E qO) ?_;refine mv_ ?_;refine lQ_ (A1g (b:=2) E E E E qO) ?_;refine lQ_ (K5 (b:=2) E E E E qO) ?_;refine lQ_ (A8H ⟨i,hi⟩ hge▸B93 (ws:=A6j) (a:=i*2) (b:=i*2+2) E kR E E kR E E qO (by rw [A3h];omega)) ?_;refine as_ (A0 (D4 2) (A9 ?_));exact ⟨_,[],[],H8 E E,Aa _,by simp,E,E,E⟩
theorem A5i(i:Int)(hmin:-9223372036854775808<=i)(hmax:i<=9223372036854775807)(A:Mem)(h4:(4,Obj.cells (nums .u64 A0G).toArray e4 f4)∈A):FnV prog 164 [.int .i64 i,.int .i64 10] A (.string (txt (A18 i))):=by
 refine Ck (N:=54) func164 E E E λw=>?_;refine A8 (D0 0 1) (A1 (aS_ E (A0 (D0 0 1) (A3 (A1 (mV_ E (lQ_ (F5 true E E (eqT E)) (A0 (D6 0 1 11) ?_))))))));refine D9 E ?_;refine A3 (A1 (mV_ E (lQ_ (E8 E E E) (mv_ ?_))));refine V8 (t:=14) E (λhb=>?_) (λhb=>?_)
 .
  obtain ⟨n,rfl⟩:=Int.eq_ofNat_of_zero_le (show 0<=i by simpa using hb);clear hb hmin;rw [show A18 ((n:Nat):Int)=dec n by simp [A18]];refine F4 E E (Cn qm_ E ?_);refine F4 E E (Cn (E8 E E E) E ?_);refine lQ_ (G4 E E) (A0 (D0 0 17) ?_);refine C3 E ?_ ?_<;>intro hc
  .
   have hlt:n<100:=by simp at hc;omega
   refine A1 (mv_ ?_);refine E6 (aS E a0) kR (A7C n hlt _) E ?_;refine as_ (A0 (D4 4) (A9 (tr (tr ?_))));exact ⟨_,[],[],H8 E E,Aa _,by simp,E,E,E⟩
  .
   have hge:100<=n:=by simp at hc;omega
   refine A6 (nx (D4 0) (A1 ?_));refine A2 E (C2 (cs:=[zu8,zu8,zu8,zu8,zu8,zu8,zu8,zu8,zu8,zu8,zu8,zu8,zu8,zu8,zu8,zu8,zu8,zu8,zu8,zu8,zu8,zu8,zu8,zu8]) kR E λb5=>?_);refine A0 (D0 0 5) ?_;have hnd:=A1v (u:=n) qO;have hnd1:1<=nd10 n:=A4s 64 n;have hlt10:n<10^nd10 n:=A7w 64 n (Nat.lt_trans (show n<18446744073709551616 by omega) qD);refine A0S (M':=[(b5,blk (nums .u8 (List.replicate 24 0)) 278)]) (Ce qR) qI ?_;refine A1 (mv_ ?_);refine lQ_ ((Af (show n<18446744073709551616 by omega))▸B1G E kR) ?_;refine aS_ E (A0 (D6 0 5 6) (A3 (A1 (mV_ E (lQ_ (E8 E E E) (A0 (D7 0 5 6 23) ?_))))));refine C3 E ?_ ?_<;>intro hc
   . exfalso;simp at hc;omega
   .
    refine A6 (nx (D6 0 5 6) (A1 (mv_ ?_)));refine E6 (aS E a0) kR (A2a n qO qO _ (mA h4)) E ?_;refine as_ (A0 (D7 0 5 6 7) (A1 (mv_ ?_)));refine lQ_ (K5 (a:=1) E E E E qO) ?_;refine lQ_ (A8E (sz:=1) (n:=24) (e:=5) 1 (1+nd10 n) E kR kR E E E E qO qO qO) ?_;refine mv_ ?_;refine A2 E (B1Y (Mc:=[(b5,blk (nums .u8 (List.replicate 24 0)) 278)]) (aS E (aS E a0)) kR (A7B b5 (0+1*1) (1+nd10 n-1) (24-1) n (List.replicate 24 0) _ qO qO (by simp;omega) (by rw [Nat.add_sub_cancel_left];exact hlt10) qO _) qP E ?_);rintro r32 M32 J32 ⟨rfl,rfl⟩;rw [Nat.add_sub_cancel_left];dsimp only [Cu,Ct];refine A0 (D6 0 5 7) (A3 (A1 (mV_ E (lQ_ (E8 E E E) (A0 (D6 5 7 34) ?_)))));refine C3 E ?_ ?_<;>intro hc
    . exfalso;simp at hc;omega
    . refine A6 (nx (D0 5 7) (A1 (mv_ ?_)));refine lQ_ (K5 (a:=1) E E E E qO) ?_;refine lQ_ (A8E (sz:=1) (n:=24) (e:=5) 1 (1+nd10 n) E kR kR E E E E qO qO qO) ?_;refine lQ_ (A4j (ws:=dec n) (n:=1+nd10 n-1) (A0C (Rd.mid (o:=0+1*1) (n:=1+nd10 n-1) (cap:=24-1) Cc (by rw [nums_len,A4u hnd];omega) qO) E (by rw [A9z,Nat.add_sub_cancel_left,show 0+1*1=1 from rfl,B97 hnd])) E kR) ?_;refine as_ (A0 (D4 4) (A9 (tr ?_)));exact ⟨_,[],[],H8 E E,Aa _,by simp,E,E,E⟩
 .
  obtain ⟨n,hn0,rfl⟩:∃n:Nat,0<n∧i = -(n:Int):=⟨i.natAbs,by simp at hb;omega,by simp at hb;omega⟩
  clear hb;rw [show A18 (-(n:Int))=45::dec n by simp [A18];omega];refine K0 E E E E ?_;refine K0 E E E E ?_;refine lQ_ (E3 E E) (A0 (D0 0 17) ?_);refine C7 E ?_;refine A6 (nx (D4 0) (A1 ?_));refine A2 E (C2 (cs:=[zu8,zu8,zu8,zu8,zu8,zu8,zu8,zu8,zu8,zu8,zu8,zu8,zu8,zu8,zu8,zu8,zu8,zu8,zu8,zu8,zu8,zu8,zu8,zu8]) kR E λb5=>?_);refine A0 (D0 0 5) ?_;have hnd:=A1v (u:=n) qO;have hnd1:1<=nd10 n:=A4s 64 n;have hlt10:n<10^nd10 n:=A7w 64 n (Nat.lt_trans (show n<18446744073709551616 by omega) qD);refine A0S (M':=[(b5,blk (nums .u8 (List.replicate 24 0)) 278)]) (Ce qR) qI ?_;refine A1 (mv_ ?_);refine lQ_ (B6y hn0 qO▸B8v (k':=.u64) E kR) ?_;refine aS_ E (A0 (D6 0 5 6) (A3 (A1 (mV_ E (lQ_ (E8 E E E) (A0 (D7 0 5 6 23) ?_))))));refine C3 E ?_ ?_<;>intro hc
  .
   refine C1 (mv_ ?_);refine lQ_ (B2h hn0 qO▸C4L E) ?_;refine as_ (A0 (D6 0 5 6) (A1 (mv_ ?_)));refine E6 (aS E a0) kR (A2a n qO qO _ (mA h4)) E ?_;refine as_ (A0 (D7 0 5 6 7) (A1 (mv_ ?_)));refine lQ_ (K5 (a:=1) E E E E qO) ?_;refine lQ_ (A8E (sz:=1) (n:=24) (e:=5) 1 (1+nd10 n) E kR kR E E E E qO qO qO) ?_;refine mv_ ?_;refine A2 E (B1Y (Mc:=[(b5,blk (nums .u8 (List.replicate 24 0)) 278)]) (aS E (aS E a0)) kR (A7B b5 (0+1*1) (1+nd10 n-1) (24-1) n (List.replicate 24 0) _ qO qO (by simp;omega) (by rw [Nat.add_sub_cancel_left];exact hlt10) qO _) qP E ?_);rintro r32 M32 J32 ⟨rfl,rfl⟩;rw [Nat.add_sub_cancel_left];dsimp only [Cu,Ct];refine A0 (D6 0 5 7) (A3 (A1 (mV_ E (lQ_ (E8 E E E) (A0 (D6 5 7 34) ?_)))));refine C3 E ?_ ?_<;>intro hc
   . refine A1 (lQ_ (qi_ 0 5 24 1 0) ?_);refine A2 E (K6 0 E E kR E (by rw [A4u hnd];omega) Cs ?_);refine A0 (D0 5 7) (A1 (mv_ ?_));refine lQ_ (K5 (a:=1) E E E E qO) ?_;refine lQ_ (B90 (sz:=1) (n:=24) (e:=5) (1+nd10 n) E kR kR E E qO) ?_;refine lQ_ (A4j (ws:=45::dec n) (n:=1+nd10 n) (A0C (Rd.mid (o:=0) (n:=1+nd10 n) (cap:=24) Cc (by rw [nums_len,Bk,A4u hnd];omega) qO) E (by rw [A9z,List.drop_zero,B98 hnd])) E kR) ?_;refine as_ (A0 (D4 4) (A9 (tr (tr ?_))));exact ⟨_,[],[],H8 E E,Aa _,by simp,E,E,E⟩
   . exfalso;simp at hc;omega
  . exfalso;simp at hc;omega
theorem B0J(i:Int)(hmin:-9223372036854775808<=i)(hmax:i<=9223372036854775807)(A:Mem)(h4:(4,Obj.cells (nums .u64 A0G).toArray e4 f4)∈A):FnV prog 134 [.int .i64 i] A (.string (txt (A18 i))):=by refine Ck (N:=5) func134 E E E λw=>?_;refine A8 (D4 0) (A1 (as_ (A0 (D4 0) (A1 (mv_ ?_)))));refine E6 (aS E (aS E a0)) kR (A5i i hmin hmax _ (mA h4)) E ?_;refine as_ (A0 (D4 2) (A9 ?_));exact ⟨_,[],[],H8 E E,Aa _,by simp,E,E,E⟩
theorem A1y(i:Int)(hmin:-9223372036854775808<=i)(hmax:i<=9223372036854775807)(A:Mem)(h4:(4,Obj.cells (nums .u64 A0G).toArray e4 f4)∈A):FnV prog 101 [.int .i64 i] A (.string (txt (A18 i))):=by refine Ck (N:=5) func101 E E E λw=>?_;refine A8 (D4 0) (A1 (as_ (A0 (D4 0) (A1 (mv_ ?_)))));refine E6 (aS E a0) kR (B0J i hmin hmax _ (mA h4)) E ?_;refine as_ (A0 (D4 2) (A9 ?_));exact ⟨_,[],[],H8 E E,Aa _,by simp,E,E,E⟩

theorem B0K(l:LN)(r:LN):dv l<=dv (l++r):=by
  have key:∀(r:LN) (a:Nat),a<=r.foldl (λa c=>a*10+(c-48)) a:=by
    intro r
    induction r with
    | nil=>intro a;exact Av _
    | cons c r ih=>intro a;exact Az (show a<=a*10+(c-48) by omega) (ih _)
  unfold dv;rw [List.foldl_append];exact key r _
theorem A7D{l:LN}{i:Nat}(h:i<l.length):dv (l.take (i+1))=dv (l.take i)*10+(l.getD i 0-48):=by rw [Bh,Ab h];simp only [Option.toList_some,B8H,List.getD,List.getElem?_eq_getElem h,Option.getD_some]
theorem A5A(l:LN)(i:Nat):dv (l.take i)<=dv l:=by
  conv=>rhs;rw [<- List.take_append_drop i l]
  exact B0K _ _
theorem A7E{l:LN}{i:Nat}(h:i<l.length):l.getD i 0∈l:=by simp [List.getD,List.getElem?_eq_getElem h]
instance B256.dec{u:Nat}:B256 (dec u):=⟨λx h=>by have:=A1x h;omega⟩
theorem B99(h:m<1000000000000000000):0<nd10 m∧nd10 m<19:=by
  refine ⟨A4s 64 m,?_⟩;by_cases h10:10<=m
  . have h3:10^(nd10 m-1)<=m:=A9w 64 m h10;have:10^(nd10 m-1)<10^18:=Be h3 h;have:=(Nat.pow_lt_pow_iff_right (by decide:1<10)).1 this;omega
  . have hd:nd10 m=1:=by unfold nd10 ndF;rw [if_pos qO]
    omega
theorem B0L(m:Nat)(hm:m<1000000000000000000)(A:Mem):FnV prog 162 [.string (txt (dec m))] A (.tuple #[.int .i64 (m:Int),.nilIface]):=by
 refine Ck (N:=77) func162 E E E λw=>?_;refine A8 (D4 0) (A1 (aS_ E (aS_ E (A0 (D4 0) (A1 (mV_ E (lQ_ (A5w E E kR) (as_ (A0 (D0 0 4) (A3 ?_))))))))));obtain ⟨hn0,hn18⟩:=B99 hm;have hdl:=A2l m;have hb:∀i,i<(dec m).length->48<=(dec m).getD i 0∧(dec m).getD i 0<58:=λi hi=>A1x (A7E hi);have hb0:=hb 0 qO;refine A1 (mv_ ?_);refine K0 E E E E ?_;refine K0 E E E E ?_;refine K0 E E E E ?_;refine B5T E E E ?_;refine B5T E E E ?_;refine K0 E E E E ?_;refine lQ_ (E3 E E) (mv_ ?_);refine F4 E E (Cn qm_ E ?_);refine F4 E E (Cn qm_ E ?_);refine F4 E E (Cn (F5 true E E (ltT qO)) E ?_);refine F4 E E (Cn qm_ E ?_);refine F4 E E (Cn qm_ E ?_);refine F4 E E (Cn (F5 true E E (ltT qO)) E ?_);refine F4 E E (Cn (G4 E E) E ?_);refine F4 E E (Cn (G4 E E) E ?_);refine lQ_ (E3 E E) (A0 (D0 0 30) ?_);refine D9 E ?_;refine A1 (mv_ (as_ (A0 (D0 0 5) (A3 (A1 (mv_ ?_))))));refine lQ_ (A7v (a:=0) E E B256.lt E kR E qO) ?_;refine lQ_ (F5 false E E (eqF qO)) ?_;refine mv_ ?_;refine F4 E E (Cn qm_ E ?_);refine F4 E E (Cn (A7v (a:=0) E E B256.lt E kR E qO) E ?_);refine F4 E E (Cn (F5 false E E (eqF qO)) E ?_);refine lQ_ (E3 E E) (A0 (D6 0 5 39) ?_);refine C7 E ?_;refine A6 (nx (D0 0 5) (A1 (as_ (A0 (D6 0 5 6) (A3 (A1 (mv_ ?_)))))));refine A2 E (A0V (e:=5) E E B256.lt kR kR kR E λv47 B47 hs47=>?_);refine lQ_ (G2 (sz:=1) E kR (by first|assumption|exact Sl.rd (by assumption) qI|exact By.rd (by assumption))) ?_;refine mv_ (A0 (F2 5 6 47 48 49) (A7 ?_));refine E5 (α:=Nat) (λi=>[(5,.string (txt (dec m))),(6,(vI (dv ((dec m).take i)))),(47,v47),(48,(vI ((dec m).length))),(49,.int .i64 (i:Int))]) (λ_=>B47) (λ_=>[]) (λi=>i<=(dec m).length) (λi=>(dec m).length-i) 0 (Am _) (F2 5 6 47 48 49) (Ce qM) qI ?_;rintro i hi;have hle:=A5A (dec m) i;rw [A1w qO] at hle;refine A1 (lQ_ (E8 E E E) (A0 (G7 5 6 47 48 49 50) (A3 ?_)));refine C3 E ?_ ?_<;>intro hc
 .
  have hlt:i<(dec m).length:=by simp at hc;omega
  have hbi:=hb i hlt;have hds:=A7D hlt;have hle2:=A5A (dec m) (i+1);rw [A1w qO,hds] at hle2;refine A6 (nx (F2 5 6 47 48 49) (A3 (A7 (A1 ?_))));refine lQ_ (H2 (sz:=1) E E kR E (by first|assumption|exact Sl.rd (by assumption) qI|exact By.rd (by assumption)) qO) ?_;refine lQ_ (A0O (k:=.u8) E kR (by first|exact Rd.mono (by assumption) qS|exact Sl.rd (by assumption) qS|exact Rd.mono (By.rd (by assumption)) qS) qO) ?_;refine as_ (A0 (G7 5 6 8 47 48 49) (A1 (mv_ ?_)));refine lQ_ (A2P 256 (b:=48) E E E E E E qO) ?_;rw [show ((dec m).getD i 0+(256-48))%256=(dec m).getD i 0-48 by omega];refine as_ (A0 (G7 5 6 8 47 48 49) (A3 (A1 (mv_ ?_))));refine lQ_ (F5 false E E (gtF qO)) ?_;refine A0 (N9 5 6 8 47 48 49 56) ?_;refine C7 E ?_;refine A6 (nx (G7 5 6 8 47 48 49) (C1 (mv_ ?_)));refine lQ_ (A1g (b:=10) E E E E qO) ?_;refine mv_ ?_;refine lQ_ (A14 (k':=.i64) E kR (by show _<9223372036854775808;omega)) ?_;refine lQ_ (K5 E E E E qO) ?_;refine as_ (C5 (nb (nx (F2 5 6 47 48 49) (C1 ?_))));refine lQ_ (K5 (b:=1) E E E E qO) ?_;refine mv_ (C5 ?_);exact rn (i+1) qO qO (kq 5 (kp 6 (by rw [hds];rfl) (D6 47 48 49))) (Ce qM) qI
 .
  have hge:i=(dec m).length:=by simp at hc;omega
  subst hge;rw [List.take_length,A1w qO];refine D8 (te (re (be E (nx (D0 5 6) (A3 (A1 (mv_ ?_)))))));refine lQ_ (A7v (a:=0) E E B256.lt E kR E qO) ?_;refine lQ_ (F5 false E E (eqF qO)) ?_;refine A0 (D0 6 66) ?_;refine C7 E ?_;refine A6 (nx (D4 6) (A1 (mv_ (as_ (as_ (A0 (D0 2 3) (A9 (tr ?_))))))));exact ⟨_,[],[],A1Z E E E,Aa _,by simp,E,E,E⟩
theorem B2i(m:Nat)(hm:m<1000000000000000000)(A:Mem):FnV prog 133 [.string (txt (dec m))] A (.tuple #[.int .i64 (m:Int),.nilIface]):=by refine Ck (N:=18) func133 E E E λw=>?_;refine A8 (D4 0) (A1 (as_ (as_ (A0 (D4 0) (A1 (mv_ ?_))))));refine E6 (aS E a0) kR (B0L m hm _) E ?_;refine mV_ E (lQ_ (Z9 E) (lQ_ (Z5 E) (aS_ E (aS_ E (A0 (D6 0 4 5) (A3 (A1 (mV_ E (lQ_ (B2c E kR) (A0 (D7 0 4 5 12) ?_))))))))));refine C7 E ?_;refine A6 (nx (D4 4) (A1 (mv_ (as_ (as_ (A0 (D0 2 3) (A9 ?_)))))));exact ⟨_,[],[],A1Z E E E,Aa _,by simp,E,E,E⟩
def mark(p:LN):LN:=dec p.length++58::p
def A1h(l:List (LN)):LN:=l.flatMap mark
theorem A1P(p:LN)(h:p.length<18446744073709551616):(mark p).length<=p.length+21:=by have:=A1v h;simp [mark,A2l];omega
instance B256.mark{p:LN}[h:B256 p]:B256 (mark p):=by unfold Go.Proofs.YtglbhoeolghndaaGreatDoor.mark;exact @B256.app _ _ _ (B256.cons qD h)
theorem A2Q(v:Value)(p:LN)(A:Mem)(hp:Rd A 1 v p.length (nums .u8 p))[hb:B256 p](hl:p.length<=1099511627776)(h4:(4,Obj.cells (nums .u64 A0G).toArray e4 f4)∈A):FnV prog 81 [v] A (.string (txt (mark p))):=by have hdl:=A2l p.length;have hd20:=A1v (u:=p.length) qO;refine Ck (N:=10) func81 E E E λw=>?_;refine A8 (D4 0) (A1 (as_ (A0 (D4 0) ?_)));refine C8 (.range 8) [(0,0),(1,0),(4,0),(5,1),(2,2),(3,0),(6,0),(7,0)] kR kR λhs=>?_;refine fm_ ?_;refine fQ_ E (G2 (sz:=1) E kR hp) ?_;refine fm_ ?_;refine fR_ E (L3 E kR (by first|exact Rd.mono (by assumption) qS|exact Sl.rd (by assumption) qS|exact Rd.mono (By.rd (by assumption)) qS)) ?_;refine N4 E (aS E a0) kR (A1y (p.length:Int) qO qO _ (mA h4)) E ?_;rw [show A18 ((p.length:Nat):Int)=dec p.length by simp [A18]];refine fQ_ E (A17 (ws':=[58]) E E E kR (by first|omega|(simp only [List.length_append,List.length_cons,List.length_nil,List.length_take,List.length_drop];omega))) ?_;refine fQ_ E (A17 E E E E (by first|omega|(simp only [List.length_append,List.length_cons,List.length_nil,List.length_take,List.length_drop];omega))) ?_;refine fA_ E E (E0 (D4 2) (A9 ?_));exact ⟨_,[],[],H8 E E,Aa _,by simp,by simp [mark],E,E⟩
theorem A5B(p:LN)(l:List (LN)):A1h (p::l)=dec p.length++58::(p++A1h l):=by simp [A1h,mark]
theorem B0M{p R s:LN}(h:s=dec p.length++58::(p++R)):s.length=(dec p.length).length+1+p.length+R.length∧s.getD (dec p.length).length 0=58∧(∀k,k<(dec p.length).length->s.getD k 0≠58)∧s.take (dec p.length).length=dec p.length∧(s.take ((dec p.length).length+1+p.length)).drop ((dec p.length).length+1)=p∧s.drop ((dec p.length).length+1+p.length)=R:=by
  have e:s=(dec p.length++[58]++p)++R:=by rw [h];simp
  have e2:(dec p.length++[58]++p).length=(dec p.length).length+1+p.length:=by simp;omega
  refine ⟨?_,?_,?_,?_,?_,?_⟩
  . rw [e];simp;omega
  . rw [h];simp [List.getD]
  . intro k hk;have:s.getD k 0=(dec p.length).getD k 0:=by rw [h];simp only [List.getD];rw [Ak hk]
    rw [this];have:=A1x (A7E hk);omega
  . rw [h];simp
  . rw [e,<- e2,List.take_left,show (dec p.length).length+1=(dec p.length++[58]).length by simp,List.drop_left]
  . rw [e,<- e2,List.drop_left]
def C2J(l:List (LN)):List Value:=l.map λp=>.string (txt p)
theorem B0N(l:List (LN))(hb:B256 (A1h l))(hl:(A1h l).length<=1099511627776)(A:Mem)(h4:(4,Obj.cells (nums .u64 A0G).toArray e4 f4)∈A):FnX prog 98 [.string (txt (A1h l))] [] A λr M J=>J=[]∧∃v,r=.tuple #[v,P0]∧Sl 1 v l.length (C2J l) M:=by
 refine Ck (N:=77) func98 E E E λw=>?_;refine A8 (D4 0) (A1 (aS_ E (aS_ E (A0 (D4 0) (A1 (aS_ E (A0 (D0 0 4) (A3 (A7 ?_)))))))));refine E5 (α:=Nat×Value×Mem) (λx=>[(0,.string (txt (A1h (l.drop x.1)))),(4,x.2.1)]) (λx=>x.2.2) (λ_=>[]) (λx=>x.1<=l.length∧Sl 1 x.2.1 x.1 (C2J (l.take x.1)) x.2.2∧B256 (A1h (l.drop x.1))∧(A1h (l.drop x.1)).length+x.1<=1099511627776) (λx=>l.length-x.1) (0,vS,[]) ⟨Am _,Sl.nil,hb,hl⟩ (D0 0 4) .rfl qI ?_;rintro ⟨j,v,B⟩ ⟨hj,hsl,hbs,hml⟩;dsimp only at hj hsl hbs hml ⊢;refine A3 (A1 (mV_ E (lQ_ (A5w E E kR) (lQ_ (E8 E E E) (A0 (D6 0 4 10) ?_)))));refine C3 E ?_ ?_<;>intro hc
 .
  have hlt:j<l.length:=by
   rcases Nat.lt_or_ge j l.length with h|h
   . exact h
   . rw [List.drop_eq_nil_of_le h] at hc;simp [A1h] at hc
  obtain ⟨p,hp⟩:∃p,p=l[j]:=⟨_,E⟩
  have hdr:l.drop j=p::l.drop (j+1):=by rw [hp];exact Br hlt
  obtain ⟨f1,f2,f3,f4,f5,f6⟩:=B0M (A5B p (l.drop (j+1)));rw [<- hdr] at f1 f2 f3 f4 f5 f6;have hbR:B256 (A1h (l.drop (j+1))):=by rw [<- f6];exact B256.drop
  have htk:C2J (l.take (j+1))=C2J (l.take j)++[.string (txt p)]:=by simp only [C2J];rw [Bh,Ab hlt,hp,List.map_append];rfl
  generalize A1h (l.drop j)=s at *;refine A6 (nx (D0 0 4) (A7 (A1 (as_ (A0 (D6 0 4 5) (A3 (A7 ?_)))))));refine E5 (α:=Nat) (λk=>[(0,.string (txt s)),(4,v),(5,.int .i64 (k:Int))]) (λ_=>B) (λ_=>[]) (λk=>k<=(dec p.length).length) (λk=>(dec p.length).length-k) 0 (Am _) (D6 0 4 5) .rfl qI ?_;rintro k hk;refine A3 ?_;by_cases hkl:k<(dec p.length).length
  . refine A1 (mV_ E (mV_ E (lQ_ (A5w E E kR) ?_)));refine lQ_ (F5 true E E (ltT qO)) ?_;refine mv_ ?_;refine F4 E E (Cn qm_ E ?_);refine F4 E E (Cn qm_ E ?_);refine F4 E E (Cn (A7v E E B256.lt E kR E qO) E ?_);refine F4 E E (Cn (F5 true E E (neT (by have:=f3 k hkl;omega))) E ?_);refine lQ_ (G4 E E) (A0 (D7 0 4 5 20) ?_);refine D9 E ?_;refine A6 (nx (D6 0 4 5) (A7 (C1 (mv_ ?_))));refine lQ_ (K5 (b:=1) E E E E qO) ?_;refine as_ (C5 (nb ?_));exact rn (k+1) qO qO (D6 0 4 5) .rfl qI
  .
   obtain rfl:k=(dec p.length).length:=by omega
   refine A1 (mV_ E (mV_ E (lQ_ (A5w E E kR) ?_)));refine lQ_ (F5 true E E (ltT qO)) ?_;refine mv_ ?_;refine F4 E E (Cn qm_ E ?_);refine F4 E E (Cn qm_ E ?_);refine F4 E E (Cn (A7v E E B256.lt E kR E qO) E ?_);refine F4 E E (Cn (F5 false E E (neF (by rw [f2];rfl))) E ?_);refine lQ_ (G4 E E) (A0 (D7 0 4 5 20) ?_);refine C7 E ?_;refine D8 (te (re (be E (nx (D6 0 4 5) (A1 (mv_ (mv_ ?_)))))));refine lQ_ (C2F E E E kR E (by first|omega|(simp only [List.length_append,List.length_cons,List.length_nil,List.length_take,List.length_drop];omega))) ?_;rw [f4];refine E6 (aS E a0) kR (B2i p.length qO _) E ?_;refine mV_ E (lQ_ (Z9 E) (lQ_ (Z5 E) (as_ (as_ (A0 (F2 0 4 5 6 7) (A3 ?_))))));refine C8 (.range 29) [(0,0),(1,0),(2,0),(3,0),(5,0),(6,0),(7,0),(4,2),(8,0),(9,0),(10,0),(11,0),(12,0),(13,0),(14,0),(15,0),(16,0),(17,0),(18,0),(19,0),(20,0),(21,0),(22,0),(23,0),(24,0),(25,0),(26,0),(27,0),(28,0)] kR kR λhs=>?_;refine fM_ E E (fQ_ E (B2c E kR) (fM_ E E (fG_ E qm_ (fG_ E qm_ (fG_ E qm_ ?_)))));refine fG_ E (C2F E E E kR E (by first|omega|(simp only [List.length_append,List.length_cons,List.length_nil,List.length_take,List.length_drop];omega))) ?_;rw [f4];refine A2K E E E E (aS E a0) kR (A1y (p.length:Int) qO qO _ (mA h4)) E ?_;rw [show A18 ((p.length:Nat):Int)=dec p.length by simp [A18]];refine fG_ E ((show (!decide (dec p.length=dec p.length))=false by simp)▸A8G E E E E B256.lt B256.lt) ?_;refine fQ_ E (E3 E E) (fM_ E E (fG_ E qm_ ?_));refine fG_ E (F5 false E E (ltF qO)) ?_;refine fQ_ E (E3 E E) (fM_ E E (fG_ E qm_ (fG_ E qm_ (fG_ E (A5w E E kR) ?_))));refine fG_ E (F5 false E E (eqF qO)) ?_;refine fQ_ E (E3 E E) (fM_ E E (fG_ E qm_ (fG_ E qm_ (fG_ E (A5w E E kR) (fG_ E qm_ ?_)))));refine fG_ E (Q7 E E E E qO qO) ?_;refine fG_ E (Q7 (b:=1) E E E E qO qO) ?_;refine fG_ E (F5 false E E (gtF qO)) ?_;refine fQ_ E (E3 E E) (E0 (F2 0 4 5 6 58) ?_);refine C7 E ?_;refine A6 (nx (D7 0 4 5 6) ?_);refine H3 [0,1,2,3,4,5,6,7,8,9,11,12,13,14,15,16,17,18] [(0,0),(1,0),(2,0),(3,0),(4,0),(5,0),(6,0),(7,0),(8,0),(11,0),(12,0),(13,0),(14,0),(15,0),(16,0),(9,2),(10,2),(17,0),(18,0)] kR kR λhs=>?_;refine fM_ E E (fM_ E E (fm_ ?_));refine fQ_ E (K5 (b:=1) E E E E qO) ?_;refine fm_ ?_;refine fQ_ E (K5 (b:=1) E E E E qO) ?_;refine fm_ ?_;refine fQ_ E (K5 E E E E qO) ?_;refine fQ_ E (B93 E E E E kR E E qO (by first|omega|(simp only [List.length_append,List.length_cons,List.length_nil,List.length_take,List.length_drop];omega))) ?_;rw [f5];refine fM_ E E (fm_ ?_);refine fQ_ E (K5 (b:=1) E E E E qO) ?_;refine fm_ ?_;refine fQ_ E (K5 E E E E qO) ?_;refine fQ_ E (C40 E E E kR E (by first|omega|(simp only [List.length_append,List.length_cons,List.length_nil,List.length_take,List.length_drop];omega))) ?_;rw [f6]
   refine B6n E E λ_=>(C4 (e:=9) (sz:=1) (z:=[.string ByteArray.empty]) kR (eS E e0) (bdS 0 1 E qR bd0) E λb68=>?_)
   refine G1 E E E (H4 (e:=9) (sz:=1) (by_:=16) E E kR E (by first|assumption|exact Sl.nil) (Co (n:=1) Cc qR) (by first|(simp [Value.oneCell'];done)|(intro c hc;simp only [List.mem_singleton] at hc;subst hc;first|exact Rd.one (by assumption)|exact Sl.one (by assumption))) qP (by unfold maxLen;omega) qO E λv69 B69 hs69=>?_);refine fA_ E E (fA_ E E (R7 (nb ?_)));exact rn (j+1,v69,B69) ⟨by dsimp only;omega,by dsimp only;rw [htk];exact hs69,hbR,by dsimp only;omega⟩ (by dsimp only;omega) (D0 0 4) (Ci (Ay _ _)) qI
 .
  have hge:j=l.length:=by
   rcases Nat.lt_or_ge j l.length with h|h
   . rw [Br h,A5B] at hc;simp at hc;omega
   . omega
  subst hge;rw [List.take_length] at hsl;refine D8 (te (re (be E (nx (D4 4) (A1 (mV_ E (aS_ E (aS_ E (A0 (D0 2 3) (A9 ?_))))))))));exact ⟨_,B,[],A1Z E E E,Ao _,by simp,E,v,E,hsl⟩

end Go.Proofs.YtglbhoeolghndaaGreatDoor
namespace Go.Px
def A4v:List ByteArray->Nat->List MapEntry
  | [],_=>[]
  | k::ks,i=>⟨.string k,.int .i64 (i:Int),i⟩::A4v ks (i+1)
theorem A6l:∀(ks:List ByteArray) (i:Nat),(A4v ks i).length=ks.length
  | [],_=>rfl
  | k::ks,i=>by simp [A4v,A6l ks]
theorem A9A:∀(ks:List ByteArray) (s:ByteArray) (i:Nat),A4v (ks++[s]) i=A4v ks i++[⟨.string s,.int .i64 ((i+ks.length:Nat):Int),i+ks.length⟩]
  | [],s,i=>by simp [A4v]
  | k::ks,s,i=>by simp only [Cu,A4v,A9A ks s (i+1),List.length_cons];rw [show i+1+ks.length=i+(ks.length+1) by omega]
def A0f(s:ByteArray):List ByteArray->Nat->Option Nat
  | [],_=>none
  | k::ks,i=>if s==k then some i else A0f s ks (i+1)
theorem A7F(s:ByteArray):∀(ks:List ByteArray) (i j:Nat),Instr.findNow .string (.string s) (A4v ks i) j=some ((A0f s ks i).map λq=>(q-i+j,.int .i64 (q:Int)))
  | [],i,j=>rfl
  | k::ks,i,j=>by
    unfold A4v Instr.findNow A0f;simp only [Instr.sameNow];by_cases h:s==k
    . simp [h]
    . simp only [Bool.not_eq_true] at h;simp only [h,Bool.false_eq_true,if_false];rw [A7F s ks (i+1) (j+1)]
      have hge:∀(ks:List ByteArray) (i q:Nat),A0f s ks i=some q->i<=q:=by
        intro ks
        induction ks with
        | nil=>intro i q h;cases h
        | cons k ks ih =>
          intro i q h;unfold A0f at h;split at h
          . cases h;exact Av _
          . have:=ih _ _ h;omega
      cases hl:A0f s ks (i+1) with
      | none=>rfl
      | some q =>
        have:=hge _ _ _ hl;simp only [Option.map_some];congr 3;omega
theorem C0a{a b:ByteArray}:(a==b)=true↔a=b:=by
  rcases a with ⟨a⟩;rcases b with ⟨b⟩
  show (a==b)=true↔_;simp
theorem A5C{s:ByteArray}:∀ {ks:List ByteArray} {i:Nat},A0f s ks i=none↔s∉ks
  | [],i=>by simp [A0f]
  | k::ks,i=>by
    unfold A0f;by_cases h:s=k
    . rw [if_pos (C0a.2 h)];simp [h]
    . rw [if_neg (λe=>h (C0a.1 e)),A5C (ks:=ks) (i:=i+1)];simp [h]
theorem A5D{s:ByteArray}:∀ {ks:List ByteArray} {i q:Nat},A0f s ks i=some q->i<=q∧ks[q-i]? = some s
  | [],i,q,h=>by cases h
  | k::ks,i,q,h=>by
    unfold A0f at h;split at h
    . rename_i he;cases h;have:=C0a.1 he;simp [this]
    . obtain ⟨h1,h2⟩:=A5D h;refine ⟨by omega,?_⟩;rw [show q-i=(q-(i+1))+1 by omega];simpa using h2
variable{w:World}
section
variable{P:Program}{R:Mem}{l:Env}{d:Option Nat}{ty t kt et:TypeId}{pos:String}{af:Array Edge}{g:Option (Nat×Bool)}{x y z:Operand}{b c:Nat}{s:ByteArray}{ks:List ByteArray}
theorem A9B{em:Bool}(hk:P.underlying kt=some .string):(Instr.checkKey em 10000 kt (.string s)).run P w=.ok () w:=by unfold Instr.checkKey;simp only [Sem.run_bind,run_underlying hk,Result.andThen_ok];rfl
theorem B2j(hk:P.underlying kt=some .string):(Instr.findKey kt (.string s) (A4v ks 0)).run P w=.ok ((A0f s ks 0).map λq=>(q,.int .i64 (q:Int))) w:=by unfold Instr.findKey;simp only [Sem.run_bind,run_underlying hk,Result.andThen_ok,A7F];cases A0f s ks 0<;>simp
theorem C0b(hx:ev l x=some (.map (some b)))(hy:ev l y=some (.string s))(hu:P.underlying t=some (.map kt et))(hk:P.underlying kt=some .string)(hz:∀w,(zeroValue et).run P w=.ok (.int .i64 0) w)
    (hb:(b,Obj.map (A4v ks 0).toArray c)∈R):OpQ P R ⟨d,.lookup t x y true,ty,pos,af,g⟩ l (.tuple #[(vI ((A0f s ks 0).getD 0)),.bool (A0f s ks 0).isSome]):=λN a w ha hw=>by
  have hm:(getObj b).run P w=.ok (.map (A4v ks 0).toArray c) w:=by simp [getObj,Sem.run,hw _ _ hb]
  simp only [execOp,ha.ev hx,ha.ev hy,Instr.lookup,Sem.run_bind,run_underlying hu,Result.andThen_ok,hm,Sem.run_pure,A9B hk];rw [B2j hk];cases A0f s ks 0<;>simp [hz]
end
variable{M':Mem}
section
variable{C:Cx}{l:Env}{M J:Mem}{K:Env->Mem->Mem->Prop}{d:Nat}{ty t kt et:TypeId}{pos:String}{af:Array Edge}{g:Option (Nat×Bool)}{x y z:Operand}{b:Nat}{s:ByteArray}{ks:List ByteArray}
theorem B2k(hd:Nat.blt d C.N=true)(k:∀b,K ((d,.map (some b))::l) ((b,.map (A4v [] 0).toArray 0)::M) J):OpL C ⟨some d,.makeMap t none,ty,pos,af,g⟩ l M J K:=by intro Qp a w ha hw;unfold Oper.wp;simp only [execOp,Option.map_none,RowKit.run_makeMap];exact ⟨_,_,J,ha.put (P1 hd) _,hw.alloc _,k _⟩
def A6m(ks:List ByteArray)(s:ByteArray):List MapEntry:=A4v ks 0++[{ key:=.string s,val:=.int .i64 0,born:=ks.length }]
theorem B0O(hx:ev l x=some (.map (some b)))(hy:ev l y=some (.string s))(hu:C.P.underlying t=some (.map kt et))(hk:C.P.underlying kt=some .string)(hz:∀w,(zeroValue et).run C.P w=.ok (.int .i64 0) w)(hn:A0f s ks 0=none)(hd:Nat.blt d C.N=true)
    (hM:Upd M b (.map (A4v ks 0).toArray ks.length) (.map (A6m ks s).toArray (ks.length+1)) M') (k:K ((d,.tuple #[P0,.int .i64 (ks.length:Int)])::l) M' J):OpL C ⟨some d,.mapEntry t x y,ty,pos,af,g⟩ l M J K:=by
  intro Qp a w ha hw;have hm:=hw.mem _ _ (Ae _ hM.mem)
  have hst:(Instr.mapEntry t (.map (some b)) (.string s)).run C.P w=.ok (.tuple #[P0,.int .i64 (ks.length:Int)]) { w with heap:=w.heap.setIfInBounds b (.map (A6m ks s).toArray (ks.length+1)) }:=by
    have hg:(getObj b).run C.P w=.ok (.map (A4v ks 0).toArray ks.length) w:=by simp [getObj,Sem.run,hm]
    have hs:∀o,(setObj b o).run C.P w=.ok () { w with heap:=w.heap.setIfInBounds b o }:=λo=>by simp [setObj,Sem.run,hm]
    simp only [Instr.mapEntry,Sem.run_bind,run_underlying hu,Result.andThen_ok,hg,A9B hk];rw [B2j hk,hn];simp only [Option.map_none,Result.andThen_ok,Sem.run_bind,hz,hs,Sem.run_pure];simp [goInt,A6m]
  unfold Oper.wp;simp only [execOp,ha.ev hx,ha.ev hy,hst,Sem.run_bind,Result.andThen_ok,Sem.run_pure];refine ⟨_,_,J,ha.put (P1 hd) _,hw.upd hM (by simp [T4 hm]) (λk hk=>by simp [Array.getElem?_setIfInBounds,Ne.symm hk]) (by simp) E E E,k⟩
theorem A9C(e:MapEntry):∀(ks:List ByteArray) (i n:Nat),n=i+ks.length->e.born=n->(A4v ks i++[e]).findIdx? (λe=>(e.born:Int)==(n:Int))=some ks.length
  | [],i,n,hn,he=>by simp [A4v,List.findIdx?_cons,he]
  | k::ks,i,n,hn,he=>by simp only [List.length_cons] at hn;rw [A4v,List.cons_append,List.findIdx?_cons,if_neg (by simp;omega),A9C e ks (i+1) n (by omega) he];rfl
theorem A7G(hx:ev l x=some (.map (some b)))(hy:ev l y=some (.int .i64 (ks.length:Int)))(hz:ev l z=some (.int .i64 (ks.length:Int)))
    (hM:Upd M b (.map (A6m ks s).toArray (ks.length+1)) (.map (A4v (ks++[s]) 0).toArray (ks.length+1)) M') (k:K l M' J):OpL C ⟨none,.entryStore t x y z,ty,pos,af,g⟩ l M J K:=by
  intro Qp a w ha hw;have hm:=hw.mem _ _ (Ae _ hM.mem)
  have hst:(Instr.entryStore t (.map (some b)) (.int .i64 (ks.length:Int)) (.int .i64 (ks.length:Int))).run C.P w=.ok () { w with heap:=w.heap.setIfInBounds b (.map (A4v (ks++[s]) 0).toArray (ks.length+1)) }:=by
    have hg:(getObj b).run C.P w=.ok (.map (A6m ks s).toArray (ks.length+1)) w:=by simp [getObj,Sem.run,hm]
    have hs:∀o,(setObj b o).run C.P w=.ok () { w with heap:=w.heap.setIfInBounds b o }:=λo=>by simp [setObj,Sem.run,hm]
    have hi:(A6m ks s).toArray.findIdx? (λe=>(e.born:Int)==(ks.length:Int))=some ks.length:=by rw [List.findIdx?_toArray];unfold A6m;exact A9C _ ks 0 ks.length (by omega) rfl
    have hmod:(A6m ks s).toArray.modify ks.length (λe=>{ e with val:=.int .i64 (ks.length:Int) })=(A4v (ks++[s]) 0).toArray:=by unfold A6m;rw [A9A,Nat.zero_add,List.modify_toArray];congr 1;rw [List.modify_eq_take_cons_drop (by simp [A6l])];simp [A6l,List.getElem_append_right]
    simp only [Instr.entryStore,Sem.run_bind,Result.andThen_ok,hg,asInt,asIntOf,Sem.run_pure,hi,hs,hmod]
  unfold Oper.wp;simp only [execOp,ha.ev hx,ha.ev hy,ha.ev hz,hst,Sem.run_bind,Result.andThen_ok];refine ⟨_,_,J,ha,hw.upd hM (by simp [T4 hm]) (λk hk=>by simp [Array.getElem?_setIfInBounds,Ne.symm hk]) (by simp) E E E,k⟩
end
end Go.Px

namespace Go.Proofs.YtglbhoeolghndaaGreatDoor
open Go.Px
def A13(l:List Int):List Value:=l.map (.int .i64)
abbrev tmc(k:Nat)(vo:Value)(t:LN)(n:Int):List Value:=[.int .u8 (k:Int),vo,.string (txt t),.int .i64 n]

def i64(i:Int):Prop:=-9223372036854775808<=i∧i<=9223372036854775807
structure Tmo(t:Tm):Prop where
  kind:t.kind<256
  n:i64 t.n
  of:∀i∈t.of,i64 i
  ofl:t.of.length<=1048576
  text:B256 t.text
  tl:t.text.length<=1099511627776
theorem Tmo.ok{t:Tm}(h:Tmo t):t.ok:=⟨h.kind,by have:=h.n;unfold i64 at this;omega,λi hi=>by have:=h.of i hi;unfold i64 at this;omega,h.text.lt⟩
theorem A32(l:List Int):(A13 l).length=l.length:=by simp [A13]
theorem B2l(l:List Int):∀c∈A13 l,c.oneCell'=true:=λc hc=>by obtain ⟨i,_,rfl⟩:=List.mem_map.1 hc;rfl
def TmC(R:Mem)(c:List Value)(t:Tm):Prop:=∃vo,c=tmc t.kind vo t.text t.n∧Rd R 1 vo t.of.length (A13 t.of)
theorem TmC.mono{R R':Mem}{c:List Value}{t:Tm}(h:TmC R c t)(hR:∀x,x∈R->x∈R'):TmC R' c t:=by obtain ⟨vo,h1,h2⟩:=h;exact ⟨vo,h1,h2.mono hR⟩
def pre(t:Tm)(i:Nat):LN:=dec t.kind++32::A18 t.n++(t.of.take i).flatMap (λj=>32::A18 j)
variable{t:Tm}
theorem A9D{i:Nat}(h:i<t.of.length):pre t (i+1)=pre t i++(32::A18 t.of[i]):=by unfold pre;rw [Bh,Ab h,List.flatMap_append];simp
theorem B8K(t:Tm):t.nm=pre t t.of.length++58::t.text:=by unfold Tm.nm pre B1n;rw [List.take_length];simp [List.flatMap_map]
theorem C2K(t:Tm)(i:Nat):B256 (pre t i):=⟨λx hx=>by
  unfold pre at hx;simp only [List.mem_append,Cv,List.mem_flatMap] at hx;rcases hx with (hx|hx|hx)|⟨j,_,hx|hx⟩
  . have:=A1x hx;omega
  . omega
  . have:=A6g hx;omega
  . omega
  . have:=A6g hx;omega⟩
theorem B2m{t:Tm}(h:Tmo t):∀i,i<=t.of.length->(pre t i).length<=43+22*i
  | 0,_=>by have a:=A1v (u:=t.kind) (by have:=h.kind;omega);have b:=A31 (i:=t.n) (h.ok.n);simp only [pre,List.take_zero,List.flatMap_nil,List.append_nil,List.length_append,List.length_cons,A2l];omega
  | i+1,hi=>by have a:=B2m h i qO;have b:=A31 (i:=t.of[i]) (h.ok.of _ (List.getElem_mem _));rw [A9D qO,An,List.length_cons];omega
theorem nm_b(h:Tmo t):B256 t.nm:=by rw [B8K];exact @B256.app _ _ (C2K _ _) (B256.cons qD h.text)
def key(t:Tm):ByteArray:=txt t.nm
theorem B2n{s:Tm}(hs:Tmo s)(ht:Tmo t)(h:key s=key t):s=t:=Tm.nm_inj hs.ok ht.ok (A8C (nm_b hs).lt (nm_b ht).lt h)
theorem A9E{ts:List Tm}(ht:Tmo t)(hts:∀t∈ts,Tmo t):(A0f (key t) (ts.map key) 0=none↔t∉ts)∧∀i,A0f (key t) (ts.map key) 0=some i->ts[i]? = some t:=by
  constructor
  . rw [A5C,List.mem_map];constructor
    . exact λh hm=>h ⟨t,hm,E⟩
    . rintro h ⟨s,hs,e⟩;exact h (B2n (hts s hs) ht e▸hs)
  . intro i h;obtain ⟨_,h2⟩:=A5D h;rw [Nat.sub_zero,List.getElem?_map] at h2
    cases h3:ts[i]? with
    | none=>rw [h3] at h2;cases h2
    | some s =>
      rw [h3] at h2;have:=B2n (hts s (As h3)) ht (by simpa using h2);rw [this]
def Tab(bt bm:Nat)(ts:List Tm)(M:Mem):Prop:=∃(v:Value) (rows:List (List Value)) (ks:List ByteArray) (Bl BX:Mem),M=(bt,blk [v,.map (some bm)] 104)::(bm,.map (A4v ks 0).toArray ks.length)::(Bl++BX)∧ks=ts.map key∧Sl 4 v ks.length rows.flatten Bl∧rows.length=ks.length∧(∀r∈rows,r.length=4)∧(∀(j:Nat) (t:Tm),ts[j]? = some t->∃r,rows[j]? = some r∧TmC BX r t)∧(∀t∈ts,Tmo t)∧ts.Nodup
theorem B6z(k:Nat):A18 ((k:Nat):Int)=dec k:=by simp [A18]
theorem A8I(v:Value)(n:Nat)(xs:List Value)(A:Mem)(h:Rd A 1 v n xs)(h1:∀c∈xs,c.oneCell'=true)(hn:n<=1099511627776):FnX prog 70 [v] [] A λr M J=>J=[]∧Rd M 1 r n xs:=by
 haveI:=h.cel;refine Ck (N:=8) func70 E E E λw=>?_;refine A8 (D4 0) (A1 (as_ (A0 (D4 0) (A3 (A1 (mv_ ?_))))));refine lQ_ (A1u (e:=3) E kR (by first|assumption|exact Sl.rd (by assumption) qI|exact By.rd (by assumption))) ?_;refine A0 (D0 0 4) ?_;refine C3 E ?_ ?_<;>intro hc
 . have h0:=h.isNil hc;subst h0;obtain rfl:xs=[]:=Bd (by have:=h.len;omega);refine A1 (as_ (A0 (D4 2) (A9 (tr ?_))));exact ⟨_,[],[],H8 E E,Aa _,by simp,E,Rd.nil⟩
 . refine A6 (nx (D4 0) (A1 ?_));refine A2 E (C4 (e:=3) (sz:=1) (z:=[]) kR e0 bd0 E λb5=>?_);refine mv_ ?_;refine A2 E (H4 (e:=3) (sz:=1) (by_:=8) E E kR E (Sl.fresh (n:=0) (cs:=[]) (e:=3) E qD) (Rd.mono h qS) h1 qP (by unfold maxLen;omega) qO E λv7 B7 hs7=>?_);refine as_ (A0 (D4 2) (A9 ?_));exact ⟨_,B7,[],H8 E E,Ay _ _,by simp,E,A0C (hs7.rd λ_ h=>h) qO qM⟩
theorem A7H(vo:Value)(t:Tm)(A:Mem)(hvo:Rd A 1 vo t.of.length (A13 t.of))(ht:Tmo t){e4:TypeId}{f4:Nat×Nat}(h4:(4,Obj.cells (nums .u64 A0G).toArray e4 f4)∈A):FnV prog 69 [.agg (tmc t.kind vo t.text t.n).toArray] A (.string (key t)):=by
 haveI:=hvo.cel;have hkind:=ht.kind;refine Ck (N:=33) func69 E E E λw=>?_;refine A8 (D4 0) (A1 ?_);refine A2 E (bx_ λb1=>?_);refine as_ (A0 (D4 1) ?_);refine C8 (.range 10) [(0,0),(1,1),(2,0),(5,0),(6,1),(3,2),(4,0),(7,2),(8,0),(9,0)] kR kR λhs=>?_;refine fQ_ E (qf_ 0 0) ?_;refine fR_ E ql_ ?_;refine fQ_ E (A14 (k':=.i64) E kR (by show _<9223372036854775808;have:=ht.kind;omega)) ?_;refine fQ_ E (qf_ 3 3) ?_;refine fR_ E ql_ ?_;refine N4 E (aS E a0) kR (A1y (t.kind:Int) (by have:=ht.kind;omega) (by have:=ht.kind;omega) _ (mA h4)) E ?_;rw [B6z];refine fQ_ E (A17 (ws':=[32]) E E E kR (by simp only [A2l,List.length_cons,List.length_nil];have:=A1v (u:=t.kind) (by have:=ht.kind;omega);omega)) ?_;refine N4 E (aS E a0) kR (A1y t.n ht.n.1 ht.n.2 _ (mA h4)) E ?_;refine fQ_ E (A17 E E E E (by simp only [List.length_append,A2l,List.length_cons,List.length_nil];have:=A1v (u:=t.kind) (by have:=ht.kind;omega);have:=A31 (i:=t.n) ht.ok.n;omega)) ?_;refine fa_ ?_;rw [show dec t.kind++[32]++A18 t.n=pre t 0 by simp [pre]];refine E0 (D0 1 3) (A3 (A1 (lQ_ (qf_ 1 1) ?_)));refine lQ_ ql_ ?_;refine lQ_ (G2 (sz:=1) E kR hvo) ?_;refine mv_ (A0 (F2 1 3 16 17 18) (A7 ?_));refine E5 (α:=Nat) (λi=>[(1,(vP b1)),(3,.string (txt (pre t i))),(16,vo),(17,(vI t.of.length)),(18,.int .i64 (i:Int))]) (λ_=>[(b1,blk (tmc t.kind vo t.text t.n) 111)]) (λ_=>[]) (λi=>i<=t.of.length) (λi=>t.of.length-i) 0 (Am _) (F2 1 3 16 17 18) .rfl qI ?_;rintro i hi;have hpl:=B2m ht i hi;have hofl:=ht.ofl;haveI:=C2K t i;refine A1 (lQ_ (E8 E E E) (A0 (G7 1 3 16 17 18 19) (A3 ?_)));refine C3 E ?_ ?_<;>intro hc
 .
  have hlt:i<t.of.length:=by simp at hc;omega
  have hi64:=ht.of _ (List.getElem_mem hlt);have hdl:=A31 (i:=t.of[i]) (ht.ok.of _ (List.getElem_mem hlt));refine A6 (nx (F2 1 3 16 17 18) (A3 (A7 (A1 ?_))));refine lQ_ (H2 (sz:=1) E E kR E hvo hlt) ?_;refine lQ_ (Z4 (u:=.int .i64 t.of[i]) (Rd.mono hvo qS) E kR (by simp [A13,hlt])) ?_;refine as_ (A0 (G7 1 3 5 16 17 18) (C1 (mv_ (mv_ ?_))));refine E6 (aS E a0) kR (A1y t.of[i] hi64.1 hi64.2 _ (mA h4)) E ?_;refine lQ_ (A17 (ws:=[32]) E E kR E (by simp only [List.length_cons,List.length_nil];omega)) ?_;refine lQ_ (A17 E E E E (by simp only [List.length_cons,List.length_append,List.length_nil];omega)) ?_;refine as_ ?_;rw [show pre t i++([32]++A18 t.of[i])=pre t (i+1) by rw [A9D hlt];rfl];refine C5 (nb (nx (F2 1 3 16 17 18) (C1 ?_)));refine lQ_ (K5 (b:=1) E E E E qO) ?_;refine mv_ (C5 ?_);exact rn (i+1) qO qO (F2 1 3 16 17 18) .rfl qI
 .
  have hge:i=t.of.length:=by simp at hc;omega
  subst hge;refine D8 (te (re (be E (nx (D0 1 3) (A1 (mv_ ?_))))));refine lQ_ (A17 (ws':=[58]) E E E kR (by simp only [List.length_cons,List.length_nil];omega)) ?_;refine lQ_ (qf_ 2 2) ?_;refine lQ_ ql_ ?_;refine lQ_ (A17 E E E E (by simp only [List.length_append,List.length_cons,List.length_nil];have:=ht.tl;omega)) ?_;refine as_ (A0 (D4 2) (A9 ?_));refine ⟨_,[],[],H8 E E,Aa _,by simp,?_,E,E⟩;rw [key,B8K];simp
theorem A7I(A:Mem):FnX prog 15 [] [] A λr M J=>J=[]∧∃bt bm,r=(vP bt)∧Tab bt bm [] M:=by refine Ck (N:=4) func15 E E E λw=>?_;refine A8 kn (A1 (as_ (A0 kn (A1 ?_))));refine A2 E (B2k E λb1=>?_);refine lQ_ (F0 (place:=λx=>#[(0,1),(1,1)][x]?) (z:=[vS,.map none]) (λ_=>by kernel_rfl) (eS E e0) (bdS 1 1 E qR bd0)) ?_;refine A2 E (bx_ λb3=>?_);refine as_ (A0 (D4 0) (A9 ?_));exact ⟨_,[_,_],[],H8 rfl rfl,Ao _,by simp,rfl,b3,b1,rfl,vS,[],[],[],[],rfl,rfl,Sl.nil,rfl,(λr h=>by cases h),(λj t h=>by simp at h),(λt h=>by cases h),List.nodup_nil⟩
theorem B2o(bt bm:Nat)(ts:List Tm)(MT A:Mem)(hT:Tab bt bm ts MT)(hsub:∀x,x∈MT->x∈A):FnV prog 132 [(vP bt)] A (vI ts.length):=by obtain ⟨v,rows,ks,Bl,BX,rfl,hks,hsl,hrl,hr4,hat,hto,hnd⟩:=hT;have hbt:(bt,blk [v,.map (some bm)] 104)∈A:=hsub _ qM;have hrd:=hsl.rd (R:=A) (λx hx=>hsub x (by simp [hx]));refine Ck (N:=10) func132 E E E λw=>?_;refine A8 (D4 0) (A1 (aS_ E (A0 (D4 0) (A3 (A1 (mV_ E (lQ_ (F6 (e:=104) E E kR) (A0 (D0 0 4) ?_))))))));refine C7 E ?_;refine A6 (nx (D4 0) (A1 (mV_ E (lQ_ (E1 E) (lQ_ (qf_ 0 0) ?_)))));refine lQ_ (I0 E kR (mA hbt) qR) ?_;refine lQ_ (G2 (sz:=4) E kR hrd) ?_;refine as_ (A0 (D4 2) (A9 ?_));refine ⟨_,[],[],H8 E E,Aa _,by simp,?_,E,E⟩;rw [hks,List.length_map]
theorem A2R(bt bm:Nat)(ts:List Tm)(i:Int)(MT A:Mem)(hT:Tab bt bm ts MT)(hsub:∀x,x∈MT->x∈A):FnX prog 97 [(vP bt),.int .i64 i] [] A λr M J=>M=[]∧J=[]∧∃c ok,r=.tuple #[.agg (List.toArray c),.bool ok]∧((0<=i∧i<(ts.length:Int))->ok=true∧∃t,ts[i.toNat]? = some t∧TmC A c t)∧(¬(0<=i∧i<(ts.length:Int))->ok=false∧c=tmc 0 (vS) [] 0):=by
 obtain ⟨v,rows,ks,Bl,BX,rfl,hks,hsl,hrl,hr4,hat,hto,hnd⟩:=hT;have hbt:(bt,blk [v,.map (some bm)] 104)∈A:=hsub _ qM;have hrd:=hsl.rd (R:=A) (λx hx=>hsub x (by simp [hx]));have hkl:ks.length=ts.length:=by rw [hks,List.length_map]
 refine Ck (N:=29) func97 E E E λw=>?_;refine A8 (D0 0 1) (A1 ?_);refine A2 E (C2 (cs:=[zu8,vS,.string ByteArray.empty,P0]) kR E λb4=>?_);refine aS_ E (A0 (D6 0 1 4) (A3 (A1 (mV_ E (lQ_ (F6 (e:=104) E E kR) (mv_ ?_))))));refine F4 E E (Cn qm_ E ?_);refine F4 E E (Cn (E8 E E E) E ?_);refine lQ_ (E3 E E) (mv_ ?_);refine V8 (t:=12) E (λhb=>?_) (λhb=>?_)
 .
  have hlt0:i<0:=by simpa using hb
  refine K0 E E E E ?_;refine K0 E E E E ?_;refine K0 E E E E ?_;refine K0 E E E E ?_;refine K0 E E E E ?_;refine K0 E E E E ?_;refine K0 E E E E ?_;refine lQ_ (G4 E E) (A0 (D7 0 1 4 20) ?_);refine D9 E ?_;refine A1 ?_;refine lQ_ (F0 (place:=λx=>#[(0,1),(1,1),(2,1),(3,1)][x]?) (z:=[zu8,vS,.string ByteArray.empty,P0]) (λ_=>by kernel_rfl) e0 bd0) ?_;refine A2 E (A5 E E Cd kR ln4 al4 Cs ?_);refine as_ (A0 (D0 4 5) (A9 (tr ?_)));refine ⟨_,[],[],A0c E E E kR Cc qR,Aa _,by simp,E,E,_,_,E,(λh=>absurd h.1 qO),λ_=>⟨E,E⟩⟩
 .
  have hge0:0<=i:=by simpa using hb
  obtain ⟨n,rfl⟩:=Int.eq_ofNat_of_zero_le hge0;refine F4 E E (Cn qm_ E ?_);refine F4 E E (Cn qm_ E ?_);refine F4 E E (Cn (E1 E) E ?_);refine F4 E E (Cn (qf_ 0 0) E ?_);refine F4 E E (Cn (I0 E kR (mA hbt) qR) E ?_);refine F4 E E (Cn (G2 (sz:=4) E kR hrd) E ?_);refine F4 E E (Cn (E8 E E E) E ?_);refine lQ_ (E3 E E) (A0 (D7 0 1 4 20) ?_);refine C3 E ?_ ?_<;>intro hc
  .
   have hge:ts.length<=n:=by simp at hc;omega
   refine A1 ?_;refine lQ_ (F0 (place:=λx=>#[(0,1),(1,1),(2,1),(3,1)][x]?) (z:=[zu8,vS,.string ByteArray.empty,P0]) (λ_=>by kernel_rfl) e0 bd0) ?_;refine A2 E (A5 E E Cd kR ln4 al4 Cs ?_);refine as_ (A0 (D0 4 5) (A9 (tr ?_)));refine ⟨_,[],[],A0c E E E kR Cc qR,Aa _,by simp,E,E,_,_,E,(λh=>absurd h.2 qO),λ_=>⟨E,E⟩⟩
  .
   have hlt:n<ts.length:=by simp at hc;omega
   obtain ⟨r,hr,hcr⟩:=hat n ts[n] (Ab hlt);obtain ⟨vo,rfl,hvo⟩:=hcr;refine A6 (nx (D6 0 1 4) (A1 (mV_ E (lQ_ (E1 E) (lQ_ (qf_ 0 0) ?_)))));refine lQ_ (I0 E kR (mA hbt) qR) ?_;refine mv_ ?_;refine lQ_ (H2 (sz:=4) E E kR E hrd qO) ?_;refine lQ_ (A1t E kR (hrd.mono λ_ h=>mA h) hr4 qD hr) ?_;refine A2 E (A5 E E E kR qR (by intro c hc;simp only [Cv,Cw,or_false] at hc;rcases hc with rfl|rfl|rfl|rfl<;>first|rfl|exact Rd.one hvo) Cs ?_);refine as_ (A0 (D0 4 5) (A9 ?_));refine ⟨_,[],[],A0c E E E kR Cc qR,Aa _,by simp,E,E,_,_,E,(λ_=>⟨E,ts[n],by simp [hlt],vo,E,hvo.mono λx hx=>hsub x (by simp [hx])⟩),λh=>absurd ⟨Int.natCast_nonneg n,by omega⟩ h⟩

end Go.Proofs.YtglbhoeolghndaaGreatDoor
namespace Go.Px
theorem K1{C:Cx}{Q:XQ}{l:Env}{M J:Mem}{os:List Oper}{K:Nat->Prop}{n0:Nat}{nd:List Nat}{plan:List (Nat×Nat)}{i:Nat}{o:Oper}(hget:nth os i=some o)(hg:o.guard=none)(hnd:nd.contains i=false)(h:OpL C o l M J (λl' M' J'=>XK C os Q K 0 nd plan l' M' J')):XK C os Q K n0 nd ((i,2)::plan) l M J:=by have h1:=B1V hget (λa ha=>by simp [Region.wanted,hg]) hnd h;exact λlisted hcl hp a w ha hw _=>h1 listed hcl hp a w ha hw (Am _)
end Go.Px

namespace Go.Proofs.YtglbhoeolghndaaGreatDoor
open Go.Px
instance(priority:=low) SubC.union{X Y Z:Mem}[h1:SubC X Z][h2:SubC Y Z]:SubC (X++Y) Z:=⟨λx h=>(List.mem_append.1 h).elim (h1.sub x) (h2.sub x)⟩
instance(priority:=low) SubC.consC{b:Nat}{o:Obj}{X Z:Mem}[h1:At Z b o][h2:SubC X Z]:SubC ((b,o)::X) Z:=⟨λx h=>(List.mem_cons.1 h).elim (λh=>h▸h1.mem) (h2.sub x)⟩
theorem C0c{B M X:Mem}{x y z:Nat×Obj}:Fit ((B++[])++(M++(x::y::z::X))) (y::z::(B++(M++X))):=⟨x::(y::z::(B++(M++X))),by
  rw [List.append_nil,<- Ap]
  exact (List.perm_append_comm_assoc (B++M) [x,y,z] X).trans qM,.cons _ (Ao _)⟩
def pos(ts:List Tm)(t:Tm):Option Nat:=A0f (key t) (ts.map key) 0
def at_(ts:List Tm)(t:Tm):Nat:=(pos ts t).getD ts.length
def add(ts:List Tm)(t:Tm):List Tm:=if (pos ts t).isSome then ts else ts++[t]
theorem B2p{n:Nat}{cs:List Value}{e:TypeId}:B6q λv R=>∃b,v=.slice (some ⟨b,0,none⟩) n n∧(b,Obj.cells cs.toArray e (0,0))∈R:=λ_ _ _ h ⟨b,e,hb⟩=>⟨b,e,h _ hb⟩
variable{ts:List Tm}{t:Tm}
theorem A6n(ht:Tmo t)(hts:∀t∈ts,Tmo t){i:Nat}(h:pos ts t=some i):ts[i]? = some t:=(A9E ht hts).2 i h
theorem A6o(ht:Tmo t)(hts:∀t∈ts,Tmo t):pos ts t=none↔t∉ts:=(A9E ht hts).1
theorem C2L(hts:∀t∈ts,Tmo t)(hnd:ts.Nodup){i:Nat}(h:ts[i]? = some t):pos ts t=some i:=by
  have hm:t∈ts:=As h
  cases hp:pos ts t with
  | none=>exact absurd hm ((A6o (hts t hm) hts).1 hp)
  | some j =>
    have hj:=A6n (hts t hm) hts hp;have a:=Ac.1 h;have b:=Ac.1 hj;obtain ⟨a1,a2⟩:=a;obtain ⟨b1,b2⟩:=b;have hpw:=List.pairwise_iff_getElem.1 hnd;rcases Nat.lt_trichotomy i j with h1|h1|h1
    . exact absurd (a2.trans b2.symm) (hpw i j a1 b1 h1)
    . rw [h1]
    . exact absurd (b2.trans a2.symm) (hpw j i b1 a1 h1)
theorem R8(bt bm:Nat)(ts:List Tm)(vo:Value)(t:Tm)(MT A:Mem)(hT:Tab bt bm ts MT)(hlen:ts.length<=1048576)(hvo:Rd A 1 vo t.of.length (A13 t.of))(ht:Tmo t){e4:TypeId}{f4:Nat×Nat}(h4:(4,Obj.cells (nums .u64 A0G).toArray e4 f4)∈A):FnX prog 36 [(vP bt),.agg (tmc t.kind vo t.text t.n).toArray] MT A λr M J=>J=[]∧r=(vI (at_ ts t))∧Tab bt bm (add ts t) M:=by
  obtain ⟨v,rows,ks,Bl,BX,rfl,hks,hsl,hrl,hr4,hat,hto,hnd⟩:=hT;have hkind:=ht.kind;haveI:=hvo.cel;refine Ck (N:=50) func36 E E E λw=>?_;refine A8 (D0 0 1) (A1 ?_);refine A2 E (bx_ λb3=>?_);refine aS_ E (A0 (D0 0 3) (A3 (A1 (mV_ E (lQ_ (F6 (e:=104) E E kR) (A0 (D6 0 3 8) ?_))))));refine C7 E ?_;refine A6 (nx (D0 0 3) ?_);refine C8 [0,1,2,3,4,5,7,8,9,10,11] (zp 0 [0,0,0,1,1,2,2,0,0,0,0,0]) kR kR λhs=>?_;refine fM_ E E (fQ_ E (E1 E) (fQ_ E (qf_ 1 1) ?_));refine fR_ E ql_ ?_;refine fR_ E (qw_ 4) ?_;refine N4 E (aS E a0) kR (A7H vo t _ (hvo.mono λ_ h=>mA h) ht (mA h4)) E ?_;refine G1 E E E (Cn (C0b (kt:=9) (et:=3) E E kR kR (λ_=>by rfl) Cc) E ?_);refine fM_ E E (fQ_ E (Z9 E) (fQ_ E (Z5 E) (fA_ E E (fA_ E E (E0 (D7 0 3 5 6) ?_)))));refine P3 (α:=Mem) (λ_=>[(5,(vI (at_ ts t)))]) (λM=>M) (λ_=>[]) (λM=>Tab bt bm (add ts t) M) ?_ ?_
  .
    refine A1 (mV_ E (lQ_ (U2 E) (A0 (D7 0 3 5 20) ?_)));refine C3 E ?_ ?_<;>intro hc
    .
      have hnm:pos ts t=none:=by
        cases hp:pos ts t with
        | none=>rfl
        | some j=>rw [hks] at hc;rw [show A0f (key t) (ts.map key) 0=some j from hp] at hc;cases hc
      have hnk:A0f (key t) ks 0=none:=by rw [hks];exact hnm
      have hkl:ks.length=ts.length:=by rw [hks,List.length_map]
      refine A1 (mV_ E (lQ_ (E1 E) (lQ_ (qf_ 0 0) ?_)));refine lQ_ ql_ ?_;refine lQ_ (G2 (sz:=4) E kR (hsl.rd (R:=Bl) λ_ h=>h)) ?_;refine aS_ E (A0 (D6 0 3 5) (A1 (lQ_ (qf_ 1 1) ?_)));refine lQ_ ql_ ?_;refine C6 (aS E a0) kR (A8I vo t.of.length (A13 t.of) _ (hvo.mono λ_ h=>mA h) (B2l _) (by have:=ht.ofl;omega)) E ?_;rintro v28 M28 J28 ⟨rfl,hv28⟩;haveI:=hv28.cel;refine lQ_ (qf_ 1 1) ?_;refine A2 E (E4 E E hv28.one kR Cq Cs ?_);refine A0 (D6 0 3 5) ?_;refine Y5 (Bl) (_) true [0,1,2,3,4,5,6,7,8,9,10,11,12,13,14,15,16,19] [(0,0),(1,0),(2,0),(3,0),(4,1),(5,1),(7,0),(8,0),(9,0),(10,1),(11,1),(14,0),(6,3),(12,4),(13,2),(15,0),(16,0),(17,2),(18,2),(19,0),(20,2)] kR kR qP λhs K n0 hKm hKs hKn=>?_;refine kM_ E E (kM_ E E (kQ_ E (E1 E) (kQ_ E (qf_ 1 1) ?_)));refine I8 hs E hKs ql_ ?_;refine I8 hs E hKs (qw_ 4) ?_;refine kM_ E E (kQ_ E (E1 E) (kQ_ E (qf_ 0 0) ?_));refine I8 hs E hKs ql_ ?_;refine I8 hs E hKs (qw_ 4) ?_;refine km_ ?_
      refine B6s [⟨6,36,λv _=>v=.string (key t)⟩,⟨12,42,λv R=>∃b,v=.slice (some ⟨b,0,none⟩) 1 1∧(b,Obj.cells (tmc t.kind v28 t.text t.n).toArray 111 (0,0))∈R⟩]
        (A4 B9Y (A4 B2p (I5))) nd_ nd_ dl_
        (gG ?_ (gG ?_ (I5))) ?_
      . intro _ _ _ hb _;exact R6 (aS E a0) kR (A7H v28 t _ (hv28.mono λ_ h=>hb _ (by simp [h])) ht (hb _ (mA h4))) E ⟨_,E,E⟩
      .
        intros
        exact C4 (e:=111) (sz:=4) (z:=[zu8,vS,.string ByteArray.empty,P0]) kR (eS E e0) (.cons E E qR (SetR.all qR) .nil) E λb=>⟨_,E,b,E,Ae _ qK⟩
      intro vs Jn0 hφ;have g6:=gy 0 hφ;have g12:=gy 1 hφ;dsimp only at g6 g12;clear hφ;dsimp only [A3O,List.map,Cu,Ct];generalize vs 6=u36,vs 12=u42 at *;subst g6;obtain ⟨b42,rfl,hb42⟩:=g12;have hl42:=Co (sz:=4) (n:=1) hb42 qR
      refine H0 _ _ E E (Ah _) hKm λw0=>(H4 (e:=111) (sz:=4) (by_:=56) E E kR E hsl (hl42.mono λx hx=>by simpa only [List.append_assoc,Ct,List.append_nil] using hx) (by intro c hc;simp only [Cv,Cw,or_false] at hc;rcases hc with rfl|rfl|rfl|rfl<;>first|rfl|exact hv28.one) (by rw [List.append_nil]) (by unfold maxLen;omega) qO E λv43 B43 hs43=>λ_=>?_)
      refine kQ_ E (E1 E) (kQ_ E (qf_ 0 0) ?_);refine K1 E E E (E4 E E hs43.one kR Cq Cs ?_);refine K1 E E E (B0O (kt:=9) (et:=3) E E kR kR (λ_=>by rfl) hnk E Cs ?_);refine kQ_ E (Z5 E) ?_;refine K1 E E E (A7G (ks:=ks) (s:=key t) E qR qR Cs ?_);refine A3z ?_;have hat_:at_ ts t=ks.length:=by unfold at_;rw [hnm,hkl];rfl
      have hadd:add ts t=ts++[t]:=by unfold add;rw [hnm];rfl
      refine jn (_::_::(B43++(M28++BX))) ⟨v43,rows++[tmc t.kind v28 t.text t.n],ks++[key t],B43,M28++BX,E,by rw [hadd,hks];simp,(by rw [show (rows++[tmc t.kind v28 t.text t.n]).flatten=rows.flatten++tmc t.kind v28 t.text t.n by simp,An];exact hs43),by simp [hrl],?_,?_,?_,?_⟩ (kp 5 (by rw [hat_];rfl) kn) ?_ (λ_ h=>by cases h)
      . intro r hr;rcases List.mem_append.1 hr with hr|hr
        . exact hr4 r hr
        . rw [List.mem_singleton.1 hr];rfl
      . intro j u hj;rw [hadd] at hj;by_cases hlt:j<ts.length
        . rw [Ak hlt] at hj;obtain ⟨r,hr,hcr⟩:=hat j u hj;exact ⟨r,by rw [Ak qO];exact hr,hcr.mono λx hx=>Ai _ hx⟩
        . rw [Aq qO] at hj
          have hj0:j=ts.length:=by have:=(Ac.1 hj).1;simp at this;omega
          subst hj0;simp at hj;subst hj;exact ⟨_,by rw [Aq qO,show ts.length-rows.length=0 by omega];rfl,v28,E,hv28.mono λx hx=>Ae _ hx⟩
      . intro u hu;rw [hadd] at hu;rcases List.mem_append.1 hu with hu|hu
        . exact hto u hu
        . rw [List.mem_singleton.1 hu];exact ht
      . rw [hadd,List.nodup_append];refine ⟨hnd,by simp,λx hx y hy e=>(A6o ht hto).1 hnm ?_⟩;rw [List.mem_singleton.1 hy] at e;exact e▸hx
      . rw [An];exact C0c
    .
      have hsm:(pos ts t).isSome=true:=by
        cases hp:pos ts t with
        | some j=>rfl
        | none=>rw [hks] at hc;rw [show A0f (key t) (ts.map key) 0=none from hp] at hc;cases hc
      refine A6 ?_;have hpl:A0f (key t) ks 0=pos ts t:=by rw [hks];rfl
      have hadd:add ts t=ts:=by unfold add;rw [hsm];rfl
      refine jn _ ⟨v,rows,ks,Bl,BX,E,by rw [hadd,hks],hsl,hrl,hr4,by rw [hadd];exact hat,by rw [hadd];exact hto,by rw [hadd];exact hnd⟩ (kp 5 (by rw [hpl];unfold at_;cases hq:pos ts t with|none=>rw [hq] at hsm;cases hsm|some j=>rfl) kn) (Ci (.cons _ (Ao _))) qI
  . rintro M hM;refine A1 (mv_ (as_ (A0 (D4 4) (A9 ?_))));exact ⟨_,_,_,H8 E E,Ao _,λ_ h=>h,E,E,hM⟩

end Go.Proofs.YtglbhoeolghndaaGreatDoor
namespace Go.Px
section
variable{P:Program}{R R':Mem}{l:Env}{d:Option Nat}{ty t:TypeId}{pos:String}{af:Array Edge}{g:Option (Nat×Bool)}{x y:Operand}{v u:Value}{sz n a off j:Nat}{xs:List Value}
theorem B2q{f:Nat}{s:TypeId}(hx:ev l x=some (vAt sz a v))(h:Rd R' sz v n xs)(ha:a<n)(hf:A2y P s f=some off):OpQ P R ⟨d,.fieldAddr s x f,ty,pos,af,g⟩ l (vAt 1 (a*sz+off) v):=by
  obtain ⟨p,c,rfl,h2,h3,h4⟩:=h;rcases h4 with h4|⟨b,o,cs,e',fr,rfl,hb,hx'⟩
  . omega
  . simp only [vAt,Addr.add_mid,Nat.mul_one] at hx ⊢;exact A3s _ hx hf qO
theorem B2r(hx:ev l x=some (vAt 1 j v))(h:Rd R sz v n xs)(hn:0<n)(ht:A0p P t=true)(hj:xs[j]? = some u):OpQ P R ⟨d,.load t x,ty,pos,af,g⟩ l u:=by
  obtain ⟨p,c,rfl,h2,h3,h4⟩:=h;rcases h4 with h4|⟨b,o,cs,e',fr,rfl,hb,hx'⟩
  . omega
  . simp only [vAt,Addr.add_mid] at hx;refine I0 (b:=b) (o:=o+j*1) hx ht hb ?_;rw [Nat.mul_one];exact hx' j u hj
end
end Go.Px
namespace Go.Proofs.YtglbhoeolghndaaGreatDoor
open Go.Px
theorem A0P{ts:List Tm}{t:Tm}:(add ts t).length<=ts.length+1:=by unfold add;split<;>simp
end Go.Proofs.YtglbhoeolghndaaGreatDoor
