/- Part 2 of the texts of this claim, one behind the other. -/
import Derived.Test.YtjkpfgjfpbihaaaGreatDoorB1
import Derived.Test.YtjkpfgjfpbihaaaGreatDoorRows
import Derived.Laws.BytesString
import Derived.Laws.MakeOwn
set_option linter.unusedVariables false
set_option linter.unusedSimpArgs false
set_option maxRecDepth 100000
namespace Go
open Go.Px
abbrev Cc:=@At.mem
abbrev Cd:=@Cel.cel
abbrev Ci:=@Fit.sub
abbrev Ck:=@FnX.enter
abbrev Cn:=@OpQ.opL
abbrev Co:=@Rd.whole
abbrev Cq:=@SetC.set
abbrev Cs:=@UpC.upd
end Go
namespace Go.Px
variable{k:IntKind}
theorem T5(hk:k.signed=false)(n:Nat):k.wrap (n:Int)=((n % 2 ^ k.bits:Nat):Int):=by unfold IntKind.wrap;simp only [hk,Bool.false_and,Bool.false_eq_true,if_false];rw [Int.natCast_emod]; simp
theorem C0M(n:Nat):IntKind.u8.wrap (n:Int)=((n % 256:Nat):Int):=T5 E n
theorem C0N(n:Nat):IntKind.u32.wrap (n:Int)=((n % 4294967296:Nat):Int):=T5 E n
theorem A8u(n:Nat):IntKind.u64.wrap (n:Int)=((n % 18446744073709551616:Nat):Int):=T5 E n
variable{n:Nat}
theorem A2j(h:n < 9223372036854775808):IntKind.i64.wrap (n:Int)=(n:Int):=A0S (by omega) (by omega)
section ops
variable{k:IntKind}{a b:Nat}
theorem addU(hk:k.signed=false)(r:Nat)(h:(a+b) % 2 ^ k.bits=r):I8 .add k (a:Int) (b:Int)=some (.int k (r:Int)):=by simp only [I8];rw [show (a:Int)+b=((a+b:Nat):Int) from by omega,T5 hk,h]
theorem mulU(hk:k.signed=false)(r:Nat)(h:(a * b) % 2 ^ k.bits=r):I8 .mul k (a:Int) (b:Int)=some (.int k (r:Int)):=by simp only [I8];rw [show (a:Int) * b=((a * b:Nat):Int) from by simp,T5 hk,h]
theorem C3f(hk:k.signed=false)(r:Nat)(hb:b<=2 ^ k.bits)(h:(a+(2 ^ k.bits - b)) % 2 ^ k.bits=r):I8 .sub k (a:Int) (b:Int)=some (.int k (r:Int)):=by
  simp only [I8];have e:(a:Int) - b=((a+(2 ^ k.bits - b):Nat):Int) - (2 ^ k.bits:Nat):=by omega
  have e2:k.wrap ((a:Int) - b)=k.wrap ((a+(2 ^ k.bits - b):Nat):Int):=by unfold IntKind.wrap;simp only [hk,Bool.false_and,Bool.false_eq_true,if_false];rw [e];simp
  rw [e2,T5 hk,h]
theorem A6x(n m:Nat):BitVec.ofInt n (m:Int)=BitVec.ofNat n m:=by apply BitVec.eq_of_toNat_eq; simp
theorem C3g(hk:k.signed=false)(ha:a < 2 ^ k.bits)(hb:b < 2 ^ k.bits):I8 .and k (a:Int) (b:Int)=some (.int k ((a &&& b:Nat):Int)):=by simp only [I8,A6x];rw [BitVec.toNat_and,BitVec.toNat_ofNat,BitVec.toNat_ofNat,Af ha,Af hb,T5 hk,Af (Be Nat.and_le_left ha)]
theorem orU(hk:k.signed=false)(ha:a < 2 ^ k.bits)(hb:b < 2 ^ k.bits):I8 .or k (a:Int) (b:Int)=some (.int k ((a ||| b:Nat):Int)):=by simp only [I8,A6x];rw [BitVec.toNat_or,BitVec.toNat_ofNat,BitVec.toNat_ofNat,Af ha,Af hb,T5 hk,Af (Nat.or_lt_two_pow ha hb)]
theorem xorU(hk:k.signed=false)(ha:a < 2 ^ k.bits)(hb:b < 2 ^ k.bits):I8 .xor k (a:Int) (b:Int)=some (.int k ((a ^^^ b:Nat):Int)):=by simp only [I8,A6x];rw [BitVec.toNat_xor,BitVec.toNat_ofNat,BitVec.toNat_ofNat,Af ha,Af hb,T5 hk,Af (Nat.xor_lt_two_pow ha hb)]
end ops
variable{s:TypeId}
section rules
variable{P:Program}{R:Mem}{l:Env}{d:Option Nat}{ty t t':TypeId}{pos:String}{af:Array Edge}{g:Option (Nat×Bool)}{x y:Operand}{k k':IntKind}{a b:Nat}
theorem A0n(hx:ev l x=some (.int .u32 (a:Int)))(hy:ev l y=some (.int .u32 (b:Int))):OpQ P R ⟨d,.binOp .add t x y t',ty,pos,af,g⟩ l (.int .u32 (((a+b) % 4294967296:Nat):Int)):=F0 hx hy (addU E _ E)
theorem A4C(hk:k.signed=false)(hx:ev l x=some (.int k (a:Int)))(hy:ev l y=some (.int k (b:Int)))(ha:a < 2 ^ k.bits)(hb:b < 2 ^ k.bits):OpQ P R ⟨d,.binOp .and t x y t',ty,pos,af,g⟩ l (.int k ((a &&& b:Nat):Int)):=F0 hx hy (C3g hk ha hb)
theorem B4A(hk:k.signed=false)(hx:ev l x=some (.int k (a:Int)))(hy:ev l y=some (.int k (b:Int)))(ha:a < 2 ^ k.bits)(hb:b < 2 ^ k.bits):OpQ P R ⟨d,.binOp .or t x y t',ty,pos,af,g⟩ l (.int k ((a ||| b:Nat):Int)):=F0 hx hy (orU hk ha hb)
theorem C0O(hk:k.signed=false)(hx:ev l x=some (.int k (a:Int)))(hy:ev l y=some (.int k (b:Int)))(ha:a < 2 ^ k.bits)(hb:b < 2 ^ k.bits):OpQ P R ⟨d,.binOp .xor t x y t',ty,pos,af,g⟩ l (.int k ((a ^^^ b:Nat):Int)):=F0 hx hy (xorU hk ha hb)
theorem T7(s:Nat)(hx:ev l x=some (.int k (a:Int))){i:Int}(hy:ev l y=some (.int k' i))(hi:i=s)(hs:s<=k.bits):OpQ P R ⟨d,.binOp .shr t x y t',ty,pos,af,g⟩ l (.int k ((a >>> s:Nat):Int)):=by
  subst hi;have:=C0J (P:=P) (R:=R) (d:=d) (ty:=ty) (pos:=pos) (af:=af) (g:=g) (t:=t) (t':=t') hx hy (by omega);rw [Int.toNat_natCast,Nat.min_eq_left hs] at this
  have e:(a:Int).fdiv (2 ^ s)=((a >>> s:Nat):Int):=by rw [Int.fdiv_eq_ediv_of_nonneg _ (Int.pow_nonneg (by decide)),Bz,Int.natCast_ediv]; simp
  rwa [e] at this
theorem A25(hk:k.signed=false)(s:Nat)(hx:ev l x=some (.int k (a:Int))){i:Int}(hy:ev l y=some (.int k' i))(hi:i=s)(hs:s<=k.bits):OpQ P R ⟨d,.binOp .shl t x y t',ty,pos,af,g⟩ l (.int k (((a <<< s) % 2 ^ k.bits:Nat):Int)):=by subst hi;have:=C3b (P:=P) (R:=R) (d:=d) (ty:=ty) (pos:=pos) (af:=af) (g:=g) (t:=t) (t':=t') hx hy (by omega);rw [Int.toNat_natCast,Nat.min_eq_left hs,show (a:Int) * 2 ^ s=((a <<< s:Nat):Int) from by rw [Nat.shiftLeft_eq]; simp,T5 hk] at this;exact this
theorem C0P(hk:k.signed=false)(hx:ev l x=some (.int k (a:Int)))(ha:a < 2 ^ k.bits):OpQ P R ⟨d,.unOp .xor t x,ty,pos,af,g⟩ l (.int k (((2 ^ k.bits - 1) ^^^ a:Nat):Int)):=by
  have:=C3d (P:=P) (R:=R) (d:=d) (ty:=ty) (pos:=pos) (af:=af) (g:=g) (t:=t) hx
  have e:(if k.signed=true then -1 else k.max:Int)=((2 ^ k.bits - 1:Nat):Int):=by simp only [hk,Bool.false_eq_true,if_false,IntKind.max];cases k <;> simp_all [IntKind.bits,IntKind.signed]
  have h2:2 ^ k.bits - 1 < 2 ^ k.bits:=Nat.sub_lt (Bx _) (by decide);rw [e,A6x,A6x,BitVec.toNat_xor,BitVec.toNat_ofNat,BitVec.toNat_ofNat,Af ha,Af h2,T5 hk,Af (Nat.xor_lt_two_pow h2 ha)] at this;exact this
theorem K6(r:Nat)(hx:ev l x=some (.int k (a:Int)))(hc:A5h P s t=some k')(h:k'.wrap (a:Int)=(r:Int)):OpQ P R ⟨d,.convert s t x,ty,pos,af,g⟩ l (.int k' (r:Int)):=A0l _ hx hc h
theorem B0E(hx:ev l x=some (.int k (a:Int)))(hy:ev l y=some (.int k (b:Int)))(hb:b≠0):OpQ P R ⟨d,.binOp .rem t x y t',ty,pos,af,g⟩ l (.int k ((a % b:Nat):Int)):=by have:=C3a (P:=P) (R:=R) (d:=d) (ty:=ty) (pos:=pos) (af:=af) (g:=g) (t:=t) (t':=t') hx hy (by omega);rw [Int.tmod_eq_emod_of_nonneg (by omega),<- Int.natCast_emod] at this;exact this
theorem B0F(hx:ev l x=some (.int k (a:Int)))(hy:ev l y=some (.int k (b:Int)))(hb:b≠0)(h:k.wrap ((a / b:Nat):Int)=((a / b:Nat):Int)):OpQ P R ⟨d,.binOp .quo t x y t',ty,pos,af,g⟩ l (.int k ((a / b:Nat):Int)):=by have:=C0I (P:=P) (R:=R) (d:=d) (ty:=ty) (pos:=pos) (af:=af) (g:=g) (t:=t) (t':=t') hx hy (by omega);rw [Int.tdiv_eq_ediv_of_nonneg (by omega),<- Int.natCast_ediv,h] at this;exact this
end rules
def nums(k:IntKind)(ws:List Nat):List Value:=ws.map λ n:Nat=>Value.int k (n:Int)
variable{i:Nat}
section nums
variable{k:IntKind}{ws us:List Nat}
@[simp] theorem nums_len:(nums k ws).length=ws.length:=by simp [nums]
theorem H8:nums k (ws++us)=nums k ws++nums k us:=by simp [nums]
theorem A1a(n:Nat):nums k (ws.take n)=(nums k ws).take n:=by simp [nums,List.map_take]
theorem A0J(n:Nat):nums k (ws.drop n)=(nums k ws).drop n:=by simp [nums,List.map_drop]
theorem A5k(i n:Nat):nums k (ws.set i n)=(nums k ws).set i (.int k (n:Int)):=by simp [nums,List.map_set]
theorem E9:∀ c∈nums k ws,c.oneCell'=true:=by intro c hc;obtain ⟨n,_,rfl⟩:=List.mem_map.1 hc;rfl
theorem V9(h:i < ws.length):(nums k ws)[i]? = some (.int k ((ws.getD i 0:Nat):Int)):=by simp [nums,List.getElem?_eq_getElem h,List.getD]
theorem getD_lt{ws:List Nat}{b:Nat}(h:∀ n∈ws,n < b)(hb:0 < b):ws.getD i 0 < b:=by
  rw [List.getD]
  cases hi:ws[i]? with
  | none=>exact hb
  | some n=>exact h n (As hi)
end nums
variable{M':Mem}
theorem Fit.eq{M:Mem}(h:M=M'):Fit M M':=h▸.rfl
theorem A3n{v:Value}:∀ {cs:List Value} {o:Nat},o < cs.length->SetL cs o v (cs.set o v)
  | [],_,h=>by simp at h
  | x::r,0,_=>.hd
  | x::r,o+1,h=>.tl (A3n (by simpa using h))
variable{ws:List Nat}
theorem A3o{us:List Nat}(h:i < ws.length):(ws++us).getD i 0=ws.getD i 0:=by simp [List.getD,List.getElem?_append_left h]
theorem B0G{x:Nat}(h:ws.length=i)(hi:i < n):(ws++List.replicate (n - i) 0).set i x=(ws++[x])++List.replicate (n - (i+1)) 0:=by rw [List.set_append_right _ _ (by omega),h,Nat.sub_self,show n - i=(n - (i+1))+1 by omega,List.replicate_succ];simp
variable{e:TypeId}
section rules2
variable{P:Program}{R:Mem}{l:Env}{d:Option Nat}{ty t t':TypeId}{pos:String}{af:Array Edge}{g:Option (Nat×Bool)}{x y:Operand}{k k':IntKind}{a b:Nat}
theorem A3H(hx:ev l x=some (.int .u32 (a:Int)))(hy:ev l y=some (.int .u32 (b:Int)))(ha:a < 4294967296)(hb:b < 4294967296):OpQ P R ⟨d,.binOp .and t x y t',ty,pos,af,g⟩ l (.int .u32 ((a &&& b:Nat):Int)):=A4C E hx hy ha hb
theorem A26(hx:ev l x=some (.int .u32 (a:Int)))(hy:ev l y=some (.int .u32 (b:Int)))(ha:a < 4294967296)(hb:b < 4294967296):OpQ P R ⟨d,.binOp .or t x y t',ty,pos,af,g⟩ l (.int .u32 ((a ||| b:Nat):Int)):=B4A E hx hy ha hb
theorem V0(hx:ev l x=some (.int .u32 (a:Int)))(hy:ev l y=some (.int .u32 (b:Int)))(ha:a < 4294967296)(hb:b < 4294967296):OpQ P R ⟨d,.binOp .xor t x y t',ty,pos,af,g⟩ l (.int .u32 ((a ^^^ b:Nat):Int)):=C0O E hx hy ha hb
theorem B8d(hx:ev l x=some (.int .u32 (a:Int)))(ha:a < 4294967296):OpQ P R ⟨d,.unOp .xor t x,ty,pos,af,g⟩ l (.int .u32 ((4294967295 ^^^ a:Nat):Int)):=C0P (k:=.u32) E hx ha
theorem A1b(s:Nat)(hx:ev l x=some (.int .u32 (a:Int))){i:Int}(hy:ev l y=some (.int k' i))(hi:i=s)(hs:s<=32):OpQ P R ⟨d,.binOp .shl t x y t',ty,pos,af,g⟩ l (.int .u32 (((a <<< s) % 4294967296:Nat):Int)):=A25 (k:=.u32) E s hx hy hi hs
theorem B0H(hx:ev l x=some (.int .u8 (a:Int)))(hy:ev l y=some (.int .u8 (b:Int)))(ha:a < 256)(hb:b < 256):OpQ P R ⟨d,.binOp .xor t x y t',ty,pos,af,g⟩ l (.int .u8 ((a ^^^ b:Nat):Int)):=C0O E hx hy ha hb
theorem A04(hx:ev l x=some (.int k (a:Int)))(hc:A5h P s t=some .u8):OpQ P R ⟨d,.convert s t x,ty,pos,af,g⟩ l (.int .u8 ((a % 256:Nat):Int)):=K6 _ hx hc (C0M a)
theorem A8v(hx:ev l x=some (.int k (a:Int)))(hc:A5h P s t=some .u32):OpQ P R ⟨d,.convert s t x,ty,pos,af,g⟩ l (.int .u32 ((a % 4294967296:Nat):Int)):=K6 _ hx hc (C0N a)
theorem B0I(hx:ev l x=some (.int k (a:Int)))(hc:A5h P s t=some .u64):OpQ P R ⟨d,.convert s t x,ty,pos,af,g⟩ l (.int .u64 ((a % 18446744073709551616:Nat):Int)):=K6 _ hx hc (A8u a)
theorem A1K(hx:ev l x=some (.int k (a:Int)))(hc:A5h P s t=some k')(h:a < 2 ^ (k'.bits - 1)):OpQ P R ⟨d,.convert s t x,ty,pos,af,g⟩ l (.int k' (a:Int)):=by
  refine K6 _ hx hc ?_;have h2:2 ^ k'.bits=2 * 2 ^ (k'.bits - 1):=by cases k' <;> rfl
  cases hs:k'.signed with
  | false=>rw [T5 hs,Af (by omega)]
  | true =>
    have h3:(2:Int) ^ k'.bits=2 * ((2 ^ (k'.bits - 1):Nat):Int):=by
      have e0:(2:Int) ^ k'.bits=((2 ^ k'.bits:Nat):Int):=by simp
      rw [e0,h2]; omega
    unfold IntKind.wrap;have e1:(a:Int) % 2 ^ k'.bits=a:=Int.emod_eq_of_lt (by omega) (by rw [h3]; omega);simp only [e1,hs,Bool.true_and]
    have e2:¬ ((2:Int) ^ (k'.bits - 1)<=(a:Int)):=by
      have:((2 ^ (k'.bits - 1):Nat):Int)=2 ^ (k'.bits - 1):=by simp
      omega
    simp [e2]
theorem I6{k:IntKind}{fr:Nat×Nat}{b o:Nat}(i:Nat)(hx:ev l x=some (.pointer (some ⟨b,o,none⟩)))(ht:A0j P t=true)(hb:(b,Obj.cells (nums k ws).toArray e fr)∈R)(ho:o=i)(hi:i < ws.length) :
    OpQ P R ⟨d,.load t x,ty,pos,af,g⟩ l (.int k ((ws.getD i 0:Nat):Int)):=I2 hx ht hb (by rw [ho]; exact V9 hi)
end rules2
theorem K8{C:Cx}{l:Env}{M J:Mem}{K:Env->Mem->Mem->Prop}{ty t:TypeId}{pos:String}{af:Array Edge}{g:Option (Nat×Bool)}{x y:Operand}{b o:Nat}(i:Nat)
    (hx:ev l x=some (.pointer (some ⟨b,o,none⟩))) (hy:ev l y=some (.int k (n:Int))) (ht:P4 C.P t=some 1) (ho:o=i) (hi:i < ws.length) (hu:Upd M b (blk (nums k ws) e) (blk (nums k (ws.set i n)) e) M') (h:K l M' J) :
    OpL C ⟨none,.store t x y,ty,pos,af,g⟩ l M J K :=
  E4 hx hy E ht (cs':=nums k (ws.set i n)) (by rw [A5k,ho]; exact A3n (by simpa using hi)) hu h
theorem Rd.nums{R:Mem}{k:IntKind}{ws:List Nat}{v:Value}{n:Nat}(h:Rd R 1 v n (nums k ws))(hn:0 < n) :
    ∃ b o c cs e fr,v=.slice (some ⟨b,o,none⟩) n c∧(b,Obj.cells (List.toArray cs) e fr)∈R∧∀ i,i < n->cs[o+i * 1]? = some (.int k ((ws.getD i 0:Nat):Int)):=by
  obtain ⟨p,c,rfl,hl,hc,hb⟩:=h;rcases hb with hb | ⟨b,o,cs,e,fr,rfl,hb,hx⟩
  . omega
  . refine ⟨b,o,c,cs,e,fr,E,hb,λ i hi=>?_⟩;rw [Nat.mul_one];simp at hl;exact hx i _ (V9 (by omega))
end Go.Px

namespace Go.Px
def rotr(x n:Nat):Nat:=(x >>> n) ||| ((x <<< (32 - n)) % 4294967296)
def sg0(a:Nat):Nat:=rotr a 7 ^^^ rotr a 18 ^^^ (a >>> 3)
def sg1(b:Nat):Nat:=rotr b 17 ^^^ rotr b 19 ^^^ (b >>> 10)
def B4B(w:List Nat)(i:Nat):Nat :=
  (((w.getD (i - 16) 0+sg0 (w.getD (i - 15) 0)) % 4294967296+w.getD (i - 7) 0) % 4294967296+sg1 (w.getD (i - 2) 0)) % 4294967296
def wx(w:List Nat):Nat->List Nat
  | 0=>w
  | n+1=>wx w n++[B4B (wx w n) (w.length+n)]
theorem A6y(w:List Nat)(n:Nat):(wx w n).length=w.length+n:=by
  induction n with
  | zero=>rfl
  | succ n ih=>simp [wx,ih]; omega
structure S8 where
  a:Nat
  b:Nat
  c:Nat
  d:Nat
  e:Nat
  f:Nat
  g:Nat
  h:Nat
def S8.list(s:S8):List Nat:=[s.a,s.b,s.c,s.d,s.e,s.f,s.g,s.h]
def S8.ok(s:S8):Prop:=∀ x∈s.list,x < 4294967296
def bs1(e:Nat):Nat:=rotr e 6 ^^^ rotr e 11 ^^^ rotr e 25
def bs0(a:Nat):Nat:=rotr a 2 ^^^ rotr a 13 ^^^ rotr a 22
def chz(e f g:Nat):Nat:=(e &&& f) ^^^ ((4294967295 ^^^ e) &&& g)
def maj(a b c:Nat):Nat:=(a &&& b) ^^^ (a &&& c) ^^^ (b &&& c)
def tmp1(s:S8)(k w:Nat):Nat:=((((s.h+bs1 s.e) % 4294967296+chz s.e s.f s.g) % 4294967296+k) % 4294967296+w) % 4294967296
def S8.step(s:S8)(k w:Nat):S8 :=
  ⟨((tmp1 s k w+bs0 s.a) % 4294967296+maj s.a s.b s.c) % 4294967296,s.a,s.b,s.c,(s.d+tmp1 s k w) % 4294967296,s.e,s.f,s.g⟩
def rounds(ks ws:List Nat)(s:S8):Nat->S8
  | 0=>s
  | n+1=>(rounds ks ws s n).step (ks.getD n 0) (ws.getD n 0)
def S8.plus(s t:S8):S8 :=
  ⟨(s.a+t.a) % 4294967296,(s.b+t.b) % 4294967296,(s.c+t.c) % 4294967296,(s.d+t.d) % 4294967296,(s.e+t.e) % 4294967296,(s.f+t.f) % 4294967296,(s.g+t.g) % 4294967296,(s.h+t.h) % 4294967296⟩
def C0y(p:List Nat)(i:Nat):Nat:=((p.getD (4 * i) 0 * 256+p.getD (4 * i+1) 0) * 256+p.getD (4 * i+2) 0) * 256+p.getD (4 * i+3) 0
def Z8(p:List Nat)(n:Nat):List Nat:=(List.range n).map (C0y p)
def X4(ks:List Nat)(s:S8)(p:List Nat):S8:=s.plus (rounds ks (wx (Z8 p 16) 48) s 64)
def A4D(ks:List Nat):Nat->S8->List Nat->S8
  | 0,s,_=>s
  | n+1,s,p=>A4D ks n (X4 ks s (p.take 64)) (p.drop 64)
def A3I(n:Nat):Nat:=(119 - n % 64) % 64
def B4C(n:Nat)(k:Nat):List Nat:=(List.range k).map λ i=>(8 * n) >>> (56 - 8 * i) % 256
def N2(p:List Nat):List Nat:=p++(128::(List.replicate (A3I p.length) 0++B4C p.length 8))
def B8e(x:Nat):List Nat:=[(x >>> 24) % 256,(x >>> 16) % 256,(x >>> 8) % 256,x % 256]
def S8.bytes(s:S8):List Nat:=s.list.flatMap B8e
def A2c:List Nat:=[1116352408,1899447441,3049323471,3921009573,961987163,1508970993,2453635748,2870763221,3624381080,310598401,607225278,1426881987,1925078388,2162078206,2614888103,3248222580,3835390401,4022224774,264347078,604807628,770255983,1249150122,1555081692,1996064986,2554220882,2821834349,2952996808,3210313671,3336571891,3584528711,113926993,338241895,666307205,773529912,1294757372,1396182291,1695183700,1986661051,2177026350,2456956037,2730485921,2820302411,3259730800,3345764771,3516065817,3600352804,4094571909,275423344,430227734,506948616,659060556,883997877,958139571,1322822218,1537002063,1747873779,1955562222,2024104815,2227730452,2361852424,2428436474,2756734187,3204031479,3329325298]
def A27:S8:=⟨1779033703,3144134277,1013904242,2773480762,1359893119,2600822924,528734635,1541459225⟩
def X8(p:List Nat):List Nat:=(A4D A2c ((N2 p).length / 64) A27 (N2 p)).bytes
def A28(key:List Nat)(x:Nat):List Nat:=(key++List.replicate (64 - key.length) 0).map (· ^^^ x)
def A01(key:List Nat):List Nat:=if 64 < key.length then X8 key else key
def A7y(key p:List Nat):List Nat:=X8 (A28 (A01 key) 92++X8 (A28 (A01 key) 54++p))
theorem B8f:∀ x∈A2c,x < 4294967296:=by decide
theorem A5l:A27.ok:=by unfold S8.ok; decide
theorem Q5{x n:Nat}(h:x < 4294967296):rotr x n < 4294967296:=by unfold rotr;refine Nat.or_lt_two_pow (n:=32) ?_ (Ad _ (by decide));exact Be (Nat.shiftRight_le _ _) h
variable{a b:Nat}
theorem xor32(ha:a < 4294967296)(hb:b < 4294967296):a ^^^ b < 4294967296:=Nat.xor_lt_two_pow (n:=32) ha hb
theorem B4l(ha:a < 4294967296)(hb:b < 4294967296):a ||| b < 4294967296:=Nat.or_lt_two_pow (n:=32) ha hb
theorem A7F(ha:a < 4294967296):a &&& b < 4294967296:=Be Nat.and_le_left ha
theorem B0J{n:Nat}(ha:a < 4294967296):a >>> n < 4294967296:=Be (Nat.shiftRight_le _ _) ha
theorem V1:a % 4294967296 < 4294967296:=Ad _ (by decide)
theorem S8.ok_iff{s:S8}:s.ok ↔ s.a < 4294967296∧s.b < 4294967296∧s.c < 4294967296∧s.d < 4294967296∧s.e < 4294967296∧s.f < 4294967296∧s.g < 4294967296∧s.h < 4294967296:=by simp [S8.ok,S8.list]
theorem S8.ok.step{s:S8}(h:s.ok)(k w:Nat):(s.step k w).ok:=by rw [S8.ok_iff] at h ⊢;obtain ⟨h1,h2,h3,h4,h5,h6,h7,h8⟩:=h;exact ⟨V1,h1,h2,h3,V1,h5,h6,h7⟩
theorem S8.ok.plus(s t:S8):(s.plus t).ok:=by rw [S8.ok_iff];exact ⟨V1,V1,V1,V1,V1,V1,V1,V1⟩
theorem S8.ok.rounds{s:S8}(h:s.ok)(ks ws:List Nat)(n:Nat):(rounds ks ws s n).ok:=by
  induction n with
  | zero=>exact h
  | succ n ih=>exact ih.step _ _
theorem A7G(ks:List Nat)(s:S8)(p:List Nat):(X4 ks s p).ok:=S8.ok.plus _ _
theorem A5m(ks:List Nat):∀ (n:Nat) {s:S8} (p:List Nat),s.ok->(A4D ks n s p).ok
  | 0,_,_,h=>h
  | n+1,s,p,_=>A5m ks n _ (A7G ks s _)
theorem A3J(ks:List Nat):∀ (n:Nat) (s:S8) (p:List Nat),A4D ks (n+1) s p=X4 ks (A4D ks n s p) ((p.drop (64 * n)).take 64)
  | 0,s,p=>by simp [A4D]
  | n+1,s,p=>by rw [A4D,A3J ks n,A4D,List.drop_drop,show 64+64 * n=64 * (n+1) by omega]
theorem A5n(ks:List Nat):∀ (n:Nat) (s:S8) (p q:List Nat),64 * n<=p.length->A4D ks n s (p++q)=A4D ks n s p
  | 0,s,p,q,h=>rfl
  | n+1,s,p,q,h=>by rw [A4D,A4D,List.take_append_of_le_length (by omega),List.drop_append_of_le_length (by omega),A5n ks n _ _ _ (by rw [Bg]; omega)]
variable{p:List Nat}
theorem B8g(h:∀ x∈p,x < 256)(i:Nat):C0y p i < 4294967296:=by have:=λ j=>getD_lt (i:=j) h (by decide);have h0:=this (4 * i); have h1:=this (4 * i+1); have h2:=this (4 * i+2); have h3:=this (4 * i+3);unfold C0y; omega
theorem B4D(h:∀ x∈p,x < 256)(n:Nat):∀ x∈Z8 p n,x < 4294967296:=by intro x hx;obtain ⟨i,_,rfl⟩:=List.mem_map.1 hx;exact B8g h i
theorem A3K(p:List Nat)(n:Nat):(Z8 p n).length=n:=by simp [Z8]
theorem A9B(p:List Nat)(n:Nat):Z8 p (n+1)=Z8 p n++[C0y p n]:=by simp [Z8,List.range_succ]
theorem B8h{w:List Nat}(h:∀ x∈w,x < 4294967296):∀ n,∀ x∈wx w n,x < 4294967296
  | 0,x,hx=>h x hx
  | n+1,x,hx=>by
    rcases List.mem_append.1 hx with hx | hx
    . exact B8h h n x hx
    . simp at hx; subst hx; exact V1
theorem B8i{c d:Nat}(ha:a < 256)(hb:b < 256)(hc:c < 256)(hd:d < 256) :
    ((((a <<< 24) % 4294967296 ||| (b <<< 16) % 4294967296) ||| (c <<< 8) % 4294967296) ||| d)=((a * 256+b) * 256+c) * 256+d:=by
  have e1:a <<< 24=(a <<< 8) <<< 16:=by rw [<- Nat.shiftLeft_add]
  have f1:(a <<< 24) % 4294967296=a <<< 24:=Af (by rw [Nat.shiftLeft_eq]; omega);have f2:(b <<< 16) % 4294967296=b <<< 16:=Af (by rw [Nat.shiftLeft_eq]; omega);have f3:(c <<< 8) % 4294967296=c <<< 8:=Af (by rw [Nat.shiftLeft_eq]; omega);rw [f1,f2,f3]
  have g1:(a <<< 24 ||| b <<< 16)=(a * 256+b) <<< 16:=by rw [e1,<- Nat.shiftLeft_or_distrib,<- Nat.shiftLeft_add_eq_or_of_lt (i:=8) hb,Nat.shiftLeft_eq a 8]
  have g2:((a * 256+b) <<< 16 ||| c <<< 8)=((a * 256+b) * 256+c) <<< 8:=by rw [show (16:Nat)=8+8 from rfl,Nat.shiftLeft_add,<- Nat.shiftLeft_or_distrib,<- Nat.shiftLeft_add_eq_or_of_lt (i:=8) hc,Nat.shiftLeft_eq (a * 256+b) 8]
  rw [g1,g2,<- Nat.shiftLeft_add_eq_or_of_lt (i:=8) hd,Nat.shiftLeft_eq _ 8]
end Go.Px

namespace Go.Proofs.YtjkpfgjfpbihaaaGreatDoor
open Go.Px
theorem X5(x n:Nat)(k:Int)(A:Mem)(hx:x < 4294967296)(h0:0 < n)(hn:n < 32)(hk:k = -(n:Int)):FnV Tryz.prog 158 [.int .u32 (x:Int),.int .i64 k] A (.int .u32 (rotr x n:Nat)):=by refine Ck (N:=17) Tryz.func158 E E E λ w=>?_;refine A9 (D2 0 1) (A1 (as_ (A0 (D2 0 1) (A1 (mv_ ?_)))));refine A2 (A0l (k':=.u64) ((18446744073709551616 - n:Nat):Int) E kR (by unfold IntKind.wrap; simp [IntKind.bits,IntKind.signed]; omega)) E ?_;refine A2 (D7 ((32 - n:Nat):Int) E E ((C3g (k:=.u64) (b:=31) E (by show _ < 2 ^ 64; omega) qD).trans (by rw [Nat.and_two_pow_sub_one_eq_mod _ 5,show (18446744073709551616 - n) % 2 ^ 5=32 - n by omega]))) E ?_;refine as_ (A0 (D2 0 5) (A1 (mv_ (mv_ ?_))));refine A2 (A1b (32 - n) E E E qO) E ?_;refine mv_ (mv_ ?_);refine A2 (D7 ((n:Nat):Int) E E ((C3f (k:=.u64) (a:=32) (b:=32 - n) E n (by show _<=2 ^ 64; omega) (by show (32+(18446744073709551616 - (32 - n))) % 18446744073709551616=n; omega)))) E ?_;refine A2 (T7 n E E E (by show n<=32; omega)) E ?_;refine A2 (A26 E E V1 (B0J hx)) E ?_;refine as_ (A0 (D5 4) (C0 ?_));exact ⟨_,[],[],I0 E E,Aa _,by simp,by rw [Nat.or_comm]; rfl,E,E⟩
abbrev A6z(s:S8):List Value:=[.int .u32 (s.a:Int),.int .u32 (s.b:Int),.int .u32 (s.c:Int),.int .u32 (s.d:Int),.int .u32 (s.e:Int),.int .u32 (s.f:Int),.int .u32 (s.g:Int),.int .u32 (s.h:Int)]
def A3L(s r:S8)(i:Nat):LN:=(s.plus r).list.take i++s.list.drop i
theorem A4N(s r:S8)(i:Nat)(h:i<=8):(A3L s r i).length=8:=by simp [A3L,S8.list]; omega
theorem A9C(s r:S8)(i:Nat)(h:i < 8):(A3L s r i).getD i 0=s.list.getD i 0:=by
  have:i=0∨i=1∨i=2∨i=3∨i=4∨i=5∨i=6∨i=7:=by omega
  rcases this with rfl | rfl | rfl | rfl | rfl | rfl | rfl | rfl <;> rfl
theorem A7H(s r:S8)(i:Nat)(h:i < 8):(A3L s r i).set i ((s.list.getD i 0+r.list.getD i 0) % 4294967296)=A3L s r (i+1):=by
  have:i=0∨i=1∨i=2∨i=3∨i=4∨i=5∨i=6∨i=7:=by omega
  rcases this with rfl | rfl | rfl | rfl | rfl | rfl | rfl | rfl <;> rfl
theorem B0K{w:LN}{us:LN}{i:Nat}(h:w.length=i)(h16:16<=i)(h64:i < 64) :
    ((((w++us).getD (i - 16) 0+sg0 ((w++us).getD (i - 15) 0)) % 4294967296+(w++us).getD (i - 7) 0) % 4294967296+sg1 ((w++us).getD (i - 2) 0)) % 4294967296=B4B w i:=by
  rw [A3o qO,A3o qO,A3o qO,A3o qO]; rfl
theorem A4O(s:S8)(hs0:s.ok)(p:LN)(hb:∀ x∈p,x < 256)(v:Value)(A:Mem)(hv:Rd A 1 v 64 (nums .u8 p)){ek:TypeId}{fk:Nat×Nat}(hk:(1,Obj.cells (nums .u32 A2c).toArray ek fk)∈A) :
  FnV Tryz.prog 121 [.agg (nums .u32 s.list).toArray,v] A (.agg (nums .u32 (X4 A2c s p).list).toArray):=by
 have hg:∀ j,p.getD j 0 < 256:=λ j=>getD_lt hb qD;refine Ck (N:=207) Tryz.func121 E E E λ w=>?_;refine A9 (D2 0 1) (A1 ?_);refine A3 E (B4u (cs:=nums .u32 s.list) E E E λ b2=>?_);refine A3 E (C3 (cs:=[D3,D3,D3,D3,D3,D3,D3,D3]) kR E λ b4=>?_);refine A0 (D6 1 2 4) (A1 ?_);refine A3 E (C3 (cs:=nums .u32 (List.replicate 64 0)) kR E λ b5=>?_);refine A0 (D8 1 2 4 5) (A4 (A1 (mv_ (A0 (E8 1 2 4 5 20) (A8 ?_)))));obtain ⟨bp,op,cp,csp,ep,frp,rfl,hmem,hcs⟩:=hv.nums qD;refine E5 (α:=Nat) (λ i=>[(1,.slice (some ⟨bp,op,none⟩) 64 cp),(2,(vP b2)),(4,(vP b4)),(5,(vP b5)),(20,.int .i64 (i:Int))]) (λ i=>[(b5,blk (nums .u32 (Z8 p i++List.replicate (64 - i) 0)) _),(b4,blk (A6z ⟨0,0,0,0,0,0,0,0⟩) _),(b2,blk (nums .u32 s.list) _)]) (λ _=>[]) (λ i=>i<=16) (λ i=>16 - i) 0 (Am _) (E8 1 2 4 5 20) .rfl qI ?_;intro i hi
 try dsimp only at hi ⊢
 refine A1 ?_;refine A2 (F0 E E E) E ?_;refine A0 (H1 1 2 4 5 20 21) (A4 ?_);refine C4 E ?_ ?_ <;> intro hc
 .
  have hlt:i < 16:=by simp at hc; omega
  refine A6 (nx (E8 1 2 4 5 20) (A4 (A8 (A1 (mv_ (as_ (A0 (H1 1 2 4 5 6 20) ?_)))))));refine A2f (_) [0,1,2,3,4,5,6,7,8,9,10,11,12,13,14,15,16,17,18,19,20,21,22,23,24,25,26,27,28,29,30,31,32,33,34] [(0,0),(1,0),(2,0),(3,0),(4,0),(5,1),(6,0),(7,0),(8,0),(9,0),(10,0),(11,0),(12,0),(13,1),(14,0),(15,0),(16,0),(17,0),(18,0),(19,0),(20,0),(21,0),(22,1),(23,0),(24,0),(25,0),(26,0),(27,0),(28,0),(29,0),(30,0),(31,1),(32,0),(33,0),(34,0),(35,2)] kR kR qI λ hs=>?_;refine L9 hs E qm_ E ?_;refine L9 hs E qm_ E ?_;refine L9 hs E qm_ E ?_;refine L9 hs E (D7 ((4 * i:Nat):Int) E E (A1I qO qO qO)) E ?_;refine L9 hs E (L8 (i:=4 * i) (e:=5) (sz:=1) E E kR kR E qO) E ?_;refine A4A hs E (I2 E kR (mA hmem) (hcs (4 * i) qO)) E ?_;refine L9 hs E (A1K (k':=.u32) E kR (by show _ < 2147483648; have:=hg (4 * i); omega)) E ?_;refine L9 hs E (A1b 24 E E E qD) E ?_;refine L9 hs E qm_ E ?_;refine L9 hs E qm_ E ?_;refine L9 hs E (D7 ((4 * i:Nat):Int) E E (A1I qO qO qO)) E ?_;refine L9 hs E (D7 ((4 * i+1:Nat):Int) E E (F7 qO qO qO)) E ?_;refine L9 hs E (L8 (i:=4 * i+1) (e:=5) (sz:=1) E E kR kR E qO) E ?_;refine A4A hs E (I2 E kR (mA hmem) (hcs (4 * i+1) qO)) E ?_;refine L9 hs E (A1K (k':=.u32) E kR (by show _ < 2147483648; have:=hg (4 * i+1); omega)) E ?_;refine L9 hs E (A1b 16 E E E qD) E ?_;refine L9 hs E (A26 E E V1 V1) E ?_;refine L9 hs E qm_ E ?_;refine L9 hs E qm_ E ?_;refine L9 hs E (D7 ((4 * i:Nat):Int) E E (A1I qO qO qO)) E ?_;refine L9 hs E (D7 ((4 * i+2:Nat):Int) E E (F7 qO qO qO)) E ?_;refine L9 hs E (L8 (i:=4 * i+2) (e:=5) (sz:=1) E E kR kR E qO) E ?_;refine A4A hs E (I2 E kR (mA hmem) (hcs (4 * i+2) qO)) E ?_;refine L9 hs E (A1K (k':=.u32) E kR (by show _ < 2147483648; have:=hg (4 * i+2); omega)) E ?_;refine L9 hs E (A1b 8 E E E qD) E ?_;refine L9 hs E (A26 E E (B4l V1 V1) V1) E ?_;refine L9 hs E qm_ E ?_;refine L9 hs E qm_ E ?_;refine L9 hs E (D7 ((4 * i:Nat):Int) E E (A1I qO qO qO)) E ?_;refine L9 hs E (D7 ((4 * i+3:Nat):Int) E E (F7 qO qO qO)) E ?_;refine L9 hs E (L8 (i:=4 * i+3) (e:=5) (sz:=1) E E kR kR E qO) E ?_;refine A4A hs E (I2 E kR (mA hmem) (hcs (4 * i+3) qO)) E ?_;refine L9 hs E (A1K (k':=.u32) E kR (by show _ < 2147483648; have:=hg (4 * i+3); omega)) E ?_;refine L9 hs E (A26 E E (B4l (B4l V1 V1) V1) (by have:=hg (4 * i+3); omega)) E ?_;refine L9 hs E (G2 (i:=i) (e:=31) (n:=64) (sz:=1) E E kR kR E qO) E ?_;refine A1X E E E (K8 (ws:=Z8 p i++List.replicate (64 - i) 0) i E E kR qO (by simp [A3K]; omega) Cs ?_);refine A6v ?_;refine nb (nx (E8 1 2 4 5 20) (C2 ?_));refine A2 (D7 ((i+1:Nat):Int) E E (F7 qO qO qO)) E ?_;refine mv_ (C6 ?_);refine rn (i+1) qO qO (E8 1 2 4 5 20) (Fit.eq ?_) qI;rw [B8i (hg _) (hg _) (hg _) (hg _),B0G (A3K p i) qO,A9B]; rfl
 .
  have hlt:i=16:=by simp at hc; omega
  subst hlt;refine D9 (te (re (be E (nx (D6 2 4 5) (A4 (A1 (as_ ?_)))))));refine A0 (D8 2 4 5 7) (A8 ?_);generalize hW0:Z8 p 16=W0;have hW0l:W0.length=16:=by rw [<- hW0]; exact A3K _ _
  have hW0b:∀ x∈W0,x < 4294967296:=by rw [<- hW0]; exact B4D hb _
  refine E5 (α:=Nat) (λ i=>[(2,(vP b2)),(4,(vP b4)),(5,(vP b5)),(7,.int .i64 (i:Int))]) (λ i=>[(b5,blk (nums .u32 (wx W0 (i - 16)++List.replicate (64 - i) 0)) _),(b4,blk (A6z ⟨0,0,0,0,0,0,0,0⟩) _),(b2,blk (nums .u32 s.list) _)]) (λ _=>[]) (λ i=>16<=i∧i<=64) (λ i=>64 - i) 16 qD (D8 2 4 5 7) .rfl qI ?_;rintro i ⟨hi,hi2⟩;have hwl:=A6y W0 (i - 16)
  have hwb:∀ j,(wx W0 (i - 16)++List.replicate (64 - i) 0).getD j 0 < 4294967296:=λ j=>getD_lt (λ x hx=>by
   rcases List.mem_append.1 hx with hx | hx
   . exact B8h hW0b _ _ hx
   . rw [(List.mem_replicate.1 hx).2]; decide) qD
  have hll:(wx W0 (i - 16)++List.replicate (64 - i) 0).length=64:=by simp [A6y,hW0l]; omega
  try dsimp only
  refine A4 (A1 (mv_ ?_));refine A2 (F0 E E E) E ?_;refine A0 (E8 2 4 5 7 60) ?_;refine C4 E ?_ ?_ <;> intro hc
  .
   have hlt:i < 64:=by simp at hc; omega
   refine A6 (nx (D8 2 4 5 7) (A4 (A8 ?_)));refine A1W (_) [0,1,2,3,4,5,6,7,8,9] [(0,0),(1,0),(2,0),(3,1),(4,0),(5,0),(6,0),(7,1),(8,0),(9,0)] kR kR qI λ hs=>?_;refine L9 hs E qm_ E ?_;refine L9 hs E (D7 ((i - 15:Nat):Int) E E (W5 qO qO qO)) E ?_;refine L9 hs E (G2 (i:=i - 15) (e:=31) (n:=64) (sz:=1) E E kR kR E qO) E ?_;refine A4A hs E (I6 (i - 15) E kR Cc qO qO) E ?_;refine L9 hs E qm_ E ?_;refine L9 hs E (D7 ((i - 2:Nat):Int) E E (W5 qO qO qO)) E ?_;refine L9 hs E (G2 (i:=i - 2) (e:=31) (n:=64) (sz:=1) E E kR kR E qO) E ?_;refine A4A hs E (I6 (i - 2) E kR Cc qO qO) E ?_;refine L9 hs E (G4 E) E ?_;refine L9 hs E (G4 E) E ?_;refine A3G (H1 2 4 5 7 8 9) ?_;refine A1 (mv_ ?_);refine B4z (aS E (aS E a0)) kR (X5 _ 7 _ _ (hwb _) qD qD E) E ?_;refine mv_ ?_;refine B4z (aS E (aS E a0)) kR (X5 _ 18 _ _ (hwb _) qD qD E) E ?_;refine A2 (V0 E E (Q5 (hwb _)) (Q5 (hwb _))) E ?_;refine mv_ ?_;refine A2 (T7 3 E E E qD) E ?_;refine A2 (V0 E E (xor32 (Q5 (hwb _)) (Q5 (hwb _))) (B0J (hwb _))) E ?_;refine as_ (A0 (H1 2 4 5 7 9 10) (A1 (mv_ ?_)));refine B4z (aS E (aS E a0)) kR (X5 _ 17 _ _ (hwb _) qD qD E) E ?_;refine mv_ ?_;refine B4z (aS E (aS E a0)) kR (X5 _ 19 _ _ (hwb _) qD qD E) E ?_;refine A2 (V0 E E (Q5 (hwb _)) (Q5 (hwb _))) E ?_;refine mv_ ?_;refine A2 (T7 10 E E E qD) E ?_;refine A2 (V0 E E (xor32 (Q5 (hwb _)) (Q5 (hwb _))) (B0J (hwb _))) E ?_;refine as_ (A0 (H1 2 4 5 7 10 11) ?_);refine A2f (_) [0,1,2,3,4,5,6,7,8,9,10,11,12,13,14] [(0,0),(1,0),(2,0),(3,0),(4,1),(5,0),(6,0),(7,0),(8,0),(9,0),(10,1),(11,0),(12,0),(13,0),(14,0),(15,2)] kR kR qI λ hs=>?_;refine L9 hs E qm_ E ?_;refine L9 hs E qm_ E ?_;refine L9 hs E (D7 ((i - 16:Nat):Int) E E (W5 qO qO qO)) E ?_;refine L9 hs E (G2 (i:=i - 16) (e:=31) (n:=64) (sz:=1) E E kR kR E qO) E ?_;refine A4A hs E (I6 (i - 16) E kR Cc qO qO) E ?_;refine L9 hs E qm_ E ?_;refine L9 hs E (A0n E E) E ?_;refine L9 hs E qm_ E ?_;refine L9 hs E (D7 ((i - 7:Nat):Int) E E (W5 qO qO qO)) E ?_;refine L9 hs E (G2 (i:=i - 7) (e:=31) (n:=64) (sz:=1) E E kR kR E qO) E ?_;refine A4A hs E (I6 (i - 7) E kR Cc qO qO) E ?_;refine L9 hs E (A0n E E) E ?_;refine L9 hs E qm_ E ?_;refine L9 hs E (A0n E E) E ?_;refine L9 hs E (G2 (i:=i) (e:=31) (n:=64) (sz:=1) E E kR kR E qO) E ?_;refine A1X E E E (K8 (ws:=wx W0 (i - 16)++List.replicate (64 - i) 0) i E E kR qO qO Cs ?_);refine A6v ?_;refine nb (nx (D8 2 4 5 7) (C2 (mv_ ?_)));refine A2 (D7 ((i+1:Nat):Int) E E (F7 qO qO qO)) E ?_;refine as_ (C6 ?_);refine rn (i+1) ⟨by omega,by omega⟩ qO (D8 2 4 5 7) (Fit.eq ?_) qI;have e:=B0K (us:=List.replicate (64 - i) 0) (show (wx W0 (i - 16)).length=i by omega) hi hlt;unfold sg0 sg1 at e;rw [e,B0G qO hlt,show i+1 - 16=(i - 16)+1 by omega,wx,show W0.length+(i - 16)=i by omega]
  .
   have hlt:i=64:=by simp at hc; omega
   subst hlt;refine D9 (te (re (be E (nx (D6 2 4 5) (A1 ?_)))));refine B0y (n:=8) E kR qR E ?_;refine A3 E (C3 (cs:=[D3,D3,D3,D3,D3,D3,D3,D3]) kR E λ b12=>?_);refine A8r E E kR qR E9 ?_;refine A0 (D8 2 4 5 12) (A4 (A1 (mv_ (A0 (E8 2 4 5 12 103) (A8 ?_)))));generalize hW:wx W0 48=W;have hWl:W.length=64:=by rw [<- hW,A6y]; omega
   have hWb:∀ j,W.getD j 0 < 4294967296:=λ j=>getD_lt (by rw [<- hW]; exact B8h hW0b _) qD;have hkt:∀ j,A2c.getD j 0 < 4294967296:=λ j=>getD_lt B8f qD;refine E5 (α:=Nat) (λ i=>[(2,(vP b2)),(4,(vP b4)),(5,(vP b5)),(12,(vP b12)),(103,.int .i64 (i:Int))]) (λ i=>[(b12,blk (A6z (rounds A2c W s i)) _),(b5,blk (nums .u32 W) _),(b4,blk (A6z ⟨0,0,0,0,0,0,0,0⟩) _),(b2,blk (nums .u32 s.list) _)]) (λ _=>[]) (λ i=>i<=64) (λ i=>64 - i) 0 (Am _) (E8 2 4 5 12 103) (Fit.eq (by rw [show List.replicate (64 - 64) 0=[] from rfl,List.append_nil]; rfl)) qI ?_;intro i hi;have hro:=hs0.rounds A2c W i;generalize hr:rounds A2c W s i=r at hro;rw [S8.ok_iff] at hro;obtain ⟨ra,rb,rc,rd,re',rf,rg,rh⟩:=hro
   try dsimp only at hi ⊢
   refine A1 ?_;refine A2 (F0 E E E) E ?_;refine A0 (H1 2 4 5 12 103 104) (A4 ?_);refine C4 E ?_ ?_ <;> intro hc
   .
    have hlt:i < 64:=by simp at hc; omega
    refine A6 (nx (E8 2 4 5 12 103) (A4 (A8 (A1 (mv_ (as_ (A0 (H1 2 4 5 12 13 103) ?_)))))));refine A1W (_) [0,1,2,3,4,5,6,7,8,10,11] [(0,0),(1,1),(3,0),(4,1),(7,0),(8,1),(2,2),(5,2),(6,0),(9,2),(10,0),(11,0)] kR kR qI λ hs=>?_;refine L9 hs E (G2 (i:=4) (e:=31) (n:=8) (sz:=1) E E kR kR E qD) E ?_;refine A4A hs E (I2 E kR Cc qR) E ?_;refine L9 hs E (G2 (i:=4) (e:=31) (n:=8) (sz:=1) E E kR kR E qD) E ?_;refine A4A hs E (I2 E kR Cc qR) E ?_;refine L9 hs E (G2 (i:=4) (e:=31) (n:=8) (sz:=1) E E kR kR E qD) E ?_;refine A4A hs E (I2 E kR Cc qR) E ?_;refine B4x E E (R8 (aS E (aS E a0)) kR (X5 _ 6 _ _ re' qD qD E) E ⟨λ _ h=>h,?_⟩);refine B4x E E (R8 (aS E (aS E a0)) kR (X5 _ 11 _ _ re' qD qD E) E ⟨λ _ h=>h,?_⟩);refine L9 hs E (V0 E E (Q5 re') (Q5 re')) E ?_;refine A1X E E E (R8 (aS E (aS E a0)) kR (X5 _ 25 _ _ re' qD qD E) E ?_);refine L9 hs E (V0 E E (xor32 (Q5 re') (Q5 re')) (Q5 re')) E ?_;refine L9 hs E (G4 E) E ?_;refine A3G (N9 2 4 5 12 13 14 103) ?_;refine A1 ?_;refine A2 (G2 (i:=4) (e:=31) (n:=8) (sz:=1) E E kR kR E qD) E ?_;refine A08 E kR qR E ?_;refine A2 (G2 (i:=5) (e:=31) (n:=8) (sz:=1) E E kR kR E qD) E ?_;refine A08 E kR qR E ?_;refine A2 (A3H E E re' rf) E ?_;refine A2 (G2 (i:=4) (e:=31) (n:=8) (sz:=1) E E kR kR E qD) E ?_;refine A08 E kR qR E ?_;refine A2 (B8d E re') E ?_;refine A2 (G2 (i:=6) (e:=31) (n:=8) (sz:=1) E E kR kR E qD) E ?_;refine A08 E kR qR E ?_;refine A2 (A3H E E (xor32 qD re') rg) E ?_;refine A2 (V0 E E (A7F re') (A7F (xor32 qD re'))) E ?_;refine as_ (A0 (W4 2 4 5 12 13 14 15 103) ?_);refine A1W (_) [0,1,2,3,4,5,6,7,8,9,10,11,12,13,14] [(0,0),(1,1),(2,0),(3,0),(4,0),(5,0),(6,0),(7,0),(8,1),(9,0),(10,0),(11,0),(12,1),(13,0),(14,0)] kR kR qI λ hs=>?_;refine L9 hs E (G2 (i:=7) (e:=31) (n:=8) (sz:=1) E E kR kR E qD) E ?_;refine A4A hs E (I2 E kR Cc qR) E ?_;refine L9 hs E qm_ E ?_;refine L9 hs E (A0n E E) E ?_;refine L9 hs E qm_ E ?_;refine L9 hs E (A0n E E) E ?_;refine L9 hs E qm_ E ?_;refine L9 hs E (G2 (i:=i) (e:=31) (n:=64) (sz:=1) E E kR kR E qO) E ?_;refine A4A hs E (I6 i E kR (mA hk) qO (show i < 64 from hlt)) E ?_;refine L9 hs E (A0n E E) E ?_;refine L9 hs E qm_ E ?_;refine L9 hs E (G2 (i:=i) (e:=31) (n:=64) (sz:=1) E E kR kR E qO) E ?_;refine A4A hs E (I6 i E kR Cc qO qO) E ?_;refine L9 hs E (A0n E E) E ?_;refine L9 hs E (G4 E) E ?_;refine A3G (H1 2 4 5 12 16 103) ?_;refine A1W (_) [0,1,2,3,4,5,6,7,8,10,11] [(0,0),(1,1),(3,0),(4,1),(7,0),(8,1),(2,2),(5,2),(6,0),(9,2),(10,0),(11,0)] kR kR qI λ hs=>?_;refine L9 hs E (G2 (i:=0) (e:=31) (n:=8) (sz:=1) E E kR kR E qD) E ?_;refine A4A hs E (I2 E kR Cc qR) E ?_;refine L9 hs E (G2 (i:=0) (e:=31) (n:=8) (sz:=1) E E kR kR E qD) E ?_;refine A4A hs E (I2 E kR Cc qR) E ?_;refine L9 hs E (G2 (i:=0) (e:=31) (n:=8) (sz:=1) E E kR kR E qD) E ?_;refine A4A hs E (I2 E kR Cc qR) E ?_;refine B4x E E (R8 (aS E (aS E a0)) kR (X5 _ 2 _ _ ra qD qD E) E ⟨λ _ h=>h,?_⟩);refine B4x E E (R8 (aS E (aS E a0)) kR (X5 _ 13 _ _ ra qD qD E) E ⟨λ _ h=>h,?_⟩);refine L9 hs E (V0 E E (Q5 ra) (Q5 ra)) E ?_;refine A1X E E E (R8 (aS E (aS E a0)) kR (X5 _ 22 _ _ ra qD qD E) E ?_);refine L9 hs E (V0 E E (xor32 (Q5 ra) (Q5 ra)) (Q5 ra)) E ?_;refine L9 hs E (G4 E) E ?_;refine A3G (N9 2 4 5 12 16 17 103) ?_;refine A1 ?_;refine A2 (G2 (i:=0) (e:=31) (n:=8) (sz:=1) E E kR kR E qD) E ?_;refine A08 E kR qR E ?_
    refine A2 (G2 (i:=1) (e:=31) (n:=8) (sz:=1) E E kR kR E qD) E ?_;refine A08 E kR qR E ?_;refine A2 (A3H E E ra rb) E ?_;refine A2 (G2 (i:=0) (e:=31) (n:=8) (sz:=1) E E kR kR E qD) E ?_;refine A08 E kR qR E ?_;refine A2 (G2 (i:=2) (e:=31) (n:=8) (sz:=1) E E kR kR E qD) E ?_;refine A08 E kR qR E ?_;refine A2 (A3H E E ra rc) E ?_;refine A2 (V0 E E (A7F ra) (A7F ra)) E ?_;refine A2 (G2 (i:=1) (e:=31) (n:=8) (sz:=1) E E kR kR E qD) E ?_;refine A08 E kR qR E ?_;refine A2 (G2 (i:=2) (e:=31) (n:=8) (sz:=1) E E kR kR E qD) E ?_;refine A08 E kR qR E ?_;refine A2 (A3H E E rb rc) E ?_;refine A2 (V0 E E (xor32 (A7F ra) (A7F ra)) (A7F rb)) E ?_;refine as_ (A0 (W4 2 4 5 12 16 17 18 103) (C2 (mv_ (mv_ ?_))));refine A2 (A0n E E) E ?_;refine mv_ ?_;refine A2 (A0n E E) E ?_;refine A2 (G2 (i:=0) (e:=31) (n:=8) (sz:=1) E E kR kR E qD) E ?_;refine A08 E kR qR E ?_;refine A2 (G2 (i:=1) (e:=31) (n:=8) (sz:=1) E E kR kR E qD) E ?_;refine A08 E kR qR E ?_;refine A2 (G2 (i:=2) (e:=31) (n:=8) (sz:=1) E E kR kR E qD) E ?_;refine A08 E kR qR E ?_;refine A2 (G2 (i:=3) (e:=31) (n:=8) (sz:=1) E E kR kR E qD) E ?_;refine A08 E kR qR E ?_;refine mv_ ?_;refine A2 (A0n E E) E ?_;refine A2 (G2 (i:=4) (e:=31) (n:=8) (sz:=1) E E kR kR E qD) E ?_;refine A08 E kR qR E ?_;refine A2 (G2 (i:=5) (e:=31) (n:=8) (sz:=1) E E kR kR E qD) E ?_;refine A08 E kR qR E ?_;refine A2 (G2 (i:=6) (e:=31) (n:=8) (sz:=1) E E kR kR E qD) E ?_;refine A08 E kR qR E ?_;refine A2 (F1 (place:=λ i=>some (i * 1,1)) (z:=[D3,D3,D3,D3,D3,D3,D3,D3]) (λ _=>by kernel_rfl) (eS E (eS E (eS E (eS E (eS E (eS E (eS E (eS E e0)))))))) (bdS 0 1 E qR (bdS 1 1 E qR (bdS 2 1 E qR (bdS 3 1 E qR (bdS 4 1 E qR (bdS 5 1 E qR (bdS 6 1 E qR (bdS 7 1 E qR bd0))))))))) E ?_;refine A8r E E kR qR (by simp [Value.oneCell']) ?_;refine C6 (nb (nx (E8 2 4 5 12 103) (C2 ?_)));refine A2 (D7 ((i+1:Nat):Int) E E (F7 qO qO qO)) E ?_;refine mv_ (C6 ?_);refine rn (i+1) qO qO (E8 2 4 5 12 103) (Fit.eq ?_) qI;rw [rounds,hr]; rfl
   .
    have hlt:i=64:=by simp at hc; omega
    subst hlt;refine D9 (te (re (be E (nx (D6 2 4 12) (A4 (A1 (mv_ ?_)))))));refine A0 (D8 2 4 12 194) (A8 ?_);refine E5 (α:=Nat) (λ i=>[(2,(vP b2)),(4,(vP b4)),(12,(vP b12)),(194,.int .i64 (i:Int))]) (λ i=>[(b12,blk (nums .u32 r.list) _),(b5,blk (nums .u32 W) _),(b4,blk (A6z ⟨0,0,0,0,0,0,0,0⟩) _),(b2,blk (nums .u32 (A3L s r i)) _)]) (λ _=>[]) (λ i=>i<=8) (λ i=>8 - i) 0 (Am _) (D8 2 4 12 194) .rfl qI ?_;intro i hi
    try dsimp only at hi ⊢
    refine A1 ?_;refine A2 (F0 E E E) E ?_;refine A0 (E8 2 4 12 194 195) (A4 ?_);refine C4 E ?_ ?_ <;> intro hc
    .
     have hlt:i < 8:=by simp at hc; omega
     refine A6 (nx (D8 2 4 12 194) (A4 (A8 (A1 (mv_ (as_ (A0 (E8 2 4 12 19 194) ?_)))))));refine A2f (_) [0,1,2,3,4,5,6,7] [(0,0),(1,0),(2,1),(3,0),(4,0),(5,1),(6,0),(7,0),(8,2)] kR kR qI λ hs=>?_;refine L9 hs E qm_ E ?_;refine L9 hs E (G2 (i:=i) (e:=31) (n:=8) (sz:=1) E E kR kR E qO) E ?_;refine A4A hs E (I6 i E kR Cc qO (by rw [A4N _ _ _ hi]; exact hlt)) E ?_;refine L9 hs E qm_ E ?_;refine L9 hs E (G2 (i:=i) (e:=31) (n:=8) (sz:=1) E E kR kR E qO) E ?_;refine A4A hs E (I6 i E kR Cc qO (show i < 8 from hlt)) E ?_;refine L9 hs E (A0n E E) E ?_;refine L9 hs E (G2 (i:=i) (e:=31) (n:=8) (sz:=1) E E kR kR E qO) E ?_;refine A1X E E E (K8 (ws:=A3L s r i) i E E kR qO (by rw [A4N _ _ _ hi]; exact hlt) Cs ?_);refine A6v ?_;refine nb (nx (D8 2 4 12 194) (C2 ?_));refine A2 (D7 ((i+1:Nat):Int) E E (F7 qO qO qO)) E ?_;refine mv_ (C6 ?_);refine rn (i+1) qO qO (D8 2 4 12 194) (Fit.eq ?_) qI;rw [A9C _ _ _ hlt,A7H _ _ _ hlt]
    .
     have hlt:i=8:=by simp at hc; omega
     subst hlt;refine D9 (te (re (be E (nx (D2 2 4) (A1 ?_)))));refine B0y (n:=8) E kR qR E ?_;refine A8r E E kR qR E9 ?_;refine A0 (D5 4) (C0 ?_);refine ⟨_,[],[],A00 (n:=8) E E kR m2 E,Aa _,by simp,?_,E,E⟩;unfold X4; rw [hW0,hW,hr]; rfl

end Go.Proofs.YtjkpfgjfpbihaaaGreatDoor
namespace Go.Px
variable{M:Mem}{x:Nat×Obj}
theorem Fit.head1'{D:Mem}{E0_:Mem}(h:E0_.Sublist D):Fit (M++(x::D)) (M++E0_):=Fit.sub (List.Sublist.append (List.Sublist.refl _) (.cons _ h))
variable{B:Mem}
theorem pkB0:(x::B).Perm (B++[x]):=(List.perm_append_comm (l₁:=[x]))
def vHi(h:Nat):Value->Value
  | .slice p _ c=>.slice p h c
  | v=>v
def vLo(k sz:Nat):Value->Value
  | .slice p n c=>.slice (if c=k then p else p.map (·.add (k * sz))) (n - k) (c - k)
  | v=>v
def vAt(sz:Nat)(i:Nat):Value->Value
  | .slice (some a) _ _=>.pointer (some (a.add (i * sz)))
  | v=>v
variable{R:Mem}{sz n:Nat}{v:Value}{xs:List Value}
theorem Rd.hiV(h:Rd R sz v n xs)(k:Nat)(hk:k<=n):Rd R sz (vHi k v) k (xs.take (k * sz)):=by obtain ⟨p,c,rfl,h2,h3,h4⟩:=h;exact Rd.hi ⟨p,c,E,h2,h3,h4⟩ k hk
theorem Rd.loV(h:Rd R sz v n xs)(k:Nat)(hk:k<=n):Rd R sz (vLo k sz v) (n - k) (xs.drop (k * sz)):=by obtain ⟨p,c,rfl,h2,h3,h4⟩:=h;exact Rd.lo ⟨p,c,E,h2,h3,h4⟩ k hk
theorem Sl.hiV(h:Sl sz v n xs B)(k:Nat)(hk:k<=n):Sl sz (vHi k v) k (xs.take (k * sz)) B:=by obtain ⟨p,c,rfl,_⟩:=h.val;exact h.hi k hk
theorem Sl.loV(h:Sl sz v n xs B)(k:Nat)(hk:k<=n):∃ B',B'.Sublist B∧Sl sz (vLo k sz v) (n - k) (xs.drop (k * sz)) B':=by obtain ⟨p,c,rfl,_⟩:=h.val;exact h.lo k hk
theorem Rd.len(h:Rd R sz v n xs):xs.length=n * sz:=by obtain ⟨p,c,rfl,h2,h3,h4⟩:=h; exact h2
def slE(P:Program)(t:TypeId):Option Nat :=
  match P.underlying t with
  | some (.slice e)=>P4 P e
  | _=>none
variable{t:TypeId}
theorem A2k{P:Program}(h:slE P t=some sz):∃ e,P.underlying t=some (.slice e)∧P4 P e=some sz:=by
  unfold slE at h;split at h
  . rename_i e hu; exact ⟨e,hu,h⟩
  . cases h
variable{k:IntKind}{i:Int}{j m b:Nat}{u:Value}{ws:List Nat}{cs:List Value}
section rules
variable{P:Program}{R:Mem}{l:Env}{d:Option Nat}{ty t t' e:TypeId}{pos:String}{af:Array Edge}{g:Option (Nat×Bool)}{x y z:Operand}{v:Value}{sz n:Nat}{xs:List Value}{R':Mem}
theorem A02(h:Rd R' sz v n xs)(hx:ev l x=some v)(hu:slE P t=some sz) :
    OpQ P R ⟨d,.call { callee:=.builtin .len,args:=#[x],argTypes:=#[t] },ty,pos,af,g⟩ l (.int .i64 n):=by
  obtain ⟨p,c,rfl,_⟩:=h;obtain ⟨e,hu,hs⟩:=A2k hu;exact A0Z hx hu
theorem B8j(h:Rd R' sz v n xs)(hx:ev l x=some v)(hy:ev l y=some (.int k i))(hu:slE P t=some sz)(j:Nat)(hi:i=j)(hj:j<=n) :
    OpQ P R ⟨d,.slice t x none (some y) none,ty,pos,af,g⟩ l (vHi j v):=by
  obtain ⟨p,c,rfl,h2,h3,h4⟩:=h;obtain ⟨e,hu,hs⟩:=A2k hu;exact B6Z hx hy hu hs hi (by omega)
theorem B8k(h:Rd R' sz v n xs)(hx:ev l x=some v)(hy:ev l y=some (.int k i))(hu:slE P t=some sz)(j:Nat)(hi:i=j)(hj:j<=n) :
    OpQ P R ⟨d,.slice t x (some y) none none,ty,pos,af,g⟩ l (vLo j sz v):=by
  obtain ⟨p,c,rfl,h2,h3,h4⟩:=h;obtain ⟨e,hu,hs⟩:=A2k hu;exact B61 hx hy hu hs hi (by omega) (by omega)
theorem C3h(h:Rd R' sz v n xs)(hx:ev l x=some v){k':IntKind}{i':Int}(hy:ev l y=some (.int k i))(hz:ev l z=some (.int k' i'))(hu:slE P t=some sz)(a b:Nat)(hi:i=a)(hi':i'=b)(hab:a<=b)(hb:b<=n) :
    OpQ P R ⟨d,.slice t x (some y) (some z) none,ty,pos,af,g⟩ l (vLo a sz (vHi b v)):=by
  obtain ⟨p,c,rfl,h2,h3,h4⟩:=h;obtain ⟨e,hu,hs⟩:=A2k hu;exact B62 hx hy hz hu hs hi hi' (by omega) (by omega)
theorem B4E(h:Rd R' sz v n xs)(hx:ev l x=some v)(hy:ev l y=some (.int k i))(hu:slE P t=some sz)(j:Nat)(hi:i=j)(hj:j < n) :
    OpQ P R ⟨d,.indexAddr t x y,ty,pos,af,g⟩ l (vAt sz j v):=by
  obtain ⟨p,c,rfl,h2,h3,h4⟩:=h;rcases h4 with h4 | ⟨b,o,cs,e',fr,rfl,hb,hx'⟩
  . omega
  . obtain ⟨e,hu,hs⟩:=A2k hu;simp only [vAt,Addr.add_mid]; exact L8 hx hy hu hs hi hj
theorem Y9(h:Rd R 1 v n xs)(hx:ev l x=some (vAt 1 j v))(ht:A0j P t=true)(hj:xs[j]? = some u):OpQ P R ⟨d,.load t x,ty,pos,af,g⟩ l u:=by
  obtain ⟨p,c,rfl,h2,h3,h4⟩:=h;have:=(Ac.1 hj).1;rcases h4 with h4 | ⟨b,o,cs,e',fr,rfl,hb,hx'⟩
  . omega
  . simp only [vAt,Addr.add_mid] at hx;refine I2 (b:=b) (o:=o+j * 1) hx ht hb ?_;rw [Nat.mul_one]; exact hx' j u hj
theorem A4P(h:Rd R 1 v n (nums k ws))(hx:ev l x=some (vAt 1 j v))(ht:A0j P t=true)(hj:j < n):OpQ P R ⟨d,.load t x,ty,pos,af,g⟩ l (.int k ((ws.getD j 0:Nat):Int)) :=
  Y9 h hx ht (V9 (by have:=h.len; simp at this; omega))
theorem A5o(hx:ev l x=some (.agg cs.toArray))(hy:ev l y=some (.int k i))(hu:P.underlying t=some (.array m e))(hs:P4 P e=some 1)(he:A0j P e=true)(hi:i=j)(hj:j < m)(hu':cs[j]? = some u) :
    OpQ P R ⟨d,.index t x y,ty,pos,af,g⟩ l u:=λ N a w ha hw=>by
  subst hi;unfold P4 at hs
  cases hq:P.info? e with
  | none=>simp [hq] at hs
  | some inf =>
    simp only [hq,Option.map_some,Option.some.injEq] at hs
    have h1:(0:Int)<=(j:Int)∧(j:Int) < (m:Int):=⟨by omega,by omega⟩
    simp only [execOp,ha.ev hx,ha.ev hy,Instr.index,asIntOf,Sem.run_bind,Sem.run_pure,Result.andThen_ok,run_underlying hu];simp [h1,sizeOf,typeInfo,hq,hs,part,A24 he,hu']
theorem B4F(hx:ev l x=some (.pointer (some ⟨b,0,none⟩)))(hu:P.underlying t=some (.array m e))(hs:P4 P e=some sz) :
    OpQ P R ⟨d,.slice t x none none none,ty,pos,af,g⟩ l (.slice (some ⟨b,0,none⟩) m m):=λ N a w ha hw=>by
  unfold P4 at hs
  cases hq:P.info? e with
  | none=>simp [hq] at hs
  | some inf =>
    simp only [execOp,ha.ev hx,Instr.sliceAt,Instr.sureAddr,Sem.run_bind,Sem.run_pure,run_underlying hu,Result.andThen_ok];have:=V8 (P:=P) (lo:=none) (hi:=none) (mx:=none) ha o0 o0 o0 false m m w (by simp) (by simp) (by simp) (by simp);simp only [Option.map_none] at this ⊢;simp only [this,Result.andThen_ok];simp [sizeOf,typeInfo,hq,Addr.add]
end rules
def txt(ws:List Nat):ByteArray:=⟨(ws.map UInt8.ofNat).toArray⟩
theorem B4G(ns:List Nat):∀ s:ByteArray,(ns.map λ n:Nat=>(n:Int)).foldl (λ r n=>r.push (UInt8.ofNat n.toNat)) s=s++txt ns:=by
  induction ns with
  | nil=>intro s; apply ByteArray.ext; simp [txt,ByteArray.data_append]
  | cons n ns ih =>
    intro s;simp only [List.map_cons,List.foldl_cons,ih];apply ByteArray.ext;simp [txt,ByteArray.data_append]
section texts
variable{P:Program}{R:Mem}{l:Env}{d:Option Nat}{ty s t e:TypeId}{pos:String}{af:Array Edge}{g:Option (Nat×Bool)}{x y:Operand}{v:Value}{n:Nat}
def B0L(P:Program)(s t:TypeId):Bool :=
  match P.underlying s,P.underlying t with
  | some (.slice e),some .string=>match P.underlying e with
    | some (.int .u8)=>true
    | _=>false
  | _,_=>false
theorem A3M(h:Rd R 1 v n (nums .u8 ws))(hx:ev l x=some v)(hc:B0L P s t=true):OpQ P R ⟨d,.convert s t x,ty,pos,af,g⟩ l (.string (txt ws)):=λ N a w ha hw=>by
  unfold B0L at hc;split at hc <;> try cases hc
  rename_i e h1 h2;split at hc <;> try cases hc
  rename_i h3;obtain ⟨p,c,rfl,hl,hcc,hb⟩:=h;have hn:ws.length=n:=by simpa using hl
  have he:nums .u8 ws=(ws.map λ n:Nat=>(n:Int)).map (Value.int .u8):=by simp [nums]
  simp only [execOp,ha.ev hx,Sem.run_bind,run_convert_bytes_string w s t e _ _ _ h1 h3 h2]
  cases p with
  | none =>
    rcases hb with hb | ⟨b,o,cs,e',fr,hp,hb,hx'⟩
    . have:ws=[]:=Bd (by omega);subst this;simp [Conv.bytesToString,Sem.run_pure,txt]; rfl
    . cases hp
  | some ad =>
    have hload:(loadCells ad n).run P w=.ok (nums .u8 ws).toArray w:=by
      rcases hb with hb | ⟨b,o,cs,e',fr,hp,hb,hx'⟩
      . have:ws=[]:=Bd (by omega);subst this; subst hb;simp [loadCells,loadCellsFrom,nums]
      . cases hp;have:=run_loadCells_list (P:=P) w ⟨b,o,none⟩ (nums .u8 ws) (λ j v hv=>by rw [Addr.add_mid,A1V hw hb]; simpa using hx' j v hv);rw [nums_len,hn] at this;exact this
    rw [he] at hload;rw [run_bytesToString w ad n c _ hload,B4G];simp [Sem.run_pure]
theorem A8w{t':TypeId}{a b:ByteArray}(hx:ev l x=some (.string a))(hy:ev l y=some (.string b))(h:a=b):OpQ P R ⟨d,.binOp .eql t x y t',ty,pos,af,g⟩ l (.bool true):=by have:=A7A (P:=P) (R:=R) (d:=d) (ty:=ty) (pos:=pos) (af:=af) (g:=g) (t:=t) (t':=t') hx hy;rw [h] at this;simpa using this
theorem A7I{a b:List Nat}(ha:∀ x∈a,x < 256)(hb:∀ x∈b,x < 256)(h:txt a=txt b):a=b:=by
  have h1:a.map UInt8.ofNat=b.map UInt8.ofNat:=by have:=congrArg ByteArray.data h;simpa [txt] using this
  have h2:=congrArg (List.map UInt8.toNat) h1;simp only [List.map_map] at h2
  have key:∀ l:List Nat,(∀ x∈l,x < 256)->List.map (UInt8.toNat ∘ UInt8.ofNat) l=l:=by
    intro l hl
    conv=>rhs; rw [<- List.map_id l]
    refine Bt λ x hx=>?_;have:=hl x hx;simp; omega
  rwa [key a ha,key b hb] at h2
theorem A9D(a b:List Nat):txt a++txt b=txt (a++b):=by apply ByteArray.ext;simp [txt,ByteArray.data_append]
end texts
variable{e':TypeId}{M':Mem}{by_:Nat}
section loud
variable{C:Cx}{l:Env}{M J:Mem}{K:Env->Mem->Mem->Prop}{ty t e:TypeId}{pos:String}{af:Array Edge}{g:Option (Nat×Bool)}{x y:Operand}{d:Nat}
def C0Q(P:Program)(t:TypeId):Bool :=
  match P.underlying t with
  | some (.slice e)=>match P.underlying e with
    | some (.int .u8)=>true
    | _=>false
  | _=>false
theorem A3N{c:Nat}(hx:ev l x=some (.slice (some ⟨b,0,none⟩) n c))(hc:C0Q C.P t=true)(hu:Upd M b (blk cs e') (.cells cs.toArray e' (cs.length,cs.length+1)) M')
    (hd:Nat.blt d C.N=true) (k:K ((d,.slice (some ⟨b,0,none⟩) n c)::l) M' J):OpL C ⟨some d,.convert t t x,ty,pos,af,g⟩ l M J K:=by
  intro Qp a w ha hw;unfold C0Q at hc;split at hc <;> try cases hc
  rename_i e h1;split at hc <;> try cases hc
  rename_i h2;have hb:=hw.mem _ _ (Ae _ hu.mem);have hsh:w.shape? b=some (e',cs.length):=by unfold World.shape?; rw [hb]; simp [blk]
  have hlt:=T0 hb
  have hrun:(execOp a.eval ⟨some d,.convert t t x,ty,pos,af,g⟩).run C.P w=.ok (.value (.slice (some ⟨b,0,none⟩) n c)) (w.freeze ⟨b,cs.length,none⟩ 1):=by simp [execOp,ha.ev hx,convert,run_underlying h1,run_underlying h2,markStringish,hsh]
  unfold Oper.wp;rw [hrun];refine ⟨_,M',J,ha.put (P2 hd) _,hw.upd hu ?_ ?_ ?_ E E E,k⟩
  . simp only [World.freeze];rw [if_neg (by decide)];simp [Array.getElem?_modify,hb,blk]
  . intro j hj;simp only [World.freeze];rw [if_neg (by decide)];simp [Array.getElem?_modify,Ne.symm hj]
  . simp [World.freeze]
theorem B67{us ws':List Nat}(hx:ev l x=some (.slice (some ⟨b,0,none⟩) m m))(hy:ev l y=some u)(ht:A1H C.P t=some (e,1,by_))
    (hr:Rd (M++(J++C.A)) 1 u n (nums k us)) (hn:n<=m) (hm:ws.length=m) (hw':ws'=us++ws.drop n) (hu:Upd M b (blk (nums k ws) e') (blk (nums k ws') e') M') (hd:Nat.blt d C.N=true) (h:K ((d,.int .i64 n)::l) M' J) :
    OpL C ⟨some d,.call { callee:=.builtin .copy,args:=#[x,y],argTypes:=#[t,t] },ty,pos,af,g⟩ l M J K:=by
  intro Qp a w ha hw;obtain ⟨i,z,hut,hi,hz,hzs,his,hib⟩:=T4 ht;obtain ⟨pu,cu,rfl,hul,huc,hub⟩:=hr
  have hru:Rd (M++(J++C.A)) 1 (.slice pu n cu) n (nums k us):=⟨pu,cu,E,hul,huc,hub⟩
  have hb:=hw.mem _ _ (Ae _ hu.mem);have hf:=A3k (P:=C.P) (m:=n) (c2:=cu) hru hw.fx;have hus:us.length=n:=by simpa using hul
  have hst:=run_storeCells_at (P:=C.P) b 0 e' (nums k us) 0 (nums k ws).toArray w hb (by simp [hus,hm]; exact hn) E9;simp only [Nat.add_zero,Nat.zero_add,List.take_zero,List.nil_append,nums_len,hus] at hst;rw [<- A0J,<- H8,<- hw'] at hst
  have hrun:(execOp a.eval ⟨some d,.call { callee:=.builtin .copy,args:=#[x,y],argTypes:=#[t,t] },ty,pos,af,g⟩).run C.P w=.ok (.value (.int .i64 n)) (w.setRow b (nums k ws').toArray):=by simp [execOp,resolve,invoke,builtin,ha.ev hx,ha.ev hy,Builtin.copy_,run_underlying hut,sizeOf,typeInfo,hi,his,Builtin.lenOf,Nat.min_eq_left hn,hf,hst,goInt]
  unfold Oper.wp;rw [hrun];exact ⟨_,M',J,ha.put (P2 hd) _,hw.setRow hu,h⟩
end loud
variable{e:TypeId}
theorem Sl.fresh(h:cs.length=n * sz)(hn:n<=maxLen):Sl sz (.slice (some ⟨b,0,none⟩) n n) n cs [(b,blk cs e)] :=
  .inr ⟨b,0,n,cs,e,E,E,Av _,hn,by omega,h,λ j u hj=>by rwa [Nat.zero_add]⟩
theorem Rd.cel(h:Rd R sz v n xs):Cel v [v]:=by obtain ⟨p,c,rfl,_⟩:=h; exact ⟨E⟩
theorem Sl.cel(h:Sl sz v n xs B):Cel v [v]:=by obtain ⟨p,c,rfl,_⟩:=h.val; exact ⟨E⟩
def mkT(P:Program)(t:TypeId):Option (TypeId×IntKind×Nat) :=
  match P.underlying t with
  | some (.slice e)=>match P.info? e with
    | some i=>match i.zero with
      | some (.int k 0)=>if i.size=1 then some (e,k,i.bytes) else none
      | _=>none
    | none=>none
  | _=>none
theorem B0M(k:IntKind)(n:Nat):madeCells #[.int k 0] n=(nums k (List.replicate n 0)).toArray:=by
  apply Array.ext
  . simp [madeCells]
  . intro i h1 h2;simp [madeCells,nums,Nat.mod_one]
variable{K:Env->Mem->Mem->Prop}{ty:TypeId}{pos:String}{af:Array Edge}{g:Option (Nat×Bool)}{y:Operand}
theorem A0F{C:Cx}{l:Env}{J:Mem}{x:Operand}{d:Nat}{kl kc:IntKind}{j:Int}(n:Nat)(hx:ev l x=some (.int kl i))(hy:ev l y=some (.int kc j))(ht:mkT C.P t=some (e,k,by_))(hi:i=n)(hj:j=n)
    (hb:by_ * n<=281474976710656) (hn:n<=9223372036854775807) (hd:Nat.blt d C.N=true) (h:∀ b,K ((d,.slice (some ⟨b,0,none⟩) n n)::l) ((b,blk (nums k (List.replicate n 0)) e)::M) J) :
    OpL C ⟨some d,.makeSlice t x y,ty,pos,af,g⟩ l M J K:=by
  intro Qp a w ha hw;subst hi; subst hj;unfold mkT at ht;split at ht <;> try cases ht
  rename_i e' hu;split at ht <;> try cases ht
  rename_i inf hi;split at ht <;> try cases ht
  rename_i k' hz;split at ht <;> simp only [Option.some.injEq,Prod.mk.injEq,reduceCtorEq] at ht;rename_i hs;obtain ⟨rfl,rfl,rfl⟩:=ht;have hb':(inf.bytes:Int) * (n:Int)<=281474976710656:=by rw [<- Int.natCast_mul]; omega
  have hr:=run_make (P:=C.P) w t e' inf _ hu hi hz kl kc n n (by omega) (by omega) hb' (by omega);simp only [Int.toNat_natCast,hs,Nat.mul_one] at hr;rw [show (Value.int k' 0).cells=#[.int k' 0] from rfl,B0M] at hr;unfold Oper.wp;simp only [execOp,ha.ev hx,ha.ev hy,Sem.run_bind,hr,Result.andThen_ok,Sem.run_pure];exact ⟨_,_,J,ha.put (P2 hd) _,hw.alloc _,h _⟩
theorem C3i{C:Cx}{l:Env}{J:Mem}{x:Operand}{u:Nat}{M0:Mem}(h:Sl 1 v n (nums k ws) B)(hx:ev l x=some (vAt 1 j v))(hy:ev l y=some (.int k (u:Int)))
    (ht:P4 C.P t=some 1) (hj:j < n) (hM:M.Perm (B++M0)) (h2:∀ B',Sl 1 v n (nums k (ws.set j u)) B'->K l (B'++M0) J) :
    OpL C ⟨none,.store t x y,ty,pos,af,g⟩ l M J K:=by
  suffices hh:OpL C ⟨none,.store t x y,ty,pos,af,g⟩ l (B++M0) J K from λ Qp a w ha hw=>hh Qp a w ha (hw.fit (Fit.perm hM) λ _ h=>h)
  clear hM;rcases h with ⟨p,rfl,rfl,hx2,rfl⟩ | ⟨b,o,cap,cs,e,rfl,rfl,h3,h4,h5,h6,h7⟩
  . omega
  . simp only [vAt,Addr.add_mid,Nat.mul_one] at hx;refine E4 hx hy E ht (A3n (by omega)) .hd (h2 [_] (.inr ⟨b,o,cap,_,e,E,E,h3,h4,by simpa using h5,by simpa using h6,?_⟩));intro i w hi;rw [A5k] at hi;rw [List.getElem?_set] at hi ⊢;by_cases hij:j=i
    . subst hij;simp only [if_true] at hi ⊢;simp at hi h6;rw [if_pos (by omega)];rw [<- hi.2]
    . rw [if_neg hij] at hi;rw [if_neg (by omega)];exact h7 i w hi
variable{n':Nat}{xs':List Value}
theorem A0x(h:Rd R 1 v n xs)(h1:n=n')(h2:xs=xs'):Rd R 1 v n' xs':=by subst h1; subst h2; exact h
theorem W6(h:Sl 1 v n xs B)(h1:n=n')(h2:xs=xs'):Sl 1 v n' xs' B:=by subst h1; subst h2; exact h
end Go.Px

