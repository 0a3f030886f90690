/- Part 4 of the texts of this claim, one behind the other. -/
import Derived.Test.YtgpjndfgjjlhaaaGreatDoorB3
import Derived.WalkKit
import Derived.ProofKit
import Derived.OpenShut
import Derived.ShutString
import Derived.ChangeOld
import Derived.Below
set_option linter.unusedVariables false
set_option linter.unusedSimpArgs false
set_option maxRecDepth 100000
namespace Go
open Go.Px
abbrev Ch:=@Fit.last
abbrev Cj:=@Fit.pick
abbrev Cu:=@TakeC.take
end Go
open Go.Proofs.Tryz
namespace Go.Proofs.YtgpjndfgjjlhaaaGreatDoor
open Go.Px
def i64(i:Int):Prop:=-9223372036854775808<=i∧i<=9223372036854775807
structure Tmo(t:Tm):Prop where
  kind:t.kind<256
  n:i64 t.n
  of:∀i∈t.of,i64 i
  ofl:t.of.length<=1048576
  text:B256 t.text
  tl:t.text.length<=1099511627776
theorem Tmo.ok{t:Tm}(h:Tmo t):t.ok:=⟨h.kind,by have:=h.n;unfold i64 at this;omega,λi hi=>by have:=h.of i hi;unfold i64 at this;omega,h.text.lt⟩
theorem A37(l:List Int):(A13 l).length=l.length:=by simp [A13]
theorem B2z(l:List Int):∀c∈A13 l,c.oneCell'=true:=λc hc=>by obtain ⟨i,_,rfl⟩:=List.mem_map.1 hc;rfl
def TmC(R:Mem)(c:List Value)(t:Tm):Prop:=∃vo,c=tmc t.kind vo t.text t.n∧Rd R 1 vo t.of.length (A13 t.of)
theorem TmC.mono{R R':Mem}{c:List Value}{t:Tm}(h:TmC R c t)(hR:∀x,x∈R->x∈R'):TmC R' c t:=by obtain ⟨vo,h1,h2⟩:=h;exact ⟨vo,h1,h2.mono hR⟩
def pre(t:Tm)(i:Nat):LN:=dec t.kind++32::A18 t.n++(t.of.take i).flatMap (λj=>32::A18 j)
theorem A9F{t:Tm}{i:Nat}(h:i<t.of.length):pre t (i+1)=pre t i++(32::A18 t.of[i]):=by unfold pre;rw [Bh,Ab h,List.flatMap_append];simp
theorem B8F(t:Tm):t.nm=pre t t.of.length++58::t.text:=by unfold Tm.nm pre B1y;rw [List.take_length];simp [List.flatMap_map]
theorem C2K(t:Tm)(i:Nat):B256 (pre t i):=⟨λx hx=>by
  unfold pre at hx;simp only [List.mem_append,Cz,List.mem_flatMap] at hx;rcases hx with (hx|hx|hx)|⟨j,_,hx|hx⟩
  . have:=A1F hx;omega
  . omega
  . have:=A6o hx;omega
  . omega
  . have:=A6o hx;omega⟩
theorem B2A{t:Tm}(h:Tmo t):∀i,i<=t.of.length->(pre t i).length<=43+22*i
  | 0,_=>by have a:=A1D (u:=t.kind) (by have:=h.kind;omega);have b:=A36 (i:=t.n) (h.ok.n);simp only [pre,List.take_zero,List.flatMap_nil,List.append_nil,List.length_append,List.length_cons,A2j];omega
  | i+1,hi=>by have a:=B2A h i qO;have b:=A36 (i:=t.of[i]) (h.ok.of _ (List.getElem_mem _));rw [A9F qO,An,List.length_cons];omega
theorem nm_b{t:Tm}(h:Tmo t):B256 t.nm:=by rw [B8F];exact @B256.app _ _ (C2K _ _) (B256.cons qD h.text)
def key(t:Tm):ByteArray:=txt t.nm
theorem A8J{s t:Tm}(hs:Tmo s)(ht:Tmo t)(h:key s=key t):s=t:=Tm.nm_inj hs.ok ht.ok (A8D (nm_b hs).lt (nm_b ht).lt h)
theorem A9G{t:Tm}{ts:List Tm}(ht:Tmo t)(hts:∀t∈ts,Tmo t):(Z3 (key t) (ts.map key) 0=none↔t∉ts)∧∀i,Z3 (key t) (ts.map key) 0=some i->ts[i]? = some t:=by
  constructor
  . rw [A5J,List.mem_map];constructor
    . exact λh hm=>h ⟨t,hm,E⟩
    . rintro h ⟨s,hs,e⟩;exact h (A8J (hts s hs) ht e▸hs)
  . intro i h;obtain ⟨_,h2⟩:=A5K h;rw [Nat.sub_zero,List.getElem?_map] at h2
    cases h3:ts[i]? with
    | none=>rw [h3] at h2;cases h2
    | some s =>
      rw [h3] at h2;have:=A8J (hts s (As h3)) ht (by simpa using h2);rw [this]
def Tab(bt bm:Nat)(ts:List Tm)(M:Mem):Prop:=∃(v:Value) (rows:List (List Value)) (ks:List ByteArray) (Bl BX:Mem),M=(bt,blk [v,.map (some bm)] 105)::(bm,.map (A4z ks 0).toArray ks.length)::(Bl++BX)∧ks=ts.map key∧Sl 4 v ks.length rows.flatten Bl∧rows.length=ks.length∧(∀r∈rows,r.length=4)∧(∀(j:Nat) (t:Tm),ts[j]? = some t->∃r,rows[j]? = some r∧TmC BX r t)∧(∀t∈ts,Tmo t)∧ts.Nodup
theorem B6H(k:Nat):A18 ((k:Nat):Int)=dec k:=by simp [A18]
theorem A8K(v:Value)(n:Nat)(xs:List Value)(A:Mem)(h:Rd A 1 v n xs)(h1:∀c∈xs,c.oneCell'=true)(hn:n<=1099511627776):FnX prog 77 [v] [] A λr M J=>J=[]∧Rd M 1 r n xs:=by
 haveI:=h.cel;refine Cn (N:=8) func77 E E E λw=>?_;refine A8 (D1 0) (A1 (as_ (A0 (D1 0) (A3 (A1 (mv_ ?_))))));refine lQ_ (A1C (e:=3) E kR (by first|assumption|exact Sl.rd (by assumption) qI|exact By.rd (by assumption))) ?_;refine A0 (D0 0 4) ?_;refine C2 E ?_ ?_<;>intro hc
 . have h0:=h.isNil hc;subst h0;obtain rfl:xs=[]:=Bd (by have:=h.len;omega);refine A1 (as_ (A0 (D1 2) (A9 (tr ?_))));exact ⟨_,[],[],H2 E E,Aa _,by simp,E,Rd.nil⟩
 . refine A4 (nx (D1 0) (A1 ?_));refine A2 E (C4 (e:=3) (sz:=1) (z:=[]) kR e0 bd0 E λb5=>?_);refine mv_ ?_;refine A2 E (G6 (e:=3) (sz:=1) (by_:=8) E E kR E (Sl.fresh (n:=0) (cs:=[]) (e:=3) E qD) (Rd.mono h qS) h1 qP (by unfold maxLen;omega) qO E λv7 B7 hs7=>?_);refine as_ (A0 (D1 2) (A9 ?_));exact ⟨_,B7,[],H2 E E,Ay _ _,by simp,E,A0J (hs7.rd λ_ h=>h) qO qM⟩
theorem A7M(vo:Value)(t:Tm)(A:Mem)(hvo:Rd A 1 vo t.of.length (A13 t.of))(ht:Tmo t){e4:TypeId}{f4:Nat×Nat}(h4:(4,Obj.cells (nums .u64 A0M).toArray e4 f4)∈A):FnV prog 76 [.agg (tmc t.kind vo t.text t.n).toArray] A (.string (key t)):=by
 haveI:=hvo.cel;have hkind:=ht.kind;refine Cn (N:=33) func76 E E E λw=>?_;refine A8 (D1 0) (A1 ?_);refine A2 E (bx_ λb1=>?_);refine as_ (A0 (D1 1) ?_);refine C9 (.range 10) [(0,0),(1,1),(2,0),(5,0),(6,1),(3,2),(4,0),(7,2),(8,0),(9,0)] kR kR λhs=>?_;refine fQ_ E (qf_ 0 0) ?_;refine fR_ E ql_ ?_;refine fQ_ E (A15 (k':=.i64) E kR (by show _<9223372036854775808;have:=ht.kind;omega)) ?_;refine fQ_ E (qf_ 3 3) ?_;refine fR_ E ql_ ?_;refine N3 E (aS E a0) kR (A1G (t.kind:Int) (by have:=ht.kind;omega) (by have:=ht.kind;omega) _ (mA h4)) E ?_;rw [B6H];refine fQ_ E (A17 (ws':=[32]) E E E kR (by simp only [A2j,List.length_cons,List.length_nil];have:=A1D (u:=t.kind) (by have:=ht.kind;omega);omega)) ?_;refine N3 E (aS E a0) kR (A1G t.n ht.n.1 ht.n.2 _ (mA h4)) E ?_;refine fQ_ E (A17 E E E E (by simp only [List.length_append,A2j,List.length_cons,List.length_nil];have:=A1D (u:=t.kind) (by have:=ht.kind;omega);have:=A36 (i:=t.n) ht.ok.n;omega)) ?_;refine fa_ ?_;rw [show dec t.kind++[32]++A18 t.n=pre t 0 by simp [pre]];refine E4 (D0 1 3) (A3 (A1 (lQ_ (qf_ 1 1) ?_)));refine lQ_ ql_ ?_;refine lQ_ (F8 (sz:=1) E kR hvo) ?_;refine mv_ (A0 (E9 1 3 16 17 18) (A6 ?_));refine E0 (α:=Nat) (λi=>[(1,(vP b1)),(3,.string (txt (pre t i))),(16,vo),(17,(vI t.of.length)),(18,.int .i64 (i:Int))]) (λ_=>[(b1,blk (tmc t.kind vo t.text t.n) 112)]) (λ_=>[]) (λi=>i<=t.of.length) (λi=>t.of.length-i) 0 (Am _) (E9 1 3 16 17 18) .rfl qI ?_;rintro i hi;have hpl:=B2A ht i hi;have hofl:=ht.ofl;haveI:=C2K t i;refine A1 (lQ_ (E3 E E E) (A0 (G9 1 3 16 17 18 19) (A3 ?_)));refine C2 E ?_ ?_<;>intro hc
 .
  have hlt:i<t.of.length:=by simp at hc;omega
  have hi64:=ht.of _ (List.getElem_mem hlt);have hdl:=A36 (i:=t.of[i]) (ht.ok.of _ (List.getElem_mem hlt));refine A4 (nx (E9 1 3 16 17 18) (A3 (A6 (A1 ?_))));refine lQ_ (G4 (sz:=1) E E kR E hvo hlt) ?_;refine lQ_ (Z8 (u:=.int .i64 t.of[i]) (Rd.mono hvo qS) E kR (by simp [A13,hlt])) ?_;refine as_ (A0 (G9 1 3 5 16 17 18) (C1 (mv_ (mv_ ?_))));refine D8 (aS E a0) kR (A1G t.of[i] hi64.1 hi64.2 _ (mA h4)) E ?_;refine lQ_ (A17 (ws:=[32]) E E kR E (by simp only [List.length_cons,List.length_nil];omega)) ?_;refine lQ_ (A17 E E E E (by simp only [List.length_cons,List.length_append,List.length_nil];omega)) ?_;refine as_ ?_;rw [show pre t i++([32]++A18 t.of[i])=pre t (i+1) by rw [A9F hlt];rfl];refine C5 (nb (nx (E9 1 3 16 17 18) (C1 ?_)));refine lQ_ (I9 (b:=1) E E E E qO) ?_;refine mv_ (C5 ?_);exact rn (i+1) qO qO (E9 1 3 16 17 18) .rfl qI
 .
  have hge:i=t.of.length:=by simp at hc;omega
  subst hge;refine D6 (te (re (be E (nx (D0 1 3) (A1 (mv_ ?_))))));refine lQ_ (A17 (ws':=[58]) E E E kR (by simp only [List.length_cons,List.length_nil];omega)) ?_;refine lQ_ (qf_ 2 2) ?_;refine lQ_ ql_ ?_;refine lQ_ (A17 E E E E (by simp only [List.length_append,List.length_cons,List.length_nil];have:=ht.tl;omega)) ?_;refine as_ (A0 (D1 2) (A9 ?_));refine ⟨_,[],[],H2 E E,Aa _,by simp,?_,E,E⟩;rw [key,B8F];simp
theorem A7N(A:Mem):FnX prog 15 [] [] A λr M J=>J=[]∧∃bt bm,r=(vP bt)∧Tab bt bm [] M:=by refine Cn (N:=4) func15 E E E λw=>?_;refine A8 kn (A1 (as_ (A0 kn (A1 ?_))));refine A2 E (B2y E λb1=>?_);refine lQ_ (E6 (place:=λx=>#[(0,1),(1,1)][x]?) (z:=[vS,.map none]) (λ_=>by kernel_rfl) (eS E e0) (bdS 1 1 E qR bd0)) ?_;refine A2 E (bx_ λb3=>?_);refine as_ (A0 (D1 0) (A9 ?_));exact ⟨_,[_,_],[],H2 rfl rfl,Ao _,by simp,rfl,b3,b1,rfl,vS,[],[],[],[],rfl,rfl,Sl.nil,rfl,(λr h=>by cases h),(λj t h=>by simp at h),(λt h=>by cases h),List.nodup_nil⟩
theorem B2B(bt bm:Nat)(ts:List Tm)(MT A:Mem)(hT:Tab bt bm ts MT)(hsub:∀x,x∈MT->x∈A):FnV prog 140 [(vP bt)] A (vI ts.length):=by obtain ⟨v,rows,ks,Bl,BX,rfl,hks,hsl,hrl,hr4,hat,hto,hnd⟩:=hT;have hbt:(bt,blk [v,.map (some bm)] 105)∈A:=hsub _ qM;have hrd:=hsl.rd (R:=A) (λx hx=>hsub x (by simp [hx]));refine Cn (N:=10) func140 E E E λw=>?_;refine A8 (D1 0) (A1 (aS_ E (A0 (D1 0) (A3 (A1 (mV_ E (lQ_ (F0 (e:=105) E E kR) (A0 (D0 0 4) ?_))))))));refine C7 E ?_;refine A4 (nx (D1 0) (A1 (mV_ E (lQ_ (F4 E) (lQ_ (qf_ 0 0) ?_)))));refine lQ_ (H1 E kR (mA hbt) qR) ?_;refine lQ_ (F8 (sz:=4) E kR hrd) ?_;refine as_ (A0 (D1 2) (A9 ?_));refine ⟨_,[],[],H2 E E,Aa _,by simp,?_,E,E⟩;rw [hks,List.length_map]
theorem A2R(bt bm:Nat)(ts:List Tm)(i:Int)(MT A:Mem)(hT:Tab bt bm ts MT)(hsub:∀x,x∈MT->x∈A):FnX prog 104 [(vP bt),.int .i64 i] [] A λr M J=>M=[]∧J=[]∧∃c ok,r=.tuple #[.agg (List.toArray c),.bool ok]∧((0<=i∧i<(ts.length:Int))->ok=true∧∃t,ts[i.toNat]? = some t∧TmC A c t)∧(¬(0<=i∧i<(ts.length:Int))->ok=false∧c=tmc 0 (vS) [] 0):=by
 obtain ⟨v,rows,ks,Bl,BX,rfl,hks,hsl,hrl,hr4,hat,hto,hnd⟩:=hT;have hbt:(bt,blk [v,.map (some bm)] 105)∈A:=hsub _ qM;have hrd:=hsl.rd (R:=A) (λx hx=>hsub x (by simp [hx]));have hkl:ks.length=ts.length:=by rw [hks,List.length_map]
 refine Cn (N:=29) func104 E E E λw=>?_;refine A8 (D0 0 1) (A1 ?_);refine A2 E (C3 (cs:=[zu8,vS,.string ByteArray.empty,U7]) kR E λb4=>?_);refine aS_ E (A0 (D5 0 1 4) (A3 (A1 (mV_ E (lQ_ (F0 (e:=105) E E kR) (mv_ ?_))))));refine G1 E E (Cp qm_ E ?_);refine G1 E E (Cp (E3 E E E) E ?_);refine lQ_ (E8 E E) (mv_ ?_);refine Y0 (t:=12) E (λhb=>?_) (λhb=>?_)
 .
  have hlt0:i<0:=by simpa using hb
  refine K0 E E E E ?_;refine K0 E E E E ?_;refine K0 E E E E ?_;refine K0 E E E E ?_;refine K0 E E E E ?_;refine K0 E E E E ?_;refine K0 E E E E ?_;refine lQ_ (H6 E E) (A0 (D7 0 1 4 20) ?_);refine E2 E ?_;refine A1 ?_;refine lQ_ (E6 (place:=λx=>#[(0,1),(1,1),(2,1),(3,1)][x]?) (z:=[zu8,vS,.string ByteArray.empty,U7]) (λ_=>by kernel_rfl) e0 bd0) ?_;refine A2 E (A5 E E Cf kR ln4 al4 Cv ?_);refine as_ (A0 (D0 4 5) (A9 (tr ?_)));refine ⟨_,[],[],A0e E E E kR Ce qR,Aa _,by simp,E,E,_,_,E,(λh=>absurd h.1 qO),λ_=>⟨E,E⟩⟩
 .
  have hge0:0<=i:=by simpa using hb
  obtain ⟨n,rfl⟩:=Int.eq_ofNat_of_zero_le hge0;refine G1 E E (Cp qm_ E ?_);refine G1 E E (Cp qm_ E ?_);refine G1 E E (Cp (F4 E) E ?_);refine G1 E E (Cp (qf_ 0 0) E ?_);refine G1 E E (Cp (H1 E kR (mA hbt) qR) E ?_);refine G1 E E (Cp (F8 (sz:=4) E kR hrd) E ?_);refine G1 E E (Cp (E3 E E E) E ?_);refine lQ_ (E8 E E) (A0 (D7 0 1 4 20) ?_);refine C2 E ?_ ?_<;>intro hc
  .
   have hge:ts.length<=n:=by simp at hc;omega
   refine A1 ?_;refine lQ_ (E6 (place:=λx=>#[(0,1),(1,1),(2,1),(3,1)][x]?) (z:=[zu8,vS,.string ByteArray.empty,U7]) (λ_=>by kernel_rfl) e0 bd0) ?_;refine A2 E (A5 E E Cf kR ln4 al4 Cv ?_);refine as_ (A0 (D0 4 5) (A9 (tr ?_)));refine ⟨_,[],[],A0e E E E kR Ce qR,Aa _,by simp,E,E,_,_,E,(λh=>absurd h.2 qO),λ_=>⟨E,E⟩⟩
  .
   have hlt:n<ts.length:=by simp at hc;omega
   obtain ⟨r,hr,hcr⟩:=hat n ts[n] (Ab hlt);obtain ⟨vo,rfl,hvo⟩:=hcr;refine A4 (nx (D5 0 1 4) (A1 (mV_ E (lQ_ (F4 E) (lQ_ (qf_ 0 0) ?_)))));refine lQ_ (H1 E kR (mA hbt) qR) ?_;refine mv_ ?_;refine lQ_ (G4 (sz:=4) E E kR E hrd qO) ?_;refine lQ_ (A0y E kR (hrd.mono λ_ h=>mA h) hr4 qD hr) ?_;refine A2 E (A5 E E E kR qR (by intro c hc;simp only [Cz,Da,or_false] at hc;rcases hc with rfl|rfl|rfl|rfl<;>first|rfl|exact Rd.one hvo) Cv ?_);refine as_ (A0 (D0 4 5) (A9 ?_));refine ⟨_,[],[],A0e E E E kR Ce qR,Aa _,by simp,E,E,_,_,E,(λ_=>⟨E,ts[n],by simp [hlt],vo,E,hvo.mono λx hx=>hsub x (by simp [hx])⟩),λh=>absurd ⟨Int.natCast_nonneg n,by omega⟩ h⟩

end Go.Proofs.YtgpjndfgjjlhaaaGreatDoor
namespace Go.Px
theorem K6{C:Cx}{Q:XQ}{l:Env}{M J:Mem}{os:List Oper}{K:Nat->Prop}{n0:Nat}{nd:List Nat}{plan:List (Nat×Nat)}{i:Nat}{o:Oper}(hget:nth os i=some o)(hg:o.guard=none)(hnd:nd.contains i=false)(h:OpL C o l M J (λl' M' J'=>XK C os Q K 0 nd plan l' M' J')):XK C os Q K n0 nd ((i,2)::plan) l M J:=by have h1:=B2i hget (λa ha=>by simp [Region.wanted,hg]) hnd h;exact λlisted hcl hp a w ha hw _=>h1 listed hcl hp a w ha hw (Am _)
end Go.Px

namespace Go.Proofs.YtgpjndfgjjlhaaaGreatDoor
open Go.Px
instance(priority:=low) SubC.union{X Y Z:Mem}[h1:SubC X Z][h2:SubC Y Z]:SubC (X++Y) Z:=⟨λx h=>(List.mem_append.1 h).elim (h1.sub x) (h2.sub x)⟩
instance(priority:=low) SubC.consC{b:Nat}{o:Obj}{X Z:Mem}[h1:At Z b o][h2:SubC X Z]:SubC ((b,o)::X) Z:=⟨λx h=>(List.mem_cons.1 h).elim (λh=>h▸h1.mem) (h2.sub x)⟩
theorem B96{B M X:Mem}{x y z:Nat×Obj}:Fit ((B++[])++(M++(x::y::z::X))) (y::z::(B++(M++X))):=⟨x::(y::z::(B++(M++X))),by
  rw [List.append_nil,<- Ap]
  exact (List.perm_append_comm_assoc (B++M) [x,y,z] X).trans qM,.cons _ (Ao _)⟩
def eqL{α:Type}(f:α->α->Bool):List α->List α->Bool
  | [],[]=>true
  | x::a,y::b=>f x y&&eqL f a b
  | _,_=>false
theorem B2C{α:Type}{f:α->α->Bool}(hf:∀x y,f x y=true↔x=y):∀(a b:List α),eqL f a b=true↔a=b
  | [],[]=>by simp [eqL]
  | [],_::_=>by simp [eqL]
  | _::_,[]=>by simp [eqL]
  | x::a,y::b=>by simp only [eqL,Bool.and_eq_true,hf,B2C hf a b,List.cons.injEq]
def eqI:Int->Int->Bool
  | .ofNat a,.ofNat b=>Nat.beq a b
  | .negSucc a,.negSucc b=>Nat.beq a b
  | _,_=>false
theorem B2D(a b:Nat):Nat.beq a b=true↔a=b:=⟨Nat.eq_of_beq_eq_true,λh=>h▸Nat.beq_refl a⟩
theorem B8G(i j:Int):eqI i j=true↔i=j:=by cases i<;>cases j<;>simp only [eqI,B2D,Int.ofNat.injEq,Int.negSucc.injEq,reduceCtorEq,Bool.false_eq_true]
def tqF(t u:Tm):Bool:=Nat.beq t.kind u.kind&&(eqI t.n u.n&&(eqL eqI t.of u.of&&eqL Nat.beq t.text u.text))
theorem B8H{t u:Tm}:tqF t u=true↔t=u:=by obtain ⟨k,o,x,n⟩:=t;obtain ⟨k',o',x',n'⟩:=u;simp only [tqF,Bool.and_eq_true,B2D,B8G,B2C B8G,B2C B2D,Tm.mk.injEq];exact ⟨λ⟨a,b,c,d⟩=>⟨a,c,d,b⟩,λ⟨a,c,d,b⟩=>⟨a,b,c,d⟩⟩
def C4F(t:Tm):List Tm->Nat->Option Nat
  | [],_=>none
  | u::r,i=>bif tqF t u then some i else C4F t r (i+1)
def pos(ts:List Tm)(t:Tm):Option Nat:=C4F t ts 0
theorem B2E{t:Tm}(ht:Tmo t):∀ {ts:List Tm} (i:Nat),(∀t∈ts,Tmo t)->Z3 (key t) (ts.map key) i=C4F t ts i
  | [],_,_=>rfl
  | u::r,i,h=>by
    show (if key t==key u then some i else Z3 (key t) (r.map key) (i+1))=bif tqF t u then some i else C4F t r (i+1);by_cases e:t=u
    . rw [if_pos (B2w.2 (congrArg key e)),B8H.2 e];rfl
    . rw [if_neg (λh2=>e (A8J ht (h u qK) (B2w.1 h2))),show tqF t u=false from Bool.eq_false_iff.2 λh2=>e (B8H.1 h2)];exact B2E ht (i+1) λx hx=>h x (Bb _ hx)
variable{ts:List Tm}
theorem A5L{t:Tm}(ht:Tmo t)(hts:∀t∈ts,Tmo t):Z3 (key t) (ts.map key) 0=pos ts t:=B2E ht 0 hts
def at_(ts:List Tm)(t:Tm):Nat:=(pos ts t).getD ts.length
def add(ts:List Tm)(t:Tm):List Tm:=if (pos ts t).isSome then ts else ts++[t]
theorem B2F{n:Nat}{cs:List Value}{e:TypeId}:B6y λv R=>∃b,v=.slice (some ⟨b,0,none⟩) n n∧(b,Obj.cells cs.toArray e (0,0))∈R:=λ_ _ _ h ⟨b,e,hb⟩=>⟨b,e,h _ hb⟩
theorem A6v{t:Tm}(ht:Tmo t)(hts:∀t∈ts,Tmo t){i:Nat}(h:pos ts t=some i):ts[i]? = some t:=(A9G ht hts).2 i ((A5L ht hts).trans h)
theorem A6w{t:Tm}(ht:Tmo t)(hts:∀t∈ts,Tmo t):pos ts t=none↔t∉ts:=by rw [<- A5L ht hts];exact (A9G ht hts).1
theorem C2L(hts:∀t∈ts,Tmo t)(hnd:ts.Nodup){t:Tm}{i:Nat}(h:ts[i]? = some t):pos ts t=some i:=by
  have hm:t∈ts:=As h
  cases hp:pos ts t with
  | none=>exact absurd hm ((A6w (hts t hm) hts).1 hp)
  | some j =>
    have hj:=A6v (hts t hm) hts hp;have a:=Ac.1 h;have b:=Ac.1 hj;obtain ⟨a1,a2⟩:=a;obtain ⟨b1,b2⟩:=b;have hpw:=List.pairwise_iff_getElem.1 hnd;rcases Nat.lt_trichotomy i j with h1|h1|h1
    . exact absurd (a2.trans b2.symm) (hpw i j a1 b1 h1)
    . rw [h1]
    . exact absurd (b2.trans a2.symm) (hpw j i b1 a1 h1)
theorem R9(bt bm:Nat)(ts:List Tm)(vo:Value)(t:Tm)(MT A:Mem)(hT:Tab bt bm ts MT)(hlen:ts.length<=1048576)(hvo:Rd A 1 vo t.of.length (A13 t.of))(ht:Tmo t){e4:TypeId}{f4:Nat×Nat}(h4:(4,Obj.cells (nums .u64 A0M).toArray e4 f4)∈A):FnX prog 39 [(vP bt),.agg (tmc t.kind vo t.text t.n).toArray] MT A λr M J=>J=[]∧r=(vI (at_ ts t))∧Tab bt bm (add ts t) M:=by
  obtain ⟨v,rows,ks,Bl,BX,rfl,hks,hsl,hrl,hr4,hat,hto,hnd⟩:=hT;have hkind:=ht.kind;haveI:=hvo.cel;refine Cn (N:=50) func39 E E E λw=>?_;refine A8 (D0 0 1) (A1 ?_);refine A2 E (bx_ λb3=>?_);refine aS_ E (A0 (D0 0 3) (A3 (A1 (mV_ E (lQ_ (F0 (e:=105) E E kR) (A0 (D5 0 3 8) ?_))))));refine C7 E ?_;refine A4 (nx (D0 0 3) ?_);refine C9 [0,1,2,3,4,5,7,8,9,10,11] (zp 0 [0,0,0,1,1,2,2,0,0,0,0,0]) kR kR λhs=>?_;refine fM_ E E (fQ_ E (F4 E) (fQ_ E (qf_ 1 1) ?_));refine fR_ E ql_ ?_;refine fR_ E (qw_ 4) ?_;refine N3 E (aS E a0) kR (A7M vo t _ (hvo.mono λ_ h=>mA h) ht (mA h4)) E ?_;refine G3 E E E (Cp (B94 (kt:=9) (et:=3) E E kR kR (λ_=>by rfl) Ce) E ?_);refine fM_ E E (fQ_ E (A0x E) (fQ_ E (A0n E) (fA_ E E (fA_ E E (E4 (D7 0 3 5 6) ?_)))));refine P3 (α:=Mem) (λ_=>[(5,(vI (at_ ts t)))]) (λM=>M) (λ_=>[]) (λM=>Tab bt bm (add ts t) M) ?_ ?_
  .
    refine A1 (mV_ E (lQ_ (V7 E) (A0 (D7 0 3 5 20) ?_)));refine C2 E ?_ ?_<;>intro hc
    .
      have hnm:pos ts t=none:=by
        cases hp:pos ts t with
        | none=>rfl
        | some j=>rw [hks] at hc;rw [show Z3 (key t) (ts.map key) 0=some j from (A5L ht hto).trans hp] at hc;cases hc
      have hnk:Z3 (key t) ks 0=none:=by rw [hks];exact (A5L ht hto).trans hnm
      have hkl:ks.length=ts.length:=by rw [hks,List.length_map]
      refine A1 (mV_ E (lQ_ (F4 E) (lQ_ (qf_ 0 0) ?_)));refine lQ_ ql_ ?_;refine lQ_ (F8 (sz:=4) E kR (hsl.rd (R:=Bl) λ_ h=>h)) ?_;refine aS_ E (A0 (D5 0 3 5) (A1 (lQ_ (qf_ 1 1) ?_)));refine lQ_ ql_ ?_;refine C6 (aS E a0) kR (A8K vo t.of.length (A13 t.of) _ (hvo.mono λ_ h=>mA h) (B2z _) (by have:=ht.ofl;omega)) E ?_;rintro v28 M28 J28 ⟨rfl,hv28⟩;haveI:=hv28.cel;refine lQ_ (qf_ 1 1) ?_;refine A2 E (E1 E E hv28.one kR Ct Cv ?_);refine A0 (D5 0 3 5) ?_;refine Y8 (Bl) (_) true [0,1,2,3,4,5,6,7,8,9,10,11,12,13,14,15,16,19] [(0,0),(1,0),(2,0),(3,0),(4,1),(5,1),(7,0),(8,0),(9,0),(10,1),(11,1),(14,0),(6,3),(12,4),(13,2),(15,0),(16,0),(17,2),(18,2),(19,0),(20,2)] kR kR qP λhs K n0 hKm hKs hKn=>?_;refine kM_ E E (kM_ E E (kQ_ E (F4 E) (kQ_ E (qf_ 1 1) ?_)));refine I8 hs E hKs ql_ ?_;refine I8 hs E hKs (qw_ 4) ?_;refine kM_ E E (kQ_ E (F4 E) (kQ_ E (qf_ 0 0) ?_));refine I8 hs E hKs ql_ ?_;refine I8 hs E hKs (qw_ 4) ?_;refine km_ ?_
      refine B6A [⟨6,36,λv _=>v=.string (key t)⟩,⟨12,42,λv R=>∃b,v=.slice (some ⟨b,0,none⟩) 1 1∧(b,Obj.cells (tmc t.kind v28 t.text t.n).toArray 112 (0,0))∈R⟩]
        (A7 B9T (A7 B2F (K5))) nd_ nd_ dl_
        (gG ?_ (gG ?_ (K5))) ?_
      . intro _ _ _ hb _;exact R8 (aS E a0) kR (A7M v28 t _ (hv28.mono λ_ h=>hb _ (by simp [h])) ht (hb _ (mA h4))) E ⟨_,E,E⟩
      .
        intros
        exact C4 (e:=112) (sz:=4) (z:=[zu8,vS,.string ByteArray.empty,U7]) kR (eS E e0) (.cons E E qR (SetR.all qR) .nil) E λb=>⟨_,E,b,E,Ae _ qK⟩
      intro vs Jn0 hφ;have g6:=gy 0 hφ;have g12:=gy 1 hφ;dsimp only at g6 g12;clear hφ;dsimp only [A3V,List.map,Cy,Cw];generalize vs 6=u36,vs 12=u42 at *;subst g6;obtain ⟨b42,rfl,hb42⟩:=g12;have hl42:=Cr (sz:=4) (n:=1) hb42 qR
      refine G8 _ _ E E (Ah _) hKm λw0=>(G6 (e:=112) (sz:=4) (by_:=56) E E kR E hsl (hl42.mono λx hx=>by simpa only [List.append_assoc,Cw,List.append_nil] using hx) (by intro c hc;simp only [Cz,Da,or_false] at hc;rcases hc with rfl|rfl|rfl|rfl<;>first|rfl|exact hv28.one) (by rw [List.append_nil]) (by unfold maxLen;omega) qO E λv43 B43 hs43=>λ_=>?_)
      refine kQ_ E (F4 E) (kQ_ E (qf_ 0 0) ?_);refine K6 E E E (E1 E E hs43.one kR Ct Cv ?_);refine K6 E E E (B0S (kt:=9) (et:=3) E E kR kR (λ_=>by rfl) hnk E Cv ?_);refine kQ_ E (A0n E) ?_;refine K6 E E E (A7L (ks:=ks) (s:=key t) E qR qR Cv ?_);refine A3G ?_;have hat_:at_ ts t=ks.length:=by unfold at_;rw [hnm,hkl];rfl
      have hadd:add ts t=ts++[t]:=by unfold add;rw [hnm];rfl
      refine jn (_::_::(B43++(M28++BX))) ⟨v43,rows++[tmc t.kind v28 t.text t.n],ks++[key t],B43,M28++BX,E,by rw [hadd,hks];simp,(by rw [show (rows++[tmc t.kind v28 t.text t.n]).flatten=rows.flatten++tmc t.kind v28 t.text t.n by simp,An];exact hs43),by simp [hrl],?_,?_,?_,?_⟩ (kp 5 (by rw [hat_];rfl) kn) ?_ (λ_ h=>by cases h)
      . intro r hr;rcases List.mem_append.1 hr with hr|hr
        . exact hr4 r hr
        . rw [List.mem_singleton.1 hr];rfl
      . intro j u hj;rw [hadd] at hj;by_cases hlt:j<ts.length
        . rw [Ak hlt] at hj;obtain ⟨r,hr,hcr⟩:=hat j u hj;exact ⟨r,by rw [Ak qO];exact hr,hcr.mono λx hx=>Ai _ hx⟩
        . rw [Aq qO] at hj
          have hj0:j=ts.length:=by have:=(Ac.1 hj).1;simp at this;omega
          subst hj0;simp at hj;subst hj;exact ⟨_,by rw [Aq qO,show ts.length-rows.length=0 by omega];rfl,v28,E,hv28.mono λx hx=>Ae _ hx⟩
      . intro u hu;rw [hadd] at hu;rcases List.mem_append.1 hu with hu|hu
        . exact hto u hu
        . rw [List.mem_singleton.1 hu];exact ht
      . rw [hadd,List.nodup_append];refine ⟨hnd,by simp,λx hx y hy e=>(A6w ht hto).1 hnm ?_⟩;rw [List.mem_singleton.1 hy] at e;exact e▸hx
      . rw [An];exact B96
    .
      have hsm:(pos ts t).isSome=true:=by
        cases hp:pos ts t with
        | some j=>rfl
        | none=>rw [hks] at hc;rw [show Z3 (key t) (ts.map key) 0=none from (A5L ht hto).trans hp] at hc;cases hc
      refine A4 ?_;have hpl:Z3 (key t) ks 0=pos ts t:=by rw [hks];exact A5L ht hto
      have hadd:add ts t=ts:=by unfold add;rw [hsm];rfl
      refine jn _ ⟨v,rows,ks,Bl,BX,E,by rw [hadd,hks],hsl,hrl,hr4,by rw [hadd];exact hat,by rw [hadd];exact hto,by rw [hadd];exact hnd⟩ (kp 5 (by rw [hpl];unfold at_;cases hq:pos ts t with|none=>rw [hq] at hsm;cases hsm|some j=>rfl) kn) (Ck (.cons _ (Ao _))) qI
  . rintro M hM;refine A1 (mv_ (as_ (A0 (D1 4) (A9 ?_))));exact ⟨_,_,_,H2 E E,Ao _,λ_ h=>h,E,E,hM⟩

end Go.Proofs.YtgpjndfgjjlhaaaGreatDoor
namespace Go.Px
section
variable{P:Program}{R R':Mem}{l:Env}{d:Option Nat}{ty t:TypeId}{pos:String}{af:Array Edge}{g:Option (Nat×Bool)}{x y:Operand}{v u:Value}{sz n a off j:Nat}{xs:List Value}
theorem B2G{f:Nat}{s:TypeId}(hx:ev l x=some (vAt sz a v))(h:Rd R' sz v n xs)(ha:a<n)(hf:A2y P s f=some off):OpQ P R ⟨d,.fieldAddr s x f,ty,pos,af,g⟩ l (vAt 1 (a*sz+off) v):=by
  obtain ⟨p,c,rfl,h2,h3,h4⟩:=h;rcases h4 with h4|⟨b,o,cs,e',fr,rfl,hb,hx'⟩
  . omega
  . simp only [vAt,Addr.add_mid,Nat.mul_one] at hx ⊢;exact A3x _ hx hf qO
theorem B2H(hx:ev l x=some (vAt 1 j v))(h:Rd R sz v n xs)(hn:0<n)(ht:A0s P t=true)(hj:xs[j]? = some u):OpQ P R ⟨d,.load t x,ty,pos,af,g⟩ l u:=by
  obtain ⟨p,c,rfl,h2,h3,h4⟩:=h;rcases h4 with h4|⟨b,o,cs,e',fr,rfl,hb,hx'⟩
  . omega
  . simp only [vAt,Addr.add_mid] at hx;refine H1 (b:=b) (o:=o+j*1) hx ht hb ?_;rw [Nat.mul_one];exact hx' j u hj
end
end Go.Px
namespace Go.Proofs.YtgpjndfgjjlhaaaGreatDoor
open Go.Px
theorem A0T{ts:List Tm}{t:Tm}:(add ts t).length<=ts.length+1:=by unfold add;split<;>simp
def u64(i:Int):Nat:=(i%18446744073709551616).toNat
def byt(i:Int)(k:Nat):Nat:=(i/((256^k:Nat):Int)%256).toNat
variable{k:Nat}
theorem C5e(i:Int)(hk:k<8):byt i k=u64 i/256^k%256:=by unfold byt u64;rcases (show k=0∨k=1∨k=2∨k=3∨k=4∨k=5∨k=6∨k=7 by omega) with rfl|rfl|rfl|rfl|rfl|rfl|rfl|rfl<;>simp only [Nat.reducePow]<;>omega
theorem B8I(i:Int)(k:Nat):byt i k<256:=by unfold byt;omega
theorem C2M(i:Int):u64 i<18446744073709551616:=by unfold u64;omega
def btk(i:Int)(k:Nat):LN:=84::((List.range k).map (byt i)++List.replicate (31-k) 0)
def bts(i:Int):LN:=btk i 8
theorem A0U(i:Int)(h:k<=31):(btk i k).length=32:=by simp [btk];omega
theorem B6I(i:Int)(h:k<31):(btk i k).set (1+k) (byt i k)=btk i (k+1):=by unfold btk;rw [show 1+k=k+1 by omega,List.set_cons_succ,List.set_append_right _ _ qM,List.range_succ,List.map_append];simp only [List.length_map,List.length_range,Nat.sub_self];rw [show 31-k=(31-(k+1))+1 by omega,List.replicate_succ,List.set_cons_zero];simp
theorem B97(i:Int)(h:k<8):(bts i).getD (1+k) 0=byt i k:=by unfold bts btk;rw [show 1+k=k+1 by omega,List.getD_cons_succ,Aj,Ak (by simpa using h)];simp [h]
theorem B6J(i:Int):∀x∈bts i,x<256:=by
  intro x hx;simp only [bts,btk,Cz,List.mem_append,List.mem_map,List.mem_replicate] at hx;rcases hx with rfl|⟨k,_,rfl⟩|⟨_,rfl⟩
  . decide
  . exact B8I i k
  . decide
def le8(ws:LN):Nat->Nat
  | 0=>0
  | k+1=>le8 ws k+ws.getD (1+k) 0*256^k
variable{ws:LN}
theorem A6x(h:∀x∈ws,x<256)(j:Nat):ws.getD j 0<256:=by
  rw [Aj]
  cases hj:ws[j]? with
  | none=>decide
  | some x=>exact h x (As hj)
theorem B2I{ws:LN}(h:∀x∈ws,x<256):∀k,le8 ws k<256^k
  | 0=>by show 0<1;decide
  | k+1=>by have h1:=B2I h k;have h2:=A6x h (1+k);have h3:ws.getD (1+k) 0*256^k<=255*256^k:=Au _ qO;unfold le8;rw [Nat.pow_succ];omega
theorem B2J(i:Int):∀k,k<=8->le8 (bts i) k=u64 i%256^k
  | 0,_=>by simp [le8,Nat.mod_one]
  | k+1,h=>by rw [le8,B2J i k qO,B97 i qO,C5e i qO,Nat.pow_succ,Nat.mod_mul,Nat.mul_comm (256^k)]
def plc(ws:LN)(n:Nat):Option Nat:=if 32<=ws.length∧ws.getD 0 0=84∧(∀c∈ws.drop 9,c=0)∧le8 ws 8<n then some (le8 ws 8) else none
variable{n:Nat}
theorem A9H(h:¬(32<=ws.length∧ws.getD 0 0=84∧(∀c∈ws.drop 9,c=0)∧le8 ws 8<n)):plc ws n=none:=if_neg h
theorem B2K(h:32<=ws.length∧ws.getD 0 0=84∧(∀c∈ws.drop 9,c=0)∧le8 ws 8<n):plc ws n=some (le8 ws 8):=if_pos h
theorem A9I(h:plc ws n=none):Value.tuple #[U7,.bool false]=.tuple #[(vI ((plc ws n).getD 0)),.bool (plc ws n).isSome]:=by rw [h];rfl
variable{m:Nat}
theorem C2N(h:plc ws n=some m):Value.tuple #[.int .i64 (m:Int),.bool true]=.tuple #[(vI ((plc ws n).getD 0)),.bool (plc ws n).isSome]:=by rw [h];rfl
theorem B98(h:ws.length<32):plc ws n=none:=A9H λh'=>absurd h'.1 qO
theorem C2O(h:ws.getD 0 0≠84):plc ws n=none:=A9H λh'=>h h'.2.1
theorem C2P{j:Nat}(hj:j<(ws.drop 9).length)(h:(ws.drop 9).getD j 0≠0):plc ws n=none:=A9H λh'=>h (h'.2.2.1 _ (by rw [Aj,Ab hj];exact List.getElem_mem hj))
theorem C2Q(h8:le8 ws 8=m)(h:n<=m):plc ws n=none:=A9H λh'=>by have:=h'.2.2.2;rw [h8] at this;exact absurd this (Nat.not_lt.2 h)
theorem B6K(h8:le8 ws 8=m)(h1:32<=ws.length)(h2:ws.getD 0 0=84)(h3:∀c∈ws.drop 9,c=0)(h:m<n):plc ws n=some m:=by rw [B2K ⟨h1,h2,h3,by rw [h8];exact h⟩,h8]
theorem A2m(i:Int)(n:Nat):plc (bts i) n=if u64 i<n then some (u64 i) else none:=by
  have e:le8 (bts i) 8=u64 i:=by rw [B2J i 8 qO];exact Af (C2M i)
  have hd:∀c∈(bts i).drop 9,c=0:=by
    intro c hc;unfold bts btk at hc;rw [List.drop_succ_cons,List.drop_append_of_le_length qM] at hc;simp only [List.mem_append] at hc;rcases hc with hc|hc
    . rw [Bx qM] at hc;cases hc
    . exact (List.mem_replicate.1 hc).2
  unfold plc;rw [e,A0U i (k:=8) qO |> (λh=>(h:(bts i).length=32))];by_cases h:u64 i<n
  . rw [if_pos h,if_pos ⟨by omega,E,hd,h⟩]
  . rw [if_neg h,if_neg (λh'=>h h'.2.2.2)]
theorem B99{w:Nat}(h:n<2^k):n ||| w*2^k=n+w*2^k:=by have:=Nat.two_pow_add_eq_or_of_lt h w;rw [Nat.mul_comm w,Nat.or_comm,Nat.add_comm n];exact this.symm
theorem C5f(h:∀x∈ws,x<256)(hk:k<8):ws.getD (1+k) 0*2^(8*k)<18446744073709551616:=by have h2:=A6x h (1+k);have hpk:(256:Nat)^k<=256^7:=Br qD qO;have hmk:ws.getD (1+k) 0*256^k<=255*256^7:=Nat.mul_le_mul qO hpk;rw [Nat.pow_mul];exact Be hmk qD
theorem C5g(h:∀x∈ws,x<256)(hk:k<8):le8 ws k<18446744073709551616 :=
  Bp (B2I h k) (Az (Br qD (show k<=7 by omega)) qD)
theorem C2R(h:∀x∈ws,x<256)(k:Nat):le8 ws k ||| ws.getD (1+k) 0*2^(8*k)=le8 ws (k+1):=by rw [B99 (by rw [Nat.pow_mul];exact B2I h k),Nat.pow_mul];rfl
end Go.Proofs.YtgpjndfgjjlhaaaGreatDoor
namespace Go.Px
theorem C2S{P:Program}{R:Mem}{l:Env}{d:Option Nat}{ty t t':TypeId}{pos:String}{af:Array Edge}{g:Option (Nat×Bool)}{x y:Operand}{a b:Nat}(hx:ev l x=some (.int .u64 (a:Int)))(hy:ev l y=some (.int .u64 (b:Int)))(ha:a<18446744073709551616)(hb:b<18446744073709551616):OpQ P R ⟨d,.binOp .or t x y t',ty,pos,af,g⟩ l (vW (a ||| b)):=B6k E hx hy ha hb
section
variable{P:Program}{R R':Mem}{l:Env}{d:Option Nat}{ty t t':TypeId}{pos:String}{af:Array Edge}{g:Option (Nat×Bool)}{x y:Operand}{i j:Int}{k:Nat}
theorem B2L(hx:ev l x=some (.int .i64 i))(hy:ev l y=some (.int .i64 j))(hj:j=((8*k:Nat):Int))(hk:k<8):OpQ P R ⟨d,.binOp .shr t x y t',ty,pos,af,g⟩ l (.int .i64 (i/((256^k:Nat):Int))):=by subst hj;have h:=C2q (P:=P) (R:=R) (d:=d) (ty:=ty) (pos:=pos) (af:=af) (g:=g) (t:=t) (t':=t') hx hy qO;rw [Int.toNat_natCast,Nat.min_eq_left (show 8*k<=IntKind.i64.bits by show 8*k<=64;omega)] at h;rw [show (256^k:Nat)=2^(8*k) by rw [Nat.pow_mul],Int.natCast_pow,<- Int.fdiv_eq_ediv_of_nonneg _ (Int.pow_nonneg qD)];exact h
theorem B2M{s:TypeId}(hx:ev l x=some (.int .i64 i))(hc:A58 P s t=some .u8):OpQ P R ⟨d,.convert s t x,ty,pos,af,g⟩ l (.int .u8 (((i%256).toNat:Nat):Int)):=by refine A0R _ hx hc ?_;unfold IntKind.wrap;simp only [IntKind.signed,IntKind.bits,Bool.false_and,Bool.false_eq_true,if_false];omega
end
end Go.Px
namespace Go.Proofs.YtgpjndfgjjlhaaaGreatDoor
open Go.Px
theorem B0T(i:Int)(A:Mem):FnX prog 38 [.int .i64 i] [] A λr M J=>J=[]∧Sl 1 r 32 (nums .u8 (bts i)) M:=by
 skip
 refine Cn (N:=22) func38 E E E λw=>?_;refine A8 (D1 0) (A1 (as_ (A0 (D1 0) (A1 ?_))));refine A2 E (B2k (a:=32) (e:=5) (k:=.u8) (by_:=1) E E kR E E qO qO E λv5 B5 hs5=>?_);refine as_ (A0 (D0 0 3) (A1 (mv_ ?_)));refine lQ_ (G4 (sz:=1) (a:=0) E E kR E (by first|assumption|exact Sl.rd (by assumption) qI|exact By.rd (by assumption)) qO) ?_;refine A2 E (B8B (u:=84) E E E kR hs5 qD qP λB5b hs5b=>?_);refine A0 (D0 0 3) (A3 (A1 (mv_ (A0 (D5 0 3 8) (A6 ?_)))));refine E0 (α:=Nat×Mem) (λs=>[(0,.int .i64 i),(3,v5),(8,.int .i64 (s.1:Int))]) (λs=>s.2) (λ_=>[]) (λs=>s.1<=8∧Sl 1 v5 32 (nums .u8 (btk i s.1)) s.2) (λs=>8-s.1) ⟨0,B5b⟩ ⟨Am _,hs5b⟩ (D5 0 3 8) (Cg qM) qI ?_;rintro ⟨k,B⟩ ⟨hk,hs⟩;dsimp only at hk hs ⊢;haveI:=hs.cel;refine A1 (lQ_ (E3 E E E) (A0 (D7 0 3 8 9) (A3 ?_)));refine C2 E ?_ ?_<;>intro hc
 .
  have hlt:k<8:=by simp at hc;omega
  refine A4 (nx (D5 0 3 8) (A3 (A6 (A1 (mV_ E (aS_ E (A0 (D7 0 3 4 8) (C1 (mv_ (mv_ ?_))))))))));refine lQ_ (I9 (a:=1) E E E E qO) ?_;refine mv_ (mv_ ?_);refine lQ_ (A1o (a:=8) E E E E qO) ?_;refine lQ_ (B2L (k:=k) E E E hlt) ?_;refine lQ_ (B2M E kR) ?_;refine lQ_ (G4 (sz:=1) E E kR E (by first|assumption|exact Sl.rd (by assumption) qI|exact By.rd (by assumption)) qO) ?_;refine A2 E (B8B (u:=byt i k) E E E kR hs qO qP λB6 hs6=>?_);rw [B6I i qO] at hs6;refine C5 (nb (nx (D5 0 3 8) (C1 ?_)));refine lQ_ (I9 (b:=1) E E E E qO) ?_;refine mv_ (C5 ?_);exact rn ⟨k+1,B6⟩ ⟨by dsimp only;omega,hs6⟩ (by dsimp only;omega) (D5 0 3 8) (Cg qM) qI
 .
  have hge:k=8:=by simp at hc;omega
  subst hge;refine D6 (te (re (be E (nx (D1 3) (A1 (mV_ E (aS_ E (A0 (D1 2) (A9 ?_)))))))));exact ⟨_,B,[],H2 E E,by first|exact Ao _|simp,by simp,E,hs⟩
theorem A00(bt bm:Nat)(ts:List Tm)(vp:Value)(ws:LN)(MT A:Mem)(hT:Tab bt bm ts MT)(hsub:∀x,x∈MT->x∈A)(hn:ts.length<=1048576)(hp:Rd A 1 vp ws.length (nums .u8 ws))(hw:∀x∈ws,x<256)(hl:ws.length<=maxLen):FnV prog 103 [(vP bt),vp] A (.tuple #[(vI ((plc ws ts.length).getD 0)),.bool (plc ws ts.length).isSome]):=by
 haveI:=hp.cel;have hmx:maxLen<9223372036854775808:=by unfold maxLen;omega
 refine Cn (N:=51) func103 E E E λw=>?_;refine A8 (D0 0 1) (A1 (as_ (as_ (A0 (D0 0 1) (A3 (A1 (mv_ ?_)))))));refine lQ_ (F8 (sz:=1) E kR hp) ?_;refine lQ_ (E3 E E E) (mv_ ?_);refine Y0 (t:=13) E (λhb=>?_) (λhb=>?_)
 . refine K0 E E E E ?_;refine K0 E E E E ?_;refine K0 E E E E ?_;refine K0 E E E E ?_;refine lQ_ (H6 E E) (A0 (D5 0 1 18) ?_);refine E2 E ?_;refine A1 (as_ (as_ (A0 (D0 4 5) (A9 (tr ?_)))));refine ⟨_,[],[],A2w E E E,Aa _,by simp,A9I (B98 (by simp at hb;omega)),E,E⟩
 .
  have h32:32<=ws.length:=by simp at hb;omega
  have h0:ws.getD 0 0=(ws.getD 0 0):=rfl;refine G1 E E (Cp qm_ E ?_);refine G1 E E (Cp (G4 (sz:=1) (a:=0) E E kR E hp qO) E ?_);refine G1 E E (Cp (A5A (j:=0) (Rd.mono hp qS) E kR qO) E ?_);refine G1 E E (Cp (E3 E E E) E ?_);refine lQ_ (E8 E E) (A0 (D5 0 1 18) ?_);refine C2 E ?_ ?_<;>intro hc
  .
   have h84:ws.getD 0 0≠84:=by have:=bne_iff_ne.1 hc;omega
   refine A1 (as_ (as_ (A0 (D0 4 5) (A9 (tr ?_)))));refine ⟨_,[],[],A2w E E E,Aa _,by simp,A9I (C2O h84),E,E⟩
  .
   have h84:ws.getD 0 0=84:=by have h:=hc;rw [bne_eq_false_iff_eq] at h;omega
   refine A4 (nx (D0 0 1) (A1 (aS_ E (A0 (D5 0 1 6) (A3 (A1 (mV_ E (A0 (D7 0 1 6 19) (A6 ?_)))))))));refine E0 (α:=Nat) (λk=>[(0,(vP bt)),(1,vp),(6,(vW (le8 ws k))),(19,.int .i64 (k:Int))]) (λ_=>[]) (λ_=>[]) (λk=>k<=8) (λk=>8-k) 0 qD (D7 0 1 6 19) (Cg qM) qI ?_;rintro k hk;refine A1 (lQ_ (E3 E E E) (A0 (E9 0 1 6 19 20) (A3 ?_)));refine C2 E ?_ ?_<;>intro hc
   .
    have hlt:k<8:=by simp at hc;omega
    have hwk:=A6x hw (1+k);have h8w:=C5f hw hlt;have h8n:=C5g hw hlt;refine A4 (nx (D7 0 1 6 19) (A3 (A6 (A1 (mV_ E (aS_ E (A0 (E9 0 1 6 7 19) (C1 (mv_ (mv_ (mv_ ?_)))))))))));refine lQ_ (I9 (a:=1) E E E E qO) ?_;refine lQ_ (G4 (sz:=1) E E kR E hp qO) ?_;refine lQ_ (A5A (Rd.mono hp qS) E kR qO) ?_;refine lQ_ (K2 (ws.getD (1+k) 0) E kR (by rw [A9s,Af qO])) ?_;refine mv_ ?_;refine lQ_ (A1o (a:=8) E E E E qO) ?_;refine lQ_ (C2D 18446744073709551616 E qD E E E E (by show 8*k<=64;omega)) ?_;rw [Af h8w];refine lQ_ (C2S E E h8n h8w) ?_;rw [C2R hw k];refine as_ (C5 (nb (nx (D7 0 1 6 19) (C1 ?_))));refine lQ_ (I9 (b:=1) E E E E qO) ?_;refine mv_ (C5 ?_);exact rn (k+1) qO qO (D7 0 1 6 19) (Cg qM) qI
   .
    have hge:k=8:=by simp at hc;omega
    subst hge;generalize h8:le8 ws 8=n8;refine D6 (te (re (be E (nx (D5 0 1 6) (A3 (A1 (mv_ ?_)))))));refine lQ_ (Z0 (sz:=1) (a:=9) E E kR E hp qO) ?_;have hq:=hp.loV 9 qO;rw [Nat.mul_one,<- A0Z] at hq;generalize vLo 9 1 vp=vq at *;haveI:=hq.cel;refine lQ_ (F8 (sz:=1) E kR hq) ?_;refine mv_ (A0 (E9 0 6 35 36 37) (A6 ?_));refine E0 (α:=Nat) (λj=>[(0,(vP bt)),(6,(vW n8)),(35,vq),(36,.int .i64 ((ws.length-9:Nat):Int)),(37,.int .i64 (j:Int))]) (λ_=>[]) (λ_=>[]) (λj=>j<=ws.length-9∧∀c∈(ws.drop 9).take j,c=0) (λj=>ws.length-9-j) 0 ⟨Am _,λc h=>by simp at h⟩ (E9 0 6 35 36 37) (Cg qM) qI ?_;rintro j ⟨hj,hz⟩;refine A1 (lQ_ (E3 E E E) (A0 (G9 0 6 35 36 37 38) (A3 ?_)));refine C2 E ?_ ?_<;>intro hc
    .
     have hlt:j<ws.length-9:=by simp at hc;omega
     have hjw:j<(ws.drop 9).length:=by rw [Bg];exact hlt
     have hwj:=A6x (ws:=ws.drop 9) (λx hx=>hw x (List.mem_of_mem_drop hx)) j;refine A4 (nx (E9 0 6 35 36 37) (A3 (A6 (A1 ?_))));refine lQ_ (G4 (sz:=1) E E kR E hq hlt) ?_;refine lQ_ (A5A (Rd.mono hq qS) E kR hlt) ?_;refine aS_ E (A0 (G9 0 6 9 35 36 37) (A1 (mV_ E (lQ_ (E3 E E E) (A0 (G9 0 6 35 36 37 42) ?_)))));refine C2 E ?_ ?_<;>intro hc
     .
      have hne:(ws.drop 9).getD j 0≠0:=by have:=bne_iff_ne.1 hc;omega
      refine A1 (aS_ E (aS_ E (A0 (D0 4 5) (A9 (br (tr (rr (br (tr ?_)))))))));refine ⟨_,[],[],A2w E E E,Aa _,by simp,A9I (C2P hjw hne),E,E⟩
     .
      have he0:(ws.drop 9).getD j 0=0:=by have h:=hc;rw [bne_eq_false_iff_eq] at h;omega
      refine A4 (nb (nx (E9 0 6 35 36 37) (C1 ?_)));refine lQ_ (I9 (b:=1) E E E E qO) ?_;refine mv_ (C5 ?_);exact rn (j+1) ⟨by omega,λc h=>by rw [Bh,Ab hjw] at h;rcases List.mem_append.1 h with h|h;exact hz c h;simp at h;rw [Aj,Ab hjw] at he0;simp at he0;omega⟩ qO (E9 0 6 35 36 37) (Cg qM) qI
    .
     have hge:j=ws.length-9:=by simp at hc;omega
     subst hge;have hzz:∀c∈ws.drop 9,c=0:=by rwa [Aw (by rw [Bg];exact Av _)] at hz
     refine D6 (te (re (be E (nx (D0 0 6) (A3 (A1 (mv_ (mv_ ?_))))))));refine D8 (aS E a0) kR (B2B bt bm ts MT _ hT (λx hx=>mA (hsub x hx))) E ?_;refine lQ_ (K2 ts.length E kR (by rw [A9s,Af qO])) ?_;refine lQ_ (E3 E E E) (A0 (D0 6 48) ?_);refine C2 E ?_ ?_<;>intro hc
     .
      have hge:ts.length<=n8:=by simp at hc;omega
      refine A1 (as_ (as_ (A0 (D0 4 5) (A9 (tr ?_)))));refine ⟨_,[],[],A2w E E E,Aa _,by simp,A9I (C2Q h8 hge),E,E⟩
     .
      have hltn:n8<ts.length:=by simp at hc;omega
      refine A4 (nx (D1 6) (A1 (mv_ ?_)));refine lQ_ (K2 n8 E kR (A2E qO)) ?_;refine as_ (as_ (A0 (D0 4 5) (A9 ?_)));refine ⟨_,[],[],A2w E E E,Aa _,by simp,C2N (B6K h8 h32 h84 hzz hltn),E,E⟩

def B5Y(ws:LN):Tm:=⟨2,[],ws,0⟩
def rdT(ts:List Tm)(ws:LN):List Tm:=match plc ws ts.length with
  | some _=>ts
  | none=>add ts (B5Y ws)
def rdI(ts:List Tm)(ws:LN):Nat:=match plc ws ts.length with
  | some j=>j
  | none=>at_ ts (B5Y ws)
variable{ws:LN}
theorem A3g(h:∀x∈ws,x<256)(hl:ws.length<=1099511627776):Tmo (B5Y ws):=⟨show 2<256 by decide,show i64 0 by unfold i64;omega,λi hi=>(List.not_mem_nil hi).elim,show 0<=1048576 by decide,⟨h⟩,hl⟩
variable{ts:List Tm}{j:Nat}
theorem A0i(h:plc ws ts.length=some j):rdT ts ws=ts∧rdI ts ws=j:=by unfold rdT rdI;rw [h];exact ⟨E,E⟩
theorem A0N(h:plc ws ts.length=none):rdT ts ws=add ts (B5Y ws)∧rdI ts ws=at_ ts (B5Y ws):=by unfold rdT rdI;rw [h];exact ⟨E,E⟩
theorem A7O{n:Nat}(h:plc ws n=some j):j<n∧∀m,j<m->plc ws m=some j:=by
  unfold plc at h;split at h
  . rename_i hc;have e:=Cc h;subst e;exact ⟨hc.2.2.2,λm hm=>B2K ⟨hc.1,hc.2.1,hc.2.2.1,hm⟩⟩
  . cases h
theorem A9J{t:Tm}(h:pos ts t=none):add ts t=ts++[t]∧at_ ts t=ts.length:=by unfold add at_;rw [h];exact ⟨E,E⟩
theorem A6y{t:Tm}(h:pos ts t=some j):add ts t=ts∧at_ ts t=j:=by unfold add at_;rw [h];exact ⟨E,E⟩
variable{e4:TypeId}{f4:Nat×Nat}
theorem A7P(bt bm:Nat)(ts:List Tm)(vp:Value)(ws:LN)(MT A:Mem)(hT:Tab bt bm ts MT)(hn:ts.length<=1048576)(hp:Rd A 1 vp ws.length (nums .u8 ws))(hw:∀x∈ws,x<256)(hl:ws.length<=1099511627776)(h4:(4,Obj.cells (nums .u64 A0M).toArray e4 f4)∈A):FnX prog 83 [(vP bt),vp] MT A λr M J=>J=[]∧r=(vI (rdI ts ws))∧Tab bt bm (rdT ts ws) M:=by
 haveI:=hp.cel
 haveI:B256 ws:=⟨hw⟩
 refine Cn (N:=20) func83 E E E λw=>?_;refine A8 (D0 0 1) (A1 (as_ (A0 (D0 0 1) (A3 (A1 (mv_ (mv_ ?_)))))));refine D8 (aS E (aS E a0)) kR (A00 bt bm ts vp ws MT _ hT qS hn (hp.mono qS) hw (Az hl (by unfold maxLen;omega))) E ?_;refine mV_ E (lQ_ (A0x E) (lQ_ (A0n E) (as_ (as_ (A0 (D7 0 1 5 6) (A1 (mv_ (A0 (D7 0 1 5 13) ?_))))))));refine C2 E ?_ ?_<;>intro hc
 . obtain ⟨j,hj⟩:=Option.isSome_iff_exists.1 hc;obtain ⟨h1,h2⟩:=A0i hj;refine A1 (mv_ (as_ (A0 (D1 4) (A9 (tr ?_)))));exact ⟨_,MT,[],H2 E E,Ao _,by simp,E,by rw [h2,hj];rfl,by rw [h1];exact hT⟩
 .
  have hj:plc ws ts.length=none:=by simpa using hc
  obtain ⟨h1,h2⟩:=A0N hj;refine A4 (nx (D0 0 1) (A1 (mV_ E (mV_ E (lQ_ (P2 E kR (hp.mono qS)) ?_)))));refine lQ_ (E6 (place:=λx=>#[(0,1),(1,1),(2,1),(3,1)][x]?) (z:=[zu8,vS,.string ByteArray.empty,U7]) (λ_=>by kernel_rfl) (eS E (eS E e0)) (bdS 0 1 E qR (bdS 2 1 E qR bd0))) ?_;refine A2 E (C8 (Mc:=MT) (R:=_) (aS E (aS E a0)) kR qP (R9 bt bm ts (vS) (B5Y ws) MT _ hT hn Rd.nil (A3g hw hl) (qS _ h4)) E ?_);rintro v19 M19 J19 ⟨rfl,rfl,hT19⟩;refine as_ (A0 (D1 4) (A9 ?_));exact ⟨_,M19,[],H2 E E,by first|exact Ao _|simp,by simp,E,by rw [h2],by rw [h1];exact hT19⟩
theorem S9:(rdT ts ws).length<=ts.length+1:=by
  unfold rdT;split
  . omega
  . exact A0T
def srt(x y:Int):List Int:=if y<x then [y,x] else [x,y]
def two(j:Nat)(x y:Int):List Int:=if j=1 then [x,y] else [y,x]
def C2T(i:Nat)(x y:Int):List Int:=if i=1 then [x,y] else srt x y
theorem A2b{R:Mem}{b:Nat}{x y:Int}{e:TypeId}{fr:Nat×Nat}(h:(b,Obj.cells (A13 (two j x y)).toArray e fr)∈R):Rd R 1 (.slice (some ⟨b,0,none⟩) 2 2) 2 (A13 (two j x y)):=Cr (n:=2) h (by unfold two;split<;>rfl)
theorem B0U(x:Int)(A:Mem):FnV prog 210 [.int .i64 x] A (.bool false):=by refine Cn (N:=6) func210 E E E λw=>?_;refine A8 (D1 0) (A1 (as_ (A0 (D1 0) (A1 (mv_ (mv_ ?_))))));refine lQ_ (E3 (v:=.bool false) E E (by simp [H8])) ?_;refine as_ (A0 (D1 2) (A9 ?_));refine ⟨_,[],[],H2 E E,Aa _,by simp,E,E,E⟩
theorem B2N(x y:Int)(A:Mem):FnV prog 186 [.int .i64 x,.int .i64 y] A (.bool (decide (x<y))):=by refine Cn (N:=17) func186 E E E λw=>?_;refine A8 (D0 0 1) (A1 (as_ (A0 (D0 0 1) (A1 (mv_ ?_)))));refine D8 (aS E a0) kR (B0U x _) E ?_;refine mv_ ?_;refine K0 E E E E ?_;refine K0 E E E E ?_;refine K0 E E E E ?_;refine lQ_ (E8 E E) (mv_ ?_);refine G1 E E (Cp qm_ E ?_);refine G1 E E (Cp qm_ E ?_);refine G1 E E (Cp (E3 E E E) E ?_);refine lQ_ (E8 E E) (as_ (A0 (D1 4) (A9 ?_)));refine ⟨_,[],[],H2 E E,Aa _,by simp,E,E,E⟩
theorem B6L(b:Nat)(x y:Int)(A:Mem):FnX prog 180 [.slice (some ⟨b,0,none⟩) 2 2,U7,.int .i64 2] [(b,blk (A13 ([x,y])) 3)] A λr M J=>J=[]∧r=.tuple #[]∧M=[(b,blk (A13 (srt x y)) 3)]:=by
 refine Cn (N:=49) func180 E E E λw=>?_;refine A8 (D5 0 1 2) (A1 (mv_ ?_));refine lQ_ (I9 (a:=0) (b:=1) E E E E qO) ?_;refine as_ (A0 (D7 0 1 2 6) (A6 ?_));refine E0 (α:=Nat) (λi=>[(0,.slice (some ⟨b,0,none⟩) 2 2),(1,.int .i64 0),(2,.int .i64 2),(6,.int .i64 (i:Int))]) (λi=>[(b,blk (A13 (C2T i x y)) 3)]) (λ_=>[]) (λi=>i=1∨i=2) (λi=>2-i) 1 (.inl E) (D7 0 1 2 6) .rfl qI ?_;rintro i hi;refine A3 (A1 (mV_ E (mV_ E (lQ_ (E3 E E E) (A0 (E9 0 1 2 6 12) ?_)))));refine C2 E ?_ ?_<;>intro hc
 .
  obtain rfl:i=1:=by simp at hc;omega
  refine A4 (nx (D7 0 1 2 6) (A3 (A6 (A1 (mv_ (as_ (A0 (E9 0 1 2 6 7) (A6 ?_))))))));refine E0 (α:=Nat) (λj=>[(0,.slice (some ⟨b,0,none⟩) 2 2),(1,.int .i64 0),(2,.int .i64 2),(6,.int .i64 1),(7,.int .i64 (j:Int))]) (λj=>[(b,blk (A13 (two j x y)) 3)]) (λ_=>[]) (λj=>j=1∨(j=0∧y<x)) (λj=>j) 1 (.inl E) (E9 0 1 2 6 7) .rfl qI ?_;rintro j hj;refine A3 ?_;refine C9 (.range 15) (zp 0 [0,0,0,0,0,0,0,1,0,0,0,0,1,2,0]) kR kR λhs=>?_;refine fM_ E E (fM_ E E (fQ_ E (E3 E E E) (fm_ ?_)));refine A0h (t:=19) E (λhb=>?_) (λhb=>?_)
  .
   obtain rfl:j=1:=by have:=of_decide_eq_true hb;omega
   refine fG_ E qm_ (fG_ E qm_ ?_);refine fG_ E (G4 (sz:=1) (a:=1) E E kR E (A2b (R:=[_]) (j:=1) (x:=x) (y:=y) (e:=3) (fr:=(0,0)) qK) qD) ?_;refine fH_ E (Z8 (j:=1) (u:=.int .i64 y) (A2b Ce) E kR E) (fG_ E qm_ (fG_ E qm_ ?_));refine fG_ E (Q8 (a:=1) (b:=1) E E E E qO qO) ?_;refine fG_ E (G4 (sz:=1) (a:=0) E E kR E (A2b (R:=[_]) (j:=1) (x:=x) (y:=y) (e:=3) (fr:=(0,0)) qK) qD) ?_;refine fH_ E (Z8 (j:=0) (u:=.int .i64 x) (A2b Ce) E kR E) ?_;refine A2K E E E E (aS E (aS E a0)) kR (B2N y x _) E ?_;refine fQ_ E (H6 E E) (E4 (G9 0 1 2 6 7 30) ?_);refine C2 E ?_ ?_<;>intro hc
   .
    have hyx:y<x:=by simpa using hc
    refine A4 (nx (E9 0 1 2 6 7) (A3 (A6 ?_)));refine I1 [0,1,2,3,4,5,6,7,8,9,10,11,12,13,14,16] (zp 0 [0,0,0,0,0,0,0,0,0,1,0,0,0,1,0,2,0,2]) kR kR λhs=>?_;refine fM_ E E (fM_ E E (fM_ E E (fm_ ?_)));refine fQ_ E (Q8 (a:=1) (b:=1) E E E E qO qO) ?_;refine fM_ E E (fm_ ?_);refine fQ_ E (Q8 (a:=1) (b:=1) E E E E qO qO) ?_;refine fQ_ E (G4 (sz:=1) (a:=0) E E kR E (A2b (R:=[_]) (j:=1) (x:=x) (y:=y) (e:=3) (fr:=(0,0)) qK) qD) ?_;refine fR_ E (Z8 (j:=0) (u:=.int .i64 x) (A2b Ce) E kR E) (fM_ E E (fm_ ?_));refine fQ_ E (G4 (sz:=1) (a:=1) E E kR E (A2b (R:=[_]) (j:=1) (x:=x) (y:=y) (e:=3) (fr:=(0,0)) qK) qD) ?_;refine fR_ E (Z8 (j:=1) (u:=.int .i64 y) (A2b Ce) E kR E) ?_;refine fQ_ E (G4 (sz:=1) (a:=1) E E kR E (A2b (R:=[_]) (j:=1) (x:=x) (y:=y) (e:=3) (fr:=(0,0)) qK) qD) ?_;refine G3 E E E (E1 (show ev _ _=some (.pointer (some ⟨b,1,none⟩)) from rfl) E E kR (show SetL [.int .i64 x,.int .i64 y] 1 (.int .i64 x) [.int .i64 x,.int .i64 x] from Ct) Cv ?_);refine fQ_ E (G4 (sz:=1) (a:=0) E E kR E (A2b (R:=[_]) (j:=1) (x:=x) (y:=y) (e:=3) (fr:=(0,0)) qK) qD) ?_;refine G3 E E E (E1 (show ev _ _=some (vP b) from rfl) E E kR (show SetL [.int .i64 x,.int .i64 x] 0 (.int .i64 y) [.int .i64 y,.int .i64 x] from Ct) Cv ?_);refine U0 (nb (nx (E9 0 1 2 6 7) (C1 (mv_ ?_))));refine lQ_ (Q8 (a:=1) (b:=1) E E E E qO qO) ?_;refine as_ (C5 ?_);exact rn 0 (.inr ⟨E,hyx⟩) qD (E9 0 1 2 6 7) .rfl qI
   .
    have hyx:¬y<x:=by simpa using hc
    refine D6 (te (re (be E (nb (nx (D7 0 1 2 6) (C1 (mv_ ?_)))))));refine lQ_ (I9 (a:=1) (b:=1) E E E E qO) ?_;refine as_ (C5 ?_);exact rn 2 (.inr E) qD (D7 0 1 2 6) (by rw [show C2T 2 x y=[x,y] by unfold C2T srt;simp [hyx]];exact .rfl) qI
  .
   obtain ⟨rfl,hyx⟩:j=0∧y<x:=by have:=of_decide_eq_false hb;omega
   refine L0 hs ?_;refine L0 hs ?_;refine L0 hs ?_;refine W3 hs ?_;refine L0 hs ?_;refine L0 hs ?_;refine L0 hs ?_;refine L0 hs ?_;refine W3 hs ?_;refine A7x hs E E E E E E ?_;refine fQ_ E (E8 E E) (E4 (G9 0 1 2 6 7 30) ?_);refine C7 E ?_;refine D6 (te (re (be E (nb (nx (D7 0 1 2 6) (C1 (mv_ ?_)))))));refine lQ_ (I9 (a:=1) (b:=1) E E E E qO) ?_;refine as_ (C5 ?_);exact rn 2 (.inr E) qD (D7 0 1 2 6) (by rw [show C2T 2 x y=[y,x] by unfold C2T srt;simp [hyx]];exact .rfl) qI
 .
  obtain rfl:i=2:=by simp at hc;omega
  refine D6 (te (re (be E ?_)));exact ⟨_,_,[],A8v E,Ao _,by simp,E,E,E⟩
theorem B6M(b:Nat)(x y n:Int)(A:Mem):FnX prog 163 [.slice (some ⟨b,0,none⟩) 2 2,U7,.int .i64 2,.int .i64 n] [(b,blk (A13 ([x,y])) 3)] A λr M J=>J=[]∧r=.tuple #[]∧M=[(b,blk (A13 (srt x y)) 3)]:=by
 refine Cn (N:=134) func163 E E E λw=>?_;refine A8 (D7 0 1 2 3) (A1 (as_ (A0 (E9 0 1 2 3 8) (A1 (as_ (A0 (G9 0 1 2 3 8 9) (A6 ?_)))))));refine E0 (α:=Unit) (λ_=>[(0,.slice (some ⟨b,0,none⟩) 2 2),(1,.int .i64 0),(2,.int .i64 2),(3,.int .i64 n),(8,.bool true),(9,.bool true)]) (λ_=>[(b,blk (A13 ([x,y])) 3)]) (λ_=>[]) (λ_=>True) (λ_=>0) () trivial (G9 0 1 2 3 8 9) .rfl qI ?_;rintro _ _;refine A6 (A1 (mv_ (mv_ ?_)));refine lQ_ (Q8 (a:=2) (b:=0) E E E E qO qO) ?_;refine as_ (A0 (N1 0 1 2 3 8 9 10) (A3 (A1 (mv_ ?_))));refine lQ_ (E3 (v:=.bool true) E E qR) ?_;refine A0 (V4 0 1 2 3 8 9 10 23) ?_;refine C2 E ?_ ?_<;>intro hc
 . refine A1 (mv_ (mv_ (mv_ ?_)));refine A2 E (C8 (Mc:=[(b,blk (A13 ([x,y])) 3)]) (R:=[]) (aS E (aS E (aS E a0))) kR (.refl _) (B6L b x y _) E ?_);rintro v27 M27 J27 ⟨rfl,rfl,rfl⟩;refine A0 kn (A9 (tr (br (rr (br ?_)))));exact ⟨_,_,[],A8v E,by first|exact Ao _|simp,by simp,E,E,by first|rfl|simp⟩
 . exact absurd hc qD
theorem B6N(x:Nat)(hx:x<18446744073709551616)(A:Mem):FnX prog 164 [.int .u64 (x:Int)] [] A λr M J=>M=[]∧J=[]∧∃n:Int,r=.int .i64 n:=by
 refine Cn (N:=8) func164 E E E λw=>?_;refine A8 (D1 0) (A1 (as_ (A0 (D1 0) (A3 ?_))));refine C2 E ?_ ?_<;>intro hc
 . exact absurd hc qD
 . refine A4 (nx (D1 0) (A1 (mv_ ?_)));refine C6 (aS E a0) kR (A5G x hx _) E ?_;rintro v7 M7 J7 ⟨rfl,rfl,n7,rfl,-⟩;refine as_ (A0 (D1 2) (A9 ?_));exact ⟨_,[],[],H2 E E,by first|exact Ao _|simp,by simp,E,E,_,E⟩
theorem B2O(b:Nat)(x y:Int)(A:Mem):FnX prog 128 [.slice (some ⟨b,0,none⟩) 2 2] [(b,blk (A13 ([x,y])) 3)] A λr M J=>J=[]∧r=.tuple #[]∧M=[(b,blk (A13 (srt x y)) 3)]:=by refine Cn (N:=11) func128 E E E λw=>?_;refine A8 (D1 0) (A1 (mV_ E (lQ_ (A0r (e:=3) E kR) (as_ (A0 (D0 0 2) (C1 (mv_ (mv_ (mv_ ?_)))))))));refine lQ_ (K2 (k':=.u64) 2 E kR qR) ?_;refine C6 (aS E a0) kR (B6N 2 qD _) E ?_;rintro v9 M9 J9 ⟨rfl,rfl,n9,rfl⟩;refine A2 E (C8 (Mc:=[(b,blk (A13 ([x,y])) 3)]) (R:=[]) (aS E (aS E (aS E (aS E a0)))) kR (.refl _) (B6M b x y _ _) E ?_);rintro v10 M10 J10 ⟨rfl,rfl,rfl⟩;refine C5 ?_;exact ⟨_,_,[],A8v E,by first|exact Ao _|simp,by simp,E,E,by first|rfl|simp⟩
def agT(ts:List Tm)(s o:Int):Tm:=if 0<=o then match ts[o.toNat]? with
  | some t=>if t.kind=3∧t.of.length=1 then ⟨4,srt s (t.of.getD 0 0),[],0⟩ else ⟨4,[s,o],[],1⟩
  | none=>⟨4,[s,o],[],1⟩ else ⟨4,[s,o],[],1⟩
variable{s o:Int}
theorem C2U(h:¬(0<=o∧o<(ts.length:Int))):agT ts s o=⟨4,[s,o],[],1⟩:=by
  unfold agT;by_cases h0:0<=o
  . rw [if_pos h0,List.getElem?_eq_none qO]
  . rw [if_neg h0]
theorem B8J{t:Tm}(h0:0<=o)(h:ts[o.toNat]? = some t)(hk:¬(t.kind=3∧t.of.length=1)):agT ts s o=⟨4,[s,o],[],1⟩:=by unfold agT;rw [if_pos h0,h];exact if_neg hk
theorem B2P{t:Tm}(h0:0<=o)(h:ts[o.toNat]? = some t)(hk:t.kind=3∧t.of.length=1):agT ts s o=⟨4,srt s (t.of.getD 0 0),[],0⟩:=by unfold agT;rw [if_pos h0,h];exact if_pos hk
theorem A2S{A:Mem}{i:Int}{c:List Value}{ok:Bool}(hts:∀t∈ts,Tmo t)(h1:(0<=i∧i<(ts.length:Int))->ok=true∧∃t,ts[i.toNat]? = some t∧TmC A c t)(h2:¬(0<=i∧i<(ts.length:Int))->ok=false∧c=tmc 0 (vS) [] 0) :
    ∃(vo:Value) (t:Tm),c=tmc t.kind vo t.text t.n∧Rd A 1 vo t.of.length (A13 t.of)∧(∀z∈t.of,i64 z)∧t.kind<256∧(ok=true->0<=i∧ts[i.toNat]? = some t)∧(ok=false->¬(0<=i∧i<(ts.length:Int))):=by
  by_cases h:0<=i∧i<(ts.length:Int)
  . obtain ⟨e,t,ht,vo,hc,hr⟩:=h1 h;have hto:=hts t (As ht);exact ⟨vo,t,hc,hr,hto.of,hto.kind,λ_=>⟨h.1,ht⟩,λe'=>by rw [e] at e';cases e'⟩
  . obtain ⟨e,hc⟩:=h2 h;exact ⟨vS,⟨0,[],[],0⟩,hc,Rd.nil,(λz hz=>by cases hz),by decide,(λe'=>by rw [e] at e';cases e'),λ_=>h⟩
theorem A2n(x y:Int):(srt x y).length=2:=by unfold srt;split<;>rfl
theorem B2Q{x y z:Int}(h:z∈srt x y):z=x∨z=y:=by unfold srt at h;split at h<;>simp at h<;>omega
theorem B2R{s o n:Int}{l:List Int}(hl:l.length=2)(h:∀z∈l,i64 z)(hn:n=0∨n=1):Tmo ⟨4,l,[],n⟩:=⟨show 4<256 by decide,show i64 n by unfold i64;omega,h,show l.length<=1048576 by omega,⟨λx hx=>(List.not_mem_nil hx).elim⟩,show 0<=1099511627776 by decide⟩
theorem B0V(bt bm:Nat)(ts:List Tm)(s o:Int)(MT A:Mem)(hT:Tab bt bm ts MT)(hn:ts.length<=1048576)(hs:i64 s)(ho:i64 o)(h4:(4,Obj.cells (nums .u64 A0M).toArray e4 f4)∈A):FnX prog 85 [(vP bt),.int .i64 s,.int .i64 o] MT A λr M J=>J=[]∧r=(vI (at_ ts (agT ts s o)))∧Tab bt bm (add ts (agT ts s o)) M:=by
 have hnT:=hT;obtain ⟨_,_,_,_,_,_,_,_,_,_,_,hts,hnd⟩:=hnT;refine Cn (N:=46) func85 E E E λw=>?_;refine A8 (D5 0 1 2) (A1 (as_ (A0 (D5 0 1 2) (A3 (A1 (mv_ (mv_ ?_)))))));refine C6 (aS E (aS E a0)) kR (A2R bt bm ts o MT _ hT qS) E ?_;rintro v13 M13 J13 ⟨rfl,rfl,c13,ok13,rfl,hg1,hg2⟩;obtain ⟨vo,t,rfl,hvo,hz,htk,hok,hno⟩:=A2S hts hg1 hg2;haveI:=hvo.cel;refine mV_ E (lQ_ (A0x E) (lQ_ (A0n E) ?_));refine A2 E (C3 (cs:=[zu8,vS,.string ByteArray.empty,U7]) kR E λb7=>?_);refine A2 E (A5 E E E kR qR (by intro c hc;simp only [Cz,Da,or_false] at hc;rcases hc with rfl|rfl|rfl|rfl<;>first|rfl|exact hvo.one) Cv ?_);refine as_ (A0 (E9 0 1 2 7 8) (A1 (mv_ (mv_ ?_))));refine Y0 (t:=17) E (λhb=>?_) (λhb=>?_)
 .
  obtain ⟨h0,hget⟩:=hok hb;refine G1 E E (Cp (qf_ 0 0) E ?_);refine G1 E E (Cp ql_ E ?_);refine G1 E E (Cp (E3 E E E) E ?_);refine lQ_ (H6 E E) (mv_ ?_);refine Y0 (t:=22) E (λhb=>?_) (λhb=>?_)
  .
   have hk3:t.kind=3:=by simp at hb;omega
   refine G1 E E (Cp (qf_ 1 1) E ?_);refine G1 E E (Cp ql_ E ?_);refine G1 E E (Cp (F8 (sz:=1) E kR hvo) E ?_);refine G1 E E (Cp (E3 E E E) E ?_);refine lQ_ (H6 E E) (A0 (E9 0 1 2 7 27) ?_);refine C2 E ?_ ?_<;>intro hc
   .
    have h1:t.of.length=1:=by simp at hc;omega
    have hag:=B2P (s:=s) h0 hget ⟨hk3,h1⟩;have hz0:i64 (t.of.getD 0 0):=hz _ (by rw [Aj,Ab qO];exact List.getElem_mem _);generalize hzz:t.of.getD 0 0=z0 at *;refine A1 (mV_ E (lQ_ (qf_ 1 1) ?_));refine lQ_ ql_ ?_;refine lQ_ (G4 (sz:=1) (a:=0) E E kR E hvo qO) ?_;refine lQ_ (Z8 (j:=0) (u:=.int .i64 z0) (hvo.mono qS) E kR (by rw [<- hzz,Aj,A13,List.getElem?_map,Ab qO];rfl)) ?_;refine A2 E (C4 (e:=3) (sz:=1) (z:=[U7,U7]) kR (eS E (eS E e0)) (bdS 0 1 E qR (bdS 1 1 E qR bd0)) E λb33=>?_);refine as_ (A0 (D0 0 9) (A1 (mv_ ?_)));refine A2 E (C8 (Mc:=[(b33,blk [.int .i64 s,.int .i64 z0] 3)]) (R:=_) (aS E a0) kR qP (B2O b33 s z0 _) E ?_);rintro v35 M35 J35 ⟨rfl,rfl,rfl⟩;refine A0 (D0 0 9) (A1 (mv_ (mv_ ?_)));refine lQ_ (E6 (place:=λx=>#[(0,1),(1,1),(2,1),(3,1)][x]?) (z:=[zu8,vS,.string ByteArray.empty,U7]) (λ_=>by kernel_rfl) (eS E (eS E e0)) (bdS 0 1 E qR (bdS 1 1 E qR bd0))) ?_;refine A2 E (C8 (Mc:=MT) (R:=_) (aS E (aS E a0)) kR qP (R9 bt bm ts _ ⟨4,srt s z0,[],0⟩ MT _ hT hn (by rw [A2n];exact (Cr (n:=2) Ce (by first|rfl|exact (A37 _).trans (A2n _ _)))) (B2R (s:=s) (o:=o) (A2n _ _) (λq hq=>(B2Q hq).elim (λe=>e▸hs) (λe=>e▸hz0)) (.inl E)) (qS _ h4)) E ?_);rintro v39 M39 J39 ⟨rfl,rfl,hT39⟩;refine as_ (A0 (D1 6) (A9 (tr ?_)));exact ⟨_,M39,[],H2 E E,by first|exact Ao _|simp,by simp,E,by rw [hag],by rw [hag];exact hT39⟩
   . have hag:=B8J (s:=s) h0 hget (λh=>by have:=h.2;simp at hc;omega);refine A4 (nx (D5 0 1 2) (A1 (mv_ (mv_ (mv_ ?_)))));refine A2 E (C4 (e:=3) (sz:=1) (z:=[U7,U7]) kR (eS E (eS E e0)) (bdS 0 1 E qR (bdS 1 1 E qR bd0)) E λb43=>?_);refine lQ_ (E6 (place:=λx=>#[(0,1),(1,1),(2,1),(3,1)][x]?) (z:=[zu8,vS,.string ByteArray.empty,U7]) (λ_=>by kernel_rfl) (eS E (eS E (eS E e0))) (bdS 0 1 E qR (bdS 1 1 E qR (bdS 3 1 E qR bd0)))) ?_;refine A2 E (C8 (Mc:=MT) (R:=_) (aS E (aS E a0)) kR qP (R9 bt bm ts _ ⟨4,[s,o],[],1⟩ MT _ hT hn (Cr (n:=2) Ce (by first|rfl|exact (A37 _).trans (A2n _ _))) (B2R (s:=s) (o:=o) E (λq hq=>by simp at hq;rcases hq with rfl|rfl<;>assumption) (.inr E)) (qS _ h4)) E ?_);rintro v45 M45 J45 ⟨rfl,rfl,hT45⟩;refine as_ (A0 (D1 6) (A9 ?_));exact ⟨_,M45,[],H2 E E,by first|exact Ao _|simp,by simp,E,by rw [hag],by rw [hag];exact hT45⟩
  . have hag:=B8J (s:=s) h0 hget (λh=>by have:=h.1;simp at hb;omega);refine K0 E E E E ?_;refine K0 E E E E ?_;refine K0 E E E E ?_;refine K0 E E E E ?_;refine lQ_ (E8 E E) (A0 (E9 0 1 2 7 27) ?_);refine C7 E ?_;refine A4 (nx (D5 0 1 2) (A1 (mv_ (mv_ (mv_ ?_)))));refine A2 E (C4 (e:=3) (sz:=1) (z:=[U7,U7]) kR (eS E (eS E e0)) (bdS 0 1 E qR (bdS 1 1 E qR bd0)) E λb43=>?_);refine lQ_ (E6 (place:=λx=>#[(0,1),(1,1),(2,1),(3,1)][x]?) (z:=[zu8,vS,.string ByteArray.empty,U7]) (λ_=>by kernel_rfl) (eS E (eS E (eS E e0))) (bdS 0 1 E qR (bdS 1 1 E qR (bdS 3 1 E qR bd0)))) ?_;refine A2 E (C8 (Mc:=MT) (R:=_) (aS E (aS E a0)) kR qP (R9 bt bm ts _ ⟨4,[s,o],[],1⟩ MT _ hT hn (Cr (n:=2) Ce (by first|rfl|exact (A37 _).trans (A2n _ _))) (B2R (s:=s) (o:=o) E (λq hq=>by simp at hq;rcases hq with rfl|rfl<;>assumption) (.inr E)) (qS _ h4)) E ?_);rintro v45 M45 J45 ⟨rfl,rfl,hT45⟩;refine as_ (A0 (D1 6) (A9 ?_));exact ⟨_,M45,[],H2 E E,by first|exact Ao _|simp,by simp,E,by rw [hag],by rw [hag];exact hT45⟩
 . have hag:=C2U (s:=s) (hno hb);refine K0 E E E E ?_;refine K0 E E E E ?_;refine K0 E E E E ?_;refine lQ_ (E8 E E) (mv_ ?_);refine K0 E E E E ?_;refine K0 E E E E ?_;refine K0 E E E E ?_;refine K0 E E E E ?_;refine lQ_ (E8 E E) (A0 (E9 0 1 2 7 27) ?_);refine C7 E ?_;refine A4 (nx (D5 0 1 2) (A1 (mv_ (mv_ (mv_ ?_)))));refine A2 E (C4 (e:=3) (sz:=1) (z:=[U7,U7]) kR (eS E (eS E e0)) (bdS 0 1 E qR (bdS 1 1 E qR bd0)) E λb43=>?_);refine lQ_ (E6 (place:=λx=>#[(0,1),(1,1),(2,1),(3,1)][x]?) (z:=[zu8,vS,.string ByteArray.empty,U7]) (λ_=>by kernel_rfl) (eS E (eS E (eS E e0))) (bdS 0 1 E qR (bdS 1 1 E qR (bdS 3 1 E qR bd0)))) ?_;refine A2 E (C8 (Mc:=MT) (R:=_) (aS E (aS E a0)) kR qP (R9 bt bm ts _ ⟨4,[s,o],[],1⟩ MT _ hT hn (Cr (n:=2) Ce (by first|rfl|exact (A37 _).trans (A2n _ _))) (B2R (s:=s) (o:=o) E (λq hq=>by simp at hq;rcases hq with rfl|rfl<;>assumption) (.inr E)) (qS _ h4)) E ?_);rintro v45 M45 J45 ⟨rfl,rfl,hT45⟩;refine as_ (A0 (D1 6) (A9 ?_));exact ⟨_,M45,[],H2 E E,by first|exact Ao _|simp,by simp,E,by rw [hag],by rw [hag];exact hT45⟩

end Go.Proofs.YtgpjndfgjjlhaaaGreatDoor
namespace Go.Px
theorem wf_u{k:IntKind}(hk:k.signed=false){n:Int}(h:(Lit.int k n).wf=true):0<=n∧n<2^k.bits:=by cases k<;>simp_all [Lit.wf,IntKind.min,IntKind.max,IntKind.bits,IntKind.signed]<;>omega
end Go.Px

namespace Go.Px
open Go.ChangeShapes Go.WideShapes Go.ChangeAt Go.RowKit
def B0W(w:World):Mem:=(List.range w.heap.size).filterMap λb=>(w.heap[b]?).map λo=>(b,o)
theorem A1H{w:World}{b:Nat}{o:Obj}:(b,o)∈B0W w↔w.heap[b]? = some o:=by
  simp only [B0W,List.mem_filterMap,List.mem_range,Option.map_eq_some_iff,Prod.mk.injEq];constructor
  . rintro ⟨x,_,y,h,rfl,rfl⟩;exact h
  . intro h;exact ⟨b,T4 h,o,h,E,E⟩
theorem heapA_fx(w:World):Fx (B0W w) w:=λb o h=>A1H.1 h
section
variable{H:Type}{enc:TypeId×Value->H}{P:Program}{w:World}{spare:Nat->Bool}{held:Bool}{fuel:Nat}{t e:TypeId}{cs:List Value}{x:DataW H×List MemPlace}{v:Value}{d:DataW H}{p:List MemPlace}{r:Reach}{base:Nat}{k:IntKind}
theorem A2T{a:Addr}{n:Nat}{c:List Value}(h:w.cells? 0 a n=some c):c.length=n∧∀j,j<n->w.cell? (a.add j)=c[j]?:=by unfold World.cells? at h;rw [if_pos (Am _)] at h;exact ⟨by simpa using mapM_some_length h,λj hj=>mapM_some_get h j j (by simp [hj])⟩
theorem B6O{sz:Nat}(ht:P.underlying t=some (.slice e))(hsz:P.cellsOf e=sz)(hs0:0<sz)(h:DataW.trod enc P w 0 spare held fuel t cs=some x) :
    ∃(v:Value) (xss:List (List Value)),cs=[v]∧xss.length<=maxLen∧Rd (B0W w) sz v xss.length xss.flatten∧∀c∈xss,c.length=sz∧∃m y,DataW.trod enc P w 0 spare held m e c=some y:=by
  rcases DataW.trod_slice ht h with ⟨rfl,_⟩|⟨a,len,cap,elems,rest,n,_,rfl,_,_,hl,hm,hlen,hel,_,_⟩
  . exact ⟨_,[],rfl,by simp,Rd.nil,λc hc=>by cases hc⟩
  . rw [hsz] at hel
    have hrow:∀i,i<len->∃c y,w.cells? 0 (a.add (i*sz)) sz=some c∧DataW.trod enc P w 0 spare held n e c=some y:=by intro i hi;have h1:=hel i hi;rw [Ab (by omega)] at h1;obtain ⟨c,h2,h3⟩:=Option.bind_eq_some_iff.1 h1;exact ⟨c,_,h2,h3⟩
    have hget:∀i,i<len->((List.range len).map λi=>(w.cells? 0 (a.add (i*sz)) sz).getD [])[i]? = some ((w.cells? 0 (a.add (i*sz)) sz).getD []):=by intro i hi;simp [hi]
    have hlen2:∀c∈(List.range len).map (λi=>(w.cells? 0 (a.add (i*sz)) sz).getD []),c.length=sz∧∃m y,DataW.trod enc P w 0 spare held m e c=some y:=by intro c hc;obtain ⟨i,hi,rfl⟩:=List.mem_map.1 hc;obtain ⟨c,y,h1,h2⟩:=hrow i (List.mem_range.1 hi);rw [h1,Option.getD_some];exact ⟨(A2T h1).1,n,y,h2⟩
    refine ⟨_,(List.range len).map λi=>(w.cells? 0 (a.add (i*sz)) sz).getD [],E,by simp;omega,?_,hlen2⟩;have hl1:((List.range len).map λi=>(w.cells? 0 (a.add (i*sz)) sz).getD []).length=len:=by simp
    have hfl:=A6b (rows:=(List.range len).map λi=>(w.cells? 0 (a.add (i*sz)) sz).getD []) (s:=sz) λc hc=>(hlen2 c hc).1;rw [hl1];rw [hl1] at hfl;by_cases h0:len*sz=0
    . refine ⟨some a,cap,E,hfl,hl,.inl ?_⟩;rcases Nat.mul_eq_zero.1 h0 with h|h<;>omega
    . have hlp:0<len:=Nat.pos_of_ne_zero (by rintro rfl;simp at h0);have hsp:0<sz:=Nat.pos_of_ne_zero (by rintro rfl;simp at h0);obtain ⟨c0,y0,h1,_⟩:=hrow 0 hlp;have h2:=(A2T h1).2 0 hsp;have h3:=(A2T h1).1;obtain ⟨b,o,sp⟩:=a;have hadd:((⟨b,o,sp⟩:Addr).add (0*sz)).add 0=⟨b,o,sp⟩:=by simp [Addr.add]
      rw [hadd,Ab (by omega)] at h2
      cases hb:w.heap[b]? with
      | none=>simp [World.cell?,hb] at h2
      | some ob =>
        cases ob<;>simp [World.cell?,hb] at h2;rename_i cells et fr;obtain ⟨rfl,h2⟩:=h2;refine ⟨_,cap,E,hfl,hl,.inr ⟨b,o,cells.toList,et,fr,E,A1H.2 (by simpa using hb),λj u hj=>?_⟩⟩;have hjl:j<len*sz:=by have:=(Ac.1 hj).1;rwa [hfl] at this
        have hi:j/sz<len:=Nat.div_lt_of_lt_mul (by rw [Nat.mul_comm];exact hjl);have hr:j%sz<sz:=Ad _ hsp;have hj2:=A2D (λc hc=>(hlen2 c hc).1) (hget _ hi) (j%sz) hr;have ej:j/sz*sz+j%sz=j:=by rw [Nat.mul_comm];exact Nat.div_add_mod j sz
        rw [ej,hj] at hj2;obtain ⟨c,y,h5,_⟩:=hrow _ hi;rw [h5,Option.getD_some] at hj2;have h6:=(A2T h5).2 _ hr;rw [<- hj2,Addr.add_mid,Addr.add_mid,World.cell?,hb] at h6;simp only [Option.isSome_none,Bool.false_eq_true,if_false] at h6;rw [Array.getElem?_toList,show o+j=o+j/sz*sz+j%sz by omega,h6]
theorem A7Q(hk:k.signed=false){n:Int}(h:(Lit.int k n).wf=true):∃m:Nat,n=(m:Int)∧m<2^k.bits:=by
  obtain ⟨h1,h2⟩:=wf_u hk h;obtain ⟨m,rfl⟩:=Int.eq_ofNat_of_zero_le h1;refine ⟨m,E,?_⟩;have h3:((m:Nat):Int)<((2^k.bits:Nat):Int):=by simpa using h2
  exact Int.ofNat_lt.1 h3
theorem inU(ht:P.underlying t=some (.int k))(hk:k.signed=false)(hv:Value.okWide P w r base t v)(h:DataW.Trod enc P w 0 spare held t v d p):∃n:Nat,v=.int k (n:Int)∧n<2^k.bits:=by obtain ⟨n,rfl⟩:=okWide_int ht hv;obtain ⟨f,hf⟩:=h;obtain ⟨m,h1,_,h2⟩:=DataW.trod_int ht hf;obtain ⟨q,rfl,h3⟩:=A7Q hk h2;exact ⟨q,by simpa [Value.cells] using h1,h3⟩
theorem B6P(hk:k.signed=false)(he:P.underlying e=some (.int k)){xss:List (List Value)}(h:∀c∈xss,c.length=1∧∃m y,DataW.trod enc P w 0 spare held m e c=some y) :
    ∃ws:List Nat,xss.flatten=nums k ws∧ws.length=xss.length∧∀x∈ws,x<2^k.bits:=by
  induction xss with
  | nil=>exact ⟨[],rfl,rfl,λx hx=>by cases hx⟩
  | cons c xss ih =>
    obtain ⟨ws,h1,h2,h3⟩:=ih λc hc=>h c (by simp [hc]);obtain ⟨_,m,y,h4⟩:=h c (by simp);obtain ⟨n,rfl,_,h5⟩:=DataW.trod_int he h4;obtain ⟨q,rfl,h6⟩:=A7Q hk h5;refine ⟨q::ws,by rw [List.flatten_cons,h1];rfl,by simp [h2],λx hx=>?_⟩;rcases List.mem_cons.1 hx with rfl|hx
    . exact h6
    . exact h3 x hx
theorem inSlU(ht:P.underlying t=some (.slice e))(he:P.underlying e=some (.int k))(hc:P.cellsOf e=1)(hk:k.signed=false)(hv:Value.okWide P w r base t v)(h:DataW.Trod enc P w 0 spare held t v d p) :
    ∃ws,Rd (B0W w) 1 v ws.length (nums k ws)∧(∀x∈ws,x<2^k.bits)∧ws.length<=maxLen:=by
  obtain ⟨a,len,cap,rfl⟩:=okWide_slice ht hv;obtain ⟨f,hf⟩:=h;obtain ⟨v,xss,h1,h2,h3,h4⟩:=B6O ht hc (by decide) hf;obtain ⟨ws,h5,h6,h7⟩:=B6P hk he h4;obtain rfl:Value.slice a len cap=v:=by simpa [Value.cells] using h1
  exact ⟨ws,by rw [h6,<- h5];exact h3,h7,by omega⟩
end
end Go.Px

namespace Go.Px
variable{c:Code}
section
variable{C:Cx}{Q:XQ}{l:Env}{M J B R M':Mem}{w:World}
theorem St.freezes(h:St C (B++M) J w):St C M (B++J) w:=by
  induction B generalizing J with
  | nil=>exact h
  | cons x B ih =>
    have h1:=ih (J:=x::J) (St.freeze (by simpa using h));refine h1.drop (Ao _) λy hy=>?_;simp only [Cy,Cz,List.mem_append] at hy ⊢;rcases hy with h|h|h<;>simp [h]
theorem St.frz(hp:M.Perm (B++M'))(h:St C M J w):St C M' (B++J) w:=(h.perm hp).freezes
theorem Z4(hp:M.Perm (B++M'))(h:XC C c Q l M' (B++J)):XC C c Q l M J:=λa w ha hw=>h a w ha (hw.frz hp)
theorem A3J{ops:Array Oper}{rest:List Oper}(hp:M.Perm (B++M'))(h:XL C ops rest Q l M' (B++J)):XL C ops rest Q l M J:=λa w ha hw=>h a w ha (hw.frz hp)
end
variable{P:Program}{f:FuncId}{args:List Value}
theorem FnX.frz0{A:Mem}{φ:Value->Mem->Prop}(h:FnX P f args [] A λr M J=>J=[]∧φ r M):FnX P f args [] A λr M J=>M=[]∧φ r J:=by intro w hw;refine Calls.mono (h w hw) ?_;rintro e w' ⟨v,M',J,rfl,⟨rfl,hq⟩,hs⟩;exact ⟨v,[],M',E,⟨E,hq⟩,by have:=St.frz (B:=M') (M':=[]) (by simp) hs;simpa using this⟩
structure By(R:Mem)(v:Value)(w:List Nat):Prop where
  rd:Rd R 1 v w.length (nums .u8 w)
  lt:∀x∈w,x<256
  len:w.length<=16777216
theorem By.mono{R R':Mem}{v:Value}{w:List Nat}(h:By R v w)(hR:∀x,x∈R->x∈R'):By R' v w:=⟨h.rd.mono hR,h.lt,h.len⟩
variable{R:Mem}{v:Value}{w:List Nat}
theorem By.b256(h:By R v w):B256 w:=⟨h.lt⟩
theorem By.one{R:Mem}{v:Value}{w:List Nat}(h:By R v w):v.oneCell'=true:=h.rd.one
theorem By.cel{R:Mem}{v:Value}{w:List Nat}(h:By R v w):Cel v [v]:=h.rd.cel
theorem By.nil{R:Mem}:By R (.slice none 0 0) []:=⟨Rd.nil,(λx h=>by cases h),by decide⟩
theorem By.max(h:By R v w):w.length<=maxLen:=Az h.len (by unfold maxLen;omega)
structure Lst(R:Mem)(vs:List Value)(ls:List (List Nat)):Prop where
  len:vs.length=ls.length
  get:∀(j:Nat) (w:List Nat),ls[j]? = some w->∃v,vs[j]? = some v∧By R v w
theorem Lst.mono{R R':Mem}{vs:List Value}{ls:List (List Nat)}(h:Lst R vs ls)(hR:∀x,x∈R->x∈R'):Lst R' vs ls:=⟨h.len,λj w hj=>by
  obtain ⟨v,h1,h2⟩:=h.get j w hj
  exact ⟨v,h1,h2.mono hR⟩⟩
variable{vs:List Value}{ls:List (List Nat)}
theorem Lst.at(h:Lst R vs ls){j:Nat}(hj:j<ls.length):∃v,vs[j]? = some v∧By R v ls[j]:=h.get j ls[j] (Ab hj)
theorem Lst.nil:Lst R [] []:=⟨E,λj w h=>by simp at h⟩
theorem Lst.cons(hv:By R v w)(h:Lst R vs ls):Lst R (v::vs) (w::ls):=⟨by simp [h.len],λj u hj=>by
  cases j with
  | zero=>simp at hj;subst hj;exact ⟨v,E,hv⟩
  | succ j=>exact h.get j u hj⟩
theorem Lst.snoc(h:Lst R vs ls)(hv:By R v w):Lst R (vs++[v]) (ls++[w]):=⟨by simp [h.len],λj u hj=>by
  by_cases hlt:j<ls.length
  . rw [Ak hlt] at hj;obtain ⟨v',h1,h2⟩:=h.get j u hj;exact ⟨v',by rw [Ak (Ac.1 h1).1];exact h1,h2⟩
  . rw [Aq (by omega)] at hj
    have hj0:j=ls.length:=by have:=(Ac.1 hj).1;simp at this;omega
    subst hj0;simp at hj;subst hj
    exact ⟨v,by rw [Aq (by rw [h.len];omega),h.len];simp,hv⟩⟩
structure LsV(R:Mem)(v:Value)(ls:List (List Nat)):Prop where
  ex:∃vs,Rd R 1 v ls.length vs∧Lst R vs ls
theorem LsV.mono{R R':Mem}{v:Value}{ls:List (List Nat)}(h:LsV R v ls)(hR:∀x,x∈R->x∈R'):LsV R' v ls:=by obtain ⟨vs,h1,h2⟩:=h.ex;exact ⟨vs,h1.mono hR,h2.mono hR⟩
theorem LsV.nil{R:Mem}:LsV R (.slice none 0 0) []:=⟨[],Rd.nil,Lst.nil⟩
theorem LsV.cel{R:Mem}{v:Value}{ls:List (List Nat)}(h:LsV R v ls):Cel v [v]:=by obtain ⟨vs,h1,_⟩:=h.ex;exact h1.cel
variable{b by_:Nat}{u:Value}{M':Mem}
section loud
variable{C:Cx}{l:Env}{M J:Mem}{K:Env->Mem->Mem->Prop}{d:Nat}{ty t e:TypeId}{pos:String}{af:Array Edge}{g:Option (Nat×Bool)}{x y:Operand}
theorem A4A{m n:Nat}{k:IntKind}{ws us ws':List Nat}{e':TypeId}(hx:ev l x=some (.slice (some ⟨b,0,none⟩) m m))(hy:ev l y=some u)(ht:A1t C.P t=some (e,1,by_))
    (hr:Rd (M++(J++C.A)) 1 u n (nums k us)) (hm:ws.length=m) (hw':ws'=us.take m++ws.drop n) (hu:Upd M b (blk (nums k ws) e') (blk (nums k ws') e') M') (hd:Nat.blt d C.N=true) (h:K ((d,(vI (min n m)))::l) M' J) :
    OpL C ⟨some d,.call { callee:=.builtin .copy,args:=#[x,y],argTypes:=#[t,t] },ty,pos,af,g⟩ l M J K:=by
  intro Qp a w ha hw;obtain ⟨i,z,hut,hi,hz,hzs,his,hib⟩:=Q1 ht;obtain ⟨pu,cu,rfl,hul,huc,hub⟩:=hr
  have hru:Rd (M++(J++C.A)) 1 (.slice pu n cu) n (nums k us):=⟨pu,cu,E,hul,huc,hub⟩
  have hb:=hw.mem _ _ (Ae _ hu.mem);have hf:=A2A (P:=C.P) (m:=n) (c2:=cu) (hru.hi (min n m) (Nat.min_le_left _ _)) hw.fx;have hus:us.length=n:=by simpa using hul
  rw [Nat.mul_one,show (nums k us).take (min n m)=nums k (us.take (min n m)) by simp [nums]] at hf;have hst:=run_storeCells_at (P:=C.P) b 0 e' (nums k (us.take (min n m))) 0 (nums k ws).toArray w hb (by simp [hus,hm];omega) E7;simp only [Nat.add_zero,Nat.zero_add,List.take_zero,Cw,nums_len,List.length_take,hus] at hst;rw [<- A0Z,<- H4] at hst
  have e1:us.take (min n m)++ws.drop (min (min n m) n)=ws':=by
    rw [hw'];rcases Nat.le_total m n with h|h
    . rw [Nat.min_eq_right h,Nat.min_eq_left h,Bx (l:=ws) (i:=m) (by omega),Bx (l:=ws) (i:=n) (by omega)]
    . rw [Nat.min_eq_left h,Nat.min_self,Aw (l:=us) (i:=n) (by omega),Aw (l:=us) (i:=m) (by omega)]
  rw [e1] at hst
  have hrun:(execOp a.eval ⟨some d,.call { callee:=.builtin .copy,args:=#[x,y],argTypes:=#[t,t] },ty,pos,af,g⟩).run C.P w=.ok (.value (vI (min n m))) (w.setRow b (nums k ws').toArray):=by simp [execOp,resolve,invoke,builtin,ha.ev hx,ha.ev hy,Builtin.copy_,run_underlying hut,sizeOf,typeInfo,hi,his,Builtin.lenOf,hf,hst,goInt]
  unfold Oper.wp;rw [hrun];exact ⟨_,M',J,ha.put (L7 hd) _,hw.setRow hu,h⟩
theorem A2U{sz n m o:Nat}{xs ys:List Value}(hx:ev l x=some (.slice (some ⟨b,o,none⟩) n n))(hy:ev l y=some u)(ht:A1t C.P t=some (e,sz,by_))(hsz:Nat.blt 0 sz=true)
    (hs:Rd (M++(J++C.A)) sz (.slice (some ⟨b,o,none⟩) n n) n xs) (hr:Rd (M++(J++C.A)) sz u m ys) (hm:0<m) (hmax:n+m<=maxLen) (hbytes:(n+m)*by_<=140737488355328) (hd:Nat.blt d C.N=true)
    (k:∀v' B',Sl sz v' (n+m) (xs++ys) B'->K ((d,v')::l) (B'++M) J) :
    OpL C ⟨some d,.call { callee:=.builtin .append,args:=#[x,y],argTypes:=#[t,t] },ty,pos,af,g⟩ l M J K:=by
  intro Qp a w ha hw;obtain ⟨i,z,hu,hi,hz,hzs,his,hib⟩:=Q1 ht;obtain ⟨pu,cu,rfl,hul,huc,hub⟩:=hr;obtain ⟨p',c',e',hxl,hcc,hxb⟩:=hs;cases e';subst his;subst hib
  obtain ⟨bu,ou,csu,eu,fru,rfl,hbu,hxu⟩:∃(b o:Nat) (cs:List Value) (e:TypeId) (fr:Nat×Nat),pu=some ⟨b,o,none⟩∧(b,Obj.cells cs.toArray e fr)∈M++(J++C.A)∧∀j u,ys[j]? = some u->cs[o+j]? = some u:=by
    rcases hub with h|h
    . omega
    . exact h
  have hnews:∀j u,ys[j]? = some u->w.cell? ((⟨bu,ou,none⟩:Addr).add j)=some u:=λj u hj=>by rw [Addr.add_mid,A2e hw.fx hbu];simpa using hxu j u hj
  have holds:∀j u,xs[j]? = some u->w.cell? ((⟨b,o,none⟩:Addr).add j)=some u:=λj u hj=>by
    rcases hxb with h|⟨b2,o2,cs2,e2,f2,h1,h2,h3⟩
    . subst h;have:xs=[]:=Bd (by simpa using hxl);subst this;simp at hj
    . cases h1;rw [Addr.add_mid,A2e hw.fx h2];simpa using h3 j u hj
  have hsmall:n+m<=9223372036854775807:=by simp only [maxLen] at hmax;omega
  have hge:=grownCap_ge w (n+m) n e;have hcm:grownCap w (n+m) n e<=maxLen:=grownCap_le_maxLen w (n+m) n e hmax;have hrg:=run_append_grow (P:=C.P) w t ty e i z hu hi hz ⟨b,o,none⟩ n n xs hxl holds ⟨bu,ou,none⟩ m cu ys hul hnews (by omega) (by omega) (growslice_fits (by omega) hbytes)
  have hexec:(execOp a.eval ⟨some d,.call { callee:=.builtin .append,args:=#[x,y],argTypes:=#[t,t] },ty,pos,af,g⟩).run C.P w=.ok (.value (.slice (some ⟨w.heap.size,0,none⟩) (n+m) (grownCap w (n+m) n e))) (w.drew.alloc (.cells (xs.toArray++ys.toArray++Builtin.zeroCells z.cells (grownCap w (n+m) n e-(n+m))) e (0,0))):=by simp [execOp,resolve,invoke,builtin,ha.ev hx,ha.ev hy,hrg]
  unfold Oper.wp;rw [hexec]
  have hsl:Sl i.size (.slice (some ⟨w.heap.size,0,none⟩) (n+m) (grownCap w (n+m) n e)) (n+m) (xs++ys) [(w.heap.size,.cells (xs.toArray++ys.toArray++Builtin.zeroCells z.cells (grownCap w (n+m) n e-(n+m))) e (0,0))]:=by
    refine .inr ⟨w.heap.size,0,_,(xs.toArray++ys.toArray++Builtin.zeroCells z.cells (grownCap w (n+m) n e-(n+m))).toList,e,E,by simp [blk],hge,hcm,?_,?_,?_⟩
    . simp only [Array.length_toList,Array.size_append,List.size_toArray,size_zeroCells,hzs,hxl,hul,<- Nat.add_mul,Nat.zero_add];refine Au _ ?_;omega
    . simp [hxl,hul,Nat.add_mul]
    . intro j u hj;have hlt:j<(xs++ys).length:=(Ac.1 hj).1;rw [Nat.zero_add];simp only [Array.toList_append,List.append_assoc];rw [<- Ap,Ak (by simpa using hlt)];exact hj
  exact ⟨_,_,J,ha.put (L7 hd) _,St.alloc (w:=w.drew) hw.drew _,k _ _ hsl⟩
end loud
def retZ(P:Program)(fn:Func)(A:Mem)(post:Value->Mem->Mem->Prop):XQ
  | .ret,l,M,J=>∃v M' B,Res P fn l (M++(J++A)) v∧Fit M (B++M')∧post v M' (B++J)
  | .normal,l,M,J=>∃v M' B,Res P fn l (M++(J++A)) v∧Fit M (B++M')∧post v M' (B++J)
  | _,_,_,_=>False
variable{M:Mem}
theorem FnX.enterZ{fn:Func}{N:Nat}{A:Mem}{post:Value->Mem->Mem->Prop}
    (hf:P.funcs[f]? = some fn) (hb:fn.body=some c) (hn:fn.ntmps=N) (hN:Nat.ble args.length N=true)
    (h:∀w,XC ⟨P,w,M.map Prod.fst,A,N⟩ c (retZ P fn A post) (C2s args 0) M []):FnX P f args M A post:=by
  intro w hw;refine calls_of_wp hf hb ?_;have hle:args.length<=N:=by simpa using hN
  refine Code.wp_mono ?_ (h w _ w ?_ hw.cx)
  . rintro e a' w' ⟨l,M',J,ha,hw',hq⟩;cases e<;>first|exact hq.elim|skip
    all_goals
      obtain ⟨v,M2,B,hv,hM2,hp⟩:=hq;exact ⟨ha.defers,v,hv N a' w' ha hw'.fx,v,M2,B++J,E,hp,(hw'.fit hM2 (λ_ h=>h)).freezes.cx⟩
  . refine ⟨E,by simp [hn];omega,?_⟩;intro i v hi;obtain ⟨_,h2⟩:=A8u args 0 i v hi;simp only [Nat.sub_zero] at h2;have hlt:i<args.length:=(Ac.1 h2).1;rw [Array.getElem?_append_left (by simpa using hlt)];simpa using h2
theorem Fit.nil:Fit M ([]++[]):=Fit.sub (List.nil_sublist _)
theorem Fit.none(h:Fit M M'):Fit M ([]++M'):=h
instance PickC.two{M X Y R1 R:Mem}[h1:PickC M X R1][h2:PickC R1 Y R]:PickC M (X++Y) R:=⟨h1.perm.trans (by rw [Ap];exact h2.perm.append_left X)⟩
instance(priority:=50) PickC.left{D M B R:Mem}[h:PickC D B R]:PickC (D++M) B (R++M):=⟨(List.Perm.append_right M h.perm).trans (by rw [Ap])⟩
instance(priority:=60) PickC.consB{M B R1 R:Mem}{x:Nat×Obj}[h1:PickC M [x] R1][h2:PickC R1 B R]:PickC M (x::B) R:=⟨h1.perm.trans (List.Perm.cons x h2.perm)⟩
theorem uL{B B' r:Mem}{o o':Obj}(h:Upd B b o o' B'):Upd (B++r) b o o' (B'++r):=by
  induction h with
  | hd=>exact .hd
  | tl _ ih=>exact .tl ih
instance(priority:=50) UpC.lft{b:Nat}{o o':Obj}{B B' r:Mem}[h:UpC B b o o' B']:UpC (B++r) b o o' (B'++r):=⟨uL h.upd⟩
end Go.Px

namespace Go.Proofs.YtgpjndfgjjlhaaaGreatDoor
open Go.Px
structure Glb(A:Mem):Prop where
  first:∃e f,(0,Obj.cells (nums .u32 A3C.list).toArray e f)∈A
  round:∃e f,(1,Obj.cells (nums .u32 A2x).toArray e f)∈A
  pow:∃e f,(4,Obj.cells (nums .u64 A0M).toArray e f)∈A
theorem Glb.sub{A A':Mem}(h:Glb A)(hs:∀x,x∈A->x∈A'):Glb A':=by obtain ⟨⟨a,b,c⟩,⟨d,e,f⟩,⟨g,h,i⟩⟩:=h;exact ⟨⟨a,b,hs _ c⟩,⟨d,e,hs _ f⟩,⟨g,h,hs _ i⟩⟩
variable{M:Mem}
theorem Glb.up{J A:Mem}(h:Glb A):Glb (M++(J++A)):=h.sub λ_ h=>mA h
structure Ps where
  real:Bool
  seed:LN
  n:Nat
  ts:List Tm
def md(b:Bool):Int:=if b then 0 else 1
structure Prm(pb:Nat)(s:Ps)(M:Mem):Prop where
  ex:∃(sv:Value) (bt bm:Nat) (B MT:Mem),M=(pb,blk [.int .u8 (md s.real),sv,(vI s.n),(vP bt)] 72)::(B++MT)∧By B sv s.seed∧Tab bt bm s.ts MT
def H5(w:LN)(n:Nat):LN:=w.take n++List.replicate (n-w.length) 0
theorem L4(w:LN)(n:Nat):(H5 w n).length=n:=by simp [H5];omega
variable{w:LN}
theorem A3h(h:∀x∈w,x<256)(n:Nat):∀x∈H5 w n,x<256:=by
  intro x hx;rcases List.mem_append.1 hx with h1|h1
  . exact h x (Bz h1)
  . rw [(List.mem_replicate.1 h1).2];decide
def A9K(n:Nat):LN:=(List.range 8).map (byt ((n:Nat):Int))
def B2S(seed:LN)(n:Nat):LN:=A0c (A8o [] seed) ([107,101,121]++A9K n) 32
def B1z(n:Nat):Tm:=⟨1,[],[],(n:Int)⟩
def E5(s:Ps):Ps:=if s.real then { s with n:=s.n+1 } else { s with n:=s.n+1,ts:=add s.ts (B1z (s.n+1)) }
def F3(s:Ps):LN:=if s.real then B2S s.seed (s.n+1) else bts ((at_ s.ts (B1z (s.n+1)):Nat):Int)
variable{s:Ps}
theorem A6z(h:s.real=true):E5 s={ s with n:=s.n+1 }:=if_pos h
theorem A2V(h:s.real=false):E5 s={ s with n:=s.n+1,ts:=add s.ts (B1z (s.n+1)) }:=if_neg (by rw [h];decide)
theorem A6A(h:s.real=true):F3 s=B2S s.seed (s.n+1):=if_pos h
theorem A38(h:s.real=false):F3 s=bts ((at_ s.ts (B1z (s.n+1)):Nat):Int):=if_neg (by rw [h];decide)
theorem B2T(n:Nat):∀x∈A9K n,x<256:=by intro x hx;obtain ⟨k,_,rfl⟩:=List.mem_map.1 hx;exact B8I _ _
theorem A4B(key info:LN)(n:Int):∀x∈A0c key info n,x<256:=λx hx=>B2f _ _ _ x (Bz hx)
theorem B2U(key info:LN)(n:Int):(A0c key info n).length<=n.toNat:=by unfold A0c;exact List.length_take_le _ _
variable{n:Nat}
theorem A6B(h:n<=1099511627776):Tmo (B1z n):=⟨show 1<256 by decide,show i64 (n:Int) by unfold i64;omega,λi hi=>(List.not_mem_nil hi).elim,show 0<=1048576 by decide,⟨λx hx=>(List.not_mem_nil hx).elim⟩,show 0<=1099511627776 by decide⟩
theorem C2V{R:Mem}{v:Value}{i:Int}(h:Rd R 1 v 32 (nums .u8 (bts i))):By R v (bts i):=⟨by rw [show (bts i).length=32 from A0U i qO];exact h,B6J i,by rw [show (bts i).length=32 from A0U i qO];decide⟩
theorem V2(i:Int)(A:Mem):FnX prog 38 [.int .i64 i] [] A λr M J=>M=[]∧By J r (bts i) :=
  ((B0T i A).mono (post':=λr M J=>J=[]∧By M r (bts i)) λv M J ⟨h1,h2⟩=>⟨h1,C2V (h2.rd λ_ h=>h)⟩).frz0
theorem B2V(r:Bool)(v:Value)(seed:LN)(A:Mem)(hv:By A v seed):FnX prog 4 [.int .u8 (md r),v] [] A λq M J=>∃pb,q=.tuple #[(vP pb),U7]∧Prm pb ⟨r,seed,0,[]⟩ M:=by
 haveI:=hv.cel;have hvl:=hv.len;refine FnX.enterZ (N:=18) func4 E E E λw_=>?_;refine A8 (D0 0 1) (A1 (as_ (as_ (A0 (D0 0 1) (A3 ?_)))));cases r
 . refine A1 (mv_ ?_);refine lQ_ (F6 true E E (neT qD)) ?_;refine mv_ ?_;refine G1 E E (Cp qm_ E ?_);refine G1 E E (Cp (F6 false E E (neF qR)) E ?_);refine lQ_ (H6 E E) (A0 (D5 0 1 11) ?_);refine C7 E ?_;refine A4 (nx (D0 0 1) (A1 (mv_ (mv_ ?_))));refine A2 E (G6 (e:=5) (sz:=1) (by_:=1) E E kR E Sl.nil (hv.rd.mono qS) E7 qP (by unfold maxLen;omega) qO E λv14 B14 hs14=>?_);haveI:=hs14.cel;refine C6 a0 kR (A7N _) E ?_;rintro v15 M15 J15 ⟨rfl,bt,bm,rfl,hT0⟩;refine lQ_ (E6 (place:=λx=>#[(0,1),(1,1),(2,1),(3,1)][x]?) (z:=[zu8,vS,U7,.pointer none]) (λ_=>by kernel_rfl) (eS E (eS E (eS E e0))) (bdS 0 1 E qR (bdS 1 1 E qR (bdS 3 1 E qR bd0)))) ?_;refine A2 E (bx_ λb17=>?_);refine as_ (as_ (A0 (D0 4 5) (A9 ?_)));refine ⟨_,(b17,_)::(B14++M15),[],A2w E E E,Fit.none (Cj (B:=[_]) qP (Cj qP (Ch qP))),_,E,⟨v14,bt,bm,B14,M15,E,⟨?_,hv.lt,hv.len⟩,hT0⟩⟩;have h:=hs14.rd (R:=B14) λ_ h=>h;simpa using h
 . refine A1 (mv_ ?_);refine lQ_ (F6 false E E (neF qR)) ?_;refine mv_ ?_;refine K0 E E E E ?_;refine K0 E E E E ?_;refine lQ_ (E8 E E) (A0 (D5 0 1 11) ?_);refine C7 E ?_;refine A4 (nx (D0 0 1) (A1 (mv_ (mv_ ?_))));refine A2 E (G6 (e:=5) (sz:=1) (by_:=1) E E kR E Sl.nil (hv.rd.mono qS) E7 qP (by unfold maxLen;omega) qO E λv14 B14 hs14=>?_);haveI:=hs14.cel;refine C6 a0 kR (A7N _) E ?_;rintro v15 M15 J15 ⟨rfl,bt,bm,rfl,hT0⟩;refine lQ_ (E6 (place:=λx=>#[(0,1),(1,1),(2,1),(3,1)][x]?) (z:=[zu8,vS,U7,.pointer none]) (λ_=>by kernel_rfl) (eS E (eS E (eS E e0))) (bdS 0 1 E qR (bdS 1 1 E qR (bdS 3 1 E qR bd0)))) ?_;refine A2 E (bx_ λb17=>?_);refine as_ (as_ (A0 (D0 4 5) (A9 ?_)));refine ⟨_,(b17,_)::(B14++M15),[],A2w E E E,Fit.none (Cj (B:=[_]) qP (Cj qP (Ch qP))),_,E,⟨v14,bt,bm,B14,M15,E,⟨?_,hv.lt,hv.len⟩,hT0⟩⟩;have h:=hs14.rd (R:=B14) λ_ h=>h;simpa using h
theorem Y5(v:Value)(w:LN)(n:Nat)(A:Mem)(hv:By A v w)(hn:n<=1000):FnX prog 48 [v,.int .i64 (n:Int)] [] A λq M J=>M=[]∧By J q (H5 w n):=by haveI:=hv.cel;have hvl:=hv.len;refine FnX.enterZ (N:=12) func48 E E E λw_=>?_;refine A8 (D0 0 1) (A1 (as_ (A0 (D0 0 1) (A1 (mv_ ?_)))));refine A2 E (A0S (by_:=1) (k:=.u8) (e:=5) n E E kR E E qO qO E λb7=>?_);refine as_ (A0 (D0 0 5) (A1 (mv_ (mv_ ?_))));refine A2 E (A4A (e:=5) (us:=w) (ws:=List.replicate n 0) (ws':=H5 w n) (by_:=1) E E kR (hv.rd.mono qS) qM (by simp [H5]) Cv E ?_);refine A0 (D1 5) (A1 (mv_ (as_ (A0 (D1 4) (A9 ?_)))));refine ⟨_,[],[(b7,blk (nums .u8 (H5 w n)) 5)],H2 E E,Cg qM,⟨E,⟨?_,A3h hv.lt n,by rw [L4];omega⟩⟩⟩;rw [L4];exact Cr (n:=n) qK (by simp [L4])
theorem A5M(pb:Nat)(s:Ps)(v:Value)(w:LN)(MP A:Mem)(hP:Prm pb s MP)(hn:s.ts.length<=1048576)(hv:By A v w)(hG:Glb A):FnX prog 49 [(vP pb),v] MP A λq M J=>q=(vI (rdI s.ts w))∧Prm pb { s with ts:=rdT s.ts w } M:=by obtain ⟨sv,bt,bm,B,MT,rfl,hby,hT⟩:=hP.ex;obtain ⟨⟨ge0,gf0,h0⟩,⟨ge1,gf1,h1⟩,⟨ge4,gf4,h4⟩⟩:=hG;haveI:=hv.cel;have hvl:=hv.len;refine FnX.enterZ (N:=11) func49 E E E λw_=>?_;refine A8 (D0 0 1) (A1 (aS_ E (A0 (D0 0 1) (A1 (mV_ E (lQ_ (F4 E) (lQ_ (qf_ 3 3) ?_)))))));refine lQ_ ql_ ?_;refine mv_ ?_;refine A2 E (C8 (Mc:=MT) (R:=_) (aS E (aS E a0)) kR qP (A7P bt bm s.ts v w MT _ hT hn (hv.rd.mono qS) hv.lt qO (mA h4)) E ?_);rintro v10 M10 J10 ⟨rfl,rfl,hT10⟩;refine as_ (A0 (D1 4) (A9 ?_));exact ⟨_,(pb,blk [.int .u8 (md s.real),sv,.int .i64 (((s.n:Nat):Int)),(vP bt)] 72)::(B++M10),[],H2 E E,(Fit.none (Cj (B:=[_]) qP (Cj qP (Ch qP)))),E,⟨sv,bt,bm,B,M10,E,hby,hT10⟩⟩
theorem X5(pb:Nat)(s:Ps)(MP A:Mem)(hP:Prm pb s MP)(hn:s.ts.length<=1048576)(hk:s.n<1099511627776)(hG:Glb A):FnX prog 16 [(vP pb)] MP A λq M J=>Prm pb (E5 s) M∧By J q (F3 s):=by
 obtain ⟨sv,bt,bm,B,MT,rfl,hby,hT⟩:=hP.ex;obtain ⟨⟨ge0,gf0,h0⟩,⟨ge1,gf1,h1⟩,⟨ge4,gf4,h4⟩⟩:=hG;haveI:=hby.cel;refine FnX.enterZ (N:=55) func16 E E E λw_=>?_;refine A8 (D1 0) (A1 (aS_ E (A0 (D1 0) (A3 (A1 (mV_ E (lQ_ (F0 (e:=72) E E kR) (A0 (D0 0 6) ?_))))))));refine C7 E ?_;refine A4 (nx (D1 0) (A1 (mV_ E (lQ_ (F4 E) (lQ_ (qf_ 2 2) ?_)))));refine lQ_ ql_ ?_;refine lQ_ (I9 (b:=1) E E E E qO) ?_;refine lQ_ (F4 E) (lQ_ (qf_ 2 2) ?_);refine A2 E (E1 E E E kR Ct Cv ?_);refine A0 (D1 0) (A3 (A1 (mV_ E (lQ_ (F4 E) (lQ_ (qf_ 0 0) ?_)))));refine lQ_ ql_ ?_;refine lQ_ (E3 E E E) (A0 (D0 0 18) ?_);refine C2 E ?_ ?_<;>intro hc
 .
  have hr:s.real=true:=by cases hq:s.real with|true=>rfl|false=>rw [hq] at hc;exact absurd hc qD
  refine A1 (as_ (A0 (D0 0 3) (A3 (A1 (mv_ (A0 (D5 0 3 19) (A6 ?_)))))));refine E0 (α:=Nat×Value×Mem) (λx=>[(0,(vP pb)),(3,x.2.1),(19,(vI x.1))]) (λx=>x.2.2++((pb,blk [.int .u8 (md s.real),sv,.int .i64 (((s.n+1:Nat):Int)),(vP bt)] 72)::(B++MT))) (λ_=>[]) (λx=>x.1<=8∧Sl 1 x.2.1 x.1 (nums .u8 ((List.range x.1).map (byt ((s.n+1:Nat):Int)))) x.2.2) (λx=>8-x.1) ⟨0,vS,[]⟩ ⟨Am _,Sl.nil⟩ (D5 0 3 19) .rfl qI ?_;rintro ⟨i,v3,B3⟩ ⟨hi,hs3⟩;dsimp only at hi hs3 ⊢;haveI:=hs3.cel;refine A1 (lQ_ (E3 E E E) (A0 (D7 0 3 19 20) (A3 ?_)));refine C2 E ?_ ?_<;>intro hc
  .
   have hlt:i<8:=by simp at hc;omega
   refine A4 (nx (D5 0 3 19) (A3 (A6 (A1 (mV_ E (aS_ E (A0 (D7 0 3 4 19) (C1 (mV_ E (mV_ E (lQ_ (F4 E) (lQ_ (qf_ 2 2) ?_))))))))))));refine lQ_ ql_ ?_;refine mv_ ?_;refine lQ_ (A1o (a:=8) E E E E qO) ?_;refine lQ_ (B2L (k:=i) E E E hlt) ?_;refine lQ_ (B2M E kR) ?_;refine A2 E (C4 (e:=5) (sz:=1) (z:=[zu8]) kR (eS E e0) (bdS 0 1 E qR bd0) E λb31=>?_);refine A2 E (G6 (e:=5) (sz:=1) (by_:=1) E E kR E (by first|assumption|exact Sl.nil) (Cr (n:=1) Ce qR) (by first|(simp [Value.oneCell'];done)|(intro c hc;simp only [List.mem_singleton] at hc;subst hc;first|exact Rd.one (by assumption)|exact Sl.one (by assumption))) qP (by unfold maxLen;omega) qO E λv32 B32 hs32=>?_);refine as_ (C5 (nb (nx (D5 0 3 19) (C1 ?_))));refine lQ_ (I9 (b:=1) E E E E qO) ?_;refine mv_ (C5 ?_);exact rn ⟨i+1,v32,B32⟩ ⟨by dsimp only;omega,by dsimp only;rw [List.range_succ,List.map_append,H4];exact hs32⟩ (by dsimp only;omega) (D5 0 3 19) (Cj qP (Cj (B:=[_]) qP (Ch qP))) (λ_ h=>by cases h)
  .
   have hge:i=8:=by simp at hc;omega
   subst hge;refine D6 (te (re (be E (nx (D0 0 3) (A1 (mV_ E (lQ_ (F4 E) (lQ_ (qf_ 1 1) ?_))))))));refine lQ_ ql_ ?_;refine C6 (aS rfl (aS rfl a0)) kR ((A3F (vS) sv [] s.seed _ Rd.nil (λx h=>by cases h) qM (hby.rd.mono qS) hby.lt (by have:=hby.len;omega) (mA h0) (mA h1)).frz0) E ?_;rintro v38 M38 J38 ⟨rfl,h38⟩;refine A2 E (C4 (e:=5) (sz:=1) (z:=[zu8,zu8,zu8]) kR (eS E (eS E (eS E e0))) (bdS 0 1 E qR (bdS 1 1 E qR (bdS 2 1 E qR bd0))) E λb39=>?_);refine A2 E (A3E E kR Cv E ?_);refine mv_ ?_;refine A2 E (A2U (e:=5) (sz:=1) (by_:=1) (xs:=nums .u8 [107,101,121]) E E kR E (Cr (n:=3) Ce qR) (hs3.rd qS) qD qD qD E λv42 B42 hs42=>?_);have hs42:Sl 1 v42 ([107,101,121]++A9K (s.n+1)).length (nums .u8 ([107,101,121]++A9K (s.n+1))) B42:=W6 hs42 (by simp [A9K]) (by rw [H4];rfl);refine C6 (aS E (aS E (aS E a0))) kR ((A4s v38 v42 (A8o [] s.seed) ([107,101,121]++A9K (s.n+1)) 32 _ (by rw [A09];exact (h38.rd qS)) (A4r _ _) (by rw [A09];decide) (hs42.rd qS) (λx hx=>by rcases List.mem_append.1 hx with h|h;(simp at h;omega);exact B2T _ x h) (by simp [A9K]) qD qD (mA h0) (mA h1)).frz0) E ?_;rintro v43 M43 J43 ⟨rfl,h43⟩;refine as_ (A0 (D1 2) (A9 (tr ?_)));exact ⟨_,(pb,blk [.int .u8 (md s.real),sv,.int .i64 (((s.n+1:Nat):Int)),(vP bt)] 72)::(B++MT),[],H2 E E,(Fit.none (Cj (B:=[_]) qP (Cj qP (Ch qP)))),by rw [A6z hr];exact ⟨sv,bt,bm,B,MT,E,hby,hT⟩,by rw [A6A hr];exact ⟨h43.mono qS,A4B _ _ _,Az (B2U _ _ _) qD⟩⟩
 .
  have hr:s.real=false:=by cases hq:s.real with|false=>rfl|true=>rw [hq] at hc;exact absurd hc qD
  refine A4 (nx (D1 0) ?_);refine C9 [0,1,2,3,4,5,6,7,8,11] (zp 0 [0,0,0,1,0,0,0,1,0,2,2,0]) kR kR λhs=>?_;refine fM_ E E (fQ_ E (F4 E) (fQ_ E (qf_ 3 3) ?_));refine fR_ E ql_ ?_;refine fM_ E E (fQ_ E (F4 E) (fQ_ E (qf_ 2 2) ?_));refine fR_ E ql_ ?_;refine fQ_ E (E6 (place:=λx=>#[(0,1),(1,1),(2,1),(3,1)][x]?) (z:=[zu8,vS,.string ByteArray.empty,U7]) (λ_=>by kernel_rfl) (eS E (eS E e0)) (bdS 0 1 E qR (bdS 3 1 E qR bd0))) ?_;refine G3 E E E (C8 (Mc:=MT) (R:=_) (aS E (aS E a0)) kR qP (R9 bt bm s.ts (vS) (B1z (s.n+1)) MT _ hT hn Rd.nil (A6B qO) (mA h4)) E ?_);rintro v53 M53 J53 ⟨rfl,rfl,hT53⟩;refine G3 E E E (D9 (aS E a0) kR (V2 _ _) E ?_);rintro v54 M54 J54 ⟨rfl,h54⟩;refine fA_ E E (E4 (D1 2) (A9 ?_));exact ⟨_,(pb,blk [.int .u8 (md s.real),sv,.int .i64 (((s.n+1:Nat):Int)),(vP bt)] 72)::(B++M53),[],H2 E E,(Fit.none (Cj (B:=[_]) qP (Cj qP (Ch qP)))),by rw [A2V hr];exact ⟨sv,bt,bm,B,M53,E,hby,hT53⟩,by rw [A38 hr];exact h54.mono qS⟩

def B1A(ws:List (LN)):LN:=ws.flatMap λw=>H5 w 32
def A8p(key:LN)(ws:List (LN))(lb:LN)(n:Nat):LN:=A0c (A8o (H5 key 32) (B1A ws)) lb ((32*n:Nat):Int)
def C2g(b:LN)(n:Nat):List (LN):=(List.range n).map λi=>(b.take (32*i+32)).drop (32*i)
def drv(ofs:List Int)(lb:LN)(i:Nat):Tm:=⟨5,ofs,lb,(i:Int)⟩
def A0I(st:List Tm×List Int)(w:LN):List Tm×List Int:=(rdT st.1 w,st.2++[((rdI st.1 w:Nat):Int)])
def W7(ts:List Tm)(key:LN)(ws:List (LN)):List Tm×List Int:=ws.foldl A0I (A0I (ts,[]) key)
def B1B(ofs:List Int)(lb:LN)(st:List Tm×List (LN))(i:Nat):List Tm×List (LN):=(add st.1 (drv ofs lb i),st.2++[bts ((at_ st.1 (drv ofs lb i):Nat):Int)])
def N6(ts:List Tm)(ofs:List Int)(lb:LN)(n:Nat):List Tm×List (LN):=(List.range n).foldl (B1B ofs lb) (ts,[])
def B0X(ts:List Tm)(key:LN)(ws:List (LN))(lb:LN)(n:Nat):List Tm×List (LN):=N6 (W7 ts key ws).1 (W7 ts key ws).2 lb n
def A39(s:Ps)(key:LN)(ws:List (LN))(lb:LN)(n:Nat):Ps:=if s.real then s else { s with ts:=(B0X s.ts key ws lb n).1 }
def A5f(s:Ps)(key:LN)(ws:List (LN))(lb:LN)(n:Nat):List (LN):=if s.real then C2g (A8p key ws lb n) n else (B0X s.ts key ws lb n).2
variable{lb:LN}{ws:List (LN)}
theorem A5N{key:LN}(h:s.real=true):A39 s key ws lb n=s:=if_pos h
theorem A3K{key:LN}(h:s.real=false):A39 s key ws lb n={ s with ts:=(B0X s.ts key ws lb n).1 }:=if_neg (by rw [h];decide)
theorem A3L{key:LN}(h:s.real=true):A5f s key ws lb n=C2g (A8p key ws lb n) n:=if_pos h
theorem A5O{key:LN}(h:s.real=false):A5f s key ws lb n=(B0X s.ts key ws lb n).2:=if_neg (by rw [h];decide)
theorem C0a(h:∀w∈ws,∀x∈w,x<256):∀x∈B1A ws,x<256:=by intro x hx;obtain ⟨w,hw,hx⟩:=List.mem_flatMap.1 hx;exact A3h (h w hw) 32 x hx
theorem B6Q(ws:List (LN)):(B1A ws).length=32*ws.length:=by
  induction ws with
  | nil=>rfl
  | cons w ws ih =>
    have:B1A (w::ws)=H5 w 32++B1A ws:=rfl;rw [this,An,ih,L4,List.length_cons];omega
variable{i:Nat}
theorem B2W(h:i<ws.length):B1A (ws.take (i+1))=B1A (ws.take i)++H5 ws[i] 32:=by unfold B1A;rw [Bh,Ab h,List.flatMap_append];simp
variable{β:Type}
theorem B2X{α:Type}{f:β->α->β}{b:β}{l:List α}(h:i<l.length):(l.take (i+1)).foldl f b=f ((l.take i).foldl f b) l[i]:=by rw [Bh,Ab h,List.foldl_append];rfl
theorem Q2{f:β->Nat->β}{b:β}(i:Nat):(List.range (i+1)).foldl f b=f ((List.range i).foldl f b) i:=by rw [List.range_succ,List.foldl_append];rfl
variable{ts:List Tm}
theorem B8K(hw:∀x∈w,x<256)(hl:w.length<=1099511627776)(hts:∀t∈ts,Tmo t):rdI ts w<(rdT ts w).length:=by
  cases hp:plc w ts.length with
  | some j =>
    obtain ⟨h1,h2⟩:=A0i hp;rw [h1,h2];exact (A7O hp).1
  | none =>
    obtain ⟨h1,h2⟩:=A0N hp;rw [h1,h2]
    cases hq:pos ts (B5Y w) with
    | some j =>
      obtain ⟨h3,h4⟩:=A6y hq;rw [h3,h4];exact (Ac.1 (A6v (A3g hw hl) hts hq)).1
    | none =>
      obtain ⟨h3,h4⟩:=A9J hq;rw [h3,h4];simp
theorem C0b(hw:∀x∈w,x<256)(hl:w.length<=1099511627776)(hts:∀t∈ts,Tmo t):∀t∈rdT ts w,Tmo t:=by
  cases hp:plc w ts.length with
  | some j=>rw [(A0i hp).1];exact hts
  | none =>
    rw [(A0N hp).1];unfold add;split
    . exact hts
    . intro t ht;rcases List.mem_append.1 ht with h|h
      . exact hts t h
      . rw [List.mem_singleton.1 h];exact A3g hw hl
variable{ofs:List Int}
theorem B8L(ho:∀x∈ofs,i64 x)(hl:ofs.length<=1048576)(hb:B256 lb)(hbl:lb.length<=1099511627776)(hi:i<=100):Tmo (drv ofs lb i):=⟨show 5<256 by decide,show i64 (i:Int) by unfold i64;omega,ho,hl,hb,hbl⟩
structure RdOk(n0 k:Nat)(st:List Tm×List Int):Prop where
  len:st.1.length<=n0+k
  ofl:st.2.length=k
  of:∀x∈st.2,0<=x∧x<(st.1.length:Int)
  tmo:∀t∈st.1,Tmo t
theorem B2Y:ts.length<=(rdT ts w).length:=by
  cases hp:plc w ts.length with
  | some j=>rw [(A0i hp).1];exact Av _
  | none =>
    rw [(A0N hp).1];unfold add;split<;>simp
theorem RdOk.step{n0 k:Nat}{st:List Tm×List Int}(h:RdOk n0 k st)(hw:∀x∈w,x<256)(hl:w.length<=1099511627776):RdOk n0 (k+1) (A0I st w):=by
  refine ⟨?_,by simp [A0I,h.ofl],?_,C0b hw hl h.tmo⟩
  . have:=S9 (ts:=st.1) (ws:=w);have:=h.len;show (rdT st.1 w).length<=_;omega
  . intro x hx;have hge:=B2Y (ts:=st.1) (w:=w);have hlt:=B8K (ts:=st.1) hw hl h.tmo;show 0<=x∧x<(((rdT st.1 w).length:Nat):Int);rcases List.mem_append.1 hx with h1|h1
    . have:=h.of x h1;omega
    . rw [List.mem_singleton.1 h1];omega
theorem A6C(b:LN)(n:Nat):(C2g b n).length=n:=by simp [C2g]
theorem A1I(ts:List Tm)(ofs:List Int)(lb:LN)(n:Nat):(N6 ts ofs lb n).2.length=n∧(N6 ts ofs lb n).1.length<=ts.length+n:=by
  induction n with
  | zero=>exact ⟨E,Av _⟩
  | succ n ih =>
    have e:N6 ts ofs lb (n+1)=B1B ofs lb (N6 ts ofs lb n) n:=Q2 n;rw [e];refine ⟨by simp [B1B,ih.1],?_⟩;have:=A0T (ts:=(N6 ts ofs lb n).1) (t:=drv ofs lb n);show (add _ _).length<=_;omega
theorem A9L(key:LN)(ws:List (LN))(lb:LN)(hn:n<=8):(A8p key ws lb n).length=32*n:=by unfold A8p;rw [X4];omega
theorem B2Z(l:List Int)(x:Int):A13 (l++[x])=A13 l++[.int .i64 x]:=by simp [A13]
theorem A2o(pb:Nat)(s:Ps)(kv wv:Value)(key lb:LN)(ws:List (LN))(n:Nat)(MP A:Mem)(hP:Prm pb s MP)(hk:By A kv key)(hw:LsV A wv ws)(hwn:ws.length<=1000)(hlb:B256 lb)(hll:lb.length<=1000)(hn0:1<=n)(hn8:n<=8)(hn:s.ts.length<=1040000)(hG:Glb A):FnX prog 86 [(vP pb),kv,wv,.string (txt lb),.int .i64 (n:Int)] MP A λq M J=>Prm pb (A39 s key ws lb n) M∧LsV J q (A5f s key ws lb n):=by
 obtain ⟨sv,bt,bm,B,MT,rfl,hby,hT⟩:=hP.ex;have hGG:=hG;obtain ⟨⟨ge0,gf0,h0⟩,⟨ge1,gf1,h1⟩,⟨ge4,gf4,h4⟩⟩:=hGG;haveI:=hby.cel;haveI:=hk.cel;obtain ⟨wvs,hwr,hwl⟩:=hw.ex;haveI:=hwr.cel
 have hw256:∀w∈ws,∀x∈w,x<256:=λw hw=>by obtain ⟨j,hj⟩:=List.getElem?_of_mem hw;obtain ⟨v,_,h⟩:=hwl.get j w hj;exact h.lt
 have hTmo:∀t∈s.ts,Tmo t:=by obtain ⟨_,_,_,_,_,_,_,_,_,_,_,h,_⟩:=hT;exact h
 refine FnX.enterZ (N:=108) func86 E E E λw_=>?_;refine A8 (E9 0 1 2 3 4) (A1 (aS_ E (A0 (E9 0 1 2 3 4) (A1 (aS_ E (A0 (G9 0 1 2 3 4 11) (A3 (A1 (mV_ E (lQ_ (F0 (e:=72) E E kR) (mv_ ?_)))))))))));refine G1 E E (Cp qm_ E ?_);refine G1 E E (Cp (F6 false E E (ltF qO)) E ?_);refine lQ_ (E8 E E) (A0 (N1 0 1 2 3 4 11 26) ?_);refine C7 E ?_;refine A4 (nx (G9 0 1 2 3 4 11) (A3 (A1 (mV_ E (lQ_ (F4 E) (lQ_ (qf_ 0 0) ?_))))));refine lQ_ ql_ ?_;refine lQ_ (E3 E E E) (A0 (N1 0 1 2 3 4 11 32) ?_);refine C2 E ?_ ?_<;>intro hc
 .
  have hr:s.real=true:=by cases hq:s.real with|true=>rfl|false=>rw [hq] at hc;exact absurd hc qD
  refine A1 (as_ (A0 (G9 1 2 3 4 11 12) (A3 (A1 (mv_ ?_)))));refine lQ_ (F8 (sz:=1) E kR hwr) ?_;refine mv_ (A0 (V4 1 3 4 11 12 33 34 35) (A6 ?_));refine E0 (α:=Nat×Value×Mem×Mem) (λx=>[(1,kv),(3,.string (txt lb)),(4,.int .i64 (n:Int)),(11,vS),(12,x.2.1),(33,wv),(34,(vI ws.length)),(35,(vI x.1))]) (λx=>x.2.2.1++((pb,blk [.int .u8 (md s.real),sv,.int .i64 (((s.n:Nat):Int)),(vP bt)] 72)::(B++MT))) (λx=>x.2.2.2) (λx=>x.1<=ws.length∧Sl 1 x.2.1 (B1A (ws.take x.1)).length (nums .u8 (B1A (ws.take x.1))) x.2.2.1) (λx=>ws.length-x.1) ⟨0,vS,[],[]⟩ ⟨Am _,Sl.nil⟩ (V4 1 3 4 11 12 33 34 35) .rfl qI ?_;rintro ⟨i,v12,B12,J12⟩ ⟨hi,hs12⟩;dsimp only at hi hs12 ⊢;haveI:=hs12.cel;have hfl:=B6Q (ws.take i);rw [Bj] at hfl;refine A1 (lQ_ (E3 E E E) (A0 (Q4 1 3 4 11 12 33 34 35 36) (A3 ?_)));refine C2 E ?_ ?_<;>intro hc
  .
   have hlt:i<ws.length:=by simp at hc;omega
   obtain ⟨v,hvi,hvb⟩:=hwl.at hlt;haveI:=hvb.cel;have hft:=B2W hlt;refine A4 (nx (V4 1 3 4 11 12 33 34 35) (A3 (A6 (A1 ?_))));refine lQ_ (G4 (sz:=1) E E kR E hwr hlt) ?_;refine lQ_ (Z8 (u:=v) (hwr.mono qS) E kR hvi) (as_ (A0 (Q4 1 3 4 11 12 14 33 34 35) (C1 (mv_ (mv_ ?_)))));refine C6 (aS E (aS E a0)) kR (Y5 v ws[i] 32 _ (hvb.mono qS) qD) E ?_;rintro v41 M41 J41 ⟨rfl,hb41⟩;have hb41r:=hb41.rd;rw [L4] at hb41r;refine A2 E (G6 (e:=5) (sz:=1) (by_:=1) E E kR E hs12 (hb41r.mono qS) E7 qP (by unfold maxLen;omega) qO E λv42 B42 hs42=>?_);refine as_ (C5 (nb (nx (V4 1 3 4 11 12 33 34 35) (C1 ?_))));refine lQ_ (I9 (b:=1) E E E E qO) ?_;refine mv_ (C5 ?_);exact rn ⟨i+1,v42,B42,_⟩ ⟨by dsimp only;omega,W6 hs42 (by dsimp only;rw [hft,An,L4]) (by dsimp only;rw [hft,H4])⟩ (by dsimp only;omega) (V4 1 3 4 11 12 33 34 35) (Cj qP (Cj (B:=[_]) qP (Cj qP (Ch qP)))) qI
  .
   have hge:i=ws.length:=by simp at hc;omega
   subst hge;rw [List.take_length] at hs12 hfl;refine D6 (te (re (be E (nx (E9 1 3 4 11 12) (A1 (mv_ ?_))))));refine C6 (aS E (aS E a0)) kR (Y5 kv key 32 _ (hk.mono qS) qD) E ?_;rintro v45 M45 J45 ⟨rfl,hb45⟩;refine mv_ ?_;refine C6 (aS E (aS E a0)) kR ((A3F v45 v12 (H5 key 32) (B1A ws) _ (hb45.rd.mono qS) hb45.lt (by rw [L4];decide) (hs12.rd qS) (C0a hw256) qO (mA h0) (mA h1)).frz0) E ?_;rintro v47 M47 J47 ⟨rfl,h47⟩;refine mv_ ?_;refine A2 E (A4v (e:=5) E E hlb.lt kR kR kR E λv49 B49 hs49=>?_);refine A3J (B:=B49) qP ?_;refine mv_ ?_;refine lQ_ (A4i (n:Int) E E (by split<;>omega)) ?_;refine lQ_ (A1o (a:=32) E E E E qO) ?_;refine C6 (aS E (aS E (aS E a0))) kR ((A4s v47 v49 (A8o (H5 key 32) (B1A ws)) lb ((32*n:Nat):Int) _ (by rw [A09];exact (h47.rd qS)) (A4r _ _) (by rw [A09];decide) (hs49.mono qS) hlb.lt qO qO qO (mA h0) (mA h1)).frz0) E ?_;rintro v53 M53 J53 ⟨rfl,h53⟩;have hbl:=A9L key ws lb hn8;change Rd J53 1 v53 (A8p key ws lb n).length (nums .u8 (A8p key ws lb n)) at h53;rw [hbl] at h53;haveI:=h53.cel;have hb256:∀x∈A8p key ws lb n,x<256:=A4B _ _ _;generalize hbigE:A8p key ws lb n=big at *;refine as_ (A0 (D5 4 11 15) (A3 (A1 (mv_ ?_))));refine lQ_ (A4i (n:Int) E E (by split<;>omega)) ?_;refine mv_ (A0 (D7 11 15 55 56) (A6 ?_));refine E0 (α:=Nat×Value×List Value×Mem) (λx=>[(11,x.2.1),(15,v53),(55,.int .i64 (n:Int)),(56,(vI x.1))]) (λx=>x.2.2.2++((pb,blk [.int .u8 (md s.real),sv,.int .i64 (((s.n:Nat):Int)),(vP bt)] 72)::(B++MT))) (λ_=>J53) (λx=>x.1<=n∧Sl 1 x.2.1 x.1 x.2.2.1 x.2.2.2∧Lst J53 x.2.2.1 ((List.range x.1).map λi=>(big.take (32*i+32)).drop (32*i))) (λx=>n-x.1) ⟨0,vS,[],[]⟩ ⟨Am _,Sl.nil,Lst.nil⟩ (D7 11 15 55 56) (Fit.none (Cj (B:=[_]) qP (Cj qP (Ch qP)))) (λx hx=>qS x hx) ?_;rintro ⟨i,v11,vs11,B11⟩ ⟨hi,hs11,hl11⟩;dsimp only at hi hs11 hl11 ⊢;haveI:=hs11.cel;refine A1 (lQ_ (E3 E E E) (A0 (E9 11 15 55 56 57) (A3 ?_)));refine C2 E ?_ ?_<;>intro hc
   .
    have hlt:i<n:=by simp at hc;omega
    refine A4 (nx (D7 11 15 55 56) (A3 (A6 (A1 (mV_ E (aS_ E (A0 (E9 11 15 16 55 56) (C1 (mv_ (mv_ (mv_ ?_)))))))))));refine lQ_ (A1o (a:=32) E E E E qO) ?_;refine mv_ ?_;refine lQ_ (A1o (a:=32) E E E E qO) ?_;refine lQ_ (I9 (b:=32) E E E E qO) ?_;refine lQ_ (C2E (sz:=1) (a:=32*i) (b:=32*i+32) E E E kR E E h53 qO qO) ?_;have hpt:=(h53.hiV (32*i+32) qO).loV (32*i) qO;rw [Nat.mul_one,Nat.mul_one,<- A1v,<- A0Z] at hpt;generalize vLo (32*i) 1 (vHi (32*i+32) v53)=vp at *;haveI:=hpt.cel
    have hpb:By J53 vp ((big.take (32*i+32)).drop (32*i)):=⟨by rw [Bg,Bj,hbl,Nat.min_eq_left qO];exact hpt,λx hx=>hb256 x (Bz (List.mem_of_mem_drop hx)),by rw [Bg,Bj,hbl];omega⟩
    refine A2 E (C4 (e:=22) (sz:=1) (z:=[vS]) kR (eS E e0) (bdS 0 1 E qR bd0) E λb67=>?_);refine A2 E (G6 (e:=22) (sz:=1) (by_:=24) E E kR E hs11 (Cr (n:=1) Ce qR) (by intro c hc;rw [List.mem_singleton.1 hc];exact hpt.one) qP (by unfold maxLen;omega) qO E λv68 B68 hs68=>?_);refine as_ (C5 (nb (nx (D7 11 15 55 56) (C1 ?_))));refine lQ_ (I9 (b:=1) E E E E qO) ?_;refine mv_ (C5 ?_);exact rn ⟨i+1,v68,vs11++[vp],B68⟩ ⟨by dsimp only;omega,hs68,by dsimp only;rw [List.range_succ,List.map_append];exact hl11.snoc hpb⟩ (by dsimp only;omega) (D7 11 15 55 56) (Cj qP (Cj (B:=[_]) qP (Cj qP (Ch qP)))) (λx hx=>qS x hx)
   .
    have hge:i=n:=by simp at hc;omega
    subst hge;refine D6 (te (re (be E (nx (D1 11) (A1 (mV_ E (aS_ E (A0 (D1 10) (A9 (tr ?_))))))))));exact ⟨_,(pb,blk [.int .u8 (md s.real),sv,.int .i64 (((s.n:Nat):Int)),(vP bt)] 72)::(B++MT),B11,H2 E E,(Cj qP (Cj (B:=[_]) qP (Cj qP (Ch qP)))),by rw [A5N hr];exact ⟨sv,bt,bm,B,MT,E,hby,hT⟩,by rw [A3L hr,hbigE];exact ⟨vs11,by rw [A6C];exact hs11.rd qS,hl11.mono qS⟩⟩
 .
  have hr:s.real=false:=by cases hq:s.real with|false=>rfl|true=>rw [hq] at hc;exact absurd hc qD
  refine A4 (nx (G9 0 1 2 3 4 11) (A1 (mv_ (mv_ ?_))));refine A2 E (C8 (Mc:=(pb,blk [.int .u8 (md s.real),sv,.int .i64 (((s.n:Nat):Int)),(vP bt)] 72)::(B++MT)) (R:=_) (aS E (aS E a0)) kR qP (A5M pb s kv key _ _ hP qO (hk.mono qS) hG.up) E ?_);rintro v73 M73 J73 ⟨rfl,hP73⟩
  have hst0:RdOk s.ts.length 0 (s.ts,[]):=⟨Av _,rfl,(λx hx=>by cases hx),hTmo⟩
  have hst:=hst0.step hk.lt (by have:=hk.len;omega);refine A2 E (C4 (e:=3) (sz:=1) (z:=[U7]) kR (eS E e0) (bdS 0 1 E qR bd0) E λb74=>?_);refine as_ (A0 (G9 0 2 3 4 11 17) (A3 (A1 (mv_ ?_))));refine lQ_ (F8 (sz:=1) E kR hwr) ?_;refine mv_ (A0 (V4 0 3 4 11 17 75 76 77) (A6 ?_));refine E0 (α:=Nat×Value×Mem×Mem) (λx=>[(0,(vP pb)),(3,.string (txt lb)),(4,.int .i64 (n:Int)),(11,vS),(17,x.2.1),(75,wv),(76,(vI ws.length)),(77,(vI x.1))]) (λx=>x.2.2.1++x.2.2.2) (λx=>[]) (λx=>x.1<=ws.length∧RdOk s.ts.length (1+x.1) ((ws.take x.1).foldl A0I (A0I (s.ts,[]) key))∧Sl 1 x.2.1 (1+x.1) (A13 ((ws.take x.1).foldl A0I (A0I (s.ts,[]) key)).2) x.2.2.1∧Prm pb { s with ts:=((ws.take x.1).foldl A0I (A0I (s.ts,[]) key)).1 } x.2.2.2) (λx=>ws.length-x.1) ⟨0,.slice (some ⟨b74,0,none⟩) 1 1,[(b74,_)],M73⟩ ⟨Am _,hst,Sl.fresh (n:=1) (sz:=1) (cs:=A13 [((rdI s.ts key:Nat):Int)]) (e:=3) qR qD,hP73⟩ (V4 0 3 4 11 17 75 76 77) (Cj (B:=[(b74,blk [(vI (rdI s.ts key))] 3)]) qP (Ch (B:=M73) qP)) (λ_ h=>by cases h) ?_;rintro ⟨i,v17,B17,MR⟩ ⟨hi,hok,hs17,hPR⟩;dsimp only at hi hok hs17 hPR ⊢;haveI:=hs17.cel;refine A1 (lQ_ (E3 E E E) (A0 (Q4 0 3 4 11 17 75 76 77 78) (A3 ?_)));refine C2 E ?_ ?_<;>intro hc
  .
   have hlt:i<ws.length:=by simp at hc;omega
   obtain ⟨v,hvi,hvb⟩:=hwl.at hlt;haveI:=hvb.cel;have hft:=B2X (f:=A0I) (b:=A0I (s.ts,[]) key) hlt;have hok2:=hok.step hvb.lt (by have:=hvb.len;omega);rw [<- hft] at hok2;have hokl:=hok.len;refine A4 (nx (V4 0 3 4 11 17 75 76 77) (A3 (A6 (A1 ?_))));refine lQ_ (G4 (sz:=1) E E kR E hwr hlt) ?_;refine lQ_ (Z8 (u:=v) (hwr.mono qS) E kR hvi) (as_ (A0 (Q4 0 3 4 11 17 19 75 76 77) (C1 (mv_ (mv_ (mv_ ?_))))));refine A2 E (C8 (Mc:=MR) (R:=_) (aS E (aS E a0)) kR qP (A5M pb _ v ws[i] _ _ hPR (by dsimp only;omega) (hvb.mono qS) hG.up) E ?_);rintro v84 M84 J84 ⟨rfl,hP84⟩;refine A2 E (C4 (e:=3) (sz:=1) (z:=[U7]) kR (eS E e0) (bdS 0 1 E qR bd0) E λb85=>?_);refine A2 E (G6 (e:=3) (sz:=1) (by_:=8) E E kR E hs17 (Cr (n:=1) Ce qR) (by simp [Value.oneCell']) qP (by unfold maxLen;omega) qO E λv86 B86 hs86=>?_);refine as_ (C5 (nb (nx (V4 0 3 4 11 17 75 76 77) (C1 ?_))));refine lQ_ (I9 (b:=1) E E E E qO) ?_;refine mv_ (C5 ?_);exact rn ⟨i+1,v86,B86,M84⟩ ⟨by dsimp only;omega,hok2,(by dsimp only;rw [hft,show A0I _ ws[i]=(_,_++[_]) from rfl];dsimp only;rw [B2Z];exact hs86),(by dsimp only;rw [hft];exact hP84)⟩ (by dsimp only;omega) (V4 0 3 4 11 17 75 76 77) (Cj qP (Ch qP)) (λ_ h=>by cases h)
  .
   have hge:i=ws.length:=by simp at hc;omega
   subst hge;rw [List.take_length] at hok hs17 hPR;change RdOk _ _ (W7 s.ts key ws) at hok;change Sl _ _ _ (A13 (W7 s.ts key ws).2) _ at hs17;change Prm _ { s with ts:=(W7 s.ts key ws).1 } _ at hPR;refine D6 (te (re (be E (nx (E9 0 3 4 11 17) (A3 (A1 (mv_ ?_)))))));refine lQ_ (A4i (n:Int) E E (by split<;>omega)) ?_;refine mv_ (A0 (G9 0 3 11 17 89 90) (A6 ?_));have hokl:=hok.len;have hokf:=hok.ofl;have hoki:∀x∈(W7 s.ts key ws).2,i64 x:=λx hx=>by have:=hok.of x hx;unfold i64;omega
   generalize hra:(W7 s.ts key ws).1=tr at *;generalize hof:(W7 s.ts key ws).2=ofs at *;refine E0 (α:=Nat×Value×List Value×Mem×Mem×Mem) (λx=>[(0,(vP pb)),(3,.string (txt lb)),(11,x.2.1),(17,v17),(89,.int .i64 (n:Int)),(90,(vI x.1))]) (λx=>x.2.2.2.1++(B17++x.2.2.2.2.1)) (λx=>x.2.2.2.2.2) (λx=>x.1<=n∧Sl 1 x.2.1 x.1 x.2.2.1 x.2.2.2.1∧Lst x.2.2.2.2.2 x.2.2.1 (N6 tr ofs lb x.1).2∧Prm pb { s with ts:=(N6 tr ofs lb x.1).1 } x.2.2.2.2.1) (λx=>n-x.1) ⟨0,vS,[],[],MR,[]⟩ ⟨Am _,Sl.nil,Lst.nil,hPR⟩ (G9 0 3 11 17 89 90) .rfl (λ_ h=>by cases h) ?_;rintro ⟨i,v11,vs11,B11,MQ,JQ⟩ ⟨hi,hs11,hl11,hPQ⟩;dsimp only at hi hs11 hl11 hPQ ⊢;haveI:=hs11.cel;obtain ⟨hpl2,hpl1⟩:=A1I tr ofs lb i;refine A1 (lQ_ (E3 E E E) (A0 (N1 0 3 11 17 89 90 91) (A3 ?_)));refine C2 E ?_ ?_<;>intro hc
   .
    have hlt:i<n:=by simp at hc;omega
    obtain ⟨sv2,bt2,bm2,B2,MT2,rfl,hby2,hT2⟩:=hPQ.ex;dsimp only at hpl1 hT2 hby2 ⊢;have hor:=hs17.rd (R:=B17) λ_ h=>h;rw [hokf.symm] at hor;have hor:Rd B17 1 v17 ofs.length (A13 ofs):=A0J hor qO rfl;refine A4 (nx (G9 0 3 11 17 89 90) (A3 (A6 (A1 (mV_ E (aS_ E (A0 (N1 0 3 11 17 20 89 90) (C1 (mV_ E (mV_ E (lQ_ (F4 E) (lQ_ (qf_ 3 3) ?_))))))))))));refine lQ_ ql_ ?_;refine mv_ (mv_ (mv_ ?_));refine lQ_ (E6 (place:=λx=>#[(0,1),(1,1),(2,1),(3,1)][x]?) (z:=[zu8,vS,.string ByteArray.empty,U7]) (λ_=>by kernel_rfl) (eS E (eS E (eS E (eS E e0)))) (bdS 0 1 E qR (bdS 1 1 E qR (bdS 2 1 E qR (bdS 3 1 E qR bd0))))) ?_;refine A2 E (C8 (Mc:=MT2) (R:=_) (aS E (aS E a0)) kR qP (R9 bt2 bm2 (N6 tr ofs lb i).1 v17 (drv ofs lb i) MT2 _ hT2 qO (hor.mono qS) (B8L hoki qO hlb qO qO) (mA h4)) E ?_);rintro v102 M102 J102 ⟨rfl,rfl,hT102⟩;refine C6 (aS E a0) kR (V2 _ _) E ?_;rintro v103 M103 J103 ⟨rfl,hb103⟩;haveI:=hb103.cel;refine A2 E (C4 (e:=22) (sz:=1) (z:=[vS]) kR (eS E e0) (bdS 0 1 E qR bd0) E λb104=>?_);refine A2 E (G6 (e:=22) (sz:=1) (by_:=24) E E kR E hs11 (Cr (n:=1) Ce qR) (by intro c hc;rw [List.mem_singleton.1 hc];exact hb103.one) qP (by unfold maxLen;omega) qO E λv105 B105 hs105=>?_);refine as_ (C5 (nb (nx (G9 0 3 11 17 89 90) (C1 ?_))));refine lQ_ (I9 (b:=1) E E E E qO) ?_;refine mv_ (C5 ?_);exact rn ⟨i+1,v105,vs11++[v103],B105,(pb,blk [.int .u8 (md s.real),sv2,.int .i64 (((s.n:Nat):Int)),(vP bt2)] 72)::(B2++M102),J103++JQ⟩ ⟨by dsimp only;omega,hs105,(by dsimp only;rw [show N6 tr ofs lb (i+1)=B1B ofs lb (N6 tr ofs lb i) i from Q2 i];exact (hl11.mono qS).snoc (hb103.mono qS)),(by dsimp only;rw [show N6 tr ofs lb (i+1)=B1B ofs lb (N6 tr ofs lb i) i from Q2 i];exact ⟨sv2,bt2,bm2,B2,M102,E,hby2,hT102⟩)⟩ (by dsimp only;omega) (G9 0 3 11 17 89 90) (Cj qP (Cj qP (Cj (B:=[_]) qP (Cj qP (Ch qP))))) qI
   .
    have hge:i=n:=by simp at hc;omega
    subst hge;refine D6 (te (re (be E (nx (D1 11) (A1 (mV_ E (aS_ E (A0 (D1 10) (A9 ?_)))))))));exact ⟨_,MQ,B11,H2 E E,(Cj qP (Ch qP)),by rw [A3K hr,show B0X s.ts key ws lb i=N6 tr ofs lb i by unfold B0X;rw [hra,hof]];exact hPQ,by rw [A5O hr,show B0X s.ts key ws lb i=N6 tr ofs lb i by unfold B0X;rw [hra,hof]];exact ⟨vs11,by rw [hpl2];exact hs11.rd qS,hl11.mono qS⟩⟩

structure Tok(ts:List Tm):Prop where
  tmo:∀t∈ts,Tmo t
  nd:ts.Nodup
variable{bt bm:Nat}
theorem Tab.tok(h:Tab bt bm ts M):Tok ts:=by obtain ⟨_,_,_,_,_,_,_,_,_,_,_,h1,h2⟩:=h;exact ⟨h1,h2⟩
theorem A4C{t:Tm}(ht:Tmo t)(h:Tok ts):∃l,add ts t=ts++l∧(add ts t).length<=ts.length+1∧(add ts t)[at_ ts t]? = some t∧Tok (add ts t):=by
  cases hp:pos ts t with
  | some j =>
    obtain ⟨h1,h2⟩:=A6y hp;exact ⟨[],by rw [h1,List.append_nil],A0T,by rw [h1,h2];exact A6v ht h.tmo hp,by rw [h1];exact h⟩
  | none =>
    obtain ⟨h1,h2⟩:=A9J hp;refine ⟨[t],h1,A0T,by rw [h1,h2];simp,?_⟩;rw [h1];refine ⟨λu hu=>?_,?_⟩
    . rcases List.mem_append.1 hu with hu|hu
      . exact h.tmo u hu
      . rw [List.mem_singleton.1 hu];exact ht
    . rw [List.nodup_append];refine ⟨h.nd,by simp,λx hx y hy e=>(A6w ht h.tmo).1 hp ?_⟩;rw [List.mem_singleton.1 hy] at e;exact e▸hx
variable{l:List Tm}
theorem A4D{t:Tm}(h:ts[i]? = some t):(ts++l)[i]? = some t:=by rw [Ak (Ac.1 h).1];exact h
theorem B3a{t:Tm}(h:Tok ts)(ht:ts[i]? = some t):add ts t=ts∧at_ ts t=i:=A6y (C2L h.tmo h.nd ht)
theorem A8L{j:Nat}(hi:i<18446744073709551616)(hj:j<18446744073709551616)(h:bts ((i:Nat):Int)=bts ((j:Nat):Int)):i=j:=by
  have h1:=A2m ((i:Nat):Int) 18446744073709551616;have h2:=A2m ((j:Nat):Int) 18446744073709551616;have ui:u64 ((i:Nat):Int)=i:=by unfold u64;omega
  have uj:u64 ((j:Nat):Int)=j:=by unfold u64;omega
  rw [ui,if_pos hi] at h1;rw [uj,if_pos hj] at h2;rw [h,h2] at h1;exact (Cc h1).symm
def B8M(ts:List Tm)(w:LN):Prop:=∃i,i<ts.length∧w=bts ((i:Nat):Int)
theorem B8M.ext(h:B8M ts w):B8M (ts++l) w:=by obtain ⟨i,hi,e⟩:=h;exact ⟨i,by rw [An];omega,e⟩
theorem A4E(hi:i<ts.length)(hl:ts.length<=1048576):rdT ts (bts ((i:Nat):Int))=ts∧rdI ts (bts ((i:Nat):Int))=i:=by refine A0i ?_;rw [A2m,show u64 ((i:Nat):Int)=i by unfold u64;omega,if_pos hi]
theorem A7R(ts:List Tm)(ofs:List Int)(lb:LN)(n:Nat):∃l,(N6 ts ofs lb (n+1)).1=(N6 ts ofs lb n).1++l:=by
  have e:N6 ts ofs lb (n+1)=B1B ofs lb (N6 ts ofs lb n) n:=Q2 n;rw [e];show ∃l,add _ _=_++l;unfold add;split
  . exact ⟨[],by simp⟩
  . exact ⟨_,E⟩
theorem A4F(h:Tok ts)(hd:∀i,i<100->Tmo (drv ofs lb i))(hn:n<=100):Tok (N6 ts ofs lb n).1:=by
  induction n with
  | zero=>exact h
  | succ n ih =>
    have e:N6 ts ofs lb (n+1)=B1B ofs lb (N6 ts ofs lb n) n:=Q2 n;rw [e];obtain ⟨_,_,_,_,h2⟩:=A4C (hd n qO) (ih qO);exact h2
theorem A8M(h:Tok ts)(hd:∀i,i<100->Tmo (drv ofs lb i))(hn:n<=100){ts':List Tm}(e:ts'=(N6 ts ofs lb n).1++l)(h':Tok ts'):N6 ts' ofs lb n=(ts',(N6 ts ofs lb n).2):=by
  induction n generalizing l with
  | zero=>rfl
  | succ n ih =>
    obtain ⟨l2,e2⟩:=A7R ts ofs lb n;have ih:=ih qO (l:=l2++l) (by rw [e,e2,Ap]);have e3:N6 ts ofs lb (n+1)=B1B ofs lb (N6 ts ofs lb n) n:=Q2 n;have e4:N6 ts' ofs lb (n+1)=B1B ofs lb (N6 ts' ofs lb n) n:=Q2 n;obtain ⟨l3,g1,g2,g3,g4⟩:=A4C (hd n qO) (A4F h hd (show n<=100 by omega))
    have g5:ts'[at_ (N6 ts ofs lb n).1 (drv ofs lb n)]? = some (drv ofs lb n):=by rw [e,e3];exact A4D g3
    obtain ⟨a1,a2⟩:=B3a h' g5;rw [e4,ih,e3];show (add ts' (drv ofs lb n),_++[bts ((at_ ts' (drv ofs lb n):Nat):Int)])=_;rw [a1,a2];rfl
theorem B3b(h:Tok ts)(hd:∀i,i<100->Tmo (drv ofs lb i))(hn:n<=100)(hi:i<n):∃j,(N6 ts ofs lb n).1[j]? = some (drv ofs lb i)∧(N6 ts ofs lb n).2[i]? = some (bts ((j:Nat):Int)):=by
  induction n with
  | zero=>omega
  | succ n ih =>
    have e3:N6 ts ofs lb (n+1)=B1B ofs lb (N6 ts ofs lb n) n:=Q2 n;obtain ⟨l3,g1,g2,g3,g4⟩:=A4C (hd n qO) (A4F h hd (show n<=100 by omega));obtain ⟨p1,p2⟩:=A1I ts ofs lb n;rw [e3];show ∃j,(add _ _)[j]? = _∧(_++[_])[i]? = _;by_cases hin:i<n
    . obtain ⟨j,h1,h2⟩:=ih qO hin;exact ⟨j,by rw [g1];exact A4D h1,by rw [Ak qO];exact h2⟩
    . obtain rfl:i=n:=by omega
      exact ⟨_,g3,by rw [Aq qO,p1,Nat.sub_self];rfl⟩
def Kok(s:Ps)(w:LN):Prop:=s.real=false->B8M s.ts w
structure Pext(s s':Ps):Prop where
  real:s'.real=s.real
  ts:∃l,s'.ts=s.ts++l
theorem Pext.refl(s:Ps):Pext s s:=⟨E,[],by simp⟩
theorem Pext.trans{a b c:Ps}(h1:Pext a b)(h2:Pext b c):Pext a c:=by obtain ⟨l1,e1⟩:=h1.ts;obtain ⟨l2,e2⟩:=h2.ts;exact ⟨h2.real.trans h1.real,l1++l2,by rw [e2,e1,Ap]⟩
theorem Kok.ext{s s':Ps}{w:LN}(h:Kok s w)(he:Pext s s'):Kok s' w:=λhr=>by obtain ⟨l,e⟩:=he.ts;rw [e];exact (h (by rw [<- he.real];exact hr)).ext
theorem A7S(s:Ps):Pext s (E5 s):=by
  unfold E5;split
  . exact ⟨E,[],by simp⟩
  . refine ⟨E,?_⟩;show ∃l,add _ _=_++l;unfold add;split
    . exact ⟨[],by simp⟩
    . exact ⟨_,E⟩
theorem B3c(h:Tok s.ts)(hn:s.n<1099511627776):Kok (E5 s) (F3 s)∧(s.real=false->Tok (E5 s).ts):=by
  cases hr:s.real with
  | true=>exact ⟨(λh1=>by rw [(A7S s).real,hr] at h1;cases h1),(λh=>by cases h)⟩
  | false =>
    obtain ⟨l,g1,g2,g3,g4⟩:=A4C (A6B (n:=s.n+1) qO) h;refine ⟨λ_=>?_,λ_=>by rw [A2V hr];exact g4⟩;rw [A2V hr,A38 hr];exact ⟨_,(Ac.1 g3).1,E⟩
theorem B0Y(ws:List (LN))(st:List Tm×List Int):(ws.foldl A0I st).1.length<=st.1.length+ws.length:=by
  induction ws generalizing st with
  | nil=>exact Av _
  | cons w ws ih =>
    have h1:=ih (A0I st w);have h2:=S9 (ts:=st.1) (ws:=w);have h3:(A0I st w).1.length=(rdT st.1 w).length:=rfl;rw [List.foldl_cons,List.length_cons];omega
theorem A2W(s:Ps)(key:LN)(ws:List (LN))(lb:LN)(n:Nat):(A39 s key ws lb n).ts.length<=s.ts.length+1+ws.length+n:=by
  unfold A39;split
  . omega
  . have h1:=(A1I (W7 s.ts key ws).1 (W7 s.ts key ws).2 lb n).2;have h2:=B0Y ws (A0I (s.ts,[]) key);have h3:=S9 (ts:=s.ts) (ws:=key);have h4:(A0I (s.ts,[]) key).1.length=(rdT s.ts key).length:=rfl;show (B0X s.ts key ws lb n).1.length<=_
    have h5:(W7 s.ts key ws).1.length<=s.ts.length+1+ws.length:=by show (ws.foldl A0I (A0I (s.ts,[]) key)).1.length<=_;omega
    unfold B0X;omega
theorem A1J(s:Ps)(key:LN)(ws:List (LN))(lb:LN)(n:Nat):(A39 s key ws lb n).real=s.real∧(A39 s key ws lb n).n=s.n∧(A39 s key ws lb n).seed=s.seed:=by unfold A39;split<;>exact ⟨E,E,E⟩

structure PrmT(pb bt bm:Nat)(s:Ps)(M:Mem):Prop where
  ex:∃(sv:Value) (B MT:Mem),M=(pb,blk [.int .u8 (md s.real),sv,(vI s.n),(vP bt)] 72)::(B++MT)∧By B sv s.seed∧Tab bt bm s.ts MT
variable{pb:Nat}
theorem PrmT.p(h:PrmT pb bt bm s M):Prm pb s M:=by obtain ⟨sv,B,MT,h1,h2,h3⟩:=h.ex;exact ⟨sv,bt,bm,B,MT,h1,h2,h3⟩
theorem Prm.t(h:Prm pb s M):∃bt bm,PrmT pb bt bm s M:=by obtain ⟨sv,bt,bm,B,MT,h1,h2,h3⟩:=h.ex;exact ⟨bt,bm,sv,B,MT,h1,h2,h3⟩
def B0Z(x:Int):Tm:=⟨3,[x],[],0⟩
def B3d(s:Ps)(w:LN):Ps:={ s with ts:=add (rdT s.ts w) (B0Z ((rdI s.ts w:Nat):Int)) }
def B6R(s:Ps)(w:LN):LN:=bts ((at_ (rdT s.ts w) (B0Z ((rdI s.ts w:Nat):Int)):Nat):Int)
def C0c(s:Ps)(w u:LN):Ps:={ s with ts:=add (rdT (rdT s.ts w) u) (agT (rdT (rdT s.ts w) u) ((rdI s.ts w:Nat):Int) ((rdI (rdT s.ts w) u:Nat):Int)) }
def C2h(s:Ps)(w u:LN):LN:=bts ((at_ (rdT (rdT s.ts w) u) (agT (rdT (rdT s.ts w) u) ((rdI s.ts w:Nat):Int) ((rdI (rdT s.ts w) u:Nat):Int)):Nat):Int)
variable{x:Int}
theorem B8N(h:i64 x):Tmo (B0Z x):=⟨show 3<256 by decide,show i64 (0:Int) by unfold i64;omega,λi hi=>by rw [List.mem_singleton.1 hi];exact h,show 1<=1048576 by decide,⟨λx hx=>(List.not_mem_nil hx).elim⟩,show 0<=1099511627776 by decide⟩
theorem A4G(hw:∀x∈w,x<256)(hl:w.length<=1099511627776)(hts:∀t∈ts,Tmo t)(hn:ts.length<=1048576):i64 ((rdI ts w:Nat):Int):=by have h1:=B8K hw hl hts;have h2:(rdT ts w).length<=ts.length+1:=S9;unfold i64;omega
theorem A0B(pb bt bm:Nat)(m k:Int)(sv:Value)[hsv:Cel sv [sv]](ts:List Tm)(v:Value)(w:LN)(MT A:Mem)(hT:Tab bt bm ts MT)(hpb:(pb,blk [.int .u8 m,sv,.int .i64 k,(vP bt)] 72)∈A)(hn:ts.length<=1048576)(hv:By A v w){e4:TypeId}{f4:Nat×Nat}(h4:(4,Obj.cells (nums .u64 A0M).toArray e4 f4)∈A):FnX prog 49 [(vP pb),v] MT A λq M J=>q=(vI (rdI ts w))∧Tab bt bm (rdT ts w) M:=by haveI:=hv.cel;have hvl:=hv.len;refine FnX.enterZ (N:=11) func49 E E E λw_=>?_;refine A8 (D0 0 1) (A1 (aS_ E (A0 (D0 0 1) (A1 (mV_ E (lQ_ (F4 E) (lQ_ (qf_ 3 3) ?_)))))));refine lQ_ ql_ ?_;refine mv_ ?_;refine A2 E (C8 (Mc:=MT) (R:=_) (aS E (aS E a0)) kR qP (A7P bt bm ts v w MT _ hT hn (hv.rd.mono qS) hv.lt (by have:=hv.len;omega) (qS _ h4)) E ?_);rintro v10 M10 J10 ⟨rfl,rfl,hT10⟩;refine as_ (A0 (D1 4) (A9 ?_));exact ⟨_,M10,[],H2 E E,Fit.none (Ch qP),E,hT10⟩
theorem A8N(pb bt bm:Nat)(s:Ps)(hr:s.real=false)(v:Value)(w:LN)(MP A:Mem)(hP:PrmT pb bt bm s MP)(hn:s.ts.length<1048576)(hv:By A v w)(hG:Glb A):FnX prog 20 [(vP pb),v] MP A λq M J=>PrmT pb bt bm (B3d s w) M∧By J q (B6R s w):=by
 obtain ⟨sv,B,MT,rfl,hby,hT⟩:=hP.ex;have hmd:md s.real=1:=by rw [hr];rfl
 rw [hmd] at *;obtain ⟨⟨ge0,gf0,h0⟩,⟨ge1,gf1,h1⟩,⟨ge4,gf4,h4⟩⟩:=hG;haveI:=hv.cel;haveI:=hby.cel;have hvl:=hv.len;refine FnX.enterZ (N:=26) func20 E E E λw_=>?_;refine A8 (D0 0 1) (A1 (aS_ E (A0 (D0 0 1) (A3 (A1 (mV_ E (lQ_ (F0 (e:=72) E E kR) (A0 (D5 0 1 6) ?_))))))));refine C7 E ?_;refine A4 (nx (D0 0 1) (A3 (A1 (mV_ E (lQ_ (F4 E) (lQ_ (qf_ 0 0) ?_))))));refine lQ_ ql_ ?_;refine lQ_ (F6 false E E (eqF qD)) ?_;refine A0 (D5 0 1 11) ?_;refine C7 E ?_;refine A4 (nx (D0 0 1) ?_);refine F9 (MT) (_) true [0,1,2,3,4,5,6,7,8,11] (zp 0 [0,0,0,1,0,0,2,2,0,2,2,0]) kR kR qP λhs K n0 hKm hKs hKn=>?_;refine kM_ E E (kQ_ E (F4 E) (kQ_ E (qf_ 3 3) ?_));refine I8 hs E hKs ql_ ?_;refine kM_ E E (km_ ?_)
 refine G8 _ _ E E (Ah _) hKm λw0=>(C8 (Mc:=MT) (R:=_) (aS E (aS E a0)) kR qP (A0B pb bt bm 1 _ sv s.ts v w MT _ hT Ce qO (hv.mono qS) (qS _ h4)) E ?_)
 rintro v21 M21 J21 ⟨rfl,hT21⟩ hKx
 refine G8 [] _ rfl rfl (Ah _) (λ_ h=>by cases h) λw0=>(C4 (e:=3) (sz:=1) (z:=[U7]) kR (eS rfl e0) (bdS 0 1 rfl qR bd0) rfl λb22=>λ_=>?_)
 refine A2h (M':=(b22,blk [(vI (rdI s.ts w))] 3)::(M21++((pb,blk [.int .u8 1,sv,.int .i64 (((s.n:Nat):Int)),(vP bt)] 72)::(B++[])))) qM ?_;refine kQ_ E (E6 (place:=λx=>#[(0,1),(1,1),(2,1),(3,1)][x]?) (z:=[zu8,vS,.string ByteArray.empty,U7]) (λ_=>by kernel_rfl) (eS E (eS E e0)) (bdS 0 1 E qR (bdS 1 1 E qR bd0))) ?_;refine K6 E E E (C8 (Mc:=M21) (R:=_) (aS E (aS E a0)) kR qP (R9 bt bm (rdT s.ts w) _ (B0Z ((rdI s.ts w:Nat):Int)) M21 _ hT21 (by have:=S9 (ts:=s.ts) (ws:=w);omega) (Cr (n:=1) Ce qR) (B8N (A4G hv.lt qO hT.tok.tmo qO)) (qS _ h4)) E ?_);rintro v24 M24 J24 ⟨rfl,rfl,hT24⟩;refine K6 E E E (D9 (aS E a0) kR (V2 _ _) E ?_);rintro v25 M25 J25 ⟨rfl,h25⟩;refine kQ_ E (G2 E) (I0 (D1 4) (A9 ?_));exact ⟨_,(pb,blk [.int .u8 1,sv,.int .i64 (((s.n:Nat):Int)),(vP bt)] 72)::(B++M24),[],H2 E E,(Fit.none (Cj (B:=[_]) qP (Cj qP (Ch qP)))),⟨sv,B,M24,by rw [show md (B3d s w).real=1 by show md s.real=1;rw [hr];rfl];rfl,hby,hT24⟩,h25.mono qS⟩
theorem A8O(pb bt bm:Nat)(s:Ps)(hr:s.real=false)(v v2:Value)(w u:LN)(MP A:Mem)(hP:PrmT pb bt bm s MP)(hn:s.ts.length+1<1048576)(hv:By A v w)(hu:By A v2 u)(hG:Glb A):FnX prog 51 [(vP pb),v,v2] MP A λq M J=>PrmT pb bt bm (C0c s w u) M∧By J q (C2h s w u):=by
 obtain ⟨sv,B,MT,rfl,hby,hT⟩:=hP.ex;have hmd:md s.real=1:=by rw [hr];rfl
 rw [hmd] at *;obtain ⟨⟨ge0,gf0,h0⟩,⟨ge1,gf1,h1⟩,⟨ge4,gf4,h4⟩⟩:=hG;haveI:=hv.cel;haveI:=hu.cel;haveI:=hby.cel;have hvl:=hv.len;have hul:=hu.len;refine FnX.enterZ (N:=31) func51 E E E λw_=>?_;refine A8 (D5 0 1 2) (A1 (aS_ E (A0 (D5 0 1 2) (A3 (A1 (mV_ E (lQ_ (F0 (e:=72) E E kR) (A0 (D7 0 1 2 8) ?_))))))));refine C7 E ?_;refine A4 (nx (D5 0 1 2) (A3 (A1 (mV_ E (lQ_ (F4 E) (lQ_ (qf_ 0 0) ?_))))));refine lQ_ ql_ ?_;refine lQ_ (F6 false E E (eqF qD)) ?_;refine A0 (D7 0 1 2 13) ?_;refine C7 E ?_;refine A4 (nx (D5 0 1 2) ?_);refine F9 (MT) (_) true [0,1,2,3,4,5,6,7,8,9,12] [(0,0),(1,0),(2,0),(3,1),(4,0),(5,0),(7,0),(8,0),(6,2),(9,2),(10,2),(11,2),(12,0)] kR kR qP λhs K n0 hKm hKs hKn=>?_;refine kM_ E E (kQ_ E (F4 E) (kQ_ E (qf_ 3 3) ?_));refine I8 hs E hKs ql_ ?_;refine kM_ E E (kM_ E E (kM_ E E (km_ ?_)))
 refine G8 _ _ E E (Ah _) hKm λw0=>(C8 (Mc:=MT) (R:=_) (aS E (aS E a0)) kR qP (A0B pb bt bm 1 _ sv s.ts v w MT _ hT Ce qO (hv.mono qS) (qS _ h4)) E ?_)
 rintro v25 M25 J25 ⟨rfl,hT25⟩ hKx
 refine G8 (M25++[]) _ E E qP (hKx (hKn E)) λw0=>(C8 (Mc:=M25) (R:=_) (aS E (aS E a0)) kR qP (A0B pb bt bm 1 _ sv (rdT s.ts w) v2 u M25 _ hT25 Ce (by have:=S9 (ts:=s.ts) (ws:=w);omega) (hu.mono qS) (qS _ h4)) E ?_)
 rintro v28 M28 J28 ⟨rfl,hT28⟩ hKy;refine K6 E E E (C8 (Mc:=M28) (R:=_) (aS E (aS E (aS E a0))) kR qP (B0V bt bm (rdT (rdT s.ts w) u) _ _ M28 _ hT28 (by have:=S9 (ts:=s.ts) (ws:=w);have:=S9 (ts:=rdT s.ts w) (ws:=u);omega) (A4G hv.lt qO hT.tok.tmo qO) (A4G hu.lt qO hT25.tok.tmo (by have:=S9 (ts:=s.ts) (ws:=w);omega)) (qS _ h4)) E ?_);rintro v29 M29 J29 ⟨rfl,rfl,hT29⟩;refine K6 E E E (D9 (aS E a0) kR (V2 _ _) E ?_);rintro v30 M30 J30 ⟨rfl,h30⟩;refine kQ_ E (G2 E) (I0 (D1 6) (A9 ?_));exact ⟨_,(pb,blk [.int .u8 1,sv,.int .i64 (((s.n:Nat):Int)),(vP bt)] 72)::(B++M29),[],H2 E E,(Fit.none (Cj (B:=[_]) qP (Cj qP (Ch qP)))),⟨sv,B,M29,by rw [show md (C0c s w u).real=1 by show md s.real=1;rw [hr];rfl];rfl,hby,hT29⟩,h30.mono qS⟩
theorem A9M(pb:Nat)(s:Ps)(hr:s.real=false)(v:Value)(w:LN)(MP A:Mem)(hP:Prm pb s MP)(hn:s.ts.length<1048576)(hv:By A v w)(hG:Glb A):FnX prog 20 [(vP pb),v] MP A λq M J=>Prm pb (B3d s w) M∧By J q (B6R s w):=by
  obtain ⟨bt,bm,h⟩:=hP.t
  exact (A8N pb bt bm s hr v w MP A h hn hv hG).mono λq M J ⟨h1,h2⟩=>⟨h1.p,h2⟩
theorem B6S(pb:Nat)(s:Ps)(hr:s.real=false)(v v2:Value)(w u:LN)(MP A:Mem)(hP:Prm pb s MP)(hn:s.ts.length+1<1048576)(hv:By A v w)(hu:By A v2 u)(hG:Glb A):FnX prog 51 [(vP pb),v,v2] MP A λq M J=>Prm pb (C0c s w u) M∧By J q (C2h s w u):=by
  obtain ⟨bt,bm,h⟩:=hP.t
  exact (A8O pb bt bm s hr v v2 w u MP A h hn hv hu hG).mono λq M J ⟨h1,h2⟩=>⟨h1.p,h2⟩

def A3M(x:Int)(a b:LN):Tm:=⟨6,[x],mark a++mark b,0⟩
def B6T(x:Int)(m:LN):Tm:=⟨7,[x],m,0⟩
def B5Z(s:Ps)(w:LN)(f:Int->Tm):Ps:={ s with ts:=add (rdT s.ts w) (f ((rdI s.ts w:Nat):Int)) }
def B6U(s:Ps)(w:LN)(f:Int->Tm):LN:=bts ((at_ (rdT s.ts w) (f ((rdI s.ts w:Nat):Int)):Nat):Int)
theorem B3e(h:i64 x){a b:LN}(ha:∀y∈a,y<256)(hb:∀y∈b,y<256)(la:a.length<=16777216)(lb:b.length<=16777216):Tmo (A3M x a b):=by
  haveI:B256 a:=⟨ha⟩
  haveI:B256 b:=⟨hb⟩
  have h1:=A1R a qO;have h2:=A1R b qO;exact ⟨show 6<256 by decide,show i64 (0:Int) by unfold i64;omega,λi hi=>by rw [List.mem_singleton.1 hi];exact h,show 1<=1048576 by decide,inferInstanceAs (B256 (mark a++mark b)),by show (mark a++mark b).length<=_;rw [An];omega⟩
theorem C2W(h:i64 x){m:LN}(hm:∀y∈m,y<256)(lm:m.length<=16777216):Tmo (B6T x m) :=
  ⟨show 7<256 by decide,show i64 (0:Int) by unfold i64;omega,λi hi=>by rw [List.mem_singleton.1 hi];exact h,show 1<=1048576 by decide,⟨hm⟩,show m.length<=1099511627776 by omega⟩
theorem B3f(pb bt bm:Nat)(s:Ps)(hr:s.real=false)(v v2 v3:Value)(w wa wb:LN)(MP A:Mem)(hP:PrmT pb bt bm s MP)(hn:s.ts.length<1048576)(hv:By A v w)(hya:By A v2 wa)(hyb:By A v3 wb)(hG:Glb A):FnX prog 62 [(vP pb),v,v2,v3] MP A λq M J=>PrmT pb bt bm (B5Z s w λx=>A3M x wa wb) M∧By J q (B6U s w λx=>A3M x wa wb):=by
 obtain ⟨sv,B,MT,rfl,hby,hT⟩:=hP.ex;have hmd:md s.real=1:=by rw [hr];rfl
 rw [hmd] at *;obtain ⟨⟨ge0,gf0,h0⟩,⟨ge1,gf1,h1⟩,⟨ge4,gf4,h4⟩⟩:=hG;haveI:=hv.cel;haveI:=hya.cel;haveI:=hyb.cel;haveI:=hby.cel;have hvl:=hv.len;have hal:=hya.len;have hbl:=hyb.len;refine FnX.enterZ (N:=38) func62 E E E λw_=>?_;refine A8 (D7 0 1 2 3) (A1 (aS_ E (A0 (D7 0 1 2 3) (A3 (A1 (mV_ E (lQ_ (F0 (e:=72) E E kR) (A0 (E9 0 1 2 3 10) ?_))))))));refine C7 E ?_;refine A4 (nx (D7 0 1 2 3) (A3 (A1 (mV_ E (lQ_ (F4 E) (lQ_ (qf_ 0 0) ?_))))));refine lQ_ ql_ ?_;refine lQ_ (F6 false E E (eqF qD)) ?_;refine A0 (E9 0 1 2 3 15) ?_;refine C7 E ?_;refine A4 (nx (D7 0 1 2 3) ?_);refine F9 (MT) (_) true [0,1,2,3,4,5,6,7,8,9,10,11,12,13,16] [(0,0),(1,0),(2,0),(3,1),(4,0),(5,0),(8,0),(10,0),(6,2),(7,3),(9,3),(11,3),(12,4),(13,0),(14,2),(15,2),(16,0)] kR kR qP λhs K n0 hKm hKs hKn=>?_;refine kM_ E E (kQ_ E (F4 E) (kQ_ E (qf_ 3 3) ?_));refine I8 hs E hKs ql_ ?_;refine kM_ E E (kM_ E E (kM_ E E (km_ ?_)))
 refine G8 _ _ E E (Ah _) hKm λw0=>(C8 (Mc:=MT) (R:=_) (aS E (aS E a0)) kR qP (A0B pb bt bm 1 _ sv s.ts v w MT _ hT Ce qO (hv.mono qS) (qS _ h4)) E ?_)
 rintro v28 M28 J28 ⟨rfl,hT28⟩ hKx
 refine A7E [⟨7,29,λv B _=>∃b,v=.slice (some ⟨b,0,none⟩) 1 1∧B=[(b,blk [(vI (rdI s.ts w))] 3)]⟩,⟨9,31,λv B _=>B=[]∧v=.string (txt (mark wa))⟩,⟨11,33,λv B _=>B=[]∧v=.string (txt (mark wb))⟩,⟨12,34,λv B _=>B=[]∧v=.string (txt (mark wa++mark wb))⟩]
  gA nd_ nd_ dl_
  (gO ?_ (gO ?_ (gO ?_ (gO ?_ (K5))))) ?_
 .
  intros
  exact C4 (e:=3) (sz:=1) (z:=[U7]) kR (eS E e0) (bdS 0 1 E qR bd0) E λb=>⟨_,E,b,E,E⟩
 . intro _ _ _ _ hb _;exact R8 (aS E a0) kR (A2Q v2 wa _ (hya.rd.mono λx hx=>hb _ (qS x hx)) (hb:=hya.b256) (by have:=hya.len;omega) (hb _ (qS _ h4))) E ⟨_,E,E,E⟩
 . intro _ _ _ _ hb _;exact R8 (aS E a0) kR (A2Q v3 wb _ (hyb.rd.mono λx hx=>hb _ (qS x hx)) (hb:=hyb.b256) (by have:=hyb.len;omega) (hb _ (qS _ h4))) E ⟨_,E,E,E⟩
 . intro _ _ _ _ _ ha;have g9:=gx 1 ha;dsimp only at g9;have g11:=gx 2 ha;dsimp only at g11;obtain ⟨-,h9⟩:=g9;obtain ⟨-,h11⟩:=g11;exact Cp (A17 (ws:=mark wa) (ws':=mark wb) (by rw [<- h9];rfl) (by rw [<- h11];rfl) E E (by have h1:=A1R wa qO;have h2:=A1R wb qO;omega)) E ⟨_,E,E,E⟩
 intro vs bs Jn0 hφ;have g7:=gy 0 hφ;have g9:=gy 1 hφ;have g11:=gy 2 hφ;have g12:=gy 3 hφ;dsimp only at g7 g9 g11 g12;clear hφ;dsimp only [V0,Q6,List.map,List.flatten,Cy,Cw];generalize bs 7=B29,bs 9=B31,bs 11=B33,bs 12=B34,vs 7=u29,vs 9=u31,vs 11=u33,vs 12=u34 at *;obtain ⟨b29,rfl,rfl⟩:=g7;obtain ⟨rfl,rfl⟩:=g9;obtain ⟨rfl,rfl⟩:=g11;obtain ⟨rfl,rfl⟩:=g12;dsimp only [List.append_eq,Cw,Cy];refine kQ_ E (E6 (place:=λx=>#[(0,1),(1,1),(2,1),(3,1)][x]?) (z:=[zu8,vS,.string ByteArray.empty,U7]) (λ_=>by kernel_rfl) (eS E (eS E (eS E e0))) (bdS 0 1 E qR (bdS 1 1 E qR (bdS 2 1 E qR bd0)))) ?_;refine K6 E E E (C8 (Mc:=M28) (R:=_) (aS E (aS E a0)) kR qP (R9 bt bm (rdT s.ts w) _ (A3M ((rdI s.ts w:Nat):Int) wa wb) M28 _ hT28 (by have:=S9 (ts:=s.ts) (ws:=w);omega) (Cr (n:=1) Ce qR) (B3e (A4G hv.lt qO hT.tok.tmo qO) hya.lt hyb.lt hya.len hyb.len) (qS _ h4)) E ?_);rintro v36 M36 J36 ⟨rfl,rfl,hT36⟩;refine K6 E E E (D9 (aS E a0) kR (V2 _ _) E ?_);rintro v37 M37 J37 ⟨rfl,h37⟩;refine kQ_ E (G2 E) (I0 (D1 8) (A9 ?_));exact ⟨_,(pb,blk [.int .u8 1,sv,.int .i64 (((s.n:Nat):Int)),(vP bt)] 72)::(B++M36),[],H2 E E,(Fit.none (Cj (B:=[_]) qP (Cj qP (Ch qP)))),⟨sv,B,M36,by rw [show md (B5Z s w (λx=>A3M x wa wb)).real=1 by show md s.real=1;rw [hr];rfl];rfl,hby,hT36⟩,h37.mono qS⟩
theorem B3g(pb bt bm:Nat)(s:Ps)(hr:s.real=false)(v v2:Value)(w wm:LN)(MP A:Mem)(hP:PrmT pb bt bm s MP)(hn:s.ts.length<1048576)(hv:By A v w)(hm:By A v2 wm)(hG:Glb A):FnX prog 40 [(vP pb),v,v2] MP A λq M J=>PrmT pb bt bm (B5Z s w λx=>B6T x wm) M∧By J q (H5 (B6U s w λx=>B6T x wm) 64):=by
 obtain ⟨sv,B,MT,rfl,hby,hT⟩:=hP.ex;have hmd:md s.real=1:=by rw [hr];rfl
 rw [hmd] at *;obtain ⟨⟨ge0,gf0,h0⟩,⟨ge1,gf1,h1⟩,⟨ge4,gf4,h4⟩⟩:=hG;haveI:=hv.cel;haveI:=hm.cel;haveI:=hby.cel;have hvl:=hv.len;have hml:=hm.len;refine FnX.enterZ (N:=32) func40 E E E λw_=>?_;refine A8 (D5 0 1 2) (A1 (aS_ E (A0 (D5 0 1 2) (A3 (A1 (mV_ E (lQ_ (F0 (e:=72) E E kR) (A0 (D7 0 1 2 8) ?_))))))));refine C7 E ?_;refine A4 (nx (D5 0 1 2) (A3 (A1 (mV_ E (lQ_ (F4 E) (lQ_ (qf_ 0 0) ?_))))));refine lQ_ ql_ ?_;refine lQ_ (F6 false E E (eqF qD)) ?_;refine A0 (D7 0 1 2 13) ?_;refine C7 E ?_;refine A4 (nx (D5 0 1 2) ?_);refine F9 (MT) (_) true [0,1,2,3,4,5,6,7,8,9,10,14] [(0,0),(1,0),(2,0),(3,1),(4,0),(5,0),(8,0),(9,1),(6,2),(7,2),(10,0),(11,2),(12,2),(13,2),(14,0)] kR kR qP λhs K n0 hKm hKs hKn=>?_;refine kM_ E E (kQ_ E (F4 E) (kQ_ E (qf_ 3 3) ?_));refine I8 hs E hKs ql_ ?_;refine kM_ E E (kM_ E E (km_ ?_));refine I8 hs E hKs (P2 E kR (hm.rd.mono qS)) ?_
 refine G8 _ _ E E (Ah _) hKm λw0=>(C8 (Mc:=MT) (R:=_) (aS E (aS E a0)) kR qP (A0B pb bt bm 1 _ sv s.ts v w MT _ hT Ce qO (hv.mono qS) (qS _ h4)) E ?_)
 rintro v24 M24 J24 ⟨rfl,hT24⟩ hKx
 refine G8 [] _ rfl rfl (Ah _) (λ_ h=>by cases h) λw0=>(C4 (e:=3) (sz:=1) (z:=[U7]) kR (eS rfl e0) (bdS 0 1 rfl qR bd0) rfl λb25=>λ_=>?_)
 refine A2h (M':=(b25,blk [(vI (rdI s.ts w))] 3)::(M24++((pb,blk [.int .u8 1,sv,.int .i64 (((s.n:Nat):Int)),(vP bt)] 72)::(B++[])))) qM ?_;refine kQ_ E (E6 (place:=λx=>#[(0,1),(1,1),(2,1),(3,1)][x]?) (z:=[zu8,vS,.string ByteArray.empty,U7]) (λ_=>by kernel_rfl) (eS E (eS E (eS E e0))) (bdS 0 1 E qR (bdS 1 1 E qR (bdS 2 1 E qR bd0)))) ?_;refine K6 E E E (C8 (Mc:=M24) (R:=_) (aS E (aS E a0)) kR qP (R9 bt bm (rdT s.ts w) _ (B6T ((rdI s.ts w:Nat):Int) wm) M24 _ hT24 (by have:=S9 (ts:=s.ts) (ws:=w);omega) (Cr (n:=1) Ce qR) (C2W (A4G hv.lt qO hT.tok.tmo qO) hm.lt hm.len) (qS _ h4)) E ?_);rintro v29 M29 J29 ⟨rfl,rfl,hT29⟩;refine K6 E E E (D9 (aS E a0) kR (V2 _ _) E ?_);rintro v30 M30 J30 ⟨rfl,h30⟩;haveI:=h30.cel;refine K6 E E E (D9 (aS E (aS E a0)) kR (Y5 v30 _ 64 _ (h30.mono qS) qD) E ?_);rintro v31 M31 J31 ⟨rfl,h31⟩;refine kQ_ E (G2 E) (I0 (D1 6) (A9 ?_));exact ⟨_,(pb,blk [.int .u8 1,sv,.int .i64 (((s.n:Nat):Int)),(vP bt)] 72)::(B++M29),[],H2 E E,(Fit.none (Cj (B:=[_]) qP (Cj qP (Ch qP)))),⟨sv,B,M29,by rw [show md (B5Z s w (λx=>B6T x wm)).real=1 by show md s.real=1;rw [hr];rfl];rfl,hby,hT29⟩,h31.mono qS⟩

end Go.Proofs.YtgpjndfgjjlhaaaGreatDoor
