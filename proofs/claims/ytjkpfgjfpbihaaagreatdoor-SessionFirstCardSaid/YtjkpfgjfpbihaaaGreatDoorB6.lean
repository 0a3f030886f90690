/- Part 6 of the texts of this claim, one behind the other. -/
import Derived.Test.YtjkpfgjfpbihaaaGreatDoorB5
import Derived.MapKept
set_option linter.unusedVariables false
set_option linter.unusedSimpArgs false
set_option maxRecDepth 100000
namespace Go.Px
def A3X:List ByteArray->Nat->List MapEntry
  | [],_=>[]
  | k::ks,i=>⟨.string k,.int .i64 (i:Int),i⟩::A3X ks (i+1)
theorem A5C:∀ (ks:List ByteArray) (i:Nat),(A3X ks i).length=ks.length
  | [],_=>rfl
  | k::ks,i=>by simp [A3X,A5C ks]
theorem A8F:∀ (ks:List ByteArray) (s:ByteArray) (i:Nat),A3X (ks++[s]) i=A3X ks i++[⟨.string s,.int .i64 ((i+ks.length:Nat):Int),i+ks.length⟩]
  | [],s,i=>by simp [A3X]
  | k::ks,s,i=>by simp only [List.cons_append,A3X,A8F ks s (i+1),List.length_cons];rw [show i+1+ks.length=i+(ks.length+1) by omega]
def A0a(s:ByteArray):List ByteArray->Nat->Option Nat
  | [],_=>none
  | k::ks,i=>if s == k then some i else A0a s ks (i+1)
theorem A6R(s:ByteArray):∀ (ks:List ByteArray) (i j:Nat),Instr.findNow .string (.string s) (A3X ks i) j=some ((A0a s ks i).map λ q=>(q - i+j,.int .i64 (q:Int)))
  | [],i,j=>rfl
  | k::ks,i,j=>by
    unfold A3X Instr.findNow A0a;simp only [Instr.sameNow];by_cases h:s == k
    . simp [h]
    . simp only [Bool.not_eq_true] at h;simp only [h,Bool.false_eq_true,if_false];rw [A6R s ks (i+1) (j+1)]
      have hge:∀ (ks:List ByteArray) (i q:Nat),A0a s ks i=some q->i<=q:=by
        intro ks
        induction ks with
        | nil=>intro i q h; cases h
        | cons k ks ih =>
          intro i q h;unfold A0a at h;split at h
          . cases h; exact Av _
          . have:=ih _ _ h; omega
      cases hl:A0a s ks (i+1) with
      | none=>rfl
      | some q =>
        have:=hge _ _ _ hl;simp only [Option.map_some];congr 3; omega
theorem B8z{a b:ByteArray}:(a == b)=true ↔ a=b:=by
  rcases a with ⟨a⟩; rcases b with ⟨b⟩
  show (a == b)=true ↔ _;simp
theorem A4Y{s:ByteArray}:∀ {ks:List ByteArray} {i:Nat},A0a s ks i=none ↔ s ∉ ks
  | [],i=>by simp [A0a]
  | k::ks,i=>by
    unfold A0a;by_cases h:s=k
    . rw [if_pos (B8z.2 h)];simp [h]
    . rw [if_neg (λ e=>h (B8z.1 e)),A4Y (ks:=ks) (i:=i+1)];simp [h]
theorem A4Z{s:ByteArray}:∀ {ks:List ByteArray} {i q:Nat},A0a s ks i=some q->i<=q∧ks[q - i]? = some s
  | [],i,q,h=>by cases h
  | k::ks,i,q,h=>by
    unfold A0a at h;split at h
    . rename_i he;cases h;have:=B8z.1 he;simp [this]
    . obtain ⟨h1,h2⟩:=A4Z h;refine ⟨by omega,?_⟩;rw [show q - i=(q - (i+1))+1 by omega];simpa using h2
variable{w:World}
section
variable{P:Program}{R:Mem}{l:Env}{d:Option Nat}{ty t kt et:TypeId}{pos:String}{af:Array Edge}{g:Option (Nat×Bool)}{x y z:Operand}{b c:Nat}{s:ByteArray}{ks:List ByteArray}
theorem A8G{em:Bool}(hk:P.underlying kt=some .string):(Instr.checkKey em 10000 kt (.string s)).run P w=.ok () w:=by unfold Instr.checkKey;simp only [Sem.run_bind,run_underlying hk,Result.andThen_ok];rfl
theorem B1c(hk:P.underlying kt=some .string):(Instr.findKey kt (.string s) (A3X ks 0)).run P w=.ok ((A0a s ks 0).map λ q=>(q,.int .i64 (q:Int))) w:=by unfold Instr.findKey;simp only [Sem.run_bind,run_underlying hk,Result.andThen_ok,A6R];cases A0a s ks 0 <;> simp
theorem B8A(hx:ev l x=some (.map (some b)))(hy:ev l y=some (.string s))(hu:P.underlying t=some (.map kt et))(hk:P.underlying kt=some .string)(hz:∀ w,(zeroValue et).run P w=.ok (.int .i64 0) w)
    (hb:(b,Obj.map (A3X ks 0).toArray c)∈R):OpQ P R ⟨d,.lookup t x y true,ty,pos,af,g⟩ l (.tuple #[.int .i64 (((A0a s ks 0).getD 0:Nat):Int),.bool (A0a s ks 0).isSome]):=λ N a w ha hw=>by
  have hm:(getObj b).run P w=.ok (.map (A3X ks 0).toArray c) w:=by simp [getObj,Sem.run,hw _ _ hb]
  simp only [execOp,ha.ev hx,ha.ev hy,Instr.lookup,Sem.run_bind,run_underlying hu,Result.andThen_ok,hm,Sem.run_pure,A8G hk];rw [B1c hk];cases A0a s ks 0 <;> simp [hz]
end
variable{M':Mem}
section
variable{C:Cx}{l:Env}{M J:Mem}{K:Env->Mem->Mem->Prop}{d:Nat}{ty t kt et:TypeId}{pos:String}{af:Array Edge}{g:Option (Nat×Bool)}{x y z:Operand}{b:Nat}{s:ByteArray}{ks:List ByteArray}
theorem B1d(hd:Nat.blt d C.N=true)(k:∀ b,K ((d,.map (some b))::l) ((b,.map (A3X [] 0).toArray 0)::M) J):OpL C ⟨some d,.makeMap t none,ty,pos,af,g⟩ l M J K:=by intro Qp a w ha hw;unfold Oper.wp;simp only [execOp,Option.map_none,RowKit.run_makeMap];exact ⟨_,_,J,ha.put (P2 hd) _,hw.alloc _,k _⟩
def A5D(ks:List ByteArray)(s:ByteArray):List MapEntry:=A3X ks 0++[{ key:=.string s,val:=.int .i64 0,born:=ks.length }]
theorem A9R(hx:ev l x=some (.map (some b)))(hy:ev l y=some (.string s))(hu:C.P.underlying t=some (.map kt et))(hk:C.P.underlying kt=some .string)(hz:∀ w,(zeroValue et).run C.P w=.ok (.int .i64 0) w)(hn:A0a s ks 0=none)(hd:Nat.blt d C.N=true)
    (hM:Upd M b (.map (A3X ks 0).toArray ks.length) (.map (A5D ks s).toArray (ks.length+1)) M') (k:K ((d,.tuple #[.int .i64 0,.int .i64 (ks.length:Int)])::l) M' J):OpL C ⟨some d,.mapEntry t x y,ty,pos,af,g⟩ l M J K:=by
  intro Qp a w ha hw;have hm:=hw.mem _ _ (Ae _ hM.mem)
  have hst:(Instr.mapEntry t (.map (some b)) (.string s)).run C.P w=.ok (.tuple #[.int .i64 0,.int .i64 (ks.length:Int)]) { w with heap:=w.heap.setIfInBounds b (.map (A5D ks s).toArray (ks.length+1)) }:=by
    have hg:(getObj b).run C.P w=.ok (.map (A3X ks 0).toArray ks.length) w:=by simp [getObj,Sem.run,hm]
    have hs:∀ o,(setObj b o).run C.P w=.ok () { w with heap:=w.heap.setIfInBounds b o }:=λ o=>by simp [setObj,Sem.run,hm]
    simp only [Instr.mapEntry,Sem.run_bind,run_underlying hu,Result.andThen_ok,hg,A8G hk];rw [B1c hk,hn];simp only [Option.map_none,Result.andThen_ok,Sem.run_bind,hz,hs,Sem.run_pure];simp [goInt,A5D]
  unfold Oper.wp;simp only [execOp,ha.ev hx,ha.ev hy,hst,Sem.run_bind,Result.andThen_ok,Sem.run_pure];refine ⟨_,_,J,ha.put (P2 hd) _,hw.upd hM (by simp [T0 hm]) (λ k hk=>by simp [Array.getElem?_setIfInBounds,Ne.symm hk]) (by simp) E E E,k⟩
theorem A8H(e:MapEntry):∀ (ks:List ByteArray) (i n:Nat),n=i+ks.length->e.born=n->(A3X ks i++[e]).findIdx? (λ e=>(e.born:Int) == (n:Int))=some ks.length
  | [],i,n,hn,he=>by simp [A3X,List.findIdx?_cons,he]
  | k::ks,i,n,hn,he=>by simp only [List.length_cons] at hn;rw [A3X,List.cons_append,List.findIdx?_cons,if_neg (by simp; omega),A8H e ks (i+1) n (by omega) he];rfl
theorem A6S(hx:ev l x=some (.map (some b)))(hy:ev l y=some (.int .i64 (ks.length:Int)))(hz:ev l z=some (.int .i64 (ks.length:Int)))
    (hM:Upd M b (.map (A5D ks s).toArray (ks.length+1)) (.map (A3X (ks++[s]) 0).toArray (ks.length+1)) M') (k:K l M' J):OpL C ⟨none,.entryStore t x y z,ty,pos,af,g⟩ l M J K:=by
  intro Qp a w ha hw;have hm:=hw.mem _ _ (Ae _ hM.mem)
  have hst:(Instr.entryStore t (.map (some b)) (.int .i64 (ks.length:Int)) (.int .i64 (ks.length:Int))).run C.P w=.ok () { w with heap:=w.heap.setIfInBounds b (.map (A3X (ks++[s]) 0).toArray (ks.length+1)) }:=by
    have hg:(getObj b).run C.P w=.ok (.map (A5D ks s).toArray (ks.length+1)) w:=by simp [getObj,Sem.run,hm]
    have hs:∀ o,(setObj b o).run C.P w=.ok () { w with heap:=w.heap.setIfInBounds b o }:=λ o=>by simp [setObj,Sem.run,hm]
    have hi:(A5D ks s).toArray.findIdx? (λ e=>(e.born:Int) == (ks.length:Int))=some ks.length:=by rw [List.findIdx?_toArray]; unfold A5D; exact A8H _ ks 0 ks.length (by omega) rfl
    have hmod:(A5D ks s).toArray.modify ks.length (λ e=>{ e with val:=.int .i64 (ks.length:Int) })=(A3X (ks++[s]) 0).toArray:=by unfold A5D;rw [A8F,Nat.zero_add,List.modify_toArray];congr 1;rw [List.modify_eq_take_cons_drop (by simp [A5C])];simp [A5C,List.getElem_append_right]
    simp only [Instr.entryStore,Sem.run_bind,Result.andThen_ok,hg,asInt,asIntOf,Sem.run_pure,hi,hs,hmod]
  unfold Oper.wp;simp only [execOp,ha.ev hx,ha.ev hy,ha.ev hz,hst,Sem.run_bind,Result.andThen_ok];refine ⟨_,_,J,ha,hw.upd hM (by simp [T0 hm]) (λ k hk=>by simp [Array.getElem?_setIfInBounds,Ne.symm hk]) (by simp) E E E,k⟩
end
end Go.Px

namespace Go.Proofs.YtjkpfgjfpbihaaaGreatDoor
open Go.Px
def A1J(l:List Int):List Value:=l.map (.int .i64)
abbrev tmc(k:Nat)(vo:Value)(t:LN)(n:Int):List Value:=[.int .u8 (k:Int),vo,.string (txt t),.int .i64 n]

def i64(i:Int):Prop:=-9223372036854775808<=i∧i<=9223372036854775807
structure Tmo(t:Tm):Prop where
  kind:t.kind < 256
  n:i64 t.n
  of:∀ i∈t.of,i64 i
  ofl:t.of.length<=1048576
  text:B256 t.text
  tl:t.text.length<=1099511627776
theorem Tmo.ok{t:Tm}(h:Tmo t):t.ok:=⟨h.kind,by have:=h.n; unfold i64 at this; omega,λ i hi=>by have:=h.of i hi; unfold i64 at this; omega,h.text.lt⟩
theorem A3w(l:List Int):(A1J l).length=l.length:=by simp [A1J]
theorem B1e(l:List Int):∀ c∈A1J l,c.oneCell'=true:=λ c hc=>by obtain ⟨i,_,rfl⟩:=List.mem_map.1 hc; rfl
def TmC(R:Mem)(c:List Value)(t:Tm):Prop:=∃ vo,c=tmc t.kind vo t.text t.n∧Rd R 1 vo t.of.length (A1J t.of)
theorem TmC.mono{R R':Mem}{c:List Value}{t:Tm}(h:TmC R c t)(hR:∀ x,x∈R->x∈R'):TmC R' c t:=by obtain ⟨vo,h1,h2⟩:=h; exact ⟨vo,h1,h2.mono hR⟩
def pre(t:Tm)(i:Nat):LN:=dec t.kind++32::A1O t.n++(t.of.take i).flatMap (λ j=>32::A1O j)
variable{t:Tm}
theorem A8I{i:Nat}(h:i < t.of.length):pre t (i+1)=pre t i++(32::A1O t.of[i]):=by unfold pre;rw [Bh,Ab h,List.flatMap_append];simp
theorem B7j(t:Tm):t.nm=pre t t.of.length++58::t.text:=by unfold Tm.nm pre B0q;rw [List.take_length];simp [List.flatMap_map]
theorem C02(t:Tm)(i:Nat):B256 (pre t i):=⟨λ x hx=>by
  unfold pre at hx;simp only [List.mem_append,List.mem_cons,List.mem_flatMap] at hx;rcases hx with (hx | hx | hx) | ⟨j,_,hx | hx⟩
  . have:=A1l hx; omega
  . omega
  . have:=A5x hx; omega
  . omega
  . have:=A5x hx; omega⟩
theorem B1f{t:Tm}(h:Tmo t):∀ i,i<=t.of.length->(pre t i).length<=43+22 * i
  | 0,_=>by have a:=A1j (u:=t.kind) (by have:=h.kind; omega);have b:=A3v (i:=t.n) (h.ok.n);simp only [pre,List.take_zero,List.flatMap_nil,List.append_nil,List.length_append,List.length_cons,A11];omega
  | i+1,hi=>by have a:=B1f h i qO;have b:=A3v (i:=t.of[i]) (h.ok.of _ (List.getElem_mem _));rw [A8I qO,An,List.length_cons];omega
theorem nm_b(h:Tmo t):B256 t.nm:=by rw [B7j];exact @B256.app _ _ (C02 _ _) (B256.cons qD h.text)
def key(t:Tm):ByteArray:=txt t.nm
theorem B1g{s:Tm}(hs:Tmo s)(ht:Tmo t)(h:key s=key t):s=t:=Tm.nm_inj hs.ok ht.ok (A7I (nm_b hs).lt (nm_b ht).lt h)
theorem A8J{ts:List Tm}(ht:Tmo t)(hts:∀ t∈ts,Tmo t):(A0a (key t) (ts.map key) 0=none ↔ t ∉ ts)∧∀ i,A0a (key t) (ts.map key) 0=some i->ts[i]? = some t:=by
  constructor
  . rw [A4Y,List.mem_map];constructor
    . exact λ h hm=>h ⟨t,hm,E⟩
    . rintro h ⟨s,hs,e⟩;exact h (B1g (hts s hs) ht e▸hs)
  . intro i h;obtain ⟨_,h2⟩:=A4Z h;rw [Nat.sub_zero,List.getElem?_map] at h2
    cases h3:ts[i]? with
    | none=>rw [h3] at h2; cases h2
    | some s =>
      rw [h3] at h2;have:=B1g (hts s (As h3)) ht (by simpa using h2);rw [this]
def Tab(bt bm:Nat)(ts:List Tm)(M:Mem):Prop:=∃ (v:Value) (rows:List (List Value)) (ks:List ByteArray) (Bl BX:Mem),M=(bt,blk [v,.map (some bm)] 149)::(bm,.map (A3X ks 0).toArray ks.length)::(Bl++BX)∧ks=ts.map key∧Sl 4 v ks.length rows.flatten Bl∧rows.length=ks.length∧(∀ r∈rows,r.length=4)∧(∀ (j:Nat) (t:Tm),ts[j]? = some t->∃ r,rows[j]? = some r∧TmC BX r t)∧(∀ t∈ts,Tmo t)∧ts.Nodup
theorem B4Y(k:Nat):A1O ((k:Nat):Int)=dec k:=by simp [A1O]
theorem A7N(v:Value)(n:Nat)(xs:List Value)(A:Mem)(h:Rd A 1 v n xs)(h1:∀ c∈xs,c.oneCell'=true)(hn:n<=1099511627776):FnX Tryz.prog 82 [v] [] A λ r M J=>J=[]∧Rd M 1 r n xs:=by
 haveI:=h.cel;refine Ck (N:=8) Tryz.func82 E E E λ w=>?_;refine A9 (D5 0) (A1 (as_ (A0 (D5 0) (A4 (A1 (mv_ ?_))))));refine A2 (A1h (e:=3) E kR (by first | assumption | exact Sl.rd (by assumption) qI | exact By.rd (by assumption))) E ?_;refine A0 (D2 0 4) ?_;refine C4 E ?_ ?_ <;> intro hc
 . have h0:=h.isNil hc;subst h0;obtain rfl:xs=[]:=Bd (by have:=h.len; omega);refine A1 (as_ (A0 (D5 2) (C0 (tr ?_))));exact ⟨_,[],[],I0 E E,Aa _,by simp,E,Rd.nil⟩
 . refine A6 (nx (D5 0) (A1 ?_));refine A3 E (C5 (e:=3) (sz:=1) (z:=[]) kR e0 bd0 E λ b5=>?_);refine mv_ ?_;refine A3 E (H5 (e:=3) (sz:=1) (by_:=8) E E kR E (Sl.fresh (n:=0) (cs:=[]) (e:=3) E qD) (Rd.mono h qS) h1 qP (by unfold maxLen; omega) qO E λ v7 B7 hs7=>?_);refine as_ (A0 (D5 2) (C0 ?_));exact ⟨_,B7,[],I0 E E,Ay _ _,by simp,E,A0x (hs7.rd λ _ h=>h) qO qM⟩
theorem A6T(vo:Value)(t:Tm)(A:Mem)(hvo:Rd A 1 vo t.of.length (A1J t.of))(ht:Tmo t){e4:TypeId}{f4:Nat×Nat}(h4:(4,Obj.cells (nums .u64 A0B).toArray e4 f4)∈A):FnV Tryz.prog 81 [.agg (tmc t.kind vo t.text t.n).toArray] A (.string (key t)):=by
 haveI:=hvo.cel;have hkind:=ht.kind;refine Ck (N:=33) Tryz.func81 E E E λ w=>?_;refine A9 (D5 0) (A1 ?_);refine A3 E (bx_ λ b1=>?_);refine as_ (A0 (D5 1) ?_);refine D1 (.range 10) [(0,0),(1,1),(2,0),(5,0),(6,1),(3,2),(4,0),(7,2),(8,0),(9,0)] kR kR λ hs=>?_;refine C8 hs E (qf_ 0 0) E ?_;refine F9 hs E ql_ E ?_;refine C8 hs E (A1K (k':=.i64) E kR (by show _ < 9223372036854775808; have:=ht.kind; omega)) E ?_;refine C8 hs E (qf_ 3 3) E ?_;refine F9 hs E ql_ E ?_;refine N3 E (aS E a0) kR (A1m (t.kind:Int) (by have:=ht.kind; omega) (by have:=ht.kind; omega) _ (mA h4)) E ?_;rw [B4Y];refine C8 hs E (A1N (ws':=[32]) E E E kR (by simp only [A11,List.length_cons,List.length_nil]; have:=A1j (u:=t.kind) (by have:=ht.kind; omega); omega)) E ?_;refine N3 E (aS E a0) kR (A1m t.n ht.n.1 ht.n.2 _ (mA h4)) E ?_;refine C8 hs E (A1N E E E E (by simp only [List.length_append,A11,List.length_cons,List.length_nil]; have:=A1j (u:=t.kind) (by have:=ht.kind; omega); have:=A3v (i:=t.n) ht.ok.n; omega)) E ?_;refine fa_ hs ?_;rw [show dec t.kind++[32]++A1O t.n=pre t 0 by simp [pre]];refine E3 (D2 1 3) (A4 (A1 ?_));refine A2 (qf_ 1 1) E ?_;refine A2 ql_ E ?_;refine A2 (G6 (sz:=1) E kR hvo) E ?_;refine mv_ (A0 (E8 1 3 16 17 18) (A8 ?_));refine E5 (α:=Nat) (λ i=>[(1,(vP b1)),(3,.string (txt (pre t i))),(16,vo),(17,(vI t.of.length)),(18,.int .i64 (i:Int))]) (λ _=>[(b1,blk (tmc t.kind vo t.text t.n) 130)]) (λ _=>[]) (λ i=>i<=t.of.length) (λ i=>t.of.length - i) 0 (Am _) (E8 1 3 16 17 18) .rfl qI ?_;rintro i hi;have hpl:=B1f ht i hi;have hofl:=ht.ofl;haveI:=C02 t i;refine A1 ?_;refine A2 (F0 E E E) E ?_;refine A0 (H1 1 3 16 17 18 19) (A4 ?_);refine C4 E ?_ ?_ <;> intro hc
 .
  have hlt:i < t.of.length:=by simp at hc; omega
  have hi64:=ht.of _ (List.getElem_mem hlt);have hdl:=A3v (i:=t.of[i]) (ht.ok.of _ (List.getElem_mem hlt));refine A6 (nx (E8 1 3 16 17 18) (A4 (A8 (A1 ?_))));refine A2 (H4 (sz:=1) E E kR E hvo hlt) E ?_;refine A2 (Y9 (u:=.int .i64 t.of[i]) (Rd.mono hvo qS) E kR (by simp [A1J,hlt])) E ?_;refine as_ (A0 (H1 1 3 5 16 17 18) (C2 (mv_ (mv_ ?_))));refine E6 (aS E a0) kR (A1m t.of[i] hi64.1 hi64.2 _ (mA h4)) E ?_;refine A2 (A1N (ws:=[32]) E E kR E (by simp only [List.length_cons,List.length_nil]; omega)) E ?_;refine A2 (A1N E E E E (by simp only [List.length_cons,List.length_append,List.length_nil]; omega)) E ?_;refine as_ ?_;rw [show pre t i++([32]++A1O t.of[i])=pre t (i+1) by rw [A8I hlt]; rfl];refine C6 (nb (nx (E8 1 3 16 17 18) (C2 ?_)));refine A2 (K7 (b:=1) E E E E qO) E ?_;refine mv_ (C6 ?_);exact rn (i+1) qO qO (E8 1 3 16 17 18) .rfl qI
 .
  have hge:i=t.of.length:=by simp at hc; omega
  subst hge;refine D9 (te (re (be E (nx (D2 1 3) (A1 (mv_ ?_))))));refine A2 (A1N (ws':=[58]) E E E kR (by simp only [List.length_cons,List.length_nil]; omega)) E ?_;refine A2 (qf_ 2 2) E ?_;refine A2 ql_ E ?_;refine A2 (A1N E E E E (by simp only [List.length_append,List.length_cons,List.length_nil]; have:=ht.tl; omega)) E ?_;refine as_ (A0 (D5 2) (C0 ?_));refine ⟨_,[],[],I0 E E,Aa _,by simp,?_,E,E⟩;rw [key,B7j]; simp
theorem A6U(A:Mem):FnX Tryz.prog 32 [] [] A λ r M J=>J=[]∧∃ bt bm,r=(vP bt)∧Tab bt bm [] M:=by refine Ck (N:=4) Tryz.func32 E E E λ w=>?_;refine A9 kn (A1 (as_ (A0 kn (A1 ?_))));refine A3 E (B1d E λ b1=>?_);refine A2 (F1 (place:=λ x=>#[(0,1),(1,1)][x]?) (z:=[vS,.map none]) (λ _=>by kernel_rfl) (eS E e0) (bdS 1 1 E qR bd0)) E ?_;refine A3 E (bx_ λ b3=>?_);refine as_ (A0 (D5 0) (C0 ?_));exact ⟨_,[_,_],[],I0 rfl rfl,Ao _,by simp,rfl,b3,b1,rfl,vS,[],[],[],[],rfl,rfl,Sl.nil,rfl,(λ r h=>by cases h),(λ j t h=>by simp at h),(λ t h=>by cases h),List.nodup_nil⟩
theorem B1h(bt bm:Nat)(ts:List Tm)(MT A:Mem)(hT:Tab bt bm ts MT)(hsub:∀ x,x∈MT->x∈A):FnV Tryz.prog 131 [(vP bt)] A (vI ts.length):=by obtain ⟨v,rows,ks,Bl,BX,rfl,hks,hsl,hrl,hr4,hat,hto,hnd⟩:=hT;have hbt:(bt,blk [v,.map (some bm)] 149)∈A:=hsub _ qM;have hrd:=hsl.rd (R:=A) (λ x hx=>hsub x (by simp [hx]));refine Ck (N:=10) Tryz.func131 E E E λ w=>?_;refine A9 (D5 0) (A1 (as_ (A0 (D5 0) (A4 (A1 (mv_ ?_))))));refine A2 (F6 (e:=149) E E kR) E ?_;refine A0 (D2 0 4) ?_;refine C9 E ?_;refine A6 (nx (D5 0) (A1 (mv_ ?_)));refine A2 (E7 E) E ?_;refine A2 (qf_ 0 0) E ?_;refine A2 (I2 E kR (mA hbt) qR) E ?_;refine A2 (G6 (sz:=4) E kR hrd) E ?_;refine as_ (A0 (D5 2) (C0 ?_));refine ⟨_,[],[],I0 E E,Aa _,by simp,?_,E,E⟩;rw [hks,List.length_map]
theorem A2w(bt bm:Nat)(ts:List Tm)(i:Int)(MT A:Mem)(hT:Tab bt bm ts MT)(hsub:∀ x,x∈MT->x∈A):FnX Tryz.prog 97 [(vP bt),.int .i64 i] [] A λ r M J=>M=[]∧J=[]∧∃ c ok,r=.tuple #[.agg (List.toArray c),.bool ok]∧((0<=i∧i < (ts.length:Int))->ok=true∧∃ t,ts[i.toNat]? = some t∧TmC A c t)∧(¬ (0<=i∧i < (ts.length:Int))->ok=false∧c=tmc 0 (vS) [] 0):=by
 obtain ⟨v,rows,ks,Bl,BX,rfl,hks,hsl,hrl,hr4,hat,hto,hnd⟩:=hT;have hbt:(bt,blk [v,.map (some bm)] 149)∈A:=hsub _ qM;have hrd:=hsl.rd (R:=A) (λ x hx=>hsub x (by simp [hx]));have hkl:ks.length=ts.length:=by rw [hks,List.length_map]
 refine Ck (N:=29) Tryz.func97 E E E λ w=>?_;refine A9 (D2 0 1) (A1 ?_);refine A3 E (C3 (cs:=[.int .u8 0,vS,.string ByteArray.empty,.int .i64 0]) kR E λ b4=>?_);refine as_ (A0 (D6 0 1 4) (A4 (A1 (mv_ ?_))));refine A2 (F6 (e:=149) E E kR) E ?_;refine mv_ ?_;refine F3 E E (Cn qm_ E ?_);refine F3 E E (Cn (F0 E E E) E ?_);refine A2 (F2 E E) E ?_;refine mv_ ?_;refine X3 (t:=12) E (λ hb=>?_) (λ hb=>?_)
 .
  have hlt0:i < 0:=by simpa using hb
  refine K3 E E E E ?_;refine K3 E E E E ?_;refine K3 E E E E ?_;refine K3 E E E E ?_;refine K3 E E E E ?_;refine K3 E E E E ?_;refine K3 E E E E ?_;refine A2 (G8 E E) E ?_;refine A0 (D8 0 1 4 20) ?_;refine E1 E ?_;refine A1 ?_;refine A2 (F1 (place:=λ x=>#[(0,1),(1,1),(2,1),(3,1)][x]?) (z:=[.int .u8 0,vS,.string ByteArray.empty,.int .i64 0]) (λ _=>by kernel_rfl) e0 bd0) E ?_;refine A3 E (A7 E E Cd kR ln4 al4 Cs ?_);refine as_ (A0 (D2 4 5) (C0 (tr ?_)));refine ⟨_,[],[],A0k E E E kR Cc qR,Aa _,by simp,E,E,_,_,E,(λ h=>absurd h.1 qO),λ _=>⟨E,E⟩⟩
 .
  have hge0:0<=i:=by simpa using hb
  obtain ⟨n,rfl⟩:=Int.eq_ofNat_of_zero_le hge0;refine F3 E E (Cn qm_ E ?_);refine F3 E E (Cn qm_ E ?_);refine F3 E E (Cn (E7 E) E ?_);refine F3 E E (Cn (qf_ 0 0) E ?_);refine F3 E E (Cn (I2 E kR (mA hbt) qR) E ?_);refine F3 E E (Cn (G6 (sz:=4) E kR hrd) E ?_);refine F3 E E (Cn (F0 E E E) E ?_);refine A2 (F2 E E) E ?_;refine A0 (D8 0 1 4 20) ?_;refine C4 E ?_ ?_ <;> intro hc
  .
   have hge:ts.length<=n:=by simp at hc; omega
   refine A1 ?_;refine A2 (F1 (place:=λ x=>#[(0,1),(1,1),(2,1),(3,1)][x]?) (z:=[.int .u8 0,vS,.string ByteArray.empty,.int .i64 0]) (λ _=>by kernel_rfl) e0 bd0) E ?_;refine A3 E (A7 E E Cd kR ln4 al4 Cs ?_);refine as_ (A0 (D2 4 5) (C0 (tr ?_)));refine ⟨_,[],[],A0k E E E kR Cc qR,Aa _,by simp,E,E,_,_,E,(λ h=>absurd h.2 qO),λ _=>⟨E,E⟩⟩
  .
   have hlt:n < ts.length:=by simp at hc; omega
   obtain ⟨r,hr,hcr⟩:=hat n ts[n] (Ab hlt);obtain ⟨vo,rfl,hvo⟩:=hcr;refine A6 (nx (D6 0 1 4) (A1 (mv_ ?_)));refine A2 (E7 E) E ?_;refine A2 (qf_ 0 0) E ?_;refine A2 (I2 E kR (mA hbt) qR) E ?_;refine mv_ ?_;refine A2 (H4 (sz:=4) E E kR E hrd qO) E ?_;refine A2 (A0K E kR (hrd.mono λ _ h=>mA h) hr4 qD hr) E ?_;refine A3 E (A7 E E E kR qR (by intro c hc; simp only [List.mem_cons,List.not_mem_nil,or_false] at hc; rcases hc with rfl | rfl | rfl | rfl <;> first | rfl | exact Rd.one hvo) Cs ?_);refine as_ (A0 (D2 4 5) (C0 ?_));refine ⟨_,[],[],A0k E E E kR Cc qR,Aa _,by simp,E,E,_,_,E,(λ _=>⟨E,ts[n],by simp [hlt],vo,E,hvo.mono λ x hx=>hsub x (by simp [hx])⟩),λ h=>absurd ⟨Int.natCast_nonneg n,by omega⟩ h⟩

end Go.Proofs.YtjkpfgjfpbihaaaGreatDoor
namespace Go.Px
theorem K5{C:Cx}{Q:XQ}{l:Env}{M J:Mem}{os:List Oper}{K:Nat->Prop}{n0:Nat}{nd:List Nat}{plan:List (Nat×Nat)}{i:Nat}{o:Oper}(hget:nth os i=some o)(hg:o.guard=none)(hnd:nd.contains i=false)(h:OpL C o l M J (λ l' M' J'=>XK C os Q K 0 nd plan l' M' J')):XK C os Q K n0 nd ((i,2)::plan) l M J:=by have h1:=B0X hget (λ a ha=>by simp [Region.wanted,hg]) hnd h;exact λ listed hcl hp a w ha hw _=>h1 listed hcl hp a w ha hw (Am _)
end Go.Px

namespace Go.Proofs.YtjkpfgjfpbihaaaGreatDoor
open Go.Px
instance(priority:=low) SubC.union{X Y Z:Mem}[h1:SubC X Z][h2:SubC Y Z]:SubC (X++Y) Z:=⟨λ x h=>(List.mem_append.1 h).elim (h1.sub x) (h2.sub x)⟩
instance(priority:=low) SubC.consC{b:Nat}{o:Obj}{X Z:Mem}[h1:At Z b o][h2:SubC X Z]:SubC ((b,o)::X) Z:=⟨λ x h=>(List.mem_cons.1 h).elim (λ h=>h▸h1.mem) (h2.sub x)⟩
theorem B8B{B M X:Mem}{x y z:Nat×Obj}:Fit ((B++[])++(M++(x::y::z::X))) (y::z::(B++(M++X))):=⟨x::(y::z::(B++(M++X))),by
  rw [List.append_nil,<- Ap]
  exact (List.perm_append_comm_assoc (B++M) [x,y,z] X).trans qM,.cons _ (Ao _)⟩
def pos(ts:List Tm)(t:Tm):Option Nat:=A0a (key t) (ts.map key) 0
def at_(ts:List Tm)(t:Tm):Nat:=(pos ts t).getD ts.length
def add(ts:List Tm)(t:Tm):List Tm:=if (pos ts t).isSome then ts else ts++[t]
theorem B1i{n:Nat}{cs:List Value}{e:TypeId}:B4P λ v R=>∃ b,v=.slice (some ⟨b,0,none⟩) n n∧(b,Obj.cells cs.toArray e (0,0))∈R:=λ _ _ _ h ⟨b,e,hb⟩=>⟨b,e,h _ hb⟩
variable{ts:List Tm}{t:Tm}
theorem A8K(ht:Tmo t)(hts:∀ t∈ts,Tmo t){i:Nat}(h:pos ts t=some i):ts[i]? = some t:=(A8J ht hts).2 i h
theorem A8L(ht:Tmo t)(hts:∀ t∈ts,Tmo t):pos ts t=none ↔ t ∉ ts:=(A8J ht hts).1
theorem C03(hts:∀ t∈ts,Tmo t)(hnd:ts.Nodup){i:Nat}(h:ts[i]? = some t):pos ts t=some i:=by
  have hm:t∈ts:=As h
  cases hp:pos ts t with
  | none=>exact absurd hm ((A8L (hts t hm) hts).1 hp)
  | some j =>
    have hj:=A8K (hts t hm) hts hp;have a:=Ac.1 h;have b:=Ac.1 hj;obtain ⟨a1,a2⟩:=a;obtain ⟨b1,b2⟩:=b;have hpw:=List.pairwise_iff_getElem.1 hnd;rcases Nat.lt_trichotomy i j with h1 | h1 | h1
    . exact absurd (a2.trans b2.symm) (hpw i j a1 b1 h1)
    . rw [h1]
    . exact absurd (b2.trans a2.symm) (hpw j i b1 a1 h1)
theorem S9(bt bm:Nat)(ts:List Tm)(vo:Value)(t:Tm)(MT A:Mem)(hT:Tab bt bm ts MT)(hlen:ts.length<=1048576)(hvo:Rd A 1 vo t.of.length (A1J t.of))(ht:Tmo t){e4:TypeId}{f4:Nat×Nat}(h4:(4,Obj.cells (nums .u64 A0B).toArray e4 f4)∈A):FnX Tryz.prog 50 [(vP bt),.agg (tmc t.kind vo t.text t.n).toArray] MT A λ r M J=>J=[]∧r=.int .i64 ((at_ ts t:Nat):Int)∧Tab bt bm (add ts t) M:=by
  obtain ⟨v,rows,ks,Bl,BX,rfl,hks,hsl,hrl,hr4,hat,hto,hnd⟩:=hT;have hkind:=ht.kind;haveI:=hvo.cel;refine Ck (N:=50) Tryz.func50 E E E λ w=>?_;refine A9 (D2 0 1) (A1 ?_);refine A3 E (bx_ λ b3=>?_);refine as_ (A0 (D2 0 3) (A4 (A1 (mv_ ?_))));refine A2 (F6 (e:=149) E E kR) E ?_;refine A0 (D6 0 3 8) ?_;refine C9 E ?_;refine A6 (nx (D2 0 3) ?_);refine D1 [0,1,2,3,4,5,7,8,9,10,11] (zp 0 [0,0,0,1,1,2,2,0,0,0,0,0]) kR kR λ hs=>?_;refine fm_ hs ?_;refine C8 hs E (E7 E) E ?_;refine C8 hs E (qf_ 1 1) E ?_;refine F9 hs E ql_ E ?_;refine F9 hs E (qw_ 4) E ?_;refine N3 E (aS E a0) kR (A6T vo t _ (hvo.mono λ _ h=>mA h) ht (mA h4)) E ?_;refine G1 E E E (Cn (B8A (kt:=9) (et:=3) E E kR kR (λ _=>by rfl) Cc) E ?_);refine fm_ hs ?_;refine C8 hs E (Y8 E) E ?_;refine C8 hs E (Y4 E) E ?_;refine fa_ hs ?_;refine fa_ hs ?_;refine E3 (D8 0 3 5 6) ?_;refine P8 (α:=Mem) (λ _=>[(5,.int .i64 ((at_ ts t:Nat):Int))]) (λ M=>M) (λ _=>[]) (λ M=>Tab bt bm (add ts t) M) ?_ ?_
  .
    refine A1 (mv_ ?_);refine A2 (U0 E) E ?_;refine A0 (D8 0 3 5 20) ?_;refine C4 E ?_ ?_ <;> intro hc
    .
      have hnm:pos ts t=none:=by
        cases hp:pos ts t with
        | none=>rfl
        | some j=>rw [hks] at hc; rw [show A0a (key t) (ts.map key) 0=some j from hp] at hc; cases hc
      have hnk:A0a (key t) ks 0=none:=by rw [hks]; exact hnm
      have hkl:ks.length=ts.length:=by rw [hks,List.length_map]
      refine A1 (mv_ ?_);refine A2 (E7 E) E ?_;refine A2 (qf_ 0 0) E ?_;refine A2 ql_ E ?_;refine A2 (G6 (sz:=4) E kR (hsl.rd (R:=Bl) λ _ h=>h)) E ?_;refine as_ (A0 (D6 0 3 5) (A1 ?_));refine A2 (qf_ 1 1) E ?_;refine A2 ql_ E ?_;refine C7 (aS E a0) kR (A7N vo t.of.length (A1J t.of) _ (hvo.mono λ _ h=>mA h) (B1e _) (by have:=ht.ofl; omega)) E ?_;rintro v28 M28 J28 ⟨rfl,hv28⟩;haveI:=hv28.cel;refine A2 (qf_ 1 1) E ?_;refine A3 E (E4 E E hv28.one kR Cq Cs ?_);refine A0 (D6 0 3 5) ?_;refine X9 (Bl) (_) true [0,1,2,3,4,5,6,7,8,9,10,11,12,13,14,15,16,19] [(0,0),(1,0),(2,0),(3,0),(4,1),(5,1),(7,0),(8,0),(9,0),(10,1),(11,1),(14,0),(6,3),(12,4),(13,2),(15,0),(16,0),(17,2),(18,2),(19,0),(20,2)] kR kR qP λ hs K n0 hKm hKs hKn=>?_;refine km_ hs ?_;refine km_ hs ?_;refine G7 hs E (E7 E) E ?_;refine G7 hs E (qf_ 1 1) E ?_;refine K0 hs E hKs ql_ ?_;refine K0 hs E hKs (qw_ 4) ?_;refine km_ hs ?_;refine G7 hs E (E7 E) E ?_;refine G7 hs E (qf_ 0 0) E ?_;refine K0 hs E hKs ql_ ?_;refine K0 hs E hKs (qw_ 4) ?_;refine km_ hs ?_
      refine B4R [⟨6,36,λ v _=>v=.string (key t)⟩,⟨12,42,λ v R=>∃ b,v=.slice (some ⟨b,0,none⟩) 1 1∧(b,Obj.cells (tmc t.kind v28 t.text t.n).toArray 130 (0,0))∈R⟩]
        (A5 B8p (A5 B1i (I7))) nd_ nd_ dl_
        (gG ?_ (gG ?_ (I7))) ?_
      . intro _ _ _ hb _;exact R8 (aS E a0) kR (A6T v28 t _ (hv28.mono λ _ h=>hb _ (by simp [h])) ht (hb _ (mA h4))) E ⟨_,E,E⟩
      .
        intros
        exact C5 (e:=130) (sz:=4) (z:=[.int .u8 0,vS,.string ByteArray.empty,.int .i64 0]) kR (eS E e0) (.cons E E qR (SetR.all qR) .nil) E λ b=>⟨_,E,b,E,Ae _ qK⟩
      intro vs Jn0 hφ;have g6:=gy 0 hφ;have g12:=gy 1 hφ;dsimp only at g6 g12;clear hφ;dsimp only [A3i,List.map,List.cons_append,List.nil_append];generalize vs 6=u36,vs 12=u42 at *;subst g6;obtain ⟨b42,rfl,hb42⟩:=g12;have hl42:=Co (sz:=4) (n:=1) hb42 qR
      refine H3 _ _ E E (Ah _) hKm λ w0=>(H5 (e:=130) (sz:=4) (by_:=56) E E kR E hsl (hl42.mono λ x hx=>by simpa only [List.append_assoc,List.nil_append,List.append_nil] using hx) (by intro c hc; simp only [List.mem_cons,List.not_mem_nil,or_false] at hc; rcases hc with rfl | rfl | rfl | rfl <;> first | rfl | exact hv28.one) (by rw [List.append_nil]) (by unfold maxLen; omega) qO E λ v43 B43 hs43=>λ _=>?_)
      refine G7 hs E (E7 E) E ?_;refine G7 hs E (qf_ 0 0) E ?_;refine K5 E E E (E4 E E hs43.one kR Cq Cs ?_);refine K5 E E E (A9R (kt:=9) (et:=3) E E kR kR (λ _=>by rfl) hnk E Cs ?_);refine G7 hs E (Y4 E) E ?_;refine K5 E E E (A6S (ks:=ks) (s:=key t) E qR qR Cs ?_);refine A3a ?_;have hat_:at_ ts t=ks.length:=by unfold at_; rw [hnm,hkl]; rfl
      have hadd:add ts t=ts++[t]:=by unfold add; rw [hnm]; rfl
      refine jn (_::_::(B43++(M28++BX))) ⟨v43,rows++[tmc t.kind v28 t.text t.n],ks++[key t],B43,M28++BX,E,by rw [hadd,hks]; simp,(by rw [show (rows++[tmc t.kind v28 t.text t.n]).flatten=rows.flatten++tmc t.kind v28 t.text t.n by simp,An]; exact hs43),by simp [hrl],?_,?_,?_,?_⟩ (kp 5 (by rw [hat_]; rfl) kn) ?_ (λ _ h=>by cases h)
      . intro r hr;rcases List.mem_append.1 hr with hr | hr
        . exact hr4 r hr
        . rw [List.mem_singleton.1 hr]; rfl
      . intro j u hj;rw [hadd] at hj;by_cases hlt:j < ts.length
        . rw [Ak hlt] at hj;obtain ⟨r,hr,hcr⟩:=hat j u hj;exact ⟨r,by rw [Ak qO]; exact hr,hcr.mono λ x hx=>Ai _ hx⟩
        . rw [Aq qO] at hj
          have hj0:j=ts.length:=by have:=(Ac.1 hj).1;simp at this; omega
          subst hj0;simp at hj;subst hj;exact ⟨_,by rw [Aq qO,show ts.length - rows.length=0 by omega]; rfl,v28,E,hv28.mono λ x hx=>Ae _ hx⟩
      . intro u hu;rw [hadd] at hu;rcases List.mem_append.1 hu with hu | hu
        . exact hto u hu
        . rw [List.mem_singleton.1 hu]; exact ht
      . rw [hadd,List.nodup_append];refine ⟨hnd,by simp,λ x hx y hy e=>(A8L ht hto).1 hnm ?_⟩;rw [List.mem_singleton.1 hy] at e;exact e▸hx
      . rw [An]; exact B8B
    .
      have hsm:(pos ts t).isSome=true:=by
        cases hp:pos ts t with
        | some j=>rfl
        | none=>rw [hks] at hc; rw [show A0a (key t) (ts.map key) 0=none from hp] at hc; cases hc
      refine A6 ?_;have hpl:A0a (key t) ks 0=pos ts t:=by rw [hks]; rfl
      have hadd:add ts t=ts:=by unfold add; rw [hsm]; rfl
      refine jn _ ⟨v,rows,ks,Bl,BX,E,by rw [hadd,hks],hsl,hrl,hr4,by rw [hadd]; exact hat,by rw [hadd]; exact hto,by rw [hadd]; exact hnd⟩ (kp 5 (by rw [hpl]; unfold at_; cases hq:pos ts t with | none=>rw [hq] at hsm; cases hsm | some j=>rfl) kn) (Ci (.cons _ (Ao _))) qI
  . rintro M hM;refine A1 (mv_ (as_ (A0 (D5 4) (C0 ?_))));exact ⟨_,_,_,I0 E E,Ao _,λ _ h=>h,E,E,hM⟩

end Go.Proofs.YtjkpfgjfpbihaaaGreatDoor
namespace Go.Px
section
variable{P:Program}{R R':Mem}{l:Env}{d:Option Nat}{ty t:TypeId}{pos:String}{af:Array Edge}{g:Option (Nat×Bool)}{x y:Operand}{v u:Value}{sz n a off j:Nat}{xs:List Value}
theorem B1j{f:Nat}{s:TypeId}(hx:ev l x=some (vAt sz a v))(h:Rd R' sz v n xs)(ha:a < n)(hf:A2e P s f=some off):OpQ P R ⟨d,.fieldAddr s x f,ty,pos,af,g⟩ l (vAt 1 (a * sz+off) v):=by
  obtain ⟨p,c,rfl,h2,h3,h4⟩:=h;rcases h4 with h4 | ⟨b,o,cs,e',fr,rfl,hb,hx'⟩
  . omega
  . simp only [vAt,Addr.add_mid,Nat.mul_one] at hx ⊢;exact A23 _ hx hf qO
theorem B1k(hx:ev l x=some (vAt 1 j v))(h:Rd R sz v n xs)(hn:0 < n)(ht:A0j P t=true)(hj:xs[j]? = some u):OpQ P R ⟨d,.load t x,ty,pos,af,g⟩ l u:=by
  obtain ⟨p,c,rfl,h2,h3,h4⟩:=h;rcases h4 with h4 | ⟨b,o,cs,e',fr,rfl,hb,hx'⟩
  . omega
  . simp only [vAt,Addr.add_mid] at hx;refine I2 (b:=b) (o:=o+j * 1) hx ht hb ?_;rw [Nat.mul_one]; exact hx' j u hj
end
end Go.Px
namespace Go.Proofs.YtjkpfgjfpbihaaaGreatDoor
open Go.Px
theorem A14{ts:List Tm}{t:Tm}:(add ts t).length<=ts.length+1:=by unfold add; split <;> simp
def u64(i:Int):Nat:=(i % 18446744073709551616).toNat
def byt(i:Int)(k:Nat):Nat:=(i / ((256 ^ k:Nat):Int) % 256).toNat
variable{k:Nat}
theorem C3s(i:Int)(hk:k < 8):byt i k=u64 i / 256 ^ k % 256:=by unfold byt u64;rcases (show k=0∨k=1∨k=2∨k=3∨k=4∨k=5∨k=6∨k=7 by omega) with rfl | rfl | rfl | rfl | rfl | rfl | rfl | rfl <;> simp only [Nat.reducePow] <;> omega
theorem B7k(i:Int)(k:Nat):byt i k < 256:=by unfold byt; omega
theorem C04(i:Int):u64 i < 18446744073709551616:=by unfold u64; omega
def btk(i:Int)(k:Nat):LN:=84::((List.range k).map (byt i)++List.replicate (31 - k) 0)
def bts(i:Int):LN:=btk i 8
theorem A3Y(i:Int)(h:k<=31):(btk i k).length=32:=by simp [btk]; omega
theorem B4Z(i:Int)(h:k < 31):(btk i k).set (1+k) (byt i k)=btk i (k+1):=by unfold btk;rw [show 1+k=k+1 by omega,List.set_cons_succ,List.set_append_right _ _ qM,List.range_succ,List.map_append];simp only [List.length_map,List.length_range,Nat.sub_self];rw [show 31 - k=(31 - (k+1))+1 by omega,List.replicate_succ,List.set_cons_zero];simp
theorem B8C(i:Int)(h:k < 8):(bts i).getD (1+k) 0=byt i k:=by unfold bts btk;rw [show 1+k=k+1 by omega,List.getD_cons_succ,Aj,Ak (by simpa using h)];simp [h]
theorem C3t(i:Int):∀ x∈bts i,x < 256:=by
  intro x hx;simp only [bts,btk,List.mem_cons,List.mem_append,List.mem_map,List.mem_replicate] at hx;rcases hx with rfl | ⟨k,_,rfl⟩ | ⟨_,rfl⟩
  . decide
  . exact B7k i k
  . decide
def le8(ws:LN):Nat->Nat
  | 0=>0
  | k+1=>le8 ws k+ws.getD (1+k) 0 * 256 ^ k
variable{ws:LN}
theorem A5E(h:∀ x∈ws,x < 256)(j:Nat):ws.getD j 0 < 256:=by
  rw [Aj]
  cases hj:ws[j]? with
  | none=>decide
  | some x=>exact h x (As hj)
theorem B1l{ws:LN}(h:∀ x∈ws,x < 256):∀ k,le8 ws k < 256 ^ k
  | 0=>by show 0 < 1; decide
  | k+1=>by have h1:=B1l h k;have h2:=A5E h (1+k);have h3:ws.getD (1+k) 0 * 256 ^ k<=255 * 256 ^ k:=Au _ qO;unfold le8;rw [Nat.pow_succ]; omega
theorem B1m(i:Int):∀ k,k<=8->le8 (bts i) k=u64 i % 256 ^ k
  | 0,_=>by simp [le8,Nat.mod_one]
  | k+1,h=>by rw [le8,B1m i k qO,B8C i qO,C3s i qO,Nat.pow_succ,Nat.mod_mul,Nat.mul_comm (256 ^ k)]
def plc(ws:LN)(n:Nat):Option Nat:=if 32<=ws.length∧ws.getD 0 0=84∧(∀ c∈ws.drop 9,c=0)∧le8 ws 8 < n then some (le8 ws 8) else none
variable{n:Nat}
theorem A8M(h:¬ (32<=ws.length∧ws.getD 0 0=84∧(∀ c∈ws.drop 9,c=0)∧le8 ws 8 < n)):plc ws n=none:=if_neg h
theorem B1n(h:32<=ws.length∧ws.getD 0 0=84∧(∀ c∈ws.drop 9,c=0)∧le8 ws 8 < n):plc ws n=some (le8 ws 8):=if_pos h
theorem A8N(h:plc ws n=none):Value.tuple #[.int .i64 0,.bool false]=.tuple #[.int .i64 (((plc ws n).getD 0:Nat):Int),.bool (plc ws n).isSome]:=by rw [h]; rfl
variable{m:Nat}
theorem C05(h:plc ws n=some m):Value.tuple #[.int .i64 (m:Int),.bool true]=.tuple #[.int .i64 (((plc ws n).getD 0:Nat):Int),.bool (plc ws n).isSome]:=by rw [h]; rfl
theorem B8D(h:ws.length < 32):plc ws n=none:=A8M λ h'=>absurd h'.1 qO
theorem C06(h:ws.getD 0 0≠84):plc ws n=none:=A8M λ h'=>h h'.2.1
theorem C07{j:Nat}(hj:j < (ws.drop 9).length)(h:(ws.drop 9).getD j 0≠0):plc ws n=none:=A8M λ h'=>h (h'.2.2.1 _ (by rw [Aj,Ab hj]; exact List.getElem_mem hj))
theorem C08(h8:le8 ws 8=m)(h:n<=m):plc ws n=none:=A8M λ h'=>by have:=h'.2.2.2;rw [h8] at this;exact absurd this (Nat.not_lt.2 h)
theorem B44(h8:le8 ws 8=m)(h1:32<=ws.length)(h2:ws.getD 0 0=84)(h3:∀ c∈ws.drop 9,c=0)(h:m < n):plc ws n=some m:=by rw [B1n ⟨h1,h2,h3,by rw [h8]; exact h⟩,h8]
theorem B8E(i:Int)(n:Nat):plc (bts i) n=if u64 i < n then some (u64 i) else none:=by
  have e:le8 (bts i) 8=u64 i:=by rw [B1m i 8 qO]; exact Af (C04 i)
  have hd:∀ c∈(bts i).drop 9,c=0:=by
    intro c hc;unfold bts btk at hc;rw [List.drop_succ_cons,List.drop_append_of_le_length qM] at hc;simp only [List.mem_append] at hc;rcases hc with hc | hc
    . rw [Bv qM] at hc; cases hc
    . exact (List.mem_replicate.1 hc).2
  unfold plc;rw [e,A3Y i (k:=8) qO |> (λ h=>(h:(bts i).length=32))];by_cases h:u64 i < n
  . rw [if_pos h,if_pos ⟨by omega,E,hd,h⟩]
  . rw [if_neg h,if_neg (λ h'=>h h'.2.2.2)]
theorem B8F{w:Nat}(h:n < 2 ^ k):n ||| w * 2 ^ k=n+w * 2 ^ k:=by have:=Nat.two_pow_add_eq_or_of_lt h w;rw [Nat.mul_comm w,Nat.or_comm,Nat.add_comm n]; exact this.symm
theorem C3u(h:∀ x∈ws,x < 256)(hk:k < 8):ws.getD (1+k) 0 * 2 ^ (8 * k) < 18446744073709551616:=by have h2:=A5E h (1+k);have hpk:(256:Nat) ^ k<=256 ^ 7:=Bq qD qO;have hmk:ws.getD (1+k) 0 * 256 ^ k<=255 * 256 ^ 7:=Nat.mul_le_mul qO hpk;rw [Nat.pow_mul];exact Be hmk qD
theorem C3v(h:∀ x∈ws,x < 256)(hk:k < 8):le8 ws k < 18446744073709551616 :=
  Bp (B1l h k) (Az (Bq qD (show k<=7 by omega)) qD)
theorem C09(h:∀ x∈ws,x < 256)(k:Nat):le8 ws k ||| ws.getD (1+k) 0 * 2 ^ (8 * k)=le8 ws (k+1):=by rw [B8F (by rw [Nat.pow_mul]; exact B1l h k),Nat.pow_mul]; rfl
end Go.Proofs.YtjkpfgjfpbihaaaGreatDoor
namespace Go.Px
theorem C1a{P:Program}{R:Mem}{l:Env}{d:Option Nat}{ty t t':TypeId}{pos:String}{af:Array Edge}{g:Option (Nat×Bool)}{x y:Operand}{a b:Nat}(hx:ev l x=some (.int .u64 (a:Int)))(hy:ev l y=some (.int .u64 (b:Int)))(ha:a < 18446744073709551616)(hb:b < 18446744073709551616):OpQ P R ⟨d,.binOp .or t x y t',ty,pos,af,g⟩ l (.int .u64 ((a ||| b:Nat):Int)):=B4A E hx hy ha hb
section
variable{P:Program}{R R':Mem}{l:Env}{d:Option Nat}{ty t t':TypeId}{pos:String}{af:Array Edge}{g:Option (Nat×Bool)}{x y:Operand}{i j:Int}{k:Nat}
theorem B1o(hx:ev l x=some (.int .i64 i))(hy:ev l y=some (.int .i64 j))(hj:j=((8 * k:Nat):Int))(hk:k < 8):OpQ P R ⟨d,.binOp .shr t x y t',ty,pos,af,g⟩ l (.int .i64 (i / ((256 ^ k:Nat):Int))):=by subst hj;have h:=C0J (P:=P) (R:=R) (d:=d) (ty:=ty) (pos:=pos) (af:=af) (g:=g) (t:=t) (t':=t') hx hy qO;rw [Int.toNat_natCast,Nat.min_eq_left (show 8 * k<=IntKind.i64.bits by show 8 * k<=64; omega)] at h;rw [show (256 ^ k:Nat)=2 ^ (8 * k) by rw [Nat.pow_mul],Int.natCast_pow,<- Int.fdiv_eq_ediv_of_nonneg _ (Int.pow_nonneg qD)];exact h
theorem B1p{s:TypeId}(hx:ev l x=some (.int .i64 i))(hc:A5h P s t=some .u8):OpQ P R ⟨d,.convert s t x,ty,pos,af,g⟩ l (.int .u8 (((i % 256).toNat:Nat):Int)):=by refine A0l _ hx hc ?_;unfold IntKind.wrap;simp only [IntKind.signed,IntKind.bits,Bool.false_and,Bool.false_eq_true,if_false];omega
end
end Go.Px
namespace Go.Proofs.YtjkpfgjfpbihaaaGreatDoor
open Go.Px
theorem A9S(i:Int)(A:Mem):FnX Tryz.prog 49 [.int .i64 i] [] A λ r M J=>J=[]∧Sl 1 r 32 (nums .u8 (bts i)) M:=by
 skip
 refine Ck (N:=22) Tryz.func49 E E E λ w=>?_;refine A9 (D5 0) (A1 (as_ (A0 (D5 0) (A1 ?_))));refine A3 E (B0Z (a:=32) (e:=5) (k:=.u8) (by_:=1) E E kR E E qO qO E λ v5 B5 hs5=>?_);refine as_ (A0 (D2 0 3) (A1 (mv_ ?_)));refine A2 (H4 (sz:=1) (a:=0) E E kR E (by first | assumption | exact Sl.rd (by assumption) qI | exact By.rd (by assumption)) qO) E ?_;refine A3 E (B7f (u:=84) E E E kR hs5 qD qP λ B5b hs5b=>?_);refine A0 (D2 0 3) (A4 (A1 (mv_ (A0 (D6 0 3 8) (A8 ?_)))));refine E5 (α:=Nat×Mem) (λ s=>[(0,.int .i64 i),(3,v5),(8,.int .i64 (s.1:Int))]) (λ s=>s.2) (λ _=>[]) (λ s=>s.1<=8∧Sl 1 v5 32 (nums .u8 (btk i s.1)) s.2) (λ s=>8 - s.1) ⟨0,B5b⟩ ⟨Am _,hs5b⟩ (D6 0 3 8) (Ce qM) qI ?_;rintro ⟨k,B⟩ ⟨hk,hs⟩;dsimp only at hk hs ⊢;haveI:=hs.cel;refine A1 ?_;refine A2 (F0 E E E) E ?_;refine A0 (D8 0 3 8 9) (A4 ?_);refine C4 E ?_ ?_ <;> intro hc
 .
  have hlt:k < 8:=by simp at hc; omega
  refine A6 (nx (D6 0 3 8) (A4 (A8 (A1 (mv_ (as_ (A0 (D8 0 3 4 8) (C2 ?_))))))));refine mv_ (mv_ ?_);refine A2 (K7 (a:=1) E E E E qO) E ?_;refine mv_ (mv_ ?_);refine A2 (A03 (a:=8) E E E E qO) E ?_;refine A2 (B1o (k:=k) E E E hlt) E ?_;refine A2 (B1p E kR) E ?_;refine A2 (H4 (sz:=1) E E kR E (by first | assumption | exact Sl.rd (by assumption) qI | exact By.rd (by assumption)) qO) E ?_;refine A3 E (B7f (u:=byt i k) E E E kR hs qO qP λ B6 hs6=>?_);rw [B4Z i qO] at hs6;refine C6 (nb (nx (D6 0 3 8) (C2 ?_)));refine A2 (K7 (b:=1) E E E E qO) E ?_;refine mv_ (C6 ?_);exact rn ⟨k+1,B6⟩ ⟨by dsimp only; omega,hs6⟩ (by dsimp only; omega) (D6 0 3 8) (Ce qM) qI
 .
  have hge:k=8:=by simp at hc; omega
  subst hge;refine D9 (te (re (be E (nx (D5 3) (A1 (mv_ (as_ (A0 (D5 2) ?_))))))));refine C0 ?_;exact ⟨_,B,[],I0 E E,by first | exact Ao _ | simp,by simp,E,hs⟩
theorem A0L(bt bm:Nat)(ts:List Tm)(vp:Value)(ws:LN)(MT A:Mem)(hT:Tab bt bm ts MT)(hsub:∀ x,x∈MT->x∈A)(hn:ts.length<=1048576)(hp:Rd A 1 vp ws.length (nums .u8 ws))(hw:∀ x∈ws,x < 256)(hl:ws.length<=maxLen):FnV Tryz.prog 96 [(vP bt),vp] A (.tuple #[.int .i64 (((plc ws ts.length).getD 0:Nat):Int),.bool (plc ws ts.length).isSome]):=by
 haveI:=hp.cel;have hmx:maxLen < 9223372036854775808:=by unfold maxLen; omega
 refine Ck (N:=51) Tryz.func96 E E E λ w=>?_;refine A9 (D2 0 1) (A1 (as_ (as_ (A0 (D2 0 1) (A4 (A1 (mv_ ?_)))))));refine A2 (G6 (sz:=1) E kR hp) E ?_;refine A2 (F0 E E E) E ?_;refine mv_ ?_;refine X3 (t:=13) E (λ hb=>?_) (λ hb=>?_)
 . refine K3 E E E E ?_;refine K3 E E E E ?_;refine K3 E E E E ?_;refine K3 E E E E ?_;refine A2 (G8 E E) E ?_;refine A0 (D6 0 1 18) ?_;refine E1 E ?_;refine A1 (as_ (as_ (A0 (D2 4 5) (C0 (tr ?_)))));refine ⟨_,[],[],A1s E E E,Aa _,by simp,A8N (B8D (by simp at hb; omega)),E,E⟩
 .
  have h32:32<=ws.length:=by simp at hb; omega
  have h0:ws.getD 0 0=(ws.getD 0 0):=rfl;refine F3 E E (Cn qm_ E ?_);refine F3 E E (Cn (H4 (sz:=1) (a:=0) E E kR E hp qO) E ?_);refine F3 E E (Cn (A4P (j:=0) (Rd.mono hp qS) E kR qO) E ?_);refine F3 E E (Cn (F0 E E E) E ?_);refine A2 (F2 E E) E ?_;refine A0 (D6 0 1 18) ?_;refine C4 E ?_ ?_ <;> intro hc
  .
   have h84:ws.getD 0 0≠84:=by have:=bne_iff_ne.1 hc; omega
   refine A1 (as_ (as_ (A0 (D2 4 5) (C0 (tr ?_)))));refine ⟨_,[],[],A1s E E E,Aa _,by simp,A8N (C06 h84),E,E⟩
  .
   have h84:ws.getD 0 0=84:=by have h:=hc; rw [bne_eq_false_iff_eq] at h; omega
   refine A6 (nx (D2 0 1) (A1 (as_ (A0 (D6 0 1 6) (A4 (A1 (mv_ ?_)))))));refine A0 (D8 0 1 6 19) (A8 ?_);refine E5 (α:=Nat) (λ k=>[(0,(vP bt)),(1,vp),(6,.int .u64 ((le8 ws k:Nat):Int)),(19,.int .i64 (k:Int))]) (λ _=>[]) (λ _=>[]) (λ k=>k<=8) (λ k=>8 - k) 0 qD (D8 0 1 6 19) (Ce qM) qI ?_;rintro k hk;refine A1 ?_;refine A2 (F0 E E E) E ?_;refine A0 (E8 0 1 6 19 20) (A4 ?_);refine C4 E ?_ ?_ <;> intro hc
   .
    have hlt:k < 8:=by simp at hc; omega
    have hwk:=A5E hw (1+k);have h8w:=C3u hw hlt;have h8n:=C3v hw hlt;refine A6 (nx (D8 0 1 6 19) (A4 (A8 (A1 (mv_ (as_ (A0 (E8 0 1 6 7 19) (C2 ?_))))))));refine mv_ (mv_ (mv_ ?_));refine A2 (K7 (a:=1) E E E E qO) E ?_;refine A2 (H4 (sz:=1) E E kR E hp qO) E ?_;refine A2 (A4P (Rd.mono hp qS) E kR qO) E ?_;refine A2 (K6 (ws.getD (1+k) 0) E kR (by rw [A8u,Af qO])) E ?_;refine mv_ ?_;refine A2 (A03 (a:=8) E E E E qO) E ?_;refine A2 (C0V 18446744073709551616 E qD E E E E (by show 8 * k<=64; omega)) E ?_;rw [Af h8w];refine A2 (C1a E E h8n h8w) E ?_;rw [C09 hw k];refine as_ (C6 (nb (nx (D8 0 1 6 19) (C2 ?_))));refine A2 (K7 (b:=1) E E E E qO) E ?_;refine mv_ (C6 ?_);exact rn (k+1) qO qO (D8 0 1 6 19) (Ce qM) qI
   .
    have hge:k=8:=by simp at hc; omega
    subst hge;generalize h8:le8 ws 8=n8;refine D9 (te (re (be E (nx (D6 0 1 6) (A4 (A1 (mv_ ?_)))))));refine A2 (A1M (sz:=1) (a:=9) E E kR E hp qO) E ?_;have hq:=hp.loV 9 qO;rw [Nat.mul_one,<- A0J] at hq;generalize vLo 9 1 vp=vq at *;haveI:=hq.cel;refine A2 (G6 (sz:=1) E kR hq) E ?_;refine mv_ (A0 (E8 0 6 35 36 37) (A8 ?_));refine E5 (α:=Nat) (λ j=>[(0,(vP bt)),(6,.int .u64 ((n8:Nat):Int)),(35,vq),(36,.int .i64 ((ws.length - 9:Nat):Int)),(37,.int .i64 (j:Int))]) (λ _=>[]) (λ _=>[]) (λ j=>j<=ws.length - 9∧∀ c∈(ws.drop 9).take j,c=0) (λ j=>ws.length - 9 - j) 0 ⟨Am _,λ c h=>by simp at h⟩ (E8 0 6 35 36 37) (Ce qM) qI ?_;rintro j ⟨hj,hz⟩;refine A1 ?_;refine A2 (F0 E E E) E ?_;refine A0 (H1 0 6 35 36 37 38) (A4 ?_);refine C4 E ?_ ?_ <;> intro hc
    .
     have hlt:j < ws.length - 9:=by simp at hc; omega
     have hjw:j < (ws.drop 9).length:=by rw [Bg]; exact hlt
     have hwj:=A5E (ws:=ws.drop 9) (λ x hx=>hw x (List.mem_of_mem_drop hx)) j;refine A6 (nx (E8 0 6 35 36 37) (A4 (A8 (A1 ?_))));refine A2 (H4 (sz:=1) E E kR E hq hlt) E ?_;refine A2 (A4P (Rd.mono hq qS) E kR hlt) E ?_;refine as_ (A0 (H1 0 6 9 35 36 37) (A1 (mv_ ?_)));refine A2 (F0 E E E) E ?_;refine A0 (H1 0 6 35 36 37 42) ?_;refine C4 E ?_ ?_ <;> intro hc
     .
      have hne:(ws.drop 9).getD j 0≠0:=by have:=bne_iff_ne.1 hc; omega
      refine A1 (as_ (as_ (A0 (D2 4 5) (C0 (br (tr (rr (br ?_))))))));refine tr ?_;refine ⟨_,[],[],A1s E E E,Aa _,by simp,A8N (C07 hjw hne),E,E⟩
     .
      have he0:(ws.drop 9).getD j 0=0:=by have h:=hc; rw [bne_eq_false_iff_eq] at h; omega
      refine A6 (nb (nx (E8 0 6 35 36 37) (C2 ?_)));refine A2 (K7 (b:=1) E E E E qO) E ?_;refine mv_ (C6 ?_);exact rn (j+1) ⟨by omega,λ c h=>by rw [Bh,Ab hjw] at h; rcases List.mem_append.1 h with h | h; exact hz c h; simp at h; rw [Aj,Ab hjw] at he0; simp at he0; omega⟩ qO (E8 0 6 35 36 37) (Ce qM) qI
    .
     have hge:j=ws.length - 9:=by simp at hc; omega
     subst hge;have hzz:∀ c∈ws.drop 9,c=0:=by rwa [Aw (by rw [Bg]; exact Av _)] at hz
     refine D9 (te (re (be E (nx (D2 0 6) (A4 (A1 (mv_ (mv_ ?_))))))));refine E6 (aS E a0) kR (B1h bt bm ts MT _ hT (λ x hx=>mA (hsub x hx))) E ?_;refine A2 (K6 ts.length E kR (by rw [A8u,Af qO])) E ?_;refine A2 (F0 E E E) E ?_;refine A0 (D2 6 48) ?_;refine C4 E ?_ ?_ <;> intro hc
     .
      have hge:ts.length<=n8:=by simp at hc; omega
      refine A1 (as_ (as_ (A0 (D2 4 5) (C0 (tr ?_)))));refine ⟨_,[],[],A1s E E E,Aa _,by simp,A8N (C08 h8 hge),E,E⟩
     .
      have hltn:n8 < ts.length:=by simp at hc; omega
      refine A6 (nx (D5 6) (A1 (mv_ ?_)));refine A2 (K6 n8 E kR (A2j qO)) E ?_;refine as_ (as_ (A0 (D2 4 5) (C0 ?_)));refine ⟨_,[],[],A1s E E E,Aa _,by simp,C05 (B44 h8 h32 h84 hzz hltn),E,E⟩

def B46(ws:LN):Tm:=⟨2,[],ws,0⟩
def rdT(ts:List Tm)(ws:LN):List Tm:=match plc ws ts.length with
  | some _=>ts
  | none=>add ts (B46 ws)
def rdI(ts:List Tm)(ws:LN):Nat:=match plc ws ts.length with
  | some j=>j
  | none=>at_ ts (B46 ws)
variable{ws:LN}
theorem A5F(h:∀ x∈ws,x < 256)(hl:ws.length<=1099511627776):Tmo (B46 ws):=⟨show 2 < 256 by decide,show i64 0 by unfold i64; omega,λ i hi=>(List.not_mem_nil hi).elim,show 0<=1048576 by decide,⟨h⟩,hl⟩
variable{ts:List Tm}{j:Nat}
theorem A2x(h:plc ws ts.length=some j):rdT ts ws=ts∧rdI ts ws=j:=by unfold rdT rdI; rw [h]; exact ⟨E,E⟩
theorem A2y(h:plc ws ts.length=none):rdT ts ws=add ts (B46 ws)∧rdI ts ws=at_ ts (B46 ws):=by unfold rdT rdI; rw [h]; exact ⟨E,E⟩
theorem A8O{n:Nat}(h:plc ws n=some j):j < n∧∀ m,j < m->plc ws m=some j:=by
  unfold plc at h;split at h
  . rename_i hc;have e:=Ca h;subst e;exact ⟨hc.2.2.2,λ m hm=>B1n ⟨hc.1,hc.2.1,hc.2.2.1,hm⟩⟩
  . cases h
variable{t:Tm}
theorem B5a(h:pos ts t=none):add ts t=ts++[t]∧at_ ts t=ts.length:=by unfold add at_; rw [h]; exact ⟨E,E⟩
theorem A8P(h:pos ts t=some j):add ts t=ts∧at_ ts t=j:=by unfold add at_; rw [h]; exact ⟨E,E⟩
variable{e4:TypeId}{f4:Nat×Nat}
theorem A6V(bt bm:Nat)(ts:List Tm)(vp:Value)(ws:LN)(MT A:Mem)(hT:Tab bt bm ts MT)(hn:ts.length<=1048576)(hp:Rd A 1 vp ws.length (nums .u8 ws))(hw:∀ x∈ws,x < 256)(hl:ws.length<=1099511627776)(h4:(4,Obj.cells (nums .u64 A0B).toArray e4 f4)∈A):FnX Tryz.prog 83 [(vP bt),vp] MT A λ r M J=>J=[]∧r=.int .i64 ((rdI ts ws:Nat):Int)∧Tab bt bm (rdT ts ws) M:=by
 haveI:=hp.cel
 haveI:B256 ws:=⟨hw⟩
 refine Ck (N:=20) Tryz.func83 E E E λ w=>?_;refine A9 (D2 0 1) (A1 (as_ (A0 (D2 0 1) (A4 (A1 (mv_ (mv_ ?_)))))));refine E6 (aS E (aS E a0)) kR (A0L bt bm ts vp ws MT _ hT qS hn (hp.mono qS) hw (Az hl (by unfold maxLen; omega))) E ?_;refine mv_ ?_;refine A2 (Y8 E) E ?_;refine A2 (Y4 E) E ?_;refine as_ (as_ (A0 (D8 0 1 5 6) (A1 (mv_ (A0 (D8 0 1 5 13) ?_)))));refine C4 E ?_ ?_ <;> intro hc
 . obtain ⟨j,hj⟩:=Option.isSome_iff_exists.1 hc;obtain ⟨h1,h2⟩:=A2x hj;refine A1 (mv_ (as_ (A0 (D5 4) (C0 (tr ?_)))));exact ⟨_,MT,[],I0 E E,Ao _,by simp,E,by rw [h2,hj]; rfl,by rw [h1]; exact hT⟩
 .
  have hj:plc ws ts.length=none:=by simpa using hc
  obtain ⟨h1,h2⟩:=A2y hj;refine A6 (nx (D2 0 1) (A1 (mv_ (mv_ ?_))));refine A2 (N5 E kR (hp.mono qS)) E ?_;refine A2 (F1 (place:=λ x=>#[(0,1),(1,1),(2,1),(3,1)][x]?) (z:=[.int .u8 0,vS,.string ByteArray.empty,.int .i64 0]) (λ _=>by kernel_rfl) (eS E (eS E e0)) (bdS 0 1 E qR (bdS 2 1 E qR bd0))) E ?_;refine A3 E (D0 (Mc:=MT) (R:=_) (aS E (aS E a0)) kR qP (S9 bt bm ts (vS) (B46 ws) MT _ hT hn Rd.nil (A5F hw hl) (qS _ h4)) E ?_);rintro v19 M19 J19 ⟨rfl,rfl,hT19⟩;refine as_ (A0 (D5 4) (C0 ?_));exact ⟨_,M19,[],I0 E E,by first | exact Ao _ | simp,by simp,E,by rw [h2],by rw [h1]; exact hT19⟩
theorem U1:(rdT ts ws).length<=ts.length+1:=by
  unfold rdT;split
  . omega
  . exact A14
def srt(x y:Int):List Int:=if y < x then [y,x] else [x,y]
def two(j:Nat)(x y:Int):List Int:=if j=1 then [x,y] else [y,x]
def C1b(i:Nat)(x y:Int):List Int:=if i=1 then [x,y] else srt x y
theorem A1R{R:Mem}{b:Nat}{x y:Int}{e:TypeId}{fr:Nat×Nat}(h:(b,Obj.cells (A1J (two j x y)).toArray e fr)∈R):Rd R 1 (.slice (some ⟨b,0,none⟩) 2 2) 2 (A1J (two j x y)):=Co (n:=2) h (by unfold two; split <;> rfl)
theorem A9T(x:Int)(A:Mem):FnV Tryz.prog 200 [.int .i64 x] A (.bool false):=by refine Ck (N:=6) Tryz.func200 E E E λ w=>?_;refine A9 (D5 0) (A1 (as_ (A0 (D5 0) (A1 (mv_ (mv_ ?_))))));refine A2 (F0 (v:=.bool false) E E (by simp [I8])) E ?_;refine as_ (A0 (D5 2) (C0 ?_));refine ⟨_,[],[],I0 E E,Aa _,by simp,E,E,E⟩
theorem B1q(x y:Int)(A:Mem):FnV Tryz.prog 176 [.int .i64 x,.int .i64 y] A (.bool (decide (x < y))):=by refine Ck (N:=17) Tryz.func176 E E E λ w=>?_;refine A9 (D2 0 1) (A1 (as_ (A0 (D2 0 1) (A1 (mv_ ?_)))));refine E6 (aS E a0) kR (A9T x _) E ?_;refine mv_ ?_;refine K3 E E E E ?_;refine K3 E E E E ?_;refine K3 E E E E ?_;refine A2 (F2 E E) E ?_;refine mv_ ?_;refine F3 E E (Cn qm_ E ?_);refine F3 E E (Cn qm_ E ?_);refine F3 E E (Cn (F0 E E E) E ?_);refine A2 (F2 E E) E ?_;refine as_ (A0 (D5 4) (C0 ?_));refine ⟨_,[],[],I0 E E,Aa _,by simp,E,E,E⟩
theorem B5c(b:Nat)(x y:Int)(A:Mem):FnX Tryz.prog 170 [.slice (some ⟨b,0,none⟩) 2 2,.int .i64 0,.int .i64 2] [(b,blk (A1J ([x,y])) 3)] A λ r M J=>J=[]∧r=.tuple #[]∧M=[(b,blk (A1J (srt x y)) 3)]:=by
 refine Ck (N:=49) Tryz.func170 E E E λ w=>?_;refine A9 (D6 0 1 2) (A1 (mv_ ?_));refine A2 (K7 (a:=0) (b:=1) E E E E qO) E ?_;refine as_ (A0 (D8 0 1 2 6) (A8 ?_));refine E5 (α:=Nat) (λ i=>[(0,.slice (some ⟨b,0,none⟩) 2 2),(1,.int .i64 0),(2,.int .i64 2),(6,.int .i64 (i:Int))]) (λ i=>[(b,blk (A1J (C1b i x y)) 3)]) (λ _=>[]) (λ i=>i=1∨i=2) (λ i=>2 - i) 1 (.inl E) (D8 0 1 2 6) .rfl qI ?_;rintro i hi;refine A4 (A1 (mv_ (mv_ ?_)));refine A2 (F0 E E E) E ?_;refine A0 (E8 0 1 2 6 12) ?_;refine C4 E ?_ ?_ <;> intro hc
 .
  obtain rfl:i=1:=by simp at hc; omega
  refine A6 (nx (D8 0 1 2 6) (A4 (A8 (A1 (mv_ (as_ (A0 (E8 0 1 2 6 7) (A8 ?_))))))));refine E5 (α:=Nat) (λ j=>[(0,.slice (some ⟨b,0,none⟩) 2 2),(1,.int .i64 0),(2,.int .i64 2),(6,.int .i64 1),(7,.int .i64 (j:Int))]) (λ j=>[(b,blk (A1J (two j x y)) 3)]) (λ _=>[]) (λ j=>j=1∨(j=0∧y < x)) (λ j=>j) 1 (.inl E) (E8 0 1 2 6 7) .rfl qI ?_;rintro j hj;refine A4 ?_;refine D1 (.range 15) (zp 0 [0,0,0,0,0,0,0,1,0,0,0,0,1,2,0]) kR kR λ hs=>?_;refine fm_ hs ?_;refine fm_ hs ?_;refine C8 hs E (F0 E E E) E ?_;refine fm_ hs ?_;refine Z9 (t:=19) E (λ hb=>?_) (λ hb=>?_)
  .
   obtain rfl:j=1:=by have:=of_decide_eq_true hb; omega
   refine H9 hs E E E E qm_ E ?_;refine H9 hs E E E E qm_ E ?_;refine H9 hs E E E E (H4 (sz:=1) (a:=1) E E kR E (A1R (R:=[_]) (j:=1) (x:=x) (y:=y) (e:=3) (fr:=(0,0)) qK) qD) E ?_;refine Z0 hs E E E E (Y9 (j:=1) (u:=.int .i64 y) (A1R Cc) E kR E) E ?_;refine H9 hs E E E E qm_ E ?_;refine H9 hs E E E E qm_ E ?_;refine H9 hs E E E E (Q8 (a:=1) (b:=1) E E E E qO qO) E ?_;refine H9 hs E E E E (H4 (sz:=1) (a:=0) E E kR E (A1R (R:=[_]) (j:=1) (x:=x) (y:=y) (e:=3) (fr:=(0,0)) qK) qD) E ?_;refine Z0 hs E E E E (Y9 (j:=0) (u:=.int .i64 x) (A1R Cc) E kR E) E ?_;refine A2p E E E E (aS E (aS E a0)) kR (B1q y x _) E ?_;refine C8 hs E (G8 E E) E ?_;refine E3 (H1 0 1 2 6 7 30) ?_;refine C4 E ?_ ?_ <;> intro hc
   .
    have hyx:y < x:=by simpa using hc
    refine A6 (nx (E8 0 1 2 6 7) (A4 (A8 ?_)));refine H7 [0,1,2,3,4,5,6,7,8,9,10,11,12,13,14,16] (zp 0 [0,0,0,0,0,0,0,0,0,1,0,0,0,1,0,2,0,2]) kR kR λ hs=>?_;refine fm_ hs ?_;refine fm_ hs ?_;refine fm_ hs ?_;refine fm_ hs ?_;refine C8 hs E (Q8 (a:=1) (b:=1) E E E E qO qO) E ?_;refine fm_ hs ?_;refine fm_ hs ?_;refine C8 hs E (Q8 (a:=1) (b:=1) E E E E qO qO) E ?_;refine C8 hs E (H4 (sz:=1) (a:=0) E E kR E (A1R (R:=[_]) (j:=1) (x:=x) (y:=y) (e:=3) (fr:=(0,0)) qK) qD) E ?_;refine F9 hs E (Y9 (j:=0) (u:=.int .i64 x) (A1R Cc) E kR E) E ?_;refine fm_ hs ?_;refine fm_ hs ?_;refine C8 hs E (H4 (sz:=1) (a:=1) E E kR E (A1R (R:=[_]) (j:=1) (x:=x) (y:=y) (e:=3) (fr:=(0,0)) qK) qD) E ?_;refine F9 hs E (Y9 (j:=1) (u:=.int .i64 y) (A1R Cc) E kR E) E ?_;refine C8 hs E (H4 (sz:=1) (a:=1) E E kR E (A1R (R:=[_]) (j:=1) (x:=x) (y:=y) (e:=3) (fr:=(0,0)) qK) qD) E ?_;refine G1 E E E (E4 (show ev _ _=some (.pointer (some ⟨b,1,none⟩)) from rfl) E E kR (show SetL [.int .i64 x,.int .i64 y] 1 (.int .i64 x) [.int .i64 x,.int .i64 x] from Cq) Cs ?_);refine C8 hs E (H4 (sz:=1) (a:=0) E E kR E (A1R (R:=[_]) (j:=1) (x:=x) (y:=y) (e:=3) (fr:=(0,0)) qK) qD) E ?_;refine G1 E E E (E4 (show ev _ _=some (vP b) from rfl) E E kR (show SetL [.int .i64 x,.int .i64 x] 0 (.int .i64 y) [.int .i64 y,.int .i64 x] from Cq) Cs ?_);refine R9 (nb (nx (E8 0 1 2 6 7) (C2 (mv_ ?_))));refine A2 (Q8 (a:=1) (b:=1) E E E E qO qO) E ?_;refine as_ (C6 ?_);exact rn 0 (.inr ⟨E,hyx⟩) qD (E8 0 1 2 6 7) .rfl qI
   .
    have hyx:¬ y < x:=by simpa using hc
    refine D9 (te (re (be E (nb (nx (D8 0 1 2 6) (C2 (mv_ ?_)))))));refine A2 (K7 (a:=1) (b:=1) E E E E qO) E ?_;refine as_ (C6 ?_);exact rn 2 (.inr E) qD (D8 0 1 2 6) (by rw [show C1b 2 x y=[x,y] by unfold C1b srt; simp [hyx]]; exact .rfl) qI
  .
   obtain ⟨rfl,hyx⟩:j=0∧y < x:=by have:=of_decide_eq_false hb; omega
   refine L2 hs ?_;refine L2 hs ?_;refine L2 hs ?_;refine W1 hs ?_;refine L2 hs ?_;refine L2 hs ?_;refine L2 hs ?_;refine L2 hs ?_;refine W1 hs ?_;refine A6E hs E E E E E E ?_;refine C8 hs E (F2 E E) E ?_;refine E3 (H1 0 1 2 6 7 30) ?_;refine C9 E ?_;refine D9 (te (re (be E (nb (nx (D8 0 1 2 6) (C2 (mv_ ?_)))))));refine A2 (K7 (a:=1) (b:=1) E E E E qO) E ?_;refine as_ (C6 ?_);exact rn 2 (.inr E) qD (D8 0 1 2 6) (by rw [show C1b 2 x y=[y,x] by unfold C1b srt; simp [hyx]]; exact .rfl) qI
 .
  obtain rfl:i=2:=by simp at hc; omega
  refine D9 (te (re (be E ?_)));exact ⟨_,_,[],A8p E,Ao _,by simp,E,E,E⟩
theorem B5d(b:Nat)(x y n:Int)(A:Mem):FnX Tryz.prog 150 [.slice (some ⟨b,0,none⟩) 2 2,.int .i64 0,.int .i64 2,.int .i64 n] [(b,blk (A1J ([x,y])) 3)] A λ r M J=>J=[]∧r=.tuple #[]∧M=[(b,blk (A1J (srt x y)) 3)]:=by
 refine Ck (N:=134) Tryz.func150 E E E λ w=>?_;refine A9 (D8 0 1 2 3) (A1 (as_ (A0 (E8 0 1 2 3 8) (A1 (as_ (A0 (H1 0 1 2 3 8 9) (A8 ?_)))))));refine E5 (α:=Unit) (λ _=>[(0,.slice (some ⟨b,0,none⟩) 2 2),(1,.int .i64 0),(2,.int .i64 2),(3,.int .i64 n),(8,.bool true),(9,.bool true)]) (λ _=>[(b,blk (A1J ([x,y])) 3)]) (λ _=>[]) (λ _=>True) (λ _=>0) () trivial (H1 0 1 2 3 8 9) .rfl qI ?_;rintro _ _;refine A8 (A1 (mv_ (mv_ ?_)));refine A2 (Q8 (a:=2) (b:=0) E E E E qO qO) E ?_;refine as_ (A0 (N9 0 1 2 3 8 9 10) (A4 (A1 (mv_ ?_))));refine A2 (F0 (v:=.bool true) E E qR) E ?_;refine A0 (W4 0 1 2 3 8 9 10 23) ?_;refine C4 E ?_ ?_ <;> intro hc
 . refine A1 (mv_ (mv_ (mv_ ?_)));refine A3 E (D0 (Mc:=[(b,blk (A1J ([x,y])) 3)]) (R:=[]) (aS E (aS E (aS E a0))) kR (.refl _) (B5c b x y _) E ?_);rintro v27 M27 J27 ⟨rfl,rfl,rfl⟩;refine A0 kn (C0 (tr (br (rr (br ?_)))));exact ⟨_,_,[],A8p E,by first | exact Ao _ | simp,by simp,E,E,by first | rfl | simp⟩
 . exact absurd hc qD
theorem B5e(x:Nat)(hx:x < 18446744073709551616)(A:Mem):FnX Tryz.prog 151 [.int .u64 (x:Int)] [] A λ r M J=>M=[]∧J=[]∧∃ n:Int,r=.int .i64 n:=by
 refine Ck (N:=8) Tryz.func151 E E E λ w=>?_;refine A9 (D5 0) (A1 (as_ (A0 (D5 0) (A4 ?_))));refine C4 E ?_ ?_ <;> intro hc
 . exact absurd hc qD
 . refine A6 (nx (D5 0) (A1 (mv_ ?_)));refine C7 (aS E a0) kR (A4V x hx _) E ?_;rintro v7 M7 J7 ⟨rfl,rfl,n7,rfl,-⟩;refine as_ (A0 (D5 2) (C0 ?_));exact ⟨_,[],[],I0 E E,by first | exact Ao _ | simp,by simp,E,E,_,E⟩
theorem B1r(b:Nat)(x y:Int)(A:Mem):FnX Tryz.prog 114 [.slice (some ⟨b,0,none⟩) 2 2] [(b,blk (A1J ([x,y])) 3)] A λ r M J=>J=[]∧r=.tuple #[]∧M=[(b,blk (A1J (srt x y)) 3)]:=by refine Ck (N:=11) Tryz.func114 E E E λ w=>?_;refine A9 (D5 0) (A1 (mv_ ?_));refine A2 (A0Z (e:=3) E kR) E ?_;refine as_ (A0 (D2 0 2) (C2 (mv_ (mv_ (mv_ ?_)))));refine A2 (K6 (k':=.u64) 2 E kR qR) E ?_;refine C7 (aS E a0) kR (B5e 2 qD _) E ?_;rintro v9 M9 J9 ⟨rfl,rfl,n9,rfl⟩;refine A3 E (D0 (Mc:=[(b,blk (A1J ([x,y])) 3)]) (R:=[]) (aS E (aS E (aS E (aS E a0)))) kR (.refl _) (B5d b x y _ _) E ?_);rintro v10 M10 J10 ⟨rfl,rfl,rfl⟩;refine C6 ?_;exact ⟨_,_,[],A8p E,by first | exact Ao _ | simp,by simp,E,E,by first | rfl | simp⟩
def agT(ts:List Tm)(s o:Int):Tm:=if 0<=o then match ts[o.toNat]? with
  | some t=>if t.kind=3∧t.of.length=1 then ⟨4,srt s (t.of.getD 0 0),[],0⟩ else ⟨4,[s,o],[],1⟩
  | none=>⟨4,[s,o],[],1⟩ else ⟨4,[s,o],[],1⟩
variable{s o:Int}
theorem C1c(h:¬ (0<=o∧o < (ts.length:Int))):agT ts s o=⟨4,[s,o],[],1⟩:=by
  unfold agT;by_cases h0:0<=o
  . rw [if_pos h0,List.getElem?_eq_none qO]
  . rw [if_neg h0]
theorem B7l(h0:0<=o)(h:ts[o.toNat]? = some t)(hk:¬ (t.kind=3∧t.of.length=1)):agT ts s o=⟨4,[s,o],[],1⟩:=by unfold agT;rw [if_pos h0,h];exact if_neg hk
theorem B8G(h0:0<=o)(h:ts[o.toNat]? = some t)(hk:t.kind=3∧t.of.length=1):agT ts s o=⟨4,srt s (t.of.getD 0 0),[],0⟩:=by unfold agT;rw [if_pos h0,h];exact if_pos hk
theorem A2z{A:Mem}{i:Int}{c:List Value}{ok:Bool}(hts:∀ t∈ts,Tmo t)(h1:(0<=i∧i < (ts.length:Int))->ok=true∧∃ t,ts[i.toNat]? = some t∧TmC A c t)(h2:¬ (0<=i∧i < (ts.length:Int))->ok=false∧c=tmc 0 (vS) [] 0) :
    ∃ (vo:Value) (t:Tm),c=tmc t.kind vo t.text t.n∧Rd A 1 vo t.of.length (A1J t.of)∧(∀ z∈t.of,i64 z)∧t.kind < 256∧(ok=true->0<=i∧ts[i.toNat]? = some t)∧(ok=false->¬ (0<=i∧i < (ts.length:Int))):=by
  by_cases h:0<=i∧i < (ts.length:Int)
  . obtain ⟨e,t,ht,vo,hc,hr⟩:=h1 h;have hto:=hts t (As ht);exact ⟨vo,t,hc,hr,hto.of,hto.kind,λ _=>⟨h.1,ht⟩,λ e'=>by rw [e] at e'; cases e'⟩
  . obtain ⟨e,hc⟩:=h2 h;exact ⟨vS,⟨0,[],[],0⟩,hc,Rd.nil,(λ z hz=>by cases hz),by decide,(λ e'=>by rw [e] at e'; cases e'),λ _=>h⟩
theorem A2U(x y:Int):(srt x y).length=2:=by unfold srt; split <;> rfl
theorem B8H{x y z:Int}(h:z∈srt x y):z=x∨z=y:=by unfold srt at h;split at h <;> simp at h <;> omega
theorem B5f{s o n:Int}{l:List Int}(hl:l.length=2)(h:∀ z∈l,i64 z)(hn:n=0∨n=1):Tmo ⟨4,l,[],n⟩:=⟨show 4 < 256 by decide,show i64 n by unfold i64; omega,h,show l.length<=1048576 by omega,⟨λ x hx=>(List.not_mem_nil hx).elim⟩,show 0<=1099511627776 by decide⟩
theorem A9U(bt bm:Nat)(ts:List Tm)(s o:Int)(MT A:Mem)(hT:Tab bt bm ts MT)(hn:ts.length<=1048576)(hs:i64 s)(ho:i64 o)(h4:(4,Obj.cells (nums .u64 A0B).toArray e4 f4)∈A):FnX Tryz.prog 74 [(vP bt),.int .i64 s,.int .i64 o] MT A λ r M J=>J=[]∧r=.int .i64 ((at_ ts (agT ts s o):Nat):Int)∧Tab bt bm (add ts (agT ts s o)) M:=by
 have hnT:=hT;obtain ⟨_,_,_,_,_,_,_,_,_,_,_,hts,hnd⟩:=hnT;refine Ck (N:=46) Tryz.func74 E E E λ w=>?_;refine A9 (D6 0 1 2) (A1 (as_ (A0 (D6 0 1 2) (A4 (A1 (mv_ (mv_ ?_)))))));refine C7 (aS E (aS E a0)) kR (A2w bt bm ts o MT _ hT qS) E ?_;rintro v13 M13 J13 ⟨rfl,rfl,c13,ok13,rfl,hg1,hg2⟩;obtain ⟨vo,t,rfl,hvo,hz,htk,hok,hno⟩:=A2z hts hg1 hg2;haveI:=hvo.cel;refine mv_ ?_;refine A2 (Y8 E) E ?_;refine A2 (Y4 E) E ?_;refine A3 E (C3 (cs:=[.int .u8 0,vS,.string ByteArray.empty,.int .i64 0]) kR E λ b7=>?_);refine A3 E (A7 E E E kR qR (by intro c hc; simp only [List.mem_cons,List.not_mem_nil,or_false] at hc; rcases hc with rfl | rfl | rfl | rfl <;> first | rfl | exact hvo.one) Cs ?_);refine as_ (A0 (E8 0 1 2 7 8) (A1 (mv_ (mv_ ?_))));refine X3 (t:=17) E (λ hb=>?_) (λ hb=>?_)
 .
  obtain ⟨h0,hget⟩:=hok hb;refine F3 E E (Cn (qf_ 0 0) E ?_);refine F3 E E (Cn ql_ E ?_);refine F3 E E (Cn (F0 E E E) E ?_);refine A2 (G8 E E) E ?_;refine mv_ ?_;refine X3 (t:=22) E (λ hb=>?_) (λ hb=>?_)
  .
   have hk3:t.kind=3:=by simp at hb; omega
   refine F3 E E (Cn (qf_ 1 1) E ?_);refine F3 E E (Cn ql_ E ?_);refine F3 E E (Cn (G6 (sz:=1) E kR hvo) E ?_);refine F3 E E (Cn (F0 E E E) E ?_);refine A2 (G8 E E) E ?_;refine A0 (E8 0 1 2 7 27) ?_;refine C4 E ?_ ?_ <;> intro hc
   .
    have h1:t.of.length=1:=by simp at hc; omega
    have hag:=B8G (s:=s) h0 hget ⟨hk3,h1⟩;have hz0:i64 (t.of.getD 0 0):=hz _ (by rw [Aj,Ab qO]; exact List.getElem_mem _);generalize hzz:t.of.getD 0 0=z0 at *;refine A1 (mv_ ?_);refine A2 (qf_ 1 1) E ?_;refine A2 ql_ E ?_;refine A2 (H4 (sz:=1) (a:=0) E E kR E hvo qO) E ?_;refine A2 (Y9 (j:=0) (u:=.int .i64 z0) (hvo.mono qS) E kR (by rw [<- hzz,Aj,A1J,List.getElem?_map,Ab qO]; rfl)) E ?_;refine A3 E (C5 (e:=3) (sz:=1) (z:=[.int .i64 0,.int .i64 0]) kR (eS E (eS E e0)) (bdS 0 1 E qR (bdS 1 1 E qR bd0)) E λ b33=>?_);refine as_ (A0 (D2 0 9) (A1 (mv_ ?_)));refine A3 E (D0 (Mc:=[(b33,blk [.int .i64 s,.int .i64 z0] 3)]) (R:=_) (aS E a0) kR qP (B1r b33 s z0 _) E ?_);rintro v35 M35 J35 ⟨rfl,rfl,rfl⟩;refine A0 (D2 0 9) (A1 (mv_ (mv_ ?_)));refine A2 (F1 (place:=λ x=>#[(0,1),(1,1),(2,1),(3,1)][x]?) (z:=[.int .u8 0,vS,.string ByteArray.empty,.int .i64 0]) (λ _=>by kernel_rfl) (eS E (eS E e0)) (bdS 0 1 E qR (bdS 1 1 E qR bd0))) E ?_;refine A3 E (D0 (Mc:=MT) (R:=_) (aS E (aS E a0)) kR qP (S9 bt bm ts _ ⟨4,srt s z0,[],0⟩ MT _ hT hn (by rw [A2U]; exact (Co (n:=2) Cc (by first | rfl | exact (A3w _).trans (A2U _ _)))) (B5f (s:=s) (o:=o) (A2U _ _) (λ q hq=>(B8H hq).elim (λ e=>e▸hs) (λ e=>e▸hz0)) (.inl E)) (qS _ h4)) E ?_);rintro v39 M39 J39 ⟨rfl,rfl,hT39⟩;refine as_ (A0 (D5 6) (C0 (tr ?_)));exact ⟨_,M39,[],I0 E E,by first | exact Ao _ | simp,by simp,E,by rw [hag],by rw [hag]; exact hT39⟩
   . have hag:=B7l (s:=s) h0 hget (λ h=>by have:=h.2; simp at hc; omega);refine A6 (nx (D6 0 1 2) (A1 (mv_ (mv_ (mv_ ?_)))));refine A3 E (C5 (e:=3) (sz:=1) (z:=[.int .i64 0,.int .i64 0]) kR (eS E (eS E e0)) (bdS 0 1 E qR (bdS 1 1 E qR bd0)) E λ b43=>?_);refine A2 (F1 (place:=λ x=>#[(0,1),(1,1),(2,1),(3,1)][x]?) (z:=[.int .u8 0,vS,.string ByteArray.empty,.int .i64 0]) (λ _=>by kernel_rfl) (eS E (eS E (eS E e0))) (bdS 0 1 E qR (bdS 1 1 E qR (bdS 3 1 E qR bd0)))) E ?_;refine A3 E (D0 (Mc:=MT) (R:=_) (aS E (aS E a0)) kR qP (S9 bt bm ts _ ⟨4,[s,o],[],1⟩ MT _ hT hn (Co (n:=2) Cc (by first | rfl | exact (A3w _).trans (A2U _ _))) (B5f (s:=s) (o:=o) E (λ q hq=>by simp at hq; rcases hq with rfl | rfl <;> assumption) (.inr E)) (qS _ h4)) E ?_);rintro v45 M45 J45 ⟨rfl,rfl,hT45⟩;refine as_ (A0 (D5 6) (C0 ?_));exact ⟨_,M45,[],I0 E E,by first | exact Ao _ | simp,by simp,E,by rw [hag],by rw [hag]; exact hT45⟩
  . have hag:=B7l (s:=s) h0 hget (λ h=>by have:=h.1; simp at hb; omega);refine K3 E E E E ?_;refine K3 E E E E ?_;refine K3 E E E E ?_;refine K3 E E E E ?_;refine A2 (F2 E E) E ?_;refine A0 (E8 0 1 2 7 27) ?_;refine C9 E ?_;refine A6 (nx (D6 0 1 2) (A1 (mv_ (mv_ (mv_ ?_)))));refine A3 E (C5 (e:=3) (sz:=1) (z:=[.int .i64 0,.int .i64 0]) kR (eS E (eS E e0)) (bdS 0 1 E qR (bdS 1 1 E qR bd0)) E λ b43=>?_);refine A2 (F1 (place:=λ x=>#[(0,1),(1,1),(2,1),(3,1)][x]?) (z:=[.int .u8 0,vS,.string ByteArray.empty,.int .i64 0]) (λ _=>by kernel_rfl) (eS E (eS E (eS E e0))) (bdS 0 1 E qR (bdS 1 1 E qR (bdS 3 1 E qR bd0)))) E ?_;refine A3 E (D0 (Mc:=MT) (R:=_) (aS E (aS E a0)) kR qP (S9 bt bm ts _ ⟨4,[s,o],[],1⟩ MT _ hT hn (Co (n:=2) Cc (by first | rfl | exact (A3w _).trans (A2U _ _))) (B5f (s:=s) (o:=o) E (λ q hq=>by simp at hq; rcases hq with rfl | rfl <;> assumption) (.inr E)) (qS _ h4)) E ?_);rintro v45 M45 J45 ⟨rfl,rfl,hT45⟩;refine as_ (A0 (D5 6) (C0 ?_));exact ⟨_,M45,[],I0 E E,by first | exact Ao _ | simp,by simp,E,by rw [hag],by rw [hag]; exact hT45⟩
 . have hag:=C1c (s:=s) (hno hb);refine K3 E E E E ?_;refine K3 E E E E ?_;refine K3 E E E E ?_;refine A2 (F2 E E) E ?_;refine mv_ ?_;refine K3 E E E E ?_;refine K3 E E E E ?_;refine K3 E E E E ?_;refine K3 E E E E ?_;refine A2 (F2 E E) E ?_;refine A0 (E8 0 1 2 7 27) ?_;refine C9 E ?_;refine A6 (nx (D6 0 1 2) (A1 (mv_ (mv_ (mv_ ?_)))));refine A3 E (C5 (e:=3) (sz:=1) (z:=[.int .i64 0,.int .i64 0]) kR (eS E (eS E e0)) (bdS 0 1 E qR (bdS 1 1 E qR bd0)) E λ b43=>?_);refine A2 (F1 (place:=λ x=>#[(0,1),(1,1),(2,1),(3,1)][x]?) (z:=[.int .u8 0,vS,.string ByteArray.empty,.int .i64 0]) (λ _=>by kernel_rfl) (eS E (eS E (eS E e0))) (bdS 0 1 E qR (bdS 1 1 E qR (bdS 3 1 E qR bd0)))) E ?_;refine A3 E (D0 (Mc:=MT) (R:=_) (aS E (aS E a0)) kR qP (S9 bt bm ts _ ⟨4,[s,o],[],1⟩ MT _ hT hn (Co (n:=2) Cc (by first | rfl | exact (A3w _).trans (A2U _ _))) (B5f (s:=s) (o:=o) E (λ q hq=>by simp at hq; rcases hq with rfl | rfl <;> assumption) (.inr E)) (qS _ h4)) E ?_);rintro v45 M45 J45 ⟨rfl,rfl,hT45⟩;refine as_ (A0 (D5 6) (C0 ?_));exact ⟨_,M45,[],I0 E E,by first | exact Ao _ | simp,by simp,E,by rw [hag],by rw [hag]; exact hT45⟩

end Go.Proofs.YtjkpfgjfpbihaaaGreatDoor
