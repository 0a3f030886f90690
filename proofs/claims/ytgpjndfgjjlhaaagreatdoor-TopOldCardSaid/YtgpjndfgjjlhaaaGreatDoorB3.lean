/- Part 3 of the texts of this claim, one behind the other. -/
import Derived.Test.YtgpjndfgjjlhaaaGreatDoorB2
import Derived.Laws.Externs
import Derived.Lib.ConvBytes
import Derived.Test.YtgpjndfgjjlhaaaGreatDoorRows
import Derived.MapKept
set_option linter.unusedVariables false
set_option linter.unusedSimpArgs false
set_option maxRecDepth 100000
open Go.Proofs.Tryz
namespace Go.Px
structure Gm where
  i:Nat
  d:Nat
  φ:Value->Mem->Prop
def A3V(G:List Gm)(vs:Nat->Value):Env:=G.map λg=>(g.d,vs g.i)
def enc:List Nat->List (Nat×Nat)
  | []=>[]
  | [i]=>[(i,4)]
  | i::j::r=>(i,3)::enc (j::r)
inductive GOk(ops:Array Oper):Array Bool->List Nat->Array Bool->Prop
  | nil {A:Array Bool}:GOk ops A [] A
  | cons {A B:Array Bool} {i:Nat} {r:List Nat} (hr:i∈Region.ready .any ops A) (ho:∀j,j<ops.size->A.getD j true=false->j∉i::r->anc ops ops.size j i=true) (h:GOk ops (A.setIfInBounds i true) r B):GOk ops A (i::r) B
theorem B9S(i:Nat)(r:List Nat)(plan:List (Nat×Nat)):grp (enc (i::r)++plan)=i::r:=by
  induction r generalizing i with
  | nil=>rfl
  | cons j r ih=>simp only [enc,Cy,grp];rw [ih j]
theorem A9w{ops:Array Oper}{nd:List Nat}{plan:List (Nat×Nat)}:∀ {is:List Nat} {A:Array Bool},K8 ops nd (enc is++plan) A=true->∃B,GOk ops A is B∧K8 ops nd plan B=true
  | [],A,h=>⟨A,.nil,h⟩
  | [i],A,h=>by
    simp only [enc,Cy,Cw,K8,A8w,Bool.and_eq_true,List.all_eq_true,List.mem_range,Bool.or_eq_true] at h;refine ⟨_,.cons (by simpa using h.1.1) (λj hj hu hn=>?_) .nil,h.2⟩;rcases h.1.2 j hj with (h1|h1)|h1
    . rw [hu] at h1;cases h1
    . exact absurd (by simpa using h1) hn
    . exact h1
  | i::j::r,A,h=>by
    simp only [enc,Cy,K8,A8w,Bool.and_eq_true,List.all_eq_true,List.mem_range,Bool.or_eq_true,B9S] at h;obtain ⟨B,hB,hp⟩:=A9w (is:=j::r) h.2;refine ⟨B,.cons (by simpa using h.1.1) (λj hj hu hn=>?_) hB,hp⟩;rcases h.1.2 j hj with (h1|h1)|h1
    . rw [hu] at h1;cases h1
    . exact absurd (by simpa using h1) hn
    . exact h1
def mark(A:Array Bool)(X:List Nat):Array Bool:=X.foldl (λB i=>B.setIfInBounds i true) A
theorem A2L(X:List Nat):∀(A:Array Bool) (j:Nat),(mark A X)[j]? = if j∈X∧j<A.size then some true else A[j]?:=by
  induction X with
  | nil=>intro A j;simp [mark]
  | cons i X ih =>
    intro A j;have:=ih (A.setIfInBounds i true) j;simp only [mark,List.foldl_cons] at this ⊢;rw [this];simp only [Array.size_setIfInBounds,Cz];by_cases h1:j<A.size
    . by_cases h2:j∈X
      . simp [h1,h2]
      . by_cases h3:i=j
        . subst h3;simp [h1,h2]
        . have h3':j≠i:=λh=>h3 h.symm;simp [h1,h2,h3,h3',Array.getElem?_setIfInBounds]
    . simp [h1]
theorem U2(A:Array Bool)(X:List Nat)(i:Nat):mark A (X++[i])=(mark A X).setIfInBounds i true:=by simp [mark]
variable{A:Array Bool}{X Y:List Nat}
theorem A6m(h:∀j,j∈X↔j∈Y):mark A X=mark A Y:=by apply Array.ext_getElem?;intro j;rw [A2L,A2L];simp only [h]
variable{j:Nat}
theorem I4:(mark A X).getD j true=false↔(A.getD j true=false∧¬(j∈X∧j<A.size)):=by
  have:=A2L X A j;simp only [Array.getD_eq_getD_getElem?,this];split
  . simp_all
  . simp_all
theorem A0w(h:(mark A X).getD j false=true):A.getD j false=true∨j∈X:=by
  have:=A2L X A j;simp only [Array.getD_eq_getD_getElem?,this] at h ⊢;split at h
  . rename_i hh;exact .inr hh.1
  . exact .inl h
theorem GOk.mark{ops:Array Oper}{A B:Array Bool}{is:List Nat}(h:GOk ops A is B):B=mark A is:=by
  induction h with
  | nil=>rfl
  | cons _ _ _ ih=>rw [ih];rfl
variable{ops:Array Oper}{i:Nat}
theorem L1(h:i∈Region.ready .any ops A):A.getD i true=false:=(mem_ready.1 h).1
theorem A32(h:i∈Region.ready .any ops A):i<ops.size:=by obtain ⟨_,oj,hoj,_⟩:=mem_ready.1 h;exact (Array.getElem?_eq_some_iff.1 hoj).1
variable{B:Array Bool}{is:List Nat}
theorem GOk.outer(h:GOk ops A is B):∀i∈is,∀j,j<ops.size->A.getD j true=false->j∉is->anc ops ops.size j i=true:=by
  induction h with
  | nil=>intro i hi;cases hi
  | @cons A B i r hr ho h ih =>
    intro k hk j hj hu hn;rcases List.mem_cons.1 hk with rfl|hk
    . exact ho j hj hu hn
    . have hne:i≠j:=λe=>hn (e▸Ax);exact ih k hk j hj (by rw [getD_set_ne true hne];exact hu) (λhm=>hn (Bb _ hm))
variable{A':Array Bool}
theorem A5C(hr:i∈Region.ready .any ops A)(hu:A'.getD i true=false)(hm:∀j,A.getD j false=true->A'.getD j false=true):i∈Region.ready .any ops A':=by obtain ⟨h1,oj,hoj,hall⟩:=mem_ready.1 hr;exact mem_ready.2 ⟨hu,oj,hoj,λe he hb=>hm _ (hall e he hb)⟩
theorem Y9(h:A.getD i true=false):i<A.size:=by
  rcases Nat.lt_or_ge i A.size with h1|h1
  . exact h1
  . simp [Array.getElem?_eq_none h1] at h
theorem GOk.first(h:GOk ops A is B)(hsz:A'.size=A.size)(hm:∀j,A.getD j false=true->A'.getD j false=true){k:Nat}(hk:k∈is)(hk':A'.getD k true=false):∃i,i∈Region.ready .any ops A':=by
  induction h generalizing k with
  | nil=>cases hk
  | @cons A B i r hr ho h ih =>
    by_cases hi:A'.getD i true=false
    . exact ⟨i,A5C hr hi hm⟩
    . rcases List.mem_cons.1 hk with rfl|hk
      . exact absurd hk' hi
      . refine ih (by simpa using hsz) (λj hj=>?_) hk hk';by_cases e:i=j
        . subst e;have hlt:=Y9 (L1 hr);have hlt':i<A'.size:=by omega
          simp [hlt'] at hi ⊢;exact hi
        . rw [getD_set_ne false e] at hj;exact hm j hj
theorem A1y(A:Array Bool)(X:List Nat):(mark A X).size=A.size:=by
  induction X generalizing A with
  | nil=>rfl
  | cons i X ih=>simp only [mark,List.foldl_cons] at ih ⊢;rw [ih];simp
theorem A1z(h:A.getD j false=true):(mark A X).getD j false=true:=by
  have:=A2L X A j;simp only [Array.getD_eq_getD_getElem?,this] at h ⊢;split
  . rfl
  . exact h
theorem St.freezeAll{C:Cx}{M J:Mem}{w:World}:∀ {B:Mem},St C (B++M) J w->St C M (B++J) w
  | [],h=>h
  | x::B,h=>by
    have h1:=St.freezeAll (B:=B) (h.freeze)
    exact h1.drop (Ao _) λy hy=>by simp only [Cy,Cz,List.mem_append] at hy ⊢;rcases hy with hy|hy|hy<;>simp [hy]
theorem A2M:∀ {Y:List Nat},X.Nodup->(∀x∈X,x∈Y)->X.length<=Y.length:=by
  induction X with
  | nil=>intros;simp
  | cons x X ih =>
    intro Y hn hs;simp only [List.nodup_cons] at hn;have h1:=ih (Y:=Y.erase x) hn.2 λz hz=>(List.mem_erase_of_ne (λe=>hn.1 (by rw [<- e];exact hz))).2 (hs z (Bb _ hz));have h2:=List.length_erase_of_mem (hs x Ax);have h3:0<Y.length:=List.length_pos_of_mem (hs x Ax);simp only [List.length_cons];omega
theorem A2N(hn:X.Nodup)(hs:∀x∈X,x∈Y)(hl:Y.length<=X.length):∀y∈Y,y∈X:=by
  intro y hy;apply Classical.byContradiction;intro hno
  have:=A2M (X:=y::X) (Y:=Y) (List.nodup_cons.2 ⟨hno,hn⟩) (λz hz=>by
    rcases List.mem_cons.1 hz with rfl|hz
    . exact hy
    . exact hs z hz)
  simp at this;omega
variable{G:List Gm}{g:Gm}
theorem B8x(h:(G.map (·.i)).Nodup){g':Gm}(hg:g∈G)(hg':g'∈G)(e:g.i=g'.i):g=g':=by
  induction G with
  | nil=>cases hg
  | cons x G ih =>
    simp only [List.map_cons,List.nodup_cons] at h;rcases List.mem_cons.1 hg with h1|h1<;>rcases List.mem_cons.1 hg' with h2|h2
    . rw [h1,h2]
    . exact absurd (by rw [<- h1,e];exact Al (f:=Gm.i) h2) h.1
    . exact absurd (by rw [<- h2,<- e];exact Al (f:=Gm.i) h1) h.1
    . exact ih h.2 h1 h2
theorem A2O{N:Nat}{l:Env}{vs:Nat->Value}{a:Act}(hg:g∈G)(hd:(G.map (·.d)).Nodup)(hi:(G.map (·.i)).Nodup){v:Value}(h:Ag N ((g.d,v)::(A3V G vs++l)) a) :
    Ag N (A3V G (λk=>if k=g.i then v else vs k)++l) a:=by
  refine h.sub ?_
  have key:∀(G:List Gm),g∈G->(G.map (·.d)).Nodup->(G.map (·.i)).Nodup->∀k u,lk (A3V G (λk=>if k=g.i then v else vs k)++l) k=some u->lk ((g.d,v)::(A3V G vs++l)) k=some u:=by
    intro G
    have step:∀(G:List Gm),(∀x∈G,x.i≠g.i)->A3V G (λk=>if k=g.i then v else vs k)=A3V G vs:=by intro G hG;exact Bv λx hx=>by simp [hG x hx]
    induction G with
    | nil=>intro h;cases h
    | cons x G ih =>
      intro hm hd hi k u hk;simp only [List.map_cons,List.nodup_cons] at hd hi;rcases List.mem_cons.1 hm with rfl|hm
      . have e:=step G λx hx e=>hi.1 (e▸Al (f:=Gm.i) hx);simp only [A3V,List.map_cons,Cy,lk] at hk ⊢;by_cases h1:g.d=k
        . subst h1;simpa using hk
        . simp only [A0p h1,cond_false] at hk ⊢;rw [show List.map (λg_1=>(g_1.d,if g_1.i=g.i then v else vs g_1.i)) G=A3V G vs from e] at hk;exact hk
      . have hne:x.i≠g.i:=λe=>hi.1 (e▸Al (f:=Gm.i) hm);have hned:x.d≠g.d:=λe=>hd.1 (e▸Al (f:=Gm.d) hm);simp only [A3V,List.map_cons,Cy,lk,hne,if_false] at hk ⊢;by_cases h1:g.d=k
        . subst h1;simp only [A0p hned,cond_false] at hk;have:=ih hm hd.2 hi.2 g.d u hk;simp only [lk] at this ⊢;simpa using this
        . simp only [A0p h1,cond_false];by_cases h2:x.d=k
          . subst h2;simpa using hk
          . simp only [A0p h2,cond_false] at hk ⊢;have:=ih hm hd.2 hi.2 k u hk;simp only [lk,A0p h1,cond_false] at this;exact this
  exact key G hg hd hi
section group
variable{C:Cx}{Q:XQ}{l:Env}{M J:Mem}{os:List Oper}{K:Nat->Prop}{n0:Nat}{nd:List Nat}{plan:List (Nat×Nat)}
def B6x(os:List Oper)(l:Env)(o:Oper):Prop:=o.guard=none∨∃j t b oj,o.guard=some (j,b)∧nth os j=some oj∧oj.dst=some t∧lk l t=some (.bool b)
theorem B6x.wanted{o:Oper}(h:B6x os l o){a:Act}(ha:Ag C.N l a):Region.wanted o (yielded os.toArray a.tmps)=true:=by
  rcases h with h|⟨j,t,b,oj,h1,h2,h3,h4⟩
  . simp [Region.wanted,h]
  . have hj':os.toArray[j]? = some oj:=by rw [W8] at h2;simpa using h2
    simp only [Region.wanted,h1,yielded,hj',Option.bind_some,h3,ha.slot _ _ h4];simp
def C4E(C:Cx)(os:List Oper)(l:Env)(M J:Mem)(G:List Gm)(g:Gm):Prop :=
  ∃o,nth os g.i=some o∧∀(vs:Nat->Value) (R:Mem) (w:World),(∀x∈M++(J++C.A),x∈R)->(∀g'∈G,anc os.toArray os.toArray.size g.i g'.i=true->g'.φ (vs g'.i) R) ->
    B6x os (A3V G vs++l) o∧OpL ⟨C.P,w,[],R,C.N⟩ o (A3V G vs++l) [] [] (λl' M' J'=>∃v,l'=(g.d,v)::(A3V G vs++l)∧g.φ v (M'++(J'++R)))
def B6y(φ:Value->Mem->Prop):Prop:=∀v R R',(∀x∈R,x∈R')->φ v R->φ v R'
theorem B6z(hmono:∀g∈G,B6y g.φ)(hd:(G.map (·.d)).Nodup)(hi:(G.map (·.i)).Nodup)(hdN:∀g∈G,g.d<C.N)(hob:∀g∈G,C4E C os l M J G g)(hok:GOk os.toArray A (G.map (·.i)) B)
    (hfin:∀(vs:Nat->Value) Jn a w,(∀g∈G,g.φ (vs g.i) (M++((Jn++J)++C.A)))->Ag C.N (A3V G vs++l) a->St C M (Jn++J) w->n0<=w.heap.size->A0K C.P os.toArray (T5 (A8n C Q)) (Sk K) nd.contains plan.length B a w) :
    ∀(n:Nat) (X:List Nat) (vs:Nat->Value) (Jn:Mem) (a:Act) (w:World),X.Nodup->(∀i∈X,i∈G.map (·.i))->n+X.length=G.length->R6 os.toArray (mark A X) ->
      (∀g∈G,g.i∈X->g.φ (vs g.i) (M++((Jn++J)++C.A)))->Ag C.N (A3V G vs++l) a->St C M (Jn++J) w->n0<=w.heap.size ->
      A0K C.P os.toArray (T5 (A8n C Q)) (Sk K) nd.contains (n+plan.length) (mark A X) a w:=by
  intro n
  induction n with
  | zero =>
    intro X vs Jn a w hnd hX hlen hcl hφ ha hw hn
    have hall:∀i,i∈X↔i∈G.map (·.i):=λi=>⟨hX i,A2N hnd hX (by simp;omega) i⟩
    rw [Nat.zero_add,A6m hall,<- hok.mark];exact hfin vs Jn a w (λg hg=>hφ g hg ((hall _).2 (Al (f:=Gm.i) hg))) ha hw hn
  | succ n ih =>
    intro X vs Jn a w hnd hX hlen hcl hφ ha hw hn
    have hmiss:∃k∈G.map (·.i),k∉X:=by apply Classical.byContradiction;intro hno;have hs:∀k∈G.map (·.i),k∈X:=λk hk=>Classical.byContradiction λh=>hno ⟨k,hk,h⟩;have:=A2M hi hs;simp at this;omega
    obtain ⟨k,hkG,hkX⟩:=hmiss
    have hun:∀i∈G.map (·.i),A.getD i true=false:=by
      have:∀ {is A B},GOk os.toArray A is B->∀i∈is,A.getD i true=false:=by
        intro is A B h
        induction h with
        | nil=>intro i hi;cases hi
        | @cons A B i r hr ho h ih =>
          intro k hk;rcases List.mem_cons.1 hk with rfl|hk
          . exact L1 hr
          . have h2:=ih k hk;by_cases e:i=k
            . subst e;exact L1 hr
            . rwa [getD_set_ne true e] at h2
      exact this hok
    have hkun:(mark A X).getD k true=false:=I4.2 ⟨hun k hkG,λh=>hkX h.1⟩;rw [show n+1+plan.length=(n+plan.length)+1 by omega];refine ⟨λh0=>?_,λi hir=>?_⟩
    . obtain ⟨i,hir⟩:=hok.first (A1y A X) (λj hj=>A1z hj) hkG hkun;rw [h0] at hir;cases hir
    . have hiG:i∈G.map (·.i):=by apply Classical.byContradiction;intro hno;have h1:=I4.1 (L1 hir);have h2:=hok.outer k hkG i (A32 hir) h1.1 hno;exact U5 hkun (R7 hcl h2 hir)
      obtain ⟨g,hg,rfl⟩:=List.mem_map.1 hiG;have hiX:g.i∉X:=λh=>(I4.1 (L1 hir)).2 ⟨h,Y9 (hun _ hiG)⟩;obtain ⟨o,hget,howe⟩:=hob g hg;have hi':os.toArray[g.i]? = some o:=by rw [W8] at hget;simpa using hget
      obtain ⟨hask,hop⟩:=howe vs (M++((Jn++J)++C.A)) w (λx hx=>by simp only [List.mem_append] at hx ⊢;rcases hx with h|h|h<;>simp [h]) (λg' hg' hanc=>hφ g' hg' (by
        have h3:=R7 hcl hanc hir;rcases A0w h3 with h4|h4
        . exact (U5 (hun _ (Al (f:=Gm.i) hg')) h4).elim
        . exact h4))
      unfold wpOp;simp only [hi'];rw [if_pos (hask.wanted ha)];have hcal:=hw.callee (Mc:=[]) (R:=M) (.refl _);refine .inl (Oper.wp_mono ?_ (hop _ a w ha hcal.cx));rintro a' w' ⟨l',M',J',ha',hs',v,rfl,hφv⟩;have hsz:w.heap.size<=w'.heap.size:=hs'.size;have hb:=hw.back (Mc:=[]) (R:=M) (.refl _) hs'.cx;have hfr:=St.freezeAll hb
      have hfr2:St C M ((M'++(J'++Jn))++J) w':=hfr.drop (Ao _) λx hx=>by simp only [List.mem_append] at hx ⊢;rcases hx with (h|h|h)|h<;>simp [h]
      refine ⟨λ_ b hb' hnk=>hs'.frame b hb' (by simp),?_⟩;rw [<- U2];refine ih (X++[g.i]) (λk=>if k=g.i then v else vs k) (M'++(J'++Jn)) a' w' ?_ ?_ (by simp;omega) ?_ ?_ (A2O hg hd hi ha') hfr2 (Az hn hsz)
      . rw [List.nodup_append];exact ⟨hnd,by simp,λx hx y hy e=>hiX (by simp at hy;subst hy;exact e▸hx)⟩
      . intro j hj;rcases List.mem_append.1 hj with hj|hj
        . exact hX j hj
        . simp at hj;subst hj;exact hiG
      . rw [U2];exact I6 hcl hir
      . intro g' hg' hm;by_cases e:g'.i=g.i
        . have:g'=g:=B8x hi hg' hg e;subst this;simp only [if_true];exact hmono g' hg' _ _ _ (λx hx=>by simp only [List.mem_append] at hx ⊢;rcases hx with h|h|h|((h|h)|h)<;>simp [h]) hφv
        . simp only [e,if_false];have hm':g'.i∈X:=by simpa [e] using hm
          exact hmono g' hg' _ _ _ (λx hx=>by simp only [List.mem_append] at hx ⊢;rcases hx with h|(h|h)|h<;>simp [h]) (hφ g' hg' hm')
theorem B6A(G:List Gm)(hmono:∀g∈G,B6y g.φ)(hd:(G.map (·.d)).Nodup)(hi:(G.map (·.i)).Nodup)(hdN:∀g∈G,g.d<C.N)(hob:∀g∈G,C4E C os l M J G g)
    (h:∀(vs:Nat->Value) Jn,(∀g∈G,g.φ (vs g.i) (M++((Jn++J)++C.A)))->XK C os Q K n0 nd plan (A3V G vs++l) M (Jn++J)):XK C os Q K n0 nd (enc (G.map (·.i))++plan) l M J:=by
  intro listed hcl hp a w ha hw hn;obtain ⟨B,hok,hp2⟩:=A9w hp
  have hBcl:R6 os.toArray B:=by
    have:∀ {A is B},GOk os.toArray A is B->R6 os.toArray A->R6 os.toArray B:=by
      intro A is B h
      induction h with
      | nil=>exact id
      | cons hr _ _ ih=>exact λhc=>ih (I6 hc hr)
    exact this hok hcl
  have hlen:(enc (G.map (·.i))++plan).length=G.length+plan.length:=by
    have:∀is:List Nat,(enc is).length=is.length:=by
      intro is
      induction is with
      | nil=>rfl
      | cons i r ih=>cases r with
        | nil=>rfl
        | cons j r=>simp only [enc,List.length_cons] at ih ⊢;rw [ih]
    simp [this]
  rw [hlen]
  -- the slots' own content, to begin with
  let vs:Nat->Value:=λk=>match G.find? (λg=>g.i==k) with
    | some g=>(a.tmps[g.d]?).getD undef
    | none=>undef
  have hag:Ag C.N (A3V G vs++l) a:=by
    refine ⟨ha.defers,ha.size,?_⟩;intro k u hk
    have key:∀G':List Gm,(∀g∈G',g∈G)->lk (A3V G' vs++l) k=some u->a.tmps[k]? = some u:=by
      intro G'
      induction G' with
      | nil=>intro _ h;exact ha.slot k u h
      | cons g G' ih =>
        intro hs h;simp only [A3V,List.map_cons,Cy,lk] at h;by_cases e:g.d=k
        . subst e;simp at h
          have hf:G.find? (λx=>x.i==g.i)=some g:=by
            have hgG:=hs g Ax
            cases hq:G.find? (λx=>x.i==g.i) with
            | none=>have:=List.find?_eq_none.1 hq g hgG;simp at this
            | some x =>
              have h1:=List.find?_some hq;have h2:=List.mem_of_find?_eq_some hq;rw [B8x hi h2 hgG (by simpa using h1)]
          have hlt:g.d<a.tmps.size:=by rw [ha.size];exact hdN g (hs g Ax)
          rw [<- h];show a.tmps[g.d]? = some (vs g.i);simp only [vs,hf,Array.getElem?_eq_getElem hlt,Option.getD_some]
        . simp only [A0p e,cond_false] at h;exact ih (λx hx=>hs x (Bb _ hx)) h
    exact key G (λ_ h=>h) hk
  exact B6z (n0:=n0) (K:=K) hmono hd hi hdN hob hok (λvs Jn a w hφ ha hw hn=>h vs Jn hφ B hBcl hp2 a w ha hw hn) G.length [] vs [] a w .nil (λ_ h=>by cases h) (by simp) hcl (λ_ _ h=>by cases h) hag hw hn
end group
variable{α:Type}
theorem ln0:([]:List α).length=([]:List α).length:=rfl
theorem lnS{x y:α}{r s:List α}(h:r.length=s.length):(x::r).length=(y::s).length:=by rw [List.length_cons,List.length_cons,h]
theorem K5{p:α->Prop}:∀x∈([]:List α),p x:=λ_ h=>by cases h
theorem A7{p:α->Prop}{y:α}{r:List α}(h:p y)(hr:∀x∈r,p x):∀x∈y::r,p x:=λx hx=>(List.mem_cons.1 hx).elim (λe=>e▸h) (hr x)
theorem B9T{u:Value}:B6y λv _=>v=u:=λ_ _ _ _ hp=>hp
def ndL:List Nat->Bool
  | []=>true
  | x::l=>!l.contains x&&ndL l
theorem B8y:∀ {l:List Nat},ndL l=true->l.Nodup
  | [],_=>List.nodup_nil
  | x::l,h=>by unfold ndL at h;rw [Bool.and_eq_true] at h;refine List.nodup_cons.2 ⟨λhm=>?_,B8y h.2⟩;have h1:=h.1;rw [List.contains_iff_mem.2 hm] at h1;cases h1
theorem nd_{l:List Nat}(h:ndL l=true:=by kernel_rfl):l.Nodup:=B8y h
theorem dl_{G:List α}{f:α->Nat}{N:Nat}(h:(G.all λg=>Nat.blt (f g) N)=true:=by kernel_rfl):∀g∈G,f g<N:=λg hg=>L7 (List.all_eq_true.1 h g hg)
theorem gx{G:List α}{p q:α->Prop}{a:α}(i:Nat)(ha:∀g∈G,p g->q g)(h:G[i]? = some a:=by exact E)(hp:p a:=by kernel_rfl):q a:=ha a (As h) hp
theorem gy{G:List α}{q:α->Prop}{a:α}(i:Nat)(ha:∀g∈G,q g)(h:G[i]? = some a:=by exact E):q a:=ha a (As h)
theorem gA{p:α->Prop}{G:List α}(h:∀x∈G,p x:=by repeat' first|exact K5|exact λ_ _ _ _ _ h=>h|refine A7 ?_ ?_):∀x∈G,p x:=h
variable{K:Nat->Prop}
theorem gk0{L:List Mem}(h:L.all (·.isEmpty)=true:=by kernel_rfl):∀m∈L,∀x∈m,K x.1:=λm hm x hx=>by have:=List.all_eq_true.1 h m hm;rw [List.isEmpty_iff] at this;rw [this] at hx;cases hx
theorem gn0:∀x∈([]:Mem),K x.1:=λ_ h=>by cases h
theorem gG{C:Cx}{os:List Oper}{l:Env}{M J:Mem}{Gs:List Gm}{o:Oper}(h:∀(vs:Nat->Value) (R:Mem) (w:World),(∀x∈M++(J++C.A),x∈R)->(∀g'∈G,anc os.toArray os.toArray.size g.i g'.i=true->g'.φ (vs g'.i) R)->OpL ⟨C.P,w,[],R,C.N⟩ o (A3V G vs++l) [] [] (λl' M' J'=>∃v,l'=(g.d,v)::(A3V G vs++l)∧g.φ v (M'++(J'++R))))
    (t:∀g∈Gs,C4E C os l M J G g) (ho:nth os g.i=some o:=by exact E) (hg:o.guard=none:=by exact E):∀x∈g::Gs,C4E C os l M J G x:=A7 ⟨o,ho,λvs R w hb ha=>⟨.inl hg,h vs R w hb ha⟩⟩ t
end Go.Px

namespace Go.Px
variable{x0 x1 y0 y1:Value}
theorem ln2:[x0,x1].length=[y0,y1].length:=rfl
theorem al2(h0:x0.oneCell'=true:=by exact E)(h1:x1.oneCell'=true:=by exact E):∀c∈[x0,x1],c.oneCell'=true:=A7 h0 (A7 h1 (K5))
variable{x2 y2:Value}
theorem ln3:[x0,x1,x2].length=[y0,y1,y2].length:=rfl
theorem al3(h0:x0.oneCell'=true:=by exact E)(h1:x1.oneCell'=true:=by exact E)(h2:x2.oneCell'=true:=by exact E):∀c∈[x0,x1,x2],c.oneCell'=true:=A7 h0 (A7 h1 (A7 h2 (K5)))
variable{x3 y3:Value}
theorem ln4:[x0,x1,x2,x3].length=[y0,y1,y2,y3].length:=rfl
theorem al4(h0:x0.oneCell'=true:=by exact E)(h1:x1.oneCell'=true:=by exact E)(h2:x2.oneCell'=true:=by exact E)(h3:x3.oneCell'=true:=by exact E):∀c∈[x0,x1,x2,x3],c.oneCell'=true:=A7 h0 (A7 h1 (A7 h2 (A7 h3 (K5))))
variable{x4 y4:Value}
theorem ln5:[x0,x1,x2,x3,x4].length=[y0,y1,y2,y3,y4].length:=rfl
theorem al5(h0:x0.oneCell'=true:=by exact E)(h1:x1.oneCell'=true:=by exact E)(h2:x2.oneCell'=true:=by exact E)(h3:x3.oneCell'=true:=by exact E)(h4:x4.oneCell'=true:=by exact E):∀c∈[x0,x1,x2,x3,x4],c.oneCell'=true:=A7 h0 (A7 h1 (A7 h2 (A7 h3 (A7 h4 (K5)))))
variable{x5 y5:Value}
theorem ln6:[x0,x1,x2,x3,x4,x5].length=[y0,y1,y2,y3,y4,y5].length:=rfl
theorem al6(h0:x0.oneCell'=true:=by exact E)(h1:x1.oneCell'=true:=by exact E)(h2:x2.oneCell'=true:=by exact E)(h3:x3.oneCell'=true:=by exact E)(h4:x4.oneCell'=true:=by exact E)(h5:x5.oneCell'=true:=by exact E):∀c∈[x0,x1,x2,x3,x4,x5],c.oneCell'=true:=A7 h0 (A7 h1 (A7 h2 (A7 h3 (A7 h4 (A7 h5 (K5))))))
variable{x6 x7 y6 y7:Value}
theorem ln8:[x0,x1,x2,x3,x4,x5,x6,x7].length=[y0,y1,y2,y3,y4,y5,y6,y7].length:=rfl
theorem al8(h0:x0.oneCell'=true:=by exact E)(h1:x1.oneCell'=true:=by exact E)(h2:x2.oneCell'=true:=by exact E)(h3:x3.oneCell'=true:=by exact E)(h4:x4.oneCell'=true:=by exact E)(h5:x5.oneCell'=true:=by exact E)(h6:x6.oneCell'=true:=by exact E)(h7:x7.oneCell'=true:=by exact E):∀c∈[x0,x1,x2,x3,x4,x5,x6,x7],c.oneCell'=true:=A7 h0 (A7 h1 (A7 h2 (A7 h3 (A7 h4 (A7 h5 (A7 h6 (A7 h7 (K5))))))))
variable{x8 x9 y8 y9:Value}
theorem ln10:[x0,x1,x2,x3,x4,x5,x6,x7,x8,x9].length=[y0,y1,y2,y3,y4,y5,y6,y7,y8,y9].length:=rfl
theorem al10(h0:x0.oneCell'=true:=by exact E)(h1:x1.oneCell'=true:=by exact E)(h2:x2.oneCell'=true:=by exact E)(h3:x3.oneCell'=true:=by exact E)(h4:x4.oneCell'=true:=by exact E)(h5:x5.oneCell'=true:=by exact E)(h6:x6.oneCell'=true:=by exact E)(h7:x7.oneCell'=true:=by exact E)(h8:x8.oneCell'=true:=by exact E)(h9:x9.oneCell'=true:=by exact E):∀c∈[x0,x1,x2,x3,x4,x5,x6,x7,x8,x9],c.oneCell'=true:=A7 h0 (A7 h1 (A7 h2 (A7 h3 (A7 h4 (A7 h5 (A7 h6 (A7 h7 (A7 h8 (A7 h9 (K5))))))))))
variable{x10 x11 y10 y11:Value}
theorem ln12:[x0,x1,x2,x3,x4,x5,x6,x7,x8,x9,x10,x11].length=[y0,y1,y2,y3,y4,y5,y6,y7,y8,y9,y10,y11].length:=rfl
theorem al12(h0:x0.oneCell'=true:=by exact E)(h1:x1.oneCell'=true:=by exact E)(h2:x2.oneCell'=true:=by exact E)(h3:x3.oneCell'=true:=by exact E)(h4:x4.oneCell'=true:=by exact E)(h5:x5.oneCell'=true:=by exact E)(h6:x6.oneCell'=true:=by exact E)(h7:x7.oneCell'=true:=by exact E)(h8:x8.oneCell'=true:=by exact E)(h9:x9.oneCell'=true:=by exact E)(h10:x10.oneCell'=true:=by exact E)(h11:x11.oneCell'=true:=by exact E):∀c∈[x0,x1,x2,x3,x4,x5,x6,x7,x8,x9,x10,x11],c.oneCell'=true:=A7 h0 (A7 h1 (A7 h2 (A7 h3 (A7 h4 (A7 h5 (A7 h6 (A7 h7 (A7 h8 (A7 h9 (A7 h10 (A7 h11 (K5))))))))))))
variable{x12 y12:Value}
theorem ln13:[x0,x1,x2,x3,x4,x5,x6,x7,x8,x9,x10,x11,x12].length=[y0,y1,y2,y3,y4,y5,y6,y7,y8,y9,y10,y11,y12].length:=rfl
theorem al13(h0:x0.oneCell'=true:=by exact E)(h1:x1.oneCell'=true:=by exact E)(h2:x2.oneCell'=true:=by exact E)(h3:x3.oneCell'=true:=by exact E)(h4:x4.oneCell'=true:=by exact E)(h5:x5.oneCell'=true:=by exact E)(h6:x6.oneCell'=true:=by exact E)(h7:x7.oneCell'=true:=by exact E)(h8:x8.oneCell'=true:=by exact E)(h9:x9.oneCell'=true:=by exact E)(h10:x10.oneCell'=true:=by exact E)(h11:x11.oneCell'=true:=by exact E)(h12:x12.oneCell'=true:=by exact E):∀c∈[x0,x1,x2,x3,x4,x5,x6,x7,x8,x9,x10,x11,x12],c.oneCell'=true:=A7 h0 (A7 h1 (A7 h2 (A7 h3 (A7 h4 (A7 h5 (A7 h6 (A7 h7 (A7 h8 (A7 h9 (A7 h10 (A7 h11 (A7 h12 (K5)))))))))))))
variable{x13 x14 x15 y13 y14 y15:Value}
theorem ln16:[x0,x1,x2,x3,x4,x5,x6,x7,x8,x9,x10,x11,x12,x13,x14,x15].length=[y0,y1,y2,y3,y4,y5,y6,y7,y8,y9,y10,y11,y12,y13,y14,y15].length:=rfl
theorem al16(h0:x0.oneCell'=true:=by exact E)(h1:x1.oneCell'=true:=by exact E)(h2:x2.oneCell'=true:=by exact E)(h3:x3.oneCell'=true:=by exact E)(h4:x4.oneCell'=true:=by exact E)(h5:x5.oneCell'=true:=by exact E)(h6:x6.oneCell'=true:=by exact E)(h7:x7.oneCell'=true:=by exact E)(h8:x8.oneCell'=true:=by exact E)(h9:x9.oneCell'=true:=by exact E)(h10:x10.oneCell'=true:=by exact E)(h11:x11.oneCell'=true:=by exact E)(h12:x12.oneCell'=true:=by exact E)(h13:x13.oneCell'=true:=by exact E)(h14:x14.oneCell'=true:=by exact E)(h15:x15.oneCell'=true:=by exact E):∀c∈[x0,x1,x2,x3,x4,x5,x6,x7,x8,x9,x10,x11,x12,x13,x14,x15],c.oneCell'=true:=A7 h0 (A7 h1 (A7 h2 (A7 h3 (A7 h4 (A7 h5 (A7 h6 (A7 h7 (A7 h8 (A7 h9 (A7 h10 (A7 h11 (A7 h12 (A7 h13 (A7 h14 (A7 h15 (K5))))))))))))))))
variable{x16 x17 y16 y17:Value}
theorem ln18:[x0,x1,x2,x3,x4,x5,x6,x7,x8,x9,x10,x11,x12,x13,x14,x15,x16,x17].length=[y0,y1,y2,y3,y4,y5,y6,y7,y8,y9,y10,y11,y12,y13,y14,y15,y16,y17].length:=rfl
theorem al18(h0:x0.oneCell'=true:=by exact E)(h1:x1.oneCell'=true:=by exact E)(h2:x2.oneCell'=true:=by exact E)(h3:x3.oneCell'=true:=by exact E)(h4:x4.oneCell'=true:=by exact E)(h5:x5.oneCell'=true:=by exact E)(h6:x6.oneCell'=true:=by exact E)(h7:x7.oneCell'=true:=by exact E)(h8:x8.oneCell'=true:=by exact E)(h9:x9.oneCell'=true:=by exact E)(h10:x10.oneCell'=true:=by exact E)(h11:x11.oneCell'=true:=by exact E)(h12:x12.oneCell'=true:=by exact E)(h13:x13.oneCell'=true:=by exact E)(h14:x14.oneCell'=true:=by exact E)(h15:x15.oneCell'=true:=by exact E)(h16:x16.oneCell'=true:=by exact E)(h17:x17.oneCell'=true:=by exact E):∀c∈[x0,x1,x2,x3,x4,x5,x6,x7,x8,x9,x10,x11,x12,x13,x14,x15,x16,x17],c.oneCell'=true:=A7 h0 (A7 h1 (A7 h2 (A7 h3 (A7 h4 (A7 h5 (A7 h6 (A7 h7 (A7 h8 (A7 h9 (A7 h10 (A7 h11 (A7 h12 (A7 h13 (A7 h14 (A7 h15 (A7 h16 (A7 h17 (K5))))))))))))))))))
variable{x18 x19:Value}
theorem A33{y18 y19:Value}:[x0,x1,x2,x3,x4,x5,x6,x7,x8,x9,x10,x11,x12,x13,x14,x15,x16,x17,x18,x19].length=[y0,y1,y2,y3,y4,y5,y6,y7,y8,y9,y10,y11,y12,y13,y14,y15,y16,y17,y18,y19].length:=rfl
theorem A34(h0:x0.oneCell'=true:=by exact E)(h1:x1.oneCell'=true:=by exact E)(h2:x2.oneCell'=true:=by exact E)(h3:x3.oneCell'=true:=by exact E)(h4:x4.oneCell'=true:=by exact E)(h5:x5.oneCell'=true:=by exact E)(h6:x6.oneCell'=true:=by exact E)(h7:x7.oneCell'=true:=by exact E)(h8:x8.oneCell'=true:=by exact E)(h9:x9.oneCell'=true:=by exact E)(h10:x10.oneCell'=true:=by exact E)(h11:x11.oneCell'=true:=by exact E)(h12:x12.oneCell'=true:=by exact E)(h13:x13.oneCell'=true:=by exact E)(h14:x14.oneCell'=true:=by exact E)(h15:x15.oneCell'=true:=by exact E)(h16:x16.oneCell'=true:=by exact E)(h17:x17.oneCell'=true:=by exact E)(h18:x18.oneCell'=true:=by exact E)(h19:x19.oneCell'=true:=by exact E):∀c∈[x0,x1,x2,x3,x4,x5,x6,x7,x8,x9,x10,x11,x12,x13,x14,x15,x16,x17,x18,x19],c.oneCell'=true:=A7 h0 (A7 h1 (A7 h2 (A7 h3 (A7 h4 (A7 h5 (A7 h6 (A7 h7 (A7 h8 (A7 h9 (A7 h10 (A7 h11 (A7 h12 (A7 h13 (A7 h14 (A7 h15 (A7 h16 (A7 h17 (A7 h18 (A7 h19 (K5))))))))))))))))))))
end Go.Px

namespace Go.Px
variable{e:TypeId}{o:Nat}
section rules
variable{P:Program}{R:Mem}{l:Env}{d:Option Nat}{ty t t':TypeId}{pos:String}{af:Array Edge}{g:Option (Nat×Bool)}{x y:Operand}{k k':IntKind}{i j:Int}{a b:Nat}
theorem G7(m:Nat)(hk:k.signed=false)(hm:2^k.bits=m)(hx:ev l x=some (.int k i))(hy:ev l y=some (.int k j))(hi:i=(a:Int))(hj:j=(b:Int)) :
    OpQ P R ⟨d,.binOp .add t x y t',ty,pos,af,g⟩ l (.int k (((a+b)%m:Nat):Int)):=by
  subst hi;subst hj;exact E3 hx hy (addU hk _ (by rw [hm]))
theorem P9(m:Nat)(hk:k.signed=false)(hm:2^k.bits=m)(hx:ev l x=some (.int k i))(hy:ev l y=some (.int k j))(hi:i=(a:Int))(hj:j=(b:Int)) :
    OpQ P R ⟨d,.binOp .mul t x y t',ty,pos,af,g⟩ l (.int k (((a*b)%m:Nat):Int)):=by
  subst hi;subst hj;exact E3 hx hy (mulU hk _ (by rw [hm]))
theorem A2P(m:Nat)(hk:k.signed=false)(hm:2^k.bits=m)(hx:ev l x=some (.int k i))(hy:ev l y=some (.int k j))(hi:i=(a:Int))(hj:j=(b:Int))(hb:b<=m) :
    OpQ P R ⟨d,.binOp .sub t x y t',ty,pos,af,g⟩ l (.int k (((a+(m-b))%m:Nat):Int)):=by
  subst hi;subst hj;subst hm;exact E3 hx hy (C4Y hk _ hb E)
theorem A9x(m:Nat)(hk:k.signed=false)(hm:2^k.bits=m)(hx:ev l x=some (.int k i))(hy:ev l y=some (.int k j))(hi:i=(a:Int))(hj:j=(b:Int))(h:a+b<m) :
    OpQ P R ⟨d,.binOp .add t x y t',ty,pos,af,g⟩ l (.int k ((a+b:Nat):Int)):=by
  have:=G7 (P:=P) (R:=R) (d:=d) (ty:=ty) (pos:=pos) (af:=af) (g:=g) (t:=t) (t':=t') m hk hm hx hy hi hj;rwa [Af h] at this
theorem B8z(m:Nat)(hk:k.signed=false)(hm:2^k.bits=m)(hx:ev l x=some (.int k i))(hy:ev l y=some (.int k j))(hi:i=(a:Int))(hj:j=(b:Int))(ha:a<m)(h:b<=a) :
    OpQ P R ⟨d,.binOp .sub t x y t',ty,pos,af,g⟩ l (.int k ((a-b:Nat):Int)):=by
  have:=A2P (P:=P) (R:=R) (d:=d) (ty:=ty) (pos:=pos) (af:=af) (g:=g) (t:=t) (t':=t') m hk hm hx hy hi hj (by omega);rwa [show a+(m-b)=(a-b)+m by omega,Nat.add_mod_right,Af (by omega)] at this
theorem P4(s D:Nat)(hD:2^s=D)(hx:ev l x=some (.int k (a:Int)))(hy:ev l y=some (.int k' i))(hi:i=s)(hs:s<=k.bits):OpQ P R ⟨d,.binOp .shr t x y t',ty,pos,af,g⟩ l (.int k ((a/D:Nat):Int)):=by have:=T9 (P:=P) (R:=R) (d:=d) (ty:=ty) (pos:=pos) (af:=af) (g:=g) (t:=t) (t':=t') s hx hy hi hs;rwa [Cb,hD] at this
theorem C2B(s D m:Nat)(hk:k.signed=false)(hD:2^s=D)(hm:2^k.bits=m)(hx:ev l x=some (.int k (a:Int)))(hy:ev l y=some (.int k' i))(hi:i=s)(hs:s<=k.bits):OpQ P R ⟨d,.binOp .shl t x y t',ty,pos,af,g⟩ l (.int k ((a*D%m:Nat):Int)):=by have:=A3A (P:=P) (R:=R) (d:=d) (ty:=ty) (pos:=pos) (af:=af) (g:=g) (t:=t) (t':=t') hk s hx hy hi hs;rwa [Nat.shiftLeft_eq,hD,hm] at this
theorem N4(s D:Nat)(hk:k.signed=false)(hD:2^s=D)(hx:ev l x=some (.int k (a:Int)))(hy:ev l y=some (.int k j))(hj:j=((D-1:Nat):Int))(ha:a<2^k.bits)(hs:s<=k.bits):OpQ P R ⟨d,.binOp .and t x y t',ty,pos,af,g⟩ l (.int k ((a%D:Nat):Int)):=by subst hj;subst hD;have h2:2^s-1<2^k.bits:=Bp (Nat.sub_lt (Ca _) (by decide)) (Br (by decide) hs);have:=A5l (P:=P) (R:=R) (d:=d) (ty:=ty) (pos:=pos) (af:=af) (g:=g) (t:=t) (t':=t') hk hx hy ha h2;rwa [Nat.and_two_pow_sub_one_eq_mod] at this
theorem A1A(D:Nat)(hx:ev l x=some (.int k (a:Int)))(hy:ev l y=some (.int k j))(hj:j=(D:Int))(hD:D≠0)(h:k.wrap ((a/D:Nat):Int)=((a/D:Nat):Int)):OpQ P R ⟨d,.binOp .quo t x y t',ty,pos,af,g⟩ l (.int k ((a/D:Nat):Int)):=by subst hj;exact B1P hx hy hD h
theorem A1B(D:Nat)(hx:ev l x=some (.int k (a:Int)))(hy:ev l y=some (.int k j))(hj:j=(D:Int))(hD:D≠0):OpQ P R ⟨d,.binOp .rem t x y t',ty,pos,af,g⟩ l (.int k ((a%D:Nat):Int)):=by subst hj;exact B1O hx hy hD
theorem F1(off:Nat){t:TypeId}{b n i sz:Nat}{k:IntKind}{ii:Int}(hx:ev l x=some (.pointer (some ⟨b,o,none⟩)))(hy:ev l y=some (.int k ii))
    (hu:P.underlying t=some (.array n e)) (hs:N2 P e=some sz) (hi:ii=i) (hlt:i<n) (ho:o+i*sz=off) :
    OpQ P R ⟨d,.indexAddr t x y,ty,pos,af,g⟩ l (.pointer (some ⟨b,off,none⟩)):=ho▸F7 hx hy hu hs hi hlt
theorem C2C(r:Int)(hx:ev l x=some (.int k i))(hy:ev l y=some (.int k j))(hj:j≠0)(h:k.wrap (i.tdiv j)=r):OpQ P R ⟨d,.binOp .quo t x y t',ty,pos,af,g⟩ l (.int k r):=h▸C2p hx hy hj
end rules
class TakeC(cs:List Value)(o n:Nat)(vs:outParam (List Value)):Prop where
  take:vs.length=n∧∀j v,vs[j]? = some v->cs[o+j]? = some v
instance TakeC.nil{cs:List Value}:TakeC cs 0 0 []:=⟨E,λj v h=>by simp at h⟩
instance TakeC.put{x:Value}{r vs:List Value}{n:Nat}[h:TakeC r 0 n vs]:TakeC (x::r) 0 (n+1) (x::vs):=⟨by simp [h.take.1],λj v hv=>by
  cases j with
  | zero=>simpa using hv
  | succ j=>have:=h.take.2 j v (by simpa using hv);rw [Nat.zero_add] at this ⊢;simpa using this⟩
instance TakeC.skip{x:Value}{r vs:List Value}{o n:Nat}[h:TakeC r o n vs]:TakeC (x::r) (o+1) n vs:=⟨h.take.1,λj v hv=>by
  have:=h.take.2 j v hv
  rw [show o+1+j=(o+j)+1 by omega];simpa using this⟩
variable{P:Program}{l:Env}{d:Option Nat}{ty t:TypeId}{pos:String}{af:Array Edge}{g:Option (Nat×Bool)}{x:Operand}{b:Nat}{cs vs:List Value}
theorem H7{R:Mem}{n:Nat}{fr:Nat×Nat}(hx:ev l x=some (.pointer (some ⟨b,o,none⟩)))(ht:A59 P t=some n)
    (hb:(b,Obj.cells cs.toArray e fr)∈R) (h:vs.length=n∧∀j v,vs[j]? = some v->cs[o+j]? = some v):OpQ P R ⟨d,.load t x,ty,pos,af,g⟩ l (.agg vs.toArray):=F2 hx ht hb h.1 h.2
variable{y:Operand}
theorem A35{C:Cx}{M J:Mem}{K:Env->Mem->Mem->Prop}{cs':List Value}{M':Mem}(hx:ev l x=some (.pointer (some ⟨b,o,none⟩)))(hy:ev l y=some (.agg vs.toArray))
    (ht:N2 C.P t=some vs.length) (h1:∀u∈vs,u.oneCell'=true) [hs:SetR cs o vs cs'] (hu:Upd M b (blk cs e) (blk cs' e) M') (k:K l M' J) :
    OpL C ⟨none,.store t x y,ty,pos,af,g⟩ l M J K:=P1 hx hy E ht hs.set.1 h1 hs.set.2.symm hu k
section tuples
variable{P:Program}{R:Mem}{l:Env}{d:Option Nat}{ty:TypeId}{pos:String}{af:Array Edge}{g:Option (Nat×Bool)}{x:Operand}{a b c e:Value}{r:List Value}
theorem A0x(hx:ev l x=some (.tuple (a::r).toArray)):OpQ P R ⟨d,.extract x 0,ty,pos,af,g⟩ l a:=I3 hx rfl
theorem A0n(hx:ev l x=some (.tuple (a::b::r).toArray)):OpQ P R ⟨d,.extract x 1,ty,pos,af,g⟩ l b:=I3 hx rfl
theorem B9U(hx:ev l x=some (.tuple (a::b::c::r).toArray)):OpQ P R ⟨d,.extract x 2,ty,pos,af,g⟩ l c:=I3 hx rfl
theorem q_x3(hx:ev l x=some (.tuple (a::b::c::e::r).toArray)):OpQ P R ⟨d,.extract x 3,ty,pos,af,g⟩ l e:=I3 hx rfl
end tuples
theorem A7z{R:Mem}{z:Operand}{f:FuncId}{fn:Func}{ts:Array TypeId}{a c:Nat}{i j k:Int}(hf:P.funcs[f]? = some fn)
    (h1:fn.body.isNone=true) (h2:(fn.name == "runtime.NumGoroutine")=false) (h3:Extern.findNext fn=none) (h4:Extern.find fn=some add64Entry)
    (hx:ev l x=some (.int .u64 i)) (hy:ev l y=some (.int .u64 j)) (hz:ev l z=some (.int .u64 k)) (hc:c<=1) (hi:i=(a:Int):=by rfl) (hj:j=(b:Int):=by rfl) (hk:k=(c:Int):=by rfl) :
    OpQ P R ⟨d,.call { callee:=.value (.func f),args:=#[x,y,z],argTypes:=ts },ty,pos,af,g⟩ l (.tuple #[.int .u64 (((a+b+c)%18446744073709551616:Nat):Int),.int .u64 (((a+b+c)/18446744073709551616:Nat):Int)]):=λN A w ha hw=>by
  subst hi;subst hj;subst hk
  have hcall:(callFunc f #[.int .u64 (a:Int),.int .u64 (b:Int),.int .u64 (c:Int)]).run P w=.ok (.value (.tuple #[.int .u64 (((a+b+c)%18446744073709551616:Nat):Int),.int .u64 (((a+b+c)/18446744073709551616:Nat):Int)])) w:=by rw [run_callFunc_extern hf h2 h1 h3 (e:=add64Entry) h4,run_add64 a b c (by omega) (by omega) (by omega) (by omega)];simp only [Result.andThen];congr 5<;>omega
  have e:(#[x,y,z]:Array Operand).map A.eval=#[.int .u64 (a:Int),.int .u64 (b:Int),.int .u64 (c:Int)]:=by simp [ha.ev hx,ha.ev hy,ha.ev hz]
  simp only [execOp,resolve,e,Sem.run_bind];simp only [Act.eval,Deferred.ofValue,invoke,Sem.run_pure,Result.andThen_ok,Array.append_empty,Array.empty_append,hcall]
end Go.Px

namespace Go.Px
theorem qi_{P:Program}{R:Mem}{l:Env}{d:Option Nat}{ty t:TypeId}{pos:String}{af:Array Edge}{g:Option (Nat×Bool)}{x y:Operand}{b o:Nat}{k:IntKind}{ii:Int}(off:Nat)(e:TypeId)(n sz i:Nat)(hx:ev l x=some (.pointer (some ⟨b,o,none⟩)):=by exact E)(hy:ev l y=some (.int k ii):=by exact E)
    (hu:P.underlying t=some (.array n e):=by kernel_rfl) (hs:N2 P e=some sz:=by kernel_rfl) (hi:ii=i:=by exact E) (hlt:i<n:=by decide) (ho:o+i*sz=off:=by exact E) :
    OpQ P R ⟨d,.indexAddr t x y,ty,pos,af,g⟩ l (.pointer (some ⟨b,off,none⟩)):=F1 off hx hy hu hs hi hlt ho
end Go.Px

namespace Go.Px
class PickC(M:Mem)(B:Mem)(R:outParam Mem):Prop where
  perm:M.Perm (B++R)
instance(priority:=low) PickC.nil{M:Mem}:PickC M [] M:=⟨.refl _⟩
instance(priority:=high) PickC.here{B M:Mem}:PickC (B++M) B M:=⟨.refl _⟩
instance PickC.sing{x:Nat×Obj}{M:Mem}:PickC (x::M) [x] M:=⟨.refl _⟩
instance(priority:=low) PickC.cons{x:Nat×Obj}{M B R:Mem}[h:PickC M B R]:PickC (x::M) B (x::R):=⟨(List.Perm.cons x h.perm).trans List.perm_middle.symm⟩
instance(priority:=low) PickC.app{D M B R:Mem}[h:PickC M B R]:PickC (D++M) B (D++R):=⟨(List.Perm.append_left D h.perm).trans (List.perm_append_comm_assoc D B R)⟩
instance PickC.whole{B:Mem}:PickC B B []:=⟨by simp⟩
class SubC(X Y:Mem):Prop where
  sub:∀x,x∈X->x∈Y
instance(priority:=high) SubC.same{X:Mem}:SubC X X:=⟨λ_ h=>h⟩
instance(priority:=high) SubC.here{X Y:Mem}:SubC X (X++Y):=⟨λ_ h=>Ae _ h⟩
instance SubC.left{X Y Z:Mem}[h:SubC X Y]:SubC X (Y++Z):=⟨λ_ hx=>Ae _ (h.sub _ hx)⟩
instance(priority:=low) SubC.right{X Y Z:Mem}[h:SubC X Z]:SubC X (Y++Z):=⟨λ_ hx=>Ai _ (h.sub _ hx)⟩
instance(priority:=low) SubC.tail{X Y:Mem}{y:Nat×Obj}[h:SubC X Y]:SubC X (y::Y):=⟨λ_ hx=>Bb _ (h.sub _ hx)⟩
instance SubC.nil{Y:Mem}:SubC [] Y:=⟨λ_ h=>by simp at h⟩
variable{B R:Mem}
theorem Fit.pick{M M':Mem}(h:M.Perm (B++R))(hr:Fit R M'):Fit M (B++M'):=by obtain ⟨M1,h1,h2⟩:=hr;exact ⟨B++M1,h.trans (h1.append_left B),List.Sublist.append (List.Sublist.refl _) h2⟩
theorem Fit.last{M:Mem}(h:M.Perm (B++R)):Fit M B:=⟨_,h,List.sublist_append_left _ _⟩
variable{e:TypeId}{o:Nat}{ws:List Nat}
section rules
variable{P:Program}{R R':Mem}{l:Env}{d:Option Nat}{ty t t':TypeId}{pos:String}{af:Array Edge}{g:Option (Nat×Bool)}{x y z:Operand}{k k':IntKind}{i j i':Int}{a b:Nat}{v:Value}{sz n:Nat}{xs:List Value}
theorem I9(hx:ev l x=some (.int .i64 i))(hy:ev l y=some (.int .i64 j))(hi:i=(a:Int))(hj:j=(b:Int))(h:a+b<9223372036854775808):OpQ P R ⟨d,.binOp .add t x y t',ty,pos,af,g⟩ l (.int .i64 ((a+b:Nat):Int)):=by subst hi;subst hj;exact D2 _ hx hy (F5 (by omega) (by omega) (by omega))
theorem Q8(hx:ev l x=some (.int .i64 i))(hy:ev l y=some (.int .i64 j))(hi:i=(a:Int))(hj:j=(b:Int))(h:b<=a)(h2:a<9223372036854775808):OpQ P R ⟨d,.binOp .sub t x y t',ty,pos,af,g⟩ l (.int .i64 ((a-b:Nat):Int)):=by subst hi;subst hj;exact D2 _ hx hy (V6 (by omega) (by omega) (by omega))
theorem A1o(hx:ev l x=some (.int .i64 i))(hy:ev l y=some (.int .i64 j))(hi:i=(a:Int))(hj:j=(b:Int))(h:a*b<9223372036854775808):OpQ P R ⟨d,.binOp .mul t x y t',ty,pos,af,g⟩ l (.int .i64 ((a*b:Nat):Int)):=by subst hi;subst hj;exact D2 _ hx hy (A11 (by simp) (by omega) (by omega))
theorem V5(hx:ev l x=some (.int k i))(hy:ev l y=some (.int k j))(hi:i=(a:Int))(hj:j=(b:Int))(hb:0<b):OpQ P R ⟨d,.binOp .rem t x y t',ty,pos,af,g⟩ l (.int k ((a%b:Nat):Int)):=by subst hi;subst hj;exact B1O hx hy (by omega)
theorem B8A(hx:ev l x=some (.int .i64 i))(hy:ev l y=some (.int .i64 j))(hi:i=(a:Int))(hj:j=(b:Int))(hb:0<b)(h:a<9223372036854775808):OpQ P R ⟨d,.binOp .quo t x y t',ty,pos,af,g⟩ l (.int .i64 ((a/b:Nat):Int)):=by subst hi;subst hj;exact B1P hx hy (by omega) (A2E (Be (Nat.div_le_self a b) h))
theorem A4u{m:Nat}(hk:k.signed=false)(hm:2^k.bits=m)(hx:ev l x=some (.int k i))(hy:ev l y=some (.int k j))(hi:i=(a:Int))(hj:j=(b:Int))(hb:0<b)(h:a<m):OpQ P R ⟨d,.binOp .quo t x y t',ty,pos,af,g⟩ l (.int k ((a/b:Nat):Int)):=by subst hi;subst hj;exact B1P hx hy (by omega) (by rw [T6 hk,hm,Af (Be (Nat.div_le_self a b) h)])
theorem A3H(hx:ev l x=some (.int k i))(hy:ev l y=some (.int k' j))(hi:i=(a:Int))(hj:j=(b:Int))(hs:b<=k.bits):OpQ P R ⟨d,.binOp .shr t x y t',ty,pos,af,g⟩ l (.int k ((a/2^b:Nat):Int)):=by subst hi;subst hj;rw [<- Cb];exact T9 b hx hy E hs
theorem C2D(m:Nat)(hk:k.signed=false)(hm:2^k.bits=m)(hx:ev l x=some (.int k i))(hy:ev l y=some (.int k' j))(hi:i=(a:Int))(hj:j=(b:Int))(hs:b<=k.bits):OpQ P R ⟨d,.binOp .shl t x y t',ty,pos,af,g⟩ l (.int k ((a*2^b%m:Nat):Int)):=by subst hi;subst hj;subst hm;rw [<- Nat.shiftLeft_eq];exact A3A hk b hx hy E hs
theorem F8(hx:ev l x=some v)(hu:slE P t=some sz)(h:Rd R' sz v n xs) :
    OpQ P R ⟨d,.call { callee:=.builtin .len,args:=#[x],argTypes:=#[t] },ty,pos,af,g⟩ l (.int .i64 n):=A1n h hx hu
theorem A3I(hx:ev l x=some v)(hy:ev l y=some (.int k i))(hu:slE P t=some sz)(hi:i=(a:Int))(h:Rd R' sz v n xs)(hj:a<=n) :
    OpQ P R ⟨d,.slice t x none (some y) none,ty,pos,af,g⟩ l (vHi a v):=B9N h hx hy hu a hi hj
theorem Z0(hx:ev l x=some v)(hy:ev l y=some (.int k i))(hu:slE P t=some sz)(hi:i=(a:Int))(h:Rd R' sz v n xs)(hj:a<=n) :
    OpQ P R ⟨d,.slice t x (some y) none none,ty,pos,af,g⟩ l (vLo a sz v):=B9O h hx hy hu a hi hj
theorem C2E(hx:ev l x=some v)(hy:ev l y=some (.int k i))(hz:ev l z=some (.int k' i'))(hu:slE P t=some sz)(hi:i=(a:Int))(hi':i'=(b:Int))(h:Rd R' sz v n xs)(hab:a<=b)(hb:b<=n) :
    OpQ P R ⟨d,.slice t x (some y) (some z) none,ty,pos,af,g⟩ l (vLo a sz (vHi b v)):=C40 h hx hy hz hu a b hi hi' hab hb
theorem A6n{b n sz:Nat}{lo hi mx:Option Operand}{nl nh nm:Option Nat}(hx:ev l x=some (.pointer (some ⟨b,o,none⟩)))(hu:P.underlying t=some (.array n e))(hs:N2 P e=some sz)
    (h1:EvO l lo nl) (h2:EvO l hi nh) (h3:EvO l mx nm) (hmh:nm.isSome=true->nh.isSome=true) (hm:nm.getD n<=n) (hh:nh.getD n<=nm.getD n) (hl:nl.getD 0<=nh.getD n) :
    OpQ P R ⟨d,.slice t x lo hi mx,ty,pos,af,g⟩ l (.slice (some (if nm.getD n=nl.getD 0 then ⟨b,o,none⟩ else ⟨b,o+nl.getD 0*sz,none⟩)) (nh.getD n-nl.getD 0) (nm.getD n-nl.getD 0)):=λN a w ha hw=>by
  unfold N2 at hs
  cases hq:P.info? e with
  | none=>simp [hq] at hs
  | some inf =>
    simp only [hq,Option.map_some,Option.some.injEq] at hs;subst hs;simp only [execOp,ha.ev hx,Instr.sliceAt,Sem.run_bind,run_underlying hu,Result.andThen_ok,Instr.sureAddr,Sem.run_pure,V9 ha h1 h2 h3 false n n w hm hh hl hmh];simp [sizeOf,typeInfo,hq,Addr.add];by_cases h0:nl.getD 0*inf.size=0<;>simp [h0]
theorem B2j{b n sz:Nat}(hx:ev l x=some (.pointer (some ⟨b,o,none⟩)))(hu:P.underlying t=some (.array n e))(hs:N2 P e=some sz) :
    OpQ P R ⟨d,.slice t x none none none,ty,pos,af,g⟩ l (.slice (some ⟨b,o,none⟩) n n):=by
  have:=A6n (R:=R) (d:=d) (ty:=ty) (pos:=pos) (af:=af) (g:=g) hx hu hs o0 o0 o0 (by simp) (by simp) (by simp) (by simp);simpa using this
theorem A8F(lo hi:Nat){b n sz:Nat}(hx:ev l x=some (.pointer (some ⟨b,o,none⟩)))(hu:P.underlying t=some (.array n e))(hs:N2 P e=some sz)(hy:ev l y=some (.int k i))(hz:ev l z=some (.int k' i'))(hi1:i=(lo:Int))(hi2:i'=(hi:Int))(h0:lo<n)(h1:lo<=hi)(h2:hi<=n) :
    OpQ P R ⟨d,.slice t x (some y) (some z) none,ty,pos,af,g⟩ l (.slice (some ⟨b,o+lo*sz,none⟩) (hi-lo) (n-lo)):=by
  have:=A6n (R:=R) (d:=d) (ty:=ty) (pos:=pos) (af:=af) (g:=g) hx hu hs (o1 lo hy hi1) (o1 hi hz hi2) o0 (by simp) (by simp) (by simpa using h2) (by simpa using h1);rw [if_neg (by simp;omega)] at this;simpa using this
theorem B9V(hi:Nat){b n sz:Nat}(hx:ev l x=some (.pointer (some ⟨b,o,none⟩)))(hu:P.underlying t=some (.array n e))(hs:N2 P e=some sz)(hz:ev l z=some (.int k' i'))(hi2:i'=(hi:Int))(h2:hi<=n) :
    OpQ P R ⟨d,.slice t x none (some z) none,ty,pos,af,g⟩ l (.slice (some ⟨b,o,none⟩) hi n):=by
  have:=A6n (R:=R) (d:=d) (ty:=ty) (pos:=pos) (af:=af) (g:=g) hx hu hs o0 (o1 hi hz hi2) o0 (by simp) (by simp) (by simpa using h2) (by simp);simpa using this
theorem Rd.mid{R:Mem}{b n cap:Nat}{cs:List Value}{fr:Nat×Nat}(hb:(b,Obj.cells cs.toArray e fr)∈R)(h:o+n<=cs.length)(hc:n<=cap):Rd R 1 (.slice (some ⟨b,o,none⟩) n cap) n ((cs.drop o).take n):=by
  refine ⟨_,cap,E,by simp;omega,hc,.inr ⟨b,o,cs,e,fr,E,hb,λj u hj=>?_⟩⟩;have hjn:j<n:=by have:=(Ac.1 hj).1;simp at this;omega
  rw [Cd hjn,List.getElem?_drop] at hj;exact hj
theorem G4(hx:ev l x=some v)(hy:ev l y=some (.int k i))(hu:slE P t=some sz)(hi:i=(a:Int))(h:Rd R' sz v n xs)(hj:a<n) :
    OpQ P R ⟨d,.indexAddr t x y,ty,pos,af,g⟩ l (vAt sz a v):=B6o h hx hy hu a hi hj
theorem Z9(hx:ev l x=some (vAt 1 a v))(ht:A0s P t=true)(h:Rd R 1 v n (nums k ws))(hj:a<n):OpQ P R ⟨d,.load t x,ty,pos,af,g⟩ l (.int k ((ws.getD a 0:Nat):Int)):=A5A h hx ht hj
theorem Rd.one{R:Mem}{v:Value}{n sz:Nat}{xs:List Value}(h:Rd R sz v n xs):v.oneCell'=true:=by obtain ⟨p,c,rfl,_⟩:=h;rfl
theorem Sl.one{v:Value}{n sz:Nat}{xs:List Value}(h:Sl sz v n xs B):v.oneCell'=true:=by obtain ⟨p,c,rfl,_⟩:=h.val;rfl
theorem A0y{rows:List (List Value)}{r:List Value}(hx:ev l x=some (vAt sz a v))(ht:A59 P t=some sz)(h:Rd R sz v n rows.flatten)(hl:∀r∈rows,r.length=sz)(hs:0<sz)(hr:rows[a]? = some r):OpQ P R ⟨d,.load t x,ty,pos,af,g⟩ l (.agg r.toArray):=by
  obtain ⟨p,c,rfl,h2,h3,h4⟩:=h;have hal:=(Ac.1 hr).1;have hfl:=A6b hl;rcases h4 with rfl|⟨b,o,cs,e',fr,rfl,hb,hx'⟩
  . rw [h2,Nat.zero_mul] at hfl;have:=Nat.mul_pos (show 0<rows.length by omega) hs;omega
  . simp only [vAt,Addr.add_mid] at hx;refine F2 hx ht hb (hl r (As hr)) λj u hj=>?_;have hjl:j<sz:=by have:=(Ac.1 hj).1;rwa [hl r (As hr)] at this
    rw [Nat.add_assoc];exact hx' _ _ (by rw [A2D hl hr j hjl];exact hj)
theorem P2{s:TypeId}(hx:ev l x=some v)(hc:B1V P s t=true)(h:Rd R 1 v n (nums .u8 ws)):OpQ P R ⟨d,.convert s t x,ty,pos,af,g⟩ l (.string (txt ws)):=A4o h hx hc
end rules
variable{v:Value}{M0:Mem}{by_:Nat}
section loud
variable{C:Cx}{l:Env}{M J:Mem}{K:Env->Mem->Mem->Prop}{d:Nat}{ty t e:TypeId}{pos:String}{af:Array Edge}{g:Option (Nat×Bool)}{x y:Operand}{k:IntKind}
theorem B8B{n a u:Nat}{i:Int}(hx:ev l x=some (vAt 1 a v))(hy:ev l y=some (.int k i))(hi:i=(u:Int))(ht:N2 C.P t=some 1)(h:Sl 1 v n (nums k ws) B)(hj:a<n)(hM:M.Perm (B++M0))(h2:∀B',Sl 1 v n (nums k (ws.set a u)) B'->K l (B'++M0) J) :
    OpL C ⟨none,.store t x y,ty,pos,af,g⟩ l M J K:=C41 h hx (hi▸hy) ht hj hM h2
theorem G6{sz n m:Nat}{u:Value}{xs ys:List Value}(hx:ev l x=some v)(hy:ev l y=some u)(ht:A1t C.P t=some (e,sz,by_))(hsz:Nat.blt 0 sz=true)
    (hs:Sl sz v n xs B) (hr:Rd (M++(J++C.A)) sz u m ys) (h1c:∀c∈ys,c.oneCell'=true) (hM:M.Perm (B++M0)) (hmax:n+m<=maxLen) (hbytes:(n+m)*by_<=140737488355328) (hd:Nat.blt d C.N=true)
    (k:∀v' B',Sl sz v' (n+m) (xs++ys) B'->K ((d,v')::l) (B'++M0) J) :
    OpL C ⟨some d,.call { callee:=.builtin .append,args:=#[x,y],argTypes:=#[t,t] },ty,pos,af,g⟩ l M J K:=V8 hx hy ht hsz hs hr h1c hM hmax hbytes hd k
theorem B2k{kl kc:IntKind}{i j:Int}{a:Nat}(hx:ev l x=some (.int kl i))(hy:ev l y=some (.int kc j))(ht:mkT C.P t=some (e,k,by_))(hi:i=(a:Int))(hj:j=(a:Int))
    (hb:by_*a<=281474976710656) (hn:a<=140737488355328) (hd:Nat.blt d C.N=true) (h:∀v B,Sl 1 v a (nums k (List.replicate a 0)) B->K ((d,v)::l) (B++M) J) :
    OpL C ⟨some d,.makeSlice t x y,ty,pos,af,g⟩ l M J K:=A0S a hx hy ht hi hj hb (by omega) hd λb=>h _ _ (Sl.fresh (by simp) (by unfold maxLen;omega))
theorem B2l{f:FuncId}{xs:List Operand}{vs:List Value}{ts:Array TypeId}{Mc:Mem}{post:Value->Mem->Mem->Prop}(hx:Evs l xs vs)(hc:K1 C.P f=true)(hf:FnX C.P f vs Mc (R++(J++C.A)) post)(hM:M.Perm (Mc++R))(hd:Nat.blt d C.N=true)
    (k:∀r M' J',post r M' J'->K ((d,r)::l) (M'++R) (J'++J)):OpL C ⟨some d,.call { callee:=.value (.func f),args:=xs.toArray,argTypes:=ts },ty,pos,af,g⟩ l M J K:=C8 hx hc hM hf hd k
end loud
end Go.Px

namespace Go.Px
theorem qP{M B R:Mem}[h:PickC M B R]:M.Perm (B++R):=h.perm
theorem qZ{M:Mem}:Fit M []:=Ck (Aa _)
theorem qS{X Y:Mem}[h:SubC X Y]:∀x,x∈X->x∈Y:=h.sub
end Go.Px

namespace Go.Px
theorem A0z(p:List Nat):(txt p).size=p.length:=by simp [txt,ByteArray.size]
theorem B9W{ws:List Nat}(h:∀x∈ws,x<256){j:Nat}(hj:j<ws.length):(txt ws)[j]? = some (UInt8.ofNat (ws.getD j 0)):=by
  have h2:j<(txt ws).size:=by rw [A0z];exact hj
  rw [getElem?_pos (txt ws) j h2];congr 1;show ((ws.map UInt8.ofNat).toArray)[j]'_=_;simp only [List.getD,List.getElem?_eq_getElem hj,Option.getD_some];have:∀(l:List Nat) (h:j<l.length) (h':j<(l.map UInt8.ofNat).toArray.size),(l.map UInt8.ofNat).toArray[j]=UInt8.ofNat l[j]:=λl h h'=>by simp
  exact this ws hj _
variable{a:List Nat}
theorem B2m{b:List Nat}(ha:∀x∈a,x<256)(hb:∀x∈b,x<256):((txt a).toList==(txt b).toList)=decide (a=b):=by
  have e:∀w:List Nat,(txt w).toList=w.map UInt8.ofNat:=λw=>by rw [ByteArray.toList_eq]<;>simp [txt]
  by_cases h:a=b
  . subst h;simp
  . rw [decide_eq_false h];rw [e,e,beq_eq_false_iff_ne];intro hc;exact h (A8D ha hb (by unfold txt;rw [hc]))
theorem A8G(ws:List Nat)(lo hi:Nat):(txt ws).extract lo hi=txt ((ws.take hi).drop lo):=by apply ByteArray.ext;simp [txt,ByteArray.data_extract,List.map_take,List.map_drop,List.extract_eq_take_drop,List.drop_take]
section
variable{P:Program}{R:Mem}{l:Env}{d:Option Nat}{ty s t t' e:TypeId}{pos:String}{af:Array Edge}{g:Option (Nat×Bool)}{x y z:Operand}{v:Value}{n a b:Nat}{k k':IntKind}{i i':Int}{S S':ByteArray}{ws ws':List Nat}
theorem A5D(hx:ev l x=some (.string S))(hS:S=txt ws)(hu:P.underlying t=some .string):OpQ P R ⟨d,.call { callee:=.builtin .len,args:=#[x],argTypes:=#[t] },ty,pos,af,g⟩ l (vI ws.length):=by have:=B6c (P:=P) (R:=R) (d:=d) (ty:=ty) (pos:=pos) (af:=af) (g:=g) hx hu;rwa [hS,A0z] at this
theorem A7A(hx:ev l x=some (.string S))(hS:S=txt ws)(h256:∀x∈ws,x<256)(hy:ev l y=some (.int k i))(hu:P.underlying t=some .string)(hi:i=(a:Int))(ha:a<ws.length) :
    OpQ P R ⟨d,.index t x y,ty,pos,af,g⟩ l (.int .u8 ((ws.getD a 0:Nat):Int)):=λN A w hA hw=>by
  subst hi;subst hS;have h1:=getD_lt (i:=a) h256 (by decide);simp only [execOp,hA.ev hx,hA.ev hy,Instr.index,asIntOf,Sem.run_bind,Sem.run_pure,run_underlying hu,Result.andThen_ok,Int.toNat_natCast,B9W h256 ha,if_pos (Int.natCast_nonneg a)]
  have:(UInt8.ofNat (ws.getD a 0)).toNat=ws.getD a 0:=by generalize ws.getD a 0=c at h1;simp;omega
  simp only [this,Sem.run_pure]
theorem B9X{lo hi:Option Operand}{nl nh:Option Nat}(hx:ev l x=some (.string S))(hS:S=txt ws)(hu:P.underlying t=some .string)(h1:EvO l lo nl)(h2:EvO l hi nh)(hh:nh.getD ws.length<=ws.length)(hl:nl.getD 0<=nh.getD ws.length) :
    OpQ P R ⟨d,.slice t x lo hi none,ty,pos,af,g⟩ l (.string (txt ((ws.take (nh.getD ws.length)).drop (nl.getD 0)))):=λN A w hA hw=>by
  subst hS;have hb:=V9 (P:=P) (lo:=lo) (hi:=hi) (mx:=none) hA h1 h2 o0 false ws.length ws.length w (by simp) (by simpa using hh) (by simpa using hl) (by simp);simp only [Option.map_none] at hb;simp only [execOp,hA.ev hx,Instr.sliceAt,Sem.run_bind,run_underlying hu,Result.andThen_ok,Instr.slice,Option.map_none,Option.isSome_none,Bool.false_eq_true,if_false,A0z,hb];simp [A8G]
theorem C2F(hx:ev l x=some (.string S))(hS:S=txt ws)(hy:ev l y=some (.int k i))(hu:P.underlying t=some .string)(hi:i=(a:Int))(h:a<=ws.length):OpQ P R ⟨d,.slice t x none (some y) none,ty,pos,af,g⟩ l (.string (txt (ws.take a))):=by have:=B9X (P:=P) (R:=R) (d:=d) (ty:=ty) (pos:=pos) (af:=af) (g:=g) hx hS hu o0 (o1 a hy hi) (by simpa using h) (by simp);simpa using this
theorem C5a(hx:ev l x=some (.string S))(hS:S=txt ws)(hy:ev l y=some (.int k i))(hu:P.underlying t=some .string)(hi:i=(a:Int))(h:a<=ws.length):OpQ P R ⟨d,.slice t x (some y) none none,ty,pos,af,g⟩ l (.string (txt (ws.drop a))):=by have:=B9X (P:=P) (R:=R) (d:=d) (ty:=ty) (pos:=pos) (af:=af) (g:=g) hx hS hu (o1 a hy hi) o0 (by simp) (by simpa using h);simpa using this
theorem B9Y(hx:ev l x=some (.string S))(hS:S=txt ws)(hy:ev l y=some (.int k i))(hz:ev l z=some (.int k' i'))(hu:P.underlying t=some .string)(hi:i=(a:Int))(hi':i'=(b:Int))(hab:a<=b)(h:b<=ws.length):OpQ P R ⟨d,.slice t x (some y) (some z) none,ty,pos,af,g⟩ l (.string (txt ((ws.take b).drop a))):=by have:=B9X (P:=P) (R:=R) (d:=d) (ty:=ty) (pos:=pos) (af:=af) (g:=g) hx hS hu (o1 a hy hi) (o1 b hz hi') (by simpa using h) (by simpa using hab);simpa using this
theorem A17(hx:ev l x=some (.string S))(hy:ev l y=some (.string S'))(hS:S=txt ws)(hS':S'=txt ws')(h:ws.length+ws'.length<=9223372036854775807):OpQ P R ⟨d,.binOp .add t x y t',ty,pos,af,g⟩ l (.string (txt (ws++ws'))):=by subst hS;subst hS';have:=B6b (P:=P) (R:=R) (d:=d) (ty:=ty) (pos:=pos) (af:=af) (g:=g) (t:=t) (t':=t') hx hy (by rw [A0z,A0z];exact h);rwa [B0D] at this
theorem C2G(hx:ev l x=some (.string S))(hy:ev l y=some (.string S'))(hS:S=txt ws)(hS':S'=txt ws')(h:∀x∈ws,x<256)(h':∀x∈ws',x<256):OpQ P R ⟨d,.binOp .eql t x y t',ty,pos,af,g⟩ l (.bool (decide (ws=ws'))):=by subst hS;subst hS';have:=B1F (P:=P) (R:=R) (d:=d) (ty:=ty) (pos:=pos) (af:=af) (g:=g) (t:=t) (t':=t') hx hy;rwa [B2m h h'] at this
theorem A8H(hx:ev l x=some (.string S))(hy:ev l y=some (.string S'))(hS:S=txt ws)(hS':S'=txt ws')(h:∀x∈ws,x<256)(h':∀x∈ws',x<256):OpQ P R ⟨d,.binOp .neq t x y t',ty,pos,af,g⟩ l (.bool !(decide (ws=ws'))):=by subst hS;subst hS';have:=B9F (P:=P) (R:=R) (d:=d) (ty:=ty) (pos:=pos) (af:=af) (g:=g) (t:=t) (t':=t') hx hy;rwa [B2m h h'] at this
end
class B256(ws:List Nat):Prop where
  lt:∀x∈ws,x<256
instance B256.app{a b:List Nat}[ha:B256 a][hb:B256 b]:B256 (a++b):=⟨λx h=>(List.mem_append.1 h).elim (ha.lt x) (hb.lt x)⟩
instance B256.drop{a:List Nat}{n:Nat}[ha:B256 a]:B256 (a.drop n):=⟨λx h=>ha.lt x (List.mem_of_mem_drop h)⟩
theorem B256.cons{x:Nat}(hx:x<256)(ha:B256 a):B256 (x::a):=⟨λy h=>(List.mem_cons.1 h).elim (λh=>h▸hx) (ha.lt y)⟩
def isNil:Value->Bool
  | .slice none _ _=>true
  | _=>false
section
variable{P:Program}{R R':Mem}{l:Env}{d:Option Nat}{ty t t' e:TypeId}{pos:String}{af:Array Edge}{g:Option (Nat×Bool)}{x y:Operand}{v:Value}{n sz:Nat}{xs:List Value}{ms:Array (String×TypeId)}
def C5b(P:Program)(t:TypeId):Bool :=
  match P.underlying t with
  | some (.interface _)=>true
  | _=>false
theorem B2n(h:C5b P t=true):∃ms,P.underlying t=some (.interface ms):=by
  unfold C5b at h;split at h
  . exact ⟨_,by assumption⟩
  . cases h
theorem B2o(w:World)(h:P.underlying t=some (.interface ms)):(Op.equal t .nilIface .nilIface).run P w=.ok true w:=by show (Op.equalIn (9999+1) t .nilIface .nilIface).run P w=.ok true w;rw [Op.equalIn];simp [run_underlying h]
theorem B2p(hx:ev l x=some .nilIface)(hi:C5b P t=true):OpQ P R ⟨d,.binOp .neq t x (.const .nilIface) t',ty,pos,af,g⟩ l (.bool false):=λN a w ha hw=>by obtain ⟨ms,hu⟩:=B2n hi;have hy:a.eval (.const .nilIface)=.nilIface:=rfl;simp only [execOp,ha.ev hx,hy,Sem.run_bind];simp [eqGuard,binOp,B2o w hu]
theorem Rd.isNil{R:Mem}(h:Rd R sz v n xs)(hn:Px.isNil v=true):n=0:=by
  obtain ⟨p,c,rfl,_,_,h4⟩:=h;rcases h4 with h4|⟨b,o,cs,e',fr,rfl,_⟩
  . exact h4
  . cases hn
theorem A1C(hx:ev l x=some v)(hu:P.underlying t=some (.slice e))(h:Rd R' sz v n xs):OpQ P R ⟨d,.binOp .eql t x (.const (.slice none 0 0)) t',ty,pos,af,g⟩ l (.bool (isNil v)):=λN a w ha hw=>by
  have hy:a.eval (.const (.slice none 0 0))=.slice none 0 0:=rfl;obtain ⟨p,c,rfl,_⟩:=h;simp only [execOp,ha.ev hx,hy,Sem.run_bind]
  have:(Op.equal t (.slice p n c) (.slice none 0 0)).run P w=.ok p.isNone w:=by show (Op.equalIn (9999+1) t (.slice p n c) (.slice none 0 0)).run P w=.ok p.isNone w;rw [Op.equalIn];cases p<;>simp [run_underlying hu]
  simp [eqGuard,binOp,this];cases p<;>rfl
end
section
variable{C:Cx}{l:Env}{M J:Mem}{K:Env->Mem->Mem->Prop}{d:Nat}{s t e ty:TypeId}{pos:String}{af:Array Edge}{g:Option (Nat×Bool)}{x y:Operand}{ws:List Nat}{S:ByteArray}
theorem A4v(hx:ev l x=some (.string S))(hS:S=txt ws)(h256:∀x∈ws,x<256)(hs:C.P.underlying s=some .string)(ht:C.P.underlying t=some (.slice e))(he:C.P.underlying e=some (.int .u8))(hd:Nat.blt d C.N=true)
    (k:∀v B,Rd B 1 v ws.length (nums .u8 ws)->K ((d,v)::l) (B++M) J):OpL C ⟨some d,.convert s t x,ty,pos,af,g⟩ l M J K:=by
  subst hS;intro Qp a w ha hw;unfold Oper.wp;simp only [execOp,ha.ev hx,Sem.run_bind,Lib.run_convert_string_bytes w s t e (txt ws) hs ht he,Result.andThen_ok,Sem.run_pure];have hsz:(txt ws).size=ws.length:=A0z ws
  have e1:Lib.bytesWorld w e (txt ws)=w.drew.alloc (.cells (Lib.bytesCells w e (txt ws)) e ((Lib.bytesCells w e (txt ws)).size,(Lib.bytesCells w e (txt ws)).size+1)):=by
    have hh:(Lib.bytesWorld w e (txt ws)).heap=(w.drew.alloc (.cells (Lib.bytesCells w e (txt ws)) e ((Lib.bytesCells w e (txt ws)).size,(Lib.bytesCells w e (txt ws)).size+1))).heap:=by
      apply Array.ext_getElem?;intro i;rcases Nat.lt_trichotomy i w.heap.size with h|h|h
      . rw [Lib.bytesWorld_at_old w e _ i h];simp [World.alloc,World.drew,Array.getElem?_push,-World.alloc_eq,-World.drew_eq];omega
      . subst h;rw [Lib.bytesWorld_at_new];simp [World.alloc,World.drew,-World.alloc_eq,-World.drew_eq]
      . rw [Array.getElem?_eq_none (by rw [Lib.bytesWorld_size];omega),Array.getElem?_eq_none (by simp [World.alloc,World.drew,-World.alloc_eq,-World.drew_eq];omega)]
    have:Lib.bytesWorld w e (txt ws)={ w.drew with heap:=(Lib.bytesWorld w e (txt ws)).heap }:=rfl;rw [this,hh];rfl
  rw [e1];have hg:ws.length<=grownCap w (txt ws).size 0 e:=hsz▸grownCap_ge w (txt ws).size 0 e;refine ⟨_,_,J,ha.put (L7 hd) _,hw.drew.alloc _,k _ [(_,_)] ⟨some ⟨w.heap.size,0,none⟩,grownCap w (txt ws).size 0 e,by rw [hsz],by simp,hg,.inr ⟨w.heap.size,0,(Lib.bytesCells w e (txt ws)).toList,e,_,E,List.mem_singleton.2 E,λj u hj=>?_⟩⟩⟩;have hjl:j<ws.length:=by have:=(Ac.1 hj).1;simpa using this
  rw [W2 hjl] at hj;cases hj;have h1:=getD_lt (i:=j) h256 (by decide);rw [Nat.zero_add,Array.getElem?_toList];unfold Lib.bytesCells;rw [Array.getElem?_append_left (by simpa [txt] using hjl)];simp [txt,hjl,List.getD];have:ws[j]?.getD 0<256:=h1;rw [Ab hjl] at this;simp at this;omega
end
end Go.Px

namespace Go.Px
def ndF:Nat->Nat->Nat
  | 0,_=>1
  | f+1,u=>if u<10 then 1 else ndF f (u/10)+1
def nd10(u:Nat):Nat:=ndF 64 u
def dgs(n u:Nat):List Nat:=(List.range n).map λj=>48+u/10^(n-1-j)%10
def dec(u:Nat):List Nat:=dgs (nd10 u) u
def dv(l:List Nat):Nat:=l.foldl (λa c=>a*10+(c-48)) 0
theorem A4w:∀f u,1<=ndF f u
  | 0,_=>Av _
  | f+1,u=>by unfold ndF;split<;>omega
theorem A7B:∀f u,u<10^(f+1)->u<10^ndF f u
  | 0,u,h=>by simpa [ndF] using h
  | f+1,u,h=>by
    unfold ndF;split
    . simpa using by assumption
    . have h1:u/10<10^(f+1):=Nat.div_lt_of_lt_mul (by rw [<- Nat.pow_succ'];exact h);have:=A7B f (u/10) h1;rw [Nat.pow_succ];omega
theorem A9y:∀f u,10<=u->10^(ndF f u-1)<=u
  | 0,u,h=>by simp [ndF];omega
  | f+1,u,h=>by
    unfold ndF;rw [if_neg (by omega),Nat.add_sub_cancel];by_cases h2:10<=u/10
    . have h3:=A9y f (u/10) h2;have h4:=A4w f (u/10);rw [show ndF f (u/10)=(ndF f (u/10)-1)+1 by omega,Nat.pow_succ];omega
    . have:ndF f (u/10)=1:=by
        cases f with
        | zero=>rfl
        | succ f=>unfold ndF;rw [if_pos (by omega)]
      rw [this];simpa using h
variable{u:Nat}
theorem A7C{n:Nat}(hn:0<n)(h:u<10^n)(h2:n=1∨10^(n-1)<=u)(hu:u<18446744073709551616):nd10 u=n:=by
  have h1:u<10^nd10 u:=A7B 64 u (Nat.lt_trans hu (by decide));have h0:1<=nd10 u:=A4w 64 u;by_cases h10:10<=u
  . have h3:10^(nd10 u-1)<=u:=A9y 64 u h10
    have h4:10^(n-1)<=u:=by
      rcases h2 with rfl|h2
      . simp;omega
      . exact h2
    have a:nd10 u-1<n:=(Nat.pow_lt_pow_iff_right (by decide:1<10)).1 (Be h3 h);have b:n-1<nd10 u:=(Nat.pow_lt_pow_iff_right (by decide:1<10)).1 (Be h4 h1);omega
  . have hd:nd10 u=1:=by unfold nd10 ndF;rw [if_pos (by omega)]
    rcases h2 with rfl|h2
    . exact hd
    . have:10^(n-1)<10^1:=by omega
      have:=(Nat.pow_lt_pow_iff_right (by decide:1<10)).1 this;omega
theorem A1D(hu:u<18446744073709551616):nd10 u<=20:=by
  by_cases h10:10<=u
  . have h3:10^(nd10 u-1)<=u:=A9y 64 u h10;have:10^(nd10 u-1)<10^20:=Be h3 (Nat.lt_trans hu (by decide));have:=(Nat.pow_lt_pow_iff_right (by decide:1<10)).1 this;omega
  . have hd:nd10 u=1:=by unfold nd10 ndF;rw [if_pos (by omega)]
    omega
theorem A2i(n u:Nat):(dgs n u).length=n:=by simp [dgs]
variable{c:Nat}
theorem B9Z{n:Nat}(h:c∈dgs n u):48<=c∧c<58:=by simp only [dgs,List.mem_map] at h;obtain ⟨j,_,rfl⟩:=h;omega
theorem B6B(n u:Nat):dgs (n+1) u=dgs n (u/10)++[48+u%10]:=by
  unfold dgs;rw [List.range_succ,List.map_append];congr 1
  . apply Bv;intro j hj;have:=List.mem_range.1 hj;rw [Bw,<- Nat.pow_succ'];congr 4;omega
  . simp
theorem B8C(l:List Nat)(c:Nat):dv (l++[c])=dv l*10+(c-48):=by simp [dv]
theorem B8D:∀n u,dv (dgs n u)=u%10^n
  | 0,u=>by simp [dgs,dv,Nat.mod_one]
  | n+1,u=>by rw [B6B,B8C,B8D n,Nat.pow_succ',Nat.mod_mul];omega
theorem A1E(hu:u<18446744073709551616):dv (dec u)=u:=by unfold dec nd10;rw [B8D,Af (A7B 64 u (Nat.lt_trans hu (by decide)))]
theorem A1F(h:c∈dec u):48<=c∧c<58:=B9Z h
theorem A2j(u:Nat):(dec u).length=nd10 u:=A2i _ _
def A18(i:Int):List Nat:=if i<0 then 45::dec i.natAbs else dec i.natAbs
variable{i:Int}
theorem A6o(h:c∈A18 i):c=45∨(48<=c∧c<58):=by
  unfold A18 at h;split at h
  . rcases List.mem_cons.1 h with h|h
    . exact .inl h
    . exact .inr (A1F h)
  . exact .inr (A1F h)
theorem A9z{j:Int}(hi:i.natAbs<18446744073709551616)(hj:j.natAbs<18446744073709551616)(h:A18 i=A18 j):i=j:=by
  have head:∀(u:Nat) (l:List Nat),dec u≠45::l:=by
    intro u l e;have:45∈dec u:=by rw [e];exact Ax
    have:=A1F this;omega
  unfold A18 at h;split at h<;>split at h
  . have:=congrArg dv (List.cons.inj h).2;rw [A1E hi,A1E hj] at this;omega
  . exact absurd h.symm (head _ _)
  . exact absurd h (head _ _)
  . have:=congrArg dv h;rw [A1E hi,A1E hj] at this;omega
theorem A36(h:i.natAbs<18446744073709551616):(A18 i).length<=21:=by have:=A1D h;unfold A18;split<;>simp [A2j]<;>omega
def B1y(f:List Nat)(fs:List (List Nat)):List Nat:=f++fs.flatMap (λx=>32::x)
theorem A6p{c:Nat}:∀ {a b x y:List Nat},c∉a->c∉b->a++c::x=b++c::y->a=b∧x=y
  | [],[],x,y,_,_,h=>⟨E,(List.cons.inj h).2⟩
  | [],b::bs,x,y,_,hb,h=>by have:=(List.cons.inj h).1;exact absurd (this▸Ax) hb
  | a::as_,[],x,y,ha,_,h=>by have:=(List.cons.inj h).1;exact absurd (this▸Ax) ha
  | a::as_,b::bs,x,y,ha,hb,h=>by obtain ⟨h1,h2⟩:=List.cons.inj h;obtain ⟨h3,h4⟩:=A6p (λh=>ha (Bb _ h)) (λh=>hb (Bb _ h)) h2;exact ⟨by rw [h1,h3],h4⟩
theorem A9A:∀ {fs gs:List (List Nat)} {f g:List Nat},32∉f->32∉g->(∀x∈fs,32∉x)->(∀x∈gs,32∉x)->B1y f fs=B1y g gs->f=g∧fs=gs
  | [],[],f,g,_,_,_,_,h=>⟨by simpa [B1y] using h,E⟩
  | [],y::gs,f,g,hf,hg,_,_,h=>by
    have:32∈f:=by
      have e:f=g++32::(y++gs.flatMap λx=>32::x):=by simpa [B1y] using h
      rw [e];simp
    exact absurd this hf
  | y::fs,[],f,g,hf,hg,_,_,h=>by
    have:32∈g:=by
      have e:f++32::(y++fs.flatMap λx=>32::x)=g:=by simpa [B1y] using h
      rw [<- e];simp
    exact absurd this hg
  | y::fs,z::gs,f,g,hf,hg,h1,h2,h=>by
    have e:f++32::B1y y fs=g++32::B1y z gs:=by simpa [B1y] using h
    obtain ⟨a,b⟩:=A6p hf hg e;obtain ⟨c,d⟩:=A9A (h1 y (by simp)) (h2 z (by simp)) (λx hx=>h1 x (by simp [hx])) (λx hx=>h2 x (by simp [hx])) b;exact ⟨a,by rw [c,d]⟩
structure Tm where
  kind:Nat
  of:List Int
  text:List Nat
  n:Int
def Tm.nm(t:Tm):List Nat:=B1y (dec t.kind) (A18 t.n::t.of.map A18)++58::t.text
structure Tm.ok(t:Tm):Prop where
  kind:t.kind<256
  n:t.n.natAbs<18446744073709551616
  of:∀i∈t.of,i.natAbs<18446744073709551616
  text:∀c∈t.text,c<256
theorem A0L(h:c=32∨c=58):c∉A18 i:=λhc=>by have:=A6o hc;omega
theorem A0A(h:c=32∨c=58):c∉dec u:=λhc=>by have:=A1F hc;omega
theorem Tm.nm_inj{s t:Tm}(hs:s.ok)(ht:t.ok)(h:s.nm=t.nm):s=t:=by
  have no58:∀(u:Tm),58∉B1y (dec u.kind) (A18 u.n::u.of.map A18):=by
    intro u hc;simp only [B1y,List.mem_append,List.mem_flatMap,Cz,List.mem_map] at hc;rcases hc with hc|⟨x,hx,hc⟩
    . exact A0A (.inr E) hc
    . rcases hc with hc|hc
      . omega
      . rcases hx with rfl|⟨i,_,rfl⟩
        . exact A0L (.inr E) hc
        . exact A0L (.inr E) hc
  have no32:∀(u:Tm),∀x∈A18 u.n::u.of.map A18,32∉x:=by
    intro u x hx;rcases List.mem_cons.1 hx with rfl|hx
    . exact A0L (.inl E)
    . obtain ⟨i,_,rfl⟩:=List.mem_map.1 hx;exact A0L (.inl E)
  obtain ⟨h1,h2⟩:=A6p (no58 s) (no58 t) h;obtain ⟨h3,h4⟩:=A9A (A0A (.inl E)) (A0A (.inl E)) (no32 s) (no32 t) h1;obtain ⟨h5,h6⟩:=List.cons.inj h4
  have e1:s.kind=t.kind:=by have:=congrArg dv h3;have a:=hs.kind;have b:=ht.kind;rwa [A1E (by omega),A1E (by omega)] at this
  have e2:=A9z hs.n ht.n h5
  have e3:s.of=t.of:=by
    have a:=hs.of;have b:=ht.of;generalize s.of=l at h6 a;generalize t.of=m at h6 b;clear h4 h1 h h3 h5 h2
    induction l generalizing m with
    | nil=>cases m with
      | nil=>rfl
      | cons y m=>simp at h6
    | cons x l ih =>
      cases m with
      | nil=>simp at h6
      | cons y m =>
        simp only [List.map_cons,List.cons.injEq] at h6;rw [A9z (a x (by simp)) (b y (by simp)) h6.1,ih (λi hi=>a i (by simp [hi])) m h6.2 (λi hi=>b i (by simp [hi]))]
  cases s;cases t
  simp_all
end Go.Px

namespace Go.Px
structure Gw where
  i:Nat
  d:Nat
  φ:Value->Mem->Mem->Prop
def V0(G:List Gw)(vs:Nat->Value):Env:=G.map λg=>(g.d,vs g.i)
def A19(φ:Value->Mem->Mem->Prop):Prop:=∀v B R R',(∀x∈R,x∈R')->φ v B R->φ v B R'
def toG(G:List Gw):List Gm:=G.map λg=>⟨g.i,g.d,λ_ _=>True⟩
theorem C5c(G:List Gw):(toG G).map (·.i)=G.map (·.i):=by simp [toG]
theorem C5d(G:List Gw):(toG G).map (·.d)=G.map (·.d):=by simp [toG]
theorem B2q(G:List Gw)(vs:Nat->Value):A3V (toG G) vs=V0 G vs:=by simp [A3V,V0,toG]
variable{G:List Gw}
theorem B8E(h:(G.map (·.i)).Nodup){g g':Gw}(hg:g∈G)(hg':g'∈G)(e:g.i=g'.i):g=g':=by
  induction G with
  | nil=>cases hg
  | cons x G ih =>
    simp only [List.map_cons,List.nodup_cons] at h;rcases List.mem_cons.1 hg with h1|h1<;>rcases List.mem_cons.1 hg' with h2|h2
    . rw [h1,h2]
    . exact absurd (by rw [<- h1,e];exact Al (f:=Gw.i) h2) h.1
    . exact absurd (by rw [<- h2,<- e];exact Al (f:=Gw.i) h1) h.1
    . exact ih h.2 h1 h2
theorem A6q{X:List Nat}:∀ {Y:List Nat},X.Nodup->Y.Nodup->(∀x,x∈X↔x∈Y)->X.Perm Y:=by
  induction X with
  | nil =>
    intro Y _ _ h
    cases Y with
    | nil=>exact .refl _
    | cons y Y=>exact absurd ((h y).2 Ax) (by simp)
  | cons x X ih =>
    intro Y hX hY h;simp only [List.nodup_cons] at hX;have hx:x∈Y:=(h x).1 Ax;refine List.Perm.trans (List.Perm.cons x (ih hX.2 (hY.erase x) λz=>?_)) (List.perm_cons_erase hx).symm;constructor
    . intro hz;exact (List.mem_erase_of_ne (λe:z=x=>hX.1 (by rw [<- e];exact hz))).2 ((h z).1 (Bb _ hz))
    . intro hz;have hne:z≠x:=λe=>by rw [e] at hz;exact (List.Nodup.not_mem_erase hY) hz
      rcases List.mem_cons.1 ((h z).2 (List.mem_of_mem_erase hz)) with e|hm
      . exact absurd e hne
      . exact hm
section group
variable{C:Cx}{Q:XQ}{l:Env}{M J:Mem}{os:List Oper}{K:Nat->Prop}{n0:Nat}{nd:List Nat}{plan:List (Nat×Nat)}
def Q6(X:List Nat)(bs:Nat->Mem):Mem:=(X.map bs).flatten
def B0J(C:Cx)(os:List Oper)(l:Env)(M J:Mem)(G:List Gw)(g:Gw):Prop :=
  ∃o,nth os g.i=some o∧∀(vs:Nat->Value) (bs:Nat->Mem) (R:Mem) (w:World),(∀x∈M++(J++C.A),x∈R)->(∀g'∈G,anc os.toArray os.toArray.size g.i g'.i=true->g'.φ (vs g'.i) (bs g'.i) R) ->
    B6x os (V0 G vs++l) o∧OpL ⟨C.P,w,[],R,C.N⟩ o (V0 G vs++l) [] [] (λl' M' J'=>∃v,l'=(g.d,v)::(V0 G vs++l)∧g.φ v M' (M'++(J'++R)))
theorem B2r(hmono:∀g∈G,A19 g.φ)(hd:(G.map (·.d)).Nodup)(hi:(G.map (·.i)).Nodup)(hob:∀g∈G,B0J C os l M J G g){A B:Array Bool}(hok:GOk os.toArray A (G.map (·.i)) B)
    (hfin:∀(vs:Nat->Value) (bs:Nat->Mem) Jn a w,(∀g∈G,g.φ (vs g.i) (bs g.i) ((Q6 (G.map (·.i)) bs++M)++((Jn++J)++C.A)))->(∀g∈G,∀x∈bs g.i,n0<=x.1)->Ag C.N (V0 G vs++l) a->St C (Q6 (G.map (·.i)) bs++M) (Jn++J) w->n0<=w.heap.size->A0K C.P os.toArray (T5 (A8n C Q)) (Sk K) nd.contains plan.length B a w) :
    ∀(n:Nat) (X:List Nat) (vs:Nat->Value) (bs:Nat->Mem) (Jn:Mem) (a:Act) (w:World),X.Nodup->(∀i∈X,i∈G.map (·.i))->n+X.length=G.length->R6 os.toArray (mark A X) ->
      (∀g∈G,g.i∈X->g.φ (vs g.i) (bs g.i) ((Q6 X bs++M)++((Jn++J)++C.A)))->(∀i∈X,∀x∈bs i,n0<=x.1)->Ag C.N (V0 G vs++l) a->St C (Q6 X bs++M) (Jn++J) w->n0<=w.heap.size ->
      A0K C.P os.toArray (T5 (A8n C Q)) (Sk K) nd.contains (n+plan.length) (mark A X) a w:=by
  intro n
  induction n with
  | zero =>
    intro X vs bs Jn a w hnd hX hlen hcl hφ hN ha hw hn
    have hall:∀i,i∈X↔i∈G.map (·.i):=λi=>⟨hX i,A2N hnd hX (by simp;omega) i⟩
    have hperm:(Q6 X bs++M).Perm (Q6 (G.map (·.i)) bs++M):=List.Perm.append_right _ (List.Perm.flatten ((A6q hnd hi hall).map bs));rw [Nat.zero_add,A6m hall,<- hok.mark];refine hfin vs bs Jn a w (λg hg=>hmono g hg _ _ _ _ (λx hx=>?_) (hφ g hg ((hall _).2 (Al (f:=Gw.i) hg)))) (λg hg=>hN g.i ((hall _).2 (Al (f:=Gw.i) hg))) ha (hw.perm hperm) hn;rcases List.mem_append.1 hx with h|h
    . exact Ae _ (hperm.mem_iff.1 h)
    . exact Ai _ h
  | succ n ih =>
    intro X vs bs Jn a w hnd hX hlen hcl hφ hN ha hw hn
    have hmiss:∃k∈G.map (·.i),k∉X:=by apply Classical.byContradiction;intro hno;have hs:∀k∈G.map (·.i),k∈X:=λk hk=>Classical.byContradiction λh=>hno ⟨k,hk,h⟩;have:=A2M hi hs;simp at this;omega
    obtain ⟨k,hkG,hkX⟩:=hmiss
    have hun:∀i∈G.map (·.i),A.getD i true=false:=by
      have:∀ {is A B},GOk os.toArray A is B->∀i∈is,A.getD i true=false:=by
        intro is A B h
        induction h with
        | nil=>intro i hi;cases hi
        | @cons A B i r hr ho h ih =>
          intro k hk;rcases List.mem_cons.1 hk with rfl|hk
          . exact L1 hr
          . have h2:=ih k hk;by_cases e:i=k
            . subst e;exact L1 hr
            . rwa [getD_set_ne true e] at h2
      exact this hok
    have hkun:(mark A X).getD k true=false:=I4.2 ⟨hun k hkG,λh=>hkX h.1⟩;rw [show n+1+plan.length=(n+plan.length)+1 by omega];refine ⟨λh0=>?_,λi hir=>?_⟩
    . obtain ⟨i,hir⟩:=hok.first (A1y A X) (λj hj=>A1z hj) hkG hkun;rw [h0] at hir;cases hir
    . have hiG:i∈G.map (·.i):=by apply Classical.byContradiction;intro hno;have h1:=I4.1 (L1 hir);have h2:=hok.outer k hkG i (A32 hir) h1.1 hno;exact U5 hkun (R7 hcl h2 hir)
      obtain ⟨g,hg,rfl⟩:=List.mem_map.1 hiG;have hiX:g.i∉X:=λh=>(I4.1 (L1 hir)).2 ⟨h,Y9 (hun _ hiG)⟩;obtain ⟨o,hget,howe⟩:=hob g hg;have hi':os.toArray[g.i]? = some o:=by rw [W8] at hget;simpa using hget
      obtain ⟨hask,hop⟩:=howe vs bs ((Q6 X bs++M)++((Jn++J)++C.A)) w (λx hx=>by simp only [List.mem_append] at hx ⊢;rcases hx with h|h|h<;>simp [h]) (λg' hg' hanc=>hφ g' hg' (by
        have h3:=R7 hcl hanc hir;rcases A0w h3 with h4|h4
        . exact (U5 (hun _ (Al (f:=Gw.i) hg')) h4).elim
        . exact h4))
      unfold wpOp;simp only [hi'];rw [if_pos (hask.wanted ha)];have hcal:=hw.callee (Mc:=[]) (R:=Q6 X bs++M) (.refl _);refine .inl (Oper.wp_mono ?_ (hop _ a w ha hcal.cx));rintro a' w' ⟨l',M',J',ha',hs',v,rfl,hφv⟩;have hsz:w.heap.size<=w'.heap.size:=hs'.size;have hb:=hw.back (Mc:=[]) (R:=Q6 X bs++M) (.refl _) hs'.cx
      let bs':Nat->Mem:=λk=>if k=g.i then M' else bs k
      have hown:Q6 (X++[g.i]) bs'=Q6 X bs++M':=by
        have e1:X.map bs'=X.map bs:=Bv λx hx=>by have:x≠g.i:=λe=>hiX (e▸hx);simp [bs',this]
        simp [Q6,List.map_append,e1,bs']
      have hperm:(M'++(Q6 X bs++M)).Perm (Q6 (X++[g.i]) bs'++M):=by rw [hown,<- Ap];exact List.Perm.append_right _ List.perm_append_comm
      have hfr2:St C (Q6 (X++[g.i]) bs'++M) ((J'++Jn)++J) w':=(hb.perm hperm).drop (Ao _) λx hx=>by simp only [List.mem_append] at hx ⊢;rcases hx with (h|h)|h<;>simp [h]
      refine ⟨λ_ b hb' hnk=>hs'.frame b hb' (by simp),?_⟩;rw [<- U2];have henv:=A2O (N:=C.N) (G:=toG G) (l:=l) (vs:=vs) (g:=⟨g.i,g.d,λ_ _=>True⟩) (a:=a') (v:=v) (Al (f:=λg:Gw=>(⟨g.i,g.d,λ_ _=>True⟩:Gm)) hg) (by rw [C5d];exact hd) (by rw [C5c];exact hi) (by rw [B2q];exact ha');rw [B2q] at henv;refine ih (X++[g.i]) (λk=>if k=g.i then v else vs k) bs' (J'++Jn) a' w' ?_ ?_ (by simp;omega) ?_ ?_ ?_ henv hfr2 (Az hn hsz)
      . rw [List.nodup_append];exact ⟨hnd,by simp,λx hx y hy e=>hiX (by simp at hy;subst hy;exact e▸hx)⟩
      . intro j hj;rcases List.mem_append.1 hj with hj|hj
        . exact hX j hj
        . simp at hj;subst hj;exact hiG
      . rw [U2];exact I6 hcl hir
      . intro g' hg' hm;rw [hown];by_cases e:g'.i=g.i
        . have:g'=g:=B8E hi hg' hg e;subst this;simp only [if_true,bs'];exact hmono g' hg' _ _ _ _ (λx hx=>by simp only [List.mem_append] at hx ⊢;rcases hx with h|h|(h|h)|(h|h)|h<;>simp [h]) hφv
        . simp only [e,if_false,bs'];have hm':g'.i∈X:=by simpa [e] using hm
          exact hmono g' hg' _ _ _ _ (λx hx=>by simp only [List.mem_append] at hx ⊢;rcases hx with (h|h)|(h|h)|h<;>simp [h]) (hφ g' hg' hm')
      . intro k hk x hx;by_cases e:k=g.i
        . subst e;simp only [if_true,bs'] at hx;rcases hs'.own x.1 x.2 (by simp [hx]) with h6|h6
          . cases h6
          . exact Az hn h6
        . simp only [e,if_false,bs'] at hx;have hk':k∈X:=by simpa [e] using hk
          exact hN k hk' x hx
theorem A7D(G:List Gw)(hmono:∀g∈G,A19 g.φ)(hd:(G.map (·.d)).Nodup)(hi:(G.map (·.i)).Nodup)(hdN:∀g∈G,g.d<C.N)(hob:∀g∈G,B0J C os l M J G g)
    (h:∀(vs:Nat->Value) (bs:Nat->Mem) Jn,(∀g∈G,g.φ (vs g.i) (bs g.i) ((Q6 (G.map (·.i)) bs++M)++((Jn++J)++C.A)))->(∀g∈G,∀x∈bs g.i,n0<=x.1)->XK C os Q K n0 nd plan (V0 G vs++l) (Q6 (G.map (·.i)) bs++M) (Jn++J)):XK C os Q K n0 nd (enc (G.map (·.i))++plan) l M J:=by
  intro listed hcl hp a w ha hw hn;obtain ⟨B,hok,hp2⟩:=A9w hp
  have hBcl:R6 os.toArray B:=by
    have:∀ {A is B},GOk os.toArray A is B->R6 os.toArray A->R6 os.toArray B:=by
      intro A is B h
      induction h with
      | nil=>exact id
      | cons hr _ _ ih=>exact λhc=>ih (I6 hc hr)
    exact this hok hcl
  have hlen:(enc (G.map (·.i))++plan).length=G.length+plan.length:=by
    have:∀is:List Nat,(enc is).length=is.length:=by
      intro is
      induction is with
      | nil=>rfl
      | cons i r ih=>cases r with
        | nil=>rfl
        | cons j r=>simp only [enc,List.length_cons] at ih ⊢;rw [ih]
    simp [this]
  rw [hlen]
  let vs:Nat->Value:=λk=>match G.find? (λg=>g.i==k) with
    | some g=>(a.tmps[g.d]?).getD undef
    | none=>undef
  have hag:Ag C.N (V0 G vs++l) a:=by
    refine ⟨ha.defers,ha.size,?_⟩;intro k u hk
    have key:∀G':List Gw,(∀g∈G',g∈G)->lk (V0 G' vs++l) k=some u->a.tmps[k]? = some u:=by
      intro G'
      induction G' with
      | nil=>intro _ h;exact ha.slot k u h
      | cons g G' ih =>
        intro hs h;simp only [V0,List.map_cons,Cy,lk] at h;by_cases e:g.d=k
        . subst e;simp at h
          have hf:G.find? (λx=>x.i==g.i)=some g:=by
            have hgG:=hs g Ax
            cases hq:G.find? (λx=>x.i==g.i) with
            | none=>have:=List.find?_eq_none.1 hq g hgG;simp at this
            | some x =>
              have h1:=List.find?_some hq;have h2:=List.mem_of_find?_eq_some hq;rw [B8E hi h2 hgG (by simpa using h1)]
          have hlt:g.d<a.tmps.size:=by rw [ha.size];exact hdN g (hs g Ax)
          rw [<- h];show a.tmps[g.d]? = some (vs g.i);simp only [vs,hf,Array.getElem?_eq_getElem hlt,Option.getD_some]
        . simp only [A0p e,cond_false] at h;exact ih (λx hx=>hs x (Bb _ hx)) h
    exact key G (λ_ h=>h) hk
  exact B2r (n0:=n0) (K:=K) hmono hd hi hob hok (λvs bs Jn a w hφ hN ha hw hn=>h vs bs Jn hφ hN B hBcl hp2 a w ha hw hn) G.length [] vs (λ_=>[]) [] a w .nil (λ_ h=>by cases h) (by simp) hcl (λ_ _ h=>by cases h) (λ_ h=>by cases h) hag hw hn
theorem A7E(G:List Gw)(hmono:∀g∈G,A19 g.φ)(hd:(G.map (·.d)).Nodup)(hi:(G.map (·.i)).Nodup)(hdN:∀g∈G,g.d<C.N)(hob:∀g∈G,B0J C os l M J G g)
    (h:∀(vs:Nat->Value) (bs:Nat->Mem) Jn,(∀g∈G,g.φ (vs g.i) (bs g.i) ((Q6 (G.map (·.i)) bs++M)++((Jn++J)++C.A)))->XK C os Q K n0 nd plan (V0 G vs++l) (Q6 (G.map (·.i)) bs++M) (Jn++J)):XK C os Q K n0 nd (enc (G.map (·.i))++plan) l M J:=A7D G hmono hd hi hdN hob λvs bs Jn hφ _=>h vs bs Jn hφ
theorem N5(G:List Gw)(hmono:∀g∈G,A19 g.φ)(hd:(G.map (·.d)).Nodup)(hi:(G.map (·.i)).Nodup)(hdN:∀g∈G,g.d<C.N)(hob:∀g∈G,B0J C os l M J G g)
    (h:∀(vs:Nat->Value) (bs:Nat->Mem) Jn,(∀g∈G,g.φ (vs g.i) (bs g.i) ((Q6 (G.map (·.i)) bs++M)++((Jn++J)++C.A)))->XF C os Q nd plan (V0 G vs++l) (Q6 (G.map (·.i)) bs++M) (Jn++J)):XF C os Q nd (enc (G.map (·.i))++plan) l M J:=A7E G hmono hd hi hdN hob h
end group
theorem gM{φ:Value->Mem->Mem->Prop}(h:A19 φ:=by exact λ_ _ _ _ _ h=>h):A19 φ:=h
theorem gO{C:Cx}{os:List Oper}{l:Env}{M J:Mem}{Gs:List Gw}{g:Gw}{o:Oper}(h:∀(vs:Nat->Value) (bs:Nat->Mem) (R:Mem) (w:World),(∀x∈M++(J++C.A),x∈R)->(∀g'∈G,anc os.toArray os.toArray.size g.i g'.i=true->g'.φ (vs g'.i) (bs g'.i) R)->OpL ⟨C.P,w,[],R,C.N⟩ o (V0 G vs++l) [] [] (λl' M' J'=>∃v,l'=(g.d,v)::(V0 G vs++l)∧g.φ v M' (M'++(J'++R))))
    (t:∀g∈Gs,B0J C os l M J G g) (ho:nth os g.i=some o:=by exact E) (hg:o.guard=none:=by exact E):∀x∈g::Gs,B0J C os l M J G x:=A7 ⟨o,ho,λvs bs R w hb ha=>⟨.inl hg,h vs bs R w hb ha⟩⟩ t
end Go.Px

namespace Go.Proofs.YtgpjndfgjjlhaaaGreatDoor
open Go.Px
def C2H:LN:=(List.range 256).map λc=>if c=0 then 0 else c.log2+1
theorem B6C:∀x∈C2H,x<256:=by decide +kernel
set_option maxRecDepth 10000 in
theorem B6D:∀c:Fin 256,c.val<2^(C2H.getD c 0)∧C2H.getD c 0<=8∧(0<c.val->2^(C2H.getD c 0-1)<=c.val):=by decide +kernel
variable{x n:Nat}
theorem B6E{y T:Nat}(h:x/2^n=y)(h1:y<2^T):x<2^(n+T):=by rw [Nat.pow_add];have:=(Nat.div_lt_iff_lt_mul (Ca n)).1 (h▸h1);rwa [Nat.mul_comm] at this
theorem B2s{y T:Nat}(h:x/2^n=y)(hy:0<y)(hT:2^(T-1)<=y)(h1:y<2^T):2^(n+T-1)<=x:=by
  have h0:T≠0:=by rintro rfl;simp at h1;omega
  rw [show n+T-1=n+(T-1) by omega,Nat.pow_add];have:=Nat.div_mul_le_self x (2^n);rw [h] at this;exact Az (by rw [Nat.mul_comm];exact Au _ hT) this
def A6r:LN:=(List.range 100).flatMap λp=>[48+p/10,48+p%10]
theorem A5E:∀x∈A6r,x<256:=by decide +kernel
theorem A5F:∀p:Fin 100,A6r.getD (2*p.val) 0=48+p.val/10∧A6r.getD (2*p.val+1) 0=48+p.val%10:=by decide +kernel
theorem A3f:A6r.length=200:=by decide +kernel
def A0M:LN:=(List.range 20).map λi=>10^i
theorem A7F:∀n:Fin 65,2^n.val<=10^(n.val*78913/262144+1)∧n.val*78913/262144<=19∧(n.val*78913/262144=0∨10^(n.val*78913/262144-1)<=2^(n.val-1)):=by decide +kernel
theorem B2t:∀t:Fin 20,A0M.getD t 0=10^t.val:=by decide +kernel
theorem C2I(h0:0<x)(hn:n<=64)(h1:x<2^n)(h2:2^(n-1)<=x):n*78913/262144+(if 10^(n*78913/262144)<=x then 1 else 0)=nd10 x:=by
  obtain ⟨a,b,c⟩:=A7F ⟨n,by omega⟩;simp only at a b c;have hx:x<18446744073709551616:=Bp h1 (Br qD hn:2^n<=2^64);generalize n*78913/262144=t at *;split
  . rename_i h;exact (A7C qO (Bp h1 a) (.inr (by simpa using h)) hx).symm
  . rename_i h;have ht:t≠0:=by rintro rfl;simp at h;omega
    rw [Nat.add_zero];refine (A7C qO qO (.inr ?_) hx).symm;rcases c with c|c
    . exact absurd c ht
    . exact Az c h2
theorem B6F(k u:Nat):dgs (k+1) u=(48+u/10^k%10)::dgs k u:=by unfold dgs;rw [show List.range (k+1)=0::(List.range k).map (· + 1) from List.range_succ_eq_map,List.map_cons,List.map_map];congr 1;apply Bv;intro j hj;have:=List.mem_range.1 hj;simp only [Function.comp];congr 4;omega
variable{xs r:LN}{o m k u:Nat}
theorem A4x(hm:0<m)(hl:o+m<=xs.length):(xs.take (o+m)++(dgs k u++r)).set (o+(m-1)) (48+u/10^k%10)=xs.take (o+(m-1))++(dgs (k+1) u++r):=by
  have e:xs.take (o+m)=xs.take (o+(m-1))++[xs[o+(m-1)]'qO]:=by rw [show o+m=(o+(m-1))+1 by omega,Bh,Ab qO];rfl
  rw [e,B6F,Ap,List.set_append_right _ _ (by rw [Bj];omega),Bj,Nat.min_eq_left qO,Nat.sub_self];simp
theorem A2k{p:Nat}(hm:2<=m)(hl:o+m<=xs.length)(hp:p=u/10^k%100):((xs.take (o+m)++(dgs k u++r)).set (o+(m-1)) (48+p%10)).set (o+(m-2)) (48+p/10)=xs.take (o+(m-2))++(dgs (k+2) u++r):=by have h1:=A4x (xs:=xs) (r:=r) (o:=o) (m:=m) (k:=k) (u:=u) qO hl;have h2:=A4x (xs:=xs) (r:=r) (o:=o) (m:=m-1) (k:=k+1) (u:=u) qO qO;rw [show 48+p%10=48+u/10^k%10 by omega,h1];rw [show m-1-1=m-2 by omega] at h2;rw [show 48+p/10=48+u/10^(k+1)%10 by rw [Nat.pow_succ,<- Bw];omega,h2]
theorem V1(hl:o+m<=xs.length):(xs.take (o+m)++(dgs k u++r)).length=o+m+(k+r.length):=by simp [A2i];omega
theorem A5G(x:Nat)(hx:x<18446744073709551616)(A:Mem):FnX prog 190 [.int .u64 (x:Int)] [] A λr M J=>M=[]∧J=[]∧∃n:Nat,r=.int .i64 (n:Int)∧n<=64∧x<2^n∧(0<x->2^(n-1)<=x):=by
 refine Cn (N:=25) func190 E E E λw=>?_;refine A8 (D1 0) (A1 (as_ (A0 (D0 0 2) ?_)));refine P3 (α:=Nat×Nat) (λs=>[(0,.int .u64 (s.1:Int)),(2,.int .i64 (s.2:Int))]) (λ_=>[]) (λ_=>[]) (λs=>x/2^s.2=s.1∧s.1<4294967296∧s.2<=32∧(s.2=0∨0<s.1)) ?_ ?_
 .
  refine A1 (mV_ E (lQ_ (E3 E E E) (A0 (D5 0 2 4) ?_)));refine C2 E ?_ ?_<;>intro hc
  .
   have hge:4294967296<=x:=by simp at hc;omega
   refine A1 (mv_ ?_);refine lQ_ (P4 32 4294967296 E E E E qD) ?_;refine as_ (A0 (D1 0) (C1 (as_ (C5 ?_))));exact jn (x/4294967296,32) ⟨E,by dsimp only;omega,by dsimp only;omega,.inr (by dsimp only;omega)⟩ (D0 0 2) .rfl qI
  .
   have hlt:x<4294967296:=by simp at hc;omega
   refine A4 ?_;exact jn (x,0) ⟨by simp,hlt,by dsimp only;omega,.inl E⟩ (D0 0 2) .rfl qI
 .
  rintro ⟨y,n⟩ ⟨hy,hyb,hn,h0⟩;dsimp only at hy hyb hn h0 ⊢;refine P3 (α:=Nat×Nat) (λs=>[(0,.int .u64 (s.1:Int)),(2,.int .i64 (s.2:Int))]) (λ_=>[]) (λ_=>[]) (λs=>x/2^s.2=s.1∧s.1<65536∧s.2<=48∧(s.2=0∨0<s.1)) ?_ ?_
  .
   refine A1 (mV_ E (lQ_ (E3 E E E) (A0 (D5 0 2 8) ?_)));refine C2 E ?_ ?_<;>intro hc
   .
    have hge:65536<=y:=by simp at hc;omega
    refine A1 (mv_ ?_);refine lQ_ (P4 16 65536 E E E E qD) ?_;refine as_ (A0 (D0 0 2) (C1 (mv_ ?_)));refine lQ_ (I9 (b:=16) E E E E qO) ?_;refine as_ (C5 ?_);exact jn (y/65536,n+16) ⟨by dsimp only;rw [Nat.pow_add,<- Bw,hy],by dsimp only;omega,by dsimp only;omega,.inr (by dsimp only;omega)⟩ (D0 0 2) .rfl qI
   .
    have hlt:y<65536:=by simp at hc;omega
    refine A4 ?_;exact jn (y,n) ⟨hy,hlt,by dsimp only;omega,h0⟩ (D0 0 2) .rfl qI
  .
   clear hy hyb hn h0;rintro ⟨y,n⟩ ⟨hy,hyb,hn,h0⟩;dsimp only at hy hyb hn h0 ⊢;refine P3 (α:=Nat×Nat) (λs=>[(0,.int .u64 (s.1:Int)),(2,.int .i64 (s.2:Int))]) (λ_=>[]) (λ_=>[]) (λs=>x/2^s.2=s.1∧s.1<256∧s.2<=56∧(s.2=0∨0<s.1)) ?_ ?_
   .
    refine A1 (mV_ E (lQ_ (E3 E E E) (A0 (D5 0 2 14) ?_)));refine C2 E ?_ ?_<;>intro hc
    .
     have hge:256<=y:=by simp at hc;omega
     refine A1 (mv_ ?_);refine lQ_ (P4 8 256 E E E E qD) ?_;refine as_ (A0 (D0 0 2) (C1 (mv_ ?_)));refine lQ_ (I9 (b:=8) E E E E qO) ?_;refine as_ (C5 ?_);exact jn (y/256,n+8) ⟨by dsimp only;rw [Nat.pow_add,<- Bw,hy],by dsimp only;omega,by dsimp only;omega,.inr (by dsimp only;omega)⟩ (D0 0 2) .rfl qI
    .
     have hlt:y<256:=by simp at hc;omega
     refine A4 ?_;exact jn (y,n) ⟨hy,hlt,by dsimp only;omega,h0⟩ (D0 0 2) .rfl qI
   .
    clear hy hyb hn h0;rintro ⟨y,n⟩ ⟨hy,hyb,hn,h0⟩;dsimp only at hy hyb hn h0 ⊢;obtain ⟨k1,k2,k3⟩:=B6D ⟨y,hyb⟩;simp only at k1 k2 k3;refine A1 (mV_ E (mV_ E (lQ_ ((Af hyb:y%256=y)▸A12 E kR) ?_)));refine lQ_ (A7A (ws:=C2H) (a:=y) E kR B6C E kR E (by show _<256;omega)) ?_;refine lQ_ (A15 (k':=.i64) E kR (by show _<9223372036854775808;omega)) ?_;refine lQ_ (I9 E E E E qO) ?_;refine as_ (A0 (D1 2) (A9 ?_));refine ⟨_,[],[],H2 E E,Aa _,by simp,E,E,n+C2H.getD y 0,E,by omega,B6E hy k1,λhx=>?_⟩
    have hy0:0<y:=by
     rcases h0 with rfl|h0
     . rw [<- hy];simpa using hx
     . exact h0
    exact B2s hy hy0 (k3 hy0) k1
theorem B0K(n:Nat)(hn:n<=64)(A:Mem):FnV prog 215 [.int .i64 (n:Int)] A (.int .i64 ((n*78913/2^18:Nat):Int)):=by refine Cn (N:=6) func215 E E E λw=>?_;refine A8 (D1 0) (A1 (as_ (A0 (D1 0) (A1 (mv_ ?_)))));refine lQ_ (A1o (b:=78913) E E E E qO) ?_;refine lQ_ (A3H (b:=18) E E E E (by show _<=64;omega)) ?_;refine as_ (A0 (D1 2) (A9 ?_));exact ⟨_,[],[],H2 E E,Aa _,by simp,E,E,E⟩
theorem B0L(b:Bool)(A:Mem):FnV prog 216 [.bool b] A (vI (if b=true then 1 else 0)):=by
 refine Cn (N:=4) func216 E E E λw=>?_;refine A8 (D1 0) (A1 (as_ (A0 (D1 0) (A3 (A1 (mv_ (A0 (D1 3) ?_)))))));refine C2 E ?_ ?_<;>intro hc
 . subst hc;refine A1 (as_ (A0 (D1 2) (A9 (tr ?_))));exact ⟨_,[],[],H2 E E,Aa _,by simp,E,E,E⟩
 . subst hc;refine A4 (nx kn (A1 (as_ (A0 (D1 2) (A9 ?_)))));exact ⟨_,[],[],H2 E E,Aa _,by simp,E,E,E⟩
variable{e4:TypeId}{f4:Nat×Nat}
theorem A2a(x:Nat)(h0:0<x)(hx:x<18446744073709551616)(A:Mem)(h4:(4,Obj.cells (nums .u64 A0M).toArray e4 f4)∈A):FnV prog 202 [.int .u64 (x:Int)] A (vI (nd10 x)):=by refine Cn (N:=15) func202 E E E λw=>?_;refine A8 (D1 0) (A1 (as_ (A0 (D1 0) (A1 (mv_ ?_)))));refine C6 (aS E a0) kR (A5G x hx _) E ?_;rintro r5 M5 J5 ⟨rfl,rfl,n,rfl,hn,h1,h2⟩;replace h2:=h2 h0;have hnd:=C2I h0 hn h1 h2;obtain ⟨-,k2,-⟩:=A7F ⟨n,by omega⟩;simp only at k2;refine D8 (aS E a0) kR (B0K n hn _) E ?_;rw [show (2:Nat)^18=262144 from rfl];have k4:=B2t ⟨n*78913/262144,by omega⟩;simp only at k4;generalize n*78913/262144=t at *;refine as_ (A0 (D0 0 3) (A1 (mv_ (mv_ (mv_ ?_)))));refine lQ_ (F7 (e:=130) (n:=20) (sz:=1) (i:=t) E E kR kR E qO) ?_;refine lQ_ (H9 t E kR (mA h4) qO (by show _<20;omega)) ?_;refine lQ_ (F6 (decide (10^t<=x)) E E (by rw [k4,<- decide_eq_decide.2 (show (((10^t:Nat):Int)<=(x:Int))↔10^t<=x from Int.ofNat_le)];rfl)) ?_;refine D8 (aS E a0) kR (B0L _ _) E ?_;refine lQ_ (I9 E E E E (by split<;>omega)) ?_;refine as_ (A0 (D1 2) (A9 ?_));refine ⟨_,[],[],H2 E E,Aa _,by simp,?_,E,E⟩;rw [<- hnd];simp only [decide_eq_true_eq]
section
variable{P:Program}{R:Mem}{l:Env}{d:Option Nat}{ty t:TypeId}{pos:String}{af:Array Edge}{g:Option (Nat×Bool)}{x y:Operand}{S:ByteArray}{k:IntKind}{i:Int}{p:Nat}
theorem A1a(hx:ev l x=some (.string S))(hS:S=txt A6r)(hy:ev l y=some (.int k i))(hu:P.underlying t=some .string)(hi:i=((2*p:Nat):Int))(hp:p<100):OpQ P R ⟨d,.index t x y,ty,pos,af,g⟩ l (.int .u8 ((48+p/10:Nat):Int)) :=
  (A5F ⟨p,hp⟩).1▸A7A hx hS A5E hy hu hi (by rw [A3f];omega)
theorem A1b(hx:ev l x=some (.string S))(hS:S=txt A6r)(hy:ev l y=some (.int k i))(hu:P.underlying t=some .string)(hi:i=((2*p+1:Nat):Int))(hp:p<100):OpQ P R ⟨d,.index t x y,ty,pos,af,g⟩ l (.int .u8 ((48+p%10:Nat):Int)) :=
  (A5F ⟨p,hp⟩).2▸A7A hx hS A5E hy hu hi (by rw [A3f];omega)
end
theorem A2l(u a b:Nat):u/10^(a+b)=u/10^a/10^b:=by rw [Nat.pow_add,Bw]
theorem A6s(hu:u<10^n)(hm:m<=n):u/10^(n-m)<10^m:=by rw [Nat.div_lt_iff_lt_mul (Nat.pow_pos qD),<- Nat.pow_add];rwa [show m+(n-m)=n by omega]
theorem A7G(b o n cap u:Nat)(xs:LN)(e:TypeId)(hn:0<n)(hn20:n<=20)(hxs:o+n<=xs.length)(hu:u<10^n)(hu64:u<18446744073709551616)(A:Mem):FnX prog 203 [.slice (some ⟨b,o,none⟩) n cap,.int .u64 (u:Int)] [(b,blk (nums .u8 xs) e)] A λr M J=>J=[]∧M=[(b,blk (nums .u8 (xs.take o++(dgs n u++xs.drop (o+n)))) e)]:=by
 refine Cn (N:=167) func203 E E E λw=>?_;refine A8 (D0 0 1) (A1 (mV_ E (lQ_ (A0r (e:=5) E kR) (as_ (A0 (D5 0 1 4) (A3 (A6 ?_)))))));refine E0 (α:=Nat) (λm=>[(0,.slice (some ⟨b,o,none⟩) n cap),(1,.int .u64 ((u/10^(n-m):Nat):Int)),(4,.int .i64 (m:Int))]) (λm=>[(b,blk (nums .u8 (xs.take (o+m)++(dgs (n-m) u++xs.drop (o+n)))) e)]) (λ_=>[]) (λm=>m<=n) (λm=>m) n (Av _) (kq 0 (kp 1 (by rw [Nat.sub_self,Nat.pow_zero,Nat.div_one];rfl) (D1 4))) (Cg (by simp [dgs])) qI ?_;rintro m hm;have hb:=A6s hu hm;refine A3 (A1 (mV_ E (lQ_ (E3 E E E) (A0 (D7 0 1 4 20) ?_))));refine C2 E ?_ ?_<;>intro hc
 .
  have hm8:8<=m:=by simp at hc;omega
  obtain ⟨k,hk⟩:∃k,k=n-m:=⟨_,E⟩
  rw [<- hk];have hkm:k+m=n:=by omega
  obtain ⟨v,hv⟩:∃v,v=u/10^k:=⟨_,E⟩
  rw [<- hv];have hv64:v<18446744073709551616:=by rw [hv];exact Be (Nat.div_le_self _ _) hu64
  refine A4 (nx (D5 0 1 4) (A6 (A1 (mv_ ?_))));refine lQ_ (V5 (b:=100000000) E E E E qO) ?_;refine lQ_ (A9t E kR) ?_;rw [show v%100000000%4294967296=v%100000000 by omega]
  obtain ⟨y,hy⟩:∃y,y=v%100000000:=⟨_,E⟩
  rw [<- hy];have hy8:y<100000000:=by omega
  refine as_ (A0 (D7 0 1 4 5) (A1 (mv_ ?_)));refine lQ_ (A4u (b:=100000000) (m:=18446744073709551616) E E E E E E qO qO) ?_;refine as_ (A0 (D7 0 1 4 5) (A1 (mv_ ?_)));refine lQ_ (A4u (b:=10000) (m:=4294967296) E E E E E E qO qO) ?_;refine mv_ ?_;refine lQ_ (V5 (b:=10000) E E E E qO) ?_;refine as_ (as_ (A0 (E9 0 1 4 6 7) (A1 (mv_ ?_))));refine lQ_ (A4u (b:=100) (m:=4294967296) E E E E E E qO qO) ?_;refine lQ_ (P9 4294967296 (b:=2) E E E E E E) (mv_ ?_);refine lQ_ (V5 (b:=100) E E E E qO) ?_;refine lQ_ (P9 4294967296 (b:=2) E E E E E E) (as_ (as_ (A0 (G9 0 1 4 6 8 9) (A1 (mv_ ?_)))));refine lQ_ (A4u (b:=100) (m:=4294967296) E E E E E E qO qO) ?_;refine lQ_ (P9 4294967296 (b:=2) E E E E E E) (mv_ ?_);refine lQ_ (V5 (b:=100) E E E E qO) ?_;refine lQ_ (P9 4294967296 (b:=2) E E E E E E) (as_ (as_ (A0 (N1 0 1 4 8 9 10 11) ?_)));refine C9 [0,1,2,3,4,5,6,7,8,9,10,11,13] (zp 0 [0,0,0,0,0,0,0,0,0,0,0,0,2,0,2]) kR kR λhs=>?_;refine fM_ E E (fm_ ?_);refine fQ_ E (Q8 (b:=1) E E E E qO qO) ?_;refine fM_ E E (fm_ ?_);refine fQ_ E (Q8 (b:=2) E E E E qO qO) ?_;refine fM_ E E (fQ_ E (G7 4294967296 (b:=1) E E E E E E) ?_);refine fQ_ E (A1b (p:=(y%10000%100)) E kR E kR qO qO) ?_;refine fm_ ?_;refine fQ_ E (A1a (p:=(y%10000%100)) E kR E kR qO qO) ?_;refine fQ_ E (L6 (e:=5) (sz:=1) (i:=m-1) E E kR kR qO qO) ?_;refine G3 E E E (K4 (o+(m-1)) E E kR qO (by rw [V1 qO];omega) Cv ?_);refine fQ_ E (L6 (e:=5) (sz:=1) (i:=m-2) E E kR kR qO qO) ?_;refine G3 E E E (K4 (o+(m-2)) E E kR qO (by rw [Bk,V1 qO];omega) Cv ?_);rw [A2k qO qO (by rw [<- hv];omega)];refine E4 (G9 0 1 4 8 10 11) ?_;refine C9 [0,1,2,3,4,5,6,7,8,9,10,11,13] (zp 0 [0,0,0,0,0,0,0,0,0,0,0,0,2,0,2]) kR kR λhs=>?_;refine fM_ E E (fm_ ?_);refine fQ_ E (Q8 (b:=3) E E E E qO qO) ?_;refine fM_ E E (fm_ ?_);refine fQ_ E (Q8 (b:=4) E E E E qO qO) ?_;refine fM_ E E (fQ_ E (G7 4294967296 (b:=1) E E E E E E) ?_);refine fQ_ E (A1b (p:=(y%10000/100)) E kR E kR qO qO) ?_;refine fm_ ?_;refine fQ_ E (A1a (p:=(y%10000/100)) E kR E kR qO qO) ?_;refine fQ_ E (L6 (e:=5) (sz:=1) (i:=(m-2)-1) E E kR kR qO qO) ?_;refine G3 E E E (K4 (o+((m-2)-1)) E E kR qO (by rw [V1 qO];omega) Cv ?_);refine fQ_ E (L6 (e:=5) (sz:=1) (i:=(m-2)-2) E E kR kR qO qO) ?_;refine G3 E E E (K4 (o+((m-2)-2)) E E kR qO (by rw [Bk,V1 qO];omega) Cv ?_);rw [A2k qO qO (by rw [A2l,<- hv];omega)];refine E4 (E9 0 1 4 10 11) ?_;refine C9 [0,1,2,3,4,5,6,7,8,9,10,11,13] (zp 0 [0,0,0,0,0,0,0,0,0,0,0,0,2,0,2]) kR kR λhs=>?_;refine fM_ E E (fm_ ?_);refine fQ_ E (Q8 (b:=5) E E E E qO qO) ?_;refine fM_ E E (fm_ ?_);refine fQ_ E (Q8 (b:=6) E E E E qO qO) ?_;refine fM_ E E (fQ_ E (G7 4294967296 (b:=1) E E E E E E) ?_);refine fQ_ E (A1b (p:=(y/10000%100)) E kR E kR qO qO) ?_;refine fm_ ?_;refine fQ_ E (A1a (p:=(y/10000%100)) E kR E kR qO qO) ?_;refine fQ_ E (L6 (e:=5) (sz:=1) (i:=(m-2-2)-1) E E kR kR qO qO) ?_;refine G3 E E E (K4 (o+((m-2-2)-1)) E E kR qO (by rw [V1 qO];omega) Cv ?_);refine fQ_ E (L6 (e:=5) (sz:=1) (i:=(m-2-2)-2) E E kR kR qO qO) ?_;refine G3 E E E (K4 (o+((m-2-2)-2)) E E kR qO (by rw [Bk,V1 qO];omega) Cv ?_);rw [A2k qO qO (by rw [show k+2+2=k+4 by omega,A2l,<- hv];omega)];refine E4 (D7 0 1 4 10) ?_
  refine C9 [0,1,2,3,4,5,6,7,8,9,10,11,13] (zp 0 [0,0,0,0,0,0,0,0,0,0,0,0,2,0,2]) kR kR λhs=>?_;refine fM_ E E (fm_ ?_);refine fQ_ E (Q8 (b:=7) E E E E qO qO) ?_;refine fM_ E E (fm_ ?_);refine fQ_ E (Q8 (b:=8) E E E E qO qO) ?_;refine fM_ E E (fQ_ E (G7 4294967296 (b:=1) E E E E E E) ?_);refine fQ_ E (A1b (p:=(y/10000/100)) E kR E kR qO qO) ?_;refine fm_ ?_;refine fQ_ E (A1a (p:=(y/10000/100)) E kR E kR qO qO) ?_;refine fQ_ E (L6 (e:=5) (sz:=1) (i:=(m-2-2-2)-1) E E kR kR qO qO) ?_;refine G3 E E E (K4 (o+((m-2-2-2)-1)) E E kR qO (by rw [V1 qO];omega) Cv ?_);refine fQ_ E (L6 (e:=5) (sz:=1) (i:=(m-2-2-2)-2) E E kR kR qO qO) ?_;refine G3 E E E (K4 (o+((m-2-2-2)-2)) E E kR qO (by rw [Bk,V1 qO];omega) Cv ?_);rw [A2k qO qO (by rw [show k+2+2+2=k+6 by omega,A2l,<- hv];omega)];refine E4 (D5 0 1 4) (C1 (mv_ ?_));refine lQ_ (Q8 (b:=8) E E E E qO qO) ?_;refine as_ (C5 (nb ?_));exact rn (m-8) qO qO (kq 0 (kp 1 (by rw [show n-(m-8)=k+8 by omega,A2l,<- hv];rfl) (D1 4))) (Cg (by rw [show n-(m-8)=k+8 by omega,show m-2-2-2-2=m-8 by omega,show k+2+2+2+2=k+8 by omega])) qI
 .
  have hm8:m<8:=by simp at hc;omega
  refine D6 (te (re (be E (nx (D5 0 1 4) ?_))))
  obtain ⟨k,hk⟩:∃k,k=n-m:=⟨_,E⟩
  rw [<- hk];have hkm:k+m=n:=by omega
  obtain ⟨v,hv⟩:∃v,v=u/10^k:=⟨_,E⟩
  rw [<- hv];rw [<- hk,<- hv] at hb;have hb7:v<10000000:=Bp hb (Br qD qO:10^m<=10^7);refine A1 (mV_ E (lQ_ (A9t E kR) (as_ ?_)));rw [show v%4294967296=v by omega];refine A0 (D5 0 4 12) ?_;refine P3 (α:=Nat) (λm=>[(0,.slice (some ⟨b,o,none⟩) n cap),(4,.int .i64 (m:Int)),(12,.int .u32 ((u/10^(n-m):Nat):Int))]) (λm=>[(b,blk (nums .u8 (xs.take (o+m)++(dgs (n-m) u++xs.drop (o+n)))) e)]) (λ_=>[]) (λm=>m<=n∧m<4) ?_ ?_
  .
   refine A1 (mV_ E (lQ_ (E3 E E E) (A0 (D7 0 4 12 99) ?_)));refine C2 E ?_ ?_<;>intro hc
   .
    have hm4:4<=m:=by simp at hc;omega
    refine A1 (mv_ ?_);refine lQ_ (V5 (b:=10000) E E E E qO) ?_;refine as_ (A0 (D7 0 4 12 13) (A1 (mv_ ?_)));refine lQ_ (A4u (b:=10000) (m:=4294967296) E E E E E E qO qO) ?_;refine as_ (A0 (D7 0 4 12 13) (A1 (mv_ ?_)));refine lQ_ (A4u (b:=100) (m:=4294967296) E E E E E E qO qO) ?_;refine lQ_ (P9 4294967296 (b:=2) E E E E E E) (mv_ ?_);refine lQ_ (V5 (b:=100) E E E E qO) ?_;refine lQ_ (P9 4294967296 (b:=2) E E E E E E) (as_ (as_ (A0 (E9 0 4 12 14 15) ?_)));refine C9 [0,1,2,3,4,5,6,7,8,9,10,11,13] (zp 0 [0,0,0,0,0,0,0,0,0,0,0,0,2,0,2]) kR kR λhs=>?_;refine fM_ E E (fm_ ?_);refine fQ_ E (Q8 (b:=1) E E E E qO qO) ?_;refine fM_ E E (fm_ ?_);refine fQ_ E (Q8 (b:=2) E E E E qO qO) ?_;refine fM_ E E (fQ_ E (G7 4294967296 (b:=1) E E E E E E) ?_);refine fQ_ E (A1b (p:=(v%10000%100)) E kR E kR qO qO) ?_;refine fm_ ?_;refine fQ_ E (A1a (p:=(v%10000%100)) E kR E kR qO qO) ?_;refine fQ_ E (L6 (e:=5) (sz:=1) (i:=m-1) E E kR kR qO qO) ?_;refine G3 E E E (K4 (o+(m-1)) E E kR qO (by rw [V1 qO];omega) Cv ?_);refine fQ_ E (L6 (e:=5) (sz:=1) (i:=m-2) E E kR kR qO qO) ?_;refine G3 E E E (K4 (o+(m-2)) E E kR qO (by rw [Bk,V1 qO];omega) Cv ?_);rw [A2k qO qO (by rw [<- hv];omega)];refine E4 (D7 0 4 12 14) ?_;refine C9 [0,1,2,3,4,5,6,7,8,9,10,11,13] (zp 0 [0,0,0,0,0,0,0,0,0,0,0,0,2,0,2]) kR kR λhs=>?_;refine fM_ E E (fm_ ?_);refine fQ_ E (Q8 (b:=3) E E E E qO qO) ?_;refine fM_ E E (fm_ ?_);refine fQ_ E (Q8 (b:=4) E E E E qO qO) ?_;refine fM_ E E (fQ_ E (G7 4294967296 (b:=1) E E E E E E) ?_);refine fQ_ E (A1b (p:=(v%10000/100)) E kR E kR qO qO) ?_;refine fm_ ?_;refine fQ_ E (A1a (p:=(v%10000/100)) E kR E kR qO qO) ?_;refine fQ_ E (L6 (e:=5) (sz:=1) (i:=(m-2)-1) E E kR kR qO qO) ?_;refine G3 E E E (K4 (o+((m-2)-1)) E E kR qO (by rw [V1 qO];omega) Cv ?_);refine fQ_ E (L6 (e:=5) (sz:=1) (i:=(m-2)-2) E E kR kR qO qO) ?_;refine G3 E E E (K4 (o+((m-2)-2)) E E kR qO (by rw [Bk,V1 qO];omega) Cv ?_);rw [A2k qO qO (by rw [A2l,<- hv];omega)];refine E4 (D5 0 4 12) (C1 (mv_ ?_));refine lQ_ (Q8 (b:=4) E E E E qO qO) ?_;refine as_ (C5 ?_);exact jn (m-4) ⟨by omega,by omega⟩ (kq 0 (kq 4 (kp 12 (by rw [show n-(m-4)=k+4 by omega,A2l,<- hv];rfl) kn))) (Cg (by rw [show n-(m-4)=k+4 by omega,show m-2-2=m-4 by omega,show k+2+2=k+4 by omega])) qI
   .
    have hm4:m<4:=by simp at hc;omega
    refine A4 ?_;exact jn m ⟨hm,hm4⟩ (kq 0 (kq 4 (kp 12 (by rw [<- hk,<- hv];rfl) kn))) (Cg (by rw [<- hk])) qI
  .
   rintro m2 ⟨hm2,hm24⟩;have hb2:=A6s hu hm2
   obtain ⟨k2,hk2⟩:∃k,k=n-m2:=⟨_,E⟩
   rw [<- hk2];have hkm2:k2+m2=n:=by omega
   obtain ⟨v2,hv2⟩:∃v,v=u/10^k2:=⟨_,E⟩
   rw [<- hv2];rw [<- hk2,<- hv2] at hb2;have hb27:v2<1000:=Bp hb2 (Br qD qO:10^m2<=10^3);refine P3 (α:=Nat) (λm=>[(0,.slice (some ⟨b,o,none⟩) n cap),(4,.int .i64 (m:Int)),(12,.int .u32 ((u/10^(n-m):Nat):Int))]) (λm=>[(b,blk (nums .u8 (xs.take (o+m)++(dgs (n-m) u++xs.drop (o+n)))) e)]) (λ_=>[]) (λm=>m<=n∧m<2) ?_ ?_
   .
    refine A1 (mV_ E (lQ_ (E3 E E E) (A0 (D7 0 4 12 139) ?_)));refine C2 E ?_ ?_<;>intro hc
    .
     have hm22:2<=m2:=by simp at hc;omega
     refine A1 (mv_ ?_);refine lQ_ (V5 (b:=100) E E E E qO) ?_;refine lQ_ (P9 4294967296 (b:=2) E E E E E E) (as_ (A0 (D7 0 4 12 16) (A1 (mv_ ?_))));refine lQ_ (A4u (b:=100) (m:=4294967296) E E E E E E qO qO) ?_;refine as_ (A0 (D7 0 4 12 16) ?_);refine C9 [0,1,2,3,4,5,6,7,8,9,10,11,13] (zp 0 [0,0,0,0,0,0,0,0,0,0,0,0,2,0,2]) kR kR λhs=>?_;refine fM_ E E (fm_ ?_);refine fQ_ E (Q8 (b:=1) E E E E qO qO) ?_;refine fM_ E E (fm_ ?_);refine fQ_ E (Q8 (b:=2) E E E E qO qO) ?_;refine fM_ E E (fQ_ E (G7 4294967296 (b:=1) E E E E E E) ?_);refine fQ_ E (A1b (p:=(v2%100)) E kR E kR qO qO) ?_;refine fm_ ?_;refine fQ_ E (A1a (p:=(v2%100)) E kR E kR qO qO) ?_;refine fQ_ E (L6 (e:=5) (sz:=1) (i:=m2-1) E E kR kR qO qO) ?_;refine G3 E E E (K4 (o+(m2-1)) E E kR qO (by rw [V1 qO];omega) Cv ?_);refine fQ_ E (L6 (e:=5) (sz:=1) (i:=m2-2) E E kR kR qO qO) ?_;refine G3 E E E (K4 (o+(m2-2)) E E kR qO (by rw [Bk,V1 qO];omega) Cv ?_);rw [A2k qO qO (by rw [<- hv2])];refine E4 (D5 0 4 12) (C1 (mv_ ?_));refine lQ_ (Q8 (b:=2) E E E E qO qO) ?_;refine as_ (C5 ?_);exact jn (m2-2) ⟨by omega,by omega⟩ (kq 0 (kq 4 (kp 12 (by rw [show n-(m2-2)=k2+2 by omega,A2l,<- hv2];rfl) kn))) (Cg (by rw [show n-(m2-2)=k2+2 by omega])) qI
    .
     have hm22:m2<2:=by simp at hc;omega
     refine A4 ?_;exact jn m2 ⟨hm2,hm22⟩ (kq 0 (kq 4 (kp 12 (by rw [<- hk2,<- hv2];rfl) kn))) (Cg (by rw [<- hk2])) qI
   .
    rintro m3 ⟨hm3,hm32⟩;have hb3:=A6s hu hm3;refine A1 (mV_ E (lQ_ (E3 E E E) (A0 (D5 0 12 161) ?_)));refine C2 E ?_ ?_<;>intro hc
    .
     obtain rfl:m3=1:=by simp at hc;omega
     obtain ⟨k3,hk3⟩:∃k,k=n-1:=⟨_,E⟩
     rw [<- hk3];have hkm3:k3+1=n:=by omega
     obtain ⟨v3,hv3⟩:∃v,v=u/10^k3:=⟨_,E⟩
     rw [<- hv3];rw [<- hk3,<- hv3] at hb3;have hb37:v3<10:=by simpa using hb3
     refine C1 (mV_ E (mV_ E (lQ_ (G7 4294967296 (a:=48) E E E E E E) (lQ_ (A12 E kR) ?_))));rw [show (48+v3)%4294967296%256=48+u/10^k3%10 by rw [<- hv3];omega];refine lQ_ (L6 (e:=5) (sz:=1) (i:=0) E E kR kR E qO) ?_;refine A2 E (K4 (o+(1-1)) E E kR qO (by rw [V1 qO];omega) Cv ?_);rw [A4x qO qO];refine C5 ?_;exact ⟨_,[(b,_)],[],A8v E,Ao _,by simp,E,by rw [hkm3];rfl⟩
    .
     obtain rfl:m3=0:=by simp at hc;omega
     refine A4 ?_;exact ⟨_,[(b,_)],[],A8v E,Ao _,by simp,E,E⟩

def B90:LN:=[48,49,50,51,52,53,54,55,56,57,97,98,99,100,101,102,103,104,105,106,107,108,109,110,111,112,113,114,115,116,117,118,119,120,121,122]
theorem B0M:∀i:Fin 10,(B90.take (i.val+1)).drop i.val=dec i.val:=by decide +kernel
theorem A8I:∀i:Fin 100,10<=i.val->(A6r.take (i.val*2+2)).drop (i.val*2)=dec i.val:=by decide +kernel
theorem B6G(h0:0<n)(h:n<=9223372036854775808):IntKind.u64.wrap (-(n:Int))=((18446744073709551616-n:Nat):Int):=by simp [IntKind.wrap,IntKind.bits,IntKind.signed];omega
theorem B2u(h0:0<n)(h:n<=9223372036854775808):IntKind.u64.wrap (0-((18446744073709551616-n:Nat):Int))=(n:Int):=by simp [IntKind.wrap,IntKind.bits,IntKind.signed];omega
theorem B91(h:nd10 n<=20):(((List.replicate 24 0).take 1++(dgs (nd10 n) n++(List.replicate 24 0).drop (1+nd10 n))).drop 1).take (nd10 n)=dec n:=by rw [List.drop_append_of_le_length qM];simp [dec];rw [List.take_append_of_le_length (by rw [A2i];omega),Aw (by rw [A2i];omega)]
theorem B92(h:nd10 n<=20):(((List.replicate 24 0).take 1++(dgs (nd10 n) n++(List.replicate 24 0).drop (1+nd10 n))).set 0 45).take (1+nd10 n)=45::dec n:=by simp only [List.replicate,List.take,Cy,Cw,List.set_cons_zero];rw [Nat.add_comm 1,List.take_succ_cons,List.take_append_of_le_length (by rw [A2i];omega),Aw (by rw [A2i];omega)];rfl
theorem A9B{k:IntKind}(ws:LN)(o n:Nat):((nums k ws).drop o).take n=nums k ((ws.drop o).take n):=by simp [nums,List.map_drop,List.map_take]
theorem A4y(h:nd10 n<=20):((List.replicate 24 0).take 1++(dgs (nd10 n) n++(List.replicate 24 0).drop (1+nd10 n))).length=24:=by simp [A2i];omega
theorem A7H(i:Nat)(hi:i<100)(A:Mem):FnV prog 201 [.int .i64 (i:Int)] A (.string (txt (dec i))):=by
 refine Cn (N:=15) func201 E E E λw=>?_;refine A8 (D1 0) (A1 (aS_ E (A0 (D1 0) (A3 (A1 (mV_ E (lQ_ (E3 E E E) (A0 (D0 0 4) ?_))))))));refine C2 E ?_ ?_<;>intro hc
 .
  have hlt:i<10:=by simp at hc;omega
  refine A1 (mv_ (mv_ ?_));refine lQ_ (I9 (b:=1) E E E E qO) ?_;refine lQ_ (B0M ⟨i,hlt⟩▸B9Y (ws:=B90) (a:=i) (b:=i+1) E kR E E kR E E qO (by show _<=36;omega)) ?_;refine as_ (A0 (D1 2) (A9 (tr ?_)));exact ⟨_,[],[],H2 E E,Aa _,by simp,E,E,E⟩
 .
  have hge:10<=i:=by simp at hc;omega
  refine A4 (nx (D1 0) (A1 (mv_ ?_)));refine lQ_ (A1o (b:=2) E E E E qO) ?_;refine mv_ ?_;refine lQ_ (A1o (b:=2) E E E E qO) ?_;refine lQ_ (I9 (b:=2) E E E E qO) ?_;refine lQ_ (A8I ⟨i,hi⟩ hge▸B9Y (ws:=A6r) (a:=i*2) (b:=i*2+2) E kR E E kR E E qO (by rw [A3f];omega)) ?_;refine as_ (A0 (D1 2) (A9 ?_));exact ⟨_,[],[],H2 E E,Aa _,by simp,E,E,E⟩
theorem A5n(i:Int)(hmin:-9223372036854775808<=i)(hmax:i<=9223372036854775807)(A:Mem)(h4:(4,Obj.cells (nums .u64 A0M).toArray e4 f4)∈A):FnV prog 173 [.int .i64 i,.int .i64 10] A (.string (txt (A18 i))):=by
 refine Cn (N:=54) func173 E E E λw=>?_;refine A8 (D0 0 1) (A1 (aS_ E (A0 (D0 0 1) (A3 (A1 (mV_ E (lQ_ (F6 true E E (eqT E)) (A0 (D5 0 1 11) ?_))))))));refine E2 E ?_;refine A3 (A1 (mV_ E (lQ_ (E3 E E E) (mv_ ?_))));refine Y0 (t:=14) E (λhb=>?_) (λhb=>?_)
 .
  obtain ⟨n,rfl⟩:=Int.eq_ofNat_of_zero_le (show 0<=i by simpa using hb);clear hb hmin;rw [show A18 ((n:Nat):Int)=dec n by simp [A18]];refine G1 E E (Cp qm_ E ?_);refine G1 E E (Cp (E3 E E E) E ?_);refine lQ_ (H6 E E) (A0 (D0 0 17) ?_);refine C2 E ?_ ?_<;>intro hc
  .
   have hlt:n<100:=by simp at hc;omega
   refine A1 (mv_ ?_);refine D8 (aS E a0) kR (A7H n hlt _) E ?_;refine as_ (A0 (D1 4) (A9 (tr (tr ?_))));exact ⟨_,[],[],H2 E E,Aa _,by simp,E,E,E⟩
  .
   have hge:100<=n:=by simp at hc;omega
   refine A4 (nx (D1 0) (A1 ?_));refine A2 E (C3 (cs:=[zu8,zu8,zu8,zu8,zu8,zu8,zu8,zu8,zu8,zu8,zu8,zu8,zu8,zu8,zu8,zu8,zu8,zu8,zu8,zu8,zu8,zu8,zu8,zu8]) kR E λb5=>?_);refine A0 (D0 0 5) ?_;have hnd:=A1D (u:=n) qO;have hnd1:1<=nd10 n:=A4w 64 n;have hlt10:n<10^nd10 n:=A7B 64 n (Nat.lt_trans (show n<18446744073709551616 by omega) qD);refine A0X (M':=[(b5,blk (nums .u8 (List.replicate 24 0)) 282)]) (Cg qR) qI ?_;refine A1 (mv_ ?_);refine lQ_ ((Af (show n<18446744073709551616 by omega))▸B1S E kR) ?_;refine aS_ E (A0 (D5 0 5 6) (A3 (A1 (mV_ E (lQ_ (E3 E E E) (A0 (D7 0 5 6 23) ?_))))));refine C2 E ?_ ?_<;>intro hc
   . exfalso;simp at hc;omega
   .
    refine A4 (nx (D5 0 5 6) (A1 (mv_ ?_)));refine D8 (aS E a0) kR (A2a n qO qO _ (mA h4)) E ?_;refine as_ (A0 (D7 0 5 6 7) (A1 (mv_ ?_)));refine lQ_ (I9 (a:=1) E E E E qO) ?_;refine lQ_ (A8F (sz:=1) (n:=24) (e:=5) 1 (1+nd10 n) E kR kR E E E E qO qO qO) ?_;refine mv_ ?_;refine A2 E (B2l (Mc:=[(b5,blk (nums .u8 (List.replicate 24 0)) 282)]) (aS E (aS E a0)) kR (A7G b5 (0+1*1) (1+nd10 n-1) (24-1) n (List.replicate 24 0) _ qO qO (by simp;omega) (by rw [Nat.add_sub_cancel_left];exact hlt10) qO _) qP E ?_);rintro r32 M32 J32 ⟨rfl,rfl⟩;rw [Nat.add_sub_cancel_left];dsimp only [Cy,Cw];refine A0 (D5 0 5 7) (A3 (A1 (mV_ E (lQ_ (E3 E E E) (A0 (D5 5 7 34) ?_)))));refine C2 E ?_ ?_<;>intro hc
    . exfalso;simp at hc;omega
    . refine A4 (nx (D0 5 7) (A1 (mv_ ?_)));refine lQ_ (I9 (a:=1) E E E E qO) ?_;refine lQ_ (A8F (sz:=1) (n:=24) (e:=5) 1 (1+nd10 n) E kR kR E E E E qO qO qO) ?_;refine lQ_ (A4o (ws:=dec n) (n:=1+nd10 n-1) (A0J (Rd.mid (o:=0+1*1) (n:=1+nd10 n-1) (cap:=24-1) Ce (by rw [nums_len,A4y hnd];omega) qO) E (by rw [A9B,Nat.add_sub_cancel_left,show 0+1*1=1 from rfl,B91 hnd])) E kR) ?_;refine as_ (A0 (D1 4) (A9 (tr ?_)));exact ⟨_,[],[],H2 E E,Aa _,by simp,E,E,E⟩
 .
  obtain ⟨n,hn0,rfl⟩:∃n:Nat,0<n∧i = -(n:Int):=⟨i.natAbs,by simp at hb;omega,by simp at hb;omega⟩
  clear hb;rw [show A18 (-(n:Int))=45::dec n by simp [A18];omega];refine K0 E E E E ?_;refine K0 E E E E ?_;refine lQ_ (E8 E E) (A0 (D0 0 17) ?_);refine C7 E ?_;refine A4 (nx (D1 0) (A1 ?_));refine A2 E (C3 (cs:=[zu8,zu8,zu8,zu8,zu8,zu8,zu8,zu8,zu8,zu8,zu8,zu8,zu8,zu8,zu8,zu8,zu8,zu8,zu8,zu8,zu8,zu8,zu8,zu8]) kR E λb5=>?_);refine A0 (D0 0 5) ?_;have hnd:=A1D (u:=n) qO;have hnd1:1<=nd10 n:=A4w 64 n;have hlt10:n<10^nd10 n:=A7B 64 n (Nat.lt_trans (show n<18446744073709551616 by omega) qD);refine A0X (M':=[(b5,blk (nums .u8 (List.replicate 24 0)) 282)]) (Cg qR) qI ?_;refine A1 (mv_ ?_);refine lQ_ (B6G hn0 qO▸B8s (k':=.u64) E kR) ?_;refine aS_ E (A0 (D5 0 5 6) (A3 (A1 (mV_ E (lQ_ (E3 E E E) (A0 (D7 0 5 6 23) ?_))))));refine C2 E ?_ ?_<;>intro hc
  .
   refine C1 (mv_ ?_);refine lQ_ (B2u hn0 qO▸C4V E) ?_;refine as_ (A0 (D5 0 5 6) (A1 (mv_ ?_)));refine D8 (aS E a0) kR (A2a n qO qO _ (mA h4)) E ?_;refine as_ (A0 (D7 0 5 6 7) (A1 (mv_ ?_)));refine lQ_ (I9 (a:=1) E E E E qO) ?_;refine lQ_ (A8F (sz:=1) (n:=24) (e:=5) 1 (1+nd10 n) E kR kR E E E E qO qO qO) ?_;refine mv_ ?_;refine A2 E (B2l (Mc:=[(b5,blk (nums .u8 (List.replicate 24 0)) 282)]) (aS E (aS E a0)) kR (A7G b5 (0+1*1) (1+nd10 n-1) (24-1) n (List.replicate 24 0) _ qO qO (by simp;omega) (by rw [Nat.add_sub_cancel_left];exact hlt10) qO _) qP E ?_);rintro r32 M32 J32 ⟨rfl,rfl⟩;rw [Nat.add_sub_cancel_left];dsimp only [Cy,Cw];refine A0 (D5 0 5 7) (A3 (A1 (mV_ E (lQ_ (E3 E E E) (A0 (D5 5 7 34) ?_)))));refine C2 E ?_ ?_<;>intro hc
   . refine A1 (lQ_ (qi_ 0 5 24 1 0) ?_);refine A2 E (K4 0 E E kR E (by rw [A4y hnd];omega) Cv ?_);refine A0 (D0 5 7) (A1 (mv_ ?_));refine lQ_ (I9 (a:=1) E E E E qO) ?_;refine lQ_ (B9V (sz:=1) (n:=24) (e:=5) (1+nd10 n) E kR kR E E qO) ?_;refine lQ_ (A4o (ws:=45::dec n) (n:=1+nd10 n) (A0J (Rd.mid (o:=0) (n:=1+nd10 n) (cap:=24) Ce (by rw [nums_len,Bk,A4y hnd];omega) qO) E (by rw [A9B,List.drop_zero,B92 hnd])) E kR) ?_;refine as_ (A0 (D1 4) (A9 (tr (tr ?_))));exact ⟨_,[],[],H2 E E,Aa _,by simp,E,E,E⟩
   . exfalso;simp at hc;omega
  . exfalso;simp at hc;omega
theorem B0N(i:Int)(hmin:-9223372036854775808<=i)(hmax:i<=9223372036854775807)(A:Mem)(h4:(4,Obj.cells (nums .u64 A0M).toArray e4 f4)∈A):FnV prog 143 [.int .i64 i] A (.string (txt (A18 i))):=by refine Cn (N:=5) func143 E E E λw=>?_;refine A8 (D1 0) (A1 (as_ (A0 (D1 0) (A1 (mv_ ?_)))));refine D8 (aS E (aS E a0)) kR (A5n i hmin hmax _ (mA h4)) E ?_;refine as_ (A0 (D1 2) (A9 ?_));exact ⟨_,[],[],H2 E E,Aa _,by simp,E,E,E⟩
theorem A1G(i:Int)(hmin:-9223372036854775808<=i)(hmax:i<=9223372036854775807)(A:Mem)(h4:(4,Obj.cells (nums .u64 A0M).toArray e4 f4)∈A):FnV prog 109 [.int .i64 i] A (.string (txt (A18 i))):=by refine Cn (N:=5) func109 E E E λw=>?_;refine A8 (D1 0) (A1 (as_ (A0 (D1 0) (A1 (mv_ ?_)))));refine D8 (aS E a0) kR (B0N i hmin hmax _ (mA h4)) E ?_;refine as_ (A0 (D1 2) (A9 ?_));exact ⟨_,[],[],H2 E E,Aa _,by simp,E,E,E⟩

theorem B0O(l:LN)(r:LN):dv l<=dv (l++r):=by
  have key:∀(r:LN) (a:Nat),a<=r.foldl (λa c=>a*10+(c-48)) a:=by
    intro r
    induction r with
    | nil=>intro a;exact Av _
    | cons c r ih=>intro a;exact Az (show a<=a*10+(c-48) by omega) (ih _)
  unfold dv;rw [List.foldl_append];exact key r _
theorem A7I{l:LN}{i:Nat}(h:i<l.length):dv (l.take (i+1))=dv (l.take i)*10+(l.getD i 0-48):=by rw [Bh,Ab h];simp only [Option.toList_some,B8C,List.getD,List.getElem?_eq_getElem h,Option.getD_some]
theorem A5H(l:LN)(i:Nat):dv (l.take i)<=dv l:=by
  conv=>rhs;rw [<- List.take_append_drop i l]
  exact B0O _ _
theorem A7J{l:LN}{i:Nat}(h:i<l.length):l.getD i 0∈l:=by simp [List.getD,List.getElem?_eq_getElem h]
instance B256.dec{u:Nat}:B256 (dec u):=⟨λx h=>by have:=A1F h;omega⟩
theorem B93(h:m<1000000000000000000):0<nd10 m∧nd10 m<19:=by
  refine ⟨A4w 64 m,?_⟩;by_cases h10:10<=m
  . have h3:10^(nd10 m-1)<=m:=A9y 64 m h10;have:10^(nd10 m-1)<10^18:=Be h3 h;have:=(Nat.pow_lt_pow_iff_right (by decide:1<10)).1 this;omega
  . have hd:nd10 m=1:=by unfold nd10 ndF;rw [if_pos qO]
    omega
theorem B0P(m:Nat)(hm:m<1000000000000000000)(A:Mem):FnV prog 171 [.string (txt (dec m))] A (.tuple #[.int .i64 (m:Int),.nilIface]):=by
 refine Cn (N:=77) func171 E E E λw=>?_;refine A8 (D1 0) (A1 (aS_ E (aS_ E (A0 (D1 0) (A1 (mV_ E (lQ_ (A5D E E kR) (as_ (A0 (D0 0 4) (A3 ?_))))))))));obtain ⟨hn0,hn18⟩:=B93 hm;have hdl:=A2j m;have hb:∀i,i<(dec m).length->48<=(dec m).getD i 0∧(dec m).getD i 0<58:=λi hi=>A1F (A7J hi);have hb0:=hb 0 qO;refine A1 (mv_ ?_);refine K0 E E E E ?_;refine K0 E E E E ?_;refine K0 E E E E ?_;refine B6a E E E ?_;refine B6a E E E ?_;refine K0 E E E E ?_;refine lQ_ (E8 E E) (mv_ ?_);refine G1 E E (Cp qm_ E ?_);refine G1 E E (Cp qm_ E ?_);refine G1 E E (Cp (F6 true E E (ltT qO)) E ?_);refine G1 E E (Cp qm_ E ?_);refine G1 E E (Cp qm_ E ?_);refine G1 E E (Cp (F6 true E E (ltT qO)) E ?_);refine G1 E E (Cp (H6 E E) E ?_);refine G1 E E (Cp (H6 E E) E ?_);refine lQ_ (E8 E E) (A0 (D0 0 30) ?_);refine E2 E ?_;refine A1 (mv_ (as_ (A0 (D0 0 5) (A3 (A1 (mv_ ?_))))));refine lQ_ (A7A (a:=0) E E B256.lt E kR E qO) ?_;refine lQ_ (F6 false E E (eqF qO)) ?_;refine mv_ ?_;refine G1 E E (Cp qm_ E ?_);refine G1 E E (Cp (A7A (a:=0) E E B256.lt E kR E qO) E ?_);refine G1 E E (Cp (F6 false E E (eqF qO)) E ?_);refine lQ_ (E8 E E) (A0 (D5 0 5 39) ?_);refine C7 E ?_;refine A4 (nx (D0 0 5) (A1 (as_ (A0 (D5 0 5 6) (A3 (A1 (mv_ ?_)))))));refine A2 E (A4v (e:=5) E E B256.lt kR kR kR E λv47 B47 hs47=>?_);refine lQ_ (F8 (sz:=1) E kR (by first|assumption|exact Sl.rd (by assumption) qI|exact By.rd (by assumption))) ?_;refine mv_ (A0 (E9 5 6 47 48 49) (A6 ?_));refine E0 (α:=Nat) (λi=>[(5,.string (txt (dec m))),(6,(vI (dv ((dec m).take i)))),(47,v47),(48,(vI ((dec m).length))),(49,.int .i64 (i:Int))]) (λ_=>B47) (λ_=>[]) (λi=>i<=(dec m).length) (λi=>(dec m).length-i) 0 (Am _) (E9 5 6 47 48 49) (Cg qM) qI ?_;rintro i hi;have hle:=A5H (dec m) i;rw [A1E qO] at hle;refine A1 (lQ_ (E3 E E E) (A0 (G9 5 6 47 48 49 50) (A3 ?_)));refine C2 E ?_ ?_<;>intro hc
 .
  have hlt:i<(dec m).length:=by simp at hc;omega
  have hbi:=hb i hlt;have hds:=A7I hlt;have hle2:=A5H (dec m) (i+1);rw [A1E qO,hds] at hle2;refine A4 (nx (E9 5 6 47 48 49) (A3 (A6 (A1 ?_))));refine lQ_ (G4 (sz:=1) E E kR E (by first|assumption|exact Sl.rd (by assumption) qI|exact By.rd (by assumption)) qO) ?_;refine lQ_ (Z9 (k:=.u8) E kR (by first|exact Rd.mono (by assumption) qS|exact Sl.rd (by assumption) qS|exact Rd.mono (By.rd (by assumption)) qS) qO) ?_;refine as_ (A0 (G9 5 6 8 47 48 49) (A1 (mv_ ?_)));refine lQ_ (A2P 256 (b:=48) E E E E E E qO) ?_;rw [show ((dec m).getD i 0+(256-48))%256=(dec m).getD i 0-48 by omega];refine as_ (A0 (G9 5 6 8 47 48 49) (A3 (A1 (mv_ ?_))));refine lQ_ (F6 false E E (gtF qO)) ?_;refine A0 (N1 5 6 8 47 48 49 56) ?_;refine C7 E ?_;refine A4 (nx (G9 5 6 8 47 48 49) (C1 (mv_ ?_)));refine lQ_ (A1o (b:=10) E E E E qO) ?_;refine mv_ ?_;refine lQ_ (A15 (k':=.i64) E kR (by show _<9223372036854775808;omega)) ?_;refine lQ_ (I9 E E E E qO) ?_;refine as_ (C5 (nb (nx (E9 5 6 47 48 49) (C1 ?_))));refine lQ_ (I9 (b:=1) E E E E qO) ?_;refine mv_ (C5 ?_);exact rn (i+1) qO qO (kq 5 (kp 6 (by rw [hds];rfl) (D5 47 48 49))) (Cg qM) qI
 .
  have hge:i=(dec m).length:=by simp at hc;omega
  subst hge;rw [List.take_length,A1E qO];refine D6 (te (re (be E (nx (D0 5 6) (A3 (A1 (mv_ ?_)))))));refine lQ_ (A7A (a:=0) E E B256.lt E kR E qO) ?_;refine lQ_ (F6 false E E (eqF qO)) ?_;refine A0 (D0 6 66) ?_;refine C7 E ?_;refine A4 (nx (D1 6) (A1 (mv_ (as_ (as_ (A0 (D0 2 3) (A9 (tr ?_))))))));exact ⟨_,[],[],A2w E E E,Aa _,by simp,E,E,E⟩
theorem B2v(m:Nat)(hm:m<1000000000000000000)(A:Mem):FnV prog 141 [.string (txt (dec m))] A (.tuple #[.int .i64 (m:Int),.nilIface]):=by refine Cn (N:=18) func141 E E E λw=>?_;refine A8 (D1 0) (A1 (as_ (as_ (A0 (D1 0) (A1 (mv_ ?_))))));refine D8 (aS E a0) kR (B0P m hm _) E ?_;refine mV_ E (lQ_ (A0x E) (lQ_ (A0n E) (aS_ E (aS_ E (A0 (D5 0 4 5) (A3 (A1 (mV_ E (lQ_ (B2p E kR) (A0 (D7 0 4 5 12) ?_))))))))));refine C7 E ?_;refine A4 (nx (D1 4) (A1 (mv_ (as_ (as_ (A0 (D0 2 3) (A9 ?_)))))));exact ⟨_,[],[],A2w E E E,Aa _,by simp,E,E,E⟩
def mark(p:LN):LN:=dec p.length++58::p
def A1p(l:List (LN)):LN:=l.flatMap mark
theorem A1R(p:LN)(h:p.length<18446744073709551616):(mark p).length<=p.length+21:=by have:=A1D h;simp [mark,A2j];omega
instance B256.mark{p:LN}[h:B256 p]:B256 (mark p):=by unfold Go.Proofs.YtgpjndfgjjlhaaaGreatDoor.mark;exact @B256.app _ _ _ (B256.cons qD h)
theorem A2Q(v:Value)(p:LN)(A:Mem)(hp:Rd A 1 v p.length (nums .u8 p))[hb:B256 p](hl:p.length<=1099511627776)(h4:(4,Obj.cells (nums .u64 A0M).toArray e4 f4)∈A):FnV prog 88 [v] A (.string (txt (mark p))):=by have hdl:=A2j p.length;have hd20:=A1D (u:=p.length) qO;refine Cn (N:=10) func88 E E E λw=>?_;refine A8 (D1 0) (A1 (as_ (A0 (D1 0) ?_)));refine C9 (.range 8) [(0,0),(1,0),(4,0),(5,1),(2,2),(3,0),(6,0),(7,0)] kR kR λhs=>?_;refine fm_ ?_;refine fQ_ E (F8 (sz:=1) E kR hp) ?_;refine fm_ ?_;refine fR_ E (P2 E kR (by first|exact Rd.mono (by assumption) qS|exact Sl.rd (by assumption) qS|exact Rd.mono (By.rd (by assumption)) qS)) ?_;refine N3 E (aS E a0) kR (A1G (p.length:Int) qO qO _ (mA h4)) E ?_;rw [show A18 ((p.length:Nat):Int)=dec p.length by simp [A18]];refine fQ_ E (A17 (ws':=[58]) E E E kR (by first|omega|(simp only [List.length_append,List.length_cons,List.length_nil,List.length_take,List.length_drop];omega))) ?_;refine fQ_ E (A17 E E E E (by first|omega|(simp only [List.length_append,List.length_cons,List.length_nil,List.length_take,List.length_drop];omega))) ?_;refine fA_ E E (E4 (D1 2) (A9 ?_));exact ⟨_,[],[],H2 E E,Aa _,by simp,by simp [mark],E,E⟩
theorem A5I(p:LN)(l:List (LN)):A1p (p::l)=dec p.length++58::(p++A1p l):=by simp [A1p,mark]
theorem B0Q{p R s:LN}(h:s=dec p.length++58::(p++R)):s.length=(dec p.length).length+1+p.length+R.length∧s.getD (dec p.length).length 0=58∧(∀k,k<(dec p.length).length->s.getD k 0≠58)∧s.take (dec p.length).length=dec p.length∧(s.take ((dec p.length).length+1+p.length)).drop ((dec p.length).length+1)=p∧s.drop ((dec p.length).length+1+p.length)=R:=by
  have e:s=(dec p.length++[58]++p)++R:=by rw [h];simp
  have e2:(dec p.length++[58]++p).length=(dec p.length).length+1+p.length:=by simp;omega
  refine ⟨?_,?_,?_,?_,?_,?_⟩
  . rw [e];simp;omega
  . rw [h];simp [List.getD]
  . intro k hk;have:s.getD k 0=(dec p.length).getD k 0:=by rw [h];simp only [List.getD];rw [Ak hk]
    rw [this];have:=A1F (A7J hk);omega
  . rw [h];simp
  . rw [e,<- e2,List.take_left,show (dec p.length).length+1=(dec p.length++[58]).length by simp,List.drop_left]
  . rw [e,<- e2,List.drop_left]
def C2J(l:List (LN)):List Value:=l.map λp=>.string (txt p)
theorem B0R(l:List (LN))(hb:B256 (A1p l))(hl:(A1p l).length<=1099511627776)(A:Mem)(h4:(4,Obj.cells (nums .u64 A0M).toArray e4 f4)∈A):FnX prog 105 [.string (txt (A1p l))] [] A λr M J=>J=[]∧∃v,r=.tuple #[v,U7]∧Sl 1 v l.length (C2J l) M:=by
 refine Cn (N:=77) func105 E E E λw=>?_;refine A8 (D1 0) (A1 (aS_ E (aS_ E (A0 (D1 0) (A1 (aS_ E (A0 (D0 0 4) (A3 (A6 ?_)))))))));refine E0 (α:=Nat×Value×Mem) (λx=>[(0,.string (txt (A1p (l.drop x.1)))),(4,x.2.1)]) (λx=>x.2.2) (λ_=>[]) (λx=>x.1<=l.length∧Sl 1 x.2.1 x.1 (C2J (l.take x.1)) x.2.2∧B256 (A1p (l.drop x.1))∧(A1p (l.drop x.1)).length+x.1<=1099511627776) (λx=>l.length-x.1) (0,vS,[]) ⟨Am _,Sl.nil,hb,hl⟩ (D0 0 4) .rfl qI ?_;rintro ⟨j,v,B⟩ ⟨hj,hsl,hbs,hml⟩;dsimp only at hj hsl hbs hml ⊢;refine A3 (A1 (mV_ E (lQ_ (A5D E E kR) (lQ_ (E3 E E E) (A0 (D5 0 4 10) ?_)))));refine C2 E ?_ ?_<;>intro hc
 .
  have hlt:j<l.length:=by
   rcases Nat.lt_or_ge j l.length with h|h
   . exact h
   . rw [List.drop_eq_nil_of_le h] at hc;simp [A1p] at hc
  obtain ⟨p,hp⟩:∃p,p=l[j]:=⟨_,E⟩
  have hdr:l.drop j=p::l.drop (j+1):=by rw [hp];exact Bu hlt
  obtain ⟨f1,f2,f3,f4,f5,f6⟩:=B0Q (A5I p (l.drop (j+1)));rw [<- hdr] at f1 f2 f3 f4 f5 f6;have hbR:B256 (A1p (l.drop (j+1))):=by rw [<- f6];exact B256.drop
  have htk:C2J (l.take (j+1))=C2J (l.take j)++[.string (txt p)]:=by simp only [C2J];rw [Bh,Ab hlt,hp,List.map_append];rfl
  generalize A1p (l.drop j)=s at *;refine A4 (nx (D0 0 4) (A6 (A1 (as_ (A0 (D5 0 4 5) (A3 (A6 ?_)))))));refine E0 (α:=Nat) (λk=>[(0,.string (txt s)),(4,v),(5,.int .i64 (k:Int))]) (λ_=>B) (λ_=>[]) (λk=>k<=(dec p.length).length) (λk=>(dec p.length).length-k) 0 (Am _) (D5 0 4 5) .rfl qI ?_;rintro k hk;refine A3 ?_;by_cases hkl:k<(dec p.length).length
  . refine A1 (mV_ E (mV_ E (lQ_ (A5D E E kR) ?_)));refine lQ_ (F6 true E E (ltT qO)) ?_;refine mv_ ?_;refine G1 E E (Cp qm_ E ?_);refine G1 E E (Cp qm_ E ?_);refine G1 E E (Cp (A7A E E B256.lt E kR E qO) E ?_);refine G1 E E (Cp (F6 true E E (neT (by have:=f3 k hkl;omega))) E ?_);refine lQ_ (H6 E E) (A0 (D7 0 4 5 20) ?_);refine E2 E ?_;refine A4 (nx (D5 0 4 5) (A6 (C1 (mv_ ?_))));refine lQ_ (I9 (b:=1) E E E E qO) ?_;refine as_ (C5 (nb ?_));exact rn (k+1) qO qO (D5 0 4 5) .rfl qI
  .
   obtain rfl:k=(dec p.length).length:=by omega
   refine A1 (mV_ E (mV_ E (lQ_ (A5D E E kR) ?_)));refine lQ_ (F6 true E E (ltT qO)) ?_;refine mv_ ?_;refine G1 E E (Cp qm_ E ?_);refine G1 E E (Cp qm_ E ?_);refine G1 E E (Cp (A7A E E B256.lt E kR E qO) E ?_);refine G1 E E (Cp (F6 false E E (neF (by rw [f2];rfl))) E ?_);refine lQ_ (H6 E E) (A0 (D7 0 4 5 20) ?_);refine C7 E ?_;refine D6 (te (re (be E (nx (D5 0 4 5) (A1 (mv_ (mv_ ?_)))))));refine lQ_ (C2F E E E kR E (by first|omega|(simp only [List.length_append,List.length_cons,List.length_nil,List.length_take,List.length_drop];omega))) ?_;rw [f4];refine D8 (aS E a0) kR (B2v p.length qO _) E ?_;refine mV_ E (lQ_ (A0x E) (lQ_ (A0n E) (as_ (as_ (A0 (E9 0 4 5 6 7) (A3 ?_))))));refine C9 (.range 29) [(0,0),(1,0),(2,0),(3,0),(5,0),(6,0),(7,0),(4,2),(8,0),(9,0),(10,0),(11,0),(12,0),(13,0),(14,0),(15,0),(16,0),(17,0),(18,0),(19,0),(20,0),(21,0),(22,0),(23,0),(24,0),(25,0),(26,0),(27,0),(28,0)] kR kR λhs=>?_;refine fM_ E E (fQ_ E (B2p E kR) (fM_ E E (fG_ E qm_ (fG_ E qm_ (fG_ E qm_ ?_)))));refine fG_ E (C2F E E E kR E (by first|omega|(simp only [List.length_append,List.length_cons,List.length_nil,List.length_take,List.length_drop];omega))) ?_;rw [f4];refine A2K E E E E (aS E a0) kR (A1G (p.length:Int) qO qO _ (mA h4)) E ?_;rw [show A18 ((p.length:Nat):Int)=dec p.length by simp [A18]];refine fG_ E ((show (!decide (dec p.length=dec p.length))=false by simp)▸A8H E E E E B256.lt B256.lt) ?_;refine fQ_ E (E8 E E) (fM_ E E (fG_ E qm_ ?_));refine fG_ E (F6 false E E (ltF qO)) ?_;refine fQ_ E (E8 E E) (fM_ E E (fG_ E qm_ (fG_ E qm_ (fG_ E (A5D E E kR) ?_))));refine fG_ E (F6 false E E (eqF qO)) ?_;refine fQ_ E (E8 E E) (fM_ E E (fG_ E qm_ (fG_ E qm_ (fG_ E (A5D E E kR) (fG_ E qm_ ?_)))));refine fG_ E (Q8 E E E E qO qO) ?_;refine fG_ E (Q8 (b:=1) E E E E qO qO) ?_;refine fG_ E (F6 false E E (gtF qO)) ?_;refine fQ_ E (E8 E E) (E4 (E9 0 4 5 6 58) ?_);refine C7 E ?_;refine A4 (nx (D7 0 4 5 6) ?_);refine I1 [0,1,2,3,4,5,6,7,8,9,11,12,13,14,15,16,17,18] [(0,0),(1,0),(2,0),(3,0),(4,0),(5,0),(6,0),(7,0),(8,0),(11,0),(12,0),(13,0),(14,0),(15,0),(16,0),(9,2),(10,2),(17,0),(18,0)] kR kR λhs=>?_;refine fM_ E E (fM_ E E (fm_ ?_));refine fQ_ E (I9 (b:=1) E E E E qO) ?_;refine fm_ ?_;refine fQ_ E (I9 (b:=1) E E E E qO) ?_;refine fm_ ?_;refine fQ_ E (I9 E E E E qO) ?_;refine fQ_ E (B9Y E E E E kR E E qO (by first|omega|(simp only [List.length_append,List.length_cons,List.length_nil,List.length_take,List.length_drop];omega))) ?_;rw [f5];refine fM_ E E (fm_ ?_);refine fQ_ E (I9 (b:=1) E E E E qO) ?_;refine fm_ ?_;refine fQ_ E (I9 E E E E qO) ?_;refine fQ_ E (C5a E E E kR E (by first|omega|(simp only [List.length_append,List.length_cons,List.length_nil,List.length_take,List.length_drop];omega))) ?_;rw [f6]
   refine B2h E E λ_=>(C4 (e:=9) (sz:=1) (z:=[.string ByteArray.empty]) kR (eS E e0) (bdS 0 1 E qR bd0) E λb68=>?_)
   refine G3 E E E (G6 (e:=9) (sz:=1) (by_:=16) E E kR E (by first|assumption|exact Sl.nil) (Cr (n:=1) Ce qR) (by first|(simp [Value.oneCell'];done)|(intro c hc;simp only [List.mem_singleton] at hc;subst hc;first|exact Rd.one (by assumption)|exact Sl.one (by assumption))) qP (by unfold maxLen;omega) qO E λv69 B69 hs69=>?_);refine fA_ E E (fA_ E E (U0 (nb ?_)));exact rn (j+1,v69,B69) ⟨by dsimp only;omega,by dsimp only;rw [htk];exact hs69,hbR,by dsimp only;omega⟩ (by dsimp only;omega) (D0 0 4) (Ck (Ay _ _)) qI
 .
  have hge:j=l.length:=by
   rcases Nat.lt_or_ge j l.length with h|h
   . rw [Bu h,A5I] at hc;simp at hc;omega
   . omega
  subst hge;rw [List.take_length] at hsl;refine D6 (te (re (be E (nx (D1 4) (A1 (mV_ E (aS_ E (aS_ E (A0 (D0 2 3) (A9 ?_))))))))));exact ⟨_,B,[],A2w E E E,Ao _,by simp,E,v,E,hsl⟩

end Go.Proofs.YtgpjndfgjjlhaaaGreatDoor
namespace Go.Px
def A4z:List ByteArray->Nat->List MapEntry
  | [],_=>[]
  | k::ks,i=>⟨.string k,.int .i64 (i:Int),i⟩::A4z ks (i+1)
theorem A6t:∀(ks:List ByteArray) (i:Nat),(A4z ks i).length=ks.length
  | [],_=>rfl
  | k::ks,i=>by simp [A4z,A6t ks]
theorem A9C:∀(ks:List ByteArray) (s:ByteArray) (i:Nat),A4z (ks++[s]) i=A4z ks i++[⟨.string s,.int .i64 ((i+ks.length:Nat):Int),i+ks.length⟩]
  | [],s,i=>by simp [A4z]
  | k::ks,s,i=>by simp only [Cy,A4z,A9C ks s (i+1),List.length_cons];rw [show i+1+ks.length=i+(ks.length+1) by omega]
def Z3(s:ByteArray):List ByteArray->Nat->Option Nat
  | [],_=>none
  | k::ks,i=>if s==k then some i else Z3 s ks (i+1)
theorem A7K(s:ByteArray):∀(ks:List ByteArray) (i j:Nat),Instr.findNow .string (.string s) (A4z ks i) j=some ((Z3 s ks i).map λq=>(q-i+j,.int .i64 (q:Int)))
  | [],i,j=>rfl
  | k::ks,i,j=>by
    unfold A4z Instr.findNow Z3;simp only [Instr.sameNow];by_cases h:s==k
    . simp [h]
    . simp only [Bool.not_eq_true] at h;simp only [h,Bool.false_eq_true,if_false];rw [A7K s ks (i+1) (j+1)]
      have hge:∀(ks:List ByteArray) (i q:Nat),Z3 s ks i=some q->i<=q:=by
        intro ks
        induction ks with
        | nil=>intro i q h;cases h
        | cons k ks ih =>
          intro i q h;unfold Z3 at h;split at h
          . cases h;exact Av _
          . have:=ih _ _ h;omega
      cases hl:Z3 s ks (i+1) with
      | none=>rfl
      | some q =>
        have:=hge _ _ _ hl;simp only [Option.map_some];congr 3;omega
theorem B2w{a b:ByteArray}:(a==b)=true↔a=b:=by
  rcases a with ⟨a⟩;rcases b with ⟨b⟩
  show (a==b)=true↔_;simp
theorem A5J{s:ByteArray}:∀ {ks:List ByteArray} {i:Nat},Z3 s ks i=none↔s∉ks
  | [],i=>by simp [Z3]
  | k::ks,i=>by
    unfold Z3;by_cases h:s=k
    . rw [if_pos (B2w.2 h)];simp [h]
    . rw [if_neg (λe=>h (B2w.1 e)),A5J (ks:=ks) (i:=i+1)];simp [h]
theorem A5K{s:ByteArray}:∀ {ks:List ByteArray} {i q:Nat},Z3 s ks i=some q->i<=q∧ks[q-i]? = some s
  | [],i,q,h=>by cases h
  | k::ks,i,q,h=>by
    unfold Z3 at h;split at h
    . rename_i he;cases h;have:=B2w.1 he;simp [this]
    . obtain ⟨h1,h2⟩:=A5K h;refine ⟨by omega,?_⟩;rw [show q-i=(q-(i+1))+1 by omega];simpa using h2
variable{w:World}
section
variable{P:Program}{R:Mem}{l:Env}{d:Option Nat}{ty t kt et:TypeId}{pos:String}{af:Array Edge}{g:Option (Nat×Bool)}{x y z:Operand}{b c:Nat}{s:ByteArray}{ks:List ByteArray}
theorem A9D{em:Bool}(hk:P.underlying kt=some .string):(Instr.checkKey em 10000 kt (.string s)).run P w=.ok () w:=by unfold Instr.checkKey;simp only [Sem.run_bind,run_underlying hk,Result.andThen_ok];rfl
theorem B2x(hk:P.underlying kt=some .string):(Instr.findKey kt (.string s) (A4z ks 0)).run P w=.ok ((Z3 s ks 0).map λq=>(q,.int .i64 (q:Int))) w:=by unfold Instr.findKey;simp only [Sem.run_bind,run_underlying hk,Result.andThen_ok,A7K];cases Z3 s ks 0<;>simp
theorem B94(hx:ev l x=some (.map (some b)))(hy:ev l y=some (.string s))(hu:P.underlying t=some (.map kt et))(hk:P.underlying kt=some .string)(hz:∀w,(zeroValue et).run P w=.ok (.int .i64 0) w)
    (hb:(b,Obj.map (A4z ks 0).toArray c)∈R):OpQ P R ⟨d,.lookup t x y true,ty,pos,af,g⟩ l (.tuple #[(vI ((Z3 s ks 0).getD 0)),.bool (Z3 s ks 0).isSome]):=λN a w ha hw=>by
  have hm:(getObj b).run P w=.ok (.map (A4z ks 0).toArray c) w:=by simp [getObj,Sem.run,hw _ _ hb]
  simp only [execOp,ha.ev hx,ha.ev hy,Instr.lookup,Sem.run_bind,run_underlying hu,Result.andThen_ok,hm,Sem.run_pure,A9D hk];rw [B2x hk];cases Z3 s ks 0<;>simp [hz]
end
variable{M':Mem}
section
variable{C:Cx}{l:Env}{M J:Mem}{K:Env->Mem->Mem->Prop}{d:Nat}{ty t kt et:TypeId}{pos:String}{af:Array Edge}{g:Option (Nat×Bool)}{x y z:Operand}{b:Nat}{s:ByteArray}{ks:List ByteArray}
theorem B2y(hd:Nat.blt d C.N=true)(k:∀b,K ((d,.map (some b))::l) ((b,.map (A4z [] 0).toArray 0)::M) J):OpL C ⟨some d,.makeMap t none,ty,pos,af,g⟩ l M J K:=by intro Qp a w ha hw;unfold Oper.wp;simp only [execOp,Option.map_none,RowKit.run_makeMap];exact ⟨_,_,J,ha.put (L7 hd) _,hw.alloc _,k _⟩
def A6u(ks:List ByteArray)(s:ByteArray):List MapEntry:=A4z ks 0++[{ key:=.string s,val:=.int .i64 0,born:=ks.length }]
theorem B0S(hx:ev l x=some (.map (some b)))(hy:ev l y=some (.string s))(hu:C.P.underlying t=some (.map kt et))(hk:C.P.underlying kt=some .string)(hz:∀w,(zeroValue et).run C.P w=.ok (.int .i64 0) w)(hn:Z3 s ks 0=none)(hd:Nat.blt d C.N=true)
    (hM:Upd M b (.map (A4z ks 0).toArray ks.length) (.map (A6u ks s).toArray (ks.length+1)) M') (k:K ((d,.tuple #[U7,.int .i64 (ks.length:Int)])::l) M' J):OpL C ⟨some d,.mapEntry t x y,ty,pos,af,g⟩ l M J K:=by
  intro Qp a w ha hw;have hm:=hw.mem _ _ (Ae _ hM.mem)
  have hst:(Instr.mapEntry t (.map (some b)) (.string s)).run C.P w=.ok (.tuple #[U7,.int .i64 (ks.length:Int)]) { w with heap:=w.heap.setIfInBounds b (.map (A6u ks s).toArray (ks.length+1)) }:=by
    have hg:(getObj b).run C.P w=.ok (.map (A4z ks 0).toArray ks.length) w:=by simp [getObj,Sem.run,hm]
    have hs:∀o,(setObj b o).run C.P w=.ok () { w with heap:=w.heap.setIfInBounds b o }:=λo=>by simp [setObj,Sem.run,hm]
    simp only [Instr.mapEntry,Sem.run_bind,run_underlying hu,Result.andThen_ok,hg,A9D hk];rw [B2x hk,hn];simp only [Option.map_none,Result.andThen_ok,Sem.run_bind,hz,hs,Sem.run_pure];simp [goInt,A6u]
  unfold Oper.wp;simp only [execOp,ha.ev hx,ha.ev hy,hst,Sem.run_bind,Result.andThen_ok,Sem.run_pure];refine ⟨_,_,J,ha.put (L7 hd) _,hw.upd hM (by simp [T4 hm]) (λk hk=>by simp [Array.getElem?_setIfInBounds,Ne.symm hk]) (by simp) E E E,k⟩
theorem A9E(e:MapEntry):∀(ks:List ByteArray) (i n:Nat),n=i+ks.length->e.born=n->(A4z ks i++[e]).findIdx? (λe=>(e.born:Int)==(n:Int))=some ks.length
  | [],i,n,hn,he=>by simp [A4z,List.findIdx?_cons,he]
  | k::ks,i,n,hn,he=>by simp only [List.length_cons] at hn;rw [A4z,List.cons_append,List.findIdx?_cons,if_neg (by simp;omega),A9E e ks (i+1) n (by omega) he];rfl
theorem A7L(hx:ev l x=some (.map (some b)))(hy:ev l y=some (.int .i64 (ks.length:Int)))(hz:ev l z=some (.int .i64 (ks.length:Int)))
    (hM:Upd M b (.map (A6u ks s).toArray (ks.length+1)) (.map (A4z (ks++[s]) 0).toArray (ks.length+1)) M') (k:K l M' J):OpL C ⟨none,.entryStore t x y z,ty,pos,af,g⟩ l M J K:=by
  intro Qp a w ha hw;have hm:=hw.mem _ _ (Ae _ hM.mem)
  have hst:(Instr.entryStore t (.map (some b)) (.int .i64 (ks.length:Int)) (.int .i64 (ks.length:Int))).run C.P w=.ok () { w with heap:=w.heap.setIfInBounds b (.map (A4z (ks++[s]) 0).toArray (ks.length+1)) }:=by
    have hg:(getObj b).run C.P w=.ok (.map (A6u ks s).toArray (ks.length+1)) w:=by simp [getObj,Sem.run,hm]
    have hs:∀o,(setObj b o).run C.P w=.ok () { w with heap:=w.heap.setIfInBounds b o }:=λo=>by simp [setObj,Sem.run,hm]
    have hi:(A6u ks s).toArray.findIdx? (λe=>(e.born:Int)==(ks.length:Int))=some ks.length:=by rw [List.findIdx?_toArray];unfold A6u;exact A9E _ ks 0 ks.length (by omega) rfl
    have hmod:(A6u ks s).toArray.modify ks.length (λe=>{ e with val:=.int .i64 (ks.length:Int) })=(A4z (ks++[s]) 0).toArray:=by unfold A6u;rw [A9C,Nat.zero_add,List.modify_toArray];congr 1;rw [List.modify_eq_take_cons_drop (by simp [A6t])];simp [A6t,List.getElem_append_right]
    simp only [Instr.entryStore,Sem.run_bind,Result.andThen_ok,hg,asInt,asIntOf,Sem.run_pure,hi,hs,hmod]
  unfold Oper.wp;simp only [execOp,ha.ev hx,ha.ev hy,ha.ev hz,hst,Sem.run_bind,Result.andThen_ok];refine ⟨_,_,J,ha,hw.upd hM (by simp [T4 hm]) (λk hk=>by simp [Array.getElem?_setIfInBounds,Ne.symm hk]) (by simp) E E E,k⟩
end
end Go.Px

namespace Go.Proofs.YtgpjndfgjjlhaaaGreatDoor
open Go.Px
def A13(l:List Int):List Value:=l.map (.int .i64)
abbrev tmc(k:Nat)(vo:Value)(t:LN)(n:Int):List Value:=[.int .u8 (k:Int),vo,.string (txt t),.int .i64 n]

end Go.Proofs.YtgpjndfgjjlhaaaGreatDoor
