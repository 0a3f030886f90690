/- Part 10 of the texts of this claim, one behind the other. -/
import Derived.Test.YtjkpfgjfpbihaaaGreatDoorB9
set_option linter.unusedVariables false
set_option linter.unusedSimpArgs false
set_option maxRecDepth 100000
namespace Go.Px
structure Gc where
  i:Nat
  d:Nat
  s:Option Nat
  m:Mem
  φ:Value->Mem->Mem->Prop
def Gc.inp(g:Gc)(bs:Nat->Mem):Mem:=match g.s with
  | none=>g.m
  | some s=>bs s
variable{g:Gc}{bs:Nat->Mem}
theorem Gc.inp_none(h:g.s=none):g.inp bs=g.m:=by unfold Gc.inp; rw [h]
theorem Gc.inp_some{s:Nat}(h:g.s=some s):g.inp bs=bs s:=by unfold Gc.inp; rw [h]
def Q0(G:List Gc)(vs:Nat->Value):Env:=G.map λ g=>(g.d,vs g.i)
def B5D(G:List Gc):List Gm:=G.map λ g=>⟨g.i,g.d,λ _ _=>True⟩
theorem B1U(G:List Gc):(B5D G).map (·.i)=G.map (·.i):=by simp [B5D]
theorem B1V(G:List Gc):(B5D G).map (·.d)=G.map (·.d):=by simp [B5D]
theorem A1B(G:List Gc)(vs:Nat->Value):A3i (B5D G) vs=Q0 G vs:=by simp [A3i,Q0,B5D]
variable{G:List Gc}
theorem A0D(h:(G.map (·.i)).Nodup){g':Gc}(hg:g∈G)(hg':g'∈G)(e:g.i=g'.i):g=g':=by
  induction G with
  | nil=>cases hg
  | cons x G ih =>
    simp only [List.map_cons,List.nodup_cons] at h;rcases List.mem_cons.1 hg with h1 | h1 <;> rcases List.mem_cons.1 hg' with h2 | h2
    . rw [h1,h2]
    . exact absurd (by rw [<- h1,e]; exact Al (f:=Gc.i) h2) h.1
    . exact absurd (by rw [<- h2,<- e]; exact Al (f:=Gc.i) h1) h.1
    . exact ih h.2 h1 h2
def A3c(G:List Gc)(X:List Nat)(bs:Nat->Mem)(g:Gc):Mem :=
  if g.i∈X then (if ∃ g'∈G,g'.s=some g.i∧g'.i∈X then [] else bs g.i) else (if g.s=none then g.m else [])
def A7R(X:List Nat)(bs:Nat->Mem)(G:List Gc):Mem:=(G.map (A3c G X bs)).flatten
def B1W(l:List (Nat×Option Nat))(i:Nat):Bool:=l.any λ p=>p.2 == some i
def A90(G:List Gc)(bs:Nat->Mem):List Mem:=(G.filter λ g=>!B1W (G.map λ g=>(g.i,g.s)) g.i).map λ g=>bs g.i
def U2(l:List Mem)(M:Mem):Mem:=l.foldr (·++·) M
def A0y(G:List Gc):List Mem:=(G.filter λ g=>g.s.isNone).map (·.m)
def A7S(ops:Array Oper)(l:List (Nat×Option Nat)):Bool :=
  l.all λ p=>match p.2 with
    | none=>true
    | some s=>(l.map Prod.fst).contains s && anc ops ops.size p.1 s && l.all λ q=>q.2 != some s || q.1 == p.1
structure ChainOk(ops:Array Oper)(G:List Gc):Prop where
  anc:∀ g∈G,∀ s,g.s=some s->anc ops ops.size g.i s=true
  mem:∀ g∈G,∀ s,g.s=some s->s∈G.map (·.i)
  one:∀ g∈G,∀ g'∈G,∀ s,g.s=some s->g'.s=some s->g'.i=g.i
variable{ops:Array Oper}
theorem A8W(h:A7S ops (G.map λ g=>(g.i,g.s))=true):ChainOk ops G:=by
  have key:∀ g∈G,∀ s,g.s=some s->s∈G.map (·.i)∧Px.anc ops ops.size g.i s=true∧∀ g'∈G,g'.s=some s->g'.i=g.i:=by intro g hg s hs;have h1:=List.all_eq_true.1 h (g.i,g.s) (Al (f:=λ g:Gc=>(g.i,g.s)) hg);simp only [hs,Bool.and_eq_true,List.contains_iff_mem,List.map_map] at h1;obtain ⟨⟨h2,h3⟩,h4⟩:=h1;refine ⟨by simpa [Function.comp_def] using h2,h3,λ g' hg' hs'=>?_⟩;have h5:=List.all_eq_true.1 h4 (g'.i,g'.s) (Al (f:=λ g:Gc=>(g.i,g.s)) hg');simp [hs'] at h5;exact h5
  exact ⟨λ g hg s hs=>(key g hg s hs).2.1,λ g hg s hs=>(key g hg s hs).1,λ g hg g' hg' s hs hs'=>(key g hg s hs).2.2 g' hg' hs'⟩
theorem A7T(hi:(G.map (·.i)).Nodup)(hg:g∈G)(f:Gc->Mem) :
    ∃ R,∀ f':Gc->Mem,(∀ x∈G,x.i≠g.i->f' x=f x)->(G.map f').flatten.Perm (f' g++R):=by
  obtain ⟨s,t,rfl⟩:=List.append_of_mem hg
  have hne:∀ x∈s++t,x.i≠g.i:=by
    intro x hx e;simp only [List.map_append,List.map_cons,List.nodup_append,List.nodup_cons] at hi;rcases List.mem_append.1 hx with h | h
    . exact hi.2.2 _ (Al (f:=Gc.i) h) _ Ax e
    . exact hi.2.1.1 (e▸Al (f:=Gc.i) h)
  refine ⟨(s.map f).flatten++(t.map f).flatten,λ f' h=>?_⟩;have es:s.map f'=s.map f:=Bt λ x hx=>h x (by simp [hx]) (hne x (Ae _ hx));have et:t.map f'=t.map f:=Bt λ x hx=>h x (by simp [hx]) (hne x (Ai _ hx));simp only [List.map_append,List.map_cons,List.flatten_append,List.flatten_cons,es,et];exact List.perm_append_comm_assoc _ _ _
variable{X:List Nat}
theorem A4d(hi:(G.map (·.i)).Nodup)(hc:ChainOk ops G)(hg:g∈G)(hX:g.i ∉ X)(hcl:∀ g'∈G,g'.i∈X->∀ s,g'.s=some s->s∈X)(hsx:∀ s,g.s=some s->s∈X) :
    ∃ R,(A7R X bs G).Perm (g.inp bs++R)∧∀ M',(M'++R).Perm (A7R (X++[g.i]) (λ k=>if k=g.i then M' else bs k) G):=by
  have hmem:∀ x:Gc,x.i≠g.i->(x.i∈X++[g.i] ↔ x.i∈X):=λ x h=>by simp [h]
  have hself:∀ M':Mem,A3c G (X++[g.i]) (λ k=>if k=g.i then M' else bs k) g=M':=by
    intro M'
    have hno:¬ ∃ g'∈G,g'.s=some g.i∧g'.i∈X++[g.i]:=by
      rintro ⟨g',hg',hs',hx'⟩;rcases List.mem_append.1 hx' with h | h
      . exact hX (hcl g' hg' h _ hs')
      . have h2:g'=g:=A0D hi hg' hg (by simpa using h);subst h2;exact hX (hsx _ hs')
    unfold A3c;rw [if_pos (by simp),if_neg hno];exact if_pos rfl
  cases hs:g.s with
  | none =>
    obtain ⟨R,hR⟩:=A7T hi hg (A3c G X bs);refine ⟨R,?_,λ M'=>?_⟩
    . have h1:=hR (A3c G X bs) λ _ _ _=>rfl;have h2:A3c G X bs g=g.inp bs:=by unfold A3c; rw [if_neg hX,if_pos hs,Gc.inp_none hs]
      rw [h2] at h1;exact h1
    . have h1:=hR (A3c G (X++[g.i]) λ k=>if k=g.i then M' else bs k) λ x hx hne=>by
        unfold A3c;by_cases hxX:x.i∈X
        . rw [if_pos ((hmem x hne).2 hxX),if_pos hxX]
          have hiff:(∃ g'∈G,g'.s=some x.i∧g'.i∈X++[g.i]) ↔ (∃ g'∈G,g'.s=some x.i∧g'.i∈X):=by
            constructor
            . rintro ⟨g',h1,h2,h3⟩;rcases List.mem_append.1 h3 with h4 | h4
              . exact ⟨g',h1,h2,h4⟩
              . have h5:g'=g:=A0D hi h1 hg (by simpa using h4);subst h5; rw [hs] at h2; cases h2
            . rintro ⟨g',h1,h2,h3⟩; exact ⟨g',h1,h2,Ae _ h3⟩
          simp only [hiff,if_neg hne]
        . rw [if_neg (λ h=>hxX ((hmem x hne).1 h)),if_neg hxX]
      rw [hself M'] at h1;exact h1.symm
  | some s =>
    have hsX:=hsx s hs;obtain ⟨gs,hgs,rfl⟩:=List.mem_map.1 (hc.mem g hg s hs);have hne0:gs.i≠g.i:=λ h=>hX (h▸hsX);obtain ⟨R1,hR1⟩:=A7T hi hgs (A3c G X bs);have h1:=hR1 (A3c G X bs) λ _ _ _=>rfl
    have e1:A3c G X bs gs=bs gs.i:=by unfold A3c;rw [if_pos hsX,if_neg];rintro ⟨g',hg',hs',hx'⟩;exact hX (hc.one g hg g' hg' _ hs hs'▸hx')
    rw [e1] at h1;have h2:=hR1 (λ x=>if x.i=gs.i then [] else A3c G X bs x) λ x _ hne=>if_neg hne;simp only [if_true,List.nil_append] at h2;obtain ⟨R2,hR2⟩:=A7T hi hg (λ x=>if x.i=gs.i then [] else A3c G X bs x);have h3:=hR2 (λ x=>if x.i=gs.i then [] else A3c G X bs x) λ _ _ _=>rfl
    have e3:(if g.i=gs.i then [] else A3c G X bs g)=([]:Mem):=by rw [if_neg (Ne.symm hne0)];unfold A3c;rw [if_neg hX,if_neg (by rw [hs]; exact λ h=>by cases h)]
    simp only [e3,List.nil_append] at h3;refine ⟨R2,?_,λ M'=>?_⟩
    . rw [Gc.inp_some hs];exact h1.trans (List.Perm.append_left _ (h2.symm.trans h3))
    . have h4:=hR2 (A3c G (X++[g.i]) λ k=>if k=g.i then M' else bs k) λ x hx hne=>by
        by_cases hxs:x.i=gs.i
        . rw [if_pos hxs];unfold A3c;rw [if_pos ((hmem x hne).2 (hxs▸hsX)),if_pos ⟨g,hg,by rw [hs,hxs],by simp⟩]
        . rw [if_neg hxs];unfold A3c;by_cases hxX:x.i∈X
          . rw [if_pos ((hmem x hne).2 hxX),if_pos hxX]
            have hiff:(∃ g'∈G,g'.s=some x.i∧g'.i∈X++[g.i]) ↔ (∃ g'∈G,g'.s=some x.i∧g'.i∈X):=by
              constructor
              . rintro ⟨g',h1,h2,h3⟩;rcases List.mem_append.1 h3 with h4 | h4
                . exact ⟨g',h1,h2,h4⟩
                . have h5:g'=g:=A0D hi h1 hg (by simpa using h4);subst h5; rw [hs] at h2; exact absurd (Ca h2).symm hxs
              . rintro ⟨g',h1,h2,h3⟩; exact ⟨g',h1,h2,Ae _ h3⟩
            simp only [hiff,if_neg hne]
          . rw [if_neg (λ h=>hxX ((hmem x hne).1 h)),if_neg hxX]
      rw [hself M'] at h4;exact h4.symm
theorem A8X:A7R [] bs G=(A0y G).flatten:=by
  have:∀ G':List Gc,(G'.map (A3c G [] bs)).flatten=(A0y G').flatten:=by
    intro G'
    induction G' with
    | nil=>rfl
    | cons g G' ih =>
      rw [List.map_cons,List.flatten_cons,ih];have e:A3c G [] bs g=if g.s=none then g.m else []:=by unfold A3c; rw [if_neg (by simp)]
      rw [e]
      cases hs:g.s with
      | none=>simp [A0y,hs]
      | some s=>simp [A0y,hs]
  exact this G
theorem A8Y(h:∀ g∈G,g.i∈X):A7R X bs G=(A90 G bs).flatten:=by
  have he:∀ g∈G,A3c G X bs g=if B1W (G.map λ g=>(g.i,g.s)) g.i=true then [] else bs g.i:=by
    intro g hg;unfold A3c;rw [if_pos (h g hg)]
    have:(∃ g'∈G,g'.s=some g.i∧g'.i∈X) ↔ B1W (G.map λ g=>(g.i,g.s)) g.i=true:=by
      unfold B1W;simp only [List.any_eq_true,List.mem_map];constructor
      . rintro ⟨g',h1,h2,_⟩; exact ⟨_,⟨g',h1,E⟩,by simp [h2]⟩
      . rintro ⟨_,⟨g',h1,rfl⟩,h2⟩; exact ⟨g',h1,by simpa using h2,h g' h1⟩
    simp only [this]
  unfold A7R A90;rw [Bt he]
  have:∀ (G':List Gc) (p:Gc->Bool),(G'.map λ g=>if p g=true then ([]:Mem) else bs g.i).flatten=((G'.filter λ g=>!p g).map λ g=>bs g.i).flatten:=by
    intro G' p
    induction G' with
    | nil=>rfl
    | cons g G' ih =>
      rw [List.map_cons,List.flatten_cons,ih];cases hp:p g <;> simp [hp]
  exact this G λ g=>B1W (G.map λ g=>(g.i,g.s)) g.i
theorem A3y(l:List Mem)(M:Mem):U2 l M=l.flatten++M:=by
  induction l with
  | nil=>rfl
  | cons a l ih=>show a++U2 l M=_; rw [ih,List.flatten_cons,Ap]
section group
variable{C:Cx}{Q:XQ}{l:Env}{M M0 J:Mem}{os:List Oper}{K:Nat->Prop}{n0:Nat}{nd:List Nat}{plan:List (Nat×Nat)}
def A7U(C:Cx)(os:List Oper)(l:Env)(M0 J:Mem)(G:List Gc)(g:Gc):Prop :=
  ∃ o,nth os g.i=some o∧∀ (vs:Nat->Value) (bs:Nat->Mem) (R Rj:Mem) (w:World),(∀ x∈M0++(J++C.A),x∈R)->(∀ x∈J++C.A,x∈Rj)->(∀ x∈Rj,x∈R)->(∀ g'∈G,anc os.toArray os.toArray.size g.i g'.i=true->g'.φ (vs g'.i) (bs g'.i) Rj) ->
    B4O os (Q0 G vs++l) o∧OpL ⟨C.P,w,(g.inp bs).map Prod.fst,R,C.N⟩ o (Q0 G vs++l) (g.inp bs) [] (λ l' M' J'=>∃ v,l'=(g.d,v)::(Q0 G vs++l)∧g.φ v M' (J'++Rj))
theorem B1X(hmono:∀ g∈G,A1P g.φ)(hd:(G.map (·.d)).Nodup)(hi:(G.map (·.i)).Nodup)(hc:ChainOk os.toArray G)(hKn:∀ b,n0<=b->K b)(hK:∀ m∈A0y G,∀ x∈m,K x.1)(hob:∀ g∈G,A7U C os l M0 J G g){A B:Array Bool}(hok:GOk os.toArray A (G.map (·.i)) B)
    (hfin:∀ (vs:Nat->Value) (bs:Nat->Mem) Jn a w,(∀ g∈G,g.φ (vs g.i) (bs g.i) ((Jn++J)++C.A))->(∀ g∈G,∀ x∈bs g.i,K x.1)->Ag C.N (Q0 G vs++l) a->St C ((A90 G bs).flatten++M0) (Jn++J) w->n0<=w.heap.size->A0z C.P os.toArray (T3 (A7x C Q)) (Sk K) nd.contains plan.length B a w) :
    ∀ (n:Nat) (X:List Nat) (vs:Nat->Value) (bs:Nat->Mem) (Jn:Mem) (a:Act) (w:World),X.Nodup->(∀ i∈X,i∈G.map (·.i))->n+X.length=G.length->R6 os.toArray (mark A X)->(∀ g∈G,g.i∈X->∀ s,g.s=some s->s∈X) ->
      (∀ g∈G,g.i∈X->g.φ (vs g.i) (bs g.i) ((Jn++J)++C.A))->(∀ g∈G,g.i∈X->∀ x∈bs g.i,K x.1)->Ag C.N (Q0 G vs++l) a->St C (A7R X bs G++M0) (Jn++J) w->n0<=w.heap.size ->
      A0z C.P os.toArray (T3 (A7x C Q)) (Sk K) nd.contains (n+plan.length) (mark A X) a w:=by
  intro n
  induction n with
  | zero =>
    intro X vs bs Jn a w hnd hX hlen hcl hXs hφ hN ha hw hn
    have hall:∀ i,i∈X ↔ i∈G.map (·.i):=λ i=>⟨hX i,A2s hnd hX (by simp; omega) i⟩
    have hin:∀ g∈G,g.i∈X:=λ g hg=>(hall _).2 (Al (f:=Gc.i) hg);have hcur:=A8Y (bs:=bs) hin;rw [hcur] at hw;rw [Nat.zero_add,A5v hall,<- hok.mark];exact hfin vs bs Jn a w (λ g hg=>hφ g hg (hin g hg)) (λ g hg=>hN g hg (hin g hg)) ha hw hn
  | succ n ih =>
    intro X vs bs Jn a w hnd hX hlen hcl hXs hφ hN ha hw hn
    have hmiss:∃ k∈G.map (·.i),k ∉ X:=by apply Classical.byContradiction;intro hno;have hs:∀ k∈G.map (·.i),k∈X:=λ k hk=>Classical.byContradiction λ h=>hno ⟨k,hk,h⟩;have:=A2r hi hs;simp at this; omega
    obtain ⟨k,hkG,hkX⟩:=hmiss
    have hun:∀ i∈G.map (·.i),A.getD i true=false:=by
      have:∀ {is A B},GOk os.toArray A is B->∀ i∈is,A.getD i true=false:=by
        intro is A B h
        induction h with
        | nil=>intro i hi; cases hi
        | @cons A B i r hr ho h ih =>
          intro k hk;rcases List.mem_cons.1 hk with rfl | hk
          . exact L3 hr
          . have h2:=ih k hk;by_cases e:i=k
            . subst e; exact L3 hr
            . rwa [getD_set_ne true e] at h2
      exact this hok
    have hkun:(mark A X).getD k true=false:=I9.2 ⟨hun k hkG,λ h=>hkX h.1⟩;rw [show n+1+plan.length=(n+plan.length)+1 by omega];refine ⟨λ h0=>?_,λ i hir=>?_⟩
    . obtain ⟨i,hir⟩:=hok.first (A1d A X) (λ j hj=>A1e hj) hkG hkun;rw [h0] at hir; cases hir
    . have hiG:i∈G.map (·.i):=by apply Classical.byContradiction;intro hno;have h1:=I9.1 (L3 hir);have h2:=hok.outer k hkG i (A3r hir) h1.1 hno;exact U8 hkun (R7 hcl h2 hir)
      obtain ⟨g,hg,rfl⟩:=List.mem_map.1 hiG;have hiX:g.i ∉ X:=λ h=>(I9.1 (L3 hir)).2 ⟨h,Y3 (hun _ hiG)⟩
      have hin:∀ j∈G.map (·.i),anc os.toArray os.toArray.size g.i j=true->j∈X:=λ j hj hanc=>by
        have h3:=R7 hcl hanc hir;rcases A0p h3 with h4 | h4
        . exact (U8 (hun _ hj) h4).elim
        . exact h4
      have hsx:∀ s,g.s=some s->s∈X:=λ s hs=>hin s (hc.mem g hg s hs) (hc.anc g hg s hs)
      have hKi:∀ x∈g.inp bs,K x.1:=by
        intro x hx
        cases hs:g.s with
        | none =>
          rw [Gc.inp_none hs] at hx;exact hK g.m (List.mem_map.2 ⟨g,List.mem_filter.2 ⟨hg,by simp [hs]⟩,E⟩) x hx
        | some s =>
          rw [Gc.inp_some hs] at hx;obtain ⟨gs,hgs,rfl⟩:=List.mem_map.1 (hc.mem g hg s hs);exact hN gs hgs (hsx _ hs) x hx
      obtain ⟨o,hget,howe⟩:=hob g hg;have hi':os.toArray[g.i]? = some o:=by rw [W7] at hget; simpa using hget
      obtain ⟨hask,hop⟩:=howe vs bs (M0++((Jn++J)++C.A)) ((Jn++J)++C.A) w (λ x hx=>by simp only [List.mem_append] at hx ⊢; rcases hx with h | h | h <;> simp [h]) (λ x hx=>by simp only [List.mem_append] at hx ⊢; rcases hx with h | h <;> simp [h]) (λ x hx=>Ai _ hx) (λ g' hg' hanc=>hφ g' hg' (hin _ (Al (f:=Gc.i) hg') hanc));unfold wpOp;simp only [hi'];rw [if_pos (hask.wanted ha)];obtain ⟨R0,hp0,hq0⟩:=A4d (bs:=bs) hi hc hg hiX hXs hsx
      have hpc:(A7R X bs G++M0).Perm (g.inp bs++(R0++M0)):=by rw [<- Ap]; exact List.Perm.append_right _ hp0
      have hcal:=hw.callee hpc
      have hcal2:=St.less (A:=M0++((Jn++J)++C.A)) hcal λ x hx=>by
        simp only [List.mem_append] at hx ⊢;rcases hx with h | h
        . exact .inl (.inr h)
        . exact .inr h
      refine .inl (Oper.wp_mono ?_ (hop _ a w ha hcal2.cx));rintro a' w' ⟨l',M',J',ha',hs',v,rfl,hφv⟩;have hsz:w.heap.size<=w'.heap.size:=hs'.size;have hs2:=St.widen hcal.cx hs';have hb:=hw.back hpc hs2.cx
      let bs':Nat->Mem:=λ k=>if k=g.i then M' else bs k
      have hperm:(M'++(R0++M0)).Perm (A7R (X++[g.i]) bs' G++M0):=by rw [<- Ap];exact List.Perm.append_right _ (hq0 M')
      have hfr2:St C (A7R (X++[g.i]) bs' G++M0) ((J'++Jn)++J) w':=(hb.perm hperm).drop (Ao _) λ x hx=>by simp only [List.mem_append] at hx ⊢;rcases hx with (h | h) | h <;> simp [h]
      refine ⟨λ _ b hb' hnk=>hs'.frame b hb' λ hm=>?_,?_⟩
      . obtain ⟨x,hx,e⟩:=List.mem_map.1 hm;exact hnk (e▸hKi x hx)
      rw [<- U3];have henv:=A2t (N:=C.N) (G:=B5D G) (l:=l) (vs:=vs) (g:=⟨g.i,g.d,λ _ _=>True⟩) (a:=a') (v:=v) (Al (f:=λ g:Gc=>(⟨g.i,g.d,λ _ _=>True⟩:Gm)) hg) (by rw [B1V]; exact hd) (by rw [B1U]; exact hi) (by rw [A1B]; exact ha');rw [A1B] at henv;refine ih (X++[g.i]) (λ k=>if k=g.i then v else vs k) bs' (J'++Jn) a' w' ?_ ?_ (by simp; omega) ?_ ?_ ?_ ?_ henv hfr2 (Az hn hsz)
      . rw [List.nodup_append]; exact ⟨hnd,by simp,λ x hx y hy e=>hiX (by simp at hy; subst hy; exact e▸hx)⟩
      . intro j hj;rcases List.mem_append.1 hj with hj | hj
        . exact hX j hj
        . simp at hj; subst hj; exact hiG
      . rw [U3]; exact K1 hcl hir
      . intro g' hg' hm s hs;rcases List.mem_append.1 hm with h | h
        . exact Ae _ (hXs g' hg' h s hs)
        . have h2:g'=g:=A0D hi hg' hg (by simpa using h);subst h2;exact Ae _ (hsx s hs)
      . intro g' hg' hm;by_cases e:g'.i=g.i
        . have:g'=g:=A0D hi hg' hg e;subst this;simp only [if_true,bs'];exact hmono g' hg' _ _ _ _ (λ x hx=>by simp only [List.mem_append] at hx ⊢; rcases hx with h | (h | h) | h <;> simp [h]) hφv
        . simp only [e,if_false,bs'];have hm':g'.i∈X:=by simpa [e] using hm
          exact hmono g' hg' _ _ _ _ (λ x hx=>by simp only [List.mem_append] at hx ⊢; rcases hx with (h | h) | h <;> simp [h]) (hφ g' hg' hm')
      . intro g' hg' hk x hx;by_cases e:g'.i=g.i
        . have:g'=g:=A0D hi hg' hg e;subst this;simp only [if_true,bs'] at hx;rcases hs'.own x.1 x.2 (by simp [hx]) with h6 | h6
          . obtain ⟨y,hy,e6⟩:=List.mem_map.1 h6;exact e6▸hKi y hy
          . exact hKn _ (Az hn h6)
        . simp only [e,if_false,bs'] at hx;have hk':g'.i∈X:=by simpa [e] using hk
          exact hN g' hg' hk' x hx
theorem A0O(G:List Gc)(M0:Mem)(Lf:(Nat->Mem)->List Mem)(hKn:∀ b,n0<=b->K b)(hM:M.Perm (U2 (A0y G) M0))(hK:∀ m∈A0y G,∀ x∈m,K x.1)(hck:A7S os.toArray (G.map λ g=>(g.i,g.s))=true)(hLf:∀ bs,A90 G bs=Lf bs)
    (hmono:∀ g∈G,A1P g.φ) (hd:(G.map (·.d)).Nodup) (hi:(G.map (·.i)).Nodup) (hdN:∀ g∈G,g.d < C.N) (hob:∀ g∈G,A7U C os l M0 J G g)
    (h:∀ (vs:Nat->Value) (bs:Nat->Mem) Jn,(∀ g∈G,g.φ (vs g.i) (bs g.i) ((Jn++J)++C.A))->(∀ g∈G,∀ x∈bs g.i,K x.1)->XK C os Q K n0 nd plan (Q0 G vs++l) (U2 (Lf bs) M0) (Jn++J)):XK C os Q K n0 nd (enc (G.map (·.i))++plan) l M J:=by
  refine A1Z hM ?_;rw [A3y];intro listed hcl hp a w ha hw hn;obtain ⟨B,hok,hp2⟩:=A8z hp
  have hBcl:R6 os.toArray B:=by
    have:∀ {A is B},GOk os.toArray A is B->R6 os.toArray A->R6 os.toArray B:=by
      intro A is B h
      induction h with
      | nil=>exact id
      | cons hr _ _ ih=>exact λ hc=>ih (K1 hc hr)
    exact this hok hcl
  have hlen:(enc (G.map (·.i))++plan).length=G.length+plan.length:=by
    have:∀ is:List Nat,(enc is).length=is.length:=by
      intro is
      induction is with
      | nil=>rfl
      | cons i r ih=>cases r with
        | nil=>rfl
        | cons j r=>simp only [enc,List.length_cons] at ih ⊢; rw [ih]
    simp [this]
  rw [hlen]
  let vs:Nat->Value:=λ k=>match G.find? (λ g=>g.i == k) with
    | some g=>(a.tmps[g.d]?).getD undef
    | none=>undef
  have hag:Ag C.N (Q0 G vs++l) a:=by
    refine ⟨ha.defers,ha.size,?_⟩;intro k u hk
    have key:∀ G':List Gc,(∀ g∈G',g∈G)->lk (Q0 G' vs++l) k=some u->a.tmps[k]? = some u:=by
      intro G'
      induction G' with
      | nil=>intro _ h; exact ha.slot k u h
      | cons g G' ih =>
        intro hs h;simp only [Q0,List.map_cons,List.cons_append,lk] at h;by_cases e:g.d=k
        . subst e;simp at h
          have hf:G.find? (λ x=>x.i == g.i)=some g:=by
            have hgG:=hs g Ax
            cases hq:G.find? (λ x=>x.i == g.i) with
            | none=>have:=List.find?_eq_none.1 hq g hgG; simp at this
            | some x =>
              have h1:=List.find?_some hq;have h2:=List.mem_of_find?_eq_some hq;rw [A0D hi h2 hgG (by simpa using h1)]
          have hlt:g.d < a.tmps.size:=by rw [ha.size]; exact hdN g (hs g Ax)
          rw [<- h];show a.tmps[g.d]? = some (vs g.i);simp only [vs,hf,Array.getElem?_eq_getElem hlt,Option.getD_some]
        . simp only [A0h e,cond_false] at h;exact ih (λ x hx=>hs x (Bb _ hx)) h
    exact key G (λ _ h=>h) hk
  refine B1X (n0:=n0) (K:=K) hmono hd hi (A8W hck) hKn hK hob hok (λ vs bs Jn a w hφ hN ha hw hn=>h vs bs Jn hφ hN B hBcl hp2 a w ha (by rw [A3y,<- hLf]; exact hw) hn) G.length [] vs (λ _=>[]) [] a w .nil (λ _ h=>by cases h) (by simp) hcl (λ _ _ h=>by cases h) (λ _ _ h=>by cases h) (λ _ _ h=>by cases h) hag (by rw [A8X]; exact hw) hn
end group
theorem gC{C:Cx}{os:List Oper}{l:Env}{M0 J:Mem}{Gs:List Gc}{o:Oper}(h:∀ (vs:Nat->Value) (bs:Nat->Mem) (R Rj:Mem) (w:World),(∀ x∈M0++(J++C.A),x∈R)->(∀ x∈J++C.A,x∈Rj)->(∀ x∈Rj,x∈R)->(∀ g'∈G,anc os.toArray os.toArray.size g.i g'.i=true->g'.φ (vs g'.i) (bs g'.i) Rj)->OpL ⟨C.P,w,(g.inp bs).map Prod.fst,R,C.N⟩ o (Q0 G vs++l) (g.inp bs) [] (λ l' M' J'=>∃ v,l'=(g.d,v)::(Q0 G vs++l)∧g.φ v M' (J'++Rj)))
    (t:∀ g∈Gs,A7U C os l M0 J G g) (ho:nth os g.i=some o:=by exact E) (hg:o.guard=none:=by exact E):∀ x∈g::Gs,A7U C os l M0 J G x:=A5 ⟨o,ho,λ vs bs R Rj w hb hj hjr ha=>⟨.inl hg,h vs bs R Rj w hb hj hjr ha⟩⟩ t
end Go.Px

namespace Go.Px
def A4e:List Nat->List (Nat×Nat)
  | []=>[]
  | [q]=>[(q,10)]
  | q::q'::r=>(q,9)::A4e (q'::r)
def B0u(qs:List Nat):List Nat->List (Nat×Nat)
  | []=>A4e qs
  | i::r=>(i,8)::B0u qs r
theorem B8U(plan:List (Nat×Nat)):∀ {qs:List Nat},qs≠[]->grz (A4e qs++plan)=qs∧qsz (A4e qs++plan)=qs
  | [],h=>absurd E h
  | [q],_=>⟨E,E⟩
  | q::q'::r,_=>by
    obtain ⟨h1,h2⟩:=B8U plan (qs:=q'::r) (by simp);refine ⟨?_,?_⟩
    . show q::grz (A4e (q'::r)++plan)=_; rw [h1]
    . show q::qsz (A4e (q'::r)++plan)=_; rw [h2]
theorem A7V{qs:List Nat}(plan:List (Nat×Nat))(h:qs≠[]):∀ r:List Nat,grz (B0u qs r++plan)=r++qs∧qsz (B0u qs r++plan)=qs
  | []=>B8U plan h
  | i::r=>by
    obtain ⟨h1,h2⟩:=A7V plan h r;refine ⟨?_,?_⟩
    . show i::grz (B0u qs r++plan)=_; rw [h1]; rfl
    . show qsz (B0u qs r++plan)=_; rw [h2]
inductive GOz(ops:Array Oper)(qs:List Nat):Array Bool->List Nat->Array Bool->Prop
  | nil {A:Array Bool}:GOz ops qs A [] A
  | cons {A B:Array Bool} {i:Nat} {r:List Nat} (hr:i∈Region.ready .any ops A) (ho:i ∉ qs->∀ j,j < ops.size->A.getD j true=false->j ∉ i::r->anc ops ops.size j i=true) (h:GOz ops qs (A.setIfInBounds i true) r B):GOz ops qs A (i::r) B
theorem A8Z{ops:Array Oper}{nd:List Nat}{Q:List Nat}{plan:List (Nat×Nat)}:∀ {qs:List Nat} {A:Array Bool},qs≠[]->(∀ q∈qs,q∈Q)->L1 ops nd (A4e qs++plan) A=true->∃ B,GOz ops Q A qs B∧(∀ q∈qs,A4z ops A q=true)∧L1 ops nd plan B=true
  | [],A,h,_,_=>absurd E h
  | [q],A,_,hQ,h=>by simp only [A4e,List.cons_append,List.nil_append,L1,Bool.and_eq_true] at h;exact ⟨_,.cons (by simpa using h.1.1) (λ hq=>absurd (hQ q (by simp)) hq) .nil,(λ x hx=>by rw [List.mem_singleton.1 hx]; exact h.1.2),h.2⟩
  | q::q'::r,A,_,hQ,h=>by simp only [A4e,List.cons_append,L1,Bool.and_eq_true] at h;obtain ⟨B,hB,-,hp⟩:=A8Z (qs:=q'::r) (by simp) (λ x hx=>hQ x (Bb _ hx)) h.2;refine ⟨B,.cons (by simpa using h.1.1) (λ hq=>absurd (hQ q (by simp)) hq) hB,λ x hx=>?_,hp⟩;have h2:=h.1.2;rw [(B8U plan (qs:=q'::r) (by simp)).2] at h2;exact List.all_eq_true.1 h2 x hx
theorem B1Y{ops:Array Oper}{nd:List Nat}{qs:List Nat}{plan:List (Nat×Nat)}(hne:qs≠[]):∀ {is:List Nat} {A:Array Bool},L1 ops nd (B0u qs is++plan) A=true->∃ B,GOz ops qs A (is++qs) B∧(∀ q∈qs,A4z ops A q=true)∧L1 ops nd plan B=true
  | [],A,h=>A8Z hne (λ _ h=>h) h
  | i::r,A,h=>by
    simp only [B0u,List.cons_append,L1,A7C,Bool.and_eq_true,List.all_eq_true,List.mem_range,Bool.or_eq_true,(A7V plan hne r).1,(A7V plan hne r).2] at h;obtain ⟨B,hB,-,hp⟩:=B1Y hne (is:=r) h.2;refine ⟨B,.cons (by simpa using h.1.1.1) (λ _ j hj hu hn=>?_) hB,h.1.2,hp⟩;rcases h.1.1.2 j hj with (h1 | h1) | h1
    . rw [hu] at h1; cases h1
    . exact absurd (by simpa using h1) hn
    . exact h1
theorem GOz.mark{ops:Array Oper}{q:List Nat}{A B:Array Bool}{is:List Nat}(h:GOz ops q A is B):B=mark A is:=by
  induction h with
  | nil=>rfl
  | cons _ _ _ ih=>rw [ih]; rfl
variable{ops:Array Oper}{q is:List Nat}{A B:Array Bool}
theorem GOz.un(h:GOz ops q A is B):∀ i∈is,A.getD i true=false:=by
  induction h with
  | nil=>intro i hi; cases hi
  | @cons A B i r hr ho h ih =>
    intro k hk;rcases List.mem_cons.1 hk with rfl | hk
    . exact L3 hr
    . have h2:=ih k hk;by_cases e:i=k
      . subst e; exact L3 hr
      . rwa [getD_set_ne true e] at h2
theorem GOz.outer(h:GOz ops q A is B):∀ i∈is,i ∉ q->∀ j,j < ops.size->A.getD j true=false->j ∉ is->anc ops ops.size j i=true:=by
  induction h with
  | nil=>intro i hi; cases hi
  | @cons A B i r hr ho h ih =>
    intro k hk hq j hj hu hn;rcases List.mem_cons.1 hk with rfl | hk
    . exact ho hq j hj hu hn
    . have hne:i≠j:=λ e=>hn (e▸Ax);exact ih k hk hq j hj (by rw [getD_set_ne true hne]; exact hu) (λ hm=>hn (Bb _ hm))
theorem GOz.first(h:GOz ops q A is B){A':Array Bool}(hsz:A'.size=A.size)(hm:∀ j,A.getD j false=true->A'.getD j false=true){k:Nat}(hk:k∈is)(hk':A'.getD k true=false):∃ i,i∈is∧i∈Region.ready .any ops A':=by
  induction h generalizing k with
  | nil=>cases hk
  | @cons A B i r hr ho h ih =>
    by_cases hi:A'.getD i true=false
    . exact ⟨i,Ax,A4R hr hi hm⟩
    . rcases List.mem_cons.1 hk with rfl | hk
      . exact absurd hk' hi
      . obtain ⟨x,hx1,hx2⟩:=ih (by simpa using hsz) (λ j hj=>by
          by_cases e:i=j
          . subst e;have hlt:=Y3 (L3 hr);have hlt':i < A'.size:=by omega
            simp [hlt'] at hi ⊢; exact hi
          . rw [getD_set_ne false e] at hj
            exact hm j hj) hk hk'
        exact ⟨x,Bb _ hx1,hx2⟩
section group
variable{C:Cx}{Q:XQ}{l:Env}{M M0 J:Mem}{os:List Oper}{K:Nat->Prop}{n0:Nat}{nd:List Nat}{plan:List (Nat×Nat)}
def B8V(C:Cx)(os:List Oper)(l:Env)(J:Mem)(G:List Gc)(g:Gc):Prop :=
  g.s=none∧g.m=[]∧∃ op ty pos af,nth os g.i=some ⟨some g.d,op,ty,pos,af,none⟩∧∀ (vs:Nat->Value) (bs:Nat->Mem) (Rj:Mem),(∀ x∈J++C.A,x∈Rj)->(∀ g'∈G,anc os.toArray os.toArray.size g.i g'.i=true->g'.φ (vs g'.i) (bs g'.i) Rj) ->
    ∃ v,OpQ C.P [] ⟨some g.d,op,ty,pos,af,none⟩ (Q0 G vs++l) v∧g.φ v [] Rj
theorem B1Z{G:List Gc}(hmono:∀ g∈G,A1P g.φ)(hd:(G.map (·.d)).Nodup)(hi:(G.map (·.i)).Nodup)(hc:ChainOk os.toArray G)(hKn:∀ b,n0<=b->K b)(hK:∀ m∈A0y G,∀ x∈m,K x.1)(hs:Region.noSelect os.toArray=true)(hdN:∀ g∈G,g.d < C.N){qs:List Nat}(hob:∀ g∈G,g.i ∉ qs->A7U C os l M0 J G g)(hoq:∀ g∈G,g.i∈qs->B8V C os l J G g)(hok:GOz os.toArray qs A (G.map (·.i)) B)(hfr:∀ q∈qs,A4z os.toArray A q=true)
    (hfin:∀ (vs:Nat->Value) (bs:Nat->Mem) Jn a w,(∀ g∈G,g.φ (vs g.i) (bs g.i) ((Jn++J)++C.A))->(∀ g∈G,∀ x∈bs g.i,K x.1)->Ag C.N (Q0 G vs++l) a->St C ((A90 G bs).flatten++M0) (Jn++J) w->n0<=w.heap.size->A0z C.P os.toArray (T3 (A7x C Q)) (Sk K) nd.contains plan.length B a w) :
    ∀ (n:Nat) (X:List Nat) (vs:Nat->Value) (bs:Nat->Mem) (Jn:Mem) (a:Act) (w:World),X.Nodup->(∀ i∈X,i∈G.map (·.i))->n+X.length=G.length->R6 os.toArray (mark A X)->(∀ g∈G,g.i∈X->∀ s,g.s=some s->s∈X) ->
      (∀ g∈G,g.i∈X->g.φ (vs g.i) (bs g.i) ((Jn++J)++C.A))->(∀ g∈G,g.i∈X->∀ x∈bs g.i,K x.1)->Ag C.N (Q0 G vs++l) a->St C (A7R X bs G++M0) (Jn++J) w->n0<=w.heap.size ->
      A0z C.P os.toArray (T3 (A7x C Q)) (Sk K) nd.contains (n+plan.length) (mark A X) a w:=by
  intro n
  induction n with
  | zero =>
    intro X vs bs Jn a w hnd hX hlen hcl hXs hφ hN ha hw hn
    have hall:∀ i,i∈X ↔ i∈G.map (·.i):=λ i=>⟨hX i,A2s hnd hX (by simp; omega) i⟩
    have hin:∀ g∈G,g.i∈X:=λ g hg=>(hall _).2 (Al (f:=Gc.i) hg);have hcur:=A8Y (bs:=bs) hin;rw [hcur] at hw;rw [Nat.zero_add,A5v hall,<- hok.mark];exact hfin vs bs Jn a w (λ g hg=>hφ g hg (hin g hg)) (λ g hg=>hN g hg (hin g hg)) ha hw hn
  | succ n ih =>
    intro X vs bs Jn a w hnd hX hlen hcl hXs hφ hN ha hw hn;have hun:∀ i∈G.map (·.i),A.getD i true=false:=hok.un;by_cases hqe:∃ g∈G,g.i∈qs∧g.i∈Region.ready .any os.toArray (mark A X)
    . obtain ⟨g,hg,hgq,hqr⟩:=hqe;obtain ⟨hsn,hmn,op,ty,pos,af,hget,howe⟩:=hoq g hg hgq;have hi':os.toArray[g.i]? = some ⟨some g.d,op,ty,pos,af,none⟩:=by rw [W7] at hget; simpa using hget
      have hiG:g.i∈G.map (·.i):=Al (f:=Gc.i) hg;have hiX:g.i ∉ X:=λ h=>(I9.1 (L3 hqr)).2 ⟨h,Y3 (hun _ hiG)⟩
      obtain ⟨v,hq,hφv⟩:=howe vs bs ((Jn++J)++C.A) (λ x hx=>by simp only [List.mem_append] at hx ⊢; rcases hx with h | h <;> simp [h]) (λ g' hg' hanc=>hφ g' hg' (by
        have h3:=R7 hcl hanc hqr;rcases A0p h3 with h4 | h4
        . exact (U8 (hun _ (Al (f:=Gc.i) hg')) h4).elim
        . exact h4))
      rw [show n+1+plan.length=(n+plan.length)+1 by omega]
      refine X7 (S:=Sk K) (T:=λ _=>True) (N:=0) (v:=v) hi' (Region.noSelect_spec hs) (λ _ _ _ h=>h) (λ _ _ _ _=>rfl) _ (mark A X) a w hcl (λ j oj hj hne hun' hno=>A9A hi' (hfr _ hgq) j oj hj hne (I9.1 hun').1 (by
        cases ha0:anc os.toArray os.toArray.size g.i j with
        | false=>rfl
        | true=>exact (U8 hun' (R7 hcl ha0 hqr)).elim) hno) (λ _ _ _ _=>.inr λ _ _ _ _=>trivial) hqr (.inl ⟨rfl,λ w hw=>hq C.N a w ha (λ _ _ hb=>by cases hb)⟩) trivial ?_
      rw [<- U3];have hsx:∀ s,g.s=some s->s∈X:=λ s hs'=>by rw [hsn] at hs'; cases hs'
      obtain ⟨R0,hp0,hq0⟩:=A4d (bs:=bs) hi hc hg hiX hXs hsx;rw [Gc.inp_none hsn,hmn] at hp0
      let bs':Nat->Mem:=λ k=>if k=g.i then [] else bs k
      have hperm:(A7R X bs G++M0).Perm (A7R (X++[g.i]) bs' G++M0):=List.Perm.append_right _ (hp0.trans (hq0 []));have ha':Ag C.N ((g.d,v)::(Q0 G vs++l)) (a.put (some g.d) v):=ha.put (hdN g hg) v;have henv:=A2t (N:=C.N) (G:=B5D G) (l:=l) (vs:=vs) (g:=⟨g.i,g.d,λ _ _=>True⟩) (a:=a.put (some g.d) v) (v:=v) (Al (f:=λ g:Gc=>(⟨g.i,g.d,λ _ _=>True⟩:Gm)) hg) (by rw [B1V]; exact hd) (by rw [B1U]; exact hi) (by rw [A1B]; exact ha');rw [A1B] at henv;refine ih (X++[g.i]) (λ k=>if k=g.i then v else vs k) bs' Jn (a.put (some g.d) v) w ?_ ?_ (by simp; omega) ?_ ?_ ?_ ?_ henv (hw.perm hperm) hn
      . rw [List.nodup_append]; exact ⟨hnd,by simp,λ x hx y hy e=>hiX (by simp at hy; subst hy; exact e▸hx)⟩
      . intro j hj;rcases List.mem_append.1 hj with hj | hj
        . exact hX j hj
        . simp at hj; subst hj; exact hiG
      . rw [U3]; exact K1 hcl hqr
      . intro g' hg' hm s hs';rcases List.mem_append.1 hm with h | h
        . exact Ae _ (hXs g' hg' h s hs')
        . have h2:g'=g:=A0D hi hg' hg (by simpa using h);subst h2;exact Ae _ (hsx s hs')
      . intro g' hg' hm;by_cases e:g'.i=g.i
        . have:g'=g:=A0D hi hg' hg e;subst this;simp only [if_true,bs'];exact hφv
        . simp only [e,if_false,bs'];exact hφ g' hg' (by simpa [e] using hm)
      . intro g' hg' hk x hx;by_cases e:g'.i=g.i
        . simp only [e,if_true,bs'] at hx;cases hx
        . simp only [e,if_false,bs'] at hx;exact hN g' hg' (by simpa [e] using hk) x hx
    have hmiss:∃ k∈G.map (·.i),k ∉ X∧k ∉ qs:=by
      apply Classical.byContradiction;intro hno;have hs':∀ k∈G.map (·.i),k ∉ qs->k∈X:=λ k hk hne=>Classical.byContradiction λ h=>hno ⟨k,hk,h,hne⟩;by_cases hall:∀ k∈G.map (·.i),k∈X
      . have:=A2r hi hall;simp at this; omega
      . obtain ⟨k,hk⟩:=Classical.not_forall.1 hall;obtain ⟨hkG,hkX⟩:=Classical.not_imp.1 hk;obtain ⟨i,hiG,hir⟩:=hok.first (A1d A X) (λ j hj=>A1e hj) hkG (I9.2 ⟨hun _ hkG,λ h=>hkX h.1⟩);have hiX:i ∉ X:=λ h=>(I9.1 (L3 hir)).2 ⟨h,Y3 (hun _ hiG)⟩;by_cases e:i∈qs
        . obtain ⟨g,hg,rfl⟩:=List.mem_map.1 hiG;exact hqe ⟨g,hg,e,hir⟩
        . exact hiX (hs' i hiG e)
    obtain ⟨k,hkG,hkX,hkq⟩:=hmiss;have hkun:(mark A X).getD k true=false:=I9.2 ⟨hun k hkG,λ h=>hkX h.1⟩;rw [show n+1+plan.length=(n+plan.length)+1 by omega];refine ⟨λ h0=>?_,λ i hir=>?_⟩
    . obtain ⟨i,-,hir⟩:=hok.first (A1d A X) (λ j hj=>A1e hj) hkG hkun;rw [h0] at hir; cases hir
    . have hiG:i∈G.map (·.i):=by apply Classical.byContradiction;intro hno;have h1:=I9.1 (L3 hir);have h2:=hok.outer k hkG hkq i (A3r hir) h1.1 hno;exact U8 hkun (R7 hcl h2 hir)
      obtain ⟨g,hg,rfl⟩:=List.mem_map.1 hiG;have hiX:g.i ∉ X:=λ h=>(I9.1 (L3 hir)).2 ⟨h,Y3 (hun _ hiG)⟩
      have hin:∀ j∈G.map (·.i),anc os.toArray os.toArray.size g.i j=true->j∈X:=λ j hj hanc=>by
        have h3:=R7 hcl hanc hir;rcases A0p h3 with h4 | h4
        . exact (U8 (hun _ hj) h4).elim
        . exact h4
      have hsx:∀ s,g.s=some s->s∈X:=λ s hs=>hin s (hc.mem g hg s hs) (hc.anc g hg s hs)
      have hKi:∀ x∈g.inp bs,K x.1:=by
        intro x hx
        cases hs:g.s with
        | none =>
          rw [Gc.inp_none hs] at hx;exact hK g.m (List.mem_map.2 ⟨g,List.mem_filter.2 ⟨hg,by simp [hs]⟩,E⟩) x hx
        | some s =>
          rw [Gc.inp_some hs] at hx;obtain ⟨gs,hgs,rfl⟩:=List.mem_map.1 (hc.mem g hg s hs);exact hN gs hgs (hsx _ hs) x hx
      obtain ⟨o,hget,howe⟩:=hob g hg (λ e=>hqe ⟨g,hg,e,hir⟩);have hi':os.toArray[g.i]? = some o:=by rw [W7] at hget; simpa using hget
      obtain ⟨hask,hop⟩:=howe vs bs (M0++((Jn++J)++C.A)) ((Jn++J)++C.A) w (λ x hx=>by simp only [List.mem_append] at hx ⊢; rcases hx with h | h | h <;> simp [h]) (λ x hx=>by simp only [List.mem_append] at hx ⊢; rcases hx with h | h <;> simp [h]) (λ x hx=>Ai _ hx) (λ g' hg' hanc=>hφ g' hg' (hin _ (Al (f:=Gc.i) hg') hanc));unfold wpOp;simp only [hi'];rw [if_pos (hask.wanted ha)];obtain ⟨R0,hp0,hq0⟩:=A4d (bs:=bs) hi hc hg hiX hXs hsx
      have hpc:(A7R X bs G++M0).Perm (g.inp bs++(R0++M0)):=by rw [<- Ap]; exact List.Perm.append_right _ hp0
      have hcal:=hw.callee hpc
      have hcal2:=St.less (A:=M0++((Jn++J)++C.A)) hcal λ x hx=>by
        simp only [List.mem_append] at hx ⊢;rcases hx with h | h
        . exact .inl (.inr h)
        . exact .inr h
      refine .inl (Oper.wp_mono ?_ (hop _ a w ha hcal2.cx));rintro a' w' ⟨l',M',J',ha',hs',v,rfl,hφv⟩;have hsz:w.heap.size<=w'.heap.size:=hs'.size;have hs2:=St.widen hcal.cx hs';have hb:=hw.back hpc hs2.cx
      let bs':Nat->Mem:=λ k=>if k=g.i then M' else bs k
      have hperm:(M'++(R0++M0)).Perm (A7R (X++[g.i]) bs' G++M0):=by rw [<- Ap];exact List.Perm.append_right _ (hq0 M')
      have hfr2:St C (A7R (X++[g.i]) bs' G++M0) ((J'++Jn)++J) w':=(hb.perm hperm).drop (Ao _) λ x hx=>by simp only [List.mem_append] at hx ⊢;rcases hx with (h | h) | h <;> simp [h]
      refine ⟨λ _ b hb' hnk=>hs'.frame b hb' λ hm=>?_,?_⟩
      . obtain ⟨x,hx,e⟩:=List.mem_map.1 hm;exact hnk (e▸hKi x hx)
      rw [<- U3];have henv:=A2t (N:=C.N) (G:=B5D G) (l:=l) (vs:=vs) (g:=⟨g.i,g.d,λ _ _=>True⟩) (a:=a') (v:=v) (Al (f:=λ g:Gc=>(⟨g.i,g.d,λ _ _=>True⟩:Gm)) hg) (by rw [B1V]; exact hd) (by rw [B1U]; exact hi) (by rw [A1B]; exact ha');rw [A1B] at henv;refine ih (X++[g.i]) (λ k=>if k=g.i then v else vs k) bs' (J'++Jn) a' w' ?_ ?_ (by simp; omega) ?_ ?_ ?_ ?_ henv hfr2 (Az hn hsz)
      . rw [List.nodup_append]; exact ⟨hnd,by simp,λ x hx y hy e=>hiX (by simp at hy; subst hy; exact e▸hx)⟩
      . intro j hj;rcases List.mem_append.1 hj with hj | hj
        . exact hX j hj
        . simp at hj; subst hj; exact hiG
      . rw [U3]; exact K1 hcl hir
      . intro g' hg' hm s hs;rcases List.mem_append.1 hm with h | h
        . exact Ae _ (hXs g' hg' h s hs)
        . have h2:g'=g:=A0D hi hg' hg (by simpa using h);subst h2;exact Ae _ (hsx s hs)
      . intro g' hg' hm;by_cases e:g'.i=g.i
        . have:g'=g:=A0D hi hg' hg e;subst this;simp only [if_true,bs'];exact hmono g' hg' _ _ _ _ (λ x hx=>by simp only [List.mem_append] at hx ⊢; rcases hx with h | (h | h) | h <;> simp [h]) hφv
        . simp only [e,if_false,bs'];have hm':g'.i∈X:=by simpa [e] using hm
          exact hmono g' hg' _ _ _ _ (λ x hx=>by simp only [List.mem_append] at hx ⊢; rcases hx with (h | h) | h <;> simp [h]) (hφ g' hg' hm')
      . intro g' hg' hk x hx;by_cases e:g'.i=g.i
        . have:g'=g:=A0D hi hg' hg e;subst this;simp only [if_true,bs'] at hx;rcases hs'.own x.1 x.2 (by simp [hx]) with h6 | h6
          . obtain ⟨y,hy,e6⟩:=List.mem_map.1 h6;exact e6▸hKi y hy
          . exact hKn _ (Az hn h6)
        . simp only [e,if_false,bs'] at hx;have hk':g'.i∈X:=by simpa [e] using hk
          exact hN g' hg' hk' x hx
theorem W2(G0 Gq:List Gc)(M0:Mem)(Lf:(Nat->Mem)->List Mem)(hKn:∀ b,n0<=b->K b)(hM:M.Perm (U2 (A0y (G0++Gq)) M0))(hK:∀ m∈A0y (G0++Gq),∀ x∈m,K x.1)(hck:A7S os.toArray ((G0++Gq).map λ g=>(g.i,g.s))=true)(hLf:∀ bs,A90 (G0++Gq) bs=Lf bs)
    (hmono:∀ g∈G0++Gq,A1P g.φ) (hd:((G0++Gq).map (·.d)).Nodup) (hi:((G0++Gq).map (·.i)).Nodup) (hdN:∀ g∈G0++Gq,g.d < C.N) (hs:Region.noSelect os.toArray=true) (hne:Gq.map (·.i)≠[]) (hob0:∀ g∈G0,A7U C os l M0 J (G0++Gq) g) (hoq0:∀ g∈Gq,B8V C os l J (G0++Gq) g)
    (h:∀ (vs:Nat->Value) (bs:Nat->Mem) Jn,(∀ g∈G0++Gq,g.φ (vs g.i) (bs g.i) ((Jn++J)++C.A))->(∀ g∈G0++Gq,∀ x∈bs g.i,K x.1)->XK C os Q K n0 nd plan (Q0 (G0++Gq) vs++l) (U2 (Lf bs) M0) (Jn++J)):XK C os Q K n0 nd (B0u (Gq.map (·.i)) (G0.map (·.i))++plan) l M J:=by
  refine A1Z hM ?_;rw [A3y];intro listed hcl hp a w ha hw hn;obtain ⟨B,hok,hfr,hp2⟩:=B1Y hne hp
  have hBcl:R6 os.toArray B:=by
    have:∀ {A is B},GOz os.toArray (Gq.map (·.i)) A is B->R6 os.toArray A->R6 os.toArray B:=by
      intro A is B h
      induction h with
      | nil=>exact id
      | cons hr _ _ ih=>exact λ hc=>ih (K1 hc hr)
    exact this hok hcl
  rw [<- List.map_append] at hok
  have hlen:(B0u (Gq.map (·.i)) (G0.map (·.i))++plan).length=(G0++Gq).length+plan.length:=by
    have h1:∀ qs:List Nat,(A4e qs).length=qs.length:=by
      intro qs
      induction qs with
      | nil=>rfl
      | cons q r ih=>cases r with
        | nil=>rfl
        | cons q' r=>simp only [A4e,List.length_cons] at ih ⊢; rw [ih]
    have h2:∀ (qs is:List Nat),(B0u qs is).length=is.length+qs.length:=by
      intro qs is
      induction is with
      | nil=>simp [B0u,h1]
      | cons i r ih=>simp only [B0u,List.length_cons,ih]; omega
    simp [h2]
  have hob:∀ g∈G0++Gq,g.i ∉ Gq.map (·.i)->A7U C os l M0 J (G0++Gq) g:=λ g hg hq=>by
    rcases List.mem_append.1 hg with h1 | h1
    . exact hob0 g h1
    . exact absurd (Al (f:=Gc.i) h1) hq
  have hoq:∀ g∈G0++Gq,g.i∈Gq.map (·.i)->B8V C os l J (G0++Gq) g:=λ g hg hq=>by obtain ⟨g',hg',e⟩:=List.mem_map.1 hq;have:=A0D hi (Ai _ hg') hg e;exact this▸hoq0 g' hg'
  rw [hlen];generalize Gq.map (·.i)=qs at *;generalize G0++Gq=G at *
  let vs:Nat->Value:=λ k=>match G.find? (λ g=>g.i == k) with
    | some g=>(a.tmps[g.d]?).getD undef
    | none=>undef
  have hag:Ag C.N (Q0 G vs++l) a:=by
    refine ⟨ha.defers,ha.size,?_⟩;intro k u hk
    have key:∀ G':List Gc,(∀ g∈G',g∈G)->lk (Q0 G' vs++l) k=some u->a.tmps[k]? = some u:=by
      intro G'
      induction G' with
      | nil=>intro _ h; exact ha.slot k u h
      | cons g G' ih =>
        intro hs h;simp only [Q0,List.map_cons,List.cons_append,lk] at h;by_cases e:g.d=k
        . subst e;simp at h
          have hf:G.find? (λ x=>x.i == g.i)=some g:=by
            have hgG:=hs g Ax
            cases hq:G.find? (λ x=>x.i == g.i) with
            | none=>have:=List.find?_eq_none.1 hq g hgG; simp at this
            | some x =>
              have h1:=List.find?_some hq;have h2:=List.mem_of_find?_eq_some hq;rw [A0D hi h2 hgG (by simpa using h1)]
          have hlt:g.d < a.tmps.size:=by rw [ha.size]; exact hdN g (hs g Ax)
          rw [<- h];show a.tmps[g.d]? = some (vs g.i);simp only [vs,hf,Array.getElem?_eq_getElem hlt,Option.getD_some]
        . simp only [A0h e,cond_false] at h;exact ih (λ x hx=>hs x (Bb _ hx)) h
    exact key G (λ _ h=>h) hk
  refine B1Z (n0:=n0) (K:=K) hmono hd hi (A8W hck) hKn hK hs hdN hob hoq hok hfr (λ vs bs Jn a w hφ hN ha hw hn=>h vs bs Jn hφ hN B hBcl hp2 a w ha (by rw [A3y,<- hLf]; exact hw) hn) G.length [] vs (λ _=>[]) [] a w .nil (λ _ h=>by cases h) (by simp) hcl (λ _ _ h=>by cases h) (λ _ _ h=>by cases h) (λ _ _ h=>by cases h) hag (by rw [A8X]; exact hw) hn
end group
end Go.Px

namespace Go.Proofs.YtjkpfgjfpbihaaaGreatDoor
open Go.Px
def C2X(x:Nat):Option Nat:=if rt1 x * rt1 x % p25=x then some (rt1 x) else if rt2 x * rt2 x % p25=x then some (rt2 x) else none
theorem B7p(x:Nat):∃ y,y=C2X x:=⟨_,E⟩
noncomputable def rtN(x:Nat):Option Nat:=Classical.choose (B7p x)
theorem B7q(x:Nat):rtN x=C2X x:=Classical.choose_spec (B7p x)
variable{x:Nat}
theorem A80{r:Value}(h:Rt r x):∃ u b n,r=.tuple #[u,.bool b]∧Fe u n∧((rtN x=some n∧b=true)∨(rtN x=none∧b=false)):=by
  obtain ⟨u,b,rfl,h⟩:=h;rw [B7q];unfold C2X;rcases h with ⟨h1,rfl,h2⟩ | ⟨h1,h2,rfl,h3⟩ | ⟨h1,h2,rfl,h3⟩
  . exact ⟨_,_,_,E,h2,.inl ⟨by rw [if_pos h1],E⟩⟩
  . exact ⟨_,_,_,E,h3,.inl ⟨by rw [if_neg h1,if_pos h2],E⟩⟩
  . exact ⟨_,_,_,E,h3,.inr ⟨by rw [if_neg h1,if_neg h2],E⟩⟩
noncomputable def xxN(y:Nat):Nat:=fM (fS (fM y y) 1) (fI (fA (fM dN (fM y y)) 1))
def atO(o:Option Nat)(odd:Bool):Option Nat:=match o with
  | none=>none
  | some x=>if odd && decide (x=0) then none else some (if !(decide (x % 2=1) == odd) then fN x else x)
noncomputable def atN(y:Nat)(odd:Bool):Option Nat:=atO (rtN (xxN y)) odd
variable{y:Nat}{odd:Bool}
theorem B2a{o:Option Nat}(h:rtN (xxN y)=o):atN y odd=atO o odd:=congrArg (λ o=>atO o odd) h
theorem B8W(h:rtN (xxN y)=none):atN y odd=none:=B2a h
theorem B8X(hx:x=0):atO (some x) true=none:=by subst hx; rfl
theorem B8Y(h:rtN (xxN y)=some x)(hx:x=0):atN y true=none:=(B2a h).trans (B8X hx)
variable{b:Bool}
theorem B8Z(hx:(odd && decide (x=0))=false)(hb:(!(decide (x % 2=1) == odd))=b):atO (some x) odd=some (if b then fN x else x):=by unfold atO; simp only [hx,hb]; rfl
theorem A5L(h:rtN (xxN y)=some x)(hx:(odd && decide (x=0))=false)(hb:(!(decide (x % 2=1) == odd))=b):atN y odd=some (if b then fN x else x):=(B2a h).trans (B8Z hx hb)
def pZ:Pt:=⟨0,0,0,0⟩
def pAt(x y:Nat):Pt:=⟨x,y,1,fM x y⟩
def AtR(r:Value)(y:Nat)(odd:Bool):Prop:=∃ V b,r=.tuple #[V,.bool b]∧((∃ x,atN y odd=some x∧b=true∧FeP V (pAt x y))∨(atN y odd=none∧b=false∧FeP V pZ))
def s45:Nat:=46316835694926478169428394003475163141307993866256225615783033603165251855960
theorem C1E:fM 4 (fI 5)=s45:=by rw [A5J,A1S qD];decide +kernel
def bxN:Nat:=15112221349535400772501151409588531511454012693041857206046113283949847762202
def pS:Pt:=pAt bxN s45
theorem B80:xxN y=fM (fS (fM y y) 1) (pm p25 256 (fA (fM dN (fM y y)) 1) (p25 - 2) 1):=by unfold xxN;rw [A5J,A1S qD]
theorem B7r:rt1 x=pm p25 256 x (2 ^ 252 - 2) 1:=by unfold rt1;rw [A1S qD]
theorem i_pm:rtp 2 (2 ^ 253 - 5)=pm p25 256 2 (2 ^ 253 - 5) 1:=A1S qD
theorem C1F:rt2 x=pm p25 256 x (2 ^ 252 - 2) 1 * pm p25 256 2 (2 ^ 253 - 5) 1 % p25:=by unfold rt2;rw [B7r,i_pm]
def rtK(x:Nat):Option Nat:=if pm p25 256 x (2 ^ 252 - 2) 1 * pm p25 256 x (2 ^ 252 - 2) 1 % p25=x then some (pm p25 256 x (2 ^ 252 - 2) 1) else if (pm p25 256 x (2 ^ 252 - 2) 1 * pm p25 256 2 (2 ^ 253 - 5) 1 % p25) * (pm p25 256 x (2 ^ 252 - 2) 1 * pm p25 256 2 (2 ^ 253 - 5) 1 % p25) % p25=x then some (pm p25 256 x (2 ^ 252 - 2) 1 * pm p25 256 2 (2 ^ 253 - 5) 1 % p25) else none
theorem rt_K:rtN x=rtK x:=by rw [B7q];unfold C2X rtK;rw [C1F,B7r]
theorem xx45:xxN s45=26187595835145689230469591415084376402084551887632582719101735842039498021991:=by rw [B80];decide +kernel
theorem at45:atN s45 false=some bxN:=by refine (B2a ((congrArg rtN xx45).trans (rt_K.trans (Eq.refl (rtK 26187595835145689230469591415084376402084551887632582719101735842039498021991))))).trans ?_;decide +kernel
theorem at_f(v:Value)(y:Nat)(odd:Bool)(hv:Fe v y)(A:Mem):FnX Tryz.prog 156 [v,.bool odd] [] A λ r M J=>M=[]∧J=[]∧AtR r y odd:=by
 have hy:=hv;obtain ⟨y0,y1,y2,y3,y4,rfl,-⟩:=hv;refine Ck (N:=48) Tryz.func156 E E E λ w=>?_;refine A9 (D2 0 1) (A1 ?_);refine A3 E (bx_ λ b2=>?_);refine A3 E (C3 (cs:=[C1,C1,C1,C1,C1,C1,C1,C1,C1,C1,C1,C1,C1,C1,C1,C1,C1,C1,C1,C1]) kR E λ b4=>?_);refine as_ (A0 (D6 1 2 4) (A1 ?_));refine A2 (qw_ 5) E ?_;refine C7 (aS E a0) kR (C1B hy _) E ?_;rintro r10 M10 J10 ⟨rfl,rfl,k10⟩;have h10:=k10;obtain ⟨a10,b10,c10,d10,e10,rfl,-⟩:=k10;refine A3 E (C3 (cs:=[C1,C1,C1,C1,C1]) kR E λ b6=>?_);refine A3 E (A7 E E Cd kR ln5 al5 Cs ?_);refine A0 (D8 1 2 4 6) ?_;refine F8 ([]) (_) true [0,1,2,3,4,5,6,7,8,9,10,11,12,13,14,16] [(0,1),(4,1),(1,8),(2,8),(3,8),(5,8),(6,8),(7,8),(8,8),(9,8),(10,8),(11,8),(12,8),(14,8),(13,10),(15,2),(16,0)] kR kR qP λ hs K n0 hKm hKs hKn=>?_;refine K0 hs E hKs (qw_ 5) ?_;refine K0 hs E hKs (qw_ 5) ?_
 refine W2 [⟨1,13,none,[],λ v B _=>B=[]∧Fe v (1)⟩,⟨2,14,none,[],λ v B _=>B=[]∧Fe v (fS (fM y y) 1)⟩,⟨3,15,none,[],λ v B _=>B=[]∧Fe v (dN)⟩,⟨5,17,none,[],λ v B _=>B=[]∧Fe v (fM dN (fM y y))⟩,⟨6,18,none,[],λ v B _=>B=[]∧Fe v (1)⟩,⟨7,19,none,[],λ v B _=>B=[]∧Fe v (fA (fM dN (fM y y)) 1)⟩,⟨8,20,none,[],λ v B _=>B=[]∧Fe v (fI (fA (fM dN (fM y y)) 1))⟩,⟨9,21,none,[],λ v B _=>B=[]∧Fe v (xxN y)⟩,⟨10,22,none,[],λ v B _=>B=[]∧Rt v (xxN y)⟩,⟨11,11,none,[],λ v B _=>B=[]∧Rt v (xxN y)⟩,⟨12,23,none,[],λ v B _=>B=[]∧∃ n,Fe v n∧∀ m,rtN (xxN y)=some m->n=m⟩,⟨14,7,none,[],λ v B _=>∃ b,v=(vP b)∧B=[(b,blk [.int .u64 0,.int .u64 0,.int .u64 0,.int .u64 0,.int .u64 0] 191)]⟩] [⟨13,24,none,[],λ v B _=>B=[]∧v=.bool (rtN (xxN y)).isSome⟩] (_) (λ bs=>[bs 1,bs 2,bs 3,bs 5,bs 6,bs 7,bs 8,bs 9,bs 10,bs 11,bs 12,bs 14,bs 13]) (hKn E) (Ah _) gk0 kR (λ _=>by first | rfl | kernel_rfl)
  gA nd_ nd_ dl_
  hs (List.cons_ne_nil _ _) (gC ?_ (gC ?_ (gC ?_ (gC ?_ (gC ?_ (gC ?_ (gC ?_ (gC ?_ (gC ?_ (gC ?_ (gC ?_ (gC ?_ (I7))))))))))))) (A5 ⟨E,E,_,_,_,_,E,λ vs bs Rj hj ha=>?_⟩ (I7)) ?_
 .
  intros
  dsimp only [Gc.inp];refine E2 (aS E (a0)) kR (A06 1 qD _) E ?_;rintro r M1 J1 ⟨rfl,rfl,hh⟩;exact ⟨_,E,E,hh⟩
 . intro _ _ _ _ _ _ _ _ ha;dsimp only [Gc.inp];have g1:=gx 0 ha;dsimp only at g1;obtain ⟨-,k1⟩:=g1;refine E2 (aS E (aS E (a0))) kR (A5K h10 k1 _) E ?_;rintro r M1 J1 ⟨rfl,rfl,hh⟩;exact ⟨_,E,E,hh⟩
 .
  intros
  dsimp only [Gc.inp];refine E2 (a0) kR (A7Q _) E ?_;rintro r M1 J1 ⟨rfl,rfl,hh⟩;exact ⟨_,E,E,hh⟩
 . intro _ _ _ _ _ _ _ _ ha;dsimp only [Gc.inp];have g3:=gx 2 ha;dsimp only at g3;obtain ⟨-,k3⟩:=g3;refine E2 (aS E (aS E (a0))) kR (U4 k3 h10 _) E ?_;rintro r M1 J1 ⟨rfl,rfl,hh⟩;exact ⟨_,E,E,hh⟩
 .
  intros
  dsimp only [Gc.inp];refine E2 (aS E (a0)) kR (A06 1 qD _) E ?_;rintro r M1 J1 ⟨rfl,rfl,hh⟩;exact ⟨_,E,E,hh⟩
 . intro _ _ _ _ _ _ _ _ ha;dsimp only [Gc.inp];have g5:=gx 3 ha;dsimp only at g5;have g6:=gx 4 ha;dsimp only at g6;obtain ⟨-,k5⟩:=g5;obtain ⟨-,k6⟩:=g6;refine E2 (aS E (aS E (a0))) kR (A4G k5 k6 _) E ?_;rintro r M1 J1 ⟨rfl,rfl,hh⟩;exact ⟨_,E,E,hh⟩
 . intro _ _ _ _ _ _ _ _ ha;dsimp only [Gc.inp];have g7:=gx 5 ha;dsimp only at g7;obtain ⟨-,k7⟩:=g7;refine E2 (aS E (a0)) kR (B1S k7 _) E ?_;rintro r M1 J1 ⟨rfl,rfl,hh⟩;exact ⟨_,E,E,hh⟩
 . intro _ _ _ _ _ _ _ _ ha;dsimp only [Gc.inp];have g2:=gx 1 ha;dsimp only at g2;have g8:=gx 6 ha;dsimp only at g8;obtain ⟨-,k2⟩:=g2;obtain ⟨-,k8⟩:=g8;refine E2 (aS E (aS E (a0))) kR (U4 k2 k8 _) E ?_;rintro r M1 J1 ⟨rfl,rfl,hh⟩;exact ⟨_,E,E,hh⟩
 . intro _ _ _ _ _ _ _ _ ha;dsimp only [Gc.inp];have g9:=gx 7 ha;dsimp only at g9;obtain ⟨-,k9⟩:=g9;refine E2 (aS E a0) kR (A9Z _ _ k9 _) E ?_;rintro r M1 J1 ⟨rfl,rfl,hh⟩;exact ⟨_,E,E,hh⟩
 . intro _ _ _ _ _ _ _ _ ha;dsimp only [Gc.inp];have g10:=gx 8 ha;dsimp only at g10;obtain ⟨-,k10⟩:=g10;exact Cn qm_ E ⟨_,E,E,k10⟩
 . intro vs bs _ _ _ _ _ _ ha;dsimp only [Gc.inp];have g11:=gx 9 ha;dsimp only at g11;obtain ⟨-,k11⟩:=g11;obtain ⟨w,ok,n,hw,hn,hrt⟩:=A80 k11;exact Cn (H0 (vs:=#[w,.bool ok]) (by rw [<- hw]; rfl) rfl) rfl ⟨_,rfl,rfl,n,hn,λ m hm=>by rcases hrt with ⟨h1,-⟩ | ⟨h1,-⟩ <;> rw [hm] at h1 <;> cases h1; rfl⟩
 .
  intros
  dsimp only [Gc.inp]
  exact C3 (cs:=[C1,C1,C1,C1,C1]) kR E λ b=>⟨_,E,b,E,E⟩
 . have g11:=gx 9 ha;dsimp only at g11;obtain ⟨-,k11⟩:=g11;obtain ⟨w,ok,n,hw,hn,hrt⟩:=A80 k11;exact ⟨.bool ok,H0 (vs:=#[w,.bool ok]) (by rw [<- hw]; rfl) rfl,rfl,by rcases hrt with ⟨h1,rfl⟩ | ⟨h1,rfl⟩ <;> rw [h1] <;> rfl⟩
 intro vs bs Jn0 hφ hKK;clear hKK;have g1:=gy 0 hφ;have g2:=gy 1 hφ;have g3:=gy 2 hφ;have g5:=gy 3 hφ;have g6:=gy 4 hφ;have g7:=gy 5 hφ;have g8:=gy 6 hφ;have g9:=gy 7 hφ;have g10:=gy 8 hφ;have g11:=gy 9 hφ;have g12:=gy 10 hφ;have g14:=gy 11 hφ;have g13:=gy 12 hφ;dsimp only at g1 g2 g3 g5 g6 g7 g8 g9 g10 g11 g12 g14 g13;clear hφ;dsimp only [Q0,U2,List.foldr,List.map,List.cons_append,List.nil_append];generalize bs 1=B13,bs 2=B14,bs 3=B15,bs 5=B17,bs 6=B18,bs 7=B19,bs 8=B20,bs 9=B21,bs 10=B22,bs 11=B11,bs 12=B23,bs 14=B7,bs 13=B24,vs 1=u13,vs 2=u14,vs 3=u15,vs 5=u17,vs 6=u18,vs 7=u19,vs 8=u20,vs 9=u21,vs 10=u22,vs 11=u11,vs 12=u23,vs 14=u7,vs 13=u24 at *;obtain ⟨rfl,-⟩:=g10;obtain ⟨rfl,-⟩:=g11;obtain ⟨rfl,n,hn,hnm⟩:=g12;have hn0:=hn;obtain ⟨n0,n1,n2,n3,n4,rfl,-⟩:=hn
 obtain ⟨ok,hrt,hok⟩:∃ ok,((rtN (xxN y)=some n∧ok=true)∨(rtN (xxN y)=none∧ok=false))∧(rtN (xxN y)).isSome=ok:=by
  cases hq:rtN (xxN y) with
  | none=>exact ⟨false,.inr ⟨E,E⟩,E⟩
  | some m=>exact ⟨true,.inl ⟨by rw [hnm m hq],E⟩,E⟩
 obtain ⟨rfl,h13⟩:=g13;rw [hok] at h13;subst h13;obtain ⟨b14,rfl,rfl⟩:=g14;obtain ⟨rfl,-⟩:=g1;obtain ⟨rfl,-⟩:=g2;obtain ⟨rfl,-⟩:=g3;obtain ⟨rfl,-⟩:=g5;obtain ⟨rfl,-⟩:=g6;obtain ⟨rfl,-⟩:=g7;obtain ⟨rfl,-⟩:=g8;obtain ⟨rfl,-⟩:=g9;dsimp only [List.append_eq,List.nil_append,List.cons_append];refine K5 E E E (A7 E E Cd kR ln5 al5 Cs ?_);refine G7 hs E (G4 E) E ?_;refine I3 (E8 1 2 4 7 8) (A4 ?_);rcases hrt with ⟨hrt,rfl⟩ | ⟨hrt,rfl⟩
 .
  refine A1 (mv_ ?_);refine A2 (U0 E) E ?_;refine mv_ ?_;refine F3 E E (Cn qm_ E ?_);refine F3 E E (Cn qm_ E ?_);refine X3 (t:=29) E (λ hb=>?_) (λ hb=>?_)
  .
   have ho:odd=true:=hb;refine F3 E E (Cn (qw_ 5) E ?_);refine A6F E E (aS E a0) kR (A9Y _ n hn0 _) E ?_;refine F3 E E (Cn (G8 E E) E ?_);refine A2 (F2 E E) E ?_;refine A0 (E8 1 2 4 7 33) ?_;refine C4 E ?_ ?_ <;> intro hc
   .
    have hz:n=0:=by simpa using hc
    refine A1 ?_;refine A2 (F1 (place:=λ x=>#[(0,5),(5,5),(10,5),(15,5)][x]?) (z:=[C1,C1,C1,C1,C1,C1,C1,C1,C1,C1,C1,C1,C1,C1,C1,C1,C1,C1,C1,C1]) (λ _=>by kernel_rfl) e0 bd0) E ?_;refine A3 E (A7 E E Cd kR A3s A3t Cs ?_);refine as_ (A0 (D2 4 5) (C0 (tr ?_)));refine ⟨_,[],[],A0k E E E kR Cc qR,Aa _,by simp,E,E,_,_,E,.inr ⟨?_,E,⟨_,E,_,_,_,_,_,_,_,_,_,_,_,_,_,_,_,_,_,_,_,_,E,L4,L4,L4,L4⟩⟩⟩;rw [ho]; exact B8Y hrt hz
   .
    have hz:¬ n=0:=by simpa using hc
    refine A6 (nx (D8 1 2 4 7) (A4 (A1 ?_)));refine A2 (qw_ 5) E ?_;refine E6 (aS E a0) kR (A4b _ n hn0 _) E ?_;refine mv_ ?_;refine A2 (A8o E E kR) E ?_;refine A0 (D8 2 4 7 38) ?_;refine C4 E ?_ ?_ <;> intro hc
    . have hodd:=hc;refine C2 ?_;refine A2 (qw_ 5) E ?_;refine C7 (aS E a0) kR (B8T hn0 _) E ?_;rintro r40 M40 J40 ⟨rfl,rfl,k40⟩;have h40:=k40;obtain ⟨a40,b40,c40,d40,e40,rfl,-⟩:=k40;refine A3 E (A7 E E Cd kR ln5 al5 Cs ?_);refine A0 (D6 2 4 7) ?_;refine D1 [0,1,2,3,4,5,6,8] [(0,1),(1,1),(3,1),(4,1),(2,2),(5,2),(6,0),(7,2),(8,0)] kR kR λ hs=>?_;refine F9 hs E (qw_ 5) E ?_;refine F9 hs E (qw_ 5) E ?_;refine F9 hs E (qw_ 5) E ?_;refine F9 hs E (qw_ 5) E ?_;refine G9 E (aS E a0) kR (A06 1 qD _) E ?_;rintro r43 M43 J43 ⟨rfl,rfl,k43⟩;have h43:=k43;obtain ⟨a43,b43,c43,d43,e43,rfl,-⟩:=k43;refine G9 E (aS E (aS E a0)) kR (U4 h40 hy _) E ?_;rintro r46 M46 J46 ⟨rfl,rfl,k46⟩;have h46:=k46;obtain ⟨a46,b46,c46,d46,e46,rfl,-⟩:=k46;refine C8 hs E (F1 (place:=λ x=>#[(0,5),(5,5),(10,5),(15,5)][x]?) (z:=[C1,C1,C1,C1,C1,C1,C1,C1,C1,C1,C1,C1,C1,C1,C1,C1,C1,C1,C1,C1]) (λ _=>by kernel_rfl) (eS E (eS E (eS E (eS E e0)))) (bdS 0 5 E qR (bdS 5 5 E qR (bdS 10 5 E qR (bdS 15 5 E qR bd0))))) E ?_;refine G1 E E E (A7 E E Cd kR A3s A3t Cs ?_);refine fa_ hs ?_;refine E3 (D2 4 5) (C0 ?_);refine ⟨_,[],[],A0k E E E kR Cc qR,Aa _,by simp,E,E,_,_,E,.inl ⟨fN n,?_,E,⟨_,E,_,_,_,_,_,_,_,_,_,_,_,_,_,_,_,_,_,_,_,_,E,h40,hy,h43,h46⟩⟩⟩;exact A5L hrt (by rw [ho,decide_eq_false hz]; rfl) hodd
    . have hodd:=hc;refine A6 (nx (D6 2 4 7) ?_);refine D1 [0,1,2,3,4,5,6,8] [(0,1),(1,1),(3,1),(4,1),(2,2),(5,2),(6,0),(7,2),(8,0)] kR kR λ hs=>?_;refine F9 hs E (qw_ 5) E ?_;refine F9 hs E (qw_ 5) E ?_;refine F9 hs E (qw_ 5) E ?_;refine F9 hs E (qw_ 5) E ?_;refine G9 E (aS E a0) kR (A06 1 qD _) E ?_;rintro r43 M43 J43 ⟨rfl,rfl,k43⟩;have h43:=k43;obtain ⟨a43,b43,c43,d43,e43,rfl,-⟩:=k43;refine G9 E (aS E (aS E a0)) kR (U4 hn0 hy _) E ?_;rintro r46 M46 J46 ⟨rfl,rfl,k46⟩;have h46:=k46;obtain ⟨a46,b46,c46,d46,e46,rfl,-⟩:=k46;refine C8 hs E (F1 (place:=λ x=>#[(0,5),(5,5),(10,5),(15,5)][x]?) (z:=[C1,C1,C1,C1,C1,C1,C1,C1,C1,C1,C1,C1,C1,C1,C1,C1,C1,C1,C1,C1]) (λ _=>by kernel_rfl) (eS E (eS E (eS E (eS E e0)))) (bdS 0 5 E qR (bdS 5 5 E qR (bdS 10 5 E qR (bdS 15 5 E qR bd0))))) E ?_;refine G1 E E E (A7 E E Cd kR A3s A3t Cs ?_);refine fa_ hs ?_;refine E3 (D2 4 5) (C0 ?_);refine ⟨_,[],[],A0k E E E kR Cc qR,Aa _,by simp,E,E,_,_,E,.inl ⟨n,?_,E,⟨_,E,_,_,_,_,_,_,_,_,_,_,_,_,_,_,_,_,_,_,_,_,E,hn0,hy,h43,h46⟩⟩⟩;exact A5L hrt (by rw [ho,decide_eq_false hz]; rfl) hodd
  .
   have ho:odd=false:=hb;refine K3 E E E E ?_;refine K3 E E E E ?_;refine F3 E E (Cn (F2 E E) E ?_);refine A2 (F2 E E) E ?_;refine A0 (E8 1 2 4 7 33) ?_;refine C9 E ?_;refine A6 (nx (D8 1 2 4 7) (A4 (A1 ?_)));refine A2 (qw_ 5) E ?_;refine E6 (aS E a0) kR (A4b _ n hn0 _) E ?_;refine mv_ ?_;refine A2 (A8o E E kR) E ?_;refine A0 (D8 2 4 7 38) ?_;refine C4 E ?_ ?_ <;> intro hc
   . have hodd:=hc;refine C2 ?_;refine A2 (qw_ 5) E ?_;refine C7 (aS E a0) kR (B8T hn0 _) E ?_;rintro r40 M40 J40 ⟨rfl,rfl,k40⟩;have h40:=k40;obtain ⟨a40,b40,c40,d40,e40,rfl,-⟩:=k40;refine A3 E (A7 E E Cd kR ln5 al5 Cs ?_);refine A0 (D6 2 4 7) ?_;refine D1 [0,1,2,3,4,5,6,8] [(0,1),(1,1),(3,1),(4,1),(2,2),(5,2),(6,0),(7,2),(8,0)] kR kR λ hs=>?_;refine F9 hs E (qw_ 5) E ?_;refine F9 hs E (qw_ 5) E ?_;refine F9 hs E (qw_ 5) E ?_;refine F9 hs E (qw_ 5) E ?_;refine G9 E (aS E a0) kR (A06 1 qD _) E ?_;rintro r43 M43 J43 ⟨rfl,rfl,k43⟩;have h43:=k43;obtain ⟨a43,b43,c43,d43,e43,rfl,-⟩:=k43;refine G9 E (aS E (aS E a0)) kR (U4 h40 hy _) E ?_;rintro r46 M46 J46 ⟨rfl,rfl,k46⟩;have h46:=k46;obtain ⟨a46,b46,c46,d46,e46,rfl,-⟩:=k46;refine C8 hs E (F1 (place:=λ x=>#[(0,5),(5,5),(10,5),(15,5)][x]?) (z:=[C1,C1,C1,C1,C1,C1,C1,C1,C1,C1,C1,C1,C1,C1,C1,C1,C1,C1,C1,C1]) (λ _=>by kernel_rfl) (eS E (eS E (eS E (eS E e0)))) (bdS 0 5 E qR (bdS 5 5 E qR (bdS 10 5 E qR (bdS 15 5 E qR bd0))))) E ?_;refine G1 E E E (A7 E E Cd kR A3s A3t Cs ?_);refine fa_ hs ?_;refine E3 (D2 4 5) (C0 ?_);refine ⟨_,[],[],A0k E E E kR Cc qR,Aa _,by simp,E,E,_,_,E,.inl ⟨fN n,?_,E,⟨_,E,_,_,_,_,_,_,_,_,_,_,_,_,_,_,_,_,_,_,_,_,E,h40,hy,h43,h46⟩⟩⟩;exact A5L hrt (by rw [ho]; rfl) hodd
   . have hodd:=hc;refine A6 (nx (D6 2 4 7) ?_);refine D1 [0,1,2,3,4,5,6,8] [(0,1),(1,1),(3,1),(4,1),(2,2),(5,2),(6,0),(7,2),(8,0)] kR kR λ hs=>?_;refine F9 hs E (qw_ 5) E ?_;refine F9 hs E (qw_ 5) E ?_;refine F9 hs E (qw_ 5) E ?_;refine F9 hs E (qw_ 5) E ?_;refine G9 E (aS E a0) kR (A06 1 qD _) E ?_;rintro r43 M43 J43 ⟨rfl,rfl,k43⟩;have h43:=k43;obtain ⟨a43,b43,c43,d43,e43,rfl,-⟩:=k43;refine G9 E (aS E (aS E a0)) kR (U4 hn0 hy _) E ?_;rintro r46 M46 J46 ⟨rfl,rfl,k46⟩;have h46:=k46;obtain ⟨a46,b46,c46,d46,e46,rfl,-⟩:=k46;refine C8 hs E (F1 (place:=λ x=>#[(0,5),(5,5),(10,5),(15,5)][x]?) (z:=[C1,C1,C1,C1,C1,C1,C1,C1,C1,C1,C1,C1,C1,C1,C1,C1,C1,C1,C1,C1]) (λ _=>by kernel_rfl) (eS E (eS E (eS E (eS E e0)))) (bdS 0 5 E qR (bdS 5 5 E qR (bdS 10 5 E qR (bdS 15 5 E qR bd0))))) E ?_;refine G1 E E E (A7 E E Cd kR A3s A3t Cs ?_);refine fa_ hs ?_;refine E3 (D2 4 5) (C0 ?_);refine ⟨_,[],[],A0k E E E kR Cc qR,Aa _,by simp,E,E,_,_,E,.inl ⟨n,?_,E,⟨_,E,_,_,_,_,_,_,_,_,_,_,_,_,_,_,_,_,_,_,_,_,E,hn0,hy,h43,h46⟩⟩⟩;exact A5L hrt (by rw [ho]; rfl) hodd
 . refine A1 (mv_ ?_);refine A2 (U0 E) E ?_;refine mv_ ?_;refine K3 E E E E ?_;refine K3 E E E E ?_;refine B4q E E E ?_;refine B4q E E E ?_;refine K3 E E E E ?_;refine A2 (G8 E E) E ?_;refine A0 (E8 1 2 4 7 33) ?_;refine E1 E ?_;refine A1 ?_;refine A2 (F1 (place:=λ x=>#[(0,5),(5,5),(10,5),(15,5)][x]?) (z:=[C1,C1,C1,C1,C1,C1,C1,C1,C1,C1,C1,C1,C1,C1,C1,C1,C1,C1,C1,C1]) (λ _=>by kernel_rfl) e0 bd0) E ?_;refine A3 E (A7 E E Cd kR A3s A3t Cs ?_);refine as_ (A0 (D2 4 5) (C0 (tr ?_)));exact ⟨_,[],[],A0k E E E kR Cc qR,Aa _,by simp,E,E,_,_,E,.inr ⟨B8W hrt,E,⟨_,E,_,_,_,_,_,_,_,_,_,_,_,_,_,_,_,_,_,_,_,_,E,L4,L4,L4,L4⟩⟩⟩
theorem A7W(A:Mem):FnX Tryz.prog 117 [] [] A λ r M J=>M=[]∧J=[]∧FeP r pS:=by
 refine Ck (N:=12) Tryz.func117 E E E λ w=>?_;refine A9 kn (A1 ?_);refine A3 E (C3 (cs:=[C1,C1,C1,C1,C1,C1,C1,C1,C1,C1,C1,C1,C1,C1,C1,C1,C1,C1,C1,C1]) kR E λ b0=>?_);refine A0 (D5 0) (A1 ?_);refine C7 (aS E a0) kR (A06 4 qD _) E ?_;rintro r4 M4 J4 ⟨rfl,rfl,k4⟩;have h4:=k4;obtain ⟨a4,b4,c4,d4,e4,rfl,-⟩:=k4;refine C7 (aS E a0) kR (A06 5 qD _) E ?_;rintro r5 M5 J5 ⟨rfl,rfl,k5⟩;have h5:=k5;obtain ⟨a5,b5,c5,d5,e5,rfl,-⟩:=k5;refine C7 (aS E a0) kR (B1S h5 _) E ?_;rintro r6 M6 J6 ⟨rfl,rfl,k6⟩;have h6:=k6;obtain ⟨a6,b6,c6,d6,e6,rfl,-⟩:=k6;refine C7 (aS E (aS E a0)) kR (U4 h4 h6 _) E ?_;rintro r7 M7 J7 ⟨rfl,rfl,k7⟩;rw [C1E] at k7;have h7:=k7;obtain ⟨a7,b7,c7,d7,e7,rfl,-⟩:=k7;refine C7 (aS E (aS E a0)) kR (at_f _ s45 false h7 _) E ?_;rintro r8 M8 J8 ⟨rfl,rfl,V,ok,rfl,hat⟩
 have hP:FeP V pS:=by
  rw [at45] at hat;rcases hat with ⟨x,h1,_,h2⟩ | ⟨h1,_,h2⟩
  . obtain rfl:=Ca h1; exact h2
  . cases h1
 have hP0:=hP;obtain ⟨xsp,rfl,p0,p1,p2,p3,p4,p5,p6,p7,p8,p9,p10,p11,p12,p13,p14,p15,p16,p17,p18,p19,rfl,hpX,hpY,hpZ,hpT⟩:=hP;dsimp only [nums,List.map];refine mv_ ?_;refine A2 (Y8 E) E ?_;refine A2 (Y4 E) E ?_;refine A3 E (C3 (cs:=[C1,C1,C1,C1,C1,C1,C1,C1,C1,C1,C1,C1,C1,C1,C1,C1,C1,C1,C1,C1]) kR E λ b1=>?_);refine A3 E (A7 E E Cd kR A3s A3t Cs ?_);refine as_ (A0 (D2 0 1) (A1 ?_));refine A2 (qw_ 20) E ?_;refine A3 E (A7 E E Cd kR A3s A3t Cs ?_);refine A0 (D5 0) (C0 ?_);exact ⟨_,[],[],A00 E E kR Cc qR,Aa _,by simp,E,E,hP0⟩

end Go.Proofs.YtjkpfgjfpbihaaaGreatDoor
namespace Go.Px
theorem A3z{P:Program}{R:Mem}{l:Env}{d:Option Nat}{ty:TypeId}{pos:String}{af:Array Edge}{g:Option (Nat×Bool)}{fn:Fn}{xs:List Operand}{vs:List Value}(hx:Evs l xs vs) :
    OpQ P R ⟨d,.makeFunc fn #[] xs.toArray,ty,pos,af,g⟩ l (.func fn #[] vs.toArray):=λ N a w ha hw=>by
  have e:xs.toArray.map a.eval=vs.toArray:=by simp [hx.map ha]
  simp only [execOp,e];simp [Instr.makeFunc]
section call
variable{C:Cx}{l:Env}{M J:Mem}{K:Env->Mem->Mem->Prop}{d:Nat}{ty:TypeId}{pos:String}{af:Array Edge}{g:Option (Nat×Bool)}{x:Operand}{f:FuncId}{xs:List Operand}{vs cs:List Value}{ts:Array TypeId}
theorem B81{Mc R:Mem}{post:Value->Mem->Mem->Prop}(h0:ev l x=some (.func (.func f) #[] cs.toArray))(hx:Evs l xs vs)(hc:L0 C.P f=true)
    (hM:M.Perm (Mc++R)) (hf:FnX C.P f (vs++cs) Mc (R++(J++C.A)) post) (hd:Nat.blt d C.N=true) (k:∀ v M' J',post v M' J'->K ((d,v)::l) (M'++R) (J'++J)) :
    OpL C ⟨some d,.call { callee:=.value x,args:=xs.toArray,argTypes:=ts },ty,pos,af,g⟩ l M J K:=by
  intro Qp a w ha hw
  have hrun:(execOp a.eval ⟨some d,.call { callee:=.value x,args:=xs.toArray,argTypes:=ts },ty,pos,af,g⟩).run C.P w=.ok (.enter f (vs++cs).toArray) w:=by
    have e:xs.toArray.map a.eval=vs.toArray:=by simp [hx.map ha]
    simp only [execOp,resolve,e,Sem.run_bind,ha.ev h0];simp [Deferred.ofValue,invoke,A8q hc]
  unfold Oper.wp;rw [hrun];refine Calls.mono (hf w (hw.callee hM)) ?_;rintro e w' ⟨v,M',J',rfl,hp,hs⟩;exact ⟨_,_,_,ha.put (P2 hd) v,hw.back hM hs,k v M' J' hp⟩
theorem A1C{v:Value}(h0:ev l x=some (.func (.func f) #[] cs.toArray))(hx:Evs l xs vs)(hc:L0 C.P f=true)(hf:FnV C.P f (vs++cs) (M++(J++C.A)) v)(hd:Nat.blt d C.N=true)(k:K ((d,v)::l) M J) :
    OpL C ⟨some d,.call { callee:=.value x,args:=xs.toArray,argTypes:=ts },ty,pos,af,g⟩ l M J K :=
  B81 (Mc:=[]) (R:=M) h0 hx hc (.refl _) hf hd λ r M' J' ⟨e,h1,h2⟩=>by subst e; subst h1; subst h2; exact k
end call
def A65(p:Nat->Bool)(n:Nat):Int:=match (List.range n).find? p with
  | some i=>(i:Int)
  | none=>-1
variable{p:Nat->Bool}
theorem A1n{n i:Nat}(hi:i < n)(h0:∀ j,j < i->p j=false)(h:p i=true):A65 p n=(i:Int):=by
  unfold A65
  have:(List.range n).find? p=some i:=by rw [List.find?_range_eq_some];exact ⟨h,List.mem_range.2 hi,λ j hj=>by rw [h0 j hj]; rfl⟩
  rw [this]
theorem A1o{n:Nat}(h0:∀ j,j < n->p j=false):A65 p n = -1:=by
  unfold A65
  have:(List.range n).find? p=none:=by rw [List.find?_eq_none];intro j hj;rw [h0 j (List.mem_range.1 hj)]; decide
  rw [this]
theorem A2X(p:Nat->Bool)(n:Nat):(A65 p n = -1∧∀ j,j < n->p j=false)∨∃ i,i < n∧A65 p n=(i:Int)∧p i=true∧∀ j,j < i->p j=false:=by
  cases h:(List.range n).find? p with
  | none =>
    have h1:∀ j,j < n->p j=false:=λ j hj=>by have:=List.find?_eq_none.1 h j (List.mem_range.2 hj);simpa using this
    exact .inl ⟨A1o h1,h1⟩
  | some i =>
    obtain ⟨h1,h2,h3⟩:=List.find?_range_eq_some.1 h;have h4:∀ j,j < i->p j=false:=λ j hj=>by simpa using h3 j hj
    exact .inr ⟨i,List.mem_range.1 h2,A1n (List.mem_range.1 h2) h4 h1,h1,h4⟩
structure RowT{α:Type}(sz:Nat)(φ:Mem->α->List Value->Prop):Prop where
  mono:∀ R R' x r,(∀ q,q∈R->q∈R')->φ R x r->φ R' x r
  len:∀ R x r,φ R x r->r.length=sz
  one:∀ R x r,φ R x r->∀ c∈r,c.oneCell'=true
structure RwL{α:Type}(φ:Mem->α->List Value->Prop)(R:Mem)(rows:List (List Value))(xs:List α):Prop where
  len:rows.length=xs.length
  get:∀ (j:Nat) (x:α),xs[j]? = some x->∃ r,rows[j]? = some r∧φ R x r
section rows
variable{α:Type}{sz:Nat}{φ:Mem->α->List Value->Prop}{R R':Mem}{rows:List (List Value)}{xs:List α}{x:α}{r:List Value}
theorem RwL.mono(hφ:RowT sz φ)(h:RwL φ R rows xs)(hR:∀ q,q∈R->q∈R'):RwL φ R' rows xs:=⟨h.len,λ j x hj=>by
  obtain ⟨r,h1,h2⟩:=h.get j x hj
  exact ⟨r,h1,hφ.mono _ _ _ _ hR h2⟩⟩
theorem RwL.nil:RwL φ R [] []:=⟨E,λ j x h=>by simp at h⟩
theorem RwL.of(h:RwL φ R rows xs){j:Nat}(hr:rows[j]? = some r):∃ x,xs[j]? = some x∧φ R x r:=by
  have hj:j < xs.length:=by rw [<- h.len]; exact (Ac.1 hr).1
  obtain ⟨r',h1,h2⟩:=h.get j xs[j] (Ab hj);rw [hr] at h1;cases h1;exact ⟨_,Ab hj,h2⟩
theorem RwL.lens(hφ:RowT sz φ)(h:RwL φ R rows xs):∀ r∈rows,r.length=sz:=by intro r hr;obtain ⟨j,hj⟩:=List.getElem?_of_mem hr;obtain ⟨x,_,h2⟩:=h.of hj;exact hφ.len _ _ _ h2
theorem RwL.ones(hφ:RowT sz φ)(h:RwL φ R rows xs):∀ c∈rows.flatten,c.oneCell'=true:=by intro c hc;obtain ⟨r,hr,hc⟩:=List.mem_flatten.1 hc;obtain ⟨j,hj⟩:=List.getElem?_of_mem hr;obtain ⟨x,_,h2⟩:=h.of hj;exact hφ.one _ _ _ h2 c hc
theorem RwL.snoc(h:RwL φ R rows xs)(hx:φ R x r):RwL φ R (rows++[r]) (xs++[x]):=⟨by simp [h.len],λ j y hj=>by
  by_cases hlt:j < xs.length
  . rw [Ak hlt] at hj;obtain ⟨r',h1,h2⟩:=h.get j y hj;exact ⟨r',by rw [Ak (Ac.1 h1).1]; exact h1,h2⟩
  . rw [Aq (by omega)] at hj
    have hj0:j=xs.length:=by have:=(Ac.1 hj).1;simp at this; omega
    subst hj0;simp at hj;subst hj
    exact ⟨r,by rw [Aq (by rw [h.len]; omega),h.len]; simp,hx⟩⟩
theorem RwL.app{rows':List (List Value)}{xs':List α}(h:RwL φ R rows xs)(h':RwL φ R rows' xs'):RwL φ R (rows++rows') (xs++xs'):=⟨by simp [h.len,h'.len],λ j y hj=>by
  by_cases hlt:j < xs.length
  . rw [Ak hlt] at hj;obtain ⟨r',h1,h2⟩:=h.get j y hj;exact ⟨r',by rw [Ak (Ac.1 h1).1]; exact h1,h2⟩
  . rw [Aq (by omega)] at hj;obtain ⟨r',h1,h2⟩:=h'.get _ y hj
    exact ⟨r',by rw [Aq (by rw [h.len]; omega),h.len]; exact h1,h2⟩⟩
theorem RwL.cons(hx:φ R x r)(h:RwL φ R rows xs):RwL φ R (r::rows) (x::xs):=⟨by simp [h.len],λ j y hj=>by
  cases j with
  | zero=>simp at hj; subst hj; exact ⟨r,E,hx⟩
  | succ j=>exact h.get j y hj⟩
theorem RwL.take(h:RwL φ R rows xs)(k:Nat):RwL φ R (rows.take k) (xs.take k):=⟨by simp [h.len],λ j y hj=>by
  have hk:j < k:=by
    rcases Nat.lt_or_ge j k with h | h
    . exact h
    . rw [List.getElem?_eq_none (by simp; omega)] at hj; cases hj
  rw [Cb hk] at hj ⊢
  exact h.get j y hj⟩
theorem RwL.drop(h:RwL φ R rows xs)(k:Nat):RwL φ R (rows.drop k) (xs.drop k):=⟨by simp [h.len],λ j y hj=>by
  rw [List.getElem?_drop] at hj ⊢
  exact h.get _ y hj⟩
theorem RwL.erase(h:RwL φ R rows xs)(i:Nat):RwL φ R (rows.take i++rows.drop (i+1)) (xs.eraseIdx i):=by rw [List.eraseIdx_eq_take_drop_succ];exact (h.take i).app (h.drop (i+1))
theorem A44(hl:∀ r∈rows,r.length=sz)(i:Nat):rows.flatten.take (i * sz)++rows.flatten.drop ((i+1) * sz)=(rows.take i++rows.drop (i+1)).flatten:=by rw [A2i hl,A2h hl,List.flatten_append]
end rows
variable{α:Type}
def V6(q:α->Bool)(xs:List α):Int:=A65 (λ j=>(xs[j]?.map q).getD false) xs.length
theorem P0(q:α->Bool)(xs:List α):(V6 q xs = -1∧∀ x∈xs,q x=false)∨∃ (i:Nat) (x:α),V6 q xs=(i:Int)∧xs[i]? = some x∧q x=true∧∀ (j:Nat) (y:α),j < i->xs[j]? = some y->q y=false:=by
  rcases A2X (λ j=>(xs[j]?.map q).getD false) xs.length with ⟨h1,h2⟩ | ⟨i,h1,h2,h3,h4⟩
  . refine .inl ⟨h1,λ x hx=>?_⟩;obtain ⟨j,hj⟩:=List.getElem?_of_mem hx;have:=h2 j (Ac.1 hj).1;rw [hj] at this;exact this
  . refine .inr ⟨i,xs[i],h2,Ab h1,?_,λ j y hj hy=>?_⟩
    . rw [Ab h1] at h3;exact h3
    . have:=h4 j hj;rw [hy] at this;exact this
end Go.Px

