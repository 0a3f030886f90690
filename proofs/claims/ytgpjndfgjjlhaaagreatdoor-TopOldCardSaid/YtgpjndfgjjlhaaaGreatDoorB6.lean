/- Part 6 of the texts of this claim, one behind the other. -/
import Derived.Test.YtgpjndfgjjlhaaaGreatDoorB5
import Derived.Test.YtgpjndfgjjlhaaaGreatDoorRows
set_option linter.unusedVariables false
set_option linter.unusedSimpArgs false
set_option maxRecDepth 100000
open Go.Proofs.Tryz
noncomputable section
namespace Go.Px
structure Gc where
  i:Nat
  d:Nat
  s:Option Nat
  m:Mem
  φ:Value->Mem->Mem->Prop
def Gc.inp(g:Gc)(bs:Nat->Mem):Mem:=match g.s with
  | none=>g.m
  | some s=>bs s
variable{g:Gc}{bs:Nat->Mem}
theorem Gc.inp_none(h:g.s=none):g.inp bs=g.m:=by unfold Gc.inp;rw [h]
theorem Gc.inp_some{s:Nat}(h:g.s=some s):g.inp bs=bs s:=by unfold Gc.inp;rw [h]
def Q9(G:List Gc)(vs:Nat->Value):Env:=G.map λg=>(g.d,vs g.i)
def B7f(G:List Gc):List Gm:=G.map λg=>⟨g.i,g.d,λ_ _=>True⟩
theorem B3A(G:List Gc):(B7f G).map (·.i)=G.map (·.i):=by simp [B7f]
theorem B3B(G:List Gc):(B7f G).map (·.d)=G.map (·.d):=by simp [B7f]
theorem A1U(G:List Gc)(vs:Nat->Value):A3V (B7f G) vs=Q9 G vs:=by simp [A3V,Q9,B7f]
variable{G:List Gc}
theorem A0P(h:(G.map (·.i)).Nodup){g':Gc}(hg:g∈G)(hg':g'∈G)(e:g.i=g'.i):g=g':=by
  induction G with
  | nil=>cases hg
  | cons x G ih =>
    simp only [List.map_cons,List.nodup_cons] at h;rcases List.mem_cons.1 hg with h1|h1<;>rcases List.mem_cons.1 hg' with h2|h2
    . rw [h1,h2]
    . exact absurd (by rw [<- h1,e];exact Al (f:=Gc.i) h2) h.1
    . exact absurd (by rw [<- h2,<- e];exact Al (f:=Gc.i) h1) h.1
    . exact ih h.2 h1 h2
def A3N(G:List Gc)(X:List Nat)(bs:Nat->Mem)(g:Gc):Mem :=
  if g.i∈X then (if ∃g'∈G,g'.s=some g.i∧g'.i∈X then [] else bs g.i) else (if g.s=none then g.m else [])
def A8Q(X:List Nat)(bs:Nat->Mem)(G:List Gc):Mem:=(G.map (A3N G X bs)).flatten
def B3C(l:List (Nat×Option Nat))(i:Nat):Bool:=l.any λp=>p.2==some i
def B04(G:List Gc)(bs:Nat->Mem):List Mem:=(G.filter λg=>!B3C (G.map λg=>(g.i,g.s)) g.i).map λg=>bs g.i
def X6(l:List Mem)(M:Mem):Mem:=l.foldr (·++·) M
def A1e(G:List Gc):List Mem:=(G.filter λg=>g.s.isNone).map (·.m)
def A8R(ops:Array Oper)(l:List (Nat×Option Nat)):Bool :=
  l.all λp=>match p.2 with
    | none=>true
    | some s=>(l.map Prod.fst).contains s&&anc ops ops.size p.1 s&&l.all λq=>q.2 != some s||q.1==p.1
structure ChainOk(ops:Array Oper)(G:List Gc):Prop where
  anc:∀g∈G,∀s,g.s=some s->anc ops ops.size g.i s=true
  mem:∀g∈G,∀s,g.s=some s->s∈G.map (·.i)
  one:∀g∈G,∀g'∈G,∀s,g.s=some s->g'.s=some s->g'.i=g.i
variable{ops:Array Oper}
theorem A9P(h:A8R ops (G.map λg=>(g.i,g.s))=true):ChainOk ops G:=by
  have key:∀g∈G,∀s,g.s=some s->s∈G.map (·.i)∧Px.anc ops ops.size g.i s=true∧∀g'∈G,g'.s=some s->g'.i=g.i:=by intro g hg s hs;have h1:=List.all_eq_true.1 h (g.i,g.s) (Al (f:=λg:Gc=>(g.i,g.s)) hg);simp only [hs,Bool.and_eq_true,List.contains_iff_mem,List.map_map] at h1;obtain ⟨⟨h2,h3⟩,h4⟩:=h1;refine ⟨by simpa [Function.comp_def] using h2,h3,λg' hg' hs'=>?_⟩;have h5:=List.all_eq_true.1 h4 (g'.i,g'.s) (Al (f:=λg:Gc=>(g.i,g.s)) hg');simp [hs'] at h5;exact h5
  exact ⟨λg hg s hs=>(key g hg s hs).2.1,λg hg s hs=>(key g hg s hs).1,λg hg g' hg' s hs hs'=>(key g hg s hs).2.2 g' hg' hs'⟩
theorem A8S(hi:(G.map (·.i)).Nodup)(hg:g∈G)(f:Gc->Mem) :
    ∃R,∀f':Gc->Mem,(∀x∈G,x.i≠g.i->f' x=f x)->(G.map f').flatten.Perm (f' g++R):=by
  obtain ⟨s,t,rfl⟩:=List.append_of_mem hg
  have hne:∀x∈s++t,x.i≠g.i:=by
    intro x hx e;simp only [List.map_append,List.map_cons,List.nodup_append,List.nodup_cons] at hi;rcases List.mem_append.1 hx with h|h
    . exact hi.2.2 _ (Al (f:=Gc.i) h) _ Ax e
    . exact hi.2.1.1 (e▸Al (f:=Gc.i) h)
  refine ⟨(s.map f).flatten++(t.map f).flatten,λf' h=>?_⟩;have es:s.map f'=s.map f:=Bv λx hx=>h x (by simp [hx]) (hne x (Ae _ hx));have et:t.map f'=t.map f:=Bv λx hx=>h x (by simp [hx]) (hne x (Ai _ hx));simp only [List.map_append,List.map_cons,List.flatten_append,List.flatten_cons,es,et];exact List.perm_append_comm_assoc _ _ _
variable{X:List Nat}
theorem A4Q(hi:(G.map (·.i)).Nodup)(hc:ChainOk ops G)(hg:g∈G)(hX:g.i∉X)(hcl:∀g'∈G,g'.i∈X->∀s,g'.s=some s->s∈X)(hsx:∀s,g.s=some s->s∈X) :
    ∃R,(A8Q X bs G).Perm (g.inp bs++R)∧∀M',(M'++R).Perm (A8Q (X++[g.i]) (λk=>if k=g.i then M' else bs k) G):=by
  have hmem:∀x:Gc,x.i≠g.i->(x.i∈X++[g.i]↔x.i∈X):=λx h=>by simp [h]
  have hself:∀M':Mem,A3N G (X++[g.i]) (λk=>if k=g.i then M' else bs k) g=M':=by
    intro M'
    have hno:¬ ∃g'∈G,g'.s=some g.i∧g'.i∈X++[g.i]:=by
      rintro ⟨g',hg',hs',hx'⟩;rcases List.mem_append.1 hx' with h|h
      . exact hX (hcl g' hg' h _ hs')
      . have h2:g'=g:=A0P hi hg' hg (by simpa using h);subst h2;exact hX (hsx _ hs')
    unfold A3N;rw [if_pos (by simp),if_neg hno];exact if_pos rfl
  cases hs:g.s with
  | none =>
    obtain ⟨R,hR⟩:=A8S hi hg (A3N G X bs);refine ⟨R,?_,λM'=>?_⟩
    . have h1:=hR (A3N G X bs) λ_ _ _=>rfl;have h2:A3N G X bs g=g.inp bs:=by unfold A3N;rw [if_neg hX,if_pos hs,Gc.inp_none hs]
      rw [h2] at h1;exact h1
    . have h1:=hR (A3N G (X++[g.i]) λk=>if k=g.i then M' else bs k) λx hx hne=>by
        unfold A3N;by_cases hxX:x.i∈X
        . rw [if_pos ((hmem x hne).2 hxX),if_pos hxX]
          have hiff:(∃g'∈G,g'.s=some x.i∧g'.i∈X++[g.i])↔(∃g'∈G,g'.s=some x.i∧g'.i∈X):=by
            constructor
            . rintro ⟨g',h1,h2,h3⟩;rcases List.mem_append.1 h3 with h4|h4
              . exact ⟨g',h1,h2,h4⟩
              . have h5:g'=g:=A0P hi h1 hg (by simpa using h4);subst h5;rw [hs] at h2;cases h2
            . rintro ⟨g',h1,h2,h3⟩;exact ⟨g',h1,h2,Ae _ h3⟩
          simp only [hiff,if_neg hne]
        . rw [if_neg (λh=>hxX ((hmem x hne).1 h)),if_neg hxX]
      rw [hself M'] at h1;exact h1.symm
  | some s =>
    have hsX:=hsx s hs;obtain ⟨gs,hgs,rfl⟩:=List.mem_map.1 (hc.mem g hg s hs);have hne0:gs.i≠g.i:=λh=>hX (h▸hsX);obtain ⟨R1,hR1⟩:=A8S hi hgs (A3N G X bs);have h1:=hR1 (A3N G X bs) λ_ _ _=>rfl
    have e1:A3N G X bs gs=bs gs.i:=by unfold A3N;rw [if_pos hsX,if_neg];rintro ⟨g',hg',hs',hx'⟩;exact hX (hc.one g hg g' hg' _ hs hs'▸hx')
    rw [e1] at h1;have h2:=hR1 (λx=>if x.i=gs.i then [] else A3N G X bs x) λx _ hne=>if_neg hne;simp only [if_true,Cw] at h2;obtain ⟨R2,hR2⟩:=A8S hi hg (λx=>if x.i=gs.i then [] else A3N G X bs x);have h3:=hR2 (λx=>if x.i=gs.i then [] else A3N G X bs x) λ_ _ _=>rfl
    have e3:(if g.i=gs.i then [] else A3N G X bs g)=([]:Mem):=by rw [if_neg (Ne.symm hne0)];unfold A3N;rw [if_neg hX,if_neg (by rw [hs];exact λh=>by cases h)]
    simp only [e3,Cw] at h3;refine ⟨R2,?_,λM'=>?_⟩
    . rw [Gc.inp_some hs];exact h1.trans (List.Perm.append_left _ (h2.symm.trans h3))
    . have h4:=hR2 (A3N G (X++[g.i]) λk=>if k=g.i then M' else bs k) λx hx hne=>by
        by_cases hxs:x.i=gs.i
        . rw [if_pos hxs];unfold A3N;rw [if_pos ((hmem x hne).2 (hxs▸hsX)),if_pos ⟨g,hg,by rw [hs,hxs],by simp⟩]
        . rw [if_neg hxs];unfold A3N;by_cases hxX:x.i∈X
          . rw [if_pos ((hmem x hne).2 hxX),if_pos hxX]
            have hiff:(∃g'∈G,g'.s=some x.i∧g'.i∈X++[g.i])↔(∃g'∈G,g'.s=some x.i∧g'.i∈X):=by
              constructor
              . rintro ⟨g',h1,h2,h3⟩;rcases List.mem_append.1 h3 with h4|h4
                . exact ⟨g',h1,h2,h4⟩
                . have h5:g'=g:=A0P hi h1 hg (by simpa using h4);subst h5;rw [hs] at h2;exact absurd (Cc h2).symm hxs
              . rintro ⟨g',h1,h2,h3⟩;exact ⟨g',h1,h2,Ae _ h3⟩
            simp only [hiff,if_neg hne]
          . rw [if_neg (λh=>hxX ((hmem x hne).1 h)),if_neg hxX]
      rw [hself M'] at h4;exact h4.symm
theorem A9Q:A8Q [] bs G=(A1e G).flatten:=by
  have:∀G':List Gc,(G'.map (A3N G [] bs)).flatten=(A1e G').flatten:=by
    intro G'
    induction G' with
    | nil=>rfl
    | cons g G' ih =>
      rw [List.map_cons,List.flatten_cons,ih];have e:A3N G [] bs g=if g.s=none then g.m else []:=by unfold A3N;rw [if_neg (by simp)]
      rw [e]
      cases hs:g.s with
      | none=>simp [A1e,hs]
      | some s=>simp [A1e,hs]
  exact this G
theorem A9R(h:∀g∈G,g.i∈X):A8Q X bs G=(B04 G bs).flatten:=by
  have he:∀g∈G,A3N G X bs g=if B3C (G.map λg=>(g.i,g.s)) g.i=true then [] else bs g.i:=by
    intro g hg;unfold A3N;rw [if_pos (h g hg)]
    have:(∃g'∈G,g'.s=some g.i∧g'.i∈X)↔B3C (G.map λg=>(g.i,g.s)) g.i=true:=by
      unfold B3C;simp only [List.any_eq_true,List.mem_map];constructor
      . rintro ⟨g',h1,h2,_⟩;exact ⟨_,⟨g',h1,E⟩,by simp [h2]⟩
      . rintro ⟨_,⟨g',h1,rfl⟩,h2⟩;exact ⟨g',h1,by simpa using h2,h g' h1⟩
    simp only [this]
  unfold A8Q B04;rw [Bv he]
  have:∀(G':List Gc) (p:Gc->Bool),(G'.map λg=>if p g=true then ([]:Mem) else bs g.i).flatten=((G'.filter λg=>!p g).map λg=>bs g.i).flatten:=by
    intro G' p
    induction G' with
    | nil=>rfl
    | cons g G' ih =>
      rw [List.map_cons,List.flatten_cons,ih];cases hp:p g<;>simp [hp]
  exact this G λg=>B3C (G.map λg=>(g.i,g.s)) g.i
theorem A4a(l:List Mem)(M:Mem):X6 l M=l.flatten++M:=by
  induction l with
  | nil=>rfl
  | cons a l ih=>show a++X6 l M=_;rw [ih,List.flatten_cons,Ap]
section group
variable{C:Cx}{Q:XQ}{l:Env}{M M0 J:Mem}{os:List Oper}{K:Nat->Prop}{n0:Nat}{nd:List Nat}{plan:List (Nat×Nat)}
def A8T(C:Cx)(os:List Oper)(l:Env)(M0 J:Mem)(G:List Gc)(g:Gc):Prop :=
  ∃o,nth os g.i=some o∧∀(vs:Nat->Value) (bs:Nat->Mem) (R Rj:Mem) (w:World),(∀x∈M0++(J++C.A),x∈R)->(∀x∈J++C.A,x∈Rj)->(∀x∈Rj,x∈R)->(∀g'∈G,anc os.toArray os.toArray.size g.i g'.i=true->g'.φ (vs g'.i) (bs g'.i) Rj) ->
    B6x os (Q9 G vs++l) o∧OpL ⟨C.P,w,(g.inp bs).map Prod.fst,R,C.N⟩ o (Q9 G vs++l) (g.inp bs) [] (λl' M' J'=>∃v,l'=(g.d,v)::(Q9 G vs++l)∧g.φ v M' (J'++Rj))
theorem B3D(hmono:∀g∈G,A19 g.φ)(hd:(G.map (·.d)).Nodup)(hi:(G.map (·.i)).Nodup)(hc:ChainOk os.toArray G)(hKn:∀b,n0<=b->K b)(hK:∀m∈A1e G,∀x∈m,K x.1)(hob:∀g∈G,A8T C os l M0 J G g){A B:Array Bool}(hok:GOk os.toArray A (G.map (·.i)) B)
    (hfin:∀(vs:Nat->Value) (bs:Nat->Mem) Jn a w,(∀g∈G,g.φ (vs g.i) (bs g.i) ((Jn++J)++C.A))->(∀g∈G,∀x∈bs g.i,K x.1)->Ag C.N (Q9 G vs++l) a->St C ((B04 G bs).flatten++M0) (Jn++J) w->n0<=w.heap.size->A0K C.P os.toArray (T5 (A8n C Q)) (Sk K) nd.contains plan.length B a w) :
    ∀(n:Nat) (X:List Nat) (vs:Nat->Value) (bs:Nat->Mem) (Jn:Mem) (a:Act) (w:World),X.Nodup->(∀i∈X,i∈G.map (·.i))->n+X.length=G.length->R6 os.toArray (mark A X)->(∀g∈G,g.i∈X->∀s,g.s=some s->s∈X) ->
      (∀g∈G,g.i∈X->g.φ (vs g.i) (bs g.i) ((Jn++J)++C.A))->(∀g∈G,g.i∈X->∀x∈bs g.i,K x.1)->Ag C.N (Q9 G vs++l) a->St C (A8Q X bs G++M0) (Jn++J) w->n0<=w.heap.size ->
      A0K C.P os.toArray (T5 (A8n C Q)) (Sk K) nd.contains (n+plan.length) (mark A X) a w:=by
  intro n
  induction n with
  | zero =>
    intro X vs bs Jn a w hnd hX hlen hcl hXs hφ hN ha hw hn
    have hall:∀i,i∈X↔i∈G.map (·.i):=λi=>⟨hX i,A2N hnd hX (by simp;omega) i⟩
    have hin:∀g∈G,g.i∈X:=λg hg=>(hall _).2 (Al (f:=Gc.i) hg);have hcur:=A9R (bs:=bs) hin;rw [hcur] at hw;rw [Nat.zero_add,A6m hall,<- hok.mark];exact hfin vs bs Jn a w (λg hg=>hφ g hg (hin g hg)) (λg hg=>hN g hg (hin g hg)) ha hw hn
  | succ n ih =>
    intro X vs bs Jn a w hnd hX hlen hcl hXs hφ hN ha hw hn
    have hmiss:∃k∈G.map (·.i),k∉X:=by apply Classical.byContradiction;intro hno;have hs:∀k∈G.map (·.i),k∈X:=λk hk=>Classical.byContradiction λh=>hno ⟨k,hk,h⟩;have:=A2M hi hs;simp at this;omega
    obtain ⟨k,hkG,hkX⟩:=hmiss
    have hun:∀i∈G.map (·.i),A.getD i true=false:=by
      have:∀ {is A B},GOk os.toArray A is B->∀i∈is,A.getD i true=false:=by
        intro is A B h
        induction h with
        | nil=>intro i hi;cases hi
        | @cons A B i r hr ho h ih =>
          intro k hk;rcases List.mem_cons.1 hk with rfl|hk
          . exact L1 hr
          . have h2:=ih k hk;by_cases e:i=k
            . subst e;exact L1 hr
            . rwa [getD_set_ne true e] at h2
      exact this hok
    have hkun:(mark A X).getD k true=false:=I4.2 ⟨hun k hkG,λh=>hkX h.1⟩;rw [show n+1+plan.length=(n+plan.length)+1 by omega];refine ⟨λh0=>?_,λi hir=>?_⟩
    . obtain ⟨i,hir⟩:=hok.first (A1y A X) (λj hj=>A1z hj) hkG hkun;rw [h0] at hir;cases hir
    . have hiG:i∈G.map (·.i):=by apply Classical.byContradiction;intro hno;have h1:=I4.1 (L1 hir);have h2:=hok.outer k hkG i (A32 hir) h1.1 hno;exact U5 hkun (R7 hcl h2 hir)
      obtain ⟨g,hg,rfl⟩:=List.mem_map.1 hiG;have hiX:g.i∉X:=λh=>(I4.1 (L1 hir)).2 ⟨h,Y9 (hun _ hiG)⟩
      have hin:∀j∈G.map (·.i),anc os.toArray os.toArray.size g.i j=true->j∈X:=λj hj hanc=>by
        have h3:=R7 hcl hanc hir;rcases A0w h3 with h4|h4
        . exact (U5 (hun _ hj) h4).elim
        . exact h4
      have hsx:∀s,g.s=some s->s∈X:=λs hs=>hin s (hc.mem g hg s hs) (hc.anc g hg s hs)
      have hKi:∀x∈g.inp bs,K x.1:=by
        intro x hx
        cases hs:g.s with
        | none =>
          rw [Gc.inp_none hs] at hx;exact hK g.m (List.mem_map.2 ⟨g,List.mem_filter.2 ⟨hg,by simp [hs]⟩,E⟩) x hx
        | some s =>
          rw [Gc.inp_some hs] at hx;obtain ⟨gs,hgs,rfl⟩:=List.mem_map.1 (hc.mem g hg s hs);exact hN gs hgs (hsx _ hs) x hx
      obtain ⟨o,hget,howe⟩:=hob g hg;have hi':os.toArray[g.i]? = some o:=by rw [W8] at hget;simpa using hget
      obtain ⟨hask,hop⟩:=howe vs bs (M0++((Jn++J)++C.A)) ((Jn++J)++C.A) w (λx hx=>by simp only [List.mem_append] at hx ⊢;rcases hx with h|h|h<;>simp [h]) (λx hx=>by simp only [List.mem_append] at hx ⊢;rcases hx with h|h<;>simp [h]) (λx hx=>Ai _ hx) (λg' hg' hanc=>hφ g' hg' (hin _ (Al (f:=Gc.i) hg') hanc));unfold wpOp;simp only [hi'];rw [if_pos (hask.wanted ha)];obtain ⟨R0,hp0,hq0⟩:=A4Q (bs:=bs) hi hc hg hiX hXs hsx
      have hpc:(A8Q X bs G++M0).Perm (g.inp bs++(R0++M0)):=by rw [<- Ap];exact List.Perm.append_right _ hp0
      have hcal:=hw.callee hpc
      have hcal2:=St.less (A:=M0++((Jn++J)++C.A)) hcal λx hx=>by
        simp only [List.mem_append] at hx ⊢;rcases hx with h|h
        . exact .inl (.inr h)
        . exact .inr h
      refine .inl (Oper.wp_mono ?_ (hop _ a w ha hcal2.cx));rintro a' w' ⟨l',M',J',ha',hs',v,rfl,hφv⟩;have hsz:w.heap.size<=w'.heap.size:=hs'.size;have hs2:=St.widen hcal.cx hs';have hb:=hw.back hpc hs2.cx
      let bs':Nat->Mem:=λk=>if k=g.i then M' else bs k
      have hperm:(M'++(R0++M0)).Perm (A8Q (X++[g.i]) bs' G++M0):=by rw [<- Ap];exact List.Perm.append_right _ (hq0 M')
      have hfr2:St C (A8Q (X++[g.i]) bs' G++M0) ((J'++Jn)++J) w':=(hb.perm hperm).drop (Ao _) λx hx=>by simp only [List.mem_append] at hx ⊢;rcases hx with (h|h)|h<;>simp [h]
      refine ⟨λ_ b hb' hnk=>hs'.frame b hb' λhm=>?_,?_⟩
      . obtain ⟨x,hx,e⟩:=List.mem_map.1 hm;exact hnk (e▸hKi x hx)
      rw [<- U2];have henv:=A2O (N:=C.N) (G:=B7f G) (l:=l) (vs:=vs) (g:=⟨g.i,g.d,λ_ _=>True⟩) (a:=a') (v:=v) (Al (f:=λg:Gc=>(⟨g.i,g.d,λ_ _=>True⟩:Gm)) hg) (by rw [B3B];exact hd) (by rw [B3A];exact hi) (by rw [A1U];exact ha');rw [A1U] at henv;refine ih (X++[g.i]) (λk=>if k=g.i then v else vs k) bs' (J'++Jn) a' w' ?_ ?_ (by simp;omega) ?_ ?_ ?_ ?_ henv hfr2 (Az hn hsz)
      . rw [List.nodup_append];exact ⟨hnd,by simp,λx hx y hy e=>hiX (by simp at hy;subst hy;exact e▸hx)⟩
      . intro j hj;rcases List.mem_append.1 hj with hj|hj
        . exact hX j hj
        . simp at hj;subst hj;exact hiG
      . rw [U2];exact I6 hcl hir
      . intro g' hg' hm s hs;rcases List.mem_append.1 hm with h|h
        . exact Ae _ (hXs g' hg' h s hs)
        . have h2:g'=g:=A0P hi hg' hg (by simpa using h);subst h2;exact Ae _ (hsx s hs)
      . intro g' hg' hm;by_cases e:g'.i=g.i
        . have:g'=g:=A0P hi hg' hg e;subst this;simp only [if_true,bs'];exact hmono g' hg' _ _ _ _ (λx hx=>by simp only [List.mem_append] at hx ⊢;rcases hx with h|(h|h)|h<;>simp [h]) hφv
        . simp only [e,if_false,bs'];have hm':g'.i∈X:=by simpa [e] using hm
          exact hmono g' hg' _ _ _ _ (λx hx=>by simp only [List.mem_append] at hx ⊢;rcases hx with (h|h)|h<;>simp [h]) (hφ g' hg' hm')
      . intro g' hg' hk x hx;by_cases e:g'.i=g.i
        . have:g'=g:=A0P hi hg' hg e;subst this;simp only [if_true,bs'] at hx;rcases hs'.own x.1 x.2 (by simp [hx]) with h6|h6
          . obtain ⟨y,hy,e6⟩:=List.mem_map.1 h6;exact e6▸hKi y hy
          . exact hKn _ (Az hn h6)
        . simp only [e,if_false,bs'] at hx;have hk':g'.i∈X:=by simpa [e] using hk
          exact hN g' hg' hk' x hx
theorem A03(G:List Gc)(M0:Mem)(Lf:(Nat->Mem)->List Mem)(hKn:∀b,n0<=b->K b)(hM:M.Perm (X6 (A1e G) M0))(hK:∀m∈A1e G,∀x∈m,K x.1)(hck:A8R os.toArray (G.map λg=>(g.i,g.s))=true)(hLf:∀bs,B04 G bs=Lf bs)
    (hmono:∀g∈G,A19 g.φ) (hd:(G.map (·.d)).Nodup) (hi:(G.map (·.i)).Nodup) (hdN:∀g∈G,g.d<C.N) (hob:∀g∈G,A8T C os l M0 J G g)
    (h:∀(vs:Nat->Value) (bs:Nat->Mem) Jn,(∀g∈G,g.φ (vs g.i) (bs g.i) ((Jn++J)++C.A))->(∀g∈G,∀x∈bs g.i,K x.1)->XK C os Q K n0 nd plan (Q9 G vs++l) (X6 (Lf bs) M0) (Jn++J)):XK C os Q K n0 nd (enc (G.map (·.i))++plan) l M J:=by
  refine A2h hM ?_;rw [A4a];intro listed hcl hp a w ha hw hn;obtain ⟨B,hok,hp2⟩:=A9w hp
  have hBcl:R6 os.toArray B:=by
    have:∀ {A is B},GOk os.toArray A is B->R6 os.toArray A->R6 os.toArray B:=by
      intro A is B h
      induction h with
      | nil=>exact id
      | cons hr _ _ ih=>exact λhc=>ih (I6 hc hr)
    exact this hok hcl
  have hlen:(enc (G.map (·.i))++plan).length=G.length+plan.length:=by
    have:∀is:List Nat,(enc is).length=is.length:=by
      intro is
      induction is with
      | nil=>rfl
      | cons i r ih=>cases r with
        | nil=>rfl
        | cons j r=>simp only [enc,List.length_cons] at ih ⊢;rw [ih]
    simp [this]
  rw [hlen]
  let vs:Nat->Value:=λk=>match G.find? (λg=>g.i==k) with
    | some g=>(a.tmps[g.d]?).getD undef
    | none=>undef
  have hag:Ag C.N (Q9 G vs++l) a:=by
    refine ⟨ha.defers,ha.size,?_⟩;intro k u hk
    have key:∀G':List Gc,(∀g∈G',g∈G)->lk (Q9 G' vs++l) k=some u->a.tmps[k]? = some u:=by
      intro G'
      induction G' with
      | nil=>intro _ h;exact ha.slot k u h
      | cons g G' ih =>
        intro hs h;simp only [Q9,List.map_cons,Cy,lk] at h;by_cases e:g.d=k
        . subst e;simp at h
          have hf:G.find? (λx=>x.i==g.i)=some g:=by
            have hgG:=hs g Ax
            cases hq:G.find? (λx=>x.i==g.i) with
            | none=>have:=List.find?_eq_none.1 hq g hgG;simp at this
            | some x =>
              have h1:=List.find?_some hq;have h2:=List.mem_of_find?_eq_some hq;rw [A0P hi h2 hgG (by simpa using h1)]
          have hlt:g.d<a.tmps.size:=by rw [ha.size];exact hdN g (hs g Ax)
          rw [<- h];show a.tmps[g.d]? = some (vs g.i);simp only [vs,hf,Array.getElem?_eq_getElem hlt,Option.getD_some]
        . simp only [A0p e,cond_false] at h;exact ih (λx hx=>hs x (Bb _ hx)) h
    exact key G (λ_ h=>h) hk
  refine B3D (n0:=n0) (K:=K) hmono hd hi (A9P hck) hKn hK hob hok (λvs bs Jn a w hφ hN ha hw hn=>h vs bs Jn hφ hN B hBcl hp2 a w ha (by rw [A4a,<- hLf];exact hw) hn) G.length [] vs (λ_=>[]) [] a w .nil (λ_ h=>by cases h) (by simp) hcl (λ_ _ h=>by cases h) (λ_ _ h=>by cases h) (λ_ _ h=>by cases h) hag (by rw [A9Q];exact hw) hn
end group
theorem gC{C:Cx}{os:List Oper}{l:Env}{M0 J:Mem}{Gs:List Gc}{o:Oper}(h:∀(vs:Nat->Value) (bs:Nat->Mem) (R Rj:Mem) (w:World),(∀x∈M0++(J++C.A),x∈R)->(∀x∈J++C.A,x∈Rj)->(∀x∈Rj,x∈R)->(∀g'∈G,anc os.toArray os.toArray.size g.i g'.i=true->g'.φ (vs g'.i) (bs g'.i) Rj)->OpL ⟨C.P,w,(g.inp bs).map Prod.fst,R,C.N⟩ o (Q9 G vs++l) (g.inp bs) [] (λl' M' J'=>∃v,l'=(g.d,v)::(Q9 G vs++l)∧g.φ v M' (J'++Rj)))
    (t:∀g∈Gs,A8T C os l M0 J G g) (ho:nth os g.i=some o:=by exact E) (hg:o.guard=none:=by exact E):∀x∈g::Gs,A8T C os l M0 J G x:=A7 ⟨o,ho,λvs bs R Rj w hb hj hjr ha=>⟨.inl hg,h vs bs R Rj w hb hj hjr ha⟩⟩ t
end Go.Px

namespace Go.Px
def A4R:List Nat->List (Nat×Nat)
  | []=>[]
  | [q]=>[(q,10)]
  | q::q'::r=>(q,9)::A4R (q'::r)
def B1C(qs:List Nat):List Nat->List (Nat×Nat)
  | []=>A4R qs
  | i::r=>(i,8)::B1C qs r
theorem C0m(plan:List (Nat×Nat)):∀ {qs:List Nat},qs≠[]->grz (A4R qs++plan)=qs∧qsz (A4R qs++plan)=qs
  | [],h=>absurd E h
  | [q],_=>⟨E,E⟩
  | q::q'::r,_=>by
    obtain ⟨h1,h2⟩:=C0m plan (qs:=q'::r) (by simp);refine ⟨?_,?_⟩
    . show q::grz (A4R (q'::r)++plan)=_;rw [h1]
    . show q::qsz (A4R (q'::r)++plan)=_;rw [h2]
theorem A8U{qs:List Nat}(plan:List (Nat×Nat))(h:qs≠[]):∀r:List Nat,grz (B1C qs r++plan)=r++qs∧qsz (B1C qs r++plan)=qs
  | []=>C0m plan h
  | i::r=>by
    obtain ⟨h1,h2⟩:=A8U plan h r;refine ⟨?_,?_⟩
    . show i::grz (B1C qs r++plan)=_;rw [h1];rfl
    . show qsz (B1C qs r++plan)=_;rw [h2]
inductive GOz(ops:Array Oper)(qs:List Nat):Array Bool->List Nat->Array Bool->Prop
  | nil {A:Array Bool}:GOz ops qs A [] A
  | cons {A B:Array Bool} {i:Nat} {r:List Nat} (hr:i∈Region.ready .any ops A) (ho:i∉qs->∀j,j<ops.size->A.getD j true=false->j∉i::r->anc ops ops.size j i=true) (h:GOz ops qs (A.setIfInBounds i true) r B):GOz ops qs A (i::r) B
theorem A9S{ops:Array Oper}{nd:List Nat}{Q:List Nat}{plan:List (Nat×Nat)}:∀ {qs:List Nat} {A:Array Bool},qs≠[]->(∀q∈qs,q∈Q)->K8 ops nd (A4R qs++plan) A=true->∃B,GOz ops Q A qs B∧(∀q∈qs,A5i ops A q=true)∧K8 ops nd plan B=true
  | [],A,h,_,_=>absurd E h
  | [q],A,_,hQ,h=>by simp only [A4R,Cy,Cw,K8,Bool.and_eq_true] at h;exact ⟨_,.cons (by simpa using h.1.1) (λhq=>absurd (hQ q (by simp)) hq) .nil,(λx hx=>by rw [List.mem_singleton.1 hx];exact h.1.2),h.2⟩
  | q::q'::r,A,_,hQ,h=>by simp only [A4R,Cy,K8,Bool.and_eq_true] at h;obtain ⟨B,hB,-,hp⟩:=A9S (qs:=q'::r) (by simp) (λx hx=>hQ x (Bb _ hx)) h.2;refine ⟨B,.cons (by simpa using h.1.1) (λhq=>absurd (hQ q (by simp)) hq) hB,λx hx=>?_,hp⟩;have h2:=h.1.2;rw [(C0m plan (qs:=q'::r) (by simp)).2] at h2;exact List.all_eq_true.1 h2 x hx
theorem B3E{ops:Array Oper}{nd:List Nat}{qs:List Nat}{plan:List (Nat×Nat)}(hne:qs≠[]):∀ {is:List Nat} {A:Array Bool},K8 ops nd (B1C qs is++plan) A=true->∃B,GOz ops qs A (is++qs) B∧(∀q∈qs,A5i ops A q=true)∧K8 ops nd plan B=true
  | [],A,h=>A9S hne (λ_ h=>h) h
  | i::r,A,h=>by
    simp only [B1C,Cy,K8,A8w,Bool.and_eq_true,List.all_eq_true,List.mem_range,Bool.or_eq_true,(A8U plan hne r).1,(A8U plan hne r).2] at h;obtain ⟨B,hB,-,hp⟩:=B3E hne (is:=r) h.2;refine ⟨B,.cons (by simpa using h.1.1.1) (λ_ j hj hu hn=>?_) hB,h.1.2,hp⟩;rcases h.1.1.2 j hj with (h1|h1)|h1
    . rw [hu] at h1;cases h1
    . exact absurd (by simpa using h1) hn
    . exact h1
theorem GOz.mark{ops:Array Oper}{q:List Nat}{A B:Array Bool}{is:List Nat}(h:GOz ops q A is B):B=mark A is:=by
  induction h with
  | nil=>rfl
  | cons _ _ _ ih=>rw [ih];rfl
variable{ops:Array Oper}{q is:List Nat}{A B:Array Bool}
theorem GOz.un(h:GOz ops q A is B):∀i∈is,A.getD i true=false:=by
  induction h with
  | nil=>intro i hi;cases hi
  | @cons A B i r hr ho h ih =>
    intro k hk;rcases List.mem_cons.1 hk with rfl|hk
    . exact L1 hr
    . have h2:=ih k hk;by_cases e:i=k
      . subst e;exact L1 hr
      . rwa [getD_set_ne true e] at h2
theorem GOz.outer(h:GOz ops q A is B):∀i∈is,i∉q->∀j,j<ops.size->A.getD j true=false->j∉is->anc ops ops.size j i=true:=by
  induction h with
  | nil=>intro i hi;cases hi
  | @cons A B i r hr ho h ih =>
    intro k hk hq j hj hu hn;rcases List.mem_cons.1 hk with rfl|hk
    . exact ho hq j hj hu hn
    . have hne:i≠j:=λe=>hn (e▸Ax);exact ih k hk hq j hj (by rw [getD_set_ne true hne];exact hu) (λhm=>hn (Bb _ hm))
theorem GOz.first(h:GOz ops q A is B){A':Array Bool}(hsz:A'.size=A.size)(hm:∀j,A.getD j false=true->A'.getD j false=true){k:Nat}(hk:k∈is)(hk':A'.getD k true=false):∃i,i∈is∧i∈Region.ready .any ops A':=by
  induction h generalizing k with
  | nil=>cases hk
  | @cons A B i r hr ho h ih =>
    by_cases hi:A'.getD i true=false
    . exact ⟨i,Ax,A5C hr hi hm⟩
    . rcases List.mem_cons.1 hk with rfl|hk
      . exact absurd hk' hi
      . obtain ⟨x,hx1,hx2⟩:=ih (by simpa using hsz) (λj hj=>by
          by_cases e:i=j
          . subst e;have hlt:=Y9 (L1 hr);have hlt':i<A'.size:=by omega
            simp [hlt'] at hi ⊢;exact hi
          . rw [getD_set_ne false e] at hj
            exact hm j hj) hk hk'
        exact ⟨x,Bb _ hx1,hx2⟩
section group
variable{C:Cx}{Q:XQ}{l:Env}{M M0 J:Mem}{os:List Oper}{K:Nat->Prop}{n0:Nat}{nd:List Nat}{plan:List (Nat×Nat)}
def C0n(C:Cx)(os:List Oper)(l:Env)(J:Mem)(G:List Gc)(g:Gc):Prop :=
  g.s=none∧g.m=[]∧∃op ty pos af,nth os g.i=some ⟨some g.d,op,ty,pos,af,none⟩∧∀(vs:Nat->Value) (bs:Nat->Mem) (Rj:Mem),(∀x∈J++C.A,x∈Rj)->(∀g'∈G,anc os.toArray os.toArray.size g.i g'.i=true->g'.φ (vs g'.i) (bs g'.i) Rj) ->
    ∃v,OpQ C.P [] ⟨some g.d,op,ty,pos,af,none⟩ (Q9 G vs++l) v∧g.φ v [] Rj
theorem B3F{G:List Gc}(hmono:∀g∈G,A19 g.φ)(hd:(G.map (·.d)).Nodup)(hi:(G.map (·.i)).Nodup)(hc:ChainOk os.toArray G)(hKn:∀b,n0<=b->K b)(hK:∀m∈A1e G,∀x∈m,K x.1)(hs:Region.noSelect os.toArray=true)(hdN:∀g∈G,g.d<C.N){qs:List Nat}(hob:∀g∈G,g.i∉qs->A8T C os l M0 J G g)(hoq:∀g∈G,g.i∈qs->C0n C os l J G g)(hok:GOz os.toArray qs A (G.map (·.i)) B)(hfr:∀q∈qs,A5i os.toArray A q=true)
    (hfin:∀(vs:Nat->Value) (bs:Nat->Mem) Jn a w,(∀g∈G,g.φ (vs g.i) (bs g.i) ((Jn++J)++C.A))->(∀g∈G,∀x∈bs g.i,K x.1)->Ag C.N (Q9 G vs++l) a->St C ((B04 G bs).flatten++M0) (Jn++J) w->n0<=w.heap.size->A0K C.P os.toArray (T5 (A8n C Q)) (Sk K) nd.contains plan.length B a w) :
    ∀(n:Nat) (X:List Nat) (vs:Nat->Value) (bs:Nat->Mem) (Jn:Mem) (a:Act) (w:World),X.Nodup->(∀i∈X,i∈G.map (·.i))->n+X.length=G.length->R6 os.toArray (mark A X)->(∀g∈G,g.i∈X->∀s,g.s=some s->s∈X) ->
      (∀g∈G,g.i∈X->g.φ (vs g.i) (bs g.i) ((Jn++J)++C.A))->(∀g∈G,g.i∈X->∀x∈bs g.i,K x.1)->Ag C.N (Q9 G vs++l) a->St C (A8Q X bs G++M0) (Jn++J) w->n0<=w.heap.size ->
      A0K C.P os.toArray (T5 (A8n C Q)) (Sk K) nd.contains (n+plan.length) (mark A X) a w:=by
  intro n
  induction n with
  | zero =>
    intro X vs bs Jn a w hnd hX hlen hcl hXs hφ hN ha hw hn
    have hall:∀i,i∈X↔i∈G.map (·.i):=λi=>⟨hX i,A2N hnd hX (by simp;omega) i⟩
    have hin:∀g∈G,g.i∈X:=λg hg=>(hall _).2 (Al (f:=Gc.i) hg);have hcur:=A9R (bs:=bs) hin;rw [hcur] at hw;rw [Nat.zero_add,A6m hall,<- hok.mark];exact hfin vs bs Jn a w (λg hg=>hφ g hg (hin g hg)) (λg hg=>hN g hg (hin g hg)) ha hw hn
  | succ n ih =>
    intro X vs bs Jn a w hnd hX hlen hcl hXs hφ hN ha hw hn;have hun:∀i∈G.map (·.i),A.getD i true=false:=hok.un;by_cases hqe:∃g∈G,g.i∈qs∧g.i∈Region.ready .any os.toArray (mark A X)
    . obtain ⟨g,hg,hgq,hqr⟩:=hqe;obtain ⟨hsn,hmn,op,ty,pos,af,hget,howe⟩:=hoq g hg hgq;have hi':os.toArray[g.i]? = some ⟨some g.d,op,ty,pos,af,none⟩:=by rw [W8] at hget;simpa using hget
      have hiG:g.i∈G.map (·.i):=Al (f:=Gc.i) hg;have hiX:g.i∉X:=λh=>(I4.1 (L1 hqr)).2 ⟨h,Y9 (hun _ hiG)⟩
      obtain ⟨v,hq,hφv⟩:=howe vs bs ((Jn++J)++C.A) (λx hx=>by simp only [List.mem_append] at hx ⊢;rcases hx with h|h<;>simp [h]) (λg' hg' hanc=>hφ g' hg' (by
        have h3:=R7 hcl hanc hqr;rcases A0w h3 with h4|h4
        . exact (U5 (hun _ (Al (f:=Gc.i) hg')) h4).elim
        . exact h4))
      rw [show n+1+plan.length=(n+plan.length)+1 by omega]
      refine Y6 (S:=Sk K) (T:=λ_=>True) (N:=0) (v:=v) hi' (Region.noSelect_spec hs) (λ_ _ _ h=>h) (λ_ _ _ _=>rfl) _ (mark A X) a w hcl (λj oj hj hne hun' hno=>B0A hi' (hfr _ hgq) j oj hj hne (I4.1 hun').1 (by
        cases ha0:anc os.toArray os.toArray.size g.i j with
        | false=>rfl
        | true=>exact (U5 hun' (R7 hcl ha0 hqr)).elim) hno) (λ_ _ _ _=>.inr λ_ _ _ _=>trivial) hqr (.inl ⟨rfl,λw hw=>hq C.N a w ha (λ_ _ hb=>by cases hb)⟩) trivial ?_
      rw [<- U2];have hsx:∀s,g.s=some s->s∈X:=λs hs'=>by rw [hsn] at hs';cases hs'
      obtain ⟨R0,hp0,hq0⟩:=A4Q (bs:=bs) hi hc hg hiX hXs hsx;rw [Gc.inp_none hsn,hmn] at hp0
      let bs':Nat->Mem:=λk=>if k=g.i then [] else bs k
      have hperm:(A8Q X bs G++M0).Perm (A8Q (X++[g.i]) bs' G++M0):=List.Perm.append_right _ (hp0.trans (hq0 []));have ha':Ag C.N ((g.d,v)::(Q9 G vs++l)) (a.put (some g.d) v):=ha.put (hdN g hg) v;have henv:=A2O (N:=C.N) (G:=B7f G) (l:=l) (vs:=vs) (g:=⟨g.i,g.d,λ_ _=>True⟩) (a:=a.put (some g.d) v) (v:=v) (Al (f:=λg:Gc=>(⟨g.i,g.d,λ_ _=>True⟩:Gm)) hg) (by rw [B3B];exact hd) (by rw [B3A];exact hi) (by rw [A1U];exact ha');rw [A1U] at henv;refine ih (X++[g.i]) (λk=>if k=g.i then v else vs k) bs' Jn (a.put (some g.d) v) w ?_ ?_ (by simp;omega) ?_ ?_ ?_ ?_ henv (hw.perm hperm) hn
      . rw [List.nodup_append];exact ⟨hnd,by simp,λx hx y hy e=>hiX (by simp at hy;subst hy;exact e▸hx)⟩
      . intro j hj;rcases List.mem_append.1 hj with hj|hj
        . exact hX j hj
        . simp at hj;subst hj;exact hiG
      . rw [U2];exact I6 hcl hqr
      . intro g' hg' hm s hs';rcases List.mem_append.1 hm with h|h
        . exact Ae _ (hXs g' hg' h s hs')
        . have h2:g'=g:=A0P hi hg' hg (by simpa using h);subst h2;exact Ae _ (hsx s hs')
      . intro g' hg' hm;by_cases e:g'.i=g.i
        . have:g'=g:=A0P hi hg' hg e;subst this;simp only [if_true,bs'];exact hφv
        . simp only [e,if_false,bs'];exact hφ g' hg' (by simpa [e] using hm)
      . intro g' hg' hk x hx;by_cases e:g'.i=g.i
        . simp only [e,if_true,bs'] at hx;cases hx
        . simp only [e,if_false,bs'] at hx;exact hN g' hg' (by simpa [e] using hk) x hx
    have hmiss:∃k∈G.map (·.i),k∉X∧k∉qs:=by
      apply Classical.byContradiction;intro hno;have hs':∀k∈G.map (·.i),k∉qs->k∈X:=λk hk hne=>Classical.byContradiction λh=>hno ⟨k,hk,h,hne⟩;by_cases hall:∀k∈G.map (·.i),k∈X
      . have:=A2M hi hall;simp at this;omega
      . obtain ⟨k,hk⟩:=Classical.not_forall.1 hall;obtain ⟨hkG,hkX⟩:=Classical.not_imp.1 hk;obtain ⟨i,hiG,hir⟩:=hok.first (A1y A X) (λj hj=>A1z hj) hkG (I4.2 ⟨hun _ hkG,λh=>hkX h.1⟩);have hiX:i∉X:=λh=>(I4.1 (L1 hir)).2 ⟨h,Y9 (hun _ hiG)⟩;by_cases e:i∈qs
        . obtain ⟨g,hg,rfl⟩:=List.mem_map.1 hiG;exact hqe ⟨g,hg,e,hir⟩
        . exact hiX (hs' i hiG e)
    obtain ⟨k,hkG,hkX,hkq⟩:=hmiss;have hkun:(mark A X).getD k true=false:=I4.2 ⟨hun k hkG,λh=>hkX h.1⟩;rw [show n+1+plan.length=(n+plan.length)+1 by omega];refine ⟨λh0=>?_,λi hir=>?_⟩
    . obtain ⟨i,-,hir⟩:=hok.first (A1y A X) (λj hj=>A1z hj) hkG hkun;rw [h0] at hir;cases hir
    . have hiG:i∈G.map (·.i):=by apply Classical.byContradiction;intro hno;have h1:=I4.1 (L1 hir);have h2:=hok.outer k hkG hkq i (A32 hir) h1.1 hno;exact U5 hkun (R7 hcl h2 hir)
      obtain ⟨g,hg,rfl⟩:=List.mem_map.1 hiG;have hiX:g.i∉X:=λh=>(I4.1 (L1 hir)).2 ⟨h,Y9 (hun _ hiG)⟩
      have hin:∀j∈G.map (·.i),anc os.toArray os.toArray.size g.i j=true->j∈X:=λj hj hanc=>by
        have h3:=R7 hcl hanc hir;rcases A0w h3 with h4|h4
        . exact (U5 (hun _ hj) h4).elim
        . exact h4
      have hsx:∀s,g.s=some s->s∈X:=λs hs=>hin s (hc.mem g hg s hs) (hc.anc g hg s hs)
      have hKi:∀x∈g.inp bs,K x.1:=by
        intro x hx
        cases hs:g.s with
        | none =>
          rw [Gc.inp_none hs] at hx;exact hK g.m (List.mem_map.2 ⟨g,List.mem_filter.2 ⟨hg,by simp [hs]⟩,E⟩) x hx
        | some s =>
          rw [Gc.inp_some hs] at hx;obtain ⟨gs,hgs,rfl⟩:=List.mem_map.1 (hc.mem g hg s hs);exact hN gs hgs (hsx _ hs) x hx
      obtain ⟨o,hget,howe⟩:=hob g hg (λe=>hqe ⟨g,hg,e,hir⟩);have hi':os.toArray[g.i]? = some o:=by rw [W8] at hget;simpa using hget
      obtain ⟨hask,hop⟩:=howe vs bs (M0++((Jn++J)++C.A)) ((Jn++J)++C.A) w (λx hx=>by simp only [List.mem_append] at hx ⊢;rcases hx with h|h|h<;>simp [h]) (λx hx=>by simp only [List.mem_append] at hx ⊢;rcases hx with h|h<;>simp [h]) (λx hx=>Ai _ hx) (λg' hg' hanc=>hφ g' hg' (hin _ (Al (f:=Gc.i) hg') hanc));unfold wpOp;simp only [hi'];rw [if_pos (hask.wanted ha)];obtain ⟨R0,hp0,hq0⟩:=A4Q (bs:=bs) hi hc hg hiX hXs hsx
      have hpc:(A8Q X bs G++M0).Perm (g.inp bs++(R0++M0)):=by rw [<- Ap];exact List.Perm.append_right _ hp0
      have hcal:=hw.callee hpc
      have hcal2:=St.less (A:=M0++((Jn++J)++C.A)) hcal λx hx=>by
        simp only [List.mem_append] at hx ⊢;rcases hx with h|h
        . exact .inl (.inr h)
        . exact .inr h
      refine .inl (Oper.wp_mono ?_ (hop _ a w ha hcal2.cx));rintro a' w' ⟨l',M',J',ha',hs',v,rfl,hφv⟩;have hsz:w.heap.size<=w'.heap.size:=hs'.size;have hs2:=St.widen hcal.cx hs';have hb:=hw.back hpc hs2.cx
      let bs':Nat->Mem:=λk=>if k=g.i then M' else bs k
      have hperm:(M'++(R0++M0)).Perm (A8Q (X++[g.i]) bs' G++M0):=by rw [<- Ap];exact List.Perm.append_right _ (hq0 M')
      have hfr2:St C (A8Q (X++[g.i]) bs' G++M0) ((J'++Jn)++J) w':=(hb.perm hperm).drop (Ao _) λx hx=>by simp only [List.mem_append] at hx ⊢;rcases hx with (h|h)|h<;>simp [h]
      refine ⟨λ_ b hb' hnk=>hs'.frame b hb' λhm=>?_,?_⟩
      . obtain ⟨x,hx,e⟩:=List.mem_map.1 hm;exact hnk (e▸hKi x hx)
      rw [<- U2];have henv:=A2O (N:=C.N) (G:=B7f G) (l:=l) (vs:=vs) (g:=⟨g.i,g.d,λ_ _=>True⟩) (a:=a') (v:=v) (Al (f:=λg:Gc=>(⟨g.i,g.d,λ_ _=>True⟩:Gm)) hg) (by rw [B3B];exact hd) (by rw [B3A];exact hi) (by rw [A1U];exact ha');rw [A1U] at henv;refine ih (X++[g.i]) (λk=>if k=g.i then v else vs k) bs' (J'++Jn) a' w' ?_ ?_ (by simp;omega) ?_ ?_ ?_ ?_ henv hfr2 (Az hn hsz)
      . rw [List.nodup_append];exact ⟨hnd,by simp,λx hx y hy e=>hiX (by simp at hy;subst hy;exact e▸hx)⟩
      . intro j hj;rcases List.mem_append.1 hj with hj|hj
        . exact hX j hj
        . simp at hj;subst hj;exact hiG
      . rw [U2];exact I6 hcl hir
      . intro g' hg' hm s hs;rcases List.mem_append.1 hm with h|h
        . exact Ae _ (hXs g' hg' h s hs)
        . have h2:g'=g:=A0P hi hg' hg (by simpa using h);subst h2;exact Ae _ (hsx s hs)
      . intro g' hg' hm;by_cases e:g'.i=g.i
        . have:g'=g:=A0P hi hg' hg e;subst this;simp only [if_true,bs'];exact hmono g' hg' _ _ _ _ (λx hx=>by simp only [List.mem_append] at hx ⊢;rcases hx with h|(h|h)|h<;>simp [h]) hφv
        . simp only [e,if_false,bs'];have hm':g'.i∈X:=by simpa [e] using hm
          exact hmono g' hg' _ _ _ _ (λx hx=>by simp only [List.mem_append] at hx ⊢;rcases hx with (h|h)|h<;>simp [h]) (hφ g' hg' hm')
      . intro g' hg' hk x hx;by_cases e:g'.i=g.i
        . have:g'=g:=A0P hi hg' hg e;subst this;simp only [if_true,bs'] at hx;rcases hs'.own x.1 x.2 (by simp [hx]) with h6|h6
          . obtain ⟨y,hy,e6⟩:=List.mem_map.1 h6;exact e6▸hKi y hy
          . exact hKn _ (Az hn h6)
        . simp only [e,if_false,bs'] at hx;have hk':g'.i∈X:=by simpa [e] using hk
          exact hN g' hg' hk' x hx
theorem A04(G0 Gq:List Gc)(M0:Mem)(Lf:(Nat->Mem)->List Mem)(hKn:∀b,n0<=b->K b)(hM:M.Perm (X6 (A1e (G0++Gq)) M0))(hK:∀m∈A1e (G0++Gq),∀x∈m,K x.1)(hck:A8R os.toArray ((G0++Gq).map λg=>(g.i,g.s))=true)(hLf:∀bs,B04 (G0++Gq) bs=Lf bs)
    (hmono:∀g∈G0++Gq,A19 g.φ) (hd:((G0++Gq).map (·.d)).Nodup) (hi:((G0++Gq).map (·.i)).Nodup) (hdN:∀g∈G0++Gq,g.d<C.N) (hs:Region.noSelect os.toArray=true) (hne:Gq.map (·.i)≠[]) (hob0:∀g∈G0,A8T C os l M0 J (G0++Gq) g) (hoq0:∀g∈Gq,C0n C os l J (G0++Gq) g)
    (h:∀(vs:Nat->Value) (bs:Nat->Mem) Jn,(∀g∈G0++Gq,g.φ (vs g.i) (bs g.i) ((Jn++J)++C.A))->(∀g∈G0++Gq,∀x∈bs g.i,K x.1)->XK C os Q K n0 nd plan (Q9 (G0++Gq) vs++l) (X6 (Lf bs) M0) (Jn++J)):XK C os Q K n0 nd (B1C (Gq.map (·.i)) (G0.map (·.i))++plan) l M J:=by
  refine A2h hM ?_;rw [A4a];intro listed hcl hp a w ha hw hn;obtain ⟨B,hok,hfr,hp2⟩:=B3E hne hp
  have hBcl:R6 os.toArray B:=by
    have:∀ {A is B},GOz os.toArray (Gq.map (·.i)) A is B->R6 os.toArray A->R6 os.toArray B:=by
      intro A is B h
      induction h with
      | nil=>exact id
      | cons hr _ _ ih=>exact λhc=>ih (I6 hc hr)
    exact this hok hcl
  rw [<- List.map_append] at hok
  have hlen:(B1C (Gq.map (·.i)) (G0.map (·.i))++plan).length=(G0++Gq).length+plan.length:=by
    have h1:∀qs:List Nat,(A4R qs).length=qs.length:=by
      intro qs
      induction qs with
      | nil=>rfl
      | cons q r ih=>cases r with
        | nil=>rfl
        | cons q' r=>simp only [A4R,List.length_cons] at ih ⊢;rw [ih]
    have h2:∀(qs is:List Nat),(B1C qs is).length=is.length+qs.length:=by
      intro qs is
      induction is with
      | nil=>simp [B1C,h1]
      | cons i r ih=>simp only [B1C,List.length_cons,ih];omega
    simp [h2]
  have hob:∀g∈G0++Gq,g.i∉Gq.map (·.i)->A8T C os l M0 J (G0++Gq) g:=λg hg hq=>by
    rcases List.mem_append.1 hg with h1|h1
    . exact hob0 g h1
    . exact absurd (Al (f:=Gc.i) h1) hq
  have hoq:∀g∈G0++Gq,g.i∈Gq.map (·.i)->C0n C os l J (G0++Gq) g:=λg hg hq=>by obtain ⟨g',hg',e⟩:=List.mem_map.1 hq;have:=A0P hi (Ai _ hg') hg e;exact this▸hoq0 g' hg'
  rw [hlen];generalize Gq.map (·.i)=qs at *;generalize G0++Gq=G at *
  let vs:Nat->Value:=λk=>match G.find? (λg=>g.i==k) with
    | some g=>(a.tmps[g.d]?).getD undef
    | none=>undef
  have hag:Ag C.N (Q9 G vs++l) a:=by
    refine ⟨ha.defers,ha.size,?_⟩;intro k u hk
    have key:∀G':List Gc,(∀g∈G',g∈G)->lk (Q9 G' vs++l) k=some u->a.tmps[k]? = some u:=by
      intro G'
      induction G' with
      | nil=>intro _ h;exact ha.slot k u h
      | cons g G' ih =>
        intro hs h;simp only [Q9,List.map_cons,Cy,lk] at h;by_cases e:g.d=k
        . subst e;simp at h
          have hf:G.find? (λx=>x.i==g.i)=some g:=by
            have hgG:=hs g Ax
            cases hq:G.find? (λx=>x.i==g.i) with
            | none=>have:=List.find?_eq_none.1 hq g hgG;simp at this
            | some x =>
              have h1:=List.find?_some hq;have h2:=List.mem_of_find?_eq_some hq;rw [A0P hi h2 hgG (by simpa using h1)]
          have hlt:g.d<a.tmps.size:=by rw [ha.size];exact hdN g (hs g Ax)
          rw [<- h];show a.tmps[g.d]? = some (vs g.i);simp only [vs,hf,Array.getElem?_eq_getElem hlt,Option.getD_some]
        . simp only [A0p e,cond_false] at h;exact ih (λx hx=>hs x (Bb _ hx)) h
    exact key G (λ_ h=>h) hk
  refine B3F (n0:=n0) (K:=K) hmono hd hi (A9P hck) hKn hK hs hdN hob hoq hok hfr (λvs bs Jn a w hφ hN ha hw hn=>h vs bs Jn hφ hN B hBcl hp2 a w ha (by rw [A4a,<- hLf];exact hw) hn) G.length [] vs (λ_=>[]) [] a w .nil (λ_ h=>by cases h) (by simp) hcl (λ_ _ h=>by cases h) (λ_ _ h=>by cases h) (λ_ _ h=>by cases h) hag (by rw [A9Q];exact hw) hn
end group
end Go.Px

namespace Go.Proofs.YtgpjndfgjjlhaaaGreatDoor
open Go.Px
def C4I(x:Nat):Option Nat:=if rt1 x*rt1 x%p25=x then some (rt1 x) else if rt2 x*rt2 x%p25=x then some (rt2 x) else none
theorem B8O(x:Nat):∃y,y=C4I x:=⟨_,E⟩
def rtN(x:Nat):Option Nat:=Classical.choose (B8O x)
theorem B8P(x:Nat):rtN x=C4I x:=Classical.choose_spec (B8O x)
variable{x:Nat}
theorem A9T{r:Value}(h:Rt r x):∃u b n,r=.tuple #[u,.bool b]∧Fe u n∧((rtN x=some n∧b=true)∨(rtN x=none∧b=false)):=by
  obtain ⟨u,b,rfl,h⟩:=h;rw [B8P];unfold C4I;rcases h with ⟨h1,rfl,h2⟩|⟨h1,h2,rfl,h3⟩|⟨h1,h2,rfl,h3⟩
  . exact ⟨_,_,_,E,h2,.inl ⟨by rw [if_pos h1],E⟩⟩
  . exact ⟨_,_,_,E,h3,.inl ⟨by rw [if_neg h1,if_pos h2],E⟩⟩
  . exact ⟨_,_,_,E,h3,.inr ⟨by rw [if_neg h1,if_neg h2],E⟩⟩
def xxN(y:Nat):Nat:=fM (fS (fM y y) 1) (fI (fA (fM dN (fM y y)) 1))
def atO(o:Option Nat)(odd:Bool):Option Nat:=match o with
  | none=>none
  | some x=>if odd&&decide (x=0) then none else some (if !(decide (x%2=1)==odd) then fN x else x)
def atN(y:Nat)(odd:Bool):Option Nat:=atO (rtN (xxN y)) odd
variable{y:Nat}{odd:Bool}
theorem B3G{o:Option Nat}(h:rtN (xxN y)=o):atN y odd=atO o odd:=congrArg (λo=>atO o odd) h
theorem C0o(h:rtN (xxN y)=none):atN y odd=none:=B3G h
theorem C0p(hx:x=0):atO (some x) true=none:=by subst hx;rfl
theorem C0q(h:rtN (xxN y)=some x)(hx:x=0):atN y true=none:=(B3G h).trans (C0p hx)
variable{b:Bool}
theorem C0r(hx:(odd&&decide (x=0))=false)(hb:(!(decide (x%2=1)==odd))=b):atO (some x) odd=some (if b then fN x else x):=by unfold atO;simp only [hx,hb];rfl
theorem A6G(h:rtN (xxN y)=some x)(hx:(odd&&decide (x=0))=false)(hb:(!(decide (x%2=1)==odd))=b):atN y odd=some (if b then fN x else x):=(B3G h).trans (C0r hx hb)
def pZ:Pt:=⟨0,0,0,0⟩
def pAt(x y:Nat):Pt:=⟨x,y,1,fM x y⟩
def AtR(r:Value)(y:Nat)(odd:Bool):Prop:=∃V b,r=.tuple #[V,.bool b]∧((∃x,atN y odd=some x∧b=true∧FeP V (pAt x y))∨(atN y odd=none∧b=false∧FeP V pZ))
def s45:Nat:=46316835694926478169428394003475163141307993866256225615783033603165251855960
theorem C3c:fM 4 (fI 5)=s45:=by rw [A5p,A1K qD];decide +kernel
def bxN:Nat:=15112221349535400772501151409588531511454012693041857206046113283949847762202
def pS:Pt:=pAt bxN s45
theorem C0s:xxN y=fM (fS (fM y y) 1) (pm p25 256 (fA (fM dN (fM y y)) 1) (p25-2) 1):=by unfold xxN;rw [A5p,A1K qD]
theorem B8Q:rt1 x=pm p25 256 x (2^252-2) 1:=by unfold rt1;rw [A1K qD]
theorem i_pm:rtp 2 (2^253-5)=pm p25 256 2 (2^253-5) 1:=A1K qD
theorem C3d:rt2 x=pm p25 256 x (2^252-2) 1*pm p25 256 2 (2^253-5) 1%p25:=by unfold rt2;rw [B8Q,i_pm]
def rtK(x:Nat):Option Nat:=if pm p25 256 x (2^252-2) 1*pm p25 256 x (2^252-2) 1%p25=x then some (pm p25 256 x (2^252-2) 1) else if (pm p25 256 x (2^252-2) 1*pm p25 256 2 (2^253-5) 1%p25)*(pm p25 256 x (2^252-2) 1*pm p25 256 2 (2^253-5) 1%p25)%p25=x then some (pm p25 256 x (2^252-2) 1*pm p25 256 2 (2^253-5) 1%p25) else none
theorem rt_K:rtN x=rtK x:=by rw [B8P];unfold C4I rtK;rw [C3d,B8Q]
theorem xx45:xxN s45=26187595835145689230469591415084376402084551887632582719101735842039498021991:=by rw [C0s];decide +kernel
theorem at45:atN s45 false=some bxN:=by refine (B3G ((congrArg rtN xx45).trans (rt_K.trans (Eq.refl (rtK 26187595835145689230469591415084376402084551887632582719101735842039498021991))))).trans ?_;decide +kernel
theorem at_f(v:Value)(y:Nat)(odd:Bool)(hv:Fe v y)(A:Mem):FnX prog 148 [v,.bool odd] [] A λr M J=>M=[]∧J=[]∧AtR r y odd:=by
 have hy:=hv;obtain ⟨y0,y1,y2,y3,y4,rfl,-⟩:=hv;refine Cn (N:=48) func148 E E E λw=>?_;refine A8 (D0 0 1) (A1 ?_);refine A2 E (bx_ λb2=>?_);refine A2 E (C3 (cs:=[C0,C0,C0,C0,C0,C0,C0,C0,C0,C0,C0,C0,C0,C0,C0,C0,C0,C0,C0,C0]) kR E λb4=>?_);refine as_ (A0 (D5 1 2 4) (A1 ?_));refine lQ_ (qw_ 5) ?_;refine C6 (aS E a0) kR (C29 hy _) E ?_;rintro r10 M10 J10 ⟨rfl,rfl,k10⟩;have h10:=k10;obtain ⟨a10,b10,c10,d10,e10,rfl,-⟩:=k10;refine A2 E (C3 (cs:=[C0,C0,C0,C0,C0]) kR E λb6=>?_);refine A2 E (A5 E E Cf kR ln5 al5 Cv ?_);refine A0 (D7 1 2 4 6) ?_;refine F9 ([]) (_) true [0,1,2,3,4,5,6,7,8,9,10,11,12,13,14,16] [(0,1),(4,1),(1,8),(2,8),(3,8),(5,8),(6,8),(7,8),(8,8),(9,8),(10,8),(11,8),(12,8),(14,8),(13,10),(15,2),(16,0)] kR kR qP λhs K n0 hKm hKs hKn=>?_;refine I8 hs E hKs (qw_ 5) ?_;refine I8 hs E hKs (qw_ 5) ?_
 refine A04 [⟨1,13,none,[],λv B _=>B=[]∧Fe v (1)⟩,⟨2,14,none,[],λv B _=>B=[]∧Fe v (fS (fM y y) 1)⟩,⟨3,15,none,[],λv B _=>B=[]∧Fe v (dN)⟩,⟨5,17,none,[],λv B _=>B=[]∧Fe v (fM dN (fM y y))⟩,⟨6,18,none,[],λv B _=>B=[]∧Fe v (1)⟩,⟨7,19,none,[],λv B _=>B=[]∧Fe v (fA (fM dN (fM y y)) 1)⟩,⟨8,20,none,[],λv B _=>B=[]∧Fe v (fI (fA (fM dN (fM y y)) 1))⟩,⟨9,21,none,[],λv B _=>B=[]∧Fe v (xxN y)⟩,⟨10,22,none,[],λv B _=>B=[]∧Rt v (xxN y)⟩,⟨11,11,none,[],λv B _=>B=[]∧Rt v (xxN y)⟩,⟨12,23,none,[],λv B _=>B=[]∧∃n,Fe v n∧∀m,rtN (xxN y)=some m->n=m⟩,⟨14,7,none,[],λv B _=>∃b,v=(vP b)∧B=[(b,blk [C0,C0,C0,C0,C0] 193)]⟩] [⟨13,24,none,[],λv B _=>B=[]∧v=.bool (rtN (xxN y)).isSome⟩] (_) (λbs=>[bs 1,bs 2,bs 3,bs 5,bs 6,bs 7,bs 8,bs 9,bs 10,bs 11,bs 12,bs 14,bs 13]) (hKn E) (Ah _) gk0 kR (λ_=>by first|rfl|kernel_rfl)
  gA nd_ nd_ dl_
  hs (List.cons_ne_nil _ _) (gC ?_ (gC ?_ (gC ?_ (gC ?_ (gC ?_ (gC ?_ (gC ?_ (gC ?_ (gC ?_ (gC ?_ (gC ?_ (gC ?_ (K5))))))))))))) (A7 ⟨E,E,_,_,_,_,E,λvs bs Rj hj ha=>?_⟩ (K5)) ?_
 .
  intros
  dsimp only [Gc.inp];refine D9 (aS E (a0)) kR (A1q 1 qD _) E ?_;rintro r M1 J1 ⟨rfl,rfl,hh⟩;exact ⟨_,E,E,hh⟩
 . intro _ _ _ _ _ _ _ _ ha;dsimp only [Gc.inp];have g1:=gx 0 ha;dsimp only at g1;obtain ⟨-,k1⟩:=g1;refine D9 (aS E (aS E (a0))) kR (A6F h10 k1 _) E ?_;rintro r M1 J1 ⟨rfl,rfl,hh⟩;exact ⟨_,E,E,hh⟩
 .
  intros
  dsimp only [Gc.inp];refine D9 (a0) kR (A8P _) E ?_;rintro r M1 J1 ⟨rfl,rfl,hh⟩;exact ⟨_,E,E,hh⟩
 . intro _ _ _ _ _ _ _ _ ha;dsimp only [Gc.inp];have g3:=gx 2 ha;dsimp only at g3;obtain ⟨-,k3⟩:=g3;refine D9 (aS E (aS E (a0))) kR (U3 k3 h10 _) E ?_;rintro r M1 J1 ⟨rfl,rfl,hh⟩;exact ⟨_,E,E,hh⟩
 .
  intros
  dsimp only [Gc.inp];refine D9 (aS E (a0)) kR (A1q 1 qD _) E ?_;rintro r M1 J1 ⟨rfl,rfl,hh⟩;exact ⟨_,E,E,hh⟩
 . intro _ _ _ _ _ _ _ _ ha;dsimp only [Gc.inp];have g5:=gx 3 ha;dsimp only at g5;have g6:=gx 4 ha;dsimp only at g6;obtain ⟨-,k5⟩:=g5;obtain ⟨-,k6⟩:=g6;refine D9 (aS E (aS E (a0))) kR (A5q k5 k6 _) E ?_;rintro r M1 J1 ⟨rfl,rfl,hh⟩;exact ⟨_,E,E,hh⟩
 . intro _ _ _ _ _ _ _ _ ha;dsimp only [Gc.inp];have g7:=gx 5 ha;dsimp only at g7;obtain ⟨-,k7⟩:=g7;refine D9 (aS E (a0)) kR (B3y k7 _) E ?_;rintro r M1 J1 ⟨rfl,rfl,hh⟩;exact ⟨_,E,E,hh⟩
 . intro _ _ _ _ _ _ _ _ ha;dsimp only [Gc.inp];have g2:=gx 1 ha;dsimp only at g2;have g8:=gx 6 ha;dsimp only at g8;obtain ⟨-,k2⟩:=g2;obtain ⟨-,k8⟩:=g8;refine D9 (aS E (aS E (a0))) kR (U3 k2 k8 _) E ?_;rintro r M1 J1 ⟨rfl,rfl,hh⟩;exact ⟨_,E,E,hh⟩
 . intro _ _ _ _ _ _ _ _ ha;dsimp only [Gc.inp];have g9:=gx 7 ha;dsimp only at g9;obtain ⟨-,k9⟩:=g9;refine D9 (aS E a0) kR (B03 _ _ k9 _) E ?_;rintro r M1 J1 ⟨rfl,rfl,hh⟩;exact ⟨_,E,E,hh⟩
 . intro _ _ _ _ _ _ _ _ ha;dsimp only [Gc.inp];have g10:=gx 8 ha;dsimp only at g10;obtain ⟨-,k10⟩:=g10;exact Cp qm_ E ⟨_,E,E,k10⟩
 . intro vs bs _ _ _ _ _ _ ha;dsimp only [Gc.inp];have g11:=gx 9 ha;dsimp only at g11;obtain ⟨-,k11⟩:=g11;obtain ⟨w,ok,n,hw,hn,hrt⟩:=A9T k11;exact Cp (I3 (vs:=#[w,.bool ok]) (by rw [<- hw];rfl) rfl) rfl ⟨_,rfl,rfl,n,hn,λm hm=>by rcases hrt with ⟨h1,-⟩|⟨h1,-⟩<;>rw [hm] at h1<;>cases h1;rfl⟩
 .
  intros
  dsimp only [Gc.inp]
  exact C3 (cs:=[C0,C0,C0,C0,C0]) kR E λb=>⟨_,E,b,E,E⟩
 . have g11:=gx 9 ha;dsimp only at g11;obtain ⟨-,k11⟩:=g11;obtain ⟨w,ok,n,hw,hn,hrt⟩:=A9T k11;exact ⟨.bool ok,I3 (vs:=#[w,.bool ok]) (by rw [<- hw];rfl) rfl,rfl,by rcases hrt with ⟨h1,rfl⟩|⟨h1,rfl⟩<;>rw [h1]<;>rfl⟩
 intro vs bs Jn0 hφ hKK;clear hKK;have g1:=gy 0 hφ;have g2:=gy 1 hφ;have g3:=gy 2 hφ;have g5:=gy 3 hφ;have g6:=gy 4 hφ;have g7:=gy 5 hφ;have g8:=gy 6 hφ;have g9:=gy 7 hφ;have g10:=gy 8 hφ;have g11:=gy 9 hφ;have g12:=gy 10 hφ;have g14:=gy 11 hφ;have g13:=gy 12 hφ;dsimp only at g1 g2 g3 g5 g6 g7 g8 g9 g10 g11 g12 g14 g13;clear hφ;dsimp only [Q9,X6,List.foldr,List.map,Cy,Cw];generalize bs 1=B13,bs 2=B14,bs 3=B15,bs 5=B17,bs 6=B18,bs 7=B19,bs 8=B20,bs 9=B21,bs 10=B22,bs 11=B11,bs 12=B23,bs 14=B7,bs 13=B24,vs 1=u13,vs 2=u14,vs 3=u15,vs 5=u17,vs 6=u18,vs 7=u19,vs 8=u20,vs 9=u21,vs 10=u22,vs 11=u11,vs 12=u23,vs 14=u7,vs 13=u24 at *;obtain ⟨rfl,-⟩:=g10;obtain ⟨rfl,-⟩:=g11;obtain ⟨rfl,n,hn,hnm⟩:=g12;have hn0:=hn;obtain ⟨n0,n1,n2,n3,n4,rfl,-⟩:=hn
 obtain ⟨ok,hrt,hok⟩:∃ok,((rtN (xxN y)=some n∧ok=true)∨(rtN (xxN y)=none∧ok=false))∧(rtN (xxN y)).isSome=ok:=by
  cases hq:rtN (xxN y) with
  | none=>exact ⟨false,.inr ⟨E,E⟩,E⟩
  | some m=>exact ⟨true,.inl ⟨by rw [hnm m hq],E⟩,E⟩
 obtain ⟨rfl,h13⟩:=g13;rw [hok] at h13;subst h13;obtain ⟨b14,rfl,rfl⟩:=g14;obtain ⟨rfl,-⟩:=g1;obtain ⟨rfl,-⟩:=g2;obtain ⟨rfl,-⟩:=g3;obtain ⟨rfl,-⟩:=g5;obtain ⟨rfl,-⟩:=g6;obtain ⟨rfl,-⟩:=g7;obtain ⟨rfl,-⟩:=g8;obtain ⟨rfl,-⟩:=g9;dsimp only [List.append_eq,Cw,Cy];refine K6 E E E (A5 E E Cf kR ln5 al5 Cv ?_);refine kQ_ E (G2 E) (I0 (E9 1 2 4 7 8) (A3 ?_));rcases hrt with ⟨hrt,rfl⟩|⟨hrt,rfl⟩
 .
  refine A1 (mV_ E (lQ_ (V7 E) (mv_ ?_)));refine G1 E E (Cp qm_ E ?_);refine G1 E E (Cp qm_ E ?_);refine Y0 (t:=29) E (λhb=>?_) (λhb=>?_)
  .
   have ho:odd=true:=hb;refine G1 E E (Cp (qw_ 5) E ?_);refine A7y E E (aS E a0) kR (B02 _ n hn0 _) E ?_;refine G1 E E (Cp (H6 E E) E ?_);refine lQ_ (E8 E E) (A0 (E9 1 2 4 7 33) ?_);refine C2 E ?_ ?_<;>intro hc
   .
    have hz:n=0:=by simpa using hc
    refine A1 ?_;refine lQ_ (E6 (place:=λx=>#[(0,5),(5,5),(10,5),(15,5)][x]?) (z:=[C0,C0,C0,C0,C0,C0,C0,C0,C0,C0,C0,C0,C0,C0,C0,C0,C0,C0,C0,C0]) (λ_=>by kernel_rfl) e0 bd0) ?_;refine A2 E (A5 E E Cf kR A33 A34 Cv ?_);refine as_ (A0 (D0 4 5) (A9 (tr ?_)));refine ⟨_,[],[],A0e E E E kR Ce qR,Aa _,by simp,E,E,_,_,E,.inr ⟨?_,E,⟨_,E,_,_,_,_,_,_,_,_,_,_,_,_,_,_,_,_,_,_,_,_,E,L2,L2,L2,L2⟩⟩⟩;rw [ho];exact C0q hrt hz
   .
    have hz:¬n=0:=by simpa using hc
    refine A4 (nx (D7 1 2 4 7) (A3 (A1 ?_)));refine lQ_ (qw_ 5) ?_;refine D8 (aS E a0) kR (A4O _ n hn0 _) E ?_;refine mV_ E (lQ_ (A57 E E kR) (A0 (D7 2 4 7 38) ?_));refine C2 E ?_ ?_<;>intro hc
    . have hodd:=hc;refine C1 ?_;refine lQ_ (qw_ 5) ?_;refine C6 (aS E a0) kR (C0l hn0 _) E ?_;rintro r40 M40 J40 ⟨rfl,rfl,k40⟩;have h40:=k40;obtain ⟨a40,b40,c40,d40,e40,rfl,-⟩:=k40;refine A2 E (A5 E E Cf kR ln5 al5 Cv ?_);refine A0 (D5 2 4 7) ?_;refine C9 [0,1,2,3,4,5,6,8] [(0,1),(1,1),(3,1),(4,1),(2,2),(5,2),(6,0),(7,2),(8,0)] kR kR λhs=>?_;refine fR_ E (qw_ 5) ?_;refine fR_ E (qw_ 5) ?_;refine fR_ E (qw_ 5) ?_;refine fR_ E (qw_ 5) ?_;refine G5 E (aS E a0) kR (A1q 1 qD _) E ?_;rintro r43 M43 J43 ⟨rfl,rfl,k43⟩;have h43:=k43;obtain ⟨a43,b43,c43,d43,e43,rfl,-⟩:=k43;refine G5 E (aS E (aS E a0)) kR (U3 h40 hy _) E ?_;rintro r46 M46 J46 ⟨rfl,rfl,k46⟩;have h46:=k46;obtain ⟨a46,b46,c46,d46,e46,rfl,-⟩:=k46;refine fQ_ E (E6 (place:=λx=>#[(0,5),(5,5),(10,5),(15,5)][x]?) (z:=[C0,C0,C0,C0,C0,C0,C0,C0,C0,C0,C0,C0,C0,C0,C0,C0,C0,C0,C0,C0]) (λ_=>by kernel_rfl) (eS E (eS E (eS E (eS E e0)))) (bdS 0 5 E qR (bdS 5 5 E qR (bdS 10 5 E qR (bdS 15 5 E qR bd0))))) ?_;refine G3 E E E (A5 E E Cf kR A33 A34 Cv ?_);refine fA_ E E (E4 (D0 4 5) (A9 ?_));refine ⟨_,[],[],A0e E E E kR Ce qR,Aa _,by simp,E,E,_,_,E,.inl ⟨fN n,?_,E,⟨_,E,_,_,_,_,_,_,_,_,_,_,_,_,_,_,_,_,_,_,_,_,E,h40,hy,h43,h46⟩⟩⟩;exact A6G hrt (by rw [ho,decide_eq_false hz];rfl) hodd
    . have hodd:=hc;refine A4 (nx (D5 2 4 7) ?_);refine C9 [0,1,2,3,4,5,6,8] [(0,1),(1,1),(3,1),(4,1),(2,2),(5,2),(6,0),(7,2),(8,0)] kR kR λhs=>?_;refine fR_ E (qw_ 5) ?_;refine fR_ E (qw_ 5) ?_;refine fR_ E (qw_ 5) ?_;refine fR_ E (qw_ 5) ?_;refine G5 E (aS E a0) kR (A1q 1 qD _) E ?_;rintro r43 M43 J43 ⟨rfl,rfl,k43⟩;have h43:=k43;obtain ⟨a43,b43,c43,d43,e43,rfl,-⟩:=k43;refine G5 E (aS E (aS E a0)) kR (U3 hn0 hy _) E ?_;rintro r46 M46 J46 ⟨rfl,rfl,k46⟩;have h46:=k46;obtain ⟨a46,b46,c46,d46,e46,rfl,-⟩:=k46;refine fQ_ E (E6 (place:=λx=>#[(0,5),(5,5),(10,5),(15,5)][x]?) (z:=[C0,C0,C0,C0,C0,C0,C0,C0,C0,C0,C0,C0,C0,C0,C0,C0,C0,C0,C0,C0]) (λ_=>by kernel_rfl) (eS E (eS E (eS E (eS E e0)))) (bdS 0 5 E qR (bdS 5 5 E qR (bdS 10 5 E qR (bdS 15 5 E qR bd0))))) ?_;refine G3 E E E (A5 E E Cf kR A33 A34 Cv ?_);refine fA_ E E (E4 (D0 4 5) (A9 ?_));refine ⟨_,[],[],A0e E E E kR Ce qR,Aa _,by simp,E,E,_,_,E,.inl ⟨n,?_,E,⟨_,E,_,_,_,_,_,_,_,_,_,_,_,_,_,_,_,_,_,_,_,_,E,hn0,hy,h43,h46⟩⟩⟩;exact A6G hrt (by rw [ho,decide_eq_false hz];rfl) hodd
  .
   have ho:odd=false:=hb;refine K0 E E E E ?_;refine K0 E E E E ?_;refine G1 E E (Cp (E8 E E) E ?_);refine lQ_ (E8 E E) (A0 (E9 1 2 4 7 33) ?_);refine C7 E ?_;refine A4 (nx (D7 1 2 4 7) (A3 (A1 ?_)));refine lQ_ (qw_ 5) ?_;refine D8 (aS E a0) kR (A4O _ n hn0 _) E ?_;refine mV_ E (lQ_ (A57 E E kR) (A0 (D7 2 4 7 38) ?_));refine C2 E ?_ ?_<;>intro hc
   . have hodd:=hc;refine C1 ?_;refine lQ_ (qw_ 5) ?_;refine C6 (aS E a0) kR (C0l hn0 _) E ?_;rintro r40 M40 J40 ⟨rfl,rfl,k40⟩;have h40:=k40;obtain ⟨a40,b40,c40,d40,e40,rfl,-⟩:=k40;refine A2 E (A5 E E Cf kR ln5 al5 Cv ?_);refine A0 (D5 2 4 7) ?_;refine C9 [0,1,2,3,4,5,6,8] [(0,1),(1,1),(3,1),(4,1),(2,2),(5,2),(6,0),(7,2),(8,0)] kR kR λhs=>?_;refine fR_ E (qw_ 5) ?_;refine fR_ E (qw_ 5) ?_;refine fR_ E (qw_ 5) ?_;refine fR_ E (qw_ 5) ?_;refine G5 E (aS E a0) kR (A1q 1 qD _) E ?_;rintro r43 M43 J43 ⟨rfl,rfl,k43⟩;have h43:=k43;obtain ⟨a43,b43,c43,d43,e43,rfl,-⟩:=k43;refine G5 E (aS E (aS E a0)) kR (U3 h40 hy _) E ?_;rintro r46 M46 J46 ⟨rfl,rfl,k46⟩;have h46:=k46;obtain ⟨a46,b46,c46,d46,e46,rfl,-⟩:=k46;refine fQ_ E (E6 (place:=λx=>#[(0,5),(5,5),(10,5),(15,5)][x]?) (z:=[C0,C0,C0,C0,C0,C0,C0,C0,C0,C0,C0,C0,C0,C0,C0,C0,C0,C0,C0,C0]) (λ_=>by kernel_rfl) (eS E (eS E (eS E (eS E e0)))) (bdS 0 5 E qR (bdS 5 5 E qR (bdS 10 5 E qR (bdS 15 5 E qR bd0))))) ?_;refine G3 E E E (A5 E E Cf kR A33 A34 Cv ?_);refine fA_ E E (E4 (D0 4 5) (A9 ?_));refine ⟨_,[],[],A0e E E E kR Ce qR,Aa _,by simp,E,E,_,_,E,.inl ⟨fN n,?_,E,⟨_,E,_,_,_,_,_,_,_,_,_,_,_,_,_,_,_,_,_,_,_,_,E,h40,hy,h43,h46⟩⟩⟩;exact A6G hrt (by rw [ho];rfl) hodd
   . have hodd:=hc;refine A4 (nx (D5 2 4 7) ?_);refine C9 [0,1,2,3,4,5,6,8] [(0,1),(1,1),(3,1),(4,1),(2,2),(5,2),(6,0),(7,2),(8,0)] kR kR λhs=>?_;refine fR_ E (qw_ 5) ?_;refine fR_ E (qw_ 5) ?_;refine fR_ E (qw_ 5) ?_;refine fR_ E (qw_ 5) ?_;refine G5 E (aS E a0) kR (A1q 1 qD _) E ?_;rintro r43 M43 J43 ⟨rfl,rfl,k43⟩;have h43:=k43;obtain ⟨a43,b43,c43,d43,e43,rfl,-⟩:=k43;refine G5 E (aS E (aS E a0)) kR (U3 hn0 hy _) E ?_;rintro r46 M46 J46 ⟨rfl,rfl,k46⟩;have h46:=k46;obtain ⟨a46,b46,c46,d46,e46,rfl,-⟩:=k46;refine fQ_ E (E6 (place:=λx=>#[(0,5),(5,5),(10,5),(15,5)][x]?) (z:=[C0,C0,C0,C0,C0,C0,C0,C0,C0,C0,C0,C0,C0,C0,C0,C0,C0,C0,C0,C0]) (λ_=>by kernel_rfl) (eS E (eS E (eS E (eS E e0)))) (bdS 0 5 E qR (bdS 5 5 E qR (bdS 10 5 E qR (bdS 15 5 E qR bd0))))) ?_;refine G3 E E E (A5 E E Cf kR A33 A34 Cv ?_);refine fA_ E E (E4 (D0 4 5) (A9 ?_));refine ⟨_,[],[],A0e E E E kR Ce qR,Aa _,by simp,E,E,_,_,E,.inl ⟨n,?_,E,⟨_,E,_,_,_,_,_,_,_,_,_,_,_,_,_,_,_,_,_,_,_,_,E,hn0,hy,h43,h46⟩⟩⟩;exact A6G hrt (by rw [ho];rfl) hodd
 . refine A1 (mV_ E (lQ_ (V7 E) (mv_ ?_)));refine K0 E E E E ?_;refine K0 E E E E ?_;refine B6a E E E ?_;refine B6a E E E ?_;refine K0 E E E E ?_;refine lQ_ (H6 E E) (A0 (E9 1 2 4 7 33) ?_);refine E2 E ?_;refine A1 ?_;refine lQ_ (E6 (place:=λx=>#[(0,5),(5,5),(10,5),(15,5)][x]?) (z:=[C0,C0,C0,C0,C0,C0,C0,C0,C0,C0,C0,C0,C0,C0,C0,C0,C0,C0,C0,C0]) (λ_=>by kernel_rfl) e0 bd0) ?_;refine A2 E (A5 E E Cf kR A33 A34 Cv ?_);refine as_ (A0 (D0 4 5) (A9 (tr ?_)));exact ⟨_,[],[],A0e E E E kR Ce qR,Aa _,by simp,E,E,_,_,E,.inr ⟨C0o hrt,E,⟨_,E,_,_,_,_,_,_,_,_,_,_,_,_,_,_,_,_,_,_,_,_,E,L2,L2,L2,L2⟩⟩⟩
theorem A8V(A:Mem):FnX prog 114 [] [] A λr M J=>M=[]∧J=[]∧FeP r pS:=by
 refine Cn (N:=12) func114 E E E λw=>?_;refine A8 kn (A1 ?_);refine A2 E (C3 (cs:=[C0,C0,C0,C0,C0,C0,C0,C0,C0,C0,C0,C0,C0,C0,C0,C0,C0,C0,C0,C0]) kR E λb0=>?_);refine A0 (D1 0) (A1 ?_);refine C6 (aS E a0) kR (A1q 4 qD _) E ?_;rintro r4 M4 J4 ⟨rfl,rfl,k4⟩;have h4:=k4;obtain ⟨a4,b4,c4,d4,e4,rfl,-⟩:=k4;refine C6 (aS E a0) kR (A1q 5 qD _) E ?_;rintro r5 M5 J5 ⟨rfl,rfl,k5⟩;have h5:=k5;obtain ⟨a5,b5,c5,d5,e5,rfl,-⟩:=k5;refine C6 (aS E a0) kR (B3y h5 _) E ?_;rintro r6 M6 J6 ⟨rfl,rfl,k6⟩;have h6:=k6;obtain ⟨a6,b6,c6,d6,e6,rfl,-⟩:=k6;refine C6 (aS E (aS E a0)) kR (U3 h4 h6 _) E ?_;rintro r7 M7 J7 ⟨rfl,rfl,k7⟩;rw [C3c] at k7;have h7:=k7;obtain ⟨a7,b7,c7,d7,e7,rfl,-⟩:=k7;refine C6 (aS E (aS E a0)) kR (at_f _ s45 false h7 _) E ?_;rintro r8 M8 J8 ⟨rfl,rfl,V,ok,rfl,hat⟩
 have hP:FeP V pS:=by
  rw [at45] at hat;rcases hat with ⟨x,h1,_,h2⟩|⟨h1,_,h2⟩
  . obtain rfl:=Cc h1;exact h2
  . cases h1
 have hP0:=hP;obtain ⟨xsp,rfl,p0,p1,p2,p3,p4,p5,p6,p7,p8,p9,p10,p11,p12,p13,p14,p15,p16,p17,p18,p19,rfl,hpX,hpY,hpZ,hpT⟩:=hP;dsimp only [nums,List.map];refine mV_ E (lQ_ (A0x E) (lQ_ (A0n E) ?_));refine A2 E (C3 (cs:=[C0,C0,C0,C0,C0,C0,C0,C0,C0,C0,C0,C0,C0,C0,C0,C0,C0,C0,C0,C0]) kR E λb1=>?_);refine A2 E (A5 E E Cf kR A33 A34 Cv ?_);refine as_ (A0 (D0 0 1) (A1 ?_));refine lQ_ (qw_ 20) ?_;refine A2 E (A5 E E Cf kR A33 A34 Cv ?_);refine A0 (D1 0) (A9 ?_);exact ⟨_,[],[],A1l E E kR Ce qR,Aa _,by simp,E,E,hP0⟩

end Go.Proofs.YtgpjndfgjjlhaaaGreatDoor
namespace Go.Px
theorem A21{P:Program}{R:Mem}{l:Env}{d:Option Nat}{ty:TypeId}{pos:String}{af:Array Edge}{g:Option (Nat×Bool)}{fn:Fn}{xs:List Operand}{vs:List Value}(hx:Evs l xs vs) :
    OpQ P R ⟨d,.makeFunc fn #[] xs.toArray,ty,pos,af,g⟩ l (.func fn #[] vs.toArray):=λN a w ha hw=>by
  have e:xs.toArray.map a.eval=vs.toArray:=by simp [hx.map ha]
  simp only [execOp,e];simp [Instr.makeFunc]
section call
variable{C:Cx}{l:Env}{M J:Mem}{K:Env->Mem->Mem->Prop}{d:Nat}{ty:TypeId}{pos:String}{af:Array Edge}{g:Option (Nat×Bool)}{x:Operand}{f:FuncId}{xs:List Operand}{vs cs:List Value}{ts:Array TypeId}
theorem C0t{Mc R:Mem}{post:Value->Mem->Mem->Prop}(h0:ev l x=some (.func (.func f) #[] cs.toArray))(hx:Evs l xs vs)(hc:K1 C.P f=true)
    (hM:M.Perm (Mc++R)) (hf:FnX C.P f (vs++cs) Mc (R++(J++C.A)) post) (hd:Nat.blt d C.N=true) (k:∀v M' J',post v M' J'->K ((d,v)::l) (M'++R) (J'++J)) :
    OpL C ⟨some d,.call { callee:=.value x,args:=xs.toArray,argTypes:=ts },ty,pos,af,g⟩ l M J K:=by
  intro Qp a w ha hw
  have hrun:(execOp a.eval ⟨some d,.call { callee:=.value x,args:=xs.toArray,argTypes:=ts },ty,pos,af,g⟩).run C.P w=.ok (.enter f (vs++cs).toArray) w:=by
    have e:xs.toArray.map a.eval=vs.toArray:=by simp [hx.map ha]
    simp only [execOp,resolve,e,Sem.run_bind,ha.ev h0];simp [Deferred.ofValue,invoke,A9o hc]
  unfold Oper.wp;rw [hrun];refine Calls.mono (hf w (hw.callee hM)) ?_;rintro e w' ⟨v,M',J',rfl,hp,hs⟩;exact ⟨_,_,_,ha.put (L7 hd) v,hw.back hM hs,k v M' J' hp⟩
theorem A1f{v:Value}(h0:ev l x=some (.func (.func f) #[] cs.toArray))(hx:Evs l xs vs)(hc:K1 C.P f=true)(hf:FnV C.P f (vs++cs) (M++(J++C.A)) v)(hd:Nat.blt d C.N=true)(k:K ((d,v)::l) M J) :
    OpL C ⟨some d,.call { callee:=.value x,args:=xs.toArray,argTypes:=ts },ty,pos,af,g⟩ l M J K :=
  C0t (Mc:=[]) (R:=M) h0 hx hc (.refl _) hf hd λr M' J' ⟨e,h1,h2⟩=>by subst e;subst h1;subst h2;exact k
end call
def A7i(p:Nat->Bool)(n:Nat):Int:=match (List.range n).find? p with
  | some i=>(i:Int)
  | none=>-1
variable{p:Nat->Bool}
theorem A0D{n i:Nat}(hi:i<n)(h0:∀j,j<i->p j=false)(h:p i=true):A7i p n=(i:Int):=by
  unfold A7i
  have:(List.range n).find? p=some i:=by rw [List.find?_range_eq_some];exact ⟨h,List.mem_range.2 hi,λj hj=>by rw [h0 j hj];rfl⟩
  rw [this]
theorem A0E{n:Nat}(h0:∀j,j<n->p j=false):A7i p n = -1:=by
  unfold A7i
  have:(List.range n).find? p=none:=by rw [List.find?_eq_none];intro j hj;rw [h0 j (List.mem_range.1 hj)];decide
  rw [this]
theorem A3i(p:Nat->Bool)(n:Nat):(A7i p n = -1∧∀j,j<n->p j=false)∨∃i,i<n∧A7i p n=(i:Int)∧p i=true∧∀j,j<i->p j=false:=by
  cases h:(List.range n).find? p with
  | none =>
    have h1:∀j,j<n->p j=false:=λj hj=>by have:=List.find?_eq_none.1 h j (List.mem_range.2 hj);simpa using this
    exact .inl ⟨A0E h1,h1⟩
  | some i =>
    obtain ⟨h1,h2,h3⟩:=List.find?_range_eq_some.1 h;have h4:∀j,j<i->p j=false:=λj hj=>by simpa using h3 j hj
    exact .inr ⟨i,List.mem_range.1 h2,A0D (List.mem_range.1 h2) h4 h1,h1,h4⟩
structure RowT{α:Type}(sz:Nat)(φ:Mem->α->List Value->Prop):Prop where
  mono:∀R R' x r,(∀q,q∈R->q∈R')->φ R x r->φ R' x r
  len:∀R x r,φ R x r->r.length=sz
  one:∀R x r,φ R x r->∀c∈r,c.oneCell'=true
structure RwL{α:Type}(φ:Mem->α->List Value->Prop)(R:Mem)(rows:List (List Value))(xs:List α):Prop where
  len:rows.length=xs.length
  get:∀(j:Nat) (x:α),xs[j]? = some x->∃r,rows[j]? = some r∧φ R x r
section rows
variable{α:Type}{sz:Nat}{φ:Mem->α->List Value->Prop}{R R':Mem}{rows:List (List Value)}{xs:List α}{x:α}{r:List Value}
theorem RwL.mono(hφ:RowT sz φ)(h:RwL φ R rows xs)(hR:∀q,q∈R->q∈R'):RwL φ R' rows xs:=⟨h.len,λj x hj=>by
  obtain ⟨r,h1,h2⟩:=h.get j x hj
  exact ⟨r,h1,hφ.mono _ _ _ _ hR h2⟩⟩
theorem RwL.nil:RwL φ R [] []:=⟨E,λj x h=>by simp at h⟩
theorem RwL.of(h:RwL φ R rows xs){j:Nat}(hr:rows[j]? = some r):∃x,xs[j]? = some x∧φ R x r:=by
  have hj:j<xs.length:=by rw [<- h.len];exact (Ac.1 hr).1
  obtain ⟨r',h1,h2⟩:=h.get j xs[j] (Ab hj);rw [hr] at h1;cases h1;exact ⟨_,Ab hj,h2⟩
theorem RwL.lens(hφ:RowT sz φ)(h:RwL φ R rows xs):∀r∈rows,r.length=sz:=by intro r hr;obtain ⟨j,hj⟩:=List.getElem?_of_mem hr;obtain ⟨x,_,h2⟩:=h.of hj;exact hφ.len _ _ _ h2
theorem RwL.ones(hφ:RowT sz φ)(h:RwL φ R rows xs):∀c∈rows.flatten,c.oneCell'=true:=by intro c hc;obtain ⟨r,hr,hc⟩:=List.mem_flatten.1 hc;obtain ⟨j,hj⟩:=List.getElem?_of_mem hr;obtain ⟨x,_,h2⟩:=h.of hj;exact hφ.one _ _ _ h2 c hc
theorem RwL.snoc(h:RwL φ R rows xs)(hx:φ R x r):RwL φ R (rows++[r]) (xs++[x]):=⟨by simp [h.len],λj y hj=>by
  by_cases hlt:j<xs.length
  . rw [Ak hlt] at hj;obtain ⟨r',h1,h2⟩:=h.get j y hj;exact ⟨r',by rw [Ak (Ac.1 h1).1];exact h1,h2⟩
  . rw [Aq (by omega)] at hj
    have hj0:j=xs.length:=by have:=(Ac.1 hj).1;simp at this;omega
    subst hj0;simp at hj;subst hj
    exact ⟨r,by rw [Aq (by rw [h.len];omega),h.len];simp,hx⟩⟩
theorem RwL.app{rows':List (List Value)}{xs':List α}(h:RwL φ R rows xs)(h':RwL φ R rows' xs'):RwL φ R (rows++rows') (xs++xs'):=⟨by simp [h.len,h'.len],λj y hj=>by
  by_cases hlt:j<xs.length
  . rw [Ak hlt] at hj;obtain ⟨r',h1,h2⟩:=h.get j y hj;exact ⟨r',by rw [Ak (Ac.1 h1).1];exact h1,h2⟩
  . rw [Aq (by omega)] at hj;obtain ⟨r',h1,h2⟩:=h'.get _ y hj
    exact ⟨r',by rw [Aq (by rw [h.len];omega),h.len];exact h1,h2⟩⟩
theorem RwL.cons(hx:φ R x r)(h:RwL φ R rows xs):RwL φ R (r::rows) (x::xs):=⟨by simp [h.len],λj y hj=>by
  cases j with
  | zero=>simp at hj;subst hj;exact ⟨r,E,hx⟩
  | succ j=>exact h.get j y hj⟩
theorem RwL.take(h:RwL φ R rows xs)(k:Nat):RwL φ R (rows.take k) (xs.take k):=⟨by simp [h.len],λj y hj=>by
  have hk:j<k:=by
    rcases Nat.lt_or_ge j k with h|h
    . exact h
    . rw [List.getElem?_eq_none (by simp;omega)] at hj;cases hj
  rw [Cd hk] at hj ⊢
  exact h.get j y hj⟩
theorem RwL.drop(h:RwL φ R rows xs)(k:Nat):RwL φ R (rows.drop k) (xs.drop k):=⟨by simp [h.len],λj y hj=>by
  rw [List.getElem?_drop] at hj ⊢
  exact h.get _ y hj⟩
theorem RwL.erase(h:RwL φ R rows xs)(i:Nat):RwL φ R (rows.take i++rows.drop (i+1)) (xs.eraseIdx i):=by rw [List.eraseIdx_eq_take_drop_succ];exact (h.take i).app (h.drop (i+1))
theorem A3j(hl:∀r∈rows,r.length=sz)(i:Nat):rows.flatten.take (i*sz)++rows.flatten.drop ((i+1)*sz)=(rows.take i++rows.drop (i+1)).flatten:=by rw [A1u hl,A2C hl,List.flatten_append]
end rows
variable{α:Type}
def P0(q:α->Bool)(xs:List α):Int:=A7i (λj=>(xs[j]?.map q).getD false) xs.length
theorem N8(q:α->Bool)(xs:List α):(P0 q xs = -1∧∀x∈xs,q x=false)∨∃(i:Nat) (x:α),P0 q xs=(i:Int)∧xs[i]? = some x∧q x=true∧∀(j:Nat) (y:α),j<i->xs[j]? = some y->q y=false:=by
  rcases A3i (λj=>(xs[j]?.map q).getD false) xs.length with ⟨h1,h2⟩|⟨i,h1,h2,h3,h4⟩
  . refine .inl ⟨h1,λx hx=>?_⟩;obtain ⟨j,hj⟩:=List.getElem?_of_mem hx;have:=h2 j (Ac.1 hj).1;rw [hj] at this;exact this
  . refine .inr ⟨i,xs[i],h2,Ab h1,?_,λj y hj hy=>?_⟩
    . rw [Ab h1] at h3;exact h3
    . have:=h4 j hj;rw [hy] at this;exact this
end Go.Px

namespace Go.Px
section zb
variable{C:Cx}{l:Env}{M J:Mem}{K:Env->Mem->Mem->Prop}{d:Nat}{ty t tn e:TypeId}{pos:String}{af:Array Edge}{g:Option (Nat×Bool)}{x y:Operand}
end zb
theorem C5i{C:Cx}{l:Env}{M J:Mem}{K:Env->Mem->Mem->Prop}{ty t:TypeId}{pos:String}{af:Array Edge}{g:Option (Nat×Bool)}{x y:Operand}{v u:Value}{xs:List Value}{n j:Nat}{B M0:Mem}(h:Sl 1 v n xs B)(hx:ev l x=some (vAt 1 j v))(hy:ev l y=some u)(h1:u.oneCell'=true)
    (ht:N2 C.P t=some 1) (hj:j<n) (hM:M.Perm (B++M0)) (h2:∀B',Sl 1 v n (xs.set j u) B'->K l (B'++M0) J) :
    OpL C ⟨none,.store t x y,ty,pos,af,g⟩ l M J K:=by
  suffices hh:OpL C ⟨none,.store t x y,ty,pos,af,g⟩ l (B++M0) J K from λQp a w ha hw=>hh Qp a w ha (hw.fit (Fit.perm hM) λ_ h=>h)
  clear hM;rcases h with ⟨p,rfl,rfl,hx2,rfl⟩|⟨b,o,cap,cs,e,rfl,rfl,h3,h4,h5,h6,h7⟩
  . omega
  . simp only [vAt,Addr.add_mid,Nat.mul_one] at hx;refine E1 hx hy h1 ht (A3Y (by omega)) .hd (h2 [_] (.inr ⟨b,o,cap,_,e,E,E,h3,h4,by simpa using h5,by simpa using h6,?_⟩));intro i w hi;rw [List.getElem?_set] at hi ⊢;by_cases hij:j=i
    . subst hij;simp only [if_true] at hi ⊢;simp at hi h6;rw [if_pos (by omega)];rw [<- hi.2]
    . rw [if_neg hij] at hi;rw [if_neg (by omega)];exact h7 i w hi
section call
variable{C:Cx}{l:Env}{M J:Mem}{K:Env->Mem->Mem->Prop}{d:Nat}{ty:TypeId}{pos:String}{af:Array Edge}{g:Option (Nat×Bool)}{x:Operand}{f:FuncId}{xs:List Operand}{us vs cs:List Value}{ts:Array TypeId}
end call
end Go.Px

namespace Go.Proofs.YtgpjndfgjjlhaaaGreatDoor
open Go.Px
def pSt(P:Pt)(n i:Nat)(Q:Pt):Pt:=if n/2^i%2=1 then A8q d2N (A8q d2N Q Q) P else A8q d2N Q Q
def itr(f:Nat->Pt->Pt)(z:Pt):Nat->Pt
  | 0=>z
  | k+1=>f k (itr f z k)
theorem B7g(f:Nat->Pt->Pt)(z:Pt)(k:Nat):itr f z (k+1)=f k (itr f z k):=rfl
def pTk(P:Pt)(n:Nat)(k:Nat):Pt:=itr (λk Q=>pSt P n (255-k) Q) pO k
theorem B7h(P:Pt)(n:Nat):pTk P n 0=pO:=rfl
theorem B7i(P:Pt)(n k:Nat):pTk P n (k+1)=pSt P n (255-k) (pTk P n k):=B7g _ _ _
def A05(P:Pt)(n:Nat):Pt:=pTk P n 256
variable{P:Pt}{n i:Nat}
theorem B3H{Q:Pt}(h:n/2^i%2=1):pSt P n i Q=A8q d2N (A8q d2N Q Q) P:=if_pos h
theorem B3I{Q:Pt}(h:¬n/2^i%2=1):pSt P n i Q=A8q d2N Q Q:=if_neg h
theorem tk1(h:i<256):256-i=(256-(i+1))+1:=by omega
theorem tk2(h:i<256):255-(256-(i+1))=i:=by omega
theorem tk3(h:i<256):pTk P n (256-i)=pTk P n ((256-(i+1))+1):=congrArg (pTk P n) (tk1 h)
theorem tk4:pTk P n ((256-(i+1))+1)=pSt P n (255-(256-(i+1))) (pTk P n (256-(i+1))):=B7i P n _
theorem tk5(h:i<256):pSt P n (255-(256-(i+1))) (pTk P n (256-(i+1)))=pSt P n i (pTk P n (256-(i+1))):=congrArg (λj=>pSt P n j (pTk P n (256-(i+1)))) (tk2 h)
theorem A9U(h:i<256):pTk P n (256-i)=pSt P n i (pTk P n (256-(i+1))):=(tk3 h).trans (tk4.trans (tk5 h))
def pB(P:Pt):LN :=
  if fM P.X (fI P.Z)%2=1 then (A07 8 32 (fM P.Y (fI P.Z)) 255).set 31 ((A07 8 32 (fM P.Y (fI P.Z)) 255).getD 31 0 ||| 128) else A07 8 32 (fM P.Y (fI P.Z)) 255
theorem B8R(P:Pt):(pB P).length=32:=by unfold pB;split<;>simp [P6]
theorem C5j{x:Nat}(h:x<256):(x ||| 128)<256:=Nat.or_lt_two_pow (n:=8) h qD
theorem B7j(P:Pt):∀x∈pB P,x<256:=by
  intro x hx;unfold pB at hx;split at hx
  . rcases Bf hx with h|rfl
    . exact A1d _ _ x h
    . exact C5j (getD_lt (A1d _ _) qD)
  . exact A1d _ _ x hx
theorem A70{k:IntKind}{a b:LN}(h:nums k a=nums k b):a=b:=by
  unfold nums at h
  induction a generalizing b with
  | nil=>cases b with
    | nil=>rfl
    | cons y b=>simp at h
  | cons x a ih=>cases b with
    | nil=>simp at h
    | cons y b =>
      simp only [List.map_cons,List.cons.injEq,Value.int.injEq,true_and] at h;rw [ih h.2,Int.ofNat.inj h.1]
theorem B05{a b:LN}(h:Value.agg (nums .u64 a).toArray=.agg (nums .u64 b).toArray):b=a:=by
  have h1:nums .u64 a=nums .u64 b:=by simpa using h
  exact (A70 h1).symm
theorem A6H(V:Value)(P:Pt)(es:LN)(hP:FeP V P)(hes:es.length=32)(he256:∀y∈es,y<256)(A:Mem):FnX prog 113 [V,.agg (nums .u8 es).toArray] [] A λr M J=>M=[]∧J=[]∧FeP r (A05 P (bv es)):=by
 have hP0:=hP;obtain ⟨xsp,rfl,p0,p1,p2,p3,p4,p5,p6,p7,p8,p9,p10,p11,p12,p13,p14,p15,p16,p17,p18,p19,rfl,hpX,hpY,hpZ,hpT⟩:=hP;dsimp only [nums,List.map];refine Cn (N:=34) func113 E E E λw=>?_;refine A8 (D0 0 1) (A1 ?_);refine A2 E (bx_ λb2=>?_);refine A2 E (bx_ λb3=>?_);refine A2 E (C3 (cs:=[C0,C0,C0,C0,C0,C0,C0,C0,C0,C0,C0,C0,C0,C0,C0,C0,C0,C0,C0,C0]) kR E λb4=>?_);refine A0 (D5 2 3 4) (A1 ?_);refine C6 a0 kR (B7e _) E ?_;rintro r1 M1 J1 ⟨rfl,rfl,hO⟩;have hO0:=hO;obtain ⟨xso,rfl,o0,o1,o2,o3,o4,o5,o6,o7,o8,o9,o10,o11,o12,o13,o14,o15,o16,o17,o18,o19,rfl,hoX,hoY,hoZ,hoT⟩:=hO;dsimp only [nums,List.map];refine C6 (aS E a0) kR (A1q 2 qD _) E ?_;rintro rw2 Mw2 Jw2 ⟨rfl,rfl,kw2⟩;have hw2:=kw2;obtain ⟨aw2,bw2,cw2,dw2,ew2,rfl,-⟩:=kw2;refine C6 a0 kR (A8P _) E ?_;rintro rw3 Mw3 Jw3 ⟨rfl,rfl,kw3⟩;have hw3:=kw3;obtain ⟨aw3,bw3,cw3,dw3,ew3,rfl,-⟩:=kw3;refine C6 (aS E (aS E a0)) kR (U3 hw2 hw3 _) E ?_;rintro rd Md Jd ⟨rfl,rfl,kd⟩;rw [C3a] at kd;have hd:=kd;obtain ⟨ad,bd,cd,dd,ed,rfl,-⟩:=kd;refine A2 E (C3 (cs:=[C0,C0,C0,C0,C0,C0,C0,C0,C0,C0,C0,C0,C0,C0,C0,C0,C0,C0,C0,C0]) kR E λb5=>?_);refine A2 E (C3 (cs:=[C0,C0,C0,C0,C0]) kR E λb6=>?_);refine A2 E (A5 E E Cf kR A33 A34 Cv ?_);refine A2 E (A5 E E Cf kR ln5 al5 Cv ?_);refine A0 (E9 2 3 4 5 6) (A3 (A1 (as_ (A0 (G9 2 3 4 5 6 7) (A6 ?_)))));refine A0X (M':=[(b6,blk [.int .u64 (ad:Int),.int .u64 (bd:Int),.int .u64 (cd:Int),.int .u64 (dd:Int),.int .u64 (ed:Int)] 193),(b5,blk (nums .u64 [o0,o1,o2,o3,o4,o5,o6,o7,o8,o9,o10,o11,o12,o13,o14,o15,o16,o17,o18,o19]) 195),(b4,blk [C0,C0,C0,C0,C0,C0,C0,C0,C0,C0,C0,C0,C0,C0,C0,C0,C0,C0,C0,C0] 195),(b3,blk (nums .u8 es) 198),(b2,blk [.int .u64 (p0:Int),.int .u64 (p1:Int),.int .u64 (p2:Int),.int .u64 (p3:Int),.int .u64 (p4:Int),.int .u64 (p5:Int),.int .u64 (p6:Int),.int .u64 (p7:Int),.int .u64 (p8:Int),.int .u64 (p9:Int),.int .u64 (p10:Int),.int .u64 (p11:Int),.int .u64 (p12:Int),.int .u64 (p13:Int),.int .u64 (p14:Int),.int .u64 (p15:Int),.int .u64 (p16:Int),.int .u64 (p17:Int),.int .u64 (p18:Int),.int .u64 (p19:Int)] 195)]) (Cg E) qI ?_
 refine E0 (α:=Nat×LN) (λy=>[(2,(vP b2)),(3,(vP b3)),(4,(vP b4)),(5,(vP b5)),(6,(vP b6)),(7,.int .i64 ((y.1:Int)-1))]) (λy=>[(b6,blk [.int .u64 (ad:Int),.int .u64 (bd:Int),.int .u64 (cd:Int),.int .u64 (dd:Int),.int .u64 (ed:Int)] 193),(b5,blk (nums .u64 y.2) 195),(b4,blk [C0,C0,C0,C0,C0,C0,C0,C0,C0,C0,C0,C0,C0,C0,C0,C0,C0,C0,C0,C0] 195),(b3,blk (nums .u8 es) 198),(b2,blk [.int .u64 (p0:Int),.int .u64 (p1:Int),.int .u64 (p2:Int),.int .u64 (p3:Int),.int .u64 (p4:Int),.int .u64 (p5:Int),.int .u64 (p6:Int),.int .u64 (p7:Int),.int .u64 (p8:Int),.int .u64 (p9:Int),.int .u64 (p10:Int),.int .u64 (p11:Int),.int .u64 (p12:Int),.int .u64 (p13:Int),.int .u64 (p14:Int),.int .u64 (p15:Int),.int .u64 (p16:Int),.int .u64 (p17:Int),.int .u64 (p18:Int),.int .u64 (p19:Int)] 195)]) (λ_=>[]) (λy=>y.1<=256∧FeP (.agg (nums .u64 y.2).toArray) (pTk P (bv es) (256-y.1))) (λy=>y.1) (256,[o0,o1,o2,o3,o4,o5,o6,o7,o8,o9,o10,o11,o12,o13,o14,o15,o16,o17,o18,o19]) ⟨Av _,by show FeP _ (pTk P (bv es) (256-256));rw [Nat.sub_self,B7h];exact hO0⟩ (G9 2 3 4 5 6 7) .rfl qI ?_;clear hO0 hoX hoY hoZ hoT;rintro ⟨j,zs⟩ ⟨hj,ho⟩;dsimp only at hj ho ⊢;have ho0:=ho;obtain ⟨zs_,e_,z0,z1,z2,z3,z4,z5,z6,z7,z8,z9,z10,z11,z12,z13,z14,z15,z16,z17,z18,z19,rfl,hzX,hzY,hzZ,hzT⟩:=ho;obtain rfl:=B05 e_;refine A3 (A1 (mV_ E (lQ_ (E3 E E E) (A0 (N1 2 3 4 5 6 7 13) ?_))));refine C2 E ?_ ?_<;>intro hc
 .
  have hj0:0<j:=by simp at hc;omega
  obtain ⟨i,rfl⟩:∃i,j=i+1:=⟨j-1,by omega⟩
  rw [show (((i+1:Nat):Int)-1)=(i:Int) by omega];have hts:=A9U (P:=P) (n:=bv es) (show i<256 by omega);have hbit:=A7X he256 i;have hpb:es.getD (i/8) 0<256:=getD_lt he256 qD;refine A4 (nx (G9 2 3 4 5 6 7) (A3 (A6 (A1 ?_))));refine lQ_ (qw_ 20) ?_;refine lQ_ (qw_ 20) ?_;refine lQ_ (qw_ 5) ?_;refine C6 (aS E (aS E (aS E a0))) kR (B3z _ _ _ _ _ d2N ho0 ho0 hd _) E ?_;rintro r5 M5 J5 ⟨rfl,rfl,k5⟩;have h5:=k5;obtain ⟨xss,rfl,s0,s1,s2,s3,s4,s5,s6,s7,s8,s9,s10,s11,s12,s13,s14,s15,s16,s17,s18,s19,rfl,hsX,hsY,hsZ,hsT⟩:=k5;dsimp only [nums,List.map];refine A2 E (A5 E E Cf kR A33 A34 Cv ?_);refine A0 (G9 2 3 4 5 6 7) (A1 (mv_ ?_));refine lQ_ (A1A 8 E E E qD (A2E qO)) ?_;refine lQ_ (F7 (e:=5) (n:=32) (sz:=1) (i:=i/8) E E kR kR E qO) ?_;refine lQ_ (H9 (i/8) E kR Ce qO qO) ?_;refine mv_ ?_;refine lQ_ (A1B 8 E E E qD) ?_;refine lQ_ (A3H (a:=es.getD (i/8) 0) (b:=i%8) E E E E (by show _<=8;omega)) ?_;refine lQ_ (hbit▸N4 1 2 E E E E E (by show _<256;exact Be (Nat.div_le_self _ _) hpb) qD) ?_;refine lQ_ (E3 E E E) (A0 (N1 2 3 4 5 6 7 28) ?_);refine C2 E ?_ ?_<;>intro hc
  .
   have hb1:bv es/2^i%2=1:=by revert hc;generalize bv es/2^i%2=z;intro hc;simp at hc;omega
   rw [B3H hb1] at hts;refine C1 ?_;refine lQ_ (qw_ 20) ?_;refine lQ_ (qw_ 20) ?_;refine lQ_ (qw_ 5) ?_;refine C6 (aS E (aS E (aS E a0))) kR (B3z _ _ _ _ _ d2N h5 hP0 hd _) E ?_;rintro r7 M7 J7 ⟨rfl,rfl,k7⟩;rw [<- hts] at k7;have h7:=k7;obtain ⟨xst,rfl,t0,t1,t2,t3,t4,t5,t6,t7,t8,t9,t10,t11,t12,t13,t14,t15,t16,t17,t18,t19,rfl,htX,htY,htZ,htT⟩:=k7;dsimp only [nums,List.map];refine A2 E (A5 E E Cf kR A33 A34 Cv ?_);refine C5 (nb (nx (G9 2 3 4 5 6 7) (C1 (mv_ ?_))));refine lQ_ (D2 ((i:Int)-1) E E (V6 E qO qO)) ?_;refine as_ (C5 ?_);exact rn (i,[t0,t1,t2,t3,t4,t5,t6,t7,t8,t9,t10,t11,t12,t13,t14,t15,t16,t17,t18,t19]) ⟨by dsimp only;omega,h7⟩ (by dsimp only;omega) (G9 2 3 4 5 6 7) (Cg E) qI
  .
   have hb1:¬bv es/2^i%2=1:=by revert hc;generalize bv es/2^i%2=z;intro hc;simp at hc;omega
   rw [B3I hb1] at hts;refine A4 (nb (nx (G9 2 3 4 5 6 7) (C1 (mv_ ?_))));refine lQ_ (D2 ((i:Int)-1) E E (V6 E qO qO)) ?_;refine as_ (C5 ?_);exact rn (i,[s0,s1,s2,s3,s4,s5,s6,s7,s8,s9,s10,s11,s12,s13,s14,s15,s16,s17,s18,s19]) ⟨by dsimp only;omega,by dsimp only;rw [hts];exact h5⟩ (by dsimp only;omega) (G9 2 3 4 5 6 7) (Cg E) qI
 .
  have hj0:j=0:=by simp at hc;omega
  subst hj0;refine D6 (te (re (be E (nx (D0 4 5) (A1 ?_)))));refine lQ_ (qw_ 20) ?_;refine A2 E (A5 E E Cf kR A33 A34 Cv ?_);refine A0 (D1 4) (A9 ?_);exact ⟨_,[],[],A1l E E kR Ce qR,Aa _,by simp,E,E,ho0⟩
theorem A6I(V:Value)(P:Pt)(hP:FeP V P)(A:Mem):FnX prog 112 [V] [] A λr M J=>J=[]∧Sl 1 r 32 (nums .u8 (pB P)) M:=by
 obtain ⟨xsp,rfl,p0,p1,p2,p3,p4,p5,p6,p7,p8,p9,p10,p11,p12,p13,p14,p15,p16,p17,p18,p19,rfl,hpX,hpY,hpZ,hpT⟩:=hP;dsimp only [nums,List.map];refine Cn (N:=24) func112 E E E λw=>?_;refine A8 (D1 0) (A1 ?_);refine A2 E (bx_ λb1=>?_);refine aS_ E (A0 (D1 1) (A1 (lQ_ (qf_ 10 10) ?_)));refine lQ_ (H7 (n:=5) E kR (by first|exact Ce|exact mA (by assumption)) Cu) ?_;refine C6 (aS E a0) kR (B3y hpZ _) E ?_;rintro r3 M3 J3 ⟨rfl,rfl,k3⟩;have h3:=k3;obtain ⟨a3,b3,c3,d3,e3,rfl,-⟩:=k3;refine A2 E (C3 (cs:=[C0,C0,C0,C0,C0]) kR E λb3=>?_);refine A2 E (A5 E E Cf kR ln5 al5 Cv ?_);refine A0 (D0 1 3) (A1 (lQ_ (qf_ 5 5) ?_));refine lQ_ (H7 (n:=5) E kR (by first|exact Ce|exact mA (by assumption)) Cu) ?_;refine lQ_ (qw_ 5) ?_;refine C6 (aS E (aS E a0)) kR (U3 hpY h3 _) E ?_;rintro r4 M4 J4 ⟨rfl,rfl,k4⟩;have h4:=k4;obtain ⟨a4,b4,c4,d4,e4,rfl,-⟩:=k4;refine C6 (aS E a0) kR (A0C _ _ h4 _) E ?_;rintro v12 M12 J12 ⟨rfl,hs12⟩;haveI:=hs12.cel;have hpl:=P6 8 32 (fM P.Y (fI P.Z)) 255;have hpt:=A1d (fM P.Y (fI P.Z)) 255;refine aS_ E (A0 (D5 1 3 4) (A3 (A1 (lQ_ (qf_ 0 0) ?_))));refine lQ_ (H7 (n:=5) E kR (by first|exact Ce|exact mA (by assumption)) Cu) ?_;refine lQ_ (qw_ 5) ?_;refine C6 (aS E (aS E a0)) kR (U3 hpX h3 _) E ?_;rintro r5 M5 J5 ⟨rfl,rfl,k5⟩;have h5:=k5;obtain ⟨a5,b5,c5,d5,e5,rfl,-⟩:=k5;refine D8 (aS E a0) kR (A4O _ _ h5 _) E ?_;refine A0 (D0 4 17) ?_;refine C2 E ?_ ?_<;>intro hc
 .
  have ho:fM P.X (fI P.Z)%2=1:=by simpa using hc
  refine C1 (mv_ ?_);refine lQ_ (G4 (sz:=1) (a:=31) E E kR E (hs12.rd (R:=M12) λ_ h=>h) qD) ?_;refine lQ_ (Z8 (j:=31) (u:=.int .u8 (((A07 8 32 (fM P.Y (fI P.Z)) 255).getD 31 0:Nat):Int)) (hs12.rd qS) E kR (W2 (by rw [hpl];decide))) ?_;refine lQ_ (B6k (b:=128) E E E (by show _<256;exact getD_lt hpt qD) qD) ?_;refine lQ_ (G4 (sz:=1) (a:=31) E E kR E (hs12.rd (R:=M12) λ_ h=>h) qD) ?_;refine A2 E (C5i hs12 E E E kR qD qP λB9 hs9=>?_);refine A0 (D1 4) (A1 (mv_ (as_ (A0 (D1 2) (A9 ?_)))));exact ⟨_,B9,[],H2 E E,Ay _ _,by simp,E,by unfold pB;rw [if_pos ho];show Sl 1 v12 32 (nums .u8 _) B9;rw [A6c];exact hs9⟩
 .
  have ho:¬fM P.X (fI P.Z)%2=1:=by simpa using hc
  refine A4 (nx (D1 4) (A1 (mv_ (as_ (A0 (D1 2) (A9 ?_))))));exact ⟨_,M12,[],H2 E E,Ay _ _,by simp,E,by unfold pB;rw [if_neg ho];exact hs12⟩

end Go.Proofs.YtgpjndfgjjlhaaaGreatDoor
namespace Go.Px
open Go Go.ChangeShapes Go.WideShapes Go.RowKit
section results
variable{P:Program}{fn:Func}{l:Env}{R:Mem}
theorem C5k{t0 t1 t2 t3 b0 b1 b2 b3 n:Nat}{ty:TypeId}{c0 c1 c2 c3:List Value}{e0 e1 e2 e3:TypeId}{f0 f1 f2 f3:Nat×Nat}(h:fn.results=#[.cell t0 ty,.cell t1 ty,.cell t2 ty,.cell t3 ty])
    (h0:lk l t0=some (.pointer (some ⟨b0,0,none⟩))) (h1:lk l t1=some (.pointer (some ⟨b1,0,none⟩))) (h2:lk l t2=some (.pointer (some ⟨b2,0,none⟩))) (h3:lk l t3=some (.pointer (some ⟨b3,0,none⟩))) (ht:A59 P ty=some n)
    (m0:(b0,Obj.cells c0.toArray e0 f0)∈R) (m1:(b1,Obj.cells c1.toArray e1 f1)∈R) (m2:(b2,Obj.cells c2.toArray e2 f2)∈R) (m3:(b3,Obj.cells c3.toArray e3 f3)∈R) (n0:c0.length=n) (n1:c1.length=n) (n2:c2.length=n) (n3:c3.length=n):Res P fn l R (.tuple #[.agg c0.toArray,.agg c1.toArray,.agg c2.toArray,.agg c3.toArray]):=λN a w ha hw=>by
  obtain ⟨dsc,g1,g2,g3⟩:=R5 ht;have hk:∀(b:Nat) (cs:List Value) (e:TypeId) (fr:Nat×Nat),(b,Obj.cells cs.toArray e fr)∈R->cs.length=n->_:=λb cs e fr hb hn=>run_loadVar_row (P:=P) w b e ty cs.toArray fr dsc (hw b _ hb) g1 (by cases dsc<;>simp_all [TypeDesc.isRow]) (by rw [g3,<- hn];simp);have k0:=hk _ _ _ _ m0 n0;have k1:=hk _ _ _ _ m1 n1;have k2:=hk _ _ _ _ m2 n2;have k3:=hk _ _ _ _ m3 n3;simp [results,h,ha.slot t0 _ h0,ha.slot t1 _ h1,ha.slot t2 _ h2,ha.slot t3 _ h3,asAddr,k0,k1,k2,k3]
end results
end Go.Px

namespace Go.Px
theorem B8S(n:Nat):xp n=2^(32*n):=by rw [xp,Nat.pow_mul]
variable{ws:List Nat}
theorem B3J(h:w32 ws)(i:Nat):nv ws/xp i%4294967296=ws.getD i 0:=by
  induction ws generalizing i with
  | nil=>simp [nv]
  | cons b r ih =>
    have h1:=h b (by simp)
    cases i with
    | zero=>simp only [nv,xp0,Nat.div_one,List.getD_cons_zero];omega
    | succ i =>
      rw [List.getD_cons_succ,<- ih (λx hx=>h x (by simp [hx])) i,xpS,Nat.mul_comm,<- Bw];congr 2;simp only [nv];omega
def P7(x n:Nat):List Nat:=(List.range n).map λi=>x/256^i%256
theorem L9(x n:Nat):(P7 x n).length=n:=by simp [P7]
theorem A6J(x n:Nat):∀y∈P7 x n,y<256:=λy hy=>by simp only [P7,List.mem_map] at hy;obtain ⟨i,_,rfl⟩:=hy;exact Ad _ (by decide)
theorem B3K(x n:Nat):P7 x (n+1)=P7 x n++[x/256^n%256]:=by simp [P7,List.range_succ]
theorem C0u(x n:Nat):bv (P7 x n)=x%256^n:=by have:=A20 x n;rw [show (256:Nat)^n=2^(8*n) by rw [Nat.pow_mul],<- this];congr 1;unfold P7;apply Bv;intro j _;rw [Nat.pow_mul]
theorem B3L(h:w32 ws)(i:Nat):ws.getD (i/4) 0/2^(8*(i%4))%256=nv ws/256^i%256:=by
  rw [<- B3J h,show (256:Nat)^i=2^(8*i) by rw [Nat.pow_mul],B8S,show (4294967296:Nat)=2^(8*(i%4))*2^(32-8*(i%4)) by rw [<- Nat.pow_add,show 8*(i%4)+(32-8*(i%4))=32 by omega],Nat.mod_mul_right_div_self,
    show (2:Nat)^(32-8*(i%4))=256*2^(24-8*(i%4)) by rw [show (256:Nat)=2^8 from rfl,<- Nat.pow_add];congr 1;omega,Nat.mod_mul_right_mod,Bw,<- Nat.pow_add]
  congr 3;omega
theorem B7k(h:w32 ws)(i:Nat):ws.getD (i/32) 0/2^(i%32)%2=nv ws/2^i%2:=by
  rw [<- B3J h,B8S,show (4294967296:Nat)=2^(i%32)*2^(32-i%32) by rw [<- Nat.pow_add,show i%32+(32-i%32)=32 by omega],Nat.mod_mul_right_div_self,
    show (2:Nat)^(32-i%32)=2*2^(31-i%32) by rw [<- Nat.pow_succ'];congr 1;omega,Nat.mod_mul_right_mod,Bw,<- Nat.pow_add]
  congr 3;omega
variable{i:Nat}
theorem B3M(h:ws.length<=i):ws.getD i 0=0:=by simp [List.getD,List.getElem?_eq_none h]
theorem A0j(ws:List Nat)(j:Nat):nv (ws.take (j+1))=nv (ws.take j)+xp j*ws.getD j 0:=by
  by_cases h:j<ws.length
  . exact A1x h
  . rw [B3M (by omega),Aw (by omega),Aw (by omega),Nat.mul_zero,Nat.add_zero]
variable{o a b:List Nat}{c:Nat}
theorem B3N{x:Nat}(hl:o.length=i)(h:nv o+xp i*c=nv (a.take i)+nv (b.take i))(hx:x=c+a.getD i 0+b.getD i 0) :
    nv (o++[x%4294967296])+xp (i+1)*(x/4294967296)=nv (a.take (i+1))+nv (b.take (i+1)):=by
  rw [A2I,hl,A0j,A0j,xpS]
  have e:xp i*(x%4294967296)+xp i*4294967296*(x/4294967296)=xp i*x:=by rw [Nat.mul_assoc,<- Nat.mul_add,Nat.mod_add_div]
  have e2:xp i*x=xp i*c+xp i*a.getD i 0+xp i*b.getD i 0:=by rw [hx,Nat.mul_add,Nat.mul_add]
  simp only [nv,Nat.mul_zero,Nat.add_zero];omega
theorem B06(ws:List Nat)(n:Nat):nv (ws.take n)<=nv ws:=by
  by_cases h:n<=ws.length
  . rw [A30 ws n h];omega
  . rw [Aw (by omega)];exact Av _
theorem B3O{c' d:Nat}(hl:o.length=i)(h:nv o+nv (b.take i)=nv (a.take i)+xp i*c)(hd:d+b.getD i 0+c=a.getD i 0+4294967296*c') :
    nv (o++[d])+nv (b.take (i+1))=nv (a.take (i+1))+xp (i+1)*c':=by
  rw [A2I,hl,A0j,A0j,xpS]
  have e:xp i*d+xp i*b.getD i 0+xp i*c=xp i*a.getD i 0+xp i*4294967296*c':=by rw [<- Nat.mul_add,<- Nat.mul_add,hd,Nat.mul_add,Nat.mul_assoc]
  simp only [nv,Nat.mul_zero,Nat.add_zero];omega
theorem B7l(hl:o.length=a.length)(ho:w32 o)(ha:w32 a)(h:nv o+nv (b.take a.length)=nv (a.take a.length)+xp a.length*c)(hle:nv b<=nv a):nv o=nv a-nv b:=by
  have h1:=B6r ho;have h2:=B6r ha;have h3:=B06 b a.length;rw [List.take_length] at h;rw [hl] at h1
  have hc:c=0:=by
    rcases Nat.eq_zero_or_pos c with h0|h0
    . exact h0
    . have:=Nat.le_mul_of_pos_right (xp a.length) h0;omega
  subst hc
  have h4:nv (b.take a.length)=nv b:=by
    by_cases hb:a.length<=b.length
    . have h5:=A30 b a.length hb
      have h6:nv (b.drop a.length)=0:=by
        rcases Nat.eq_zero_or_pos (nv (b.drop a.length)) with h0|h0
        . exact h0
        . have:=Nat.le_mul_of_pos_right (xp a.length) h0;omega
      rw [h6] at h5;omega
    . rw [Aw (by omega)]
  omega
end Go.Px

namespace Go.Proofs.YtgpjndfgjjlhaaaGreatDoor
open Go.Px
def B8T:LN:=[1559614445,1477600026,2734136534,350157278,0,0,0,268435456]
def lN:Nat:=7237005577332262213973186563042994240857116359379907606001950938285454250989
theorem B3P:nv B8T=lN:=by decide +kernel
theorem C3e:w32 B8T:=by unfold w32 B8T;decide
def Sc(v:Value)(n:Nat):Prop:=∃ws,v=.agg (nums .u32 ws).toArray∧ws.length=8∧w32 ws∧nv ws=n
theorem xp8:xp 8=115792089237316195423570985008687907853269984665640564039457584007913129639936:=by decide +kernel
variable{a b:LN}{i:Nat}
theorem C3f(h1:a.drop (i+1)=b.drop (i+1))(hi:i<a.length)(hj:i<b.length)(h2:a.getD i 0=b.getD i 0):a.drop i=b.drop i:=by rw [Aj,Ab hi,Aj,Ab hj] at h2;rw [Bu hi,Bu hj,h1];exact congrArg (·::_) h2
variable{o:LN}
theorem A9V(hl:o.length=i):(o++a.drop i).getD i 0=a.getD i 0:=by rw [Aj,Aq qO,List.getElem?_drop,Aj];congr 2;omega
theorem A6K{x:Nat}(hl:o.length=i)(hi:i<a.length):(o++a.drop i).set i x=(o++[x])++a.drop (i+1):=by rw [List.set_append_right _ _ qO,hl,Nat.sub_self,Bu hi,List.set_cons_zero,Ap];rfl
theorem A6L{n:Nat}(hl:o.length=i)(ha:a.length=n)(hi:i<=n):(o++a.drop i).length=n:=by rw [An,Bg];omega
theorem C0v{a b c:Nat}(ha:a<lN)(hb:b<lN)(h:c*xp 8<=a+b):c=0:=by
  rcases Nat.eq_zero_or_pos c with h0|h0
  . exact h0
  . have h1:=Nat.le_mul_of_pos_left (xp 8) h0;rw [xp8] at h1 h;unfold lN at ha hb;omega
theorem B07{x y c d e:Nat}(hx:x<4294967296)(hy:y<4294967296)(hc:c<=1)(hd:d=(x+(18446744073709551616-y))%18446744073709551616)(he:e=(d+(18446744073709551616-c))%18446744073709551616) :
    e%4294967296+y+c=x+4294967296*(e/9223372036854775808)∧e/9223372036854775808<=1:=by
  by_cases h:y+c<=x
  . have e1:e=x-y-c:=by omega
    have e2:e<4294967296:=by omega
    rw [Af e2,Nat.div_eq_of_lt qO];omega
  . have e1:e=18446744073709551616-(y+c-x):=by omega
    omega
variable{k:IntKind}
theorem C0w(x y:Nat):H8 .lss k (x:Int) (y:Int)=some (.bool (decide (x<y))):=by
  by_cases h:x<y
  . rw [decide_eq_true h];exact ltT qO
  . rw [decide_eq_false h];exact ltF qO
theorem C0x(ha:w32 a)(hb:w32 b)(hi:i<a.length)(hl:a.length=b.length)(hd:a.drop (i+1)=b.drop (i+1))(hne:a.getD i 0≠b.getD i 0):nv a<nv b↔a.getD i 0<b.getD i 0:=by
  constructor
  . intro h;rcases Nat.lt_or_gt_of_ne hne with h1|h1
    . exact h1
    . have:=A9v hb qO hl.symm h1 hd.symm;omega
  . intro h;exact A9v ha hi hl h hd
theorem A6M{n:Nat}(h:n<18446744073709551616):IntKind.u64.wrap (n:Int)=(n:Int):=A3X qO qO
theorem C0y(A:Mem):FnV prog 149 [] A (.agg (nums .u32 B8T).toArray):=by refine Cn (N:=2) func149 E E E λw=>?_;refine A8 kn (A1 ?_);refine A2 E (C3 (cs:=[D3,D3,D3,D3,D3,D3,D3,D3]) kR E λb0=>?_);refine A0 (D1 0) (A1 ?_);refine lQ_ (E6 (place:=λi=>some (i*1,1)) (z:=[D3,D3,D3,D3,D3,D3,D3,D3]) (λ_=>by kernel_rfl) (eS E (eS E (eS E (eS E (eS E (eS E (eS E (eS E e0)))))))) (bdS 0 1 E qR (bdS 1 1 E qR (bdS 2 1 E qR (bdS 3 1 E qR (bdS 4 1 E qR (bdS 5 1 E qR (bdS 6 1 E qR (bdS 7 1 E qR bd0))))))))) ?_;refine A2 E (A5 E E Cf kR ln8 al8 Cv ?_);refine A0 (D1 0) (A9 ?_);exact ⟨_,[],[],A1l E E kR Ce qR,Aa _,by simp,E,E,E⟩
theorem C3g(v u:Value)(x y:Nat)(hv:Sc v x)(hu:Sc u y)(A:Mem):FnV prog 150 [v,u] A (.bool (decide (x<y))):=by
 obtain ⟨a,rfl,a8,a32,rfl⟩:=hv;obtain ⟨b,rfl,b8,b32,rfl⟩:=hu;refine Cn (N:=24) func150 E E E λw=>?_;refine A8 (D0 0 1) (A1 ?_);refine A2 E (bx_ λb2=>?_);refine A2 E (bx_ λb3=>?_);refine as_ (A0 (D0 2 3) (A3 (A1 (as_ (A0 (D5 2 3 5) (A6 ?_))))));refine E0 (α:=Nat) (λj=>[(2,(vP b2)),(3,(vP b3)),(5,.int .i64 ((j:Int)-1))]) (λ_=>[(b3,blk (nums .u32 b) 189),(b2,blk (nums .u32 a) 189)]) (λ_=>[]) (λj=>j<=8∧a.drop j=b.drop j) (λj=>j) 8 ⟨Av _,by rw [Bx qO,Bx qO]⟩ (D5 2 3 5) .rfl qI ?_;rintro j ⟨hj,hd⟩;refine A3 (A1 (mV_ E (lQ_ (E3 E E E) (A0 (D7 2 3 5 7) ?_))));refine C2 E ?_ ?_<;>intro hc
 .
  have hj0:0<j:=by simp at hc;omega
  obtain ⟨i,rfl⟩:∃i,j=i+1:=⟨j-1,by omega⟩
  rw [show (((i+1:Nat):Int)-1)=(i:Int) by omega];refine A4 (nx (D5 2 3 5) (A3 (A6 ?_)));refine C9 (.range 7) (zp 0 [0,0,1,0,0,1,0]) kR kR λhs=>?_;refine fm_ ?_;refine fQ_ E (F7 (e:=40) (n:=8) (sz:=1) (i:=i) E E kR kR E qO) ?_;refine fR_ E (H9 (i) E kR Ce qO (by first|omega|(rw [a8];omega))) ?_;refine fm_ ?_;refine fQ_ E (F7 (e:=40) (n:=8) (sz:=1) (i:=i) E E kR kR E qO) ?_;refine fR_ E (H9 (i) E kR Ce qO (by first|omega|(rw [b8];omega))) ?_;refine fQ_ E (E3 E E E) (E4 (D7 2 3 5 16) ?_);refine C2 E ?_ ?_<;>intro hc
  .
   have hne:a.getD i 0≠b.getD i 0:=by simp at hc ⊢;omega
   refine C9 (.range 8) (zp 0 [0,0,1,0,0,1,0,0]) kR kR λhs=>?_;refine fm_ ?_;refine fQ_ E (F7 (e:=40) (n:=8) (sz:=1) (i:=i) E E kR kR E qO) ?_;refine fR_ E (H9 (i) E kR Ce qO (by first|omega|(rw [a8];omega))) ?_;refine fm_ ?_;refine fQ_ E (F7 (e:=40) (n:=8) (sz:=1) (i:=i) E E kR kR E qO) ?_;refine fR_ E (H9 (i) E kR Ce qO (by first|omega|(rw [b8];omega))) ?_;refine fQ_ E (F6 (decide (a.getD i 0<b.getD i 0)) E E (C0w _ _)) (fA_ E E (E4 (D1 4) (A9 (br (tr (rr (br (tr ?_))))))));exact ⟨_,[],[],H2 E E,Aa _,by simp,by rw [show decide (nv a<nv b)=decide (a.getD i 0<b.getD i 0) from decide_eq_decide.2 (C0x a32 b32 qO qO hd hne)],E,E⟩
  .
   have hne:a.getD i 0=b.getD i 0:=by simp at hc ⊢;omega
   refine A4 (nb (nx (D5 2 3 5) (C1 (mv_ ?_))));refine lQ_ (D2 ((i:Int)-1) E E (V6 E qO qO)) ?_;refine as_ (C5 ?_);exact rn i ⟨by omega,C3f hd qO qO hne⟩ qO (D5 2 3 5) .rfl qI
 .
  have hj0:j=0:=by simp at hc;omega
  subst hj0;rw [List.drop_zero,List.drop_zero] at hd;refine D6 (te (re (be E (nx kn (A1 (aS_ E (A0 (D1 4) (A9 ?_))))))));exact ⟨_,[],[],H2 E E,Aa _,by simp,by rw [hd,decide_eq_false (Nat.lt_irrefl _)],E,E⟩
theorem A71(v u:Value)(x y:Nat)(hv:Sc v x)(hu:Sc u y)(hx:x<lN)(hy:y<lN)(A:Mem):FnX prog 119 [v,u] [] A λr M J=>M=[]∧J=[]∧Sc r ((x+y)%lN):=by
 obtain ⟨a,rfl,a8,a32,rfl⟩:=hv;obtain ⟨b,rfl,b8,b32,rfl⟩:=hu;refine Cn (N:=58) func119 E E E λw=>?_;refine A8 (D0 0 1) (A1 ?_);refine A2 E (bx_ λb2=>?_);refine A2 E (bx_ λb3=>?_);refine A2 E (C3 (cs:=[D3,D3,D3,D3,D3,D3,D3,D3]) kR E λb4=>?_);refine A0 (D5 2 3 4) (A1 (aS_ E (A0 (D7 2 3 4 5) (A3 (A1 (mV_ E (A0 (E9 2 3 4 5 10) (A6 ?_))))))));refine E0 (α:=Nat×LN×Nat) (λx=>[(2,(vP b2)),(3,(vP b3)),(4,(vP b4)),(5,.int .u64 (x.2.2:Int)),(10,.int .i64 (x.1:Int))]) (λx=>[(b4,blk [D3,D3,D3,D3,D3,D3,D3,D3] 189),(b3,blk (nums .u32 b) 189),(b2,blk (nums .u32 (x.2.1++a.drop x.1)) 189)]) (λ_=>[]) (λx=>x.1<=8∧x.2.1.length=x.1∧w32 x.2.1∧x.2.2<=1∧nv x.2.1+xp x.1*x.2.2=nv (a.take x.1)+nv (b.take x.1)) (λx=>8-x.1) ⟨0,[],0⟩ ⟨Am _,rfl,(λx hx=>by cases hx),by decide,rfl⟩ (E9 2 3 4 5 10) .rfl qI ?_;rintro ⟨i,o,c⟩ ⟨hi,hol,ho32,hc1,hnv⟩;dsimp only at hi hol ho32 hc1 hnv ⊢;refine A1 (lQ_ (E3 E E E) (A0 (G9 2 3 4 5 10 11) (A3 ?_)));refine C2 E ?_ ?_<;>intro hc
 .
  have hlt:i<8:=by simp at hc;omega
  have hpl:=A6L (o:=o) (a:=a) hol a8 hi;have hpg:=A9V (a:=a) hol;have hps:=λx=>A6K (x:=x) hol (show i<a.length by omega);have hst:=B3N (x:=c+(a.getD i 0+b.getD i 0)) hol hnv qO;have ha0:=a32.get i;have hb0:=b32.get i;refine A4 (nx (E9 2 3 4 5 10) (A3 (A6 (A1 (mv_ (as_ (A0 (G9 2 3 4 5 6 10) ?_)))))));refine C9 (.range 12) (zp 0 [0,0,0,1,0,0,0,1,0,0,0,0]) kR kR λhs=>?_;refine fM_ E E (fm_ ?_);refine fQ_ E (F7 (e:=40) (n:=8) (sz:=1) (i:=i) E E kR kR E qO) ?_;refine fR_ E (hpg▸H9 i E kR Ce qO qO) ?_;refine fQ_ E (K2 (k':=.u64) (a.getD i 0) E kR (A6M qO)) ?_;refine fm_ ?_;refine fQ_ E (F7 (e:=40) (n:=8) (sz:=1) (i:=i) E E kR kR E qO) ?_;refine fR_ E (H9 (i) E kR Ce qO (by first|omega|(rw [b8];omega))) ?_;refine fQ_ E (K2 (k':=.u64) (b.getD i 0) E kR (A6M qO)) ?_;refine fQ_ E (A9x 18446744073709551616 (a:=a.getD i 0) (b:=b.getD i 0) E E E E E E qO) ?_;refine fQ_ E (A9x 18446744073709551616 (a:=c) (b:=a.getD i 0+b.getD i 0) E E E E E E qO) ?_;refine fA_ E E (E4 (G9 2 3 4 5 6 10) (A1 (mV_ E (mV_ E (lQ_ (A9t E kR) ?_)))));refine lQ_ (F7 (e:=40) (n:=8) (sz:=1) (i:=i) E E kR kR E qO) ?_;refine A2 E (K4 i E E kR qO qO Cv ?_);refine A0 (E9 2 3 4 5 10) (C1 (mv_ ?_));refine lQ_ (P4 32 4294967296 E E E E qD) ?_;refine as_ (C5 (nb (nx (E9 2 3 4 5 10) (C1 ?_))));refine lQ_ (D2 ((i+1:Nat):Int) E E (F5 qO qO qO)) ?_;refine mv_ (C5 ?_);exact rn ⟨i+1,o++[(c+(a.getD i 0+b.getD i 0))%4294967296],(c+(a.getD i 0+b.getD i 0))/4294967296⟩ ⟨by dsimp only;omega,by simp [hol],ho32.app (λx hx=>by rw [List.mem_singleton.1 hx];exact Ad _ qD),by dsimp only;omega,hst⟩ (by dsimp only;omega) (E9 2 3 4 5 10) (Cg (by rw [hps])) qI
 .
  have hge:i=8:=by simp at hc;omega
  subst hge;rw [Aw qO,Aw qO] at hnv;have hc0:=C0v hx hy (c:=c) (by rw [Nat.mul_comm];omega);subst hc0;rw [Nat.mul_zero,Nat.add_zero] at hnv;rw [Bx qO,List.append_nil];refine D6 (te (re (be E (nx (D0 2 4) (A1 ?_)))));refine D8 a0 kR (C0y _) E ?_;refine A2 E (C3 (cs:=[D3,D3,D3,D3,D3,D3,D3,D3]) kR E λb7=>?_);refine A2 E (A5 E E Cf kR ln8 al8 Cv ?_);refine A0 (D5 2 4 7) (A3 (A1 ?_));refine lQ_ (H0 (n:=8) (cs:=nums .u32 o) E kR Ce (by rw [nums_len];omega)) ?_;refine lQ_ (H0 (n:=8) (cs:=nums .u32 B8T) E kR Ce qR) ?_;refine D8 (aS E (aS E a0)) kR (C3g _ _ (nv o) lN ⟨o,E,hol,ho32,E⟩ ⟨B8T,E,E,C3e,B3P⟩ _) E ?_;refine A0 (D7 2 4 7 34) ?_;refine C2 E ?_ ?_<;>intro hc
  .
   have hlt:nv o<lN:=by simpa using hc
   refine A1 ?_;refine lQ_ (H0 (n:=8) (cs:=nums .u32 o) E kR Ce (by rw [nums_len];omega)) ?_;refine A2 E (A5 (vs:=nums .u32 o) E E E (by rw [nums_len,hol];kernel_rfl) (by rw [nums_len,hol];rfl) E7 Cv ?_);refine A0 (D1 4) (A9 (tr ?_));exact ⟨_,[],[],A1l (n:=8) E E kR Ce (by rw [nums_len];omega),Aa _,by simp,E,E,o,E,hol,ho32,by rw [hnv,Af qO]⟩
  .
   have hge:lN<=nv o:=by simpa using hc
   refine A4 (nx (D5 2 4 7) (A1 (aS_ E (A0 (D7 2 4 5 7) (A3 (A1 (mV_ E (A0 (E9 2 4 5 7 36) (A6 ?_)))))))));refine E0 (α:=Nat×LN×Nat) (λx=>[(2,(vP b2)),(4,(vP b4)),(5,.int .u64 (x.2.2:Int)),(7,(vP b7)),(36,.int .i64 (x.1:Int))]) (λx=>(b7,blk (nums .u32 B8T) 189)::[(b4,blk [D3,D3,D3,D3,D3,D3,D3,D3] 189),(b3,blk (nums .u32 b) 189),(b2,blk (nums .u32 (x.2.1++o.drop x.1)) 189)]) (λ_=>[]) (λx=>x.1<=8∧x.2.1.length=x.1∧w32 x.2.1∧x.2.2<=1∧nv x.2.1+nv (B8T.take x.1)=nv (o.take x.1)+xp x.1*x.2.2) (λx=>8-x.1) ⟨0,[],0⟩ ⟨Am _,rfl,(λx hx=>by cases hx),by decide,rfl⟩ (E9 2 4 5 7 36) .rfl qI ?_;rintro ⟨i,q,c⟩ ⟨hi,hql,hq32,hc1,hnw⟩;dsimp only at hi hql hq32 hc1 hnw ⊢;refine A1 (lQ_ (E3 E E E) (A0 (G9 2 4 5 7 36 37) (A3 ?_)));refine C2 E ?_ ?_<;>intro hc
   .
    have hlt:i<8:=by simp at hc;omega
    have hpl:=A6L (o:=q) (a:=o) hql hol hi;have hpg:=A9V (a:=o) hql;have hps:=λx=>A6K (x:=x) hql (show i<o.length by omega);have ha0:=ho32.get i;have hb0:=C3e.get i;have ho8:B8T.length=8:=rfl;have hsb:=B07 (c:=c) ha0 hb0 hc1 E rfl;generalize hdd:(o.getD i 0+(18446744073709551616-B8T.getD i 0))%18446744073709551616=dd at *;generalize hee:(dd+(18446744073709551616-c))%18446744073709551616=ee at *;have hst:=B3O hql hnw hsb.1;refine A4 (nx (E9 2 4 5 7 36) (A3 (A6 (A1 (mv_ (as_ (A0 (G9 2 4 5 7 8 36) ?_)))))));refine C9 (.range 12) (zp 0 [0,0,1,0,0,0,1,0,0,0,0,0]) kR kR λhs=>?_;refine fm_ ?_;refine fQ_ E (F7 (e:=40) (n:=8) (sz:=1) (i:=i) E E kR kR E qO) ?_;refine fR_ E (hpg▸H9 i E kR Ce qO qO) ?_;refine fQ_ E (K2 (k':=.u64) (o.getD i 0) E kR (A6M qO)) ?_;refine fm_ ?_;refine fQ_ E (F7 (e:=40) (n:=8) (sz:=1) (i:=i) E E kR kR E qO) ?_;refine fR_ E (H9 i E kR Ce qO qO) ?_;refine fQ_ E (K2 (k':=.u64) (B8T.getD i 0) E kR (A6M qO)) ?_;refine fQ_ E (hdd▸A2P 18446744073709551616 (a:=o.getD i 0) (b:=B8T.getD i 0) E E E E E E qO) ?_;refine fm_ ?_;refine fQ_ E (hee▸A2P 18446744073709551616 (a:=dd) (b:=c) E E E E E E qO) ?_;refine fA_ E E (E4 (G9 2 4 7 8 9 36) (A1 (mV_ E (mV_ E (lQ_ (A9t E kR) ?_)))));refine lQ_ (F7 (e:=40) (n:=8) (sz:=1) (i:=i) E E kR kR E qO) ?_;refine A2 E (K4 i E E kR qO qO Cv ?_);refine A0 (E9 2 4 7 9 36) (C1 (mv_ ?_));refine lQ_ (P4 63 9223372036854775808 E E E E qD) ?_;refine as_ (C5 (nb (nx (E9 2 4 5 7 36) (C1 ?_))));refine lQ_ (D2 ((i+1:Nat):Int) E E (F5 qO qO qO)) ?_;refine mv_ (C5 ?_);exact rn ⟨i+1,q++[ee%4294967296],ee/9223372036854775808⟩ ⟨by dsimp only;omega,by simp [hql],hq32.app (λx hx=>by rw [List.mem_singleton.1 hx];exact Ad _ qD),hsb.2,hst⟩ (by dsimp only;omega) (E9 2 4 5 7 36) (Cg (by rw [hps])) qI
   .
    have hge8:i=8:=by simp at hc;omega
    subst hge8;have hfin:=B7l (o:=q) (a:=o) (b:=B8T) (c:=c) qO hq32 ho32 (by rw [hol];exact hnw) (by rw [B3P];exact hge);rw [Bx qO,List.append_nil];refine D6 (te (re (be E (nx (D0 2 4) (A1 ?_)))));refine lQ_ (H0 (n:=8) (cs:=nums .u32 q) E kR Ce (by rw [nums_len];omega)) ?_;refine A2 E (A5 (vs:=nums .u32 q) E E E (by rw [nums_len,hql];kernel_rfl) (by rw [nums_len,hql];rfl) E7 Cv ?_);refine A0 (D1 4) (A9 ?_);exact ⟨_,[],[],A1l (n:=8) E E kR Ce (by rw [nums_len];omega),Aa _,by simp,E,E,q,E,hql,hq32,by rw [hfin,hnv,B3P,Nat.mod_eq_sub_mod qO,Af qO]⟩

def tmN(X Y i:Nat):Nat:=X/2^i*Y%lN
theorem B3Q(X Y i:Nat):tmN X Y i=(if X/2^i%2=1 then ((tmN X Y (i+1)+tmN X Y (i+1))%lN+Y)%lN else (tmN X Y (i+1)+tmN X Y (i+1))%lN):=by
  have h:X/2^i=2*(X/2^(i+1))+X/2^i%2:=by rw [Nat.pow_succ,<- Bw];omega
  unfold tmN;generalize lN=L;have hb:X/2^i%2=0∨X/2^i%2=1:=by omega
  rcases hb with hb|hb
  . rw [if_neg qO]
    conv=>lhs;rw [h,hb,Nat.add_zero,Nat.two_mul,Nat.add_mul,Nat.add_mod]
  . rw [if_pos hb]
    conv=>lhs;rw [h,hb,Nat.add_mul,Nat.one_mul,Nat.two_mul,Nat.add_mul]
    rw [<- Nat.add_mod,Nat.mod_add_mod]
theorem C3h:w32 [0,0,0,0,0,0,0,0]:=by unfold w32;decide
theorem C5l:w32 [1,0,0,0,0,0,0,0]:=by unfold w32;decide
theorem B8U(X Y i:Nat):tmN X Y i<lN:=Ad _ qD
theorem A9W(h:nums k a=nums k b):a=b:=by
  unfold nums at h
  induction a generalizing b with
  | nil=>cases b with
    | nil=>rfl
    | cons y b=>simp at h
  | cons x a ih=>cases b with
    | nil=>simp at h
    | cons y b =>
      simp only [List.map_cons,List.cons.injEq,Value.int.injEq,true_and] at h;rw [ih h.2,Int.ofNat.inj h.1]
theorem B7m(v u:Value)(x y0:Nat)(hv:Sc v x)(hu:Sc u y0)(hy:y0<lN)(A:Mem):FnX prog 117 [v,u] [] A λr M J=>M=[]∧J=[]∧Sc r (x*y0%lN):=by
 obtain ⟨a,rfl,a8,a32,av⟩:=hv;obtain ⟨b,rfl,b8,b32,bv_⟩:=hu;refine Cn (N:=27) func117 E E E λw=>?_;refine A8 (D0 0 1) (A1 ?_);refine A2 E (bx_ λb2=>?_);refine A2 E (bx_ λb3=>?_);refine A2 E (C3 (cs:=[D3,D3,D3,D3,D3,D3,D3,D3]) kR E λb4=>?_);refine A0 (D5 2 3 4) (A1 ?_);refine A2 E (C3 (cs:=[D3,D3,D3,D3,D3,D3,D3,D3]) kR E λb5=>?_);refine A0 (D7 2 3 4 5) (A3 (A1 (as_ (A0 (E9 2 3 4 5 6) (A6 ?_)))));refine A0X (M':=[(b5,blk (nums .u32 [0,0,0,0,0,0,0,0]) 189),(b4,blk [D3,D3,D3,D3,D3,D3,D3,D3] 189),(b3,blk (nums .u32 b) 189),(b2,blk (nums .u32 a) 189)]) (Cg E) qI ?_;refine E0 (α:=Nat×LN) (λy=>[(2,(vP b2)),(3,(vP b3)),(4,(vP b4)),(5,(vP b5)),(6,.int .i64 ((y.1:Int)-1))]) (λy=>[(b5,blk (nums .u32 y.2) 189),(b4,blk [D3,D3,D3,D3,D3,D3,D3,D3] 189),(b3,blk (nums .u32 b) 189),(b2,blk (nums .u32 a) 189)]) (λ_=>[]) (λy=>y.1<=256∧Sc (.agg (nums .u32 y.2).toArray) (tmN x y0 y.1)) (λy=>y.1) (256,[0,0,0,0,0,0,0,0]) ⟨Av _,_,E,E,C3h,by unfold tmN;rw [Nat.div_eq_of_lt (by have:=B6r a32;rw [a8,xp8] at this;rw [<- av];exact this),Nat.zero_mul,Nat.zero_mod];rfl⟩ (E9 2 3 4 5 6) .rfl qI ?_;rintro ⟨j,o⟩ ⟨hj,ho⟩;dsimp only at hj ho ⊢;have ho0:=ho;obtain ⟨o_,e_,o8,o32,ov⟩:=ho;obtain rfl:o=o_:=A9W (by simpa using e_);refine A3 (A1 (mV_ E (lQ_ (E3 E E E) (A0 (G9 2 3 4 5 6 8) ?_))));refine C2 E ?_ ?_<;>intro hc
 .
  have hj0:0<j:=by simp at hc;omega
  obtain ⟨i,rfl⟩:∃i,j=i+1:=⟨j-1,by omega⟩
  rw [show (((i+1:Nat):Int)-1)=(i:Int) by omega];have hts:=B3Q x y0 i;have hwb:=B7k a32 i;rw [av] at hwb;have htl:=B8U x y0 (i+1);refine A4 (nx (E9 2 3 4 5 6) (A3 (A6 (A1 ?_))));refine lQ_ (H0 (n:=8) (cs:=nums .u32 o) E kR Ce (by rw [nums_len];omega)) ?_;refine lQ_ (H0 (n:=8) (cs:=nums .u32 o) E kR Ce (by rw [nums_len];omega)) ?_;refine C6 (aS E (aS E a0)) kR (A71 _ _ _ _ ho0 ho0 htl htl _) E ?_;rintro r1 M1 J1 ⟨rfl,rfl,k1⟩;have h1:=k1;obtain ⟨s,rfl,s8,s32,sv⟩:=k1;refine A2 E (A5 (vs:=nums .u32 s) E E E (by rw [nums_len,s8];kernel_rfl) (by rw [nums_len,nums_len,o8,s8]) E7 Cv ?_);refine A0 (E9 2 3 4 5 6) (A1 (mv_ ?_));refine lQ_ (A1A 32 E E E qD (A2E qO)) ?_;refine lQ_ (F7 (e:=40) (n:=8) (sz:=1) (i:=i/32) E E kR kR E qO) ?_;refine lQ_ (H9 (i/32) E kR Ce qO qO) ?_;refine mv_ ?_;refine lQ_ (A1B 32 E E E qD) ?_;refine lQ_ (A3H (a:=a.getD (i/32) 0) (b:=i%32) E E E E (by show _<=32;omega)) ?_;refine lQ_ (hwb▸N4 1 2 E E E E E (by show _<4294967296;exact Be (Nat.div_le_self _ _) (a32.get _)) qD) ?_;refine lQ_ (E3 E E E) (A0 (G9 2 3 4 5 6 22) ?_);refine C2 E ?_ ?_<;>intro hc
  .
   have hb1:x/2^i%2=1:=by revert hc;generalize x/2^i%2=z;intro hc;simp at hc;omega
   rw [if_pos hb1] at hts;refine C1 ?_;refine lQ_ (H0 (n:=8) (cs:=nums .u32 s) E kR Ce (by rw [nums_len];omega)) ?_;refine lQ_ (H0 (n:=8) (cs:=nums .u32 b) E kR Ce (by rw [nums_len];omega)) ?_;refine C6 (aS E (aS E a0)) kR (A71 _ _ _ _ h1 ⟨b,E,b8,b32,bv_⟩ (Ad _ qD) hy _) E ?_;rintro r2 M2 J2 ⟨rfl,rfl,k2⟩;rw [<- hts] at k2;have h2:=k2;obtain ⟨t,rfl,t8,t32,tv⟩:=k2;refine A2 E (A5 (vs:=nums .u32 t) E E E (by rw [nums_len,t8];kernel_rfl) (by rw [nums_len,nums_len,s8,t8]) E7 Cv ?_);refine C5 (nb (nx (E9 2 3 4 5 6) (C1 (mv_ ?_))));refine lQ_ (D2 ((i:Int)-1) E E (V6 E qO qO)) ?_;refine as_ (C5 ?_);exact rn (i,t) ⟨by dsimp only;omega,h2⟩ (by dsimp only;omega) (E9 2 3 4 5 6) .rfl qI
  .
   have hb1:¬x/2^i%2=1:=by revert hc;generalize x/2^i%2=z;intro hc;simp at hc;omega
   rw [if_neg hb1] at hts;refine A4 (nb (nx (E9 2 3 4 5 6) (C1 (mv_ ?_))));refine lQ_ (D2 ((i:Int)-1) E E (V6 E qO qO)) ?_;refine as_ (C5 ?_);exact rn (i,s) ⟨by dsimp only;omega,by dsimp only;rw [hts];exact h1⟩ (by dsimp only;omega) (E9 2 3 4 5 6) .rfl qI
 .
  have hj0:j=0:=by simp at hc;omega
  subst hj0;refine D6 (te (re (be E (nx (D0 4 5) (A1 ?_)))));refine lQ_ (H0 (n:=8) (cs:=nums .u32 o) E kR Ce (by rw [nums_len];omega)) ?_;refine A2 E (A5 (vs:=nums .u32 o) E E E (by rw [nums_len,o8];kernel_rfl) (by rw [nums_len,o8];rfl) E7 Cv ?_);refine A0 (D1 4) (A9 ?_);exact ⟨_,[],[],A1l (n:=8) E E kR Ce (by rw [nums_len];omega),Aa _,by simp,E,E,by rw [show x*y0%lN=tmN x y0 0 by unfold tmN;rw [Nat.pow_zero,Nat.div_one]];exact ho0⟩
theorem A22(pv:Value)(p:LN)(A:Mem)(hp:Rd A 1 pv p.length (nums .u8 p))(hp256:∀x∈p,x<256)(hpl:p.length<=1000000):FnX prog 110 [pv] [] A λr M J=>M=[]∧J=[]∧Sc r (bv p%lN):=by
 haveI:=hp.cel;refine Cn (N:=30) func110 E E E λw=>?_;refine A8 (D1 0) (A1 ?_);refine A2 E (C3 (cs:=[D3,D3,D3,D3,D3,D3,D3,D3]) kR E λb2=>?_);refine A0 (D0 0 2) (A1 ?_);refine A2 E (C3 (cs:=[D3,D3,D3,D3,D3,D3,D3,D3]) kR E λb3=>?_);refine A0 (D5 0 2 3) (A3 (A1 (mv_ ?_)));refine lQ_ (F8 (sz:=1) E kR hp) ?_;refine lQ_ (D2 ((8*p.length:Nat):Int) E E (A11 qO qO qO)) ?_;refine lQ_ (D2 (((8*p.length:Nat):Int)-1) E E (V6 E qO qO)) ?_;refine as_ (A0 (D7 0 2 3 4) (A6 ?_));refine A0X (M':=[(b3,blk (nums .u32 [0,0,0,0,0,0,0,0]) 189),(b2,blk [D3,D3,D3,D3,D3,D3,D3,D3] 189)]) (Cg E) qI ?_;refine E0 (α:=Nat×LN) (λy=>[(0,pv),(2,(vP b2)),(3,(vP b3)),(4,.int .i64 ((y.1:Int)-1))]) (λy=>[(b3,blk (nums .u32 y.2) 189),(b2,blk [D3,D3,D3,D3,D3,D3,D3,D3] 189)]) (λ_=>[]) (λy=>y.1<=8*p.length∧Sc (.agg (nums .u32 y.2).toArray) (tmN (bv p) 1 y.1)) (λy=>y.1) (8*p.length,[0,0,0,0,0,0,0,0]) ⟨Av _,_,E,E,C3h,by unfold tmN;rw [Nat.div_eq_of_lt (by have:=C25 hp256;rwa [show 256^p.length=2^(8*p.length) by rw [Nat.pow_mul]] at this),Nat.zero_mul,Nat.zero_mod];rfl⟩ (D7 0 2 3 4) .rfl qI ?_;rintro ⟨j,o⟩ ⟨hj,ho⟩;dsimp only at hj ho ⊢;have ho0:=ho;obtain ⟨o_,e_,o8,o32,ov⟩:=ho;obtain rfl:o=o_:=A9W (by simpa using e_);refine A3 (A1 (mV_ E (lQ_ (E3 E E E) (A0 (E9 0 2 3 4 10) ?_))));refine C2 E ?_ ?_<;>intro hc
 .
  have hj0:0<j:=by simp at hc;omega
  obtain ⟨i,rfl⟩:∃i,j=i+1:=⟨j-1,by omega⟩
  rw [show (((i+1:Nat):Int)-1)=(i:Int) by omega];have hts:=B3Q (bv p) 1 i;have hwb:=A7X hp256 i;have htl:=B8U (bv p) 1 (i+1);have hpb:p.getD (i/8) 0<256:=getD_lt hp256 qD;refine A4 (nx (D7 0 2 3 4) (A3 (A6 (A1 ?_))));refine lQ_ (H0 (n:=8) (cs:=nums .u32 o) E kR Ce (by rw [nums_len];omega)) ?_;refine lQ_ (H0 (n:=8) (cs:=nums .u32 o) E kR Ce (by rw [nums_len];omega)) ?_;refine C6 (aS E (aS E a0)) kR (A71 _ _ _ _ ho0 ho0 htl htl _) E ?_;rintro r1 M1 J1 ⟨rfl,rfl,k1⟩;have h1:=k1;obtain ⟨s,rfl,s8,s32,sv⟩:=k1;refine A2 E (A5 (vs:=nums .u32 s) E E E (by rw [nums_len,s8];kernel_rfl) (by rw [nums_len,nums_len,o8,s8]) E7 Cv ?_);refine A0 (D7 0 2 3 4) (A1 (mv_ (mv_ ?_)));refine lQ_ (A1A 8 E E E qD (A2E qO)) ?_;refine lQ_ (G4 (sz:=1) (a:=i/8) E E kR E hp qO) ?_;refine lQ_ (Z8 (j:=i/8) (u:=.int .u8 ((p.getD (i/8) 0:Nat):Int)) (hp.mono qS) E kR (W2 qO)) ?_;refine mv_ ?_;refine lQ_ (A1B 8 E E E qD) ?_;refine lQ_ (A3H (a:=p.getD (i/8) 0) (b:=i%8) E E E E (by show _<=8;omega)) ?_;refine lQ_ (hwb▸N4 1 2 E E E E E (by show _<256;exact Be (Nat.div_le_self _ _) hpb) qD) ?_;refine lQ_ (E3 E E E) (A0 (E9 0 2 3 4 25) ?_);refine C2 E ?_ ?_<;>intro hc
  .
   have hb1:bv p/2^i%2=1:=by revert hc;generalize bv p/2^i%2=z;intro hc;simp at hc;omega
   rw [if_pos hb1] at hts;refine C1 ?_;refine lQ_ (H0 (n:=8) (cs:=nums .u32 s) E kR Ce (by rw [nums_len];omega)) ?_;refine lQ_ (E6 (place:=λi=>some (i*1,1)) (z:=[D3,D3,D3,D3,D3,D3,D3,D3]) (λ_=>by kernel_rfl) (eS E e0) (bdS 0 1 E qR bd0)) ?_;refine C6 (aS E (aS E a0)) kR (A71 _ _ _ 1 h1 ⟨[1,0,0,0,0,0,0,0],E,E,C5l,by decide⟩ (Ad _ qD) qD _) E ?_;rintro r2 M2 J2 ⟨rfl,rfl,k2⟩;rw [<- hts] at k2;have h2:=k2;obtain ⟨t,rfl,t8,t32,tv⟩:=k2;refine A2 E (A5 (vs:=nums .u32 t) E E E (by rw [nums_len,t8];kernel_rfl) (by rw [nums_len,nums_len,s8,t8]) E7 Cv ?_);refine C5 (nb (nx (D7 0 2 3 4) (C1 (mv_ ?_))));refine lQ_ (D2 ((i:Int)-1) E E (V6 E qO qO)) ?_;refine as_ (C5 ?_);exact rn (i,t) ⟨by dsimp only;omega,h2⟩ (by dsimp only;omega) (D7 0 2 3 4) .rfl qI
  .
   have hb1:¬bv p/2^i%2=1:=by revert hc;generalize bv p/2^i%2=z;intro hc;simp at hc;omega
   rw [if_neg hb1] at hts;refine A4 (nb (nx (D7 0 2 3 4) (C1 (mv_ ?_))));refine lQ_ (D2 ((i:Int)-1) E E (V6 E qO qO)) ?_;refine as_ (C5 ?_);exact rn (i,s) ⟨by dsimp only;omega,by dsimp only;rw [hts];exact h1⟩ (by dsimp only;omega) (D7 0 2 3 4) .rfl qI
 .
  have hj0:j=0:=by simp at hc;omega
  subst hj0;refine D6 (te (re (be E (nx (D0 2 3) (A1 ?_)))));refine lQ_ (H0 (n:=8) (cs:=nums .u32 o) E kR Ce (by rw [nums_len];omega)) ?_;refine A2 E (A5 (vs:=nums .u32 o) E E E (by rw [nums_len,o8];kernel_rfl) (by rw [nums_len,o8];rfl) E7 Cv ?_);refine A0 (D1 2) (A9 ?_);exact ⟨_,[],[],A1l (n:=8) E E kR Ce (by rw [nums_len];omega),Aa _,by simp,E,E,by rw [show bv p%lN=tmN (bv p) 1 0 by unfold tmN;rw [Nat.pow_zero,Nat.div_one,Nat.mul_one]];exact ho0⟩
theorem A23(v:Value)(n:Nat)(hv:Sc v n)(A:Mem):FnV prog 115 [v] A (.agg (nums .u8 (P7 n 32)).toArray):=by
 obtain ⟨a,rfl,a8,a32,av⟩:=hv;refine Cn (N:=21) func115 E E E λw=>?_;refine A8 (D1 0) (A1 ?_);refine A2 E (bx_ λb1=>?_);refine A2 E (C3 (cs:=[zu8,zu8,zu8,zu8,zu8,zu8,zu8,zu8,zu8,zu8,zu8,zu8,zu8,zu8,zu8,zu8,zu8,zu8,zu8,zu8,zu8,zu8,zu8,zu8,zu8,zu8,zu8,zu8,zu8,zu8,zu8,zu8]) kR E λb2=>?_);refine A0 (D0 1 2) (A1 ?_);refine A2 E (C3 (cs:=[zu8,zu8,zu8,zu8,zu8,zu8,zu8,zu8,zu8,zu8,zu8,zu8,zu8,zu8,zu8,zu8,zu8,zu8,zu8,zu8,zu8,zu8,zu8,zu8,zu8,zu8,zu8,zu8,zu8,zu8,zu8,zu8]) kR E λb3=>?_);refine A0 (D5 1 2 3) (A3 (A1 (mv_ (A0 (D7 1 2 3 5) (A6 ?_)))));refine A0X (M':=[(b3,blk (nums .u8 (P7 n 0++(List.replicate 32 0).drop 0)) 198),(b2,blk [zu8,zu8,zu8,zu8,zu8,zu8,zu8,zu8,zu8,zu8,zu8,zu8,zu8,zu8,zu8,zu8,zu8,zu8,zu8,zu8,zu8,zu8,zu8,zu8,zu8,zu8,zu8,zu8,zu8,zu8,zu8,zu8] 198),(b1,blk (nums .u32 a) 189)]) (Cg E) qI ?_;refine E0 (α:=Nat) (λi=>[(1,(vP b1)),(2,(vP b2)),(3,(vP b3)),(5,.int .i64 (i:Int))]) (λi=>[(b3,blk (nums .u8 (P7 n i++(List.replicate 32 0).drop i)) 198),(b2,blk [zu8,zu8,zu8,zu8,zu8,zu8,zu8,zu8,zu8,zu8,zu8,zu8,zu8,zu8,zu8,zu8,zu8,zu8,zu8,zu8,zu8,zu8,zu8,zu8,zu8,zu8,zu8,zu8,zu8,zu8,zu8,zu8] 198),(b1,blk (nums .u32 a) 189)]) (λ_=>[]) (λi=>i<=32) (λi=>32-i) 0 (Am _) (D7 1 2 3 5) .rfl qI ?_;rintro i hi;have hdl:=L9 n i;have hpl:(P7 n i++(List.replicate 32 0).drop i).length=32:=A6L hdl qM hi;refine A1 (lQ_ (E3 E E E) (A0 (E9 1 2 3 5 6) (A3 ?_)));refine C2 E ?_ ?_<;>intro hc
 .
  have hlt:i<32:=by simp at hc;omega
  have hwb:=B3L a32 i;rw [av] at hwb;refine A4 (nx (D7 1 2 3 5) (A3 (A6 (A1 (mV_ E (aS_ E (A0 (E9 1 2 3 4 5) (C1 (mv_ (mv_ ?_))))))))));refine lQ_ (A1A 4 E E E qD (A2E qO)) ?_;refine lQ_ (F7 (e:=40) (n:=8) (sz:=1) (i:=i/4) E E kR kR E qO) ?_;refine lQ_ (H9 (i/4) E kR Ce qO qO) ?_;refine mv_ ?_;refine lQ_ (A1B 4 E E E qD) ?_;refine lQ_ (D2 ((8*(i%4):Nat):Int) E E (A11 qO qO qO)) ?_;refine lQ_ (A3H (a:=a.getD (i/4) 0) (b:=8*(i%4)) E E E E (by show _<=32;omega)) ?_;refine lQ_ (hwb▸A12 E kR) ?_;refine lQ_ (F7 (e:=5) (n:=32) (sz:=1) (i:=i) E E kR kR E qO) ?_;refine A2 E (K4 i E E kR qO qO Cv ?_);refine C5 (nb (nx (D7 1 2 3 5) (C1 ?_)));refine lQ_ (D2 ((i+1:Nat):Int) E E (F5 qO qO qO)) ?_;refine mv_ (C5 ?_);exact rn (i+1) qO qO (D7 1 2 3 5) (Cg (by rw [A6K hdl (by simpa using hlt),B3K])) qI
 .
  have hge:i=32:=by simp at hc;omega
  subst hge;rw [show (List.replicate 32 0).drop 32=([]:LN) from rfl,List.append_nil] at *;refine D6 (te (re (be E (nx (D0 2 3) (A1 ?_)))));refine lQ_ (H0 (n:=32) (cs:=nums .u8 (P7 n 32)) E kR Ce (by rw [nums_len];omega)) ?_;refine A2 E (A5 (vs:=nums .u8 (P7 n 32)) E E E (by rw [nums_len,L9];kernel_rfl) (by rw [nums_len,L9];rfl) E7 Cv ?_);refine A0 (D1 2) (A9 ?_);exact ⟨_,[],[],A1l (n:=32) E E kR Ce (by rw [nums_len,L9]),Aa _,by simp,E,E,E⟩

end Go.Proofs.YtgpjndfgjjlhaaaGreatDoor
set_option maxRecDepth 10000
namespace Go.Ed
variable{n:Nat}[NeZero n]
structure Fld(n:Nat)[NeZero n](d:Fin n) where
  inv:Fin n->Fin n
  ii:Fin n
  mul0:∀a b:Fin n,a*b=0->a=0∨b=0
  one:(1:Fin n)≠0
  two:(2:Fin n)≠0
  hinv:∀a:Fin n,a≠0->a*inv a=1
  hii:ii*ii = -1
  hd:∀s t:Fin n,s*s=d*(t*t)->t=0
variable{d:Fin n}(F:Fld n d)
omit F in
theorem cy1{u v u' v' x1 y1 x3 y3 G H G' H':Fin n}
    (hy:(v*G*H*y3+u*H*G*x3)*(G'*H'-d*x1*y1*(u'*H')*(v'*G'))=(y1*(v'*G')*H'+x1*(u'*H')*G')*(G*H-d*(u*H)*(v*G)*x3*y3)) :
    G*H*(G'*H')*((v*y3+u*x3)*(1-d*x1*u'*y1*v'))=G*H*(G'*H')*((y1*v'+x1*u')*(1-d*u*x3*v*y3)):=by
  have a:G*H*(G'*H')*((v*y3+u*x3)*(1-d*x1*u'*y1*v'))=(v*G*H*y3+u*H*G*x3)*(G'*H'-d*x1*y1*(u'*H')*(v'*G')):=by clear hy;grind
  have b:G*H*(G'*H')*((y1*v'+x1*u')*(1-d*u*x3*v*y3))=(y1*(v'*G')*H'+x1*(u'*H')*G')*(G*H-d*(u*H)*(v*G)*x3*y3):=by clear hy;grind
  rw [a,b,hy]
structure Rep(X Y Z T:Fin n)(P:Fin n×Fin n):Prop where
  z:Z≠0
  x:X=P.1*Z
  y:Y=P.2*Z
  t:T=P.1*P.2*Z
end Go.Ed

namespace Go.Proofs.YtgpjndfgjjlhaaaGreatDoor
open Go.Px Go.Ed
instance:NeZero p25:=⟨by decide⟩
theorem C0z:0<p25:=by decide
def fF(x:Nat):Fin p25:=⟨x%p25,Ad _ C0z⟩
structure PR(P:Pt)(Q:Fin p25×Fin p25):Prop where
  rep:Rep (fF P.X) (fF P.Y) (fF P.Z) (fF P.T) Q
  x:P.X<p25
  y:P.Y<p25
  z:P.Z<p25
  t:P.T<p25
open Go.Px Go.Ed
def U4(b:LN):Option Pt:=if b.length=32 then (match atN (rdN b) (decide (128<=b.getD 31 0)) with
  | some x=>if pB (pAt x (rdN b))=b then some (pAt x (rdN b)) else none
  | none=>none) else none
def B08(P Q:Pt):Bool:=decide (fM P.X Q.Z=fM Q.X P.Z)&&decide (fM P.Y Q.Z=fM Q.Y P.Z)
end Go.Proofs.YtgpjndfgjjlhaaaGreatDoor
namespace Go.Px
variable{α:Type}
def L3(x:Nat)(f:Nat->α):α:=Nat.rec (motive:=λ_=>α) (f 0) (λn _=>f (Nat.succ n)) x
theorem U6(x:Nat)(f:Nat->α):L3 x f=f x:=by cases x<;>rfl
def B51(x n m:Nat):Nat:=Nat.lor (Nat.shiftRight x n) (Nat.mod (Nat.shiftLeft x m) 4294967296)
def rF:List Nat->List Nat->S8->S8
  | k::ks,w::ws,s=>rF ks ws (s.step k w)
  | _,_,s=>s
theorem C0A(ks ws:List Nat)(h:ks.length=ws.length)(k w:Nat)(s:S8):rF (ks++[k]) (ws++[w]) s=(rF ks ws s).step k w:=by
  induction ks generalizing ws s with
  | nil =>
    cases ws with
    | nil=>rfl
    | cons w ws=>simp at h
  | cons k' ks ih =>
    cases ws with
    | nil=>simp at h
    | cons w' ws=>exact ih ws (by simpa using h) (s.step k' w')
theorem B3R(ks ws:List Nat)(s:S8)(n:Nat)(h1:n<=ks.length)(h2:n<=ws.length):rounds ks ws s n=rF (ks.take n) (ws.take n) s:=by
  induction n with
  | zero=>rfl
  | succ n ih =>
    rw [rounds,ih (by omega) (by omega),Bh,Bh,Ab (by omega),Ab (by omega)];simp only [Option.toList_some];rw [C0A _ _ (by simp;omega),Aj,Aj,Ab (by omega),Ab (by omega)];rfl
def t1F(e f g h k w:Nat):Nat :=
  Nat.mod (Nat.add (Nat.mod (Nat.add (Nat.mod (Nat.add (Nat.mod (Nat.add h (Nat.xor (Nat.xor (B51 e 6 26) (B51 e 11 21)) (B51 e 25 7))) 4294967296) (Nat.xor (Nat.land e f) (Nat.land (Nat.xor 4294967295 e) g))) 4294967296) k) 4294967296) w) 4294967296
def aF(t a b c:Nat):Nat :=
  Nat.mod (Nat.add (Nat.mod (Nat.add t (Nat.xor (Nat.xor (B51 a 2 30) (B51 a 13 19)) (B51 a 22 10))) 4294967296) (Nat.xor (Nat.xor (Nat.land a b) (Nat.land a c)) (Nat.land b c))) 4294967296
def rFF(ks:List Nat):List Nat->Nat->Nat->Nat->Nat->Nat->Nat->Nat->Nat->S8 :=
  List.rec (motive:=λ_=>List Nat->Nat->Nat->Nat->Nat->Nat->Nat->Nat->Nat->S8) (λ_ a b c d e f g h=>⟨a,b,c,d,e,f,g,h⟩)
    (λk _ ih ws=>List.rec (motive:=λ_=>Nat->Nat->Nat->Nat->Nat->Nat->Nat->Nat->S8) (λa b c d e f g h=>⟨a,b,c,d,e,f,g,h⟩)
      (λw ws _ a b c d e f g h=>L3 (t1F e f g h k w) λt=>L3 (aF t a b c) λa'=>L3 (Nat.mod (Nat.add d t) 4294967296) λe'=>ih ws a' a b c e' e f g) ws) ks
theorem C3i(ks ws:List Nat)(s:S8):rFF ks ws s.a s.b s.c s.d s.e s.f s.g s.h=rF ks ws s:=by
  induction ks generalizing ws s with
  | nil=>cases ws<;>rfl
  | cons k ks ih =>
    cases ws with
    | nil=>rfl
    | cons w ws =>
      have e:rFF (k::ks) (w::ws) s.a s.b s.c s.d s.e s.f s.g s.h=L3 (t1F s.e s.f s.g s.h k w) λt=>L3 (aF t s.a s.b s.c) λa'=>L3 (Nat.mod (Nat.add s.d t) 4294967296) λe'=>rFF ks ws a' s.a s.b s.c e' s.e s.f s.g:=rfl;rw [e,U6,U6,U6];exact ih ws (s.step k w)
def B7n:Nat->List Nat->Nat:=λn=>Nat.rec (motive:=λ_=>List Nat->Nat) (λl=>List.rec (motive:=λ_=>Nat) 0 (λx _ _=>x) l) (λ_ ih l=>List.rec (motive:=λ_=>Nat) 0 (λ_ r _=>ih r) l) n
theorem A6N(n:Nat)(l:List Nat):B7n n l=l.getD n 0:=by
  induction n generalizing l with
  | zero=>cases l<;>rfl
  | succ n ih =>
    cases l with
    | nil=>rfl
    | cons x r=>exact ih r
def wnF(w16 w15 w7 w2:Nat):Nat :=
  Nat.mod (Nat.add (Nat.mod (Nat.add (Nat.mod (Nat.add w16 (Nat.xor (Nat.xor (B51 w15 7 25) (B51 w15 18 14)) (Nat.shiftRight w15 3))) 4294967296) w7) 4294967296) (Nat.xor (Nat.xor (B51 w2 17 15) (B51 w2 19 13)) (Nat.shiftRight w2 10))) 4294967296
def wF(n:Nat):List Nat->List Nat :=
  Nat.rec (motive:=λ_=>List Nat->List Nat) (λr=>r) (λ_ ih r=>L3 (wnF (B7n 15 r) (B7n 14 r) (B7n 6 r) (B7n 1 r)) λx=>ih (x::r)) n
theorem A4b{l:List Nat}{k:Nat}(h:k<l.length):l.reverse.getD k 0=l.getD (l.length-1-k) 0:=by rw [Aj,Aj,List.getElem?_reverse h]
theorem C5m(w:List Nat)(hw:16<=w.length)(n m:Nat):wF n (wx w m).reverse=(wx w (m+n)).reverse:=by
  induction n generalizing m with
  | zero=>rfl
  | succ n ih =>
    have e:wF (n+1) (wx w m).reverse=L3 (wnF (B7n 15 (wx w m).reverse) (B7n 14 (wx w m).reverse) (B7n 6 (wx w m).reverse) (B7n 1 (wx w m).reverse)) λx=>wF n (x::(wx w m).reverse):=rfl;have hl:=A7r w m;rw [e,U6,A6N,A6N,A6N,A6N,A4b (by omega),A4b (by omega),A4b (by omega),A4b (by omega),hl]
    have e2:wnF ((wx w m).getD (w.length+m-1-15) 0) ((wx w m).getD (w.length+m-1-14) 0) ((wx w m).getD (w.length+m-1-6) 0) ((wx w m).getD (w.length+m-1-1) 0)=B6l (wx w m) (w.length+m):=by rw [show w.length+m-1-15=w.length+m-16 by omega,show w.length+m-1-14=w.length+m-15 by omega,show w.length+m-1-6=w.length+m-7 by omega,show w.length+m-1-1=w.length+m-2 by omega];rfl
    rw [e2,show B6l (wx w m) (w.length+m)::(wx w m).reverse=(wx w (m+1)).reverse by rw [wx,List.reverse_append];rfl,ih (m+1),show m+1+n=m+(n+1) by omega]
def C5n(a b c d:Nat):Nat:=Nat.add (Nat.mul (Nat.add (Nat.mul (Nat.add (Nat.mul a 256) b) 256) c) 256) d
def A5R:Nat->List Nat->List Nat->List Nat
  | 0,_,r=>r
  | n+1,a::b::c::d::p,r=>L3 (C5n a b c d) λx=>A5R n p (x::r)
  | _+1,_,r=>r
theorem B3S(n:Nat)(p:List Nat)(i:Nat)(h:4*(i+n)<=p.length)(r:List Nat):A5R n (p.drop (4*i)) r=((List.range' i n).map (C2f p)).reverse++r:=by
  induction n generalizing i r with
  | zero=>rfl
  | succ n ih =>
    have e:p.drop (4*i)=p.getD (4*i) 0::p.getD (4*i+1) 0::p.getD (4*i+2) 0::p.getD (4*i+3) 0::p.drop (4*(i+1)):=by rw [Bu (by omega),Bu (by omega),Bu (by omega),Bu (by omega)];simp only [List.getD_eq_getElem?_getD];rw [Ab (by omega),Ab (by omega),Ab (by omega),Ab (by omega)];rfl
    rw [e];show L3 _ _=_;rw [U6,ih (i+1) (by omega),List.range'_succ,List.map_cons,List.reverse_cons,Ap];rfl
def C5o(a b c d e f g h:Nat)(p:List Nat)(k:Nat->Nat->Nat->Nat->Nat->Nat->Nat->Nat->List Nat):List Nat :=
  match rFF A2x (wF 48 (A5R 16 p [])).reverse a b c d e f g h with
  | ⟨a1,b1,c1,d1,e1,f1,g1,h1⟩ =>
    L3 (Nat.mod (Nat.add a a1) 4294967296) λa=>L3 (Nat.mod (Nat.add b b1) 4294967296) λb=>L3 (Nat.mod (Nat.add c c1) 4294967296) λc=>L3 (Nat.mod (Nat.add d d1) 4294967296) λd =>
    L3 (Nat.mod (Nat.add e e1) 4294967296) λe=>L3 (Nat.mod (Nat.add f f1) 4294967296) λf=>L3 (Nat.mod (Nat.add g g1) 4294967296) λg=>L3 (Nat.mod (Nat.add h h1) 4294967296) λh=>k a b c d e f g h
theorem C0B(s:S8)(p:List Nat)(hp:64<=p.length)(k:Nat->Nat->Nat->Nat->Nat->Nat->Nat->Nat->List Nat):C5o s.a s.b s.c s.d s.e s.f s.g s.h p k=(λt:S8=>k t.a t.b t.c t.d t.e t.f t.g t.h) (Y3 A2x s p):=by
  have h1:A5R 16 p []=(A0g p 16).reverse:=by have:=B3S 16 p 0 (by omega) [];rw [List.append_nil] at this;rw [show p=p.drop (4*0) from rfl,this,A0g,List.range_eq_range'];rfl
  have hw:(A0g p 16).length=16:=by simp [A0g]
  have h2:(wF 48 (A5R 16 p [])).reverse=wx (A0g p 16) 48:=by have:=C5m (A0g p 16) (by omega) 48 0;rw [h1,show (A0g p 16).reverse=(wx (A0g p 16) 0).reverse from rfl,this,List.reverse_reverse]
  have h3:rFF A2x (wF 48 (A5R 16 p [])).reverse s.a s.b s.c s.d s.e s.f s.g s.h=rounds A2x (wx (A0g p 16) 48) s 64:=by have hl:=A7r (A0g p 16) 48;rw [h2,C3i,B3R _ _ _ _ (by decide) (by omega),Aw (show A2x.length<=64 by decide),Aw (by omega)]
  unfold C5o Y3;rw [h3];generalize rounds A2x (wx (A0g p 16) 48) s 64=r;obtain ⟨a1,b1,c1,d1,e1,f1,g1,h1⟩:=r;simp only [U6];rfl
def B7o:Nat->Nat->Nat->Nat->Nat->Nat->Nat->Nat->Nat->List Nat->List Nat
  | 0,a,b,c,d,e,f,g,h,_=>[a,b,c,d,e,f,g,h].flatMap B9I
  | n+1,a,b,c,d,e,f,g,h,p=>C5o a b c d e f g h p λa b c d e f g h=>B7o n a b c d e f g h (p.drop 64)
theorem B7p(n:Nat)(s:S8)(p:List Nat)(hp:64*n<=p.length):B7o n s.a s.b s.c s.d s.e s.f s.g s.h p=(A5m A2x n s p).bytes:=by
  induction n generalizing s p with
  | zero=>rfl
  | succ n ih =>
    have e:Y3 A2x s (p.take 64)=Y3 A2x s p:=by
      unfold Y3
      have:A0g (p.take 64) 16=A0g p 16:=by
        unfold A0g;refine Bv λi hi=>?_;have hi:=List.mem_range.1 hi;unfold C2f
        have g:∀j,j<64->(p.take 64).getD j 0=p.getD j 0:=λj hj=>by rw [Aj,Aj,Cd hj]
        rw [g _ (by omega),g _ (by omega),g _ (by omega),g _ (by omega)]
      rw [this]
    rw [B7o,C0B s p (by omega),A5m,e];exact ih _ _ (by rw [Bg];omega)
def A3k(p:List Nat):List Nat:=B7o ((N0 p).length/64) 1779033703 3144134277 1013904242 2773480762 1359893119 2600822924 528734635 1541459225 (N0 p)
theorem Q3(p:List Nat):A3k p=Y7 p:=B7p _ A3C (N0 p) (by omega)
def A8W(key p:List Nat):List Nat:=A3k (A3D (if 64<key.length then A3k key else key) 92++A3k (A3D (if 64<key.length then A3k key else key) 54++p))
theorem A6O(key p:List Nat):A8W key p=A8o key p:=by unfold A8W A8o A1m;simp only [Q3]
theorem B7q(key info:List Nat):A0c key info 32=A8W key (info++[1]):=by have h:(A8o key ([]++(info++[1]))).length=32:=A0m _;rw [A6O];show ([]++A8o key ([]++(info++[1]))).take 32=_;rw [List.nil_append,List.nil_append,Aw (by rw [<- List.nil_append (info++[1])];omega)]
end Go.Px

namespace Go.Proofs.YtgpjndfgjjlhaaaGreatDoor
open Go.Px Go.Ed
def C3j:Nat:=bxN
def C3k:Nat:=s45
def C5p:Nat:=d2N
theorem A9X:pS=pAt C3j C3k:=rfl
theorem C3l:d2N=C5p:=rfl
def kM(x y:Nat):Nat:=Nat.mod (Nat.mul x y) 57896044618658097711785492504343953926634992332820282019728792003956564819949
def kA(x y:Nat):Nat:=Nat.mod (Nat.add x y) 57896044618658097711785492504343953926634992332820282019728792003956564819949
def kS(x y:Nat):Nat:=Nat.mod (Nat.sub (Nat.add x 57896044618658097711785492504343953926634992332820282019728792003956564819949) y) 57896044618658097711785492504343953926634992332820282019728792003956564819949
variable{α:Type}
def C0C(X1 Y1 Z1 T1 X2 Y2 Z2 T2:Nat)(k:Nat->Nat->Nat->Nat->α):α :=
  L3 (kM (kS Y1 X1) (kS Y2 X2)) λa=>L3 (kM (kA Y1 X1) (kA Y2 X2)) λb=>L3 (kM (kM T1 16295367250680780974490674513165176452449235426866156013048779062215315747161) T2) λc=>L3 (kM Z1 Z2) λz0=>L3 (kA z0 z0) λz =>
  L3 (kS b a) λe=>L3 (kS z c) λf=>L3 (kA z c) λg=>L3 (kA b a) λh=>L3 (kM e f) λx=>L3 (kM g h) λy=>L3 (kM f g) λz=>L3 (kM e h) λt=>k x y z t
theorem B3T(P Q:Pt)(k:Nat->Nat->Nat->Nat->α):C0C P.X P.Y P.Z P.T Q.X Q.Y Q.Z Q.T k=k (A8q d2N P Q).X (A8q d2N P Q).Y (A8q d2N P Q).Z (A8q d2N P Q).T:=by rw [C3l];unfold C0C;simp only [U6];rfl
def tF(n:Nat)(P:Pt):Nat->Nat->Nat->Nat->Nat->Pt:=λk =>
  Nat.rec (motive:=λ_=>Nat->Nat->Nat->Nat->Pt) (λX Y Z T=>⟨X,Y,Z,T⟩)
    (λi ih X Y Z T=>C0C X Y Z T X Y Z T λX Y Z T=>Nat.rec (motive:=λ_=>Pt) (ih X Y Z T) (λ_ _=>C0C X Y Z T P.X P.Y P.Z P.T λX Y Z T=>ih X Y Z T) (Nat.mod (Nat.shiftRight n i) 2)) k
theorem C0D(n i:Nat)(P Q:Pt):tF n P (i+1) Q.X Q.Y Q.Z Q.T=tF n P i (pSt P n i Q).X (pSt P n i Q).Y (pSt P n i Q).Z (pSt P n i Q).T:=by
  have e:tF n P (i+1) Q.X Q.Y Q.Z Q.T=C0C Q.X Q.Y Q.Z Q.T Q.X Q.Y Q.Z Q.T λX Y Z T=>Nat.rec (motive:=λ_=>Pt) (tF n P i X Y Z T) (λ_ _=>C0C X Y Z T P.X P.Y P.Z P.T λX Y Z T=>tF n P i X Y Z T) (Nat.mod (Nat.shiftRight n i) 2):=rfl;rw [e,B3T,show Nat.mod (Nat.shiftRight n i) 2=n/2^i%2 by rw [<- Cb];rfl];have h2:n/2^i%2<2:=Ad _ qD;rcases (show n/2^i%2=0∨n/2^i%2=1 by omega) with h|h
  . rw [B3I qO,h];show tF n P i _ _ _ _=_;rfl
  . rw [B3H h,h];show C0C _ _ _ _ P.X P.Y P.Z P.T _=_;rw [B3T]
theorem B8V(n:Nat)(P:Pt):∀i,i<=256->tF n P i (pTk P n (256-i)).X (pTk P n (256-i)).Y (pTk P n (256-i)).Z (pTk P n (256-i)).T=A05 P n
  | 0,_=>rfl
  | i+1,h=>by rw [C0D,<- A9U qO];exact B8V n P i qO
theorem A4S(n:Nat)(P:Pt):A05 P n=tF n P 256 0 1 1 0:=(B8V n P 256 (Av _)).symm
open Go.Px Go.Ed
def B09(seed:LN):Nat:=bv (B0H ([115,101,99,114,101,116]++seed))%lN
def B8W(seed msg:LN):Nat:=bv (B0H ([110,111,110,99,101]++seed++msg))%lN
def A7j(r p msg:LN):Nat:=bv (B0H ([99,104,97,108,108,101,110,103,101]++r++p++msg))%lN
def A8r(seed:LN):LN:=pB (A05 pS (B09 seed))
def rB(seed msg:LN):LN:=pB (A05 pS (B8W seed msg))
def sN(seed msg:LN):Nat:=(A7j (rB seed msg) (A8r seed) msg*B09 seed%lN+B8W seed msg)%lN
def B3U(seed msg:LN):LN:=rB seed msg++P7 (sN seed msg) 32
def C4J(oa ob:Option Pt)(f:Pt->Pt->Bool):Bool:=match oa,ob with
  | some a,some r=>f a r
  | _,_=>false
theorem A72(a r:Pt)(f:Pt->Pt->Bool):C4J (some a) (some r) f=f a r:=rfl
theorem B7r(o:Option Pt)(f:Pt->Pt->Bool):C4J none o f=false:=by cases o<;>rfl
theorem B7s(o:Option Pt)(f:Pt->Pt->Bool):C4J o none f=false:=by cases o<;>rfl
def A73(p msg sig:LN):Bool:=decide (sig.length=64)&&C4J (U4 p) (U4 (sig.take 32)) λa r=>decide (P7 (bv (sig.drop 32)%lN) 32=sig.drop 32)&&B08 (A05 pS (bv (sig.drop 32)%lN)) (A8q d2N r (A05 a (A7j (sig.take 32) p msg)))
theorem A74:0<lN:=by decide
theorem B3V(s:LN):B09 s<lN:=Ad _ A74
theorem B3W(s m:LN):B8W s m<lN:=Ad _ A74
theorem C0E(r p m:LN):A7j r p m<lN:=Ad _ A74
theorem A6P(s:LN):(A8r s).length=32:=B8R _
theorem B3X(s m:LN):(rB s m).length=32:=B8R _
theorem A9Y(s m:LN):(B3U s m).length=64:=by simp [B3U,B3X,L9]
/-! ### The example whose bit is turned -/
end Go.Proofs.YtgpjndfgjjlhaaaGreatDoor
