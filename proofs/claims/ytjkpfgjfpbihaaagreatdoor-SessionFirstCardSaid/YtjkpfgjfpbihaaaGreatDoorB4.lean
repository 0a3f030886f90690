/- Part 4 of the texts of this claim, one behind the other. -/
import Derived.Test.YtjkpfgjfpbihaaaGreatDoorB3
import Derived.Laws.Externs
import Derived.Lib.ConvBytes
set_option linter.unusedVariables false
set_option linter.unusedSimpArgs false
set_option maxRecDepth 100000
namespace Go.Px
structure Gm where
  i:Nat
  d:Nat
  φ:Value->Mem->Prop
def A3i(G:List Gm)(vs:Nat->Value):Env:=G.map λ g=>(g.d,vs g.i)
def enc:List Nat->List (Nat×Nat)
  | []=>[]
  | [i]=>[(i,4)]
  | i::j::r=>(i,3)::enc (j::r)
inductive GOk(ops:Array Oper):Array Bool->List Nat->Array Bool->Prop
  | nil {A:Array Bool}:GOk ops A [] A
  | cons {A B:Array Bool} {i:Nat} {r:List Nat} (hr:i∈Region.ready .any ops A) (ho:∀ j,j < ops.size->A.getD j true=false->j ∉ i::r->anc ops ops.size j i=true) (h:GOk ops (A.setIfInBounds i true) r B):GOk ops A (i::r) B
theorem B8o(i:Nat)(r:List Nat)(plan:List (Nat×Nat)):grp (enc (i::r)++plan)=i::r:=by
  induction r generalizing i with
  | nil=>rfl
  | cons j r ih=>simp only [enc,List.cons_append,grp]; rw [ih j]
theorem A8z{ops:Array Oper}{nd:List Nat}{plan:List (Nat×Nat)}:∀ {is:List Nat} {A:Array Bool},L1 ops nd (enc is++plan) A=true->∃ B,GOk ops A is B∧L1 ops nd plan B=true
  | [],A,h=>⟨A,.nil,h⟩
  | [i],A,h=>by
    simp only [enc,List.cons_append,List.nil_append,L1,A7C,Bool.and_eq_true,List.all_eq_true,List.mem_range,Bool.or_eq_true] at h;refine ⟨_,.cons (by simpa using h.1.1) (λ j hj hu hn=>?_) .nil,h.2⟩;rcases h.1.2 j hj with (h1 | h1) | h1
    . rw [hu] at h1; cases h1
    . exact absurd (by simpa using h1) hn
    . exact h1
  | i::j::r,A,h=>by
    simp only [enc,List.cons_append,L1,A7C,Bool.and_eq_true,List.all_eq_true,List.mem_range,Bool.or_eq_true,B8o] at h;obtain ⟨B,hB,hp⟩:=A8z (is:=j::r) h.2;refine ⟨B,.cons (by simpa using h.1.1) (λ j hj hu hn=>?_) hB,hp⟩;rcases h.1.2 j hj with (h1 | h1) | h1
    . rw [hu] at h1; cases h1
    . exact absurd (by simpa using h1) hn
    . exact h1
def mark(A:Array Bool)(X:List Nat):Array Bool:=X.foldl (λ B i=>B.setIfInBounds i true) A
theorem A2q(X:List Nat):∀ (A:Array Bool) (j:Nat),(mark A X)[j]? = if j∈X∧j < A.size then some true else A[j]?:=by
  induction X with
  | nil=>intro A j; simp [mark]
  | cons i X ih =>
    intro A j;have:=ih (A.setIfInBounds i true) j;simp only [mark,List.foldl_cons] at this ⊢;rw [this];simp only [Array.size_setIfInBounds,List.mem_cons];by_cases h1:j < A.size
    . by_cases h2:j∈X
      . simp [h1,h2]
      . by_cases h3:i=j
        . subst h3; simp [h1,h2]
        . have h3':j≠i:=λ h=>h3 h.symm;simp [h1,h2,h3,h3',Array.getElem?_setIfInBounds]
    . simp [h1]
theorem U3(A:Array Bool)(X:List Nat)(i:Nat):mark A (X++[i])=(mark A X).setIfInBounds i true:=by simp [mark]
variable{A:Array Bool}{X Y:List Nat}
theorem A5v(h:∀ j,j∈X ↔ j∈Y):mark A X=mark A Y:=by apply Array.ext_getElem?;intro j; rw [A2q,A2q]; simp only [h]
variable{j:Nat}
theorem I9:(mark A X).getD j true=false ↔ (A.getD j true=false∧¬ (j∈X∧j < A.size)):=by
  have:=A2q X A j;simp only [Array.getD_eq_getD_getElem?,this];split
  . simp_all
  . simp_all
theorem A0p(h:(mark A X).getD j false=true):A.getD j false=true∨j∈X:=by
  have:=A2q X A j;simp only [Array.getD_eq_getD_getElem?,this] at h ⊢;split at h
  . rename_i hh; exact .inr hh.1
  . exact .inl h
theorem GOk.mark{ops:Array Oper}{A B:Array Bool}{is:List Nat}(h:GOk ops A is B):B=mark A is:=by
  induction h with
  | nil=>rfl
  | cons _ _ _ ih=>rw [ih]; rfl
variable{ops:Array Oper}{i:Nat}
theorem L3(h:i∈Region.ready .any ops A):A.getD i true=false:=(mem_ready.1 h).1
theorem A3r(h:i∈Region.ready .any ops A):i < ops.size:=by obtain ⟨_,oj,hoj,_⟩:=mem_ready.1 h;exact (Array.getElem?_eq_some_iff.1 hoj).1
variable{B:Array Bool}{is:List Nat}
theorem GOk.outer(h:GOk ops A is B):∀ i∈is,∀ j,j < ops.size->A.getD j true=false->j ∉ is->anc ops ops.size j i=true:=by
  induction h with
  | nil=>intro i hi; cases hi
  | @cons A B i r hr ho h ih =>
    intro k hk j hj hu hn;rcases List.mem_cons.1 hk with rfl | hk
    . exact ho j hj hu hn
    . have hne:i≠j:=λ e=>hn (e▸Ax);exact ih k hk j hj (by rw [getD_set_ne true hne]; exact hu) (λ hm=>hn (Bb _ hm))
variable{A':Array Bool}
theorem A4R(hr:i∈Region.ready .any ops A)(hu:A'.getD i true=false)(hm:∀ j,A.getD j false=true->A'.getD j false=true):i∈Region.ready .any ops A':=by obtain ⟨h1,oj,hoj,hall⟩:=mem_ready.1 hr;exact mem_ready.2 ⟨hu,oj,hoj,λ e he hb=>hm _ (hall e he hb)⟩
theorem Y3(h:A.getD i true=false):i < A.size:=by
  rcases Nat.lt_or_ge i A.size with h1 | h1
  . exact h1
  . simp [Array.getElem?_eq_none h1] at h
theorem GOk.first(h:GOk ops A is B)(hsz:A'.size=A.size)(hm:∀ j,A.getD j false=true->A'.getD j false=true){k:Nat}(hk:k∈is)(hk':A'.getD k true=false):∃ i,i∈Region.ready .any ops A':=by
  induction h generalizing k with
  | nil=>cases hk
  | @cons A B i r hr ho h ih =>
    by_cases hi:A'.getD i true=false
    . exact ⟨i,A4R hr hi hm⟩
    . rcases List.mem_cons.1 hk with rfl | hk
      . exact absurd hk' hi
      . refine ih (by simpa using hsz) (λ j hj=>?_) hk hk';by_cases e:i=j
        . subst e;have hlt:=Y3 (L3 hr);have hlt':i < A'.size:=by omega
          simp [hlt'] at hi ⊢; exact hi
        . rw [getD_set_ne false e] at hj;exact hm j hj
theorem A1d(A:Array Bool)(X:List Nat):(mark A X).size=A.size:=by
  induction X generalizing A with
  | nil=>rfl
  | cons i X ih=>simp only [mark,List.foldl_cons] at ih ⊢; rw [ih]; simp
theorem A1e(h:A.getD j false=true):(mark A X).getD j false=true:=by
  have:=A2q X A j;simp only [Array.getD_eq_getD_getElem?,this] at h ⊢;split
  . rfl
  . exact h
theorem St.freezeAll{C:Cx}{M J:Mem}{w:World}:∀ {B:Mem},St C (B++M) J w->St C M (B++J) w
  | [],h=>h
  | x::B,h=>by
    have h1:=St.freezeAll (B:=B) (h.freeze)
    exact h1.drop (Ao _) λ y hy=>by simp only [List.cons_append,List.mem_cons,List.mem_append] at hy ⊢;rcases hy with hy | hy | hy <;> simp [hy]
theorem A2r:∀ {Y:List Nat},X.Nodup->(∀ x∈X,x∈Y)->X.length<=Y.length:=by
  induction X with
  | nil=>intros; simp
  | cons x X ih =>
    intro Y hn hs;simp only [List.nodup_cons] at hn;have h1:=ih (Y:=Y.erase x) hn.2 λ z hz=>(List.mem_erase_of_ne (λ e=>hn.1 (by rw [<- e]; exact hz))).2 (hs z (Bb _ hz));have h2:=List.length_erase_of_mem (hs x Ax);have h3:0 < Y.length:=List.length_pos_of_mem (hs x Ax);simp only [List.length_cons]; omega
theorem A2s(hn:X.Nodup)(hs:∀ x∈X,x∈Y)(hl:Y.length<=X.length):∀ y∈Y,y∈X:=by
  intro y hy;apply Classical.byContradiction;intro hno
  have:=A2r (X:=y::X) (Y:=Y) (List.nodup_cons.2 ⟨hno,hn⟩) (λ z hz=>by
    rcases List.mem_cons.1 hz with rfl | hz
    . exact hy
    . exact hs z hz)
  simp at this; omega
variable{G:List Gm}{g:Gm}
theorem B7a(h:(G.map (·.i)).Nodup){g':Gm}(hg:g∈G)(hg':g'∈G)(e:g.i=g'.i):g=g':=by
  induction G with
  | nil=>cases hg
  | cons x G ih =>
    simp only [List.map_cons,List.nodup_cons] at h;rcases List.mem_cons.1 hg with h1 | h1 <;> rcases List.mem_cons.1 hg' with h2 | h2
    . rw [h1,h2]
    . exact absurd (by rw [<- h1,e]; exact Al (f:=Gm.i) h2) h.1
    . exact absurd (by rw [<- h2,<- e]; exact Al (f:=Gm.i) h1) h.1
    . exact ih h.2 h1 h2
theorem A2t{N:Nat}{l:Env}{vs:Nat->Value}{a:Act}(hg:g∈G)(hd:(G.map (·.d)).Nodup)(hi:(G.map (·.i)).Nodup){v:Value}(h:Ag N ((g.d,v)::(A3i G vs++l)) a) :
    Ag N (A3i G (λ k=>if k=g.i then v else vs k)++l) a:=by
  refine h.sub ?_
  have key:∀ (G:List Gm),g∈G->(G.map (·.d)).Nodup->(G.map (·.i)).Nodup->∀ k u,lk (A3i G (λ k=>if k=g.i then v else vs k)++l) k=some u->lk ((g.d,v)::(A3i G vs++l)) k=some u:=by
    intro G
    have step:∀ (G:List Gm),(∀ x∈G,x.i≠g.i)->A3i G (λ k=>if k=g.i then v else vs k)=A3i G vs:=by intro G hG;exact Bt λ x hx=>by simp [hG x hx]
    induction G with
    | nil=>intro h; cases h
    | cons x G ih =>
      intro hm hd hi k u hk;simp only [List.map_cons,List.nodup_cons] at hd hi;rcases List.mem_cons.1 hm with rfl | hm
      . have e:=step G λ x hx e=>hi.1 (e▸Al (f:=Gm.i) hx);simp only [A3i,List.map_cons,List.cons_append,lk] at hk ⊢;by_cases h1:g.d=k
        . subst h1; simpa using hk
        . simp only [A0h h1,cond_false] at hk ⊢;rw [show List.map (λ g_1=>(g_1.d,if g_1.i=g.i then v else vs g_1.i)) G=A3i G vs from e] at hk;exact hk
      . have hne:x.i≠g.i:=λ e=>hi.1 (e▸Al (f:=Gm.i) hm);have hned:x.d≠g.d:=λ e=>hd.1 (e▸Al (f:=Gm.d) hm);simp only [A3i,List.map_cons,List.cons_append,lk,hne,if_false] at hk ⊢;by_cases h1:g.d=k
        . subst h1;simp only [A0h hned,cond_false] at hk;have:=ih hm hd.2 hi.2 g.d u hk;simp only [lk] at this ⊢;simpa using this
        . simp only [A0h h1,cond_false];by_cases h2:x.d=k
          . subst h2; simpa using hk
          . simp only [A0h h2,cond_false] at hk ⊢;have:=ih hm hd.2 hi.2 k u hk;simp only [lk,A0h h1,cond_false] at this;exact this
  exact key G hg hd hi
section group
variable{C:Cx}{Q:XQ}{l:Env}{M J:Mem}{os:List Oper}{K:Nat->Prop}{n0:Nat}{nd:List Nat}{plan:List (Nat×Nat)}
def B4O(os:List Oper)(l:Env)(o:Oper):Prop:=o.guard=none∨∃ j t b oj,o.guard=some (j,b)∧nth os j=some oj∧oj.dst=some t∧lk l t=some (.bool b)
theorem B4O.wanted{o:Oper}(h:B4O os l o){a:Act}(ha:Ag C.N l a):Region.wanted o (yielded os.toArray a.tmps)=true:=by
  rcases h with h | ⟨j,t,b,oj,h1,h2,h3,h4⟩
  . simp [Region.wanted,h]
  . have hj':os.toArray[j]? = some oj:=by rw [W7] at h2; simpa using h2
    simp only [Region.wanted,h1,yielded,hj',Option.bind_some,h3,ha.slot _ _ h4]; simp
def C2T(C:Cx)(os:List Oper)(l:Env)(M J:Mem)(G:List Gm)(g:Gm):Prop :=
  ∃ o,nth os g.i=some o∧∀ (vs:Nat->Value) (R:Mem) (w:World),(∀ x∈M++(J++C.A),x∈R)->(∀ g'∈G,anc os.toArray os.toArray.size g.i g'.i=true->g'.φ (vs g'.i) R) ->
    B4O os (A3i G vs++l) o∧OpL ⟨C.P,w,[],R,C.N⟩ o (A3i G vs++l) [] [] (λ l' M' J'=>∃ v,l'=(g.d,v)::(A3i G vs++l)∧g.φ v (M'++(J'++R)))
def B4P(φ:Value->Mem->Prop):Prop:=∀ v R R',(∀ x∈R,x∈R')->φ v R->φ v R'
theorem B4Q(hmono:∀ g∈G,B4P g.φ)(hd:(G.map (·.d)).Nodup)(hi:(G.map (·.i)).Nodup)(hdN:∀ g∈G,g.d < C.N)(hob:∀ g∈G,C2T C os l M J G g)(hok:GOk os.toArray A (G.map (·.i)) B)
    (hfin:∀ (vs:Nat->Value) Jn a w,(∀ g∈G,g.φ (vs g.i) (M++((Jn++J)++C.A)))->Ag C.N (A3i G vs++l) a->St C M (Jn++J) w->n0<=w.heap.size->A0z C.P os.toArray (T3 (A7x C Q)) (Sk K) nd.contains plan.length B a w) :
    ∀ (n:Nat) (X:List Nat) (vs:Nat->Value) (Jn:Mem) (a:Act) (w:World),X.Nodup->(∀ i∈X,i∈G.map (·.i))->n+X.length=G.length->R6 os.toArray (mark A X) ->
      (∀ g∈G,g.i∈X->g.φ (vs g.i) (M++((Jn++J)++C.A)))->Ag C.N (A3i G vs++l) a->St C M (Jn++J) w->n0<=w.heap.size ->
      A0z C.P os.toArray (T3 (A7x C Q)) (Sk K) nd.contains (n+plan.length) (mark A X) a w:=by
  intro n
  induction n with
  | zero =>
    intro X vs Jn a w hnd hX hlen hcl hφ ha hw hn
    have hall:∀ i,i∈X ↔ i∈G.map (·.i):=λ i=>⟨hX i,A2s hnd hX (by simp; omega) i⟩
    rw [Nat.zero_add,A5v hall,<- hok.mark];exact hfin vs Jn a w (λ g hg=>hφ g hg ((hall _).2 (Al (f:=Gm.i) hg))) ha hw hn
  | succ n ih =>
    intro X vs Jn a w hnd hX hlen hcl hφ ha hw hn
    have hmiss:∃ k∈G.map (·.i),k ∉ X:=by apply Classical.byContradiction;intro hno;have hs:∀ k∈G.map (·.i),k∈X:=λ k hk=>Classical.byContradiction λ h=>hno ⟨k,hk,h⟩;have:=A2r hi hs;simp at this; omega
    obtain ⟨k,hkG,hkX⟩:=hmiss
    have hun:∀ i∈G.map (·.i),A.getD i true=false:=by
      have:∀ {is A B},GOk os.toArray A is B->∀ i∈is,A.getD i true=false:=by
        intro is A B h
        induction h with
        | nil=>intro i hi; cases hi
        | @cons A B i r hr ho h ih =>
          intro k hk;rcases List.mem_cons.1 hk with rfl | hk
          . exact L3 hr
          . have h2:=ih k hk;by_cases e:i=k
            . subst e; exact L3 hr
            . rwa [getD_set_ne true e] at h2
      exact this hok
    have hkun:(mark A X).getD k true=false:=I9.2 ⟨hun k hkG,λ h=>hkX h.1⟩;rw [show n+1+plan.length=(n+plan.length)+1 by omega];refine ⟨λ h0=>?_,λ i hir=>?_⟩
    . obtain ⟨i,hir⟩:=hok.first (A1d A X) (λ j hj=>A1e hj) hkG hkun;rw [h0] at hir; cases hir
    . have hiG:i∈G.map (·.i):=by apply Classical.byContradiction;intro hno;have h1:=I9.1 (L3 hir);have h2:=hok.outer k hkG i (A3r hir) h1.1 hno;exact U8 hkun (R7 hcl h2 hir)
      obtain ⟨g,hg,rfl⟩:=List.mem_map.1 hiG;have hiX:g.i ∉ X:=λ h=>(I9.1 (L3 hir)).2 ⟨h,Y3 (hun _ hiG)⟩;obtain ⟨o,hget,howe⟩:=hob g hg;have hi':os.toArray[g.i]? = some o:=by rw [W7] at hget; simpa using hget
      obtain ⟨hask,hop⟩:=howe vs (M++((Jn++J)++C.A)) w (λ x hx=>by simp only [List.mem_append] at hx ⊢; rcases hx with h | h | h <;> simp [h]) (λ g' hg' hanc=>hφ g' hg' (by
        have h3:=R7 hcl hanc hir;rcases A0p h3 with h4 | h4
        . exact (U8 (hun _ (Al (f:=Gm.i) hg')) h4).elim
        . exact h4))
      unfold wpOp;simp only [hi'];rw [if_pos (hask.wanted ha)];have hcal:=hw.callee (Mc:=[]) (R:=M) (.refl _);refine .inl (Oper.wp_mono ?_ (hop _ a w ha hcal.cx));rintro a' w' ⟨l',M',J',ha',hs',v,rfl,hφv⟩;have hsz:w.heap.size<=w'.heap.size:=hs'.size;have hb:=hw.back (Mc:=[]) (R:=M) (.refl _) hs'.cx;have hfr:=St.freezeAll hb
      have hfr2:St C M ((M'++(J'++Jn))++J) w':=hfr.drop (Ao _) λ x hx=>by simp only [List.mem_append] at hx ⊢;rcases hx with (h | h | h) | h <;> simp [h]
      refine ⟨λ _ b hb' hnk=>hs'.frame b hb' (by simp),?_⟩;rw [<- U3];refine ih (X++[g.i]) (λ k=>if k=g.i then v else vs k) (M'++(J'++Jn)) a' w' ?_ ?_ (by simp; omega) ?_ ?_ (A2t hg hd hi ha') hfr2 (Az hn hsz)
      . rw [List.nodup_append]; exact ⟨hnd,by simp,λ x hx y hy e=>hiX (by simp at hy; subst hy; exact e▸hx)⟩
      . intro j hj;rcases List.mem_append.1 hj with hj | hj
        . exact hX j hj
        . simp at hj; subst hj; exact hiG
      . rw [U3]; exact K1 hcl hir
      . intro g' hg' hm;by_cases e:g'.i=g.i
        . have:g'=g:=B7a hi hg' hg e;subst this;simp only [if_true];exact hmono g' hg' _ _ _ (λ x hx=>by simp only [List.mem_append] at hx ⊢; rcases hx with h | h | h | ((h | h) | h) <;> simp [h]) hφv
        . simp only [e,if_false];have hm':g'.i∈X:=by simpa [e] using hm
          exact hmono g' hg' _ _ _ (λ x hx=>by simp only [List.mem_append] at hx ⊢; rcases hx with h | (h | h) | h <;> simp [h]) (hφ g' hg' hm')
theorem B4R(G:List Gm)(hmono:∀ g∈G,B4P g.φ)(hd:(G.map (·.d)).Nodup)(hi:(G.map (·.i)).Nodup)(hdN:∀ g∈G,g.d < C.N)(hob:∀ g∈G,C2T C os l M J G g)
    (h:∀ (vs:Nat->Value) Jn,(∀ g∈G,g.φ (vs g.i) (M++((Jn++J)++C.A)))->XK C os Q K n0 nd plan (A3i G vs++l) M (Jn++J)):XK C os Q K n0 nd (enc (G.map (·.i))++plan) l M J:=by
  intro listed hcl hp a w ha hw hn;obtain ⟨B,hok,hp2⟩:=A8z hp
  have hBcl:R6 os.toArray B:=by
    have:∀ {A is B},GOk os.toArray A is B->R6 os.toArray A->R6 os.toArray B:=by
      intro A is B h
      induction h with
      | nil=>exact id
      | cons hr _ _ ih=>exact λ hc=>ih (K1 hc hr)
    exact this hok hcl
  have hlen:(enc (G.map (·.i))++plan).length=G.length+plan.length:=by
    have:∀ is:List Nat,(enc is).length=is.length:=by
      intro is
      induction is with
      | nil=>rfl
      | cons i r ih=>cases r with
        | nil=>rfl
        | cons j r=>simp only [enc,List.length_cons] at ih ⊢; rw [ih]
    simp [this]
  rw [hlen]
  -- the slots' own content, to begin with
  let vs:Nat->Value:=λ k=>match G.find? (λ g=>g.i == k) with
    | some g=>(a.tmps[g.d]?).getD undef
    | none=>undef
  have hag:Ag C.N (A3i G vs++l) a:=by
    refine ⟨ha.defers,ha.size,?_⟩;intro k u hk
    have key:∀ G':List Gm,(∀ g∈G',g∈G)->lk (A3i G' vs++l) k=some u->a.tmps[k]? = some u:=by
      intro G'
      induction G' with
      | nil=>intro _ h; exact ha.slot k u h
      | cons g G' ih =>
        intro hs h;simp only [A3i,List.map_cons,List.cons_append,lk] at h;by_cases e:g.d=k
        . subst e;simp at h
          have hf:G.find? (λ x=>x.i == g.i)=some g:=by
            have hgG:=hs g Ax
            cases hq:G.find? (λ x=>x.i == g.i) with
            | none=>have:=List.find?_eq_none.1 hq g hgG; simp at this
            | some x =>
              have h1:=List.find?_some hq;have h2:=List.mem_of_find?_eq_some hq;rw [B7a hi h2 hgG (by simpa using h1)]
          have hlt:g.d < a.tmps.size:=by rw [ha.size]; exact hdN g (hs g Ax)
          rw [<- h];show a.tmps[g.d]? = some (vs g.i);simp only [vs,hf,Array.getElem?_eq_getElem hlt,Option.getD_some]
        . simp only [A0h e,cond_false] at h;exact ih (λ x hx=>hs x (Bb _ hx)) h
    exact key G (λ _ h=>h) hk
  exact B4Q (n0:=n0) (K:=K) hmono hd hi hdN hob hok (λ vs Jn a w hφ ha hw hn=>h vs Jn hφ B hBcl hp2 a w ha hw hn) G.length [] vs [] a w .nil (λ _ h=>by cases h) (by simp) hcl (λ _ _ h=>by cases h) hag hw hn
end group
variable{α:Type}
theorem ln0:([]:List α).length=([]:List α).length:=rfl
theorem lnS{x y:α}{r s:List α}(h:r.length=s.length):(x::r).length=(y::s).length:=by rw [List.length_cons,List.length_cons,h]
theorem I7{p:α->Prop}:∀ x∈([]:List α),p x:=λ _ h=>by cases h
theorem A5{p:α->Prop}{y:α}{r:List α}(h:p y)(hr:∀ x∈r,p x):∀ x∈y::r,p x:=λ x hx=>(List.mem_cons.1 hx).elim (λ e=>e▸h) (hr x)
theorem B8p{u:Value}:B4P λ v _=>v=u:=λ _ _ _ _ hp=>hp
def ndL:List Nat->Bool
  | []=>true
  | x::l=>!l.contains x && ndL l
theorem B7b:∀ {l:List Nat},ndL l=true->l.Nodup
  | [],_=>List.nodup_nil
  | x::l,h=>by unfold ndL at h;rw [Bool.and_eq_true] at h;refine List.nodup_cons.2 ⟨λ hm=>?_,B7b h.2⟩;have h1:=h.1;rw [List.contains_iff_mem.2 hm] at h1;cases h1
theorem nd_{l:List Nat}(h:ndL l=true:=by kernel_rfl):l.Nodup:=B7b h
theorem dl_{G:List α}{f:α->Nat}{N:Nat}(h:(G.all λ g=>Nat.blt (f g) N)=true:=by kernel_rfl):∀ g∈G,f g < N:=λ g hg=>P2 (List.all_eq_true.1 h g hg)
theorem gx{G:List α}{p q:α->Prop}{a:α}(i:Nat)(ha:∀ g∈G,p g->q g)(h:G[i]? = some a:=by exact E)(hp:p a:=by kernel_rfl):q a:=ha a (As h) hp
theorem gy{G:List α}{q:α->Prop}{a:α}(i:Nat)(ha:∀ g∈G,q g)(h:G[i]? = some a:=by exact E):q a:=ha a (As h)
theorem gA{p:α->Prop}{G:List α}(h:∀ x∈G,p x:=by repeat' first | exact I7 | exact λ _ _ _ _ _ h=>h | refine A5 ?_ ?_):∀ x∈G,p x:=h
variable{K:Nat->Prop}
theorem gk0{L:List Mem}(h:L.all (·.isEmpty)=true:=by kernel_rfl):∀ m∈L,∀ x∈m,K x.1:=λ m hm x hx=>by have:=List.all_eq_true.1 h m hm;rw [List.isEmpty_iff] at this;rw [this] at hx;cases hx
theorem gn0:∀ x∈([]:Mem),K x.1:=λ _ h=>by cases h
theorem gG{C:Cx}{os:List Oper}{l:Env}{M J:Mem}{Gs:List Gm}{o:Oper}(h:∀ (vs:Nat->Value) (R:Mem) (w:World),(∀ x∈M++(J++C.A),x∈R)->(∀ g'∈G,anc os.toArray os.toArray.size g.i g'.i=true->g'.φ (vs g'.i) R)->OpL ⟨C.P,w,[],R,C.N⟩ o (A3i G vs++l) [] [] (λ l' M' J'=>∃ v,l'=(g.d,v)::(A3i G vs++l)∧g.φ v (M'++(J'++R))))
    (t:∀ g∈Gs,C2T C os l M J G g) (ho:nth os g.i=some o:=by exact E) (hg:o.guard=none:=by exact E):∀ x∈g::Gs,C2T C os l M J G x:=A5 ⟨o,ho,λ vs R w hb ha=>⟨.inl hg,h vs R w hb ha⟩⟩ t
end Go.Px

namespace Go.Px
variable{x0 x1 y0 y1:Value}
theorem ln2:[x0,x1].length=[y0,y1].length:=rfl
theorem al2(h0:x0.oneCell'=true:=by exact E)(h1:x1.oneCell'=true:=by exact E):∀ c∈[x0,x1],c.oneCell'=true:=A5 h0 (A5 h1 (I7))
variable{x2 y2:Value}
theorem ln3:[x0,x1,x2].length=[y0,y1,y2].length:=rfl
theorem al3(h0:x0.oneCell'=true:=by exact E)(h1:x1.oneCell'=true:=by exact E)(h2:x2.oneCell'=true:=by exact E):∀ c∈[x0,x1,x2],c.oneCell'=true:=A5 h0 (A5 h1 (A5 h2 (I7)))
variable{x3 y3:Value}
theorem ln4:[x0,x1,x2,x3].length=[y0,y1,y2,y3].length:=rfl
theorem al4(h0:x0.oneCell'=true:=by exact E)(h1:x1.oneCell'=true:=by exact E)(h2:x2.oneCell'=true:=by exact E)(h3:x3.oneCell'=true:=by exact E):∀ c∈[x0,x1,x2,x3],c.oneCell'=true:=A5 h0 (A5 h1 (A5 h2 (A5 h3 (I7))))
variable{x4 y4:Value}
theorem ln5:[x0,x1,x2,x3,x4].length=[y0,y1,y2,y3,y4].length:=rfl
theorem al5(h0:x0.oneCell'=true:=by exact E)(h1:x1.oneCell'=true:=by exact E)(h2:x2.oneCell'=true:=by exact E)(h3:x3.oneCell'=true:=by exact E)(h4:x4.oneCell'=true:=by exact E):∀ c∈[x0,x1,x2,x3,x4],c.oneCell'=true:=A5 h0 (A5 h1 (A5 h2 (A5 h3 (A5 h4 (I7)))))
variable{x5 y5:Value}
theorem ln6:[x0,x1,x2,x3,x4,x5].length=[y0,y1,y2,y3,y4,y5].length:=rfl
theorem al6(h0:x0.oneCell'=true:=by exact E)(h1:x1.oneCell'=true:=by exact E)(h2:x2.oneCell'=true:=by exact E)(h3:x3.oneCell'=true:=by exact E)(h4:x4.oneCell'=true:=by exact E)(h5:x5.oneCell'=true:=by exact E):∀ c∈[x0,x1,x2,x3,x4,x5],c.oneCell'=true:=A5 h0 (A5 h1 (A5 h2 (A5 h3 (A5 h4 (A5 h5 (I7))))))
variable{x6 x7 y6 y7:Value}
theorem ln8:[x0,x1,x2,x3,x4,x5,x6,x7].length=[y0,y1,y2,y3,y4,y5,y6,y7].length:=rfl
theorem al8(h0:x0.oneCell'=true:=by exact E)(h1:x1.oneCell'=true:=by exact E)(h2:x2.oneCell'=true:=by exact E)(h3:x3.oneCell'=true:=by exact E)(h4:x4.oneCell'=true:=by exact E)(h5:x5.oneCell'=true:=by exact E)(h6:x6.oneCell'=true:=by exact E)(h7:x7.oneCell'=true:=by exact E):∀ c∈[x0,x1,x2,x3,x4,x5,x6,x7],c.oneCell'=true:=A5 h0 (A5 h1 (A5 h2 (A5 h3 (A5 h4 (A5 h5 (A5 h6 (A5 h7 (I7))))))))
variable{x8 x9 y8 y9:Value}
theorem ln10:[x0,x1,x2,x3,x4,x5,x6,x7,x8,x9].length=[y0,y1,y2,y3,y4,y5,y6,y7,y8,y9].length:=rfl
theorem al10(h0:x0.oneCell'=true:=by exact E)(h1:x1.oneCell'=true:=by exact E)(h2:x2.oneCell'=true:=by exact E)(h3:x3.oneCell'=true:=by exact E)(h4:x4.oneCell'=true:=by exact E)(h5:x5.oneCell'=true:=by exact E)(h6:x6.oneCell'=true:=by exact E)(h7:x7.oneCell'=true:=by exact E)(h8:x8.oneCell'=true:=by exact E)(h9:x9.oneCell'=true:=by exact E):∀ c∈[x0,x1,x2,x3,x4,x5,x6,x7,x8,x9],c.oneCell'=true:=A5 h0 (A5 h1 (A5 h2 (A5 h3 (A5 h4 (A5 h5 (A5 h6 (A5 h7 (A5 h8 (A5 h9 (I7))))))))))
variable{x10 x11 y10 y11:Value}
theorem ln12:[x0,x1,x2,x3,x4,x5,x6,x7,x8,x9,x10,x11].length=[y0,y1,y2,y3,y4,y5,y6,y7,y8,y9,y10,y11].length:=rfl
theorem al12(h0:x0.oneCell'=true:=by exact E)(h1:x1.oneCell'=true:=by exact E)(h2:x2.oneCell'=true:=by exact E)(h3:x3.oneCell'=true:=by exact E)(h4:x4.oneCell'=true:=by exact E)(h5:x5.oneCell'=true:=by exact E)(h6:x6.oneCell'=true:=by exact E)(h7:x7.oneCell'=true:=by exact E)(h8:x8.oneCell'=true:=by exact E)(h9:x9.oneCell'=true:=by exact E)(h10:x10.oneCell'=true:=by exact E)(h11:x11.oneCell'=true:=by exact E):∀ c∈[x0,x1,x2,x3,x4,x5,x6,x7,x8,x9,x10,x11],c.oneCell'=true:=A5 h0 (A5 h1 (A5 h2 (A5 h3 (A5 h4 (A5 h5 (A5 h6 (A5 h7 (A5 h8 (A5 h9 (A5 h10 (A5 h11 (I7))))))))))))
variable{x12 y12:Value}
theorem ln13:[x0,x1,x2,x3,x4,x5,x6,x7,x8,x9,x10,x11,x12].length=[y0,y1,y2,y3,y4,y5,y6,y7,y8,y9,y10,y11,y12].length:=rfl
theorem al13(h0:x0.oneCell'=true:=by exact E)(h1:x1.oneCell'=true:=by exact E)(h2:x2.oneCell'=true:=by exact E)(h3:x3.oneCell'=true:=by exact E)(h4:x4.oneCell'=true:=by exact E)(h5:x5.oneCell'=true:=by exact E)(h6:x6.oneCell'=true:=by exact E)(h7:x7.oneCell'=true:=by exact E)(h8:x8.oneCell'=true:=by exact E)(h9:x9.oneCell'=true:=by exact E)(h10:x10.oneCell'=true:=by exact E)(h11:x11.oneCell'=true:=by exact E)(h12:x12.oneCell'=true:=by exact E):∀ c∈[x0,x1,x2,x3,x4,x5,x6,x7,x8,x9,x10,x11,x12],c.oneCell'=true:=A5 h0 (A5 h1 (A5 h2 (A5 h3 (A5 h4 (A5 h5 (A5 h6 (A5 h7 (A5 h8 (A5 h9 (A5 h10 (A5 h11 (A5 h12 (I7)))))))))))))
variable{x13 x14 x15 y13 y14 y15:Value}
theorem ln16:[x0,x1,x2,x3,x4,x5,x6,x7,x8,x9,x10,x11,x12,x13,x14,x15].length=[y0,y1,y2,y3,y4,y5,y6,y7,y8,y9,y10,y11,y12,y13,y14,y15].length:=rfl
theorem al16(h0:x0.oneCell'=true:=by exact E)(h1:x1.oneCell'=true:=by exact E)(h2:x2.oneCell'=true:=by exact E)(h3:x3.oneCell'=true:=by exact E)(h4:x4.oneCell'=true:=by exact E)(h5:x5.oneCell'=true:=by exact E)(h6:x6.oneCell'=true:=by exact E)(h7:x7.oneCell'=true:=by exact E)(h8:x8.oneCell'=true:=by exact E)(h9:x9.oneCell'=true:=by exact E)(h10:x10.oneCell'=true:=by exact E)(h11:x11.oneCell'=true:=by exact E)(h12:x12.oneCell'=true:=by exact E)(h13:x13.oneCell'=true:=by exact E)(h14:x14.oneCell'=true:=by exact E)(h15:x15.oneCell'=true:=by exact E):∀ c∈[x0,x1,x2,x3,x4,x5,x6,x7,x8,x9,x10,x11,x12,x13,x14,x15],c.oneCell'=true:=A5 h0 (A5 h1 (A5 h2 (A5 h3 (A5 h4 (A5 h5 (A5 h6 (A5 h7 (A5 h8 (A5 h9 (A5 h10 (A5 h11 (A5 h12 (A5 h13 (A5 h14 (A5 h15 (I7))))))))))))))))
variable{x16 x17 y16 y17:Value}
theorem ln18:[x0,x1,x2,x3,x4,x5,x6,x7,x8,x9,x10,x11,x12,x13,x14,x15,x16,x17].length=[y0,y1,y2,y3,y4,y5,y6,y7,y8,y9,y10,y11,y12,y13,y14,y15,y16,y17].length:=rfl
theorem al18(h0:x0.oneCell'=true:=by exact E)(h1:x1.oneCell'=true:=by exact E)(h2:x2.oneCell'=true:=by exact E)(h3:x3.oneCell'=true:=by exact E)(h4:x4.oneCell'=true:=by exact E)(h5:x5.oneCell'=true:=by exact E)(h6:x6.oneCell'=true:=by exact E)(h7:x7.oneCell'=true:=by exact E)(h8:x8.oneCell'=true:=by exact E)(h9:x9.oneCell'=true:=by exact E)(h10:x10.oneCell'=true:=by exact E)(h11:x11.oneCell'=true:=by exact E)(h12:x12.oneCell'=true:=by exact E)(h13:x13.oneCell'=true:=by exact E)(h14:x14.oneCell'=true:=by exact E)(h15:x15.oneCell'=true:=by exact E)(h16:x16.oneCell'=true:=by exact E)(h17:x17.oneCell'=true:=by exact E):∀ c∈[x0,x1,x2,x3,x4,x5,x6,x7,x8,x9,x10,x11,x12,x13,x14,x15,x16,x17],c.oneCell'=true:=A5 h0 (A5 h1 (A5 h2 (A5 h3 (A5 h4 (A5 h5 (A5 h6 (A5 h7 (A5 h8 (A5 h9 (A5 h10 (A5 h11 (A5 h12 (A5 h13 (A5 h14 (A5 h15 (A5 h16 (A5 h17 (I7))))))))))))))))))
variable{x18 x19:Value}
theorem A3s{y18 y19:Value}:[x0,x1,x2,x3,x4,x5,x6,x7,x8,x9,x10,x11,x12,x13,x14,x15,x16,x17,x18,x19].length=[y0,y1,y2,y3,y4,y5,y6,y7,y8,y9,y10,y11,y12,y13,y14,y15,y16,y17,y18,y19].length:=rfl
theorem A3t(h0:x0.oneCell'=true:=by exact E)(h1:x1.oneCell'=true:=by exact E)(h2:x2.oneCell'=true:=by exact E)(h3:x3.oneCell'=true:=by exact E)(h4:x4.oneCell'=true:=by exact E)(h5:x5.oneCell'=true:=by exact E)(h6:x6.oneCell'=true:=by exact E)(h7:x7.oneCell'=true:=by exact E)(h8:x8.oneCell'=true:=by exact E)(h9:x9.oneCell'=true:=by exact E)(h10:x10.oneCell'=true:=by exact E)(h11:x11.oneCell'=true:=by exact E)(h12:x12.oneCell'=true:=by exact E)(h13:x13.oneCell'=true:=by exact E)(h14:x14.oneCell'=true:=by exact E)(h15:x15.oneCell'=true:=by exact E)(h16:x16.oneCell'=true:=by exact E)(h17:x17.oneCell'=true:=by exact E)(h18:x18.oneCell'=true:=by exact E)(h19:x19.oneCell'=true:=by exact E):∀ c∈[x0,x1,x2,x3,x4,x5,x6,x7,x8,x9,x10,x11,x12,x13,x14,x15,x16,x17,x18,x19],c.oneCell'=true:=A5 h0 (A5 h1 (A5 h2 (A5 h3 (A5 h4 (A5 h5 (A5 h6 (A5 h7 (A5 h8 (A5 h9 (A5 h10 (A5 h11 (A5 h12 (A5 h13 (A5 h14 (A5 h15 (A5 h16 (A5 h17 (A5 h18 (A5 h19 (I7))))))))))))))))))))
end Go.Px

namespace Go.Px
variable{e:TypeId}{o:Nat}
section rules
variable{P:Program}{R:Mem}{l:Env}{d:Option Nat}{ty t t':TypeId}{pos:String}{af:Array Edge}{g:Option (Nat×Bool)}{x y:Operand}{k k':IntKind}{i j:Int}{a b:Nat}
theorem H2(m:Nat)(hk:k.signed=false)(hm:2 ^ k.bits=m)(hx:ev l x=some (.int k i))(hy:ev l y=some (.int k j))(hi:i=(a:Int))(hj:j=(b:Int)) :
    OpQ P R ⟨d,.binOp .add t x y t',ty,pos,af,g⟩ l (.int k (((a+b) % m:Nat):Int)):=by
  subst hi; subst hj; exact F0 hx hy (addU hk _ (by rw [hm]))
theorem Q3(m:Nat)(hk:k.signed=false)(hm:2 ^ k.bits=m)(hx:ev l x=some (.int k i))(hy:ev l y=some (.int k j))(hi:i=(a:Int))(hj:j=(b:Int)) :
    OpQ P R ⟨d,.binOp .mul t x y t',ty,pos,af,g⟩ l (.int k (((a * b) % m:Nat):Int)):=by
  subst hi; subst hj; exact F0 hx hy (mulU hk _ (by rw [hm]))
theorem A2u(m:Nat)(hk:k.signed=false)(hm:2 ^ k.bits=m)(hx:ev l x=some (.int k i))(hy:ev l y=some (.int k j))(hi:i=(a:Int))(hj:j=(b:Int))(hb:b<=m) :
    OpQ P R ⟨d,.binOp .sub t x y t',ty,pos,af,g⟩ l (.int k (((a+(m - b)) % m:Nat):Int)):=by
  subst hi; subst hj; subst hm; exact F0 hx hy (C3f hk _ hb E)
theorem A8A(m:Nat)(hk:k.signed=false)(hm:2 ^ k.bits=m)(hx:ev l x=some (.int k i))(hy:ev l y=some (.int k j))(hi:i=(a:Int))(hj:j=(b:Int))(h:a+b < m) :
    OpQ P R ⟨d,.binOp .add t x y t',ty,pos,af,g⟩ l (.int k ((a+b:Nat):Int)):=by
  have:=H2 (P:=P) (R:=R) (d:=d) (ty:=ty) (pos:=pos) (af:=af) (g:=g) (t:=t) (t':=t') m hk hm hx hy hi hj;rwa [Af h] at this
theorem B7c(m:Nat)(hk:k.signed=false)(hm:2 ^ k.bits=m)(hx:ev l x=some (.int k i))(hy:ev l y=some (.int k j))(hi:i=(a:Int))(hj:j=(b:Int))(ha:a < m)(h:b<=a) :
    OpQ P R ⟨d,.binOp .sub t x y t',ty,pos,af,g⟩ l (.int k ((a - b:Nat):Int)):=by
  have:=A2u (P:=P) (R:=R) (d:=d) (ty:=ty) (pos:=pos) (af:=af) (g:=g) (t:=t) (t':=t') m hk hm hx hy hi hj (by omega);rwa [show a+(m - b)=(a - b)+m by omega,Nat.add_mod_right,Af (by omega)] at this
theorem P6(s D:Nat)(hD:2 ^ s=D)(hx:ev l x=some (.int k (a:Int)))(hy:ev l y=some (.int k' i))(hi:i=s)(hs:s<=k.bits):OpQ P R ⟨d,.binOp .shr t x y t',ty,pos,af,g⟩ l (.int k ((a / D:Nat):Int)):=by have:=T7 (P:=P) (R:=R) (d:=d) (ty:=ty) (pos:=pos) (af:=af) (g:=g) (t:=t) (t':=t') s hx hy hi hs;rwa [Bz,hD] at this
theorem C0T(s D m:Nat)(hk:k.signed=false)(hD:2 ^ s=D)(hm:2 ^ k.bits=m)(hx:ev l x=some (.int k (a:Int)))(hy:ev l y=some (.int k' i))(hi:i=s)(hs:s<=k.bits):OpQ P R ⟨d,.binOp .shl t x y t',ty,pos,af,g⟩ l (.int k ((a * D % m:Nat):Int)):=by have:=A25 (P:=P) (R:=R) (d:=d) (ty:=ty) (pos:=pos) (af:=af) (g:=g) (t:=t) (t':=t') hk s hx hy hi hs;rwa [Nat.shiftLeft_eq,hD,hm] at this
theorem N4(s D:Nat)(hk:k.signed=false)(hD:2 ^ s=D)(hx:ev l x=some (.int k (a:Int)))(hy:ev l y=some (.int k j))(hj:j=((D - 1:Nat):Int))(ha:a < 2 ^ k.bits)(hs:s<=k.bits):OpQ P R ⟨d,.binOp .and t x y t',ty,pos,af,g⟩ l (.int k ((a % D:Nat):Int)):=by subst hj; subst hD;have h2:2 ^ s - 1 < 2 ^ k.bits:=Bp (Nat.sub_lt (Bx _) (by decide)) (Bq (by decide) hs);have:=A4C (P:=P) (R:=R) (d:=d) (ty:=ty) (pos:=pos) (af:=af) (g:=g) (t:=t) (t':=t') hk hx hy ha h2;rwa [Nat.and_two_pow_sub_one_eq_mod] at this
theorem A1f(D:Nat)(hx:ev l x=some (.int k (a:Int)))(hy:ev l y=some (.int k j))(hj:j=(D:Int))(hD:D≠0)(h:k.wrap ((a / D:Nat):Int)=((a / D:Nat):Int)):OpQ P R ⟨d,.binOp .quo t x y t',ty,pos,af,g⟩ l (.int k ((a / D:Nat):Int)):=by subst hj; exact B0F hx hy hD h
theorem A1g(D:Nat)(hx:ev l x=some (.int k (a:Int)))(hy:ev l y=some (.int k j))(hj:j=(D:Int))(hD:D≠0):OpQ P R ⟨d,.binOp .rem t x y t',ty,pos,af,g⟩ l (.int k ((a % D:Nat):Int)):=by subst hj; exact B0E hx hy hD
theorem E0(off:Nat){t:TypeId}{b n i sz:Nat}{k:IntKind}{ii:Int}(hx:ev l x=some (.pointer (some ⟨b,o,none⟩)))(hy:ev l y=some (.int k ii))
    (hu:P.underlying t=some (.array n e)) (hs:P4 P e=some sz) (hi:ii=i) (hlt:i < n) (ho:o+i * sz=off) :
    OpQ P R ⟨d,.indexAddr t x y,ty,pos,af,g⟩ l (.pointer (some ⟨b,off,none⟩)):=ho▸G2 hx hy hu hs hi hlt
theorem C0U(r:Int)(hx:ev l x=some (.int k i))(hy:ev l y=some (.int k j))(hj:j≠0)(h:k.wrap (i.tdiv j)=r):OpQ P R ⟨d,.binOp .quo t x y t',ty,pos,af,g⟩ l (.int k r):=h▸C0I hx hy hj
end rules
class TakeC(cs:List Value)(o n:Nat)(vs:outParam (List Value)):Prop where
  take:vs.length=n∧∀ j v,vs[j]? = some v->cs[o+j]? = some v
instance TakeC.nil{cs:List Value}:TakeC cs 0 0 []:=⟨E,λ j v h=>by simp at h⟩
instance TakeC.put{x:Value}{r vs:List Value}{n:Nat}[h:TakeC r 0 n vs]:TakeC (x::r) 0 (n+1) (x::vs):=⟨by simp [h.take.1],λ j v hv=>by
  cases j with
  | zero=>simpa using hv
  | succ j=>have:=h.take.2 j v (by simpa using hv); rw [Nat.zero_add] at this ⊢; simpa using this⟩
instance TakeC.skip{x:Value}{r vs:List Value}{o n:Nat}[h:TakeC r o n vs]:TakeC (x::r) (o+1) n vs:=⟨h.take.1,λ j v hv=>by
  have:=h.take.2 j v hv
  rw [show o+1+j=(o+j)+1 by omega]; simpa using this⟩
variable{P:Program}{l:Env}{d:Option Nat}{ty t:TypeId}{pos:String}{af:Array Edge}{g:Option (Nat×Bool)}{x:Operand}{b:Nat}{cs vs:List Value}
theorem I1{R:Mem}{n:Nat}{fr:Nat×Nat}(hx:ev l x=some (.pointer (some ⟨b,o,none⟩)))(ht:A5i P t=some n)
    (hb:(b,Obj.cells cs.toArray e fr)∈R) (h:vs.length=n∧∀ j v,vs[j]? = some v->cs[o+j]? = some v):OpQ P R ⟨d,.load t x,ty,pos,af,g⟩ l (.agg vs.toArray):=F4 hx ht hb h.1 h.2
variable{y:Operand}
theorem A3u{C:Cx}{M J:Mem}{K:Env->Mem->Mem->Prop}{cs':List Value}{M':Mem}(hx:ev l x=some (.pointer (some ⟨b,o,none⟩)))(hy:ev l y=some (.agg vs.toArray))
    (ht:P4 C.P t=some vs.length) (h1:∀ u∈vs,u.oneCell'=true) [hs:SetR cs o vs cs'] (hu:Upd M b (blk cs e) (blk cs' e) M') (k:K l M' J) :
    OpL C ⟨none,.store t x y,ty,pos,af,g⟩ l M J K:=K9 hx hy E ht hs.set.1 h1 hs.set.2.symm hu k
section tuples
variable{P:Program}{R:Mem}{l:Env}{d:Option Nat}{ty:TypeId}{pos:String}{af:Array Edge}{g:Option (Nat×Bool)}{x:Operand}{a b c e:Value}{r:List Value}
theorem Y8(hx:ev l x=some (.tuple (a::r).toArray)):OpQ P R ⟨d,.extract x 0,ty,pos,af,g⟩ l a:=H0 hx rfl
theorem Y4(hx:ev l x=some (.tuple (a::b::r).toArray)):OpQ P R ⟨d,.extract x 1,ty,pos,af,g⟩ l b:=H0 hx rfl
theorem B7d(hx:ev l x=some (.tuple (a::b::c::r).toArray)):OpQ P R ⟨d,.extract x 2,ty,pos,af,g⟩ l c:=H0 hx rfl
theorem q_x3(hx:ev l x=some (.tuple (a::b::c::e::r).toArray)):OpQ P R ⟨d,.extract x 3,ty,pos,af,g⟩ l e:=H0 hx rfl
end tuples
theorem A6G{R:Mem}{z:Operand}{f:FuncId}{fn:Func}{ts:Array TypeId}{a c:Nat}{i j k:Int}(hf:P.funcs[f]? = some fn)
    (h1:fn.body.isNone=true) (h2:(fn.name == "runtime.NumGoroutine")=false) (h3:Extern.findNext fn=none) (h4:Extern.find fn=some add64Entry)
    (hx:ev l x=some (.int .u64 i)) (hy:ev l y=some (.int .u64 j)) (hz:ev l z=some (.int .u64 k)) (hc:c<=1) (hi:i=(a:Int):=by rfl) (hj:j=(b:Int):=by rfl) (hk:k=(c:Int):=by rfl) :
    OpQ P R ⟨d,.call { callee:=.value (.func f),args:=#[x,y,z],argTypes:=ts },ty,pos,af,g⟩ l (.tuple #[.int .u64 (((a+b+c) % 18446744073709551616:Nat):Int),.int .u64 (((a+b+c) / 18446744073709551616:Nat):Int)]):=λ N A w ha hw=>by
  subst hi; subst hj; subst hk
  have hcall:(callFunc f #[.int .u64 (a:Int),.int .u64 (b:Int),.int .u64 (c:Int)]).run P w=.ok (.value (.tuple #[.int .u64 (((a+b+c) % 18446744073709551616:Nat):Int),.int .u64 (((a+b+c) / 18446744073709551616:Nat):Int)])) w:=by rw [run_callFunc_extern hf h2 h1 h3 (e:=add64Entry) h4,run_add64 a b c (by omega) (by omega) (by omega) (by omega)];simp only [Result.andThen];congr 5 <;> omega
  have e:(#[x,y,z]:Array Operand).map A.eval=#[.int .u64 (a:Int),.int .u64 (b:Int),.int .u64 (c:Int)]:=by simp [ha.ev hx,ha.ev hy,ha.ev hz]
  simp only [execOp,resolve,e,Sem.run_bind];simp only [Act.eval,Deferred.ofValue,invoke,Sem.run_pure,Result.andThen_ok,Array.append_empty,Array.empty_append,hcall]
end Go.Px

namespace Go.Px
theorem qi_{P:Program}{R:Mem}{l:Env}{d:Option Nat}{ty t:TypeId}{pos:String}{af:Array Edge}{g:Option (Nat×Bool)}{x y:Operand}{b o:Nat}{k:IntKind}{ii:Int}(off:Nat)(e:TypeId)(n sz i:Nat)(hx:ev l x=some (.pointer (some ⟨b,o,none⟩)):=by exact E)(hy:ev l y=some (.int k ii):=by exact E)
    (hu:P.underlying t=some (.array n e):=by kernel_rfl) (hs:P4 P e=some sz:=by kernel_rfl) (hi:ii=i:=by exact E) (hlt:i < n:=by decide) (ho:o+i * sz=off:=by exact E) :
    OpQ P R ⟨d,.indexAddr t x y,ty,pos,af,g⟩ l (.pointer (some ⟨b,off,none⟩)):=E0 off hx hy hu hs hi hlt ho
end Go.Px

namespace Go.Px
class PickC(M:Mem)(B:Mem)(R:outParam Mem):Prop where
  perm:M.Perm (B++R)
instance(priority:=low) PickC.nil{M:Mem}:PickC M [] M:=⟨.refl _⟩
instance(priority:=high) PickC.here{B M:Mem}:PickC (B++M) B M:=⟨.refl _⟩
instance PickC.sing{x:Nat×Obj}{M:Mem}:PickC (x::M) [x] M:=⟨.refl _⟩
instance(priority:=low) PickC.cons{x:Nat×Obj}{M B R:Mem}[h:PickC M B R]:PickC (x::M) B (x::R):=⟨(List.Perm.cons x h.perm).trans List.perm_middle.symm⟩
instance(priority:=low) PickC.app{D M B R:Mem}[h:PickC M B R]:PickC (D++M) B (D++R):=⟨(List.Perm.append_left D h.perm).trans (List.perm_append_comm_assoc D B R)⟩
instance PickC.whole{B:Mem}:PickC B B []:=⟨by simp⟩
class SubC(X Y:Mem):Prop where
  sub:∀ x,x∈X->x∈Y
instance(priority:=high) SubC.same{X:Mem}:SubC X X:=⟨λ _ h=>h⟩
instance(priority:=high) SubC.here{X Y:Mem}:SubC X (X++Y):=⟨λ _ h=>Ae _ h⟩
instance SubC.left{X Y Z:Mem}[h:SubC X Y]:SubC X (Y++Z):=⟨λ _ hx=>Ae _ (h.sub _ hx)⟩
instance(priority:=low) SubC.right{X Y Z:Mem}[h:SubC X Z]:SubC X (Y++Z):=⟨λ _ hx=>Ai _ (h.sub _ hx)⟩
instance(priority:=low) SubC.tail{X Y:Mem}{y:Nat×Obj}[h:SubC X Y]:SubC X (y::Y):=⟨λ _ hx=>Bb _ (h.sub _ hx)⟩
instance SubC.nil{Y:Mem}:SubC [] Y:=⟨λ _ h=>by simp at h⟩
variable{B R:Mem}
theorem Fit.pick{M M':Mem}(h:M.Perm (B++R))(hr:Fit R M'):Fit M (B++M'):=by obtain ⟨M1,h1,h2⟩:=hr;exact ⟨B++M1,h.trans (h1.append_left B),List.Sublist.append (List.Sublist.refl _) h2⟩
theorem Fit.last{M:Mem}(h:M.Perm (B++R)):Fit M B:=⟨_,h,List.sublist_append_left _ _⟩
variable{e:TypeId}{o:Nat}{ws:List Nat}
section rules
variable{P:Program}{R R':Mem}{l:Env}{d:Option Nat}{ty t t':TypeId}{pos:String}{af:Array Edge}{g:Option (Nat×Bool)}{x y z:Operand}{k k':IntKind}{i j i':Int}{a b:Nat}{v:Value}{sz n:Nat}{xs:List Value}
theorem K7(hx:ev l x=some (.int .i64 i))(hy:ev l y=some (.int .i64 j))(hi:i=(a:Int))(hj:j=(b:Int))(h:a+b < 9223372036854775808):OpQ P R ⟨d,.binOp .add t x y t',ty,pos,af,g⟩ l (.int .i64 ((a+b:Nat):Int)):=by subst hi; subst hj; exact D7 _ hx hy (F7 (by omega) (by omega) (by omega))
theorem Q8(hx:ev l x=some (.int .i64 i))(hy:ev l y=some (.int .i64 j))(hi:i=(a:Int))(hj:j=(b:Int))(h:b<=a)(h2:a < 9223372036854775808):OpQ P R ⟨d,.binOp .sub t x y t',ty,pos,af,g⟩ l (.int .i64 ((a - b:Nat):Int)):=by subst hi; subst hj; exact D7 _ hx hy (W5 (by omega) (by omega) (by omega))
theorem A03(hx:ev l x=some (.int .i64 i))(hy:ev l y=some (.int .i64 j))(hi:i=(a:Int))(hj:j=(b:Int))(h:a * b < 9223372036854775808):OpQ P R ⟨d,.binOp .mul t x y t',ty,pos,af,g⟩ l (.int .i64 ((a * b:Nat):Int)):=by subst hi; subst hj; exact D7 _ hx hy (A1I (by simp) (by omega) (by omega))
theorem T8(hx:ev l x=some (.int k i))(hy:ev l y=some (.int k j))(hi:i=(a:Int))(hj:j=(b:Int))(hb:0 < b):OpQ P R ⟨d,.binOp .rem t x y t',ty,pos,af,g⟩ l (.int k ((a % b:Nat):Int)):=by subst hi; subst hj; exact B0E hx hy (by omega)
theorem B7e(hx:ev l x=some (.int .i64 i))(hy:ev l y=some (.int .i64 j))(hi:i=(a:Int))(hj:j=(b:Int))(hb:0 < b)(h:a < 9223372036854775808):OpQ P R ⟨d,.binOp .quo t x y t',ty,pos,af,g⟩ l (.int .i64 ((a / b:Nat):Int)):=by subst hi; subst hj; exact B0F hx hy (by omega) (A2j (Be (Nat.div_le_self a b) h))
theorem A3S{m:Nat}(hk:k.signed=false)(hm:2 ^ k.bits=m)(hx:ev l x=some (.int k i))(hy:ev l y=some (.int k j))(hi:i=(a:Int))(hj:j=(b:Int))(hb:0 < b)(h:a < m):OpQ P R ⟨d,.binOp .quo t x y t',ty,pos,af,g⟩ l (.int k ((a / b:Nat):Int)):=by subst hi; subst hj; exact B0F hx hy (by omega) (by rw [T5 hk,hm,Af (Be (Nat.div_le_self a b) h)])
theorem A3b(hx:ev l x=some (.int k i))(hy:ev l y=some (.int k' j))(hi:i=(a:Int))(hj:j=(b:Int))(hs:b<=k.bits):OpQ P R ⟨d,.binOp .shr t x y t',ty,pos,af,g⟩ l (.int k ((a / 2 ^ b:Nat):Int)):=by subst hi; subst hj; rw [<- Bz]; exact T7 b hx hy E hs
theorem C0V(m:Nat)(hk:k.signed=false)(hm:2 ^ k.bits=m)(hx:ev l x=some (.int k i))(hy:ev l y=some (.int k' j))(hi:i=(a:Int))(hj:j=(b:Int))(hs:b<=k.bits):OpQ P R ⟨d,.binOp .shl t x y t',ty,pos,af,g⟩ l (.int k ((a * 2 ^ b % m:Nat):Int)):=by subst hi; subst hj; subst hm; rw [<- Nat.shiftLeft_eq]; exact A25 hk b hx hy E hs
theorem G6(hx:ev l x=some v)(hu:slE P t=some sz)(h:Rd R' sz v n xs) :
    OpQ P R ⟨d,.call { callee:=.builtin .len,args:=#[x],argTypes:=#[t] },ty,pos,af,g⟩ l (.int .i64 n):=A02 h hx hu
theorem A3T(hx:ev l x=some v)(hy:ev l y=some (.int k i))(hu:slE P t=some sz)(hi:i=(a:Int))(h:Rd R' sz v n xs)(hj:a<=n) :
    OpQ P R ⟨d,.slice t x none (some y) none,ty,pos,af,g⟩ l (vHi a v):=B8j h hx hy hu a hi hj
theorem A1M(hx:ev l x=some v)(hy:ev l y=some (.int k i))(hu:slE P t=some sz)(hi:i=(a:Int))(h:Rd R' sz v n xs)(hj:a<=n) :
    OpQ P R ⟨d,.slice t x (some y) none none,ty,pos,af,g⟩ l (vLo a sz v):=B8k h hx hy hu a hi hj
theorem C0W(hx:ev l x=some v)(hy:ev l y=some (.int k i))(hz:ev l z=some (.int k' i'))(hu:slE P t=some sz)(hi:i=(a:Int))(hi':i'=(b:Int))(h:Rd R' sz v n xs)(hab:a<=b)(hb:b<=n) :
    OpQ P R ⟨d,.slice t x (some y) (some z) none,ty,pos,af,g⟩ l (vLo a sz (vHi b v)):=C3h h hx hy hz hu a b hi hi' hab hb
theorem A5w{b n sz:Nat}{lo hi mx:Option Operand}{nl nh nm:Option Nat}(hx:ev l x=some (.pointer (some ⟨b,o,none⟩)))(hu:P.underlying t=some (.array n e))(hs:P4 P e=some sz)
    (h1:EvO l lo nl) (h2:EvO l hi nh) (h3:EvO l mx nm) (hmh:nm.isSome=true->nh.isSome=true) (hm:nm.getD n<=n) (hh:nh.getD n<=nm.getD n) (hl:nl.getD 0<=nh.getD n) :
    OpQ P R ⟨d,.slice t x lo hi mx,ty,pos,af,g⟩ l (.slice (some (if nm.getD n=nl.getD 0 then ⟨b,o,none⟩ else ⟨b,o+nl.getD 0 * sz,none⟩)) (nh.getD n - nl.getD 0) (nm.getD n - nl.getD 0)):=λ N a w ha hw=>by
  unfold P4 at hs
  cases hq:P.info? e with
  | none=>simp [hq] at hs
  | some inf =>
    simp only [hq,Option.map_some,Option.some.injEq] at hs;subst hs;simp only [execOp,ha.ev hx,Instr.sliceAt,Sem.run_bind,run_underlying hu,Result.andThen_ok,Instr.sureAddr,Sem.run_pure,V8 ha h1 h2 h3 false n n w hm hh hl hmh];simp [sizeOf,typeInfo,hq,Addr.add];by_cases h0:nl.getD 0 * inf.size=0 <;> simp [h0]
theorem B0Y{b n sz:Nat}(hx:ev l x=some (.pointer (some ⟨b,o,none⟩)))(hu:P.underlying t=some (.array n e))(hs:P4 P e=some sz) :
    OpQ P R ⟨d,.slice t x none none none,ty,pos,af,g⟩ l (.slice (some ⟨b,o,none⟩) n n):=by
  have:=A5w (R:=R) (d:=d) (ty:=ty) (pos:=pos) (af:=af) (g:=g) hx hu hs o0 o0 o0 (by simp) (by simp) (by simp) (by simp);simpa using this
theorem A7K(lo hi:Nat){b n sz:Nat}(hx:ev l x=some (.pointer (some ⟨b,o,none⟩)))(hu:P.underlying t=some (.array n e))(hs:P4 P e=some sz)(hy:ev l y=some (.int k i))(hz:ev l z=some (.int k' i'))(hi1:i=(lo:Int))(hi2:i'=(hi:Int))(h0:lo < n)(h1:lo<=hi)(h2:hi<=n) :
    OpQ P R ⟨d,.slice t x (some y) (some z) none,ty,pos,af,g⟩ l (.slice (some ⟨b,o+lo * sz,none⟩) (hi - lo) (n - lo)):=by
  have:=A5w (R:=R) (d:=d) (ty:=ty) (pos:=pos) (af:=af) (g:=g) hx hu hs (o1 lo hy hi1) (o1 hi hz hi2) o0 (by simp) (by simp) (by simpa using h2) (by simpa using h1);rw [if_neg (by simp; omega)] at this;simpa using this
theorem B8q(hi:Nat){b n sz:Nat}(hx:ev l x=some (.pointer (some ⟨b,o,none⟩)))(hu:P.underlying t=some (.array n e))(hs:P4 P e=some sz)(hz:ev l z=some (.int k' i'))(hi2:i'=(hi:Int))(h2:hi<=n) :
    OpQ P R ⟨d,.slice t x none (some z) none,ty,pos,af,g⟩ l (.slice (some ⟨b,o,none⟩) hi n):=by
  have:=A5w (R:=R) (d:=d) (ty:=ty) (pos:=pos) (af:=af) (g:=g) hx hu hs o0 (o1 hi hz hi2) o0 (by simp) (by simp) (by simpa using h2) (by simp);simpa using this
theorem Rd.mid{R:Mem}{b n cap:Nat}{cs:List Value}{fr:Nat×Nat}(hb:(b,Obj.cells cs.toArray e fr)∈R)(h:o+n<=cs.length)(hc:n<=cap):Rd R 1 (.slice (some ⟨b,o,none⟩) n cap) n ((cs.drop o).take n):=by
  refine ⟨_,cap,E,by simp; omega,hc,.inr ⟨b,o,cs,e,fr,E,hb,λ j u hj=>?_⟩⟩;have hjn:j < n:=by have:=(Ac.1 hj).1; simp at this; omega
  rw [Cb hjn,List.getElem?_drop] at hj;exact hj
theorem H4(hx:ev l x=some v)(hy:ev l y=some (.int k i))(hu:slE P t=some sz)(hi:i=(a:Int))(h:Rd R' sz v n xs)(hj:a < n) :
    OpQ P R ⟨d,.indexAddr t x y,ty,pos,af,g⟩ l (vAt sz a v):=B4E h hx hy hu a hi hj
theorem A0T(hx:ev l x=some (vAt 1 a v))(ht:A0j P t=true)(h:Rd R 1 v n (nums k ws))(hj:a < n):OpQ P R ⟨d,.load t x,ty,pos,af,g⟩ l (.int k ((ws.getD a 0:Nat):Int)):=A4P h hx ht hj
theorem Rd.one{R:Mem}{v:Value}{n sz:Nat}{xs:List Value}(h:Rd R sz v n xs):v.oneCell'=true:=by obtain ⟨p,c,rfl,_⟩:=h; rfl
theorem Sl.one{v:Value}{n sz:Nat}{xs:List Value}(h:Sl sz v n xs B):v.oneCell'=true:=by obtain ⟨p,c,rfl,_⟩:=h.val; rfl
theorem A0K{rows:List (List Value)}{r:List Value}(hx:ev l x=some (vAt sz a v))(ht:A5i P t=some sz)(h:Rd R sz v n rows.flatten)(hl:∀ r∈rows,r.length=sz)(hs:0 < sz)(hr:rows[a]? = some r):OpQ P R ⟨d,.load t x,ty,pos,af,g⟩ l (.agg r.toArray):=by
  obtain ⟨p,c,rfl,h2,h3,h4⟩:=h;have hal:=(Ac.1 hr).1;have hfl:=A8t hl;rcases h4 with rfl | ⟨b,o,cs,e',fr,rfl,hb,hx'⟩
  . rw [h2,Nat.zero_mul] at hfl;have:=Nat.mul_pos (show 0 < rows.length by omega) hs;omega
  . simp only [vAt,Addr.add_mid] at hx;refine F4 hx ht hb (hl r (As hr)) λ j u hj=>?_;have hjl:j < sz:=by have:=(Ac.1 hj).1; rwa [hl r (As hr)] at this
    rw [Nat.add_assoc];exact hx' _ _ (by rw [A3m hl hr j hjl]; exact hj)
theorem N5{s:TypeId}(hx:ev l x=some v)(hc:B0L P s t=true)(h:Rd R 1 v n (nums .u8 ws)):OpQ P R ⟨d,.convert s t x,ty,pos,af,g⟩ l (.string (txt ws)):=A3M h hx hc
end rules
variable{v:Value}{M0:Mem}{by_:Nat}
section loud
variable{C:Cx}{l:Env}{M J:Mem}{K:Env->Mem->Mem->Prop}{d:Nat}{ty t e:TypeId}{pos:String}{af:Array Edge}{g:Option (Nat×Bool)}{x y:Operand}{k:IntKind}
theorem B7f{n a u:Nat}{i:Int}(hx:ev l x=some (vAt 1 a v))(hy:ev l y=some (.int k i))(hi:i=(u:Int))(ht:P4 C.P t=some 1)(h:Sl 1 v n (nums k ws) B)(hj:a < n)(hM:M.Perm (B++M0))(h2:∀ B',Sl 1 v n (nums k (ws.set a u)) B'->K l (B'++M0) J) :
    OpL C ⟨none,.store t x y,ty,pos,af,g⟩ l M J K:=C3i h hx (hi▸hy) ht hj hM h2
theorem H5{sz n m:Nat}{u:Value}{xs ys:List Value}(hx:ev l x=some v)(hy:ev l y=some u)(ht:A1H C.P t=some (e,sz,by_))(hsz:Nat.blt 0 sz=true)
    (hs:Sl sz v n xs B) (hr:Rd (M++(J++C.A)) sz u m ys) (h1c:∀ c∈ys,c.oneCell'=true) (hM:M.Perm (B++M0)) (hmax:n+m<=maxLen) (hbytes:(n+m) * by_<=140737488355328) (hd:Nat.blt d C.N=true)
    (k:∀ v' B',Sl sz v' (n+m) (xs++ys) B'->K ((d,v')::l) (B'++M0) J) :
    OpL C ⟨some d,.call { callee:=.builtin .append,args:=#[x,y],argTypes:=#[t,t] },ty,pos,af,g⟩ l M J K:=V7 hx hy ht hsz hs hr h1c hM hmax hbytes hd k
theorem B0Z{kl kc:IntKind}{i j:Int}{a:Nat}(hx:ev l x=some (.int kl i))(hy:ev l y=some (.int kc j))(ht:mkT C.P t=some (e,k,by_))(hi:i=(a:Int))(hj:j=(a:Int))
    (hb:by_ * a<=281474976710656) (hn:a<=140737488355328) (hd:Nat.blt d C.N=true) (h:∀ v B,Sl 1 v a (nums k (List.replicate a 0)) B->K ((d,v)::l) (B++M) J) :
    OpL C ⟨some d,.makeSlice t x y,ty,pos,af,g⟩ l M J K:=A0F a hx hy ht hi hj hb (by omega) hd λ b=>h _ _ (Sl.fresh (by simp) (by unfold maxLen; omega))
theorem B00{f:FuncId}{xs:List Operand}{vs:List Value}{ts:Array TypeId}{Mc:Mem}{post:Value->Mem->Mem->Prop}(hx:Evs l xs vs)(hc:L0 C.P f=true)(hf:FnX C.P f vs Mc (R++(J++C.A)) post)(hM:M.Perm (Mc++R))(hd:Nat.blt d C.N=true)
    (k:∀ r M' J',post r M' J'->K ((d,r)::l) (M'++R) (J'++J)):OpL C ⟨some d,.call { callee:=.value (.func f),args:=xs.toArray,argTypes:=ts },ty,pos,af,g⟩ l M J K:=D0 hx hc hM hf hd k
end loud
end Go.Px

namespace Go.Px
theorem qP{M B R:Mem}[h:PickC M B R]:M.Perm (B++R):=h.perm
theorem qZ{M:Mem}:Fit M []:=Ci (Aa _)
theorem qS{X Y:Mem}[h:SubC X Y]:∀ x,x∈X->x∈Y:=h.sub
end Go.Px

namespace Go.Px
theorem A0q(p:List Nat):(txt p).size=p.length:=by simp [txt,ByteArray.size]
theorem B8r{ws:List Nat}(h:∀ x∈ws,x < 256){j:Nat}(hj:j < ws.length):(txt ws)[j]? = some (UInt8.ofNat (ws.getD j 0)):=by
  have h2:j < (txt ws).size:=by rw [A0q]; exact hj
  rw [getElem?_pos (txt ws) j h2];congr 1;show ((ws.map UInt8.ofNat).toArray)[j]'_=_;simp only [List.getD,List.getElem?_eq_getElem hj,Option.getD_some];have:∀ (l:List Nat) (h:j < l.length) (h':j < (l.map UInt8.ofNat).toArray.size),(l.map UInt8.ofNat).toArray[j]=UInt8.ofNat l[j]:=λ l h h'=>by simp
  exact this ws hj _
variable{a:List Nat}
theorem B01{b:List Nat}(ha:∀ x∈a,x < 256)(hb:∀ x∈b,x < 256):((txt a).toList == (txt b).toList)=decide (a=b):=by
  have e:∀ w:List Nat,(txt w).toList=w.map UInt8.ofNat:=λ w=>by rw [ByteArray.toList_eq] <;> simp [txt]
  by_cases h:a=b
  . subst h; simp
  . rw [decide_eq_false h];rw [e,e,beq_eq_false_iff_ne];intro hc;exact h (A7I ha hb (by unfold txt; rw [hc]))
theorem A7L(ws:List Nat)(lo hi:Nat):(txt ws).extract lo hi=txt ((ws.take hi).drop lo):=by apply ByteArray.ext;simp [txt,ByteArray.data_extract,List.map_take,List.map_drop,List.extract_eq_take_drop,List.drop_take]
section
variable{P:Program}{R:Mem}{l:Env}{d:Option Nat}{ty s t t' e:TypeId}{pos:String}{af:Array Edge}{g:Option (Nat×Bool)}{x y z:Operand}{v:Value}{n a b:Nat}{k k':IntKind}{i i':Int}{S S':ByteArray}{ws ws':List Nat}
theorem A4S(hx:ev l x=some (.string S))(hS:S=txt ws)(hu:P.underlying t=some .string):OpQ P R ⟨d,.call { callee:=.builtin .len,args:=#[x],argTypes:=#[t] },ty,pos,af,g⟩ l (.int .i64 ((ws.length:Nat):Int)):=by have:=B4s (P:=P) (R:=R) (d:=d) (ty:=ty) (pos:=pos) (af:=af) (g:=g) hx hu;rwa [hS,A0q] at this
theorem A6H(hx:ev l x=some (.string S))(hS:S=txt ws)(h256:∀ x∈ws,x < 256)(hy:ev l y=some (.int k i))(hu:P.underlying t=some .string)(hi:i=(a:Int))(ha:a < ws.length) :
    OpQ P R ⟨d,.index t x y,ty,pos,af,g⟩ l (.int .u8 ((ws.getD a 0:Nat):Int)):=λ N A w hA hw=>by
  subst hi; subst hS;have h1:=getD_lt (i:=a) h256 (by decide);simp only [execOp,hA.ev hx,hA.ev hy,Instr.index,asIntOf,Sem.run_bind,Sem.run_pure,run_underlying hu,Result.andThen_ok,Int.toNat_natCast,B8r h256 ha,if_pos (Int.natCast_nonneg a)]
  have:(UInt8.ofNat (ws.getD a 0)).toNat=ws.getD a 0:=by generalize ws.getD a 0=c at h1;simp; omega
  simp only [this,Sem.run_pure]
theorem B8s{lo hi:Option Operand}{nl nh:Option Nat}(hx:ev l x=some (.string S))(hS:S=txt ws)(hu:P.underlying t=some .string)(h1:EvO l lo nl)(h2:EvO l hi nh)(hh:nh.getD ws.length<=ws.length)(hl:nl.getD 0<=nh.getD ws.length) :
    OpQ P R ⟨d,.slice t x lo hi none,ty,pos,af,g⟩ l (.string (txt ((ws.take (nh.getD ws.length)).drop (nl.getD 0)))):=λ N A w hA hw=>by
  subst hS;have hb:=V8 (P:=P) (lo:=lo) (hi:=hi) (mx:=none) hA h1 h2 o0 false ws.length ws.length w (by simp) (by simpa using hh) (by simpa using hl) (by simp);simp only [Option.map_none] at hb;simp only [execOp,hA.ev hx,Instr.sliceAt,Sem.run_bind,run_underlying hu,Result.andThen_ok,Instr.slice,Option.map_none,Option.isSome_none,Bool.false_eq_true,if_false,A0q,hb];simp [A7L]
theorem C0X(hx:ev l x=some (.string S))(hS:S=txt ws)(hy:ev l y=some (.int k i))(hu:P.underlying t=some .string)(hi:i=(a:Int))(h:a<=ws.length):OpQ P R ⟨d,.slice t x none (some y) none,ty,pos,af,g⟩ l (.string (txt (ws.take a))):=by have:=B8s (P:=P) (R:=R) (d:=d) (ty:=ty) (pos:=pos) (af:=af) (g:=g) hx hS hu o0 (o1 a hy hi) (by simpa using h) (by simp);simpa using this
theorem C3o(hx:ev l x=some (.string S))(hS:S=txt ws)(hy:ev l y=some (.int k i))(hu:P.underlying t=some .string)(hi:i=(a:Int))(h:a<=ws.length):OpQ P R ⟨d,.slice t x (some y) none none,ty,pos,af,g⟩ l (.string (txt (ws.drop a))):=by have:=B8s (P:=P) (R:=R) (d:=d) (ty:=ty) (pos:=pos) (af:=af) (g:=g) hx hS hu (o1 a hy hi) o0 (by simp) (by simpa using h);simpa using this
theorem B8t(hx:ev l x=some (.string S))(hS:S=txt ws)(hy:ev l y=some (.int k i))(hz:ev l z=some (.int k' i'))(hu:P.underlying t=some .string)(hi:i=(a:Int))(hi':i'=(b:Int))(hab:a<=b)(h:b<=ws.length):OpQ P R ⟨d,.slice t x (some y) (some z) none,ty,pos,af,g⟩ l (.string (txt ((ws.take b).drop a))):=by have:=B8s (P:=P) (R:=R) (d:=d) (ty:=ty) (pos:=pos) (af:=af) (g:=g) hx hS hu (o1 a hy hi) (o1 b hz hi') (by simpa using h) (by simpa using hab);simpa using this
theorem A1N(hx:ev l x=some (.string S))(hy:ev l y=some (.string S'))(hS:S=txt ws)(hS':S'=txt ws')(h:ws.length+ws'.length<=9223372036854775807):OpQ P R ⟨d,.binOp .add t x y t',ty,pos,af,g⟩ l (.string (txt (ws++ws'))):=by subst hS; subst hS';have:=B4r (P:=P) (R:=R) (d:=d) (ty:=ty) (pos:=pos) (af:=af) (g:=g) (t:=t) (t':=t') hx hy (by rw [A0q,A0q]; exact h);rwa [A9D] at this
theorem C0Y(hx:ev l x=some (.string S))(hy:ev l y=some (.string S'))(hS:S=txt ws)(hS':S'=txt ws')(h:∀ x∈ws,x < 256)(h':∀ x∈ws',x < 256):OpQ P R ⟨d,.binOp .eql t x y t',ty,pos,af,g⟩ l (.bool (decide (ws=ws'))):=by subst hS; subst hS';have:=A7A (P:=P) (R:=R) (d:=d) (ty:=ty) (pos:=pos) (af:=af) (g:=g) (t:=t) (t':=t') hx hy;rwa [B01 h h'] at this
theorem B02(hx:ev l x=some (.string S))(hy:ev l y=some (.string S'))(hS:S=txt ws)(hS':S'=txt ws')(h:∀ x∈ws,x < 256)(h':∀ x∈ws',x < 256):OpQ P R ⟨d,.binOp .neq t x y t',ty,pos,af,g⟩ l (.bool !(decide (ws=ws'))):=by subst hS; subst hS';have:=B8b (P:=P) (R:=R) (d:=d) (ty:=ty) (pos:=pos) (af:=af) (g:=g) (t:=t) (t':=t') hx hy;rwa [B01 h h'] at this
end
class B256(ws:List Nat):Prop where
  lt:∀ x∈ws,x < 256
instance B256.app{a b:List Nat}[ha:B256 a][hb:B256 b]:B256 (a++b):=⟨λ x h=>(List.mem_append.1 h).elim (ha.lt x) (hb.lt x)⟩
instance B256.drop{a:List Nat}{n:Nat}[ha:B256 a]:B256 (a.drop n):=⟨λ x h=>ha.lt x (List.mem_of_mem_drop h)⟩
theorem B256.cons{x:Nat}(hx:x < 256)(ha:B256 a):B256 (x::a):=⟨λ y h=>(List.mem_cons.1 h).elim (λ h=>h▸hx) (ha.lt y)⟩
def isNil:Value->Bool
  | .slice none _ _=>true
  | _=>false
section
variable{P:Program}{R R':Mem}{l:Env}{d:Option Nat}{ty t t' e:TypeId}{pos:String}{af:Array Edge}{g:Option (Nat×Bool)}{x y:Operand}{v:Value}{n sz:Nat}{xs:List Value}{ms:Array (String×TypeId)}
def C3p(P:Program)(t:TypeId):Bool :=
  match P.underlying t with
  | some (.interface _)=>true
  | _=>false
theorem B03(h:C3p P t=true):∃ ms,P.underlying t=some (.interface ms):=by
  unfold C3p at h;split at h
  . exact ⟨_,by assumption⟩
  . cases h
theorem B04(w:World)(h:P.underlying t=some (.interface ms)):(Op.equal t .nilIface .nilIface).run P w=.ok true w:=by show (Op.equalIn (9999+1) t .nilIface .nilIface).run P w=.ok true w;rw [Op.equalIn]; simp [run_underlying h]
theorem B05(hx:ev l x=some .nilIface)(hi:C3p P t=true):OpQ P R ⟨d,.binOp .neq t x (.const .nilIface) t',ty,pos,af,g⟩ l (.bool false):=λ N a w ha hw=>by obtain ⟨ms,hu⟩:=B03 hi;have hy:a.eval (.const .nilIface)=.nilIface:=rfl;simp only [execOp,ha.ev hx,hy,Sem.run_bind];simp [eqGuard,binOp,B04 w hu]
theorem Rd.isNil{R:Mem}(h:Rd R sz v n xs)(hn:Px.isNil v=true):n=0:=by
  obtain ⟨p,c,rfl,_,_,h4⟩:=h;rcases h4 with h4 | ⟨b,o,cs,e',fr,rfl,_⟩
  . exact h4
  . cases hn
theorem A1h(hx:ev l x=some v)(hu:P.underlying t=some (.slice e))(h:Rd R' sz v n xs):OpQ P R ⟨d,.binOp .eql t x (.const (.slice none 0 0)) t',ty,pos,af,g⟩ l (.bool (isNil v)):=λ N a w ha hw=>by
  have hy:a.eval (.const (.slice none 0 0))=.slice none 0 0:=rfl;obtain ⟨p,c,rfl,_⟩:=h;simp only [execOp,ha.ev hx,hy,Sem.run_bind]
  have:(Op.equal t (.slice p n c) (.slice none 0 0)).run P w=.ok p.isNone w:=by show (Op.equalIn (9999+1) t (.slice p n c) (.slice none 0 0)).run P w=.ok p.isNone w;rw [Op.equalIn];cases p <;> simp [run_underlying hu]
  simp [eqGuard,binOp,this];cases p <;> rfl
end
section
variable{C:Cx}{l:Env}{M J:Mem}{K:Env->Mem->Mem->Prop}{d:Nat}{s t e ty:TypeId}{pos:String}{af:Array Edge}{g:Option (Nat×Bool)}{x y:Operand}{ws:List Nat}{S:ByteArray}
theorem A1i(hx:ev l x=some (.string S))(hS:S=txt ws)(h256:∀ x∈ws,x < 256)(hs:C.P.underlying s=some .string)(ht:C.P.underlying t=some (.slice e))(he:C.P.underlying e=some (.int .u8))(hd:Nat.blt d C.N=true)
    (k:∀ v B,Rd B 1 v ws.length (nums .u8 ws)->K ((d,v)::l) (B++M) J):OpL C ⟨some d,.convert s t x,ty,pos,af,g⟩ l M J K:=by
  subst hS;intro Qp a w ha hw;unfold Oper.wp;simp only [execOp,ha.ev hx,Sem.run_bind,Lib.run_convert_string_bytes w s t e (txt ws) hs ht he,Result.andThen_ok,Sem.run_pure];have hsz:(txt ws).size=ws.length:=A0q ws
  have e1:Lib.bytesWorld w e (txt ws)=w.drew.alloc (.cells (Lib.bytesCells w e (txt ws)) e ((Lib.bytesCells w e (txt ws)).size,(Lib.bytesCells w e (txt ws)).size+1)):=by
    have hh:(Lib.bytesWorld w e (txt ws)).heap=(w.drew.alloc (.cells (Lib.bytesCells w e (txt ws)) e ((Lib.bytesCells w e (txt ws)).size,(Lib.bytesCells w e (txt ws)).size+1))).heap:=by
      apply Array.ext_getElem?;intro i;rcases Nat.lt_trichotomy i w.heap.size with h | h | h
      . rw [Lib.bytesWorld_at_old w e _ i h]; simp [World.alloc,World.drew,Array.getElem?_push,-World.alloc_eq,-World.drew_eq]; omega
      . subst h; rw [Lib.bytesWorld_at_new]; simp [World.alloc,World.drew,-World.alloc_eq,-World.drew_eq]
      . rw [Array.getElem?_eq_none (by rw [Lib.bytesWorld_size]; omega),Array.getElem?_eq_none (by simp [World.alloc,World.drew,-World.alloc_eq,-World.drew_eq]; omega)]
    have:Lib.bytesWorld w e (txt ws)={ w.drew with heap:=(Lib.bytesWorld w e (txt ws)).heap }:=rfl;rw [this,hh]; rfl
  rw [e1];have hg:ws.length<=grownCap w (txt ws).size 0 e:=hsz▸grownCap_ge w (txt ws).size 0 e;refine ⟨_,_,J,ha.put (P2 hd) _,hw.drew.alloc _,k _ [(_,_)] ⟨some ⟨w.heap.size,0,none⟩,grownCap w (txt ws).size 0 e,by rw [hsz],by simp,hg,.inr ⟨w.heap.size,0,(Lib.bytesCells w e (txt ws)).toList,e,_,E,List.mem_singleton.2 E,λ j u hj=>?_⟩⟩⟩;have hjl:j < ws.length:=by have:=(Ac.1 hj).1; simpa using this
  rw [V9 hjl] at hj;cases hj;have h1:=getD_lt (i:=j) h256 (by decide);rw [Nat.zero_add,Array.getElem?_toList];unfold Lib.bytesCells;rw [Array.getElem?_append_left (by simpa [txt] using hjl)];simp [txt,hjl,List.getD];have:ws[j]?.getD 0 < 256:=h1;rw [Ab hjl] at this;simp at this;omega
end
end Go.Px

namespace Go.Px
def ndF:Nat->Nat->Nat
  | 0,_=>1
  | f+1,u=>if u < 10 then 1 else ndF f (u / 10)+1
def nd10(u:Nat):Nat:=ndF 64 u
def dgs(n u:Nat):List Nat:=(List.range n).map λ j=>48+u / 10 ^ (n - 1 - j) % 10
def dec(u:Nat):List Nat:=dgs (nd10 u) u
def dv(l:List Nat):Nat:=l.foldl (λ a c=>a * 10+(c - 48)) 0
theorem A3U:∀ f u,1<=ndF f u
  | 0,_=>Av _
  | f+1,u=>by unfold ndF; split <;> omega
theorem A6I:∀ f u,u < 10 ^ (f+1)->u < 10 ^ ndF f u
  | 0,u,h=>by simpa [ndF] using h
  | f+1,u,h=>by
    unfold ndF;split
    . simpa using by assumption
    . have h1:u / 10 < 10 ^ (f+1):=Nat.div_lt_of_lt_mul (by rw [<- Nat.pow_succ']; exact h);have:=A6I f (u / 10) h1;rw [Nat.pow_succ];omega
theorem A8B:∀ f u,10<=u->10 ^ (ndF f u - 1)<=u
  | 0,u,h=>by simp [ndF]; omega
  | f+1,u,h=>by
    unfold ndF;rw [if_neg (by omega),Nat.add_sub_cancel];by_cases h2:10<=u / 10
    . have h3:=A8B f (u / 10) h2;have h4:=A3U f (u / 10);rw [show ndF f (u / 10)=(ndF f (u / 10) - 1)+1 by omega,Nat.pow_succ];omega
    . have:ndF f (u / 10)=1:=by
        cases f with
        | zero=>rfl
        | succ f=>unfold ndF; rw [if_pos (by omega)]
      rw [this]; simpa using h
variable{u:Nat}
theorem A6J{n:Nat}(hn:0 < n)(h:u < 10 ^ n)(h2:n=1∨10 ^ (n - 1)<=u)(hu:u < 18446744073709551616):nd10 u=n:=by
  have h1:u < 10 ^ nd10 u:=A6I 64 u (Nat.lt_trans hu (by decide));have h0:1<=nd10 u:=A3U 64 u;by_cases h10:10<=u
  . have h3:10 ^ (nd10 u - 1)<=u:=A8B 64 u h10
    have h4:10 ^ (n - 1)<=u:=by
      rcases h2 with rfl | h2
      . simp; omega
      . exact h2
    have a:nd10 u - 1 < n:=(Nat.pow_lt_pow_iff_right (by decide:1 < 10)).1 (Be h3 h);have b:n - 1 < nd10 u:=(Nat.pow_lt_pow_iff_right (by decide:1 < 10)).1 (Be h4 h1);omega
  . have hd:nd10 u=1:=by unfold nd10 ndF; rw [if_pos (by omega)]
    rcases h2 with rfl | h2
    . exact hd
    . have:10 ^ (n - 1) < 10 ^ 1:=by omega
      have:=(Nat.pow_lt_pow_iff_right (by decide:1 < 10)).1 this;omega
theorem A1j(hu:u < 18446744073709551616):nd10 u<=20:=by
  by_cases h10:10<=u
  . have h3:10 ^ (nd10 u - 1)<=u:=A8B 64 u h10;have:10 ^ (nd10 u - 1) < 10 ^ 20:=Be h3 (Nat.lt_trans hu (by decide));have:=(Nat.pow_lt_pow_iff_right (by decide:1 < 10)).1 this;omega
  . have hd:nd10 u=1:=by unfold nd10 ndF; rw [if_pos (by omega)]
    omega
theorem A10(n u:Nat):(dgs n u).length=n:=by simp [dgs]
variable{c:Nat}
theorem B8u{n:Nat}(h:c∈dgs n u):48<=c∧c < 58:=by simp only [dgs,List.mem_map] at h;obtain ⟨j,_,rfl⟩:=h;omega
theorem B4S(n u:Nat):dgs (n+1) u=dgs n (u / 10)++[48+u % 10]:=by
  unfold dgs;rw [List.range_succ,List.map_append];congr 1
  . apply Bt;intro j hj;have:=List.mem_range.1 hj;rw [Bu,<- Nat.pow_succ'];congr 4; omega
  . simp
theorem B7g(l:List Nat)(c:Nat):dv (l++[c])=dv l * 10+(c - 48):=by simp [dv]
theorem B7h:∀ n u,dv (dgs n u)=u % 10 ^ n
  | 0,u=>by simp [dgs,dv,Nat.mod_one]
  | n+1,u=>by rw [B4S,B7g,B7h n,Nat.pow_succ',Nat.mod_mul];omega
theorem A1k(hu:u < 18446744073709551616):dv (dec u)=u:=by unfold dec nd10;rw [B7h,Af (A6I 64 u (Nat.lt_trans hu (by decide)))]
theorem A1l(h:c∈dec u):48<=c∧c < 58:=B8u h
theorem A11(u:Nat):(dec u).length=nd10 u:=A10 _ _
def A1O(i:Int):List Nat:=if i < 0 then 45::dec i.natAbs else dec i.natAbs
variable{i:Int}
theorem A5x(h:c∈A1O i):c=45∨(48<=c∧c < 58):=by
  unfold A1O at h;split at h
  . rcases List.mem_cons.1 h with h | h
    . exact .inl h
    . exact .inr (A1l h)
  . exact .inr (A1l h)
theorem A8C{j:Int}(hi:i.natAbs < 18446744073709551616)(hj:j.natAbs < 18446744073709551616)(h:A1O i=A1O j):i=j:=by
  have head:∀ (u:Nat) (l:List Nat),dec u≠45::l:=by
    intro u l e;have:45∈dec u:=by rw [e]; exact Ax
    have:=A1l this; omega
  unfold A1O at h;split at h <;> split at h
  . have:=congrArg dv (List.cons.inj h).2;rw [A1k hi,A1k hj] at this; omega
  . exact absurd h.symm (head _ _)
  . exact absurd h (head _ _)
  . have:=congrArg dv h;rw [A1k hi,A1k hj] at this; omega
theorem A3v(h:i.natAbs < 18446744073709551616):(A1O i).length<=21:=by have:=A1j h;unfold A1O;split <;> simp [A11] <;> omega
def B0q(f:List Nat)(fs:List (List Nat)):List Nat:=f++fs.flatMap (λ x=>32::x)
theorem A5y{c:Nat}:∀ {a b x y:List Nat},c ∉ a->c ∉ b->a++c::x=b++c::y->a=b∧x=y
  | [],[],x,y,_,_,h=>⟨E,(List.cons.inj h).2⟩
  | [],b::bs,x,y,_,hb,h=>by have:=(List.cons.inj h).1;exact absurd (this▸Ax) hb
  | a::as_,[],x,y,ha,_,h=>by have:=(List.cons.inj h).1;exact absurd (this▸Ax) ha
  | a::as_,b::bs,x,y,ha,hb,h=>by obtain ⟨h1,h2⟩:=List.cons.inj h;obtain ⟨h3,h4⟩:=A5y (λ h=>ha (Bb _ h)) (λ h=>hb (Bb _ h)) h2;exact ⟨by rw [h1,h3],h4⟩
theorem A8D:∀ {fs gs:List (List Nat)} {f g:List Nat},32 ∉ f->32 ∉ g->(∀ x∈fs,32 ∉ x)->(∀ x∈gs,32 ∉ x)->B0q f fs=B0q g gs->f=g∧fs=gs
  | [],[],f,g,_,_,_,_,h=>⟨by simpa [B0q] using h,E⟩
  | [],y::gs,f,g,hf,hg,_,_,h=>by
    have:32∈f:=by
      have e:f=g++32::(y++gs.flatMap λ x=>32::x):=by simpa [B0q] using h
      rw [e]; simp
    exact absurd this hf
  | y::fs,[],f,g,hf,hg,_,_,h=>by
    have:32∈g:=by
      have e:f++32::(y++fs.flatMap λ x=>32::x)=g:=by simpa [B0q] using h
      rw [<- e]; simp
    exact absurd this hg
  | y::fs,z::gs,f,g,hf,hg,h1,h2,h=>by
    have e:f++32::B0q y fs=g++32::B0q z gs:=by simpa [B0q] using h
    obtain ⟨a,b⟩:=A5y hf hg e;obtain ⟨c,d⟩:=A8D (h1 y (by simp)) (h2 z (by simp)) (λ x hx=>h1 x (by simp [hx])) (λ x hx=>h2 x (by simp [hx])) b;exact ⟨a,by rw [c,d]⟩
structure Tm where
  kind:Nat
  of:List Int
  text:List Nat
  n:Int
def Tm.nm(t:Tm):List Nat:=B0q (dec t.kind) (A1O t.n::t.of.map A1O)++58::t.text
structure Tm.ok(t:Tm):Prop where
  kind:t.kind < 256
  n:t.n.natAbs < 18446744073709551616
  of:∀ i∈t.of,i.natAbs < 18446744073709551616
  text:∀ c∈t.text,c < 256
theorem A0A(h:c=32∨c=58):c ∉ A1O i:=λ hc=>by have:=A5x hc; omega
theorem A0r(h:c=32∨c=58):c ∉ dec u:=λ hc=>by have:=A1l hc; omega
theorem Tm.nm_inj{s t:Tm}(hs:s.ok)(ht:t.ok)(h:s.nm=t.nm):s=t:=by
  have no58:∀ (u:Tm),58 ∉ B0q (dec u.kind) (A1O u.n::u.of.map A1O):=by
    intro u hc;simp only [B0q,List.mem_append,List.mem_flatMap,List.mem_cons,List.mem_map] at hc;rcases hc with hc | ⟨x,hx,hc⟩
    . exact A0r (.inr E) hc
    . rcases hc with hc | hc
      . omega
      . rcases hx with rfl | ⟨i,_,rfl⟩
        . exact A0A (.inr E) hc
        . exact A0A (.inr E) hc
  have no32:∀ (u:Tm),∀ x∈A1O u.n::u.of.map A1O,32 ∉ x:=by
    intro u x hx;rcases List.mem_cons.1 hx with rfl | hx
    . exact A0A (.inl E)
    . obtain ⟨i,_,rfl⟩:=List.mem_map.1 hx;exact A0A (.inl E)
  obtain ⟨h1,h2⟩:=A5y (no58 s) (no58 t) h;obtain ⟨h3,h4⟩:=A8D (A0r (.inl E)) (A0r (.inl E)) (no32 s) (no32 t) h1;obtain ⟨h5,h6⟩:=List.cons.inj h4
  have e1:s.kind=t.kind:=by have:=congrArg dv h3;have a:=hs.kind;have b:=ht.kind;rwa [A1k (by omega),A1k (by omega)] at this
  have e2:=A8C hs.n ht.n h5
  have e3:s.of=t.of:=by
    have a:=hs.of;have b:=ht.of;generalize s.of=l at h6 a;generalize t.of=m at h6 b;clear h4 h1 h h3 h5 h2
    induction l generalizing m with
    | nil=>cases m with
      | nil=>rfl
      | cons y m=>simp at h6
    | cons x l ih =>
      cases m with
      | nil=>simp at h6
      | cons y m =>
        simp only [List.map_cons,List.cons.injEq] at h6;rw [A8C (a x (by simp)) (b y (by simp)) h6.1,ih (λ i hi=>a i (by simp [hi])) m h6.2 (λ i hi=>b i (by simp [hi]))]
  cases s; cases t
  simp_all
end Go.Px

