/- Part 5 of the texts of this claim, one behind the other. -/
import Derived.Test.YtjkpfgjfpbihaaaGreatDoorB4
import Derived.Test.YtjkpfgjfpbihaaaGreatDoorRows
set_option linter.unusedVariables false
set_option linter.unusedSimpArgs false
set_option maxRecDepth 100000
namespace Go
open Go.Px
abbrev Cf:=@Fit.last
abbrev Ch:=@Fit.pick
abbrev Cr:=@TakeC.take
end Go
namespace Go.Px
structure Gw where
  i:Nat
  d:Nat
  φ:Value->Mem->Mem->Prop
def V2(G:List Gw)(vs:Nat->Value):Env:=G.map λ g=>(g.d,vs g.i)
def A1P(φ:Value->Mem->Mem->Prop):Prop:=∀ v B R R',(∀ x∈R,x∈R')->φ v B R->φ v B R'
def toG(G:List Gw):List Gm:=G.map λ g=>⟨g.i,g.d,λ _ _=>True⟩
theorem C3q(G:List Gw):(toG G).map (·.i)=G.map (·.i):=by simp [toG]
theorem C3r(G:List Gw):(toG G).map (·.d)=G.map (·.d):=by simp [toG]
theorem B06(G:List Gw)(vs:Nat->Value):A3i (toG G) vs=V2 G vs:=by simp [A3i,V2,toG]
variable{G:List Gw}
theorem B7i(h:(G.map (·.i)).Nodup){g g':Gw}(hg:g∈G)(hg':g'∈G)(e:g.i=g'.i):g=g':=by
  induction G with
  | nil=>cases hg
  | cons x G ih =>
    simp only [List.map_cons,List.nodup_cons] at h;rcases List.mem_cons.1 hg with h1 | h1 <;> rcases List.mem_cons.1 hg' with h2 | h2
    . rw [h1,h2]
    . exact absurd (by rw [<- h1,e]; exact Al (f:=Gw.i) h2) h.1
    . exact absurd (by rw [<- h2,<- e]; exact Al (f:=Gw.i) h1) h.1
    . exact ih h.2 h1 h2
theorem A5z{X:List Nat}:∀ {Y:List Nat},X.Nodup->Y.Nodup->(∀ x,x∈X ↔ x∈Y)->X.Perm Y:=by
  induction X with
  | nil =>
    intro Y _ _ h
    cases Y with
    | nil=>exact .refl _
    | cons y Y=>exact absurd ((h y).2 Ax) (by simp)
  | cons x X ih =>
    intro Y hX hY h;simp only [List.nodup_cons] at hX;have hx:x∈Y:=(h x).1 Ax;refine List.Perm.trans (List.Perm.cons x (ih hX.2 (hY.erase x) λ z=>?_)) (List.perm_cons_erase hx).symm;constructor
    . intro hz;exact (List.mem_erase_of_ne (λ e:z=x=>hX.1 (by rw [<- e]; exact hz))).2 ((h z).1 (Bb _ hz))
    . intro hz;have hne:z≠x:=λ e=>by rw [e] at hz; exact (List.Nodup.not_mem_erase hY) hz
      rcases List.mem_cons.1 ((h z).2 (List.mem_of_mem_erase hz)) with e | hm
      . exact absurd e hne
      . exact hm
section group
variable{C:Cx}{Q:XQ}{l:Env}{M J:Mem}{os:List Oper}{K:Nat->Prop}{n0:Nat}{nd:List Nat}{plan:List (Nat×Nat)}
def Q6(X:List Nat)(bs:Nat->Mem):Mem:=(X.map bs).flatten
def A9I(C:Cx)(os:List Oper)(l:Env)(M J:Mem)(G:List Gw)(g:Gw):Prop :=
  ∃ o,nth os g.i=some o∧∀ (vs:Nat->Value) (bs:Nat->Mem) (R:Mem) (w:World),(∀ x∈M++(J++C.A),x∈R)->(∀ g'∈G,anc os.toArray os.toArray.size g.i g'.i=true->g'.φ (vs g'.i) (bs g'.i) R) ->
    B4O os (V2 G vs++l) o∧OpL ⟨C.P,w,[],R,C.N⟩ o (V2 G vs++l) [] [] (λ l' M' J'=>∃ v,l'=(g.d,v)::(V2 G vs++l)∧g.φ v M' (M'++(J'++R)))
theorem B07(hmono:∀ g∈G,A1P g.φ)(hd:(G.map (·.d)).Nodup)(hi:(G.map (·.i)).Nodup)(hob:∀ g∈G,A9I C os l M J G g){A B:Array Bool}(hok:GOk os.toArray A (G.map (·.i)) B)
    (hfin:∀ (vs:Nat->Value) (bs:Nat->Mem) Jn a w,(∀ g∈G,g.φ (vs g.i) (bs g.i) ((Q6 (G.map (·.i)) bs++M)++((Jn++J)++C.A)))->(∀ g∈G,∀ x∈bs g.i,n0<=x.1)->Ag C.N (V2 G vs++l) a->St C (Q6 (G.map (·.i)) bs++M) (Jn++J) w->n0<=w.heap.size->A0z C.P os.toArray (T3 (A7x C Q)) (Sk K) nd.contains plan.length B a w) :
    ∀ (n:Nat) (X:List Nat) (vs:Nat->Value) (bs:Nat->Mem) (Jn:Mem) (a:Act) (w:World),X.Nodup->(∀ i∈X,i∈G.map (·.i))->n+X.length=G.length->R6 os.toArray (mark A X) ->
      (∀ g∈G,g.i∈X->g.φ (vs g.i) (bs g.i) ((Q6 X bs++M)++((Jn++J)++C.A)))->(∀ i∈X,∀ x∈bs i,n0<=x.1)->Ag C.N (V2 G vs++l) a->St C (Q6 X bs++M) (Jn++J) w->n0<=w.heap.size ->
      A0z C.P os.toArray (T3 (A7x C Q)) (Sk K) nd.contains (n+plan.length) (mark A X) a w:=by
  intro n
  induction n with
  | zero =>
    intro X vs bs Jn a w hnd hX hlen hcl hφ hN ha hw hn
    have hall:∀ i,i∈X ↔ i∈G.map (·.i):=λ i=>⟨hX i,A2s hnd hX (by simp; omega) i⟩
    have hperm:(Q6 X bs++M).Perm (Q6 (G.map (·.i)) bs++M):=List.Perm.append_right _ (List.Perm.flatten ((A5z hnd hi hall).map bs));rw [Nat.zero_add,A5v hall,<- hok.mark];refine hfin vs bs Jn a w (λ g hg=>hmono g hg _ _ _ _ (λ x hx=>?_) (hφ g hg ((hall _).2 (Al (f:=Gw.i) hg)))) (λ g hg=>hN g.i ((hall _).2 (Al (f:=Gw.i) hg))) ha (hw.perm hperm) hn;rcases List.mem_append.1 hx with h | h
    . exact Ae _ (hperm.mem_iff.1 h)
    . exact Ai _ h
  | succ n ih =>
    intro X vs bs Jn a w hnd hX hlen hcl hφ hN ha hw hn
    have hmiss:∃ k∈G.map (·.i),k ∉ X:=by apply Classical.byContradiction;intro hno;have hs:∀ k∈G.map (·.i),k∈X:=λ k hk=>Classical.byContradiction λ h=>hno ⟨k,hk,h⟩;have:=A2r hi hs;simp at this; omega
    obtain ⟨k,hkG,hkX⟩:=hmiss
    have hun:∀ i∈G.map (·.i),A.getD i true=false:=by
      have:∀ {is A B},GOk os.toArray A is B->∀ i∈is,A.getD i true=false:=by
        intro is A B h
        induction h with
        | nil=>intro i hi; cases hi
        | @cons A B i r hr ho h ih =>
          intro k hk;rcases List.mem_cons.1 hk with rfl | hk
          . exact L3 hr
          . have h2:=ih k hk;by_cases e:i=k
            . subst e; exact L3 hr
            . rwa [getD_set_ne true e] at h2
      exact this hok
    have hkun:(mark A X).getD k true=false:=I9.2 ⟨hun k hkG,λ h=>hkX h.1⟩;rw [show n+1+plan.length=(n+plan.length)+1 by omega];refine ⟨λ h0=>?_,λ i hir=>?_⟩
    . obtain ⟨i,hir⟩:=hok.first (A1d A X) (λ j hj=>A1e hj) hkG hkun;rw [h0] at hir; cases hir
    . have hiG:i∈G.map (·.i):=by apply Classical.byContradiction;intro hno;have h1:=I9.1 (L3 hir);have h2:=hok.outer k hkG i (A3r hir) h1.1 hno;exact U8 hkun (R7 hcl h2 hir)
      obtain ⟨g,hg,rfl⟩:=List.mem_map.1 hiG;have hiX:g.i ∉ X:=λ h=>(I9.1 (L3 hir)).2 ⟨h,Y3 (hun _ hiG)⟩;obtain ⟨o,hget,howe⟩:=hob g hg;have hi':os.toArray[g.i]? = some o:=by rw [W7] at hget; simpa using hget
      obtain ⟨hask,hop⟩:=howe vs bs ((Q6 X bs++M)++((Jn++J)++C.A)) w (λ x hx=>by simp only [List.mem_append] at hx ⊢; rcases hx with h | h | h <;> simp [h]) (λ g' hg' hanc=>hφ g' hg' (by
        have h3:=R7 hcl hanc hir;rcases A0p h3 with h4 | h4
        . exact (U8 (hun _ (Al (f:=Gw.i) hg')) h4).elim
        . exact h4))
      unfold wpOp;simp only [hi'];rw [if_pos (hask.wanted ha)];have hcal:=hw.callee (Mc:=[]) (R:=Q6 X bs++M) (.refl _);refine .inl (Oper.wp_mono ?_ (hop _ a w ha hcal.cx));rintro a' w' ⟨l',M',J',ha',hs',v,rfl,hφv⟩;have hsz:w.heap.size<=w'.heap.size:=hs'.size;have hb:=hw.back (Mc:=[]) (R:=Q6 X bs++M) (.refl _) hs'.cx
      let bs':Nat->Mem:=λ k=>if k=g.i then M' else bs k
      have hown:Q6 (X++[g.i]) bs'=Q6 X bs++M':=by
        have e1:X.map bs'=X.map bs:=Bt λ x hx=>by have:x≠g.i:=λ e=>hiX (e▸hx);simp [bs',this]
        simp [Q6,List.map_append,e1,bs']
      have hperm:(M'++(Q6 X bs++M)).Perm (Q6 (X++[g.i]) bs'++M):=by rw [hown,<- Ap];exact List.Perm.append_right _ List.perm_append_comm
      have hfr2:St C (Q6 (X++[g.i]) bs'++M) ((J'++Jn)++J) w':=(hb.perm hperm).drop (Ao _) λ x hx=>by simp only [List.mem_append] at hx ⊢;rcases hx with (h | h) | h <;> simp [h]
      refine ⟨λ _ b hb' hnk=>hs'.frame b hb' (by simp),?_⟩;rw [<- U3];have henv:=A2t (N:=C.N) (G:=toG G) (l:=l) (vs:=vs) (g:=⟨g.i,g.d,λ _ _=>True⟩) (a:=a') (v:=v) (Al (f:=λ g:Gw=>(⟨g.i,g.d,λ _ _=>True⟩:Gm)) hg) (by rw [C3r]; exact hd) (by rw [C3q]; exact hi) (by rw [B06]; exact ha');rw [B06] at henv;refine ih (X++[g.i]) (λ k=>if k=g.i then v else vs k) bs' (J'++Jn) a' w' ?_ ?_ (by simp; omega) ?_ ?_ ?_ henv hfr2 (Az hn hsz)
      . rw [List.nodup_append]; exact ⟨hnd,by simp,λ x hx y hy e=>hiX (by simp at hy; subst hy; exact e▸hx)⟩
      . intro j hj;rcases List.mem_append.1 hj with hj | hj
        . exact hX j hj
        . simp at hj; subst hj; exact hiG
      . rw [U3]; exact K1 hcl hir
      . intro g' hg' hm;rw [hown];by_cases e:g'.i=g.i
        . have:g'=g:=B7i hi hg' hg e;subst this;simp only [if_true,bs'];exact hmono g' hg' _ _ _ _ (λ x hx=>by simp only [List.mem_append] at hx ⊢; rcases hx with h | h | (h | h) | (h | h) | h <;> simp [h]) hφv
        . simp only [e,if_false,bs'];have hm':g'.i∈X:=by simpa [e] using hm
          exact hmono g' hg' _ _ _ _ (λ x hx=>by simp only [List.mem_append] at hx ⊢; rcases hx with (h | h) | (h | h) | h <;> simp [h]) (hφ g' hg' hm')
      . intro k hk x hx;by_cases e:k=g.i
        . subst e;simp only [if_true,bs'] at hx;rcases hs'.own x.1 x.2 (by simp [hx]) with h6 | h6
          . cases h6
          . exact Az hn h6
        . simp only [e,if_false,bs'] at hx;have hk':k∈X:=by simpa [e] using hk
          exact hN k hk' x hx
theorem A6K(G:List Gw)(hmono:∀ g∈G,A1P g.φ)(hd:(G.map (·.d)).Nodup)(hi:(G.map (·.i)).Nodup)(hdN:∀ g∈G,g.d < C.N)(hob:∀ g∈G,A9I C os l M J G g)
    (h:∀ (vs:Nat->Value) (bs:Nat->Mem) Jn,(∀ g∈G,g.φ (vs g.i) (bs g.i) ((Q6 (G.map (·.i)) bs++M)++((Jn++J)++C.A)))->(∀ g∈G,∀ x∈bs g.i,n0<=x.1)->XK C os Q K n0 nd plan (V2 G vs++l) (Q6 (G.map (·.i)) bs++M) (Jn++J)):XK C os Q K n0 nd (enc (G.map (·.i))++plan) l M J:=by
  intro listed hcl hp a w ha hw hn;obtain ⟨B,hok,hp2⟩:=A8z hp
  have hBcl:R6 os.toArray B:=by
    have:∀ {A is B},GOk os.toArray A is B->R6 os.toArray A->R6 os.toArray B:=by
      intro A is B h
      induction h with
      | nil=>exact id
      | cons hr _ _ ih=>exact λ hc=>ih (K1 hc hr)
    exact this hok hcl
  have hlen:(enc (G.map (·.i))++plan).length=G.length+plan.length:=by
    have:∀ is:List Nat,(enc is).length=is.length:=by
      intro is
      induction is with
      | nil=>rfl
      | cons i r ih=>cases r with
        | nil=>rfl
        | cons j r=>simp only [enc,List.length_cons] at ih ⊢; rw [ih]
    simp [this]
  rw [hlen]
  let vs:Nat->Value:=λ k=>match G.find? (λ g=>g.i == k) with
    | some g=>(a.tmps[g.d]?).getD undef
    | none=>undef
  have hag:Ag C.N (V2 G vs++l) a:=by
    refine ⟨ha.defers,ha.size,?_⟩;intro k u hk
    have key:∀ G':List Gw,(∀ g∈G',g∈G)->lk (V2 G' vs++l) k=some u->a.tmps[k]? = some u:=by
      intro G'
      induction G' with
      | nil=>intro _ h; exact ha.slot k u h
      | cons g G' ih =>
        intro hs h;simp only [V2,List.map_cons,List.cons_append,lk] at h;by_cases e:g.d=k
        . subst e;simp at h
          have hf:G.find? (λ x=>x.i == g.i)=some g:=by
            have hgG:=hs g Ax
            cases hq:G.find? (λ x=>x.i == g.i) with
            | none=>have:=List.find?_eq_none.1 hq g hgG; simp at this
            | some x =>
              have h1:=List.find?_some hq;have h2:=List.mem_of_find?_eq_some hq;rw [B7i hi h2 hgG (by simpa using h1)]
          have hlt:g.d < a.tmps.size:=by rw [ha.size]; exact hdN g (hs g Ax)
          rw [<- h];show a.tmps[g.d]? = some (vs g.i);simp only [vs,hf,Array.getElem?_eq_getElem hlt,Option.getD_some]
        . simp only [A0h e,cond_false] at h;exact ih (λ x hx=>hs x (Bb _ hx)) h
    exact key G (λ _ h=>h) hk
  exact B07 (n0:=n0) (K:=K) hmono hd hi hob hok (λ vs bs Jn a w hφ hN ha hw hn=>h vs bs Jn hφ hN B hBcl hp2 a w ha hw hn) G.length [] vs (λ _=>[]) [] a w .nil (λ _ h=>by cases h) (by simp) hcl (λ _ _ h=>by cases h) (λ _ h=>by cases h) hag hw hn
theorem A6L(G:List Gw)(hmono:∀ g∈G,A1P g.φ)(hd:(G.map (·.d)).Nodup)(hi:(G.map (·.i)).Nodup)(hdN:∀ g∈G,g.d < C.N)(hob:∀ g∈G,A9I C os l M J G g)
    (h:∀ (vs:Nat->Value) (bs:Nat->Mem) Jn,(∀ g∈G,g.φ (vs g.i) (bs g.i) ((Q6 (G.map (·.i)) bs++M)++((Jn++J)++C.A)))->XK C os Q K n0 nd plan (V2 G vs++l) (Q6 (G.map (·.i)) bs++M) (Jn++J)):XK C os Q K n0 nd (enc (G.map (·.i))++plan) l M J:=A6K G hmono hd hi hdN hob λ vs bs Jn hφ _=>h vs bs Jn hφ
theorem N6(G:List Gw)(hmono:∀ g∈G,A1P g.φ)(hd:(G.map (·.d)).Nodup)(hi:(G.map (·.i)).Nodup)(hdN:∀ g∈G,g.d < C.N)(hob:∀ g∈G,A9I C os l M J G g)
    (h:∀ (vs:Nat->Value) (bs:Nat->Mem) Jn,(∀ g∈G,g.φ (vs g.i) (bs g.i) ((Q6 (G.map (·.i)) bs++M)++((Jn++J)++C.A)))->XF C os Q nd plan (V2 G vs++l) (Q6 (G.map (·.i)) bs++M) (Jn++J)):XF C os Q nd (enc (G.map (·.i))++plan) l M J:=A6L G hmono hd hi hdN hob h
end group
theorem gM{φ:Value->Mem->Mem->Prop}(h:A1P φ:=by exact λ _ _ _ _ _ h=>h):A1P φ:=h
theorem gO{C:Cx}{os:List Oper}{l:Env}{M J:Mem}{Gs:List Gw}{g:Gw}{o:Oper}(h:∀ (vs:Nat->Value) (bs:Nat->Mem) (R:Mem) (w:World),(∀ x∈M++(J++C.A),x∈R)->(∀ g'∈G,anc os.toArray os.toArray.size g.i g'.i=true->g'.φ (vs g'.i) (bs g'.i) R)->OpL ⟨C.P,w,[],R,C.N⟩ o (V2 G vs++l) [] [] (λ l' M' J'=>∃ v,l'=(g.d,v)::(V2 G vs++l)∧g.φ v M' (M'++(J'++R))))
    (t:∀ g∈Gs,A9I C os l M J G g) (ho:nth os g.i=some o:=by exact E) (hg:o.guard=none:=by exact E):∀ x∈g::Gs,A9I C os l M J G x:=A5 ⟨o,ho,λ vs bs R w hb ha=>⟨.inl hg,h vs bs R w hb ha⟩⟩ t
end Go.Px

namespace Go.Proofs.YtjkpfgjfpbihaaaGreatDoor
open Go.Px
def C0Z:LN:=(List.range 256).map λ c=>if c=0 then 0 else c.log2+1
theorem B4T:∀ x∈C0Z,x < 256:=by decide +kernel
set_option maxRecDepth 10000 in
theorem B4U:∀ c:Fin 256,c.val < 2 ^ (C0Z.getD c 0)∧C0Z.getD c 0<=8∧(0 < c.val->2 ^ (C0Z.getD c 0 - 1)<=c.val):=by decide +kernel
variable{x n:Nat}
theorem B4V{y T:Nat}(h:x / 2 ^ n=y)(h1:y < 2 ^ T):x < 2 ^ (n+T):=by rw [Nat.pow_add];have:=(Nat.div_lt_iff_lt_mul (Bx n)).1 (h▸h1);rwa [Nat.mul_comm] at this
theorem B08{y T:Nat}(h:x / 2 ^ n=y)(hy:0 < y)(hT:2 ^ (T - 1)<=y)(h1:y < 2 ^ T):2 ^ (n+T - 1)<=x:=by
  have h0:T≠0:=by rintro rfl; simp at h1; omega
  rw [show n+T - 1=n+(T - 1) by omega,Nat.pow_add];have:=Nat.div_mul_le_self x (2 ^ n);rw [h] at this;exact Az (by rw [Nat.mul_comm]; exact Au _ hT) this
def A5A:LN:=(List.range 100).flatMap λ p=>[48+p / 10,48+p % 10]
theorem A4T:∀ x∈A5A,x < 256:=by decide +kernel
theorem A4U:∀ p:Fin 100,A5A.getD (2 * p.val) 0=48+p.val / 10∧A5A.getD (2 * p.val+1) 0=48+p.val % 10:=by decide +kernel
theorem A2T:A5A.length=200:=by decide +kernel
def A0B:LN:=(List.range 20).map λ i=>10 ^ i
theorem A6M:∀ n:Fin 65,2 ^ n.val<=10 ^ (n.val * 78913 / 262144+1)∧n.val * 78913 / 262144<=19∧(n.val * 78913 / 262144=0∨10 ^ (n.val * 78913 / 262144 - 1)<=2 ^ (n.val - 1)):=by decide +kernel
theorem B09:∀ t:Fin 20,A0B.getD t 0=10 ^ t.val:=by decide +kernel
theorem C00(h0:0 < x)(hn:n<=64)(h1:x < 2 ^ n)(h2:2 ^ (n - 1)<=x):n * 78913 / 262144+(if 10 ^ (n * 78913 / 262144)<=x then 1 else 0)=nd10 x:=by
  obtain ⟨a,b,c⟩:=A6M ⟨n,by omega⟩;simp only at a b c;have hx:x < 18446744073709551616:=Bp h1 (Bq qD hn:2 ^ n<=2 ^ 64);generalize n * 78913 / 262144=t at *;split
  . rename_i h;exact (A6J qO (Bp h1 a) (.inr (by simpa using h)) hx).symm
  . rename_i h;have ht:t≠0:=by rintro rfl; simp at h; omega
    rw [Nat.add_zero];refine (A6J qO qO (.inr ?_) hx).symm;rcases c with c | c
    . exact absurd c ht
    . exact Az c h2
theorem B4W(k u:Nat):dgs (k+1) u=(48+u / 10 ^ k % 10)::dgs k u:=by unfold dgs;rw [show List.range (k+1)=0::(List.range k).map (· + 1) from List.range_succ_eq_map,List.map_cons,List.map_map];congr 1;apply Bt;intro j hj;have:=List.mem_range.1 hj;simp only [Function.comp];congr 4; omega
variable{xs r:LN}{o m k u:Nat}
theorem A3V(hm:0 < m)(hl:o+m<=xs.length):(xs.take (o+m)++(dgs k u++r)).set (o+(m - 1)) (48+u / 10 ^ k % 10)=xs.take (o+(m - 1))++(dgs (k+1) u++r):=by
  have e:xs.take (o+m)=xs.take (o+(m - 1))++[xs[o+(m - 1)]'qO]:=by rw [show o+m=(o+(m - 1))+1 by omega,Bh,Ab qO]; rfl
  rw [e,B4W,Ap,List.set_append_right _ _ (by rw [Bj]; omega),Bj,Nat.min_eq_left qO,Nat.sub_self];simp
theorem A12{p:Nat}(hm:2<=m)(hl:o+m<=xs.length)(hp:p=u / 10 ^ k % 100):((xs.take (o+m)++(dgs k u++r)).set (o+(m - 1)) (48+p % 10)).set (o+(m - 2)) (48+p / 10)=xs.take (o+(m - 2))++(dgs (k+2) u++r):=by have h1:=A3V (xs:=xs) (r:=r) (o:=o) (m:=m) (k:=k) (u:=u) qO hl;have h2:=A3V (xs:=xs) (r:=r) (o:=o) (m:=m - 1) (k:=k+1) (u:=u) qO qO;rw [show 48+p % 10=48+u / 10 ^ k % 10 by omega,h1];rw [show m - 1 - 1=m - 2 by omega] at h2;rw [show 48+p / 10=48+u / 10 ^ (k+1) % 10 by rw [Nat.pow_succ,<- Bu]; omega,h2]
theorem V3(hl:o+m<=xs.length):(xs.take (o+m)++(dgs k u++r)).length=o+m+(k+r.length):=by simp [A10]; omega
theorem A4V(x:Nat)(hx:x < 18446744073709551616)(A:Mem):FnX Tryz.prog 180 [.int .u64 (x:Int)] [] A λ r M J=>M=[]∧J=[]∧∃ n:Nat,r=.int .i64 (n:Int)∧n<=64∧x < 2 ^ n∧(0 < x->2 ^ (n - 1)<=x):=by
 refine Ck (N:=25) Tryz.func180 E E E λ w=>?_;refine A9 (D5 0) (A1 (as_ (A0 (D2 0 2) ?_)));refine P8 (α:=Nat×Nat) (λ s=>[(0,.int .u64 (s.1:Int)),(2,.int .i64 (s.2:Int))]) (λ _=>[]) (λ _=>[]) (λ s=>x / 2 ^ s.2=s.1∧s.1 < 4294967296∧s.2<=32∧(s.2=0∨0 < s.1)) ?_ ?_
 .
  refine A1 (mv_ ?_);refine A2 (F0 E E E) E ?_;refine A0 (D6 0 2 4) ?_;refine C4 E ?_ ?_ <;> intro hc
  .
   have hge:4294967296<=x:=by simp at hc; omega
   refine A1 (mv_ ?_);refine A2 (P6 32 4294967296 E E E E qD) E ?_;refine as_ (A0 (D5 0) (C2 (as_ (C6 ?_))));exact jn (x / 4294967296,32) ⟨E,by dsimp only; omega,by dsimp only; omega,.inr (by dsimp only; omega)⟩ (D2 0 2) .rfl qI
  .
   have hlt:x < 4294967296:=by simp at hc; omega
   refine A6 ?_;exact jn (x,0) ⟨by simp,hlt,by dsimp only; omega,.inl E⟩ (D2 0 2) .rfl qI
 .
  rintro ⟨y,n⟩ ⟨hy,hyb,hn,h0⟩;dsimp only at hy hyb hn h0 ⊢;refine P8 (α:=Nat×Nat) (λ s=>[(0,.int .u64 (s.1:Int)),(2,.int .i64 (s.2:Int))]) (λ _=>[]) (λ _=>[]) (λ s=>x / 2 ^ s.2=s.1∧s.1 < 65536∧s.2<=48∧(s.2=0∨0 < s.1)) ?_ ?_
  .
   refine A1 (mv_ ?_);refine A2 (F0 E E E) E ?_;refine A0 (D6 0 2 8) ?_;refine C4 E ?_ ?_ <;> intro hc
   .
    have hge:65536<=y:=by simp at hc; omega
    refine A1 (mv_ ?_);refine A2 (P6 16 65536 E E E E qD) E ?_;refine as_ (A0 (D2 0 2) (C2 (mv_ ?_)));refine A2 (K7 (b:=16) E E E E qO) E ?_;refine as_ (C6 ?_);exact jn (y / 65536,n+16) ⟨by dsimp only; rw [Nat.pow_add,<- Bu,hy],by dsimp only; omega,by dsimp only; omega,.inr (by dsimp only; omega)⟩ (D2 0 2) .rfl qI
   .
    have hlt:y < 65536:=by simp at hc; omega
    refine A6 ?_;exact jn (y,n) ⟨hy,hlt,by dsimp only; omega,h0⟩ (D2 0 2) .rfl qI
  .
   clear hy hyb hn h0;rintro ⟨y,n⟩ ⟨hy,hyb,hn,h0⟩;dsimp only at hy hyb hn h0 ⊢;refine P8 (α:=Nat×Nat) (λ s=>[(0,.int .u64 (s.1:Int)),(2,.int .i64 (s.2:Int))]) (λ _=>[]) (λ _=>[]) (λ s=>x / 2 ^ s.2=s.1∧s.1 < 256∧s.2<=56∧(s.2=0∨0 < s.1)) ?_ ?_
   .
    refine A1 (mv_ ?_);refine A2 (F0 E E E) E ?_;refine A0 (D6 0 2 14) ?_;refine C4 E ?_ ?_ <;> intro hc
    .
     have hge:256<=y:=by simp at hc; omega
     refine A1 (mv_ ?_);refine A2 (P6 8 256 E E E E qD) E ?_;refine as_ (A0 (D2 0 2) (C2 (mv_ ?_)));refine A2 (K7 (b:=8) E E E E qO) E ?_;refine as_ (C6 ?_);exact jn (y / 256,n+8) ⟨by dsimp only; rw [Nat.pow_add,<- Bu,hy],by dsimp only; omega,by dsimp only; omega,.inr (by dsimp only; omega)⟩ (D2 0 2) .rfl qI
    .
     have hlt:y < 256:=by simp at hc; omega
     refine A6 ?_;exact jn (y,n) ⟨hy,hlt,by dsimp only; omega,h0⟩ (D2 0 2) .rfl qI
   .
    clear hy hyb hn h0;rintro ⟨y,n⟩ ⟨hy,hyb,hn,h0⟩;dsimp only at hy hyb hn h0 ⊢;obtain ⟨k1,k2,k3⟩:=B4U ⟨y,hyb⟩;simp only at k1 k2 k3;refine A1 (mv_ (mv_ ?_));refine A2 ((Af hyb:y % 256=y)▸A04 E kR) E ?_;refine A2 (A6H (ws:=C0Z) (a:=y) E kR B4T E kR E (by show _ < 256; omega)) E ?_;refine A2 (A1K (k':=.i64) E kR (by show _ < 9223372036854775808; omega)) E ?_;refine A2 (K7 E E E E qO) E ?_;refine as_ (A0 (D5 2) (C0 ?_));refine ⟨_,[],[],I0 E E,Aa _,by simp,E,E,n+C0Z.getD y 0,E,by omega,B4V hy k1,λ hx=>?_⟩
    have hy0:0 < y:=by
     rcases h0 with rfl | h0
     . rw [<- hy]; simpa using hx
     . exact h0
    exact B08 hy hy0 (k3 hy0) k1
theorem A9J(n:Nat)(hn:n<=64)(A:Mem):FnV Tryz.prog 210 [.int .i64 (n:Int)] A (.int .i64 ((n * 78913 / 2 ^ 18:Nat):Int)):=by refine Ck (N:=6) Tryz.func210 E E E λ w=>?_;refine A9 (D5 0) (A1 (as_ (A0 (D5 0) (A1 (mv_ ?_)))));refine A2 (A03 (b:=78913) E E E E qO) E ?_;refine A2 (A3b (b:=18) E E E E (by show _<=64; omega)) E ?_;refine as_ (A0 (D5 2) (C0 ?_));exact ⟨_,[],[],I0 E E,Aa _,by simp,E,E,E⟩
theorem A9K(b:Bool)(A:Mem):FnV Tryz.prog 211 [.bool b] A (.int .i64 ((if b=true then 1 else 0:Nat):Int)):=by
 refine Ck (N:=4) Tryz.func211 E E E λ w=>?_;refine A9 (D5 0) (A1 (as_ (A0 (D5 0) (A4 (A1 (mv_ (A0 (D5 3) ?_)))))));refine C4 E ?_ ?_ <;> intro hc
 . subst hc;refine A1 (as_ (A0 (D5 2) (C0 (tr ?_))));exact ⟨_,[],[],I0 E E,Aa _,by simp,E,E,E⟩
 . subst hc;refine A6 (nx kn (A1 (as_ (A0 (D5 2) (C0 ?_)))));exact ⟨_,[],[],I0 E E,Aa _,by simp,E,E,E⟩
variable{e4:TypeId}{f4:Nat×Nat}
theorem A1Q(x:Nat)(h0:0 < x)(hx:x < 18446744073709551616)(A:Mem)(h4:(4,Obj.cells (nums .u64 A0B).toArray e4 f4)∈A):FnV Tryz.prog 202 [.int .u64 (x:Int)] A (.int .i64 ((nd10 x:Nat):Int)):=by refine Ck (N:=15) Tryz.func202 E E E λ w=>?_;refine A9 (D5 0) (A1 (as_ (A0 (D5 0) (A1 (mv_ ?_)))));refine C7 (aS E a0) kR (A4V x hx _) E ?_;rintro r5 M5 J5 ⟨rfl,rfl,n,rfl,hn,h1,h2⟩;replace h2:=h2 h0;have hnd:=C00 h0 hn h1 h2;obtain ⟨-,k2,-⟩:=A6M ⟨n,by omega⟩;simp only at k2;refine E6 (aS E a0) kR (A9J n hn _) E ?_;rw [show (2:Nat) ^ 18=262144 from rfl];have k4:=B09 ⟨n * 78913 / 262144,by omega⟩;simp only at k4;generalize n * 78913 / 262144=t at *;refine as_ (A0 (D2 0 3) (A1 (mv_ (mv_ (mv_ ?_)))));refine A2 (G2 (e:=115) (n:=20) (sz:=1) (i:=t) E E kR kR E qO) E ?_;refine A2 (I6 t E kR (mA h4) qO (by show _ < 20; omega)) E ?_;refine A2 (F5 (decide (10 ^ t<=x)) E E (by rw [k4,<- decide_eq_decide.2 (show (((10 ^ t:Nat):Int)<=(x:Int)) ↔ 10 ^ t<=x from Int.ofNat_le)]; rfl)) E ?_;refine E6 (aS E a0) kR (A9K _ _) E ?_;refine A2 (K7 E E E E (by split <;> omega)) E ?_;refine as_ (A0 (D5 2) (C0 ?_));refine ⟨_,[],[],I0 E E,Aa _,by simp,?_,E,E⟩;rw [<- hnd]; simp only [decide_eq_true_eq]
section
variable{P:Program}{R:Mem}{l:Env}{d:Option Nat}{ty t:TypeId}{pos:String}{af:Array Edge}{g:Option (Nat×Bool)}{x y:Operand}{S:ByteArray}{k:IntKind}{i:Int}{p:Nat}
theorem A0U(hx:ev l x=some (.string S))(hS:S=txt A5A)(hy:ev l y=some (.int k i))(hu:P.underlying t=some .string)(hi:i=((2 * p:Nat):Int))(hp:p < 100):OpQ P R ⟨d,.index t x y,ty,pos,af,g⟩ l (.int .u8 ((48+p / 10:Nat):Int)) :=
  (A4U ⟨p,hp⟩).1▸A6H hx hS A4T hy hu hi (by rw [A2T]; omega)
theorem A0V(hx:ev l x=some (.string S))(hS:S=txt A5A)(hy:ev l y=some (.int k i))(hu:P.underlying t=some .string)(hi:i=((2 * p+1:Nat):Int))(hp:p < 100):OpQ P R ⟨d,.index t x y,ty,pos,af,g⟩ l (.int .u8 ((48+p % 10:Nat):Int)) :=
  (A4U ⟨p,hp⟩).2▸A6H hx hS A4T hy hu hi (by rw [A2T]; omega)
end
theorem A13(u a b:Nat):u / 10 ^ (a+b)=u / 10 ^ a / 10 ^ b:=by rw [Nat.pow_add,Bu]
theorem A5B(hu:u < 10 ^ n)(hm:m<=n):u / 10 ^ (n - m) < 10 ^ m:=by rw [Nat.div_lt_iff_lt_mul (Nat.pow_pos qD),<- Nat.pow_add];rwa [show m+(n - m)=n by omega]
theorem A6N(b o n cap u:Nat)(xs:LN)(e:TypeId)(hn:0 < n)(hn20:n<=20)(hxs:o+n<=xs.length)(hu:u < 10 ^ n)(hu64:u < 18446744073709551616)(A:Mem):FnX Tryz.prog 203 [.slice (some ⟨b,o,none⟩) n cap,.int .u64 (u:Int)] [(b,blk (nums .u8 xs) e)] A λ r M J=>J=[]∧M=[(b,blk (nums .u8 (xs.take o++(dgs n u++xs.drop (o+n)))) e)]:=by
 refine Ck (N:=167) Tryz.func203 E E E λ w=>?_;refine A9 (D2 0 1) (A1 (mv_ ?_));refine A2 (A0Z (e:=5) E kR) E ?_;refine as_ (A0 (D6 0 1 4) (A4 (A8 ?_)));refine E5 (α:=Nat) (λ m=>[(0,.slice (some ⟨b,o,none⟩) n cap),(1,.int .u64 ((u / 10 ^ (n - m):Nat):Int)),(4,.int .i64 (m:Int))]) (λ m=>[(b,blk (nums .u8 (xs.take (o+m)++(dgs (n - m) u++xs.drop (o+n)))) e)]) (λ _=>[]) (λ m=>m<=n) (λ m=>m) n (Av _) (kq 0 (kp 1 (by rw [Nat.sub_self,Nat.pow_zero,Nat.div_one]; rfl) (D5 4))) (Ce (by simp [dgs])) qI ?_;rintro m hm;have hb:=A5B hu hm;refine A4 (A1 (mv_ ?_));refine A2 (F0 E E E) E ?_;refine A0 (D8 0 1 4 20) ?_;refine C4 E ?_ ?_ <;> intro hc
 .
  have hm8:8<=m:=by simp at hc; omega
  obtain ⟨k,hk⟩:∃ k,k=n - m:=⟨_,E⟩
  rw [<- hk];have hkm:k+m=n:=by omega
  obtain ⟨v,hv⟩:∃ v,v=u / 10 ^ k:=⟨_,E⟩
  rw [<- hv];have hv64:v < 18446744073709551616:=by rw [hv]; exact Be (Nat.div_le_self _ _) hu64
  refine A6 (nx (D6 0 1 4) (A8 (A1 (mv_ ?_))));refine A2 (T8 (b:=100000000) E E E E qO) E ?_;refine A2 (A8v E kR) E ?_;rw [show v % 100000000 % 4294967296=v % 100000000 by omega]
  obtain ⟨y,hy⟩:∃ y,y=v % 100000000:=⟨_,E⟩
  rw [<- hy];have hy8:y < 100000000:=by omega
  refine as_ (A0 (D8 0 1 4 5) (A1 (mv_ ?_)));refine A2 (A3S (b:=100000000) (m:=18446744073709551616) E E E E E E qO qO) E ?_;refine as_ (A0 (D8 0 1 4 5) (A1 (mv_ ?_)));refine A2 (A3S (b:=10000) (m:=4294967296) E E E E E E qO qO) E ?_;refine mv_ ?_;refine A2 (T8 (b:=10000) E E E E qO) E ?_;refine as_ (as_ (A0 (E8 0 1 4 6 7) (A1 (mv_ ?_))));refine A2 (A3S (b:=100) (m:=4294967296) E E E E E E qO qO) E ?_;refine A2 (Q3 4294967296 (b:=2) E E E E E E) E ?_;refine mv_ ?_;refine A2 (T8 (b:=100) E E E E qO) E ?_;refine A2 (Q3 4294967296 (b:=2) E E E E E E) E ?_;refine as_ (as_ (A0 (H1 0 1 4 6 8 9) (A1 (mv_ ?_))));refine A2 (A3S (b:=100) (m:=4294967296) E E E E E E qO qO) E ?_;refine A2 (Q3 4294967296 (b:=2) E E E E E E) E ?_;refine mv_ ?_;refine A2 (T8 (b:=100) E E E E qO) E ?_;refine A2 (Q3 4294967296 (b:=2) E E E E E E) E ?_;refine as_ (as_ (A0 (N9 0 1 4 8 9 10 11) ?_));refine D1 [0,1,2,3,4,5,6,7,8,9,10,11,13] (zp 0 [0,0,0,0,0,0,0,0,0,0,0,0,2,0,2]) kR kR λ hs=>?_;refine fm_ hs ?_;refine fm_ hs ?_;refine C8 hs E (Q8 (b:=1) E E E E qO qO) E ?_;refine fm_ hs ?_;refine fm_ hs ?_;refine C8 hs E (Q8 (b:=2) E E E E qO qO) E ?_;refine fm_ hs ?_;refine C8 hs E (H2 4294967296 (b:=1) E E E E E E) E ?_;refine C8 hs E (A0V (p:=(y % 10000 % 100)) E kR E kR qO qO) E ?_;refine fm_ hs ?_;refine C8 hs E (A0U (p:=(y % 10000 % 100)) E kR E kR qO qO) E ?_;refine C8 hs E (L8 (e:=5) (sz:=1) (i:=m - 1) E E kR kR qO qO) E ?_;refine G1 E E E (K8 (o+(m - 1)) E E kR qO (by rw [V3 qO]; omega) Cs ?_);refine C8 hs E (L8 (e:=5) (sz:=1) (i:=m - 2) E E kR kR qO qO) E ?_;refine G1 E E E (K8 (o+(m - 2)) E E kR qO (by rw [Bk,V3 qO]; omega) Cs ?_);rw [A12 qO qO (by rw [<- hv]; omega)];refine E3 (H1 0 1 4 8 10 11) ?_;refine D1 [0,1,2,3,4,5,6,7,8,9,10,11,13] (zp 0 [0,0,0,0,0,0,0,0,0,0,0,0,2,0,2]) kR kR λ hs=>?_;refine fm_ hs ?_;refine fm_ hs ?_;refine C8 hs E (Q8 (b:=3) E E E E qO qO) E ?_;refine fm_ hs ?_;refine fm_ hs ?_;refine C8 hs E (Q8 (b:=4) E E E E qO qO) E ?_;refine fm_ hs ?_;refine C8 hs E (H2 4294967296 (b:=1) E E E E E E) E ?_;refine C8 hs E (A0V (p:=(y % 10000 / 100)) E kR E kR qO qO) E ?_;refine fm_ hs ?_;refine C8 hs E (A0U (p:=(y % 10000 / 100)) E kR E kR qO qO) E ?_;refine C8 hs E (L8 (e:=5) (sz:=1) (i:=(m - 2) - 1) E E kR kR qO qO) E ?_;refine G1 E E E (K8 (o+((m - 2) - 1)) E E kR qO (by rw [V3 qO]; omega) Cs ?_);refine C8 hs E (L8 (e:=5) (sz:=1) (i:=(m - 2) - 2) E E kR kR qO qO) E ?_;refine G1 E E E (K8 (o+((m - 2) - 2)) E E kR qO (by rw [Bk,V3 qO]; omega) Cs ?_);rw [A12 qO qO (by rw [A13,<- hv]; omega)];refine E3 (E8 0 1 4 10 11) ?_;refine D1 [0,1,2,3,4,5,6,7,8,9,10,11,13] (zp 0 [0,0,0,0,0,0,0,0,0,0,0,0,2,0,2]) kR kR λ hs=>?_;refine fm_ hs ?_;refine fm_ hs ?_;refine C8 hs E (Q8 (b:=5) E E E E qO qO) E ?_;refine fm_ hs ?_;refine fm_ hs ?_;refine C8 hs E (Q8 (b:=6) E E E E qO qO) E ?_;refine fm_ hs ?_;refine C8 hs E (H2 4294967296 (b:=1) E E E E E E) E ?_;refine C8 hs E (A0V (p:=(y / 10000 % 100)) E kR E kR qO qO) E ?_;refine fm_ hs ?_;refine C8 hs E (A0U (p:=(y / 10000 % 100)) E kR E kR qO qO) E ?_;refine C8 hs E (L8 (e:=5) (sz:=1) (i:=(m - 2 - 2) - 1) E E kR kR qO qO) E ?_;refine G1 E E E (K8 (o+((m - 2 - 2) - 1)) E E kR qO (by rw [V3 qO]; omega) Cs ?_);refine C8 hs E (L8 (e:=5) (sz:=1) (i:=(m - 2 - 2) - 2) E E kR kR qO qO) E ?_
  refine G1 E E E (K8 (o+((m - 2 - 2) - 2)) E E kR qO (by rw [Bk,V3 qO]; omega) Cs ?_);rw [A12 qO qO (by rw [show k+2+2=k+4 by omega,A13,<- hv]; omega)];refine E3 (D8 0 1 4 10) ?_;refine D1 [0,1,2,3,4,5,6,7,8,9,10,11,13] (zp 0 [0,0,0,0,0,0,0,0,0,0,0,0,2,0,2]) kR kR λ hs=>?_;refine fm_ hs ?_;refine fm_ hs ?_;refine C8 hs E (Q8 (b:=7) E E E E qO qO) E ?_;refine fm_ hs ?_;refine fm_ hs ?_;refine C8 hs E (Q8 (b:=8) E E E E qO qO) E ?_;refine fm_ hs ?_;refine C8 hs E (H2 4294967296 (b:=1) E E E E E E) E ?_;refine C8 hs E (A0V (p:=(y / 10000 / 100)) E kR E kR qO qO) E ?_;refine fm_ hs ?_;refine C8 hs E (A0U (p:=(y / 10000 / 100)) E kR E kR qO qO) E ?_;refine C8 hs E (L8 (e:=5) (sz:=1) (i:=(m - 2 - 2 - 2) - 1) E E kR kR qO qO) E ?_;refine G1 E E E (K8 (o+((m - 2 - 2 - 2) - 1)) E E kR qO (by rw [V3 qO]; omega) Cs ?_);refine C8 hs E (L8 (e:=5) (sz:=1) (i:=(m - 2 - 2 - 2) - 2) E E kR kR qO qO) E ?_;refine G1 E E E (K8 (o+((m - 2 - 2 - 2) - 2)) E E kR qO (by rw [Bk,V3 qO]; omega) Cs ?_);rw [A12 qO qO (by rw [show k+2+2+2=k+6 by omega,A13,<- hv]; omega)];refine E3 (D6 0 1 4) (C2 (mv_ ?_));refine A2 (Q8 (b:=8) E E E E qO qO) E ?_;refine as_ (C6 (nb ?_));exact rn (m - 8) qO qO (kq 0 (kp 1 (by rw [show n - (m - 8)=k+8 by omega,A13,<- hv]; rfl) (D5 4))) (Ce (by rw [show n - (m - 8)=k+8 by omega,show m - 2 - 2 - 2 - 2=m - 8 by omega,show k+2+2+2+2=k+8 by omega])) qI
 .
  have hm8:m < 8:=by simp at hc; omega
  refine D9 (te (re (be E (nx (D6 0 1 4) ?_))))
  obtain ⟨k,hk⟩:∃ k,k=n - m:=⟨_,E⟩
  rw [<- hk];have hkm:k+m=n:=by omega
  obtain ⟨v,hv⟩:∃ v,v=u / 10 ^ k:=⟨_,E⟩
  rw [<- hv];rw [<- hk,<- hv] at hb;have hb7:v < 10000000:=Bp hb (Bq qD qO:10 ^ m<=10 ^ 7);refine A1 (mv_ ?_);refine A2 (A8v E kR) E ?_;refine as_ ?_;rw [show v % 4294967296=v by omega];refine A0 (D6 0 4 12) ?_;refine P8 (α:=Nat) (λ m=>[(0,.slice (some ⟨b,o,none⟩) n cap),(4,.int .i64 (m:Int)),(12,.int .u32 ((u / 10 ^ (n - m):Nat):Int))]) (λ m=>[(b,blk (nums .u8 (xs.take (o+m)++(dgs (n - m) u++xs.drop (o+n)))) e)]) (λ _=>[]) (λ m=>m<=n∧m < 4) ?_ ?_
  .
   refine A1 (mv_ ?_);refine A2 (F0 E E E) E ?_;refine A0 (D8 0 4 12 99) ?_;refine C4 E ?_ ?_ <;> intro hc
   .
    have hm4:4<=m:=by simp at hc; omega
    refine A1 (mv_ ?_);refine A2 (T8 (b:=10000) E E E E qO) E ?_;refine as_ (A0 (D8 0 4 12 13) (A1 (mv_ ?_)));refine A2 (A3S (b:=10000) (m:=4294967296) E E E E E E qO qO) E ?_;refine as_ (A0 (D8 0 4 12 13) (A1 (mv_ ?_)));refine A2 (A3S (b:=100) (m:=4294967296) E E E E E E qO qO) E ?_;refine A2 (Q3 4294967296 (b:=2) E E E E E E) E ?_;refine mv_ ?_;refine A2 (T8 (b:=100) E E E E qO) E ?_;refine A2 (Q3 4294967296 (b:=2) E E E E E E) E ?_;refine as_ (as_ (A0 (E8 0 4 12 14 15) ?_));refine D1 [0,1,2,3,4,5,6,7,8,9,10,11,13] (zp 0 [0,0,0,0,0,0,0,0,0,0,0,0,2,0,2]) kR kR λ hs=>?_;refine fm_ hs ?_;refine fm_ hs ?_;refine C8 hs E (Q8 (b:=1) E E E E qO qO) E ?_;refine fm_ hs ?_;refine fm_ hs ?_;refine C8 hs E (Q8 (b:=2) E E E E qO qO) E ?_;refine fm_ hs ?_;refine C8 hs E (H2 4294967296 (b:=1) E E E E E E) E ?_;refine C8 hs E (A0V (p:=(v % 10000 % 100)) E kR E kR qO qO) E ?_;refine fm_ hs ?_;refine C8 hs E (A0U (p:=(v % 10000 % 100)) E kR E kR qO qO) E ?_;refine C8 hs E (L8 (e:=5) (sz:=1) (i:=m - 1) E E kR kR qO qO) E ?_;refine G1 E E E (K8 (o+(m - 1)) E E kR qO (by rw [V3 qO]; omega) Cs ?_);refine C8 hs E (L8 (e:=5) (sz:=1) (i:=m - 2) E E kR kR qO qO) E ?_;refine G1 E E E (K8 (o+(m - 2)) E E kR qO (by rw [Bk,V3 qO]; omega) Cs ?_);rw [A12 qO qO (by rw [<- hv]; omega)];refine E3 (D8 0 4 12 14) ?_;refine D1 [0,1,2,3,4,5,6,7,8,9,10,11,13] (zp 0 [0,0,0,0,0,0,0,0,0,0,0,0,2,0,2]) kR kR λ hs=>?_;refine fm_ hs ?_;refine fm_ hs ?_;refine C8 hs E (Q8 (b:=3) E E E E qO qO) E ?_;refine fm_ hs ?_;refine fm_ hs ?_;refine C8 hs E (Q8 (b:=4) E E E E qO qO) E ?_;refine fm_ hs ?_;refine C8 hs E (H2 4294967296 (b:=1) E E E E E E) E ?_;refine C8 hs E (A0V (p:=(v % 10000 / 100)) E kR E kR qO qO) E ?_;refine fm_ hs ?_;refine C8 hs E (A0U (p:=(v % 10000 / 100)) E kR E kR qO qO) E ?_;refine C8 hs E (L8 (e:=5) (sz:=1) (i:=(m - 2) - 1) E E kR kR qO qO) E ?_;refine G1 E E E (K8 (o+((m - 2) - 1)) E E kR qO (by rw [V3 qO]; omega) Cs ?_);refine C8 hs E (L8 (e:=5) (sz:=1) (i:=(m - 2) - 2) E E kR kR qO qO) E ?_;refine G1 E E E (K8 (o+((m - 2) - 2)) E E kR qO (by rw [Bk,V3 qO]; omega) Cs ?_);rw [A12 qO qO (by rw [A13,<- hv]; omega)];refine E3 (D6 0 4 12) (C2 (mv_ ?_));refine A2 (Q8 (b:=4) E E E E qO qO) E ?_;refine as_ (C6 ?_);exact jn (m - 4) ⟨by omega,by omega⟩ (kq 0 (kq 4 (kp 12 (by rw [show n - (m - 4)=k+4 by omega,A13,<- hv]; rfl) kn))) (Ce (by rw [show n - (m - 4)=k+4 by omega,show m - 2 - 2=m - 4 by omega,show k+2+2=k+4 by omega])) qI
   .
    have hm4:m < 4:=by simp at hc; omega
    refine A6 ?_;exact jn m ⟨hm,hm4⟩ (kq 0 (kq 4 (kp 12 (by rw [<- hk,<- hv]; rfl) kn))) (Ce (by rw [<- hk])) qI
  .
   rintro m2 ⟨hm2,hm24⟩;have hb2:=A5B hu hm2
   obtain ⟨k2,hk2⟩:∃ k,k=n - m2:=⟨_,E⟩
   rw [<- hk2];have hkm2:k2+m2=n:=by omega
   obtain ⟨v2,hv2⟩:∃ v,v=u / 10 ^ k2:=⟨_,E⟩
   rw [<- hv2];rw [<- hk2,<- hv2] at hb2;have hb27:v2 < 1000:=Bp hb2 (Bq qD qO:10 ^ m2<=10 ^ 3);refine P8 (α:=Nat) (λ m=>[(0,.slice (some ⟨b,o,none⟩) n cap),(4,.int .i64 (m:Int)),(12,.int .u32 ((u / 10 ^ (n - m):Nat):Int))]) (λ m=>[(b,blk (nums .u8 (xs.take (o+m)++(dgs (n - m) u++xs.drop (o+n)))) e)]) (λ _=>[]) (λ m=>m<=n∧m < 2) ?_ ?_
   .
    refine A1 (mv_ ?_);refine A2 (F0 E E E) E ?_;refine A0 (D8 0 4 12 139) ?_;refine C4 E ?_ ?_ <;> intro hc
    .
     have hm22:2<=m2:=by simp at hc; omega
     refine A1 (mv_ ?_);refine A2 (T8 (b:=100) E E E E qO) E ?_;refine A2 (Q3 4294967296 (b:=2) E E E E E E) E ?_;refine as_ (A0 (D8 0 4 12 16) (A1 (mv_ ?_)));refine A2 (A3S (b:=100) (m:=4294967296) E E E E E E qO qO) E ?_;refine as_ (A0 (D8 0 4 12 16) ?_);refine D1 [0,1,2,3,4,5,6,7,8,9,10,11,13] (zp 0 [0,0,0,0,0,0,0,0,0,0,0,0,2,0,2]) kR kR λ hs=>?_;refine fm_ hs ?_;refine fm_ hs ?_;refine C8 hs E (Q8 (b:=1) E E E E qO qO) E ?_;refine fm_ hs ?_;refine fm_ hs ?_;refine C8 hs E (Q8 (b:=2) E E E E qO qO) E ?_;refine fm_ hs ?_;refine C8 hs E (H2 4294967296 (b:=1) E E E E E E) E ?_;refine C8 hs E (A0V (p:=(v2 % 100)) E kR E kR qO qO) E ?_;refine fm_ hs ?_;refine C8 hs E (A0U (p:=(v2 % 100)) E kR E kR qO qO) E ?_;refine C8 hs E (L8 (e:=5) (sz:=1) (i:=m2 - 1) E E kR kR qO qO) E ?_;refine G1 E E E (K8 (o+(m2 - 1)) E E kR qO (by rw [V3 qO]; omega) Cs ?_);refine C8 hs E (L8 (e:=5) (sz:=1) (i:=m2 - 2) E E kR kR qO qO) E ?_;refine G1 E E E (K8 (o+(m2 - 2)) E E kR qO (by rw [Bk,V3 qO]; omega) Cs ?_);rw [A12 qO qO (by rw [<- hv2])];refine E3 (D6 0 4 12) (C2 (mv_ ?_));refine A2 (Q8 (b:=2) E E E E qO qO) E ?_;refine as_ (C6 ?_);exact jn (m2 - 2) ⟨by omega,by omega⟩ (kq 0 (kq 4 (kp 12 (by rw [show n - (m2 - 2)=k2+2 by omega,A13,<- hv2]; rfl) kn))) (Ce (by rw [show n - (m2 - 2)=k2+2 by omega])) qI
    .
     have hm22:m2 < 2:=by simp at hc; omega
     refine A6 ?_;exact jn m2 ⟨hm2,hm22⟩ (kq 0 (kq 4 (kp 12 (by rw [<- hk2,<- hv2]; rfl) kn))) (Ce (by rw [<- hk2])) qI
   .
    rintro m3 ⟨hm3,hm32⟩;have hb3:=A5B hu hm3;refine A1 (mv_ ?_);refine A2 (F0 E E E) E ?_;refine A0 (D6 0 12 161) ?_;refine C4 E ?_ ?_ <;> intro hc
    .
     obtain rfl:m3=1:=by simp at hc; omega
     obtain ⟨k3,hk3⟩:∃ k,k=n - 1:=⟨_,E⟩
     rw [<- hk3];have hkm3:k3+1=n:=by omega
     obtain ⟨v3,hv3⟩:∃ v,v=u / 10 ^ k3:=⟨_,E⟩
     rw [<- hv3];rw [<- hk3,<- hv3] at hb3;have hb37:v3 < 10:=by simpa using hb3
     refine C2 (mv_ (mv_ ?_));refine A2 (H2 4294967296 (a:=48) E E E E E E) E ?_;refine A2 (A04 E kR) E ?_;rw [show (48+v3) % 4294967296 % 256=48+u / 10 ^ k3 % 10 by rw [<- hv3]; omega];refine A2 (L8 (e:=5) (sz:=1) (i:=0) E E kR kR E qO) E ?_;refine A3 E (K8 (o+(1 - 1)) E E kR qO (by rw [V3 qO]; omega) Cs ?_);rw [A3V qO qO];refine C6 ?_;exact ⟨_,[(b,_)],[],A8p E,Ao _,by simp,E,by rw [hkm3]; rfl⟩
    .
     obtain rfl:m3=0:=by simp at hc; omega
     refine A6 ?_;exact ⟨_,[(b,_)],[],A8p E,Ao _,by simp,E,E⟩

def B8v:LN:=[48,49,50,51,52,53,54,55,56,57,97,98,99,100,101,102,103,104,105,106,107,108,109,110,111,112,113,114,115,116,117,118,119,120,121,122]
theorem A9L:∀ i:Fin 10,(B8v.take (i.val+1)).drop i.val=dec i.val:=by decide +kernel
theorem A7M:∀ i:Fin 100,10<=i.val->(A5A.take (i.val * 2+2)).drop (i.val * 2)=dec i.val:=by decide +kernel
theorem B4X(h0:0 < n)(h:n<=9223372036854775808):IntKind.u64.wrap (-(n:Int))=((18446744073709551616 - n:Nat):Int):=by simp [IntKind.wrap,IntKind.bits,IntKind.signed]; omega
theorem B1a(h0:0 < n)(h:n<=9223372036854775808):IntKind.u64.wrap (0 - ((18446744073709551616 - n:Nat):Int))=(n:Int):=by simp [IntKind.wrap,IntKind.bits,IntKind.signed]; omega
theorem B8w(h:nd10 n<=20):(((List.replicate 24 0).take 1++(dgs (nd10 n) n++(List.replicate 24 0).drop (1+nd10 n))).drop 1).take (nd10 n)=dec n:=by rw [List.drop_append_of_le_length qM];simp [dec];rw [List.take_append_of_le_length (by rw [A10]; omega),Aw (by rw [A10]; omega)]
theorem B8x(h:nd10 n<=20):(((List.replicate 24 0).take 1++(dgs (nd10 n) n++(List.replicate 24 0).drop (1+nd10 n))).set 0 45).take (1+nd10 n)=45::dec n:=by simp only [List.replicate,List.take,List.cons_append,List.nil_append,List.set_cons_zero];rw [Nat.add_comm 1,List.take_succ_cons,List.take_append_of_le_length (by rw [A10]; omega),Aw (by rw [A10]; omega)];rfl
theorem A8E{k:IntKind}(ws:LN)(o n:Nat):((nums k ws).drop o).take n=nums k ((ws.drop o).take n):=by simp [nums,List.map_drop,List.map_take]
theorem A3W(h:nd10 n<=20):((List.replicate 24 0).take 1++(dgs (nd10 n) n++(List.replicate 24 0).drop (1+nd10 n))).length=24:=by simp [A10]; omega
theorem A6O(i:Nat)(hi:i < 100)(A:Mem):FnV Tryz.prog 201 [.int .i64 (i:Int)] A (.string (txt (dec i))):=by
 refine Ck (N:=15) Tryz.func201 E E E λ w=>?_;refine A9 (D5 0) (A1 (as_ (A0 (D5 0) (A4 (A1 (mv_ ?_))))));refine A2 (F0 E E E) E ?_;refine A0 (D2 0 4) ?_;refine C4 E ?_ ?_ <;> intro hc
 .
  have hlt:i < 10:=by simp at hc; omega
  refine A1 (mv_ (mv_ ?_));refine A2 (K7 (b:=1) E E E E qO) E ?_;refine A2 (A9L ⟨i,hlt⟩▸B8t (ws:=B8v) (a:=i) (b:=i+1) E kR E E kR E E qO (by show _<=36; omega)) E ?_;refine as_ (A0 (D5 2) (C0 (tr ?_)));exact ⟨_,[],[],I0 E E,Aa _,by simp,E,E,E⟩
 .
  have hge:10<=i:=by simp at hc; omega
  refine A6 (nx (D5 0) (A1 (mv_ ?_)));refine A2 (A03 (b:=2) E E E E qO) E ?_;refine mv_ ?_;refine A2 (A03 (b:=2) E E E E qO) E ?_;refine A2 (K7 (b:=2) E E E E qO) E ?_;refine A2 (A7M ⟨i,hi⟩ hge▸B8t (ws:=A5A) (a:=i * 2) (b:=i * 2+2) E kR E E kR E E qO (by rw [A2T]; omega)) E ?_;refine as_ (A0 (D5 2) (C0 ?_));exact ⟨_,[],[],I0 E E,Aa _,by simp,E,E,E⟩
theorem A4E(i:Int)(hmin:-9223372036854775808<=i)(hmax:i<=9223372036854775807)(A:Mem)(h4:(4,Obj.cells (nums .u64 A0B).toArray e4 f4)∈A):FnV Tryz.prog 184 [.int .i64 i,.int .i64 10] A (.string (txt (A1O i))):=by
 refine Ck (N:=54) Tryz.func184 E E E λ w=>?_;refine A9 (D2 0 1) (A1 (as_ (A0 (D2 0 1) (A4 (A1 (mv_ ?_))))));refine A2 (F5 true E E (eqT E)) E ?_;refine A0 (D6 0 1 11) ?_;refine E1 E ?_;refine A4 (A1 (mv_ ?_));refine A2 (F0 E E E) E ?_;refine mv_ ?_;refine X3 (t:=14) E (λ hb=>?_) (λ hb=>?_)
 .
  obtain ⟨n,rfl⟩:=Int.eq_ofNat_of_zero_le (show 0<=i by simpa using hb);clear hb hmin;rw [show A1O ((n:Nat):Int)=dec n by simp [A1O]];refine F3 E E (Cn qm_ E ?_);refine F3 E E (Cn (F0 E E E) E ?_);refine A2 (G8 E E) E ?_;refine A0 (D2 0 17) ?_;refine C4 E ?_ ?_ <;> intro hc
  .
   have hlt:n < 100:=by simp at hc; omega
   refine A1 (mv_ ?_);refine E6 (aS E a0) kR (A6O n hlt _) E ?_;refine as_ (A0 (D5 4) (C0 (tr (tr ?_))));exact ⟨_,[],[],I0 E E,Aa _,by simp,E,E,E⟩
  .
   have hge:100<=n:=by simp at hc; omega
   refine A6 (nx (D5 0) (A1 ?_));refine A3 E (C3 (cs:=[zu8,zu8,zu8,zu8,zu8,zu8,zu8,zu8,zu8,zu8,zu8,zu8,zu8,zu8,zu8,zu8,zu8,zu8,zu8,zu8,zu8,zu8,zu8,zu8]) kR E λ b5=>?_);refine A0 (D2 0 5) ?_;have hnd:=A1j (u:=n) qO;have hnd1:1<=nd10 n:=A3U 64 n;have hlt10:n < 10 ^ nd10 n:=A6I 64 n (Nat.lt_trans (show n < 18446744073709551616 by omega) qD);refine A0H (M':=[(b5,blk (nums .u8 (List.replicate 24 0)) 288)]) (Ce qR) qI ?_;refine A1 (mv_ ?_);refine A2 ((Af (show n < 18446744073709551616 by omega))▸B0I E kR) E ?_;refine as_ (A0 (D6 0 5 6) (A4 (A1 (mv_ ?_))));refine A2 (F0 E E E) E ?_;refine A0 (D8 0 5 6 23) ?_;refine C4 E ?_ ?_ <;> intro hc
   . exfalso;simp at hc;omega
   .
    refine A6 (nx (D6 0 5 6) (A1 (mv_ ?_)));refine E6 (aS E a0) kR (A1Q n qO qO _ (mA h4)) E ?_;refine as_ (A0 (D8 0 5 6 7) (A1 (mv_ ?_)));refine A2 (K7 (a:=1) E E E E qO) E ?_;refine A2 (A7K (sz:=1) (n:=24) (e:=5) 1 (1+nd10 n) E kR kR E E E E qO qO qO) E ?_;refine mv_ ?_;refine A3 E (B00 (Mc:=[(b5,blk (nums .u8 (List.replicate 24 0)) 288)]) (aS E (aS E a0)) kR (A6N b5 (0+1 * 1) (1+nd10 n - 1) (24 - 1) n (List.replicate 24 0) _ qO qO (by simp; omega) (by rw [Nat.add_sub_cancel_left]; exact hlt10) qO _) qP E ?_);rintro r32 M32 J32 ⟨rfl,rfl⟩;rw [Nat.add_sub_cancel_left];dsimp only [List.cons_append,List.nil_append];refine A0 (D6 0 5 7) (A4 (A1 (mv_ ?_)));refine A2 (F0 E E E) E ?_;refine A0 (D6 5 7 34) ?_;refine C4 E ?_ ?_ <;> intro hc
    . exfalso;simp at hc;omega
    . refine A6 (nx (D2 5 7) (A1 (mv_ ?_)));refine A2 (K7 (a:=1) E E E E qO) E ?_;refine A2 (A7K (sz:=1) (n:=24) (e:=5) 1 (1+nd10 n) E kR kR E E E E qO qO qO) E ?_;refine A2 (A3M (ws:=dec n) (n:=1+nd10 n - 1) (A0x (Rd.mid (o:=0+1 * 1) (n:=1+nd10 n - 1) (cap:=24 - 1) Cc (by rw [nums_len,A3W hnd]; omega) qO) E (by rw [A8E,Nat.add_sub_cancel_left,show 0+1 * 1=1 from rfl,B8w hnd])) E kR) E ?_;refine as_ (A0 (D5 4) (C0 (tr ?_)));exact ⟨_,[],[],I0 E E,Aa _,by simp,E,E,E⟩
 .
  obtain ⟨n,hn0,rfl⟩:∃ n:Nat,0 < n∧i = -(n:Int):=⟨i.natAbs,by simp at hb; omega,by simp at hb; omega⟩
  clear hb;rw [show A1O (-(n:Int))=45::dec n by simp [A1O]; omega];refine K3 E E E E ?_;refine K3 E E E E ?_;refine A2 (F2 E E) E ?_;refine A0 (D2 0 17) ?_;refine C9 E ?_;refine A6 (nx (D5 0) (A1 ?_));refine A3 E (C3 (cs:=[zu8,zu8,zu8,zu8,zu8,zu8,zu8,zu8,zu8,zu8,zu8,zu8,zu8,zu8,zu8,zu8,zu8,zu8,zu8,zu8,zu8,zu8,zu8,zu8]) kR E λ b5=>?_);refine A0 (D2 0 5) ?_;have hnd:=A1j (u:=n) qO;have hnd1:1<=nd10 n:=A3U 64 n;have hlt10:n < 10 ^ nd10 n:=A6I 64 n (Nat.lt_trans (show n < 18446744073709551616 by omega) qD);refine A0H (M':=[(b5,blk (nums .u8 (List.replicate 24 0)) 288)]) (Ce qR) qI ?_;refine A1 (mv_ ?_);refine A2 (B4X hn0 qO▸B6X (k':=.u64) E kR) E ?_;refine as_ (A0 (D6 0 5 6) (A4 (A1 (mv_ ?_))));refine A2 (F0 E E E) E ?_;refine A0 (D8 0 5 6 23) ?_;refine C4 E ?_ ?_ <;> intro hc
  .
   refine C2 (mv_ ?_);refine A2 (B1a hn0 qO▸C3c E) E ?_;refine as_ (A0 (D6 0 5 6) (A1 (mv_ ?_)));refine E6 (aS E a0) kR (A1Q n qO qO _ (mA h4)) E ?_;refine as_ (A0 (D8 0 5 6 7) (A1 (mv_ ?_)));refine A2 (K7 (a:=1) E E E E qO) E ?_;refine A2 (A7K (sz:=1) (n:=24) (e:=5) 1 (1+nd10 n) E kR kR E E E E qO qO qO) E ?_;refine mv_ ?_;refine A3 E (B00 (Mc:=[(b5,blk (nums .u8 (List.replicate 24 0)) 288)]) (aS E (aS E a0)) kR (A6N b5 (0+1 * 1) (1+nd10 n - 1) (24 - 1) n (List.replicate 24 0) _ qO qO (by simp; omega) (by rw [Nat.add_sub_cancel_left]; exact hlt10) qO _) qP E ?_);rintro r32 M32 J32 ⟨rfl,rfl⟩;rw [Nat.add_sub_cancel_left];dsimp only [List.cons_append,List.nil_append];refine A0 (D6 0 5 7) (A4 (A1 (mv_ ?_)));refine A2 (F0 E E E) E ?_;refine A0 (D6 5 7 34) ?_;refine C4 E ?_ ?_ <;> intro hc
   . refine A1 ?_;refine A2 (qi_ 0 5 24 1 0) E ?_;refine A3 E (K8 0 E E kR E (by rw [A3W hnd]; omega) Cs ?_);refine A0 (D2 5 7) (A1 (mv_ ?_));refine A2 (K7 (a:=1) E E E E qO) E ?_;refine A2 (B8q (sz:=1) (n:=24) (e:=5) (1+nd10 n) E kR kR E E qO) E ?_;refine A2 (A3M (ws:=45::dec n) (n:=1+nd10 n) (A0x (Rd.mid (o:=0) (n:=1+nd10 n) (cap:=24) Cc (by rw [nums_len,Bk,A3W hnd]; omega) qO) E (by rw [A8E,List.drop_zero,B8x hnd])) E kR) E ?_;refine as_ (A0 (D5 4) (C0 (tr (tr ?_))));exact ⟨_,[],[],I0 E E,Aa _,by simp,E,E,E⟩
   . exfalso;simp at hc;omega
  . exfalso;simp at hc;omega
theorem A9M(i:Int)(hmin:-9223372036854775808<=i)(hmax:i<=9223372036854775807)(A:Mem)(h4:(4,Obj.cells (nums .u64 A0B).toArray e4 f4)∈A):FnV Tryz.prog 157 [.int .i64 i] A (.string (txt (A1O i))):=by refine Ck (N:=5) Tryz.func157 E E E λ w=>?_;refine A9 (D5 0) (A1 (as_ (A0 (D5 0) (A1 (mv_ ?_)))));refine E6 (aS E (aS E a0)) kR (A4E i hmin hmax _ (mA h4)) E ?_;refine as_ (A0 (D5 2) (C0 ?_));exact ⟨_,[],[],I0 E E,Aa _,by simp,E,E,E⟩
theorem A1m(i:Int)(hmin:-9223372036854775808<=i)(hmax:i<=9223372036854775807)(A:Mem)(h4:(4,Obj.cells (nums .u64 A0B).toArray e4 f4)∈A):FnV Tryz.prog 120 [.int .i64 i] A (.string (txt (A1O i))):=by refine Ck (N:=5) Tryz.func120 E E E λ w=>?_;refine A9 (D5 0) (A1 (as_ (A0 (D5 0) (A1 (mv_ ?_)))));refine E6 (aS E a0) kR (A9M i hmin hmax _ (mA h4)) E ?_;refine as_ (A0 (D5 2) (C0 ?_));exact ⟨_,[],[],I0 E E,Aa _,by simp,E,E,E⟩

theorem A9N(l:LN)(r:LN):dv l<=dv (l++r):=by
  have key:∀ (r:LN) (a:Nat),a<=r.foldl (λ a c=>a * 10+(c - 48)) a:=by
    intro r
    induction r with
    | nil=>intro a; exact Av _
    | cons c r ih=>intro a; exact Az (show a<=a * 10+(c - 48) by omega) (ih _)
  unfold dv;rw [List.foldl_append];exact key r _
theorem A6P{l:LN}{i:Nat}(h:i < l.length):dv (l.take (i+1))=dv (l.take i) * 10+(l.getD i 0 - 48):=by rw [Bh,Ab h];simp only [Option.toList_some,B7g,List.getD,List.getElem?_eq_getElem h,Option.getD_some]
theorem A4W(l:LN)(i:Nat):dv (l.take i)<=dv l:=by
  conv=>rhs; rw [<- List.take_append_drop i l]
  exact A9N _ _
theorem A6Q{l:LN}{i:Nat}(h:i < l.length):l.getD i 0∈l:=by simp [List.getD,List.getElem?_eq_getElem h]
instance B256.dec{u:Nat}:B256 (dec u):=⟨λ x h=>by have:=A1l h; omega⟩
theorem B8y(h:m < 1000000000000000000):0 < nd10 m∧nd10 m < 19:=by
  refine ⟨A3U 64 m,?_⟩;by_cases h10:10<=m
  . have h3:10 ^ (nd10 m - 1)<=m:=A8B 64 m h10;have:10 ^ (nd10 m - 1) < 10 ^ 18:=Be h3 h;have:=(Nat.pow_lt_pow_iff_right (by decide:1 < 10)).1 this;omega
  . have hd:nd10 m=1:=by unfold nd10 ndF; rw [if_pos qO]
    omega
theorem A9O(m:Nat)(hm:m < 1000000000000000000)(A:Mem):FnV Tryz.prog 163 [.string (txt (dec m))] A (.tuple #[.int .i64 (m:Int),.nilIface]):=by
 refine Ck (N:=77) Tryz.func163 E E E λ w=>?_;refine A9 (D5 0) (A1 (as_ (as_ (A0 (D5 0) (A1 (mv_ ?_))))));refine A2 (A4S E E kR) E ?_;refine as_ (A0 (D2 0 4) (A4 ?_));obtain ⟨hn0,hn18⟩:=B8y hm;have hdl:=A11 m;have hb:∀ i,i < (dec m).length->48<=(dec m).getD i 0∧(dec m).getD i 0 < 58:=λ i hi=>A1l (A6Q hi);have hb0:=hb 0 qO;refine A1 (mv_ ?_);refine K3 E E E E ?_;refine K3 E E E E ?_;refine K3 E E E E ?_;refine B4q E E E ?_;refine B4q E E E ?_;refine K3 E E E E ?_;refine A2 (F2 E E) E ?_;refine mv_ ?_;refine F3 E E (Cn qm_ E ?_);refine F3 E E (Cn qm_ E ?_);refine F3 E E (Cn (F5 true E E (ltT qO)) E ?_);refine F3 E E (Cn qm_ E ?_);refine F3 E E (Cn qm_ E ?_);refine F3 E E (Cn (F5 true E E (ltT qO)) E ?_);refine F3 E E (Cn (G8 E E) E ?_);refine F3 E E (Cn (G8 E E) E ?_);refine A2 (F2 E E) E ?_;refine A0 (D2 0 30) ?_;refine E1 E ?_;refine A1 (mv_ (as_ (A0 (D2 0 5) (A4 (A1 (mv_ ?_))))));refine A2 (A6H (a:=0) E E B256.lt E kR E qO) E ?_;refine A2 (F5 false E E (eqF qO)) E ?_;refine mv_ ?_;refine F3 E E (Cn qm_ E ?_);refine F3 E E (Cn (A6H (a:=0) E E B256.lt E kR E qO) E ?_);refine F3 E E (Cn (F5 false E E (eqF qO)) E ?_);refine A2 (F2 E E) E ?_;refine A0 (D6 0 5 39) ?_;refine C9 E ?_;refine A6 (nx (D2 0 5) (A1 (as_ (A0 (D6 0 5 6) (A4 (A1 (mv_ ?_)))))));refine A3 E (A1i (e:=5) E E B256.lt kR kR kR E λ v47 B47 hs47=>?_);refine A2 (G6 (sz:=1) E kR (by first | assumption | exact Sl.rd (by assumption) qI | exact By.rd (by assumption))) E ?_;refine mv_ (A0 (E8 5 6 47 48 49) (A8 ?_));refine E5 (α:=Nat) (λ i=>[(5,.string (txt (dec m))),(6,.int .i64 ((dv ((dec m).take i):Nat):Int)),(47,v47),(48,.int .i64 (((dec m).length:Nat):Int)),(49,.int .i64 (i:Int))]) (λ _=>B47) (λ _=>[]) (λ i=>i<=(dec m).length) (λ i=>(dec m).length - i) 0 (Am _) (E8 5 6 47 48 49) (Ce qM) qI ?_;rintro i hi;have hle:=A4W (dec m) i;rw [A1k qO] at hle;refine A1 ?_;refine A2 (F0 E E E) E ?_;refine A0 (H1 5 6 47 48 49 50) (A4 ?_);refine C4 E ?_ ?_ <;> intro hc
 .
  have hlt:i < (dec m).length:=by simp at hc; omega
  have hbi:=hb i hlt;have hds:=A6P hlt;have hle2:=A4W (dec m) (i+1);rw [A1k qO,hds] at hle2;refine A6 (nx (E8 5 6 47 48 49) (A4 (A8 (A1 ?_))));refine A2 (H4 (sz:=1) E E kR E (by first | assumption | exact Sl.rd (by assumption) qI | exact By.rd (by assumption)) qO) E ?_;refine A2 (A0T (k:=.u8) E kR (by first | exact Rd.mono (by assumption) qS | exact Sl.rd (by assumption) qS | exact Rd.mono (By.rd (by assumption)) qS) qO) E ?_;refine as_ (A0 (H1 5 6 8 47 48 49) (A1 (mv_ ?_)));refine A2 (A2u 256 (b:=48) E E E E E E qO) E ?_;rw [show ((dec m).getD i 0+(256 - 48)) % 256=(dec m).getD i 0 - 48 by omega];refine as_ (A0 (H1 5 6 8 47 48 49) (A4 (A1 (mv_ ?_))));refine A2 (F5 false E E (gtF qO)) E ?_;refine A0 (N9 5 6 8 47 48 49 56) ?_;refine C9 E ?_;refine A6 (nx (H1 5 6 8 47 48 49) (C2 (mv_ ?_)));refine A2 (A03 (b:=10) E E E E qO) E ?_;refine mv_ ?_;refine A2 (A1K (k':=.i64) E kR (by show _ < 9223372036854775808; omega)) E ?_;refine A2 (K7 E E E E qO) E ?_;refine as_ (C6 (nb (nx (E8 5 6 47 48 49) (C2 ?_))));refine A2 (K7 (b:=1) E E E E qO) E ?_;refine mv_ (C6 ?_);exact rn (i+1) qO qO (kq 5 (kp 6 (by rw [hds]; rfl) (D6 47 48 49))) (Ce qM) qI
 .
  have hge:i=(dec m).length:=by simp at hc; omega
  subst hge;rw [List.take_length,A1k qO];refine D9 (te (re (be E (nx (D2 5 6) (A4 (A1 (mv_ ?_)))))));refine A2 (A6H (a:=0) E E B256.lt E kR E qO) E ?_;refine A2 (F5 false E E (eqF qO)) E ?_;refine A0 (D2 6 66) ?_;refine C9 E ?_;refine A6 (nx (D5 6) (A1 (mv_ (as_ (as_ (A0 (D2 2 3) (C0 (tr ?_))))))));exact ⟨_,[],[],A1s E E E,Aa _,by simp,E,E,E⟩
theorem B1b(m:Nat)(hm:m < 1000000000000000000)(A:Mem):FnV Tryz.prog 132 [.string (txt (dec m))] A (.tuple #[.int .i64 (m:Int),.nilIface]):=by refine Ck (N:=18) Tryz.func132 E E E λ w=>?_;refine A9 (D5 0) (A1 (as_ (as_ (A0 (D5 0) (A1 (mv_ ?_))))));refine E6 (aS E a0) kR (A9O m hm _) E ?_;refine mv_ ?_;refine A2 (Y8 E) E ?_;refine A2 (Y4 E) E ?_;refine as_ (as_ (A0 (D6 0 4 5) (A4 (A1 (mv_ ?_)))));refine A2 (B05 E kR) E ?_;refine A0 (D8 0 4 5 12) ?_;refine C9 E ?_;refine A6 (nx (D5 4) (A1 (mv_ (as_ (as_ (A0 (D2 2 3) (C0 ?_)))))));exact ⟨_,[],[],A1s E E E,Aa _,by simp,E,E,E⟩
def mark(p:LN):LN:=dec p.length++58::p
def A05(l:List (LN)):LN:=l.flatMap mark
theorem A1y(p:LN)(h:p.length < 18446744073709551616):(mark p).length<=p.length+21:=by have:=A1j h;simp [mark,A11]; omega
instance B256.mark{p:LN}[h:B256 p]:B256 (mark p):=by unfold Go.Proofs.YtjkpfgjfpbihaaaGreatDoor.mark; exact @B256.app _ _ _ (B256.cons qD h)
theorem A2v(v:Value)(p:LN)(A:Mem)(hp:Rd A 1 v p.length (nums .u8 p))[hb:B256 p](hl:p.length<=1099511627776)(h4:(4,Obj.cells (nums .u64 A0B).toArray e4 f4)∈A):FnV Tryz.prog 78 [v] A (.string (txt (mark p))):=by have hdl:=A11 p.length;have hd20:=A1j (u:=p.length) qO;refine Ck (N:=10) Tryz.func78 E E E λ w=>?_;refine A9 (D5 0) (A1 (as_ (A0 (D5 0) ?_)));refine D1 (.range 8) [(0,0),(1,0),(4,0),(5,1),(2,2),(3,0),(6,0),(7,0)] kR kR λ hs=>?_;refine fm_ hs ?_;refine C8 hs E (G6 (sz:=1) E kR hp) E ?_;refine fm_ hs ?_;refine F9 hs E (N5 E kR (by first | exact Rd.mono (by assumption) qS | exact Sl.rd (by assumption) qS | exact Rd.mono (By.rd (by assumption)) qS)) E ?_;refine N3 E (aS E a0) kR (A1m (p.length:Int) qO qO _ (mA h4)) E ?_;rw [show A1O ((p.length:Nat):Int)=dec p.length by simp [A1O]];refine C8 hs E (A1N (ws':=[58]) E E E kR (by first | omega | (simp only [List.length_append,List.length_cons,List.length_nil,List.length_take,List.length_drop]; omega))) E ?_;refine C8 hs E (A1N E E E E (by first | omega | (simp only [List.length_append,List.length_cons,List.length_nil,List.length_take,List.length_drop]; omega))) E ?_;refine fa_ hs ?_;refine E3 (D5 2) (C0 ?_);exact ⟨_,[],[],I0 E E,Aa _,by simp,by simp [mark],E,E⟩
theorem A4X(p:LN)(l:List (LN)):A05 (p::l)=dec p.length++58::(p++A05 l):=by simp [A05,mark]
theorem A9P{p R s:LN}(h:s=dec p.length++58::(p++R)):s.length=(dec p.length).length+1+p.length+R.length∧s.getD (dec p.length).length 0=58∧(∀ k,k < (dec p.length).length->s.getD k 0≠58)∧s.take (dec p.length).length=dec p.length∧(s.take ((dec p.length).length+1+p.length)).drop ((dec p.length).length+1)=p∧s.drop ((dec p.length).length+1+p.length)=R:=by
  have e:s=(dec p.length++[58]++p)++R:=by rw [h]; simp
  have e2:(dec p.length++[58]++p).length=(dec p.length).length+1+p.length:=by simp; omega
  refine ⟨?_,?_,?_,?_,?_,?_⟩
  . rw [e]; simp; omega
  . rw [h]; simp [List.getD]
  . intro k hk;have:s.getD k 0=(dec p.length).getD k 0:=by rw [h]; simp only [List.getD]; rw [Ak hk]
    rw [this];have:=A1l (A6Q hk); omega
  . rw [h]; simp
  . rw [e,<- e2,List.take_left,show (dec p.length).length+1=(dec p.length++[58]).length by simp,List.drop_left]
  . rw [e,<- e2,List.drop_left]
def C01(l:List (LN)):List Value:=l.map λ p=>.string (txt p)
theorem A9Q(l:List (LN))(hb:B256 (A05 l))(hl:(A05 l).length<=1099511627776)(A:Mem)(h4:(4,Obj.cells (nums .u64 A0B).toArray e4 f4)∈A):FnX Tryz.prog 98 [.string (txt (A05 l))] [] A λ r M J=>J=[]∧∃ v,r=.tuple #[v,.int .i64 0]∧Sl 1 v l.length (C01 l) M:=by
 refine Ck (N:=77) Tryz.func98 E E E λ w=>?_;refine A9 (D5 0) (A1 (as_ (as_ (A0 (D5 0) (A1 (as_ (A0 (D2 0 4) (A4 ?_))))))));refine A8 ?_;refine E5 (α:=Nat×Value×Mem) (λ x=>[(0,.string (txt (A05 (l.drop x.1)))),(4,x.2.1)]) (λ x=>x.2.2) (λ _=>[]) (λ x=>x.1<=l.length∧Sl 1 x.2.1 x.1 (C01 (l.take x.1)) x.2.2∧B256 (A05 (l.drop x.1))∧(A05 (l.drop x.1)).length+x.1<=1099511627776) (λ x=>l.length - x.1) (0,vS,[]) ⟨Am _,Sl.nil,hb,hl⟩ (D2 0 4) .rfl qI ?_;rintro ⟨j,v,B⟩ ⟨hj,hsl,hbs,hml⟩;dsimp only at hj hsl hbs hml ⊢;refine A4 (A1 (mv_ ?_));refine A2 (A4S E E kR) E ?_;refine A2 (F0 E E E) E ?_;refine A0 (D6 0 4 10) ?_;refine C4 E ?_ ?_ <;> intro hc
 .
  have hlt:j < l.length:=by
   rcases Nat.lt_or_ge j l.length with h | h
   . exact h
   . rw [List.drop_eq_nil_of_le h] at hc; simp [A05] at hc
  obtain ⟨p,hp⟩:∃ p,p=l[j]:=⟨_,E⟩
  have hdr:l.drop j=p::l.drop (j+1):=by rw [hp]; exact Br hlt
  obtain ⟨f1,f2,f3,f4,f5,f6⟩:=A9P (A4X p (l.drop (j+1)));rw [<- hdr] at f1 f2 f3 f4 f5 f6;have hbR:B256 (A05 (l.drop (j+1))):=by rw [<- f6]; exact B256.drop
  have htk:C01 (l.take (j+1))=C01 (l.take j)++[.string (txt p)]:=by simp only [C01]; rw [Bh,Ab hlt,hp,List.map_append]; rfl
  generalize A05 (l.drop j)=s at *;refine A6 (nx (D2 0 4) (A8 (A1 (as_ (A0 (D6 0 4 5) (A4 (A8 ?_)))))));refine E5 (α:=Nat) (λ k=>[(0,.string (txt s)),(4,v),(5,.int .i64 (k:Int))]) (λ _=>B) (λ _=>[]) (λ k=>k<=(dec p.length).length) (λ k=>(dec p.length).length - k) 0 (Am _) (D6 0 4 5) .rfl qI ?_;rintro k hk;refine A4 ?_;by_cases hkl:k < (dec p.length).length
  . refine A1 (mv_ (mv_ ?_));refine A2 (A4S E E kR) E ?_;refine A2 (F5 true E E (ltT qO)) E ?_;refine mv_ ?_;refine F3 E E (Cn qm_ E ?_);refine F3 E E (Cn qm_ E ?_);refine F3 E E (Cn (A6H E E B256.lt E kR E qO) E ?_);refine F3 E E (Cn (F5 true E E (neT (by have:=f3 k hkl; omega))) E ?_);refine A2 (G8 E E) E ?_;refine A0 (D8 0 4 5 20) ?_;refine E1 E ?_;refine A6 (nx (D6 0 4 5) (A8 (C2 (mv_ ?_))));refine A2 (K7 (b:=1) E E E E qO) E ?_;refine as_ (C6 (nb ?_));exact rn (k+1) qO qO (D6 0 4 5) .rfl qI
  .
   obtain rfl:k=(dec p.length).length:=by omega
   refine A1 (mv_ (mv_ ?_));refine A2 (A4S E E kR) E ?_;refine A2 (F5 true E E (ltT qO)) E ?_;refine mv_ ?_;refine F3 E E (Cn qm_ E ?_);refine F3 E E (Cn qm_ E ?_);refine F3 E E (Cn (A6H E E B256.lt E kR E qO) E ?_);refine F3 E E (Cn (F5 false E E (neF (by rw [f2]; rfl))) E ?_);refine A2 (G8 E E) E ?_;refine A0 (D8 0 4 5 20) ?_;refine C9 E ?_;refine D9 (te (re (be E (nx (D6 0 4 5) (A1 (mv_ (mv_ ?_)))))));refine A2 (C0X E E E kR E (by first | omega | (simp only [List.length_append,List.length_cons,List.length_nil,List.length_take,List.length_drop]; omega))) E ?_;rw [f4];refine E6 (aS E a0) kR (B1b p.length qO _) E ?_;refine mv_ ?_;refine A2 (Y8 E) E ?_;refine A2 (Y4 E) E ?_;refine as_ (as_ (A0 (E8 0 4 5 6 7) (A4 ?_)));refine D1 (.range 29) [(0,0),(1,0),(2,0),(3,0),(5,0),(6,0),(7,0),(4,2),(8,0),(9,0),(10,0),(11,0),(12,0),(13,0),(14,0),(15,0),(16,0),(17,0),(18,0),(19,0),(20,0),(21,0),(22,0),(23,0),(24,0),(25,0),(26,0),(27,0),(28,0)] kR kR λ hs=>?_;refine fm_ hs ?_;refine C8 hs E (B05 E kR) E ?_;refine fm_ hs ?_;refine H9 hs E E E E qm_ E ?_;refine H9 hs E E E E qm_ E ?_;refine H9 hs E E E E qm_ E ?_;refine H9 hs E E E E (C0X E E E kR E (by first | omega | (simp only [List.length_append,List.length_cons,List.length_nil,List.length_take,List.length_drop]; omega))) E ?_;rw [f4];refine A2p E E E E (aS E a0) kR (A1m (p.length:Int) qO qO _ (mA h4)) E ?_;rw [show A1O ((p.length:Nat):Int)=dec p.length by simp [A1O]];refine H9 hs E E E E ((show (!decide (dec p.length=dec p.length))=false by simp)▸B02 E E E E B256.lt B256.lt) E ?_;refine C8 hs E (F2 E E) E ?_;refine fm_ hs ?_;refine H9 hs E E E E qm_ E ?_;refine H9 hs E E E E (F5 false E E (ltF qO)) E ?_;refine C8 hs E (F2 E E) E ?_;refine fm_ hs ?_;refine H9 hs E E E E qm_ E ?_;refine H9 hs E E E E qm_ E ?_;refine H9 hs E E E E (A4S E E kR) E ?_;refine H9 hs E E E E (F5 false E E (eqF qO)) E ?_;refine C8 hs E (F2 E E) E ?_;refine fm_ hs ?_;refine H9 hs E E E E qm_ E ?_;refine H9 hs E E E E qm_ E ?_;refine H9 hs E E E E (A4S E E kR) E ?_;refine H9 hs E E E E qm_ E ?_;refine H9 hs E E E E (Q8 E E E E qO qO) E ?_;refine H9 hs E E E E (Q8 (b:=1) E E E E qO qO) E ?_;refine H9 hs E E E E (F5 false E E (gtF qO)) E ?_;refine C8 hs E (F2 E E) E ?_;refine E3 (E8 0 4 5 6 58) ?_;refine C9 E ?_;refine A6 (nx (D8 0 4 5 6) ?_);refine H7 [0,1,2,3,4,5,6,7,8,9,11,12,13,14,15,16,17,18] [(0,0),(1,0),(2,0),(3,0),(4,0),(5,0),(6,0),(7,0),(8,0),(11,0),(12,0),(13,0),(14,0),(15,0),(16,0),(9,2),(10,2),(17,0),(18,0)] kR kR λ hs=>?_;refine fm_ hs ?_;refine fm_ hs ?_;refine fm_ hs ?_;refine C8 hs E (K7 (b:=1) E E E E qO) E ?_;refine fm_ hs ?_;refine C8 hs E (K7 (b:=1) E E E E qO) E ?_;refine fm_ hs ?_;refine C8 hs E (K7 E E E E qO) E ?_;refine C8 hs E (B8t E E E E kR E E qO (by first | omega | (simp only [List.length_append,List.length_cons,List.length_nil,List.length_take,List.length_drop]; omega))) E ?_;rw [f5];refine fm_ hs ?_;refine fm_ hs ?_;refine C8 hs E (K7 (b:=1) E E E E qO) E ?_;refine fm_ hs ?_;refine C8 hs E (K7 E E E E qO) E ?_;refine C8 hs E (C3o E E E kR E (by first | omega | (simp only [List.length_append,List.length_cons,List.length_nil,List.length_take,List.length_drop]; omega))) E ?_;rw [f6]
   refine B4M E E λ _=>(C5 (e:=9) (sz:=1) (z:=[.string ByteArray.empty]) kR (eS E e0) (bdS 0 1 E qR bd0) E λ b68=>?_)
   refine G1 E E E (H5 (e:=9) (sz:=1) (by_:=16) E E kR E (by first | assumption | exact Sl.nil) (Co (n:=1) Cc qR) (by first | (simp [Value.oneCell']; done) | (intro c hc; simp only [List.mem_singleton] at hc; subst hc; first | exact Rd.one (by assumption) | exact Sl.one (by assumption))) qP (by unfold maxLen; omega) qO E λ v69 B69 hs69=>?_);refine fa_ hs ?_;refine fa_ hs ?_;refine R9 (nb ?_);exact rn (j+1,v69,B69) ⟨by dsimp only; omega,by dsimp only; rw [htk]; exact hs69,hbR,by dsimp only; omega⟩ (by dsimp only; omega) (D2 0 4) (Ci (Ay _ _)) qI
 .
  have hge:j=l.length:=by
   rcases Nat.lt_or_ge j l.length with h | h
   . rw [Br h,A4X] at hc; simp at hc; omega
   . omega
  subst hge;rw [List.take_length] at hsl;refine D9 (te (re (be E (nx (D5 4) (A1 (mv_ (as_ (as_ (A0 (D2 2 3) ?_)))))))));refine C0 ?_;exact ⟨_,B,[],A1s E E E,Ao _,by simp,E,v,E,hsl⟩

end Go.Proofs.YtjkpfgjfpbihaaaGreatDoor
