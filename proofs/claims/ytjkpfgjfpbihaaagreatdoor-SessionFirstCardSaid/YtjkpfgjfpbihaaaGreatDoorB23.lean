/- Part 23 of the texts of this claim, one behind the other. -/
import Derived.Test.YtjkpfgjfpbihaaaGreatDoorB22
set_option linter.unusedVariables false
set_option linter.unusedSimpArgs false
set_option maxRecDepth 100000
namespace Go.Proofs.YtjkpfgjfpbihaaaGreatDoor
open Go.Px
noncomputable def frS(m j:Nat):Nat->Ps×Ses
  | 0=>(rcD m j,rcX m j)
  | i+1=>(A6p (frS m j i).1 (frS m j i).2.r (wiW (frS m j i).2 (frS m j i).2.he 0 1 1 1) [i % 256],Q7 (frS m j i).2 (K2 (frS m j i).1 (frS m j i).2.r))
noncomputable def frE(m j i:Nat):Ev:=evS (frS m j i).1 (frS m j i).2 (frS m j i).2.he 0 1 1 1 [i % 256]
def OpA(s:Ps)(x:Ses)(e:Ev):Prop:=s.ts.length<=900∧s.n<=900∧x.id=e.ses∧x.wi.length<=1000000∧e.ses.length+e.he.ia.length+e.he.ig.length+e.he.key.length<=1000000∧(x.wi++frW [] e).length+e.hk.length<=1000000∧e.g.length<=10000000∧0 < x.id.length
structure OpG(s:Ps)(x:Ses)(e:Ev)(z:Ps)(r:Rsd)(c:Int)(t:LN):Prop where
  a:OpA s x e
  h:OpnH s x.r e.hk e.hp e.hn
  o:U7 s x.r (x.wi++frW [] e) e.hk e.hp e.hn e.g=(z,r,c,t)
def RfG(s:Ps)(x:Ses)(e:Ev):Prop:=∃ r c t,c≠0∧OpG s x e s r c t
def GoF:List (Ev×LN)->Ps->Ses->Prop
  | [],_,_=>True
  | (e,t)::l,s,x=>∃ z r,OpG s x e z r 0 t∧RfG z (A6r x r) e∧GoF l z (A6r x r)
noncomputable def frT(m j i:Nat):Ev×LN:=(frE m j i,[i % 256])
noncomputable def frL(m j k p:Nat):List (Ev×LN):=(List.range k).map λ i=>frT m j ((p+i) % k)
def FrS(m j:Nat):Prop:=∀ i,i < 6->SnF (frS m j i).1 (frS m j i).2 0 1 1 1
def FrF(m j k p:Nat):Prop:=∃ sec own s2 sz rz,AnF (rcB m).1 (frE m j p) (frS m j k).1 [p % 256] sec own s2 sz rz∧RfG sz (A6r (aX (rcB m).1 (frE m j p) s2 sec own) rz) (frE m j p)∧GoF ((frL m j k p).drop 1) sz (A6r (aX (rcB m).1 (frE m j p) s2 sec own) rz)
instance{s:Ps}{x:Ses}{e:Ev}:Decidable (OpA s x e):=by unfold OpA; infer_instance
def inQ:Int->Bool
  | .ofNat n=>Nat.ble n 9223372036854775807
  | .negSucc n=>Nat.ble n 9223372036854775807
theorem B4d{i:Int}(h:inQ i=true):-9223372036854775808<=i∧i<=9223372036854775807:=by
  cases i with
  | ofNat n=>have:=Nat.le_of_ble_eq_true h; constructor <;> (show _<=_; simp only [Int.ofNat_eq_natCast]; omega)
  | negSucc n=>have:=Nat.le_of_ble_eq_true h; constructor <;> omega
def tmQ(t:Tm):Bool:=Nat.ble t.kind 255 && (inQ t.n && (t.of.all inQ && (Nat.ble t.of.length 1048576 && (Nat.ble (t.text.foldr Nat.lor 0) 255 && Nat.ble t.text.length 1099511627776))))
theorem B72:∀ {l:LN},l.foldr Nat.lor 0<=255->∀ x∈l,x<=255
  | [],_,x,hx=>absurd hx List.not_mem_nil
  | a::l,h,x,hx=>by
    have h1:a<=a ||| l.foldr Nat.lor 0:=Nat.left_le_or;have h2:l.foldr Nat.lor 0<=a ||| l.foldr Nat.lor 0:=Nat.right_le_or;have h3:a ||| l.foldr Nat.lor 0<=255:=h;rcases List.mem_cons.1 hx with rfl | hx
    . omega
    . exact B72 qO x hx
theorem C2J{t:Tm}(h:tmQ t=true):tmB t=true:=by
  simp only [tmQ,Bool.and_eq_true,List.all_eq_true] at h;obtain ⟨a,b,c,d,e,f⟩:=h;have a:=Nat.le_of_ble_eq_true a;simp only [tmB,Bool.and_eq_true,decide_eq_true_eq,List.all_eq_true];refine ⟨⟨⟨⟨⟨⟨?_,(B4d b).1⟩,(B4d b).2⟩,λ i hi=>B4d (c i hi)⟩,Nat.le_of_ble_eq_true d⟩,λ x hx=>?_⟩,Nat.le_of_ble_eq_true f⟩
  . unfold Nat.blt; exact Nat.ble_eq_true_of_le qO
  . have:=B72 (Nat.le_of_ble_eq_true e) x hx; omega
theorem allQ{ts:List Tm}(h:ts.all tmQ=true):ts.all tmB=true:=List.all_eq_true.2 λ t ht=>C2J (List.all_eq_true.1 h t ht)
noncomputable def anU(L:List (LN×LN))(e:Ev)(tx:LN)(F:Ps)(X:Ses)(C:Ps×Rsd)(D:Ps)(K:LN):Bool:=!D.real && (decide (A3f X.r.sks e.hk e.hn=none) && ((!A0R X.r e.hk || decide (B0l X.r e.hp=0)) && (decide (ahE C.2.tn e.hn=0) && ((D.ts.all tmQ && Fo.f (D.ts.map tcd) ndC) && (C2E D.ts K (alW (X.wi++frW [] e) e.hk e.hp e.hn) e.g tx && (A7u L F.ts && (A7u L D.ts && ((List.range D.ts.length).any λ i=>K == bts ((i:Nat):Int)))))))))
variable{L:List (LN×LN)}{e:Ev}
theorem C2K{tx:LN}{F:Ps}{X:Ses}(h:anU L e tx F X (opB F X.r e.hk e.hp) (opD (opB F X.r e.hk e.hp) e.hn) (A4y (opB F X.r e.hk e.hp) e.hn)=true):OpnH F X.r e.hk e.hp e.hn∧U7 F X.r (X.wi++frW [] e) e.hk e.hp e.hn e.g=((opZ (A0R X.r e.hk) (opD (opB F X.r e.hk e.hp) e.hn) (opG X.r (opB F X.r e.hk e.hp) e.hn)).1,(opZ (A0R X.r e.hk) (opD (opB F X.r e.hk e.hp) e.hn) (opG X.r (opB F X.r e.hk e.hp) e.hn)).2,0,tx):=by unfold anU at h;simp only [Bool.and_eq_true,decide_eq_true_eq,Bool.not_eq_true',Bool.or_eq_true] at h;obtain ⟨h2,h3,h4,h5,h6,h7,h8,h9,h10⟩:=h;exact ⟨⟨A0E L h8,λ z hz=>absurd (hz.symm.trans h3) qM,A0E L h9,A7t h10⟩,A5f h3 E (λ hf=>h4.resolve_left (by rw [hf]; decide)) h5 ((A2Q h2 _ _ _).trans (A2O (A6h (by rw [Bool.and_eq_true]; exact ⟨allQ h6.1,h6.2⟩)) (A6g h7)))⟩
noncomputable def goT(L:List (LN×LN))(s:Ps)(x:Ses)(e:Ev)(t:LN)(c:Ps->Rsd->Bool):Bool :=
  Fo.f (opB s x.r e.hk e.hp) λ C=>Fo.f (opD C e.hn) λ D=>Fo.f (A4y C e.hn) λ K=>decide (OpA s x e) && Fo.f (A3f x.r.sks e.hk e.hn) λ o=>Option.rec
    (anU L e t s x C D K && Fo.f (opZ (A0R x.r e.hk) D (opG x.r C e.hn)) λ O=>c O.1 O.2)
    (λ k=>!s.real && ((s.ts.all tmQ && Fo.f (s.ts.map tcd) ndC) && (C2E s.ts k (alW (x.wi++frW [] e) e.hk e.hp e.hn) e.g t && (A7u L s.ts && (A7u L D.ts && (((List.range D.ts.length).any λ i=>K == bts ((i:Nat):Int)) && (((List.range s.ts.length).any λ i=>k == bts ((i:Nat):Int)) && Fo.f (⟨x.r.own,x.r.their,x.r.root,x.r.sk,x.r.sn,x.r.tk,x.r.tn,x.r.prev,A56 x.r.sks e.hk e.hn⟩:Rsd) λ r=>c s r))))))) o
variable{s:Ps}{x:Ses}
theorem C2L{t:LN}{c:Ps->Rsd->Bool}(h:goT L s x e t c=true):∃ z r,OpG s x e z r 0 t∧c z r=true:=by
  unfold goT at h;simp only [Fo.e] at h;rw [Bool.and_eq_true,decide_eq_true_eq] at h;obtain ⟨hA,h⟩:=h
  cases hg:A3f x.r.sks e.hk e.hn with
  | none =>
    rw [hg] at h;dsimp only at h;rw [Bool.and_eq_true] at h;obtain ⟨h2,h3⟩:=C2K h.1;exact ⟨_,_,⟨hA,h2,h3⟩,h.2⟩
  | some k =>
    rw [hg] at h;dsimp only at h;simp only [Bool.and_eq_true,Bool.not_eq_true'] at h;obtain ⟨h1,h2,h3,h4,h5,h6,h7,h8⟩:=h;exact ⟨_,_,⟨hA,⟨A0E L h4,λ z hz=>by rw [Ca (hz.symm.trans hg)]; exact A7t h7,A0E L h5,A7t h6⟩,A8i hg ((A2Q h1 _ _ _).trans (A2O (A6h (by rw [Bool.and_eq_true,Fo.e]; exact ⟨allQ h2.1,h2.2⟩)) (A6g h3)))⟩,h8⟩
noncomputable def rfT(L:List (LN×LN))(s:Ps)(x:Ses)(e:Ev):Bool :=
  Fo.f (opD (s,x.r) e.hn) λ D=>Fo.f (A4y (s,x.r) e.hn) λ K=>decide (OpA s x e) && (decide (A3f x.r.sks e.hk e.hn=none) && (!A0R x.r e.hk && (!decide (ahE x.r.tn e.hn=0) && (A7u L s.ts && (A7u L D.ts && ((List.range D.ts.length).any λ i=>K == bts ((i:Nat):Int)))))))
theorem C4b(hA:OpA s x e)(h1:A3f x.r.sks e.hk e.hn=none)(h2:A0R x.r e.hk=false)(h3:ahE x.r.tn e.hn≠0)(h4:A3j s.ts)(h5:A3j (opD (s,x.r) e.hn).ts)(h6:Kok (opD (s,x.r) e.hn) (A4y (s,x.r) e.hn)):RfG s x e:=by have hb:opB s x.r e.hk e.hp=(s,x.r):=B0m h2;refine ⟨x.r,ahE x.r.tn e.hn,[],h3,hA,⟨h4,λ z hz=>absurd (hz.symm.trans h1) qM,by rw [hb]; exact h5,by rw [hb]; exact h6⟩,?_⟩;rw [C3N h1 hb (λ h=>by rw [h2] at h; cases h) h3];show ((ahX s x.r.tk x.r.tn e.hn x.r.their x.r.sks).1,_,_,_)=_;rw [A7p h3]
theorem B73(h:rfT L s x e=true):RfG s x e:=by unfold rfT at h;simp only [Fo.e,Bool.and_eq_true,decide_eq_true_eq,Bool.not_eq_true',decide_eq_false_iff_not] at h;obtain ⟨h1,h2,h3,h4,h5,h6,h7⟩:=h;exact C4b h1 h2 h3 h4 (A0E L h5) (A0E L h6) (A7t h7)
noncomputable def goL(L:List (LN×LN)):List (Ev×LN)->Ps->Ses->Bool
  | [],_,_=>true
  | y::l,s,x=>goT L s x y.1 y.2 λ z r=>Fo.f (A6r x r) λ x'=>rfT L z x' y.1 && goL L l z x'
theorem B74{L:List (LN×LN)}:∀ {l:List (Ev×LN)} {s:Ps} {x:Ses},goL L l s x=true->GoF l s x
  | [],_,_,_=>trivial
  | (e,t)::l,s,x,h=>by obtain ⟨z,r,h1,h2⟩:=C2L (show goT L s x e t _=true from h);simp only [Fo.e,Bool.and_eq_true] at h2;exact ⟨z,r,h1,B73 h2.1,B74 h2.2⟩
noncomputable def stO(L:List (LN×LN))(B:Ks)(s:Ps)(o:List (Ev×LN)):Bool:=match o with
  | []=>false
  | y::l=>C2H L B y.1 s y.2 λ X O=>Fo.f (A6r X O.2) λ x=>rfT L O.1 x y.1 && goL L l O.1 x
noncomputable def stQm(L:List (LN×LN))(B:Ks)(s:Ps)(k:Nat)(l:List (Ev×LN)):Bool:=(List.range k).all λ p=>Fo.f (l.drop p++l.take p) λ o=>stO L B s o
noncomputable def sdT(c:Nat->Bool)(B:Ks):Nat->Nat->Ps->Ses->List (Ev×LN)->List (LN×LN)->Bool
  | 0,_,_,_,_,_=>true
  | f+1,i,s,x,l,L=>decide (SnF s x 0 1 1 1) && Fo.f (evS s x x.he 0 1 1 1 [i % 256]) λ e=>Fo.f (wiW x x.he 0 1 1 1) λ w=>Fo.f (A6p s x.r w [i % 256]) λ s'=>Fo.f (Q7 x (K2 s x.r)) λ x'=>Fo.f (l++[(e,[i % 256])]) λ l'=>Fo.f (L++[(alW w e.hk e.hp e.hn,[i % 256])]) λ L'=>(!c (i+1) || stQm L' B s' (i+1) l') && sdT c B f (i+1) s' x' l' L'
variable{k p:Nat}
theorem C2M(f:Nat->Ev×LN)(hp:p < k):((List.range k).map f).drop p++((List.range k).map f).take p=(List.range k).map λ i=>f ((p+i) % k):=by
  refine List.ext_getElem (by simp; omega) λ i h1 h2=>?_;simp only [List.length_map,List.length_range] at h2;rw [List.getElem_append];split
  . next h => 
    simp only [List.length_drop,List.length_map,List.length_range] at h;simp only [List.getElem_drop,List.getElem_map,List.getElem_range];rw [Af qO]
  . next h => 
    simp only [List.length_drop,List.length_map,List.length_range] at h;simp only [List.getElem_take,List.getElem_map,List.getElem_range,List.length_drop,List.length_map,List.length_range];rw [show (p+i) % k=i - (k - p) by rw [show p+i=(i - (k - p))+k by omega,Nat.add_mod_right,Af qO]]
variable{j:Nat}
theorem C0n{m:Nat}(h:stQm L (rcB m).1 (frS m j k).1 k ((List.range k).map (frT m j))=true)(hp:p < k):FrF m j k p:=by
  have h1:=List.all_eq_true.1 h p (List.mem_range.2 hp);rw [Fo.e,C2M _ hp] at h1
  obtain ⟨k',rfl⟩:∃ k',k=k'+1:=⟨k - 1,by omega⟩
  have e:(List.range (k'+1)).map (λ i=>frT m j ((p+i) % (k'+1)))=frT m j p::(frL m j (k'+1) p).drop 1:=by unfold frL;rw [List.range_succ_eq_map,List.map_cons,Nat.add_zero,Af hp];rfl
  rw [e] at h1;obtain ⟨c1,h2⟩:=B3Y (show C2H L (rcB m).1 (frE m j p) (frS m j (k'+1)).1 [p % 256] _=true from h1);simp only [Fo.e,Bool.and_eq_true] at h2;exact ⟨_,_,_,_,_,B71 c1,B73 h2.1,B74 h2.2⟩
theorem B75{c:Nat->Bool}{m j:Nat}:∀ (f i:Nat) (L:List (LN×LN)),sdT c (rcB m).1 f i (frS m j i).1 (frS m j i).2 ((List.range i).map (frT m j)) L=true->(∀ n,i<=n->n < i+f->SnF (frS m j n).1 (frS m j n).2 0 1 1 1)∧∀ k,c k=true->i < k->k<=i+f->∀ p,p < k->FrF m j k p
  | 0,i,L,_=>⟨λ n h1 h2=>by omega,λ k hc h1 h2=>by omega⟩
  | f+1,i,L,h=>by
    unfold sdT at h;simp only [Fo.e] at h;rw [Bool.and_eq_true,Bool.and_eq_true,decide_eq_true_eq] at h;obtain ⟨h1,h2,h3⟩:=h;have e:(List.range i).map (frT m j)++[(evS (frS m j i).1 (frS m j i).2 (frS m j i).2.he 0 1 1 1 [i % 256],[i % 256])]=(List.range (i+1)).map (frT m j):=by rw [List.range_succ,List.map_append]; rfl
    rw [e] at h2 h3;obtain ⟨a1,a2⟩:=B75 (m:=m) (j:=j) f (i+1) _ h3;refine ⟨λ n q1 q2=>?_,λ k hc q1 q2 p hp=>?_⟩
    . by_cases hn:n=i
      . rw [hn]; exact h1
      . exact a1 n qO qO
    . by_cases hk:k=i+1
      . subst hk;rw [hc] at h2;exact C0n h2 hp
      . exact a2 k hc qO qO p hp
noncomputable def frZ(c:Nat->Bool)(j:Nat):Bool:=Fo.f (rcA 1) λ A=>Fo.f (B0v 1 1 A.2) λ B=>Fo.f (B2U B.1 B.2) λ U=>Fo.f (U.1.getD j rcO) λ y=>Fo.f (sX A.1 y U.2) λ x=>Fo.f (sD A.1 y U.2) λ d=>decide (KsF A.1∧KsF B.1∧C2F A.1 U y) && sdT c B.1 6 0 d x [] []

set_option maxHeartbeats 1000000 in
theorem C0o(pb:Nat)(s:Ps)(x:Ses)(vi vw p0 r0 u0 vo vt vr vk0 vl vst:Value)(e:Ev)(vz p r u vk vg:Value)(s2:Ps)(r2:Rsd)(tx:LN)(ec:Int)(hec:ec≠0)(MP A:Mem)(hP:Prm pb s MP)(hn_:s.ts.length+500<=1000000)(hsn:s.n < 1000000000)(hx:SeR A x vi vw p0 r0 u0 vo vt vr vk0 vl vst)(he_:EvR A e vz p r u vk vg)(hid:x.id=e.ses)(hwi:x.wi.length<=1000000)(hel:e.ses.length+e.he.ia.length+e.he.ig.length+e.he.key.length<=1000000)(hfl:(x.wi++frW [] e).length+e.hk.length<=1000000)(hgl:e.g.length<=10000000)(hO:OpnH s x.r e.hk e.hp e.hn)(hoz:U7 s x.r (x.wi++frW [] e) e.hk e.hp e.hn e.g=(s2,r2,ec,tx))(hG:Glb A):FnX Tryz.prog 13 [(vP pb),.agg (seC vi vw p0 r0 u0 vo vt vr vk0 vl vst x).toArray,.agg (evC vz p r u vk vg e).toArray] MP A λ q M J=>q=.tuple #[.agg (seC vi vw p0 r0 u0 vo vt vr vk0 vl vst x).toArray,vS,.int .i64 ec]∧Prm pb s2 M:=by
 haveI:=he_.ses.cel;haveI:=he_.he.ia.cel;haveI:=he_.he.ig.cel;haveI:=he_.he.key.cel;haveI:=he_.hk.cel;haveI:=he_.g.cel;haveI:=hx.id.cel;haveI:=hx.wi.cel;haveI:=hx.he.ia.cel;haveI:=hx.he.ig.cel;haveI:=hx.he.key.cel;haveI:=hx.r.own.cel;haveI:=hx.r.their.cel;haveI:=hx.r.root.cel;haveI:=hx.r.sk.cel;haveI:=hx.r.tk.cel;haveI:=hx.r.st.cel;unfold seC evC;refine Cl (N:=45) Tryz.func13 E E E λ w_=>?_;refine A9 (D6 0 1 2) (A1 ?_);refine A3 E (bx_ λ b4=>?_);refine A3 E (bx_ λ b5=>?_);refine A3 E (C3 (cs:=[vS,vS,vS,vS,vS,D3,.bool false,D3,.bool false,vS,vS,vS,vS,D3,vS,D3,D3,.pointer none]) kR E λ b6=>?_);refine as_ (as_ (A0 (D8 0 4 5 6) (A4 (A1 ?_))));refine A2 (qf_ 0 0) E ?_;refine A2 ql_ E ?_;refine A2 (qf_ 4 4) E ?_;refine A2 ql_ E ?_;refine E6 (aS E (aS E a0)) kR (A0u vi vz x.id e.ses _ (hx.id.mono qS) (he_.ses.mono qS)) E ?_;rw [decide_eq_true hid];refine A2 (U0 E) E ?_;refine A0 (E8 0 4 5 6 17) ?_;refine C9 E ?_;refine A6 (nx (D8 0 4 5 6) ?_);refine F8 (MP) (_) true [0,1,2,3,4,5,6,7,8,9,10,11,12,13,14,15,17,18] [(0,0),(1,0),(2,1),(3,1),(4,1),(6,0),(7,1),(8,0),(9,1),(5,8),(10,8),(11,8),(12,8),(15,8),(13,9),(14,10),(16,2),(17,0),(18,0)] kR kR qP λ hs K n0 hKm hKs hKn=>?_;refine km_ hs ?_;refine G7 hs E (qf_ 9 9) E ?_;refine K0 hs E hKs (F4 (n:=9) (vs:=[vo,vt,vr,vk0,(vU x.r.sn),vl,(vU x.r.tn),(vU x.r.prev),vst]) E kR Cc E (D4 [vi,vw,p0,r0,u0,(vU x.he.signed),.bool x.he.has,(vU x.he.once),.bool x.tell] [vo,vt,vr,vk0,(vU x.r.sn),vl,(vU x.r.tn),(vU x.r.prev),vst] [])) ?_;refine K0 hs E hKs (F4 (n:=18) (vs:=[vi,vw,p0,r0,u0,(vU x.he.signed),.bool x.he.has,(vU x.he.once),.bool x.tell,vo,vt,vr,vk0,(vU x.r.sn),vl,(vU x.r.tn),(vU x.r.prev),vst]) E kR Cc E (D4 [] [vi,vw,p0,r0,u0,(vU x.he.signed),.bool x.he.has,(vU x.he.once),.bool x.tell,vo,vt,vr,vk0,(vU x.r.sn),vl,(vU x.r.tn),(vU x.r.prev),vst] [])) ?_;refine K0 hs E hKs (F4 (n:=16) (vs:=[.int .i64 e.fu,.int .i64 e.fd,.int .i64 e.tu,.int .i64 e.td,vz,.bool e.has,p,r,u,(vU e.he.signed),.bool e.he.has,(vU e.he.once),vk,(vU e.hp),(vU e.hn),vg]) E kR Cc E (D4 [] [.int .i64 e.fu,.int .i64 e.fd,.int .i64 e.tu,.int .i64 e.td,vz,.bool e.has,p,r,u,(vU e.he.signed),.bool e.he.has,(vU e.he.once),vk,(vU e.hp),(vU e.hn),vg] [])) ?_;refine G7 hs E (qf_ 12 12) E ?_;refine K0 hs E hKs (F4 (n:=3) (vs:=[vk,(vU e.hp),(vU e.hn)]) E kR Cc E (D4 [.int .i64 e.fu,.int .i64 e.fd,.int .i64 e.tu,.int .i64 e.td,vz,.bool e.has,p,r,u,(vU e.he.signed),.bool e.he.has,(vU e.he.once)] [vk,(vU e.hp),(vU e.hn)] [vg])) ?_;refine G7 hs E (qf_ 15 15) E ?_;refine K0 hs E hKs ql_ ?_
 refine W2 [⟨5,25,none,[],λ v B R=>B=[]∧By R v (x.wi++frW [] e)⟩,⟨10,30,none,MP,λ v B R=>∃ q1 q2,v=.tuple #[q1,q2,.int .i64 ec]∧Prm pb s2 B∧RsV R q1 r2∧By R q2 tx⟩,⟨11,19,none,[],λ v B R=>B=[]∧∃ q1 q2,v=.tuple #[q1,q2,.int .i64 ec]∧RsV R q1 r2∧By R q2 tx⟩,⟨12,31,none,[],λ v B R=>B=[]∧RsV R v r2⟩,⟨15,9,none,[],λ v B _=>∃ b,v=(vP b)∧B=[(b,blk [vS,vS,vS,vS,.int .u32 0,vS,.int .u32 0,.int .u32 0,.pointer none] 48)]⟩] [⟨13,32,none,[],λ v B R=>B=[]∧By R v tx⟩,⟨14,33,none,[],λ v B R=>B=[]∧v=.int .i64 ec⟩] ([(b6,blk [vS,vS,vS,vS,vS,.int .u32 0,.bool false,.int .u32 0,.bool false,vS,vS,vS,vS,.int .u32 0,vS,.int .u32 0,.int .u32 0,.pointer none] 50),(b5,blk [.int .i64 e.fu,.int .i64 e.fd,.int .i64 e.tu,.int .i64 e.td,vz,.bool e.has,p,r,u,(vU e.he.signed),.bool e.he.has,(vU e.he.once),vk,(vU e.hp),(vU e.hn),vg] 37),(b4,blk [vi,vw,p0,r0,u0,(vU x.he.signed),.bool x.he.has,(vU x.he.once),.bool x.tell,vo,vt,vr,vk0,(vU x.r.sn),vl,(vU x.r.tn),(vU x.r.prev),vst] 50)]) (λ bs=>[bs 5,bs 10,bs 11,bs 12,bs 15,bs 13,bs 14]) (hKn E) (by simp [U2,A0y]) (show ∀ m∈([[],MP,[],[],[],[],[]]:List Mem),∀ x∈m,K x.1 from A5 gn0 (A5 (hKm) (A5 gn0 (A5 gn0 (A5 gn0 (A5 gn0 (A5 gn0 (I7)))))))) kR (λ _=>by first | rfl | kernel_rfl)
  (A5 (λ _ _ _ _ h hp=>⟨hp.1,hp.2.mono h⟩) (A5 (λ _ _ _ _ h ⟨q1,q2,e_,p1,p2,p3⟩=>⟨q1,q2,e_,p1,p2.mono h,p3.mono h⟩) (A5 (λ _ _ _ _ h ⟨e0,q1,q2,e_,p2,p3⟩=>⟨e0,q1,q2,e_,p2.mono h,p3.mono h⟩) (A5 (λ _ _ _ _ h hp=>⟨hp.1,hp.2.mono h⟩) (A5 gM (A5 (λ _ _ _ _ h hp=>⟨hp.1,hp.2.mono h⟩) (A5 gM (I7)))))))) nd_ nd_ dl_
  hs (List.cons_ne_nil _ _) (gC ?_ (gC ?_ (gC ?_ (gC ?_ (gC ?_ (I7)))))) (A5 ⟨E,E,_,_,_,_,E,λ vs bs Rj hj ha=>?_⟩ (A5 ⟨E,E,_,_,_,_,E,λ vs bs Rj hj ha=>?_⟩ (I7))) ?_
 . intro _ _ _ Rj _ _ hj hjr _;dsimp only [Gc.inp];refine E2 (aS E (aS E a0)) kR (Cj (A:=Rj) (λ x hx=>by have:=hjr x hx; simp [this]) (A3D x vi vw p0 r0 u0 vo vt vr vk0 vl vst e vz p r u vk vg Rj (hx.mono (λ x hx=>hj x (qS x hx))) (he_.mono (λ x hx=>hj x (qS x hx))) hwi hel)) E ?_;rintro r M1 J1 ⟨rfl,hh⟩;exact ⟨_,E,E,hh.mono λ x hx=>by simp [hx]⟩
 . intro _ _ R Rj _ _ hj hjr ha;dsimp only [Gc.inp];have g5:=gx 0 ha;dsimp only at g5;obtain ⟨-,h5⟩:=g5;haveI:=h5.cel;refine D0 (Mc:=MP) (R:=[]) (aS E (aS E (aS E (aS E (aS E (a0)))))) kR qM (Cj (A:=Rj) (λ x hx=>by have:=hjr x hx; simp [this]) (B3T pb s x.r vo vt vr vk0 vl vst _ vk vg (x.wi++frW [] e) e.hk e.g e.hp e.hn MP Rj hP hn_ hsn (hx.r.mono (λ x hx=>hj x (qS x hx))) h5 (he_.hk.mono (λ x hx=>hj x (qS x hx))) hfl he_.hp he_.hn (he_.g.mono (λ x hx=>hj x (qS x hx))) hgl hO.sel hO.k1 hO.s2 hO.k2 (hG.sub (λ x hx=>hj x (qS x hx))))) E ?_;rintro v27 M27 J27 ⟨q1,q2,rfl,hP27,p2,p3⟩;rw [hoz] at hP27 p2 p3 ⊢;exact ⟨_,E,q1,q2,E,by simpa using hP27,p2.mono (λ x hx=>by simpa using hx),p3.mono (λ x hx=>by simpa using hx)⟩
 . intro _ _ _ _ _ _ _ _ ha;dsimp only [Gc.inp];have g10:=gx 1 ha;dsimp only at g10;obtain ⟨q1,q2,e_,-,k⟩:=g10;exact Cn qm_ E ⟨_,E,E,q1,q2,e_,k⟩
 . intro vs bs _ _ _ _ _ _ ha;dsimp only [Gc.inp];have g11:=gx 2 ha;dsimp only at g11;obtain ⟨-,q1,q2,e_,k,-⟩:=g11;exact Cn (H0 (vs:=#[q1,q2,.int .i64 ec]) (by rw [<- e_]; rfl) E) E ⟨_,E,E,k⟩
 .
  intros
  dsimp only [Gc.inp]
  exact C3 (cs:=[vS,vS,vS,vS,D3,vS,D3,D3,.pointer none]) kR E λ b=>⟨_,E,b,E,E⟩
 . have g11:=gx 2 ha;dsimp only at g11;obtain ⟨-,q1,q2,e_,-,k⟩:=g11;exact ⟨_,H0 (vs:=#[q1,q2,.int .i64 ec]) (by rw [<- e_]; rfl) E,E,k⟩
 . have g11:=gx 2 ha;dsimp only at g11;obtain ⟨-,q1,q2,e_,-⟩:=g11;exact ⟨_,H0 (vs:=#[q1,q2,.int .i64 ec]) (by rw [<- e_]; rfl) E,E,E⟩
 intro vs bs Jn0 hφ hKK;clear hKK;have g5:=gy 0 hφ;have g10:=gy 1 hφ;have g11:=gy 2 hφ;have g12:=gy 3 hφ;have g15:=gy 4 hφ;have g13:=gy 5 hφ;have g14:=gy 6 hφ;dsimp only at g5 g10 g11 g12 g15 g13 g14;clear hφ;dsimp only [Q0,U2,List.foldr,List.map,List.cons_append,List.nil_append];generalize bs 5=B25,bs 10=B30,bs 11=B19,bs 12=B31,bs 15=B9,bs 13=B32,bs 14=B33,vs 5=u25,vs 10=u30,vs 11=u19,vs 12=u31,vs 15=u9,vs 13=u32,vs 14=u33 at *;obtain ⟨-,-,-,hP27,-⟩:=g10;clear g11;obtain ⟨rfl,h25⟩:=g5;obtain ⟨rfl,wo,wt,wr,wk,wl,wq,rfl,hn1⟩:=g12;obtain ⟨rfl,h29⟩:=g13;obtain ⟨rfl,rfl⟩:=g14;obtain ⟨b9,rfl,rfl⟩:=g15;haveI:=hn1.own.cel;haveI:=hn1.their.cel;haveI:=hn1.root.cel;haveI:=hn1.sk.cel;haveI:=hn1.tk.cel;haveI:=hn1.st.cel;haveI:=h29.cel;unfold rsC;refine K5 E E E (A7 (vs:=[wo,wt,wr,wk,(vU r2.sn),wl,(vU r2.tn),(vU r2.prev),wq]) E E E kR qR (A5 hn1.own.one (A5 hn1.their.one (A5 hn1.root.one (A5 hn1.sk.one (A5 E (A5 hn1.tk.one (A5 E (A5 E (A5 hn1.st.one I7))))))))) Cs ?_);refine G7 hs E (G4 E) E ?_;refine G7 hs E (G4 E) E ?_;refine I3 (E8 4 6 9 10 11) (A4 (A1 (mv_ ?_)));refine A2 (F5 true E E (neT hec)) E ?_;refine A0 (H1 4 6 9 10 11 35) ?_;refine E1 E ?_;refine A1 ?_;refine A2 (F4 (n:=18) (vs:=[vi,vw,p0,r0,u0,(vU x.he.signed),.bool x.he.has,(vU x.he.once),.bool x.tell,vo,vt,vr,vk0,(vU x.r.sn),vl,(vU x.r.tn),(vU x.r.prev),vst]) E kR Cc E (D4 [] [vi,vw,p0,r0,u0,(vU x.he.signed),.bool x.he.has,(vU x.he.once),.bool x.tell,vo,vt,vr,vk0,(vU x.r.sn),vl,(vU x.r.tn),(vU x.r.prev),vst] [])) E ?_;refine mv_ ?_;refine A3 E (A7 (vs:=[vi,vw,p0,r0,u0,(vU x.he.signed),.bool x.he.has,(vU x.he.once),.bool x.tell,vo,vt,vr,vk0,(vU x.r.sn),vl,(vU x.r.tn),(vU x.r.prev),vst]) E E E kR qR (A5 hx.id.one (A5 hx.wi.one (A5 hx.he.ia.one (A5 hx.he.ig.one (A5 hx.he.key.one (A5 E (A5 E (A5 E (A5 E (A5 hx.r.own.one (A5 hx.r.their.one (A5 hx.r.root.one (A5 hx.r.sk.one (A5 E (A5 hx.r.tk.one (A5 E (A5 E (A5 hx.r.st.one I7)))))))))))))))))) Cs ?_);refine as_ (as_ (A0 (D6 6 7 8) (C0 (tr ?_))));exact ⟨_,B30,[],A2R (n:=18) E E E E kR Cc qR,Cg (Cf qP),E,hP27⟩

set_option maxHeartbeats 1000000 in
theorem B4e(tb pb ka kb:Nat)(s:Ps)(x0 x1:Ses)(e:Ev)(vz ep er eu ek eg:Value)(sz:Ps)(rz:Rsd)(tx:LN)(M0 A:Mem)(hT:T2 A tb pb ka kb s x0 x1 M0)(he_:EvR A e vz ep er eu ek eg)(hid2:x1.id=e.ses)(hil:0 < x1.id.length)(hn_:s.ts.length+500<=1000000)(hsn:s.n < 1000000000)(hwi:x1.wi.length<=1000000)(hel2:e.ses.length+e.he.ia.length+e.he.ig.length+e.he.key.length<=1000000)(hfl:(x1.wi++frW [] e).length+e.hk.length<=1000000)(hgl:e.g.length<=10000000)(hO:OpnH s x1.r e.hk e.hp e.hn)(hoz:U7 s x1.r (x1.wi++frW [] e) e.hk e.hp e.hn e.g=(sz,rz,0,tx))(hG:Glb A):FnX Tryz.prog 8 [(vP tb),.agg (evC vz ep er eu ek eg e).toArray,.int .i64 1] M0 A λ q M J=>T2 (J++A) tb pb ka kb sz x0 (A6r x1 rz) M∧q=.tuple #[.string (txt tx),.int .i64 0]:=by
 obtain ⟨vi,vw,p0,r0,u0,vo,vt,vr,vk0,vl,vst,wi,ww,p1,r1,u1,wo,wt,wr,wk0,wl,wst,MP,rfl,hx,hy,hP⟩:=hT;haveI:=hx.id.cel;haveI:=hx.wi.cel;haveI:=hx.he.ia.cel;haveI:=hx.he.ig.cel;haveI:=hx.he.key.cel;haveI:=hx.r.own.cel;haveI:=hx.r.their.cel;haveI:=hx.r.root.cel;haveI:=hx.r.sk.cel;haveI:=hx.r.tk.cel;haveI:=hx.r.st.cel;haveI:=hy.id.cel;haveI:=hy.wi.cel;haveI:=hy.he.ia.cel;haveI:=hy.he.ig.cel;haveI:=hy.he.key.cel;haveI:=hy.r.own.cel;haveI:=hy.r.their.cel;haveI:=hy.r.root.cel;haveI:=hy.r.sk.cel;haveI:=hy.r.tk.cel;haveI:=hy.r.st.cel;haveI:=he_.ses.cel;haveI:=he_.he.ia.cel;haveI:=he_.he.ig.cel;haveI:=he_.he.key.cel;haveI:=he_.hk.cel;haveI:=he_.g.cel;unfold evC;refine Cl (N:=67) Tryz.func8 E E E λ w_=>?_;refine A9 (D6 0 1 2) (A1 ?_);refine A3 E (bx_ λ b4=>?_);refine as_ (as_ (A0 (D6 0 2 4) (A1 (mv_ (mv_ ?_)))));refine A2 (E7 E) E ?_;refine A2 (qf_ 7 7) E ?_;refine A2 (E0 (e:=50) (n:=2) (sz:=18) (i:=1) 25 E E kR kR E qD E) E ?_;refine A2 (F4 (n:=18) (vs:=[wi,ww,p1,r1,u1,(vU x1.he.signed),.bool x1.he.has,(vU x1.he.once),.bool x1.tell,wo,wt,wr,wk0,(vU x1.r.sn),wl,(vU x1.r.tn),(vU x1.r.prev),wst]) E kR Cc E (D4 [(vP pb),(vP ka),(vP kb),.int .i64 0,.int .i64 1,.int .i64 1,.int .i64 1,vi,vw,p0,r0,u0,(vU x0.he.signed),.bool x0.he.has,(vU x0.he.once),.bool x0.tell,vo,vt,vr,vk0,(vU x0.r.sn),vl,(vU x0.r.tn),(vU x0.r.prev),vst] [wi,ww,p1,r1,u1,(vU x1.he.signed),.bool x1.he.has,(vU x1.he.once),.bool x1.tell,wo,wt,wr,wk0,(vU x1.r.sn),wl,(vU x1.r.tn),(vU x1.r.prev),wst] [.bool true])) E ?_;refine A3 E (C3 (cs:=[vS,vS,vS,vS,vS,D3,.bool false,D3,.bool false,vS,vS,vS,vS,D3,vS,D3,D3,.pointer none]) kR E λ b8=>?_);refine A3 E (A7 (vs:=[wi,ww,p1,r1,u1,(vU x1.he.signed),.bool x1.he.has,(vU x1.he.once),.bool x1.tell,wo,wt,wr,wk0,(vU x1.r.sn),wl,(vU x1.r.tn),(vU x1.r.prev),wst]) E E E kR qR (A5 hy.id.one (A5 hy.wi.one (A5 hy.he.ia.one (A5 hy.he.ig.one (A5 hy.he.key.one (A5 E (A5 E (A5 E (A5 E (A5 hy.r.own.one (A5 hy.r.their.one (A5 hy.r.root.one (A5 hy.r.sk.one (A5 E (A5 hy.r.tk.one (A5 E (A5 E (A5 hy.r.st.one I7)))))))))))))))))) Cs ?_);refine A0 (D8 0 2 4 8) (A4 (A1 (mv_ ?_)));refine A2 (F5 true E E (eqT E)) E ?_;refine mv_ ?_;refine F3 E E (Cn (qf_ 0 0) E ?_);refine F3 E E (Cn ql_ E ?_);refine F3 E E (Cn (G6 (sz:=1) E kR hy.id.rd) E ?_);refine F3 E E (Cn (F5 false E E (eqF qO)) E ?_);refine A2 (G8 E E) E ?_;refine A0 (E8 0 2 4 8 26) ?_;refine C9 E ?_;refine A6 (nx (D8 0 2 4 8) ?_);refine D1 [0,1,2,3,4,5,7,8,9,10,12,13] (zp 0 [0,0,0,1,1,1,2,0,0,0,0,2,0,0]) kR kR λ hs=>?_;refine fm_ hs ?_;refine C8 hs E (E7 E) E ?_;refine C8 hs E (qf_ 0 0) E ?_;refine F9 hs E ql_ E ?_;refine F9 hs E (qw_ 18) E ?_;refine F9 hs E (qw_ 16) E ?_;refine G1 E E E (D0 (Mc:=MP) (R:=_) (aS E (aS E (aS E (a0)))) kR qP (Cj qS (A8j pb s x1 wi ww p1 r1 u1 wo wt wr wk0 wl wst e vz ep er eu ek eg sz rz tx MP A hP hn_ hsn (hy.mono qS) (he_.mono qS) hid2 hwi hel2 hfl hgl hO hoz (hG.sub qS))) E ?_);rintro v52 M52 J52 ⟨yo,yt,yr,yk,yl,yq,q2,rfl,hP52,hz,ht⟩;haveI:=hz.r.own.cel;haveI:=hz.r.their.cel;haveI:=hz.r.root.cel;haveI:=hz.r.sk.cel;haveI:=hz.r.tk.cel;haveI:=hz.r.st.cel;haveI:=ht.cel;unfold A6r seC;refine fm_ hs ?_;refine C8 hs E (Y8 E) E ?_;refine C8 hs E (Y4 E) E ?_;refine C8 hs E (B7d E) E ?_
 refine G1 E E E (A7 (vs:=[wi,ww,vS,vS,vS,.int .u32 0,.bool false,.int .u32 0,.bool false,yo,yt,yr,yk,(vU rz.sn),yl,(vU rz.tn),(vU rz.prev),yq]) E E E kR qR (A5 hy.id.one (A5 hy.wi.one (A5 E (A5 E (A5 E (A5 E (A5 E (A5 E (A5 E (A5 hz.r.own.one (A5 hz.r.their.one (A5 hz.r.root.one (A5 hz.r.sk.one (A5 E (A5 hz.r.tk.one (A5 E (A5 E (A5 hz.r.st.one I7)))))))))))))))))) Cs ?_);refine fa_ hs ?_;refine fa_ hs ?_;refine E3 (E8 0 2 8 11 12) (A4 (A1 (mv_ ?_)));refine A2 (F5 true E E (eqT E)) E ?_;refine A0 (H1 0 2 8 11 12 57) ?_;refine E1 E ?_;refine H7 [0,1,2,3,4,5] (zp 0 [0,0,1,0,0,0,2]) kR kR λ hs=>?_;refine fm_ hs ?_;refine fm_ hs ?_;refine F9 hs E (qw_ 18) E ?_;refine C8 hs E (E7 E) E ?_;refine C8 hs E (qf_ 7 7) E ?_;refine C8 hs E (E0 (e:=50) (n:=2) (sz:=18) (i:=1) 25 E E kR kR E qD E) E ?_;refine G1 E E E (K9 (vs:=[wi,ww,vS,vS,vS,.int .u32 0,.bool false,.int .u32 0,.bool false,yo,yt,yr,yk,(vU rz.sn),yl,(vU rz.tn),(vU rz.prev),yq]) (cs':=[(vP pb),(vP ka),(vP kb),.int .i64 0,.int .i64 1,.int .i64 1,.int .i64 1,vi,vw,p0,r0,u0,(vU x0.he.signed),.bool x0.he.has,(vU x0.he.once),.bool x0.tell,vo,vt,vr,vk0,(vU x0.r.sn),vl,(vU x0.r.tn),(vU x0.r.prev),vst,wi,ww,vS,vS,vS,.int .u32 0,.bool false,.int .u32 0,.bool false,yo,yt,yr,yk,(vU rz.sn),yl,(vU rz.tn),(vU rz.prev),yq,.bool true]) E E E kR (by exact (show 25+18<=44 by decide)) (A5 hy.id.one (A5 hy.wi.one (A5 E (A5 E (A5 E (A5 E (A5 E (A5 E (A5 E (A5 hz.r.own.one (A5 hz.r.their.one (A5 hz.r.root.one (A5 hz.r.sk.one (A5 E (A5 hz.r.tk.one (A5 E (A5 E (A5 hz.r.st.one I7)))))))))))))))))) E Cs ?_);refine E3 (D2 11 12) (A1 (mv_ ?_));refine A2 (N5 E kR (ht.rd.mono qS)) E ?_;refine mv_ (as_ (as_ (A0 (D2 6 7) (C0 ?_))));exact ⟨_,(tb,blk [(vP pb),(vP ka),(vP kb),.int .i64 0,.int .i64 1,.int .i64 1,.int .i64 1,vi,vw,p0,r0,u0,(vU x0.he.signed),.bool x0.he.has,(vU x0.he.once),.bool x0.tell,vo,vt,vr,vk0,(vU x0.r.sn),vl,(vU x0.r.tn),(vU x0.r.prev),vst,wi,ww,vS,vS,vS,.int .u32 0,.bool false,.int .u32 0,.bool false,yo,yt,yr,yk,(vU rz.sn),yl,(vU rz.tn),(vU rz.prev),yq,.bool true] 59)::M52,[],A1s E E E,Cg (Ch (B:=[_]) qP (Cf qP)),⟨vi,vw,p0,r0,u0,vo,vt,vr,vk0,vl,vst,wi,ww,vS,vS,vS,yo,yt,yr,yk,yl,yq,M52,E,hx.mono qS,hz.mono qS,hP52⟩,E⟩
set_option maxHeartbeats 1000000 in
theorem B4f(tb pb ka kb:Nat)(s:Ps)(x0 x1:Ses)(e:Ev)(vz ep er eu ek eg:Value)(sz:Ps)(rz:Rsd)(ec:Int)(hec:ec≠0)(tx:LN)(M0 A:Mem)(hT:T2 A tb pb ka kb s x0 x1 M0)(he_:EvR A e vz ep er eu ek eg)(hid2:x1.id=e.ses)(hil:0 < x1.id.length)(hn_:s.ts.length+500<=1000000)(hsn:s.n < 1000000000)(hwi:x1.wi.length<=1000000)(hel2:e.ses.length+e.he.ia.length+e.he.ig.length+e.he.key.length<=1000000)(hfl:(x1.wi++frW [] e).length+e.hk.length<=1000000)(hgl:e.g.length<=10000000)(hO:OpnH s x1.r e.hk e.hp e.hn)(hoz:U7 s x1.r (x1.wi++frW [] e) e.hk e.hp e.hn e.g=(sz,rz,ec,tx))(hG:Glb A):FnX Tryz.prog 8 [(vP tb),.agg (evC vz ep er eu ek eg e).toArray,.int .i64 1] M0 A λ q M J=>T2 (J++A) tb pb ka kb sz x0 x1 M∧q=.tuple #[.string (txt []),.int .i64 ec]:=by
 obtain ⟨vi,vw,p0,r0,u0,vo,vt,vr,vk0,vl,vst,wi,ww,p1,r1,u1,wo,wt,wr,wk0,wl,wst,MP,rfl,hx,hy,hP⟩:=hT;haveI:=hx.id.cel;haveI:=hx.wi.cel;haveI:=hx.he.ia.cel;haveI:=hx.he.ig.cel;haveI:=hx.he.key.cel;haveI:=hx.r.own.cel;haveI:=hx.r.their.cel;haveI:=hx.r.root.cel;haveI:=hx.r.sk.cel;haveI:=hx.r.tk.cel;haveI:=hx.r.st.cel;haveI:=hy.id.cel;haveI:=hy.wi.cel;haveI:=hy.he.ia.cel;haveI:=hy.he.ig.cel;haveI:=hy.he.key.cel;haveI:=hy.r.own.cel;haveI:=hy.r.their.cel;haveI:=hy.r.root.cel;haveI:=hy.r.sk.cel;haveI:=hy.r.tk.cel;haveI:=hy.r.st.cel;haveI:=he_.ses.cel;haveI:=he_.he.ia.cel;haveI:=he_.he.ig.cel;haveI:=he_.he.key.cel;haveI:=he_.hk.cel;haveI:=he_.g.cel;unfold evC;refine Cl (N:=67) Tryz.func8 E E E λ w_=>?_;refine A9 (D6 0 1 2) (A1 ?_);refine A3 E (bx_ λ b4=>?_);refine as_ (as_ (A0 (D6 0 2 4) (A1 (mv_ (mv_ ?_)))));refine A2 (E7 E) E ?_;refine A2 (qf_ 7 7) E ?_;refine A2 (E0 (e:=50) (n:=2) (sz:=18) (i:=1) 25 E E kR kR E qD E) E ?_;refine A2 (F4 (n:=18) (vs:=[wi,ww,p1,r1,u1,(vU x1.he.signed),.bool x1.he.has,(vU x1.he.once),.bool x1.tell,wo,wt,wr,wk0,(vU x1.r.sn),wl,(vU x1.r.tn),(vU x1.r.prev),wst]) E kR Cc E (D4 [(vP pb),(vP ka),(vP kb),.int .i64 0,.int .i64 1,.int .i64 1,.int .i64 1,vi,vw,p0,r0,u0,(vU x0.he.signed),.bool x0.he.has,(vU x0.he.once),.bool x0.tell,vo,vt,vr,vk0,(vU x0.r.sn),vl,(vU x0.r.tn),(vU x0.r.prev),vst] [wi,ww,p1,r1,u1,(vU x1.he.signed),.bool x1.he.has,(vU x1.he.once),.bool x1.tell,wo,wt,wr,wk0,(vU x1.r.sn),wl,(vU x1.r.tn),(vU x1.r.prev),wst] [.bool true])) E ?_;refine A3 E (C3 (cs:=[vS,vS,vS,vS,vS,D3,.bool false,D3,.bool false,vS,vS,vS,vS,D3,vS,D3,D3,.pointer none]) kR E λ b8=>?_);refine A3 E (A7 (vs:=[wi,ww,p1,r1,u1,(vU x1.he.signed),.bool x1.he.has,(vU x1.he.once),.bool x1.tell,wo,wt,wr,wk0,(vU x1.r.sn),wl,(vU x1.r.tn),(vU x1.r.prev),wst]) E E E kR qR (A5 hy.id.one (A5 hy.wi.one (A5 hy.he.ia.one (A5 hy.he.ig.one (A5 hy.he.key.one (A5 E (A5 E (A5 E (A5 E (A5 hy.r.own.one (A5 hy.r.their.one (A5 hy.r.root.one (A5 hy.r.sk.one (A5 E (A5 hy.r.tk.one (A5 E (A5 E (A5 hy.r.st.one I7)))))))))))))))))) Cs ?_);refine A0 (D8 0 2 4 8) (A4 (A1 (mv_ ?_)));refine A2 (F5 true E E (eqT E)) E ?_;refine mv_ ?_;refine F3 E E (Cn (qf_ 0 0) E ?_);refine F3 E E (Cn ql_ E ?_);refine F3 E E (Cn (G6 (sz:=1) E kR hy.id.rd) E ?_);refine F3 E E (Cn (F5 false E E (eqF qO)) E ?_);refine A2 (G8 E E) E ?_;refine A0 (E8 0 2 4 8 26) ?_;refine C9 E ?_;refine A6 (nx (D8 0 2 4 8) ?_);refine D1 [0,1,2,3,4,5,7,8,9,10,12,13] (zp 0 [0,0,0,1,1,1,2,0,0,0,0,2,0,0]) kR kR λ hs=>?_;refine fm_ hs ?_;refine C8 hs E (E7 E) E ?_;refine C8 hs E (qf_ 0 0) E ?_;refine F9 hs E ql_ E ?_;refine F9 hs E (qw_ 18) E ?_;refine F9 hs E (qw_ 16) E ?_;refine G1 E E E (D0 (Mc:=MP) (R:=_) (aS E (aS E (aS E (a0)))) kR qP (Cj qS (C0o pb s x1 wi ww p1 r1 u1 wo wt wr wk0 wl wst e vz ep er eu ek eg sz rz tx ec hec MP A hP hn_ hsn (hy.mono qS) (he_.mono qS) hid2 hwi hel2 hfl hgl hO hoz (hG.sub qS))) E ?_);rintro v52 M52 J52 ⟨rfl,hP52⟩;unfold seC;refine fm_ hs ?_;refine C8 hs E (Y8 E) E ?_;refine C8 hs E (Y4 E) E ?_;refine C8 hs E (B7d E) E ?_;refine G1 E E E (A7 (vs:=[wi,ww,p1,r1,u1,(vU x1.he.signed),.bool x1.he.has,(vU x1.he.once),.bool x1.tell,wo,wt,wr,wk0,(vU x1.r.sn),wl,(vU x1.r.tn),(vU x1.r.prev),wst]) E E E kR qR (A5 hy.id.one (A5 hy.wi.one (A5 hy.he.ia.one (A5 hy.he.ig.one (A5 hy.he.key.one (A5 E (A5 E (A5 E (A5 E (A5 hy.r.own.one (A5 hy.r.their.one (A5 hy.r.root.one (A5 hy.r.sk.one (A5 E (A5 hy.r.tk.one (A5 E (A5 E (A5 hy.r.st.one I7)))))))))))))))))) Cs ?_);refine fa_ hs ?_;refine fa_ hs ?_
 refine E3 (E8 0 2 8 11 12) (A4 (A1 (mv_ ?_)));refine A2 (F5 false E E (eqF hec)) E ?_;refine A0 (H1 0 2 8 11 12 57) ?_;refine C9 E ?_;refine A6 (nx (D2 11 12) (A1 (mv_ ?_)));refine A2 (N5 (ws:=[]) E kR By.nil.rd) E ?_;refine mv_ (as_ (as_ (A0 (D2 6 7) (C0 ?_))));exact ⟨_,(tb,blk [(vP pb),(vP ka),(vP kb),.int .i64 0,.int .i64 1,.int .i64 1,.int .i64 1,vi,vw,p0,r0,u0,(vU x0.he.signed),.bool x0.he.has,(vU x0.he.once),.bool x0.tell,vo,vt,vr,vk0,(vU x0.r.sn),vl,(vU x0.r.tn),(vU x0.r.prev),vst,wi,ww,p1,r1,u1,(vU x1.he.signed),.bool x1.he.has,(vU x1.he.once),.bool x1.tell,wo,wt,wr,wk0,(vU x1.r.sn),wl,(vU x1.r.tn),(vU x1.r.prev),wst,.bool true] 59)::M52,[],A1s E E E,Cg (Ch (B:=[_]) qP (Cf qP)),⟨vi,vw,p0,r0,u0,vo,vt,vr,vk0,vl,vst,wi,ww,p1,r1,u1,wo,wt,wr,wk0,wl,wst,M52,E,hx.mono qS,hy.mono qS,hP52⟩,E⟩

theorem C4c:frZ (λ k=>Nat.ble k 4) 0=true:=by decide +kernel
theorem C4d:frZ (λ k=>Nat.beq k 5) 0=true:=by decide +kernel
theorem C4e:frZ (λ k=>Nat.beq k 6) 0=true:=by decide +kernel
theorem C4f:frZ (λ k=>Nat.ble k 4) 1=true:=by decide +kernel
theorem C4g:frZ (λ k=>Nat.beq k 5) 1=true:=by decide +kernel
theorem C4h:frZ (λ k=>Nat.beq k 6) 1=true:=by decide +kernel

theorem C4i:frZ (λ k=>Nat.ble k 4) 2=true:=by decide +kernel
theorem C4j:frZ (λ k=>Nat.beq k 5) 2=true:=by decide +kernel
theorem C4k:frZ (λ k=>Nat.beq k 6) 2=true:=by decide +kernel
theorem C4l:frZ (λ k=>Nat.ble k 4) 3=true:=by decide +kernel
theorem C4m:frZ (λ k=>Nat.beq k 5) 3=true:=by decide +kernel
theorem C4n:frZ (λ k=>Nat.beq k 6) 3=true:=by decide +kernel

theorem C4o:frZ (λ k=>Nat.ble k 4) 4=true:=by decide +kernel
theorem C4p:frZ (λ k=>Nat.beq k 5) 4=true:=by decide +kernel
theorem C4q:frZ (λ k=>Nat.beq k 6) 4=true:=by decide +kernel

theorem C0p{c:Nat->Bool}(h:frZ c j=true):OpF 1 j∧FrS 1 j∧∀ k,c k=true->0 < k->k<=6->∀ p,p < k->FrF 1 j k p:=by unfold frZ at h;simp only [Fo.e] at h;rw [Bool.and_eq_true,decide_eq_true_eq] at h;obtain ⟨a1,a2⟩:=B75 (m:=1) (j:=j) 6 0 [] h.2;exact ⟨h.1,λ i hi=>a1 i (Am _) qO,λ k hc h1 h2 p hp=>a2 k hc h1 qO p hp⟩
theorem fr_t(hj:j < 5):OpF 1 j∧FrS 1 j∧∀ k,0 < k->k<=6->∀ p,p < k->FrF 1 j k p:=by
  have h:frZ (λ k=>Nat.ble k 4) j=true∧frZ (λ k=>Nat.beq k 5) j=true∧frZ (λ k=>Nat.beq k 6) j=true:=by
    match j,hj with
    | 0,_=>exact ⟨C4c,C4d,C4e⟩
    | 1,_=>exact ⟨C4f,C4g,C4h⟩
    | 2,_=>exact ⟨C4i,C4j,C4k⟩
    | 3,_=>exact ⟨C4l,C4m,C4n⟩
    | 4,_=>exact ⟨C4o,C4p,C4q⟩
  obtain ⟨h1,h2,h3⟩:=h;obtain ⟨a,b,c1⟩:=C0p h1;refine ⟨a,b,λ k k0 k6 p hp=>?_⟩;by_cases q4:k<=4
  . exact c1 k (Nat.ble_eq_true_of_le q4) k0 k6 p hp
  by_cases q5:k=5
  . subst q5; exact (C0p h2).2.2 5 E k0 k6 p hp
  . obtain rfl:k=6:=by omega
    exact (C0p h3).2.2 6 E k0 k6 p hp

theorem B0n(K N wa p:LN):(T9 K N wa p).length=p.length+16:=by unfold T9; rw [An,A0d,A4v]
theorem B6T:rcA 0=(rKs 0 1 0,rcR 7):=newR 0 1 0
theorem B6U:rcB 0=(rKs 1 1 7,rcR 14):=by unfold rcB; rw [B6T]; exact newR 1 1 7
noncomputable def C4r(u d:Int)(n:Nat):List Bn:=[rBn u d n 0,rBn u d n 1,rBn u d n 2,rBn u d n 3,rBn u d n 4]
theorem B6V:rcU 0=(C4r 1 1 7,rcR 14):=by unfold rcU; rw [B6U]; exact bunR 1 1 7 14
theorem C0q(u d:Int)(n:Nat)(hj:j < 5):(C4r u d n).getD j rcO=rBn u d n j:=by
  match j,hj with
  | 0,_=>rfl
  | 1,_=>rfl
  | 2,_=>rfl
  | 3,_=>rfl
  | 4,_=>rfl
section
variable{i j:Nat}(hj:j < 5)(hi:i < 5)
include hj
theorem C0r:rcY 0 j=rBn 1 1 7 j:=by unfold rcY; rw [B6V]; exact C0q 1 1 7 hj
theorem C4s:rcX 0 j=⟨rId 0 1 0 1 1 7 14 j,rWi 0 1 0 1 1 7,rHe 0 14 j,true,rRt 0 7 14 j⟩:=by unfold rcX; rw [B6T,C0r hj,B6V]; exact sXR
theorem C4t:rcD 0 j=rcR 16:=by unfold rcD; rw [B6T,C0r hj,B6V]; exact sDR
end
variable{c a b:Nat}{u1 d1 u2 d2:Int}
theorem C26:(rId u1 d1 a u2 d2 b c j).length=32:=A0e _
theorem C27:(rWi u1 d1 a u2 d2 b).length=160:=by unfold rWi B3a;rw [An,A78,A78,rbl,rgl,rbl,rgl]
theorem rTrl{root dh:LN}:((rTr root dh).getD 1 []).length=32:=by show (((A8S root [dh] A7l 2).take (32 * 1+32)).drop (32 * 1)).length=32;unfold A8S;simp [A0f]
theorem ksR{u d:Int}{n:Nat}:KsF (rKs u d n):=⟨E,(by decide:4<=10),(by decide:([2,3,4,5]:LN).Pairwise (· < ·))⟩
theorem st1R(hc:c<=90)(hk:A69 (rg (b+2)) (A9b 1 (rb (b+3))) (rs b)=true):C2F (rKs u1 d1 a) (C4r u2 d2 b,rcR c) (rBn u2 d2 b j):=by
  refine ⟨⟨E,Am _,Az hc qD⟩,λ t ht=>absurd ht List.not_mem_nil,?_,?_⟩
  . show ckB (rcR c) (rBn u2 d2 b j)=true;unfold ckB;rw [show (rBn u2 d2 b j).key=rb (b+3) from rfl,show (rBn u2 d2 b j).ig=rg (b+2) from rfl,show (rBn u2 d2 b j).sig=rs b from rfl,show (rBn u2 d2 b j).signed=1 from rfl,B2G E,hk,rbl];rfl
  . show (stS (rKs u1 d1 a) (rBn u2 d2 b j) (rcR c)).ts.length<=900∧(stS (rKs u1 d1 a) (rBn u2 d2 b j) (rcR c)).n<=900∧(stH (rKs u1 d1 a) (rBn u2 d2 b j) (rcR c)).ia.length<=1000∧(stH (rKs u1 d1 a) (rBn u2 d2 b j) (rcR c)).ig.length<=1000∧(stH (rKs u1 d1 a) (rBn u2 d2 b j) (rcR c)).key.length<=1000∧(idA (rKs u1 d1 a) (stS (rKs u1 d1 a) (rBn u2 d2 b j) (rcR c))).length+(idG (rKs u1 d1 a) (stS (rKs u1 d1 a) (rBn u2 d2 b j) (rcR c))).length+(rBn u2 d2 b j).ia.length+(rBn u2 d2 b j).ig.length<=1000000;rw [C3Y,C3Z,idR.2.1,idR.2.2];show 0<=900∧c+1<=900∧(rb (a+1)).length<=1000∧(rg (a+2)).length<=1000∧(rb (c+1)).length<=1000∧(rb (a+1)).length+(rg (a+2)).length+(rb (b+1)).length+(rg (b+2)).length<=1000000;rw [rbl,rgl,rbl,rbl,rgl];omega
theorem op_0(hj:j < 5):OpF 0 j:=by unfold OpF;rw [B6T,B6U,B6V,C0r hj];exact ⟨ksR,ksR,st1R qD C35⟩
noncomputable def rX(u1 d1:Int)(a:Nat)(u2 d2:Int)(b c j:Nat):Ses:=⟨rId u1 d1 a u2 d2 b c j,rWi u1 d1 a u2 d2 b,rHe a c j,true,rRt a b c j⟩
section
variable{u1 d1 u2 d2 fu fd tu td:Int}{a b c j x y:Nat}{tx:LN}
theorem wil:(wiW (rX u1 d1 a u2 d2 b c j) (rX u1 d1 a u2 d2 b c j).he fu fd tu td).length<=1000:=by have h:=A79 [] (A2d (rX u1 d1 a u2 d2 b c j) (rX u1 d1 a u2 d2 b c j).he fu fd tu td);have e1:(A2d (rX u1 d1 a u2 d2 b c j) (rX u1 d1 a u2 d2 b c j).he fu fd tu td).ses.length=32:=C26;have e2:(A2d (rX u1 d1 a u2 d2 b c j) (rX u1 d1 a u2 d2 b c j).he fu fd tu td).he.ia.length=32:=rbl _;have e3:(A2d (rX u1 d1 a u2 d2 b c j) (rX u1 d1 a u2 d2 b c j).he fu fd tu td).he.ig.length=32:=rgl _;have e4:(A2d (rX u1 d1 a u2 d2 b c j) (rX u1 d1 a u2 d2 b c j).he fu fd tu td).he.key.length=32:=rbl _;have e5:([]:LN).length=0:=rfl;unfold wiW;rw [An,show (rX u1 d1 a u2 d2 b c j).wi.length=160 from C27];omega
noncomputable def rE(u1 d1:Int)(a:Nat)(u2 d2:Int)(b c j:Nat)(fu fd tu td:Int)(y:Nat)(tx:LN):Ev:=evS (rcR y) (rX u1 d1 a u2 d2 b c j) (rX u1 d1 a u2 d2 b c j).he fu fd tu td tx
end
section
variable{u1 d1 u2 d2 fu fd tu td:Int}{a b c j x y:Nat}{tx:LN}
end
def C28(hk:LN)(k:Nat->LN)(sks:List Skp):Nat->List Skp
  | 0=>sks
  | i+1=>B7G (C28 hk k sks i) ⟨hk,i,k i⟩
def skL(hk:LN)(k:Nat->LN)(n:Nat):List Skp:=(List.range n).map λ j=>⟨hk,j,k j⟩
theorem C0s(hk:LN)(k:Nat->LN)(n:Nat):(skL hk k n).length=n:=by simp [skL]
variable{i:Nat}
theorem B76{hk:LN}{l:List Skp}(h:∀ x∈l,x.n≠i):V6 (tst hk i) l = -1:=by
  obtain ⟨hf,-⟩ | ⟨j,x,-,hx,hq,-⟩:=P0 (tst hk i) l
  . exact hf
  . have:=h x (As hx);simp [tst,this] at hq
theorem C0t{hk:LN}{k:Nat->LN}{n:Nat}{x:Skp}(h:x∈skL hk k n):x.n < n:=by obtain ⟨j,hj,rfl⟩:=List.mem_map.1 h;exact List.mem_range.1 hj
theorem A8l(hk:LN)(k:Nat->LN):∀ i,i<=32->C28 hk k [] i=skL hk k i
  | 0,_=>rfl
  | i+1,hi=>by show B7G (C28 hk k [] i) ⟨hk,i,k i⟩=_;rw [A8l hk k i qO];unfold B7G;rw [A4o (B76 λ x hx=>by have:=C0t hx; show x.n≠i; omega)];rw [show (skL hk k i++[(⟨hk,i,k i⟩:Skp)]).length - 32=0 by rw [An,C0s]; simp; omega,List.drop_zero];unfold skL;rw [List.range_succ,List.map_append]; rfl
noncomputable def fX(j:Nat):Ses:=rX 0 1 0 1 1 7 14 j
noncomputable def fc(j:Nat):Nat->LN
  | 0=>(rRt 0 7 14 j).sk
  | i+1=>B3n (rcR 0) (fc j i)
noncomputable def fk(j i:Nat):LN:=A7k (rcR 0) (fc j i)
noncomputable def fr(j i:Nat):Rsd:=⟨(rRt 0 7 14 j).own,(rRt 0 7 14 j).their,(rRt 0 7 14 j).root,fc j i,i,[],0,0,[]⟩
noncomputable def fw(j:Nat):LN:=wiW (fX j) (fX j).he 0 1 1 1
noncomputable def fg(j i:Nat):LN:=T9 (I5 (fk j i) 32) n12 (alW (fw j) (rb (14+2)) 0 i) [i % 256]
theorem B77(j:Nat):∀ i,(fc j i).length=32
  | 0=>rTrl
  | i+1=>by show ((B0t (rcR 0) (fc j i) [] A58 2).getD 1 []).length=32;rw [A6X rfl];show (((A8S (fc j i) [] A58 2).take (32 * 1+32)).drop (32 * 1)).length=32;unfold A8S;simp [A0f]
theorem C29{j:Nat}(hj:j < 5):∀ i,i<=6->frS 0 j i=(rcR 16,⟨(fX j).id,(fX j).wi,(fX j).he,true,fr j i⟩)
  | 0,_=>by show (rcD 0 j,rcX 0 j)=_;rw [C4t hj,C4s hj];rfl
  | i+1,hi=>by show (A6p (frS 0 j i).1 (frS 0 j i).2.r (wiW (frS 0 j i).2 (frS 0 j i).2.he 0 1 1 1) [i % 256],Q7 (frS 0 j i).2 (K2 (frS 0 j i).1 (frS 0 j i).2.r))=_;rw [C29 hj i qO];have e:(i+1) % 4294967296=i+1:=Af qO;show (rcR 16,(⟨_,_,_,_,⟨_,_,_,fc j (i+1),(i+1) % 4294967296,_,_,_,_⟩⟩:Ses))=_;rw [e];rfl
theorem C0u(hj:j < 5)(hi:i<=6):frE 0 j i=⟨0,1,1,1,(fX j).id,true,rHe 0 14 j,rb (14+2),0,i,fg j i⟩:=by
  unfold frE evS;rw [C29 hj i hi];dsimp only;rw [show P7 (rcR 16) (fr j i).own=rb (14+2) from A8k 16 (14+2)]
  have e:A9t (rcR 16) (fr j i) (fw j) [i % 256]=fg j i:=by unfold A9t C2q;rw [show P7 (rcR 16) (fr j i).own=rb (14+2) from A8k 16 (14+2),B7T rfl];rfl
  rw [<- e];rfl
theorem heL(a c j:Nat):(rHe a c j).ia.length=32∧(rHe a c j).ig.length=32∧(rHe a c j).key.length=32:=by unfold rHe;exact ⟨rbl _,rgl _,rbl _⟩
theorem fhe(j:Nat):(rHe 0 14 j).ia.length=32∧(rHe 0 14 j).ig.length=32∧(rHe 0 14 j).key.length=32:=heL 0 14 j
theorem aWiR{x:Nat}(h1:e.fu=u1)(h2:e.fd=d1)(h3:e.he=rHe a c j):aWi (rKs u2 d2 b) e (rcR x)=rWi u1 d1 a u2 d2 b:=by unfold aWi;rw [idR.2.1,idR.2.2,h1,h2,h3];rfl
theorem B4g(j:Nat):(fw j).length<=1000:=wil
theorem B78(j i:Nat):(fg j i).length=17:=by unfold fg; rw [B0n]; rfl
theorem C4u(hj:j < 5):FrS 0 j:=λ i hi=>by
  rw [C29 hj i qO];refine ⟨Am _,E,?_,?_,?_,Az (B4g j) qD⟩
  . show 0 < (fc j i).length;rw [B77]; decide
  . rw [show (fX j).wi.length=160 from C27]; decide
  . show (rId 0 1 0 1 1 7 14 j).length+(rHe 0 14 j).ia.length+(rHe 0 14 j).ig.length+(rHe 0 14 j).key.length<=1000000;have:=fhe j;rw [C26]; omega
theorem C4v(j x:Nat)(hk:LN):∀ i,rep (aSt hk) i (rcR x,fc j 0,0,[])=(rcR x,fc j i,i,C28 hk (fk j) [] i)
  | 0=>rfl
  | i+1=>by show aSt hk (rep (aSt hk) i (rcR x,fc j 0,0,[]))=_;rw [C4v j x hk i];rfl
noncomputable def fz(j n:Nat)(l:List Skp):Rsd:=⟨G5 (rcR 16),rb (14+2),B9M (G3 (rcR 16)) (rRt 0 7 14 j).root (G5 (rcR 16)) (rb (14+2)),B9N (G3 (rcR 16)) (rRt 0 7 14 j).root (G5 (rcR 16)) (rb (14+2)),0,fc j n,n,0,l⟩
noncomputable def fx(j n:Nat)(l:List Skp):Ses:=⟨(fX j).id,(fX j).wi,he0,false,fz j n l⟩
section
variable{j n i p:Nat}{l:List Skp}{t w:LN}
theorem C4w(hp:p<=5):U7 (rcR 16) (A1U (A22 0 7 14 j) (rk (7+3))) w (rb (14+2)) 0 p (T9 (I5 (fk j p) 32) n12 (alW w (rb (14+2)) 0 p) t)=(rcR 17,fz j (p+1) (skL (rb (14+2)) (fk j) p),0,t):=by
  have hb:opB (rcR 16) (A1U (A22 0 7 14 j) (rk (7+3))) (rb (14+2)) 0=(rcR 16,⟨rk (7+3),rb (14+2),(rRt 0 7 14 j).root,[],0,(rRt 0 7 14 j).sk,0,0,[]⟩):=opBR (a:=0) (b:=7) (c:=14) A9w;have hE:ahE 0 p=0:=A8h (Am _) qO
  have hC:opC (rcR 16,(⟨rk (7+3),rb (14+2),(rRt 0 7 14 j).root,[],0,(rRt 0 7 14 j).sk,0,0,[]⟩:Rsd)) p=(rcR 16,fc j p,p,skL (rb (14+2)) (fk j) p):=by show ahX (rcR 16) (fc j 0) 0 p (rb (14+2)) []=_;rw [A21 hE,Nat.sub_zero,C4v,A8l _ _ _ qO]
  have hf:A0R (A1U (A22 0 7 14 j) (rk (7+3))) (rb (14+2))=true:=by unfold A0R; rw [show decide ((A1U (A22 0 7 14 j) (rk (7+3))).tk=[])=true from rfl,Bool.or_true]
  have hD:opD (rcR 16,(⟨rk (7+3),rb (14+2),(rRt 0 7 14 j).root,[],0,(rRt 0 7 14 j).sk,0,0,[]⟩:Rsd)) p=rcR 16:=by unfold opD; rw [hC]; rfl
  have hK:A4y (rcR 16,(⟨rk (7+3),rb (14+2),(rRt 0 7 14 j).root,[],0,(rRt 0 7 14 j).sk,0,0,[]⟩:Rsd)) p=fk j p:=by unfold A4y; rw [hC]; rfl
  rw [A5f E hb (λ _=>rfl) hE (by rw [hD,hK,A7o rfl]; exact A1q _ _ _ _),hf,hD];unfold opG;rw [hC];have e:(p+1) % 4294967296=p+1:=Af qO;unfold opZ;rw [if_pos rfl];unfold opF;dsimp only;rw [e];rfl
theorem B0o:A0R (fz j n l) (rb (14+2))=false:=by unfold A0R;rw [decide_eq_true (show rb (14+2)=(fz j n l).their from rfl),decide_eq_false (show ¬ (fz j n l).tk=[] from λ e=>by have:=B77 j n; rw [show fc j n=[] from e] at this; cases this)];rfl
theorem C4x(hn:n<=6)(h0:A3f l (rb (14+2)) n=none):U7 (rcR 17) (fz j n l) w (rb (14+2)) 0 n (T9 (I5 (fk j n) 32) n12 (alW w (rb (14+2)) 0 n) t)=(rcR 17,fz j (n+1) l,0,t):=by
  have hE:ahE n n=0:=A8h (Av _) qO
  have hC:opC (rcR 17,fz j n l) n=(rcR 17,fc j n,n,l):=by show ahX (rcR 17) (fc j n) n n (rb (14+2)) l=_;rw [A21 hE,Nat.sub_self];rfl
  have hD:opD (rcR 17,fz j n l) n=rcR 17:=by unfold opD; rw [hC]; rfl
  have hK:A4y (rcR 17,fz j n l) n=fk j n:=by unfold A4y; rw [hC]; rfl
  rw [A5f h0 (B0m B0o) (λ hf=>by rw [B0o] at hf; cases hf) hE (by rw [hD,hK,A7o rfl]; exact A1q _ _ _ _),B0o,hD];unfold opG;rw [hC];have e:(n+1) % 4294967296=n+1:=Af qO;unfold opZ;rw [if_neg qD];dsimp only;show (rcR 17,(⟨(fz j n l).own,(fz j n l).their,(fz j n l).root,(fz j n l).sk,(fz j n l).sn,fc j (n+1),(n+1) % 4294967296,(fz j n l).prev,l⟩:Rsd),(0:Int),t)=_;rw [e];rfl
theorem C2N:V6 (tst (rb (14+2)) i) (⟨rb (14+2),i,fk j i⟩::l)=(0:Nat):=by
  obtain ⟨-,hz⟩ | ⟨q,x,hf,hx,hq,hm⟩:=P0 (tst (rb (14+2)) i) (⟨rb (14+2),i,fk j i⟩::l)
  . have:=hz _ qK;simp [tst] at this
  . cases q with
    | zero=>exact hf
    | succ q =>
      have:=hm 0 _ (Nat.succ_pos _) rfl;simp [tst] at this
theorem C4y:U7 (rcR 17) (fz j n (⟨rb (14+2),i,fk j i⟩::l)) w (rb (14+2)) 0 i (T9 (I5 (fk j i) 32) n12 (alW w (rb (14+2)) 0 i) t)=(rcR 17,fz j n l,0,t):=by have hs:A3f (fz j n (⟨rb (14+2),i,fk j i⟩::l)).sks (rb (14+2)) i=some (fk j i):=A57 (i:=0) (x:=⟨rb (14+2),i,fk j i⟩) C2N rfl;rw [A8i hs (by rw [A7o rfl]; exact A1q _ _ _ _)];show (rcR 17,(⟨_,_,_,_,_,_,_,_,A56 (⟨rb (14+2),i,fk j i⟩::l) (rb (14+2)) i⟩:Rsd),0,t)=_;rw [A2L (i:=0) C2N];rfl
end
theorem C4z{x:Nat}:A3j (rcR x).ts:=A3j.nil
theorem C4A{x:Nat}{w:LN}:Kok (rcR x) w:=λ h=>Bool.noConfusion h
section
variable{j n i:Nat}{l:List Skp}
theorem C0v(hj:j < 5)(hi:i<=6):OpA (rcR 17) (fx j n l) (frE 0 j i):=by
  rw [C0u hj hi];have h1:(fX j).id.length=32:=C26;have h2:(fX j).wi.length=160:=C27;refine ⟨Am _,(show 17<=900 by decide),E,?_,?_,?_,?_,?_⟩
  . show (fX j).wi.length<=_;omega
  . show (fX j).id.length+(rHe 0 14 j).ia.length+(rHe 0 14 j).ig.length+(rHe 0 14 j).key.length<=_;have:=fhe j;omega
  . show (fw j).length+(rb (14+2)).length<=_;have:=B4g j;rw [rbl]; omega
  . show (fg j i).length<=_;rw [B78]; decide
  . show 0 < (fX j).id.length;omega
theorem C0w(he:e.hk=rb (14+2))(hf:e.hp=0):OpnH (rcR 17) (fx j n l).r e.hk e.hp e.hn:=by
  have hb:opB (rcR 17) (fz j n l) (rb (14+2)) 0=(rcR 17,fz j n l):=B0m B0o
  have hr:∀ q,((opC (rcR 17,fz j n l) q).1).ts=[]∧((opC (rcR 17,fz j n l) q).1).real=true:=λ q=>by
    show ((ahX (rcR 17) (fc j n) n q (rb (14+2)) l).1).ts=[]∧((ahX (rcR 17) (fc j n) n q (rb (14+2)) l).1).real=true;by_cases h:ahE n q=0
    . rw [A21 h]
      have:∀ i x,(rep (aSt (rb (14+2))) i ((rcR 17,x):Ast)).1=rcR 17:=λ i x=>by
        induction i with
        | zero=>rfl
        | succ i ih =>
          show A1p (rep (aSt (rb (14+2))) i (rcR 17,x)).1 _=_;rw [ih];rfl
      rw [this];exact ⟨E,E⟩
    . rw [A7p h];exact ⟨E,E⟩
  have hs:∀ {s:Ps} {w:LN},s.ts=[]∧s.real=true->(A1p s w).ts=[]∧(A1p s w).real=true:=λ {s w} h=>by
    have:A1p s w=s:=by unfold A1p; exact B7m h.2
    rw [this]; exact h
  rw [he,hf];refine ⟨C4z,λ z _=>C4A,?_,λ h=>?_⟩
  . rw [show (fx j n l).r=fz j n l from rfl,hb];unfold opD;rw [(hs (hr _)).1];exact A3j.nil
  . rw [show (fx j n l).r=fz j n l from rfl,hb] at h;unfold opD at h;rw [(hs (hr _)).2] at h;cases h
theorem C4B(hj:j < 5)(hi:i < n)(hi6:i<=6)(h0:A3f l (rb (14+2)) i=none):RfG (rcR 17) (fx j n l) (frE 0 j i):=by
  have ha:=C0v (n:=n) (l:=l) hj hi6;have hh:=C0w (j:=j) (n:=n) (l:=l) (e:=frE 0 j i) (by rw [C0u hj hi6]) (by rw [C0u hj hi6]);have e:=C0u hj hi6;have hE:ahE n i≠0:=by unfold ahE; rw [if_pos hi]; decide
  have hb:opB (rcR 17) (fz j n l) (rb (14+2)) 0=(rcR 17,fz j n l):=B0m B0o;refine ⟨fz j n l,ahE n i,[],hE,ha,hh,?_⟩;rw [e];show U7 (rcR 17) (fz j n l) (fw j) (rb (14+2)) 0 i (fg j i)=_;rw [C3N h0 hb (λ hf=>by rw [B0o] at hf; cases hf) hE];show ((ahX (rcR 17) (fc j n) n i (rb (14+2)) l).1,_,_,_)=_;rw [A7p hE];rfl
theorem A6k(h:∀ x∈l,x.n≠i):A3f l (rb (14+2)) i=none:=A8a (B76 h)
end
noncomputable def skS(j i q:Nat):List Skp:=(List.range' i q).map λ t=>⟨rb (14+2),t,fk j t⟩
theorem B4h{q:Nat}{x:Skp}(h:x∈skS j i q):i<=x.n∧x.n < i+q:=by obtain ⟨y,hy,rfl⟩:=List.mem_map.1 h;exact ⟨(List.mem_range'_1.1 hy).1,(List.mem_range'_1.1 hy).2⟩
theorem go_2{j n:Nat}(hj:j < 5)(hn:n<=6):∀ q i,i+q<=n->GoF ((List.range' i q).map (frT 0 j)) (rcR 17) (fx j n (skS j i q))
  | 0,i,_=>trivial
  | q+1,i,h=>by
    rw [List.range'_succ,List.map_cons];have e:=C0u hj (show i<=6 by omega);have hs:skS j i (q+1)=⟨rb (14+2),i,fk j i⟩::skS j (i+1) q:=by unfold skS; rw [List.range'_succ,List.map_cons]
    refine ⟨rcR 17,fz j n (skS j (i+1) q),⟨C0v hj qO,C0w (by rw [e]) (by rw [e]),?_⟩,C4B hj qO qO (A6k λ x hx=>by have:=B4h hx; omega),go_2 hj hn q (i+1) qO⟩;rw [e,hs];exact C4y
theorem go_1{j:Nat}(hj:j < 5){l:List Skp}{L:List (Ev×LN)}:∀ q n,n+q<=6->(∀ x∈l,x.n < n)->GoF L (rcR 17) (fx j (n+q) l)->GoF ((List.range' n q).map (frT 0 j)++L) (rcR 17) (fx j n l)
  | 0,n,_,_,hL=>hL
  | q+1,n,h,hl,hL=>by rw [List.range'_succ,List.map_cons,List.cons_append];have e:=C0u hj (show n<=6 by omega);refine ⟨rcR 17,fz j (n+1) l,⟨C0v hj qO,C0w (by rw [e]) (by rw [e]),?_⟩,C4B hj (Nat.lt_succ_self n) qO (A6k λ x hx=>by have:=hl x hx; omega),go_1 hj q (n+1) qO (λ x hx=>by have:=hl x hx; omega) (by rw [show n+1+q=n+(q+1) by omega]; exact hL)⟩;rw [e];exact C4x qO (A6k λ x hx=>by have:=hl x hx; omega)
theorem C2O:∀ k,k<=6->∀ p,p < k->((List.range k).map λ i=>(p+i) % k).drop 1=List.range' (p+1) (k - 1 - p)++List.range' 0 p:=by decide
theorem C4C{m:Nat}(hk:k<=6)(hp:p < k):(frL m j k p).drop 1=(List.range' (p+1) (k - 1 - p)).map (frT m j)++(List.range' 0 p).map (frT m j):=by unfold frL;rw [show (List.range k).map (λ i=>frT m j ((p+i) % k))=((List.range k).map λ i=>(p+i) % k).map (frT m j) by rw [List.map_map]; rfl,<- List.map_drop,C2O k hk p hp,List.map_append]
theorem C4D(hj:j < 5)(hk:k<=6)(hp:p < k):FrF 0 j k p:=by
  have e0:=C0u hj (show p<=6 by omega);have es:(frS 0 j k).1=rcR 16:=by rw [C29 hj k hk]
  have hl:skL (rb (14+2)) (fk j) p=skS j 0 p:=by unfold skL skS; rw [List.range_eq_range']
  have w0:aWi (rKs 1 1 7) (frE 0 j p) (rcR 16)=(fX j).wi:=aWiR (a:=0) (c:=14) (j:=j) (by rw [e0]) (by rw [e0]) (by rw [e0])
  have w1:aNm (rKs 1 1 7) (frE 0 j p) (rcR 16)=rNm 0 1 0 1 1 7 14 j:=by unfold aNm;rw [w0,e0];rfl
  have w2:aC (rKs 1 1 7) (frE 0 j p) (rcR 16)=rcR 16:=by unfold aC;rw [idR.1,A54 rfl]
  have w3:aX (rKs 1 1 7) (frE 0 j p) (rcR 16) (A22 0 7 14 j) (rk (7+3))=⟨(fX j).id,(fX j).wi,he0,false,A1U (A22 0 7 14 j) (rk (7+3))⟩:=by unfold aX;rw [w0,w1,idR.1,A55 rfl];rfl
  have h1:(fX j).id.length=32:=C26;have h2:(fX j).wi.length=160:=C27;have h3:=B4g j;have wf:(fX j).wi++frW [] (frE 0 j p)=fw j:=by rw [e0]; rfl
  have ee:frE 0 j p=rE 0 1 0 1 1 7 14 j 0 1 1 1 16 []->True:=λ _=>trivial
  have ha:anR (rKs 1 1 7) (frE 0 j p).he (rcR 16)=(some (A22 0 7 14 j,rk (7+3)),rcR 16):=by
    rw [e0];refine anRR (a:=0) (b:=7) (c:=14) hj C0i C0j B6L λ h=>?_;rcases (by omega:j=1∨j=2∨j=3∨j=4) with rfl | rfl | rfl | rfl
    . exact B6M
    . exact B6N
    . exact B6O
    . exact B6P
  have hop:U7 (rcR 16) (A1U (A22 0 7 14 j) (rk (7+3))) (fw j) (rb (14+2)) 0 p (fg j p)=(rcR 17,fz j (p+1) (skL (rb (14+2)) (fk j) p),0,[p % 256]):=C4w qO
  have hA:AnF (rcB 0).1 (frE 0 j p) (frS 0 j k).1 [p % 256] (A22 0 7 14 j) (rk (7+3)) (rcR 16) (rcR 17) (fz j (p+1) (skL (rb (14+2)) (fk j) p)):=by
    rw [B6U,es];refine ⟨ha,⟨⟨Am _,by rw [e0],Am _⟩,?_,?_,?_,?_,?_,?_,?_,⟨Am _,(show 17<=900 by decide)⟩,?_⟩,?_,?_⟩
    . rw [idR.2.1,idR.2.2,e0];show (rHe 0 14 j).ia.length+(rHe 0 14 j).ig.length+_+_<=_;have:=fhe j;rw [rbl,rgl];omega
    . rw [e0];show (fX j).id.length+(rHe 0 14 j).ia.length+(rHe 0 14 j).ig.length+(rHe 0 14 j).key.length<=_;have:=fhe j;omega
    . rw [w1,idR.1,A55 E,e0];rfl
    . rw [w2];exact ⟨Am _,(show 16<=900 by decide)⟩
    . rw [w3];show (fX j).wi.length<=_;omega
    . rw [w3];show ((fX j).wi++frW [] (frE 0 j p)).length+_<=_;rw [wf,e0];show (fw j).length+(rb (14+2)).length<=_;rw [rbl];omega
    . rw [e0];show (fg j p).length<=_;rw [B78]; decide
    . show 0 < (G5 (rcR 16)).length;rw [A6f];unfold rk B4m;rw [A0f];decide
    . rw [w2,w3,e0];have hb:opB (rcR 16) (A1U (A22 0 7 14 j) (rk (7+3))) (rb (14+2)) 0=(rcR 16,⟨rk (7+3),rb (14+2),(rRt 0 7 14 j).root,[],0,(rRt 0 7 14 j).sk,0,0,[]⟩):=opBR (a:=0) (b:=7) (c:=14) A9w
      have hC:opC (rcR 16,(⟨rk (7+3),rb (14+2),(rRt 0 7 14 j).root,[],0,(rRt 0 7 14 j).sk,0,0,[]⟩:Rsd)) p=(rcR 16,fc j p,p,skL (rb (14+2)) (fk j) p):=by show ahX (rcR 16) (fc j 0) 0 p (rb (14+2)) []=_;rw [A21 (A8h (Am _) qO),Nat.sub_zero,C4v,A8l _ _ _ qO]
      refine ⟨C4z,λ z _=>C4A,?_,?_⟩
      . show A3j (opD (opB (rcR 16) (A1U (A22 0 7 14 j) (rk (7+3))) (rb (14+2)) 0) p).ts;rw [hb]; unfold opD; rw [hC];exact C4z
      . show Kok (opD (opB (rcR 16) (A1U (A22 0 7 14 j) (rk (7+3))) (rb (14+2)) 0) p) _;rw [hb]; unfold opD; rw [hC];exact C4A
    . rw [w2,w3,wf,e0];exact hop
  have hx:A6r (aX (rcB 0).1 (frE 0 j p) (rcR 16) (A22 0 7 14 j) (rk (7+3))) (fz j (p+1) (skL (rb (14+2)) (fk j) p))=fx j (p+1) (skS j 0 p):=by rw [B6U,w3,hl];rfl
  refine ⟨_,_,_,_,_,hA,?_,?_⟩
  . rw [hx];exact C4B hj (Nat.lt_succ_self p) qO (A6k λ x hx=>by have:=B4h hx; omega)
  . rw [hx,C4C hk hp];refine go_1 hj (k - 1 - p) (p+1) qO (λ x hx=>by have:=B4h hx; omega) ?_;rw [show p+1+(k - 1 - p)=k by omega];exact go_2 hj hk p 0 qO

section
variable{m n j:Nat}(h:rc0 m=rc0 n)
include h
theorem B6W:∀ i,frS m j i=frS n j i
  | 0=>by show (rcD m j,rcX m j)=(rcD n j,rcX n j); rw [C37 h,C36 h]
  | i+1=>by unfold frS; rw [B6W i]
theorem C2P:frT m j=frT n j:=funext λ i=>by unfold frT frE; rw [B6W h]
theorem C4E:FrS m j=FrS n j:=by unfold FrS; simp only [B6W h]
theorem C4F:FrF m j k p=FrF n j k p:=by unfold FrF frL;rw [C0k h,B6W h,C2P h,show frE m j p=frE n j p from congrArg Prod.fst (congrFun (C2P h) p)]
end
theorem B79(m:Nat)(hj:j < 5):OpF m j∧FrS m j∧∀ k,0 < k->k<=6->∀ p,p < k->FrF m j k p:=by
  have h:rc0 m=rc0 (m % 2):=by unfold rc0; rw [Nat.mod_mod]
  rw [C38 h,C4E h];simp only [C4F h];rcases Nat.mod_two_eq_zero_or_one m with e | e <;> rw [e]
  . exact ⟨op_0 hj,C4u hj,λ k _ h6 p hp=>C4D hj h6 hp⟩
  . exact fr_t hj

end Go.Proofs.YtjkpfgjfpbihaaaGreatDoor
