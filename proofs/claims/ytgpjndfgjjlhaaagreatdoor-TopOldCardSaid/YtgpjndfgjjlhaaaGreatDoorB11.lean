/- Part 11 of the texts of this claim, one behind the other. -/
import Derived.Test.YtgpjndfgjjlhaaaGreatDoorB10
set_option linter.unusedVariables false
set_option linter.unusedSimpArgs false
set_option maxRecDepth 100000
namespace Go
open Go.Px
abbrev Cl:=@FnX.amb
end Go
open Go.Proofs.Tryz
noncomputable section
namespace Go.Proofs.YtgpjndfgjjlhaaaGreatDoor
open Go.Px
theorem B9r{P:Program}{fn:Func}{l:Env}{R:Mem}{t1 t2 u b1 b2 n1 n2:Nat}{y1 y2:TypeId}{c1 c2:List Value}{e1 e2:TypeId}{f1 f2:Nat×Nat}{v:Value}(h:fn.results=#[.cell t1 y1,.cell t2 y2,.tmp u])(h1:lk l t1=some (vP b1))(h2:lk l t2=some (vP b2))(hu:lk l u=some v)(ht1:A59 P y1=some n1)(ht2:A59 P y2=some n2)
    (hb1:(b1,Obj.cells c1.toArray e1 f1)∈R) (hb2:(b2,Obj.cells c2.toArray e2 f2)∈R) (hn1:c1.length=n1) (hn2:c2.length=n2):Res P fn l R (.tuple #[.agg c1.toArray,.agg c2.toArray,v]):=λN a w ha hw=>by
  obtain ⟨d1,g1,g2,g3⟩:=R5 ht1;obtain ⟨d2,k1,k2,k3⟩:=R5 ht2;have l1:=run_loadVar_row (P:=P) w b1 e1 y1 c1.toArray f1 d1 (hw b1 _ hb1) g1 (by cases d1<;>simp_all [TypeDesc.isRow]) (by rw [g3,<- hn1];simp);have l2:=run_loadVar_row (P:=P) w b2 e2 y2 c2.toArray f2 d2 (hw b2 _ hb2) k1 (by cases d2<;>simp_all [TypeDesc.isRow]) (by rw [k3,<- hn2];simp);simp [results,h,ha.slot t1 _ h1,ha.slot t2 _ h2,ha.slot u _ hu,asAddr,l1,l2]
def A1N(x:Ses)(h:He)(fu fd tu td:Int):Ev:=⟨fu,fd,tu,td,x.id,x.tell,h,[],0,0,[]⟩
def W9(x:Ses)(r2:Rsd):Ses:=⟨x.id,x.wi,x.he,x.tell,r2⟩
set_option maxHeartbeats 1000000 in
theorem C1P(pb:Nat)(s:Ps)(x:Ses)(vi vw p0 r0 u0 vo vt vr vk0 vl vst vx:Value)(fu fd tu td:Int)(tx:LN)(MP A:Mem)(hP:Prm pb s MP)(hn:s.ts.length+200<=1000000)(hx:SeR A x vi vw p0 r0 u0 vo vt vr vk0 vl vst)(htell:x.tell=true)(hsk:0<x.r.sk.length)(hwi:x.wi.length<=1000000)(hel:x.id.length+x.he.ia.length+x.he.ig.length+x.he.key.length<=1000000)(hfl:(x.wi++frW [] (A1N x x.he fu fd tu td)).length<=1000000)(htx:By A vx tx)(hxl:tx.length<=1000000)(hG:Glb A):FnX prog 8 [(vP pb),.agg (seC vi vw p0 r0 u0 vo vt vr vk0 vl vst x).toArray,.agg #[.int .i64 fu,.int .i64 fd],.agg #[.int .i64 tu,.int .i64 td],vx] MP A λq M J=>∃wo wt wr wk wl wq vid q2 q3,q=.tuple #[.agg (seC vi vw p0 r0 u0 wo wt wr wk wl wq (W9 x (K3 s x.r))).toArray,.agg (evC vid p0 r0 u0 q2 q3 ⟨fu,fd,tu,td,x.id,x.tell,x.he,I5 s x.r.own,x.r.prev,x.r.sn,A3b s x.r (x.wi++frW [] (A1N x x.he fu fd tu td)) tx⟩).toArray,U7]∧Prm pb (W5 s x.r (x.wi++frW [] (A1N x x.he fu fd tu td)) tx) M∧SeR (J++A) (W9 x (K3 s x.r)) vi vw p0 r0 u0 wo wt wr wk wl wq∧EvR (J++A) (⟨fu,fd,tu,td,x.id,x.tell,x.he,I5 s x.r.own,x.r.prev,x.r.sn,A3b s x.r (x.wi++frW [] (A1N x x.he fu fd tu td)) tx⟩:Ev) vid p0 r0 u0 q2 q3:=by
 haveI:=hx.id.cel;haveI:=hx.wi.cel;haveI:=hx.he.ia.cel;haveI:=hx.he.ig.cel;haveI:=hx.he.key.cel;haveI:=hx.r.own.cel;haveI:=hx.r.their.cel;haveI:=hx.r.root.cel;haveI:=hx.r.sk.cel;haveI:=hx.r.tk.cel;haveI:=hx.r.st.cel;haveI:=htx.cel;unfold seC;refine Co (N:=57) func8 E E E λw_=>?_;refine A8 (E9 0 1 2 3 4) (A1 ?_);refine A2 E (bx_ λb6=>?_);refine A2 E (bx_ λb7=>?_);refine A2 E (bx_ λb8=>?_);refine A2 E (C3 (cs:=[vS,vS,vS,vS,vS,D3,.bool false,D3,.bool false,vS,vS,vS,vS,D3,vS,D3,D3,.pointer none]) kR E λb10=>?_);refine A2 E (C3 (cs:=[U7,U7,U7,U7,vS,.bool false,vS,vS,vS,D3,.bool false,D3,vS,D3,D3,vS]) kR E λb11=>?_);refine as_ (A0 (N1 0 4 6 7 8 10 11) ?_);refine F9 ([]) (_) true (.range 9) [(0,1),(1,1),(2,0),(3,1),(5,0),(6,1),(4,3),(7,3),(8,4),(9,2)] kR kR qP λhs K n0 hKm hKs hKn=>?_;refine I8 hs E hKs (F2 (n:=2) (vs:=[.int .i64 fu,.int .i64 fd]) E kR Ce E (D4 [] [.int .i64 fu,.int .i64 fd] [])) ?_;refine I8 hs E hKs (F2 (n:=2) (vs:=[.int .i64 tu,.int .i64 td]) E kR Ce E (D4 [] [.int .i64 tu,.int .i64 td] [])) ?_;refine kQ_ E (qf_ 0 0) ?_;refine I8 hs E hKs ql_ ?_;refine kQ_ E (qf_ 8 8) ?_;refine I8 hs E hKs ql_ ?_
 refine A03 [⟨4,22,none,[],λv B R=>B=[]∧By R v x.id⟩,⟨7,25,none,[],λv B R=>B=[]∧∃w0,v=.agg #[.int .i64 fu,.int .i64 fd,.int .i64 tu,.int .i64 td,w0,.bool x.tell,vS,vS,vS,D3,.bool false,D3,vS,D3,D3,vS]∧By R w0 x.id⟩,⟨8,13,none,[],λv B _=>∃b,v=(vP b)∧B=[(b,blk Zf 57)]⟩] ([(b11,blk Zf 57),(b10,blk Ze 49),(b8,blk [.int .i64 tu,.int .i64 td] 28),(b7,blk [.int .i64 fu,.int .i64 fd] 28),(b6,blk (Zc vi vw p0 r0 u0 vo vt vr vk0 vl vst x) 49)]++MP) (λbs=>[bs 4,bs 7,bs 8]) (hKn E) (by simp [X6,A1e]) gk0 kR (λ_=>by first|rfl|kernel_rfl)
  (A7 (λ_ _ _ _ h hp=>⟨hp.1,hp.2.mono h⟩) (A7 (λ_ _ _ _ h hp=>(let ⟨e0,w0,e1,e2⟩:=hp;⟨e0,w0,e1,e2.mono h⟩)) (A7 gM (K5)))) nd_ nd_ dl_
  (gC ?_ (gC ?_ (gC ?_ (K5)))) ?_
 . intro _ _ _ Rj _ _ hj hjr _;dsimp only [Gc.inp];refine D9 (aS E a0) kR (Cl (A:=Rj) (λx hx=>by have:=hjr x hx;simp [this]) (P8 vi x.id Rj (hx.id.mono (λx hx=>hj x (qS x hx))))) E ?_;rintro r M1 J1 ⟨rfl,hh_⟩;exact ⟨_,E,E,hh_.mono λz hz=>by simp [hz]⟩
 . intro _ _ _ _ _ _ _ _ ha;dsimp only [Gc.inp];have g4:=gx 0 ha;dsimp only at g4;obtain ⟨-,h4⟩:=g4;haveI:=h4.cel;exact Cp (E6 (place:=λx=>#[(0,2),(2,2),(4,1),(5,1),(6,6),(12,3),(15,1)][x]?) (z:=[U7,U7,U7,U7,vS,.bool false,vS,vS,vS,D3,.bool false,D3,vS,D3,D3,vS]) (λ_=>by kernel_rfl) (eS E (eS E (eS E (eS E e0)))) (bdS 0 2 E qR (bdS 2 2 E qR (bdS 4 1 E qR (bdS 5 1 E qR bd0))))) E ⟨_,E,E,_,E,h4⟩
 .
  intros
  dsimp only [Gc.inp]
  exact C3 (cs:=[U7,U7,U7,U7,vS,.bool false,vS,vS,vS,D3,.bool false,D3,vS,D3,D3,vS]) kR E λb=>⟨_,E,b,E,E⟩
 intro vs bs Jn0 hφ hKK;clear hKK;have g4:=gy 0 hφ;have g7:=gy 1 hφ;have g8:=gy 2 hφ;dsimp only at g4 g7 g8;clear hφ;dsimp only [Q9,X6,List.foldr,List.map,Cy,Cw];generalize bs 4=B22,bs 7=B25,bs 8=B13,vs 4=u22,vs 7=u25,vs 8=u13 at *;obtain ⟨rfl,-⟩:=g4;obtain ⟨rfl,uid,rfl,h22⟩:=g7;obtain ⟨b13,rfl,rfl⟩:=g8;haveI:=h22.cel;dsimp only [List.append_eq,Cw,Cy];refine K6 E E E (A5 (vs:=[.int .i64 fu,.int .i64 fd,.int .i64 tu,.int .i64 td,uid,.bool x.tell,vS,vS,vS,D3,.bool false,D3,vS,D3,D3,vS]) E E E kR qR (A7 E (A7 E (A7 E (A7 E (A7 h22.one (A7 E al10)))))) Cv ?_);refine I0 (G9 0 4 6 10 11 13) (A3 (A1 (lQ_ (qf_ 8 8) ?_)));refine lQ_ ql_ ?_;refine A0 (N1 0 4 6 10 11 13 27) ?_;refine E2 (by rw [<- htell];rfl) ?_;refine C1 (lQ_ (qf_ 2 2) (lQ_ (F2 (n:=6) (vs:=[p0,r0,u0,(vU x.he.signed),.bool x.he.has,(vU x.he.once)]) E kR Ce E (D4 [vi,vw] [p0,r0,u0,(vU x.he.signed),.bool x.he.has,(vU x.he.once)] [.bool x.tell,vo,vt,vr,vk0,(vU x.r.sn),vl,(vU x.r.tn),(vU x.r.prev),vst])) (lQ_ (qf_ 6 6) ?_)));refine A2 E (P1 (vs:=[p0,r0,u0,(vU x.he.signed),.bool x.he.has,(vU x.he.once)]) (cs':=[.int .i64 fu,.int .i64 fd,.int .i64 tu,.int .i64 td,uid,.bool x.tell,p0,r0,u0,(vU x.he.signed),.bool x.he.has,(vU x.he.once),vS,D3,D3,vS]) E E E kR (by exact (show 6+6<=16 by decide)) (A7 hx.he.ia.one (A7 hx.he.ig.one (A7 hx.he.key.one al3))) E Cv ?_);refine A0 (G9 0 4 6 10 11 13) ?_
 have hEv:EvR _ (A1N x x.he fu fd tu td) uid p0 r0 u0 (vS) (vS):=⟨h22,hx.he.mono qS,hx.hil,By.nil,By.nil,(show 0<4294967296 by decide),(show 0<4294967296 by decide)⟩
 refine F9 (MP) (_) true [0,1,2,3,4,5,6,7,8,9,10,11,12,13,14,17,18] [(0,0),(1,0),(2,1),(3,1),(4,1),(6,0),(5,8),(7,8),(8,8),(9,8),(13,8),(14,8),(10,9),(11,9),(12,10),(15,2),(16,2),(17,0),(18,0)] kR kR qP λhs K n0 hKm hKs hKn=>?_;refine kM_ E E (kQ_ E (qf_ 9 9) ?_);refine I8 hs E hKs (F2 (n:=9) (vs:=(Za vo vt vr vk0 vl vst x.r)) E kR Ce E (D4 (Zb vi vw p0 r0 u0 x) (Za vo vt vr vk0 vl vst x.r) [])) ?_;refine I8 hs E hKs (F2 (n:=18) (vs:=(Zc vi vw p0 r0 u0 vo vt vr vk0 vl vst x)) E kR Ce E (D4 [] (Zc vi vw p0 r0 u0 vo vt vr vk0 vl vst x) [])) ?_;refine I8 hs E hKs (F2 (n:=16) (vs:=[.int .i64 fu,.int .i64 fd,.int .i64 tu,.int .i64 td,uid,.bool x.tell,p0,r0,u0,(vU x.he.signed),.bool x.he.has,(vU x.he.once),vS,D3,D3,vS]) E kR Ce E (D4 [] [.int .i64 fu,.int .i64 fd,.int .i64 tu,.int .i64 td,uid,.bool x.tell,p0,r0,u0,(vU x.he.signed),.bool x.he.has,(vU x.he.once),vS,D3,D3,vS] [])) ?_;refine km_ ?_
 refine A04 [⟨5,37,none,[],λv B R=>B=[]∧By R v (x.wi++frW [] (A1N x x.he fu fd tu td))⟩,⟨7,39,none,MP,λv B R=>∃q1 q2 q3,v=.tuple #[q1,.agg #[q2,(vU x.r.prev),(vU x.r.sn)],q3,U7]∧Prm pb (W5 s x.r (x.wi++frW [] (A1N x x.he fu fd tu td)) tx) B∧RsV R q1 (K3 s x.r)∧By R q2 (I5 s x.r.own)∧By R q3 (A3b s x.r (x.wi++frW [] (A1N x x.he fu fd tu td)) tx)⟩,⟨8,31,none,[],λv B R=>B=[]∧∃q1 q2 q3,v=.tuple #[q1,.agg #[q2,(vU x.r.prev),(vU x.r.sn)],q3,U7]∧RsV R q1 (K3 s x.r)∧By R q2 (I5 s x.r.own)∧By R q3 (A3b s x.r (x.wi++frW [] (A1N x x.he fu fd tu td)) tx)⟩,⟨9,40,none,[],λv B R=>B=[]∧RsV R v (K3 s x.r)⟩,⟨13,14,none,[],λv B _=>∃b,v=(vP b)∧B=[(b,blk [vS,vS,vS,vS,D3,vS,D3,D3,.pointer none] 47)]⟩,⟨14,15,none,[],λv B _=>∃b,v=(vP b)∧B=[(b,blk [vS,D3,D3] 55)]⟩] [⟨10,41,none,[],λv B R=>B=[]∧∃q2,v=.agg #[q2,(vU x.r.prev),(vU x.r.sn)]∧By R q2 (I5 s x.r.own)⟩,⟨11,42,none,[],λv B R=>B=[]∧By R v (A3b s x.r (x.wi++frW [] (A1N x x.he fu fd tu td)) tx)⟩,⟨12,43,none,[],λv B R=>B=[]∧v=.int .i64 0⟩] ([(b13,blk [.int .i64 fu,.int .i64 fd,.int .i64 tu,.int .i64 td,uid,.bool x.tell,p0,r0,u0,(vU x.he.signed),.bool x.he.has,(vU x.he.once),vS,D3,D3,vS] 57),(b11,blk Zf 57),(b10,blk Ze 49),(b8,blk [.int .i64 tu,.int .i64 td] 28),(b7,blk [.int .i64 fu,.int .i64 fd] 28),(b6,blk (Zc vi vw p0 r0 u0 vo vt vr vk0 vl vst x) 49)]) (λbs=>[bs 5,bs 7,bs 8,bs 9,bs 13,bs 14,bs 10,bs 11,bs 12]) (hKn E) (by simp [X6,A1e]) (show ∀m∈([[],MP,[],[],[],[],[],[],[]]:List Mem),∀x∈m,K x.1 from A7 gn0 (A7 (hKm) (A7 gn0 (A7 gn0 (A7 gn0 (A7 gn0 (A7 gn0 (A7 gn0 (A7 gn0 (K5)))))))))) kR (λ_=>by first|rfl|kernel_rfl)
  (A7 (λ_ _ _ _ h hp=>⟨hp.1,hp.2.mono h⟩) (A7 (λ_ _ _ _ h ⟨q1,q2,q3,e,p1,p2,p3,p4⟩=>⟨q1,q2,q3,e,p1,p2.mono h,p3.mono h,p4.mono h⟩) (A7 (λ_ _ _ _ h ⟨e0,q1,q2,q3,e,p2,p3,p4⟩=>⟨e0,q1,q2,q3,e,p2.mono h,p3.mono h,p4.mono h⟩) (A7 (λ_ _ _ _ h hp=>⟨hp.1,hp.2.mono h⟩) (A7 gM (A7 gM (A7 (λ_ _ _ _ h ⟨e0,q,e,p⟩=>⟨e0,q,e,p.mono h⟩) (A7 (λ_ _ _ _ h hp=>⟨hp.1,hp.2.mono h⟩) (A7 gM (K5)))))))))) nd_ nd_ dl_
  hs (List.cons_ne_nil _ _) (gC ?_ (gC ?_ (gC ?_ (gC ?_ (gC ?_ (gC ?_ (K5))))))) (A7 ⟨E,E,_,_,_,_,E,λvs bs Rj hj ha=>?_⟩ (A7 ⟨E,E,_,_,_,_,E,λvs bs Rj hj ha=>?_⟩ (A7 ⟨E,E,_,_,_,_,E,λvs bs Rj hj ha=>?_⟩ (K5)))) ?_
 . intro _ _ _ Rj _ _ hj hjr _;dsimp only [Gc.inp];refine D9 (aS E (aS E a0)) kR (Cl (A:=Rj) (λx hx=>by have:=hjr x hx;simp [this]) (A7c x vi vw p0 r0 u0 vo vt vr vk0 vl vst (A1N x x.he fu fd tu td) uid p0 r0 u0 (vS) (vS) Rj (hx.mono (λx hx=>hj x (qS x hx))) (hEv.mono (λx hx=>hj x (qS x hx))) hwi hel)) E ?_;rintro r M1 J1 ⟨rfl,hh_⟩;exact ⟨_,E,E,hh_.mono λz hz=>by simp [hz]⟩
 . intro _ _ R Rj _ _ hj hjr ha;dsimp only [Gc.inp];have g5:=gx 0 ha;dsimp only at g5;obtain ⟨-,h5⟩:=g5;haveI:=h5.cel;refine C8 (Mc:=MP) (R:=[]) (aS E (aS E (aS E (aS E (a0))))) kR qM (Cl (A:=Rj) (λx hx=>by have:=hjr x hx;simp [this]) (B5t pb s x.r vo vt vr vk0 vl vst _ vx (x.wi++frW [] (A1N x x.he fu fd tu td)) tx MP Rj hP qO (hx.r.mono (λx hx=>hj x (qS x hx))) hsk h5 hfl (htx.mono (λx hx=>hj x (qS x hx))) hxl (hG.sub (λx hx=>hj x (qS x hx))))) E ?_;rintro v25 M25 J25 ⟨q1,q2,q3,rfl,hP25,p2,p3,p4⟩;exact ⟨_,E,q1,q2,q3,E,by simpa using hP25,p2.mono (λx hx=>by simpa using hx),p3.mono (λx hx=>by simpa using hx),p4.mono (λx hx=>by simpa using hx)⟩
 . intro _ _ _ _ _ _ _ _ ha;dsimp only [Gc.inp];have g7:=gx 1 ha;dsimp only at g7;obtain ⟨q1,q2,q3,e,-,k⟩:=g7;exact Cp qm_ E ⟨_,E,E,q1,q2,q3,e,k⟩
 . intro vs bs _ _ _ _ _ _ ha;dsimp only [Gc.inp];have g8:=gx 2 ha;dsimp only at g8;obtain ⟨-,q1,q2,q3,e,k,-⟩:=g8;exact Cp (I3 (vs:=#[q1,.agg #[q2,(vU x.r.prev),(vU x.r.sn)],q3,U7]) (by rw [<- e];rfl) E) E ⟨_,E,E,k⟩
 .
  intros
  dsimp only [Gc.inp]
  exact C3 (cs:=[vS,vS,vS,vS,D3,vS,D3,D3,.pointer none]) kR E λb=>⟨_,E,b,E,E⟩
 .
  intros
  dsimp only [Gc.inp]
  exact C3 (cs:=[vS,D3,D3]) kR E λb=>⟨_,E,b,E,E⟩
 . have g8:=gx 2 ha;dsimp only at g8;obtain ⟨-,q1,q2,q3,e,-,k,-⟩:=g8;exact ⟨_,I3 (vs:=#[q1,.agg #[q2,(vU x.r.prev),(vU x.r.sn)],q3,U7]) (by rw [<- e];rfl) E,E,q2,E,k⟩
 . have g8:=gx 2 ha;dsimp only at g8;obtain ⟨-,q1,q2,q3,e,-,-,k⟩:=g8;exact ⟨_,I3 (vs:=#[q1,.agg #[q2,(vU x.r.prev),(vU x.r.sn)],q3,U7]) (by rw [<- e];rfl) E,E,k⟩
 . have g8:=gx 2 ha;dsimp only at g8;obtain ⟨-,q1,q2,q3,e,-⟩:=g8;exact ⟨_,I3 (vs:=#[q1,.agg #[q2,(vU x.r.prev),(vU x.r.sn)],q3,U7]) (by rw [<- e];rfl) E,E,E⟩
 intro vs bs Jn0 hφ hKK;clear hKK;have g5:=gy 0 hφ;have g7:=gy 1 hφ;have g8:=gy 2 hφ;have g9:=gy 3 hφ;have g13:=gy 4 hφ;have g14:=gy 5 hφ;have g10:=gy 6 hφ;have g11:=gy 7 hφ;have g12:=gy 8 hφ;dsimp only at g5 g7 g8 g9 g13 g14 g10 g11 g12;clear hφ;dsimp only [Q9,X6,List.foldr,List.map,Cy,Cw];generalize bs 5=B37,bs 7=B39,bs 8=B31,bs 9=B40,bs 13=B14,bs 14=B15,bs 10=B41,bs 11=B42,bs 12=B43,vs 5=u37,vs 7=u39,vs 8=u31,vs 9=u40,vs 13=u14,vs 14=u15,vs 10=u41,vs 11=u42,vs 12=u43 at *;obtain ⟨-,-,-,-,hP27,-⟩:=g7;clear g8;obtain ⟨rfl,h5⟩:=g5;obtain ⟨rfl,wo,wt,wr,wk,wl,wq,rfl,hn1⟩:=g9;obtain ⟨rfl,hk_,rfl,h29⟩:=g10;obtain ⟨rfl,h30⟩:=g11;obtain ⟨rfl,rfl⟩:=g12;obtain ⟨b14,rfl,rfl⟩:=g13;obtain ⟨b15,rfl,rfl⟩:=g14;haveI:=hn1.own.cel;haveI:=hn1.their.cel;haveI:=hn1.root.cel;haveI:=hn1.sk.cel;haveI:=hn1.tk.cel;haveI:=hn1.st.cel;haveI:=h29.cel;haveI:=h30.cel;unfold rsC;refine K6 E E E (A5 (vs:=(Za wo wt wr wk wl wq (K3 s x.r))) E E E kR qR (A7 hn1.own.one (A7 hn1.their.one (A7 hn1.root.one (A7 hn1.sk.one (A7 E (A7 hn1.tk.one (A7 E (A7 E (A7 hn1.st.one K5))))))))) Cv ?_);refine K6 E E E (A5 (vs:=[hk_,(vU x.r.prev),(vU x.r.sn)]) E E E kR qR (A7 h29.one al2) Cv ?_);refine kQ_ E (G2 E) (kQ_ E (G2 E) (I0 (V4 6 10 11 13 14 15 16 17) (A3 (A1 (mV_ E (lQ_ (F6 false E E (neF E)) (A0 (Q4 6 10 11 13 14 15 16 17 45) ?_)))))));refine C7 E ?_;refine A4 (nx (N1 6 10 11 13 14 15 16) ?_);refine F9 ([(b6,blk (Zc vi vw p0 r0 u0 vo vt vr vk0 vl vst x) 49)]) (_) true [0,1,2,3,4,5,7] (zp 0 [1,1,0,0,2,0,2,0,2]) kR kR qP λhs K n0 hKm hKs hKn=>?_;refine I8 hs E hKs (F2 (n:=9) (vs:=(Za wo wt wr wk wl wq (K3 s x.r))) E kR Ce E (D4 [] (Za wo wt wr wk wl wq (K3 s x.r)) [])) ?_;refine I8 hs E hKs (F2 (n:=3) (vs:=[hk_,(vU x.r.prev),(vU x.r.sn)]) E kR Ce E (D4 [] [hk_,(vU x.r.prev),(vU x.r.sn)] [])) ?_;refine kM_ E E (kQ_ E (qf_ 9 9) ?_)
 refine G8 [(b6,blk (Zc vi vw p0 r0 u0 vo vt vr vk0 vl vst x) 49)] _ E E qP (λx hx=>hKm x hx) λw0=>(P1 (vs:=(Za wo wt wr wk wl wq (K3 s x.r))) (cs':=[vi,vw,p0,r0,u0,(vU x.he.signed),.bool x.he.has,(vU x.he.once),.bool x.tell,wo,wt,wr,wk,(vU ((K3 s x.r).sn)),wl,(vU ((K3 s x.r).tn)),(vU ((K3 s x.r).prev)),wq]) E E E kR (by exact (show 9+9<=18 by decide)) (A7 hn1.own.one (A7 hn1.their.one (A7 hn1.root.one (A7 hn1.sk.one (A7 E (A7 hn1.tk.one (A7 E (A7 E (A7 hn1.st.one K5))))))))) E Cv ?_)
 intro _;dsimp only [Cy,Cw,List.append_eq];refine kQ_ E (qf_ 12 12) ?_;refine K6 E E E (P1 (vs:=[hk_,(vU x.r.prev),(vU x.r.sn)]) (cs':=[.int .i64 fu,.int .i64 fd,.int .i64 tu,.int .i64 td,uid,.bool x.tell,p0,r0,u0,(vU x.he.signed),.bool x.he.has,(vU x.he.once),hk_,(vU x.r.prev),(vU x.r.sn),vS]) E E E kR (by exact (show 12+3<=16 by decide)) (A7 h29.one al2) E Cv ?_);refine kQ_ E (qf_ 15 15) ?_;refine K6 E E E (E1 E E h30.one kR Ct Cv ?_);refine I0 (D7 6 10 11 13) ?_;refine F9 ([(b10,blk Ze 49)]) (_) true [0,1,2,4] (zp 0 [1,1,2,2,0]) kR kR qP λhs K n0 hKm hKs hKn=>?_;refine I8 hs E hKs (F2 (n:=18) (vs:=[vi,vw,p0,r0,u0,(vU x.he.signed),.bool x.he.has,(vU x.he.once),.bool x.tell,wo,wt,wr,wk,(vU ((K3 s x.r).sn)),wl,(vU ((K3 s x.r).tn)),(vU ((K3 s x.r).prev)),wq]) E kR Ce E (D4 [] [vi,vw,p0,r0,u0,(vU x.he.signed),.bool x.he.has,(vU x.he.once),.bool x.tell,wo,wt,wr,wk,(vU ((K3 s x.r).sn)),wl,(vU ((K3 s x.r).tn)),(vU ((K3 s x.r).prev)),wq] [])) ?_;refine I8 hs E hKs (F2 (n:=16) (vs:=[.int .i64 fu,.int .i64 fd,.int .i64 tu,.int .i64 td,uid,.bool x.tell,p0,r0,u0,(vU x.he.signed),.bool x.he.has,(vU x.he.once),hk_,(vU x.r.prev),(vU x.r.sn),u42]) E kR Ce E (D4 [] [.int .i64 fu,.int .i64 fd,.int .i64 tu,.int .i64 td,uid,.bool x.tell,p0,r0,u0,(vU x.he.signed),.bool x.he.has,(vU x.he.once),hk_,(vU x.r.prev),(vU x.r.sn),u42] [])) ?_
 refine G8 [(b10,blk Ze 49)] _ E E qP (λx hx=>hKm x hx) λw0=>(A5 (vs:=[vi,vw,p0,r0,u0,(vU x.he.signed),.bool x.he.has,(vU x.he.once),.bool x.tell,wo,wt,wr,wk,(vU ((K3 s x.r).sn)),wl,(vU ((K3 s x.r).tn)),(vU ((K3 s x.r).prev)),wq]) E E E kR qR (A7 hx.id.one (A7 hx.wi.one (A7 hx.he.ia.one (A7 hx.he.ig.one (A7 hx.he.key.one (A7 E (A7 E (A7 E (A7 E (A7 hn1.own.one (A7 hn1.their.one (A7 hn1.root.one (A7 hn1.sk.one (A7 E (A7 hn1.tk.one (A7 E (A7 E (A7 hn1.st.one K5)))))))))))))))))) Cv ?_)
 intro _;dsimp only [Cy,Cw,List.append_eq];refine K6 E E E (A5 (vs:=[.int .i64 fu,.int .i64 fd,.int .i64 tu,.int .i64 td,uid,.bool x.tell,p0,r0,u0,(vU x.he.signed),.bool x.he.has,(vU x.he.once),hk_,(vU x.r.prev),(vU x.r.sn),u42]) E E E kR qR (A7 E (A7 E (A7 E (A7 E (A7 h22.one (A7 E (A7 hx.he.ia.one (A7 hx.he.ig.one (A7 hx.he.key.one (A7 E (A7 E (A7 E (A7 h29.one (A7 E (A7 E (A7 h30.one K5)))))))))))))))) Cv ?_);refine kQ_ E (G2 E) (I0 (D5 10 11 12) (A9 ?_));exact ⟨_,B39,[],B9r (n1:=18) (n2:=16) E E E E kR kR Ce Ce qR qR,Ci (Ch qP),wo,wt,wr,wk,wl,wq,uid,hk_,u42,E,hP27,⟨hx.id.mono qS,hx.wi.mono qS,hx.he.mono qS,hx.hil,hn1.mono qS⟩,⟨h22.mono qS,hx.he.mono qS,hx.hil,h29.mono qS,h30.mono qS,hx.r.prev,hx.r.sn⟩⟩
set_option maxHeartbeats 1000000 in
theorem C1Q(pb:Nat)(s:Ps)(x:Ses)(vi vw p0 r0 u0 vo vt vr vk0 vl vst vx:Value)(fu fd tu td:Int)(tx:LN)(MP A:Mem)(hP:Prm pb s MP)(hn:s.ts.length+200<=1000000)(hx:SeR A x vi vw p0 r0 u0 vo vt vr vk0 vl vst)(htell:x.tell=false)(hsk:0<x.r.sk.length)(hwi:x.wi.length<=1000000)(hel:x.id.length+he0.ia.length+he0.ig.length+he0.key.length<=1000000)(hfl:(x.wi++frW [] (A1N x he0 fu fd tu td)).length<=1000000)(htx:By A vx tx)(hxl:tx.length<=1000000)(hG:Glb A):FnX prog 8 [(vP pb),.agg (seC vi vw p0 r0 u0 vo vt vr vk0 vl vst x).toArray,.agg #[.int .i64 fu,.int .i64 fd],.agg #[.int .i64 tu,.int .i64 td],vx] MP A λq M J=>∃wo wt wr wk wl wq vid q2 q3,q=.tuple #[.agg (seC vi vw p0 r0 u0 wo wt wr wk wl wq (W9 x (K3 s x.r))).toArray,.agg (evC vid (vS) (vS) (vS) q2 q3 ⟨fu,fd,tu,td,x.id,x.tell,he0,I5 s x.r.own,x.r.prev,x.r.sn,A3b s x.r (x.wi++frW [] (A1N x he0 fu fd tu td)) tx⟩).toArray,U7]∧Prm pb (W5 s x.r (x.wi++frW [] (A1N x he0 fu fd tu td)) tx) M∧SeR (J++A) (W9 x (K3 s x.r)) vi vw p0 r0 u0 wo wt wr wk wl wq∧EvR (J++A) (⟨fu,fd,tu,td,x.id,x.tell,he0,I5 s x.r.own,x.r.prev,x.r.sn,A3b s x.r (x.wi++frW [] (A1N x he0 fu fd tu td)) tx⟩:Ev) vid (vS) (vS) (vS) q2 q3:=by
 haveI:=hx.id.cel;haveI:=hx.wi.cel;haveI:=hx.he.ia.cel;haveI:=hx.he.ig.cel;haveI:=hx.he.key.cel;haveI:=hx.r.own.cel;haveI:=hx.r.their.cel;haveI:=hx.r.root.cel;haveI:=hx.r.sk.cel;haveI:=hx.r.tk.cel;haveI:=hx.r.st.cel;haveI:=htx.cel;unfold seC;refine Co (N:=57) func8 E E E λw_=>?_;refine A8 (E9 0 1 2 3 4) (A1 ?_);refine A2 E (bx_ λb6=>?_);refine A2 E (bx_ λb7=>?_);refine A2 E (bx_ λb8=>?_);refine A2 E (C3 (cs:=[vS,vS,vS,vS,vS,D3,.bool false,D3,.bool false,vS,vS,vS,vS,D3,vS,D3,D3,.pointer none]) kR E λb10=>?_);refine A2 E (C3 (cs:=[U7,U7,U7,U7,vS,.bool false,vS,vS,vS,D3,.bool false,D3,vS,D3,D3,vS]) kR E λb11=>?_);refine as_ (A0 (N1 0 4 6 7 8 10 11) ?_);refine F9 ([]) (_) true (.range 9) [(0,1),(1,1),(2,0),(3,1),(5,0),(6,1),(4,3),(7,3),(8,4),(9,2)] kR kR qP λhs K n0 hKm hKs hKn=>?_;refine I8 hs E hKs (F2 (n:=2) (vs:=[.int .i64 fu,.int .i64 fd]) E kR Ce E (D4 [] [.int .i64 fu,.int .i64 fd] [])) ?_;refine I8 hs E hKs (F2 (n:=2) (vs:=[.int .i64 tu,.int .i64 td]) E kR Ce E (D4 [] [.int .i64 tu,.int .i64 td] [])) ?_;refine kQ_ E (qf_ 0 0) ?_;refine I8 hs E hKs ql_ ?_;refine kQ_ E (qf_ 8 8) ?_;refine I8 hs E hKs ql_ ?_
 refine A03 [⟨4,22,none,[],λv B R=>B=[]∧By R v x.id⟩,⟨7,25,none,[],λv B R=>B=[]∧∃w0,v=.agg #[.int .i64 fu,.int .i64 fd,.int .i64 tu,.int .i64 td,w0,.bool x.tell,vS,vS,vS,D3,.bool false,D3,vS,D3,D3,vS]∧By R w0 x.id⟩,⟨8,13,none,[],λv B _=>∃b,v=(vP b)∧B=[(b,blk Zf 57)]⟩] ([(b11,blk Zf 57),(b10,blk Ze 49),(b8,blk [.int .i64 tu,.int .i64 td] 28),(b7,blk [.int .i64 fu,.int .i64 fd] 28),(b6,blk (Zc vi vw p0 r0 u0 vo vt vr vk0 vl vst x) 49)]++MP) (λbs=>[bs 4,bs 7,bs 8]) (hKn E) (by simp [X6,A1e]) gk0 kR (λ_=>by first|rfl|kernel_rfl)
  (A7 (λ_ _ _ _ h hp=>⟨hp.1,hp.2.mono h⟩) (A7 (λ_ _ _ _ h hp=>(let ⟨e0,w0,e1,e2⟩:=hp;⟨e0,w0,e1,e2.mono h⟩)) (A7 gM (K5)))) nd_ nd_ dl_
  (gC ?_ (gC ?_ (gC ?_ (K5)))) ?_
 . intro _ _ _ Rj _ _ hj hjr _;dsimp only [Gc.inp];refine D9 (aS E a0) kR (Cl (A:=Rj) (λx hx=>by have:=hjr x hx;simp [this]) (P8 vi x.id Rj (hx.id.mono (λx hx=>hj x (qS x hx))))) E ?_;rintro r M1 J1 ⟨rfl,hh_⟩;exact ⟨_,E,E,hh_.mono λz hz=>by simp [hz]⟩
 . intro _ _ _ _ _ _ _ _ ha;dsimp only [Gc.inp];have g4:=gx 0 ha;dsimp only at g4;obtain ⟨-,h4⟩:=g4;haveI:=h4.cel;exact Cp (E6 (place:=λx=>#[(0,2),(2,2),(4,1),(5,1),(6,6),(12,3),(15,1)][x]?) (z:=[U7,U7,U7,U7,vS,.bool false,vS,vS,vS,D3,.bool false,D3,vS,D3,D3,vS]) (λ_=>by kernel_rfl) (eS E (eS E (eS E (eS E e0)))) (bdS 0 2 E qR (bdS 2 2 E qR (bdS 4 1 E qR (bdS 5 1 E qR bd0))))) E ⟨_,E,E,_,E,h4⟩
 .
  intros
  dsimp only [Gc.inp]
  exact C3 (cs:=[U7,U7,U7,U7,vS,.bool false,vS,vS,vS,D3,.bool false,D3,vS,D3,D3,vS]) kR E λb=>⟨_,E,b,E,E⟩
 intro vs bs Jn0 hφ hKK;clear hKK;have g4:=gy 0 hφ;have g7:=gy 1 hφ;have g8:=gy 2 hφ;dsimp only at g4 g7 g8;clear hφ;dsimp only [Q9,X6,List.foldr,List.map,Cy,Cw];generalize bs 4=B22,bs 7=B25,bs 8=B13,vs 4=u22,vs 7=u25,vs 8=u13 at *;obtain ⟨rfl,-⟩:=g4;obtain ⟨rfl,uid,rfl,h22⟩:=g7;obtain ⟨b13,rfl,rfl⟩:=g8;haveI:=h22.cel;dsimp only [List.append_eq,Cw,Cy];refine K6 E E E (A5 (vs:=[.int .i64 fu,.int .i64 fd,.int .i64 tu,.int .i64 td,uid,.bool x.tell,vS,vS,vS,D3,.bool false,D3,vS,D3,D3,vS]) E E E kR qR (A7 E (A7 E (A7 E (A7 E (A7 h22.one (A7 E al10)))))) Cv ?_);refine I0 (G9 0 4 6 10 11 13) (A3 (A1 (lQ_ (qf_ 8 8) ?_)));refine lQ_ ql_ ?_;refine A0 (N1 0 4 6 10 11 13 27) ?_;refine C7 (by rw [<- htell];rfl) ?_;refine A4 (nx (G9 0 4 6 10 11 13) ?_)
 have hEv:EvR _ (A1N x he0 fu fd tu td) uid (vS) (vS) (vS) (vS) (vS):=⟨h22,B8f,(show 0<=1000000 by decide),By.nil,By.nil,(show 0<4294967296 by decide),(show 0<4294967296 by decide)⟩
 refine F9 (MP) (_) true [0,1,2,3,4,5,6,7,8,9,10,11,12,13,14,17,18] [(0,0),(1,0),(2,1),(3,1),(4,1),(6,0),(5,8),(7,8),(8,8),(9,8),(13,8),(14,8),(10,9),(11,9),(12,10),(15,2),(16,2),(17,0),(18,0)] kR kR qP λhs K n0 hKm hKs hKn=>?_;refine kM_ E E (kQ_ E (qf_ 9 9) ?_);refine I8 hs E hKs (F2 (n:=9) (vs:=(Za vo vt vr vk0 vl vst x.r)) E kR Ce E (D4 (Zb vi vw p0 r0 u0 x) (Za vo vt vr vk0 vl vst x.r) [])) ?_;refine I8 hs E hKs (F2 (n:=18) (vs:=(Zc vi vw p0 r0 u0 vo vt vr vk0 vl vst x)) E kR Ce E (D4 [] (Zc vi vw p0 r0 u0 vo vt vr vk0 vl vst x) [])) ?_;refine I8 hs E hKs (F2 (n:=16) (vs:=[.int .i64 fu,.int .i64 fd,.int .i64 tu,.int .i64 td,uid,.bool x.tell,vS,vS,vS,D3,.bool false,D3,vS,D3,D3,vS]) E kR Ce E (D4 [] [.int .i64 fu,.int .i64 fd,.int .i64 tu,.int .i64 td,uid,.bool x.tell,vS,vS,vS,D3,.bool false,D3,vS,D3,D3,vS] [])) ?_;refine km_ ?_
 refine A04 [⟨5,37,none,[],λv B R=>B=[]∧By R v (x.wi++frW [] (A1N x he0 fu fd tu td))⟩,⟨7,39,none,MP,λv B R=>∃q1 q2 q3,v=.tuple #[q1,.agg #[q2,(vU x.r.prev),(vU x.r.sn)],q3,U7]∧Prm pb (W5 s x.r (x.wi++frW [] (A1N x he0 fu fd tu td)) tx) B∧RsV R q1 (K3 s x.r)∧By R q2 (I5 s x.r.own)∧By R q3 (A3b s x.r (x.wi++frW [] (A1N x he0 fu fd tu td)) tx)⟩,⟨8,31,none,[],λv B R=>B=[]∧∃q1 q2 q3,v=.tuple #[q1,.agg #[q2,(vU x.r.prev),(vU x.r.sn)],q3,U7]∧RsV R q1 (K3 s x.r)∧By R q2 (I5 s x.r.own)∧By R q3 (A3b s x.r (x.wi++frW [] (A1N x he0 fu fd tu td)) tx)⟩,⟨9,40,none,[],λv B R=>B=[]∧RsV R v (K3 s x.r)⟩,⟨13,14,none,[],λv B _=>∃b,v=(vP b)∧B=[(b,blk [vS,vS,vS,vS,D3,vS,D3,D3,.pointer none] 47)]⟩,⟨14,15,none,[],λv B _=>∃b,v=(vP b)∧B=[(b,blk [vS,D3,D3] 55)]⟩] [⟨10,41,none,[],λv B R=>B=[]∧∃q2,v=.agg #[q2,(vU x.r.prev),(vU x.r.sn)]∧By R q2 (I5 s x.r.own)⟩,⟨11,42,none,[],λv B R=>B=[]∧By R v (A3b s x.r (x.wi++frW [] (A1N x he0 fu fd tu td)) tx)⟩,⟨12,43,none,[],λv B R=>B=[]∧v=.int .i64 0⟩] ([(b13,blk [.int .i64 fu,.int .i64 fd,.int .i64 tu,.int .i64 td,uid,.bool x.tell,vS,vS,vS,D3,.bool false,D3,vS,D3,D3,vS] 57),(b11,blk Zf 57),(b10,blk Ze 49),(b8,blk [.int .i64 tu,.int .i64 td] 28),(b7,blk [.int .i64 fu,.int .i64 fd] 28),(b6,blk (Zc vi vw p0 r0 u0 vo vt vr vk0 vl vst x) 49)]) (λbs=>[bs 5,bs 7,bs 8,bs 9,bs 13,bs 14,bs 10,bs 11,bs 12]) (hKn E) (by simp [X6,A1e]) (show ∀m∈([[],MP,[],[],[],[],[],[],[]]:List Mem),∀x∈m,K x.1 from A7 gn0 (A7 (hKm) (A7 gn0 (A7 gn0 (A7 gn0 (A7 gn0 (A7 gn0 (A7 gn0 (A7 gn0 (K5)))))))))) kR (λ_=>by first|rfl|kernel_rfl)
  (A7 (λ_ _ _ _ h hp=>⟨hp.1,hp.2.mono h⟩) (A7 (λ_ _ _ _ h ⟨q1,q2,q3,e,p1,p2,p3,p4⟩=>⟨q1,q2,q3,e,p1,p2.mono h,p3.mono h,p4.mono h⟩) (A7 (λ_ _ _ _ h ⟨e0,q1,q2,q3,e,p2,p3,p4⟩=>⟨e0,q1,q2,q3,e,p2.mono h,p3.mono h,p4.mono h⟩) (A7 (λ_ _ _ _ h hp=>⟨hp.1,hp.2.mono h⟩) (A7 gM (A7 gM (A7 (λ_ _ _ _ h ⟨e0,q,e,p⟩=>⟨e0,q,e,p.mono h⟩) (A7 (λ_ _ _ _ h hp=>⟨hp.1,hp.2.mono h⟩) (A7 gM (K5)))))))))) nd_ nd_ dl_
  hs (List.cons_ne_nil _ _) (gC ?_ (gC ?_ (gC ?_ (gC ?_ (gC ?_ (gC ?_ (K5))))))) (A7 ⟨E,E,_,_,_,_,E,λvs bs Rj hj ha=>?_⟩ (A7 ⟨E,E,_,_,_,_,E,λvs bs Rj hj ha=>?_⟩ (A7 ⟨E,E,_,_,_,_,E,λvs bs Rj hj ha=>?_⟩ (K5)))) ?_
 . intro _ _ _ Rj _ _ hj hjr _;dsimp only [Gc.inp];refine D9 (aS E (aS E a0)) kR (Cl (A:=Rj) (λx hx=>by have:=hjr x hx;simp [this]) (A7c x vi vw p0 r0 u0 vo vt vr vk0 vl vst (A1N x he0 fu fd tu td) uid (vS) (vS) (vS) (vS) (vS) Rj (hx.mono (λx hx=>hj x (qS x hx))) (hEv.mono (λx hx=>hj x (qS x hx))) hwi hel)) E ?_;rintro r M1 J1 ⟨rfl,hh_⟩;exact ⟨_,E,E,hh_.mono λz hz=>by simp [hz]⟩
 . intro _ _ R Rj _ _ hj hjr ha;dsimp only [Gc.inp];have g5:=gx 0 ha;dsimp only at g5;obtain ⟨-,h5⟩:=g5;haveI:=h5.cel;refine C8 (Mc:=MP) (R:=[]) (aS E (aS E (aS E (aS E (a0))))) kR qM (Cl (A:=Rj) (λx hx=>by have:=hjr x hx;simp [this]) (B5t pb s x.r vo vt vr vk0 vl vst _ vx (x.wi++frW [] (A1N x he0 fu fd tu td)) tx MP Rj hP qO (hx.r.mono (λx hx=>hj x (qS x hx))) hsk h5 hfl (htx.mono (λx hx=>hj x (qS x hx))) hxl (hG.sub (λx hx=>hj x (qS x hx))))) E ?_;rintro v25 M25 J25 ⟨q1,q2,q3,rfl,hP25,p2,p3,p4⟩;exact ⟨_,E,q1,q2,q3,E,by simpa using hP25,p2.mono (λx hx=>by simpa using hx),p3.mono (λx hx=>by simpa using hx),p4.mono (λx hx=>by simpa using hx)⟩
 . intro _ _ _ _ _ _ _ _ ha;dsimp only [Gc.inp];have g7:=gx 1 ha;dsimp only at g7;obtain ⟨q1,q2,q3,e,-,k⟩:=g7;exact Cp qm_ E ⟨_,E,E,q1,q2,q3,e,k⟩
 . intro vs bs _ _ _ _ _ _ ha;dsimp only [Gc.inp];have g8:=gx 2 ha;dsimp only at g8;obtain ⟨-,q1,q2,q3,e,k,-⟩:=g8;exact Cp (I3 (vs:=#[q1,.agg #[q2,(vU x.r.prev),(vU x.r.sn)],q3,U7]) (by rw [<- e];rfl) E) E ⟨_,E,E,k⟩
 .
  intros
  dsimp only [Gc.inp]
  exact C3 (cs:=[vS,vS,vS,vS,D3,vS,D3,D3,.pointer none]) kR E λb=>⟨_,E,b,E,E⟩
 .
  intros
  dsimp only [Gc.inp]
  exact C3 (cs:=[vS,D3,D3]) kR E λb=>⟨_,E,b,E,E⟩
 . have g8:=gx 2 ha;dsimp only at g8;obtain ⟨-,q1,q2,q3,e,-,k,-⟩:=g8;exact ⟨_,I3 (vs:=#[q1,.agg #[q2,(vU x.r.prev),(vU x.r.sn)],q3,U7]) (by rw [<- e];rfl) E,E,q2,E,k⟩
 . have g8:=gx 2 ha;dsimp only at g8;obtain ⟨-,q1,q2,q3,e,-,-,k⟩:=g8;exact ⟨_,I3 (vs:=#[q1,.agg #[q2,(vU x.r.prev),(vU x.r.sn)],q3,U7]) (by rw [<- e];rfl) E,E,k⟩
 . have g8:=gx 2 ha;dsimp only at g8;obtain ⟨-,q1,q2,q3,e,-⟩:=g8;exact ⟨_,I3 (vs:=#[q1,.agg #[q2,(vU x.r.prev),(vU x.r.sn)],q3,U7]) (by rw [<- e];rfl) E,E,E⟩
 intro vs bs Jn0 hφ hKK;clear hKK;have g5:=gy 0 hφ;have g7:=gy 1 hφ;have g8:=gy 2 hφ;have g9:=gy 3 hφ;have g13:=gy 4 hφ;have g14:=gy 5 hφ;have g10:=gy 6 hφ;have g11:=gy 7 hφ;have g12:=gy 8 hφ;dsimp only at g5 g7 g8 g9 g13 g14 g10 g11 g12;clear hφ;dsimp only [Q9,X6,List.foldr,List.map,Cy,Cw];generalize bs 5=B37,bs 7=B39,bs 8=B31,bs 9=B40,bs 13=B14,bs 14=B15,bs 10=B41,bs 11=B42,bs 12=B43,vs 5=u37,vs 7=u39,vs 8=u31,vs 9=u40,vs 13=u14,vs 14=u15,vs 10=u41,vs 11=u42,vs 12=u43 at *;obtain ⟨-,-,-,-,hP27,-⟩:=g7;clear g8;obtain ⟨rfl,h5⟩:=g5;obtain ⟨rfl,wo,wt,wr,wk,wl,wq,rfl,hn1⟩:=g9;obtain ⟨rfl,hk_,rfl,h29⟩:=g10;obtain ⟨rfl,h30⟩:=g11;obtain ⟨rfl,rfl⟩:=g12;obtain ⟨b14,rfl,rfl⟩:=g13;obtain ⟨b15,rfl,rfl⟩:=g14;haveI:=hn1.own.cel;haveI:=hn1.their.cel;haveI:=hn1.root.cel;haveI:=hn1.sk.cel;haveI:=hn1.tk.cel;haveI:=hn1.st.cel;haveI:=h29.cel;haveI:=h30.cel;unfold rsC;refine K6 E E E (A5 (vs:=(Za wo wt wr wk wl wq (K3 s x.r))) E E E kR qR (A7 hn1.own.one (A7 hn1.their.one (A7 hn1.root.one (A7 hn1.sk.one (A7 E (A7 hn1.tk.one (A7 E (A7 E (A7 hn1.st.one K5))))))))) Cv ?_);refine K6 E E E (A5 (vs:=[hk_,(vU x.r.prev),(vU x.r.sn)]) E E E kR qR (A7 h29.one al2) Cv ?_);refine kQ_ E (G2 E) (kQ_ E (G2 E) (I0 (V4 6 10 11 13 14 15 16 17) (A3 (A1 (mV_ E (lQ_ (F6 false E E (neF E)) (A0 (Q4 6 10 11 13 14 15 16 17 45) ?_)))))));refine C7 E ?_;refine A4 (nx (N1 6 10 11 13 14 15 16) ?_);refine F9 ([(b6,blk (Zc vi vw p0 r0 u0 vo vt vr vk0 vl vst x) 49)]) (_) true [0,1,2,3,4,5,7] (zp 0 [1,1,0,0,2,0,2,0,2]) kR kR qP λhs K n0 hKm hKs hKn=>?_;refine I8 hs E hKs (F2 (n:=9) (vs:=(Za wo wt wr wk wl wq (K3 s x.r))) E kR Ce E (D4 [] (Za wo wt wr wk wl wq (K3 s x.r)) [])) ?_;refine I8 hs E hKs (F2 (n:=3) (vs:=[hk_,(vU x.r.prev),(vU x.r.sn)]) E kR Ce E (D4 [] [hk_,(vU x.r.prev),(vU x.r.sn)] [])) ?_;refine kM_ E E (kQ_ E (qf_ 9 9) ?_)
 refine G8 [(b6,blk (Zc vi vw p0 r0 u0 vo vt vr vk0 vl vst x) 49)] _ E E qP (λx hx=>hKm x hx) λw0=>(P1 (vs:=(Za wo wt wr wk wl wq (K3 s x.r))) (cs':=[vi,vw,p0,r0,u0,(vU x.he.signed),.bool x.he.has,(vU x.he.once),.bool x.tell,wo,wt,wr,wk,(vU ((K3 s x.r).sn)),wl,(vU ((K3 s x.r).tn)),(vU ((K3 s x.r).prev)),wq]) E E E kR (by exact (show 9+9<=18 by decide)) (A7 hn1.own.one (A7 hn1.their.one (A7 hn1.root.one (A7 hn1.sk.one (A7 E (A7 hn1.tk.one (A7 E (A7 E (A7 hn1.st.one K5))))))))) E Cv ?_)
 intro _;dsimp only [Cy,Cw,List.append_eq];refine kQ_ E (qf_ 12 12) ?_;refine K6 E E E (P1 (vs:=[hk_,(vU x.r.prev),(vU x.r.sn)]) (cs':=[.int .i64 fu,.int .i64 fd,.int .i64 tu,.int .i64 td,uid,.bool x.tell,vS,vS,vS,D3,.bool false,D3,hk_,(vU x.r.prev),(vU x.r.sn),vS]) E E E kR (by exact (show 12+3<=16 by decide)) (A7 h29.one al2) E Cv ?_);refine kQ_ E (qf_ 15 15) ?_;refine K6 E E E (E1 E E h30.one kR Ct Cv ?_);refine I0 (D7 6 10 11 13) ?_;refine F9 ([(b10,blk Ze 49)]) (_) true [0,1,2,4] (zp 0 [1,1,2,2,0]) kR kR qP λhs K n0 hKm hKs hKn=>?_;refine I8 hs E hKs (F2 (n:=18) (vs:=[vi,vw,p0,r0,u0,(vU x.he.signed),.bool x.he.has,(vU x.he.once),.bool x.tell,wo,wt,wr,wk,(vU ((K3 s x.r).sn)),wl,(vU ((K3 s x.r).tn)),(vU ((K3 s x.r).prev)),wq]) E kR Ce E (D4 [] [vi,vw,p0,r0,u0,(vU x.he.signed),.bool x.he.has,(vU x.he.once),.bool x.tell,wo,wt,wr,wk,(vU ((K3 s x.r).sn)),wl,(vU ((K3 s x.r).tn)),(vU ((K3 s x.r).prev)),wq] [])) ?_;refine I8 hs E hKs (F2 (n:=16) (vs:=[.int .i64 fu,.int .i64 fd,.int .i64 tu,.int .i64 td,uid,.bool x.tell,vS,vS,vS,D3,.bool false,D3,hk_,(vU x.r.prev),(vU x.r.sn),u42]) E kR Ce E (D4 [] [.int .i64 fu,.int .i64 fd,.int .i64 tu,.int .i64 td,uid,.bool x.tell,vS,vS,vS,D3,.bool false,D3,hk_,(vU x.r.prev),(vU x.r.sn),u42] [])) ?_
 refine G8 [(b10,blk Ze 49)] _ E E qP (λx hx=>hKm x hx) λw0=>(A5 (vs:=[vi,vw,p0,r0,u0,(vU x.he.signed),.bool x.he.has,(vU x.he.once),.bool x.tell,wo,wt,wr,wk,(vU ((K3 s x.r).sn)),wl,(vU ((K3 s x.r).tn)),(vU ((K3 s x.r).prev)),wq]) E E E kR qR (A7 hx.id.one (A7 hx.wi.one (A7 hx.he.ia.one (A7 hx.he.ig.one (A7 hx.he.key.one (A7 E (A7 E (A7 E (A7 E (A7 hn1.own.one (A7 hn1.their.one (A7 hn1.root.one (A7 hn1.sk.one (A7 E (A7 hn1.tk.one (A7 E (A7 E (A7 hn1.st.one K5)))))))))))))))))) Cv ?_)
 intro _;dsimp only [Cy,Cw,List.append_eq];refine K6 E E E (A5 (vs:=[.int .i64 fu,.int .i64 fd,.int .i64 tu,.int .i64 td,uid,.bool x.tell,vS,vS,vS,D3,.bool false,D3,hk_,(vU x.r.prev),(vU x.r.sn),u42]) E E E kR qR (A7 E (A7 E (A7 E (A7 E (A7 h22.one (A7 E (A7 E (A7 E (A7 E (A7 E (A7 E (A7 E (A7 h29.one (A7 E (A7 E (A7 h30.one K5)))))))))))))))) Cv ?_);refine kQ_ E (G2 E) (I0 (D5 10 11 12) (A9 ?_));exact ⟨_,B39,[],B9r (n1:=18) (n2:=16) E E E E kR kR Ce Ce qR qR,Ci (Ch qP),wo,wt,wr,wk,wl,wq,uid,hk_,u42,E,hP27,⟨hx.id.mono qS,hx.wi.mono qS,hx.he.mono qS,hx.hil,hn1.mono qS⟩,⟨h22.mono qS,B8f,(show 0<=1000000 by decide),h29.mono qS,h30.mono qS,hx.r.prev,hx.r.sn⟩⟩

def sB(k:Ks)(b:Bn)(s:Ps):Ps:=idS k (stS k b s)
def sWi(k:Ks)(b:Bn)(s:Ps):LN:=B1h k.user k.dev (idA k (stS k b s)) (idG k (stS k b s)) b.user b.dev b.ia b.ig
def sNm(k:Ks)(b:Bn)(s:Ps):List (LN):=[B9p,sWi k b s,heW [] (stH k b s)]
def sC(k:Ks)(b:Bn)(s:Ps):Ps:=A2s (sB k b s) (sNm k b s)
def sD(k:Ks)(b:Bn)(s:Ps):Ps:=C5x (sC k b s) (stK k b s) b.key
def sX(k:Ks)(b:Bn)(s:Ps):Ses:=⟨A3q (sB k b s) (sNm k b s),sWi k b s,stH k b s,true,C1i (sC k b s) (stK k b s) b.key⟩
structure StH(k:Ks)(b:Bn)(s:Ps):Prop where
  a:(stS k b s).ts.length<=900000
  n:(stS k b s).n<900000000
  ia:(stH k b s).ia.length<=100000
  ig:(stH k b s).ig.length<=100000
  key:(stH k b s).key.length<=100000
  l:(idA k (stS k b s)).length+(idG k (stS k b s)).length+b.ia.length+b.ig.length<=1000000
theorem B5G(s:Ps)(ws:List (LN)):(A2s s ws).ts.length<=s.ts.length+1:=by unfold A2s;split;exact Nat.le_succ _;exact A0T
theorem C5F(k:Ks)(s:Ps):(idS k s).n=s.n:=by unfold idS;rw [A3o,A3o]
theorem C1R(s:Ps)(ws:List (LN)):(A2s s ws).n=s.n:=by unfold A2s;split<;>rfl
theorem sC_n(k:Ks)(b:Bn)(s:Ps):(sC k b s).n=(stS k b s).n:=by unfold sC;rw [C1R];unfold sB;rw [C5F]
set_option maxHeartbeats 1000000 in
theorem B8g(pb:Nat)(s:Ps)(kb:Nat)(k:Ks)(va vg vq vo vm:Value)(rs ro rm:List (List Value))(b:Bn)(wa wg wk ws_ wo:Value)(MP A:Mem)(hK:KyR A kb k va vg vq vo vm rs ro rm)(hP:Prm pb s MP)(har:Ar s.ts)(hn:s.ts.length+1000<=1040000)(hk:s.n<1000000000)(ga:By A wa b.ia)(gg:By A wg b.ig)(gk:By A wk b.key)(gs:By A ws_ b.sig)(go:By A wo b.oncek)(hsn:b.signed<4294967296)(hon:b.once<4294967296)(hck:ckB s b=true)(hS:StH k b s)(hG:Glb A):FnX prog 7 [(vP pb),(vP kb),.agg #[.int .i64 b.user,.int .i64 b.dev,wa,wg,(vU b.signed),wk,ws_,.bool b.has,(vU b.once),wo]] MP A λq M J=>∃vi vw p r u xo xt xr xk xl xq,q=.tuple #[.agg (seC vi vw p r u xo xt xr xk xl xq (sX k b s)).toArray,U7]∧Prm pb (sD k b s) M∧SeR (J++A) (sX k b s) vi vw p r u xo xt xr xk xl xq:=by
 haveI:=ga.cel;haveI:=gg.cel;haveI:=gk.cel;haveI:=gs.cel;haveI:=go.cel;refine Co (N:=46) func7 E E E λw_=>?_;refine A8 (D5 0 1 2) (A1 ?_);refine A2 E (bx_ λb5=>?_);refine A2 E (C3 (cs:=[vS,vS,vS,vS,vS,D3,.bool false,D3,.bool false,vS,vS,vS,vS,D3,vS,D3,D3,.pointer none]) kR E λb6=>?_);refine aS_ E (A0 (D7 0 1 5 6) (A1 (mV_ E (mV_ E (lQ_ (F2 (n:=10) (vs:=[.int .i64 b.user,.int .i64 b.dev,wa,wg,(vU b.signed),wk,ws_,.bool b.has,(vU b.once),wo]) E kR Ce E (D4 [] [.int .i64 b.user,.int .i64 b.dev,wa,wg,(vU b.signed),wk,ws_,.bool b.has,(vU b.once),wo] [])) ?_)))));refine A2 E (C8 (Mc:=MP) (R:=_) (aS E (aS E (aS E (a0)))) kR qP (Cl qS (C1c pb s kb k va vg vq vo vm rs ro rm b wa wg wk ws_ wo MP A hK hP har hn hk ga gg gk gs go hsn hon hG)) E ?_);rintro v16 M16 J16 ⟨hs16,-⟩;obtain ⟨u16,p,r,u,rfl,hP16,hb16,hH⟩:=hs16 hck;haveI:=hb16.cel;haveI:=hH.ia.cel;haveI:=hH.ig.cel;haveI:=hH.key.cel
 have hig:=hH.ig.by (by have:=hS.ig;omega)
 unfold heC;have z1:=hS.a;have z2:=hS.ia;have z3:=hS.ig;have z4:=hS.key;have z5:=hS.l;have z6:=hS.n;refine mV_ E (lQ_ (A0x E) (lQ_ (A0n E) (lQ_ (B9U E) ?_)));refine A2 E (C3 (cs:=[vS,vS,vS,D3,.bool false,D3]) kR E λb9=>?_);refine as_ ?_;refine A2 E (A5 (vs:=[p,r,u,(vU ((stH k b s).signed)),.bool (stH k b s).has,(vU ((stH k b s).once))]) E E E kR qR (A7 hH.ia.one (A7 hH.ig.one (A7 hH.key.one al3))) Cv ?_);refine aS_ E (A0 (N1 0 1 5 6 8 9 10) (A3 (A1 (mV_ E (lQ_ (F6 false E E (neF E)) (A0 (V4 0 1 5 6 8 9 10 21) ?_))))));refine C7 E ?_;refine A4 (nx (G9 0 1 5 6 8 9) ?_);refine F9 (M16) (_) true (.range 11) [(0,0),(2,0),(3,0),(5,0),(6,1),(7,0),(8,1),(1,2),(4,2),(9,2),(10,0)] kR kR qP λhs K n0 hKm hKs hKn=>?_;refine kM_ E E (kM_ E E (kM_ E E (kQ_ E (qf_ 0 0) ?_)));refine I8 hs E hKs (F2 (n:=2) (vs:=[.int .i64 b.user,.int .i64 b.dev]) E kR Ce E (D4 [] [.int .i64 b.user,.int .i64 b.dev] [wa,wg,(vU b.signed),wk,ws_,.bool b.has,(vU b.once),wo])) ?_;refine kQ_ E (qf_ 2 2) ?_;refine I8 hs E hKs (F2 (n:=2) (vs:=[wa,wg]) E kR Ce E (D4 [.int .i64 b.user,.int .i64 b.dev] [wa,wg] [(vU b.signed),wk,ws_,.bool b.has,(vU b.once),wo])) ?_
 refine G8 [] _ rfl rfl (Ah _) (λ_ h=>by cases h) λw0=>(R8 (aS rfl a0) kR (C3x kb k va vg vq vo vm rs ro rm _ (hK.mono qS)) rfl λ_=>?_)
 dsimp only [Cw,List.append_eq]
 refine G8 _ _ E E (Ah _) hKm λw0=>(C8 (Mc:=M16) (R:=_) (aS E (aS E (a0))) kR qP (A60 pb (stS k b s) kb k va vg vq vo vm rs ro rm M16 _ (hK.mono qS) hP16 qO hG.up) E ?_)
 rintro v28 M28 J28 ⟨hP28,xa,xg,rfl,hxa,hxg⟩ hKx28;haveI:=hxa.cel;haveI:=hxg.cel;change Prm pb (sB k b s) M28 at hP28
 refine G8 [] _ rfl rfl (Ah _) (λ_ h=>by cases h) λw0=>(D9 (aS rfl (aS rfl (aS rfl (aS rfl a0)))) kR (B88 k.user k.dev b.user b.dev xa xg wa wg _ _ b.ia b.ig _ (hxa.mono qS) (hxg.mono qS) (ga.mono qS) (gg.mono qS) qO) rfl ?_)
 rintro v33 M33 J33 ⟨rfl,h33⟩ _;haveI:=h33.cel;change By _ v33 (sWi k b s) at h33;dsimp only [Cw,List.append_eq];refine kQ_ E (G2 E) (I0 (G9 0 5 6 8 9 11) ?_);have y1:=A4W k (stS k b s);change (sB k b s).ts.length<=_ at y1;have y2:=B5G (sB k b s) (sNm k b s);change (sC k b s).ts.length<=_ at y2;have y3:(sC k b s).n=(stS k b s).n:=sC_n k b s;refine F9 (M28) (_) true [0,1,2,3,4,5,6,7,8,9,10,11,13] [(0,0),(1,0),(2,1),(4,0),(5,1),(6,0),(7,0),(8,0),(9,1),(3,2),(10,2),(11,0),(12,2),(13,0)] kR kR qP λhs K n0 hKm hKs hKn=>?_;refine kM_ E E (km_ ?_);refine I8 hs E hKs (F2 (n:=6) (vs:=[p,r,u,(vU ((stH k b s).signed)),.bool (stH k b s).has,(vU ((stH k b s).once))]) E kR Ce E (D4 [] [p,r,u,(vU ((stH k b s).signed)),.bool (stH k b s).has,(vU ((stH k b s).once))] [])) ?_;refine km_ ?_;refine I8 hs E hKs (F2 (n:=6) (vs:=[p,r,u,(vU ((stH k b s).signed)),.bool (stH k b s).has,(vU ((stH k b s).once))]) E kR Ce E (D4 [] [p,r,u,(vU ((stH k b s).signed)),.bool (stH k b s).has,(vU ((stH k b s).once))] [])) ?_;refine kM_ E E (kM_ E E (kQ_ E (qf_ 5 5) ?_));refine I8 hs E hKs ql_ ?_
 refine G8 _ _ E E (Ah _) hKm λw0=>(C8 (Mc:=M28) (R:=_) (aS E (aS E (aS E (a0)))) kR qP (B9q pb (sB k b s) v33 (sWi k b s) (stH k b s) p r u M28 _ hP28 qO (h33.mono qS) (hH.mono qS) qO qO hG.up) E ?_)
 rintro v37 M37 J37 ⟨hP37,h37⟩ hKx37;haveI:=h37.cel;change Prm pb (sC k b s) M37 at hP37
 refine G8 M37 _ E E qP (λx hx=>hKx37 (hKn E) x (by simpa using hx)) λw0=>(C8 (Mc:=M37) (R:=_) (aS E (aS E (aS E (a0)))) kR qP (Cl qS (C1j pb (sC k b s) u16 wk (stK k b s) b.key M37 (J16++A) hP37 qO qO (hb16.mono qS) (gk.mono qS) (hG.sub qS))) E ?_)
 rintro v44 M44 J44 ⟨hP44,xo,xt,xr,xk,xl,xq,rfl,hr44⟩ hKx44;haveI:=hr44.own.cel;haveI:=hr44.their.cel;haveI:=hr44.root.cel;haveI:=hr44.sk.cel;haveI:=hr44.tk.cel;haveI:=hr44.st.cel;unfold rsC;refine kQ_ E (E6 (place:=λx=>#[(0,1),(1,1),(2,6),(8,1),(9,9)][x]?) (z:=[vS,vS,vS,vS,vS,D3,.bool false,D3,.bool false,vS,vS,vS,vS,D3,vS,D3,D3,.pointer none]) (λ_=>by kernel_rfl) (eS E (eS E (eS E (eS E (eS E e0))))) (bdS 0 1 E qR (bdS 1 1 E qR (bdS 2 6 E qR (bdS 8 1 E qR (bdS 9 9 E qR bd0)))))) ?_;refine K6 E E E (A5 (vs:=[v37,v33,p,r,u,(vU ((stH k b s).signed)),.bool (stH k b s).has,(vU ((stH k b s).once)),.bool true,xo,xt,xr,xk,(vU ((C1i (sC k b s) (stK k b s) b.key).sn)),xl,(vU ((C1i (sC k b s) (stK k b s) b.key).tn)),(vU ((C1i (sC k b s) (stK k b s) b.key).prev)),xq]) E E E kR qR (A7 h37.one (A7 h33.one (A7 hH.ia.one (A7 hH.ig.one (A7 hH.key.one (A7 E (A7 E (A7 E (A7 E (A7 hr44.own.one (A7 hr44.their.one (A7 hr44.root.one (A7 hr44.sk.one (A7 E (A7 hr44.tk.one (A7 E (A7 E (A7 hr44.st.one K5)))))))))))))))))) Cv ?_);refine kQ_ E (G2 E) (I0 (D0 6 7) (A9 ?_));exact ⟨_,M44,[],A0e (n:=18) E E E kR Ce qR,Ci (Ch qP),v37,v33,p,r,u,xo,xt,xr,xk,xl,xq,E,hP44,⟨h37.mono qS,h33.mono qS,hH.mono qS,by show (stH k b s).ig.length<=_;omega,hr44.mono qS⟩⟩

def aWi(k:Ks)(e:Ev)(s2:Ps):LN:=B1h e.fu e.fd e.he.ia e.he.ig k.user k.dev (idA k s2) (idG k s2)
def aNm(k:Ks)(e:Ev)(s2:Ps):List (LN):=[B9p,aWi k e s2,heW [] e.he]
def aC(k:Ks)(e:Ev)(s2:Ps):Ps:=A2s (idS k s2) (aNm k e s2)
def aX(k:Ks)(e:Ev)(s2:Ps)(sec own:LN):Ses:=⟨A3q (idS k s2) (aNm k e s2),aWi k e s2,he0,false,A14 sec own⟩
set_option maxHeartbeats 1000000 in
theorem B5H(pb:Nat)(s:Ps)(kb:Nat)(k:Ks)(va vg vq vo vm:Value)(rs ro rm:List (List Value))(e:Ev)(vz p r u vk vgg:Value)(sec own:LN)(s2:Ps)(MP A:Mem)(hK:KyR A kb k va vg vq vo vm rs ro rm)(hrise:C2k k.once)(hP:Prm pb s MP)(hn:s.ts.length+1000<=1040000)(he_:EvR A e vz p r u vk vgg)(hhas:e.has=true)(han:anR k e.he s=(some (sec,own),s2))(hn2:s2.ts.length<=900000)(hln:e.he.ia.length+e.he.ig.length+(idA k s2).length+(idG k s2).length<=1000000)(hel:e.he.ia.length+e.he.ig.length+e.he.key.length<=1000000)(hid:A3q (idS k s2) (aNm k e s2)=e.ses)(hG:Glb A):FnX prog 9 [(vP pb),(vP kb),.agg (evC vz p r u vk vgg e).toArray] MP A λq M J=>∃vi vw xo xt xr xk xl xq,q=.tuple #[.agg (seC vi vw (vS) (vS) (vS) xo xt xr xk xl xq (aX k e s2 sec own)).toArray,U7]∧Prm pb (aC k e s2) M∧SeR (J++A) (aX k e s2 sec own) vi vw (vS) (vS) (vS) xo xt xr xk xl xq:=by
 haveI:=he_.ses.cel;haveI:=he_.he.ia.cel;haveI:=he_.he.ig.cel;haveI:=he_.he.key.cel;haveI:=he_.hk.cel;haveI:=he_.g.cel;have hig:=he_.he.ig.by qO;unfold evC;refine Co (N:=59) func9 E E E λw_=>?_;refine A8 (D5 0 1 2) (A1 ?_);refine A2 E (bx_ λb5=>?_);refine A2 E (C3 (cs:=[vS,vS,vS,vS,vS,D3,.bool false,D3,.bool false,vS,vS,vS,vS,D3,vS,D3,D3,.pointer none]) kR E λb6=>?_);refine aS_ E (A0 (D7 0 1 5 6) (A3 (A1 (lQ_ (qf_ 5 5) ?_))));refine lQ_ ql_ ?_;refine lQ_ (V7 E) (A0 (E9 0 1 5 6 15) ?_);refine C7 (by rw [show (false:Bool) = !e.has by rw [hhas];rfl];rfl) ?_;refine A4 (nx (D7 0 1 5 6) (A1 (mV_ E (mV_ E (lQ_ (qf_ 6 6) (lQ_ (F2 (n:=6) (vs:=[p,r,u,(vU e.he.signed),.bool e.he.has,(vU e.he.once)]) E kR Ce E (D4 [.int .i64 e.fu,.int .i64 e.fd,.int .i64 e.tu,.int .i64 e.td,vz,.bool e.has] [p,r,u,(vU e.he.signed),.bool e.he.has,(vU e.he.once)] [vk,(vU e.hp),(vU e.hn),vgg])) ?_))))));refine A2 E (C8 (Mc:=MP) (R:=_) (aS E (aS E (aS E (a0)))) kR qP (Cl qS (B7S pb s kb k va vg vq vo vm rs ro rm e.he p r u MP A hK hrise hP hn he_.he hG)) E ?_);rintro v22 M22 J22 ⟨u1,u2,rfl,hP22,h1,h2⟩;rw [han] at hP22 h1 h2 ⊢;change Prm pb s2 M22 at hP22;change By _ u1 sec at h1;change By _ u2 own at h2;haveI:=h1.cel;haveI:=h2.cel;rw [show (if ((some (sec,own),s2):Option (LN×LN)×Ps).1.isSome=true then (0:Int) else 9)=0 from rfl];refine mV_ E (lQ_ (A0x E) (lQ_ (A0n E) (lQ_ (B9U E) (aS_ E (aS_ E (aS_ E (A0 (N1 0 1 5 6 8 9 10) (A3 (A1 (mV_ E (lQ_ (F6 false E E (neF E)) (A0 (V4 0 1 5 6 8 9 10 27) ?_))))))))))));refine C7 E ?_;refine A4 (nx (G9 0 1 5 6 8 9) ?_);refine F9 (M22) (_) true (.range 12) [(0,0),(1,1),(2,0),(3,0),(4,1),(5,0),(7,0),(8,0),(6,2),(9,2),(10,2),(11,0)] kR kR qP λhs K n0 hKm hKs hKn=>?_;refine kQ_ E (qf_ 0 0) ?_;refine I8 hs E hKs (F2 (n:=2) (vs:=[.int .i64 e.fu,.int .i64 e.fd]) E kR Ce E (D4 [] [.int .i64 e.fu,.int .i64 e.fd] [.int .i64 e.tu,.int .i64 e.td,vz,.bool e.has,p,r,u,(vU e.he.signed),.bool e.he.has,(vU e.he.once),vk,(vU e.hp),(vU e.hn),vgg])) ?_;refine kQ_ E (qf_ 6 6) (kQ_ E (qf_ 6 0) ?_);refine I8 hs E hKs (F2 (n:=2) (vs:=[p,r]) E kR Ce E (D4 [.int .i64 e.fu,.int .i64 e.fd,.int .i64 e.tu,.int .i64 e.td,vz,.bool e.has] [p,r] [u,(vU e.he.signed),.bool e.he.has,(vU e.he.once),vk,(vU e.hp),(vU e.hn),vgg])) ?_;refine kM_ E E (kM_ E E (km_ ?_))
 refine G8 [] _ rfl rfl (Ah _) (λ_ h=>by cases h) λw0=>(R8 (aS rfl a0) kR (C3x kb k va vg vq vo vm rs ro rm _ (hK.mono qS)) rfl λ_=>?_)
 dsimp only [Cw,List.append_eq]
 refine G8 _ _ E E (Ah _) hKm λw0=>(C8 (Mc:=M22) (R:=_) (aS E (aS E (a0))) kR qP (A60 pb s2 kb k va vg vq vo vm rs ro rm M22 _ (hK.mono qS) hP22 qO hG.up) E ?_)
 rintro v39 M39 J39 ⟨hP39,xa,xg,rfl,hxa,hxg⟩ hKx39;haveI:=hxa.cel;haveI:=hxg.cel
 refine G8 [] _ rfl rfl (Ah _) (λ_ h=>by cases h) λw0=>(D9 (aS rfl (aS rfl (aS rfl (aS rfl a0)))) kR (B88 e.fu e.fd k.user k.dev p r xa xg _ _ _ _ _ (he_.he.ia.mono qS) (hig.mono qS) (hxa.mono qS) (hxg.mono qS) qO) rfl ?_)
 rintro v40 M40 J40 ⟨rfl,h40⟩ _;haveI:=h40.cel;change By _ v40 (aWi k e s2) at h40;dsimp only [Cw,List.append_eq];refine kQ_ E (G2 E) (I0 (G9 0 5 6 8 9 11) ?_);have y1:=A4W k s2;refine A1 (mV_ E (mV_ E (lQ_ (qf_ 6 6) (lQ_ (F2 (n:=6) (vs:=[p,r,u,(vU e.he.signed),.bool e.he.has,(vU e.he.once)]) E kR Ce E (D4 [.int .i64 e.fu,.int .i64 e.fd,.int .i64 e.tu,.int .i64 e.td,vz,.bool e.has] [p,r,u,(vU e.he.signed),.bool e.he.has,(vU e.he.once)] [vk,(vU e.hp),(vU e.hn),vgg])) ?_))));refine A2 E (C8 (Mc:=M39) (R:=_) (aS E (aS E (aS E (a0)))) kR qP (B9q pb (idS k s2) v40 (aWi k e s2) e.he p r u M39 _ hP39 qO (h40.mono qS) (he_.he.mono qS) qO qO hG.up) E ?_);rintro v45 M45 J45 ⟨hP45,h45⟩;haveI:=h45.cel;change Prm pb (aC k e s2) M45 at hP45;refine mv_ (mv_ (mv_ ?_));refine C6 (aS E (aS E a0)) kR (Cl qS (C1k u1 u2 sec own (J22++A) (h1.mono qS) (h2.mono qS))) E ?_;rintro v49 M49 J49 ⟨rfl,xo,xt,xr,xk,xl,xq,rfl,hr49⟩;haveI:=hr49.own.cel;haveI:=hr49.their.cel;haveI:=hr49.root.cel;haveI:=hr49.sk.cel;haveI:=hr49.tk.cel;haveI:=hr49.st.cel;unfold rsC;refine lQ_ (E6 (place:=λx=>#[(0,1),(1,1),(2,6),(8,1),(9,9)][x]?) (z:=[vS,vS,vS,vS,vS,D3,.bool false,D3,.bool false,vS,vS,vS,vS,D3,vS,D3,D3,.pointer none]) (λ_=>by kernel_rfl) (eS E (eS E (eS E e0))) (bdS 0 1 E qR (bdS 1 1 E qR (bdS 9 9 E qR bd0)))) ?_;refine A2 E (C3 (cs:=[vS,vS,vS,vS,vS,D3,.bool false,D3,.bool false,vS,vS,vS,vS,D3,vS,D3,D3,.pointer none]) kR E λb12=>?_);refine A2 E (A5 (vs:=[v45,v40,vS,vS,vS,D3,.bool false,D3,.bool false,xo,xt,xr,xk,(vU ((A14 sec own).sn)),xl,(vU ((A14 sec own).tn)),(vU ((A14 sec own).prev)),xq]) E E E kR qR (A7 h45.one (A7 h40.one (A7 E (A7 E (A7 E (A7 E (A7 E (A7 E (A7 E (A7 hr49.own.one (A7 hr49.their.one (A7 hr49.root.one (A7 hr49.sk.one (A7 E (A7 hr49.tk.one (A7 E (A7 E (A7 hr49.st.one K5)))))))))))))))))) Cv ?_);refine A0 (D5 5 6 12) (A3 (A1 (lQ_ (qf_ 0 0) ?_)));refine lQ_ ql_ ?_;refine lQ_ (qf_ 4 4) ?_;refine lQ_ ql_ ?_;refine D8 (aS E (aS E a0)) kR (A0F v45 vz (A3q (idS k s2) (aNm k e s2)) e.ses _ (h45.mono qS) (he_.ses.mono qS)) E ?_;rw [decide_eq_true hid];refine lQ_ (V7 E) (A0 (D5 6 12 56) ?_);refine C7 E ?_;refine A4 (nx (D0 6 12) (A1 (lQ_ (F2 (n:=18) (vs:=[v45,v40,vS,vS,vS,D3,.bool false,D3,.bool false,xo,xt,xr,xk,(vU ((A14 sec own).sn)),xl,(vU ((A14 sec own).tn)),(vU ((A14 sec own).prev)),xq]) E kR Ce E (D4 [] [v45,v40,vS,vS,vS,D3,.bool false,D3,.bool false,xo,xt,xr,xk,(vU ((A14 sec own).sn)),xl,(vU ((A14 sec own).tn)),(vU ((A14 sec own).prev)),xq] [])) ?_)));refine A2 E (A5 (vs:=[v45,v40,vS,vS,vS,D3,.bool false,D3,.bool false,xo,xt,xr,xk,(vU ((A14 sec own).sn)),xl,(vU ((A14 sec own).tn)),(vU ((A14 sec own).prev)),xq]) E E E kR qR (A7 h45.one (A7 h40.one (A7 E (A7 E (A7 E (A7 E (A7 E (A7 E (A7 E (A7 hr49.own.one (A7 hr49.their.one (A7 hr49.root.one (A7 hr49.sk.one (A7 E (A7 hr49.tk.one (A7 E (A7 E (A7 hr49.st.one K5)))))))))))))))))) Cv ?_);refine as_ (A0 (D0 6 7) (A9 ?_));exact ⟨_,M45,[],A0e (n:=18) E E E kR Ce qR,Ci (Ch qP),v45,v40,xo,xt,xr,xk,xl,xq,E,hP45,⟨h45.mono qS,h40.mono qS,B8f,(show 0<=1000000 by decide),hr49.mono qS⟩⟩

variable{α:Type}
def stF(u a b c d:Nat)(k:Nat->Nat->Nat->Nat->α):α :=
  L3 (Nat.mod (Nat.add a b) 57896044618658097711785492504343953926634992332820282019728792003956564819949) λp=>L3 (Nat.mod (Nat.sub (Nat.add a 57896044618658097711785492504343953926634992332820282019728792003956564819949) b) 57896044618658097711785492504343953926634992332820282019728792003956564819949) λq=>L3 (Nat.mod (Nat.mul p p) 57896044618658097711785492504343953926634992332820282019728792003956564819949) λss=>L3 (Nat.mod (Nat.mul q q) 57896044618658097711785492504343953926634992332820282019728792003956564819949) λtt =>
  L3 (Nat.mod (Nat.sub (Nat.add ss 57896044618658097711785492504343953926634992332820282019728792003956564819949) tt) 57896044618658097711785492504343953926634992332820282019728792003956564819949) λe=>L3 (Nat.mod (Nat.mul (Nat.mod (Nat.sub (Nat.add c 57896044618658097711785492504343953926634992332820282019728792003956564819949) d) 57896044618658097711785492504343953926634992332820282019728792003956564819949) p) 57896044618658097711785492504343953926634992332820282019728792003956564819949) λda=>L3 (Nat.mod (Nat.mul (Nat.mod (Nat.add c d) 57896044618658097711785492504343953926634992332820282019728792003956564819949) q) 57896044618658097711785492504343953926634992332820282019728792003956564819949) λcb =>
  L3 (Nat.mod (Nat.mul ss tt) 57896044618658097711785492504343953926634992332820282019728792003956564819949) λx=>L3 (Nat.mod (Nat.mul e (Nat.mod (Nat.add ss (Nat.mod (Nat.mul 121665 e) 57896044618658097711785492504343953926634992332820282019728792003956564819949)) 57896044618658097711785492504343953926634992332820282019728792003956564819949)) 57896044618658097711785492504343953926634992332820282019728792003956564819949) λy=>L3 (Nat.mod (Nat.add da cb) 57896044618658097711785492504343953926634992332820282019728792003956564819949) λs=>L3 (Nat.mod (Nat.sub (Nat.add da 57896044618658097711785492504343953926634992332820282019728792003956564819949) cb) 57896044618658097711785492504343953926634992332820282019728792003956564819949) λt =>
  L3 (Nat.mod (Nat.mul s s) 57896044618658097711785492504343953926634992332820282019728792003956564819949) λz=>L3 (Nat.mod (Nat.mul u (Nat.mod (Nat.mul t t) 57896044618658097711785492504343953926634992332820282019728792003956564819949)) 57896044618658097711785492504343953926634992332820282019728792003956564819949) λw=>k x y z w
theorem pLit:p25=57896044618658097711785492504343953926634992332820282019728792003956564819949:=by decide +kernel
theorem C31(u:Nat)(s:Lad)(k:Nat->Nat->Nat->Nat->α):stF u s.a s.b s.c s.d k=k (A77 u s).a (A77 u s).b (A77 u s).c (A77 u s).d:=by unfold stF A77 fM fA fS;simp only [U6,pLit];rfl
def swF(bt a b c d:Nat)(k:Nat->Nat->Nat->Nat->α):α:=Nat.rec (motive:=λ_=>α) (k a b c d) (λ_ _=>k c d a b) bt
theorem B9s(x:Nat)(s:Lad)(k:Nat->Nat->Nat->Nat->α):swF (x%2) s.a s.b s.c s.d k=(λt:Lad=>k t.a t.b t.c t.d) (swL (decide (x%2=1)) s):=by rcases Nat.mod_two_eq_zero_or_one x with h|h<;>rw [h]<;>rfl
def C4O(u n:Nat)(K:Nat->Nat->Nat->Nat->α)(m:Nat):Nat->Nat->Nat->Nat->α :=
  Nat.rec (motive:=λ_=>Nat->Nat->Nat->Nat->α) K (λi ih a b c d=>L3 (Nat.mod (Nat.shiftRight n i) 2) λbt=>swF bt a b c d λa b c d=>stF u a b c d λa b c d=>swF bt a b c d ih) m
theorem B5I{α:Type}(u n:Nat)(K:Nat->Nat->Nat->Nat->α):∀m,m<=255->C4O u n K m (A6Q u n (255-m)).a (A6Q u n (255-m)).b (A6Q u n (255-m)).c (A6Q u n (255-m)).d=K (A6Q u n 255).a (A6Q u n 255).b (A6Q u n 255).c (A6Q u n 255).d
  | 0,_=>rfl
  | m+1,h=>by
    have ih:=B5I u n K m qO;have hs:=A78 (u:=u) (n:=n) (i:=m) qO;generalize A6Q u n (255-(m+1))=s at *
    have e:Nat.mod (Nat.shiftRight n m) 2=n/2^m%2:=by show n >>> m%2=_;rw [Cb]
    show L3 (Nat.mod (Nat.shiftRight n m) 2) (λbt=>swF bt s.a s.b s.c s.d λa b c d=>stF u a b c d λa b c d=>swF bt a b c d (C4O u n K m))=_;rw [U6,e,B9s];dsimp only;rw [C31,B9s];dsimp only;rw [<- hs];exact ih
variable{x:Nat}
theorem B5J(h:x<p25):A07 8 32 x 255=P7 x 32:=by unfold A07 P7;apply Bv;intro j _;rw [prt,Af (Nat.lt_trans h qD),Nat.pow_mul]
def B1r:LN:=[111,108,100]
def dhG(k:LN)(u v:Nat):Bool:=L3 (bv (N9 k)) λn=>C4O u n (λa b _ _=>Nat.beq (Nat.mod (Nat.mul a (pm p25 256 b (p25-2) 1)) 57896044618658097711785492504343953926634992332820282019728792003956564819949) v) 255 1 0 u 1
variable{k p:LN}
theorem A8j{u v:Nat}(h:dhG k u v=true)(hp:rdN p=u):x25 k p=P7 v 32:=by unfold dhG at h;rw [U6] at h;have e:=B5I u (bv (N9 k)) (λa b _ _=>Nat.beq (Nat.mod (Nat.mul a (pm p25 256 b (p25-2) 1)) 57896044618658097711785492504343953926634992332820282019728792003956564819949) v) 255 (Av _);rw [Nat.sub_self] at e;rw [show C4O u (bv (N9 k)) (λa b _ _=>Nat.beq (Nat.mod (Nat.mul a (pm p25 256 b (p25-2) 1)) 57896044618658097711785492504343953926634992332820282019728792003956564819949) v) 255 1 0 u 1=_ from e] at h;have a1:=Nat.eq_of_beq_eq_true h;rw [<- pLit,<- A1K qD,<- A5p] at a1;change fM _ _=v at a1;unfold x25;rw [hp,a1,B5J (by rw [<- a1];exact Ad _ qD)]
def C2m(seed:LN)(i:Nat):LN:=A8W (A8W [] seed) (([107,101,121]++A9K i)++[1])
variable{seed w:LN}{i:Nat}
theorem A5c(h:C2m seed i=w):B2S seed i=w:=(B4q seed i).trans h
theorem C1S(x:Nat):H5 (P7 x 32) 32=P7 x 32:=A6U (L9 _ _)

variable{b:LN}{n:Nat}
theorem A8k{y:Nat}{odd:Bool}(hl:b.length=32)(hy:rdN b=y)(ho:decide (128<=b.getD 31 0)=odd)(hr:rtN (xxN y)=some n)(hx:atO (some n) odd=some x)(hb:pB (pAt x y)=b):U4 b=some (pAt x y):=by unfold U4;rw [if_pos hl,hy,ho,(B3G hr).trans hx];dsimp only;rw [if_pos hb]
variable{m:LN}{c:Nat}
theorem C5G{r:LN}{a:Nat}(h1:rB seed m=r)(h2:A8r seed=p)(h3:B09 seed=a)(h4:B8W seed m=n)(h5:A7j r p m=c):sN seed m=(c*a%lN+n)%lN:=by unfold sN;rw [h1,h2,h3,h4,h5]
theorem C32{r:LN}{s:Nat}(h1:rB seed m=r)(h2:sN seed m=s):B3U seed m=r++P7 s 32:=by unfold B3U;rw [h1,h2]
theorem C1T{r:LN}{s:Nat}{A R:Pt}(hr:r.length=32)(h1:U4 p=some A)(h2:U4 r=some R)(hs:bv (P7 s 32)%lN=s)(hc:A7j r p m=c)(h:B08 (tF s (pAt C3j C3k) 256 0 1 1 0) (A8q d2N R (tF c A 256 0 1 1 0))=true):A73 p m (r++P7 s 32)=true:=by
  have e1:(r++P7 s 32).take 32=r:=by rw [List.take_append_of_le_length qO,Aw qO]
  have e2:(r++P7 s 32).drop 32=P7 s 32:=by rw [List.drop_append,Bx qO,hr,Nat.sub_self,List.drop_zero,List.nil_append]
  rw [B80 (a:=A) (r:=R) (by rw [An,L9,hr]) h1 (by rw [e1];exact h2) (by rw [e2,hs]),e1,e2,hs,hc,A4S,A9X,A4S];exact h
def kAL:Nat:=97782144689402347349292143892231989749961763152721495634315209445894084717965
def hAL:Nat:=4085499159587276017659959311940396715911179426896422214923050391655655139584
def pAL:Nat:=5326283919663890579969323928239414028635690159271201792493806840552557758449
def aAL:Nat:=5631058235651177418630201344067801747377698653301453582046116874725142253043
def gAL:LN:=[60,154,168,185,22,128,78,238,187,197,182,199,214,160,84,68,108,65,154,62,238,129,168,249,241,113,159,7,190,109,236,52]
theorem C1U:(C2m B1r 2=P7 kAL 32∧C2m B1r 3=P7 hAL 32)∧dhG (P7 hAL 32) 9 pAL=true:=by decide +kernel
theorem kf_A:H5 (B2S B1r 2) 32=P7 kAL 32:=by rw [A5c C1U.1.1,C1S]
theorem pb_A:A1L (H5 (B2S B1r 3) 32)=P7 pAL 32:=by rw [A5c C1U.1.2,C1S];exact A8j C1U.2 (by decide +kernel)
theorem sc_A:B09 (P7 kAL 32)=aAL:=by unfold B09 B0H;rw [<- Q3,<- Q3];decide +kernel
theorem pu_A:A8r (P7 kAL 32)=gAL:=by unfold A8r;rw [sc_A,A9X,A4S];unfold pB;rw [A5p,A1K qD];decide +kernel
def kBL:Nat:=54046645614948252733349710012587438822206371828678471694013001192651346593909
def hBL:Nat:=42729459026137317379853395291484656376359077389438694238166093697699961795572
def pBL:Nat:=15359754571899104785023455833285613441988859313659204930061692122330415565580
def aBL:Nat:=1726120468567475255483730873316832271702388365847781995797862353858090905236
def nBL:Nat:=5135999927948727237076162953453578689300180964133013153513241545161805127144
def cBL:Nat:=3927360081127106177152020804608564680321059383878492050812639656533695288974
def sBL:Nat:=221820607385041393622105335501192132887923133817614817414392248882623251223
def gBL:LN:=[76,189,181,129,184,250,6,144,178,209,32,154,57,158,42,140,247,119,183,213,44,176,68,204,201,199,212,245,151,146,145,182]
def rBL:LN:=[40,244,42,184,211,249,211,71,247,97,206,100,66,11,93,209,102,36,237,171,133,50,150,222,113,121,134,160,235,71,243,151]
def mBL:LN:=[0,0,0,6,112,114,101,107,101,121,0,0,0,1,0,0,0,32,12,11,157,21,149,123,104,254,145,23,47,90,146,195,152,142,31,108,32,108,84,86,170,225,236,52,182,79,33,80,245,33]
theorem C1V:(C2m B1r 9=P7 kBL 32∧C2m B1r 10=P7 hBL 32)∧dhG (P7 hBL 32) 9 pBL=true:=by decide +kernel
theorem kf_B:H5 (B2S B1r 9) 32=P7 kBL 32:=by rw [A5c C1V.1.1,C1S]
theorem pb_B:A1L (H5 (B2S B1r 10) 32)=P7 pBL 32:=by rw [A5c C1V.1.2,C1S];exact A8j C1V.2 (by decide +kernel)
theorem ms_B:A97 1 (P7 pBL 32)=mBL:=by decide +kernel
theorem sc_B:B09 (P7 kBL 32)=aBL:=by unfold B09 B0H;rw [<- Q3,<- Q3];decide +kernel
theorem nn_B:B8W (P7 kBL 32) mBL=nBL:=by unfold B8W B0H;rw [<- Q3,<- Q3];decide +kernel
theorem pu_B:A8r (P7 kBL 32)=gBL:=by unfold A8r;rw [sc_B,A9X,A4S];unfold pB;rw [A5p,A1K qD];decide +kernel
theorem rb_B:rB (P7 kBL 32) mBL=rBL:=by unfold rB;rw [nn_B,A9X,A4S];unfold pB;rw [A5p,A1K qD];decide +kernel
theorem ch_B:A7j rBL gBL mBL=cBL:=by unfold A7j B0H;rw [<- Q3,<- Q3];decide +kernel
theorem sv_B:(cBL*aBL%lN+nBL)%lN=sBL:=by decide
theorem sg_B:B3U (P7 kBL 32) mBL=rBL++P7 sBL 32:=C32 rb_B ((C5G rb_B pu_B sc_B nn_B ch_B).trans sv_B)
theorem C5H:U4 gBL=some (pAt 24354131336788456155582576837900696939612574868014201496411295526012459601075 24682098399696873109720092736343687270105428881936536127536232393606557973836):=A8k (n:=33541913281869641556202915666443256987022417464806080523317496477944105218874) (odd:=true) E (by decide +kernel) (by decide +kernel) (by rw [rt_K,C0s];decide +kernel) (by decide +kernel) (by
  unfold pB;rw [A5p,A1K qD]
  decide +kernel)
theorem C5I:U4 rBL=some (pAt 19680019821775537482540015391313735991468773958683507273538926806365980657683 10833035730639649459017528511500399729774668942091771881843872979275060278312):=A8k (n:=19680019821775537482540015391313735991468773958683507273538926806365980657683) (odd:=true) E (by decide +kernel) (by decide +kernel) (by rw [rt_K,C0s];decide +kernel) (by decide +kernel) (by
  unfold pB;rw [A5p,A1K qD]
  decide +kernel)
theorem ck_B:A73 gBL mBL (rBL++P7 sBL 32)=true:=C1T E C5H C5I (by decide +kernel) ch_B (by decide +kernel)

def rcR(n:Nat):Ps:=⟨true,B1r,n,[]⟩
def rk(n:Nat):LN:=B2S B1r n
def rb(n:Nat):LN:=A1L (H5 (rk n) 32)
def rg(n:Nat):LN:=A8r (H5 (rk n) 32)
def rs(n:Nat):LN:=B3U (H5 (rk (n+2)) 32) (A97 1 (rb (n+3)))
def rKs(u d:Int)(n:Nat):Ks:=⟨u,d,rk (n+1),rk (n+2),[⟨1,rk (n+3),rs n⟩],[⟨2,rk (n+4),[]⟩,⟨3,rk (n+5),[]⟩,⟨4,rk (n+6),[]⟩,⟨5,rk (n+7),[]⟩],6,[]⟩
theorem A3T(n:Nat):E5 (rcR n)=rcR (n+1):=rfl
theorem A2v(n:Nat):F3 (rcR n)=rk (n+1):=A6A rfl
theorem C5J(u d:Int)(n:Nat):A3p (k0N u d (rcR n)) (rcR (n+2))=(⟨u,d,rk (n+1),rk (n+2),[⟨1,rk (n+3),rs n⟩],[],2,[]⟩,rcR (n+3)):=by rfl
theorem B0t(k:Ks)(n i m:Nat)(l:List Pr)(hk:Z5 k (rcR n) i=({ k with once:=l,next:=m },rcR (n+i))):Z5 k (rcR n) (i+1)=({ k with once:=l++[⟨m,rk (n+i+1),[]⟩],next:=m+1 },rcR (n+(i+1))):=by simp only [Z5];rw [hk];rfl
theorem newR(u d:Int)(n:Nat):B4z u d (rcR n)=(rKs u d n,rcR (n+7)):=by have h:=B0t _ (n+3) 3 5 _ (B0t _ (n+3) 2 4 _ (B0t _ (n+3) 1 3 _ (B0t ⟨u,d,rk (n+1),rk (n+2),[⟨1,rk (n+3),rs n⟩],[],2,[]⟩ (n+3) 0 2 [] E)));unfold B4z A6Y;rw [A3T,A3T,C5J];exact h
def rBn(u d:Int)(n j:Nat):Bn:=⟨u,d,rb (n+1),rg (n+2),1,rb (n+3),rs n,decide (0<j),if 0<j then j+1 else 0,if 0<j then rb (n+3+j) else []⟩
theorem C2n(n:Nat)(w:LN):H3 (rcR n) w=rcR n:=rfl
theorem A5d(n m:Nat):I5 (rcR n) (rk m)=rb m:=if_pos rfl
theorem skRK(n m:Nat):C0P (rcR n) (rk m)=rg m:=if_pos rfl
theorem C33(u d:Int)(n c:Nat):C3C (rKs u d n) ⟨1,rk (n+3),rs n⟩ (rcR c)=rBn u d n 0:=by unfold C3C idA idG idS rKs;rw [C2n,C2n,A5d,A5d,skRK];rfl
variable{j:Nat}
theorem B0u{b:Bn}{l:List Pr}{L:List Bn}(h:A6Z b l (rcR c) i=(L,rcR c))(ho:l[i]? = some ⟨x,rk j,[]⟩):A6Z b l (rcR c) (i+1)=(L++[{ b with has:=true,once:=x,oncek:=rb j }],rcR c):=by rw [A4X ho,h];dsimp only;rw [C2n,A5d]
theorem bunR(u d:Int)(n c:Nat):A7k (rKs u d n) (rcR c)=([rBn u d n 0,rBn u d n 1,rBn u d n 2,rBn u d n 3,rBn u d n 4],rcR c):=by
  have h:=B0u (B0u (B0u (B0u (b:=rBn u d n 0) (l:=(rKs u d n).once) (c:=c) (i:=0) (L:=[rBn u d n 0]) E E) E) E) rfl;have e:A7k (rKs u d n) (rcR c)=A6Z (C3C (rKs u d n) ⟨1,rk (n+3),rs n⟩ (rcR c)) (rKs u d n).once (rcR c) 4:=by unfold A7k;rfl
  rw [e,C33];exact h
def xk(a b:LN):LN:=x25 (H5 a 32) (H5 b 32)
theorem C5K(c:Nat):∀l,agS (rcR c) l=rcR c
  | []=>rfl
  | x::r=>C5K c r
theorem C5L(c:Nat):∀l,agK (rcR c) l=l.map λx=>xk x.1 x.2
  | []=>rfl
  | x::r=>by show xk x.1 x.2::agK (rcR c) r=_;rw [C5L c r];rfl
def rSe(l:List (LN)):LN:=(C2g (A8p z32 l A2d 1) 1).getD 0 []
theorem seSR(c:Nat)(l:List (LN)):seS (rcR c) l=rcR c:=rfl
theorem seKR(c:Nat)(l:List (LN)):seK (rcR c) l=rSe l:=by unfold seK;rw [A3L rfl];rfl
def rL(a b c j:Nat):List (LN):=xk (rk (a+1)) (rb (b+3))::xk (rk (c+1)) (rb (b+1))::xk (rk (c+1)) (rb (b+3))::if 0<j then [xk (rk (c+1)) (rb (b+3+j))] else []
def A3v(a b c j:Nat):LN:=rSe (rL a b c j)
def rHe(a c j:Nat):He:=⟨rb (a+1),rg (a+2),rb (c+1),1,decide (0<j),if 0<j then j+1 else 0⟩
section
variable{u1 d1 u2 d2:Int}{a b c j x:Nat}
theorem idR:idS (rKs u1 d1 a) (rcR c)=rcR c∧idA (rKs u1 d1 a) (rcR c)=rb (a+1)∧idG (rKs u1 d1 a) (rcR c)=rg (a+2):=by unfold idS idA idG rKs;rw [C2n,C2n,A5d,skRK];exact ⟨E,E,E⟩
theorem stAR:stA (rk (a+1)) (rBn u2 d2 b j) (rcR c)=rcR (c+1):=by unfold stA;rw [A3T,C5K]
theorem stLR:stL (rk (a+1)) (rBn u2 d2 b j) (rcR c)=rL a b c j:=by
  unfold stL stP;rw [A3T,A2v,C5L];unfold rBn rL;dsimp only;by_cases h:0<j
  . rw [decide_eq_true h,if_pos E,if_pos h,if_pos h];rfl
  . rw [decide_eq_false h,if_neg (by decide:¬(false=true)),if_neg h];rfl
theorem stIR:stI (rKs u1 d1 a) (rBn u2 d2 b j) (rcR c)=rcR (c+1):=by unfold stI;rw [show (rKs u1 d1 a).agree=rk (a+1) from rfl,stAR,idR.1,C2n]
theorem C5M:stS (rKs u1 d1 a) (rBn u2 d2 b j) (rcR c)=rcR (c+1):=by unfold stS;rw [stIR,seSR]
theorem stKR:stK (rKs u1 d1 a) (rBn u2 d2 b j) (rcR c)=A3v a b c j:=by unfold stK A3v;rw [stIR,seKR,show (rKs u1 d1 a).agree=rk (a+1) from rfl,stLR]
theorem C5N:stH (rKs u1 d1 a) (rBn u2 d2 b j) (rcR c)=rHe a c j:=by
  unfold stH;rw [show (rKs u1 d1 a).agree=rk (a+1) from rfl,stAR,idR.1,idR.2.1,idR.2.2,A2v,A5d];unfold rBn rHe;dsimp only;by_cases h:0<j
  . rw [decide_eq_true h,if_pos rfl]
  . rw [decide_eq_false h,if_neg h,if_neg qD]
def rWi(u1 d1:Int)(a:Nat)(u2 d2:Int)(b:Nat):LN:=B1h u1 d1 (rb (a+1)) (rg (a+2)) u2 d2 (rb (b+1)) (rg (b+2))
def rNm(u1 d1:Int)(a:Nat)(u2 d2:Int)(b c j:Nat):List (LN):=[B9p,rWi u1 d1 a u2 d2 b,heW [] (rHe a c j)]
theorem sBR:sB (rKs u1 d1 a) (rBn u2 d2 b j) (rcR c)=rcR (c+1):=by unfold sB;rw [C5M,idR.1]
theorem sWiR:sWi (rKs u1 d1 a) (rBn u2 d2 b j) (rcR c)=rWi u1 d1 a u2 d2 b:=by unfold sWi;rw [C5M,idR.2.1,idR.2.2];rfl
theorem sNmR:sNm (rKs u1 d1 a) (rBn u2 d2 b j) (rcR c)=rNm u1 d1 a u2 d2 b c j:=by unfold sNm;rw [sWiR,C5N];rfl
theorem sCR:sC (rKs u1 d1 a) (rBn u2 d2 b j) (rcR c)=rcR (c+1):=by unfold sC;rw [sBR];rfl
def rId(u1 d1:Int)(a:Nat)(u2 d2:Int)(b c j:Nat):LN:=Y7 (P5 (rNm u1 d1 a u2 d2 b c j))
def rTr(root dh:LN):List (LN):=C2g (A8p root [dh] A2u 2) 2
theorem C1W(root sec pub:LN):A44 (rcR c) root sec pub=rcR c:=rfl
theorem B1s(root sec pub:LN):C3L (rcR c) root sec pub=rTr root (xk sec pub):=by unfold C3L;rw [A3L rfl];rfl
def rRt(a b c j:Nat):Rsd:=⟨rk (c+2),rb (b+3),(rTr (A3v a b c j) (xk (rk (c+2)) (rb (b+3)))).getD 0 [],(rTr (A3v a b c j) (xk (rk (c+2)) (rb (b+3)))).getD 1 [],0,[],0,0,[]⟩
theorem C5O{sec:LN}:C1i (rcR (c+1)) (A3v a b c j) (rb (b+3))=rRt a b c j:=by unfold C1i A89 A8s rRt;rw [A3T,A2v,B1s]
theorem sXR:sX (rKs u1 d1 a) (rBn u2 d2 b j) (rcR c)=⟨rId u1 d1 a u2 d2 b c j,rWi u1 d1 a u2 d2 b,rHe a c j,true,rRt a b c j⟩:=by unfold sX;rw [sBR,sNmR,sWiR,C5N,sCR,stKR,show (rBn u2 d2 b j).key=rb (b+3) from rfl,C5O (sec:=[]),A40 rfl];rfl
theorem sDR:sD (rKs u1 d1 a) (rBn u2 d2 b j) (rcR c)=rcR (c+2):=by unfold sD C5x;rw [sCR];rfl
def Cm(i j:Nat):Prop:=xk (rk i) (rb j)=xk (rk j) (rb i)
theorem anRR(hj:j<5)(h1:Cm (a+1) (b+3))(h2:Cm (c+1) (b+1))(h3:Cm (c+1) (b+3))(h4:0<j->Cm (c+1) (b+3+j)):anR (rKs u2 d2 b) (rHe a c j) (rcR x)=(some (A3v a b c j,rk (b+3)),rcR x):=by
  have g1:A5r (rKs u2 d2 b).signed (rHe a c j).signed=some (rk (b+3)):=A0k (i:=0) (x:=⟨1,rk (b+3),rs b⟩) E rfl
  have e:∀ox,anE (rKs u2 d2 b).agree (rk (b+3)) ox (rHe a c j) (rcR x)=(some (rSe ((anP (rk (b+1)) (rk (b+3)) ox (rHe a c j)).map λx=>xk x.1 x.2),rk (b+3)),rcR x):=λox=>by unfold anE;rw [show (rKs u2 d2 b).agree=rk (b+1) from rfl,C5K,C5L,seKR,seSR]
  unfold Cm at *;by_cases h:0<j
  . have g2:A5r (rKs u2 d2 b).once (rHe a c j).once=some (rk (b+3+j)):=by
      rw [show (rHe a c j).once=j+1 from if_pos h];rcases (by omega:j=1∨j=2∨j=3∨j=4) with rfl|rfl|rfl|rfl
      . exact A0k (i:=0) (x:=⟨2,rk (b+4),[]⟩) E rfl
      . exact A0k (i:=1) (x:=⟨3,rk (b+5),[]⟩) E rfl
      . exact A0k (i:=2) (x:=⟨4,rk (b+6),[]⟩) E rfl
      . exact A0k (i:=3) (x:=⟨5,rk (b+7),[]⟩) E rfl
    rw [B4C g1 (decide_eq_true h) g2,e];unfold A3v rL;rw [if_pos h,h1,h2,h3,h4 h];rfl
  . rw [B0e g1 (decide_eq_false h),e];unfold A3v rL;rw [if_neg h,h1,h2,h3];rfl
end
section
variable{a b c j x y:Nat}{w t:LN}
def rKy(a b c j:Nat):LN:=X7 (rcR 0) (rRt a b c j).sk
theorem B9t:W5 (rcR x) (rRt a b c j) w t=rcR x∧A3b (rcR x) (rRt a b c j) w t=U1 (H5 (rKy a b c j) 32) n12 (alW w (rb (c+2)) 0 0) t:=by refine ⟨E,?_⟩;unfold A3b B1q;rw [show I5 (rcR x) (rRt a b c j).own=rb (c+2) from A5d x (c+2),B0q rfl];rfl
theorem C5P(h:Cm (c+2) (b+3)):opB (rcR x) (A14 (A3v a b c j) (rk (b+3))) (rb (c+2)) 0=(rcR x,⟨rk (b+3),rb (c+2),(rRt a b c j).root,[],0,(rRt a b c j).sk,0,0,[]⟩):=by
  have e:A0W (A14 (A3v a b c j) (rk (b+3))) (rb (c+2))=true:=by unfold A0W;rw [show decide ((A14 (A3v a b c j) (rk (b+3))).tk=[])=true from rfl,Bool.or_true]
  unfold opB;rw [if_pos e];show C1H (rcR x,[],0,[]) _ _=_;unfold C1H A89 A8s;dsimp only;rw [C1W,show (A14 (A3v a b c j) (rk (b+3))).root=A3v a b c j from rfl,show (A14 (A3v a b c j) (rk (b+3))).own=rk (b+3) from rfl,B1s,<- h];rfl
def rZ(a b c j x:Nat):Ps×Rsd:=opZ true (rcR x) (opG (A14 (A3v a b c j) (rk (b+3))) (rcR x,⟨rk (b+3),rb (c+2),(rRt a b c j).root,[],0,(rRt a b c j).sk,0,0,[]⟩) 0)
theorem C5Q(h:Cm (c+2) (b+3)):T8 (rcR x) (A14 (A3v a b c j) (rk (b+3))) w (rb (c+2)) 0 0 (A3b (rcR y) (rRt a b c j) w t)=((rZ a b c j x).1,(rZ a b c j x).2,0,t):=by
  have e:A0W (A14 (A3v a b c j) (rk (b+3))) (rb (c+2))=true:=by unfold A0W;rw [show decide ((A14 (A3v a b c j) (rk (b+3))).tk=[])=true from rfl,Bool.or_true]
  have h0:=A3R (s:=rcR x) (r:=A14 (A3v a b c j) (rk (b+3))) (w:=w) (hk:=rb (c+2)) (hp:=0) (hn:=0) (g:=A3b (rcR y) (rRt a b c j) w t) (t:=t) E (C5P (x:=x) (a:=a) (j:=j) h) (λ_=>rfl) E (by
    rw [A53 E,B9t.2]
    exact A0Q _ _ _ _)
  rw [e] at h0;exact h0
theorem C5R(h:Cm (c+2) (b+3)):OpnH (rcR x) (A14 (A3v a b c j) (rk (b+3))) (rb (c+2)) 0 0:=by
  refine ⟨?_,λk hk=>?_,?_,?_⟩
  . exact λz hz=>absurd hz List.not_mem_nil
  . exact absurd (hk.symm.trans (show A5s (A14 (A3v a b c j) (rk (b+3))).sks (rb (c+2)) 0=none from rfl)) qM
  . rw [C5P h];exact λz hz=>absurd hz List.not_mem_nil
  . rw [C5P h];exact λhk=>Bool.noConfusion hk
end

def ktL:List (Nat×Nat×Nat):=[(1,96883660931437610882519848056392647747141224830105783408120453464878363441468,31343977825424138243328188496598735086003893728427674704073203205028206248261),(8,9135762528150489133059087353781936598568769630706958376658851683295575830563,29424855127298456829680922216475878508114893289777152150182501912701411359913),(10,42729459026137317379853395291484656376359077389438694238166093697699961795572,15359754571899104785023455833285613441988859313659204930061692122330415565580),(15,87605879359519212522372234691451452716940004573164609546910868635714042154493,18536550312381647689651405997633996896613081960844113824244218688486366290088),(16,83971203674465622939150078344740093687328364021200084737672237232173615992613,43214824255854217674710229991503511375425713778609579465497423820419993725008),(17,91124950807797338557064183778146013295376921507779882217212488455057137838123,36627328644106727432054749111037738878372997813751645273672637972399094175373),(18,2107801765545995537738802239242091801910744709797174115461217899059114309657,19803357673329920696910870285477361676586689243187947197828815307497614125958),(19,50385176026310823220886698083320166604831195300846834999904155792947154014262,55641753269252941030887470018630213992539252133065392380619615499481368616819),(20,104911859705610840321856072240054349468283122449357097213143525040884545478873,28296022327558277962495225366618793011428016091872458806696710795363558114019),(21,100786037342284769549073072484412522585816996418408091239170228713914400509825,9307127528820600768690901316500471512534625550020317017541386109589224858639),(22,27483384789822468842609549714782631596712088681842530735249497066832032628938,16535725690236008417013797768886340133053760232355196619689055073846817307817),(23,41259471987387587091057073227837759712227436262733838420848513225443576382980,30380283098658557984394551478977810279104483473714218705155592111454882018136),(24,76822774398023346916315351598305439550266668158664781062502021498938419038271,15251373442761942892696517665496200353651520940517421601360213384607421192669),(25,62646881471424986989927107330338236166689270916930119309634594118570821692218,2310573680008144287895689844007883037395925656476617766089379579147821837160),(26,8510599927249777679950549351824181870321804112426296305833494398261372937960,47494331112960037968523127325400766939004591794701411950586003535806815199908),(27,93054401891210430887988569363004394538515461054768700509231167575760424400572,31251968866653284215323450197225495940960663128579985444959253590267829685331),(28,75503344849283565213997691960379353554099651253183011279126941292607829564007,24713798234442785250166001932969095399551074794061862126232264279266063736908),(29,94764577588981839507372459185673567941948491269792518441549497032446163011643,32687473967699350948813718203893134557062897627561019104054009469229667633393),(30,52092122683691378439266853229140057372139848050151510587234580208553593187466,1315532980614238703862902304493699624330869969762550589500676411360550761842),(31,21118151748318703988404322834359179671698404029930942801504383422615076643925,38926594208075444065011691135985117069280173819284003518194066951949850714579),(32,16943372007171868505083588487773135708441081703574222783436675875511336576634,55585526742472704016661237133753230024441913498893076881193306226335569420185),(33,85235026361454582344557333728273848964423175329392370066683956146577184108398,28135830357088791080819428382586948150324012495758477647069908348132470178915),(34,90945921049652711904707885734474643713631660279254305953705900482102380412596,4293521787590717117568020514180980231807962274242261272206710379886139677108),(35,95305887106954581261438220231561748757687906767949347010582346241735978448997,17789593077087414338495835494590476506572362067378190751772304646904957300459)]
theorem C5S:(ktL.all λe=>decide (C2m B1r e.1=P7 e.2.1 32)&&(dhG (P7 e.2.1 32) 9 e.2.2&&decide (rdN (P7 e.2.2 32)=e.2.2)))=true:=by decide +kernel
def cmL:List ((Nat×Nat×Nat)×(Nat×Nat×Nat)×Nat):=[(ktL.getD 0 (0,0,0),ktL.getD 2 (0,0,0),2541506293551147194650282799391029177892229068278798974537480485408869748710),(ktL.getD 3 (0,0,0),ktL.getD 1 (0,0,0),18546391600261099460873640852849057648260999868187424857101453696820449709951),(ktL.getD 3 (0,0,0),ktL.getD 2 (0,0,0),19886315643003355269041972704266023292854701371388566295212484584622148241796),(ktL.getD 4 (0,0,0),ktL.getD 2 (0,0,0),3539830599559654241689529478161390588800741958415143885656396672048578026611),(ktL.getD 4 (0,0,0),ktL.getD 5 (0,0,0),7825054348827430474852527871137698096549380775282597588826448098990085252270),(ktL.getD 6 (0,0,0),ktL.getD 1 (0,0,0),47714576748355303583870716921626327909804707544227493387584922420055007246287),(ktL.getD 6 (0,0,0),ktL.getD 2 (0,0,0),52340160319270832140877855195911799406574140877740004072075082878220769510681),(ktL.getD 7 (0,0,0),ktL.getD 2 (0,0,0),17321994770339183354543004662673847196816768218461103112078700670583461277765),(ktL.getD 7 (0,0,0),ktL.getD 8 (0,0,0),24233621963515490764506908789200473426621450273617280728133256541604456280140),(ktL.getD 9 (0,0,0),ktL.getD 1 (0,0,0),1342771138355671684567267321415330386784638827780051101400788296750112897604),(ktL.getD 9 (0,0,0),ktL.getD 2 (0,0,0),49084355154726197289459089021922021434326777313890579662439147580001207771534),(ktL.getD 10 (0,0,0),ktL.getD 2 (0,0,0),46324422915452481954703041257375136035671181614967294793840671950453195926277),(ktL.getD 10 (0,0,0),ktL.getD 11 (0,0,0),23746861311041266054717967068851066428191966015431345247636788528468507767004),(ktL.getD 12 (0,0,0),ktL.getD 1 (0,0,0),47077720117585883678665479760333196364850680979836332697003970462595555811014),(ktL.getD 12 (0,0,0),ktL.getD 2 (0,0,0),52334973539396754326407730968650244508347644960603532680331785403210873812071),(ktL.getD 13 (0,0,0),ktL.getD 2 (0,0,0),3230443280823551036610211874462699592302141703755974340452642604306017077668),(ktL.getD 13 (0,0,0),ktL.getD 14 (0,0,0),5623917210086327535692732098795187320184612212701186850932577696050644117319),(ktL.getD 15 (0,0,0),ktL.getD 1 (0,0,0),51602549527976446472709323262896274549597299709919656145684560019324319325572),(ktL.getD 15 (0,0,0),ktL.getD 2 (0,0,0),6216037893385098248604949154601030245945851705443827034358943042299375414512),(ktL.getD 16 (0,0,0),ktL.getD 2 (0,0,0),33583220313917656054647668170038661730440051297584743869189834886678192976370),(ktL.getD 16 (0,0,0),ktL.getD 17 (0,0,0),3169351830618154192918614712966267527755214158086911363734641390310075610512),(ktL.getD 18 (0,0,0),ktL.getD 1 (0,0,0),24020696748742415365110402190863449748876288975061422670150973615408471898921),(ktL.getD 18 (0,0,0),ktL.getD 2 (0,0,0),37255896794699044359028420840280533353893690910654126517127856454948901095239),(ktL.getD 19 (0,0,0),ktL.getD 2 (0,0,0),39566817864600374940245601191783222913866234812756857480261296499924355155077),(ktL.getD 19 (0,0,0),ktL.getD 20 (0,0,0),57727687798897504930409358171585736696477546404365365695963234601818990064954),(ktL.getD 21 (0,0,0),ktL.getD 1 (0,0,0),23737464215866159768761565229043224657672154097100435346028599250480326032010),(ktL.getD 21 (0,0,0),ktL.getD 2 (0,0,0),46678612126691884783912065817585198494492532469558742531701624562705575781683),(ktL.getD 22 (0,0,0),ktL.getD 2 (0,0,0),30138858497725854335066452193983249849710246805216560832880309291544400882512),(ktL.getD 22 (0,0,0),ktL.getD 23 (0,0,0),2658185373645087192039754800772092192562983480792124312119675577877063063058)]
theorem C5T:(cmL.all λe=>dhG (P7 e.1.2.1 32) e.2.1.2.2 e.2.2&&dhG (P7 e.2.1.2.1 32) e.1.2.2 e.2.2)=true:=by decide +kernel
theorem C1X{y:Nat}(h:(i,x,y)∈ktL):H5 (rk i) 32=P7 x 32∧rb i=P7 y 32∧rdN (P7 y 32)=y:=by
  have h1:=List.all_eq_true.1 C5S _ h;rw [Bool.and_eq_true,Bool.and_eq_true,decide_eq_true_eq,decide_eq_true_eq] at h1;have e:H5 (rk i) 32=P7 x 32:=by unfold rk;rw [A5c h1.1,C1S]
  refine ⟨e,?_,h1.2.2⟩;unfold rb;rw [e];exact A8j h1.2.1 (by decide +kernel)
theorem C5U:(cmL.all λe=>ktL.contains e.1&&ktL.contains e.2.1)=true:=by decide +kernel
theorem A3d(n:Nat)(h:n<cmL.length):Cm cmL[n].1.1 cmL[n].2.1.1:=by have h1:=List.all_eq_true.1 C5T _ (List.getElem_mem h);have h2:=List.all_eq_true.1 C5U _ (List.getElem_mem h);rw [Bool.and_eq_true] at h1 h2;obtain ⟨a1,a2,a3⟩:=C1X (List.contains_iff_mem.1 h2.1);obtain ⟨b1,b2,b3⟩:=C1X (List.contains_iff_mem.1 h2.2);unfold Cm xk;rw [a1,a2,b1,b2,C1S,C1S,A8j h1.1 b3,A8j h1.2 a3]
theorem B5K(n:Nat)(h:n<ktL.length):rb ktL[n].1=P7 ktL[n].2.2 32∧rdN (P7 ktL[n].2.2 32)=ktL[n].2.2:=(C1X (List.getElem_mem h)).2
theorem cm_o(h:i<7):Cm (14+3*i+1) 8∧Cm (14+3*i+1) 10∧Cm (14+3*i+2) 10∧Cm (14+3*i+2) (14+3*i+2+1):=by
  match i,h with
  | 0,_=>exact ⟨A3d 1 qD,A3d 2 qD,A3d 3 qD,A3d 4 qD⟩
  | 1,_=>exact ⟨A3d 5 qD,A3d 6 qD,A3d 7 qD,A3d 8 qD⟩
  | 2,_=>exact ⟨A3d 9 qD,A3d 10 qD,A3d 11 qD,A3d 12 qD⟩
  | 3,_=>exact ⟨A3d 13 qD,A3d 14 qD,A3d 15 qD,A3d 16 qD⟩
  | 4,_=>exact ⟨A3d 17 qD,A3d 18 qD,A3d 19 qD,A3d 20 qD⟩
  | 5,_=>exact ⟨A3d 21 qD,A3d 22 qD,A3d 23 qD,A3d 24 qD⟩
  | 6,_=>exact ⟨A3d 25 qD,A3d 26 qD,A3d 27 qD,A3d 28 qD⟩
theorem C1Y:Cm 1 10:=A3d 0 qD
theorem C1Z(n:Nat)(h:n<ktL.length)(hn:ktL[n].2.2≠ktL[2].2.2):rb ktL[n].1≠rb 10:=λe=>by obtain ⟨a1,a2⟩:=B5K n h;obtain ⟨b1,b2⟩:=B5K 2 qD;rw [a1,show rb 10=P7 ktL[2].2.2 32 from b1] at e;exact hn (a2.symm.trans ((congrArg rdN e).trans b2))
theorem ne_o(h:i<7):rb (14+3*i+2+1)≠rb 10:=by
  match i,h with
  | 0,_=>exact C1Z 5 qD qD
  | 1,_=>exact C1Z 8 qD qD
  | 2,_=>exact C1Z 11 qD qD
  | 3,_=>exact C1Z 14 qD qD
  | 4,_=>exact C1Z 17 qD qD
  | 5,_=>exact C1Z 20 qD qD
  | 6,_=>exact C1Z 23 qD qD

theorem rbl(n:Nat):(rb n).length=32:=by unfold rb A1L;exact A1M _ _
theorem rgl(n:Nat):(rg n).length=32:=A6P _
theorem rg_A:rg 2=gAL:=by unfold rg rk;rw [kf_A,pu_A]
theorem rg_B:rg 9=gBL:=by unfold rg rk;rw [kf_B,pu_B]
theorem rs_B:rs 7=rBL++P7 sBL 32:=by unfold rs rb rk;rw [kf_B,pb_B,ms_B,sg_B]
theorem C5V:A73 (rg 9) (A97 1 (rb 10)) (rs 7)=true:=by rw [rg_B,rs_B];unfold rb rk;rw [pb_B,ms_B,ck_B]
def idV(u1:Int)(a1 g1:LN)(u2:Int)(a2 g2 e:LN)(j:Nat):LN:=A3k (P5 [B9p,B1h u1 1 a1 g1 u2 1 a2 g2,heW [] ⟨a1,g1,e,1,decide (0<j),if 0<j then j+1 else 0⟩])
def ktP(i:Nat):LN:=P7 (ktL.getD i (0,0,0)).2.2 32
def C5W(i:Nat):LN:=idV 0 (ktP 0) gAL 1 (ktP 1) gBL (ktP (3+3*i)) 0
theorem C5X:((List.range 7).all λj=>(List.range j).all λi=>!decide (C5W i=C5W j))=true:=by decide +kernel
theorem C34(h:i<7):rId 0 1 0 1 1 7 (14+3*i) 0=C5W i:=by
  have e:rb (14+3*i+1)=ktP (3+3*i):=by
    match i,h with
    | 0,_=>exact (B5K 3 qD).1
    | 1,_=>exact (B5K 6 qD).1
    | 2,_=>exact (B5K 9 qD).1
    | 3,_=>exact (B5K 12 qD).1
    | 4,_=>exact (B5K 15 qD).1
    | 5,_=>exact (B5K 18 qD).1
    | 6,_=>exact (B5K 21 qD).1
  unfold rId rNm rWi rHe;rw [rg_A,rg_B,show rb (0+1)=ktP 0 from (B5K 0 qD).1,show rb (7+1)=ktP 1 from (B5K 1 qD).1,e,<- Q3];rfl
theorem C35(hj:j<7)(hi:i<j):rId 0 1 0 1 1 7 (14+3*i) 0≠rId 0 1 0 1 1 7 (14+3*j) 0:=by rw [C34 hj,C34 qO];have h:=List.all_eq_true.1 (List.all_eq_true.1 C5X j (List.mem_range.2 hj)) i (List.mem_range.2 hi);intro e;rw [e] at h;simp at h

class Fo(α:Type) where
  f:α->(α->Bool)->Bool
  e:∀x k,f x k=k x
instance:Fo Nat:=⟨L3,U6⟩
instance:Fo Bool:=⟨λb k=>Bool.rec (k false) (k true) b,λb k=>by cases b<;>rfl⟩
instance:Fo Int:=⟨λi k=>Int.rec (λn=>L3 n λn=>k (Int.ofNat n)) (λn=>L3 n λn=>k (Int.negSucc n)) i,λi k=>by cases i<;>exact U6 _ _⟩
theorem foL [Fo α](l:List α)(k:List α->Bool):(List.rec (motive:=λ_=>(List α->Bool)->Bool) (λk=>k []) (λx _ ih k=>Fo.f x λy=>ih λs=>k (y::s)) l:(List α->Bool)->Bool) k=k l:=by
  induction l generalizing k with
  | nil=>rfl
  | cons x r ih=>exact (Fo.e x _).trans (ih _)
instance{α:Type}[Fo α]:Fo (List α):=⟨λl k=>(List.rec (motive:=λ_=>(List α->Bool)->Bool) (λk=>k []) (λx _ ih k=>Fo.f x λy=>ih λs=>k (y::s)) l:(List α->Bool)->Bool) k,foL⟩
instance{α β:Type}[Fo α][Fo β]:Fo (α×β):=⟨λx k=>Prod.rec (λa b=>Fo.f a λa=>Fo.f b λb=>k (a,b)) x,λx k=>by cases x;exact (Fo.e _ _).trans (Fo.e _ _)⟩
instance{α:Type}[Fo α]:Fo (Option α):=⟨λx k=>Option.rec (k none) (λa=>Fo.f a λa=>k (some a)) x,λx k=>by cases x;rfl;exact Fo.e _ _⟩
instance:Fo Tm:=⟨λx k=>Tm.rec (λx0 x1 x2 x3=>Fo.f x0 λx0=>Fo.f x1 λx1=>Fo.f x2 λx2=>Fo.f x3 λx3=>k ⟨x0,x1,x2,x3⟩) x,λx k=>by cases x;simp only [Fo.e]⟩
instance:Fo Ps:=⟨λx k=>Ps.rec (λx0 x1 x2 x3=>Fo.f x0 λx0=>Fo.f x1 λx1=>Fo.f x2 λx2=>Fo.f x3 λx3=>k ⟨x0,x1,x2,x3⟩) x,λx k=>by cases x;simp only [Fo.e]⟩
instance:Fo Pr:=⟨λx k=>Pr.rec (λx0 x1 x2=>Fo.f x0 λx0=>Fo.f x1 λx1=>Fo.f x2 λx2=>k ⟨x0,x1,x2⟩) x,λx k=>by cases x;simp only [Fo.e]⟩
instance:Fo Nm:=⟨λx k=>Nm.rec (λx0 x1=>Fo.f x0 λx0=>Fo.f x1 λx1=>k ⟨x0,x1⟩) x,λx k=>by cases x;simp only [Fo.e]⟩
instance:Fo Ks:=⟨λx k=>Ks.rec (λx0 x1 x2 x3 x4 x5 x6 x7=>Fo.f x0 λx0=>Fo.f x1 λx1=>Fo.f x2 λx2=>Fo.f x3 λx3=>Fo.f x4 λx4=>Fo.f x5 λx5=>Fo.f x6 λx6=>Fo.f x7 λx7=>k ⟨x0,x1,x2,x3,x4,x5,x6,x7⟩) x,λx k=>by cases x;simp only [Fo.e]⟩
instance:Fo Bn:=⟨λx k=>Bn.rec (λx0 x1 x2 x3 x4 x5 x6 x7 x8 x9=>Fo.f x0 λx0=>Fo.f x1 λx1=>Fo.f x2 λx2=>Fo.f x3 λx3=>Fo.f x4 λx4=>Fo.f x5 λx5=>Fo.f x6 λx6=>Fo.f x7 λx7=>Fo.f x8 λx8=>Fo.f x9 λx9=>k ⟨x0,x1,x2,x3,x4,x5,x6,x7,x8,x9⟩) x,λx k=>by cases x;simp only [Fo.e]⟩
instance:Fo He:=⟨λx k=>He.rec (λx0 x1 x2 x3 x4 x5=>Fo.f x0 λx0=>Fo.f x1 λx1=>Fo.f x2 λx2=>Fo.f x3 λx3=>Fo.f x4 λx4=>Fo.f x5 λx5=>k ⟨x0,x1,x2,x3,x4,x5⟩) x,λx k=>by cases x;simp only [Fo.e]⟩
instance:Fo Skp:=⟨λx k=>Skp.rec (λx0 x1 x2=>Fo.f x0 λx0=>Fo.f x1 λx1=>Fo.f x2 λx2=>k ⟨x0,x1,x2⟩) x,λx k=>by cases x;simp only [Fo.e]⟩
instance:Fo Rsd:=⟨λx k=>Rsd.rec (λx0 x1 x2 x3 x4 x5 x6 x7 x8=>Fo.f x0 λx0=>Fo.f x1 λx1=>Fo.f x2 λx2=>Fo.f x3 λx3=>Fo.f x4 λx4=>Fo.f x5 λx5=>Fo.f x6 λx6=>Fo.f x7 λx7=>Fo.f x8 λx8=>k ⟨x0,x1,x2,x3,x4,x5,x6,x7,x8⟩) x,λx k=>by cases x;simp only [Fo.e]⟩
instance:Fo Ses:=⟨λx k=>Ses.rec (λx0 x1 x2 x3 x4=>Fo.f x0 λx0=>Fo.f x1 λx1=>Fo.f x2 λx2=>Fo.f x3 λx3=>Fo.f x4 λx4=>k ⟨x0,x1,x2,x3,x4⟩) x,λx k=>by cases x;simp only [Fo.e]⟩
instance:Fo Ev:=⟨λx k=>Ev.rec (λx0 x1 x2 x3 x4 x5 x6 x7 x8 x9 x10=>Fo.f x0 λx0=>Fo.f x1 λx1=>Fo.f x2 λx2=>Fo.f x3 λx3=>Fo.f x4 λx4=>Fo.f x5 λx5=>Fo.f x6 λx6=>Fo.f x7 λx7=>Fo.f x8 λx8=>Fo.f x9 λx9=>Fo.f x10 λx10=>k ⟨x0,x1,x2,x3,x4,x5,x6,x7,x8,x9,x10⟩) x,λx k=>by cases x;simp only [Fo.e]⟩

variable{ts:List Tm}
theorem A7d(L:List (LN×LN))(h:(ts.all λt=>t.kind != 6||(t.n==0&&t.of.length==1&&L.any λab=>t.text==mark ab.1++mark ab.2&&ab.2.all (· < 256)&&decide (ab.2.length<=16777216)))=true):X9 ts:=by intro t ht hk;have h1:=List.all_eq_true.1 h t ht;simp only [Bool.or_eq_true,bne_iff_ne,ne_eq,hk,not_true_eq_false,false_or,Bool.and_eq_true,beq_iff_eq,List.any_eq_true,List.all_eq_true,decide_eq_true_eq] at h1;obtain ⟨⟨h2,h3⟩,ab,-,⟨h4,h5⟩,h6⟩:=h1;obtain ⟨k,of,tx,n⟩:=t;obtain ⟨x,rfl⟩:=List.length_eq_one_iff.1 h3;cases h2;cases hk;cases h4;exact ⟨x,ab.1,ab.2,E,h5,h6⟩
variable{s:Ps}
theorem C36(h:((List.range s.ts.length).any λi=>w==bts ((i:Nat):Int))=true):Kok s w:=by
  obtain ⟨i,h1,h2⟩:=List.any_eq_true.1 h
  exact λ_=>⟨i,List.mem_range.1 h1,eq_of_beq h2⟩
def tmB(t:Tm):Bool:=Nat.blt t.kind 256&&decide (-9223372036854775808<=t.n)&&decide (t.n<=9223372036854775807)&&(t.of.all λi=>decide (-9223372036854775808<=i)&&decide (i<=9223372036854775807))&&decide (t.of.length<=1048576)&&(t.text.all (· < 256))&&decide (t.text.length<=1099511627776)
def C5Y(ts:List Tm)(w wa wg t:LN):Bool:=wg.length==32&&match plc wg ts.length,plc w ts.length with
  | some i,some j=>match ts[i]? with
    | some u=>u.kind==6&&u.of==[((j:Nat):Int)]&&u.text==mark wa++mark t&&u.n==0
    | none=>false
  | _,_=>false
variable{t:LN}
theorem B8h{wa wg:LN}(h:C5Y ts w wa wg t=true):A9e ts w wa wg t:=by
  unfold C5Y at h;rw [Bool.and_eq_true] at h;refine ⟨eq_of_beq h.1,?_⟩;have h2:=h.2
  cases hi:plc wg ts.length with
  | none=>rw [hi] at h2;cases h2
  | some i =>
    cases hj:plc w ts.length with
    | none=>rw [hi,hj] at h2;cases h2
    | some j =>
      rw [hi,hj] at h2;dsimp only at h2
      cases hu:ts[i]? with
      | none=>rw [hu] at h2;cases h2
      | some u =>
        rw [hu] at h2;simp only [Bool.and_eq_true,beq_iff_eq] at h2;obtain ⟨k,of,tx,n⟩:=u;obtain ⟨⟨⟨rfl,rfl⟩,rfl⟩,rfl⟩:=h2;exact ⟨i,j,E,E,hu⟩
def tcd(t:Tm):Nat:=(t.of.foldl (λa i=>a*18446744073709551616+i.toNat) (t.text.foldl (λa b=>a*256+b) t.kind))*18446744073709551616+t.n.toNat
def ndC:LN->Bool
  | []=>true
  | x::r=>r.all (λy=>!Nat.beq x y)&&ndC r
theorem B9u:∀ {l:LN},ndC l=true->l.Nodup
  | [],_=>List.nodup_nil
  | x::r,h=>by simp only [ndC,Bool.and_eq_true,List.all_eq_true] at h;refine List.nodup_cons.2 ⟨λhm=>?_,B9u h.2⟩;have:=h.1 x hm;simp at this
theorem A9j(h:(ts.all tmB&&Fo.f (ts.map tcd) ndC)=true):Tok ts:=by rw [Fo.e] at h;simp only [Bool.and_eq_true,List.all_eq_true] at h;refine ⟨λt ht=>?_,(List.pairwise_map.1 (B9u h.2)).imp λh e=>h (congrArg tcd e)⟩;have h1:=h.1 t ht;simp only [tmB,Bool.and_eq_true,decide_eq_true_eq,List.all_eq_true] at h1;obtain ⟨⟨⟨⟨⟨⟨a,b⟩,c⟩,d⟩,e⟩,f⟩,g⟩:=h1;exact ⟨L7 a,⟨b,c⟩,d,e,⟨f⟩,g⟩
def wiW(x:Ses)(h:He)(fu fd tu td:Int):LN:=x.wi++frW [] (A1N x h fu fd tu td)
def evS(s:Ps)(x:Ses)(h:He)(fu fd tu td:Int)(tx:LN):Ev:=⟨fu,fd,tu,td,x.id,x.tell,h,I5 s x.r.own,x.r.prev,x.r.sn,A3b s x.r (wiW x h fu fd tu td) tx⟩
def KsF(k:Ks):Prop:=k.signed.length=1∧k.once.length<=10∧(k.once.map (·.n)).Pairwise (· < ·)
def C37(k:Ks)(U:List Bn×Ps)(Y:Bn):Prop:=(U.1.length=5∧U.2.ts.length<=500∧U.2.n<=100)∧Ar U.2.ts∧ckB U.2 Y=true∧(stS k Y U.2).ts.length<=900∧(stS k Y U.2).n<=900∧(stH k Y U.2).ia.length<=1000∧(stH k Y U.2).ig.length<=1000∧(stH k Y U.2).key.length<=1000∧(idA k (stS k Y U.2)).length+(idG k (stS k Y U.2)).length+Y.ia.length+Y.ig.length<=1000000
def SnF(s:Ps)(x:Ses)(fu fd tu td:Int):Prop:=s.ts.length<=900∧x.tell=true∧0<x.r.sk.length∧x.wi.length<=1000000∧x.id.length+x.he.ia.length+x.he.ig.length+x.he.key.length<=1000000∧(wiW x x.he fu fd tu td).length<=1000000
def AnD(k:Ks)(e:Ev)(s:Ps)(sec own:LN)(s2 sz:Ps)(rz:Rsd):Prop:=(s.ts.length<=900∧e.has=true∧s2.ts.length<=900)∧e.he.ia.length+e.he.ig.length+(idA k s2).length+(idG k s2).length<=1000000∧e.ses.length+e.he.ia.length+e.he.ig.length+e.he.key.length<=1000000∧A3q (idS k s2) (aNm k e s2)=e.ses∧((aC k e s2).ts.length<=900∧(aC k e s2).n<=900)∧(aX k e s2 sec own).wi.length<=1000000∧((aX k e s2 sec own).wi++frW [] e).length+e.hk.length<=1000000∧e.g.length<=10000000∧(sz.ts.length<=900∧sz.n<=900)∧0<rz.own.length
structure AnF(k:Ks)(e:Ev)(s:Ps)(tx sec own:LN)(s2 sz:Ps)(rz:Rsd):Prop where
  an:anR k e.he s=(some (sec,own),s2)
  d:AnD k e s sec own s2 sz rz
  oh:OpnH (aC k e s2) (aX k e s2 sec own).r e.hk e.hp e.hn
  op:T8 (aC k e s2) (aX k e s2 sec own).r ((aX k e s2 sec own).wi++frW [] e) e.hk e.hp e.hn e.g=(sz,rz,0,tx)
instance{k:Ks}:Decidable (KsF k):=by unfold KsF;infer_instance
instance{k:Ks}{U:List Bn×Ps}{Y:Bn}:Decidable (C37 k U Y):=by unfold C37 Ar;infer_instance
instance{s:Ps}{x:Ses}{fu fd tu td:Int}:Decidable (SnF s x fu fd tu td):=by unfold SnF;infer_instance
def A8l(k:Ks)(e:Ev)(s:Ps):LN:=((anR k e.he s).1.getD ([],[])).1
def A8m(k:Ks)(e:Ev)(s:Ps):LN:=((anR k e.he s).1.getD ([],[])).2
def anF(k:Ks)(e:Ev)(s:Ps):Ps:=aC k e (anR k e.he s).2
def anX(k:Ks)(e:Ev)(s:Ps):Ses:=aX k e (anR k e.he s).2 (A8l k e s) (A8m k e s)
def anC(k:Ks)(e:Ev)(s:Ps):Ps×Rsd:=opB (anF k e s) (anX k e s).r e.hk e.hp
def anO(k:Ks)(e:Ev)(s:Ps):Ps×Rsd:=opZ (A0W (anX k e s).r e.hk) (opD (anC k e s) e.hn) (opG (anX k e s).r (anC k e s) e.hn)
def C10(L:List (LN×LN))(ts:List Tm):Bool:=ts.all λt=>t.kind != 6||(t.n==0&&t.of.length==1&&L.any λab=>t.text==mark ab.1++mark ab.2&&ab.2.all (· < 256)&&decide (ab.2.length<=16777216))
def anT(L:List (LN×LN))(e:Ev)(tx:LN)(N:Option (LN×LN)×Ps)(F:Ps)(X:Ses)(C:Ps×Rsd)(D:Ps)(K:LN):Bool:=N.1.isSome&&(!D.real&&(decide (A5s X.r.sks e.hk e.hn=none)&&(decide (A9f X.r e.hp=0)&&(decide (ahE C.2.tn e.hn=0)&&((D.ts.all tmB&&Fo.f (D.ts.map tcd) ndC)&&(C5Y D.ts K (alW (X.wi++frW [] e) e.hk e.hp e.hn) e.g tx&&(C10 L F.ts&&(C10 L D.ts&&((List.range D.ts.length).any λi=>K==bts ((i:Nat):Int))))))))))
def AnB(L:List (LN×LN))(k:Ks)(e:Ev)(s:Ps)(tx:LN):Prop:=anT L e tx (anR k e.he s) (anF k e s) (anX k e s) (anC k e s) (opD (anC k e s) e.hn) (A5u (anC k e s) e.hn)=true∧AnD k e s (A8l k e s) (A8m k e s) (anR k e.he s).2 (anO k e s).1 (anO k e s).2
variable{L:List (LN×LN)}{e:Ev}{tx:LN}
theorem C38{N:Option (LN×LN)×Ps}{F:Ps}{X:Ses}(h:anT L e tx N F X (opB F X.r e.hk e.hp) (opD (opB F X.r e.hk e.hp) e.hn) (A5u (opB F X.r e.hk e.hp) e.hn)=true):N.1.isSome=true∧OpnH F X.r e.hk e.hp e.hn∧T8 F X.r (X.wi++frW [] e) e.hk e.hp e.hn e.g=((opZ (A0W X.r e.hk) (opD (opB F X.r e.hk e.hp) e.hn) (opG X.r (opB F X.r e.hk e.hp) e.hn)).1,(opZ (A0W X.r e.hk) (opD (opB F X.r e.hk e.hp) e.hn) (opG X.r (opB F X.r e.hk e.hp) e.hn)).2,0,tx):=by unfold anT at h;simp only [Bool.and_eq_true,decide_eq_true_eq,Bool.not_eq_true'] at h;obtain ⟨h1,h2,h3,h4,h5,h6,h7,h8,h9,h10⟩:=h;exact ⟨h1,⟨A7d L h8,λz hz=>absurd (hz.symm.trans h3) qM,A7d L h9,C36 h10⟩,A3R h3 E (λ_=>h4) h5 ((A3Q h2 _ _ _).trans (A49 (A9j (by rw [Bool.and_eq_true];exact h6)) (B8h h7)))⟩
theorem C39{k:Ks}(h:AnB L k e s tx):AnF k e s tx (A8l k e s) (A8m k e s) (anR k e.he s).2 (anO k e s).1 (anO k e s).2:=by
  obtain ⟨h1,h2,h3⟩:=C38 h.1;refine ⟨?_,h.2,h2,h3⟩;unfold A8l A8m
  cases hq:(anR k e.he s).1 with
  | none=>rw [hq] at h1;cases h1
  | some q=>exact Prod.ext hq rfl

def rcO:Bn:=⟨0,0,[],[],0,[],[],false,0,[]⟩
def rc0(m:Nat):Ps:=⟨m%2==0,B1r,0,[]⟩
def rcA(m:Nat):Ks×Ps:=B4z 0 1 (rc0 m)
def rcB(m:Nat):Ks×Ps:=B4z 1 1 (rcA m).2
instance{k:Ks}{e:Ev}{s:Ps}{sec own:LN}{s2 sz:Ps}{rz:Rsd}:Decidable (AnD k e s sec own s2 sz rz):=by unfold AnD;infer_instance
def nmB(ts:List Tm)(w g:LN):Bool:=(List.range ts.length).any λi=>g==bts ((i:Nat):Int)&&match ts[i]? with
  | some u=>u.kind==(B5Y []).kind&&u.of==[]&&u.text==w&&u.n==0
  | none=>false
theorem C4a{ws:List (LN)}{g:LN}(hr:s.real=false)(ht:Tok s.ts)(h:nmB s.ts (P5 ws) g=true):A2s s ws=s∧A3q s ws=g:=by
  obtain ⟨i,-,h1⟩:=List.any_eq_true.1 h;rw [Bool.and_eq_true,beq_iff_eq] at h1;obtain ⟨h1,h2⟩:=h1
  cases hu:s.ts[i]? with
  | none=>rw [hu] at h2;cases h2
  | some u =>
    rw [hu] at h2;simp only [Bool.and_eq_true,beq_iff_eq] at h2;obtain ⟨k,of,tx,n⟩:=u;obtain ⟨⟨⟨rfl,rfl⟩,rfl⟩,rfl⟩:=h2;obtain ⟨e1,e2⟩:=B7W (ws:=ws) hr ht hu;exact ⟨e1,e2.trans h1.symm⟩
def AnE(k:Ks)(e:Ev)(s F:Ps)(X:Ses)(s2 sz:Ps)(rz:Rsd):Prop:=(s.ts.length<=900∧e.has=true∧s2.ts.length<=900)∧e.he.ia.length+e.he.ig.length+(idA k s2).length+(idG k s2).length<=1000000∧e.ses.length+e.he.ia.length+e.he.ig.length+e.he.key.length<=1000000∧(F.ts.length<=900∧F.n<=900)∧X.wi.length<=1000000∧(X.wi++frW [] e).length+e.hk.length<=1000000∧e.g.length<=10000000∧(sz.ts.length<=900∧sz.n<=900)∧0<rz.own.length
instance{k:Ks}{e:Ev}{s F:Ps}{X:Ses}{s2 sz:Ps}{rz:Rsd}:Decidable (AnE k e s F X s2 sz rz):=by unfold AnE;infer_instance
def C5Z(L:List (LN×LN))(k:Ks)(e:Ev)(s:Ps)(tx:LN)(c:Ses->Ps×Rsd->Bool):Bool :=
  Fo.f (anR k e.he s) λN=>Fo.f (idS k N.2) λF=>Fo.f (⟨e.ses,aWi k e N.2,he0,false,A14 (N.1.getD ([],[])).1 (N.1.getD ([],[])).2⟩:Ses) λX=>Fo.f (opB F X.r e.hk e.hp) λC=>Fo.f (opD C e.hn) λD=>Fo.f (A5u C e.hn) λK=>Fo.f (opZ (A0W X.r e.hk) D (opG X.r C e.hn)) λO =>
    (Fo.f (P5 (aNm k e N.2)) λw=>nmB F.ts w e.ses)&&(!F.real&&((F.ts.all tmB&&Fo.f (F.ts.map tcd) ndC)&&(anT L e tx N F X C D K&&(decide (AnE k e s F X N.2 O.1 O.2)&&c X O))))
theorem C11{k:Ks}{c:Ses->Ps×Rsd->Bool}(h:C5Z L k e s tx c=true):AnB L k e s tx∧c (anX k e s) (anO k e s)=true:=by
  unfold C5Z at h;simp only [Fo.e,Bool.and_eq_true,decide_eq_true_eq,Bool.not_eq_true'] at h;obtain ⟨h1,h2,h3,h4,h5,h6⟩:=h;obtain ⟨e1,e2⟩:=C4a h2 (A9j (by rw [Bool.and_eq_true,Fo.e];exact h3)) h1;have hF:anF k e s=idS k (anR k e.he s).2:=e1
  have hX:anX k e s=⟨e.ses,aWi k e (anR k e.he s).2,he0,false,A14 (A8l k e s) (A8m k e s)⟩:=by unfold anX aX;rw [e2]
  obtain ⟨d1,d2,d3,d4,d5⟩:=h5;rw [<- hF] at d4 h4 h6 d5;change anT L e tx _ _ ⟨e.ses,aWi k e (anR k e.he s).2,he0,false,A14 (A8l k e s) (A8m k e s)⟩ _ _ _=true at h4;change c ⟨e.ses,aWi k e (anR k e.he s).2,he0,false,A14 (A8l k e s) (A8m k e s)⟩ _=true at h6;rw [<- hX] at h4 h6;refine ⟨⟨h4,d1,d2,d3,e2,d4,?_⟩,h6⟩;rw [show aX k e (anR k e.he s).2 (A8l k e s) (A8m k e s)=_ from hX];unfold anO anC;rw [hX];exact d5
def a5(f:Nat->Bool):Bool:=f 0&&(f 1&&(f 2&&(f 3&&f 4)))
section
variable{m n j i:Nat}(h:rc0 m=rc0 n)
include h
theorem C4b:rcA m=rcA n:=by unfold rcA;rw [h]
theorem C50:rcB m=rcB n:=by unfold rcB;rw [C4b h]
end

def OpA(s:Ps)(x:Ses)(e:Ev):Prop:=s.ts.length<=900∧s.n<=900∧x.id=e.ses∧x.wi.length<=1000000∧e.ses.length+e.he.ia.length+e.he.ig.length+e.he.key.length<=1000000∧(x.wi++frW [] e).length+e.hk.length<=1000000∧e.g.length<=10000000∧0<x.id.length
structure OpG(s:Ps)(x:Ses)(e:Ev)(z:Ps)(r:Rsd)(c:Int)(t:LN):Prop where
  a:OpA s x e
  h:OpnH s x.r e.hk e.hp e.hn
  o:T8 s x.r (x.wi++frW [] e) e.hk e.hp e.hn e.g=(z,r,c,t)
instance{s:Ps}{x:Ses}{e:Ev}:Decidable (OpA s x e):=by unfold OpA;infer_instance
def inQ:Int->Bool
  | .ofNat n=>Nat.ble n 9223372036854775807
  | .negSucc n=>Nat.ble n 9223372036854775807
theorem B5L{i:Int}(h:inQ i=true):-9223372036854775808<=i∧i<=9223372036854775807:=by
  cases i with
  | ofNat n=>have:=Nat.le_of_ble_eq_true h;constructor<;>(show _<=_;simp only [Int.ofNat_eq_natCast];omega)
  | negSucc n=>have:=Nat.le_of_ble_eq_true h;constructor<;>omega
def tmQ(t:Tm):Bool:=Nat.ble t.kind 255&&(inQ t.n&&(t.of.all inQ&&(Nat.ble t.of.length 1048576&&(Nat.ble (t.text.foldr Nat.lor 0) 255&&Nat.ble t.text.length 1099511627776))))
theorem B9v:∀ {l:LN},l.foldr Nat.lor 0<=255->∀x∈l,x<=255
  | [],_,x,hx=>absurd hx List.not_mem_nil
  | a::l,h,x,hx=>by
    have h1:a<=a ||| l.foldr Nat.lor 0:=Nat.left_le_or;have h2:l.foldr Nat.lor 0<=a ||| l.foldr Nat.lor 0:=Nat.right_le_or;have h3:a ||| l.foldr Nat.lor 0<=255:=h;rcases List.mem_cons.1 hx with rfl|hx
    . omega
    . exact B9v qO x hx
theorem C4c{t:Tm}(h:tmQ t=true):tmB t=true:=by
  simp only [tmQ,Bool.and_eq_true,List.all_eq_true] at h;obtain ⟨a,b,c,d,e,f⟩:=h;have a:=Nat.le_of_ble_eq_true a;simp only [tmB,Bool.and_eq_true,decide_eq_true_eq,List.all_eq_true];refine ⟨⟨⟨⟨⟨⟨?_,(B5L b).1⟩,(B5L b).2⟩,λi hi=>B5L (c i hi)⟩,Nat.le_of_ble_eq_true d⟩,λx hx=>?_⟩,Nat.le_of_ble_eq_true f⟩
  . unfold Nat.blt;exact Nat.ble_eq_true_of_le qO
  . have:=B9v (Nat.le_of_ble_eq_true e) x hx;omega
theorem allQ(h:ts.all tmQ=true):ts.all tmB=true:=List.all_eq_true.2 λt ht=>C4c (List.all_eq_true.1 h t ht)
def bI(k:Bool):Int:=if k then 1 else 0
def wG(k:Bool)(x:Ses):LN:=wiW x x.he (bI k) 1 (bI !k) 1
def eG(k:Bool)(s:Ps)(x:Ses)(t:LN):Ev:=evS s x x.he (bI k) 1 (bI !k) 1 t
def sG(k:Bool)(s:Ps)(x:Ses)(t:LN):Ps:=W5 s x.r (wG k x) t
def SnG(k:Bool)(s:Ps)(x:Ses):Prop:=s.ts.length<=900∧0<x.r.sk.length∧x.wi.length<=1000000∧x.id.length+x.he.ia.length+x.he.ig.length+x.he.key.length<=1000000∧(wG k x).length<=1000000
structure OpR(s:Ps)(p q:Rsd)(w t:LN)(z:Ps)(r:Rsd):Prop where
  h:OpnH (W5 s p w t) q (I5 s p.own) p.prev p.sn
  o:T8 (W5 s p w t) q w (I5 s p.own) p.prev p.sn (A3b s p w t)=(z,r,0,t)
  g:(A3b s p w t).length<=1000
  l:(W5 s p w t).ts.length<=900
  n:(W5 s p w t).n<=900
structure Lw(W:LN->Prop)(L:Nat->Ps->Rsd->Rsd->Prop):Prop where
  bd:∀ {N:Nat} {s:Ps} {p q:Rsd},L N s p q->N<=22->s.ts.length<=900∧0<p.sk.length∧0<q.sk.length∧(I5 s p.own).length=32∧(I5 s q.own).length=32
  wl:∀ {w:LN},W w->w.length<=1000
  one:∀ {N:Nat} {s:Ps} {p q:Rsd} {w:LN} {i:Nat},L N s p q->N<22->W w->i<20->∃z r,OpR s p q w [i] z r∧L (N+1) z (K3 s p) r
  two:∀ {N:Nat} {s:Ps} {p q:Rsd} {w:LN} {i:Nat},L N s p q->N<22->W w->i<20->∃z r,OpR s q p w [i] z r∧L (N+1) z (K3 s q) r
def Lf(L:Nat->Ps->Rsd->Rsd->Prop)(f:Bool)(N:Nat)(s:Ps)(a b:Rsd):Prop:=if f then L N s b a else L N s a b
section
variable{W:LN->Prop}{L:Nat->Ps->Rsd->Rsd->Prop}(h:Lw W L)
include h
end
variable{r:Rsd}
theorem C4d{k:Bool}{z:Ps}{x y:Ses}(h:OpR s x.r y.r (wG k x) t z r)(hi:x.id=y.id)(hw:x.wi=y.wi)(il:x.id.length=32)(wl:x.wi.length<=1000)(hl:x.he.ia.length+x.he.ig.length+x.he.key.length<=1000)(gl:(wG k x).length<=1000)(pl:(I5 s x.r.own).length=32):OpG (sG k s x t) y (eG k s x t) z r 0 t:=by
  have e:y.wi++frW [] (eG k s x t)=wG k x:=by rw [<- hw];rfl
  refine ⟨⟨h.l,h.n,hi.symm,by rw [<- hw];omega,?_,?_,?_,by rw [<- hi];omega⟩,h.h,?_⟩
  . show x.id.length+x.he.ia.length+x.he.ig.length+x.he.key.length<=_;omega
  . rw [e];show _+(I5 s x.r.own).length<=_;omega
  . show (A3b s x.r (wG k x) t).length<=_;have:=h.g;omega
  . rw [e];exact h.o
def B1E:LN:=[98,101,103,105,110]
def olY(B:Ks)(s:Ps):Bn:=(A7k B s).1.getD 0 rcO
def olX(A B:Ks)(s:Ps):Ses:=sX A (olY B s) (A7k B s).2
def olD(A B:Ks)(s:Ps):Ps:=sD A (olY B s) (A7k B s).2
def olE(A B:Ks)(s:Ps):Ev:=evS (olD A B s) (olX A B s) (olX A B s).he 0 1 1 1 B1E
def olS(A B:Ks)(s:Ps):Ps:=W5 (olD A B s) (olX A B s).r (wiW (olX A B s) (olX A B s).he 0 1 1 1) B1E
def olZ(A B:Ks)(s:Ps):Ses:=W9 (olX A B s) (K3 (olD A B s) (olX A B s).r)
structure StepF(A B:Ks)(s s':Ps)(x t:Ses):Prop where
  ln:s.ts.length<=900∧s.n<=100
  st:C37 A (A7k B s) (olY B s)
  sn:SnF (olD A B s) (olX A B s) 0 1 1 1
  xe:x=olZ A B s
  an:∃sec own s2 rz,AnF B (olE A B s) (olS A B s) B1E sec own s2 s' rz∧t=Q7 (aX B (olE A B s) s2 sec own) rz
def GoQ:Nat->Ps->List (Ses×Ses)->Prop
  | 0,_,_=>True
  | n+1,s,L=>∀j x t v,L[j]? = some (x,t)->v<256->SnG true s t∧(L.length<=j+4->∃z r,OpG (sG true s t [v]) x (eG true s t [v]) z r 0 [v]∧GoQ n z (L.set j (Q7 x r,W9 t (K3 s t.r))))∧(j+4<L.length->GoQ n (sG true s t [v]) (L.set j (x,W9 t (K3 s t.r))))
structure Nam(L:List (Ses×Ses)):Prop where
  a:∀y∈L,y.1.id=y.2.id∧y.2.tell=false∧y.2.he=he0
  d:(L.map (·.1.id)).Nodup
theorem Nam.set{L:List (Ses×Ses)}(h:Nam L){j:Nat}{x t x' t':Ses}(hj:L[j]? = some (x,t))(h1:x'.id=x.id)(h2:t'.id=t.id)(h3:t'.tell=t.tell)(h4:t'.he=t.he):Nam (L.set j (x',t')):=by
  have g:=h.a _ (As hj);refine ⟨λy hy=>?_,?_⟩
  . rcases Bf hy with hy|rfl
    . exact h.a y hy
    . exact ⟨h1.trans (g.1.trans h2.symm),h3.trans g.2.1,h4.trans g.2.2⟩
  . have e:(L.set j (x',t')).map (·.1.id)=L.map (·.1.id):=by
      rw [List.map_set];refine List.ext_getElem? λi=>?_;rw [List.getElem?_set];split
      . next e =>
        subst e;rw [List.getElem?_map,hj,List.length_map];have:=(Ac.1 hj).1;rw [if_pos this];exact congrArg some h1
      . rfl
    rw [e];exact h.d
def OlP(A B:Ks):Nat->Ps->List (Ses×Ses)->Prop
  | 0,_,_=>True
  | n+1,s,L=>∃s' x t,StepF A B s s' x t∧Nam (L++[(x,t)])∧GoQ 12 s' (L++[(x,t)])∧OlP A B n s' (L++[(x,t)])
structure Lo(W:LN->Prop)(G:Nat->Ps->Prop)(E0_:Ps->Ps->Prop)(K:Nat->Ps->Rsd->Rsd->Prop)(S:Nat->Ps->Rsd->Prop):Prop where
  bd:∀ {N:Nat} {s:Ps},G N s->N<=12->s.ts.length<=900
  wl:∀ {w:LN},W w->w.length<=1000
  kx:∀ {N:Nat} {s z:Ps} {a b:Rsd},K N s a b->G N s->E0_ s z->G (N+1) z->N<12->K (N+1) z a b
  sx:∀ {N:Nat} {s z:Ps} {b:Rsd},S N s b->E0_ s z->S (N+1) z b
  ks:∀ {N:Nat} {s:Ps} {a b:Rsd},K N s a b->S N s b
  sb:∀ {N:Nat} {s:Ps} {b:Rsd},S N s b->G N s->N<=12->0<b.sk.length∧(I5 s b.own).length=32
  st:∀ {N:Nat} {s:Ps} {b:Rsd} {w:LN} {v:Nat},S N s b->G N s->N<12->W w->v<256->E0_ s (W5 s b w [v])∧G (N+1) (W5 s b w [v])∧S (N+1) (W5 s b w [v]) (K3 s b)
  go:∀ {N:Nat} {s:Ps} {a b:Rsd} {w:LN} {v:Nat},K N s a b->G N s->N<12->W w->v<256->∃z r,OpR s b a w [v] z r∧E0_ s z∧G (N+1) z∧K (N+1) z r (K3 s b)
structure SQ(W:LN->Prop)(x t:Ses):Prop where
  id:t.id=x.id
  wi:t.wi=x.wi
  il:t.id.length=32
  wl:t.wi.length<=1000
  hl:t.he.ia.length+t.he.ig.length+t.he.key.length<=1000
  w:W (wG true t)
def Cq(W:LN->Prop)(K:Nat->Ps->Rsd->Rsd->Prop)(S:Nat->Ps->Rsd->Prop)(N:Nat)(s:Ps)(L:List (Ses×Ses)):Prop:=∀j x t,L[j]? = some (x,t)->SQ W x t∧S N s t.r∧(L.length<=j+4->K N s x.r t.r)
variable{N:Nat}
section
variable{W:LN->Prop}{G:Nat->Ps->Prop}{E0_:Ps->Ps->Prop}{K:Nat->Ps->Rsd->Rsd->Prop}{S:Nat->Ps->Rsd->Prop}(h:Lo W G E0_ K S)
include h
theorem B9w{z:Ps}{L:List (Ses×Ses)}{x t:Ses}(hc:Cq W K S N s L)(hg:G N s)(hE:E0_ s z)(hz:G (N+1) z)(hN:N<12)(h1:SQ W x t)(h2:S (N+1) z t.r)(h3:L.length<=j+4->K (N+1) z x.r t.r):Cq W K S (N+1) z (L.set j (x,t)):=λi x' t' hi=>by
  rw [Bk];rw [List.getElem?_set] at hi;split at hi
  . next e =>
    subst e;split at hi
    . cases hi;exact ⟨h1,h2,h3⟩
    . cases hi
  . obtain ⟨a1,a2,a3⟩:=hc i x' t' hi;exact ⟨a1,h.sx a2 hE,λq=>h.kx (a3 q) hg hE hz hN⟩
theorem B0v:∀(n N:Nat) (s:Ps) (L:List (Ses×Ses)),G N s->Cq W K S N s L->N+n<=12->GoQ n s L
  | 0,_,_,_,_,_,_=>trivial
  | n+1,N,s,L,hg,hc,hN=>λj x t v hj hv=>by
    obtain ⟨q,k1,k2⟩:=hc j x t hj;obtain ⟨b1,b2⟩:=h.sb k1 hg qO;have l0:=h.bd hg qO;have l1:=h.wl q.w;have l2:=q.il;have l3:=q.wl;have l4:=q.hl;refine ⟨⟨l0,b1,by omega,by omega,by omega⟩,λh4=>?_,λ_=>?_⟩
    . obtain ⟨z,r,c1,c2,c3,c4⟩:=h.go (k2 h4) hg qO q.w hv;exact ⟨z,r,C4d c1 q.id q.wi l2 l3 l4 l1 b2,B0v n (N+1) z _ c3 (B9w h hc hg c2 c3 qO ⟨q.id,q.wi,l2,l3,l4,q.w⟩ (h.ks c4) λ_=>c4) qO⟩
    . obtain ⟨c1,c2,c3⟩:=h.st k1 hg qO q.w hv;exact B0v n (N+1) _ _ c2 (B9w h hc hg c1 c2 qO ⟨q.id,q.wi,l2,l3,l4,q.w⟩ c3 λh4=>absurd h4 qO) qO
end

def SkW(s:Ps)(x:Skp):Prop:=KK s x.key∧x.of.length=32∧x.n<4294967296
structure WfR(s:Ps)(r:Rsd):Prop where
  own:KK s r.own
  root:KK s r.root
  sk:r.sk=[]∨KK s r.sk
  tk:r.tk=[]∨KK s r.tk
  th:r.their=[]∨∃b,K32 b∧T0 s b r.their
  sks:∀x∈r.sks,SkW s x
  tt:r.tk≠[]->r.their≠[]
theorem SkW.ext{s s':Ps}{x:Skp}(h:SkW s x)(he:Pext s s'):SkW s' x:=⟨h.1.ext he,h.2⟩
theorem WfR.ext{s s':Ps}{r:Rsd}(h:WfR s r)(he:Pext s s'):WfR s' r :=
  ⟨h.own.ext he,h.root.ext he,h.sk.imp id λk=>k.ext he,h.tk.imp id λk=>k.ext he,h.th.imp id λ⟨b,k,p⟩=>⟨b,k,p.ext he⟩,λx hx=>(h.sks x hx).ext he,h.tt⟩
variable{of:LN}
theorem B0w{sks:List Skp}{x:Skp}(h:x∈A5Z sks of n):x∈sks:=by
  unfold A5Z at h;split at h
  . exact h
  . exact List.mem_of_mem_eraseIdx h
theorem B8i{sks:List Skp}{x y:Skp}(h:y∈B9a sks x):y∈sks∨y=x:=by
  rcases List.mem_append.1 (List.mem_of_mem_drop (show y∈(A5Z sks x.of x.n++[x]).drop _ from h)) with h|h
  . exact .inl (B0w h)
  . exact .inr (List.mem_singleton.1 h)
theorem B8j{sks:List Skp}(h:A5s sks of n=some k):∃x∈sks,x.key=k:=by
  unfold A5s at h;split at h
  . cases h
  . obtain ⟨x,h1,h2⟩:=Option.map_eq_some_iff.1 h;exact ⟨x,As h1,h2⟩
variable{hk:LN}
theorem B8k(h:∀x∈hk,x<256)(p n:Nat):∀x∈A67 hk p n,x<256:=λx hx=>by
  unfold A67 at hx;simp only [List.mem_append] at hx;rcases hx with ((h1|h1)|h1)|h1
  . exact A5T _ _ x h1
  . exact h x h1
  . exact A5T _ _ x h1
  . exact A5T _ _ x h1
theorem C4e(hw:∀x∈w,x<256)(h:∀x∈hk,x<256)(p n:Nat):∀x∈alW w hk p n,x<256:=λx hx=>by
  unfold alW A50 at hx;simp only [List.mem_append] at hx;rcases hx with ((h1|h1)|h1)|h1
  . exact A5T _ _ x h1
  . exact hw x h1
  . exact A5T _ _ x h1
  . exact B8k h p n x h1
theorem C12(w hk:LN)(p n:Nat):(alW w hk p n).length=w.length+hk.length+20:=by unfold alW;rw [A3s,A26];omega
theorem A1Z(K N wa p:LN):(U1 K N wa p).length=p.length+16:=by unfold U1;rw [An,A0l,A48]
theorem B8l(s:Ps)(w a b:LN):(C1z s w a b).length<=b.length+32:=by
  unfold C1z;split
  . rw [A1Z];omega
  . unfold B6U;rw [show (bts _).length=32 from A0U _ qD];omega
structure Snt(s:Ps)(hk:LN)(hp hn:Nat)(g:LN):Prop where
  pub:∃b,K32 b∧T0 s b hk
  hp:hp<4294967296
  hn:hn<4294967296
  gl:g.length<=1000
theorem A4f(s:Ps)(r:Rsd)(w t:LN):(W5 s r w t).ts.length<=s.ts.length+7∧(W5 s r w t).n=s.n:=by have h1:=A3r s r.own;have h2:=A06 (H3 s r.own) r.sk;have h3:=B0s (Z7 (H3 s r.own) r.sk) (X7 (H3 s r.own) r.sk) (B1q s r w) t;have h4:=C5w s r.own;unfold W5;exact ⟨by omega,by omega⟩
theorem C13(h:GS s)(hr:WfR s r)(hsk:r.sk≠[])(hp:r.prev<4294967296)(hn:r.sn<4294967296)(hw:∀x∈w,x<256)(hwl:w.length<=1000)(ht:∀x∈t,x<256)(htl:t.length<=900)(hl:s.ts.length<=1020000) :
    GS (W5 s r w t)∧Ext s (W5 s r w t)∧WfR (W5 s r w t) (K3 s r)∧T0 (W5 s r w t) r.own (I5 s r.own)∧Snt (W5 s r w t) (I5 s r.own) r.prev r.sn (A3b s r w t)∧A5b (W5 s r w t) r.sk (X7 (H3 s r.own) r.sk) (A1i (H3 s r.own) r.sk)∧KK (W5 s r w t) (X7 (H3 s r.own) r.sk) ∧
    (∀s',GS s'->Pext (W5 s r w t) s'->s'.ts.length<=1048576->A3a s' (X7 (H3 s r.own) r.sk) (alW w (I5 s r.own) r.prev r.sn) (A3b s r w t)=some t):=by
  have hk:KK s r.sk:=hr.sk.resolve_left hsk;have l1:=A3r s r.own;obtain ⟨g1,p1⟩:=B5A h hr.own qO;have e1:=A95 s r.own;obtain ⟨g2,k2,k3,sa⟩:=A54 (c:=r.sk) g1 (hk.ext e1.p) qO;have e2:=A9i (H3 s r.own) r.sk;have l2:=A06 (H3 s r.own) r.sk;have hal:∀x∈B1q s r w,x<256:=C4e hw p1.k32.1 _ _;have hall:(B1q s r w).length=w.length+32+20:=by rw [<- p1.k32.2];exact C12 _ _ _ _
  have g3:=C5E (a:=B1q s r w) (b:=t) g2 k2 hal ht qO qO qO;have e3:=C30 (Z7 (H3 s r.own) r.sk) (X7 (H3 s r.own) r.sk) (B1q s r w) t;have l3:=B0s (Z7 (H3 s r.own) r.sk) (X7 (H3 s r.own) r.sk) (B1q s r w) t;have eA:Ext s (W5 s r w t):=e1.trans (e2.trans e3);have g3':GS (W5 s r w t):=g3;have p3:T0 (W5 s r w t) r.own (I5 s r.own):=p1.ext (e2.trans e3).p;refine ⟨g3',eA,?_,p3,⟨⟨_,hr.own.2,p3⟩,hp,hn,?_⟩,?_,k2.ext e3.p,?_⟩
  . have h':=hr.ext eA.p;exact ⟨h'.own,h'.root,.inr (k3.ext e3.p),h'.tk,h'.th,h'.sks,h'.tt⟩
  . have:=B8l (Z7 (H3 s r.own) r.sk) (X7 (H3 s r.own) r.sk) (B1q s r w) t;unfold A3b;omega
  . have:=A4f s r w t;exact sa.ext e3.p g2 g3 (show (W5 s r w t).ts.length<=_ by omega)
  . intro s' g' e' l';exact C1A g2.tok k2.1 hal ht (Az (Nat.le_of_eq hall) qO) qO e' g'.tok l'
theorem C4f{of:LN}(ho:of.length=32):∀(i:Nat) {x:Ast},GS x.1->KK x.1 x.2.1->(∀y∈x.2.2.2,SkW x.1 y)->x.2.2.1+i<4294967296->x.1.ts.length+3*i<=1020000 ->
    GS (rep (aSt of) i x).1∧Ext x.1 (rep (aSt of) i x).1∧KK (rep (aSt of) i x).1 (rep (aSt of) i x).2.1∧∀y∈(rep (aSt of) i x).2.2.2,SkW (rep (aSt of) i x).1 y
  | 0,x,h1,h2,h3,_,_=>⟨h1,Ext.refl _,h2,h3⟩
  | i+1,x,h1,h2,h3,hn,hl=>by
    obtain ⟨g1,g2,g3,g4⟩:=C4f ho i h1 h2 h3 qO qO;have hts:=B4T of i x;have hnn:=B75 of i x;have e1:=A9i (rep (aSt of) i x).1 (rep (aSt of) i x).2.1;obtain ⟨a1,a2,a3,-⟩:=A54 g1 g3 qO;refine ⟨a1,g2.trans e1,a3,λy hy=>?_⟩;rcases B8i (show y∈B9a (rep (aSt of) i x).2.2.2 ⟨of,(rep (aSt of) i x).2.2.1,X7 (rep (aSt of) i x).1 (rep (aSt of) i x).2.1⟩ from hy) with hy|rfl
    . exact (g4 y hy).ext e1.p
    . exact ⟨a2,ho,by show (rep (aSt of) i x).2.2.1<_;omega⟩
theorem C4g{key:LN}{sks:List Skp}(h:GS s)(hk:KK s key)(ho:of.length=32)(hs:∀y∈sks,SkW s y)(hn:n<4294967296)(hl:s.ts.length<=1010000) :
    GS (ahX s key N n of sks).1∧Ext s (ahX s key N n of sks).1∧KK (ahX s key N n of sks).1 (ahX s key N n of sks).2.1∧∀y∈(ahX s key N n of sks).2.2.2,SkW (ahX s key N n of sks).1 y:=by
  by_cases hE:ahE N n=0
  . obtain ⟨h1,h2⟩:=B5u hE;rw [A1k hE];exact C4f ho (n-N) (x:=(s,key,N,sks)) h hk hs (by dsimp only;omega) (by dsimp only;omega)
  . rw [B5v hE];exact ⟨h,Ext.refl _,hk,hs⟩
variable{hp:Nat}
theorem C4h{g:LN}{hn:Nat}(h:GS s)(hr:WfR s r)(hm:Snt s hk hp hn g)(tn:r.tn<4294967296)(sn:s.n<1000000000)(hsl:r.sks.length<=1000)(hl:s.ts.length<=1000000) :
    OpnH s r hk hp hn∧GS (T8 s r w hk hp hn g).1∧Ext s (T8 s r w hk hp hn g).1∧WfR (T8 s r w hk hp hn g).1 (T8 s r w hk hp hn g).2.1∧(T8 s r w hk hp hn g).1.ts.length<=s.ts.length+200∧(T8 s r w hk hp hn g).1.n<=s.n+1∧(T8 s r w hk hp hn g).2.1.sks.length<=1000∧(r.their≠[]->(T8 s r w hk hp hn g).2.1.their≠[]):=by
  obtain ⟨b,hb,hB⟩:=hm.pub;have kB:=hB.kk;have hkn:hk≠[]:=λe=>by have:=kB.2.2;rw [e] at this;cases this
  -- the first half
  have hA:GS (opA s r hp).1∧Ext s (opA s r hp).1∧(∀y∈(opA s r hp).2.2.2,SkW (opA s r hp).1 y):=by
    by_cases h0:r.tk=[]
    . rw [B0r h0];exact ⟨h,Ext.refl _,hr.sks⟩
    . rw [A5a h0];obtain ⟨b',hb',hB'⟩:=hr.th.resolve_left (hr.tt h0);obtain ⟨x1,x2,x3,x4⟩:=C4g (N:=r.tn) (n:=hp) h (hr.tk.resolve_left h0) hB'.k32.2 hr.sks hm.hp qO;exact ⟨x1,x2,x4⟩
  obtain ⟨a1,a2,a3⟩:=hA;have lA:=C1M s r hp tn hm.hp hsl;have lT:=A25 (opA s r hp).1 r.root r.own hk;obtain ⟨t1,t2,t3,-⟩:=C1O a1 (hr.root.ext a2.p) (hr.own.ext a2.p) (hB.ext a2.p) hb qO;have tE:=B5E (opA s r hp).1 r.root r.own hk
  have hBx:∀x,opB s r hk hp=x->GS x.1∧Ext s x.1∧KK x.1 x.2.root∧KK x.1 x.2.tk∧(∃b,K32 b∧T0 x.1 b x.2.their)∧(∀y∈x.2.sks,SkW x.1 y)∧x.2.tn<4294967296∧x.2.sks.length<=1000∧x.1.ts.length<=s.ts.length+55∧x.1.n=s.n:=by
    intro x hx;subst hx
    cases hf:A0W r hk with
    | true =>
      rw [B5x hf];exact ⟨t1,a2.trans tE,t2,t3,⟨b,hb,(hB.ext a2.p).ext tE.p⟩,λy hy=>(a3 y hy).ext tE.p,(show 0<4294967296 by decide),lA.2.2.2,by show (A44 _ _ _ _).ts.length<=_;omega,lT.2.trans lA.2.1⟩
    | false =>
      rw [B5y hf];have htk:r.tk≠[]:=λe=>by unfold A0W at hf;rw [e] at hf;simp at hf
      exact ⟨h,Ext.refl _,hr.root,hr.tk.resolve_left htk,hr.th.resolve_left (hr.tt htk),hr.sks,tn,hsl,by dsimp only;omega,E⟩
  obtain ⟨x,hx⟩:∃x,opB s r hk hp=x:=⟨_,E⟩
  obtain ⟨b1,b2,b3,b4,⟨bt,bt1,bt2⟩,b6,b7,b8,b9,b10⟩:=hBx x hx;have hC:=C4g (N:=x.2.tn) (n:=hn) b1 b4 bt2.k32.2 b6 hm.hn qO;have lC:=C1G x.1 x.2.tk x.2.tn hn x.2.their x.2.sks b7 hm.hn b8;change GS (opC x hn).1∧Ext x.1 (opC x hn).1∧KK (opC x hn).1 (opC x hn).2.1∧∀y∈(opC x hn).2.2.2,SkW (opC x hn).1 y at hC;change (opC x hn).1.ts.length<=_∧(opC x hn).1.n=_∧(opC x hn).2.2.1<_∧(opC x hn).2.2.2.length<=_ at lC;obtain ⟨c1,c2,c3,c4⟩:=hC;obtain ⟨d1,d2,d3,-⟩:=A54 c1 c3 qO;have dE:=A9i (opC x hn).1 (opC x hn).2.1;have dL:=A06 (opC x hn).1 (opC x hn).2.1;have hD:Ext s (opD x hn):=b2.trans (c2.trans dE)
  have hW:WfR (opD x hn) (opG r x hn):=by have h':=hr.ext hD.p;exact ⟨h'.own,b3.ext (c2.trans dE).p,h'.sk,.inr d3,.inr ⟨bt,bt1,bt2.ext (c2.trans dE).p⟩,λy hy=>(c4 y hy).ext dE.p,λ_ e=>by have e2:x.2.their=[]:=e;have:=bt2.k32.2;rw [e2] at this;cases this⟩
  obtain ⟨f1,f2⟩:=B5z (s:=opD x hn) d1 (by show (Z7 _ _).n<_;omega);have fE:=A94 (opD x hn);have fL:=A66 (opD x hn);have lT2:=A25 (E5 (opD x hn)) x.2.root (F3 (opD x hn)) x.2.their
  have lD:(opD x hn).ts.length<=s.ts.length+110∧(opD x hn).n=s.n:=by show (Z7 _ _).ts.length<=_∧(Z7 _ _).n=_;exact ⟨by omega,by omega⟩
  obtain ⟨u1,u2,u3,-⟩:=C1O f1 ((b3.ext (c2.trans dE).p).ext fE.p) f2 ((bt2.ext (c2.trans dE).p).ext fE.p) bt1 qO;have uE:=B5E (E5 (opD x hn)) x.2.root (F3 (opD x hn)) x.2.their
  have hO:OpnH s r hk hp hn:=⟨h.sel,λk hk_=>by obtain ⟨y,hy,rfl⟩:=B8j hk_;exact (hr.sks y hy).1.1,by rw [hx];exact d1.sel,by rw [hx];exact d2.1⟩
  refine ⟨hO,?_⟩
  have hsame:GS s∧Ext s s∧WfR s r∧s.ts.length<=s.ts.length+200∧s.n<=s.n+1∧r.sks.length<=1000∧(r.their≠[]->r.their≠[]):=⟨h,Ext.refl _,hr,by omega,by omega,hsl,id⟩
  have hth:x.2.their≠[]:=λe=>by have:=bt2.k32.2;rw [e] at this;cases this
  unfold T8;split
  . split
    . exact hsame
    . exact ⟨h,Ext.refl _,⟨hr.own,hr.root,hr.sk,hr.tk,hr.th,λy hy=>hr.sks y (B0w hy),hr.tt⟩,by dsimp only;omega,by dsimp only;omega,Az (A65 _ _ _) hsl,id⟩
  . split
    . exact ⟨a1,a2,hr.ext a2.p,by dsimp only;omega,by dsimp only;omega,hsl,id⟩
    . rw [hx];split
      . exact ⟨c1,b2.trans c2,hr.ext (b2.trans c2).p,by dsimp only;omega,by dsimp only;omega,hsl,id⟩
      . split
        . exact ⟨d1,hD,hr.ext hD.p,by dsimp only;omega,by dsimp only;omega,hsl,id⟩
        . cases hf:A0W r hk with
          | false =>
            rw [C1L rfl];exact ⟨d1,hD,hW,by dsimp only;omega,by dsimp only;omega,lC.2.2.2,λ_=>hth⟩
          | true =>
            rw [C1K rfl];have hW2:=hW.ext (fE.trans uE).p;refine ⟨u1,hD.trans (fE.trans uE),⟨f2.ext uE.p,u2,.inr u3,hW2.tk,hW2.th,hW2.sks,hW2.tt⟩,?_,?_,lC.2.2.2,λ_=>hth⟩
            . show (A44 (E5 (opD x hn)) x.2.root (F3 (opD x hn)) x.2.their).ts.length<=_;omega
            . show (A44 (E5 (opD x hn)) x.2.root (F3 (opD x hn)) x.2.their).n<=_;omega

def C4P(hk:LN)(k:Nat->LN)(sks:List Skp):Nat->List Skp
  | 0=>sks
  | i+1=>B9a (C4P hk k sks i) ⟨hk,i,k i⟩
theorem B9x{s:Ps}{hk:LN}{c k:Nat->LN}{sks:List Skp}:∀(i:Nat),(∀j,j<i->A5b s (c j) (k j) (c (j+1)))->rep (aSt hk) i (s,c 0,0,sks)=(s,c i,i,C4P hk k sks i)
  | 0,_=>rfl
  | i+1,h=>by show aSt hk (rep (aSt hk) i (s,c 0,0,sks))=_;rw [B9x i λj hj=>h j qO];obtain ⟨e1,e2,e3⟩:=(h i qO).eq;unfold aSt;dsimp only;rw [e1,e2,e3];rfl
theorem C14{R C g:LN}{c k:Nat->LN}(hg:GS s)(hl:s.ts.length<=1000000)(h0:A5s r.sks hk n=none)(hfr:A0W r hk=true)(hA:opA s r hp=(s,r.tk,r.tn,r.sks))(hAE:A9f r hp=0)(ta:TrnAt s r.root r.own b R C)(hB:T0 s b hk)
    (hc:c 0=C) (h16:n<=16) (hst:∀j,j<=n->A5b s (c j) (k j) (c (j+1))) (ho:A3a s (k n) (alW w hk hp n) g=some t) :
    T8 s r w hk hp n g=(A44 (E5 s) R (F3 s) hk,⟨F3 s,hk,A89 (E5 s) R (F3 s) hk,A8s (E5 s) R (F3 s) hk,0,c (n+1),n+1,r.sn,C4P hk k r.sks n⟩,0,t):=by
  obtain ⟨e1,e2,e3⟩:=ta.eq hB hg qO
  have hx:opB s r hk hp=(s,⟨r.own,hk,R,r.sk,r.sn,C,0,r.prev,r.sks⟩):=by rw [B5x hfr,hA];unfold C1H;dsimp only;rw [e1,e2,e3]
  have hE:ahE 0 n=0:=A3u (Am _) qO
  have hC:opC (s,(⟨r.own,hk,R,r.sk,r.sn,C,0,r.prev,r.sks⟩:Rsd)) n=(s,c n,n,C4P hk k r.sks n):=by show ahX s C 0 n hk r.sks=_;rw [A1k hE,Nat.sub_zero,<- hc];exact B9x n λj hj=>hst j qO
  obtain ⟨f1,f2,f3⟩:=(hst n (Av _)).eq;have hD:opD (s,(⟨r.own,hk,R,r.sk,r.sn,C,0,r.prev,r.sks⟩:Rsd)) n=s:=by unfold opD;rw [hC];exact f1
  have hK:A5u (s,(⟨r.own,hk,R,r.sk,r.sn,C,0,r.prev,r.sks⟩:Rsd)) n=k n:=by unfold A5u;rw [hC];exact f2
  rw [A3R h0 hx (λ_=>hAE) hE (by rw [hD,hK];exact ho),C1K hfr,hD];unfold opF opG;rw [hC];dsimp only;rw [f3,Af qO]
theorem A3l.cmT{a:LN}(hr:s.real=false)(h:A3l s a b k):A3l s b a k:=by rw [A3l.f hr] at h ⊢;obtain ⟨i,j,m,h1,h2,h3,h4,h5,h6⟩:=h;exact ⟨j,i,m,h2,h1,h4,h3,by rw [h5];unfold B85;rw [B7E],h6⟩
theorem TrnAt.cmT{s:Ps}{root a b R C:LN}(hr:s.real=false)(h:TrnAt s root a b R C):TrnAt s root b a R C:=by obtain ⟨k,L,h1,h2,h3,h4⟩:=h.ex;exact ⟨k,L,h1.cmT hr,h2,h3,h4⟩
def FrT(s:Ps)(w:LN)(n:Nat):Prop:=∃i:Nat,i<1048576∧w=bts ((i:Nat):Int)∧s.ts[i]? = some (B1z n)
theorem FrT.ext{s':Ps}(h:FrT s w n)(he:Pext s s'):FrT s' w n:=by obtain ⟨l,e⟩:=he.ts;obtain ⟨i,h1,h2,h3⟩:=h;exact ⟨i,h1,h2,by rw [e];exact A4D h3⟩
theorem FrT.uni{m:Nat}(h:FrT s w n)(h':FrT s w m):n=m:=by obtain ⟨i,h1,h2,h3⟩:=h;obtain ⟨j,k1,k2,k3⟩:=h';have e:=A8L qO qO (h2.symm.trans k2);subst e;have e2:=Cc (h3.symm.trans k3);have e3:=congrArg Tm.n e2;exact Int.ofNat_inj.1 e3
theorem C4i(hr:s.real=false)(h:Tok s.ts)(hn:s.n<1000000)(hl:s.ts.length<=1000000):FrT (E5 s) (F3 s) (s.n+1):=by obtain ⟨l,g1,g2,g3,g4⟩:=A4C (A6B (n:=s.n+1) qO) h;rw [A38 hr,A2V hr];have:=(Ac.1 g3).1;exact ⟨_,by omega,E,g3⟩
theorem C15{a:LN}(hr:s.real=false)(hl:s.ts.length<=1000000)(h:T0 s a p)(h':T0 s b p):a=b:=by unfold T0 at h h';rw [if_neg (by rw [hr];decide)] at h h';obtain ⟨i,j,h1,h2,h3,h4⟩:=h;obtain ⟨i',j',k1,k2,k3,k4⟩:=h';have l1:=(Ac.1 h3).1;have l2:=(Ac.1 k3).1;have e:=A8L qO qO (h4.symm.trans k4);subst e;have e2:=congrArg Tm.of (Cc (h3.symm.trans k3));have e3:((i:Nat):Int)=((i':Nat):Int):=(List.cons.inj e2).1;rw [h2,k2,e3]
structure LkT(N:Nat)(s:Ps)(p q:Rsd)(o:LN)(b c a:Nat):Prop where
  re:s.real=false
  gs:GS s
  wp:WfR s p
  wq:WfR s q
  ta:TrnAt s p.root p.own q.own q.root q.sk
  pa:T0 s p.own q.their
  po:T0 s o p.their
  fo:FrT s o b
  fp:FrT s p.own c
  fq:FrT s q.own a
  ne:b≠a
  cn:c<=s.n
  an:a<=s.n
  qk:q.tk=p.sk
  qn:q.tn=p.sn
  q0:q.sn=0
  sn:p.sn<=1+N
  pk:p.sk≠[]
  qc:q.sk≠[]
  ps:p.sks=[]
  qs:q.sks=[]
  pp:p.tk=[]∨p.tn=q.prev
  pv:p.prev<=1+N
  qv:q.prev<=1+N
  pt:p.tn<=1+N
  len:s.ts.length<=560+27*N
  n:s.n<=100+N
def LTe(N:Nat)(s:Ps)(p q:Rsd):Prop:=∃o b c a,LkT N s p q o b c a
def WT(w:LN):Prop:=(∀x∈w,x<256)∧w.length<=1000
theorem C51(hi:i<256):∀x∈[i],x<256:=λx hx=>by rw [List.mem_singleton.1 hx];omega
variable{q:Rsd}
theorem C4j{p:Rsd}(hL:LTe N s p q)(hN:N<12)(hw:WT w)(hi:i<256):∃z r,OpR s p q w [i] z r∧Ext s z∧LTe (N+1) z (K3 s p) r:=by
  obtain ⟨o,b,c,a,h⟩:=hL;have ln:=h.len;have nn:=h.n;have hsn:=h.sn;have hpv:=h.pv;obtain ⟨a1,a2,a3,a4,a5,a6,a7,a8⟩:=C13 (w:=w) (t:=[i]) h.gs h.wp h.pk qO qO hw.1 hw.2 (C51 hi) (show 1<=900 by decide) qO;have l1:=A4f s p w [i];have hk:I5 s p.own=q.their:=(h.pa.eq h.gs.tok qO).2;have hr':(W5 s p w [i]).real=false:=a2.p.real.trans h.re;have hO:=C4h (w:=w) (g:=A3b s p w [i]) a1 (h.wq.ext a2.p) a5 (by rw [h.qn];omega) qO (by rw [h.qs];exact Am _) qO;rw [hk] at a4 a5 a8 hO;obtain ⟨s1,s2,s3⟩:=a6.eq
  have hf:A0W q q.their=false:=by unfold A0W;rw [decide_eq_true E,decide_eq_false (show ¬q.tk=[] from by rw [h.qk];exact h.pk)];rfl
  have hE:ahE q.tn p.sn=0:=by rw [h.qn];exact A3u (Av _) qO
  have hC:opC (W5 s p w [i],q) p.sn=(W5 s p w [i],p.sk,p.sn,[]):=by show ahX _ q.tk q.tn p.sn q.their q.sks=_;rw [A1k hE,h.qn,Nat.sub_self,h.qk,h.qs];rfl
  have hD:opD (W5 s p w [i],q) p.sn=W5 s p w [i]:=by unfold opD;rw [hC];exact s1
  have hKK:A5u (W5 s p w [i],q) p.sn=X7 (H3 s p.own) p.sk:=by unfold A5u;rw [hC];exact s2
  have e:=A3R (w:=w) (g:=A3b s p w [i]) (t:=[i]) (hk:=q.their) (hp:=p.prev) (by rw [h.qs];rfl) (B5y hf) (λh=>by rw [hf] at h;cases h) hE (by rw [hD,hKK];exact a8 _ a1 (Pext.refl _) qO);rw [C1L hf,hD] at e
  have hG:opG q (W5 s p w [i],q) p.sn=⟨q.own,q.their,q.root,q.sk,q.sn,A1i (H3 s p.own) p.sk,p.sn+1,q.prev,[]⟩:=by unfold opG;rw [hC];dsimp only;rw [s3,Af qO]
  rw [hG] at e;dsimp only at e;obtain ⟨o1,o2,o3,o4,o5,o6,o7,o8⟩:=hO;rw [e] at o4;have hg:=a5.gl;refine ⟨_,_,⟨by rw [hk];exact o1,by rw [hk];exact e,hg,by omega,by omega⟩,a2,o,b,c,a,⟨hr',a1,a3,o4,h.ta.ext a2.p h.gs a1 qO,a4,h.po.ext a2.p,h.fo.ext a2.p,h.fp.ext a2.p,h.fq.ext a2.p,h.ne,by have:=h.cn;omega,by have:=h.an;omega,E,?_,h.q0,?_,?_,h.qc,h.ps,E,h.pp,by have:=h.pv;show p.prev<=_;omega,by have:=h.qv;show q.prev<=_;omega,by have:=h.pt;show p.tn<=_;omega,by omega,by omega⟩⟩
  . show p.sn+1=(p.sn+1)%4294967296;rw [Af qO]
  . show (p.sn+1)%4294967296<=_;rw [Af qO];omega
  . intro e3
    have:=(a3.sk)
    have hk2:=(A54 (c:=p.sk) (B5A h.gs h.wp.own qO).1 ((h.wp.sk.resolve_left h.pk).ext (A95 _ _).p) (by have:=A3r s p.own;omega)).2.2.1;have h2:=hk2.2.2;rw [show A1i (H3 s p.own) p.sk=[] from e3] at h2;cases h2
theorem C4k{p:Rsd}(hL:LTe N s p q)(hN:N<12)(hw:WT w)(hi:i<256):∃z r,OpR s q p w [i] z r∧Ext s z∧LTe (N+1) z (K3 s q) r:=by
  obtain ⟨o,b,c,a,h⟩:=hL;have ln:=h.len;have nn:=h.n;have hsn:=h.sn;have hpv:=h.qv;have hpt:=h.pt;obtain ⟨a1,a2,a3,a4,a5,a6,a7,a8⟩:=C13 (w:=w) (t:=[i]) h.gs h.wq h.qc qO (by rw [h.q0];decide) hw.1 hw.2 (C51 hi) (show 1<=900 by decide) qO;rw [h.q0] at a5 a8;have l1:=A4f s q w [i];have hr':(W5 s q w [i]).real=false:=a2.p.real.trans h.re;have hO:=C4h (w:=w) (g:=A3b s q w [i]) a1 (h.wp.ext a2.p) a5 qO qO (by rw [h.ps];exact Am _) qO
  have hne:¬I5 s q.own=p.their:=λe=>by have e1:=C15 hr' qO (h.po.ext a2.p) (e▸a4);exact h.ne ((h.fo.ext a2.p).uni (e1▸h.fq.ext a2.p))
  have hfr:A0W p (I5 s q.own)=true:=by unfold A0W;rw [decide_eq_false hne];rfl
  have hA:opA (W5 s q w [i]) p q.prev=(W5 s q w [i],p.tk,p.tn,p.sks)∧A9f p q.prev=0:=by
    by_cases h0:p.tk=[]
    . exact ⟨B0r h0,A9g h0⟩
    . have e:=h.pp.resolve_left h0;have hE:ahE p.tn q.prev=0:=by rw [e];exact A3u (Av _) qO
      rw [A5a h0,A3c h0,A1k hE];refine ⟨?_,hE⟩;rw [e,Nat.sub_self];rfl
  have e:=C14 (s:=W5 s q w [i]) (r:=p) (w:=w) (g:=A3b s q w [i]) (t:=[i]) (hp:=q.prev) (n:=0) (c:=λj=>if j=0 then q.sk else (K3 s q).sk) (k:=λ_=>X7 (H3 s q.own) q.sk) a1 qO (by rw [h.ps];rfl) hfr hA.1 hA.2 (h.ta.ext a2.p h.gs a1 qO) a4 E qD
    (λj hj=>by rw [show j=0 by omega];exact a6) (a8 _ a1 (Pext.refl _) qO)
  rw [h.ps] at e;change _=(_,(⟨_,_,_,_,0,A1i (H3 s q.own) q.sk,1,p.sn,[]⟩:Rsd),0,[i]) at e;obtain ⟨o1,o2,o3,o4,o5,o6,o7,o8⟩:=hO;rw [e] at o2 o3 o4 o5 o6;obtain ⟨f1,f2⟩:=B5z a1 qO;have fE:=A94 (W5 s q w [i]);have l2:=A66 (W5 s q w [i]);have kr:KK (E5 (W5 s q w [i])) q.root:=(h.wq.root.ext a2.p).ext fE.p;obtain ⟨t1,t2,t3,t4⟩:=C1O f1 kr f2 (a4.ext fE.p) h.wq.own.2 qO;have tE:=B5E (E5 (W5 s q w [i])) q.root (F3 (W5 s q w [i])) (I5 s q.own);have l3:=A25 (E5 (W5 s q w [i])) q.root (F3 (W5 s q w [i])) (I5 s q.own);have hz:(A44 (E5 (W5 s q w [i])) q.root (F3 (W5 s q w [i])) (I5 s q.own)).real=false:=(tE.p.real.trans fE.p.real).trans hr';have E0_:=a2.trans (fE.trans tE);have fn:=(C4i hr' a1.tok qO qO).ext tE.p;have hg:=a5.gl;refine ⟨_,_,⟨by rw [h.q0];exact o1,by rw [h.q0];exact e,hg,by omega,by omega⟩,E0_,p.own,c,a,(W5 s q w [i]).n+1,⟨hz,t1,a3.ext (fE.trans tE).p,o4,t4.cmT hz,a4.ext (fE.trans tE).p,h.pa.ext E0_.p,h.fp.ext E0_.p,h.fq.ext E0_.p,fn,by have:=h.cn;omega,by have:=h.an;omega,by omega,E,?_,E,?_,?_,?_,h.qs,E,.inr h.qn,by show q.prev<=_;omega,by show p.sn<=_;omega,by show q.tn<=_;rw [h.qn];omega,by omega,by omega⟩⟩
  . show 1=(q.sn+1)%4294967296;rw [h.q0]
  . show (q.sn+1)%4294967296<=_;rw [h.q0];show 1<=_;omega
  . intro e3;have hk2:=(A54 (c:=q.sk) (B5A h.gs h.wq.own qO).1 ((h.wq.sk.resolve_left h.qc).ext (A95 _ _).p) (by have:=A3r s q.own;omega)).2.2.1;have h2:=hk2.2.2;rw [show A1i (H3 s q.own) q.sk=[] from e3] at h2;cases h2
  . intro e3;have:=t3.2.2;rw [show A8s (E5 (W5 s q w [i])) q.root (F3 (W5 s q w [i])) (I5 s q.own)=[] from e3] at this;cases this
theorem LkT.ext{N N':Nat}{s z:Ps}{p q:Rsd}{o:LN}{b c a:Nat}(h:LkT N s p q o b c a)(he:Ext s z)(hg:GS z)(hl:z.ts.length<=560+27*N')(hn:z.n<=100+N')(hN:N<=N')(h12:N'<=12):LkT N' z p q o b c a:=by have e:=he.p;have cn:=h.cn;have an:=h.an;have en:=he.n;have h1:=h.sn;have h2:=h.pv;have h3:=h.qv;have h4:=h.pt;exact ⟨e.real.trans h.re,hg,h.wp.ext e,h.wq.ext e,h.ta.ext e h.gs hg qO,h.pa.ext e,h.po.ext e,h.fo.ext e,h.fp.ext e,h.fq.ext e,h.ne,by omega,by omega,h.qk,h.qn,h.q0,by omega,h.pk,h.qc,h.ps,h.qs,h.pp,by omega,by omega,by omega,hl,hn⟩
def KT(N:Nat)(s:Ps)(a b:Rsd):Prop:=LTe N s a b∨LTe N s b a
structure GT(N:Nat)(s:Ps):Prop where
  re:s.real=false
  gs:GS s
  len:s.ts.length<=560+27*N
  n:s.n<=100+N
structure STe(N:Nat)(s:Ps)(b:Rsd):Prop where
  wf:WfR s b
  sk:b.sk≠[]
  pv:b.prev<=1+N
  sn:b.sn<=1+N
theorem LTe.g{p:Rsd}(h:LTe N s p q):GT N s:=by obtain ⟨o,b,c,a,h⟩:=h;exact ⟨h.re,h.gs,h.len,h.n⟩
theorem LTe.ext{N N':Nat}{s z:Ps}{p q:Rsd}(h:LTe N s p q)(he:Ext s z)(hz:GT N' z)(hN:N<=N')(h12:N'<=12):LTe N' z p q:=by obtain ⟨o,b,c,a,h⟩:=h;exact ⟨o,b,c,a,h.ext he hz.gs hz.len hz.n hN h12⟩
theorem lo_t:Lo WT GT Ext KT STe where
  bd:=λh hN=>by have:=h.len;omega
  wl:=λh=>h.2
  kx:=λh hg he hz hN=>h.imp (λh=>h.ext he hz (Nat.le_succ _) hN) λh=>h.ext he hz (Nat.le_succ _) hN
  sx:=λh he=>⟨h.wf.ext he.p,h.sk,by have:=h.pv;omega,by have:=h.sn;omega⟩
  ks:=by
    rintro N s a b (⟨o,b',c,a',h⟩|⟨o,b',c,a',h⟩)
    . exact ⟨h.wq,h.qc,h.qv,by rw [h.q0];omega⟩
    . exact ⟨h.wp,h.pk,h.pv,h.sn⟩
  sb:=λh hg hN=>⟨List.length_pos_iff.2 h.sk,(B5A hg.gs h.wf.own (by have:=hg.len;omega)).2.k32.2⟩
  st:=by
    intro N s b w v h hg hN hw hv;have ln:=hg.len;have nn:=hg.n;have h1:=h.pv;have h2:=h.sn;obtain ⟨a1,a2,a3,a4,a5,a6,a7,a8⟩:=C13 (w:=w) (t:=[v]) hg.gs h.wf h.sk qO qO hw.1 hw.2 (C51 hv) (show 1<=900 by decide) qO;have l1:=A4f s b w [v];refine ⟨a2,⟨a2.p.real.trans hg.re,a1,by omega,by omega⟩,a3,?_,(by show b.prev<=_;omega),?_⟩
    . intro e3;have hk2:=(A54 (c:=b.sk) (B5A hg.gs h.wf.own qO).1 ((h.wf.sk.resolve_left h.sk).ext (A95 _ _).p) (by have:=A3r s b.own;omega)).2.2.1;have h2:=hk2.2.2;rw [show A1i (H3 s b.own) b.sk=[] from e3] at h2;cases h2
    . show (b.sn+1)%4294967296<=_;rw [Af qO];omega
  go:=by
    rintro N s a b w v (h|h) hg hN hw hv
    . obtain ⟨z,r,h1,h2,h3⟩:=C4k h hN hw hv;exact ⟨z,r,h1,h2,h3.g,.inr h3⟩
    . obtain ⟨z,r,h1,h2,h3⟩:=C4j h hN hw hv;exact ⟨z,r,h1,h2,h3.g,.inr h3⟩

end Go.Proofs.YtgpjndfgjjlhaaaGreatDoor
