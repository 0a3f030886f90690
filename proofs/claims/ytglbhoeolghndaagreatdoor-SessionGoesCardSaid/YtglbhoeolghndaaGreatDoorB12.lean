/- Part 12 of the texts of this claim, one behind the other. -/
import Derived.Test.YtglbhoeolghndaaGreatDoorB11
set_option linter.unusedVariables false
set_option linter.unusedSimpArgs false
set_option maxRecDepth 100000
open Go.Proofs.Tryz
noncomputable section
namespace Go.Proofs.YtglbhoeolghndaaGreatDoor
open Go.Px
set_option maxHeartbeats 1000000 in
theorem B5y(tb pb ka kb:Nat)(s:Ps)(x0:Ses)(c1:List Value)(tx:LN)(M0 A:Mem)(hT:TX A tb pb ka kb s x0 c1 M0)(hn:s.ts.length+200<=1000000)(htell:x0.tell=false)(hsk:0<x0.r.sk.length)(hwi:x0.wi.length<=1000000)(hel:x0.id.length+he0.ia.length+he0.ig.length+he0.key.length<=1000000)(hfl:(wiW x0 he0 0 1 1 1).length<=1000000)(htx:B256 tx)(ltx:tx.length<=1000000)(hG:Glb A):FnX prog 6 [(vP tb),P0,.string (txt tx)] M0 A λq M J=>TX (J++A) tb pb ka kb (U0 s x0.r (wiW x0 he0 0 1 1 1) tx) (K7 x0 (G9 s x0.r)) c1 M∧∃v,q=.tuple #[v,.bool true]∧EvV (J++A) v (evS s x0 he0 0 1 1 1 tx):=by
 obtain ⟨vi,vw,p0,r0,u0,vo,vt,vr,vk0,vl,vst,MP,rfl,hx,hP⟩:=hT;haveI:=hx.id.cel;haveI:=hx.wi.cel;haveI:=hx.he.ia.cel;haveI:=hx.he.ig.cel;haveI:=hx.he.key.cel;haveI:=hx.r.own.cel;haveI:=hx.r.their.cel;haveI:=hx.r.root.cel;haveI:=hx.r.sk.cel;haveI:=hx.r.tk.cel;haveI:=hx.r.st.cel;refine Cl (N:=51) func6 E E E λw_=>?_;refine A8 (D6 0 1 2) (A1 ?_);refine A2 E (C2 (cs:=[P0,P0,P0,P0,vS,.bool false,vS,vS,vS,D3,.bool false,D3,vS,D3,D3,vS]) kR E λb6=>?_);refine as_ (A0 (D7 0 1 2 6) ?_);refine F8 (MP) (_) true (0::1::2::3::4::5::6::7::8::9::10::11::12::13::14::15::16::17::18::19::20::21::22::23::24::25::26::27::28::29::30::31::34::[]) ((0,0)::(1,0)::(2,0)::(3,1)::(4,0)::(5,0)::(6,0)::(7,0)::(8,0)::(9,1)::(10,0)::(11,0)::(12,0)::(13,0)::(14,0)::(15,1)::(16,0)::(17,0)::(18,0)::(19,0)::(20,0)::(21,0)::(22,1)::(23,0)::(24,8)::(25,8)::(26,8)::(27,8)::(30,8)::(31,8)::(28,9)::(29,10)::(32,2)::(33,2)::(34,0)::[]) kR kR qP λhs K n0 hKm hKs hKn=>?_;refine kM_ E E (kQ_ E (E1 E) (kQ_ E (qf_ 0 0) ?_));refine I8 hs E hKs ql_ ?_;refine kM_ E E (kM_ E E (kQ_ E (E1 E) (kQ_ E (qf_ 7 7) ?_)));refine kQ_ E (D2 (e:=49) (n:=2) (sz:=18) (i:=0) 7 E E kR kR E qD E) ?_;refine I8 hs E hKs (F1 (n:=18) (vs:=(Zc vi vw p0 r0 u0 vo vt vr vk0 vl vst x0)) E kR Cc E (D1 (Zg pb ka kb) (Zc vi vw p0 r0 u0 vo vt vr vk0 vl vst x0) ((c1++[.bool true])))) ?_;refine kM_ E E (kM_ E E (kQ_ E (E1 E) (kQ_ E (qf_ 3 3) ?_)));refine kQ_ E (D2 (e:=27) (n:=2) (sz:=2) (i:=0) 3 E E kR kR E qD E) ?_;refine I8 hs E hKs (F1 (n:=2) (vs:=[P0,.int .i64 1]) E kR Cc E (D1 [(vP pb),(vP ka),(vP kb)] [P0,.int .i64 1] ([.int .i64 1,.int .i64 1,vi,vw,p0,r0,u0,(vU x0.he.signed),.bool x0.he.has,(vU x0.he.once),.bool x0.tell,vo,vt,vr,vk0,(vU x0.r.sn),vl,(vU x0.r.tn),(vU x0.r.prev),vst]++(c1++[.bool true])))) ?_;refine kM_ E E (km_ ?_);refine kQ_ E (D5 1 E E qR) ?_;refine kQ_ E (E1 E) (kQ_ E (qf_ 3 3) ?_);refine kQ_ E (D2 (e:=27) (n:=2) (sz:=2) (i:=1) 5 E E kR kR E qD E) ?_;refine I8 hs E hKs (F1 (n:=2) (vs:=[.int .i64 1,.int .i64 1]) E kR Cc E (D1 [(vP pb),(vP ka),(vP kb),P0,.int .i64 1] [.int .i64 1,.int .i64 1] ((Zc vi vw p0 r0 u0 vo vt vr vk0 vl vst x0)++(c1++[.bool true])))) ?_;refine km_ ?_
 refine W2 [⟨24,36,none,[],λv B R=>B=[]∧By R v tx⟩,⟨25,37,none,MP,λv B R=>∃q1 q2,v=.tuple #[q1,q2,P0]∧Prm pb (U0 s x0.r (wiW x0 he0 0 1 1 1) tx) B∧B0s R q1 (K7 x0 (G9 s x0.r))∧EvV R q2 (evS s x0 he0 0 1 1 1 tx)⟩,⟨26,11,none,[],λv B R=>B=[]∧∃q1 q2,v=.tuple #[q1,q2,P0]∧B0s R q1 (K7 x0 (G9 s x0.r))∧EvV R q2 (evS s x0 he0 0 1 1 1 tx)⟩,⟨27,38,none,[],λv B R=>B=[]∧B0s R v (K7 x0 (G9 s x0.r))⟩,⟨30,8,none,[],λv B _=>∃b,v=(vP b)∧B=[(b,blk Ze 49)]⟩,⟨31,9,none,[],λv B _=>∃b,v=(vP b)∧B=[(b,blk Zf 36)]⟩] [⟨28,39,none,[],λv B R=>B=[]∧EvV R v (evS s x0 he0 0 1 1 1 tx)⟩,⟨29,40,none,[],λv B R=>B=[]∧v=.int .i64 0⟩] ([(b6,blk Zf 36),(tb,blk ([(vP pb),(vP ka),(vP kb),P0,.int .i64 1,.int .i64 1,.int .i64 1,vi,vw,p0,r0,u0,(vU x0.he.signed),.bool x0.he.has,(vU x0.he.once),.bool x0.tell,vo,vt,vr,vk0,(vU x0.r.sn),vl,(vU x0.r.tn),(vU x0.r.prev),vst]++(c1++[.bool true])) 52)]) (λbs=>[bs 24,bs 25,bs 26,bs 27,bs 30,bs 31,bs 28,bs 29]) (hKn E) (by simp [U1,A0D]) (show ∀m∈([[],MP,[],[],[],[],[],[]]:List Mem),∀x∈m,K x.1 from A4 gn0 (A4 (hKm) (A4 gn0 (A4 gn0 (A4 gn0 (A4 gn0 (A4 gn0 (A4 gn0 (I5))))))))) kR (λ_=>by first|rfl|kernel_rfl)
  (A4 (λ_ _ _ _ h hp=>⟨hp.1,hp.2.mono h⟩) (A4 (λ_ _ _ _ h ⟨q1,q2,e,p1,p2,p3⟩=>⟨q1,q2,e,p1,p2.mono h,p3.mono h⟩) (A4 (λ_ _ _ _ h ⟨e0,q1,q2,e,p2,p3⟩=>⟨e0,q1,q2,e,p2.mono h,p3.mono h⟩) (A4 (λ_ _ _ _ h hp=>⟨hp.1,hp.2.mono h⟩) (A4 gM (A4 gM (A4 (λ_ _ _ _ h hp=>⟨hp.1,hp.2.mono h⟩) (A4 gM (I5))))))))) nd_ nd_ dl_
  hs (List.cons_ne_nil _ _) (gC ?_ (gC ?_ (gC ?_ (gC ?_ (gC ?_ (gC ?_ (I5))))))) (A4 ⟨E,E,_,_,_,_,E,λvs bs Rj hj ha=>?_⟩ (A4 ⟨E,E,_,_,_,_,E,λvs bs Rj hj ha=>?_⟩ (I5))) ?_
 .
  intros
  dsimp only [Gc.inp];refine OpL.frzAll ?_
  refine A0V (e:=5) E E htx.lt kR kR kR E λv B hs J2 hJ=>⟨_,E,E,⟨hs.mono λx hx=>Ae _ (hJ _ (by simp [hx])),htx.lt,Az ltx qD⟩⟩
 . intro _ _ R Rj _ _ hj hjr ha;dsimp only [Gc.inp];have g24:=gx 0 ha;dsimp only at g24;obtain ⟨-,h24⟩:=g24;haveI:=h24.cel;refine C9 (Mc:=MP) (R:=[]) (aS E (aS E (aS E (aS E (aS E (a0)))))) kR qM (Cj (A:=Rj) (λx hx=>by have:=hjr x hx;simp [this]) (B5s pb s x0 vi vw p0 r0 u0 vo vt vr vk0 vl vst _ 0 1 1 1 tx MP Rj hP hn (hx.mono (λx hx=>hj x (qS x hx))) htell hsk hwi hel hfl h24 ltx (hG.sub (λx hx=>hj x (qS x hx))))) E ?_;rintro v125 M125 J125 ⟨wo,wt,wr,wk,wl,wq,vid,q2,q3,rfl,hP25,p2,p3⟩;exact ⟨_,E,_,_,E,(by have h:=(show Prm pb (U0 s x0.r (wiW x0 he0 0 1 1 1) tx) M125 from hP25);simpa using h),⟨_,_,_,_,_,_,_,_,_,_,_,E,p2.mono (λx hx=>by simpa using hx)⟩,⟨_,_,_,_,_,_,E,p3.mono (λx hx=>by simpa using hx)⟩⟩
 . intro _ _ _ _ _ _ _ _ ha;dsimp only [Gc.inp];have g25:=gx 1 ha;dsimp only at g25;obtain ⟨q1,q2,e_,-,k⟩:=g25;exact Cn qm_ E ⟨_,E,E,q1,q2,e_,k⟩
 . intro vs bs _ _ _ _ _ _ ha;dsimp only [Gc.inp];have g26:=gx 2 ha;dsimp only at g26;obtain ⟨-,q1,q2,e_,k,-⟩:=g26;exact Cn (G6 (vs:=#[q1,q2,P0]) (by rw [<- e_];rfl) E) E ⟨_,E,E,k⟩
 .
  intros
  dsimp only [Gc.inp]
  exact C2 (cs:=[vS,vS,vS,vS,vS,D3,.bool false,D3,.bool false,vS,vS,vS,vS,D3,vS,D3,D3,.pointer none]) kR E λb=>⟨_,E,b,E,E⟩
 .
  intros
  dsimp only [Gc.inp]
  exact C2 (cs:=[P0,P0,P0,P0,vS,.bool false,vS,vS,vS,D3,.bool false,D3,vS,D3,D3,vS]) kR E λb=>⟨_,E,b,E,E⟩
 . have g26:=gx 2 ha;dsimp only at g26;obtain ⟨-,q1,q2,e_,-,k⟩:=g26;exact ⟨_,G6 (vs:=#[q1,q2,P0]) (by rw [<- e_];rfl) E,E,k⟩
 . have g26:=gx 2 ha;dsimp only at g26;obtain ⟨-,q1,q2,e_,-⟩:=g26;exact ⟨_,G6 (vs:=#[q1,q2,P0]) (by rw [<- e_];rfl) E,E,E⟩
 intro vs bs Jn0 hφ hKK;clear hKK;have g24:=gy 0 hφ;have g25:=gy 1 hφ;have g26:=gy 2 hφ;have g27:=gy 3 hφ;have g30:=gy 4 hφ;have g31:=gy 5 hφ;have g28:=gy 6 hφ;have g29:=gy 7 hφ;dsimp only at g24 g25 g26 g27 g30 g31 g28 g29;clear hφ;dsimp only [P7,U1,List.foldr,List.map,Cu,Ct];generalize bs 24=B36,bs 25=B37,bs 26=B11,bs 27=B38,bs 30=B8,bs 31=B9,bs 28=B39,bs 29=B40,vs 24=u36,vs 25=u37,vs 26=u11,vs 27=u38,vs 30=u8,vs 31=u9,vs 28=u39,vs 29=u40 at *;obtain ⟨-,-,-,hP27,-⟩:=g25;clear g26;obtain ⟨rfl,h24⟩:=g24;obtain ⟨rfl,ni,nw,np,nr,nu,no_,nt,nrr,nk,nl,nst,rfl,hn1⟩:=g27;obtain ⟨rfl,es,ep,er,eu,ek,eg,rfl,hn2⟩:=g28;obtain ⟨rfl,rfl⟩:=g29;obtain ⟨b8,rfl,rfl⟩:=g30;obtain ⟨b9,rfl,rfl⟩:=g31;haveI:=hn1.id.cel;haveI:=hn1.wi.cel;haveI:=hn1.he.ia.cel;haveI:=hn1.he.ig.cel;haveI:=hn1.he.key.cel;haveI:=hn1.r.own.cel;haveI:=hn1.r.their.cel;haveI:=hn1.r.root.cel;haveI:=hn1.r.sk.cel;haveI:=hn1.r.tk.cel;haveI:=hn1.r.st.cel;haveI:=hn2.ses.cel;haveI:=hn2.he.ia.cel;haveI:=hn2.he.ig.cel;haveI:=hn2.he.key.cel;haveI:=hn2.hk.cel;haveI:=hn2.g.cel;unfold seC evC;refine K1 E E E (A5 (vs:=(Zc ni nw np nr nu no_ nt nrr nk nl nst (K7 x0 (G9 s x0.r)))) E E E kR qR (A4 hn1.id.one (A4 hn1.wi.one (A4 hn1.he.ia.one (A4 hn1.he.ig.one (A4 hn1.he.key.one (A4 E (A4 E (A4 E (A4 E (A4 hn1.r.own.one (A4 hn1.r.their.one (A4 hn1.r.root.one (A4 hn1.r.sk.one (A4 E (A4 hn1.r.tk.one (A4 E (A4 E (A4 hn1.r.st.one I5)))))))))))))))))) Cs ?_);refine K1 E E E (A5 (vs:=[P0,.int .i64 1,.int .i64 1,.int .i64 1,es,.bool x0.tell,ep,er,eu,(vU he0.signed),.bool he0.has,(vU he0.once),ek,(vU x0.r.prev),(vU x0.r.sn),eg]) E E E kR qR (A4 E (A4 E (A4 E (A4 E (A4 hn2.ses.one (A4 E (A4 hn2.he.ia.one (A4 hn2.he.ig.one (A4 hn2.he.key.one (A4 E (A4 E (A4 E (A4 hn2.hk.one (A4 E (A4 E (A4 hn2.g.one I5)))))))))))))))) Cs ?_);refine kQ_ E (G3 E) (I1 (G7 0 1 6 8 9 10) (A3 (A1 (mV_ E (lQ_ (F5 false E E (neF E)) (A0 (G7 0 1 6 8 9 42) ?_))))));refine C7 E ?_;refine A6 (nx (F2 0 1 6 8 9) ?_);refine C8 [0,1,2,3,4,5] (zp 0 [0,0,1,0,0,0,2]) kR kR λhs=>?_;refine fM_ E E (fm_ ?_);refine fR_ E (qw_ 18) ?_;refine fQ_ E (E1 E) (fQ_ E (qf_ 7 7) ?_);refine fQ_ E (D2 (e:=49) (n:=2) (sz:=18) (i:=0) 7 E E kR kR E qD E) ?_
 refine G1 E E E (K3 (vs:=(Zc ni nw np nr nu no_ nt nrr nk nl nst (K7 x0 (G9 s x0.r)))) (cs':=[(vP pb),(vP ka),(vP kb),P0,.int .i64 1,.int .i64 1,.int .i64 1,ni,nw,np,nr,nu,(vU ((K7 x0 (G9 s x0.r)).he.signed)),.bool (K7 x0 (G9 s x0.r)).he.has,(vU ((K7 x0 (G9 s x0.r)).he.once)),.bool (K7 x0 (G9 s x0.r)).tell,no_,nt,nrr,nk,(vU ((K7 x0 (G9 s x0.r)).r.sn)),nl,(vU ((K7 x0 (G9 s x0.r)).r.tn)),(vU ((K7 x0 (G9 s x0.r)).r.prev)),nst]++(c1++[.bool true])) E E E kR (by simp only [List.length_cons,List.length_append,List.length_nil];omega) (A4 hn1.id.one (A4 hn1.wi.one (A4 hn1.he.ia.one (A4 hn1.he.ig.one (A4 hn1.he.key.one (A4 E (A4 E (A4 E (A4 E (A4 hn1.r.own.one (A4 hn1.r.their.one (A4 hn1.r.root.one (A4 hn1.r.sk.one (A4 E (A4 hn1.r.tk.one (A4 E (A4 E (A4 hn1.r.st.one I5)))))))))))))))))) E Cs ?_);refine E0 (D0 6 9) (A1 ?_);refine lQ_ (qw_ 16) ?_;refine A2 E (A5 (vs:=[P0,.int .i64 1,.int .i64 1,.int .i64 1,es,.bool x0.tell,ep,er,eu,(vU he0.signed),.bool he0.has,(vU he0.once),ek,(vU x0.r.prev),(vU x0.r.sn),eg]) E E E kR qR (A4 E (A4 E (A4 E (A4 E (A4 hn2.ses.one (A4 E (A4 hn2.he.ia.one (A4 hn2.he.ig.one (A4 hn2.he.key.one (A4 E (A4 E (A4 E (A4 hn2.hk.one (A4 E (A4 E (A4 hn2.g.one I5)))))))))))))))) Cs ?_);refine as_ (A0 (D0 6 7) (A9 ?_));exact ⟨_,(tb,blk ([(vP pb),(vP ka),(vP kb),P0,.int .i64 1,.int .i64 1,.int .i64 1,ni,nw,np,nr,nu,(vU ((K7 x0 (G9 s x0.r)).he.signed)),.bool (K7 x0 (G9 s x0.r)).he.has,(vU ((K7 x0 (G9 s x0.r)).he.once)),.bool (K7 x0 (G9 s x0.r)).tell,no_,nt,nrr,nk,(vU ((K7 x0 (G9 s x0.r)).r.sn)),nl,(vU ((K7 x0 (G9 s x0.r)).r.tn)),(vU ((K7 x0 (G9 s x0.r)).r.prev)),nst]++(c1++[.bool true])) 52)::B37,[],A0c (n:=16) E E E kR Cc qR,Cg (Ch (B:=[_]) qP (Cf qP)),⟨ni,nw,np,nr,nu,no_,nt,nrr,nk,nl,nst,B37,E,hn1.mono qS,hP27⟩,_,E,⟨es,ep,er,eu,ek,eg,E,hn2.mono qS⟩⟩
theorem B5z(tb pb ka kb:Nat)(s:Ps)(x0 x1:Ses)(tx:LN)(M0 A:Mem)(hT:T2 A tb pb ka kb s x0 x1 M0)(hn:s.ts.length+200<=1000000)(htell:x0.tell=true)(hsk:0<x0.r.sk.length)(hwi:x0.wi.length<=1000000)(hel:x0.id.length+x0.he.ia.length+x0.he.ig.length+x0.he.key.length<=1000000)(hfl:(wiW x0 x0.he 0 1 1 1).length<=1000000)(htx:B256 tx)(ltx:tx.length<=1000000)(hG:Glb A):FnX prog 6 [(vP tb),P0,.string (txt tx)] M0 A λq M J=>T2 (J++A) tb pb ka kb (U0 s x0.r (wiW x0 x0.he 0 1 1 1) tx) (K7 x0 (G9 s x0.r)) x1 M∧∃v,q=.tuple #[v,.bool true]∧EvV (J++A) v (evS s x0 x0.he 0 1 1 1 tx):=by
  obtain ⟨vi,vw,p0,r0,u0,vo,vt,vr,vk0,vl,vst,wi,ww,p1,r1,u1,wo,wt,wr,wk0,wl,wst,MP,rfl,hx,hy,hP⟩:=hT
  refine (A8j tb pb ka kb s x0 (seC wi ww p1 r1 u1 wo wt wr wk0 wl wst x1) tx _ A ⟨vi,vw,p0,r0,u0,vo,vt,vr,vk0,vl,vst,MP,E,hx,hP⟩ hn htell hsk hwi hel hfl htx ltx hG).mono λq M J ⟨⟨a0,a1,a2,a3,a4,a5,a6,a7,a8,a9,a10,MP',e,h1,h2⟩,h3⟩=>⟨⟨a0,a1,a2,a3,a4,a5,a6,a7,a8,a9,a10,wi,ww,p1,r1,u1,wo,wt,wr,wk0,wl,wst,MP',e,h1,hy.mono qS,h2⟩,h3⟩
theorem B5A(tb pb ka kb:Nat)(s:Ps)(x0 x1:Ses)(tx:LN)(M0 A:Mem)(hT:T2 A tb pb ka kb s x0 x1 M0)(hn:s.ts.length+200<=1000000)(htell:x0.tell=false)(hsk:0<x0.r.sk.length)(hwi:x0.wi.length<=1000000)(hel:x0.id.length+he0.ia.length+he0.ig.length+he0.key.length<=1000000)(hfl:(wiW x0 he0 0 1 1 1).length<=1000000)(htx:B256 tx)(ltx:tx.length<=1000000)(hG:Glb A):FnX prog 6 [(vP tb),P0,.string (txt tx)] M0 A λq M J=>T2 (J++A) tb pb ka kb (U0 s x0.r (wiW x0 he0 0 1 1 1) tx) (K7 x0 (G9 s x0.r)) x1 M∧∃v,q=.tuple #[v,.bool true]∧EvV (J++A) v (evS s x0 he0 0 1 1 1 tx):=by
  obtain ⟨vi,vw,p0,r0,u0,vo,vt,vr,vk0,vl,vst,wi,ww,p1,r1,u1,wo,wt,wr,wk0,wl,wst,MP,rfl,hx,hy,hP⟩:=hT
  refine (B5y tb pb ka kb s x0 (seC wi ww p1 r1 u1 wo wt wr wk0 wl wst x1) tx _ A ⟨vi,vw,p0,r0,u0,vo,vt,vr,vk0,vl,vst,MP,E,hx,hP⟩ hn htell hsk hwi hel hfl htx ltx hG).mono λq M J ⟨⟨a0,a1,a2,a3,a4,a5,a6,a7,a8,a9,a10,MP',e,h1,h2⟩,h3⟩=>⟨⟨a0,a1,a2,a3,a4,a5,a6,a7,a8,a9,a10,wi,ww,p1,r1,u1,wo,wt,wr,wk0,wl,wst,MP',e,h1,hy.mono qS,h2⟩,h3⟩

def frS(m j:Nat):Nat->Ps×Ses
  | 0=>(rcD m j,rcX m j)
  | i+1=>(U0 (frS m j i).1 (frS m j i).2.r (wiW (frS m j i).2 (frS m j i).2.he 0 1 1 1) [i%256],K7 (frS m j i).2 (G9 (frS m j i).1 (frS m j i).2.r))
def frE(m j i:Nat):Ev:=evS (frS m j i).1 (frS m j i).2 (frS m j i).2.he 0 1 1 1 [i%256]
def OpA(s:Ps)(x:Ses)(e:Ev):Prop:=s.ts.length<=900∧s.n<=900∧x.id=e.ses∧x.wi.length<=1000000∧e.ses.length+e.he.ia.length+e.he.ig.length+e.he.key.length<=1000000∧(x.wi++frW [] e).length+e.hk.length<=1000000∧e.g.length<=10000000∧0<x.id.length
structure OpG(s:Ps)(x:Ses)(e:Ev)(z:Ps)(r:Rsd)(c:Int)(t:LN):Prop where
  a:OpA s x e
  h:OpnH s x.r e.hk e.hp e.hn
  o:Q1 s x.r (x.wi++frW [] e) e.hk e.hp e.hn e.g=(z,r,c,t)
def FrS(m j:Nat):Prop:=∀i,i<6->SnF (frS m j i).1 (frS m j i).2 0 1 1 1
instance{s:Ps}{x:Ses}{e:Ev}:Decidable (OpA s x e):=by unfold OpA;infer_instance
def inQ:Int->Bool
  | .ofNat n=>Nat.ble n 9223372036854775807
  | .negSucc n=>Nat.ble n 9223372036854775807
theorem B5B{i:Int}(h:inQ i=true):-9223372036854775808<=i∧i<=9223372036854775807:=by
  cases i with
  | ofNat n=>have:=Nat.le_of_ble_eq_true h;constructor<;>(show _<=_;simp only [Int.ofNat_eq_natCast];omega)
  | negSucc n=>have:=Nat.le_of_ble_eq_true h;constructor<;>omega
def tmQ(t:Tm):Bool:=Nat.ble t.kind 255&&(inQ t.n&&(t.of.all inQ&&(Nat.ble t.of.length 1048576&&(Nat.ble (t.text.foldr Nat.lor 0) 255&&Nat.ble t.text.length 1099511627776))))
theorem B9x:∀ {l:LN},l.foldr Nat.lor 0<=255->∀x∈l,x<=255
  | [],_,x,hx=>absurd hx List.not_mem_nil
  | a::l,h,x,hx=>by
    have h1:a<=a ||| l.foldr Nat.lor 0:=Nat.left_le_or;have h2:l.foldr Nat.lor 0<=a ||| l.foldr Nat.lor 0:=Nat.right_le_or;have h3:a ||| l.foldr Nat.lor 0<=255:=h;rcases List.mem_cons.1 hx with rfl|hx
    . omega
    . exact B9x qO x hx
theorem C39{t:Tm}(h:tmQ t=true):tmB t=true:=by
  simp only [tmQ,Bool.and_eq_true,List.all_eq_true] at h;obtain ⟨a,b,c,d,e,f⟩:=h;have a:=Nat.le_of_ble_eq_true a;simp only [tmB,Bool.and_eq_true,decide_eq_true_eq,List.all_eq_true];refine ⟨⟨⟨⟨⟨⟨?_,(B5B b).1⟩,(B5B b).2⟩,λi hi=>B5B (c i hi)⟩,Nat.le_of_ble_eq_true d⟩,λx hx=>?_⟩,Nat.le_of_ble_eq_true f⟩
  . unfold Nat.blt;exact Nat.ble_eq_true_of_le qO
  . have:=B9x (Nat.le_of_ble_eq_true e) x hx;omega
theorem allQ{ts:List Tm}(h:ts.all tmQ=true):ts.all tmB=true:=List.all_eq_true.2 λt ht=>C39 (List.all_eq_true.1 h t ht)
def bI(k:Bool):Int:=if k then 1 else 0
def wG(k:Bool)(x:Ses):LN:=wiW x x.he (bI k) 1 (bI !k) 1
def eG(k:Bool)(s:Ps)(x:Ses)(t:LN):Ev:=evS s x x.he (bI k) 1 (bI !k) 1 t
def sG(k:Bool)(s:Ps)(x:Ses)(t:LN):Ps:=U0 s x.r (wG k x) t
def SnG(k:Bool)(s:Ps)(x:Ses):Prop:=s.ts.length<=900∧0<x.r.sk.length∧x.wi.length<=1000000∧x.id.length+x.he.ia.length+x.he.ig.length+x.he.key.length<=1000000∧(wG k x).length<=1000000
def GoP:Nat->Ps->Ses->Ses->Prop
  | 0,_,_,_=>True
  | n+1,s,x0,x1=>∀i,i<20->(SnG false s x0∧∃z r,OpG (sG false s x0 [i]) x1 (eG false s x0 [i]) z r 0 [i]∧GoP n z (K7 x0 (G9 s x0.r)) (A3K x1 r))∧(SnG true s x1∧∃z r,OpG (sG true s x1 [i]) x0 (eG true s x1 [i]) z r 0 [i]∧GoP n z (A3K x0 r) (K7 x1 (G9 s x1.r)))
structure OpR(s:Ps)(p q:Rsd)(w t:LN)(z:Ps)(r:Rsd):Prop where
  h:OpnH (U0 s p w t) q (I6 s p.own) p.prev p.sn
  o:Q1 (U0 s p w t) q w (I6 s p.own) p.prev p.sn (A3H s p w t)=(z,r,0,t)
  g:(A3H s p w t).length<=1000
  l:(U0 s p w t).ts.length<=900
  n:(U0 s p w t).n<=900
structure Lw(W:LN->Prop)(L:Nat->Ps->Rsd->Rsd->Prop):Prop where
  bd:∀ {N:Nat} {s:Ps} {p q:Rsd},L N s p q->N<=22->s.ts.length<=900∧0<p.sk.length∧0<q.sk.length∧(I6 s p.own).length=32∧(I6 s q.own).length=32
  wl:∀ {w:LN},W w->w.length<=1000
  one:∀ {N:Nat} {s:Ps} {p q:Rsd} {w:LN} {i:Nat},L N s p q->N<22->W w->i<20->∃z r,OpR s p q w [i] z r∧L (N+1) z (G9 s p) r
  two:∀ {N:Nat} {s:Ps} {p q:Rsd} {w:LN} {i:Nat},L N s p q->N<22->W w->i<20->∃z r,OpR s q p w [i] z r∧L (N+1) z (G9 s q) r
structure SI(W:LN->Prop)(x0 x1:Ses):Prop where
  id:x0.id=x1.id
  wi:x0.wi=x1.wi
  il:x0.id.length=32
  wl:x0.wi.length<=1000
  h0:x0.he.ia.length+x0.he.ig.length+x0.he.key.length<=1000
  h1:x1.he.ia.length+x1.he.ig.length+x1.he.key.length<=1000
  w0:W (wG false x0)
  w1:W (wG true x1)
  w2:W (wG false (A3K x0 x0.r))
  w3:W (wG true (A3K x1 x1.r))
variable{W:LN->Prop}{x0 x1:Ses}
theorem SI.sel0(h:SI W x0 x1)(r r':Rsd):SI W (K7 x0 r) (A3K x1 r'):=⟨h.id,h.wi,h.il,h.wl,h.h0,(by decide:0+0+0<=1000),h.w0,h.w3,h.w2,h.w3⟩
theorem SI.sel1(h:SI W x0 x1)(r r':Rsd):SI W (A3K x0 r') (K7 x1 r):=⟨h.id,h.wi,h.il,h.wl,(by decide:0+0+0<=1000),h.h1,h.w2,h.w1,h.w2,h.w3⟩
def Lf(L:Nat->Ps->Rsd->Rsd->Prop)(f:Bool)(N:Nat)(s:Ps)(a b:Rsd):Prop:=if f then L N s b a else L N s a b
variable{i N:Nat}{f:Bool}{s:Ps}{w:LN}
section
variable{W:LN->Prop}{L:Nat->Ps->Rsd->Rsd->Prop}(h:Lw W L)
include h
theorem Lf.s0{a b:Rsd}(hl:Lf L f N s a b)(hN:N<22)(hw:W w)(hi:i<20):∃z r,OpR s a b w [i] z r∧Lf L false (N+1) z (G9 s a) r:=by
  cases f with
  | false=>exact h.one (show L N s a b from hl) hN hw hi
  | true=>exact h.two (show L N s b a from hl) hN hw hi
theorem Lf.s1{a b:Rsd}(hl:Lf L f N s a b)(hN:N<22)(hw:W w)(hi:i<20):∃z r,OpR s b a w [i] z r∧Lf L true (N+1) z r (G9 s b):=by
  cases f with
  | false=>exact h.two (show L N s a b from hl) hN hw hi
  | true=>exact h.one (show L N s b a from hl) hN hw hi
theorem Lf.b{f:Bool}{N:Nat}{s:Ps}{a b:Rsd}(hl:Lf L f N s a b)(hN:N<=22):s.ts.length<=900∧0<a.sk.length∧0<b.sk.length∧(I6 s a.own).length=32∧(I6 s b.own).length=32:=by
  cases f with
  | false=>exact h.bd (show L N s a b from hl) hN
  | true =>
    obtain ⟨a1,a2,a3,a4,a5⟩:=h.bd (show L N s b a from hl) hN;exact ⟨a1,a3,a2,a5,a4⟩
end
variable{t:LN}{k:Bool}{r:Rsd}
theorem B9y{z:Ps}{x y:Ses}(h:OpR s x.r y.r (wG k x) t z r)(hi:x.id=y.id)(hw:x.wi=y.wi)(il:x.id.length=32)(wl:x.wi.length<=1000)(hl:x.he.ia.length+x.he.ig.length+x.he.key.length<=1000)(gl:(wG k x).length<=1000)(pl:(I6 s x.r.own).length=32):OpG (sG k s x t) y (eG k s x t) z r 0 t:=by
  have e:y.wi++frW [] (eG k s x t)=wG k x:=by rw [<- hw];rfl
  refine ⟨⟨h.l,h.n,hi.symm,by rw [<- hw];omega,?_,?_,?_,by rw [<- hi];omega⟩,h.h,?_⟩
  . show x.id.length+x.he.ia.length+x.he.ig.length+x.he.key.length<=_;omega
  . rw [e];show _+(I6 s x.r.own).length<=_;omega
  . show (A3H s x.r (wG k x) t).length<=_;have:=h.g;omega
  . rw [e];exact h.o
theorem B8l{W:LN->Prop}{L:Nat->Ps->Rsd->Rsd->Prop}(h:Lw W L):∀(n:Nat) (f:Bool) (N:Nat) (s:Ps) (x0 x1:Ses),SI W x0 x1->Lf L f N s x0.r x1.r->N+n<=22->GoP n s x0 x1
  | 0,_,_,_,_,_,_,_,_=>trivial
  | n+1,f,N,s,x0,x1,hs,hl,hN=>λi hi=>by
    obtain ⟨b1,b2,b3,b4,b5⟩:=Lf.b h hl qO;have l0:=h.wl hs.w0;have l1:=h.wl hs.w1;have e1:=hs.il;have e2:=hs.wl;have e3:=hs.h0;have e4:=hs.h1;have e5:x1.id.length=32:=by rw [<- hs.id];exact e1
    have e6:x1.wi.length<=1000:=by rw [<- hs.wi];exact e2
    obtain ⟨z,r,c1,c2⟩:=Lf.s0 h hl qO hs.w0 hi;obtain ⟨z',r',d1,d2⟩:=Lf.s1 h hl qO hs.w1 hi
    exact ⟨⟨⟨b1,b2,by omega,by omega,by omega⟩,z,r,B9y c1 hs.id hs.wi e1 e2 e3 l0 b4,B8l h n false (N+1) z _ _ (hs.sel0 _ _) c2 qO⟩,
      ⟨⟨b1,b3,by omega,by omega,by omega⟩,z',r',B9y d1 hs.id.symm hs.wi.symm e5 e6 e4 l1 b5,B8l h n true (N+1) z' _ _ (hs.sel1 _ _) d2 qO⟩⟩

def kuL:List (Nat×Nat×Nat×Nat):=[(10,14500192208073577922602148793390589717025359320289012319261772672291098708340,15277806078231658106835129138038169729841706824619479089343418336713776643073,0),(16,12232174228135290042619352316198409023111468479706496131933350532749516616850,46171005788162507935279109975335599417777295979005697536911976755062922582414,55878619114926840116029297952732281604006674973135620171750482241404802981572),(17,63164979387473800676055704009723994819290789398748133852724468463797382834239,15792571324079130177180592513572724843804425376612684421348640637849477546170,35937396042195133377477700574139631762220165774583040806303000312198901794223),(18,71684430218185319150372279477406317482055319764920012263996135549634185492787,40461286659534624587406461957736322206498767015202906306694560252878870425030,50247153477160310138220474644558477441062803563284504840159606566920353608295),(19,46947014931171476524754841806530983992453441307574160577491058482492761030071,37989646241770949552088746568908552785283538067408956528402550051820952210169,25194336283822739491750846551690062120289585645537370372012338556038232440778),(20,16893224611487280685037839858181497482015284575789533995912512712152810991577,41735982010925925802682458377895376006689076847821774017652385851415633726400,11854441424938422724620012307312709209766919077644515266222248751142486995534),(21,69202035176188724707033139323499735780419584761829399846872557537933747101209,3211486086570470649739906504028166441927227887079403092810510440513334379353,32937597555967462422197240630230712598221341523600353221184284514152698219319),(22,24064504636803630170146039141911795095031752849037841716038268128441719406,25309217331669172489099743087180534422044450243452508439519549329033476064068,19706794374221715859242879537220653739399376952163762271242658722147983269073),(23,25748696860064905111845979857892208928929819754702343770372969666097510060035,48083004908250517221010956657236434708772976226438396197012307416572986547007,25677489648762665324940968059652308559230702917103792485762093876827368860373),(24,88884533168559133477326705060496941729399004372121824498726860847068270446585,8156454534326007778586098028262094327662458862102892856163524991668757853231,49439603783767080014471430930022313302454079953292562193531153834746657063191),(25,23587366161403076968252762943339548629645338309422601243130616299921354067078,28572746027063907380332720064892203784535037261684254676723388832811422390986,18565171797779974409839286674740630322487318800474015845193463377314841760154),(26,99568488850404757922608945589462459566025678688321561516751519726948582775464,23475788371265119627313240381899226359286733905903668847467817911598237916042,1209131092464966777502702495682991927041896710797804040022527454614046313060),(27,115597854700370055792766050309067991254041915244094882752502585187911554853825,8846053321551395033902290362493654470787071211549508348535989060613398332888,14348813815511972621878396731819095228988767913967207506436717026043744922698),(28,9217503514044436172646421367339705549840276480172066461696370998673539817040,53614024815126143391867844032017529090114893742616865112268405445716032171113,53518522611301906675248939247973298118952560115554247786339190387953338362382),(29,85081203278260449600704081650723810914880946829244916032854035663702881836047,18998545361809978660402701607090408020252948870323839312165153766168656671855,41629026809446981440266764023287927130036641506948810745495164593860537148205),(30,10204800761438411240619194303387989227507029652763294681673461898942440662249,56647985708374969807906920569401363441582986797759621461624334063771883707250,19260281331245001445251597458802805511522742208331194513763779467901410597840),(31,98506799437532481764905917809245952946252805533471283476912568719856262479391,23309844817851685065089477309518556180944457973195769759030410036207189999538,16385732563548671051926879706649223267292171301332025734074073602796249571429),(32,23238015454828462014388448770484767007382214711364295904959081237135265766031,8035518968258613538101981139272587606717206261951230522878232341287183538583,50107950321748766425258794995627785777897672919384007629621257454790707038179),(33,53399475146358494281038343802236869988797573765511691739846691447602747929763,48286497518775512665826481805794427816138831069811740019731569113816316515998,7753780643360439912854799418393685555403952196925674424155391807697739794506),(34,7019613353097293226561125610247116516627662863952234084948559874727230176580,8665070791635643667022032667855066860360318093897164433730592778470012281484,6253756444478909597550975586040984001037181473179874603240981787763802645621),(35,93025343054103537026747508320301051972801404931028654961998578688614888453794,20789979409272451240901947165752539928403536132950797350500803785428510839463,23929875613838981327810464032354832999109294724422742363617000780056512703808),(36,17561268765235031240671856110749594818837015283869789151656553647756849772075,23866507151297162241867009752188679622495764357949315817626312279694245750913,35951707686075123046867350243935762085626292282575909714717523805710757235418),(37,105820852133417387482302351930651984239140596417695603230415121832185712506135,43554538470279702877654958758732388836034639963528712716349513959041659260902,25959744133466955421449009041873451347876101956239943258046615203998242511363),(38,41053266417315600888690959583528255003009910386407646506169857610901741756360,50920687035524544121669782817998515707266724353219807848659525087730090137677,5967437014043924504864832281134268418296267239320349414538370738627267443352),(39,64064912706906628576794043369177471773866019220560340409450051828876436969135,32197720027869223696200110844402410118956993251351868852049261752724035290679,0)]
def kuB:List (Nat×Nat×Nat×Nat)->Bool
  | (i,x,y,v)::(i',x',y',v')::l=>decide (B8b A5n i=N3 x 32)&&(dhG (N3 x 32) 9 y&&(decide (rdN (N3 y 32)=y)&&((!Nat.beq i' (i+1)||(dhG (N3 x 32) y' v&&dhG (N3 x' 32) y v))&&kuB ((i',x',y',v')::l))))
  | [(i,x,y,v)]=>decide (B8b A5n i=N3 x 32)&&(dhG (N3 x 32) 9 y&&decide (rdN (N3 y 32)=y))
  | []=>true
theorem B5C:kuB kuL=true:=by decide +kernel
theorem C4G:∀ {L:List (Nat×Nat×Nat×Nat)},kuB L=true->∀e∈L,H5 (rk e.1) 32=N3 e.2.1 32∧rb e.1=N3 e.2.2.1 32∧rdN (N3 e.2.2.1 32)=e.2.2.1:=by
  intro L
  have hx:∀(i x y:Nat),B8b A5n i=N3 x 32->dhG (N3 x 32) 9 y=true->rdN (N3 y 32)=y->H5 (rk i) 32=N3 x 32∧rb i=N3 y 32∧rdN (N3 y 32)=y:=λi x y h1 h2 h3=>by
    have e:H5 (rk i) 32=N3 x 32:=by unfold rk;rw [A5b h1,B8c]
    refine ⟨e,?_,h3⟩;unfold rb;rw [e];exact A3L h2 (by decide +kernel)
  induction L with
  | nil=>intro _ e he;cases he
  | cons a l ih =>
    intro h e he;obtain ⟨i,x,y,v⟩:=a
    cases l with
    | nil =>
      simp only [kuB,Bool.and_eq_true,decide_eq_true_eq] at h;rw [List.mem_singleton.1 he];exact hx i x y h.1 h.2.1 h.2.2
    | cons b l =>
      obtain ⟨i',x',y',v'⟩:=b;simp only [kuB,Bool.and_eq_true,decide_eq_true_eq] at h;obtain ⟨h1,h2,h3,h4,h5⟩:=h;rcases List.mem_cons.1 he with rfl|he
      . exact hx i x y h1 h2 h3
      . exact ih h5 e he
variable{x n:Nat}
theorem ku_2{L:List (Nat×Nat×Nat×Nat)}(h:kuB L=true){y v x' y' v':Nat}(h1:L[n]? = some (i,x,y,v))(h2:L[n+1]? = some (i+1,x',y',v')):dhG (N3 x 32) y' v=true∧dhG (N3 x' 32) y v=true:=by
  induction n generalizing L with
  | zero =>
    cases L with
    | nil=>cases h1
    | cons a l=>cases l with
      | nil=>cases h2
      | cons b l =>
        cases h1;cases h2;simp only [kuB,Bool.and_eq_true] at h;have h4:=h.2.2.2.1;rw [show Nat.beq (i+1) (i+1)=true from Nat.beq_refl _] at h4;simpa using h4
  | succ n ih =>
    cases L with
    | nil=>cases h1
    | cons a l=>cases l with
      | nil=>cases h2
      | cons b l =>
        obtain ⟨i1,x1,y1,v1⟩:=a;obtain ⟨i2,x2,y2,v2⟩:=b;simp only [kuB,Bool.and_eq_true] at h;exact ih h.2.2.2.2 h1 h2
theorem B5D:∀n,n<24->∃x y v,kuL[n+1]? = some (n+16,x,y,v):=by
  intro n hn
  match n,hn with
  | 0,_=>exact ⟨_,_,_,E⟩
  | 1,_=>exact ⟨_,_,_,E⟩
  | 2,_=>exact ⟨_,_,_,E⟩
  | 3,_=>exact ⟨_,_,_,E⟩
  | 4,_=>exact ⟨_,_,_,E⟩
  | 5,_=>exact ⟨_,_,_,E⟩
  | 6,_=>exact ⟨_,_,_,E⟩
  | 7,_=>exact ⟨_,_,_,E⟩
  | 8,_=>exact ⟨_,_,_,E⟩
  | 9,_=>exact ⟨_,_,_,E⟩
  | 10,_=>exact ⟨_,_,_,E⟩
  | 11,_=>exact ⟨_,_,_,E⟩
  | 12,_=>exact ⟨_,_,_,E⟩
  | 13,_=>exact ⟨_,_,_,E⟩
  | 14,_=>exact ⟨_,_,_,E⟩
  | 15,_=>exact ⟨_,_,_,E⟩
  | 16,_=>exact ⟨_,_,_,E⟩
  | 17,_=>exact ⟨_,_,_,E⟩
  | 18,_=>exact ⟨_,_,_,E⟩
  | 19,_=>exact ⟨_,_,_,E⟩
  | 20,_=>exact ⟨_,_,_,E⟩
  | 21,_=>exact ⟨_,_,_,E⟩
  | 22,_=>exact ⟨_,_,_,E⟩
  | 23,_=>exact ⟨_,_,_,E⟩
  | n+24,h=>exact absurd h qO
variable{a:Nat}
theorem cm_u(h1:16<=a)(h2:a<=38):Cm a (a+1):=by
  obtain ⟨n,rfl⟩:∃n,a=n+16:=⟨a-16,by omega⟩
  obtain ⟨x,y,v,e1⟩:=B5D n qO;obtain ⟨x',y',v',e2⟩:=B5D (n+1) qO;rw [show n+1+16=n+16+1 by omega] at e2;obtain ⟨d1,d2⟩:=ku_2 B5C e1 e2;obtain ⟨f1,f2,f3⟩:=C4G B5C _ (As e1);obtain ⟨g1,g2,g3⟩:=C4G B5C _ (As e2);dsimp only at f1 f2 f3 g1 g2 g3;unfold Cm xk;rw [f1,f2,g1,g2,B8c,B8c,A3L d1 g3,A3L d2 f3]
def kuD:List (Nat×Nat×Nat×Nat)->Bool
  | []=>true
  | e::l=>(l.all λf=>!Nat.beq e.2.2.1 f.2.2.1)&&kuD l
theorem C4a:kuD kuL=true:=by decide +kernel
theorem B9z:∀ {L:List (Nat×Nat×Nat×Nat)},kuD L=true->∀ {i j:Nat} {a b:Nat×Nat×Nat×Nat},i<j->L[i]? = some a->L[j]? = some b->a.2.2.1≠b.2.2.1
  | [],_,i,j,a,b,_,h1,_=>by cases h1
  | e::l,h,i,j,a,b,hij,h1,h2=>by
    simp only [kuD,Bool.and_eq_true,List.all_eq_true] at h
    obtain ⟨j,rfl⟩:∃k,j=k+1:=⟨j-1,by omega⟩
    cases i with
    | zero =>
      cases h1;have:=h.1 b (As h2);intro e;rw [e,Nat.beq_refl] at this;cases this
    | succ i=>exact B9z h.2 qO h1 h2
variable{j:Nat}
theorem C4b(h:i<j){a b:Nat×Nat×Nat×Nat}(h1:kuL[i]? = some a)(h2:kuL[j]? = some b):rb b.1≠rb a.1:=λe=>by obtain ⟨-,f2,f3⟩:=C4G B5C _ (As h1);obtain ⟨-,g2,g3⟩:=C4G B5C _ (As h2);rw [f2,g2] at e;exact B9z C4a h h1 h2 (f3.symm.trans ((congrArg rdN e.symm).trans g3))
theorem rb_u{b:Nat}(h:(b=10∧a=16)∨(16<=b∧a=b+1))(h2:a<=38):rb (a+1)≠rb b:=by
  rcases h with ⟨rfl,rfl⟩|⟨h1,rfl⟩
  . obtain ⟨x,y,v,e⟩:=B5D 1 qD
    obtain ⟨x0,y0,v0,e0⟩:∃x y v,kuL[0]? = some (10,x,y,v):=⟨_,_,_,E⟩
    rw [show (1+16:Nat)=16+1 from rfl] at e;have h:=C4b (i:=0) (j:=2) qD e0 e;exact h
  . obtain ⟨n,rfl⟩:∃n,b=n+16:=⟨b-16,by omega⟩
    obtain ⟨x,y,v,e1⟩:=B5D n qO;obtain ⟨x',y',v',e2⟩:=B5D (n+2) qO;rw [show n+2+16=n+16+1+1 by omega] at e2;have h:=C4b (i:=n+1) (j:=n+2+1) qO e1 e2;exact h

def SkW(s:Ps)(x:Skp):Prop:=KK s x.key∧x.of.length=32∧x.n<4294967296
structure WfR(s:Ps)(r:Rsd):Prop where
  own:KK s r.own
  root:KK s r.root
  sk:r.sk=[]∨KK s r.sk
  tk:r.tk=[]∨KK s r.tk
  th:r.their=[]∨∃b,K32 b∧S9 s b r.their
  sks:∀x∈r.sks,SkW s x
  tt:r.tk≠[]->r.their≠[]
theorem SkW.ext{s s':Ps}{x:Skp}(h:SkW s x)(he:Pext s s'):SkW s' x:=⟨h.1.ext he,h.2⟩
theorem WfR.ext{s s':Ps}{r:Rsd}(h:WfR s r)(he:Pext s s'):WfR s' r :=
  ⟨h.own.ext he,h.root.ext he,h.sk.imp id λk=>k.ext he,h.tk.imp id λk=>k.ext he,h.th.imp id λ⟨b,k,p⟩=>⟨b,k,p.ext he⟩,λx hx=>(h.sks x hx).ext he,h.tt⟩
variable{of:LN}
theorem B0t{sks:List Skp}{x:Skp}(h:x∈A5S sks of n):x∈sks:=by
  unfold A5S at h;split at h
  . exact h
  . exact List.mem_of_mem_eraseIdx h
theorem B8m{sks:List Skp}{x y:Skp}(h:y∈B5S sks x):y∈sks∨y=x:=by
  rcases List.mem_append.1 (List.mem_of_mem_drop (show y∈(A5S sks x.of x.n++[x]).drop _ from h)) with h|h
  . exact .inl (B0t h)
  . exact .inr (List.mem_singleton.1 h)
theorem B8n{sks:List Skp}{k:LN}(h:A5T sks of n=some k):∃x∈sks,x.key=k:=by
  unfold A5T at h;split at h
  . cases h
  . obtain ⟨x,h1,h2⟩:=Option.map_eq_some_iff.1 h;exact ⟨x,As h1,h2⟩
variable{hk:LN}
theorem B8o(h:∀x∈hk,x<256)(p n:Nat):∀x∈A62 hk p n,x<256:=λx hx=>by
  unfold A62 at hx;simp only [List.mem_append] at hx;rcases hx with ((h1|h1)|h1)|h1
  . exact A5M _ _ x h1
  . exact h x h1
  . exact A5M _ _ x h1
  . exact A5M _ _ x h1
theorem C4c(hw:∀x∈w,x<256)(h:∀x∈hk,x<256)(p n:Nat):∀x∈alW w hk p n,x<256:=λx hx=>by
  unfold alW A5U at hx;simp only [List.mem_append] at hx;rcases hx with ((h1|h1)|h1)|h1
  . exact A5M _ _ x h1
  . exact hw x h1
  . exact A5M _ _ x h1
  . exact B8o h p n x h1
theorem C16(w hk:LN)(p n:Nat):(alW w hk p n).length=w.length+hk.length+20:=by unfold alW;rw [A3q,A28];omega
theorem A1Y(K N wa p:LN):(T3 K N wa p).length=p.length+16:=by unfold T3;rw [An,A0j,A47]
theorem B8p(s:Ps)(w a b:LN):(C1G s w a b).length<=b.length+32:=by
  unfold C1G;split
  . rw [A1Y];omega
  . unfold B6M;rw [show (bts _).length=32 from A0Q _ qD];omega
structure Snt(s:Ps)(hk:LN)(hp hn:Nat)(g:LN):Prop where
  pub:∃b,K32 b∧S9 s b hk
  hp:hp<4294967296
  hn:hn<4294967296
  gl:g.length<=1000
theorem A7b(s:Ps)(r:Rsd)(w t:LN):(U0 s r w t).ts.length<=s.ts.length+7∧(U0 s r w t).n=s.n:=by have h1:=A42 s r.own;have h2:=A01 (H7 s r.own) r.sk;have h3:=B0n (Z0 (H7 s r.own) r.sk) (X5 (H7 s r.own) r.sk) (B1k s r w) t;have h4:=C5m s r.own;unfold U0;exact ⟨by omega,by omega⟩
theorem C4d(h:GS s)(hr:WfR s r)(hsk:r.sk≠[])(hp:r.prev<4294967296)(hn:r.sn<4294967296)(hw:∀x∈w,x<256)(hwl:w.length<=1000)(ht:∀x∈t,x<256)(htl:t.length<=900)(hl:s.ts.length<=1020000) :
    GS (U0 s r w t)∧Ext s (U0 s r w t)∧WfR (U0 s r w t) (G9 s r)∧S9 (U0 s r w t) r.own (I6 s r.own)∧Snt (U0 s r w t) (I6 s r.own) r.prev r.sn (A3H s r w t)∧A5a (U0 s r w t) r.sk (X5 (H7 s r.own) r.sk) (A1b (H7 s r.own) r.sk)∧KK (U0 s r w t) (X5 (H7 s r.own) r.sk) ∧
    (∀s',GS s'->Pext (U0 s r w t) s'->s'.ts.length<=1048576->A3c s' (X5 (H7 s r.own) r.sk) (alW w (I6 s r.own) r.prev r.sn) (A3H s r w t)=some t):=by
  have hk:KK s r.sk:=hr.sk.resolve_left hsk;have l1:=A42 s r.own;obtain ⟨g1,p1⟩:=B78 h hr.own qO;have e1:=B3U s r.own;obtain ⟨g2,k2,k3,sa⟩:=A8h (c:=r.sk) g1 (hk.ext e1.p) qO;have e2:=A9f (H7 s r.own) r.sk;have l2:=A01 (H7 s r.own) r.sk;have hal:∀x∈B1k s r w,x<256:=C4c hw p1.k32.1 _ _;have hall:(B1k s r w).length=w.length+32+20:=by rw [<- p1.k32.2];exact C16 _ _ _ _
  have g3:=C5u (a:=B1k s r w) (b:=t) g2 k2 hal ht qO qO qO;have e3:=C3Z (Z0 (H7 s r.own) r.sk) (X5 (H7 s r.own) r.sk) (B1k s r w) t;have l3:=B0n (Z0 (H7 s r.own) r.sk) (X5 (H7 s r.own) r.sk) (B1k s r w) t;have eA:Ext s (U0 s r w t):=e1.trans (e2.trans e3);have g3':GS (U0 s r w t):=g3;have p3:S9 (U0 s r w t) r.own (I6 s r.own):=p1.ext (e2.trans e3).p;refine ⟨g3',eA,?_,p3,⟨⟨_,hr.own.2,p3⟩,hp,hn,?_⟩,?_,k2.ext e3.p,?_⟩
  . have h':=hr.ext eA.p;exact ⟨h'.own,h'.root,.inr (k3.ext e3.p),h'.tk,h'.th,h'.sks,h'.tt⟩
  . have:=B8p (Z0 (H7 s r.own) r.sk) (X5 (H7 s r.own) r.sk) (B1k s r w) t;unfold A3H;omega
  . have:=A7b s r w t;exact sa.ext e3.p g2 g3 (show (U0 s r w t).ts.length<=_ by omega)
  . intro s' g' e' l';exact C1H g2.tok k2.1 hal ht (Az (Nat.le_of_eq hall) qO) qO e' g'.tok l'
theorem C4e{of:LN}(ho:of.length=32):∀(i:Nat) {x:Ast},GS x.1->KK x.1 x.2.1->(∀y∈x.2.2.2,SkW x.1 y)->x.2.2.1+i<4294967296->x.1.ts.length+3*i<=1020000 ->
    GS (rep (aSt of) i x).1∧Ext x.1 (rep (aSt of) i x).1∧KK (rep (aSt of) i x).1 (rep (aSt of) i x).2.1∧∀y∈(rep (aSt of) i x).2.2.2,SkW (rep (aSt of) i x).1 y
  | 0,x,h1,h2,h3,_,_=>⟨h1,Ext.refl _,h2,h3⟩
  | i+1,x,h1,h2,h3,hn,hl=>by
    obtain ⟨g1,g2,g3,g4⟩:=C4e ho i h1 h2 h3 qO qO;have hts:=B4H of i x;have hnn:=B7Z of i x;have e1:=A9f (rep (aSt of) i x).1 (rep (aSt of) i x).2.1;obtain ⟨a1,a2,a3,-⟩:=A8h g1 g3 qO;refine ⟨a1,g2.trans e1,a3,λy hy=>?_⟩;rcases B8m (show y∈B5S (rep (aSt of) i x).2.2.2 ⟨of,(rep (aSt of) i x).2.2.1,X5 (rep (aSt of) i x).1 (rep (aSt of) i x).2.1⟩ from hy) with hy|rfl
    . exact (g4 y hy).ext e1.p
    . exact ⟨a2,ho,by show (rep (aSt of) i x).2.2.1<_;omega⟩
variable{key:LN}
theorem C4f{sks:List Skp}(h:GS s)(hk:KK s key)(ho:of.length=32)(hs:∀y∈sks,SkW s y)(hn:n<4294967296)(hl:s.ts.length<=1010000) :
    GS (ahX s key N n of sks).1∧Ext s (ahX s key N n of sks).1∧KK (ahX s key N n of sks).1 (ahX s key N n of sks).2.1∧∀y∈(ahX s key N n of sks).2.2.2,SkW (ahX s key N n of sks).1 y:=by
  by_cases hE:ahE N n=0
  . obtain ⟨h1,h2⟩:=B5i hE;rw [A0A hE];exact C4e ho (n-N) (x:=(s,key,N,sks)) h hk hs (by dsimp only;omega) (by dsimp only;omega)
  . rw [B5j hE];exact ⟨h,Ext.refl _,hk,hs⟩
variable{hp:Nat}
theorem C4g{g:LN}{hn:Nat}(h:GS s)(hr:WfR s r)(hm:Snt s hk hp hn g)(tn:r.tn<4294967296)(sn:s.n<1000000000)(hsl:r.sks.length<=1000)(hl:s.ts.length<=1000000) :
    OpnH s r hk hp hn∧GS (Q1 s r w hk hp hn g).1∧Ext s (Q1 s r w hk hp hn g).1∧WfR (Q1 s r w hk hp hn g).1 (Q1 s r w hk hp hn g).2.1∧(Q1 s r w hk hp hn g).1.ts.length<=s.ts.length+200∧(Q1 s r w hk hp hn g).1.n<=s.n+1∧(Q1 s r w hk hp hn g).2.1.sks.length<=1000∧(r.their≠[]->(Q1 s r w hk hp hn g).2.1.their≠[]):=by
  obtain ⟨b,hb,hB⟩:=hm.pub;have kB:=hB.kk;have hkn:hk≠[]:=λe=>by have:=kB.2.2;rw [e] at this;cases this
  -- the first half
  have hA:GS (opA s r hp).1∧Ext s (opA s r hp).1∧(∀y∈(opA s r hp).2.2.2,SkW (opA s r hp).1 y):=by
    by_cases h0:r.tk=[]
    . rw [B0m h0];exact ⟨h,Ext.refl _,hr.sks⟩
    . rw [A49 h0];obtain ⟨b',hb',hB'⟩:=hr.th.resolve_left (hr.tt h0);obtain ⟨x1,x2,x3,x4⟩:=C4f (N:=r.tn) (n:=hp) h (hr.tk.resolve_left h0) hB'.k32.2 hr.sks hm.hp qO;exact ⟨x1,x2,x4⟩
  obtain ⟨a1,a2,a3⟩:=hA;have lA:=C1T s r hp tn hm.hp hsl;have lT:=A27 (opA s r hp).1 r.root r.own hk;obtain ⟨t1,t2,t3,-⟩:=C1V a1 (hr.root.ext a2.p) (hr.own.ext a2.p) (hB.ext a2.p) hb qO;have tE:=B5r (opA s r hp).1 r.root r.own hk
  have hBx:∀x,opB s r hk hp=x->GS x.1∧Ext s x.1∧KK x.1 x.2.root∧KK x.1 x.2.tk∧(∃b,K32 b∧S9 x.1 b x.2.their)∧(∀y∈x.2.sks,SkW x.1 y)∧x.2.tn<4294967296∧x.2.sks.length<=1000∧x.1.ts.length<=s.ts.length+55∧x.1.n=s.n:=by
    intro x hx;subst hx
    cases hf:A0M r hk with
    | true =>
      rw [B5l hf];exact ⟨t1,a2.trans tE,t2,t3,⟨b,hb,(hB.ext a2.p).ext tE.p⟩,λy hy=>(a3 y hy).ext tE.p,(show 0<4294967296 by decide),lA.2.2.2,by show (A43 _ _ _ _).ts.length<=_;omega,lT.2.trans lA.2.1⟩
    | false =>
      rw [B5m hf];have htk:r.tk≠[]:=λe=>by unfold A0M at hf;rw [e] at hf;simp at hf
      exact ⟨h,Ext.refl _,hr.root,hr.tk.resolve_left htk,hr.th.resolve_left (hr.tt htk),hr.sks,tn,hsl,by dsimp only;omega,E⟩
  obtain ⟨x,hx⟩:∃x,opB s r hk hp=x:=⟨_,E⟩
  obtain ⟨b1,b2,b3,b4,⟨bt,bt1,bt2⟩,b6,b7,b8,b9,b10⟩:=hBx x hx;have hC:=C4f (N:=x.2.tn) (n:=hn) b1 b4 bt2.k32.2 b6 hm.hn qO;have lC:=C1N x.1 x.2.tk x.2.tn hn x.2.their x.2.sks b7 hm.hn b8;change GS (opC x hn).1∧Ext x.1 (opC x hn).1∧KK (opC x hn).1 (opC x hn).2.1∧∀y∈(opC x hn).2.2.2,SkW (opC x hn).1 y at hC;change (opC x hn).1.ts.length<=_∧(opC x hn).1.n=_∧(opC x hn).2.2.1<_∧(opC x hn).2.2.2.length<=_ at lC;obtain ⟨c1,c2,c3,c4⟩:=hC;obtain ⟨d1,d2,d3,-⟩:=A8h c1 c3 qO;have dE:=A9f (opC x hn).1 (opC x hn).2.1;have dL:=A01 (opC x hn).1 (opC x hn).2.1;have hD:Ext s (opD x hn):=b2.trans (c2.trans dE)
  have hW:WfR (opD x hn) (opG r x hn):=by have h':=hr.ext hD.p;exact ⟨h'.own,b3.ext (c2.trans dE).p,h'.sk,.inr d3,.inr ⟨bt,bt1,bt2.ext (c2.trans dE).p⟩,λy hy=>(c4 y hy).ext dE.p,λ_ e=>by have e2:x.2.their=[]:=e;have:=bt2.k32.2;rw [e2] at this;cases this⟩
  obtain ⟨f1,f2⟩:=B5n (s:=opD x hn) d1 (by show (Z0 _ _).n<_;omega);have fE:=A92 (opD x hn);have fL:=A61 (opD x hn);have lT2:=A27 (E7 (opD x hn)) x.2.root (F3 (opD x hn)) x.2.their
  have lD:(opD x hn).ts.length<=s.ts.length+110∧(opD x hn).n=s.n:=by show (Z0 _ _).ts.length<=_∧(Z0 _ _).n=_;exact ⟨by omega,by omega⟩
  obtain ⟨u1,u2,u3,-⟩:=C1V f1 ((b3.ext (c2.trans dE).p).ext fE.p) f2 ((bt2.ext (c2.trans dE).p).ext fE.p) bt1 qO;have uE:=B5r (E7 (opD x hn)) x.2.root (F3 (opD x hn)) x.2.their
  have hO:OpnH s r hk hp hn:=⟨h.sel,λk hk_=>by obtain ⟨y,hy,rfl⟩:=B8n hk_;exact (hr.sks y hy).1.1,by rw [hx];exact d1.sel,by rw [hx];exact d2.1⟩
  refine ⟨hO,?_⟩
  have hsame:GS s∧Ext s s∧WfR s r∧s.ts.length<=s.ts.length+200∧s.n<=s.n+1∧r.sks.length<=1000∧(r.their≠[]->r.their≠[]):=⟨h,Ext.refl _,hr,by omega,by omega,hsl,id⟩
  have hth:x.2.their≠[]:=λe=>by have:=bt2.k32.2;rw [e] at this;cases this
  unfold Q1;split
  . split
    . exact hsame
    . exact ⟨h,Ext.refl _,⟨hr.own,hr.root,hr.sk,hr.tk,hr.th,λy hy=>hr.sks y (B0t hy),hr.tt⟩,by dsimp only;omega,by dsimp only;omega,Az (A60 _ _ _) hsl,id⟩
  . split
    . exact ⟨a1,a2,hr.ext a2.p,by dsimp only;omega,by dsimp only;omega,hsl,id⟩
    . rw [hx];split
      . exact ⟨c1,b2.trans c2,hr.ext (b2.trans c2).p,by dsimp only;omega,by dsimp only;omega,hsl,id⟩
      . split
        . exact ⟨d1,hD,hr.ext hD.p,by dsimp only;omega,by dsimp only;omega,hsl,id⟩
        . cases hf:A0M r hk with
          | false =>
            rw [C1S rfl];exact ⟨d1,hD,hW,by dsimp only;omega,by dsimp only;omega,lC.2.2.2,λ_=>hth⟩
          | true =>
            rw [C1R rfl];have hW2:=hW.ext (fE.trans uE).p;refine ⟨u1,hD.trans (fE.trans uE),⟨f2.ext uE.p,u2,.inr u3,hW2.tk,hW2.th,hW2.sks,hW2.tt⟩,?_,?_,lC.2.2.2,λ_=>hth⟩
            . show (A43 (E7 (opD x hn)) x.2.root (F3 (opD x hn)) x.2.their).ts.length<=_;omega
            . show (A43 (E7 (opD x hn)) x.2.root (F3 (opD x hn)) x.2.their).n<=_;omega

def RS(s:Ps):Prop:=s.ts=[]∧s.real=true
theorem B5E(h:RS s){lb:LN}{ws:List (LN)}:RS (A34 s key ws lb n):=by rw [A5F h.2];exact h
theorem B9A{hk:LN}:∀(i:Nat) {x:Ast},RS x.1->RS (rep (aSt hk) i x).1
  | 0,_,h=>h
  | i+1,_,h=>B5E (B9A i h)
theorem B9B(h:RS s){sks:List Skp}:RS (ahX s key N n of sks).1:=by
  unfold ahX;split
  . exact B9A _ h
  . exact h
theorem C4h(h:RS s):RS (opB s r hk hp).1:=by
  unfold opB;split
  . have h1:RS (opA s r hp).1:=by
      unfold opA;split
      . exact h
      . exact B9B h
    show RS (A43 (opA s r hp).1 r.root r.own hk);unfold A43;have e:L0 (opA s r hp).1 r.own hk=(opA s r hp).1:=if_pos h1.2;exact B5E (by rw [e];exact h1)
  . exact h
theorem B9C(x:Nat)(r:Rsd)(hk:LN)(hp hn:Nat):OpnH (rcR x) r hk hp hn:=by
  have h0:RS (rcR x):=⟨E,E⟩
  have h1:RS (opD (opB (rcR x) r hk hp) hn):=B5E (B9B (C4h h0));exact ⟨W5.nil,λz _=>λh=>Bool.noConfusion h,by rw [h1.1];exact W5.nil,λh=>by rw [h1.2] at h;cases h⟩
theorem A8m(c:LN):(A1b (rcR 0) c).length=32:=by show ((A4z (rcR 0) c [] A26 2).getD 1 []).length=32;rw [A2W rfl];show (((A7e c [] A26 2).take (32*1+32)).drop (32*1)).length=32;unfold A7e;simp [V4]
variable{root:LN}
theorem C17{dh:LN}:((rTr root dh).getD 1 []).length=32:=by show (((A7e root [dh] A2w 2).take (32*1+32)).drop (32*1)).length=32;unfold A7e;simp [V4]
variable{p:Rsd}
theorem B9D(po:p.own=rk a):A3H (rcR x) p w t=T3 (H5 (X5 (rcR 0) p.sk) 32) n12 (alW w (rb a) p.prev p.sn) t:=by unfold A3H B1k;rw [po,A3P,B0l rfl];rfl
section
variable{o R C K w t root ptk:LN}{x a b m n pv hp ptn ppv:Nat}
theorem C5N(hK:K.length=32)(hn:n<100):Q1 (rcR x) ⟨o,rb a,R,C,m,K,n,pv,[]⟩ w (rb a) hp n (T3 (H5 (X5 (rcR 0) K) 32) n12 (alW w (rb a) hp n) t)=(rcR x,⟨o,rb a,R,C,m,A1b (rcR 0) K,n+1,pv,[]⟩,0,t):=by
  have hf:A0M (⟨o,rb a,R,C,m,K,n,pv,[]⟩:Rsd) (rb a)=false:=by unfold A0M;rw [decide_eq_true (show rb a=(⟨o,rb a,R,C,m,K,n,pv,[]⟩:Rsd).their from rfl),decide_eq_false (show ¬(⟨o,rb a,R,C,m,K,n,pv,[]⟩:Rsd).tk=[] from λe=>by rw [show K=[] from e] at hK;cases hK)];rfl
  have hE:ahE n n=0:=A1G (Av _) qO
  have hC:opC (rcR x,(⟨o,rb a,R,C,m,K,n,pv,[]⟩:Rsd)) n=(rcR x,K,n,[]):=by show ahX (rcR x) K n n (rb a) []=_;rw [A0A hE,Nat.sub_self];rfl
  have hD:opD (rcR x,(⟨o,rb a,R,C,m,K,n,pv,[]⟩:Rsd)) n=rcR x:=by unfold opD;rw [hC];rfl
  have hKK:A4b (rcR x,(⟨o,rb a,R,C,m,K,n,pv,[]⟩:Rsd)) n=X5 (rcR 0) K:=by unfold A4b;rw [hC];rfl
  rw [A3I E (B5m hf) (λh=>by rw [hf] at h;cases h) hE (by rw [hD,hKK,A5X rfl];exact A0L _ _ _ _),hf,hD];unfold opG;rw [hC];have e:(n+1)%4294967296=n+1:=Af qO;unfold opZ;rw [if_neg qD];dsimp only;rw [e];rfl
theorem C5O(hc:Cm a (a+1))(hne:rb (a+1)≠rb b)(hp_:ptk=[]∨ptn=hp)(eC:C=(rTr root (xk (rk (a+1)) (rb a))).getD 1 [])(eR:R=(rTr root (xk (rk (a+1)) (rb a))).getD 0 []):Q1 (rcR x) ⟨rk a,rb b,root,K,n,ptk,ptn,ppv,[]⟩ w (rb (a+1)) hp 0 (T3 (H5 (X5 (rcR 0) C) 32) n12 (alW w (rb (a+1)) hp 0) t)=(rcR (x+1),⟨rk (x+1),rb (a+1),(rTr R (xk (rk (x+1)) (rb (a+1)))).getD 0 [],(rTr R (xk (rk (x+1)) (rb (a+1)))).getD 1 [],0,A1b (rcR 0) C,1,n,[]⟩,0,t):=by
  have hf:A0M (⟨rk a,rb b,root,K,n,ptk,ptn,ppv,[]⟩:Rsd) (rb (a+1))=true:=by unfold A0M;rw [decide_eq_false (show ¬rb (a+1)=(⟨rk a,rb b,root,K,n,ptk,ptn,ppv,[]⟩:Rsd).their from hne)];rfl
  have hA:opA (rcR x) (⟨rk a,rb b,root,K,n,ptk,ptn,ppv,[]⟩:Rsd) hp=(rcR x,ptk,ptn,[])∧A9c (⟨rk a,rb b,root,K,n,ptk,ptn,ppv,[]⟩:Rsd) hp=0:=by
    by_cases h0:(⟨rk a,rb b,root,K,n,ptk,ptn,ppv,[]⟩:Rsd).tk=[]
    . exact ⟨B0m h0,A9d h0⟩
    . have e:ptn=hp:=hp_.resolve_left h0;subst e;have hE:ahE ptn ptn=0:=A1G (Av _) qO;rw [A49 h0,A3d h0];refine ⟨?_,hE⟩;show ahX (rcR x) ptk ptn ptn (rb b) []=_;rw [A0A hE,Nat.sub_self];rfl
  have hb:opB (rcR x) (⟨rk a,rb b,root,K,n,ptk,ptn,ppv,[]⟩:Rsd) (rb (a+1)) hp=(rcR x,⟨rk a,rb (a+1),R,K,n,C,0,ppv,[]⟩):=by rw [B5l hf,hA.1];unfold C1O A8t A8f;dsimp only;rw [C10,B1l,hc,eR,eC]
  have hE:ahE 0 0=0:=A1G (Av _) qD
  have hC:opC (rcR x,(⟨rk a,rb (a+1),R,K,n,C,0,ppv,[]⟩:Rsd)) 0=(rcR x,C,0,[]):=by show ahX (rcR x) C 0 0 (rb (a+1)) []=_;rw [A0A hE,Nat.sub_self];rfl
  have hD:opD (rcR x,(⟨rk a,rb (a+1),R,K,n,C,0,ppv,[]⟩:Rsd)) 0=rcR x:=by unfold opD;rw [hC];rfl
  have hKK:A4b (rcR x,(⟨rk a,rb (a+1),R,K,n,C,0,ppv,[]⟩:Rsd)) 0=X5 (rcR 0) C:=by unfold A4b;rw [hC];rfl
  rw [A3I E hb (λ_=>hA.2) hE (by rw [hD,hKK,A5X rfl];exact A0L _ _ _ _),hf,hD];unfold opG;rw [hC];unfold opZ;rw [if_pos rfl];unfold opF A8t A8f;dsimp only;rw [A3M,A1I,C10,B1l];rfl
end
structure LkR(N:Nat)(s:Ps)(p q:Rsd)(a b n:Nat):Prop where
  a1:16<=a
  a2:a<=16+N
  bb:(b=10∧a=16)∨(16<=b∧a=b+1)
  n2:n<=1+N
  s:s=rcR (a+1)
  po:p.own=rk a
  pt:p.their=rb b
  ps:p.sn=n
  pk:p.sks=[]
  qo:q.own=rk (a+1)
  qt:q.their=rb a
  qk:q.tk=p.sk
  qn:q.tn=n
  qs:q.sks=[]
  q0:q.sn=0
  qr:q.root=(rTr p.root (xk (rk (a+1)) (rb a))).getD 0 []
  qc:q.sk=(rTr p.root (xk (rk (a+1)) (rb a))).getD 1 []
  pp:p.tk=[]∨p.tn=q.prev
  pl:p.sk.length=32
def LRe(N:Nat)(s:Ps)(p q:Rsd):Prop:=∃a b n,LkR N s p q a b n
theorem lw_r:Lw (λw=>w.length<=1000) LRe where
  bd:=by
    rintro N s p q ⟨a,b,n,h⟩ hN;have e:=h.s;subst e;refine ⟨Am _,by rw [h.pl];decide,by rw [h.qc,C17];decide,?_,?_⟩
    . rw [h.po,A3P,rbl]
    . rw [h.qo,A3P,rbl]
  wl:=λh=>h
  one:=by
    rintro N s p q w i ⟨a,b,n,h⟩ hN hw hi;have e:=h.s;subst e;have hs:(n+1)%4294967296=n+1:=Af (by have:=h.n2;omega);obtain ⟨qo,qt,qr,qc,qn,qk,qm,qv,qs⟩:=q;have e1:qt=rb a:=h.qt;have e2:qk=p.sk:=h.qk;have e3:qm=n:=h.qn;have e4:qs=[]:=h.qs;subst e1 e2 e3 e4;have eK:=B9D (x:=a+1) (w:=w) (t:=[i]) h.po;rw [h.ps] at eK;refine ⟨rcR (a+1),⟨qo,rb a,qr,qc,qn,A1b (rcR 0) p.sk,qm+1,qv,[]⟩,⟨B9C _ _ _ _ _,?_,?_,Am _,(by show a+1<=900;have:=h.a2;omega)⟩,a,b,qm+1,⟨h.a1,by have:=h.a2;omega,h.bb,by have:=h.n2;omega,E,h.po,h.pt,?_,h.pk,h.qo,E,E,E,E,h.q0,h.qr,h.qc,h.pp,A8m _⟩⟩
    . rw [show I6 (rcR (a+1)) p.own=rb a by rw [h.po,A3P],h.ps,eK];exact C5N h.pl (by have:=h.n2;omega)
    . rw [eK,A1Y];exact (by decide:1+16<=1000)
    . show (p.sn+1)%4294967296=_;rw [h.ps];exact hs
  two:=by
    rintro N s p q w i ⟨a,b,n,h⟩ hN hw hi;have e:=h.s;subst e;obtain ⟨po,pt,pr,pc,pn,pk,pm,pv,ps⟩:=p;have e1:po=rk a:=h.po;have e2:pt=rb b:=h.pt;have e3:pn=n:=h.ps;have e4:ps=[]:=h.pk;subst e1 e2 e3 e4;have eK:=B9D (x:=a+1) (w:=w) (t:=[i]) h.qo;rw [h.q0] at eK;have a2:=h.a2;refine ⟨rcR (a+1+1),⟨rk (a+1+1),rb (a+1),(rTr q.root (xk (rk (a+1+1)) (rb (a+1)))).getD 0 [],(rTr q.root (xk (rk (a+1+1)) (rb (a+1)))).getD 1 [],0,A1b (rcR 0) q.sk,1,pn,[]⟩,⟨B9C _ _ _ _ _,?_,?_,Am _,(by show a+1<=900;omega)⟩,a+1,a,1,⟨by have:=h.a1;omega,by omega,.inr ⟨h.a1,E⟩,by omega,E,h.qo,h.qt,?_,h.qs,E,E,E,E,E,E,E,E,.inr h.qn,A8m _⟩⟩
    . rw [show I6 (rcR (a+1)) q.own=rb (a+1) by rw [h.qo,A3P],h.q0,eK];exact C5O (cm_u h.a1 qO) (rb_u h.bb qO) h.pp h.qc h.qr
    . rw [eK,A1Y];exact (by decide:1+16<=1000)
    . show (q.sn+1)%4294967296=1;rw [h.q0]

theorem B8q:rcA 0=(rKs 0 1 0,rcR 7):=newR 0 1 0
theorem B8r:rcB 0=(rKs 1 1 7,rcR 14):=by unfold rcB;rw [B8q];exact newR 1 1 7
def C5P(u d:Int)(n:Nat):List Bn:=[rBn u d n 0,rBn u d n 1,rBn u d n 2,rBn u d n 3,rBn u d n 4]
theorem B8s:rcU 0=(C5P 1 1 7,rcR 14):=by unfold rcU;rw [B8r];exact bunR 1 1 7 14
theorem C18(u d:Int)(n:Nat)(hj:j<5):(C5P u d n).getD j rcO=rBn u d n j:=by
  match j,hj with
  | 0,_=>rfl
  | 1,_=>rfl
  | 2,_=>rfl
  | 3,_=>rfl
  | 4,_=>rfl
section
variable{i j:Nat}(hj:j<5)(hi:i<5)
include hj
theorem C19:rcY 0 j=rBn 1 1 7 j:=by unfold rcY;rw [B8s];exact C18 1 1 7 hj
theorem C5Q:rcX 0 j=⟨rId 0 1 0 1 1 7 14 j,rWi 0 1 0 1 1 7,rHe 0 14 j,true,rRt 0 7 14 j⟩:=by unfold rcX;rw [B8q,C19 hj,B8s];exact sXR
theorem C5R:rcD 0 j=rcR 16:=by unfold rcD;rw [B8q,C19 hj,B8s];exact sDR
end
variable{u1 d1 u2 d2:Int}{c:Nat}
theorem C4H{b:Nat}:(rId u1 d1 a u2 d2 b c j).length=32:=A0k _
theorem C4I{b:Nat}:(rWi u1 d1 a u2 d2 b).length=160:=by unfold rWi B4s;rw [An,A86,A86,rbl,rgl,rbl,rgl]
theorem rTrl{dh:LN}:((rTr root dh).getD 1 []).length=32:=by show (((A7e root [dh] A2w 2).take (32*1+32)).drop (32*1)).length=32;unfold A7e;simp [V4]
theorem ksR{u d:Int}:KsF (rKs u d n):=⟨E,(by decide:4<=10),(by decide:([2,3,4,5]:LN).Pairwise (· < ·))⟩
theorem st1R{b:Nat}(hc:c<=90)(hk:A7Z (rg (b+2)) (A94 1 (rb (b+3))) (rs b)=true):C36 (rKs u1 d1 a) (C5P u2 d2 b,rcR c) (rBn u2 d2 b j):=by
  refine ⟨⟨E,Am _,Az hc qD⟩,λt ht=>absurd ht List.not_mem_nil,?_,?_⟩
  . show ckB (rcR c) (rBn u2 d2 b j)=true;unfold ckB;rw [show (rBn u2 d2 b j).key=rb (b+3) from rfl,show (rBn u2 d2 b j).ig=rg (b+2) from rfl,show (rBn u2 d2 b j).sig=rs b from rfl,show (rBn u2 d2 b j).signed=1 from rfl,B3X E,hk,rbl];rfl
  . show (stS (rKs u1 d1 a) (rBn u2 d2 b j) (rcR c)).ts.length<=900∧(stS (rKs u1 d1 a) (rBn u2 d2 b j) (rcR c)).n<=900∧(stH (rKs u1 d1 a) (rBn u2 d2 b j) (rcR c)).ia.length<=1000∧(stH (rKs u1 d1 a) (rBn u2 d2 b j) (rcR c)).ig.length<=1000∧(stH (rKs u1 d1 a) (rBn u2 d2 b j) (rcR c)).key.length<=1000∧(idA (rKs u1 d1 a) (stS (rKs u1 d1 a) (rBn u2 d2 b j) (rcR c))).length+(idG (rKs u1 d1 a) (stS (rKs u1 d1 a) (rBn u2 d2 b j) (rcR c))).length+(rBn u2 d2 b j).ia.length+(rBn u2 d2 b j).ig.length<=1000000;rw [C5C,C5D,idR.2.1,idR.2.2];show 0<=900∧c+1<=900∧(rb (a+1)).length<=1000∧(rg (a+2)).length<=1000∧(rb (c+1)).length<=1000∧(rb (a+1)).length+(rg (a+2)).length+(rb (b+1)).length+(rg (b+2)).length<=1000000;rw [rbl,rgl,rbl,rbl,rgl];omega
theorem op_0(hj:j<5):OpF 0 j:=by unfold OpF;rw [B8q,B8r,B8s,C19 hj];exact ⟨ksR,ksR,st1R qD C5I⟩
def rX(u1 d1:Int)(a:Nat)(u2 d2:Int)(b c j:Nat):Ses:=⟨rId u1 d1 a u2 d2 b c j,rWi u1 d1 a u2 d2 b,rHe a c j,true,rRt a b c j⟩
section
variable{u1 d1 u2 d2 fu fd tu td:Int}{a b c j x y:Nat}{tx:LN}
theorem wil:(wiW (rX u1 d1 a u2 d2 b c j) (rX u1 d1 a u2 d2 b c j).he fu fd tu td).length<=1000:=by have h:=A6W [] (A1H (rX u1 d1 a u2 d2 b c j) (rX u1 d1 a u2 d2 b c j).he fu fd tu td);have e1:(A1H (rX u1 d1 a u2 d2 b c j) (rX u1 d1 a u2 d2 b c j).he fu fd tu td).ses.length=32:=C4H;have e2:(A1H (rX u1 d1 a u2 d2 b c j) (rX u1 d1 a u2 d2 b c j).he fu fd tu td).he.ia.length=32:=rbl _;have e3:(A1H (rX u1 d1 a u2 d2 b c j) (rX u1 d1 a u2 d2 b c j).he fu fd tu td).he.ig.length=32:=rgl _;have e4:(A1H (rX u1 d1 a u2 d2 b c j) (rX u1 d1 a u2 d2 b c j).he fu fd tu td).he.key.length=32:=rbl _;have e5:([]:LN).length=0:=rfl;unfold wiW;rw [An,show (rX u1 d1 a u2 d2 b c j).wi.length=160 from C4I];omega
def rE(u1 d1:Int)(a:Nat)(u2 d2:Int)(b c j:Nat)(fu fd tu td:Int)(y:Nat)(tx:LN):Ev:=evS (rcR y) (rX u1 d1 a u2 d2 b c j) (rX u1 d1 a u2 d2 b c j).he fu fd tu td tx
end
section
variable{u1 d1 u2 d2 fu fd tu td:Int}{a b c j x y:Nat}{tx:LN}
end
def C2a(hk:LN)(k:Nat->LN)(sks:List Skp):Nat->List Skp
  | 0=>sks
  | i+1=>B5S (C2a hk k sks i) ⟨hk,i,k i⟩
def skL(hk:LN)(k:Nat->LN)(n:Nat):List Skp:=(List.range n).map λj=>⟨hk,j,k j⟩
theorem C2b(hk:LN)(k:Nat->LN)(n:Nat):(skL hk k n).length=n:=by simp [skL]
theorem C4i{l:List Skp}(h:∀x∈l,x.n≠i):W3 (tst hk i) l = -1:=by
  obtain ⟨hf,-⟩|⟨j,x,-,hx,hq,-⟩:=P8 (tst hk i) l
  . exact hf
  . have:=h x (As hx);simp [tst,this] at hq
theorem C2c{k:Nat->LN}{x:Skp}(h:x∈skL hk k n):x.n<n:=by obtain ⟨j,hj,rfl⟩:=List.mem_map.1 h;exact List.mem_range.1 hj
theorem A9i(hk:LN)(k:Nat->LN):∀i,i<=32->C2a hk k [] i=skL hk k i
  | 0,_=>rfl
  | i+1,hi=>by show B5S (C2a hk k [] i) ⟨hk,i,k i⟩=_;rw [A9i hk k i qO];unfold B5S;rw [A4Z (C4i λx hx=>by have:=C2c hx;show x.n≠i;omega)];rw [show (skL hk k i++[(⟨hk,i,k i⟩:Skp)]).length-32=0 by rw [An,C2b];simp;omega,List.drop_zero];unfold skL;rw [List.range_succ,List.map_append];rfl
def fX(j:Nat):Ses:=rX 0 1 0 1 1 7 14 j
def fc(j:Nat):Nat->LN
  | 0=>(rRt 0 7 14 j).sk
  | i+1=>A1b (rcR 0) (fc j i)
def fk(j i:Nat):LN:=X5 (rcR 0) (fc j i)
def fr(j i:Nat):Rsd:=⟨(rRt 0 7 14 j).own,(rRt 0 7 14 j).their,(rRt 0 7 14 j).root,fc j i,i,[],0,0,[]⟩
def fw(j:Nat):LN:=wiW (fX j) (fX j).he 0 1 1 1
def fg(j i:Nat):LN:=T3 (H5 (fk j i) 32) n12 (alW (fw j) (rb (14+2)) 0 i) [i%256]
theorem B9E(j:Nat):∀i,(fc j i).length=32
  | 0=>rTrl
  | i+1=>by show ((A4z (rcR 0) (fc j i) [] A26 2).getD 1 []).length=32;rw [A2W rfl];show (((A7e (fc j i) [] A26 2).take (32*1+32)).drop (32*1)).length=32;unfold A7e;simp [V4]
theorem C4j{j:Nat}(hj:j<5):∀i,i<=6->frS 0 j i=(rcR 16,⟨(fX j).id,(fX j).wi,(fX j).he,true,fr j i⟩)
  | 0,_=>by show (rcD 0 j,rcX 0 j)=_;rw [C5R hj,C5Q hj];rfl
  | i+1,hi=>by show (U0 (frS 0 j i).1 (frS 0 j i).2.r (wiW (frS 0 j i).2 (frS 0 j i).2.he 0 1 1 1) [i%256],K7 (frS 0 j i).2 (G9 (frS 0 j i).1 (frS 0 j i).2.r))=_;rw [C4j hj i qO];have e:(i+1)%4294967296=i+1:=Af qO;show (rcR 16,(⟨_,_,_,_,⟨_,_,_,fc j (i+1),(i+1)%4294967296,_,_,_,_⟩⟩:Ses))=_;rw [e];rfl
theorem fe_0(hj:j<5)(hi:i<=6):frE 0 j i=⟨0,1,1,1,(fX j).id,true,rHe 0 14 j,rb (14+2),0,i,fg j i⟩:=by
  unfold frE evS;rw [C4j hj i hi];dsimp only;rw [show I6 (rcR 16) (fr j i).own=rb (14+2) from A3P 16 (14+2)]
  have e:A3H (rcR 16) (fr j i) (fw j) [i%256]=fg j i:=by unfold A3H B1k;rw [show I6 (rcR 16) (fr j i).own=rb (14+2) from A3P 16 (14+2),B0l rfl];rfl
  rw [<- e];rfl
theorem heL(a c j:Nat):(rHe a c j).ia.length=32∧(rHe a c j).ig.length=32∧(rHe a c j).key.length=32:=by unfold rHe;exact ⟨rbl _,rgl _,rbl _⟩
theorem fhe(j:Nat):(rHe 0 14 j).ia.length=32∧(rHe 0 14 j).ig.length=32∧(rHe 0 14 j).key.length=32:=heL 0 14 j
theorem aWiR{b:Nat}{e:Ev}(h1:e.fu=u1)(h2:e.fd=d1)(h3:e.he=rHe a c j):aWi (rKs u2 d2 b) e (rcR x)=rWi u1 d1 a u2 d2 b:=by unfold aWi;rw [idR.2.1,idR.2.2,h1,h2,h3];rfl
theorem B9F(j:Nat):(fw j).length<=1000:=wil
theorem C4k(j i:Nat):(fg j i).length=17:=by unfold fg;rw [A1Y];rfl
theorem C5S(hj:j<5):FrS 0 j:=λi hi=>by
  rw [C4j hj i qO];refine ⟨Am _,E,?_,?_,?_,Az (B9F j) qD⟩
  . show 0<(fc j i).length;rw [B9E];decide
  . rw [show (fX j).wi.length=160 from C4I];decide
  . show (rId 0 1 0 1 1 7 14 j).length+(rHe 0 14 j).ia.length+(rHe 0 14 j).ig.length+(rHe 0 14 j).key.length<=1000000;have:=fhe j;rw [C4H];omega
theorem C5T(j x:Nat)(hk:LN):∀i,rep (aSt hk) i (rcR x,fc j 0,0,[])=(rcR x,fc j i,i,C2a hk (fk j) [] i)
  | 0=>rfl
  | i+1=>by show aSt hk (rep (aSt hk) i (rcR x,fc j 0,0,[]))=_;rw [C5T j x hk i];rfl
def fz(j n:Nat)(l:List Skp):Rsd:=⟨F3 (rcR 16),rb (14+2),A8t (E7 (rcR 16)) (rRt 0 7 14 j).root (F3 (rcR 16)) (rb (14+2)),A8f (E7 (rcR 16)) (rRt 0 7 14 j).root (F3 (rcR 16)) (rb (14+2)),0,fc j n,n,0,l⟩
def fx(j n:Nat)(l:List Skp):Ses:=⟨(fX j).id,(fX j).wi,he0,false,fz j n l⟩
section
variable{j n i p:Nat}{l:List Skp}{t w:LN}
theorem C5U(hp:p<=5):Q1 (rcR 16) (A2e (A3e 0 7 14 j) (rk (7+3))) w (rb (14+2)) 0 p (T3 (H5 (fk j p) 32) n12 (alW w (rb (14+2)) 0 p) t)=(rcR 17,fz j (p+1) (skL (rb (14+2)) (fk j) p),0,t):=by
  have hb:opB (rcR 16) (A2e (A3e 0 7 14 j) (rk (7+3))) (rb (14+2)) 0=(rcR 16,⟨rk (7+3),rb (14+2),(rRt 0 7 14 j).root,[],0,(rRt 0 7 14 j).sk,0,0,[]⟩):=opBR (a:=0) (b:=7) (c:=14) B0q;have hE:ahE 0 p=0:=A1G (Am _) qO
  have hC:opC (rcR 16,(⟨rk (7+3),rb (14+2),(rRt 0 7 14 j).root,[],0,(rRt 0 7 14 j).sk,0,0,[]⟩:Rsd)) p=(rcR 16,fc j p,p,skL (rb (14+2)) (fk j) p):=by show ahX (rcR 16) (fc j 0) 0 p (rb (14+2)) []=_;rw [A0A hE,Nat.sub_zero,C5T,A9i _ _ _ qO]
  have hf:A0M (A2e (A3e 0 7 14 j) (rk (7+3))) (rb (14+2))=true:=by unfold A0M;rw [show decide ((A2e (A3e 0 7 14 j) (rk (7+3))).tk=[])=true from rfl,Bool.or_true]
  have hD:opD (rcR 16,(⟨rk (7+3),rb (14+2),(rRt 0 7 14 j).root,[],0,(rRt 0 7 14 j).sk,0,0,[]⟩:Rsd)) p=rcR 16:=by unfold opD;rw [hC];rfl
  have hK:A4b (rcR 16,(⟨rk (7+3),rb (14+2),(rRt 0 7 14 j).root,[],0,(rRt 0 7 14 j).sk,0,0,[]⟩:Rsd)) p=fk j p:=by unfold A4b;rw [hC];rfl
  rw [A3I E hb (λ_=>rfl) hE (by rw [hD,hK,A5X rfl];exact A0L _ _ _ _),hf,hD];unfold opG;rw [hC];have e:(p+1)%4294967296=p+1:=Af qO;unfold opZ;rw [if_pos rfl];unfold opF;dsimp only;rw [e];rfl
end
theorem selR:W5 (rcR x).ts:=W5.nil
theorem kokR:Kok (rcR x) w:=λh=>Bool.noConfusion h
section
variable{j n i:Nat}{l:List Skp}
end
def skS(j i q:Nat):List Skp:=(List.range' i q).map λt=>⟨rb (14+2),t,fk j t⟩
theorem C5V{k p:Nat}(hj:j<5)(hk:k<=6)(hp:p<k):AnF (rcB 0).1 (frE 0 j p) (frS 0 j k).1 [p%256] (A3e 0 7 14 j) (rk (7+3)) (rcR 16) (rcR 17) (fz j (p+1) (skL (rb (14+2)) (fk j) p))∧A3K (aX (rcB 0).1 (frE 0 j p) (rcR 16) (A3e 0 7 14 j) (rk (7+3))) (fz j (p+1) (skL (rb (14+2)) (fk j) p))=fx j (p+1) (skS j 0 p):=by
  have e0:=fe_0 hj (show p<=6 by omega);have es:(frS 0 j k).1=rcR 16:=by rw [C4j hj k hk]
  have hl:skL (rb (14+2)) (fk j) p=skS j 0 p:=by unfold skL skS;rw [List.range_eq_range']
  have w0:aWi (rKs 1 1 7) (frE 0 j p) (rcR 16)=(fX j).wi:=aWiR (a:=0) (c:=14) (j:=j) (by rw [e0]) (by rw [e0]) (by rw [e0])
  have w1:aNm (rKs 1 1 7) (frE 0 j p) (rcR 16)=rNm 0 1 0 1 1 7 14 j:=by unfold aNm;rw [w0,e0];rfl
  have w2:aC (rKs 1 1 7) (frE 0 j p) (rcR 16)=rcR 16:=by unfold aC;rw [idR.1,A6Y rfl]
  have w3:aX (rKs 1 1 7) (frE 0 j p) (rcR 16) (A3e 0 7 14 j) (rk (7+3))=⟨(fX j).id,(fX j).wi,he0,false,A2e (A3e 0 7 14 j) (rk (7+3))⟩:=by unfold aX;rw [w0,w1,idR.1,A6Z rfl];rfl
  have h1:(fX j).id.length=32:=C4H;have h2:(fX j).wi.length=160:=C4I;have h3:=B9F j;have wf:(fX j).wi++frW [] (frE 0 j p)=fw j:=by rw [e0];rfl
  have ee:frE 0 j p=rE 0 1 0 1 1 7 14 j 0 1 1 1 16 []->True:=λ_=>trivial
  have ha:anR (rKs 1 1 7) (frE 0 j p).he (rcR 16)=(some (A3e 0 7 14 j,rk (7+3)),rcR 16):=by
    rw [e0];refine anRR (a:=0) (b:=7) (c:=14) hj C11 C12 B8d λh=>?_;rcases (by omega:j=1∨j=2∨j=3∨j=4) with rfl|rfl|rfl|rfl
    . exact B8e
    . exact B8f
    . exact B8g
    . exact B8h
  have hop:Q1 (rcR 16) (A2e (A3e 0 7 14 j) (rk (7+3))) (fw j) (rb (14+2)) 0 p (fg j p)=(rcR 17,fz j (p+1) (skL (rb (14+2)) (fk j) p),0,[p%256]):=C5U qO
  have hA:AnF (rcB 0).1 (frE 0 j p) (frS 0 j k).1 [p%256] (A3e 0 7 14 j) (rk (7+3)) (rcR 16) (rcR 17) (fz j (p+1) (skL (rb (14+2)) (fk j) p)):=by
    rw [B8r,es];refine ⟨ha,⟨⟨Am _,by rw [e0],Am _⟩,?_,?_,?_,?_,?_,?_,?_,⟨Am _,(show 17<=900 by decide)⟩,?_⟩,?_,?_⟩
    . rw [idR.2.1,idR.2.2,e0];show (rHe 0 14 j).ia.length+(rHe 0 14 j).ig.length+_+_<=_;have:=fhe j;rw [rbl,rgl];omega
    . rw [e0];show (fX j).id.length+(rHe 0 14 j).ia.length+(rHe 0 14 j).ig.length+(rHe 0 14 j).key.length<=_;have:=fhe j;omega
    . rw [w1,idR.1,A6Z E,e0];rfl
    . rw [w2];exact ⟨Am _,(show 16<=900 by decide)⟩
    . rw [w3];show (fX j).wi.length<=_;omega
    . rw [w3];show ((fX j).wi++frW [] (frE 0 j p)).length+_<=_;rw [wf,e0];show (fw j).length+(rb (14+2)).length<=_;rw [rbl];omega
    . rw [e0];show (fg j p).length<=_;rw [C4k];decide
    . show 0<(F3 (rcR 16)).length;rw [A1I];unfold rk B5O;rw [V4];decide
    . rw [w2,w3,e0];have hb:opB (rcR 16) (A2e (A3e 0 7 14 j) (rk (7+3))) (rb (14+2)) 0=(rcR 16,⟨rk (7+3),rb (14+2),(rRt 0 7 14 j).root,[],0,(rRt 0 7 14 j).sk,0,0,[]⟩):=opBR (a:=0) (b:=7) (c:=14) B0q
      have hC:opC (rcR 16,(⟨rk (7+3),rb (14+2),(rRt 0 7 14 j).root,[],0,(rRt 0 7 14 j).sk,0,0,[]⟩:Rsd)) p=(rcR 16,fc j p,p,skL (rb (14+2)) (fk j) p):=by show ahX (rcR 16) (fc j 0) 0 p (rb (14+2)) []=_;rw [A0A (A1G (Am _) qO),Nat.sub_zero,C5T,A9i _ _ _ qO]
      refine ⟨selR,λz _=>kokR,?_,?_⟩
      . show W5 (opD (opB (rcR 16) (A2e (A3e 0 7 14 j) (rk (7+3))) (rb (14+2)) 0) p).ts;rw [hb];unfold opD;rw [hC];exact selR
      . show Kok (opD (opB (rcR 16) (A2e (A3e 0 7 14 j) (rk (7+3))) (rb (14+2)) 0) p) _;rw [hb];unfold opD;rw [hC];exact kokR
    . rw [w2,w3,wf,e0];exact hop
  have hx:A3K (aX (rcB 0).1 (frE 0 j p) (rcR 16) (A3e 0 7 14 j) (rk (7+3))) (fz j (p+1) (skL (rb (14+2)) (fk j) p))=fx j (p+1) (skS j 0 p):=by rw [B8r,w3,hl];rfl
  exact ⟨hA,hx⟩
theorem B9G{s:Ps}{hk:LN}{c k:Nat->LN}{sks:List Skp}:∀(i:Nat),(∀j,j<i->A5a s (c j) (k j) (c (j+1)))->rep (aSt hk) i (s,c 0,0,sks)=(s,c i,i,C2a hk k sks i)
  | 0,_=>rfl
  | i+1,h=>by show aSt hk (rep (aSt hk) i (s,c 0,0,sks))=_;rw [B9G i λj hj=>h j qO];obtain ⟨e1,e2,e3⟩:=(h i qO).eq;unfold aSt;dsimp only;rw [e1,e2,e3];rfl
theorem C2d{b R C g:LN}{c k:Nat->LN}(hg:GS s)(hl:s.ts.length<=1000000)(h0:A5T r.sks hk n=none)(hfr:A0M r hk=true)(hA:opA s r hp=(s,r.tk,r.tn,r.sks))(hAE:A9c r hp=0)(ta:TrnAt s r.root r.own b R C)(hB:S9 s b hk)
    (hc:c 0=C) (h16:n<=16) (hst:∀j,j<=n->A5a s (c j) (k j) (c (j+1))) (ho:A3c s (k n) (alW w hk hp n) g=some t) :
    Q1 s r w hk hp n g=(A43 (E7 s) R (F3 s) hk,⟨F3 s,hk,A8t (E7 s) R (F3 s) hk,A8f (E7 s) R (F3 s) hk,0,c (n+1),n+1,r.sn,C2a hk k r.sks n⟩,0,t):=by
  obtain ⟨e1,e2,e3⟩:=ta.eq hB hg qO
  have hx:opB s r hk hp=(s,⟨r.own,hk,R,r.sk,r.sn,C,0,r.prev,r.sks⟩):=by rw [B5l hfr,hA];unfold C1O;dsimp only;rw [e1,e2,e3]
  have hE:ahE 0 n=0:=A1G (Am _) qO
  have hC:opC (s,(⟨r.own,hk,R,r.sk,r.sn,C,0,r.prev,r.sks⟩:Rsd)) n=(s,c n,n,C2a hk k r.sks n):=by show ahX s C 0 n hk r.sks=_;rw [A0A hE,Nat.sub_zero,<- hc];exact B9G n λj hj=>hst j qO
  obtain ⟨f1,f2,f3⟩:=(hst n (Av _)).eq;have hD:opD (s,(⟨r.own,hk,R,r.sk,r.sn,C,0,r.prev,r.sks⟩:Rsd)) n=s:=by unfold opD;rw [hC];exact f1
  have hK:A4b (s,(⟨r.own,hk,R,r.sk,r.sn,C,0,r.prev,r.sks⟩:Rsd)) n=k n:=by unfold A4b;rw [hC];exact f2
  rw [A3I h0 hx (λ_=>hAE) hE (by rw [hD,hK];exact ho),C1R hfr,hD];unfold opF opG;rw [hC];dsimp only;rw [f3,Af qO]
theorem A3l.cmT{a b k:LN}(hr:s.real=false)(h:A3l s a b k):A3l s b a k:=by rw [A3l.f hr] at h ⊢;obtain ⟨i,j,m,h1,h2,h3,h4,h5,h6⟩:=h;exact ⟨j,i,m,h2,h1,h4,h3,by rw [h5];unfold B88;rw [B7w],h6⟩
theorem TrnAt.cmT{s:Ps}{root a b R C:LN}(hr:s.real=false)(h:TrnAt s root a b R C):TrnAt s root b a R C:=by obtain ⟨k,L,h1,h2,h3,h4⟩:=h.ex;exact ⟨k,L,h1.cmT hr,h2,h3,h4⟩
def FrT(s:Ps)(w:LN)(n:Nat):Prop:=∃i:Nat,i<1048576∧w=bts ((i:Nat):Int)∧s.ts[i]? = some (B1o n)
theorem FrT.ext{s':Ps}(h:FrT s w n)(he:Pext s s'):FrT s' w n:=by obtain ⟨l,e⟩:=he.ts;obtain ⟨i,h1,h2,h3⟩:=h;exact ⟨i,h1,h2,by rw [e];exact A4B h3⟩
theorem FrT.uni{m:Nat}(h:FrT s w n)(h':FrT s w m):n=m:=by obtain ⟨i,h1,h2,h3⟩:=h;obtain ⟨j,k1,k2,k3⟩:=h';have e:=A8J qO qO (h2.symm.trans k2);subst e;have e2:=Ca (h3.symm.trans k3);have e3:=congrArg Tm.n e2;exact Int.ofNat_inj.1 e3
theorem C4l(hr:s.real=false)(h:Tok s.ts)(hn:s.n<1000000)(hl:s.ts.length<=1000000):FrT (E7 s) (F3 s) (s.n+1):=by obtain ⟨l,g1,g2,g3,g4⟩:=A4A (A6t (n:=s.n+1) qO) h;rw [A33 hr,A2V hr];have:=(Ac.1 g3).1;exact ⟨_,by omega,E,g3⟩
theorem C2e{a b p:LN}(hr:s.real=false)(hl:s.ts.length<=1000000)(h:S9 s a p)(h':S9 s b p):a=b:=by unfold S9 at h h';rw [if_neg (by rw [hr];decide)] at h h';obtain ⟨i,j,h1,h2,h3,h4⟩:=h;obtain ⟨i',j',k1,k2,k3,k4⟩:=h';have l1:=(Ac.1 h3).1;have l2:=(Ac.1 k3).1;have e:=A8J qO qO (h4.symm.trans k4);subst e;have e2:=congrArg Tm.of (Ca (h3.symm.trans k3));have e3:((i:Nat):Int)=((i':Nat):Int):=(List.cons.inj e2).1;rw [h2,k2,e3]
structure LkT(N:Nat)(s:Ps)(p q:Rsd)(o:LN)(b c a:Nat):Prop where
  re:s.real=false
  gs:GS s
  wp:WfR s p
  wq:WfR s q
  ta:TrnAt s p.root p.own q.own q.root q.sk
  pa:S9 s p.own q.their
  po:S9 s o p.their
  fo:FrT s o b
  fp:FrT s p.own c
  fq:FrT s q.own a
  ne:b≠a
  cn:c<=s.n
  an:a<=s.n
  qk:q.tk=p.sk
  qn:q.tn=p.sn
  q0:q.sn=0
  sn:p.sn<=1+N
  pk:p.sk≠[]
  qc:q.sk≠[]
  ps:p.sks=[]
  qs:q.sks=[]
  pp:p.tk=[]∨p.tn=q.prev
  pv:p.prev<=1+N
  qv:q.prev<=1+N
  pt:p.tn<=1+N
  len:s.ts.length<=250+27*N
  n:s.n<=100+N
def LTe(N:Nat)(s:Ps)(p q:Rsd):Prop:=∃o b c a,LkT N s p q o b c a
def WT(w:LN):Prop:=(∀x∈w,x<256)∧w.length<=1000
theorem i_lt(hi:i<20):∀x∈[i],x<256:=λx hx=>by rw [List.mem_singleton.1 hx];omega
variable{q:Rsd}
theorem C4m(hL:LTe N s p q)(hN:N<22)(hw:WT w)(hi:i<20):∃z r,OpR s p q w [i] z r∧LTe (N+1) z (G9 s p) r:=by
  obtain ⟨o,b,c,a,h⟩:=hL;have ln:=h.len;have nn:=h.n;have hsn:=h.sn;have hpv:=h.pv;obtain ⟨a1,a2,a3,a4,a5,a6,a7,a8⟩:=C4d (w:=w) (t:=[i]) h.gs h.wp h.pk qO qO hw.1 hw.2 (i_lt hi) (show 1<=900 by decide) qO;have l1:=A7b s p w [i];have hk:I6 s p.own=q.their:=(h.pa.eq h.gs.tok qO).2;have hr':(U0 s p w [i]).real=false:=a2.p.real.trans h.re;have hO:=C4g (w:=w) (g:=A3H s p w [i]) a1 (h.wq.ext a2.p) a5 (by rw [h.qn];omega) qO (by rw [h.qs];exact Am _) qO;rw [hk] at a4 a5 a8 hO;obtain ⟨s1,s2,s3⟩:=a6.eq
  have hf:A0M q q.their=false:=by unfold A0M;rw [decide_eq_true E,decide_eq_false (show ¬q.tk=[] from by rw [h.qk];exact h.pk)];rfl
  have hE:ahE q.tn p.sn=0:=by rw [h.qn];exact A1G (Av _) qO
  have hC:opC (U0 s p w [i],q) p.sn=(U0 s p w [i],p.sk,p.sn,[]):=by show ahX _ q.tk q.tn p.sn q.their q.sks=_;rw [A0A hE,h.qn,Nat.sub_self,h.qk,h.qs];rfl
  have hD:opD (U0 s p w [i],q) p.sn=U0 s p w [i]:=by unfold opD;rw [hC];exact s1
  have hKK:A4b (U0 s p w [i],q) p.sn=X5 (H7 s p.own) p.sk:=by unfold A4b;rw [hC];exact s2
  have e:=A3I (w:=w) (g:=A3H s p w [i]) (t:=[i]) (hk:=q.their) (hp:=p.prev) (by rw [h.qs];rfl) (B5m hf) (λh=>by rw [hf] at h;cases h) hE (by rw [hD,hKK];exact a8 _ a1 (Pext.refl _) qO);rw [C1S hf,hD] at e
  have hG:opG q (U0 s p w [i],q) p.sn=⟨q.own,q.their,q.root,q.sk,q.sn,A1b (H7 s p.own) p.sk,p.sn+1,q.prev,[]⟩:=by unfold opG;rw [hC];dsimp only;rw [s3,Af qO]
  rw [hG] at e;dsimp only at e;obtain ⟨o1,o2,o3,o4,o5,o6,o7,o8⟩:=hO;rw [e] at o4;have hg:=a5.gl;refine ⟨_,_,⟨by rw [hk];exact o1,by rw [hk];exact e,hg,by omega,by omega⟩,o,b,c,a,⟨hr',a1,a3,o4,h.ta.ext a2.p h.gs a1 qO,a4,h.po.ext a2.p,h.fo.ext a2.p,h.fp.ext a2.p,h.fq.ext a2.p,h.ne,by have:=h.cn;omega,by have:=h.an;omega,E,?_,h.q0,?_,?_,h.qc,h.ps,E,h.pp,by have:=h.pv;show p.prev<=_;omega,by have:=h.qv;show q.prev<=_;omega,by have:=h.pt;show p.tn<=_;omega,by omega,by omega⟩⟩
  . show p.sn+1=(p.sn+1)%4294967296;rw [Af qO]
  . show (p.sn+1)%4294967296<=_;rw [Af qO];omega
  . intro e3
    have:=(a3.sk)
    have hk2:=(A8h (c:=p.sk) (B78 h.gs h.wp.own qO).1 ((h.wp.sk.resolve_left h.pk).ext (B3U _ _).p) (by have:=A42 s p.own;omega)).2.2.1;have h2:=hk2.2.2;rw [show A1b (H7 s p.own) p.sk=[] from e3] at h2;cases h2
theorem C4n(hL:LTe N s p q)(hN:N<22)(hw:WT w)(hi:i<20):∃z r,OpR s q p w [i] z r∧LTe (N+1) z (G9 s q) r:=by
  obtain ⟨o,b,c,a,h⟩:=hL;have ln:=h.len;have nn:=h.n;have hsn:=h.sn;have hpv:=h.qv;have hpt:=h.pt;obtain ⟨a1,a2,a3,a4,a5,a6,a7,a8⟩:=C4d (w:=w) (t:=[i]) h.gs h.wq h.qc qO (by rw [h.q0];decide) hw.1 hw.2 (i_lt hi) (show 1<=900 by decide) qO;rw [h.q0] at a5 a8;have l1:=A7b s q w [i];have hr':(U0 s q w [i]).real=false:=a2.p.real.trans h.re;have hO:=C4g (w:=w) (g:=A3H s q w [i]) a1 (h.wp.ext a2.p) a5 qO qO (by rw [h.ps];exact Am _) qO
  have hne:¬I6 s q.own=p.their:=λe=>by have e1:=C2e hr' qO (h.po.ext a2.p) (e▸a4);exact h.ne ((h.fo.ext a2.p).uni (e1▸h.fq.ext a2.p))
  have hfr:A0M p (I6 s q.own)=true:=by unfold A0M;rw [decide_eq_false hne];rfl
  have hA:opA (U0 s q w [i]) p q.prev=(U0 s q w [i],p.tk,p.tn,p.sks)∧A9c p q.prev=0:=by
    by_cases h0:p.tk=[]
    . exact ⟨B0m h0,A9d h0⟩
    . have e:=h.pp.resolve_left h0;have hE:ahE p.tn q.prev=0:=by rw [e];exact A1G (Av _) qO
      rw [A49 h0,A3d h0,A0A hE];refine ⟨?_,hE⟩;rw [e,Nat.sub_self];rfl
  have e:=C2d (s:=U0 s q w [i]) (r:=p) (w:=w) (g:=A3H s q w [i]) (t:=[i]) (hp:=q.prev) (n:=0) (c:=λj=>if j=0 then q.sk else (G9 s q).sk) (k:=λ_=>X5 (H7 s q.own) q.sk) a1 qO (by rw [h.ps];rfl) hfr hA.1 hA.2 (h.ta.ext a2.p h.gs a1 qO) a4 E qD
    (λj hj=>by rw [show j=0 by omega];exact a6) (a8 _ a1 (Pext.refl _) qO)
  rw [h.ps] at e;change _=(_,(⟨_,_,_,_,0,A1b (H7 s q.own) q.sk,1,p.sn,[]⟩:Rsd),0,[i]) at e;obtain ⟨o1,o2,o3,o4,o5,o6,o7,o8⟩:=hO;rw [e] at o2 o3 o4 o5 o6;obtain ⟨f1,f2⟩:=B5n a1 qO;have fE:=A92 (U0 s q w [i]);have l2:=A61 (U0 s q w [i]);have kr:KK (E7 (U0 s q w [i])) q.root:=(h.wq.root.ext a2.p).ext fE.p;obtain ⟨t1,t2,t3,t4⟩:=C1V f1 kr f2 (a4.ext fE.p) h.wq.own.2 qO;have tE:=B5r (E7 (U0 s q w [i])) q.root (F3 (U0 s q w [i])) (I6 s q.own);have l3:=A27 (E7 (U0 s q w [i])) q.root (F3 (U0 s q w [i])) (I6 s q.own);have hz:(A43 (E7 (U0 s q w [i])) q.root (F3 (U0 s q w [i])) (I6 s q.own)).real=false:=(tE.p.real.trans fE.p.real).trans hr';have E0_:=a2.trans (fE.trans tE);have fn:=(C4l hr' a1.tok qO qO).ext tE.p;have hg:=a5.gl;refine ⟨_,_,⟨by rw [h.q0];exact o1,by rw [h.q0];exact e,hg,by omega,by omega⟩,p.own,c,a,(U0 s q w [i]).n+1,⟨hz,t1,a3.ext (fE.trans tE).p,o4,t4.cmT hz,a4.ext (fE.trans tE).p,h.pa.ext E0_.p,h.fp.ext E0_.p,h.fq.ext E0_.p,fn,by have:=h.cn;omega,by have:=h.an;omega,by omega,E,?_,E,?_,?_,?_,h.qs,E,.inr h.qn,by show q.prev<=_;omega,by show p.sn<=_;omega,by show q.tn<=_;rw [h.qn];omega,by omega,by omega⟩⟩
  . show 1=(q.sn+1)%4294967296;rw [h.q0]
  . show (q.sn+1)%4294967296<=_;rw [h.q0];show 1<=_;omega
  . intro e3;have hk2:=(A8h (c:=q.sk) (B78 h.gs h.wq.own qO).1 ((h.wq.sk.resolve_left h.qc).ext (B3U _ _).p) (by have:=A42 s q.own;omega)).2.2.1;have h2:=hk2.2.2;rw [show A1b (H7 s q.own) q.sk=[] from e3] at h2;cases h2
  . intro e3;have:=t3.2.2;rw [show A8f (E7 (U0 s q w [i])) q.root (F3 (U0 s q w [i])) (I6 s q.own)=[] from e3] at this;cases this
theorem lw_t:Lw WT LTe where
  bd:=by rintro N s p q ⟨o,b,c,a,h⟩ hN;have ln:=h.len;have pb:∀ {w:LN},KK s w->(I6 s w).length=32:=λhw=>(B78 h.gs hw qO).2.k32.2;exact ⟨by omega,List.length_pos_iff.2 h.pk,List.length_pos_iff.2 h.qc,pb h.wp.own,pb h.wq.own⟩
  wl:=λh=>h.2
  one:=C4m
  two:=C4n

def ixB(s:Ps)(w:LN)(c:Nat->Bool):Bool:=(List.range s.ts.length).any λi=>w==bts ((i:Nat):Int)&&c i
theorem A5Y{c:Nat->Bool}(h:ixB s w c=true):∃i,i<s.ts.length∧w=bts ((i:Nat):Int)∧c i=true:=by obtain ⟨i,h1,h2⟩:=List.any_eq_true.1 h;rw [Bool.and_eq_true] at h2;exact ⟨i,List.mem_range.1 h1,eq_of_beq h2.1,h2.2⟩
def tqB(t u:Tm):Bool:=t.kind==u.kind&&t.of==u.of&&t.text==u.text&&t.n==u.n
theorem B5F{u:Tm}(hi:i<s.ts.length)(h:tqB (s.ts.getD i (B1o 0)) u=true):s.ts[i]? = some u:=by rw [Aj,Ab hi] at h;rw [Ab hi];simp only [tqB,Option.getD_some,Bool.and_eq_true,beq_iff_eq] at h;obtain ⟨⟨⟨a,b⟩,c⟩,d⟩:=h;generalize s.ts[i]=t at a b c d;obtain ⟨k,of,tx,n⟩:=t;obtain ⟨k',of',tx',n'⟩:=u;dsimp only at a b c d;rw [a,b,c,d]
def kkB(s:Ps)(w:LN):Bool:=ixB s w (λ_=>true)&&(w.all (λx=>Nat.ble x 255)&&Nat.beq w.length 32)
theorem A3f(h:kkB s w=true):KK s w:=by simp only [kkB,Bool.and_eq_true] at h;obtain ⟨i,h1,h2,-⟩:=A5Y h.1;exact ⟨λ_=>⟨i,h1,h2⟩,λx hx=>by have:=Nat.le_of_ble_eq_true (List.all_eq_true.1 h.2.1 x hx);omega,Nat.eq_of_beq_eq_true h.2.2⟩
def puB(s:Ps)(w p:LN):Bool:=ixB s w λi=>ixB s p λj=>tqB (s.ts.getD j (B1o 0)) (B0V ((i:Nat):Int))
theorem B9H{p:LN}(hr:s.real=false)(h:puB s w p=true):S9 s w p:=by obtain ⟨i,h1,h2,h3⟩:=A5Y h;obtain ⟨j,k1,k2,k3⟩:=A5Y h3;unfold S9;rw [if_neg (by rw [hr];decide)];exact ⟨i,j,h1,h2,B5F k1 k3,k2⟩
def frB(s:Ps)(w:LN)(n:Nat):Bool:=ixB s w λi=>tqB (s.ts.getD i (B1o 0)) (B1o n)
theorem B5G(hl:s.ts.length<=1000)(h:frB s w n=true):FrT s w n:=by obtain ⟨i,h1,h2,h3⟩:=A5Y h;exact ⟨i,by omega,h2,B5F h1 h3⟩
def trB(s:Ps)(root a b R C:LN):Bool:=ixB s a λi=>ixB s b λj=>(List.range s.ts.length).any λm=>tqB (s.ts.getD m (B1o 0)) (B88 i j)&&Fo.f (bts ((m:Nat):Int)) λk=>Fo.f (A4z s root [k] A2w 2) λL=>Nat.beq (A34 s root [k] A2w 2).ts.length s.ts.length&&(L.getD 0 []==R&&(L.getD 1 []==C&&(kkB s root&&kkB s k)))
theorem C4o{a b R C:LN}(hr:s.real=false)(h:trB s root a b R C=true):TrnAt s root a b R C:=by
  obtain ⟨i,h1,h2,h3⟩:=A5Y h;obtain ⟨j,k1,k2,k3⟩:=A5Y h3;obtain ⟨m,m1,m2⟩:=List.any_eq_true.1 k3;have m1:=List.mem_range.1 m1;simp only [Fo.e,Bool.and_eq_true,beq_iff_eq] at m2;obtain ⟨n1,n2,n3,n4,n5,n6⟩:=m2;refine ⟨bts ((m:Nat):Int),_,(A3l.f hr).2 ⟨i,j,m,h1,k1,h2,k2,B5F m1 n1,E⟩,⟨?_,E,λw hw=>?_⟩,n3,n4⟩
  . have he:=(A76 s root [bts ((m:Nat):Int)] A2w 2).p;obtain ⟨l,e⟩:=he.ts;have n2:=Nat.eq_of_beq_eq_true n2;have e2:l=[]:=Bd (by rw [e,An] at n2;omega);rw [e2,List.append_nil] at e;rw [A3B hr] at e ⊢;dsimp only at e;rw [e]
  . rcases List.mem_cons.1 hw with rfl|hw
    . exact A3f n5
    . rw [List.mem_singleton.1 hw];exact A3f n6
def lkB(L:List (LN×LN))(s:Ps)(p q:Rsd)(o:LN):Bool:=!s.real&&(((s.ts.all tmQ&&Fo.f (s.ts.map tcd) ndC)&&C13 L s.ts)&&((kkB s p.own&&(kkB s p.root&&(kkB s p.sk&&(kkB s q.own&&(kkB s q.root&&(kkB s q.sk&&kkB s o))))))&&(trB s p.root p.own q.own q.root q.sk&&(puB s p.own q.their&&(puB s o p.their&&(frB s o 10&&(frB s p.own 16&&(frB s q.own 17&&(q.tk==p.sk&&(Nat.beq q.tn p.sn&&(Nat.beq q.sn 0&&(Nat.ble p.sn 2&&(p.sks.isEmpty&&(q.sks.isEmpty&&(p.tk.isEmpty&&(Nat.ble p.prev 2&&(Nat.ble q.prev 2&&(Nat.ble p.tn 2&&(Nat.ble s.ts.length 270&&(Nat.ble s.n 100&&Nat.ble 17 s.n))))))))))))))))))))
theorem C4p{L:List (LN×LN)}{o:LN}(h:lkB L s p q o=true):LTe 1 s p q:=by
  simp only [lkB,Bool.and_eq_true,Bool.not_eq_true',beq_iff_eq,List.isEmpty_iff] at h;obtain ⟨hr,⟨ht,hs⟩,⟨k1,k2,k3,k4,k5,k6,k7⟩,t1,u1,u2,f1,f2,f3,e1,e2,e3,e4,e5,e6,e7,e8,e9,e10,e11,e12,e13⟩:=h;have e2:=Nat.eq_of_beq_eq_true e2;have e3:=Nat.eq_of_beq_eq_true e3;have e4:=Nat.le_of_ble_eq_true e4;have e8:=Nat.le_of_ble_eq_true e8;have e9:=Nat.le_of_ble_eq_true e9;have e10:=Nat.le_of_ble_eq_true e10;have e11:=Nat.le_of_ble_eq_true e11;have e12:=Nat.le_of_ble_eq_true e12;have e13:=Nat.le_of_ble_eq_true e13;have k1:=A3f k1;have k3:=A3f k3;have k6:=A3f k6;have u1:=B9H hr u1;have u2:=B9H hr u2;have c32:∀ {w:LN},KK s w->w≠[]:=λhw e=>by have:=hw.2.2;rw [e] at this;cases this
  exact ⟨o,10,16,17,hr,⟨A9h (by rw [Bool.and_eq_true];exact ⟨allQ ht.1,ht.2⟩),A68 L hs⟩,⟨k1,A3f k2,.inr k3,.inl e7,.inr ⟨o,(A3f k7).2,u2⟩,λx hx=>by (rw [e5] at hx;cases hx),λh=>absurd e7 h⟩,
    ⟨A3f k4,A3f k5,.inr k6,.inr (by rw [e1];exact k3),.inr ⟨p.own,k1.2,u1⟩,λx hx=>by (rw [e6] at hx;cases hx),λ_=>c32 u1.kk⟩,C4o hr t1,u1,u2,B5G qO f1,B5G qO f2,B5G qO f3,by decide,by omega,by omega,e1,e2,e3,by omega,c32 k3,c32 k6,e5,e6,.inl e7,by omega,by omega,by omega,by omega,by omega⟩
def wtB(w:LN):Bool:=w.all (λx=>Nat.ble x 255)&&Nat.ble w.length 1000
theorem B0u(h:wtB w=true):WT w:=by rw [wtB,Bool.and_eq_true] at h;exact ⟨λx hx=>by have:=Nat.le_of_ble_eq_true (List.all_eq_true.1 h.1 x hx);omega,Nat.le_of_ble_eq_true h.2⟩
def siB(x y:Ses):Bool:=x.id==y.id&&(x.wi==y.wi&&(Nat.beq x.id.length 32&&(Nat.ble x.wi.length 1000&&(Nat.ble (x.he.ia.length+x.he.ig.length+x.he.key.length) 1000&&(Nat.ble (y.he.ia.length+y.he.ig.length+y.he.key.length) 1000&&(wtB (wG false x)&&(wtB (wG true y)&&(wtB (wG false (A3K x x.r))&&wtB (wG true (A3K y y.r))))))))))
theorem C4q{x y:Ses}(h:siB x y=true):SI WT x y:=by simp only [siB,Bool.and_eq_true,beq_iff_eq] at h;obtain ⟨h1,h2,h3,h4,h5,h6,h7,h8,h9,h10⟩:=h;exact ⟨h1,h2,Nat.eq_of_beq_eq_true h3,Nat.le_of_ble_eq_true h4,Nat.le_of_ble_eq_true h5,Nat.le_of_ble_eq_true h6,B0u h7,B0u h8,B0u h9,B0u h10⟩
def GoI(m j:Nat):Prop:=SnF (frS m j 0).1 (frS m j 0).2 0 1 1 1∧∃sec own s2 sz rz,AnF (rcB m).1 (frE m j 0) (frS m j 1).1 [0%256] sec own s2 sz rz∧GoP 20 sz (frS m j 1).2 (A3K (aX (rcB m).1 (frE m j 0) s2 sec own) rz)
def goZ(j:Nat):Bool:=Fo.f (rcA 1) λA=>Fo.f (B1s 1 1 A.2) λB=>Fo.f (B4m B.1 B.2) λU=>Fo.f (U.1.getD j rcO) λy=>Fo.f (sX A.1 y U.2) λx=>Fo.f (sD A.1 y U.2) λd=>decide (KsF A.1∧KsF B.1∧C36 A.1 U y)&&(decide (SnF d x 0 1 1 1)&&Fo.f (evS d x x.he 0 1 1 1 [0%256]) λe=>Fo.f (wiW x x.he 0 1 1 1) λw=>Fo.f (U0 d x.r w [0%256]) λs'=>Fo.f (K7 x (G9 d x.r)) λx'=>Fo.f [(alW w e.hk e.hp e.hn,[0%256])] λL=>C4F L B.1 e s' [0%256] λX O=>Fo.f (A3K X O.2) λx1=>lkB L O.1 x'.r x1.r X.r.own&&siB x' x1)
theorem gz_0:goZ 0=true:=by decide +kernel
theorem gz_1:goZ 1=true:=by decide +kernel
theorem gz_2:goZ 2=true:=by decide +kernel
theorem gz_3:goZ 3=true:=by decide +kernel
theorem gz_4:goZ 4=true:=by decide +kernel
theorem go_t(hj:j<5):OpF 1 j∧GoI 1 j:=by
  have h:goZ j=true:=by
    match j,hj with
    | 0,_=>exact gz_0
    | 1,_=>exact gz_1
    | 2,_=>exact gz_2
    | 3,_=>exact gz_3
    | 4,_=>exact gz_4
  unfold goZ at h;simp only [Fo.e] at h;rw [Bool.and_eq_true,Bool.and_eq_true,decide_eq_true_eq,decide_eq_true_eq] at h;obtain ⟨h1,h2,h3⟩:=h;obtain ⟨c1,h4⟩:=B5x (k:=(rcB 1).1) (e:=frE 1 j 0) (s:=(frS 1 j 1).1) h3;simp only [Fo.e,Bool.and_eq_true] at h4;have hl:=C4p h4.1;exact ⟨h1,h2,_,_,_,_,_,B9w c1,B8l lw_t 20 false 1 _ _ _ (C4q h4.2) (show Lf LTe false 1 _ _ _ from hl) qD⟩

theorem B0v{x:Ses}(h1:x.wi.length=160)(h2:x.id.length=32)(h3:x.he.ia.length+x.he.ig.length+x.he.key.length<=96):(wG k x).length<=1000:=by have h:=A6W [] (A1H x x.he (bI k) 1 (bI !k) 1);unfold wG wiW;rw [An];have e:(A1H x x.he (bI k) 1 (bI !k) 1).ses.length=32:=h2;have e2:(A1H x x.he (bI k) 1 (bI !k) 1).he.ia.length+(A1H x x.he (bI k) 1 (bI !k) 1).he.ig.length+(A1H x x.he (bI k) 1 (bI !k) 1).he.key.length<=96:=h3;have e3:([]:LN).length=0:=rfl;omega
theorem C4r{b:Nat}{K:LN}(ha:a=c+2)(h16:16<=a)(hb:(b+3=10∧a=16))(hK:K.length=32)(hx:x=a):LRe 1 (rcR (x+1)) ⟨(rRt 0 b c j).own,(rRt 0 b c j).their,(rRt 0 b c j).root,K,1,[],0,0,[]⟩ ⟨F3 (rcR x),rb (c+2),A8t (E7 (rcR x)) (rRt 0 b c j).root (F3 (rcR x)) (rb (c+2)),A8f (E7 (rcR x)) (rRt 0 b c j).root (F3 (rcR x)) (rb (c+2)),0,K,1,0,[]⟩:=by
  subst hx;subst ha;refine ⟨c+2,b+3,1,⟨h16,by omega,.inl hb,by decide,E,E,E,E,E,A1I _,E,E,E,E,E,?_,?_,.inl E,hK⟩⟩
  . unfold A8t;rw [A3M,B1l,A1I]
  . unfold A8f;rw [A3M,B1l,A1I]
theorem C5W(hj:j<5):GoI 0 j:=by
  obtain ⟨hA,hx⟩:=C5V hj (show 1<=6 by decide) (show 0<1 by decide);refine ⟨C5S hj 0 qD,_,_,_,_,_,hA,?_⟩;rw [hx,C4j hj 1 qD];have h1:(fX j).id.length=32:=C4H;have h2:(fX j).wi.length=160:=C4I;have h3:=fhe j;have hl:LRe 1 (rcR 17) (fr j 1) (fz j 1 (skS j 0 0)):=C4r (a:=16) (b:=7) (c:=14) (j:=j) (x:=16) (K:=fc j 1) E qD ⟨E,E⟩ (B9E j 1) rfl;refine B8l lw_r 20 false 1 (rcR 17) _ _ ⟨E,E,h1,(by show (fX j).wi.length<=_;omega),?_,(by decide:0+0+0<=1000),B0v h2 h1 ?_,B0v h2 h1 (by decide:0+0+0<=96),B0v h2 h1 (by decide:0+0+0<=96),B0v h2 h1 (by decide:0+0+0<=96)⟩ hl qD
  . show (rHe 0 14 j).ia.length+(rHe 0 14 j).ig.length+(rHe 0 14 j).key.length<=_;omega
  . show (rHe 0 14 j).ia.length+(rHe 0 14 j).ig.length+(rHe 0 14 j).key.length<=_;omega
section
variable{m n j:Nat}(h:rc0 m=rc0 n)
include h
theorem B8t:∀i,frS m j i=frS n j i
  | 0=>by show (rcD m j,rcX m j)=(rcD n j,rcX n j);rw [C5L h,C5K h]
  | i+1=>by unfold frS;rw [B8t i]
theorem C5X:GoI m j=GoI n j:=by unfold GoI;rw [C14 h,B8t h,B8t h,show frE m j 0=frE n j 0 by unfold frE;rw [B8t h]]
end
theorem B9I(m:Nat)(hj:j<5):OpF m j∧GoI m j:=by
  have h:rc0 m=rc0 (m%2):=by unfold rc0;rw [Nat.mod_mod]
  rw [C5M h,C5X h];rcases Nat.mod_two_eq_zero_or_one m with e|e<;>rw [e]
  . exact ⟨op_0 hj,C5W hj⟩
  . exact go_t hj

set_option maxHeartbeats 1000000 in
theorem A8n(tb pb ka kb:Nat)(s:Ps)(x0:Ses)(k:Ks)(e:Ev)(vz ep er eu ek eg:Value)(sec own:LN)(s2 sF:Ps)(xa:Ses)(sz:Ps)(rz:Rsd)(tx:LN)(M0 A:Mem)(hT:T1 A tb pb ka kb s x0 M0)(hK:KyE A kb k)(hrise:C1b k.once)(he_:EvR A e vz ep er eu ek eg)(hn:s.ts.length+1000<=1040000)(hhas:e.has=true)(han:anR k e.he s=(some (sec,own),s2))(hn2:s2.ts.length<=900000)(hln:e.he.ia.length+e.he.ig.length+(idA k s2).length+(idG k s2).length<=1000000)(hid:A25 (idS k s2) (aNm k e s2)=e.ses)(hsF:aC k e s2=sF)(hxa:aX k e s2 sec own=xa)(hn_:sF.ts.length+500<=1000000)(hsn:sF.n<1000000000)(hwi:xa.wi.length<=1000000)(hel2:e.ses.length+e.he.ia.length+e.he.ig.length+e.he.key.length<=1000000)(hfl:(xa.wi++frW [] e).length+e.hk.length<=1000000)(hgl:e.g.length<=10000000)(hO:OpnH sF xa.r e.hk e.hp e.hn)(hoz:Q1 sF xa.r (xa.wi++frW [] e) e.hk e.hp e.hn e.g=(sz,rz,0,tx))(hG:Glb A):FnX prog 7 [(vP tb),.agg (evC vz ep er eu ek eg e).toArray,.int .i64 1] M0 A λq M J=>T2 (J++A) tb pb ka kb sz x0 (A3K xa rz) M∧q=.tuple #[.string (txt tx),P0]:=by
 obtain ⟨vi,vw,p0,r0,u0,vo,vt,vr,vk0,vl,vst,MP,rfl,hx,hP⟩:=hT;obtain ⟨va,vg,vq,vo_,vm,rs,ro,rm,hKy⟩:=hK;have hel:e.he.ia.length+e.he.ig.length+e.he.key.length<=1000000:=by omega
 have hid2:xa.id=e.ses:=by rw [<- hxa];exact hid
 haveI:=hx.id.cel;haveI:=hx.wi.cel;haveI:=hx.he.ia.cel;haveI:=hx.he.ig.cel;haveI:=hx.he.key.cel;haveI:=hx.r.own.cel;haveI:=hx.r.their.cel;haveI:=hx.r.root.cel;haveI:=hx.r.sk.cel;haveI:=hx.r.tk.cel;haveI:=hx.r.st.cel;haveI:=he_.ses.cel;haveI:=he_.he.ia.cel;haveI:=he_.he.ig.cel;haveI:=he_.he.key.cel;haveI:=he_.hk.cel;haveI:=he_.g.cel;unfold evC;refine Cl (N:=67) func7 E E E λw_=>?_;refine A8 (D6 0 1 2) (A1 ?_);refine A2 E (bx_ λb4=>?_);refine aS_ E (aS_ E (A0 (D6 0 2 4) (A1 (mV_ E (mV_ E (lQ_ (E1 E) (lQ_ (qf_ 7 7) ?_)))))));refine lQ_ (D2 (e:=49) (n:=2) (sz:=18) (i:=1) 25 E E kR kR E qD E) ?_;refine lQ_ (F1 (n:=18) (vs:=Ze) E kR Cc E (D1 [(vP pb),(vP ka),(vP kb),P0,.int .i64 1,.int .i64 1,.int .i64 1,vi,vw,p0,r0,u0,(vU x0.he.signed),.bool x0.he.has,(vU x0.he.once),.bool x0.tell,vo,vt,vr,vk0,(vU x0.r.sn),vl,(vU x0.r.tn),(vU x0.r.prev),vst] Ze [.bool true])) ?_;refine A2 E (C2 (cs:=[vS,vS,vS,vS,vS,D3,.bool false,D3,.bool false,vS,vS,vS,vS,D3,vS,D3,D3,.pointer none]) kR E λb8=>?_);refine A2 E (A5 (vs:=Ze) E E E kR qR al18 Cs ?_);refine A0 (D7 0 2 4 8) (A3 (A1 (mV_ E (lQ_ (F5 true E E (eqT E)) (mv_ ?_)))));refine F4 E E (Cn (qf_ 0 0) E ?_);refine F4 E E (Cn ql_ E ?_);refine F4 E E (Cn (A1c (e:=5) E kR) E ?_);refine F4 E E (Cn (F5 true E E (eqT E)) E ?_);refine lQ_ (G4 E E) (A0 (F2 0 2 4 8 26) ?_);refine D9 E ?_;refine F8 (MP) (_) true [0,1,2,3,4,5,6,7,8,9,10,11,12,13,14,16] [(0,0),(1,0),(2,0),(3,1),(4,0),(5,0),(6,0),(7,0),(8,1),(9,1),(10,8),(11,8),(12,8),(14,8),(13,10),(15,2),(16,0)] kR kR qP λhs K n0 hKm hKs hKn=>?_;refine kM_ E E (kQ_ E (E1 E) (kQ_ E (qf_ 0 0) ?_));refine I8 hs E hKs ql_ ?_;refine kM_ E E (kQ_ E (E1 E) (kQ_ E (qf_ 1 1) ?_));refine kQ_ E (D2 (e:=40) (n:=2) (sz:=1) (i:=1) 2 E E kR kR E qD E) ?_;refine I8 hs E hKs ql_ ?_;refine I8 hs E hKs (qw_ 16) ?_
 refine W2 [⟨10,38,none,MP,λv B R=>∃q1,v=.tuple #[q1,P0]∧Prm pb sF B∧B0s R q1 xa⟩,⟨11,27,none,[],λv B R=>B=[]∧∃q1,v=.tuple #[q1,P0]∧B0s R q1 xa⟩,⟨12,39,none,[],λv B R=>B=[]∧B0s R v xa⟩,⟨14,9,none,[],λv B _=>∃b,v=(vP b)∧B=[(b,blk Ze 49)]⟩] [⟨13,40,none,[],λv B R=>B=[]∧v=.int .i64 0⟩] ([(b8,blk Ze 49),(b4,blk (Zd vz ep er eu ek eg e) 36),(tb,blk ((vP pb)::(vP ka)::(vP kb)::.int .i64 0::.int .i64 1::.int .i64 1::.int .i64 1::vi::vw::p0::r0::u0::(vU x0.he.signed)::.bool x0.he.has::(vU x0.he.once)::.bool x0.tell::vo::vt::vr::vk0::(vU x0.r.sn)::vl::(vU x0.r.tn)::(vU x0.r.prev)::vst::vS::vS::vS::vS::vS::.int .u32 0::.bool false::.int .u32 0::.bool false::vS::vS::vS::vS::.int .u32 0::vS::.int .u32 0::.int .u32 0::.pointer none::.bool true::[]) 52)]) (λbs=>[bs 10,bs 11,bs 12,bs 14,bs 13]) (hKn E) (by simp [U1,A0D]) (show ∀m∈([MP,[],[],[],[]]:List Mem),∀x∈m,K x.1 from A4 (hKm) (A4 gn0 (A4 gn0 (A4 gn0 (A4 gn0 (I5)))))) kR (λ_=>by first|rfl|kernel_rfl)
  (A4 (λ_ _ _ _ h ⟨q1,e,p1,p2⟩=>⟨q1,e,p1,p2.mono h⟩) (A4 (λ_ _ _ _ h ⟨e0,q1,e,p2⟩=>⟨e0,q1,e,p2.mono h⟩) (A4 (λ_ _ _ _ h hp=>⟨hp.1,hp.2.mono h⟩) (A4 gM (A4 gM (I5)))))) nd_ nd_ dl_
  hs (List.cons_ne_nil _ _) (gC ?_ (gC ?_ (gC ?_ (gC ?_ (I5))))) (A4 ⟨E,E,_,_,_,_,E,λvs bs Rj hj ha=>?_⟩ (I5)) ?_
 . intro _ _ R Rj _ _ hj hjr _;dsimp only [Gc.inp];refine C9 (Mc:=MP) (R:=[]) (aS E (aS E (aS E (a0)))) kR qM (Cj (A:=Rj) (λx hx=>by have:=hjr x hx;simp [this]) (B5u pb s kb k va vg vq vo_ vm rs ro rm e vz ep er eu ek eg sec own s2 MP Rj (hKy.mono (λx hx=>hj x (qS x hx))) hrise hP hn (he_.mono (λx hx=>hj x (qS x hx))) hhas han hn2 hln hel (hid.trans E) (hG.sub (λx hx=>hj x (qS x hx))))) E ?_;rintro v125 M125 J125 ⟨wi,ww,wo,wt,wr,wk,wl,wq,rfl,hP25,p2⟩;rw [hsF] at hP25;rw [hxa] at p2 ⊢;exact ⟨_,E,_,E,by simpa using hP25,⟨_,_,_,_,_,_,_,_,_,_,_,E,p2.mono (λx hx=>by simpa using hx)⟩⟩
 . intro _ _ _ _ _ _ _ _ ha;dsimp only [Gc.inp];have g10:=gx 0 ha;dsimp only at g10;obtain ⟨q1,e_,-,k⟩:=g10;exact Cn qm_ E ⟨_,E,E,q1,e_,k⟩
 . intro vs bs _ _ _ _ _ _ ha;dsimp only [Gc.inp];have g11:=gx 1 ha;dsimp only at g11;obtain ⟨-,q1,e_,k⟩:=g11;exact Cn (G6 (vs:=#[q1,P0]) (by rw [<- e_];rfl) E) E ⟨_,E,E,k⟩
 .
  intros
  dsimp only [Gc.inp]
  exact C2 (cs:=[vS,vS,vS,vS,vS,D3,.bool false,D3,.bool false,vS,vS,vS,vS,D3,vS,D3,D3,.pointer none]) kR E λb=>⟨_,E,b,E,E⟩
 . have g11:=gx 1 ha;dsimp only at g11;obtain ⟨-,q1,e_,-⟩:=g11;exact ⟨_,G6 (vs:=#[q1,P0]) (by rw [<- e_];rfl) E,E,E⟩
 intro vs bs Jn0 hφ hKK;clear hKK;have g10:=gy 0 hφ;have g11:=gy 1 hφ;have g12:=gy 2 hφ;have g14:=gy 3 hφ;have g13:=gy 4 hφ;dsimp only at g10 g11 g12 g14 g13;clear hφ;dsimp only [P7,U1,List.foldr,List.map,Cu,Ct];generalize bs 10=B38,bs 11=B27,bs 12=B39,bs 14=B9,bs 13=B40,vs 10=u38,vs 11=u27,vs 12=u39,vs 14=u9,vs 13=u40 at *;obtain ⟨-,-,hP38,-⟩:=g10;clear g11;obtain ⟨rfl,ni,nw,np,nr,nu,no_,nt,nrr,nk,nl,nst,rfl,hn1⟩:=g12;obtain ⟨rfl,rfl⟩:=g13;obtain ⟨b9,rfl,rfl⟩:=g14;haveI:=hn1.id.cel;haveI:=hn1.wi.cel;haveI:=hn1.he.ia.cel;haveI:=hn1.he.ig.cel;haveI:=hn1.he.key.cel;haveI:=hn1.r.own.cel;haveI:=hn1.r.their.cel;haveI:=hn1.r.root.cel;haveI:=hn1.r.sk.cel;haveI:=hn1.r.tk.cel;haveI:=hn1.r.st.cel;unfold seC;refine K1 E E E (A5 (vs:=(Zc ni nw np nr nu no_ nt nrr nk nl nst xa)) E E E kR qR (A4 hn1.id.one (A4 hn1.wi.one (A4 hn1.he.ia.one (A4 hn1.he.ig.one (A4 hn1.he.key.one (A4 E (A4 E (A4 E (A4 E (A4 hn1.r.own.one (A4 hn1.r.their.one (A4 hn1.r.root.one (A4 hn1.r.sk.one (A4 E (A4 hn1.r.tk.one (A4 E (A4 E (A4 hn1.r.st.one I5)))))))))))))))))) Cs ?_);refine kQ_ E (G3 E) (I1 (G7 0 2 4 8 9 10) (A3 (A1 (mV_ E (lQ_ (F5 false E E (neF E)) (A0 (N9 0 2 4 8 9 10 42) ?_))))));refine C7 E ?_;refine A6 (nx (F2 0 2 4 8 9) (C1 ?_));refine lQ_ (qw_ 18) ?_;refine A2 E (A5 (vs:=(Zc ni nw np nr nu no_ nt nrr nk nl nst xa)) E E E kR qR (A4 hn1.id.one (A4 hn1.wi.one (A4 hn1.he.ia.one (A4 hn1.he.ig.one (A4 hn1.he.key.one (A4 E (A4 E (A4 E (A4 E (A4 hn1.r.own.one (A4 hn1.r.their.one (A4 hn1.r.root.one (A4 hn1.r.sk.one (A4 E (A4 hn1.r.tk.one (A4 E (A4 E (A4 hn1.r.st.one I5)))))))))))))))))) Cs ?_);refine A0 (D7 0 2 4 8) ?_;refine C8 [0,1,2,3,4,5,7,8,9,10,12,13] (zp 0 [0,0,0,1,1,1,2,0,0,0,0,2,0,0]) kR kR λhs=>?_;refine fM_ E E (fQ_ E (E1 E) (fQ_ E (qf_ 0 0) ?_));refine fR_ E ql_ ?_;refine fR_ E (qw_ 18) ?_;refine fR_ E (qw_ 16) ?_;refine G1 E E E (C9 (Mc:=B38) (R:=_) (aS E (aS E (aS E (a0)))) kR qP (Cj qS (A9g pb sF xa ni nw np nr nu no_ nt nrr nk nl nst e vz ep er eu ek eg sz rz tx B38 (Jn0++A) hP38 hn_ hsn (hn1.mono qS) (he_.mono qS) hid2 hwi hel2 hfl hgl hO hoz (hG.sub qS))) E ?_);rintro v52 M52 J52 ⟨yo,yt,yr,yk,yl,yq,q2,rfl,hP52,hz,ht⟩;haveI:=hz.r.own.cel;haveI:=hz.r.their.cel;haveI:=hz.r.root.cel;haveI:=hz.r.sk.cel;haveI:=hz.r.tk.cel;haveI:=hz.r.st.cel;haveI:=ht.cel;unfold A3K seC;refine fM_ E E (fQ_ E (Z9 E) (fQ_ E (Z5 E) (fQ_ E (B9Z E) ?_)));refine G1 E E E (A5 (vs:=[ni,nw,vS,vS,vS,D3,.bool false,D3,.bool false,yo,yt,yr,yk,(vU rz.sn),yl,(vU rz.tn),(vU rz.prev),yq]) E E E kR qR (A4 hn1.id.one (A4 hn1.wi.one (A4 E (A4 E (A4 E (A4 E (A4 E (A4 E (A4 E (A4 hz.r.own.one (A4 hz.r.their.one (A4 hz.r.root.one (A4 hz.r.sk.one (A4 E (A4 hz.r.tk.one (A4 E (A4 E (A4 hz.r.st.one I5)))))))))))))))))) Cs ?_);refine fA_ E E (fA_ E E (E0 (F2 0 2 8 11 12) (A3 (A1 (mV_ E (lQ_ (F5 true E E (eqT E)) (A0 (G7 0 2 8 11 12 57) ?_)))))));refine D9 E ?_;refine H3 [0,1,2,3,4,5] (zp 0 [0,0,1,0,0,0,2]) kR kR λhs=>?_;refine fM_ E E (fm_ ?_);refine fR_ E (qw_ 18) ?_;refine fQ_ E (E1 E) (fQ_ E (qf_ 7 7) ?_);refine fQ_ E (D2 (e:=49) (n:=2) (sz:=18) (i:=1) 25 E E kR kR E qD E) ?_
 refine G1 E E E (K3 (vs:=[ni,nw,vS,vS,vS,D3,.bool false,D3,.bool false,yo,yt,yr,yk,(vU rz.sn),yl,(vU rz.tn),(vU rz.prev),yq]) (cs':=((vP pb)::(vP ka)::(vP kb)::.int .i64 0::.int .i64 1::.int .i64 1::.int .i64 1::vi::vw::p0::r0::u0::(vU x0.he.signed)::.bool x0.he.has::(vU x0.he.once)::.bool x0.tell::vo::vt::vr::vk0::(vU x0.r.sn)::vl::(vU x0.r.tn)::(vU x0.r.prev)::vst::ni::nw::vS::vS::vS::.int .u32 0::.bool false::.int .u32 0::.bool false::yo::yt::yr::yk::(vU rz.sn)::yl::(vU rz.tn)::(vU rz.prev)::yq::.bool true::[])) E E E kR (by exact (show 25+18<=44 by decide)) (A4 hn1.id.one (A4 hn1.wi.one (A4 E (A4 E (A4 E (A4 E (A4 E (A4 E (A4 E (A4 hz.r.own.one (A4 hz.r.their.one (A4 hz.r.root.one (A4 hz.r.sk.one (A4 E (A4 hz.r.tk.one (A4 E (A4 E (A4 hz.r.st.one I5)))))))))))))))))) E Cs ?_);refine E0 (D0 11 12) (A1 (mV_ E (lQ_ (L3 E kR (ht.rd.mono qS)) (mv_ (as_ (as_ (A0 (D0 6 7) (A9 ?_))))))));exact ⟨_,(tb,blk ((vP pb)::(vP ka)::(vP kb)::.int .i64 0::.int .i64 1::.int .i64 1::.int .i64 1::vi::vw::p0::r0::u0::(vU x0.he.signed)::.bool x0.he.has::(vU x0.he.once)::.bool x0.tell::vo::vt::vr::vk0::(vU x0.r.sn)::vl::(vU x0.r.tn)::(vU x0.r.prev)::vst::ni::nw::vS::vS::vS::.int .u32 0::.bool false::.int .u32 0::.bool false::yo::yt::yr::yk::(vU rz.sn)::yl::(vU rz.tn)::(vU rz.prev)::yq::.bool true::[]) 52)::M52,[],A1Z E E E,Cg (Ch (B:=[_]) qP (Cf qP)),⟨vi,vw,p0,r0,u0,vo,vt,vr,vk0,vl,vst,ni,nw,vS,vS,vS,yo,yt,yr,yk,yl,yq,M52,E,hx.mono qS,hz.mono qS,hP52⟩,E⟩
set_option maxHeartbeats 1000000 in
theorem A8o(tb pb ka kb:Nat)(s:Ps)(x0 x1:Ses)(e:Ev)(vz ep er eu ek eg:Value)(sz:Ps)(rz:Rsd)(tx:LN)(M0 A:Mem)(hT:T2 A tb pb ka kb s x0 x1 M0)(he_:EvR A e vz ep er eu ek eg)(hid2:x0.id=e.ses)(hn_:s.ts.length+500<=1000000)(hsn:s.n<1000000000)(hwi:x0.wi.length<=1000000)(hel2:e.ses.length+e.he.ia.length+e.he.ig.length+e.he.key.length<=1000000)(hfl:(x0.wi++frW [] e).length+e.hk.length<=1000000)(hgl:e.g.length<=10000000)(hO:OpnH s x0.r e.hk e.hp e.hn)(hoz:Q1 s x0.r (x0.wi++frW [] e) e.hk e.hp e.hn e.g=(sz,rz,0,tx))(hG:Glb A):FnX prog 7 [(vP tb),.agg (evC vz ep er eu ek eg e).toArray,P0] M0 A λq M J=>T2 (J++A) tb pb ka kb sz (A3K x0 rz) x1 M∧q=.tuple #[.string (txt tx),P0]:=by
 obtain ⟨vi,vw,p0,r0,u0,vo,vt,vr,vk0,vl,vst,wi,ww,p1,r1,u1,wo,wt,wr,wk0,wl,wst,MP,rfl,hx,hy,hP⟩:=hT;haveI:=hx.id.cel;haveI:=hx.wi.cel;haveI:=hx.he.ia.cel;haveI:=hx.he.ig.cel;haveI:=hx.he.key.cel;haveI:=hx.r.own.cel;haveI:=hx.r.their.cel;haveI:=hx.r.root.cel;haveI:=hx.r.sk.cel;haveI:=hx.r.tk.cel;haveI:=hx.r.st.cel;haveI:=hy.id.cel;haveI:=hy.wi.cel;haveI:=hy.he.ia.cel;haveI:=hy.he.ig.cel;haveI:=hy.he.key.cel;haveI:=hy.r.own.cel;haveI:=hy.r.their.cel;haveI:=hy.r.root.cel;haveI:=hy.r.sk.cel;haveI:=hy.r.tk.cel;haveI:=hy.r.st.cel;haveI:=he_.ses.cel;haveI:=he_.he.ia.cel;haveI:=he_.he.ig.cel;haveI:=he_.he.key.cel;haveI:=he_.hk.cel;haveI:=he_.g.cel;unfold evC;refine Cl (N:=67) func7 E E E λw_=>?_;refine A8 (D6 0 1 2) (A1 ?_);refine A2 E (bx_ λb4=>?_);refine aS_ E (aS_ E (A0 (D6 0 2 4) (A1 (mV_ E (mV_ E (lQ_ (E1 E) (lQ_ (qf_ 7 7) ?_)))))));refine lQ_ (D2 (e:=49) (n:=2) (sz:=18) (i:=0) 7 E E kR kR E qD E) ?_;refine lQ_ (F1 (n:=18) (vs:=(Zc vi vw p0 r0 u0 vo vt vr vk0 vl vst x0)) E kR Cc E (D1 (Zg pb ka kb) (Zc vi vw p0 r0 u0 vo vt vr vk0 vl vst x0) [wi,ww,p1,r1,u1,(vU x1.he.signed),.bool x1.he.has,(vU x1.he.once),.bool x1.tell,wo,wt,wr,wk0,(vU x1.r.sn),wl,(vU x1.r.tn),(vU x1.r.prev),wst,.bool true])) ?_;refine A2 E (C2 (cs:=[vS,vS,vS,vS,vS,D3,.bool false,D3,.bool false,vS,vS,vS,vS,D3,vS,D3,D3,.pointer none]) kR E λb8=>?_);refine A2 E (A5 (vs:=(Zc vi vw p0 r0 u0 vo vt vr vk0 vl vst x0)) E E E kR qR (A4 hx.id.one (A4 hx.wi.one (A4 hx.he.ia.one (A4 hx.he.ig.one (A4 hx.he.key.one (A4 E (A4 E (A4 E (A4 E (A4 hx.r.own.one (A4 hx.r.their.one (A4 hx.r.root.one (A4 hx.r.sk.one (A4 E (A4 hx.r.tk.one (A4 E (A4 E (A4 hx.r.st.one I5)))))))))))))))))) Cs ?_);refine A0 (D7 0 2 4 8) (A3 (A1 (mv_ ?_)));refine lQ_ (F5 false E E (eqF qD)) ?_;refine mv_ ?_;refine K0 E E E E ?_;refine K0 E E E E ?_;refine K0 E E E E ?_;refine K0 E E E E ?_;refine lQ_ (E3 E E) (A0 (F2 0 2 4 8 26) ?_);refine C7 E ?_;refine A6 (nx (D7 0 2 4 8) ?_);refine C8 [0,1,2,3,4,5,7,8,9,10,12,13] (zp 0 [0,0,0,1,1,1,2,0,0,0,0,2,0,0]) kR kR λhs=>?_;refine fM_ E E (fQ_ E (E1 E) (fQ_ E (qf_ 0 0) ?_));refine fR_ E ql_ ?_;refine fR_ E (qw_ 18) ?_;refine fR_ E (qw_ 16) ?_;refine G1 E E E (C9 (Mc:=MP) (R:=_) (aS E (aS E (aS E (a0)))) kR qP (Cj qS (A9g pb s x0 vi vw p0 r0 u0 vo vt vr vk0 vl vst e vz ep er eu ek eg sz rz tx MP A hP hn_ hsn (hx.mono qS) (he_.mono qS) hid2 hwi hel2 hfl hgl hO hoz (hG.sub qS))) E ?_);rintro v52 M52 J52 ⟨yo,yt,yr,yk,yl,yq,q2,rfl,hP52,hz,ht⟩;haveI:=hz.r.own.cel;haveI:=hz.r.their.cel;haveI:=hz.r.root.cel;haveI:=hz.r.sk.cel;haveI:=hz.r.tk.cel;haveI:=hz.r.st.cel;haveI:=ht.cel;unfold A3K seC;refine fM_ E E (fQ_ E (Z9 E) (fQ_ E (Z5 E) (fQ_ E (B9Z E) ?_)));refine G1 E E E (A5 (vs:=[vi,vw,vS,vS,vS,D3,.bool false,D3,.bool false,yo,yt,yr,yk,(vU rz.sn),yl,(vU rz.tn),(vU rz.prev),yq]) E E E kR qR (A4 hx.id.one (A4 hx.wi.one (A4 E (A4 E (A4 E (A4 E (A4 E (A4 E (A4 E (A4 hz.r.own.one (A4 hz.r.their.one (A4 hz.r.root.one (A4 hz.r.sk.one (A4 E (A4 hz.r.tk.one (A4 E (A4 E (A4 hz.r.st.one I5)))))))))))))))))) Cs ?_)
 refine fA_ E E (fA_ E E (E0 (F2 0 2 8 11 12) (A3 (A1 (mV_ E (lQ_ (F5 true E E (eqT E)) (A0 (G7 0 2 8 11 12 57) ?_)))))));refine D9 E ?_;refine H3 [0,1,2,3,4,5] (zp 0 [0,0,1,0,0,0,2]) kR kR λhs=>?_;refine fM_ E E (fm_ ?_);refine fR_ E (qw_ 18) ?_;refine fQ_ E (E1 E) (fQ_ E (qf_ 7 7) ?_);refine fQ_ E (D2 (e:=49) (n:=2) (sz:=18) (i:=0) 7 E E kR kR E qD E) ?_;refine G1 E E E (K3 (vs:=[vi,vw,vS,vS,vS,D3,.bool false,D3,.bool false,yo,yt,yr,yk,(vU rz.sn),yl,(vU rz.tn),(vU rz.prev),yq]) (cs':=((vP pb)::(vP ka)::(vP kb)::.int .i64 0::.int .i64 1::.int .i64 1::.int .i64 1::vi::vw::vS::vS::vS::.int .u32 0::.bool false::.int .u32 0::.bool false::yo::yt::yr::yk::(vU rz.sn)::yl::(vU rz.tn)::(vU rz.prev)::yq::wi::ww::p1::r1::u1::(vU x1.he.signed)::.bool x1.he.has::(vU x1.he.once)::.bool x1.tell::wo::wt::wr::wk0::(vU x1.r.sn)::wl::(vU x1.r.tn)::(vU x1.r.prev)::wst::.bool true::[])) E E E kR (by exact (show 7+18<=44 by decide)) (A4 hx.id.one (A4 hx.wi.one (A4 E (A4 E (A4 E (A4 E (A4 E (A4 E (A4 E (A4 hz.r.own.one (A4 hz.r.their.one (A4 hz.r.root.one (A4 hz.r.sk.one (A4 E (A4 hz.r.tk.one (A4 E (A4 E (A4 hz.r.st.one I5)))))))))))))))))) E Cs ?_);refine E0 (D0 11 12) (A1 (mV_ E (lQ_ (L3 E kR (ht.rd.mono qS)) (mv_ (as_ (as_ (A0 (D0 6 7) (A9 ?_))))))));exact ⟨_,(tb,blk ((vP pb)::(vP ka)::(vP kb)::.int .i64 0::.int .i64 1::.int .i64 1::.int .i64 1::vi::vw::vS::vS::vS::.int .u32 0::.bool false::.int .u32 0::.bool false::yo::yt::yr::yk::(vU rz.sn)::yl::(vU rz.tn)::(vU rz.prev)::yq::wi::ww::p1::r1::u1::(vU x1.he.signed)::.bool x1.he.has::(vU x1.he.once)::.bool x1.tell::wo::wt::wr::wk0::(vU x1.r.sn)::wl::(vU x1.r.tn)::(vU x1.r.prev)::wst::.bool true::[]) 52)::M52,[],A1Z E E E,Cg (Ch (B:=[_]) qP (Cf qP)),⟨vi,vw,vS,vS,vS,yo,yt,yr,yk,yl,yq,wi,ww,p1,r1,u1,wo,wt,wr,wk0,wl,wst,M52,E,hz.mono qS,hy.mono qS,hP52⟩,E⟩

set_option maxHeartbeats 1000000 in
theorem B5H(tb pb ka kb:Nat)(s:Ps)(x0 x1:Ses)(e:Ev)(vz ep er eu ek eg:Value)(sz:Ps)(rz:Rsd)(tx:LN)(M0 A:Mem)(hT:T2 A tb pb ka kb s x0 x1 M0)(he_:EvR A e vz ep er eu ek eg)(hid2:x1.id=e.ses)(hil:0<x1.id.length)(hn_:s.ts.length+500<=1000000)(hsn:s.n<1000000000)(hwi:x1.wi.length<=1000000)(hel2:e.ses.length+e.he.ia.length+e.he.ig.length+e.he.key.length<=1000000)(hfl:(x1.wi++frW [] e).length+e.hk.length<=1000000)(hgl:e.g.length<=10000000)(hO:OpnH s x1.r e.hk e.hp e.hn)(hoz:Q1 s x1.r (x1.wi++frW [] e) e.hk e.hp e.hn e.g=(sz,rz,0,tx))(hG:Glb A):FnX prog 7 [(vP tb),.agg (evC vz ep er eu ek eg e).toArray,.int .i64 1] M0 A λq M J=>T2 (J++A) tb pb ka kb sz x0 (A3K x1 rz) M∧q=.tuple #[.string (txt tx),P0]:=by
 obtain ⟨vi,vw,p0,r0,u0,vo,vt,vr,vk0,vl,vst,wi,ww,p1,r1,u1,wo,wt,wr,wk0,wl,wst,MP,rfl,hx,hy,hP⟩:=hT;haveI:=hx.id.cel;haveI:=hx.wi.cel;haveI:=hx.he.ia.cel;haveI:=hx.he.ig.cel;haveI:=hx.he.key.cel;haveI:=hx.r.own.cel;haveI:=hx.r.their.cel;haveI:=hx.r.root.cel;haveI:=hx.r.sk.cel;haveI:=hx.r.tk.cel;haveI:=hx.r.st.cel;haveI:=hy.id.cel;haveI:=hy.wi.cel;haveI:=hy.he.ia.cel;haveI:=hy.he.ig.cel;haveI:=hy.he.key.cel;haveI:=hy.r.own.cel;haveI:=hy.r.their.cel;haveI:=hy.r.root.cel;haveI:=hy.r.sk.cel;haveI:=hy.r.tk.cel;haveI:=hy.r.st.cel;haveI:=he_.ses.cel;haveI:=he_.he.ia.cel;haveI:=he_.he.ig.cel;haveI:=he_.he.key.cel;haveI:=he_.hk.cel;haveI:=he_.g.cel;unfold evC;refine Cl (N:=67) func7 E E E λw_=>?_;refine A8 (D6 0 1 2) (A1 ?_);refine A2 E (bx_ λb4=>?_);refine aS_ E (aS_ E (A0 (D6 0 2 4) (A1 (mV_ E (mV_ E (lQ_ (E1 E) (lQ_ (qf_ 7 7) ?_)))))));refine lQ_ (D2 (e:=49) (n:=2) (sz:=18) (i:=1) 25 E E kR kR E qD E) ?_;refine lQ_ (F1 (n:=18) (vs:=(Zc wi ww p1 r1 u1 wo wt wr wk0 wl wst x1)) E kR Cc E (D1 [(vP pb),(vP ka),(vP kb),P0,.int .i64 1,.int .i64 1,.int .i64 1,vi,vw,p0,r0,u0,(vU x0.he.signed),.bool x0.he.has,(vU x0.he.once),.bool x0.tell,vo,vt,vr,vk0,(vU x0.r.sn),vl,(vU x0.r.tn),(vU x0.r.prev),vst] (Zc wi ww p1 r1 u1 wo wt wr wk0 wl wst x1) [.bool true])) ?_;refine A2 E (C2 (cs:=[vS,vS,vS,vS,vS,D3,.bool false,D3,.bool false,vS,vS,vS,vS,D3,vS,D3,D3,.pointer none]) kR E λb8=>?_);refine A2 E (A5 (vs:=(Zc wi ww p1 r1 u1 wo wt wr wk0 wl wst x1)) E E E kR qR (A4 hy.id.one (A4 hy.wi.one (A4 hy.he.ia.one (A4 hy.he.ig.one (A4 hy.he.key.one (A4 E (A4 E (A4 E (A4 E (A4 hy.r.own.one (A4 hy.r.their.one (A4 hy.r.root.one (A4 hy.r.sk.one (A4 E (A4 hy.r.tk.one (A4 E (A4 E (A4 hy.r.st.one I5)))))))))))))))))) Cs ?_);refine A0 (D7 0 2 4 8) (A3 (A1 (mV_ E (lQ_ (F5 true E E (eqT E)) (mv_ ?_)))));refine F4 E E (Cn (qf_ 0 0) E ?_);refine F4 E E (Cn ql_ E ?_);refine F4 E E (Cn (G2 (sz:=1) E kR hy.id.rd) E ?_);refine F4 E E (Cn (F5 false E E (eqF qO)) E ?_);refine lQ_ (G4 E E) (A0 (F2 0 2 4 8 26) ?_);refine C7 E ?_;refine A6 (nx (D7 0 2 4 8) ?_);refine C8 [0,1,2,3,4,5,7,8,9,10,12,13] (zp 0 [0,0,0,1,1,1,2,0,0,0,0,2,0,0]) kR kR λhs=>?_;refine fM_ E E (fQ_ E (E1 E) (fQ_ E (qf_ 0 0) ?_));refine fR_ E ql_ ?_;refine fR_ E (qw_ 18) ?_;refine fR_ E (qw_ 16) ?_;refine G1 E E E (C9 (Mc:=MP) (R:=_) (aS E (aS E (aS E (a0)))) kR qP (Cj qS (A9g pb s x1 wi ww p1 r1 u1 wo wt wr wk0 wl wst e vz ep er eu ek eg sz rz tx MP A hP hn_ hsn (hy.mono qS) (he_.mono qS) hid2 hwi hel2 hfl hgl hO hoz (hG.sub qS))) E ?_);rintro v52 M52 J52 ⟨yo,yt,yr,yk,yl,yq,q2,rfl,hP52,hz,ht⟩;haveI:=hz.r.own.cel;haveI:=hz.r.their.cel;haveI:=hz.r.root.cel;haveI:=hz.r.sk.cel;haveI:=hz.r.tk.cel;haveI:=hz.r.st.cel;haveI:=ht.cel;unfold A3K seC;refine fM_ E E (fQ_ E (Z9 E) (fQ_ E (Z5 E) (fQ_ E (B9Z E) ?_)));refine G1 E E E (A5 (vs:=[wi,ww,vS,vS,vS,D3,.bool false,D3,.bool false,yo,yt,yr,yk,(vU rz.sn),yl,(vU rz.tn),(vU rz.prev),yq]) E E E kR qR (A4 hy.id.one (A4 hy.wi.one (A4 E (A4 E (A4 E (A4 E (A4 E (A4 E (A4 E (A4 hz.r.own.one (A4 hz.r.their.one (A4 hz.r.root.one (A4 hz.r.sk.one (A4 E (A4 hz.r.tk.one (A4 E (A4 E (A4 hz.r.st.one I5)))))))))))))))))) Cs ?_)
 refine fA_ E E (fA_ E E (E0 (F2 0 2 8 11 12) (A3 (A1 (mV_ E (lQ_ (F5 true E E (eqT E)) (A0 (G7 0 2 8 11 12 57) ?_)))))));refine D9 E ?_;refine H3 [0,1,2,3,4,5] (zp 0 [0,0,1,0,0,0,2]) kR kR λhs=>?_;refine fM_ E E (fm_ ?_);refine fR_ E (qw_ 18) ?_;refine fQ_ E (E1 E) (fQ_ E (qf_ 7 7) ?_);refine fQ_ E (D2 (e:=49) (n:=2) (sz:=18) (i:=1) 25 E E kR kR E qD E) ?_;refine G1 E E E (K3 (vs:=[wi,ww,vS,vS,vS,D3,.bool false,D3,.bool false,yo,yt,yr,yk,(vU rz.sn),yl,(vU rz.tn),(vU rz.prev),yq]) (cs':=((vP pb)::(vP ka)::(vP kb)::.int .i64 0::.int .i64 1::.int .i64 1::.int .i64 1::vi::vw::p0::r0::u0::(vU x0.he.signed)::.bool x0.he.has::(vU x0.he.once)::.bool x0.tell::vo::vt::vr::vk0::(vU x0.r.sn)::vl::(vU x0.r.tn)::(vU x0.r.prev)::vst::wi::ww::vS::vS::vS::.int .u32 0::.bool false::.int .u32 0::.bool false::yo::yt::yr::yk::(vU rz.sn)::yl::(vU rz.tn)::(vU rz.prev)::yq::.bool true::[])) E E E kR (by exact (show 25+18<=44 by decide)) (A4 hy.id.one (A4 hy.wi.one (A4 E (A4 E (A4 E (A4 E (A4 E (A4 E (A4 E (A4 hz.r.own.one (A4 hz.r.their.one (A4 hz.r.root.one (A4 hz.r.sk.one (A4 E (A4 hz.r.tk.one (A4 E (A4 E (A4 hz.r.st.one I5)))))))))))))))))) E Cs ?_);refine E0 (D0 11 12) (A1 (mV_ E (lQ_ (L3 E kR (ht.rd.mono qS)) (mv_ (as_ (as_ (A0 (D0 6 7) (A9 ?_))))))));exact ⟨_,(tb,blk ((vP pb)::(vP ka)::(vP kb)::.int .i64 0::.int .i64 1::.int .i64 1::.int .i64 1::vi::vw::p0::r0::u0::(vU x0.he.signed)::.bool x0.he.has::(vU x0.he.once)::.bool x0.tell::vo::vt::vr::vk0::(vU x0.r.sn)::vl::(vU x0.r.tn)::(vU x0.r.prev)::vst::wi::ww::vS::vS::vS::.int .u32 0::.bool false::.int .u32 0::.bool false::yo::yt::yr::yk::(vU rz.sn)::yl::(vU rz.tn)::(vU rz.prev)::yq::.bool true::[]) 52)::M52,[],A1Z E E E,Cg (Ch (B:=[_]) qP (Cf qP)),⟨vi,vw,p0,r0,u0,vo,vt,vr,vk0,vl,vst,wi,ww,vS,vS,vS,yo,yt,yr,yk,yl,yq,M52,E,hx.mono qS,hz.mono qS,hP52⟩,E⟩

def hiW:LN:=[104,105]
def hoW:LN:=[104,111]
def wkE:Ev:=evS (rcD 1 1) (rcX 1 1) (rcX 1 1).he 0 1 1 1 hiW
def wkS:Ps:=U0 (rcD 1 1) (rcX 1 1).r (wiW (rcX 1 1) (rcX 1 1).he 0 1 1 1) hiW
def wkO:Ps×Rsd:=anO (rcB 1).1 wkE wkS
def wkR:Ses:=A3K (anX (rcB 1).1 wkE wkS) wkO.2
def wkG:Ev:=evS wkO.1 wkR he0 1 1 0 1 hoW
def wkT:Ps:=U0 wkO.1 wkR.r (wiW wkR he0 1 1 0 1) hoW
def wkX:Ses:=K7 (rcX 1 1) (G9 (rcD 1 1) (rcX 1 1).r)
def wkC:Ps×Rsd:=opB wkT wkX.r wkG.hk wkG.hp
def wkQ:Ps×Rsd:=opZ (A0M wkX.r wkG.hk) (opD wkC wkG.hn) (opG wkX.r wkC wkG.hn)
def WkB(x b:Ses)(e:Ev)(s:Ps):Prop:=0<b.r.sk.length∧(wiW b he0 1 1 0 1).length<=1000000∧s.ts.length<=900∧s.n<=900∧x.id=e.ses∧x.wi.length<=1000000∧b.id.length<=1000000∧(x.wi++frW [] e).length+e.hk.length<=1000000∧e.g.length<=10000000
instance{x b:Ses}{e:Ev}{s:Ps}:Decidable (WkB x b e s):=by unfold WkB;infer_instance
def chkW:Bool:=Fo.f (rcA 1) λA=>Fo.f (B1s 1 1 A.2) λB=>Fo.f (B4m B.1 B.2) λU=>Fo.f (U.1.getD 1 rcO) λy=>Fo.f (sX A.1 y U.2) λx=>Fo.f (sD A.1 y U.2) λd=>Fo.f (evS d x x.he 0 1 1 1 hiW) λe=>Fo.f (U0 d x.r (wiW x x.he 0 1 1 1) hiW) λs=>decide (SnF d x 0 1 1 1)&&C4F [(alW (wiW x x.he 0 1 1 1) e.hk 0 0,hiW)] B.1 e s hiW λX O=>Fo.f (A3K X O.2) λb=>Fo.f (evS O.1 b he0 1 1 0 1 hoW) λg=>Fo.f (U0 O.1 b.r (wiW b he0 1 1 0 1) hoW) λt=>Fo.f (K7 x (G9 d x.r)) λx2=>Fo.f (opB t x2.r g.hk g.hp) λC=>Fo.f (opD C g.hn) λD=>Fo.f (A4b C g.hn) λK=>Fo.f [(alW (wiW x x.he 0 1 1 1) e.hk 0 0,hiW),(alW (wiW b he0 1 1 0 1) g.hk 0 0,hoW)] λL=>decide (WkB x2 b g t)&&anT L g hoW (some ([],[]),t) t x2 C D K
theorem C2f:chkW=true:=by decide +kernel
theorem wk_f:SnF (rcD 1 1) (rcX 1 1) 0 1 1 1∧AnF (rcB 1).1 wkE wkS hiW (A69 (rcB 1).1 wkE wkS) (A7a (rcB 1).1 wkE wkS) (anR (rcB 1).1 wkE.he wkS).2 wkO.1 wkO.2∧WkB wkX wkR wkG wkT∧OpnH wkT wkX.r wkG.hk wkG.hp wkG.hn∧Q1 wkT wkX.r (wkX.wi++frW [] wkG) wkG.hk wkG.hp wkG.hn wkG.g=(wkQ.1,wkQ.2,0,hoW):=by have h:=C2f;unfold chkW at h;simp only [Fo.e,Bool.and_eq_true,decide_eq_true_eq] at h;obtain ⟨a1,h⟩:=h;obtain ⟨c1,h⟩:=B5x h;simp only [Fo.e,Bool.and_eq_true,decide_eq_true_eq] at h;obtain ⟨a2,h⟩:=h;obtain ⟨-,a3,a4⟩:=B9v h;exact ⟨a1,B9w c1,a2,a3,a4⟩

theorem T1.mono{R R':Mem}{tb pb ka kb:Nat}{s:Ps}{x0:Ses}{M:Mem}(h:T1 R tb pb ka kb s x0 M)(hR:∀z,z∈R->z∈R'):T1 R' tb pb ka kb s x0 M:=by obtain ⟨a,b,c,d,e,f,g,i,j,k,l,MP,h1,h2,h3⟩:=h;exact ⟨a,b,c,d,e,f,g,i,j,k,l,MP,h1,h2.mono hR,h3⟩
theorem T2.mono{R R':Mem}{tb pb ka kb:Nat}{s:Ps}{x0 x1:Ses}{M:Mem}(h:T2 R tb pb ka kb s x0 x1 M)(hR:∀z,z∈R->z∈R'):T2 R' tb pb ka kb s x0 x1 M:=by obtain ⟨a,b,c,d,e,f,g,i,j,k,l,a',b',c',d',e',f',g',i',j',k',l',MP,h1,h2,h3,h4⟩:=h;exact ⟨a,b,c,d,e,f,g,i,j,k,l,a',b',c',d',e',f',g',i',j',k',l',MP,h1,h2.mono hR,h3.mono hR,h4⟩
theorem KyE.mono{R R':Mem}{kb:Nat}{k:Ks}(h:KyE R kb k)(hR:∀z,z∈R->z∈R'):KyE R' kb k:=by obtain ⟨a,b,c,d,e,f,g,i,h⟩:=h;exact ⟨a,b,c,d,e,f,g,i,h.mono hR⟩
theorem C5Y:B256 hiW:=⟨by decide⟩
theorem C5Z:B256 hoW:=⟨by decide⟩
theorem B8u(A:Mem)(hF:OpF 1 1)(hG:Glb A):FnX prog 5 [.int .u8 1,.int .u8 1] [] A λq M J=>∃tb pb ka kb,q=(vP tb)∧T1 (J++A) tb pb ka kb (rcD 1 1) (rcX 1 1) M∧KyE (J++A) ka (rcA 1).1∧KyE (J++A) kb (rcB 1).1:=B0r 1 1 A qD qD hF hG
set_option maxHeartbeats 1000000 in
theorem A8p(A:Mem)(hF:OpF 1 1)(hG:Glb A):FnV prog 4 [] A (.bool true):=by
 refine Ck (N:=80) func4 E E E λw_=>?_;refine A8 kn (A1 (as_ (A0 kn (A1 ?_))));refine C6 (aS E (aS E a0)) kR (B8u _ hF hG.up) E ?_;rintro v10 M10 J10 ⟨tb,pb,ka,kb,rfl,hT0,-,hKy⟩;obtain ⟨vi,vw,p0,r0,u0,vo,vt,vr,vk0,vl,vst,MP,rfl,hx,hP⟩:=hT0
 have hT0:T1 _ tb pb ka kb (rcD 1 1) (rcX 1 1) ((tb,blk ((vP pb)::(vP ka)::(vP kb)::.int .i64 0::.int .i64 1::.int .i64 1::.int .i64 1::vi::vw::p0::r0::u0::(vU ((rcX 1 1).he.signed))::.bool (rcX 1 1).he.has::(vU ((rcX 1 1).he.once))::.bool (rcX 1 1).tell::vo::vt::vr::vk0::(vU ((rcX 1 1).r.sn))::vl::(vU ((rcX 1 1).r.tn))::(vU ((rcX 1 1).r.prev))::vst::vS::vS::vS::vS::vS::.int .u32 0::.bool false::.int .u32 0::.bool false::vS::vS::vS::vS::.int .u32 0::vS::.int .u32 0::.int .u32 0::.pointer none::.bool true::[]) 52)::MP):=⟨vi,vw,p0,r0,u0,vo,vt,vr,vk0,vl,vst,MP,E,hx,hP⟩
 obtain ⟨⟨g1,g6,g2,g3,g4,g5⟩,hA,⟨m3,m6,n1,n2,n3,n4,m5,n6,n7⟩,zf14,zf13⟩:=wk_f;obtain ⟨k1,⟨⟨i1,i3,l0⟩,i6,i7,k2,⟨l1,l2⟩,l3,l4,l5,⟨o1,o2⟩,o4⟩,zf10,zf9⟩:=hA;obtain ⟨-,⟨-,-,zf7⟩,-⟩:=hF;refine aS_ E (A0 (D4 1) (A3 (A1 (mV_ E (lQ_ (F6 (e:=52) E E kR) (mv_ ?_))))));refine F4 E E (Cn qm_ E ?_);refine F4 E E (Cn (E1 E) E ?_);refine F4 E E (Cn (qf_ 43 43) E ?_);refine F4 E E (Cn ql_ E ?_);refine F4 E E (Cn (U2 E) E ?_);refine lQ_ (E3 E E) (A0 (D0 1 19) ?_);refine C7 E ?_;refine A6 (nx (D4 1) (A1 (mv_ ?_)));refine A2 E (C9 (Mc:=(tb,blk ((vP pb)::(vP ka)::(vP kb)::.int .i64 0::.int .i64 1::.int .i64 1::.int .i64 1::vi::vw::p0::r0::u0::(vU ((rcX 1 1).he.signed))::.bool (rcX 1 1).he.has::(vU ((rcX 1 1).he.once))::.bool (rcX 1 1).tell::vo::vt::vr::vk0::(vU ((rcX 1 1).r.sn))::vl::(vU ((rcX 1 1).r.tn))::(vU ((rcX 1 1).r.prev))::vst::vS::vS::vS::vS::vS::.int .u32 0::.bool false::.int .u32 0::.bool false::vS::vS::vS::vS::.int .u32 0::vS::.int .u32 0::.int .u32 0::.pointer none::.bool true::[]) 52)::MP) (R:=_) (aS E (aS E (aS E (a0)))) kR qP (A8l tb pb ka kb (rcD 1 1) (rcX 1 1) hiW ((tb,blk ((vP pb)::(vP ka)::(vP kb)::.int .i64 0::.int .i64 1::.int .i64 1::.int .i64 1::vi::vw::p0::r0::u0::(vU ((rcX 1 1).he.signed))::.bool (rcX 1 1).he.has::(vU ((rcX 1 1).he.once))::.bool (rcX 1 1).tell::vo::vt::vr::vk0::(vU ((rcX 1 1).r.sn))::vl::(vU ((rcX 1 1).r.tn))::(vU ((rcX 1 1).r.prev))::vst::vS::vS::vS::vS::vS::.int .u32 0::.bool false::.int .u32 0::.bool false::vS::vS::vS::vS::.int .u32 0::vS::.int .u32 0::.int .u32 0::.pointer none::.bool true::[]) 52)::MP) _ (hT0.mono qS) qO g6 g2 g3 g4 g5 C5Y qD hG.up) E ?_);rintro v22 M22 J22 ⟨hT22,v,rfl,es,ep,er,eu,ek,eg,rfl,he22⟩;change T1 _ tb pb ka kb wkS wkX M22 at hT22;change EvR _ wkE es ep er eu ek eg at he22;haveI:=he22.ses.cel;haveI:=he22.he.ia.cel;haveI:=he22.he.ig.cel;haveI:=he22.he.key.cel;haveI:=he22.hk.cel;haveI:=he22.g.cel;unfold evC;rw [show (evS (rcD 1 1) (rcX 1 1) (rcX 1 1).he 0 1 1 1 hiW)=wkE from rfl,i3];refine mV_ E (lQ_ (Z9 E) (lQ_ (Z5 E) ?_));refine A2 E (C2 (cs:=[P0,P0,P0,P0,vS,.bool false,vS,vS,vS,D3,.bool false,D3,vS,D3,D3,vS]) kR E λb2=>?_);refine A2 E (A5 (vs:=[.int .i64 wkE.fu,.int .i64 wkE.fd,.int .i64 wkE.tu,.int .i64 wkE.td,es,.bool true,ep,er,eu,(vU wkE.he.signed),.bool wkE.he.has,(vU wkE.he.once),ek,(vU wkE.hp),(vU wkE.hn),eg]) E E E kR qR (A4 E (A4 E (A4 E (A4 E (A4 he22.ses.one (A4 E (A4 he22.he.ia.one (A4 he22.he.ig.one (A4 he22.he.key.one (A4 E (A4 E (A4 E (A4 he22.hk.one (A4 E (A4 E (A4 he22.g.one I5)))))))))))))))) Cs ?_);refine as_ (A0 (D6 1 2 3) (A1 (mv_ ?_)));refine lQ_ (qw_ 16) ?_;refine A2 E (C9 (Mc:=M22) (R:=_) (aS E (aS E (aS E (a0)))) kR qP (A8n tb pb ka kb wkS wkX (rcB 1).1 wkE es ep er eu ek eg _ _ _ _ _ wkO.1 wkO.2 hiW M22 _ (hT22.mono qS) (hKy.mono qS) (B4o zf7) (he22.mono qS) qO i3 k1 qO i6 k2 E E qO qO l3 i7 l4 l5 zf10 zf9 hG.up) E ?_);rintro v28 M28 J28 ⟨hT28,rfl⟩;change T2 _ tb pb ka kb wkO.1 wkX wkR M28 at hT28;refine mV_ E (lQ_ (Z9 E) (lQ_ (Z5 E) (as_ (as_ (A0 (F2 1 2 3 4 5) (A1 (mv_ ?_)))))));refine A2 E (C9 (Mc:=M28) (R:=_) (aS E (aS E (aS E (a0)))) kR qP (A8k tb pb ka kb wkO.1 wkX wkR hoW M28 _ (hT28.mono qS) qO E m3 (show wkR.wi.length<=_ from l3) (show wkR.id.length+0+0+0<=_ by omega) m6 C5Z qD hG.up) E ?_);rintro v33 M33 J33 ⟨hT33,v,rfl,fs,fp,fr,fu_,fk,fg,rfl,he33⟩
 change T2 _ tb pb ka kb wkT wkX (K7 wkR (G9 wkO.1 wkR.r)) M33 at hT33;change EvR _ wkG fs fp fr fu_ fk fg at he33;haveI:=he33.ses.cel;haveI:=he33.he.ia.cel;haveI:=he33.he.ig.cel;haveI:=he33.he.key.cel;haveI:=he33.hk.cel;haveI:=he33.g.cel;unfold evC;rw [show (evS wkO.1 wkR he0 1 1 0 1 hoW)=wkG from rfl,show wkG.has=false from rfl];refine mV_ E (lQ_ (Z9 E) (lQ_ (Z5 E) ?_));refine A2 E (C2 (cs:=[P0,P0,P0,P0,vS,.bool false,vS,vS,vS,D3,.bool false,D3,vS,D3,D3,vS]) kR E λb6=>?_);refine A2 E (A5 (vs:=[.int .i64 wkG.fu,.int .i64 wkG.fd,.int .i64 wkG.tu,.int .i64 wkG.td,fs,.bool false,fp,fr,fu_,(vU wkG.he.signed),.bool wkG.he.has,(vU wkG.he.once),fk,(vU wkG.hp),(vU wkG.hn),fg]) E E E kR qR (A4 E (A4 E (A4 E (A4 E (A4 he33.ses.one (A4 E (A4 he33.he.ia.one (A4 he33.he.ig.one (A4 he33.he.key.one (A4 E (A4 E (A4 E (A4 he33.hk.one (A4 E (A4 E (A4 he33.g.one I5)))))))))))))))) Cs ?_);refine as_ (A0 (N9 1 2 3 4 5 6 7) (A1 (mv_ ?_)));refine lQ_ (qw_ 16) ?_;refine A2 E (C9 (Mc:=M33) (R:=_) (aS E (aS E (aS E (a0)))) kR qP (A8o tb pb ka kb wkT wkX (K7 wkR (G9 wkO.1 wkR.r)) wkG fs fp fr fu_ fk fg wkQ.1 wkQ.2 hoW M33 _ (hT33.mono qS) (he33.mono qS) n3 qO qO n4 (show wkR.id.length+0+0+0<=_ by omega) n6 n7 zf14 zf13 hG.up) E ?_);rintro v39 M39 J39 ⟨hT39,rfl⟩;obtain ⟨c0,c1,c2,c3,c4,c5,c6,c7,c8,c9,c10,c11,c12,c13,c14,c15,c16,c17,c18,c19,c20,c21,MQ,rfl,-,-,-⟩:=hT39;rw [show (A3K wkX wkQ.2).tell=false from rfl];refine mV_ E (lQ_ (Z9 E) (lQ_ (Z5 E) (as_ (as_ (A0 (A0q 1 2 3 4 5 6 7 8 9) (A1 (mv_ (mv_ ?_))))))));refine F4 E E (Cn qm_ E ?_);refine F4 E E (Cn (F5 true E E (eqT E)) E ?_);refine lQ_ (G4 E E) (mv_ ?_);refine F4 E E (Cn qm_ E ?_);refine F4 E E (Cn (A9r E E E) E ?_);refine lQ_ (G4 E E) (mv_ ?_);refine F4 E E (Cn qm_ E ?_);refine lQ_ (G4 E E) (mv_ ?_);refine F4 E E (Cn qm_ E ?_);refine F4 E E (Cn (F5 true E E (eqT E)) E ?_);refine lQ_ (G4 E E) (mv_ ?_);refine F4 E E (Cn qm_ E ?_);refine F4 E E (Cn (A9r E E E) E ?_);refine lQ_ (G4 E E) (mv_ ?_);refine F4 E E (Cn (qf_ 5 5) E ?_);refine F4 E E (Cn ql_ E ?_);refine lQ_ (G4 E E) (mv_ ?_);refine F4 E E (Cn (qf_ 5 5) E ?_);refine F4 E E (Cn ql_ E ?_);refine F4 E E (Cn (U2 E) E ?_);refine lQ_ (G4 E E) (mv_ ?_);refine F4 E E (Cn qm_ E ?_);refine F4 E E (Cn (E1 E) E ?_);refine F4 E E (Cn (qf_ 7 7) E ?_);refine F4 E E (Cn (D2 (e:=49) (n:=2) (sz:=18) (i:=0) 7 E E kR kR E qD E) E ?_);refine F4 E E (Cn (A0o (off:=8) E kR) E ?_);refine F4 E E (Cn ql_ E ?_);refine F4 E E (Cn (U2 E) E ?_);refine lQ_ (G4 E E) (as_ (A0 (D4 0) (A9 ?_)));exact ⟨_,[],[],H8 E E,Aa _,by simp,E,E,E⟩

theorem C4s(i:Nat):∀x∈[i%256],x<256:=λx hx=>by rw [List.mem_singleton.1 hx];exact Ad _ qD
structure GH(x0 x1:Ses)(h:Bool):Prop where
  t0:x0.tell = !h
  e0:h=true->x0.he=he0
  t1:x1.tell=false
  e1:x1.he=he0
  id:x0.id=x1.id
def TG(R:Mem)(tb pb ka kb m j i:Nat)(h:Bool)(M:Mem):Prop:=(i=0∧h=false∧T1 R tb pb ka kb (frS m j 0).1 (frS m j 0).2 M)∨(0<i∧∃s x0 x1,T2 R tb pb ka kb s x0 x1 M∧GoP (21-i) s x0 x1∧GH x0 x1 h)
def MG(R:Mem)(tb pb ka kb m j i k:Nat)(h:Bool)(e:Ev)(M:Mem):Prop:=(i=0∧k=0∧h=false∧e=frE m j 0∧T1 R tb pb ka kb (frS m j 1).1 (frS m j 1).2 M)∨(0<i∧∃s x0 x1 z r,T2 R tb pb ka kb s x0 x1 M∧GH x0 x1 h∧((k=0∧OpG s x1 e z r 0 [i]∧GoP (20-i) z x0 (A3K x1 r))∨(k=1∧OpG s x0 e z r 0 [i]∧GoP (20-i) z (A3K x0 r) x1)))
theorem MG.mono{R R':Mem}{tb pb ka kb m j i k:Nat}{h:Bool}{e:Ev}{M:Mem}(q:MG R tb pb ka kb m j i k h e M)(hR:∀z,z∈R->z∈R'):MG R' tb pb ka kb m j i k h e M:=q.imp (λ⟨a,b,c,d,f⟩=>⟨a,b,c,d,f.mono hR⟩) λ⟨a,s,x,y,z,r,b,c⟩=>⟨a,s,x,y,z,r,b.mono hR,c⟩
structure EF(e:Ev)(k:Nat)(h:Bool):Prop where
  has:e.has=(decide (k=0)&&!h)
  fu:e.fu=((k:Nat):Int)
  fd:e.fd=1
  tu:e.tu=((1-k:Nat):Int)
  td:e.td=1
theorem B5I(tb pb ka kb m j i k:Nat)(h:Bool)(M0 A:Mem)(ht:TG A tb pb ka kb m j i h M0)(hI:GoI m j)(hi:i<20)(hk:k=0∨k=1)(hk0:i=0->k=0)(hG:Glb A):FnX prog 6 [(vP tb),(vI k),.string (txt [i])] M0 A λq M J=>∃e v,MG (J++A) tb pb ka kb m j i k h e M∧q=.tuple #[v,.bool true]∧EvV (J++A) v e∧EF e k h:=by
  rcases ht with ⟨rfl,rfl,h1⟩|⟨h0,s,x0,x1,h2,hg,hH⟩
  . obtain rfl:=hk0 rfl;obtain ⟨⟨g1,g6,g2,g3,g4,g5⟩,-⟩:=hI
    exact (A8l tb pb ka kb (frS m j 0).1 (frS m j 0).2 [0] M0 A h1 qO g6 g2 g3 g4 g5 ⟨C4s 0⟩ qD hG).mono λq M J ⟨hT,v,hq,hv⟩=>⟨frE m j 0,v,.inl ⟨E,E,E,E,hT⟩,hq,hv,⟨g6,E,E,E,E⟩⟩
  . obtain ⟨n,hn⟩:∃n,21-i=n+1:=⟨20-i,by omega⟩
    have hn2:n=20-i:=by omega
    subst hn2;rw [hn] at hg;obtain ⟨⟨⟨b1,b2,b3,b4,b5⟩,z,r,o1,o2⟩,⟨⟨c1,c2,c3,c4,c5⟩,z',r',p1,p2⟩⟩:=hg i hi
    have hlt:B256 [i]:=⟨λx hx=>by rw [List.mem_singleton.1 hx];omega⟩
    rcases hk with rfl|rfl
    . have hx:∀ {s':Ps} {e:Ev},sG false s x0 [i]=s'->eG false s x0 [i]=e->∀ {q:Value} {M J:Mem},(T2 (J++A) tb pb ka kb s' (K7 x0 (G9 s x0.r)) x1 M∧∃v,q=.tuple #[v,.bool true]∧EvV (J++A) v e)->∃e v,MG (J++A) tb pb ka kb m j i 0 h e M∧q=.tuple #[v,.bool true]∧EvV (J++A) v e∧EF e 0 h:=λ {s' e} q1 q2 {q M J} ⟨hT,v,hq,hv⟩=>by subst q1 q2;exact ⟨_,v,.inr ⟨h0,_,_,_,z,r,hT,⟨hH.t0,hH.e0,hH.t1,hH.e1,hH.id⟩,.inl ⟨E,o1,o2⟩⟩,hq,hv,⟨by show x0.tell=_;rw [hH.t0];rfl,E,E,E,E⟩⟩
      cases h with
      | false=>exact (B5z tb pb ka kb s x0 x1 [i] M0 A h2 qO hH.t0 b2 b3 b4 b5 hlt (by show 1<=_;decide) hG).mono λq M J hq=>hx E E hq
      | true =>
        have e:=hH.e0 rfl;have e5:wG false x0=wiW x0 he0 0 1 1 1:=by unfold wG;rw [e];rfl
        rw [e] at b4;rw [e5] at b5;exact (B5A tb pb ka kb s x0 x1 [i] M0 A h2 qO hH.t0 b2 b3 b4 b5 hlt (by show 1<=_;decide) hG).mono λq M J hq=>hx (by unfold sG;rw [e5]) (by unfold eG;rw [e];rfl) hq
    . have e:=hH.e1;have e5:wG true x1=wiW x1 he0 1 1 0 1:=by unfold wG;rw [e];rfl
      rw [e] at c4;rw [e5] at c5;refine (A8k tb pb ka kb s x0 x1 [i] M0 A h2 qO hH.t1 c2 c3 c4 c5 hlt (by show 1<=_;decide) hG).mono λq M J ⟨hT,v,hq,hv⟩=>?_;have q1:sG true s x1 [i]=U0 s x1.r (wiW x1 he0 1 1 0 1) [i]:=by unfold sG;rw [e5]
      have q2:eG true s x1 [i]=evS s x1 he0 1 1 0 1 [i]:=by unfold eG;rw [e];rfl
      rw [<- q1] at hT;rw [<- q2] at hv;exact ⟨_,v,.inr ⟨h0,_,_,_,z',r',hT,⟨hH.t0,hH.e0,hH.t1,hH.e1,hH.id⟩,.inr ⟨E,p1,p2⟩⟩,hq,hv,⟨by show x1.tell=_;rw [hH.t1];rfl,E,E,E,E⟩⟩
theorem B5J(tb pb ka kb m j i k:Nat)(h:Bool)(e:Ev)(vz ep er eu ek eg:Value)(M0 A:Mem)(hm:MG A tb pb ka kb m j i k h e M0)(hK:KyE A kb (rcB m).1)(hB:KsF (rcB m).1)(hI:GoI m j)(he_:EvR A e vz ep er eu ek eg)(hi:i<20)(hG:Glb A):FnX prog 7 [(vP tb),.agg (evC vz ep er eu ek eg e).toArray,.int .i64 ((1-k:Nat):Int)] M0 A λq M J=>(∃s x0 x1,T2 (J++A) tb pb ka kb s x0 x1 M∧GoP (20-i) s x0 x1∧GH x0 x1 (h||decide (k=1))∧e.ses=x0.id)∧q=.tuple #[.string (txt [i]),P0]:=by
  rcases hm with ⟨rfl,rfl,rfl,rfl,h1⟩|⟨h0,s,x0,x1,z,r,h2,hH,⟨rfl,⟨⟨a1,a2,a3,a4,a5,a6,a7,a8⟩,hO,hoz⟩,hP⟩|⟨rfl,⟨⟨a1,a2,a3,a4,a5,a6,a7,a8⟩,hO,hoz⟩,hP⟩⟩
  . obtain ⟨⟨g1,g6,g2,g3,g4,g5⟩,sec,own,s2,sz,rz,⟨k1,⟨⟨i1,i3,l0⟩,i6,i7,k2,⟨l1,l2⟩,l3,l4,l5,⟨o1,o2⟩,o4⟩,o5,o6⟩,hP⟩:=hI
    exact (A8n tb pb ka kb (frS m j 1).1 (frS m j 1).2 (rcB m).1 (frE m j 0) vz ep er eu ek eg sec own s2 _ _ sz rz [0] M0 A h1 hK (B4o hB.2.2) he_ qO i3 k1 qO i6 k2 E E qO qO l3 i7 l4 l5 o5 o6 hG).mono λq M J ⟨hT,hq⟩=>⟨⟨_,_,_,hT,hP,⟨g6,λh=>Bool.noConfusion h,E,E,k2.symm⟩,E⟩,hq⟩
  . exact (B5H tb pb ka kb s x0 x1 e vz ep er eu ek eg z r [i] M0 A h2 he_ a3 a8 qO qO a4 a5 a6 a7 hO hoz hG).mono λq M J ⟨hT,hq⟩=>⟨⟨_,_,_,hT,hP,⟨by rw [hH.t0];simp,λq=>hH.e0 (by simpa using q),E,E,hH.id⟩,(hH.id.trans a3).symm⟩,hq⟩
  . exact (A8o tb pb ka kb s x0 x1 e vz ep er eu ek eg z r [i] M0 A h2 he_ a3 qO qO a4 a5 a6 a7 hO hoz hG).mono λq M J ⟨hT,hq⟩=>⟨⟨_,_,_,hT,hP,⟨by simp [A3K],λ_=>rfl,hH.t1,hH.e1,hH.id⟩,a3.symm⟩,hq⟩

end Go.Proofs.YtglbhoeolghndaaGreatDoor
