/- The card of the law SessionGoes: it returns true for every input; each argument reads behind the call as it read before; the listed package variables are tied to the program's text. No further condition. -/
import Derived.Test.YtglbhoeolghndaaGreatDoorB12
import Derived.Lib.LaidTab
import Derived.Stop.LaidErr
import Derived.MakeChecks
import Derived.Test.YtglbhoeolghndaaGreatDoorCards
import Derived.Test.YtglbhoeolghndaaGreatDoorTie
import Derived.Deep.DeepHandedRow
import Derived.Deep.DeepWitnessRowRef
import Derived.Lay
import Derived.LaidMore
set_option linter.unusedVariables false
set_option linter.unusedSimpArgs false
set_option maxRecDepth 100000
open Go.Proofs.Tryz
namespace Go.Proofs.YtglbhoeolghndaaGreatDoor
open Go.Px
theorem _root_.Go.Px.XC.to{C:Cx}{Q:XQ}{c:Code}{l l':Env}{M M' J J':Mem}(h:XC C c Q l' M' J')(hk:Keep l l')(hM:Fit M M')(hJ:∀q,q∈J'->q∈J):XC C c Q l M J:=λa w ha hw=>h a w (ha.sub hk.lk) (hw.fit hM hJ)
theorem _root_.Go.Px.XC.late1{C:Cx}{Q:XQ}{c1 d:Code}{l:Env}{M J:Mem}{α:Type}(L:α->Env)(MM JJ:α->Mem)(p:α->Prop)(h2:∀x,p x->XC C d Q (L x) (MM x) (JJ x))(h1:(∀x,p x->XC C d Q (L x) (MM x) (JJ x))->XC C (.seq c1 d) Q l M J):XC C (.seq c1 d) Q l M J:=h1 h2
theorem B5K{i:Nat}(h:i<256):IntKind.u8.wrap ((i:Nat):Int)=((i:Nat):Int):=by unfold IntKind.wrap;simp [IntKind.signed,IntKind.bits];omega
theorem MG.blk{R:Mem}{tb pb ka kb m j i k:Nat}{h:Bool}{e:Ev}{M:Mem}(q:MG R tb pb ka kb m j i k h e M):∃c0 c1 MP,M=(tb,blk (((Zg pb ka kb):List Value)++(c0++(c1++([.bool true]:List Value)))) 52)::MP:=by
  rcases q with ⟨-,-,-,-,vi,vw,p0,r0,u0,vo,vt,vr,vk0,vl,vst,MP,rfl,-,-⟩|⟨-,s,x0,x1,z,r,⟨vi,vw,p0,r0,u0,vo,vt,vr,vk0,vl,vst,wi,ww,p1,r1,u1,wo,wt,wr,wk0,wl,wst,MP,rfl,-,-,-⟩,-⟩
  . exact ⟨seC vi vw p0 r0 u0 vo vt vr vk0 vl vst (frS m j 1).2,Ze,MP,E⟩
  . exact ⟨seC vi vw p0 r0 u0 vo vt vr vk0 vl vst x0,seC wi ww p1 r1 u1 wo wt wr wk0 wl wst x1,MP,E⟩
set_option maxHeartbeats 2000000 in
theorem A7c(m c:Nat)(v:Value)(sides:LN)(A:Mem)(hm:m<256)(hc_:c<256)(hv:Byi A v sides)(hG:Glb A):FnV prog 3 [.int .u8 ((m:Nat):Int),.int .u8 ((c:Nat):Int),v] A (.bool true):=by
 haveI:=hv.cel;have hvl:=hv.len;unfold maxLen at hvl;have hF1:=(B9I 1 (j:=1) qD).1;obtain ⟨hF,hI⟩:=B9I m (Ad c (by decide:0<5));have hB:KsF (rcB m).1:=hF.2.1;refine Ck (N:=139) func3 E E E λw_=>?_;refine A8 (D6 0 1 2) (A1 (as_ (A0 (D6 0 1 2) (A3 (A1 ?_)))));refine E6 a0 kR (A8p _ hF1 hG.up) E ?_;refine lQ_ (U2 E) (mv_ ?_);refine F4 E E (Cn qm_ E ?_);refine F4 E E (Cn (G2 (sz:=1) E kR hv.rd) E ?_);refine F4 E E (Cn (E8 E E E) E ?_);refine lQ_ (E3 E E) (A0 (D7 0 1 2 21) ?_);refine C3 E ?_ ?_<;>intro hc
 . refine A1 ?_;refine E6 a0 kR (A8p _ hF1 hG.up) E ?_;refine as_ (A0 (D4 6) (A9 (tr ?_)));exact ⟨_,[],[],H8 E E,Aa _,by simp,E,E,E⟩
 .
  have h20:sides.length<=20:=by simp [I4] at hc;omega
  refine A6 (nx (D6 0 1 2) (A1 (mv_ (mv_ ?_))));refine C6 (aS E (aS E a0)) kR (B0r m c _ hm hc_ hF hG.up) E ?_;rintro v25 M25 J25 ⟨tb,pb,ka,kb,rfl,hT0,-,hKb⟩;change T1 _ tb pb ka kb (frS m (c%5) 0).1 (frS m (c%5) 0).2 M25 at hT0;refine aS_ E (A0 (D0 2 7) (A1 (aS_ E (A0 (D6 2 7 8) (A3 (A1 (aS_ E (A0 (D7 2 7 8 9) (A7 ?_)))))))));refine E5 (α:=Nat×Bool×Mem×Mem) (λy=>[(2,v),(7,(vP tb)),(8,.bool y.2.1),(9,(vI y.1))]) (λy=>y.2.2.1) (λy=>y.2.2.2) (λy=>y.1<=sides.length∧TG (y.2.2.2++A) tb pb ka kb m (c%5) y.1 y.2.1 y.2.2.1∧KyE (y.2.2.2++A) kb (rcB m).1) (λy=>sides.length-y.1) (0,false,M25,J25) ⟨Am _,.inl ⟨E,E,hT0.mono qS⟩,hKb.mono qS⟩ (D7 2 7 8 9) (Ce qM) (λ_ h=>by simpa using h) ?_;rintro ⟨i,h,Mi,Ji⟩ ⟨hi,ht,hky⟩;dsimp only at hi ht hky ⊢;refine A3 (A1 (mv_ (mv_ ?_)));refine lQ_ (G2 (sz:=1) E kR hv.rd) ?_;refine lQ_ (E8 E E E) (A0 (F2 2 7 8 9 29) ?_);refine C3 E ?_ ?_<;>intro hc
  .
   have hlt:i<sides.length:=by simp [I4] at hc;omega
   have hi20:i<20:=by omega
   have ilt:∀x∈[i],x<256:=λx hx=>by rw [List.mem_singleton.1 hx];omega
   refine A6 (nx (D7 2 7 8 9) (A3 (A7 (A1 (mv_ (mv_ ?_))))));refine lQ_ (H2 (sz:=1) (a:=i) E E kR E hv.rd hlt) ?_;refine lQ_ (A0O (k:=.u8) E kR (hv.rd.mono qS) hlt) ?_;refine lQ_ (V5 (a:=sides.getD i 0) (b:=2) E E E E qD) ?_;refine lQ_ (Z3 (k':=.i64) ((sides.getD i 0%2:Nat):Int) E kR (A1N qO qO)) ?_;refine as_ (A0 (F2 2 7 8 9 10) ?_);refine P3 (α:=Nat) (λk=>[(2,v),(7,(vP tb)),(8,.bool h),(9,(vI i)),(10,(vI k))]) (λ_=>Mi) (λ_=>Ji) (λk=>(k=0∨k=1)∧(i=0->k=0)) ?_ ?_
   .
    refine A1 (mV_ E (lQ_ (E8 E E E) (A0 (G7 2 7 8 9 10 39) ?_)));refine C3 E ?_ ?_<;>intro hc
    .
     have hi0:i=0:=by simpa [I4] using hc
     refine C1 (as_ (C5 ?_));exact jn (0:Nat) ⟨.inl E,λ_=>rfl⟩ (F2 2 7 8 9 10) .rfl qI
    .
     have hi0:¬i=0:=by simpa [I4] using hc
     refine A6 ?_;exact jn (sides.getD i 0%2:Nat) ⟨by omega,λe=>absurd e hi0⟩ (F2 2 7 8 9 10) .rfl qI
   .
    rintro x hx
    obtain ⟨k,ek⟩:∃z,z=x:=⟨_,E⟩
    subst ek;obtain ⟨hk,hk0⟩:=hx;refine A1 (mv_ (mv_ (mv_ ?_)));refine lQ_ (Z3 (k':=.u8) ((i:Nat):Int) E kR (B5K qO)) ?_;refine A2 E (C4 (e:=5) (sz:=1) (z:=[.int .u8 0]) kR (eS E e0) (bdS 0 1 E qR bd0) E λb45=>?_);refine lQ_ (L3 E kR (Co (n:=1) (cs:=nums .u8 [i]) Cc qR)) ?_;refine A2 E (C9 (Mc:=Mi) (R:=_) (aS E (aS E (aS E (a0)))) kR qP (Cj qS (B5I tb pb ka kb m (c%5) i k h Mi (Ji++A) ht hI hi20 hk hk0 (hG.sub qS))) E ?_);rintro v47 M47 J47 ⟨e,v1,hMG,rfl,hv1,hEF⟩;obtain ⟨es,ep,er,eu,ek,eg,rfl,he47⟩:=hv1;haveI:=he47.ses.cel;haveI:=he47.he.ia.cel;haveI:=he47.he.ig.cel;haveI:=he47.he.key.cel;haveI:=he47.hk.cel;haveI:=he47.g.cel;unfold evC;refine mV_ E (lQ_ (Z9 E) (lQ_ (Z5 E) ?_));refine A2 E (C2 (cs:=[P0,P0,P0,P0,vS,.bool false,vS,vS,vS,D3,.bool false,D3,vS,D3,D3,vS]) kR E λb11=>?_);refine A2 E (A5 (vs:=(Zd es ep er eu ek eg e)) E E E kR qR (A4 E (A4 E (A4 E (A4 E (A4 he47.ses.one (A4 E (A4 he47.he.ia.one (A4 he47.he.ig.one (A4 he47.he.key.one (A4 E (A4 E (A4 E (A4 he47.hk.one (A4 E (A4 E (A4 he47.g.one I5)))))))))))))))) Cs ?_);obtain ⟨c0,c1,MP,hMeq⟩:=hMG.blk;subst hMeq;refine as_ (A0 (N9 2 7 8 9 10 11 12) ?_);refine XC.late1 (α:=Unit) (λ_=>[(2,v),(7,(vP tb)),(8,.bool h),(9,(vI i)),(10,(vI k)),(11,(vP b11))]) (λ_=>(b11,blk (Zd es ep er eu ek eg e) 36)::((tb,blk (((Zg pb ka kb):List Value)++(c0++(c1++([.bool true]:List Value)))) 52)::MP)) (λ_=>J47++Ji) (λ_=>True) ?_ ?_
    .
     rintro ⟨⟩ -;refine A1 (mV_ E (lQ_ (F1 (n:=16) (vs:=(Zd es ep er eu ek eg e)) E kR Cc E (D1 [] (Zd es ep er eu ek eg e) [])) (mv_ ?_)));refine lQ_ (D5 ((1-k:Nat):Int) rfl rfl (by rcases hk with rfl|rfl<;>rfl)) ?_;refine A2 E (C9 (Mc:=(tb,blk (((Zg pb ka kb):List Value)++(c0++(c1++([.bool true]:List Value)))) 52)::MP) (R:=_) (aS E (aS E (aS E (a0)))) kR qP (Cj qS (B5J tb pb ka kb m (c%5) i k h e es ep er eu ek eg ((tb,blk (((Zg pb ka kb):List Value)++(c0++(c1++([.bool true]:List Value)))) 52)::MP) (J47++(Ji++A)) (hMG.mono qS) (hky.mono qS) hB hI (he47.mono qS) hi20 (hG.sub qS))) E ?_);rintro v91 M91 J91 ⟨⟨s,x0,x1,hT91,hP91,hH91,hes⟩,rfl⟩;obtain ⟨vi,vw,p0,r0,u0,vo,vt,vr,vk0,vl,vst,wi,ww,p1,r1,u1,wo,wt,wr,wk0,wl,wst,MQ,rfl,hx0,hx1,hPq⟩:=hT91;haveI:=hx0.id.cel;haveI:=hx0.wi.cel;haveI:=hx0.he.ia.cel;haveI:=hx0.he.ig.cel;haveI:=hx0.he.key.cel;haveI:=hx0.r.own.cel;haveI:=hx0.r.their.cel;haveI:=hx0.r.root.cel;haveI:=hx0.r.sk.cel;haveI:=hx0.r.tk.cel;haveI:=hx0.r.st.cel;haveI:=hx1.id.cel;haveI:=hx1.wi.cel;haveI:=hx1.he.ia.cel;haveI:=hx1.he.ig.cel;haveI:=hx1.he.key.cel;haveI:=hx1.r.own.cel;haveI:=hx1.r.their.cel;haveI:=hx1.r.root.cel;haveI:=hx1.r.sk.cel;haveI:=hx1.r.tk.cel;haveI:=hx1.r.st.cel;refine mV_ E (lQ_ (Z9 E) (lQ_ (Z5 E) (as_ (as_ (A0 (W6 2 7 8 9 10 11 13 14) (A3 ?_))))));refine C8 (0::1::2::3::4::5::6::7::8::9::10::11::12::13::14::15::16::17::18::19::20::21::22::23::24::25::26::27::28::29::30::31::32::33::34::35::36::37::38::39::[]) ((0,0)::(1,0)::(2,0)::(3,0)::(4,0)::(5,0)::(6,2)::(7,1)::(8,0)::(9,0)::(10,0)::(11,0)::(12,0)::(13,0)::(14,0)::(15,0)::(16,1)::(17,1)::(18,0)::(19,0)::(20,0)::(21,0)::(22,0)::(23,1)::(24,1)::(25,0)::(26,0)::(27,0)::(28,0)::(29,1)::(30,1)::(31,0)::(32,0)::(33,0)::(34,0)::(35,0)::(36,1)::(37,1)::(38,0)::(39,0)::[]) kR kR λhs=>?_;refine fM_ E E (fQ_ E (F5 false E E (neF E)) (fM_ E E (fG_ E qm_ (fG_ E qm_ ?_))));refine fG_ E (Z3 (k':=.u8) ((i:Nat):Int) E kR (B5K qO)) ?_
     refine C2A E E E E λ_=>(C4 (e:=5) (sz:=1) (z:=[.int .u8 0]) kR (eS E e0) (bdS 0 1 E qR bd0) E λb100=>?_)
     refine fH_ E (L3 E kR (Co (n:=1) (cs:=nums .u8 [i]) Cc qR)) ?_;refine fG_ E ((show (!decide ([i]=[i]))=false by simp)▸A8G E E E E ilt ilt) ?_;refine fQ_ E (E3 E E) (fM_ E E (fG_ E qm_ (fG_ E (E1 E) (fG_ E (qf_ 7 7) ?_))));refine fG_ E (D2 (e:=49) (n:=2) (sz:=18) (i:=0) 7 E E kR kR E qD E) ?_;refine fG_ E (A0o (off:=0) E kR) ?_;refine fH_ E ql_ ?_;refine fH_ E (L3 E kR (hx0.id.rd.mono qS)) (fG_ E qm_ (fG_ E (E1 E) (fG_ E (qf_ 7 7) ?_)));refine fG_ E (D2 (e:=49) (n:=2) (sz:=18) (i:=1) 25 E E kR kR E qD E) ?_;refine fG_ E (A0o (off:=0) E kR) ?_;refine fH_ E ql_ ?_;refine fH_ E (L3 E kR (hx1.id.rd.mono qS)) ?_;refine fG_ E ((show (!decide (x0.id=x1.id))=false by rw [hH91.id];simp)▸A8G E E E E hx0.id.lt hx1.id.lt) ?_;refine fQ_ E (E3 E E) (fM_ E E (fG_ E (qf_ 4 4) ?_));refine fH_ E ql_ ?_;refine fH_ E (L3 E kR (he47.ses.rd.mono qS)) (fG_ E qm_ (fG_ E (E1 E) (fG_ E (qf_ 7 7) ?_)));refine fG_ E (D2 (e:=49) (n:=2) (sz:=18) (i:=0) 7 E E kR kR E qD E) ?_;refine fG_ E (A0o (off:=0) E kR) ?_;refine fH_ E ql_ ?_;refine fH_ E (L3 E kR (hx0.id.rd.mono qS)) ?_;refine fG_ E ((show (!decide (e.ses=x0.id))=false by rw [hes];simp)▸A8G E E E E he47.ses.lt hx0.id.lt) ?_;refine fQ_ E (E3 E E) (E0 (G7 2 7 8 9 10 133) ?_);refine C7 E ?_;refine A6 (nx (F2 2 7 8 9 10) (C1 (mv_ (mv_ ?_))));refine V8 (t:=135) E (λhb=>?_) (λhb=>?_)
     .
      obtain rfl:h=true:=by simpa using hb
      refine K0 E E E E ?_;refine K0 E E E E ?_;refine lQ_ (G4 E E) (as_ (C5 (nb (nx (D7 2 7 8 9) (C1 (mv_ ?_))))));refine lQ_ (D5 ((i+1:Nat):Int) E E (F7 qO qO qO)) ?_;refine as_ (C5 ?_);refine rn (i+1,true,(tb,blk ((vP pb)::(vP ka)::(vP kb)::.int .i64 0::.int .i64 1::.int .i64 1::.int .i64 1::vi::vw::p0::r0::u0::(vU x0.he.signed)::.bool x0.he.has::(vU x0.he.once)::.bool x0.tell::vo::vt::vr::vk0::(vU x0.r.sn)::vl::(vU x0.r.tn)::(vU x0.r.prev)::vst::wi::ww::p1::r1::u1::(vU x1.he.signed)::.bool x1.he.has::(vU x1.he.once)::.bool x1.tell::wo::wt::wr::wk0::(vU x1.r.sn)::wl::(vU x1.r.tn)::(vU x1.r.prev)::wst::.bool true::[]) 52)::MQ,J91++(J47++Ji)) ⟨by dsimp only;omega,.inr ⟨Nat.succ_pos _,s,x0,x1,⟨vi,vw,p0,r0,u0,vo,vt,vr,vk0,vl,vst,wi,ww,p1,r1,u1,wo,wt,wr,wk0,wl,wst,MQ,E,hx0.mono qS,hx1.mono qS,hPq⟩,by rw [show 21-(i+1)=20-i by omega];exact hP91,by simpa using hH91⟩,hky.mono qS⟩ (by dsimp only;omega) (D7 2 7 8 9) (Ch (B:=[_]) qP (Cf qP)) (λ_ h=>by simpa using h)
     .
      obtain rfl:h=false:=by simpa using hb
      refine F4 E E (Cn qm_ E ?_);refine F4 E E (Cn (E8 E E E) E ?_);refine lQ_ (E3 E E) (as_ (C5 (nb (nx (D7 2 7 8 9) (C1 (mv_ ?_))))));refine lQ_ (D5 ((i+1:Nat):Int) E E (F7 qO qO qO)) ?_;refine as_ (C5 ?_);refine rn (i+1,(((k:Nat):Int)==1),(tb,blk ((vP pb)::(vP ka)::(vP kb)::.int .i64 0::.int .i64 1::.int .i64 1::.int .i64 1::vi::vw::p0::r0::u0::(vU x0.he.signed)::.bool x0.he.has::(vU x0.he.once)::.bool x0.tell::vo::vt::vr::vk0::(vU x0.r.sn)::vl::(vU x0.r.tn)::(vU x0.r.prev)::vst::wi::ww::p1::r1::u1::(vU x1.he.signed)::.bool x1.he.has::(vU x1.he.once)::.bool x1.tell::wo::wt::wr::wk0::(vU x1.r.sn)::wl::(vU x1.r.tn)::(vU x1.r.prev)::wst::.bool true::[]) 52)::MQ,J91++(J47++Ji)) ⟨by dsimp only;omega,.inr ⟨Nat.succ_pos _,s,x0,x1,⟨vi,vw,p0,r0,u0,vo,vt,vr,vk0,vl,vst,wi,ww,p1,r1,u1,wo,wt,wr,wk0,wl,wst,MQ,E,hx0.mono qS,hx1.mono qS,hPq⟩,by rw [show 21-(i+1)=20-i by omega];exact hP91,by rcases hk with rfl|rfl<;>exact hH91⟩,hky.mono qS⟩ (by dsimp only;omega) (D7 2 7 8 9) (Ch (B:=[_]) qP (Cf qP)) (λ_ h=>by simpa using h)
    .
     intro hLT;refine A3 ?_;refine C8 (0::1::2::3::4::5::6::7::8::9::10::11::12::13::14::15::16::17::18::19::20::21::22::23::24::25::26::27::28::29::30::31::32::33::34::35::[]) ((0,0)::(1,0)::(2,0)::(3,0)::(4,1)::(5,0)::(6,0)::(7,0)::(8,0)::(9,0)::(10,0)::(11,0)::(12,0)::(13,0)::(14,0)::(15,1)::(16,0)::(17,0)::(18,0)::(19,0)::(20,0)::(21,1)::(22,0)::(23,0)::(24,0)::(25,0)::(26,1)::(27,0)::(28,0)::(29,0)::(30,0)::(31,0)::(32,0)::(33,1)::(34,0)::(35,0)::[]) kR kR λhs=>?_;refine fM_ E E (fQ_ E (U2 E) (fM_ E E (fG_ E (qf_ 5 5) ?_)));refine fH_ E ql_ ?_;refine fG_ E qm_ (fG_ E (E8 E E E) (fG_ E qm_ ?_));refine X9 (t:=57) E (λhb=>?_) (λhb=>?_)
     .
      obtain rfl:k=0:=by simpa [I4] using hb
      refine fG_ E qm_ (fG_ E (U2 E) (fG_ E (G4 E E) ?_));refine fG_ E ((show (!(e.has==!h))=false by rw [hEF.has];simp)▸A3Q (a:=e.has) (b:=!h) E E kR) ?_;refine fQ_ E (E3 E E) (fM_ E E (fG_ E (qf_ 0 0) (fH_ E (F1 (n:=2) (vs:=[.int .i64 e.fu,.int .i64 e.fd]) E kR Cc E (D1 [] [.int .i64 e.fu,.int .i64 e.fd] [.int .i64 e.tu,.int .i64 e.td,es,.bool e.has,ep,er,eu,(vU e.he.signed),.bool e.he.has,(vU e.he.once),ek,(vU e.hp),(vU e.hn),eg])) (fG_ E qm_ (fG_ E qm_ (fG_ E (E1 E) (fG_ E (qf_ 3 3) ?_)))))));refine fG_ E (D2 (e:=27) (n:=2) (sz:=2) (i:=0) 3 E E kR kR E qD E) ?_;refine fH_ E (F1 (n:=2) (vs:=[.int .i64 0,.int .i64 1]) E kR Cc E (D1 [(vP pb),(vP ka),(vP kb)] [.int .i64 0,.int .i64 1] (([.int .i64 1,.int .i64 1]:List Value)++(c0++(c1++([.bool true]:List Value)))))) ?_;refine fG_ E ((show (!(e.fu==0&&e.fd==1))=false by rw [hEF.fu,hEF.fd];rfl)▸A6V E E kR) ?_;refine fQ_ E (E3 E E) (fM_ E E (fG_ E (qf_ 2 2) (fH_ E (F1 (n:=2) (vs:=[.int .i64 e.tu,.int .i64 e.td]) E kR Cc E (D1 [.int .i64 e.fu,.int .i64 e.fd] [.int .i64 e.tu,.int .i64 e.td] [es,.bool e.has,ep,er,eu,(vU e.he.signed),.bool e.he.has,(vU e.he.once),ek,(vU e.hp),(vU e.hn),eg])) (fG_ E qm_ (fG_ E qm_ ?_)))));refine fG_ E (D5 1 E E qR) ?_;refine fG_ E (E1 E) (fG_ E (qf_ 3 3) ?_);refine fG_ E (D2 (e:=27) (n:=2) (sz:=2) (i:=1) 5 E E kR kR E qD E) ?_;refine fH_ E (F1 (n:=2) (vs:=[.int .i64 1,.int .i64 1]) E kR Cc E (D1 [(vP pb),(vP ka),(vP kb),.int .i64 0,.int .i64 1] [.int .i64 1,.int .i64 1] (([]:List Value)++(c0++(c1++([.bool true]:List Value)))))) ?_;refine fG_ E ((show (!(e.tu==1&&e.td==1))=false by rw [hEF.tu,hEF.td];rfl)▸A6V E E kR) ?_;refine fQ_ E (E3 E E) (E0 (N9 2 7 8 9 10 11 85) ?_);refine C7 E ?_;refine A6 (nx (G7 2 7 8 9 10 11) ?_);exact XC.to (hLT () trivial) (G7 2 7 8 9 10 11) (Ch (B:=[_]) qP (Ch (B:=[_]) qP (Cf qP))) qI
     .
      obtain rfl:k=1:=by rcases hk with rfl|rfl;simp [I4] at hb;rfl
      refine K9 hs ?_;refine K9 hs ?_;refine fG_ E (E3 E E) ?_;refine fG_ E ((show (!(e.has==false))=false by rw [hEF.has];rfl)▸A3Q (a:=e.has) (b:=false) E E kR) ?_;refine fQ_ E (E3 E E) (fM_ E E (fG_ E (qf_ 0 0) (fH_ E (F1 (n:=2) (vs:=[.int .i64 e.fu,.int .i64 e.fd]) E kR Cc E (D1 [] [.int .i64 e.fu,.int .i64 e.fd] [.int .i64 e.tu,.int .i64 e.td,es,.bool e.has,ep,er,eu,(vU e.he.signed),.bool e.he.has,(vU e.he.once),ek,(vU e.hp),(vU e.hn),eg])) (fG_ E qm_ (fG_ E qm_ (fG_ E (E1 E) (fG_ E (qf_ 3 3) ?_)))))));refine fG_ E (D2 (e:=27) (n:=2) (sz:=2) (i:=1) 5 E E kR kR E qD E) ?_;refine fH_ E (F1 (n:=2) (vs:=[.int .i64 1,.int .i64 1]) E kR Cc E (D1 [(vP pb),(vP ka),(vP kb),.int .i64 0,.int .i64 1] [.int .i64 1,.int .i64 1] (([]:List Value)++(c0++(c1++([.bool true]:List Value)))))) ?_;refine fG_ E ((show (!(e.fu==1&&e.fd==1))=false by rw [hEF.fu,hEF.fd];rfl)▸A6V E E kR) ?_;refine fQ_ E (E3 E E) (fM_ E E (fG_ E (qf_ 2 2) (fH_ E (F1 (n:=2) (vs:=[.int .i64 e.tu,.int .i64 e.td]) E kR Cc E (D1 [.int .i64 e.fu,.int .i64 e.fd] [.int .i64 e.tu,.int .i64 e.td] [es,.bool e.has,ep,er,eu,(vU e.he.signed),.bool e.he.has,(vU e.he.once),ek,(vU e.hp),(vU e.hn),eg])) (fG_ E qm_ (fG_ E qm_ ?_)))));refine fG_ E (D5 0 E E qR) ?_;refine fG_ E (E1 E) (fG_ E (qf_ 3 3) ?_);refine fG_ E (D2 (e:=27) (n:=2) (sz:=2) (i:=0) 3 E E kR kR E qD E) ?_;refine fH_ E (F1 (n:=2) (vs:=[.int .i64 0,.int .i64 1]) E kR Cc E (D1 [(vP pb),(vP ka),(vP kb)] [.int .i64 0,.int .i64 1] (([.int .i64 1,.int .i64 1]:List Value)++(c0++(c1++([.bool true]:List Value)))))) ?_;refine fG_ E ((show (!(e.tu==0&&e.td==1))=false by rw [hEF.tu,hEF.td];rfl)▸A6V E E kR) ?_;refine fQ_ E (E3 E E) (E0 (N9 2 7 8 9 10 11 85) ?_);refine C7 E ?_;refine A6 (nx (G7 2 7 8 9 10 11) ?_);exact XC.to (hLT () trivial) (G7 2 7 8 9 10 11) (Ch (B:=[_]) qP (Ch (B:=[_]) qP (Cf qP))) qI
  .
   obtain rfl:i=sides.length:=by simp [I4] at hc;omega
   refine D8 (te (re (be E (nx kn (A1 (aS_ E (A0 (D4 6) (A9 ?_))))))));exact ⟨_,[],[],H8 E E,Aa _,by simp,E,E,E⟩

open Go.Px Go.ChangeShapes Go.WideShapes Go.ChangeAt Go.RowKit
section
variable{H:Type}{enc:TypeId×Value->H}{P:Program}{w:World}{spare:Nat->Bool}{held:Bool}{fuel:Nat}{t e:TypeId}{cs:List Value}{x:DataW H×List MemPlace}{v:Value}{d:DataW H}{p:List MemPlace}{r:Reach}{base:Nat}{k:IntKind}
end
variable{W:World}
theorem A7d{P:Program}{name:String}{g:Nat}{cs:Array Value}(hg:P.globalNamed name=some g)(h:W.var? P name=some cs):∃e fr,W.heap[g]? = some (.cells cs e fr):=by
  unfold World.var? at h;rw [hg] at h;simp only [Option.bind_some] at h;split at h
  . rename_i c e fr hh;cases h;exact ⟨e,fr,hh⟩
  . cases h
def B5L(ws:LN):List Int:=ws.map λn:Nat=>(n:Int)
theorem A5Z(k:IntKind)(ws:LN):((B5L ws).map λz=>Value.int k z).toArray=(nums k ws).toArray:=by simp [B5L,nums]
theorem C2g{a b:String×DataW Unit}{rest:List (String×DataW Unit)}(h:laidMet prog (a::b::("internal/strconv.uint64pow10",Rows.laid_internal_strconv_uint64pow10)::rest) W):∃e fr,W.heap[4]? = some (Obj.cells (nums .u64 A0G).toArray e fr):=by
  have h':laidMet prog (("internal/strconv.uint64pow10",Lib.tabData .u64 (B5L A0G))::rest) W:=h.tail.tail
  have h1:=Lib.tabIs_of_head (g:=4) (t:=297) (e:=130) (n:=20) (by kernel_rfl) (by kernel_rfl) (by kernel_rfl) (by kernel_rfl) (by kernel_rfl) (by kernel_rfl) h';obtain ⟨ek,fk,h3⟩:=A7d (g:=4) (by kernel_rfl) h1;rw [A5Z] at h3;exact ⟨ek,fk,h3⟩
end Go.Proofs.YtglbhoeolghndaaGreatDoor

namespace Go.Proofs.YtglbhoeolghndaaGreatDoor
open Go.Px
theorem C4t{W:World}{a b:String×DataW Unit}{rest:List (String×DataW Unit)}(h:laidMet prog (a::b::("internal/strconv.uint64pow10",Rows.laid_internal_strconv_uint64pow10)::("pawl/sha.round",Rows.laid_pawl_sha_round)::("pawl/sha.first",Rows.laid_pawl_sha_first)::rest) W):Glb (B0S W):=by
  obtain ⟨e4,f4,h4⟩:=C2g h
  have h':laidMet prog (("pawl/sha.round",Lib.tabData .u32 (B5L A2x))::("pawl/sha.first",Lib.tabData .u32 (B5L A3w.list))::rest) W:=h.tail.tail.tail
  have h1:=Lib.tabIs_of_head (g:=1) (t:=243) (e:=30) (n:=64) (by kernel_rfl) (by kernel_rfl) (by kernel_rfl) (by kernel_rfl) (by kernel_rfl) (by kernel_rfl) h';have h2:=Lib.tabIs_of_head (g:=0) (t:=184) (e:=30) (n:=8) (by kernel_rfl) (by kernel_rfl) (by kernel_rfl) (by kernel_rfl) (by kernel_rfl) (by kernel_rfl) h'.tail;obtain ⟨ek,fk,h3⟩:=A7d (g:=1) (by kernel_rfl) h1;obtain ⟨ef,ff,h5⟩:=A7d (g:=0) (by kernel_rfl) h2;rw [A5Z] at h3 h5;exact ⟨⟨ef,ff,A1z.2 h5⟩,⟨ek,fk,A1z.2 h3⟩,⟨e4,f4,A1z.2 h4⟩⟩
end Go.Proofs.YtglbhoeolghndaaGreatDoor

namespace Go.Proofs.YtglbhoeolghndaaGreatDoor.sessionGoes
open Go.ChangeShapes Go.WideShapes Go.ChangeAt Go.RowKit
theorem own:ownKnob Tryz.prog.godebug=none:=by kernel_rfl
theorem laidOut:laidOutB prog=true:=by kernel_rfl
noncomputable def laidWorld(os:Os):World:=World.laidAll prog os Rows.sessionGoesRow.laid
theorem laid_met(os:Os):laidMetH prog Rows.sessionGoesRow.laid ((laidWorld os).forCall (λ_ _=>0) ⟨#[],#[.int .u8 0,.int .u8 0,.slice none 0 0],[]⟩).memory:=by rw [MakeChecks.laidMetH_plain _ _ _ (by kernel_rfl)];exact laidMet_laidAll _ (by kernel_rfl) (by kernel_rfl)
theorem reads(os:Os){H:Type}(enc:TypeId×Value->H):∃places,DataW.whole enc prog ((laidWorld os).forCall (λ_ _=>0) ⟨#[],#[.int .u8 0,.int .u8 0,.slice none 0 0],[]⟩).memory Tryz.f3.params.toList Rows.sessionGoesSpec.vars false (#[.int .u8 0,.int .u8 0,.slice none 0 0]:Array Value).toList 8=some ([.lit (.int .u8 0),.lit (.int .u8 0),.nil],[],places) :=
  ⟨[],by kernel_rfl⟩
theorem lifted(os:Os)(started:os.Started)(H:Type)(enc:TypeId×Value->H)(F:Stop.Interp) :
    ReturnsInHanded {} Tryz.checked os 3 .any ((OpenSpec.ofChange Rows.sessionGoesSpec).preRow enc prog Tryz.f3 Rows.sessionGoesRow.domain false Rows.sessionGoesRow.laid) (((OpenSpec.ofChange Rows.sessionGoesSpec).at F).post enc prog Tryz.f3 false true false false):=by
  obtain ⟨places,hx⟩:=reads os enc
  refine returnsInHanded_of_row (C:=Tryz.checked) (s:=(OpenSpec.ofChange Rows.sessionGoesSpec)) own started (by kernel_rfl) func3
    (witness_row_at (enc:=enc) (C:=Tryz.checked) false (laidWorld os) #[.int .u8 0,.int .u8 0,.slice none 0 0] (World.laidAll_os _ _ _) (by kernel_rfl) (by kernel_rfl) (by kernel_rfl)
      (OpenSpec.preRow_of_cond 8 hx (by kernel_rfl) (λk hk=>by cases hk) (by kernel_rfl) (laid_met os))) ?_
  intro W base args ds gs before hval0 hW _ _ _ hL _ _;have hval:∀(j:Nat) t v,Tryz.f3.params[j]? = some t->args[j]? = some v->Value.okWide prog W .any base t v:=hval0;have hW':=hW;obtain ⟨p,q,hA0,hV,rfl,hfz,hnd⟩:=hW;have hA:DataW.TrodAll enc prog W 0 (λ_=>true) true Tryz.f3.params.toList args.toList ds p:=hA0;rw [Tryz.params3] at hA hval;obtain ⟨v0,vs0,d0,ds0,p0,q0,hargs,rfl,rfl,k0,r0_⟩:=trodAll_cons hA;obtain ⟨v1,vs1,d1,ds1,p1,q1,rfl,rfl,rfl,k1,r1_⟩:=trodAll_cons r0_;obtain ⟨v2,vs2,d2,ds2,p2,q2,rfl,rfl,rfl,k2,r2_⟩:=trodAll_cons r1_;obtain ⟨rfl,rfl,rfl⟩:=trodAll_nil r2_;obtain rfl:args=#[v0,v1,v2]:=by cases args;simp_all
  obtain ⟨rfl,rfl⟩:=trodVars_none hV;have lt0:∀x∈p0,x.block<W.heap.size:=by obtain ⟨m,hm⟩:=k0;exact DataW.trod_lt m _ _ _ hm
  have lt1:∀x∈p1,x.block<W.heap.size:=by obtain ⟨m,hm⟩:=k1;exact DataW.trod_lt m _ _ _ hm
  have lt2:∀x∈p2,x.block<W.heap.size:=by obtain ⟨m,hm⟩:=k2;exact DataW.trod_lt m _ _ _ hm
  obtain ⟨x0,rfl,hx0⟩:=Px.inU Tryz.underlying5 E (hval 0 5 v0 E E) k0;obtain ⟨x1,rfl,hx1⟩:=Px.inU Tryz.underlying5 E (hval 1 5 v1 E E) k1;obtain ⟨x2,r2,hx2,l2⟩:=Px.inSlU Tryz.underlying22 Tryz.underlying5 (by kernel_rfl) E (hval 2 22 v2 E E) k2;clear hA0 hval0;rw [MakeChecks.laidMetH_plain _ _ _ (by kernel_rfl)] at hL;have hG:=C4t hL;refine Calls.mono ((A7c x0 x1 v2 x2 _ hx0 hx1 ⟨r2,hx2,l2⟩ hG).calls (Px.heapA_fx W)) λe W' ⟨he,bel⟩=>?_;subst he;exact ⟨_,rfl,_,_,_,[],_,[],hW',trodAll_mk1 (shut_bool Tryz.underlying4 _),(trodAll_cons_mk (Below.trod laidOut (by kernel_rfl) (of_decide_eq_true (by kernel_rfl)) k0 bel lt0) (trodAll_cons_mk (Below.trod laidOut (by kernel_rfl) (of_decide_eq_true (by kernel_rfl)) k1 bel lt1) (trodAll_cons_mk (Below.trod laidOut (by kernel_rfl) (of_decide_eq_true (by kernel_rfl)) k2 bel lt2) trodAll_mk0))),rfl,bel.frame _,λh=>by cases h⟩
theorem said:Rows.SessionGoesSaid :=
  OpenClaim.holds_of_cond 3 Tryz.f3 E E E E E E E ⟨E,E,E,E,E⟩ E E E E E (by kernel_rfl) func3 (by kernel_rfl)
    (of_decide_eq_true (by kernel_rfl)) (by unfold Func.isWrapper;first|(rw [if_pos (by decide +kernel)];kernel_rfl)|(rw [if_neg (by decide +kernel)];exact ⟨E,E⟩))
    (λos started H enc _ F=>by rw [OpenClaim.pre_eq_preRow];exact lifted os started H enc F)
theorem plain(f:FuncId)(fn:Func)(hf:Tryz.pinned.checked.prog.funcNamed "pawl/pawllaw15.SessionGoes" = some f) (hfn:Tryz.pinned.checked.prog.funcs[f]? = some fn) :
    true=Tryz.pinned.checked.prog.looks []∧∀(j:Nat) t,fn.params[j]? = some t->Tryz.pinned.checked.prog.wantsStandIn t=false:=by
  obtain rfl:f=3:=Ca ((show Tryz.prog.funcNamed "pawl/pawllaw15.SessionGoes" = some 3 by kernel_rfl).symm.trans hf) |>.symm
  obtain rfl:fn=Tryz.f3:=(Ca (Tryz.func3.symm.trans hfn)).symm;refine ⟨by kernel_rfl,λj t ht=>?_⟩;rw [Tryz.params3] at ht;have hm:=Array.mem_of_getElem? ht;simp only [List.mem_toArray,Cv,Cw,or_false] at hm;rcases hm with rfl|rfl|rfl
  . exact (show Tryz.prog.wantsStandIn 5=false by kernel_rfl)
  . exact (show Tryz.prog.wantsStandIn 5=false by kernel_rfl)
  . exact (show Tryz.prog.wantsStandIn 22=false by kernel_rfl)
theorem proved:Rows.SessionGoesCardSaid :=
  Claim7.holds_tied_plain_at .later [] _ _ _ _ said (λ_ h=>by cases h) (by kernel_rfl) (λ_ h=>by cases h) sessionGoes_row_tie rfl ⟨rfl,rfl⟩ (by kernel_rfl) rfl plain (by kernel_rfl)
#print axioms proved
end Go.Proofs.YtglbhoeolghndaaGreatDoor.sessionGoes

