/- Part 13 of the texts of this claim, one behind the other. -/
import Derived.Test.YtjkpfgjfpbihaaaGreatDoorB12
import Derived.Test.YtjkpfgjfpbihaaaGreatDoorRows
set_option linter.unusedVariables false
set_option linter.unusedSimpArgs false
set_option maxRecDepth 100000
namespace Go.Proofs.YtjkpfgjfpbihaaaGreatDoor
open Go.Px
variable{R:Mem}{v:Value}{w:LN}{k:Nat}
theorem C3G(h:By R v w)(hk:k<=w.length):By R (vHi k v) (w.take k):=⟨by
  have h1:=h.rd.hiV k hk;rw [Nat.mul_one,<- A1a] at h1;rw [Bj,Nat.min_eq_left hk]
  exact h1,λ x hx=>h.lt x (Bw hx),by rw [Bj]; have:=h.len; omega⟩
theorem C3H(h:By R v w)(hk:k<=w.length):By R (vLo k 1 v) (w.drop k):=⟨by
  have h1:=h.rd.loV k hk;rw [Nat.mul_one,<- A0J] at h1;rw [Bg]
  exact h1,λ x hx=>h.lt x (List.mem_of_mem_drop hx),by rw [Bg]; have:=h.len; omega⟩
variable{p m:LN}
theorem B2z{s:LN}(h:¬ s.length=64):A69 p m s=false:=by unfold A69; rw [decide_eq_false h,Bool.false_and]
theorem B9l{s:LN}(h:U5 p=none):A69 p m s=false:=by unfold A69; rw [h,B5P,Bool.and_false]
theorem B9m{s:LN}(h:U5 (s.take 32)=none):A69 p m s=false:=by unfold A69; rw [h,B5Q,Bool.and_false]
theorem C1R{s:LN}{a r:Pt}(h1:U5 p=some a)(h2:U5 (s.take 32)=some r)(h:¬ Q9 (bv (s.drop 32) % lN) 32=s.drop 32):A69 p m s=false:=by unfold A69; rw [h1,h2,A68,decide_eq_false h,Bool.false_and,Bool.and_false]
theorem B7B{s:LN}{a r:Pt}(h0:s.length=64)(h1:U5 p=some a)(h2:U5 (s.take 32)=some r)(h:Q9 (bv (s.drop 32) % lN) 32=s.drop 32):A69 p m s=A94 (A0P pS (bv (s.drop 32) % lN)) (A7z d2N r (A0P a (A6o (s.take 32) p m))):=by unfold A69; rw [decide_eq_true h0,h1,h2,A68,decide_eq_true h,Bool.true_and,Bool.true_and]
theorem A88{V:Value}{b:Bool}(h:(∃ P,U5 w=some P∧b=true∧FeP V P)∨(U5 w=none∧b=false∧FeP V pZ)):∃ P,FeP V P∧((U5 w=some P∧b=true)∨(U5 w=none∧b=false)):=by
  rcases h with ⟨P,h1,h2,h3⟩ | ⟨h1,h2,h3⟩
  . exact ⟨P,h3,.inl ⟨h1,h2⟩⟩
  . exact ⟨_,h3,.inr ⟨h1,h2⟩⟩
theorem A89(V:Value)(P:Pt)(n:Nat)(hP:FeP V P)(hn:n < lN)(A:Mem):FnX Tryz.prog 116 [V,.agg (nums .u8 (Q9 n 32)).toArray] [] A λ r M J=>M=[]∧J=[]∧FeP r (A0P P n):=by have h:=A5M V P (Q9 n 32) hP (N1 _ _) (A5O _ _) A;rwa [B9g hn] at h
theorem B2A(h:By R v w)(hp:0 < w.length):∃ (b o cap:Nat) (cs:List Value) (e:TypeId) (fr:Nat×Nat),v=.slice (some ⟨b,o,none⟩) w.length cap∧(b,Obj.cells cs.toArray e fr)∈R∧∀ j u,(nums .u8 w)[j]? = some u->cs[o+j]? = some u:=by
  obtain ⟨p,cap,hv,h1,h2,h3 | ⟨b,o,cs,e,fr,hb,hm,hg⟩⟩:=h.rd
  . omega
  . subst hb; exact ⟨b,o,cap,cs,e,fr,hv,hm,hg⟩
theorem B9n(vp vm vs:Value)(wp wm ws:LN)(A:Mem)(hp:By A vp wp)(hm:By A vm wm)(hsg:By A vs ws)(hG:GlS A):FnV Tryz.prog 106 [vp,vm,vs] A (.bool (A69 wp wm ws)):=by
  haveI:=hp.cel;haveI:=hm.cel;haveI:=hsg.cel;have hpl:=hp.len;have hml:=hm.len;have hsl:=hsg.len;refine Ck (N:=64) Tryz.func106 E E E λ w=>?_;refine A9 (D6 0 1 2) (A1 (as_ (A0 (D6 0 1 2) (A4 (A1 (mv_ ?_))))));refine A2 (G6 (sz:=1) E kR hsg.rd) E ?_;refine A2 (F0 E E E) E ?_;refine A0 (D8 0 1 2 17) ?_;refine C4 E ?_ ?_ <;> intro hc
  .
    have h64:¬ ws.length=64:=by simp at hc; omega
    refine A1 (as_ (A0 (D5 6) (C0 (tr ?_))));exact ⟨_,[],[],I0 E E,Aa _,by simp,by rw [B2z h64],E,E⟩
  .
    have h64:ws.length=64:=by simp at hc; omega
    have hr:=C3G hsg (show 32<=ws.length by omega)
    obtain ⟨vr,hvr⟩:∃ vr,vHi 32 vs=vr:=⟨_,E⟩
    rw [hvr] at hr;haveI:=hr.cel;have hl:=C3H hsg (show 32<=ws.length by omega)
    obtain ⟨vl,hvl⟩:∃ vl,vLo 32 1 vs=vl:=⟨_,E⟩
    rw [hvl] at hl;have hll:(ws.drop 32).length=32:=by rw [Bg]; omega
    obtain ⟨lb,lo,lcap,lcs,le_,lfr,rfl,hlm,hlg⟩:=B2A hl qO;haveI:=hl.cel;refine A6 (nx (D6 0 1 2) (A1 (mv_ ?_)));refine C7 (aS E a0) kR (B2w vp wp _ (hp.mono qS)) E ?_;rintro r20 M20 J20 ⟨rfl,rfl,VA,bA,rfl,hA⟩;obtain ⟨PA,hPA,hAb⟩:=A88 hA;have hPA0:=hPA;obtain ⟨xspa,rfl,pa0,pa1,pa2,pa3,pa4,pa5,pa6,pa7,pa8,pa9,pa10,pa11,pa12,pa13,pa14,pa15,pa16,pa17,pa18,pa19,rfl,hPAX,hPAY,hPAZ,hPAT⟩:=hPA;dsimp only [nums,List.map];refine mv_ ?_;refine A2 (Y8 E) E ?_;refine A2 (Y4 E) E ?_;refine A3 E (C3 (cs:=[C1,C1,C1,C1,C1,C1,C1,C1,C1,C1,C1,C1,C1,C1,C1,C1,C1,C1,C1,C1]) kR E λ b7=>?_);refine A3 E (A7 E E Cd kR A3s A3t Cs ?_);refine as_ (A0 (E8 0 1 2 7 8) (A1 (mv_ ?_)));refine A2 (hvr▸A3T (sz:=1) (a:=32) E E kR E hsg.rd qO) E ?_;refine C7 (aS E a0) kR (B2w vr (ws.take 32) _ (hr.mono qS)) E ?_;rintro r26 M26 J26 ⟨rfl,rfl,VR,bR,rfl,hR⟩;obtain ⟨PR,hPR,hRb⟩:=A88 hR;have hPR0:=hPR;obtain ⟨xspr,rfl,pr0,pr1,pr2,pr3,pr4,pr5,pr6,pr7,pr8,pr9,pr10,pr11,pr12,pr13,pr14,pr15,pr16,pr17,pr18,pr19,rfl,hPRX,hPRY,hPRZ,hPRT⟩:=hPR;dsimp only [nums,List.map];refine mv_ ?_;refine A2 (Y8 E) E ?_;refine A2 (Y4 E) E ?_;refine A3 E (C3 (cs:=[C1,C1,C1,C1,C1,C1,C1,C1,C1,C1,C1,C1,C1,C1,C1,C1,C1,C1,C1,C1]) kR E λ b9=>?_);refine A3 E (A7 E E Cd kR A3s A3t Cs ?_);refine as_ (A0 (N9 0 1 2 7 8 9 10) (A1 (mv_ ?_)));refine A2 (hvl▸A1M (sz:=1) (a:=32) E E kR E hsg.rd qO) E ?_;refine C7 (aS E a0) kR (A2H _ (ws.drop 32) _ (hl.rd.mono qS) hl.lt qO) E ?_;rintro r31 M31 J31 ⟨rfl,rfl,hq⟩;have hz:=hq;obtain ⟨s,rfl,s8,s32,sv⟩:=hq;refine A3 E (C3 (cs:=[D3,D3,D3,D3,D3,D3,D3,D3]) kR E λ b11=>?_);refine A3 E (A7 (vs:=nums .u32 s) E E E (by rw [nums_len,s8]; kernel_rfl) (by rw [nums_len,s8]; rfl) E9 Cs ?_);refine A0 (W4 0 1 2 7 8 9 10 11) (A1 ?_);refine A2 (H6 (n:=8) (cs:=nums .u32 s) E kR Cc (by rw [nums_len]; omega)) E ?_;refine E6 (aS E a0) kR (A2I _ _ hz _) E ?_;refine A3 E (C3 (cs:=[zu8,zu8,zu8,zu8,zu8,zu8,zu8,zu8,zu8,zu8,zu8,zu8,zu8,zu8,zu8,zu8,zu8,zu8,zu8,zu8,zu8,zu8,zu8,zu8,zu8,zu8,zu8,zu8,zu8,zu8,zu8,zu8]) kR E λ b12=>?_);refine A3 E (A7 (vs:=nums .u8 (Q9 (bv (ws.drop 32) % lN) 32)) E E E (by rw [nums_len,N1]; kernel_rfl) (by rw [nums_len,N1]; rfl) E9 Cs ?_);refine A0 (W4 0 1 2 7 8 9 10 12) (A4 ?_)
    have h3:(U5 wp=none∧bA=false)∨((U5 wp=some PA∧bA=true)∧(U5 (ws.take 32)=none∧bR=false))∨((U5 wp=some PA∧bA=true)∧(U5 (ws.take 32)=some PR∧bR=true)):=by
      rcases hAb with h | h
      . rcases hRb with h2 | h2
        . exact .inr (.inr ⟨h,h2⟩)
        . exact .inr (.inl ⟨h,h2⟩)
      . exact .inl h
    clear hAb hRb;rcases h3 with ⟨hA1,rfl⟩ | ⟨⟨hA1,rfl⟩,hR1,rfl⟩ | ⟨⟨hA1,rfl⟩,hR1,rfl⟩
    . refine D1 (.range 14) (zp 0 [0,0,0,0,0,0,0,1,0,0,0,1,0,0]) kR kR λ hs=>?_;refine fm_ hs ?_;refine C8 hs E (U0 E) E ?_;refine fm_ hs ?_;refine L2 hs ?_;refine L2 hs ?_;refine C8 hs E (G8 E E) E ?_;refine fm_ hs ?_;refine W1 hs ?_;refine L2 hs ?_;refine L2 hs ?_;refine L2 hs ?_;refine W1 hs ?_;refine L2 hs ?_;refine C8 hs E (G8 E E) E ?_;refine E3 (N9 0 1 2 7 9 12 47) ?_;refine E1 E ?_;refine A1 (as_ (A0 (D5 6) (C0 (tr ?_))));exact ⟨_,[],[],I0 E E,Aa _,by simp,by rw [B9l hA1],E,E⟩
    . refine D1 (.range 14) (zp 0 [0,0,0,0,0,0,0,1,0,0,0,1,0,0]) kR kR λ hs=>?_;refine fm_ hs ?_;refine C8 hs E (U0 E) E ?_;refine fm_ hs ?_;refine H9 hs E E E E qm_ E ?_;refine H9 hs E E E E (U0 E) E ?_;refine C8 hs E (F2 E E) E ?_;refine fm_ hs ?_;refine W1 hs ?_;refine L2 hs ?_;refine L2 hs ?_;refine L2 hs ?_;refine W1 hs ?_;refine L2 hs ?_;refine C8 hs E (G8 E E) E ?_;refine E3 (N9 0 1 2 7 9 12 47) ?_;refine E1 E ?_;refine A1 (as_ (A0 (D5 6) (C0 (tr ?_))));exact ⟨_,[],[],I0 E E,Aa _,by simp,by rw [B9m hR1],E,E⟩
    .
      refine D1 (.range 14) (zp 0 [0,0,0,0,0,0,0,1,0,0,0,1,0,0]) kR kR λ hs=>?_;refine fm_ hs ?_;refine C8 hs E (U0 E) E ?_;refine fm_ hs ?_;refine H9 hs E E E E qm_ E ?_;refine H9 hs E E E E (U0 E) E ?_;refine C8 hs E (F2 E E) E ?_;refine fm_ hs ?_;refine Z0 hs E E E E (H6 (n:=32) (cs:=nums .u8 (Q9 (bv (ws.drop 32) % lN) 32)) E kR Cc (by rw [nums_len,N1])) E ?_;refine H9 hs E E E E qm_ E ?_;refine H9 hs E E E E (hvl▸A1M (sz:=1) (a:=32) E E kR E hsg.rd qO) E ?_;refine H9 hs E E E E (B5R (k:=.u8) (n:=32) E kR qO) E ?_;refine Z0 hs E E E E (I1 (n:=32) (vs:=nums .u8 (ws.drop 32)) E kR (mA hlm) ⟨by rw [nums_len]; omega,hlg⟩) E ?_;refine H9 hs E E E E (B9e (n:=32) (k:=.u8) E E kR kR (N1 _ _) qO) E ?_;refine C8 hs E (F2 E E) E ?_;refine E3 (N9 0 1 2 7 9 12 47) ?_;refine C4 E ?_ ?_ <;> intro hc
      .
        have hne:¬ Q9 (bv (ws.drop 32) % lN) 32=ws.drop 32:=by simpa using hc
        refine A1 (as_ (A0 (D5 6) (C0 (tr ?_))));exact ⟨_,[],[],I0 E E,Aa _,by simp,by rw [C1R hA1 hR1 hne],E,E⟩
      .
        have hne:Q9 (bv (ws.drop 32) % lN) 32=ws.drop 32:=by simpa using hc
        refine A6 (nx (H1 0 1 2 7 9 12) ?_);refine D1 [0,1,2,3] [(1,1),(0,3),(2,3),(3,4),(4,2)] kR kR λ hs=>?_;refine F9 hs E (H6 (n:=32) (cs:=nums .u8 (Q9 (bv (ws.drop 32) % lN) 32)) E kR Cc (by rw [nums_len,N1])) E ?_
        refine N6 [⟨0,48,λ v B _=>B=[]∧FeP v pS⟩,⟨2,50,λ v B _=>B=[]∧FeP v (A0P pS (bv (ws.drop 32) % lN))⟩,⟨3,13,λ v B _=>∃ b,v=(vP b)∧B=[(b,blk [.int .u64 0,.int .u64 0,.int .u64 0,.int .u64 0,.int .u64 0,.int .u64 0,.int .u64 0,.int .u64 0,.int .u64 0,.int .u64 0,.int .u64 0,.int .u64 0,.int .u64 0,.int .u64 0,.int .u64 0,.int .u64 0,.int .u64 0,.int .u64 0,.int .u64 0,.int .u64 0] 202)]⟩]
          gA nd_ nd_ dl_
          (gO ?_ (gO ?_ (gO ?_ (I7)))) ?_
        .
          intros
          refine E2 (a0) kR (A7W _) E ?_;rintro r M1 J1 ⟨rfl,rfl,hh⟩;exact ⟨_,E,E,hh⟩
        . intro _ _ _ _ _ ha;have g0:=gx 0 ha;dsimp only at g0;obtain ⟨-,k0⟩:=g0;refine E2 (aS E (aS E (a0))) kR (A89 _ pS (bv (ws.drop 32) % lN) k0 (Ad _ A7a) _) E ?_;rintro r M1 J1 ⟨rfl,rfl,hh⟩;exact ⟨_,E,E,hh⟩
        .
          intros
          exact C3 (cs:=[C1,C1,C1,C1,C1,C1,C1,C1,C1,C1,C1,C1,C1,C1,C1,C1,C1,C1,C1,C1]) kR E λ b=>⟨_,E,b,E,E⟩
        intro vs bs Jn0 hφ;have g0:=gy 0 hφ;have g2:=gy 1 hφ;have g3:=gy 2 hφ;dsimp only at g0 g2 g3;clear hφ;dsimp only [V2,Q6,List.map,List.flatten,List.cons_append,List.nil_append];generalize bs 0=B48,bs 2=B50,bs 3=B13,vs 0=u48,vs 2=u50,vs 3=u13 at *;obtain ⟨rfl,-⟩:=g0;obtain ⟨rfl,hL⟩:=g2;obtain ⟨b13,rfl,rfl⟩:=g3;have hL0:=hL;obtain ⟨xspl,rfl,pl0,pl1,pl2,pl3,pl4,pl5,pl6,pl7,pl8,pl9,pl10,pl11,pl12,pl13,pl14,pl15,pl16,pl17,pl18,pl19,rfl,hLX,hLY,hLZ,hLT⟩:=hL;dsimp only [nums,List.map];dsimp only [List.append_eq,List.nil_append,List.cons_append];refine G1 E E E (A7 E E Cd kR A3s A3t Cs ?_);refine E3 (H1 0 1 2 7 9 13) ?_;refine D1 (.range 11) (zp 0 [1,1,0,0,0,0,3,3,3,3,4,2]) kR kR λ hs=>?_;refine F9 hs E (qw_ 20) E ?_;refine F9 hs E (qw_ 20) E ?_;refine fm_ hs ?_;refine C8 hs E (hvr▸A3T (sz:=1) (a:=32) E E kR E hsg.rd qO) E ?_;refine fm_ hs ?_;refine fm_ hs ?_
        refine N6 [⟨6,57,λ v B _=>B=[]∧Sc v (A6o (ws.take 32) wp wm)⟩,⟨7,58,λ v B _=>B=[]∧v=.agg (nums .u8 (Q9 (A6o (ws.take 32) wp wm) 32)).toArray⟩,⟨8,59,λ v B _=>B=[]∧FeP v (A0P PA (A6o (ws.take 32) wp wm))⟩,⟨9,60,λ v B _=>B=[]∧FeP v (A7z d2N PR (A0P PA (A6o (ws.take 32) wp wm)))⟩,⟨10,14,λ v B _=>∃ b,v=(vP b)∧B=[(b,blk [.int .u64 0,.int .u64 0,.int .u64 0,.int .u64 0,.int .u64 0,.int .u64 0,.int .u64 0,.int .u64 0,.int .u64 0,.int .u64 0,.int .u64 0,.int .u64 0,.int .u64 0,.int .u64 0,.int .u64 0,.int .u64 0,.int .u64 0,.int .u64 0,.int .u64 0,.int .u64 0] 202)]⟩]
          gA nd_ nd_ dl_
          (gO ?_ (gO ?_ (gO ?_ (gO ?_ (gO ?_ (I7)))))) ?_
        . intro _ _ _ _ hb _;refine E2 (aS E (aS E (aS E (a0)))) kR (A4i _ _ _ (ws.take 32) wp wm _ (hr.mono λ x hx=>hb _ (qS x hx)) (hp.mono λ x hx=>hb _ (qS x hx)) (hm.mono λ x hx=>hb _ (qS x hx)) (hG.sub λ x hx=>hb _ (mA hx))) E ?_;rintro r M1 J1 ⟨rfl,rfl,hh⟩;exact ⟨_,E,E,hh⟩
        . intro _ _ _ _ _ ha;have g6:=gx 0 ha;dsimp only at g6;obtain ⟨-,k6⟩:=g6;exact R8 (aS E a0) kR (A2I _ _ k6 _) E ⟨_,E,E,E⟩
        . intro vs bs _ _ _ ha;have g7:=gx 1 ha;dsimp only at g7;obtain ⟨-,k7⟩:=g7;refine E2 (vs:=[_,.agg (nums .u8 (Q9 (A6o (ws.take 32) wp wm) 32)).toArray]) (aS E (aS (by rw [<- k7]; rfl) a0)) kR (A89 _ PA (A6o (ws.take 32) wp wm) hPA0 (B9d _ _ _) _) E ?_;rintro r M1 J1 ⟨rfl,rfl,hh⟩;exact ⟨_,E,E,hh⟩
        . intro _ _ _ _ _ ha;have g8:=gx 2 ha;dsimp only at g8;obtain ⟨-,k8⟩:=g8;refine E2 (aS E (aS E (a0))) kR (B9h _ _ PR _ hPR0 k8 _) E ?_;rintro r M1 J1 ⟨rfl,rfl,hh⟩;exact ⟨_,E,E,hh⟩
        .
          intros
          exact C3 (cs:=[C1,C1,C1,C1,C1,C1,C1,C1,C1,C1,C1,C1,C1,C1,C1,C1,C1,C1,C1,C1]) kR E λ b=>⟨_,E,b,E,E⟩
        intro vs bs Jn0 hφ;have g6:=gy 0 hφ;have g7:=gy 1 hφ;have g8:=gy 2 hφ;have g9:=gy 3 hφ;have g10:=gy 4 hφ;dsimp only at g6 g7 g8 g9 g10;clear hφ;dsimp only [V2,Q6,List.map,List.flatten,List.cons_append,List.nil_append];generalize bs 6=B57,bs 7=B58,bs 8=B59,bs 9=B60,bs 10=B14,vs 6=u57,vs 7=u58,vs 8=u59,vs 9=u60,vs 10=u14 at *;obtain ⟨rfl,-⟩:=g6;obtain ⟨rfl,-⟩:=g7;obtain ⟨rfl,-⟩:=g8;obtain ⟨rfl,hU⟩:=g9;obtain ⟨b14,rfl,rfl⟩:=g10;have hU0:=hU;obtain ⟨xspu,rfl,pu0,pu1,pu2,pu3,pu4,pu5,pu6,pu7,pu8,pu9,pu10,pu11,pu12,pu13,pu14,pu15,pu16,pu17,pu18,pu19,rfl,hUX,hUY,hUZ,hUT⟩:=hU;dsimp only [nums,List.map];dsimp only [List.append_eq,List.nil_append,List.cons_append];refine G1 E E E (A7 E E Cd kR A3s A3t Cs ?_);refine E3 (D2 13 14) (A1 ?_);refine A2 (qw_ 20) E ?_;refine A2 (qw_ 20) E ?_;refine E6 (aS E (aS E a0)) kR (B9i _ _ _ _ hL0 hU0 _) E ?_;refine as_ (A0 (D5 6) (C0 ?_));exact ⟨_,[],[],I0 E E,Aa _,by simp,by rw [B7B h64 hA1 hR1 hne],E,E⟩

variable{A:Mem}
theorem Glb.s(h:Glb A):GlS A:=⟨h.first,h.round⟩
def N8(s:Ps)(w:LN):Ps:=if s.real then s else C1i s w
noncomputable def P7(s:Ps)(w:LN):LN:=if s.real then A4g (I5 w 32) else C1j s w
noncomputable def C1S(s:Ps)(w:LN):LN:=if s.real then A95 (I5 w 32) else C1j s w
def P1(s:Ps)(w u:LN):Ps:=if s.real then s else C1k s w u
noncomputable def A18(s:Ps)(w u:LN):LN:=if s.real then x25 (I5 w 32) (I5 u 32) else C2U s w u
def B5V(s:Ps)(w m:LN):Ps:=if s.real then s else B8K s w λ x=>B5o x m
noncomputable def C1T(s:Ps)(w m:LN):LN:=if s.real then B2q (I5 w 32) m else I5 (C1m s w λ x=>B5o x m) 64
theorem C1U(s m:LN):∀ x∈B2q s m,x < 256:=by
  intro x hx;rcases List.mem_append.1 hx with h | h
  . exact B5H _ x h
  . exact A5O _ _ x h
theorem C1V(v vm:Value)(ws wm:LN)(A:Mem)(hv:By A v ws)(hm:By A vm wm)(hG:GlS A):FnX Tryz.prog 103 [v,vm] [] A λ r M J=>M=[]∧By J r (B2q ws wm) :=
  ((C1Q v vm ws wm A hv hm hG).frz0).mono λ r M J ⟨h1,h2⟩=>⟨h1,B5S h2 (A85 _ _).symm (C1U _ _) (by rw [A85]; decide) λ _ h=>h⟩
theorem B5W(pb:Nat)(s:Ps)(hr:s.real=true)(v:Value)(w:LN)(MP A:Mem)(hP:Prm pb s MP)(hv:By A v w):FnX Tryz.prog 23 [(vP pb),v] MP A λ q M J=>Prm pb s M∧By J q (A4g (I5 w 32)):=by obtain ⟨sv,bt,bm,B,MT,rfl,hby,hT⟩:=hP.ex;haveI:=hv.cel;haveI:=hby.cel;have hvl:=hv.len;refine Cl (N:=26) Tryz.func23 E E E λ w_=>?_;refine A9 (D2 0 1) (A1 (as_ (A0 (D2 0 1) (A4 (A1 (mv_ ?_))))));refine A2 (F6 (e:=102) E E kR) E ?_;refine A0 (D6 0 1 6) ?_;refine C9 E ?_;refine A6 (nx (D2 0 1) (A4 (A1 (mv_ ?_))));refine A2 (E7 E) E ?_;refine A2 (qf_ 0 0) E ?_;refine A2 ql_ E ?_;refine A2 (F5 true E E (eqT (by rw [hr]; rfl))) E ?_;refine A0 (D6 0 1 11) ?_;refine E1 E ?_;refine A1 (mv_ ?_);refine C7 (aS E (aS E a0)) kR (X6 v w 32 _ (hv.mono qS) qD) E ?_;rintro r13 M13 J13 ⟨rfl,h13⟩;haveI:=h13.cel;refine C7 (aS E a0) kR (C1P _ _ _ (h13.mono qS)) E ?_;rintro r14 M14 J14 ⟨rfl,h14⟩;haveI:=h14.cel;refine as_ (A0 (D5 4) (C0 (tr ?_)));exact ⟨_,(pb,blk [.int .u8 (md s.real),sv,.int .i64 (((s.n:Nat):Int)),(vP bt)] 102)::(B++MT),[],I0 E E,(Cg (Ch (B:=[_]) qP (Ch qP (Cf qP)))),⟨sv,bt,bm,B,MT,E,hby,hT⟩,h14.mono qS⟩
theorem B2B(pb:Nat)(s:Ps)(hr:s.real=true)(v:Value)(w:LN)(MP A:Mem)(hP:Prm pb s MP)(hv:By A v w)(hG:Glb A):FnX Tryz.prog 43 [(vP pb),v] MP A λ q M J=>Prm pb s M∧By J q (A95 (I5 w 32)):=by obtain ⟨sv,bt,bm,B,MT,rfl,hby,hT⟩:=hP.ex;haveI:=hv.cel;haveI:=hby.cel;have hvl:=hv.len;refine Cl (N:=18) Tryz.func43 E E E λ w_=>?_;refine A9 (D2 0 1) (A1 (as_ (A0 (D2 0 1) (A4 (A1 (mv_ ?_))))));refine A2 (F6 (e:=102) E E kR) E ?_;refine A0 (D6 0 1 6) ?_;refine C9 E ?_;refine A6 (nx (D2 0 1) (A4 (A1 (mv_ ?_))));refine A2 (E7 E) E ?_;refine A2 (qf_ 0 0) E ?_;refine A2 ql_ E ?_;refine A2 (F5 true E E (eqT (by rw [hr]; rfl))) E ?_;refine A0 (D6 0 1 11) ?_;refine E1 E ?_;refine A1 (mv_ ?_);refine C7 (aS E (aS E a0)) kR (X6 v w 32 _ (hv.mono qS) qD) E ?_;rintro r13 M13 J13 ⟨rfl,h13⟩;haveI:=h13.cel;refine C7 (aS E a0) kR (A87 _ _ _ (h13.mono qS) hG.s.up) E ?_;rintro r14 M14 J14 ⟨rfl,h14⟩;haveI:=h14.cel;refine as_ (A0 (D5 4) (C0 (tr ?_)));exact ⟨_,(pb,blk [.int .u8 (md s.real),sv,.int .i64 (((s.n:Nat):Int)),(vP bt)] 102)::(B++MT),[],I0 E E,(Cg (Ch (B:=[_]) qP (Ch qP (Cf qP)))),⟨sv,bt,bm,B,MT,E,hby,hT⟩,h14.mono qS⟩
theorem B9o(pb:Nat)(s:Ps)(hr:s.real=true)(v v2:Value)(w u:LN)(MP A:Mem)(hP:Prm pb s MP)(hv:By A v w)(hu:By A v2 u):FnX Tryz.prog 37 [(vP pb),v,v2] MP A λ q M J=>Prm pb s M∧By J q (x25 (I5 w 32) (I5 u 32)):=by obtain ⟨sv,bt,bm,B,MT,rfl,hby,hT⟩:=hP.ex;haveI:=hv.cel;haveI:=hby.cel;have hvl:=hv.len;haveI:=hu.cel;refine Cl (N:=31) Tryz.func37 E E E λ w_=>?_;refine A9 (D6 0 1 2) (A1 (as_ (A0 (D6 0 1 2) (A4 (A1 (mv_ ?_))))));refine A2 (F6 (e:=102) E E kR) E ?_;refine A0 (D8 0 1 2 8) ?_;refine C9 E ?_;refine A6 (nx (D6 0 1 2) (A4 (A1 (mv_ ?_))));refine A2 (E7 E) E ?_;refine A2 (qf_ 0 0) E ?_;refine A2 ql_ E ?_;refine A2 (F5 true E E (eqT (by rw [hr]; rfl))) E ?_;refine A0 (D8 0 1 2 13) ?_;refine E1 E ?_;refine A1 (mv_ ?_);refine C7 (aS E (aS E a0)) kR (X6 v w 32 _ (hv.mono qS) qD) E ?_;rintro r15 M15 J15 ⟨rfl,h15⟩;haveI:=h15.cel;refine mv_ ?_;refine C7 (aS E (aS E a0)) kR (X6 v2 u 32 _ (hu.mono qS) qD) E ?_;rintro r17 M17 J17 ⟨rfl,h17⟩;haveI:=h17.cel;refine C7 (aS E (aS E a0)) kR (B7A _ _ _ _ _ (h15.mono qS) (h17.mono qS)) E ?_;rintro r18 M18 J18 ⟨rfl,h18⟩;haveI:=h18.cel;refine as_ (A0 (D5 6) (C0 (tr ?_)));exact ⟨_,(pb,blk [.int .u8 (md s.real),sv,.int .i64 (((s.n:Nat):Int)),(vP bt)] 102)::(B++MT),[],I0 E E,(Cg (Ch (B:=[_]) qP (Ch qP (Cf qP)))),⟨sv,bt,bm,B,MT,E,hby,hT⟩,h18.mono qS⟩
theorem B9p(pb:Nat)(s:Ps)(hr:s.real=true)(v v2:Value)(w u:LN)(MP A:Mem)(hP:Prm pb s MP)(hv:By A v w)(hu:By A v2 u)(hG:Glb A):FnX Tryz.prog 66 [(vP pb),v,v2] MP A λ q M J=>Prm pb s M∧By J q (B2q (I5 w 32) u):=by obtain ⟨sv,bt,bm,B,MT,rfl,hby,hT⟩:=hP.ex;haveI:=hv.cel;haveI:=hby.cel;have hvl:=hv.len;haveI:=hu.cel;refine Cl (N:=32) Tryz.func66 E E E λ w_=>?_;refine A9 (D6 0 1 2) (A1 (as_ (A0 (D6 0 1 2) (A4 (A1 (mv_ ?_))))));refine A2 (F6 (e:=102) E E kR) E ?_;refine A0 (D8 0 1 2 8) ?_;refine C9 E ?_;refine A6 (nx (D6 0 1 2) (A4 (A1 (mv_ ?_))));refine A2 (E7 E) E ?_;refine A2 (qf_ 0 0) E ?_;refine A2 ql_ E ?_;refine A2 (F5 true E E (eqT (by rw [hr]; rfl))) E ?_;refine A0 (D8 0 1 2 13) ?_;refine E1 E ?_;refine A1 (mv_ ?_);refine C7 (aS E (aS E a0)) kR (X6 v w 32 _ (hv.mono qS) qD) E ?_;rintro r15 M15 J15 ⟨rfl,h15⟩;haveI:=h15.cel;refine mv_ ?_;refine C7 (aS E (aS E a0)) kR (C1V _ _ _ _ _ (h15.mono qS) (hu.mono qS) hG.s.up) E ?_;rintro r17 M17 J17 ⟨rfl,h17⟩;haveI:=h17.cel;refine as_ (A0 (D5 6) (C0 (tr ?_)));exact ⟨_,(pb,blk [.int .u8 (md s.real),sv,.int .i64 (((s.n:Nat):Int)),(vP bt)] 102)::(B++MT),[],I0 E E,(Cg (Ch (B:=[_]) qP (Ch qP (Cf qP)))),⟨sv,bt,bm,B,MT,E,hby,hT⟩,h17.mono qS⟩
theorem B2C(pb:Nat)(s:Ps)(hr:s.real=false)(v:Value)(w:LN)(MP A:Mem)(hP:Prm pb s MP)(hv:By A v w)(hn:s.ts.length < 1048576)(hG:Glb A):FnX Tryz.prog 43 [(vP pb),v] MP A λ q M J=>Prm pb (C1i s w) M∧By J q (C1j s w):=by obtain ⟨sv,bt,bm,B,MT,rfl,hby,hT⟩:=hP.ex;haveI:=hv.cel;haveI:=hby.cel;have hvl:=hv.len;refine Cl (N:=18) Tryz.func43 E E E λ w_=>?_;refine A9 (D2 0 1) (A1 (as_ (A0 (D2 0 1) (A4 (A1 (mv_ ?_))))));refine A2 (F6 (e:=102) E E kR) E ?_;refine A0 (D6 0 1 6) ?_;refine C9 E ?_;refine A6 (nx (D2 0 1) (A4 (A1 (mv_ ?_))));refine A2 (E7 E) E ?_;refine A2 (qf_ 0 0) E ?_;refine A2 ql_ E ?_;refine A2 (F5 false E E (eqF (by rw [hr]; decide))) E ?_;refine A0 (D6 0 1 11) ?_;refine C9 E ?_;refine A6 (nx (D2 0 1) (A1 (mv_ (mv_ ?_))));refine A3 E (D0 (Mc:=(pb,blk [.int .u8 (md s.real),sv,.int .i64 (((s.n:Nat):Int)),(vP bt)] 102)::(B++MT)) (R:=_) (aS E (aS E a0)) kR qP (A8T pb s hr v w _ _ ⟨sv,bt,bm,B,MT,E,hby,hT⟩ hn (hv.mono qS) hG.up) E ?_);rintro v17 M17 J17 ⟨hP17,h17⟩;haveI:=h17.cel;refine as_ (A0 (D5 4) (C0 ?_));exact ⟨_,M17,[],I0 E E,Cg (Cf qP),hP17,h17.mono qS⟩
theorem A1E(pb:Nat)(s:Ps)(v:Value)(w:LN)(MP A:Mem)(hP:Prm pb s MP)(hn:s.ts.length < 1048576)(hv:By A v w)(hG:Glb A):FnX Tryz.prog 23 [(vP pb),v] MP A λ q M J=>Prm pb (N8 s w) M∧By J q (P7 s w):=by
  cases hr:s.real with
  | true=>unfold N8 P7; rw [hr]; exact B5W pb s hr v w MP A hP hv
  | false=>unfold N8 P7; rw [hr]; exact A8T pb s hr v w MP A hP hn hv hG
theorem B2D(pb:Nat)(s:Ps)(v:Value)(w:LN)(MP A:Mem)(hP:Prm pb s MP)(hn:s.ts.length < 1048576)(hv:By A v w)(hG:Glb A):FnX Tryz.prog 43 [(vP pb),v] MP A λ q M J=>Prm pb (N8 s w) M∧By J q (C1S s w):=by
  cases hr:s.real with
  | true=>unfold N8 C1S; rw [hr]; exact B2B pb s hr v w MP A hP hv hG
  | false=>unfold N8 C1S; rw [hr]; exact B2C pb s hr v w MP A hP hv hn hG
theorem A0Y(pb:Nat)(s:Ps)(v v2:Value)(w u:LN)(MP A:Mem)(hP:Prm pb s MP)(hn:s.ts.length+1 < 1048576)(hv:By A v w)(hu:By A v2 u)(hG:Glb A):FnX Tryz.prog 37 [(vP pb),v,v2] MP A λ q M J=>Prm pb (P1 s w u) M∧By J q (A18 s w u):=by
  cases hr:s.real with
  | true=>unfold P1 A18; rw [hr]; exact B9o pb s hr v v2 w u MP A hP hv hu
  | false=>unfold P1 A18; rw [hr]; exact B5n pb s hr v v2 w u MP A hP hn hv hu hG
theorem B9q(pb:Nat)(s:Ps)(v v2:Value)(w m:LN)(MP A:Mem)(hP:Prm pb s MP)(hn:s.ts.length < 1048576)(hv:By A v w)(hm:By A v2 m)(hG:Glb A):FnX Tryz.prog 66 [(vP pb),v,v2] MP A λ q M J=>Prm pb (B5V s w m) M∧By J q (C1T s w m):=by
  cases hr:s.real with
  | true=>unfold B5V C1T; rw [hr]; exact B9p pb s hr v v2 w m MP A hP hv hm hG
  | false =>
    unfold B5V C1T; rw [hr];obtain ⟨bt,bm,h⟩:=hP.t
    exact (B1A pb bt bm s hr v v2 w m MP A h hn hv hm hG).mono λ q M J ⟨h1,h2⟩=>⟨h1.p,h2⟩

structure Ext(s s':Ps):Prop where
  p:Pext s s'
  seed:s'.seed=s.seed
  n:s.n<=s'.n
theorem Ext.refl(s:Ps):Ext s s:=⟨Pext.refl s,E,Av _⟩
theorem Ext.trans{a b c:Ps}(h:Ext a b)(h':Ext b c):Ext a c:=⟨h.p.trans h'.p,h'.seed.trans h.seed,Az h.n h'.n⟩
theorem B2E(ts:List Tm)(t:Tm):∃ l,add ts t=ts++l:=by
  unfold add;split
  . exact ⟨[],by simp⟩
  . exact ⟨_,E⟩
theorem B2F(ts:List Tm)(w:LN):∃ l,rdT ts w=ts++l:=by
  cases hp:plc w ts.length with
  | some j=>exact ⟨[],by rw [(A2x hp).1]; simp⟩
  | none=>rw [(A2y hp).1]; exact B2E _ _
def B4p(ts:List Tm)(p m g:LN):Bool:=decide (g.length=64) && match plc g ts.length,plc p ts.length with
  | some i,some k=>decide (p.length=32) && match ts[i]?,ts[k]? with
    | some t,some u=>decide (t.kind=7) && decide (t.text=m) && decide (u.kind=3) && decide (u.of.getD 0 0=t.of.getD 0 0)
    | _,_=>false
  | _,_=>false
noncomputable def B7C(s:Ps)(p m g:LN):Bool:=if s.real then A69 p m g else B4p s.ts p m g
def Ar(ts:List Tm):Prop:=∀ t∈ts,(t.kind=3∨t.kind=6∨t.kind=7)->0 < t.of.length
theorem B9r(s:Ps)(key:LN)(ws:List (LN))(lb:LN)(n:Nat):(B0t s key ws lb n).length=n:=by
  cases hr:s.real with
  | true=>rw [A6X hr]; exact A5G _ _
  | false=>rw [B7n hr]; exact (A2C _ _ _ _).1
theorem C20{k:IntKind}(a b:Nat):I8 .eql k ((a:Nat):Int) ((b:Nat):Int)=some (.bool (decide (a=b))):=by
  by_cases h:a=b
  . rw [decide_eq_true h]; exact eqT qO
  . rw [decide_eq_false h]; exact eqF qO
theorem A9a{l:List Int}(h:0 < l.length):(A1J l)[0]? = some (.int .i64 (l.getD 0 0)):=by rw [Aj,A1J,List.getElem?_map,Ab h]; rfl
variable{ts:List Tm}{g:LN}
theorem B5X(h:¬ g.length=64):B4p ts p m g=false:=by unfold B4p; rw [decide_eq_false h,Bool.false_and]
theorem B9s(h:plc g ts.length=none):B4p ts p m g=false:=by unfold B4p; rw [h]; simp
theorem B9t(h:plc p ts.length=none):B4p ts p m g=false:=by unfold B4p; rw [h]; split <;> simp_all
theorem B5Y{t u:Tm}{i:Nat}(h64:g.length=64)(hi:plc g ts.length=some i)(hk:plc p ts.length=some k)(ht:ts[i]? = some t)(hu:ts[k]? = some u) :
    B4p ts p m g=(decide (p.length=32) && (decide (t.kind=7) && (decide (t.text=m) && (decide (u.kind=3) && (u.of.getD 0 0 == t.of.getD 0 0))))):=by
  unfold B4p;rw [hi,hk,decide_eq_true h64];simp only [ht,hu,Bool.true_and,Bool.and_assoc];congr 4
theorem B2G{s:Ps}(h:s.real=true)(p m g:LN):B7C s p m g=A69 p m g:=by unfold B7C; rw [if_pos h]
theorem A3d{s:Ps}(h:s.real=false)(p m g:LN):B7C s p m g=B4p s.ts p m g:=by unfold B7C; rw [if_neg (by rw [h]; decide)]
theorem B5Z{s:Ps}(h:¬ g.length=64):B7C s p m g=false:=by
  cases hr:s.real with
  | true=>rw [B2G hr]; exact B2z h
  | false=>rw [A3d hr]; exact B5X h
theorem neN8{k:IntKind}(a b:Nat):I8 .neq k ((a:Nat):Int) ((b:Nat):Int)=some (.bool (!decide (a=b))):=by
  by_cases h:a=b
  . rw [decide_eq_true h]; exact neF qO
  . rw [decide_eq_false h]; exact neT qO
theorem B51(pb:Nat)(s:Ps)(v1 v2 v3:Value)(wp wm wg:LN)(MP A:Mem)(hP:Prm pb s MP)(hsub:∀ x,x∈MP->x∈A)(har:Ar s.ts)(hn:s.ts.length<=1048576)(hp:By A v1 wp)(hm:By A v2 wm)(hg:By A v3 wg)(hG:Glb A):FnV Tryz.prog 72 [(vP pb),v1,v2,v3] A (.bool (B7C s wp wm wg)):=by
 obtain ⟨sv,bt,bm,B,MT,rfl,hby,hT⟩:=hP.ex;have hpb:=hsub _ qK;have hMT:∀ x,x∈MT->x∈A:=λ x hx=>hsub x (by simp [hx]);haveI:=hp.cel;haveI:=hm.cel;haveI:=hg.cel;haveI:=hby.cel;have hpl:=hp.len;have hml:=hm.len;have hgl:=hg.len;refine Ck (N:=106) Tryz.func72 E E E λ w_=>?_;refine A9 (D8 0 1 2 3) (A1 (as_ (A0 (D8 0 1 2 3) (A4 (A1 (mv_ ?_))))));refine A2 (F6 (e:=102) E E kR) E ?_;refine mv_ ?_;refine F3 E E (Cn qm_ E ?_);refine F3 E E (Cn (G6 (sz:=1) E kR (by first | assumption | exact Sl.rd (by assumption) qI | exact By.rd (by assumption))) E ?_);refine F3 E E (Cn (F5 (!decide (wg.length=64)) E E (neN8 _ 64)) E ?_);refine A2 (F2 E E) E ?_;refine A0 (E8 0 1 2 3 23) ?_;refine C4 E ?_ ?_ <;> intro hc
 .
  have h64:¬ wg.length=64:=by simpa using hc
  refine A1 (as_ (A0 (D5 8) (C0 (tr ?_))));exact ⟨_,[],[],I0 E E,Aa _,by simp,by rw [B5Z h64],E,E⟩
 .
  have h64:wg.length=64:=by simpa using hc
  refine A6 (nx (D8 0 1 2 3) (A4 (A1 (mv_ ?_))));refine A2 (E7 E) E ?_;refine A2 (qf_ 0 0) E ?_;refine A2 (I2 E kR (mA hpb) qR) E ?_;refine A2 (F0 E E E) E ?_;refine A0 (E8 0 1 2 3 28) ?_;refine C4 E ?_ ?_ <;> intro hc
  .
   have hr:s.real=true:=by cases hq:s.real with | true=>rfl | false=>rw [hq] at hc; exact absurd hc qD
   refine A1 (mv_ (mv_ (mv_ ?_)));refine E6 (aS E (aS E (aS E a0))) kR (B9n v1 v2 v3 wp wm wg _ (hp.mono qS) (hm.mono qS) (hg.mono qS) hG.s.up) E ?_;refine as_ (A0 (D5 8) (C0 (tr ?_)));exact ⟨_,[],[],I0 E E,Aa _,by simp,by rw [B2G hr],E,E⟩
  .
   have hr:s.real=false:=by cases hq:s.real with | false=>rfl | true=>rw [hq] at hc; exact absurd hc qD
   refine A6 (nx (D8 0 1 2 3) (A1 (mv_ ?_)));refine A2 (E7 E) E ?_;refine A2 (qf_ 3 3) E ?_;refine A2 (I2 E kR (mA hpb) qR) E ?_;refine mv_ ?_;refine E6 (aS E (aS E a0)) kR (A0L bt bm s.ts v3 wg MT _ hT (λ x hx=>qS _ (hMT x hx)) hn (hg.rd.mono qS) hg.lt hg.max) E ?_;refine mv_ ?_;refine A2 (Y8 E) E ?_;refine A2 (Y4 E) E ?_;refine as_ (as_ (A0 (E8 0 1 2 9 10) (A1 (mv_ ?_))));refine A2 (E7 E) E ?_;refine A2 (qf_ 3 3) E ?_;refine A2 (I2 E kR (mA hpb) qR) E ?_;refine mv_ ?_;refine C7 (aS E (aS E a0)) kR (A2w bt bm s.ts _ MT _ hT (λ x hx=>qS _ (hMT x hx))) E ?_;rintro v48 M48 J48 ⟨rfl,rfl,c48,ok48,rfl,hg1a,hg2a⟩;obtain ⟨voa,ta,rfl,hvoa,hza,htka,hoka,hnoa⟩:=A2z hT.tok.tmo hg1a hg2a;haveI:=hvoa.cel;refine mv_ ?_;refine A2 (Y8 E) E ?_;refine A2 (Y4 E) E ?_;refine A3 E (C3 (cs:=[.int .u8 0,vS,.string ByteArray.empty,.int .i64 0]) kR E λ b11=>?_);refine A3 E (A7 (vs:=tmc ta.kind voa ta.text ta.n) E E E kR qR (by intro c hc; simp only [tmc,List.mem_cons,List.not_mem_nil,or_false] at hc; rcases hc with rfl | rfl | rfl | rfl <;> first | rfl | exact hvoa.one) Cs ?_);dsimp only [tmc];refine as_ (A0 (E8 0 1 2 10 11) (A1 (mv_ ?_)));refine A2 (E7 E) E ?_;refine A2 (qf_ 3 3) E ?_;refine A2 (I2 E kR (mA hpb) qR) E ?_;refine mv_ ?_;refine E6 (aS E (aS E a0)) kR (A0L bt bm s.ts v1 wp MT _ hT (λ x hx=>qS _ (hMT x hx)) hn (hp.rd.mono qS) hp.lt hp.max) E ?_;refine mv_ ?_;refine A2 (Y8 E) E ?_;refine A2 (Y4 E) E ?_;refine as_ (as_ (A0 (N9 0 1 2 10 11 13 14) (A1 (mv_ ?_))));refine A2 (E7 E) E ?_;refine A2 (qf_ 3 3) E ?_;refine A2 (I2 E kR (mA hpb) qR) E ?_;refine mv_ ?_;refine C7 (aS E (aS E a0)) kR (A2w bt bm s.ts _ MT _ hT (λ x hx=>qS _ (hMT x hx))) E ?_;rintro v66 M66 J66 ⟨rfl,rfl,c66,ok66,rfl,hg1b,hg2b⟩;obtain ⟨vob,tb,rfl,hvob,hzb,htkb,hokb,hnob⟩:=A2z hT.tok.tmo hg1b hg2b;haveI:=hvob.cel;refine mv_ ?_;refine A2 (Y8 E) E ?_;refine A2 (Y4 E) E ?_;refine A3 E (C3 (cs:=[.int .u8 0,vS,.string ByteArray.empty,.int .i64 0]) kR E λ b15=>?_);refine A3 E (A7 (vs:=tmc tb.kind vob tb.text tb.n) E E E kR qR (by intro c hc; simp only [tmc,List.mem_cons,List.not_mem_nil,or_false] at hc; rcases hc with rfl | rfl | rfl | rfl <;> first | rfl | exact hvob.one) Cs ?_);dsimp only [tmc];refine as_ (A0 (H1 1 2 10 11 14 15) ?_);refine D1 (.range 38) (zp 0 [0,0,0,0,0,0,0,0,0,0,0,1,0,0,0,0,1,0,1,0,0,0,0,1,0,0,0,0,1,0,1,0,1,0,1,0,0,0]) kR kR λ hs=>?_;refine fm_ hs ?_;refine fm_ hs ?_;refine Z9 (t:=70) E (λ hb=>?_) (λ hb=>?_)
   .
    obtain ⟨i,hi⟩:=Option.isSome_iff_exists.1 hb;refine H9 hs E E E E qm_ E ?_;refine C8 hs E (G8 E E) E ?_;refine fm_ hs ?_;refine Z9 (t:=73) E (λ hb=>?_) (λ hb=>?_)
    .
     obtain ⟨k,hk⟩:=Option.isSome_iff_exists.1 hb
     have hta:s.ts[i]? = some ta:=by
      have hl:=(A8O hi).1;rw [hi] at hoka hnoa
      cases ok48 with
      | true=>have:=(hoka E).2; rwa [Option.getD_some,Int.toNat_natCast] at this
      | false=>exact absurd ⟨by rw [Option.getD_some]; omega,by rw [Option.getD_some]; omega⟩ (hnoa E)
     have htb:s.ts[k]? = some tb:=by
      have hl:=(A8O hk).1;rw [hk] at hokb hnob
      cases ok66 with
      | true=>have:=(hokb E).2; rwa [Option.getD_some,Int.toNat_natCast] at this
      | false=>exact absurd ⟨by rw [Option.getD_some]; omega,by rw [Option.getD_some]; omega⟩ (hnob E)
     have hcv:=B5Y (m:=wm) h64 hi hk hta htb;refine H9 hs E E E E qm_ E ?_;refine H9 hs E E E E (G6 (sz:=1) E kR (by first | assumption | exact Sl.rd (by assumption) qI | exact By.rd (by assumption))) E ?_;refine H9 hs E E E E (F5 (decide (wp.length=32)) E E (C20 _ 32)) E ?_;refine C8 hs E (G8 E E) E ?_;refine fm_ hs ?_;refine Z9 (t:=78) E (λ hb=>?_) (λ hb=>?_)
     .
      rw [hb,Bool.true_and] at hcv;refine H9 hs E E E E (qf_ 0 0) E ?_;refine Z0 hs E E E E ql_ E ?_;refine H9 hs E E E E (F5 (decide (ta.kind=7)) E E (C20 _ 7)) E ?_;refine C8 hs E (G8 E E) E ?_;refine fm_ hs ?_;refine Z9 (t:=83) E (λ hb=>?_) (λ hb=>?_)
      .
       rw [hb,Bool.true_and] at hcv;have ha0:0 < ta.of.length:=har ta (As hta) (.inr (.inr (of_decide_eq_true hb)));refine H9 hs E E E E (qf_ 2 2) E ?_;refine Z0 hs E E E E ql_ E ?_;refine H9 hs E E E E qm_ E ?_;refine Z0 hs E E E E (N5 E kR (hm.rd.mono qS)) E ?_;refine H9 hs E E E E (C0Y E E E E (hT.tok.tmo ta (As hta)).text.lt hm.lt) E ?_;refine C8 hs E (G8 E E) E ?_;refine fm_ hs ?_;refine Z9 (t:=90) E (λ hb=>?_) (λ hb=>?_)
       .
        rw [hb,Bool.true_and] at hcv;refine H9 hs E E E E (qf_ 0 0) E ?_;refine Z0 hs E E E E ql_ E ?_;refine H9 hs E E E E (F5 (decide (tb.kind=3)) E E (C20 _ 3)) E ?_;refine C8 hs E (G8 E E) E ?_;refine fm_ hs ?_;refine Z9 (t:=95) E (λ hb=>?_) (λ hb=>?_)
        . rw [hb,Bool.true_and] at hcv;have hb0:0 < tb.of.length:=har tb (As htb) (.inl (of_decide_eq_true hb));refine H9 hs E E E E (qf_ 1 1) E ?_;refine Z0 hs E E E E ql_ E ?_;refine H9 hs E E E E (H4 (sz:=1) (a:=0) E E kR E hvob hb0) E ?_;refine Z0 hs E E E E (Y9 (j:=0) (u:=.int .i64 (tb.of.getD 0 0)) (hvob.mono qS) E kR (A9a hb0)) E ?_;refine H9 hs E E E E (qf_ 1 1) E ?_;refine Z0 hs E E E E ql_ E ?_;refine H9 hs E E E E (H4 (sz:=1) (a:=0) E E kR E hvoa ha0) E ?_;refine Z0 hs E E E E (Y9 (j:=0) (u:=.int .i64 (ta.of.getD 0 0)) (hvoa.mono qS) E kR (A9a ha0)) E ?_;refine H9 hs E E E E (F0 E E E) E ?_;refine C8 hs E (G8 E E) E ?_;refine fa_ hs ?_;refine E3 (D5 8) (C0 ?_);exact ⟨_,[],[],I0 E E,Aa _,by simp,by rw [A3d hr,hcv],E,E⟩
        . rw [hb,Bool.false_and] at hcv;refine L2 hs ?_;refine W1 hs ?_;refine L2 hs ?_;refine W1 hs ?_;refine L2 hs ?_;refine W1 hs ?_;refine L2 hs ?_;refine W1 hs ?_;refine L2 hs ?_;refine C8 hs E (F2 E E) E ?_;refine fa_ hs ?_;refine E3 (D5 8) (C0 ?_);exact ⟨_,[],[],I0 E E,Aa _,by simp,by rw [A3d hr,hcv],E,E⟩
       . rw [hb,Bool.false_and] at hcv;refine L2 hs ?_;refine W1 hs ?_;refine L2 hs ?_;refine C8 hs E (F2 E E) E ?_;refine fm_ hs ?_;refine L2 hs ?_;refine W1 hs ?_;refine L2 hs ?_;refine W1 hs ?_;refine L2 hs ?_;refine W1 hs ?_;refine L2 hs ?_;refine W1 hs ?_;refine L2 hs ?_;refine C8 hs E (F2 E E) E ?_;refine fa_ hs ?_;refine E3 (D5 8) (C0 ?_);exact ⟨_,[],[],I0 E E,Aa _,by simp,by rw [A3d hr,hcv],E,E⟩
      . rw [hb,Bool.false_and] at hcv;refine L2 hs ?_;refine W1 hs ?_;refine L2 hs ?_;refine W1 hs ?_;refine L2 hs ?_;refine C8 hs E (F2 E E) E ?_;refine fm_ hs ?_;refine L2 hs ?_;refine W1 hs ?_;refine L2 hs ?_;refine C8 hs E (F2 E E) E ?_;refine fm_ hs ?_;refine L2 hs ?_;refine W1 hs ?_;refine L2 hs ?_;refine W1 hs ?_;refine L2 hs ?_;refine W1 hs ?_;refine L2 hs ?_;refine W1 hs ?_;refine L2 hs ?_;refine C8 hs E (F2 E E) E ?_;refine fa_ hs ?_;refine E3 (D5 8) (C0 ?_);exact ⟨_,[],[],I0 E E,Aa _,by simp,by rw [A3d hr,hcv],E,E⟩
     . rw [hb,Bool.false_and] at hcv;refine L2 hs ?_;refine W1 hs ?_;refine L2 hs ?_;refine C8 hs E (F2 E E) E ?_;refine fm_ hs ?_;refine L2 hs ?_;refine W1 hs ?_;refine L2 hs ?_;refine W1 hs ?_;refine L2 hs ?_;refine C8 hs E (F2 E E) E ?_;refine fm_ hs ?_;refine L2 hs ?_;refine W1 hs ?_;refine L2 hs ?_;refine C8 hs E (F2 E E) E ?_;refine fm_ hs ?_;refine L2 hs ?_;refine W1 hs ?_;refine L2 hs ?_;refine W1 hs ?_;refine L2 hs ?_;refine W1 hs ?_;refine L2 hs ?_;refine W1 hs ?_;refine L2 hs ?_;refine C8 hs E (F2 E E) E ?_;refine fa_ hs ?_;refine E3 (D5 8) (C0 ?_);exact ⟨_,[],[],I0 E E,Aa _,by simp,by rw [A3d hr,hcv],E,E⟩
    . have hcv:=B9t (g:=wg) (m:=wm) (Option.not_isSome_iff_eq_none.1 (by rw [hb]; decide));refine L2 hs ?_;refine L2 hs ?_;refine L2 hs ?_;refine C8 hs E (F2 E E) E ?_;refine fm_ hs ?_;refine L2 hs ?_;refine W1 hs ?_;refine L2 hs ?_;refine C8 hs E (F2 E E) E ?_;refine fm_ hs ?_;refine L2 hs ?_;refine W1 hs ?_;refine L2 hs ?_;refine W1 hs ?_;refine L2 hs ?_;refine C8 hs E (F2 E E) E ?_;refine fm_ hs ?_;refine L2 hs ?_;refine W1 hs ?_;refine L2 hs ?_;refine C8 hs E (F2 E E) E ?_;refine fm_ hs ?_;refine L2 hs ?_;refine W1 hs ?_;refine L2 hs ?_;refine W1 hs ?_;refine L2 hs ?_;refine W1 hs ?_;refine L2 hs ?_;refine W1 hs ?_;refine L2 hs ?_;refine C8 hs E (F2 E E) E ?_;refine fa_ hs ?_;refine E3 (D5 8) (C0 ?_);exact ⟨_,[],[],I0 E E,Aa _,by simp,by rw [A3d hr,hcv],E,E⟩
   . have hcv:=B9s (p:=wp) (m:=wm) (Option.not_isSome_iff_eq_none.1 (by rw [hb]; decide));refine L2 hs ?_;refine C8 hs E (F2 E E) E ?_;refine fm_ hs ?_;refine L2 hs ?_;refine L2 hs ?_;refine L2 hs ?_;refine C8 hs E (F2 E E) E ?_;refine fm_ hs ?_;refine L2 hs ?_;refine W1 hs ?_;refine L2 hs ?_;refine C8 hs E (F2 E E) E ?_;refine fm_ hs ?_;refine L2 hs ?_;refine W1 hs ?_;refine L2 hs ?_;refine W1 hs ?_;refine L2 hs ?_;refine C8 hs E (F2 E E) E ?_;refine fm_ hs ?_;refine L2 hs ?_;refine W1 hs ?_;refine L2 hs ?_;refine C8 hs E (F2 E E) E ?_;refine fm_ hs ?_;refine L2 hs ?_;refine W1 hs ?_;refine L2 hs ?_;refine W1 hs ?_;refine L2 hs ?_;refine W1 hs ?_;refine L2 hs ?_;refine W1 hs ?_;refine L2 hs ?_;refine C8 hs E (F2 E E) E ?_;refine fa_ hs ?_;refine E3 (D5 8) (C0 ?_);exact ⟨_,[],[],I0 E E,Aa _,by simp,by rw [A3d hr,hcv],E,E⟩

variable{n:Nat}
theorem B2H(h:w.length=n):I5 w n=w:=by unfold I5; rw [Aw qO,h,Nat.sub_self]; simp
theorem B2I{s:Ps}(h:s.real=true)(a B:LN):P1 s a B=s∧A18 s a B=x25 (I5 a 32) (I5 B 32):=by unfold P1 A18; rw [if_pos h,if_pos h]; exact ⟨E,E⟩
theorem B2J{s:Ps}(h:s.real=false)(a B:LN):P1 s a B=C1k s a B∧A18 s a B=C2U s a B:=by unfold P1 A18; rw [if_neg (by rw [h]; decide),if_neg (by rw [h]; decide)]; exact ⟨E,E⟩
theorem C1W(s:Ps)(a B:LN):Ext s (P1 s a B):=by
  cases hr:s.real with
  | true=>rw [(B2I hr a B).1]; exact Ext.refl s
  | false =>
    rw [(B2J hr a B).1];obtain ⟨l1,e1⟩:=B2F s.ts a;obtain ⟨l2,e2⟩:=B2F (rdT s.ts a) B;obtain ⟨l3,e3⟩:=B2E (rdT (rdT s.ts a) B) (agT (rdT (rdT s.ts a) B) ((rdI s.ts a:Nat):Int) ((rdI (rdT s.ts a) B:Nat):Int));refine ⟨⟨E,l1++(l2++l3),?_⟩,E,Av _⟩;show add _ _=_;rw [e3,e2,e1]; simp
theorem U6(s:Ps)(a B:LN):(P1 s a B).ts.length<=s.ts.length+3:=by
  cases hr:s.real with
  | true=>rw [(B2I hr a B).1]; omega
  | false =>
    rw [(B2J hr a B).1];have h1:=U1 (ts:=s.ts) (ws:=a);have h2:=U1 (ts:=rdT s.ts a) (ws:=B);have h3:=A14 (ts:=rdT (rdT s.ts a) B) (t:=agT (rdT (rdT s.ts a) B) ((rdI s.ts a:Nat):Int) ((rdI (rdT s.ts a) B:Nat):Int));show (add _ _).length<=_;omega
theorem B2K(s:Ps)(a B:LN):(P1 s a B).n=s.n:=by unfold P1; split <;> rfl
theorem B9u(seed:LN)(i:Nat):B4m seed i=A7X (A7X [] seed) (([107,101,121]++A8Q i)++[1]):=by unfold B4m;rw [<- A84];exact B5O _ _
def aw0(r:Bool):Ps:=⟨r,[115],0,[]⟩
noncomputable def aw2(r:Bool):Ps:=G3 (G3 (aw0 r))
def bes(n k x:Nat):LN:=(List.range x).map λ j=>n / 2 ^ (8 * (k - 1 - j)) % 256
def beN(n k:Nat):LN:=bes n k k
theorem B2L(n k x:Nat):(bes n k x).length=x:=by simp [bes]
theorem K4(n k:Nat):(beN n k).length=k:=B2L n k k
theorem B52(n k x:Nat):bes n k (x+1)=bes n k x++[n / 2 ^ (8 * (k - 1 - x)) % 256]:=by simp [bes,List.range_succ]
theorem C1X(n k x:Nat):∀ y∈bes n k x,y < 256:=by intro y hy;simp only [bes,List.mem_map] at hy;obtain ⟨j,_,rfl⟩:=hy;exact Ad _ qD
theorem C1Y(n k:Nat):∀ y∈beN n k,y < 256:=C1X n k k
theorem B7D{a b:LN}(ha:∀ x∈a,x < 256)(hb:∀ x∈b,x < 256):∀ x∈a++b,x < 256:=λ x hx=>(List.mem_append.1 hx).elim (ha x) (hb x)
structure Wtr(wb:Nat)(ws:LN)(M:Mem):Prop where
  ex:∃ (v:Value) (B:Mem),M=(wb,blk [v] 111)::B∧Sl 1 v ws.length (nums .u8 ws) B
  lt:∀ x∈ws,x < 256
variable{b:Nat}
theorem Wtr.new:Wtr b [] [(b,blk [vS] 111)]:=⟨⟨_,[],rfl,Sl.nil⟩,λ x h=>by cases h⟩
theorem Wtr.eq{wb:Nat}{ws ws':LN}{M:Mem}(h:Wtr wb ws M)(e:ws=ws'):Wtr wb ws' M:=e▸h
theorem Q4(wb n k:Nat)(ws:LN)(M A:Mem)(hW:Wtr wb ws M)(hn:n < 18446744073709551616)(hk:k<=8)(hl:ws.length<=1099511627776):FnX Tryz.prog 40 [(vP wb),.int .u64 ((n:Nat):Int),(vI k)] M A λ q M J=>q=(vP wb)∧Wtr wb (ws++beN n k) M:=by
 obtain ⟨⟨v,B,rfl,hsl⟩,hlt⟩:=hW;haveI:=hsl.cel;refine Cl (N:=33) Tryz.func40 E E E λ w_=>?_;refine A9 (D6 0 1 2) (A1 (as_ (A0 (D6 0 1 2) (A4 (A1 (mv_ ?_))))));refine A2 (D7 ((k:Int) - 1) E E (W5 E qO qO)) E ?_;refine as_ (A0 (D6 0 1 7) (A8 ?_));refine E5 (α:=Nat×Value×Mem) (λ x=>[(0,(vP wb)),(1,.int .u64 ((n:Nat):Int)),(7,.int .i64 ((k:Int) - 1 - (x.1:Int)))]) (λ x=>(wb,blk [x.2.1] 111)::x.2.2) (λ _=>[]) (λ x=>x.1<=k∧Sl 1 x.2.1 (ws++bes n k x.1).length (nums .u8 (ws++bes n k x.1)) x.2.2) (λ x=>k - x.1) ⟨0,v,B⟩ ⟨Am _,by simpa [bes] using hsl⟩ (kq 0 (kq 1 (kp 7 (by simp; rfl) kn))) .rfl qI ?_;clear hsl;rintro ⟨x,v,B⟩ ⟨hx,hsl⟩;dsimp only at hx hsl ⊢;haveI:=hsl.cel;have hbl:=B2L n k x;have hll:(ws++bes n k x).length=ws.length+x:=by rw [An,hbl]
 refine A4 (A1 (mv_ ?_));refine A2 (F0 E E E) E ?_;refine mv_ ?_;refine X3 (t:=12) E (λ hb=>?_) (λ hb=>?_)
 .
  have hltx:x < k:=by simp at hb; omega
  obtain ⟨m,hm,hm2⟩:∃ m:Nat,((k:Int) - 1 - (x:Int))=(m:Int)∧m=k - 1 - x:=⟨k - 1 - x,by omega,E⟩
  rw [hm];refine F3 E E (Cn qm_ E ?_);refine F3 E E (Cn (F5 true E E (ltT qO)) E ?_);refine A2 (G8 E E) E ?_;refine A0 (D8 0 1 7 15) ?_;refine E1 E ?_;refine A6 (nx (D6 0 1 7) (A4 (A8 ?_)));refine H7 [0,1,2,3,4,5,6,7,8,9,10,12,13] (zp 0 [0,0,0,0,1,0,0,0,0,0,2,2,0,0,2]) kR kR λ hs=>?_;refine fm_ hs ?_;refine fm_ hs ?_;refine C8 hs E (E7 E) E ?_;refine C8 hs E (qf_ 0 0) E ?_;refine F9 hs E ql_ E ?_;refine fm_ hs ?_;refine fm_ hs ?_;refine C8 hs E (A03 (a:=8) E E E E qO) E ?_;refine C8 hs E (A3b (a:=n) (b:=8 * m) E E E E (by show _<=64; omega)) E ?_;refine C8 hs E (A04 E kR) E ?_
  refine B4M E E λ _=>(C5 (e:=5) (sz:=1) (z:=[.int .u8 0]) kR (eS E e0) (bdS 0 1 E qR bd0) E λ b28=>?_)
  refine G1 E E E (H5 (e:=5) (sz:=1) (by_:=1) E E kR E (by first | assumption | exact Sl.nil) (Co (n:=1) Cc qR) (by first | (simp [Value.oneCell']; done) | (intro c hc; simp only [List.mem_singleton] at hc; subst hc; first | exact Rd.one (by assumption) | exact Sl.one (by assumption))) qP (by unfold maxLen; omega) qO E λ v29 B29 hs29=>?_);refine C8 hs E (E7 E) E ?_;refine C8 hs E (qf_ 0 0) E ?_;refine G1 E E E (E4 E E hs29.one kR Cq Cs ?_);refine R9 (nb (nx (D6 0 1 7) (C2 (mv_ ?_))));refine A2 (D7 ((m:Int) - 1) E E (W5 E qO qO)) E ?_;refine as_ (C6 ?_);exact rn ⟨x+1,v29,B29⟩ ⟨by dsimp only; omega,by dsimp only; rw [B52,<- Ap,<- hm2]; exact W6 hs29 (by simp only [List.length_append,List.length_singleton]) (by simp [nums])⟩ (by dsimp only; omega) (kq 0 (kq 1 (kp 7 (by dsimp only; rw [show ((k:Int) - 1 - ((x+1:Nat):Int))=(m:Int) - 1 by omega]; rfl) kn))) (Ch (B:=[_]) qP (Cf qP)) (λ _ h=>by first | exact h | cases h)
 .
  have hge:x=k:=by simp at hb; omega
  subst hge;refine K3 E E E E ?_;refine K3 E E E E ?_;refine A2 (F2 E E) E ?_;refine A0 (D8 0 1 7 15) ?_;refine C9 E ?_;refine D9 (te (re (be E (nx (D5 0) (A1 (mv_ (as_ (A0 (D5 6) ?_))))))));refine C0 ?_;exact ⟨_,(wb,blk [v] 111)::B,[],I0 E E,Cg (Cf qP),E,⟨⟨v,B,E,hsl⟩,B7D hlt (C1Y n x)⟩⟩
theorem N0(wb:Nat)(p:Value)(w ws:LN)(M A:Mem)(hW:Wtr wb ws M)(hp:By A p w)(hl:ws.length<=1099511620000):FnX Tryz.prog 41 [(vP wb),p] M A λ q M J=>q=(vP wb)∧Wtr wb (ws++beN w.length 4++w) M:=by
 haveI:=hp.cel;have hpl:=hp.len;refine Cl (N:=20) Tryz.func41 E E E λ w_=>?_;refine A9 (D2 0 1) (A1 (as_ (A0 (D2 0 1) (A1 (mv_ (mv_ ?_))))));refine A2 (G6 (sz:=1) E kR hp.rd) E ?_;refine A2 (B0I E kR) E ?_;rw [Af (show w.length < 18446744073709551616 by omega)];refine A3 E (D0 (Mc:=_) (R:=_) (aS E (aS E (aS E (a0)))) kR qP (Q4 wb w.length 4 ws _ _ hW qO qD qO) E ?_);rintro v9 M9 J9 ⟨rfl,hW9⟩;obtain ⟨⟨v,B,rfl,hsl⟩,hlt⟩:=hW9;haveI:=hsl.cel;have hbl:=K4 w.length 4;have hll:(ws++beN w.length 4).length=ws.length+4:=by rw [An,hbl]
 refine A0 (D2 0 1) (A1 (mv_ (mv_ ?_)));refine A2 (E7 E) E ?_;refine A2 (qf_ 0 0) E ?_;refine A2 ql_ E ?_;refine mv_ ?_;refine A3 E (H5 (e:=5) (sz:=1) (by_:=1) E E kR E hsl (hp.rd.mono qS) E9 qP (by unfold maxLen; omega) qO E λ v16 B16 hs16=>?_);refine A2 (E7 E) E ?_;refine A2 (qf_ 0 0) E ?_;refine A3 E (E4 E E hs16.one kR Cq Cs ?_);refine A0 (D5 0) (A1 (mv_ (as_ (A0 (D5 4) (C0 ?_)))));exact ⟨_,(wb,blk [v16] 111)::B16,[],I0 E E,Cg (Ch (B:=[_]) qP (Cf qP)),E,⟨⟨v16,B16,E,W6 hs16 (by simp only [List.length_append]) (by simp [nums])⟩,B7D hlt hp.lt⟩⟩
theorem A0g(wb:Nat)(ws:LN)(M A:Mem)(hW:Wtr wb ws M)(hl:ws.length<=16777216):FnX Tryz.prog 42 [(vP wb)] M A λ q M J=>Wtr wb ws M∧By J q ws:=by obtain ⟨⟨v,B,rfl,hsl⟩,hlt⟩:=hW;haveI:=hsl.cel;refine Cl (N:=8) Tryz.func42 E E E λ w_=>?_;refine A9 (D5 0) (A1 (as_ (A0 (D5 0) (A1 (mv_ ?_)))));refine A2 (E7 E) E ?_;refine A2 (qf_ 0 0) E ?_;refine A2 ql_ E ?_;refine A3 E (H5 (e:=5) (sz:=1) (by_:=1) E E kR E Sl.nil (hsl.rd qS) E9 qP (by unfold maxLen; omega) qO E λ v7 B7 hs7=>?_);refine as_ (A0 (D5 2) (C0 ?_));exact ⟨_,(wb,blk [v] 111)::B,B7,I0 E E,Ch qP (Cf qP),⟨⟨v,B,E,hsl⟩,hlt⟩,⟨by simpa using hs7.rd (R:=B7) qS,hlt,hl⟩⟩

def A9b(n:Nat)(w:LN):LN:=beN 6 4++[112,114,101,107,101,121]++beN n 4++(beN w.length 4++w)
theorem B9v(h:n < 4294967296):IntKind.u64.wrap (n:Int)=(n:Int):=A3l qO qO
theorem B9w{e:TypeId}{fr:Nat×Nat}(hm:(b,Obj.cells (nums .u8 w).toArray e fr)∈R)(hn:w.length=n)(hlt:∀ x∈w,x < 256)(hl:w.length<=16777216):By R (.slice (some ⟨b,0,none⟩) n n) w:=by subst hn;exact ⟨Co (n:=w.length) hm qM,hlt,hl⟩
theorem A7f(n:Nat)(v:Value)(w:LN)(A:Mem)(hn:n < 4294967296)(hv:By A v w)(hl:w.length<=1000000):FnX Tryz.prog 67 [(vU n),v] [] A λ q M J=>M=[]∧By J q (A9b n w):=by haveI:=hv.cel;refine Cl (N:=18) Tryz.func67 E E E λ w_=>?_;refine A9 (D2 0 1) (A1 (as_ (A0 (D2 0 1) (A1 ?_))));refine A2 (F1 (place:=λ x=>#[(0,1)][x]?) (z:=[vS]) (λ _=>by kernel_rfl) e0 bd0) E ?_;refine A3 E (bx_ λ b7=>?_);refine as_ (A0 (D6 0 1 5) (A1 (mv_ ?_)));refine A3 E (C5 (e:=5) (sz:=1) (z:=[zu8,zu8,zu8,zu8,zu8,zu8]) kR (eS E (eS E (eS E (eS E (eS E (eS E e0)))))) (bdS 0 1 E qR (bdS 1 1 E qR (bdS 2 1 E qR (bdS 3 1 E qR (bdS 4 1 E qR (bdS 5 1 E qR bd0)))))) E λ b9=>?_);refine A3 E (A3N E kR Cs E ?_);refine A3 E (D0 (Mc:=[(b7,blk [vS] 111)]) (R:=_) (aS E (aS E (a0))) kR qP (N0 b7 _ [112,114,101,107,101,121] [] _ _ Wtr.new (B9w Cc qR qD qD) qD) E ?_);rintro v11 M11 J11 ⟨rfl,hW11⟩;refine mv_ ?_;refine A2 (K6 (k':=.u64) n E kR (B9v qO)) E ?_;refine A3 E (D0 (Mc:=M11) (R:=_) (aS E (aS E (aS E (a0)))) kR qP (Q4 b7 n 4 _ _ _ hW11 qO qD (by simp [K4])) E ?_);rintro v14 M14 J14 ⟨rfl,hW14⟩;refine mv_ ?_;refine A3 E (D0 (Mc:=M14) (R:=_) (aS E (aS E (a0))) kR qP (N0 b7 v w _ _ _ hW14 (hv.mono qS) (by simp [K4])) E ?_);rintro v16 M16 J16 ⟨rfl,hW16⟩;refine A3 E (D0 (Mc:=M16) (R:=_) (aS E (a0)) kR qP (A0g b7 _ _ _ hW16 (by simp [K4]; omega)) E ?_);rintro v17 M17 J17 ⟨hW17,hb17⟩;haveI:=hb17.cel;refine as_ (A0 (D5 4) (C0 ?_));exact ⟨_,[],[],I0 E E,qZ,E,by simpa [A9b,List.append_assoc] using hb17.mono qS⟩

theorem B2M{P:Program}{f:FuncId}{args:List Value}{A':Mem}(h:FnV P f args A v)(hs:∀ x,x∈A->x∈A'):FnV P f args A' v:=by
  intro w hw;refine Calls.mono (h w ⟨hw.os,hw.tape,hw.output,hw.size,hw.frame,λ b o hb=>hw.mem b o (by simpa using hs _ (by simpa using hb)),hw.nodup,hw.own,hw.sepJ,λ b o hb=>hw.sepA b o (hs _ hb),hw.old⟩) ?_;rintro e w' ⟨r,M',J',rfl,⟨rfl,rfl,rfl⟩,h2⟩;refine ⟨_,[],[],E,⟨E,E,E⟩,⟨h2.os,h2.tape,h2.output,h2.size,h2.frame,λ b o hb=>?_,h2.nodup,h2.own,h2.sepJ,λ b o hb=>hw.sepA b o hb,h2.old⟩⟩;have hb':(b,o)∈A':=by simpa using hb
  have h3:=h2.frame b (hw.sepA b o hb').2 qM;rw [h3];exact hw.mem b o (by simpa using hb')
structure Pr where
  n:Nat
  sec:LN
  sig:LN
structure Nm where
  n:Nat
  id:LN
def prR(R:Mem)(x:Pr)(r:List Value):Prop:=∃ vs vg,r=[(vU x.n),vs,vg]∧By R vs x.sec∧By R vg x.sig∧x.n < 4294967296
theorem prT:RowT 3 prR:=⟨λ R R' x r hR ⟨vo,vk,h1,h2,h3,h4⟩=>⟨vo,vk,h1,h2.mono hR,h3.mono hR,h4⟩,λ R x r ⟨vo,vk,h1,_⟩=>by rw [h1]; rfl,λ R x r ⟨vo,vk,h1,h2,h3,_⟩ c hc=>by
  rw [h1] at hc;simp only [List.mem_cons,List.not_mem_nil,or_false] at hc;rcases hc with rfl | rfl | rfl
  . rfl
  . exact h2.one
  . exact h3.one⟩
def nmR(R:Mem)(x:Nm)(r:List Value):Prop:=∃ vi,r=[(vU x.n),vi]∧By R vi x.id∧x.n < 4294967296
theorem nmT:RowT 2 nmR:=⟨λ R R' x r hR ⟨vi,h1,h2,h4⟩=>⟨vi,h1,h2.mono hR,h4⟩,λ R x r ⟨vi,h1,_⟩=>by rw [h1]; rfl,λ R x r ⟨vi,h1,h2,_⟩ c hc=>by
  rw [h1] at hc;simp only [List.mem_cons,List.not_mem_nil,or_false] at hc;rcases hc with rfl | rfl
  . rfl
  . exact h2.one⟩
theorem eq32(a b:Nat):I8 .eql .u32 ((a:Nat):Int) ((b:Nat):Int)=some (.bool (decide (a=b))):=by
  by_cases h:a=b
  . rw [decide_eq_true h]; exact eqT qO
  . rw [decide_eq_false h]; exact eqF qO
theorem A47(v:Value)(rows:List (List Value))(f:FuncId)(cs:List Value)(p:Nat->Bool)(A:Mem)(hv:Rd A 3 v rows.length rows.flatten)(hl:∀ r∈rows,r.length=3)(hn:rows.length<=1099511627776)(hc_:L0 Tryz.prog f=true)(hf:∀ (j:Nat) (r:List Value),rows[j]? = some r->FnV Tryz.prog f (.agg r.toArray::cs) A (.bool (p j))):FnV Tryz.prog 105 [v,.func (.func f) #[] cs.toArray] A (.int .i64 (A65 p rows.length)):=by
 haveI:=hv.cel;refine Ck (N:=19) Tryz.func105 E E E λ w=>?_;refine A9 (D2 0 1) (A1 (as_ (A0 (D2 0 1) (A4 (A1 (mv_ ?_))))));refine A2 (G6 (sz:=3) E kR hv) E ?_;refine mv_ (A0 (D8 0 1 7 8) (A8 ?_));refine E5 (α:=Nat) (λ i=>[(0,v),(1,.func (.func f) #[] cs.toArray),(7,(vI rows.length)),(8,.int .i64 (i:Int))]) (λ _=>[]) (λ _=>[]) (λ i=>i<=rows.length∧∀ j,j < i->p j=false) (λ i=>rows.length - i) 0 ⟨Am _,λ j h=>absurd h (Nat.not_lt_zero j)⟩ (D8 0 1 7 8) .rfl qI ?_;rintro i ⟨hi,hp⟩;refine A1 ?_;refine A2 (F0 E E E) E ?_;refine A0 (E8 0 1 7 8 9) (A4 ?_);refine C4 E ?_ ?_ <;> intro hc
 .
  have hlt:i < rows.length:=by simp at hc; omega
  obtain ⟨r,hr⟩:∃ r,rows[i]? = some r:=⟨_,Ab hlt⟩
  refine A6 (nx (D8 0 1 7 8) (A4 (A8 (A1 (mv_ (as_ (A0 (E8 0 1 5 7 8) (A1 ?_))))))));refine mv_ (mv_ (mv_ ?_));refine A2 (H4 (sz:=3) E E kR E hv hlt) E ?_;refine A2 (A0K E kR (hv.mono qS) hl qD hr) E ?_;refine A3 E (A1C E (aS E a0) hc_ (hf i r hr) E ?_);refine A0 (H1 0 1 5 7 8 16) ?_;refine C4 E ?_ ?_ <;> intro hc
  . refine A1 (mv_ (as_ (A0 (D5 4) (C0 (br (tr (rr (br ?_))))))));refine tr ?_;exact ⟨_,[],[],I0 E E,Aa _,by simp,by rw [A1n hlt hp hc],E,E⟩
  . refine A6 (nb (nx (D8 0 1 7 8) (C2 ?_)));refine A2 (K7 (b:=1) E E E E qO) E ?_;refine mv_ (C6 ?_);exact rn (i+1) ⟨hlt,λ j hj=>by rcases Nat.lt_succ_iff_lt_or_eq.1 hj with h | h; exact hp j h; rw [h]; exact hc⟩ qO (D8 0 1 7 8) .rfl qI
 .
  have hge:i=rows.length:=by simp at hc; omega
  subst hge;refine D9 (te (re (be E (nx kn (A1 (as_ (A0 (D5 4) ?_)))))));refine C0 ?_;exact ⟨_,[],[],I0 E E,Aa _,by simp,by rw [A1o hp],E,E⟩
theorem A97(v:Value)(rows:List (List Value))(f:FuncId)(cs:List Value)(p:Nat->Bool)(A:Mem)(hv:Rd A 2 v rows.length rows.flatten)(hl:∀ r∈rows,r.length=2)(hn:rows.length<=1099511627776)(hc_:L0 Tryz.prog f=true)(hf:∀ (j:Nat) (r:List Value),rows[j]? = some r->FnV Tryz.prog f (.agg r.toArray::cs) A (.bool (p j))):FnV Tryz.prog 104 [v,.func (.func f) #[] cs.toArray] A (.int .i64 (A65 p rows.length)):=by
 haveI:=hv.cel;refine Ck (N:=19) Tryz.func104 E E E λ w=>?_;refine A9 (D2 0 1) (A1 (as_ (A0 (D2 0 1) (A4 (A1 (mv_ ?_))))));refine A2 (G6 (sz:=2) E kR hv) E ?_;refine mv_ (A0 (D8 0 1 7 8) (A8 ?_));refine E5 (α:=Nat) (λ i=>[(0,v),(1,.func (.func f) #[] cs.toArray),(7,(vI rows.length)),(8,.int .i64 (i:Int))]) (λ _=>[]) (λ _=>[]) (λ i=>i<=rows.length∧∀ j,j < i->p j=false) (λ i=>rows.length - i) 0 ⟨Am _,λ j h=>absurd h (Nat.not_lt_zero j)⟩ (D8 0 1 7 8) .rfl qI ?_;rintro i ⟨hi,hp⟩;refine A1 ?_;refine A2 (F0 E E E) E ?_;refine A0 (E8 0 1 7 8 9) (A4 ?_);refine C4 E ?_ ?_ <;> intro hc
 .
  have hlt:i < rows.length:=by simp at hc; omega
  obtain ⟨r,hr⟩:∃ r,rows[i]? = some r:=⟨_,Ab hlt⟩
  refine A6 (nx (D8 0 1 7 8) (A4 (A8 (A1 (mv_ (as_ (A0 (E8 0 1 5 7 8) (A1 ?_))))))));refine mv_ (mv_ (mv_ ?_));refine A2 (H4 (sz:=2) E E kR E hv hlt) E ?_;refine A2 (A0K E kR (hv.mono qS) hl qD hr) E ?_;refine A3 E (A1C E (aS E a0) hc_ (hf i r hr) E ?_);refine A0 (H1 0 1 5 7 8 16) ?_;refine C4 E ?_ ?_ <;> intro hc
  . refine A1 (mv_ (as_ (A0 (D5 4) (C0 (br (tr (rr (br ?_))))))));refine tr ?_;exact ⟨_,[],[],I0 E E,Aa _,by simp,by rw [A1n hlt hp hc],E,E⟩
  . refine A6 (nb (nx (D8 0 1 7 8) (C2 ?_)));refine A2 (K7 (b:=1) E E E E qO) E ?_;refine mv_ (C6 ?_);exact rn (i+1) ⟨hlt,λ j hj=>by rcases Nat.lt_succ_iff_lt_or_eq.1 hj with h | h; exact hp j h; rw [h]; exact hc⟩ qO (D8 0 1 7 8) .rfl qI
 .
  have hge:i=rows.length:=by simp at hc; omega
  subst hge;refine D9 (te (re (be E (nx kn (A1 (as_ (A0 (D5 4) ?_)))))));refine C0 ?_;exact ⟨_,[],[],I0 E E,Aa _,by simp,by rw [A1o hp],E,E⟩
theorem Q1(v:Value)(w:LN)(A:Mem)(h:By A v w):FnX Tryz.prog 24 [v] [] A λ r M J=>M=[]∧By J r w:=by
 haveI:=h.cel;have hwl:=h.len;refine Cl (N:=8) Tryz.func24 E E E λ w_=>?_;refine A9 (D5 0) (A1 (as_ (A0 (D5 0) (A4 (A1 (mv_ ?_))))));refine A2 (A1h (e:=5) E kR (by first | assumption | exact Sl.rd (by assumption) qI | exact By.rd (by assumption))) E ?_;refine A0 (D2 0 4) ?_;refine C4 E ?_ ?_ <;> intro hc
 . have h0:=h.rd.isNil hc;obtain rfl:w=[]:=Bd h0;refine A1 (as_ (A0 (D5 2) (C0 (tr ?_))));exact ⟨_,[],[],I0 E E,qZ,E,By.nil⟩
 . refine A6 (nx (D5 0) (A1 ?_));refine A3 E (C5 (e:=5) (sz:=1) (z:=[]) kR e0 bd0 E λ b5=>?_);refine mv_ ?_;refine A3 E (H5 (e:=5) (sz:=1) (by_:=1) E E kR E (Sl.fresh (n:=0) (cs:=[]) (e:=5) E qD) (h.rd.mono qS) E9 qP (by unfold maxLen; omega) qO E λ v7 B7 hs7=>?_);refine as_ (A0 (D5 2) (C0 ?_));exact ⟨_,[],B7,I0 E E,Ch qP qZ,E,⟨A0x (hs7.rd λ x hx=>by simp [hx]) qO qM,h.lt,h.len⟩⟩
theorem A0u(va vb:Value)(a b:LN)(A:Mem)(ha:By A va a)(hb:By A vb b):FnV Tryz.prog 29 [va,vb] A (.bool (decide (a=b))):=by haveI:=ha.cel;haveI:=hb.cel;refine Ck (N:=10) Tryz.func29 E E E λ w=>?_;refine A9 (D2 0 1) (A1 (as_ (A0 (D2 0 1) (A1 (mv_ ?_)))));refine A2 (N5 E kR (ha.rd.mono qS)) E ?_;refine mv_ ?_;refine A2 (N5 E kR (hb.rd.mono qS)) E ?_;refine A2 (C0Y E E E E ha.lt hb.lt) E ?_;refine as_ (A0 (D5 4) (C0 ?_));exact ⟨_,[],[],I0 E E,Aa _,by simp,E,E,E⟩
theorem B6a{k:IntKind}(c:Int):I8 .geq k c 0=some (.bool (decide (0<=c))):=by
  by_cases h:0<=c
  . rw [decide_eq_true h]; exact geT h
  . rw [decide_eq_false h]; exact geF qO
theorem A5X(v:Value)(rows:List (List Value))(f:FuncId)(cs:List Value)(p:Nat->Bool)(A:Mem)(hv:Rd A 3 v rows.length rows.flatten)(hl:∀ r∈rows,r.length=3)(hn:rows.length<=1099511627776)(hc_:L0 Tryz.prog f=true)(hf:∀ (j:Nat) (r:List Value),rows[j]? = some r->FnV Tryz.prog f (.agg r.toArray::cs) A (.bool (p j))):FnV Tryz.prog 70 [v,.func (.func f) #[] cs.toArray] A (.bool (decide (0<=A65 p rows.length))):=by haveI:=hv.cel;refine Ck (N:=9) Tryz.func70 E E E λ w=>?_;refine A9 (D2 0 1) (A1 (as_ (A0 (D2 0 1) (A1 (mv_ (mv_ ?_))))));refine E6 (aS E (aS E a0)) kR (A47 v rows f cs p _ (hv.mono qS) hl hn hc_ (λ j r hr=>B2M (hf j r hr) qS)) E ?_;refine A2 (F5 (decide (0<=A65 p rows.length)) E E (B6a _)) E ?_;refine as_ (A0 (D5 4) (C0 ?_));exact ⟨_,[],[],I0 E E,Aa _,by simp,E,E,E⟩
theorem A98(vs vg:Value)(x:Pr)(n b:Nat)(A:Mem)(hs:By A vs x.sec)(hg:By A vg x.sig)(hb:(b,blk [(vU n)] 31)∈A):FnV Tryz.prog 127 [.agg #[(vU x.n),vs,vg],(vP b)] A (.bool (decide (x.n=n))):=by haveI:=hs.cel;haveI:=hg.cel;refine Ck (N:=8) Tryz.func127 E E E λ w=>?_;refine A9 (D2 0 1) (A1 ?_);refine A3 E (bx_ λ b2=>?_);refine as_ (A0 (D2 1 2) (A1 ?_));refine A2 (qf_ 0 0) E ?_;refine A2 ql_ E ?_;refine A2 (I2 E kR (mA hb) qR) E ?_;refine A2 (F5 (decide (x.n=n)) E E (eq32 _ _)) E ?_;refine as_ (A0 (D5 3) (C0 ?_));exact ⟨_,[],[],I0 E E,Aa _,by simp,E,E,E⟩
theorem A70(vs vg vi:Value)(x:Pr)(n b:Nat)(A:Mem)(hs:By A vs x.sec)(hg:By A vg x.sig)(hvi:Cel vi [vi])(hb:(b,blk [(vU n),vi] 154)∈A):FnV Tryz.prog 71 [.agg #[(vU x.n),vs,vg],(vP b)] A (.bool (decide (x.n=n))):=by haveI:=hs.cel;haveI:=hg.cel;refine Ck (N:=9) Tryz.func71 E E E λ w=>?_;refine A9 (D2 0 1) (A1 ?_);refine A3 E (bx_ λ b2=>?_);refine as_ (A0 (D2 1 2) (A1 ?_));refine A2 (qf_ 0 0) E ?_;refine A2 ql_ E ?_;refine A2 (qf_ 0 0) E ?_;refine A2 (I2 E kR (mA hb) qR) E ?_;refine A2 (F5 (decide (x.n=n)) E E (eq32 _ _)) E ?_;refine as_ (A0 (D5 3) (C0 ?_));exact ⟨_,[],[],I0 E E,Aa _,by simp,E,E,E⟩

structure Ks where
  user:Int
  dev:Int
  agree:LN
  sign:LN
  signed:List Pr
  once:List Pr
  next:Nat
  met:List Nm
def A4x(n:Nat)(x:Pr):Bool:=decide (x.n=n)
def A4H(l:List Pr)(n:Nat):Option (LN):=if V6 (A4x n) l < 0 then none else (l[(V6 (A4x n) l).toNat]?).map (·.sec)
variable{l:List Pr}
theorem A5Y(h:V6 (A4x n) l = -1):A4H l n=none:=if_pos (by rw [h]; decide)
theorem A0c{i:Nat}{x:Pr}(h:V6 (A4x n) l=(i:Int))(hx:l[i]? = some x):A4H l n=some x.sec:=by unfold A4H; rw [h,if_neg qO,Int.toNat_natCast,hx]; rfl
structure KyR(R:Mem)(kb:Nat)(k:Ks)(va vg vs vo vm:Value)(rs ro rm:List (List Value)):Prop where
  blk_:(kb,blk [.int .i64 k.user,.int .i64 k.dev,va,vg,vs,vo,(vU k.next),vm] 87)∈R
  agree:By R va k.agree
  sign:By R vg k.sign
  signed:Rd R 3 vs k.signed.length rs.flatten
  signedR:RwL prR R rs k.signed
  once:Rd R 3 vo k.once.length ro.flatten
  onceR:RwL prR R ro k.once
  met:Rd R 2 vm k.met.length rm.flatten
  metR:RwL nmR R rm k.met
  next:k.next < 4294967296
  l1:k.signed.length<=1000000
  l2:k.once.length<=1000000
  l3:k.met.length<=1000000
theorem KyR.mono{R R':Mem}{kb:Nat}{k:Ks}{va vg vs vo vm:Value}{rs ro rm:List (List Value)}(h:KyR R kb k va vg vs vo vm rs ro rm)(hR:∀ x,x∈R->x∈R'):KyR R' kb k va vg vs vo vm rs ro rm :=
  ⟨hR _ h.blk_,h.agree.mono hR,h.sign.mono hR,h.signed.mono hR,h.signedR.mono prT hR,h.once.mono hR,h.onceR.mono prT hR,h.met.mono hR,h.metR.mono nmT hR,h.next,h.l1,h.l2,h.l3⟩
theorem B2N{rows:List (List Value)}(hR:RwL prR A rows l)(hb:(b,blk [(vU n)] 31)∈A) :
    ∀ (j:Nat) (r:List Value),rows[j]? = some r->FnV Tryz.prog 127 (.agg r.toArray::[(vP b)]) A (.bool ((λ j=>(l[j]?.map (A4x n)).getD false) j)):=λ j r hr=>by
  obtain ⟨x,hx,vs,vg,rfl,hs,hg,_⟩:=hR.of hr;dsimp only;rw [hx];exact A98 vs vg x n b _ hs hg hb
theorem C1Z(v:Value)(rows:List (List Value))(l:List Pr)(n:Nat)(A:Mem)(hv:Rd A 3 v l.length rows.flatten)(hR:RwL prR A rows l)(hl:l.length<=1000000):FnX Tryz.prog 89 [v,(vU n)] [] A λ r M J=>M=[]∧∃ q,r=.tuple #[q,.bool (A4H l n).isSome]∧By J q ((A4H l n).getD []):=by
 haveI:=hv.cel;refine Cl (N:=18) Tryz.func89 E E E λ w_=>?_;refine A9 (D2 0 1) (A1 ?_);refine A3 E (bx_ λ b3=>?_);refine as_ (as_ (A0 (D2 0 3) (A1 (mv_ ?_))));refine A2 (A3z (aS E a0)) E ?_;refine E6 (aS E (aS E a0)) kR (A47 v rows 127 [(vP b3)] (λ j=>(l[j]?.map (A4x n)).getD false) _ (by rw [hR.len]; exact hv.mono qS) (hR.lens prT) (by rw [hR.len]; omega) kR (B2N (hR.mono prT qS) Cc)) E ?_;rw [hR.len,show A65 (λ j=>(l[j]?.map (A4x n)).getD false) l.length=V6 (A4x n) l from rfl];refine as_ (A0 (D2 0 6) (A4 (A1 (mv_ ?_))));refine A2 (F0 E E E) E ?_;refine A0 (D6 0 6 11) ?_;refine C4 E ?_ ?_ <;> intro hc
 .
  have hf:V6 (A4x n) l = -1:=by
   obtain ⟨hf,hz⟩ | ⟨i,x,hf,hxi,hq,hmin⟩:=P0 (A4x n) l
   . exact hf
   . rw [hf] at hc; (simp at hc) <;> omega
  refine A1 (as_ (as_ (A0 (D2 4 5) (C0 (tr ?_)))));exact ⟨_,[],[],A1s E E E,qZ,E,_,by rw [A5Y hf]; rfl,by rw [A5Y hf]; exact By.nil⟩
 .
  obtain ⟨hf,hz⟩ | ⟨i,x,hf,hxi,hq,hmin⟩:=P0 (A4x n) l
  . rw [hf] at hc; simp at hc
  have hil:=(Ac.1 hxi).1;rw [hf];obtain ⟨r,hr,vs,vg,rfl,hs,hg,hxn⟩:=hR.get i x hxi;haveI:=hs.cel;refine A6 (nx (D2 0 6) (A1 (mv_ (mv_ ?_))));refine A2 (H4 (sz:=3) E E kR E hv hil) E ?_;refine A2 (B1j (off:=1) E hv hil kR) E ?_;refine A2 (B1k (u:=vs) E (hv.mono qS) qO kR (by rw [A3m (hR.lens prT) hr 1 qD]; rfl)) E ?_;refine C7 (aS E a0) kR (Q1 vs x.sec _ (hs.mono qS)) E ?_;rintro v17 M17 J17 ⟨rfl,h17⟩;haveI:=h17.cel;refine as_ (as_ (A0 (D2 4 5) (C0 ?_)));exact ⟨_,[],[],A1s E E E,qZ,E,_,by rw [A0c hf hxi]; rfl,by rw [A0c hf hxi]; exact h17.mono qS⟩
theorem B6b(kb:Nat)(k:Ks)(va vg vs vo vm:Value)(rs ro rm:List (List Value))(n:Nat)(A:Mem)(hK:KyR A kb k va vg vs vo vm rs ro rm):FnX Tryz.prog 57 [(vP kb),(vU n)] [] A λ r M J=>M=[]∧∃ q,r=.tuple #[q,.bool (A4H k.signed n).isSome]∧By J q ((A4H k.signed n).getD []):=by have hkb:=hK.blk_;haveI:=hK.agree.cel;haveI:=hK.sign.cel;haveI:=hK.signed.cel;haveI:=hK.once.cel;haveI:=hK.met.cel;refine Cl (N:=16) Tryz.func57 E E E λ w_=>?_;refine A9 (D2 0 1) (A1 (as_ (as_ (A0 (D2 0 1) (A4 (A1 (mv_ ?_)))))));refine A2 (F6 (e:=87) E E kR) E ?_;refine A0 (D6 0 1 7) ?_;refine C9 E ?_;refine A6 (nx (D2 0 1) (A1 (mv_ ?_)));refine A2 (E7 E) E ?_;refine A2 (qf_ 4 4) E ?_;refine A2 (I2 E kR (mA hkb) qR) E ?_;refine mv_ ?_;refine C7 (aS E (aS E a0)) kR (C1Z vs rs k.signed n _ (hK.signed.mono qS) (hK.signedR.mono prT qS) hK.l1) E ?_;rintro r13 M13 J13 ⟨rfl,q,rfl,hq⟩;haveI:=hq.cel;refine A2 (Y8 E) E ?_;refine A2 (Y4 E) E ?_;refine as_ (as_ (A0 (D2 4 5) (C0 ?_)));exact ⟨_,[],[],A1s E E E,qZ,E,_,E,hq.mono qS⟩
theorem C10(kb:Nat)(k:Ks)(va vg vs vo vm:Value)(rs ro rm:List (List Value))(A:Mem)(hK:KyR A kb k va vg vs vo vm rs ro rm):FnV Tryz.prog 19 [(vP kb)] A (.agg #[.int .i64 k.user,.int .i64 k.dev]):=by have hkb:=hK.blk_;haveI:=hK.agree.cel;haveI:=hK.sign.cel;haveI:=hK.signed.cel;haveI:=hK.once.cel;haveI:=hK.met.cel;refine Ck (N:=10) Tryz.func19 E E E λ w=>?_;refine A9 (D5 0) (A1 ?_);refine A3 E (C3 (cs:=[.int .i64 0,.int .i64 0]) kR E λ b2=>?_);refine A0 (D2 0 2) (A4 (A1 (mv_ ?_)));refine A2 (F6 (e:=87) E E kR) E ?_;refine A0 (D6 0 2 4) ?_;refine C9 E ?_;refine A6 (nx (D2 0 2) (A1 (mv_ ?_)));refine A2 (E7 E) E ?_;refine A2 (qf_ 0 0) E ?_;refine A2 (I1 (n:=2) E kR (mA hkb) Cr) E ?_;refine A3 E (A7 E E Cd kR ln2 al2 Cs ?_);refine A0 (D5 2) (C0 ?_);exact ⟨_,[],[],A00 E E kR Cc qR,Aa _,by simp,E,E,E⟩
theorem A9c(kb:Nat)(k:Ks)(va vg vs vo vm:Value)(rs ro rm:List (List Value))(A:Mem)(hK:KyR A kb k va vg vs vo vm rs ro rm):FnX Tryz.prog 38 [(vP kb)] [] A λ r M J=>M=[]∧By J r k.agree:=by have hkb:=hK.blk_;haveI:=hK.agree.cel;haveI:=hK.sign.cel;haveI:=hK.signed.cel;haveI:=hK.once.cel;haveI:=hK.met.cel;refine Cl (N:=10) Tryz.func38 E E E λ w_=>?_;refine A9 (D5 0) (A1 (as_ (A0 (D5 0) (A4 (A1 (mv_ ?_))))));refine A2 (F6 (e:=87) E E kR) E ?_;refine A0 (D2 0 4) ?_;refine C9 E ?_;refine A6 (nx (D5 0) (A1 (mv_ ?_)));refine A2 (E7 E) E ?_;refine A2 (qf_ 2 2) E ?_;refine A2 (I2 E kR (mA hkb) qR) E ?_;refine C7 (aS E a0) kR (Q1 va k.agree _ (hK.agree.mono qS)) E ?_;rintro r9 M9 J9 ⟨rfl,h9⟩;haveI:=h9.cel;refine as_ (A0 (D5 2) (C0 ?_));exact ⟨_,[],[],I0 E E,qZ,E,h9.mono qS⟩

end Go.Proofs.YtjkpfgjfpbihaaaGreatDoor
